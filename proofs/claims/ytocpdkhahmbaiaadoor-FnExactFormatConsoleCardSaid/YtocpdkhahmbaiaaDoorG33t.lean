/- Walks, printed by a program of this claim's author. -/
import Derived.Test.YtocpdkhahmbaiaaDoorChecked
import Derived.Test.YtocpdkhahmbaiaaDoorUt
import Derived.Test.YtocpdkhahmbaiaaDoorWb
import Derived.Test.YtocpdkhahmbaiaaDoorFt
import Derived.Test.YtocpdkhahmbaiaaDoorSi
import Derived.Test.YtocpdkhahmbaiaaDoorG33s
namespace Go.Proofs.YtocpdkhahmbaiaaDoor
open Go Go.RowKit Fw
set_option maxRecDepth 10000
set_option linter.unusedVariables false
theorem ent38 : Ent Tryd.prog 38 := ent_of Tryd.func38 (by decide +kernel) rfl
theorem ent48 : Ent Tryd.prog 48 := ent_of Tryd.func48 (by decide +kernel) rfl
theorem fa36_0 : FA Tryd.prog 36 0 0 := fun _ _ => by kernel_rfl
theorem fa36_1 : FA Tryd.prog 36 1 1 := fun _ _ => by kernel_rfl
theorem fa36_2 : FA Tryd.prog 36 2 2 := fun _ _ => by kernel_rfl
theorem sca3 : TSca Tryd.prog 3 := ⟨fun _ => by kernel_rfl, fun _ => by kernel_rfl⟩

theorem z_c_impl_IsValidLog_39 (l : Log) (hp0 : (l.Durable.length : Int) + (l.Pending.length : Int) ≤ 4000000) (n12 : Nat) (hl17 : n12 = ((opN (l.Durable ++ l.Pending)).1).length) (hl18 : (n12 : Int) ≤ 9223372036854775807) (hq19 : (opN (l.Durable ++ l.Pending)).1.length ≤ 60 ∧ (opN (l.Durable ++ l.Pending)).2 ≤ (l.Durable ++ l.Pending).length ∧ (opN (l.Durable ++ l.Pending)).2 ≤ 24360) (n23 : Nat) (hl28 : n23 = ((opN l.Durable).1).length) (hl29 : (n23 : Int) ≤ 9223372036854775807) (hq30 : (opN l.Durable).1.length ≤ 60 ∧ (opN l.Durable).2 ≤ l.Durable.length ∧ (opN l.Durable).2 ≤ 24360) : ((((opN (l.Durable ++ l.Pending)).2 : Int) = ((l.Durable.length : Int) + (l.Pending.length : Int))) ∧ ((((opN l.Durable).2 : Int) = (l.Durable.length : Int)) ∧ (l.Count = (n12 : Int)))) ↔ (LogOK l) := by
  first | assumption | (intro hh; have hh2 := log_rng hh; omega) | (rw [log_iff]; simp only [List.length_append] at *; omega)
theorem c_impl_IsValidLog (w : World) (l : Log) (hp0 : (l.Durable.length : Int) + (l.Pending.length : Int) ≤ 4000000) (hE : EnvW w) : Calls Tryd.prog 18 #[.agg (List.toArray (encLog l))] w fun e w' => e = .returned (.bool (decide (LogOK l))) ∧ Lo w w' := by
  refine calls_W 45 Tryd.func18 rfl rfl rfl ?_
  refine W.seq ?_
  refine W.regS (SR.box (v := .agg (List.toArray _)) (l := [str l.Durable, str l.Pending, .int .i64 l.Count]) rfl rfl ?_)
  intro g1 w2 hg3 hk4 hs5 hb6
  have hz7 := hk4.size
  have hB8 := (Lo.refl w).lo hk4
  refine SR.q' (r_as (v := .bool false) rfl) <| SR.nil ?_
  refine W.seq ?_
  refine W.regS (SR.q' (r_fa fa36_0 rfl) <| SR.q' (r_ld (v := str l.Durable) sca9 rfl ((hb6).cell rfl)) <| SR.q' (r_fa fa36_1 rfl) <| SR.q' (r_ld (v := str l.Pending) sca9 rfl ((hb6).cell rfl)) <| SR.q' (r_cat rfl rfl (by first | omega | (simp only [List.length_append, List.length_cons, List.length_nil, List.length_take, List.length_drop]; omega) | (simp only [List.length_append, List.length_cons, List.length_nil, List.length_take, List.length_drop] at *; omega))) <| SR.call ent38 (c_impl_recovered w2 (l.Durable ++ l.Pending) (by first | omega | (simp only [List.length_append, List.length_cons, List.length_nil, List.length_take, List.length_drop]; omega)) (hE.lo (hB8))) rfl ?_)
  rintro e w9 ⟨A11, n12, c13, rfl, hO14, hk10⟩
  refine ⟨_, rfl, ?_⟩
  have hz15 := hk10.size
  have hB16 := hB8.lo hk10
  have hl17 := hO14.len
  have hl18 := hO14.rd.bound
  have hq19 : (opN (l.Durable ++ l.Pending)).1.length ≤ 60 ∧ (opN (l.Durable ++ l.Pending)).2 ≤ (l.Durable ++ l.Pending).length ∧ (opN (l.Durable ++ l.Pending)).2 ≤ 24360 := opN_len (l.Durable ++ l.Pending)
  refine SR.q' (r_mv (v := .tuple (List.toArray _)) rfl) <| SR.q' (r_ext (v := .slice _ _ _) rfl rfl) <| SR.q' (r_ext (v := .int .i64 _) rfl rfl) <| SR.q' (r_as (v := .slice _ _ _) rfl) <| SR.q' (r_as (v := .int .i64 _) rfl) <| SR.nil ?_
  refine W.seq ?_
  refine W.regS (SR.q' (r_fa fa36_0 rfl) <| SR.q' (r_ld (v := str l.Durable) sca9 rfl (((hb6).lo hk10).cell rfl)) <| SR.call ent38 (c_impl_recovered w9 l.Durable (by first | omega | (simp only [List.length_append, List.length_cons, List.length_nil, List.length_take, List.length_drop]; omega)) (hE.lo (hB16))) rfl ?_)
  rintro e w20 ⟨A22, n23, c24, rfl, hO25, hk21⟩
  refine ⟨_, rfl, ?_⟩
  have hz26 := hk21.size
  have hB27 := hB16.lo hk21
  have hl28 := hO25.len
  have hl29 := hO25.rd.bound
  have hq30 : (opN l.Durable).1.length ≤ 60 ∧ (opN l.Durable).2 ≤ l.Durable.length ∧ (opN l.Durable).2 ≤ 24360 := opN_len l.Durable
  refine SR.q' (r_mv (v := .tuple (List.toArray _)) rfl) <| SR.q' (r_ext (v := .slice _ _ _) rfl rfl) <| SR.q' (r_ext (v := .int .i64 _) rfl rfl) <| SR.q' (r_as (v := .slice _ _ _) rfl) <| SR.q' (r_as (v := .int .i64 _) rfl) <| SR.nil ?_
  refine W.seq ?_
  refine W.regJS (fun f' w' => At f' [(2, .bool (decide ((((opN (l.Durable ++ l.Pending)).2 : Int) = ((l.Durable.length : Int) + (l.Pending.length : Int))) ∧ ((((opN l.Durable).2 : Int) = (l.Durable.length : Int)) ∧ (l.Count = (n12 : Int))))))] ∧ Lo w20 w') ?_ ?_
  · refine SR.q' (r_mv (v := .int .i64 _) rfl) <| SR.q' (r_fa fa36_0 rfl) <| SR.q' (r_ld (v := str l.Durable) sca9 rfl ((((hb6).lo hk10).lo hk21).cell rfl)) <| SR.q' (r_len_s und9 rfl) <| SR.q' (r_fa fa36_1 rfl) <| SR.q' (r_ld (v := str l.Pending) sca9 rfl ((((hb6).lo hk10).lo hk21).cell rfl)) <| SR.q' (r_len_s und9 rfl) <| SR.q' (r_add rfl rfl (by omega)) <| SR.q' (r_eq rfl rfl) <| SR.q' (r_mv (v := .bool _) rfl) <| SR.splitD (fun h31 => ?_) (fun h31 => ?_)
    · refine SR.g' rfl (r_mv (v := .int .i64 _) rfl) <| SR.g' rfl (r_fa fa36_0 rfl) <| SR.g' rfl (r_ld (v := str l.Durable) sca9 rfl ((((hb6).lo hk10).lo hk21).cell rfl)) <| SR.g' rfl (r_len_s und9 rfl) <| SR.g' rfl (r_eq rfl rfl) <| SR.q' (r_pick true rfl (v := .bool _) rfl) <| SR.q' (r_mv (v := .bool _) rfl) <| SR.splitD (fun h32 => ?_) (fun h32 => ?_)
      · refine SR.g' rfl (r_fa fa36_2 rfl) <| SR.g' rfl (r_ld (v := .int .i64 l.Count) sca3 rfl ((((hb6).lo hk10).lo hk21).cell rfl)) <| SR.g' rfl (r_mv (v := .slice _ _ _) rfl) <| SR.g' rfl (r_len und69 rfl) <| SR.g' rfl (r_eq rfl rfl) <| SR.q' (r_pick true rfl (v := .bool _) rfl) <| SR.q' (r_as (v := .bool _) rfl) <| SR.nil ?_
        exact ⟨_, rfl, ⟨⟨(eDD ((jat h32).trans (jat h31))), trivial⟩, (Lo.refl _)⟩⟩
      · refine SR.s' rfl <| SR.s' rfl <| SR.s' rfl <| SR.s' rfl <| SR.s' rfl <| SR.q' (r_pick false rfl (v := .bool false) rfl) <| SR.q' (r_as (v := .bool _) rfl) <| SR.nil ?_
        exact ⟨_, rfl, ⟨⟨(eDF ((jaf h32).trans (jat h31)).2), trivial⟩, (Lo.refl _)⟩⟩
    · refine SR.s' rfl <| SR.s' rfl <| SR.s' rfl <| SR.s' rfl <| SR.s' rfl <| SR.q' (r_pick false rfl (v := .bool false) rfl) <| SR.q' (r_mv (v := .bool _) rfl) <| SR.s' rfl <| SR.s' rfl <| SR.s' rfl <| SR.s' rfl <| SR.s' rfl <| SR.q' (r_pick false rfl (v := .bool false) rfl) <| SR.q' (r_as (v := .bool _) rfl) <| SR.nil ?_
      exact ⟨_, rfl, ⟨⟨(eDF (jaf h31).2), trivial⟩, (Lo.refl _)⟩⟩
  rintro f33 w34 ⟨hat35, hk36⟩
  rw [← sets_of_at hat35]
  have hz37 := hk36.size
  have hB38 := hB27.lo hk36
  refine W.ret ?_
  refine ret1 rfl (v := .bool _) rfl ?_
  exact ⟨eR (eDD (z_c_impl_IsValidLog_39 l hp0 n12 hl17 hl18 hq19 n23 hl28 hl29 hq30)), hB38⟩

theorem z_c_spec_l33Log_10 (l : Log) (hp0 : (l.Durable.length : Int) + (l.Pending.length : Int) ≤ 4000000) (h9 : 30000 < ((l.Durable.length : Int) + (l.Pending.length : Int))) : ¬ (LogOK l) := by
  first | assumption | (intro hh; have hh2 := log_rng hh; omega) | (rw [log_iff]; simp only [List.length_append] at *; omega)
theorem z_c_spec_l33Log_41 (l : Log) (hp0 : (l.Durable.length : Int) + (l.Pending.length : Int) ≤ 4000000) (h9 : ¬ (30000 < ((l.Durable.length : Int) + (l.Pending.length : Int)))) (n14 : Nat) (hl19 : n14 = ((opN (l.Durable ++ l.Pending)).1).length) (hl20 : (n14 : Int) ≤ 9223372036854775807) (hq21 : (opN (l.Durable ++ l.Pending)).1.length ≤ 60 ∧ (opN (l.Durable ++ l.Pending)).2 ≤ (l.Durable ++ l.Pending).length ∧ (opN (l.Durable ++ l.Pending)).2 ≤ 24360) (n25 : Nat) (hl30 : n25 = ((opN l.Durable).1).length) (hl31 : (n25 : Int) ≤ 9223372036854775807) (hq32 : (opN l.Durable).1.length ≤ 60 ∧ (opN l.Durable).2 ≤ l.Durable.length ∧ (opN l.Durable).2 ≤ 24360) : ((((opN (l.Durable ++ l.Pending)).2 : Int) = ((l.Durable.length : Int) + (l.Pending.length : Int))) ∧ ((((opN l.Durable).2 : Int) = (l.Durable.length : Int)) ∧ ((n14 : Int) = l.Count))) ↔ (LogOK l) := by
  first | assumption | (intro hh; have hh2 := log_rng hh; omega) | (rw [log_iff]; simp only [List.length_append] at *; omega)
theorem c_spec_l33Log (w : World) (l : Log) (hp0 : (l.Durable.length : Int) + (l.Pending.length : Int) ≤ 4000000) : Calls Tryd.prog 28 #[.agg (List.toArray (encLog l))] w fun e w' => e = .returned (.bool (decide (LogOK l))) ∧ Lo w w' := by
  refine calls_W 53 Tryd.func28 rfl rfl rfl ?_
  refine W.seq ?_
  refine W.regS (SR.box (v := .agg (List.toArray _)) (l := [str l.Durable, str l.Pending, .int .i64 l.Count]) rfl rfl ?_)
  intro g1 w2 hg3 hk4 hs5 hb6
  have hz7 := hk4.size
  have hB8 := (Lo.refl w).lo hk4
  refine SR.q' (r_as (v := .bool false) rfl) <| SR.nil ?_
  refine W.seq ?_
  refine W.seq ?_
  refine W.regS (SR.q' (r_fa fa36_0 rfl) <| SR.q' (r_ld (v := str l.Durable) sca9 rfl ((hb6).cell rfl)) <| SR.q' (r_len_s und9 rfl) <| SR.q' (r_fa fa36_1 rfl) <| SR.q' (r_ld (v := str l.Pending) sca9 rfl ((hb6).cell rfl)) <| SR.q' (r_len_s und9 rfl) <| SR.q' (r_add rfl rfl (by omega)) <| SR.q' (r_gt rfl rfl) <| SR.nil ?_)
  refine W.cond_d rfl (fun h9 => ?_) (fun h9 => ?_)
  · refine W.seq ?_
    refine W.regS (SR.q' (r_as (v := .bool false) rfl) <| SR.nil ?_)
    refine W.ret ?_
    refine ret1 rfl (v := .bool _) rfl ?_
    exact ⟨eR (eDF (z_c_spec_l33Log_10 l hp0 h9)), hB8⟩
  · refine W.skip ?_
    refine W.seq ?_
    refine W.regS (SR.q' (r_fa fa36_0 rfl) <| SR.q' (r_ld (v := str l.Durable) sca9 rfl ((hb6).cell rfl)) <| SR.q' (r_fa fa36_1 rfl) <| SR.q' (r_ld (v := str l.Pending) sca9 rfl ((hb6).cell rfl)) <| SR.q' (r_cat rfl rfl (by first | omega | (simp only [List.length_append, List.length_cons, List.length_nil, List.length_take, List.length_drop]; omega) | (simp only [List.length_append, List.length_cons, List.length_nil, List.length_take, List.length_drop] at *; omega))) <| SR.call ent48 (c_spec_l33Open w2 (l.Durable ++ l.Pending) (by first | omega | (simp only [List.length_append, List.length_cons, List.length_nil, List.length_take, List.length_drop]; omega))) rfl ?_)
    rintro e w11 ⟨A13, n14, c15, rfl, hO16, hk12⟩
    refine ⟨_, rfl, ?_⟩
    have hz17 := hk12.size
    have hB18 := hB8.lo hk12
    have hl19 := hO16.len
    have hl20 := hO16.rd.bound
    have hq21 : (opN (l.Durable ++ l.Pending)).1.length ≤ 60 ∧ (opN (l.Durable ++ l.Pending)).2 ≤ (l.Durable ++ l.Pending).length ∧ (opN (l.Durable ++ l.Pending)).2 ≤ 24360 := opN_len (l.Durable ++ l.Pending)
    refine SR.q' (r_mv (v := .tuple (List.toArray _)) rfl) <| SR.q' (r_ext (v := .slice _ _ _) rfl rfl) <| SR.q' (r_ext (v := .int .i64 _) rfl rfl) <| SR.q' (r_as (v := .slice _ _ _) rfl) <| SR.q' (r_as (v := .int .i64 _) rfl) <| SR.nil ?_
    refine W.seq ?_
    refine W.regS (SR.q' (r_fa fa36_0 rfl) <| SR.q' (r_ld (v := str l.Durable) sca9 rfl (((hb6).lo hk12).cell rfl)) <| SR.call ent48 (c_spec_l33Open w11 l.Durable (by first | omega | (simp only [List.length_append, List.length_cons, List.length_nil, List.length_take, List.length_drop]; omega))) rfl ?_)
    rintro e w22 ⟨A24, n25, c26, rfl, hO27, hk23⟩
    refine ⟨_, rfl, ?_⟩
    have hz28 := hk23.size
    have hB29 := hB18.lo hk23
    have hl30 := hO27.len
    have hl31 := hO27.rd.bound
    have hq32 : (opN l.Durable).1.length ≤ 60 ∧ (opN l.Durable).2 ≤ l.Durable.length ∧ (opN l.Durable).2 ≤ 24360 := opN_len l.Durable
    refine SR.q' (r_mv (v := .tuple (List.toArray _)) rfl) <| SR.q' (r_ext (v := .slice _ _ _) rfl rfl) <| SR.q' (r_ext (v := .int .i64 _) rfl rfl) <| SR.q' (r_as (v := .slice _ _ _) rfl) <| SR.q' (r_as (v := .int .i64 _) rfl) <| SR.nil ?_
    refine W.seq ?_
    refine W.regJS (fun f' w' => At f' [(2, .bool (decide ((((opN (l.Durable ++ l.Pending)).2 : Int) = ((l.Durable.length : Int) + (l.Pending.length : Int))) ∧ ((((opN l.Durable).2 : Int) = (l.Durable.length : Int)) ∧ ((n14 : Int) = l.Count)))))] ∧ Lo w22 w') ?_ ?_
    · refine SR.q' (r_mv (v := .int .i64 _) rfl) <| SR.q' (r_fa fa36_0 rfl) <| SR.q' (r_ld (v := str l.Durable) sca9 rfl ((((hb6).lo hk12).lo hk23).cell rfl)) <| SR.q' (r_len_s und9 rfl) <| SR.q' (r_fa fa36_1 rfl) <| SR.q' (r_ld (v := str l.Pending) sca9 rfl ((((hb6).lo hk12).lo hk23).cell rfl)) <| SR.q' (r_len_s und9 rfl) <| SR.q' (r_add rfl rfl (by omega)) <| SR.q' (r_eq rfl rfl) <| SR.q' (r_mv (v := .bool _) rfl) <| SR.splitD (fun h33 => ?_) (fun h33 => ?_)
      · refine SR.g' rfl (r_mv (v := .int .i64 _) rfl) <| SR.g' rfl (r_fa fa36_0 rfl) <| SR.g' rfl (r_ld (v := str l.Durable) sca9 rfl ((((hb6).lo hk12).lo hk23).cell rfl)) <| SR.g' rfl (r_len_s und9 rfl) <| SR.g' rfl (r_eq rfl rfl) <| SR.q' (r_pick true rfl (v := .bool _) rfl) <| SR.q' (r_mv (v := .bool _) rfl) <| SR.splitD (fun h34 => ?_) (fun h34 => ?_)
        · refine SR.g' rfl (r_mv (v := .slice _ _ _) rfl) <| SR.g' rfl (r_len und69 rfl) <| SR.g' rfl (r_fa fa36_2 rfl) <| SR.g' rfl (r_ld (v := .int .i64 l.Count) sca3 rfl ((((hb6).lo hk12).lo hk23).cell rfl)) <| SR.g' rfl (r_eq rfl rfl) <| SR.q' (r_pick true rfl (v := .bool _) rfl) <| SR.q' (r_as (v := .bool _) rfl) <| SR.nil ?_
          exact ⟨_, rfl, ⟨⟨(eDD ((jat h34).trans (jat h33))), trivial⟩, (Lo.refl _)⟩⟩
        · refine SR.s' rfl <| SR.s' rfl <| SR.s' rfl <| SR.s' rfl <| SR.s' rfl <| SR.q' (r_pick false rfl (v := .bool false) rfl) <| SR.q' (r_as (v := .bool _) rfl) <| SR.nil ?_
          exact ⟨_, rfl, ⟨⟨(eDF ((jaf h34).trans (jat h33)).2), trivial⟩, (Lo.refl _)⟩⟩
      · refine SR.s' rfl <| SR.s' rfl <| SR.s' rfl <| SR.s' rfl <| SR.s' rfl <| SR.q' (r_pick false rfl (v := .bool false) rfl) <| SR.q' (r_mv (v := .bool _) rfl) <| SR.s' rfl <| SR.s' rfl <| SR.s' rfl <| SR.s' rfl <| SR.s' rfl <| SR.q' (r_pick false rfl (v := .bool false) rfl) <| SR.q' (r_as (v := .bool _) rfl) <| SR.nil ?_
        exact ⟨_, rfl, ⟨⟨(eDF (jaf h33).2), trivial⟩, (Lo.refl _)⟩⟩
    rintro f35 w36 ⟨hat37, hk38⟩
    rw [← sets_of_at hat37]
    have hz39 := hk38.size
    have hB40 := hB29.lo hk38
    refine W.ret ?_
    refine ret1 rfl (v := .bool _) rfl ?_
    exact ⟨eR (eDD (z_c_spec_l33Log_41 l hp0 h9 n14 hl19 hl20 hq21 n25 hl30 hl31 hq32)), hB40⟩
end Go.Proofs.YtocpdkhahmbaiaaDoor
