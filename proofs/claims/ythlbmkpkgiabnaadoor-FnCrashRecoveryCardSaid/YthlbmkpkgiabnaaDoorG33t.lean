/- Walks, printed by a program of this claim's author. -/
import Derived.Test.YthlbmkpkgiabnaaDoorChecked
import Derived.Test.YthlbmkpkgiabnaaDoorWb
import Derived.Test.YthlbmkpkgiabnaaDoorFt
import Derived.Test.YthlbmkpkgiabnaaDoorSi
import Derived.Test.YthlbmkpkgiabnaaDoorG33s
namespace Go.Proofs.YthlbmkpkgiabnaaDoor
open Go Go.RowKit Fw
set_option maxRecDepth 10000
set_option linter.unusedVariables false
theorem agg31 : TAgg Tryd.prog 31 3 := ⟨fun _ => by kernel_rfl, fun _ => by kernel_rfl⟩
theorem bld31_ : Tryd.prog.built 31 [] = some (List.toArray [str ([] : List UInt8), str ([] : List UInt8), .int .i64 0]) := by kernel_rfl
theorem bld31_0_1_2 (a0 : List UInt8) (a1 : List UInt8) (a2 : Int) : Tryd.prog.built 31 [(0, str a0), (1, str a1), (2, .int .i64 a2)] = some (List.toArray [str a0, str a1, .int .i64 a2]) := by kernel_rfl
theorem bld31_0_2 (a0 : List UInt8) (a2 : Int) : Tryd.prog.built 31 [(0, str a0), (2, .int .i64 a2)] = some (List.toArray [str a0, str ([] : List UInt8), .int .i64 a2]) := by kernel_rfl
theorem ent23 : Ent Tryd.prog 23 := ent_of Tryd.func23 (by decide +kernel) rfl
theorem ent48 : Ent Tryd.prog 48 := ent_of Tryd.func48 (by decide +kernel) rfl
theorem ent49 : Ent Tryd.prog 49 := ent_of Tryd.func49 (by decide +kernel) rfl
theorem ent50 : Ent Tryd.prog 50 := ent_of Tryd.func50 (by decide +kernel) rfl
theorem fa31_0 : FA Tryd.prog 31 0 0 := fun _ _ => by kernel_rfl
theorem fa31_1 : FA Tryd.prog 31 1 1 := fun _ _ => by kernel_rfl
theorem fa31_2 : FA Tryd.prog 31 2 2 := fun _ _ => by kernel_rfl
theorem sca3 : TSca Tryd.prog 3 := ⟨fun _ => by kernel_rfl, fun _ => by kernel_rfl⟩
theorem tz31 : TZ Tryd.prog 31 (.agg (List.toArray [str ([] : List UInt8), str ([] : List UInt8), .int .i64 0])) := fun _ => by kernel_rfl

theorem z_c_impl_IsValidLog_39 (l : Log) (hp0 : (l.Durable.length : Int) + (l.Pending.length : Int) ≤ 4000000) (n12 : Nat) (hl17 : n12 = ((opN (l.Durable ++ l.Pending)).1).length) (hl18 : (n12 : Int) ≤ 9223372036854775807) (hq19 : (opN (l.Durable ++ l.Pending)).1.length ≤ 60 ∧ (opN (l.Durable ++ l.Pending)).2 ≤ (l.Durable ++ l.Pending).length ∧ (opN (l.Durable ++ l.Pending)).2 ≤ 24360) (n23 : Nat) (hl28 : n23 = ((opN l.Durable).1).length) (hl29 : (n23 : Int) ≤ 9223372036854775807) (hq30 : (opN l.Durable).1.length ≤ 60 ∧ (opN l.Durable).2 ≤ l.Durable.length ∧ (opN l.Durable).2 ≤ 24360) : ((((opN (l.Durable ++ l.Pending)).2 : Int) = ((l.Durable.length : Int) + (l.Pending.length : Int))) ∧ ((((opN l.Durable).2 : Int) = (l.Durable.length : Int)) ∧ (l.Count = (n12 : Int)))) ↔ (LogOK l) := by
  first | assumption | (intro hh; have hh2 := log_rng hh; omega) | (rw [log_iff]; simp only [List.length_append] at *; omega)
theorem c_impl_IsValidLog (w : World) (l : Log) (hp0 : (l.Durable.length : Int) + (l.Pending.length : Int) ≤ 4000000) (hE : EnvW w) : Calls Tryd.prog 23 #[.agg (List.toArray (encLog l))] w fun e w' => e = .returned (.bool (decide (LogOK l))) ∧ Lo w w' := by
  refine calls_W 45 Tryd.func23 rfl rfl rfl ?_
  refine W.seq ?_
  refine W.regS (SR.box (v := .agg (List.toArray _)) (l := [str l.Durable, str l.Pending, .int .i64 l.Count]) rfl rfl ?_)
  intro g1 w2 hg3 hk4 hs5 hb6
  have hz7 := hk4.size
  have hB8 := (Lo.refl w).lo hk4
  refine SR.q' (r_as (v := .bool false) rfl) <| SR.nil ?_
  refine W.seq ?_
  refine W.regS (SR.q' (r_fa fa31_0 rfl) <| SR.q' (r_ld (v := str l.Durable) sca9 rfl ((hb6).cell rfl)) <| SR.q' (r_fa fa31_1 rfl) <| SR.q' (r_ld (v := str l.Pending) sca9 rfl ((hb6).cell rfl)) <| SR.q' (r_cat rfl rfl (by first | omega | (simp only [List.length_append, List.length_cons, List.length_nil, List.length_take, List.length_drop]; omega) | (simp only [List.length_append, List.length_cons, List.length_nil, List.length_take, List.length_drop] at *; omega))) <| SR.call ent49 (c_impl_recovered w2 (l.Durable ++ l.Pending) (by first | omega | (simp only [List.length_append, List.length_cons, List.length_nil, List.length_take, List.length_drop]; omega)) (hE.lo (hB8))) rfl ?_)
  rintro e w9 ⟨A11, n12, c13, rfl, hO14, hk10⟩
  refine ⟨_, rfl, ?_⟩
  have hz15 := hk10.size
  have hB16 := hB8.lo hk10
  have hl17 := hO14.len
  have hl18 := hO14.rd.bound
  have hq19 : (opN (l.Durable ++ l.Pending)).1.length ≤ 60 ∧ (opN (l.Durable ++ l.Pending)).2 ≤ (l.Durable ++ l.Pending).length ∧ (opN (l.Durable ++ l.Pending)).2 ≤ 24360 := opN_len (l.Durable ++ l.Pending)
  refine SR.q' (r_mv (v := .tuple (List.toArray _)) rfl) <| SR.q' (r_ext (v := .slice _ _ _) rfl rfl) <| SR.q' (r_ext (v := .int .i64 _) rfl rfl) <| SR.q' (r_as (v := .slice _ _ _) rfl) <| SR.q' (r_as (v := .int .i64 _) rfl) <| SR.nil ?_
  refine W.seq ?_
  refine W.regS (SR.q' (r_fa fa31_0 rfl) <| SR.q' (r_ld (v := str l.Durable) sca9 rfl (((hb6).lo hk10).cell rfl)) <| SR.call ent49 (c_impl_recovered w9 l.Durable (by first | omega | (simp only [List.length_append, List.length_cons, List.length_nil, List.length_take, List.length_drop]; omega)) (hE.lo (hB16))) rfl ?_)
  rintro e w20 ⟨A22, n23, c24, rfl, hO25, hk21⟩
  refine ⟨_, rfl, ?_⟩
  have hz26 := hk21.size
  have hB27 := hB16.lo hk21
  have hl28 := hO25.len
  have hl29 := hO25.rd.bound
  have hq30 : (opN l.Durable).1.length ≤ 60 ∧ (opN l.Durable).2 ≤ l.Durable.length ∧ (opN l.Durable).2 ≤ 24360 := opN_len l.Durable
  refine SR.q' (r_mv (v := .tuple (List.toArray _)) rfl) <| SR.q' (r_ext (v := .slice _ _ _) rfl rfl) <| SR.q' (r_ext (v := .int .i64 _) rfl rfl) <| SR.q' (r_as (v := .slice _ _ _) rfl) <| SR.q' (r_as (v := .int .i64 _) rfl) <| SR.nil ?_
  refine W.seq ?_
  refine W.regJS (fun f' w' => At f' [(2, .bool (decide ((((opN (l.Durable ++ l.Pending)).2 : Int) = ((l.Durable.length : Int) + (l.Pending.length : Int))) ∧ ((((opN l.Durable).2 : Int) = (l.Durable.length : Int)) ∧ (l.Count = (n12 : Int))))))] ∧ Lo w20 w') ?_ ?_
  · refine SR.q' (r_mv (v := .int .i64 _) rfl) <| SR.q' (r_fa fa31_0 rfl) <| SR.q' (r_ld (v := str l.Durable) sca9 rfl ((((hb6).lo hk10).lo hk21).cell rfl)) <| SR.q' (r_len_s und9 rfl) <| SR.q' (r_fa fa31_1 rfl) <| SR.q' (r_ld (v := str l.Pending) sca9 rfl ((((hb6).lo hk10).lo hk21).cell rfl)) <| SR.q' (r_len_s und9 rfl) <| SR.q' (r_add rfl rfl (by omega)) <| SR.q' (r_eq rfl rfl) <| SR.q' (r_mv (v := .bool _) rfl) <| SR.splitD (fun h31 => ?_) (fun h31 => ?_)
    · refine SR.g' rfl (r_mv (v := .int .i64 _) rfl) <| SR.g' rfl (r_fa fa31_0 rfl) <| SR.g' rfl (r_ld (v := str l.Durable) sca9 rfl ((((hb6).lo hk10).lo hk21).cell rfl)) <| SR.g' rfl (r_len_s und9 rfl) <| SR.g' rfl (r_eq rfl rfl) <| SR.q' (r_pick true rfl (v := .bool _) rfl) <| SR.q' (r_mv (v := .bool _) rfl) <| SR.splitD (fun h32 => ?_) (fun h32 => ?_)
      · refine SR.g' rfl (r_fa fa31_2 rfl) <| SR.g' rfl (r_ld (v := .int .i64 l.Count) sca3 rfl ((((hb6).lo hk10).lo hk21).cell rfl)) <| SR.g' rfl (r_mv (v := .slice _ _ _) rfl) <| SR.g' rfl (r_len und48 rfl) <| SR.g' rfl (r_eq rfl rfl) <| SR.q' (r_pick true rfl (v := .bool _) rfl) <| SR.q' (r_as (v := .bool _) rfl) <| SR.nil ?_
        exact ⟨_, rfl, ⟨⟨(eDD ((jat h32).trans (jat h31))), trivial⟩, (Lo.refl _)⟩⟩
      · refine SR.s' rfl <| SR.s' rfl <| SR.s' rfl <| SR.s' rfl <| SR.s' rfl <| SR.q' (r_pick false rfl (v := .bool false) rfl) <| SR.q' (r_as (v := .bool _) rfl) <| SR.nil ?_
        exact ⟨_, rfl, ⟨⟨(eDF ((jaf h32).trans (jat h31)).2), trivial⟩, (Lo.refl _)⟩⟩
    · refine SR.s' rfl <| SR.s' rfl <| SR.s' rfl <| SR.s' rfl <| SR.s' rfl <| SR.q' (r_pick false rfl (v := .bool false) rfl) <| SR.q' (r_mv (v := .bool _) rfl) <| SR.s' rfl <| SR.s' rfl <| SR.s' rfl <| SR.s' rfl <| SR.s' rfl <| SR.q' (r_pick false rfl (v := .bool false) rfl) <| SR.q' (r_as (v := .bool _) rfl) <| SR.nil ?_
      exact ⟨_, rfl, ⟨⟨(eDF (jaf h31).2), trivial⟩, (Lo.refl _)⟩⟩
  rintro f33 w34 ⟨hat35, hk36⟩
  rw [← sets_of_at hat35]
  have hz37 := hk36.size
  have hB38 := hB27.lo hk36
  refine W.ret ?_
  refine ret1 rfl (v := .bool _) rfl ?_
  exact ⟨eR (eDD (z_c_impl_IsValidLog_39 l hp0 n12 hl17 hl18 hq19 n23 hl28 hl29 hq30)), hB38⟩

theorem z_c_spec_l33Log_10 (l : Log) (hp0 : (l.Durable.length : Int) + (l.Pending.length : Int) ≤ 4000000) (h9 : 30000 < ((l.Durable.length : Int) + (l.Pending.length : Int))) : ¬ (LogOK l) := by
  first | assumption | (intro hh; have hh2 := log_rng hh; omega) | (rw [log_iff]; simp only [List.length_append] at *; omega)
theorem z_c_spec_l33Log_41 (l : Log) (hp0 : (l.Durable.length : Int) + (l.Pending.length : Int) ≤ 4000000) (h9 : ¬ (30000 < ((l.Durable.length : Int) + (l.Pending.length : Int)))) (n14 : Nat) (hl19 : n14 = ((opN (l.Durable ++ l.Pending)).1).length) (hl20 : (n14 : Int) ≤ 9223372036854775807) (hq21 : (opN (l.Durable ++ l.Pending)).1.length ≤ 60 ∧ (opN (l.Durable ++ l.Pending)).2 ≤ (l.Durable ++ l.Pending).length ∧ (opN (l.Durable ++ l.Pending)).2 ≤ 24360) (n25 : Nat) (hl30 : n25 = ((opN l.Durable).1).length) (hl31 : (n25 : Int) ≤ 9223372036854775807) (hq32 : (opN l.Durable).1.length ≤ 60 ∧ (opN l.Durable).2 ≤ l.Durable.length ∧ (opN l.Durable).2 ≤ 24360) : ((((opN (l.Durable ++ l.Pending)).2 : Int) = ((l.Durable.length : Int) + (l.Pending.length : Int))) ∧ ((((opN l.Durable).2 : Int) = (l.Durable.length : Int)) ∧ ((n14 : Int) = l.Count))) ↔ (LogOK l) := by
  first | assumption | (intro hh; have hh2 := log_rng hh; omega) | (rw [log_iff]; simp only [List.length_append] at *; omega)
theorem c_spec_l33Log (w : World) (l : Log) (hp0 : (l.Durable.length : Int) + (l.Pending.length : Int) ≤ 4000000) : Calls Tryd.prog 50 #[.agg (List.toArray (encLog l))] w fun e w' => e = .returned (.bool (decide (LogOK l))) ∧ Lo w w' := by
  refine calls_W 53 Tryd.func50 rfl rfl rfl ?_
  refine W.seq ?_
  refine W.regS (SR.box (v := .agg (List.toArray _)) (l := [str l.Durable, str l.Pending, .int .i64 l.Count]) rfl rfl ?_)
  intro g1 w2 hg3 hk4 hs5 hb6
  have hz7 := hk4.size
  have hB8 := (Lo.refl w).lo hk4
  refine SR.q' (r_as (v := .bool false) rfl) <| SR.nil ?_
  refine W.seq ?_
  refine W.seq ?_
  refine W.regS (SR.q' (r_fa fa31_0 rfl) <| SR.q' (r_ld (v := str l.Durable) sca9 rfl ((hb6).cell rfl)) <| SR.q' (r_len_s und9 rfl) <| SR.q' (r_fa fa31_1 rfl) <| SR.q' (r_ld (v := str l.Pending) sca9 rfl ((hb6).cell rfl)) <| SR.q' (r_len_s und9 rfl) <| SR.q' (r_add rfl rfl (by omega)) <| SR.q' (r_gt rfl rfl) <| SR.nil ?_)
  refine W.cond_d rfl (fun h9 => ?_) (fun h9 => ?_)
  · refine W.seq ?_
    refine W.regS (SR.q' (r_as (v := .bool false) rfl) <| SR.nil ?_)
    refine W.ret ?_
    refine ret1 rfl (v := .bool _) rfl ?_
    exact ⟨eR (eDF (z_c_spec_l33Log_10 l hp0 h9)), hB8⟩
  · refine W.skip ?_
    refine W.seq ?_
    refine W.regS (SR.q' (r_fa fa31_0 rfl) <| SR.q' (r_ld (v := str l.Durable) sca9 rfl ((hb6).cell rfl)) <| SR.q' (r_fa fa31_1 rfl) <| SR.q' (r_ld (v := str l.Pending) sca9 rfl ((hb6).cell rfl)) <| SR.q' (r_cat rfl rfl (by first | omega | (simp only [List.length_append, List.length_cons, List.length_nil, List.length_take, List.length_drop]; omega) | (simp only [List.length_append, List.length_cons, List.length_nil, List.length_take, List.length_drop] at *; omega))) <| SR.call ent48 (c_spec_l33Open w2 (l.Durable ++ l.Pending) (by first | omega | (simp only [List.length_append, List.length_cons, List.length_nil, List.length_take, List.length_drop]; omega))) rfl ?_)
    rintro e w11 ⟨A13, n14, c15, rfl, hO16, hk12⟩
    refine ⟨_, rfl, ?_⟩
    have hz17 := hk12.size
    have hB18 := hB8.lo hk12
    have hl19 := hO16.len
    have hl20 := hO16.rd.bound
    have hq21 : (opN (l.Durable ++ l.Pending)).1.length ≤ 60 ∧ (opN (l.Durable ++ l.Pending)).2 ≤ (l.Durable ++ l.Pending).length ∧ (opN (l.Durable ++ l.Pending)).2 ≤ 24360 := opN_len (l.Durable ++ l.Pending)
    refine SR.q' (r_mv (v := .tuple (List.toArray _)) rfl) <| SR.q' (r_ext (v := .slice _ _ _) rfl rfl) <| SR.q' (r_ext (v := .int .i64 _) rfl rfl) <| SR.q' (r_as (v := .slice _ _ _) rfl) <| SR.q' (r_as (v := .int .i64 _) rfl) <| SR.nil ?_
    refine W.seq ?_
    refine W.regS (SR.q' (r_fa fa31_0 rfl) <| SR.q' (r_ld (v := str l.Durable) sca9 rfl (((hb6).lo hk12).cell rfl)) <| SR.call ent48 (c_spec_l33Open w11 l.Durable (by first | omega | (simp only [List.length_append, List.length_cons, List.length_nil, List.length_take, List.length_drop]; omega))) rfl ?_)
    rintro e w22 ⟨A24, n25, c26, rfl, hO27, hk23⟩
    refine ⟨_, rfl, ?_⟩
    have hz28 := hk23.size
    have hB29 := hB18.lo hk23
    have hl30 := hO27.len
    have hl31 := hO27.rd.bound
    have hq32 : (opN l.Durable).1.length ≤ 60 ∧ (opN l.Durable).2 ≤ l.Durable.length ∧ (opN l.Durable).2 ≤ 24360 := opN_len l.Durable
    refine SR.q' (r_mv (v := .tuple (List.toArray _)) rfl) <| SR.q' (r_ext (v := .slice _ _ _) rfl rfl) <| SR.q' (r_ext (v := .int .i64 _) rfl rfl) <| SR.q' (r_as (v := .slice _ _ _) rfl) <| SR.q' (r_as (v := .int .i64 _) rfl) <| SR.nil ?_
    refine W.seq ?_
    refine W.regJS (fun f' w' => At f' [(2, .bool (decide ((((opN (l.Durable ++ l.Pending)).2 : Int) = ((l.Durable.length : Int) + (l.Pending.length : Int))) ∧ ((((opN l.Durable).2 : Int) = (l.Durable.length : Int)) ∧ ((n14 : Int) = l.Count)))))] ∧ Lo w22 w') ?_ ?_
    · refine SR.q' (r_mv (v := .int .i64 _) rfl) <| SR.q' (r_fa fa31_0 rfl) <| SR.q' (r_ld (v := str l.Durable) sca9 rfl ((((hb6).lo hk12).lo hk23).cell rfl)) <| SR.q' (r_len_s und9 rfl) <| SR.q' (r_fa fa31_1 rfl) <| SR.q' (r_ld (v := str l.Pending) sca9 rfl ((((hb6).lo hk12).lo hk23).cell rfl)) <| SR.q' (r_len_s und9 rfl) <| SR.q' (r_add rfl rfl (by omega)) <| SR.q' (r_eq rfl rfl) <| SR.q' (r_mv (v := .bool _) rfl) <| SR.splitD (fun h33 => ?_) (fun h33 => ?_)
      · refine SR.g' rfl (r_mv (v := .int .i64 _) rfl) <| SR.g' rfl (r_fa fa31_0 rfl) <| SR.g' rfl (r_ld (v := str l.Durable) sca9 rfl ((((hb6).lo hk12).lo hk23).cell rfl)) <| SR.g' rfl (r_len_s und9 rfl) <| SR.g' rfl (r_eq rfl rfl) <| SR.q' (r_pick true rfl (v := .bool _) rfl) <| SR.q' (r_mv (v := .bool _) rfl) <| SR.splitD (fun h34 => ?_) (fun h34 => ?_)
        · refine SR.g' rfl (r_mv (v := .slice _ _ _) rfl) <| SR.g' rfl (r_len und48 rfl) <| SR.g' rfl (r_fa fa31_2 rfl) <| SR.g' rfl (r_ld (v := .int .i64 l.Count) sca3 rfl ((((hb6).lo hk12).lo hk23).cell rfl)) <| SR.g' rfl (r_eq rfl rfl) <| SR.q' (r_pick true rfl (v := .bool _) rfl) <| SR.q' (r_as (v := .bool _) rfl) <| SR.nil ?_
          exact ⟨_, rfl, ⟨⟨(eDD ((jat h34).trans (jat h33))), trivial⟩, (Lo.refl _)⟩⟩
        · refine SR.s' rfl <| SR.s' rfl <| SR.s' rfl <| SR.s' rfl <| SR.s' rfl <| SR.q' (r_pick false rfl (v := .bool false) rfl) <| SR.q' (r_as (v := .bool _) rfl) <| SR.nil ?_
          exact ⟨_, rfl, ⟨⟨(eDF ((jaf h34).trans (jat h33)).2), trivial⟩, (Lo.refl _)⟩⟩
      · refine SR.s' rfl <| SR.s' rfl <| SR.s' rfl <| SR.s' rfl <| SR.s' rfl <| SR.q' (r_pick false rfl (v := .bool false) rfl) <| SR.q' (r_mv (v := .bool _) rfl) <| SR.s' rfl <| SR.s' rfl <| SR.s' rfl <| SR.s' rfl <| SR.s' rfl <| SR.q' (r_pick false rfl (v := .bool false) rfl) <| SR.q' (r_as (v := .bool _) rfl) <| SR.nil ?_
        exact ⟨_, rfl, ⟨⟨(eDF (jaf h33).2), trivial⟩, (Lo.refl _)⟩⟩
    rintro f35 w36 ⟨hat37, hk38⟩
    rw [← sets_of_at hat37]
    have hz39 := hk38.size
    have hB40 := hB29.lo hk38
    refine W.ret ?_
    refine ret1 rfl (v := .bool _) rfl ?_
    exact ⟨eR (eDD (z_c_spec_l33Log_41 l hp0 h9 n14 hl19 hl20 hq21 n25 hl30 hl31 hq32)), hB40⟩

theorem c_spec_IsValidLog (w : World) (l : Log) (hp0 : (l.Durable.length : Int) + (l.Pending.length : Int) ≤ 4000000) : Calls Tryd.prog 21 #[.agg (List.toArray (encLog l))] w fun e w' => e = .returned (.bool (decide (LogOK l))) ∧ Lo w w' := by
  refine calls_W 5 Tryd.func21 rfl rfl rfl ?_
  refine W.seq ?_
  refine W.regS (SR.box (v := .agg (List.toArray _)) (l := [str l.Durable, str l.Pending, .int .i64 l.Count]) rfl rfl ?_)
  intro g1 w2 hg3 hk4 hs5 hb6
  have hz7 := hk4.size
  have hB8 := (Lo.refl w).lo hk4
  refine SR.q' (r_as (v := .bool false) rfl) <| SR.nil ?_
  refine W.seq ?_
  refine W.regS (SR.q' (r_lda (l := [str l.Durable, str l.Pending, .int .i64 l.Count]) agg31 rfl (fun _ _ hu => (hb6).cell hu) rfl) <| SR.call ent50 (c_spec_l33Log w2 l (by omega)) rfl ?_)
  rintro e w9 ⟨rfl, hk10⟩
  refine ⟨_, rfl, ?_⟩
  have hz11 := hk10.size
  have hB12 := hB8.lo hk10
  refine SR.q' (r_as (v := .bool _) rfl) <| SR.nil ?_
  refine W.ret ?_
  refine ret1 rfl (v := .bool _) rfl ?_
  exact ⟨eR rfl, hB12⟩

theorem z_c_impl_SyncLog_28 (l : Log) (hp0 : (l.Durable.length : Int) + (l.Pending.length : Int) ≤ 4000000) (h21 : ¬ (LogOK l)) : ([] : List UInt8) = ((syncN l).1).Durable := by
  first | (rw [sync_yes ‹LogOK _›]; first | done | rfl | (dsimp only; omega)) | (rw [sync_no ‹¬ LogOK _›]; first | done | rfl | (dsimp only; omega))
theorem z_c_impl_SyncLog_29 (l : Log) (hp0 : (l.Durable.length : Int) + (l.Pending.length : Int) ≤ 4000000) (h21 : ¬ (LogOK l)) : ([] : List UInt8) = ((syncN l).1).Pending := by
  first | (rw [sync_yes ‹LogOK _›]; first | done | rfl | (dsimp only; omega)) | (rw [sync_no ‹¬ LogOK _›]; first | done | rfl | (dsimp only; omega))
theorem z_c_impl_SyncLog_30 (l : Log) (hp0 : (l.Durable.length : Int) + (l.Pending.length : Int) ≤ 4000000) (h21 : ¬ (LogOK l)) : 0 = ((syncN l).1).Count := by
  first | (rw [sync_yes ‹LogOK _›]; first | done | rfl | (dsimp only; omega)) | (rw [sync_no ‹¬ LogOK _›]; first | done | rfl | (dsimp only; omega))
theorem z_c_impl_SyncLog_31 (l : Log) (hp0 : (l.Durable.length : Int) + (l.Pending.length : Int) ≤ 4000000) (h21 : ¬ (LogOK l)) : false = (syncN l).2 := by
  first | (rw [sync_yes ‹LogOK _›]; first | done | rfl | (dsimp only; omega)) | (rw [sync_no ‹¬ LogOK _›]; first | done | rfl | (dsimp only; omega))
theorem z_c_impl_SyncLog_39 (l : Log) (hp0 : (l.Durable.length : Int) + (l.Pending.length : Int) ≤ 4000000) (h21 : LogOK l) (hq32 : l.Durable.length + l.Pending.length ≤ 24360 ∧ 0 ≤ l.Count ∧ l.Count ≤ 60) : l.Durable ++ l.Pending = ((syncN l).1).Durable := by
  first | (rw [sync_yes ‹LogOK _›]; first | done | rfl | (dsimp only; omega)) | (rw [sync_no ‹¬ LogOK _›]; first | done | rfl | (dsimp only; omega))
theorem z_c_impl_SyncLog_40 (l : Log) (hp0 : (l.Durable.length : Int) + (l.Pending.length : Int) ≤ 4000000) (h21 : LogOK l) (hq32 : l.Durable.length + l.Pending.length ≤ 24360 ∧ 0 ≤ l.Count ∧ l.Count ≤ 60) : ([] : List UInt8) = ((syncN l).1).Pending := by
  first | (rw [sync_yes ‹LogOK _›]; first | done | rfl | (dsimp only; omega)) | (rw [sync_no ‹¬ LogOK _›]; first | done | rfl | (dsimp only; omega))
theorem z_c_impl_SyncLog_41 (l : Log) (hp0 : (l.Durable.length : Int) + (l.Pending.length : Int) ≤ 4000000) (h21 : LogOK l) (hq32 : l.Durable.length + l.Pending.length ≤ 24360 ∧ 0 ≤ l.Count ∧ l.Count ≤ 60) : l.Count = ((syncN l).1).Count := by
  first | (rw [sync_yes ‹LogOK _›]; first | done | rfl | (dsimp only; omega)) | (rw [sync_no ‹¬ LogOK _›]; first | done | rfl | (dsimp only; omega))
theorem z_c_impl_SyncLog_42 (l : Log) (hp0 : (l.Durable.length : Int) + (l.Pending.length : Int) ≤ 4000000) (h21 : LogOK l) (hq32 : l.Durable.length + l.Pending.length ≤ 24360 ∧ 0 ≤ l.Count ∧ l.Count ≤ 60) : true = (syncN l).2 := by
  first | (rw [sync_yes ‹LogOK _›]; first | done | rfl | (dsimp only; omega)) | (rw [sync_no ‹¬ LogOK _›]; first | done | rfl | (dsimp only; omega))
theorem c_impl_SyncLog (w : World) (l : Log) (hp0 : (l.Durable.length : Int) + (l.Pending.length : Int) ≤ 4000000) (hE : EnvW w) : Calls Tryd.prog 27 #[.agg (List.toArray (encLog l))] w fun e w' => e = .returned (.tuple (List.toArray [.agg (List.toArray [str (((syncN l).1).Durable), str (((syncN l).1).Pending), .int .i64 (((syncN l).1).Count)]), .bool ((syncN l).2)])) ∧ Lo w w' := by
  refine calls_W 16 Tryd.func27 rfl rfl rfl ?_
  refine W.seq ?_
  refine W.regS (SR.box (v := .agg (List.toArray _)) (l := [str l.Durable, str l.Pending, .int .i64 l.Count]) rfl rfl ?_)
  intro g1 w2 hg3 hk4 hs5 hb6
  have hz7 := hk4.size
  have hB8 := (Lo.refl w).lo hk4
  refine SR.alloc (l := [str ([] : List UInt8), str ([] : List UInt8), .int .i64 0]) tz31 rfl ?_
  intro g9 w10 hg11 hk12 hs13 hb14
  have hz15 := hk12.size
  have hB16 := hB8.lo hk12
  refine SR.q' (r_as (v := .bool false) rfl) <| SR.nil ?_
  refine W.seq ?_
  refine W.seq ?_
  refine W.regS (SR.q' (r_lda (l := [str l.Durable, str l.Pending, .int .i64 l.Count]) agg31 rfl (fun _ _ hu => ((hb6).lo hk12).cell hu) rfl) <| SR.call ent23 (c_impl_IsValidLog w10 l (by omega) (hE.lo (hB16))) rfl ?_)
  rintro e w17 ⟨rfl, hk18⟩
  refine ⟨_, rfl, ?_⟩
  have hz19 := hk18.size
  have hB20 := hB16.lo hk18
  refine SR.q' (r_not rfl) <| SR.nil ?_
  refine W.cond_n rfl (fun h21 => ?_) (fun h21 => ?_)
  · refine W.seq ?_
    refine W.regS (SR.q' (r_build (vs := []) rfl (bld31_)) <| SR.store (o := 0) (vs := [str ([] : List UInt8), str ([] : List UInt8), .int .i64 0]) agg31.2 rfl rfl rfl rfl ((hb14).lo hk18) (Nat.le_of_ble_eq_true rfl) rfl ?_)
    intro w22 hk23 hs24 hb25
    have hz26 := hk23.size
    have hB27 := hB20.new hk23 (by omega)
    refine SR.q' (r_as (v := .bool false) rfl) <| SR.nil ?_
    refine W.ret ?_
    refine retCT rfl rfl agg31 (hb25) rfl (v := .bool _) rfl ?_
    exact ⟨eR (eT2 (eA (eC (eS (z_c_impl_SyncLog_28 l hp0 h21)) (eC (eS (z_c_impl_SyncLog_29 l hp0 h21)) (eC (eI (z_c_impl_SyncLog_30 l hp0 h21)) rfl)))) (eB (z_c_impl_SyncLog_31 l hp0 h21))), hB27⟩
  · have hq32 := log_rng h21
    refine W.skip ?_
    refine W.seq ?_
    refine W.regS (SR.q' (r_fa fa31_0 rfl) <| SR.q' (r_ld (v := str l.Durable) sca9 rfl ((((hb6).lo hk12).lo hk18).cell rfl)) <| SR.q' (r_fa fa31_1 rfl) <| SR.q' (r_ld (v := str l.Pending) sca9 rfl ((((hb6).lo hk12).lo hk18).cell rfl)) <| SR.q' (r_cat rfl rfl (by first | omega | (simp only [List.length_append, List.length_cons, List.length_nil, List.length_take, List.length_drop]; omega) | (simp only [List.length_append, List.length_cons, List.length_nil, List.length_take, List.length_drop] at *; omega))) <| SR.q' (r_fa fa31_2 rfl) <| SR.q' (r_ld (v := .int .i64 l.Count) sca3 rfl ((((hb6).lo hk12).lo hk18).cell rfl)) <| SR.q' (r_build (vs := [(0, str (l.Durable ++ l.Pending)), (2, .int .i64 l.Count)]) rfl (bld31_0_2 _ _)) <| SR.store (o := 0) (vs := [str (l.Durable ++ l.Pending), str ([] : List UInt8), .int .i64 l.Count]) agg31.2 rfl rfl rfl rfl ((hb14).lo hk18) (Nat.le_of_ble_eq_true rfl) rfl ?_)
    intro w33 hk34 hs35 hb36
    have hz37 := hk34.size
    have hB38 := hB20.new hk34 (by omega)
    refine SR.q' (r_as (v := .bool true) rfl) <| SR.nil ?_
    refine W.ret ?_
    refine retCT rfl rfl agg31 (hb36) rfl (v := .bool _) rfl ?_
    exact ⟨eR (eT2 (eA (eC (eS (z_c_impl_SyncLog_39 l hp0 h21 hq32)) (eC (eS (z_c_impl_SyncLog_40 l hp0 h21 hq32)) (eC (eI (z_c_impl_SyncLog_41 l hp0 h21 hq32)) rfl)))) (eB (z_c_impl_SyncLog_42 l hp0 h21 hq32))), hB38⟩

theorem z_c_spec_SyncLog_28 (l : Log) (hp0 : (l.Durable.length : Int) + (l.Pending.length : Int) ≤ 4000000) (h21 : ¬ (LogOK l)) : ([] : List UInt8) = ((syncN l).1).Durable := by
  first | (rw [sync_yes ‹LogOK _›]; first | done | rfl | (dsimp only; omega)) | (rw [sync_no ‹¬ LogOK _›]; first | done | rfl | (dsimp only; omega))
theorem z_c_spec_SyncLog_29 (l : Log) (hp0 : (l.Durable.length : Int) + (l.Pending.length : Int) ≤ 4000000) (h21 : ¬ (LogOK l)) : ([] : List UInt8) = ((syncN l).1).Pending := by
  first | (rw [sync_yes ‹LogOK _›]; first | done | rfl | (dsimp only; omega)) | (rw [sync_no ‹¬ LogOK _›]; first | done | rfl | (dsimp only; omega))
theorem z_c_spec_SyncLog_30 (l : Log) (hp0 : (l.Durable.length : Int) + (l.Pending.length : Int) ≤ 4000000) (h21 : ¬ (LogOK l)) : 0 = ((syncN l).1).Count := by
  first | (rw [sync_yes ‹LogOK _›]; first | done | rfl | (dsimp only; omega)) | (rw [sync_no ‹¬ LogOK _›]; first | done | rfl | (dsimp only; omega))
theorem z_c_spec_SyncLog_31 (l : Log) (hp0 : (l.Durable.length : Int) + (l.Pending.length : Int) ≤ 4000000) (h21 : ¬ (LogOK l)) : false = (syncN l).2 := by
  first | (rw [sync_yes ‹LogOK _›]; first | done | rfl | (dsimp only; omega)) | (rw [sync_no ‹¬ LogOK _›]; first | done | rfl | (dsimp only; omega))
theorem z_c_spec_SyncLog_39 (l : Log) (hp0 : (l.Durable.length : Int) + (l.Pending.length : Int) ≤ 4000000) (h21 : LogOK l) (hq32 : l.Durable.length + l.Pending.length ≤ 24360 ∧ 0 ≤ l.Count ∧ l.Count ≤ 60) : l.Durable ++ l.Pending = ((syncN l).1).Durable := by
  first | (rw [sync_yes ‹LogOK _›]; first | done | rfl | (dsimp only; omega)) | (rw [sync_no ‹¬ LogOK _›]; first | done | rfl | (dsimp only; omega))
theorem z_c_spec_SyncLog_40 (l : Log) (hp0 : (l.Durable.length : Int) + (l.Pending.length : Int) ≤ 4000000) (h21 : LogOK l) (hq32 : l.Durable.length + l.Pending.length ≤ 24360 ∧ 0 ≤ l.Count ∧ l.Count ≤ 60) : ([] : List UInt8) = ((syncN l).1).Pending := by
  first | (rw [sync_yes ‹LogOK _›]; first | done | rfl | (dsimp only; omega)) | (rw [sync_no ‹¬ LogOK _›]; first | done | rfl | (dsimp only; omega))
theorem z_c_spec_SyncLog_41 (l : Log) (hp0 : (l.Durable.length : Int) + (l.Pending.length : Int) ≤ 4000000) (h21 : LogOK l) (hq32 : l.Durable.length + l.Pending.length ≤ 24360 ∧ 0 ≤ l.Count ∧ l.Count ≤ 60) : l.Count = ((syncN l).1).Count := by
  first | (rw [sync_yes ‹LogOK _›]; first | done | rfl | (dsimp only; omega)) | (rw [sync_no ‹¬ LogOK _›]; first | done | rfl | (dsimp only; omega))
theorem z_c_spec_SyncLog_42 (l : Log) (hp0 : (l.Durable.length : Int) + (l.Pending.length : Int) ≤ 4000000) (h21 : LogOK l) (hq32 : l.Durable.length + l.Pending.length ≤ 24360 ∧ 0 ≤ l.Count ∧ l.Count ≤ 60) : true = (syncN l).2 := by
  first | (rw [sync_yes ‹LogOK _›]; first | done | rfl | (dsimp only; omega)) | (rw [sync_no ‹¬ LogOK _›]; first | done | rfl | (dsimp only; omega))
theorem c_spec_SyncLog (w : World) (l : Log) (hp0 : (l.Durable.length : Int) + (l.Pending.length : Int) ≤ 4000000) : Calls Tryd.prog 26 #[.agg (List.toArray (encLog l))] w fun e w' => e = .returned (.tuple (List.toArray [.agg (List.toArray [str (((syncN l).1).Durable), str (((syncN l).1).Pending), .int .i64 (((syncN l).1).Count)]), .bool ((syncN l).2)])) ∧ Lo w w' := by
  refine calls_W 16 Tryd.func26 rfl rfl rfl ?_
  refine W.seq ?_
  refine W.regS (SR.box (v := .agg (List.toArray _)) (l := [str l.Durable, str l.Pending, .int .i64 l.Count]) rfl rfl ?_)
  intro g1 w2 hg3 hk4 hs5 hb6
  have hz7 := hk4.size
  have hB8 := (Lo.refl w).lo hk4
  refine SR.alloc (l := [str ([] : List UInt8), str ([] : List UInt8), .int .i64 0]) tz31 rfl ?_
  intro g9 w10 hg11 hk12 hs13 hb14
  have hz15 := hk12.size
  have hB16 := hB8.lo hk12
  refine SR.q' (r_as (v := .bool false) rfl) <| SR.nil ?_
  refine W.seq ?_
  refine W.seq ?_
  refine W.regS (SR.q' (r_lda (l := [str l.Durable, str l.Pending, .int .i64 l.Count]) agg31 rfl (fun _ _ hu => ((hb6).lo hk12).cell hu) rfl) <| SR.call ent50 (c_spec_l33Log w10 l (by omega)) rfl ?_)
  rintro e w17 ⟨rfl, hk18⟩
  refine ⟨_, rfl, ?_⟩
  have hz19 := hk18.size
  have hB20 := hB16.lo hk18
  refine SR.q' (r_not rfl) <| SR.nil ?_
  refine W.cond_n rfl (fun h21 => ?_) (fun h21 => ?_)
  · refine W.seq ?_
    refine W.regS (SR.q' (r_build (vs := []) rfl (bld31_)) <| SR.store (o := 0) (vs := [str ([] : List UInt8), str ([] : List UInt8), .int .i64 0]) agg31.2 rfl rfl rfl rfl ((hb14).lo hk18) (Nat.le_of_ble_eq_true rfl) rfl ?_)
    intro w22 hk23 hs24 hb25
    have hz26 := hk23.size
    have hB27 := hB20.new hk23 (by omega)
    refine SR.q' (r_as (v := .bool false) rfl) <| SR.nil ?_
    refine W.ret ?_
    refine retCT rfl rfl agg31 (hb25) rfl (v := .bool _) rfl ?_
    exact ⟨eR (eT2 (eA (eC (eS (z_c_spec_SyncLog_28 l hp0 h21)) (eC (eS (z_c_spec_SyncLog_29 l hp0 h21)) (eC (eI (z_c_spec_SyncLog_30 l hp0 h21)) rfl)))) (eB (z_c_spec_SyncLog_31 l hp0 h21))), hB27⟩
  · have hq32 := log_rng h21
    refine W.skip ?_
    refine W.seq ?_
    refine W.regS (SR.q' (r_fa fa31_0 rfl) <| SR.q' (r_ld (v := str l.Durable) sca9 rfl ((((hb6).lo hk12).lo hk18).cell rfl)) <| SR.q' (r_fa fa31_1 rfl) <| SR.q' (r_ld (v := str l.Pending) sca9 rfl ((((hb6).lo hk12).lo hk18).cell rfl)) <| SR.q' (r_cat rfl rfl (by first | omega | (simp only [List.length_append, List.length_cons, List.length_nil, List.length_take, List.length_drop]; omega) | (simp only [List.length_append, List.length_cons, List.length_nil, List.length_take, List.length_drop] at *; omega))) <| SR.q' (r_fa fa31_2 rfl) <| SR.q' (r_ld (v := .int .i64 l.Count) sca3 rfl ((((hb6).lo hk12).lo hk18).cell rfl)) <| SR.q' (r_build (vs := [(0, str (l.Durable ++ l.Pending)), (2, .int .i64 l.Count)]) rfl (bld31_0_2 _ _)) <| SR.store (o := 0) (vs := [str (l.Durable ++ l.Pending), str ([] : List UInt8), .int .i64 l.Count]) agg31.2 rfl rfl rfl rfl ((hb14).lo hk18) (Nat.le_of_ble_eq_true rfl) rfl ?_)
    intro w33 hk34 hs35 hb36
    have hz37 := hk34.size
    have hB38 := hB20.new hk34 (by omega)
    refine SR.q' (r_as (v := .bool true) rfl) <| SR.nil ?_
    refine W.ret ?_
    refine retCT rfl rfl agg31 (hb36) rfl (v := .bool _) rfl ?_
    exact ⟨eR (eT2 (eA (eC (eS (z_c_spec_SyncLog_39 l hp0 h21 hq32)) (eC (eS (z_c_spec_SyncLog_40 l hp0 h21 hq32)) (eC (eI (z_c_spec_SyncLog_41 l hp0 h21 hq32)) rfl)))) (eB (z_c_spec_SyncLog_42 l hp0 h21 hq32))), hB38⟩

theorem z_c_impl_RecoverLog_16 (s : List UInt8) (h9 : 30000 < (s.length : Int)) : ([] : List UInt8) = ((recovN s).1).Durable := by
  have hopn := opN_len s; first | (rw [recov_no (s := s) (by assumption)]; first | done | rfl | (dsimp only; omega)) | (rw [recov_yes (s := s) (by assumption)]; first | done | rfl | (dsimp only; omega)) | (subst ‹_ = (opN s).1.length›; rw [recov_yes (s := s) (by assumption)]; first | done | rfl | (dsimp only; omega)) | (rw [recov_yes (s := s) (by assumption), ← ‹_ = (opN s).1.length›]; first | done | rfl | (dsimp only; omega))
theorem z_c_impl_RecoverLog_17 (s : List UInt8) (h9 : 30000 < (s.length : Int)) : ([] : List UInt8) = ((recovN s).1).Pending := by
  have hopn := opN_len s; first | (rw [recov_no (s := s) (by assumption)]; first | done | rfl | (dsimp only; omega)) | (rw [recov_yes (s := s) (by assumption)]; first | done | rfl | (dsimp only; omega)) | (subst ‹_ = (opN s).1.length›; rw [recov_yes (s := s) (by assumption)]; first | done | rfl | (dsimp only; omega)) | (rw [recov_yes (s := s) (by assumption), ← ‹_ = (opN s).1.length›]; first | done | rfl | (dsimp only; omega))
theorem z_c_impl_RecoverLog_18 (s : List UInt8) (h9 : 30000 < (s.length : Int)) : 0 = ((recovN s).1).Count := by
  have hopn := opN_len s; first | (rw [recov_no (s := s) (by assumption)]; first | done | rfl | (dsimp only; omega)) | (rw [recov_yes (s := s) (by assumption)]; first | done | rfl | (dsimp only; omega)) | (subst ‹_ = (opN s).1.length›; rw [recov_yes (s := s) (by assumption)]; first | done | rfl | (dsimp only; omega)) | (rw [recov_yes (s := s) (by assumption), ← ‹_ = (opN s).1.length›]; first | done | rfl | (dsimp only; omega))
theorem z_c_impl_RecoverLog_19 (s : List UInt8) (h9 : 30000 < (s.length : Int)) : 0 = (recovN s).2.1 := by
  have hopn := opN_len s; first | (rw [recov_no (s := s) (by assumption)]; first | done | rfl | (dsimp only; omega)) | (rw [recov_yes (s := s) (by assumption)]; first | done | rfl | (dsimp only; omega)) | (subst ‹_ = (opN s).1.length›; rw [recov_yes (s := s) (by assumption)]; first | done | rfl | (dsimp only; omega)) | (rw [recov_yes (s := s) (by assumption), ← ‹_ = (opN s).1.length›]; first | done | rfl | (dsimp only; omega))
theorem z_c_impl_RecoverLog_20 (s : List UInt8) (h9 : 30000 < (s.length : Int)) : false = (recovN s).2.2 := by
  have hopn := opN_len s; first | (rw [recov_no (s := s) (by assumption)]; first | done | rfl | (dsimp only; omega)) | (rw [recov_yes (s := s) (by assumption)]; first | done | rfl | (dsimp only; omega)) | (subst ‹_ = (opN s).1.length›; rw [recov_yes (s := s) (by assumption)]; first | done | rfl | (dsimp only; omega)) | (rw [recov_yes (s := s) (by assumption), ← ‹_ = (opN s).1.length›]; first | done | rfl | (dsimp only; omega))
theorem z_c_impl_RecoverLog_38 (s : List UInt8) (h9 : ¬ (30000 < (s.length : Int))) (n24 : Nat) (hl29 : n24 = ((opN s).1).length) (hl30 : (n24 : Int) ≤ 9223372036854775807) (hq31 : (opN s).1.length ≤ 60 ∧ (opN s).2 ≤ s.length ∧ (opN s).2 ≤ 24360) : s.take (((opN s).2 : Int).toNat) = ((recovN s).1).Durable := by
  have hopn := opN_len s; first | (rw [recov_no (s := s) (by assumption)]; first | done | rfl | (dsimp only; omega)) | (rw [recov_yes (s := s) (by assumption)]; first | done | rfl | (dsimp only; omega)) | (subst ‹_ = (opN s).1.length›; rw [recov_yes (s := s) (by assumption)]; first | done | rfl | (dsimp only; omega)) | (rw [recov_yes (s := s) (by assumption), ← ‹_ = (opN s).1.length›]; first | done | rfl | (dsimp only; omega))
theorem z_c_impl_RecoverLog_39 (s : List UInt8) (h9 : ¬ (30000 < (s.length : Int))) (n24 : Nat) (hl29 : n24 = ((opN s).1).length) (hl30 : (n24 : Int) ≤ 9223372036854775807) (hq31 : (opN s).1.length ≤ 60 ∧ (opN s).2 ≤ s.length ∧ (opN s).2 ≤ 24360) : ([] : List UInt8) = ((recovN s).1).Pending := by
  have hopn := opN_len s; first | (rw [recov_no (s := s) (by assumption)]; first | done | rfl | (dsimp only; omega)) | (rw [recov_yes (s := s) (by assumption)]; first | done | rfl | (dsimp only; omega)) | (subst ‹_ = (opN s).1.length›; rw [recov_yes (s := s) (by assumption)]; first | done | rfl | (dsimp only; omega)) | (rw [recov_yes (s := s) (by assumption), ← ‹_ = (opN s).1.length›]; first | done | rfl | (dsimp only; omega))
theorem z_c_impl_RecoverLog_40 (s : List UInt8) (h9 : ¬ (30000 < (s.length : Int))) (n24 : Nat) (hl29 : n24 = ((opN s).1).length) (hl30 : (n24 : Int) ≤ 9223372036854775807) (hq31 : (opN s).1.length ≤ 60 ∧ (opN s).2 ≤ s.length ∧ (opN s).2 ≤ 24360) : (n24 : Int) = ((recovN s).1).Count := by
  have hopn := opN_len s; first | (rw [recov_no (s := s) (by assumption)]; first | done | rfl | (dsimp only; omega)) | (rw [recov_yes (s := s) (by assumption)]; first | done | rfl | (dsimp only; omega)) | (subst ‹_ = (opN s).1.length›; rw [recov_yes (s := s) (by assumption)]; first | done | rfl | (dsimp only; omega)) | (rw [recov_yes (s := s) (by assumption), ← ‹_ = (opN s).1.length›]; first | done | rfl | (dsimp only; omega))
theorem z_c_impl_RecoverLog_41 (s : List UInt8) (h9 : ¬ (30000 < (s.length : Int))) (n24 : Nat) (hl29 : n24 = ((opN s).1).length) (hl30 : (n24 : Int) ≤ 9223372036854775807) (hq31 : (opN s).1.length ≤ 60 ∧ (opN s).2 ≤ s.length ∧ (opN s).2 ≤ 24360) : ((opN s).2 : Int) = (recovN s).2.1 := by
  have hopn := opN_len s; first | (rw [recov_no (s := s) (by assumption)]; first | done | rfl | (dsimp only; omega)) | (rw [recov_yes (s := s) (by assumption)]; first | done | rfl | (dsimp only; omega)) | (subst ‹_ = (opN s).1.length›; rw [recov_yes (s := s) (by assumption)]; first | done | rfl | (dsimp only; omega)) | (rw [recov_yes (s := s) (by assumption), ← ‹_ = (opN s).1.length›]; first | done | rfl | (dsimp only; omega))
theorem z_c_impl_RecoverLog_42 (s : List UInt8) (h9 : ¬ (30000 < (s.length : Int))) (n24 : Nat) (hl29 : n24 = ((opN s).1).length) (hl30 : (n24 : Int) ≤ 9223372036854775807) (hq31 : (opN s).1.length ≤ 60 ∧ (opN s).2 ≤ s.length ∧ (opN s).2 ≤ 24360) : true = (recovN s).2.2 := by
  have hopn := opN_len s; first | (rw [recov_no (s := s) (by assumption)]; first | done | rfl | (dsimp only; omega)) | (rw [recov_yes (s := s) (by assumption)]; first | done | rfl | (dsimp only; omega)) | (subst ‹_ = (opN s).1.length›; rw [recov_yes (s := s) (by assumption)]; first | done | rfl | (dsimp only; omega)) | (rw [recov_yes (s := s) (by assumption), ← ‹_ = (opN s).1.length›]; first | done | rfl | (dsimp only; omega))
theorem c_impl_RecoverLog (w : World) (s : List UInt8) (hE : EnvW w) : Calls Tryd.prog 18 #[str s] w fun e w' => e = .returned (.tuple (List.toArray [.agg (List.toArray [str (((recovN s).1).Durable), str (((recovN s).1).Pending), .int .i64 (((recovN s).1).Count)]), .int .i64 ((recovN s).2.1), .bool ((recovN s).2.2)])) ∧ Lo w w' := by
  refine calls_W 23 Tryd.func18 rfl rfl rfl ?_
  refine W.seq ?_
  refine W.regS (SR.alloc (l := [str ([] : List UInt8), str ([] : List UInt8), .int .i64 0]) tz31 rfl ?_)
  intro g1 w2 hg3 hk4 hs5 hb6
  have hz7 := hk4.size
  have hB8 := (Lo.refl w).lo hk4
  refine SR.q' (r_as (v := .int .i64 0) rfl) <| SR.q' (r_as (v := .bool false) rfl) <| SR.nil ?_
  refine W.seq ?_
  refine W.seq ?_
  refine W.regS (SR.q' (r_mv (v := str _) rfl) <| SR.q' (r_len_s und9 rfl) <| SR.q' (r_gt rfl rfl) <| SR.nil ?_)
  refine W.cond_d rfl (fun h9 => ?_) (fun h9 => ?_)
  · refine W.seq ?_
    refine W.regS (SR.q' (r_build (vs := []) rfl (bld31_)) <| SR.store (o := 0) (vs := [str ([] : List UInt8), str ([] : List UInt8), .int .i64 0]) agg31.2 rfl rfl rfl rfl (hb6) (Nat.le_of_ble_eq_true rfl) rfl ?_)
    intro w10 hk11 hs12 hb13
    have hz14 := hk11.size
    have hB15 := hB8.new hk11 (by omega)
    refine SR.q' (r_as (v := .int .i64 0) rfl) <| SR.q' (r_as (v := .bool false) rfl) <| SR.nil ?_
    refine W.ret ?_
    refine retCTT rfl rfl agg31 (hb13) rfl (v := .int .i64 _) rfl (v' := .bool _) rfl ?_
    exact ⟨eR (eT3 (eA (eC (eS (z_c_impl_RecoverLog_16 s h9)) (eC (eS (z_c_impl_RecoverLog_17 s h9)) (eC (eI (z_c_impl_RecoverLog_18 s h9)) rfl)))) (eI (z_c_impl_RecoverLog_19 s h9)) (eB (z_c_impl_RecoverLog_20 s h9))), hB15⟩
  · refine W.skip ?_
    refine W.seq ?_
    refine W.regS (SR.q' (r_mv (v := str _) rfl) <| SR.call ent49 (c_impl_recovered w2 s (by first | omega | (simp only [List.length_append, List.length_cons, List.length_nil, List.length_take, List.length_drop]; omega)) (hE.lo (hB8))) rfl ?_)
    rintro e w21 ⟨A23, n24, c25, rfl, hO26, hk22⟩
    refine ⟨_, rfl, ?_⟩
    have hz27 := hk22.size
    have hB28 := hB8.lo hk22
    have hl29 := hO26.len
    have hl30 := hO26.rd.bound
    have hq31 : (opN s).1.length ≤ 60 ∧ (opN s).2 ≤ s.length ∧ (opN s).2 ≤ 24360 := opN_len s
    refine SR.q' (r_mv (v := .tuple (List.toArray _)) rfl) <| SR.q' (r_ext (v := .slice _ _ _) rfl rfl) <| SR.q' (r_ext (v := .int .i64 _) rfl rfl) <| SR.q' (r_as (v := .slice _ _ _) rfl) <| SR.q' (r_as (v := .int .i64 _) rfl) <| SR.nil ?_
    refine W.seq ?_
    refine W.regS (SR.q' (r_mv (v := str _) rfl) <| SR.q' (r_mv (v := .int .i64 _) rfl) <| SR.q' (r_cuthS (h := ((opN s).2 : Int).toNat) und9 rfl rfl (by omega) (by first | omega | (simp only [List.length_append, List.length_cons, List.length_nil, List.length_take, List.length_drop]; omega) | (simp only [List.length_append, List.length_cons, List.length_nil, List.length_take, List.length_drop] at *; omega))) <| SR.q' (r_mv (v := .slice _ _ _) rfl) <| SR.q' (r_len und48 rfl) <| SR.q' (r_build (vs := [(0, str (s.take (((opN s).2 : Int).toNat))), (2, .int .i64 (n24 : Int))]) rfl (bld31_0_2 _ _)) <| SR.q' (r_mv (v := .int .i64 _) rfl) <| SR.store (o := 0) (vs := [str (s.take (((opN s).2 : Int).toNat)), str ([] : List UInt8), .int .i64 (n24 : Int)]) agg31.2 rfl rfl rfl rfl ((hb6).lo hk22) (Nat.le_of_ble_eq_true rfl) rfl ?_)
    intro w32 hk33 hs34 hb35
    have hz36 := hk33.size
    have hB37 := hB28.new hk33 (by omega)
    refine SR.q' (r_as (v := .int .i64 _) rfl) <| SR.q' (r_as (v := .bool true) rfl) <| SR.nil ?_
    refine W.ret ?_
    refine retCTT rfl rfl agg31 (hb35) rfl (v := .int .i64 _) rfl (v' := .bool _) rfl ?_
    exact ⟨eR (eT3 (eA (eC (eS (z_c_impl_RecoverLog_38 s h9 n24 hl29 hl30 hq31)) (eC (eS (z_c_impl_RecoverLog_39 s h9 n24 hl29 hl30 hq31)) (eC (eI (z_c_impl_RecoverLog_40 s h9 n24 hl29 hl30 hq31)) rfl)))) (eI (z_c_impl_RecoverLog_41 s h9 n24 hl29 hl30 hq31)) (eB (z_c_impl_RecoverLog_42 s h9 n24 hl29 hl30 hq31))), hB37⟩

theorem z_c_spec_RecoverLog_16 (s : List UInt8) (h9 : 30000 < (s.length : Int)) : ([] : List UInt8) = ((recovN s).1).Durable := by
  have hopn := opN_len s; first | (rw [recov_no (s := s) (by assumption)]; first | done | rfl | (dsimp only; omega)) | (rw [recov_yes (s := s) (by assumption)]; first | done | rfl | (dsimp only; omega)) | (subst ‹_ = (opN s).1.length›; rw [recov_yes (s := s) (by assumption)]; first | done | rfl | (dsimp only; omega)) | (rw [recov_yes (s := s) (by assumption), ← ‹_ = (opN s).1.length›]; first | done | rfl | (dsimp only; omega))
theorem z_c_spec_RecoverLog_17 (s : List UInt8) (h9 : 30000 < (s.length : Int)) : ([] : List UInt8) = ((recovN s).1).Pending := by
  have hopn := opN_len s; first | (rw [recov_no (s := s) (by assumption)]; first | done | rfl | (dsimp only; omega)) | (rw [recov_yes (s := s) (by assumption)]; first | done | rfl | (dsimp only; omega)) | (subst ‹_ = (opN s).1.length›; rw [recov_yes (s := s) (by assumption)]; first | done | rfl | (dsimp only; omega)) | (rw [recov_yes (s := s) (by assumption), ← ‹_ = (opN s).1.length›]; first | done | rfl | (dsimp only; omega))
theorem z_c_spec_RecoverLog_18 (s : List UInt8) (h9 : 30000 < (s.length : Int)) : 0 = ((recovN s).1).Count := by
  have hopn := opN_len s; first | (rw [recov_no (s := s) (by assumption)]; first | done | rfl | (dsimp only; omega)) | (rw [recov_yes (s := s) (by assumption)]; first | done | rfl | (dsimp only; omega)) | (subst ‹_ = (opN s).1.length›; rw [recov_yes (s := s) (by assumption)]; first | done | rfl | (dsimp only; omega)) | (rw [recov_yes (s := s) (by assumption), ← ‹_ = (opN s).1.length›]; first | done | rfl | (dsimp only; omega))
theorem z_c_spec_RecoverLog_19 (s : List UInt8) (h9 : 30000 < (s.length : Int)) : 0 = (recovN s).2.1 := by
  have hopn := opN_len s; first | (rw [recov_no (s := s) (by assumption)]; first | done | rfl | (dsimp only; omega)) | (rw [recov_yes (s := s) (by assumption)]; first | done | rfl | (dsimp only; omega)) | (subst ‹_ = (opN s).1.length›; rw [recov_yes (s := s) (by assumption)]; first | done | rfl | (dsimp only; omega)) | (rw [recov_yes (s := s) (by assumption), ← ‹_ = (opN s).1.length›]; first | done | rfl | (dsimp only; omega))
theorem z_c_spec_RecoverLog_20 (s : List UInt8) (h9 : 30000 < (s.length : Int)) : false = (recovN s).2.2 := by
  have hopn := opN_len s; first | (rw [recov_no (s := s) (by assumption)]; first | done | rfl | (dsimp only; omega)) | (rw [recov_yes (s := s) (by assumption)]; first | done | rfl | (dsimp only; omega)) | (subst ‹_ = (opN s).1.length›; rw [recov_yes (s := s) (by assumption)]; first | done | rfl | (dsimp only; omega)) | (rw [recov_yes (s := s) (by assumption), ← ‹_ = (opN s).1.length›]; first | done | rfl | (dsimp only; omega))
theorem z_c_spec_RecoverLog_38 (s : List UInt8) (h9 : ¬ (30000 < (s.length : Int))) (n24 : Nat) (hl29 : n24 = ((opN s).1).length) (hl30 : (n24 : Int) ≤ 9223372036854775807) (hq31 : (opN s).1.length ≤ 60 ∧ (opN s).2 ≤ s.length ∧ (opN s).2 ≤ 24360) : s.take (((opN s).2 : Int).toNat) = ((recovN s).1).Durable := by
  have hopn := opN_len s; first | (rw [recov_no (s := s) (by assumption)]; first | done | rfl | (dsimp only; omega)) | (rw [recov_yes (s := s) (by assumption)]; first | done | rfl | (dsimp only; omega)) | (subst ‹_ = (opN s).1.length›; rw [recov_yes (s := s) (by assumption)]; first | done | rfl | (dsimp only; omega)) | (rw [recov_yes (s := s) (by assumption), ← ‹_ = (opN s).1.length›]; first | done | rfl | (dsimp only; omega))
theorem z_c_spec_RecoverLog_39 (s : List UInt8) (h9 : ¬ (30000 < (s.length : Int))) (n24 : Nat) (hl29 : n24 = ((opN s).1).length) (hl30 : (n24 : Int) ≤ 9223372036854775807) (hq31 : (opN s).1.length ≤ 60 ∧ (opN s).2 ≤ s.length ∧ (opN s).2 ≤ 24360) : ([] : List UInt8) = ((recovN s).1).Pending := by
  have hopn := opN_len s; first | (rw [recov_no (s := s) (by assumption)]; first | done | rfl | (dsimp only; omega)) | (rw [recov_yes (s := s) (by assumption)]; first | done | rfl | (dsimp only; omega)) | (subst ‹_ = (opN s).1.length›; rw [recov_yes (s := s) (by assumption)]; first | done | rfl | (dsimp only; omega)) | (rw [recov_yes (s := s) (by assumption), ← ‹_ = (opN s).1.length›]; first | done | rfl | (dsimp only; omega))
theorem z_c_spec_RecoverLog_40 (s : List UInt8) (h9 : ¬ (30000 < (s.length : Int))) (n24 : Nat) (hl29 : n24 = ((opN s).1).length) (hl30 : (n24 : Int) ≤ 9223372036854775807) (hq31 : (opN s).1.length ≤ 60 ∧ (opN s).2 ≤ s.length ∧ (opN s).2 ≤ 24360) : (n24 : Int) = ((recovN s).1).Count := by
  have hopn := opN_len s; first | (rw [recov_no (s := s) (by assumption)]; first | done | rfl | (dsimp only; omega)) | (rw [recov_yes (s := s) (by assumption)]; first | done | rfl | (dsimp only; omega)) | (subst ‹_ = (opN s).1.length›; rw [recov_yes (s := s) (by assumption)]; first | done | rfl | (dsimp only; omega)) | (rw [recov_yes (s := s) (by assumption), ← ‹_ = (opN s).1.length›]; first | done | rfl | (dsimp only; omega))
theorem z_c_spec_RecoverLog_41 (s : List UInt8) (h9 : ¬ (30000 < (s.length : Int))) (n24 : Nat) (hl29 : n24 = ((opN s).1).length) (hl30 : (n24 : Int) ≤ 9223372036854775807) (hq31 : (opN s).1.length ≤ 60 ∧ (opN s).2 ≤ s.length ∧ (opN s).2 ≤ 24360) : ((opN s).2 : Int) = (recovN s).2.1 := by
  have hopn := opN_len s; first | (rw [recov_no (s := s) (by assumption)]; first | done | rfl | (dsimp only; omega)) | (rw [recov_yes (s := s) (by assumption)]; first | done | rfl | (dsimp only; omega)) | (subst ‹_ = (opN s).1.length›; rw [recov_yes (s := s) (by assumption)]; first | done | rfl | (dsimp only; omega)) | (rw [recov_yes (s := s) (by assumption), ← ‹_ = (opN s).1.length›]; first | done | rfl | (dsimp only; omega))
theorem z_c_spec_RecoverLog_42 (s : List UInt8) (h9 : ¬ (30000 < (s.length : Int))) (n24 : Nat) (hl29 : n24 = ((opN s).1).length) (hl30 : (n24 : Int) ≤ 9223372036854775807) (hq31 : (opN s).1.length ≤ 60 ∧ (opN s).2 ≤ s.length ∧ (opN s).2 ≤ 24360) : true = (recovN s).2.2 := by
  have hopn := opN_len s; first | (rw [recov_no (s := s) (by assumption)]; first | done | rfl | (dsimp only; omega)) | (rw [recov_yes (s := s) (by assumption)]; first | done | rfl | (dsimp only; omega)) | (subst ‹_ = (opN s).1.length›; rw [recov_yes (s := s) (by assumption)]; first | done | rfl | (dsimp only; omega)) | (rw [recov_yes (s := s) (by assumption), ← ‹_ = (opN s).1.length›]; first | done | rfl | (dsimp only; omega))
theorem c_spec_RecoverLog (w : World) (s : List UInt8) : Calls Tryd.prog 17 #[str s] w fun e w' => e = .returned (.tuple (List.toArray [.agg (List.toArray [str (((recovN s).1).Durable), str (((recovN s).1).Pending), .int .i64 (((recovN s).1).Count)]), .int .i64 ((recovN s).2.1), .bool ((recovN s).2.2)])) ∧ Lo w w' := by
  refine calls_W 23 Tryd.func17 rfl rfl rfl ?_
  refine W.seq ?_
  refine W.regS (SR.alloc (l := [str ([] : List UInt8), str ([] : List UInt8), .int .i64 0]) tz31 rfl ?_)
  intro g1 w2 hg3 hk4 hs5 hb6
  have hz7 := hk4.size
  have hB8 := (Lo.refl w).lo hk4
  refine SR.q' (r_as (v := .int .i64 0) rfl) <| SR.q' (r_as (v := .bool false) rfl) <| SR.nil ?_
  refine W.seq ?_
  refine W.seq ?_
  refine W.regS (SR.q' (r_mv (v := str _) rfl) <| SR.q' (r_len_s und9 rfl) <| SR.q' (r_gt rfl rfl) <| SR.nil ?_)
  refine W.cond_d rfl (fun h9 => ?_) (fun h9 => ?_)
  · refine W.seq ?_
    refine W.regS (SR.q' (r_build (vs := []) rfl (bld31_)) <| SR.store (o := 0) (vs := [str ([] : List UInt8), str ([] : List UInt8), .int .i64 0]) agg31.2 rfl rfl rfl rfl (hb6) (Nat.le_of_ble_eq_true rfl) rfl ?_)
    intro w10 hk11 hs12 hb13
    have hz14 := hk11.size
    have hB15 := hB8.new hk11 (by omega)
    refine SR.q' (r_as (v := .int .i64 0) rfl) <| SR.q' (r_as (v := .bool false) rfl) <| SR.nil ?_
    refine W.ret ?_
    refine retCTT rfl rfl agg31 (hb13) rfl (v := .int .i64 _) rfl (v' := .bool _) rfl ?_
    exact ⟨eR (eT3 (eA (eC (eS (z_c_spec_RecoverLog_16 s h9)) (eC (eS (z_c_spec_RecoverLog_17 s h9)) (eC (eI (z_c_spec_RecoverLog_18 s h9)) rfl)))) (eI (z_c_spec_RecoverLog_19 s h9)) (eB (z_c_spec_RecoverLog_20 s h9))), hB15⟩
  · refine W.skip ?_
    refine W.seq ?_
    refine W.regS (SR.q' (r_mv (v := str _) rfl) <| SR.call ent48 (c_spec_l33Open w2 s (by first | omega | (simp only [List.length_append, List.length_cons, List.length_nil, List.length_take, List.length_drop]; omega))) rfl ?_)
    rintro e w21 ⟨A23, n24, c25, rfl, hO26, hk22⟩
    refine ⟨_, rfl, ?_⟩
    have hz27 := hk22.size
    have hB28 := hB8.lo hk22
    have hl29 := hO26.len
    have hl30 := hO26.rd.bound
    have hq31 : (opN s).1.length ≤ 60 ∧ (opN s).2 ≤ s.length ∧ (opN s).2 ≤ 24360 := opN_len s
    refine SR.q' (r_mv (v := .tuple (List.toArray _)) rfl) <| SR.q' (r_ext (v := .slice _ _ _) rfl rfl) <| SR.q' (r_ext (v := .int .i64 _) rfl rfl) <| SR.q' (r_as (v := .slice _ _ _) rfl) <| SR.q' (r_as (v := .int .i64 _) rfl) <| SR.nil ?_
    refine W.seq ?_
    refine W.regS (SR.q' (r_mv (v := str _) rfl) <| SR.q' (r_mv (v := .int .i64 _) rfl) <| SR.q' (r_cuthS (h := ((opN s).2 : Int).toNat) und9 rfl rfl (by omega) (by first | omega | (simp only [List.length_append, List.length_cons, List.length_nil, List.length_take, List.length_drop]; omega) | (simp only [List.length_append, List.length_cons, List.length_nil, List.length_take, List.length_drop] at *; omega))) <| SR.q' (r_mv (v := .slice _ _ _) rfl) <| SR.q' (r_len und48 rfl) <| SR.q' (r_build (vs := [(0, str (s.take (((opN s).2 : Int).toNat))), (2, .int .i64 (n24 : Int))]) rfl (bld31_0_2 _ _)) <| SR.q' (r_mv (v := .int .i64 _) rfl) <| SR.store (o := 0) (vs := [str (s.take (((opN s).2 : Int).toNat)), str ([] : List UInt8), .int .i64 (n24 : Int)]) agg31.2 rfl rfl rfl rfl ((hb6).lo hk22) (Nat.le_of_ble_eq_true rfl) rfl ?_)
    intro w32 hk33 hs34 hb35
    have hz36 := hk33.size
    have hB37 := hB28.new hk33 (by omega)
    refine SR.q' (r_as (v := .int .i64 _) rfl) <| SR.q' (r_as (v := .bool true) rfl) <| SR.nil ?_
    refine W.ret ?_
    refine retCTT rfl rfl agg31 (hb35) rfl (v := .int .i64 _) rfl (v' := .bool _) rfl ?_
    exact ⟨eR (eT3 (eA (eC (eS (z_c_spec_RecoverLog_38 s h9 n24 hl29 hl30 hq31)) (eC (eS (z_c_spec_RecoverLog_39 s h9 n24 hl29 hl30 hq31)) (eC (eI (z_c_spec_RecoverLog_40 s h9 n24 hl29 hl30 hq31)) rfl)))) (eI (z_c_spec_RecoverLog_41 s h9 n24 hl29 hl30 hq31)) (eB (z_c_spec_RecoverLog_42 s h9 n24 hl29 hl30 hq31))), hB37⟩

theorem z_c_impl_LogRecords_14 (l : Log) (hp0 : (l.Durable.length : Int) + (l.Pending.length : Int) ≤ 4000000) (h13 : ¬ (LogOK l)) : ([] : List LogRecord) = (recsN l).1 := by
  first | (rw [recs_yes ‹LogOK _›]; first | done | rfl | (dsimp only; omega)) | (rw [recs_no ‹¬ LogOK _›]; first | done | rfl | (dsimp only; omega))
theorem z_c_impl_LogRecords_15 (l : Log) (hp0 : (l.Durable.length : Int) + (l.Pending.length : Int) ≤ 4000000) (h13 : ¬ (LogOK l)) : false = (recsN l).2 := by
  first | (rw [recs_yes ‹LogOK _›]; first | done | rfl | (dsimp only; omega)) | (rw [recs_no ‹¬ LogOK _›]; first | done | rfl | (dsimp only; omega))
theorem z_c_impl_LogRecords_28 (l : Log) (hp0 : (l.Durable.length : Int) + (l.Pending.length : Int) ≤ 4000000) (h13 : LogOK l) (hq16 : l.Durable.length + l.Pending.length ≤ 24360 ∧ 0 ≤ l.Count ∧ l.Count ≤ 60) (n20 : Nat) (hl25 : n20 = ((opN (l.Durable ++ l.Pending)).1).length) (hl26 : (n20 : Int) ≤ 9223372036854775807) (hq27 : (opN (l.Durable ++ l.Pending)).1.length ≤ 60 ∧ (opN (l.Durable ++ l.Pending)).2 ≤ (l.Durable ++ l.Pending).length ∧ (opN (l.Durable ++ l.Pending)).2 ≤ 24360) : (opN (l.Durable ++ l.Pending)).1 = (recsN l).1 := by
  first | (rw [recs_yes ‹LogOK _›]; first | done | rfl | (dsimp only; omega)) | (rw [recs_no ‹¬ LogOK _›]; first | done | rfl | (dsimp only; omega))
theorem z_c_impl_LogRecords_29 (l : Log) (hp0 : (l.Durable.length : Int) + (l.Pending.length : Int) ≤ 4000000) (h13 : LogOK l) (hq16 : l.Durable.length + l.Pending.length ≤ 24360 ∧ 0 ≤ l.Count ∧ l.Count ≤ 60) (n20 : Nat) (hl25 : n20 = ((opN (l.Durable ++ l.Pending)).1).length) (hl26 : (n20 : Int) ≤ 9223372036854775807) (hq27 : (opN (l.Durable ++ l.Pending)).1.length ≤ 60 ∧ (opN (l.Durable ++ l.Pending)).2 ≤ (l.Durable ++ l.Pending).length ∧ (opN (l.Durable ++ l.Pending)).2 ≤ 24360) : true = (recsN l).2 := by
  first | (rw [recs_yes ‹LogOK _›]; first | done | rfl | (dsimp only; omega)) | (rw [recs_no ‹¬ LogOK _›]; first | done | rfl | (dsimp only; omega))
theorem c_impl_LogRecords (w : World) (l : Log) (hp0 : (l.Durable.length : Int) + (l.Pending.length : Int) ≤ 4000000) (hE : EnvW w) : Calls Tryd.prog 31 #[.agg (List.toArray (encLog l))] w fun e w' => ∃ (A1' : Option Addr) (n1' c1' : Nat), e = .returned (.tuple (List.toArray [.slice A1' n1' c1', .bool ((recsN l).2)])) ∧ SlO w' w.heap.size encLogRecord 2 27 A1' n1' c1' ((recsN l).1) ∧ Lo w w' := by
  refine calls_W 19 Tryd.func31 rfl rfl rfl ?_
  refine W.seq ?_
  refine W.regS (SR.box (v := .agg (List.toArray _)) (l := [str l.Durable, str l.Pending, .int .i64 l.Count]) rfl rfl ?_)
  intro g1 w2 hg3 hk4 hs5 hb6
  have hz7 := hk4.size
  have hB8 := (Lo.refl w).lo hk4
  refine SR.q' (r_as (v := .slice none 0 0) rfl) <| SR.q' (r_as (v := .bool false) rfl) <| SR.nil ?_
  refine W.seq ?_
  refine W.seq ?_
  refine W.regS (SR.q' (r_lda (l := [str l.Durable, str l.Pending, .int .i64 l.Count]) agg31 rfl (fun _ _ hu => (hb6).cell hu) rfl) <| SR.call ent23 (c_impl_IsValidLog w2 l (by omega) (hE.lo (hB8))) rfl ?_)
  rintro e w9 ⟨rfl, hk10⟩
  refine ⟨_, rfl, ?_⟩
  have hz11 := hk10.size
  have hB12 := hB8.lo hk10
  refine SR.q' (r_not rfl) <| SR.nil ?_
  refine W.cond_n rfl (fun h13 => ?_) (fun h13 => ?_)
  · refine W.seq ?_
    refine W.regS (SR.q' (r_as (v := .slice none 0 0) rfl) <| SR.q' (r_as (v := .bool false) rfl) <| SR.nil ?_)
    refine W.ret ?_
    refine ret2 rfl (v := .slice none 0 0) (v' := .bool _) rfl rfl ?_
    exact ⟨none, 0, 0, eR (eT2 rfl (eB (z_c_impl_LogRecords_15 l hp0 h13))), (SlO.eqv (SlO.nil (e := 27) (enc := encLogRecord) (fun _ => rfl) (by omega)) (z_c_impl_LogRecords_14 l hp0 h13)), hB12⟩
  · have hq16 := log_rng h13
    refine W.skip ?_
    refine W.seq ?_
    refine W.regS (SR.q' (r_fa fa31_0 rfl) <| SR.q' (r_ld (v := str l.Durable) sca9 rfl (((hb6).lo hk10).cell rfl)) <| SR.q' (r_fa fa31_1 rfl) <| SR.q' (r_ld (v := str l.Pending) sca9 rfl (((hb6).lo hk10).cell rfl)) <| SR.q' (r_cat rfl rfl (by first | omega | (simp only [List.length_append, List.length_cons, List.length_nil, List.length_take, List.length_drop]; omega) | (simp only [List.length_append, List.length_cons, List.length_nil, List.length_take, List.length_drop] at *; omega))) <| SR.call ent49 (c_impl_recovered w9 (l.Durable ++ l.Pending) (by first | omega | (simp only [List.length_append, List.length_cons, List.length_nil, List.length_take, List.length_drop]; omega)) (hE.lo (hB12))) rfl ?_)
    rintro e w17 ⟨A19, n20, c21, rfl, hO22, hk18⟩
    refine ⟨_, rfl, ?_⟩
    have hz23 := hk18.size
    have hB24 := hB12.lo hk18
    have hl25 := hO22.len
    have hl26 := hO22.rd.bound
    have hq27 : (opN (l.Durable ++ l.Pending)).1.length ≤ 60 ∧ (opN (l.Durable ++ l.Pending)).2 ≤ (l.Durable ++ l.Pending).length ∧ (opN (l.Durable ++ l.Pending)).2 ≤ 24360 := opN_len (l.Durable ++ l.Pending)
    refine SR.q' (r_mv (v := .tuple (List.toArray _)) rfl) <| SR.q' (r_ext (v := .slice _ _ _) rfl rfl) <| SR.q' (r_ext (v := .int .i64 _) rfl rfl) <| SR.q' (r_as (v := .slice _ _ _) rfl) <| SR.q' (r_as (v := .int .i64 _) rfl) <| SR.nil ?_
    refine W.seq ?_
    refine W.regS (SR.q' (r_mv (v := .slice _ _ _) rfl) <| SR.q' (r_as (v := .slice _ _ _) rfl) <| SR.q' (r_as (v := .bool true) rfl) <| SR.nil ?_)
    refine W.ret ?_
    refine ret2 rfl (v := .slice _ _ _) (v' := .bool _) rfl rfl ?_
    exact ⟨A19, n20, c21, eR (eT2 rfl (eB (z_c_impl_LogRecords_29 l hp0 h13 hq16 n20 hl25 hl26 hq27))), (SlO.eqv ((hO22).down (by omega)) (z_c_impl_LogRecords_28 l hp0 h13 hq16 n20 hl25 hl26 hq27)), hB24⟩

theorem z_c_spec_LogRecords_21 (l : Log) (hp0 : (l.Durable.length : Int) + (l.Pending.length : Int) ≤ 4000000) (h13 : ¬ (LogOK l)) : ([] : List LogRecord) = (recsN l).1 := by
  first | (rw [recs_yes ‹LogOK _›]; first | done | rfl | (dsimp only; omega)) | (rw [recs_no ‹¬ LogOK _›]; first | done | rfl | (dsimp only; omega))
theorem z_c_spec_LogRecords_22 (l : Log) (hp0 : (l.Durable.length : Int) + (l.Pending.length : Int) ≤ 4000000) (h13 : ¬ (LogOK l)) : false = (recsN l).2 := by
  first | (rw [recs_yes ‹LogOK _›]; first | done | rfl | (dsimp only; omega)) | (rw [recs_no ‹¬ LogOK _›]; first | done | rfl | (dsimp only; omega))
theorem z_c_spec_LogRecords_35 (l : Log) (hp0 : (l.Durable.length : Int) + (l.Pending.length : Int) ≤ 4000000) (h13 : LogOK l) (hq23 : l.Durable.length + l.Pending.length ≤ 24360 ∧ 0 ≤ l.Count ∧ l.Count ≤ 60) (n27 : Nat) (hl32 : n27 = ((opN (l.Durable ++ l.Pending)).1).length) (hl33 : (n27 : Int) ≤ 9223372036854775807) (hq34 : (opN (l.Durable ++ l.Pending)).1.length ≤ 60 ∧ (opN (l.Durable ++ l.Pending)).2 ≤ (l.Durable ++ l.Pending).length ∧ (opN (l.Durable ++ l.Pending)).2 ≤ 24360) : (opN (l.Durable ++ l.Pending)).1 = (recsN l).1 := by
  first | (rw [recs_yes ‹LogOK _›]; first | done | rfl | (dsimp only; omega)) | (rw [recs_no ‹¬ LogOK _›]; first | done | rfl | (dsimp only; omega))
theorem z_c_spec_LogRecords_36 (l : Log) (hp0 : (l.Durable.length : Int) + (l.Pending.length : Int) ≤ 4000000) (h13 : LogOK l) (hq23 : l.Durable.length + l.Pending.length ≤ 24360 ∧ 0 ≤ l.Count ∧ l.Count ≤ 60) (n27 : Nat) (hl32 : n27 = ((opN (l.Durable ++ l.Pending)).1).length) (hl33 : (n27 : Int) ≤ 9223372036854775807) (hq34 : (opN (l.Durable ++ l.Pending)).1.length ≤ 60 ∧ (opN (l.Durable ++ l.Pending)).2 ≤ (l.Durable ++ l.Pending).length ∧ (opN (l.Durable ++ l.Pending)).2 ≤ 24360) : true = (recsN l).2 := by
  first | (rw [recs_yes ‹LogOK _›]; first | done | rfl | (dsimp only; omega)) | (rw [recs_no ‹¬ LogOK _›]; first | done | rfl | (dsimp only; omega))
theorem c_spec_LogRecords (w : World) (l : Log) (hp0 : (l.Durable.length : Int) + (l.Pending.length : Int) ≤ 4000000) : Calls Tryd.prog 30 #[.agg (List.toArray (encLog l))] w fun e w' => ∃ (A1' : Option Addr) (n1' c1' : Nat), e = .returned (.tuple (List.toArray [.slice A1' n1' c1', .bool ((recsN l).2)])) ∧ SlO w' w.heap.size encLogRecord 2 27 A1' n1' c1' ((recsN l).1) ∧ Lo w w' := by
  refine calls_W 20 Tryd.func30 rfl rfl rfl ?_
  refine W.seq ?_
  refine W.regS (SR.box (v := .agg (List.toArray _)) (l := [str l.Durable, str l.Pending, .int .i64 l.Count]) rfl rfl ?_)
  intro g1 w2 hg3 hk4 hs5 hb6
  have hz7 := hk4.size
  have hB8 := (Lo.refl w).lo hk4
  refine SR.q' (r_as (v := .slice none 0 0) rfl) <| SR.q' (r_as (v := .bool false) rfl) <| SR.nil ?_
  refine W.seq ?_
  refine W.seq ?_
  refine W.regS (SR.q' (r_lda (l := [str l.Durable, str l.Pending, .int .i64 l.Count]) agg31 rfl (fun _ _ hu => (hb6).cell hu) rfl) <| SR.call ent50 (c_spec_l33Log w2 l (by omega)) rfl ?_)
  rintro e w9 ⟨rfl, hk10⟩
  refine ⟨_, rfl, ?_⟩
  have hz11 := hk10.size
  have hB12 := hB8.lo hk10
  refine SR.q' (r_not rfl) <| SR.nil ?_
  refine W.cond_n rfl (fun h13 => ?_) (fun h13 => ?_)
  · refine W.seq ?_
    refine W.regS (SR.lit (vs := []) (L := ([] : List LogRecord)) (enc := encLogRecord) tel48 (fun _ => rfl) rfl rfl rfl (by decide) ?_)
    intro g14 w15 hg16 hk17 hO18
    have hz19 := hk17.size
    have hB20 := hB12.lo hk17
    refine SR.q' (r_as (v := .slice _ _ _) rfl) <| SR.q' (r_as (v := .bool false) rfl) <| SR.nil ?_
    refine W.ret ?_
    refine ret2 rfl (v := .slice _ _ _) (v' := .bool _) rfl rfl ?_
    exact ⟨(some (⟨g14, 0, none⟩ : Addr)), 0, 0, eR (eT2 rfl (eB (z_c_spec_LogRecords_22 l hp0 h13))), (SlO.eqv ((hO18).down (by omega)) (z_c_spec_LogRecords_21 l hp0 h13)), hB20⟩
  · have hq23 := log_rng h13
    refine W.skip ?_
    refine W.seq ?_
    refine W.regS (SR.q' (r_fa fa31_0 rfl) <| SR.q' (r_ld (v := str l.Durable) sca9 rfl (((hb6).lo hk10).cell rfl)) <| SR.q' (r_fa fa31_1 rfl) <| SR.q' (r_ld (v := str l.Pending) sca9 rfl (((hb6).lo hk10).cell rfl)) <| SR.q' (r_cat rfl rfl (by first | omega | (simp only [List.length_append, List.length_cons, List.length_nil, List.length_take, List.length_drop]; omega) | (simp only [List.length_append, List.length_cons, List.length_nil, List.length_take, List.length_drop] at *; omega))) <| SR.call ent48 (c_spec_l33Open w9 (l.Durable ++ l.Pending) (by first | omega | (simp only [List.length_append, List.length_cons, List.length_nil, List.length_take, List.length_drop]; omega))) rfl ?_)
    rintro e w24 ⟨A26, n27, c28, rfl, hO29, hk25⟩
    refine ⟨_, rfl, ?_⟩
    have hz30 := hk25.size
    have hB31 := hB12.lo hk25
    have hl32 := hO29.len
    have hl33 := hO29.rd.bound
    have hq34 : (opN (l.Durable ++ l.Pending)).1.length ≤ 60 ∧ (opN (l.Durable ++ l.Pending)).2 ≤ (l.Durable ++ l.Pending).length ∧ (opN (l.Durable ++ l.Pending)).2 ≤ 24360 := opN_len (l.Durable ++ l.Pending)
    refine SR.q' (r_mv (v := .tuple (List.toArray _)) rfl) <| SR.q' (r_ext (v := .slice _ _ _) rfl rfl) <| SR.q' (r_ext (v := .int .i64 _) rfl rfl) <| SR.q' (r_as (v := .slice _ _ _) rfl) <| SR.q' (r_as (v := .int .i64 _) rfl) <| SR.nil ?_
    refine W.seq ?_
    refine W.regS (SR.q' (r_mv (v := .slice _ _ _) rfl) <| SR.q' (r_as (v := .slice _ _ _) rfl) <| SR.q' (r_as (v := .bool true) rfl) <| SR.nil ?_)
    refine W.ret ?_
    refine ret2 rfl (v := .slice _ _ _) (v' := .bool _) rfl rfl ?_
    exact ⟨A26, n27, c28, eR (eT2 rfl (eB (z_c_spec_LogRecords_36 l hp0 h13 hq23 n27 hl32 hl33 hq34))), (SlO.eqv ((hO29).down (by omega)) (z_c_spec_LogRecords_35 l hp0 h13 hq23 n27 hl32 hl33 hq34)), hB31⟩

theorem z_c_impl_AppendRecord_48 (l : Log) (r : LogRecord) (hp0 : (l.Durable.length : Int) + (l.Pending.length : Int) ≤ 4000000) (h41 : (¬ (LogOK l)) ∨ (¬ (RecOK r))) : l.Durable = ((appN l r).1).Durable := by
  first | (rw [app_bad ‹_›]; done) | (rw [app_full ‹_› ‹_›]; done) | (rw [app_fullI ‹¬ (_ ∨ _)› ‹_ = true›]; done) | (rw [app_yes ‹_› ‹_›]; done) | (rw [app_yesI ‹¬ (_ ∨ _)› ‹(!_) = false›]; done)
theorem z_c_impl_AppendRecord_49 (l : Log) (r : LogRecord) (hp0 : (l.Durable.length : Int) + (l.Pending.length : Int) ≤ 4000000) (h41 : (¬ (LogOK l)) ∨ (¬ (RecOK r))) : l.Pending = ((appN l r).1).Pending := by
  first | (rw [app_bad ‹_›]; done) | (rw [app_full ‹_› ‹_›]; done) | (rw [app_fullI ‹¬ (_ ∨ _)› ‹_ = true›]; done) | (rw [app_yes ‹_› ‹_›]; done) | (rw [app_yesI ‹¬ (_ ∨ _)› ‹(!_) = false›]; done)
theorem z_c_impl_AppendRecord_50 (l : Log) (r : LogRecord) (hp0 : (l.Durable.length : Int) + (l.Pending.length : Int) ≤ 4000000) (h41 : (¬ (LogOK l)) ∨ (¬ (RecOK r))) : l.Count = ((appN l r).1).Count := by
  first | (rw [app_bad ‹_›]; done) | (rw [app_full ‹_› ‹_›]; done) | (rw [app_fullI ‹¬ (_ ∨ _)› ‹_ = true›]; done) | (rw [app_yes ‹_› ‹_›]; done) | (rw [app_yesI ‹¬ (_ ∨ _)› ‹(!_) = false›]; done)
theorem z_c_impl_AppendRecord_51 (l : Log) (r : LogRecord) (hp0 : (l.Durable.length : Int) + (l.Pending.length : Int) ≤ 4000000) (h41 : (¬ (LogOK l)) ∨ (¬ (RecOK r))) : 1 = (appN l r).2 := by
  first | (rw [app_bad ‹_›]; done) | (rw [app_full ‹_› ‹_›]; done) | (rw [app_fullI ‹¬ (_ ∨ _)› ‹_ = true›]; done) | (rw [app_yes ‹_› ‹_›]; done) | (rw [app_yesI ‹¬ (_ ∨ _)› ‹(!_) = false›]; done)
theorem z_c_impl_AppendRecord_68 (l : Log) (r : LogRecord) (hp0 : (l.Durable.length : Int) + (l.Pending.length : Int) ≤ 4000000) (h41 : ¬ ((¬ (LogOK l)) ∨ (¬ (RecOK r)))) (hq52 : LogOK l) (hq53 : RecOK r) (hq54 : l.Durable.length + l.Pending.length ≤ 24360 ∧ 0 ≤ l.Count ∧ l.Count ≤ 60) (hq55 : (1 ≤ (r.Command.length : Int) ∧ (r.Command.length : Int) ≤ 160) ∧ (r.Reply.length : Int) ≤ 200) (hq60 : (encN l.Count r).1.length ≤ 406) (h61 : (!((encN l.Count r).2)) = true) : l.Durable = ((appN l r).1).Durable := by
  first | (rw [app_bad ‹_›]; done) | (rw [app_full ‹_› ‹_›]; done) | (rw [app_fullI ‹¬ (_ ∨ _)› ‹_ = true›]; done) | (rw [app_yes ‹_› ‹_›]; done) | (rw [app_yesI ‹¬ (_ ∨ _)› ‹(!_) = false›]; done)
theorem z_c_impl_AppendRecord_69 (l : Log) (r : LogRecord) (hp0 : (l.Durable.length : Int) + (l.Pending.length : Int) ≤ 4000000) (h41 : ¬ ((¬ (LogOK l)) ∨ (¬ (RecOK r)))) (hq52 : LogOK l) (hq53 : RecOK r) (hq54 : l.Durable.length + l.Pending.length ≤ 24360 ∧ 0 ≤ l.Count ∧ l.Count ≤ 60) (hq55 : (1 ≤ (r.Command.length : Int) ∧ (r.Command.length : Int) ≤ 160) ∧ (r.Reply.length : Int) ≤ 200) (hq60 : (encN l.Count r).1.length ≤ 406) (h61 : (!((encN l.Count r).2)) = true) : l.Pending = ((appN l r).1).Pending := by
  first | (rw [app_bad ‹_›]; done) | (rw [app_full ‹_› ‹_›]; done) | (rw [app_fullI ‹¬ (_ ∨ _)› ‹_ = true›]; done) | (rw [app_yes ‹_› ‹_›]; done) | (rw [app_yesI ‹¬ (_ ∨ _)› ‹(!_) = false›]; done)
theorem z_c_impl_AppendRecord_70 (l : Log) (r : LogRecord) (hp0 : (l.Durable.length : Int) + (l.Pending.length : Int) ≤ 4000000) (h41 : ¬ ((¬ (LogOK l)) ∨ (¬ (RecOK r)))) (hq52 : LogOK l) (hq53 : RecOK r) (hq54 : l.Durable.length + l.Pending.length ≤ 24360 ∧ 0 ≤ l.Count ∧ l.Count ≤ 60) (hq55 : (1 ≤ (r.Command.length : Int) ∧ (r.Command.length : Int) ≤ 160) ∧ (r.Reply.length : Int) ≤ 200) (hq60 : (encN l.Count r).1.length ≤ 406) (h61 : (!((encN l.Count r).2)) = true) : l.Count = ((appN l r).1).Count := by
  first | (rw [app_bad ‹_›]; done) | (rw [app_full ‹_› ‹_›]; done) | (rw [app_fullI ‹¬ (_ ∨ _)› ‹_ = true›]; done) | (rw [app_yes ‹_› ‹_›]; done) | (rw [app_yesI ‹¬ (_ ∨ _)› ‹(!_) = false›]; done)
theorem z_c_impl_AppendRecord_71 (l : Log) (r : LogRecord) (hp0 : (l.Durable.length : Int) + (l.Pending.length : Int) ≤ 4000000) (h41 : ¬ ((¬ (LogOK l)) ∨ (¬ (RecOK r)))) (hq52 : LogOK l) (hq53 : RecOK r) (hq54 : l.Durable.length + l.Pending.length ≤ 24360 ∧ 0 ≤ l.Count ∧ l.Count ≤ 60) (hq55 : (1 ≤ (r.Command.length : Int) ∧ (r.Command.length : Int) ≤ 160) ∧ (r.Reply.length : Int) ≤ 200) (hq60 : (encN l.Count r).1.length ≤ 406) (h61 : (!((encN l.Count r).2)) = true) : 2 = (appN l r).2 := by
  first | (rw [app_bad ‹_›]; done) | (rw [app_full ‹_› ‹_›]; done) | (rw [app_fullI ‹¬ (_ ∨ _)› ‹_ = true›]; done) | (rw [app_yes ‹_› ‹_›]; done) | (rw [app_yesI ‹¬ (_ ∨ _)› ‹(!_) = false›]; done)
theorem z_c_impl_AppendRecord_78 (l : Log) (r : LogRecord) (hp0 : (l.Durable.length : Int) + (l.Pending.length : Int) ≤ 4000000) (h41 : ¬ ((¬ (LogOK l)) ∨ (¬ (RecOK r)))) (hq52 : LogOK l) (hq53 : RecOK r) (hq54 : l.Durable.length + l.Pending.length ≤ 24360 ∧ 0 ≤ l.Count ∧ l.Count ≤ 60) (hq55 : (1 ≤ (r.Command.length : Int) ∧ (r.Command.length : Int) ≤ 160) ∧ (r.Reply.length : Int) ≤ 200) (hq60 : (encN l.Count r).1.length ≤ 406) (h61 : (!((encN l.Count r).2)) = false) : l.Durable = ((appN l r).1).Durable := by
  first | (rw [app_bad ‹_›]; done) | (rw [app_full ‹_› ‹_›]; done) | (rw [app_fullI ‹¬ (_ ∨ _)› ‹_ = true›]; done) | (rw [app_yes ‹_› ‹_›]; done) | (rw [app_yesI ‹¬ (_ ∨ _)› ‹(!_) = false›]; done)
theorem z_c_impl_AppendRecord_79 (l : Log) (r : LogRecord) (hp0 : (l.Durable.length : Int) + (l.Pending.length : Int) ≤ 4000000) (h41 : ¬ ((¬ (LogOK l)) ∨ (¬ (RecOK r)))) (hq52 : LogOK l) (hq53 : RecOK r) (hq54 : l.Durable.length + l.Pending.length ≤ 24360 ∧ 0 ≤ l.Count ∧ l.Count ≤ 60) (hq55 : (1 ≤ (r.Command.length : Int) ∧ (r.Command.length : Int) ≤ 160) ∧ (r.Reply.length : Int) ≤ 200) (hq60 : (encN l.Count r).1.length ≤ 406) (h61 : (!((encN l.Count r).2)) = false) : l.Pending ++ ((encN l.Count r).1) = ((appN l r).1).Pending := by
  first | (rw [app_bad ‹_›]; done) | (rw [app_full ‹_› ‹_›]; done) | (rw [app_fullI ‹¬ (_ ∨ _)› ‹_ = true›]; done) | (rw [app_yes ‹_› ‹_›]; done) | (rw [app_yesI ‹¬ (_ ∨ _)› ‹(!_) = false›]; done)
theorem z_c_impl_AppendRecord_80 (l : Log) (r : LogRecord) (hp0 : (l.Durable.length : Int) + (l.Pending.length : Int) ≤ 4000000) (h41 : ¬ ((¬ (LogOK l)) ∨ (¬ (RecOK r)))) (hq52 : LogOK l) (hq53 : RecOK r) (hq54 : l.Durable.length + l.Pending.length ≤ 24360 ∧ 0 ≤ l.Count ∧ l.Count ≤ 60) (hq55 : (1 ≤ (r.Command.length : Int) ∧ (r.Command.length : Int) ≤ 160) ∧ (r.Reply.length : Int) ≤ 200) (hq60 : (encN l.Count r).1.length ≤ 406) (h61 : (!((encN l.Count r).2)) = false) : l.Count + 1 = ((appN l r).1).Count := by
  first | (rw [app_bad ‹_›]; done) | (rw [app_full ‹_› ‹_›]; done) | (rw [app_fullI ‹¬ (_ ∨ _)› ‹_ = true›]; done) | (rw [app_yes ‹_› ‹_›]; done) | (rw [app_yesI ‹¬ (_ ∨ _)› ‹(!_) = false›]; done)
theorem z_c_impl_AppendRecord_81 (l : Log) (r : LogRecord) (hp0 : (l.Durable.length : Int) + (l.Pending.length : Int) ≤ 4000000) (h41 : ¬ ((¬ (LogOK l)) ∨ (¬ (RecOK r)))) (hq52 : LogOK l) (hq53 : RecOK r) (hq54 : l.Durable.length + l.Pending.length ≤ 24360 ∧ 0 ≤ l.Count ∧ l.Count ≤ 60) (hq55 : (1 ≤ (r.Command.length : Int) ∧ (r.Command.length : Int) ≤ 160) ∧ (r.Reply.length : Int) ≤ 200) (hq60 : (encN l.Count r).1.length ≤ 406) (h61 : (!((encN l.Count r).2)) = false) : 0 = (appN l r).2 := by
  first | (rw [app_bad ‹_›]; done) | (rw [app_full ‹_› ‹_›]; done) | (rw [app_fullI ‹¬ (_ ∨ _)› ‹_ = true›]; done) | (rw [app_yes ‹_› ‹_›]; done) | (rw [app_yesI ‹¬ (_ ∨ _)› ‹(!_) = false›]; done)
theorem c_impl_AppendRecord (w : World) (l : Log) (r : LogRecord) (hp0 : (l.Durable.length : Int) + (l.Pending.length : Int) ≤ 4000000) (hE : EnvW w) : Calls Tryd.prog 29 #[.agg (List.toArray (encLog l)), .agg (List.toArray (encLogRecord r))] w fun e w' => e = .returned (.tuple (List.toArray [.agg (List.toArray [str (((appN l r).1).Durable), str (((appN l r).1).Pending), .int .i64 (((appN l r).1).Count)]), .int .i64 ((appN l r).2)])) ∧ Lo w w' := by
  refine calls_W 37 Tryd.func29 rfl rfl rfl ?_
  refine W.seq ?_
  refine W.regS (SR.box (v := .agg (List.toArray _)) (l := [str l.Durable, str l.Pending, .int .i64 l.Count]) rfl rfl ?_)
  intro g1 w2 hg3 hk4 hs5 hb6
  have hz7 := hk4.size
  have hB8 := (Lo.refl w).lo hk4
  refine SR.box (v := .agg (List.toArray _)) (l := [str r.Command, str r.Reply]) rfl rfl ?_
  intro g9 w10 hg11 hk12 hs13 hb14
  have hz15 := hk12.size
  have hB16 := hB8.lo hk12
  refine SR.alloc (l := [str ([] : List UInt8), str ([] : List UInt8), .int .i64 0]) tz31 rfl ?_
  intro g17 w18 hg19 hk20 hs21 hb22
  have hz23 := hk20.size
  have hB24 := hB16.lo hk20
  refine SR.q' (r_as (v := .int .i64 0) rfl) <| SR.nil ?_
  refine W.seq ?_
  refine W.seq ?_
  refine W.regJS (fun f' w' => At f' [(2, .pointer (some ((⟨g1, 0, none⟩ : Addr)))), (3, .pointer (some ((⟨g9, 0, none⟩ : Addr)))), (4, .pointer (some ((⟨g17, 0, none⟩ : Addr)))), (5, .int .i64 0), (15, .bool (decide ((¬ (LogOK l)) ∨ (¬ (RecOK r)))))] ∧ Lo w18 w') ?_ ?_
  · refine SR.q' (r_lda (l := [str l.Durable, str l.Pending, .int .i64 l.Count]) agg31 rfl (fun _ _ hu => (((hb6).lo hk12).lo hk20).cell hu) rfl) <| SR.call ent23 (c_impl_IsValidLog w18 l (by omega) (hE.lo (hB24))) rfl ?_
    rintro e w25 ⟨rfl, hk26⟩
    refine ⟨_, rfl, ?_⟩
    have hz27 := hk26.size
    have hB28 := hB24.lo hk26
    refine SR.q' (r_not rfl) <| SR.q' (r_mv (v := .bool _) rfl) <| SR.splitN (fun h29 => ?_) (fun h29 => ?_)
    · refine SR.s' rfl <| SR.s' rfl <| SR.s' rfl <| SR.q' (r_pick true rfl (v := .bool true) rfl) <| SR.nil ?_
      exact ⟨_, rfl, ⟨⟨rfl, rfl, rfl, rfl, (eDT ((jmf h29).1 trivial)), trivial⟩, (hk26)⟩⟩
    · have hq30 := log_rng h29
      refine SR.g' rfl (r_lda (l := [str r.Command, str r.Reply]) agg27 rfl (fun _ _ hu => (((hb14).lo hk20).lo hk26).cell hu) rfl) <| SR.gcall rfl ent39 (c_impl_IsValidRecord w25 r (hE.lo (hB28))) rfl ?_
      rintro e w31 ⟨rfl, hk32⟩
      refine ⟨_, rfl, ?_⟩
      have hz33 := hk32.size
      have hB34 := hB28.lo hk32
      refine SR.g' rfl (r_not rfl) <| SR.q' (r_pick false rfl (v := .bool _) rfl) <| SR.nil ?_
      exact ⟨_, rfl, ⟨⟨rfl, rfl, rfl, rfl, (eND (jmt h29)), trivial⟩, ((hk26).trans hk32)⟩⟩
  rintro f35 w36 ⟨hat37, hk38⟩
  rw [← sets_of_at hat37]
  have hz39 := hk38.size
  have hB40 := hB24.lo hk38
  refine W.cond_d rfl (fun h41 => ?_) (fun h41 => ?_)
  · refine W.seq ?_
    refine W.regS (SR.q' (r_lda (l := [str l.Durable, str l.Pending, .int .i64 l.Count]) agg31 rfl (fun _ _ hu => ((((hb6).lo hk12).lo hk20).lo hk38).cell hu) rfl) <| SR.store (o := 0) (vs := [str l.Durable, str l.Pending, .int .i64 l.Count]) agg31.2 rfl rfl rfl rfl ((hb22).lo hk38) (Nat.le_of_ble_eq_true rfl) rfl ?_)
    intro w42 hk43 hs44 hb45
    have hz46 := hk43.size
    have hB47 := hB40.new hk43 (by omega)
    refine SR.q' (r_as (v := .int .i64 1) rfl) <| SR.nil ?_
    refine W.ret ?_
    refine retCT rfl rfl agg31 (hb45) rfl (v := .int .i64 _) rfl ?_
    exact ⟨eR (eT2 (eA (eC (eS (z_c_impl_AppendRecord_48 l r hp0 h41)) (eC (eS (z_c_impl_AppendRecord_49 l r hp0 h41)) (eC (eI (z_c_impl_AppendRecord_50 l r hp0 h41)) rfl)))) (eI (z_c_impl_AppendRecord_51 l r hp0 h41))), hB47⟩
  · have hq52 : LogOK l := (Classical.not_not.1 (not_or.1 h41).1)
    have hq53 : RecOK r := (Classical.not_not.1 (not_or.1 h41).2)
    have hq54 := log_rng hq52
    have hq55 := rec_rng hq53
    refine W.skip ?_
    refine W.seq ?_
    refine W.regS (SR.q' (r_fa fa31_2 rfl) <| SR.q' (r_ld (v := .int .i64 l.Count) sca3 rfl (((((hb6).lo hk12).lo hk20).lo hk38).cell rfl)) <| SR.q' (r_lda (l := [str r.Command, str r.Reply]) agg27 rfl (fun _ _ hu => (((hb14).lo hk20).lo hk38).cell hu) rfl) <| SR.call ent16 (c_impl_EncodeRecord w36 l.Count r (hE.lo (hB40))) rfl ?_)
    rintro e w56 ⟨rfl, hk57⟩
    refine ⟨_, rfl, ?_⟩
    have hz58 := hk57.size
    have hB59 := hB40.lo hk57
    have hq60 : (encN l.Count r).1.length ≤ 406 := enc_len l.Count r
    refine SR.q' (r_mv (v := .tuple (List.toArray _)) rfl) <| SR.q' (r_ext (v := str _) rfl rfl) <| SR.q' (r_ext (v := .bool _) rfl rfl) <| SR.q' (r_as (v := str _) rfl) <| SR.q' (r_as (v := .bool _) rfl) <| SR.nil ?_
    refine W.seq ?_
    refine W.seq ?_
    refine W.regS (SR.q' (r_mv (v := .bool _) rfl) <| SR.q' (r_not rfl) <| SR.nil ?_)
    refine W.cond_b rfl (fun h61 => ?_) (fun h61 => ?_)
    · refine W.seq ?_
      refine W.regS (SR.q' (r_lda (l := [str l.Durable, str l.Pending, .int .i64 l.Count]) agg31 rfl (fun _ _ hu => (((((hb6).lo hk12).lo hk20).lo hk38).lo hk57).cell hu) rfl) <| SR.store (o := 0) (vs := [str l.Durable, str l.Pending, .int .i64 l.Count]) agg31.2 rfl rfl rfl rfl (((hb22).lo hk38).lo hk57) (Nat.le_of_ble_eq_true rfl) rfl ?_)
      intro w62 hk63 hs64 hb65
      have hz66 := hk63.size
      have hB67 := hB59.new hk63 (by omega)
      refine SR.q' (r_as (v := .int .i64 2) rfl) <| SR.nil ?_
      refine W.ret ?_
      refine retCT rfl rfl agg31 (hb65) rfl (v := .int .i64 _) rfl ?_
      exact ⟨eR (eT2 (eA (eC (eS (z_c_impl_AppendRecord_68 l r hp0 h41 hq52 hq53 hq54 hq55 hq60 h61)) (eC (eS (z_c_impl_AppendRecord_69 l r hp0 h41 hq52 hq53 hq54 hq55 hq60 h61)) (eC (eI (z_c_impl_AppendRecord_70 l r hp0 h41 hq52 hq53 hq54 hq55 hq60 h61)) rfl)))) (eI (z_c_impl_AppendRecord_71 l r hp0 h41 hq52 hq53 hq54 hq55 hq60 h61))), hB67⟩
    · refine W.skip ?_
      refine W.seq ?_
      refine W.regS (SR.q' (r_fa fa31_0 rfl) <| SR.q' (r_ld (v := str l.Durable) sca9 rfl ((((((hb6).lo hk12).lo hk20).lo hk38).lo hk57).cell rfl)) <| SR.q' (r_fa fa31_1 rfl) <| SR.q' (r_ld (v := str l.Pending) sca9 rfl ((((((hb6).lo hk12).lo hk20).lo hk38).lo hk57).cell rfl)) <| SR.q' (r_mv (v := str _) rfl) <| SR.q' (r_cat rfl rfl (by first | omega | (simp only [List.length_append, List.length_cons, List.length_nil, List.length_take, List.length_drop]; omega) | (simp only [List.length_append, List.length_cons, List.length_nil, List.length_take, List.length_drop] at *; omega))) <| SR.q' (r_fa fa31_2 rfl) <| SR.q' (r_ld (v := .int .i64 l.Count) sca3 rfl ((((((hb6).lo hk12).lo hk20).lo hk38).lo hk57).cell rfl)) <| SR.q' (r_add rfl rfl (by omega)) <| SR.q' (r_build (vs := [(0, str l.Durable), (1, str (l.Pending ++ ((encN l.Count r).1))), (2, .int .i64 (l.Count + 1))]) rfl (bld31_0_1_2 _ _ _)) <| SR.store (o := 0) (vs := [str l.Durable, str (l.Pending ++ ((encN l.Count r).1)), .int .i64 (l.Count + 1)]) agg31.2 rfl rfl rfl rfl (((hb22).lo hk38).lo hk57) (Nat.le_of_ble_eq_true rfl) rfl ?_)
      intro w72 hk73 hs74 hb75
      have hz76 := hk73.size
      have hB77 := hB59.new hk73 (by omega)
      refine SR.q' (r_as (v := .int .i64 0) rfl) <| SR.nil ?_
      refine W.ret ?_
      refine retCT rfl rfl agg31 (hb75) rfl (v := .int .i64 _) rfl ?_
      exact ⟨eR (eT2 (eA (eC (eS (z_c_impl_AppendRecord_78 l r hp0 h41 hq52 hq53 hq54 hq55 hq60 h61)) (eC (eS (z_c_impl_AppendRecord_79 l r hp0 h41 hq52 hq53 hq54 hq55 hq60 h61)) (eC (eI (z_c_impl_AppendRecord_80 l r hp0 h41 hq52 hq53 hq54 hq55 hq60 h61)) rfl)))) (eI (z_c_impl_AppendRecord_81 l r hp0 h41 hq52 hq53 hq54 hq55 hq60 h61))), hB77⟩

theorem z_c_spec_AppendRecord_48 (l : Log) (r : LogRecord) (hp0 : (l.Durable.length : Int) + (l.Pending.length : Int) ≤ 4000000) (hp1 : (r.Command.length : Int) ≤ 281474976710656 ∧ (r.Reply.length : Int) ≤ 281474976710656) (h41 : (¬ (LogOK l)) ∨ (¬ (RecOK r))) : l.Durable = ((appN l r).1).Durable := by
  first | (rw [app_bad ‹_›]; done) | (rw [app_full ‹_› ‹_›]; done) | (rw [app_fullI ‹¬ (_ ∨ _)› ‹_ = true›]; done) | (rw [app_yes ‹_› ‹_›]; done) | (rw [app_yesI ‹¬ (_ ∨ _)› ‹(!_) = false›]; done)
theorem z_c_spec_AppendRecord_49 (l : Log) (r : LogRecord) (hp0 : (l.Durable.length : Int) + (l.Pending.length : Int) ≤ 4000000) (hp1 : (r.Command.length : Int) ≤ 281474976710656 ∧ (r.Reply.length : Int) ≤ 281474976710656) (h41 : (¬ (LogOK l)) ∨ (¬ (RecOK r))) : l.Pending = ((appN l r).1).Pending := by
  first | (rw [app_bad ‹_›]; done) | (rw [app_full ‹_› ‹_›]; done) | (rw [app_fullI ‹¬ (_ ∨ _)› ‹_ = true›]; done) | (rw [app_yes ‹_› ‹_›]; done) | (rw [app_yesI ‹¬ (_ ∨ _)› ‹(!_) = false›]; done)
theorem z_c_spec_AppendRecord_50 (l : Log) (r : LogRecord) (hp0 : (l.Durable.length : Int) + (l.Pending.length : Int) ≤ 4000000) (hp1 : (r.Command.length : Int) ≤ 281474976710656 ∧ (r.Reply.length : Int) ≤ 281474976710656) (h41 : (¬ (LogOK l)) ∨ (¬ (RecOK r))) : l.Count = ((appN l r).1).Count := by
  first | (rw [app_bad ‹_›]; done) | (rw [app_full ‹_› ‹_›]; done) | (rw [app_fullI ‹¬ (_ ∨ _)› ‹_ = true›]; done) | (rw [app_yes ‹_› ‹_›]; done) | (rw [app_yesI ‹¬ (_ ∨ _)› ‹(!_) = false›]; done)
theorem z_c_spec_AppendRecord_51 (l : Log) (r : LogRecord) (hp0 : (l.Durable.length : Int) + (l.Pending.length : Int) ≤ 4000000) (hp1 : (r.Command.length : Int) ≤ 281474976710656 ∧ (r.Reply.length : Int) ≤ 281474976710656) (h41 : (¬ (LogOK l)) ∨ (¬ (RecOK r))) : 1 = (appN l r).2 := by
  first | (rw [app_bad ‹_›]; done) | (rw [app_full ‹_› ‹_›]; done) | (rw [app_fullI ‹¬ (_ ∨ _)› ‹_ = true›]; done) | (rw [app_yes ‹_› ‹_›]; done) | (rw [app_yesI ‹¬ (_ ∨ _)› ‹(!_) = false›]; done)
theorem z_c_spec_AppendRecord_63 (l : Log) (r : LogRecord) (hp0 : (l.Durable.length : Int) + (l.Pending.length : Int) ≤ 4000000) (hp1 : (r.Command.length : Int) ≤ 281474976710656 ∧ (r.Reply.length : Int) ≤ 281474976710656) (h41 : ¬ ((¬ (LogOK l)) ∨ (¬ (RecOK r)))) (hq52 : LogOK l) (hq53 : RecOK r) (hq54 : l.Durable.length + l.Pending.length ≤ 24360 ∧ 0 ≤ l.Count ∧ l.Count ≤ 60) (hq55 : (1 ≤ (r.Command.length : Int) ∧ (r.Command.length : Int) ≤ 160) ∧ (r.Reply.length : Int) ≤ 200) (h56 : l.Count = 60) : l.Durable = ((appN l r).1).Durable := by
  first | (rw [app_bad ‹_›]; done) | (rw [app_full ‹_› ‹_›]; done) | (rw [app_fullI ‹¬ (_ ∨ _)› ‹_ = true›]; done) | (rw [app_yes ‹_› ‹_›]; done) | (rw [app_yesI ‹¬ (_ ∨ _)› ‹(!_) = false›]; done)
theorem z_c_spec_AppendRecord_64 (l : Log) (r : LogRecord) (hp0 : (l.Durable.length : Int) + (l.Pending.length : Int) ≤ 4000000) (hp1 : (r.Command.length : Int) ≤ 281474976710656 ∧ (r.Reply.length : Int) ≤ 281474976710656) (h41 : ¬ ((¬ (LogOK l)) ∨ (¬ (RecOK r)))) (hq52 : LogOK l) (hq53 : RecOK r) (hq54 : l.Durable.length + l.Pending.length ≤ 24360 ∧ 0 ≤ l.Count ∧ l.Count ≤ 60) (hq55 : (1 ≤ (r.Command.length : Int) ∧ (r.Command.length : Int) ≤ 160) ∧ (r.Reply.length : Int) ≤ 200) (h56 : l.Count = 60) : l.Pending = ((appN l r).1).Pending := by
  first | (rw [app_bad ‹_›]; done) | (rw [app_full ‹_› ‹_›]; done) | (rw [app_fullI ‹¬ (_ ∨ _)› ‹_ = true›]; done) | (rw [app_yes ‹_› ‹_›]; done) | (rw [app_yesI ‹¬ (_ ∨ _)› ‹(!_) = false›]; done)
theorem z_c_spec_AppendRecord_65 (l : Log) (r : LogRecord) (hp0 : (l.Durable.length : Int) + (l.Pending.length : Int) ≤ 4000000) (hp1 : (r.Command.length : Int) ≤ 281474976710656 ∧ (r.Reply.length : Int) ≤ 281474976710656) (h41 : ¬ ((¬ (LogOK l)) ∨ (¬ (RecOK r)))) (hq52 : LogOK l) (hq53 : RecOK r) (hq54 : l.Durable.length + l.Pending.length ≤ 24360 ∧ 0 ≤ l.Count ∧ l.Count ≤ 60) (hq55 : (1 ≤ (r.Command.length : Int) ∧ (r.Command.length : Int) ≤ 160) ∧ (r.Reply.length : Int) ≤ 200) (h56 : l.Count = 60) : l.Count = ((appN l r).1).Count := by
  first | (rw [app_bad ‹_›]; done) | (rw [app_full ‹_› ‹_›]; done) | (rw [app_fullI ‹¬ (_ ∨ _)› ‹_ = true›]; done) | (rw [app_yes ‹_› ‹_›]; done) | (rw [app_yesI ‹¬ (_ ∨ _)› ‹(!_) = false›]; done)
theorem z_c_spec_AppendRecord_66 (l : Log) (r : LogRecord) (hp0 : (l.Durable.length : Int) + (l.Pending.length : Int) ≤ 4000000) (hp1 : (r.Command.length : Int) ≤ 281474976710656 ∧ (r.Reply.length : Int) ≤ 281474976710656) (h41 : ¬ ((¬ (LogOK l)) ∨ (¬ (RecOK r)))) (hq52 : LogOK l) (hq53 : RecOK r) (hq54 : l.Durable.length + l.Pending.length ≤ 24360 ∧ 0 ≤ l.Count ∧ l.Count ≤ 60) (hq55 : (1 ≤ (r.Command.length : Int) ∧ (r.Command.length : Int) ≤ 160) ∧ (r.Reply.length : Int) ≤ 200) (h56 : l.Count = 60) : 2 = (appN l r).2 := by
  first | (rw [app_bad ‹_›]; done) | (rw [app_full ‹_› ‹_›]; done) | (rw [app_fullI ‹¬ (_ ∨ _)› ‹_ = true›]; done) | (rw [app_yes ‹_› ‹_›]; done) | (rw [app_yesI ‹¬ (_ ∨ _)› ‹(!_) = false›]; done)
theorem z_c_spec_AppendRecord_146 (l : Log) (r : LogRecord) (hp0 : (l.Durable.length : Int) + (l.Pending.length : Int) ≤ 4000000) (hp1 : (r.Command.length : Int) ≤ 281474976710656 ∧ (r.Reply.length : Int) ≤ 281474976710656) (h41 : ¬ ((¬ (LogOK l)) ∨ (¬ (RecOK r)))) (hq52 : LogOK l) (hq53 : RecOK r) (hq54 : l.Durable.length + l.Pending.length ≤ 24360 ∧ 0 ≤ l.Count ∧ l.Count ≤ 60) (hq55 : (1 ≤ (r.Command.length : Int) ∧ (r.Command.length : Int) ≤ 160) ∧ (r.Reply.length : Int) ≤ 200) (h56 : ¬ (l.Count = 60)) (hq93 : (lineB l.Count r).length ≤ r.Command.length + r.Reply.length + 46) : l.Durable = ((appN l r).1).Durable := by
  first | (rw [app_bad ‹_›]; done) | (rw [app_full ‹_› ‹_›]; done) | (rw [app_fullI ‹¬ (_ ∨ _)› ‹_ = true›]; done) | (rw [app_yes ‹_› ‹_›]; done) | (rw [app_yesI ‹¬ (_ ∨ _)› ‹(!_) = false›]; done)
theorem z_c_spec_AppendRecord_147 (l : Log) (r : LogRecord) (hp0 : (l.Durable.length : Int) + (l.Pending.length : Int) ≤ 4000000) (hp1 : (r.Command.length : Int) ≤ 281474976710656 ∧ (r.Reply.length : Int) ≤ 281474976710656) (h41 : ¬ ((¬ (LogOK l)) ∨ (¬ (RecOK r)))) (hq52 : LogOK l) (hq53 : RecOK r) (hq54 : l.Durable.length + l.Pending.length ≤ 24360 ∧ 0 ≤ l.Count ∧ l.Count ≤ 60) (hq55 : (1 ≤ (r.Command.length : Int) ∧ (r.Command.length : Int) ≤ 160) ∧ (r.Reply.length : Int) ≤ 200) (h56 : ¬ (l.Count = 60)) (hq93 : (lineB l.Count r).length ≤ r.Command.length + r.Reply.length + 46) : l.Pending ++ (lineB l.Count r) = ((appN l r).1).Pending := by
  first | (rw [app_bad ‹_›]; done) | (rw [app_full ‹_› ‹_›]; done) | (rw [app_fullI ‹¬ (_ ∨ _)› ‹_ = true›]; done) | (rw [app_yes ‹_› ‹_›]; done) | (rw [app_yesI ‹¬ (_ ∨ _)› ‹(!_) = false›]; done)
theorem z_c_spec_AppendRecord_148 (l : Log) (r : LogRecord) (hp0 : (l.Durable.length : Int) + (l.Pending.length : Int) ≤ 4000000) (hp1 : (r.Command.length : Int) ≤ 281474976710656 ∧ (r.Reply.length : Int) ≤ 281474976710656) (h41 : ¬ ((¬ (LogOK l)) ∨ (¬ (RecOK r)))) (hq52 : LogOK l) (hq53 : RecOK r) (hq54 : l.Durable.length + l.Pending.length ≤ 24360 ∧ 0 ≤ l.Count ∧ l.Count ≤ 60) (hq55 : (1 ≤ (r.Command.length : Int) ∧ (r.Command.length : Int) ≤ 160) ∧ (r.Reply.length : Int) ≤ 200) (h56 : ¬ (l.Count = 60)) (hq93 : (lineB l.Count r).length ≤ r.Command.length + r.Reply.length + 46) : l.Count + 1 = ((appN l r).1).Count := by
  first | (rw [app_bad ‹_›]; done) | (rw [app_full ‹_› ‹_›]; done) | (rw [app_fullI ‹¬ (_ ∨ _)› ‹_ = true›]; done) | (rw [app_yes ‹_› ‹_›]; done) | (rw [app_yesI ‹¬ (_ ∨ _)› ‹(!_) = false›]; done)
theorem z_c_spec_AppendRecord_149 (l : Log) (r : LogRecord) (hp0 : (l.Durable.length : Int) + (l.Pending.length : Int) ≤ 4000000) (hp1 : (r.Command.length : Int) ≤ 281474976710656 ∧ (r.Reply.length : Int) ≤ 281474976710656) (h41 : ¬ ((¬ (LogOK l)) ∨ (¬ (RecOK r)))) (hq52 : LogOK l) (hq53 : RecOK r) (hq54 : l.Durable.length + l.Pending.length ≤ 24360 ∧ 0 ≤ l.Count ∧ l.Count ≤ 60) (hq55 : (1 ≤ (r.Command.length : Int) ∧ (r.Command.length : Int) ≤ 160) ∧ (r.Reply.length : Int) ≤ 200) (h56 : ¬ (l.Count = 60)) (hq93 : (lineB l.Count r).length ≤ r.Command.length + r.Reply.length + 46) : 0 = (appN l r).2 := by
  first | (rw [app_bad ‹_›]; done) | (rw [app_full ‹_› ‹_›]; done) | (rw [app_fullI ‹¬ (_ ∨ _)› ‹_ = true›]; done) | (rw [app_yes ‹_› ‹_›]; done) | (rw [app_yesI ‹¬ (_ ∨ _)› ‹(!_) = false›]; done)
theorem c_spec_AppendRecord (w : World) (l : Log) (r : LogRecord) (hp0 : (l.Durable.length : Int) + (l.Pending.length : Int) ≤ 4000000) (hp1 : (r.Command.length : Int) ≤ 281474976710656 ∧ (r.Reply.length : Int) ≤ 281474976710656) : Calls Tryd.prog 28 #[.agg (List.toArray (encLog l)), .agg (List.toArray (encLogRecord r))] w fun e w' => e = .returned (.tuple (List.toArray [.agg (List.toArray [str (((appN l r).1).Durable), str (((appN l r).1).Pending), .int .i64 (((appN l r).1).Count)]), .int .i64 ((appN l r).2)])) ∧ Lo w w' := by
  refine calls_W 32 Tryd.func28 rfl rfl rfl ?_
  refine W.seq ?_
  refine W.regS (SR.box (v := .agg (List.toArray _)) (l := [str l.Durable, str l.Pending, .int .i64 l.Count]) rfl rfl ?_)
  intro g1 w2 hg3 hk4 hs5 hb6
  have hz7 := hk4.size
  have hB8 := (Lo.refl w).lo hk4
  refine SR.box (v := .agg (List.toArray _)) (l := [str r.Command, str r.Reply]) rfl rfl ?_
  intro g9 w10 hg11 hk12 hs13 hb14
  have hz15 := hk12.size
  have hB16 := hB8.lo hk12
  refine SR.alloc (l := [str ([] : List UInt8), str ([] : List UInt8), .int .i64 0]) tz31 rfl ?_
  intro g17 w18 hg19 hk20 hs21 hb22
  have hz23 := hk20.size
  have hB24 := hB16.lo hk20
  refine SR.q' (r_as (v := .int .i64 0) rfl) <| SR.nil ?_
  refine W.seq ?_
  refine W.seq ?_
  refine W.regJS (fun f' w' => At f' [(2, .pointer (some ((⟨g1, 0, none⟩ : Addr)))), (3, .pointer (some ((⟨g9, 0, none⟩ : Addr)))), (4, .pointer (some ((⟨g17, 0, none⟩ : Addr)))), (5, .int .i64 0), (13, .bool (decide ((¬ (LogOK l)) ∨ (¬ (RecOK r)))))] ∧ Lo w18 w') ?_ ?_
  · refine SR.q' (r_lda (l := [str l.Durable, str l.Pending, .int .i64 l.Count]) agg31 rfl (fun _ _ hu => (((hb6).lo hk12).lo hk20).cell hu) rfl) <| SR.call ent50 (c_spec_l33Log w18 l (by omega)) rfl ?_
    rintro e w25 ⟨rfl, hk26⟩
    refine ⟨_, rfl, ?_⟩
    have hz27 := hk26.size
    have hB28 := hB24.lo hk26
    refine SR.q' (r_not rfl) <| SR.q' (r_mv (v := .bool _) rfl) <| SR.splitN (fun h29 => ?_) (fun h29 => ?_)
    · refine SR.s' rfl <| SR.s' rfl <| SR.s' rfl <| SR.q' (r_pick true rfl (v := .bool true) rfl) <| SR.nil ?_
      exact ⟨_, rfl, ⟨⟨rfl, rfl, rfl, rfl, (eDT ((jmf h29).1 trivial)), trivial⟩, (hk26)⟩⟩
    · have hq30 := log_rng h29
      refine SR.g' rfl (r_lda (l := [str r.Command, str r.Reply]) agg27 rfl (fun _ _ hu => (((hb14).lo hk20).lo hk26).cell hu) rfl) <| SR.gcall rfl ent43 (c_spec_l33Good w25 r (by first | omega | (dsimp only; omega) | (dsimp only; simp only [List.length_drop]; omega))) rfl ?_
      rintro e w31 ⟨rfl, hk32⟩
      refine ⟨_, rfl, ?_⟩
      have hz33 := hk32.size
      have hB34 := hB28.lo hk32
      refine SR.g' rfl (r_not rfl) <| SR.q' (r_pick false rfl (v := .bool _) rfl) <| SR.nil ?_
      exact ⟨_, rfl, ⟨⟨rfl, rfl, rfl, rfl, (eND (jmt h29)), trivial⟩, ((hk26).trans hk32)⟩⟩
  rintro f35 w36 ⟨hat37, hk38⟩
  rw [← sets_of_at hat37]
  have hz39 := hk38.size
  have hB40 := hB24.lo hk38
  refine W.cond_d rfl (fun h41 => ?_) (fun h41 => ?_)
  · refine W.seq ?_
    refine W.regS (SR.q' (r_lda (l := [str l.Durable, str l.Pending, .int .i64 l.Count]) agg31 rfl (fun _ _ hu => ((((hb6).lo hk12).lo hk20).lo hk38).cell hu) rfl) <| SR.store (o := 0) (vs := [str l.Durable, str l.Pending, .int .i64 l.Count]) agg31.2 rfl rfl rfl rfl ((hb22).lo hk38) (Nat.le_of_ble_eq_true rfl) rfl ?_)
    intro w42 hk43 hs44 hb45
    have hz46 := hk43.size
    have hB47 := hB40.new hk43 (by omega)
    refine SR.q' (r_as (v := .int .i64 1) rfl) <| SR.nil ?_
    refine W.ret ?_
    refine retCT rfl rfl agg31 (hb45) rfl (v := .int .i64 _) rfl ?_
    exact ⟨eR (eT2 (eA (eC (eS (z_c_spec_AppendRecord_48 l r hp0 hp1 h41)) (eC (eS (z_c_spec_AppendRecord_49 l r hp0 hp1 h41)) (eC (eI (z_c_spec_AppendRecord_50 l r hp0 hp1 h41)) rfl)))) (eI (z_c_spec_AppendRecord_51 l r hp0 hp1 h41))), hB47⟩
  · have hq52 : LogOK l := (Classical.not_not.1 (not_or.1 h41).1)
    have hq53 : RecOK r := (Classical.not_not.1 (not_or.1 h41).2)
    have hq54 := log_rng hq52
    have hq55 := rec_rng hq53
    refine W.skip ?_
    refine W.seq ?_
    refine W.seq ?_
    refine W.regS (SR.q' (r_fa fa31_2 rfl) <| SR.q' (r_ld (v := .int .i64 l.Count) sca3 rfl (((((hb6).lo hk12).lo hk20).lo hk38).cell rfl)) <| SR.q' (r_eq rfl rfl) <| SR.nil ?_)
    refine W.cond_d rfl (fun h56 => ?_) (fun h56 => ?_)
    · refine W.seq ?_
      refine W.regS (SR.q' (r_lda (l := [str l.Durable, str l.Pending, .int .i64 l.Count]) agg31 rfl (fun _ _ hu => ((((hb6).lo hk12).lo hk20).lo hk38).cell hu) rfl) <| SR.store (o := 0) (vs := [str l.Durable, str l.Pending, .int .i64 l.Count]) agg31.2 rfl rfl rfl rfl ((hb22).lo hk38) (Nat.le_of_ble_eq_true rfl) rfl ?_)
      intro w57 hk58 hs59 hb60
      have hz61 := hk58.size
      have hB62 := hB40.new hk58 (by omega)
      refine SR.q' (r_as (v := .int .i64 2) rfl) <| SR.nil ?_
      refine W.ret ?_
      refine retCT rfl rfl agg31 (hb60) rfl (v := .int .i64 _) rfl ?_
      exact ⟨eR (eT2 (eA (eC (eS (z_c_spec_AppendRecord_63 l r hp0 hp1 h41 hq52 hq53 hq54 hq55 h56)) (eC (eS (z_c_spec_AppendRecord_64 l r hp0 hp1 h41 hq52 hq53 hq54 hq55 h56)) (eC (eI (z_c_spec_AppendRecord_65 l r hp0 hp1 h41 hq52 hq53 hq54 hq55 h56)) rfl)))) (eI (z_c_spec_AppendRecord_66 l r hp0 hp1 h41 hq52 hq53 hq54 hq55 h56))), hB62⟩
    · refine W.skip ?_
      refine W.seq ?_
      refine W.regA (Kp (fun b_ => b_ = g1) w36) (fun f' w' => At f' [(2, .pointer (some ((⟨g1, 0, none⟩ : Addr)))), (4, .pointer (some ((⟨g17, 0, none⟩ : Addr)))), (5, .int .i64 0)] ∧ (Kp (fun b_ => b_ = g1) w36 w') ∧ (Blk w' g1 31 [str l.Durable, str (l.Pending ++ (lineB l.Count r)), .int .i64 l.Count]) ∧ ((lineB l.Count r).length ≤ r.Command.length + r.Reply.length + 46)) mo ?_ ?_
      · intro w84 hk85
        have hz86 := hk85.size
        have hB87 := hB40.lo hk85
        refine AH.take 0 rfl (by kernel_rfl) trivial ((Kp.refl w36 : Kp (fun b_ => b_ = g1) w36 w36).lo hk85) (fun w' hw' => r_fa fa31_1 rfl) <| AH.take 2 rfl (by kernel_rfl) trivial ((Kp.refl w36 : Kp (fun b_ => b_ = g1) w36 w36).lo hk85) (fun w' hw' => r_fa fa31_2 rfl) <| AH.take 4 rfl (by kernel_rfl) trivial ((Kp.refl w36 : Kp (fun b_ => b_ = g1) w36 w36).lo hk85) (fun w' hw' => r_lda (l := [str r.Command, str r.Reply]) agg27 rfl (fun _ _ hu => ((((hb14).lo hk20).lo hk38).kp hw' (fun e' => by have e'' : g9 = g1 := e'; omega)).cell hu) rfl) <| AH.br [1, 3] (by kernel_rfl) rfl ⟨Br.mk' rfl trivial ?_, Br.mk' rfl trivial ?_, trivial⟩
        · refine SR.q' (r_ld (v := str l.Pending) sca9 rfl ((((((hb6).lo hk12).lo hk20).lo hk38).lo hk85).cell rfl)) ?_
          refine SR.nil ⟨(Kp.refl w36 : Kp (fun b_ => b_ = g1) w36 w36).lo hk85, _, rfl, ?_⟩
          refine AH.br [3] (by kernel_rfl) rfl ⟨Br.mk' rfl trivial ?_, trivial⟩
          refine SR.q' (r_ld (v := .int .i64 l.Count) sca3 rfl ((((((hb6).lo hk12).lo hk20).lo hk38).lo hk85).cell rfl)) ?_
          refine SR.nil ⟨(Kp.refl w36 : Kp (fun b_ => b_ = g1) w36 w36).lo hk85, _, rfl, ?_⟩
          refine AH.br [5] (by kernel_rfl) rfl ⟨Br.mk' rfl trivial ?_, trivial⟩
          refine SR.call ent44 (c_spec_l33Line w84 l.Count r (by omega) (by first | omega | (dsimp only; omega) | (dsimp only; simp only [List.length_drop]; omega))) rfl ?_
          rintro e w88 ⟨rfl, hk89⟩
          refine ⟨_, rfl, ?_⟩
          have hz90 := hk89.size
          have hB91 := hB87.lo hk89
          have hS92 := ((Kp.refl w36 : Kp (fun b_ => b_ = g1) w36 w36).lo hk85).lo hk89
          have hq93 : (lineB l.Count r).length ≤ r.Command.length + r.Reply.length + 46 := line_lenG (k := l.Count) (e := r) (by omega)
          refine SR.nil ⟨hS92, _, rfl, ?_⟩
          refine AH.take 6 rfl (by kernel_rfl) trivial (hS92) (fun w' hw' => r_cat rfl rfl (by first | omega | (simp only [List.length_append, List.length_cons, List.length_nil, List.length_take, List.length_drop]; omega) | (simp only [List.length_append, List.length_cons, List.length_nil, List.length_take, List.length_drop] at *; omega))) <| AH.take 7 rfl (by kernel_rfl) trivial (hS92) (fun w' hw' => r_fa fa31_1 rfl) <| AH.br [8] (by kernel_rfl) rfl ⟨Br.mk' rfl trivial ?_, trivial⟩
          refine SR.store (o := 1) (vs := [str (l.Pending ++ (lineB l.Count r))]) sca9.2 rfl rfl rfl rfl ((((((hb6).lo hk12).lo hk20).lo hk38).lo hk85).lo hk89) (Nat.le_of_ble_eq_true rfl) rfl ?_
          intro w94 hk95 hs96 hb97
          have hz98 := hk95.size
          have hB99 := hB91.new hk95 (by omega)
          have hS100 := (hS92).step hk95 (fun _ _ e => e)
          refine SR.nil ⟨hS100, _, rfl, ?_⟩
          refine AH.done (by kernel_rfl) ?_
          exact ⟨⟨rfl, rfl, rfl, trivial⟩, hS100, (hb97), hq93⟩
        · refine SR.q' (r_ld (v := .int .i64 l.Count) sca3 rfl ((((((hb6).lo hk12).lo hk20).lo hk38).lo hk85).cell rfl)) ?_
          refine SR.nil ⟨(Kp.refl w36 : Kp (fun b_ => b_ = g1) w36 w36).lo hk85, _, rfl, ?_⟩
          refine AH.br [1, 5] (by kernel_rfl) rfl ⟨Br.mk' rfl trivial ?_, Br.mk' rfl trivial ?_, trivial⟩
          · refine SR.q' (r_ld (v := str l.Pending) sca9 rfl ((((((hb6).lo hk12).lo hk20).lo hk38).lo hk85).cell rfl)) ?_
            refine SR.nil ⟨(Kp.refl w36 : Kp (fun b_ => b_ = g1) w36 w36).lo hk85, _, rfl, ?_⟩
            refine AH.br [5] (by kernel_rfl) rfl ⟨Br.mk' rfl trivial ?_, trivial⟩
            refine SR.call ent44 (c_spec_l33Line w84 l.Count r (by omega) (by first | omega | (dsimp only; omega) | (dsimp only; simp only [List.length_drop]; omega))) rfl ?_
            rintro e w102 ⟨rfl, hk103⟩
            refine ⟨_, rfl, ?_⟩
            have hz104 := hk103.size
            have hB105 := hB87.lo hk103
            have hS106 := ((Kp.refl w36 : Kp (fun b_ => b_ = g1) w36 w36).lo hk85).lo hk103
            have hq107 : (lineB l.Count r).length ≤ r.Command.length + r.Reply.length + 46 := line_lenG (k := l.Count) (e := r) (by omega)
            refine SR.nil ⟨hS106, _, rfl, ?_⟩
            refine AH.take 6 rfl (by kernel_rfl) trivial (hS106) (fun w' hw' => r_cat rfl rfl (by first | omega | (simp only [List.length_append, List.length_cons, List.length_nil, List.length_take, List.length_drop]; omega) | (simp only [List.length_append, List.length_cons, List.length_nil, List.length_take, List.length_drop] at *; omega))) <| AH.take 7 rfl (by kernel_rfl) trivial (hS106) (fun w' hw' => r_fa fa31_1 rfl) <| AH.br [8] (by kernel_rfl) rfl ⟨Br.mk' rfl trivial ?_, trivial⟩
            refine SR.store (o := 1) (vs := [str (l.Pending ++ (lineB l.Count r))]) sca9.2 rfl rfl rfl rfl ((((((hb6).lo hk12).lo hk20).lo hk38).lo hk85).lo hk103) (Nat.le_of_ble_eq_true rfl) rfl ?_
            intro w108 hk109 hs110 hb111
            have hz112 := hk109.size
            have hB113 := hB105.new hk109 (by omega)
            have hS114 := (hS106).step hk109 (fun _ _ e => e)
            refine SR.nil ⟨hS114, _, rfl, ?_⟩
            refine AH.done (by kernel_rfl) ?_
            exact ⟨⟨rfl, rfl, rfl, trivial⟩, hS114, (hb111), hq107⟩
          · refine SR.call ent44 (c_spec_l33Line w84 l.Count r (by omega) (by first | omega | (dsimp only; omega) | (dsimp only; simp only [List.length_drop]; omega))) rfl ?_
            rintro e w115 ⟨rfl, hk116⟩
            refine ⟨_, rfl, ?_⟩
            have hz117 := hk116.size
            have hB118 := hB87.lo hk116
            have hS119 := ((Kp.refl w36 : Kp (fun b_ => b_ = g1) w36 w36).lo hk85).lo hk116
            have hq120 : (lineB l.Count r).length ≤ r.Command.length + r.Reply.length + 46 := line_lenG (k := l.Count) (e := r) (by omega)
            refine SR.nil ⟨hS119, _, rfl, ?_⟩
            refine AH.br [1] (by kernel_rfl) rfl ⟨Br.mk' rfl trivial ?_, trivial⟩
            refine SR.q' (r_ld (v := str l.Pending) sca9 rfl (((((((hb6).lo hk12).lo hk20).lo hk38).lo hk85).lo hk116).cell rfl)) ?_
            refine SR.nil ⟨hS119, _, rfl, ?_⟩
            refine AH.take 6 rfl (by kernel_rfl) trivial (hS119) (fun w' hw' => r_cat rfl rfl (by first | omega | (simp only [List.length_append, List.length_cons, List.length_nil, List.length_take, List.length_drop]; omega) | (simp only [List.length_append, List.length_cons, List.length_nil, List.length_take, List.length_drop] at *; omega))) <| AH.take 7 rfl (by kernel_rfl) trivial (hS119) (fun w' hw' => r_fa fa31_1 rfl) <| AH.br [8] (by kernel_rfl) rfl ⟨Br.mk' rfl trivial ?_, trivial⟩
            refine SR.store (o := 1) (vs := [str (l.Pending ++ (lineB l.Count r))]) sca9.2 rfl rfl rfl rfl ((((((hb6).lo hk12).lo hk20).lo hk38).lo hk85).lo hk116) (Nat.le_of_ble_eq_true rfl) rfl ?_
            intro w121 hk122 hs123 hb124
            have hz125 := hk122.size
            have hB126 := hB118.new hk122 (by omega)
            have hS127 := (hS119).step hk122 (fun _ _ e => e)
            refine SR.nil ⟨hS127, _, rfl, ?_⟩
            refine AH.done (by kernel_rfl) ?_
            exact ⟨⟨rfl, rfl, rfl, trivial⟩, hS127, (hb124), hq120⟩
      rintro f128 w129 ⟨hat131, hR130, hm101, hq93⟩
      rw [← sets_of_at hat131]
      have hz132 := hR130.size
      have hB133 := hB40.new hR130 (by omega)
      refine W.seq ?_
      refine W.regS (SR.q' (r_fa fa31_2 rfl) <| SR.q' (r_ld (v := .int .i64 l.Count) sca3 rfl ((hm101).cell rfl)) <| SR.q' (r_add rfl rfl (by omega)) <| SR.q' (r_fa fa31_2 rfl) <| SR.store (o := 2) (vs := [.int .i64 (l.Count + 1)]) sca3.2 rfl rfl rfl rfl (hm101) (Nat.le_of_ble_eq_true rfl) rfl ?_)
      intro w134 hk135 hs136 hb137
      have hz138 := hk135.size
      have hB139 := hB133.new hk135 (by omega)
      refine SR.nil ?_
      refine W.seq ?_
      refine W.regS (SR.q' (r_lda (l := [str l.Durable, str (l.Pending ++ (lineB l.Count r)), .int .i64 (l.Count + 1)]) agg31 rfl (fun _ _ hu => (hb137).cell hu) rfl) <| SR.store (o := 0) (vs := [str l.Durable, str (l.Pending ++ (lineB l.Count r)), .int .i64 (l.Count + 1)]) agg31.2 rfl rfl rfl rfl ((((hb22).lo hk38).kp hR130 (fun e' => by have e'' : g17 = g1 := e'; omega)).kp hk135 (fun e' => by have e'' : g17 = g1 := e'; omega)) (Nat.le_of_ble_eq_true rfl) rfl ?_)
      intro w140 hk141 hs142 hb143
      have hz144 := hk141.size
      have hB145 := hB139.new hk141 (by omega)
      refine SR.q' (r_as (v := .int .i64 0) rfl) <| SR.nil ?_
      refine W.ret ?_
      refine retCT rfl rfl agg31 (hb143) rfl (v := .int .i64 _) rfl ?_
      exact ⟨eR (eT2 (eA (eC (eS (z_c_spec_AppendRecord_146 l r hp0 hp1 h41 hq52 hq53 hq54 hq55 h56 hq93)) (eC (eS (z_c_spec_AppendRecord_147 l r hp0 hp1 h41 hq52 hq53 hq54 hq55 h56 hq93)) (eC (eI (z_c_spec_AppendRecord_148 l r hp0 hp1 h41 hq52 hq53 hq54 hq55 h56 hq93)) rfl)))) (eI (z_c_spec_AppendRecord_149 l r hp0 hp1 h41 hq52 hq53 hq54 hq55 h56 hq93))), hB145⟩
end Go.Proofs.YthlbmkpkgiabnaaDoor
