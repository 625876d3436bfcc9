/- Walks, printed by a program of this claim's author. -/
import Derived.Test.YtlpapeeaghmjpaaDoorChecked
import Derived.Test.YtlpapeeaghmjpaaDoorSa
import Derived.Test.YtlpapeeaghmjpaaDoorFu
import Derived.Test.YtlpapeeaghmjpaaDoorFs
import Derived.Test.YtlpapeeaghmjpaaDoorFq
import Derived.Test.YtlpapeeaghmjpaaDoorFo
import Derived.Test.YtlpapeeaghmjpaaDoorG29s
namespace Go.Proofs.YtlpapeeaghmjpaaDoor
open Go Go.RowKit Fw
set_option maxRecDepth 10000
set_option linter.unusedVariables false
theorem bld85_0 (a0 : Option Addr) (b0 c0 : Nat) : Tryd.prog.built 85 [(0, .slice a0 b0 c0)] = some (List.toArray [.slice a0 b0 c0, .int .i64 0, .int .u64 0]) := by kernel_rfl
theorem ent49 : Ent Tryd.prog 49 := ent_of Tryd.func49 (by decide +kernel) rfl
theorem ent53 : Ent Tryd.prog 53 := ent_of Tryd.func53 (by decide +kernel) rfl
theorem ent61 : Ent Tryd.prog 61 := ent_of Tryd.func61 (by decide +kernel) rfl
theorem sca9 : TSca Tryd.prog 9 := ⟨fun _ => by kernel_rfl, fun _ => by kernel_rfl⟩
theorem tel92 : TEl Tryd.prog 92 9 (str ([] : List UInt8)) 1 16 := ⟨by kernel_rfl, by kernel_rfl, rfl, by decide⟩
theorem tsl92 : TSl Tryd.prog 92 9 1 := ⟨by kernel_rfl, fun _ => by kernel_rfl⟩

theorem z_c_impl_DustIn_27 (x : Chest) (nx_Stack : Nat) (hbdx_Stack : (nx_Stack : Int) ≤ 9223372036854775807) (hlex_Stack : nx_Stack = x.Stack.length) (v : Int) (h26 : (¬ (ChestOK x)) ∨ (¬ (1 ≤ v ∧ v ≤ 100))) : 0 = dustN x v := by
  first | exact dust_impl ‹ChestOK x› (by omega) | exact (dust_no (by intro hh; rcases ‹_ ∨ _› with h | h; exact h hh.1; exact h hh.2)).symm | exact (dust_no (by intro hh; simp_all)).symm
theorem z_c_impl_DustIn_28 (x : Chest) (nx_Stack : Nat) (hbdx_Stack : (nx_Stack : Int) ≤ 9223372036854775807) (hlex_Stack : nx_Stack = x.Stack.length) (v : Int) (h26 : (¬ (ChestOK x)) ∨ (¬ (1 ≤ v ∧ v ≤ 100))) : ¬ (ChestOK x ∧ (1 ≤ v ∧ v ≤ 100)) := by
  first | exact ⟨‹ChestOK x›, by omega⟩ | (intro hh; rcases ‹_ ∨ _› with h | h; exact h hh.1; exact h hh.2) | (simp_all; done)
theorem z_c_impl_DustIn_37 (x : Chest) (nx_Stack : Nat) (hbdx_Stack : (nx_Stack : Int) ≤ 9223372036854775807) (hlex_Stack : nx_Stack = x.Stack.length) (v : Int) (h26 : ¬ ((¬ (ChestOK x)) ∨ (¬ (1 ≤ v ∧ v ≤ 100)))) (hq29 : ChestOK x) (hq30 : 1 ≤ v ∧ v ≤ 100) (hq31 : x.Stack.length ≤ 10) (hq32 : x.Stack.length ≤ 10 ∧ (0 ≤ x.State ∧ x.State ≤ 2) ∧ (0 ≤ x.Dust ∧ x.Dust ≤ 100) ∧ (0 ≤ x.Laid ∧ x.Laid ≤ 9999) ∧ (0 ≤ x.Given ∧ x.Given ≤ 9999) ∧ x.Laid - x.Given = (x.Stack.length : Int)) : (impl_Chest_dusted x v) = dustN x v := by
  first | exact dust_impl ‹ChestOK x› (by omega) | exact (dust_no (by intro hh; rcases ‹_ ∨ _› with h | h; exact h hh.1; exact h hh.2)).symm | exact (dust_no (by intro hh; simp_all)).symm
theorem z_c_impl_DustIn_38 (x : Chest) (nx_Stack : Nat) (hbdx_Stack : (nx_Stack : Int) ≤ 9223372036854775807) (hlex_Stack : nx_Stack = x.Stack.length) (v : Int) (h26 : ¬ ((¬ (ChestOK x)) ∨ (¬ (1 ≤ v ∧ v ≤ 100)))) (hq29 : ChestOK x) (hq30 : 1 ≤ v ∧ v ≤ 100) (hq31 : x.Stack.length ≤ 10) (hq32 : x.Stack.length ≤ 10 ∧ (0 ≤ x.State ∧ x.State ≤ 2) ∧ (0 ≤ x.Dust ∧ x.Dust ≤ 100) ∧ (0 ≤ x.Laid ∧ x.Laid ≤ 9999) ∧ (0 ≤ x.Given ∧ x.Given ≤ 9999) ∧ x.Laid - x.Given = (x.Stack.length : Int)) : ChestOK x ∧ (1 ≤ v ∧ v ≤ 100) := by
  first | exact ⟨‹ChestOK x›, by omega⟩ | (intro hh; rcases ‹_ ∨ _› with h | h; exact h hh.1; exact h hh.2) | (simp_all; done)
theorem c_impl_DustIn (w : World) (x : Chest) {Ax_Stack : Option Addr} {nx_Stack cx_Stack Bx_Stack : Nat} (hx_Stack : SlR w Bx_Stack encI 1 Ax_Stack nx_Stack cx_Stack x.Stack) (v : Int) : Calls Tryd.prog 13 #[.agg (List.toArray [.int .i64 x.State, .int .i64 x.Key, .slice Ax_Stack nx_Stack cx_Stack, .int .i64 x.Dust, .int .i64 x.Laid, .int .i64 x.Given]), .int .i64 v] w fun e w' => e = .returned (.tuple (List.toArray [.int .i64 (dustN x v), .bool (decide (ChestOK x ∧ (1 ≤ v ∧ v ≤ 100)))])) ∧ Lo w w' := by
  refine calls_W 17 Tryd.func13 rfl rfl rfl ?_
  have hbdx_Stack := hx_Stack.bound
  have hlex_Stack := hx_Stack.len
  have hBbx_Stack := hx_Stack.bd
  refine W.seq ?_
  refine W.regS (SR.box (v := .agg (List.toArray _)) (l := [.int .i64 x.State, .int .i64 x.Key, .slice Ax_Stack nx_Stack cx_Stack, .int .i64 x.Dust, .int .i64 x.Laid, .int .i64 x.Given]) rfl rfl ?_)
  intro g1 w2 hg3 hk4 hs5 hb6
  have hz7 := hk4.size
  have hB8 := (Lo.refl w).lo hk4
  refine SR.q' (r_as (v := .int .i64 0) rfl) <| SR.q' (r_as (v := .bool false) rfl) <| SR.nil ?_
  refine W.seq ?_
  refine W.seq ?_
  refine W.regJS (fun f' w' => At f' [(1, .int .i64 v), (2, .pointer (some ((⟨g1, 0, none⟩ : Addr)))), (4, .int .i64 0), (5, .bool false), (13, .bool (decide ((¬ (ChestOK x)) ∨ (¬ (1 ≤ v ∧ v ≤ 100)))))] ∧ Lo w2 w') ?_ ?_
  · refine SR.q' (r_lda (l := [.int .i64 x.State, .int .i64 x.Key, .slice Ax_Stack nx_Stack cx_Stack, .int .i64 x.Dust, .int .i64 x.Laid, .int .i64 x.Given]) agg40 rfl (fun _ _ hu => (hb6).cell hu) rfl) <| SR.call ent26 (c_impl_IsChest w2 x (((hx_Stack).lo hk4))) rfl ?_
    rintro e w9 ⟨rfl, hk10⟩
    refine ⟨_, rfl, ?_⟩
    have hz11 := hk10.size
    have hB12 := hB8.lo hk10
    refine SR.q' (r_not rfl) <| SR.q' (r_mv (v := .bool _) rfl) <| SR.splitN (fun h13 => ?_) (fun h13 => ?_)
    · refine SR.s' rfl <| SR.s' rfl <| SR.s' rfl <| SR.q' (r_pick true rfl (v := .bool true) rfl) <| SR.nil ?_
      exact ⟨_, rfl, ⟨⟨rfl, rfl, rfl, rfl, (eDT ((jmf h13).1 trivial)), trivial⟩, (hk10)⟩⟩
    · have hq14 := chest_len h13
      have hq15 := chest_rng h13
      refine SR.g' rfl (r_mv (v := .int .i64 _) rfl) <| SR.gcall rfl ent55 (c_impl_within w9 v 1 100) rfl ?_
      rintro e w16 ⟨rfl, hk17⟩
      refine ⟨_, rfl, ?_⟩
      have hz18 := hk17.size
      have hB19 := hB12.lo hk17
      refine SR.g' rfl (r_not rfl) <| SR.q' (r_pick false rfl (v := .bool _) rfl) <| SR.nil ?_
      exact ⟨_, rfl, ⟨⟨rfl, rfl, rfl, rfl, (eND (jmt h13)), trivial⟩, ((hk10).trans hk17)⟩⟩
  rintro f20 w21 ⟨hat22, hk23⟩
  rw [← sets_of_at hat22]
  have hz24 := hk23.size
  have hB25 := hB8.lo hk23
  refine W.cond_d rfl (fun h26 => ?_) (fun h26 => ?_)
  · refine W.seq ?_
    refine W.regS (SR.q' (r_as (v := .int .i64 0) rfl) <| SR.q' (r_as (v := .bool false) rfl) <| SR.nil ?_)
    refine W.ret ?_
    refine ret2 rfl (v := .int .i64 _) (v' := .bool _) rfl rfl ?_
    exact ⟨eR (eT2 (eI (z_c_impl_DustIn_27 x nx_Stack hbdx_Stack hlex_Stack v h26)) (eDF (z_c_impl_DustIn_28 x nx_Stack hbdx_Stack hlex_Stack v h26))), hB25⟩
  · have hq29 : ChestOK x := (Classical.not_not.1 (not_or.1 h26).1)
    have hq30 : 1 ≤ v ∧ v ≤ 100 := (Classical.not_not.1 (not_or.1 h26).2)
    have hq31 := chest_len hq29
    have hq32 := chest_rng hq29
    refine W.skip ?_
    refine W.seq ?_
    refine W.regS (SR.q' (r_lda (l := [.int .i64 x.State, .int .i64 x.Key, .slice Ax_Stack nx_Stack cx_Stack, .int .i64 x.Dust, .int .i64 x.Laid, .int .i64 x.Given]) agg40 rfl (fun _ _ hu => ((hb6).lo hk23).cell hu) rfl) <| SR.q' (r_mv (v := .int .i64 _) rfl) <| SR.call ent56 (c__impl_Chest__dusted w21 x ((((hx_Stack).lo hk4).lo hk23)) v (by omega) (by omega)) rfl ?_)
    rintro e w33 ⟨rfl, hk34⟩
    refine ⟨_, rfl, ?_⟩
    have hz35 := hk34.size
    have hB36 := hB25.lo hk34
    refine SR.q' (r_as (v := .int .i64 _) rfl) <| SR.q' (r_as (v := .bool true) rfl) <| SR.nil ?_
    refine W.ret ?_
    refine ret2 rfl (v := .int .i64 _) (v' := .bool _) rfl rfl ?_
    exact ⟨eR (eT2 (eI (z_c_impl_DustIn_37 x nx_Stack hbdx_Stack hlex_Stack v h26 hq29 hq30 hq31 hq32)) (eDT (z_c_impl_DustIn_38 x nx_Stack hbdx_Stack hlex_Stack v h26 hq29 hq30 hq31 hq32))), hB36⟩

theorem z_c_spec_DustIn_27 (x : Chest) (nx_Stack : Nat) (hbdx_Stack : (nx_Stack : Int) ≤ 9223372036854775807) (hlex_Stack : nx_Stack = x.Stack.length) (v : Int) (h26 : (¬ (ChestOK x)) ∨ (¬ (1 ≤ v ∧ v ≤ 100))) : 0 = dustN x v := by
  first | exact dust_spec ‹ChestOK x› (by omega) | exact (dust_no (by intro hh; rcases ‹_ ∨ _› with h | h; exact h hh.1; exact h hh.2)).symm | exact (dust_no (by intro hh; simp_all)).symm
theorem z_c_spec_DustIn_28 (x : Chest) (nx_Stack : Nat) (hbdx_Stack : (nx_Stack : Int) ≤ 9223372036854775807) (hlex_Stack : nx_Stack = x.Stack.length) (v : Int) (h26 : (¬ (ChestOK x)) ∨ (¬ (1 ≤ v ∧ v ≤ 100))) : ¬ (ChestOK x ∧ (1 ≤ v ∧ v ≤ 100)) := by
  first | exact ⟨‹ChestOK x›, by omega⟩ | (intro hh; rcases ‹_ ∨ _› with h | h; exact h hh.1; exact h hh.2) | (simp_all; done)
theorem z_c_spec_DustIn_58 (x : Chest) (nx_Stack : Nat) (hbdx_Stack : (nx_Stack : Int) ≤ 9223372036854775807) (hlex_Stack : nx_Stack = x.Stack.length) (v : Int) (h26 : ¬ ((¬ (ChestOK x)) ∨ (¬ (1 ≤ v ∧ v ≤ 100)))) (hq29 : ChestOK x) (hq30 : 1 ≤ v ∧ v ≤ 100) (hq31 : x.Stack.length ≤ 10) (hq32 : x.Stack.length ≤ 10 ∧ (0 ≤ x.State ∧ x.State ≤ 2) ∧ (0 ≤ x.Dust ∧ x.Dust ≤ 100) ∧ (0 ≤ x.Laid ∧ x.Laid ≤ 9999) ∧ (0 ≤ x.Given ∧ x.Given ≤ 9999) ∧ x.Laid - x.Given = (x.Stack.length : Int)) (n36 : Nat) (hl41 : n36 = (((spec_l21Dusty x v).1).Stack).length) (hl42 : (n36 : Int) ≤ 9223372036854775807) : ((spec_l21Dusty x v).1).Dust = dustN x v := by
  first | exact dust_spec ‹ChestOK x› (by omega) | exact (dust_no (by intro hh; rcases ‹_ ∨ _› with h | h; exact h hh.1; exact h hh.2)).symm | exact (dust_no (by intro hh; simp_all)).symm
theorem z_c_spec_DustIn_59 (x : Chest) (nx_Stack : Nat) (hbdx_Stack : (nx_Stack : Int) ≤ 9223372036854775807) (hlex_Stack : nx_Stack = x.Stack.length) (v : Int) (h26 : ¬ ((¬ (ChestOK x)) ∨ (¬ (1 ≤ v ∧ v ≤ 100)))) (hq29 : ChestOK x) (hq30 : 1 ≤ v ∧ v ≤ 100) (hq31 : x.Stack.length ≤ 10) (hq32 : x.Stack.length ≤ 10 ∧ (0 ≤ x.State ∧ x.State ≤ 2) ∧ (0 ≤ x.Dust ∧ x.Dust ≤ 100) ∧ (0 ≤ x.Laid ∧ x.Laid ≤ 9999) ∧ (0 ≤ x.Given ∧ x.Given ≤ 9999) ∧ x.Laid - x.Given = (x.Stack.length : Int)) (n36 : Nat) (hl41 : n36 = (((spec_l21Dusty x v).1).Stack).length) (hl42 : (n36 : Int) ≤ 9223372036854775807) : ChestOK x ∧ (1 ≤ v ∧ v ≤ 100) := by
  first | exact ⟨‹ChestOK x›, by omega⟩ | (intro hh; rcases ‹_ ∨ _› with h | h; exact h hh.1; exact h hh.2) | (simp_all; done)
theorem c_spec_DustIn (w : World) (x : Chest) {Ax_Stack : Option Addr} {nx_Stack cx_Stack Bx_Stack : Nat} (hx_Stack : SlR w Bx_Stack encI 1 Ax_Stack nx_Stack cx_Stack x.Stack) (v : Int) : Calls Tryd.prog 14 #[.agg (List.toArray [.int .i64 x.State, .int .i64 x.Key, .slice Ax_Stack nx_Stack cx_Stack, .int .i64 x.Dust, .int .i64 x.Laid, .int .i64 x.Given]), .int .i64 v] w fun e w' => e = .returned (.tuple (List.toArray [.int .i64 (dustN x v), .bool (decide (ChestOK x ∧ (1 ≤ v ∧ v ≤ 100)))])) ∧ Lo w w' := by
  refine calls_W 24 Tryd.func14 rfl rfl rfl ?_
  have hbdx_Stack := hx_Stack.bound
  have hlex_Stack := hx_Stack.len
  have hBbx_Stack := hx_Stack.bd
  refine W.seq ?_
  refine W.regS (SR.box (v := .agg (List.toArray _)) (l := [.int .i64 x.State, .int .i64 x.Key, .slice Ax_Stack nx_Stack cx_Stack, .int .i64 x.Dust, .int .i64 x.Laid, .int .i64 x.Given]) rfl rfl ?_)
  intro g1 w2 hg3 hk4 hs5 hb6
  have hz7 := hk4.size
  have hB8 := (Lo.refl w).lo hk4
  refine SR.q' (r_as (v := .int .i64 0) rfl) <| SR.q' (r_as (v := .bool false) rfl) <| SR.nil ?_
  refine W.seq ?_
  refine W.seq ?_
  refine W.regJS (fun f' w' => At f' [(1, .int .i64 v), (2, .pointer (some ((⟨g1, 0, none⟩ : Addr)))), (4, .int .i64 0), (5, .bool false), (15, .bool (decide ((¬ (ChestOK x)) ∨ (¬ (1 ≤ v ∧ v ≤ 100)))))] ∧ Lo w2 w') ?_ ?_
  · refine SR.q' (r_lda (l := [.int .i64 x.State, .int .i64 x.Key, .slice Ax_Stack nx_Stack cx_Stack, .int .i64 x.Dust, .int .i64 x.Laid, .int .i64 x.Given]) agg40 rfl (fun _ _ hu => (hb6).cell hu) rfl) <| SR.call ent57 (c_spec_l21Good w2 x (((hx_Stack).lo hk4))) rfl ?_
    rintro e w9 ⟨rfl, hk10⟩
    refine ⟨_, rfl, ?_⟩
    have hz11 := hk10.size
    have hB12 := hB8.lo hk10
    refine SR.q' (r_not rfl) <| SR.q' (r_mv (v := .bool _) rfl) <| SR.splitN (fun h13 => ?_) (fun h13 => ?_)
    · refine SR.s' rfl <| SR.s' rfl <| SR.s' rfl <| SR.q' (r_pick true rfl (v := .bool true) rfl) <| SR.nil ?_
      exact ⟨_, rfl, ⟨⟨rfl, rfl, rfl, rfl, (eDT ((jmf h13).1 trivial)), trivial⟩, (hk10)⟩⟩
    · have hq14 := chest_len h13
      have hq15 := chest_rng h13
      refine SR.g' rfl (r_mv (v := .int .i64 _) rfl) <| SR.gcall rfl ent58 (c_spec_l1In w9 v 1 100) rfl ?_
      rintro e w16 ⟨rfl, hk17⟩
      refine ⟨_, rfl, ?_⟩
      have hz18 := hk17.size
      have hB19 := hB12.lo hk17
      refine SR.g' rfl (r_not rfl) <| SR.q' (r_pick false rfl (v := .bool _) rfl) <| SR.nil ?_
      exact ⟨_, rfl, ⟨⟨rfl, rfl, rfl, rfl, (eND (jmt h13)), trivial⟩, ((hk10).trans hk17)⟩⟩
  rintro f20 w21 ⟨hat22, hk23⟩
  rw [← sets_of_at hat22]
  have hz24 := hk23.size
  have hB25 := hB8.lo hk23
  refine W.cond_d rfl (fun h26 => ?_) (fun h26 => ?_)
  · refine W.seq ?_
    refine W.regS (SR.q' (r_as (v := .int .i64 0) rfl) <| SR.q' (r_as (v := .bool false) rfl) <| SR.nil ?_)
    refine W.ret ?_
    refine ret2 rfl (v := .int .i64 _) (v' := .bool _) rfl rfl ?_
    exact ⟨eR (eT2 (eI (z_c_spec_DustIn_27 x nx_Stack hbdx_Stack hlex_Stack v h26)) (eDF (z_c_spec_DustIn_28 x nx_Stack hbdx_Stack hlex_Stack v h26))), hB25⟩
  · have hq29 : ChestOK x := (Classical.not_not.1 (not_or.1 h26).1)
    have hq30 : 1 ≤ v ∧ v ≤ 100 := (Classical.not_not.1 (not_or.1 h26).2)
    have hq31 := chest_len hq29
    have hq32 := chest_rng hq29
    refine W.skip ?_
    refine W.seq ?_
    refine W.regS (SR.q' (r_lda (l := [.int .i64 x.State, .int .i64 x.Key, .slice Ax_Stack nx_Stack cx_Stack, .int .i64 x.Dust, .int .i64 x.Laid, .int .i64 x.Given]) agg40 rfl (fun _ _ hu => ((hb6).lo hk23).cell hu) rfl) <| SR.q' (r_mv (v := .int .i64 _) rfl) <| SR.call ent59 (c_spec_l21Dusty w21 x ((((hx_Stack).lo hk4).lo hk23)) v (by assumption) (by omega)) rfl ?_)
    rintro e w33 ⟨A35, n36, c37, rfl, hO38, hk34⟩
    refine ⟨_, rfl, ?_⟩
    have hz39 := hk34.size
    have hB40 := hB25.lo hk34
    have hl41 := hO38.len
    have hl42 := hO38.rd.bound
    refine SR.q' (r_mv (v := .tuple (List.toArray _)) rfl) <| SR.q' (r_ext (v := .agg (List.toArray _)) rfl rfl) <| SR.q' (r_ext (v := .bool _) rfl rfl) <| SR.alloc (l := [.int .i64 0, .int .i64 0, .slice none 0 0, .int .i64 0, .int .i64 0, .int .i64 0]) tz40 rfl ?_
    intro g43 w44 hg45 hk46 hs47 hb48
    have hz49 := hk46.size
    have hB50 := hB40.lo hk46
    have hd51 : ¬ A35 = some ⟨g43, 0, none⟩ := fun e' => by have := (hO38).base_le e'; omega
    refine SR.store (o := 0) (vs := [.int .i64 (((spec_l21Dusty x v).1).State), .int .i64 (((spec_l21Dusty x v).1).Key), .slice A35 n36 c37, .int .i64 (((spec_l21Dusty x v).1).Dust), .int .i64 (((spec_l21Dusty x v).1).Laid), .int .i64 (((spec_l21Dusty x v).1).Given)]) agg40.2 rfl rfl rfl rfl (hb48) (Nat.le_of_ble_eq_true rfl) rfl ?_
    intro w52 hk53 hs54 hb55
    have hz56 := hk53.size
    have hB57 := hB50.new hk53 (by omega)
    refine SR.q' (r_as (v := .bool _) rfl) <| SR.nil ?_
    refine W.seq ?_
    refine W.regS (SR.q' (r_fa fa40_3 rfl) <| SR.q' (r_ld (v := .int .i64 (((spec_l21Dusty x v).1).Dust)) sca3 rfl ((hb55).cell rfl)) <| SR.q' (r_as (v := .int .i64 _) rfl) <| SR.q' (r_as (v := .bool true) rfl) <| SR.nil ?_)
    refine W.ret ?_
    refine ret2 rfl (v := .int .i64 _) (v' := .bool _) rfl rfl ?_
    exact ⟨eR (eT2 (eI (z_c_spec_DustIn_58 x nx_Stack hbdx_Stack hlex_Stack v h26 hq29 hq30 hq31 hq32 n36 hl41 hl42)) (eDT (z_c_spec_DustIn_59 x nx_Stack hbdx_Stack hlex_Stack v h26 hq29 hq30 hq31 hq32 n36 hl41 hl42))), hB57⟩

theorem z_c_impl_StepsToOpen_14 (x : Chest) (nx_Stack : Nat) (hbdx_Stack : (nx_Stack : Int) ≤ 9223372036854775807) (hlex_Stack : nx_Stack = x.Stack.length) (h13 : ¬ (ChestOK x)) : 0 = openN x := by
  first | exact (open_no ‹_›).symm | exact (open_1 ‹ChestOK x› (by omega)).symm | exact (open_0 ‹ChestOK x› (by omega)).symm | exact (open_2 ‹ChestOK x› (by omega) (by omega)).symm | exact open_lit ‹ChestOK x› ‹_[_]? = some _›
theorem z_c_impl_StepsToOpen_15 (x : Chest) (nx_Stack : Nat) (hbdx_Stack : (nx_Stack : Int) ≤ 9223372036854775807) (hlex_Stack : nx_Stack = x.Stack.length) (h13 : ¬ (ChestOK x)) : ¬ (ChestOK x) := by
  first | assumption | (simp_all; done)
theorem z_c_impl_StepsToOpen_19 (x : Chest) (nx_Stack : Nat) (hbdx_Stack : (nx_Stack : Int) ≤ 9223372036854775807) (hlex_Stack : nx_Stack = x.Stack.length) (h13 : ChestOK x) (hq16 : x.Stack.length ≤ 10) (hq17 : x.Stack.length ≤ 10 ∧ (0 ≤ x.State ∧ x.State ≤ 2) ∧ (0 ≤ x.Dust ∧ x.Dust ≤ 100) ∧ (0 ≤ x.Laid ∧ x.Laid ≤ 9999) ∧ (0 ≤ x.Given ∧ x.Given ≤ 9999) ∧ x.Laid - x.Given = (x.Stack.length : Int)) (h18 : x.State = 1) : 0 = openN x := by
  first | exact (open_no ‹_›).symm | exact (open_1 ‹ChestOK x› (by omega)).symm | exact (open_0 ‹ChestOK x› (by omega)).symm | exact (open_2 ‹ChestOK x› (by omega) (by omega)).symm | exact open_lit ‹ChestOK x› ‹_[_]? = some _›
theorem z_c_impl_StepsToOpen_20 (x : Chest) (nx_Stack : Nat) (hbdx_Stack : (nx_Stack : Int) ≤ 9223372036854775807) (hlex_Stack : nx_Stack = x.Stack.length) (h13 : ChestOK x) (hq16 : x.Stack.length ≤ 10) (hq17 : x.Stack.length ≤ 10 ∧ (0 ≤ x.State ∧ x.State ≤ 2) ∧ (0 ≤ x.Dust ∧ x.Dust ≤ 100) ∧ (0 ≤ x.Laid ∧ x.Laid ≤ 9999) ∧ (0 ≤ x.Given ∧ x.Given ≤ 9999) ∧ x.Laid - x.Given = (x.Stack.length : Int)) (h18 : x.State = 1) : ChestOK x := by
  first | assumption | (simp_all; done)
theorem z_c_impl_StepsToOpen_22 (x : Chest) (nx_Stack : Nat) (hbdx_Stack : (nx_Stack : Int) ≤ 9223372036854775807) (hlex_Stack : nx_Stack = x.Stack.length) (h13 : ChestOK x) (hq16 : x.Stack.length ≤ 10) (hq17 : x.Stack.length ≤ 10 ∧ (0 ≤ x.State ∧ x.State ≤ 2) ∧ (0 ≤ x.Dust ∧ x.Dust ≤ 100) ∧ (0 ≤ x.Laid ∧ x.Laid ≤ 9999) ∧ (0 ≤ x.Given ∧ x.Given ≤ 9999) ∧ x.Laid - x.Given = (x.Stack.length : Int)) (h18 : ¬ (x.State = 1)) (h21 : x.State = 0) : 1 = openN x := by
  first | exact (open_no ‹_›).symm | exact (open_1 ‹ChestOK x› (by omega)).symm | exact (open_0 ‹ChestOK x› (by omega)).symm | exact (open_2 ‹ChestOK x› (by omega) (by omega)).symm | exact open_lit ‹ChestOK x› ‹_[_]? = some _›
theorem z_c_impl_StepsToOpen_23 (x : Chest) (nx_Stack : Nat) (hbdx_Stack : (nx_Stack : Int) ≤ 9223372036854775807) (hlex_Stack : nx_Stack = x.Stack.length) (h13 : ChestOK x) (hq16 : x.Stack.length ≤ 10) (hq17 : x.Stack.length ≤ 10 ∧ (0 ≤ x.State ∧ x.State ≤ 2) ∧ (0 ≤ x.Dust ∧ x.Dust ≤ 100) ∧ (0 ≤ x.Laid ∧ x.Laid ≤ 9999) ∧ (0 ≤ x.Given ∧ x.Given ≤ 9999) ∧ x.Laid - x.Given = (x.Stack.length : Int)) (h18 : ¬ (x.State = 1)) (h21 : x.State = 0) : ChestOK x := by
  first | assumption | (simp_all; done)
theorem z_c_impl_StepsToOpen_24 (x : Chest) (nx_Stack : Nat) (hbdx_Stack : (nx_Stack : Int) ≤ 9223372036854775807) (hlex_Stack : nx_Stack = x.Stack.length) (h13 : ChestOK x) (hq16 : x.Stack.length ≤ 10) (hq17 : x.Stack.length ≤ 10 ∧ (0 ≤ x.State ∧ x.State ≤ 2) ∧ (0 ≤ x.Dust ∧ x.Dust ≤ 100) ∧ (0 ≤ x.Laid ∧ x.Laid ≤ 9999) ∧ (0 ≤ x.Given ∧ x.Given ≤ 9999) ∧ x.Laid - x.Given = (x.Stack.length : Int)) (h18 : ¬ (x.State = 1)) (h21 : ¬ (x.State = 0)) : 2 = openN x := by
  first | exact (open_no ‹_›).symm | exact (open_1 ‹ChestOK x› (by omega)).symm | exact (open_0 ‹ChestOK x› (by omega)).symm | exact (open_2 ‹ChestOK x› (by omega) (by omega)).symm | exact open_lit ‹ChestOK x› ‹_[_]? = some _›
theorem z_c_impl_StepsToOpen_25 (x : Chest) (nx_Stack : Nat) (hbdx_Stack : (nx_Stack : Int) ≤ 9223372036854775807) (hlex_Stack : nx_Stack = x.Stack.length) (h13 : ChestOK x) (hq16 : x.Stack.length ≤ 10) (hq17 : x.Stack.length ≤ 10 ∧ (0 ≤ x.State ∧ x.State ≤ 2) ∧ (0 ≤ x.Dust ∧ x.Dust ≤ 100) ∧ (0 ≤ x.Laid ∧ x.Laid ≤ 9999) ∧ (0 ≤ x.Given ∧ x.Given ≤ 9999) ∧ x.Laid - x.Given = (x.Stack.length : Int)) (h18 : ¬ (x.State = 1)) (h21 : ¬ (x.State = 0)) : ChestOK x := by
  first | assumption | (simp_all; done)
theorem c_impl_StepsToOpen (w : World) (x : Chest) {Ax_Stack : Option Addr} {nx_Stack cx_Stack Bx_Stack : Nat} (hx_Stack : SlR w Bx_Stack encI 1 Ax_Stack nx_Stack cx_Stack x.Stack) : Calls Tryd.prog 17 #[.agg (List.toArray [.int .i64 x.State, .int .i64 x.Key, .slice Ax_Stack nx_Stack cx_Stack, .int .i64 x.Dust, .int .i64 x.Laid, .int .i64 x.Given])] w fun e w' => e = .returned (.tuple (List.toArray [.int .i64 (openN x), .bool (decide (ChestOK x))])) ∧ Lo w w' := by
  refine calls_W 13 Tryd.func17 rfl rfl rfl ?_
  have hbdx_Stack := hx_Stack.bound
  have hlex_Stack := hx_Stack.len
  have hBbx_Stack := hx_Stack.bd
  refine W.seq ?_
  refine W.regS (SR.box (v := .agg (List.toArray _)) (l := [.int .i64 x.State, .int .i64 x.Key, .slice Ax_Stack nx_Stack cx_Stack, .int .i64 x.Dust, .int .i64 x.Laid, .int .i64 x.Given]) rfl rfl ?_)
  intro g1 w2 hg3 hk4 hs5 hb6
  have hz7 := hk4.size
  have hB8 := (Lo.refl w).lo hk4
  refine SR.q' (r_as (v := .int .i64 0) rfl) <| SR.q' (r_as (v := .bool false) rfl) <| SR.nil ?_
  refine W.seq ?_
  refine W.seq ?_
  refine W.regS (SR.q' (r_lda (l := [.int .i64 x.State, .int .i64 x.Key, .slice Ax_Stack nx_Stack cx_Stack, .int .i64 x.Dust, .int .i64 x.Laid, .int .i64 x.Given]) agg40 rfl (fun _ _ hu => (hb6).cell hu) rfl) <| SR.call ent26 (c_impl_IsChest w2 x (((hx_Stack).lo hk4))) rfl ?_)
  rintro e w9 ⟨rfl, hk10⟩
  refine ⟨_, rfl, ?_⟩
  have hz11 := hk10.size
  have hB12 := hB8.lo hk10
  refine SR.q' (r_not rfl) <| SR.nil ?_
  refine W.cond_n rfl (fun h13 => ?_) (fun h13 => ?_)
  · refine W.seq ?_
    refine W.regS (SR.q' (r_as (v := .int .i64 0) rfl) <| SR.q' (r_as (v := .bool false) rfl) <| SR.nil ?_)
    refine W.ret ?_
    refine ret2 rfl (v := .int .i64 _) (v' := .bool _) rfl rfl ?_
    exact ⟨eR (eT2 (eI (z_c_impl_StepsToOpen_14 x nx_Stack hbdx_Stack hlex_Stack h13)) (eDF (z_c_impl_StepsToOpen_15 x nx_Stack hbdx_Stack hlex_Stack h13))), hB12⟩
  · have hq16 := chest_len h13
    have hq17 := chest_rng h13
    refine W.skip ?_
    refine W.seq ?_
    refine W.seq ?_
    refine W.regS (SR.q' (r_fa fa40_0 rfl) <| SR.q' (r_ld (v := .int .i64 x.State) sca3 rfl (((hb6).lo hk10).cell rfl)) <| SR.nil ?_)
    refine W.block ?_
    refine W.seq ?_
    refine W.regS (SR.q' (r_eq rfl rfl) <| SR.q' (r_as (v := .bool _) rfl) <| SR.nil ?_)
    refine W.cond_d rfl (fun h18 => ?_) (fun h18 => ?_)
    · refine W.seq ?_
      refine W.regS (SR.q' (r_as (v := .int .i64 0) rfl) <| SR.q' (r_as (v := .bool true) rfl) <| SR.nil ?_)
      refine W.ret ?_
      refine ret2 rfl (v := .int .i64 _) (v' := .bool _) rfl rfl ?_
      exact ⟨eR (eT2 (eI (z_c_impl_StepsToOpen_19 x nx_Stack hbdx_Stack hlex_Stack h13 hq16 hq17 h18)) (eDT (z_c_impl_StepsToOpen_20 x nx_Stack hbdx_Stack hlex_Stack h13 hq16 hq17 h18))), hB12⟩
    · refine W.seq ?_
      refine W.regS (SR.q' (r_eq rfl rfl) <| SR.q' (r_as (v := .bool _) rfl) <| SR.nil ?_)
      refine W.cond_d rfl (fun h21 => ?_) (fun h21 => ?_)
      · refine W.seq ?_
        refine W.regS (SR.q' (r_as (v := .int .i64 1) rfl) <| SR.q' (r_as (v := .bool true) rfl) <| SR.nil ?_)
        refine W.ret ?_
        refine ret2 rfl (v := .int .i64 _) (v' := .bool _) rfl rfl ?_
        exact ⟨eR (eT2 (eI (z_c_impl_StepsToOpen_22 x nx_Stack hbdx_Stack hlex_Stack h13 hq16 hq17 h18 h21)) (eDT (z_c_impl_StepsToOpen_23 x nx_Stack hbdx_Stack hlex_Stack h13 hq16 hq17 h18 h21))), hB12⟩
      · refine W.skip ?_
        refine W.seq ?_
        refine W.regS (SR.q' (r_as (v := .int .i64 2) rfl) <| SR.q' (r_as (v := .bool true) rfl) <| SR.nil ?_)
        refine W.ret ?_
        refine ret2 rfl (v := .int .i64 _) (v' := .bool _) rfl rfl ?_
        exact ⟨eR (eT2 (eI (z_c_impl_StepsToOpen_24 x nx_Stack hbdx_Stack hlex_Stack h13 hq16 hq17 h18 h21)) (eDT (z_c_impl_StepsToOpen_25 x nx_Stack hbdx_Stack hlex_Stack h13 hq16 hq17 h18 h21))), hB12⟩

theorem z_c_spec_StepsToOpen_14 (x : Chest) (nx_Stack : Nat) (hbdx_Stack : (nx_Stack : Int) ≤ 9223372036854775807) (hlex_Stack : nx_Stack = x.Stack.length) (h13 : ¬ (ChestOK x)) : 0 = openN x := by
  first | exact (open_no ‹_›).symm | exact (open_1 ‹ChestOK x› (by omega)).symm | exact (open_0 ‹ChestOK x› (by omega)).symm | exact (open_2 ‹ChestOK x› (by omega) (by omega)).symm | exact open_lit ‹ChestOK x› ‹_[_]? = some _›
theorem z_c_spec_StepsToOpen_15 (x : Chest) (nx_Stack : Nat) (hbdx_Stack : (nx_Stack : Int) ≤ 9223372036854775807) (hlex_Stack : nx_Stack = x.Stack.length) (h13 : ¬ (ChestOK x)) : ¬ (ChestOK x) := by
  first | assumption | (simp_all; done)
theorem z_c_spec_StepsToOpen_27 (x : Chest) (nx_Stack : Nat) (hbdx_Stack : (nx_Stack : Int) ≤ 9223372036854775807) (hlex_Stack : nx_Stack = x.Stack.length) (h13 : ChestOK x) (hq16 : x.Stack.length ≤ 10) (hq17 : x.Stack.length ≤ 10 ∧ (0 ≤ x.State ∧ x.State ≤ 2) ∧ (0 ≤ x.Dust ∧ x.Dust ≤ 100) ∧ (0 ≤ x.Laid ∧ x.Laid ≤ 9999) ∧ (0 ≤ x.Given ∧ x.Given ≤ 9999) ∧ x.Laid - x.Given = (x.Stack.length : Int)) (hx26 : ([1, 0, 2] : List Int)[x.State.toNat]? = some (gt ([1, 0, 2] : List Int) x.State.toNat)) : (gt ([1, 0, 2] : List Int) x.State.toNat) = openN x := by
  first | exact (open_no ‹_›).symm | exact (open_1 ‹ChestOK x› (by omega)).symm | exact (open_0 ‹ChestOK x› (by omega)).symm | exact (open_2 ‹ChestOK x› (by omega) (by omega)).symm | exact open_lit ‹ChestOK x› ‹_[_]? = some _›
theorem z_c_spec_StepsToOpen_28 (x : Chest) (nx_Stack : Nat) (hbdx_Stack : (nx_Stack : Int) ≤ 9223372036854775807) (hlex_Stack : nx_Stack = x.Stack.length) (h13 : ChestOK x) (hq16 : x.Stack.length ≤ 10) (hq17 : x.Stack.length ≤ 10 ∧ (0 ≤ x.State ∧ x.State ≤ 2) ∧ (0 ≤ x.Dust ∧ x.Dust ≤ 100) ∧ (0 ≤ x.Laid ∧ x.Laid ≤ 9999) ∧ (0 ≤ x.Given ∧ x.Given ≤ 9999) ∧ x.Laid - x.Given = (x.Stack.length : Int)) (hx26 : ([1, 0, 2] : List Int)[x.State.toNat]? = some (gt ([1, 0, 2] : List Int) x.State.toNat)) : ChestOK x := by
  first | assumption | (simp_all; done)
theorem c_spec_StepsToOpen (w : World) (x : Chest) {Ax_Stack : Option Addr} {nx_Stack cx_Stack Bx_Stack : Nat} (hx_Stack : SlR w Bx_Stack encI 1 Ax_Stack nx_Stack cx_Stack x.Stack) : Calls Tryd.prog 18 #[.agg (List.toArray [.int .i64 x.State, .int .i64 x.Key, .slice Ax_Stack nx_Stack cx_Stack, .int .i64 x.Dust, .int .i64 x.Laid, .int .i64 x.Given])] w fun e w' => e = .returned (.tuple (List.toArray [.int .i64 (openN x), .bool (decide (ChestOK x))])) ∧ Lo w w' := by
  refine calls_W 12 Tryd.func18 rfl rfl rfl ?_
  have hbdx_Stack := hx_Stack.bound
  have hlex_Stack := hx_Stack.len
  have hBbx_Stack := hx_Stack.bd
  refine W.seq ?_
  refine W.regS (SR.box (v := .agg (List.toArray _)) (l := [.int .i64 x.State, .int .i64 x.Key, .slice Ax_Stack nx_Stack cx_Stack, .int .i64 x.Dust, .int .i64 x.Laid, .int .i64 x.Given]) rfl rfl ?_)
  intro g1 w2 hg3 hk4 hs5 hb6
  have hz7 := hk4.size
  have hB8 := (Lo.refl w).lo hk4
  refine SR.q' (r_as (v := .int .i64 0) rfl) <| SR.q' (r_as (v := .bool false) rfl) <| SR.nil ?_
  refine W.seq ?_
  refine W.seq ?_
  refine W.regS (SR.q' (r_lda (l := [.int .i64 x.State, .int .i64 x.Key, .slice Ax_Stack nx_Stack cx_Stack, .int .i64 x.Dust, .int .i64 x.Laid, .int .i64 x.Given]) agg40 rfl (fun _ _ hu => (hb6).cell hu) rfl) <| SR.call ent57 (c_spec_l21Good w2 x (((hx_Stack).lo hk4))) rfl ?_)
  rintro e w9 ⟨rfl, hk10⟩
  refine ⟨_, rfl, ?_⟩
  have hz11 := hk10.size
  have hB12 := hB8.lo hk10
  refine SR.q' (r_not rfl) <| SR.nil ?_
  refine W.cond_n rfl (fun h13 => ?_) (fun h13 => ?_)
  · refine W.seq ?_
    refine W.regS (SR.q' (r_as (v := .int .i64 0) rfl) <| SR.q' (r_as (v := .bool false) rfl) <| SR.nil ?_)
    refine W.ret ?_
    refine ret2 rfl (v := .int .i64 _) (v' := .bool _) rfl rfl ?_
    exact ⟨eR (eT2 (eI (z_c_spec_StepsToOpen_14 x nx_Stack hbdx_Stack hlex_Stack h13)) (eDF (z_c_spec_StepsToOpen_15 x nx_Stack hbdx_Stack hlex_Stack h13))), hB12⟩
  · have hq16 := chest_len h13
    have hq17 := chest_rng h13
    refine W.skip ?_
    refine W.seq ?_
    refine W.regS (SR.lit (vs := [.int .i64 1, .int .i64 0, .int .i64 2]) (L := ([1, 0, 2] : List Int)) (enc := encI) tel38 (fun _ => rfl) rfl rfl rfl (by decide) ?_)
    intro g18 w19 hg20 hk21 hO22
    have hz23 := hk21.size
    have hB24 := hB12.lo hk21
    refine SR.q' (r_fa fa40_0 rfl) <| SR.q' (r_ld (v := .int .i64 x.State) sca3 rfl ((((hb6).lo hk10).lo hk21).cell rfl)) <| ?_
    have hx26 := ((hO22).rd).elem (i := x.State.toNat) (by omega)
    refine SR.q' (r_ixR tsl38 ((hO22).rd) rfl rfl (by omega)) <| SR.q' (r_ld (v := .int .i64 (gt ([1, 0, 2] : List Int) x.State.toNat)) sca3 rfl (((hO22).rd).cell0 hx26 rfl)) <| SR.q' (r_as (v := .int .i64 _) rfl) <| SR.q' (r_as (v := .bool true) rfl) <| SR.nil ?_
    refine W.ret ?_
    refine ret2 rfl (v := .int .i64 _) (v' := .bool _) rfl rfl ?_
    exact ⟨eR (eT2 (eI (z_c_spec_StepsToOpen_27 x nx_Stack hbdx_Stack hlex_Stack h13 hq16 hq17 hx26)) (eDT (z_c_spec_StepsToOpen_28 x nx_Stack hbdx_Stack hlex_Stack h13 hq16 hq17 hx26))), hB24⟩

theorem z_c_impl_ChestText_14 (x : Chest) (nx_Stack : Nat) (hbdx_Stack : (nx_Stack : Int) ≤ 9223372036854775807) (hlex_Stack : nx_Stack = x.Stack.length) (h13 : ¬ (ChestOK x)) : ([] : List UInt8) = chX x := by
  first | exact chX_no ‹_› | exact chX_yes ‹ChestOK x› (by omega)
theorem z_c_impl_ChestText_15 (x : Chest) (nx_Stack : Nat) (hbdx_Stack : (nx_Stack : Int) ≤ 9223372036854775807) (hlex_Stack : nx_Stack = x.Stack.length) (h13 : ¬ (ChestOK x)) : ¬ (ChestOK x) := by
  first | assumption | (simp_all; done)
theorem z_c_impl_ChestText_74 (x : Chest) (nx_Stack : Nat) (hbdx_Stack : (nx_Stack : Int) ≤ 9223372036854775807) (hlex_Stack : nx_Stack = x.Stack.length) (h13 : ChestOK x) (hq16 : x.Stack.length ≤ 10) (hq17 : x.Stack.length ≤ 10 ∧ (0 ≤ x.State ∧ x.State ≤ 2) ∧ (0 ≤ x.Dust ∧ x.Dust ≤ 100) ∧ (0 ≤ x.Laid ∧ x.Laid ≤ 9999) ∧ (0 ≤ x.Given ∧ x.Given ≤ 9999) ∧ x.Laid - x.Given = (x.Stack.length : Int)) (hx31 : ([([115, 104, 117, 116] : List UInt8), ([111, 112, 101, 110] : List UInt8), ([108, 111, 99, 107, 101, 100] : List UInt8)] : List (List UInt8))[x.State.toNat]? = some (gt ([([115, 104, 117, 116] : List UInt8), ([111, 112, 101, 110] : List UInt8), ([108, 111, 99, 107, 101, 100] : List UInt8)] : List (List UInt8)) x.State.toNat)) (hq32 : (gt ([([115, 104, 117, 116] : List UInt8), ([111, 112, 101, 110] : List UInt8), ([108, 111, 99, 107, 101, 100] : List UInt8)] : List (List UInt8)) x.State.toNat).length ≤ 40) (hq38 : (Lib.itoa x.Dust).length ≤ 21) : 0 ≤ nx_Stack := by
  omega
theorem z_c_impl_ChestText_91 (x : Chest) (nx_Stack : Nat) (hbdx_Stack : (nx_Stack : Int) ≤ 9223372036854775807) (hlex_Stack : nx_Stack = x.Stack.length) (h13 : ChestOK x) (hq16 : x.Stack.length ≤ 10) (hq17 : x.Stack.length ≤ 10 ∧ (0 ≤ x.State ∧ x.State ≤ 2) ∧ (0 ≤ x.Dust ∧ x.Dust ≤ 100) ∧ (0 ≤ x.Laid ∧ x.Laid ≤ 9999) ∧ (0 ≤ x.Given ∧ x.Given ≤ 9999) ∧ x.Laid - x.Given = (x.Stack.length : Int)) (hx31 : ([([115, 104, 117, 116] : List UInt8), ([111, 112, 101, 110] : List UInt8), ([108, 111, 99, 107, 101, 100] : List UInt8)] : List (List UInt8))[x.State.toNat]? = some (gt ([([115, 104, 117, 116] : List UInt8), ([111, 112, 101, 110] : List UInt8), ([108, 111, 99, 107, 101, 100] : List UInt8)] : List (List UInt8)) x.State.toNat)) (hq32 : (gt ([([115, 104, 117, 116] : List UInt8), ([111, 112, 101, 110] : List UInt8), ([108, 111, 99, 107, 101, 100] : List UInt8)] : List (List UInt8)) x.State.toNat).length ≤ 40) (hq38 : (Lib.itoa x.Dust).length ≤ 21) (k : Nat) (hi80 : k ≤ nx_Stack) (hq81 : (chT x k).length ≤ 40 + 22 * k) (h82 : (k : Int) < (nx_Stack : Int)) (hx84 : x.Stack[k]? = some (gt x.Stack k)) (hq85 : 1 ≤ (gt x.Stack k) ∧ (gt x.Stack k) ≤ 999) (hq90 : (Lib.itoa (gt x.Stack k)).length ≤ 21) : k + 1 ≤ nx_Stack := by
  omega
theorem z_c_impl_ChestText_92 (x : Chest) (nx_Stack : Nat) (hbdx_Stack : (nx_Stack : Int) ≤ 9223372036854775807) (hlex_Stack : nx_Stack = x.Stack.length) (h13 : ChestOK x) (hq16 : x.Stack.length ≤ 10) (hq17 : x.Stack.length ≤ 10 ∧ (0 ≤ x.State ∧ x.State ≤ 2) ∧ (0 ≤ x.Dust ∧ x.Dust ≤ 100) ∧ (0 ≤ x.Laid ∧ x.Laid ≤ 9999) ∧ (0 ≤ x.Given ∧ x.Given ≤ 9999) ∧ x.Laid - x.Given = (x.Stack.length : Int)) (hx31 : ([([115, 104, 117, 116] : List UInt8), ([111, 112, 101, 110] : List UInt8), ([108, 111, 99, 107, 101, 100] : List UInt8)] : List (List UInt8))[x.State.toNat]? = some (gt ([([115, 104, 117, 116] : List UInt8), ([111, 112, 101, 110] : List UInt8), ([108, 111, 99, 107, 101, 100] : List UInt8)] : List (List UInt8)) x.State.toNat)) (hq32 : (gt ([([115, 104, 117, 116] : List UInt8), ([111, 112, 101, 110] : List UInt8), ([108, 111, 99, 107, 101, 100] : List UInt8)] : List (List UInt8)) x.State.toNat).length ≤ 40) (hq38 : (Lib.itoa x.Dust).length ≤ 21) (k : Nat) (hi80 : k ≤ nx_Stack) (hq81 : (chT x k).length ≤ 40 + 22 * k) (h82 : (k : Int) < (nx_Stack : Int)) (hx84 : x.Stack[k]? = some (gt x.Stack k)) (hq85 : 1 ≤ (gt x.Stack k) ∧ (gt x.Stack k) ≤ 999) (hq90 : (Lib.itoa (gt x.Stack k)).length ≤ 21) : nx_Stack - (k + 1) < nx_Stack - k := by
  omega
theorem z_c_impl_ChestText_93 (x : Chest) (nx_Stack : Nat) (hbdx_Stack : (nx_Stack : Int) ≤ 9223372036854775807) (hlex_Stack : nx_Stack = x.Stack.length) (h13 : ChestOK x) (hq16 : x.Stack.length ≤ 10) (hq17 : x.Stack.length ≤ 10 ∧ (0 ≤ x.State ∧ x.State ≤ 2) ∧ (0 ≤ x.Dust ∧ x.Dust ≤ 100) ∧ (0 ≤ x.Laid ∧ x.Laid ≤ 9999) ∧ (0 ≤ x.Given ∧ x.Given ≤ 9999) ∧ x.Laid - x.Given = (x.Stack.length : Int)) (hx31 : ([([115, 104, 117, 116] : List UInt8), ([111, 112, 101, 110] : List UInt8), ([108, 111, 99, 107, 101, 100] : List UInt8)] : List (List UInt8))[x.State.toNat]? = some (gt ([([115, 104, 117, 116] : List UInt8), ([111, 112, 101, 110] : List UInt8), ([108, 111, 99, 107, 101, 100] : List UInt8)] : List (List UInt8)) x.State.toNat)) (hq32 : (gt ([([115, 104, 117, 116] : List UInt8), ([111, 112, 101, 110] : List UInt8), ([108, 111, 99, 107, 101, 100] : List UInt8)] : List (List UInt8)) x.State.toNat).length ≤ 40) (hq38 : (Lib.itoa x.Dust).length ≤ 21) (k : Nat) (hi80 : k ≤ nx_Stack) (hq81 : (chT x k).length ≤ 40 + 22 * k) (h82 : ¬ ((k : Int) < (nx_Stack : Int))) : chT x k = chX x := by
  first | exact chX_no ‹_› | exact chX_yes ‹ChestOK x› (by omega)
theorem z_c_impl_ChestText_94 (x : Chest) (nx_Stack : Nat) (hbdx_Stack : (nx_Stack : Int) ≤ 9223372036854775807) (hlex_Stack : nx_Stack = x.Stack.length) (h13 : ChestOK x) (hq16 : x.Stack.length ≤ 10) (hq17 : x.Stack.length ≤ 10 ∧ (0 ≤ x.State ∧ x.State ≤ 2) ∧ (0 ≤ x.Dust ∧ x.Dust ≤ 100) ∧ (0 ≤ x.Laid ∧ x.Laid ≤ 9999) ∧ (0 ≤ x.Given ∧ x.Given ≤ 9999) ∧ x.Laid - x.Given = (x.Stack.length : Int)) (hx31 : ([([115, 104, 117, 116] : List UInt8), ([111, 112, 101, 110] : List UInt8), ([108, 111, 99, 107, 101, 100] : List UInt8)] : List (List UInt8))[x.State.toNat]? = some (gt ([([115, 104, 117, 116] : List UInt8), ([111, 112, 101, 110] : List UInt8), ([108, 111, 99, 107, 101, 100] : List UInt8)] : List (List UInt8)) x.State.toNat)) (hq32 : (gt ([([115, 104, 117, 116] : List UInt8), ([111, 112, 101, 110] : List UInt8), ([108, 111, 99, 107, 101, 100] : List UInt8)] : List (List UInt8)) x.State.toNat).length ≤ 40) (hq38 : (Lib.itoa x.Dust).length ≤ 21) (k : Nat) (hi80 : k ≤ nx_Stack) (hq81 : (chT x k).length ≤ 40 + 22 * k) (h82 : ¬ ((k : Int) < (nx_Stack : Int))) : ChestOK x := by
  first | assumption | (simp_all; done)
theorem c_impl_ChestText (w : World) (x : Chest) {Ax_Stack : Option Addr} {nx_Stack cx_Stack Bx_Stack : Nat} (hx_Stack : SlR w Bx_Stack encI 1 Ax_Stack nx_Stack cx_Stack x.Stack) (hE : EnvW w) : Calls Tryd.prog 24 #[.agg (List.toArray [.int .i64 x.State, .int .i64 x.Key, .slice Ax_Stack nx_Stack cx_Stack, .int .i64 x.Dust, .int .i64 x.Laid, .int .i64 x.Given])] w fun e w' => e = .returned (.tuple (List.toArray [str (chX x), .bool (decide (ChestOK x))])) ∧ Lo w w' := by
  refine calls_W 34 Tryd.func24 rfl rfl rfl ?_
  have hbdx_Stack := hx_Stack.bound
  have hlex_Stack := hx_Stack.len
  have hBbx_Stack := hx_Stack.bd
  refine W.seq ?_
  refine W.regS (SR.box (v := .agg (List.toArray _)) (l := [.int .i64 x.State, .int .i64 x.Key, .slice Ax_Stack nx_Stack cx_Stack, .int .i64 x.Dust, .int .i64 x.Laid, .int .i64 x.Given]) rfl rfl ?_)
  intro g1 w2 hg3 hk4 hs5 hb6
  have hz7 := hk4.size
  have hB8 := (Lo.refl w).lo hk4
  refine SR.q' (r_as (v := str ([] : List UInt8)) rfl) <| SR.q' (r_as (v := .bool false) rfl) <| SR.nil ?_
  refine W.seq ?_
  refine W.seq ?_
  refine W.regS (SR.q' (r_lda (l := [.int .i64 x.State, .int .i64 x.Key, .slice Ax_Stack nx_Stack cx_Stack, .int .i64 x.Dust, .int .i64 x.Laid, .int .i64 x.Given]) agg40 rfl (fun _ _ hu => (hb6).cell hu) rfl) <| SR.call ent26 (c_impl_IsChest w2 x (((hx_Stack).lo hk4))) rfl ?_)
  rintro e w9 ⟨rfl, hk10⟩
  refine ⟨_, rfl, ?_⟩
  have hz11 := hk10.size
  have hB12 := hB8.lo hk10
  refine SR.q' (r_not rfl) <| SR.nil ?_
  refine W.cond_n rfl (fun h13 => ?_) (fun h13 => ?_)
  · refine W.seq ?_
    refine W.regS (SR.q' (r_as (v := str ([] : List UInt8)) rfl) <| SR.q' (r_as (v := .bool false) rfl) <| SR.nil ?_)
    refine W.ret ?_
    refine ret2 rfl (v := str _) (v' := .bool _) rfl rfl ?_
    exact ⟨eR (eT2 (eS (z_c_impl_ChestText_14 x nx_Stack hbdx_Stack hlex_Stack h13)) (eDF (z_c_impl_ChestText_15 x nx_Stack hbdx_Stack hlex_Stack h13))), hB12⟩
  · have hq16 := chest_len h13
    have hq17 := chest_rng h13
    refine W.skip ?_
    refine W.seq ?_
    refine W.regA (Lo w9) (fun f' w' => ∃ (g22 : Nat), At f' [(1, .pointer (some ((⟨g1, 0, none⟩ : Addr)))), (2, str ([] : List UInt8)), (3, .bool false), (4, str (((gt ([([115, 104, 117, 116] : List UInt8), ([111, 112, 101, 110] : List UInt8), ([108, 111, 99, 107, 101, 100] : List UInt8)] : List (List UInt8)) x.State.toNat) ++ ([32, 100, 117, 115, 116, 32] : List UInt8)) ++ (Lib.itoa x.Dust)))] ∧ (Lo w9 w') ∧ (([([115, 104, 117, 116] : List UInt8), ([111, 112, 101, 110] : List UInt8), ([108, 111, 99, 107, 101, 100] : List UInt8)] : List (List UInt8))[x.State.toNat]? = some (gt ([([115, 104, 117, 116] : List UInt8), ([111, 112, 101, 110] : List UInt8), ([108, 111, 99, 107, 101, 100] : List UInt8)] : List (List UInt8)) x.State.toNat)) ∧ ((gt ([([115, 104, 117, 116] : List UInt8), ([111, 112, 101, 110] : List UInt8), ([108, 111, 99, 107, 101, 100] : List UInt8)] : List (List UInt8)) x.State.toNat).length ≤ 40) ∧ ((Lib.itoa x.Dust).length ≤ 21)) mo ?_ ?_
    · intro w18 hk19
      have hz20 := hk19.size
      have hB21 := hB12.lo hk19
      refine AH.take 1 rfl (by kernel_rfl) trivial (hk19) (fun w' hw' => r_fa fa40_0 rfl) <| AH.take 2 rfl (by kernel_rfl) trivial (hk19) (fun w' hw' => r_ld (v := .int .i64 x.State) sca3 rfl ((((hb6).lo hk10).lo hw').cell rfl)) <| AH.take 6 rfl (by kernel_rfl) trivial (hk19) (fun w' hw' => r_fa fa40_3 rfl) <| AH.take 7 rfl (by kernel_rfl) trivial (hk19) (fun w' hw' => r_ld (v := .int .i64 x.Dust) sca3 rfl ((((hb6).lo hk10).lo hw').cell rfl)) <| AH.br [0, 8] (by kernel_rfl) rfl ⟨Br.mk' rfl trivial ?_, Br.mk' rfl trivial ?_, trivial⟩
      · refine SR.lit (vs := [str ([115, 104, 117, 116] : List UInt8), str ([111, 112, 101, 110] : List UInt8), str ([108, 111, 99, 107, 101, 100] : List UInt8)]) (L := ([([115, 104, 117, 116] : List UInt8), ([111, 112, 101, 110] : List UInt8), ([108, 111, 99, 107, 101, 100] : List UInt8)] : List (List UInt8))) (enc := encS) tel92 (fun _ => rfl) rfl rfl rfl (by decide) ?_
        intro g22 w23 hg24 hk25 hO26
        have hz27 := hk25.size
        have hB28 := hB21.lo hk25
        have hS29 := (hk19).lo hk25
        refine SR.nil ⟨hS29, _, rfl, ?_⟩
        have hx31 := ((hO26).rd).elem (i := x.State.toNat) (by omega)
        have hq32 := mem_le (n := 40) (by decide) (List.mem_of_getElem? hx31)
        refine AH.br [3, 8] (by kernel_rfl) rfl ⟨Br.mk' rfl trivial ?_, Br.mk' rfl trivial ?_, trivial⟩
        · refine SR.q' (r_ixR tsl92 ((hO26).rd) rfl rfl (by omega)) ?_
          refine SR.nil ⟨hS29, _, rfl, ?_⟩
          refine AH.br [4, 8] (by kernel_rfl) rfl ⟨Br.mk' rfl trivial ?_, Br.mk' rfl trivial ?_, trivial⟩
          · refine SR.q' (r_ld (v := str (gt ([([115, 104, 117, 116] : List UInt8), ([111, 112, 101, 110] : List UInt8), ([108, 111, 99, 107, 101, 100] : List UInt8)] : List (List UInt8)) x.State.toNat)) sca9 rfl (((hO26).rd).cell0 hx31 rfl)) ?_
            refine SR.nil ⟨hS29, _, rfl, ?_⟩
            refine AH.take 5 rfl (by kernel_rfl) trivial (hS29) (fun w' hw' => r_cat rfl rfl (by first | omega | (simp only [List.length_append, List.length_cons, List.length_nil, List.length_take, List.length_drop]; omega) | (simp only [List.length_append, List.length_cons, List.length_nil, List.length_take, List.length_drop] at *; omega))) <| AH.br [8] (by kernel_rfl) rfl ⟨Br.mk' rfl trivial ?_, trivial⟩
            refine SR.call ent49 (c_impl_text w23 x.Dust (by omega) (hE.lo (hB28))) rfl ?_
            rintro e w33 ⟨rfl, hk34⟩
            refine ⟨_, rfl, ?_⟩
            have hz35 := hk34.size
            have hB36 := hB28.lo hk34
            have hS37 := (hS29).lo hk34
            have hq38 : (Lib.itoa x.Dust).length ≤ 21 := itoa_len (n := x.Dust) (by omega) (by omega)
            refine SR.nil ⟨hS37, _, rfl, ?_⟩
            refine AH.take 9 rfl (by kernel_rfl) trivial (hS37) (fun w' hw' => r_cat rfl rfl (by first | omega | (simp only [List.length_append, List.length_cons, List.length_nil, List.length_take, List.length_drop]; omega) | (simp only [List.length_append, List.length_cons, List.length_nil, List.length_take, List.length_drop] at *; omega))) <| AH.take 10 rfl (by kernel_rfl) trivial (hS37) (fun w' hw' => r_as (v := str _) rfl) <| AH.done (by kernel_rfl) ?_
            exact ⟨g22, ⟨rfl, rfl, rfl, rfl, trivial⟩, hS37, hx31, hq32, hq38⟩
          · refine SR.call ent49 (c_impl_text w23 x.Dust (by omega) (hE.lo (hB28))) rfl ?_
            rintro e w39 ⟨rfl, hk40⟩
            refine ⟨_, rfl, ?_⟩
            have hz41 := hk40.size
            have hB42 := hB28.lo hk40
            have hS43 := (hS29).lo hk40
            have hq44 : (Lib.itoa x.Dust).length ≤ 21 := itoa_len (n := x.Dust) (by omega) (by omega)
            refine SR.nil ⟨hS43, _, rfl, ?_⟩
            refine AH.br [4] (by kernel_rfl) rfl ⟨Br.mk' rfl trivial ?_, trivial⟩
            refine SR.q' (r_ld (v := str (gt ([([115, 104, 117, 116] : List UInt8), ([111, 112, 101, 110] : List UInt8), ([108, 111, 99, 107, 101, 100] : List UInt8)] : List (List UInt8)) x.State.toNat)) sca9 rfl ((((hO26).lo hk40).rd).cell0 hx31 rfl)) ?_
            refine SR.nil ⟨hS43, _, rfl, ?_⟩
            refine AH.take 5 rfl (by kernel_rfl) trivial (hS43) (fun w' hw' => r_cat rfl rfl (by first | omega | (simp only [List.length_append, List.length_cons, List.length_nil, List.length_take, List.length_drop]; omega) | (simp only [List.length_append, List.length_cons, List.length_nil, List.length_take, List.length_drop] at *; omega))) <| AH.take 9 rfl (by kernel_rfl) trivial (hS43) (fun w' hw' => r_cat rfl rfl (by first | omega | (simp only [List.length_append, List.length_cons, List.length_nil, List.length_take, List.length_drop]; omega) | (simp only [List.length_append, List.length_cons, List.length_nil, List.length_take, List.length_drop] at *; omega))) <| AH.take 10 rfl (by kernel_rfl) trivial (hS43) (fun w' hw' => r_as (v := str _) rfl) <| AH.done (by kernel_rfl) ?_
            exact ⟨g22, ⟨rfl, rfl, rfl, rfl, trivial⟩, hS43, hx31, hq32, hq44⟩
        · refine SR.call ent49 (c_impl_text w23 x.Dust (by omega) (hE.lo (hB28))) rfl ?_
          rintro e w45 ⟨rfl, hk46⟩
          refine ⟨_, rfl, ?_⟩
          have hz47 := hk46.size
          have hB48 := hB28.lo hk46
          have hS49 := (hS29).lo hk46
          have hq50 : (Lib.itoa x.Dust).length ≤ 21 := itoa_len (n := x.Dust) (by omega) (by omega)
          refine SR.nil ⟨hS49, _, rfl, ?_⟩
          refine AH.br [3] (by kernel_rfl) rfl ⟨Br.mk' rfl trivial ?_, trivial⟩
          refine SR.q' (r_ixR tsl92 (((hO26).lo hk46).rd) rfl rfl (by omega)) ?_
          refine SR.nil ⟨hS49, _, rfl, ?_⟩
          refine AH.br [4] (by kernel_rfl) rfl ⟨Br.mk' rfl trivial ?_, trivial⟩
          refine SR.q' (r_ld (v := str (gt ([([115, 104, 117, 116] : List UInt8), ([111, 112, 101, 110] : List UInt8), ([108, 111, 99, 107, 101, 100] : List UInt8)] : List (List UInt8)) x.State.toNat)) sca9 rfl ((((hO26).lo hk46).rd).cell0 hx31 rfl)) ?_
          refine SR.nil ⟨hS49, _, rfl, ?_⟩
          refine AH.take 5 rfl (by kernel_rfl) trivial (hS49) (fun w' hw' => r_cat rfl rfl (by first | omega | (simp only [List.length_append, List.length_cons, List.length_nil, List.length_take, List.length_drop]; omega) | (simp only [List.length_append, List.length_cons, List.length_nil, List.length_take, List.length_drop] at *; omega))) <| AH.take 9 rfl (by kernel_rfl) trivial (hS49) (fun w' hw' => r_cat rfl rfl (by first | omega | (simp only [List.length_append, List.length_cons, List.length_nil, List.length_take, List.length_drop]; omega) | (simp only [List.length_append, List.length_cons, List.length_nil, List.length_take, List.length_drop] at *; omega))) <| AH.take 10 rfl (by kernel_rfl) trivial (hS49) (fun w' hw' => r_as (v := str _) rfl) <| AH.done (by kernel_rfl) ?_
          exact ⟨g22, ⟨rfl, rfl, rfl, rfl, trivial⟩, hS49, hx31, hq32, hq50⟩
      · refine SR.call ent49 (c_impl_text w18 x.Dust (by omega) (hE.lo (hB21))) rfl ?_
        rintro e w51 ⟨rfl, hk52⟩
        refine ⟨_, rfl, ?_⟩
        have hz53 := hk52.size
        have hB54 := hB21.lo hk52
        have hS55 := (hk19).lo hk52
        have hq56 : (Lib.itoa x.Dust).length ≤ 21 := itoa_len (n := x.Dust) (by omega) (by omega)
        refine SR.nil ⟨hS55, _, rfl, ?_⟩
        refine AH.br [0] (by kernel_rfl) rfl ⟨Br.mk' rfl trivial ?_, trivial⟩
        refine SR.lit (vs := [str ([115, 104, 117, 116] : List UInt8), str ([111, 112, 101, 110] : List UInt8), str ([108, 111, 99, 107, 101, 100] : List UInt8)]) (L := ([([115, 104, 117, 116] : List UInt8), ([111, 112, 101, 110] : List UInt8), ([108, 111, 99, 107, 101, 100] : List UInt8)] : List (List UInt8))) (enc := encS) tel92 (fun _ => rfl) rfl rfl rfl (by decide) ?_
        intro g57 w58 hg59 hk60 hO61
        have hz62 := hk60.size
        have hB63 := hB54.lo hk60
        have hS64 := (hS55).lo hk60
        refine SR.nil ⟨hS64, _, rfl, ?_⟩
        have hx66 := ((hO61).rd).elem (i := x.State.toNat) (by omega)
        have hq67 := mem_le (n := 40) (by decide) (List.mem_of_getElem? hx66)
        refine AH.br [3] (by kernel_rfl) rfl ⟨Br.mk' rfl trivial ?_, trivial⟩
        refine SR.q' (r_ixR tsl92 ((hO61).rd) rfl rfl (by omega)) ?_
        refine SR.nil ⟨hS64, _, rfl, ?_⟩
        refine AH.br [4] (by kernel_rfl) rfl ⟨Br.mk' rfl trivial ?_, trivial⟩
        refine SR.q' (r_ld (v := str (gt ([([115, 104, 117, 116] : List UInt8), ([111, 112, 101, 110] : List UInt8), ([108, 111, 99, 107, 101, 100] : List UInt8)] : List (List UInt8)) x.State.toNat)) sca9 rfl (((hO61).rd).cell0 hx66 rfl)) ?_
        refine SR.nil ⟨hS64, _, rfl, ?_⟩
        refine AH.take 5 rfl (by kernel_rfl) trivial (hS64) (fun w' hw' => r_cat rfl rfl (by first | omega | (simp only [List.length_append, List.length_cons, List.length_nil, List.length_take, List.length_drop]; omega) | (simp only [List.length_append, List.length_cons, List.length_nil, List.length_take, List.length_drop] at *; omega))) <| AH.take 9 rfl (by kernel_rfl) trivial (hS64) (fun w' hw' => r_cat rfl rfl (by first | omega | (simp only [List.length_append, List.length_cons, List.length_nil, List.length_take, List.length_drop]; omega) | (simp only [List.length_append, List.length_cons, List.length_nil, List.length_take, List.length_drop] at *; omega))) <| AH.take 10 rfl (by kernel_rfl) trivial (hS64) (fun w' hw' => r_as (v := str _) rfl) <| AH.done (by kernel_rfl) ?_
        exact ⟨g57, ⟨rfl, rfl, rfl, rfl, trivial⟩, hS64, hx66, hq67, hq56⟩
    rintro f68 w69 ⟨g22, hat71, hR70, hx31, hq32, hq38⟩
    rw [← sets_of_at hat71]
    have hz72 := hR70.size
    have hB73 := hB12.lo hR70
    refine W.seq ?_
    refine W.seq ?_
    refine W.regS (SR.q' (r_fa fa40_2 rfl) <| SR.q' (r_ld (v := .slice Ax_Stack nx_Stack cx_Stack) sca38 rfl ((((hb6).lo hk10).lo hR70).cell rfl)) <| SR.q' (r_len und38 rfl) <| SR.q' (r_mv (v := .int .i64 0) rfl) <| SR.nil ?_)
    refine W.block ?_
    refine W.loop (σ := Nat) (fun g => [(2, str ([] : List UInt8)), (3, .bool false), (4, str (chT x g)), (21, .slice Ax_Stack nx_Stack cx_Stack), (22, .int .i64 (nx_Stack : Int)), (23, .int .i64 (g : Int))]) (fun g w' => (Lo w w') ∧ (SlR w' Bx_Stack encI 1 Ax_Stack nx_Stack cx_Stack x.Stack) ∧ (g ≤ nx_Stack)) (fun g => nx_Stack - g) 0 ?_ ?_ ?_
    · exact ⟨rfl, rfl, (eS (by first | (first | omega | rfl | exact ch_zero ‹_[_]? = some _› | exact ch_next ‹_[_]? = some _›) | (dsimp only; (first | omega | rfl | exact ch_zero ‹_[_]? = some _› | exact ch_next ‹_[_]? = some _›)))), rfl, rfl, (eI (by first | (first | omega | rfl | exact ch_zero ‹_[_]? = some _› | exact ch_next ‹_[_]? = some _›) | (dsimp only; (first | omega | rfl | exact ch_zero ‹_[_]? = some _› | exact ch_next ‹_[_]? = some _›)))), trivial⟩
    · exact ⟨hB73, (((hx_Stack).lo hk4).lo hk10).lo hR70, (z_c_impl_ChestText_74 x nx_Stack hbdx_Stack hlex_Stack h13 hq16 hq17 hx31 hq32 hq38)⟩
    · rintro k f75 w76 hP78
      obtain ⟨hB77, hm79, hi80⟩ : (Lo w w76) ∧ (SlR w76 Bx_Stack encI 1 Ax_Stack nx_Stack cx_Stack x.Stack) ∧ (k ≤ nx_Stack) := hP78
      refine (?_ : W _ _ _ _ _ (act _ (sets f75 [(2, str ([] : List UInt8)), (3, .bool false), (4, str (chT x k)), (21, .slice Ax_Stack nx_Stack cx_Stack), (22, .int .i64 (nx_Stack : Int)), (23, .int .i64 (k : Int))])) _)
      have hzw76 := hB77.size
      have hq81 : (chT x k).length ≤ 40 + 22 * k := ch_len ‹ChestOK x› k (by omega)
      refine W.seq ?_
      refine W.regS (SR.q' (r_lt rfl rfl) <| SR.nil ?_)
      refine W.seq ?_
      refine W.cond_d rfl (fun h82 => ?_) (fun h82 => ?_)
      · refine W.skip ?_
        refine W.seq ?_
        refine W.block ?_
        refine W.seq ?_
        have hx84 := (hm79).elem (i := k) (by omega)
        have hq85 := (‹ChestOK x›.1 _ _ hx84).1
        refine W.regS (SR.q' (r_ixR tsl38 (hm79) rfl rfl (by omega)) <| SR.q' (r_ld (v := .int .i64 (gt x.Stack k)) sca3 rfl ((hm79).cell0 hx84 rfl)) <| SR.q' (r_as (v := .int .i64 _) rfl) <| SR.nil ?_)
        refine W.regS (SR.q' (r_mv (v := str _) rfl) <| SR.q' (r_mv (v := .int .i64 _) rfl) <| SR.call ent49 (c_impl_text w76 (gt x.Stack k) (by omega) (hE.lo (hB77))) rfl ?_)
        rintro e w86 ⟨rfl, hk87⟩
        refine ⟨_, rfl, ?_⟩
        have hz88 := hk87.size
        have hB89 := hB77.lo hk87
        have hq90 : (Lib.itoa (gt x.Stack k)).length ≤ 21 := itoa_len (n := (gt x.Stack k)) (by omega) (by omega)
        refine SR.q' (r_cat rfl rfl (by first | omega | (simp only [List.length_append, List.length_cons, List.length_nil, List.length_take, List.length_drop]; omega) | (simp only [List.length_append, List.length_cons, List.length_nil, List.length_take, List.length_drop] at *; omega))) <| SR.q' (r_cat rfl rfl (by first | omega | (simp only [List.length_append, List.length_cons, List.length_nil, List.length_take, List.length_drop]; omega) | (simp only [List.length_append, List.length_cons, List.length_nil, List.length_take, List.length_drop] at *; omega))) <| SR.q' (r_as (v := str _) rfl) <| SR.nil ?_
        refine W.regS (SR.q' (r_add rfl rfl (by omega)) <| SR.q' (r_mv (v := .int .i64 _) rfl) <| SR.nil ?_)
        refine ⟨k + 1, _, rfl, ⟨rfl, rfl, (eS (by first | (first | omega | rfl | exact ch_zero ‹_[_]? = some _› | exact ch_next ‹_[_]? = some _›) | (dsimp only; (first | omega | rfl | exact ch_zero ‹_[_]? = some _› | exact ch_next ‹_[_]? = some _›)))), rfl, rfl, (eI (by first | (first | omega | rfl | exact ch_zero ‹_[_]? = some _› | exact ch_next ‹_[_]? = some _›) | (dsimp only; (first | omega | rfl | exact ch_zero ‹_[_]? = some _› | exact ch_next ‹_[_]? = some _›)))), trivial⟩, ⟨hB89, (hm79).lo hk87, ?_⟩, ?_⟩
        · exact (z_c_impl_ChestText_91 x nx_Stack hbdx_Stack hlex_Stack h13 hq16 hq17 hx31 hq32 hq38 k hi80 hq81 h82 hx84 hq85 hq90)
        · exact (z_c_impl_ChestText_92 x nx_Stack hbdx_Stack hlex_Stack h13 hq16 hq17 hx31 hq32 hq38 k hi80 hq81 h82 hx84 hq85 hq90)
      · refine W.exit (xin_here ?_)
        refine W.seq ?_
        refine W.regS (SR.q' (r_mv (v := str _) rfl) <| SR.q' (r_as (v := str _) rfl) <| SR.q' (r_as (v := .bool true) rfl) <| SR.nil ?_)
        refine W.ret ?_
        refine ret2 rfl (v := str _) (v' := .bool _) rfl rfl ?_
        exact ⟨eR (eT2 (eS (z_c_impl_ChestText_93 x nx_Stack hbdx_Stack hlex_Stack h13 hq16 hq17 hx31 hq32 hq38 k hi80 hq81 h82)) (eDT (z_c_impl_ChestText_94 x nx_Stack hbdx_Stack hlex_Stack h13 hq16 hq17 hx31 hq32 hq38 k hi80 hq81 h82))), hB77⟩

theorem z_c_spec_ChestText_14 (x : Chest) (nx_Stack : Nat) (hbdx_Stack : (nx_Stack : Int) ≤ 9223372036854775807) (hlex_Stack : nx_Stack = x.Stack.length) (h13 : ¬ (ChestOK x)) : ([] : List UInt8) = chX x := by
  first | exact chX_no ‹_› | exact chX_yes ‹ChestOK x› (by omega)
theorem z_c_spec_ChestText_15 (x : Chest) (nx_Stack : Nat) (hbdx_Stack : (nx_Stack : Int) ≤ 9223372036854775807) (hlex_Stack : nx_Stack = x.Stack.length) (h13 : ¬ (ChestOK x)) : ¬ (ChestOK x) := by
  first | assumption | (simp_all; done)
theorem z_c_spec_ChestText_74 (x : Chest) (nx_Stack : Nat) (hbdx_Stack : (nx_Stack : Int) ≤ 9223372036854775807) (hlex_Stack : nx_Stack = x.Stack.length) (h13 : ChestOK x) (hq16 : x.Stack.length ≤ 10) (hq17 : x.Stack.length ≤ 10 ∧ (0 ≤ x.State ∧ x.State ≤ 2) ∧ (0 ≤ x.Dust ∧ x.Dust ≤ 100) ∧ (0 ≤ x.Laid ∧ x.Laid ≤ 9999) ∧ (0 ≤ x.Given ∧ x.Given ≤ 9999) ∧ x.Laid - x.Given = (x.Stack.length : Int)) (hx31 : ([([115, 104, 117, 116] : List UInt8), ([111, 112, 101, 110] : List UInt8), ([108, 111, 99, 107, 101, 100] : List UInt8)] : List (List UInt8))[x.State.toNat]? = some (gt ([([115, 104, 117, 116] : List UInt8), ([111, 112, 101, 110] : List UInt8), ([108, 111, 99, 107, 101, 100] : List UInt8)] : List (List UInt8)) x.State.toNat)) (hq32 : (gt ([([115, 104, 117, 116] : List UInt8), ([111, 112, 101, 110] : List UInt8), ([108, 111, 99, 107, 101, 100] : List UInt8)] : List (List UInt8)) x.State.toNat).length ≤ 40) (hq38 : (Lib.itoa x.Dust).length ≤ 21) : 0 ≤ nx_Stack := by
  omega
theorem z_c_spec_ChestText_93 (x : Chest) (nx_Stack : Nat) (hbdx_Stack : (nx_Stack : Int) ≤ 9223372036854775807) (hlex_Stack : nx_Stack = x.Stack.length) (h13 : ChestOK x) (hq16 : x.Stack.length ≤ 10) (hq17 : x.Stack.length ≤ 10 ∧ (0 ≤ x.State ∧ x.State ≤ 2) ∧ (0 ≤ x.Dust ∧ x.Dust ≤ 100) ∧ (0 ≤ x.Laid ∧ x.Laid ≤ 9999) ∧ (0 ≤ x.Given ∧ x.Given ≤ 9999) ∧ x.Laid - x.Given = (x.Stack.length : Int)) (hx31 : ([([115, 104, 117, 116] : List UInt8), ([111, 112, 101, 110] : List UInt8), ([108, 111, 99, 107, 101, 100] : List UInt8)] : List (List UInt8))[x.State.toNat]? = some (gt ([([115, 104, 117, 116] : List UInt8), ([111, 112, 101, 110] : List UInt8), ([108, 111, 99, 107, 101, 100] : List UInt8)] : List (List UInt8)) x.State.toNat)) (hq32 : (gt ([([115, 104, 117, 116] : List UInt8), ([111, 112, 101, 110] : List UInt8), ([108, 111, 99, 107, 101, 100] : List UInt8)] : List (List UInt8)) x.State.toNat).length ≤ 40) (hq38 : (Lib.itoa x.Dust).length ≤ 21) (k : Nat) (hi81 : k ≤ nx_Stack) (hq83 : (chT x k).length ≤ 40 + 22 * k) (h84 : (k : Int) < (nx_Stack : Int)) (hx86 : x.Stack[k]? = some (gt x.Stack k)) (hq87 : 1 ≤ (gt x.Stack k) ∧ (gt x.Stack k) ≤ 999) (hq92 : (Lib.itoa (gt x.Stack k)).length ≤ 21) : k + 1 ≤ nx_Stack := by
  omega
theorem z_c_spec_ChestText_94 (x : Chest) (nx_Stack : Nat) (hbdx_Stack : (nx_Stack : Int) ≤ 9223372036854775807) (hlex_Stack : nx_Stack = x.Stack.length) (h13 : ChestOK x) (hq16 : x.Stack.length ≤ 10) (hq17 : x.Stack.length ≤ 10 ∧ (0 ≤ x.State ∧ x.State ≤ 2) ∧ (0 ≤ x.Dust ∧ x.Dust ≤ 100) ∧ (0 ≤ x.Laid ∧ x.Laid ≤ 9999) ∧ (0 ≤ x.Given ∧ x.Given ≤ 9999) ∧ x.Laid - x.Given = (x.Stack.length : Int)) (hx31 : ([([115, 104, 117, 116] : List UInt8), ([111, 112, 101, 110] : List UInt8), ([108, 111, 99, 107, 101, 100] : List UInt8)] : List (List UInt8))[x.State.toNat]? = some (gt ([([115, 104, 117, 116] : List UInt8), ([111, 112, 101, 110] : List UInt8), ([108, 111, 99, 107, 101, 100] : List UInt8)] : List (List UInt8)) x.State.toNat)) (hq32 : (gt ([([115, 104, 117, 116] : List UInt8), ([111, 112, 101, 110] : List UInt8), ([108, 111, 99, 107, 101, 100] : List UInt8)] : List (List UInt8)) x.State.toNat).length ≤ 40) (hq38 : (Lib.itoa x.Dust).length ≤ 21) (k : Nat) (hi81 : k ≤ nx_Stack) (hq83 : (chT x k).length ≤ 40 + 22 * k) (h84 : (k : Int) < (nx_Stack : Int)) (hx86 : x.Stack[k]? = some (gt x.Stack k)) (hq87 : 1 ≤ (gt x.Stack k) ∧ (gt x.Stack k) ≤ 999) (hq92 : (Lib.itoa (gt x.Stack k)).length ≤ 21) : nx_Stack - (k + 1) < nx_Stack - k := by
  omega
theorem z_c_spec_ChestText_95 (x : Chest) (nx_Stack : Nat) (hbdx_Stack : (nx_Stack : Int) ≤ 9223372036854775807) (hlex_Stack : nx_Stack = x.Stack.length) (h13 : ChestOK x) (hq16 : x.Stack.length ≤ 10) (hq17 : x.Stack.length ≤ 10 ∧ (0 ≤ x.State ∧ x.State ≤ 2) ∧ (0 ≤ x.Dust ∧ x.Dust ≤ 100) ∧ (0 ≤ x.Laid ∧ x.Laid ≤ 9999) ∧ (0 ≤ x.Given ∧ x.Given ≤ 9999) ∧ x.Laid - x.Given = (x.Stack.length : Int)) (hx31 : ([([115, 104, 117, 116] : List UInt8), ([111, 112, 101, 110] : List UInt8), ([108, 111, 99, 107, 101, 100] : List UInt8)] : List (List UInt8))[x.State.toNat]? = some (gt ([([115, 104, 117, 116] : List UInt8), ([111, 112, 101, 110] : List UInt8), ([108, 111, 99, 107, 101, 100] : List UInt8)] : List (List UInt8)) x.State.toNat)) (hq32 : (gt ([([115, 104, 117, 116] : List UInt8), ([111, 112, 101, 110] : List UInt8), ([108, 111, 99, 107, 101, 100] : List UInt8)] : List (List UInt8)) x.State.toNat).length ≤ 40) (hq38 : (Lib.itoa x.Dust).length ≤ 21) (k : Nat) (hi81 : k ≤ nx_Stack) (hq83 : (chT x k).length ≤ 40 + 22 * k) (h84 : ¬ ((k : Int) < (nx_Stack : Int))) : chT x k = chX x := by
  first | exact chX_no ‹_› | exact chX_yes ‹ChestOK x› (by omega)
theorem z_c_spec_ChestText_96 (x : Chest) (nx_Stack : Nat) (hbdx_Stack : (nx_Stack : Int) ≤ 9223372036854775807) (hlex_Stack : nx_Stack = x.Stack.length) (h13 : ChestOK x) (hq16 : x.Stack.length ≤ 10) (hq17 : x.Stack.length ≤ 10 ∧ (0 ≤ x.State ∧ x.State ≤ 2) ∧ (0 ≤ x.Dust ∧ x.Dust ≤ 100) ∧ (0 ≤ x.Laid ∧ x.Laid ≤ 9999) ∧ (0 ≤ x.Given ∧ x.Given ≤ 9999) ∧ x.Laid - x.Given = (x.Stack.length : Int)) (hx31 : ([([115, 104, 117, 116] : List UInt8), ([111, 112, 101, 110] : List UInt8), ([108, 111, 99, 107, 101, 100] : List UInt8)] : List (List UInt8))[x.State.toNat]? = some (gt ([([115, 104, 117, 116] : List UInt8), ([111, 112, 101, 110] : List UInt8), ([108, 111, 99, 107, 101, 100] : List UInt8)] : List (List UInt8)) x.State.toNat)) (hq32 : (gt ([([115, 104, 117, 116] : List UInt8), ([111, 112, 101, 110] : List UInt8), ([108, 111, 99, 107, 101, 100] : List UInt8)] : List (List UInt8)) x.State.toNat).length ≤ 40) (hq38 : (Lib.itoa x.Dust).length ≤ 21) (k : Nat) (hi81 : k ≤ nx_Stack) (hq83 : (chT x k).length ≤ 40 + 22 * k) (h84 : ¬ ((k : Int) < (nx_Stack : Int))) : ChestOK x := by
  first | assumption | (simp_all; done)
theorem c_spec_ChestText (w : World) (x : Chest) {Ax_Stack : Option Addr} {nx_Stack cx_Stack Bx_Stack : Nat} (hx_Stack : SlR w Bx_Stack encI 1 Ax_Stack nx_Stack cx_Stack x.Stack) : Calls Tryd.prog 25 #[.agg (List.toArray [.int .i64 x.State, .int .i64 x.Key, .slice Ax_Stack nx_Stack cx_Stack, .int .i64 x.Dust, .int .i64 x.Laid, .int .i64 x.Given])] w fun e w' => e = .returned (.tuple (List.toArray [str (chX x), .bool (decide (ChestOK x))])) ∧ Lo w w' := by
  refine calls_W 36 Tryd.func25 rfl rfl rfl ?_
  have hbdx_Stack := hx_Stack.bound
  have hlex_Stack := hx_Stack.len
  have hBbx_Stack := hx_Stack.bd
  refine W.seq ?_
  refine W.regS (SR.box (v := .agg (List.toArray _)) (l := [.int .i64 x.State, .int .i64 x.Key, .slice Ax_Stack nx_Stack cx_Stack, .int .i64 x.Dust, .int .i64 x.Laid, .int .i64 x.Given]) rfl rfl ?_)
  intro g1 w2 hg3 hk4 hs5 hb6
  have hz7 := hk4.size
  have hB8 := (Lo.refl w).lo hk4
  refine SR.q' (r_as (v := str ([] : List UInt8)) rfl) <| SR.q' (r_as (v := .bool false) rfl) <| SR.nil ?_
  refine W.seq ?_
  refine W.seq ?_
  refine W.regS (SR.q' (r_lda (l := [.int .i64 x.State, .int .i64 x.Key, .slice Ax_Stack nx_Stack cx_Stack, .int .i64 x.Dust, .int .i64 x.Laid, .int .i64 x.Given]) agg40 rfl (fun _ _ hu => (hb6).cell hu) rfl) <| SR.call ent57 (c_spec_l21Good w2 x (((hx_Stack).lo hk4))) rfl ?_)
  rintro e w9 ⟨rfl, hk10⟩
  refine ⟨_, rfl, ?_⟩
  have hz11 := hk10.size
  have hB12 := hB8.lo hk10
  refine SR.q' (r_not rfl) <| SR.nil ?_
  refine W.cond_n rfl (fun h13 => ?_) (fun h13 => ?_)
  · refine W.seq ?_
    refine W.regS (SR.q' (r_as (v := str ([] : List UInt8)) rfl) <| SR.q' (r_as (v := .bool false) rfl) <| SR.nil ?_)
    refine W.ret ?_
    refine ret2 rfl (v := str _) (v' := .bool _) rfl rfl ?_
    exact ⟨eR (eT2 (eS (z_c_spec_ChestText_14 x nx_Stack hbdx_Stack hlex_Stack h13)) (eDF (z_c_spec_ChestText_15 x nx_Stack hbdx_Stack hlex_Stack h13))), hB12⟩
  · have hq16 := chest_len h13
    have hq17 := chest_rng h13
    refine W.skip ?_
    refine W.seq ?_
    refine W.regA (Lo w9) (fun f' w' => ∃ (g22 : Nat), At f' [(1, .pointer (some ((⟨g1, 0, none⟩ : Addr)))), (2, str ([] : List UInt8)), (3, .bool false), (4, str (((gt ([([115, 104, 117, 116] : List UInt8), ([111, 112, 101, 110] : List UInt8), ([108, 111, 99, 107, 101, 100] : List UInt8)] : List (List UInt8)) x.State.toNat) ++ ([32, 100, 117, 115, 116, 32] : List UInt8)) ++ (Lib.itoa x.Dust)))] ∧ (Lo w9 w') ∧ (([([115, 104, 117, 116] : List UInt8), ([111, 112, 101, 110] : List UInt8), ([108, 111, 99, 107, 101, 100] : List UInt8)] : List (List UInt8))[x.State.toNat]? = some (gt ([([115, 104, 117, 116] : List UInt8), ([111, 112, 101, 110] : List UInt8), ([108, 111, 99, 107, 101, 100] : List UInt8)] : List (List UInt8)) x.State.toNat)) ∧ ((gt ([([115, 104, 117, 116] : List UInt8), ([111, 112, 101, 110] : List UInt8), ([108, 111, 99, 107, 101, 100] : List UInt8)] : List (List UInt8)) x.State.toNat).length ≤ 40) ∧ ((Lib.itoa x.Dust).length ≤ 21)) mo ?_ ?_
    · intro w18 hk19
      have hz20 := hk19.size
      have hB21 := hB12.lo hk19
      refine AH.take 1 rfl (by kernel_rfl) trivial (hk19) (fun w' hw' => r_fa fa40_0 rfl) <| AH.take 2 rfl (by kernel_rfl) trivial (hk19) (fun w' hw' => r_ld (v := .int .i64 x.State) sca3 rfl ((((hb6).lo hk10).lo hw').cell rfl)) <| AH.take 6 rfl (by kernel_rfl) trivial (hk19) (fun w' hw' => r_fa fa40_3 rfl) <| AH.take 7 rfl (by kernel_rfl) trivial (hk19) (fun w' hw' => r_ld (v := .int .i64 x.Dust) sca3 rfl ((((hb6).lo hk10).lo hw').cell rfl)) <| AH.br [0, 8] (by kernel_rfl) rfl ⟨Br.mk' rfl trivial ?_, Br.mk' rfl trivial ?_, trivial⟩
      · refine SR.lit (vs := [str ([115, 104, 117, 116] : List UInt8), str ([111, 112, 101, 110] : List UInt8), str ([108, 111, 99, 107, 101, 100] : List UInt8)]) (L := ([([115, 104, 117, 116] : List UInt8), ([111, 112, 101, 110] : List UInt8), ([108, 111, 99, 107, 101, 100] : List UInt8)] : List (List UInt8))) (enc := encS) tel92 (fun _ => rfl) rfl rfl rfl (by decide) ?_
        intro g22 w23 hg24 hk25 hO26
        have hz27 := hk25.size
        have hB28 := hB21.lo hk25
        have hS29 := (hk19).lo hk25
        refine SR.nil ⟨hS29, _, rfl, ?_⟩
        have hx31 := ((hO26).rd).elem (i := x.State.toNat) (by omega)
        have hq32 := mem_le (n := 40) (by decide) (List.mem_of_getElem? hx31)
        refine AH.br [3, 8] (by kernel_rfl) rfl ⟨Br.mk' rfl trivial ?_, Br.mk' rfl trivial ?_, trivial⟩
        · refine SR.q' (r_ixR tsl92 ((hO26).rd) rfl rfl (by omega)) ?_
          refine SR.nil ⟨hS29, _, rfl, ?_⟩
          refine AH.br [4, 8] (by kernel_rfl) rfl ⟨Br.mk' rfl trivial ?_, Br.mk' rfl trivial ?_, trivial⟩
          · refine SR.q' (r_ld (v := str (gt ([([115, 104, 117, 116] : List UInt8), ([111, 112, 101, 110] : List UInt8), ([108, 111, 99, 107, 101, 100] : List UInt8)] : List (List UInt8)) x.State.toNat)) sca9 rfl (((hO26).rd).cell0 hx31 rfl)) ?_
            refine SR.nil ⟨hS29, _, rfl, ?_⟩
            refine AH.take 5 rfl (by kernel_rfl) trivial (hS29) (fun w' hw' => r_cat rfl rfl (by first | omega | (simp only [List.length_append, List.length_cons, List.length_nil, List.length_take, List.length_drop]; omega) | (simp only [List.length_append, List.length_cons, List.length_nil, List.length_take, List.length_drop] at *; omega))) <| AH.br [8] (by kernel_rfl) rfl ⟨Br.mk' rfl trivial ?_, trivial⟩
            refine SR.call ent63 (c_spec_l1Num w23 x.Dust (by omega)) rfl ?_
            rintro e w33 ⟨rfl, hk34⟩
            refine ⟨_, rfl, ?_⟩
            have hz35 := hk34.size
            have hB36 := hB28.lo hk34
            have hS37 := (hS29).lo hk34
            have hq38 : (Lib.itoa x.Dust).length ≤ 21 := itoa_len (n := x.Dust) (by omega) (by omega)
            refine SR.nil ⟨hS37, _, rfl, ?_⟩
            refine AH.take 9 rfl (by kernel_rfl) trivial (hS37) (fun w' hw' => r_cat rfl rfl (by first | omega | (simp only [List.length_append, List.length_cons, List.length_nil, List.length_take, List.length_drop]; omega) | (simp only [List.length_append, List.length_cons, List.length_nil, List.length_take, List.length_drop] at *; omega))) <| AH.take 10 rfl (by kernel_rfl) trivial (hS37) (fun w' hw' => r_as (v := str _) rfl) <| AH.done (by kernel_rfl) ?_
            exact ⟨g22, ⟨rfl, rfl, rfl, rfl, trivial⟩, hS37, hx31, hq32, hq38⟩
          · refine SR.call ent63 (c_spec_l1Num w23 x.Dust (by omega)) rfl ?_
            rintro e w39 ⟨rfl, hk40⟩
            refine ⟨_, rfl, ?_⟩
            have hz41 := hk40.size
            have hB42 := hB28.lo hk40
            have hS43 := (hS29).lo hk40
            have hq44 : (Lib.itoa x.Dust).length ≤ 21 := itoa_len (n := x.Dust) (by omega) (by omega)
            refine SR.nil ⟨hS43, _, rfl, ?_⟩
            refine AH.br [4] (by kernel_rfl) rfl ⟨Br.mk' rfl trivial ?_, trivial⟩
            refine SR.q' (r_ld (v := str (gt ([([115, 104, 117, 116] : List UInt8), ([111, 112, 101, 110] : List UInt8), ([108, 111, 99, 107, 101, 100] : List UInt8)] : List (List UInt8)) x.State.toNat)) sca9 rfl ((((hO26).lo hk40).rd).cell0 hx31 rfl)) ?_
            refine SR.nil ⟨hS43, _, rfl, ?_⟩
            refine AH.take 5 rfl (by kernel_rfl) trivial (hS43) (fun w' hw' => r_cat rfl rfl (by first | omega | (simp only [List.length_append, List.length_cons, List.length_nil, List.length_take, List.length_drop]; omega) | (simp only [List.length_append, List.length_cons, List.length_nil, List.length_take, List.length_drop] at *; omega))) <| AH.take 9 rfl (by kernel_rfl) trivial (hS43) (fun w' hw' => r_cat rfl rfl (by first | omega | (simp only [List.length_append, List.length_cons, List.length_nil, List.length_take, List.length_drop]; omega) | (simp only [List.length_append, List.length_cons, List.length_nil, List.length_take, List.length_drop] at *; omega))) <| AH.take 10 rfl (by kernel_rfl) trivial (hS43) (fun w' hw' => r_as (v := str _) rfl) <| AH.done (by kernel_rfl) ?_
            exact ⟨g22, ⟨rfl, rfl, rfl, rfl, trivial⟩, hS43, hx31, hq32, hq44⟩
        · refine SR.call ent63 (c_spec_l1Num w23 x.Dust (by omega)) rfl ?_
          rintro e w45 ⟨rfl, hk46⟩
          refine ⟨_, rfl, ?_⟩
          have hz47 := hk46.size
          have hB48 := hB28.lo hk46
          have hS49 := (hS29).lo hk46
          have hq50 : (Lib.itoa x.Dust).length ≤ 21 := itoa_len (n := x.Dust) (by omega) (by omega)
          refine SR.nil ⟨hS49, _, rfl, ?_⟩
          refine AH.br [3] (by kernel_rfl) rfl ⟨Br.mk' rfl trivial ?_, trivial⟩
          refine SR.q' (r_ixR tsl92 (((hO26).lo hk46).rd) rfl rfl (by omega)) ?_
          refine SR.nil ⟨hS49, _, rfl, ?_⟩
          refine AH.br [4] (by kernel_rfl) rfl ⟨Br.mk' rfl trivial ?_, trivial⟩
          refine SR.q' (r_ld (v := str (gt ([([115, 104, 117, 116] : List UInt8), ([111, 112, 101, 110] : List UInt8), ([108, 111, 99, 107, 101, 100] : List UInt8)] : List (List UInt8)) x.State.toNat)) sca9 rfl ((((hO26).lo hk46).rd).cell0 hx31 rfl)) ?_
          refine SR.nil ⟨hS49, _, rfl, ?_⟩
          refine AH.take 5 rfl (by kernel_rfl) trivial (hS49) (fun w' hw' => r_cat rfl rfl (by first | omega | (simp only [List.length_append, List.length_cons, List.length_nil, List.length_take, List.length_drop]; omega) | (simp only [List.length_append, List.length_cons, List.length_nil, List.length_take, List.length_drop] at *; omega))) <| AH.take 9 rfl (by kernel_rfl) trivial (hS49) (fun w' hw' => r_cat rfl rfl (by first | omega | (simp only [List.length_append, List.length_cons, List.length_nil, List.length_take, List.length_drop]; omega) | (simp only [List.length_append, List.length_cons, List.length_nil, List.length_take, List.length_drop] at *; omega))) <| AH.take 10 rfl (by kernel_rfl) trivial (hS49) (fun w' hw' => r_as (v := str _) rfl) <| AH.done (by kernel_rfl) ?_
          exact ⟨g22, ⟨rfl, rfl, rfl, rfl, trivial⟩, hS49, hx31, hq32, hq50⟩
      · refine SR.call ent63 (c_spec_l1Num w18 x.Dust (by omega)) rfl ?_
        rintro e w51 ⟨rfl, hk52⟩
        refine ⟨_, rfl, ?_⟩
        have hz53 := hk52.size
        have hB54 := hB21.lo hk52
        have hS55 := (hk19).lo hk52
        have hq56 : (Lib.itoa x.Dust).length ≤ 21 := itoa_len (n := x.Dust) (by omega) (by omega)
        refine SR.nil ⟨hS55, _, rfl, ?_⟩
        refine AH.br [0] (by kernel_rfl) rfl ⟨Br.mk' rfl trivial ?_, trivial⟩
        refine SR.lit (vs := [str ([115, 104, 117, 116] : List UInt8), str ([111, 112, 101, 110] : List UInt8), str ([108, 111, 99, 107, 101, 100] : List UInt8)]) (L := ([([115, 104, 117, 116] : List UInt8), ([111, 112, 101, 110] : List UInt8), ([108, 111, 99, 107, 101, 100] : List UInt8)] : List (List UInt8))) (enc := encS) tel92 (fun _ => rfl) rfl rfl rfl (by decide) ?_
        intro g57 w58 hg59 hk60 hO61
        have hz62 := hk60.size
        have hB63 := hB54.lo hk60
        have hS64 := (hS55).lo hk60
        refine SR.nil ⟨hS64, _, rfl, ?_⟩
        have hx66 := ((hO61).rd).elem (i := x.State.toNat) (by omega)
        have hq67 := mem_le (n := 40) (by decide) (List.mem_of_getElem? hx66)
        refine AH.br [3] (by kernel_rfl) rfl ⟨Br.mk' rfl trivial ?_, trivial⟩
        refine SR.q' (r_ixR tsl92 ((hO61).rd) rfl rfl (by omega)) ?_
        refine SR.nil ⟨hS64, _, rfl, ?_⟩
        refine AH.br [4] (by kernel_rfl) rfl ⟨Br.mk' rfl trivial ?_, trivial⟩
        refine SR.q' (r_ld (v := str (gt ([([115, 104, 117, 116] : List UInt8), ([111, 112, 101, 110] : List UInt8), ([108, 111, 99, 107, 101, 100] : List UInt8)] : List (List UInt8)) x.State.toNat)) sca9 rfl (((hO61).rd).cell0 hx66 rfl)) ?_
        refine SR.nil ⟨hS64, _, rfl, ?_⟩
        refine AH.take 5 rfl (by kernel_rfl) trivial (hS64) (fun w' hw' => r_cat rfl rfl (by first | omega | (simp only [List.length_append, List.length_cons, List.length_nil, List.length_take, List.length_drop]; omega) | (simp only [List.length_append, List.length_cons, List.length_nil, List.length_take, List.length_drop] at *; omega))) <| AH.take 9 rfl (by kernel_rfl) trivial (hS64) (fun w' hw' => r_cat rfl rfl (by first | omega | (simp only [List.length_append, List.length_cons, List.length_nil, List.length_take, List.length_drop]; omega) | (simp only [List.length_append, List.length_cons, List.length_nil, List.length_take, List.length_drop] at *; omega))) <| AH.take 10 rfl (by kernel_rfl) trivial (hS64) (fun w' hw' => r_as (v := str _) rfl) <| AH.done (by kernel_rfl) ?_
        exact ⟨g57, ⟨rfl, rfl, rfl, rfl, trivial⟩, hS64, hx66, hq67, hq56⟩
    rintro f68 w69 ⟨g22, hat71, hR70, hx31, hq32, hq38⟩
    rw [← sets_of_at hat71]
    have hz72 := hR70.size
    have hB73 := hB12.lo hR70
    refine W.seq ?_
    refine W.seq ?_
    refine W.regS (SR.q' (r_as (v := .int .i64 0) rfl) <| SR.nil ?_)
    refine W.block ?_
    refine W.loop (σ := Nat) (fun g => [(1, .pointer (some ((⟨g1, 0, none⟩ : Addr)))), (2, str ([] : List UInt8)), (3, .bool false), (4, str (chT x g)), (5, .int .i64 (g : Int))]) (fun g w' => (Lo w w') ∧ (Blk w' g1 40 [.int .i64 x.State, .int .i64 x.Key, .slice Ax_Stack nx_Stack cx_Stack, .int .i64 x.Dust, .int .i64 x.Laid, .int .i64 x.Given]) ∧ (SlR w' Bx_Stack encI 1 Ax_Stack nx_Stack cx_Stack x.Stack) ∧ (g ≤ nx_Stack)) (fun g => nx_Stack - g) 0 ?_ ?_ ?_
    · exact ⟨rfl, rfl, rfl, (eS (by first | (first | omega | rfl | exact ch_zero ‹_[_]? = some _› | exact ch_nextS ‹_[_]? = some _›) | (dsimp only; (first | omega | rfl | exact ch_zero ‹_[_]? = some _› | exact ch_nextS ‹_[_]? = some _›)))), (eI (by first | (first | omega | rfl | exact ch_zero ‹_[_]? = some _› | exact ch_nextS ‹_[_]? = some _›) | (dsimp only; (first | omega | rfl | exact ch_zero ‹_[_]? = some _› | exact ch_nextS ‹_[_]? = some _›)))), trivial⟩
    · exact ⟨hB73, ((hb6).lo hk10).lo hR70, (((hx_Stack).lo hk4).lo hk10).lo hR70, (z_c_spec_ChestText_74 x nx_Stack hbdx_Stack hlex_Stack h13 hq16 hq17 hx31 hq32 hq38)⟩
    · rintro k f75 w76 hP78
      obtain ⟨hB77, hm79, hm80, hi81⟩ : (Lo w w76) ∧ (Blk w76 g1 40 [.int .i64 x.State, .int .i64 x.Key, .slice Ax_Stack nx_Stack cx_Stack, .int .i64 x.Dust, .int .i64 x.Laid, .int .i64 x.Given]) ∧ (SlR w76 Bx_Stack encI 1 Ax_Stack nx_Stack cx_Stack x.Stack) ∧ (k ≤ nx_Stack) := hP78
      refine (?_ : W _ _ _ _ _ (act _ (sets f75 [(1, .pointer (some ((⟨g1, 0, none⟩ : Addr)))), (2, str ([] : List UInt8)), (3, .bool false), (4, str (chT x k)), (5, .int .i64 (k : Int))])) _)
      have hzw76 := hB77.size
      have hl82 := hm79.lt
      have hq83 : (chT x k).length ≤ 40 + 22 * k := ch_len ‹ChestOK x› k (by omega)
      refine W.seq ?_
      refine W.seq ?_
      refine W.regS (SR.q' (r_mv (v := .int .i64 _) rfl) <| SR.q' (r_fa fa40_2 rfl) <| SR.q' (r_ld (v := .slice Ax_Stack nx_Stack cx_Stack) sca38 rfl ((hm79).cell rfl)) <| SR.q' (r_len und38 rfl) <| SR.q' (r_lt rfl rfl) <| SR.nil ?_)
      refine W.cond_d rfl (fun h84 => ?_) (fun h84 => ?_)
      · refine W.skip ?_
        refine W.seq ?_
        refine W.block ?_
        refine W.regS (SR.q' (r_mv (v := str _) rfl) <| SR.q' (r_cat rfl rfl (by first | omega | (simp only [List.length_append, List.length_cons, List.length_nil, List.length_take, List.length_drop]; omega) | (simp only [List.length_append, List.length_cons, List.length_nil, List.length_take, List.length_drop] at *; omega))) <| SR.q' (r_fa fa40_2 rfl) <| SR.q' (r_ld (v := .slice Ax_Stack nx_Stack cx_Stack) sca38 rfl ((hm79).cell rfl)) <| SR.q' (r_mv (v := .int .i64 _) rfl) <| ?_)
        have hx86 := (hm80).elem (i := k) (by omega)
        have hq87 := (‹ChestOK x›.1 _ _ hx86).1
        refine SR.q' (r_ixR tsl38 (hm80) rfl rfl (by omega)) <| SR.q' (r_ld (v := .int .i64 (gt x.Stack k)) sca3 rfl ((hm80).cell0 hx86 rfl)) <| SR.call ent63 (c_spec_l1Num w76 (gt x.Stack k) (by omega)) rfl ?_
        rintro e w88 ⟨rfl, hk89⟩
        refine ⟨_, rfl, ?_⟩
        have hz90 := hk89.size
        have hB91 := hB77.lo hk89
        have hq92 : (Lib.itoa (gt x.Stack k)).length ≤ 21 := itoa_len (n := (gt x.Stack k)) (by omega) (by omega)
        refine SR.q' (r_cat rfl rfl (by first | omega | (simp only [List.length_append, List.length_cons, List.length_nil, List.length_take, List.length_drop]; omega) | (simp only [List.length_append, List.length_cons, List.length_nil, List.length_take, List.length_drop] at *; omega))) <| SR.q' (r_as (v := str _) rfl) <| SR.nil ?_
        refine W.regS (SR.q' (r_mv (v := .int .i64 _) rfl) <| SR.q' (r_add rfl rfl (by omega)) <| SR.q' (r_as (v := .int .i64 _) rfl) <| SR.nil ?_)
        refine ⟨k + 1, _, rfl, ⟨rfl, rfl, rfl, (eS (by first | (first | omega | rfl | exact ch_zero ‹_[_]? = some _› | exact ch_nextS ‹_[_]? = some _›) | (dsimp only; (first | omega | rfl | exact ch_zero ‹_[_]? = some _› | exact ch_nextS ‹_[_]? = some _›)))), (eI (by first | (first | omega | rfl | exact ch_zero ‹_[_]? = some _› | exact ch_nextS ‹_[_]? = some _›) | (dsimp only; (first | omega | rfl | exact ch_zero ‹_[_]? = some _› | exact ch_nextS ‹_[_]? = some _›)))), trivial⟩, ⟨hB91, (hm79).lo hk89, (hm80).lo hk89, ?_⟩, ?_⟩
        · exact (z_c_spec_ChestText_93 x nx_Stack hbdx_Stack hlex_Stack h13 hq16 hq17 hx31 hq32 hq38 k hi81 hq83 h84 hx86 hq87 hq92)
        · exact (z_c_spec_ChestText_94 x nx_Stack hbdx_Stack hlex_Stack h13 hq16 hq17 hx31 hq32 hq38 k hi81 hq83 h84 hx86 hq87 hq92)
      · refine W.exit (xin_here ?_)
        refine W.seq ?_
        refine W.regS (SR.q' (r_mv (v := str _) rfl) <| SR.q' (r_as (v := str _) rfl) <| SR.q' (r_as (v := .bool true) rfl) <| SR.nil ?_)
        refine W.ret ?_
        refine ret2 rfl (v := str _) (v' := .bool _) rfl rfl ?_
        exact ⟨eR (eT2 (eS (z_c_spec_ChestText_95 x nx_Stack hbdx_Stack hlex_Stack h13 hq16 hq17 hx31 hq32 hq38 k hi81 hq83 h84)) (eDT (z_c_spec_ChestText_96 x nx_Stack hbdx_Stack hlex_Stack h13 hq16 hq17 hx31 hq32 hq38 k hi81 hq83 h84))), hB77⟩

theorem z_c_spec_DrawDustIn_58 (L : List UInt8) (nL : Nat) (hbdL : (nL : Int) ≤ 9223372036854775807) (hleL : nL = L.length) (hp0 : (nL : Int) ≤ 65536) (v23 : Chest) (t24 : Int) (s25 : Int) (ht27 : 0 ≤ t24 ∧ t24 ≤ 0 + 310) (hq28 : (v23.Stack.length ≤ 11) ∧ 0 ≤ v23.Key ∧ v23.Key ≤ 9999) (n20 : Nat) (hl31 : n20 = (v23.Stack).length) (hl32 : (n20 : Int) ≤ 9223372036854775807) (v43 : Int) (t44 : Int) (s45 : Int) (ht47 : t24 ≤ t44 ∧ t44 ≤ t24 + 2) (hq48 : v43 ∈ ([1, 9, 10, 55, 100, 0, 101] : List Int)) (hq51 : (0 : Int) ≤ v43 ∧ v43 ≤ 101) : (v23.Stack.length ≤ 11) ∧ 0 ≤ v23.Key ∧ v23.Key ≤ 9999 := by
  first | omega | (simp only [List.length_append, List.length_cons, List.length_nil]; omega)
theorem c_spec_DrawDustIn (w : World) {AL : Option Addr} {nL cL BL : Nat}  (L : List UInt8) (hL : SlR w BL encB 1 AL nL cL L) (hp0 : (nL : Int) ≤ 65536) : Calls Tryd.prog 12 #[.slice AL nL cL] w fun e w' => ∃ (A1' : Option Addr) (n1' c1' : Nat) (x : Chest) (v : Int), e = .returned (.tuple (List.toArray [.agg (List.toArray [.int .i64 x.State, .int .i64 x.Key, .slice A1' n1' c1', .int .i64 x.Dust, .int .i64 x.Laid, .int .i64 x.Given]), .int .i64 v])) ∧ SlO w' w.heap.size encI 1 3 A1' n1' c1' x.Stack ∧ ((x.Stack.length ≤ 11) ∧ 0 ≤ x.Key ∧ x.Key ≤ 9999) ∧ Lo w w' := by
  refine calls_W 13 Tryd.func12 rfl rfl rfl ?_
  have hbdL := hL.bound
  have hleL := hL.len
  have hBbL := hL.bd
  refine W.seq ?_
  refine W.regS (SR.alloc (l := [.int .i64 0, .int .i64 0, .slice none 0 0, .int .i64 0, .int .i64 0, .int .i64 0]) tz40 rfl ?_)
  intro g1 w2 hg3 hk4 hs5 hb6
  have hz7 := hk4.size
  have hB8 := (Lo.refl w).lo hk4
  refine SR.q' (r_as (v := .int .i64 0) rfl) <| SR.nil ?_
  refine W.seq ?_
  refine W.regS (SR.q' (r_mv (v := .slice _ _ _) rfl) <| SR.q' (r_build (vs := [(0, .slice AL nL cL)]) rfl (bld85_0 _ _ _)) <| SR.box (v := .agg (List.toArray _)) (l := [.slice AL nL cL, .int .i64 0, .int .u64 0]) rfl rfl ?_)
  intro g9 w10 hg11 hk12 hs13 hb14
  have hz15 := hk12.size
  have hB16 := hB8.lo hk12
  refine SR.q' (r_as (v := .pointer (some _)) rfl) <| SR.nil ?_
  refine W.seq ?_
  refine W.regS (SR.q' (r_mv (v := .pointer (some _)) rfl) <| SR.call ent53 (c___spec_l1Cur__chest w10 L 0 0 (hb14) ((((hL).lo hk4).lo hk12)) (by omega) (by omega)) rfl ?_)
  rintro e w17 ⟨A19, n20, c21, v23, t24, s25, rfl, hO22, hb26, ht27, hq28, hk18⟩
  refine ⟨_, rfl, ?_⟩
  have hz29 := hk18.size
  have hB30 := hB16.new hk18 (by omega)
  have hl31 := hO22.len
  have hl32 := hO22.rd.bound
  refine SR.q' (r_mv (v := .pointer (some _)) rfl) <| SR.lit (vs := [.int .i64 1, .int .i64 9, .int .i64 10, .int .i64 55, .int .i64 100, .int .i64 0, .int .i64 101]) (L := ([1, 9, 10, 55, 100, 0, 101] : List Int)) (enc := encI) tel38 (fun _ => rfl) rfl rfl rfl (by decide) ?_
  intro g33 w34 hg35 hk36 hO37
  have hz38 := hk36.size
  have hB39 := hB30.lo hk36
  have hd40 : ¬ A19 = some ⟨g33, 0, none⟩ := fun e' => by have := (hO22).base_le e'; omega
  refine SR.call ent54 (c___spec_l1Cur__among w34 L t24 s25 ((hb26).lo hk36) ((((((hL).lo hk4).lo hk12).kp hk18 (fun b_ hb e' => by have e'' : b_ = g9 := e'; omega)).lo hk36)) (by omega) (by omega) ([1, 9, 10, 55, 100, 0, 101] : List Int) (((hO37).rd)) (by omega) (by omega) (show ¬ g33 = g9 from by omega)) rfl ?_
  rintro e w41 ⟨v43, t44, s45, rfl, hb46, ht47, hq48, hk42⟩
  refine ⟨_, rfl, ?_⟩
  have hz49 := hk42.size
  have hB50 := hB39.new hk42 (by omega)
  have hq51 : (0 : Int) ≤ v43 ∧ v43 ≤ 101 := mem_rngB (lo := 0) (hi := 101) (by decide) hq48
  refine SR.store (o := 0) (vs := [.int .i64 v23.State, .int .i64 v23.Key, .slice A19 n20 c21, .int .i64 v23.Dust, .int .i64 v23.Laid, .int .i64 v23.Given]) agg40.2 rfl rfl rfl rfl (((((hb6).lo hk12).kp hk18 (fun e' => by have e'' : g1 = g9 := e'; omega)).lo hk36).kp hk42 (fun e' => by have e'' : g1 = g9 := e'; omega)) (Nat.le_of_ble_eq_true rfl) rfl ?_
  intro w52 hk53 hs54 hb55
  have hz56 := hk53.size
  have hB57 := hB50.new hk53 (by omega)
  refine SR.q' (r_as (v := .int .i64 _) rfl) <| SR.nil ?_
  refine W.ret ?_
  refine retCT rfl rfl agg40 (hb55) rfl (v := .int .i64 _) rfl ?_
  exact ⟨A19, n20, c21, v23, v43, eR (eT2 rfl rfl), (((((hO22).lo hk36).kp hk42 (fun b_ hb e' => by have e'' : b_ = g9 := e'; have := ((hO22).lo hk36).base_le hb; omega)).kp hk53 (fun b_ hb e' => by have e'' : b_ = g1 := e'; have := (((hO22).lo hk36).kp hk42 (fun b_ hb e' => by have e'' : b_ = g9 := e'; have := ((hO22).lo hk36).base_le hb; omega)).base_le hb; omega)).down (by omega)), (z_c_spec_DrawDustIn_58 L nL hbdL hleL hp0 v23 t24 s25 ht27 hq28 n20 hl31 hl32 v43 t44 s45 ht47 hq48 hq51), hB57⟩

theorem z_c_spec_DrawIsChest_39 (L : List UInt8) (nL : Nat) (hbdL : (nL : Int) ≤ 9223372036854775807) (hleL : nL = L.length) (hp0 : (nL : Int) ≤ 65536) (v23 : Chest) (t24 : Int) (s25 : Int) (ht27 : 0 ≤ t24 ∧ t24 ≤ 0 + 310) (hq28 : (v23.Stack.length ≤ 11) ∧ 0 ≤ v23.Key ∧ v23.Key ≤ 9999) (n20 : Nat) (hl31 : n20 = (v23.Stack).length) (hl32 : (n20 : Int) ≤ 9223372036854775807) : (v23.Stack.length ≤ 11) ∧ 0 ≤ v23.Key ∧ v23.Key ≤ 9999 := by
  first | omega | (simp only [List.length_append, List.length_cons, List.length_nil]; omega)
theorem c_spec_DrawIsChest (w : World) {AL : Option Addr} {nL cL BL : Nat}  (L : List UInt8) (hL : SlR w BL encB 1 AL nL cL L) (hp0 : (nL : Int) ≤ 65536) : Calls Tryd.prog 61 #[.slice AL nL cL] w fun e w' => ∃ (A1' : Option Addr) (n1' c1' : Nat) (x : Chest), e = .returned (.agg (List.toArray [.int .i64 x.State, .int .i64 x.Key, .slice A1' n1' c1', .int .i64 x.Dust, .int .i64 x.Laid, .int .i64 x.Given])) ∧ SlO w' w.heap.size encI 1 3 A1' n1' c1' x.Stack ∧ ((x.Stack.length ≤ 11) ∧ 0 ≤ x.Key ∧ x.Key ≤ 9999) ∧ Lo w w' := by
  refine calls_W 9 Tryd.func61 rfl rfl rfl ?_
  have hbdL := hL.bound
  have hleL := hL.len
  have hBbL := hL.bd
  refine W.seq ?_
  refine W.regS (SR.alloc (l := [.int .i64 0, .int .i64 0, .slice none 0 0, .int .i64 0, .int .i64 0, .int .i64 0]) tz40 rfl ?_)
  intro g1 w2 hg3 hk4 hs5 hb6
  have hz7 := hk4.size
  have hB8 := (Lo.refl w).lo hk4
  refine SR.nil ?_
  refine W.seq ?_
  refine W.regS (SR.q' (r_mv (v := .slice _ _ _) rfl) <| SR.q' (r_build (vs := [(0, .slice AL nL cL)]) rfl (bld85_0 _ _ _)) <| SR.box (v := .agg (List.toArray _)) (l := [.slice AL nL cL, .int .i64 0, .int .u64 0]) rfl rfl ?_)
  intro g9 w10 hg11 hk12 hs13 hb14
  have hz15 := hk12.size
  have hB16 := hB8.lo hk12
  refine SR.q' (r_as (v := .pointer (some _)) rfl) <| SR.nil ?_
  refine W.seq ?_
  refine W.regS (SR.q' (r_mv (v := .pointer (some _)) rfl) <| SR.call ent53 (c___spec_l1Cur__chest w10 L 0 0 (hb14) ((((hL).lo hk4).lo hk12)) (by omega) (by omega)) rfl ?_)
  rintro e w17 ⟨A19, n20, c21, v23, t24, s25, rfl, hO22, hb26, ht27, hq28, hk18⟩
  refine ⟨_, rfl, ?_⟩
  have hz29 := hk18.size
  have hB30 := hB16.new hk18 (by omega)
  have hl31 := hO22.len
  have hl32 := hO22.rd.bound
  refine SR.store (o := 0) (vs := [.int .i64 v23.State, .int .i64 v23.Key, .slice A19 n20 c21, .int .i64 v23.Dust, .int .i64 v23.Laid, .int .i64 v23.Given]) agg40.2 rfl rfl rfl rfl (((hb6).lo hk12).kp hk18 (fun e' => by have e'' : g1 = g9 := e'; omega)) (Nat.le_of_ble_eq_true rfl) rfl ?_
  intro w33 hk34 hs35 hb36
  have hz37 := hk34.size
  have hB38 := hB30.new hk34 (by omega)
  refine SR.nil ?_
  refine W.ret ?_
  refine retC rfl rfl agg40 (hb36) rfl ?_
  exact ⟨A19, n20, c21, v23, eR rfl, (((hO22).kp hk34 (fun b_ hb e' => by have e'' : b_ = g1 := e'; have := (hO22).base_le hb; omega)).down (by omega)), (z_c_spec_DrawIsChest_39 L nL hbdL hleL hp0 v23 t24 s25 ht27 hq28 n20 hl31 hl32), hB38⟩

theorem z_c_spec_DrawTopMap_27 (L : List UInt8) (nL : Nat) (hbdL : (nL : Int) ≤ 9223372036854775807) (hleL : nL = L.length) (hp0 : (nL : Int) ≤ 65536) (v15 : Chest) (hq16 : (v15.Stack.length ≤ 11) ∧ 0 ≤ v15.Key ∧ v15.Key ≤ 9999) (n12 : Nat) (hl19 : n12 = (v15.Stack).length) (hl20 : (n12 : Int) ≤ 9223372036854775807) : (v15.Stack.length ≤ 11) ∧ 0 ≤ v15.Key ∧ v15.Key ≤ 9999 := by
  first | omega | (simp only [List.length_append, List.length_cons, List.length_nil]; omega)
theorem c_spec_DrawTopMap (w : World) {AL : Option Addr} {nL cL BL : Nat}  (L : List UInt8) (hL : SlR w BL encB 1 AL nL cL L) (hp0 : (nL : Int) ≤ 65536) : Calls Tryd.prog 20 #[.slice AL nL cL] w fun e w' => ∃ (A1' : Option Addr) (n1' c1' : Nat) (x : Chest), e = .returned (.agg (List.toArray [.int .i64 x.State, .int .i64 x.Key, .slice A1' n1' c1', .int .i64 x.Dust, .int .i64 x.Laid, .int .i64 x.Given])) ∧ SlO w' w.heap.size encI 1 3 A1' n1' c1' x.Stack ∧ ((x.Stack.length ≤ 11) ∧ 0 ≤ x.Key ∧ x.Key ≤ 9999) ∧ Lo w w' := by
  refine calls_W 5 Tryd.func20 rfl rfl rfl ?_
  have hbdL := hL.bound
  have hleL := hL.len
  have hBbL := hL.bd
  refine W.seq ?_
  refine W.regS (SR.alloc (l := [.int .i64 0, .int .i64 0, .slice none 0 0, .int .i64 0, .int .i64 0, .int .i64 0]) tz40 rfl ?_)
  intro g1 w2 hg3 hk4 hs5 hb6
  have hz7 := hk4.size
  have hB8 := (Lo.refl w).lo hk4
  refine SR.nil ?_
  refine W.seq ?_
  refine W.regS (SR.q' (r_mv (v := .slice _ _ _) rfl) <| SR.call ent61 (c_spec_DrawIsChest w2 L (((hL).lo hk4)) (by omega)) rfl ?_)
  rintro e w9 ⟨A11, n12, c13, v15, rfl, hO14, hq16, hk10⟩
  refine ⟨_, rfl, ?_⟩
  have hz17 := hk10.size
  have hB18 := hB8.lo hk10
  have hl19 := hO14.len
  have hl20 := hO14.rd.bound
  refine SR.store (o := 0) (vs := [.int .i64 v15.State, .int .i64 v15.Key, .slice A11 n12 c13, .int .i64 v15.Dust, .int .i64 v15.Laid, .int .i64 v15.Given]) agg40.2 rfl rfl rfl rfl ((hb6).lo hk10) (Nat.le_of_ble_eq_true rfl) rfl ?_
  intro w21 hk22 hs23 hb24
  have hz25 := hk22.size
  have hB26 := hB18.new hk22 (by omega)
  refine SR.nil ?_
  refine W.ret ?_
  refine retC rfl rfl agg40 (hb24) rfl ?_
  exact ⟨A11, n12, c13, v15, eR rfl, (((hO14).kp hk22 (fun b_ hb e' => by have e'' : b_ = g1 := e'; have := (hO14).base_le hb; omega)).down (by omega)), (z_c_spec_DrawTopMap_27 L nL hbdL hleL hp0 v15 hq16 n12 hl19 hl20), hB26⟩

theorem z_c_spec_DrawStepsToOpen_27 (L : List UInt8) (nL : Nat) (hbdL : (nL : Int) ≤ 9223372036854775807) (hleL : nL = L.length) (hp0 : (nL : Int) ≤ 65536) (v15 : Chest) (hq16 : (v15.Stack.length ≤ 11) ∧ 0 ≤ v15.Key ∧ v15.Key ≤ 9999) (n12 : Nat) (hl19 : n12 = (v15.Stack).length) (hl20 : (n12 : Int) ≤ 9223372036854775807) : (v15.Stack.length ≤ 11) ∧ 0 ≤ v15.Key ∧ v15.Key ≤ 9999 := by
  first | omega | (simp only [List.length_append, List.length_cons, List.length_nil]; omega)
theorem c_spec_DrawStepsToOpen (w : World) {AL : Option Addr} {nL cL BL : Nat}  (L : List UInt8) (hL : SlR w BL encB 1 AL nL cL L) (hp0 : (nL : Int) ≤ 65536) : Calls Tryd.prog 16 #[.slice AL nL cL] w fun e w' => ∃ (A1' : Option Addr) (n1' c1' : Nat) (x : Chest), e = .returned (.agg (List.toArray [.int .i64 x.State, .int .i64 x.Key, .slice A1' n1' c1', .int .i64 x.Dust, .int .i64 x.Laid, .int .i64 x.Given])) ∧ SlO w' w.heap.size encI 1 3 A1' n1' c1' x.Stack ∧ ((x.Stack.length ≤ 11) ∧ 0 ≤ x.Key ∧ x.Key ≤ 9999) ∧ Lo w w' := by
  refine calls_W 5 Tryd.func16 rfl rfl rfl ?_
  have hbdL := hL.bound
  have hleL := hL.len
  have hBbL := hL.bd
  refine W.seq ?_
  refine W.regS (SR.alloc (l := [.int .i64 0, .int .i64 0, .slice none 0 0, .int .i64 0, .int .i64 0, .int .i64 0]) tz40 rfl ?_)
  intro g1 w2 hg3 hk4 hs5 hb6
  have hz7 := hk4.size
  have hB8 := (Lo.refl w).lo hk4
  refine SR.nil ?_
  refine W.seq ?_
  refine W.regS (SR.q' (r_mv (v := .slice _ _ _) rfl) <| SR.call ent61 (c_spec_DrawIsChest w2 L (((hL).lo hk4)) (by omega)) rfl ?_)
  rintro e w9 ⟨A11, n12, c13, v15, rfl, hO14, hq16, hk10⟩
  refine ⟨_, rfl, ?_⟩
  have hz17 := hk10.size
  have hB18 := hB8.lo hk10
  have hl19 := hO14.len
  have hl20 := hO14.rd.bound
  refine SR.store (o := 0) (vs := [.int .i64 v15.State, .int .i64 v15.Key, .slice A11 n12 c13, .int .i64 v15.Dust, .int .i64 v15.Laid, .int .i64 v15.Given]) agg40.2 rfl rfl rfl rfl ((hb6).lo hk10) (Nat.le_of_ble_eq_true rfl) rfl ?_
  intro w21 hk22 hs23 hb24
  have hz25 := hk22.size
  have hB26 := hB18.new hk22 (by omega)
  refine SR.nil ?_
  refine W.ret ?_
  refine retC rfl rfl agg40 (hb24) rfl ?_
  exact ⟨A11, n12, c13, v15, eR rfl, (((hO14).kp hk22 (fun b_ hb e' => by have e'' : b_ = g1 := e'; have := (hO14).base_le hb; omega)).down (by omega)), (z_c_spec_DrawStepsToOpen_27 L nL hbdL hleL hp0 v15 hq16 n12 hl19 hl20), hB26⟩

theorem z_c_spec_DrawChestText_27 (L : List UInt8) (nL : Nat) (hbdL : (nL : Int) ≤ 9223372036854775807) (hleL : nL = L.length) (hp0 : (nL : Int) ≤ 65536) (v15 : Chest) (hq16 : (v15.Stack.length ≤ 11) ∧ 0 ≤ v15.Key ∧ v15.Key ≤ 9999) (n12 : Nat) (hl19 : n12 = (v15.Stack).length) (hl20 : (n12 : Int) ≤ 9223372036854775807) : (v15.Stack.length ≤ 11) ∧ 0 ≤ v15.Key ∧ v15.Key ≤ 9999 := by
  first | omega | (simp only [List.length_append, List.length_cons, List.length_nil]; omega)
theorem c_spec_DrawChestText (w : World) {AL : Option Addr} {nL cL BL : Nat}  (L : List UInt8) (hL : SlR w BL encB 1 AL nL cL L) (hp0 : (nL : Int) ≤ 65536) : Calls Tryd.prog 23 #[.slice AL nL cL] w fun e w' => ∃ (A1' : Option Addr) (n1' c1' : Nat) (x : Chest), e = .returned (.agg (List.toArray [.int .i64 x.State, .int .i64 x.Key, .slice A1' n1' c1', .int .i64 x.Dust, .int .i64 x.Laid, .int .i64 x.Given])) ∧ SlO w' w.heap.size encI 1 3 A1' n1' c1' x.Stack ∧ ((x.Stack.length ≤ 11) ∧ 0 ≤ x.Key ∧ x.Key ≤ 9999) ∧ Lo w w' := by
  refine calls_W 5 Tryd.func23 rfl rfl rfl ?_
  have hbdL := hL.bound
  have hleL := hL.len
  have hBbL := hL.bd
  refine W.seq ?_
  refine W.regS (SR.alloc (l := [.int .i64 0, .int .i64 0, .slice none 0 0, .int .i64 0, .int .i64 0, .int .i64 0]) tz40 rfl ?_)
  intro g1 w2 hg3 hk4 hs5 hb6
  have hz7 := hk4.size
  have hB8 := (Lo.refl w).lo hk4
  refine SR.nil ?_
  refine W.seq ?_
  refine W.regS (SR.q' (r_mv (v := .slice _ _ _) rfl) <| SR.call ent61 (c_spec_DrawIsChest w2 L (((hL).lo hk4)) (by omega)) rfl ?_)
  rintro e w9 ⟨A11, n12, c13, v15, rfl, hO14, hq16, hk10⟩
  refine ⟨_, rfl, ?_⟩
  have hz17 := hk10.size
  have hB18 := hB8.lo hk10
  have hl19 := hO14.len
  have hl20 := hO14.rd.bound
  refine SR.store (o := 0) (vs := [.int .i64 v15.State, .int .i64 v15.Key, .slice A11 n12 c13, .int .i64 v15.Dust, .int .i64 v15.Laid, .int .i64 v15.Given]) agg40.2 rfl rfl rfl rfl ((hb6).lo hk10) (Nat.le_of_ble_eq_true rfl) rfl ?_
  intro w21 hk22 hs23 hb24
  have hz25 := hk22.size
  have hB26 := hB18.new hk22 (by omega)
  refine SR.nil ?_
  refine W.ret ?_
  refine retC rfl rfl agg40 (hb24) rfl ?_
  exact ⟨A11, n12, c13, v15, eR rfl, (((hO14).kp hk22 (fun b_ hb e' => by have e'' : b_ = g1 := e'; have := (hO14).base_le hb; omega)).down (by omega)), (z_c_spec_DrawChestText_27 L nL hbdL hleL hp0 v15 hq16 n12 hl19 hl20), hB26⟩
end Go.Proofs.YtlpapeeaghmjpaaDoor
