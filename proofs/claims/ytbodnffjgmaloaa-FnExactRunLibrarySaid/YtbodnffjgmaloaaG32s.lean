/- Walks, printed by a program of this claim's author. -/
import Derived.Test.YtbodnffjgmaloaaChecked
import Derived.Test.YtbodnffjgmaloaaUa
import Derived.Test.YtbodnffjgmaloaaFs
import Derived.Test.YtbodnffjgmaloaaFq
namespace Go.Proofs.Ytbodnffjgmaloaa
open Go Go.RowKit Fw
set_option maxRecDepth 10000
set_option linter.unusedVariables false
theorem mo : Try.prog.follows .mixedOrders = true := by kernel_rfl
theorem agg100 : TAgg Try.prog 100 3 := ⟨fun _ => by kernel_rfl, fun _ => by kernel_rfl⟩
theorem agg102 : TAgg Try.prog 102 2 := ⟨fun _ => by kernel_rfl, fun _ => by kernel_rfl⟩
theorem agg31 : TAgg Try.prog 31 5 := ⟨fun _ => by kernel_rfl, fun _ => by kernel_rfl⟩
theorem agg73 : TAgg Try.prog 73 3 := ⟨fun _ => by kernel_rfl, fun _ => by kernel_rfl⟩
theorem agg77 : TAgg Try.prog 77 2 := ⟨fun _ => by kernel_rfl, fun _ => by kernel_rfl⟩
theorem ent46 : Ent Try.prog 46 := ent_of Try.func46 (by decide +kernel) rfl
theorem ent47 : Ent Try.prog 47 := ent_of Try.func47 (by decide +kernel) rfl
theorem ent49 : Ent Try.prog 49 := ent_of Try.func49 (by decide +kernel) rfl
theorem ent50 : Ent Try.prog 50 := ent_of Try.func50 (by decide +kernel) rfl
theorem ent52 : Ent Try.prog 52 := ent_of Try.func52 (by decide +kernel) rfl
theorem ent58 : Ent Try.prog 58 := ent_of Try.func58 (by decide +kernel) rfl
theorem ent59 : Ent Try.prog 59 := ent_of Try.func59 (by decide +kernel) rfl
theorem ent61 : Ent Try.prog 61 := ent_of Try.func61 (by decide +kernel) rfl
theorem ent62 : Ent Try.prog 62 := ent_of Try.func62 (by decide +kernel) rfl
theorem ent63 : Ent Try.prog 63 := ent_of Try.func63 (by decide +kernel) rfl
theorem ent70 : Ent Try.prog 70 := ent_of Try.func70 (by decide +kernel) rfl
theorem ent71 : Ent Try.prog 71 := ent_of Try.func71 (by decide +kernel) rfl
theorem ent84 : Ent Try.prog 84 := ent_of Try.func84 (by decide +kernel) rfl
theorem ent85 : Ent Try.prog 85 := ent_of Try.func85 (by decide +kernel) rfl
theorem ent90 : Ent Try.prog 90 := ent_of Try.func90 (by decide +kernel) rfl
theorem ent91 : Ent Try.prog 91 := ent_of Try.func91 (by decide +kernel) rfl
theorem fa100_0 : FA Try.prog 100 0 0 := fun _ _ => by kernel_rfl
theorem fa100_1 : FA Try.prog 100 1 1 := fun _ _ => by kernel_rfl
theorem fa100_2 : FA Try.prog 100 2 2 := fun _ _ => by kernel_rfl
theorem fa102_0 : FA Try.prog 102 0 0 := fun _ _ => by kernel_rfl
theorem fa102_1 : FA Try.prog 102 1 1 := fun _ _ => by kernel_rfl
theorem fa25_0 : FA Try.prog 25 0 0 := fun _ _ => by kernel_rfl
theorem fa25_1 : FA Try.prog 25 1 1 := fun _ _ => by kernel_rfl
theorem fa25_2 : FA Try.prog 25 2 2 := fun _ _ => by kernel_rfl
theorem fa25_3 : FA Try.prog 25 3 3 := fun _ _ => by kernel_rfl
theorem fa25_4 : FA Try.prog 25 4 4 := fun _ _ => by kernel_rfl
theorem fa31_0 : FA Try.prog 31 0 0 := fun _ _ => by kernel_rfl
theorem fa31_1 : FA Try.prog 31 1 1 := fun _ _ => by kernel_rfl
theorem fa31_2 : FA Try.prog 31 2 2 := fun _ _ => by kernel_rfl
theorem fa31_3 : FA Try.prog 31 3 3 := fun _ _ => by kernel_rfl
theorem fa31_4 : FA Try.prog 31 4 4 := fun _ _ => by kernel_rfl
theorem fa73_0 : FA Try.prog 73 0 0 := fun _ _ => by kernel_rfl
theorem fa73_1 : FA Try.prog 73 1 1 := fun _ _ => by kernel_rfl
theorem fa73_2 : FA Try.prog 73 2 2 := fun _ _ => by kernel_rfl
theorem fa77_0 : FA Try.prog 77 0 0 := fun _ _ => by kernel_rfl
theorem fa77_1 : FA Try.prog 77 1 1 := fun _ _ => by kernel_rfl
theorem sca22 : TSca Try.prog 22 := ⟨fun _ => by kernel_rfl, fun _ => by kernel_rfl⟩
theorem sca23 : TSca Try.prog 23 := ⟨fun _ => by kernel_rfl, fun _ => by kernel_rfl⟩
theorem sca28 : TSca Try.prog 28 := ⟨fun _ => by kernel_rfl, fun _ => by kernel_rfl⟩
theorem sca29 : TSca Try.prog 29 := ⟨fun _ => by kernel_rfl, fun _ => by kernel_rfl⟩
theorem sca3 : TSca Try.prog 3 := ⟨fun _ => by kernel_rfl, fun _ => by kernel_rfl⟩
theorem tel28 : TEl Try.prog 28 73 (.agg (List.toArray [.int .i64 0, .int .i64 0, .int .i64 0])) 3 24 := ⟨by kernel_rfl, by kernel_rfl, rfl, by decide⟩
theorem tel29 : TEl Try.prog 29 77 (.agg (List.toArray [.int .i64 0, .int .i64 0])) 2 16 := ⟨by kernel_rfl, by kernel_rfl, rfl, by decide⟩
theorem tsl22 : TSl Try.prog 22 100 3 := ⟨by kernel_rfl, fun _ => by kernel_rfl⟩
theorem tsl23 : TSl Try.prog 23 102 2 := ⟨by kernel_rfl, fun _ => by kernel_rfl⟩
theorem tsl28 : TSl Try.prog 28 73 3 := ⟨by kernel_rfl, fun _ => by kernel_rfl⟩
theorem tsl29 : TSl Try.prog 29 77 2 := ⟨by kernel_rfl, fun _ => by kernel_rfl⟩
theorem tz31 : TZ Try.prog 31 (.agg (List.toArray [.slice none 0 0, .slice none 0 0, .int .i64 0, .int .i64 0, .int .i64 0])) := fun _ => by kernel_rfl
theorem tz73 : TZ Try.prog 73 (.agg (List.toArray [.int .i64 0, .int .i64 0, .int .i64 0])) := fun _ => by kernel_rfl
theorem tz77 : TZ Try.prog 77 (.agg (List.toArray [.int .i64 0, .int .i64 0])) := fun _ => by kernel_rfl
theorem und22 : Try.prog.underlying 22 = some (.slice 100) := by kernel_rfl
theorem und23 : Try.prog.underlying 23 = some (.slice 102) := by kernel_rfl
theorem und28 : Try.prog.underlying 28 = some (.slice 73) := by kernel_rfl
theorem und29 : Try.prog.underlying 29 = some (.slice 77) := by kernel_rfl

theorem z_c_spec_l1In_8 (n : Int) (a : Int) (b : Int) : ((a ≤ n) ∧ (n ≤ b)) ↔ (a ≤ n ∧ n ≤ b) := by
  omega
theorem c_spec_l1In (w : World) (n : Int) (a : Int) (b : Int) : Calls Try.prog 61 #[.int .i64 n, .int .i64 a, .int .i64 b] w fun e w' => e = .returned (.bool (decide (a ≤ n ∧ n ≤ b))) ∧ Lo w w' := by
  refine calls_W 15 Try.func61 rfl rfl rfl ?_
  refine W.seq ?_
  refine W.regS (SR.q' (r_as (v := .bool false) rfl) <| SR.nil ?_)
  refine W.seq ?_
  refine W.regJS (fun f' w' => At f' [(6, .bool (decide ((a ≤ n) ∧ (n ≤ b))))] ∧ Lo w w') ?_ ?_
  · refine SR.q' (r_mv (v := .int .i64 _) rfl) <| SR.q' (r_mv (v := .int .i64 _) rfl) <| SR.q' (r_ge rfl rfl) <| SR.q' (r_mv (v := .bool _) rfl) <| SR.splitD (fun h1 => ?_) (fun h1 => ?_)
    · refine SR.g' rfl (r_mv (v := .int .i64 _) rfl) <| SR.g' rfl (r_mv (v := .int .i64 _) rfl) <| SR.g' rfl (r_le rfl rfl) <| SR.q' (r_pick true rfl (v := .bool _) rfl) <| SR.q' (r_as (v := .bool _) rfl) <| SR.nil ?_
      exact ⟨_, rfl, ⟨⟨(eDD (jat h1)), trivial⟩, (Lo.refl _)⟩⟩
    · refine SR.s' rfl <| SR.s' rfl <| SR.s' rfl <| SR.q' (r_pick false rfl (v := .bool false) rfl) <| SR.q' (r_as (v := .bool _) rfl) <| SR.nil ?_
      exact ⟨_, rfl, ⟨⟨(eDF (jaf h1).2), trivial⟩, (Lo.refl _)⟩⟩
  rintro f2 w3 ⟨hat4, hk5⟩
  rw [← sets_of_at hat4]
  have hz6 := hk5.size
  have hB7 := (Lo.refl w).lo hk5
  refine W.ret ?_
  refine ret1 rfl (v := .bool _) rfl ?_
  exact ⟨eR (eDD (z_c_spec_l1In_8 n a b)), hB7⟩

theorem z_c_impl_within_8 (n : Int) (a : Int) (b : Int) : ((a ≤ n) ∧ (n ≤ b)) ↔ (a ≤ n ∧ n ≤ b) := by
  omega
theorem c_impl_within (w : World) (n : Int) (a : Int) (b : Int) : Calls Try.prog 52 #[.int .i64 n, .int .i64 a, .int .i64 b] w fun e w' => e = .returned (.bool (decide (a ≤ n ∧ n ≤ b))) ∧ Lo w w' := by
  refine calls_W 15 Try.func52 rfl rfl rfl ?_
  refine W.seq ?_
  refine W.regS (SR.q' (r_as (v := .bool false) rfl) <| SR.nil ?_)
  refine W.seq ?_
  refine W.regJS (fun f' w' => At f' [(6, .bool (decide ((a ≤ n) ∧ (n ≤ b))))] ∧ Lo w w') ?_ ?_
  · refine SR.q' (r_mv (v := .int .i64 _) rfl) <| SR.q' (r_mv (v := .int .i64 _) rfl) <| SR.q' (r_ge rfl rfl) <| SR.q' (r_mv (v := .bool _) rfl) <| SR.splitD (fun h1 => ?_) (fun h1 => ?_)
    · refine SR.g' rfl (r_mv (v := .int .i64 _) rfl) <| SR.g' rfl (r_mv (v := .int .i64 _) rfl) <| SR.g' rfl (r_le rfl rfl) <| SR.q' (r_pick true rfl (v := .bool _) rfl) <| SR.q' (r_as (v := .bool _) rfl) <| SR.nil ?_
      exact ⟨_, rfl, ⟨⟨(eDD (jat h1)), trivial⟩, (Lo.refl _)⟩⟩
    · refine SR.s' rfl <| SR.s' rfl <| SR.s' rfl <| SR.q' (r_pick false rfl (v := .bool false) rfl) <| SR.q' (r_as (v := .bool _) rfl) <| SR.nil ?_
      exact ⟨_, rfl, ⟨⟨(eDF (jaf h1).2), trivial⟩, (Lo.refl _)⟩⟩
  rintro f2 w3 ⟨hat4, hk5⟩
  rw [← sets_of_at hat4]
  have hz6 := hk5.size
  have hB7 := (Lo.refl w).lo hk5
  refine W.ret ?_
  refine ret1 rfl (v := .bool _) rfl ?_
  exact ⟨eR (eDD (z_c_impl_within_8 n a b)), hB7⟩

theorem c_impl_isId (w : World) (n : Int) : Calls Try.prog 54 #[.int .i64 n] w fun e w' => e = .returned (.bool (decide (1 ≤ n ∧ n ≤ 999))) ∧ Lo w w' := by
  refine calls_W 5 Try.func54 rfl rfl rfl ?_
  refine W.seq ?_
  refine W.regS (SR.q' (r_as (v := .bool false) rfl) <| SR.nil ?_)
  refine W.seq ?_
  refine W.regS (SR.q' (r_mv (v := .int .i64 _) rfl) <| SR.call ent52 (c_impl_within w n 1 999) rfl ?_)
  rintro e w1 ⟨rfl, hk2⟩
  refine ⟨_, rfl, ?_⟩
  have hz3 := hk2.size
  have hB4 := (Lo.refl w).lo hk2
  refine SR.q' (r_as (v := .bool _) rfl) <| SR.nil ?_
  refine W.ret ?_
  refine ret1 rfl (v := .bool _) rfl ?_
  exact ⟨eR rfl, hB4⟩

theorem c_impl_isMapId (w : World) (n : Int) : Calls Try.prog 51 #[.int .i64 n] w fun e w' => e = .returned (.bool (decide (1 ≤ n ∧ n ≤ 99))) ∧ Lo w w' := by
  refine calls_W 5 Try.func51 rfl rfl rfl ?_
  refine W.seq ?_
  refine W.regS (SR.q' (r_as (v := .bool false) rfl) <| SR.nil ?_)
  refine W.seq ?_
  refine W.regS (SR.q' (r_mv (v := .int .i64 _) rfl) <| SR.call ent52 (c_impl_within w n 1 99) rfl ?_)
  rintro e w1 ⟨rfl, hk2⟩
  refine ⟨_, rfl, ?_⟩
  have hz3 := hk2.size
  have hB4 := (Lo.refl w).lo hk2
  refine SR.q' (r_as (v := .bool _) rfl) <| SR.nil ?_
  refine W.ret ?_
  refine ret1 rfl (v := .bool _) rfl ?_
  exact ⟨eR rfl, hB4⟩

theorem c_impl_isSum (w : World) (n : Int) : Calls Try.prog 56 #[.int .i64 n] w fun e w' => e = .returned (.bool (decide (0 ≤ n ∧ n ≤ 9999))) ∧ Lo w w' := by
  refine calls_W 5 Try.func56 rfl rfl rfl ?_
  refine W.seq ?_
  refine W.regS (SR.q' (r_as (v := .bool false) rfl) <| SR.nil ?_)
  refine W.seq ?_
  refine W.regS (SR.q' (r_mv (v := .int .i64 _) rfl) <| SR.call ent52 (c_impl_within w n 0 9999) rfl ?_)
  rintro e w1 ⟨rfl, hk2⟩
  refine ⟨_, rfl, ?_⟩
  have hz3 := hk2.size
  have hB4 := (Lo.refl w).lo hk2
  refine SR.q' (r_as (v := .bool _) rfl) <| SR.nil ?_
  refine W.ret ?_
  refine ret1 rfl (v := .bool _) rfl ?_
  exact ⟨eR rfl, hB4⟩

theorem c_spec_l32Count (w : World) (n : Int) : Calls Try.prog 83 #[.int .i64 n] w fun e w' => e = .returned (.bool (decide (0 ≤ n ∧ n ≤ 9999))) ∧ Lo w w' := by
  refine calls_W 5 Try.func83 rfl rfl rfl ?_
  refine W.seq ?_
  refine W.regS (SR.q' (r_as (v := .bool false) rfl) <| SR.nil ?_)
  refine W.seq ?_
  refine W.regS (SR.q' (r_mv (v := .int .i64 _) rfl) <| SR.call ent61 (c_spec_l1In w n 0 9999) rfl ?_)
  rintro e w1 ⟨rfl, hk2⟩
  refine ⟨_, rfl, ?_⟩
  have hz3 := hk2.size
  have hB4 := (Lo.refl w).lo hk2
  refine SR.q' (r_as (v := .bool _) rfl) <| SR.nil ?_
  refine W.ret ?_
  refine ret1 rfl (v := .bool _) rfl ?_
  exact ⟨eR rfl, hB4⟩

theorem z_c_spec_l1Least_2 (a : Int) (b : Int) (h1 : a < b) : a = min a b := by
  omega
theorem z_c_spec_l1Least_3 (a : Int) (b : Int) (h1 : ¬ (a < b)) : b = min a b := by
  omega
theorem c_spec_l1Least (w : World) (a : Int) (b : Int) : Calls Try.prog 93 #[.int .i64 a, .int .i64 b] w fun e w' => e = .returned (.int .i64 (min a b)) ∧ Lo w w' := by
  refine calls_W 10 Try.func93 rfl rfl rfl ?_
  refine W.seq ?_
  refine W.regS (SR.q' (r_as (v := .int .i64 0) rfl) <| SR.nil ?_)
  refine W.seq ?_
  refine W.seq ?_
  refine W.regS (SR.q' (r_mv (v := .int .i64 _) rfl) <| SR.q' (r_mv (v := .int .i64 _) rfl) <| SR.q' (r_lt rfl rfl) <| SR.nil ?_)
  refine W.cond_d rfl (fun h1 => ?_) (fun h1 => ?_)
  · refine W.seq ?_
    refine W.regS (SR.q' (r_mv (v := .int .i64 _) rfl) <| SR.q' (r_as (v := .int .i64 _) rfl) <| SR.nil ?_)
    refine W.ret ?_
    refine ret1 rfl (v := .int .i64 _) rfl ?_
    exact ⟨eR (eI (z_c_spec_l1Least_2 a b h1)), (Lo.refl w)⟩
  · refine W.skip ?_
    refine W.seq ?_
    refine W.regS (SR.q' (r_mv (v := .int .i64 _) rfl) <| SR.q' (r_as (v := .int .i64 _) rfl) <| SR.nil ?_)
    refine W.ret ?_
    refine ret1 rfl (v := .int .i64 _) rfl ?_
    exact ⟨eR (eI (z_c_spec_l1Least_3 a b h1)), (Lo.refl w)⟩

theorem z_c_laws_toMap_49 (r : LMap) : ([.int .i64 r.Id, .int .i64 r.Copies, .int .i64 r.Torn] : List Value) = encLMap r := by
  first | rfl | (first | rfl | omega | grind)
theorem c_laws_toMap (w : World) (r : LMap) : Calls Try.prog 84 #[.agg (List.toArray (encLMap r))] w fun e w' => e = .returned (.agg (List.toArray (encLMap r))) ∧ Lo w w' := by
  refine calls_W 14 Try.func84 rfl rfl rfl ?_
  refine W.seq ?_
  refine W.regS (SR.box (v := .agg (List.toArray _)) (l := [.int .i64 r.Id, .int .i64 r.Copies, .int .i64 r.Torn]) rfl rfl ?_)
  intro g1 w2 hg3 hk4 hs5 hb6
  have hz7 := hk4.size
  have hB8 := (Lo.refl w).lo hk4
  refine SR.alloc (l := [.int .i64 0, .int .i64 0, .int .i64 0]) tz73 rfl ?_
  intro g9 w10 hg11 hk12 hs13 hb14
  have hz15 := hk12.size
  have hB16 := hB8.lo hk12
  refine SR.nil ?_
  refine W.seq ?_
  refine W.regS (SR.alloc (l := [.int .i64 0, .int .i64 0, .int .i64 0]) tz73 rfl ?_)
  intro g17 w18 hg19 hk20 hs21 hb22
  have hz23 := hk20.size
  have hB24 := hB16.lo hk20
  refine SR.nil ?_
  refine W.seq ?_
  refine W.regS (SR.q' (r_fa fa100_0 rfl) <| SR.q' (r_ld (v := .int .i64 r.Id) sca3 rfl ((((hb6).lo hk12).lo hk20).cell rfl)) <| SR.q' (r_fa fa73_0 rfl) <| SR.store (o := 0) (vs := [.int .i64 r.Id]) sca3.2 rfl rfl rfl rfl (hb22) (Nat.le_of_ble_eq_true rfl) rfl ?_)
  intro w25 hk26 hs27 hb28
  have hz29 := hk26.size
  have hB30 := hB24.new hk26 (by omega)
  refine SR.nil ?_
  refine W.seq ?_
  refine W.regS (SR.q' (r_fa fa100_1 rfl) <| SR.q' (r_ld (v := .int .i64 r.Copies) sca3 rfl (((((hb6).lo hk12).lo hk20).kp hk26 (fun e' => by have e'' : g1 = g17 := e'; omega)).cell rfl)) <| SR.q' (r_fa fa73_1 rfl) <| SR.store (o := 1) (vs := [.int .i64 r.Copies]) sca3.2 rfl rfl rfl rfl (hb28) (Nat.le_of_ble_eq_true rfl) rfl ?_)
  intro w31 hk32 hs33 hb34
  have hz35 := hk32.size
  have hB36 := hB30.new hk32 (by omega)
  refine SR.nil ?_
  refine W.seq ?_
  refine W.regS (SR.q' (r_fa fa100_2 rfl) <| SR.q' (r_ld (v := .int .i64 r.Torn) sca3 rfl ((((((hb6).lo hk12).lo hk20).kp hk26 (fun e' => by have e'' : g1 = g17 := e'; omega)).kp hk32 (fun e' => by have e'' : g1 = g17 := e'; omega)).cell rfl)) <| SR.q' (r_fa fa73_2 rfl) <| SR.store (o := 2) (vs := [.int .i64 r.Torn]) sca3.2 rfl rfl rfl rfl (hb34) (Nat.le_of_ble_eq_true rfl) rfl ?_)
  intro w37 hk38 hs39 hb40
  have hz41 := hk38.size
  have hB42 := hB36.new hk38 (by omega)
  refine SR.nil ?_
  refine W.seq ?_
  refine W.regS (SR.q' (r_lda (l := [.int .i64 r.Id, .int .i64 r.Copies, .int .i64 r.Torn]) agg73 rfl (fun _ _ hu => (hb40).cell hu) rfl) <| SR.store (o := 0) (vs := [.int .i64 r.Id, .int .i64 r.Copies, .int .i64 r.Torn]) agg73.2 rfl rfl rfl rfl (((((hb14).lo hk20).kp hk26 (fun e' => by have e'' : g9 = g17 := e'; omega)).kp hk32 (fun e' => by have e'' : g9 = g17 := e'; omega)).kp hk38 (fun e' => by have e'' : g9 = g17 := e'; omega)) (Nat.le_of_ble_eq_true rfl) rfl ?_)
  intro w43 hk44 hs45 hb46
  have hz47 := hk44.size
  have hB48 := hB42.new hk44 (by omega)
  refine SR.nil ?_
  refine W.ret ?_
  refine retC rfl rfl agg73 (hb46) rfl ?_
  exact ⟨eR (eA (z_c_laws_toMap_49 r)), hB48⟩

theorem z_c_laws_szMapS_2 (L : List LMap) (nL : Nat) (hbdL : (nL : Int) ≤ 9223372036854775807) (hleL : nL = L.length) (left : Int) (hp0 : 0 ≤ left) (hp1 : left ≤ 1048576) (h1 : (left - (nL : Int)) < 0) : (-1) = szN L.length left := by
  unfold szN; split <;> omega
theorem z_c_laws_szMapS_3 (L : List LMap) (nL : Nat) (hbdL : (nL : Int) ≤ 9223372036854775807) (hleL : nL = L.length) (left : Int) (hp0 : 0 ≤ left) (hp1 : left ≤ 1048576) (h1 : ¬ ((left - (nL : Int)) < 0)) : left - (nL : Int) = szN L.length left := by
  unfold szN; split <;> omega
theorem c_laws_szMapS (w : World) {AL : Option Addr} {nL cL BL : Nat}  (L : List LMap) (hL : SlR w BL encLMap 3 AL nL cL L) (left : Int) (hp0 : 0 ≤ left) (hp1 : left ≤ 1048576) : Calls Try.prog 46 #[.slice AL nL cL, .int .i64 left] w fun e w' => e = .returned (.int .i64 (szN L.length left)) ∧ Lo w w' := by
  refine calls_W 12 Try.func46 rfl rfl rfl ?_
  have hbdL := hL.bound
  have hleL := hL.len
  have hBbL := hL.bd
  refine W.seq ?_
  refine W.regS (SR.q' (r_as (v := .int .i64 0) rfl) <| SR.nil ?_)
  refine W.seq ?_
  refine W.regS (SR.q' (r_mv (v := .int .i64 _) rfl) <| SR.q' (r_mv (v := .slice _ _ _) rfl) <| SR.q' (r_len und22 rfl) <| SR.q' (r_sub rfl rfl (by omega)) <| SR.q' (r_as (v := .int .i64 _) rfl) <| SR.nil ?_)
  refine W.seq ?_
  refine W.seq ?_
  refine W.regS (SR.q' (r_mv (v := .int .i64 _) rfl) <| SR.q' (r_lt rfl rfl) <| SR.nil ?_)
  refine W.cond_d rfl (fun h1 => ?_) (fun h1 => ?_)
  · refine W.seq ?_
    refine W.regS (SR.q' (r_as (v := .int .i64 (-1)) rfl) <| SR.nil ?_)
    refine W.ret ?_
    refine ret1 rfl (v := .int .i64 _) rfl ?_
    exact ⟨eR (eI (z_c_laws_szMapS_2 L nL hbdL hleL left hp0 hp1 h1)), (Lo.refl w)⟩
  · refine W.skip ?_
    refine W.seq ?_
    refine W.regS (SR.q' (r_mv (v := .int .i64 _) rfl) <| SR.q' (r_as (v := .int .i64 _) rfl) <| SR.nil ?_)
    refine W.ret ?_
    refine ret1 rfl (v := .int .i64 _) rfl ?_
    exact ⟨eR (eI (z_c_laws_szMapS_3 L nL hbdL hleL left hp0 hp1 h1)), (Lo.refl w)⟩

theorem z_c_laws_toMapS_8 (L : List LMap) (nL : Nat) (hbdL : (nL : Int) ≤ 9223372036854775807) (hleL : nL = L.length) (hp0 : (nL : Int) ≤ 1048576) : 0 ≤ nL := by
  omega
theorem z_c_laws_toMapS_9 (L : List LMap) (nL : Nat) (hbdL : (nL : Int) ≤ 9223372036854775807) (hleL : nL = L.length) (hp0 : (nL : Int) ≤ 1048576) : List.replicate nL (⟨0, 0, 0⟩ : LMap) = L.take 0 ++ List.replicate (nL - 0) (⟨0, 0, 0⟩ : LMap) := by
  exact tk_init
theorem z_c_laws_toMapS_33 (L : List LMap) (nL : Nat) (hbdL : (nL : Int) ≤ 9223372036854775807) (hleL : nL = L.length) (hp0 : (nL : Int) ≤ 1048576) (k : Nat) (hi16 : k ≤ nL) (h17 : (k : Int) < (nL : Int)) (x18 : LMap) (hx19 : L[k]? = some x18) (x24 : LMap) (hx25 : (L.take k ++ List.replicate (nL - k) (⟨0, 0, 0⟩ : LMap))[k]? = some x24) : (L.take k ++ List.replicate (nL - k) (⟨0, 0, 0⟩ : LMap)).set ((k : Int).toNat) x18 = L.take (k + 1) ++ List.replicate (nL - (k + 1)) (⟨0, 0, 0⟩ : LMap) := by
  exact tk_set (by assumption) hleL
theorem z_c_laws_toMapS_34 (L : List LMap) (nL : Nat) (hbdL : (nL : Int) ≤ 9223372036854775807) (hleL : nL = L.length) (hp0 : (nL : Int) ≤ 1048576) (k : Nat) (hi16 : k ≤ nL) (h17 : (k : Int) < (nL : Int)) (x18 : LMap) (hx19 : L[k]? = some x18) (x24 : LMap) (hx25 : (L.take k ++ List.replicate (nL - k) (⟨0, 0, 0⟩ : LMap))[k]? = some x24) : k + 1 ≤ nL := by
  omega
theorem z_c_laws_toMapS_35 (L : List LMap) (nL : Nat) (hbdL : (nL : Int) ≤ 9223372036854775807) (hleL : nL = L.length) (hp0 : (nL : Int) ≤ 1048576) (k : Nat) (hi16 : k ≤ nL) (h17 : (k : Int) < (nL : Int)) (x18 : LMap) (hx19 : L[k]? = some x18) (x24 : LMap) (hx25 : (L.take k ++ List.replicate (nL - k) (⟨0, 0, 0⟩ : LMap))[k]? = some x24) : nL - (k + 1) < nL - k := by
  omega
theorem z_c_laws_toMapS_36 (L : List LMap) (nL : Nat) (hbdL : (nL : Int) ≤ 9223372036854775807) (hleL : nL = L.length) (hp0 : (nL : Int) ≤ 1048576) (k : Nat) (hi16 : k ≤ nL) (h17 : ¬ ((k : Int) < (nL : Int))) : L.take k ++ List.replicate (nL - k) (⟨0, 0, 0⟩ : LMap) = L := by
  exact tk_end hleL (by assumption) (by omega)
theorem c_laws_toMapS (w : World) {AL : Option Addr} {nL cL BL : Nat}  (L : List LMap) (hL : SlR w BL encLMap 3 AL nL cL L) (hp0 : (nL : Int) ≤ 1048576) : Calls Try.prog 49 #[.slice AL nL cL] w fun e w' => ∃ (A1' : Option Addr) (n1' c1' : Nat), e = .returned (.slice A1' n1' c1') ∧ SlO w' w.heap.size encLMap 3 73 A1' n1' c1' L ∧ Lo w w' := by
  refine calls_W 23 Try.func49 rfl rfl rfl ?_
  have hbdL := hL.bound
  have hleL := hL.len
  have hBbL := hL.bd
  refine W.seq ?_
  refine W.regS (SR.q' (r_as (v := .slice none 0 0) rfl) <| SR.nil ?_)
  refine W.seq ?_
  refine W.regS (SR.q' (r_mv (v := .slice _ _ _) rfl) <| SR.q' (r_len und22 rfl) <| SR.make (m := nL) (zx := (⟨0, 0, 0⟩ : LMap)) (enc := encLMap) tel28 rfl (fun _ => rfl) rfl rfl (by omega) (by omega) ?_)
  intro g1 w2 hg3 hk4 hO5
  have hz6 := hk4.size
  have hB7 := (Lo.refl w).lo hk4
  refine SR.q' (r_as (v := .slice _ _ _) rfl) <| SR.nil ?_
  refine W.seq ?_
  refine W.seq ?_
  refine W.regS (SR.q' (r_as (v := .int .i64 0) rfl) <| SR.nil ?_)
  refine W.block ?_
  refine W.loop (σ := Nat) (fun g => [(0, .slice AL nL cL), (2, .slice none 0 0), (3, .slice (some (⟨g1, 0, none⟩ : Addr)) nL nL), (4, .int .i64 (g : Int))]) (fun g w' => (Lo w w') ∧ (SlR w' BL encLMap 3 AL nL cL L) ∧ (SlO w' w.heap.size encLMap 3 73 (some (⟨g1, 0, none⟩ : Addr)) nL nL (L.take g ++ List.replicate (nL - g) (⟨0, 0, 0⟩ : LMap))) ∧ (g ≤ nL)) (fun g => nL - g) 0 ?_ ?_ ?_
  · exact ⟨rfl, rfl, rfl, rfl, trivial⟩
  · exact ⟨hB7, (hL).lo hk4, (SlO.eqv (hO5) (z_c_laws_toMapS_9 L nL hbdL hleL hp0)), (z_c_laws_toMapS_8 L nL hbdL hleL hp0)⟩
  · rintro k f10 w11 hP13
    obtain ⟨hB12, hm14, hm15, hi16⟩ : (Lo w w11) ∧ (SlR w11 BL encLMap 3 AL nL cL L) ∧ (SlO w11 w.heap.size encLMap 3 73 (some (⟨g1, 0, none⟩ : Addr)) nL nL (L.take k ++ List.replicate (nL - k) (⟨0, 0, 0⟩ : LMap))) ∧ (k ≤ nL) := hP13
    refine (?_ : W _ _ _ _ _ (act _ (sets f10 [(0, .slice AL nL cL), (2, .slice none 0 0), (3, .slice (some (⟨g1, 0, none⟩ : Addr)) nL nL), (4, .int .i64 (k : Int))])) _)
    have hzw11 := hB12.size
    refine W.seq ?_
    refine W.seq ?_
    refine W.regS (SR.q' (r_mv (v := .int .i64 _) rfl) <| SR.q' (r_mv (v := .slice _ _ _) rfl) <| SR.q' (r_len und22 rfl) <| SR.q' (r_lt rfl rfl) <| SR.nil ?_)
    refine W.cond_d rfl (fun h17 => ?_) (fun h17 => ?_)
    · refine W.skip ?_
      refine W.seq ?_
      refine W.block ?_
      refine W.regS (SR.q' (r_mv (v := .slice _ _ _) rfl) <| SR.q' (r_mv (v := .int .i64 _) rfl) <| SR.q' (r_mv (v := .slice _ _ _) rfl) <| SR.q' (r_mv (v := .int .i64 _) rfl) <| ?_)
      obtain ⟨x18, hx19⟩ := (hm14).get (i := k) (by omega)
      refine SR.q' (r_ixR tsl22 (hm14) rfl rfl (by omega)) <| SR.q' (r_lda (l := encLMap x18) agg100 rfl (fun _ _ hu => (hm14).cell hx19 hu) ((hm14).esz _)) <| SR.call ent84 (c_laws_toMap w11 x18) rfl ?_
      rintro e w20 ⟨rfl, hk21⟩
      refine ⟨_, rfl, ?_⟩
      have hz22 := hk21.size
      have hB23 := hB12.lo hk21
      obtain ⟨x24, hx25⟩ := (((hm15).lo hk21).rd).get (i := k) (by omega)
      refine SR.q' (r_ixR tsl28 (((hm15).lo hk21).rd) rfl rfl (by omega)) <| SR.storeO (o := 0) (vs := [.int .i64 x18.Id, .int .i64 x18.Copies, .int .i64 x18.Torn]) (x1 := x18) agg73.2 rfl rfl rfl rfl ((hm15).lo hk21) hx25 rfl (Nat.le_of_ble_eq_true rfl) rfl ?_
      intro w26 hk27 hs28 hO29
      have hz30 := hk27.size
      have hB31 := hB23.step hk27 (fun i_ hi_ e' => by have := (((hm15).lo hk21)).base_le e'; first | omega | (exfalso; omega) | exact e' | exact .inl e' | exact .inr e')
      have hx32 : ((L.take k ++ List.replicate (nL - k) (⟨0, 0, 0⟩ : LMap)).set ((k : Int).toNat) x18)[(k : Int).toNat]? = some (x18) := List.getElem?_set_self (List.getElem?_eq_some_iff.1 hx25).1
      refine SR.nil ?_
      refine W.regS (SR.q' (r_mv (v := .int .i64 _) rfl) <| SR.q' (r_add rfl rfl (by omega)) <| SR.q' (r_as (v := .int .i64 _) rfl) <| SR.nil ?_)
      refine ⟨k + 1, _, rfl, ⟨rfl, rfl, rfl, rfl, trivial⟩, ⟨hB31, ((hm14).lo hk21).kp hk27 (fun b_ hb e' => by have := (((hm15).lo hk21)).base_le e'; omega), (SlO.eqv (hO29) (z_c_laws_toMapS_33 L nL hbdL hleL hp0 k hi16 h17 x18 hx19 x24 hx25)), ?_⟩, ?_⟩
      · exact (z_c_laws_toMapS_34 L nL hbdL hleL hp0 k hi16 h17 x18 hx19 x24 hx25)
      · exact (z_c_laws_toMapS_35 L nL hbdL hleL hp0 k hi16 h17 x18 hx19 x24 hx25)
    · refine W.exit (xin_here ?_)
      refine W.seq ?_
      refine W.regS (SR.q' (r_mv (v := .slice _ _ _) rfl) <| SR.q' (r_as (v := .slice _ _ _) rfl) <| SR.nil ?_)
      refine W.ret ?_
      refine ret1 rfl (v := .slice _ _ _) rfl ?_
      exact ⟨(some (⟨g1, 0, none⟩ : Addr)), nL, nL, eR rfl, (SlO.eqv ((hm15).down (by omega)) (z_c_laws_toMapS_36 L nL hbdL hleL hp0 k hi16 h17)), hB12⟩

theorem z_c_laws_eqMap_18 (a : LMap) (b : LMap) (h17 : ¬ (a.Id = b.Id)) : ¬ (a = b) := by
  cases a; cases b; simp_all
theorem z_c_laws_eqMap_20 (a : LMap) (b : LMap) (h17 : a.Id = b.Id) (h19 : ¬ (a.Copies = b.Copies)) : ¬ (a = b) := by
  cases a; cases b; simp_all
theorem z_c_laws_eqMap_22 (a : LMap) (b : LMap) (h17 : a.Id = b.Id) (h19 : a.Copies = b.Copies) (h21 : ¬ (a.Torn = b.Torn)) : ¬ (a = b) := by
  cases a; cases b; simp_all
theorem z_c_laws_eqMap_23 (a : LMap) (b : LMap) (h17 : a.Id = b.Id) (h19 : a.Copies = b.Copies) (h21 : a.Torn = b.Torn) : a = b := by
  cases a; cases b; simp_all
theorem c_laws_eqMap (w : World) (a : LMap) (b : LMap) : Calls Try.prog 90 #[.agg (List.toArray (encLMap a)), .agg (List.toArray (encLMap b))] w fun e w' => e = .returned (.bool (decide (a = b))) ∧ Lo w w' := by
  refine calls_W 20 Try.func90 rfl rfl rfl ?_
  refine W.seq ?_
  refine W.regS (SR.box (v := .agg (List.toArray _)) (l := [.int .i64 a.Id, .int .i64 a.Copies, .int .i64 a.Torn]) rfl rfl ?_)
  intro g1 w2 hg3 hk4 hs5 hb6
  have hz7 := hk4.size
  have hB8 := (Lo.refl w).lo hk4
  refine SR.box (v := .agg (List.toArray _)) (l := [.int .i64 b.Id, .int .i64 b.Copies, .int .i64 b.Torn]) rfl rfl ?_
  intro g9 w10 hg11 hk12 hs13 hb14
  have hz15 := hk12.size
  have hB16 := hB8.lo hk12
  refine SR.q' (r_as (v := .bool false) rfl) <| SR.nil ?_
  refine W.seq ?_
  refine W.seq ?_
  refine W.regS (SR.q' (r_fa fa73_0 rfl) <| SR.q' (r_ld (v := .int .i64 a.Id) sca3 rfl (((hb6).lo hk12).cell rfl)) <| SR.q' (r_fa fa73_0 rfl) <| SR.q' (r_ld (v := .int .i64 b.Id) sca3 rfl ((hb14).cell rfl)) <| SR.q' (r_ne rfl rfl) <| SR.nil ?_)
  refine W.cond_n rfl (fun h17 => ?_) (fun h17 => ?_)
  · refine W.seq ?_
    refine W.regS (SR.q' (r_as (v := .bool false) rfl) <| SR.nil ?_)
    refine W.ret ?_
    refine ret1 rfl (v := .bool _) rfl ?_
    exact ⟨eR (eDF (z_c_laws_eqMap_18 a b h17)), hB16⟩
  · refine W.skip ?_
    refine W.seq ?_
    refine W.seq ?_
    refine W.regS (SR.q' (r_fa fa73_1 rfl) <| SR.q' (r_ld (v := .int .i64 a.Copies) sca3 rfl (((hb6).lo hk12).cell rfl)) <| SR.q' (r_fa fa73_1 rfl) <| SR.q' (r_ld (v := .int .i64 b.Copies) sca3 rfl ((hb14).cell rfl)) <| SR.q' (r_ne rfl rfl) <| SR.nil ?_)
    refine W.cond_n rfl (fun h19 => ?_) (fun h19 => ?_)
    · refine W.seq ?_
      refine W.regS (SR.q' (r_as (v := .bool false) rfl) <| SR.nil ?_)
      refine W.ret ?_
      refine ret1 rfl (v := .bool _) rfl ?_
      exact ⟨eR (eDF (z_c_laws_eqMap_20 a b h17 h19)), hB16⟩
    · refine W.skip ?_
      refine W.seq ?_
      refine W.seq ?_
      refine W.regS (SR.q' (r_fa fa73_2 rfl) <| SR.q' (r_ld (v := .int .i64 a.Torn) sca3 rfl (((hb6).lo hk12).cell rfl)) <| SR.q' (r_fa fa73_2 rfl) <| SR.q' (r_ld (v := .int .i64 b.Torn) sca3 rfl ((hb14).cell rfl)) <| SR.q' (r_ne rfl rfl) <| SR.nil ?_)
      refine W.cond_n rfl (fun h21 => ?_) (fun h21 => ?_)
      · refine W.seq ?_
        refine W.regS (SR.q' (r_as (v := .bool false) rfl) <| SR.nil ?_)
        refine W.ret ?_
        refine ret1 rfl (v := .bool _) rfl ?_
        exact ⟨eR (eDF (z_c_laws_eqMap_22 a b h17 h19 h21)), hB16⟩
      · refine W.skip ?_
        refine W.seq ?_
        refine W.regS (SR.q' (r_as (v := .bool true) rfl) <| SR.nil ?_)
        refine W.ret ?_
        refine ret1 rfl (v := .bool _) rfl ?_
        exact ⟨eR (eDT (z_c_laws_eqMap_23 a b h17 h19 h21)), hB16⟩

theorem z_c_laws_eqMapS_2 (L : List LMap) (nL : Nat) (hbdL : (nL : Int) ≤ 9223372036854775807) (hleL : nL = L.length) (M : List LMap) (nM : Nat) (hbdM : (nM : Int) ≤ 9223372036854775807) (hleM : nM = M.length) (h1 : ¬ ((nL : Int) = (nM : Int))) : ¬ (L = M) := by
  first | (intro e; subst e; omega) | exact ne_at ‹L[_]? = some _› ‹M[_]? = some _› ‹_› | exact take_end (And.right ‹_ ∧ L.take _ = M.take _›) hleL hleM (by omega) ‹_›
theorem z_c_laws_eqMapS_3 (L : List LMap) (nL : Nat) (hbdL : (nL : Int) ≤ 9223372036854775807) (hleL : nL = L.length) (M : List LMap) (nM : Nat) (hbdM : (nM : Int) ≤ 9223372036854775807) (hleM : nM = M.length) (h1 : (nL : Int) = (nM : Int)) : 0 ≤ nL ∧ L.take 0 = M.take 0 := by
  simp
theorem z_c_laws_eqMapS_21 (L : List LMap) (nL : Nat) (hbdL : (nL : Int) ≤ 9223372036854775807) (hleL : nL = L.length) (M : List LMap) (nM : Nat) (hbdM : (nM : Int) ≤ 9223372036854775807) (hleM : nM = M.length) (h1 : (nL : Int) = (nM : Int)) (k : Nat) (hi10 : k ≤ nL ∧ L.take k = M.take k) (h11 : (k : Int) < (nL : Int)) (x12 : LMap) (hx13 : L[k]? = some x12) (x14 : LMap) (hx15 : M[k]? = some x14) (h20 : ¬ (x12 = x14)) : ¬ (L = M) := by
  first | (intro e; subst e; omega) | exact ne_at ‹L[_]? = some _› ‹M[_]? = some _› ‹_› | exact take_end (And.right ‹_ ∧ L.take _ = M.take _›) hleL hleM (by omega) ‹_›
theorem z_c_laws_eqMapS_22 (L : List LMap) (nL : Nat) (hbdL : (nL : Int) ≤ 9223372036854775807) (hleL : nL = L.length) (M : List LMap) (nM : Nat) (hbdM : (nM : Int) ≤ 9223372036854775807) (hleM : nM = M.length) (h1 : (nL : Int) = (nM : Int)) (k : Nat) (hi10 : k ≤ nL ∧ L.take k = M.take k) (h11 : (k : Int) < (nL : Int)) (x12 : LMap) (hx13 : L[k]? = some x12) (x14 : LMap) (hx15 : M[k]? = some x14) (h20 : x12 = x14) : k + 1 ≤ nL ∧ L.take (k + 1) = M.take (k + 1) := by
  exact ⟨by omega, take_next (And.right ‹_ ∧ L.take _ = M.take _›) ‹L[_]? = some _› ‹M[_]? = some _› ‹_›⟩
theorem z_c_laws_eqMapS_23 (L : List LMap) (nL : Nat) (hbdL : (nL : Int) ≤ 9223372036854775807) (hleL : nL = L.length) (M : List LMap) (nM : Nat) (hbdM : (nM : Int) ≤ 9223372036854775807) (hleM : nM = M.length) (h1 : (nL : Int) = (nM : Int)) (k : Nat) (hi10 : k ≤ nL ∧ L.take k = M.take k) (h11 : (k : Int) < (nL : Int)) (x12 : LMap) (hx13 : L[k]? = some x12) (x14 : LMap) (hx15 : M[k]? = some x14) (h20 : x12 = x14) : nL - (k + 1) < nL - k := by
  omega
theorem z_c_laws_eqMapS_24 (L : List LMap) (nL : Nat) (hbdL : (nL : Int) ≤ 9223372036854775807) (hleL : nL = L.length) (M : List LMap) (nM : Nat) (hbdM : (nM : Int) ≤ 9223372036854775807) (hleM : nM = M.length) (h1 : (nL : Int) = (nM : Int)) (k : Nat) (hi10 : k ≤ nL ∧ L.take k = M.take k) (h11 : ¬ ((k : Int) < (nL : Int))) : L = M := by
  first | (intro e; subst e; omega) | exact ne_at ‹L[_]? = some _› ‹M[_]? = some _› ‹_› | exact take_end (And.right ‹_ ∧ L.take _ = M.take _›) hleL hleM (by omega) ‹_›
theorem c_laws_eqMapS (w : World) {AL : Option Addr} {nL cL BL : Nat}  (L : List LMap) (hL : SlR w BL encLMap 3 AL nL cL L) {AM : Option Addr} {nM cM BM : Nat}  (M : List LMap) (hM : SlR w BM encLMap 3 AM nM cM M) : Calls Try.prog 58 #[.slice AL nL cL, .slice AM nM cM] w fun e w' => e = .returned (.bool (decide (L = M))) ∧ Lo w w' := by
  refine calls_W 27 Try.func58 rfl rfl rfl ?_
  have hbdL := hL.bound
  have hleL := hL.len
  have hBbL := hL.bd
  have hbdM := hM.bound
  have hleM := hM.len
  have hBbM := hM.bd
  refine W.seq ?_
  refine W.regS (SR.q' (r_as (v := .bool false) rfl) <| SR.nil ?_)
  refine W.seq ?_
  refine W.seq ?_
  refine W.regS (SR.q' (r_mv (v := .slice _ _ _) rfl) <| SR.q' (r_len und28 rfl) <| SR.q' (r_mv (v := .slice _ _ _) rfl) <| SR.q' (r_len und28 rfl) <| SR.q' (r_ne rfl rfl) <| SR.nil ?_)
  refine W.cond_n rfl (fun h1 => ?_) (fun h1 => ?_)
  · refine W.seq ?_
    refine W.regS (SR.q' (r_as (v := .bool false) rfl) <| SR.nil ?_)
    refine W.ret ?_
    refine ret1 rfl (v := .bool _) rfl ?_
    exact ⟨eR (eDF (z_c_laws_eqMapS_2 L nL hbdL hleL M nM hbdM hleM h1)), (Lo.refl w)⟩
  · refine W.skip ?_
    refine W.seq ?_
    refine W.seq ?_
    refine W.regS (SR.q' (r_as (v := .int .i64 0) rfl) <| SR.nil ?_)
    refine W.block ?_
    refine W.loop (σ := Nat) (fun g => [(0, .slice AL nL cL), (1, .slice AM nM cM), (5, .int .i64 (g : Int))]) (fun g w' => (Lo w w') ∧ (SlR w' BL encLMap 3 AL nL cL L) ∧ (SlR w' BM encLMap 3 AM nM cM M) ∧ (g ≤ nL ∧ L.take g = M.take g)) (fun g => nL - g) 0 ?_ ?_ ?_
    · exact ⟨rfl, rfl, rfl, trivial⟩
    · exact ⟨(Lo.refl w), hL, hM, (z_c_laws_eqMapS_3 L nL hbdL hleL M nM hbdM hleM h1)⟩
    · rintro k f4 w5 hP7
      obtain ⟨hB6, hm8, hm9, hi10⟩ : (Lo w w5) ∧ (SlR w5 BL encLMap 3 AL nL cL L) ∧ (SlR w5 BM encLMap 3 AM nM cM M) ∧ (k ≤ nL ∧ L.take k = M.take k) := hP7
      refine (?_ : W _ _ _ _ _ (act _ (sets f4 [(0, .slice AL nL cL), (1, .slice AM nM cM), (5, .int .i64 (k : Int))])) _)
      have hzw5 := hB6.size
      refine W.seq ?_
      refine W.seq ?_
      refine W.regS (SR.q' (r_mv (v := .int .i64 _) rfl) <| SR.q' (r_mv (v := .slice _ _ _) rfl) <| SR.q' (r_len und28 rfl) <| SR.q' (r_lt rfl rfl) <| SR.nil ?_)
      refine W.cond_d rfl (fun h11 => ?_) (fun h11 => ?_)
      · refine W.skip ?_
        refine W.seq ?_
        refine W.block ?_
        refine W.seq ?_
        refine W.regD mo (by kernel_rfl) (QR.q' (fun w' hw' => r_mv (v := .slice _ _ _) rfl) <| QR.q' (fun w' hw' => r_mv (v := .int .i64 _) rfl) <| ?_)
        obtain ⟨x12, hx13⟩ := (hm8).get (i := k) (by omega)
        refine QR.q' (fun w' hw' => r_ixR tsl28 (((hm8).lo hw')) rfl rfl (by omega)) <| QR.q' (fun w' hw' => r_lda (l := encLMap x12) agg73 rfl (fun _ _ hu => (((hm8).lo hw')).cell hx13 hu) ((((hm8).lo hw')).esz _)) <| QR.q' (fun w' hw' => r_mv (v := .slice _ _ _) rfl) <| QR.q' (fun w' hw' => r_mv (v := .int .i64 _) rfl) <| ?_
        obtain ⟨x14, hx15⟩ := (hm9).get (i := k) (by omega)
        refine QR.q' (fun w' hw' => r_ixR tsl28 (((hm9).lo hw')) rfl rfl (by omega)) <| QR.q' (fun w' hw' => r_lda (l := encLMap x14) agg73 rfl (fun _ _ hu => (((hm9).lo hw')).cell hx15 hu) ((((hm9).lo hw')).esz _)) <| QR.call ent90 (fun w' hw' => (c_laws_eqMap w' x12 x14).mono fun _ _ h => ⟨h.1, hw'.trans h.2⟩) rfl <| QR.q' (fun w' hw' => r_not rfl) <| QR.nil ?_
        intro w16 hk17
        have hz18 := hk17.size
        have hB19 := hB6.lo hk17
        refine W.cond_n rfl (fun h20 => ?_) (fun h20 => ?_)
        · refine W.seq ?_
          refine W.regS (SR.q' (r_as (v := .bool false) rfl) <| SR.nil ?_)
          refine W.ret ?_
          refine ret1 rfl (v := .bool _) rfl ?_
          exact ⟨eR (eDF (z_c_laws_eqMapS_21 L nL hbdL hleL M nM hbdM hleM h1 k hi10 h11 x12 hx13 x14 hx15 h20)), hB19⟩
        · refine W.skip ?_
          refine W.regS (SR.q' (r_mv (v := .int .i64 _) rfl) <| SR.q' (r_add rfl rfl (by omega)) <| SR.q' (r_as (v := .int .i64 _) rfl) <| SR.nil ?_)
          refine ⟨k + 1, _, rfl, ⟨rfl, rfl, rfl, trivial⟩, ⟨hB19, (hm8).lo hk17, (hm9).lo hk17, ?_⟩, ?_⟩
          · exact (z_c_laws_eqMapS_22 L nL hbdL hleL M nM hbdM hleM h1 k hi10 h11 x12 hx13 x14 hx15 h20)
          · exact (z_c_laws_eqMapS_23 L nL hbdL hleL M nM hbdM hleM h1 k hi10 h11 x12 hx13 x14 hx15 h20)
      · refine W.exit (xin_here ?_)
        refine W.seq ?_
        refine W.regS (SR.q' (r_as (v := .bool true) rfl) <| SR.nil ?_)
        refine W.ret ?_
        refine ret1 rfl (v := .bool _) rfl ?_
        exact ⟨eR (eDT (z_c_laws_eqMapS_24 L nL hbdL hleL M nM hbdM hleM h1 k hi10 h11)), hB6⟩

theorem z_c_laws_markMapS_1 (L : List LMap) (nL : Nat) (hbdL : (nL : Int) ≤ 9223372036854775807) (hleL : nL = L.length) (k : Int) (hp0 : 0 ≤ k) (hp1 : k ≤ 1000000000) (hp2 : (nL : Int) ≤ 1048576) : 0 ≤ nL := by
  omega
theorem z_c_laws_markMapS_2 (L : List LMap) (nL : Nat) (hbdL : (nL : Int) ≤ 9223372036854775807) (hleL : nL = L.length) (k : Int) (hp0 : 0 ≤ k) (hp1 : k ≤ 1000000000) (hp2 : (nL : Int) ≤ 1048576) : L = mkL mkLMap 3 0 k ++ L.drop 0 := by
  exact mkL_init
theorem z_c_laws_markMapS_33 (L : List LMap) (nL : Nat) (hbdL : (nL : Int) ≤ 9223372036854775807) (hleL : nL = L.length) (k : Int) (hp0 : 0 ≤ k) (hp1 : k ≤ 1000000000) (hp2 : (nL : Int) ≤ 1048576) (i : Nat) (hi8 : i ≤ nL) (h9 : (i : Int) < (nL : Int)) (x10 : LMap) (hx11 : (mkL mkLMap 3 i k ++ L.drop i)[i]? = some x10) : (mkL mkLMap 3 i k ++ L.drop i).set ((i : Int).toNat) ({ ({ ({ x10 with Id := k + 3 * (i : Int) }) with Copies := (k + 3 * (i : Int)) + 1 }) with Torn := ((k + 3 * (i : Int)) + 1) + 1 }) = mkL mkLMap 3 (i + 1) k ++ L.drop (i + 1) := by
  exact mkL_set (by omega) (by first | (simp [mkLMap]; done) | (simp [mkLMap]; omega))
theorem z_c_laws_markMapS_34 (L : List LMap) (nL : Nat) (hbdL : (nL : Int) ≤ 9223372036854775807) (hleL : nL = L.length) (k : Int) (hp0 : 0 ≤ k) (hp1 : k ≤ 1000000000) (hp2 : (nL : Int) ≤ 1048576) (i : Nat) (hi8 : i ≤ nL) (h9 : (i : Int) < (nL : Int)) (x10 : LMap) (hx11 : (mkL mkLMap 3 i k ++ L.drop i)[i]? = some x10) : i + 1 ≤ nL := by
  omega
theorem z_c_laws_markMapS_35 (L : List LMap) (nL : Nat) (hbdL : (nL : Int) ≤ 9223372036854775807) (hleL : nL = L.length) (k : Int) (hp0 : 0 ≤ k) (hp1 : k ≤ 1000000000) (hp2 : (nL : Int) ≤ 1048576) (i : Nat) (hi8 : i ≤ nL) (h9 : (i : Int) < (nL : Int)) (x10 : LMap) (hx11 : (mkL mkLMap 3 i k ++ L.drop i)[i]? = some x10) : nL - (i + 1) < nL - i := by
  omega
theorem z_c_laws_markMapS_36 (L : List LMap) (nL : Nat) (hbdL : (nL : Int) ≤ 9223372036854775807) (hleL : nL = L.length) (k : Int) (hp0 : 0 ≤ k) (hp1 : k ≤ 1000000000) (hp2 : (nL : Int) ≤ 1048576) (i : Nat) (hi8 : i ≤ nL) (h9 : ¬ ((i : Int) < (nL : Int))) : k + 3 * (i : Int) = k + 3 * (L.length : Int) := by
  first | omega | exact mkL_end hleL (by assumption) (by omega)
theorem z_c_laws_markMapS_37 (L : List LMap) (nL : Nat) (hbdL : (nL : Int) ≤ 9223372036854775807) (hleL : nL = L.length) (k : Int) (hp0 : 0 ≤ k) (hp1 : k ≤ 1000000000) (hp2 : (nL : Int) ≤ 1048576) (i : Nat) (hi8 : i ≤ nL) (h9 : ¬ ((i : Int) < (nL : Int))) : mkL mkLMap 3 i k ++ L.drop i = mkL mkLMap 3 L.length k := by
  first | omega | exact mkL_end hleL (by assumption) (by omega)
theorem c_laws_markMapS (w : World) {AL : Option Addr} {nL cL BL : Nat}  (L : List LMap) (hL : SlO w BL encLMap 3 73 AL nL cL L) (k : Int) (hp0 : 0 ≤ k) (hp1 : k ≤ 1000000000) (hp2 : (nL : Int) ≤ 1048576) : Calls Try.prog 62 #[.slice AL nL cL, .int .i64 k] w fun e w' => e = .returned (.int .i64 (k + 3 * (L.length : Int))) ∧ SlO w' BL encLMap 3 73 AL nL cL (mkL mkLMap 3 L.length k) ∧ Kp (fun b_ => AL = some ⟨b_, 0, none⟩) w w' := by
  refine calls_W 34 Try.func62 rfl rfl rfl ?_
  have hbdL := hL.rd.bound
  have hleL := hL.len
  have hBbL := hL.bd
  refine W.seq ?_
  refine W.regS (SR.q' (r_as (v := .int .i64 0) rfl) <| SR.nil ?_)
  refine W.seq ?_
  refine W.seq ?_
  refine W.regS (SR.q' (r_as (v := .int .i64 0) rfl) <| SR.nil ?_)
  refine W.block ?_
  refine W.loop (σ := Nat) (fun g => [(0, .slice AL nL cL), (1, .int .i64 (k + 3 * (g : Int))), (4, .int .i64 0), (5, .int .i64 (g : Int))]) (fun g w' => (Kp (fun b_ => AL = some ⟨b_, 0, none⟩) w w') ∧ (SlO w' BL encLMap 3 73 AL nL cL (mkL mkLMap 3 g k ++ L.drop g)) ∧ (g ≤ nL)) (fun g => nL - g) 0 ?_ ?_ ?_
  · exact ⟨rfl, (eI (by first | omega | (dsimp only; omega))), rfl, (eI (by first | omega | (dsimp only; omega))), trivial⟩
  · exact ⟨(Kp.refl w : Kp (fun b_ => AL = some ⟨b_, 0, none⟩) w w), (SlO.eqv (hL) (z_c_laws_markMapS_2 L nL hbdL hleL k hp0 hp1 hp2)), (z_c_laws_markMapS_1 L nL hbdL hleL k hp0 hp1 hp2)⟩
  · rintro i f3 w4 hP6
    obtain ⟨hB5, hm7, hi8⟩ : (Kp (fun b_ => AL = some ⟨b_, 0, none⟩) w w4) ∧ (SlO w4 BL encLMap 3 73 AL nL cL (mkL mkLMap 3 i k ++ L.drop i)) ∧ (i ≤ nL) := hP6
    refine (?_ : W _ _ _ _ _ (act _ (sets f3 [(0, .slice AL nL cL), (1, .int .i64 (k + 3 * (i : Int))), (4, .int .i64 0), (5, .int .i64 (i : Int))])) _)
    have hzw4 := hB5.size
    refine W.seq ?_
    refine W.seq ?_
    refine W.regS (SR.q' (r_mv (v := .int .i64 _) rfl) <| SR.q' (r_mv (v := .slice _ _ _) rfl) <| SR.q' (r_len und28 rfl) <| SR.q' (r_lt rfl rfl) <| SR.nil ?_)
    refine W.cond_d rfl (fun h9 => ?_) (fun h9 => ?_)
    · refine W.skip ?_
      refine W.seq ?_
      refine W.block ?_
      refine W.seq ?_
      refine W.regS (SR.q' (r_mv (v := .slice _ _ _) rfl) <| SR.q' (r_mv (v := .int .i64 _) rfl) <| SR.q' (r_mv (v := .int .i64 _) rfl) <| ?_)
      obtain ⟨x10, hx11⟩ := ((hm7).rd).get (i := i) (by omega)
      refine SR.q' (r_ixR tsl28 ((hm7).rd) rfl rfl (by omega)) <| SR.q' (r_fa fa73_0 rfl) <| SR.storeO (o := 0) (vs := [.int .i64 (k + 3 * (i : Int))]) (x1 := { x10 with Id := k + 3 * (i : Int) }) sca3.2 rfl (add_add _ _ _) rfl rfl (hm7) hx11 rfl (Nat.le_of_ble_eq_true rfl) rfl ?_
      intro w12 hk13 hs14 hO15
      have hz16 := hk13.size
      have hB17 := hB5.step hk13 (fun i_ hi_ e' => by have := ((hm7)).base_le e'; first | omega | (exfalso; omega) | exact e' | exact .inl e' | exact .inr e')
      have hx18 : ((mkL mkLMap 3 i k ++ L.drop i).set ((i : Int).toNat) ({ x10 with Id := k + 3 * (i : Int) }))[(i : Int).toNat]? = some ({ x10 with Id := k + 3 * (i : Int) }) := List.getElem?_set_self (List.getElem?_eq_some_iff.1 hx11).1
      refine SR.nil ?_
      refine W.seq ?_
      refine W.regS (SR.q' (r_mv (v := .int .i64 _) rfl) <| SR.q' (r_add rfl rfl (by omega)) <| SR.q' (r_as (v := .int .i64 _) rfl) <| SR.nil ?_)
      refine W.seq ?_
      refine W.regS (SR.q' (r_mv (v := .slice _ _ _) rfl) <| SR.q' (r_mv (v := .int .i64 _) rfl) <| SR.q' (r_mv (v := .int .i64 _) rfl) <| SR.q' (r_ixR tsl28 ((hO15).rd) rfl rfl (by omega)) <| SR.q' (r_fa fa73_1 rfl) <| SR.storeO (o := 1) (vs := [.int .i64 ((k + 3 * (i : Int)) + 1)]) (x1 := { ({ x10 with Id := k + 3 * (i : Int) }) with Copies := (k + 3 * (i : Int)) + 1 }) sca3.2 rfl (add_add _ _ _) rfl rfl (hO15) hx18 rfl (Nat.le_of_ble_eq_true rfl) rfl ?_)
      intro w19 hk20 hs21 hO22
      have hz23 := hk20.size
      have hB24 := hB17.step hk20 (fun i_ hi_ e' => by have := ((hO15)).base_le e'; first | omega | (exfalso; omega) | exact e' | exact .inl e' | exact .inr e')
      rw [List.set_set] at hO22
      have hx25 : ((mkL mkLMap 3 i k ++ L.drop i).set ((i : Int).toNat) ({ ({ x10 with Id := k + 3 * (i : Int) }) with Copies := (k + 3 * (i : Int)) + 1 }))[(i : Int).toNat]? = some ({ ({ x10 with Id := k + 3 * (i : Int) }) with Copies := (k + 3 * (i : Int)) + 1 }) := List.getElem?_set_self (List.getElem?_eq_some_iff.1 hx11).1
      refine SR.nil ?_
      refine W.seq ?_
      refine W.regS (SR.q' (r_mv (v := .int .i64 _) rfl) <| SR.q' (r_add rfl rfl (by omega)) <| SR.q' (r_as (v := .int .i64 _) rfl) <| SR.nil ?_)
      refine W.seq ?_
      refine W.regS (SR.q' (r_mv (v := .slice _ _ _) rfl) <| SR.q' (r_mv (v := .int .i64 _) rfl) <| SR.q' (r_mv (v := .int .i64 _) rfl) <| SR.q' (r_ixR tsl28 ((hO22).rd) rfl rfl (by omega)) <| SR.q' (r_fa fa73_2 rfl) <| SR.storeO (o := 2) (vs := [.int .i64 (((k + 3 * (i : Int)) + 1) + 1)]) (x1 := { ({ ({ x10 with Id := k + 3 * (i : Int) }) with Copies := (k + 3 * (i : Int)) + 1 }) with Torn := ((k + 3 * (i : Int)) + 1) + 1 }) sca3.2 rfl (add_add _ _ _) rfl rfl (hO22) hx25 rfl (Nat.le_of_ble_eq_true rfl) rfl ?_)
      intro w26 hk27 hs28 hO29
      have hz30 := hk27.size
      have hB31 := hB24.step hk27 (fun i_ hi_ e' => by have := ((hO22)).base_le e'; first | omega | (exfalso; omega) | exact e' | exact .inl e' | exact .inr e')
      rw [List.set_set] at hO29
      have hx32 : ((mkL mkLMap 3 i k ++ L.drop i).set ((i : Int).toNat) ({ ({ ({ x10 with Id := k + 3 * (i : Int) }) with Copies := (k + 3 * (i : Int)) + 1 }) with Torn := ((k + 3 * (i : Int)) + 1) + 1 }))[(i : Int).toNat]? = some ({ ({ ({ x10 with Id := k + 3 * (i : Int) }) with Copies := (k + 3 * (i : Int)) + 1 }) with Torn := ((k + 3 * (i : Int)) + 1) + 1 }) := List.getElem?_set_self (List.getElem?_eq_some_iff.1 hx11).1
      refine SR.nil ?_
      refine W.regS (SR.q' (r_mv (v := .int .i64 _) rfl) <| SR.q' (r_add rfl rfl (by omega)) <| SR.q' (r_as (v := .int .i64 _) rfl) <| SR.nil ?_)
      refine W.regS (SR.q' (r_mv (v := .int .i64 _) rfl) <| SR.q' (r_add rfl rfl (by omega)) <| SR.q' (r_as (v := .int .i64 _) rfl) <| SR.nil ?_)
      refine ⟨i + 1, _, rfl, ⟨rfl, (eI (by first | omega | (dsimp only; omega))), rfl, (eI (by first | omega | (dsimp only; omega))), trivial⟩, ⟨hB31, (SlO.eqv (hO29) (z_c_laws_markMapS_33 L nL hbdL hleL k hp0 hp1 hp2 i hi8 h9 x10 hx11)), ?_⟩, ?_⟩
      · exact (z_c_laws_markMapS_34 L nL hbdL hleL k hp0 hp1 hp2 i hi8 h9 x10 hx11)
      · exact (z_c_laws_markMapS_35 L nL hbdL hleL k hp0 hp1 hp2 i hi8 h9 x10 hx11)
    · refine W.exit (xin_here ?_)
      refine W.seq ?_
      refine W.regS (SR.q' (r_mv (v := .int .i64 _) rfl) <| SR.q' (r_as (v := .int .i64 _) rfl) <| SR.nil ?_)
      refine W.ret ?_
      refine ret1 rfl (v := .int .i64 _) rfl ?_
      exact ⟨eR (eI (z_c_laws_markMapS_36 L nL hbdL hleL k hp0 hp1 hp2 i hi8 h9)), (SlO.eqv (hm7) (z_c_laws_markMapS_37 L nL hbdL hleL k hp0 hp1 hp2 i hi8 h9)), hB5⟩

theorem z_c_laws_heldMapS_1 (L : List LMap) (nL : Nat) (hbdL : (nL : Int) ≤ 9223372036854775807) (hleL : nL = L.length) (k : Int) (m : Nat) (hp0 : 0 ≤ k) (hp1 : k ≤ 1000000000) (hp2 : (nL : Int) ≤ 1048576) (hp3 : L = mkL mkLMap 3 m k) : 0 ≤ nL := by
  omega
theorem z_c_laws_heldMapS_12 (L : List LMap) (nL : Nat) (hbdL : (nL : Int) ≤ 9223372036854775807) (hleL : nL = L.length) (k : Int) (m : Nat) (hp0 : 0 ≤ k) (hp1 : k ≤ 1000000000) (hp2 : (nL : Int) ≤ 1048576) (hp3 : L = mkL mkLMap 3 m k) (i : Nat) (hi7 : i ≤ nL) (h8 : (i : Int) < (nL : Int)) (x9 : LMap) (hx10 : L[i]? = some x9) (h11 : ¬ (x9.Id = (k + 3 * (i : Int)))) : (-1) = k + 3 * (m : Int) := by
  first | omega | (rw [hp3, mkL_len] at hleL; omega) | (exfalso; subst hp3; obtain rfl := mkL_get ‹_[_]? = some _›; first | (simp_all [mkLMap]; done) | (simp only [mkLMap] at *; omega))
theorem z_c_laws_heldMapS_14 (L : List LMap) (nL : Nat) (hbdL : (nL : Int) ≤ 9223372036854775807) (hleL : nL = L.length) (k : Int) (m : Nat) (hp0 : 0 ≤ k) (hp1 : k ≤ 1000000000) (hp2 : (nL : Int) ≤ 1048576) (hp3 : L = mkL mkLMap 3 m k) (i : Nat) (hi7 : i ≤ nL) (h8 : (i : Int) < (nL : Int)) (x9 : LMap) (hx10 : L[i]? = some x9) (h11 : x9.Id = (k + 3 * (i : Int))) (h13 : ¬ (x9.Copies = ((k + 3 * (i : Int)) + 1))) : (-1) = k + 3 * (m : Int) := by
  first | omega | (rw [hp3, mkL_len] at hleL; omega) | (exfalso; subst hp3; obtain rfl := mkL_get ‹_[_]? = some _›; first | (simp_all [mkLMap]; done) | (simp only [mkLMap] at *; omega))
theorem z_c_laws_heldMapS_16 (L : List LMap) (nL : Nat) (hbdL : (nL : Int) ≤ 9223372036854775807) (hleL : nL = L.length) (k : Int) (m : Nat) (hp0 : 0 ≤ k) (hp1 : k ≤ 1000000000) (hp2 : (nL : Int) ≤ 1048576) (hp3 : L = mkL mkLMap 3 m k) (i : Nat) (hi7 : i ≤ nL) (h8 : (i : Int) < (nL : Int)) (x9 : LMap) (hx10 : L[i]? = some x9) (h11 : x9.Id = (k + 3 * (i : Int))) (h13 : x9.Copies = ((k + 3 * (i : Int)) + 1)) (h15 : ¬ (x9.Torn = (((k + 3 * (i : Int)) + 1) + 1))) : (-1) = k + 3 * (m : Int) := by
  first | omega | (rw [hp3, mkL_len] at hleL; omega) | (exfalso; subst hp3; obtain rfl := mkL_get ‹_[_]? = some _›; first | (simp_all [mkLMap]; done) | (simp only [mkLMap] at *; omega))
theorem z_c_laws_heldMapS_17 (L : List LMap) (nL : Nat) (hbdL : (nL : Int) ≤ 9223372036854775807) (hleL : nL = L.length) (k : Int) (m : Nat) (hp0 : 0 ≤ k) (hp1 : k ≤ 1000000000) (hp2 : (nL : Int) ≤ 1048576) (hp3 : L = mkL mkLMap 3 m k) (i : Nat) (hi7 : i ≤ nL) (h8 : (i : Int) < (nL : Int)) (x9 : LMap) (hx10 : L[i]? = some x9) (h11 : x9.Id = (k + 3 * (i : Int))) (h13 : x9.Copies = ((k + 3 * (i : Int)) + 1)) (h15 : x9.Torn = (((k + 3 * (i : Int)) + 1) + 1)) : i + 1 ≤ nL := by
  omega
theorem z_c_laws_heldMapS_18 (L : List LMap) (nL : Nat) (hbdL : (nL : Int) ≤ 9223372036854775807) (hleL : nL = L.length) (k : Int) (m : Nat) (hp0 : 0 ≤ k) (hp1 : k ≤ 1000000000) (hp2 : (nL : Int) ≤ 1048576) (hp3 : L = mkL mkLMap 3 m k) (i : Nat) (hi7 : i ≤ nL) (h8 : (i : Int) < (nL : Int)) (x9 : LMap) (hx10 : L[i]? = some x9) (h11 : x9.Id = (k + 3 * (i : Int))) (h13 : x9.Copies = ((k + 3 * (i : Int)) + 1)) (h15 : x9.Torn = (((k + 3 * (i : Int)) + 1) + 1)) : nL - (i + 1) < nL - i := by
  omega
theorem z_c_laws_heldMapS_19 (L : List LMap) (nL : Nat) (hbdL : (nL : Int) ≤ 9223372036854775807) (hleL : nL = L.length) (k : Int) (m : Nat) (hp0 : 0 ≤ k) (hp1 : k ≤ 1000000000) (hp2 : (nL : Int) ≤ 1048576) (hp3 : L = mkL mkLMap 3 m k) (i : Nat) (hi7 : i ≤ nL) (h8 : ¬ ((i : Int) < (nL : Int))) : k + 3 * (i : Int) = k + 3 * (m : Int) := by
  first | omega | (rw [hp3, mkL_len] at hleL; omega) | (exfalso; subst hp3; obtain rfl := mkL_get ‹_[_]? = some _›; first | (simp_all [mkLMap]; done) | (simp only [mkLMap] at *; omega))
theorem c_laws_heldMapS (w : World) {AL : Option Addr} {nL cL BL : Nat}  (L : List LMap) (hL : SlR w BL encLMap 3 AL nL cL L) (k : Int) (m : Nat) (hp0 : 0 ≤ k) (hp1 : k ≤ 1000000000) (hp2 : (nL : Int) ≤ 1048576) (hp3 : L = mkL mkLMap 3 m k) : Calls Try.prog 70 #[.slice AL nL cL, .int .i64 k] w fun e w' => e = .returned (.int .i64 (k + 3 * (m : Int))) ∧ Lo w w' := by
  refine calls_W 40 Try.func70 rfl rfl rfl ?_
  have hbdL := hL.bound
  have hleL := hL.len
  have hBbL := hL.bd
  refine W.seq ?_
  refine W.regS (SR.q' (r_as (v := .int .i64 0) rfl) <| SR.nil ?_)
  refine W.seq ?_
  refine W.seq ?_
  refine W.regS (SR.q' (r_as (v := .int .i64 0) rfl) <| SR.nil ?_)
  refine W.block ?_
  refine W.loop (σ := Nat) (fun g => [(0, .slice AL nL cL), (1, .int .i64 (k + 3 * (g : Int))), (5, .int .i64 (g : Int))]) (fun g w' => (Lo w w') ∧ (SlR w' BL encLMap 3 AL nL cL L) ∧ (g ≤ nL)) (fun g => nL - g) 0 ?_ ?_ ?_
  · exact ⟨rfl, (eI (by first | omega | (dsimp only; omega))), (eI (by first | omega | (dsimp only; omega))), trivial⟩
  · exact ⟨(Lo.refl w), hL, (z_c_laws_heldMapS_1 L nL hbdL hleL k m hp0 hp1 hp2 hp3)⟩
  · rintro i f2 w3 hP5
    obtain ⟨hB4, hm6, hi7⟩ : (Lo w w3) ∧ (SlR w3 BL encLMap 3 AL nL cL L) ∧ (i ≤ nL) := hP5
    refine (?_ : W _ _ _ _ _ (act _ (sets f2 [(0, .slice AL nL cL), (1, .int .i64 (k + 3 * (i : Int))), (5, .int .i64 (i : Int))])) _)
    have hzw3 := hB4.size
    refine W.seq ?_
    refine W.seq ?_
    refine W.regS (SR.q' (r_mv (v := .int .i64 _) rfl) <| SR.q' (r_mv (v := .slice _ _ _) rfl) <| SR.q' (r_len und28 rfl) <| SR.q' (r_lt rfl rfl) <| SR.nil ?_)
    refine W.cond_d rfl (fun h8 => ?_) (fun h8 => ?_)
    · refine W.skip ?_
      refine W.seq ?_
      refine W.block ?_
      refine W.seq ?_
      refine W.seq ?_
      refine W.regS (SR.q' (r_mv (v := .slice _ _ _) rfl) <| SR.q' (r_mv (v := .int .i64 _) rfl) <| ?_)
      obtain ⟨x9, hx10⟩ := (hm6).get (i := i) (by omega)
      refine SR.q' (r_ixR tsl28 (hm6) rfl rfl (by omega)) <| SR.q' (r_fa fa73_0 rfl) <| SR.q' (r_ld (v := .int .i64 x9.Id) sca3 rfl ((hm6).cell hx10 rfl)) <| SR.q' (r_mv (v := .int .i64 _) rfl) <| SR.q' (r_ne rfl rfl) <| SR.nil ?_
      refine W.cond_n rfl (fun h11 => ?_) (fun h11 => ?_)
      · refine W.seq ?_
        refine W.regS (SR.q' (r_as (v := .int .i64 (-1)) rfl) <| SR.nil ?_)
        refine W.ret ?_
        refine ret1 rfl (v := .int .i64 _) rfl ?_
        exact ⟨eR (eI (z_c_laws_heldMapS_12 L nL hbdL hleL k m hp0 hp1 hp2 hp3 i hi7 h8 x9 hx10 h11)), hB4⟩
      · refine W.skip ?_
        refine W.seq ?_
        refine W.regS (SR.q' (r_mv (v := .int .i64 _) rfl) <| SR.q' (r_add rfl rfl (by omega)) <| SR.q' (r_as (v := .int .i64 _) rfl) <| SR.nil ?_)
        refine W.seq ?_
        refine W.seq ?_
        refine W.regS (SR.q' (r_mv (v := .slice _ _ _) rfl) <| SR.q' (r_mv (v := .int .i64 _) rfl) <| SR.q' (r_ixR tsl28 (hm6) rfl rfl (by omega)) <| SR.q' (r_fa fa73_1 rfl) <| SR.q' (r_ld (v := .int .i64 x9.Copies) sca3 rfl ((hm6).cell hx10 rfl)) <| SR.q' (r_mv (v := .int .i64 _) rfl) <| SR.q' (r_ne rfl rfl) <| SR.nil ?_)
        refine W.cond_n rfl (fun h13 => ?_) (fun h13 => ?_)
        · refine W.seq ?_
          refine W.regS (SR.q' (r_as (v := .int .i64 (-1)) rfl) <| SR.nil ?_)
          refine W.ret ?_
          refine ret1 rfl (v := .int .i64 _) rfl ?_
          exact ⟨eR (eI (z_c_laws_heldMapS_14 L nL hbdL hleL k m hp0 hp1 hp2 hp3 i hi7 h8 x9 hx10 h11 h13)), hB4⟩
        · refine W.skip ?_
          refine W.seq ?_
          refine W.regS (SR.q' (r_mv (v := .int .i64 _) rfl) <| SR.q' (r_add rfl rfl (by omega)) <| SR.q' (r_as (v := .int .i64 _) rfl) <| SR.nil ?_)
          refine W.seq ?_
          refine W.seq ?_
          refine W.regS (SR.q' (r_mv (v := .slice _ _ _) rfl) <| SR.q' (r_mv (v := .int .i64 _) rfl) <| SR.q' (r_ixR tsl28 (hm6) rfl rfl (by omega)) <| SR.q' (r_fa fa73_2 rfl) <| SR.q' (r_ld (v := .int .i64 x9.Torn) sca3 rfl ((hm6).cell hx10 rfl)) <| SR.q' (r_mv (v := .int .i64 _) rfl) <| SR.q' (r_ne rfl rfl) <| SR.nil ?_)
          refine W.cond_n rfl (fun h15 => ?_) (fun h15 => ?_)
          · refine W.seq ?_
            refine W.regS (SR.q' (r_as (v := .int .i64 (-1)) rfl) <| SR.nil ?_)
            refine W.ret ?_
            refine ret1 rfl (v := .int .i64 _) rfl ?_
            exact ⟨eR (eI (z_c_laws_heldMapS_16 L nL hbdL hleL k m hp0 hp1 hp2 hp3 i hi7 h8 x9 hx10 h11 h13 h15)), hB4⟩
          · refine W.skip ?_
            refine W.regS (SR.q' (r_mv (v := .int .i64 _) rfl) <| SR.q' (r_add rfl rfl (by omega)) <| SR.q' (r_as (v := .int .i64 _) rfl) <| SR.nil ?_)
            refine W.regS (SR.q' (r_mv (v := .int .i64 _) rfl) <| SR.q' (r_add rfl rfl (by omega)) <| SR.q' (r_as (v := .int .i64 _) rfl) <| SR.nil ?_)
            refine ⟨i + 1, _, rfl, ⟨rfl, (eI (by first | omega | (dsimp only; omega))), (eI (by first | omega | (dsimp only; omega))), trivial⟩, ⟨hB4, hm6, ?_⟩, ?_⟩
            · exact (z_c_laws_heldMapS_17 L nL hbdL hleL k m hp0 hp1 hp2 hp3 i hi7 h8 x9 hx10 h11 h13 h15)
            · exact (z_c_laws_heldMapS_18 L nL hbdL hleL k m hp0 hp1 hp2 hp3 i hi7 h8 x9 hx10 h11 h13 h15)
    · refine W.exit (xin_here ?_)
      refine W.seq ?_
      refine W.regS (SR.q' (r_mv (v := .int .i64 _) rfl) <| SR.q' (r_as (v := .int .i64 _) rfl) <| SR.nil ?_)
      refine W.ret ?_
      refine ret1 rfl (v := .int .i64 _) rfl ?_
      exact ⟨eR (eI (z_c_laws_heldMapS_19 L nL hbdL hleL k m hp0 hp1 hp2 hp3 i hi7 h8)), hB4⟩

theorem z_c_laws_toAway_43 (r : Away) : ([.int .i64 r.Map, .int .i64 r.Reader] : List Value) = encAway r := by
  first | rfl | (first | rfl | omega | grind)
theorem c_laws_toAway (w : World) (r : Away) : Calls Try.prog 85 #[.agg (List.toArray (encAway r))] w fun e w' => e = .returned (.agg (List.toArray (encAway r))) ∧ Lo w w' := by
  refine calls_W 11 Try.func85 rfl rfl rfl ?_
  refine W.seq ?_
  refine W.regS (SR.box (v := .agg (List.toArray _)) (l := [.int .i64 r.Map, .int .i64 r.Reader]) rfl rfl ?_)
  intro g1 w2 hg3 hk4 hs5 hb6
  have hz7 := hk4.size
  have hB8 := (Lo.refl w).lo hk4
  refine SR.alloc (l := [.int .i64 0, .int .i64 0]) tz77 rfl ?_
  intro g9 w10 hg11 hk12 hs13 hb14
  have hz15 := hk12.size
  have hB16 := hB8.lo hk12
  refine SR.nil ?_
  refine W.seq ?_
  refine W.regS (SR.alloc (l := [.int .i64 0, .int .i64 0]) tz77 rfl ?_)
  intro g17 w18 hg19 hk20 hs21 hb22
  have hz23 := hk20.size
  have hB24 := hB16.lo hk20
  refine SR.nil ?_
  refine W.seq ?_
  refine W.regS (SR.q' (r_fa fa102_0 rfl) <| SR.q' (r_ld (v := .int .i64 r.Map) sca3 rfl ((((hb6).lo hk12).lo hk20).cell rfl)) <| SR.q' (r_fa fa77_0 rfl) <| SR.store (o := 0) (vs := [.int .i64 r.Map]) sca3.2 rfl rfl rfl rfl (hb22) (Nat.le_of_ble_eq_true rfl) rfl ?_)
  intro w25 hk26 hs27 hb28
  have hz29 := hk26.size
  have hB30 := hB24.new hk26 (by omega)
  refine SR.nil ?_
  refine W.seq ?_
  refine W.regS (SR.q' (r_fa fa102_1 rfl) <| SR.q' (r_ld (v := .int .i64 r.Reader) sca3 rfl (((((hb6).lo hk12).lo hk20).kp hk26 (fun e' => by have e'' : g1 = g17 := e'; omega)).cell rfl)) <| SR.q' (r_fa fa77_1 rfl) <| SR.store (o := 1) (vs := [.int .i64 r.Reader]) sca3.2 rfl rfl rfl rfl (hb28) (Nat.le_of_ble_eq_true rfl) rfl ?_)
  intro w31 hk32 hs33 hb34
  have hz35 := hk32.size
  have hB36 := hB30.new hk32 (by omega)
  refine SR.nil ?_
  refine W.seq ?_
  refine W.regS (SR.q' (r_lda (l := [.int .i64 r.Map, .int .i64 r.Reader]) agg77 rfl (fun _ _ hu => (hb34).cell hu) rfl) <| SR.store (o := 0) (vs := [.int .i64 r.Map, .int .i64 r.Reader]) agg77.2 rfl rfl rfl rfl ((((hb14).lo hk20).kp hk26 (fun e' => by have e'' : g9 = g17 := e'; omega)).kp hk32 (fun e' => by have e'' : g9 = g17 := e'; omega)) (Nat.le_of_ble_eq_true rfl) rfl ?_)
  intro w37 hk38 hs39 hb40
  have hz41 := hk38.size
  have hB42 := hB36.new hk38 (by omega)
  refine SR.nil ?_
  refine W.ret ?_
  refine retC rfl rfl agg77 (hb40) rfl ?_
  exact ⟨eR (eA (z_c_laws_toAway_43 r)), hB42⟩

theorem z_c_laws_szAwayS_2 (L : List Away) (nL : Nat) (hbdL : (nL : Int) ≤ 9223372036854775807) (hleL : nL = L.length) (left : Int) (hp0 : 0 ≤ left) (hp1 : left ≤ 1048576) (h1 : (left - (nL : Int)) < 0) : (-1) = szN L.length left := by
  unfold szN; split <;> omega
theorem z_c_laws_szAwayS_3 (L : List Away) (nL : Nat) (hbdL : (nL : Int) ≤ 9223372036854775807) (hleL : nL = L.length) (left : Int) (hp0 : 0 ≤ left) (hp1 : left ≤ 1048576) (h1 : ¬ ((left - (nL : Int)) < 0)) : left - (nL : Int) = szN L.length left := by
  unfold szN; split <;> omega
theorem c_laws_szAwayS (w : World) {AL : Option Addr} {nL cL BL : Nat}  (L : List Away) (hL : SlR w BL encAway 2 AL nL cL L) (left : Int) (hp0 : 0 ≤ left) (hp1 : left ≤ 1048576) : Calls Try.prog 47 #[.slice AL nL cL, .int .i64 left] w fun e w' => e = .returned (.int .i64 (szN L.length left)) ∧ Lo w w' := by
  refine calls_W 12 Try.func47 rfl rfl rfl ?_
  have hbdL := hL.bound
  have hleL := hL.len
  have hBbL := hL.bd
  refine W.seq ?_
  refine W.regS (SR.q' (r_as (v := .int .i64 0) rfl) <| SR.nil ?_)
  refine W.seq ?_
  refine W.regS (SR.q' (r_mv (v := .int .i64 _) rfl) <| SR.q' (r_mv (v := .slice _ _ _) rfl) <| SR.q' (r_len und23 rfl) <| SR.q' (r_sub rfl rfl (by omega)) <| SR.q' (r_as (v := .int .i64 _) rfl) <| SR.nil ?_)
  refine W.seq ?_
  refine W.seq ?_
  refine W.regS (SR.q' (r_mv (v := .int .i64 _) rfl) <| SR.q' (r_lt rfl rfl) <| SR.nil ?_)
  refine W.cond_d rfl (fun h1 => ?_) (fun h1 => ?_)
  · refine W.seq ?_
    refine W.regS (SR.q' (r_as (v := .int .i64 (-1)) rfl) <| SR.nil ?_)
    refine W.ret ?_
    refine ret1 rfl (v := .int .i64 _) rfl ?_
    exact ⟨eR (eI (z_c_laws_szAwayS_2 L nL hbdL hleL left hp0 hp1 h1)), (Lo.refl w)⟩
  · refine W.skip ?_
    refine W.seq ?_
    refine W.regS (SR.q' (r_mv (v := .int .i64 _) rfl) <| SR.q' (r_as (v := .int .i64 _) rfl) <| SR.nil ?_)
    refine W.ret ?_
    refine ret1 rfl (v := .int .i64 _) rfl ?_
    exact ⟨eR (eI (z_c_laws_szAwayS_3 L nL hbdL hleL left hp0 hp1 h1)), (Lo.refl w)⟩

theorem z_c_laws_toAwayS_8 (L : List Away) (nL : Nat) (hbdL : (nL : Int) ≤ 9223372036854775807) (hleL : nL = L.length) (hp0 : (nL : Int) ≤ 1048576) : 0 ≤ nL := by
  omega
theorem z_c_laws_toAwayS_9 (L : List Away) (nL : Nat) (hbdL : (nL : Int) ≤ 9223372036854775807) (hleL : nL = L.length) (hp0 : (nL : Int) ≤ 1048576) : List.replicate nL (⟨0, 0⟩ : Away) = L.take 0 ++ List.replicate (nL - 0) (⟨0, 0⟩ : Away) := by
  exact tk_init
theorem z_c_laws_toAwayS_33 (L : List Away) (nL : Nat) (hbdL : (nL : Int) ≤ 9223372036854775807) (hleL : nL = L.length) (hp0 : (nL : Int) ≤ 1048576) (k : Nat) (hi16 : k ≤ nL) (h17 : (k : Int) < (nL : Int)) (x18 : Away) (hx19 : L[k]? = some x18) (x24 : Away) (hx25 : (L.take k ++ List.replicate (nL - k) (⟨0, 0⟩ : Away))[k]? = some x24) : (L.take k ++ List.replicate (nL - k) (⟨0, 0⟩ : Away)).set ((k : Int).toNat) x18 = L.take (k + 1) ++ List.replicate (nL - (k + 1)) (⟨0, 0⟩ : Away) := by
  exact tk_set (by assumption) hleL
theorem z_c_laws_toAwayS_34 (L : List Away) (nL : Nat) (hbdL : (nL : Int) ≤ 9223372036854775807) (hleL : nL = L.length) (hp0 : (nL : Int) ≤ 1048576) (k : Nat) (hi16 : k ≤ nL) (h17 : (k : Int) < (nL : Int)) (x18 : Away) (hx19 : L[k]? = some x18) (x24 : Away) (hx25 : (L.take k ++ List.replicate (nL - k) (⟨0, 0⟩ : Away))[k]? = some x24) : k + 1 ≤ nL := by
  omega
theorem z_c_laws_toAwayS_35 (L : List Away) (nL : Nat) (hbdL : (nL : Int) ≤ 9223372036854775807) (hleL : nL = L.length) (hp0 : (nL : Int) ≤ 1048576) (k : Nat) (hi16 : k ≤ nL) (h17 : (k : Int) < (nL : Int)) (x18 : Away) (hx19 : L[k]? = some x18) (x24 : Away) (hx25 : (L.take k ++ List.replicate (nL - k) (⟨0, 0⟩ : Away))[k]? = some x24) : nL - (k + 1) < nL - k := by
  omega
theorem z_c_laws_toAwayS_36 (L : List Away) (nL : Nat) (hbdL : (nL : Int) ≤ 9223372036854775807) (hleL : nL = L.length) (hp0 : (nL : Int) ≤ 1048576) (k : Nat) (hi16 : k ≤ nL) (h17 : ¬ ((k : Int) < (nL : Int))) : L.take k ++ List.replicate (nL - k) (⟨0, 0⟩ : Away) = L := by
  exact tk_end hleL (by assumption) (by omega)
theorem c_laws_toAwayS (w : World) {AL : Option Addr} {nL cL BL : Nat}  (L : List Away) (hL : SlR w BL encAway 2 AL nL cL L) (hp0 : (nL : Int) ≤ 1048576) : Calls Try.prog 50 #[.slice AL nL cL] w fun e w' => ∃ (A1' : Option Addr) (n1' c1' : Nat), e = .returned (.slice A1' n1' c1') ∧ SlO w' w.heap.size encAway 2 77 A1' n1' c1' L ∧ Lo w w' := by
  refine calls_W 23 Try.func50 rfl rfl rfl ?_
  have hbdL := hL.bound
  have hleL := hL.len
  have hBbL := hL.bd
  refine W.seq ?_
  refine W.regS (SR.q' (r_as (v := .slice none 0 0) rfl) <| SR.nil ?_)
  refine W.seq ?_
  refine W.regS (SR.q' (r_mv (v := .slice _ _ _) rfl) <| SR.q' (r_len und23 rfl) <| SR.make (m := nL) (zx := (⟨0, 0⟩ : Away)) (enc := encAway) tel29 rfl (fun _ => rfl) rfl rfl (by omega) (by omega) ?_)
  intro g1 w2 hg3 hk4 hO5
  have hz6 := hk4.size
  have hB7 := (Lo.refl w).lo hk4
  refine SR.q' (r_as (v := .slice _ _ _) rfl) <| SR.nil ?_
  refine W.seq ?_
  refine W.seq ?_
  refine W.regS (SR.q' (r_as (v := .int .i64 0) rfl) <| SR.nil ?_)
  refine W.block ?_
  refine W.loop (σ := Nat) (fun g => [(0, .slice AL nL cL), (2, .slice none 0 0), (3, .slice (some (⟨g1, 0, none⟩ : Addr)) nL nL), (4, .int .i64 (g : Int))]) (fun g w' => (Lo w w') ∧ (SlR w' BL encAway 2 AL nL cL L) ∧ (SlO w' w.heap.size encAway 2 77 (some (⟨g1, 0, none⟩ : Addr)) nL nL (L.take g ++ List.replicate (nL - g) (⟨0, 0⟩ : Away))) ∧ (g ≤ nL)) (fun g => nL - g) 0 ?_ ?_ ?_
  · exact ⟨rfl, rfl, rfl, rfl, trivial⟩
  · exact ⟨hB7, (hL).lo hk4, (SlO.eqv (hO5) (z_c_laws_toAwayS_9 L nL hbdL hleL hp0)), (z_c_laws_toAwayS_8 L nL hbdL hleL hp0)⟩
  · rintro k f10 w11 hP13
    obtain ⟨hB12, hm14, hm15, hi16⟩ : (Lo w w11) ∧ (SlR w11 BL encAway 2 AL nL cL L) ∧ (SlO w11 w.heap.size encAway 2 77 (some (⟨g1, 0, none⟩ : Addr)) nL nL (L.take k ++ List.replicate (nL - k) (⟨0, 0⟩ : Away))) ∧ (k ≤ nL) := hP13
    refine (?_ : W _ _ _ _ _ (act _ (sets f10 [(0, .slice AL nL cL), (2, .slice none 0 0), (3, .slice (some (⟨g1, 0, none⟩ : Addr)) nL nL), (4, .int .i64 (k : Int))])) _)
    have hzw11 := hB12.size
    refine W.seq ?_
    refine W.seq ?_
    refine W.regS (SR.q' (r_mv (v := .int .i64 _) rfl) <| SR.q' (r_mv (v := .slice _ _ _) rfl) <| SR.q' (r_len und23 rfl) <| SR.q' (r_lt rfl rfl) <| SR.nil ?_)
    refine W.cond_d rfl (fun h17 => ?_) (fun h17 => ?_)
    · refine W.skip ?_
      refine W.seq ?_
      refine W.block ?_
      refine W.regS (SR.q' (r_mv (v := .slice _ _ _) rfl) <| SR.q' (r_mv (v := .int .i64 _) rfl) <| SR.q' (r_mv (v := .slice _ _ _) rfl) <| SR.q' (r_mv (v := .int .i64 _) rfl) <| ?_)
      obtain ⟨x18, hx19⟩ := (hm14).get (i := k) (by omega)
      refine SR.q' (r_ixR tsl23 (hm14) rfl rfl (by omega)) <| SR.q' (r_lda (l := encAway x18) agg102 rfl (fun _ _ hu => (hm14).cell hx19 hu) ((hm14).esz _)) <| SR.call ent85 (c_laws_toAway w11 x18) rfl ?_
      rintro e w20 ⟨rfl, hk21⟩
      refine ⟨_, rfl, ?_⟩
      have hz22 := hk21.size
      have hB23 := hB12.lo hk21
      obtain ⟨x24, hx25⟩ := (((hm15).lo hk21).rd).get (i := k) (by omega)
      refine SR.q' (r_ixR tsl29 (((hm15).lo hk21).rd) rfl rfl (by omega)) <| SR.storeO (o := 0) (vs := [.int .i64 x18.Map, .int .i64 x18.Reader]) (x1 := x18) agg77.2 rfl rfl rfl rfl ((hm15).lo hk21) hx25 rfl (Nat.le_of_ble_eq_true rfl) rfl ?_
      intro w26 hk27 hs28 hO29
      have hz30 := hk27.size
      have hB31 := hB23.step hk27 (fun i_ hi_ e' => by have := (((hm15).lo hk21)).base_le e'; first | omega | (exfalso; omega) | exact e' | exact .inl e' | exact .inr e')
      have hx32 : ((L.take k ++ List.replicate (nL - k) (⟨0, 0⟩ : Away)).set ((k : Int).toNat) x18)[(k : Int).toNat]? = some (x18) := List.getElem?_set_self (List.getElem?_eq_some_iff.1 hx25).1
      refine SR.nil ?_
      refine W.regS (SR.q' (r_mv (v := .int .i64 _) rfl) <| SR.q' (r_add rfl rfl (by omega)) <| SR.q' (r_as (v := .int .i64 _) rfl) <| SR.nil ?_)
      refine ⟨k + 1, _, rfl, ⟨rfl, rfl, rfl, rfl, trivial⟩, ⟨hB31, ((hm14).lo hk21).kp hk27 (fun b_ hb e' => by have := (((hm15).lo hk21)).base_le e'; omega), (SlO.eqv (hO29) (z_c_laws_toAwayS_33 L nL hbdL hleL hp0 k hi16 h17 x18 hx19 x24 hx25)), ?_⟩, ?_⟩
      · exact (z_c_laws_toAwayS_34 L nL hbdL hleL hp0 k hi16 h17 x18 hx19 x24 hx25)
      · exact (z_c_laws_toAwayS_35 L nL hbdL hleL hp0 k hi16 h17 x18 hx19 x24 hx25)
    · refine W.exit (xin_here ?_)
      refine W.seq ?_
      refine W.regS (SR.q' (r_mv (v := .slice _ _ _) rfl) <| SR.q' (r_as (v := .slice _ _ _) rfl) <| SR.nil ?_)
      refine W.ret ?_
      refine ret1 rfl (v := .slice _ _ _) rfl ?_
      exact ⟨(some (⟨g1, 0, none⟩ : Addr)), nL, nL, eR rfl, (SlO.eqv ((hm15).down (by omega)) (z_c_laws_toAwayS_36 L nL hbdL hleL hp0 k hi16 h17)), hB12⟩

theorem z_c_laws_eqAway_18 (a : Away) (b : Away) (h17 : ¬ (a.Map = b.Map)) : ¬ (a = b) := by
  cases a; cases b; simp_all
theorem z_c_laws_eqAway_20 (a : Away) (b : Away) (h17 : a.Map = b.Map) (h19 : ¬ (a.Reader = b.Reader)) : ¬ (a = b) := by
  cases a; cases b; simp_all
theorem z_c_laws_eqAway_21 (a : Away) (b : Away) (h17 : a.Map = b.Map) (h19 : a.Reader = b.Reader) : a = b := by
  cases a; cases b; simp_all
theorem c_laws_eqAway (w : World) (a : Away) (b : Away) : Calls Try.prog 91 #[.agg (List.toArray (encAway a)), .agg (List.toArray (encAway b))] w fun e w' => e = .returned (.bool (decide (a = b))) ∧ Lo w w' := by
  refine calls_W 15 Try.func91 rfl rfl rfl ?_
  refine W.seq ?_
  refine W.regS (SR.box (v := .agg (List.toArray _)) (l := [.int .i64 a.Map, .int .i64 a.Reader]) rfl rfl ?_)
  intro g1 w2 hg3 hk4 hs5 hb6
  have hz7 := hk4.size
  have hB8 := (Lo.refl w).lo hk4
  refine SR.box (v := .agg (List.toArray _)) (l := [.int .i64 b.Map, .int .i64 b.Reader]) rfl rfl ?_
  intro g9 w10 hg11 hk12 hs13 hb14
  have hz15 := hk12.size
  have hB16 := hB8.lo hk12
  refine SR.q' (r_as (v := .bool false) rfl) <| SR.nil ?_
  refine W.seq ?_
  refine W.seq ?_
  refine W.regS (SR.q' (r_fa fa77_0 rfl) <| SR.q' (r_ld (v := .int .i64 a.Map) sca3 rfl (((hb6).lo hk12).cell rfl)) <| SR.q' (r_fa fa77_0 rfl) <| SR.q' (r_ld (v := .int .i64 b.Map) sca3 rfl ((hb14).cell rfl)) <| SR.q' (r_ne rfl rfl) <| SR.nil ?_)
  refine W.cond_n rfl (fun h17 => ?_) (fun h17 => ?_)
  · refine W.seq ?_
    refine W.regS (SR.q' (r_as (v := .bool false) rfl) <| SR.nil ?_)
    refine W.ret ?_
    refine ret1 rfl (v := .bool _) rfl ?_
    exact ⟨eR (eDF (z_c_laws_eqAway_18 a b h17)), hB16⟩
  · refine W.skip ?_
    refine W.seq ?_
    refine W.seq ?_
    refine W.regS (SR.q' (r_fa fa77_1 rfl) <| SR.q' (r_ld (v := .int .i64 a.Reader) sca3 rfl (((hb6).lo hk12).cell rfl)) <| SR.q' (r_fa fa77_1 rfl) <| SR.q' (r_ld (v := .int .i64 b.Reader) sca3 rfl ((hb14).cell rfl)) <| SR.q' (r_ne rfl rfl) <| SR.nil ?_)
    refine W.cond_n rfl (fun h19 => ?_) (fun h19 => ?_)
    · refine W.seq ?_
      refine W.regS (SR.q' (r_as (v := .bool false) rfl) <| SR.nil ?_)
      refine W.ret ?_
      refine ret1 rfl (v := .bool _) rfl ?_
      exact ⟨eR (eDF (z_c_laws_eqAway_20 a b h17 h19)), hB16⟩
    · refine W.skip ?_
      refine W.seq ?_
      refine W.regS (SR.q' (r_as (v := .bool true) rfl) <| SR.nil ?_)
      refine W.ret ?_
      refine ret1 rfl (v := .bool _) rfl ?_
      exact ⟨eR (eDT (z_c_laws_eqAway_21 a b h17 h19)), hB16⟩

theorem z_c_laws_eqAwayS_2 (L : List Away) (nL : Nat) (hbdL : (nL : Int) ≤ 9223372036854775807) (hleL : nL = L.length) (M : List Away) (nM : Nat) (hbdM : (nM : Int) ≤ 9223372036854775807) (hleM : nM = M.length) (h1 : ¬ ((nL : Int) = (nM : Int))) : ¬ (L = M) := by
  first | (intro e; subst e; omega) | exact ne_at ‹L[_]? = some _› ‹M[_]? = some _› ‹_› | exact take_end (And.right ‹_ ∧ L.take _ = M.take _›) hleL hleM (by omega) ‹_›
theorem z_c_laws_eqAwayS_3 (L : List Away) (nL : Nat) (hbdL : (nL : Int) ≤ 9223372036854775807) (hleL : nL = L.length) (M : List Away) (nM : Nat) (hbdM : (nM : Int) ≤ 9223372036854775807) (hleM : nM = M.length) (h1 : (nL : Int) = (nM : Int)) : 0 ≤ nL ∧ L.take 0 = M.take 0 := by
  simp
theorem z_c_laws_eqAwayS_21 (L : List Away) (nL : Nat) (hbdL : (nL : Int) ≤ 9223372036854775807) (hleL : nL = L.length) (M : List Away) (nM : Nat) (hbdM : (nM : Int) ≤ 9223372036854775807) (hleM : nM = M.length) (h1 : (nL : Int) = (nM : Int)) (k : Nat) (hi10 : k ≤ nL ∧ L.take k = M.take k) (h11 : (k : Int) < (nL : Int)) (x12 : Away) (hx13 : L[k]? = some x12) (x14 : Away) (hx15 : M[k]? = some x14) (h20 : ¬ (x12 = x14)) : ¬ (L = M) := by
  first | (intro e; subst e; omega) | exact ne_at ‹L[_]? = some _› ‹M[_]? = some _› ‹_› | exact take_end (And.right ‹_ ∧ L.take _ = M.take _›) hleL hleM (by omega) ‹_›
theorem z_c_laws_eqAwayS_22 (L : List Away) (nL : Nat) (hbdL : (nL : Int) ≤ 9223372036854775807) (hleL : nL = L.length) (M : List Away) (nM : Nat) (hbdM : (nM : Int) ≤ 9223372036854775807) (hleM : nM = M.length) (h1 : (nL : Int) = (nM : Int)) (k : Nat) (hi10 : k ≤ nL ∧ L.take k = M.take k) (h11 : (k : Int) < (nL : Int)) (x12 : Away) (hx13 : L[k]? = some x12) (x14 : Away) (hx15 : M[k]? = some x14) (h20 : x12 = x14) : k + 1 ≤ nL ∧ L.take (k + 1) = M.take (k + 1) := by
  exact ⟨by omega, take_next (And.right ‹_ ∧ L.take _ = M.take _›) ‹L[_]? = some _› ‹M[_]? = some _› ‹_›⟩
theorem z_c_laws_eqAwayS_23 (L : List Away) (nL : Nat) (hbdL : (nL : Int) ≤ 9223372036854775807) (hleL : nL = L.length) (M : List Away) (nM : Nat) (hbdM : (nM : Int) ≤ 9223372036854775807) (hleM : nM = M.length) (h1 : (nL : Int) = (nM : Int)) (k : Nat) (hi10 : k ≤ nL ∧ L.take k = M.take k) (h11 : (k : Int) < (nL : Int)) (x12 : Away) (hx13 : L[k]? = some x12) (x14 : Away) (hx15 : M[k]? = some x14) (h20 : x12 = x14) : nL - (k + 1) < nL - k := by
  omega
theorem z_c_laws_eqAwayS_24 (L : List Away) (nL : Nat) (hbdL : (nL : Int) ≤ 9223372036854775807) (hleL : nL = L.length) (M : List Away) (nM : Nat) (hbdM : (nM : Int) ≤ 9223372036854775807) (hleM : nM = M.length) (h1 : (nL : Int) = (nM : Int)) (k : Nat) (hi10 : k ≤ nL ∧ L.take k = M.take k) (h11 : ¬ ((k : Int) < (nL : Int))) : L = M := by
  first | (intro e; subst e; omega) | exact ne_at ‹L[_]? = some _› ‹M[_]? = some _› ‹_› | exact take_end (And.right ‹_ ∧ L.take _ = M.take _›) hleL hleM (by omega) ‹_›
theorem c_laws_eqAwayS (w : World) {AL : Option Addr} {nL cL BL : Nat}  (L : List Away) (hL : SlR w BL encAway 2 AL nL cL L) {AM : Option Addr} {nM cM BM : Nat}  (M : List Away) (hM : SlR w BM encAway 2 AM nM cM M) : Calls Try.prog 59 #[.slice AL nL cL, .slice AM nM cM] w fun e w' => e = .returned (.bool (decide (L = M))) ∧ Lo w w' := by
  refine calls_W 27 Try.func59 rfl rfl rfl ?_
  have hbdL := hL.bound
  have hleL := hL.len
  have hBbL := hL.bd
  have hbdM := hM.bound
  have hleM := hM.len
  have hBbM := hM.bd
  refine W.seq ?_
  refine W.regS (SR.q' (r_as (v := .bool false) rfl) <| SR.nil ?_)
  refine W.seq ?_
  refine W.seq ?_
  refine W.regS (SR.q' (r_mv (v := .slice _ _ _) rfl) <| SR.q' (r_len und29 rfl) <| SR.q' (r_mv (v := .slice _ _ _) rfl) <| SR.q' (r_len und29 rfl) <| SR.q' (r_ne rfl rfl) <| SR.nil ?_)
  refine W.cond_n rfl (fun h1 => ?_) (fun h1 => ?_)
  · refine W.seq ?_
    refine W.regS (SR.q' (r_as (v := .bool false) rfl) <| SR.nil ?_)
    refine W.ret ?_
    refine ret1 rfl (v := .bool _) rfl ?_
    exact ⟨eR (eDF (z_c_laws_eqAwayS_2 L nL hbdL hleL M nM hbdM hleM h1)), (Lo.refl w)⟩
  · refine W.skip ?_
    refine W.seq ?_
    refine W.seq ?_
    refine W.regS (SR.q' (r_as (v := .int .i64 0) rfl) <| SR.nil ?_)
    refine W.block ?_
    refine W.loop (σ := Nat) (fun g => [(0, .slice AL nL cL), (1, .slice AM nM cM), (5, .int .i64 (g : Int))]) (fun g w' => (Lo w w') ∧ (SlR w' BL encAway 2 AL nL cL L) ∧ (SlR w' BM encAway 2 AM nM cM M) ∧ (g ≤ nL ∧ L.take g = M.take g)) (fun g => nL - g) 0 ?_ ?_ ?_
    · exact ⟨rfl, rfl, rfl, trivial⟩
    · exact ⟨(Lo.refl w), hL, hM, (z_c_laws_eqAwayS_3 L nL hbdL hleL M nM hbdM hleM h1)⟩
    · rintro k f4 w5 hP7
      obtain ⟨hB6, hm8, hm9, hi10⟩ : (Lo w w5) ∧ (SlR w5 BL encAway 2 AL nL cL L) ∧ (SlR w5 BM encAway 2 AM nM cM M) ∧ (k ≤ nL ∧ L.take k = M.take k) := hP7
      refine (?_ : W _ _ _ _ _ (act _ (sets f4 [(0, .slice AL nL cL), (1, .slice AM nM cM), (5, .int .i64 (k : Int))])) _)
      have hzw5 := hB6.size
      refine W.seq ?_
      refine W.seq ?_
      refine W.regS (SR.q' (r_mv (v := .int .i64 _) rfl) <| SR.q' (r_mv (v := .slice _ _ _) rfl) <| SR.q' (r_len und29 rfl) <| SR.q' (r_lt rfl rfl) <| SR.nil ?_)
      refine W.cond_d rfl (fun h11 => ?_) (fun h11 => ?_)
      · refine W.skip ?_
        refine W.seq ?_
        refine W.block ?_
        refine W.seq ?_
        refine W.regD mo (by kernel_rfl) (QR.q' (fun w' hw' => r_mv (v := .slice _ _ _) rfl) <| QR.q' (fun w' hw' => r_mv (v := .int .i64 _) rfl) <| ?_)
        obtain ⟨x12, hx13⟩ := (hm8).get (i := k) (by omega)
        refine QR.q' (fun w' hw' => r_ixR tsl29 (((hm8).lo hw')) rfl rfl (by omega)) <| QR.q' (fun w' hw' => r_lda (l := encAway x12) agg77 rfl (fun _ _ hu => (((hm8).lo hw')).cell hx13 hu) ((((hm8).lo hw')).esz _)) <| QR.q' (fun w' hw' => r_mv (v := .slice _ _ _) rfl) <| QR.q' (fun w' hw' => r_mv (v := .int .i64 _) rfl) <| ?_
        obtain ⟨x14, hx15⟩ := (hm9).get (i := k) (by omega)
        refine QR.q' (fun w' hw' => r_ixR tsl29 (((hm9).lo hw')) rfl rfl (by omega)) <| QR.q' (fun w' hw' => r_lda (l := encAway x14) agg77 rfl (fun _ _ hu => (((hm9).lo hw')).cell hx15 hu) ((((hm9).lo hw')).esz _)) <| QR.call ent91 (fun w' hw' => (c_laws_eqAway w' x12 x14).mono fun _ _ h => ⟨h.1, hw'.trans h.2⟩) rfl <| QR.q' (fun w' hw' => r_not rfl) <| QR.nil ?_
        intro w16 hk17
        have hz18 := hk17.size
        have hB19 := hB6.lo hk17
        refine W.cond_n rfl (fun h20 => ?_) (fun h20 => ?_)
        · refine W.seq ?_
          refine W.regS (SR.q' (r_as (v := .bool false) rfl) <| SR.nil ?_)
          refine W.ret ?_
          refine ret1 rfl (v := .bool _) rfl ?_
          exact ⟨eR (eDF (z_c_laws_eqAwayS_21 L nL hbdL hleL M nM hbdM hleM h1 k hi10 h11 x12 hx13 x14 hx15 h20)), hB19⟩
        · refine W.skip ?_
          refine W.regS (SR.q' (r_mv (v := .int .i64 _) rfl) <| SR.q' (r_add rfl rfl (by omega)) <| SR.q' (r_as (v := .int .i64 _) rfl) <| SR.nil ?_)
          refine ⟨k + 1, _, rfl, ⟨rfl, rfl, rfl, trivial⟩, ⟨hB19, (hm8).lo hk17, (hm9).lo hk17, ?_⟩, ?_⟩
          · exact (z_c_laws_eqAwayS_22 L nL hbdL hleL M nM hbdM hleM h1 k hi10 h11 x12 hx13 x14 hx15 h20)
          · exact (z_c_laws_eqAwayS_23 L nL hbdL hleL M nM hbdM hleM h1 k hi10 h11 x12 hx13 x14 hx15 h20)
      · refine W.exit (xin_here ?_)
        refine W.seq ?_
        refine W.regS (SR.q' (r_as (v := .bool true) rfl) <| SR.nil ?_)
        refine W.ret ?_
        refine ret1 rfl (v := .bool _) rfl ?_
        exact ⟨eR (eDT (z_c_laws_eqAwayS_24 L nL hbdL hleL M nM hbdM hleM h1 k hi10 h11)), hB6⟩

theorem z_c_laws_markAwayS_1 (L : List Away) (nL : Nat) (hbdL : (nL : Int) ≤ 9223372036854775807) (hleL : nL = L.length) (k : Int) (hp0 : 0 ≤ k) (hp1 : k ≤ 1000000000) (hp2 : (nL : Int) ≤ 1048576) : 0 ≤ nL := by
  omega
theorem z_c_laws_markAwayS_2 (L : List Away) (nL : Nat) (hbdL : (nL : Int) ≤ 9223372036854775807) (hleL : nL = L.length) (k : Int) (hp0 : 0 ≤ k) (hp1 : k ≤ 1000000000) (hp2 : (nL : Int) ≤ 1048576) : L = mkL mkAway 2 0 k ++ L.drop 0 := by
  exact mkL_init
theorem z_c_laws_markAwayS_26 (L : List Away) (nL : Nat) (hbdL : (nL : Int) ≤ 9223372036854775807) (hleL : nL = L.length) (k : Int) (hp0 : 0 ≤ k) (hp1 : k ≤ 1000000000) (hp2 : (nL : Int) ≤ 1048576) (i : Nat) (hi8 : i ≤ nL) (h9 : (i : Int) < (nL : Int)) (x10 : Away) (hx11 : (mkL mkAway 2 i k ++ L.drop i)[i]? = some x10) : (mkL mkAway 2 i k ++ L.drop i).set ((i : Int).toNat) ({ ({ x10 with Map := k + 2 * (i : Int) }) with Reader := (k + 2 * (i : Int)) + 1 }) = mkL mkAway 2 (i + 1) k ++ L.drop (i + 1) := by
  exact mkL_set (by omega) (by first | (simp [mkAway]; done) | (simp [mkAway]; omega))
theorem z_c_laws_markAwayS_27 (L : List Away) (nL : Nat) (hbdL : (nL : Int) ≤ 9223372036854775807) (hleL : nL = L.length) (k : Int) (hp0 : 0 ≤ k) (hp1 : k ≤ 1000000000) (hp2 : (nL : Int) ≤ 1048576) (i : Nat) (hi8 : i ≤ nL) (h9 : (i : Int) < (nL : Int)) (x10 : Away) (hx11 : (mkL mkAway 2 i k ++ L.drop i)[i]? = some x10) : i + 1 ≤ nL := by
  omega
theorem z_c_laws_markAwayS_28 (L : List Away) (nL : Nat) (hbdL : (nL : Int) ≤ 9223372036854775807) (hleL : nL = L.length) (k : Int) (hp0 : 0 ≤ k) (hp1 : k ≤ 1000000000) (hp2 : (nL : Int) ≤ 1048576) (i : Nat) (hi8 : i ≤ nL) (h9 : (i : Int) < (nL : Int)) (x10 : Away) (hx11 : (mkL mkAway 2 i k ++ L.drop i)[i]? = some x10) : nL - (i + 1) < nL - i := by
  omega
theorem z_c_laws_markAwayS_29 (L : List Away) (nL : Nat) (hbdL : (nL : Int) ≤ 9223372036854775807) (hleL : nL = L.length) (k : Int) (hp0 : 0 ≤ k) (hp1 : k ≤ 1000000000) (hp2 : (nL : Int) ≤ 1048576) (i : Nat) (hi8 : i ≤ nL) (h9 : ¬ ((i : Int) < (nL : Int))) : k + 2 * (i : Int) = k + 2 * (L.length : Int) := by
  first | omega | exact mkL_end hleL (by assumption) (by omega)
theorem z_c_laws_markAwayS_30 (L : List Away) (nL : Nat) (hbdL : (nL : Int) ≤ 9223372036854775807) (hleL : nL = L.length) (k : Int) (hp0 : 0 ≤ k) (hp1 : k ≤ 1000000000) (hp2 : (nL : Int) ≤ 1048576) (i : Nat) (hi8 : i ≤ nL) (h9 : ¬ ((i : Int) < (nL : Int))) : mkL mkAway 2 i k ++ L.drop i = mkL mkAway 2 L.length k := by
  first | omega | exact mkL_end hleL (by assumption) (by omega)
theorem c_laws_markAwayS (w : World) {AL : Option Addr} {nL cL BL : Nat}  (L : List Away) (hL : SlO w BL encAway 2 77 AL nL cL L) (k : Int) (hp0 : 0 ≤ k) (hp1 : k ≤ 1000000000) (hp2 : (nL : Int) ≤ 1048576) : Calls Try.prog 63 #[.slice AL nL cL, .int .i64 k] w fun e w' => e = .returned (.int .i64 (k + 2 * (L.length : Int))) ∧ SlO w' BL encAway 2 77 AL nL cL (mkL mkAway 2 L.length k) ∧ Kp (fun b_ => AL = some ⟨b_, 0, none⟩) w w' := by
  refine calls_W 27 Try.func63 rfl rfl rfl ?_
  have hbdL := hL.rd.bound
  have hleL := hL.len
  have hBbL := hL.bd
  refine W.seq ?_
  refine W.regS (SR.q' (r_as (v := .int .i64 0) rfl) <| SR.nil ?_)
  refine W.seq ?_
  refine W.seq ?_
  refine W.regS (SR.q' (r_as (v := .int .i64 0) rfl) <| SR.nil ?_)
  refine W.block ?_
  refine W.loop (σ := Nat) (fun g => [(0, .slice AL nL cL), (1, .int .i64 (k + 2 * (g : Int))), (4, .int .i64 0), (5, .int .i64 (g : Int))]) (fun g w' => (Kp (fun b_ => AL = some ⟨b_, 0, none⟩) w w') ∧ (SlO w' BL encAway 2 77 AL nL cL (mkL mkAway 2 g k ++ L.drop g)) ∧ (g ≤ nL)) (fun g => nL - g) 0 ?_ ?_ ?_
  · exact ⟨rfl, (eI (by first | omega | (dsimp only; omega))), rfl, (eI (by first | omega | (dsimp only; omega))), trivial⟩
  · exact ⟨(Kp.refl w : Kp (fun b_ => AL = some ⟨b_, 0, none⟩) w w), (SlO.eqv (hL) (z_c_laws_markAwayS_2 L nL hbdL hleL k hp0 hp1 hp2)), (z_c_laws_markAwayS_1 L nL hbdL hleL k hp0 hp1 hp2)⟩
  · rintro i f3 w4 hP6
    obtain ⟨hB5, hm7, hi8⟩ : (Kp (fun b_ => AL = some ⟨b_, 0, none⟩) w w4) ∧ (SlO w4 BL encAway 2 77 AL nL cL (mkL mkAway 2 i k ++ L.drop i)) ∧ (i ≤ nL) := hP6
    refine (?_ : W _ _ _ _ _ (act _ (sets f3 [(0, .slice AL nL cL), (1, .int .i64 (k + 2 * (i : Int))), (4, .int .i64 0), (5, .int .i64 (i : Int))])) _)
    have hzw4 := hB5.size
    refine W.seq ?_
    refine W.seq ?_
    refine W.regS (SR.q' (r_mv (v := .int .i64 _) rfl) <| SR.q' (r_mv (v := .slice _ _ _) rfl) <| SR.q' (r_len und29 rfl) <| SR.q' (r_lt rfl rfl) <| SR.nil ?_)
    refine W.cond_d rfl (fun h9 => ?_) (fun h9 => ?_)
    · refine W.skip ?_
      refine W.seq ?_
      refine W.block ?_
      refine W.seq ?_
      refine W.regS (SR.q' (r_mv (v := .slice _ _ _) rfl) <| SR.q' (r_mv (v := .int .i64 _) rfl) <| SR.q' (r_mv (v := .int .i64 _) rfl) <| ?_)
      obtain ⟨x10, hx11⟩ := ((hm7).rd).get (i := i) (by omega)
      refine SR.q' (r_ixR tsl29 ((hm7).rd) rfl rfl (by omega)) <| SR.q' (r_fa fa77_0 rfl) <| SR.storeO (o := 0) (vs := [.int .i64 (k + 2 * (i : Int))]) (x1 := { x10 with Map := k + 2 * (i : Int) }) sca3.2 rfl (add_add _ _ _) rfl rfl (hm7) hx11 rfl (Nat.le_of_ble_eq_true rfl) rfl ?_
      intro w12 hk13 hs14 hO15
      have hz16 := hk13.size
      have hB17 := hB5.step hk13 (fun i_ hi_ e' => by have := ((hm7)).base_le e'; first | omega | (exfalso; omega) | exact e' | exact .inl e' | exact .inr e')
      have hx18 : ((mkL mkAway 2 i k ++ L.drop i).set ((i : Int).toNat) ({ x10 with Map := k + 2 * (i : Int) }))[(i : Int).toNat]? = some ({ x10 with Map := k + 2 * (i : Int) }) := List.getElem?_set_self (List.getElem?_eq_some_iff.1 hx11).1
      refine SR.nil ?_
      refine W.seq ?_
      refine W.regS (SR.q' (r_mv (v := .int .i64 _) rfl) <| SR.q' (r_add rfl rfl (by omega)) <| SR.q' (r_as (v := .int .i64 _) rfl) <| SR.nil ?_)
      refine W.seq ?_
      refine W.regS (SR.q' (r_mv (v := .slice _ _ _) rfl) <| SR.q' (r_mv (v := .int .i64 _) rfl) <| SR.q' (r_mv (v := .int .i64 _) rfl) <| SR.q' (r_ixR tsl29 ((hO15).rd) rfl rfl (by omega)) <| SR.q' (r_fa fa77_1 rfl) <| SR.storeO (o := 1) (vs := [.int .i64 ((k + 2 * (i : Int)) + 1)]) (x1 := { ({ x10 with Map := k + 2 * (i : Int) }) with Reader := (k + 2 * (i : Int)) + 1 }) sca3.2 rfl (add_add _ _ _) rfl rfl (hO15) hx18 rfl (Nat.le_of_ble_eq_true rfl) rfl ?_)
      intro w19 hk20 hs21 hO22
      have hz23 := hk20.size
      have hB24 := hB17.step hk20 (fun i_ hi_ e' => by have := ((hO15)).base_le e'; first | omega | (exfalso; omega) | exact e' | exact .inl e' | exact .inr e')
      rw [List.set_set] at hO22
      have hx25 : ((mkL mkAway 2 i k ++ L.drop i).set ((i : Int).toNat) ({ ({ x10 with Map := k + 2 * (i : Int) }) with Reader := (k + 2 * (i : Int)) + 1 }))[(i : Int).toNat]? = some ({ ({ x10 with Map := k + 2 * (i : Int) }) with Reader := (k + 2 * (i : Int)) + 1 }) := List.getElem?_set_self (List.getElem?_eq_some_iff.1 hx11).1
      refine SR.nil ?_
      refine W.regS (SR.q' (r_mv (v := .int .i64 _) rfl) <| SR.q' (r_add rfl rfl (by omega)) <| SR.q' (r_as (v := .int .i64 _) rfl) <| SR.nil ?_)
      refine W.regS (SR.q' (r_mv (v := .int .i64 _) rfl) <| SR.q' (r_add rfl rfl (by omega)) <| SR.q' (r_as (v := .int .i64 _) rfl) <| SR.nil ?_)
      refine ⟨i + 1, _, rfl, ⟨rfl, (eI (by first | omega | (dsimp only; omega))), rfl, (eI (by first | omega | (dsimp only; omega))), trivial⟩, ⟨hB24, (SlO.eqv (hO22) (z_c_laws_markAwayS_26 L nL hbdL hleL k hp0 hp1 hp2 i hi8 h9 x10 hx11)), ?_⟩, ?_⟩
      · exact (z_c_laws_markAwayS_27 L nL hbdL hleL k hp0 hp1 hp2 i hi8 h9 x10 hx11)
      · exact (z_c_laws_markAwayS_28 L nL hbdL hleL k hp0 hp1 hp2 i hi8 h9 x10 hx11)
    · refine W.exit (xin_here ?_)
      refine W.seq ?_
      refine W.regS (SR.q' (r_mv (v := .int .i64 _) rfl) <| SR.q' (r_as (v := .int .i64 _) rfl) <| SR.nil ?_)
      refine W.ret ?_
      refine ret1 rfl (v := .int .i64 _) rfl ?_
      exact ⟨eR (eI (z_c_laws_markAwayS_29 L nL hbdL hleL k hp0 hp1 hp2 i hi8 h9)), (SlO.eqv (hm7) (z_c_laws_markAwayS_30 L nL hbdL hleL k hp0 hp1 hp2 i hi8 h9)), hB5⟩

theorem z_c_laws_heldAwayS_1 (L : List Away) (nL : Nat) (hbdL : (nL : Int) ≤ 9223372036854775807) (hleL : nL = L.length) (k : Int) (m : Nat) (hp0 : 0 ≤ k) (hp1 : k ≤ 1000000000) (hp2 : (nL : Int) ≤ 1048576) (hp3 : L = mkL mkAway 2 m k) : 0 ≤ nL := by
  omega
theorem z_c_laws_heldAwayS_12 (L : List Away) (nL : Nat) (hbdL : (nL : Int) ≤ 9223372036854775807) (hleL : nL = L.length) (k : Int) (m : Nat) (hp0 : 0 ≤ k) (hp1 : k ≤ 1000000000) (hp2 : (nL : Int) ≤ 1048576) (hp3 : L = mkL mkAway 2 m k) (i : Nat) (hi7 : i ≤ nL) (h8 : (i : Int) < (nL : Int)) (x9 : Away) (hx10 : L[i]? = some x9) (h11 : ¬ (x9.Map = (k + 2 * (i : Int)))) : (-1) = k + 2 * (m : Int) := by
  first | omega | (rw [hp3, mkL_len] at hleL; omega) | (exfalso; subst hp3; obtain rfl := mkL_get ‹_[_]? = some _›; first | (simp_all [mkAway]; done) | (simp only [mkAway] at *; omega))
theorem z_c_laws_heldAwayS_14 (L : List Away) (nL : Nat) (hbdL : (nL : Int) ≤ 9223372036854775807) (hleL : nL = L.length) (k : Int) (m : Nat) (hp0 : 0 ≤ k) (hp1 : k ≤ 1000000000) (hp2 : (nL : Int) ≤ 1048576) (hp3 : L = mkL mkAway 2 m k) (i : Nat) (hi7 : i ≤ nL) (h8 : (i : Int) < (nL : Int)) (x9 : Away) (hx10 : L[i]? = some x9) (h11 : x9.Map = (k + 2 * (i : Int))) (h13 : ¬ (x9.Reader = ((k + 2 * (i : Int)) + 1))) : (-1) = k + 2 * (m : Int) := by
  first | omega | (rw [hp3, mkL_len] at hleL; omega) | (exfalso; subst hp3; obtain rfl := mkL_get ‹_[_]? = some _›; first | (simp_all [mkAway]; done) | (simp only [mkAway] at *; omega))
theorem z_c_laws_heldAwayS_15 (L : List Away) (nL : Nat) (hbdL : (nL : Int) ≤ 9223372036854775807) (hleL : nL = L.length) (k : Int) (m : Nat) (hp0 : 0 ≤ k) (hp1 : k ≤ 1000000000) (hp2 : (nL : Int) ≤ 1048576) (hp3 : L = mkL mkAway 2 m k) (i : Nat) (hi7 : i ≤ nL) (h8 : (i : Int) < (nL : Int)) (x9 : Away) (hx10 : L[i]? = some x9) (h11 : x9.Map = (k + 2 * (i : Int))) (h13 : x9.Reader = ((k + 2 * (i : Int)) + 1)) : i + 1 ≤ nL := by
  omega
theorem z_c_laws_heldAwayS_16 (L : List Away) (nL : Nat) (hbdL : (nL : Int) ≤ 9223372036854775807) (hleL : nL = L.length) (k : Int) (m : Nat) (hp0 : 0 ≤ k) (hp1 : k ≤ 1000000000) (hp2 : (nL : Int) ≤ 1048576) (hp3 : L = mkL mkAway 2 m k) (i : Nat) (hi7 : i ≤ nL) (h8 : (i : Int) < (nL : Int)) (x9 : Away) (hx10 : L[i]? = some x9) (h11 : x9.Map = (k + 2 * (i : Int))) (h13 : x9.Reader = ((k + 2 * (i : Int)) + 1)) : nL - (i + 1) < nL - i := by
  omega
theorem z_c_laws_heldAwayS_17 (L : List Away) (nL : Nat) (hbdL : (nL : Int) ≤ 9223372036854775807) (hleL : nL = L.length) (k : Int) (m : Nat) (hp0 : 0 ≤ k) (hp1 : k ≤ 1000000000) (hp2 : (nL : Int) ≤ 1048576) (hp3 : L = mkL mkAway 2 m k) (i : Nat) (hi7 : i ≤ nL) (h8 : ¬ ((i : Int) < (nL : Int))) : k + 2 * (i : Int) = k + 2 * (m : Int) := by
  first | omega | (rw [hp3, mkL_len] at hleL; omega) | (exfalso; subst hp3; obtain rfl := mkL_get ‹_[_]? = some _›; first | (simp_all [mkAway]; done) | (simp only [mkAway] at *; omega))
theorem c_laws_heldAwayS (w : World) {AL : Option Addr} {nL cL BL : Nat}  (L : List Away) (hL : SlR w BL encAway 2 AL nL cL L) (k : Int) (m : Nat) (hp0 : 0 ≤ k) (hp1 : k ≤ 1000000000) (hp2 : (nL : Int) ≤ 1048576) (hp3 : L = mkL mkAway 2 m k) : Calls Try.prog 71 #[.slice AL nL cL, .int .i64 k] w fun e w' => e = .returned (.int .i64 (k + 2 * (m : Int))) ∧ Lo w w' := by
  refine calls_W 31 Try.func71 rfl rfl rfl ?_
  have hbdL := hL.bound
  have hleL := hL.len
  have hBbL := hL.bd
  refine W.seq ?_
  refine W.regS (SR.q' (r_as (v := .int .i64 0) rfl) <| SR.nil ?_)
  refine W.seq ?_
  refine W.seq ?_
  refine W.regS (SR.q' (r_as (v := .int .i64 0) rfl) <| SR.nil ?_)
  refine W.block ?_
  refine W.loop (σ := Nat) (fun g => [(0, .slice AL nL cL), (1, .int .i64 (k + 2 * (g : Int))), (5, .int .i64 (g : Int))]) (fun g w' => (Lo w w') ∧ (SlR w' BL encAway 2 AL nL cL L) ∧ (g ≤ nL)) (fun g => nL - g) 0 ?_ ?_ ?_
  · exact ⟨rfl, (eI (by first | omega | (dsimp only; omega))), (eI (by first | omega | (dsimp only; omega))), trivial⟩
  · exact ⟨(Lo.refl w), hL, (z_c_laws_heldAwayS_1 L nL hbdL hleL k m hp0 hp1 hp2 hp3)⟩
  · rintro i f2 w3 hP5
    obtain ⟨hB4, hm6, hi7⟩ : (Lo w w3) ∧ (SlR w3 BL encAway 2 AL nL cL L) ∧ (i ≤ nL) := hP5
    refine (?_ : W _ _ _ _ _ (act _ (sets f2 [(0, .slice AL nL cL), (1, .int .i64 (k + 2 * (i : Int))), (5, .int .i64 (i : Int))])) _)
    have hzw3 := hB4.size
    refine W.seq ?_
    refine W.seq ?_
    refine W.regS (SR.q' (r_mv (v := .int .i64 _) rfl) <| SR.q' (r_mv (v := .slice _ _ _) rfl) <| SR.q' (r_len und29 rfl) <| SR.q' (r_lt rfl rfl) <| SR.nil ?_)
    refine W.cond_d rfl (fun h8 => ?_) (fun h8 => ?_)
    · refine W.skip ?_
      refine W.seq ?_
      refine W.block ?_
      refine W.seq ?_
      refine W.seq ?_
      refine W.regS (SR.q' (r_mv (v := .slice _ _ _) rfl) <| SR.q' (r_mv (v := .int .i64 _) rfl) <| ?_)
      obtain ⟨x9, hx10⟩ := (hm6).get (i := i) (by omega)
      refine SR.q' (r_ixR tsl29 (hm6) rfl rfl (by omega)) <| SR.q' (r_fa fa77_0 rfl) <| SR.q' (r_ld (v := .int .i64 x9.Map) sca3 rfl ((hm6).cell hx10 rfl)) <| SR.q' (r_mv (v := .int .i64 _) rfl) <| SR.q' (r_ne rfl rfl) <| SR.nil ?_
      refine W.cond_n rfl (fun h11 => ?_) (fun h11 => ?_)
      · refine W.seq ?_
        refine W.regS (SR.q' (r_as (v := .int .i64 (-1)) rfl) <| SR.nil ?_)
        refine W.ret ?_
        refine ret1 rfl (v := .int .i64 _) rfl ?_
        exact ⟨eR (eI (z_c_laws_heldAwayS_12 L nL hbdL hleL k m hp0 hp1 hp2 hp3 i hi7 h8 x9 hx10 h11)), hB4⟩
      · refine W.skip ?_
        refine W.seq ?_
        refine W.regS (SR.q' (r_mv (v := .int .i64 _) rfl) <| SR.q' (r_add rfl rfl (by omega)) <| SR.q' (r_as (v := .int .i64 _) rfl) <| SR.nil ?_)
        refine W.seq ?_
        refine W.seq ?_
        refine W.regS (SR.q' (r_mv (v := .slice _ _ _) rfl) <| SR.q' (r_mv (v := .int .i64 _) rfl) <| SR.q' (r_ixR tsl29 (hm6) rfl rfl (by omega)) <| SR.q' (r_fa fa77_1 rfl) <| SR.q' (r_ld (v := .int .i64 x9.Reader) sca3 rfl ((hm6).cell hx10 rfl)) <| SR.q' (r_mv (v := .int .i64 _) rfl) <| SR.q' (r_ne rfl rfl) <| SR.nil ?_)
        refine W.cond_n rfl (fun h13 => ?_) (fun h13 => ?_)
        · refine W.seq ?_
          refine W.regS (SR.q' (r_as (v := .int .i64 (-1)) rfl) <| SR.nil ?_)
          refine W.ret ?_
          refine ret1 rfl (v := .int .i64 _) rfl ?_
          exact ⟨eR (eI (z_c_laws_heldAwayS_14 L nL hbdL hleL k m hp0 hp1 hp2 hp3 i hi7 h8 x9 hx10 h11 h13)), hB4⟩
        · refine W.skip ?_
          refine W.regS (SR.q' (r_mv (v := .int .i64 _) rfl) <| SR.q' (r_add rfl rfl (by omega)) <| SR.q' (r_as (v := .int .i64 _) rfl) <| SR.nil ?_)
          refine W.regS (SR.q' (r_mv (v := .int .i64 _) rfl) <| SR.q' (r_add rfl rfl (by omega)) <| SR.q' (r_as (v := .int .i64 _) rfl) <| SR.nil ?_)
          refine ⟨i + 1, _, rfl, ⟨rfl, (eI (by first | omega | (dsimp only; omega))), (eI (by first | omega | (dsimp only; omega))), trivial⟩, ⟨hB4, hm6, ?_⟩, ?_⟩
          · exact (z_c_laws_heldAwayS_15 L nL hbdL hleL k m hp0 hp1 hp2 hp3 i hi7 h8 x9 hx10 h11 h13)
          · exact (z_c_laws_heldAwayS_16 L nL hbdL hleL k m hp0 hp1 hp2 hp3 i hi7 h8 x9 hx10 h11 h13)
    · refine W.exit (xin_here ?_)
      refine W.seq ?_
      refine W.regS (SR.q' (r_mv (v := .int .i64 _) rfl) <| SR.q' (r_as (v := .int .i64 _) rfl) <| SR.nil ?_)
      refine W.ret ?_
      refine ret1 rfl (v := .int .i64 _) rfl ?_
      exact ⟨eR (eI (z_c_laws_heldAwayS_17 L nL hbdL hleL k m hp0 hp1 hp2 hp3 i hi7 h8)), hB4⟩

theorem c_laws_toLibrary (w : World) (r : Library) {Ar_Maps : Option Addr} {nr_Maps cr_Maps Br_Maps : Nat} (hr_Maps : SlR w Br_Maps encLMap 3 Ar_Maps nr_Maps cr_Maps r.Maps) {Ar_Away : Option Addr} {nr_Away cr_Away Br_Away : Nat} (hr_Away : SlR w Br_Away encAway 2 Ar_Away nr_Away cr_Away r.Away) (hp0 : (nr_Maps : Int) ≤ 1048576) (hp1 : (nr_Away : Int) ≤ 1048576) : Calls Try.prog 14 #[.agg (List.toArray [.slice Ar_Maps nr_Maps cr_Maps, .slice Ar_Away nr_Away cr_Away, .int .i64 r.Bought, .int .i64 r.Dropped, .int .i64 r.Mended])] w fun e w' => ∃ (A1' : Option Addr) (n1' c1' : Nat) (A2' : Option Addr) (n2' c2' : Nat), e = .returned (.agg (List.toArray [.slice A1' n1' c1', .slice A2' n2' c2', .int .i64 r.Bought, .int .i64 r.Dropped, .int .i64 r.Mended])) ∧ SlO w' w.heap.size encLMap 3 73 A1' n1' c1' r.Maps ∧ SlO w' w.heap.size encAway 2 77 A2' n2' c2' r.Away ∧ (∀ b_, A1' = some ⟨b_, 0, none⟩ → ¬ A2' = some ⟨b_, 0, none⟩) ∧ Lo w w' := by
  refine calls_W 22 Try.func14 rfl rfl rfl ?_
  have hbdr_Maps := hr_Maps.bound
  have hler_Maps := hr_Maps.len
  have hBbr_Maps := hr_Maps.bd
  have hbdr_Away := hr_Away.bound
  have hler_Away := hr_Away.len
  have hBbr_Away := hr_Away.bd
  refine W.seq ?_
  refine W.regS (SR.box (v := .agg (List.toArray _)) (l := [.slice Ar_Maps nr_Maps cr_Maps, .slice Ar_Away nr_Away cr_Away, .int .i64 r.Bought, .int .i64 r.Dropped, .int .i64 r.Mended]) rfl rfl ?_)
  intro g1 w2 hg3 hk4 hs5 hb6
  have hz7 := hk4.size
  have hB8 := (Lo.refl w).lo hk4
  refine SR.alloc (l := [.slice none 0 0, .slice none 0 0, .int .i64 0, .int .i64 0, .int .i64 0]) tz31 rfl ?_
  intro g9 w10 hg11 hk12 hs13 hb14
  have hz15 := hk12.size
  have hB16 := hB8.lo hk12
  refine SR.nil ?_
  refine W.seq ?_
  refine W.regS (SR.alloc (l := [.slice none 0 0, .slice none 0 0, .int .i64 0, .int .i64 0, .int .i64 0]) tz31 rfl ?_)
  intro g17 w18 hg19 hk20 hs21 hb22
  have hz23 := hk20.size
  have hB24 := hB16.lo hk20
  refine SR.nil ?_
  refine W.seq ?_
  refine W.regS (SR.q' (r_fa fa25_0 rfl) <| SR.q' (r_ld (v := .slice Ar_Maps nr_Maps cr_Maps) sca22 rfl ((((hb6).lo hk12).lo hk20).cell rfl)) <| SR.call ent49 (c_laws_toMapS w18 r.Maps (((((hr_Maps).lo hk4).lo hk12).lo hk20)) (by omega)) rfl ?_)
  rintro e w25 ⟨A27, n28, c29, rfl, hO30, hk26⟩
  refine ⟨_, rfl, ?_⟩
  have hz31 := hk26.size
  have hB32 := hB24.lo hk26
  have hl33 := hO30.len
  have hl34 := hO30.rd.bound
  refine SR.q' (r_fa fa31_0 rfl) <| SR.store (o := 0) (vs := [.slice A27 n28 c29]) sca28.2 rfl rfl rfl rfl ((hb22).lo hk26) (Nat.le_of_ble_eq_true rfl) rfl ?_
  intro w35 hk36 hs37 hb38
  have hz39 := hk36.size
  have hB40 := hB32.new hk36 (by omega)
  refine SR.nil ?_
  refine W.seq ?_
  refine W.regS (SR.q' (r_fa fa25_1 rfl) <| SR.q' (r_ld (v := .slice Ar_Away nr_Away cr_Away) sca23 rfl ((((((hb6).lo hk12).lo hk20).lo hk26).kp hk36 (fun e' => by have e'' : g1 = g17 := e'; omega)).cell rfl)) <| SR.call ent50 (c_laws_toAwayS w35 r.Away (((((((hr_Away).lo hk4).lo hk12).lo hk20).lo hk26).kp hk36 (fun b_ hb e' => by have e'' : b_ = g17 := e'; omega))) (by omega)) rfl ?_)
  rintro e w41 ⟨A43, n44, c45, rfl, hO46, hk42⟩
  refine ⟨_, rfl, ?_⟩
  have hz47 := hk42.size
  have hB48 := hB40.lo hk42
  have hl49 := hO46.len
  have hl50 := hO46.rd.bound
  refine SR.q' (r_fa fa31_1 rfl) <| SR.store (o := 1) (vs := [.slice A43 n44 c45]) sca29.2 rfl rfl rfl rfl ((hb38).lo hk42) (Nat.le_of_ble_eq_true rfl) rfl ?_
  intro w51 hk52 hs53 hb54
  have hz55 := hk52.size
  have hB56 := hB48.new hk52 (by omega)
  refine SR.nil ?_
  refine W.seq ?_
  refine W.regS (SR.q' (r_fa fa25_2 rfl) <| SR.q' (r_ld (v := .int .i64 r.Bought) sca3 rfl ((((((((hb6).lo hk12).lo hk20).lo hk26).kp hk36 (fun e' => by have e'' : g1 = g17 := e'; omega)).lo hk42).kp hk52 (fun e' => by have e'' : g1 = g17 := e'; omega)).cell rfl)) <| SR.q' (r_fa fa31_2 rfl) <| SR.store (o := 2) (vs := [.int .i64 r.Bought]) sca3.2 rfl rfl rfl rfl (hb54) (Nat.le_of_ble_eq_true rfl) rfl ?_)
  intro w57 hk58 hs59 hb60
  have hz61 := hk58.size
  have hB62 := hB56.new hk58 (by omega)
  refine SR.nil ?_
  refine W.seq ?_
  refine W.regS (SR.q' (r_fa fa25_3 rfl) <| SR.q' (r_ld (v := .int .i64 r.Dropped) sca3 rfl (((((((((hb6).lo hk12).lo hk20).lo hk26).kp hk36 (fun e' => by have e'' : g1 = g17 := e'; omega)).lo hk42).kp hk52 (fun e' => by have e'' : g1 = g17 := e'; omega)).kp hk58 (fun e' => by have e'' : g1 = g17 := e'; omega)).cell rfl)) <| SR.q' (r_fa fa31_3 rfl) <| SR.store (o := 3) (vs := [.int .i64 r.Dropped]) sca3.2 rfl rfl rfl rfl (hb60) (Nat.le_of_ble_eq_true rfl) rfl ?_)
  intro w63 hk64 hs65 hb66
  have hz67 := hk64.size
  have hB68 := hB62.new hk64 (by omega)
  refine SR.nil ?_
  refine W.seq ?_
  refine W.regS (SR.q' (r_fa fa25_4 rfl) <| SR.q' (r_ld (v := .int .i64 r.Mended) sca3 rfl ((((((((((hb6).lo hk12).lo hk20).lo hk26).kp hk36 (fun e' => by have e'' : g1 = g17 := e'; omega)).lo hk42).kp hk52 (fun e' => by have e'' : g1 = g17 := e'; omega)).kp hk58 (fun e' => by have e'' : g1 = g17 := e'; omega)).kp hk64 (fun e' => by have e'' : g1 = g17 := e'; omega)).cell rfl)) <| SR.q' (r_fa fa31_4 rfl) <| SR.store (o := 4) (vs := [.int .i64 r.Mended]) sca3.2 rfl rfl rfl rfl (hb66) (Nat.le_of_ble_eq_true rfl) rfl ?_)
  intro w69 hk70 hs71 hb72
  have hz73 := hk70.size
  have hB74 := hB68.new hk70 (by omega)
  refine SR.nil ?_
  refine W.seq ?_
  refine W.regS (SR.q' (r_lda (l := [.slice A27 n28 c29, .slice A43 n44 c45, .int .i64 r.Bought, .int .i64 r.Dropped, .int .i64 r.Mended]) agg31 rfl (fun _ _ hu => (hb72).cell hu) rfl) <| SR.store (o := 0) (vs := [.slice A27 n28 c29, .slice A43 n44 c45, .int .i64 r.Bought, .int .i64 r.Dropped, .int .i64 r.Mended]) agg31.2 rfl rfl rfl rfl (((((((((hb14).lo hk20).lo hk26).kp hk36 (fun e' => by have e'' : g9 = g17 := e'; omega)).lo hk42).kp hk52 (fun e' => by have e'' : g9 = g17 := e'; omega)).kp hk58 (fun e' => by have e'' : g9 = g17 := e'; omega)).kp hk64 (fun e' => by have e'' : g9 = g17 := e'; omega)).kp hk70 (fun e' => by have e'' : g9 = g17 := e'; omega)) (Nat.le_of_ble_eq_true rfl) rfl ?_)
  intro w75 hk76 hs77 hb78
  have hz79 := hk76.size
  have hB80 := hB74.new hk76 (by omega)
  refine SR.nil ?_
  refine W.ret ?_
  refine retC rfl rfl agg31 (hb78) rfl ?_
  exact ⟨A27, n28, c29, A43, n44, c45, eR rfl, (((((((((hO30).kp hk36 (fun b_ hb e' => by have e'' : b_ = g17 := e'; have := (hO30).base_le hb; omega)).lo hk42).kp hk52 (fun b_ hb e' => by have e'' : b_ = g17 := e'; have := (((hO30).kp hk36 (fun b_ hb e' => by have e'' : b_ = g17 := e'; have := (hO30).base_le hb; omega)).lo hk42).base_le hb; omega)).kp hk58 (fun b_ hb e' => by have e'' : b_ = g17 := e'; have := ((((hO30).kp hk36 (fun b_ hb e' => by have e'' : b_ = g17 := e'; have := (hO30).base_le hb; omega)).lo hk42).kp hk52 (fun b_ hb e' => by have e'' : b_ = g17 := e'; have := (((hO30).kp hk36 (fun b_ hb e' => by have e'' : b_ = g17 := e'; have := (hO30).base_le hb; omega)).lo hk42).base_le hb; omega)).base_le hb; omega)).kp hk64 (fun b_ hb e' => by have e'' : b_ = g17 := e'; have := (((((hO30).kp hk36 (fun b_ hb e' => by have e'' : b_ = g17 := e'; have := (hO30).base_le hb; omega)).lo hk42).kp hk52 (fun b_ hb e' => by have e'' : b_ = g17 := e'; have := (((hO30).kp hk36 (fun b_ hb e' => by have e'' : b_ = g17 := e'; have := (hO30).base_le hb; omega)).lo hk42).base_le hb; omega)).kp hk58 (fun b_ hb e' => by have e'' : b_ = g17 := e'; have := ((((hO30).kp hk36 (fun b_ hb e' => by have e'' : b_ = g17 := e'; have := (hO30).base_le hb; omega)).lo hk42).kp hk52 (fun b_ hb e' => by have e'' : b_ = g17 := e'; have := (((hO30).kp hk36 (fun b_ hb e' => by have e'' : b_ = g17 := e'; have := (hO30).base_le hb; omega)).lo hk42).base_le hb; omega)).base_le hb; omega)).base_le hb; omega)).kp hk70 (fun b_ hb e' => by have e'' : b_ = g17 := e'; have := ((((((hO30).kp hk36 (fun b_ hb e' => by have e'' : b_ = g17 := e'; have := (hO30).base_le hb; omega)).lo hk42).kp hk52 (fun b_ hb e' => by have e'' : b_ = g17 := e'; have := (((hO30).kp hk36 (fun b_ hb e' => by have e'' : b_ = g17 := e'; have := (hO30).base_le hb; omega)).lo hk42).base_le hb; omega)).kp hk58 (fun b_ hb e' => by have e'' : b_ = g17 := e'; have := ((((hO30).kp hk36 (fun b_ hb e' => by have e'' : b_ = g17 := e'; have := (hO30).base_le hb; omega)).lo hk42).kp hk52 (fun b_ hb e' => by have e'' : b_ = g17 := e'; have := (((hO30).kp hk36 (fun b_ hb e' => by have e'' : b_ = g17 := e'; have := (hO30).base_le hb; omega)).lo hk42).base_le hb; omega)).base_le hb; omega)).kp hk64 (fun b_ hb e' => by have e'' : b_ = g17 := e'; have := (((((hO30).kp hk36 (fun b_ hb e' => by have e'' : b_ = g17 := e'; have := (hO30).base_le hb; omega)).lo hk42).kp hk52 (fun b_ hb e' => by have e'' : b_ = g17 := e'; have := (((hO30).kp hk36 (fun b_ hb e' => by have e'' : b_ = g17 := e'; have := (hO30).base_le hb; omega)).lo hk42).base_le hb; omega)).kp hk58 (fun b_ hb e' => by have e'' : b_ = g17 := e'; have := ((((hO30).kp hk36 (fun b_ hb e' => by have e'' : b_ = g17 := e'; have := (hO30).base_le hb; omega)).lo hk42).kp hk52 (fun b_ hb e' => by have e'' : b_ = g17 := e'; have := (((hO30).kp hk36 (fun b_ hb e' => by have e'' : b_ = g17 := e'; have := (hO30).base_le hb; omega)).lo hk42).base_le hb; omega)).base_le hb; omega)).base_le hb; omega)).base_le hb; omega)).kp hk76 (fun b_ hb e' => by have e'' : b_ = g9 := e'; have := (((((((hO30).kp hk36 (fun b_ hb e' => by have e'' : b_ = g17 := e'; have := (hO30).base_le hb; omega)).lo hk42).kp hk52 (fun b_ hb e' => by have e'' : b_ = g17 := e'; have := (((hO30).kp hk36 (fun b_ hb e' => by have e'' : b_ = g17 := e'; have := (hO30).base_le hb; omega)).lo hk42).base_le hb; omega)).kp hk58 (fun b_ hb e' => by have e'' : b_ = g17 := e'; have := ((((hO30).kp hk36 (fun b_ hb e' => by have e'' : b_ = g17 := e'; have := (hO30).base_le hb; omega)).lo hk42).kp hk52 (fun b_ hb e' => by have e'' : b_ = g17 := e'; have := (((hO30).kp hk36 (fun b_ hb e' => by have e'' : b_ = g17 := e'; have := (hO30).base_le hb; omega)).lo hk42).base_le hb; omega)).base_le hb; omega)).kp hk64 (fun b_ hb e' => by have e'' : b_ = g17 := e'; have := (((((hO30).kp hk36 (fun b_ hb e' => by have e'' : b_ = g17 := e'; have := (hO30).base_le hb; omega)).lo hk42).kp hk52 (fun b_ hb e' => by have e'' : b_ = g17 := e'; have := (((hO30).kp hk36 (fun b_ hb e' => by have e'' : b_ = g17 := e'; have := (hO30).base_le hb; omega)).lo hk42).base_le hb; omega)).kp hk58 (fun b_ hb e' => by have e'' : b_ = g17 := e'; have := ((((hO30).kp hk36 (fun b_ hb e' => by have e'' : b_ = g17 := e'; have := (hO30).base_le hb; omega)).lo hk42).kp hk52 (fun b_ hb e' => by have e'' : b_ = g17 := e'; have := (((hO30).kp hk36 (fun b_ hb e' => by have e'' : b_ = g17 := e'; have := (hO30).base_le hb; omega)).lo hk42).base_le hb; omega)).base_le hb; omega)).base_le hb; omega)).kp hk70 (fun b_ hb e' => by have e'' : b_ = g17 := e'; have := ((((((hO30).kp hk36 (fun b_ hb e' => by have e'' : b_ = g17 := e'; have := (hO30).base_le hb; omega)).lo hk42).kp hk52 (fun b_ hb e' => by have e'' : b_ = g17 := e'; have := (((hO30).kp hk36 (fun b_ hb e' => by have e'' : b_ = g17 := e'; have := (hO30).base_le hb; omega)).lo hk42).base_le hb; omega)).kp hk58 (fun b_ hb e' => by have e'' : b_ = g17 := e'; have := ((((hO30).kp hk36 (fun b_ hb e' => by have e'' : b_ = g17 := e'; have := (hO30).base_le hb; omega)).lo hk42).kp hk52 (fun b_ hb e' => by have e'' : b_ = g17 := e'; have := (((hO30).kp hk36 (fun b_ hb e' => by have e'' : b_ = g17 := e'; have := (hO30).base_le hb; omega)).lo hk42).base_le hb; omega)).base_le hb; omega)).kp hk64 (fun b_ hb e' => by have e'' : b_ = g17 := e'; have := (((((hO30).kp hk36 (fun b_ hb e' => by have e'' : b_ = g17 := e'; have := (hO30).base_le hb; omega)).lo hk42).kp hk52 (fun b_ hb e' => by have e'' : b_ = g17 := e'; have := (((hO30).kp hk36 (fun b_ hb e' => by have e'' : b_ = g17 := e'; have := (hO30).base_le hb; omega)).lo hk42).base_le hb; omega)).kp hk58 (fun b_ hb e' => by have e'' : b_ = g17 := e'; have := ((((hO30).kp hk36 (fun b_ hb e' => by have e'' : b_ = g17 := e'; have := (hO30).base_le hb; omega)).lo hk42).kp hk52 (fun b_ hb e' => by have e'' : b_ = g17 := e'; have := (((hO30).kp hk36 (fun b_ hb e' => by have e'' : b_ = g17 := e'; have := (hO30).base_le hb; omega)).lo hk42).base_le hb; omega)).base_le hb; omega)).base_le hb; omega)).base_le hb; omega)).base_le hb; omega)).down (by omega)), (((((((hO46).kp hk52 (fun b_ hb e' => by have e'' : b_ = g17 := e'; have := (hO46).base_le hb; omega)).kp hk58 (fun b_ hb e' => by have e'' : b_ = g17 := e'; have := ((hO46).kp hk52 (fun b_ hb e' => by have e'' : b_ = g17 := e'; have := (hO46).base_le hb; omega)).base_le hb; omega)).kp hk64 (fun b_ hb e' => by have e'' : b_ = g17 := e'; have := (((hO46).kp hk52 (fun b_ hb e' => by have e'' : b_ = g17 := e'; have := (hO46).base_le hb; omega)).kp hk58 (fun b_ hb e' => by have e'' : b_ = g17 := e'; have := ((hO46).kp hk52 (fun b_ hb e' => by have e'' : b_ = g17 := e'; have := (hO46).base_le hb; omega)).base_le hb; omega)).base_le hb; omega)).kp hk70 (fun b_ hb e' => by have e'' : b_ = g17 := e'; have := ((((hO46).kp hk52 (fun b_ hb e' => by have e'' : b_ = g17 := e'; have := (hO46).base_le hb; omega)).kp hk58 (fun b_ hb e' => by have e'' : b_ = g17 := e'; have := ((hO46).kp hk52 (fun b_ hb e' => by have e'' : b_ = g17 := e'; have := (hO46).base_le hb; omega)).base_le hb; omega)).kp hk64 (fun b_ hb e' => by have e'' : b_ = g17 := e'; have := (((hO46).kp hk52 (fun b_ hb e' => by have e'' : b_ = g17 := e'; have := (hO46).base_le hb; omega)).kp hk58 (fun b_ hb e' => by have e'' : b_ = g17 := e'; have := ((hO46).kp hk52 (fun b_ hb e' => by have e'' : b_ = g17 := e'; have := (hO46).base_le hb; omega)).base_le hb; omega)).base_le hb; omega)).base_le hb; omega)).kp hk76 (fun b_ hb e' => by have e'' : b_ = g9 := e'; have := (((((hO46).kp hk52 (fun b_ hb e' => by have e'' : b_ = g17 := e'; have := (hO46).base_le hb; omega)).kp hk58 (fun b_ hb e' => by have e'' : b_ = g17 := e'; have := ((hO46).kp hk52 (fun b_ hb e' => by have e'' : b_ = g17 := e'; have := (hO46).base_le hb; omega)).base_le hb; omega)).kp hk64 (fun b_ hb e' => by have e'' : b_ = g17 := e'; have := (((hO46).kp hk52 (fun b_ hb e' => by have e'' : b_ = g17 := e'; have := (hO46).base_le hb; omega)).kp hk58 (fun b_ hb e' => by have e'' : b_ = g17 := e'; have := ((hO46).kp hk52 (fun b_ hb e' => by have e'' : b_ = g17 := e'; have := (hO46).base_le hb; omega)).base_le hb; omega)).base_le hb; omega)).kp hk70 (fun b_ hb e' => by have e'' : b_ = g17 := e'; have := ((((hO46).kp hk52 (fun b_ hb e' => by have e'' : b_ = g17 := e'; have := (hO46).base_le hb; omega)).kp hk58 (fun b_ hb e' => by have e'' : b_ = g17 := e'; have := ((hO46).kp hk52 (fun b_ hb e' => by have e'' : b_ = g17 := e'; have := (hO46).base_le hb; omega)).base_le hb; omega)).kp hk64 (fun b_ hb e' => by have e'' : b_ = g17 := e'; have := (((hO46).kp hk52 (fun b_ hb e' => by have e'' : b_ = g17 := e'; have := (hO46).base_le hb; omega)).kp hk58 (fun b_ hb e' => by have e'' : b_ = g17 := e'; have := ((hO46).kp hk52 (fun b_ hb e' => by have e'' : b_ = g17 := e'; have := (hO46).base_le hb; omega)).base_le hb; omega)).base_le hb; omega)).base_le hb; omega)).base_le hb; omega)).down (by omega)), (fun b_ h h' => by have h1 := ((hO30).kp hk36 (fun b_ hb e' => by have e'' : b_ = g17 := e'; have := (hO30).base_le hb; omega)).base_le h; have h2 := ((((((hO46).kp hk52 (fun b_ hb e' => by have e'' : b_ = g17 := e'; have := (hO46).base_le hb; omega)).kp hk58 (fun b_ hb e' => by have e'' : b_ = g17 := e'; have := ((hO46).kp hk52 (fun b_ hb e' => by have e'' : b_ = g17 := e'; have := (hO46).base_le hb; omega)).base_le hb; omega)).kp hk64 (fun b_ hb e' => by have e'' : b_ = g17 := e'; have := (((hO46).kp hk52 (fun b_ hb e' => by have e'' : b_ = g17 := e'; have := (hO46).base_le hb; omega)).kp hk58 (fun b_ hb e' => by have e'' : b_ = g17 := e'; have := ((hO46).kp hk52 (fun b_ hb e' => by have e'' : b_ = g17 := e'; have := (hO46).base_le hb; omega)).base_le hb; omega)).base_le hb; omega)).kp hk70 (fun b_ hb e' => by have e'' : b_ = g17 := e'; have := ((((hO46).kp hk52 (fun b_ hb e' => by have e'' : b_ = g17 := e'; have := (hO46).base_le hb; omega)).kp hk58 (fun b_ hb e' => by have e'' : b_ = g17 := e'; have := ((hO46).kp hk52 (fun b_ hb e' => by have e'' : b_ = g17 := e'; have := (hO46).base_le hb; omega)).base_le hb; omega)).kp hk64 (fun b_ hb e' => by have e'' : b_ = g17 := e'; have := (((hO46).kp hk52 (fun b_ hb e' => by have e'' : b_ = g17 := e'; have := (hO46).base_le hb; omega)).kp hk58 (fun b_ hb e' => by have e'' : b_ = g17 := e'; have := ((hO46).kp hk52 (fun b_ hb e' => by have e'' : b_ = g17 := e'; have := (hO46).base_le hb; omega)).base_le hb; omega)).base_le hb; omega)).base_le hb; omega)).kp hk76 (fun b_ hb e' => by have e'' : b_ = g9 := e'; have := (((((hO46).kp hk52 (fun b_ hb e' => by have e'' : b_ = g17 := e'; have := (hO46).base_le hb; omega)).kp hk58 (fun b_ hb e' => by have e'' : b_ = g17 := e'; have := ((hO46).kp hk52 (fun b_ hb e' => by have e'' : b_ = g17 := e'; have := (hO46).base_le hb; omega)).base_le hb; omega)).kp hk64 (fun b_ hb e' => by have e'' : b_ = g17 := e'; have := (((hO46).kp hk52 (fun b_ hb e' => by have e'' : b_ = g17 := e'; have := (hO46).base_le hb; omega)).kp hk58 (fun b_ hb e' => by have e'' : b_ = g17 := e'; have := ((hO46).kp hk52 (fun b_ hb e' => by have e'' : b_ = g17 := e'; have := (hO46).base_le hb; omega)).base_le hb; omega)).base_le hb; omega)).kp hk70 (fun b_ hb e' => by have e'' : b_ = g17 := e'; have := ((((hO46).kp hk52 (fun b_ hb e' => by have e'' : b_ = g17 := e'; have := (hO46).base_le hb; omega)).kp hk58 (fun b_ hb e' => by have e'' : b_ = g17 := e'; have := ((hO46).kp hk52 (fun b_ hb e' => by have e'' : b_ = g17 := e'; have := (hO46).base_le hb; omega)).base_le hb; omega)).kp hk64 (fun b_ hb e' => by have e'' : b_ = g17 := e'; have := (((hO46).kp hk52 (fun b_ hb e' => by have e'' : b_ = g17 := e'; have := (hO46).base_le hb; omega)).kp hk58 (fun b_ hb e' => by have e'' : b_ = g17 := e'; have := ((hO46).kp hk52 (fun b_ hb e' => by have e'' : b_ = g17 := e'; have := (hO46).base_le hb; omega)).base_le hb; omega)).base_le hb; omega)).base_le hb; omega)).base_le hb; omega)).base_le h'; omega), hB80⟩

theorem z_c_laws_szLibrary_14 (r : Library) (nr_Maps : Nat) (hbdr_Maps : (nr_Maps : Int) ≤ 9223372036854775807) (hler_Maps : nr_Maps = r.Maps.length) (nr_Away : Nat) (hbdr_Away : (nr_Away : Int) ≤ 9223372036854775807) (hler_Away : nr_Away = r.Away.length) (left : Int) (hp0 : 0 ≤ left) (hp1 : left ≤ 1048576) (h13 : (szN r.Maps.length left) < 0) : (-1) = szN (r.Maps.length + r.Away.length) left := by
  first | exact szN_neg ‹_› | exact szN_neg1 ‹_› | exact szN_neg2 ‹_› ‹_› | exact szN_add ‹_› ‹_› | (unfold szN at *; repeat (split at *)) <;> omega
theorem z_c_laws_szLibrary_21 (r : Library) (nr_Maps : Nat) (hbdr_Maps : (nr_Maps : Int) ≤ 9223372036854775807) (hler_Maps : nr_Maps = r.Maps.length) (nr_Away : Nat) (hbdr_Away : (nr_Away : Int) ≤ 9223372036854775807) (hler_Away : nr_Away = r.Away.length) (left : Int) (hp0 : 0 ≤ left) (hp1 : left ≤ 1048576) (h13 : ¬ ((szN r.Maps.length left) < 0)) (hq15 : ((r.Maps.length : Nat) : Int) ≤ left ∧ szN r.Maps.length left = left - (r.Maps.length : Int)) (h20 : (szN r.Away.length (szN r.Maps.length left)) < 0) : (-1) = szN (r.Maps.length + r.Away.length) left := by
  first | exact szN_neg ‹_› | exact szN_neg1 ‹_› | exact szN_neg2 ‹_› ‹_› | exact szN_add ‹_› ‹_› | (unfold szN at *; repeat (split at *)) <;> omega
theorem z_c_laws_szLibrary_23 (r : Library) (nr_Maps : Nat) (hbdr_Maps : (nr_Maps : Int) ≤ 9223372036854775807) (hler_Maps : nr_Maps = r.Maps.length) (nr_Away : Nat) (hbdr_Away : (nr_Away : Int) ≤ 9223372036854775807) (hler_Away : nr_Away = r.Away.length) (left : Int) (hp0 : 0 ≤ left) (hp1 : left ≤ 1048576) (h13 : ¬ ((szN r.Maps.length left) < 0)) (hq15 : ((r.Maps.length : Nat) : Int) ≤ left ∧ szN r.Maps.length left = left - (r.Maps.length : Int)) (h20 : ¬ ((szN r.Away.length (szN r.Maps.length left)) < 0)) (hq22 : ((r.Away.length : Nat) : Int) ≤ (szN r.Maps.length left) ∧ szN r.Away.length (szN r.Maps.length left) = (szN r.Maps.length left) - (r.Away.length : Int)) : szN r.Away.length (szN r.Maps.length left) = szN (r.Maps.length + r.Away.length) left := by
  first | exact szN_neg ‹_› | exact szN_neg1 ‹_› | exact szN_neg2 ‹_› ‹_› | exact szN_add ‹_› ‹_› | (unfold szN at *; repeat (split at *)) <;> omega
theorem c_laws_szLibrary (w : World) (r : Library) {Ar_Maps : Option Addr} {nr_Maps cr_Maps Br_Maps : Nat} (hr_Maps : SlR w Br_Maps encLMap 3 Ar_Maps nr_Maps cr_Maps r.Maps) {Ar_Away : Option Addr} {nr_Away cr_Away Br_Away : Nat} (hr_Away : SlR w Br_Away encAway 2 Ar_Away nr_Away cr_Away r.Away) (left : Int) (hp0 : 0 ≤ left) (hp1 : left ≤ 1048576) : Calls Try.prog 12 #[.agg (List.toArray [.slice Ar_Maps nr_Maps cr_Maps, .slice Ar_Away nr_Away cr_Away, .int .i64 r.Bought, .int .i64 r.Dropped, .int .i64 r.Mended]), .int .i64 left] w fun e w' => e = .returned (.int .i64 (szN (r.Maps.length + r.Away.length) left)) ∧ Lo w w' := by
  refine calls_W 18 Try.func12 rfl rfl rfl ?_
  have hbdr_Maps := hr_Maps.bound
  have hler_Maps := hr_Maps.len
  have hBbr_Maps := hr_Maps.bd
  have hbdr_Away := hr_Away.bound
  have hler_Away := hr_Away.len
  have hBbr_Away := hr_Away.bd
  refine W.seq ?_
  refine W.regS (SR.box (v := .agg (List.toArray _)) (l := [.slice Ar_Maps nr_Maps cr_Maps, .slice Ar_Away nr_Away cr_Away, .int .i64 r.Bought, .int .i64 r.Dropped, .int .i64 r.Mended]) rfl rfl ?_)
  intro g1 w2 hg3 hk4 hs5 hb6
  have hz7 := hk4.size
  have hB8 := (Lo.refl w).lo hk4
  refine SR.q' (r_as (v := .int .i64 0) rfl) <| SR.nil ?_
  refine W.seq ?_
  refine W.regS (SR.q' (r_fa fa25_0 rfl) <| SR.q' (r_ld (v := .slice Ar_Maps nr_Maps cr_Maps) sca22 rfl ((hb6).cell rfl)) <| SR.q' (r_mv (v := .int .i64 _) rfl) <| SR.call ent46 (c_laws_szMapS w2 r.Maps (((hr_Maps).lo hk4)) left (by omega) (by omega)) rfl ?_)
  rintro e w9 ⟨rfl, hk10⟩
  refine ⟨_, rfl, ?_⟩
  have hz11 := hk10.size
  have hB12 := hB8.lo hk10
  refine SR.q' (r_as (v := .int .i64 _) rfl) <| SR.nil ?_
  refine W.seq ?_
  refine W.seq ?_
  refine W.regS (SR.q' (r_mv (v := .int .i64 _) rfl) <| SR.q' (r_lt rfl rfl) <| SR.nil ?_)
  refine W.cond_d rfl (fun h13 => ?_) (fun h13 => ?_)
  · refine W.seq ?_
    refine W.regS (SR.q' (r_as (v := .int .i64 (-1)) rfl) <| SR.nil ?_)
    refine W.ret ?_
    refine ret1 rfl (v := .int .i64 _) rfl ?_
    exact ⟨eR (eI (z_c_laws_szLibrary_14 r nr_Maps hbdr_Maps hler_Maps nr_Away hbdr_Away hler_Away left hp0 hp1 h13)), hB12⟩
  · have hq15 := szN_ok h13
    refine W.skip ?_
    refine W.seq ?_
    refine W.regS (SR.q' (r_fa fa25_1 rfl) <| SR.q' (r_ld (v := .slice Ar_Away nr_Away cr_Away) sca23 rfl (((hb6).lo hk10).cell rfl)) <| SR.q' (r_mv (v := .int .i64 _) rfl) <| SR.call ent47 (c_laws_szAwayS w9 r.Away ((((hr_Away).lo hk4).lo hk10)) (szN r.Maps.length left) (by omega) (by omega)) rfl ?_)
    rintro e w16 ⟨rfl, hk17⟩
    refine ⟨_, rfl, ?_⟩
    have hz18 := hk17.size
    have hB19 := hB12.lo hk17
    refine SR.q' (r_as (v := .int .i64 _) rfl) <| SR.nil ?_
    refine W.seq ?_
    refine W.seq ?_
    refine W.regS (SR.q' (r_mv (v := .int .i64 _) rfl) <| SR.q' (r_lt rfl rfl) <| SR.nil ?_)
    refine W.cond_d rfl (fun h20 => ?_) (fun h20 => ?_)
    · refine W.seq ?_
      refine W.regS (SR.q' (r_as (v := .int .i64 (-1)) rfl) <| SR.nil ?_)
      refine W.ret ?_
      refine ret1 rfl (v := .int .i64 _) rfl ?_
      exact ⟨eR (eI (z_c_laws_szLibrary_21 r nr_Maps hbdr_Maps hler_Maps nr_Away hbdr_Away hler_Away left hp0 hp1 h13 hq15 h20)), hB19⟩
    · have hq22 := szN_ok h20
      refine W.skip ?_
      refine W.seq ?_
      refine W.regS (SR.q' (r_mv (v := .int .i64 _) rfl) <| SR.q' (r_as (v := .int .i64 _) rfl) <| SR.nil ?_)
      refine W.ret ?_
      refine ret1 rfl (v := .int .i64 _) rfl ?_
      exact ⟨eR (eI (z_c_laws_szLibrary_23 r nr_Maps hbdr_Maps hler_Maps nr_Away hbdr_Away hler_Away left hp0 hp1 h13 hq15 h20 hq22)), hB19⟩

theorem z_c_laws_eqLibrary_22 (a : Library) (na_Maps : Nat) (hbda_Maps : (na_Maps : Int) ≤ 9223372036854775807) (hlea_Maps : na_Maps = a.Maps.length) (na_Away : Nat) (hbda_Away : (na_Away : Int) ≤ 9223372036854775807) (hlea_Away : na_Away = a.Away.length) (b : Library) (nb_Maps : Nat) (hbdb_Maps : (nb_Maps : Int) ≤ 9223372036854775807) (hleb_Maps : nb_Maps = b.Maps.length) (nb_Away : Nat) (hbdb_Away : (nb_Away : Int) ≤ 9223372036854775807) (hleb_Away : nb_Away = b.Away.length) (h21 : ¬ (a.Maps = b.Maps)) : ¬ (a = b) := by
  cases a; cases b; simp_all
theorem z_c_laws_eqLibrary_28 (a : Library) (na_Maps : Nat) (hbda_Maps : (na_Maps : Int) ≤ 9223372036854775807) (hlea_Maps : na_Maps = a.Maps.length) (na_Away : Nat) (hbda_Away : (na_Away : Int) ≤ 9223372036854775807) (hlea_Away : na_Away = a.Away.length) (b : Library) (nb_Maps : Nat) (hbdb_Maps : (nb_Maps : Int) ≤ 9223372036854775807) (hleb_Maps : nb_Maps = b.Maps.length) (nb_Away : Nat) (hbdb_Away : (nb_Away : Int) ≤ 9223372036854775807) (hleb_Away : nb_Away = b.Away.length) (h21 : a.Maps = b.Maps) (h27 : ¬ (a.Away = b.Away)) : ¬ (a = b) := by
  cases a; cases b; simp_all
theorem z_c_laws_eqLibrary_30 (a : Library) (na_Maps : Nat) (hbda_Maps : (na_Maps : Int) ≤ 9223372036854775807) (hlea_Maps : na_Maps = a.Maps.length) (na_Away : Nat) (hbda_Away : (na_Away : Int) ≤ 9223372036854775807) (hlea_Away : na_Away = a.Away.length) (b : Library) (nb_Maps : Nat) (hbdb_Maps : (nb_Maps : Int) ≤ 9223372036854775807) (hleb_Maps : nb_Maps = b.Maps.length) (nb_Away : Nat) (hbdb_Away : (nb_Away : Int) ≤ 9223372036854775807) (hleb_Away : nb_Away = b.Away.length) (h21 : a.Maps = b.Maps) (h27 : a.Away = b.Away) (h29 : ¬ (a.Bought = b.Bought)) : ¬ (a = b) := by
  cases a; cases b; simp_all
theorem z_c_laws_eqLibrary_32 (a : Library) (na_Maps : Nat) (hbda_Maps : (na_Maps : Int) ≤ 9223372036854775807) (hlea_Maps : na_Maps = a.Maps.length) (na_Away : Nat) (hbda_Away : (na_Away : Int) ≤ 9223372036854775807) (hlea_Away : na_Away = a.Away.length) (b : Library) (nb_Maps : Nat) (hbdb_Maps : (nb_Maps : Int) ≤ 9223372036854775807) (hleb_Maps : nb_Maps = b.Maps.length) (nb_Away : Nat) (hbdb_Away : (nb_Away : Int) ≤ 9223372036854775807) (hleb_Away : nb_Away = b.Away.length) (h21 : a.Maps = b.Maps) (h27 : a.Away = b.Away) (h29 : a.Bought = b.Bought) (h31 : ¬ (a.Dropped = b.Dropped)) : ¬ (a = b) := by
  cases a; cases b; simp_all
theorem z_c_laws_eqLibrary_34 (a : Library) (na_Maps : Nat) (hbda_Maps : (na_Maps : Int) ≤ 9223372036854775807) (hlea_Maps : na_Maps = a.Maps.length) (na_Away : Nat) (hbda_Away : (na_Away : Int) ≤ 9223372036854775807) (hlea_Away : na_Away = a.Away.length) (b : Library) (nb_Maps : Nat) (hbdb_Maps : (nb_Maps : Int) ≤ 9223372036854775807) (hleb_Maps : nb_Maps = b.Maps.length) (nb_Away : Nat) (hbdb_Away : (nb_Away : Int) ≤ 9223372036854775807) (hleb_Away : nb_Away = b.Away.length) (h21 : a.Maps = b.Maps) (h27 : a.Away = b.Away) (h29 : a.Bought = b.Bought) (h31 : a.Dropped = b.Dropped) (h33 : ¬ (a.Mended = b.Mended)) : ¬ (a = b) := by
  cases a; cases b; simp_all
theorem z_c_laws_eqLibrary_35 (a : Library) (na_Maps : Nat) (hbda_Maps : (na_Maps : Int) ≤ 9223372036854775807) (hlea_Maps : na_Maps = a.Maps.length) (na_Away : Nat) (hbda_Away : (na_Away : Int) ≤ 9223372036854775807) (hlea_Away : na_Away = a.Away.length) (b : Library) (nb_Maps : Nat) (hbdb_Maps : (nb_Maps : Int) ≤ 9223372036854775807) (hleb_Maps : nb_Maps = b.Maps.length) (nb_Away : Nat) (hbdb_Away : (nb_Away : Int) ≤ 9223372036854775807) (hleb_Away : nb_Away = b.Away.length) (h21 : a.Maps = b.Maps) (h27 : a.Away = b.Away) (h29 : a.Bought = b.Bought) (h31 : a.Dropped = b.Dropped) (h33 : a.Mended = b.Mended) : a = b := by
  cases a; cases b; simp_all
theorem c_laws_eqLibrary (w : World) (a : Library) {Aa_Maps : Option Addr} {na_Maps ca_Maps Ba_Maps : Nat} (ha_Maps : SlR w Ba_Maps encLMap 3 Aa_Maps na_Maps ca_Maps a.Maps) {Aa_Away : Option Addr} {na_Away ca_Away Ba_Away : Nat} (ha_Away : SlR w Ba_Away encAway 2 Aa_Away na_Away ca_Away a.Away) (b : Library) {Ab_Maps : Option Addr} {nb_Maps cb_Maps Bb_Maps : Nat} (hb_Maps : SlR w Bb_Maps encLMap 3 Ab_Maps nb_Maps cb_Maps b.Maps) {Ab_Away : Option Addr} {nb_Away cb_Away Bb_Away : Nat} (hb_Away : SlR w Bb_Away encAway 2 Ab_Away nb_Away cb_Away b.Away) : Calls Try.prog 16 #[.agg (List.toArray [.slice Aa_Maps na_Maps ca_Maps, .slice Aa_Away na_Away ca_Away, .int .i64 a.Bought, .int .i64 a.Dropped, .int .i64 a.Mended]), .agg (List.toArray [.slice Ab_Maps nb_Maps cb_Maps, .slice Ab_Away nb_Away cb_Away, .int .i64 b.Bought, .int .i64 b.Dropped, .int .i64 b.Mended])] w fun e w' => e = .returned (.bool (decide (a = b))) ∧ Lo w w' := by
  refine calls_W 32 Try.func16 rfl rfl rfl ?_
  have hbda_Maps := ha_Maps.bound
  have hlea_Maps := ha_Maps.len
  have hBba_Maps := ha_Maps.bd
  have hbda_Away := ha_Away.bound
  have hlea_Away := ha_Away.len
  have hBba_Away := ha_Away.bd
  have hbdb_Maps := hb_Maps.bound
  have hleb_Maps := hb_Maps.len
  have hBbb_Maps := hb_Maps.bd
  have hbdb_Away := hb_Away.bound
  have hleb_Away := hb_Away.len
  have hBbb_Away := hb_Away.bd
  refine W.seq ?_
  refine W.regS (SR.box (v := .agg (List.toArray _)) (l := [.slice Aa_Maps na_Maps ca_Maps, .slice Aa_Away na_Away ca_Away, .int .i64 a.Bought, .int .i64 a.Dropped, .int .i64 a.Mended]) rfl rfl ?_)
  intro g1 w2 hg3 hk4 hs5 hb6
  have hz7 := hk4.size
  have hB8 := (Lo.refl w).lo hk4
  refine SR.box (v := .agg (List.toArray _)) (l := [.slice Ab_Maps nb_Maps cb_Maps, .slice Ab_Away nb_Away cb_Away, .int .i64 b.Bought, .int .i64 b.Dropped, .int .i64 b.Mended]) rfl rfl ?_
  intro g9 w10 hg11 hk12 hs13 hb14
  have hz15 := hk12.size
  have hB16 := hB8.lo hk12
  refine SR.q' (r_as (v := .bool false) rfl) <| SR.nil ?_
  refine W.seq ?_
  refine W.seq ?_
  refine W.regS (SR.q' (r_fa fa31_0 rfl) <| SR.q' (r_ld (v := .slice Aa_Maps na_Maps ca_Maps) sca28 rfl (((hb6).lo hk12).cell rfl)) <| SR.q' (r_fa fa31_0 rfl) <| SR.q' (r_ld (v := .slice Ab_Maps nb_Maps cb_Maps) sca28 rfl ((hb14).cell rfl)) <| SR.call ent58 (c_laws_eqMapS w10 a.Maps ((((ha_Maps).lo hk4).lo hk12)) b.Maps ((((hb_Maps).lo hk4).lo hk12))) rfl ?_)
  rintro e w17 ⟨rfl, hk18⟩
  refine ⟨_, rfl, ?_⟩
  have hz19 := hk18.size
  have hB20 := hB16.lo hk18
  refine SR.q' (r_not rfl) <| SR.nil ?_
  refine W.cond_n rfl (fun h21 => ?_) (fun h21 => ?_)
  · refine W.seq ?_
    refine W.regS (SR.q' (r_as (v := .bool false) rfl) <| SR.nil ?_)
    refine W.ret ?_
    refine ret1 rfl (v := .bool _) rfl ?_
    exact ⟨eR (eDF (z_c_laws_eqLibrary_22 a na_Maps hbda_Maps hlea_Maps na_Away hbda_Away hlea_Away b nb_Maps hbdb_Maps hleb_Maps nb_Away hbdb_Away hleb_Away h21)), hB20⟩
  · refine W.skip ?_
    refine W.seq ?_
    refine W.seq ?_
    refine W.regS (SR.q' (r_fa fa31_1 rfl) <| SR.q' (r_ld (v := .slice Aa_Away na_Away ca_Away) sca29 rfl ((((hb6).lo hk12).lo hk18).cell rfl)) <| SR.q' (r_fa fa31_1 rfl) <| SR.q' (r_ld (v := .slice Ab_Away nb_Away cb_Away) sca29 rfl (((hb14).lo hk18).cell rfl)) <| SR.call ent59 (c_laws_eqAwayS w17 a.Away (((((ha_Away).lo hk4).lo hk12).lo hk18)) b.Away (((((hb_Away).lo hk4).lo hk12).lo hk18))) rfl ?_)
    rintro e w23 ⟨rfl, hk24⟩
    refine ⟨_, rfl, ?_⟩
    have hz25 := hk24.size
    have hB26 := hB20.lo hk24
    refine SR.q' (r_not rfl) <| SR.nil ?_
    refine W.cond_n rfl (fun h27 => ?_) (fun h27 => ?_)
    · refine W.seq ?_
      refine W.regS (SR.q' (r_as (v := .bool false) rfl) <| SR.nil ?_)
      refine W.ret ?_
      refine ret1 rfl (v := .bool _) rfl ?_
      exact ⟨eR (eDF (z_c_laws_eqLibrary_28 a na_Maps hbda_Maps hlea_Maps na_Away hbda_Away hlea_Away b nb_Maps hbdb_Maps hleb_Maps nb_Away hbdb_Away hleb_Away h21 h27)), hB26⟩
    · refine W.skip ?_
      refine W.seq ?_
      refine W.seq ?_
      refine W.regS (SR.q' (r_fa fa31_2 rfl) <| SR.q' (r_ld (v := .int .i64 a.Bought) sca3 rfl (((((hb6).lo hk12).lo hk18).lo hk24).cell rfl)) <| SR.q' (r_fa fa31_2 rfl) <| SR.q' (r_ld (v := .int .i64 b.Bought) sca3 rfl ((((hb14).lo hk18).lo hk24).cell rfl)) <| SR.q' (r_ne rfl rfl) <| SR.nil ?_)
      refine W.cond_n rfl (fun h29 => ?_) (fun h29 => ?_)
      · refine W.seq ?_
        refine W.regS (SR.q' (r_as (v := .bool false) rfl) <| SR.nil ?_)
        refine W.ret ?_
        refine ret1 rfl (v := .bool _) rfl ?_
        exact ⟨eR (eDF (z_c_laws_eqLibrary_30 a na_Maps hbda_Maps hlea_Maps na_Away hbda_Away hlea_Away b nb_Maps hbdb_Maps hleb_Maps nb_Away hbdb_Away hleb_Away h21 h27 h29)), hB26⟩
      · refine W.skip ?_
        refine W.seq ?_
        refine W.seq ?_
        refine W.regS (SR.q' (r_fa fa31_3 rfl) <| SR.q' (r_ld (v := .int .i64 a.Dropped) sca3 rfl (((((hb6).lo hk12).lo hk18).lo hk24).cell rfl)) <| SR.q' (r_fa fa31_3 rfl) <| SR.q' (r_ld (v := .int .i64 b.Dropped) sca3 rfl ((((hb14).lo hk18).lo hk24).cell rfl)) <| SR.q' (r_ne rfl rfl) <| SR.nil ?_)
        refine W.cond_n rfl (fun h31 => ?_) (fun h31 => ?_)
        · refine W.seq ?_
          refine W.regS (SR.q' (r_as (v := .bool false) rfl) <| SR.nil ?_)
          refine W.ret ?_
          refine ret1 rfl (v := .bool _) rfl ?_
          exact ⟨eR (eDF (z_c_laws_eqLibrary_32 a na_Maps hbda_Maps hlea_Maps na_Away hbda_Away hlea_Away b nb_Maps hbdb_Maps hleb_Maps nb_Away hbdb_Away hleb_Away h21 h27 h29 h31)), hB26⟩
        · refine W.skip ?_
          refine W.seq ?_
          refine W.seq ?_
          refine W.regS (SR.q' (r_fa fa31_4 rfl) <| SR.q' (r_ld (v := .int .i64 a.Mended) sca3 rfl (((((hb6).lo hk12).lo hk18).lo hk24).cell rfl)) <| SR.q' (r_fa fa31_4 rfl) <| SR.q' (r_ld (v := .int .i64 b.Mended) sca3 rfl ((((hb14).lo hk18).lo hk24).cell rfl)) <| SR.q' (r_ne rfl rfl) <| SR.nil ?_)
          refine W.cond_n rfl (fun h33 => ?_) (fun h33 => ?_)
          · refine W.seq ?_
            refine W.regS (SR.q' (r_as (v := .bool false) rfl) <| SR.nil ?_)
            refine W.ret ?_
            refine ret1 rfl (v := .bool _) rfl ?_
            exact ⟨eR (eDF (z_c_laws_eqLibrary_34 a na_Maps hbda_Maps hlea_Maps na_Away hbda_Away hlea_Away b nb_Maps hbdb_Maps hleb_Maps nb_Away hbdb_Away hleb_Away h21 h27 h29 h31 h33)), hB26⟩
          · refine W.skip ?_
            refine W.seq ?_
            refine W.regS (SR.q' (r_as (v := .bool true) rfl) <| SR.nil ?_)
            refine W.ret ?_
            refine ret1 rfl (v := .bool _) rfl ?_
            exact ⟨eR (eDT (z_c_laws_eqLibrary_35 a na_Maps hbda_Maps hlea_Maps na_Away hbda_Away hlea_Away b nb_Maps hbdb_Maps hleb_Maps nb_Away hbdb_Away hleb_Away h21 h27 h29 h31 h33)), hB26⟩

theorem z_c_laws_markLibrary_21 (r : Library) (nr_Maps : Nat) (hbdr_Maps : (nr_Maps : Int) ≤ 9223372036854775807) (hler_Maps : nr_Maps = r.Maps.length) (nr_Away : Nat) (hbdr_Away : (nr_Away : Int) ≤ 9223372036854775807) (hler_Away : nr_Away = r.Away.length) (k : Int) (hp0 : 0 ≤ k) (hp1 : k ≤ 1000) (hp2 : (nr_Maps : Int) ≤ 1048576) (hp3 : (nr_Away : Int) ≤ 1048576) : (k + 3 * (r.Maps.length : Int)) + 2 * (r.Away.length : Int) = k + 3 * (r.Maps.length : Int) + 2 * (r.Away.length : Int) := by
  first | rfl | omega
theorem c_laws_markLibrary (w : World) (r : Library) {Ar_Maps : Option Addr} {nr_Maps cr_Maps Br_Maps : Nat} (hr_Maps : SlO w Br_Maps encLMap 3 73 Ar_Maps nr_Maps cr_Maps r.Maps) {Ar_Away : Option Addr} {nr_Away cr_Away Br_Away : Nat} (hr_Away : SlO w Br_Away encAway 2 77 Ar_Away nr_Away cr_Away r.Away) (k : Int) (hdr_Maps_r_Away : ∀ b_, Ar_Maps = some ⟨b_, 0, none⟩ → ¬ Ar_Away = some ⟨b_, 0, none⟩) (hp0 : 0 ≤ k) (hp1 : k ≤ 1000) (hp2 : (nr_Maps : Int) ≤ 1048576) (hp3 : (nr_Away : Int) ≤ 1048576) : Calls Try.prog 24 #[.agg (List.toArray [.slice Ar_Maps nr_Maps cr_Maps, .slice Ar_Away nr_Away cr_Away, .int .i64 r.Bought, .int .i64 r.Dropped, .int .i64 r.Mended]), .int .i64 k] w fun e w' => e = .returned (.int .i64 (k + 3 * (r.Maps.length : Int) + 2 * (r.Away.length : Int))) ∧ SlO w' Br_Maps encLMap 3 73 Ar_Maps nr_Maps cr_Maps (mkL mkLMap 3 r.Maps.length k) ∧ SlO w' Br_Away encAway 2 77 Ar_Away nr_Away cr_Away (mkL mkAway 2 r.Away.length (k + 3 * (r.Maps.length : Int))) ∧ Kp (fun b_ => Ar_Maps = some ⟨b_, 0, none⟩ ∨ Ar_Away = some ⟨b_, 0, none⟩) w w' := by
  refine calls_W 14 Try.func24 rfl rfl rfl ?_
  have hbdr_Maps := hr_Maps.rd.bound
  have hler_Maps := hr_Maps.len
  have hBbr_Maps := hr_Maps.bd
  have hbdr_Away := hr_Away.rd.bound
  have hler_Away := hr_Away.len
  have hBbr_Away := hr_Away.bd
  refine W.seq ?_
  refine W.regS (SR.box (v := .agg (List.toArray _)) (l := [.slice Ar_Maps nr_Maps cr_Maps, .slice Ar_Away nr_Away cr_Away, .int .i64 r.Bought, .int .i64 r.Dropped, .int .i64 r.Mended]) rfl rfl ?_)
  intro g1 w2 hg3 hk4 hs5 hb6
  have hz7 := hk4.size
  have hB8 := (Kp.refl w : Kp (fun b_ => Ar_Maps = some ⟨b_, 0, none⟩ ∨ Ar_Away = some ⟨b_, 0, none⟩) w w).lo hk4
  have hd9 : ¬ Ar_Maps = some ⟨g1, 0, none⟩ := fun e' => by have := (hr_Maps).base_le e'; omega
  have hd10 : ¬ Ar_Away = some ⟨g1, 0, none⟩ := fun e' => by have := (hr_Away).base_le e'; omega
  refine SR.q' (r_as (v := .int .i64 0) rfl) <| SR.nil ?_
  refine W.seq ?_
  refine W.regS (SR.q' (r_fa fa31_0 rfl) <| SR.q' (r_ld (v := .slice Ar_Maps nr_Maps cr_Maps) sca28 rfl ((hb6).cell rfl)) <| SR.q' (r_mv (v := .int .i64 _) rfl) <| SR.call ent62 (c_laws_markMapS w2 r.Maps ((hr_Maps).lo hk4) k (by omega) (by omega) (by omega)) rfl ?_)
  rintro e w11 ⟨rfl, hO13, hk12⟩
  refine ⟨_, rfl, ?_⟩
  have hz14 := hk12.size
  have hB15 := hB8.step hk12 (fun i_ hi_ e' => by have := (((hr_Maps).lo hk4)).base_le e'; first | omega | (exfalso; omega) | exact e' | exact .inl e' | exact .inr e')
  refine SR.q' (r_as (v := .int .i64 _) rfl) <| SR.nil ?_
  refine W.seq ?_
  refine W.regS (SR.q' (r_fa fa31_1 rfl) <| SR.q' (r_ld (v := .slice Ar_Away nr_Away cr_Away) sca29 rfl (((hb6).kp hk12 (fun e' => hd9 e')).cell rfl)) <| SR.q' (r_mv (v := .int .i64 _) rfl) <| SR.call ent63 (c_laws_markAwayS w11 r.Away (((hr_Away).lo hk4).kp hk12 (fun b_ hb e' => hdr_Maps_r_Away b_ e' hb)) (k + 3 * (r.Maps.length : Int)) (by omega) (by omega) (by omega)) rfl ?_)
  rintro e w16 ⟨rfl, hO18, hk17⟩
  refine ⟨_, rfl, ?_⟩
  have hz19 := hk17.size
  have hB20 := hB15.step hk17 (fun i_ hi_ e' => by have := ((((hr_Away).lo hk4).kp hk12 (fun b_ hb e' => hdr_Maps_r_Away b_ e' hb))).base_le e'; first | omega | (exfalso; omega) | exact e' | exact .inl e' | exact .inr e')
  refine SR.q' (r_as (v := .int .i64 _) rfl) <| SR.nil ?_
  refine W.seq ?_
  refine W.regS (SR.q' (r_mv (v := .int .i64 _) rfl) <| SR.q' (r_as (v := .int .i64 _) rfl) <| SR.nil ?_)
  refine W.ret ?_
  refine ret1 rfl (v := .int .i64 _) rfl ?_
  exact ⟨eR (eI (z_c_laws_markLibrary_21 r nr_Maps hbdr_Maps hler_Maps nr_Away hbdr_Away hler_Away k hp0 hp1 hp2 hp3)), ((hO13).kp hk17 (fun b_ hb e' => hdr_Maps_r_Away b_ hb e')), (hO18), hB20⟩

theorem z_c_laws_heldLibrary_14 (r : Library) (nr_Maps : Nat) (hbdr_Maps : (nr_Maps : Int) ≤ 9223372036854775807) (hler_Maps : nr_Maps = r.Maps.length) (nr_Away : Nat) (hbdr_Away : (nr_Away : Int) ≤ 9223372036854775807) (hler_Away : nr_Away = r.Away.length) (k : Int) (m_Maps : Nat) (m_Away : Nat) (hp0 : 0 ≤ k) (hp1 : k ≤ 1000) (hp2 : (nr_Maps : Int) ≤ 1048576) (hp3 : (nr_Away : Int) ≤ 1048576) (hp4 : r.Maps = mkL mkLMap 3 m_Maps k) (hp5 : r.Away = mkL mkAway 2 m_Away (k + 3 * (m_Maps : Int))) (hp6 : (m_Maps : Int) ≤ 1048576) (hp7 : (m_Away : Int) ≤ 1048576) (h13 : (k + 3 * (m_Maps : Int)) < 0) : (-1) = k + 3 * (m_Maps : Int) + 2 * (m_Away : Int) := by
  first | rfl | omega
theorem z_c_laws_heldLibrary_20 (r : Library) (nr_Maps : Nat) (hbdr_Maps : (nr_Maps : Int) ≤ 9223372036854775807) (hler_Maps : nr_Maps = r.Maps.length) (nr_Away : Nat) (hbdr_Away : (nr_Away : Int) ≤ 9223372036854775807) (hler_Away : nr_Away = r.Away.length) (k : Int) (m_Maps : Nat) (m_Away : Nat) (hp0 : 0 ≤ k) (hp1 : k ≤ 1000) (hp2 : (nr_Maps : Int) ≤ 1048576) (hp3 : (nr_Away : Int) ≤ 1048576) (hp4 : r.Maps = mkL mkLMap 3 m_Maps k) (hp5 : r.Away = mkL mkAway 2 m_Away (k + 3 * (m_Maps : Int))) (hp6 : (m_Maps : Int) ≤ 1048576) (hp7 : (m_Away : Int) ≤ 1048576) (h13 : ¬ ((k + 3 * (m_Maps : Int)) < 0)) (h19 : ((k + 3 * (m_Maps : Int)) + 2 * (m_Away : Int)) < 0) : (-1) = k + 3 * (m_Maps : Int) + 2 * (m_Away : Int) := by
  first | rfl | omega
theorem z_c_laws_heldLibrary_21 (r : Library) (nr_Maps : Nat) (hbdr_Maps : (nr_Maps : Int) ≤ 9223372036854775807) (hler_Maps : nr_Maps = r.Maps.length) (nr_Away : Nat) (hbdr_Away : (nr_Away : Int) ≤ 9223372036854775807) (hler_Away : nr_Away = r.Away.length) (k : Int) (m_Maps : Nat) (m_Away : Nat) (hp0 : 0 ≤ k) (hp1 : k ≤ 1000) (hp2 : (nr_Maps : Int) ≤ 1048576) (hp3 : (nr_Away : Int) ≤ 1048576) (hp4 : r.Maps = mkL mkLMap 3 m_Maps k) (hp5 : r.Away = mkL mkAway 2 m_Away (k + 3 * (m_Maps : Int))) (hp6 : (m_Maps : Int) ≤ 1048576) (hp7 : (m_Away : Int) ≤ 1048576) (h13 : ¬ ((k + 3 * (m_Maps : Int)) < 0)) (h19 : ¬ (((k + 3 * (m_Maps : Int)) + 2 * (m_Away : Int)) < 0)) : (k + 3 * (m_Maps : Int)) + 2 * (m_Away : Int) = k + 3 * (m_Maps : Int) + 2 * (m_Away : Int) := by
  first | rfl | omega
theorem c_laws_heldLibrary (w : World) (r : Library) {Ar_Maps : Option Addr} {nr_Maps cr_Maps Br_Maps : Nat} (hr_Maps : SlR w Br_Maps encLMap 3 Ar_Maps nr_Maps cr_Maps r.Maps) {Ar_Away : Option Addr} {nr_Away cr_Away Br_Away : Nat} (hr_Away : SlR w Br_Away encAway 2 Ar_Away nr_Away cr_Away r.Away) (k : Int) (m_Maps : Nat) (m_Away : Nat) (hp0 : 0 ≤ k) (hp1 : k ≤ 1000) (hp2 : (nr_Maps : Int) ≤ 1048576) (hp3 : (nr_Away : Int) ≤ 1048576) (hp4 : r.Maps = mkL mkLMap 3 m_Maps k) (hp5 : r.Away = mkL mkAway 2 m_Away (k + 3 * (m_Maps : Int))) (hp6 : (m_Maps : Int) ≤ 1048576) (hp7 : (m_Away : Int) ≤ 1048576) : Calls Try.prog 34 #[.agg (List.toArray [.slice Ar_Maps nr_Maps cr_Maps, .slice Ar_Away nr_Away cr_Away, .int .i64 r.Bought, .int .i64 r.Dropped, .int .i64 r.Mended]), .int .i64 k] w fun e w' => e = .returned (.int .i64 (k + 3 * (m_Maps : Int) + 2 * (m_Away : Int))) ∧ Lo w w' := by
  refine calls_W 18 Try.func34 rfl rfl rfl ?_
  have hbdr_Maps := hr_Maps.bound
  have hler_Maps := hr_Maps.len
  have hBbr_Maps := hr_Maps.bd
  have hbdr_Away := hr_Away.bound
  have hler_Away := hr_Away.len
  have hBbr_Away := hr_Away.bd
  refine W.seq ?_
  refine W.regS (SR.box (v := .agg (List.toArray _)) (l := [.slice Ar_Maps nr_Maps cr_Maps, .slice Ar_Away nr_Away cr_Away, .int .i64 r.Bought, .int .i64 r.Dropped, .int .i64 r.Mended]) rfl rfl ?_)
  intro g1 w2 hg3 hk4 hs5 hb6
  have hz7 := hk4.size
  have hB8 := (Lo.refl w).lo hk4
  refine SR.q' (r_as (v := .int .i64 0) rfl) <| SR.nil ?_
  refine W.seq ?_
  refine W.regS (SR.q' (r_fa fa31_0 rfl) <| SR.q' (r_ld (v := .slice Ar_Maps nr_Maps cr_Maps) sca28 rfl ((hb6).cell rfl)) <| SR.q' (r_mv (v := .int .i64 _) rfl) <| SR.call ent70 (c_laws_heldMapS w2 r.Maps (((hr_Maps).lo hk4)) k m_Maps (by omega) (by omega) (by omega) (by first | rfl | assumption)) rfl ?_)
  rintro e w9 ⟨rfl, hk10⟩
  refine ⟨_, rfl, ?_⟩
  have hz11 := hk10.size
  have hB12 := hB8.lo hk10
  refine SR.q' (r_as (v := .int .i64 _) rfl) <| SR.nil ?_
  refine W.seq ?_
  refine W.seq ?_
  refine W.regS (SR.q' (r_mv (v := .int .i64 _) rfl) <| SR.q' (r_lt rfl rfl) <| SR.nil ?_)
  refine W.cond_d rfl (fun h13 => ?_) (fun h13 => ?_)
  · refine W.seq ?_
    refine W.regS (SR.q' (r_as (v := .int .i64 (-1)) rfl) <| SR.nil ?_)
    refine W.ret ?_
    refine ret1 rfl (v := .int .i64 _) rfl ?_
    exact ⟨eR (eI (z_c_laws_heldLibrary_14 r nr_Maps hbdr_Maps hler_Maps nr_Away hbdr_Away hler_Away k m_Maps m_Away hp0 hp1 hp2 hp3 hp4 hp5 hp6 hp7 h13)), hB12⟩
  · refine W.skip ?_
    refine W.seq ?_
    refine W.regS (SR.q' (r_fa fa31_1 rfl) <| SR.q' (r_ld (v := .slice Ar_Away nr_Away cr_Away) sca29 rfl (((hb6).lo hk10).cell rfl)) <| SR.q' (r_mv (v := .int .i64 _) rfl) <| SR.call ent71 (c_laws_heldAwayS w9 r.Away ((((hr_Away).lo hk4).lo hk10)) (k + 3 * (m_Maps : Int)) m_Away (by omega) (by omega) (by omega) (by first | rfl | assumption)) rfl ?_)
    rintro e w15 ⟨rfl, hk16⟩
    refine ⟨_, rfl, ?_⟩
    have hz17 := hk16.size
    have hB18 := hB12.lo hk16
    refine SR.q' (r_as (v := .int .i64 _) rfl) <| SR.nil ?_
    refine W.seq ?_
    refine W.seq ?_
    refine W.regS (SR.q' (r_mv (v := .int .i64 _) rfl) <| SR.q' (r_lt rfl rfl) <| SR.nil ?_)
    refine W.cond_d rfl (fun h19 => ?_) (fun h19 => ?_)
    · refine W.seq ?_
      refine W.regS (SR.q' (r_as (v := .int .i64 (-1)) rfl) <| SR.nil ?_)
      refine W.ret ?_
      refine ret1 rfl (v := .int .i64 _) rfl ?_
      exact ⟨eR (eI (z_c_laws_heldLibrary_20 r nr_Maps hbdr_Maps hler_Maps nr_Away hbdr_Away hler_Away k m_Maps m_Away hp0 hp1 hp2 hp3 hp4 hp5 hp6 hp7 h13 h19)), hB18⟩
    · refine W.skip ?_
      refine W.seq ?_
      refine W.regS (SR.q' (r_mv (v := .int .i64 _) rfl) <| SR.q' (r_as (v := .int .i64 _) rfl) <| SR.nil ?_)
      refine W.ret ?_
      refine ret1 rfl (v := .int .i64 _) rfl ?_
      exact ⟨eR (eI (z_c_laws_heldLibrary_21 r nr_Maps hbdr_Maps hler_Maps nr_Away hbdr_Away hler_Away k m_Maps m_Away hp0 hp1 hp2 hp3 hp4 hp5 hp6 hp7 h13 h19)), hB18⟩
end Go.Proofs.Ytbodnffjgmaloaa
