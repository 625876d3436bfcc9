/- Walks, printed by a program of this claim's author. -/
import Derived.Test.YthgbcadgnihdiaaGreatDoorChecked
import Derived.Test.YthgbcadgnihdiaaGreatDoorRa
import Derived.Test.YthgbcadgnihdiaaGreatDoorFu
import Derived.Test.YthgbcadgnihdiaaGreatDoorFo
import Derived.Test.YthgbcadgnihdiaaGreatDoorFp
import Derived.Test.YthgbcadgnihdiaaGreatDoorFt
import Derived.Test.YthgbcadgnihdiaaGreatDoorDa
import Derived.Test.YthgbcadgnihdiaaGreatDoorG30x
namespace Go.Proofs.YthgbcadgnihdiaaGreatDoor
open Go Go.RowKit Fw
set_option maxRecDepth 10000
set_option linter.unusedVariables false
theorem bld45_0_1_2_3 (a0 : Int) (a1 : Int) (a2 : Int) (a3 : Int) : Tryz.prog.built 45 [(0, .int .i64 a0), (1, .int .i64 a1), (2, .int .i64 a2), (3, .int .i64 a3)] = some (List.toArray [.int .i64 a0, .int .i64 a1, .int .i64 a2, .int .i64 a3]) := by kernel_rfl
theorem ent36 : Ent Tryz.prog 36 := ent_of Tryz.func36 (by decide +kernel) rfl
theorem ent37 : Ent Tryz.prog 37 := ent_of Tryz.func37 (by decide +kernel) rfl
theorem ent49 : Ent Tryz.prog 49 := ent_of Tryz.func49 (by decide +kernel) rfl
theorem ent56 : Ent Tryz.prog 56 := ent_of Tryz.func56 (by decide +kernel) rfl
theorem ent57 : Ent Tryz.prog 57 := ent_of Tryz.func57 (by decide +kernel) rfl
theorem ent66 : Ent Tryz.prog 66 := ent_of Tryz.func66 (by decide +kernel) rfl
theorem fa52_0 : FA Tryz.prog 52 0 0 := fun _ _ => by kernel_rfl
theorem fa52_1 : FA Tryz.prog 52 1 1 := fun _ _ => by kernel_rfl
theorem fa52_2 : FA Tryz.prog 52 2 2 := fun _ _ => by kernel_rfl
theorem sca22 : TSca Tryz.prog 22 := ⟨fun _ => by kernel_rfl, fun _ => by kernel_rfl⟩
theorem sca5 : TSca Tryz.prog 5 := ⟨fun _ => by kernel_rfl, fun _ => by kernel_rfl⟩
theorem sca50 : TSca Tryz.prog 50 := ⟨fun _ => by kernel_rfl, fun _ => by kernel_rfl⟩
theorem tsl22 : TSl Tryz.prog 22 5 1 := ⟨by kernel_rfl, fun _ => by kernel_rfl⟩
theorem und22 : Tryz.prog.underlying 22 = some (.slice 5) := by kernel_rfl
theorem und5 : Tryz.prog.underlying 5 = some (.int .u8) := by kernel_rfl
theorem und50 : Tryz.prog.underlying 50 = some (.int .u64) := by kernel_rfl

theorem z_c___spec_l1Cur__next_30 (Lc : List UInt8) (tc : Int) (sc : Int) (nc : Nat) (htc : 0 ≤ tc ∧ tc + 1 ≤ 4611686018427387904) (hbdc : (nc : Int) ≤ 9223372036854775807) (hlec : nc = Lc.length) (h5 : tc < (nc : Int)) (x6 : UInt8) (hx7 : Lc[tc.toNat]? = some x6) (hq8 : (x6.toNat : Int) ≤ 255) (h29 : (tc + 1) ≤ (nc : Int)) : (0 : Int) ≤ (x6.toNat : Int) ∧ ((x6.toNat : Int) : Int) ≤ 255 := by
  omega
theorem z_c___spec_l1Cur__next_31 (Lc : List UInt8) (tc : Int) (sc : Int) (nc : Nat) (htc : 0 ≤ tc ∧ tc + 1 ≤ 4611686018427387904) (hbdc : (nc : Int) ≤ 9223372036854775807) (hlec : nc = Lc.length) (h5 : tc < (nc : Int)) (x6 : UInt8) (hx7 : Lc[tc.toNat]? = some x6) (hq8 : (x6.toNat : Int) ≤ 255) (h29 : ¬ ((tc + 1) ≤ (nc : Int))) : (0 : Int) ≤ (((IntKind.u64.wrap ((IntKind.u64.wrap ((IntKind.u64.wrap (sc * 6364136223846793005)) + (x6.toNat : Int))) + 604171)) / 1099511627776) % 256) ∧ ((((IntKind.u64.wrap ((IntKind.u64.wrap ((IntKind.u64.wrap (sc * 6364136223846793005)) + (x6.toNat : Int))) + 604171)) / 1099511627776) % 256) : Int) ≤ 255 := by
  omega
theorem z_c___spec_l1Cur__next_49 (Lc : List UInt8) (tc : Int) (sc : Int) (nc : Nat) (htc : 0 ≤ tc ∧ tc + 1 ≤ 4611686018427387904) (hbdc : (nc : Int) ≤ 9223372036854775807) (hlec : nc = Lc.length) (h5 : ¬ (tc < (nc : Int))) (h48 : (tc + 1) ≤ (nc : Int)) : (0 : Int) ≤ 0 ∧ (0 : Int) ≤ 255 := by
  omega
theorem z_c___spec_l1Cur__next_50 (Lc : List UInt8) (tc : Int) (sc : Int) (nc : Nat) (htc : 0 ≤ tc ∧ tc + 1 ≤ 4611686018427387904) (hbdc : (nc : Int) ≤ 9223372036854775807) (hlec : nc = Lc.length) (h5 : ¬ (tc < (nc : Int))) (h48 : ¬ ((tc + 1) ≤ (nc : Int))) : (0 : Int) ≤ (((IntKind.u64.wrap ((IntKind.u64.wrap ((IntKind.u64.wrap (sc * 6364136223846793005)) + 0)) + 604171)) / 1099511627776) % 256) ∧ ((((IntKind.u64.wrap ((IntKind.u64.wrap ((IntKind.u64.wrap (sc * 6364136223846793005)) + 0)) + 604171)) / 1099511627776) % 256) : Int) ≤ 255 := by
  omega
theorem c___spec_l1Cur__next (w : World) {gc ec : Nat} {Ac : Option Addr} {nc cc Bc : Nat} (Lc : List UInt8) (tc sc : Int) (hc : Blk w gc ec [.slice Ac nc cc, .int .i64 tc, .int .u64 sc]) (hLc : SlR w Bc encB 1 Ac nc cc Lc) (hgc : Bc ≤ gc) (htc : 0 ≤ tc ∧ tc + 1 ≤ 4611686018427387904) : Calls Tryz.prog 66 #[.pointer (some ⟨gc, 0, none⟩)] w fun e w' => ∃ (v : Int) (tc' sc' : Int), e = .returned (.int .i64 v) ∧ Blk w' gc ec [.slice Ac nc cc, .int .i64 tc', .int .u64 sc'] ∧ (tc ≤ tc' ∧ tc' ≤ tc + 1) ∧ ((0 : Int) ≤ v ∧ (v : Int) ≤ 255) ∧ Kp (fun b_ => b_ = gc) w w' := by
  refine calls_W 62 Tryz.func66 rfl rfl rfl ?_
  have hBlc := hc.lt
  have hbdc := hLc.bound
  have hlec := hLc.len
  have hBbc := hLc.bd
  refine W.seq ?_
  refine W.regS (SR.q' (r_as (v := .int .i64 0) rfl) <| SR.nil ?_)
  refine W.seq ?_
  refine W.regS (SR.q' (r_as (v := .int .i64 0) rfl) <| SR.nil ?_)
  refine W.seq ?_
  refine W.seq ?_
  refine W.regD mo (by kernel_rfl) (QR.q' (fun w' hw' => r_mv (v := .pointer (some _)) rfl) <| QR.q' (fun w' hw' => r_nilp rfl) <| QR.q' (fun w' hw' => r_fa fa52_1 rfl) <| QR.q' (fun w' hw' => r_ld (v := .int .i64 tc) sca3 rfl (((hc).lo hw').cell rfl)) <| QR.q' (fun w' hw' => r_mv (v := .pointer (some _)) rfl) <| QR.q' (fun w' hw' => r_nilp rfl) <| QR.q' (fun w' hw' => r_fa fa52_0 rfl) <| QR.q' (fun w' hw' => r_ld (v := .slice Ac nc cc) sca22 rfl (((hc).lo hw').cell rfl)) <| QR.q' (fun w' hw' => r_len und22 rfl) <| QR.q' (fun w' hw' => r_lt rfl rfl) <| QR.nil ?_)
  intro w1 hk2
  have hz3 := hk2.size
  have hB4 := (Kp.refl w : Kp (fun b_ => b_ = gc) w w).lo hk2
  refine W.cond_d rfl (fun h5 => ?_) (fun h5 => ?_)
  · refine W.regD mo (by kernel_rfl) (QR.q' (fun w' hw' => r_mv (v := .pointer (some _)) rfl) <| QR.q' (fun w' hw' => r_nilp rfl) <| QR.q' (fun w' hw' => r_fa fa52_0 rfl) <| QR.q' (fun w' hw' => r_ld (v := .slice Ac nc cc) sca22 rfl ((((hc).lo hk2).lo hw').cell rfl)) <| QR.q' (fun w' hw' => r_mv (v := .pointer (some _)) rfl) <| QR.q' (fun w' hw' => r_nilp rfl) <| QR.q' (fun w' hw' => r_fa fa52_1 rfl) <| QR.q' (fun w' hw' => r_ld (v := .int .i64 tc) sca3 rfl ((((hc).lo hk2).lo hw').cell rfl)) <| ?_)
    obtain ⟨x6, hx7⟩ := ((hLc).lo hk2).get (i := tc.toNat) (by omega)
    have hq8 := u8_le x6
    refine QR.q' (fun w' hw' => r_ixR tsl22 ((((hLc).lo hk2).lo hw')) rfl rfl (by omega)) <| QR.q' (fun w' hw' => r_ld (v := .int .u8 (x6.toNat : Int)) sca5 rfl (((((hLc).lo hk2).lo hw')).cell0 hx7 rfl)) <| QR.q' (fun w' hw' => r_convI und3 und5 rfl (by omega)) <| QR.q' (fun w' hw' => r_as (v := .int .i64 _) rfl) <| QR.nil ?_
    intro w9 hk10
    have hz11 := hk10.size
    have hB12 := hB4.lo hk10
    refine W.seq ?_
    refine W.regS (SR.q' (r_mv (v := .pointer (some _)) rfl) <| SR.q' (r_nilp rfl) <| SR.q' (r_fa fa52_1 rfl) <| SR.q' (r_ld (v := .int .i64 tc) sca3 rfl ((((hc).lo hk2).lo hk10).cell rfl)) <| SR.q' (r_add rfl rfl (by omega)) <| SR.q' (r_nilp rfl) <| SR.q' (r_fa fa52_1 rfl) <| SR.store (o := 1) (vs := [.int .i64 (tc + 1)]) sca3.2 rfl rfl rfl rfl (((hc).lo hk2).lo hk10) (Nat.le_of_ble_eq_true rfl) rfl ?_)
    intro w13 hk14 hs15 hb16
    have hz17 := hk14.size
    have hB18 := hB12.step hk14 (fun i_ hi_ e' => e')
    refine SR.nil ?_
    refine W.seq ?_
    refine W.regS (SR.q' (r_mv (v := .pointer (some _)) rfl) <| SR.q' (r_mv (v := .pointer (some _)) rfl) <| SR.q' (r_nilp rfl) <| SR.q' (r_fa fa52_2 rfl) <| SR.q' (r_ld (v := .int .u64 sc) sca50 rfl ((hb16).cell rfl)) <| SR.q' (r_mulW rfl rfl) <| SR.q' (r_mv (v := .int .i64 _) rfl) <| SR.q' (r_convU und50 und3 rfl (by omega)) <| SR.q' (r_addW rfl rfl) <| SR.q' (r_addW rfl rfl) <| SR.q' (r_nilp rfl) <| SR.q' (r_fa fa52_2 rfl) <| SR.store (o := 2) (vs := [.int .u64 (IntKind.u64.wrap ((IntKind.u64.wrap ((IntKind.u64.wrap (sc * 6364136223846793005)) + (x6.toNat : Int))) + 604171))]) sca50.2 rfl rfl rfl rfl (hb16) (Nat.le_of_ble_eq_true rfl) rfl ?_)
    intro w19 hk20 hs21 hb22
    have hz23 := hk20.size
    have hB24 := hB18.step hk20 (fun i_ hi_ e' => e')
    refine SR.nil ?_
    refine W.seq ?_
    refine W.seq ?_
    refine W.regD mo (by kernel_rfl) (QR.q' (fun w' hw' => r_mv (v := .pointer (some _)) rfl) <| QR.q' (fun w' hw' => r_nilp rfl) <| QR.q' (fun w' hw' => r_fa fa52_1 rfl) <| QR.q' (fun w' hw' => r_ld (v := .int .i64 (tc + 1)) sca3 rfl (((hb22).lo hw').cell rfl)) <| QR.q' (fun w' hw' => r_mv (v := .pointer (some _)) rfl) <| QR.q' (fun w' hw' => r_nilp rfl) <| QR.q' (fun w' hw' => r_fa fa52_0 rfl) <| QR.q' (fun w' hw' => r_ld (v := .slice Ac nc cc) sca22 rfl (((hb22).lo hw').cell rfl)) <| QR.q' (fun w' hw' => r_len und22 rfl) <| QR.q' (fun w' hw' => r_le rfl rfl) <| QR.nil ?_)
    intro w25 hk26
    have hz27 := hk26.size
    have hB28 := hB24.lo hk26
    refine W.cond_d rfl (fun h29 => ?_) (fun h29 => ?_)
    · refine W.seq ?_
      refine W.regS (SR.q' (r_mv (v := .int .i64 _) rfl) <| SR.q' (r_as (v := .int .i64 _) rfl) <| SR.nil ?_)
      refine W.ret ?_
      refine ret1 rfl (v := .int .i64 _) rfl ?_
      exact ⟨(x6.toNat : Int), (tc + 1), (IntKind.u64.wrap ((IntKind.u64.wrap ((IntKind.u64.wrap (sc * 6364136223846793005)) + (x6.toNat : Int))) + 604171)), eR rfl, ((hb22).lo hk26), ⟨by omega, by omega⟩, (z_c___spec_l1Cur__next_30 Lc tc sc nc htc hbdc hlec h5 x6 hx7 hq8 h29), hB28⟩
    · refine W.skip ?_
      refine W.seq ?_
      refine W.regS (SR.q' (r_mv (v := .pointer (some _)) rfl) <| SR.q' (r_nilp rfl) <| SR.q' (r_fa fa52_2 rfl) <| SR.q' (r_ld (v := .int .u64 (IntKind.u64.wrap ((IntKind.u64.wrap ((IntKind.u64.wrap (sc * 6364136223846793005)) + (x6.toNat : Int))) + 604171))) sca50 rfl (((hb22).lo hk26).cell rfl)) <| SR.q' (r_shr40 rfl rfl (by simp only [IntKind.wrap_u64]; omega)) <| SR.q' (r_and255 rfl rfl (by simp only [IntKind.wrap_u64]; omega)) <| SR.q' (r_convI und3 und50 rfl (by omega)) <| SR.q' (r_as (v := .int .i64 _) rfl) <| SR.nil ?_)
      refine W.ret ?_
      refine ret1 rfl (v := .int .i64 _) rfl ?_
      exact ⟨(((IntKind.u64.wrap ((IntKind.u64.wrap ((IntKind.u64.wrap (sc * 6364136223846793005)) + (x6.toNat : Int))) + 604171)) / 1099511627776) % 256), (tc + 1), (IntKind.u64.wrap ((IntKind.u64.wrap ((IntKind.u64.wrap (sc * 6364136223846793005)) + (x6.toNat : Int))) + 604171)), eR rfl, ((hb22).lo hk26), ⟨by omega, by omega⟩, (z_c___spec_l1Cur__next_31 Lc tc sc nc htc hbdc hlec h5 x6 hx7 hq8 h29), hB28⟩
  · refine W.skip ?_
    refine W.seq ?_
    refine W.regS (SR.q' (r_mv (v := .pointer (some _)) rfl) <| SR.q' (r_nilp rfl) <| SR.q' (r_fa fa52_1 rfl) <| SR.q' (r_ld (v := .int .i64 tc) sca3 rfl (((hc).lo hk2).cell rfl)) <| SR.q' (r_add rfl rfl (by omega)) <| SR.q' (r_nilp rfl) <| SR.q' (r_fa fa52_1 rfl) <| SR.store (o := 1) (vs := [.int .i64 (tc + 1)]) sca3.2 rfl rfl rfl rfl ((hc).lo hk2) (Nat.le_of_ble_eq_true rfl) rfl ?_)
    intro w32 hk33 hs34 hb35
    have hz36 := hk33.size
    have hB37 := hB4.step hk33 (fun i_ hi_ e' => e')
    refine SR.nil ?_
    refine W.seq ?_
    refine W.regS (SR.q' (r_mv (v := .pointer (some _)) rfl) <| SR.q' (r_mv (v := .pointer (some _)) rfl) <| SR.q' (r_nilp rfl) <| SR.q' (r_fa fa52_2 rfl) <| SR.q' (r_ld (v := .int .u64 sc) sca50 rfl ((hb35).cell rfl)) <| SR.q' (r_mulW rfl rfl) <| SR.q' (r_mv (v := .int .i64 _) rfl) <| SR.q' (r_convU und50 und3 rfl (by omega)) <| SR.q' (r_addW rfl rfl) <| SR.q' (r_addW rfl rfl) <| SR.q' (r_nilp rfl) <| SR.q' (r_fa fa52_2 rfl) <| SR.store (o := 2) (vs := [.int .u64 (IntKind.u64.wrap ((IntKind.u64.wrap ((IntKind.u64.wrap (sc * 6364136223846793005)) + 0)) + 604171))]) sca50.2 rfl rfl rfl rfl (hb35) (Nat.le_of_ble_eq_true rfl) rfl ?_)
    intro w38 hk39 hs40 hb41
    have hz42 := hk39.size
    have hB43 := hB37.step hk39 (fun i_ hi_ e' => e')
    refine SR.nil ?_
    refine W.seq ?_
    refine W.seq ?_
    refine W.regD mo (by kernel_rfl) (QR.q' (fun w' hw' => r_mv (v := .pointer (some _)) rfl) <| QR.q' (fun w' hw' => r_nilp rfl) <| QR.q' (fun w' hw' => r_fa fa52_1 rfl) <| QR.q' (fun w' hw' => r_ld (v := .int .i64 (tc + 1)) sca3 rfl (((hb41).lo hw').cell rfl)) <| QR.q' (fun w' hw' => r_mv (v := .pointer (some _)) rfl) <| QR.q' (fun w' hw' => r_nilp rfl) <| QR.q' (fun w' hw' => r_fa fa52_0 rfl) <| QR.q' (fun w' hw' => r_ld (v := .slice Ac nc cc) sca22 rfl (((hb41).lo hw').cell rfl)) <| QR.q' (fun w' hw' => r_len und22 rfl) <| QR.q' (fun w' hw' => r_le rfl rfl) <| QR.nil ?_)
    intro w44 hk45
    have hz46 := hk45.size
    have hB47 := hB43.lo hk45
    refine W.cond_d rfl (fun h48 => ?_) (fun h48 => ?_)
    · refine W.seq ?_
      refine W.regS (SR.q' (r_mv (v := .int .i64 _) rfl) <| SR.q' (r_as (v := .int .i64 _) rfl) <| SR.nil ?_)
      refine W.ret ?_
      refine ret1 rfl (v := .int .i64 _) rfl ?_
      exact ⟨0, (tc + 1), (IntKind.u64.wrap ((IntKind.u64.wrap ((IntKind.u64.wrap (sc * 6364136223846793005)) + 0)) + 604171)), eR rfl, ((hb41).lo hk45), ⟨by omega, by omega⟩, (z_c___spec_l1Cur__next_49 Lc tc sc nc htc hbdc hlec h5 h48), hB47⟩
    · refine W.skip ?_
      refine W.seq ?_
      refine W.regS (SR.q' (r_mv (v := .pointer (some _)) rfl) <| SR.q' (r_nilp rfl) <| SR.q' (r_fa fa52_2 rfl) <| SR.q' (r_ld (v := .int .u64 (IntKind.u64.wrap ((IntKind.u64.wrap ((IntKind.u64.wrap (sc * 6364136223846793005)) + 0)) + 604171))) sca50 rfl (((hb41).lo hk45).cell rfl)) <| SR.q' (r_shr40 rfl rfl (by simp only [IntKind.wrap_u64]; omega)) <| SR.q' (r_and255 rfl rfl (by simp only [IntKind.wrap_u64]; omega)) <| SR.q' (r_convI und3 und50 rfl (by omega)) <| SR.q' (r_as (v := .int .i64 _) rfl) <| SR.nil ?_)
      refine W.ret ?_
      refine ret1 rfl (v := .int .i64 _) rfl ?_
      exact ⟨(((IntKind.u64.wrap ((IntKind.u64.wrap ((IntKind.u64.wrap (sc * 6364136223846793005)) + 0)) + 604171)) / 1099511627776) % 256), (tc + 1), (IntKind.u64.wrap ((IntKind.u64.wrap ((IntKind.u64.wrap (sc * 6364136223846793005)) + 0)) + 604171)), eR rfl, ((hb41).lo hk45), ⟨by omega, by omega⟩, (z_c___spec_l1Cur__next_50 Lc tc sc nc htc hbdc hlec h5 h48), hB47⟩

theorem z_c___spec_l1Cur__pick_2 (Lc : List UInt8) (tc : Int) (sc : Int) (nc : Nat) (htc : 0 ≤ tc ∧ tc + 2 ≤ 4611686018427387904) (hbdc : (nc : Int) ≤ 9223372036854775807) (hlec : nc = Lc.length) (n : Int) (hp0 : n ≤ 4611686018427387904) (h1 : n ≤ 1) : (0 : Int) ≤ 0 ∧ ((0 : Int) < n ∨ (0 : Int) = 0) := by
  first | omega | exact ⟨Int.emod_nonneg _ (by omega), .inl (Int.emod_lt_of_pos _ (by omega))⟩
theorem z_c___spec_l1Cur__pick_24 (Lc : List UInt8) (tc : Int) (sc : Int) (nc : Nat) (htc : 0 ≤ tc ∧ tc + 2 ≤ 4611686018427387904) (hbdc : (nc : Int) ≤ 9223372036854775807) (hlec : nc = Lc.length) (n : Int) (hp0 : n ≤ 4611686018427387904) (h1 : ¬ (n ≤ 1)) (v5 : Int) (t6 : Int) (s7 : Int) (ht9 : tc ≤ t6 ∧ t6 ≤ tc + 1) (hq10 : (0 : Int) ≤ v5 ∧ (v5 : Int) ≤ 255) (h13 : 200 < n) (v16 : Int) (t17 : Int) (s18 : Int) (ht20 : t6 ≤ t17 ∧ t17 ≤ t6 + 1) (hq21 : (0 : Int) ≤ v16 ∧ (v16 : Int) ≤ 255) : (0 : Int) ≤ (((v5 * 256) + v16) % n) ∧ (((((v5 * 256) + v16) % n) : Int) < n ∨ ((((v5 * 256) + v16) % n) : Int) = 0) := by
  first | omega | exact ⟨Int.emod_nonneg _ (by omega), .inl (Int.emod_lt_of_pos _ (by omega))⟩
theorem z_c___spec_l1Cur__pick_25 (Lc : List UInt8) (tc : Int) (sc : Int) (nc : Nat) (htc : 0 ≤ tc ∧ tc + 2 ≤ 4611686018427387904) (hbdc : (nc : Int) ≤ 9223372036854775807) (hlec : nc = Lc.length) (n : Int) (hp0 : n ≤ 4611686018427387904) (h1 : ¬ (n ≤ 1)) (v5 : Int) (t6 : Int) (s7 : Int) (ht9 : tc ≤ t6 ∧ t6 ≤ tc + 1) (hq10 : (0 : Int) ≤ v5 ∧ (v5 : Int) ≤ 255) (h13 : ¬ (200 < n)) : (0 : Int) ≤ (v5 % n) ∧ (((v5 % n) : Int) < n ∨ ((v5 % n) : Int) = 0) := by
  first | omega | exact ⟨Int.emod_nonneg _ (by omega), .inl (Int.emod_lt_of_pos _ (by omega))⟩
theorem c___spec_l1Cur__pick (w : World) {gc ec : Nat} {Ac : Option Addr} {nc cc Bc : Nat} (Lc : List UInt8) (tc sc : Int) (hc : Blk w gc ec [.slice Ac nc cc, .int .i64 tc, .int .u64 sc]) (hLc : SlR w Bc encB 1 Ac nc cc Lc) (hgc : Bc ≤ gc) (htc : 0 ≤ tc ∧ tc + 2 ≤ 4611686018427387904) (n : Int) (hp0 : n ≤ 4611686018427387904) : Calls Tryz.prog 37 #[.pointer (some ⟨gc, 0, none⟩), .int .i64 n] w fun e w' => ∃ (v : Int) (tc' sc' : Int), e = .returned (.int .i64 v) ∧ Blk w' gc ec [.slice Ac nc cc, .int .i64 tc', .int .u64 sc'] ∧ (tc ≤ tc' ∧ tc' ≤ tc + 2) ∧ ((0 : Int) ≤ v ∧ ((v : Int) < n ∨ (v : Int) = 0)) ∧ Kp (fun b_ => b_ = gc) w w' := by
  refine calls_W 20 Tryz.func37 rfl rfl rfl ?_
  have hBlc := hc.lt
  have hbdc := hLc.bound
  have hlec := hLc.len
  have hBbc := hLc.bd
  refine W.seq ?_
  refine W.regS (SR.q' (r_as (v := .int .i64 0) rfl) <| SR.nil ?_)
  refine W.seq ?_
  refine W.seq ?_
  refine W.regS (SR.q' (r_mv (v := .int .i64 _) rfl) <| SR.q' (r_le rfl rfl) <| SR.nil ?_)
  refine W.cond_d rfl (fun h1 => ?_) (fun h1 => ?_)
  · refine W.seq ?_
    refine W.regS (SR.q' (r_as (v := .int .i64 0) rfl) <| SR.nil ?_)
    refine W.ret ?_
    refine ret1 rfl (v := .int .i64 _) rfl ?_
    exact ⟨0, tc, sc, eR rfl, (hc), ⟨by omega, by omega⟩, (z_c___spec_l1Cur__pick_2 Lc tc sc nc htc hbdc hlec n hp0 h1), (Kp.refl w : Kp (fun b_ => b_ = gc) w w)⟩
  · refine W.skip ?_
    refine W.seq ?_
    refine W.regS (SR.q' (r_mv (v := .pointer (some _)) rfl) <| SR.call ent66 (c___spec_l1Cur__next w Lc tc sc (hc) ((hLc)) (by omega) (by omega)) rfl ?_)
    rintro e w3 ⟨v5, t6, s7, rfl, hb8, ht9, hq10, hk4⟩
    refine ⟨_, rfl, ?_⟩
    have hz11 := hk4.size
    have hB12 := (Kp.refl w : Kp (fun b_ => b_ = gc) w w).step hk4 (fun i_ hi_ e' => e')
    refine SR.q' (r_as (v := .int .i64 _) rfl) <| SR.nil ?_
    refine W.seq ?_
    refine W.seq ?_
    refine W.regS (SR.q' (r_mv (v := .int .i64 _) rfl) <| SR.q' (r_gt rfl rfl) <| SR.nil ?_)
    refine W.cond_d rfl (fun h13 => ?_) (fun h13 => ?_)
    · refine W.regS (SR.q' (r_mv (v := .int .i64 _) rfl) <| SR.q' (r_mul rfl rfl (by omega)) <| SR.q' (r_mv (v := .pointer (some _)) rfl) <| SR.call ent66 (c___spec_l1Cur__next w3 Lc t6 s7 (hb8) (((hLc).kn hk4 (by omega))) (by omega) (by omega)) rfl ?_)
      rintro e w14 ⟨v16, t17, s18, rfl, hb19, ht20, hq21, hk15⟩
      refine ⟨_, rfl, ?_⟩
      have hz22 := hk15.size
      have hB23 := hB12.step hk15 (fun i_ hi_ e' => e')
      refine SR.q' (r_add rfl rfl (by omega)) <| SR.q' (r_as (v := .int .i64 _) rfl) <| SR.nil ?_
      refine W.seq ?_
      refine W.regS (SR.q' (r_mv (v := .int .i64 _) rfl) <| SR.q' (r_mv (v := .int .i64 _) rfl) <| SR.q' (r_rem rfl rfl (by omega)) <| SR.q' (r_as (v := .int .i64 _) rfl) <| SR.nil ?_)
      refine W.ret ?_
      refine ret1 rfl (v := .int .i64 _) rfl ?_
      exact ⟨(((v5 * 256) + v16) % n), t17, s18, eR rfl, (hb19), ⟨by omega, by omega⟩, (z_c___spec_l1Cur__pick_24 Lc tc sc nc htc hbdc hlec n hp0 h1 v5 t6 s7 ht9 hq10 h13 v16 t17 s18 ht20 hq21), hB23⟩
    · refine W.skip ?_
      refine W.seq ?_
      refine W.regS (SR.q' (r_mv (v := .int .i64 _) rfl) <| SR.q' (r_mv (v := .int .i64 _) rfl) <| SR.q' (r_rem rfl rfl (by omega)) <| SR.q' (r_as (v := .int .i64 _) rfl) <| SR.nil ?_)
      refine W.ret ?_
      refine ret1 rfl (v := .int .i64 _) rfl ?_
      exact ⟨(v5 % n), t6, s7, eR rfl, (hb8), ⟨by omega, by omega⟩, (z_c___spec_l1Cur__pick_25 Lc tc sc nc htc hbdc hlec n hp0 h1 v5 t6 s7 ht9 hq10 h13), hB12⟩

theorem z_c___spec_l1Cur__one_11 (Lc : List UInt8) (tc : Int) (sc : Int) (nc : Nat) (htc : 0 ≤ tc ∧ tc + 2 ≤ 4611686018427387904) (hbdc : (nc : Int) ≤ 9223372036854775807) (hlec : nc = Lc.length) (n : Int) (hp0 : n ≤ 4611686018427387904) (v3 : Int) (t4 : Int) (s5 : Int) (ht7 : tc ≤ t4 ∧ t4 ≤ tc + 2) (hq8 : (0 : Int) ≤ v3 ∧ ((v3 : Int) < n ∨ (v3 : Int) = 0)) : decide (v3 = 0) = decide (v3 = 0) := by
  first | rfl | omega | grind
theorem c___spec_l1Cur__one (w : World) {gc ec : Nat} {Ac : Option Addr} {nc cc Bc : Nat} (Lc : List UInt8) (tc sc : Int) (hc : Blk w gc ec [.slice Ac nc cc, .int .i64 tc, .int .u64 sc]) (hLc : SlR w Bc encB 1 Ac nc cc Lc) (hgc : Bc ≤ gc) (htc : 0 ≤ tc ∧ tc + 2 ≤ 4611686018427387904) (n : Int) (hp0 : n ≤ 4611686018427387904) : Calls Tryz.prog 56 #[.pointer (some ⟨gc, 0, none⟩), .int .i64 n] w fun e w' => ∃ (v : Bool) (tc' sc' : Int), e = .returned (.bool v) ∧ Blk w' gc ec [.slice Ac nc cc, .int .i64 tc', .int .u64 sc'] ∧ (tc ≤ tc' ∧ tc' ≤ tc + 2) ∧ Kp (fun b_ => b_ = gc) w w' := by
  refine calls_W 9 Tryz.func56 rfl rfl rfl ?_
  have hBlc := hc.lt
  have hbdc := hLc.bound
  have hlec := hLc.len
  have hBbc := hLc.bd
  refine W.seq ?_
  refine W.regS (SR.q' (r_as (v := .bool false) rfl) <| SR.nil ?_)
  refine W.seq ?_
  refine W.regS (SR.q' (r_mv (v := .pointer (some _)) rfl) <| SR.q' (r_mv (v := .int .i64 _) rfl) <| SR.call ent37 (c___spec_l1Cur__pick w Lc tc sc (hc) ((hLc)) (by omega) (by omega) n (by first | omega | (simp only [List.length_append, List.length_cons, List.length_nil, List.length_take, List.length_drop]; omega))) rfl ?_)
  rintro e w1 ⟨v3, t4, s5, rfl, hb6, ht7, hq8, hk2⟩
  refine ⟨_, rfl, ?_⟩
  have hz9 := hk2.size
  have hB10 := (Kp.refl w : Kp (fun b_ => b_ = gc) w w).step hk2 (fun i_ hi_ e' => e')
  refine SR.q' (r_eq rfl rfl) <| SR.q' (r_as (v := .bool _) rfl) <| SR.nil ?_
  refine W.ret ?_
  refine ret1 rfl (v := .bool _) rfl ?_
  exact ⟨(decide (v3 = 0)), t4, s5, eR (eB (z_c___spec_l1Cur__one_11 Lc tc sc nc htc hbdc hlec n hp0 v3 t4 s5 ht7 hq8)), (hb6), ⟨by omega, by omega⟩, hB10⟩

theorem z_c___spec_l1Cur__among_13 (Lc : List UInt8) (tc : Int) (sc : Int) (nc : Nat) (htc : 0 ≤ tc ∧ tc + 2 ≤ 4611686018427387904) (hbdc : (nc : Int) ≤ 9223372036854775807) (hlec : nc = Lc.length) (L : List Int) (nL : Nat) (hbdL : (nL : Int) ≤ 9223372036854775807) (hleL : nL = L.length) (hp0 : 0 < nL) (hp1 : (nL : Int) ≤ 1048576) (v3 : Int) (t4 : Int) (s5 : Int) (ht7 : tc ≤ t4 ∧ t4 ≤ tc + 2) (hq8 : (0 : Int) ≤ v3 ∧ ((v3 : Int) < (nL : Int) ∨ (v3 : Int) = 0)) (x11 : Int) (hx12 : L[v3.toNat]? = some x11) : x11 ∈ L := by
  exact List.mem_of_getElem? ‹L[_]? = some _›
theorem c___spec_l1Cur__among (w : World) {gc ec : Nat} {Ac : Option Addr} {nc cc Bc : Nat} (Lc : List UInt8) (tc sc : Int) (hc : Blk w gc ec [.slice Ac nc cc, .int .i64 tc, .int .u64 sc]) (hLc : SlR w Bc encB 1 Ac nc cc Lc) (hgc : Bc ≤ gc) (htc : 0 ≤ tc ∧ tc + 2 ≤ 4611686018427387904) {AL : Option Addr} {nL cL BL : Nat}  (L : List Int) (hL : SlR w BL encI 1 AL nL cL L) (hp0 : 0 < nL) (hp1 : (nL : Int) ≤ 1048576) (hp2 : ¬ (adr AL).block = gc) : Calls Tryz.prog 36 #[.pointer (some ⟨gc, 0, none⟩), .slice AL nL cL] w fun e w' => ∃ (v : Int) (tc' sc' : Int), e = .returned (.int .i64 v) ∧ Blk w' gc ec [.slice Ac nc cc, .int .i64 tc', .int .u64 sc'] ∧ (tc ≤ tc' ∧ tc' ≤ tc + 2) ∧ (v ∈ L) ∧ Kp (fun b_ => b_ = gc) w w' := by
  refine calls_W 12 Tryz.func36 rfl rfl rfl ?_
  have hBlc := hc.lt
  have hbdc := hLc.bound
  have hlec := hLc.len
  have hBbc := hLc.bd
  have hbdL := hL.bound
  have hleL := hL.len
  have hBbL := hL.bd
  refine W.seq ?_
  refine W.regS (SR.q' (r_as (v := .int .i64 0) rfl) <| SR.nil ?_)
  refine W.seq ?_
  refine W.regS (SR.q' (r_mv (v := .slice _ _ _) rfl) <| SR.q' (r_mv (v := .pointer (some _)) rfl) <| SR.q' (r_mv (v := .slice _ _ _) rfl) <| SR.q' (r_len und27 rfl) <| SR.call ent37 (c___spec_l1Cur__pick w Lc tc sc (hc) ((hLc)) (by omega) (by omega) (nL : Int) (by first | omega | (simp only [List.length_append, List.length_cons, List.length_nil, List.length_take, List.length_drop]; omega))) rfl ?_)
  rintro e w1 ⟨v3, t4, s5, rfl, hb6, ht7, hq8, hk2⟩
  refine ⟨_, rfl, ?_⟩
  have hz9 := hk2.size
  have hB10 := (Kp.refl w : Kp (fun b_ => b_ = gc) w w).step hk2 (fun i_ hi_ e' => e')
  obtain ⟨x11, hx12⟩ := ((hL).kpb hk2 (fun hn_ e' => hp2 e')).get (i := v3.toNat) (by omega)
  refine SR.q' (r_ixR tsl27 ((hL).kpb hk2 (fun hn_ e' => hp2 e')) rfl rfl (by omega)) <| SR.q' (r_ld (v := .int .i64 x11) sca3 rfl (((hL).kpb hk2 (fun hn_ e' => hp2 e')).cell0 hx12 rfl)) <| SR.q' (r_as (v := .int .i64 _) rfl) <| SR.nil ?_
  refine W.ret ?_
  refine ret1 rfl (v := .int .i64 _) rfl ?_
  exact ⟨x11, t4, s5, eR rfl, (hb6), ⟨by omega, by omega⟩, (z_c___spec_l1Cur__among_13 Lc tc sc nc htc hbdc hlec L nL hbdL hleL hp0 hp1 v3 t4 s5 ht7 hq8 x11 hx12), hB10⟩

theorem z_c___spec_l1Cur__visit_119 (Lc : List UInt8) (tc : Int) (sc : Int) (nc : Nat) (htc : 0 ≤ tc ∧ tc + 10 ≤ 4611686018427387904) (hbdc : (nc : Int) ≤ 9223372036854775807) (hlec : nc = Lc.length) (m : Int) (hp0 : -1000 ≤ m ∧ m ≤ 10000) (v18 : Int) (t19 : Int) (s20 : Int) (ht22 : tc ≤ t19 ∧ t19 ≤ tc + 2) (hq23 : v18 ∈ ([1, 2, 3, 4, 999] : List Int)) (hq26 : (1 : Int) ≤ v18 ∧ v18 ≤ 999) (v29 : Int) (t30 : Int) (s31 : Int) (ht33 : t19 ≤ t30 ∧ t30 ≤ t19 + 2) (hq34 : (0 : Int) ≤ v29 ∧ ((v29 : Int) < 3 ∨ (v29 : Int) = 0)) (v47 : Int) (t48 : Int) (s49 : Int) (ht51 : t30 ≤ t48 ∧ t48 ≤ t30 + 2) (hq52 : v47 ∈ ([1, 30, 60, 65, 240] : List Int)) (hq55 : (1 : Int) ≤ v47 ∧ v47 ≤ 240) (v78 : Int) (t79 : Int) (s80 : Int) (ht82 : t48 ≤ t79 ∧ t79 ≤ t48 + 2) (hq83 : (0 : Int) ≤ v78 ∧ ((v78 : Int) < 120 ∨ (v78 : Int) = 0)) (h86 : v78 = 0) (v98 : Int) (t99 : Int) (s100 : Int) (ht102 : t79 ≤ t99 ∧ t99 ≤ t79 + 2) (hq103 : v98 ∈ ([0, 1000] : List Int)) (hq106 : (0 : Int) ≤ v98 ∧ v98 ≤ 1000) : (-100000 ≤ m ∧ m ≤ 100000) ∧ (-100000 ≤ (min 1200 (m + v47)) ∧ (min 1200 (m + v47)) ≤ 100000) := by
  omega
theorem z_c___spec_l1Cur__visit_153 (Lc : List UInt8) (tc : Int) (sc : Int) (nc : Nat) (htc : 0 ≤ tc ∧ tc + 10 ≤ 4611686018427387904) (hbdc : (nc : Int) ≤ 9223372036854775807) (hlec : nc = Lc.length) (m : Int) (hp0 : -1000 ≤ m ∧ m ≤ 10000) (v18 : Int) (t19 : Int) (s20 : Int) (ht22 : tc ≤ t19 ∧ t19 ≤ tc + 2) (hq23 : v18 ∈ ([1, 2, 3, 4, 999] : List Int)) (hq26 : (1 : Int) ≤ v18 ∧ v18 ≤ 999) (v29 : Int) (t30 : Int) (s31 : Int) (ht33 : t19 ≤ t30 ∧ t30 ≤ t19 + 2) (hq34 : (0 : Int) ≤ v29 ∧ ((v29 : Int) < 3 ∨ (v29 : Int) = 0)) (v47 : Int) (t48 : Int) (s49 : Int) (ht51 : t30 ≤ t48 ∧ t48 ≤ t30 + 2) (hq52 : v47 ∈ ([1, 30, 60, 65, 240] : List Int)) (hq55 : (1 : Int) ≤ v47 ∧ v47 ≤ 240) (v78 : Int) (t79 : Int) (s80 : Int) (ht82 : t48 ≤ t79 ∧ t79 ≤ t48 + 2) (hq83 : (0 : Int) ≤ v78 ∧ ((v78 : Int) < 120 ∨ (v78 : Int) = 0)) (h86 : ¬ (v78 = 0)) (h120 : v78 = 1) (v132 : Int) (t133 : Int) (s134 : Int) (ht136 : t79 ≤ t133 ∧ t133 ≤ t79 + 2) (hq137 : v132 ∈ ([0, 6, 7] : List Int)) (hq140 : (0 : Int) ≤ v132 ∧ v132 ≤ 7) : (-100000 ≤ m ∧ m ≤ 100000) ∧ (-100000 ≤ (min 1200 (m + v47)) ∧ (min 1200 (m + v47)) ≤ 100000) := by
  omega
theorem z_c___spec_l1Cur__visit_187 (Lc : List UInt8) (tc : Int) (sc : Int) (nc : Nat) (htc : 0 ≤ tc ∧ tc + 10 ≤ 4611686018427387904) (hbdc : (nc : Int) ≤ 9223372036854775807) (hlec : nc = Lc.length) (m : Int) (hp0 : -1000 ≤ m ∧ m ≤ 10000) (v18 : Int) (t19 : Int) (s20 : Int) (ht22 : tc ≤ t19 ∧ t19 ≤ tc + 2) (hq23 : v18 ∈ ([1, 2, 3, 4, 999] : List Int)) (hq26 : (1 : Int) ≤ v18 ∧ v18 ≤ 999) (v29 : Int) (t30 : Int) (s31 : Int) (ht33 : t19 ≤ t30 ∧ t30 ≤ t19 + 2) (hq34 : (0 : Int) ≤ v29 ∧ ((v29 : Int) < 3 ∨ (v29 : Int) = 0)) (v47 : Int) (t48 : Int) (s49 : Int) (ht51 : t30 ≤ t48 ∧ t48 ≤ t30 + 2) (hq52 : v47 ∈ ([1, 30, 60, 65, 240] : List Int)) (hq55 : (1 : Int) ≤ v47 ∧ v47 ≤ 240) (v78 : Int) (t79 : Int) (s80 : Int) (ht82 : t48 ≤ t79 ∧ t79 ≤ t48 + 2) (hq83 : (0 : Int) ≤ v78 ∧ ((v78 : Int) < 120 ∨ (v78 : Int) = 0)) (h86 : ¬ (v78 = 0)) (h120 : ¬ (v78 = 1)) (h154 : v78 = 2) (v166 : Int) (t167 : Int) (s168 : Int) (ht170 : t79 ≤ t167 ∧ t167 ≤ t79 + 2) (hq171 : v166 ∈ ([479, min 1200 (m + v47)] : List Int)) (hq174 : (v166 : Int) = 479 ∨ (v166 : Int) = (min 1200 (m + v47))) : (-100000 ≤ v166 ∧ v166 ≤ 100000) ∧ (-100000 ≤ (min 1200 (m + v47)) ∧ (min 1200 (m + v47)) ≤ 100000) := by
  omega
theorem z_c___spec_l1Cur__visit_201 (Lc : List UInt8) (tc : Int) (sc : Int) (nc : Nat) (htc : 0 ≤ tc ∧ tc + 10 ≤ 4611686018427387904) (hbdc : (nc : Int) ≤ 9223372036854775807) (hlec : nc = Lc.length) (m : Int) (hp0 : -1000 ≤ m ∧ m ≤ 10000) (v18 : Int) (t19 : Int) (s20 : Int) (ht22 : tc ≤ t19 ∧ t19 ≤ tc + 2) (hq23 : v18 ∈ ([1, 2, 3, 4, 999] : List Int)) (hq26 : (1 : Int) ≤ v18 ∧ v18 ≤ 999) (v29 : Int) (t30 : Int) (s31 : Int) (ht33 : t19 ≤ t30 ∧ t30 ≤ t19 + 2) (hq34 : (0 : Int) ≤ v29 ∧ ((v29 : Int) < 3 ∨ (v29 : Int) = 0)) (v47 : Int) (t48 : Int) (s49 : Int) (ht51 : t30 ≤ t48 ∧ t48 ≤ t30 + 2) (hq52 : v47 ∈ ([1, 30, 60, 65, 240] : List Int)) (hq55 : (1 : Int) ≤ v47 ∧ v47 ≤ 240) (v78 : Int) (t79 : Int) (s80 : Int) (ht82 : t48 ≤ t79 ∧ t79 ≤ t48 + 2) (hq83 : (0 : Int) ≤ v78 ∧ ((v78 : Int) < 120 ∨ (v78 : Int) = 0)) (h86 : ¬ (v78 = 0)) (h120 : ¬ (v78 = 1)) (h154 : ¬ (v78 = 2)) (h188 : v78 = 3) : (-100000 ≤ m ∧ m ≤ 100000) ∧ (-100000 ≤ (1201 : Int) ∧ (1201 : Int) ≤ 100000) := by
  omega
theorem z_c___spec_l1Cur__visit_208 (Lc : List UInt8) (tc : Int) (sc : Int) (nc : Nat) (htc : 0 ≤ tc ∧ tc + 10 ≤ 4611686018427387904) (hbdc : (nc : Int) ≤ 9223372036854775807) (hlec : nc = Lc.length) (m : Int) (hp0 : -1000 ≤ m ∧ m ≤ 10000) (v18 : Int) (t19 : Int) (s20 : Int) (ht22 : tc ≤ t19 ∧ t19 ≤ tc + 2) (hq23 : v18 ∈ ([1, 2, 3, 4, 999] : List Int)) (hq26 : (1 : Int) ≤ v18 ∧ v18 ≤ 999) (v29 : Int) (t30 : Int) (s31 : Int) (ht33 : t19 ≤ t30 ∧ t30 ≤ t19 + 2) (hq34 : (0 : Int) ≤ v29 ∧ ((v29 : Int) < 3 ∨ (v29 : Int) = 0)) (v47 : Int) (t48 : Int) (s49 : Int) (ht51 : t30 ≤ t48 ∧ t48 ≤ t30 + 2) (hq52 : v47 ∈ ([1, 30, 60, 65, 240] : List Int)) (hq55 : (1 : Int) ≤ v47 ∧ v47 ≤ 240) (v78 : Int) (t79 : Int) (s80 : Int) (ht82 : t48 ≤ t79 ∧ t79 ≤ t48 + 2) (hq83 : (0 : Int) ≤ v78 ∧ ((v78 : Int) < 120 ∨ (v78 : Int) = 0)) (h86 : ¬ (v78 = 0)) (h120 : ¬ (v78 = 1)) (h154 : ¬ (v78 = 2)) (h188 : ¬ (v78 = 3)) : (-100000 ≤ m ∧ m ≤ 100000) ∧ (-100000 ≤ (min 1200 (m + v47)) ∧ (min 1200 (m + v47)) ≤ 100000) := by
  omega
theorem c___spec_l1Cur__visit (w : World) {gc ec : Nat} {Ac : Option Addr} {nc cc Bc : Nat} (Lc : List UInt8) (tc sc : Int) (hc : Blk w gc ec [.slice Ac nc cc, .int .i64 tc, .int .u64 sc]) (hLc : SlR w Bc encB 1 Ac nc cc Lc) (hgc : Bc ≤ gc) (htc : 0 ≤ tc ∧ tc + 10 ≤ 4611686018427387904) (m : Int) (hp0 : -1000 ≤ m ∧ m ≤ 10000) : Calls Tryz.prog 49 #[.pointer (some ⟨gc, 0, none⟩), .int .i64 m] w fun e w' => ∃ (v : Visit) (tc' sc' : Int), e = .returned (.agg (List.toArray [.int .i64 v.Reader, .int .i64 v.Seat, .int .i64 v.From, .int .i64 v.Until])) ∧ Blk w' gc ec [.slice Ac nc cc, .int .i64 tc', .int .u64 sc'] ∧ (tc ≤ tc' ∧ tc' ≤ tc + 10) ∧ ((-100000 ≤ v.From ∧ v.From ≤ 100000) ∧ (-100000 ≤ v.Until ∧ v.Until ≤ 100000)) ∧ Kp (fun b_ => b_ = gc) w w' := by
  refine calls_W 46 Tryz.func49 rfl rfl rfl ?_
  have hBlc := hc.lt
  have hbdc := hLc.bound
  have hlec := hLc.len
  have hBbc := hLc.bd
  refine W.seq ?_
  refine W.regS (SR.alloc (l := [.int .i64 0, .int .i64 0, .int .i64 0, .int .i64 0]) tz45 rfl ?_)
  intro g1 w2 hg3 hk4 hs5 hb6
  have hz7 := hk4.size
  have hB8 := (Kp.refl w : Kp (fun b_ => b_ = gc) w w).lo hk4
  refine SR.nil ?_
  refine W.seq ?_
  refine W.regS (SR.q' (r_mv (v := .pointer (some _)) rfl) <| SR.lit (vs := [.int .i64 1, .int .i64 2, .int .i64 3, .int .i64 4, .int .i64 999]) (L := ([1, 2, 3, 4, 999] : List Int)) (enc := encI) tel27 (fun _ => rfl) rfl rfl rfl (by decide) ?_)
  intro g9 w10 hg11 hk12 hO13
  have hz14 := hk12.size
  have hB15 := hB8.lo hk12
  refine SR.call ent36 (c___spec_l1Cur__among w10 Lc tc sc (((hc).lo hk4).lo hk12) ((((hLc).lo hk4).lo hk12)) (by omega) (by omega) ([1, 2, 3, 4, 999] : List Int) (((hO13).rd)) (by omega) (by omega) (show ¬ g9 = gc from by first | omega | (have := (hO13).base_le rfl; omega))) rfl ?_
  rintro e w16 ⟨v18, t19, s20, rfl, hb21, ht22, hq23, hk17⟩
  refine ⟨_, rfl, ?_⟩
  have hz24 := hk17.size
  have hB25 := hB15.step hk17 (fun i_ hi_ e' => e')
  have hq26 : (1 : Int) ≤ v18 ∧ v18 ≤ 999 := mem_rngB (lo := 1) (hi := 999) (by decide) hq23
  refine SR.q' (r_mv (v := .pointer (some _)) rfl) <| SR.call ent37 (c___spec_l1Cur__pick w16 Lc t19 s20 (hb21) (((((hLc).lo hk4).lo hk12).kn hk17 (by omega))) (by omega) (by omega) 3 (by first | omega | (simp only [List.length_append, List.length_cons, List.length_nil, List.length_take, List.length_drop]; omega))) rfl ?_
  rintro e w27 ⟨v29, t30, s31, rfl, hb32, ht33, hq34, hk28⟩
  refine ⟨_, rfl, ?_⟩
  have hz35 := hk28.size
  have hB36 := hB25.step hk28 (fun i_ hi_ e' => e')
  refine SR.q' (r_add rfl rfl (by omega)) <| SR.q' (r_mv (v := .int .i64 _) rfl) <| SR.q' (r_mv (v := .int .i64 _) rfl) <| SR.q' (r_mv (v := .pointer (some _)) rfl) <| SR.lit (vs := [.int .i64 1, .int .i64 30, .int .i64 60, .int .i64 65, .int .i64 240]) (L := ([1, 30, 60, 65, 240] : List Int)) (enc := encI) tel27 (fun _ => rfl) rfl rfl rfl (by decide) ?_
  intro g37 w38 hg39 hk40 hO41
  have hz42 := hk40.size
  have hB43 := hB36.lo hk40
  have hd44 : ¬ (some (⟨g9, 0, none⟩ : Addr)) = some ⟨g37, 0, none⟩ := fun e' => by have := (((hO13).kn hk17 (by omega)).kn hk28 (by omega)).base_le e'; omega
  refine SR.call ent36 (c___spec_l1Cur__among w38 Lc t30 s31 ((hb32).lo hk40) (((((((hLc).lo hk4).lo hk12).kn hk17 (by omega)).kn hk28 (by omega)).lo hk40)) (by omega) (by omega) ([1, 30, 60, 65, 240] : List Int) (((hO41).rd)) (by omega) (by omega) (show ¬ g37 = gc from by first | omega | (have := (hO41).base_le rfl; omega))) rfl ?_
  rintro e w45 ⟨v47, t48, s49, rfl, hb50, ht51, hq52, hk46⟩
  refine ⟨_, rfl, ?_⟩
  have hz53 := hk46.size
  have hB54 := hB43.step hk46 (fun i_ hi_ e' => e')
  have hq55 : (1 : Int) ≤ v47 ∧ v47 ≤ 240 := mem_rngB (lo := 1) (hi := 240) (by decide) hq52
  refine SR.q' (r_add rfl rfl (by omega)) <| SR.call ent57 (c_spec_l1Least w45 1200 (m + v47)) rfl ?_
  rintro e w56 ⟨rfl, hk57⟩
  refine ⟨_, rfl, ?_⟩
  have hz58 := hk57.size
  have hB59 := hB54.lo hk57
  refine SR.q' (r_build (vs := [(0, .int .i64 v18), (1, .int .i64 (1 + v29)), (2, .int .i64 m), (3, .int .i64 (min 1200 (m + v47)))]) rfl (bld45_0_1_2_3 _ _ _ _)) <| SR.alloc (l := [.int .i64 0, .int .i64 0, .int .i64 0, .int .i64 0]) tz45 rfl ?_
  intro g60 w61 hg62 hk63 hs64 hb65
  have hz66 := hk63.size
  have hB67 := hB59.lo hk63
  have hd68 : ¬ (some (⟨g9, 0, none⟩ : Addr)) = some ⟨g60, 0, none⟩ := fun e' => by have := ((((((hO13).kn hk17 (by omega)).kn hk28 (by omega)).lo hk40).kn hk46 (by omega)).lo hk57).base_le e'; omega
  have hd69 : ¬ (some (⟨g37, 0, none⟩ : Addr)) = some ⟨g60, 0, none⟩ := fun e' => by have := (((hO41).kn hk46 (by omega)).lo hk57).base_le e'; omega
  refine SR.store (o := 0) (vs := [.int .i64 v18, .int .i64 (1 + v29), .int .i64 m, .int .i64 (min 1200 (m + v47))]) agg45.2 rfl rfl rfl rfl (hb65) (Nat.le_of_ble_eq_true rfl) rfl ?_
  intro w70 hk71 hs72 hb73
  have hz74 := hk71.size
  have hB75 := hB67.new hk71 (by omega)
  refine SR.nil ?_
  refine W.seq ?_
  refine W.seq ?_
  refine W.regS (SR.q' (r_mv (v := .pointer (some _)) rfl) <| SR.call ent37 (c___spec_l1Cur__pick w70 Lc t48 s49 ((((hb50).lo hk57).lo hk63).kn hk71 (by omega)) (((((((((((hLc).lo hk4).lo hk12).kn hk17 (by omega)).kn hk28 (by omega)).lo hk40).kn hk46 (by omega)).lo hk57).lo hk63).kn hk71 (by omega))) (by omega) (by omega) 120 (by first | omega | (simp only [List.length_append, List.length_cons, List.length_nil, List.length_take, List.length_drop]; omega))) rfl ?_)
  rintro e w76 ⟨v78, t79, s80, rfl, hb81, ht82, hq83, hk77⟩
  refine ⟨_, rfl, ?_⟩
  have hz84 := hk77.size
  have hB85 := hB75.step hk77 (fun i_ hi_ e' => e')
  refine SR.nil ?_
  refine W.block ?_
  refine W.seq ?_
  refine W.regS (SR.q' (r_eq rfl rfl) <| SR.q' (r_as (v := .bool _) rfl) <| SR.nil ?_)
  refine W.cond_d rfl (fun h86 => ?_) (fun h86 => ?_)
  · refine W.regS (SR.q' (r_mv (v := .pointer (some _)) rfl) <| SR.lit (vs := [.int .i64 0, .int .i64 1000]) (L := ([0, 1000] : List Int)) (enc := encI) tel27 (fun _ => rfl) rfl rfl rfl (by decide) ?_)
    intro g87 w88 hg89 hk90 hO91
    have hz92 := hk90.size
    have hB93 := hB85.lo hk90
    have hd94 : ¬ (some (⟨g9, 0, none⟩ : Addr)) = some ⟨g87, 0, none⟩ := fun e' => by have := (((((((((hO13).kn hk17 (by omega)).kn hk28 (by omega)).lo hk40).kn hk46 (by omega)).lo hk57).lo hk63).kd hk71 hd68).kn hk77 (by omega)).base_le e'; omega
    have hd95 : ¬ (some (⟨g37, 0, none⟩ : Addr)) = some ⟨g87, 0, none⟩ := fun e' => by have := ((((((hO41).kn hk46 (by omega)).lo hk57).lo hk63).kd hk71 hd69).kn hk77 (by omega)).base_le e'; omega
    refine SR.call ent36 (c___spec_l1Cur__among w88 Lc t79 s80 ((hb81).lo hk90) (((((((((((((hLc).lo hk4).lo hk12).kn hk17 (by omega)).kn hk28 (by omega)).lo hk40).kn hk46 (by omega)).lo hk57).lo hk63).kn hk71 (by omega)).kn hk77 (by omega)).lo hk90)) (by omega) (by omega) ([0, 1000] : List Int) (((hO91).rd)) (by omega) (by omega) (show ¬ g87 = gc from by first | omega | (have := (hO91).base_le rfl; omega))) rfl ?_
    rintro e w96 ⟨v98, t99, s100, rfl, hb101, ht102, hq103, hk97⟩
    refine ⟨_, rfl, ?_⟩
    have hz104 := hk97.size
    have hB105 := hB93.step hk97 (fun i_ hi_ e' => e')
    have hq106 : (0 : Int) ≤ v98 ∧ v98 ≤ 1000 := mem_rngB (lo := 0) (hi := 1000) (by decide) hq103
    refine SR.q' (r_fa fa45_0 rfl) <| SR.store (o := 0) (vs := [.int .i64 v98]) sca3.2 rfl rfl rfl rfl ((((hb73).kn hk77 (by omega)).lo hk90).kn hk97 (by omega)) (Nat.le_of_ble_eq_true rfl) rfl ?_
    intro w107 hk108 hs109 hb110
    have hz111 := hk108.size
    have hB112 := hB105.new hk108 (by omega)
    refine SR.nil ?_
    refine W.seq ?_
    refine W.regS (SR.q' (r_lda (l := [.int .i64 v98, .int .i64 (1 + v29), .int .i64 m, .int .i64 (min 1200 (m + v47))]) agg45 rfl (fun _ _ hu => (hb110).cell hu) rfl) <| SR.store (o := 0) (vs := [.int .i64 v98, .int .i64 (1 + v29), .int .i64 m, .int .i64 (min 1200 (m + v47))]) agg45.2 rfl rfl rfl rfl (((((((((((((hb6).lo hk12).kn hk17 (by omega)).kn hk28 (by omega)).lo hk40).kn hk46 (by omega)).lo hk57).lo hk63).kn hk71 (by omega)).kn hk77 (by omega)).lo hk90).kn hk97 (by omega)).kn hk108 (by omega)) (Nat.le_of_ble_eq_true rfl) rfl ?_)
    intro w113 hk114 hs115 hb116
    have hz117 := hk114.size
    have hB118 := hB112.new hk114 (by omega)
    refine SR.nil ?_
    refine W.ret ?_
    refine retC rfl rfl agg45 (hb116) rfl ?_
    exact ⟨(⟨v98, 1 + v29, m, min 1200 (m + v47)⟩ : Visit), t99, s100, eR (eA rfl), (((hb101).kn hk108 (by omega)).kn hk114 (by omega)), ⟨by omega, by omega⟩, (z_c___spec_l1Cur__visit_119 Lc tc sc nc htc hbdc hlec m hp0 v18 t19 s20 ht22 hq23 hq26 v29 t30 s31 ht33 hq34 v47 t48 s49 ht51 hq52 hq55 v78 t79 s80 ht82 hq83 h86 v98 t99 s100 ht102 hq103 hq106), hB118⟩
  · refine W.seq ?_
    refine W.regS (SR.q' (r_eq rfl rfl) <| SR.q' (r_as (v := .bool _) rfl) <| SR.nil ?_)
    refine W.cond_d rfl (fun h120 => ?_) (fun h120 => ?_)
    · refine W.regS (SR.q' (r_mv (v := .pointer (some _)) rfl) <| SR.lit (vs := [.int .i64 0, .int .i64 6, .int .i64 7]) (L := ([0, 6, 7] : List Int)) (enc := encI) tel27 (fun _ => rfl) rfl rfl rfl (by decide) ?_)
      intro g121 w122 hg123 hk124 hO125
      have hz126 := hk124.size
      have hB127 := hB85.lo hk124
      have hd128 : ¬ (some (⟨g9, 0, none⟩ : Addr)) = some ⟨g121, 0, none⟩ := fun e' => by have := (((((((((hO13).kn hk17 (by omega)).kn hk28 (by omega)).lo hk40).kn hk46 (by omega)).lo hk57).lo hk63).kd hk71 hd68).kn hk77 (by omega)).base_le e'; omega
      have hd129 : ¬ (some (⟨g37, 0, none⟩ : Addr)) = some ⟨g121, 0, none⟩ := fun e' => by have := ((((((hO41).kn hk46 (by omega)).lo hk57).lo hk63).kd hk71 hd69).kn hk77 (by omega)).base_le e'; omega
      refine SR.call ent36 (c___spec_l1Cur__among w122 Lc t79 s80 ((hb81).lo hk124) (((((((((((((hLc).lo hk4).lo hk12).kn hk17 (by omega)).kn hk28 (by omega)).lo hk40).kn hk46 (by omega)).lo hk57).lo hk63).kn hk71 (by omega)).kn hk77 (by omega)).lo hk124)) (by omega) (by omega) ([0, 6, 7] : List Int) (((hO125).rd)) (by omega) (by omega) (show ¬ g121 = gc from by first | omega | (have := (hO125).base_le rfl; omega))) rfl ?_
      rintro e w130 ⟨v132, t133, s134, rfl, hb135, ht136, hq137, hk131⟩
      refine ⟨_, rfl, ?_⟩
      have hz138 := hk131.size
      have hB139 := hB127.step hk131 (fun i_ hi_ e' => e')
      have hq140 : (0 : Int) ≤ v132 ∧ v132 ≤ 7 := mem_rngB (lo := 0) (hi := 7) (by decide) hq137
      refine SR.q' (r_fa fa45_1 rfl) <| SR.store (o := 1) (vs := [.int .i64 v132]) sca3.2 rfl rfl rfl rfl ((((hb73).kn hk77 (by omega)).lo hk124).kn hk131 (by omega)) (Nat.le_of_ble_eq_true rfl) rfl ?_
      intro w141 hk142 hs143 hb144
      have hz145 := hk142.size
      have hB146 := hB139.new hk142 (by omega)
      refine SR.nil ?_
      refine W.seq ?_
      refine W.regS (SR.q' (r_lda (l := [.int .i64 v18, .int .i64 v132, .int .i64 m, .int .i64 (min 1200 (m + v47))]) agg45 rfl (fun _ _ hu => (hb144).cell hu) rfl) <| SR.store (o := 0) (vs := [.int .i64 v18, .int .i64 v132, .int .i64 m, .int .i64 (min 1200 (m + v47))]) agg45.2 rfl rfl rfl rfl (((((((((((((hb6).lo hk12).kn hk17 (by omega)).kn hk28 (by omega)).lo hk40).kn hk46 (by omega)).lo hk57).lo hk63).kn hk71 (by omega)).kn hk77 (by omega)).lo hk124).kn hk131 (by omega)).kn hk142 (by omega)) (Nat.le_of_ble_eq_true rfl) rfl ?_)
      intro w147 hk148 hs149 hb150
      have hz151 := hk148.size
      have hB152 := hB146.new hk148 (by omega)
      refine SR.nil ?_
      refine W.ret ?_
      refine retC rfl rfl agg45 (hb150) rfl ?_
      exact ⟨(⟨v18, v132, m, min 1200 (m + v47)⟩ : Visit), t133, s134, eR (eA rfl), (((hb135).kn hk142 (by omega)).kn hk148 (by omega)), ⟨by omega, by omega⟩, (z_c___spec_l1Cur__visit_153 Lc tc sc nc htc hbdc hlec m hp0 v18 t19 s20 ht22 hq23 hq26 v29 t30 s31 ht33 hq34 v47 t48 s49 ht51 hq52 hq55 v78 t79 s80 ht82 hq83 h86 h120 v132 t133 s134 ht136 hq137 hq140), hB152⟩
    · refine W.seq ?_
      refine W.regS (SR.q' (r_eq rfl rfl) <| SR.q' (r_as (v := .bool _) rfl) <| SR.nil ?_)
      refine W.cond_d rfl (fun h154 => ?_) (fun h154 => ?_)
      · refine W.regS (SR.q' (r_mv (v := .pointer (some _)) rfl) <| SR.q' (r_fa fa45_3 rfl) <| SR.q' (r_ld (v := .int .i64 (min 1200 (m + v47))) sca3 rfl (((hb73).kn hk77 (by omega)).cell rfl)) <| SR.lit (vs := [.int .i64 479, .int .i64 (min 1200 (m + v47))]) (L := ([479, min 1200 (m + v47)] : List Int)) (enc := encI) tel27 (fun _ => rfl) rfl rfl rfl (by decide) ?_)
        intro g155 w156 hg157 hk158 hO159
        have hz160 := hk158.size
        have hB161 := hB85.lo hk158
        have hd162 : ¬ (some (⟨g9, 0, none⟩ : Addr)) = some ⟨g155, 0, none⟩ := fun e' => by have := (((((((((hO13).kn hk17 (by omega)).kn hk28 (by omega)).lo hk40).kn hk46 (by omega)).lo hk57).lo hk63).kd hk71 hd68).kn hk77 (by omega)).base_le e'; omega
        have hd163 : ¬ (some (⟨g37, 0, none⟩ : Addr)) = some ⟨g155, 0, none⟩ := fun e' => by have := ((((((hO41).kn hk46 (by omega)).lo hk57).lo hk63).kd hk71 hd69).kn hk77 (by omega)).base_le e'; omega
        refine SR.call ent36 (c___spec_l1Cur__among w156 Lc t79 s80 ((hb81).lo hk158) (((((((((((((hLc).lo hk4).lo hk12).kn hk17 (by omega)).kn hk28 (by omega)).lo hk40).kn hk46 (by omega)).lo hk57).lo hk63).kn hk71 (by omega)).kn hk77 (by omega)).lo hk158)) (by omega) (by omega) ([479, min 1200 (m + v47)] : List Int) (((hO159).rd)) (by omega) (by omega) (show ¬ g155 = gc from by first | omega | (have := (hO159).base_le rfl; omega))) rfl ?_
        rintro e w164 ⟨v166, t167, s168, rfl, hb169, ht170, hq171, hk165⟩
        refine ⟨_, rfl, ?_⟩
        have hz172 := hk165.size
        have hB173 := hB161.step hk165 (fun i_ hi_ e' => e')
        have hq174 : (v166 : Int) = 479 ∨ (v166 : Int) = (min 1200 (m + v47)) := by simpa only [List.mem_cons, List.not_mem_nil, or_false] using hq171
        refine SR.q' (r_fa fa45_2 rfl) <| SR.store (o := 2) (vs := [.int .i64 v166]) sca3.2 rfl rfl rfl rfl ((((hb73).kn hk77 (by omega)).lo hk158).kn hk165 (by omega)) (Nat.le_of_ble_eq_true rfl) rfl ?_
        intro w175 hk176 hs177 hb178
        have hz179 := hk176.size
        have hB180 := hB173.new hk176 (by omega)
        refine SR.nil ?_
        refine W.seq ?_
        refine W.regS (SR.q' (r_lda (l := [.int .i64 v18, .int .i64 (1 + v29), .int .i64 v166, .int .i64 (min 1200 (m + v47))]) agg45 rfl (fun _ _ hu => (hb178).cell hu) rfl) <| SR.store (o := 0) (vs := [.int .i64 v18, .int .i64 (1 + v29), .int .i64 v166, .int .i64 (min 1200 (m + v47))]) agg45.2 rfl rfl rfl rfl (((((((((((((hb6).lo hk12).kn hk17 (by omega)).kn hk28 (by omega)).lo hk40).kn hk46 (by omega)).lo hk57).lo hk63).kn hk71 (by omega)).kn hk77 (by omega)).lo hk158).kn hk165 (by omega)).kn hk176 (by omega)) (Nat.le_of_ble_eq_true rfl) rfl ?_)
        intro w181 hk182 hs183 hb184
        have hz185 := hk182.size
        have hB186 := hB180.new hk182 (by omega)
        refine SR.nil ?_
        refine W.ret ?_
        refine retC rfl rfl agg45 (hb184) rfl ?_
        exact ⟨(⟨v18, 1 + v29, v166, min 1200 (m + v47)⟩ : Visit), t167, s168, eR (eA rfl), (((hb169).kn hk176 (by omega)).kn hk182 (by omega)), ⟨by omega, by omega⟩, (z_c___spec_l1Cur__visit_187 Lc tc sc nc htc hbdc hlec m hp0 v18 t19 s20 ht22 hq23 hq26 v29 t30 s31 ht33 hq34 v47 t48 s49 ht51 hq52 hq55 v78 t79 s80 ht82 hq83 h86 h120 h154 v166 t167 s168 ht170 hq171 hq174), hB186⟩
      · refine W.seq ?_
        refine W.regS (SR.q' (r_eq rfl rfl) <| SR.q' (r_as (v := .bool _) rfl) <| SR.nil ?_)
        refine W.cond_d rfl (fun h188 => ?_) (fun h188 => ?_)
        · refine W.regS (SR.q' (r_fa fa45_3 rfl) <| SR.store (o := 3) (vs := [.int .i64 1201]) sca3.2 rfl rfl rfl rfl ((hb73).kn hk77 (by omega)) (Nat.le_of_ble_eq_true rfl) rfl ?_)
          intro w189 hk190 hs191 hb192
          have hz193 := hk190.size
          have hB194 := hB85.new hk190 (by omega)
          refine SR.nil ?_
          refine W.seq ?_
          refine W.regS (SR.q' (r_lda (l := [.int .i64 v18, .int .i64 (1 + v29), .int .i64 m, .int .i64 1201]) agg45 rfl (fun _ _ hu => (hb192).cell hu) rfl) <| SR.store (o := 0) (vs := [.int .i64 v18, .int .i64 (1 + v29), .int .i64 m, .int .i64 1201]) agg45.2 rfl rfl rfl rfl (((((((((((hb6).lo hk12).kn hk17 (by omega)).kn hk28 (by omega)).lo hk40).kn hk46 (by omega)).lo hk57).lo hk63).kn hk71 (by omega)).kn hk77 (by omega)).kn hk190 (by omega)) (Nat.le_of_ble_eq_true rfl) rfl ?_)
          intro w195 hk196 hs197 hb198
          have hz199 := hk196.size
          have hB200 := hB194.new hk196 (by omega)
          refine SR.nil ?_
          refine W.ret ?_
          refine retC rfl rfl agg45 (hb198) rfl ?_
          exact ⟨(⟨v18, 1 + v29, m, 1201⟩ : Visit), t79, s80, eR (eA rfl), (((hb81).kn hk190 (by omega)).kn hk196 (by omega)), ⟨by omega, by omega⟩, (z_c___spec_l1Cur__visit_201 Lc tc sc nc htc hbdc hlec m hp0 v18 t19 s20 ht22 hq23 hq26 v29 t30 s31 ht33 hq34 v47 t48 s49 ht51 hq52 hq55 v78 t79 s80 ht82 hq83 h86 h120 h154 h188), hB200⟩
        · refine W.skip ?_
          refine W.seq ?_
          refine W.regS (SR.q' (r_lda (l := [.int .i64 v18, .int .i64 (1 + v29), .int .i64 m, .int .i64 (min 1200 (m + v47))]) agg45 rfl (fun _ _ hu => ((hb73).kn hk77 (by omega)).cell hu) rfl) <| SR.store (o := 0) (vs := [.int .i64 v18, .int .i64 (1 + v29), .int .i64 m, .int .i64 (min 1200 (m + v47))]) agg45.2 rfl rfl rfl rfl ((((((((((hb6).lo hk12).kn hk17 (by omega)).kn hk28 (by omega)).lo hk40).kn hk46 (by omega)).lo hk57).lo hk63).kn hk71 (by omega)).kn hk77 (by omega)) (Nat.le_of_ble_eq_true rfl) rfl ?_)
          intro w202 hk203 hs204 hb205
          have hz206 := hk203.size
          have hB207 := hB85.new hk203 (by omega)
          refine SR.nil ?_
          refine W.ret ?_
          refine retC rfl rfl agg45 (hb205) rfl ?_
          exact ⟨(⟨v18, 1 + v29, m, min 1200 (m + v47)⟩ : Visit), t79, s80, eR (eA rfl), ((hb81).kn hk203 (by omega)), ⟨by omega, by omega⟩, (z_c___spec_l1Cur__visit_208 Lc tc sc nc htc hbdc hlec m hp0 v18 t19 s20 ht22 hq23 hq26 v29 t30 s31 ht33 hq34 v47 t48 s49 ht51 hq52 hq55 v78 t79 s80 ht82 hq83 h86 h120 h154 h188), hB207⟩

theorem z_c___spec_l1Cur__visits_38 (Lc : List UInt8) (tc : Int) (sc : Int) (nc : Nat) (htc : 0 ≤ tc ∧ tc + 200 ≤ 4611686018427387904) (hbdc : (nc : Int) ≤ 9223372036854775807) (hlec : nc = Lc.length) (v18 : Int) (t19 : Int) (s20 : Int) (ht22 : tc ≤ t19 ∧ t19 ≤ tc + 2) (hq23 : v18 ∈ ([480, 480, 540, 1100] : List Int)) (hq26 : (480 : Int) ≤ v18 ∧ v18 ≤ 1100) (v29 : Int) (t30 : Int) (s31 : Int) (ht33 : t19 ≤ t30 ∧ t30 ≤ t19 + 2) (hq34 : (0 : Int) ≤ v29 ∧ ((v29 : Int) < 10 ∨ (v29 : Int) = 0)) : ((0 ≤ v29 ∧ v29 ≤ 9) ∧ -10 ≤ v18 ∧ v18 ≤ 1200 ∧ (([] : List Visit).length : Int) + v29 ≤ 9 ∧ tc ≤ t30 ∧ t30 ≤ tc + 4 + 14 * (9 - v29)) ∧ VsB ([] : List Visit) := by
  exact ⟨⟨by omega, by omega, by omega, by simp; omega, by omega, by omega⟩, VsB.nil⟩
theorem z_c___spec_l1Cur__visits_132 (Lc : List UInt8) (tc : Int) (sc : Int) (nc : Nat) (htc : 0 ≤ tc ∧ tc + 200 ≤ 4611686018427387904) (hbdc : (nc : Int) ≤ 9223372036854775807) (hlec : nc = Lc.length) (v18 : Int) (t19 : Int) (s20 : Int) (ht22 : tc ≤ t19 ∧ t19 ≤ tc + 2) (hq23 : v18 ∈ ([480, 480, 540, 1100] : List Int)) (hq26 : (480 : Int) ≤ v18 ∧ v18 ≤ 1100) (v29 : Int) (t30 : Int) (s31 : Int) (ht33 : t19 ≤ t30 ∧ t30 ≤ t19 + 2) (hq34 : (0 : Int) ≤ v29 ∧ ((v29 : Int) < 10 ∨ (v29 : Int) = 0)) (n : Int) (m : Int) (R : List Visit) (t : Int) (z : Int) (n37 : Nat) (c37 : Nat) (hi46 : ((0 ≤ n ∧ n ≤ 9) ∧ -10 ≤ m ∧ m ≤ 1200 ∧ (R.length : Int) + n ≤ 9 ∧ tc ≤ t ∧ t ≤ tc + 4 + 14 * (9 - n)) ∧ VsB R) (hl49 : n37 = (R).length) (hq51 : (0 ≤ n ∧ n ≤ 9) ∧ -10 ≤ m ∧ m ≤ 1200 ∧ (R.length : Int) + n ≤ 9 ∧ tc ≤ t ∧ t ≤ tc + 4 + 14 * (9 - n)) (hq52 : VsB R) (h53 : 0 < n) (v74 : Visit) (t75 : Int) (s76 : Int) (ht78 : t ≤ t75 ∧ t75 ≤ t + 10) (hq79 : (-100000 ≤ v74.From ∧ v74.From ≤ 100000) ∧ (-100000 ≤ v74.Until ∧ v74.Until ≤ 100000)) (h106 : VsOK (R ++ ([v74] : List Visit))) (v119 : Int) (t120 : Int) (s121 : Int) (ht123 : t75 ≤ t120 ∧ t120 ≤ t75 + 2) (hq124 : v119 ∈ ([0, 0, 30, 60, 61] : List Int)) (hq127 : (0 : Int) ≤ v119 ∧ v119 ≤ 61) : ((0 ≤ n - 1 ∧ n - 1 ≤ 9) ∧ -10 ≤ min 1199 (m + v119) ∧ min 1199 (m + v119) ≤ 1200 ∧ ((R ++ ([v74] : List Visit)).length : Int) + (n - 1) ≤ 9 ∧ tc ≤ t120 ∧ t120 ≤ tc + 4 + 14 * (9 - (n - 1))) ∧ VsB (R ++ ([v74] : List Visit)) := by
  exact ⟨⟨by omega, by omega, by omega, by first | omega | (simp only [List.length_append, List.length_cons, List.length_nil, List.length_drop]; omega), by omega, by omega⟩, (by first | exact ‹VsB _› | exact VsB.nil | exact (VsB.one (by first | assumption | omega | (dsimp only; omega))) | exact VsB.app ‹VsB _› (VsB.one (by first | assumption | omega | (dsimp only; omega))) | exact VsB.app (VsB.app VsB.nil ‹VsB _›) (VsB.one (by first | assumption | omega | (dsimp only; omega))) | exact VsB.app (VsB.drop ‹VsB _›) (VsB.one (by first | assumption | omega | (dsimp only; omega))))⟩
theorem z_c___spec_l1Cur__visits_133 (Lc : List UInt8) (tc : Int) (sc : Int) (nc : Nat) (htc : 0 ≤ tc ∧ tc + 200 ≤ 4611686018427387904) (hbdc : (nc : Int) ≤ 9223372036854775807) (hlec : nc = Lc.length) (v18 : Int) (t19 : Int) (s20 : Int) (ht22 : tc ≤ t19 ∧ t19 ≤ tc + 2) (hq23 : v18 ∈ ([480, 480, 540, 1100] : List Int)) (hq26 : (480 : Int) ≤ v18 ∧ v18 ≤ 1100) (v29 : Int) (t30 : Int) (s31 : Int) (ht33 : t19 ≤ t30 ∧ t30 ≤ t19 + 2) (hq34 : (0 : Int) ≤ v29 ∧ ((v29 : Int) < 10 ∨ (v29 : Int) = 0)) (n : Int) (m : Int) (R : List Visit) (t : Int) (z : Int) (n37 : Nat) (c37 : Nat) (hi46 : ((0 ≤ n ∧ n ≤ 9) ∧ -10 ≤ m ∧ m ≤ 1200 ∧ (R.length : Int) + n ≤ 9 ∧ tc ≤ t ∧ t ≤ tc + 4 + 14 * (9 - n)) ∧ VsB R) (hl49 : n37 = (R).length) (hq51 : (0 ≤ n ∧ n ≤ 9) ∧ -10 ≤ m ∧ m ≤ 1200 ∧ (R.length : Int) + n ≤ 9 ∧ tc ≤ t ∧ t ≤ tc + 4 + 14 * (9 - n)) (hq52 : VsB R) (h53 : 0 < n) (v74 : Visit) (t75 : Int) (s76 : Int) (ht78 : t ≤ t75 ∧ t75 ≤ t + 10) (hq79 : (-100000 ≤ v74.From ∧ v74.From ≤ 100000) ∧ (-100000 ≤ v74.Until ∧ v74.Until ≤ 100000)) (h106 : VsOK (R ++ ([v74] : List Visit))) (v119 : Int) (t120 : Int) (s121 : Int) (ht123 : t75 ≤ t120 ∧ t120 ≤ t75 + 2) (hq124 : v119 ∈ ([0, 0, 30, 60, 61] : List Int)) (hq127 : (0 : Int) ≤ v119 ∧ v119 ≤ 61) : (n - 1).toNat < n.toNat := by
  omega
theorem z_c___spec_l1Cur__visits_169 (Lc : List UInt8) (tc : Int) (sc : Int) (nc : Nat) (htc : 0 ≤ tc ∧ tc + 200 ≤ 4611686018427387904) (hbdc : (nc : Int) ≤ 9223372036854775807) (hlec : nc = Lc.length) (v18 : Int) (t19 : Int) (s20 : Int) (ht22 : tc ≤ t19 ∧ t19 ≤ tc + 2) (hq23 : v18 ∈ ([480, 480, 540, 1100] : List Int)) (hq26 : (480 : Int) ≤ v18 ∧ v18 ≤ 1100) (v29 : Int) (t30 : Int) (s31 : Int) (ht33 : t19 ≤ t30 ∧ t30 ≤ t19 + 2) (hq34 : (0 : Int) ≤ v29 ∧ ((v29 : Int) < 10 ∨ (v29 : Int) = 0)) (n : Int) (m : Int) (R : List Visit) (t : Int) (z : Int) (n37 : Nat) (c37 : Nat) (hi46 : ((0 ≤ n ∧ n ≤ 9) ∧ -10 ≤ m ∧ m ≤ 1200 ∧ (R.length : Int) + n ≤ 9 ∧ tc ≤ t ∧ t ≤ tc + 4 + 14 * (9 - n)) ∧ VsB R) (hl49 : n37 = (R).length) (hq51 : (0 ≤ n ∧ n ≤ 9) ∧ -10 ≤ m ∧ m ≤ 1200 ∧ (R.length : Int) + n ≤ 9 ∧ tc ≤ t ∧ t ≤ tc + 4 + 14 * (9 - n)) (hq52 : VsB R) (h53 : 0 < n) (v74 : Visit) (t75 : Int) (s76 : Int) (ht78 : t ≤ t75 ∧ t75 ≤ t + 10) (hq79 : (-100000 ≤ v74.From ∧ v74.From ≤ 100000) ∧ (-100000 ≤ v74.Until ∧ v74.Until ≤ 100000)) (h106 : ¬ (VsOK (R ++ ([v74] : List Visit)))) (v136 : Bool) (t137 : Int) (s138 : Int) (ht140 : t75 ≤ t137 ∧ t137 ≤ t75 + 2) (h143 : v136 = true) (v156 : Int) (t157 : Int) (s158 : Int) (ht160 : t137 ≤ t157 ∧ t157 ≤ t137 + 2) (hq161 : v156 ∈ ([0, 0, 30, 60, 61] : List Int)) (hq164 : (0 : Int) ≤ v156 ∧ v156 ≤ 61) : ((0 ≤ n - 1 ∧ n - 1 ≤ 9) ∧ -10 ≤ min 1199 (m + v156) ∧ min 1199 (m + v156) ≤ 1200 ∧ ((R ++ ([v74] : List Visit)).length : Int) + (n - 1) ≤ 9 ∧ tc ≤ t157 ∧ t157 ≤ tc + 4 + 14 * (9 - (n - 1))) ∧ VsB (R ++ ([v74] : List Visit)) := by
  exact ⟨⟨by omega, by omega, by omega, by first | omega | (simp only [List.length_append, List.length_cons, List.length_nil, List.length_drop]; omega), by omega, by omega⟩, (by first | exact ‹VsB _› | exact VsB.nil | exact (VsB.one (by first | assumption | omega | (dsimp only; omega))) | exact VsB.app ‹VsB _› (VsB.one (by first | assumption | omega | (dsimp only; omega))) | exact VsB.app (VsB.app VsB.nil ‹VsB _›) (VsB.one (by first | assumption | omega | (dsimp only; omega))) | exact VsB.app (VsB.drop ‹VsB _›) (VsB.one (by first | assumption | omega | (dsimp only; omega))))⟩
theorem z_c___spec_l1Cur__visits_170 (Lc : List UInt8) (tc : Int) (sc : Int) (nc : Nat) (htc : 0 ≤ tc ∧ tc + 200 ≤ 4611686018427387904) (hbdc : (nc : Int) ≤ 9223372036854775807) (hlec : nc = Lc.length) (v18 : Int) (t19 : Int) (s20 : Int) (ht22 : tc ≤ t19 ∧ t19 ≤ tc + 2) (hq23 : v18 ∈ ([480, 480, 540, 1100] : List Int)) (hq26 : (480 : Int) ≤ v18 ∧ v18 ≤ 1100) (v29 : Int) (t30 : Int) (s31 : Int) (ht33 : t19 ≤ t30 ∧ t30 ≤ t19 + 2) (hq34 : (0 : Int) ≤ v29 ∧ ((v29 : Int) < 10 ∨ (v29 : Int) = 0)) (n : Int) (m : Int) (R : List Visit) (t : Int) (z : Int) (n37 : Nat) (c37 : Nat) (hi46 : ((0 ≤ n ∧ n ≤ 9) ∧ -10 ≤ m ∧ m ≤ 1200 ∧ (R.length : Int) + n ≤ 9 ∧ tc ≤ t ∧ t ≤ tc + 4 + 14 * (9 - n)) ∧ VsB R) (hl49 : n37 = (R).length) (hq51 : (0 ≤ n ∧ n ≤ 9) ∧ -10 ≤ m ∧ m ≤ 1200 ∧ (R.length : Int) + n ≤ 9 ∧ tc ≤ t ∧ t ≤ tc + 4 + 14 * (9 - n)) (hq52 : VsB R) (h53 : 0 < n) (v74 : Visit) (t75 : Int) (s76 : Int) (ht78 : t ≤ t75 ∧ t75 ≤ t + 10) (hq79 : (-100000 ≤ v74.From ∧ v74.From ≤ 100000) ∧ (-100000 ≤ v74.Until ∧ v74.Until ≤ 100000)) (h106 : ¬ (VsOK (R ++ ([v74] : List Visit)))) (v136 : Bool) (t137 : Int) (s138 : Int) (ht140 : t75 ≤ t137 ∧ t137 ≤ t75 + 2) (h143 : v136 = true) (v156 : Int) (t157 : Int) (s158 : Int) (ht160 : t137 ≤ t157 ∧ t157 ≤ t137 + 2) (hq161 : v156 ∈ ([0, 0, 30, 60, 61] : List Int)) (hq164 : (0 : Int) ≤ v156 ∧ v156 ≤ 61) : (n - 1).toNat < n.toNat := by
  omega
theorem z_c___spec_l1Cur__visits_196 (Lc : List UInt8) (tc : Int) (sc : Int) (nc : Nat) (htc : 0 ≤ tc ∧ tc + 200 ≤ 4611686018427387904) (hbdc : (nc : Int) ≤ 9223372036854775807) (hlec : nc = Lc.length) (v18 : Int) (t19 : Int) (s20 : Int) (ht22 : tc ≤ t19 ∧ t19 ≤ tc + 2) (hq23 : v18 ∈ ([480, 480, 540, 1100] : List Int)) (hq26 : (480 : Int) ≤ v18 ∧ v18 ≤ 1100) (v29 : Int) (t30 : Int) (s31 : Int) (ht33 : t19 ≤ t30 ∧ t30 ≤ t19 + 2) (hq34 : (0 : Int) ≤ v29 ∧ ((v29 : Int) < 10 ∨ (v29 : Int) = 0)) (n : Int) (m : Int) (R : List Visit) (t : Int) (z : Int) (n37 : Nat) (c37 : Nat) (hi46 : ((0 ≤ n ∧ n ≤ 9) ∧ -10 ≤ m ∧ m ≤ 1200 ∧ (R.length : Int) + n ≤ 9 ∧ tc ≤ t ∧ t ≤ tc + 4 + 14 * (9 - n)) ∧ VsB R) (hl49 : n37 = (R).length) (hq51 : (0 ≤ n ∧ n ≤ 9) ∧ -10 ≤ m ∧ m ≤ 1200 ∧ (R.length : Int) + n ≤ 9 ∧ tc ≤ t ∧ t ≤ tc + 4 + 14 * (9 - n)) (hq52 : VsB R) (h53 : 0 < n) (v74 : Visit) (t75 : Int) (s76 : Int) (ht78 : t ≤ t75 ∧ t75 ≤ t + 10) (hq79 : (-100000 ≤ v74.From ∧ v74.From ≤ 100000) ∧ (-100000 ≤ v74.Until ∧ v74.Until ≤ 100000)) (h106 : ¬ (VsOK (R ++ ([v74] : List Visit)))) (v136 : Bool) (t137 : Int) (s138 : Int) (ht140 : t75 ≤ t137 ∧ t137 ≤ t75 + 2) (h143 : v136 = false) (v183 : Int) (t184 : Int) (s185 : Int) (ht187 : t137 ≤ t184 ∧ t184 ≤ t137 + 2) (hq188 : v183 ∈ ([0, 0, 30, 60, 61] : List Int)) (hq191 : (0 : Int) ≤ v183 ∧ v183 ≤ 61) : ((0 ≤ n - 1 ∧ n - 1 ≤ 9) ∧ -10 ≤ min 1199 (m + v183) ∧ min 1199 (m + v183) ≤ 1200 ∧ (R.length : Int) + (n - 1) ≤ 9 ∧ tc ≤ t184 ∧ t184 ≤ tc + 4 + 14 * (9 - (n - 1))) ∧ VsB R := by
  exact ⟨⟨by omega, by omega, by omega, by first | omega | (simp only [List.length_append, List.length_cons, List.length_nil, List.length_drop]; omega), by omega, by omega⟩, (by first | exact ‹VsB _› | exact VsB.nil | exact (VsB.one (by first | assumption | omega | (dsimp only; omega))) | exact VsB.app ‹VsB _› (VsB.one (by first | assumption | omega | (dsimp only; omega))) | exact VsB.app (VsB.app VsB.nil ‹VsB _›) (VsB.one (by first | assumption | omega | (dsimp only; omega))) | exact VsB.app (VsB.drop ‹VsB _›) (VsB.one (by first | assumption | omega | (dsimp only; omega))))⟩
theorem z_c___spec_l1Cur__visits_197 (Lc : List UInt8) (tc : Int) (sc : Int) (nc : Nat) (htc : 0 ≤ tc ∧ tc + 200 ≤ 4611686018427387904) (hbdc : (nc : Int) ≤ 9223372036854775807) (hlec : nc = Lc.length) (v18 : Int) (t19 : Int) (s20 : Int) (ht22 : tc ≤ t19 ∧ t19 ≤ tc + 2) (hq23 : v18 ∈ ([480, 480, 540, 1100] : List Int)) (hq26 : (480 : Int) ≤ v18 ∧ v18 ≤ 1100) (v29 : Int) (t30 : Int) (s31 : Int) (ht33 : t19 ≤ t30 ∧ t30 ≤ t19 + 2) (hq34 : (0 : Int) ≤ v29 ∧ ((v29 : Int) < 10 ∨ (v29 : Int) = 0)) (n : Int) (m : Int) (R : List Visit) (t : Int) (z : Int) (n37 : Nat) (c37 : Nat) (hi46 : ((0 ≤ n ∧ n ≤ 9) ∧ -10 ≤ m ∧ m ≤ 1200 ∧ (R.length : Int) + n ≤ 9 ∧ tc ≤ t ∧ t ≤ tc + 4 + 14 * (9 - n)) ∧ VsB R) (hl49 : n37 = (R).length) (hq51 : (0 ≤ n ∧ n ≤ 9) ∧ -10 ≤ m ∧ m ≤ 1200 ∧ (R.length : Int) + n ≤ 9 ∧ tc ≤ t ∧ t ≤ tc + 4 + 14 * (9 - n)) (hq52 : VsB R) (h53 : 0 < n) (v74 : Visit) (t75 : Int) (s76 : Int) (ht78 : t ≤ t75 ∧ t75 ≤ t + 10) (hq79 : (-100000 ≤ v74.From ∧ v74.From ≤ 100000) ∧ (-100000 ≤ v74.Until ∧ v74.Until ≤ 100000)) (h106 : ¬ (VsOK (R ++ ([v74] : List Visit)))) (v136 : Bool) (t137 : Int) (s138 : Int) (ht140 : t75 ≤ t137 ∧ t137 ≤ t75 + 2) (h143 : v136 = false) (v183 : Int) (t184 : Int) (s185 : Int) (ht187 : t137 ≤ t184 ∧ t184 ≤ t137 + 2) (hq188 : v183 ∈ ([0, 0, 30, 60, 61] : List Int)) (hq191 : (0 : Int) ≤ v183 ∧ v183 ≤ 61) : (n - 1).toNat < n.toNat := by
  omega
theorem z_c___spec_l1Cur__visits_218 (Lc : List UInt8) (tc : Int) (sc : Int) (nc : Nat) (htc : 0 ≤ tc ∧ tc + 200 ≤ 4611686018427387904) (hbdc : (nc : Int) ≤ 9223372036854775807) (hlec : nc = Lc.length) (v18 : Int) (t19 : Int) (s20 : Int) (ht22 : tc ≤ t19 ∧ t19 ≤ tc + 2) (hq23 : v18 ∈ ([480, 480, 540, 1100] : List Int)) (hq26 : (480 : Int) ≤ v18 ∧ v18 ≤ 1100) (v29 : Int) (t30 : Int) (s31 : Int) (ht33 : t19 ≤ t30 ∧ t30 ≤ t19 + 2) (hq34 : (0 : Int) ≤ v29 ∧ ((v29 : Int) < 10 ∨ (v29 : Int) = 0)) (n : Int) (m : Int) (R : List Visit) (t : Int) (z : Int) (n37 : Nat) (c37 : Nat) (hi46 : ((0 ≤ n ∧ n ≤ 9) ∧ -10 ≤ m ∧ m ≤ 1200 ∧ (R.length : Int) + n ≤ 9 ∧ tc ≤ t ∧ t ≤ tc + 4 + 14 * (9 - n)) ∧ VsB R) (hl49 : n37 = (R).length) (hq51 : (0 ≤ n ∧ n ≤ 9) ∧ -10 ≤ m ∧ m ≤ 1200 ∧ (R.length : Int) + n ≤ 9 ∧ tc ≤ t ∧ t ≤ tc + 4 + 14 * (9 - n)) (hq52 : VsB R) (h53 : ¬ (0 < n)) (v200 : Int) (t201 : Int) (s202 : Int) (ht204 : t ≤ t201 ∧ t201 ≤ t + 2) (hq205 : (0 : Int) ≤ v200 ∧ ((v200 : Int) < 60 ∨ (v200 : Int) = 0)) (h208 : v200 = 0) : (0 ≤ 6 ∧ ([] : List Visit).length ≤ 0) ∧ VsB ([] : List Visit) := by
  exact ⟨⟨by omega, by simp⟩, VsB.nil⟩
theorem z_c___spec_l1Cur__visits_252 (Lc : List UInt8) (tc : Int) (sc : Int) (nc : Nat) (htc : 0 ≤ tc ∧ tc + 200 ≤ 4611686018427387904) (hbdc : (nc : Int) ≤ 9223372036854775807) (hlec : nc = Lc.length) (v18 : Int) (t19 : Int) (s20 : Int) (ht22 : tc ≤ t19 ∧ t19 ≤ tc + 2) (hq23 : v18 ∈ ([480, 480, 540, 1100] : List Int)) (hq26 : (480 : Int) ≤ v18 ∧ v18 ≤ 1100) (v29 : Int) (t30 : Int) (s31 : Int) (ht33 : t19 ≤ t30 ∧ t30 ≤ t19 + 2) (hq34 : (0 : Int) ≤ v29 ∧ ((v29 : Int) < 10 ∨ (v29 : Int) = 0)) (n : Int) (m : Int) (R : List Visit) (t : Int) (z : Int) (n37 : Nat) (c37 : Nat) (hi46 : ((0 ≤ n ∧ n ≤ 9) ∧ -10 ≤ m ∧ m ≤ 1200 ∧ (R.length : Int) + n ≤ 9 ∧ tc ≤ t ∧ t ≤ tc + 4 + 14 * (9 - n)) ∧ VsB R) (hl49 : n37 = (R).length) (hq51 : (0 ≤ n ∧ n ≤ 9) ∧ -10 ≤ m ∧ m ≤ 1200 ∧ (R.length : Int) + n ≤ 9 ∧ tc ≤ t ∧ t ≤ tc + 4 + 14 * (9 - n)) (hq52 : VsB R) (h53 : ¬ (0 < n)) (v200 : Int) (t201 : Int) (s202 : Int) (ht204 : t ≤ t201 ∧ t201 ≤ t + 2) (hq205 : (0 : Int) ≤ v200 ∧ ((v200 : Int) < 60 ∨ (v200 : Int) = 0)) (h208 : v200 = 0) (k : Nat) (Q : List Visit) (n217 : Nat) (c217 : Nat) (hi226 : (k ≤ 6 ∧ Q.length ≤ k) ∧ VsB Q) (hl229 : n217 = (Q).length) (hq231 : k ≤ 6 ∧ Q.length ≤ k) (hq232 : VsB Q) (h233 : (k : Int) < 6) : ((k + 1) ≤ 6 ∧ (Q ++ ([(⟨(k : Int) + 1, (k : Int) + 1, 500, 560 + (k : Int)⟩ : Visit)] : List Visit)).length ≤ (k + 1)) ∧ VsB (Q ++ ([(⟨(k : Int) + 1, (k : Int) + 1, 500, 560 + (k : Int)⟩ : Visit)] : List Visit)) := by
  exact ⟨⟨by omega, by simp only [List.length_append, List.length_cons, List.length_nil, List.length_drop]; omega⟩, (by first | exact ‹VsB _› | exact VsB.nil | exact (VsB.one (by first | assumption | omega | (dsimp only; omega))) | exact VsB.app ‹VsB _› (VsB.one (by first | assumption | omega | (dsimp only; omega))) | exact VsB.app (VsB.app VsB.nil ‹VsB _›) (VsB.one (by first | assumption | omega | (dsimp only; omega))) | exact VsB.app (VsB.drop ‹VsB _›) (VsB.one (by first | assumption | omega | (dsimp only; omega))))⟩
theorem z_c___spec_l1Cur__visits_253 (Lc : List UInt8) (tc : Int) (sc : Int) (nc : Nat) (htc : 0 ≤ tc ∧ tc + 200 ≤ 4611686018427387904) (hbdc : (nc : Int) ≤ 9223372036854775807) (hlec : nc = Lc.length) (v18 : Int) (t19 : Int) (s20 : Int) (ht22 : tc ≤ t19 ∧ t19 ≤ tc + 2) (hq23 : v18 ∈ ([480, 480, 540, 1100] : List Int)) (hq26 : (480 : Int) ≤ v18 ∧ v18 ≤ 1100) (v29 : Int) (t30 : Int) (s31 : Int) (ht33 : t19 ≤ t30 ∧ t30 ≤ t19 + 2) (hq34 : (0 : Int) ≤ v29 ∧ ((v29 : Int) < 10 ∨ (v29 : Int) = 0)) (n : Int) (m : Int) (R : List Visit) (t : Int) (z : Int) (n37 : Nat) (c37 : Nat) (hi46 : ((0 ≤ n ∧ n ≤ 9) ∧ -10 ≤ m ∧ m ≤ 1200 ∧ (R.length : Int) + n ≤ 9 ∧ tc ≤ t ∧ t ≤ tc + 4 + 14 * (9 - n)) ∧ VsB R) (hl49 : n37 = (R).length) (hq51 : (0 ≤ n ∧ n ≤ 9) ∧ -10 ≤ m ∧ m ≤ 1200 ∧ (R.length : Int) + n ≤ 9 ∧ tc ≤ t ∧ t ≤ tc + 4 + 14 * (9 - n)) (hq52 : VsB R) (h53 : ¬ (0 < n)) (v200 : Int) (t201 : Int) (s202 : Int) (ht204 : t ≤ t201 ∧ t201 ≤ t + 2) (hq205 : (0 : Int) ≤ v200 ∧ ((v200 : Int) < 60 ∨ (v200 : Int) = 0)) (h208 : v200 = 0) (k : Nat) (Q : List Visit) (n217 : Nat) (c217 : Nat) (hi226 : (k ≤ 6 ∧ Q.length ≤ k) ∧ VsB Q) (hl229 : n217 = (Q).length) (hq231 : k ≤ 6 ∧ Q.length ≤ k) (hq232 : VsB Q) (h233 : (k : Int) < 6) : 6 - (k + 1) < 6 - k := by
  omega
theorem z_c___spec_l1Cur__visits_254 (Lc : List UInt8) (tc : Int) (sc : Int) (nc : Nat) (htc : 0 ≤ tc ∧ tc + 200 ≤ 4611686018427387904) (hbdc : (nc : Int) ≤ 9223372036854775807) (hlec : nc = Lc.length) (v18 : Int) (t19 : Int) (s20 : Int) (ht22 : tc ≤ t19 ∧ t19 ≤ tc + 2) (hq23 : v18 ∈ ([480, 480, 540, 1100] : List Int)) (hq26 : (480 : Int) ≤ v18 ∧ v18 ≤ 1100) (v29 : Int) (t30 : Int) (s31 : Int) (ht33 : t19 ≤ t30 ∧ t30 ≤ t19 + 2) (hq34 : (0 : Int) ≤ v29 ∧ ((v29 : Int) < 10 ∨ (v29 : Int) = 0)) (n : Int) (m : Int) (R : List Visit) (t : Int) (z : Int) (n37 : Nat) (c37 : Nat) (hi46 : ((0 ≤ n ∧ n ≤ 9) ∧ -10 ≤ m ∧ m ≤ 1200 ∧ (R.length : Int) + n ≤ 9 ∧ tc ≤ t ∧ t ≤ tc + 4 + 14 * (9 - n)) ∧ VsB R) (hl49 : n37 = (R).length) (hq51 : (0 ≤ n ∧ n ≤ 9) ∧ -10 ≤ m ∧ m ≤ 1200 ∧ (R.length : Int) + n ≤ 9 ∧ tc ≤ t ∧ t ≤ tc + 4 + 14 * (9 - n)) (hq52 : VsB R) (h53 : ¬ (0 < n)) (v200 : Int) (t201 : Int) (s202 : Int) (ht204 : t ≤ t201 ∧ t201 ≤ t + 2) (hq205 : (0 : Int) ≤ v200 ∧ ((v200 : Int) < 60 ∨ (v200 : Int) = 0)) (h208 : v200 = 0) (k : Nat) (Q : List Visit) (n217 : Nat) (c217 : Nat) (hi226 : (k ≤ 6 ∧ Q.length ≤ k) ∧ VsB Q) (hl229 : n217 = (Q).length) (hq231 : k ≤ 6 ∧ Q.length ≤ k) (hq232 : VsB Q) (h233 : ¬ ((k : Int) < 6)) : Q.length ≤ 60 := by
  first | omega | (simp only [List.length_append, List.length_cons, List.length_nil, List.length_drop]; omega)
theorem z_c___spec_l1Cur__visits_265 (Lc : List UInt8) (tc : Int) (sc : Int) (nc : Nat) (htc : 0 ≤ tc ∧ tc + 200 ≤ 4611686018427387904) (hbdc : (nc : Int) ≤ 9223372036854775807) (hlec : nc = Lc.length) (v18 : Int) (t19 : Int) (s20 : Int) (ht22 : tc ≤ t19 ∧ t19 ≤ tc + 2) (hq23 : v18 ∈ ([480, 480, 540, 1100] : List Int)) (hq26 : (480 : Int) ≤ v18 ∧ v18 ≤ 1100) (v29 : Int) (t30 : Int) (s31 : Int) (ht33 : t19 ≤ t30 ∧ t30 ≤ t19 + 2) (hq34 : (0 : Int) ≤ v29 ∧ ((v29 : Int) < 10 ∨ (v29 : Int) = 0)) (n : Int) (m : Int) (R : List Visit) (t : Int) (z : Int) (n37 : Nat) (c37 : Nat) (hi46 : ((0 ≤ n ∧ n ≤ 9) ∧ -10 ≤ m ∧ m ≤ 1200 ∧ (R.length : Int) + n ≤ 9 ∧ tc ≤ t ∧ t ≤ tc + 4 + 14 * (9 - n)) ∧ VsB R) (hl49 : n37 = (R).length) (hq51 : (0 ≤ n ∧ n ≤ 9) ∧ -10 ≤ m ∧ m ≤ 1200 ∧ (R.length : Int) + n ≤ 9 ∧ tc ≤ t ∧ t ≤ tc + 4 + 14 * (9 - n)) (hq52 : VsB R) (h53 : ¬ (0 < n)) (v200 : Int) (t201 : Int) (s202 : Int) (ht204 : t ≤ t201 ∧ t201 ≤ t + 2) (hq205 : (0 : Int) ≤ v200 ∧ ((v200 : Int) < 60 ∨ (v200 : Int) = 0)) (h208 : ¬ (v200 = 0)) (h255 : v200 = 1) : (0 ≤ 6 ∧ ([] : List Visit).length ≤ 0) ∧ VsB ([] : List Visit) := by
  exact ⟨⟨by omega, by simp⟩, VsB.nil⟩
theorem z_c___spec_l1Cur__visits_299 (Lc : List UInt8) (tc : Int) (sc : Int) (nc : Nat) (htc : 0 ≤ tc ∧ tc + 200 ≤ 4611686018427387904) (hbdc : (nc : Int) ≤ 9223372036854775807) (hlec : nc = Lc.length) (v18 : Int) (t19 : Int) (s20 : Int) (ht22 : tc ≤ t19 ∧ t19 ≤ tc + 2) (hq23 : v18 ∈ ([480, 480, 540, 1100] : List Int)) (hq26 : (480 : Int) ≤ v18 ∧ v18 ≤ 1100) (v29 : Int) (t30 : Int) (s31 : Int) (ht33 : t19 ≤ t30 ∧ t30 ≤ t19 + 2) (hq34 : (0 : Int) ≤ v29 ∧ ((v29 : Int) < 10 ∨ (v29 : Int) = 0)) (n : Int) (m : Int) (R : List Visit) (t : Int) (z : Int) (n37 : Nat) (c37 : Nat) (hi46 : ((0 ≤ n ∧ n ≤ 9) ∧ -10 ≤ m ∧ m ≤ 1200 ∧ (R.length : Int) + n ≤ 9 ∧ tc ≤ t ∧ t ≤ tc + 4 + 14 * (9 - n)) ∧ VsB R) (hl49 : n37 = (R).length) (hq51 : (0 ≤ n ∧ n ≤ 9) ∧ -10 ≤ m ∧ m ≤ 1200 ∧ (R.length : Int) + n ≤ 9 ∧ tc ≤ t ∧ t ≤ tc + 4 + 14 * (9 - n)) (hq52 : VsB R) (h53 : ¬ (0 < n)) (v200 : Int) (t201 : Int) (s202 : Int) (ht204 : t ≤ t201 ∧ t201 ≤ t + 2) (hq205 : (0 : Int) ≤ v200 ∧ ((v200 : Int) < 60 ∨ (v200 : Int) = 0)) (h208 : ¬ (v200 = 0)) (h255 : v200 = 1) (k : Nat) (Q : List Visit) (n264 : Nat) (c264 : Nat) (hi273 : (k ≤ 6 ∧ Q.length ≤ k) ∧ VsB Q) (hl276 : n264 = (Q).length) (hq278 : k ≤ 6 ∧ Q.length ≤ k) (hq279 : VsB Q) (h280 : (k : Int) < 6) : ((k + 1) ≤ 6 ∧ (Q ++ ([(⟨(k : Int) + 1, (k : Int) + 1, 500, 560 + (k : Int)⟩ : Visit)] : List Visit)).length ≤ (k + 1)) ∧ VsB (Q ++ ([(⟨(k : Int) + 1, (k : Int) + 1, 500, 560 + (k : Int)⟩ : Visit)] : List Visit)) := by
  exact ⟨⟨by omega, by simp only [List.length_append, List.length_cons, List.length_nil, List.length_drop]; omega⟩, (by first | exact ‹VsB _› | exact VsB.nil | exact (VsB.one (by first | assumption | omega | (dsimp only; omega))) | exact VsB.app ‹VsB _› (VsB.one (by first | assumption | omega | (dsimp only; omega))) | exact VsB.app (VsB.app VsB.nil ‹VsB _›) (VsB.one (by first | assumption | omega | (dsimp only; omega))) | exact VsB.app (VsB.drop ‹VsB _›) (VsB.one (by first | assumption | omega | (dsimp only; omega))))⟩
theorem z_c___spec_l1Cur__visits_300 (Lc : List UInt8) (tc : Int) (sc : Int) (nc : Nat) (htc : 0 ≤ tc ∧ tc + 200 ≤ 4611686018427387904) (hbdc : (nc : Int) ≤ 9223372036854775807) (hlec : nc = Lc.length) (v18 : Int) (t19 : Int) (s20 : Int) (ht22 : tc ≤ t19 ∧ t19 ≤ tc + 2) (hq23 : v18 ∈ ([480, 480, 540, 1100] : List Int)) (hq26 : (480 : Int) ≤ v18 ∧ v18 ≤ 1100) (v29 : Int) (t30 : Int) (s31 : Int) (ht33 : t19 ≤ t30 ∧ t30 ≤ t19 + 2) (hq34 : (0 : Int) ≤ v29 ∧ ((v29 : Int) < 10 ∨ (v29 : Int) = 0)) (n : Int) (m : Int) (R : List Visit) (t : Int) (z : Int) (n37 : Nat) (c37 : Nat) (hi46 : ((0 ≤ n ∧ n ≤ 9) ∧ -10 ≤ m ∧ m ≤ 1200 ∧ (R.length : Int) + n ≤ 9 ∧ tc ≤ t ∧ t ≤ tc + 4 + 14 * (9 - n)) ∧ VsB R) (hl49 : n37 = (R).length) (hq51 : (0 ≤ n ∧ n ≤ 9) ∧ -10 ≤ m ∧ m ≤ 1200 ∧ (R.length : Int) + n ≤ 9 ∧ tc ≤ t ∧ t ≤ tc + 4 + 14 * (9 - n)) (hq52 : VsB R) (h53 : ¬ (0 < n)) (v200 : Int) (t201 : Int) (s202 : Int) (ht204 : t ≤ t201 ∧ t201 ≤ t + 2) (hq205 : (0 : Int) ≤ v200 ∧ ((v200 : Int) < 60 ∨ (v200 : Int) = 0)) (h208 : ¬ (v200 = 0)) (h255 : v200 = 1) (k : Nat) (Q : List Visit) (n264 : Nat) (c264 : Nat) (hi273 : (k ≤ 6 ∧ Q.length ≤ k) ∧ VsB Q) (hl276 : n264 = (Q).length) (hq278 : k ≤ 6 ∧ Q.length ≤ k) (hq279 : VsB Q) (h280 : (k : Int) < 6) : 6 - (k + 1) < 6 - k := by
  omega
theorem z_c___spec_l1Cur__visits_301 (Lc : List UInt8) (tc : Int) (sc : Int) (nc : Nat) (htc : 0 ≤ tc ∧ tc + 200 ≤ 4611686018427387904) (hbdc : (nc : Int) ≤ 9223372036854775807) (hlec : nc = Lc.length) (v18 : Int) (t19 : Int) (s20 : Int) (ht22 : tc ≤ t19 ∧ t19 ≤ tc + 2) (hq23 : v18 ∈ ([480, 480, 540, 1100] : List Int)) (hq26 : (480 : Int) ≤ v18 ∧ v18 ≤ 1100) (v29 : Int) (t30 : Int) (s31 : Int) (ht33 : t19 ≤ t30 ∧ t30 ≤ t19 + 2) (hq34 : (0 : Int) ≤ v29 ∧ ((v29 : Int) < 10 ∨ (v29 : Int) = 0)) (n : Int) (m : Int) (R : List Visit) (t : Int) (z : Int) (n37 : Nat) (c37 : Nat) (hi46 : ((0 ≤ n ∧ n ≤ 9) ∧ -10 ≤ m ∧ m ≤ 1200 ∧ (R.length : Int) + n ≤ 9 ∧ tc ≤ t ∧ t ≤ tc + 4 + 14 * (9 - n)) ∧ VsB R) (hl49 : n37 = (R).length) (hq51 : (0 ≤ n ∧ n ≤ 9) ∧ -10 ≤ m ∧ m ≤ 1200 ∧ (R.length : Int) + n ≤ 9 ∧ tc ≤ t ∧ t ≤ tc + 4 + 14 * (9 - n)) (hq52 : VsB R) (h53 : ¬ (0 < n)) (v200 : Int) (t201 : Int) (s202 : Int) (ht204 : t ≤ t201 ∧ t201 ≤ t + 2) (hq205 : (0 : Int) ≤ v200 ∧ ((v200 : Int) < 60 ∨ (v200 : Int) = 0)) (h208 : ¬ (v200 = 0)) (h255 : v200 = 1) (k : Nat) (Q : List Visit) (n264 : Nat) (c264 : Nat) (hi273 : (k ≤ 6 ∧ Q.length ≤ k) ∧ VsB Q) (hl276 : n264 = (Q).length) (hq278 : k ≤ 6 ∧ Q.length ≤ k) (hq279 : VsB Q) (h280 : ¬ ((k : Int) < 6)) : Q.length ≤ 60 := by
  first | omega | (simp only [List.length_append, List.length_cons, List.length_nil, List.length_drop]; omega)
theorem z_c___spec_l1Cur__visits_312 (Lc : List UInt8) (tc : Int) (sc : Int) (nc : Nat) (htc : 0 ≤ tc ∧ tc + 200 ≤ 4611686018427387904) (hbdc : (nc : Int) ≤ 9223372036854775807) (hlec : nc = Lc.length) (v18 : Int) (t19 : Int) (s20 : Int) (ht22 : tc ≤ t19 ∧ t19 ≤ tc + 2) (hq23 : v18 ∈ ([480, 480, 540, 1100] : List Int)) (hq26 : (480 : Int) ≤ v18 ∧ v18 ≤ 1100) (v29 : Int) (t30 : Int) (s31 : Int) (ht33 : t19 ≤ t30 ∧ t30 ≤ t19 + 2) (hq34 : (0 : Int) ≤ v29 ∧ ((v29 : Int) < 10 ∨ (v29 : Int) = 0)) (n : Int) (m : Int) (R : List Visit) (t : Int) (z : Int) (n37 : Nat) (c37 : Nat) (hi46 : ((0 ≤ n ∧ n ≤ 9) ∧ -10 ≤ m ∧ m ≤ 1200 ∧ (R.length : Int) + n ≤ 9 ∧ tc ≤ t ∧ t ≤ tc + 4 + 14 * (9 - n)) ∧ VsB R) (hl49 : n37 = (R).length) (hq51 : (0 ≤ n ∧ n ≤ 9) ∧ -10 ≤ m ∧ m ≤ 1200 ∧ (R.length : Int) + n ≤ 9 ∧ tc ≤ t ∧ t ≤ tc + 4 + 14 * (9 - n)) (hq52 : VsB R) (h53 : ¬ (0 < n)) (v200 : Int) (t201 : Int) (s202 : Int) (ht204 : t ≤ t201 ∧ t201 ≤ t + 2) (hq205 : (0 : Int) ≤ v200 ∧ ((v200 : Int) < 60 ∨ (v200 : Int) = 0)) (h208 : ¬ (v200 = 0)) (h255 : ¬ (v200 = 1)) (h302 : v200 = 2) : (0 ≤ 16 ∧ ([] : List Visit).length ≤ 0 ∧ tc ≤ t201 ∧ t201 ≤ tc + 140 + 2 * (0 : Int)) ∧ VsB ([] : List Visit) := by
  exact ⟨⟨by omega, by simp, by omega, by omega⟩, VsB.nil⟩
theorem z_c___spec_l1Cur__visits_356 (Lc : List UInt8) (tc : Int) (sc : Int) (nc : Nat) (htc : 0 ≤ tc ∧ tc + 200 ≤ 4611686018427387904) (hbdc : (nc : Int) ≤ 9223372036854775807) (hlec : nc = Lc.length) (v18 : Int) (t19 : Int) (s20 : Int) (ht22 : tc ≤ t19 ∧ t19 ≤ tc + 2) (hq23 : v18 ∈ ([480, 480, 540, 1100] : List Int)) (hq26 : (480 : Int) ≤ v18 ∧ v18 ≤ 1100) (v29 : Int) (t30 : Int) (s31 : Int) (ht33 : t19 ≤ t30 ∧ t30 ≤ t19 + 2) (hq34 : (0 : Int) ≤ v29 ∧ ((v29 : Int) < 10 ∨ (v29 : Int) = 0)) (n : Int) (m : Int) (R : List Visit) (t : Int) (z : Int) (n37 : Nat) (c37 : Nat) (hi46 : ((0 ≤ n ∧ n ≤ 9) ∧ -10 ≤ m ∧ m ≤ 1200 ∧ (R.length : Int) + n ≤ 9 ∧ tc ≤ t ∧ t ≤ tc + 4 + 14 * (9 - n)) ∧ VsB R) (hl49 : n37 = (R).length) (hq51 : (0 ≤ n ∧ n ≤ 9) ∧ -10 ≤ m ∧ m ≤ 1200 ∧ (R.length : Int) + n ≤ 9 ∧ tc ≤ t ∧ t ≤ tc + 4 + 14 * (9 - n)) (hq52 : VsB R) (h53 : ¬ (0 < n)) (v200 : Int) (t201 : Int) (s202 : Int) (ht204 : t ≤ t201 ∧ t201 ≤ t + 2) (hq205 : (0 : Int) ≤ v200 ∧ ((v200 : Int) < 60 ∨ (v200 : Int) = 0)) (h208 : ¬ (v200 = 0)) (h255 : ¬ (v200 = 1)) (h302 : v200 = 2) (k3 : Nat) (Q3 : List Visit) (t3 : Int) (z3 : Int) (n311 : Nat) (c311 : Nat) (hi320 : (k3 ≤ 16 ∧ Q3.length ≤ k3 ∧ tc ≤ t3 ∧ t3 ≤ tc + 140 + 2 * (k3 : Int)) ∧ VsB Q3) (hl323 : n311 = (Q3).length) (hq325 : k3 ≤ 16 ∧ Q3.length ≤ k3 ∧ tc ≤ t3 ∧ t3 ≤ tc + 140 + 2 * (k3 : Int)) (hq326 : VsB Q3) (v329 : Int) (t330 : Int) (s331 : Int) (ht333 : t3 ≤ t330 ∧ t330 ≤ t3 + 2) (hq334 : (0 : Int) ≤ v329 ∧ ((v329 : Int) < 2 ∨ (v329 : Int) = 0)) (h337 : (k3 : Int) < (15 + v329)) : ((k3 + 1) ≤ 16 ∧ (Q3 ++ ([(⟨1 + ((k3 : Int) % 4), 1 + ((k3 : Int) % 5), 480 + (40 * (k3 : Int)), 520 + (40 * (k3 : Int))⟩ : Visit)] : List Visit)).length ≤ (k3 + 1) ∧ tc ≤ t330 ∧ t330 ≤ tc + 140 + 2 * ((k3 + 1) : Int)) ∧ VsB (Q3 ++ ([(⟨1 + ((k3 : Int) % 4), 1 + ((k3 : Int) % 5), 480 + (40 * (k3 : Int)), 520 + (40 * (k3 : Int))⟩ : Visit)] : List Visit)) := by
  exact ⟨⟨by omega, by simp only [List.length_append, List.length_cons, List.length_nil, List.length_drop]; omega, by omega, by omega⟩, (by first | exact ‹VsB _› | exact VsB.nil | exact (VsB.one (by first | assumption | omega | (dsimp only; omega))) | exact VsB.app ‹VsB _› (VsB.one (by first | assumption | omega | (dsimp only; omega))) | exact VsB.app (VsB.app VsB.nil ‹VsB _›) (VsB.one (by first | assumption | omega | (dsimp only; omega))) | exact VsB.app (VsB.drop ‹VsB _›) (VsB.one (by first | assumption | omega | (dsimp only; omega))))⟩
theorem z_c___spec_l1Cur__visits_357 (Lc : List UInt8) (tc : Int) (sc : Int) (nc : Nat) (htc : 0 ≤ tc ∧ tc + 200 ≤ 4611686018427387904) (hbdc : (nc : Int) ≤ 9223372036854775807) (hlec : nc = Lc.length) (v18 : Int) (t19 : Int) (s20 : Int) (ht22 : tc ≤ t19 ∧ t19 ≤ tc + 2) (hq23 : v18 ∈ ([480, 480, 540, 1100] : List Int)) (hq26 : (480 : Int) ≤ v18 ∧ v18 ≤ 1100) (v29 : Int) (t30 : Int) (s31 : Int) (ht33 : t19 ≤ t30 ∧ t30 ≤ t19 + 2) (hq34 : (0 : Int) ≤ v29 ∧ ((v29 : Int) < 10 ∨ (v29 : Int) = 0)) (n : Int) (m : Int) (R : List Visit) (t : Int) (z : Int) (n37 : Nat) (c37 : Nat) (hi46 : ((0 ≤ n ∧ n ≤ 9) ∧ -10 ≤ m ∧ m ≤ 1200 ∧ (R.length : Int) + n ≤ 9 ∧ tc ≤ t ∧ t ≤ tc + 4 + 14 * (9 - n)) ∧ VsB R) (hl49 : n37 = (R).length) (hq51 : (0 ≤ n ∧ n ≤ 9) ∧ -10 ≤ m ∧ m ≤ 1200 ∧ (R.length : Int) + n ≤ 9 ∧ tc ≤ t ∧ t ≤ tc + 4 + 14 * (9 - n)) (hq52 : VsB R) (h53 : ¬ (0 < n)) (v200 : Int) (t201 : Int) (s202 : Int) (ht204 : t ≤ t201 ∧ t201 ≤ t + 2) (hq205 : (0 : Int) ≤ v200 ∧ ((v200 : Int) < 60 ∨ (v200 : Int) = 0)) (h208 : ¬ (v200 = 0)) (h255 : ¬ (v200 = 1)) (h302 : v200 = 2) (k3 : Nat) (Q3 : List Visit) (t3 : Int) (z3 : Int) (n311 : Nat) (c311 : Nat) (hi320 : (k3 ≤ 16 ∧ Q3.length ≤ k3 ∧ tc ≤ t3 ∧ t3 ≤ tc + 140 + 2 * (k3 : Int)) ∧ VsB Q3) (hl323 : n311 = (Q3).length) (hq325 : k3 ≤ 16 ∧ Q3.length ≤ k3 ∧ tc ≤ t3 ∧ t3 ≤ tc + 140 + 2 * (k3 : Int)) (hq326 : VsB Q3) (v329 : Int) (t330 : Int) (s331 : Int) (ht333 : t3 ≤ t330 ∧ t330 ≤ t3 + 2) (hq334 : (0 : Int) ≤ v329 ∧ ((v329 : Int) < 2 ∨ (v329 : Int) = 0)) (h337 : (k3 : Int) < (15 + v329)) : 20 - (k3 + 1) < 20 - k3 := by
  omega
theorem z_c___spec_l1Cur__visits_358 (Lc : List UInt8) (tc : Int) (sc : Int) (nc : Nat) (htc : 0 ≤ tc ∧ tc + 200 ≤ 4611686018427387904) (hbdc : (nc : Int) ≤ 9223372036854775807) (hlec : nc = Lc.length) (v18 : Int) (t19 : Int) (s20 : Int) (ht22 : tc ≤ t19 ∧ t19 ≤ tc + 2) (hq23 : v18 ∈ ([480, 480, 540, 1100] : List Int)) (hq26 : (480 : Int) ≤ v18 ∧ v18 ≤ 1100) (v29 : Int) (t30 : Int) (s31 : Int) (ht33 : t19 ≤ t30 ∧ t30 ≤ t19 + 2) (hq34 : (0 : Int) ≤ v29 ∧ ((v29 : Int) < 10 ∨ (v29 : Int) = 0)) (n : Int) (m : Int) (R : List Visit) (t : Int) (z : Int) (n37 : Nat) (c37 : Nat) (hi46 : ((0 ≤ n ∧ n ≤ 9) ∧ -10 ≤ m ∧ m ≤ 1200 ∧ (R.length : Int) + n ≤ 9 ∧ tc ≤ t ∧ t ≤ tc + 4 + 14 * (9 - n)) ∧ VsB R) (hl49 : n37 = (R).length) (hq51 : (0 ≤ n ∧ n ≤ 9) ∧ -10 ≤ m ∧ m ≤ 1200 ∧ (R.length : Int) + n ≤ 9 ∧ tc ≤ t ∧ t ≤ tc + 4 + 14 * (9 - n)) (hq52 : VsB R) (h53 : ¬ (0 < n)) (v200 : Int) (t201 : Int) (s202 : Int) (ht204 : t ≤ t201 ∧ t201 ≤ t + 2) (hq205 : (0 : Int) ≤ v200 ∧ ((v200 : Int) < 60 ∨ (v200 : Int) = 0)) (h208 : ¬ (v200 = 0)) (h255 : ¬ (v200 = 1)) (h302 : v200 = 2) (k3 : Nat) (Q3 : List Visit) (t3 : Int) (z3 : Int) (n311 : Nat) (c311 : Nat) (hi320 : (k3 ≤ 16 ∧ Q3.length ≤ k3 ∧ tc ≤ t3 ∧ t3 ≤ tc + 140 + 2 * (k3 : Int)) ∧ VsB Q3) (hl323 : n311 = (Q3).length) (hq325 : k3 ≤ 16 ∧ Q3.length ≤ k3 ∧ tc ≤ t3 ∧ t3 ≤ tc + 140 + 2 * (k3 : Int)) (hq326 : VsB Q3) (v329 : Int) (t330 : Int) (s331 : Int) (ht333 : t3 ≤ t330 ∧ t330 ≤ t3 + 2) (hq334 : (0 : Int) ≤ v329 ∧ ((v329 : Int) < 2 ∨ (v329 : Int) = 0)) (h337 : ¬ ((k3 : Int) < (15 + v329))) : Q3.length ≤ 60 := by
  first | omega | (simp only [List.length_append, List.length_cons, List.length_nil, List.length_drop]; omega)
theorem z_c___spec_l1Cur__visits_369 (Lc : List UInt8) (tc : Int) (sc : Int) (nc : Nat) (htc : 0 ≤ tc ∧ tc + 200 ≤ 4611686018427387904) (hbdc : (nc : Int) ≤ 9223372036854775807) (hlec : nc = Lc.length) (v18 : Int) (t19 : Int) (s20 : Int) (ht22 : tc ≤ t19 ∧ t19 ≤ tc + 2) (hq23 : v18 ∈ ([480, 480, 540, 1100] : List Int)) (hq26 : (480 : Int) ≤ v18 ∧ v18 ≤ 1100) (v29 : Int) (t30 : Int) (s31 : Int) (ht33 : t19 ≤ t30 ∧ t30 ≤ t19 + 2) (hq34 : (0 : Int) ≤ v29 ∧ ((v29 : Int) < 10 ∨ (v29 : Int) = 0)) (n : Int) (m : Int) (R : List Visit) (t : Int) (z : Int) (n37 : Nat) (c37 : Nat) (hi46 : ((0 ≤ n ∧ n ≤ 9) ∧ -10 ≤ m ∧ m ≤ 1200 ∧ (R.length : Int) + n ≤ 9 ∧ tc ≤ t ∧ t ≤ tc + 4 + 14 * (9 - n)) ∧ VsB R) (hl49 : n37 = (R).length) (hq51 : (0 ≤ n ∧ n ≤ 9) ∧ -10 ≤ m ∧ m ≤ 1200 ∧ (R.length : Int) + n ≤ 9 ∧ tc ≤ t ∧ t ≤ tc + 4 + 14 * (9 - n)) (hq52 : VsB R) (h53 : ¬ (0 < n)) (v200 : Int) (t201 : Int) (s202 : Int) (ht204 : t ≤ t201 ∧ t201 ≤ t + 2) (hq205 : (0 : Int) ≤ v200 ∧ ((v200 : Int) < 60 ∨ (v200 : Int) = 0)) (h208 : ¬ (v200 = 0)) (h255 : ¬ (v200 = 1)) (h302 : ¬ (v200 = 2)) (h359 : v200 = 3) : (0 ≤ 16 ∧ ([] : List Visit).length ≤ 0 ∧ tc ≤ t201 ∧ t201 ≤ tc + 140 + 2 * (0 : Int)) ∧ VsB ([] : List Visit) := by
  exact ⟨⟨by omega, by simp, by omega, by omega⟩, VsB.nil⟩
theorem z_c___spec_l1Cur__visits_413 (Lc : List UInt8) (tc : Int) (sc : Int) (nc : Nat) (htc : 0 ≤ tc ∧ tc + 200 ≤ 4611686018427387904) (hbdc : (nc : Int) ≤ 9223372036854775807) (hlec : nc = Lc.length) (v18 : Int) (t19 : Int) (s20 : Int) (ht22 : tc ≤ t19 ∧ t19 ≤ tc + 2) (hq23 : v18 ∈ ([480, 480, 540, 1100] : List Int)) (hq26 : (480 : Int) ≤ v18 ∧ v18 ≤ 1100) (v29 : Int) (t30 : Int) (s31 : Int) (ht33 : t19 ≤ t30 ∧ t30 ≤ t19 + 2) (hq34 : (0 : Int) ≤ v29 ∧ ((v29 : Int) < 10 ∨ (v29 : Int) = 0)) (n : Int) (m : Int) (R : List Visit) (t : Int) (z : Int) (n37 : Nat) (c37 : Nat) (hi46 : ((0 ≤ n ∧ n ≤ 9) ∧ -10 ≤ m ∧ m ≤ 1200 ∧ (R.length : Int) + n ≤ 9 ∧ tc ≤ t ∧ t ≤ tc + 4 + 14 * (9 - n)) ∧ VsB R) (hl49 : n37 = (R).length) (hq51 : (0 ≤ n ∧ n ≤ 9) ∧ -10 ≤ m ∧ m ≤ 1200 ∧ (R.length : Int) + n ≤ 9 ∧ tc ≤ t ∧ t ≤ tc + 4 + 14 * (9 - n)) (hq52 : VsB R) (h53 : ¬ (0 < n)) (v200 : Int) (t201 : Int) (s202 : Int) (ht204 : t ≤ t201 ∧ t201 ≤ t + 2) (hq205 : (0 : Int) ≤ v200 ∧ ((v200 : Int) < 60 ∨ (v200 : Int) = 0)) (h208 : ¬ (v200 = 0)) (h255 : ¬ (v200 = 1)) (h302 : ¬ (v200 = 2)) (h359 : v200 = 3) (k3 : Nat) (Q3 : List Visit) (t3 : Int) (z3 : Int) (n368 : Nat) (c368 : Nat) (hi377 : (k3 ≤ 16 ∧ Q3.length ≤ k3 ∧ tc ≤ t3 ∧ t3 ≤ tc + 140 + 2 * (k3 : Int)) ∧ VsB Q3) (hl380 : n368 = (Q3).length) (hq382 : k3 ≤ 16 ∧ Q3.length ≤ k3 ∧ tc ≤ t3 ∧ t3 ≤ tc + 140 + 2 * (k3 : Int)) (hq383 : VsB Q3) (v386 : Int) (t387 : Int) (s388 : Int) (ht390 : t3 ≤ t387 ∧ t387 ≤ t3 + 2) (hq391 : (0 : Int) ≤ v386 ∧ ((v386 : Int) < 2 ∨ (v386 : Int) = 0)) (h394 : (k3 : Int) < (15 + v386)) : ((k3 + 1) ≤ 16 ∧ (Q3 ++ ([(⟨1 + ((k3 : Int) % 4), 1 + ((k3 : Int) % 5), 480 + (40 * (k3 : Int)), 520 + (40 * (k3 : Int))⟩ : Visit)] : List Visit)).length ≤ (k3 + 1) ∧ tc ≤ t387 ∧ t387 ≤ tc + 140 + 2 * ((k3 + 1) : Int)) ∧ VsB (Q3 ++ ([(⟨1 + ((k3 : Int) % 4), 1 + ((k3 : Int) % 5), 480 + (40 * (k3 : Int)), 520 + (40 * (k3 : Int))⟩ : Visit)] : List Visit)) := by
  exact ⟨⟨by omega, by simp only [List.length_append, List.length_cons, List.length_nil, List.length_drop]; omega, by omega, by omega⟩, (by first | exact ‹VsB _› | exact VsB.nil | exact (VsB.one (by first | assumption | omega | (dsimp only; omega))) | exact VsB.app ‹VsB _› (VsB.one (by first | assumption | omega | (dsimp only; omega))) | exact VsB.app (VsB.app VsB.nil ‹VsB _›) (VsB.one (by first | assumption | omega | (dsimp only; omega))) | exact VsB.app (VsB.drop ‹VsB _›) (VsB.one (by first | assumption | omega | (dsimp only; omega))))⟩
theorem z_c___spec_l1Cur__visits_414 (Lc : List UInt8) (tc : Int) (sc : Int) (nc : Nat) (htc : 0 ≤ tc ∧ tc + 200 ≤ 4611686018427387904) (hbdc : (nc : Int) ≤ 9223372036854775807) (hlec : nc = Lc.length) (v18 : Int) (t19 : Int) (s20 : Int) (ht22 : tc ≤ t19 ∧ t19 ≤ tc + 2) (hq23 : v18 ∈ ([480, 480, 540, 1100] : List Int)) (hq26 : (480 : Int) ≤ v18 ∧ v18 ≤ 1100) (v29 : Int) (t30 : Int) (s31 : Int) (ht33 : t19 ≤ t30 ∧ t30 ≤ t19 + 2) (hq34 : (0 : Int) ≤ v29 ∧ ((v29 : Int) < 10 ∨ (v29 : Int) = 0)) (n : Int) (m : Int) (R : List Visit) (t : Int) (z : Int) (n37 : Nat) (c37 : Nat) (hi46 : ((0 ≤ n ∧ n ≤ 9) ∧ -10 ≤ m ∧ m ≤ 1200 ∧ (R.length : Int) + n ≤ 9 ∧ tc ≤ t ∧ t ≤ tc + 4 + 14 * (9 - n)) ∧ VsB R) (hl49 : n37 = (R).length) (hq51 : (0 ≤ n ∧ n ≤ 9) ∧ -10 ≤ m ∧ m ≤ 1200 ∧ (R.length : Int) + n ≤ 9 ∧ tc ≤ t ∧ t ≤ tc + 4 + 14 * (9 - n)) (hq52 : VsB R) (h53 : ¬ (0 < n)) (v200 : Int) (t201 : Int) (s202 : Int) (ht204 : t ≤ t201 ∧ t201 ≤ t + 2) (hq205 : (0 : Int) ≤ v200 ∧ ((v200 : Int) < 60 ∨ (v200 : Int) = 0)) (h208 : ¬ (v200 = 0)) (h255 : ¬ (v200 = 1)) (h302 : ¬ (v200 = 2)) (h359 : v200 = 3) (k3 : Nat) (Q3 : List Visit) (t3 : Int) (z3 : Int) (n368 : Nat) (c368 : Nat) (hi377 : (k3 ≤ 16 ∧ Q3.length ≤ k3 ∧ tc ≤ t3 ∧ t3 ≤ tc + 140 + 2 * (k3 : Int)) ∧ VsB Q3) (hl380 : n368 = (Q3).length) (hq382 : k3 ≤ 16 ∧ Q3.length ≤ k3 ∧ tc ≤ t3 ∧ t3 ≤ tc + 140 + 2 * (k3 : Int)) (hq383 : VsB Q3) (v386 : Int) (t387 : Int) (s388 : Int) (ht390 : t3 ≤ t387 ∧ t387 ≤ t3 + 2) (hq391 : (0 : Int) ≤ v386 ∧ ((v386 : Int) < 2 ∨ (v386 : Int) = 0)) (h394 : (k3 : Int) < (15 + v386)) : 20 - (k3 + 1) < 20 - k3 := by
  omega
theorem z_c___spec_l1Cur__visits_415 (Lc : List UInt8) (tc : Int) (sc : Int) (nc : Nat) (htc : 0 ≤ tc ∧ tc + 200 ≤ 4611686018427387904) (hbdc : (nc : Int) ≤ 9223372036854775807) (hlec : nc = Lc.length) (v18 : Int) (t19 : Int) (s20 : Int) (ht22 : tc ≤ t19 ∧ t19 ≤ tc + 2) (hq23 : v18 ∈ ([480, 480, 540, 1100] : List Int)) (hq26 : (480 : Int) ≤ v18 ∧ v18 ≤ 1100) (v29 : Int) (t30 : Int) (s31 : Int) (ht33 : t19 ≤ t30 ∧ t30 ≤ t19 + 2) (hq34 : (0 : Int) ≤ v29 ∧ ((v29 : Int) < 10 ∨ (v29 : Int) = 0)) (n : Int) (m : Int) (R : List Visit) (t : Int) (z : Int) (n37 : Nat) (c37 : Nat) (hi46 : ((0 ≤ n ∧ n ≤ 9) ∧ -10 ≤ m ∧ m ≤ 1200 ∧ (R.length : Int) + n ≤ 9 ∧ tc ≤ t ∧ t ≤ tc + 4 + 14 * (9 - n)) ∧ VsB R) (hl49 : n37 = (R).length) (hq51 : (0 ≤ n ∧ n ≤ 9) ∧ -10 ≤ m ∧ m ≤ 1200 ∧ (R.length : Int) + n ≤ 9 ∧ tc ≤ t ∧ t ≤ tc + 4 + 14 * (9 - n)) (hq52 : VsB R) (h53 : ¬ (0 < n)) (v200 : Int) (t201 : Int) (s202 : Int) (ht204 : t ≤ t201 ∧ t201 ≤ t + 2) (hq205 : (0 : Int) ≤ v200 ∧ ((v200 : Int) < 60 ∨ (v200 : Int) = 0)) (h208 : ¬ (v200 = 0)) (h255 : ¬ (v200 = 1)) (h302 : ¬ (v200 = 2)) (h359 : v200 = 3) (k3 : Nat) (Q3 : List Visit) (t3 : Int) (z3 : Int) (n368 : Nat) (c368 : Nat) (hi377 : (k3 ≤ 16 ∧ Q3.length ≤ k3 ∧ tc ≤ t3 ∧ t3 ≤ tc + 140 + 2 * (k3 : Int)) ∧ VsB Q3) (hl380 : n368 = (Q3).length) (hq382 : k3 ≤ 16 ∧ Q3.length ≤ k3 ∧ tc ≤ t3 ∧ t3 ≤ tc + 140 + 2 * (k3 : Int)) (hq383 : VsB Q3) (v386 : Int) (t387 : Int) (s388 : Int) (ht390 : t3 ≤ t387 ∧ t387 ≤ t3 + 2) (hq391 : (0 : Int) ≤ v386 ∧ ((v386 : Int) < 2 ∨ (v386 : Int) = 0)) (h394 : ¬ ((k3 : Int) < (15 + v386))) : Q3.length ≤ 60 := by
  first | omega | (simp only [List.length_append, List.length_cons, List.length_nil, List.length_drop]; omega)
theorem z_c___spec_l1Cur__visits_554 (Lc : List UInt8) (tc : Int) (sc : Int) (nc : Nat) (htc : 0 ≤ tc ∧ tc + 200 ≤ 4611686018427387904) (hbdc : (nc : Int) ≤ 9223372036854775807) (hlec : nc = Lc.length) (v18 : Int) (t19 : Int) (s20 : Int) (ht22 : tc ≤ t19 ∧ t19 ≤ tc + 2) (hq23 : v18 ∈ ([480, 480, 540, 1100] : List Int)) (hq26 : (480 : Int) ≤ v18 ∧ v18 ≤ 1100) (v29 : Int) (t30 : Int) (s31 : Int) (ht33 : t19 ≤ t30 ∧ t30 ≤ t19 + 2) (hq34 : (0 : Int) ≤ v29 ∧ ((v29 : Int) < 10 ∨ (v29 : Int) = 0)) (n : Int) (m : Int) (R : List Visit) (t : Int) (z : Int) (n37 : Nat) (c37 : Nat) (hi46 : ((0 ≤ n ∧ n ≤ 9) ∧ -10 ≤ m ∧ m ≤ 1200 ∧ (R.length : Int) + n ≤ 9 ∧ tc ≤ t ∧ t ≤ tc + 4 + 14 * (9 - n)) ∧ VsB R) (hl49 : n37 = (R).length) (hq51 : (0 ≤ n ∧ n ≤ 9) ∧ -10 ≤ m ∧ m ≤ 1200 ∧ (R.length : Int) + n ≤ 9 ∧ tc ≤ t ∧ t ≤ tc + 4 + 14 * (9 - n)) (hq52 : VsB R) (h53 : ¬ (0 < n)) (v200 : Int) (t201 : Int) (s202 : Int) (ht204 : t ≤ t201 ∧ t201 ≤ t + 2) (hq205 : (0 : Int) ≤ v200 ∧ ((v200 : Int) < 60 ∨ (v200 : Int) = 0)) (h208 : ¬ (v200 = 0)) (h255 : ¬ (v200 = 1)) (h302 : ¬ (v200 = 2)) (h359 : ¬ (v200 = 3)) (h416 : v200 = 4) (h417 : 1 < (n37 : Int)) (x422 : Visit) (hx423 : R[0]? = some x422) (hq424 : (-100000 ≤ x422.From ∧ x422.From ≤ 100000) ∧ (-100000 ≤ x422.Until ∧ x422.Until ≤ 100000)) : VsB ((R.drop 1) ++ ([x422] : List Visit)) := by
  first | exact ‹VsB _› | exact VsB.nil | exact (VsB.one (by first | assumption | omega | (dsimp only; omega))) | exact VsB.app ‹VsB _› (VsB.one (by first | assumption | omega | (dsimp only; omega))) | exact VsB.app (VsB.app VsB.nil ‹VsB _›) (VsB.one (by first | assumption | omega | (dsimp only; omega))) | exact VsB.app (VsB.drop ‹VsB _›) (VsB.one (by first | assumption | omega | (dsimp only; omega)))
theorem z_c___spec_l1Cur__visits_555 (Lc : List UInt8) (tc : Int) (sc : Int) (nc : Nat) (htc : 0 ≤ tc ∧ tc + 200 ≤ 4611686018427387904) (hbdc : (nc : Int) ≤ 9223372036854775807) (hlec : nc = Lc.length) (v18 : Int) (t19 : Int) (s20 : Int) (ht22 : tc ≤ t19 ∧ t19 ≤ tc + 2) (hq23 : v18 ∈ ([480, 480, 540, 1100] : List Int)) (hq26 : (480 : Int) ≤ v18 ∧ v18 ≤ 1100) (v29 : Int) (t30 : Int) (s31 : Int) (ht33 : t19 ≤ t30 ∧ t30 ≤ t19 + 2) (hq34 : (0 : Int) ≤ v29 ∧ ((v29 : Int) < 10 ∨ (v29 : Int) = 0)) (n : Int) (m : Int) (R : List Visit) (t : Int) (z : Int) (n37 : Nat) (c37 : Nat) (hi46 : ((0 ≤ n ∧ n ≤ 9) ∧ -10 ≤ m ∧ m ≤ 1200 ∧ (R.length : Int) + n ≤ 9 ∧ tc ≤ t ∧ t ≤ tc + 4 + 14 * (9 - n)) ∧ VsB R) (hl49 : n37 = (R).length) (hq51 : (0 ≤ n ∧ n ≤ 9) ∧ -10 ≤ m ∧ m ≤ 1200 ∧ (R.length : Int) + n ≤ 9 ∧ tc ≤ t ∧ t ≤ tc + 4 + 14 * (9 - n)) (hq52 : VsB R) (h53 : ¬ (0 < n)) (v200 : Int) (t201 : Int) (s202 : Int) (ht204 : t ≤ t201 ∧ t201 ≤ t + 2) (hq205 : (0 : Int) ≤ v200 ∧ ((v200 : Int) < 60 ∨ (v200 : Int) = 0)) (h208 : ¬ (v200 = 0)) (h255 : ¬ (v200 = 1)) (h302 : ¬ (v200 = 2)) (h359 : ¬ (v200 = 3)) (h416 : v200 = 4) (h417 : 1 < (n37 : Int)) (x422 : Visit) (hx423 : R[0]? = some x422) (hq424 : (-100000 ≤ x422.From ∧ x422.From ≤ 100000) ∧ (-100000 ≤ x422.Until ∧ x422.Until ≤ 100000)) : ((R.drop 1) ++ ([x422] : List Visit)).length ≤ 60 := by
  first | omega | (simp only [List.length_append, List.length_cons, List.length_nil, List.length_drop]; omega)
theorem z_c___spec_l1Cur__visits_556 (Lc : List UInt8) (tc : Int) (sc : Int) (nc : Nat) (htc : 0 ≤ tc ∧ tc + 200 ≤ 4611686018427387904) (hbdc : (nc : Int) ≤ 9223372036854775807) (hlec : nc = Lc.length) (v18 : Int) (t19 : Int) (s20 : Int) (ht22 : tc ≤ t19 ∧ t19 ≤ tc + 2) (hq23 : v18 ∈ ([480, 480, 540, 1100] : List Int)) (hq26 : (480 : Int) ≤ v18 ∧ v18 ≤ 1100) (v29 : Int) (t30 : Int) (s31 : Int) (ht33 : t19 ≤ t30 ∧ t30 ≤ t19 + 2) (hq34 : (0 : Int) ≤ v29 ∧ ((v29 : Int) < 10 ∨ (v29 : Int) = 0)) (n : Int) (m : Int) (R : List Visit) (t : Int) (z : Int) (n37 : Nat) (c37 : Nat) (hi46 : ((0 ≤ n ∧ n ≤ 9) ∧ -10 ≤ m ∧ m ≤ 1200 ∧ (R.length : Int) + n ≤ 9 ∧ tc ≤ t ∧ t ≤ tc + 4 + 14 * (9 - n)) ∧ VsB R) (hl49 : n37 = (R).length) (hq51 : (0 ≤ n ∧ n ≤ 9) ∧ -10 ≤ m ∧ m ≤ 1200 ∧ (R.length : Int) + n ≤ 9 ∧ tc ≤ t ∧ t ≤ tc + 4 + 14 * (9 - n)) (hq52 : VsB R) (h53 : ¬ (0 < n)) (v200 : Int) (t201 : Int) (s202 : Int) (ht204 : t ≤ t201 ∧ t201 ≤ t + 2) (hq205 : (0 : Int) ≤ v200 ∧ ((v200 : Int) < 60 ∨ (v200 : Int) = 0)) (h208 : ¬ (v200 = 0)) (h255 : ¬ (v200 = 1)) (h302 : ¬ (v200 = 2)) (h359 : ¬ (v200 = 3)) (h416 : v200 = 4) (h417 : ¬ (1 < (n37 : Int))) : R.length ≤ 60 := by
  first | omega | (simp only [List.length_append, List.length_cons, List.length_nil, List.length_drop]; omega)
theorem z_c___spec_l1Cur__visits_566 (Lc : List UInt8) (tc : Int) (sc : Int) (nc : Nat) (htc : 0 ≤ tc ∧ tc + 200 ≤ 4611686018427387904) (hbdc : (nc : Int) ≤ 9223372036854775807) (hlec : nc = Lc.length) (v18 : Int) (t19 : Int) (s20 : Int) (ht22 : tc ≤ t19 ∧ t19 ≤ tc + 2) (hq23 : v18 ∈ ([480, 480, 540, 1100] : List Int)) (hq26 : (480 : Int) ≤ v18 ∧ v18 ≤ 1100) (v29 : Int) (t30 : Int) (s31 : Int) (ht33 : t19 ≤ t30 ∧ t30 ≤ t19 + 2) (hq34 : (0 : Int) ≤ v29 ∧ ((v29 : Int) < 10 ∨ (v29 : Int) = 0)) (n : Int) (m : Int) (R : List Visit) (t : Int) (z : Int) (n37 : Nat) (c37 : Nat) (hi46 : ((0 ≤ n ∧ n ≤ 9) ∧ -10 ≤ m ∧ m ≤ 1200 ∧ (R.length : Int) + n ≤ 9 ∧ tc ≤ t ∧ t ≤ tc + 4 + 14 * (9 - n)) ∧ VsB R) (hl49 : n37 = (R).length) (hq51 : (0 ≤ n ∧ n ≤ 9) ∧ -10 ≤ m ∧ m ≤ 1200 ∧ (R.length : Int) + n ≤ 9 ∧ tc ≤ t ∧ t ≤ tc + 4 + 14 * (9 - n)) (hq52 : VsB R) (h53 : ¬ (0 < n)) (v200 : Int) (t201 : Int) (s202 : Int) (ht204 : t ≤ t201 ∧ t201 ≤ t + 2) (hq205 : (0 : Int) ≤ v200 ∧ ((v200 : Int) < 60 ∨ (v200 : Int) = 0)) (h208 : ¬ (v200 = 0)) (h255 : ¬ (v200 = 1)) (h302 : ¬ (v200 = 2)) (h359 : ¬ (v200 = 3)) (h416 : ¬ (v200 = 4)) (h557 : v200 = 5) : VsB ([(⟨1, 1, 480, 1200⟩ : Visit)] : List Visit) := by
  first | exact ‹VsB _› | exact VsB.nil | exact (VsB.one (by first | assumption | omega | (dsimp only; omega))) | exact VsB.app ‹VsB _› (VsB.one (by first | assumption | omega | (dsimp only; omega))) | exact VsB.app (VsB.app VsB.nil ‹VsB _›) (VsB.one (by first | assumption | omega | (dsimp only; omega))) | exact VsB.app (VsB.drop ‹VsB _›) (VsB.one (by first | assumption | omega | (dsimp only; omega)))
theorem z_c___spec_l1Cur__visits_567 (Lc : List UInt8) (tc : Int) (sc : Int) (nc : Nat) (htc : 0 ≤ tc ∧ tc + 200 ≤ 4611686018427387904) (hbdc : (nc : Int) ≤ 9223372036854775807) (hlec : nc = Lc.length) (v18 : Int) (t19 : Int) (s20 : Int) (ht22 : tc ≤ t19 ∧ t19 ≤ tc + 2) (hq23 : v18 ∈ ([480, 480, 540, 1100] : List Int)) (hq26 : (480 : Int) ≤ v18 ∧ v18 ≤ 1100) (v29 : Int) (t30 : Int) (s31 : Int) (ht33 : t19 ≤ t30 ∧ t30 ≤ t19 + 2) (hq34 : (0 : Int) ≤ v29 ∧ ((v29 : Int) < 10 ∨ (v29 : Int) = 0)) (n : Int) (m : Int) (R : List Visit) (t : Int) (z : Int) (n37 : Nat) (c37 : Nat) (hi46 : ((0 ≤ n ∧ n ≤ 9) ∧ -10 ≤ m ∧ m ≤ 1200 ∧ (R.length : Int) + n ≤ 9 ∧ tc ≤ t ∧ t ≤ tc + 4 + 14 * (9 - n)) ∧ VsB R) (hl49 : n37 = (R).length) (hq51 : (0 ≤ n ∧ n ≤ 9) ∧ -10 ≤ m ∧ m ≤ 1200 ∧ (R.length : Int) + n ≤ 9 ∧ tc ≤ t ∧ t ≤ tc + 4 + 14 * (9 - n)) (hq52 : VsB R) (h53 : ¬ (0 < n)) (v200 : Int) (t201 : Int) (s202 : Int) (ht204 : t ≤ t201 ∧ t201 ≤ t + 2) (hq205 : (0 : Int) ≤ v200 ∧ ((v200 : Int) < 60 ∨ (v200 : Int) = 0)) (h208 : ¬ (v200 = 0)) (h255 : ¬ (v200 = 1)) (h302 : ¬ (v200 = 2)) (h359 : ¬ (v200 = 3)) (h416 : ¬ (v200 = 4)) (h557 : v200 = 5) : ([(⟨1, 1, 480, 1200⟩ : Visit)] : List Visit).length ≤ 60 := by
  first | omega | (simp only [List.length_append, List.length_cons, List.length_nil, List.length_drop]; omega)
theorem z_c___spec_l1Cur__visits_568 (Lc : List UInt8) (tc : Int) (sc : Int) (nc : Nat) (htc : 0 ≤ tc ∧ tc + 200 ≤ 4611686018427387904) (hbdc : (nc : Int) ≤ 9223372036854775807) (hlec : nc = Lc.length) (v18 : Int) (t19 : Int) (s20 : Int) (ht22 : tc ≤ t19 ∧ t19 ≤ tc + 2) (hq23 : v18 ∈ ([480, 480, 540, 1100] : List Int)) (hq26 : (480 : Int) ≤ v18 ∧ v18 ≤ 1100) (v29 : Int) (t30 : Int) (s31 : Int) (ht33 : t19 ≤ t30 ∧ t30 ≤ t19 + 2) (hq34 : (0 : Int) ≤ v29 ∧ ((v29 : Int) < 10 ∨ (v29 : Int) = 0)) (n : Int) (m : Int) (R : List Visit) (t : Int) (z : Int) (n37 : Nat) (c37 : Nat) (hi46 : ((0 ≤ n ∧ n ≤ 9) ∧ -10 ≤ m ∧ m ≤ 1200 ∧ (R.length : Int) + n ≤ 9 ∧ tc ≤ t ∧ t ≤ tc + 4 + 14 * (9 - n)) ∧ VsB R) (hl49 : n37 = (R).length) (hq51 : (0 ≤ n ∧ n ≤ 9) ∧ -10 ≤ m ∧ m ≤ 1200 ∧ (R.length : Int) + n ≤ 9 ∧ tc ≤ t ∧ t ≤ tc + 4 + 14 * (9 - n)) (hq52 : VsB R) (h53 : ¬ (0 < n)) (v200 : Int) (t201 : Int) (s202 : Int) (ht204 : t ≤ t201 ∧ t201 ≤ t + 2) (hq205 : (0 : Int) ≤ v200 ∧ ((v200 : Int) < 60 ∨ (v200 : Int) = 0)) (h208 : ¬ (v200 = 0)) (h255 : ¬ (v200 = 1)) (h302 : ¬ (v200 = 2)) (h359 : ¬ (v200 = 3)) (h416 : ¬ (v200 = 4)) (h557 : ¬ (v200 = 5)) : R.length ≤ 60 := by
  first | omega | (simp only [List.length_append, List.length_cons, List.length_nil, List.length_drop]; omega)
theorem c___spec_l1Cur__visits (w : World) {gc ec : Nat} {Ac : Option Addr} {nc cc Bc : Nat} (Lc : List UInt8) (tc sc : Int) (hc : Blk w gc ec [.slice Ac nc cc, .int .i64 tc, .int .u64 sc]) (hLc : SlR w Bc encB 1 Ac nc cc Lc) (hgc : Bc ≤ gc) (htc : 0 ≤ tc ∧ tc + 200 ≤ 4611686018427387904) : Calls Tryz.prog 27 #[.pointer (some ⟨gc, 0, none⟩)] w fun e w' => ∃ (A1' : Option Addr) (n1' c1' : Nat) (L : List Visit) (tc' sc' : Int), e = .returned (.slice A1' n1' c1') ∧ SlO w' w.heap.size encVisit 4 45 A1' n1' c1' L ∧ Blk w' gc ec [.slice Ac nc cc, .int .i64 tc', .int .u64 sc'] ∧ (tc ≤ tc' ∧ tc' ≤ tc + 200) ∧ (VsB L) ∧ (L.length ≤ 60) ∧ Kp (fun b_ => b_ = gc) w w' := by
  refine calls_W 106 Tryz.func27 rfl rfl rfl ?_
  have hBlc := hc.lt
  have hbdc := hLc.bound
  have hlec := hLc.len
  have hBbc := hLc.bd
  refine W.seq ?_
  refine W.regS (SR.q' (r_as (v := .slice none 0 0) rfl) <| SR.nil ?_)
  refine W.seq ?_
  refine W.regS (SR.lit (vs := []) (L := ([] : List Visit)) (enc := encVisit) tel24 (fun _ => rfl) rfl rfl rfl (by decide) ?_)
  intro g1 w2 hg3 hk4 hO5
  have hz6 := hk4.size
  have hB7 := (Kp.refl w : Kp (fun b_ => b_ = gc) w w).lo hk4
  refine SR.q' (r_as (v := .slice _ _ _) rfl) <| SR.nil ?_
  refine W.seq ?_
  refine W.regS (SR.q' (r_mv (v := .pointer (some _)) rfl) <| SR.lit (vs := [.int .i64 480, .int .i64 480, .int .i64 540, .int .i64 1100]) (L := ([480, 480, 540, 1100] : List Int)) (enc := encI) tel27 (fun _ => rfl) rfl rfl rfl (by decide) ?_)
  intro g8 w9 hg10 hk11 hO12
  have hz13 := hk11.size
  have hB14 := hB7.lo hk11
  have hd15 : ¬ (some (⟨g1, 0, none⟩ : Addr)) = some ⟨g8, 0, none⟩ := fun e' => by have := (hO5).base_le e'; omega
  refine SR.call ent36 (c___spec_l1Cur__among w9 Lc tc sc (((hc).lo hk4).lo hk11) ((((hLc).lo hk4).lo hk11)) (by omega) (by omega) ([480, 480, 540, 1100] : List Int) (((hO12).rd)) (by omega) (by omega) (show ¬ g8 = gc from by first | omega | (have := (hO12).base_le rfl; omega))) rfl ?_
  rintro e w16 ⟨v18, t19, s20, rfl, hb21, ht22, hq23, hk17⟩
  refine ⟨_, rfl, ?_⟩
  have hz24 := hk17.size
  have hB25 := hB14.step hk17 (fun i_ hi_ e' => e')
  have hq26 : (480 : Int) ≤ v18 ∧ v18 ≤ 1100 := mem_rngB (lo := 480) (hi := 1100) (by decide) hq23
  refine SR.q' (r_as (v := .int .i64 _) rfl) <| SR.nil ?_
  refine W.seq ?_
  refine W.seq ?_
  refine W.regS (SR.q' (r_mv (v := .pointer (some _)) rfl) <| SR.call ent37 (c___spec_l1Cur__pick w16 Lc t19 s20 (hb21) (((((hLc).lo hk4).lo hk11).kn hk17 (by omega))) (by omega) (by omega) 10 (by first | omega | (simp only [List.length_append, List.length_cons, List.length_nil, List.length_take, List.length_drop]; omega))) rfl ?_)
  rintro e w27 ⟨v29, t30, s31, rfl, hb32, ht33, hq34, hk28⟩
  refine ⟨_, rfl, ?_⟩
  have hz35 := hk28.size
  have hB36 := hB25.step hk28 (fun i_ hi_ e' => e')
  refine SR.q' (r_as (v := .int .i64 _) rfl) <| SR.nil ?_
  refine W.block ?_
  refine W.loop (σ := Int × Int × (List Visit) × Int × Int × (Option Addr) × Nat × Nat) (fun g => [(0, .pointer (some ((⟨gc, 0, none⟩ : Addr)))), (2, .slice none 0 0), (3, .slice g.2.2.2.2.2.1 g.2.2.2.2.2.2.1 g.2.2.2.2.2.2.2), (4, .int .i64 g.2.1), (5, .int .i64 g.1)]) (fun g w' => (Kp (fun b_ => b_ = gc) w w') ∧ (Blk w' gc ec [.slice Ac nc cc, .int .i64 g.2.2.2.1, .int .u64 g.2.2.2.2.1]) ∧ (SlR w' Bc encB 1 Ac nc cc Lc) ∧ (SlO w' w.heap.size encVisit 4 45 g.2.2.2.2.2.1 g.2.2.2.2.2.2.1 g.2.2.2.2.2.2.2 g.2.2.1) ∧ (¬ g.2.2.2.2.2.1 = some ⟨gc, 0, none⟩) ∧ (((0 ≤ g.1 ∧ g.1 ≤ 9) ∧ -10 ≤ g.2.1 ∧ g.2.1 ≤ 1200 ∧ (g.2.2.1.length : Int) + g.1 ≤ 9 ∧ tc ≤ g.2.2.2.1 ∧ g.2.2.2.1 ≤ tc + 4 + 14 * (9 - g.1)) ∧ VsB g.2.2.1)) (fun g => g.1.toNat) (v29, v18, ([] : List Visit), t30, s31, (some (⟨g1, 0, none⟩ : Addr)), 0, 0) ?_ ?_ ?_
  · exact ⟨rfl, rfl, rfl, rfl, rfl, trivial⟩
  · show (Kp (fun b_ => b_ = gc) w w27) ∧ (Blk w27 gc ec [.slice Ac nc cc, .int .i64 t30, .int .u64 s31]) ∧ (SlR w27 Bc encB 1 Ac nc cc Lc) ∧ (SlO w27 w.heap.size encVisit 4 45 (some (⟨g1, 0, none⟩ : Addr)) 0 0 ([] : List Visit)) ∧ (¬ (some (⟨g1, 0, none⟩ : Addr)) = some ⟨gc, 0, none⟩) ∧ (((0 ≤ v29 ∧ v29 ≤ 9) ∧ -10 ≤ v18 ∧ v18 ≤ 1200 ∧ (([] : List Visit).length : Int) + v29 ≤ 9 ∧ tc ≤ t30 ∧ t30 ≤ tc + 4 + 14 * (9 - v29)) ∧ VsB ([] : List Visit))
    exact ⟨hB36, (hb32), ((((hLc).lo hk4).lo hk11).kn hk17 (by omega)).kn hk28 (by omega), ((((hO5).lo hk11).kn hk17 (by omega)).kn hk28 (by omega)), (fun e' => by have := ((((hO5).lo hk11).kn hk17 (by omega)).kn hk28 (by omega)).base_le e'; omega), (z_c___spec_l1Cur__visits_38 Lc tc sc nc htc hbdc hlec v18 t19 s20 ht22 hq23 hq26 v29 t30 s31 ht33 hq34)⟩
  · rintro ⟨n, m, R, t, z, A37, n37, c37⟩ f39 w40 hP42
    obtain ⟨hB41, hm43, hm44, hO45, hd47, hi46⟩ : (Kp (fun b_ => b_ = gc) w w40) ∧ (Blk w40 gc ec [.slice Ac nc cc, .int .i64 t, .int .u64 z]) ∧ (SlR w40 Bc encB 1 Ac nc cc Lc) ∧ (SlO w40 w.heap.size encVisit 4 45 A37 n37 c37 R) ∧ (¬ A37 = some ⟨gc, 0, none⟩) ∧ (((0 ≤ n ∧ n ≤ 9) ∧ -10 ≤ m ∧ m ≤ 1200 ∧ (R.length : Int) + n ≤ 9 ∧ tc ≤ t ∧ t ≤ tc + 4 + 14 * (9 - n)) ∧ VsB R) := hP42
    refine (?_ : W _ _ _ _ _ (act _ (sets f39 [(0, .pointer (some ((⟨gc, 0, none⟩ : Addr)))), (2, .slice none 0 0), (3, .slice A37 n37 c37), (4, .int .i64 m), (5, .int .i64 n)])) _)
    have hzw40 := hB41.size
    have hl48 := hm43.lt
    have hl49 := hO45.len
    have hl50 := hO45.rd.bound
    have hq51 : (0 ≤ n ∧ n ≤ 9) ∧ -10 ≤ m ∧ m ≤ 1200 ∧ (R.length : Int) + n ≤ 9 ∧ tc ≤ t ∧ t ≤ tc + 4 + 14 * (9 - n) := hi46.1
    have hq52 : VsB R := hi46.2
    refine W.seq ?_
    refine W.seq ?_
    refine W.regS (SR.q' (r_mv (v := .int .i64 _) rfl) <| SR.q' (r_gt rfl rfl) <| SR.nil ?_)
    refine W.cond_d rfl (fun h53 => ?_) (fun h53 => ?_)
    · refine W.skip ?_
      refine W.seq ?_
      refine W.block ?_
      refine W.seq ?_
      refine W.seq ?_
      refine W.regS (SR.lit (vs := []) (L := ([] : List Visit)) (enc := encVisit) tel24 (fun _ => rfl) rfl rfl rfl (by decide) ?_)
      intro g54 w55 hg56 hk57 hO58
      have hz59 := hk57.size
      have hB60 := hB41.lo hk57
      have hd61 : ¬ A37 = some ⟨g54, 0, none⟩ := fun e' => by have := (hO45).base_le e'; omega
      refine SR.q' (r_mv (v := .slice _ _ _) rfl) <| SR.app tel24 rfl rfl (hO58) (((hO45).lo hk57).rd) (fun _ => rfl) (by omega) (by omega) ?_
      intro A62 c63 w64 hk65 hO66 hN67
      have hz68 := hk65.size
      have hB69 := hB60.step hk65 (fun i_ hi_ e' => by have := ((hO58)).base_le e'; first | omega | (exfalso; omega) | exact e' | exact .inl e' | exact .inr e')
      rw [List.nil_append] at hO66
      have hd70 : ¬ A62 = some ⟨gc, 0, none⟩ := fun e' => (hN67 gc e').elim (fun h => by have := (hO58).base_le (h.trans e'); omega) (fun h => by have := ((hm43).lo hk57).lt; omega)
      refine SR.q' (r_mv (v := .pointer (some _)) rfl) <| SR.q' (r_mv (v := .int .i64 _) rfl) <| SR.call ent49 (c___spec_l1Cur__visit w64 Lc t z (((hm43).lo hk57).kp hk65 (fun e' => by have := ((hO58)).base_le e'; omega)) ((((hm44).lo hk57).kp hk65 (fun b_ hb e' => by have := ((hO58)).base_le e'; omega))) (by omega) (by omega) m (by omega)) rfl ?_
      rintro e w72 ⟨v74, t75, s76, rfl, hb77, ht78, hq79, hk73⟩
      refine ⟨_, rfl, ?_⟩
      have hz80 := hk73.size
      have hB81 := hB69.step hk73 (fun i_ hi_ e' => e')
      refine SR.lit (vs := [.agg (List.toArray [.int .i64 v74.Reader, .int .i64 v74.Seat, .int .i64 v74.From, .int .i64 v74.Until])]) (L := ([v74] : List Visit)) (enc := encVisit) tel24 (fun _ => rfl) rfl rfl rfl (by decide) ?_
      intro g82 w83 hg84 hk85 hO86
      have hz87 := hk85.size
      have hB88 := hB81.lo hk85
      have hd89 : ¬ A37 = some ⟨g82, 0, none⟩ := fun e' => by have := ((((hO45).lo hk57).kp hk65 (fun b_ hb e' => by have h1 := ((hO58)).base_le e'; have h2 := ((hO45).lo hk57).base_le hb; have h3 := (hO45).base_le hb; omega)).kd hk73 hd47).base_le e'; omega
      have hd90 : ¬ A62 = some ⟨g82, 0, none⟩ := fun e' => by have := ((hO66).kd hk73 hd70).base_le e'; omega
      refine SR.app tel24 rfl rfl (((hO66).kd hk73 hd70).lo hk85) ((hO86).rd) (fun _ => rfl) (by omega) (by omega) ?_
      intro A91 c92 w93 hk94 hO95 hN96
      have hz97 := hk94.size
      have hB98 := hB88.step hk94 (fun i_ hi_ e' => by have := ((((hO66).kd hk73 hd70).lo hk85)).base_le e'; first | omega | (exfalso; omega) | exact e' | exact .inl e' | exact .inr e')
      have hd99 : ¬ A91 = some ⟨gc, 0, none⟩ := fun e' => (hN96 gc e').elim (fun h => hd70 (h.trans e')) (fun h => by have := ((hb77).lo hk85).lt; omega)
      refine SR.q' (r_as (v := .slice _ _ _) rfl) <| SR.nil ?_
      refine W.seq ?_
      refine W.regS (SR.q' (r_mv (v := .slice _ _ _) rfl) <| SR.call ent32 (c_spec_l30Good w93 (R ++ ([v74] : List Visit)) (((hO95).rd))) rfl ?_)
      rintro e w102 ⟨rfl, hk103⟩
      refine ⟨_, rfl, ?_⟩
      have hz104 := hk103.size
      have hB105 := hB98.lo hk103
      refine SR.q' (r_mv (v := .bool _) rfl) <| SR.splitD (fun h106 => ?_) (fun h106 => ?_)
      · refine SR.s' rfl <| SR.s' rfl <| SR.q' (r_pick true rfl (v := .bool true) rfl) <| SR.nil ?_
        refine W.cond_t rfl ?_
        refine W.regS (SR.q' (r_mv (v := .slice _ _ _) rfl) <| SR.q' (r_as (v := .slice _ _ _) rfl) <| SR.nil ?_)
        refine W.regS (SR.q' (r_mv (v := .int .i64 _) rfl) <| SR.q' (r_mv (v := .pointer (some _)) rfl) <| SR.lit (vs := [.int .i64 0, .int .i64 0, .int .i64 30, .int .i64 60, .int .i64 61]) (L := ([0, 0, 30, 60, 61] : List Int)) (enc := encI) tel27 (fun _ => rfl) rfl rfl rfl (by decide) ?_)
        intro g107 w108 hg109 hk110 hO111
        have hz112 := hk110.size
        have hB113 := hB105.lo hk110
        have hd114 : ¬ A37 = some ⟨g107, 0, none⟩ := fun e' => by have := (((((((hO45).lo hk57).kp hk65 (fun b_ hb e' => by have h1 := ((hO58)).base_le e'; have h2 := ((hO45).lo hk57).base_le hb; have h3 := (hO45).base_le hb; omega)).kd hk73 hd47).lo hk85).kp hk94 (fun b_ hb e' => by have h1 := ((((hO66).kd hk73 hd70).lo hk85)).base_le e'; have h2 := (((((hO45).lo hk57).kp hk65 (fun b_ hb e' => by have h1 := ((hO58)).base_le e'; have h2 := ((hO45).lo hk57).base_le hb; have h3 := (hO45).base_le hb; omega)).kd hk73 hd47).lo hk85).base_le hb; have h3 := (hO45).base_le hb; omega)).lo hk103).base_le e'; omega
        have hd115 : ¬ (some (⟨g82, 0, none⟩ : Addr)) = some ⟨g107, 0, none⟩ := fun e' => by have := (((hO86).kp hk94 (fun b_ hb e' => hd90 (hb ▸ e'))).lo hk103).base_le e'; omega
        have hd116 : ¬ A91 = some ⟨g107, 0, none⟩ := fun e' => by have := ((hO95).lo hk103).base_le e'; omega
        refine SR.call ent36 (c___spec_l1Cur__among w108 Lc t75 s76 (((((hb77).lo hk85).kp hk94 (fun e' => hd70 e')).lo hk103).lo hk110) (((((((((hm44).lo hk57).kp hk65 (fun b_ hb e' => by have := ((hO58)).base_le e'; omega)).kn hk73 (by omega)).lo hk85).kp hk94 (fun b_ hb e' => by have := ((((hO66).kd hk73 hd70).lo hk85)).base_le e'; omega)).lo hk103).lo hk110)) (by omega) (by omega) ([0, 0, 30, 60, 61] : List Int) (((hO111).rd)) (by omega) (by omega) (show ¬ g107 = gc from by first | omega | (have := (hO111).base_le rfl; omega))) rfl ?_
        rintro e w117 ⟨v119, t120, s121, rfl, hb122, ht123, hq124, hk118⟩
        refine ⟨_, rfl, ?_⟩
        have hz125 := hk118.size
        have hB126 := hB113.step hk118 (fun i_ hi_ e' => e')
        have hq127 : (0 : Int) ≤ v119 ∧ v119 ≤ 61 := mem_rngB (lo := 0) (hi := 61) (by decide) hq124
        refine SR.q' (r_add rfl rfl (by omega)) <| SR.call ent57 (c_spec_l1Least w117 1199 (m + v119)) rfl ?_
        rintro e w128 ⟨rfl, hk129⟩
        refine ⟨_, rfl, ?_⟩
        have hz130 := hk129.size
        have hB131 := hB126.lo hk129
        refine SR.q' (r_as (v := .int .i64 _) rfl) <| SR.nil ?_
        refine W.regS (SR.q' (r_mv (v := .int .i64 _) rfl) <| SR.q' (r_sub rfl rfl (by omega)) <| SR.q' (r_as (v := .int .i64 _) rfl) <| SR.nil ?_)
        refine ⟨(n - 1, min 1199 (m + v119), R ++ ([v74] : List Visit), t120, s121, A91, (0 + n37) + 1, c92), _, rfl, ⟨rfl, rfl, rfl, rfl, rfl, trivial⟩, (show (Kp (fun b_ => b_ = gc) w w128) ∧ (Blk w128 gc ec [.slice Ac nc cc, .int .i64 t120, .int .u64 s121]) ∧ (SlR w128 Bc encB 1 Ac nc cc Lc) ∧ (SlO w128 w.heap.size encVisit 4 45 A91 ((0 + n37) + 1) c92 (R ++ ([v74] : List Visit))) ∧ (¬ A91 = some ⟨gc, 0, none⟩) ∧ (((0 ≤ n - 1 ∧ n - 1 ≤ 9) ∧ -10 ≤ min 1199 (m + v119) ∧ min 1199 (m + v119) ≤ 1200 ∧ ((R ++ ([v74] : List Visit)).length : Int) + (n - 1) ≤ 9 ∧ tc ≤ t120 ∧ t120 ≤ tc + 4 + 14 * (9 - (n - 1))) ∧ VsB (R ++ ([v74] : List Visit))) from ⟨hB131, ((hb122).lo hk129), (((((((((hm44).lo hk57).kp hk65 (fun b_ hb e' => by have := ((hO58)).base_le e'; omega)).kn hk73 (by omega)).lo hk85).kp hk94 (fun b_ hb e' => by have := ((((hO66).kd hk73 hd70).lo hk85)).base_le e'; omega)).lo hk103).lo hk110).kn hk118 (by omega)).lo hk129, ((((((hO95).lo hk103).lo hk110).kd hk118 hd99).lo hk129).down (by omega)), hd99, ?_⟩), ?_⟩
        · exact (z_c___spec_l1Cur__visits_132 Lc tc sc nc htc hbdc hlec v18 t19 s20 ht22 hq23 hq26 v29 t30 s31 ht33 hq34 n m R t z n37 c37 hi46 hl49 hq51 hq52 h53 v74 t75 s76 ht78 hq79 h106 v119 t120 s121 ht123 hq124 hq127)
        · exact (z_c___spec_l1Cur__visits_133 Lc tc sc nc htc hbdc hlec v18 t19 s20 ht22 hq23 hq26 v29 t30 s31 ht33 hq34 n m R t z n37 c37 hi46 hl49 hq51 hq52 h53 v74 t75 s76 ht78 hq79 h106 v119 t120 s121 ht123 hq124 hq127)
      · refine SR.g' rfl (r_mv (v := .pointer (some _)) rfl) <| SR.gcall rfl ent56 (c___spec_l1Cur__one w102 Lc t75 s76 ((((hb77).lo hk85).kp hk94 (fun e' => hd70 e')).lo hk103) ((((((((hm44).lo hk57).kp hk65 (fun b_ hb e' => by have := ((hO58)).base_le e'; omega)).kn hk73 (by omega)).lo hk85).kp hk94 (fun b_ hb e' => by have := ((((hO66).kd hk73 hd70).lo hk85)).base_le e'; omega)).lo hk103)) (by omega) (by omega) 50 (by first | omega | (simp only [List.length_append, List.length_cons, List.length_nil, List.length_take, List.length_drop]; omega))) rfl ?_
        rintro e w134 ⟨v136, t137, s138, rfl, hb139, ht140, hk135⟩
        refine ⟨_, rfl, ?_⟩
        have hz141 := hk135.size
        have hB142 := hB105.step hk135 (fun i_ hi_ e' => e')
        refine SR.q' (r_pick false rfl (v := .bool _) rfl) <| SR.nil ?_
        refine W.cond_b rfl (fun h143 => ?_) (fun h143 => ?_)
        · refine W.regS (SR.q' (r_mv (v := .slice _ _ _) rfl) <| SR.q' (r_as (v := .slice _ _ _) rfl) <| SR.nil ?_)
          refine W.regS (SR.q' (r_mv (v := .int .i64 _) rfl) <| SR.q' (r_mv (v := .pointer (some _)) rfl) <| SR.lit (vs := [.int .i64 0, .int .i64 0, .int .i64 30, .int .i64 60, .int .i64 61]) (L := ([0, 0, 30, 60, 61] : List Int)) (enc := encI) tel27 (fun _ => rfl) rfl rfl rfl (by decide) ?_)
          intro g144 w145 hg146 hk147 hO148
          have hz149 := hk147.size
          have hB150 := hB142.lo hk147
          have hd151 : ¬ A37 = some ⟨g144, 0, none⟩ := fun e' => by have := ((((((((hO45).lo hk57).kp hk65 (fun b_ hb e' => by have h1 := ((hO58)).base_le e'; have h2 := ((hO45).lo hk57).base_le hb; have h3 := (hO45).base_le hb; omega)).kd hk73 hd47).lo hk85).kp hk94 (fun b_ hb e' => by have h1 := ((((hO66).kd hk73 hd70).lo hk85)).base_le e'; have h2 := (((((hO45).lo hk57).kp hk65 (fun b_ hb e' => by have h1 := ((hO58)).base_le e'; have h2 := ((hO45).lo hk57).base_le hb; have h3 := (hO45).base_le hb; omega)).kd hk73 hd47).lo hk85).base_le hb; have h3 := (hO45).base_le hb; omega)).lo hk103).kd hk135 hd47).base_le e'; omega
          have hd152 : ¬ (some (⟨g82, 0, none⟩ : Addr)) = some ⟨g144, 0, none⟩ := fun e' => by have := ((((hO86).kp hk94 (fun b_ hb e' => hd90 (hb ▸ e'))).lo hk103).kn hk135 (by omega)).base_le e'; omega
          have hd153 : ¬ A91 = some ⟨g144, 0, none⟩ := fun e' => by have := (((hO95).lo hk103).kd hk135 hd99).base_le e'; omega
          refine SR.call ent36 (c___spec_l1Cur__among w145 Lc t137 s138 ((hb139).lo hk147) ((((((((((hm44).lo hk57).kp hk65 (fun b_ hb e' => by have := ((hO58)).base_le e'; omega)).kn hk73 (by omega)).lo hk85).kp hk94 (fun b_ hb e' => by have := ((((hO66).kd hk73 hd70).lo hk85)).base_le e'; omega)).lo hk103).kn hk135 (by omega)).lo hk147)) (by omega) (by omega) ([0, 0, 30, 60, 61] : List Int) (((hO148).rd)) (by omega) (by omega) (show ¬ g144 = gc from by first | omega | (have := (hO148).base_le rfl; omega))) rfl ?_
          rintro e w154 ⟨v156, t157, s158, rfl, hb159, ht160, hq161, hk155⟩
          refine ⟨_, rfl, ?_⟩
          have hz162 := hk155.size
          have hB163 := hB150.step hk155 (fun i_ hi_ e' => e')
          have hq164 : (0 : Int) ≤ v156 ∧ v156 ≤ 61 := mem_rngB (lo := 0) (hi := 61) (by decide) hq161
          refine SR.q' (r_add rfl rfl (by omega)) <| SR.call ent57 (c_spec_l1Least w154 1199 (m + v156)) rfl ?_
          rintro e w165 ⟨rfl, hk166⟩
          refine ⟨_, rfl, ?_⟩
          have hz167 := hk166.size
          have hB168 := hB163.lo hk166
          refine SR.q' (r_as (v := .int .i64 _) rfl) <| SR.nil ?_
          refine W.regS (SR.q' (r_mv (v := .int .i64 _) rfl) <| SR.q' (r_sub rfl rfl (by omega)) <| SR.q' (r_as (v := .int .i64 _) rfl) <| SR.nil ?_)
          refine ⟨(n - 1, min 1199 (m + v156), R ++ ([v74] : List Visit), t157, s158, A91, (0 + n37) + 1, c92), _, rfl, ⟨rfl, rfl, rfl, rfl, rfl, trivial⟩, (show (Kp (fun b_ => b_ = gc) w w165) ∧ (Blk w165 gc ec [.slice Ac nc cc, .int .i64 t157, .int .u64 s158]) ∧ (SlR w165 Bc encB 1 Ac nc cc Lc) ∧ (SlO w165 w.heap.size encVisit 4 45 A91 ((0 + n37) + 1) c92 (R ++ ([v74] : List Visit))) ∧ (¬ A91 = some ⟨gc, 0, none⟩) ∧ (((0 ≤ n - 1 ∧ n - 1 ≤ 9) ∧ -10 ≤ min 1199 (m + v156) ∧ min 1199 (m + v156) ≤ 1200 ∧ ((R ++ ([v74] : List Visit)).length : Int) + (n - 1) ≤ 9 ∧ tc ≤ t157 ∧ t157 ≤ tc + 4 + 14 * (9 - (n - 1))) ∧ VsB (R ++ ([v74] : List Visit))) from ⟨hB168, ((hb159).lo hk166), ((((((((((hm44).lo hk57).kp hk65 (fun b_ hb e' => by have := ((hO58)).base_le e'; omega)).kn hk73 (by omega)).lo hk85).kp hk94 (fun b_ hb e' => by have := ((((hO66).kd hk73 hd70).lo hk85)).base_le e'; omega)).lo hk103).kn hk135 (by omega)).lo hk147).kn hk155 (by omega)).lo hk166, (((((((hO95).lo hk103).kd hk135 hd99).lo hk147).kd hk155 hd99).lo hk166).down (by omega)), hd99, ?_⟩), ?_⟩
          · exact (z_c___spec_l1Cur__visits_169 Lc tc sc nc htc hbdc hlec v18 t19 s20 ht22 hq23 hq26 v29 t30 s31 ht33 hq34 n m R t z n37 c37 hi46 hl49 hq51 hq52 h53 v74 t75 s76 ht78 hq79 h106 v136 t137 s138 ht140 h143 v156 t157 s158 ht160 hq161 hq164)
          · exact (z_c___spec_l1Cur__visits_170 Lc tc sc nc htc hbdc hlec v18 t19 s20 ht22 hq23 hq26 v29 t30 s31 ht33 hq34 n m R t z n37 c37 hi46 hl49 hq51 hq52 h53 v74 t75 s76 ht78 hq79 h106 v136 t137 s138 ht140 h143 v156 t157 s158 ht160 hq161 hq164)
        · refine W.skip ?_
          refine W.regS (SR.q' (r_mv (v := .int .i64 _) rfl) <| SR.q' (r_mv (v := .pointer (some _)) rfl) <| SR.lit (vs := [.int .i64 0, .int .i64 0, .int .i64 30, .int .i64 60, .int .i64 61]) (L := ([0, 0, 30, 60, 61] : List Int)) (enc := encI) tel27 (fun _ => rfl) rfl rfl rfl (by decide) ?_)
          intro g171 w172 hg173 hk174 hO175
          have hz176 := hk174.size
          have hB177 := hB142.lo hk174
          have hd178 : ¬ A37 = some ⟨g171, 0, none⟩ := fun e' => by have := ((((((((hO45).lo hk57).kp hk65 (fun b_ hb e' => by have h1 := ((hO58)).base_le e'; have h2 := ((hO45).lo hk57).base_le hb; have h3 := (hO45).base_le hb; omega)).kd hk73 hd47).lo hk85).kp hk94 (fun b_ hb e' => by have h1 := ((((hO66).kd hk73 hd70).lo hk85)).base_le e'; have h2 := (((((hO45).lo hk57).kp hk65 (fun b_ hb e' => by have h1 := ((hO58)).base_le e'; have h2 := ((hO45).lo hk57).base_le hb; have h3 := (hO45).base_le hb; omega)).kd hk73 hd47).lo hk85).base_le hb; have h3 := (hO45).base_le hb; omega)).lo hk103).kd hk135 hd47).base_le e'; omega
          have hd179 : ¬ (some (⟨g82, 0, none⟩ : Addr)) = some ⟨g171, 0, none⟩ := fun e' => by have := ((((hO86).kp hk94 (fun b_ hb e' => hd90 (hb ▸ e'))).lo hk103).kn hk135 (by omega)).base_le e'; omega
          have hd180 : ¬ A91 = some ⟨g171, 0, none⟩ := fun e' => by have := (((hO95).lo hk103).kd hk135 hd99).base_le e'; omega
          refine SR.call ent36 (c___spec_l1Cur__among w172 Lc t137 s138 ((hb139).lo hk174) ((((((((((hm44).lo hk57).kp hk65 (fun b_ hb e' => by have := ((hO58)).base_le e'; omega)).kn hk73 (by omega)).lo hk85).kp hk94 (fun b_ hb e' => by have := ((((hO66).kd hk73 hd70).lo hk85)).base_le e'; omega)).lo hk103).kn hk135 (by omega)).lo hk174)) (by omega) (by omega) ([0, 0, 30, 60, 61] : List Int) (((hO175).rd)) (by omega) (by omega) (show ¬ g171 = gc from by first | omega | (have := (hO175).base_le rfl; omega))) rfl ?_
          rintro e w181 ⟨v183, t184, s185, rfl, hb186, ht187, hq188, hk182⟩
          refine ⟨_, rfl, ?_⟩
          have hz189 := hk182.size
          have hB190 := hB177.step hk182 (fun i_ hi_ e' => e')
          have hq191 : (0 : Int) ≤ v183 ∧ v183 ≤ 61 := mem_rngB (lo := 0) (hi := 61) (by decide) hq188
          refine SR.q' (r_add rfl rfl (by omega)) <| SR.call ent57 (c_spec_l1Least w181 1199 (m + v183)) rfl ?_
          rintro e w192 ⟨rfl, hk193⟩
          refine ⟨_, rfl, ?_⟩
          have hz194 := hk193.size
          have hB195 := hB190.lo hk193
          refine SR.q' (r_as (v := .int .i64 _) rfl) <| SR.nil ?_
          refine W.regS (SR.q' (r_mv (v := .int .i64 _) rfl) <| SR.q' (r_sub rfl rfl (by omega)) <| SR.q' (r_as (v := .int .i64 _) rfl) <| SR.nil ?_)
          refine ⟨(n - 1, min 1199 (m + v183), R, t184, s185, A37, n37, c37), _, rfl, ⟨rfl, rfl, rfl, rfl, rfl, trivial⟩, (show (Kp (fun b_ => b_ = gc) w w192) ∧ (Blk w192 gc ec [.slice Ac nc cc, .int .i64 t184, .int .u64 s185]) ∧ (SlR w192 Bc encB 1 Ac nc cc Lc) ∧ (SlO w192 w.heap.size encVisit 4 45 A37 n37 c37 R) ∧ (¬ A37 = some ⟨gc, 0, none⟩) ∧ (((0 ≤ n - 1 ∧ n - 1 ≤ 9) ∧ -10 ≤ min 1199 (m + v183) ∧ min 1199 (m + v183) ≤ 1200 ∧ (R.length : Int) + (n - 1) ≤ 9 ∧ tc ≤ t184 ∧ t184 ≤ tc + 4 + 14 * (9 - (n - 1))) ∧ VsB R) from ⟨hB195, ((hb186).lo hk193), ((((((((((hm44).lo hk57).kp hk65 (fun b_ hb e' => by have := ((hO58)).base_le e'; omega)).kn hk73 (by omega)).lo hk85).kp hk94 (fun b_ hb e' => by have := ((((hO66).kd hk73 hd70).lo hk85)).base_le e'; omega)).lo hk103).kn hk135 (by omega)).lo hk174).kn hk182 (by omega)).lo hk193, (((((((((((hO45).lo hk57).kp hk65 (fun b_ hb e' => by have h1 := ((hO58)).base_le e'; have h2 := ((hO45).lo hk57).base_le hb; have h3 := (hO45).base_le hb; omega)).kd hk73 hd47).lo hk85).kp hk94 (fun b_ hb e' => by have h1 := ((((hO66).kd hk73 hd70).lo hk85)).base_le e'; have h2 := (((((hO45).lo hk57).kp hk65 (fun b_ hb e' => by have h1 := ((hO58)).base_le e'; have h2 := ((hO45).lo hk57).base_le hb; have h3 := (hO45).base_le hb; omega)).kd hk73 hd47).lo hk85).base_le hb; have h3 := (hO45).base_le hb; omega)).lo hk103).kd hk135 hd47).lo hk174).kd hk182 hd47).lo hk193), hd47, ?_⟩), ?_⟩
          · exact (z_c___spec_l1Cur__visits_196 Lc tc sc nc htc hbdc hlec v18 t19 s20 ht22 hq23 hq26 v29 t30 s31 ht33 hq34 n m R t z n37 c37 hi46 hl49 hq51 hq52 h53 v74 t75 s76 ht78 hq79 h106 v136 t137 s138 ht140 h143 v183 t184 s185 ht187 hq188 hq191)
          · exact (z_c___spec_l1Cur__visits_197 Lc tc sc nc htc hbdc hlec v18 t19 s20 ht22 hq23 hq26 v29 t30 s31 ht33 hq34 n m R t z n37 c37 hi46 hl49 hq51 hq52 h53 v74 t75 s76 ht78 hq79 h106 v136 t137 s138 ht140 h143 v183 t184 s185 ht187 hq188 hq191)
    · refine W.exit (xin_here ?_)
      refine W.seq ?_
      refine W.seq ?_
      refine W.regS (SR.q' (r_mv (v := .pointer (some _)) rfl) <| SR.call ent37 (c___spec_l1Cur__pick w40 Lc t z (hm43) ((hm44)) (by omega) (by omega) 60 (by first | omega | (simp only [List.length_append, List.length_cons, List.length_nil, List.length_take, List.length_drop]; omega))) rfl ?_)
      rintro e w198 ⟨v200, t201, s202, rfl, hb203, ht204, hq205, hk199⟩
      refine ⟨_, rfl, ?_⟩
      have hz206 := hk199.size
      have hB207 := hB41.step hk199 (fun i_ hi_ e' => e')
      refine SR.nil ?_
      refine W.block ?_
      refine W.seq ?_
      refine W.seq ?_
      refine W.regS (SR.q' (r_eq rfl rfl) <| SR.q' (r_as (v := .bool _) rfl) <| SR.nil ?_)
      refine W.cond_d rfl (fun h208 => ?_) (fun h208 => ?_)
      · refine W.skip ?_
        refine W.cond_t (congrArg Value.bool (decide_eq_true h208)) ?_
        refine W.seq ?_
        refine W.regS (SR.lit (vs := []) (L := ([] : List Visit)) (enc := encVisit) tel24 (fun _ => rfl) rfl rfl rfl (by decide) ?_)
        intro g209 w210 hg211 hk212 hO213
        have hz214 := hk212.size
        have hB215 := hB207.lo hk212
        have hd216 : ¬ A37 = some ⟨g209, 0, none⟩ := fun e' => by have := ((hO45).kd hk199 hd47).base_le e'; omega
        refine SR.q' (r_as (v := .slice _ _ _) rfl) <| SR.nil ?_
        refine W.seq ?_
        refine W.regS (SR.q' (r_as (v := .int .i64 0) rfl) <| SR.nil ?_)
        refine W.block ?_
        refine W.loop (σ := Nat × (List Visit) × (Option Addr) × Nat × Nat) (fun g => [(0, .pointer (some ((⟨gc, 0, none⟩ : Addr)))), (2, .slice none 0 0), (3, .slice g.2.2.1 g.2.2.2.1 g.2.2.2.2), (7, .int .i64 (g.1 : Int))]) (fun g w' => (Kp (fun b_ => b_ = gc) w w') ∧ (Blk w' gc ec [.slice Ac nc cc, .int .i64 t201, .int .u64 s202]) ∧ (SlR w' Bc encB 1 Ac nc cc Lc) ∧ (SlO w' w.heap.size encVisit 4 45 g.2.2.1 g.2.2.2.1 g.2.2.2.2 g.2.1) ∧ (¬ g.2.2.1 = some ⟨gc, 0, none⟩) ∧ ((g.1 ≤ 6 ∧ g.2.1.length ≤ g.1) ∧ VsB g.2.1)) (fun g => 6 - g.1) (0, ([] : List Visit), (some (⟨g209, 0, none⟩ : Addr)), 0, 0) ?_ ?_ ?_
        · exact ⟨rfl, rfl, rfl, (eI (by first | (first | rfl | omega) | (dsimp only; (first | rfl | omega)))), trivial⟩
        · show (Kp (fun b_ => b_ = gc) w w210) ∧ (Blk w210 gc ec [.slice Ac nc cc, .int .i64 t201, .int .u64 s202]) ∧ (SlR w210 Bc encB 1 Ac nc cc Lc) ∧ (SlO w210 w.heap.size encVisit 4 45 (some (⟨g209, 0, none⟩ : Addr)) 0 0 ([] : List Visit)) ∧ (¬ (some (⟨g209, 0, none⟩ : Addr)) = some ⟨gc, 0, none⟩) ∧ ((0 ≤ 6 ∧ ([] : List Visit).length ≤ 0) ∧ VsB ([] : List Visit))
          exact ⟨hB215, (hb203).lo hk212, ((hm44).kn hk199 (by omega)).lo hk212, ((hO213).down (by omega)), (fun e' => by have := (hO213).base_le e'; omega), (z_c___spec_l1Cur__visits_218 Lc tc sc nc htc hbdc hlec v18 t19 s20 ht22 hq23 hq26 v29 t30 s31 ht33 hq34 n m R t z n37 c37 hi46 hl49 hq51 hq52 h53 v200 t201 s202 ht204 hq205 h208)⟩
        · rintro ⟨k, Q, A217, n217, c217⟩ f219 w220 hP222
          obtain ⟨hB221, hm223, hm224, hO225, hd227, hi226⟩ : (Kp (fun b_ => b_ = gc) w w220) ∧ (Blk w220 gc ec [.slice Ac nc cc, .int .i64 t201, .int .u64 s202]) ∧ (SlR w220 Bc encB 1 Ac nc cc Lc) ∧ (SlO w220 w.heap.size encVisit 4 45 A217 n217 c217 Q) ∧ (¬ A217 = some ⟨gc, 0, none⟩) ∧ ((k ≤ 6 ∧ Q.length ≤ k) ∧ VsB Q) := hP222
          refine (?_ : W _ _ _ _ _ (act _ (sets f219 [(0, .pointer (some ((⟨gc, 0, none⟩ : Addr)))), (2, .slice none 0 0), (3, .slice A217 n217 c217), (7, .int .i64 (k : Int))])) _)
          have hzw220 := hB221.size
          have hl228 := hm223.lt
          have hl229 := hO225.len
          have hl230 := hO225.rd.bound
          have hq231 : k ≤ 6 ∧ Q.length ≤ k := hi226.1
          have hq232 : VsB Q := hi226.2
          refine W.seq ?_
          refine W.seq ?_
          refine W.regS (SR.q' (r_mv (v := .int .i64 _) rfl) <| SR.q' (r_lt rfl rfl) <| SR.nil ?_)
          refine W.cond_d rfl (fun h233 => ?_) (fun h233 => ?_)
          · refine W.skip ?_
            refine W.seq ?_
            refine W.block ?_
            refine W.regS (SR.q' (r_mv (v := .slice _ _ _) rfl) <| SR.q' (r_mv (v := .int .i64 _) rfl) <| SR.q' (r_add rfl rfl (by omega)) <| SR.q' (r_mv (v := .int .i64 _) rfl) <| SR.q' (r_add rfl rfl (by omega)) <| SR.q' (r_mv (v := .int .i64 _) rfl) <| SR.q' (r_add rfl rfl (by omega)) <| SR.q' (r_build (vs := [(0, .int .i64 ((k : Int) + 1)), (1, .int .i64 ((k : Int) + 1)), (2, .int .i64 500), (3, .int .i64 (560 + (k : Int)))]) rfl (bld45_0_1_2_3 _ _ _ _)) <| SR.lit (vs := [.agg (List.toArray [.int .i64 ((k : Int) + 1), .int .i64 ((k : Int) + 1), .int .i64 500, .int .i64 (560 + (k : Int))])]) (L := ([(⟨(k : Int) + 1, (k : Int) + 1, 500, 560 + (k : Int)⟩ : Visit)] : List Visit)) (enc := encVisit) tel24 (fun _ => rfl) rfl rfl rfl (by decide) ?_)
            intro g234 w235 hg236 hk237 hO238
            have hz239 := hk237.size
            have hB240 := hB221.lo hk237
            have hd241 : ¬ A217 = some ⟨g234, 0, none⟩ := fun e' => by have := (hO225).base_le e'; omega
            refine SR.app tel24 rfl rfl ((hO225).lo hk237) ((hO238).rd) (fun _ => rfl) (by omega) (by omega) ?_
            intro A242 c243 w244 hk245 hO246 hN247
            have hz248 := hk245.size
            have hB249 := hB240.step hk245 (fun i_ hi_ e' => by have := (((hO225).lo hk237)).base_le e'; first | omega | (exfalso; omega) | exact e' | exact .inl e' | exact .inr e')
            have hd250 : ¬ A242 = some ⟨gc, 0, none⟩ := fun e' => (hN247 gc e').elim (fun h => hd227 (h.trans e')) (fun h => by have := ((hm223).lo hk237).lt; omega)
            refine SR.q' (r_as (v := .slice _ _ _) rfl) <| SR.nil ?_
            refine W.regS (SR.q' (r_mv (v := .int .i64 _) rfl) <| SR.q' (r_add rfl rfl (by omega)) <| SR.q' (r_as (v := .int .i64 _) rfl) <| SR.nil ?_)
            refine ⟨((k + 1), Q ++ ([(⟨(k : Int) + 1, (k : Int) + 1, 500, 560 + (k : Int)⟩ : Visit)] : List Visit), A242, n217 + 1, c243), _, rfl, ⟨rfl, rfl, rfl, (eI (by first | (first | rfl | omega) | (dsimp only; (first | rfl | omega)))), trivial⟩, (show (Kp (fun b_ => b_ = gc) w w244) ∧ (Blk w244 gc ec [.slice Ac nc cc, .int .i64 t201, .int .u64 s202]) ∧ (SlR w244 Bc encB 1 Ac nc cc Lc) ∧ (SlO w244 w.heap.size encVisit 4 45 A242 (n217 + 1) c243 (Q ++ ([(⟨(k : Int) + 1, (k : Int) + 1, 500, 560 + (k : Int)⟩ : Visit)] : List Visit))) ∧ (¬ A242 = some ⟨gc, 0, none⟩) ∧ (((k + 1) ≤ 6 ∧ (Q ++ ([(⟨(k : Int) + 1, (k : Int) + 1, 500, 560 + (k : Int)⟩ : Visit)] : List Visit)).length ≤ (k + 1)) ∧ VsB (Q ++ ([(⟨(k : Int) + 1, (k : Int) + 1, 500, 560 + (k : Int)⟩ : Visit)] : List Visit))) from ⟨hB249, ((hm223).lo hk237).kp hk245 (fun e' => hd227 e'), ((hm224).lo hk237).kp hk245 (fun b_ hb e' => by have := (((hO225).lo hk237)).base_le e'; omega), (hO246), hd250, ?_⟩), ?_⟩
            · exact (z_c___spec_l1Cur__visits_252 Lc tc sc nc htc hbdc hlec v18 t19 s20 ht22 hq23 hq26 v29 t30 s31 ht33 hq34 n m R t z n37 c37 hi46 hl49 hq51 hq52 h53 v200 t201 s202 ht204 hq205 h208 k Q n217 c217 hi226 hl229 hq231 hq232 h233)
            · exact (z_c___spec_l1Cur__visits_253 Lc tc sc nc htc hbdc hlec v18 t19 s20 ht22 hq23 hq26 v29 t30 s31 ht33 hq34 n m R t z n37 c37 hi46 hl49 hq51 hq52 h53 v200 t201 s202 ht204 hq205 h208 k Q n217 c217 hi226 hl229 hq231 hq232 h233)
          · refine W.exit (xin_here ?_)
            refine W.seq ?_
            refine W.regS (SR.q' (r_mv (v := .slice _ _ _) rfl) <| SR.q' (r_as (v := .slice _ _ _) rfl) <| SR.nil ?_)
            refine W.ret ?_
            refine ret1 rfl (v := .slice _ _ _) rfl ?_
            exact ⟨A217, n217, c217, Q, t201, s202, eR rfl, ((hO225).down (by omega)), (hm223), ⟨by omega, by omega⟩, hq232, (z_c___spec_l1Cur__visits_254 Lc tc sc nc htc hbdc hlec v18 t19 s20 ht22 hq23 hq26 v29 t30 s31 ht33 hq34 n m R t z n37 c37 hi46 hl49 hq51 hq52 h53 v200 t201 s202 ht204 hq205 h208 k Q n217 c217 hi226 hl229 hq231 hq232 h233), hB221⟩
      · refine W.regS (SR.q' (r_eq rfl rfl) <| SR.q' (r_as (v := .bool _) rfl) <| SR.nil ?_)
        refine W.cond_d rfl (fun h255 => ?_) (fun h255 => ?_)
        · refine W.seq ?_
          refine W.regS (SR.lit (vs := []) (L := ([] : List Visit)) (enc := encVisit) tel24 (fun _ => rfl) rfl rfl rfl (by decide) ?_)
          intro g256 w257 hg258 hk259 hO260
          have hz261 := hk259.size
          have hB262 := hB207.lo hk259
          have hd263 : ¬ A37 = some ⟨g256, 0, none⟩ := fun e' => by have := ((hO45).kd hk199 hd47).base_le e'; omega
          refine SR.q' (r_as (v := .slice _ _ _) rfl) <| SR.nil ?_
          refine W.seq ?_
          refine W.regS (SR.q' (r_as (v := .int .i64 0) rfl) <| SR.nil ?_)
          refine W.block ?_
          refine W.loop (σ := Nat × (List Visit) × (Option Addr) × Nat × Nat) (fun g => [(0, .pointer (some ((⟨gc, 0, none⟩ : Addr)))), (2, .slice none 0 0), (3, .slice g.2.2.1 g.2.2.2.1 g.2.2.2.2), (7, .int .i64 (g.1 : Int))]) (fun g w' => (Kp (fun b_ => b_ = gc) w w') ∧ (Blk w' gc ec [.slice Ac nc cc, .int .i64 t201, .int .u64 s202]) ∧ (SlR w' Bc encB 1 Ac nc cc Lc) ∧ (SlO w' w.heap.size encVisit 4 45 g.2.2.1 g.2.2.2.1 g.2.2.2.2 g.2.1) ∧ (¬ g.2.2.1 = some ⟨gc, 0, none⟩) ∧ ((g.1 ≤ 6 ∧ g.2.1.length ≤ g.1) ∧ VsB g.2.1)) (fun g => 6 - g.1) (0, ([] : List Visit), (some (⟨g256, 0, none⟩ : Addr)), 0, 0) ?_ ?_ ?_
          · exact ⟨rfl, rfl, rfl, (eI (by first | (first | rfl | omega) | (dsimp only; (first | rfl | omega)))), trivial⟩
          · show (Kp (fun b_ => b_ = gc) w w257) ∧ (Blk w257 gc ec [.slice Ac nc cc, .int .i64 t201, .int .u64 s202]) ∧ (SlR w257 Bc encB 1 Ac nc cc Lc) ∧ (SlO w257 w.heap.size encVisit 4 45 (some (⟨g256, 0, none⟩ : Addr)) 0 0 ([] : List Visit)) ∧ (¬ (some (⟨g256, 0, none⟩ : Addr)) = some ⟨gc, 0, none⟩) ∧ ((0 ≤ 6 ∧ ([] : List Visit).length ≤ 0) ∧ VsB ([] : List Visit))
            exact ⟨hB262, (hb203).lo hk259, ((hm44).kn hk199 (by omega)).lo hk259, ((hO260).down (by omega)), (fun e' => by have := (hO260).base_le e'; omega), (z_c___spec_l1Cur__visits_265 Lc tc sc nc htc hbdc hlec v18 t19 s20 ht22 hq23 hq26 v29 t30 s31 ht33 hq34 n m R t z n37 c37 hi46 hl49 hq51 hq52 h53 v200 t201 s202 ht204 hq205 h208 h255)⟩
          · rintro ⟨k, Q, A264, n264, c264⟩ f266 w267 hP269
            obtain ⟨hB268, hm270, hm271, hO272, hd274, hi273⟩ : (Kp (fun b_ => b_ = gc) w w267) ∧ (Blk w267 gc ec [.slice Ac nc cc, .int .i64 t201, .int .u64 s202]) ∧ (SlR w267 Bc encB 1 Ac nc cc Lc) ∧ (SlO w267 w.heap.size encVisit 4 45 A264 n264 c264 Q) ∧ (¬ A264 = some ⟨gc, 0, none⟩) ∧ ((k ≤ 6 ∧ Q.length ≤ k) ∧ VsB Q) := hP269
            refine (?_ : W _ _ _ _ _ (act _ (sets f266 [(0, .pointer (some ((⟨gc, 0, none⟩ : Addr)))), (2, .slice none 0 0), (3, .slice A264 n264 c264), (7, .int .i64 (k : Int))])) _)
            have hzw267 := hB268.size
            have hl275 := hm270.lt
            have hl276 := hO272.len
            have hl277 := hO272.rd.bound
            have hq278 : k ≤ 6 ∧ Q.length ≤ k := hi273.1
            have hq279 : VsB Q := hi273.2
            refine W.seq ?_
            refine W.seq ?_
            refine W.regS (SR.q' (r_mv (v := .int .i64 _) rfl) <| SR.q' (r_lt rfl rfl) <| SR.nil ?_)
            refine W.cond_d rfl (fun h280 => ?_) (fun h280 => ?_)
            · refine W.skip ?_
              refine W.seq ?_
              refine W.block ?_
              refine W.regS (SR.q' (r_mv (v := .slice _ _ _) rfl) <| SR.q' (r_mv (v := .int .i64 _) rfl) <| SR.q' (r_add rfl rfl (by omega)) <| SR.q' (r_mv (v := .int .i64 _) rfl) <| SR.q' (r_add rfl rfl (by omega)) <| SR.q' (r_mv (v := .int .i64 _) rfl) <| SR.q' (r_add rfl rfl (by omega)) <| SR.q' (r_build (vs := [(0, .int .i64 ((k : Int) + 1)), (1, .int .i64 ((k : Int) + 1)), (2, .int .i64 500), (3, .int .i64 (560 + (k : Int)))]) rfl (bld45_0_1_2_3 _ _ _ _)) <| SR.lit (vs := [.agg (List.toArray [.int .i64 ((k : Int) + 1), .int .i64 ((k : Int) + 1), .int .i64 500, .int .i64 (560 + (k : Int))])]) (L := ([(⟨(k : Int) + 1, (k : Int) + 1, 500, 560 + (k : Int)⟩ : Visit)] : List Visit)) (enc := encVisit) tel24 (fun _ => rfl) rfl rfl rfl (by decide) ?_)
              intro g281 w282 hg283 hk284 hO285
              have hz286 := hk284.size
              have hB287 := hB268.lo hk284
              have hd288 : ¬ A264 = some ⟨g281, 0, none⟩ := fun e' => by have := (hO272).base_le e'; omega
              refine SR.app tel24 rfl rfl ((hO272).lo hk284) ((hO285).rd) (fun _ => rfl) (by omega) (by omega) ?_
              intro A289 c290 w291 hk292 hO293 hN294
              have hz295 := hk292.size
              have hB296 := hB287.step hk292 (fun i_ hi_ e' => by have := (((hO272).lo hk284)).base_le e'; first | omega | (exfalso; omega) | exact e' | exact .inl e' | exact .inr e')
              have hd297 : ¬ A289 = some ⟨gc, 0, none⟩ := fun e' => (hN294 gc e').elim (fun h => hd274 (h.trans e')) (fun h => by have := ((hm270).lo hk284).lt; omega)
              refine SR.q' (r_as (v := .slice _ _ _) rfl) <| SR.nil ?_
              refine W.regS (SR.q' (r_mv (v := .int .i64 _) rfl) <| SR.q' (r_add rfl rfl (by omega)) <| SR.q' (r_as (v := .int .i64 _) rfl) <| SR.nil ?_)
              refine ⟨((k + 1), Q ++ ([(⟨(k : Int) + 1, (k : Int) + 1, 500, 560 + (k : Int)⟩ : Visit)] : List Visit), A289, n264 + 1, c290), _, rfl, ⟨rfl, rfl, rfl, (eI (by first | (first | rfl | omega) | (dsimp only; (first | rfl | omega)))), trivial⟩, (show (Kp (fun b_ => b_ = gc) w w291) ∧ (Blk w291 gc ec [.slice Ac nc cc, .int .i64 t201, .int .u64 s202]) ∧ (SlR w291 Bc encB 1 Ac nc cc Lc) ∧ (SlO w291 w.heap.size encVisit 4 45 A289 (n264 + 1) c290 (Q ++ ([(⟨(k : Int) + 1, (k : Int) + 1, 500, 560 + (k : Int)⟩ : Visit)] : List Visit))) ∧ (¬ A289 = some ⟨gc, 0, none⟩) ∧ (((k + 1) ≤ 6 ∧ (Q ++ ([(⟨(k : Int) + 1, (k : Int) + 1, 500, 560 + (k : Int)⟩ : Visit)] : List Visit)).length ≤ (k + 1)) ∧ VsB (Q ++ ([(⟨(k : Int) + 1, (k : Int) + 1, 500, 560 + (k : Int)⟩ : Visit)] : List Visit))) from ⟨hB296, ((hm270).lo hk284).kp hk292 (fun e' => hd274 e'), ((hm271).lo hk284).kp hk292 (fun b_ hb e' => by have := (((hO272).lo hk284)).base_le e'; omega), (hO293), hd297, ?_⟩), ?_⟩
              · exact (z_c___spec_l1Cur__visits_299 Lc tc sc nc htc hbdc hlec v18 t19 s20 ht22 hq23 hq26 v29 t30 s31 ht33 hq34 n m R t z n37 c37 hi46 hl49 hq51 hq52 h53 v200 t201 s202 ht204 hq205 h208 h255 k Q n264 c264 hi273 hl276 hq278 hq279 h280)
              · exact (z_c___spec_l1Cur__visits_300 Lc tc sc nc htc hbdc hlec v18 t19 s20 ht22 hq23 hq26 v29 t30 s31 ht33 hq34 n m R t z n37 c37 hi46 hl49 hq51 hq52 h53 v200 t201 s202 ht204 hq205 h208 h255 k Q n264 c264 hi273 hl276 hq278 hq279 h280)
            · refine W.exit (xin_here ?_)
              refine W.seq ?_
              refine W.regS (SR.q' (r_mv (v := .slice _ _ _) rfl) <| SR.q' (r_as (v := .slice _ _ _) rfl) <| SR.nil ?_)
              refine W.ret ?_
              refine ret1 rfl (v := .slice _ _ _) rfl ?_
              exact ⟨A264, n264, c264, Q, t201, s202, eR rfl, ((hO272).down (by omega)), (hm270), ⟨by omega, by omega⟩, hq279, (z_c___spec_l1Cur__visits_301 Lc tc sc nc htc hbdc hlec v18 t19 s20 ht22 hq23 hq26 v29 t30 s31 ht33 hq34 n m R t z n37 c37 hi46 hl49 hq51 hq52 h53 v200 t201 s202 ht204 hq205 h208 h255 k Q n264 c264 hi273 hl276 hq278 hq279 h280), hB268⟩
        · refine W.seq ?_
          refine W.seq ?_
          refine W.regS (SR.q' (r_eq rfl rfl) <| SR.q' (r_as (v := .bool _) rfl) <| SR.nil ?_)
          refine W.cond_d rfl (fun h302 => ?_) (fun h302 => ?_)
          · refine W.skip ?_
            refine W.cond_t (congrArg Value.bool (decide_eq_true h302)) ?_
            refine W.seq ?_
            refine W.regS (SR.lit (vs := []) (L := ([] : List Visit)) (enc := encVisit) tel24 (fun _ => rfl) rfl rfl rfl (by decide) ?_)
            intro g303 w304 hg305 hk306 hO307
            have hz308 := hk306.size
            have hB309 := hB207.lo hk306
            have hd310 : ¬ A37 = some ⟨g303, 0, none⟩ := fun e' => by have := ((hO45).kd hk199 hd47).base_le e'; omega
            refine SR.q' (r_as (v := .slice _ _ _) rfl) <| SR.nil ?_
            refine W.seq ?_
            refine W.regS (SR.q' (r_as (v := .int .i64 0) rfl) <| SR.nil ?_)
            refine W.block ?_
            refine W.loop (σ := Nat × (List Visit) × Int × Int × (Option Addr) × Nat × Nat) (fun g => [(0, .pointer (some ((⟨gc, 0, none⟩ : Addr)))), (2, .slice none 0 0), (3, .slice g.2.2.2.2.1 g.2.2.2.2.2.1 g.2.2.2.2.2.2), (8, .int .i64 (g.1 : Int))]) (fun g w' => (Kp (fun b_ => b_ = gc) w w') ∧ (Blk w' gc ec [.slice Ac nc cc, .int .i64 g.2.2.1, .int .u64 g.2.2.2.1]) ∧ (SlR w' Bc encB 1 Ac nc cc Lc) ∧ (SlO w' w.heap.size encVisit 4 45 g.2.2.2.2.1 g.2.2.2.2.2.1 g.2.2.2.2.2.2 g.2.1) ∧ (¬ g.2.2.2.2.1 = some ⟨gc, 0, none⟩) ∧ ((g.1 ≤ 16 ∧ g.2.1.length ≤ g.1 ∧ tc ≤ g.2.2.1 ∧ g.2.2.1 ≤ tc + 140 + 2 * (g.1 : Int)) ∧ VsB g.2.1)) (fun g => 20 - g.1) (0, ([] : List Visit), t201, s202, (some (⟨g303, 0, none⟩ : Addr)), 0, 0) ?_ ?_ ?_
            · exact ⟨rfl, rfl, rfl, (eI (by first | (first | rfl | omega) | (dsimp only; (first | rfl | omega)))), trivial⟩
            · show (Kp (fun b_ => b_ = gc) w w304) ∧ (Blk w304 gc ec [.slice Ac nc cc, .int .i64 t201, .int .u64 s202]) ∧ (SlR w304 Bc encB 1 Ac nc cc Lc) ∧ (SlO w304 w.heap.size encVisit 4 45 (some (⟨g303, 0, none⟩ : Addr)) 0 0 ([] : List Visit)) ∧ (¬ (some (⟨g303, 0, none⟩ : Addr)) = some ⟨gc, 0, none⟩) ∧ ((0 ≤ 16 ∧ ([] : List Visit).length ≤ 0 ∧ tc ≤ t201 ∧ t201 ≤ tc + 140 + 2 * (0 : Int)) ∧ VsB ([] : List Visit))
              exact ⟨hB309, ((hb203).lo hk306), ((hm44).kn hk199 (by omega)).lo hk306, ((hO307).down (by omega)), (fun e' => by have := (hO307).base_le e'; omega), (z_c___spec_l1Cur__visits_312 Lc tc sc nc htc hbdc hlec v18 t19 s20 ht22 hq23 hq26 v29 t30 s31 ht33 hq34 n m R t z n37 c37 hi46 hl49 hq51 hq52 h53 v200 t201 s202 ht204 hq205 h208 h255 h302)⟩
            · rintro ⟨k3, Q3, t3, z3, A311, n311, c311⟩ f313 w314 hP316
              obtain ⟨hB315, hm317, hm318, hO319, hd321, hi320⟩ : (Kp (fun b_ => b_ = gc) w w314) ∧ (Blk w314 gc ec [.slice Ac nc cc, .int .i64 t3, .int .u64 z3]) ∧ (SlR w314 Bc encB 1 Ac nc cc Lc) ∧ (SlO w314 w.heap.size encVisit 4 45 A311 n311 c311 Q3) ∧ (¬ A311 = some ⟨gc, 0, none⟩) ∧ ((k3 ≤ 16 ∧ Q3.length ≤ k3 ∧ tc ≤ t3 ∧ t3 ≤ tc + 140 + 2 * (k3 : Int)) ∧ VsB Q3) := hP316
              refine (?_ : W _ _ _ _ _ (act _ (sets f313 [(0, .pointer (some ((⟨gc, 0, none⟩ : Addr)))), (2, .slice none 0 0), (3, .slice A311 n311 c311), (8, .int .i64 (k3 : Int))])) _)
              have hzw314 := hB315.size
              have hl322 := hm317.lt
              have hl323 := hO319.len
              have hl324 := hO319.rd.bound
              have hq325 : k3 ≤ 16 ∧ Q3.length ≤ k3 ∧ tc ≤ t3 ∧ t3 ≤ tc + 140 + 2 * (k3 : Int) := hi320.1
              have hq326 : VsB Q3 := hi320.2
              refine W.seq ?_
              refine W.seq ?_
              refine W.regS (SR.q' (r_mv (v := .int .i64 _) rfl) <| SR.q' (r_mv (v := .pointer (some _)) rfl) <| SR.call ent37 (c___spec_l1Cur__pick w314 Lc t3 z3 (hm317) ((hm318)) (by omega) (by omega) 2 (by first | omega | (simp only [List.length_append, List.length_cons, List.length_nil, List.length_take, List.length_drop]; omega))) rfl ?_)
              rintro e w327 ⟨v329, t330, s331, rfl, hb332, ht333, hq334, hk328⟩
              refine ⟨_, rfl, ?_⟩
              have hz335 := hk328.size
              have hB336 := hB315.step hk328 (fun i_ hi_ e' => e')
              refine SR.q' (r_add rfl rfl (by omega)) <| SR.q' (r_lt rfl rfl) <| SR.nil ?_
              refine W.cond_d rfl (fun h337 => ?_) (fun h337 => ?_)
              · refine W.skip ?_
                refine W.seq ?_
                refine W.block ?_
                refine W.regS (SR.q' (r_mv (v := .slice _ _ _) rfl) <| SR.q' (r_mv (v := .int .i64 _) rfl) <| SR.q' (r_rem rfl rfl (by omega)) <| SR.q' (r_add rfl rfl (by omega)) <| SR.q' (r_mv (v := .int .i64 _) rfl) <| SR.q' (r_rem rfl rfl (by omega)) <| SR.q' (r_add rfl rfl (by omega)) <| SR.q' (r_mv (v := .int .i64 _) rfl) <| SR.q' (r_mul rfl rfl (by omega)) <| SR.q' (r_add rfl rfl (by omega)) <| SR.q' (r_mv (v := .int .i64 _) rfl) <| SR.q' (r_mul rfl rfl (by omega)) <| SR.q' (r_add rfl rfl (by omega)) <| SR.q' (r_build (vs := [(0, .int .i64 (1 + ((k3 : Int) % 4))), (1, .int .i64 (1 + ((k3 : Int) % 5))), (2, .int .i64 (480 + (40 * (k3 : Int)))), (3, .int .i64 (520 + (40 * (k3 : Int))))]) rfl (bld45_0_1_2_3 _ _ _ _)) <| SR.lit (vs := [.agg (List.toArray [.int .i64 (1 + ((k3 : Int) % 4)), .int .i64 (1 + ((k3 : Int) % 5)), .int .i64 (480 + (40 * (k3 : Int))), .int .i64 (520 + (40 * (k3 : Int)))])]) (L := ([(⟨1 + ((k3 : Int) % 4), 1 + ((k3 : Int) % 5), 480 + (40 * (k3 : Int)), 520 + (40 * (k3 : Int))⟩ : Visit)] : List Visit)) (enc := encVisit) tel24 (fun _ => rfl) rfl rfl rfl (by decide) ?_)
                intro g338 w339 hg340 hk341 hO342
                have hz343 := hk341.size
                have hB344 := hB336.lo hk341
                have hd345 : ¬ A311 = some ⟨g338, 0, none⟩ := fun e' => by have := ((hO319).kd hk328 hd321).base_le e'; omega
                refine SR.app tel24 rfl rfl (((hO319).kd hk328 hd321).lo hk341) ((hO342).rd) (fun _ => rfl) (by omega) (by omega) ?_
                intro A346 c347 w348 hk349 hO350 hN351
                have hz352 := hk349.size
                have hB353 := hB344.step hk349 (fun i_ hi_ e' => by have := ((((hO319).kd hk328 hd321).lo hk341)).base_le e'; first | omega | (exfalso; omega) | exact e' | exact .inl e' | exact .inr e')
                have hd354 : ¬ A346 = some ⟨gc, 0, none⟩ := fun e' => (hN351 gc e').elim (fun h => hd321 (h.trans e')) (fun h => by have := ((hb332).lo hk341).lt; omega)
                refine SR.q' (r_as (v := .slice _ _ _) rfl) <| SR.nil ?_
                refine W.regS (SR.q' (r_mv (v := .int .i64 _) rfl) <| SR.q' (r_add rfl rfl (by omega)) <| SR.q' (r_as (v := .int .i64 _) rfl) <| SR.nil ?_)
                refine ⟨((k3 + 1), Q3 ++ ([(⟨1 + ((k3 : Int) % 4), 1 + ((k3 : Int) % 5), 480 + (40 * (k3 : Int)), 520 + (40 * (k3 : Int))⟩ : Visit)] : List Visit), t330, s331, A346, n311 + 1, c347), _, rfl, ⟨rfl, rfl, rfl, (eI (by first | (first | rfl | omega) | (dsimp only; (first | rfl | omega)))), trivial⟩, (show (Kp (fun b_ => b_ = gc) w w348) ∧ (Blk w348 gc ec [.slice Ac nc cc, .int .i64 t330, .int .u64 s331]) ∧ (SlR w348 Bc encB 1 Ac nc cc Lc) ∧ (SlO w348 w.heap.size encVisit 4 45 A346 (n311 + 1) c347 (Q3 ++ ([(⟨1 + ((k3 : Int) % 4), 1 + ((k3 : Int) % 5), 480 + (40 * (k3 : Int)), 520 + (40 * (k3 : Int))⟩ : Visit)] : List Visit))) ∧ (¬ A346 = some ⟨gc, 0, none⟩) ∧ (((k3 + 1) ≤ 16 ∧ (Q3 ++ ([(⟨1 + ((k3 : Int) % 4), 1 + ((k3 : Int) % 5), 480 + (40 * (k3 : Int)), 520 + (40 * (k3 : Int))⟩ : Visit)] : List Visit)).length ≤ (k3 + 1) ∧ tc ≤ t330 ∧ t330 ≤ tc + 140 + 2 * ((k3 + 1) : Int)) ∧ VsB (Q3 ++ ([(⟨1 + ((k3 : Int) % 4), 1 + ((k3 : Int) % 5), 480 + (40 * (k3 : Int)), 520 + (40 * (k3 : Int))⟩ : Visit)] : List Visit))) from ⟨hB353, (((hb332).lo hk341).kp hk349 (fun e' => hd321 e')), (((hm318).kn hk328 (by omega)).lo hk341).kp hk349 (fun b_ hb e' => by have := ((((hO319).kd hk328 hd321).lo hk341)).base_le e'; omega), (hO350), hd354, ?_⟩), ?_⟩
                · exact (z_c___spec_l1Cur__visits_356 Lc tc sc nc htc hbdc hlec v18 t19 s20 ht22 hq23 hq26 v29 t30 s31 ht33 hq34 n m R t z n37 c37 hi46 hl49 hq51 hq52 h53 v200 t201 s202 ht204 hq205 h208 h255 h302 k3 Q3 t3 z3 n311 c311 hi320 hl323 hq325 hq326 v329 t330 s331 ht333 hq334 h337)
                · exact (z_c___spec_l1Cur__visits_357 Lc tc sc nc htc hbdc hlec v18 t19 s20 ht22 hq23 hq26 v29 t30 s31 ht33 hq34 n m R t z n37 c37 hi46 hl49 hq51 hq52 h53 v200 t201 s202 ht204 hq205 h208 h255 h302 k3 Q3 t3 z3 n311 c311 hi320 hl323 hq325 hq326 v329 t330 s331 ht333 hq334 h337)
              · refine W.exit (xin_here ?_)
                refine W.seq ?_
                refine W.regS (SR.q' (r_mv (v := .slice _ _ _) rfl) <| SR.q' (r_as (v := .slice _ _ _) rfl) <| SR.nil ?_)
                refine W.ret ?_
                refine ret1 rfl (v := .slice _ _ _) rfl ?_
                exact ⟨A311, n311, c311, Q3, t330, s331, eR rfl, (((hO319).kd hk328 hd321).down (by omega)), (hb332), ⟨by omega, by omega⟩, hq326, (z_c___spec_l1Cur__visits_358 Lc tc sc nc htc hbdc hlec v18 t19 s20 ht22 hq23 hq26 v29 t30 s31 ht33 hq34 n m R t z n37 c37 hi46 hl49 hq51 hq52 h53 v200 t201 s202 ht204 hq205 h208 h255 h302 k3 Q3 t3 z3 n311 c311 hi320 hl323 hq325 hq326 v329 t330 s331 ht333 hq334 h337), hB336⟩
          · refine W.regS (SR.q' (r_eq rfl rfl) <| SR.q' (r_as (v := .bool _) rfl) <| SR.nil ?_)
            refine W.cond_d rfl (fun h359 => ?_) (fun h359 => ?_)
            · refine W.seq ?_
              refine W.regS (SR.lit (vs := []) (L := ([] : List Visit)) (enc := encVisit) tel24 (fun _ => rfl) rfl rfl rfl (by decide) ?_)
              intro g360 w361 hg362 hk363 hO364
              have hz365 := hk363.size
              have hB366 := hB207.lo hk363
              have hd367 : ¬ A37 = some ⟨g360, 0, none⟩ := fun e' => by have := ((hO45).kd hk199 hd47).base_le e'; omega
              refine SR.q' (r_as (v := .slice _ _ _) rfl) <| SR.nil ?_
              refine W.seq ?_
              refine W.regS (SR.q' (r_as (v := .int .i64 0) rfl) <| SR.nil ?_)
              refine W.block ?_
              refine W.loop (σ := Nat × (List Visit) × Int × Int × (Option Addr) × Nat × Nat) (fun g => [(0, .pointer (some ((⟨gc, 0, none⟩ : Addr)))), (2, .slice none 0 0), (3, .slice g.2.2.2.2.1 g.2.2.2.2.2.1 g.2.2.2.2.2.2), (8, .int .i64 (g.1 : Int))]) (fun g w' => (Kp (fun b_ => b_ = gc) w w') ∧ (Blk w' gc ec [.slice Ac nc cc, .int .i64 g.2.2.1, .int .u64 g.2.2.2.1]) ∧ (SlR w' Bc encB 1 Ac nc cc Lc) ∧ (SlO w' w.heap.size encVisit 4 45 g.2.2.2.2.1 g.2.2.2.2.2.1 g.2.2.2.2.2.2 g.2.1) ∧ (¬ g.2.2.2.2.1 = some ⟨gc, 0, none⟩) ∧ ((g.1 ≤ 16 ∧ g.2.1.length ≤ g.1 ∧ tc ≤ g.2.2.1 ∧ g.2.2.1 ≤ tc + 140 + 2 * (g.1 : Int)) ∧ VsB g.2.1)) (fun g => 20 - g.1) (0, ([] : List Visit), t201, s202, (some (⟨g360, 0, none⟩ : Addr)), 0, 0) ?_ ?_ ?_
              · exact ⟨rfl, rfl, rfl, (eI (by first | (first | rfl | omega) | (dsimp only; (first | rfl | omega)))), trivial⟩
              · show (Kp (fun b_ => b_ = gc) w w361) ∧ (Blk w361 gc ec [.slice Ac nc cc, .int .i64 t201, .int .u64 s202]) ∧ (SlR w361 Bc encB 1 Ac nc cc Lc) ∧ (SlO w361 w.heap.size encVisit 4 45 (some (⟨g360, 0, none⟩ : Addr)) 0 0 ([] : List Visit)) ∧ (¬ (some (⟨g360, 0, none⟩ : Addr)) = some ⟨gc, 0, none⟩) ∧ ((0 ≤ 16 ∧ ([] : List Visit).length ≤ 0 ∧ tc ≤ t201 ∧ t201 ≤ tc + 140 + 2 * (0 : Int)) ∧ VsB ([] : List Visit))
                exact ⟨hB366, ((hb203).lo hk363), ((hm44).kn hk199 (by omega)).lo hk363, ((hO364).down (by omega)), (fun e' => by have := (hO364).base_le e'; omega), (z_c___spec_l1Cur__visits_369 Lc tc sc nc htc hbdc hlec v18 t19 s20 ht22 hq23 hq26 v29 t30 s31 ht33 hq34 n m R t z n37 c37 hi46 hl49 hq51 hq52 h53 v200 t201 s202 ht204 hq205 h208 h255 h302 h359)⟩
              · rintro ⟨k3, Q3, t3, z3, A368, n368, c368⟩ f370 w371 hP373
                obtain ⟨hB372, hm374, hm375, hO376, hd378, hi377⟩ : (Kp (fun b_ => b_ = gc) w w371) ∧ (Blk w371 gc ec [.slice Ac nc cc, .int .i64 t3, .int .u64 z3]) ∧ (SlR w371 Bc encB 1 Ac nc cc Lc) ∧ (SlO w371 w.heap.size encVisit 4 45 A368 n368 c368 Q3) ∧ (¬ A368 = some ⟨gc, 0, none⟩) ∧ ((k3 ≤ 16 ∧ Q3.length ≤ k3 ∧ tc ≤ t3 ∧ t3 ≤ tc + 140 + 2 * (k3 : Int)) ∧ VsB Q3) := hP373
                refine (?_ : W _ _ _ _ _ (act _ (sets f370 [(0, .pointer (some ((⟨gc, 0, none⟩ : Addr)))), (2, .slice none 0 0), (3, .slice A368 n368 c368), (8, .int .i64 (k3 : Int))])) _)
                have hzw371 := hB372.size
                have hl379 := hm374.lt
                have hl380 := hO376.len
                have hl381 := hO376.rd.bound
                have hq382 : k3 ≤ 16 ∧ Q3.length ≤ k3 ∧ tc ≤ t3 ∧ t3 ≤ tc + 140 + 2 * (k3 : Int) := hi377.1
                have hq383 : VsB Q3 := hi377.2
                refine W.seq ?_
                refine W.seq ?_
                refine W.regS (SR.q' (r_mv (v := .int .i64 _) rfl) <| SR.q' (r_mv (v := .pointer (some _)) rfl) <| SR.call ent37 (c___spec_l1Cur__pick w371 Lc t3 z3 (hm374) ((hm375)) (by omega) (by omega) 2 (by first | omega | (simp only [List.length_append, List.length_cons, List.length_nil, List.length_take, List.length_drop]; omega))) rfl ?_)
                rintro e w384 ⟨v386, t387, s388, rfl, hb389, ht390, hq391, hk385⟩
                refine ⟨_, rfl, ?_⟩
                have hz392 := hk385.size
                have hB393 := hB372.step hk385 (fun i_ hi_ e' => e')
                refine SR.q' (r_add rfl rfl (by omega)) <| SR.q' (r_lt rfl rfl) <| SR.nil ?_
                refine W.cond_d rfl (fun h394 => ?_) (fun h394 => ?_)
                · refine W.skip ?_
                  refine W.seq ?_
                  refine W.block ?_
                  refine W.regS (SR.q' (r_mv (v := .slice _ _ _) rfl) <| SR.q' (r_mv (v := .int .i64 _) rfl) <| SR.q' (r_rem rfl rfl (by omega)) <| SR.q' (r_add rfl rfl (by omega)) <| SR.q' (r_mv (v := .int .i64 _) rfl) <| SR.q' (r_rem rfl rfl (by omega)) <| SR.q' (r_add rfl rfl (by omega)) <| SR.q' (r_mv (v := .int .i64 _) rfl) <| SR.q' (r_mul rfl rfl (by omega)) <| SR.q' (r_add rfl rfl (by omega)) <| SR.q' (r_mv (v := .int .i64 _) rfl) <| SR.q' (r_mul rfl rfl (by omega)) <| SR.q' (r_add rfl rfl (by omega)) <| SR.q' (r_build (vs := [(0, .int .i64 (1 + ((k3 : Int) % 4))), (1, .int .i64 (1 + ((k3 : Int) % 5))), (2, .int .i64 (480 + (40 * (k3 : Int)))), (3, .int .i64 (520 + (40 * (k3 : Int))))]) rfl (bld45_0_1_2_3 _ _ _ _)) <| SR.lit (vs := [.agg (List.toArray [.int .i64 (1 + ((k3 : Int) % 4)), .int .i64 (1 + ((k3 : Int) % 5)), .int .i64 (480 + (40 * (k3 : Int))), .int .i64 (520 + (40 * (k3 : Int)))])]) (L := ([(⟨1 + ((k3 : Int) % 4), 1 + ((k3 : Int) % 5), 480 + (40 * (k3 : Int)), 520 + (40 * (k3 : Int))⟩ : Visit)] : List Visit)) (enc := encVisit) tel24 (fun _ => rfl) rfl rfl rfl (by decide) ?_)
                  intro g395 w396 hg397 hk398 hO399
                  have hz400 := hk398.size
                  have hB401 := hB393.lo hk398
                  have hd402 : ¬ A368 = some ⟨g395, 0, none⟩ := fun e' => by have := ((hO376).kd hk385 hd378).base_le e'; omega
                  refine SR.app tel24 rfl rfl (((hO376).kd hk385 hd378).lo hk398) ((hO399).rd) (fun _ => rfl) (by omega) (by omega) ?_
                  intro A403 c404 w405 hk406 hO407 hN408
                  have hz409 := hk406.size
                  have hB410 := hB401.step hk406 (fun i_ hi_ e' => by have := ((((hO376).kd hk385 hd378).lo hk398)).base_le e'; first | omega | (exfalso; omega) | exact e' | exact .inl e' | exact .inr e')
                  have hd411 : ¬ A403 = some ⟨gc, 0, none⟩ := fun e' => (hN408 gc e').elim (fun h => hd378 (h.trans e')) (fun h => by have := ((hb389).lo hk398).lt; omega)
                  refine SR.q' (r_as (v := .slice _ _ _) rfl) <| SR.nil ?_
                  refine W.regS (SR.q' (r_mv (v := .int .i64 _) rfl) <| SR.q' (r_add rfl rfl (by omega)) <| SR.q' (r_as (v := .int .i64 _) rfl) <| SR.nil ?_)
                  refine ⟨((k3 + 1), Q3 ++ ([(⟨1 + ((k3 : Int) % 4), 1 + ((k3 : Int) % 5), 480 + (40 * (k3 : Int)), 520 + (40 * (k3 : Int))⟩ : Visit)] : List Visit), t387, s388, A403, n368 + 1, c404), _, rfl, ⟨rfl, rfl, rfl, (eI (by first | (first | rfl | omega) | (dsimp only; (first | rfl | omega)))), trivial⟩, (show (Kp (fun b_ => b_ = gc) w w405) ∧ (Blk w405 gc ec [.slice Ac nc cc, .int .i64 t387, .int .u64 s388]) ∧ (SlR w405 Bc encB 1 Ac nc cc Lc) ∧ (SlO w405 w.heap.size encVisit 4 45 A403 (n368 + 1) c404 (Q3 ++ ([(⟨1 + ((k3 : Int) % 4), 1 + ((k3 : Int) % 5), 480 + (40 * (k3 : Int)), 520 + (40 * (k3 : Int))⟩ : Visit)] : List Visit))) ∧ (¬ A403 = some ⟨gc, 0, none⟩) ∧ (((k3 + 1) ≤ 16 ∧ (Q3 ++ ([(⟨1 + ((k3 : Int) % 4), 1 + ((k3 : Int) % 5), 480 + (40 * (k3 : Int)), 520 + (40 * (k3 : Int))⟩ : Visit)] : List Visit)).length ≤ (k3 + 1) ∧ tc ≤ t387 ∧ t387 ≤ tc + 140 + 2 * ((k3 + 1) : Int)) ∧ VsB (Q3 ++ ([(⟨1 + ((k3 : Int) % 4), 1 + ((k3 : Int) % 5), 480 + (40 * (k3 : Int)), 520 + (40 * (k3 : Int))⟩ : Visit)] : List Visit))) from ⟨hB410, (((hb389).lo hk398).kp hk406 (fun e' => hd378 e')), (((hm375).kn hk385 (by omega)).lo hk398).kp hk406 (fun b_ hb e' => by have := ((((hO376).kd hk385 hd378).lo hk398)).base_le e'; omega), (hO407), hd411, ?_⟩), ?_⟩
                  · exact (z_c___spec_l1Cur__visits_413 Lc tc sc nc htc hbdc hlec v18 t19 s20 ht22 hq23 hq26 v29 t30 s31 ht33 hq34 n m R t z n37 c37 hi46 hl49 hq51 hq52 h53 v200 t201 s202 ht204 hq205 h208 h255 h302 h359 k3 Q3 t3 z3 n368 c368 hi377 hl380 hq382 hq383 v386 t387 s388 ht390 hq391 h394)
                  · exact (z_c___spec_l1Cur__visits_414 Lc tc sc nc htc hbdc hlec v18 t19 s20 ht22 hq23 hq26 v29 t30 s31 ht33 hq34 n m R t z n37 c37 hi46 hl49 hq51 hq52 h53 v200 t201 s202 ht204 hq205 h208 h255 h302 h359 k3 Q3 t3 z3 n368 c368 hi377 hl380 hq382 hq383 v386 t387 s388 ht390 hq391 h394)
                · refine W.exit (xin_here ?_)
                  refine W.seq ?_
                  refine W.regS (SR.q' (r_mv (v := .slice _ _ _) rfl) <| SR.q' (r_as (v := .slice _ _ _) rfl) <| SR.nil ?_)
                  refine W.ret ?_
                  refine ret1 rfl (v := .slice _ _ _) rfl ?_
                  exact ⟨A368, n368, c368, Q3, t387, s388, eR rfl, (((hO376).kd hk385 hd378).down (by omega)), (hb389), ⟨by omega, by omega⟩, hq383, (z_c___spec_l1Cur__visits_415 Lc tc sc nc htc hbdc hlec v18 t19 s20 ht22 hq23 hq26 v29 t30 s31 ht33 hq34 n m R t z n37 c37 hi46 hl49 hq51 hq52 h53 v200 t201 s202 ht204 hq205 h208 h255 h302 h359 k3 Q3 t3 z3 n368 c368 hi377 hl380 hq382 hq383 v386 t387 s388 ht390 hq391 h394), hB393⟩
            · refine W.seq ?_
              refine W.regS (SR.q' (r_eq rfl rfl) <| SR.q' (r_as (v := .bool _) rfl) <| SR.nil ?_)
              refine W.cond_d rfl (fun h416 => ?_) (fun h416 => ?_)
              · refine W.seq ?_
                refine W.regS (SR.q' (r_mv (v := .slice _ _ _) rfl) <| SR.q' (r_len und24 rfl) <| SR.q' (r_gt rfl rfl) <| SR.nil ?_)
                refine W.cond_d rfl (fun h417 => ?_) (fun h417 => ?_)
                · refine W.regA (Lo w198) (fun f' w' => ∃ (g425 : Nat), ∃ (A434 : Option Addr), ∃ (c435 : Nat), ∃ (x422 : Visit), ∃ (g445 : Nat), ∃ (A455 : Option Addr), ∃ (c456 : Nat), At f' [(2, .slice none 0 0), (3, .slice A455 ((0 + (n37 - 1)) + 1) c456)] ∧ (Lo w198 w') ∧ (SlO w' w198.heap.size encVisit 4 45 A455 ((0 + (n37 - 1)) + 1) c456 ((R.drop 1) ++ ([x422] : List Visit))) ∧ (∀ b_, A455 = some ⟨b_, 0, none⟩ → ¬ A37 = some ⟨b_, 0, none⟩) ∧ (R[0]? = some x422) ∧ ((-100000 ≤ x422.From ∧ x422.From ≤ 100000) ∧ (-100000 ≤ x422.Until ∧ x422.Until ≤ 100000))) mo ?_ ?_
                  · intro w418 hk419
                    have hz420 := hk419.size
                    have hB421 := hB207.lo hk419
                    refine AH.take 1 rfl (by kernel_rfl) trivial (hk419) (fun w' hw' => r_mv (v := .slice _ _ _) rfl) <| AH.take 2 rfl (by kernel_rfl) trivial (hk419) (fun w' hw' => r_cutl (l := 1) tsl24 rfl rfl rfl (by omega)) <| AH.take 4 rfl (by kernel_rfl) trivial (hk419) (fun w' hw' => r_mv (v := .slice _ _ _) rfl) <| ?_
                    obtain ⟨x422, hx423⟩ := ((((hO45).kd hk199 hd47).lo hk419).rd).get (i := 0) (by omega)
                    have hq424 := VsB.at hq52 hx423
                    refine AH.take 5 rfl (by kernel_rfl) trivial (hk419) (fun w' hw' => r_ixR tsl24 ((((hO45).kd hk199 hd47).lo hw').rd) rfl rfl (by omega)) <| AH.take 6 rfl (by kernel_rfl) trivial (hk419) (fun w' hw' => r_lda (l := encVisit x422) agg45 rfl (fun _ _ hu => ((((hO45).kd hk199 hd47).lo hw').rd).cell hx423 hu) (((((hO45).kd hk199 hd47).lo hw').rd).esz _)) <| AH.br [0, 7] (by kernel_rfl) rfl ⟨Br.mk' rfl trivial ?_, Br.mk' rfl trivial ?_, trivial⟩
                    · refine SR.lit (vs := []) (L := ([] : List Visit)) (enc := encVisit) tel24 (fun _ => rfl) rfl rfl rfl (by decide) ?_
                      intro g425 w426 hg427 hk428 hO429
                      have hz430 := hk428.size
                      have hB431 := hB421.lo hk428
                      have hS432 := (hk419).lo hk428
                      have hd433 : ¬ A37 = some ⟨g425, 0, none⟩ := fun e' => by have := (((hO45).kd hk199 hd47).lo hk419).base_le e'; omega
                      refine SR.nil ⟨hS432, _, rfl, ?_⟩
                      refine AH.br [3, 7] (by kernel_rfl) rfl ⟨Br.mk' rfl trivial ?_, Br.mk' rfl trivial ?_, trivial⟩
                      · refine SR.app tel24 rfl rfl (hO429) (((((hO45).kd hk199 hd47).rd.cutl (l := 1) (by omega)).lo hk419).lo hk428) (fun _ => rfl) (by omega) (by omega) ?_
                        intro A434 c435 w436 hk437 hO438 hN439
                        have hz440 := hk437.size
                        have hB441 := hB431.step hk437 (fun i_ hi_ e' => by have := ((hO429)).base_le e'; first | omega | (exfalso; omega) | exact e' | exact .inl e' | exact .inr e')
                        have hS442 := (hS432).step hk437 (fun i_ hi_ e' => by have := ((hO429)).base_le e'; exfalso; omega)
                        rw [List.nil_append] at hO438
                        have hd443 : ¬ A434 = some ⟨gc, 0, none⟩ := fun e' => (hN439 gc e').elim (fun h => by have := (hO429).base_le (h.trans e'); omega) (fun h => by have := (((hb203).lo hk419).lo hk428).lt; omega)
                        refine SR.nil ⟨hS442, _, rfl, ?_⟩
                        refine AH.br [7] (by kernel_rfl) rfl ⟨Br.mk' rfl trivial ?_, trivial⟩
                        refine SR.lit (vs := [.agg (List.toArray (encVisit x422))]) (L := ([x422] : List Visit)) (enc := encVisit) tel24 (fun _ => rfl) rfl rfl rfl (by decide) ?_
                        intro g445 w446 hg447 hk448 hO449
                        have hz450 := hk448.size
                        have hB451 := hB441.lo hk448
                        have hS452 := (hS442).lo hk448
                        have hd453 : ¬ A37 = some ⟨g445, 0, none⟩ := fun e' => by have := (((((hO45).kd hk199 hd47).lo hk419).lo hk428).kp hk437 (fun b_ hb e' => by have h1 := ((hO429)).base_le e'; have h2 := ((((hO45).kd hk199 hd47).lo hk419).lo hk428).base_le hb; have h3 := (((hO45).kd hk199 hd47).lo hk419).base_le hb; omega)).base_le e'; omega
                        have hd454 : ¬ A434 = some ⟨g445, 0, none⟩ := fun e' => by have := (hO438).base_le e'; omega
                        refine SR.nil ⟨hS452, _, rfl, ?_⟩
                        refine AH.br [8] (by kernel_rfl) rfl ⟨Br.mk' rfl trivial ?_, trivial⟩
                        refine SR.app tel24 rfl rfl ((hO438).lo hk448) ((hO449).rd) (fun _ => rfl) (by omega) (by omega) ?_
                        intro A455 c456 w457 hk458 hO459 hN460
                        have hz461 := hk458.size
                        have hB462 := hB451.step hk458 (fun i_ hi_ e' => by have := (((hO438).lo hk448)).base_le e'; first | omega | (exfalso; omega) | exact e' | exact .inl e' | exact .inr e')
                        have hS463 := (hS452).step hk458 (fun i_ hi_ e' => by have := (((hO438).lo hk448)).base_le e'; exfalso; omega)
                        have hd464 : ¬ A455 = some ⟨gc, 0, none⟩ := fun e' => (hN460 gc e').elim (fun h => hd443 (h.trans e')) (fun h => by have := (((((hb203).lo hk419).lo hk428).kp hk437 (fun e' => by have := ((hO429)).base_le e'; omega)).lo hk448).lt; omega)
                        refine SR.nil ⟨hS463, _, rfl, ?_⟩
                        refine AH.take 9 rfl (by kernel_rfl) trivial (hS463) (fun w' hw' => r_as (v := .slice _ _ _) rfl) <| AH.done (by kernel_rfl) ?_
                        exact ⟨g425, A434, c435, x422, g445, A455, c456, ⟨rfl, rfl, trivial⟩, hS463, ((hO459).down (by omega)), (fun b_ h h' => by have h1 := (hO459).base_le h; have h2 := (((hO45).kd hk199 hd47).lo hk419).base_le h'; omega), hx423, hq424⟩
                      · refine SR.lit (vs := [.agg (List.toArray (encVisit x422))]) (L := ([x422] : List Visit)) (enc := encVisit) tel24 (fun _ => rfl) rfl rfl rfl (by decide) ?_
                        intro g469 w470 hg471 hk472 hO473
                        have hz474 := hk472.size
                        have hB475 := hB431.lo hk472
                        have hS476 := (hS432).lo hk472
                        have hd477 : ¬ A37 = some ⟨g469, 0, none⟩ := fun e' => by have := ((((hO45).kd hk199 hd47).lo hk419).lo hk428).base_le e'; omega
                        have hd478 : ¬ (some (⟨g425, 0, none⟩ : Addr)) = some ⟨g469, 0, none⟩ := fun e' => by have := (hO429).base_le e'; omega
                        refine SR.nil ⟨hS476, _, rfl, ?_⟩
                        refine AH.br [3] (by kernel_rfl) rfl ⟨Br.mk' rfl trivial ?_, trivial⟩
                        refine SR.app tel24 rfl rfl ((hO429).lo hk472) ((((((hO45).kd hk199 hd47).rd.cutl (l := 1) (by omega)).lo hk419).lo hk428).lo hk472) (fun _ => rfl) (by omega) (by omega) ?_
                        intro A479 c480 w481 hk482 hO483 hN484
                        have hz485 := hk482.size
                        have hB486 := hB475.step hk482 (fun i_ hi_ e' => by have := (((hO429).lo hk472)).base_le e'; first | omega | (exfalso; omega) | exact e' | exact .inl e' | exact .inr e')
                        have hS487 := (hS476).step hk482 (fun i_ hi_ e' => by have := (((hO429).lo hk472)).base_le e'; exfalso; omega)
                        rw [List.nil_append] at hO483
                        have hd488 : ¬ A479 = some ⟨gc, 0, none⟩ := fun e' => (hN484 gc e').elim (fun h => by have := ((hO429).lo hk472).base_le (h.trans e'); omega) (fun h => by have := ((((hb203).lo hk419).lo hk428).lo hk472).lt; omega)
                        refine SR.nil ⟨hS487, _, rfl, ?_⟩
                        refine AH.br [8] (by kernel_rfl) rfl ⟨Br.mk' rfl trivial ?_, trivial⟩
                        refine SR.app tel24 rfl rfl (hO483) (((hO473).kp hk482 (fun b_ hb e' => hd478 (hb ▸ e'))).rd) (fun _ => rfl) (by omega) (by omega) ?_
                        intro A491 c492 w493 hk494 hO495 hN496
                        have hz497 := hk494.size
                        have hB498 := hB486.step hk494 (fun i_ hi_ e' => by have := ((hO483)).base_le e'; first | omega | (exfalso; omega) | exact e' | exact .inl e' | exact .inr e')
                        have hS499 := (hS487).step hk494 (fun i_ hi_ e' => by have := ((hO483)).base_le e'; exfalso; omega)
                        have hd500 : ¬ A491 = some ⟨gc, 0, none⟩ := fun e' => (hN496 gc e').elim (fun h => hd488 (h.trans e')) (fun h => by have := (((((hb203).lo hk419).lo hk428).lo hk472).kp hk482 (fun e' => by have := (((hO429).lo hk472)).base_le e'; omega)).lt; omega)
                        refine SR.nil ⟨hS499, _, rfl, ?_⟩
                        refine AH.take 9 rfl (by kernel_rfl) trivial (hS499) (fun w' hw' => r_as (v := .slice _ _ _) rfl) <| AH.done (by kernel_rfl) ?_
                        exact ⟨g425, A479, c480, x422, g469, A491, c492, ⟨rfl, rfl, trivial⟩, hS499, ((hO495).down (by omega)), (fun b_ h h' => by have h1 := (hO495).base_le h; have h2 := (((hO45).kd hk199 hd47).lo hk419).base_le h'; omega), hx423, hq424⟩
                    · refine SR.lit (vs := [.agg (List.toArray (encVisit x422))]) (L := ([x422] : List Visit)) (enc := encVisit) tel24 (fun _ => rfl) rfl rfl rfl (by decide) ?_
                      intro g504 w505 hg506 hk507 hO508
                      have hz509 := hk507.size
                      have hB510 := hB421.lo hk507
                      have hS511 := (hk419).lo hk507
                      have hd512 : ¬ A37 = some ⟨g504, 0, none⟩ := fun e' => by have := (((hO45).kd hk199 hd47).lo hk419).base_le e'; omega
                      refine SR.nil ⟨hS511, _, rfl, ?_⟩
                      refine AH.br [0] (by kernel_rfl) rfl ⟨Br.mk' rfl trivial ?_, trivial⟩
                      refine SR.lit (vs := []) (L := ([] : List Visit)) (enc := encVisit) tel24 (fun _ => rfl) rfl rfl rfl (by decide) ?_
                      intro g513 w514 hg515 hk516 hO517
                      have hz518 := hk516.size
                      have hB519 := hB510.lo hk516
                      have hS520 := (hS511).lo hk516
                      have hd521 : ¬ A37 = some ⟨g513, 0, none⟩ := fun e' => by have := ((((hO45).kd hk199 hd47).lo hk419).lo hk507).base_le e'; omega
                      have hd522 : ¬ (some (⟨g504, 0, none⟩ : Addr)) = some ⟨g513, 0, none⟩ := fun e' => by have := (hO508).base_le e'; omega
                      refine SR.nil ⟨hS520, _, rfl, ?_⟩
                      refine AH.br [3] (by kernel_rfl) rfl ⟨Br.mk' rfl trivial ?_, trivial⟩
                      refine SR.app tel24 rfl rfl (hO517) ((((((hO45).kd hk199 hd47).rd.cutl (l := 1) (by omega)).lo hk419).lo hk507).lo hk516) (fun _ => rfl) (by omega) (by omega) ?_
                      intro A523 c524 w525 hk526 hO527 hN528
                      have hz529 := hk526.size
                      have hB530 := hB519.step hk526 (fun i_ hi_ e' => by have := ((hO517)).base_le e'; first | omega | (exfalso; omega) | exact e' | exact .inl e' | exact .inr e')
                      have hS531 := (hS520).step hk526 (fun i_ hi_ e' => by have := ((hO517)).base_le e'; exfalso; omega)
                      rw [List.nil_append] at hO527
                      have hd532 : ¬ A523 = some ⟨gc, 0, none⟩ := fun e' => (hN528 gc e').elim (fun h => by have := (hO517).base_le (h.trans e'); omega) (fun h => by have := ((((hb203).lo hk419).lo hk507).lo hk516).lt; omega)
                      refine SR.nil ⟨hS531, _, rfl, ?_⟩
                      refine AH.br [8] (by kernel_rfl) rfl ⟨Br.mk' rfl trivial ?_, trivial⟩
                      refine SR.app tel24 rfl rfl (hO527) ((((hO508).lo hk516).kp hk526 (fun b_ hb e' => by have h1 := ((hO517)).base_le e'; have h2 := ((hO508).lo hk516).base_le hb; have h3 := (hO508).base_le hb; omega)).rd) (fun _ => rfl) (by omega) (by omega) ?_
                      intro A535 c536 w537 hk538 hO539 hN540
                      have hz541 := hk538.size
                      have hB542 := hB530.step hk538 (fun i_ hi_ e' => by have := ((hO527)).base_le e'; first | omega | (exfalso; omega) | exact e' | exact .inl e' | exact .inr e')
                      have hS543 := (hS531).step hk538 (fun i_ hi_ e' => by have := ((hO527)).base_le e'; exfalso; omega)
                      have hd544 : ¬ A535 = some ⟨gc, 0, none⟩ := fun e' => (hN540 gc e').elim (fun h => hd532 (h.trans e')) (fun h => by have := (((((hb203).lo hk419).lo hk507).lo hk516).kp hk526 (fun e' => by have := ((hO517)).base_le e'; omega)).lt; omega)
                      refine SR.nil ⟨hS543, _, rfl, ?_⟩
                      refine AH.take 9 rfl (by kernel_rfl) trivial (hS543) (fun w' hw' => r_as (v := .slice _ _ _) rfl) <| AH.done (by kernel_rfl) ?_
                      exact ⟨g513, A523, c524, x422, g504, A535, c536, ⟨rfl, rfl, trivial⟩, hS543, ((hO539).down (by omega)), (fun b_ h h' => by have h1 := (hO539).base_le h; have h2 := ((((hO45).kd hk199 hd47).lo hk419).lo hk507).base_le h'; omega), hx423, hq424⟩
                  rintro f548 w549 ⟨g425, A434, c435, x422, g445, A455, c456, hat551, hR550, hm467, hd468, hx423, hq424⟩
                  rw [← sets_of_at hat551]
                  have hz552 := hR550.size
                  have hB553 := hB207.lo hR550
                  refine W.seq ?_
                  refine W.regS (SR.q' (r_mv (v := .slice _ _ _) rfl) <| SR.q' (r_as (v := .slice _ _ _) rfl) <| SR.nil ?_)
                  refine W.ret ?_
                  refine ret1 rfl (v := .slice _ _ _) rfl ?_
                  exact ⟨A455, (0 + (n37 - 1)) + 1, c456, ((R.drop 1) ++ ([x422] : List Visit)), t201, s202, eR rfl, ((hm467).down (by omega)), ((hb203).lo hR550), ⟨by omega, by omega⟩, (z_c___spec_l1Cur__visits_554 Lc tc sc nc htc hbdc hlec v18 t19 s20 ht22 hq23 hq26 v29 t30 s31 ht33 hq34 n m R t z n37 c37 hi46 hl49 hq51 hq52 h53 v200 t201 s202 ht204 hq205 h208 h255 h302 h359 h416 h417 x422 hx423 hq424), (z_c___spec_l1Cur__visits_555 Lc tc sc nc htc hbdc hlec v18 t19 s20 ht22 hq23 hq26 v29 t30 s31 ht33 hq34 n m R t z n37 c37 hi46 hl49 hq51 hq52 h53 v200 t201 s202 ht204 hq205 h208 h255 h302 h359 h416 h417 x422 hx423 hq424), hB553⟩
                · refine W.skip ?_
                  refine W.seq ?_
                  refine W.regS (SR.q' (r_mv (v := .slice _ _ _) rfl) <| SR.q' (r_as (v := .slice _ _ _) rfl) <| SR.nil ?_)
                  refine W.ret ?_
                  refine ret1 rfl (v := .slice _ _ _) rfl ?_
                  exact ⟨A37, n37, c37, R, t201, s202, eR rfl, (((hO45).kd hk199 hd47).down (by omega)), (hb203), ⟨by omega, by omega⟩, hq52, (z_c___spec_l1Cur__visits_556 Lc tc sc nc htc hbdc hlec v18 t19 s20 ht22 hq23 hq26 v29 t30 s31 ht33 hq34 n m R t z n37 c37 hi46 hl49 hq51 hq52 h53 v200 t201 s202 ht204 hq205 h208 h255 h302 h359 h416 h417), hB207⟩
              · refine W.seq ?_
                refine W.regS (SR.q' (r_eq rfl rfl) <| SR.q' (r_as (v := .bool _) rfl) <| SR.nil ?_)
                refine W.cond_d rfl (fun h557 => ?_) (fun h557 => ?_)
                · refine W.regS (SR.q' (r_build (vs := [(0, .int .i64 1), (1, .int .i64 1), (2, .int .i64 480), (3, .int .i64 1200)]) rfl (bld45_0_1_2_3 _ _ _ _)) <| SR.lit (vs := [.agg (List.toArray [.int .i64 1, .int .i64 1, .int .i64 480, .int .i64 1200])]) (L := ([(⟨1, 1, 480, 1200⟩ : Visit)] : List Visit)) (enc := encVisit) tel24 (fun _ => rfl) rfl rfl rfl (by decide) ?_)
                  intro g558 w559 hg560 hk561 hO562
                  have hz563 := hk561.size
                  have hB564 := hB207.lo hk561
                  have hd565 : ¬ A37 = some ⟨g558, 0, none⟩ := fun e' => by have := ((hO45).kd hk199 hd47).base_le e'; omega
                  refine SR.q' (r_as (v := .slice _ _ _) rfl) <| SR.nil ?_
                  refine W.seq ?_
                  refine W.regS (SR.q' (r_mv (v := .slice _ _ _) rfl) <| SR.q' (r_as (v := .slice _ _ _) rfl) <| SR.nil ?_)
                  refine W.ret ?_
                  refine ret1 rfl (v := .slice _ _ _) rfl ?_
                  exact ⟨(some (⟨g558, 0, none⟩ : Addr)), 1, 1, ([(⟨1, 1, 480, 1200⟩ : Visit)] : List Visit), t201, s202, eR rfl, ((hO562).down (by omega)), ((hb203).lo hk561), ⟨by omega, by omega⟩, (z_c___spec_l1Cur__visits_566 Lc tc sc nc htc hbdc hlec v18 t19 s20 ht22 hq23 hq26 v29 t30 s31 ht33 hq34 n m R t z n37 c37 hi46 hl49 hq51 hq52 h53 v200 t201 s202 ht204 hq205 h208 h255 h302 h359 h416 h557), (z_c___spec_l1Cur__visits_567 Lc tc sc nc htc hbdc hlec v18 t19 s20 ht22 hq23 hq26 v29 t30 s31 ht33 hq34 n m R t z n37 c37 hi46 hl49 hq51 hq52 h53 v200 t201 s202 ht204 hq205 h208 h255 h302 h359 h416 h557), hB564⟩
                · refine W.skip ?_
                  refine W.seq ?_
                  refine W.regS (SR.q' (r_mv (v := .slice _ _ _) rfl) <| SR.q' (r_as (v := .slice _ _ _) rfl) <| SR.nil ?_)
                  refine W.ret ?_
                  refine ret1 rfl (v := .slice _ _ _) rfl ?_
                  exact ⟨A37, n37, c37, R, t201, s202, eR rfl, (((hO45).kd hk199 hd47).down (by omega)), (hb203), ⟨by omega, by omega⟩, hq52, (z_c___spec_l1Cur__visits_568 Lc tc sc nc htc hbdc hlec v18 t19 s20 ht22 hq23 hq26 v29 t30 s31 ht33 hq34 n m R t z n37 c37 hi46 hl49 hq51 hq52 h53 v200 t201 s202 ht204 hq205 h208 h255 h302 h359 h416 h557), hB207⟩
end Go.Proofs.YthgbcadgnihdiaaGreatDoor
