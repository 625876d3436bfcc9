/- Walks, printed by a program of this claim's author. -/
import Derived.Test.YtnbbfokkpkphoaaGreatDoorChecked
import Derived.Test.YtnbbfokkpkphoaaGreatDoorLa
import Derived.Test.YtnbbfokkpkphoaaGreatDoorFo
import Derived.Test.YtnbbfokkpkphoaaGreatDoorFs
import Derived.Test.YtnbbfokkpkphoaaGreatDoorFq
import Derived.Test.YtnbbfokkpkphoaaGreatDoorFp
import Derived.Test.YtnbbfokkpkphoaaGreatDoorFu
import Derived.Test.YtnbbfokkpkphoaaGreatDoorFt
import Derived.Test.YtnbbfokkpkphoaaGreatDoorDa
import Derived.Test.YtnbbfokkpkphoaaGreatDoorVe
import Derived.Test.YtnbbfokkpkphoaaGreatDoorG31o
namespace Go.Proofs.YtnbbfokkpkphoaaGreatDoor
open Go Go.RowKit Fw
set_option maxRecDepth 10000
set_option linter.unusedVariables false
theorem bld25_0_1_2_3_4 (a0 : Int) (a1 : Int) (a2 : Int) (a3 : Int) (a4 : Int) : Tryz.prog.built 25 [(0, .int .i64 a0), (1, .int .i64 a1), (2, .int .i64 a2), (3, .int .i64 a3), (4, .int .i64 a4)] = some (List.toArray [.int .i64 a0, .int .i64 a1, .int .i64 a2, .int .i64 a3, .int .i64 a4]) := by kernel_rfl
theorem bld56_0 (a0 : Option Addr) (b0 c0 : Nat) : Tryz.prog.built 56 [(0, .slice a0 b0 c0)] = some (List.toArray [.slice a0 b0 c0, .int .i64 0, .int .u64 0]) := by kernel_rfl
theorem ent22 : Ent Tryz.prog 22 := ent_of Tryz.func22 (by decide +kernel) rfl
theorem ent32 : Ent Tryz.prog 32 := ent_of Tryz.func32 (by decide +kernel) rfl
theorem ent37 : Ent Tryz.prog 37 := ent_of Tryz.func37 (by decide +kernel) rfl
theorem ent46 : Ent Tryz.prog 46 := ent_of Tryz.func46 (by decide +kernel) rfl
theorem ent47 : Ent Tryz.prog 47 := ent_of Tryz.func47 (by decide +kernel) rfl
theorem ent54 : Ent Tryz.prog 54 := ent_of Tryz.func54 (by decide +kernel) rfl
theorem ent64 : Ent Tryz.prog 64 := ent_of Tryz.func64 (by decide +kernel) rfl
theorem fa56_0 : FA Tryz.prog 56 0 0 := fun _ _ => by kernel_rfl
theorem fa56_1 : FA Tryz.prog 56 1 1 := fun _ _ => by kernel_rfl
theorem fa56_2 : FA Tryz.prog 56 2 2 := fun _ _ => by kernel_rfl
theorem sca22 : TSca Tryz.prog 22 := ⟨fun _ => by kernel_rfl, fun _ => by kernel_rfl⟩
theorem sca5 : TSca Tryz.prog 5 := ⟨fun _ => by kernel_rfl, fun _ => by kernel_rfl⟩
theorem sca54 : TSca Tryz.prog 54 := ⟨fun _ => by kernel_rfl, fun _ => by kernel_rfl⟩
theorem tsl22 : TSl Tryz.prog 22 5 1 := ⟨by kernel_rfl, fun _ => by kernel_rfl⟩
theorem und22 : Tryz.prog.underlying 22 = some (.slice 5) := by kernel_rfl
theorem und54 : Tryz.prog.underlying 54 = some (.int .u64) := by kernel_rfl

theorem z_c___spec_l1Cur__next_30 (Lc : List UInt8) (tc : Int) (sc : Int) (nc : Nat) (htc : 0 ≤ tc ∧ tc + 1 ≤ 4611686018427387904) (hbdc : (nc : Int) ≤ 9223372036854775807) (hlec : nc = Lc.length) (h5 : tc < (nc : Int)) (x6 : UInt8) (hx7 : Lc[tc.toNat]? = some x6) (hq8 : (x6.toNat : Int) ≤ 255) (h29 : (tc + 1) ≤ (nc : Int)) : (0 : Int) ≤ (x6.toNat : Int) ∧ ((x6.toNat : Int) : Int) ≤ 255 := by
  omega
theorem z_c___spec_l1Cur__next_31 (Lc : List UInt8) (tc : Int) (sc : Int) (nc : Nat) (htc : 0 ≤ tc ∧ tc + 1 ≤ 4611686018427387904) (hbdc : (nc : Int) ≤ 9223372036854775807) (hlec : nc = Lc.length) (h5 : tc < (nc : Int)) (x6 : UInt8) (hx7 : Lc[tc.toNat]? = some x6) (hq8 : (x6.toNat : Int) ≤ 255) (h29 : ¬ ((tc + 1) ≤ (nc : Int))) : (0 : Int) ≤ (((IntKind.u64.wrap ((IntKind.u64.wrap ((IntKind.u64.wrap (sc * 6364136223846793005)) + (x6.toNat : Int))) + 604171)) / 1099511627776) % 256) ∧ ((((IntKind.u64.wrap ((IntKind.u64.wrap ((IntKind.u64.wrap (sc * 6364136223846793005)) + (x6.toNat : Int))) + 604171)) / 1099511627776) % 256) : Int) ≤ 255 := by
  omega
theorem z_c___spec_l1Cur__next_49 (Lc : List UInt8) (tc : Int) (sc : Int) (nc : Nat) (htc : 0 ≤ tc ∧ tc + 1 ≤ 4611686018427387904) (hbdc : (nc : Int) ≤ 9223372036854775807) (hlec : nc = Lc.length) (h5 : ¬ (tc < (nc : Int))) (h48 : (tc + 1) ≤ (nc : Int)) : (0 : Int) ≤ 0 ∧ (0 : Int) ≤ 255 := by
  omega
theorem z_c___spec_l1Cur__next_50 (Lc : List UInt8) (tc : Int) (sc : Int) (nc : Nat) (htc : 0 ≤ tc ∧ tc + 1 ≤ 4611686018427387904) (hbdc : (nc : Int) ≤ 9223372036854775807) (hlec : nc = Lc.length) (h5 : ¬ (tc < (nc : Int))) (h48 : ¬ ((tc + 1) ≤ (nc : Int))) : (0 : Int) ≤ (((IntKind.u64.wrap ((IntKind.u64.wrap ((IntKind.u64.wrap (sc * 6364136223846793005)) + 0)) + 604171)) / 1099511627776) % 256) ∧ ((((IntKind.u64.wrap ((IntKind.u64.wrap ((IntKind.u64.wrap (sc * 6364136223846793005)) + 0)) + 604171)) / 1099511627776) % 256) : Int) ≤ 255 := by
  omega
theorem c___spec_l1Cur__next (w : World) {gc ec : Nat} {Ac : Option Addr} {nc cc Bc : Nat} (Lc : List UInt8) (tc sc : Int) (hc : Blk w gc ec [.slice Ac nc cc, .int .i64 tc, .int .u64 sc]) (hLc : SlR w Bc encB 1 Ac nc cc Lc) (hgc : Bc ≤ gc) (htc : 0 ≤ tc ∧ tc + 1 ≤ 4611686018427387904) : Calls Tryz.prog 64 #[.pointer (some ⟨gc, 0, none⟩)] w fun e w' => ∃ (v : Int) (tc' sc' : Int), e = .returned (.int .i64 v) ∧ Blk w' gc ec [.slice Ac nc cc, .int .i64 tc', .int .u64 sc'] ∧ (tc ≤ tc' ∧ tc' ≤ tc + 1) ∧ ((0 : Int) ≤ v ∧ (v : Int) ≤ 255) ∧ Kp (fun b_ => b_ = gc) w w' := by
  refine calls_W 62 Tryz.func64 rfl rfl rfl ?_
  have hBlc := hc.lt
  have hbdc := hLc.bound
  have hlec := hLc.len
  have hBbc := hLc.bd
  refine W.seq ?_
  refine W.regS (SR.q' (r_as (v := .int .i64 0) rfl) <| SR.nil ?_)
  refine W.seq ?_
  refine W.regS (SR.q' (r_as (v := .int .i64 0) rfl) <| SR.nil ?_)
  refine W.seq ?_
  refine W.seq ?_
  refine W.regD mo (by kernel_rfl) (QR.q' (fun w' hw' => r_mv (v := .pointer (some _)) rfl) <| QR.q' (fun w' hw' => r_nilp rfl) <| QR.q' (fun w' hw' => r_fa fa56_1 rfl) <| QR.q' (fun w' hw' => r_ld (v := .int .i64 tc) sca3 rfl (((hc).lo hw').cell rfl)) <| QR.q' (fun w' hw' => r_mv (v := .pointer (some _)) rfl) <| QR.q' (fun w' hw' => r_nilp rfl) <| QR.q' (fun w' hw' => r_fa fa56_0 rfl) <| QR.q' (fun w' hw' => r_ld (v := .slice Ac nc cc) sca22 rfl (((hc).lo hw').cell rfl)) <| QR.q' (fun w' hw' => r_len und22 rfl) <| QR.q' (fun w' hw' => r_lt rfl rfl) <| QR.nil ?_)
  intro w1 hk2
  have hz3 := hk2.size
  have hB4 := (Kp.refl w : Kp (fun b_ => b_ = gc) w w).lo hk2
  refine W.cond_d rfl (fun h5 => ?_) (fun h5 => ?_)
  · refine W.regD mo (by kernel_rfl) (QR.q' (fun w' hw' => r_mv (v := .pointer (some _)) rfl) <| QR.q' (fun w' hw' => r_nilp rfl) <| QR.q' (fun w' hw' => r_fa fa56_0 rfl) <| QR.q' (fun w' hw' => r_ld (v := .slice Ac nc cc) sca22 rfl ((((hc).lo hk2).lo hw').cell rfl)) <| QR.q' (fun w' hw' => r_mv (v := .pointer (some _)) rfl) <| QR.q' (fun w' hw' => r_nilp rfl) <| QR.q' (fun w' hw' => r_fa fa56_1 rfl) <| QR.q' (fun w' hw' => r_ld (v := .int .i64 tc) sca3 rfl ((((hc).lo hk2).lo hw').cell rfl)) <| ?_)
    obtain ⟨x6, hx7⟩ := ((hLc).lo hk2).get (i := tc.toNat) (by omega)
    have hq8 := u8_le x6
    refine QR.q' (fun w' hw' => r_ixR tsl22 ((((hLc).lo hk2).lo hw')) rfl rfl (by omega)) <| QR.q' (fun w' hw' => r_ld (v := .int .u8 (x6.toNat : Int)) sca5 rfl (((((hLc).lo hk2).lo hw')).cell0 hx7 rfl)) <| QR.q' (fun w' hw' => r_convI und3 und5 rfl (by omega)) <| QR.q' (fun w' hw' => r_as (v := .int .i64 _) rfl) <| QR.nil ?_
    intro w9 hk10
    have hz11 := hk10.size
    have hB12 := hB4.lo hk10
    refine W.seq ?_
    refine W.regS (SR.q' (r_mv (v := .pointer (some _)) rfl) <| SR.q' (r_nilp rfl) <| SR.q' (r_fa fa56_1 rfl) <| SR.q' (r_ld (v := .int .i64 tc) sca3 rfl ((((hc).lo hk2).lo hk10).cell rfl)) <| SR.q' (r_add rfl rfl (by omega)) <| SR.q' (r_nilp rfl) <| SR.q' (r_fa fa56_1 rfl) <| SR.store (o := 1) (vs := [.int .i64 (tc + 1)]) sca3.2 rfl rfl rfl rfl (((hc).lo hk2).lo hk10) (Nat.le_of_ble_eq_true rfl) rfl ?_)
    intro w13 hk14 hs15 hb16
    have hz17 := hk14.size
    have hB18 := hB12.step hk14 (fun i_ hi_ e' => e')
    refine SR.nil ?_
    refine W.seq ?_
    refine W.regS (SR.q' (r_mv (v := .pointer (some _)) rfl) <| SR.q' (r_mv (v := .pointer (some _)) rfl) <| SR.q' (r_nilp rfl) <| SR.q' (r_fa fa56_2 rfl) <| SR.q' (r_ld (v := .int .u64 sc) sca54 rfl ((hb16).cell rfl)) <| SR.q' (r_mulW rfl rfl) <| SR.q' (r_mv (v := .int .i64 _) rfl) <| SR.q' (r_convU und54 und3 rfl (by omega)) <| SR.q' (r_addW rfl rfl) <| SR.q' (r_addW rfl rfl) <| SR.q' (r_nilp rfl) <| SR.q' (r_fa fa56_2 rfl) <| SR.store (o := 2) (vs := [.int .u64 (IntKind.u64.wrap ((IntKind.u64.wrap ((IntKind.u64.wrap (sc * 6364136223846793005)) + (x6.toNat : Int))) + 604171))]) sca54.2 rfl rfl rfl rfl (hb16) (Nat.le_of_ble_eq_true rfl) rfl ?_)
    intro w19 hk20 hs21 hb22
    have hz23 := hk20.size
    have hB24 := hB18.step hk20 (fun i_ hi_ e' => e')
    refine SR.nil ?_
    refine W.seq ?_
    refine W.seq ?_
    refine W.regD mo (by kernel_rfl) (QR.q' (fun w' hw' => r_mv (v := .pointer (some _)) rfl) <| QR.q' (fun w' hw' => r_nilp rfl) <| QR.q' (fun w' hw' => r_fa fa56_1 rfl) <| QR.q' (fun w' hw' => r_ld (v := .int .i64 (tc + 1)) sca3 rfl (((hb22).lo hw').cell rfl)) <| QR.q' (fun w' hw' => r_mv (v := .pointer (some _)) rfl) <| QR.q' (fun w' hw' => r_nilp rfl) <| QR.q' (fun w' hw' => r_fa fa56_0 rfl) <| QR.q' (fun w' hw' => r_ld (v := .slice Ac nc cc) sca22 rfl (((hb22).lo hw').cell rfl)) <| QR.q' (fun w' hw' => r_len und22 rfl) <| QR.q' (fun w' hw' => r_le rfl rfl) <| QR.nil ?_)
    intro w25 hk26
    have hz27 := hk26.size
    have hB28 := hB24.lo hk26
    refine W.cond_d rfl (fun h29 => ?_) (fun h29 => ?_)
    · refine W.seq ?_
      refine W.regS (SR.q' (r_mv (v := .int .i64 _) rfl) <| SR.q' (r_as (v := .int .i64 _) rfl) <| SR.nil ?_)
      refine W.ret ?_
      refine ret1 rfl (v := .int .i64 _) rfl ?_
      exact ⟨(x6.toNat : Int), (tc + 1), (IntKind.u64.wrap ((IntKind.u64.wrap ((IntKind.u64.wrap (sc * 6364136223846793005)) + (x6.toNat : Int))) + 604171)), eR rfl, ((hb22).lo hk26), ⟨by omega, by omega⟩, (z_c___spec_l1Cur__next_30 Lc tc sc nc htc hbdc hlec h5 x6 hx7 hq8 h29), hB28⟩
    · refine W.skip ?_
      refine W.seq ?_
      refine W.regS (SR.q' (r_mv (v := .pointer (some _)) rfl) <| SR.q' (r_nilp rfl) <| SR.q' (r_fa fa56_2 rfl) <| SR.q' (r_ld (v := .int .u64 (IntKind.u64.wrap ((IntKind.u64.wrap ((IntKind.u64.wrap (sc * 6364136223846793005)) + (x6.toNat : Int))) + 604171))) sca54 rfl (((hb22).lo hk26).cell rfl)) <| SR.q' (r_shr40 rfl rfl (by simp only [IntKind.wrap_u64]; omega)) <| SR.q' (r_and255 rfl rfl (by simp only [IntKind.wrap_u64]; omega)) <| SR.q' (r_convI und3 und54 rfl (by omega)) <| SR.q' (r_as (v := .int .i64 _) rfl) <| SR.nil ?_)
      refine W.ret ?_
      refine ret1 rfl (v := .int .i64 _) rfl ?_
      exact ⟨(((IntKind.u64.wrap ((IntKind.u64.wrap ((IntKind.u64.wrap (sc * 6364136223846793005)) + (x6.toNat : Int))) + 604171)) / 1099511627776) % 256), (tc + 1), (IntKind.u64.wrap ((IntKind.u64.wrap ((IntKind.u64.wrap (sc * 6364136223846793005)) + (x6.toNat : Int))) + 604171)), eR rfl, ((hb22).lo hk26), ⟨by omega, by omega⟩, (z_c___spec_l1Cur__next_31 Lc tc sc nc htc hbdc hlec h5 x6 hx7 hq8 h29), hB28⟩
  · refine W.skip ?_
    refine W.seq ?_
    refine W.regS (SR.q' (r_mv (v := .pointer (some _)) rfl) <| SR.q' (r_nilp rfl) <| SR.q' (r_fa fa56_1 rfl) <| SR.q' (r_ld (v := .int .i64 tc) sca3 rfl (((hc).lo hk2).cell rfl)) <| SR.q' (r_add rfl rfl (by omega)) <| SR.q' (r_nilp rfl) <| SR.q' (r_fa fa56_1 rfl) <| SR.store (o := 1) (vs := [.int .i64 (tc + 1)]) sca3.2 rfl rfl rfl rfl ((hc).lo hk2) (Nat.le_of_ble_eq_true rfl) rfl ?_)
    intro w32 hk33 hs34 hb35
    have hz36 := hk33.size
    have hB37 := hB4.step hk33 (fun i_ hi_ e' => e')
    refine SR.nil ?_
    refine W.seq ?_
    refine W.regS (SR.q' (r_mv (v := .pointer (some _)) rfl) <| SR.q' (r_mv (v := .pointer (some _)) rfl) <| SR.q' (r_nilp rfl) <| SR.q' (r_fa fa56_2 rfl) <| SR.q' (r_ld (v := .int .u64 sc) sca54 rfl ((hb35).cell rfl)) <| SR.q' (r_mulW rfl rfl) <| SR.q' (r_mv (v := .int .i64 _) rfl) <| SR.q' (r_convU und54 und3 rfl (by omega)) <| SR.q' (r_addW rfl rfl) <| SR.q' (r_addW rfl rfl) <| SR.q' (r_nilp rfl) <| SR.q' (r_fa fa56_2 rfl) <| SR.store (o := 2) (vs := [.int .u64 (IntKind.u64.wrap ((IntKind.u64.wrap ((IntKind.u64.wrap (sc * 6364136223846793005)) + 0)) + 604171))]) sca54.2 rfl rfl rfl rfl (hb35) (Nat.le_of_ble_eq_true rfl) rfl ?_)
    intro w38 hk39 hs40 hb41
    have hz42 := hk39.size
    have hB43 := hB37.step hk39 (fun i_ hi_ e' => e')
    refine SR.nil ?_
    refine W.seq ?_
    refine W.seq ?_
    refine W.regD mo (by kernel_rfl) (QR.q' (fun w' hw' => r_mv (v := .pointer (some _)) rfl) <| QR.q' (fun w' hw' => r_nilp rfl) <| QR.q' (fun w' hw' => r_fa fa56_1 rfl) <| QR.q' (fun w' hw' => r_ld (v := .int .i64 (tc + 1)) sca3 rfl (((hb41).lo hw').cell rfl)) <| QR.q' (fun w' hw' => r_mv (v := .pointer (some _)) rfl) <| QR.q' (fun w' hw' => r_nilp rfl) <| QR.q' (fun w' hw' => r_fa fa56_0 rfl) <| QR.q' (fun w' hw' => r_ld (v := .slice Ac nc cc) sca22 rfl (((hb41).lo hw').cell rfl)) <| QR.q' (fun w' hw' => r_len und22 rfl) <| QR.q' (fun w' hw' => r_le rfl rfl) <| QR.nil ?_)
    intro w44 hk45
    have hz46 := hk45.size
    have hB47 := hB43.lo hk45
    refine W.cond_d rfl (fun h48 => ?_) (fun h48 => ?_)
    · refine W.seq ?_
      refine W.regS (SR.q' (r_mv (v := .int .i64 _) rfl) <| SR.q' (r_as (v := .int .i64 _) rfl) <| SR.nil ?_)
      refine W.ret ?_
      refine ret1 rfl (v := .int .i64 _) rfl ?_
      exact ⟨0, (tc + 1), (IntKind.u64.wrap ((IntKind.u64.wrap ((IntKind.u64.wrap (sc * 6364136223846793005)) + 0)) + 604171)), eR rfl, ((hb41).lo hk45), ⟨by omega, by omega⟩, (z_c___spec_l1Cur__next_49 Lc tc sc nc htc hbdc hlec h5 h48), hB47⟩
    · refine W.skip ?_
      refine W.seq ?_
      refine W.regS (SR.q' (r_mv (v := .pointer (some _)) rfl) <| SR.q' (r_nilp rfl) <| SR.q' (r_fa fa56_2 rfl) <| SR.q' (r_ld (v := .int .u64 (IntKind.u64.wrap ((IntKind.u64.wrap ((IntKind.u64.wrap (sc * 6364136223846793005)) + 0)) + 604171))) sca54 rfl (((hb41).lo hk45).cell rfl)) <| SR.q' (r_shr40 rfl rfl (by simp only [IntKind.wrap_u64]; omega)) <| SR.q' (r_and255 rfl rfl (by simp only [IntKind.wrap_u64]; omega)) <| SR.q' (r_convI und3 und54 rfl (by omega)) <| SR.q' (r_as (v := .int .i64 _) rfl) <| SR.nil ?_)
      refine W.ret ?_
      refine ret1 rfl (v := .int .i64 _) rfl ?_
      exact ⟨(((IntKind.u64.wrap ((IntKind.u64.wrap ((IntKind.u64.wrap (sc * 6364136223846793005)) + 0)) + 604171)) / 1099511627776) % 256), (tc + 1), (IntKind.u64.wrap ((IntKind.u64.wrap ((IntKind.u64.wrap (sc * 6364136223846793005)) + 0)) + 604171)), eR rfl, ((hb41).lo hk45), ⟨by omega, by omega⟩, (z_c___spec_l1Cur__next_50 Lc tc sc nc htc hbdc hlec h5 h48), hB47⟩

theorem z_c___spec_l1Cur__pick_2 (Lc : List UInt8) (tc : Int) (sc : Int) (nc : Nat) (htc : 0 ≤ tc ∧ tc + 2 ≤ 4611686018427387904) (hbdc : (nc : Int) ≤ 9223372036854775807) (hlec : nc = Lc.length) (n : Int) (hp0 : n ≤ 4611686018427387904) (h1 : n ≤ 1) : (0 : Int) ≤ 0 ∧ ((0 : Int) < n ∨ (0 : Int) = 0) := by
  first | omega | exact ⟨Int.emod_nonneg _ (by omega), .inl (Int.emod_lt_of_pos _ (by omega))⟩
theorem z_c___spec_l1Cur__pick_24 (Lc : List UInt8) (tc : Int) (sc : Int) (nc : Nat) (htc : 0 ≤ tc ∧ tc + 2 ≤ 4611686018427387904) (hbdc : (nc : Int) ≤ 9223372036854775807) (hlec : nc = Lc.length) (n : Int) (hp0 : n ≤ 4611686018427387904) (h1 : ¬ (n ≤ 1)) (v5 : Int) (t6 : Int) (s7 : Int) (ht9 : tc ≤ t6 ∧ t6 ≤ tc + 1) (hq10 : (0 : Int) ≤ v5 ∧ (v5 : Int) ≤ 255) (h13 : 200 < n) (v16 : Int) (t17 : Int) (s18 : Int) (ht20 : t6 ≤ t17 ∧ t17 ≤ t6 + 1) (hq21 : (0 : Int) ≤ v16 ∧ (v16 : Int) ≤ 255) : (0 : Int) ≤ (((v5 * 256) + v16) % n) ∧ (((((v5 * 256) + v16) % n) : Int) < n ∨ ((((v5 * 256) + v16) % n) : Int) = 0) := by
  first | omega | exact ⟨Int.emod_nonneg _ (by omega), .inl (Int.emod_lt_of_pos _ (by omega))⟩
theorem z_c___spec_l1Cur__pick_25 (Lc : List UInt8) (tc : Int) (sc : Int) (nc : Nat) (htc : 0 ≤ tc ∧ tc + 2 ≤ 4611686018427387904) (hbdc : (nc : Int) ≤ 9223372036854775807) (hlec : nc = Lc.length) (n : Int) (hp0 : n ≤ 4611686018427387904) (h1 : ¬ (n ≤ 1)) (v5 : Int) (t6 : Int) (s7 : Int) (ht9 : tc ≤ t6 ∧ t6 ≤ tc + 1) (hq10 : (0 : Int) ≤ v5 ∧ (v5 : Int) ≤ 255) (h13 : ¬ (200 < n)) : (0 : Int) ≤ (v5 % n) ∧ (((v5 % n) : Int) < n ∨ ((v5 % n) : Int) = 0) := by
  first | omega | exact ⟨Int.emod_nonneg _ (by omega), .inl (Int.emod_lt_of_pos _ (by omega))⟩
theorem c___spec_l1Cur__pick (w : World) {gc ec : Nat} {Ac : Option Addr} {nc cc Bc : Nat} (Lc : List UInt8) (tc sc : Int) (hc : Blk w gc ec [.slice Ac nc cc, .int .i64 tc, .int .u64 sc]) (hLc : SlR w Bc encB 1 Ac nc cc Lc) (hgc : Bc ≤ gc) (htc : 0 ≤ tc ∧ tc + 2 ≤ 4611686018427387904) (n : Int) (hp0 : n ≤ 4611686018427387904) : Calls Tryz.prog 54 #[.pointer (some ⟨gc, 0, none⟩), .int .i64 n] w fun e w' => ∃ (v : Int) (tc' sc' : Int), e = .returned (.int .i64 v) ∧ Blk w' gc ec [.slice Ac nc cc, .int .i64 tc', .int .u64 sc'] ∧ (tc ≤ tc' ∧ tc' ≤ tc + 2) ∧ ((0 : Int) ≤ v ∧ ((v : Int) < n ∨ (v : Int) = 0)) ∧ Kp (fun b_ => b_ = gc) w w' := by
  refine calls_W 20 Tryz.func54 rfl rfl rfl ?_
  have hBlc := hc.lt
  have hbdc := hLc.bound
  have hlec := hLc.len
  have hBbc := hLc.bd
  refine W.seq ?_
  refine W.regS (SR.q' (r_as (v := .int .i64 0) rfl) <| SR.nil ?_)
  refine W.seq ?_
  refine W.seq ?_
  refine W.regS (SR.q' (r_mv (v := .int .i64 _) rfl) <| SR.q' (r_le rfl rfl) <| SR.nil ?_)
  refine W.cond_d rfl (fun h1 => ?_) (fun h1 => ?_)
  · refine W.seq ?_
    refine W.regS (SR.q' (r_as (v := .int .i64 0) rfl) <| SR.nil ?_)
    refine W.ret ?_
    refine ret1 rfl (v := .int .i64 _) rfl ?_
    exact ⟨0, tc, sc, eR rfl, (hc), ⟨by omega, by omega⟩, (z_c___spec_l1Cur__pick_2 Lc tc sc nc htc hbdc hlec n hp0 h1), (Kp.refl w : Kp (fun b_ => b_ = gc) w w)⟩
  · refine W.skip ?_
    refine W.seq ?_
    refine W.regS (SR.q' (r_mv (v := .pointer (some _)) rfl) <| SR.call ent64 (c___spec_l1Cur__next w Lc tc sc (hc) ((hLc)) (by omega) (by omega)) rfl ?_)
    rintro e w3 ⟨v5, t6, s7, rfl, hb8, ht9, hq10, hk4⟩
    refine ⟨_, rfl, ?_⟩
    have hz11 := hk4.size
    have hB12 := (Kp.refl w : Kp (fun b_ => b_ = gc) w w).step hk4 (fun i_ hi_ e' => e')
    refine SR.q' (r_as (v := .int .i64 _) rfl) <| SR.nil ?_
    refine W.seq ?_
    refine W.seq ?_
    refine W.regS (SR.q' (r_mv (v := .int .i64 _) rfl) <| SR.q' (r_gt rfl rfl) <| SR.nil ?_)
    refine W.cond_d rfl (fun h13 => ?_) (fun h13 => ?_)
    · refine W.regS (SR.q' (r_mv (v := .int .i64 _) rfl) <| SR.q' (r_mul rfl rfl (by omega)) <| SR.q' (r_mv (v := .pointer (some _)) rfl) <| SR.call ent64 (c___spec_l1Cur__next w3 Lc t6 s7 (hb8) (((hLc).kn hk4 (by omega))) (by omega) (by omega)) rfl ?_)
      rintro e w14 ⟨v16, t17, s18, rfl, hb19, ht20, hq21, hk15⟩
      refine ⟨_, rfl, ?_⟩
      have hz22 := hk15.size
      have hB23 := hB12.step hk15 (fun i_ hi_ e' => e')
      refine SR.q' (r_add rfl rfl (by omega)) <| SR.q' (r_as (v := .int .i64 _) rfl) <| SR.nil ?_
      refine W.seq ?_
      refine W.regS (SR.q' (r_mv (v := .int .i64 _) rfl) <| SR.q' (r_mv (v := .int .i64 _) rfl) <| SR.q' (r_rem rfl rfl (by omega)) <| SR.q' (r_as (v := .int .i64 _) rfl) <| SR.nil ?_)
      refine W.ret ?_
      refine ret1 rfl (v := .int .i64 _) rfl ?_
      exact ⟨(((v5 * 256) + v16) % n), t17, s18, eR rfl, (hb19), ⟨by omega, by omega⟩, (z_c___spec_l1Cur__pick_24 Lc tc sc nc htc hbdc hlec n hp0 h1 v5 t6 s7 ht9 hq10 h13 v16 t17 s18 ht20 hq21), hB23⟩
    · refine W.skip ?_
      refine W.seq ?_
      refine W.regS (SR.q' (r_mv (v := .int .i64 _) rfl) <| SR.q' (r_mv (v := .int .i64 _) rfl) <| SR.q' (r_rem rfl rfl (by omega)) <| SR.q' (r_as (v := .int .i64 _) rfl) <| SR.nil ?_)
      refine W.ret ?_
      refine ret1 rfl (v := .int .i64 _) rfl ?_
      exact ⟨(v5 % n), t6, s7, eR rfl, (hb8), ⟨by omega, by omega⟩, (z_c___spec_l1Cur__pick_25 Lc tc sc nc htc hbdc hlec n hp0 h1 v5 t6 s7 ht9 hq10 h13), hB12⟩

theorem z_c___spec_l1Cur__one_11 (Lc : List UInt8) (tc : Int) (sc : Int) (nc : Nat) (htc : 0 ≤ tc ∧ tc + 2 ≤ 4611686018427387904) (hbdc : (nc : Int) ≤ 9223372036854775807) (hlec : nc = Lc.length) (n : Int) (hp0 : n ≤ 4611686018427387904) (v3 : Int) (t4 : Int) (s5 : Int) (ht7 : tc ≤ t4 ∧ t4 ≤ tc + 2) (hq8 : (0 : Int) ≤ v3 ∧ ((v3 : Int) < n ∨ (v3 : Int) = 0)) : decide (v3 = 0) = decide (v3 = 0) := by
  first | rfl | omega | grind
theorem c___spec_l1Cur__one (w : World) {gc ec : Nat} {Ac : Option Addr} {nc cc Bc : Nat} (Lc : List UInt8) (tc sc : Int) (hc : Blk w gc ec [.slice Ac nc cc, .int .i64 tc, .int .u64 sc]) (hLc : SlR w Bc encB 1 Ac nc cc Lc) (hgc : Bc ≤ gc) (htc : 0 ≤ tc ∧ tc + 2 ≤ 4611686018427387904) (n : Int) (hp0 : n ≤ 4611686018427387904) : Calls Tryz.prog 32 #[.pointer (some ⟨gc, 0, none⟩), .int .i64 n] w fun e w' => ∃ (v : Bool) (tc' sc' : Int), e = .returned (.bool v) ∧ Blk w' gc ec [.slice Ac nc cc, .int .i64 tc', .int .u64 sc'] ∧ (tc ≤ tc' ∧ tc' ≤ tc + 2) ∧ Kp (fun b_ => b_ = gc) w w' := by
  refine calls_W 9 Tryz.func32 rfl rfl rfl ?_
  have hBlc := hc.lt
  have hbdc := hLc.bound
  have hlec := hLc.len
  have hBbc := hLc.bd
  refine W.seq ?_
  refine W.regS (SR.q' (r_as (v := .bool false) rfl) <| SR.nil ?_)
  refine W.seq ?_
  refine W.regS (SR.q' (r_mv (v := .pointer (some _)) rfl) <| SR.q' (r_mv (v := .int .i64 _) rfl) <| SR.call ent54 (c___spec_l1Cur__pick w Lc tc sc (hc) ((hLc)) (by omega) (by omega) n (by first | omega | (simp only [List.length_append, List.length_cons, List.length_nil, List.length_take, List.length_drop]; omega))) rfl ?_)
  rintro e w1 ⟨v3, t4, s5, rfl, hb6, ht7, hq8, hk2⟩
  refine ⟨_, rfl, ?_⟩
  have hz9 := hk2.size
  have hB10 := (Kp.refl w : Kp (fun b_ => b_ = gc) w w).step hk2 (fun i_ hi_ e' => e')
  refine SR.q' (r_eq rfl rfl) <| SR.q' (r_as (v := .bool _) rfl) <| SR.nil ?_
  refine W.ret ?_
  refine ret1 rfl (v := .bool _) rfl ?_
  exact ⟨(decide (v3 = 0)), t4, s5, eR (eB (z_c___spec_l1Cur__one_11 Lc tc sc nc htc hbdc hlec n hp0 v3 t4 s5 ht7 hq8)), (hb6), ⟨by omega, by omega⟩, hB10⟩

theorem z_c___spec_l1Cur__among_13 (Lc : List UInt8) (tc : Int) (sc : Int) (nc : Nat) (htc : 0 ≤ tc ∧ tc + 2 ≤ 4611686018427387904) (hbdc : (nc : Int) ≤ 9223372036854775807) (hlec : nc = Lc.length) (L : List Int) (nL : Nat) (hbdL : (nL : Int) ≤ 9223372036854775807) (hleL : nL = L.length) (hp0 : 0 < nL) (hp1 : (nL : Int) ≤ 1048576) (v3 : Int) (t4 : Int) (s5 : Int) (ht7 : tc ≤ t4 ∧ t4 ≤ tc + 2) (hq8 : (0 : Int) ≤ v3 ∧ ((v3 : Int) < (nL : Int) ∨ (v3 : Int) = 0)) (x11 : Int) (hx12 : L[v3.toNat]? = some x11) : x11 ∈ L := by
  exact List.mem_of_getElem? ‹L[_]? = some _›
theorem c___spec_l1Cur__among (w : World) {gc ec : Nat} {Ac : Option Addr} {nc cc Bc : Nat} (Lc : List UInt8) (tc sc : Int) (hc : Blk w gc ec [.slice Ac nc cc, .int .i64 tc, .int .u64 sc]) (hLc : SlR w Bc encB 1 Ac nc cc Lc) (hgc : Bc ≤ gc) (htc : 0 ≤ tc ∧ tc + 2 ≤ 4611686018427387904) {AL : Option Addr} {nL cL BL : Nat}  (L : List Int) (hL : SlR w BL encI 1 AL nL cL L) (hp0 : 0 < nL) (hp1 : (nL : Int) ≤ 1048576) (hp2 : ¬ (adr AL).block = gc) : Calls Tryz.prog 47 #[.pointer (some ⟨gc, 0, none⟩), .slice AL nL cL] w fun e w' => ∃ (v : Int) (tc' sc' : Int), e = .returned (.int .i64 v) ∧ Blk w' gc ec [.slice Ac nc cc, .int .i64 tc', .int .u64 sc'] ∧ (tc ≤ tc' ∧ tc' ≤ tc + 2) ∧ (v ∈ L) ∧ Kp (fun b_ => b_ = gc) w w' := by
  refine calls_W 12 Tryz.func47 rfl rfl rfl ?_
  have hBlc := hc.lt
  have hbdc := hLc.bound
  have hlec := hLc.len
  have hBbc := hLc.bd
  have hbdL := hL.bound
  have hleL := hL.len
  have hBbL := hL.bd
  refine W.seq ?_
  refine W.regS (SR.q' (r_as (v := .int .i64 0) rfl) <| SR.nil ?_)
  refine W.seq ?_
  refine W.regS (SR.q' (r_mv (v := .slice _ _ _) rfl) <| SR.q' (r_mv (v := .pointer (some _)) rfl) <| SR.q' (r_mv (v := .slice _ _ _) rfl) <| SR.q' (r_len und39 rfl) <| SR.call ent54 (c___spec_l1Cur__pick w Lc tc sc (hc) ((hLc)) (by omega) (by omega) (nL : Int) (by first | omega | (simp only [List.length_append, List.length_cons, List.length_nil, List.length_take, List.length_drop]; omega))) rfl ?_)
  rintro e w1 ⟨v3, t4, s5, rfl, hb6, ht7, hq8, hk2⟩
  refine ⟨_, rfl, ?_⟩
  have hz9 := hk2.size
  have hB10 := (Kp.refl w : Kp (fun b_ => b_ = gc) w w).step hk2 (fun i_ hi_ e' => e')
  obtain ⟨x11, hx12⟩ := ((hL).kpb hk2 (fun hn_ e' => hp2 e')).get (i := v3.toNat) (by omega)
  refine SR.q' (r_ixR tsl39 ((hL).kpb hk2 (fun hn_ e' => hp2 e')) rfl rfl (by omega)) <| SR.q' (r_ld (v := .int .i64 x11) sca3 rfl (((hL).kpb hk2 (fun hn_ e' => hp2 e')).cell0 hx12 rfl)) <| SR.q' (r_as (v := .int .i64 _) rfl) <| SR.nil ?_
  refine W.ret ?_
  refine ret1 rfl (v := .int .i64 _) rfl ?_
  exact ⟨x11, t4, s5, eR rfl, (hb6), ⟨by omega, by omega⟩, (z_c___spec_l1Cur__among_13 Lc tc sc nc htc hbdc hlec L nL hbdL hleL hp0 hp1 v3 t4 s5 ht7 hq8 x11 hx12), hB10⟩

theorem z_c___spec_l1Cur__spoilt_2 (Lc : List UInt8) (tc : Int) (sc : Int) (nc : Nat) (htc : 0 ≤ tc ∧ tc + 6 ≤ 4611686018427387904) (hbdc : (nc : Int) ≤ 9223372036854775807) (hlec : nc = Lc.length) (s : List UInt8) (r : List UInt8) (hp0 : (s.length : Int) ≤ 1048576) (hp1 : 0 < r.length ∧ (r.length : Int) ≤ 1048576) (h1 : s = ([] : List UInt8)) : (r.take 1).length ≤ s.length + 1 := by
  simp only [List.length_append, List.length_take, List.length_drop]; omega
theorem z_c___spec_l1Cur__spoilt_39 (Lc : List UInt8) (tc : Int) (sc : Int) (nc : Nat) (htc : 0 ≤ tc ∧ tc + 6 ≤ 4611686018427387904) (hbdc : (nc : Int) ≤ 9223372036854775807) (hlec : nc = Lc.length) (s : List UInt8) (r : List UInt8) (hp0 : (s.length : Int) ≤ 1048576) (hp1 : 0 < r.length ∧ (r.length : Int) ≤ 1048576) (h1 : ¬ (s = ([] : List UInt8))) (hq3 : 0 < s.length) (v6 : Int) (t7 : Int) (s8 : Int) (ht10 : tc ≤ t7 ∧ t7 ≤ tc + 2) (hq11 : (0 : Int) ≤ v6 ∧ ((v6 : Int) < (s.length : Int) ∨ (v6 : Int) = 0)) (v16 : Int) (t17 : Int) (s18 : Int) (ht20 : t7 ≤ t17 ∧ t17 ≤ t7 + 2) (hq21 : (0 : Int) ≤ v16 ∧ ((v16 : Int) < (r.length : Int) ∨ (v16 : Int) = 0)) (v26 : Int) (t27 : Int) (s28 : Int) (ht30 : t17 ≤ t27 ∧ t27 ≤ t17 + 2) (hq31 : (0 : Int) ≤ v26 ∧ ((v26 : Int) < 3 ∨ (v26 : Int) = 0)) (h34 : v26 = 0) : (((s.take v6.toNat) ++ ((r.drop v16.toNat).take 1)) ++ (s.drop v6.toNat)).length ≤ s.length + 1 := by
  simp only [List.length_append, List.length_take, List.length_drop]; omega
theorem z_c___spec_l1Cur__spoilt_45 (Lc : List UInt8) (tc : Int) (sc : Int) (nc : Nat) (htc : 0 ≤ tc ∧ tc + 6 ≤ 4611686018427387904) (hbdc : (nc : Int) ≤ 9223372036854775807) (hlec : nc = Lc.length) (s : List UInt8) (r : List UInt8) (hp0 : (s.length : Int) ≤ 1048576) (hp1 : 0 < r.length ∧ (r.length : Int) ≤ 1048576) (h1 : ¬ (s = ([] : List UInt8))) (hq3 : 0 < s.length) (v6 : Int) (t7 : Int) (s8 : Int) (ht10 : tc ≤ t7 ∧ t7 ≤ tc + 2) (hq11 : (0 : Int) ≤ v6 ∧ ((v6 : Int) < (s.length : Int) ∨ (v6 : Int) = 0)) (v16 : Int) (t17 : Int) (s18 : Int) (ht20 : t7 ≤ t17 ∧ t17 ≤ t7 + 2) (hq21 : (0 : Int) ≤ v16 ∧ ((v16 : Int) < (r.length : Int) ∨ (v16 : Int) = 0)) (v26 : Int) (t27 : Int) (s28 : Int) (ht30 : t17 ≤ t27 ∧ t27 ≤ t17 + 2) (hq31 : (0 : Int) ≤ v26 ∧ ((v26 : Int) < 3 ∨ (v26 : Int) = 0)) (h34 : ¬ (v26 = 0)) (h40 : v26 = 1) : (((s.take v6.toNat) ++ ((r.drop v16.toNat).take 1)) ++ (s.drop ((v6 + 1).toNat))).length ≤ s.length + 1 := by
  simp only [List.length_append, List.length_take, List.length_drop]; omega
theorem z_c___spec_l1Cur__spoilt_50 (Lc : List UInt8) (tc : Int) (sc : Int) (nc : Nat) (htc : 0 ≤ tc ∧ tc + 6 ≤ 4611686018427387904) (hbdc : (nc : Int) ≤ 9223372036854775807) (hlec : nc = Lc.length) (s : List UInt8) (r : List UInt8) (hp0 : (s.length : Int) ≤ 1048576) (hp1 : 0 < r.length ∧ (r.length : Int) ≤ 1048576) (h1 : ¬ (s = ([] : List UInt8))) (hq3 : 0 < s.length) (v6 : Int) (t7 : Int) (s8 : Int) (ht10 : tc ≤ t7 ∧ t7 ≤ tc + 2) (hq11 : (0 : Int) ≤ v6 ∧ ((v6 : Int) < (s.length : Int) ∨ (v6 : Int) = 0)) (v16 : Int) (t17 : Int) (s18 : Int) (ht20 : t7 ≤ t17 ∧ t17 ≤ t7 + 2) (hq21 : (0 : Int) ≤ v16 ∧ ((v16 : Int) < (r.length : Int) ∨ (v16 : Int) = 0)) (v26 : Int) (t27 : Int) (s28 : Int) (ht30 : t17 ≤ t27 ∧ t27 ≤ t17 + 2) (hq31 : (0 : Int) ≤ v26 ∧ ((v26 : Int) < 3 ∨ (v26 : Int) = 0)) (h34 : ¬ (v26 = 0)) (h40 : ¬ (v26 = 1)) : ((s.take v6.toNat) ++ (s.drop ((v6 + 1).toNat))).length ≤ s.length + 1 := by
  simp only [List.length_append, List.length_take, List.length_drop]; omega
theorem c___spec_l1Cur__spoilt (w : World) {gc ec : Nat} {Ac : Option Addr} {nc cc Bc : Nat} (Lc : List UInt8) (tc sc : Int) (hc : Blk w gc ec [.slice Ac nc cc, .int .i64 tc, .int .u64 sc]) (hLc : SlR w Bc encB 1 Ac nc cc Lc) (hgc : Bc ≤ gc) (htc : 0 ≤ tc ∧ tc + 6 ≤ 4611686018427387904) (s : List UInt8) (r : List UInt8) (hp0 : (s.length : Int) ≤ 1048576) (hp1 : 0 < r.length ∧ (r.length : Int) ≤ 1048576) : Calls Tryz.prog 33 #[.pointer (some ⟨gc, 0, none⟩), str s, str r] w fun e w' => ∃ (v : List UInt8) (tc' sc' : Int), e = .returned (str v) ∧ Blk w' gc ec [.slice Ac nc cc, .int .i64 tc', .int .u64 sc'] ∧ (tc ≤ tc' ∧ tc' ≤ tc + 6) ∧ (v.length ≤ s.length + 1) ∧ Kp (fun b_ => b_ = gc) w w' := by
  refine calls_W 57 Tryz.func33 rfl rfl rfl ?_
  have hBlc := hc.lt
  have hbdc := hLc.bound
  have hlec := hLc.len
  have hBbc := hLc.bd
  refine W.seq ?_
  refine W.regS (SR.q' (r_as (v := str ([] : List UInt8)) rfl) <| SR.nil ?_)
  refine W.seq ?_
  refine W.seq ?_
  refine W.regS (SR.q' (r_mv (v := str _) rfl) <| SR.q' (r_eqs (s := s) (r := ([] : List UInt8)) rfl rfl) <| SR.nil ?_)
  refine W.cond_d rfl (fun h1 => ?_) (fun h1 => ?_)
  · refine W.seq ?_
    refine W.regS (SR.q' (r_mv (v := str _) rfl) <| SR.q' (r_cuthS (h := 1) und9 rfl rfl rfl (by first | omega | (simp only [List.length_append, List.length_cons, List.length_nil, List.length_take, List.length_drop]; omega) | (simp only [List.length_append, List.length_cons, List.length_nil, List.length_take, List.length_drop] at *; omega))) <| SR.q' (r_as (v := str _) rfl) <| SR.nil ?_)
    refine W.ret ?_
    refine ret1 rfl (v := str _) rfl ?_
    exact ⟨(r.take 1), tc, sc, eR rfl, (hc), ⟨by omega, by omega⟩, (z_c___spec_l1Cur__spoilt_2 Lc tc sc nc htc hbdc hlec s r hp0 hp1 h1), (Kp.refl w : Kp (fun b_ => b_ = gc) w w)⟩
  · have hq3 := List.length_pos_iff.2 h1
    refine W.skip ?_
    refine W.seq ?_
    refine W.regS (SR.q' (r_mv (v := .pointer (some _)) rfl) <| SR.q' (r_mv (v := str _) rfl) <| SR.q' (r_len_s und9 rfl) <| SR.call ent54 (c___spec_l1Cur__pick w Lc tc sc (hc) ((hLc)) (by omega) (by omega) (s.length : Int) (by first | omega | (simp only [List.length_append, List.length_cons, List.length_nil, List.length_take, List.length_drop]; omega))) rfl ?_)
    rintro e w4 ⟨v6, t7, s8, rfl, hb9, ht10, hq11, hk5⟩
    refine ⟨_, rfl, ?_⟩
    have hz12 := hk5.size
    have hB13 := (Kp.refl w : Kp (fun b_ => b_ = gc) w w).step hk5 (fun i_ hi_ e' => e')
    refine SR.q' (r_as (v := .int .i64 _) rfl) <| SR.nil ?_
    refine W.seq ?_
    refine W.regS (SR.q' (r_mv (v := str _) rfl) <| SR.q' (r_mv (v := .pointer (some _)) rfl) <| SR.q' (r_mv (v := str _) rfl) <| SR.q' (r_len_s und9 rfl) <| SR.call ent54 (c___spec_l1Cur__pick w4 Lc t7 s8 (hb9) (((hLc).kn hk5 (by omega))) (by omega) (by omega) (r.length : Int) (by first | omega | (simp only [List.length_append, List.length_cons, List.length_nil, List.length_take, List.length_drop]; omega))) rfl ?_)
    rintro e w14 ⟨v16, t17, s18, rfl, hb19, ht20, hq21, hk15⟩
    refine ⟨_, rfl, ?_⟩
    have hz22 := hk15.size
    have hB23 := hB13.step hk15 (fun i_ hi_ e' => e')
    refine SR.q' (r_cutlS (l := v16.toNat) und9 rfl rfl (by omega) (by first | omega | (simp only [List.length_append, List.length_cons, List.length_nil, List.length_take, List.length_drop]; omega) | (simp only [List.length_append, List.length_cons, List.length_nil, List.length_take, List.length_drop] at *; omega))) <| SR.q' (r_cuthS (h := 1) und9 rfl rfl rfl (by first | omega | (simp only [List.length_append, List.length_cons, List.length_nil, List.length_take, List.length_drop]; omega) | (simp only [List.length_append, List.length_cons, List.length_nil, List.length_take, List.length_drop] at *; omega))) <| SR.q' (r_as (v := str _) rfl) <| SR.nil ?_
    refine W.seq ?_
    refine W.seq ?_
    refine W.regS (SR.q' (r_mv (v := .pointer (some _)) rfl) <| SR.call ent54 (c___spec_l1Cur__pick w14 Lc t17 s18 (hb19) ((((hLc).kn hk5 (by omega)).kn hk15 (by omega))) (by omega) (by omega) 3 (by first | omega | (simp only [List.length_append, List.length_cons, List.length_nil, List.length_take, List.length_drop]; omega))) rfl ?_)
    rintro e w24 ⟨v26, t27, s28, rfl, hb29, ht30, hq31, hk25⟩
    refine ⟨_, rfl, ?_⟩
    have hz32 := hk25.size
    have hB33 := hB23.step hk25 (fun i_ hi_ e' => e')
    refine SR.nil ?_
    refine W.block ?_
    refine W.seq ?_
    refine W.regS (SR.q' (r_eq rfl rfl) <| SR.q' (r_as (v := .bool _) rfl) <| SR.nil ?_)
    refine W.cond_d rfl (fun h34 => ?_) (fun h34 => ?_)
    · refine W.seq ?_
      refine W.regD mo (by kernel_rfl) (QR.q' (fun w' hw' => r_mv (v := str _) rfl) <| QR.q' (fun w' hw' => r_mv (v := .int .i64 _) rfl) <| QR.q' (fun w' hw' => r_cuthS (h := v6.toNat) und9 rfl rfl (by omega) (by first | omega | (simp only [List.length_append, List.length_cons, List.length_nil, List.length_take, List.length_drop]; omega) | (simp only [List.length_append, List.length_cons, List.length_nil, List.length_take, List.length_drop] at *; omega))) <| QR.q' (fun w' hw' => r_mv (v := str _) rfl) <| QR.q' (fun w' hw' => r_cat rfl rfl (by first | omega | (simp only [List.length_append, List.length_cons, List.length_nil, List.length_take, List.length_drop]; omega) | (simp only [List.length_append, List.length_cons, List.length_nil, List.length_take, List.length_drop] at *; omega))) <| QR.q' (fun w' hw' => r_mv (v := str _) rfl) <| QR.q' (fun w' hw' => r_mv (v := .int .i64 _) rfl) <| QR.q' (fun w' hw' => r_cutlS (l := v6.toNat) und9 rfl rfl (by omega) (by first | omega | (simp only [List.length_append, List.length_cons, List.length_nil, List.length_take, List.length_drop]; omega) | (simp only [List.length_append, List.length_cons, List.length_nil, List.length_take, List.length_drop] at *; omega))) <| QR.q' (fun w' hw' => r_cat rfl rfl (by first | omega | (simp only [List.length_append, List.length_cons, List.length_nil, List.length_take, List.length_drop]; omega) | (simp only [List.length_append, List.length_cons, List.length_nil, List.length_take, List.length_drop] at *; omega))) <| QR.q' (fun w' hw' => r_as (v := str _) rfl) <| QR.nil ?_)
      intro w35 hk36
      have hz37 := hk36.size
      have hB38 := hB33.lo hk36
      refine W.ret ?_
      refine ret1 rfl (v := str _) rfl ?_
      exact ⟨(((s.take v6.toNat) ++ ((r.drop v16.toNat).take 1)) ++ (s.drop v6.toNat)), t27, s28, eR rfl, ((hb29).lo hk36), ⟨by omega, by omega⟩, (z_c___spec_l1Cur__spoilt_39 Lc tc sc nc htc hbdc hlec s r hp0 hp1 h1 hq3 v6 t7 s8 ht10 hq11 v16 t17 s18 ht20 hq21 v26 t27 s28 ht30 hq31 h34), hB38⟩
    · refine W.seq ?_
      refine W.regS (SR.q' (r_eq rfl rfl) <| SR.q' (r_as (v := .bool _) rfl) <| SR.nil ?_)
      refine W.cond_d rfl (fun h40 => ?_) (fun h40 => ?_)
      · refine W.seq ?_
        refine W.regD mo (by kernel_rfl) (QR.q' (fun w' hw' => r_mv (v := str _) rfl) <| QR.q' (fun w' hw' => r_mv (v := .int .i64 _) rfl) <| QR.q' (fun w' hw' => r_cuthS (h := v6.toNat) und9 rfl rfl (by omega) (by first | omega | (simp only [List.length_append, List.length_cons, List.length_nil, List.length_take, List.length_drop]; omega) | (simp only [List.length_append, List.length_cons, List.length_nil, List.length_take, List.length_drop] at *; omega))) <| QR.q' (fun w' hw' => r_mv (v := str _) rfl) <| QR.q' (fun w' hw' => r_cat rfl rfl (by first | omega | (simp only [List.length_append, List.length_cons, List.length_nil, List.length_take, List.length_drop]; omega) | (simp only [List.length_append, List.length_cons, List.length_nil, List.length_take, List.length_drop] at *; omega))) <| QR.q' (fun w' hw' => r_mv (v := str _) rfl) <| QR.q' (fun w' hw' => r_mv (v := .int .i64 _) rfl) <| QR.q' (fun w' hw' => r_add rfl rfl (by omega)) <| QR.q' (fun w' hw' => r_cutlS (l := (v6 + 1).toNat) und9 rfl rfl (by omega) (by first | omega | (simp only [List.length_append, List.length_cons, List.length_nil, List.length_take, List.length_drop]; omega) | (simp only [List.length_append, List.length_cons, List.length_nil, List.length_take, List.length_drop] at *; omega))) <| QR.q' (fun w' hw' => r_cat rfl rfl (by first | omega | (simp only [List.length_append, List.length_cons, List.length_nil, List.length_take, List.length_drop]; omega) | (simp only [List.length_append, List.length_cons, List.length_nil, List.length_take, List.length_drop] at *; omega))) <| QR.q' (fun w' hw' => r_as (v := str _) rfl) <| QR.nil ?_)
        intro w41 hk42
        have hz43 := hk42.size
        have hB44 := hB33.lo hk42
        refine W.ret ?_
        refine ret1 rfl (v := str _) rfl ?_
        exact ⟨(((s.take v6.toNat) ++ ((r.drop v16.toNat).take 1)) ++ (s.drop ((v6 + 1).toNat))), t27, s28, eR rfl, ((hb29).lo hk42), ⟨by omega, by omega⟩, (z_c___spec_l1Cur__spoilt_45 Lc tc sc nc htc hbdc hlec s r hp0 hp1 h1 hq3 v6 t7 s8 ht10 hq11 v16 t17 s18 ht20 hq21 v26 t27 s28 ht30 hq31 h34 h40), hB44⟩
      · refine W.skip ?_
        refine W.seq ?_
        refine W.regD mo (by kernel_rfl) (QR.q' (fun w' hw' => r_mv (v := str _) rfl) <| QR.q' (fun w' hw' => r_mv (v := .int .i64 _) rfl) <| QR.q' (fun w' hw' => r_cuthS (h := v6.toNat) und9 rfl rfl (by omega) (by first | omega | (simp only [List.length_append, List.length_cons, List.length_nil, List.length_take, List.length_drop]; omega) | (simp only [List.length_append, List.length_cons, List.length_nil, List.length_take, List.length_drop] at *; omega))) <| QR.q' (fun w' hw' => r_mv (v := str _) rfl) <| QR.q' (fun w' hw' => r_mv (v := .int .i64 _) rfl) <| QR.q' (fun w' hw' => r_add rfl rfl (by omega)) <| QR.q' (fun w' hw' => r_cutlS (l := (v6 + 1).toNat) und9 rfl rfl (by omega) (by first | omega | (simp only [List.length_append, List.length_cons, List.length_nil, List.length_take, List.length_drop]; omega) | (simp only [List.length_append, List.length_cons, List.length_nil, List.length_take, List.length_drop] at *; omega))) <| QR.q' (fun w' hw' => r_cat rfl rfl (by first | omega | (simp only [List.length_append, List.length_cons, List.length_nil, List.length_take, List.length_drop]; omega) | (simp only [List.length_append, List.length_cons, List.length_nil, List.length_take, List.length_drop] at *; omega))) <| QR.q' (fun w' hw' => r_as (v := str _) rfl) <| QR.nil ?_)
        intro w46 hk47
        have hz48 := hk47.size
        have hB49 := hB33.lo hk47
        refine W.ret ?_
        refine ret1 rfl (v := str _) rfl ?_
        exact ⟨((s.take v6.toNat) ++ (s.drop ((v6 + 1).toNat))), t27, s28, eR rfl, ((hb29).lo hk47), ⟨by omega, by omega⟩, (z_c___spec_l1Cur__spoilt_50 Lc tc sc nc htc hbdc hlec s r hp0 hp1 h1 hq3 v6 t7 s8 ht10 hq11 v16 t17 s18 ht20 hq21 v26 t27 s28 ht30 hq31 h34 h40), hB49⟩

theorem c___spec_l1Cur__libRow (w : World) {gc ec : Nat} {Ac : Option Addr} {nc cc Bc : Nat} (Lc : List UInt8) (tc sc : Int) (hc : Blk w gc ec [.slice Ac nc cc, .int .i64 tc, .int .u64 sc]) (hLc : SlR w Bc encB 1 Ac nc cc Lc) (hgc : Bc ≤ gc) (htc : 0 ≤ tc ∧ tc + 14 ≤ 4611686018427387904) (m : Int) : Calls Tryz.prog 46 #[.pointer (some ⟨gc, 0, none⟩), .int .i64 m] w fun e w' => ∃ (r : LibRow) (tc' sc' : Int), e = .returned (.agg (List.toArray [.int .i64 r.Month, .int .i64 r.Lent, .int .i64 r.Copied, .int .i64 r.Given, .int .i64 r.Fines])) ∧ Blk w' gc ec [.slice Ac nc cc, .int .i64 tc', .int .u64 sc'] ∧ (tc ≤ tc' ∧ tc' ≤ tc + 14) ∧ Kp (fun b_ => b_ = gc) w w' := by
  refine calls_W 53 Tryz.func46 rfl rfl rfl ?_
  have hBlc := hc.lt
  have hbdc := hLc.bound
  have hlec := hLc.len
  have hBbc := hLc.bd
  refine W.seq ?_
  refine W.regS (SR.alloc (l := [.int .i64 0, .int .i64 0, .int .i64 0, .int .i64 0, .int .i64 0]) tz25 rfl ?_)
  intro g1 w2 hg3 hk4 hs5 hb6
  have hz7 := hk4.size
  have hB8 := (Kp.refl w : Kp (fun b_ => b_ = gc) w w).lo hk4
  refine SR.nil ?_
  refine W.seq ?_
  refine W.regS (SR.q' (r_mv (v := .int .i64 _) rfl) <| SR.q' (r_mv (v := .pointer (some _)) rfl) <| SR.lit (vs := [.int .i64 0, .int .i64 100, .int .i64 150, .int .i64 150, .int .i64 9999]) (L := ([0, 100, 150, 150, 9999] : List Int)) (enc := encI) tel39 (fun _ => rfl) rfl rfl rfl (by decide) ?_)
  intro g9 w10 hg11 hk12 hO13
  have hz14 := hk12.size
  have hB15 := hB8.lo hk12
  refine SR.call ent47 (c___spec_l1Cur__among w10 Lc tc sc (((hc).lo hk4).lo hk12) ((((hLc).lo hk4).lo hk12)) (by omega) (by omega) ([0, 100, 150, 150, 9999] : List Int) (((hO13).rd)) (by omega) (by omega) (show ¬ g9 = gc from by first | omega | (have := (hO13).base_le rfl; omega))) rfl ?_
  rintro e w16 ⟨v18, t19, s20, rfl, hb21, ht22, hq23, hk17⟩
  refine ⟨_, rfl, ?_⟩
  have hz24 := hk17.size
  have hB25 := hB15.step hk17 (fun i_ hi_ e' => e')
  have hq26 : (0 : Int) ≤ v18 ∧ v18 ≤ 9999 := mem_rngB (lo := 0) (hi := 9999) (by decide) hq23
  refine SR.q' (r_mv (v := .pointer (some _)) rfl) <| SR.lit (vs := [.int .i64 0, .int .i64 7, .int .i64 500, .int .i64 9999]) (L := ([0, 7, 500, 9999] : List Int)) (enc := encI) tel39 (fun _ => rfl) rfl rfl rfl (by decide) ?_
  intro g27 w28 hg29 hk30 hO31
  have hz32 := hk30.size
  have hB33 := hB25.lo hk30
  have hd34 : ¬ (some (⟨g9, 0, none⟩ : Addr)) = some ⟨g27, 0, none⟩ := fun e' => by have := ((hO13).kn hk17 (by omega)).base_le e'; omega
  refine SR.call ent47 (c___spec_l1Cur__among w28 Lc t19 s20 ((hb21).lo hk30) ((((((hLc).lo hk4).lo hk12).kn hk17 (by omega)).lo hk30)) (by omega) (by omega) ([0, 7, 500, 9999] : List Int) (((hO31).rd)) (by omega) (by omega) (show ¬ g27 = gc from by first | omega | (have := (hO31).base_le rfl; omega))) rfl ?_
  rintro e w35 ⟨v37, t38, s39, rfl, hb40, ht41, hq42, hk36⟩
  refine ⟨_, rfl, ?_⟩
  have hz43 := hk36.size
  have hB44 := hB33.step hk36 (fun i_ hi_ e' => e')
  have hq45 : (0 : Int) ≤ v37 ∧ v37 ≤ 9999 := mem_rngB (lo := 0) (hi := 9999) (by decide) hq42
  refine SR.q' (r_mv (v := .pointer (some _)) rfl) <| SR.lit (vs := [.int .i64 0, .int .i64 0, .int .i64 3, .int .i64 999]) (L := ([0, 0, 3, 999] : List Int)) (enc := encI) tel39 (fun _ => rfl) rfl rfl rfl (by decide) ?_
  intro g46 w47 hg48 hk49 hO50
  have hz51 := hk49.size
  have hB52 := hB44.lo hk49
  have hd53 : ¬ (some (⟨g9, 0, none⟩ : Addr)) = some ⟨g46, 0, none⟩ := fun e' => by have := ((((hO13).kn hk17 (by omega)).lo hk30).kn hk36 (by omega)).base_le e'; omega
  have hd54 : ¬ (some (⟨g27, 0, none⟩ : Addr)) = some ⟨g46, 0, none⟩ := fun e' => by have := ((hO31).kn hk36 (by omega)).base_le e'; omega
  refine SR.call ent47 (c___spec_l1Cur__among w47 Lc t38 s39 ((hb40).lo hk49) ((((((((hLc).lo hk4).lo hk12).kn hk17 (by omega)).lo hk30).kn hk36 (by omega)).lo hk49)) (by omega) (by omega) ([0, 0, 3, 999] : List Int) (((hO50).rd)) (by omega) (by omega) (show ¬ g46 = gc from by first | omega | (have := (hO50).base_le rfl; omega))) rfl ?_
  rintro e w55 ⟨v57, t58, s59, rfl, hb60, ht61, hq62, hk56⟩
  refine ⟨_, rfl, ?_⟩
  have hz63 := hk56.size
  have hB64 := hB52.step hk56 (fun i_ hi_ e' => e')
  have hq65 : (0 : Int) ≤ v57 ∧ v57 ≤ 999 := mem_rngB (lo := 0) (hi := 999) (by decide) hq62
  refine SR.q' (r_mv (v := .pointer (some _)) rfl) <| SR.lit (vs := [.int .i64 0, .int .i64 0, .int .i64 5, .int .i64 40, .int .i64 1250, .int .i64 99999]) (L := ([0, 0, 5, 40, 1250, 99999] : List Int)) (enc := encI) tel39 (fun _ => rfl) rfl rfl rfl (by decide) ?_
  intro g66 w67 hg68 hk69 hO70
  have hz71 := hk69.size
  have hB72 := hB64.lo hk69
  have hd73 : ¬ (some (⟨g9, 0, none⟩ : Addr)) = some ⟨g66, 0, none⟩ := fun e' => by have := ((((((hO13).kn hk17 (by omega)).lo hk30).kn hk36 (by omega)).lo hk49).kn hk56 (by omega)).base_le e'; omega
  have hd74 : ¬ (some (⟨g27, 0, none⟩ : Addr)) = some ⟨g66, 0, none⟩ := fun e' => by have := ((((hO31).kn hk36 (by omega)).lo hk49).kn hk56 (by omega)).base_le e'; omega
  have hd75 : ¬ (some (⟨g46, 0, none⟩ : Addr)) = some ⟨g66, 0, none⟩ := fun e' => by have := ((hO50).kn hk56 (by omega)).base_le e'; omega
  refine SR.call ent47 (c___spec_l1Cur__among w67 Lc t58 s59 ((hb60).lo hk69) ((((((((((hLc).lo hk4).lo hk12).kn hk17 (by omega)).lo hk30).kn hk36 (by omega)).lo hk49).kn hk56 (by omega)).lo hk69)) (by omega) (by omega) ([0, 0, 5, 40, 1250, 99999] : List Int) (((hO70).rd)) (by omega) (by omega) (show ¬ g66 = gc from by first | omega | (have := (hO70).base_le rfl; omega))) rfl ?_
  rintro e w76 ⟨v78, t79, s80, rfl, hb81, ht82, hq83, hk77⟩
  refine ⟨_, rfl, ?_⟩
  have hz84 := hk77.size
  have hB85 := hB72.step hk77 (fun i_ hi_ e' => e')
  have hq86 : (0 : Int) ≤ v78 ∧ v78 ≤ 99999 := mem_rngB (lo := 0) (hi := 99999) (by decide) hq83
  refine SR.q' (r_build (vs := [(0, .int .i64 m), (1, .int .i64 v18), (2, .int .i64 v37), (3, .int .i64 v57), (4, .int .i64 v78)]) rfl (bld25_0_1_2_3_4 _ _ _ _ _)) <| SR.alloc (l := [.int .i64 0, .int .i64 0, .int .i64 0, .int .i64 0, .int .i64 0]) tz25 rfl ?_
  intro g87 w88 hg89 hk90 hs91 hb92
  have hz93 := hk90.size
  have hB94 := hB85.lo hk90
  have hd95 : ¬ (some (⟨g9, 0, none⟩ : Addr)) = some ⟨g87, 0, none⟩ := fun e' => by have := ((((((((hO13).kn hk17 (by omega)).lo hk30).kn hk36 (by omega)).lo hk49).kn hk56 (by omega)).lo hk69).kn hk77 (by omega)).base_le e'; omega
  have hd96 : ¬ (some (⟨g27, 0, none⟩ : Addr)) = some ⟨g87, 0, none⟩ := fun e' => by have := ((((((hO31).kn hk36 (by omega)).lo hk49).kn hk56 (by omega)).lo hk69).kn hk77 (by omega)).base_le e'; omega
  have hd97 : ¬ (some (⟨g46, 0, none⟩ : Addr)) = some ⟨g87, 0, none⟩ := fun e' => by have := ((((hO50).kn hk56 (by omega)).lo hk69).kn hk77 (by omega)).base_le e'; omega
  have hd98 : ¬ (some (⟨g66, 0, none⟩ : Addr)) = some ⟨g87, 0, none⟩ := fun e' => by have := ((hO70).kn hk77 (by omega)).base_le e'; omega
  refine SR.store (o := 0) (vs := [.int .i64 m, .int .i64 v18, .int .i64 v37, .int .i64 v57, .int .i64 v78]) agg25.2 rfl rfl rfl rfl (hb92) (Nat.le_of_ble_eq_true rfl) rfl ?_
  intro w99 hk100 hs101 hb102
  have hz103 := hk100.size
  have hB104 := hB94.new hk100 (by omega)
  refine SR.nil ?_
  refine W.seq ?_
  refine W.seq ?_
  refine W.regS (SR.q' (r_mv (v := .pointer (some _)) rfl) <| SR.call ent54 (c___spec_l1Cur__pick w99 Lc t79 s80 (((hb81).lo hk90).kn hk100 (by omega)) (((((((((((((hLc).lo hk4).lo hk12).kn hk17 (by omega)).lo hk30).kn hk36 (by omega)).lo hk49).kn hk56 (by omega)).lo hk69).kn hk77 (by omega)).lo hk90).kn hk100 (by omega))) (by omega) (by omega) 80 (by first | omega | (simp only [List.length_append, List.length_cons, List.length_nil, List.length_take, List.length_drop]; omega))) rfl ?_)
  rintro e w105 ⟨v107, t108, s109, rfl, hb110, ht111, hq112, hk106⟩
  refine ⟨_, rfl, ?_⟩
  have hz113 := hk106.size
  have hB114 := hB104.step hk106 (fun i_ hi_ e' => e')
  refine SR.nil ?_
  refine W.block ?_
  refine W.seq ?_
  refine W.regS (SR.q' (r_eq rfl rfl) <| SR.q' (r_as (v := .bool _) rfl) <| SR.nil ?_)
  refine W.cond_d rfl (fun h115 => ?_) (fun h115 => ?_)
  · refine W.regS (SR.q' (r_mv (v := .pointer (some _)) rfl) <| SR.lit (vs := [.int .i64 0, .int .i64 1200, .int .i64 1201]) (L := ([0, 1200, 1201] : List Int)) (enc := encI) tel39 (fun _ => rfl) rfl rfl rfl (by decide) ?_)
    intro g116 w117 hg118 hk119 hO120
    have hz121 := hk119.size
    have hB122 := hB114.lo hk119
    have hd123 : ¬ (some (⟨g9, 0, none⟩ : Addr)) = some ⟨g116, 0, none⟩ := fun e' => by have := (((((((((((hO13).kn hk17 (by omega)).lo hk30).kn hk36 (by omega)).lo hk49).kn hk56 (by omega)).lo hk69).kn hk77 (by omega)).lo hk90).kd hk100 hd95).kn hk106 (by omega)).base_le e'; omega
    have hd124 : ¬ (some (⟨g27, 0, none⟩ : Addr)) = some ⟨g116, 0, none⟩ := fun e' => by have := (((((((((hO31).kn hk36 (by omega)).lo hk49).kn hk56 (by omega)).lo hk69).kn hk77 (by omega)).lo hk90).kd hk100 hd96).kn hk106 (by omega)).base_le e'; omega
    have hd125 : ¬ (some (⟨g46, 0, none⟩ : Addr)) = some ⟨g116, 0, none⟩ := fun e' => by have := (((((((hO50).kn hk56 (by omega)).lo hk69).kn hk77 (by omega)).lo hk90).kd hk100 hd97).kn hk106 (by omega)).base_le e'; omega
    have hd126 : ¬ (some (⟨g66, 0, none⟩ : Addr)) = some ⟨g116, 0, none⟩ := fun e' => by have := (((((hO70).kn hk77 (by omega)).lo hk90).kd hk100 hd98).kn hk106 (by omega)).base_le e'; omega
    refine SR.call ent47 (c___spec_l1Cur__among w117 Lc t108 s109 ((hb110).lo hk119) (((((((((((((((hLc).lo hk4).lo hk12).kn hk17 (by omega)).lo hk30).kn hk36 (by omega)).lo hk49).kn hk56 (by omega)).lo hk69).kn hk77 (by omega)).lo hk90).kn hk100 (by omega)).kn hk106 (by omega)).lo hk119)) (by omega) (by omega) ([0, 1200, 1201] : List Int) (((hO120).rd)) (by omega) (by omega) (show ¬ g116 = gc from by first | omega | (have := (hO120).base_le rfl; omega))) rfl ?_
    rintro e w127 ⟨v129, t130, s131, rfl, hb132, ht133, hq134, hk128⟩
    refine ⟨_, rfl, ?_⟩
    have hz135 := hk128.size
    have hB136 := hB122.step hk128 (fun i_ hi_ e' => e')
    have hq137 : (0 : Int) ≤ v129 ∧ v129 ≤ 1201 := mem_rngB (lo := 0) (hi := 1201) (by decide) hq134
    refine SR.q' (r_fa fa25_0 rfl) <| SR.store (o := 0) (vs := [.int .i64 v129]) sca3.2 rfl rfl rfl rfl ((((hb102).kn hk106 (by omega)).lo hk119).kn hk128 (by omega)) (Nat.le_of_ble_eq_true rfl) rfl ?_
    intro w138 hk139 hs140 hb141
    have hz142 := hk139.size
    have hB143 := hB136.new hk139 (by omega)
    refine SR.nil ?_
    refine W.seq ?_
    refine W.regS (SR.q' (r_lda (l := [.int .i64 v129, .int .i64 v18, .int .i64 v37, .int .i64 v57, .int .i64 v78]) agg25 rfl (fun _ _ hu => (hb141).cell hu) rfl) <| SR.store (o := 0) (vs := [.int .i64 v129, .int .i64 v18, .int .i64 v37, .int .i64 v57, .int .i64 v78]) agg25.2 rfl rfl rfl rfl (((((((((((((((hb6).lo hk12).kn hk17 (by omega)).lo hk30).kn hk36 (by omega)).lo hk49).kn hk56 (by omega)).lo hk69).kn hk77 (by omega)).lo hk90).kn hk100 (by omega)).kn hk106 (by omega)).lo hk119).kn hk128 (by omega)).kn hk139 (by omega)) (Nat.le_of_ble_eq_true rfl) rfl ?_)
    intro w144 hk145 hs146 hb147
    have hz148 := hk145.size
    have hB149 := hB143.new hk145 (by omega)
    refine SR.nil ?_
    refine W.ret ?_
    refine retC rfl rfl agg25 (hb147) rfl ?_
    exact ⟨(⟨v129, v18, v37, v57, v78⟩ : LibRow), t130, s131, eR (eA rfl), (((hb132).kn hk139 (by omega)).kn hk145 (by omega)), ⟨by omega, by omega⟩, hB149⟩
  · refine W.seq ?_
    refine W.regS (SR.q' (r_eq rfl rfl) <| SR.q' (r_as (v := .bool _) rfl) <| SR.nil ?_)
    refine W.cond_d rfl (fun h150 => ?_) (fun h150 => ?_)
    · refine W.regS (SR.q' (r_mv (v := .pointer (some _)) rfl) <| SR.lit (vs := [.int .i64 (-1), .int .i64 10000]) (L := ([(-1), 10000] : List Int)) (enc := encI) tel39 (fun _ => rfl) rfl rfl rfl (by decide) ?_)
      intro g151 w152 hg153 hk154 hO155
      have hz156 := hk154.size
      have hB157 := hB114.lo hk154
      have hd158 : ¬ (some (⟨g9, 0, none⟩ : Addr)) = some ⟨g151, 0, none⟩ := fun e' => by have := (((((((((((hO13).kn hk17 (by omega)).lo hk30).kn hk36 (by omega)).lo hk49).kn hk56 (by omega)).lo hk69).kn hk77 (by omega)).lo hk90).kd hk100 hd95).kn hk106 (by omega)).base_le e'; omega
      have hd159 : ¬ (some (⟨g27, 0, none⟩ : Addr)) = some ⟨g151, 0, none⟩ := fun e' => by have := (((((((((hO31).kn hk36 (by omega)).lo hk49).kn hk56 (by omega)).lo hk69).kn hk77 (by omega)).lo hk90).kd hk100 hd96).kn hk106 (by omega)).base_le e'; omega
      have hd160 : ¬ (some (⟨g46, 0, none⟩ : Addr)) = some ⟨g151, 0, none⟩ := fun e' => by have := (((((((hO50).kn hk56 (by omega)).lo hk69).kn hk77 (by omega)).lo hk90).kd hk100 hd97).kn hk106 (by omega)).base_le e'; omega
      have hd161 : ¬ (some (⟨g66, 0, none⟩ : Addr)) = some ⟨g151, 0, none⟩ := fun e' => by have := (((((hO70).kn hk77 (by omega)).lo hk90).kd hk100 hd98).kn hk106 (by omega)).base_le e'; omega
      refine SR.call ent47 (c___spec_l1Cur__among w152 Lc t108 s109 ((hb110).lo hk154) (((((((((((((((hLc).lo hk4).lo hk12).kn hk17 (by omega)).lo hk30).kn hk36 (by omega)).lo hk49).kn hk56 (by omega)).lo hk69).kn hk77 (by omega)).lo hk90).kn hk100 (by omega)).kn hk106 (by omega)).lo hk154)) (by omega) (by omega) ([(-1), 10000] : List Int) (((hO155).rd)) (by omega) (by omega) (show ¬ g151 = gc from by first | omega | (have := (hO155).base_le rfl; omega))) rfl ?_
      rintro e w162 ⟨v164, t165, s166, rfl, hb167, ht168, hq169, hk163⟩
      refine ⟨_, rfl, ?_⟩
      have hz170 := hk163.size
      have hB171 := hB157.step hk163 (fun i_ hi_ e' => e')
      have hq172 : ((-1) : Int) ≤ v164 ∧ v164 ≤ 10000 := mem_rngB (lo := (-1)) (hi := 10000) (by decide) hq169
      refine SR.q' (r_fa fa25_1 rfl) <| SR.store (o := 1) (vs := [.int .i64 v164]) sca3.2 rfl rfl rfl rfl ((((hb102).kn hk106 (by omega)).lo hk154).kn hk163 (by omega)) (Nat.le_of_ble_eq_true rfl) rfl ?_
      intro w173 hk174 hs175 hb176
      have hz177 := hk174.size
      have hB178 := hB171.new hk174 (by omega)
      refine SR.nil ?_
      refine W.seq ?_
      refine W.regS (SR.q' (r_lda (l := [.int .i64 m, .int .i64 v164, .int .i64 v37, .int .i64 v57, .int .i64 v78]) agg25 rfl (fun _ _ hu => (hb176).cell hu) rfl) <| SR.store (o := 0) (vs := [.int .i64 m, .int .i64 v164, .int .i64 v37, .int .i64 v57, .int .i64 v78]) agg25.2 rfl rfl rfl rfl (((((((((((((((hb6).lo hk12).kn hk17 (by omega)).lo hk30).kn hk36 (by omega)).lo hk49).kn hk56 (by omega)).lo hk69).kn hk77 (by omega)).lo hk90).kn hk100 (by omega)).kn hk106 (by omega)).lo hk154).kn hk163 (by omega)).kn hk174 (by omega)) (Nat.le_of_ble_eq_true rfl) rfl ?_)
      intro w179 hk180 hs181 hb182
      have hz183 := hk180.size
      have hB184 := hB178.new hk180 (by omega)
      refine SR.nil ?_
      refine W.ret ?_
      refine retC rfl rfl agg25 (hb182) rfl ?_
      exact ⟨(⟨m, v164, v37, v57, v78⟩ : LibRow), t165, s166, eR (eA rfl), (((hb167).kn hk174 (by omega)).kn hk180 (by omega)), ⟨by omega, by omega⟩, hB184⟩
    · refine W.seq ?_
      refine W.regS (SR.q' (r_eq rfl rfl) <| SR.q' (r_as (v := .bool _) rfl) <| SR.nil ?_)
      refine W.cond_d rfl (fun h185 => ?_) (fun h185 => ?_)
      · refine W.regS (SR.q' (r_mv (v := .pointer (some _)) rfl) <| SR.lit (vs := [.int .i64 (-1), .int .i64 10000]) (L := ([(-1), 10000] : List Int)) (enc := encI) tel39 (fun _ => rfl) rfl rfl rfl (by decide) ?_)
        intro g186 w187 hg188 hk189 hO190
        have hz191 := hk189.size
        have hB192 := hB114.lo hk189
        have hd193 : ¬ (some (⟨g9, 0, none⟩ : Addr)) = some ⟨g186, 0, none⟩ := fun e' => by have := (((((((((((hO13).kn hk17 (by omega)).lo hk30).kn hk36 (by omega)).lo hk49).kn hk56 (by omega)).lo hk69).kn hk77 (by omega)).lo hk90).kd hk100 hd95).kn hk106 (by omega)).base_le e'; omega
        have hd194 : ¬ (some (⟨g27, 0, none⟩ : Addr)) = some ⟨g186, 0, none⟩ := fun e' => by have := (((((((((hO31).kn hk36 (by omega)).lo hk49).kn hk56 (by omega)).lo hk69).kn hk77 (by omega)).lo hk90).kd hk100 hd96).kn hk106 (by omega)).base_le e'; omega
        have hd195 : ¬ (some (⟨g46, 0, none⟩ : Addr)) = some ⟨g186, 0, none⟩ := fun e' => by have := (((((((hO50).kn hk56 (by omega)).lo hk69).kn hk77 (by omega)).lo hk90).kd hk100 hd97).kn hk106 (by omega)).base_le e'; omega
        have hd196 : ¬ (some (⟨g66, 0, none⟩ : Addr)) = some ⟨g186, 0, none⟩ := fun e' => by have := (((((hO70).kn hk77 (by omega)).lo hk90).kd hk100 hd98).kn hk106 (by omega)).base_le e'; omega
        refine SR.call ent47 (c___spec_l1Cur__among w187 Lc t108 s109 ((hb110).lo hk189) (((((((((((((((hLc).lo hk4).lo hk12).kn hk17 (by omega)).lo hk30).kn hk36 (by omega)).lo hk49).kn hk56 (by omega)).lo hk69).kn hk77 (by omega)).lo hk90).kn hk100 (by omega)).kn hk106 (by omega)).lo hk189)) (by omega) (by omega) ([(-1), 10000] : List Int) (((hO190).rd)) (by omega) (by omega) (show ¬ g186 = gc from by first | omega | (have := (hO190).base_le rfl; omega))) rfl ?_
        rintro e w197 ⟨v199, t200, s201, rfl, hb202, ht203, hq204, hk198⟩
        refine ⟨_, rfl, ?_⟩
        have hz205 := hk198.size
        have hB206 := hB192.step hk198 (fun i_ hi_ e' => e')
        have hq207 : ((-1) : Int) ≤ v199 ∧ v199 ≤ 10000 := mem_rngB (lo := (-1)) (hi := 10000) (by decide) hq204
        refine SR.q' (r_fa fa25_2 rfl) <| SR.store (o := 2) (vs := [.int .i64 v199]) sca3.2 rfl rfl rfl rfl ((((hb102).kn hk106 (by omega)).lo hk189).kn hk198 (by omega)) (Nat.le_of_ble_eq_true rfl) rfl ?_
        intro w208 hk209 hs210 hb211
        have hz212 := hk209.size
        have hB213 := hB206.new hk209 (by omega)
        refine SR.nil ?_
        refine W.seq ?_
        refine W.regS (SR.q' (r_lda (l := [.int .i64 m, .int .i64 v18, .int .i64 v199, .int .i64 v57, .int .i64 v78]) agg25 rfl (fun _ _ hu => (hb211).cell hu) rfl) <| SR.store (o := 0) (vs := [.int .i64 m, .int .i64 v18, .int .i64 v199, .int .i64 v57, .int .i64 v78]) agg25.2 rfl rfl rfl rfl (((((((((((((((hb6).lo hk12).kn hk17 (by omega)).lo hk30).kn hk36 (by omega)).lo hk49).kn hk56 (by omega)).lo hk69).kn hk77 (by omega)).lo hk90).kn hk100 (by omega)).kn hk106 (by omega)).lo hk189).kn hk198 (by omega)).kn hk209 (by omega)) (Nat.le_of_ble_eq_true rfl) rfl ?_)
        intro w214 hk215 hs216 hb217
        have hz218 := hk215.size
        have hB219 := hB213.new hk215 (by omega)
        refine SR.nil ?_
        refine W.ret ?_
        refine retC rfl rfl agg25 (hb217) rfl ?_
        exact ⟨(⟨m, v18, v199, v57, v78⟩ : LibRow), t200, s201, eR (eA rfl), (((hb202).kn hk209 (by omega)).kn hk215 (by omega)), ⟨by omega, by omega⟩, hB219⟩
      · refine W.seq ?_
        refine W.regS (SR.q' (r_eq rfl rfl) <| SR.q' (r_as (v := .bool _) rfl) <| SR.nil ?_)
        refine W.cond_d rfl (fun h220 => ?_) (fun h220 => ?_)
        · refine W.regS (SR.q' (r_mv (v := .pointer (some _)) rfl) <| SR.lit (vs := [.int .i64 (-1), .int .i64 1000]) (L := ([(-1), 1000] : List Int)) (enc := encI) tel39 (fun _ => rfl) rfl rfl rfl (by decide) ?_)
          intro g221 w222 hg223 hk224 hO225
          have hz226 := hk224.size
          have hB227 := hB114.lo hk224
          have hd228 : ¬ (some (⟨g9, 0, none⟩ : Addr)) = some ⟨g221, 0, none⟩ := fun e' => by have := (((((((((((hO13).kn hk17 (by omega)).lo hk30).kn hk36 (by omega)).lo hk49).kn hk56 (by omega)).lo hk69).kn hk77 (by omega)).lo hk90).kd hk100 hd95).kn hk106 (by omega)).base_le e'; omega
          have hd229 : ¬ (some (⟨g27, 0, none⟩ : Addr)) = some ⟨g221, 0, none⟩ := fun e' => by have := (((((((((hO31).kn hk36 (by omega)).lo hk49).kn hk56 (by omega)).lo hk69).kn hk77 (by omega)).lo hk90).kd hk100 hd96).kn hk106 (by omega)).base_le e'; omega
          have hd230 : ¬ (some (⟨g46, 0, none⟩ : Addr)) = some ⟨g221, 0, none⟩ := fun e' => by have := (((((((hO50).kn hk56 (by omega)).lo hk69).kn hk77 (by omega)).lo hk90).kd hk100 hd97).kn hk106 (by omega)).base_le e'; omega
          have hd231 : ¬ (some (⟨g66, 0, none⟩ : Addr)) = some ⟨g221, 0, none⟩ := fun e' => by have := (((((hO70).kn hk77 (by omega)).lo hk90).kd hk100 hd98).kn hk106 (by omega)).base_le e'; omega
          refine SR.call ent47 (c___spec_l1Cur__among w222 Lc t108 s109 ((hb110).lo hk224) (((((((((((((((hLc).lo hk4).lo hk12).kn hk17 (by omega)).lo hk30).kn hk36 (by omega)).lo hk49).kn hk56 (by omega)).lo hk69).kn hk77 (by omega)).lo hk90).kn hk100 (by omega)).kn hk106 (by omega)).lo hk224)) (by omega) (by omega) ([(-1), 1000] : List Int) (((hO225).rd)) (by omega) (by omega) (show ¬ g221 = gc from by first | omega | (have := (hO225).base_le rfl; omega))) rfl ?_
          rintro e w232 ⟨v234, t235, s236, rfl, hb237, ht238, hq239, hk233⟩
          refine ⟨_, rfl, ?_⟩
          have hz240 := hk233.size
          have hB241 := hB227.step hk233 (fun i_ hi_ e' => e')
          have hq242 : ((-1) : Int) ≤ v234 ∧ v234 ≤ 1000 := mem_rngB (lo := (-1)) (hi := 1000) (by decide) hq239
          refine SR.q' (r_fa fa25_3 rfl) <| SR.store (o := 3) (vs := [.int .i64 v234]) sca3.2 rfl rfl rfl rfl ((((hb102).kn hk106 (by omega)).lo hk224).kn hk233 (by omega)) (Nat.le_of_ble_eq_true rfl) rfl ?_
          intro w243 hk244 hs245 hb246
          have hz247 := hk244.size
          have hB248 := hB241.new hk244 (by omega)
          refine SR.nil ?_
          refine W.seq ?_
          refine W.regS (SR.q' (r_lda (l := [.int .i64 m, .int .i64 v18, .int .i64 v37, .int .i64 v234, .int .i64 v78]) agg25 rfl (fun _ _ hu => (hb246).cell hu) rfl) <| SR.store (o := 0) (vs := [.int .i64 m, .int .i64 v18, .int .i64 v37, .int .i64 v234, .int .i64 v78]) agg25.2 rfl rfl rfl rfl (((((((((((((((hb6).lo hk12).kn hk17 (by omega)).lo hk30).kn hk36 (by omega)).lo hk49).kn hk56 (by omega)).lo hk69).kn hk77 (by omega)).lo hk90).kn hk100 (by omega)).kn hk106 (by omega)).lo hk224).kn hk233 (by omega)).kn hk244 (by omega)) (Nat.le_of_ble_eq_true rfl) rfl ?_)
          intro w249 hk250 hs251 hb252
          have hz253 := hk250.size
          have hB254 := hB248.new hk250 (by omega)
          refine SR.nil ?_
          refine W.ret ?_
          refine retC rfl rfl agg25 (hb252) rfl ?_
          exact ⟨(⟨m, v18, v37, v234, v78⟩ : LibRow), t235, s236, eR (eA rfl), (((hb237).kn hk244 (by omega)).kn hk250 (by omega)), ⟨by omega, by omega⟩, hB254⟩
        · refine W.seq ?_
          refine W.regS (SR.q' (r_eq rfl rfl) <| SR.q' (r_as (v := .bool _) rfl) <| SR.nil ?_)
          refine W.cond_d rfl (fun h255 => ?_) (fun h255 => ?_)
          · refine W.regS (SR.q' (r_mv (v := .pointer (some _)) rfl) <| SR.lit (vs := [.int .i64 (-1), .int .i64 100000]) (L := ([(-1), 100000] : List Int)) (enc := encI) tel39 (fun _ => rfl) rfl rfl rfl (by decide) ?_)
            intro g256 w257 hg258 hk259 hO260
            have hz261 := hk259.size
            have hB262 := hB114.lo hk259
            have hd263 : ¬ (some (⟨g9, 0, none⟩ : Addr)) = some ⟨g256, 0, none⟩ := fun e' => by have := (((((((((((hO13).kn hk17 (by omega)).lo hk30).kn hk36 (by omega)).lo hk49).kn hk56 (by omega)).lo hk69).kn hk77 (by omega)).lo hk90).kd hk100 hd95).kn hk106 (by omega)).base_le e'; omega
            have hd264 : ¬ (some (⟨g27, 0, none⟩ : Addr)) = some ⟨g256, 0, none⟩ := fun e' => by have := (((((((((hO31).kn hk36 (by omega)).lo hk49).kn hk56 (by omega)).lo hk69).kn hk77 (by omega)).lo hk90).kd hk100 hd96).kn hk106 (by omega)).base_le e'; omega
            have hd265 : ¬ (some (⟨g46, 0, none⟩ : Addr)) = some ⟨g256, 0, none⟩ := fun e' => by have := (((((((hO50).kn hk56 (by omega)).lo hk69).kn hk77 (by omega)).lo hk90).kd hk100 hd97).kn hk106 (by omega)).base_le e'; omega
            have hd266 : ¬ (some (⟨g66, 0, none⟩ : Addr)) = some ⟨g256, 0, none⟩ := fun e' => by have := (((((hO70).kn hk77 (by omega)).lo hk90).kd hk100 hd98).kn hk106 (by omega)).base_le e'; omega
            refine SR.call ent47 (c___spec_l1Cur__among w257 Lc t108 s109 ((hb110).lo hk259) (((((((((((((((hLc).lo hk4).lo hk12).kn hk17 (by omega)).lo hk30).kn hk36 (by omega)).lo hk49).kn hk56 (by omega)).lo hk69).kn hk77 (by omega)).lo hk90).kn hk100 (by omega)).kn hk106 (by omega)).lo hk259)) (by omega) (by omega) ([(-1), 100000] : List Int) (((hO260).rd)) (by omega) (by omega) (show ¬ g256 = gc from by first | omega | (have := (hO260).base_le rfl; omega))) rfl ?_
            rintro e w267 ⟨v269, t270, s271, rfl, hb272, ht273, hq274, hk268⟩
            refine ⟨_, rfl, ?_⟩
            have hz275 := hk268.size
            have hB276 := hB262.step hk268 (fun i_ hi_ e' => e')
            have hq277 : ((-1) : Int) ≤ v269 ∧ v269 ≤ 100000 := mem_rngB (lo := (-1)) (hi := 100000) (by decide) hq274
            refine SR.q' (r_fa fa25_4 rfl) <| SR.store (o := 4) (vs := [.int .i64 v269]) sca3.2 rfl rfl rfl rfl ((((hb102).kn hk106 (by omega)).lo hk259).kn hk268 (by omega)) (Nat.le_of_ble_eq_true rfl) rfl ?_
            intro w278 hk279 hs280 hb281
            have hz282 := hk279.size
            have hB283 := hB276.new hk279 (by omega)
            refine SR.nil ?_
            refine W.seq ?_
            refine W.regS (SR.q' (r_lda (l := [.int .i64 m, .int .i64 v18, .int .i64 v37, .int .i64 v57, .int .i64 v269]) agg25 rfl (fun _ _ hu => (hb281).cell hu) rfl) <| SR.store (o := 0) (vs := [.int .i64 m, .int .i64 v18, .int .i64 v37, .int .i64 v57, .int .i64 v269]) agg25.2 rfl rfl rfl rfl (((((((((((((((hb6).lo hk12).kn hk17 (by omega)).lo hk30).kn hk36 (by omega)).lo hk49).kn hk56 (by omega)).lo hk69).kn hk77 (by omega)).lo hk90).kn hk100 (by omega)).kn hk106 (by omega)).lo hk259).kn hk268 (by omega)).kn hk279 (by omega)) (Nat.le_of_ble_eq_true rfl) rfl ?_)
            intro w284 hk285 hs286 hb287
            have hz288 := hk285.size
            have hB289 := hB283.new hk285 (by omega)
            refine SR.nil ?_
            refine W.ret ?_
            refine retC rfl rfl agg25 (hb287) rfl ?_
            exact ⟨(⟨m, v18, v37, v57, v269⟩ : LibRow), t270, s271, eR (eA rfl), (((hb272).kn hk279 (by omega)).kn hk285 (by omega)), ⟨by omega, by omega⟩, hB289⟩
          · refine W.skip ?_
            refine W.seq ?_
            refine W.regS (SR.q' (r_lda (l := [.int .i64 m, .int .i64 v18, .int .i64 v37, .int .i64 v57, .int .i64 v78]) agg25 rfl (fun _ _ hu => ((hb102).kn hk106 (by omega)).cell hu) rfl) <| SR.store (o := 0) (vs := [.int .i64 m, .int .i64 v18, .int .i64 v37, .int .i64 v57, .int .i64 v78]) agg25.2 rfl rfl rfl rfl ((((((((((((hb6).lo hk12).kn hk17 (by omega)).lo hk30).kn hk36 (by omega)).lo hk49).kn hk56 (by omega)).lo hk69).kn hk77 (by omega)).lo hk90).kn hk100 (by omega)).kn hk106 (by omega)) (Nat.le_of_ble_eq_true rfl) rfl ?_)
            intro w290 hk291 hs292 hb293
            have hz294 := hk291.size
            have hB295 := hB114.new hk291 (by omega)
            refine SR.nil ?_
            refine W.ret ?_
            refine retC rfl rfl agg25 (hb293) rfl ?_
            exact ⟨(⟨m, v18, v37, v57, v78⟩ : LibRow), t108, s109, eR (eA rfl), ((hb110).kn hk291 (by omega)), ⟨by omega, by omega⟩, hB295⟩

theorem z_c___spec_l1Cur__libRows_38 (Lc : List UInt8) (tc : Int) (sc : Int) (nc : Nat) (htc : 0 ≤ tc ∧ tc + 160 ≤ 4611686018427387904) (hbdc : (nc : Int) ≤ 9223372036854775807) (hlec : nc = Lc.length) (v18 : Int) (t19 : Int) (s20 : Int) (ht22 : tc ≤ t19 ∧ t19 ≤ tc + 2) (hq23 : v18 ∈ ([0, 0, 500, 1180] : List Int)) (hq26 : (0 : Int) ≤ v18 ∧ v18 ≤ 1180) (v29 : Int) (t30 : Int) (s31 : Int) (ht33 : t19 ≤ t30 ∧ t30 ≤ t19 + 2) (hq34 : (0 : Int) ≤ v29 ∧ ((v29 : Int) < 7 ∨ (v29 : Int) = 0)) : ((0 ≤ v29 ∧ v29 ≤ 6) ∧ -10 ≤ v18 ∧ v18 ≤ 1180 + 3 * (6 - v29)) ∧ (([] : List LibRow).length : Int) + v29 ≤ 6 ∧ tc ≤ t30 ∧ t30 ≤ tc + 4 + 18 * (6 - v29) := by
  exact ⟨by omega, by simp; omega, by omega, by omega⟩
theorem z_c___spec_l1Cur__libRows_100 (Lc : List UInt8) (tc : Int) (sc : Int) (nc : Nat) (htc : 0 ≤ tc ∧ tc + 160 ≤ 4611686018427387904) (hbdc : (nc : Int) ≤ 9223372036854775807) (hlec : nc = Lc.length) (v18 : Int) (t19 : Int) (s20 : Int) (ht22 : tc ≤ t19 ∧ t19 ≤ tc + 2) (hq23 : v18 ∈ ([0, 0, 500, 1180] : List Int)) (hq26 : (0 : Int) ≤ v18 ∧ v18 ≤ 1180) (v29 : Int) (t30 : Int) (s31 : Int) (ht33 : t19 ≤ t30 ∧ t30 ≤ t19 + 2) (hq34 : (0 : Int) ≤ v29 ∧ ((v29 : Int) < 7 ∨ (v29 : Int) = 0)) (n : Int) (m : Int) (R : List LibRow) (t : Int) (z : Int) (n37 : Nat) (c37 : Nat) (hi46 : ((0 ≤ n ∧ n ≤ 6) ∧ -10 ≤ m ∧ m ≤ 1180 + 3 * (6 - n)) ∧ (R.length : Int) + n ≤ 6 ∧ tc ≤ t ∧ t ≤ tc + 4 + 18 * (6 - n)) (hl49 : n37 = (R).length) (hq51 : ((0 ≤ n ∧ n ≤ 6) ∧ -10 ≤ m ∧ m ≤ 1180 + 3 * (6 - n)) ∧ (R.length : Int) + n ≤ 6 ∧ tc ≤ t ∧ t ≤ tc + 4 + 18 * (6 - n)) (h52 : 0 < n) (v55 : Int) (t56 : Int) (s57 : Int) (ht59 : t ≤ t56 ∧ t56 ≤ t + 2) (hq60 : (0 : Int) ≤ v55 ∧ ((v55 : Int) < 3 ∨ (v55 : Int) = 0)) (v65 : Int) (t66 : Int) (s67 : Int) (ht69 : t56 ≤ t66 ∧ t66 ≤ t56 + 2) (hq70 : (0 : Int) ≤ v65 ∧ ((v65 : Int) < 150 ∨ (v65 : Int) = 0)) (v75 : LibRow) (t76 : Int) (s77 : Int) (ht79 : t66 ≤ t76 ∧ t76 ≤ t66 + 14) : ((0 ≤ n - 1 ∧ n - 1 ≤ 6) ∧ -10 ≤ ((m + 1) + v55) - (v65 / 149) ∧ ((m + 1) + v55) - (v65 / 149) ≤ 1180 + 3 * (6 - (n - 1))) ∧ ((R ++ ([v75] : List LibRow)).length : Int) + (n - 1) ≤ 6 ∧ tc ≤ t76 ∧ t76 ≤ tc + 4 + 18 * (6 - (n - 1)) := by
  exact ⟨by omega, by simp only [List.length_append, List.length_cons, List.length_nil]; omega, by omega, by omega⟩
theorem z_c___spec_l1Cur__libRows_101 (Lc : List UInt8) (tc : Int) (sc : Int) (nc : Nat) (htc : 0 ≤ tc ∧ tc + 160 ≤ 4611686018427387904) (hbdc : (nc : Int) ≤ 9223372036854775807) (hlec : nc = Lc.length) (v18 : Int) (t19 : Int) (s20 : Int) (ht22 : tc ≤ t19 ∧ t19 ≤ tc + 2) (hq23 : v18 ∈ ([0, 0, 500, 1180] : List Int)) (hq26 : (0 : Int) ≤ v18 ∧ v18 ≤ 1180) (v29 : Int) (t30 : Int) (s31 : Int) (ht33 : t19 ≤ t30 ∧ t30 ≤ t19 + 2) (hq34 : (0 : Int) ≤ v29 ∧ ((v29 : Int) < 7 ∨ (v29 : Int) = 0)) (n : Int) (m : Int) (R : List LibRow) (t : Int) (z : Int) (n37 : Nat) (c37 : Nat) (hi46 : ((0 ≤ n ∧ n ≤ 6) ∧ -10 ≤ m ∧ m ≤ 1180 + 3 * (6 - n)) ∧ (R.length : Int) + n ≤ 6 ∧ tc ≤ t ∧ t ≤ tc + 4 + 18 * (6 - n)) (hl49 : n37 = (R).length) (hq51 : ((0 ≤ n ∧ n ≤ 6) ∧ -10 ≤ m ∧ m ≤ 1180 + 3 * (6 - n)) ∧ (R.length : Int) + n ≤ 6 ∧ tc ≤ t ∧ t ≤ tc + 4 + 18 * (6 - n)) (h52 : 0 < n) (v55 : Int) (t56 : Int) (s57 : Int) (ht59 : t ≤ t56 ∧ t56 ≤ t + 2) (hq60 : (0 : Int) ≤ v55 ∧ ((v55 : Int) < 3 ∨ (v55 : Int) = 0)) (v65 : Int) (t66 : Int) (s67 : Int) (ht69 : t56 ≤ t66 ∧ t66 ≤ t56 + 2) (hq70 : (0 : Int) ≤ v65 ∧ ((v65 : Int) < 150 ∨ (v65 : Int) = 0)) (v75 : LibRow) (t76 : Int) (s77 : Int) (ht79 : t66 ≤ t76 ∧ t76 ≤ t66 + 14) : (n - 1).toNat < n.toNat := by
  omega
theorem z_c___spec_l1Cur__libRows_121 (Lc : List UInt8) (tc : Int) (sc : Int) (nc : Nat) (htc : 0 ≤ tc ∧ tc + 160 ≤ 4611686018427387904) (hbdc : (nc : Int) ≤ 9223372036854775807) (hlec : nc = Lc.length) (v18 : Int) (t19 : Int) (s20 : Int) (ht22 : tc ≤ t19 ∧ t19 ≤ tc + 2) (hq23 : v18 ∈ ([0, 0, 500, 1180] : List Int)) (hq26 : (0 : Int) ≤ v18 ∧ v18 ≤ 1180) (v29 : Int) (t30 : Int) (s31 : Int) (ht33 : t19 ≤ t30 ∧ t30 ≤ t19 + 2) (hq34 : (0 : Int) ≤ v29 ∧ ((v29 : Int) < 7 ∨ (v29 : Int) = 0)) (n : Int) (m : Int) (R : List LibRow) (t : Int) (z : Int) (n37 : Nat) (c37 : Nat) (hi46 : ((0 ≤ n ∧ n ≤ 6) ∧ -10 ≤ m ∧ m ≤ 1180 + 3 * (6 - n)) ∧ (R.length : Int) + n ≤ 6 ∧ tc ≤ t ∧ t ≤ tc + 4 + 18 * (6 - n)) (hl49 : n37 = (R).length) (hq51 : ((0 ≤ n ∧ n ≤ 6) ∧ -10 ≤ m ∧ m ≤ 1180 + 3 * (6 - n)) ∧ (R.length : Int) + n ≤ 6 ∧ tc ≤ t ∧ t ≤ tc + 4 + 18 * (6 - n)) (h52 : ¬ (0 < n)) (v104 : Bool) (t105 : Int) (s106 : Int) (ht108 : t ≤ t105 ∧ t105 ≤ t + 2) (h111 : v104 = true) : 0 ≤ 13 ∧ ([] : List LibRow).length ≤ 0 ∧ tc ≤ t105 ∧ t105 ≤ tc + 120 + 2 * (0 : Int) := by
  exact ⟨by omega, by simp, by omega, by omega⟩
theorem z_c___spec_l1Cur__libRows_164 (Lc : List UInt8) (tc : Int) (sc : Int) (nc : Nat) (htc : 0 ≤ tc ∧ tc + 160 ≤ 4611686018427387904) (hbdc : (nc : Int) ≤ 9223372036854775807) (hlec : nc = Lc.length) (v18 : Int) (t19 : Int) (s20 : Int) (ht22 : tc ≤ t19 ∧ t19 ≤ tc + 2) (hq23 : v18 ∈ ([0, 0, 500, 1180] : List Int)) (hq26 : (0 : Int) ≤ v18 ∧ v18 ≤ 1180) (v29 : Int) (t30 : Int) (s31 : Int) (ht33 : t19 ≤ t30 ∧ t30 ≤ t19 + 2) (hq34 : (0 : Int) ≤ v29 ∧ ((v29 : Int) < 7 ∨ (v29 : Int) = 0)) (n : Int) (m : Int) (R : List LibRow) (t : Int) (z : Int) (n37 : Nat) (c37 : Nat) (hi46 : ((0 ≤ n ∧ n ≤ 6) ∧ -10 ≤ m ∧ m ≤ 1180 + 3 * (6 - n)) ∧ (R.length : Int) + n ≤ 6 ∧ tc ≤ t ∧ t ≤ tc + 4 + 18 * (6 - n)) (hl49 : n37 = (R).length) (hq51 : ((0 ≤ n ∧ n ≤ 6) ∧ -10 ≤ m ∧ m ≤ 1180 + 3 * (6 - n)) ∧ (R.length : Int) + n ≤ 6 ∧ tc ≤ t ∧ t ≤ tc + 4 + 18 * (6 - n)) (h52 : ¬ (0 < n)) (v104 : Bool) (t105 : Int) (s106 : Int) (ht108 : t ≤ t105 ∧ t105 ≤ t + 2) (h111 : v104 = true) (k : Nat) (Q : List LibRow) (t2 : Int) (z2 : Int) (n120 : Nat) (c120 : Nat) (hi129 : k ≤ 13 ∧ Q.length ≤ k ∧ tc ≤ t2 ∧ t2 ≤ tc + 120 + 2 * (k : Int)) (hl132 : n120 = (Q).length) (hq134 : k ≤ 13 ∧ Q.length ≤ k ∧ tc ≤ t2 ∧ t2 ≤ tc + 120 + 2 * (k : Int)) (v137 : Int) (t138 : Int) (s139 : Int) (ht141 : t2 ≤ t138 ∧ t138 ≤ t2 + 2) (hq142 : (0 : Int) ≤ v137 ∧ ((v137 : Int) < 2 ∨ (v137 : Int) = 0)) (h145 : (k : Int) < (12 + v137)) : (k + 1) ≤ 13 ∧ (Q ++ ([(⟨(k : Int) + 1, 10 * ((k : Int) % 5), (k : Int), 0, 0⟩ : LibRow)] : List LibRow)).length ≤ (k + 1) ∧ tc ≤ t138 ∧ t138 ≤ tc + 120 + 2 * ((k + 1) : Int) := by
  exact ⟨by omega, by simp only [List.length_append, List.length_cons, List.length_nil]; omega, by omega, by omega⟩
theorem z_c___spec_l1Cur__libRows_165 (Lc : List UInt8) (tc : Int) (sc : Int) (nc : Nat) (htc : 0 ≤ tc ∧ tc + 160 ≤ 4611686018427387904) (hbdc : (nc : Int) ≤ 9223372036854775807) (hlec : nc = Lc.length) (v18 : Int) (t19 : Int) (s20 : Int) (ht22 : tc ≤ t19 ∧ t19 ≤ tc + 2) (hq23 : v18 ∈ ([0, 0, 500, 1180] : List Int)) (hq26 : (0 : Int) ≤ v18 ∧ v18 ≤ 1180) (v29 : Int) (t30 : Int) (s31 : Int) (ht33 : t19 ≤ t30 ∧ t30 ≤ t19 + 2) (hq34 : (0 : Int) ≤ v29 ∧ ((v29 : Int) < 7 ∨ (v29 : Int) = 0)) (n : Int) (m : Int) (R : List LibRow) (t : Int) (z : Int) (n37 : Nat) (c37 : Nat) (hi46 : ((0 ≤ n ∧ n ≤ 6) ∧ -10 ≤ m ∧ m ≤ 1180 + 3 * (6 - n)) ∧ (R.length : Int) + n ≤ 6 ∧ tc ≤ t ∧ t ≤ tc + 4 + 18 * (6 - n)) (hl49 : n37 = (R).length) (hq51 : ((0 ≤ n ∧ n ≤ 6) ∧ -10 ≤ m ∧ m ≤ 1180 + 3 * (6 - n)) ∧ (R.length : Int) + n ≤ 6 ∧ tc ≤ t ∧ t ≤ tc + 4 + 18 * (6 - n)) (h52 : ¬ (0 < n)) (v104 : Bool) (t105 : Int) (s106 : Int) (ht108 : t ≤ t105 ∧ t105 ≤ t + 2) (h111 : v104 = true) (k : Nat) (Q : List LibRow) (t2 : Int) (z2 : Int) (n120 : Nat) (c120 : Nat) (hi129 : k ≤ 13 ∧ Q.length ≤ k ∧ tc ≤ t2 ∧ t2 ≤ tc + 120 + 2 * (k : Int)) (hl132 : n120 = (Q).length) (hq134 : k ≤ 13 ∧ Q.length ≤ k ∧ tc ≤ t2 ∧ t2 ≤ tc + 120 + 2 * (k : Int)) (v137 : Int) (t138 : Int) (s139 : Int) (ht141 : t2 ≤ t138 ∧ t138 ≤ t2 + 2) (hq142 : (0 : Int) ≤ v137 ∧ ((v137 : Int) < 2 ∨ (v137 : Int) = 0)) (h145 : (k : Int) < (12 + v137)) : 20 - (k + 1) < 20 - k := by
  omega
theorem z_c___spec_l1Cur__libRows_166 (Lc : List UInt8) (tc : Int) (sc : Int) (nc : Nat) (htc : 0 ≤ tc ∧ tc + 160 ≤ 4611686018427387904) (hbdc : (nc : Int) ≤ 9223372036854775807) (hlec : nc = Lc.length) (v18 : Int) (t19 : Int) (s20 : Int) (ht22 : tc ≤ t19 ∧ t19 ≤ tc + 2) (hq23 : v18 ∈ ([0, 0, 500, 1180] : List Int)) (hq26 : (0 : Int) ≤ v18 ∧ v18 ≤ 1180) (v29 : Int) (t30 : Int) (s31 : Int) (ht33 : t19 ≤ t30 ∧ t30 ≤ t19 + 2) (hq34 : (0 : Int) ≤ v29 ∧ ((v29 : Int) < 7 ∨ (v29 : Int) = 0)) (n : Int) (m : Int) (R : List LibRow) (t : Int) (z : Int) (n37 : Nat) (c37 : Nat) (hi46 : ((0 ≤ n ∧ n ≤ 6) ∧ -10 ≤ m ∧ m ≤ 1180 + 3 * (6 - n)) ∧ (R.length : Int) + n ≤ 6 ∧ tc ≤ t ∧ t ≤ tc + 4 + 18 * (6 - n)) (hl49 : n37 = (R).length) (hq51 : ((0 ≤ n ∧ n ≤ 6) ∧ -10 ≤ m ∧ m ≤ 1180 + 3 * (6 - n)) ∧ (R.length : Int) + n ≤ 6 ∧ tc ≤ t ∧ t ≤ tc + 4 + 18 * (6 - n)) (h52 : ¬ (0 < n)) (v104 : Bool) (t105 : Int) (s106 : Int) (ht108 : t ≤ t105 ∧ t105 ≤ t + 2) (h111 : v104 = true) (k : Nat) (Q : List LibRow) (t2 : Int) (z2 : Int) (n120 : Nat) (c120 : Nat) (hi129 : k ≤ 13 ∧ Q.length ≤ k ∧ tc ≤ t2 ∧ t2 ≤ tc + 120 + 2 * (k : Int)) (hl132 : n120 = (Q).length) (hq134 : k ≤ 13 ∧ Q.length ≤ k ∧ tc ≤ t2 ∧ t2 ≤ tc + 120 + 2 * (k : Int)) (v137 : Int) (t138 : Int) (s139 : Int) (ht141 : t2 ≤ t138 ∧ t138 ≤ t2 + 2) (hq142 : (0 : Int) ≤ v137 ∧ ((v137 : Int) < 2 ∨ (v137 : Int) = 0)) (h145 : ¬ ((k : Int) < (12 + v137))) : Q.length ≤ 60 := by
  omega
theorem z_c___spec_l1Cur__libRows_167 (Lc : List UInt8) (tc : Int) (sc : Int) (nc : Nat) (htc : 0 ≤ tc ∧ tc + 160 ≤ 4611686018427387904) (hbdc : (nc : Int) ≤ 9223372036854775807) (hlec : nc = Lc.length) (v18 : Int) (t19 : Int) (s20 : Int) (ht22 : tc ≤ t19 ∧ t19 ≤ tc + 2) (hq23 : v18 ∈ ([0, 0, 500, 1180] : List Int)) (hq26 : (0 : Int) ≤ v18 ∧ v18 ≤ 1180) (v29 : Int) (t30 : Int) (s31 : Int) (ht33 : t19 ≤ t30 ∧ t30 ≤ t19 + 2) (hq34 : (0 : Int) ≤ v29 ∧ ((v29 : Int) < 7 ∨ (v29 : Int) = 0)) (n : Int) (m : Int) (R : List LibRow) (t : Int) (z : Int) (n37 : Nat) (c37 : Nat) (hi46 : ((0 ≤ n ∧ n ≤ 6) ∧ -10 ≤ m ∧ m ≤ 1180 + 3 * (6 - n)) ∧ (R.length : Int) + n ≤ 6 ∧ tc ≤ t ∧ t ≤ tc + 4 + 18 * (6 - n)) (hl49 : n37 = (R).length) (hq51 : ((0 ≤ n ∧ n ≤ 6) ∧ -10 ≤ m ∧ m ≤ 1180 + 3 * (6 - n)) ∧ (R.length : Int) + n ≤ 6 ∧ tc ≤ t ∧ t ≤ tc + 4 + 18 * (6 - n)) (h52 : ¬ (0 < n)) (v104 : Bool) (t105 : Int) (s106 : Int) (ht108 : t ≤ t105 ∧ t105 ≤ t + 2) (h111 : v104 = false) : R.length ≤ 60 := by
  omega
theorem c___spec_l1Cur__libRows (w : World) {gc ec : Nat} {Ac : Option Addr} {nc cc Bc : Nat} (Lc : List UInt8) (tc sc : Int) (hc : Blk w gc ec [.slice Ac nc cc, .int .i64 tc, .int .u64 sc]) (hLc : SlR w Bc encB 1 Ac nc cc Lc) (hgc : Bc ≤ gc) (htc : 0 ≤ tc ∧ tc + 160 ≤ 4611686018427387904) : Calls Tryz.prog 37 #[.pointer (some ⟨gc, 0, none⟩)] w fun e w' => ∃ (A1' : Option Addr) (n1' c1' : Nat) (L : List LibRow) (tc' sc' : Int), e = .returned (.slice A1' n1' c1') ∧ SlO w' w.heap.size encLibRow 5 25 A1' n1' c1' L ∧ Blk w' gc ec [.slice Ac nc cc, .int .i64 tc', .int .u64 sc'] ∧ (tc ≤ tc' ∧ tc' ≤ tc + 160) ∧ (L.length ≤ 60) ∧ Kp (fun b_ => b_ = gc) w w' := by
  refine calls_W 53 Tryz.func37 rfl rfl rfl ?_
  have hBlc := hc.lt
  have hbdc := hLc.bound
  have hlec := hLc.len
  have hBbc := hLc.bd
  refine W.seq ?_
  refine W.regS (SR.q' (r_as (v := .slice none 0 0) rfl) <| SR.nil ?_)
  refine W.seq ?_
  refine W.regS (SR.lit (vs := []) (L := ([] : List LibRow)) (enc := encLibRow) tel33 (fun _ => rfl) rfl rfl rfl (by decide) ?_)
  intro g1 w2 hg3 hk4 hO5
  have hz6 := hk4.size
  have hB7 := (Kp.refl w : Kp (fun b_ => b_ = gc) w w).lo hk4
  refine SR.q' (r_as (v := .slice _ _ _) rfl) <| SR.nil ?_
  refine W.seq ?_
  refine W.regS (SR.q' (r_mv (v := .pointer (some _)) rfl) <| SR.lit (vs := [.int .i64 0, .int .i64 0, .int .i64 500, .int .i64 1180]) (L := ([0, 0, 500, 1180] : List Int)) (enc := encI) tel39 (fun _ => rfl) rfl rfl rfl (by decide) ?_)
  intro g8 w9 hg10 hk11 hO12
  have hz13 := hk11.size
  have hB14 := hB7.lo hk11
  have hd15 : ¬ (some (⟨g1, 0, none⟩ : Addr)) = some ⟨g8, 0, none⟩ := fun e' => by have := (hO5).base_le e'; omega
  refine SR.call ent47 (c___spec_l1Cur__among w9 Lc tc sc (((hc).lo hk4).lo hk11) ((((hLc).lo hk4).lo hk11)) (by omega) (by omega) ([0, 0, 500, 1180] : List Int) (((hO12).rd)) (by omega) (by omega) (show ¬ g8 = gc from by first | omega | (have := (hO12).base_le rfl; omega))) rfl ?_
  rintro e w16 ⟨v18, t19, s20, rfl, hb21, ht22, hq23, hk17⟩
  refine ⟨_, rfl, ?_⟩
  have hz24 := hk17.size
  have hB25 := hB14.step hk17 (fun i_ hi_ e' => e')
  have hq26 : (0 : Int) ≤ v18 ∧ v18 ≤ 1180 := mem_rngB (lo := 0) (hi := 1180) (by decide) hq23
  refine SR.q' (r_as (v := .int .i64 _) rfl) <| SR.nil ?_
  refine W.seq ?_
  refine W.seq ?_
  refine W.regS (SR.q' (r_mv (v := .pointer (some _)) rfl) <| SR.call ent54 (c___spec_l1Cur__pick w16 Lc t19 s20 (hb21) (((((hLc).lo hk4).lo hk11).kn hk17 (by omega))) (by omega) (by omega) 7 (by first | omega | (simp only [List.length_append, List.length_cons, List.length_nil, List.length_take, List.length_drop]; omega))) rfl ?_)
  rintro e w27 ⟨v29, t30, s31, rfl, hb32, ht33, hq34, hk28⟩
  refine ⟨_, rfl, ?_⟩
  have hz35 := hk28.size
  have hB36 := hB25.step hk28 (fun i_ hi_ e' => e')
  refine SR.q' (r_as (v := .int .i64 _) rfl) <| SR.nil ?_
  refine W.block ?_
  refine W.loop (σ := Int × Int × (List LibRow) × Int × Int × (Option Addr) × Nat × Nat) (fun g => [(0, .pointer (some ((⟨gc, 0, none⟩ : Addr)))), (2, .slice none 0 0), (3, .slice g.2.2.2.2.2.1 g.2.2.2.2.2.2.1 g.2.2.2.2.2.2.2), (4, .int .i64 g.2.1), (5, .int .i64 g.1)]) (fun g w' => (Kp (fun b_ => b_ = gc) w w') ∧ (Blk w' gc ec [.slice Ac nc cc, .int .i64 g.2.2.2.1, .int .u64 g.2.2.2.2.1]) ∧ (SlR w' Bc encB 1 Ac nc cc Lc) ∧ (SlO w' w.heap.size encLibRow 5 25 g.2.2.2.2.2.1 g.2.2.2.2.2.2.1 g.2.2.2.2.2.2.2 g.2.2.1) ∧ (¬ g.2.2.2.2.2.1 = some ⟨gc, 0, none⟩) ∧ (((0 ≤ g.1 ∧ g.1 ≤ 6) ∧ -10 ≤ g.2.1 ∧ g.2.1 ≤ 1180 + 3 * (6 - g.1)) ∧ (g.2.2.1.length : Int) + g.1 ≤ 6 ∧ tc ≤ g.2.2.2.1 ∧ g.2.2.2.1 ≤ tc + 4 + 18 * (6 - g.1))) (fun g => g.1.toNat) (v29, v18, ([] : List LibRow), t30, s31, (some (⟨g1, 0, none⟩ : Addr)), 0, 0) ?_ ?_ ?_
  · exact ⟨rfl, rfl, rfl, rfl, rfl, trivial⟩
  · show (Kp (fun b_ => b_ = gc) w w27) ∧ (Blk w27 gc ec [.slice Ac nc cc, .int .i64 t30, .int .u64 s31]) ∧ (SlR w27 Bc encB 1 Ac nc cc Lc) ∧ (SlO w27 w.heap.size encLibRow 5 25 (some (⟨g1, 0, none⟩ : Addr)) 0 0 ([] : List LibRow)) ∧ (¬ (some (⟨g1, 0, none⟩ : Addr)) = some ⟨gc, 0, none⟩) ∧ (((0 ≤ v29 ∧ v29 ≤ 6) ∧ -10 ≤ v18 ∧ v18 ≤ 1180 + 3 * (6 - v29)) ∧ (([] : List LibRow).length : Int) + v29 ≤ 6 ∧ tc ≤ t30 ∧ t30 ≤ tc + 4 + 18 * (6 - v29))
    exact ⟨hB36, (hb32), ((((hLc).lo hk4).lo hk11).kn hk17 (by omega)).kn hk28 (by omega), ((((hO5).lo hk11).kn hk17 (by omega)).kn hk28 (by omega)), (fun e' => by have := ((((hO5).lo hk11).kn hk17 (by omega)).kn hk28 (by omega)).base_le e'; omega), (z_c___spec_l1Cur__libRows_38 Lc tc sc nc htc hbdc hlec v18 t19 s20 ht22 hq23 hq26 v29 t30 s31 ht33 hq34)⟩
  · rintro ⟨n, m, R, t, z, A37, n37, c37⟩ f39 w40 hP42
    obtain ⟨hB41, hm43, hm44, hO45, hd47, hi46⟩ : (Kp (fun b_ => b_ = gc) w w40) ∧ (Blk w40 gc ec [.slice Ac nc cc, .int .i64 t, .int .u64 z]) ∧ (SlR w40 Bc encB 1 Ac nc cc Lc) ∧ (SlO w40 w.heap.size encLibRow 5 25 A37 n37 c37 R) ∧ (¬ A37 = some ⟨gc, 0, none⟩) ∧ (((0 ≤ n ∧ n ≤ 6) ∧ -10 ≤ m ∧ m ≤ 1180 + 3 * (6 - n)) ∧ (R.length : Int) + n ≤ 6 ∧ tc ≤ t ∧ t ≤ tc + 4 + 18 * (6 - n)) := hP42
    refine (?_ : W _ _ _ _ _ (act _ (sets f39 [(0, .pointer (some ((⟨gc, 0, none⟩ : Addr)))), (2, .slice none 0 0), (3, .slice A37 n37 c37), (4, .int .i64 m), (5, .int .i64 n)])) _)
    have hzw40 := hB41.size
    have hl48 := hm43.lt
    have hl49 := hO45.len
    have hl50 := hO45.rd.bound
    have hq51 : ((0 ≤ n ∧ n ≤ 6) ∧ -10 ≤ m ∧ m ≤ 1180 + 3 * (6 - n)) ∧ (R.length : Int) + n ≤ 6 ∧ tc ≤ t ∧ t ≤ tc + 4 + 18 * (6 - n) := hi46
    refine W.seq ?_
    refine W.seq ?_
    refine W.regS (SR.q' (r_mv (v := .int .i64 _) rfl) <| SR.q' (r_gt rfl rfl) <| SR.nil ?_)
    refine W.cond_d rfl (fun h52 => ?_) (fun h52 => ?_)
    · refine W.skip ?_
      refine W.seq ?_
      refine W.block ?_
      refine W.seq ?_
      refine W.regS (SR.q' (r_mv (v := .int .i64 _) rfl) <| SR.q' (r_add rfl rfl (by omega)) <| SR.q' (r_mv (v := .pointer (some _)) rfl) <| SR.call ent54 (c___spec_l1Cur__pick w40 Lc t z (hm43) ((hm44)) (by omega) (by omega) 3 (by first | omega | (simp only [List.length_append, List.length_cons, List.length_nil, List.length_take, List.length_drop]; omega))) rfl ?_)
      rintro e w53 ⟨v55, t56, s57, rfl, hb58, ht59, hq60, hk54⟩
      refine ⟨_, rfl, ?_⟩
      have hz61 := hk54.size
      have hB62 := hB41.step hk54 (fun i_ hi_ e' => e')
      refine SR.q' (r_add rfl rfl (by omega)) <| SR.q' (r_mv (v := .pointer (some _)) rfl) <| SR.call ent54 (c___spec_l1Cur__pick w53 Lc t56 s57 (hb58) (((hm44).kn hk54 (by omega))) (by omega) (by omega) 150 (by first | omega | (simp only [List.length_append, List.length_cons, List.length_nil, List.length_take, List.length_drop]; omega))) rfl ?_
      rintro e w63 ⟨v65, t66, s67, rfl, hb68, ht69, hq70, hk64⟩
      refine ⟨_, rfl, ?_⟩
      have hz71 := hk64.size
      have hB72 := hB62.step hk64 (fun i_ hi_ e' => e')
      refine SR.q' (r_quo rfl rfl (by omega)) <| SR.q' (r_sub rfl rfl (by omega)) <| SR.q' (r_as (v := .int .i64 _) rfl) <| SR.nil ?_
      refine W.regS (SR.q' (r_mv (v := .slice _ _ _) rfl) <| SR.q' (r_mv (v := .pointer (some _)) rfl) <| SR.q' (r_mv (v := .int .i64 _) rfl) <| SR.call ent46 (c___spec_l1Cur__libRow w63 Lc t66 s67 (hb68) ((((hm44).kn hk54 (by omega)).kn hk64 (by omega))) (by omega) (by omega) (((m + 1) + v55) - (v65 / 149))) rfl ?_)
      rintro e w73 ⟨v75, t76, s77, rfl, hb78, ht79, hk74⟩
      refine ⟨_, rfl, ?_⟩
      have hz80 := hk74.size
      have hB81 := hB72.step hk74 (fun i_ hi_ e' => e')
      refine SR.lit (vs := [.agg (List.toArray [.int .i64 v75.Month, .int .i64 v75.Lent, .int .i64 v75.Copied, .int .i64 v75.Given, .int .i64 v75.Fines])]) (L := ([v75] : List LibRow)) (enc := encLibRow) tel33 (fun _ => rfl) rfl rfl rfl (by decide) ?_
      intro g82 w83 hg84 hk85 hO86
      have hz87 := hk85.size
      have hB88 := hB81.lo hk85
      have hd89 : ¬ A37 = some ⟨g82, 0, none⟩ := fun e' => by have := ((((hO45).kd hk54 hd47).kd hk64 hd47).kd hk74 hd47).base_le e'; omega
      refine SR.app tel33 rfl rfl (((((hO45).kd hk54 hd47).kd hk64 hd47).kd hk74 hd47).lo hk85) ((hO86).rd) (fun _ => rfl) (by omega) (by omega) ?_
      intro A90 c91 w92 hk93 hO94 hN95
      have hz96 := hk93.size
      have hB97 := hB88.step hk93 (fun i_ hi_ e' => by have := ((((((hO45).kd hk54 hd47).kd hk64 hd47).kd hk74 hd47).lo hk85)).base_le e'; first | omega | (exfalso; omega) | exact e' | exact .inl e' | exact .inr e')
      have hd98 : ¬ A90 = some ⟨gc, 0, none⟩ := fun e' => (hN95 gc e').elim (fun h => hd47 (h.trans e')) (fun h => by have := ((hb78).lo hk85).lt; omega)
      refine SR.q' (r_as (v := .slice _ _ _) rfl) <| SR.nil ?_
      refine W.regS (SR.q' (r_mv (v := .int .i64 _) rfl) <| SR.q' (r_sub rfl rfl (by omega)) <| SR.q' (r_as (v := .int .i64 _) rfl) <| SR.nil ?_)
      refine ⟨(n - 1, ((m + 1) + v55) - (v65 / 149), R ++ ([v75] : List LibRow), t76, s77, A90, n37 + 1, c91), _, rfl, ⟨rfl, rfl, rfl, rfl, rfl, trivial⟩, (show (Kp (fun b_ => b_ = gc) w w92) ∧ (Blk w92 gc ec [.slice Ac nc cc, .int .i64 t76, .int .u64 s77]) ∧ (SlR w92 Bc encB 1 Ac nc cc Lc) ∧ (SlO w92 w.heap.size encLibRow 5 25 A90 (n37 + 1) c91 (R ++ ([v75] : List LibRow))) ∧ (¬ A90 = some ⟨gc, 0, none⟩) ∧ (((0 ≤ n - 1 ∧ n - 1 ≤ 6) ∧ -10 ≤ ((m + 1) + v55) - (v65 / 149) ∧ ((m + 1) + v55) - (v65 / 149) ≤ 1180 + 3 * (6 - (n - 1))) ∧ ((R ++ ([v75] : List LibRow)).length : Int) + (n - 1) ≤ 6 ∧ tc ≤ t76 ∧ t76 ≤ tc + 4 + 18 * (6 - (n - 1))) from ⟨hB97, (((hb78).lo hk85).kp hk93 (fun e' => hd47 e')), (((((hm44).kn hk54 (by omega)).kn hk64 (by omega)).kn hk74 (by omega)).lo hk85).kp hk93 (fun b_ hb e' => by have := ((((((hO45).kd hk54 hd47).kd hk64 hd47).kd hk74 hd47).lo hk85)).base_le e'; omega), (hO94), hd98, ?_⟩), ?_⟩
      · exact (z_c___spec_l1Cur__libRows_100 Lc tc sc nc htc hbdc hlec v18 t19 s20 ht22 hq23 hq26 v29 t30 s31 ht33 hq34 n m R t z n37 c37 hi46 hl49 hq51 h52 v55 t56 s57 ht59 hq60 v65 t66 s67 ht69 hq70 v75 t76 s77 ht79)
      · exact (z_c___spec_l1Cur__libRows_101 Lc tc sc nc htc hbdc hlec v18 t19 s20 ht22 hq23 hq26 v29 t30 s31 ht33 hq34 n m R t z n37 c37 hi46 hl49 hq51 h52 v55 t56 s57 ht59 hq60 v65 t66 s67 ht69 hq70 v75 t76 s77 ht79)
    · refine W.exit (xin_here ?_)
      refine W.seq ?_
      refine W.seq ?_
      refine W.regS (SR.q' (r_mv (v := .pointer (some _)) rfl) <| SR.call ent32 (c___spec_l1Cur__one w40 Lc t z (hm43) ((hm44)) (by omega) (by omega) 24 (by first | omega | (simp only [List.length_append, List.length_cons, List.length_nil, List.length_take, List.length_drop]; omega))) rfl ?_)
      rintro e w102 ⟨v104, t105, s106, rfl, hb107, ht108, hk103⟩
      refine ⟨_, rfl, ?_⟩
      have hz109 := hk103.size
      have hB110 := hB41.step hk103 (fun i_ hi_ e' => e')
      refine SR.nil ?_
      refine W.cond_b rfl (fun h111 => ?_) (fun h111 => ?_)
      · refine W.seq ?_
        refine W.regS (SR.lit (vs := []) (L := ([] : List LibRow)) (enc := encLibRow) tel33 (fun _ => rfl) rfl rfl rfl (by decide) ?_)
        intro g112 w113 hg114 hk115 hO116
        have hz117 := hk115.size
        have hB118 := hB110.lo hk115
        have hd119 : ¬ A37 = some ⟨g112, 0, none⟩ := fun e' => by have := ((hO45).kd hk103 hd47).base_le e'; omega
        refine SR.q' (r_as (v := .slice _ _ _) rfl) <| SR.nil ?_
        refine W.seq ?_
        refine W.regS (SR.q' (r_as (v := .int .i64 0) rfl) <| SR.nil ?_)
        refine W.block ?_
        refine W.loop (σ := Nat × (List LibRow) × Int × Int × (Option Addr) × Nat × Nat) (fun g => [(0, .pointer (some ((⟨gc, 0, none⟩ : Addr)))), (2, .slice none 0 0), (3, .slice g.2.2.2.2.1 g.2.2.2.2.2.1 g.2.2.2.2.2.2), (6, .int .i64 (g.1 : Int))]) (fun g w' => (Kp (fun b_ => b_ = gc) w w') ∧ (Blk w' gc ec [.slice Ac nc cc, .int .i64 g.2.2.1, .int .u64 g.2.2.2.1]) ∧ (SlR w' Bc encB 1 Ac nc cc Lc) ∧ (SlO w' w.heap.size encLibRow 5 25 g.2.2.2.2.1 g.2.2.2.2.2.1 g.2.2.2.2.2.2 g.2.1) ∧ (¬ g.2.2.2.2.1 = some ⟨gc, 0, none⟩) ∧ (g.1 ≤ 13 ∧ g.2.1.length ≤ g.1 ∧ tc ≤ g.2.2.1 ∧ g.2.2.1 ≤ tc + 120 + 2 * (g.1 : Int))) (fun g => 20 - g.1) (0, ([] : List LibRow), t105, s106, (some (⟨g112, 0, none⟩ : Addr)), 0, 0) ?_ ?_ ?_
        · exact ⟨rfl, rfl, rfl, (eI (by first | (first | rfl | omega) | (dsimp only; (first | rfl | omega)))), trivial⟩
        · show (Kp (fun b_ => b_ = gc) w w113) ∧ (Blk w113 gc ec [.slice Ac nc cc, .int .i64 t105, .int .u64 s106]) ∧ (SlR w113 Bc encB 1 Ac nc cc Lc) ∧ (SlO w113 w.heap.size encLibRow 5 25 (some (⟨g112, 0, none⟩ : Addr)) 0 0 ([] : List LibRow)) ∧ (¬ (some (⟨g112, 0, none⟩ : Addr)) = some ⟨gc, 0, none⟩) ∧ (0 ≤ 13 ∧ ([] : List LibRow).length ≤ 0 ∧ tc ≤ t105 ∧ t105 ≤ tc + 120 + 2 * (0 : Int))
          exact ⟨hB118, ((hb107).lo hk115), ((hm44).kn hk103 (by omega)).lo hk115, ((hO116).down (by omega)), (fun e' => by have := (hO116).base_le e'; omega), (z_c___spec_l1Cur__libRows_121 Lc tc sc nc htc hbdc hlec v18 t19 s20 ht22 hq23 hq26 v29 t30 s31 ht33 hq34 n m R t z n37 c37 hi46 hl49 hq51 h52 v104 t105 s106 ht108 h111)⟩
        · rintro ⟨k, Q, t2, z2, A120, n120, c120⟩ f122 w123 hP125
          obtain ⟨hB124, hm126, hm127, hO128, hd130, hi129⟩ : (Kp (fun b_ => b_ = gc) w w123) ∧ (Blk w123 gc ec [.slice Ac nc cc, .int .i64 t2, .int .u64 z2]) ∧ (SlR w123 Bc encB 1 Ac nc cc Lc) ∧ (SlO w123 w.heap.size encLibRow 5 25 A120 n120 c120 Q) ∧ (¬ A120 = some ⟨gc, 0, none⟩) ∧ (k ≤ 13 ∧ Q.length ≤ k ∧ tc ≤ t2 ∧ t2 ≤ tc + 120 + 2 * (k : Int)) := hP125
          refine (?_ : W _ _ _ _ _ (act _ (sets f122 [(0, .pointer (some ((⟨gc, 0, none⟩ : Addr)))), (2, .slice none 0 0), (3, .slice A120 n120 c120), (6, .int .i64 (k : Int))])) _)
          have hzw123 := hB124.size
          have hl131 := hm126.lt
          have hl132 := hO128.len
          have hl133 := hO128.rd.bound
          have hq134 : k ≤ 13 ∧ Q.length ≤ k ∧ tc ≤ t2 ∧ t2 ≤ tc + 120 + 2 * (k : Int) := hi129
          refine W.seq ?_
          refine W.seq ?_
          refine W.regS (SR.q' (r_mv (v := .int .i64 _) rfl) <| SR.q' (r_mv (v := .pointer (some _)) rfl) <| SR.call ent54 (c___spec_l1Cur__pick w123 Lc t2 z2 (hm126) ((hm127)) (by omega) (by omega) 2 (by first | omega | (simp only [List.length_append, List.length_cons, List.length_nil, List.length_take, List.length_drop]; omega))) rfl ?_)
          rintro e w135 ⟨v137, t138, s139, rfl, hb140, ht141, hq142, hk136⟩
          refine ⟨_, rfl, ?_⟩
          have hz143 := hk136.size
          have hB144 := hB124.step hk136 (fun i_ hi_ e' => e')
          refine SR.q' (r_add rfl rfl (by omega)) <| SR.q' (r_lt rfl rfl) <| SR.nil ?_
          refine W.cond_d rfl (fun h145 => ?_) (fun h145 => ?_)
          · refine W.skip ?_
            refine W.seq ?_
            refine W.block ?_
            refine W.regS (SR.q' (r_mv (v := .slice _ _ _) rfl) <| SR.q' (r_mv (v := .int .i64 _) rfl) <| SR.q' (r_add rfl rfl (by omega)) <| SR.q' (r_mv (v := .int .i64 _) rfl) <| SR.q' (r_rem rfl rfl (by omega)) <| SR.q' (r_mul rfl rfl (by omega)) <| SR.q' (r_mv (v := .int .i64 _) rfl) <| SR.q' (r_build (vs := [(0, .int .i64 ((k : Int) + 1)), (1, .int .i64 (10 * ((k : Int) % 5))), (2, .int .i64 (k : Int))]) rfl (bld25_0_1_2 _ _ _)) <| SR.lit (vs := [.agg (List.toArray [.int .i64 ((k : Int) + 1), .int .i64 (10 * ((k : Int) % 5)), .int .i64 (k : Int), .int .i64 0, .int .i64 0])]) (L := ([(⟨(k : Int) + 1, 10 * ((k : Int) % 5), (k : Int), 0, 0⟩ : LibRow)] : List LibRow)) (enc := encLibRow) tel33 (fun _ => rfl) rfl rfl rfl (by decide) ?_)
            intro g146 w147 hg148 hk149 hO150
            have hz151 := hk149.size
            have hB152 := hB144.lo hk149
            have hd153 : ¬ A120 = some ⟨g146, 0, none⟩ := fun e' => by have := ((hO128).kd hk136 hd130).base_le e'; omega
            refine SR.app tel33 rfl rfl (((hO128).kd hk136 hd130).lo hk149) ((hO150).rd) (fun _ => rfl) (by omega) (by omega) ?_
            intro A154 c155 w156 hk157 hO158 hN159
            have hz160 := hk157.size
            have hB161 := hB152.step hk157 (fun i_ hi_ e' => by have := ((((hO128).kd hk136 hd130).lo hk149)).base_le e'; first | omega | (exfalso; omega) | exact e' | exact .inl e' | exact .inr e')
            have hd162 : ¬ A154 = some ⟨gc, 0, none⟩ := fun e' => (hN159 gc e').elim (fun h => hd130 (h.trans e')) (fun h => by have := ((hb140).lo hk149).lt; omega)
            refine SR.q' (r_as (v := .slice _ _ _) rfl) <| SR.nil ?_
            refine W.regS (SR.q' (r_mv (v := .int .i64 _) rfl) <| SR.q' (r_add rfl rfl (by omega)) <| SR.q' (r_as (v := .int .i64 _) rfl) <| SR.nil ?_)
            refine ⟨((k + 1), Q ++ ([(⟨(k : Int) + 1, 10 * ((k : Int) % 5), (k : Int), 0, 0⟩ : LibRow)] : List LibRow), t138, s139, A154, n120 + 1, c155), _, rfl, ⟨rfl, rfl, rfl, (eI (by first | (first | rfl | omega) | (dsimp only; (first | rfl | omega)))), trivial⟩, (show (Kp (fun b_ => b_ = gc) w w156) ∧ (Blk w156 gc ec [.slice Ac nc cc, .int .i64 t138, .int .u64 s139]) ∧ (SlR w156 Bc encB 1 Ac nc cc Lc) ∧ (SlO w156 w.heap.size encLibRow 5 25 A154 (n120 + 1) c155 (Q ++ ([(⟨(k : Int) + 1, 10 * ((k : Int) % 5), (k : Int), 0, 0⟩ : LibRow)] : List LibRow))) ∧ (¬ A154 = some ⟨gc, 0, none⟩) ∧ ((k + 1) ≤ 13 ∧ (Q ++ ([(⟨(k : Int) + 1, 10 * ((k : Int) % 5), (k : Int), 0, 0⟩ : LibRow)] : List LibRow)).length ≤ (k + 1) ∧ tc ≤ t138 ∧ t138 ≤ tc + 120 + 2 * ((k + 1) : Int)) from ⟨hB161, (((hb140).lo hk149).kp hk157 (fun e' => hd130 e')), (((hm127).kn hk136 (by omega)).lo hk149).kp hk157 (fun b_ hb e' => by have := ((((hO128).kd hk136 hd130).lo hk149)).base_le e'; omega), (hO158), hd162, ?_⟩), ?_⟩
            · exact (z_c___spec_l1Cur__libRows_164 Lc tc sc nc htc hbdc hlec v18 t19 s20 ht22 hq23 hq26 v29 t30 s31 ht33 hq34 n m R t z n37 c37 hi46 hl49 hq51 h52 v104 t105 s106 ht108 h111 k Q t2 z2 n120 c120 hi129 hl132 hq134 v137 t138 s139 ht141 hq142 h145)
            · exact (z_c___spec_l1Cur__libRows_165 Lc tc sc nc htc hbdc hlec v18 t19 s20 ht22 hq23 hq26 v29 t30 s31 ht33 hq34 n m R t z n37 c37 hi46 hl49 hq51 h52 v104 t105 s106 ht108 h111 k Q t2 z2 n120 c120 hi129 hl132 hq134 v137 t138 s139 ht141 hq142 h145)
          · refine W.exit (xin_here ?_)
            refine W.seq ?_
            refine W.regS (SR.q' (r_mv (v := .slice _ _ _) rfl) <| SR.q' (r_as (v := .slice _ _ _) rfl) <| SR.nil ?_)
            refine W.ret ?_
            refine ret1 rfl (v := .slice _ _ _) rfl ?_
            exact ⟨A120, n120, c120, Q, t138, s139, eR rfl, (((hO128).kd hk136 hd130).down (by omega)), (hb140), ⟨by omega, by omega⟩, (z_c___spec_l1Cur__libRows_166 Lc tc sc nc htc hbdc hlec v18 t19 s20 ht22 hq23 hq26 v29 t30 s31 ht33 hq34 n m R t z n37 c37 hi46 hl49 hq51 h52 v104 t105 s106 ht108 h111 k Q t2 z2 n120 c120 hi129 hl132 hq134 v137 t138 s139 ht141 hq142 h145), hB144⟩
      · refine W.skip ?_
        refine W.seq ?_
        refine W.regS (SR.q' (r_mv (v := .slice _ _ _) rfl) <| SR.q' (r_as (v := .slice _ _ _) rfl) <| SR.nil ?_)
        refine W.ret ?_
        refine ret1 rfl (v := .slice _ _ _) rfl ?_
        exact ⟨A37, n37, c37, R, t105, s106, eR rfl, (((hO45).kd hk103 hd47).down (by omega)), (hb107), ⟨by omega, by omega⟩, (z_c___spec_l1Cur__libRows_167 Lc tc sc nc htc hbdc hlec v18 t19 s20 ht22 hq23 hq26 v29 t30 s31 ht33 hq34 n m R t z n37 c37 hi46 hl49 hq51 h52 v104 t105 s106 ht108 h111), hB110⟩

theorem z_c_laws_rBig_1 (L : List UInt8) (nL : Nat) (hbdL : (nL : Int) ≤ 9223372036854775807) (hleL : nL = L.length) : (65536 < (nL : Int)) ↔ (65536 < (L.length : Int)) := by
  omega
theorem c_laws_rBig (w : World) {AL : Option Addr} {nL cL BL : Nat}  (L : List UInt8) (hL : SlR w BL encB 1 AL nL cL L) : Calls Tryz.prog 4 #[.slice AL nL cL] w fun e w' => e = .returned (.bool (decide (65536 < (L.length : Int)))) ∧ Lo w w' := by
  refine calls_W 6 Tryz.func4 rfl rfl rfl ?_
  have hbdL := hL.bound
  have hleL := hL.len
  have hBbL := hL.bd
  refine W.seq ?_
  refine W.regS (SR.q' (r_as (v := .bool false) rfl) <| SR.nil ?_)
  refine W.seq ?_
  refine W.regS (SR.q' (r_mv (v := .slice _ _ _) rfl) <| SR.q' (r_len und22 rfl) <| SR.q' (r_gt rfl rfl) <| SR.q' (r_as (v := .bool _) rfl) <| SR.nil ?_)
  refine W.ret ?_
  refine ret1 rfl (v := .bool _) rfl ?_
  exact ⟨eR (eDD (z_c_laws_rBig_1 L nL hbdL hleL)), (Lo.refl w)⟩

theorem c_spec_DrawIsLibRow (w : World) {AL : Option Addr} {nL cL BL : Nat}  (L : List UInt8) (hL : SlR w BL encB 1 AL nL cL L) (hp0 : (nL : Int) ≤ 65536) : Calls Tryz.prog 22 #[.slice AL nL cL] w fun e w' => ∃ (r : LibRow), e = .returned (.agg (List.toArray [.int .i64 r.Month, .int .i64 r.Lent, .int .i64 r.Copied, .int .i64 r.Given, .int .i64 r.Fines])) ∧ Lo w w' := by
  refine calls_W 12 Tryz.func22 rfl rfl rfl ?_
  have hbdL := hL.bound
  have hleL := hL.len
  have hBbL := hL.bd
  refine W.seq ?_
  refine W.regS (SR.alloc (l := [.int .i64 0, .int .i64 0, .int .i64 0, .int .i64 0, .int .i64 0]) tz25 rfl ?_)
  intro g1 w2 hg3 hk4 hs5 hb6
  have hz7 := hk4.size
  have hB8 := (Lo.refl w).lo hk4
  refine SR.nil ?_
  refine W.seq ?_
  refine W.regS (SR.q' (r_mv (v := .slice _ _ _) rfl) <| SR.q' (r_build (vs := [(0, .slice AL nL cL)]) rfl (bld56_0 _ _ _)) <| SR.box (v := .agg (List.toArray _)) (l := [.slice AL nL cL, .int .i64 0, .int .u64 0]) rfl rfl ?_)
  intro g9 w10 hg11 hk12 hs13 hb14
  have hz15 := hk12.size
  have hB16 := hB8.lo hk12
  refine SR.q' (r_as (v := .pointer (some _)) rfl) <| SR.nil ?_
  refine W.seq ?_
  refine W.regS (SR.q' (r_mv (v := .pointer (some _)) rfl) <| SR.q' (r_mv (v := .pointer (some _)) rfl) <| SR.lit (vs := [.int .i64 1, .int .i64 42, .int .i64 1200]) (L := ([1, 42, 1200] : List Int)) (enc := encI) tel39 (fun _ => rfl) rfl rfl rfl (by decide) ?_)
  intro g17 w18 hg19 hk20 hO21
  have hz22 := hk20.size
  have hB23 := hB16.lo hk20
  refine SR.call ent47 (c___spec_l1Cur__among w18 L 0 0 ((hb14).lo hk20) (((((hL).lo hk4).lo hk12).lo hk20)) (by omega) (by omega) ([1, 42, 1200] : List Int) (((hO21).rd)) (by omega) (by omega) (show ¬ g17 = g9 from by first | omega | (have := (hO21).base_le rfl; omega))) rfl ?_
  rintro e w24 ⟨v26, t27, s28, rfl, hb29, ht30, hq31, hk25⟩
  refine ⟨_, rfl, ?_⟩
  have hz32 := hk25.size
  have hB33 := hB23.new hk25 (by omega)
  have hq34 : (1 : Int) ≤ v26 ∧ v26 ≤ 1200 := mem_rngB (lo := 1) (hi := 1200) (by decide) hq31
  refine SR.call ent46 (c___spec_l1Cur__libRow w24 L t27 s28 (hb29) ((((((hL).lo hk4).lo hk12).lo hk20).kn hk25 (by omega))) (by omega) (by omega) v26) rfl ?_
  rintro e w35 ⟨v37, t38, s39, rfl, hb40, ht41, hk36⟩
  refine ⟨_, rfl, ?_⟩
  have hz42 := hk36.size
  have hB43 := hB33.new hk36 (by omega)
  refine SR.store (o := 0) (vs := [.int .i64 v37.Month, .int .i64 v37.Lent, .int .i64 v37.Copied, .int .i64 v37.Given, .int .i64 v37.Fines]) agg25.2 rfl rfl rfl rfl (((((hb6).lo hk12).lo hk20).kn hk25 (by omega)).kn hk36 (by omega)) (Nat.le_of_ble_eq_true rfl) rfl ?_
  intro w44 hk45 hs46 hb47
  have hz48 := hk45.size
  have hB49 := hB43.new hk45 (by omega)
  refine SR.nil ?_
  refine W.ret ?_
  refine retC rfl rfl agg25 (hb47) rfl ?_
  exact ⟨v37, eR rfl, hB49⟩

theorem c_spec_DrawLibLine (w : World) {AL : Option Addr} {nL cL BL : Nat}  (L : List UInt8) (hL : SlR w BL encB 1 AL nL cL L) (hp0 : (nL : Int) ≤ 65536) : Calls Tryz.prog 5 #[.slice AL nL cL] w fun e w' => ∃ (r : LibRow), e = .returned (.agg (List.toArray [.int .i64 r.Month, .int .i64 r.Lent, .int .i64 r.Copied, .int .i64 r.Given, .int .i64 r.Fines])) ∧ Lo w w' := by
  refine calls_W 5 Tryz.func5 rfl rfl rfl ?_
  have hbdL := hL.bound
  have hleL := hL.len
  have hBbL := hL.bd
  refine W.seq ?_
  refine W.regS (SR.alloc (l := [.int .i64 0, .int .i64 0, .int .i64 0, .int .i64 0, .int .i64 0]) tz25 rfl ?_)
  intro g1 w2 hg3 hk4 hs5 hb6
  have hz7 := hk4.size
  have hB8 := (Lo.refl w).lo hk4
  refine SR.nil ?_
  refine W.seq ?_
  refine W.regS (SR.q' (r_mv (v := .slice _ _ _) rfl) <| SR.call ent22 (c_spec_DrawIsLibRow w2 L (((hL).lo hk4)) (by omega)) rfl ?_)
  rintro e w9 ⟨v11, rfl, hk10⟩
  refine ⟨_, rfl, ?_⟩
  have hz12 := hk10.size
  have hB13 := hB8.lo hk10
  refine SR.store (o := 0) (vs := [.int .i64 v11.Month, .int .i64 v11.Lent, .int .i64 v11.Copied, .int .i64 v11.Given, .int .i64 v11.Fines]) agg25.2 rfl rfl rfl rfl ((hb6).lo hk10) (Nat.le_of_ble_eq_true rfl) rfl ?_
  intro w14 hk15 hs16 hb17
  have hz18 := hk15.size
  have hB19 := hB13.new hk15 (by omega)
  refine SR.nil ?_
  refine W.ret ?_
  refine retC rfl rfl agg25 (hb17) rfl ?_
  exact ⟨v11, eR rfl, hB19⟩

theorem c_spec_DrawAreLibRows (w : World) {AL : Option Addr} {nL cL BL : Nat}  (L : List UInt8) (hL : SlR w BL encB 1 AL nL cL L) (hp0 : (nL : Int) ≤ 65536) : Calls Tryz.prog 42 #[.slice AL nL cL] w fun e w' => ∃ (A1' : Option Addr) (n1' c1' : Nat) (R : List LibRow), e = .returned (.slice A1' n1' c1') ∧ SlO w' w.heap.size encLibRow 5 25 A1' n1' c1' R ∧ (R.length ≤ 60) ∧ Lo w w' := by
  refine calls_W 9 Tryz.func42 rfl rfl rfl ?_
  have hbdL := hL.bound
  have hleL := hL.len
  have hBbL := hL.bd
  refine W.seq ?_
  refine W.regS (SR.q' (r_as (v := .slice none 0 0) rfl) <| SR.nil ?_)
  refine W.seq ?_
  refine W.regS (SR.q' (r_mv (v := .slice _ _ _) rfl) <| SR.q' (r_build (vs := [(0, .slice AL nL cL)]) rfl (bld56_0 _ _ _)) <| SR.box (v := .agg (List.toArray _)) (l := [.slice AL nL cL, .int .i64 0, .int .u64 0]) rfl rfl ?_)
  intro g1 w2 hg3 hk4 hs5 hb6
  have hz7 := hk4.size
  have hB8 := (Lo.refl w).lo hk4
  refine SR.q' (r_as (v := .pointer (some _)) rfl) <| SR.nil ?_
  refine W.seq ?_
  refine W.regS (SR.q' (r_mv (v := .pointer (some _)) rfl) <| SR.call ent37 (c___spec_l1Cur__libRows w2 L 0 0 (hb6) (((hL).lo hk4)) (by omega) (by omega)) rfl ?_)
  rintro e w9 ⟨A11, n12, c13, v15, t16, s17, rfl, hO14, hb18, ht19, hq20, hk10⟩
  refine ⟨_, rfl, ?_⟩
  have hz21 := hk10.size
  have hB22 := hB8.new hk10 (by omega)
  have hl23 := hO14.len
  have hl24 := hO14.rd.bound
  refine SR.q' (r_as (v := .slice _ _ _) rfl) <| SR.nil ?_
  refine W.ret ?_
  refine ret1 rfl (v := .slice _ _ _) rfl ?_
  exact ⟨A11, n12, c13, v15, eR rfl, ((hO14).down (by omega)), hq20, hB22⟩
end Go.Proofs.YtnbbfokkpkphoaaGreatDoor
