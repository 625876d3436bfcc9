/- Walks, printed by a program of this claim's author. -/
import Derived.Test.YtmigipacjadpeaaChecked
import Derived.Test.YtmigipacjadpeaaLa
import Derived.Test.YtmigipacjadpeaaLb
import Derived.Test.YtmigipacjadpeaaFo
import Derived.Test.YtmigipacjadpeaaFs
import Derived.Test.YtmigipacjadpeaaFq
import Derived.Test.YtmigipacjadpeaaFp
import Derived.Test.YtmigipacjadpeaaFu
import Derived.Test.YtmigipacjadpeaaFt
import Derived.Test.YtmigipacjadpeaaDa
import Derived.Test.YtmigipacjadpeaaG31u
namespace Go.Proofs.Ytmigipacjadpeaa
open Go Go.RowKit Fw
set_option maxRecDepth 10000
set_option linter.unusedVariables false
theorem bld29_0_1_2 (a0 : Int) (a1 : Int) (a2 : Int) : Try.prog.built 29 [(0, .int .i64 a0), (1, .int .i64 a1), (2, .int .i64 a2)] = some (List.toArray [.int .i64 a0, .int .i64 a1, .int .i64 a2, .int .i64 0, .int .i64 0]) := by kernel_rfl
theorem bld29_0_1_2_3_4 (a0 : Int) (a1 : Int) (a2 : Int) (a3 : Int) (a4 : Int) : Try.prog.built 29 [(0, .int .i64 a0), (1, .int .i64 a1), (2, .int .i64 a2), (3, .int .i64 a3), (4, .int .i64 a4)] = some (List.toArray [.int .i64 a0, .int .i64 a1, .int .i64 a2, .int .i64 a3, .int .i64 a4]) := by kernel_rfl
theorem bld45_0 (a0 : Option Addr) (b0 c0 : Nat) : Try.prog.built 45 [(0, .slice a0 b0 c0)] = some (List.toArray [.slice a0 b0 c0, .int .i64 0, .int .u64 0]) := by kernel_rfl
theorem ent19 : Ent Try.prog 19 := ent_of Try.func19 (by decide +kernel) rfl
theorem ent27 : Ent Try.prog 27 := ent_of Try.func27 (by decide +kernel) rfl
theorem ent34 : Ent Try.prog 34 := ent_of Try.func34 (by decide +kernel) rfl
theorem ent35 : Ent Try.prog 35 := ent_of Try.func35 (by decide +kernel) rfl
theorem ent36 : Ent Try.prog 36 := ent_of Try.func36 (by decide +kernel) rfl
theorem ent37 : Ent Try.prog 37 := ent_of Try.func37 (by decide +kernel) rfl
theorem ent51 : Ent Try.prog 51 := ent_of Try.func51 (by decide +kernel) rfl
theorem fa45_0 : FA Try.prog 45 0 0 := fun _ _ => by kernel_rfl
theorem fa45_1 : FA Try.prog 45 1 1 := fun _ _ => by kernel_rfl
theorem fa45_2 : FA Try.prog 45 2 2 := fun _ _ => by kernel_rfl
theorem sca22 : TSca Try.prog 22 := ⟨fun _ => by kernel_rfl, fun _ => by kernel_rfl⟩
theorem sca43 : TSca Try.prog 43 := ⟨fun _ => by kernel_rfl, fun _ => by kernel_rfl⟩
theorem sca5 : TSca Try.prog 5 := ⟨fun _ => by kernel_rfl, fun _ => by kernel_rfl⟩
theorem tel24 : TEl Try.prog 24 29 (.agg (List.toArray [.int .i64 0, .int .i64 0, .int .i64 0, .int .i64 0, .int .i64 0])) 5 40 := ⟨by kernel_rfl, by kernel_rfl, rfl, by decide⟩
theorem tsl22 : TSl Try.prog 22 5 1 := ⟨by kernel_rfl, fun _ => by kernel_rfl⟩
theorem und22 : Try.prog.underlying 22 = some (.slice 5) := by kernel_rfl
theorem und43 : Try.prog.underlying 43 = some (.int .u64) := by kernel_rfl
theorem und5 : Try.prog.underlying 5 = some (.int .u8) := by kernel_rfl

theorem z_c___spec_l1Cur__next_30 (Lc : List UInt8) (tc : Int) (sc : Int) (nc : Nat) (htc : 0 ≤ tc ∧ tc + 1 ≤ 4611686018427387904) (hbdc : (nc : Int) ≤ 9223372036854775807) (hlec : nc = Lc.length) (h5 : tc < (nc : Int)) (x6 : UInt8) (hx7 : Lc[tc.toNat]? = some x6) (hq8 : (x6.toNat : Int) ≤ 255) (h29 : (tc + 1) ≤ (nc : Int)) : (0 : Int) ≤ (x6.toNat : Int) ∧ ((x6.toNat : Int) : Int) ≤ 255 := by
  omega
theorem z_c___spec_l1Cur__next_31 (Lc : List UInt8) (tc : Int) (sc : Int) (nc : Nat) (htc : 0 ≤ tc ∧ tc + 1 ≤ 4611686018427387904) (hbdc : (nc : Int) ≤ 9223372036854775807) (hlec : nc = Lc.length) (h5 : tc < (nc : Int)) (x6 : UInt8) (hx7 : Lc[tc.toNat]? = some x6) (hq8 : (x6.toNat : Int) ≤ 255) (h29 : ¬ ((tc + 1) ≤ (nc : Int))) : (0 : Int) ≤ (((IntKind.u64.wrap ((IntKind.u64.wrap ((IntKind.u64.wrap (sc * 6364136223846793005)) + (x6.toNat : Int))) + 604171)) / 1099511627776) % 256) ∧ ((((IntKind.u64.wrap ((IntKind.u64.wrap ((IntKind.u64.wrap (sc * 6364136223846793005)) + (x6.toNat : Int))) + 604171)) / 1099511627776) % 256) : Int) ≤ 255 := by
  omega
theorem z_c___spec_l1Cur__next_49 (Lc : List UInt8) (tc : Int) (sc : Int) (nc : Nat) (htc : 0 ≤ tc ∧ tc + 1 ≤ 4611686018427387904) (hbdc : (nc : Int) ≤ 9223372036854775807) (hlec : nc = Lc.length) (h5 : ¬ (tc < (nc : Int))) (h48 : (tc + 1) ≤ (nc : Int)) : (0 : Int) ≤ 0 ∧ (0 : Int) ≤ 255 := by
  omega
theorem z_c___spec_l1Cur__next_50 (Lc : List UInt8) (tc : Int) (sc : Int) (nc : Nat) (htc : 0 ≤ tc ∧ tc + 1 ≤ 4611686018427387904) (hbdc : (nc : Int) ≤ 9223372036854775807) (hlec : nc = Lc.length) (h5 : ¬ (tc < (nc : Int))) (h48 : ¬ ((tc + 1) ≤ (nc : Int))) : (0 : Int) ≤ (((IntKind.u64.wrap ((IntKind.u64.wrap ((IntKind.u64.wrap (sc * 6364136223846793005)) + 0)) + 604171)) / 1099511627776) % 256) ∧ ((((IntKind.u64.wrap ((IntKind.u64.wrap ((IntKind.u64.wrap (sc * 6364136223846793005)) + 0)) + 604171)) / 1099511627776) % 256) : Int) ≤ 255 := by
  omega
theorem c___spec_l1Cur__next (w : World) {gc ec : Nat} {Ac : Option Addr} {nc cc Bc : Nat} (Lc : List UInt8) (tc sc : Int) (hc : Blk w gc ec [.slice Ac nc cc, .int .i64 tc, .int .u64 sc]) (hLc : SlR w Bc encB 1 Ac nc cc Lc) (hgc : Bc ≤ gc) (htc : 0 ≤ tc ∧ tc + 1 ≤ 4611686018427387904) : Calls Try.prog 51 #[.pointer (some ⟨gc, 0, none⟩)] w fun e w' => ∃ (v : Int) (tc' sc' : Int), e = .returned (.int .i64 v) ∧ Blk w' gc ec [.slice Ac nc cc, .int .i64 tc', .int .u64 sc'] ∧ (tc ≤ tc' ∧ tc' ≤ tc + 1) ∧ ((0 : Int) ≤ v ∧ (v : Int) ≤ 255) ∧ Kp (fun b_ => b_ = gc) w w' := by
  refine calls_W 62 Try.func51 rfl rfl rfl ?_
  have hBlc := hc.lt
  have hbdc := hLc.bound
  have hlec := hLc.len
  have hBbc := hLc.bd
  refine W.seq ?_
  refine W.regS (SR.q' (r_as (v := .int .i64 0) rfl) <| SR.nil ?_)
  refine W.seq ?_
  refine W.regS (SR.q' (r_as (v := .int .i64 0) rfl) <| SR.nil ?_)
  refine W.seq ?_
  refine W.seq ?_
  refine W.regD mo (by kernel_rfl) (QR.q' (fun w' hw' => r_mv (v := .pointer (some _)) rfl) <| QR.q' (fun w' hw' => r_nilp rfl) <| QR.q' (fun w' hw' => r_fa fa45_1 rfl) <| QR.q' (fun w' hw' => r_ld (v := .int .i64 tc) sca3 rfl (((hc).lo hw').cell rfl)) <| QR.q' (fun w' hw' => r_mv (v := .pointer (some _)) rfl) <| QR.q' (fun w' hw' => r_nilp rfl) <| QR.q' (fun w' hw' => r_fa fa45_0 rfl) <| QR.q' (fun w' hw' => r_ld (v := .slice Ac nc cc) sca22 rfl (((hc).lo hw').cell rfl)) <| QR.q' (fun w' hw' => r_len und22 rfl) <| QR.q' (fun w' hw' => r_lt rfl rfl) <| QR.nil ?_)
  intro w1 hk2
  have hz3 := hk2.size
  have hB4 := (Kp.refl w : Kp (fun b_ => b_ = gc) w w).lo hk2
  refine W.cond_d rfl (fun h5 => ?_) (fun h5 => ?_)
  · refine W.regD mo (by kernel_rfl) (QR.q' (fun w' hw' => r_mv (v := .pointer (some _)) rfl) <| QR.q' (fun w' hw' => r_nilp rfl) <| QR.q' (fun w' hw' => r_fa fa45_0 rfl) <| QR.q' (fun w' hw' => r_ld (v := .slice Ac nc cc) sca22 rfl ((((hc).lo hk2).lo hw').cell rfl)) <| QR.q' (fun w' hw' => r_mv (v := .pointer (some _)) rfl) <| QR.q' (fun w' hw' => r_nilp rfl) <| QR.q' (fun w' hw' => r_fa fa45_1 rfl) <| QR.q' (fun w' hw' => r_ld (v := .int .i64 tc) sca3 rfl ((((hc).lo hk2).lo hw').cell rfl)) <| ?_)
    obtain ⟨x6, hx7⟩ := ((hLc).lo hk2).get (i := tc.toNat) (by omega)
    have hq8 := u8_le x6
    refine QR.q' (fun w' hw' => r_ixR tsl22 ((((hLc).lo hk2).lo hw')) rfl rfl (by omega)) <| QR.q' (fun w' hw' => r_ld (v := .int .u8 (x6.toNat : Int)) sca5 rfl (((((hLc).lo hk2).lo hw')).cell0 hx7 rfl)) <| QR.q' (fun w' hw' => r_convI und3 und5 rfl (by omega)) <| QR.q' (fun w' hw' => r_as (v := .int .i64 _) rfl) <| QR.nil ?_
    intro w9 hk10
    have hz11 := hk10.size
    have hB12 := hB4.lo hk10
    refine W.seq ?_
    refine W.regS (SR.q' (r_mv (v := .pointer (some _)) rfl) <| SR.q' (r_nilp rfl) <| SR.q' (r_fa fa45_1 rfl) <| SR.q' (r_ld (v := .int .i64 tc) sca3 rfl ((((hc).lo hk2).lo hk10).cell rfl)) <| SR.q' (r_add rfl rfl (by omega)) <| SR.q' (r_nilp rfl) <| SR.q' (r_fa fa45_1 rfl) <| SR.store (o := 1) (vs := [.int .i64 (tc + 1)]) sca3.2 rfl rfl rfl rfl (((hc).lo hk2).lo hk10) (Nat.le_of_ble_eq_true rfl) rfl ?_)
    intro w13 hk14 hs15 hb16
    have hz17 := hk14.size
    have hB18 := hB12.step hk14 (fun i_ hi_ e' => e')
    refine SR.nil ?_
    refine W.seq ?_
    refine W.regS (SR.q' (r_mv (v := .pointer (some _)) rfl) <| SR.q' (r_mv (v := .pointer (some _)) rfl) <| SR.q' (r_nilp rfl) <| SR.q' (r_fa fa45_2 rfl) <| SR.q' (r_ld (v := .int .u64 sc) sca43 rfl ((hb16).cell rfl)) <| SR.q' (r_mulW rfl rfl) <| SR.q' (r_mv (v := .int .i64 _) rfl) <| SR.q' (r_convU und43 und3 rfl (by omega)) <| SR.q' (r_addW rfl rfl) <| SR.q' (r_addW rfl rfl) <| SR.q' (r_nilp rfl) <| SR.q' (r_fa fa45_2 rfl) <| SR.store (o := 2) (vs := [.int .u64 (IntKind.u64.wrap ((IntKind.u64.wrap ((IntKind.u64.wrap (sc * 6364136223846793005)) + (x6.toNat : Int))) + 604171))]) sca43.2 rfl rfl rfl rfl (hb16) (Nat.le_of_ble_eq_true rfl) rfl ?_)
    intro w19 hk20 hs21 hb22
    have hz23 := hk20.size
    have hB24 := hB18.step hk20 (fun i_ hi_ e' => e')
    refine SR.nil ?_
    refine W.seq ?_
    refine W.seq ?_
    refine W.regD mo (by kernel_rfl) (QR.q' (fun w' hw' => r_mv (v := .pointer (some _)) rfl) <| QR.q' (fun w' hw' => r_nilp rfl) <| QR.q' (fun w' hw' => r_fa fa45_1 rfl) <| QR.q' (fun w' hw' => r_ld (v := .int .i64 (tc + 1)) sca3 rfl (((hb22).lo hw').cell rfl)) <| QR.q' (fun w' hw' => r_mv (v := .pointer (some _)) rfl) <| QR.q' (fun w' hw' => r_nilp rfl) <| QR.q' (fun w' hw' => r_fa fa45_0 rfl) <| QR.q' (fun w' hw' => r_ld (v := .slice Ac nc cc) sca22 rfl (((hb22).lo hw').cell rfl)) <| QR.q' (fun w' hw' => r_len und22 rfl) <| QR.q' (fun w' hw' => r_le rfl rfl) <| QR.nil ?_)
    intro w25 hk26
    have hz27 := hk26.size
    have hB28 := hB24.lo hk26
    refine W.cond_d rfl (fun h29 => ?_) (fun h29 => ?_)
    · refine W.seq ?_
      refine W.regS (SR.q' (r_mv (v := .int .i64 _) rfl) <| SR.q' (r_as (v := .int .i64 _) rfl) <| SR.nil ?_)
      refine W.ret ?_
      refine ret1 rfl (v := .int .i64 _) rfl ?_
      exact ⟨(x6.toNat : Int), (tc + 1), (IntKind.u64.wrap ((IntKind.u64.wrap ((IntKind.u64.wrap (sc * 6364136223846793005)) + (x6.toNat : Int))) + 604171)), eR rfl, ((hb22).lo hk26), ⟨by omega, by omega⟩, (z_c___spec_l1Cur__next_30 Lc tc sc nc htc hbdc hlec h5 x6 hx7 hq8 h29), hB28⟩
    · refine W.skip ?_
      refine W.seq ?_
      refine W.regS (SR.q' (r_mv (v := .pointer (some _)) rfl) <| SR.q' (r_nilp rfl) <| SR.q' (r_fa fa45_2 rfl) <| SR.q' (r_ld (v := .int .u64 (IntKind.u64.wrap ((IntKind.u64.wrap ((IntKind.u64.wrap (sc * 6364136223846793005)) + (x6.toNat : Int))) + 604171))) sca43 rfl (((hb22).lo hk26).cell rfl)) <| SR.q' (r_shr40 rfl rfl (by simp only [IntKind.wrap_u64]; omega)) <| SR.q' (r_and255 rfl rfl (by simp only [IntKind.wrap_u64]; omega)) <| SR.q' (r_convI und3 und43 rfl (by omega)) <| SR.q' (r_as (v := .int .i64 _) rfl) <| SR.nil ?_)
      refine W.ret ?_
      refine ret1 rfl (v := .int .i64 _) rfl ?_
      exact ⟨(((IntKind.u64.wrap ((IntKind.u64.wrap ((IntKind.u64.wrap (sc * 6364136223846793005)) + (x6.toNat : Int))) + 604171)) / 1099511627776) % 256), (tc + 1), (IntKind.u64.wrap ((IntKind.u64.wrap ((IntKind.u64.wrap (sc * 6364136223846793005)) + (x6.toNat : Int))) + 604171)), eR rfl, ((hb22).lo hk26), ⟨by omega, by omega⟩, (z_c___spec_l1Cur__next_31 Lc tc sc nc htc hbdc hlec h5 x6 hx7 hq8 h29), hB28⟩
  · refine W.skip ?_
    refine W.seq ?_
    refine W.regS (SR.q' (r_mv (v := .pointer (some _)) rfl) <| SR.q' (r_nilp rfl) <| SR.q' (r_fa fa45_1 rfl) <| SR.q' (r_ld (v := .int .i64 tc) sca3 rfl (((hc).lo hk2).cell rfl)) <| SR.q' (r_add rfl rfl (by omega)) <| SR.q' (r_nilp rfl) <| SR.q' (r_fa fa45_1 rfl) <| SR.store (o := 1) (vs := [.int .i64 (tc + 1)]) sca3.2 rfl rfl rfl rfl ((hc).lo hk2) (Nat.le_of_ble_eq_true rfl) rfl ?_)
    intro w32 hk33 hs34 hb35
    have hz36 := hk33.size
    have hB37 := hB4.step hk33 (fun i_ hi_ e' => e')
    refine SR.nil ?_
    refine W.seq ?_
    refine W.regS (SR.q' (r_mv (v := .pointer (some _)) rfl) <| SR.q' (r_mv (v := .pointer (some _)) rfl) <| SR.q' (r_nilp rfl) <| SR.q' (r_fa fa45_2 rfl) <| SR.q' (r_ld (v := .int .u64 sc) sca43 rfl ((hb35).cell rfl)) <| SR.q' (r_mulW rfl rfl) <| SR.q' (r_mv (v := .int .i64 _) rfl) <| SR.q' (r_convU und43 und3 rfl (by omega)) <| SR.q' (r_addW rfl rfl) <| SR.q' (r_addW rfl rfl) <| SR.q' (r_nilp rfl) <| SR.q' (r_fa fa45_2 rfl) <| SR.store (o := 2) (vs := [.int .u64 (IntKind.u64.wrap ((IntKind.u64.wrap ((IntKind.u64.wrap (sc * 6364136223846793005)) + 0)) + 604171))]) sca43.2 rfl rfl rfl rfl (hb35) (Nat.le_of_ble_eq_true rfl) rfl ?_)
    intro w38 hk39 hs40 hb41
    have hz42 := hk39.size
    have hB43 := hB37.step hk39 (fun i_ hi_ e' => e')
    refine SR.nil ?_
    refine W.seq ?_
    refine W.seq ?_
    refine W.regD mo (by kernel_rfl) (QR.q' (fun w' hw' => r_mv (v := .pointer (some _)) rfl) <| QR.q' (fun w' hw' => r_nilp rfl) <| QR.q' (fun w' hw' => r_fa fa45_1 rfl) <| QR.q' (fun w' hw' => r_ld (v := .int .i64 (tc + 1)) sca3 rfl (((hb41).lo hw').cell rfl)) <| QR.q' (fun w' hw' => r_mv (v := .pointer (some _)) rfl) <| QR.q' (fun w' hw' => r_nilp rfl) <| QR.q' (fun w' hw' => r_fa fa45_0 rfl) <| QR.q' (fun w' hw' => r_ld (v := .slice Ac nc cc) sca22 rfl (((hb41).lo hw').cell rfl)) <| QR.q' (fun w' hw' => r_len und22 rfl) <| QR.q' (fun w' hw' => r_le rfl rfl) <| QR.nil ?_)
    intro w44 hk45
    have hz46 := hk45.size
    have hB47 := hB43.lo hk45
    refine W.cond_d rfl (fun h48 => ?_) (fun h48 => ?_)
    · refine W.seq ?_
      refine W.regS (SR.q' (r_mv (v := .int .i64 _) rfl) <| SR.q' (r_as (v := .int .i64 _) rfl) <| SR.nil ?_)
      refine W.ret ?_
      refine ret1 rfl (v := .int .i64 _) rfl ?_
      exact ⟨0, (tc + 1), (IntKind.u64.wrap ((IntKind.u64.wrap ((IntKind.u64.wrap (sc * 6364136223846793005)) + 0)) + 604171)), eR rfl, ((hb41).lo hk45), ⟨by omega, by omega⟩, (z_c___spec_l1Cur__next_49 Lc tc sc nc htc hbdc hlec h5 h48), hB47⟩
    · refine W.skip ?_
      refine W.seq ?_
      refine W.regS (SR.q' (r_mv (v := .pointer (some _)) rfl) <| SR.q' (r_nilp rfl) <| SR.q' (r_fa fa45_2 rfl) <| SR.q' (r_ld (v := .int .u64 (IntKind.u64.wrap ((IntKind.u64.wrap ((IntKind.u64.wrap (sc * 6364136223846793005)) + 0)) + 604171))) sca43 rfl (((hb41).lo hk45).cell rfl)) <| SR.q' (r_shr40 rfl rfl (by simp only [IntKind.wrap_u64]; omega)) <| SR.q' (r_and255 rfl rfl (by simp only [IntKind.wrap_u64]; omega)) <| SR.q' (r_convI und3 und43 rfl (by omega)) <| SR.q' (r_as (v := .int .i64 _) rfl) <| SR.nil ?_)
      refine W.ret ?_
      refine ret1 rfl (v := .int .i64 _) rfl ?_
      exact ⟨(((IntKind.u64.wrap ((IntKind.u64.wrap ((IntKind.u64.wrap (sc * 6364136223846793005)) + 0)) + 604171)) / 1099511627776) % 256), (tc + 1), (IntKind.u64.wrap ((IntKind.u64.wrap ((IntKind.u64.wrap (sc * 6364136223846793005)) + 0)) + 604171)), eR rfl, ((hb41).lo hk45), ⟨by omega, by omega⟩, (z_c___spec_l1Cur__next_50 Lc tc sc nc htc hbdc hlec h5 h48), hB47⟩

theorem z_c___spec_l1Cur__pick_2 (Lc : List UInt8) (tc : Int) (sc : Int) (nc : Nat) (htc : 0 ≤ tc ∧ tc + 2 ≤ 4611686018427387904) (hbdc : (nc : Int) ≤ 9223372036854775807) (hlec : nc = Lc.length) (n : Int) (hp0 : n ≤ 4611686018427387904) (h1 : n ≤ 1) : (0 : Int) ≤ 0 ∧ ((0 : Int) < n ∨ (0 : Int) = 0) := by
  first | omega | exact ⟨Int.emod_nonneg _ (by omega), .inl (Int.emod_lt_of_pos _ (by omega))⟩
theorem z_c___spec_l1Cur__pick_24 (Lc : List UInt8) (tc : Int) (sc : Int) (nc : Nat) (htc : 0 ≤ tc ∧ tc + 2 ≤ 4611686018427387904) (hbdc : (nc : Int) ≤ 9223372036854775807) (hlec : nc = Lc.length) (n : Int) (hp0 : n ≤ 4611686018427387904) (h1 : ¬ (n ≤ 1)) (v5 : Int) (t6 : Int) (s7 : Int) (ht9 : tc ≤ t6 ∧ t6 ≤ tc + 1) (hq10 : (0 : Int) ≤ v5 ∧ (v5 : Int) ≤ 255) (h13 : 200 < n) (v16 : Int) (t17 : Int) (s18 : Int) (ht20 : t6 ≤ t17 ∧ t17 ≤ t6 + 1) (hq21 : (0 : Int) ≤ v16 ∧ (v16 : Int) ≤ 255) : (0 : Int) ≤ (((v5 * 256) + v16) % n) ∧ (((((v5 * 256) + v16) % n) : Int) < n ∨ ((((v5 * 256) + v16) % n) : Int) = 0) := by
  first | omega | exact ⟨Int.emod_nonneg _ (by omega), .inl (Int.emod_lt_of_pos _ (by omega))⟩
theorem z_c___spec_l1Cur__pick_25 (Lc : List UInt8) (tc : Int) (sc : Int) (nc : Nat) (htc : 0 ≤ tc ∧ tc + 2 ≤ 4611686018427387904) (hbdc : (nc : Int) ≤ 9223372036854775807) (hlec : nc = Lc.length) (n : Int) (hp0 : n ≤ 4611686018427387904) (h1 : ¬ (n ≤ 1)) (v5 : Int) (t6 : Int) (s7 : Int) (ht9 : tc ≤ t6 ∧ t6 ≤ tc + 1) (hq10 : (0 : Int) ≤ v5 ∧ (v5 : Int) ≤ 255) (h13 : ¬ (200 < n)) : (0 : Int) ≤ (v5 % n) ∧ (((v5 % n) : Int) < n ∨ ((v5 % n) : Int) = 0) := by
  first | omega | exact ⟨Int.emod_nonneg _ (by omega), .inl (Int.emod_lt_of_pos _ (by omega))⟩
theorem c___spec_l1Cur__pick (w : World) {gc ec : Nat} {Ac : Option Addr} {nc cc Bc : Nat} (Lc : List UInt8) (tc sc : Int) (hc : Blk w gc ec [.slice Ac nc cc, .int .i64 tc, .int .u64 sc]) (hLc : SlR w Bc encB 1 Ac nc cc Lc) (hgc : Bc ≤ gc) (htc : 0 ≤ tc ∧ tc + 2 ≤ 4611686018427387904) (n : Int) (hp0 : n ≤ 4611686018427387904) : Calls Try.prog 35 #[.pointer (some ⟨gc, 0, none⟩), .int .i64 n] w fun e w' => ∃ (v : Int) (tc' sc' : Int), e = .returned (.int .i64 v) ∧ Blk w' gc ec [.slice Ac nc cc, .int .i64 tc', .int .u64 sc'] ∧ (tc ≤ tc' ∧ tc' ≤ tc + 2) ∧ ((0 : Int) ≤ v ∧ ((v : Int) < n ∨ (v : Int) = 0)) ∧ Kp (fun b_ => b_ = gc) w w' := by
  refine calls_W 20 Try.func35 rfl rfl rfl ?_
  have hBlc := hc.lt
  have hbdc := hLc.bound
  have hlec := hLc.len
  have hBbc := hLc.bd
  refine W.seq ?_
  refine W.regS (SR.q' (r_as (v := .int .i64 0) rfl) <| SR.nil ?_)
  refine W.seq ?_
  refine W.seq ?_
  refine W.regS (SR.q' (r_mv (v := .int .i64 _) rfl) <| SR.q' (r_le rfl rfl) <| SR.nil ?_)
  refine W.cond_d rfl (fun h1 => ?_) (fun h1 => ?_)
  · refine W.seq ?_
    refine W.regS (SR.q' (r_as (v := .int .i64 0) rfl) <| SR.nil ?_)
    refine W.ret ?_
    refine ret1 rfl (v := .int .i64 _) rfl ?_
    exact ⟨0, tc, sc, eR rfl, (hc), ⟨by omega, by omega⟩, (z_c___spec_l1Cur__pick_2 Lc tc sc nc htc hbdc hlec n hp0 h1), (Kp.refl w : Kp (fun b_ => b_ = gc) w w)⟩
  · refine W.skip ?_
    refine W.seq ?_
    refine W.regS (SR.q' (r_mv (v := .pointer (some _)) rfl) <| SR.call ent51 (c___spec_l1Cur__next w Lc tc sc (hc) ((hLc)) (by omega) (by omega)) rfl ?_)
    rintro e w3 ⟨v5, t6, s7, rfl, hb8, ht9, hq10, hk4⟩
    refine ⟨_, rfl, ?_⟩
    have hz11 := hk4.size
    have hB12 := (Kp.refl w : Kp (fun b_ => b_ = gc) w w).step hk4 (fun i_ hi_ e' => e')
    refine SR.q' (r_as (v := .int .i64 _) rfl) <| SR.nil ?_
    refine W.seq ?_
    refine W.seq ?_
    refine W.regS (SR.q' (r_mv (v := .int .i64 _) rfl) <| SR.q' (r_gt rfl rfl) <| SR.nil ?_)
    refine W.cond_d rfl (fun h13 => ?_) (fun h13 => ?_)
    · refine W.regS (SR.q' (r_mv (v := .int .i64 _) rfl) <| SR.q' (r_mul rfl rfl (by omega)) <| SR.q' (r_mv (v := .pointer (some _)) rfl) <| SR.call ent51 (c___spec_l1Cur__next w3 Lc t6 s7 (hb8) (((hLc).kp hk4 (fun b_ hb e' => by have e'' : b_ = gc := e'; omega))) (by omega) (by omega)) rfl ?_)
      rintro e w14 ⟨v16, t17, s18, rfl, hb19, ht20, hq21, hk15⟩
      refine ⟨_, rfl, ?_⟩
      have hz22 := hk15.size
      have hB23 := hB12.step hk15 (fun i_ hi_ e' => e')
      refine SR.q' (r_add rfl rfl (by omega)) <| SR.q' (r_as (v := .int .i64 _) rfl) <| SR.nil ?_
      refine W.seq ?_
      refine W.regS (SR.q' (r_mv (v := .int .i64 _) rfl) <| SR.q' (r_mv (v := .int .i64 _) rfl) <| SR.q' (r_rem rfl rfl (by omega)) <| SR.q' (r_as (v := .int .i64 _) rfl) <| SR.nil ?_)
      refine W.ret ?_
      refine ret1 rfl (v := .int .i64 _) rfl ?_
      exact ⟨(((v5 * 256) + v16) % n), t17, s18, eR rfl, (hb19), ⟨by omega, by omega⟩, (z_c___spec_l1Cur__pick_24 Lc tc sc nc htc hbdc hlec n hp0 h1 v5 t6 s7 ht9 hq10 h13 v16 t17 s18 ht20 hq21), hB23⟩
    · refine W.skip ?_
      refine W.seq ?_
      refine W.regS (SR.q' (r_mv (v := .int .i64 _) rfl) <| SR.q' (r_mv (v := .int .i64 _) rfl) <| SR.q' (r_rem rfl rfl (by omega)) <| SR.q' (r_as (v := .int .i64 _) rfl) <| SR.nil ?_)
      refine W.ret ?_
      refine ret1 rfl (v := .int .i64 _) rfl ?_
      exact ⟨(v5 % n), t6, s7, eR rfl, (hb8), ⟨by omega, by omega⟩, (z_c___spec_l1Cur__pick_25 Lc tc sc nc htc hbdc hlec n hp0 h1 v5 t6 s7 ht9 hq10 h13), hB12⟩

theorem z_c___spec_l1Cur__one_11 (Lc : List UInt8) (tc : Int) (sc : Int) (nc : Nat) (htc : 0 ≤ tc ∧ tc + 2 ≤ 4611686018427387904) (hbdc : (nc : Int) ≤ 9223372036854775807) (hlec : nc = Lc.length) (n : Int) (hp0 : n ≤ 4611686018427387904) (v3 : Int) (t4 : Int) (s5 : Int) (ht7 : tc ≤ t4 ∧ t4 ≤ tc + 2) (hq8 : (0 : Int) ≤ v3 ∧ ((v3 : Int) < n ∨ (v3 : Int) = 0)) : decide (v3 = 0) = decide (v3 = 0) := by
  first | rfl | omega | grind
theorem c___spec_l1Cur__one (w : World) {gc ec : Nat} {Ac : Option Addr} {nc cc Bc : Nat} (Lc : List UInt8) (tc sc : Int) (hc : Blk w gc ec [.slice Ac nc cc, .int .i64 tc, .int .u64 sc]) (hLc : SlR w Bc encB 1 Ac nc cc Lc) (hgc : Bc ≤ gc) (htc : 0 ≤ tc ∧ tc + 2 ≤ 4611686018427387904) (n : Int) (hp0 : n ≤ 4611686018427387904) : Calls Try.prog 37 #[.pointer (some ⟨gc, 0, none⟩), .int .i64 n] w fun e w' => ∃ (v : Bool) (tc' sc' : Int), e = .returned (.bool v) ∧ Blk w' gc ec [.slice Ac nc cc, .int .i64 tc', .int .u64 sc'] ∧ (tc ≤ tc' ∧ tc' ≤ tc + 2) ∧ Kp (fun b_ => b_ = gc) w w' := by
  refine calls_W 9 Try.func37 rfl rfl rfl ?_
  have hBlc := hc.lt
  have hbdc := hLc.bound
  have hlec := hLc.len
  have hBbc := hLc.bd
  refine W.seq ?_
  refine W.regS (SR.q' (r_as (v := .bool false) rfl) <| SR.nil ?_)
  refine W.seq ?_
  refine W.regS (SR.q' (r_mv (v := .pointer (some _)) rfl) <| SR.q' (r_mv (v := .int .i64 _) rfl) <| SR.call ent35 (c___spec_l1Cur__pick w Lc tc sc (hc) ((hLc)) (by omega) (by omega) n (by first | omega | (simp only [List.length_append, List.length_cons, List.length_nil, List.length_take, List.length_drop]; omega))) rfl ?_)
  rintro e w1 ⟨v3, t4, s5, rfl, hb6, ht7, hq8, hk2⟩
  refine ⟨_, rfl, ?_⟩
  have hz9 := hk2.size
  have hB10 := (Kp.refl w : Kp (fun b_ => b_ = gc) w w).step hk2 (fun i_ hi_ e' => e')
  refine SR.q' (r_eq rfl rfl) <| SR.q' (r_as (v := .bool _) rfl) <| SR.nil ?_
  refine W.ret ?_
  refine ret1 rfl (v := .bool _) rfl ?_
  exact ⟨(decide (v3 = 0)), t4, s5, eR (eB (z_c___spec_l1Cur__one_11 Lc tc sc nc htc hbdc hlec n hp0 v3 t4 s5 ht7 hq8)), (hb6), ⟨by omega, by omega⟩, hB10⟩

theorem z_c___spec_l1Cur__among_13 (Lc : List UInt8) (tc : Int) (sc : Int) (nc : Nat) (htc : 0 ≤ tc ∧ tc + 2 ≤ 4611686018427387904) (hbdc : (nc : Int) ≤ 9223372036854775807) (hlec : nc = Lc.length) (L : List Int) (nL : Nat) (hbdL : (nL : Int) ≤ 9223372036854775807) (hleL : nL = L.length) (hp0 : 0 < nL) (hp1 : (nL : Int) ≤ 1048576) (v3 : Int) (t4 : Int) (s5 : Int) (ht7 : tc ≤ t4 ∧ t4 ≤ tc + 2) (hq8 : (0 : Int) ≤ v3 ∧ ((v3 : Int) < (nL : Int) ∨ (v3 : Int) = 0)) (x11 : Int) (hx12 : L[v3.toNat]? = some x11) : x11 ∈ L := by
  exact List.mem_of_getElem? ‹L[_]? = some _›
theorem c___spec_l1Cur__among (w : World) {gc ec : Nat} {Ac : Option Addr} {nc cc Bc : Nat} (Lc : List UInt8) (tc sc : Int) (hc : Blk w gc ec [.slice Ac nc cc, .int .i64 tc, .int .u64 sc]) (hLc : SlR w Bc encB 1 Ac nc cc Lc) (hgc : Bc ≤ gc) (htc : 0 ≤ tc ∧ tc + 2 ≤ 4611686018427387904) {AL : Option Addr} {nL cL BL : Nat}  (L : List Int) (hL : SlR w BL encI 1 AL nL cL L) (hp0 : 0 < nL) (hp1 : (nL : Int) ≤ 1048576) (hp2 : ¬ (adr AL).block = gc) : Calls Try.prog 34 #[.pointer (some ⟨gc, 0, none⟩), .slice AL nL cL] w fun e w' => ∃ (v : Int) (tc' sc' : Int), e = .returned (.int .i64 v) ∧ Blk w' gc ec [.slice Ac nc cc, .int .i64 tc', .int .u64 sc'] ∧ (tc ≤ tc' ∧ tc' ≤ tc + 2) ∧ (v ∈ L) ∧ Kp (fun b_ => b_ = gc) w w' := by
  refine calls_W 12 Try.func34 rfl rfl rfl ?_
  have hBlc := hc.lt
  have hbdc := hLc.bound
  have hlec := hLc.len
  have hBbc := hLc.bd
  have hbdL := hL.bound
  have hleL := hL.len
  have hBbL := hL.bd
  refine W.seq ?_
  refine W.regS (SR.q' (r_as (v := .int .i64 0) rfl) <| SR.nil ?_)
  refine W.seq ?_
  refine W.regS (SR.q' (r_mv (v := .slice _ _ _) rfl) <| SR.q' (r_mv (v := .pointer (some _)) rfl) <| SR.q' (r_mv (v := .slice _ _ _) rfl) <| SR.q' (r_len und32 rfl) <| SR.call ent35 (c___spec_l1Cur__pick w Lc tc sc (hc) ((hLc)) (by omega) (by omega) (nL : Int) (by first | omega | (simp only [List.length_append, List.length_cons, List.length_nil, List.length_take, List.length_drop]; omega))) rfl ?_)
  rintro e w1 ⟨v3, t4, s5, rfl, hb6, ht7, hq8, hk2⟩
  refine ⟨_, rfl, ?_⟩
  have hz9 := hk2.size
  have hB10 := (Kp.refl w : Kp (fun b_ => b_ = gc) w w).step hk2 (fun i_ hi_ e' => e')
  obtain ⟨x11, hx12⟩ := ((hL).kpb hk2 (fun e' => hp2 e')).get (i := v3.toNat) (by omega)
  refine SR.q' (r_ixR tsl32 ((hL).kpb hk2 (fun e' => hp2 e')) rfl rfl (by omega)) <| SR.q' (r_ld (v := .int .i64 x11) sca3 rfl (((hL).kpb hk2 (fun e' => hp2 e')).cell0 hx12 rfl)) <| SR.q' (r_as (v := .int .i64 _) rfl) <| SR.nil ?_
  refine W.ret ?_
  refine ret1 rfl (v := .int .i64 _) rfl ?_
  exact ⟨x11, t4, s5, eR rfl, (hb6), ⟨by omega, by omega⟩, (z_c___spec_l1Cur__among_13 Lc tc sc nc htc hbdc hlec L nL hbdL hleL hp0 hp1 v3 t4 s5 ht7 hq8 x11 hx12), hB10⟩

theorem z_c___spec_l1Cur__libRow_150 (Lc : List UInt8) (tc : Int) (sc : Int) (nc : Nat) (htc : 0 ≤ tc ∧ tc + 14 ≤ 4611686018427387904) (hbdc : (nc : Int) ≤ 9223372036854775807) (hlec : nc = Lc.length) (m : Int) (v18 : Int) (t19 : Int) (s20 : Int) (ht22 : tc ≤ t19 ∧ t19 ≤ tc + 2) (hq23 : v18 ∈ ([0, 100, 150, 150, 9999] : List Int)) (hq26 : (0 : Int) ≤ v18 ∧ v18 ≤ 9999) (v37 : Int) (t38 : Int) (s39 : Int) (ht41 : t19 ≤ t38 ∧ t38 ≤ t19 + 2) (hq42 : v37 ∈ ([0, 7, 500, 9999] : List Int)) (hq45 : (0 : Int) ≤ v37 ∧ v37 ≤ 9999) (v57 : Int) (t58 : Int) (s59 : Int) (ht61 : t38 ≤ t58 ∧ t58 ≤ t38 + 2) (hq62 : v57 ∈ ([0, 0, 3, 999] : List Int)) (hq65 : (0 : Int) ≤ v57 ∧ v57 ≤ 999) (v78 : Int) (t79 : Int) (s80 : Int) (ht82 : t58 ≤ t79 ∧ t79 ≤ t58 + 2) (hq83 : v78 ∈ ([0, 0, 5, 40, 1250, 99999] : List Int)) (hq86 : (0 : Int) ≤ v78 ∧ v78 ≤ 99999) (v107 : Int) (t108 : Int) (s109 : Int) (ht111 : t79 ≤ t108 ∧ t108 ≤ t79 + 2) (hq112 : (0 : Int) ≤ v107 ∧ ((v107 : Int) < 80 ∨ (v107 : Int) = 0)) (h115 : v107 = 0) (v129 : Int) (t130 : Int) (s131 : Int) (ht133 : t108 ≤ t130 ∧ t130 ≤ t108 + 2) (hq134 : v129 ∈ ([0, 1200, 1201] : List Int)) (hq137 : (0 : Int) ≤ v129 ∧ v129 ≤ 1201) : v129 = (⟨v129, v18, v37, v57, v78⟩ : LibRow).Month := by
  first | rfl | omega | grind
theorem z_c___spec_l1Cur__libRow_151 (Lc : List UInt8) (tc : Int) (sc : Int) (nc : Nat) (htc : 0 ≤ tc ∧ tc + 14 ≤ 4611686018427387904) (hbdc : (nc : Int) ≤ 9223372036854775807) (hlec : nc = Lc.length) (m : Int) (v18 : Int) (t19 : Int) (s20 : Int) (ht22 : tc ≤ t19 ∧ t19 ≤ tc + 2) (hq23 : v18 ∈ ([0, 100, 150, 150, 9999] : List Int)) (hq26 : (0 : Int) ≤ v18 ∧ v18 ≤ 9999) (v37 : Int) (t38 : Int) (s39 : Int) (ht41 : t19 ≤ t38 ∧ t38 ≤ t19 + 2) (hq42 : v37 ∈ ([0, 7, 500, 9999] : List Int)) (hq45 : (0 : Int) ≤ v37 ∧ v37 ≤ 9999) (v57 : Int) (t58 : Int) (s59 : Int) (ht61 : t38 ≤ t58 ∧ t58 ≤ t38 + 2) (hq62 : v57 ∈ ([0, 0, 3, 999] : List Int)) (hq65 : (0 : Int) ≤ v57 ∧ v57 ≤ 999) (v78 : Int) (t79 : Int) (s80 : Int) (ht82 : t58 ≤ t79 ∧ t79 ≤ t58 + 2) (hq83 : v78 ∈ ([0, 0, 5, 40, 1250, 99999] : List Int)) (hq86 : (0 : Int) ≤ v78 ∧ v78 ≤ 99999) (v107 : Int) (t108 : Int) (s109 : Int) (ht111 : t79 ≤ t108 ∧ t108 ≤ t79 + 2) (hq112 : (0 : Int) ≤ v107 ∧ ((v107 : Int) < 80 ∨ (v107 : Int) = 0)) (h115 : v107 = 0) (v129 : Int) (t130 : Int) (s131 : Int) (ht133 : t108 ≤ t130 ∧ t130 ≤ t108 + 2) (hq134 : v129 ∈ ([0, 1200, 1201] : List Int)) (hq137 : (0 : Int) ≤ v129 ∧ v129 ≤ 1201) : v18 = (⟨v129, v18, v37, v57, v78⟩ : LibRow).Lent := by
  first | rfl | omega | grind
theorem z_c___spec_l1Cur__libRow_152 (Lc : List UInt8) (tc : Int) (sc : Int) (nc : Nat) (htc : 0 ≤ tc ∧ tc + 14 ≤ 4611686018427387904) (hbdc : (nc : Int) ≤ 9223372036854775807) (hlec : nc = Lc.length) (m : Int) (v18 : Int) (t19 : Int) (s20 : Int) (ht22 : tc ≤ t19 ∧ t19 ≤ tc + 2) (hq23 : v18 ∈ ([0, 100, 150, 150, 9999] : List Int)) (hq26 : (0 : Int) ≤ v18 ∧ v18 ≤ 9999) (v37 : Int) (t38 : Int) (s39 : Int) (ht41 : t19 ≤ t38 ∧ t38 ≤ t19 + 2) (hq42 : v37 ∈ ([0, 7, 500, 9999] : List Int)) (hq45 : (0 : Int) ≤ v37 ∧ v37 ≤ 9999) (v57 : Int) (t58 : Int) (s59 : Int) (ht61 : t38 ≤ t58 ∧ t58 ≤ t38 + 2) (hq62 : v57 ∈ ([0, 0, 3, 999] : List Int)) (hq65 : (0 : Int) ≤ v57 ∧ v57 ≤ 999) (v78 : Int) (t79 : Int) (s80 : Int) (ht82 : t58 ≤ t79 ∧ t79 ≤ t58 + 2) (hq83 : v78 ∈ ([0, 0, 5, 40, 1250, 99999] : List Int)) (hq86 : (0 : Int) ≤ v78 ∧ v78 ≤ 99999) (v107 : Int) (t108 : Int) (s109 : Int) (ht111 : t79 ≤ t108 ∧ t108 ≤ t79 + 2) (hq112 : (0 : Int) ≤ v107 ∧ ((v107 : Int) < 80 ∨ (v107 : Int) = 0)) (h115 : v107 = 0) (v129 : Int) (t130 : Int) (s131 : Int) (ht133 : t108 ≤ t130 ∧ t130 ≤ t108 + 2) (hq134 : v129 ∈ ([0, 1200, 1201] : List Int)) (hq137 : (0 : Int) ≤ v129 ∧ v129 ≤ 1201) : v37 = (⟨v129, v18, v37, v57, v78⟩ : LibRow).Copied := by
  first | rfl | omega | grind
theorem z_c___spec_l1Cur__libRow_153 (Lc : List UInt8) (tc : Int) (sc : Int) (nc : Nat) (htc : 0 ≤ tc ∧ tc + 14 ≤ 4611686018427387904) (hbdc : (nc : Int) ≤ 9223372036854775807) (hlec : nc = Lc.length) (m : Int) (v18 : Int) (t19 : Int) (s20 : Int) (ht22 : tc ≤ t19 ∧ t19 ≤ tc + 2) (hq23 : v18 ∈ ([0, 100, 150, 150, 9999] : List Int)) (hq26 : (0 : Int) ≤ v18 ∧ v18 ≤ 9999) (v37 : Int) (t38 : Int) (s39 : Int) (ht41 : t19 ≤ t38 ∧ t38 ≤ t19 + 2) (hq42 : v37 ∈ ([0, 7, 500, 9999] : List Int)) (hq45 : (0 : Int) ≤ v37 ∧ v37 ≤ 9999) (v57 : Int) (t58 : Int) (s59 : Int) (ht61 : t38 ≤ t58 ∧ t58 ≤ t38 + 2) (hq62 : v57 ∈ ([0, 0, 3, 999] : List Int)) (hq65 : (0 : Int) ≤ v57 ∧ v57 ≤ 999) (v78 : Int) (t79 : Int) (s80 : Int) (ht82 : t58 ≤ t79 ∧ t79 ≤ t58 + 2) (hq83 : v78 ∈ ([0, 0, 5, 40, 1250, 99999] : List Int)) (hq86 : (0 : Int) ≤ v78 ∧ v78 ≤ 99999) (v107 : Int) (t108 : Int) (s109 : Int) (ht111 : t79 ≤ t108 ∧ t108 ≤ t79 + 2) (hq112 : (0 : Int) ≤ v107 ∧ ((v107 : Int) < 80 ∨ (v107 : Int) = 0)) (h115 : v107 = 0) (v129 : Int) (t130 : Int) (s131 : Int) (ht133 : t108 ≤ t130 ∧ t130 ≤ t108 + 2) (hq134 : v129 ∈ ([0, 1200, 1201] : List Int)) (hq137 : (0 : Int) ≤ v129 ∧ v129 ≤ 1201) : v57 = (⟨v129, v18, v37, v57, v78⟩ : LibRow).Given := by
  first | rfl | omega | grind
theorem z_c___spec_l1Cur__libRow_154 (Lc : List UInt8) (tc : Int) (sc : Int) (nc : Nat) (htc : 0 ≤ tc ∧ tc + 14 ≤ 4611686018427387904) (hbdc : (nc : Int) ≤ 9223372036854775807) (hlec : nc = Lc.length) (m : Int) (v18 : Int) (t19 : Int) (s20 : Int) (ht22 : tc ≤ t19 ∧ t19 ≤ tc + 2) (hq23 : v18 ∈ ([0, 100, 150, 150, 9999] : List Int)) (hq26 : (0 : Int) ≤ v18 ∧ v18 ≤ 9999) (v37 : Int) (t38 : Int) (s39 : Int) (ht41 : t19 ≤ t38 ∧ t38 ≤ t19 + 2) (hq42 : v37 ∈ ([0, 7, 500, 9999] : List Int)) (hq45 : (0 : Int) ≤ v37 ∧ v37 ≤ 9999) (v57 : Int) (t58 : Int) (s59 : Int) (ht61 : t38 ≤ t58 ∧ t58 ≤ t38 + 2) (hq62 : v57 ∈ ([0, 0, 3, 999] : List Int)) (hq65 : (0 : Int) ≤ v57 ∧ v57 ≤ 999) (v78 : Int) (t79 : Int) (s80 : Int) (ht82 : t58 ≤ t79 ∧ t79 ≤ t58 + 2) (hq83 : v78 ∈ ([0, 0, 5, 40, 1250, 99999] : List Int)) (hq86 : (0 : Int) ≤ v78 ∧ v78 ≤ 99999) (v107 : Int) (t108 : Int) (s109 : Int) (ht111 : t79 ≤ t108 ∧ t108 ≤ t79 + 2) (hq112 : (0 : Int) ≤ v107 ∧ ((v107 : Int) < 80 ∨ (v107 : Int) = 0)) (h115 : v107 = 0) (v129 : Int) (t130 : Int) (s131 : Int) (ht133 : t108 ≤ t130 ∧ t130 ≤ t108 + 2) (hq134 : v129 ∈ ([0, 1200, 1201] : List Int)) (hq137 : (0 : Int) ≤ v129 ∧ v129 ≤ 1201) : v78 = (⟨v129, v18, v37, v57, v78⟩ : LibRow).Fines := by
  first | rfl | omega | grind
theorem z_c___spec_l1Cur__libRow_190 (Lc : List UInt8) (tc : Int) (sc : Int) (nc : Nat) (htc : 0 ≤ tc ∧ tc + 14 ≤ 4611686018427387904) (hbdc : (nc : Int) ≤ 9223372036854775807) (hlec : nc = Lc.length) (m : Int) (v18 : Int) (t19 : Int) (s20 : Int) (ht22 : tc ≤ t19 ∧ t19 ≤ tc + 2) (hq23 : v18 ∈ ([0, 100, 150, 150, 9999] : List Int)) (hq26 : (0 : Int) ≤ v18 ∧ v18 ≤ 9999) (v37 : Int) (t38 : Int) (s39 : Int) (ht41 : t19 ≤ t38 ∧ t38 ≤ t19 + 2) (hq42 : v37 ∈ ([0, 7, 500, 9999] : List Int)) (hq45 : (0 : Int) ≤ v37 ∧ v37 ≤ 9999) (v57 : Int) (t58 : Int) (s59 : Int) (ht61 : t38 ≤ t58 ∧ t58 ≤ t38 + 2) (hq62 : v57 ∈ ([0, 0, 3, 999] : List Int)) (hq65 : (0 : Int) ≤ v57 ∧ v57 ≤ 999) (v78 : Int) (t79 : Int) (s80 : Int) (ht82 : t58 ≤ t79 ∧ t79 ≤ t58 + 2) (hq83 : v78 ∈ ([0, 0, 5, 40, 1250, 99999] : List Int)) (hq86 : (0 : Int) ≤ v78 ∧ v78 ≤ 99999) (v107 : Int) (t108 : Int) (s109 : Int) (ht111 : t79 ≤ t108 ∧ t108 ≤ t79 + 2) (hq112 : (0 : Int) ≤ v107 ∧ ((v107 : Int) < 80 ∨ (v107 : Int) = 0)) (h115 : ¬ (v107 = 0)) (h155 : v107 = 1) (v169 : Int) (t170 : Int) (s171 : Int) (ht173 : t108 ≤ t170 ∧ t170 ≤ t108 + 2) (hq174 : v169 ∈ ([(-1), 10000] : List Int)) (hq177 : ((-1) : Int) ≤ v169 ∧ v169 ≤ 10000) : m = (⟨m, v169, v37, v57, v78⟩ : LibRow).Month := by
  first | rfl | omega | grind
theorem z_c___spec_l1Cur__libRow_191 (Lc : List UInt8) (tc : Int) (sc : Int) (nc : Nat) (htc : 0 ≤ tc ∧ tc + 14 ≤ 4611686018427387904) (hbdc : (nc : Int) ≤ 9223372036854775807) (hlec : nc = Lc.length) (m : Int) (v18 : Int) (t19 : Int) (s20 : Int) (ht22 : tc ≤ t19 ∧ t19 ≤ tc + 2) (hq23 : v18 ∈ ([0, 100, 150, 150, 9999] : List Int)) (hq26 : (0 : Int) ≤ v18 ∧ v18 ≤ 9999) (v37 : Int) (t38 : Int) (s39 : Int) (ht41 : t19 ≤ t38 ∧ t38 ≤ t19 + 2) (hq42 : v37 ∈ ([0, 7, 500, 9999] : List Int)) (hq45 : (0 : Int) ≤ v37 ∧ v37 ≤ 9999) (v57 : Int) (t58 : Int) (s59 : Int) (ht61 : t38 ≤ t58 ∧ t58 ≤ t38 + 2) (hq62 : v57 ∈ ([0, 0, 3, 999] : List Int)) (hq65 : (0 : Int) ≤ v57 ∧ v57 ≤ 999) (v78 : Int) (t79 : Int) (s80 : Int) (ht82 : t58 ≤ t79 ∧ t79 ≤ t58 + 2) (hq83 : v78 ∈ ([0, 0, 5, 40, 1250, 99999] : List Int)) (hq86 : (0 : Int) ≤ v78 ∧ v78 ≤ 99999) (v107 : Int) (t108 : Int) (s109 : Int) (ht111 : t79 ≤ t108 ∧ t108 ≤ t79 + 2) (hq112 : (0 : Int) ≤ v107 ∧ ((v107 : Int) < 80 ∨ (v107 : Int) = 0)) (h115 : ¬ (v107 = 0)) (h155 : v107 = 1) (v169 : Int) (t170 : Int) (s171 : Int) (ht173 : t108 ≤ t170 ∧ t170 ≤ t108 + 2) (hq174 : v169 ∈ ([(-1), 10000] : List Int)) (hq177 : ((-1) : Int) ≤ v169 ∧ v169 ≤ 10000) : v169 = (⟨m, v169, v37, v57, v78⟩ : LibRow).Lent := by
  first | rfl | omega | grind
theorem z_c___spec_l1Cur__libRow_192 (Lc : List UInt8) (tc : Int) (sc : Int) (nc : Nat) (htc : 0 ≤ tc ∧ tc + 14 ≤ 4611686018427387904) (hbdc : (nc : Int) ≤ 9223372036854775807) (hlec : nc = Lc.length) (m : Int) (v18 : Int) (t19 : Int) (s20 : Int) (ht22 : tc ≤ t19 ∧ t19 ≤ tc + 2) (hq23 : v18 ∈ ([0, 100, 150, 150, 9999] : List Int)) (hq26 : (0 : Int) ≤ v18 ∧ v18 ≤ 9999) (v37 : Int) (t38 : Int) (s39 : Int) (ht41 : t19 ≤ t38 ∧ t38 ≤ t19 + 2) (hq42 : v37 ∈ ([0, 7, 500, 9999] : List Int)) (hq45 : (0 : Int) ≤ v37 ∧ v37 ≤ 9999) (v57 : Int) (t58 : Int) (s59 : Int) (ht61 : t38 ≤ t58 ∧ t58 ≤ t38 + 2) (hq62 : v57 ∈ ([0, 0, 3, 999] : List Int)) (hq65 : (0 : Int) ≤ v57 ∧ v57 ≤ 999) (v78 : Int) (t79 : Int) (s80 : Int) (ht82 : t58 ≤ t79 ∧ t79 ≤ t58 + 2) (hq83 : v78 ∈ ([0, 0, 5, 40, 1250, 99999] : List Int)) (hq86 : (0 : Int) ≤ v78 ∧ v78 ≤ 99999) (v107 : Int) (t108 : Int) (s109 : Int) (ht111 : t79 ≤ t108 ∧ t108 ≤ t79 + 2) (hq112 : (0 : Int) ≤ v107 ∧ ((v107 : Int) < 80 ∨ (v107 : Int) = 0)) (h115 : ¬ (v107 = 0)) (h155 : v107 = 1) (v169 : Int) (t170 : Int) (s171 : Int) (ht173 : t108 ≤ t170 ∧ t170 ≤ t108 + 2) (hq174 : v169 ∈ ([(-1), 10000] : List Int)) (hq177 : ((-1) : Int) ≤ v169 ∧ v169 ≤ 10000) : v37 = (⟨m, v169, v37, v57, v78⟩ : LibRow).Copied := by
  first | rfl | omega | grind
theorem z_c___spec_l1Cur__libRow_193 (Lc : List UInt8) (tc : Int) (sc : Int) (nc : Nat) (htc : 0 ≤ tc ∧ tc + 14 ≤ 4611686018427387904) (hbdc : (nc : Int) ≤ 9223372036854775807) (hlec : nc = Lc.length) (m : Int) (v18 : Int) (t19 : Int) (s20 : Int) (ht22 : tc ≤ t19 ∧ t19 ≤ tc + 2) (hq23 : v18 ∈ ([0, 100, 150, 150, 9999] : List Int)) (hq26 : (0 : Int) ≤ v18 ∧ v18 ≤ 9999) (v37 : Int) (t38 : Int) (s39 : Int) (ht41 : t19 ≤ t38 ∧ t38 ≤ t19 + 2) (hq42 : v37 ∈ ([0, 7, 500, 9999] : List Int)) (hq45 : (0 : Int) ≤ v37 ∧ v37 ≤ 9999) (v57 : Int) (t58 : Int) (s59 : Int) (ht61 : t38 ≤ t58 ∧ t58 ≤ t38 + 2) (hq62 : v57 ∈ ([0, 0, 3, 999] : List Int)) (hq65 : (0 : Int) ≤ v57 ∧ v57 ≤ 999) (v78 : Int) (t79 : Int) (s80 : Int) (ht82 : t58 ≤ t79 ∧ t79 ≤ t58 + 2) (hq83 : v78 ∈ ([0, 0, 5, 40, 1250, 99999] : List Int)) (hq86 : (0 : Int) ≤ v78 ∧ v78 ≤ 99999) (v107 : Int) (t108 : Int) (s109 : Int) (ht111 : t79 ≤ t108 ∧ t108 ≤ t79 + 2) (hq112 : (0 : Int) ≤ v107 ∧ ((v107 : Int) < 80 ∨ (v107 : Int) = 0)) (h115 : ¬ (v107 = 0)) (h155 : v107 = 1) (v169 : Int) (t170 : Int) (s171 : Int) (ht173 : t108 ≤ t170 ∧ t170 ≤ t108 + 2) (hq174 : v169 ∈ ([(-1), 10000] : List Int)) (hq177 : ((-1) : Int) ≤ v169 ∧ v169 ≤ 10000) : v57 = (⟨m, v169, v37, v57, v78⟩ : LibRow).Given := by
  first | rfl | omega | grind
theorem z_c___spec_l1Cur__libRow_194 (Lc : List UInt8) (tc : Int) (sc : Int) (nc : Nat) (htc : 0 ≤ tc ∧ tc + 14 ≤ 4611686018427387904) (hbdc : (nc : Int) ≤ 9223372036854775807) (hlec : nc = Lc.length) (m : Int) (v18 : Int) (t19 : Int) (s20 : Int) (ht22 : tc ≤ t19 ∧ t19 ≤ tc + 2) (hq23 : v18 ∈ ([0, 100, 150, 150, 9999] : List Int)) (hq26 : (0 : Int) ≤ v18 ∧ v18 ≤ 9999) (v37 : Int) (t38 : Int) (s39 : Int) (ht41 : t19 ≤ t38 ∧ t38 ≤ t19 + 2) (hq42 : v37 ∈ ([0, 7, 500, 9999] : List Int)) (hq45 : (0 : Int) ≤ v37 ∧ v37 ≤ 9999) (v57 : Int) (t58 : Int) (s59 : Int) (ht61 : t38 ≤ t58 ∧ t58 ≤ t38 + 2) (hq62 : v57 ∈ ([0, 0, 3, 999] : List Int)) (hq65 : (0 : Int) ≤ v57 ∧ v57 ≤ 999) (v78 : Int) (t79 : Int) (s80 : Int) (ht82 : t58 ≤ t79 ∧ t79 ≤ t58 + 2) (hq83 : v78 ∈ ([0, 0, 5, 40, 1250, 99999] : List Int)) (hq86 : (0 : Int) ≤ v78 ∧ v78 ≤ 99999) (v107 : Int) (t108 : Int) (s109 : Int) (ht111 : t79 ≤ t108 ∧ t108 ≤ t79 + 2) (hq112 : (0 : Int) ≤ v107 ∧ ((v107 : Int) < 80 ∨ (v107 : Int) = 0)) (h115 : ¬ (v107 = 0)) (h155 : v107 = 1) (v169 : Int) (t170 : Int) (s171 : Int) (ht173 : t108 ≤ t170 ∧ t170 ≤ t108 + 2) (hq174 : v169 ∈ ([(-1), 10000] : List Int)) (hq177 : ((-1) : Int) ≤ v169 ∧ v169 ≤ 10000) : v78 = (⟨m, v169, v37, v57, v78⟩ : LibRow).Fines := by
  first | rfl | omega | grind
theorem z_c___spec_l1Cur__libRow_230 (Lc : List UInt8) (tc : Int) (sc : Int) (nc : Nat) (htc : 0 ≤ tc ∧ tc + 14 ≤ 4611686018427387904) (hbdc : (nc : Int) ≤ 9223372036854775807) (hlec : nc = Lc.length) (m : Int) (v18 : Int) (t19 : Int) (s20 : Int) (ht22 : tc ≤ t19 ∧ t19 ≤ tc + 2) (hq23 : v18 ∈ ([0, 100, 150, 150, 9999] : List Int)) (hq26 : (0 : Int) ≤ v18 ∧ v18 ≤ 9999) (v37 : Int) (t38 : Int) (s39 : Int) (ht41 : t19 ≤ t38 ∧ t38 ≤ t19 + 2) (hq42 : v37 ∈ ([0, 7, 500, 9999] : List Int)) (hq45 : (0 : Int) ≤ v37 ∧ v37 ≤ 9999) (v57 : Int) (t58 : Int) (s59 : Int) (ht61 : t38 ≤ t58 ∧ t58 ≤ t38 + 2) (hq62 : v57 ∈ ([0, 0, 3, 999] : List Int)) (hq65 : (0 : Int) ≤ v57 ∧ v57 ≤ 999) (v78 : Int) (t79 : Int) (s80 : Int) (ht82 : t58 ≤ t79 ∧ t79 ≤ t58 + 2) (hq83 : v78 ∈ ([0, 0, 5, 40, 1250, 99999] : List Int)) (hq86 : (0 : Int) ≤ v78 ∧ v78 ≤ 99999) (v107 : Int) (t108 : Int) (s109 : Int) (ht111 : t79 ≤ t108 ∧ t108 ≤ t79 + 2) (hq112 : (0 : Int) ≤ v107 ∧ ((v107 : Int) < 80 ∨ (v107 : Int) = 0)) (h115 : ¬ (v107 = 0)) (h155 : ¬ (v107 = 1)) (h195 : v107 = 2) (v209 : Int) (t210 : Int) (s211 : Int) (ht213 : t108 ≤ t210 ∧ t210 ≤ t108 + 2) (hq214 : v209 ∈ ([(-1), 10000] : List Int)) (hq217 : ((-1) : Int) ≤ v209 ∧ v209 ≤ 10000) : m = (⟨m, v18, v209, v57, v78⟩ : LibRow).Month := by
  first | rfl | omega | grind
theorem z_c___spec_l1Cur__libRow_231 (Lc : List UInt8) (tc : Int) (sc : Int) (nc : Nat) (htc : 0 ≤ tc ∧ tc + 14 ≤ 4611686018427387904) (hbdc : (nc : Int) ≤ 9223372036854775807) (hlec : nc = Lc.length) (m : Int) (v18 : Int) (t19 : Int) (s20 : Int) (ht22 : tc ≤ t19 ∧ t19 ≤ tc + 2) (hq23 : v18 ∈ ([0, 100, 150, 150, 9999] : List Int)) (hq26 : (0 : Int) ≤ v18 ∧ v18 ≤ 9999) (v37 : Int) (t38 : Int) (s39 : Int) (ht41 : t19 ≤ t38 ∧ t38 ≤ t19 + 2) (hq42 : v37 ∈ ([0, 7, 500, 9999] : List Int)) (hq45 : (0 : Int) ≤ v37 ∧ v37 ≤ 9999) (v57 : Int) (t58 : Int) (s59 : Int) (ht61 : t38 ≤ t58 ∧ t58 ≤ t38 + 2) (hq62 : v57 ∈ ([0, 0, 3, 999] : List Int)) (hq65 : (0 : Int) ≤ v57 ∧ v57 ≤ 999) (v78 : Int) (t79 : Int) (s80 : Int) (ht82 : t58 ≤ t79 ∧ t79 ≤ t58 + 2) (hq83 : v78 ∈ ([0, 0, 5, 40, 1250, 99999] : List Int)) (hq86 : (0 : Int) ≤ v78 ∧ v78 ≤ 99999) (v107 : Int) (t108 : Int) (s109 : Int) (ht111 : t79 ≤ t108 ∧ t108 ≤ t79 + 2) (hq112 : (0 : Int) ≤ v107 ∧ ((v107 : Int) < 80 ∨ (v107 : Int) = 0)) (h115 : ¬ (v107 = 0)) (h155 : ¬ (v107 = 1)) (h195 : v107 = 2) (v209 : Int) (t210 : Int) (s211 : Int) (ht213 : t108 ≤ t210 ∧ t210 ≤ t108 + 2) (hq214 : v209 ∈ ([(-1), 10000] : List Int)) (hq217 : ((-1) : Int) ≤ v209 ∧ v209 ≤ 10000) : v18 = (⟨m, v18, v209, v57, v78⟩ : LibRow).Lent := by
  first | rfl | omega | grind
theorem z_c___spec_l1Cur__libRow_232 (Lc : List UInt8) (tc : Int) (sc : Int) (nc : Nat) (htc : 0 ≤ tc ∧ tc + 14 ≤ 4611686018427387904) (hbdc : (nc : Int) ≤ 9223372036854775807) (hlec : nc = Lc.length) (m : Int) (v18 : Int) (t19 : Int) (s20 : Int) (ht22 : tc ≤ t19 ∧ t19 ≤ tc + 2) (hq23 : v18 ∈ ([0, 100, 150, 150, 9999] : List Int)) (hq26 : (0 : Int) ≤ v18 ∧ v18 ≤ 9999) (v37 : Int) (t38 : Int) (s39 : Int) (ht41 : t19 ≤ t38 ∧ t38 ≤ t19 + 2) (hq42 : v37 ∈ ([0, 7, 500, 9999] : List Int)) (hq45 : (0 : Int) ≤ v37 ∧ v37 ≤ 9999) (v57 : Int) (t58 : Int) (s59 : Int) (ht61 : t38 ≤ t58 ∧ t58 ≤ t38 + 2) (hq62 : v57 ∈ ([0, 0, 3, 999] : List Int)) (hq65 : (0 : Int) ≤ v57 ∧ v57 ≤ 999) (v78 : Int) (t79 : Int) (s80 : Int) (ht82 : t58 ≤ t79 ∧ t79 ≤ t58 + 2) (hq83 : v78 ∈ ([0, 0, 5, 40, 1250, 99999] : List Int)) (hq86 : (0 : Int) ≤ v78 ∧ v78 ≤ 99999) (v107 : Int) (t108 : Int) (s109 : Int) (ht111 : t79 ≤ t108 ∧ t108 ≤ t79 + 2) (hq112 : (0 : Int) ≤ v107 ∧ ((v107 : Int) < 80 ∨ (v107 : Int) = 0)) (h115 : ¬ (v107 = 0)) (h155 : ¬ (v107 = 1)) (h195 : v107 = 2) (v209 : Int) (t210 : Int) (s211 : Int) (ht213 : t108 ≤ t210 ∧ t210 ≤ t108 + 2) (hq214 : v209 ∈ ([(-1), 10000] : List Int)) (hq217 : ((-1) : Int) ≤ v209 ∧ v209 ≤ 10000) : v209 = (⟨m, v18, v209, v57, v78⟩ : LibRow).Copied := by
  first | rfl | omega | grind
theorem z_c___spec_l1Cur__libRow_233 (Lc : List UInt8) (tc : Int) (sc : Int) (nc : Nat) (htc : 0 ≤ tc ∧ tc + 14 ≤ 4611686018427387904) (hbdc : (nc : Int) ≤ 9223372036854775807) (hlec : nc = Lc.length) (m : Int) (v18 : Int) (t19 : Int) (s20 : Int) (ht22 : tc ≤ t19 ∧ t19 ≤ tc + 2) (hq23 : v18 ∈ ([0, 100, 150, 150, 9999] : List Int)) (hq26 : (0 : Int) ≤ v18 ∧ v18 ≤ 9999) (v37 : Int) (t38 : Int) (s39 : Int) (ht41 : t19 ≤ t38 ∧ t38 ≤ t19 + 2) (hq42 : v37 ∈ ([0, 7, 500, 9999] : List Int)) (hq45 : (0 : Int) ≤ v37 ∧ v37 ≤ 9999) (v57 : Int) (t58 : Int) (s59 : Int) (ht61 : t38 ≤ t58 ∧ t58 ≤ t38 + 2) (hq62 : v57 ∈ ([0, 0, 3, 999] : List Int)) (hq65 : (0 : Int) ≤ v57 ∧ v57 ≤ 999) (v78 : Int) (t79 : Int) (s80 : Int) (ht82 : t58 ≤ t79 ∧ t79 ≤ t58 + 2) (hq83 : v78 ∈ ([0, 0, 5, 40, 1250, 99999] : List Int)) (hq86 : (0 : Int) ≤ v78 ∧ v78 ≤ 99999) (v107 : Int) (t108 : Int) (s109 : Int) (ht111 : t79 ≤ t108 ∧ t108 ≤ t79 + 2) (hq112 : (0 : Int) ≤ v107 ∧ ((v107 : Int) < 80 ∨ (v107 : Int) = 0)) (h115 : ¬ (v107 = 0)) (h155 : ¬ (v107 = 1)) (h195 : v107 = 2) (v209 : Int) (t210 : Int) (s211 : Int) (ht213 : t108 ≤ t210 ∧ t210 ≤ t108 + 2) (hq214 : v209 ∈ ([(-1), 10000] : List Int)) (hq217 : ((-1) : Int) ≤ v209 ∧ v209 ≤ 10000) : v57 = (⟨m, v18, v209, v57, v78⟩ : LibRow).Given := by
  first | rfl | omega | grind
theorem z_c___spec_l1Cur__libRow_234 (Lc : List UInt8) (tc : Int) (sc : Int) (nc : Nat) (htc : 0 ≤ tc ∧ tc + 14 ≤ 4611686018427387904) (hbdc : (nc : Int) ≤ 9223372036854775807) (hlec : nc = Lc.length) (m : Int) (v18 : Int) (t19 : Int) (s20 : Int) (ht22 : tc ≤ t19 ∧ t19 ≤ tc + 2) (hq23 : v18 ∈ ([0, 100, 150, 150, 9999] : List Int)) (hq26 : (0 : Int) ≤ v18 ∧ v18 ≤ 9999) (v37 : Int) (t38 : Int) (s39 : Int) (ht41 : t19 ≤ t38 ∧ t38 ≤ t19 + 2) (hq42 : v37 ∈ ([0, 7, 500, 9999] : List Int)) (hq45 : (0 : Int) ≤ v37 ∧ v37 ≤ 9999) (v57 : Int) (t58 : Int) (s59 : Int) (ht61 : t38 ≤ t58 ∧ t58 ≤ t38 + 2) (hq62 : v57 ∈ ([0, 0, 3, 999] : List Int)) (hq65 : (0 : Int) ≤ v57 ∧ v57 ≤ 999) (v78 : Int) (t79 : Int) (s80 : Int) (ht82 : t58 ≤ t79 ∧ t79 ≤ t58 + 2) (hq83 : v78 ∈ ([0, 0, 5, 40, 1250, 99999] : List Int)) (hq86 : (0 : Int) ≤ v78 ∧ v78 ≤ 99999) (v107 : Int) (t108 : Int) (s109 : Int) (ht111 : t79 ≤ t108 ∧ t108 ≤ t79 + 2) (hq112 : (0 : Int) ≤ v107 ∧ ((v107 : Int) < 80 ∨ (v107 : Int) = 0)) (h115 : ¬ (v107 = 0)) (h155 : ¬ (v107 = 1)) (h195 : v107 = 2) (v209 : Int) (t210 : Int) (s211 : Int) (ht213 : t108 ≤ t210 ∧ t210 ≤ t108 + 2) (hq214 : v209 ∈ ([(-1), 10000] : List Int)) (hq217 : ((-1) : Int) ≤ v209 ∧ v209 ≤ 10000) : v78 = (⟨m, v18, v209, v57, v78⟩ : LibRow).Fines := by
  first | rfl | omega | grind
theorem z_c___spec_l1Cur__libRow_270 (Lc : List UInt8) (tc : Int) (sc : Int) (nc : Nat) (htc : 0 ≤ tc ∧ tc + 14 ≤ 4611686018427387904) (hbdc : (nc : Int) ≤ 9223372036854775807) (hlec : nc = Lc.length) (m : Int) (v18 : Int) (t19 : Int) (s20 : Int) (ht22 : tc ≤ t19 ∧ t19 ≤ tc + 2) (hq23 : v18 ∈ ([0, 100, 150, 150, 9999] : List Int)) (hq26 : (0 : Int) ≤ v18 ∧ v18 ≤ 9999) (v37 : Int) (t38 : Int) (s39 : Int) (ht41 : t19 ≤ t38 ∧ t38 ≤ t19 + 2) (hq42 : v37 ∈ ([0, 7, 500, 9999] : List Int)) (hq45 : (0 : Int) ≤ v37 ∧ v37 ≤ 9999) (v57 : Int) (t58 : Int) (s59 : Int) (ht61 : t38 ≤ t58 ∧ t58 ≤ t38 + 2) (hq62 : v57 ∈ ([0, 0, 3, 999] : List Int)) (hq65 : (0 : Int) ≤ v57 ∧ v57 ≤ 999) (v78 : Int) (t79 : Int) (s80 : Int) (ht82 : t58 ≤ t79 ∧ t79 ≤ t58 + 2) (hq83 : v78 ∈ ([0, 0, 5, 40, 1250, 99999] : List Int)) (hq86 : (0 : Int) ≤ v78 ∧ v78 ≤ 99999) (v107 : Int) (t108 : Int) (s109 : Int) (ht111 : t79 ≤ t108 ∧ t108 ≤ t79 + 2) (hq112 : (0 : Int) ≤ v107 ∧ ((v107 : Int) < 80 ∨ (v107 : Int) = 0)) (h115 : ¬ (v107 = 0)) (h155 : ¬ (v107 = 1)) (h195 : ¬ (v107 = 2)) (h235 : v107 = 3) (v249 : Int) (t250 : Int) (s251 : Int) (ht253 : t108 ≤ t250 ∧ t250 ≤ t108 + 2) (hq254 : v249 ∈ ([(-1), 1000] : List Int)) (hq257 : ((-1) : Int) ≤ v249 ∧ v249 ≤ 1000) : m = (⟨m, v18, v37, v249, v78⟩ : LibRow).Month := by
  first | rfl | omega | grind
theorem z_c___spec_l1Cur__libRow_271 (Lc : List UInt8) (tc : Int) (sc : Int) (nc : Nat) (htc : 0 ≤ tc ∧ tc + 14 ≤ 4611686018427387904) (hbdc : (nc : Int) ≤ 9223372036854775807) (hlec : nc = Lc.length) (m : Int) (v18 : Int) (t19 : Int) (s20 : Int) (ht22 : tc ≤ t19 ∧ t19 ≤ tc + 2) (hq23 : v18 ∈ ([0, 100, 150, 150, 9999] : List Int)) (hq26 : (0 : Int) ≤ v18 ∧ v18 ≤ 9999) (v37 : Int) (t38 : Int) (s39 : Int) (ht41 : t19 ≤ t38 ∧ t38 ≤ t19 + 2) (hq42 : v37 ∈ ([0, 7, 500, 9999] : List Int)) (hq45 : (0 : Int) ≤ v37 ∧ v37 ≤ 9999) (v57 : Int) (t58 : Int) (s59 : Int) (ht61 : t38 ≤ t58 ∧ t58 ≤ t38 + 2) (hq62 : v57 ∈ ([0, 0, 3, 999] : List Int)) (hq65 : (0 : Int) ≤ v57 ∧ v57 ≤ 999) (v78 : Int) (t79 : Int) (s80 : Int) (ht82 : t58 ≤ t79 ∧ t79 ≤ t58 + 2) (hq83 : v78 ∈ ([0, 0, 5, 40, 1250, 99999] : List Int)) (hq86 : (0 : Int) ≤ v78 ∧ v78 ≤ 99999) (v107 : Int) (t108 : Int) (s109 : Int) (ht111 : t79 ≤ t108 ∧ t108 ≤ t79 + 2) (hq112 : (0 : Int) ≤ v107 ∧ ((v107 : Int) < 80 ∨ (v107 : Int) = 0)) (h115 : ¬ (v107 = 0)) (h155 : ¬ (v107 = 1)) (h195 : ¬ (v107 = 2)) (h235 : v107 = 3) (v249 : Int) (t250 : Int) (s251 : Int) (ht253 : t108 ≤ t250 ∧ t250 ≤ t108 + 2) (hq254 : v249 ∈ ([(-1), 1000] : List Int)) (hq257 : ((-1) : Int) ≤ v249 ∧ v249 ≤ 1000) : v18 = (⟨m, v18, v37, v249, v78⟩ : LibRow).Lent := by
  first | rfl | omega | grind
theorem z_c___spec_l1Cur__libRow_272 (Lc : List UInt8) (tc : Int) (sc : Int) (nc : Nat) (htc : 0 ≤ tc ∧ tc + 14 ≤ 4611686018427387904) (hbdc : (nc : Int) ≤ 9223372036854775807) (hlec : nc = Lc.length) (m : Int) (v18 : Int) (t19 : Int) (s20 : Int) (ht22 : tc ≤ t19 ∧ t19 ≤ tc + 2) (hq23 : v18 ∈ ([0, 100, 150, 150, 9999] : List Int)) (hq26 : (0 : Int) ≤ v18 ∧ v18 ≤ 9999) (v37 : Int) (t38 : Int) (s39 : Int) (ht41 : t19 ≤ t38 ∧ t38 ≤ t19 + 2) (hq42 : v37 ∈ ([0, 7, 500, 9999] : List Int)) (hq45 : (0 : Int) ≤ v37 ∧ v37 ≤ 9999) (v57 : Int) (t58 : Int) (s59 : Int) (ht61 : t38 ≤ t58 ∧ t58 ≤ t38 + 2) (hq62 : v57 ∈ ([0, 0, 3, 999] : List Int)) (hq65 : (0 : Int) ≤ v57 ∧ v57 ≤ 999) (v78 : Int) (t79 : Int) (s80 : Int) (ht82 : t58 ≤ t79 ∧ t79 ≤ t58 + 2) (hq83 : v78 ∈ ([0, 0, 5, 40, 1250, 99999] : List Int)) (hq86 : (0 : Int) ≤ v78 ∧ v78 ≤ 99999) (v107 : Int) (t108 : Int) (s109 : Int) (ht111 : t79 ≤ t108 ∧ t108 ≤ t79 + 2) (hq112 : (0 : Int) ≤ v107 ∧ ((v107 : Int) < 80 ∨ (v107 : Int) = 0)) (h115 : ¬ (v107 = 0)) (h155 : ¬ (v107 = 1)) (h195 : ¬ (v107 = 2)) (h235 : v107 = 3) (v249 : Int) (t250 : Int) (s251 : Int) (ht253 : t108 ≤ t250 ∧ t250 ≤ t108 + 2) (hq254 : v249 ∈ ([(-1), 1000] : List Int)) (hq257 : ((-1) : Int) ≤ v249 ∧ v249 ≤ 1000) : v37 = (⟨m, v18, v37, v249, v78⟩ : LibRow).Copied := by
  first | rfl | omega | grind
theorem z_c___spec_l1Cur__libRow_273 (Lc : List UInt8) (tc : Int) (sc : Int) (nc : Nat) (htc : 0 ≤ tc ∧ tc + 14 ≤ 4611686018427387904) (hbdc : (nc : Int) ≤ 9223372036854775807) (hlec : nc = Lc.length) (m : Int) (v18 : Int) (t19 : Int) (s20 : Int) (ht22 : tc ≤ t19 ∧ t19 ≤ tc + 2) (hq23 : v18 ∈ ([0, 100, 150, 150, 9999] : List Int)) (hq26 : (0 : Int) ≤ v18 ∧ v18 ≤ 9999) (v37 : Int) (t38 : Int) (s39 : Int) (ht41 : t19 ≤ t38 ∧ t38 ≤ t19 + 2) (hq42 : v37 ∈ ([0, 7, 500, 9999] : List Int)) (hq45 : (0 : Int) ≤ v37 ∧ v37 ≤ 9999) (v57 : Int) (t58 : Int) (s59 : Int) (ht61 : t38 ≤ t58 ∧ t58 ≤ t38 + 2) (hq62 : v57 ∈ ([0, 0, 3, 999] : List Int)) (hq65 : (0 : Int) ≤ v57 ∧ v57 ≤ 999) (v78 : Int) (t79 : Int) (s80 : Int) (ht82 : t58 ≤ t79 ∧ t79 ≤ t58 + 2) (hq83 : v78 ∈ ([0, 0, 5, 40, 1250, 99999] : List Int)) (hq86 : (0 : Int) ≤ v78 ∧ v78 ≤ 99999) (v107 : Int) (t108 : Int) (s109 : Int) (ht111 : t79 ≤ t108 ∧ t108 ≤ t79 + 2) (hq112 : (0 : Int) ≤ v107 ∧ ((v107 : Int) < 80 ∨ (v107 : Int) = 0)) (h115 : ¬ (v107 = 0)) (h155 : ¬ (v107 = 1)) (h195 : ¬ (v107 = 2)) (h235 : v107 = 3) (v249 : Int) (t250 : Int) (s251 : Int) (ht253 : t108 ≤ t250 ∧ t250 ≤ t108 + 2) (hq254 : v249 ∈ ([(-1), 1000] : List Int)) (hq257 : ((-1) : Int) ≤ v249 ∧ v249 ≤ 1000) : v249 = (⟨m, v18, v37, v249, v78⟩ : LibRow).Given := by
  first | rfl | omega | grind
theorem z_c___spec_l1Cur__libRow_274 (Lc : List UInt8) (tc : Int) (sc : Int) (nc : Nat) (htc : 0 ≤ tc ∧ tc + 14 ≤ 4611686018427387904) (hbdc : (nc : Int) ≤ 9223372036854775807) (hlec : nc = Lc.length) (m : Int) (v18 : Int) (t19 : Int) (s20 : Int) (ht22 : tc ≤ t19 ∧ t19 ≤ tc + 2) (hq23 : v18 ∈ ([0, 100, 150, 150, 9999] : List Int)) (hq26 : (0 : Int) ≤ v18 ∧ v18 ≤ 9999) (v37 : Int) (t38 : Int) (s39 : Int) (ht41 : t19 ≤ t38 ∧ t38 ≤ t19 + 2) (hq42 : v37 ∈ ([0, 7, 500, 9999] : List Int)) (hq45 : (0 : Int) ≤ v37 ∧ v37 ≤ 9999) (v57 : Int) (t58 : Int) (s59 : Int) (ht61 : t38 ≤ t58 ∧ t58 ≤ t38 + 2) (hq62 : v57 ∈ ([0, 0, 3, 999] : List Int)) (hq65 : (0 : Int) ≤ v57 ∧ v57 ≤ 999) (v78 : Int) (t79 : Int) (s80 : Int) (ht82 : t58 ≤ t79 ∧ t79 ≤ t58 + 2) (hq83 : v78 ∈ ([0, 0, 5, 40, 1250, 99999] : List Int)) (hq86 : (0 : Int) ≤ v78 ∧ v78 ≤ 99999) (v107 : Int) (t108 : Int) (s109 : Int) (ht111 : t79 ≤ t108 ∧ t108 ≤ t79 + 2) (hq112 : (0 : Int) ≤ v107 ∧ ((v107 : Int) < 80 ∨ (v107 : Int) = 0)) (h115 : ¬ (v107 = 0)) (h155 : ¬ (v107 = 1)) (h195 : ¬ (v107 = 2)) (h235 : v107 = 3) (v249 : Int) (t250 : Int) (s251 : Int) (ht253 : t108 ≤ t250 ∧ t250 ≤ t108 + 2) (hq254 : v249 ∈ ([(-1), 1000] : List Int)) (hq257 : ((-1) : Int) ≤ v249 ∧ v249 ≤ 1000) : v78 = (⟨m, v18, v37, v249, v78⟩ : LibRow).Fines := by
  first | rfl | omega | grind
theorem z_c___spec_l1Cur__libRow_310 (Lc : List UInt8) (tc : Int) (sc : Int) (nc : Nat) (htc : 0 ≤ tc ∧ tc + 14 ≤ 4611686018427387904) (hbdc : (nc : Int) ≤ 9223372036854775807) (hlec : nc = Lc.length) (m : Int) (v18 : Int) (t19 : Int) (s20 : Int) (ht22 : tc ≤ t19 ∧ t19 ≤ tc + 2) (hq23 : v18 ∈ ([0, 100, 150, 150, 9999] : List Int)) (hq26 : (0 : Int) ≤ v18 ∧ v18 ≤ 9999) (v37 : Int) (t38 : Int) (s39 : Int) (ht41 : t19 ≤ t38 ∧ t38 ≤ t19 + 2) (hq42 : v37 ∈ ([0, 7, 500, 9999] : List Int)) (hq45 : (0 : Int) ≤ v37 ∧ v37 ≤ 9999) (v57 : Int) (t58 : Int) (s59 : Int) (ht61 : t38 ≤ t58 ∧ t58 ≤ t38 + 2) (hq62 : v57 ∈ ([0, 0, 3, 999] : List Int)) (hq65 : (0 : Int) ≤ v57 ∧ v57 ≤ 999) (v78 : Int) (t79 : Int) (s80 : Int) (ht82 : t58 ≤ t79 ∧ t79 ≤ t58 + 2) (hq83 : v78 ∈ ([0, 0, 5, 40, 1250, 99999] : List Int)) (hq86 : (0 : Int) ≤ v78 ∧ v78 ≤ 99999) (v107 : Int) (t108 : Int) (s109 : Int) (ht111 : t79 ≤ t108 ∧ t108 ≤ t79 + 2) (hq112 : (0 : Int) ≤ v107 ∧ ((v107 : Int) < 80 ∨ (v107 : Int) = 0)) (h115 : ¬ (v107 = 0)) (h155 : ¬ (v107 = 1)) (h195 : ¬ (v107 = 2)) (h235 : ¬ (v107 = 3)) (h275 : v107 = 4) (v289 : Int) (t290 : Int) (s291 : Int) (ht293 : t108 ≤ t290 ∧ t290 ≤ t108 + 2) (hq294 : v289 ∈ ([(-1), 100000] : List Int)) (hq297 : ((-1) : Int) ≤ v289 ∧ v289 ≤ 100000) : m = (⟨m, v18, v37, v57, v289⟩ : LibRow).Month := by
  first | rfl | omega | grind
theorem z_c___spec_l1Cur__libRow_311 (Lc : List UInt8) (tc : Int) (sc : Int) (nc : Nat) (htc : 0 ≤ tc ∧ tc + 14 ≤ 4611686018427387904) (hbdc : (nc : Int) ≤ 9223372036854775807) (hlec : nc = Lc.length) (m : Int) (v18 : Int) (t19 : Int) (s20 : Int) (ht22 : tc ≤ t19 ∧ t19 ≤ tc + 2) (hq23 : v18 ∈ ([0, 100, 150, 150, 9999] : List Int)) (hq26 : (0 : Int) ≤ v18 ∧ v18 ≤ 9999) (v37 : Int) (t38 : Int) (s39 : Int) (ht41 : t19 ≤ t38 ∧ t38 ≤ t19 + 2) (hq42 : v37 ∈ ([0, 7, 500, 9999] : List Int)) (hq45 : (0 : Int) ≤ v37 ∧ v37 ≤ 9999) (v57 : Int) (t58 : Int) (s59 : Int) (ht61 : t38 ≤ t58 ∧ t58 ≤ t38 + 2) (hq62 : v57 ∈ ([0, 0, 3, 999] : List Int)) (hq65 : (0 : Int) ≤ v57 ∧ v57 ≤ 999) (v78 : Int) (t79 : Int) (s80 : Int) (ht82 : t58 ≤ t79 ∧ t79 ≤ t58 + 2) (hq83 : v78 ∈ ([0, 0, 5, 40, 1250, 99999] : List Int)) (hq86 : (0 : Int) ≤ v78 ∧ v78 ≤ 99999) (v107 : Int) (t108 : Int) (s109 : Int) (ht111 : t79 ≤ t108 ∧ t108 ≤ t79 + 2) (hq112 : (0 : Int) ≤ v107 ∧ ((v107 : Int) < 80 ∨ (v107 : Int) = 0)) (h115 : ¬ (v107 = 0)) (h155 : ¬ (v107 = 1)) (h195 : ¬ (v107 = 2)) (h235 : ¬ (v107 = 3)) (h275 : v107 = 4) (v289 : Int) (t290 : Int) (s291 : Int) (ht293 : t108 ≤ t290 ∧ t290 ≤ t108 + 2) (hq294 : v289 ∈ ([(-1), 100000] : List Int)) (hq297 : ((-1) : Int) ≤ v289 ∧ v289 ≤ 100000) : v18 = (⟨m, v18, v37, v57, v289⟩ : LibRow).Lent := by
  first | rfl | omega | grind
theorem z_c___spec_l1Cur__libRow_312 (Lc : List UInt8) (tc : Int) (sc : Int) (nc : Nat) (htc : 0 ≤ tc ∧ tc + 14 ≤ 4611686018427387904) (hbdc : (nc : Int) ≤ 9223372036854775807) (hlec : nc = Lc.length) (m : Int) (v18 : Int) (t19 : Int) (s20 : Int) (ht22 : tc ≤ t19 ∧ t19 ≤ tc + 2) (hq23 : v18 ∈ ([0, 100, 150, 150, 9999] : List Int)) (hq26 : (0 : Int) ≤ v18 ∧ v18 ≤ 9999) (v37 : Int) (t38 : Int) (s39 : Int) (ht41 : t19 ≤ t38 ∧ t38 ≤ t19 + 2) (hq42 : v37 ∈ ([0, 7, 500, 9999] : List Int)) (hq45 : (0 : Int) ≤ v37 ∧ v37 ≤ 9999) (v57 : Int) (t58 : Int) (s59 : Int) (ht61 : t38 ≤ t58 ∧ t58 ≤ t38 + 2) (hq62 : v57 ∈ ([0, 0, 3, 999] : List Int)) (hq65 : (0 : Int) ≤ v57 ∧ v57 ≤ 999) (v78 : Int) (t79 : Int) (s80 : Int) (ht82 : t58 ≤ t79 ∧ t79 ≤ t58 + 2) (hq83 : v78 ∈ ([0, 0, 5, 40, 1250, 99999] : List Int)) (hq86 : (0 : Int) ≤ v78 ∧ v78 ≤ 99999) (v107 : Int) (t108 : Int) (s109 : Int) (ht111 : t79 ≤ t108 ∧ t108 ≤ t79 + 2) (hq112 : (0 : Int) ≤ v107 ∧ ((v107 : Int) < 80 ∨ (v107 : Int) = 0)) (h115 : ¬ (v107 = 0)) (h155 : ¬ (v107 = 1)) (h195 : ¬ (v107 = 2)) (h235 : ¬ (v107 = 3)) (h275 : v107 = 4) (v289 : Int) (t290 : Int) (s291 : Int) (ht293 : t108 ≤ t290 ∧ t290 ≤ t108 + 2) (hq294 : v289 ∈ ([(-1), 100000] : List Int)) (hq297 : ((-1) : Int) ≤ v289 ∧ v289 ≤ 100000) : v37 = (⟨m, v18, v37, v57, v289⟩ : LibRow).Copied := by
  first | rfl | omega | grind
theorem z_c___spec_l1Cur__libRow_313 (Lc : List UInt8) (tc : Int) (sc : Int) (nc : Nat) (htc : 0 ≤ tc ∧ tc + 14 ≤ 4611686018427387904) (hbdc : (nc : Int) ≤ 9223372036854775807) (hlec : nc = Lc.length) (m : Int) (v18 : Int) (t19 : Int) (s20 : Int) (ht22 : tc ≤ t19 ∧ t19 ≤ tc + 2) (hq23 : v18 ∈ ([0, 100, 150, 150, 9999] : List Int)) (hq26 : (0 : Int) ≤ v18 ∧ v18 ≤ 9999) (v37 : Int) (t38 : Int) (s39 : Int) (ht41 : t19 ≤ t38 ∧ t38 ≤ t19 + 2) (hq42 : v37 ∈ ([0, 7, 500, 9999] : List Int)) (hq45 : (0 : Int) ≤ v37 ∧ v37 ≤ 9999) (v57 : Int) (t58 : Int) (s59 : Int) (ht61 : t38 ≤ t58 ∧ t58 ≤ t38 + 2) (hq62 : v57 ∈ ([0, 0, 3, 999] : List Int)) (hq65 : (0 : Int) ≤ v57 ∧ v57 ≤ 999) (v78 : Int) (t79 : Int) (s80 : Int) (ht82 : t58 ≤ t79 ∧ t79 ≤ t58 + 2) (hq83 : v78 ∈ ([0, 0, 5, 40, 1250, 99999] : List Int)) (hq86 : (0 : Int) ≤ v78 ∧ v78 ≤ 99999) (v107 : Int) (t108 : Int) (s109 : Int) (ht111 : t79 ≤ t108 ∧ t108 ≤ t79 + 2) (hq112 : (0 : Int) ≤ v107 ∧ ((v107 : Int) < 80 ∨ (v107 : Int) = 0)) (h115 : ¬ (v107 = 0)) (h155 : ¬ (v107 = 1)) (h195 : ¬ (v107 = 2)) (h235 : ¬ (v107 = 3)) (h275 : v107 = 4) (v289 : Int) (t290 : Int) (s291 : Int) (ht293 : t108 ≤ t290 ∧ t290 ≤ t108 + 2) (hq294 : v289 ∈ ([(-1), 100000] : List Int)) (hq297 : ((-1) : Int) ≤ v289 ∧ v289 ≤ 100000) : v57 = (⟨m, v18, v37, v57, v289⟩ : LibRow).Given := by
  first | rfl | omega | grind
theorem z_c___spec_l1Cur__libRow_314 (Lc : List UInt8) (tc : Int) (sc : Int) (nc : Nat) (htc : 0 ≤ tc ∧ tc + 14 ≤ 4611686018427387904) (hbdc : (nc : Int) ≤ 9223372036854775807) (hlec : nc = Lc.length) (m : Int) (v18 : Int) (t19 : Int) (s20 : Int) (ht22 : tc ≤ t19 ∧ t19 ≤ tc + 2) (hq23 : v18 ∈ ([0, 100, 150, 150, 9999] : List Int)) (hq26 : (0 : Int) ≤ v18 ∧ v18 ≤ 9999) (v37 : Int) (t38 : Int) (s39 : Int) (ht41 : t19 ≤ t38 ∧ t38 ≤ t19 + 2) (hq42 : v37 ∈ ([0, 7, 500, 9999] : List Int)) (hq45 : (0 : Int) ≤ v37 ∧ v37 ≤ 9999) (v57 : Int) (t58 : Int) (s59 : Int) (ht61 : t38 ≤ t58 ∧ t58 ≤ t38 + 2) (hq62 : v57 ∈ ([0, 0, 3, 999] : List Int)) (hq65 : (0 : Int) ≤ v57 ∧ v57 ≤ 999) (v78 : Int) (t79 : Int) (s80 : Int) (ht82 : t58 ≤ t79 ∧ t79 ≤ t58 + 2) (hq83 : v78 ∈ ([0, 0, 5, 40, 1250, 99999] : List Int)) (hq86 : (0 : Int) ≤ v78 ∧ v78 ≤ 99999) (v107 : Int) (t108 : Int) (s109 : Int) (ht111 : t79 ≤ t108 ∧ t108 ≤ t79 + 2) (hq112 : (0 : Int) ≤ v107 ∧ ((v107 : Int) < 80 ∨ (v107 : Int) = 0)) (h115 : ¬ (v107 = 0)) (h155 : ¬ (v107 = 1)) (h195 : ¬ (v107 = 2)) (h235 : ¬ (v107 = 3)) (h275 : v107 = 4) (v289 : Int) (t290 : Int) (s291 : Int) (ht293 : t108 ≤ t290 ∧ t290 ≤ t108 + 2) (hq294 : v289 ∈ ([(-1), 100000] : List Int)) (hq297 : ((-1) : Int) ≤ v289 ∧ v289 ≤ 100000) : v289 = (⟨m, v18, v37, v57, v289⟩ : LibRow).Fines := by
  first | rfl | omega | grind
theorem z_c___spec_l1Cur__libRow_321 (Lc : List UInt8) (tc : Int) (sc : Int) (nc : Nat) (htc : 0 ≤ tc ∧ tc + 14 ≤ 4611686018427387904) (hbdc : (nc : Int) ≤ 9223372036854775807) (hlec : nc = Lc.length) (m : Int) (v18 : Int) (t19 : Int) (s20 : Int) (ht22 : tc ≤ t19 ∧ t19 ≤ tc + 2) (hq23 : v18 ∈ ([0, 100, 150, 150, 9999] : List Int)) (hq26 : (0 : Int) ≤ v18 ∧ v18 ≤ 9999) (v37 : Int) (t38 : Int) (s39 : Int) (ht41 : t19 ≤ t38 ∧ t38 ≤ t19 + 2) (hq42 : v37 ∈ ([0, 7, 500, 9999] : List Int)) (hq45 : (0 : Int) ≤ v37 ∧ v37 ≤ 9999) (v57 : Int) (t58 : Int) (s59 : Int) (ht61 : t38 ≤ t58 ∧ t58 ≤ t38 + 2) (hq62 : v57 ∈ ([0, 0, 3, 999] : List Int)) (hq65 : (0 : Int) ≤ v57 ∧ v57 ≤ 999) (v78 : Int) (t79 : Int) (s80 : Int) (ht82 : t58 ≤ t79 ∧ t79 ≤ t58 + 2) (hq83 : v78 ∈ ([0, 0, 5, 40, 1250, 99999] : List Int)) (hq86 : (0 : Int) ≤ v78 ∧ v78 ≤ 99999) (v107 : Int) (t108 : Int) (s109 : Int) (ht111 : t79 ≤ t108 ∧ t108 ≤ t79 + 2) (hq112 : (0 : Int) ≤ v107 ∧ ((v107 : Int) < 80 ∨ (v107 : Int) = 0)) (h115 : ¬ (v107 = 0)) (h155 : ¬ (v107 = 1)) (h195 : ¬ (v107 = 2)) (h235 : ¬ (v107 = 3)) (h275 : ¬ (v107 = 4)) : m = (⟨m, v18, v37, v57, v78⟩ : LibRow).Month := by
  first | rfl | omega | grind
theorem z_c___spec_l1Cur__libRow_322 (Lc : List UInt8) (tc : Int) (sc : Int) (nc : Nat) (htc : 0 ≤ tc ∧ tc + 14 ≤ 4611686018427387904) (hbdc : (nc : Int) ≤ 9223372036854775807) (hlec : nc = Lc.length) (m : Int) (v18 : Int) (t19 : Int) (s20 : Int) (ht22 : tc ≤ t19 ∧ t19 ≤ tc + 2) (hq23 : v18 ∈ ([0, 100, 150, 150, 9999] : List Int)) (hq26 : (0 : Int) ≤ v18 ∧ v18 ≤ 9999) (v37 : Int) (t38 : Int) (s39 : Int) (ht41 : t19 ≤ t38 ∧ t38 ≤ t19 + 2) (hq42 : v37 ∈ ([0, 7, 500, 9999] : List Int)) (hq45 : (0 : Int) ≤ v37 ∧ v37 ≤ 9999) (v57 : Int) (t58 : Int) (s59 : Int) (ht61 : t38 ≤ t58 ∧ t58 ≤ t38 + 2) (hq62 : v57 ∈ ([0, 0, 3, 999] : List Int)) (hq65 : (0 : Int) ≤ v57 ∧ v57 ≤ 999) (v78 : Int) (t79 : Int) (s80 : Int) (ht82 : t58 ≤ t79 ∧ t79 ≤ t58 + 2) (hq83 : v78 ∈ ([0, 0, 5, 40, 1250, 99999] : List Int)) (hq86 : (0 : Int) ≤ v78 ∧ v78 ≤ 99999) (v107 : Int) (t108 : Int) (s109 : Int) (ht111 : t79 ≤ t108 ∧ t108 ≤ t79 + 2) (hq112 : (0 : Int) ≤ v107 ∧ ((v107 : Int) < 80 ∨ (v107 : Int) = 0)) (h115 : ¬ (v107 = 0)) (h155 : ¬ (v107 = 1)) (h195 : ¬ (v107 = 2)) (h235 : ¬ (v107 = 3)) (h275 : ¬ (v107 = 4)) : v18 = (⟨m, v18, v37, v57, v78⟩ : LibRow).Lent := by
  first | rfl | omega | grind
theorem z_c___spec_l1Cur__libRow_323 (Lc : List UInt8) (tc : Int) (sc : Int) (nc : Nat) (htc : 0 ≤ tc ∧ tc + 14 ≤ 4611686018427387904) (hbdc : (nc : Int) ≤ 9223372036854775807) (hlec : nc = Lc.length) (m : Int) (v18 : Int) (t19 : Int) (s20 : Int) (ht22 : tc ≤ t19 ∧ t19 ≤ tc + 2) (hq23 : v18 ∈ ([0, 100, 150, 150, 9999] : List Int)) (hq26 : (0 : Int) ≤ v18 ∧ v18 ≤ 9999) (v37 : Int) (t38 : Int) (s39 : Int) (ht41 : t19 ≤ t38 ∧ t38 ≤ t19 + 2) (hq42 : v37 ∈ ([0, 7, 500, 9999] : List Int)) (hq45 : (0 : Int) ≤ v37 ∧ v37 ≤ 9999) (v57 : Int) (t58 : Int) (s59 : Int) (ht61 : t38 ≤ t58 ∧ t58 ≤ t38 + 2) (hq62 : v57 ∈ ([0, 0, 3, 999] : List Int)) (hq65 : (0 : Int) ≤ v57 ∧ v57 ≤ 999) (v78 : Int) (t79 : Int) (s80 : Int) (ht82 : t58 ≤ t79 ∧ t79 ≤ t58 + 2) (hq83 : v78 ∈ ([0, 0, 5, 40, 1250, 99999] : List Int)) (hq86 : (0 : Int) ≤ v78 ∧ v78 ≤ 99999) (v107 : Int) (t108 : Int) (s109 : Int) (ht111 : t79 ≤ t108 ∧ t108 ≤ t79 + 2) (hq112 : (0 : Int) ≤ v107 ∧ ((v107 : Int) < 80 ∨ (v107 : Int) = 0)) (h115 : ¬ (v107 = 0)) (h155 : ¬ (v107 = 1)) (h195 : ¬ (v107 = 2)) (h235 : ¬ (v107 = 3)) (h275 : ¬ (v107 = 4)) : v37 = (⟨m, v18, v37, v57, v78⟩ : LibRow).Copied := by
  first | rfl | omega | grind
theorem z_c___spec_l1Cur__libRow_324 (Lc : List UInt8) (tc : Int) (sc : Int) (nc : Nat) (htc : 0 ≤ tc ∧ tc + 14 ≤ 4611686018427387904) (hbdc : (nc : Int) ≤ 9223372036854775807) (hlec : nc = Lc.length) (m : Int) (v18 : Int) (t19 : Int) (s20 : Int) (ht22 : tc ≤ t19 ∧ t19 ≤ tc + 2) (hq23 : v18 ∈ ([0, 100, 150, 150, 9999] : List Int)) (hq26 : (0 : Int) ≤ v18 ∧ v18 ≤ 9999) (v37 : Int) (t38 : Int) (s39 : Int) (ht41 : t19 ≤ t38 ∧ t38 ≤ t19 + 2) (hq42 : v37 ∈ ([0, 7, 500, 9999] : List Int)) (hq45 : (0 : Int) ≤ v37 ∧ v37 ≤ 9999) (v57 : Int) (t58 : Int) (s59 : Int) (ht61 : t38 ≤ t58 ∧ t58 ≤ t38 + 2) (hq62 : v57 ∈ ([0, 0, 3, 999] : List Int)) (hq65 : (0 : Int) ≤ v57 ∧ v57 ≤ 999) (v78 : Int) (t79 : Int) (s80 : Int) (ht82 : t58 ≤ t79 ∧ t79 ≤ t58 + 2) (hq83 : v78 ∈ ([0, 0, 5, 40, 1250, 99999] : List Int)) (hq86 : (0 : Int) ≤ v78 ∧ v78 ≤ 99999) (v107 : Int) (t108 : Int) (s109 : Int) (ht111 : t79 ≤ t108 ∧ t108 ≤ t79 + 2) (hq112 : (0 : Int) ≤ v107 ∧ ((v107 : Int) < 80 ∨ (v107 : Int) = 0)) (h115 : ¬ (v107 = 0)) (h155 : ¬ (v107 = 1)) (h195 : ¬ (v107 = 2)) (h235 : ¬ (v107 = 3)) (h275 : ¬ (v107 = 4)) : v57 = (⟨m, v18, v37, v57, v78⟩ : LibRow).Given := by
  first | rfl | omega | grind
theorem z_c___spec_l1Cur__libRow_325 (Lc : List UInt8) (tc : Int) (sc : Int) (nc : Nat) (htc : 0 ≤ tc ∧ tc + 14 ≤ 4611686018427387904) (hbdc : (nc : Int) ≤ 9223372036854775807) (hlec : nc = Lc.length) (m : Int) (v18 : Int) (t19 : Int) (s20 : Int) (ht22 : tc ≤ t19 ∧ t19 ≤ tc + 2) (hq23 : v18 ∈ ([0, 100, 150, 150, 9999] : List Int)) (hq26 : (0 : Int) ≤ v18 ∧ v18 ≤ 9999) (v37 : Int) (t38 : Int) (s39 : Int) (ht41 : t19 ≤ t38 ∧ t38 ≤ t19 + 2) (hq42 : v37 ∈ ([0, 7, 500, 9999] : List Int)) (hq45 : (0 : Int) ≤ v37 ∧ v37 ≤ 9999) (v57 : Int) (t58 : Int) (s59 : Int) (ht61 : t38 ≤ t58 ∧ t58 ≤ t38 + 2) (hq62 : v57 ∈ ([0, 0, 3, 999] : List Int)) (hq65 : (0 : Int) ≤ v57 ∧ v57 ≤ 999) (v78 : Int) (t79 : Int) (s80 : Int) (ht82 : t58 ≤ t79 ∧ t79 ≤ t58 + 2) (hq83 : v78 ∈ ([0, 0, 5, 40, 1250, 99999] : List Int)) (hq86 : (0 : Int) ≤ v78 ∧ v78 ≤ 99999) (v107 : Int) (t108 : Int) (s109 : Int) (ht111 : t79 ≤ t108 ∧ t108 ≤ t79 + 2) (hq112 : (0 : Int) ≤ v107 ∧ ((v107 : Int) < 80 ∨ (v107 : Int) = 0)) (h115 : ¬ (v107 = 0)) (h155 : ¬ (v107 = 1)) (h195 : ¬ (v107 = 2)) (h235 : ¬ (v107 = 3)) (h275 : ¬ (v107 = 4)) : v78 = (⟨m, v18, v37, v57, v78⟩ : LibRow).Fines := by
  first | rfl | omega | grind
theorem c___spec_l1Cur__libRow (w : World) {gc ec : Nat} {Ac : Option Addr} {nc cc Bc : Nat} (Lc : List UInt8) (tc sc : Int) (hc : Blk w gc ec [.slice Ac nc cc, .int .i64 tc, .int .u64 sc]) (hLc : SlR w Bc encB 1 Ac nc cc Lc) (hgc : Bc ≤ gc) (htc : 0 ≤ tc ∧ tc + 14 ≤ 4611686018427387904) (m : Int) : Calls Try.prog 36 #[.pointer (some ⟨gc, 0, none⟩), .int .i64 m] w fun e w' => ∃ (r : LibRow) (tc' sc' : Int), e = .returned (.agg (List.toArray [.int .i64 r.Month, .int .i64 r.Lent, .int .i64 r.Copied, .int .i64 r.Given, .int .i64 r.Fines])) ∧ Blk w' gc ec [.slice Ac nc cc, .int .i64 tc', .int .u64 sc'] ∧ (tc ≤ tc' ∧ tc' ≤ tc + 14) ∧ Kp (fun b_ => b_ = gc) w w' := by
  refine calls_W 53 Try.func36 rfl rfl rfl ?_
  have hBlc := hc.lt
  have hbdc := hLc.bound
  have hlec := hLc.len
  have hBbc := hLc.bd
  refine W.seq ?_
  refine W.regS (SR.alloc (l := [.int .i64 0, .int .i64 0, .int .i64 0, .int .i64 0, .int .i64 0]) tz29 rfl ?_)
  intro g1 w2 hg3 hk4 hs5 hb6
  have hz7 := hk4.size
  have hB8 := (Kp.refl w : Kp (fun b_ => b_ = gc) w w).lo hk4
  refine SR.nil ?_
  refine W.seq ?_
  refine W.regS (SR.q' (r_mv (v := .int .i64 _) rfl) <| SR.q' (r_mv (v := .pointer (some _)) rfl) <| SR.lit (vs := [.int .i64 0, .int .i64 100, .int .i64 150, .int .i64 150, .int .i64 9999]) (L := ([0, 100, 150, 150, 9999] : List Int)) (enc := encI) tel32 (fun _ => rfl) rfl rfl rfl (by decide) ?_)
  intro g9 w10 hg11 hk12 hO13
  have hz14 := hk12.size
  have hB15 := hB8.lo hk12
  refine SR.call ent34 (c___spec_l1Cur__among w10 Lc tc sc (((hc).lo hk4).lo hk12) ((((hLc).lo hk4).lo hk12)) (by omega) (by omega) ([0, 100, 150, 150, 9999] : List Int) (((hO13).rd)) (by omega) (by omega) (show ¬ g9 = gc from by omega)) rfl ?_
  rintro e w16 ⟨v18, t19, s20, rfl, hb21, ht22, hq23, hk17⟩
  refine ⟨_, rfl, ?_⟩
  have hz24 := hk17.size
  have hB25 := hB15.step hk17 (fun i_ hi_ e' => e')
  have hq26 : (0 : Int) ≤ v18 ∧ v18 ≤ 9999 := mem_rngB (lo := 0) (hi := 9999) (by decide) hq23
  refine SR.q' (r_mv (v := .pointer (some _)) rfl) <| SR.lit (vs := [.int .i64 0, .int .i64 7, .int .i64 500, .int .i64 9999]) (L := ([0, 7, 500, 9999] : List Int)) (enc := encI) tel32 (fun _ => rfl) rfl rfl rfl (by decide) ?_
  intro g27 w28 hg29 hk30 hO31
  have hz32 := hk30.size
  have hB33 := hB25.lo hk30
  have hd34 : ¬ (some (⟨g9, 0, none⟩ : Addr)) = some ⟨g27, 0, none⟩ := fun e' => by have := ((hO13).kp hk17 (fun b_ hb e' => by have e'' : b_ = gc := e'; have := (hO13).base_le hb; omega)).base_le e'; omega
  refine SR.call ent34 (c___spec_l1Cur__among w28 Lc t19 s20 ((hb21).lo hk30) ((((((hLc).lo hk4).lo hk12).kp hk17 (fun b_ hb e' => by have e'' : b_ = gc := e'; omega)).lo hk30)) (by omega) (by omega) ([0, 7, 500, 9999] : List Int) (((hO31).rd)) (by omega) (by omega) (show ¬ g27 = gc from by omega)) rfl ?_
  rintro e w35 ⟨v37, t38, s39, rfl, hb40, ht41, hq42, hk36⟩
  refine ⟨_, rfl, ?_⟩
  have hz43 := hk36.size
  have hB44 := hB33.step hk36 (fun i_ hi_ e' => e')
  have hq45 : (0 : Int) ≤ v37 ∧ v37 ≤ 9999 := mem_rngB (lo := 0) (hi := 9999) (by decide) hq42
  refine SR.q' (r_mv (v := .pointer (some _)) rfl) <| SR.lit (vs := [.int .i64 0, .int .i64 0, .int .i64 3, .int .i64 999]) (L := ([0, 0, 3, 999] : List Int)) (enc := encI) tel32 (fun _ => rfl) rfl rfl rfl (by decide) ?_
  intro g46 w47 hg48 hk49 hO50
  have hz51 := hk49.size
  have hB52 := hB44.lo hk49
  have hd53 : ¬ (some (⟨g9, 0, none⟩ : Addr)) = some ⟨g46, 0, none⟩ := fun e' => by have := ((((hO13).kp hk17 (fun b_ hb e' => by have e'' : b_ = gc := e'; have := (hO13).base_le hb; omega)).lo hk30).kp hk36 (fun b_ hb e' => by have e'' : b_ = gc := e'; have := (((hO13).kp hk17 (fun b_ hb e' => by have e'' : b_ = gc := e'; have := (hO13).base_le hb; omega)).lo hk30).base_le hb; omega)).base_le e'; omega
  have hd54 : ¬ (some (⟨g27, 0, none⟩ : Addr)) = some ⟨g46, 0, none⟩ := fun e' => by have := ((hO31).kp hk36 (fun b_ hb e' => by have e'' : b_ = gc := e'; have := (hO31).base_le hb; omega)).base_le e'; omega
  refine SR.call ent34 (c___spec_l1Cur__among w47 Lc t38 s39 ((hb40).lo hk49) ((((((((hLc).lo hk4).lo hk12).kp hk17 (fun b_ hb e' => by have e'' : b_ = gc := e'; omega)).lo hk30).kp hk36 (fun b_ hb e' => by have e'' : b_ = gc := e'; omega)).lo hk49)) (by omega) (by omega) ([0, 0, 3, 999] : List Int) (((hO50).rd)) (by omega) (by omega) (show ¬ g46 = gc from by omega)) rfl ?_
  rintro e w55 ⟨v57, t58, s59, rfl, hb60, ht61, hq62, hk56⟩
  refine ⟨_, rfl, ?_⟩
  have hz63 := hk56.size
  have hB64 := hB52.step hk56 (fun i_ hi_ e' => e')
  have hq65 : (0 : Int) ≤ v57 ∧ v57 ≤ 999 := mem_rngB (lo := 0) (hi := 999) (by decide) hq62
  refine SR.q' (r_mv (v := .pointer (some _)) rfl) <| SR.lit (vs := [.int .i64 0, .int .i64 0, .int .i64 5, .int .i64 40, .int .i64 1250, .int .i64 99999]) (L := ([0, 0, 5, 40, 1250, 99999] : List Int)) (enc := encI) tel32 (fun _ => rfl) rfl rfl rfl (by decide) ?_
  intro g66 w67 hg68 hk69 hO70
  have hz71 := hk69.size
  have hB72 := hB64.lo hk69
  have hd73 : ¬ (some (⟨g9, 0, none⟩ : Addr)) = some ⟨g66, 0, none⟩ := fun e' => by have := ((((((hO13).kp hk17 (fun b_ hb e' => by have e'' : b_ = gc := e'; have := (hO13).base_le hb; omega)).lo hk30).kp hk36 (fun b_ hb e' => by have e'' : b_ = gc := e'; have := (((hO13).kp hk17 (fun b_ hb e' => by have e'' : b_ = gc := e'; have := (hO13).base_le hb; omega)).lo hk30).base_le hb; omega)).lo hk49).kp hk56 (fun b_ hb e' => by have e'' : b_ = gc := e'; have := (((((hO13).kp hk17 (fun b_ hb e' => by have e'' : b_ = gc := e'; have := (hO13).base_le hb; omega)).lo hk30).kp hk36 (fun b_ hb e' => by have e'' : b_ = gc := e'; have := (((hO13).kp hk17 (fun b_ hb e' => by have e'' : b_ = gc := e'; have := (hO13).base_le hb; omega)).lo hk30).base_le hb; omega)).lo hk49).base_le hb; omega)).base_le e'; omega
  have hd74 : ¬ (some (⟨g27, 0, none⟩ : Addr)) = some ⟨g66, 0, none⟩ := fun e' => by have := ((((hO31).kp hk36 (fun b_ hb e' => by have e'' : b_ = gc := e'; have := (hO31).base_le hb; omega)).lo hk49).kp hk56 (fun b_ hb e' => by have e'' : b_ = gc := e'; have := (((hO31).kp hk36 (fun b_ hb e' => by have e'' : b_ = gc := e'; have := (hO31).base_le hb; omega)).lo hk49).base_le hb; omega)).base_le e'; omega
  have hd75 : ¬ (some (⟨g46, 0, none⟩ : Addr)) = some ⟨g66, 0, none⟩ := fun e' => by have := ((hO50).kp hk56 (fun b_ hb e' => by have e'' : b_ = gc := e'; have := (hO50).base_le hb; omega)).base_le e'; omega
  refine SR.call ent34 (c___spec_l1Cur__among w67 Lc t58 s59 ((hb60).lo hk69) ((((((((((hLc).lo hk4).lo hk12).kp hk17 (fun b_ hb e' => by have e'' : b_ = gc := e'; omega)).lo hk30).kp hk36 (fun b_ hb e' => by have e'' : b_ = gc := e'; omega)).lo hk49).kp hk56 (fun b_ hb e' => by have e'' : b_ = gc := e'; omega)).lo hk69)) (by omega) (by omega) ([0, 0, 5, 40, 1250, 99999] : List Int) (((hO70).rd)) (by omega) (by omega) (show ¬ g66 = gc from by omega)) rfl ?_
  rintro e w76 ⟨v78, t79, s80, rfl, hb81, ht82, hq83, hk77⟩
  refine ⟨_, rfl, ?_⟩
  have hz84 := hk77.size
  have hB85 := hB72.step hk77 (fun i_ hi_ e' => e')
  have hq86 : (0 : Int) ≤ v78 ∧ v78 ≤ 99999 := mem_rngB (lo := 0) (hi := 99999) (by decide) hq83
  refine SR.q' (r_build (vs := [(0, .int .i64 m), (1, .int .i64 v18), (2, .int .i64 v37), (3, .int .i64 v57), (4, .int .i64 v78)]) rfl (bld29_0_1_2_3_4 _ _ _ _ _)) <| SR.alloc (l := [.int .i64 0, .int .i64 0, .int .i64 0, .int .i64 0, .int .i64 0]) tz29 rfl ?_
  intro g87 w88 hg89 hk90 hs91 hb92
  have hz93 := hk90.size
  have hB94 := hB85.lo hk90
  have hd95 : ¬ (some (⟨g9, 0, none⟩ : Addr)) = some ⟨g87, 0, none⟩ := fun e' => by have := ((((((((hO13).kp hk17 (fun b_ hb e' => by have e'' : b_ = gc := e'; have := (hO13).base_le hb; omega)).lo hk30).kp hk36 (fun b_ hb e' => by have e'' : b_ = gc := e'; have := (((hO13).kp hk17 (fun b_ hb e' => by have e'' : b_ = gc := e'; have := (hO13).base_le hb; omega)).lo hk30).base_le hb; omega)).lo hk49).kp hk56 (fun b_ hb e' => by have e'' : b_ = gc := e'; have := (((((hO13).kp hk17 (fun b_ hb e' => by have e'' : b_ = gc := e'; have := (hO13).base_le hb; omega)).lo hk30).kp hk36 (fun b_ hb e' => by have e'' : b_ = gc := e'; have := (((hO13).kp hk17 (fun b_ hb e' => by have e'' : b_ = gc := e'; have := (hO13).base_le hb; omega)).lo hk30).base_le hb; omega)).lo hk49).base_le hb; omega)).lo hk69).kp hk77 (fun b_ hb e' => by have e'' : b_ = gc := e'; have := (((((((hO13).kp hk17 (fun b_ hb e' => by have e'' : b_ = gc := e'; have := (hO13).base_le hb; omega)).lo hk30).kp hk36 (fun b_ hb e' => by have e'' : b_ = gc := e'; have := (((hO13).kp hk17 (fun b_ hb e' => by have e'' : b_ = gc := e'; have := (hO13).base_le hb; omega)).lo hk30).base_le hb; omega)).lo hk49).kp hk56 (fun b_ hb e' => by have e'' : b_ = gc := e'; have := (((((hO13).kp hk17 (fun b_ hb e' => by have e'' : b_ = gc := e'; have := (hO13).base_le hb; omega)).lo hk30).kp hk36 (fun b_ hb e' => by have e'' : b_ = gc := e'; have := (((hO13).kp hk17 (fun b_ hb e' => by have e'' : b_ = gc := e'; have := (hO13).base_le hb; omega)).lo hk30).base_le hb; omega)).lo hk49).base_le hb; omega)).lo hk69).base_le hb; omega)).base_le e'; omega
  have hd96 : ¬ (some (⟨g27, 0, none⟩ : Addr)) = some ⟨g87, 0, none⟩ := fun e' => by have := ((((((hO31).kp hk36 (fun b_ hb e' => by have e'' : b_ = gc := e'; have := (hO31).base_le hb; omega)).lo hk49).kp hk56 (fun b_ hb e' => by have e'' : b_ = gc := e'; have := (((hO31).kp hk36 (fun b_ hb e' => by have e'' : b_ = gc := e'; have := (hO31).base_le hb; omega)).lo hk49).base_le hb; omega)).lo hk69).kp hk77 (fun b_ hb e' => by have e'' : b_ = gc := e'; have := (((((hO31).kp hk36 (fun b_ hb e' => by have e'' : b_ = gc := e'; have := (hO31).base_le hb; omega)).lo hk49).kp hk56 (fun b_ hb e' => by have e'' : b_ = gc := e'; have := (((hO31).kp hk36 (fun b_ hb e' => by have e'' : b_ = gc := e'; have := (hO31).base_le hb; omega)).lo hk49).base_le hb; omega)).lo hk69).base_le hb; omega)).base_le e'; omega
  have hd97 : ¬ (some (⟨g46, 0, none⟩ : Addr)) = some ⟨g87, 0, none⟩ := fun e' => by have := ((((hO50).kp hk56 (fun b_ hb e' => by have e'' : b_ = gc := e'; have := (hO50).base_le hb; omega)).lo hk69).kp hk77 (fun b_ hb e' => by have e'' : b_ = gc := e'; have := (((hO50).kp hk56 (fun b_ hb e' => by have e'' : b_ = gc := e'; have := (hO50).base_le hb; omega)).lo hk69).base_le hb; omega)).base_le e'; omega
  have hd98 : ¬ (some (⟨g66, 0, none⟩ : Addr)) = some ⟨g87, 0, none⟩ := fun e' => by have := ((hO70).kp hk77 (fun b_ hb e' => by have e'' : b_ = gc := e'; have := (hO70).base_le hb; omega)).base_le e'; omega
  refine SR.store (o := 0) (vs := [.int .i64 m, .int .i64 v18, .int .i64 v37, .int .i64 v57, .int .i64 v78]) agg29.2 rfl rfl rfl rfl (hb92) (Nat.le_of_ble_eq_true rfl) rfl ?_
  intro w99 hk100 hs101 hb102
  have hz103 := hk100.size
  have hB104 := hB94.new hk100 (by omega)
  refine SR.nil ?_
  refine W.seq ?_
  refine W.seq ?_
  refine W.regS (SR.q' (r_mv (v := .pointer (some _)) rfl) <| SR.call ent35 (c___spec_l1Cur__pick w99 Lc t79 s80 (((hb81).lo hk90).kp hk100 (fun e' => by have e'' : gc = g87 := e'; omega)) (((((((((((((hLc).lo hk4).lo hk12).kp hk17 (fun b_ hb e' => by have e'' : b_ = gc := e'; omega)).lo hk30).kp hk36 (fun b_ hb e' => by have e'' : b_ = gc := e'; omega)).lo hk49).kp hk56 (fun b_ hb e' => by have e'' : b_ = gc := e'; omega)).lo hk69).kp hk77 (fun b_ hb e' => by have e'' : b_ = gc := e'; omega)).lo hk90).kp hk100 (fun b_ hb e' => by have e'' : b_ = g87 := e'; omega))) (by omega) (by omega) 80 (by first | omega | (simp only [List.length_append, List.length_cons, List.length_nil, List.length_take, List.length_drop]; omega))) rfl ?_)
  rintro e w105 ⟨v107, t108, s109, rfl, hb110, ht111, hq112, hk106⟩
  refine ⟨_, rfl, ?_⟩
  have hz113 := hk106.size
  have hB114 := hB104.step hk106 (fun i_ hi_ e' => e')
  refine SR.nil ?_
  refine W.block ?_
  refine W.seq ?_
  refine W.regS (SR.q' (r_eq rfl rfl) <| SR.q' (r_as (v := .bool _) rfl) <| SR.nil ?_)
  refine W.cond_d rfl (fun h115 => ?_) (fun h115 => ?_)
  · refine W.regS (SR.q' (r_mv (v := .pointer (some _)) rfl) <| SR.lit (vs := [.int .i64 0, .int .i64 1200, .int .i64 1201]) (L := ([0, 1200, 1201] : List Int)) (enc := encI) tel32 (fun _ => rfl) rfl rfl rfl (by decide) ?_)
    intro g116 w117 hg118 hk119 hO120
    have hz121 := hk119.size
    have hB122 := hB114.lo hk119
    have hd123 : ¬ (some (⟨g9, 0, none⟩ : Addr)) = some ⟨g116, 0, none⟩ := fun e' => by have := (((((((((((hO13).kp hk17 (fun b_ hb e' => by have e'' : b_ = gc := e'; have := (hO13).base_le hb; omega)).lo hk30).kp hk36 (fun b_ hb e' => by have e'' : b_ = gc := e'; have := (((hO13).kp hk17 (fun b_ hb e' => by have e'' : b_ = gc := e'; have := (hO13).base_le hb; omega)).lo hk30).base_le hb; omega)).lo hk49).kp hk56 (fun b_ hb e' => by have e'' : b_ = gc := e'; have := (((((hO13).kp hk17 (fun b_ hb e' => by have e'' : b_ = gc := e'; have := (hO13).base_le hb; omega)).lo hk30).kp hk36 (fun b_ hb e' => by have e'' : b_ = gc := e'; have := (((hO13).kp hk17 (fun b_ hb e' => by have e'' : b_ = gc := e'; have := (hO13).base_le hb; omega)).lo hk30).base_le hb; omega)).lo hk49).base_le hb; omega)).lo hk69).kp hk77 (fun b_ hb e' => by have e'' : b_ = gc := e'; have := (((((((hO13).kp hk17 (fun b_ hb e' => by have e'' : b_ = gc := e'; have := (hO13).base_le hb; omega)).lo hk30).kp hk36 (fun b_ hb e' => by have e'' : b_ = gc := e'; have := (((hO13).kp hk17 (fun b_ hb e' => by have e'' : b_ = gc := e'; have := (hO13).base_le hb; omega)).lo hk30).base_le hb; omega)).lo hk49).kp hk56 (fun b_ hb e' => by have e'' : b_ = gc := e'; have := (((((hO13).kp hk17 (fun b_ hb e' => by have e'' : b_ = gc := e'; have := (hO13).base_le hb; omega)).lo hk30).kp hk36 (fun b_ hb e' => by have e'' : b_ = gc := e'; have := (((hO13).kp hk17 (fun b_ hb e' => by have e'' : b_ = gc := e'; have := (hO13).base_le hb; omega)).lo hk30).base_le hb; omega)).lo hk49).base_le hb; omega)).lo hk69).base_le hb; omega)).lo hk90).kp hk100 (fun b_ hb e' => hd95 (by have e'' : b_ = g87 := e'; rw [← e'']; exact hb))).kp hk106 (fun b_ hb e' => by have e'' : b_ = gc := e'; have := ((((((((((hO13).kp hk17 (fun b_ hb e' => by have e'' : b_ = gc := e'; have := (hO13).base_le hb; omega)).lo hk30).kp hk36 (fun b_ hb e' => by have e'' : b_ = gc := e'; have := (((hO13).kp hk17 (fun b_ hb e' => by have e'' : b_ = gc := e'; have := (hO13).base_le hb; omega)).lo hk30).base_le hb; omega)).lo hk49).kp hk56 (fun b_ hb e' => by have e'' : b_ = gc := e'; have := (((((hO13).kp hk17 (fun b_ hb e' => by have e'' : b_ = gc := e'; have := (hO13).base_le hb; omega)).lo hk30).kp hk36 (fun b_ hb e' => by have e'' : b_ = gc := e'; have := (((hO13).kp hk17 (fun b_ hb e' => by have e'' : b_ = gc := e'; have := (hO13).base_le hb; omega)).lo hk30).base_le hb; omega)).lo hk49).base_le hb; omega)).lo hk69).kp hk77 (fun b_ hb e' => by have e'' : b_ = gc := e'; have := (((((((hO13).kp hk17 (fun b_ hb e' => by have e'' : b_ = gc := e'; have := (hO13).base_le hb; omega)).lo hk30).kp hk36 (fun b_ hb e' => by have e'' : b_ = gc := e'; have := (((hO13).kp hk17 (fun b_ hb e' => by have e'' : b_ = gc := e'; have := (hO13).base_le hb; omega)).lo hk30).base_le hb; omega)).lo hk49).kp hk56 (fun b_ hb e' => by have e'' : b_ = gc := e'; have := (((((hO13).kp hk17 (fun b_ hb e' => by have e'' : b_ = gc := e'; have := (hO13).base_le hb; omega)).lo hk30).kp hk36 (fun b_ hb e' => by have e'' : b_ = gc := e'; have := (((hO13).kp hk17 (fun b_ hb e' => by have e'' : b_ = gc := e'; have := (hO13).base_le hb; omega)).lo hk30).base_le hb; omega)).lo hk49).base_le hb; omega)).lo hk69).base_le hb; omega)).lo hk90).kp hk100 (fun b_ hb e' => hd95 (by have e'' : b_ = g87 := e'; rw [← e'']; exact hb))).base_le hb; omega)).base_le e'; omega
    have hd124 : ¬ (some (⟨g27, 0, none⟩ : Addr)) = some ⟨g116, 0, none⟩ := fun e' => by have := (((((((((hO31).kp hk36 (fun b_ hb e' => by have e'' : b_ = gc := e'; have := (hO31).base_le hb; omega)).lo hk49).kp hk56 (fun b_ hb e' => by have e'' : b_ = gc := e'; have := (((hO31).kp hk36 (fun b_ hb e' => by have e'' : b_ = gc := e'; have := (hO31).base_le hb; omega)).lo hk49).base_le hb; omega)).lo hk69).kp hk77 (fun b_ hb e' => by have e'' : b_ = gc := e'; have := (((((hO31).kp hk36 (fun b_ hb e' => by have e'' : b_ = gc := e'; have := (hO31).base_le hb; omega)).lo hk49).kp hk56 (fun b_ hb e' => by have e'' : b_ = gc := e'; have := (((hO31).kp hk36 (fun b_ hb e' => by have e'' : b_ = gc := e'; have := (hO31).base_le hb; omega)).lo hk49).base_le hb; omega)).lo hk69).base_le hb; omega)).lo hk90).kp hk100 (fun b_ hb e' => hd96 (by have e'' : b_ = g87 := e'; rw [← e'']; exact hb))).kp hk106 (fun b_ hb e' => by have e'' : b_ = gc := e'; have := ((((((((hO31).kp hk36 (fun b_ hb e' => by have e'' : b_ = gc := e'; have := (hO31).base_le hb; omega)).lo hk49).kp hk56 (fun b_ hb e' => by have e'' : b_ = gc := e'; have := (((hO31).kp hk36 (fun b_ hb e' => by have e'' : b_ = gc := e'; have := (hO31).base_le hb; omega)).lo hk49).base_le hb; omega)).lo hk69).kp hk77 (fun b_ hb e' => by have e'' : b_ = gc := e'; have := (((((hO31).kp hk36 (fun b_ hb e' => by have e'' : b_ = gc := e'; have := (hO31).base_le hb; omega)).lo hk49).kp hk56 (fun b_ hb e' => by have e'' : b_ = gc := e'; have := (((hO31).kp hk36 (fun b_ hb e' => by have e'' : b_ = gc := e'; have := (hO31).base_le hb; omega)).lo hk49).base_le hb; omega)).lo hk69).base_le hb; omega)).lo hk90).kp hk100 (fun b_ hb e' => hd96 (by have e'' : b_ = g87 := e'; rw [← e'']; exact hb))).base_le hb; omega)).base_le e'; omega
    have hd125 : ¬ (some (⟨g46, 0, none⟩ : Addr)) = some ⟨g116, 0, none⟩ := fun e' => by have := (((((((hO50).kp hk56 (fun b_ hb e' => by have e'' : b_ = gc := e'; have := (hO50).base_le hb; omega)).lo hk69).kp hk77 (fun b_ hb e' => by have e'' : b_ = gc := e'; have := (((hO50).kp hk56 (fun b_ hb e' => by have e'' : b_ = gc := e'; have := (hO50).base_le hb; omega)).lo hk69).base_le hb; omega)).lo hk90).kp hk100 (fun b_ hb e' => hd97 (by have e'' : b_ = g87 := e'; rw [← e'']; exact hb))).kp hk106 (fun b_ hb e' => by have e'' : b_ = gc := e'; have := ((((((hO50).kp hk56 (fun b_ hb e' => by have e'' : b_ = gc := e'; have := (hO50).base_le hb; omega)).lo hk69).kp hk77 (fun b_ hb e' => by have e'' : b_ = gc := e'; have := (((hO50).kp hk56 (fun b_ hb e' => by have e'' : b_ = gc := e'; have := (hO50).base_le hb; omega)).lo hk69).base_le hb; omega)).lo hk90).kp hk100 (fun b_ hb e' => hd97 (by have e'' : b_ = g87 := e'; rw [← e'']; exact hb))).base_le hb; omega)).base_le e'; omega
    have hd126 : ¬ (some (⟨g66, 0, none⟩ : Addr)) = some ⟨g116, 0, none⟩ := fun e' => by have := (((((hO70).kp hk77 (fun b_ hb e' => by have e'' : b_ = gc := e'; have := (hO70).base_le hb; omega)).lo hk90).kp hk100 (fun b_ hb e' => hd98 (by have e'' : b_ = g87 := e'; rw [← e'']; exact hb))).kp hk106 (fun b_ hb e' => by have e'' : b_ = gc := e'; have := ((((hO70).kp hk77 (fun b_ hb e' => by have e'' : b_ = gc := e'; have := (hO70).base_le hb; omega)).lo hk90).kp hk100 (fun b_ hb e' => hd98 (by have e'' : b_ = g87 := e'; rw [← e'']; exact hb))).base_le hb; omega)).base_le e'; omega
    refine SR.call ent34 (c___spec_l1Cur__among w117 Lc t108 s109 ((hb110).lo hk119) (((((((((((((((hLc).lo hk4).lo hk12).kp hk17 (fun b_ hb e' => by have e'' : b_ = gc := e'; omega)).lo hk30).kp hk36 (fun b_ hb e' => by have e'' : b_ = gc := e'; omega)).lo hk49).kp hk56 (fun b_ hb e' => by have e'' : b_ = gc := e'; omega)).lo hk69).kp hk77 (fun b_ hb e' => by have e'' : b_ = gc := e'; omega)).lo hk90).kp hk100 (fun b_ hb e' => by have e'' : b_ = g87 := e'; omega)).kp hk106 (fun b_ hb e' => by have e'' : b_ = gc := e'; omega)).lo hk119)) (by omega) (by omega) ([0, 1200, 1201] : List Int) (((hO120).rd)) (by omega) (by omega) (show ¬ g116 = gc from by omega)) rfl ?_
    rintro e w127 ⟨v129, t130, s131, rfl, hb132, ht133, hq134, hk128⟩
    refine ⟨_, rfl, ?_⟩
    have hz135 := hk128.size
    have hB136 := hB122.step hk128 (fun i_ hi_ e' => e')
    have hq137 : (0 : Int) ≤ v129 ∧ v129 ≤ 1201 := mem_rngB (lo := 0) (hi := 1201) (by decide) hq134
    refine SR.q' (r_fa fa29_0 rfl) <| SR.store (o := 0) (vs := [.int .i64 v129]) sca3.2 rfl rfl rfl rfl ((((hb102).kp hk106 (fun e' => by have e'' : g87 = gc := e'; omega)).lo hk119).kp hk128 (fun e' => by have e'' : g87 = gc := e'; omega)) (Nat.le_of_ble_eq_true rfl) rfl ?_
    intro w138 hk139 hs140 hb141
    have hz142 := hk139.size
    have hB143 := hB136.new hk139 (by omega)
    refine SR.nil ?_
    refine W.seq ?_
    refine W.regS (SR.q' (r_lda (l := [.int .i64 v129, .int .i64 v18, .int .i64 v37, .int .i64 v57, .int .i64 v78]) agg29 rfl (fun _ _ hu => (hb141).cell hu) rfl) <| SR.store (o := 0) (vs := [.int .i64 v129, .int .i64 v18, .int .i64 v37, .int .i64 v57, .int .i64 v78]) agg29.2 rfl rfl rfl rfl (((((((((((((((hb6).lo hk12).kp hk17 (fun e' => by have e'' : g1 = gc := e'; omega)).lo hk30).kp hk36 (fun e' => by have e'' : g1 = gc := e'; omega)).lo hk49).kp hk56 (fun e' => by have e'' : g1 = gc := e'; omega)).lo hk69).kp hk77 (fun e' => by have e'' : g1 = gc := e'; omega)).lo hk90).kp hk100 (fun e' => by have e'' : g1 = g87 := e'; omega)).kp hk106 (fun e' => by have e'' : g1 = gc := e'; omega)).lo hk119).kp hk128 (fun e' => by have e'' : g1 = gc := e'; omega)).kp hk139 (fun e' => by have e'' : g1 = g87 := e'; omega)) (Nat.le_of_ble_eq_true rfl) rfl ?_)
    intro w144 hk145 hs146 hb147
    have hz148 := hk145.size
    have hB149 := hB143.new hk145 (by omega)
    refine SR.nil ?_
    refine W.ret ?_
    refine retC rfl rfl agg29 (hb147) rfl ?_
    exact ⟨(⟨v129, v18, v37, v57, v78⟩ : LibRow), t130, s131, eR (eA (eC (eI (z_c___spec_l1Cur__libRow_150 Lc tc sc nc htc hbdc hlec m v18 t19 s20 ht22 hq23 hq26 v37 t38 s39 ht41 hq42 hq45 v57 t58 s59 ht61 hq62 hq65 v78 t79 s80 ht82 hq83 hq86 v107 t108 s109 ht111 hq112 h115 v129 t130 s131 ht133 hq134 hq137)) (eC (eI (z_c___spec_l1Cur__libRow_151 Lc tc sc nc htc hbdc hlec m v18 t19 s20 ht22 hq23 hq26 v37 t38 s39 ht41 hq42 hq45 v57 t58 s59 ht61 hq62 hq65 v78 t79 s80 ht82 hq83 hq86 v107 t108 s109 ht111 hq112 h115 v129 t130 s131 ht133 hq134 hq137)) (eC (eI (z_c___spec_l1Cur__libRow_152 Lc tc sc nc htc hbdc hlec m v18 t19 s20 ht22 hq23 hq26 v37 t38 s39 ht41 hq42 hq45 v57 t58 s59 ht61 hq62 hq65 v78 t79 s80 ht82 hq83 hq86 v107 t108 s109 ht111 hq112 h115 v129 t130 s131 ht133 hq134 hq137)) (eC (eI (z_c___spec_l1Cur__libRow_153 Lc tc sc nc htc hbdc hlec m v18 t19 s20 ht22 hq23 hq26 v37 t38 s39 ht41 hq42 hq45 v57 t58 s59 ht61 hq62 hq65 v78 t79 s80 ht82 hq83 hq86 v107 t108 s109 ht111 hq112 h115 v129 t130 s131 ht133 hq134 hq137)) (eC (eI (z_c___spec_l1Cur__libRow_154 Lc tc sc nc htc hbdc hlec m v18 t19 s20 ht22 hq23 hq26 v37 t38 s39 ht41 hq42 hq45 v57 t58 s59 ht61 hq62 hq65 v78 t79 s80 ht82 hq83 hq86 v107 t108 s109 ht111 hq112 h115 v129 t130 s131 ht133 hq134 hq137)) rfl)))))), (((hb132).kp hk139 (fun e' => by have e'' : gc = g87 := e'; omega)).kp hk145 (fun e' => by have e'' : gc = g1 := e'; omega)), ⟨by omega, by omega⟩, hB149⟩
  · refine W.seq ?_
    refine W.regS (SR.q' (r_eq rfl rfl) <| SR.q' (r_as (v := .bool _) rfl) <| SR.nil ?_)
    refine W.cond_d rfl (fun h155 => ?_) (fun h155 => ?_)
    · refine W.regS (SR.q' (r_mv (v := .pointer (some _)) rfl) <| SR.lit (vs := [.int .i64 (-1), .int .i64 10000]) (L := ([(-1), 10000] : List Int)) (enc := encI) tel32 (fun _ => rfl) rfl rfl rfl (by decide) ?_)
      intro g156 w157 hg158 hk159 hO160
      have hz161 := hk159.size
      have hB162 := hB114.lo hk159
      have hd163 : ¬ (some (⟨g9, 0, none⟩ : Addr)) = some ⟨g156, 0, none⟩ := fun e' => by have := (((((((((((hO13).kp hk17 (fun b_ hb e' => by have e'' : b_ = gc := e'; have := (hO13).base_le hb; omega)).lo hk30).kp hk36 (fun b_ hb e' => by have e'' : b_ = gc := e'; have := (((hO13).kp hk17 (fun b_ hb e' => by have e'' : b_ = gc := e'; have := (hO13).base_le hb; omega)).lo hk30).base_le hb; omega)).lo hk49).kp hk56 (fun b_ hb e' => by have e'' : b_ = gc := e'; have := (((((hO13).kp hk17 (fun b_ hb e' => by have e'' : b_ = gc := e'; have := (hO13).base_le hb; omega)).lo hk30).kp hk36 (fun b_ hb e' => by have e'' : b_ = gc := e'; have := (((hO13).kp hk17 (fun b_ hb e' => by have e'' : b_ = gc := e'; have := (hO13).base_le hb; omega)).lo hk30).base_le hb; omega)).lo hk49).base_le hb; omega)).lo hk69).kp hk77 (fun b_ hb e' => by have e'' : b_ = gc := e'; have := (((((((hO13).kp hk17 (fun b_ hb e' => by have e'' : b_ = gc := e'; have := (hO13).base_le hb; omega)).lo hk30).kp hk36 (fun b_ hb e' => by have e'' : b_ = gc := e'; have := (((hO13).kp hk17 (fun b_ hb e' => by have e'' : b_ = gc := e'; have := (hO13).base_le hb; omega)).lo hk30).base_le hb; omega)).lo hk49).kp hk56 (fun b_ hb e' => by have e'' : b_ = gc := e'; have := (((((hO13).kp hk17 (fun b_ hb e' => by have e'' : b_ = gc := e'; have := (hO13).base_le hb; omega)).lo hk30).kp hk36 (fun b_ hb e' => by have e'' : b_ = gc := e'; have := (((hO13).kp hk17 (fun b_ hb e' => by have e'' : b_ = gc := e'; have := (hO13).base_le hb; omega)).lo hk30).base_le hb; omega)).lo hk49).base_le hb; omega)).lo hk69).base_le hb; omega)).lo hk90).kp hk100 (fun b_ hb e' => hd95 (by have e'' : b_ = g87 := e'; rw [← e'']; exact hb))).kp hk106 (fun b_ hb e' => by have e'' : b_ = gc := e'; have := ((((((((((hO13).kp hk17 (fun b_ hb e' => by have e'' : b_ = gc := e'; have := (hO13).base_le hb; omega)).lo hk30).kp hk36 (fun b_ hb e' => by have e'' : b_ = gc := e'; have := (((hO13).kp hk17 (fun b_ hb e' => by have e'' : b_ = gc := e'; have := (hO13).base_le hb; omega)).lo hk30).base_le hb; omega)).lo hk49).kp hk56 (fun b_ hb e' => by have e'' : b_ = gc := e'; have := (((((hO13).kp hk17 (fun b_ hb e' => by have e'' : b_ = gc := e'; have := (hO13).base_le hb; omega)).lo hk30).kp hk36 (fun b_ hb e' => by have e'' : b_ = gc := e'; have := (((hO13).kp hk17 (fun b_ hb e' => by have e'' : b_ = gc := e'; have := (hO13).base_le hb; omega)).lo hk30).base_le hb; omega)).lo hk49).base_le hb; omega)).lo hk69).kp hk77 (fun b_ hb e' => by have e'' : b_ = gc := e'; have := (((((((hO13).kp hk17 (fun b_ hb e' => by have e'' : b_ = gc := e'; have := (hO13).base_le hb; omega)).lo hk30).kp hk36 (fun b_ hb e' => by have e'' : b_ = gc := e'; have := (((hO13).kp hk17 (fun b_ hb e' => by have e'' : b_ = gc := e'; have := (hO13).base_le hb; omega)).lo hk30).base_le hb; omega)).lo hk49).kp hk56 (fun b_ hb e' => by have e'' : b_ = gc := e'; have := (((((hO13).kp hk17 (fun b_ hb e' => by have e'' : b_ = gc := e'; have := (hO13).base_le hb; omega)).lo hk30).kp hk36 (fun b_ hb e' => by have e'' : b_ = gc := e'; have := (((hO13).kp hk17 (fun b_ hb e' => by have e'' : b_ = gc := e'; have := (hO13).base_le hb; omega)).lo hk30).base_le hb; omega)).lo hk49).base_le hb; omega)).lo hk69).base_le hb; omega)).lo hk90).kp hk100 (fun b_ hb e' => hd95 (by have e'' : b_ = g87 := e'; rw [← e'']; exact hb))).base_le hb; omega)).base_le e'; omega
      have hd164 : ¬ (some (⟨g27, 0, none⟩ : Addr)) = some ⟨g156, 0, none⟩ := fun e' => by have := (((((((((hO31).kp hk36 (fun b_ hb e' => by have e'' : b_ = gc := e'; have := (hO31).base_le hb; omega)).lo hk49).kp hk56 (fun b_ hb e' => by have e'' : b_ = gc := e'; have := (((hO31).kp hk36 (fun b_ hb e' => by have e'' : b_ = gc := e'; have := (hO31).base_le hb; omega)).lo hk49).base_le hb; omega)).lo hk69).kp hk77 (fun b_ hb e' => by have e'' : b_ = gc := e'; have := (((((hO31).kp hk36 (fun b_ hb e' => by have e'' : b_ = gc := e'; have := (hO31).base_le hb; omega)).lo hk49).kp hk56 (fun b_ hb e' => by have e'' : b_ = gc := e'; have := (((hO31).kp hk36 (fun b_ hb e' => by have e'' : b_ = gc := e'; have := (hO31).base_le hb; omega)).lo hk49).base_le hb; omega)).lo hk69).base_le hb; omega)).lo hk90).kp hk100 (fun b_ hb e' => hd96 (by have e'' : b_ = g87 := e'; rw [← e'']; exact hb))).kp hk106 (fun b_ hb e' => by have e'' : b_ = gc := e'; have := ((((((((hO31).kp hk36 (fun b_ hb e' => by have e'' : b_ = gc := e'; have := (hO31).base_le hb; omega)).lo hk49).kp hk56 (fun b_ hb e' => by have e'' : b_ = gc := e'; have := (((hO31).kp hk36 (fun b_ hb e' => by have e'' : b_ = gc := e'; have := (hO31).base_le hb; omega)).lo hk49).base_le hb; omega)).lo hk69).kp hk77 (fun b_ hb e' => by have e'' : b_ = gc := e'; have := (((((hO31).kp hk36 (fun b_ hb e' => by have e'' : b_ = gc := e'; have := (hO31).base_le hb; omega)).lo hk49).kp hk56 (fun b_ hb e' => by have e'' : b_ = gc := e'; have := (((hO31).kp hk36 (fun b_ hb e' => by have e'' : b_ = gc := e'; have := (hO31).base_le hb; omega)).lo hk49).base_le hb; omega)).lo hk69).base_le hb; omega)).lo hk90).kp hk100 (fun b_ hb e' => hd96 (by have e'' : b_ = g87 := e'; rw [← e'']; exact hb))).base_le hb; omega)).base_le e'; omega
      have hd165 : ¬ (some (⟨g46, 0, none⟩ : Addr)) = some ⟨g156, 0, none⟩ := fun e' => by have := (((((((hO50).kp hk56 (fun b_ hb e' => by have e'' : b_ = gc := e'; have := (hO50).base_le hb; omega)).lo hk69).kp hk77 (fun b_ hb e' => by have e'' : b_ = gc := e'; have := (((hO50).kp hk56 (fun b_ hb e' => by have e'' : b_ = gc := e'; have := (hO50).base_le hb; omega)).lo hk69).base_le hb; omega)).lo hk90).kp hk100 (fun b_ hb e' => hd97 (by have e'' : b_ = g87 := e'; rw [← e'']; exact hb))).kp hk106 (fun b_ hb e' => by have e'' : b_ = gc := e'; have := ((((((hO50).kp hk56 (fun b_ hb e' => by have e'' : b_ = gc := e'; have := (hO50).base_le hb; omega)).lo hk69).kp hk77 (fun b_ hb e' => by have e'' : b_ = gc := e'; have := (((hO50).kp hk56 (fun b_ hb e' => by have e'' : b_ = gc := e'; have := (hO50).base_le hb; omega)).lo hk69).base_le hb; omega)).lo hk90).kp hk100 (fun b_ hb e' => hd97 (by have e'' : b_ = g87 := e'; rw [← e'']; exact hb))).base_le hb; omega)).base_le e'; omega
      have hd166 : ¬ (some (⟨g66, 0, none⟩ : Addr)) = some ⟨g156, 0, none⟩ := fun e' => by have := (((((hO70).kp hk77 (fun b_ hb e' => by have e'' : b_ = gc := e'; have := (hO70).base_le hb; omega)).lo hk90).kp hk100 (fun b_ hb e' => hd98 (by have e'' : b_ = g87 := e'; rw [← e'']; exact hb))).kp hk106 (fun b_ hb e' => by have e'' : b_ = gc := e'; have := ((((hO70).kp hk77 (fun b_ hb e' => by have e'' : b_ = gc := e'; have := (hO70).base_le hb; omega)).lo hk90).kp hk100 (fun b_ hb e' => hd98 (by have e'' : b_ = g87 := e'; rw [← e'']; exact hb))).base_le hb; omega)).base_le e'; omega
      refine SR.call ent34 (c___spec_l1Cur__among w157 Lc t108 s109 ((hb110).lo hk159) (((((((((((((((hLc).lo hk4).lo hk12).kp hk17 (fun b_ hb e' => by have e'' : b_ = gc := e'; omega)).lo hk30).kp hk36 (fun b_ hb e' => by have e'' : b_ = gc := e'; omega)).lo hk49).kp hk56 (fun b_ hb e' => by have e'' : b_ = gc := e'; omega)).lo hk69).kp hk77 (fun b_ hb e' => by have e'' : b_ = gc := e'; omega)).lo hk90).kp hk100 (fun b_ hb e' => by have e'' : b_ = g87 := e'; omega)).kp hk106 (fun b_ hb e' => by have e'' : b_ = gc := e'; omega)).lo hk159)) (by omega) (by omega) ([(-1), 10000] : List Int) (((hO160).rd)) (by omega) (by omega) (show ¬ g156 = gc from by omega)) rfl ?_
      rintro e w167 ⟨v169, t170, s171, rfl, hb172, ht173, hq174, hk168⟩
      refine ⟨_, rfl, ?_⟩
      have hz175 := hk168.size
      have hB176 := hB162.step hk168 (fun i_ hi_ e' => e')
      have hq177 : ((-1) : Int) ≤ v169 ∧ v169 ≤ 10000 := mem_rngB (lo := (-1)) (hi := 10000) (by decide) hq174
      refine SR.q' (r_fa fa29_1 rfl) <| SR.store (o := 1) (vs := [.int .i64 v169]) sca3.2 rfl rfl rfl rfl ((((hb102).kp hk106 (fun e' => by have e'' : g87 = gc := e'; omega)).lo hk159).kp hk168 (fun e' => by have e'' : g87 = gc := e'; omega)) (Nat.le_of_ble_eq_true rfl) rfl ?_
      intro w178 hk179 hs180 hb181
      have hz182 := hk179.size
      have hB183 := hB176.new hk179 (by omega)
      refine SR.nil ?_
      refine W.seq ?_
      refine W.regS (SR.q' (r_lda (l := [.int .i64 m, .int .i64 v169, .int .i64 v37, .int .i64 v57, .int .i64 v78]) agg29 rfl (fun _ _ hu => (hb181).cell hu) rfl) <| SR.store (o := 0) (vs := [.int .i64 m, .int .i64 v169, .int .i64 v37, .int .i64 v57, .int .i64 v78]) agg29.2 rfl rfl rfl rfl (((((((((((((((hb6).lo hk12).kp hk17 (fun e' => by have e'' : g1 = gc := e'; omega)).lo hk30).kp hk36 (fun e' => by have e'' : g1 = gc := e'; omega)).lo hk49).kp hk56 (fun e' => by have e'' : g1 = gc := e'; omega)).lo hk69).kp hk77 (fun e' => by have e'' : g1 = gc := e'; omega)).lo hk90).kp hk100 (fun e' => by have e'' : g1 = g87 := e'; omega)).kp hk106 (fun e' => by have e'' : g1 = gc := e'; omega)).lo hk159).kp hk168 (fun e' => by have e'' : g1 = gc := e'; omega)).kp hk179 (fun e' => by have e'' : g1 = g87 := e'; omega)) (Nat.le_of_ble_eq_true rfl) rfl ?_)
      intro w184 hk185 hs186 hb187
      have hz188 := hk185.size
      have hB189 := hB183.new hk185 (by omega)
      refine SR.nil ?_
      refine W.ret ?_
      refine retC rfl rfl agg29 (hb187) rfl ?_
      exact ⟨(⟨m, v169, v37, v57, v78⟩ : LibRow), t170, s171, eR (eA (eC (eI (z_c___spec_l1Cur__libRow_190 Lc tc sc nc htc hbdc hlec m v18 t19 s20 ht22 hq23 hq26 v37 t38 s39 ht41 hq42 hq45 v57 t58 s59 ht61 hq62 hq65 v78 t79 s80 ht82 hq83 hq86 v107 t108 s109 ht111 hq112 h115 h155 v169 t170 s171 ht173 hq174 hq177)) (eC (eI (z_c___spec_l1Cur__libRow_191 Lc tc sc nc htc hbdc hlec m v18 t19 s20 ht22 hq23 hq26 v37 t38 s39 ht41 hq42 hq45 v57 t58 s59 ht61 hq62 hq65 v78 t79 s80 ht82 hq83 hq86 v107 t108 s109 ht111 hq112 h115 h155 v169 t170 s171 ht173 hq174 hq177)) (eC (eI (z_c___spec_l1Cur__libRow_192 Lc tc sc nc htc hbdc hlec m v18 t19 s20 ht22 hq23 hq26 v37 t38 s39 ht41 hq42 hq45 v57 t58 s59 ht61 hq62 hq65 v78 t79 s80 ht82 hq83 hq86 v107 t108 s109 ht111 hq112 h115 h155 v169 t170 s171 ht173 hq174 hq177)) (eC (eI (z_c___spec_l1Cur__libRow_193 Lc tc sc nc htc hbdc hlec m v18 t19 s20 ht22 hq23 hq26 v37 t38 s39 ht41 hq42 hq45 v57 t58 s59 ht61 hq62 hq65 v78 t79 s80 ht82 hq83 hq86 v107 t108 s109 ht111 hq112 h115 h155 v169 t170 s171 ht173 hq174 hq177)) (eC (eI (z_c___spec_l1Cur__libRow_194 Lc tc sc nc htc hbdc hlec m v18 t19 s20 ht22 hq23 hq26 v37 t38 s39 ht41 hq42 hq45 v57 t58 s59 ht61 hq62 hq65 v78 t79 s80 ht82 hq83 hq86 v107 t108 s109 ht111 hq112 h115 h155 v169 t170 s171 ht173 hq174 hq177)) rfl)))))), (((hb172).kp hk179 (fun e' => by have e'' : gc = g87 := e'; omega)).kp hk185 (fun e' => by have e'' : gc = g1 := e'; omega)), ⟨by omega, by omega⟩, hB189⟩
    · refine W.seq ?_
      refine W.regS (SR.q' (r_eq rfl rfl) <| SR.q' (r_as (v := .bool _) rfl) <| SR.nil ?_)
      refine W.cond_d rfl (fun h195 => ?_) (fun h195 => ?_)
      · refine W.regS (SR.q' (r_mv (v := .pointer (some _)) rfl) <| SR.lit (vs := [.int .i64 (-1), .int .i64 10000]) (L := ([(-1), 10000] : List Int)) (enc := encI) tel32 (fun _ => rfl) rfl rfl rfl (by decide) ?_)
        intro g196 w197 hg198 hk199 hO200
        have hz201 := hk199.size
        have hB202 := hB114.lo hk199
        have hd203 : ¬ (some (⟨g9, 0, none⟩ : Addr)) = some ⟨g196, 0, none⟩ := fun e' => by have := (((((((((((hO13).kp hk17 (fun b_ hb e' => by have e'' : b_ = gc := e'; have := (hO13).base_le hb; omega)).lo hk30).kp hk36 (fun b_ hb e' => by have e'' : b_ = gc := e'; have := (((hO13).kp hk17 (fun b_ hb e' => by have e'' : b_ = gc := e'; have := (hO13).base_le hb; omega)).lo hk30).base_le hb; omega)).lo hk49).kp hk56 (fun b_ hb e' => by have e'' : b_ = gc := e'; have := (((((hO13).kp hk17 (fun b_ hb e' => by have e'' : b_ = gc := e'; have := (hO13).base_le hb; omega)).lo hk30).kp hk36 (fun b_ hb e' => by have e'' : b_ = gc := e'; have := (((hO13).kp hk17 (fun b_ hb e' => by have e'' : b_ = gc := e'; have := (hO13).base_le hb; omega)).lo hk30).base_le hb; omega)).lo hk49).base_le hb; omega)).lo hk69).kp hk77 (fun b_ hb e' => by have e'' : b_ = gc := e'; have := (((((((hO13).kp hk17 (fun b_ hb e' => by have e'' : b_ = gc := e'; have := (hO13).base_le hb; omega)).lo hk30).kp hk36 (fun b_ hb e' => by have e'' : b_ = gc := e'; have := (((hO13).kp hk17 (fun b_ hb e' => by have e'' : b_ = gc := e'; have := (hO13).base_le hb; omega)).lo hk30).base_le hb; omega)).lo hk49).kp hk56 (fun b_ hb e' => by have e'' : b_ = gc := e'; have := (((((hO13).kp hk17 (fun b_ hb e' => by have e'' : b_ = gc := e'; have := (hO13).base_le hb; omega)).lo hk30).kp hk36 (fun b_ hb e' => by have e'' : b_ = gc := e'; have := (((hO13).kp hk17 (fun b_ hb e' => by have e'' : b_ = gc := e'; have := (hO13).base_le hb; omega)).lo hk30).base_le hb; omega)).lo hk49).base_le hb; omega)).lo hk69).base_le hb; omega)).lo hk90).kp hk100 (fun b_ hb e' => hd95 (by have e'' : b_ = g87 := e'; rw [← e'']; exact hb))).kp hk106 (fun b_ hb e' => by have e'' : b_ = gc := e'; have := ((((((((((hO13).kp hk17 (fun b_ hb e' => by have e'' : b_ = gc := e'; have := (hO13).base_le hb; omega)).lo hk30).kp hk36 (fun b_ hb e' => by have e'' : b_ = gc := e'; have := (((hO13).kp hk17 (fun b_ hb e' => by have e'' : b_ = gc := e'; have := (hO13).base_le hb; omega)).lo hk30).base_le hb; omega)).lo hk49).kp hk56 (fun b_ hb e' => by have e'' : b_ = gc := e'; have := (((((hO13).kp hk17 (fun b_ hb e' => by have e'' : b_ = gc := e'; have := (hO13).base_le hb; omega)).lo hk30).kp hk36 (fun b_ hb e' => by have e'' : b_ = gc := e'; have := (((hO13).kp hk17 (fun b_ hb e' => by have e'' : b_ = gc := e'; have := (hO13).base_le hb; omega)).lo hk30).base_le hb; omega)).lo hk49).base_le hb; omega)).lo hk69).kp hk77 (fun b_ hb e' => by have e'' : b_ = gc := e'; have := (((((((hO13).kp hk17 (fun b_ hb e' => by have e'' : b_ = gc := e'; have := (hO13).base_le hb; omega)).lo hk30).kp hk36 (fun b_ hb e' => by have e'' : b_ = gc := e'; have := (((hO13).kp hk17 (fun b_ hb e' => by have e'' : b_ = gc := e'; have := (hO13).base_le hb; omega)).lo hk30).base_le hb; omega)).lo hk49).kp hk56 (fun b_ hb e' => by have e'' : b_ = gc := e'; have := (((((hO13).kp hk17 (fun b_ hb e' => by have e'' : b_ = gc := e'; have := (hO13).base_le hb; omega)).lo hk30).kp hk36 (fun b_ hb e' => by have e'' : b_ = gc := e'; have := (((hO13).kp hk17 (fun b_ hb e' => by have e'' : b_ = gc := e'; have := (hO13).base_le hb; omega)).lo hk30).base_le hb; omega)).lo hk49).base_le hb; omega)).lo hk69).base_le hb; omega)).lo hk90).kp hk100 (fun b_ hb e' => hd95 (by have e'' : b_ = g87 := e'; rw [← e'']; exact hb))).base_le hb; omega)).base_le e'; omega
        have hd204 : ¬ (some (⟨g27, 0, none⟩ : Addr)) = some ⟨g196, 0, none⟩ := fun e' => by have := (((((((((hO31).kp hk36 (fun b_ hb e' => by have e'' : b_ = gc := e'; have := (hO31).base_le hb; omega)).lo hk49).kp hk56 (fun b_ hb e' => by have e'' : b_ = gc := e'; have := (((hO31).kp hk36 (fun b_ hb e' => by have e'' : b_ = gc := e'; have := (hO31).base_le hb; omega)).lo hk49).base_le hb; omega)).lo hk69).kp hk77 (fun b_ hb e' => by have e'' : b_ = gc := e'; have := (((((hO31).kp hk36 (fun b_ hb e' => by have e'' : b_ = gc := e'; have := (hO31).base_le hb; omega)).lo hk49).kp hk56 (fun b_ hb e' => by have e'' : b_ = gc := e'; have := (((hO31).kp hk36 (fun b_ hb e' => by have e'' : b_ = gc := e'; have := (hO31).base_le hb; omega)).lo hk49).base_le hb; omega)).lo hk69).base_le hb; omega)).lo hk90).kp hk100 (fun b_ hb e' => hd96 (by have e'' : b_ = g87 := e'; rw [← e'']; exact hb))).kp hk106 (fun b_ hb e' => by have e'' : b_ = gc := e'; have := ((((((((hO31).kp hk36 (fun b_ hb e' => by have e'' : b_ = gc := e'; have := (hO31).base_le hb; omega)).lo hk49).kp hk56 (fun b_ hb e' => by have e'' : b_ = gc := e'; have := (((hO31).kp hk36 (fun b_ hb e' => by have e'' : b_ = gc := e'; have := (hO31).base_le hb; omega)).lo hk49).base_le hb; omega)).lo hk69).kp hk77 (fun b_ hb e' => by have e'' : b_ = gc := e'; have := (((((hO31).kp hk36 (fun b_ hb e' => by have e'' : b_ = gc := e'; have := (hO31).base_le hb; omega)).lo hk49).kp hk56 (fun b_ hb e' => by have e'' : b_ = gc := e'; have := (((hO31).kp hk36 (fun b_ hb e' => by have e'' : b_ = gc := e'; have := (hO31).base_le hb; omega)).lo hk49).base_le hb; omega)).lo hk69).base_le hb; omega)).lo hk90).kp hk100 (fun b_ hb e' => hd96 (by have e'' : b_ = g87 := e'; rw [← e'']; exact hb))).base_le hb; omega)).base_le e'; omega
        have hd205 : ¬ (some (⟨g46, 0, none⟩ : Addr)) = some ⟨g196, 0, none⟩ := fun e' => by have := (((((((hO50).kp hk56 (fun b_ hb e' => by have e'' : b_ = gc := e'; have := (hO50).base_le hb; omega)).lo hk69).kp hk77 (fun b_ hb e' => by have e'' : b_ = gc := e'; have := (((hO50).kp hk56 (fun b_ hb e' => by have e'' : b_ = gc := e'; have := (hO50).base_le hb; omega)).lo hk69).base_le hb; omega)).lo hk90).kp hk100 (fun b_ hb e' => hd97 (by have e'' : b_ = g87 := e'; rw [← e'']; exact hb))).kp hk106 (fun b_ hb e' => by have e'' : b_ = gc := e'; have := ((((((hO50).kp hk56 (fun b_ hb e' => by have e'' : b_ = gc := e'; have := (hO50).base_le hb; omega)).lo hk69).kp hk77 (fun b_ hb e' => by have e'' : b_ = gc := e'; have := (((hO50).kp hk56 (fun b_ hb e' => by have e'' : b_ = gc := e'; have := (hO50).base_le hb; omega)).lo hk69).base_le hb; omega)).lo hk90).kp hk100 (fun b_ hb e' => hd97 (by have e'' : b_ = g87 := e'; rw [← e'']; exact hb))).base_le hb; omega)).base_le e'; omega
        have hd206 : ¬ (some (⟨g66, 0, none⟩ : Addr)) = some ⟨g196, 0, none⟩ := fun e' => by have := (((((hO70).kp hk77 (fun b_ hb e' => by have e'' : b_ = gc := e'; have := (hO70).base_le hb; omega)).lo hk90).kp hk100 (fun b_ hb e' => hd98 (by have e'' : b_ = g87 := e'; rw [← e'']; exact hb))).kp hk106 (fun b_ hb e' => by have e'' : b_ = gc := e'; have := ((((hO70).kp hk77 (fun b_ hb e' => by have e'' : b_ = gc := e'; have := (hO70).base_le hb; omega)).lo hk90).kp hk100 (fun b_ hb e' => hd98 (by have e'' : b_ = g87 := e'; rw [← e'']; exact hb))).base_le hb; omega)).base_le e'; omega
        refine SR.call ent34 (c___spec_l1Cur__among w197 Lc t108 s109 ((hb110).lo hk199) (((((((((((((((hLc).lo hk4).lo hk12).kp hk17 (fun b_ hb e' => by have e'' : b_ = gc := e'; omega)).lo hk30).kp hk36 (fun b_ hb e' => by have e'' : b_ = gc := e'; omega)).lo hk49).kp hk56 (fun b_ hb e' => by have e'' : b_ = gc := e'; omega)).lo hk69).kp hk77 (fun b_ hb e' => by have e'' : b_ = gc := e'; omega)).lo hk90).kp hk100 (fun b_ hb e' => by have e'' : b_ = g87 := e'; omega)).kp hk106 (fun b_ hb e' => by have e'' : b_ = gc := e'; omega)).lo hk199)) (by omega) (by omega) ([(-1), 10000] : List Int) (((hO200).rd)) (by omega) (by omega) (show ¬ g196 = gc from by omega)) rfl ?_
        rintro e w207 ⟨v209, t210, s211, rfl, hb212, ht213, hq214, hk208⟩
        refine ⟨_, rfl, ?_⟩
        have hz215 := hk208.size
        have hB216 := hB202.step hk208 (fun i_ hi_ e' => e')
        have hq217 : ((-1) : Int) ≤ v209 ∧ v209 ≤ 10000 := mem_rngB (lo := (-1)) (hi := 10000) (by decide) hq214
        refine SR.q' (r_fa fa29_2 rfl) <| SR.store (o := 2) (vs := [.int .i64 v209]) sca3.2 rfl rfl rfl rfl ((((hb102).kp hk106 (fun e' => by have e'' : g87 = gc := e'; omega)).lo hk199).kp hk208 (fun e' => by have e'' : g87 = gc := e'; omega)) (Nat.le_of_ble_eq_true rfl) rfl ?_
        intro w218 hk219 hs220 hb221
        have hz222 := hk219.size
        have hB223 := hB216.new hk219 (by omega)
        refine SR.nil ?_
        refine W.seq ?_
        refine W.regS (SR.q' (r_lda (l := [.int .i64 m, .int .i64 v18, .int .i64 v209, .int .i64 v57, .int .i64 v78]) agg29 rfl (fun _ _ hu => (hb221).cell hu) rfl) <| SR.store (o := 0) (vs := [.int .i64 m, .int .i64 v18, .int .i64 v209, .int .i64 v57, .int .i64 v78]) agg29.2 rfl rfl rfl rfl (((((((((((((((hb6).lo hk12).kp hk17 (fun e' => by have e'' : g1 = gc := e'; omega)).lo hk30).kp hk36 (fun e' => by have e'' : g1 = gc := e'; omega)).lo hk49).kp hk56 (fun e' => by have e'' : g1 = gc := e'; omega)).lo hk69).kp hk77 (fun e' => by have e'' : g1 = gc := e'; omega)).lo hk90).kp hk100 (fun e' => by have e'' : g1 = g87 := e'; omega)).kp hk106 (fun e' => by have e'' : g1 = gc := e'; omega)).lo hk199).kp hk208 (fun e' => by have e'' : g1 = gc := e'; omega)).kp hk219 (fun e' => by have e'' : g1 = g87 := e'; omega)) (Nat.le_of_ble_eq_true rfl) rfl ?_)
        intro w224 hk225 hs226 hb227
        have hz228 := hk225.size
        have hB229 := hB223.new hk225 (by omega)
        refine SR.nil ?_
        refine W.ret ?_
        refine retC rfl rfl agg29 (hb227) rfl ?_
        exact ⟨(⟨m, v18, v209, v57, v78⟩ : LibRow), t210, s211, eR (eA (eC (eI (z_c___spec_l1Cur__libRow_230 Lc tc sc nc htc hbdc hlec m v18 t19 s20 ht22 hq23 hq26 v37 t38 s39 ht41 hq42 hq45 v57 t58 s59 ht61 hq62 hq65 v78 t79 s80 ht82 hq83 hq86 v107 t108 s109 ht111 hq112 h115 h155 h195 v209 t210 s211 ht213 hq214 hq217)) (eC (eI (z_c___spec_l1Cur__libRow_231 Lc tc sc nc htc hbdc hlec m v18 t19 s20 ht22 hq23 hq26 v37 t38 s39 ht41 hq42 hq45 v57 t58 s59 ht61 hq62 hq65 v78 t79 s80 ht82 hq83 hq86 v107 t108 s109 ht111 hq112 h115 h155 h195 v209 t210 s211 ht213 hq214 hq217)) (eC (eI (z_c___spec_l1Cur__libRow_232 Lc tc sc nc htc hbdc hlec m v18 t19 s20 ht22 hq23 hq26 v37 t38 s39 ht41 hq42 hq45 v57 t58 s59 ht61 hq62 hq65 v78 t79 s80 ht82 hq83 hq86 v107 t108 s109 ht111 hq112 h115 h155 h195 v209 t210 s211 ht213 hq214 hq217)) (eC (eI (z_c___spec_l1Cur__libRow_233 Lc tc sc nc htc hbdc hlec m v18 t19 s20 ht22 hq23 hq26 v37 t38 s39 ht41 hq42 hq45 v57 t58 s59 ht61 hq62 hq65 v78 t79 s80 ht82 hq83 hq86 v107 t108 s109 ht111 hq112 h115 h155 h195 v209 t210 s211 ht213 hq214 hq217)) (eC (eI (z_c___spec_l1Cur__libRow_234 Lc tc sc nc htc hbdc hlec m v18 t19 s20 ht22 hq23 hq26 v37 t38 s39 ht41 hq42 hq45 v57 t58 s59 ht61 hq62 hq65 v78 t79 s80 ht82 hq83 hq86 v107 t108 s109 ht111 hq112 h115 h155 h195 v209 t210 s211 ht213 hq214 hq217)) rfl)))))), (((hb212).kp hk219 (fun e' => by have e'' : gc = g87 := e'; omega)).kp hk225 (fun e' => by have e'' : gc = g1 := e'; omega)), ⟨by omega, by omega⟩, hB229⟩
      · refine W.seq ?_
        refine W.regS (SR.q' (r_eq rfl rfl) <| SR.q' (r_as (v := .bool _) rfl) <| SR.nil ?_)
        refine W.cond_d rfl (fun h235 => ?_) (fun h235 => ?_)
        · refine W.regS (SR.q' (r_mv (v := .pointer (some _)) rfl) <| SR.lit (vs := [.int .i64 (-1), .int .i64 1000]) (L := ([(-1), 1000] : List Int)) (enc := encI) tel32 (fun _ => rfl) rfl rfl rfl (by decide) ?_)
          intro g236 w237 hg238 hk239 hO240
          have hz241 := hk239.size
          have hB242 := hB114.lo hk239
          have hd243 : ¬ (some (⟨g9, 0, none⟩ : Addr)) = some ⟨g236, 0, none⟩ := fun e' => by have := (((((((((((hO13).kp hk17 (fun b_ hb e' => by have e'' : b_ = gc := e'; have := (hO13).base_le hb; omega)).lo hk30).kp hk36 (fun b_ hb e' => by have e'' : b_ = gc := e'; have := (((hO13).kp hk17 (fun b_ hb e' => by have e'' : b_ = gc := e'; have := (hO13).base_le hb; omega)).lo hk30).base_le hb; omega)).lo hk49).kp hk56 (fun b_ hb e' => by have e'' : b_ = gc := e'; have := (((((hO13).kp hk17 (fun b_ hb e' => by have e'' : b_ = gc := e'; have := (hO13).base_le hb; omega)).lo hk30).kp hk36 (fun b_ hb e' => by have e'' : b_ = gc := e'; have := (((hO13).kp hk17 (fun b_ hb e' => by have e'' : b_ = gc := e'; have := (hO13).base_le hb; omega)).lo hk30).base_le hb; omega)).lo hk49).base_le hb; omega)).lo hk69).kp hk77 (fun b_ hb e' => by have e'' : b_ = gc := e'; have := (((((((hO13).kp hk17 (fun b_ hb e' => by have e'' : b_ = gc := e'; have := (hO13).base_le hb; omega)).lo hk30).kp hk36 (fun b_ hb e' => by have e'' : b_ = gc := e'; have := (((hO13).kp hk17 (fun b_ hb e' => by have e'' : b_ = gc := e'; have := (hO13).base_le hb; omega)).lo hk30).base_le hb; omega)).lo hk49).kp hk56 (fun b_ hb e' => by have e'' : b_ = gc := e'; have := (((((hO13).kp hk17 (fun b_ hb e' => by have e'' : b_ = gc := e'; have := (hO13).base_le hb; omega)).lo hk30).kp hk36 (fun b_ hb e' => by have e'' : b_ = gc := e'; have := (((hO13).kp hk17 (fun b_ hb e' => by have e'' : b_ = gc := e'; have := (hO13).base_le hb; omega)).lo hk30).base_le hb; omega)).lo hk49).base_le hb; omega)).lo hk69).base_le hb; omega)).lo hk90).kp hk100 (fun b_ hb e' => hd95 (by have e'' : b_ = g87 := e'; rw [← e'']; exact hb))).kp hk106 (fun b_ hb e' => by have e'' : b_ = gc := e'; have := ((((((((((hO13).kp hk17 (fun b_ hb e' => by have e'' : b_ = gc := e'; have := (hO13).base_le hb; omega)).lo hk30).kp hk36 (fun b_ hb e' => by have e'' : b_ = gc := e'; have := (((hO13).kp hk17 (fun b_ hb e' => by have e'' : b_ = gc := e'; have := (hO13).base_le hb; omega)).lo hk30).base_le hb; omega)).lo hk49).kp hk56 (fun b_ hb e' => by have e'' : b_ = gc := e'; have := (((((hO13).kp hk17 (fun b_ hb e' => by have e'' : b_ = gc := e'; have := (hO13).base_le hb; omega)).lo hk30).kp hk36 (fun b_ hb e' => by have e'' : b_ = gc := e'; have := (((hO13).kp hk17 (fun b_ hb e' => by have e'' : b_ = gc := e'; have := (hO13).base_le hb; omega)).lo hk30).base_le hb; omega)).lo hk49).base_le hb; omega)).lo hk69).kp hk77 (fun b_ hb e' => by have e'' : b_ = gc := e'; have := (((((((hO13).kp hk17 (fun b_ hb e' => by have e'' : b_ = gc := e'; have := (hO13).base_le hb; omega)).lo hk30).kp hk36 (fun b_ hb e' => by have e'' : b_ = gc := e'; have := (((hO13).kp hk17 (fun b_ hb e' => by have e'' : b_ = gc := e'; have := (hO13).base_le hb; omega)).lo hk30).base_le hb; omega)).lo hk49).kp hk56 (fun b_ hb e' => by have e'' : b_ = gc := e'; have := (((((hO13).kp hk17 (fun b_ hb e' => by have e'' : b_ = gc := e'; have := (hO13).base_le hb; omega)).lo hk30).kp hk36 (fun b_ hb e' => by have e'' : b_ = gc := e'; have := (((hO13).kp hk17 (fun b_ hb e' => by have e'' : b_ = gc := e'; have := (hO13).base_le hb; omega)).lo hk30).base_le hb; omega)).lo hk49).base_le hb; omega)).lo hk69).base_le hb; omega)).lo hk90).kp hk100 (fun b_ hb e' => hd95 (by have e'' : b_ = g87 := e'; rw [← e'']; exact hb))).base_le hb; omega)).base_le e'; omega
          have hd244 : ¬ (some (⟨g27, 0, none⟩ : Addr)) = some ⟨g236, 0, none⟩ := fun e' => by have := (((((((((hO31).kp hk36 (fun b_ hb e' => by have e'' : b_ = gc := e'; have := (hO31).base_le hb; omega)).lo hk49).kp hk56 (fun b_ hb e' => by have e'' : b_ = gc := e'; have := (((hO31).kp hk36 (fun b_ hb e' => by have e'' : b_ = gc := e'; have := (hO31).base_le hb; omega)).lo hk49).base_le hb; omega)).lo hk69).kp hk77 (fun b_ hb e' => by have e'' : b_ = gc := e'; have := (((((hO31).kp hk36 (fun b_ hb e' => by have e'' : b_ = gc := e'; have := (hO31).base_le hb; omega)).lo hk49).kp hk56 (fun b_ hb e' => by have e'' : b_ = gc := e'; have := (((hO31).kp hk36 (fun b_ hb e' => by have e'' : b_ = gc := e'; have := (hO31).base_le hb; omega)).lo hk49).base_le hb; omega)).lo hk69).base_le hb; omega)).lo hk90).kp hk100 (fun b_ hb e' => hd96 (by have e'' : b_ = g87 := e'; rw [← e'']; exact hb))).kp hk106 (fun b_ hb e' => by have e'' : b_ = gc := e'; have := ((((((((hO31).kp hk36 (fun b_ hb e' => by have e'' : b_ = gc := e'; have := (hO31).base_le hb; omega)).lo hk49).kp hk56 (fun b_ hb e' => by have e'' : b_ = gc := e'; have := (((hO31).kp hk36 (fun b_ hb e' => by have e'' : b_ = gc := e'; have := (hO31).base_le hb; omega)).lo hk49).base_le hb; omega)).lo hk69).kp hk77 (fun b_ hb e' => by have e'' : b_ = gc := e'; have := (((((hO31).kp hk36 (fun b_ hb e' => by have e'' : b_ = gc := e'; have := (hO31).base_le hb; omega)).lo hk49).kp hk56 (fun b_ hb e' => by have e'' : b_ = gc := e'; have := (((hO31).kp hk36 (fun b_ hb e' => by have e'' : b_ = gc := e'; have := (hO31).base_le hb; omega)).lo hk49).base_le hb; omega)).lo hk69).base_le hb; omega)).lo hk90).kp hk100 (fun b_ hb e' => hd96 (by have e'' : b_ = g87 := e'; rw [← e'']; exact hb))).base_le hb; omega)).base_le e'; omega
          have hd245 : ¬ (some (⟨g46, 0, none⟩ : Addr)) = some ⟨g236, 0, none⟩ := fun e' => by have := (((((((hO50).kp hk56 (fun b_ hb e' => by have e'' : b_ = gc := e'; have := (hO50).base_le hb; omega)).lo hk69).kp hk77 (fun b_ hb e' => by have e'' : b_ = gc := e'; have := (((hO50).kp hk56 (fun b_ hb e' => by have e'' : b_ = gc := e'; have := (hO50).base_le hb; omega)).lo hk69).base_le hb; omega)).lo hk90).kp hk100 (fun b_ hb e' => hd97 (by have e'' : b_ = g87 := e'; rw [← e'']; exact hb))).kp hk106 (fun b_ hb e' => by have e'' : b_ = gc := e'; have := ((((((hO50).kp hk56 (fun b_ hb e' => by have e'' : b_ = gc := e'; have := (hO50).base_le hb; omega)).lo hk69).kp hk77 (fun b_ hb e' => by have e'' : b_ = gc := e'; have := (((hO50).kp hk56 (fun b_ hb e' => by have e'' : b_ = gc := e'; have := (hO50).base_le hb; omega)).lo hk69).base_le hb; omega)).lo hk90).kp hk100 (fun b_ hb e' => hd97 (by have e'' : b_ = g87 := e'; rw [← e'']; exact hb))).base_le hb; omega)).base_le e'; omega
          have hd246 : ¬ (some (⟨g66, 0, none⟩ : Addr)) = some ⟨g236, 0, none⟩ := fun e' => by have := (((((hO70).kp hk77 (fun b_ hb e' => by have e'' : b_ = gc := e'; have := (hO70).base_le hb; omega)).lo hk90).kp hk100 (fun b_ hb e' => hd98 (by have e'' : b_ = g87 := e'; rw [← e'']; exact hb))).kp hk106 (fun b_ hb e' => by have e'' : b_ = gc := e'; have := ((((hO70).kp hk77 (fun b_ hb e' => by have e'' : b_ = gc := e'; have := (hO70).base_le hb; omega)).lo hk90).kp hk100 (fun b_ hb e' => hd98 (by have e'' : b_ = g87 := e'; rw [← e'']; exact hb))).base_le hb; omega)).base_le e'; omega
          refine SR.call ent34 (c___spec_l1Cur__among w237 Lc t108 s109 ((hb110).lo hk239) (((((((((((((((hLc).lo hk4).lo hk12).kp hk17 (fun b_ hb e' => by have e'' : b_ = gc := e'; omega)).lo hk30).kp hk36 (fun b_ hb e' => by have e'' : b_ = gc := e'; omega)).lo hk49).kp hk56 (fun b_ hb e' => by have e'' : b_ = gc := e'; omega)).lo hk69).kp hk77 (fun b_ hb e' => by have e'' : b_ = gc := e'; omega)).lo hk90).kp hk100 (fun b_ hb e' => by have e'' : b_ = g87 := e'; omega)).kp hk106 (fun b_ hb e' => by have e'' : b_ = gc := e'; omega)).lo hk239)) (by omega) (by omega) ([(-1), 1000] : List Int) (((hO240).rd)) (by omega) (by omega) (show ¬ g236 = gc from by omega)) rfl ?_
          rintro e w247 ⟨v249, t250, s251, rfl, hb252, ht253, hq254, hk248⟩
          refine ⟨_, rfl, ?_⟩
          have hz255 := hk248.size
          have hB256 := hB242.step hk248 (fun i_ hi_ e' => e')
          have hq257 : ((-1) : Int) ≤ v249 ∧ v249 ≤ 1000 := mem_rngB (lo := (-1)) (hi := 1000) (by decide) hq254
          refine SR.q' (r_fa fa29_3 rfl) <| SR.store (o := 3) (vs := [.int .i64 v249]) sca3.2 rfl rfl rfl rfl ((((hb102).kp hk106 (fun e' => by have e'' : g87 = gc := e'; omega)).lo hk239).kp hk248 (fun e' => by have e'' : g87 = gc := e'; omega)) (Nat.le_of_ble_eq_true rfl) rfl ?_
          intro w258 hk259 hs260 hb261
          have hz262 := hk259.size
          have hB263 := hB256.new hk259 (by omega)
          refine SR.nil ?_
          refine W.seq ?_
          refine W.regS (SR.q' (r_lda (l := [.int .i64 m, .int .i64 v18, .int .i64 v37, .int .i64 v249, .int .i64 v78]) agg29 rfl (fun _ _ hu => (hb261).cell hu) rfl) <| SR.store (o := 0) (vs := [.int .i64 m, .int .i64 v18, .int .i64 v37, .int .i64 v249, .int .i64 v78]) agg29.2 rfl rfl rfl rfl (((((((((((((((hb6).lo hk12).kp hk17 (fun e' => by have e'' : g1 = gc := e'; omega)).lo hk30).kp hk36 (fun e' => by have e'' : g1 = gc := e'; omega)).lo hk49).kp hk56 (fun e' => by have e'' : g1 = gc := e'; omega)).lo hk69).kp hk77 (fun e' => by have e'' : g1 = gc := e'; omega)).lo hk90).kp hk100 (fun e' => by have e'' : g1 = g87 := e'; omega)).kp hk106 (fun e' => by have e'' : g1 = gc := e'; omega)).lo hk239).kp hk248 (fun e' => by have e'' : g1 = gc := e'; omega)).kp hk259 (fun e' => by have e'' : g1 = g87 := e'; omega)) (Nat.le_of_ble_eq_true rfl) rfl ?_)
          intro w264 hk265 hs266 hb267
          have hz268 := hk265.size
          have hB269 := hB263.new hk265 (by omega)
          refine SR.nil ?_
          refine W.ret ?_
          refine retC rfl rfl agg29 (hb267) rfl ?_
          exact ⟨(⟨m, v18, v37, v249, v78⟩ : LibRow), t250, s251, eR (eA (eC (eI (z_c___spec_l1Cur__libRow_270 Lc tc sc nc htc hbdc hlec m v18 t19 s20 ht22 hq23 hq26 v37 t38 s39 ht41 hq42 hq45 v57 t58 s59 ht61 hq62 hq65 v78 t79 s80 ht82 hq83 hq86 v107 t108 s109 ht111 hq112 h115 h155 h195 h235 v249 t250 s251 ht253 hq254 hq257)) (eC (eI (z_c___spec_l1Cur__libRow_271 Lc tc sc nc htc hbdc hlec m v18 t19 s20 ht22 hq23 hq26 v37 t38 s39 ht41 hq42 hq45 v57 t58 s59 ht61 hq62 hq65 v78 t79 s80 ht82 hq83 hq86 v107 t108 s109 ht111 hq112 h115 h155 h195 h235 v249 t250 s251 ht253 hq254 hq257)) (eC (eI (z_c___spec_l1Cur__libRow_272 Lc tc sc nc htc hbdc hlec m v18 t19 s20 ht22 hq23 hq26 v37 t38 s39 ht41 hq42 hq45 v57 t58 s59 ht61 hq62 hq65 v78 t79 s80 ht82 hq83 hq86 v107 t108 s109 ht111 hq112 h115 h155 h195 h235 v249 t250 s251 ht253 hq254 hq257)) (eC (eI (z_c___spec_l1Cur__libRow_273 Lc tc sc nc htc hbdc hlec m v18 t19 s20 ht22 hq23 hq26 v37 t38 s39 ht41 hq42 hq45 v57 t58 s59 ht61 hq62 hq65 v78 t79 s80 ht82 hq83 hq86 v107 t108 s109 ht111 hq112 h115 h155 h195 h235 v249 t250 s251 ht253 hq254 hq257)) (eC (eI (z_c___spec_l1Cur__libRow_274 Lc tc sc nc htc hbdc hlec m v18 t19 s20 ht22 hq23 hq26 v37 t38 s39 ht41 hq42 hq45 v57 t58 s59 ht61 hq62 hq65 v78 t79 s80 ht82 hq83 hq86 v107 t108 s109 ht111 hq112 h115 h155 h195 h235 v249 t250 s251 ht253 hq254 hq257)) rfl)))))), (((hb252).kp hk259 (fun e' => by have e'' : gc = g87 := e'; omega)).kp hk265 (fun e' => by have e'' : gc = g1 := e'; omega)), ⟨by omega, by omega⟩, hB269⟩
        · refine W.seq ?_
          refine W.regS (SR.q' (r_eq rfl rfl) <| SR.q' (r_as (v := .bool _) rfl) <| SR.nil ?_)
          refine W.cond_d rfl (fun h275 => ?_) (fun h275 => ?_)
          · refine W.regS (SR.q' (r_mv (v := .pointer (some _)) rfl) <| SR.lit (vs := [.int .i64 (-1), .int .i64 100000]) (L := ([(-1), 100000] : List Int)) (enc := encI) tel32 (fun _ => rfl) rfl rfl rfl (by decide) ?_)
            intro g276 w277 hg278 hk279 hO280
            have hz281 := hk279.size
            have hB282 := hB114.lo hk279
            have hd283 : ¬ (some (⟨g9, 0, none⟩ : Addr)) = some ⟨g276, 0, none⟩ := fun e' => by have := (((((((((((hO13).kp hk17 (fun b_ hb e' => by have e'' : b_ = gc := e'; have := (hO13).base_le hb; omega)).lo hk30).kp hk36 (fun b_ hb e' => by have e'' : b_ = gc := e'; have := (((hO13).kp hk17 (fun b_ hb e' => by have e'' : b_ = gc := e'; have := (hO13).base_le hb; omega)).lo hk30).base_le hb; omega)).lo hk49).kp hk56 (fun b_ hb e' => by have e'' : b_ = gc := e'; have := (((((hO13).kp hk17 (fun b_ hb e' => by have e'' : b_ = gc := e'; have := (hO13).base_le hb; omega)).lo hk30).kp hk36 (fun b_ hb e' => by have e'' : b_ = gc := e'; have := (((hO13).kp hk17 (fun b_ hb e' => by have e'' : b_ = gc := e'; have := (hO13).base_le hb; omega)).lo hk30).base_le hb; omega)).lo hk49).base_le hb; omega)).lo hk69).kp hk77 (fun b_ hb e' => by have e'' : b_ = gc := e'; have := (((((((hO13).kp hk17 (fun b_ hb e' => by have e'' : b_ = gc := e'; have := (hO13).base_le hb; omega)).lo hk30).kp hk36 (fun b_ hb e' => by have e'' : b_ = gc := e'; have := (((hO13).kp hk17 (fun b_ hb e' => by have e'' : b_ = gc := e'; have := (hO13).base_le hb; omega)).lo hk30).base_le hb; omega)).lo hk49).kp hk56 (fun b_ hb e' => by have e'' : b_ = gc := e'; have := (((((hO13).kp hk17 (fun b_ hb e' => by have e'' : b_ = gc := e'; have := (hO13).base_le hb; omega)).lo hk30).kp hk36 (fun b_ hb e' => by have e'' : b_ = gc := e'; have := (((hO13).kp hk17 (fun b_ hb e' => by have e'' : b_ = gc := e'; have := (hO13).base_le hb; omega)).lo hk30).base_le hb; omega)).lo hk49).base_le hb; omega)).lo hk69).base_le hb; omega)).lo hk90).kp hk100 (fun b_ hb e' => hd95 (by have e'' : b_ = g87 := e'; rw [← e'']; exact hb))).kp hk106 (fun b_ hb e' => by have e'' : b_ = gc := e'; have := ((((((((((hO13).kp hk17 (fun b_ hb e' => by have e'' : b_ = gc := e'; have := (hO13).base_le hb; omega)).lo hk30).kp hk36 (fun b_ hb e' => by have e'' : b_ = gc := e'; have := (((hO13).kp hk17 (fun b_ hb e' => by have e'' : b_ = gc := e'; have := (hO13).base_le hb; omega)).lo hk30).base_le hb; omega)).lo hk49).kp hk56 (fun b_ hb e' => by have e'' : b_ = gc := e'; have := (((((hO13).kp hk17 (fun b_ hb e' => by have e'' : b_ = gc := e'; have := (hO13).base_le hb; omega)).lo hk30).kp hk36 (fun b_ hb e' => by have e'' : b_ = gc := e'; have := (((hO13).kp hk17 (fun b_ hb e' => by have e'' : b_ = gc := e'; have := (hO13).base_le hb; omega)).lo hk30).base_le hb; omega)).lo hk49).base_le hb; omega)).lo hk69).kp hk77 (fun b_ hb e' => by have e'' : b_ = gc := e'; have := (((((((hO13).kp hk17 (fun b_ hb e' => by have e'' : b_ = gc := e'; have := (hO13).base_le hb; omega)).lo hk30).kp hk36 (fun b_ hb e' => by have e'' : b_ = gc := e'; have := (((hO13).kp hk17 (fun b_ hb e' => by have e'' : b_ = gc := e'; have := (hO13).base_le hb; omega)).lo hk30).base_le hb; omega)).lo hk49).kp hk56 (fun b_ hb e' => by have e'' : b_ = gc := e'; have := (((((hO13).kp hk17 (fun b_ hb e' => by have e'' : b_ = gc := e'; have := (hO13).base_le hb; omega)).lo hk30).kp hk36 (fun b_ hb e' => by have e'' : b_ = gc := e'; have := (((hO13).kp hk17 (fun b_ hb e' => by have e'' : b_ = gc := e'; have := (hO13).base_le hb; omega)).lo hk30).base_le hb; omega)).lo hk49).base_le hb; omega)).lo hk69).base_le hb; omega)).lo hk90).kp hk100 (fun b_ hb e' => hd95 (by have e'' : b_ = g87 := e'; rw [← e'']; exact hb))).base_le hb; omega)).base_le e'; omega
            have hd284 : ¬ (some (⟨g27, 0, none⟩ : Addr)) = some ⟨g276, 0, none⟩ := fun e' => by have := (((((((((hO31).kp hk36 (fun b_ hb e' => by have e'' : b_ = gc := e'; have := (hO31).base_le hb; omega)).lo hk49).kp hk56 (fun b_ hb e' => by have e'' : b_ = gc := e'; have := (((hO31).kp hk36 (fun b_ hb e' => by have e'' : b_ = gc := e'; have := (hO31).base_le hb; omega)).lo hk49).base_le hb; omega)).lo hk69).kp hk77 (fun b_ hb e' => by have e'' : b_ = gc := e'; have := (((((hO31).kp hk36 (fun b_ hb e' => by have e'' : b_ = gc := e'; have := (hO31).base_le hb; omega)).lo hk49).kp hk56 (fun b_ hb e' => by have e'' : b_ = gc := e'; have := (((hO31).kp hk36 (fun b_ hb e' => by have e'' : b_ = gc := e'; have := (hO31).base_le hb; omega)).lo hk49).base_le hb; omega)).lo hk69).base_le hb; omega)).lo hk90).kp hk100 (fun b_ hb e' => hd96 (by have e'' : b_ = g87 := e'; rw [← e'']; exact hb))).kp hk106 (fun b_ hb e' => by have e'' : b_ = gc := e'; have := ((((((((hO31).kp hk36 (fun b_ hb e' => by have e'' : b_ = gc := e'; have := (hO31).base_le hb; omega)).lo hk49).kp hk56 (fun b_ hb e' => by have e'' : b_ = gc := e'; have := (((hO31).kp hk36 (fun b_ hb e' => by have e'' : b_ = gc := e'; have := (hO31).base_le hb; omega)).lo hk49).base_le hb; omega)).lo hk69).kp hk77 (fun b_ hb e' => by have e'' : b_ = gc := e'; have := (((((hO31).kp hk36 (fun b_ hb e' => by have e'' : b_ = gc := e'; have := (hO31).base_le hb; omega)).lo hk49).kp hk56 (fun b_ hb e' => by have e'' : b_ = gc := e'; have := (((hO31).kp hk36 (fun b_ hb e' => by have e'' : b_ = gc := e'; have := (hO31).base_le hb; omega)).lo hk49).base_le hb; omega)).lo hk69).base_le hb; omega)).lo hk90).kp hk100 (fun b_ hb e' => hd96 (by have e'' : b_ = g87 := e'; rw [← e'']; exact hb))).base_le hb; omega)).base_le e'; omega
            have hd285 : ¬ (some (⟨g46, 0, none⟩ : Addr)) = some ⟨g276, 0, none⟩ := fun e' => by have := (((((((hO50).kp hk56 (fun b_ hb e' => by have e'' : b_ = gc := e'; have := (hO50).base_le hb; omega)).lo hk69).kp hk77 (fun b_ hb e' => by have e'' : b_ = gc := e'; have := (((hO50).kp hk56 (fun b_ hb e' => by have e'' : b_ = gc := e'; have := (hO50).base_le hb; omega)).lo hk69).base_le hb; omega)).lo hk90).kp hk100 (fun b_ hb e' => hd97 (by have e'' : b_ = g87 := e'; rw [← e'']; exact hb))).kp hk106 (fun b_ hb e' => by have e'' : b_ = gc := e'; have := ((((((hO50).kp hk56 (fun b_ hb e' => by have e'' : b_ = gc := e'; have := (hO50).base_le hb; omega)).lo hk69).kp hk77 (fun b_ hb e' => by have e'' : b_ = gc := e'; have := (((hO50).kp hk56 (fun b_ hb e' => by have e'' : b_ = gc := e'; have := (hO50).base_le hb; omega)).lo hk69).base_le hb; omega)).lo hk90).kp hk100 (fun b_ hb e' => hd97 (by have e'' : b_ = g87 := e'; rw [← e'']; exact hb))).base_le hb; omega)).base_le e'; omega
            have hd286 : ¬ (some (⟨g66, 0, none⟩ : Addr)) = some ⟨g276, 0, none⟩ := fun e' => by have := (((((hO70).kp hk77 (fun b_ hb e' => by have e'' : b_ = gc := e'; have := (hO70).base_le hb; omega)).lo hk90).kp hk100 (fun b_ hb e' => hd98 (by have e'' : b_ = g87 := e'; rw [← e'']; exact hb))).kp hk106 (fun b_ hb e' => by have e'' : b_ = gc := e'; have := ((((hO70).kp hk77 (fun b_ hb e' => by have e'' : b_ = gc := e'; have := (hO70).base_le hb; omega)).lo hk90).kp hk100 (fun b_ hb e' => hd98 (by have e'' : b_ = g87 := e'; rw [← e'']; exact hb))).base_le hb; omega)).base_le e'; omega
            refine SR.call ent34 (c___spec_l1Cur__among w277 Lc t108 s109 ((hb110).lo hk279) (((((((((((((((hLc).lo hk4).lo hk12).kp hk17 (fun b_ hb e' => by have e'' : b_ = gc := e'; omega)).lo hk30).kp hk36 (fun b_ hb e' => by have e'' : b_ = gc := e'; omega)).lo hk49).kp hk56 (fun b_ hb e' => by have e'' : b_ = gc := e'; omega)).lo hk69).kp hk77 (fun b_ hb e' => by have e'' : b_ = gc := e'; omega)).lo hk90).kp hk100 (fun b_ hb e' => by have e'' : b_ = g87 := e'; omega)).kp hk106 (fun b_ hb e' => by have e'' : b_ = gc := e'; omega)).lo hk279)) (by omega) (by omega) ([(-1), 100000] : List Int) (((hO280).rd)) (by omega) (by omega) (show ¬ g276 = gc from by omega)) rfl ?_
            rintro e w287 ⟨v289, t290, s291, rfl, hb292, ht293, hq294, hk288⟩
            refine ⟨_, rfl, ?_⟩
            have hz295 := hk288.size
            have hB296 := hB282.step hk288 (fun i_ hi_ e' => e')
            have hq297 : ((-1) : Int) ≤ v289 ∧ v289 ≤ 100000 := mem_rngB (lo := (-1)) (hi := 100000) (by decide) hq294
            refine SR.q' (r_fa fa29_4 rfl) <| SR.store (o := 4) (vs := [.int .i64 v289]) sca3.2 rfl rfl rfl rfl ((((hb102).kp hk106 (fun e' => by have e'' : g87 = gc := e'; omega)).lo hk279).kp hk288 (fun e' => by have e'' : g87 = gc := e'; omega)) (Nat.le_of_ble_eq_true rfl) rfl ?_
            intro w298 hk299 hs300 hb301
            have hz302 := hk299.size
            have hB303 := hB296.new hk299 (by omega)
            refine SR.nil ?_
            refine W.seq ?_
            refine W.regS (SR.q' (r_lda (l := [.int .i64 m, .int .i64 v18, .int .i64 v37, .int .i64 v57, .int .i64 v289]) agg29 rfl (fun _ _ hu => (hb301).cell hu) rfl) <| SR.store (o := 0) (vs := [.int .i64 m, .int .i64 v18, .int .i64 v37, .int .i64 v57, .int .i64 v289]) agg29.2 rfl rfl rfl rfl (((((((((((((((hb6).lo hk12).kp hk17 (fun e' => by have e'' : g1 = gc := e'; omega)).lo hk30).kp hk36 (fun e' => by have e'' : g1 = gc := e'; omega)).lo hk49).kp hk56 (fun e' => by have e'' : g1 = gc := e'; omega)).lo hk69).kp hk77 (fun e' => by have e'' : g1 = gc := e'; omega)).lo hk90).kp hk100 (fun e' => by have e'' : g1 = g87 := e'; omega)).kp hk106 (fun e' => by have e'' : g1 = gc := e'; omega)).lo hk279).kp hk288 (fun e' => by have e'' : g1 = gc := e'; omega)).kp hk299 (fun e' => by have e'' : g1 = g87 := e'; omega)) (Nat.le_of_ble_eq_true rfl) rfl ?_)
            intro w304 hk305 hs306 hb307
            have hz308 := hk305.size
            have hB309 := hB303.new hk305 (by omega)
            refine SR.nil ?_
            refine W.ret ?_
            refine retC rfl rfl agg29 (hb307) rfl ?_
            exact ⟨(⟨m, v18, v37, v57, v289⟩ : LibRow), t290, s291, eR (eA (eC (eI (z_c___spec_l1Cur__libRow_310 Lc tc sc nc htc hbdc hlec m v18 t19 s20 ht22 hq23 hq26 v37 t38 s39 ht41 hq42 hq45 v57 t58 s59 ht61 hq62 hq65 v78 t79 s80 ht82 hq83 hq86 v107 t108 s109 ht111 hq112 h115 h155 h195 h235 h275 v289 t290 s291 ht293 hq294 hq297)) (eC (eI (z_c___spec_l1Cur__libRow_311 Lc tc sc nc htc hbdc hlec m v18 t19 s20 ht22 hq23 hq26 v37 t38 s39 ht41 hq42 hq45 v57 t58 s59 ht61 hq62 hq65 v78 t79 s80 ht82 hq83 hq86 v107 t108 s109 ht111 hq112 h115 h155 h195 h235 h275 v289 t290 s291 ht293 hq294 hq297)) (eC (eI (z_c___spec_l1Cur__libRow_312 Lc tc sc nc htc hbdc hlec m v18 t19 s20 ht22 hq23 hq26 v37 t38 s39 ht41 hq42 hq45 v57 t58 s59 ht61 hq62 hq65 v78 t79 s80 ht82 hq83 hq86 v107 t108 s109 ht111 hq112 h115 h155 h195 h235 h275 v289 t290 s291 ht293 hq294 hq297)) (eC (eI (z_c___spec_l1Cur__libRow_313 Lc tc sc nc htc hbdc hlec m v18 t19 s20 ht22 hq23 hq26 v37 t38 s39 ht41 hq42 hq45 v57 t58 s59 ht61 hq62 hq65 v78 t79 s80 ht82 hq83 hq86 v107 t108 s109 ht111 hq112 h115 h155 h195 h235 h275 v289 t290 s291 ht293 hq294 hq297)) (eC (eI (z_c___spec_l1Cur__libRow_314 Lc tc sc nc htc hbdc hlec m v18 t19 s20 ht22 hq23 hq26 v37 t38 s39 ht41 hq42 hq45 v57 t58 s59 ht61 hq62 hq65 v78 t79 s80 ht82 hq83 hq86 v107 t108 s109 ht111 hq112 h115 h155 h195 h235 h275 v289 t290 s291 ht293 hq294 hq297)) rfl)))))), (((hb292).kp hk299 (fun e' => by have e'' : gc = g87 := e'; omega)).kp hk305 (fun e' => by have e'' : gc = g1 := e'; omega)), ⟨by omega, by omega⟩, hB309⟩
          · refine W.skip ?_
            refine W.seq ?_
            refine W.regS (SR.q' (r_lda (l := [.int .i64 m, .int .i64 v18, .int .i64 v37, .int .i64 v57, .int .i64 v78]) agg29 rfl (fun _ _ hu => ((hb102).kp hk106 (fun e' => by have e'' : g87 = gc := e'; omega)).cell hu) rfl) <| SR.store (o := 0) (vs := [.int .i64 m, .int .i64 v18, .int .i64 v37, .int .i64 v57, .int .i64 v78]) agg29.2 rfl rfl rfl rfl ((((((((((((hb6).lo hk12).kp hk17 (fun e' => by have e'' : g1 = gc := e'; omega)).lo hk30).kp hk36 (fun e' => by have e'' : g1 = gc := e'; omega)).lo hk49).kp hk56 (fun e' => by have e'' : g1 = gc := e'; omega)).lo hk69).kp hk77 (fun e' => by have e'' : g1 = gc := e'; omega)).lo hk90).kp hk100 (fun e' => by have e'' : g1 = g87 := e'; omega)).kp hk106 (fun e' => by have e'' : g1 = gc := e'; omega)) (Nat.le_of_ble_eq_true rfl) rfl ?_)
            intro w315 hk316 hs317 hb318
            have hz319 := hk316.size
            have hB320 := hB114.new hk316 (by omega)
            refine SR.nil ?_
            refine W.ret ?_
            refine retC rfl rfl agg29 (hb318) rfl ?_
            exact ⟨(⟨m, v18, v37, v57, v78⟩ : LibRow), t108, s109, eR (eA (eC (eI (z_c___spec_l1Cur__libRow_321 Lc tc sc nc htc hbdc hlec m v18 t19 s20 ht22 hq23 hq26 v37 t38 s39 ht41 hq42 hq45 v57 t58 s59 ht61 hq62 hq65 v78 t79 s80 ht82 hq83 hq86 v107 t108 s109 ht111 hq112 h115 h155 h195 h235 h275)) (eC (eI (z_c___spec_l1Cur__libRow_322 Lc tc sc nc htc hbdc hlec m v18 t19 s20 ht22 hq23 hq26 v37 t38 s39 ht41 hq42 hq45 v57 t58 s59 ht61 hq62 hq65 v78 t79 s80 ht82 hq83 hq86 v107 t108 s109 ht111 hq112 h115 h155 h195 h235 h275)) (eC (eI (z_c___spec_l1Cur__libRow_323 Lc tc sc nc htc hbdc hlec m v18 t19 s20 ht22 hq23 hq26 v37 t38 s39 ht41 hq42 hq45 v57 t58 s59 ht61 hq62 hq65 v78 t79 s80 ht82 hq83 hq86 v107 t108 s109 ht111 hq112 h115 h155 h195 h235 h275)) (eC (eI (z_c___spec_l1Cur__libRow_324 Lc tc sc nc htc hbdc hlec m v18 t19 s20 ht22 hq23 hq26 v37 t38 s39 ht41 hq42 hq45 v57 t58 s59 ht61 hq62 hq65 v78 t79 s80 ht82 hq83 hq86 v107 t108 s109 ht111 hq112 h115 h155 h195 h235 h275)) (eC (eI (z_c___spec_l1Cur__libRow_325 Lc tc sc nc htc hbdc hlec m v18 t19 s20 ht22 hq23 hq26 v37 t38 s39 ht41 hq42 hq45 v57 t58 s59 ht61 hq62 hq65 v78 t79 s80 ht82 hq83 hq86 v107 t108 s109 ht111 hq112 h115 h155 h195 h235 h275)) rfl)))))), ((hb110).kp hk316 (fun e' => by have e'' : gc = g1 := e'; omega)), ⟨by omega, by omega⟩, hB320⟩

theorem z_c___spec_l1Cur__libRows_38 (Lc : List UInt8) (tc : Int) (sc : Int) (nc : Nat) (htc : 0 ≤ tc ∧ tc + 160 ≤ 4611686018427387904) (hbdc : (nc : Int) ≤ 9223372036854775807) (hlec : nc = Lc.length) (v18 : Int) (t19 : Int) (s20 : Int) (ht22 : tc ≤ t19 ∧ t19 ≤ tc + 2) (hq23 : v18 ∈ ([0, 0, 500, 1180] : List Int)) (hq26 : (0 : Int) ≤ v18 ∧ v18 ≤ 1180) (v29 : Int) (t30 : Int) (s31 : Int) (ht33 : t19 ≤ t30 ∧ t30 ≤ t19 + 2) (hq34 : (0 : Int) ≤ v29 ∧ ((v29 : Int) < 7 ∨ (v29 : Int) = 0)) : ((0 ≤ v29 ∧ v29 ≤ 6) ∧ -10 ≤ v18 ∧ v18 ≤ 1180 + 3 * (6 - v29)) ∧ (([] : List LibRow).length : Int) + v29 ≤ 6 ∧ tc ≤ t30 ∧ t30 ≤ tc + 4 + 18 * (6 - v29) := by
  exact ⟨by omega, by simp; omega, by omega, by omega⟩
theorem z_c___spec_l1Cur__libRows_100 (Lc : List UInt8) (tc : Int) (sc : Int) (nc : Nat) (htc : 0 ≤ tc ∧ tc + 160 ≤ 4611686018427387904) (hbdc : (nc : Int) ≤ 9223372036854775807) (hlec : nc = Lc.length) (v18 : Int) (t19 : Int) (s20 : Int) (ht22 : tc ≤ t19 ∧ t19 ≤ tc + 2) (hq23 : v18 ∈ ([0, 0, 500, 1180] : List Int)) (hq26 : (0 : Int) ≤ v18 ∧ v18 ≤ 1180) (v29 : Int) (t30 : Int) (s31 : Int) (ht33 : t19 ≤ t30 ∧ t30 ≤ t19 + 2) (hq34 : (0 : Int) ≤ v29 ∧ ((v29 : Int) < 7 ∨ (v29 : Int) = 0)) (n : Int) (m : Int) (R : List LibRow) (t : Int) (z : Int) (n37 : Nat) (c37 : Nat) (hi46 : ((0 ≤ n ∧ n ≤ 6) ∧ -10 ≤ m ∧ m ≤ 1180 + 3 * (6 - n)) ∧ (R.length : Int) + n ≤ 6 ∧ tc ≤ t ∧ t ≤ tc + 4 + 18 * (6 - n)) (hl49 : n37 = (R).length) (hq51 : ((0 ≤ n ∧ n ≤ 6) ∧ -10 ≤ m ∧ m ≤ 1180 + 3 * (6 - n)) ∧ (R.length : Int) + n ≤ 6 ∧ tc ≤ t ∧ t ≤ tc + 4 + 18 * (6 - n)) (h52 : 0 < n) (v55 : Int) (t56 : Int) (s57 : Int) (ht59 : t ≤ t56 ∧ t56 ≤ t + 2) (hq60 : (0 : Int) ≤ v55 ∧ ((v55 : Int) < 3 ∨ (v55 : Int) = 0)) (v65 : Int) (t66 : Int) (s67 : Int) (ht69 : t56 ≤ t66 ∧ t66 ≤ t56 + 2) (hq70 : (0 : Int) ≤ v65 ∧ ((v65 : Int) < 150 ∨ (v65 : Int) = 0)) (v75 : LibRow) (t76 : Int) (s77 : Int) (ht79 : t66 ≤ t76 ∧ t76 ≤ t66 + 14) : ((0 ≤ n - 1 ∧ n - 1 ≤ 6) ∧ -10 ≤ ((m + 1) + v55) - (v65 / 149) ∧ ((m + 1) + v55) - (v65 / 149) ≤ 1180 + 3 * (6 - (n - 1))) ∧ ((R ++ ([v75] : List LibRow)).length : Int) + (n - 1) ≤ 6 ∧ tc ≤ t76 ∧ t76 ≤ tc + 4 + 18 * (6 - (n - 1)) := by
  exact ⟨by omega, by simp only [List.length_append, List.length_cons, List.length_nil]; omega, by omega, by omega⟩
theorem z_c___spec_l1Cur__libRows_101 (Lc : List UInt8) (tc : Int) (sc : Int) (nc : Nat) (htc : 0 ≤ tc ∧ tc + 160 ≤ 4611686018427387904) (hbdc : (nc : Int) ≤ 9223372036854775807) (hlec : nc = Lc.length) (v18 : Int) (t19 : Int) (s20 : Int) (ht22 : tc ≤ t19 ∧ t19 ≤ tc + 2) (hq23 : v18 ∈ ([0, 0, 500, 1180] : List Int)) (hq26 : (0 : Int) ≤ v18 ∧ v18 ≤ 1180) (v29 : Int) (t30 : Int) (s31 : Int) (ht33 : t19 ≤ t30 ∧ t30 ≤ t19 + 2) (hq34 : (0 : Int) ≤ v29 ∧ ((v29 : Int) < 7 ∨ (v29 : Int) = 0)) (n : Int) (m : Int) (R : List LibRow) (t : Int) (z : Int) (n37 : Nat) (c37 : Nat) (hi46 : ((0 ≤ n ∧ n ≤ 6) ∧ -10 ≤ m ∧ m ≤ 1180 + 3 * (6 - n)) ∧ (R.length : Int) + n ≤ 6 ∧ tc ≤ t ∧ t ≤ tc + 4 + 18 * (6 - n)) (hl49 : n37 = (R).length) (hq51 : ((0 ≤ n ∧ n ≤ 6) ∧ -10 ≤ m ∧ m ≤ 1180 + 3 * (6 - n)) ∧ (R.length : Int) + n ≤ 6 ∧ tc ≤ t ∧ t ≤ tc + 4 + 18 * (6 - n)) (h52 : 0 < n) (v55 : Int) (t56 : Int) (s57 : Int) (ht59 : t ≤ t56 ∧ t56 ≤ t + 2) (hq60 : (0 : Int) ≤ v55 ∧ ((v55 : Int) < 3 ∨ (v55 : Int) = 0)) (v65 : Int) (t66 : Int) (s67 : Int) (ht69 : t56 ≤ t66 ∧ t66 ≤ t56 + 2) (hq70 : (0 : Int) ≤ v65 ∧ ((v65 : Int) < 150 ∨ (v65 : Int) = 0)) (v75 : LibRow) (t76 : Int) (s77 : Int) (ht79 : t66 ≤ t76 ∧ t76 ≤ t66 + 14) : (n - 1).toNat < n.toNat := by
  omega
theorem z_c___spec_l1Cur__libRows_121 (Lc : List UInt8) (tc : Int) (sc : Int) (nc : Nat) (htc : 0 ≤ tc ∧ tc + 160 ≤ 4611686018427387904) (hbdc : (nc : Int) ≤ 9223372036854775807) (hlec : nc = Lc.length) (v18 : Int) (t19 : Int) (s20 : Int) (ht22 : tc ≤ t19 ∧ t19 ≤ tc + 2) (hq23 : v18 ∈ ([0, 0, 500, 1180] : List Int)) (hq26 : (0 : Int) ≤ v18 ∧ v18 ≤ 1180) (v29 : Int) (t30 : Int) (s31 : Int) (ht33 : t19 ≤ t30 ∧ t30 ≤ t19 + 2) (hq34 : (0 : Int) ≤ v29 ∧ ((v29 : Int) < 7 ∨ (v29 : Int) = 0)) (n : Int) (m : Int) (R : List LibRow) (t : Int) (z : Int) (n37 : Nat) (c37 : Nat) (hi46 : ((0 ≤ n ∧ n ≤ 6) ∧ -10 ≤ m ∧ m ≤ 1180 + 3 * (6 - n)) ∧ (R.length : Int) + n ≤ 6 ∧ tc ≤ t ∧ t ≤ tc + 4 + 18 * (6 - n)) (hl49 : n37 = (R).length) (hq51 : ((0 ≤ n ∧ n ≤ 6) ∧ -10 ≤ m ∧ m ≤ 1180 + 3 * (6 - n)) ∧ (R.length : Int) + n ≤ 6 ∧ tc ≤ t ∧ t ≤ tc + 4 + 18 * (6 - n)) (h52 : ¬ (0 < n)) (v104 : Bool) (t105 : Int) (s106 : Int) (ht108 : t ≤ t105 ∧ t105 ≤ t + 2) (h111 : v104 = true) : 0 ≤ 13 ∧ ([] : List LibRow).length ≤ 0 ∧ tc ≤ t105 ∧ t105 ≤ tc + 120 + 2 * (0 : Int) := by
  exact ⟨by omega, by simp, by omega, by omega⟩
theorem z_c___spec_l1Cur__libRows_164 (Lc : List UInt8) (tc : Int) (sc : Int) (nc : Nat) (htc : 0 ≤ tc ∧ tc + 160 ≤ 4611686018427387904) (hbdc : (nc : Int) ≤ 9223372036854775807) (hlec : nc = Lc.length) (v18 : Int) (t19 : Int) (s20 : Int) (ht22 : tc ≤ t19 ∧ t19 ≤ tc + 2) (hq23 : v18 ∈ ([0, 0, 500, 1180] : List Int)) (hq26 : (0 : Int) ≤ v18 ∧ v18 ≤ 1180) (v29 : Int) (t30 : Int) (s31 : Int) (ht33 : t19 ≤ t30 ∧ t30 ≤ t19 + 2) (hq34 : (0 : Int) ≤ v29 ∧ ((v29 : Int) < 7 ∨ (v29 : Int) = 0)) (n : Int) (m : Int) (R : List LibRow) (t : Int) (z : Int) (n37 : Nat) (c37 : Nat) (hi46 : ((0 ≤ n ∧ n ≤ 6) ∧ -10 ≤ m ∧ m ≤ 1180 + 3 * (6 - n)) ∧ (R.length : Int) + n ≤ 6 ∧ tc ≤ t ∧ t ≤ tc + 4 + 18 * (6 - n)) (hl49 : n37 = (R).length) (hq51 : ((0 ≤ n ∧ n ≤ 6) ∧ -10 ≤ m ∧ m ≤ 1180 + 3 * (6 - n)) ∧ (R.length : Int) + n ≤ 6 ∧ tc ≤ t ∧ t ≤ tc + 4 + 18 * (6 - n)) (h52 : ¬ (0 < n)) (v104 : Bool) (t105 : Int) (s106 : Int) (ht108 : t ≤ t105 ∧ t105 ≤ t + 2) (h111 : v104 = true) (k : Nat) (Q : List LibRow) (t2 : Int) (z2 : Int) (n120 : Nat) (c120 : Nat) (hi129 : k ≤ 13 ∧ Q.length ≤ k ∧ tc ≤ t2 ∧ t2 ≤ tc + 120 + 2 * (k : Int)) (hl132 : n120 = (Q).length) (hq134 : k ≤ 13 ∧ Q.length ≤ k ∧ tc ≤ t2 ∧ t2 ≤ tc + 120 + 2 * (k : Int)) (v137 : Int) (t138 : Int) (s139 : Int) (ht141 : t2 ≤ t138 ∧ t138 ≤ t2 + 2) (hq142 : (0 : Int) ≤ v137 ∧ ((v137 : Int) < 2 ∨ (v137 : Int) = 0)) (h145 : (k : Int) < (12 + v137)) : (k + 1) ≤ 13 ∧ (Q ++ ([(⟨(k : Int) + 1, 10 * ((k : Int) % 5), (k : Int), 0, 0⟩ : LibRow)] : List LibRow)).length ≤ (k + 1) ∧ tc ≤ t138 ∧ t138 ≤ tc + 120 + 2 * ((k + 1) : Int) := by
  exact ⟨by omega, by simp only [List.length_append, List.length_cons, List.length_nil]; omega, by omega, by omega⟩
theorem z_c___spec_l1Cur__libRows_165 (Lc : List UInt8) (tc : Int) (sc : Int) (nc : Nat) (htc : 0 ≤ tc ∧ tc + 160 ≤ 4611686018427387904) (hbdc : (nc : Int) ≤ 9223372036854775807) (hlec : nc = Lc.length) (v18 : Int) (t19 : Int) (s20 : Int) (ht22 : tc ≤ t19 ∧ t19 ≤ tc + 2) (hq23 : v18 ∈ ([0, 0, 500, 1180] : List Int)) (hq26 : (0 : Int) ≤ v18 ∧ v18 ≤ 1180) (v29 : Int) (t30 : Int) (s31 : Int) (ht33 : t19 ≤ t30 ∧ t30 ≤ t19 + 2) (hq34 : (0 : Int) ≤ v29 ∧ ((v29 : Int) < 7 ∨ (v29 : Int) = 0)) (n : Int) (m : Int) (R : List LibRow) (t : Int) (z : Int) (n37 : Nat) (c37 : Nat) (hi46 : ((0 ≤ n ∧ n ≤ 6) ∧ -10 ≤ m ∧ m ≤ 1180 + 3 * (6 - n)) ∧ (R.length : Int) + n ≤ 6 ∧ tc ≤ t ∧ t ≤ tc + 4 + 18 * (6 - n)) (hl49 : n37 = (R).length) (hq51 : ((0 ≤ n ∧ n ≤ 6) ∧ -10 ≤ m ∧ m ≤ 1180 + 3 * (6 - n)) ∧ (R.length : Int) + n ≤ 6 ∧ tc ≤ t ∧ t ≤ tc + 4 + 18 * (6 - n)) (h52 : ¬ (0 < n)) (v104 : Bool) (t105 : Int) (s106 : Int) (ht108 : t ≤ t105 ∧ t105 ≤ t + 2) (h111 : v104 = true) (k : Nat) (Q : List LibRow) (t2 : Int) (z2 : Int) (n120 : Nat) (c120 : Nat) (hi129 : k ≤ 13 ∧ Q.length ≤ k ∧ tc ≤ t2 ∧ t2 ≤ tc + 120 + 2 * (k : Int)) (hl132 : n120 = (Q).length) (hq134 : k ≤ 13 ∧ Q.length ≤ k ∧ tc ≤ t2 ∧ t2 ≤ tc + 120 + 2 * (k : Int)) (v137 : Int) (t138 : Int) (s139 : Int) (ht141 : t2 ≤ t138 ∧ t138 ≤ t2 + 2) (hq142 : (0 : Int) ≤ v137 ∧ ((v137 : Int) < 2 ∨ (v137 : Int) = 0)) (h145 : (k : Int) < (12 + v137)) : 20 - (k + 1) < 20 - k := by
  omega
theorem z_c___spec_l1Cur__libRows_166 (Lc : List UInt8) (tc : Int) (sc : Int) (nc : Nat) (htc : 0 ≤ tc ∧ tc + 160 ≤ 4611686018427387904) (hbdc : (nc : Int) ≤ 9223372036854775807) (hlec : nc = Lc.length) (v18 : Int) (t19 : Int) (s20 : Int) (ht22 : tc ≤ t19 ∧ t19 ≤ tc + 2) (hq23 : v18 ∈ ([0, 0, 500, 1180] : List Int)) (hq26 : (0 : Int) ≤ v18 ∧ v18 ≤ 1180) (v29 : Int) (t30 : Int) (s31 : Int) (ht33 : t19 ≤ t30 ∧ t30 ≤ t19 + 2) (hq34 : (0 : Int) ≤ v29 ∧ ((v29 : Int) < 7 ∨ (v29 : Int) = 0)) (n : Int) (m : Int) (R : List LibRow) (t : Int) (z : Int) (n37 : Nat) (c37 : Nat) (hi46 : ((0 ≤ n ∧ n ≤ 6) ∧ -10 ≤ m ∧ m ≤ 1180 + 3 * (6 - n)) ∧ (R.length : Int) + n ≤ 6 ∧ tc ≤ t ∧ t ≤ tc + 4 + 18 * (6 - n)) (hl49 : n37 = (R).length) (hq51 : ((0 ≤ n ∧ n ≤ 6) ∧ -10 ≤ m ∧ m ≤ 1180 + 3 * (6 - n)) ∧ (R.length : Int) + n ≤ 6 ∧ tc ≤ t ∧ t ≤ tc + 4 + 18 * (6 - n)) (h52 : ¬ (0 < n)) (v104 : Bool) (t105 : Int) (s106 : Int) (ht108 : t ≤ t105 ∧ t105 ≤ t + 2) (h111 : v104 = true) (k : Nat) (Q : List LibRow) (t2 : Int) (z2 : Int) (n120 : Nat) (c120 : Nat) (hi129 : k ≤ 13 ∧ Q.length ≤ k ∧ tc ≤ t2 ∧ t2 ≤ tc + 120 + 2 * (k : Int)) (hl132 : n120 = (Q).length) (hq134 : k ≤ 13 ∧ Q.length ≤ k ∧ tc ≤ t2 ∧ t2 ≤ tc + 120 + 2 * (k : Int)) (v137 : Int) (t138 : Int) (s139 : Int) (ht141 : t2 ≤ t138 ∧ t138 ≤ t2 + 2) (hq142 : (0 : Int) ≤ v137 ∧ ((v137 : Int) < 2 ∨ (v137 : Int) = 0)) (h145 : ¬ ((k : Int) < (12 + v137))) : Q.length ≤ 60 := by
  omega
theorem z_c___spec_l1Cur__libRows_167 (Lc : List UInt8) (tc : Int) (sc : Int) (nc : Nat) (htc : 0 ≤ tc ∧ tc + 160 ≤ 4611686018427387904) (hbdc : (nc : Int) ≤ 9223372036854775807) (hlec : nc = Lc.length) (v18 : Int) (t19 : Int) (s20 : Int) (ht22 : tc ≤ t19 ∧ t19 ≤ tc + 2) (hq23 : v18 ∈ ([0, 0, 500, 1180] : List Int)) (hq26 : (0 : Int) ≤ v18 ∧ v18 ≤ 1180) (v29 : Int) (t30 : Int) (s31 : Int) (ht33 : t19 ≤ t30 ∧ t30 ≤ t19 + 2) (hq34 : (0 : Int) ≤ v29 ∧ ((v29 : Int) < 7 ∨ (v29 : Int) = 0)) (n : Int) (m : Int) (R : List LibRow) (t : Int) (z : Int) (n37 : Nat) (c37 : Nat) (hi46 : ((0 ≤ n ∧ n ≤ 6) ∧ -10 ≤ m ∧ m ≤ 1180 + 3 * (6 - n)) ∧ (R.length : Int) + n ≤ 6 ∧ tc ≤ t ∧ t ≤ tc + 4 + 18 * (6 - n)) (hl49 : n37 = (R).length) (hq51 : ((0 ≤ n ∧ n ≤ 6) ∧ -10 ≤ m ∧ m ≤ 1180 + 3 * (6 - n)) ∧ (R.length : Int) + n ≤ 6 ∧ tc ≤ t ∧ t ≤ tc + 4 + 18 * (6 - n)) (h52 : ¬ (0 < n)) (v104 : Bool) (t105 : Int) (s106 : Int) (ht108 : t ≤ t105 ∧ t105 ≤ t + 2) (h111 : v104 = false) : R.length ≤ 60 := by
  omega
theorem c___spec_l1Cur__libRows (w : World) {gc ec : Nat} {Ac : Option Addr} {nc cc Bc : Nat} (Lc : List UInt8) (tc sc : Int) (hc : Blk w gc ec [.slice Ac nc cc, .int .i64 tc, .int .u64 sc]) (hLc : SlR w Bc encB 1 Ac nc cc Lc) (hgc : Bc ≤ gc) (htc : 0 ≤ tc ∧ tc + 160 ≤ 4611686018427387904) : Calls Try.prog 27 #[.pointer (some ⟨gc, 0, none⟩)] w fun e w' => ∃ (A1' : Option Addr) (n1' c1' : Nat) (L : List LibRow) (tc' sc' : Int), e = .returned (.slice A1' n1' c1') ∧ SlO w' w.heap.size encLibRow 5 29 A1' n1' c1' L ∧ Blk w' gc ec [.slice Ac nc cc, .int .i64 tc', .int .u64 sc'] ∧ (tc ≤ tc' ∧ tc' ≤ tc + 160) ∧ (L.length ≤ 60) ∧ Kp (fun b_ => b_ = gc) w w' := by
  refine calls_W 53 Try.func27 rfl rfl rfl ?_
  have hBlc := hc.lt
  have hbdc := hLc.bound
  have hlec := hLc.len
  have hBbc := hLc.bd
  refine W.seq ?_
  refine W.regS (SR.q' (r_as (v := .slice none 0 0) rfl) <| SR.nil ?_)
  refine W.seq ?_
  refine W.regS (SR.lit (vs := []) (L := ([] : List LibRow)) (enc := encLibRow) tel24 (fun _ => rfl) rfl rfl rfl (by decide) ?_)
  intro g1 w2 hg3 hk4 hO5
  have hz6 := hk4.size
  have hB7 := (Kp.refl w : Kp (fun b_ => b_ = gc) w w).lo hk4
  refine SR.q' (r_as (v := .slice _ _ _) rfl) <| SR.nil ?_
  refine W.seq ?_
  refine W.regS (SR.q' (r_mv (v := .pointer (some _)) rfl) <| SR.lit (vs := [.int .i64 0, .int .i64 0, .int .i64 500, .int .i64 1180]) (L := ([0, 0, 500, 1180] : List Int)) (enc := encI) tel32 (fun _ => rfl) rfl rfl rfl (by decide) ?_)
  intro g8 w9 hg10 hk11 hO12
  have hz13 := hk11.size
  have hB14 := hB7.lo hk11
  have hd15 : ¬ (some (⟨g1, 0, none⟩ : Addr)) = some ⟨g8, 0, none⟩ := fun e' => by have := (hO5).base_le e'; omega
  refine SR.call ent34 (c___spec_l1Cur__among w9 Lc tc sc (((hc).lo hk4).lo hk11) ((((hLc).lo hk4).lo hk11)) (by omega) (by omega) ([0, 0, 500, 1180] : List Int) (((hO12).rd)) (by omega) (by omega) (show ¬ g8 = gc from by omega)) rfl ?_
  rintro e w16 ⟨v18, t19, s20, rfl, hb21, ht22, hq23, hk17⟩
  refine ⟨_, rfl, ?_⟩
  have hz24 := hk17.size
  have hB25 := hB14.step hk17 (fun i_ hi_ e' => e')
  have hq26 : (0 : Int) ≤ v18 ∧ v18 ≤ 1180 := mem_rngB (lo := 0) (hi := 1180) (by decide) hq23
  refine SR.q' (r_as (v := .int .i64 _) rfl) <| SR.nil ?_
  refine W.seq ?_
  refine W.seq ?_
  refine W.regS (SR.q' (r_mv (v := .pointer (some _)) rfl) <| SR.call ent35 (c___spec_l1Cur__pick w16 Lc t19 s20 (hb21) (((((hLc).lo hk4).lo hk11).kp hk17 (fun b_ hb e' => by have e'' : b_ = gc := e'; omega))) (by omega) (by omega) 7 (by first | omega | (simp only [List.length_append, List.length_cons, List.length_nil, List.length_take, List.length_drop]; omega))) rfl ?_)
  rintro e w27 ⟨v29, t30, s31, rfl, hb32, ht33, hq34, hk28⟩
  refine ⟨_, rfl, ?_⟩
  have hz35 := hk28.size
  have hB36 := hB25.step hk28 (fun i_ hi_ e' => e')
  refine SR.q' (r_as (v := .int .i64 _) rfl) <| SR.nil ?_
  refine W.block ?_
  refine W.loop (σ := Int × Int × (List LibRow) × Int × Int × (Option Addr) × Nat × Nat) (fun g => [(0, .pointer (some ((⟨gc, 0, none⟩ : Addr)))), (2, .slice none 0 0), (3, .slice g.2.2.2.2.2.1 g.2.2.2.2.2.2.1 g.2.2.2.2.2.2.2), (4, .int .i64 g.2.1), (5, .int .i64 g.1)]) (fun g w' => (Kp (fun b_ => b_ = gc) w w') ∧ (Blk w' gc ec [.slice Ac nc cc, .int .i64 g.2.2.2.1, .int .u64 g.2.2.2.2.1]) ∧ (SlR w' Bc encB 1 Ac nc cc Lc) ∧ (SlO w' w.heap.size encLibRow 5 29 g.2.2.2.2.2.1 g.2.2.2.2.2.2.1 g.2.2.2.2.2.2.2 g.2.2.1) ∧ (¬ g.2.2.2.2.2.1 = some ⟨gc, 0, none⟩) ∧ (((0 ≤ g.1 ∧ g.1 ≤ 6) ∧ -10 ≤ g.2.1 ∧ g.2.1 ≤ 1180 + 3 * (6 - g.1)) ∧ (g.2.2.1.length : Int) + g.1 ≤ 6 ∧ tc ≤ g.2.2.2.1 ∧ g.2.2.2.1 ≤ tc + 4 + 18 * (6 - g.1))) (fun g => g.1.toNat) (v29, v18, ([] : List LibRow), t30, s31, (some (⟨g1, 0, none⟩ : Addr)), 0, 0) ?_ ?_ ?_
  · exact ⟨rfl, rfl, rfl, rfl, rfl, trivial⟩
  · show (Kp (fun b_ => b_ = gc) w w27) ∧ (Blk w27 gc ec [.slice Ac nc cc, .int .i64 t30, .int .u64 s31]) ∧ (SlR w27 Bc encB 1 Ac nc cc Lc) ∧ (SlO w27 w.heap.size encLibRow 5 29 (some (⟨g1, 0, none⟩ : Addr)) 0 0 ([] : List LibRow)) ∧ (¬ (some (⟨g1, 0, none⟩ : Addr)) = some ⟨gc, 0, none⟩) ∧ (((0 ≤ v29 ∧ v29 ≤ 6) ∧ -10 ≤ v18 ∧ v18 ≤ 1180 + 3 * (6 - v29)) ∧ (([] : List LibRow).length : Int) + v29 ≤ 6 ∧ tc ≤ t30 ∧ t30 ≤ tc + 4 + 18 * (6 - v29))
    exact ⟨hB36, (hb32), ((((hLc).lo hk4).lo hk11).kp hk17 (fun b_ hb e' => by have e'' : b_ = gc := e'; omega)).kp hk28 (fun b_ hb e' => by have e'' : b_ = gc := e'; omega), ((((hO5).lo hk11).kp hk17 (fun b_ hb e' => by have e'' : b_ = gc := e'; have := ((hO5).lo hk11).base_le hb; omega)).kp hk28 (fun b_ hb e' => by have e'' : b_ = gc := e'; have := (((hO5).lo hk11).kp hk17 (fun b_ hb e' => by have e'' : b_ = gc := e'; have := ((hO5).lo hk11).base_le hb; omega)).base_le hb; omega)), (fun e' => by have := ((((hO5).lo hk11).kp hk17 (fun b_ hb e' => by have e'' : b_ = gc := e'; have := ((hO5).lo hk11).base_le hb; omega)).kp hk28 (fun b_ hb e' => by have e'' : b_ = gc := e'; have := (((hO5).lo hk11).kp hk17 (fun b_ hb e' => by have e'' : b_ = gc := e'; have := ((hO5).lo hk11).base_le hb; omega)).base_le hb; omega)).base_le e'; omega), (z_c___spec_l1Cur__libRows_38 Lc tc sc nc htc hbdc hlec v18 t19 s20 ht22 hq23 hq26 v29 t30 s31 ht33 hq34)⟩
  · rintro ⟨n, m, R, t, z, A37, n37, c37⟩ f39 w40 hP42
    obtain ⟨hB41, hm43, hm44, hO45, hd47, hi46⟩ : (Kp (fun b_ => b_ = gc) w w40) ∧ (Blk w40 gc ec [.slice Ac nc cc, .int .i64 t, .int .u64 z]) ∧ (SlR w40 Bc encB 1 Ac nc cc Lc) ∧ (SlO w40 w.heap.size encLibRow 5 29 A37 n37 c37 R) ∧ (¬ A37 = some ⟨gc, 0, none⟩) ∧ (((0 ≤ n ∧ n ≤ 6) ∧ -10 ≤ m ∧ m ≤ 1180 + 3 * (6 - n)) ∧ (R.length : Int) + n ≤ 6 ∧ tc ≤ t ∧ t ≤ tc + 4 + 18 * (6 - n)) := hP42
    refine (?_ : W _ _ _ _ _ (act _ (sets f39 [(0, .pointer (some ((⟨gc, 0, none⟩ : Addr)))), (2, .slice none 0 0), (3, .slice A37 n37 c37), (4, .int .i64 m), (5, .int .i64 n)])) _)
    have hzw40 := hB41.size
    have hl48 := hm43.lt
    have hl49 := hO45.len
    have hl50 := hO45.rd.bound
    have hq51 : ((0 ≤ n ∧ n ≤ 6) ∧ -10 ≤ m ∧ m ≤ 1180 + 3 * (6 - n)) ∧ (R.length : Int) + n ≤ 6 ∧ tc ≤ t ∧ t ≤ tc + 4 + 18 * (6 - n) := hi46
    refine W.seq ?_
    refine W.seq ?_
    refine W.regS (SR.q' (r_mv (v := .int .i64 _) rfl) <| SR.q' (r_gt rfl rfl) <| SR.nil ?_)
    refine W.cond_d rfl (fun h52 => ?_) (fun h52 => ?_)
    · refine W.skip ?_
      refine W.seq ?_
      refine W.block ?_
      refine W.seq ?_
      refine W.regS (SR.q' (r_mv (v := .int .i64 _) rfl) <| SR.q' (r_add rfl rfl (by omega)) <| SR.q' (r_mv (v := .pointer (some _)) rfl) <| SR.call ent35 (c___spec_l1Cur__pick w40 Lc t z (hm43) ((hm44)) (by omega) (by omega) 3 (by first | omega | (simp only [List.length_append, List.length_cons, List.length_nil, List.length_take, List.length_drop]; omega))) rfl ?_)
      rintro e w53 ⟨v55, t56, s57, rfl, hb58, ht59, hq60, hk54⟩
      refine ⟨_, rfl, ?_⟩
      have hz61 := hk54.size
      have hB62 := hB41.step hk54 (fun i_ hi_ e' => e')
      refine SR.q' (r_add rfl rfl (by omega)) <| SR.q' (r_mv (v := .pointer (some _)) rfl) <| SR.call ent35 (c___spec_l1Cur__pick w53 Lc t56 s57 (hb58) (((hm44).kp hk54 (fun b_ hb e' => by have e'' : b_ = gc := e'; omega))) (by omega) (by omega) 150 (by first | omega | (simp only [List.length_append, List.length_cons, List.length_nil, List.length_take, List.length_drop]; omega))) rfl ?_
      rintro e w63 ⟨v65, t66, s67, rfl, hb68, ht69, hq70, hk64⟩
      refine ⟨_, rfl, ?_⟩
      have hz71 := hk64.size
      have hB72 := hB62.step hk64 (fun i_ hi_ e' => e')
      refine SR.q' (r_quo rfl rfl (by omega)) <| SR.q' (r_sub rfl rfl (by omega)) <| SR.q' (r_as (v := .int .i64 _) rfl) <| SR.nil ?_
      refine W.regS (SR.q' (r_mv (v := .slice _ _ _) rfl) <| SR.q' (r_mv (v := .pointer (some _)) rfl) <| SR.q' (r_mv (v := .int .i64 _) rfl) <| SR.call ent36 (c___spec_l1Cur__libRow w63 Lc t66 s67 (hb68) ((((hm44).kp hk54 (fun b_ hb e' => by have e'' : b_ = gc := e'; omega)).kp hk64 (fun b_ hb e' => by have e'' : b_ = gc := e'; omega))) (by omega) (by omega) (((m + 1) + v55) - (v65 / 149))) rfl ?_)
      rintro e w73 ⟨v75, t76, s77, rfl, hb78, ht79, hk74⟩
      refine ⟨_, rfl, ?_⟩
      have hz80 := hk74.size
      have hB81 := hB72.step hk74 (fun i_ hi_ e' => e')
      refine SR.lit (vs := [.agg (List.toArray [.int .i64 v75.Month, .int .i64 v75.Lent, .int .i64 v75.Copied, .int .i64 v75.Given, .int .i64 v75.Fines])]) (L := ([v75] : List LibRow)) (enc := encLibRow) tel24 (fun _ => rfl) rfl rfl rfl (by decide) ?_
      intro g82 w83 hg84 hk85 hO86
      have hz87 := hk85.size
      have hB88 := hB81.lo hk85
      have hd89 : ¬ A37 = some ⟨g82, 0, none⟩ := fun e' => by have := ((((hO45).kp hk54 (fun b_ hb e' => hd47 (by have e'' : b_ = gc := e'; rw [← e'']; exact hb))).kp hk64 (fun b_ hb e' => hd47 (by have e'' : b_ = gc := e'; rw [← e'']; exact hb))).kp hk74 (fun b_ hb e' => hd47 (by have e'' : b_ = gc := e'; rw [← e'']; exact hb))).base_le e'; omega
      refine SR.app tel24 rfl rfl (((((hO45).kp hk54 (fun b_ hb e' => hd47 (by have e'' : b_ = gc := e'; rw [← e'']; exact hb))).kp hk64 (fun b_ hb e' => hd47 (by have e'' : b_ = gc := e'; rw [← e'']; exact hb))).kp hk74 (fun b_ hb e' => hd47 (by have e'' : b_ = gc := e'; rw [← e'']; exact hb))).lo hk85) ((hO86).rd) (fun _ => rfl) (by omega) (by omega) ?_
      intro A90 c91 w92 hk93 hO94 hN95
      have hz96 := hk93.size
      have hB97 := hB88.step hk93 (fun i_ hi_ e' => by have := ((((((hO45).kp hk54 (fun b_ hb e' => hd47 (by have e'' : b_ = gc := e'; rw [← e'']; exact hb))).kp hk64 (fun b_ hb e' => hd47 (by have e'' : b_ = gc := e'; rw [← e'']; exact hb))).kp hk74 (fun b_ hb e' => hd47 (by have e'' : b_ = gc := e'; rw [← e'']; exact hb))).lo hk85)).base_le e'; first | omega | (exfalso; omega) | exact e' | exact .inl e' | exact .inr e')
      have hd98 : ¬ A90 = some ⟨gc, 0, none⟩ := fun e' => (hN95 gc e').elim (fun h => hd47 (h.trans e')) (fun h => by have := ((hb78).lo hk85).lt; omega)
      refine SR.q' (r_as (v := .slice _ _ _) rfl) <| SR.nil ?_
      refine W.regS (SR.q' (r_mv (v := .int .i64 _) rfl) <| SR.q' (r_sub rfl rfl (by omega)) <| SR.q' (r_as (v := .int .i64 _) rfl) <| SR.nil ?_)
      refine ⟨(n - 1, ((m + 1) + v55) - (v65 / 149), R ++ ([v75] : List LibRow), t76, s77, A90, n37 + 1, c91), _, rfl, ⟨rfl, rfl, rfl, rfl, rfl, trivial⟩, (show (Kp (fun b_ => b_ = gc) w w92) ∧ (Blk w92 gc ec [.slice Ac nc cc, .int .i64 t76, .int .u64 s77]) ∧ (SlR w92 Bc encB 1 Ac nc cc Lc) ∧ (SlO w92 w.heap.size encLibRow 5 29 A90 (n37 + 1) c91 (R ++ ([v75] : List LibRow))) ∧ (¬ A90 = some ⟨gc, 0, none⟩) ∧ (((0 ≤ n - 1 ∧ n - 1 ≤ 6) ∧ -10 ≤ ((m + 1) + v55) - (v65 / 149) ∧ ((m + 1) + v55) - (v65 / 149) ≤ 1180 + 3 * (6 - (n - 1))) ∧ ((R ++ ([v75] : List LibRow)).length : Int) + (n - 1) ≤ 6 ∧ tc ≤ t76 ∧ t76 ≤ tc + 4 + 18 * (6 - (n - 1))) from ⟨hB97, (((hb78).lo hk85).kp hk93 (fun e' => hd47 e')), (((((hm44).kp hk54 (fun b_ hb e' => by have e'' : b_ = gc := e'; omega)).kp hk64 (fun b_ hb e' => by have e'' : b_ = gc := e'; omega)).kp hk74 (fun b_ hb e' => by have e'' : b_ = gc := e'; omega)).lo hk85).kp hk93 (fun b_ hb e' => by have := ((((((hO45).kp hk54 (fun b_ hb e' => hd47 (by have e'' : b_ = gc := e'; rw [← e'']; exact hb))).kp hk64 (fun b_ hb e' => hd47 (by have e'' : b_ = gc := e'; rw [← e'']; exact hb))).kp hk74 (fun b_ hb e' => hd47 (by have e'' : b_ = gc := e'; rw [← e'']; exact hb))).lo hk85)).base_le e'; omega), (hO94), hd98, ?_⟩), ?_⟩
      · exact (z_c___spec_l1Cur__libRows_100 Lc tc sc nc htc hbdc hlec v18 t19 s20 ht22 hq23 hq26 v29 t30 s31 ht33 hq34 n m R t z n37 c37 hi46 hl49 hq51 h52 v55 t56 s57 ht59 hq60 v65 t66 s67 ht69 hq70 v75 t76 s77 ht79)
      · exact (z_c___spec_l1Cur__libRows_101 Lc tc sc nc htc hbdc hlec v18 t19 s20 ht22 hq23 hq26 v29 t30 s31 ht33 hq34 n m R t z n37 c37 hi46 hl49 hq51 h52 v55 t56 s57 ht59 hq60 v65 t66 s67 ht69 hq70 v75 t76 s77 ht79)
    · refine W.exit (xin_here ?_)
      refine W.seq ?_
      refine W.seq ?_
      refine W.regS (SR.q' (r_mv (v := .pointer (some _)) rfl) <| SR.call ent37 (c___spec_l1Cur__one w40 Lc t z (hm43) ((hm44)) (by omega) (by omega) 24 (by first | omega | (simp only [List.length_append, List.length_cons, List.length_nil, List.length_take, List.length_drop]; omega))) rfl ?_)
      rintro e w102 ⟨v104, t105, s106, rfl, hb107, ht108, hk103⟩
      refine ⟨_, rfl, ?_⟩
      have hz109 := hk103.size
      have hB110 := hB41.step hk103 (fun i_ hi_ e' => e')
      refine SR.nil ?_
      refine W.cond_b rfl (fun h111 => ?_) (fun h111 => ?_)
      · refine W.seq ?_
        refine W.regS (SR.lit (vs := []) (L := ([] : List LibRow)) (enc := encLibRow) tel24 (fun _ => rfl) rfl rfl rfl (by decide) ?_)
        intro g112 w113 hg114 hk115 hO116
        have hz117 := hk115.size
        have hB118 := hB110.lo hk115
        have hd119 : ¬ A37 = some ⟨g112, 0, none⟩ := fun e' => by have := ((hO45).kp hk103 (fun b_ hb e' => hd47 (by have e'' : b_ = gc := e'; rw [← e'']; exact hb))).base_le e'; omega
        refine SR.q' (r_as (v := .slice _ _ _) rfl) <| SR.nil ?_
        refine W.seq ?_
        refine W.regS (SR.q' (r_as (v := .int .i64 0) rfl) <| SR.nil ?_)
        refine W.block ?_
        refine W.loop (σ := Nat × (List LibRow) × Int × Int × (Option Addr) × Nat × Nat) (fun g => [(0, .pointer (some ((⟨gc, 0, none⟩ : Addr)))), (2, .slice none 0 0), (3, .slice g.2.2.2.2.1 g.2.2.2.2.2.1 g.2.2.2.2.2.2), (6, .int .i64 (g.1 : Int))]) (fun g w' => (Kp (fun b_ => b_ = gc) w w') ∧ (Blk w' gc ec [.slice Ac nc cc, .int .i64 g.2.2.1, .int .u64 g.2.2.2.1]) ∧ (SlR w' Bc encB 1 Ac nc cc Lc) ∧ (SlO w' w.heap.size encLibRow 5 29 g.2.2.2.2.1 g.2.2.2.2.2.1 g.2.2.2.2.2.2 g.2.1) ∧ (¬ g.2.2.2.2.1 = some ⟨gc, 0, none⟩) ∧ (g.1 ≤ 13 ∧ g.2.1.length ≤ g.1 ∧ tc ≤ g.2.2.1 ∧ g.2.2.1 ≤ tc + 120 + 2 * (g.1 : Int))) (fun g => 20 - g.1) (0, ([] : List LibRow), t105, s106, (some (⟨g112, 0, none⟩ : Addr)), 0, 0) ?_ ?_ ?_
        · exact ⟨rfl, rfl, rfl, (eI (by first | (first | rfl | omega) | (dsimp only; (first | rfl | omega)))), trivial⟩
        · show (Kp (fun b_ => b_ = gc) w w113) ∧ (Blk w113 gc ec [.slice Ac nc cc, .int .i64 t105, .int .u64 s106]) ∧ (SlR w113 Bc encB 1 Ac nc cc Lc) ∧ (SlO w113 w.heap.size encLibRow 5 29 (some (⟨g112, 0, none⟩ : Addr)) 0 0 ([] : List LibRow)) ∧ (¬ (some (⟨g112, 0, none⟩ : Addr)) = some ⟨gc, 0, none⟩) ∧ (0 ≤ 13 ∧ ([] : List LibRow).length ≤ 0 ∧ tc ≤ t105 ∧ t105 ≤ tc + 120 + 2 * (0 : Int))
          exact ⟨hB118, ((hb107).lo hk115), ((hm44).kp hk103 (fun b_ hb e' => by have e'' : b_ = gc := e'; omega)).lo hk115, ((hO116).down (by omega)), (fun e' => by have := (hO116).base_le e'; omega), (z_c___spec_l1Cur__libRows_121 Lc tc sc nc htc hbdc hlec v18 t19 s20 ht22 hq23 hq26 v29 t30 s31 ht33 hq34 n m R t z n37 c37 hi46 hl49 hq51 h52 v104 t105 s106 ht108 h111)⟩
        · rintro ⟨k, Q, t2, z2, A120, n120, c120⟩ f122 w123 hP125
          obtain ⟨hB124, hm126, hm127, hO128, hd130, hi129⟩ : (Kp (fun b_ => b_ = gc) w w123) ∧ (Blk w123 gc ec [.slice Ac nc cc, .int .i64 t2, .int .u64 z2]) ∧ (SlR w123 Bc encB 1 Ac nc cc Lc) ∧ (SlO w123 w.heap.size encLibRow 5 29 A120 n120 c120 Q) ∧ (¬ A120 = some ⟨gc, 0, none⟩) ∧ (k ≤ 13 ∧ Q.length ≤ k ∧ tc ≤ t2 ∧ t2 ≤ tc + 120 + 2 * (k : Int)) := hP125
          refine (?_ : W _ _ _ _ _ (act _ (sets f122 [(0, .pointer (some ((⟨gc, 0, none⟩ : Addr)))), (2, .slice none 0 0), (3, .slice A120 n120 c120), (6, .int .i64 (k : Int))])) _)
          have hzw123 := hB124.size
          have hl131 := hm126.lt
          have hl132 := hO128.len
          have hl133 := hO128.rd.bound
          have hq134 : k ≤ 13 ∧ Q.length ≤ k ∧ tc ≤ t2 ∧ t2 ≤ tc + 120 + 2 * (k : Int) := hi129
          refine W.seq ?_
          refine W.seq ?_
          refine W.regS (SR.q' (r_mv (v := .int .i64 _) rfl) <| SR.q' (r_mv (v := .pointer (some _)) rfl) <| SR.call ent35 (c___spec_l1Cur__pick w123 Lc t2 z2 (hm126) ((hm127)) (by omega) (by omega) 2 (by first | omega | (simp only [List.length_append, List.length_cons, List.length_nil, List.length_take, List.length_drop]; omega))) rfl ?_)
          rintro e w135 ⟨v137, t138, s139, rfl, hb140, ht141, hq142, hk136⟩
          refine ⟨_, rfl, ?_⟩
          have hz143 := hk136.size
          have hB144 := hB124.step hk136 (fun i_ hi_ e' => e')
          refine SR.q' (r_add rfl rfl (by omega)) <| SR.q' (r_lt rfl rfl) <| SR.nil ?_
          refine W.cond_d rfl (fun h145 => ?_) (fun h145 => ?_)
          · refine W.skip ?_
            refine W.seq ?_
            refine W.block ?_
            refine W.regS (SR.q' (r_mv (v := .slice _ _ _) rfl) <| SR.q' (r_mv (v := .int .i64 _) rfl) <| SR.q' (r_add rfl rfl (by omega)) <| SR.q' (r_mv (v := .int .i64 _) rfl) <| SR.q' (r_rem rfl rfl (by omega)) <| SR.q' (r_mul rfl rfl (by omega)) <| SR.q' (r_mv (v := .int .i64 _) rfl) <| SR.q' (r_build (vs := [(0, .int .i64 ((k : Int) + 1)), (1, .int .i64 (10 * ((k : Int) % 5))), (2, .int .i64 (k : Int))]) rfl (bld29_0_1_2 _ _ _)) <| SR.lit (vs := [.agg (List.toArray [.int .i64 ((k : Int) + 1), .int .i64 (10 * ((k : Int) % 5)), .int .i64 (k : Int), .int .i64 0, .int .i64 0])]) (L := ([(⟨(k : Int) + 1, 10 * ((k : Int) % 5), (k : Int), 0, 0⟩ : LibRow)] : List LibRow)) (enc := encLibRow) tel24 (fun _ => rfl) rfl rfl rfl (by decide) ?_)
            intro g146 w147 hg148 hk149 hO150
            have hz151 := hk149.size
            have hB152 := hB144.lo hk149
            have hd153 : ¬ A120 = some ⟨g146, 0, none⟩ := fun e' => by have := ((hO128).kp hk136 (fun b_ hb e' => hd130 (by have e'' : b_ = gc := e'; rw [← e'']; exact hb))).base_le e'; omega
            refine SR.app tel24 rfl rfl (((hO128).kp hk136 (fun b_ hb e' => hd130 (by have e'' : b_ = gc := e'; rw [← e'']; exact hb))).lo hk149) ((hO150).rd) (fun _ => rfl) (by omega) (by omega) ?_
            intro A154 c155 w156 hk157 hO158 hN159
            have hz160 := hk157.size
            have hB161 := hB152.step hk157 (fun i_ hi_ e' => by have := ((((hO128).kp hk136 (fun b_ hb e' => hd130 (by have e'' : b_ = gc := e'; rw [← e'']; exact hb))).lo hk149)).base_le e'; first | omega | (exfalso; omega) | exact e' | exact .inl e' | exact .inr e')
            have hd162 : ¬ A154 = some ⟨gc, 0, none⟩ := fun e' => (hN159 gc e').elim (fun h => hd130 (h.trans e')) (fun h => by have := ((hb140).lo hk149).lt; omega)
            refine SR.q' (r_as (v := .slice _ _ _) rfl) <| SR.nil ?_
            refine W.regS (SR.q' (r_mv (v := .int .i64 _) rfl) <| SR.q' (r_add rfl rfl (by omega)) <| SR.q' (r_as (v := .int .i64 _) rfl) <| SR.nil ?_)
            refine ⟨((k + 1), Q ++ ([(⟨(k : Int) + 1, 10 * ((k : Int) % 5), (k : Int), 0, 0⟩ : LibRow)] : List LibRow), t138, s139, A154, n120 + 1, c155), _, rfl, ⟨rfl, rfl, rfl, (eI (by first | (first | rfl | omega) | (dsimp only; (first | rfl | omega)))), trivial⟩, (show (Kp (fun b_ => b_ = gc) w w156) ∧ (Blk w156 gc ec [.slice Ac nc cc, .int .i64 t138, .int .u64 s139]) ∧ (SlR w156 Bc encB 1 Ac nc cc Lc) ∧ (SlO w156 w.heap.size encLibRow 5 29 A154 (n120 + 1) c155 (Q ++ ([(⟨(k : Int) + 1, 10 * ((k : Int) % 5), (k : Int), 0, 0⟩ : LibRow)] : List LibRow))) ∧ (¬ A154 = some ⟨gc, 0, none⟩) ∧ ((k + 1) ≤ 13 ∧ (Q ++ ([(⟨(k : Int) + 1, 10 * ((k : Int) % 5), (k : Int), 0, 0⟩ : LibRow)] : List LibRow)).length ≤ (k + 1) ∧ tc ≤ t138 ∧ t138 ≤ tc + 120 + 2 * ((k + 1) : Int)) from ⟨hB161, (((hb140).lo hk149).kp hk157 (fun e' => hd130 e')), (((hm127).kp hk136 (fun b_ hb e' => by have e'' : b_ = gc := e'; omega)).lo hk149).kp hk157 (fun b_ hb e' => by have := ((((hO128).kp hk136 (fun b_ hb e' => hd130 (by have e'' : b_ = gc := e'; rw [← e'']; exact hb))).lo hk149)).base_le e'; omega), (hO158), hd162, ?_⟩), ?_⟩
            · exact (z_c___spec_l1Cur__libRows_164 Lc tc sc nc htc hbdc hlec v18 t19 s20 ht22 hq23 hq26 v29 t30 s31 ht33 hq34 n m R t z n37 c37 hi46 hl49 hq51 h52 v104 t105 s106 ht108 h111 k Q t2 z2 n120 c120 hi129 hl132 hq134 v137 t138 s139 ht141 hq142 h145)
            · exact (z_c___spec_l1Cur__libRows_165 Lc tc sc nc htc hbdc hlec v18 t19 s20 ht22 hq23 hq26 v29 t30 s31 ht33 hq34 n m R t z n37 c37 hi46 hl49 hq51 h52 v104 t105 s106 ht108 h111 k Q t2 z2 n120 c120 hi129 hl132 hq134 v137 t138 s139 ht141 hq142 h145)
          · refine W.exit (xin_here ?_)
            refine W.seq ?_
            refine W.regS (SR.q' (r_mv (v := .slice _ _ _) rfl) <| SR.q' (r_as (v := .slice _ _ _) rfl) <| SR.nil ?_)
            refine W.ret ?_
            refine ret1 rfl (v := .slice _ _ _) rfl ?_
            exact ⟨A120, n120, c120, Q, t138, s139, eR rfl, (((hO128).kp hk136 (fun b_ hb e' => hd130 (by have e'' : b_ = gc := e'; rw [← e'']; exact hb))).down (by omega)), (hb140), ⟨by omega, by omega⟩, (z_c___spec_l1Cur__libRows_166 Lc tc sc nc htc hbdc hlec v18 t19 s20 ht22 hq23 hq26 v29 t30 s31 ht33 hq34 n m R t z n37 c37 hi46 hl49 hq51 h52 v104 t105 s106 ht108 h111 k Q t2 z2 n120 c120 hi129 hl132 hq134 v137 t138 s139 ht141 hq142 h145), hB144⟩
      · refine W.skip ?_
        refine W.seq ?_
        refine W.regS (SR.q' (r_mv (v := .slice _ _ _) rfl) <| SR.q' (r_as (v := .slice _ _ _) rfl) <| SR.nil ?_)
        refine W.ret ?_
        refine ret1 rfl (v := .slice _ _ _) rfl ?_
        exact ⟨A37, n37, c37, R, t105, s106, eR rfl, (((hO45).kp hk103 (fun b_ hb e' => hd47 (by have e'' : b_ = gc := e'; rw [← e'']; exact hb))).down (by omega)), (hb107), ⟨by omega, by omega⟩, (z_c___spec_l1Cur__libRows_167 Lc tc sc nc htc hbdc hlec v18 t19 s20 ht22 hq23 hq26 v29 t30 s31 ht33 hq34 n m R t z n37 c37 hi46 hl49 hq51 h52 v104 t105 s106 ht108 h111), hB110⟩

theorem z_c_spec_DrawAreLibRows_25 (L : List UInt8) (nL : Nat) (hbdL : (nL : Int) ≤ 9223372036854775807) (hleL : nL = L.length) (hp0 : (nL : Int) ≤ 65536) (v15 : List LibRow) (t16 : Int) (s17 : Int) (ht19 : 0 ≤ t16 ∧ t16 ≤ 0 + 160) (hq20 : v15.length ≤ 60) (n12 : Nat) (hl23 : n12 = (v15).length) (hl24 : (n12 : Int) ≤ 9223372036854775807) : v15.length ≤ 60 := by
  omega
theorem c_spec_DrawAreLibRows (w : World) {AL : Option Addr} {nL cL BL : Nat}  (L : List UInt8) (hL : SlR w BL encB 1 AL nL cL L) (hp0 : (nL : Int) ≤ 65536) : Calls Try.prog 19 #[.slice AL nL cL] w fun e w' => ∃ (A1' : Option Addr) (n1' c1' : Nat) (R : List LibRow), e = .returned (.slice A1' n1' c1') ∧ SlO w' w.heap.size encLibRow 5 29 A1' n1' c1' R ∧ (R.length ≤ 60) ∧ Lo w w' := by
  refine calls_W 9 Try.func19 rfl rfl rfl ?_
  have hbdL := hL.bound
  have hleL := hL.len
  have hBbL := hL.bd
  refine W.seq ?_
  refine W.regS (SR.q' (r_as (v := .slice none 0 0) rfl) <| SR.nil ?_)
  refine W.seq ?_
  refine W.regS (SR.q' (r_mv (v := .slice _ _ _) rfl) <| SR.q' (r_build (vs := [(0, .slice AL nL cL)]) rfl (bld45_0 _ _ _)) <| SR.box (v := .agg (List.toArray _)) (l := [.slice AL nL cL, .int .i64 0, .int .u64 0]) rfl rfl ?_)
  intro g1 w2 hg3 hk4 hs5 hb6
  have hz7 := hk4.size
  have hB8 := (Lo.refl w).lo hk4
  refine SR.q' (r_as (v := .pointer (some _)) rfl) <| SR.nil ?_
  refine W.seq ?_
  refine W.regS (SR.q' (r_mv (v := .pointer (some _)) rfl) <| SR.call ent27 (c___spec_l1Cur__libRows w2 L 0 0 (hb6) (((hL).lo hk4)) (by omega) (by omega)) rfl ?_)
  rintro e w9 ⟨A11, n12, c13, v15, t16, s17, rfl, hO14, hb18, ht19, hq20, hk10⟩
  refine ⟨_, rfl, ?_⟩
  have hz21 := hk10.size
  have hB22 := hB8.new hk10 (by omega)
  have hl23 := hO14.len
  have hl24 := hO14.rd.bound
  refine SR.q' (r_as (v := .slice _ _ _) rfl) <| SR.nil ?_
  refine W.ret ?_
  refine ret1 rfl (v := .slice _ _ _) rfl ?_
  exact ⟨A11, n12, c13, v15, eR rfl, ((hO14).down (by omega)), (z_c_spec_DrawAreLibRows_25 L nL hbdL hleL hp0 v15 t16 s17 ht19 hq20 n12 hl23 hl24), hB22⟩

theorem z_c_spec_DrawMedianLent_13 (L : List UInt8) (nL : Nat) (hbdL : (nL : Int) ≤ 9223372036854775807) (hleL : nL = L.length) (hp0 : (nL : Int) ≤ 65536) (v7 : List LibRow) (hq8 : v7.length ≤ 60) (n4 : Nat) (hl11 : n4 = (v7).length) (hl12 : (n4 : Int) ≤ 9223372036854775807) : v7.length ≤ 60 := by
  omega
theorem c_spec_DrawMedianLent (w : World) {AL : Option Addr} {nL cL BL : Nat}  (L : List UInt8) (hL : SlR w BL encB 1 AL nL cL L) (hp0 : (nL : Int) ≤ 65536) : Calls Try.prog 5 #[.slice AL nL cL] w fun e w' => ∃ (A1' : Option Addr) (n1' c1' : Nat) (R : List LibRow), e = .returned (.slice A1' n1' c1') ∧ SlO w' w.heap.size encLibRow 5 29 A1' n1' c1' R ∧ (R.length ≤ 60) ∧ Lo w w' := by
  refine calls_W 5 Try.func5 rfl rfl rfl ?_
  have hbdL := hL.bound
  have hleL := hL.len
  have hBbL := hL.bd
  refine W.seq ?_
  refine W.regS (SR.q' (r_as (v := .slice none 0 0) rfl) <| SR.nil ?_)
  refine W.seq ?_
  refine W.regS (SR.q' (r_mv (v := .slice _ _ _) rfl) <| SR.call ent19 (c_spec_DrawAreLibRows w L ((hL)) (by omega)) rfl ?_)
  rintro e w1 ⟨A3, n4, c5, v7, rfl, hO6, hq8, hk2⟩
  refine ⟨_, rfl, ?_⟩
  have hz9 := hk2.size
  have hB10 := (Lo.refl w).lo hk2
  have hl11 := hO6.len
  have hl12 := hO6.rd.bound
  refine SR.q' (r_as (v := .slice _ _ _) rfl) <| SR.nil ?_
  refine W.ret ?_
  refine ret1 rfl (v := .slice _ _ _) rfl ?_
  exact ⟨A3, n4, c5, v7, eR rfl, ((hO6).down (by omega)), (z_c_spec_DrawMedianLent_13 L nL hbdL hleL hp0 v7 hq8 n4 hl11 hl12), hB10⟩

theorem z_c_spec_DrawGrowthOf_13 (L : List UInt8) (nL : Nat) (hbdL : (nL : Int) ≤ 9223372036854775807) (hleL : nL = L.length) (hp0 : (nL : Int) ≤ 65536) (v7 : List LibRow) (hq8 : v7.length ≤ 60) (n4 : Nat) (hl11 : n4 = (v7).length) (hl12 : (n4 : Int) ≤ 9223372036854775807) : v7.length ≤ 60 := by
  omega
theorem c_spec_DrawGrowthOf (w : World) {AL : Option Addr} {nL cL BL : Nat}  (L : List UInt8) (hL : SlR w BL encB 1 AL nL cL L) (hp0 : (nL : Int) ≤ 65536) : Calls Try.prog 8 #[.slice AL nL cL] w fun e w' => ∃ (A1' : Option Addr) (n1' c1' : Nat) (R : List LibRow), e = .returned (.slice A1' n1' c1') ∧ SlO w' w.heap.size encLibRow 5 29 A1' n1' c1' R ∧ (R.length ≤ 60) ∧ Lo w w' := by
  refine calls_W 5 Try.func8 rfl rfl rfl ?_
  have hbdL := hL.bound
  have hleL := hL.len
  have hBbL := hL.bd
  refine W.seq ?_
  refine W.regS (SR.q' (r_as (v := .slice none 0 0) rfl) <| SR.nil ?_)
  refine W.seq ?_
  refine W.regS (SR.q' (r_mv (v := .slice _ _ _) rfl) <| SR.call ent19 (c_spec_DrawAreLibRows w L ((hL)) (by omega)) rfl ?_)
  rintro e w1 ⟨A3, n4, c5, v7, rfl, hO6, hq8, hk2⟩
  refine ⟨_, rfl, ?_⟩
  have hz9 := hk2.size
  have hB10 := (Lo.refl w).lo hk2
  have hl11 := hO6.len
  have hl12 := hO6.rd.bound
  refine SR.q' (r_as (v := .slice _ _ _) rfl) <| SR.nil ?_
  refine W.ret ?_
  refine ret1 rfl (v := .slice _ _ _) rfl ?_
  exact ⟨A3, n4, c5, v7, eR rfl, ((hO6).down (by omega)), (z_c_spec_DrawGrowthOf_13 L nL hbdL hleL hp0 v7 hq8 n4 hl11 hl12), hB10⟩

theorem z_c_spec_DrawBestRun_13 (L : List UInt8) (nL : Nat) (hbdL : (nL : Int) ≤ 9223372036854775807) (hleL : nL = L.length) (hp0 : (nL : Int) ≤ 65536) (v7 : List LibRow) (hq8 : v7.length ≤ 60) (n4 : Nat) (hl11 : n4 = (v7).length) (hl12 : (n4 : Int) ≤ 9223372036854775807) : v7.length ≤ 60 := by
  omega
theorem c_spec_DrawBestRun (w : World) {AL : Option Addr} {nL cL BL : Nat}  (L : List UInt8) (hL : SlR w BL encB 1 AL nL cL L) (hp0 : (nL : Int) ≤ 65536) : Calls Try.prog 11 #[.slice AL nL cL] w fun e w' => ∃ (A1' : Option Addr) (n1' c1' : Nat) (R : List LibRow), e = .returned (.slice A1' n1' c1') ∧ SlO w' w.heap.size encLibRow 5 29 A1' n1' c1' R ∧ (R.length ≤ 60) ∧ Lo w w' := by
  refine calls_W 5 Try.func11 rfl rfl rfl ?_
  have hbdL := hL.bound
  have hleL := hL.len
  have hBbL := hL.bd
  refine W.seq ?_
  refine W.regS (SR.q' (r_as (v := .slice none 0 0) rfl) <| SR.nil ?_)
  refine W.seq ?_
  refine W.regS (SR.q' (r_mv (v := .slice _ _ _) rfl) <| SR.call ent19 (c_spec_DrawAreLibRows w L ((hL)) (by omega)) rfl ?_)
  rintro e w1 ⟨A3, n4, c5, v7, rfl, hO6, hq8, hk2⟩
  refine ⟨_, rfl, ?_⟩
  have hz9 := hk2.size
  have hB10 := (Lo.refl w).lo hk2
  have hl11 := hO6.len
  have hl12 := hO6.rd.bound
  refine SR.q' (r_as (v := .slice _ _ _) rfl) <| SR.nil ?_
  refine W.ret ?_
  refine ret1 rfl (v := .slice _ _ _) rfl ?_
  exact ⟨A3, n4, c5, v7, eR rfl, ((hO6).down (by omega)), (z_c_spec_DrawBestRun_13 L nL hbdL hleL hp0 v7 hq8 n4 hl11 hl12), hB10⟩

theorem z_c_laws_rBig_1 (L : List UInt8) (nL : Nat) (hbdL : (nL : Int) ≤ 9223372036854775807) (hleL : nL = L.length) : (65536 < (nL : Int)) ↔ (65536 < (L.length : Int)) := by
  omega
theorem c_laws_rBig (w : World) {AL : Option Addr} {nL cL BL : Nat}  (L : List UInt8) (hL : SlR w BL encB 1 AL nL cL L) : Calls Try.prog 4 #[.slice AL nL cL] w fun e w' => e = .returned (.bool (decide (65536 < (L.length : Int)))) ∧ Lo w w' := by
  refine calls_W 6 Try.func4 rfl rfl rfl ?_
  have hbdL := hL.bound
  have hleL := hL.len
  have hBbL := hL.bd
  refine W.seq ?_
  refine W.regS (SR.q' (r_as (v := .bool false) rfl) <| SR.nil ?_)
  refine W.seq ?_
  refine W.regS (SR.q' (r_mv (v := .slice _ _ _) rfl) <| SR.q' (r_len und22 rfl) <| SR.q' (r_gt rfl rfl) <| SR.q' (r_as (v := .bool _) rfl) <| SR.nil ?_)
  refine W.ret ?_
  refine ret1 rfl (v := .bool _) rfl ?_
  exact ⟨eR (eDD (z_c_laws_rBig_1 L nL hbdL hleL)), (Lo.refl w)⟩

theorem z_c_laws_rInts_2 (L : List Int) (nL : Nat) (hbdL : (nL : Int) ≤ 9223372036854775807) (hleL : nL = L.length) (M : List Int) (nM : Nat) (hbdM : (nM : Int) ≤ 9223372036854775807) (hleM : nM = M.length) (h1 : ¬ ((nL : Int) = (nM : Int))) : ¬ (L = M) := by
  first | (intro e; subst e; omega) | exact ne_at ‹L[_]? = some _› ‹M[_]? = some _› ‹_› | exact take_end (And.right ‹_ ∧ L.take _ = M.take _›) hleL hleM (by omega) ‹_›
theorem z_c_laws_rInts_3 (L : List Int) (nL : Nat) (hbdL : (nL : Int) ≤ 9223372036854775807) (hleL : nL = L.length) (M : List Int) (nM : Nat) (hbdM : (nM : Int) ≤ 9223372036854775807) (hleM : nM = M.length) (h1 : (nL : Int) = (nM : Int)) : 0 ≤ nL ∧ L.take 0 = M.take 0 := by
  simp
theorem z_c_laws_rInts_21 (L : List Int) (nL : Nat) (hbdL : (nL : Int) ≤ 9223372036854775807) (hleL : nL = L.length) (M : List Int) (nM : Nat) (hbdM : (nM : Int) ≤ 9223372036854775807) (hleM : nM = M.length) (h1 : (nL : Int) = (nM : Int)) (k : Nat) (hi10 : k ≤ nL ∧ L.take k = M.take k) (h11 : (k : Int) < (nL : Int)) (hx13 : L[k]? = some (gt L k)) (hx15 : M[k]? = some (gt M k)) (h20 : ¬ ((gt L k) = (gt M k))) : ¬ (L = M) := by
  first | (intro e; subst e; omega) | exact ne_at ‹L[_]? = some _› ‹M[_]? = some _› ‹_› | exact take_end (And.right ‹_ ∧ L.take _ = M.take _›) hleL hleM (by omega) ‹_›
theorem z_c_laws_rInts_22 (L : List Int) (nL : Nat) (hbdL : (nL : Int) ≤ 9223372036854775807) (hleL : nL = L.length) (M : List Int) (nM : Nat) (hbdM : (nM : Int) ≤ 9223372036854775807) (hleM : nM = M.length) (h1 : (nL : Int) = (nM : Int)) (k : Nat) (hi10 : k ≤ nL ∧ L.take k = M.take k) (h11 : (k : Int) < (nL : Int)) (hx13 : L[k]? = some (gt L k)) (hx15 : M[k]? = some (gt M k)) (h20 : (gt L k) = (gt M k)) : k + 1 ≤ nL ∧ L.take (k + 1) = M.take (k + 1) := by
  exact ⟨by omega, take_next (And.right ‹_ ∧ L.take _ = M.take _›) ‹L[_]? = some _› ‹M[_]? = some _› (by assumption)⟩
theorem z_c_laws_rInts_23 (L : List Int) (nL : Nat) (hbdL : (nL : Int) ≤ 9223372036854775807) (hleL : nL = L.length) (M : List Int) (nM : Nat) (hbdM : (nM : Int) ≤ 9223372036854775807) (hleM : nM = M.length) (h1 : (nL : Int) = (nM : Int)) (k : Nat) (hi10 : k ≤ nL ∧ L.take k = M.take k) (h11 : (k : Int) < (nL : Int)) (hx13 : L[k]? = some (gt L k)) (hx15 : M[k]? = some (gt M k)) (h20 : (gt L k) = (gt M k)) : nL - (k + 1) < nL - k := by
  omega
theorem z_c_laws_rInts_24 (L : List Int) (nL : Nat) (hbdL : (nL : Int) ≤ 9223372036854775807) (hleL : nL = L.length) (M : List Int) (nM : Nat) (hbdM : (nM : Int) ≤ 9223372036854775807) (hleM : nM = M.length) (h1 : (nL : Int) = (nM : Int)) (k : Nat) (hi10 : k ≤ nL ∧ L.take k = M.take k) (h11 : ¬ ((k : Int) < (nL : Int))) : L = M := by
  first | (intro e; subst e; omega) | exact ne_at ‹L[_]? = some _› ‹M[_]? = some _› ‹_› | exact take_end (And.right ‹_ ∧ L.take _ = M.take _›) hleL hleM (by omega) ‹_›
theorem c_laws_rInts (w : World) {AL : Option Addr} {nL cL BL : Nat}  (L : List Int) (hL : SlR w BL encI 1 AL nL cL L) {AM : Option Addr} {nM cM BM : Nat}  (M : List Int) (hM : SlR w BM encI 1 AM nM cM M) : Calls Try.prog 18 #[.slice AL nL cL, .slice AM nM cM] w fun e w' => e = .returned (.bool (decide (L = M))) ∧ Lo w w' := by
  refine calls_W 26 Try.func18 rfl rfl rfl ?_
  have hbdL := hL.bound
  have hleL := hL.len
  have hBbL := hL.bd
  have hbdM := hM.bound
  have hleM := hM.len
  have hBbM := hM.bd
  refine W.seq ?_
  refine W.regS (SR.q' (r_as (v := .bool false) rfl) <| SR.nil ?_)
  refine W.seq ?_
  refine W.seq ?_
  refine W.regS (SR.q' (r_mv (v := .slice _ _ _) rfl) <| SR.q' (r_len und32 rfl) <| SR.q' (r_mv (v := .slice _ _ _) rfl) <| SR.q' (r_len und32 rfl) <| SR.q' (r_ne rfl rfl) <| SR.nil ?_)
  refine W.cond_n rfl (fun h1 => ?_) (fun h1 => ?_)
  · refine W.seq ?_
    refine W.regS (SR.q' (r_as (v := .bool false) rfl) <| SR.nil ?_)
    refine W.ret ?_
    refine ret1 rfl (v := .bool _) rfl ?_
    exact ⟨eR (eDF (z_c_laws_rInts_2 L nL hbdL hleL M nM hbdM hleM h1)), (Lo.refl w)⟩
  · refine W.skip ?_
    refine W.seq ?_
    refine W.seq ?_
    refine W.regS (SR.q' (r_as (v := .int .i64 0) rfl) <| SR.nil ?_)
    refine W.block ?_
    refine W.loop (σ := Nat) (fun g => [(0, .slice AL nL cL), (1, .slice AM nM cM), (5, .int .i64 (g : Int))]) (fun g w' => (Lo w w') ∧ (SlR w' BL encI 1 AL nL cL L) ∧ (SlR w' BM encI 1 AM nM cM M) ∧ (g ≤ nL ∧ L.take g = M.take g)) (fun g => nL - g) 0 ?_ ?_ ?_
    · exact ⟨rfl, rfl, rfl, trivial⟩
    · exact ⟨(Lo.refl w), hL, hM, (z_c_laws_rInts_3 L nL hbdL hleL M nM hbdM hleM h1)⟩
    · rintro k f4 w5 hP7
      obtain ⟨hB6, hm8, hm9, hi10⟩ : (Lo w w5) ∧ (SlR w5 BL encI 1 AL nL cL L) ∧ (SlR w5 BM encI 1 AM nM cM M) ∧ (k ≤ nL ∧ L.take k = M.take k) := hP7
      refine (?_ : W _ _ _ _ _ (act _ (sets f4 [(0, .slice AL nL cL), (1, .slice AM nM cM), (5, .int .i64 (k : Int))])) _)
      have hzw5 := hB6.size
      refine W.seq ?_
      refine W.seq ?_
      refine W.regS (SR.q' (r_mv (v := .int .i64 _) rfl) <| SR.q' (r_mv (v := .slice _ _ _) rfl) <| SR.q' (r_len und32 rfl) <| SR.q' (r_lt rfl rfl) <| SR.nil ?_)
      refine W.cond_d rfl (fun h11 => ?_) (fun h11 => ?_)
      · refine W.skip ?_
        refine W.seq ?_
        refine W.block ?_
        refine W.seq ?_
        refine W.regD mo (by kernel_rfl) (QR.q' (fun w' hw' => r_mv (v := .slice _ _ _) rfl) <| QR.q' (fun w' hw' => r_mv (v := .int .i64 _) rfl) <| ?_)
        have hx13 := (hm8).elem (i := k) (by omega)
        refine QR.q' (fun w' hw' => r_ixR tsl32 (((hm8).lo hw')) rfl rfl (by omega)) <| QR.q' (fun w' hw' => r_ld (v := .int .i64 (gt L k)) sca3 rfl ((((hm8).lo hw')).cell0 hx13 rfl)) <| QR.q' (fun w' hw' => r_mv (v := .slice _ _ _) rfl) <| QR.q' (fun w' hw' => r_mv (v := .int .i64 _) rfl) <| ?_
        have hx15 := (hm9).elem (i := k) (by omega)
        refine QR.q' (fun w' hw' => r_ixR tsl32 (((hm9).lo hw')) rfl rfl (by omega)) <| QR.q' (fun w' hw' => r_ld (v := .int .i64 (gt M k)) sca3 rfl ((((hm9).lo hw')).cell0 hx15 rfl)) <| QR.q' (fun w' hw' => r_ne rfl rfl) <| QR.nil ?_
        intro w16 hk17
        have hz18 := hk17.size
        have hB19 := hB6.lo hk17
        refine W.cond_n rfl (fun h20 => ?_) (fun h20 => ?_)
        · refine W.seq ?_
          refine W.regS (SR.q' (r_as (v := .bool false) rfl) <| SR.nil ?_)
          refine W.ret ?_
          refine ret1 rfl (v := .bool _) rfl ?_
          exact ⟨eR (eDF (z_c_laws_rInts_21 L nL hbdL hleL M nM hbdM hleM h1 k hi10 h11 hx13 hx15 h20)), hB19⟩
        · refine W.skip ?_
          refine W.regS (SR.q' (r_mv (v := .int .i64 _) rfl) <| SR.q' (r_add rfl rfl (by omega)) <| SR.q' (r_as (v := .int .i64 _) rfl) <| SR.nil ?_)
          refine ⟨k + 1, _, rfl, ⟨rfl, rfl, rfl, trivial⟩, ⟨hB19, (hm8).lo hk17, (hm9).lo hk17, ?_⟩, ?_⟩
          · exact (z_c_laws_rInts_22 L nL hbdL hleL M nM hbdM hleM h1 k hi10 h11 hx13 hx15 h20)
          · exact (z_c_laws_rInts_23 L nL hbdL hleL M nM hbdM hleM h1 k hi10 h11 hx13 hx15 h20)
      · refine W.exit (xin_here ?_)
        refine W.seq ?_
        refine W.regS (SR.q' (r_as (v := .bool true) rfl) <| SR.nil ?_)
        refine W.ret ?_
        refine ret1 rfl (v := .bool _) rfl ?_
        exact ⟨eR (eDT (z_c_laws_rInts_24 L nL hbdL hleL M nM hbdM hleM h1 k hi10 h11)), hB6⟩
end Go.Proofs.Ytmigipacjadpeaa
