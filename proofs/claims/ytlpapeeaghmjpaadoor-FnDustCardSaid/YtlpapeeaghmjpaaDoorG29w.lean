/- Walks, printed by a program of this claim's author. -/
import Derived.Test.YtlpapeeaghmjpaaDoorChecked
import Derived.Test.YtlpapeeaghmjpaaDoorSa
import Derived.Test.YtlpapeeaghmjpaaDoorFu
import Derived.Test.YtlpapeeaghmjpaaDoorFs
import Derived.Test.YtlpapeeaghmjpaaDoorFq
import Derived.Test.YtlpapeeaghmjpaaDoorFo
import Derived.Test.YtlpapeeaghmjpaaDoorSk
import Derived.Test.YtlpapeeaghmjpaaDoorG29h
namespace Go.Proofs.YtlpapeeaghmjpaaDoor
open Go Go.RowKit Fw
set_option maxRecDepth 10000
set_option linter.unusedVariables false
theorem bld48_0 (a0 : Int) : Tryd.prog.built 48 [(0, .int .i64 a0)] = some (List.toArray [.int .i64 a0, .int .i64 0]) := by kernel_rfl
theorem bld48_0_1 (a0 : Int) (a1 : Int) : Tryd.prog.built 48 [(0, .int .i64 a0), (1, .int .i64 a1)] = some (List.toArray [.int .i64 a0, .int .i64 a1]) := by kernel_rfl
theorem ent115 : Ent Tryd.prog 115 := ent_of Tryd.func115 (by decide +kernel) rfl
theorem ent118 : Ent Tryd.prog 118 := ent_of Tryd.func118 (by decide +kernel) rfl
theorem ent54 : Ent Tryd.prog 54 := ent_of Tryd.func54 (by decide +kernel) rfl
theorem ent95 : Ent Tryd.prog 95 := ent_of Tryd.func95 (by decide +kernel) rfl
theorem fa85_0 : FA Tryd.prog 85 0 0 := fun _ _ => by kernel_rfl
theorem fa85_1 : FA Tryd.prog 85 1 1 := fun _ _ => by kernel_rfl
theorem fa85_2 : FA Tryd.prog 85 2 2 := fun _ _ => by kernel_rfl
theorem sca36 : TSca Tryd.prog 36 := ⟨fun _ => by kernel_rfl, fun _ => by kernel_rfl⟩
theorem sca5 : TSca Tryd.prog 5 := ⟨fun _ => by kernel_rfl, fun _ => by kernel_rfl⟩
theorem sca83 : TSca Tryd.prog 83 := ⟨fun _ => by kernel_rfl, fun _ => by kernel_rfl⟩
theorem tsl36 : TSl Tryd.prog 36 5 1 := ⟨by kernel_rfl, fun _ => by kernel_rfl⟩
theorem und3 : Tryd.prog.underlying 3 = some (.int .i64) := by kernel_rfl
theorem und36 : Tryd.prog.underlying 36 = some (.slice 5) := by kernel_rfl
theorem und5 : Tryd.prog.underlying 5 = some (.int .u8) := by kernel_rfl
theorem und83 : Tryd.prog.underlying 83 = some (.int .u64) := by kernel_rfl

theorem z_c___spec_l1Cur__next_30 (Lc : List UInt8) (tc : Int) (sc : Int) (nc : Nat) (htc : 0 ≤ tc ∧ tc + 1 ≤ 4611686018427387904) (hbdc : (nc : Int) ≤ 9223372036854775807) (hlec : nc = Lc.length) (h5 : tc < (nc : Int)) (hx7 : Lc[tc.toNat]? = some (gt Lc tc.toNat)) (hq8 : ((gt Lc tc.toNat).toNat : Int) ≤ 255) (h29 : (tc + 1) ≤ (nc : Int)) : (0 : Int) ≤ ((gt Lc tc.toNat).toNat : Int) ∧ (((gt Lc tc.toNat).toNat : Int) : Int) ≤ 255 := by
  omega
theorem z_c___spec_l1Cur__next_31 (Lc : List UInt8) (tc : Int) (sc : Int) (nc : Nat) (htc : 0 ≤ tc ∧ tc + 1 ≤ 4611686018427387904) (hbdc : (nc : Int) ≤ 9223372036854775807) (hlec : nc = Lc.length) (h5 : tc < (nc : Int)) (hx7 : Lc[tc.toNat]? = some (gt Lc tc.toNat)) (hq8 : ((gt Lc tc.toNat).toNat : Int) ≤ 255) (h29 : ¬ ((tc + 1) ≤ (nc : Int))) : (0 : Int) ≤ (((IntKind.u64.wrap ((IntKind.u64.wrap ((IntKind.u64.wrap (sc * 6364136223846793005)) + ((gt Lc tc.toNat).toNat : Int))) + 604171)) / 1099511627776) % 256) ∧ ((((IntKind.u64.wrap ((IntKind.u64.wrap ((IntKind.u64.wrap (sc * 6364136223846793005)) + ((gt Lc tc.toNat).toNat : Int))) + 604171)) / 1099511627776) % 256) : Int) ≤ 255 := by
  omega
theorem z_c___spec_l1Cur__next_49 (Lc : List UInt8) (tc : Int) (sc : Int) (nc : Nat) (htc : 0 ≤ tc ∧ tc + 1 ≤ 4611686018427387904) (hbdc : (nc : Int) ≤ 9223372036854775807) (hlec : nc = Lc.length) (h5 : ¬ (tc < (nc : Int))) (h48 : (tc + 1) ≤ (nc : Int)) : (0 : Int) ≤ 0 ∧ (0 : Int) ≤ 255 := by
  omega
theorem z_c___spec_l1Cur__next_50 (Lc : List UInt8) (tc : Int) (sc : Int) (nc : Nat) (htc : 0 ≤ tc ∧ tc + 1 ≤ 4611686018427387904) (hbdc : (nc : Int) ≤ 9223372036854775807) (hlec : nc = Lc.length) (h5 : ¬ (tc < (nc : Int))) (h48 : ¬ ((tc + 1) ≤ (nc : Int))) : (0 : Int) ≤ (((IntKind.u64.wrap ((IntKind.u64.wrap ((IntKind.u64.wrap (sc * 6364136223846793005)) + 0)) + 604171)) / 1099511627776) % 256) ∧ ((((IntKind.u64.wrap ((IntKind.u64.wrap ((IntKind.u64.wrap (sc * 6364136223846793005)) + 0)) + 604171)) / 1099511627776) % 256) : Int) ≤ 255 := by
  omega
theorem c___spec_l1Cur__next (w : World) {gc ec : Nat} {Ac : Option Addr} {nc cc Bc : Nat} (Lc : List UInt8) (tc sc : Int) (hc : Blk w gc ec [.slice Ac nc cc, .int .i64 tc, .int .u64 sc]) (hLc : SlR w Bc encB 1 Ac nc cc Lc) (hgc : Bc ≤ gc) (htc : 0 ≤ tc ∧ tc + 1 ≤ 4611686018427387904) : Calls Tryd.prog 115 #[.pointer (some ⟨gc, 0, none⟩)] w fun e w' => ∃ (v : Int) (tc' sc' : Int), e = .returned (.int .i64 v) ∧ Blk w' gc ec [.slice Ac nc cc, .int .i64 tc', .int .u64 sc'] ∧ (tc ≤ tc' ∧ tc' ≤ tc + 1) ∧ ((0 : Int) ≤ v ∧ (v : Int) ≤ 255) ∧ Kp (fun b_ => b_ = gc) w w' := by
  refine calls_W 62 Tryd.func115 rfl rfl rfl ?_
  have hBlc := hc.lt
  have hbdc := hLc.bound
  have hlec := hLc.len
  have hBbc := hLc.bd
  refine W.seq ?_
  refine W.regS (SR.q' (r_as (v := .int .i64 0) rfl) <| SR.nil ?_)
  refine W.seq ?_
  refine W.regS (SR.q' (r_as (v := .int .i64 0) rfl) <| SR.nil ?_)
  refine W.seq ?_
  refine W.seq ?_
  refine W.regD mo (by kernel_rfl) (QR.q' (fun w' hw' => r_mv (v := .pointer (some _)) rfl) <| QR.q' (fun w' hw' => r_nilp rfl) <| QR.q' (fun w' hw' => r_fa fa85_1 rfl) <| QR.q' (fun w' hw' => r_ld (v := .int .i64 tc) sca3 rfl (((hc).lo hw').cell rfl)) <| QR.q' (fun w' hw' => r_mv (v := .pointer (some _)) rfl) <| QR.q' (fun w' hw' => r_nilp rfl) <| QR.q' (fun w' hw' => r_fa fa85_0 rfl) <| QR.q' (fun w' hw' => r_ld (v := .slice Ac nc cc) sca36 rfl (((hc).lo hw').cell rfl)) <| QR.q' (fun w' hw' => r_len und36 rfl) <| QR.q' (fun w' hw' => r_lt rfl rfl) <| QR.nil ?_)
  intro w1 hk2
  have hz3 := hk2.size
  have hB4 := (Kp.refl w : Kp (fun b_ => b_ = gc) w w).lo hk2
  refine W.cond_d rfl (fun h5 => ?_) (fun h5 => ?_)
  · refine W.regD mo (by kernel_rfl) (QR.q' (fun w' hw' => r_mv (v := .pointer (some _)) rfl) <| QR.q' (fun w' hw' => r_nilp rfl) <| QR.q' (fun w' hw' => r_fa fa85_0 rfl) <| QR.q' (fun w' hw' => r_ld (v := .slice Ac nc cc) sca36 rfl ((((hc).lo hk2).lo hw').cell rfl)) <| QR.q' (fun w' hw' => r_mv (v := .pointer (some _)) rfl) <| QR.q' (fun w' hw' => r_nilp rfl) <| QR.q' (fun w' hw' => r_fa fa85_1 rfl) <| QR.q' (fun w' hw' => r_ld (v := .int .i64 tc) sca3 rfl ((((hc).lo hk2).lo hw').cell rfl)) <| ?_)
    have hx7 := ((hLc).lo hk2).elem (i := tc.toNat) (by omega)
    have hq8 := u8_le (gt Lc tc.toNat)
    refine QR.q' (fun w' hw' => r_ixR tsl36 ((((hLc).lo hk2).lo hw')) rfl rfl (by omega)) <| QR.q' (fun w' hw' => r_ld (v := .int .u8 ((gt Lc tc.toNat).toNat : Int)) sca5 rfl (((((hLc).lo hk2).lo hw')).cell0 hx7 rfl)) <| QR.q' (fun w' hw' => r_convI und3 und5 rfl (by omega)) <| QR.q' (fun w' hw' => r_as (v := .int .i64 _) rfl) <| QR.nil ?_
    intro w9 hk10
    have hz11 := hk10.size
    have hB12 := hB4.lo hk10
    refine W.seq ?_
    refine W.regS (SR.q' (r_mv (v := .pointer (some _)) rfl) <| SR.q' (r_nilp rfl) <| SR.q' (r_fa fa85_1 rfl) <| SR.q' (r_ld (v := .int .i64 tc) sca3 rfl ((((hc).lo hk2).lo hk10).cell rfl)) <| SR.q' (r_add rfl rfl (by omega)) <| SR.q' (r_nilp rfl) <| SR.q' (r_fa fa85_1 rfl) <| SR.store (o := 1) (vs := [.int .i64 (tc + 1)]) sca3.2 rfl rfl rfl rfl (((hc).lo hk2).lo hk10) (Nat.le_of_ble_eq_true rfl) rfl ?_)
    intro w13 hk14 hs15 hb16
    have hz17 := hk14.size
    have hB18 := hB12.step hk14 (fun i_ hi_ e' => e')
    refine SR.nil ?_
    refine W.seq ?_
    refine W.regS (SR.q' (r_mv (v := .pointer (some _)) rfl) <| SR.q' (r_mv (v := .pointer (some _)) rfl) <| SR.q' (r_nilp rfl) <| SR.q' (r_fa fa85_2 rfl) <| SR.q' (r_ld (v := .int .u64 sc) sca83 rfl ((hb16).cell rfl)) <| SR.q' (r_mulW rfl rfl) <| SR.q' (r_mv (v := .int .i64 _) rfl) <| SR.q' (r_convU und83 und3 rfl (by omega)) <| SR.q' (r_addW rfl rfl) <| SR.q' (r_addW rfl rfl) <| SR.q' (r_nilp rfl) <| SR.q' (r_fa fa85_2 rfl) <| SR.store (o := 2) (vs := [.int .u64 (IntKind.u64.wrap ((IntKind.u64.wrap ((IntKind.u64.wrap (sc * 6364136223846793005)) + ((gt Lc tc.toNat).toNat : Int))) + 604171))]) sca83.2 rfl rfl rfl rfl (hb16) (Nat.le_of_ble_eq_true rfl) rfl ?_)
    intro w19 hk20 hs21 hb22
    have hz23 := hk20.size
    have hB24 := hB18.step hk20 (fun i_ hi_ e' => e')
    refine SR.nil ?_
    refine W.seq ?_
    refine W.seq ?_
    refine W.regD mo (by kernel_rfl) (QR.q' (fun w' hw' => r_mv (v := .pointer (some _)) rfl) <| QR.q' (fun w' hw' => r_nilp rfl) <| QR.q' (fun w' hw' => r_fa fa85_1 rfl) <| QR.q' (fun w' hw' => r_ld (v := .int .i64 (tc + 1)) sca3 rfl (((hb22).lo hw').cell rfl)) <| QR.q' (fun w' hw' => r_mv (v := .pointer (some _)) rfl) <| QR.q' (fun w' hw' => r_nilp rfl) <| QR.q' (fun w' hw' => r_fa fa85_0 rfl) <| QR.q' (fun w' hw' => r_ld (v := .slice Ac nc cc) sca36 rfl (((hb22).lo hw').cell rfl)) <| QR.q' (fun w' hw' => r_len und36 rfl) <| QR.q' (fun w' hw' => r_le rfl rfl) <| QR.nil ?_)
    intro w25 hk26
    have hz27 := hk26.size
    have hB28 := hB24.lo hk26
    refine W.cond_d rfl (fun h29 => ?_) (fun h29 => ?_)
    · refine W.seq ?_
      refine W.regS (SR.q' (r_mv (v := .int .i64 _) rfl) <| SR.q' (r_as (v := .int .i64 _) rfl) <| SR.nil ?_)
      refine W.ret ?_
      refine ret1 rfl (v := .int .i64 _) rfl ?_
      exact ⟨((gt Lc tc.toNat).toNat : Int), (tc + 1), (IntKind.u64.wrap ((IntKind.u64.wrap ((IntKind.u64.wrap (sc * 6364136223846793005)) + ((gt Lc tc.toNat).toNat : Int))) + 604171)), eR rfl, ((hb22).lo hk26), ⟨by omega, by omega⟩, (z_c___spec_l1Cur__next_30 Lc tc sc nc htc hbdc hlec h5 hx7 hq8 h29), hB28⟩
    · refine W.skip ?_
      refine W.seq ?_
      refine W.regS (SR.q' (r_mv (v := .pointer (some _)) rfl) <| SR.q' (r_nilp rfl) <| SR.q' (r_fa fa85_2 rfl) <| SR.q' (r_ld (v := .int .u64 (IntKind.u64.wrap ((IntKind.u64.wrap ((IntKind.u64.wrap (sc * 6364136223846793005)) + ((gt Lc tc.toNat).toNat : Int))) + 604171))) sca83 rfl (((hb22).lo hk26).cell rfl)) <| SR.q' (r_shr40 rfl rfl (by simp only [IntKind.wrap_u64]; omega)) <| SR.q' (r_and255 rfl rfl (by simp only [IntKind.wrap_u64]; omega)) <| SR.q' (r_convI und3 und83 rfl (by omega)) <| SR.q' (r_as (v := .int .i64 _) rfl) <| SR.nil ?_)
      refine W.ret ?_
      refine ret1 rfl (v := .int .i64 _) rfl ?_
      exact ⟨(((IntKind.u64.wrap ((IntKind.u64.wrap ((IntKind.u64.wrap (sc * 6364136223846793005)) + ((gt Lc tc.toNat).toNat : Int))) + 604171)) / 1099511627776) % 256), (tc + 1), (IntKind.u64.wrap ((IntKind.u64.wrap ((IntKind.u64.wrap (sc * 6364136223846793005)) + ((gt Lc tc.toNat).toNat : Int))) + 604171)), eR rfl, ((hb22).lo hk26), ⟨by omega, by omega⟩, (z_c___spec_l1Cur__next_31 Lc tc sc nc htc hbdc hlec h5 hx7 hq8 h29), hB28⟩
  · refine W.skip ?_
    refine W.seq ?_
    refine W.regS (SR.q' (r_mv (v := .pointer (some _)) rfl) <| SR.q' (r_nilp rfl) <| SR.q' (r_fa fa85_1 rfl) <| SR.q' (r_ld (v := .int .i64 tc) sca3 rfl (((hc).lo hk2).cell rfl)) <| SR.q' (r_add rfl rfl (by omega)) <| SR.q' (r_nilp rfl) <| SR.q' (r_fa fa85_1 rfl) <| SR.store (o := 1) (vs := [.int .i64 (tc + 1)]) sca3.2 rfl rfl rfl rfl ((hc).lo hk2) (Nat.le_of_ble_eq_true rfl) rfl ?_)
    intro w32 hk33 hs34 hb35
    have hz36 := hk33.size
    have hB37 := hB4.step hk33 (fun i_ hi_ e' => e')
    refine SR.nil ?_
    refine W.seq ?_
    refine W.regS (SR.q' (r_mv (v := .pointer (some _)) rfl) <| SR.q' (r_mv (v := .pointer (some _)) rfl) <| SR.q' (r_nilp rfl) <| SR.q' (r_fa fa85_2 rfl) <| SR.q' (r_ld (v := .int .u64 sc) sca83 rfl ((hb35).cell rfl)) <| SR.q' (r_mulW rfl rfl) <| SR.q' (r_mv (v := .int .i64 _) rfl) <| SR.q' (r_convU und83 und3 rfl (by omega)) <| SR.q' (r_addW rfl rfl) <| SR.q' (r_addW rfl rfl) <| SR.q' (r_nilp rfl) <| SR.q' (r_fa fa85_2 rfl) <| SR.store (o := 2) (vs := [.int .u64 (IntKind.u64.wrap ((IntKind.u64.wrap ((IntKind.u64.wrap (sc * 6364136223846793005)) + 0)) + 604171))]) sca83.2 rfl rfl rfl rfl (hb35) (Nat.le_of_ble_eq_true rfl) rfl ?_)
    intro w38 hk39 hs40 hb41
    have hz42 := hk39.size
    have hB43 := hB37.step hk39 (fun i_ hi_ e' => e')
    refine SR.nil ?_
    refine W.seq ?_
    refine W.seq ?_
    refine W.regD mo (by kernel_rfl) (QR.q' (fun w' hw' => r_mv (v := .pointer (some _)) rfl) <| QR.q' (fun w' hw' => r_nilp rfl) <| QR.q' (fun w' hw' => r_fa fa85_1 rfl) <| QR.q' (fun w' hw' => r_ld (v := .int .i64 (tc + 1)) sca3 rfl (((hb41).lo hw').cell rfl)) <| QR.q' (fun w' hw' => r_mv (v := .pointer (some _)) rfl) <| QR.q' (fun w' hw' => r_nilp rfl) <| QR.q' (fun w' hw' => r_fa fa85_0 rfl) <| QR.q' (fun w' hw' => r_ld (v := .slice Ac nc cc) sca36 rfl (((hb41).lo hw').cell rfl)) <| QR.q' (fun w' hw' => r_len und36 rfl) <| QR.q' (fun w' hw' => r_le rfl rfl) <| QR.nil ?_)
    intro w44 hk45
    have hz46 := hk45.size
    have hB47 := hB43.lo hk45
    refine W.cond_d rfl (fun h48 => ?_) (fun h48 => ?_)
    · refine W.seq ?_
      refine W.regS (SR.q' (r_mv (v := .int .i64 _) rfl) <| SR.q' (r_as (v := .int .i64 _) rfl) <| SR.nil ?_)
      refine W.ret ?_
      refine ret1 rfl (v := .int .i64 _) rfl ?_
      exact ⟨0, (tc + 1), (IntKind.u64.wrap ((IntKind.u64.wrap ((IntKind.u64.wrap (sc * 6364136223846793005)) + 0)) + 604171)), eR rfl, ((hb41).lo hk45), ⟨by omega, by omega⟩, (z_c___spec_l1Cur__next_49 Lc tc sc nc htc hbdc hlec h5 h48), hB47⟩
    · refine W.skip ?_
      refine W.seq ?_
      refine W.regS (SR.q' (r_mv (v := .pointer (some _)) rfl) <| SR.q' (r_nilp rfl) <| SR.q' (r_fa fa85_2 rfl) <| SR.q' (r_ld (v := .int .u64 (IntKind.u64.wrap ((IntKind.u64.wrap ((IntKind.u64.wrap (sc * 6364136223846793005)) + 0)) + 604171))) sca83 rfl (((hb41).lo hk45).cell rfl)) <| SR.q' (r_shr40 rfl rfl (by simp only [IntKind.wrap_u64]; omega)) <| SR.q' (r_and255 rfl rfl (by simp only [IntKind.wrap_u64]; omega)) <| SR.q' (r_convI und3 und83 rfl (by omega)) <| SR.q' (r_as (v := .int .i64 _) rfl) <| SR.nil ?_)
      refine W.ret ?_
      refine ret1 rfl (v := .int .i64 _) rfl ?_
      exact ⟨(((IntKind.u64.wrap ((IntKind.u64.wrap ((IntKind.u64.wrap (sc * 6364136223846793005)) + 0)) + 604171)) / 1099511627776) % 256), (tc + 1), (IntKind.u64.wrap ((IntKind.u64.wrap ((IntKind.u64.wrap (sc * 6364136223846793005)) + 0)) + 604171)), eR rfl, ((hb41).lo hk45), ⟨by omega, by omega⟩, (z_c___spec_l1Cur__next_50 Lc tc sc nc htc hbdc hlec h5 h48), hB47⟩

theorem z_c___spec_l1Cur__pick_2 (Lc : List UInt8) (tc : Int) (sc : Int) (nc : Nat) (htc : 0 ≤ tc ∧ tc + 2 ≤ 4611686018427387904) (hbdc : (nc : Int) ≤ 9223372036854775807) (hlec : nc = Lc.length) (n : Int) (hp0 : n ≤ 4611686018427387904) (h1 : n ≤ 1) : (0 : Int) ≤ 0 ∧ ((0 : Int) < n ∨ (0 : Int) = 0) := by
  first | omega | exact ⟨Int.emod_nonneg _ (by omega), .inl (Int.emod_lt_of_pos _ (by omega))⟩
theorem z_c___spec_l1Cur__pick_24 (Lc : List UInt8) (tc : Int) (sc : Int) (nc : Nat) (htc : 0 ≤ tc ∧ tc + 2 ≤ 4611686018427387904) (hbdc : (nc : Int) ≤ 9223372036854775807) (hlec : nc = Lc.length) (n : Int) (hp0 : n ≤ 4611686018427387904) (h1 : ¬ (n ≤ 1)) (v5 : Int) (t6 : Int) (s7 : Int) (ht9 : tc ≤ t6 ∧ t6 ≤ tc + 1) (hq10 : (0 : Int) ≤ v5 ∧ (v5 : Int) ≤ 255) (h13 : 200 < n) (v16 : Int) (t17 : Int) (s18 : Int) (ht20 : t6 ≤ t17 ∧ t17 ≤ t6 + 1) (hq21 : (0 : Int) ≤ v16 ∧ (v16 : Int) ≤ 255) : (0 : Int) ≤ (((v5 * 256) + v16) % n) ∧ (((((v5 * 256) + v16) % n) : Int) < n ∨ ((((v5 * 256) + v16) % n) : Int) = 0) := by
  first | omega | exact ⟨Int.emod_nonneg _ (by omega), .inl (Int.emod_lt_of_pos _ (by omega))⟩
theorem z_c___spec_l1Cur__pick_25 (Lc : List UInt8) (tc : Int) (sc : Int) (nc : Nat) (htc : 0 ≤ tc ∧ tc + 2 ≤ 4611686018427387904) (hbdc : (nc : Int) ≤ 9223372036854775807) (hlec : nc = Lc.length) (n : Int) (hp0 : n ≤ 4611686018427387904) (h1 : ¬ (n ≤ 1)) (v5 : Int) (t6 : Int) (s7 : Int) (ht9 : tc ≤ t6 ∧ t6 ≤ tc + 1) (hq10 : (0 : Int) ≤ v5 ∧ (v5 : Int) ≤ 255) (h13 : ¬ (200 < n)) : (0 : Int) ≤ (v5 % n) ∧ (((v5 % n) : Int) < n ∨ ((v5 % n) : Int) = 0) := by
  first | omega | exact ⟨Int.emod_nonneg _ (by omega), .inl (Int.emod_lt_of_pos _ (by omega))⟩
theorem c___spec_l1Cur__pick (w : World) {gc ec : Nat} {Ac : Option Addr} {nc cc Bc : Nat} (Lc : List UInt8) (tc sc : Int) (hc : Blk w gc ec [.slice Ac nc cc, .int .i64 tc, .int .u64 sc]) (hLc : SlR w Bc encB 1 Ac nc cc Lc) (hgc : Bc ≤ gc) (htc : 0 ≤ tc ∧ tc + 2 ≤ 4611686018427387904) (n : Int) (hp0 : n ≤ 4611686018427387904) : Calls Tryd.prog 95 #[.pointer (some ⟨gc, 0, none⟩), .int .i64 n] w fun e w' => ∃ (v : Int) (tc' sc' : Int), e = .returned (.int .i64 v) ∧ Blk w' gc ec [.slice Ac nc cc, .int .i64 tc', .int .u64 sc'] ∧ (tc ≤ tc' ∧ tc' ≤ tc + 2) ∧ ((0 : Int) ≤ v ∧ ((v : Int) < n ∨ (v : Int) = 0)) ∧ Kp (fun b_ => b_ = gc) w w' := by
  refine calls_W 20 Tryd.func95 rfl rfl rfl ?_
  have hBlc := hc.lt
  have hbdc := hLc.bound
  have hlec := hLc.len
  have hBbc := hLc.bd
  refine W.seq ?_
  refine W.regS (SR.q' (r_as (v := .int .i64 0) rfl) <| SR.nil ?_)
  refine W.seq ?_
  refine W.seq ?_
  refine W.regS (SR.q' (r_mv (v := .int .i64 _) rfl) <| SR.q' (r_le rfl rfl) <| SR.nil ?_)
  refine W.cond_d rfl (fun h1 => ?_) (fun h1 => ?_)
  · refine W.seq ?_
    refine W.regS (SR.q' (r_as (v := .int .i64 0) rfl) <| SR.nil ?_)
    refine W.ret ?_
    refine ret1 rfl (v := .int .i64 _) rfl ?_
    exact ⟨0, tc, sc, eR rfl, (hc), ⟨by omega, by omega⟩, (z_c___spec_l1Cur__pick_2 Lc tc sc nc htc hbdc hlec n hp0 h1), (Kp.refl w : Kp (fun b_ => b_ = gc) w w)⟩
  · refine W.skip ?_
    refine W.seq ?_
    refine W.regS (SR.q' (r_mv (v := .pointer (some _)) rfl) <| SR.call ent115 (c___spec_l1Cur__next w Lc tc sc (hc) ((hLc)) (by omega) (by omega)) rfl ?_)
    rintro e w3 ⟨v5, t6, s7, rfl, hb8, ht9, hq10, hk4⟩
    refine ⟨_, rfl, ?_⟩
    have hz11 := hk4.size
    have hB12 := (Kp.refl w : Kp (fun b_ => b_ = gc) w w).step hk4 (fun i_ hi_ e' => e')
    refine SR.q' (r_as (v := .int .i64 _) rfl) <| SR.nil ?_
    refine W.seq ?_
    refine W.seq ?_
    refine W.regS (SR.q' (r_mv (v := .int .i64 _) rfl) <| SR.q' (r_gt rfl rfl) <| SR.nil ?_)
    refine W.cond_d rfl (fun h13 => ?_) (fun h13 => ?_)
    · refine W.regS (SR.q' (r_mv (v := .int .i64 _) rfl) <| SR.q' (r_mul rfl rfl (by omega)) <| SR.q' (r_mv (v := .pointer (some _)) rfl) <| SR.call ent115 (c___spec_l1Cur__next w3 Lc t6 s7 (hb8) (((hLc).kp hk4 (fun b_ hb e' => by have e'' : b_ = gc := e'; omega))) (by omega) (by omega)) rfl ?_)
      rintro e w14 ⟨v16, t17, s18, rfl, hb19, ht20, hq21, hk15⟩
      refine ⟨_, rfl, ?_⟩
      have hz22 := hk15.size
      have hB23 := hB12.step hk15 (fun i_ hi_ e' => e')
      refine SR.q' (r_add rfl rfl (by omega)) <| SR.q' (r_as (v := .int .i64 _) rfl) <| SR.nil ?_
      refine W.seq ?_
      refine W.regS (SR.q' (r_mv (v := .int .i64 _) rfl) <| SR.q' (r_mv (v := .int .i64 _) rfl) <| SR.q' (r_rem rfl rfl (by omega)) <| SR.q' (r_as (v := .int .i64 _) rfl) <| SR.nil ?_)
      refine W.ret ?_
      refine ret1 rfl (v := .int .i64 _) rfl ?_
      exact ⟨(((v5 * 256) + v16) % n), t17, s18, eR rfl, (hb19), ⟨by omega, by omega⟩, (z_c___spec_l1Cur__pick_24 Lc tc sc nc htc hbdc hlec n hp0 h1 v5 t6 s7 ht9 hq10 h13 v16 t17 s18 ht20 hq21), hB23⟩
    · refine W.skip ?_
      refine W.seq ?_
      refine W.regS (SR.q' (r_mv (v := .int .i64 _) rfl) <| SR.q' (r_mv (v := .int .i64 _) rfl) <| SR.q' (r_rem rfl rfl (by omega)) <| SR.q' (r_as (v := .int .i64 _) rfl) <| SR.nil ?_)
      refine W.ret ?_
      refine ret1 rfl (v := .int .i64 _) rfl ?_
      exact ⟨(v5 % n), t6, s7, eR rfl, (hb8), ⟨by omega, by omega⟩, (z_c___spec_l1Cur__pick_25 Lc tc sc nc htc hbdc hlec n hp0 h1 v5 t6 s7 ht9 hq10 h13), hB12⟩

theorem z_c___spec_l1Cur__one_11 (Lc : List UInt8) (tc : Int) (sc : Int) (nc : Nat) (htc : 0 ≤ tc ∧ tc + 2 ≤ 4611686018427387904) (hbdc : (nc : Int) ≤ 9223372036854775807) (hlec : nc = Lc.length) (n : Int) (hp0 : n ≤ 4611686018427387904) (v3 : Int) (t4 : Int) (s5 : Int) (ht7 : tc ≤ t4 ∧ t4 ≤ tc + 2) (hq8 : (0 : Int) ≤ v3 ∧ ((v3 : Int) < n ∨ (v3 : Int) = 0)) : decide (v3 = 0) = decide (v3 = 0) := by
  first | rfl | omega | grind
theorem c___spec_l1Cur__one (w : World) {gc ec : Nat} {Ac : Option Addr} {nc cc Bc : Nat} (Lc : List UInt8) (tc sc : Int) (hc : Blk w gc ec [.slice Ac nc cc, .int .i64 tc, .int .u64 sc]) (hLc : SlR w Bc encB 1 Ac nc cc Lc) (hgc : Bc ≤ gc) (htc : 0 ≤ tc ∧ tc + 2 ≤ 4611686018427387904) (n : Int) (hp0 : n ≤ 4611686018427387904) : Calls Tryd.prog 118 #[.pointer (some ⟨gc, 0, none⟩), .int .i64 n] w fun e w' => ∃ (v : Bool) (tc' sc' : Int), e = .returned (.bool v) ∧ Blk w' gc ec [.slice Ac nc cc, .int .i64 tc', .int .u64 sc'] ∧ (tc ≤ tc' ∧ tc' ≤ tc + 2) ∧ Kp (fun b_ => b_ = gc) w w' := by
  refine calls_W 9 Tryd.func118 rfl rfl rfl ?_
  have hBlc := hc.lt
  have hbdc := hLc.bound
  have hlec := hLc.len
  have hBbc := hLc.bd
  refine W.seq ?_
  refine W.regS (SR.q' (r_as (v := .bool false) rfl) <| SR.nil ?_)
  refine W.seq ?_
  refine W.regS (SR.q' (r_mv (v := .pointer (some _)) rfl) <| SR.q' (r_mv (v := .int .i64 _) rfl) <| SR.call ent95 (c___spec_l1Cur__pick w Lc tc sc (hc) ((hLc)) (by omega) (by omega) n (by first | omega | (simp only [List.length_append, List.length_cons, List.length_nil, List.length_take, List.length_drop]; omega))) rfl ?_)
  rintro e w1 ⟨v3, t4, s5, rfl, hb6, ht7, hq8, hk2⟩
  refine ⟨_, rfl, ?_⟩
  have hz9 := hk2.size
  have hB10 := (Kp.refl w : Kp (fun b_ => b_ = gc) w w).step hk2 (fun i_ hi_ e' => e')
  refine SR.q' (r_eq rfl rfl) <| SR.q' (r_as (v := .bool _) rfl) <| SR.nil ?_
  refine W.ret ?_
  refine ret1 rfl (v := .bool _) rfl ?_
  exact ⟨(decide (v3 = 0)), t4, s5, eR (eB (z_c___spec_l1Cur__one_11 Lc tc sc nc htc hbdc hlec n hp0 v3 t4 s5 ht7 hq8)), (hb6), ⟨by omega, by omega⟩, hB10⟩

theorem z_c___spec_l1Cur__among_13 (Lc : List UInt8) (tc : Int) (sc : Int) (nc : Nat) (htc : 0 ≤ tc ∧ tc + 2 ≤ 4611686018427387904) (hbdc : (nc : Int) ≤ 9223372036854775807) (hlec : nc = Lc.length) (L : List Int) (nL : Nat) (hbdL : (nL : Int) ≤ 9223372036854775807) (hleL : nL = L.length) (hp0 : 0 < nL) (hp1 : (nL : Int) ≤ 1048576) (v3 : Int) (t4 : Int) (s5 : Int) (ht7 : tc ≤ t4 ∧ t4 ≤ tc + 2) (hq8 : (0 : Int) ≤ v3 ∧ ((v3 : Int) < (nL : Int) ∨ (v3 : Int) = 0)) (x11 : Int) (hx12 : L[v3.toNat]? = some x11) : x11 ∈ L := by
  exact List.mem_of_getElem? ‹L[_]? = some _›
theorem c___spec_l1Cur__among (w : World) {gc ec : Nat} {Ac : Option Addr} {nc cc Bc : Nat} (Lc : List UInt8) (tc sc : Int) (hc : Blk w gc ec [.slice Ac nc cc, .int .i64 tc, .int .u64 sc]) (hLc : SlR w Bc encB 1 Ac nc cc Lc) (hgc : Bc ≤ gc) (htc : 0 ≤ tc ∧ tc + 2 ≤ 4611686018427387904) {AL : Option Addr} {nL cL BL : Nat}  (L : List Int) (hL : SlR w BL encI 1 AL nL cL L) (hp0 : 0 < nL) (hp1 : (nL : Int) ≤ 1048576) (hp2 : ¬ (adr AL).block = gc) : Calls Tryd.prog 54 #[.pointer (some ⟨gc, 0, none⟩), .slice AL nL cL] w fun e w' => ∃ (v : Int) (tc' sc' : Int), e = .returned (.int .i64 v) ∧ Blk w' gc ec [.slice Ac nc cc, .int .i64 tc', .int .u64 sc'] ∧ (tc ≤ tc' ∧ tc' ≤ tc + 2) ∧ (v ∈ L) ∧ Kp (fun b_ => b_ = gc) w w' := by
  refine calls_W 12 Tryd.func54 rfl rfl rfl ?_
  have hBlc := hc.lt
  have hbdc := hLc.bound
  have hlec := hLc.len
  have hBbc := hLc.bd
  have hbdL := hL.bound
  have hleL := hL.len
  have hBbL := hL.bd
  refine W.seq ?_
  refine W.regS (SR.q' (r_as (v := .int .i64 0) rfl) <| SR.nil ?_)
  refine W.seq ?_
  refine W.regS (SR.q' (r_mv (v := .slice _ _ _) rfl) <| SR.q' (r_mv (v := .pointer (some _)) rfl) <| SR.q' (r_mv (v := .slice _ _ _) rfl) <| SR.q' (r_len und38 rfl) <| SR.call ent95 (c___spec_l1Cur__pick w Lc tc sc (hc) ((hLc)) (by omega) (by omega) (nL : Int) (by first | omega | (simp only [List.length_append, List.length_cons, List.length_nil, List.length_take, List.length_drop]; omega))) rfl ?_)
  rintro e w1 ⟨v3, t4, s5, rfl, hb6, ht7, hq8, hk2⟩
  refine ⟨_, rfl, ?_⟩
  have hz9 := hk2.size
  have hB10 := (Kp.refl w : Kp (fun b_ => b_ = gc) w w).step hk2 (fun i_ hi_ e' => e')
  obtain ⟨x11, hx12⟩ := ((hL).kpb hk2 (fun e' => hp2 e')).get (i := v3.toNat) (by omega)
  refine SR.q' (r_ixR tsl38 ((hL).kpb hk2 (fun e' => hp2 e')) rfl rfl (by omega)) <| SR.q' (r_ld (v := .int .i64 x11) sca3 rfl (((hL).kpb hk2 (fun e' => hp2 e')).cell0 hx12 rfl)) <| SR.q' (r_as (v := .int .i64 _) rfl) <| SR.nil ?_
  refine W.ret ?_
  refine ret1 rfl (v := .int .i64 _) rfl ?_
  exact ⟨x11, t4, s5, eR rfl, (hb6), ⟨by omega, by omega⟩, (z_c___spec_l1Cur__among_13 Lc tc sc nc htc hbdc hlec L nL hbdL hleL hp0 hp1 v3 t4 s5 ht7 hq8 x11 hx12), hB10⟩

theorem z_c___spec_l1Cur__chestStep_70 (Lc : List UInt8) (tc : Int) (sc : Int) (nc : Nat) (htc : 0 ≤ tc ∧ tc + 12 ≤ 4611686018427387904) (hbdc : (nc : Int) ≤ 9223372036854775807) (hlec : nc = Lc.length) (x : Chest) (nx_Stack : Nat) (hbdx_Stack : (nx_Stack : Int) ≤ 9223372036854775807) (hlex_Stack : nx_Stack = x.Stack.length) (hp0 : 0 ≤ x.Key ∧ x.Key ≤ 9999) (hp1 : nx_Stack ≤ 1000) (v19 : Bool) (t20 : Int) (s21 : Int) (ht23 : tc ≤ t20 ∧ t20 ≤ tc + 2) (h26 : v19 = true) (v36 : Int) (t37 : Int) (s38 : Int) (ht40 : t20 ≤ t37 ∧ t37 ≤ t20 + 2) (hq41 : v36 ∈ ([0, 8, 5] : List Int)) (hq44 : (0 : Int) ≤ v36 ∧ v36 ≤ 8) (v55 : Int) (t56 : Int) (s57 : Int) (ht59 : t37 ≤ t56 ∧ t56 ≤ t37 + 2) (hq60 : v55 ∈ ([0, 1, (-1)] : List Int)) (hq63 : ((-1) : Int) ≤ v55 ∧ v55 ≤ 1) : v36 = (⟨v36, v55⟩ : ChestStep).Kind := by
  first | rfl | omega | grind
theorem z_c___spec_l1Cur__chestStep_71 (Lc : List UInt8) (tc : Int) (sc : Int) (nc : Nat) (htc : 0 ≤ tc ∧ tc + 12 ≤ 4611686018427387904) (hbdc : (nc : Int) ≤ 9223372036854775807) (hlec : nc = Lc.length) (x : Chest) (nx_Stack : Nat) (hbdx_Stack : (nx_Stack : Int) ≤ 9223372036854775807) (hlex_Stack : nx_Stack = x.Stack.length) (hp0 : 0 ≤ x.Key ∧ x.Key ≤ 9999) (hp1 : nx_Stack ≤ 1000) (v19 : Bool) (t20 : Int) (s21 : Int) (ht23 : tc ≤ t20 ∧ t20 ≤ tc + 2) (h26 : v19 = true) (v36 : Int) (t37 : Int) (s38 : Int) (ht40 : t20 ≤ t37 ∧ t37 ≤ t20 + 2) (hq41 : v36 ∈ ([0, 8, 5] : List Int)) (hq44 : (0 : Int) ≤ v36 ∧ v36 ≤ 8) (v55 : Int) (t56 : Int) (s57 : Int) (ht59 : t37 ≤ t56 ∧ t56 ≤ t37 + 2) (hq60 : v55 ∈ ([0, 1, (-1)] : List Int)) (hq63 : ((-1) : Int) ≤ v55 ∧ v55 ≤ 1) : v55 = (⟨v36, v55⟩ : ChestStep).Value := by
  first | rfl | omega | grind
theorem z_c___spec_l1Cur__chestStep_166 (Lc : List UInt8) (tc : Int) (sc : Int) (nc : Nat) (htc : 0 ≤ tc ∧ tc + 12 ≤ 4611686018427387904) (hbdc : (nc : Int) ≤ 9223372036854775807) (hlec : nc = Lc.length) (x : Chest) (nx_Stack : Nat) (hbdx_Stack : (nx_Stack : Int) ≤ 9223372036854775807) (hlex_Stack : nx_Stack = x.Stack.length) (hp0 : 0 ≤ x.Key ∧ x.Key ≤ 9999) (hp1 : nx_Stack ≤ 1000) (v19 : Bool) (t20 : Int) (s21 : Int) (ht23 : tc ≤ t20 ∧ t20 ≤ tc + 2) (h26 : v19 = false) (v81 : Int) (t82 : Int) (s83 : Int) (ht85 : t20 ≤ t82 ∧ t82 ≤ t20 + 2) (hq86 : v81 ∈ ([5, 17, 42] : List Int)) (hq89 : (5 : Int) ≤ v81 ∧ v81 ≤ 42) (h90 : 0 < (nx_Stack : Int)) (v112 : Int) (t113 : Int) (s114 : Int) (ht116 : t82 ≤ t113 ∧ t113 ≤ t82 + 2) (hq117 : (0 : Int) ≤ v112 ∧ ((v112 : Int) < (nx_Stack : Int) ∨ (v112 : Int) = 0)) (hx122 : x.Stack[v112.toNat]? = some (gt x.Stack v112.toNat)) (h130 : x.State = 0) (v133 : Bool) (t134 : Int) (s135 : Int) (ht137 : t113 ≤ t134 ∧ t134 ≤ t113 + 2) (h140 : v133 = true) (v151 : Int) (t152 : Int) (s153 : Int) (ht155 : t134 ≤ t152 ∧ t152 ≤ t134 + 2) (hq156 : v151 ∈ ([1, 77, 9999, 10000] : List Int)) (hq159 : (1 : Int) ≤ v151 ∧ v151 ≤ 10000) : 3 = (⟨3, v151⟩ : ChestStep).Kind := by
  first | rfl | omega | grind
theorem z_c___spec_l1Cur__chestStep_167 (Lc : List UInt8) (tc : Int) (sc : Int) (nc : Nat) (htc : 0 ≤ tc ∧ tc + 12 ≤ 4611686018427387904) (hbdc : (nc : Int) ≤ 9223372036854775807) (hlec : nc = Lc.length) (x : Chest) (nx_Stack : Nat) (hbdx_Stack : (nx_Stack : Int) ≤ 9223372036854775807) (hlex_Stack : nx_Stack = x.Stack.length) (hp0 : 0 ≤ x.Key ∧ x.Key ≤ 9999) (hp1 : nx_Stack ≤ 1000) (v19 : Bool) (t20 : Int) (s21 : Int) (ht23 : tc ≤ t20 ∧ t20 ≤ tc + 2) (h26 : v19 = false) (v81 : Int) (t82 : Int) (s83 : Int) (ht85 : t20 ≤ t82 ∧ t82 ≤ t20 + 2) (hq86 : v81 ∈ ([5, 17, 42] : List Int)) (hq89 : (5 : Int) ≤ v81 ∧ v81 ≤ 42) (h90 : 0 < (nx_Stack : Int)) (v112 : Int) (t113 : Int) (s114 : Int) (ht116 : t82 ≤ t113 ∧ t113 ≤ t82 + 2) (hq117 : (0 : Int) ≤ v112 ∧ ((v112 : Int) < (nx_Stack : Int) ∨ (v112 : Int) = 0)) (hx122 : x.Stack[v112.toNat]? = some (gt x.Stack v112.toNat)) (h130 : x.State = 0) (v133 : Bool) (t134 : Int) (s135 : Int) (ht137 : t113 ≤ t134 ∧ t134 ≤ t113 + 2) (h140 : v133 = true) (v151 : Int) (t152 : Int) (s153 : Int) (ht155 : t134 ≤ t152 ∧ t152 ≤ t134 + 2) (hq156 : v151 ∈ ([1, 77, 9999, 10000] : List Int)) (hq159 : (1 : Int) ≤ v151 ∧ v151 ≤ 10000) : v151 = (⟨3, v151⟩ : ChestStep).Value := by
  first | rfl | omega | grind
theorem z_c___spec_l1Cur__chestStep_213 (Lc : List UInt8) (tc : Int) (sc : Int) (nc : Nat) (htc : 0 ≤ tc ∧ tc + 12 ≤ 4611686018427387904) (hbdc : (nc : Int) ≤ 9223372036854775807) (hlec : nc = Lc.length) (x : Chest) (nx_Stack : Nat) (hbdx_Stack : (nx_Stack : Int) ≤ 9223372036854775807) (hlex_Stack : nx_Stack = x.Stack.length) (hp0 : 0 ≤ x.Key ∧ x.Key ≤ 9999) (hp1 : nx_Stack ≤ 1000) (v19 : Bool) (t20 : Int) (s21 : Int) (ht23 : tc ≤ t20 ∧ t20 ≤ tc + 2) (h26 : v19 = false) (v81 : Int) (t82 : Int) (s83 : Int) (ht85 : t20 ≤ t82 ∧ t82 ≤ t20 + 2) (hq86 : v81 ∈ ([5, 17, 42] : List Int)) (hq89 : (5 : Int) ≤ v81 ∧ v81 ≤ 42) (h90 : 0 < (nx_Stack : Int)) (v112 : Int) (t113 : Int) (s114 : Int) (ht116 : t82 ≤ t113 ∧ t113 ≤ t82 + 2) (hq117 : (0 : Int) ≤ v112 ∧ ((v112 : Int) < (nx_Stack : Int) ∨ (v112 : Int) = 0)) (hx122 : x.Stack[v112.toNat]? = some (gt x.Stack v112.toNat)) (h130 : x.State = 0) (v133 : Bool) (t134 : Int) (s135 : Int) (ht137 : t113 ≤ t134 ∧ t134 ≤ t113 + 2) (h140 : v133 = false) (v178 : Int) (t179 : Int) (s180 : Int) (ht182 : t134 ≤ t179 ∧ t179 ≤ t134 + 2) (hq183 : v178 ∈ ([1, 1, 7] : List Int)) (hq186 : (1 : Int) ≤ v178 ∧ v178 ≤ 7) (v198 : Int) (t199 : Int) (s200 : Int) (ht202 : t179 ≤ t199 ∧ t199 ≤ t179 + 2) (hq203 : v198 ∈ ([0, 0, 0, 25] : List Int)) (hq206 : (0 : Int) ≤ v198 ∧ v198 ≤ 25) : v178 = (⟨v178, v198⟩ : ChestStep).Kind := by
  first | rfl | omega | grind
theorem z_c___spec_l1Cur__chestStep_214 (Lc : List UInt8) (tc : Int) (sc : Int) (nc : Nat) (htc : 0 ≤ tc ∧ tc + 12 ≤ 4611686018427387904) (hbdc : (nc : Int) ≤ 9223372036854775807) (hlec : nc = Lc.length) (x : Chest) (nx_Stack : Nat) (hbdx_Stack : (nx_Stack : Int) ≤ 9223372036854775807) (hlex_Stack : nx_Stack = x.Stack.length) (hp0 : 0 ≤ x.Key ∧ x.Key ≤ 9999) (hp1 : nx_Stack ≤ 1000) (v19 : Bool) (t20 : Int) (s21 : Int) (ht23 : tc ≤ t20 ∧ t20 ≤ tc + 2) (h26 : v19 = false) (v81 : Int) (t82 : Int) (s83 : Int) (ht85 : t20 ≤ t82 ∧ t82 ≤ t20 + 2) (hq86 : v81 ∈ ([5, 17, 42] : List Int)) (hq89 : (5 : Int) ≤ v81 ∧ v81 ≤ 42) (h90 : 0 < (nx_Stack : Int)) (v112 : Int) (t113 : Int) (s114 : Int) (ht116 : t82 ≤ t113 ∧ t113 ≤ t82 + 2) (hq117 : (0 : Int) ≤ v112 ∧ ((v112 : Int) < (nx_Stack : Int) ∨ (v112 : Int) = 0)) (hx122 : x.Stack[v112.toNat]? = some (gt x.Stack v112.toNat)) (h130 : x.State = 0) (v133 : Bool) (t134 : Int) (s135 : Int) (ht137 : t113 ≤ t134 ∧ t134 ≤ t113 + 2) (h140 : v133 = false) (v178 : Int) (t179 : Int) (s180 : Int) (ht182 : t134 ≤ t179 ∧ t179 ≤ t134 + 2) (hq183 : v178 ∈ ([1, 1, 7] : List Int)) (hq186 : (1 : Int) ≤ v178 ∧ v178 ≤ 7) (v198 : Int) (t199 : Int) (s200 : Int) (ht202 : t179 ≤ t199 ∧ t199 ≤ t179 + 2) (hq203 : v198 ∈ ([0, 0, 0, 25] : List Int)) (hq206 : (0 : Int) ≤ v198 ∧ v198 ≤ 25) : v198 = (⟨v178, v198⟩ : ChestStep).Value := by
  first | rfl | omega | grind
theorem z_c___spec_l1Cur__chestStep_251 (Lc : List UInt8) (tc : Int) (sc : Int) (nc : Nat) (htc : 0 ≤ tc ∧ tc + 12 ≤ 4611686018427387904) (hbdc : (nc : Int) ≤ 9223372036854775807) (hlec : nc = Lc.length) (x : Chest) (nx_Stack : Nat) (hbdx_Stack : (nx_Stack : Int) ≤ 9223372036854775807) (hlex_Stack : nx_Stack = x.Stack.length) (hp0 : 0 ≤ x.Key ∧ x.Key ≤ 9999) (hp1 : nx_Stack ≤ 1000) (v19 : Bool) (t20 : Int) (s21 : Int) (ht23 : tc ≤ t20 ∧ t20 ≤ tc + 2) (h26 : v19 = false) (v81 : Int) (t82 : Int) (s83 : Int) (ht85 : t20 ≤ t82 ∧ t82 ≤ t20 + 2) (hq86 : v81 ∈ ([5, 17, 42] : List Int)) (hq89 : (5 : Int) ≤ v81 ∧ v81 ≤ 42) (h90 : 0 < (nx_Stack : Int)) (v112 : Int) (t113 : Int) (s114 : Int) (ht116 : t82 ≤ t113 ∧ t113 ≤ t82 + 2) (hq117 : (0 : Int) ≤ v112 ∧ ((v112 : Int) < (nx_Stack : Int) ∨ (v112 : Int) = 0)) (hx122 : x.Stack[v112.toNat]? = some (gt x.Stack v112.toNat)) (h130 : ¬ (x.State = 0)) (h215 : x.State = 2) (v218 : Bool) (t219 : Int) (s220 : Int) (ht222 : t113 ≤ t219 ∧ t219 ≤ t113 + 2) (h225 : v218 = true) (v236 : Int) (t237 : Int) (s238 : Int) (ht240 : t219 ≤ t237 ∧ t237 ≤ t219 + 2) (hq241 : v236 ∈ ([9, 10, 100] : List Int)) (hq244 : (9 : Int) ≤ v236 ∧ v236 ≤ 100) : 7 = (⟨7, v236⟩ : ChestStep).Kind := by
  first | rfl | omega | grind
theorem z_c___spec_l1Cur__chestStep_252 (Lc : List UInt8) (tc : Int) (sc : Int) (nc : Nat) (htc : 0 ≤ tc ∧ tc + 12 ≤ 4611686018427387904) (hbdc : (nc : Int) ≤ 9223372036854775807) (hlec : nc = Lc.length) (x : Chest) (nx_Stack : Nat) (hbdx_Stack : (nx_Stack : Int) ≤ 9223372036854775807) (hlex_Stack : nx_Stack = x.Stack.length) (hp0 : 0 ≤ x.Key ∧ x.Key ≤ 9999) (hp1 : nx_Stack ≤ 1000) (v19 : Bool) (t20 : Int) (s21 : Int) (ht23 : tc ≤ t20 ∧ t20 ≤ tc + 2) (h26 : v19 = false) (v81 : Int) (t82 : Int) (s83 : Int) (ht85 : t20 ≤ t82 ∧ t82 ≤ t20 + 2) (hq86 : v81 ∈ ([5, 17, 42] : List Int)) (hq89 : (5 : Int) ≤ v81 ∧ v81 ≤ 42) (h90 : 0 < (nx_Stack : Int)) (v112 : Int) (t113 : Int) (s114 : Int) (ht116 : t82 ≤ t113 ∧ t113 ≤ t82 + 2) (hq117 : (0 : Int) ≤ v112 ∧ ((v112 : Int) < (nx_Stack : Int) ∨ (v112 : Int) = 0)) (hx122 : x.Stack[v112.toNat]? = some (gt x.Stack v112.toNat)) (h130 : ¬ (x.State = 0)) (h215 : x.State = 2) (v218 : Bool) (t219 : Int) (s220 : Int) (ht222 : t113 ≤ t219 ∧ t219 ≤ t113 + 2) (h225 : v218 = true) (v236 : Int) (t237 : Int) (s238 : Int) (ht240 : t219 ≤ t237 ∧ t237 ≤ t219 + 2) (hq241 : v236 ∈ ([9, 10, 100] : List Int)) (hq244 : (9 : Int) ≤ v236 ∧ v236 ≤ 100) : v236 = (⟨7, v236⟩ : ChestStep).Value := by
  first | rfl | omega | grind
theorem z_c___spec_l1Cur__chestStep_278 (Lc : List UInt8) (tc : Int) (sc : Int) (nc : Nat) (htc : 0 ≤ tc ∧ tc + 12 ≤ 4611686018427387904) (hbdc : (nc : Int) ≤ 9223372036854775807) (hlec : nc = Lc.length) (x : Chest) (nx_Stack : Nat) (hbdx_Stack : (nx_Stack : Int) ≤ 9223372036854775807) (hlex_Stack : nx_Stack = x.Stack.length) (hp0 : 0 ≤ x.Key ∧ x.Key ≤ 9999) (hp1 : nx_Stack ≤ 1000) (v19 : Bool) (t20 : Int) (s21 : Int) (ht23 : tc ≤ t20 ∧ t20 ≤ tc + 2) (h26 : v19 = false) (v81 : Int) (t82 : Int) (s83 : Int) (ht85 : t20 ≤ t82 ∧ t82 ≤ t20 + 2) (hq86 : v81 ∈ ([5, 17, 42] : List Int)) (hq89 : (5 : Int) ≤ v81 ∧ v81 ≤ 42) (h90 : 0 < (nx_Stack : Int)) (v112 : Int) (t113 : Int) (s114 : Int) (ht116 : t82 ≤ t113 ∧ t113 ≤ t82 + 2) (hq117 : (0 : Int) ≤ v112 ∧ ((v112 : Int) < (nx_Stack : Int) ∨ (v112 : Int) = 0)) (hx122 : x.Stack[v112.toNat]? = some (gt x.Stack v112.toNat)) (h130 : ¬ (x.State = 0)) (h215 : x.State = 2) (v218 : Bool) (t219 : Int) (s220 : Int) (ht222 : t113 ≤ t219 ∧ t219 ≤ t113 + 2) (h225 : v218 = false) (v263 : Int) (t264 : Int) (s265 : Int) (ht267 : t219 ≤ t264 ∧ t264 ≤ t219 + 2) (hq268 : v263 ∈ ([x.Key, x.Key, x.Key, x.Key + 1] : List Int)) (hq271 : (v263 : Int) = x.Key ∨ (v263 : Int) = x.Key ∨ (v263 : Int) = x.Key ∨ (v263 : Int) = (x.Key + 1)) : 4 = (⟨4, v263⟩ : ChestStep).Kind := by
  first | rfl | omega | grind
theorem z_c___spec_l1Cur__chestStep_279 (Lc : List UInt8) (tc : Int) (sc : Int) (nc : Nat) (htc : 0 ≤ tc ∧ tc + 12 ≤ 4611686018427387904) (hbdc : (nc : Int) ≤ 9223372036854775807) (hlec : nc = Lc.length) (x : Chest) (nx_Stack : Nat) (hbdx_Stack : (nx_Stack : Int) ≤ 9223372036854775807) (hlex_Stack : nx_Stack = x.Stack.length) (hp0 : 0 ≤ x.Key ∧ x.Key ≤ 9999) (hp1 : nx_Stack ≤ 1000) (v19 : Bool) (t20 : Int) (s21 : Int) (ht23 : tc ≤ t20 ∧ t20 ≤ tc + 2) (h26 : v19 = false) (v81 : Int) (t82 : Int) (s83 : Int) (ht85 : t20 ≤ t82 ∧ t82 ≤ t20 + 2) (hq86 : v81 ∈ ([5, 17, 42] : List Int)) (hq89 : (5 : Int) ≤ v81 ∧ v81 ≤ 42) (h90 : 0 < (nx_Stack : Int)) (v112 : Int) (t113 : Int) (s114 : Int) (ht116 : t82 ≤ t113 ∧ t113 ≤ t82 + 2) (hq117 : (0 : Int) ≤ v112 ∧ ((v112 : Int) < (nx_Stack : Int) ∨ (v112 : Int) = 0)) (hx122 : x.Stack[v112.toNat]? = some (gt x.Stack v112.toNat)) (h130 : ¬ (x.State = 0)) (h215 : x.State = 2) (v218 : Bool) (t219 : Int) (s220 : Int) (ht222 : t113 ≤ t219 ∧ t219 ≤ t113 + 2) (h225 : v218 = false) (v263 : Int) (t264 : Int) (s265 : Int) (ht267 : t219 ≤ t264 ∧ t264 ≤ t219 + 2) (hq268 : v263 ∈ ([x.Key, x.Key, x.Key, x.Key + 1] : List Int)) (hq271 : (v263 : Int) = x.Key ∨ (v263 : Int) = x.Key ∨ (v263 : Int) = x.Key ∨ (v263 : Int) = (x.Key + 1)) : v263 = (⟨4, v263⟩ : ChestStep).Value := by
  first | rfl | omega | grind
theorem z_c___spec_l1Cur__chestStep_316 (Lc : List UInt8) (tc : Int) (sc : Int) (nc : Nat) (htc : 0 ≤ tc ∧ tc + 12 ≤ 4611686018427387904) (hbdc : (nc : Int) ≤ 9223372036854775807) (hlec : nc = Lc.length) (x : Chest) (nx_Stack : Nat) (hbdx_Stack : (nx_Stack : Int) ≤ 9223372036854775807) (hlex_Stack : nx_Stack = x.Stack.length) (hp0 : 0 ≤ x.Key ∧ x.Key ≤ 9999) (hp1 : nx_Stack ≤ 1000) (v19 : Bool) (t20 : Int) (s21 : Int) (ht23 : tc ≤ t20 ∧ t20 ≤ tc + 2) (h26 : v19 = false) (v81 : Int) (t82 : Int) (s83 : Int) (ht85 : t20 ≤ t82 ∧ t82 ≤ t20 + 2) (hq86 : v81 ∈ ([5, 17, 42] : List Int)) (hq89 : (5 : Int) ≤ v81 ∧ v81 ≤ 42) (h90 : 0 < (nx_Stack : Int)) (v112 : Int) (t113 : Int) (s114 : Int) (ht116 : t82 ≤ t113 ∧ t113 ≤ t82 + 2) (hq117 : (0 : Int) ≤ v112 ∧ ((v112 : Int) < (nx_Stack : Int) ∨ (v112 : Int) = 0)) (hx122 : x.Stack[v112.toNat]? = some (gt x.Stack v112.toNat)) (h130 : ¬ (x.State = 0)) (h215 : ¬ (x.State = 2)) (v282 : Int) (t283 : Int) (s284 : Int) (ht286 : t113 ≤ t283 ∧ t283 ≤ t113 + 2) (hq287 : (0 : Int) ≤ v282 ∧ ((v282 : Int) < 10 ∨ (v282 : Int) = 0)) (h290 : v282 = 0) (v301 : Int) (t302 : Int) (s303 : Int) (ht305 : t283 ≤ t302 ∧ t302 ≤ t283 + 2) (hq306 : v301 ∈ ([1, 5, 17, 42, 100, 101, 102, 103, 998, 999, 1000] : List Int)) (hq309 : (1 : Int) ≤ v301 ∧ v301 ≤ 1000) : 5 = (⟨5, v301⟩ : ChestStep).Kind := by
  first | rfl | omega | grind
theorem z_c___spec_l1Cur__chestStep_317 (Lc : List UInt8) (tc : Int) (sc : Int) (nc : Nat) (htc : 0 ≤ tc ∧ tc + 12 ≤ 4611686018427387904) (hbdc : (nc : Int) ≤ 9223372036854775807) (hlec : nc = Lc.length) (x : Chest) (nx_Stack : Nat) (hbdx_Stack : (nx_Stack : Int) ≤ 9223372036854775807) (hlex_Stack : nx_Stack = x.Stack.length) (hp0 : 0 ≤ x.Key ∧ x.Key ≤ 9999) (hp1 : nx_Stack ≤ 1000) (v19 : Bool) (t20 : Int) (s21 : Int) (ht23 : tc ≤ t20 ∧ t20 ≤ tc + 2) (h26 : v19 = false) (v81 : Int) (t82 : Int) (s83 : Int) (ht85 : t20 ≤ t82 ∧ t82 ≤ t20 + 2) (hq86 : v81 ∈ ([5, 17, 42] : List Int)) (hq89 : (5 : Int) ≤ v81 ∧ v81 ≤ 42) (h90 : 0 < (nx_Stack : Int)) (v112 : Int) (t113 : Int) (s114 : Int) (ht116 : t82 ≤ t113 ∧ t113 ≤ t82 + 2) (hq117 : (0 : Int) ≤ v112 ∧ ((v112 : Int) < (nx_Stack : Int) ∨ (v112 : Int) = 0)) (hx122 : x.Stack[v112.toNat]? = some (gt x.Stack v112.toNat)) (h130 : ¬ (x.State = 0)) (h215 : ¬ (x.State = 2)) (v282 : Int) (t283 : Int) (s284 : Int) (ht286 : t113 ≤ t283 ∧ t283 ≤ t113 + 2) (hq287 : (0 : Int) ≤ v282 ∧ ((v282 : Int) < 10 ∨ (v282 : Int) = 0)) (h290 : v282 = 0) (v301 : Int) (t302 : Int) (s303 : Int) (ht305 : t283 ≤ t302 ∧ t302 ≤ t283 + 2) (hq306 : v301 ∈ ([1, 5, 17, 42, 100, 101, 102, 103, 998, 999, 1000] : List Int)) (hq309 : (1 : Int) ≤ v301 ∧ v301 ≤ 1000) : v301 = (⟨5, v301⟩ : ChestStep).Value := by
  first | rfl | omega | grind
theorem z_c___spec_l1Cur__chestStep_344 (Lc : List UInt8) (tc : Int) (sc : Int) (nc : Nat) (htc : 0 ≤ tc ∧ tc + 12 ≤ 4611686018427387904) (hbdc : (nc : Int) ≤ 9223372036854775807) (hlec : nc = Lc.length) (x : Chest) (nx_Stack : Nat) (hbdx_Stack : (nx_Stack : Int) ≤ 9223372036854775807) (hlex_Stack : nx_Stack = x.Stack.length) (hp0 : 0 ≤ x.Key ∧ x.Key ≤ 9999) (hp1 : nx_Stack ≤ 1000) (v19 : Bool) (t20 : Int) (s21 : Int) (ht23 : tc ≤ t20 ∧ t20 ≤ tc + 2) (h26 : v19 = false) (v81 : Int) (t82 : Int) (s83 : Int) (ht85 : t20 ≤ t82 ∧ t82 ≤ t20 + 2) (hq86 : v81 ∈ ([5, 17, 42] : List Int)) (hq89 : (5 : Int) ≤ v81 ∧ v81 ≤ 42) (h90 : 0 < (nx_Stack : Int)) (v112 : Int) (t113 : Int) (s114 : Int) (ht116 : t82 ≤ t113 ∧ t113 ≤ t82 + 2) (hq117 : (0 : Int) ≤ v112 ∧ ((v112 : Int) < (nx_Stack : Int) ∨ (v112 : Int) = 0)) (hx122 : x.Stack[v112.toNat]? = some (gt x.Stack v112.toNat)) (h130 : ¬ (x.State = 0)) (h215 : ¬ (x.State = 2)) (v282 : Int) (t283 : Int) (s284 : Int) (ht286 : t113 ≤ t283 ∧ t283 ≤ t113 + 2) (hq287 : (0 : Int) ≤ v282 ∧ ((v282 : Int) < 10 ∨ (v282 : Int) = 0)) (h290 : ¬ (v282 = 0)) (h318 : v282 = 1) (v329 : Int) (t330 : Int) (s331 : Int) (ht333 : t283 ≤ t330 ∧ t330 ≤ t283 + 2) (hq334 : v329 ∈ ([1, 5, 17, 42, 100, 101, 102, 103, 998, 999, 1000] : List Int)) (hq337 : (1 : Int) ≤ v329 ∧ v329 ≤ 1000) : 5 = (⟨5, v329⟩ : ChestStep).Kind := by
  first | rfl | omega | grind
theorem z_c___spec_l1Cur__chestStep_345 (Lc : List UInt8) (tc : Int) (sc : Int) (nc : Nat) (htc : 0 ≤ tc ∧ tc + 12 ≤ 4611686018427387904) (hbdc : (nc : Int) ≤ 9223372036854775807) (hlec : nc = Lc.length) (x : Chest) (nx_Stack : Nat) (hbdx_Stack : (nx_Stack : Int) ≤ 9223372036854775807) (hlex_Stack : nx_Stack = x.Stack.length) (hp0 : 0 ≤ x.Key ∧ x.Key ≤ 9999) (hp1 : nx_Stack ≤ 1000) (v19 : Bool) (t20 : Int) (s21 : Int) (ht23 : tc ≤ t20 ∧ t20 ≤ tc + 2) (h26 : v19 = false) (v81 : Int) (t82 : Int) (s83 : Int) (ht85 : t20 ≤ t82 ∧ t82 ≤ t20 + 2) (hq86 : v81 ∈ ([5, 17, 42] : List Int)) (hq89 : (5 : Int) ≤ v81 ∧ v81 ≤ 42) (h90 : 0 < (nx_Stack : Int)) (v112 : Int) (t113 : Int) (s114 : Int) (ht116 : t82 ≤ t113 ∧ t113 ≤ t82 + 2) (hq117 : (0 : Int) ≤ v112 ∧ ((v112 : Int) < (nx_Stack : Int) ∨ (v112 : Int) = 0)) (hx122 : x.Stack[v112.toNat]? = some (gt x.Stack v112.toNat)) (h130 : ¬ (x.State = 0)) (h215 : ¬ (x.State = 2)) (v282 : Int) (t283 : Int) (s284 : Int) (ht286 : t113 ≤ t283 ∧ t283 ≤ t113 + 2) (hq287 : (0 : Int) ≤ v282 ∧ ((v282 : Int) < 10 ∨ (v282 : Int) = 0)) (h290 : ¬ (v282 = 0)) (h318 : v282 = 1) (v329 : Int) (t330 : Int) (s331 : Int) (ht333 : t283 ≤ t330 ∧ t330 ≤ t283 + 2) (hq334 : v329 ∈ ([1, 5, 17, 42, 100, 101, 102, 103, 998, 999, 1000] : List Int)) (hq337 : (1 : Int) ≤ v329 ∧ v329 ≤ 1000) : v329 = (⟨5, v329⟩ : ChestStep).Value := by
  first | rfl | omega | grind
theorem z_c___spec_l1Cur__chestStep_372 (Lc : List UInt8) (tc : Int) (sc : Int) (nc : Nat) (htc : 0 ≤ tc ∧ tc + 12 ≤ 4611686018427387904) (hbdc : (nc : Int) ≤ 9223372036854775807) (hlec : nc = Lc.length) (x : Chest) (nx_Stack : Nat) (hbdx_Stack : (nx_Stack : Int) ≤ 9223372036854775807) (hlex_Stack : nx_Stack = x.Stack.length) (hp0 : 0 ≤ x.Key ∧ x.Key ≤ 9999) (hp1 : nx_Stack ≤ 1000) (v19 : Bool) (t20 : Int) (s21 : Int) (ht23 : tc ≤ t20 ∧ t20 ≤ tc + 2) (h26 : v19 = false) (v81 : Int) (t82 : Int) (s83 : Int) (ht85 : t20 ≤ t82 ∧ t82 ≤ t20 + 2) (hq86 : v81 ∈ ([5, 17, 42] : List Int)) (hq89 : (5 : Int) ≤ v81 ∧ v81 ≤ 42) (h90 : 0 < (nx_Stack : Int)) (v112 : Int) (t113 : Int) (s114 : Int) (ht116 : t82 ≤ t113 ∧ t113 ≤ t82 + 2) (hq117 : (0 : Int) ≤ v112 ∧ ((v112 : Int) < (nx_Stack : Int) ∨ (v112 : Int) = 0)) (hx122 : x.Stack[v112.toNat]? = some (gt x.Stack v112.toNat)) (h130 : ¬ (x.State = 0)) (h215 : ¬ (x.State = 2)) (v282 : Int) (t283 : Int) (s284 : Int) (ht286 : t113 ≤ t283 ∧ t283 ≤ t113 + 2) (hq287 : (0 : Int) ≤ v282 ∧ ((v282 : Int) < 10 ∨ (v282 : Int) = 0)) (h290 : ¬ (v282 = 0)) (h318 : ¬ (v282 = 1)) (h346 : v282 = 2) (v357 : Int) (t358 : Int) (s359 : Int) (ht361 : t283 ≤ t358 ∧ t358 ≤ t283 + 2) (hq362 : v357 ∈ ([1, 5, 17, 42, 100, 101, 102, 103, 998, 999, 1000] : List Int)) (hq365 : (1 : Int) ≤ v357 ∧ v357 ≤ 1000) : 5 = (⟨5, v357⟩ : ChestStep).Kind := by
  first | rfl | omega | grind
theorem z_c___spec_l1Cur__chestStep_373 (Lc : List UInt8) (tc : Int) (sc : Int) (nc : Nat) (htc : 0 ≤ tc ∧ tc + 12 ≤ 4611686018427387904) (hbdc : (nc : Int) ≤ 9223372036854775807) (hlec : nc = Lc.length) (x : Chest) (nx_Stack : Nat) (hbdx_Stack : (nx_Stack : Int) ≤ 9223372036854775807) (hlex_Stack : nx_Stack = x.Stack.length) (hp0 : 0 ≤ x.Key ∧ x.Key ≤ 9999) (hp1 : nx_Stack ≤ 1000) (v19 : Bool) (t20 : Int) (s21 : Int) (ht23 : tc ≤ t20 ∧ t20 ≤ tc + 2) (h26 : v19 = false) (v81 : Int) (t82 : Int) (s83 : Int) (ht85 : t20 ≤ t82 ∧ t82 ≤ t20 + 2) (hq86 : v81 ∈ ([5, 17, 42] : List Int)) (hq89 : (5 : Int) ≤ v81 ∧ v81 ≤ 42) (h90 : 0 < (nx_Stack : Int)) (v112 : Int) (t113 : Int) (s114 : Int) (ht116 : t82 ≤ t113 ∧ t113 ≤ t82 + 2) (hq117 : (0 : Int) ≤ v112 ∧ ((v112 : Int) < (nx_Stack : Int) ∨ (v112 : Int) = 0)) (hx122 : x.Stack[v112.toNat]? = some (gt x.Stack v112.toNat)) (h130 : ¬ (x.State = 0)) (h215 : ¬ (x.State = 2)) (v282 : Int) (t283 : Int) (s284 : Int) (ht286 : t113 ≤ t283 ∧ t283 ≤ t113 + 2) (hq287 : (0 : Int) ≤ v282 ∧ ((v282 : Int) < 10 ∨ (v282 : Int) = 0)) (h290 : ¬ (v282 = 0)) (h318 : ¬ (v282 = 1)) (h346 : v282 = 2) (v357 : Int) (t358 : Int) (s359 : Int) (ht361 : t283 ≤ t358 ∧ t358 ≤ t283 + 2) (hq362 : v357 ∈ ([1, 5, 17, 42, 100, 101, 102, 103, 998, 999, 1000] : List Int)) (hq365 : (1 : Int) ≤ v357 ∧ v357 ≤ 1000) : v357 = (⟨5, v357⟩ : ChestStep).Value := by
  first | rfl | omega | grind
theorem z_c___spec_l1Cur__chestStep_400 (Lc : List UInt8) (tc : Int) (sc : Int) (nc : Nat) (htc : 0 ≤ tc ∧ tc + 12 ≤ 4611686018427387904) (hbdc : (nc : Int) ≤ 9223372036854775807) (hlec : nc = Lc.length) (x : Chest) (nx_Stack : Nat) (hbdx_Stack : (nx_Stack : Int) ≤ 9223372036854775807) (hlex_Stack : nx_Stack = x.Stack.length) (hp0 : 0 ≤ x.Key ∧ x.Key ≤ 9999) (hp1 : nx_Stack ≤ 1000) (v19 : Bool) (t20 : Int) (s21 : Int) (ht23 : tc ≤ t20 ∧ t20 ≤ tc + 2) (h26 : v19 = false) (v81 : Int) (t82 : Int) (s83 : Int) (ht85 : t20 ≤ t82 ∧ t82 ≤ t20 + 2) (hq86 : v81 ∈ ([5, 17, 42] : List Int)) (hq89 : (5 : Int) ≤ v81 ∧ v81 ≤ 42) (h90 : 0 < (nx_Stack : Int)) (v112 : Int) (t113 : Int) (s114 : Int) (ht116 : t82 ≤ t113 ∧ t113 ≤ t82 + 2) (hq117 : (0 : Int) ≤ v112 ∧ ((v112 : Int) < (nx_Stack : Int) ∨ (v112 : Int) = 0)) (hx122 : x.Stack[v112.toNat]? = some (gt x.Stack v112.toNat)) (h130 : ¬ (x.State = 0)) (h215 : ¬ (x.State = 2)) (v282 : Int) (t283 : Int) (s284 : Int) (ht286 : t113 ≤ t283 ∧ t283 ≤ t113 + 2) (hq287 : (0 : Int) ≤ v282 ∧ ((v282 : Int) < 10 ∨ (v282 : Int) = 0)) (h290 : ¬ (v282 = 0)) (h318 : ¬ (v282 = 1)) (h346 : ¬ (v282 = 2)) (h374 : v282 = 3) (v385 : Int) (t386 : Int) (s387 : Int) (ht389 : t283 ≤ t386 ∧ t386 ≤ t283 + 2) (hq390 : v385 ∈ ([1, 5, 17, 42, 100, 101, 102, 103, 998, 999, 1000] : List Int)) (hq393 : (1 : Int) ≤ v385 ∧ v385 ≤ 1000) : 5 = (⟨5, v385⟩ : ChestStep).Kind := by
  first | rfl | omega | grind
theorem z_c___spec_l1Cur__chestStep_401 (Lc : List UInt8) (tc : Int) (sc : Int) (nc : Nat) (htc : 0 ≤ tc ∧ tc + 12 ≤ 4611686018427387904) (hbdc : (nc : Int) ≤ 9223372036854775807) (hlec : nc = Lc.length) (x : Chest) (nx_Stack : Nat) (hbdx_Stack : (nx_Stack : Int) ≤ 9223372036854775807) (hlex_Stack : nx_Stack = x.Stack.length) (hp0 : 0 ≤ x.Key ∧ x.Key ≤ 9999) (hp1 : nx_Stack ≤ 1000) (v19 : Bool) (t20 : Int) (s21 : Int) (ht23 : tc ≤ t20 ∧ t20 ≤ tc + 2) (h26 : v19 = false) (v81 : Int) (t82 : Int) (s83 : Int) (ht85 : t20 ≤ t82 ∧ t82 ≤ t20 + 2) (hq86 : v81 ∈ ([5, 17, 42] : List Int)) (hq89 : (5 : Int) ≤ v81 ∧ v81 ≤ 42) (h90 : 0 < (nx_Stack : Int)) (v112 : Int) (t113 : Int) (s114 : Int) (ht116 : t82 ≤ t113 ∧ t113 ≤ t82 + 2) (hq117 : (0 : Int) ≤ v112 ∧ ((v112 : Int) < (nx_Stack : Int) ∨ (v112 : Int) = 0)) (hx122 : x.Stack[v112.toNat]? = some (gt x.Stack v112.toNat)) (h130 : ¬ (x.State = 0)) (h215 : ¬ (x.State = 2)) (v282 : Int) (t283 : Int) (s284 : Int) (ht286 : t113 ≤ t283 ∧ t283 ≤ t113 + 2) (hq287 : (0 : Int) ≤ v282 ∧ ((v282 : Int) < 10 ∨ (v282 : Int) = 0)) (h290 : ¬ (v282 = 0)) (h318 : ¬ (v282 = 1)) (h346 : ¬ (v282 = 2)) (h374 : v282 = 3) (v385 : Int) (t386 : Int) (s387 : Int) (ht389 : t283 ≤ t386 ∧ t386 ≤ t283 + 2) (hq390 : v385 ∈ ([1, 5, 17, 42, 100, 101, 102, 103, 998, 999, 1000] : List Int)) (hq393 : (1 : Int) ≤ v385 ∧ v385 ≤ 1000) : v385 = (⟨5, v385⟩ : ChestStep).Value := by
  first | rfl | omega | grind
theorem z_c___spec_l1Cur__chestStep_409 (Lc : List UInt8) (tc : Int) (sc : Int) (nc : Nat) (htc : 0 ≤ tc ∧ tc + 12 ≤ 4611686018427387904) (hbdc : (nc : Int) ≤ 9223372036854775807) (hlec : nc = Lc.length) (x : Chest) (nx_Stack : Nat) (hbdx_Stack : (nx_Stack : Int) ≤ 9223372036854775807) (hlex_Stack : nx_Stack = x.Stack.length) (hp0 : 0 ≤ x.Key ∧ x.Key ≤ 9999) (hp1 : nx_Stack ≤ 1000) (v19 : Bool) (t20 : Int) (s21 : Int) (ht23 : tc ≤ t20 ∧ t20 ≤ tc + 2) (h26 : v19 = false) (v81 : Int) (t82 : Int) (s83 : Int) (ht85 : t20 ≤ t82 ∧ t82 ≤ t20 + 2) (hq86 : v81 ∈ ([5, 17, 42] : List Int)) (hq89 : (5 : Int) ≤ v81 ∧ v81 ≤ 42) (h90 : 0 < (nx_Stack : Int)) (v112 : Int) (t113 : Int) (s114 : Int) (ht116 : t82 ≤ t113 ∧ t113 ≤ t82 + 2) (hq117 : (0 : Int) ≤ v112 ∧ ((v112 : Int) < (nx_Stack : Int) ∨ (v112 : Int) = 0)) (hx122 : x.Stack[v112.toNat]? = some (gt x.Stack v112.toNat)) (h130 : ¬ (x.State = 0)) (h215 : ¬ (x.State = 2)) (v282 : Int) (t283 : Int) (s284 : Int) (ht286 : t113 ≤ t283 ∧ t283 ≤ t113 + 2) (hq287 : (0 : Int) ≤ v282 ∧ ((v282 : Int) < 10 ∨ (v282 : Int) = 0)) (h290 : ¬ (v282 = 0)) (h318 : ¬ (v282 = 1)) (h346 : ¬ (v282 = 2)) (h374 : ¬ (v282 = 3)) (h402 : v282 = 4) : 6 = (⟨6, (gt x.Stack v112.toNat)⟩ : ChestStep).Kind := by
  first | rfl | omega | grind
theorem z_c___spec_l1Cur__chestStep_410 (Lc : List UInt8) (tc : Int) (sc : Int) (nc : Nat) (htc : 0 ≤ tc ∧ tc + 12 ≤ 4611686018427387904) (hbdc : (nc : Int) ≤ 9223372036854775807) (hlec : nc = Lc.length) (x : Chest) (nx_Stack : Nat) (hbdx_Stack : (nx_Stack : Int) ≤ 9223372036854775807) (hlex_Stack : nx_Stack = x.Stack.length) (hp0 : 0 ≤ x.Key ∧ x.Key ≤ 9999) (hp1 : nx_Stack ≤ 1000) (v19 : Bool) (t20 : Int) (s21 : Int) (ht23 : tc ≤ t20 ∧ t20 ≤ tc + 2) (h26 : v19 = false) (v81 : Int) (t82 : Int) (s83 : Int) (ht85 : t20 ≤ t82 ∧ t82 ≤ t20 + 2) (hq86 : v81 ∈ ([5, 17, 42] : List Int)) (hq89 : (5 : Int) ≤ v81 ∧ v81 ≤ 42) (h90 : 0 < (nx_Stack : Int)) (v112 : Int) (t113 : Int) (s114 : Int) (ht116 : t82 ≤ t113 ∧ t113 ≤ t82 + 2) (hq117 : (0 : Int) ≤ v112 ∧ ((v112 : Int) < (nx_Stack : Int) ∨ (v112 : Int) = 0)) (hx122 : x.Stack[v112.toNat]? = some (gt x.Stack v112.toNat)) (h130 : ¬ (x.State = 0)) (h215 : ¬ (x.State = 2)) (v282 : Int) (t283 : Int) (s284 : Int) (ht286 : t113 ≤ t283 ∧ t283 ≤ t113 + 2) (hq287 : (0 : Int) ≤ v282 ∧ ((v282 : Int) < 10 ∨ (v282 : Int) = 0)) (h290 : ¬ (v282 = 0)) (h318 : ¬ (v282 = 1)) (h346 : ¬ (v282 = 2)) (h374 : ¬ (v282 = 3)) (h402 : v282 = 4) : (gt x.Stack v112.toNat) = (⟨6, (gt x.Stack v112.toNat)⟩ : ChestStep).Value := by
  first | rfl | omega | grind
theorem z_c___spec_l1Cur__chestStep_418 (Lc : List UInt8) (tc : Int) (sc : Int) (nc : Nat) (htc : 0 ≤ tc ∧ tc + 12 ≤ 4611686018427387904) (hbdc : (nc : Int) ≤ 9223372036854775807) (hlec : nc = Lc.length) (x : Chest) (nx_Stack : Nat) (hbdx_Stack : (nx_Stack : Int) ≤ 9223372036854775807) (hlex_Stack : nx_Stack = x.Stack.length) (hp0 : 0 ≤ x.Key ∧ x.Key ≤ 9999) (hp1 : nx_Stack ≤ 1000) (v19 : Bool) (t20 : Int) (s21 : Int) (ht23 : tc ≤ t20 ∧ t20 ≤ tc + 2) (h26 : v19 = false) (v81 : Int) (t82 : Int) (s83 : Int) (ht85 : t20 ≤ t82 ∧ t82 ≤ t20 + 2) (hq86 : v81 ∈ ([5, 17, 42] : List Int)) (hq89 : (5 : Int) ≤ v81 ∧ v81 ≤ 42) (h90 : 0 < (nx_Stack : Int)) (v112 : Int) (t113 : Int) (s114 : Int) (ht116 : t82 ≤ t113 ∧ t113 ≤ t82 + 2) (hq117 : (0 : Int) ≤ v112 ∧ ((v112 : Int) < (nx_Stack : Int) ∨ (v112 : Int) = 0)) (hx122 : x.Stack[v112.toNat]? = some (gt x.Stack v112.toNat)) (h130 : ¬ (x.State = 0)) (h215 : ¬ (x.State = 2)) (v282 : Int) (t283 : Int) (s284 : Int) (ht286 : t113 ≤ t283 ∧ t283 ≤ t113 + 2) (hq287 : (0 : Int) ≤ v282 ∧ ((v282 : Int) < 10 ∨ (v282 : Int) = 0)) (h290 : ¬ (v282 = 0)) (h318 : ¬ (v282 = 1)) (h346 : ¬ (v282 = 2)) (h374 : ¬ (v282 = 3)) (h402 : ¬ (v282 = 4)) (h411 : v282 = 5) : 6 = (⟨6, (gt x.Stack v112.toNat)⟩ : ChestStep).Kind := by
  first | rfl | omega | grind
theorem z_c___spec_l1Cur__chestStep_419 (Lc : List UInt8) (tc : Int) (sc : Int) (nc : Nat) (htc : 0 ≤ tc ∧ tc + 12 ≤ 4611686018427387904) (hbdc : (nc : Int) ≤ 9223372036854775807) (hlec : nc = Lc.length) (x : Chest) (nx_Stack : Nat) (hbdx_Stack : (nx_Stack : Int) ≤ 9223372036854775807) (hlex_Stack : nx_Stack = x.Stack.length) (hp0 : 0 ≤ x.Key ∧ x.Key ≤ 9999) (hp1 : nx_Stack ≤ 1000) (v19 : Bool) (t20 : Int) (s21 : Int) (ht23 : tc ≤ t20 ∧ t20 ≤ tc + 2) (h26 : v19 = false) (v81 : Int) (t82 : Int) (s83 : Int) (ht85 : t20 ≤ t82 ∧ t82 ≤ t20 + 2) (hq86 : v81 ∈ ([5, 17, 42] : List Int)) (hq89 : (5 : Int) ≤ v81 ∧ v81 ≤ 42) (h90 : 0 < (nx_Stack : Int)) (v112 : Int) (t113 : Int) (s114 : Int) (ht116 : t82 ≤ t113 ∧ t113 ≤ t82 + 2) (hq117 : (0 : Int) ≤ v112 ∧ ((v112 : Int) < (nx_Stack : Int) ∨ (v112 : Int) = 0)) (hx122 : x.Stack[v112.toNat]? = some (gt x.Stack v112.toNat)) (h130 : ¬ (x.State = 0)) (h215 : ¬ (x.State = 2)) (v282 : Int) (t283 : Int) (s284 : Int) (ht286 : t113 ≤ t283 ∧ t283 ≤ t113 + 2) (hq287 : (0 : Int) ≤ v282 ∧ ((v282 : Int) < 10 ∨ (v282 : Int) = 0)) (h290 : ¬ (v282 = 0)) (h318 : ¬ (v282 = 1)) (h346 : ¬ (v282 = 2)) (h374 : ¬ (v282 = 3)) (h402 : ¬ (v282 = 4)) (h411 : v282 = 5) : (gt x.Stack v112.toNat) = (⟨6, (gt x.Stack v112.toNat)⟩ : ChestStep).Value := by
  first | rfl | omega | grind
theorem z_c___spec_l1Cur__chestStep_446 (Lc : List UInt8) (tc : Int) (sc : Int) (nc : Nat) (htc : 0 ≤ tc ∧ tc + 12 ≤ 4611686018427387904) (hbdc : (nc : Int) ≤ 9223372036854775807) (hlec : nc = Lc.length) (x : Chest) (nx_Stack : Nat) (hbdx_Stack : (nx_Stack : Int) ≤ 9223372036854775807) (hlex_Stack : nx_Stack = x.Stack.length) (hp0 : 0 ≤ x.Key ∧ x.Key ≤ 9999) (hp1 : nx_Stack ≤ 1000) (v19 : Bool) (t20 : Int) (s21 : Int) (ht23 : tc ≤ t20 ∧ t20 ≤ tc + 2) (h26 : v19 = false) (v81 : Int) (t82 : Int) (s83 : Int) (ht85 : t20 ≤ t82 ∧ t82 ≤ t20 + 2) (hq86 : v81 ∈ ([5, 17, 42] : List Int)) (hq89 : (5 : Int) ≤ v81 ∧ v81 ≤ 42) (h90 : 0 < (nx_Stack : Int)) (v112 : Int) (t113 : Int) (s114 : Int) (ht116 : t82 ≤ t113 ∧ t113 ≤ t82 + 2) (hq117 : (0 : Int) ≤ v112 ∧ ((v112 : Int) < (nx_Stack : Int) ∨ (v112 : Int) = 0)) (hx122 : x.Stack[v112.toNat]? = some (gt x.Stack v112.toNat)) (h130 : ¬ (x.State = 0)) (h215 : ¬ (x.State = 2)) (v282 : Int) (t283 : Int) (s284 : Int) (ht286 : t113 ≤ t283 ∧ t283 ≤ t113 + 2) (hq287 : (0 : Int) ≤ v282 ∧ ((v282 : Int) < 10 ∨ (v282 : Int) = 0)) (h290 : ¬ (v282 = 0)) (h318 : ¬ (v282 = 1)) (h346 : ¬ (v282 = 2)) (h374 : ¬ (v282 = 3)) (h402 : ¬ (v282 = 4)) (h411 : ¬ (v282 = 5)) (h420 : v282 = 6) (v431 : Int) (t432 : Int) (s433 : Int) (ht435 : t283 ≤ t432 ∧ t432 ≤ t283 + 2) (hq436 : v431 ∈ ([0, 1, 30, 100, 101] : List Int)) (hq439 : (0 : Int) ≤ v431 ∧ v431 ≤ 101) : 7 = (⟨7, v431⟩ : ChestStep).Kind := by
  first | rfl | omega | grind
theorem z_c___spec_l1Cur__chestStep_447 (Lc : List UInt8) (tc : Int) (sc : Int) (nc : Nat) (htc : 0 ≤ tc ∧ tc + 12 ≤ 4611686018427387904) (hbdc : (nc : Int) ≤ 9223372036854775807) (hlec : nc = Lc.length) (x : Chest) (nx_Stack : Nat) (hbdx_Stack : (nx_Stack : Int) ≤ 9223372036854775807) (hlex_Stack : nx_Stack = x.Stack.length) (hp0 : 0 ≤ x.Key ∧ x.Key ≤ 9999) (hp1 : nx_Stack ≤ 1000) (v19 : Bool) (t20 : Int) (s21 : Int) (ht23 : tc ≤ t20 ∧ t20 ≤ tc + 2) (h26 : v19 = false) (v81 : Int) (t82 : Int) (s83 : Int) (ht85 : t20 ≤ t82 ∧ t82 ≤ t20 + 2) (hq86 : v81 ∈ ([5, 17, 42] : List Int)) (hq89 : (5 : Int) ≤ v81 ∧ v81 ≤ 42) (h90 : 0 < (nx_Stack : Int)) (v112 : Int) (t113 : Int) (s114 : Int) (ht116 : t82 ≤ t113 ∧ t113 ≤ t82 + 2) (hq117 : (0 : Int) ≤ v112 ∧ ((v112 : Int) < (nx_Stack : Int) ∨ (v112 : Int) = 0)) (hx122 : x.Stack[v112.toNat]? = some (gt x.Stack v112.toNat)) (h130 : ¬ (x.State = 0)) (h215 : ¬ (x.State = 2)) (v282 : Int) (t283 : Int) (s284 : Int) (ht286 : t113 ≤ t283 ∧ t283 ≤ t113 + 2) (hq287 : (0 : Int) ≤ v282 ∧ ((v282 : Int) < 10 ∨ (v282 : Int) = 0)) (h290 : ¬ (v282 = 0)) (h318 : ¬ (v282 = 1)) (h346 : ¬ (v282 = 2)) (h374 : ¬ (v282 = 3)) (h402 : ¬ (v282 = 4)) (h411 : ¬ (v282 = 5)) (h420 : v282 = 6) (v431 : Int) (t432 : Int) (s433 : Int) (ht435 : t283 ≤ t432 ∧ t432 ≤ t283 + 2) (hq436 : v431 ∈ ([0, 1, 30, 100, 101] : List Int)) (hq439 : (0 : Int) ≤ v431 ∧ v431 ≤ 101) : v431 = (⟨7, v431⟩ : ChestStep).Value := by
  first | rfl | omega | grind
theorem z_c___spec_l1Cur__chestStep_474 (Lc : List UInt8) (tc : Int) (sc : Int) (nc : Nat) (htc : 0 ≤ tc ∧ tc + 12 ≤ 4611686018427387904) (hbdc : (nc : Int) ≤ 9223372036854775807) (hlec : nc = Lc.length) (x : Chest) (nx_Stack : Nat) (hbdx_Stack : (nx_Stack : Int) ≤ 9223372036854775807) (hlex_Stack : nx_Stack = x.Stack.length) (hp0 : 0 ≤ x.Key ∧ x.Key ≤ 9999) (hp1 : nx_Stack ≤ 1000) (v19 : Bool) (t20 : Int) (s21 : Int) (ht23 : tc ≤ t20 ∧ t20 ≤ tc + 2) (h26 : v19 = false) (v81 : Int) (t82 : Int) (s83 : Int) (ht85 : t20 ≤ t82 ∧ t82 ≤ t20 + 2) (hq86 : v81 ∈ ([5, 17, 42] : List Int)) (hq89 : (5 : Int) ≤ v81 ∧ v81 ≤ 42) (h90 : 0 < (nx_Stack : Int)) (v112 : Int) (t113 : Int) (s114 : Int) (ht116 : t82 ≤ t113 ∧ t113 ≤ t82 + 2) (hq117 : (0 : Int) ≤ v112 ∧ ((v112 : Int) < (nx_Stack : Int) ∨ (v112 : Int) = 0)) (hx122 : x.Stack[v112.toNat]? = some (gt x.Stack v112.toNat)) (h130 : ¬ (x.State = 0)) (h215 : ¬ (x.State = 2)) (v282 : Int) (t283 : Int) (s284 : Int) (ht286 : t113 ≤ t283 ∧ t283 ≤ t113 + 2) (hq287 : (0 : Int) ≤ v282 ∧ ((v282 : Int) < 10 ∨ (v282 : Int) = 0)) (h290 : ¬ (v282 = 0)) (h318 : ¬ (v282 = 1)) (h346 : ¬ (v282 = 2)) (h374 : ¬ (v282 = 3)) (h402 : ¬ (v282 = 4)) (h411 : ¬ (v282 = 5)) (h420 : ¬ (v282 = 6)) (h448 : v282 = 7) (v459 : Int) (t460 : Int) (s461 : Int) (ht463 : t283 ≤ t460 ∧ t460 ≤ t283 + 2) (hq464 : v459 ∈ ([0, 1, 30, 100, 101] : List Int)) (hq467 : (0 : Int) ≤ v459 ∧ v459 ≤ 101) : 7 = (⟨7, v459⟩ : ChestStep).Kind := by
  first | rfl | omega | grind
theorem z_c___spec_l1Cur__chestStep_475 (Lc : List UInt8) (tc : Int) (sc : Int) (nc : Nat) (htc : 0 ≤ tc ∧ tc + 12 ≤ 4611686018427387904) (hbdc : (nc : Int) ≤ 9223372036854775807) (hlec : nc = Lc.length) (x : Chest) (nx_Stack : Nat) (hbdx_Stack : (nx_Stack : Int) ≤ 9223372036854775807) (hlex_Stack : nx_Stack = x.Stack.length) (hp0 : 0 ≤ x.Key ∧ x.Key ≤ 9999) (hp1 : nx_Stack ≤ 1000) (v19 : Bool) (t20 : Int) (s21 : Int) (ht23 : tc ≤ t20 ∧ t20 ≤ tc + 2) (h26 : v19 = false) (v81 : Int) (t82 : Int) (s83 : Int) (ht85 : t20 ≤ t82 ∧ t82 ≤ t20 + 2) (hq86 : v81 ∈ ([5, 17, 42] : List Int)) (hq89 : (5 : Int) ≤ v81 ∧ v81 ≤ 42) (h90 : 0 < (nx_Stack : Int)) (v112 : Int) (t113 : Int) (s114 : Int) (ht116 : t82 ≤ t113 ∧ t113 ≤ t82 + 2) (hq117 : (0 : Int) ≤ v112 ∧ ((v112 : Int) < (nx_Stack : Int) ∨ (v112 : Int) = 0)) (hx122 : x.Stack[v112.toNat]? = some (gt x.Stack v112.toNat)) (h130 : ¬ (x.State = 0)) (h215 : ¬ (x.State = 2)) (v282 : Int) (t283 : Int) (s284 : Int) (ht286 : t113 ≤ t283 ∧ t283 ≤ t113 + 2) (hq287 : (0 : Int) ≤ v282 ∧ ((v282 : Int) < 10 ∨ (v282 : Int) = 0)) (h290 : ¬ (v282 = 0)) (h318 : ¬ (v282 = 1)) (h346 : ¬ (v282 = 2)) (h374 : ¬ (v282 = 3)) (h402 : ¬ (v282 = 4)) (h411 : ¬ (v282 = 5)) (h420 : ¬ (v282 = 6)) (h448 : v282 = 7) (v459 : Int) (t460 : Int) (s461 : Int) (ht463 : t283 ≤ t460 ∧ t460 ≤ t283 + 2) (hq464 : v459 ∈ ([0, 1, 30, 100, 101] : List Int)) (hq467 : (0 : Int) ≤ v459 ∧ v459 ≤ 101) : v459 = (⟨7, v459⟩ : ChestStep).Value := by
  first | rfl | omega | grind
theorem z_c___spec_l1Cur__chestStep_483 (Lc : List UInt8) (tc : Int) (sc : Int) (nc : Nat) (htc : 0 ≤ tc ∧ tc + 12 ≤ 4611686018427387904) (hbdc : (nc : Int) ≤ 9223372036854775807) (hlec : nc = Lc.length) (x : Chest) (nx_Stack : Nat) (hbdx_Stack : (nx_Stack : Int) ≤ 9223372036854775807) (hlex_Stack : nx_Stack = x.Stack.length) (hp0 : 0 ≤ x.Key ∧ x.Key ≤ 9999) (hp1 : nx_Stack ≤ 1000) (v19 : Bool) (t20 : Int) (s21 : Int) (ht23 : tc ≤ t20 ∧ t20 ≤ tc + 2) (h26 : v19 = false) (v81 : Int) (t82 : Int) (s83 : Int) (ht85 : t20 ≤ t82 ∧ t82 ≤ t20 + 2) (hq86 : v81 ∈ ([5, 17, 42] : List Int)) (hq89 : (5 : Int) ≤ v81 ∧ v81 ≤ 42) (h90 : 0 < (nx_Stack : Int)) (v112 : Int) (t113 : Int) (s114 : Int) (ht116 : t82 ≤ t113 ∧ t113 ≤ t82 + 2) (hq117 : (0 : Int) ≤ v112 ∧ ((v112 : Int) < (nx_Stack : Int) ∨ (v112 : Int) = 0)) (hx122 : x.Stack[v112.toNat]? = some (gt x.Stack v112.toNat)) (h130 : ¬ (x.State = 0)) (h215 : ¬ (x.State = 2)) (v282 : Int) (t283 : Int) (s284 : Int) (ht286 : t113 ≤ t283 ∧ t283 ≤ t113 + 2) (hq287 : (0 : Int) ≤ v282 ∧ ((v282 : Int) < 10 ∨ (v282 : Int) = 0)) (h290 : ¬ (v282 = 0)) (h318 : ¬ (v282 = 1)) (h346 : ¬ (v282 = 2)) (h374 : ¬ (v282 = 3)) (h402 : ¬ (v282 = 4)) (h411 : ¬ (v282 = 5)) (h420 : ¬ (v282 = 6)) (h448 : ¬ (v282 = 7)) (h476 : v282 = 8) : 2 = (⟨2, 0⟩ : ChestStep).Kind := by
  first | rfl | omega | grind
theorem z_c___spec_l1Cur__chestStep_484 (Lc : List UInt8) (tc : Int) (sc : Int) (nc : Nat) (htc : 0 ≤ tc ∧ tc + 12 ≤ 4611686018427387904) (hbdc : (nc : Int) ≤ 9223372036854775807) (hlec : nc = Lc.length) (x : Chest) (nx_Stack : Nat) (hbdx_Stack : (nx_Stack : Int) ≤ 9223372036854775807) (hlex_Stack : nx_Stack = x.Stack.length) (hp0 : 0 ≤ x.Key ∧ x.Key ≤ 9999) (hp1 : nx_Stack ≤ 1000) (v19 : Bool) (t20 : Int) (s21 : Int) (ht23 : tc ≤ t20 ∧ t20 ≤ tc + 2) (h26 : v19 = false) (v81 : Int) (t82 : Int) (s83 : Int) (ht85 : t20 ≤ t82 ∧ t82 ≤ t20 + 2) (hq86 : v81 ∈ ([5, 17, 42] : List Int)) (hq89 : (5 : Int) ≤ v81 ∧ v81 ≤ 42) (h90 : 0 < (nx_Stack : Int)) (v112 : Int) (t113 : Int) (s114 : Int) (ht116 : t82 ≤ t113 ∧ t113 ≤ t82 + 2) (hq117 : (0 : Int) ≤ v112 ∧ ((v112 : Int) < (nx_Stack : Int) ∨ (v112 : Int) = 0)) (hx122 : x.Stack[v112.toNat]? = some (gt x.Stack v112.toNat)) (h130 : ¬ (x.State = 0)) (h215 : ¬ (x.State = 2)) (v282 : Int) (t283 : Int) (s284 : Int) (ht286 : t113 ≤ t283 ∧ t283 ≤ t113 + 2) (hq287 : (0 : Int) ≤ v282 ∧ ((v282 : Int) < 10 ∨ (v282 : Int) = 0)) (h290 : ¬ (v282 = 0)) (h318 : ¬ (v282 = 1)) (h346 : ¬ (v282 = 2)) (h374 : ¬ (v282 = 3)) (h402 : ¬ (v282 = 4)) (h411 : ¬ (v282 = 5)) (h420 : ¬ (v282 = 6)) (h448 : ¬ (v282 = 7)) (h476 : v282 = 8) : 0 = (⟨2, 0⟩ : ChestStep).Value := by
  first | rfl | omega | grind
theorem z_c___spec_l1Cur__chestStep_491 (Lc : List UInt8) (tc : Int) (sc : Int) (nc : Nat) (htc : 0 ≤ tc ∧ tc + 12 ≤ 4611686018427387904) (hbdc : (nc : Int) ≤ 9223372036854775807) (hlec : nc = Lc.length) (x : Chest) (nx_Stack : Nat) (hbdx_Stack : (nx_Stack : Int) ≤ 9223372036854775807) (hlex_Stack : nx_Stack = x.Stack.length) (hp0 : 0 ≤ x.Key ∧ x.Key ≤ 9999) (hp1 : nx_Stack ≤ 1000) (v19 : Bool) (t20 : Int) (s21 : Int) (ht23 : tc ≤ t20 ∧ t20 ≤ tc + 2) (h26 : v19 = false) (v81 : Int) (t82 : Int) (s83 : Int) (ht85 : t20 ≤ t82 ∧ t82 ≤ t20 + 2) (hq86 : v81 ∈ ([5, 17, 42] : List Int)) (hq89 : (5 : Int) ≤ v81 ∧ v81 ≤ 42) (h90 : 0 < (nx_Stack : Int)) (v112 : Int) (t113 : Int) (s114 : Int) (ht116 : t82 ≤ t113 ∧ t113 ≤ t82 + 2) (hq117 : (0 : Int) ≤ v112 ∧ ((v112 : Int) < (nx_Stack : Int) ∨ (v112 : Int) = 0)) (hx122 : x.Stack[v112.toNat]? = some (gt x.Stack v112.toNat)) (h130 : ¬ (x.State = 0)) (h215 : ¬ (x.State = 2)) (v282 : Int) (t283 : Int) (s284 : Int) (ht286 : t113 ≤ t283 ∧ t283 ≤ t113 + 2) (hq287 : (0 : Int) ≤ v282 ∧ ((v282 : Int) < 10 ∨ (v282 : Int) = 0)) (h290 : ¬ (v282 = 0)) (h318 : ¬ (v282 = 1)) (h346 : ¬ (v282 = 2)) (h374 : ¬ (v282 = 3)) (h402 : ¬ (v282 = 4)) (h411 : ¬ (v282 = 5)) (h420 : ¬ (v282 = 6)) (h448 : ¬ (v282 = 7)) (h476 : ¬ (v282 = 8)) : 1 = (⟨1, 0⟩ : ChestStep).Kind := by
  first | rfl | omega | grind
theorem z_c___spec_l1Cur__chestStep_492 (Lc : List UInt8) (tc : Int) (sc : Int) (nc : Nat) (htc : 0 ≤ tc ∧ tc + 12 ≤ 4611686018427387904) (hbdc : (nc : Int) ≤ 9223372036854775807) (hlec : nc = Lc.length) (x : Chest) (nx_Stack : Nat) (hbdx_Stack : (nx_Stack : Int) ≤ 9223372036854775807) (hlex_Stack : nx_Stack = x.Stack.length) (hp0 : 0 ≤ x.Key ∧ x.Key ≤ 9999) (hp1 : nx_Stack ≤ 1000) (v19 : Bool) (t20 : Int) (s21 : Int) (ht23 : tc ≤ t20 ∧ t20 ≤ tc + 2) (h26 : v19 = false) (v81 : Int) (t82 : Int) (s83 : Int) (ht85 : t20 ≤ t82 ∧ t82 ≤ t20 + 2) (hq86 : v81 ∈ ([5, 17, 42] : List Int)) (hq89 : (5 : Int) ≤ v81 ∧ v81 ≤ 42) (h90 : 0 < (nx_Stack : Int)) (v112 : Int) (t113 : Int) (s114 : Int) (ht116 : t82 ≤ t113 ∧ t113 ≤ t82 + 2) (hq117 : (0 : Int) ≤ v112 ∧ ((v112 : Int) < (nx_Stack : Int) ∨ (v112 : Int) = 0)) (hx122 : x.Stack[v112.toNat]? = some (gt x.Stack v112.toNat)) (h130 : ¬ (x.State = 0)) (h215 : ¬ (x.State = 2)) (v282 : Int) (t283 : Int) (s284 : Int) (ht286 : t113 ≤ t283 ∧ t283 ≤ t113 + 2) (hq287 : (0 : Int) ≤ v282 ∧ ((v282 : Int) < 10 ∨ (v282 : Int) = 0)) (h290 : ¬ (v282 = 0)) (h318 : ¬ (v282 = 1)) (h346 : ¬ (v282 = 2)) (h374 : ¬ (v282 = 3)) (h402 : ¬ (v282 = 4)) (h411 : ¬ (v282 = 5)) (h420 : ¬ (v282 = 6)) (h448 : ¬ (v282 = 7)) (h476 : ¬ (v282 = 8)) : 0 = (⟨1, 0⟩ : ChestStep).Value := by
  first | rfl | omega | grind
theorem z_c___spec_l1Cur__chestStep_529 (Lc : List UInt8) (tc : Int) (sc : Int) (nc : Nat) (htc : 0 ≤ tc ∧ tc + 12 ≤ 4611686018427387904) (hbdc : (nc : Int) ≤ 9223372036854775807) (hlec : nc = Lc.length) (x : Chest) (nx_Stack : Nat) (hbdx_Stack : (nx_Stack : Int) ≤ 9223372036854775807) (hlex_Stack : nx_Stack = x.Stack.length) (hp0 : 0 ≤ x.Key ∧ x.Key ≤ 9999) (hp1 : nx_Stack ≤ 1000) (v19 : Bool) (t20 : Int) (s21 : Int) (ht23 : tc ≤ t20 ∧ t20 ≤ tc + 2) (h26 : v19 = false) (v81 : Int) (t82 : Int) (s83 : Int) (ht85 : t20 ≤ t82 ∧ t82 ≤ t20 + 2) (hq86 : v81 ∈ ([5, 17, 42] : List Int)) (hq89 : (5 : Int) ≤ v81 ∧ v81 ≤ 42) (h90 : ¬ (0 < (nx_Stack : Int))) (h493 : x.State = 0) (v496 : Bool) (t497 : Int) (s498 : Int) (ht500 : t82 ≤ t497 ∧ t497 ≤ t82 + 2) (h503 : v496 = true) (v514 : Int) (t515 : Int) (s516 : Int) (ht518 : t497 ≤ t515 ∧ t515 ≤ t497 + 2) (hq519 : v514 ∈ ([1, 77, 9999, 10000] : List Int)) (hq522 : (1 : Int) ≤ v514 ∧ v514 ≤ 10000) : 3 = (⟨3, v514⟩ : ChestStep).Kind := by
  first | rfl | omega | grind
theorem z_c___spec_l1Cur__chestStep_530 (Lc : List UInt8) (tc : Int) (sc : Int) (nc : Nat) (htc : 0 ≤ tc ∧ tc + 12 ≤ 4611686018427387904) (hbdc : (nc : Int) ≤ 9223372036854775807) (hlec : nc = Lc.length) (x : Chest) (nx_Stack : Nat) (hbdx_Stack : (nx_Stack : Int) ≤ 9223372036854775807) (hlex_Stack : nx_Stack = x.Stack.length) (hp0 : 0 ≤ x.Key ∧ x.Key ≤ 9999) (hp1 : nx_Stack ≤ 1000) (v19 : Bool) (t20 : Int) (s21 : Int) (ht23 : tc ≤ t20 ∧ t20 ≤ tc + 2) (h26 : v19 = false) (v81 : Int) (t82 : Int) (s83 : Int) (ht85 : t20 ≤ t82 ∧ t82 ≤ t20 + 2) (hq86 : v81 ∈ ([5, 17, 42] : List Int)) (hq89 : (5 : Int) ≤ v81 ∧ v81 ≤ 42) (h90 : ¬ (0 < (nx_Stack : Int))) (h493 : x.State = 0) (v496 : Bool) (t497 : Int) (s498 : Int) (ht500 : t82 ≤ t497 ∧ t497 ≤ t82 + 2) (h503 : v496 = true) (v514 : Int) (t515 : Int) (s516 : Int) (ht518 : t497 ≤ t515 ∧ t515 ≤ t497 + 2) (hq519 : v514 ∈ ([1, 77, 9999, 10000] : List Int)) (hq522 : (1 : Int) ≤ v514 ∧ v514 ≤ 10000) : v514 = (⟨3, v514⟩ : ChestStep).Value := by
  first | rfl | omega | grind
theorem z_c___spec_l1Cur__chestStep_576 (Lc : List UInt8) (tc : Int) (sc : Int) (nc : Nat) (htc : 0 ≤ tc ∧ tc + 12 ≤ 4611686018427387904) (hbdc : (nc : Int) ≤ 9223372036854775807) (hlec : nc = Lc.length) (x : Chest) (nx_Stack : Nat) (hbdx_Stack : (nx_Stack : Int) ≤ 9223372036854775807) (hlex_Stack : nx_Stack = x.Stack.length) (hp0 : 0 ≤ x.Key ∧ x.Key ≤ 9999) (hp1 : nx_Stack ≤ 1000) (v19 : Bool) (t20 : Int) (s21 : Int) (ht23 : tc ≤ t20 ∧ t20 ≤ tc + 2) (h26 : v19 = false) (v81 : Int) (t82 : Int) (s83 : Int) (ht85 : t20 ≤ t82 ∧ t82 ≤ t20 + 2) (hq86 : v81 ∈ ([5, 17, 42] : List Int)) (hq89 : (5 : Int) ≤ v81 ∧ v81 ≤ 42) (h90 : ¬ (0 < (nx_Stack : Int))) (h493 : x.State = 0) (v496 : Bool) (t497 : Int) (s498 : Int) (ht500 : t82 ≤ t497 ∧ t497 ≤ t82 + 2) (h503 : v496 = false) (v541 : Int) (t542 : Int) (s543 : Int) (ht545 : t497 ≤ t542 ∧ t542 ≤ t497 + 2) (hq546 : v541 ∈ ([1, 1, 7] : List Int)) (hq549 : (1 : Int) ≤ v541 ∧ v541 ≤ 7) (v561 : Int) (t562 : Int) (s563 : Int) (ht565 : t542 ≤ t562 ∧ t562 ≤ t542 + 2) (hq566 : v561 ∈ ([0, 0, 0, 25] : List Int)) (hq569 : (0 : Int) ≤ v561 ∧ v561 ≤ 25) : v541 = (⟨v541, v561⟩ : ChestStep).Kind := by
  first | rfl | omega | grind
theorem z_c___spec_l1Cur__chestStep_577 (Lc : List UInt8) (tc : Int) (sc : Int) (nc : Nat) (htc : 0 ≤ tc ∧ tc + 12 ≤ 4611686018427387904) (hbdc : (nc : Int) ≤ 9223372036854775807) (hlec : nc = Lc.length) (x : Chest) (nx_Stack : Nat) (hbdx_Stack : (nx_Stack : Int) ≤ 9223372036854775807) (hlex_Stack : nx_Stack = x.Stack.length) (hp0 : 0 ≤ x.Key ∧ x.Key ≤ 9999) (hp1 : nx_Stack ≤ 1000) (v19 : Bool) (t20 : Int) (s21 : Int) (ht23 : tc ≤ t20 ∧ t20 ≤ tc + 2) (h26 : v19 = false) (v81 : Int) (t82 : Int) (s83 : Int) (ht85 : t20 ≤ t82 ∧ t82 ≤ t20 + 2) (hq86 : v81 ∈ ([5, 17, 42] : List Int)) (hq89 : (5 : Int) ≤ v81 ∧ v81 ≤ 42) (h90 : ¬ (0 < (nx_Stack : Int))) (h493 : x.State = 0) (v496 : Bool) (t497 : Int) (s498 : Int) (ht500 : t82 ≤ t497 ∧ t497 ≤ t82 + 2) (h503 : v496 = false) (v541 : Int) (t542 : Int) (s543 : Int) (ht545 : t497 ≤ t542 ∧ t542 ≤ t497 + 2) (hq546 : v541 ∈ ([1, 1, 7] : List Int)) (hq549 : (1 : Int) ≤ v541 ∧ v541 ≤ 7) (v561 : Int) (t562 : Int) (s563 : Int) (ht565 : t542 ≤ t562 ∧ t562 ≤ t542 + 2) (hq566 : v561 ∈ ([0, 0, 0, 25] : List Int)) (hq569 : (0 : Int) ≤ v561 ∧ v561 ≤ 25) : v561 = (⟨v541, v561⟩ : ChestStep).Value := by
  first | rfl | omega | grind
theorem z_c___spec_l1Cur__chestStep_614 (Lc : List UInt8) (tc : Int) (sc : Int) (nc : Nat) (htc : 0 ≤ tc ∧ tc + 12 ≤ 4611686018427387904) (hbdc : (nc : Int) ≤ 9223372036854775807) (hlec : nc = Lc.length) (x : Chest) (nx_Stack : Nat) (hbdx_Stack : (nx_Stack : Int) ≤ 9223372036854775807) (hlex_Stack : nx_Stack = x.Stack.length) (hp0 : 0 ≤ x.Key ∧ x.Key ≤ 9999) (hp1 : nx_Stack ≤ 1000) (v19 : Bool) (t20 : Int) (s21 : Int) (ht23 : tc ≤ t20 ∧ t20 ≤ tc + 2) (h26 : v19 = false) (v81 : Int) (t82 : Int) (s83 : Int) (ht85 : t20 ≤ t82 ∧ t82 ≤ t20 + 2) (hq86 : v81 ∈ ([5, 17, 42] : List Int)) (hq89 : (5 : Int) ≤ v81 ∧ v81 ≤ 42) (h90 : ¬ (0 < (nx_Stack : Int))) (h493 : ¬ (x.State = 0)) (h578 : x.State = 2) (v581 : Bool) (t582 : Int) (s583 : Int) (ht585 : t82 ≤ t582 ∧ t582 ≤ t82 + 2) (h588 : v581 = true) (v599 : Int) (t600 : Int) (s601 : Int) (ht603 : t582 ≤ t600 ∧ t600 ≤ t582 + 2) (hq604 : v599 ∈ ([9, 10, 100] : List Int)) (hq607 : (9 : Int) ≤ v599 ∧ v599 ≤ 100) : 7 = (⟨7, v599⟩ : ChestStep).Kind := by
  first | rfl | omega | grind
theorem z_c___spec_l1Cur__chestStep_615 (Lc : List UInt8) (tc : Int) (sc : Int) (nc : Nat) (htc : 0 ≤ tc ∧ tc + 12 ≤ 4611686018427387904) (hbdc : (nc : Int) ≤ 9223372036854775807) (hlec : nc = Lc.length) (x : Chest) (nx_Stack : Nat) (hbdx_Stack : (nx_Stack : Int) ≤ 9223372036854775807) (hlex_Stack : nx_Stack = x.Stack.length) (hp0 : 0 ≤ x.Key ∧ x.Key ≤ 9999) (hp1 : nx_Stack ≤ 1000) (v19 : Bool) (t20 : Int) (s21 : Int) (ht23 : tc ≤ t20 ∧ t20 ≤ tc + 2) (h26 : v19 = false) (v81 : Int) (t82 : Int) (s83 : Int) (ht85 : t20 ≤ t82 ∧ t82 ≤ t20 + 2) (hq86 : v81 ∈ ([5, 17, 42] : List Int)) (hq89 : (5 : Int) ≤ v81 ∧ v81 ≤ 42) (h90 : ¬ (0 < (nx_Stack : Int))) (h493 : ¬ (x.State = 0)) (h578 : x.State = 2) (v581 : Bool) (t582 : Int) (s583 : Int) (ht585 : t82 ≤ t582 ∧ t582 ≤ t82 + 2) (h588 : v581 = true) (v599 : Int) (t600 : Int) (s601 : Int) (ht603 : t582 ≤ t600 ∧ t600 ≤ t582 + 2) (hq604 : v599 ∈ ([9, 10, 100] : List Int)) (hq607 : (9 : Int) ≤ v599 ∧ v599 ≤ 100) : v599 = (⟨7, v599⟩ : ChestStep).Value := by
  first | rfl | omega | grind
theorem z_c___spec_l1Cur__chestStep_641 (Lc : List UInt8) (tc : Int) (sc : Int) (nc : Nat) (htc : 0 ≤ tc ∧ tc + 12 ≤ 4611686018427387904) (hbdc : (nc : Int) ≤ 9223372036854775807) (hlec : nc = Lc.length) (x : Chest) (nx_Stack : Nat) (hbdx_Stack : (nx_Stack : Int) ≤ 9223372036854775807) (hlex_Stack : nx_Stack = x.Stack.length) (hp0 : 0 ≤ x.Key ∧ x.Key ≤ 9999) (hp1 : nx_Stack ≤ 1000) (v19 : Bool) (t20 : Int) (s21 : Int) (ht23 : tc ≤ t20 ∧ t20 ≤ tc + 2) (h26 : v19 = false) (v81 : Int) (t82 : Int) (s83 : Int) (ht85 : t20 ≤ t82 ∧ t82 ≤ t20 + 2) (hq86 : v81 ∈ ([5, 17, 42] : List Int)) (hq89 : (5 : Int) ≤ v81 ∧ v81 ≤ 42) (h90 : ¬ (0 < (nx_Stack : Int))) (h493 : ¬ (x.State = 0)) (h578 : x.State = 2) (v581 : Bool) (t582 : Int) (s583 : Int) (ht585 : t82 ≤ t582 ∧ t582 ≤ t82 + 2) (h588 : v581 = false) (v626 : Int) (t627 : Int) (s628 : Int) (ht630 : t582 ≤ t627 ∧ t627 ≤ t582 + 2) (hq631 : v626 ∈ ([x.Key, x.Key, x.Key, x.Key + 1] : List Int)) (hq634 : (v626 : Int) = x.Key ∨ (v626 : Int) = x.Key ∨ (v626 : Int) = x.Key ∨ (v626 : Int) = (x.Key + 1)) : 4 = (⟨4, v626⟩ : ChestStep).Kind := by
  first | rfl | omega | grind
theorem z_c___spec_l1Cur__chestStep_642 (Lc : List UInt8) (tc : Int) (sc : Int) (nc : Nat) (htc : 0 ≤ tc ∧ tc + 12 ≤ 4611686018427387904) (hbdc : (nc : Int) ≤ 9223372036854775807) (hlec : nc = Lc.length) (x : Chest) (nx_Stack : Nat) (hbdx_Stack : (nx_Stack : Int) ≤ 9223372036854775807) (hlex_Stack : nx_Stack = x.Stack.length) (hp0 : 0 ≤ x.Key ∧ x.Key ≤ 9999) (hp1 : nx_Stack ≤ 1000) (v19 : Bool) (t20 : Int) (s21 : Int) (ht23 : tc ≤ t20 ∧ t20 ≤ tc + 2) (h26 : v19 = false) (v81 : Int) (t82 : Int) (s83 : Int) (ht85 : t20 ≤ t82 ∧ t82 ≤ t20 + 2) (hq86 : v81 ∈ ([5, 17, 42] : List Int)) (hq89 : (5 : Int) ≤ v81 ∧ v81 ≤ 42) (h90 : ¬ (0 < (nx_Stack : Int))) (h493 : ¬ (x.State = 0)) (h578 : x.State = 2) (v581 : Bool) (t582 : Int) (s583 : Int) (ht585 : t82 ≤ t582 ∧ t582 ≤ t82 + 2) (h588 : v581 = false) (v626 : Int) (t627 : Int) (s628 : Int) (ht630 : t582 ≤ t627 ∧ t627 ≤ t582 + 2) (hq631 : v626 ∈ ([x.Key, x.Key, x.Key, x.Key + 1] : List Int)) (hq634 : (v626 : Int) = x.Key ∨ (v626 : Int) = x.Key ∨ (v626 : Int) = x.Key ∨ (v626 : Int) = (x.Key + 1)) : v626 = (⟨4, v626⟩ : ChestStep).Value := by
  first | rfl | omega | grind
theorem z_c___spec_l1Cur__chestStep_679 (Lc : List UInt8) (tc : Int) (sc : Int) (nc : Nat) (htc : 0 ≤ tc ∧ tc + 12 ≤ 4611686018427387904) (hbdc : (nc : Int) ≤ 9223372036854775807) (hlec : nc = Lc.length) (x : Chest) (nx_Stack : Nat) (hbdx_Stack : (nx_Stack : Int) ≤ 9223372036854775807) (hlex_Stack : nx_Stack = x.Stack.length) (hp0 : 0 ≤ x.Key ∧ x.Key ≤ 9999) (hp1 : nx_Stack ≤ 1000) (v19 : Bool) (t20 : Int) (s21 : Int) (ht23 : tc ≤ t20 ∧ t20 ≤ tc + 2) (h26 : v19 = false) (v81 : Int) (t82 : Int) (s83 : Int) (ht85 : t20 ≤ t82 ∧ t82 ≤ t20 + 2) (hq86 : v81 ∈ ([5, 17, 42] : List Int)) (hq89 : (5 : Int) ≤ v81 ∧ v81 ≤ 42) (h90 : ¬ (0 < (nx_Stack : Int))) (h493 : ¬ (x.State = 0)) (h578 : ¬ (x.State = 2)) (v645 : Int) (t646 : Int) (s647 : Int) (ht649 : t82 ≤ t646 ∧ t646 ≤ t82 + 2) (hq650 : (0 : Int) ≤ v645 ∧ ((v645 : Int) < 10 ∨ (v645 : Int) = 0)) (h653 : v645 = 0) (v664 : Int) (t665 : Int) (s666 : Int) (ht668 : t646 ≤ t665 ∧ t665 ≤ t646 + 2) (hq669 : v664 ∈ ([1, 5, 17, 42, 100, 101, 102, 103, 998, 999, 1000] : List Int)) (hq672 : (1 : Int) ≤ v664 ∧ v664 ≤ 1000) : 5 = (⟨5, v664⟩ : ChestStep).Kind := by
  first | rfl | omega | grind
theorem z_c___spec_l1Cur__chestStep_680 (Lc : List UInt8) (tc : Int) (sc : Int) (nc : Nat) (htc : 0 ≤ tc ∧ tc + 12 ≤ 4611686018427387904) (hbdc : (nc : Int) ≤ 9223372036854775807) (hlec : nc = Lc.length) (x : Chest) (nx_Stack : Nat) (hbdx_Stack : (nx_Stack : Int) ≤ 9223372036854775807) (hlex_Stack : nx_Stack = x.Stack.length) (hp0 : 0 ≤ x.Key ∧ x.Key ≤ 9999) (hp1 : nx_Stack ≤ 1000) (v19 : Bool) (t20 : Int) (s21 : Int) (ht23 : tc ≤ t20 ∧ t20 ≤ tc + 2) (h26 : v19 = false) (v81 : Int) (t82 : Int) (s83 : Int) (ht85 : t20 ≤ t82 ∧ t82 ≤ t20 + 2) (hq86 : v81 ∈ ([5, 17, 42] : List Int)) (hq89 : (5 : Int) ≤ v81 ∧ v81 ≤ 42) (h90 : ¬ (0 < (nx_Stack : Int))) (h493 : ¬ (x.State = 0)) (h578 : ¬ (x.State = 2)) (v645 : Int) (t646 : Int) (s647 : Int) (ht649 : t82 ≤ t646 ∧ t646 ≤ t82 + 2) (hq650 : (0 : Int) ≤ v645 ∧ ((v645 : Int) < 10 ∨ (v645 : Int) = 0)) (h653 : v645 = 0) (v664 : Int) (t665 : Int) (s666 : Int) (ht668 : t646 ≤ t665 ∧ t665 ≤ t646 + 2) (hq669 : v664 ∈ ([1, 5, 17, 42, 100, 101, 102, 103, 998, 999, 1000] : List Int)) (hq672 : (1 : Int) ≤ v664 ∧ v664 ≤ 1000) : v664 = (⟨5, v664⟩ : ChestStep).Value := by
  first | rfl | omega | grind
theorem z_c___spec_l1Cur__chestStep_707 (Lc : List UInt8) (tc : Int) (sc : Int) (nc : Nat) (htc : 0 ≤ tc ∧ tc + 12 ≤ 4611686018427387904) (hbdc : (nc : Int) ≤ 9223372036854775807) (hlec : nc = Lc.length) (x : Chest) (nx_Stack : Nat) (hbdx_Stack : (nx_Stack : Int) ≤ 9223372036854775807) (hlex_Stack : nx_Stack = x.Stack.length) (hp0 : 0 ≤ x.Key ∧ x.Key ≤ 9999) (hp1 : nx_Stack ≤ 1000) (v19 : Bool) (t20 : Int) (s21 : Int) (ht23 : tc ≤ t20 ∧ t20 ≤ tc + 2) (h26 : v19 = false) (v81 : Int) (t82 : Int) (s83 : Int) (ht85 : t20 ≤ t82 ∧ t82 ≤ t20 + 2) (hq86 : v81 ∈ ([5, 17, 42] : List Int)) (hq89 : (5 : Int) ≤ v81 ∧ v81 ≤ 42) (h90 : ¬ (0 < (nx_Stack : Int))) (h493 : ¬ (x.State = 0)) (h578 : ¬ (x.State = 2)) (v645 : Int) (t646 : Int) (s647 : Int) (ht649 : t82 ≤ t646 ∧ t646 ≤ t82 + 2) (hq650 : (0 : Int) ≤ v645 ∧ ((v645 : Int) < 10 ∨ (v645 : Int) = 0)) (h653 : ¬ (v645 = 0)) (h681 : v645 = 1) (v692 : Int) (t693 : Int) (s694 : Int) (ht696 : t646 ≤ t693 ∧ t693 ≤ t646 + 2) (hq697 : v692 ∈ ([1, 5, 17, 42, 100, 101, 102, 103, 998, 999, 1000] : List Int)) (hq700 : (1 : Int) ≤ v692 ∧ v692 ≤ 1000) : 5 = (⟨5, v692⟩ : ChestStep).Kind := by
  first | rfl | omega | grind
theorem z_c___spec_l1Cur__chestStep_708 (Lc : List UInt8) (tc : Int) (sc : Int) (nc : Nat) (htc : 0 ≤ tc ∧ tc + 12 ≤ 4611686018427387904) (hbdc : (nc : Int) ≤ 9223372036854775807) (hlec : nc = Lc.length) (x : Chest) (nx_Stack : Nat) (hbdx_Stack : (nx_Stack : Int) ≤ 9223372036854775807) (hlex_Stack : nx_Stack = x.Stack.length) (hp0 : 0 ≤ x.Key ∧ x.Key ≤ 9999) (hp1 : nx_Stack ≤ 1000) (v19 : Bool) (t20 : Int) (s21 : Int) (ht23 : tc ≤ t20 ∧ t20 ≤ tc + 2) (h26 : v19 = false) (v81 : Int) (t82 : Int) (s83 : Int) (ht85 : t20 ≤ t82 ∧ t82 ≤ t20 + 2) (hq86 : v81 ∈ ([5, 17, 42] : List Int)) (hq89 : (5 : Int) ≤ v81 ∧ v81 ≤ 42) (h90 : ¬ (0 < (nx_Stack : Int))) (h493 : ¬ (x.State = 0)) (h578 : ¬ (x.State = 2)) (v645 : Int) (t646 : Int) (s647 : Int) (ht649 : t82 ≤ t646 ∧ t646 ≤ t82 + 2) (hq650 : (0 : Int) ≤ v645 ∧ ((v645 : Int) < 10 ∨ (v645 : Int) = 0)) (h653 : ¬ (v645 = 0)) (h681 : v645 = 1) (v692 : Int) (t693 : Int) (s694 : Int) (ht696 : t646 ≤ t693 ∧ t693 ≤ t646 + 2) (hq697 : v692 ∈ ([1, 5, 17, 42, 100, 101, 102, 103, 998, 999, 1000] : List Int)) (hq700 : (1 : Int) ≤ v692 ∧ v692 ≤ 1000) : v692 = (⟨5, v692⟩ : ChestStep).Value := by
  first | rfl | omega | grind
theorem z_c___spec_l1Cur__chestStep_735 (Lc : List UInt8) (tc : Int) (sc : Int) (nc : Nat) (htc : 0 ≤ tc ∧ tc + 12 ≤ 4611686018427387904) (hbdc : (nc : Int) ≤ 9223372036854775807) (hlec : nc = Lc.length) (x : Chest) (nx_Stack : Nat) (hbdx_Stack : (nx_Stack : Int) ≤ 9223372036854775807) (hlex_Stack : nx_Stack = x.Stack.length) (hp0 : 0 ≤ x.Key ∧ x.Key ≤ 9999) (hp1 : nx_Stack ≤ 1000) (v19 : Bool) (t20 : Int) (s21 : Int) (ht23 : tc ≤ t20 ∧ t20 ≤ tc + 2) (h26 : v19 = false) (v81 : Int) (t82 : Int) (s83 : Int) (ht85 : t20 ≤ t82 ∧ t82 ≤ t20 + 2) (hq86 : v81 ∈ ([5, 17, 42] : List Int)) (hq89 : (5 : Int) ≤ v81 ∧ v81 ≤ 42) (h90 : ¬ (0 < (nx_Stack : Int))) (h493 : ¬ (x.State = 0)) (h578 : ¬ (x.State = 2)) (v645 : Int) (t646 : Int) (s647 : Int) (ht649 : t82 ≤ t646 ∧ t646 ≤ t82 + 2) (hq650 : (0 : Int) ≤ v645 ∧ ((v645 : Int) < 10 ∨ (v645 : Int) = 0)) (h653 : ¬ (v645 = 0)) (h681 : ¬ (v645 = 1)) (h709 : v645 = 2) (v720 : Int) (t721 : Int) (s722 : Int) (ht724 : t646 ≤ t721 ∧ t721 ≤ t646 + 2) (hq725 : v720 ∈ ([1, 5, 17, 42, 100, 101, 102, 103, 998, 999, 1000] : List Int)) (hq728 : (1 : Int) ≤ v720 ∧ v720 ≤ 1000) : 5 = (⟨5, v720⟩ : ChestStep).Kind := by
  first | rfl | omega | grind
theorem z_c___spec_l1Cur__chestStep_736 (Lc : List UInt8) (tc : Int) (sc : Int) (nc : Nat) (htc : 0 ≤ tc ∧ tc + 12 ≤ 4611686018427387904) (hbdc : (nc : Int) ≤ 9223372036854775807) (hlec : nc = Lc.length) (x : Chest) (nx_Stack : Nat) (hbdx_Stack : (nx_Stack : Int) ≤ 9223372036854775807) (hlex_Stack : nx_Stack = x.Stack.length) (hp0 : 0 ≤ x.Key ∧ x.Key ≤ 9999) (hp1 : nx_Stack ≤ 1000) (v19 : Bool) (t20 : Int) (s21 : Int) (ht23 : tc ≤ t20 ∧ t20 ≤ tc + 2) (h26 : v19 = false) (v81 : Int) (t82 : Int) (s83 : Int) (ht85 : t20 ≤ t82 ∧ t82 ≤ t20 + 2) (hq86 : v81 ∈ ([5, 17, 42] : List Int)) (hq89 : (5 : Int) ≤ v81 ∧ v81 ≤ 42) (h90 : ¬ (0 < (nx_Stack : Int))) (h493 : ¬ (x.State = 0)) (h578 : ¬ (x.State = 2)) (v645 : Int) (t646 : Int) (s647 : Int) (ht649 : t82 ≤ t646 ∧ t646 ≤ t82 + 2) (hq650 : (0 : Int) ≤ v645 ∧ ((v645 : Int) < 10 ∨ (v645 : Int) = 0)) (h653 : ¬ (v645 = 0)) (h681 : ¬ (v645 = 1)) (h709 : v645 = 2) (v720 : Int) (t721 : Int) (s722 : Int) (ht724 : t646 ≤ t721 ∧ t721 ≤ t646 + 2) (hq725 : v720 ∈ ([1, 5, 17, 42, 100, 101, 102, 103, 998, 999, 1000] : List Int)) (hq728 : (1 : Int) ≤ v720 ∧ v720 ≤ 1000) : v720 = (⟨5, v720⟩ : ChestStep).Value := by
  first | rfl | omega | grind
theorem z_c___spec_l1Cur__chestStep_763 (Lc : List UInt8) (tc : Int) (sc : Int) (nc : Nat) (htc : 0 ≤ tc ∧ tc + 12 ≤ 4611686018427387904) (hbdc : (nc : Int) ≤ 9223372036854775807) (hlec : nc = Lc.length) (x : Chest) (nx_Stack : Nat) (hbdx_Stack : (nx_Stack : Int) ≤ 9223372036854775807) (hlex_Stack : nx_Stack = x.Stack.length) (hp0 : 0 ≤ x.Key ∧ x.Key ≤ 9999) (hp1 : nx_Stack ≤ 1000) (v19 : Bool) (t20 : Int) (s21 : Int) (ht23 : tc ≤ t20 ∧ t20 ≤ tc + 2) (h26 : v19 = false) (v81 : Int) (t82 : Int) (s83 : Int) (ht85 : t20 ≤ t82 ∧ t82 ≤ t20 + 2) (hq86 : v81 ∈ ([5, 17, 42] : List Int)) (hq89 : (5 : Int) ≤ v81 ∧ v81 ≤ 42) (h90 : ¬ (0 < (nx_Stack : Int))) (h493 : ¬ (x.State = 0)) (h578 : ¬ (x.State = 2)) (v645 : Int) (t646 : Int) (s647 : Int) (ht649 : t82 ≤ t646 ∧ t646 ≤ t82 + 2) (hq650 : (0 : Int) ≤ v645 ∧ ((v645 : Int) < 10 ∨ (v645 : Int) = 0)) (h653 : ¬ (v645 = 0)) (h681 : ¬ (v645 = 1)) (h709 : ¬ (v645 = 2)) (h737 : v645 = 3) (v748 : Int) (t749 : Int) (s750 : Int) (ht752 : t646 ≤ t749 ∧ t749 ≤ t646 + 2) (hq753 : v748 ∈ ([1, 5, 17, 42, 100, 101, 102, 103, 998, 999, 1000] : List Int)) (hq756 : (1 : Int) ≤ v748 ∧ v748 ≤ 1000) : 5 = (⟨5, v748⟩ : ChestStep).Kind := by
  first | rfl | omega | grind
theorem z_c___spec_l1Cur__chestStep_764 (Lc : List UInt8) (tc : Int) (sc : Int) (nc : Nat) (htc : 0 ≤ tc ∧ tc + 12 ≤ 4611686018427387904) (hbdc : (nc : Int) ≤ 9223372036854775807) (hlec : nc = Lc.length) (x : Chest) (nx_Stack : Nat) (hbdx_Stack : (nx_Stack : Int) ≤ 9223372036854775807) (hlex_Stack : nx_Stack = x.Stack.length) (hp0 : 0 ≤ x.Key ∧ x.Key ≤ 9999) (hp1 : nx_Stack ≤ 1000) (v19 : Bool) (t20 : Int) (s21 : Int) (ht23 : tc ≤ t20 ∧ t20 ≤ tc + 2) (h26 : v19 = false) (v81 : Int) (t82 : Int) (s83 : Int) (ht85 : t20 ≤ t82 ∧ t82 ≤ t20 + 2) (hq86 : v81 ∈ ([5, 17, 42] : List Int)) (hq89 : (5 : Int) ≤ v81 ∧ v81 ≤ 42) (h90 : ¬ (0 < (nx_Stack : Int))) (h493 : ¬ (x.State = 0)) (h578 : ¬ (x.State = 2)) (v645 : Int) (t646 : Int) (s647 : Int) (ht649 : t82 ≤ t646 ∧ t646 ≤ t82 + 2) (hq650 : (0 : Int) ≤ v645 ∧ ((v645 : Int) < 10 ∨ (v645 : Int) = 0)) (h653 : ¬ (v645 = 0)) (h681 : ¬ (v645 = 1)) (h709 : ¬ (v645 = 2)) (h737 : v645 = 3) (v748 : Int) (t749 : Int) (s750 : Int) (ht752 : t646 ≤ t749 ∧ t749 ≤ t646 + 2) (hq753 : v748 ∈ ([1, 5, 17, 42, 100, 101, 102, 103, 998, 999, 1000] : List Int)) (hq756 : (1 : Int) ≤ v748 ∧ v748 ≤ 1000) : v748 = (⟨5, v748⟩ : ChestStep).Value := by
  first | rfl | omega | grind
theorem z_c___spec_l1Cur__chestStep_772 (Lc : List UInt8) (tc : Int) (sc : Int) (nc : Nat) (htc : 0 ≤ tc ∧ tc + 12 ≤ 4611686018427387904) (hbdc : (nc : Int) ≤ 9223372036854775807) (hlec : nc = Lc.length) (x : Chest) (nx_Stack : Nat) (hbdx_Stack : (nx_Stack : Int) ≤ 9223372036854775807) (hlex_Stack : nx_Stack = x.Stack.length) (hp0 : 0 ≤ x.Key ∧ x.Key ≤ 9999) (hp1 : nx_Stack ≤ 1000) (v19 : Bool) (t20 : Int) (s21 : Int) (ht23 : tc ≤ t20 ∧ t20 ≤ tc + 2) (h26 : v19 = false) (v81 : Int) (t82 : Int) (s83 : Int) (ht85 : t20 ≤ t82 ∧ t82 ≤ t20 + 2) (hq86 : v81 ∈ ([5, 17, 42] : List Int)) (hq89 : (5 : Int) ≤ v81 ∧ v81 ≤ 42) (h90 : ¬ (0 < (nx_Stack : Int))) (h493 : ¬ (x.State = 0)) (h578 : ¬ (x.State = 2)) (v645 : Int) (t646 : Int) (s647 : Int) (ht649 : t82 ≤ t646 ∧ t646 ≤ t82 + 2) (hq650 : (0 : Int) ≤ v645 ∧ ((v645 : Int) < 10 ∨ (v645 : Int) = 0)) (h653 : ¬ (v645 = 0)) (h681 : ¬ (v645 = 1)) (h709 : ¬ (v645 = 2)) (h737 : ¬ (v645 = 3)) (h765 : v645 = 4) : 6 = (⟨6, v81⟩ : ChestStep).Kind := by
  first | rfl | omega | grind
theorem z_c___spec_l1Cur__chestStep_773 (Lc : List UInt8) (tc : Int) (sc : Int) (nc : Nat) (htc : 0 ≤ tc ∧ tc + 12 ≤ 4611686018427387904) (hbdc : (nc : Int) ≤ 9223372036854775807) (hlec : nc = Lc.length) (x : Chest) (nx_Stack : Nat) (hbdx_Stack : (nx_Stack : Int) ≤ 9223372036854775807) (hlex_Stack : nx_Stack = x.Stack.length) (hp0 : 0 ≤ x.Key ∧ x.Key ≤ 9999) (hp1 : nx_Stack ≤ 1000) (v19 : Bool) (t20 : Int) (s21 : Int) (ht23 : tc ≤ t20 ∧ t20 ≤ tc + 2) (h26 : v19 = false) (v81 : Int) (t82 : Int) (s83 : Int) (ht85 : t20 ≤ t82 ∧ t82 ≤ t20 + 2) (hq86 : v81 ∈ ([5, 17, 42] : List Int)) (hq89 : (5 : Int) ≤ v81 ∧ v81 ≤ 42) (h90 : ¬ (0 < (nx_Stack : Int))) (h493 : ¬ (x.State = 0)) (h578 : ¬ (x.State = 2)) (v645 : Int) (t646 : Int) (s647 : Int) (ht649 : t82 ≤ t646 ∧ t646 ≤ t82 + 2) (hq650 : (0 : Int) ≤ v645 ∧ ((v645 : Int) < 10 ∨ (v645 : Int) = 0)) (h653 : ¬ (v645 = 0)) (h681 : ¬ (v645 = 1)) (h709 : ¬ (v645 = 2)) (h737 : ¬ (v645 = 3)) (h765 : v645 = 4) : v81 = (⟨6, v81⟩ : ChestStep).Value := by
  first | rfl | omega | grind
theorem z_c___spec_l1Cur__chestStep_781 (Lc : List UInt8) (tc : Int) (sc : Int) (nc : Nat) (htc : 0 ≤ tc ∧ tc + 12 ≤ 4611686018427387904) (hbdc : (nc : Int) ≤ 9223372036854775807) (hlec : nc = Lc.length) (x : Chest) (nx_Stack : Nat) (hbdx_Stack : (nx_Stack : Int) ≤ 9223372036854775807) (hlex_Stack : nx_Stack = x.Stack.length) (hp0 : 0 ≤ x.Key ∧ x.Key ≤ 9999) (hp1 : nx_Stack ≤ 1000) (v19 : Bool) (t20 : Int) (s21 : Int) (ht23 : tc ≤ t20 ∧ t20 ≤ tc + 2) (h26 : v19 = false) (v81 : Int) (t82 : Int) (s83 : Int) (ht85 : t20 ≤ t82 ∧ t82 ≤ t20 + 2) (hq86 : v81 ∈ ([5, 17, 42] : List Int)) (hq89 : (5 : Int) ≤ v81 ∧ v81 ≤ 42) (h90 : ¬ (0 < (nx_Stack : Int))) (h493 : ¬ (x.State = 0)) (h578 : ¬ (x.State = 2)) (v645 : Int) (t646 : Int) (s647 : Int) (ht649 : t82 ≤ t646 ∧ t646 ≤ t82 + 2) (hq650 : (0 : Int) ≤ v645 ∧ ((v645 : Int) < 10 ∨ (v645 : Int) = 0)) (h653 : ¬ (v645 = 0)) (h681 : ¬ (v645 = 1)) (h709 : ¬ (v645 = 2)) (h737 : ¬ (v645 = 3)) (h765 : ¬ (v645 = 4)) (h774 : v645 = 5) : 6 = (⟨6, v81⟩ : ChestStep).Kind := by
  first | rfl | omega | grind
theorem z_c___spec_l1Cur__chestStep_782 (Lc : List UInt8) (tc : Int) (sc : Int) (nc : Nat) (htc : 0 ≤ tc ∧ tc + 12 ≤ 4611686018427387904) (hbdc : (nc : Int) ≤ 9223372036854775807) (hlec : nc = Lc.length) (x : Chest) (nx_Stack : Nat) (hbdx_Stack : (nx_Stack : Int) ≤ 9223372036854775807) (hlex_Stack : nx_Stack = x.Stack.length) (hp0 : 0 ≤ x.Key ∧ x.Key ≤ 9999) (hp1 : nx_Stack ≤ 1000) (v19 : Bool) (t20 : Int) (s21 : Int) (ht23 : tc ≤ t20 ∧ t20 ≤ tc + 2) (h26 : v19 = false) (v81 : Int) (t82 : Int) (s83 : Int) (ht85 : t20 ≤ t82 ∧ t82 ≤ t20 + 2) (hq86 : v81 ∈ ([5, 17, 42] : List Int)) (hq89 : (5 : Int) ≤ v81 ∧ v81 ≤ 42) (h90 : ¬ (0 < (nx_Stack : Int))) (h493 : ¬ (x.State = 0)) (h578 : ¬ (x.State = 2)) (v645 : Int) (t646 : Int) (s647 : Int) (ht649 : t82 ≤ t646 ∧ t646 ≤ t82 + 2) (hq650 : (0 : Int) ≤ v645 ∧ ((v645 : Int) < 10 ∨ (v645 : Int) = 0)) (h653 : ¬ (v645 = 0)) (h681 : ¬ (v645 = 1)) (h709 : ¬ (v645 = 2)) (h737 : ¬ (v645 = 3)) (h765 : ¬ (v645 = 4)) (h774 : v645 = 5) : v81 = (⟨6, v81⟩ : ChestStep).Value := by
  first | rfl | omega | grind
theorem z_c___spec_l1Cur__chestStep_809 (Lc : List UInt8) (tc : Int) (sc : Int) (nc : Nat) (htc : 0 ≤ tc ∧ tc + 12 ≤ 4611686018427387904) (hbdc : (nc : Int) ≤ 9223372036854775807) (hlec : nc = Lc.length) (x : Chest) (nx_Stack : Nat) (hbdx_Stack : (nx_Stack : Int) ≤ 9223372036854775807) (hlex_Stack : nx_Stack = x.Stack.length) (hp0 : 0 ≤ x.Key ∧ x.Key ≤ 9999) (hp1 : nx_Stack ≤ 1000) (v19 : Bool) (t20 : Int) (s21 : Int) (ht23 : tc ≤ t20 ∧ t20 ≤ tc + 2) (h26 : v19 = false) (v81 : Int) (t82 : Int) (s83 : Int) (ht85 : t20 ≤ t82 ∧ t82 ≤ t20 + 2) (hq86 : v81 ∈ ([5, 17, 42] : List Int)) (hq89 : (5 : Int) ≤ v81 ∧ v81 ≤ 42) (h90 : ¬ (0 < (nx_Stack : Int))) (h493 : ¬ (x.State = 0)) (h578 : ¬ (x.State = 2)) (v645 : Int) (t646 : Int) (s647 : Int) (ht649 : t82 ≤ t646 ∧ t646 ≤ t82 + 2) (hq650 : (0 : Int) ≤ v645 ∧ ((v645 : Int) < 10 ∨ (v645 : Int) = 0)) (h653 : ¬ (v645 = 0)) (h681 : ¬ (v645 = 1)) (h709 : ¬ (v645 = 2)) (h737 : ¬ (v645 = 3)) (h765 : ¬ (v645 = 4)) (h774 : ¬ (v645 = 5)) (h783 : v645 = 6) (v794 : Int) (t795 : Int) (s796 : Int) (ht798 : t646 ≤ t795 ∧ t795 ≤ t646 + 2) (hq799 : v794 ∈ ([0, 1, 30, 100, 101] : List Int)) (hq802 : (0 : Int) ≤ v794 ∧ v794 ≤ 101) : 7 = (⟨7, v794⟩ : ChestStep).Kind := by
  first | rfl | omega | grind
theorem z_c___spec_l1Cur__chestStep_810 (Lc : List UInt8) (tc : Int) (sc : Int) (nc : Nat) (htc : 0 ≤ tc ∧ tc + 12 ≤ 4611686018427387904) (hbdc : (nc : Int) ≤ 9223372036854775807) (hlec : nc = Lc.length) (x : Chest) (nx_Stack : Nat) (hbdx_Stack : (nx_Stack : Int) ≤ 9223372036854775807) (hlex_Stack : nx_Stack = x.Stack.length) (hp0 : 0 ≤ x.Key ∧ x.Key ≤ 9999) (hp1 : nx_Stack ≤ 1000) (v19 : Bool) (t20 : Int) (s21 : Int) (ht23 : tc ≤ t20 ∧ t20 ≤ tc + 2) (h26 : v19 = false) (v81 : Int) (t82 : Int) (s83 : Int) (ht85 : t20 ≤ t82 ∧ t82 ≤ t20 + 2) (hq86 : v81 ∈ ([5, 17, 42] : List Int)) (hq89 : (5 : Int) ≤ v81 ∧ v81 ≤ 42) (h90 : ¬ (0 < (nx_Stack : Int))) (h493 : ¬ (x.State = 0)) (h578 : ¬ (x.State = 2)) (v645 : Int) (t646 : Int) (s647 : Int) (ht649 : t82 ≤ t646 ∧ t646 ≤ t82 + 2) (hq650 : (0 : Int) ≤ v645 ∧ ((v645 : Int) < 10 ∨ (v645 : Int) = 0)) (h653 : ¬ (v645 = 0)) (h681 : ¬ (v645 = 1)) (h709 : ¬ (v645 = 2)) (h737 : ¬ (v645 = 3)) (h765 : ¬ (v645 = 4)) (h774 : ¬ (v645 = 5)) (h783 : v645 = 6) (v794 : Int) (t795 : Int) (s796 : Int) (ht798 : t646 ≤ t795 ∧ t795 ≤ t646 + 2) (hq799 : v794 ∈ ([0, 1, 30, 100, 101] : List Int)) (hq802 : (0 : Int) ≤ v794 ∧ v794 ≤ 101) : v794 = (⟨7, v794⟩ : ChestStep).Value := by
  first | rfl | omega | grind
theorem z_c___spec_l1Cur__chestStep_837 (Lc : List UInt8) (tc : Int) (sc : Int) (nc : Nat) (htc : 0 ≤ tc ∧ tc + 12 ≤ 4611686018427387904) (hbdc : (nc : Int) ≤ 9223372036854775807) (hlec : nc = Lc.length) (x : Chest) (nx_Stack : Nat) (hbdx_Stack : (nx_Stack : Int) ≤ 9223372036854775807) (hlex_Stack : nx_Stack = x.Stack.length) (hp0 : 0 ≤ x.Key ∧ x.Key ≤ 9999) (hp1 : nx_Stack ≤ 1000) (v19 : Bool) (t20 : Int) (s21 : Int) (ht23 : tc ≤ t20 ∧ t20 ≤ tc + 2) (h26 : v19 = false) (v81 : Int) (t82 : Int) (s83 : Int) (ht85 : t20 ≤ t82 ∧ t82 ≤ t20 + 2) (hq86 : v81 ∈ ([5, 17, 42] : List Int)) (hq89 : (5 : Int) ≤ v81 ∧ v81 ≤ 42) (h90 : ¬ (0 < (nx_Stack : Int))) (h493 : ¬ (x.State = 0)) (h578 : ¬ (x.State = 2)) (v645 : Int) (t646 : Int) (s647 : Int) (ht649 : t82 ≤ t646 ∧ t646 ≤ t82 + 2) (hq650 : (0 : Int) ≤ v645 ∧ ((v645 : Int) < 10 ∨ (v645 : Int) = 0)) (h653 : ¬ (v645 = 0)) (h681 : ¬ (v645 = 1)) (h709 : ¬ (v645 = 2)) (h737 : ¬ (v645 = 3)) (h765 : ¬ (v645 = 4)) (h774 : ¬ (v645 = 5)) (h783 : ¬ (v645 = 6)) (h811 : v645 = 7) (v822 : Int) (t823 : Int) (s824 : Int) (ht826 : t646 ≤ t823 ∧ t823 ≤ t646 + 2) (hq827 : v822 ∈ ([0, 1, 30, 100, 101] : List Int)) (hq830 : (0 : Int) ≤ v822 ∧ v822 ≤ 101) : 7 = (⟨7, v822⟩ : ChestStep).Kind := by
  first | rfl | omega | grind
theorem z_c___spec_l1Cur__chestStep_838 (Lc : List UInt8) (tc : Int) (sc : Int) (nc : Nat) (htc : 0 ≤ tc ∧ tc + 12 ≤ 4611686018427387904) (hbdc : (nc : Int) ≤ 9223372036854775807) (hlec : nc = Lc.length) (x : Chest) (nx_Stack : Nat) (hbdx_Stack : (nx_Stack : Int) ≤ 9223372036854775807) (hlex_Stack : nx_Stack = x.Stack.length) (hp0 : 0 ≤ x.Key ∧ x.Key ≤ 9999) (hp1 : nx_Stack ≤ 1000) (v19 : Bool) (t20 : Int) (s21 : Int) (ht23 : tc ≤ t20 ∧ t20 ≤ tc + 2) (h26 : v19 = false) (v81 : Int) (t82 : Int) (s83 : Int) (ht85 : t20 ≤ t82 ∧ t82 ≤ t20 + 2) (hq86 : v81 ∈ ([5, 17, 42] : List Int)) (hq89 : (5 : Int) ≤ v81 ∧ v81 ≤ 42) (h90 : ¬ (0 < (nx_Stack : Int))) (h493 : ¬ (x.State = 0)) (h578 : ¬ (x.State = 2)) (v645 : Int) (t646 : Int) (s647 : Int) (ht649 : t82 ≤ t646 ∧ t646 ≤ t82 + 2) (hq650 : (0 : Int) ≤ v645 ∧ ((v645 : Int) < 10 ∨ (v645 : Int) = 0)) (h653 : ¬ (v645 = 0)) (h681 : ¬ (v645 = 1)) (h709 : ¬ (v645 = 2)) (h737 : ¬ (v645 = 3)) (h765 : ¬ (v645 = 4)) (h774 : ¬ (v645 = 5)) (h783 : ¬ (v645 = 6)) (h811 : v645 = 7) (v822 : Int) (t823 : Int) (s824 : Int) (ht826 : t646 ≤ t823 ∧ t823 ≤ t646 + 2) (hq827 : v822 ∈ ([0, 1, 30, 100, 101] : List Int)) (hq830 : (0 : Int) ≤ v822 ∧ v822 ≤ 101) : v822 = (⟨7, v822⟩ : ChestStep).Value := by
  first | rfl | omega | grind
theorem z_c___spec_l1Cur__chestStep_846 (Lc : List UInt8) (tc : Int) (sc : Int) (nc : Nat) (htc : 0 ≤ tc ∧ tc + 12 ≤ 4611686018427387904) (hbdc : (nc : Int) ≤ 9223372036854775807) (hlec : nc = Lc.length) (x : Chest) (nx_Stack : Nat) (hbdx_Stack : (nx_Stack : Int) ≤ 9223372036854775807) (hlex_Stack : nx_Stack = x.Stack.length) (hp0 : 0 ≤ x.Key ∧ x.Key ≤ 9999) (hp1 : nx_Stack ≤ 1000) (v19 : Bool) (t20 : Int) (s21 : Int) (ht23 : tc ≤ t20 ∧ t20 ≤ tc + 2) (h26 : v19 = false) (v81 : Int) (t82 : Int) (s83 : Int) (ht85 : t20 ≤ t82 ∧ t82 ≤ t20 + 2) (hq86 : v81 ∈ ([5, 17, 42] : List Int)) (hq89 : (5 : Int) ≤ v81 ∧ v81 ≤ 42) (h90 : ¬ (0 < (nx_Stack : Int))) (h493 : ¬ (x.State = 0)) (h578 : ¬ (x.State = 2)) (v645 : Int) (t646 : Int) (s647 : Int) (ht649 : t82 ≤ t646 ∧ t646 ≤ t82 + 2) (hq650 : (0 : Int) ≤ v645 ∧ ((v645 : Int) < 10 ∨ (v645 : Int) = 0)) (h653 : ¬ (v645 = 0)) (h681 : ¬ (v645 = 1)) (h709 : ¬ (v645 = 2)) (h737 : ¬ (v645 = 3)) (h765 : ¬ (v645 = 4)) (h774 : ¬ (v645 = 5)) (h783 : ¬ (v645 = 6)) (h811 : ¬ (v645 = 7)) (h839 : v645 = 8) : 2 = (⟨2, 0⟩ : ChestStep).Kind := by
  first | rfl | omega | grind
theorem z_c___spec_l1Cur__chestStep_847 (Lc : List UInt8) (tc : Int) (sc : Int) (nc : Nat) (htc : 0 ≤ tc ∧ tc + 12 ≤ 4611686018427387904) (hbdc : (nc : Int) ≤ 9223372036854775807) (hlec : nc = Lc.length) (x : Chest) (nx_Stack : Nat) (hbdx_Stack : (nx_Stack : Int) ≤ 9223372036854775807) (hlex_Stack : nx_Stack = x.Stack.length) (hp0 : 0 ≤ x.Key ∧ x.Key ≤ 9999) (hp1 : nx_Stack ≤ 1000) (v19 : Bool) (t20 : Int) (s21 : Int) (ht23 : tc ≤ t20 ∧ t20 ≤ tc + 2) (h26 : v19 = false) (v81 : Int) (t82 : Int) (s83 : Int) (ht85 : t20 ≤ t82 ∧ t82 ≤ t20 + 2) (hq86 : v81 ∈ ([5, 17, 42] : List Int)) (hq89 : (5 : Int) ≤ v81 ∧ v81 ≤ 42) (h90 : ¬ (0 < (nx_Stack : Int))) (h493 : ¬ (x.State = 0)) (h578 : ¬ (x.State = 2)) (v645 : Int) (t646 : Int) (s647 : Int) (ht649 : t82 ≤ t646 ∧ t646 ≤ t82 + 2) (hq650 : (0 : Int) ≤ v645 ∧ ((v645 : Int) < 10 ∨ (v645 : Int) = 0)) (h653 : ¬ (v645 = 0)) (h681 : ¬ (v645 = 1)) (h709 : ¬ (v645 = 2)) (h737 : ¬ (v645 = 3)) (h765 : ¬ (v645 = 4)) (h774 : ¬ (v645 = 5)) (h783 : ¬ (v645 = 6)) (h811 : ¬ (v645 = 7)) (h839 : v645 = 8) : 0 = (⟨2, 0⟩ : ChestStep).Value := by
  first | rfl | omega | grind
theorem z_c___spec_l1Cur__chestStep_854 (Lc : List UInt8) (tc : Int) (sc : Int) (nc : Nat) (htc : 0 ≤ tc ∧ tc + 12 ≤ 4611686018427387904) (hbdc : (nc : Int) ≤ 9223372036854775807) (hlec : nc = Lc.length) (x : Chest) (nx_Stack : Nat) (hbdx_Stack : (nx_Stack : Int) ≤ 9223372036854775807) (hlex_Stack : nx_Stack = x.Stack.length) (hp0 : 0 ≤ x.Key ∧ x.Key ≤ 9999) (hp1 : nx_Stack ≤ 1000) (v19 : Bool) (t20 : Int) (s21 : Int) (ht23 : tc ≤ t20 ∧ t20 ≤ tc + 2) (h26 : v19 = false) (v81 : Int) (t82 : Int) (s83 : Int) (ht85 : t20 ≤ t82 ∧ t82 ≤ t20 + 2) (hq86 : v81 ∈ ([5, 17, 42] : List Int)) (hq89 : (5 : Int) ≤ v81 ∧ v81 ≤ 42) (h90 : ¬ (0 < (nx_Stack : Int))) (h493 : ¬ (x.State = 0)) (h578 : ¬ (x.State = 2)) (v645 : Int) (t646 : Int) (s647 : Int) (ht649 : t82 ≤ t646 ∧ t646 ≤ t82 + 2) (hq650 : (0 : Int) ≤ v645 ∧ ((v645 : Int) < 10 ∨ (v645 : Int) = 0)) (h653 : ¬ (v645 = 0)) (h681 : ¬ (v645 = 1)) (h709 : ¬ (v645 = 2)) (h737 : ¬ (v645 = 3)) (h765 : ¬ (v645 = 4)) (h774 : ¬ (v645 = 5)) (h783 : ¬ (v645 = 6)) (h811 : ¬ (v645 = 7)) (h839 : ¬ (v645 = 8)) : 1 = (⟨1, 0⟩ : ChestStep).Kind := by
  first | rfl | omega | grind
theorem z_c___spec_l1Cur__chestStep_855 (Lc : List UInt8) (tc : Int) (sc : Int) (nc : Nat) (htc : 0 ≤ tc ∧ tc + 12 ≤ 4611686018427387904) (hbdc : (nc : Int) ≤ 9223372036854775807) (hlec : nc = Lc.length) (x : Chest) (nx_Stack : Nat) (hbdx_Stack : (nx_Stack : Int) ≤ 9223372036854775807) (hlex_Stack : nx_Stack = x.Stack.length) (hp0 : 0 ≤ x.Key ∧ x.Key ≤ 9999) (hp1 : nx_Stack ≤ 1000) (v19 : Bool) (t20 : Int) (s21 : Int) (ht23 : tc ≤ t20 ∧ t20 ≤ tc + 2) (h26 : v19 = false) (v81 : Int) (t82 : Int) (s83 : Int) (ht85 : t20 ≤ t82 ∧ t82 ≤ t20 + 2) (hq86 : v81 ∈ ([5, 17, 42] : List Int)) (hq89 : (5 : Int) ≤ v81 ∧ v81 ≤ 42) (h90 : ¬ (0 < (nx_Stack : Int))) (h493 : ¬ (x.State = 0)) (h578 : ¬ (x.State = 2)) (v645 : Int) (t646 : Int) (s647 : Int) (ht649 : t82 ≤ t646 ∧ t646 ≤ t82 + 2) (hq650 : (0 : Int) ≤ v645 ∧ ((v645 : Int) < 10 ∨ (v645 : Int) = 0)) (h653 : ¬ (v645 = 0)) (h681 : ¬ (v645 = 1)) (h709 : ¬ (v645 = 2)) (h737 : ¬ (v645 = 3)) (h765 : ¬ (v645 = 4)) (h774 : ¬ (v645 = 5)) (h783 : ¬ (v645 = 6)) (h811 : ¬ (v645 = 7)) (h839 : ¬ (v645 = 8)) : 0 = (⟨1, 0⟩ : ChestStep).Value := by
  first | rfl | omega | grind
theorem c___spec_l1Cur__chestStep (w : World) {gc ec : Nat} {Ac : Option Addr} {nc cc Bc : Nat} (Lc : List UInt8) (tc sc : Int) (hc : Blk w gc ec [.slice Ac nc cc, .int .i64 tc, .int .u64 sc]) (hLc : SlR w Bc encB 1 Ac nc cc Lc) (hgc : Bc ≤ gc) (htc : 0 ≤ tc ∧ tc + 12 ≤ 4611686018427387904) (x : Chest) {Ax_Stack : Option Addr} {nx_Stack cx_Stack Bx_Stack : Nat} (hx_Stack : SlR w Bx_Stack encI 1 Ax_Stack nx_Stack cx_Stack x.Stack) (hp0 : 0 ≤ x.Key ∧ x.Key ≤ 9999) (hp1 : nx_Stack ≤ 1000) (hp2 : 0 < nx_Stack → ¬ (adr Ax_Stack).block = gc) : Calls Tryd.prog 97 #[.pointer (some ⟨gc, 0, none⟩), .agg (List.toArray [.int .i64 x.State, .int .i64 x.Key, .slice Ax_Stack nx_Stack cx_Stack, .int .i64 x.Dust, .int .i64 x.Laid, .int .i64 x.Given])] w fun e w' => ∃ (s : ChestStep) (tc' sc' : Int), e = .returned (.agg (List.toArray [.int .i64 s.Kind, .int .i64 s.Value])) ∧ Blk w' gc ec [.slice Ac nc cc, .int .i64 tc', .int .u64 sc'] ∧ (tc ≤ tc' ∧ tc' ≤ tc + 12) ∧ Kp (fun b_ => b_ = gc) w w' := by
  refine calls_W 96 Tryd.func97 rfl rfl rfl ?_
  have hBlc := hc.lt
  have hbdc := hLc.bound
  have hlec := hLc.len
  have hBbc := hLc.bd
  have hbdx_Stack := hx_Stack.bound
  have hlex_Stack := hx_Stack.len
  have hBbx_Stack := hx_Stack.bd
  refine W.seq ?_
  refine W.regS (SR.box (v := .agg (List.toArray _)) (l := [.int .i64 x.State, .int .i64 x.Key, .slice Ax_Stack nx_Stack cx_Stack, .int .i64 x.Dust, .int .i64 x.Laid, .int .i64 x.Given]) rfl rfl ?_)
  intro g1 w2 hg3 hk4 hs5 hb6
  have hz7 := hk4.size
  have hB8 := (Kp.refl w : Kp (fun b_ => b_ = gc) w w).lo hk4
  refine SR.alloc (l := [.int .i64 0, .int .i64 0]) tz48 rfl ?_
  intro g9 w10 hg11 hk12 hs13 hb14
  have hz15 := hk12.size
  have hB16 := hB8.lo hk12
  refine SR.nil ?_
  refine W.seq ?_
  refine W.seq ?_
  refine W.regS (SR.q' (r_mv (v := .pointer (some _)) rfl) <| SR.call ent118 (c___spec_l1Cur__one w10 Lc tc sc (((hc).lo hk4).lo hk12) ((((hLc).lo hk4).lo hk12)) (by omega) (by omega) 40 (by first | omega | (simp only [List.length_append, List.length_cons, List.length_nil, List.length_take, List.length_drop]; omega))) rfl ?_)
  rintro e w17 ⟨v19, t20, s21, rfl, hb22, ht23, hk18⟩
  refine ⟨_, rfl, ?_⟩
  have hz24 := hk18.size
  have hB25 := hB16.step hk18 (fun i_ hi_ e' => e')
  refine SR.nil ?_
  refine W.cond_b rfl (fun h26 => ?_) (fun h26 => ?_)
  · refine W.seq ?_
    refine W.regS (SR.q' (r_mv (v := .pointer (some _)) rfl) <| SR.lit (vs := [.int .i64 0, .int .i64 8, .int .i64 5]) (L := ([0, 8, 5] : List Int)) (enc := encI) tel38 (fun _ => rfl) rfl rfl rfl (by decide) ?_)
    intro g27 w28 hg29 hk30 hO31
    have hz32 := hk30.size
    have hB33 := hB25.lo hk30
    refine SR.call ent54 (c___spec_l1Cur__among w28 Lc t20 s21 ((hb22).lo hk30) ((((((hLc).lo hk4).lo hk12).kp hk18 (fun b_ hb e' => by have e'' : b_ = gc := e'; omega)).lo hk30)) (by omega) (by omega) ([0, 8, 5] : List Int) (((hO31).rd)) (by omega) (by omega) (show ¬ g27 = gc from by omega)) rfl ?_
    rintro e w34 ⟨v36, t37, s38, rfl, hb39, ht40, hq41, hk35⟩
    refine ⟨_, rfl, ?_⟩
    have hz42 := hk35.size
    have hB43 := hB33.step hk35 (fun i_ hi_ e' => e')
    have hq44 : (0 : Int) ≤ v36 ∧ v36 ≤ 8 := mem_rngB (lo := 0) (hi := 8) (by decide) hq41
    refine SR.q' (r_mv (v := .pointer (some _)) rfl) <| SR.lit (vs := [.int .i64 0, .int .i64 1, .int .i64 (-1)]) (L := ([0, 1, (-1)] : List Int)) (enc := encI) tel38 (fun _ => rfl) rfl rfl rfl (by decide) ?_
    intro g45 w46 hg47 hk48 hO49
    have hz50 := hk48.size
    have hB51 := hB43.lo hk48
    have hd52 : ¬ (some (⟨g27, 0, none⟩ : Addr)) = some ⟨g45, 0, none⟩ := fun e' => by have := ((hO31).kp hk35 (fun b_ hb e' => by have e'' : b_ = gc := e'; have := (hO31).base_le hb; omega)).base_le e'; omega
    refine SR.call ent54 (c___spec_l1Cur__among w46 Lc t37 s38 ((hb39).lo hk48) ((((((((hLc).lo hk4).lo hk12).kp hk18 (fun b_ hb e' => by have e'' : b_ = gc := e'; omega)).lo hk30).kp hk35 (fun b_ hb e' => by have e'' : b_ = gc := e'; omega)).lo hk48)) (by omega) (by omega) ([0, 1, (-1)] : List Int) (((hO49).rd)) (by omega) (by omega) (show ¬ g45 = gc from by omega)) rfl ?_
    rintro e w53 ⟨v55, t56, s57, rfl, hb58, ht59, hq60, hk54⟩
    refine ⟨_, rfl, ?_⟩
    have hz61 := hk54.size
    have hB62 := hB51.step hk54 (fun i_ hi_ e' => e')
    have hq63 : ((-1) : Int) ≤ v55 ∧ v55 ≤ 1 := mem_rngB (lo := (-1)) (hi := 1) (by decide) hq60
    refine SR.q' (r_build (vs := [(0, .int .i64 v36), (1, .int .i64 v55)]) rfl (bld48_0_1 _ _)) <| SR.store (o := 0) (vs := [.int .i64 v36, .int .i64 v55]) agg48.2 rfl rfl rfl rfl ((((((hb14).kp hk18 (fun e' => by have e'' : g9 = gc := e'; omega)).lo hk30).kp hk35 (fun e' => by have e'' : g9 = gc := e'; omega)).lo hk48).kp hk54 (fun e' => by have e'' : g9 = gc := e'; omega)) (Nat.le_of_ble_eq_true rfl) rfl ?_
    intro w64 hk65 hs66 hb67
    have hz68 := hk65.size
    have hB69 := hB62.new hk65 (by omega)
    refine SR.nil ?_
    refine W.ret ?_
    refine retC rfl rfl agg48 (hb67) rfl ?_
    exact ⟨(⟨v36, v55⟩ : ChestStep), t56, s57, eR (eA (eC (eI (z_c___spec_l1Cur__chestStep_70 Lc tc sc nc htc hbdc hlec x nx_Stack hbdx_Stack hlex_Stack hp0 hp1 v19 t20 s21 ht23 h26 v36 t37 s38 ht40 hq41 hq44 v55 t56 s57 ht59 hq60 hq63)) (eC (eI (z_c___spec_l1Cur__chestStep_71 Lc tc sc nc htc hbdc hlec x nx_Stack hbdx_Stack hlex_Stack hp0 hp1 v19 t20 s21 ht23 h26 v36 t37 s38 ht40 hq41 hq44 v55 t56 s57 ht59 hq60 hq63)) rfl))), ((hb58).kp hk65 (fun e' => by have e'' : gc = g9 := e'; omega)), ⟨by omega, by omega⟩, hB69⟩
  · refine W.skip ?_
    refine W.seq ?_
    refine W.regS (SR.q' (r_mv (v := .pointer (some _)) rfl) <| SR.lit (vs := [.int .i64 5, .int .i64 17, .int .i64 42]) (L := ([5, 17, 42] : List Int)) (enc := encI) tel38 (fun _ => rfl) rfl rfl rfl (by decide) ?_)
    intro g72 w73 hg74 hk75 hO76
    have hz77 := hk75.size
    have hB78 := hB25.lo hk75
    refine SR.call ent54 (c___spec_l1Cur__among w73 Lc t20 s21 ((hb22).lo hk75) ((((((hLc).lo hk4).lo hk12).kp hk18 (fun b_ hb e' => by have e'' : b_ = gc := e'; omega)).lo hk75)) (by omega) (by omega) ([5, 17, 42] : List Int) (((hO76).rd)) (by omega) (by omega) (show ¬ g72 = gc from by omega)) rfl ?_
    rintro e w79 ⟨v81, t82, s83, rfl, hb84, ht85, hq86, hk80⟩
    refine ⟨_, rfl, ?_⟩
    have hz87 := hk80.size
    have hB88 := hB78.step hk80 (fun i_ hi_ e' => e')
    have hq89 : (5 : Int) ≤ v81 ∧ v81 ≤ 42 := mem_rngB (lo := 5) (hi := 42) (by decide) hq86
    refine SR.q' (r_as (v := .int .i64 _) rfl) <| SR.nil ?_
    refine W.seq ?_
    refine W.seq ?_
    refine W.regS (SR.q' (r_fa fa40_2 rfl) <| SR.q' (r_ld (v := .slice Ax_Stack nx_Stack cx_Stack) sca38 rfl ((((((hb6).lo hk12).kp hk18 (fun e' => by have e'' : g1 = gc := e'; omega)).lo hk75).kp hk80 (fun e' => by have e'' : g1 = gc := e'; omega)).cell rfl)) <| SR.q' (r_len und38 rfl) <| SR.q' (r_gt rfl rfl) <| SR.nil ?_)
    refine W.cond_d rfl (fun h90 => ?_) (fun h90 => ?_)
    · refine W.regA (Kp (fun b_ => b_ = gc) w79) (fun f' w' => ∃ (v112 : Int), ∃ (t113 : Int), ∃ (s114 : Int), At f' [(0, .pointer (some ((⟨gc, 0, none⟩ : Addr)))), (3, .pointer (some ((⟨g1, 0, none⟩ : Addr)))), (4, .pointer (some ((⟨g9, 0, none⟩ : Addr)))), (5, .int .i64 (gt x.Stack v112.toNat))] ∧ (Kp (fun b_ => b_ = gc) w79 w') ∧ (Blk w' gc ec [.slice Ac nc cc, .int .i64 t113, .int .u64 s114]) ∧ (t82 ≤ t113 ∧ t113 ≤ t82 + 2) ∧ ((0 : Int) ≤ v112 ∧ ((v112 : Int) < (nx_Stack : Int) ∨ (v112 : Int) = 0)) ∧ (x.Stack[v112.toNat]? = some (gt x.Stack v112.toNat))) mo ?_ ?_
      · intro w106 hk107
        have hz108 := hk107.size
        have hB109 := hB88.lo hk107
        refine AH.take 0 rfl (by kernel_rfl) trivial ((Kp.refl w79 : Kp (fun b_ => b_ = gc) w79 w79).lo hk107) (fun w' hw' => r_fa fa40_2 rfl) <| AH.take 1 rfl (by kernel_rfl) trivial ((Kp.refl w79 : Kp (fun b_ => b_ = gc) w79 w79).lo hk107) (fun w' hw' => r_ld (v := .slice Ax_Stack nx_Stack cx_Stack) sca38 rfl (((((((hb6).lo hk12).kp hk18 (fun e' => by have e'' : g1 = gc := e'; omega)).lo hk75).kp hk80 (fun e' => by have e'' : g1 = gc := e'; omega)).kp hw' (fun e' => by have e'' : g1 = gc := e'; omega)).cell rfl)) <| AH.take 2 rfl (by kernel_rfl) trivial ((Kp.refl w79 : Kp (fun b_ => b_ = gc) w79 w79).lo hk107) (fun w' hw' => r_mv (v := .pointer (some _)) rfl) <| AH.take 3 rfl (by kernel_rfl) trivial ((Kp.refl w79 : Kp (fun b_ => b_ = gc) w79 w79).lo hk107) (fun w' hw' => r_fa fa40_2 rfl) <| AH.take 4 rfl (by kernel_rfl) trivial ((Kp.refl w79 : Kp (fun b_ => b_ = gc) w79 w79).lo hk107) (fun w' hw' => r_ld (v := .slice Ax_Stack nx_Stack cx_Stack) sca38 rfl (((((((hb6).lo hk12).kp hk18 (fun e' => by have e'' : g1 = gc := e'; omega)).lo hk75).kp hk80 (fun e' => by have e'' : g1 = gc := e'; omega)).kp hw' (fun e' => by have e'' : g1 = gc := e'; omega)).cell rfl)) <| AH.take 5 rfl (by kernel_rfl) trivial ((Kp.refl w79 : Kp (fun b_ => b_ = gc) w79 w79).lo hk107) (fun w' hw' => r_len und38 rfl) <| AH.br [6] (by kernel_rfl) rfl ⟨Br.mk' rfl trivial ?_, trivial⟩
        refine SR.call ent95 (c___spec_l1Cur__pick w106 Lc t82 s83 ((hb84).lo hk107) ((((((((hLc).lo hk4).lo hk12).kp hk18 (fun b_ hb e' => by have e'' : b_ = gc := e'; omega)).lo hk75).kp hk80 (fun b_ hb e' => by have e'' : b_ = gc := e'; omega)).lo hk107)) (by omega) (by omega) (nx_Stack : Int) (by first | omega | (simp only [List.length_append, List.length_cons, List.length_nil, List.length_take, List.length_drop]; omega))) rfl ?_
        rintro e w110 ⟨v112, t113, s114, rfl, hb115, ht116, hq117, hk111⟩
        refine ⟨_, rfl, ?_⟩
        have hz118 := hk111.size
        have hB119 := hB109.step hk111 (fun i_ hi_ e' => e')
        have hS120 := ((Kp.refl w79 : Kp (fun b_ => b_ = gc) w79 w79).lo hk107).step hk111 (fun _ _ e => e)
        refine SR.nil ⟨hS120, _, rfl, ?_⟩
        have hx122 := ((((((((hx_Stack).lo hk4).lo hk12).kpb hk18 (fun e' => (hp2 (by omega)) e')).lo hk75).kpb hk80 (fun e' => (hp2 (by omega)) e')).lo hk107).kpb hk111 (fun e' => (hp2 (by omega)) e')).elem (i := v112.toNat) (by omega)
        refine AH.take 7 rfl (by kernel_rfl) trivial (hS120) (fun w' hw' => r_ixR tsl38 ((((((((hx_Stack).lo hk4).lo hk12).kpb hk18 (fun e' => (hp2 (by omega)) e')).lo hk75).kpb hk80 (fun e' => (hp2 (by omega)) e')).kpb hw' (fun e' => (hp2 (by omega)) e'))) rfl rfl (by omega)) <| AH.take 8 rfl (by kernel_rfl) trivial (hS120) (fun w' hw' => r_ld (v := .int .i64 (gt x.Stack v112.toNat)) sca3 rfl (((((((((hx_Stack).lo hk4).lo hk12).kpb hk18 (fun e' => (hp2 (by omega)) e')).lo hk75).kpb hk80 (fun e' => (hp2 (by omega)) e')).kpb hw' (fun e' => (hp2 (by omega)) e'))).cell0 hx122 rfl)) <| AH.take 9 rfl (by kernel_rfl) trivial (hS120) (fun w' hw' => r_as (v := .int .i64 _) rfl) <| AH.done (by kernel_rfl) ?_
        exact ⟨v112, t113, s114, ⟨rfl, rfl, rfl, rfl, trivial⟩, hS120, (hb115), ht116, hq117, hx122⟩
      rintro f124 w125 ⟨v112, t113, s114, hat127, hR126, hm123, ht116, hq117, hx122⟩
      rw [← sets_of_at hat127]
      have hz128 := hR126.size
      have hB129 := hB88.step hR126 (fun i_ hi_ e' => e')
      refine W.seq ?_
      refine W.seq ?_
      refine W.regS (SR.q' (r_fa fa40_0 rfl) <| SR.q' (r_ld (v := .int .i64 x.State) sca3 rfl (((((((hb6).lo hk12).kp hk18 (fun e' => by have e'' : g1 = gc := e'; omega)).lo hk75).kp hk80 (fun e' => by have e'' : g1 = gc := e'; omega)).kp hR126 (fun e' => by have e'' : g1 = gc := e'; omega)).cell rfl)) <| SR.nil ?_)
      refine W.block ?_
      refine W.seq ?_
      refine W.regS (SR.q' (r_eq rfl rfl) <| SR.q' (r_as (v := .bool _) rfl) <| SR.nil ?_)
      refine W.cond_d rfl (fun h130 => ?_) (fun h130 => ?_)
      · refine W.seq ?_
        refine W.seq ?_
        refine W.regS (SR.q' (r_mv (v := .pointer (some _)) rfl) <| SR.call ent118 (c___spec_l1Cur__one w125 Lc t113 s114 (hm123) ((((((((hLc).lo hk4).lo hk12).kp hk18 (fun b_ hb e' => by have e'' : b_ = gc := e'; omega)).lo hk75).kp hk80 (fun b_ hb e' => by have e'' : b_ = gc := e'; omega)).kp hR126 (fun b_ hb e' => by have e'' : b_ = gc := e'; omega))) (by omega) (by omega) 3 (by first | omega | (simp only [List.length_append, List.length_cons, List.length_nil, List.length_take, List.length_drop]; omega))) rfl ?_)
        rintro e w131 ⟨v133, t134, s135, rfl, hb136, ht137, hk132⟩
        refine ⟨_, rfl, ?_⟩
        have hz138 := hk132.size
        have hB139 := hB129.step hk132 (fun i_ hi_ e' => e')
        refine SR.nil ?_
        refine W.cond_b rfl (fun h140 => ?_) (fun h140 => ?_)
        · refine W.seq ?_
          refine W.regS (SR.q' (r_mv (v := .pointer (some _)) rfl) <| SR.lit (vs := [.int .i64 1, .int .i64 77, .int .i64 9999, .int .i64 10000]) (L := ([1, 77, 9999, 10000] : List Int)) (enc := encI) tel38 (fun _ => rfl) rfl rfl rfl (by decide) ?_)
          intro g141 w142 hg143 hk144 hO145
          have hz146 := hk144.size
          have hB147 := hB139.lo hk144
          have hd148 : ¬ (some (⟨g72, 0, none⟩ : Addr)) = some ⟨g141, 0, none⟩ := fun e' => by have := ((((hO76).kp hk80 (fun b_ hb e' => by have e'' : b_ = gc := e'; have := (hO76).base_le hb; omega)).kp hR126 (fun b_ hb e' => by have e'' : b_ = gc := e'; have := ((hO76).kp hk80 (fun b_ hb e' => by have e'' : b_ = gc := e'; have := (hO76).base_le hb; omega)).base_le hb; omega)).kp hk132 (fun b_ hb e' => by have e'' : b_ = gc := e'; have := (((hO76).kp hk80 (fun b_ hb e' => by have e'' : b_ = gc := e'; have := (hO76).base_le hb; omega)).kp hR126 (fun b_ hb e' => by have e'' : b_ = gc := e'; have := ((hO76).kp hk80 (fun b_ hb e' => by have e'' : b_ = gc := e'; have := (hO76).base_le hb; omega)).base_le hb; omega)).base_le hb; omega)).base_le e'; omega
          refine SR.call ent54 (c___spec_l1Cur__among w142 Lc t134 s135 ((hb136).lo hk144) ((((((((((hLc).lo hk4).lo hk12).kp hk18 (fun b_ hb e' => by have e'' : b_ = gc := e'; omega)).lo hk75).kp hk80 (fun b_ hb e' => by have e'' : b_ = gc := e'; omega)).kp hR126 (fun b_ hb e' => by have e'' : b_ = gc := e'; omega)).kp hk132 (fun b_ hb e' => by have e'' : b_ = gc := e'; omega)).lo hk144)) (by omega) (by omega) ([1, 77, 9999, 10000] : List Int) (((hO145).rd)) (by omega) (by omega) (show ¬ g141 = gc from by omega)) rfl ?_
          rintro e w149 ⟨v151, t152, s153, rfl, hb154, ht155, hq156, hk150⟩
          refine ⟨_, rfl, ?_⟩
          have hz157 := hk150.size
          have hB158 := hB147.step hk150 (fun i_ hi_ e' => e')
          have hq159 : (1 : Int) ≤ v151 ∧ v151 ≤ 10000 := mem_rngB (lo := 1) (hi := 10000) (by decide) hq156
          refine SR.q' (r_build (vs := [(0, .int .i64 3), (1, .int .i64 v151)]) rfl (bld48_0_1 _ _)) <| SR.store (o := 0) (vs := [.int .i64 3, .int .i64 v151]) agg48.2 rfl rfl rfl rfl ((((((((hb14).kp hk18 (fun e' => by have e'' : g9 = gc := e'; omega)).lo hk75).kp hk80 (fun e' => by have e'' : g9 = gc := e'; omega)).kp hR126 (fun e' => by have e'' : g9 = gc := e'; omega)).kp hk132 (fun e' => by have e'' : g9 = gc := e'; omega)).lo hk144).kp hk150 (fun e' => by have e'' : g9 = gc := e'; omega)) (Nat.le_of_ble_eq_true rfl) rfl ?_
          intro w160 hk161 hs162 hb163
          have hz164 := hk161.size
          have hB165 := hB158.new hk161 (by omega)
          refine SR.nil ?_
          refine W.ret ?_
          refine retC rfl rfl agg48 (hb163) rfl ?_
          exact ⟨(⟨3, v151⟩ : ChestStep), t152, s153, eR (eA (eC (eI (z_c___spec_l1Cur__chestStep_166 Lc tc sc nc htc hbdc hlec x nx_Stack hbdx_Stack hlex_Stack hp0 hp1 v19 t20 s21 ht23 h26 v81 t82 s83 ht85 hq86 hq89 h90 v112 t113 s114 ht116 hq117 hx122 h130 v133 t134 s135 ht137 h140 v151 t152 s153 ht155 hq156 hq159)) (eC (eI (z_c___spec_l1Cur__chestStep_167 Lc tc sc nc htc hbdc hlec x nx_Stack hbdx_Stack hlex_Stack hp0 hp1 v19 t20 s21 ht23 h26 v81 t82 s83 ht85 hq86 hq89 h90 v112 t113 s114 ht116 hq117 hx122 h130 v133 t134 s135 ht137 h140 v151 t152 s153 ht155 hq156 hq159)) rfl))), ((hb154).kp hk161 (fun e' => by have e'' : gc = g9 := e'; omega)), ⟨by omega, by omega⟩, hB165⟩
        · refine W.skip ?_
          refine W.seq ?_
          refine W.regS (SR.q' (r_mv (v := .pointer (some _)) rfl) <| SR.lit (vs := [.int .i64 1, .int .i64 1, .int .i64 7]) (L := ([1, 1, 7] : List Int)) (enc := encI) tel38 (fun _ => rfl) rfl rfl rfl (by decide) ?_)
          intro g168 w169 hg170 hk171 hO172
          have hz173 := hk171.size
          have hB174 := hB139.lo hk171
          have hd175 : ¬ (some (⟨g72, 0, none⟩ : Addr)) = some ⟨g168, 0, none⟩ := fun e' => by have := ((((hO76).kp hk80 (fun b_ hb e' => by have e'' : b_ = gc := e'; have := (hO76).base_le hb; omega)).kp hR126 (fun b_ hb e' => by have e'' : b_ = gc := e'; have := ((hO76).kp hk80 (fun b_ hb e' => by have e'' : b_ = gc := e'; have := (hO76).base_le hb; omega)).base_le hb; omega)).kp hk132 (fun b_ hb e' => by have e'' : b_ = gc := e'; have := (((hO76).kp hk80 (fun b_ hb e' => by have e'' : b_ = gc := e'; have := (hO76).base_le hb; omega)).kp hR126 (fun b_ hb e' => by have e'' : b_ = gc := e'; have := ((hO76).kp hk80 (fun b_ hb e' => by have e'' : b_ = gc := e'; have := (hO76).base_le hb; omega)).base_le hb; omega)).base_le hb; omega)).base_le e'; omega
          refine SR.call ent54 (c___spec_l1Cur__among w169 Lc t134 s135 ((hb136).lo hk171) ((((((((((hLc).lo hk4).lo hk12).kp hk18 (fun b_ hb e' => by have e'' : b_ = gc := e'; omega)).lo hk75).kp hk80 (fun b_ hb e' => by have e'' : b_ = gc := e'; omega)).kp hR126 (fun b_ hb e' => by have e'' : b_ = gc := e'; omega)).kp hk132 (fun b_ hb e' => by have e'' : b_ = gc := e'; omega)).lo hk171)) (by omega) (by omega) ([1, 1, 7] : List Int) (((hO172).rd)) (by omega) (by omega) (show ¬ g168 = gc from by omega)) rfl ?_
          rintro e w176 ⟨v178, t179, s180, rfl, hb181, ht182, hq183, hk177⟩
          refine ⟨_, rfl, ?_⟩
          have hz184 := hk177.size
          have hB185 := hB174.step hk177 (fun i_ hi_ e' => e')
          have hq186 : (1 : Int) ≤ v178 ∧ v178 ≤ 7 := mem_rngB (lo := 1) (hi := 7) (by decide) hq183
          refine SR.q' (r_mv (v := .pointer (some _)) rfl) <| SR.lit (vs := [.int .i64 0, .int .i64 0, .int .i64 0, .int .i64 25]) (L := ([0, 0, 0, 25] : List Int)) (enc := encI) tel38 (fun _ => rfl) rfl rfl rfl (by decide) ?_
          intro g187 w188 hg189 hk190 hO191
          have hz192 := hk190.size
          have hB193 := hB185.lo hk190
          have hd194 : ¬ (some (⟨g72, 0, none⟩ : Addr)) = some ⟨g187, 0, none⟩ := fun e' => by have := ((((((hO76).kp hk80 (fun b_ hb e' => by have e'' : b_ = gc := e'; have := (hO76).base_le hb; omega)).kp hR126 (fun b_ hb e' => by have e'' : b_ = gc := e'; have := ((hO76).kp hk80 (fun b_ hb e' => by have e'' : b_ = gc := e'; have := (hO76).base_le hb; omega)).base_le hb; omega)).kp hk132 (fun b_ hb e' => by have e'' : b_ = gc := e'; have := (((hO76).kp hk80 (fun b_ hb e' => by have e'' : b_ = gc := e'; have := (hO76).base_le hb; omega)).kp hR126 (fun b_ hb e' => by have e'' : b_ = gc := e'; have := ((hO76).kp hk80 (fun b_ hb e' => by have e'' : b_ = gc := e'; have := (hO76).base_le hb; omega)).base_le hb; omega)).base_le hb; omega)).lo hk171).kp hk177 (fun b_ hb e' => by have e'' : b_ = gc := e'; have := (((((hO76).kp hk80 (fun b_ hb e' => by have e'' : b_ = gc := e'; have := (hO76).base_le hb; omega)).kp hR126 (fun b_ hb e' => by have e'' : b_ = gc := e'; have := ((hO76).kp hk80 (fun b_ hb e' => by have e'' : b_ = gc := e'; have := (hO76).base_le hb; omega)).base_le hb; omega)).kp hk132 (fun b_ hb e' => by have e'' : b_ = gc := e'; have := (((hO76).kp hk80 (fun b_ hb e' => by have e'' : b_ = gc := e'; have := (hO76).base_le hb; omega)).kp hR126 (fun b_ hb e' => by have e'' : b_ = gc := e'; have := ((hO76).kp hk80 (fun b_ hb e' => by have e'' : b_ = gc := e'; have := (hO76).base_le hb; omega)).base_le hb; omega)).base_le hb; omega)).lo hk171).base_le hb; omega)).base_le e'; omega
          have hd195 : ¬ (some (⟨g168, 0, none⟩ : Addr)) = some ⟨g187, 0, none⟩ := fun e' => by have := ((hO172).kp hk177 (fun b_ hb e' => by have e'' : b_ = gc := e'; have := (hO172).base_le hb; omega)).base_le e'; omega
          refine SR.call ent54 (c___spec_l1Cur__among w188 Lc t179 s180 ((hb181).lo hk190) ((((((((((((hLc).lo hk4).lo hk12).kp hk18 (fun b_ hb e' => by have e'' : b_ = gc := e'; omega)).lo hk75).kp hk80 (fun b_ hb e' => by have e'' : b_ = gc := e'; omega)).kp hR126 (fun b_ hb e' => by have e'' : b_ = gc := e'; omega)).kp hk132 (fun b_ hb e' => by have e'' : b_ = gc := e'; omega)).lo hk171).kp hk177 (fun b_ hb e' => by have e'' : b_ = gc := e'; omega)).lo hk190)) (by omega) (by omega) ([0, 0, 0, 25] : List Int) (((hO191).rd)) (by omega) (by omega) (show ¬ g187 = gc from by omega)) rfl ?_
          rintro e w196 ⟨v198, t199, s200, rfl, hb201, ht202, hq203, hk197⟩
          refine ⟨_, rfl, ?_⟩
          have hz204 := hk197.size
          have hB205 := hB193.step hk197 (fun i_ hi_ e' => e')
          have hq206 : (0 : Int) ≤ v198 ∧ v198 ≤ 25 := mem_rngB (lo := 0) (hi := 25) (by decide) hq203
          refine SR.q' (r_build (vs := [(0, .int .i64 v178), (1, .int .i64 v198)]) rfl (bld48_0_1 _ _)) <| SR.store (o := 0) (vs := [.int .i64 v178, .int .i64 v198]) agg48.2 rfl rfl rfl rfl ((((((((((hb14).kp hk18 (fun e' => by have e'' : g9 = gc := e'; omega)).lo hk75).kp hk80 (fun e' => by have e'' : g9 = gc := e'; omega)).kp hR126 (fun e' => by have e'' : g9 = gc := e'; omega)).kp hk132 (fun e' => by have e'' : g9 = gc := e'; omega)).lo hk171).kp hk177 (fun e' => by have e'' : g9 = gc := e'; omega)).lo hk190).kp hk197 (fun e' => by have e'' : g9 = gc := e'; omega)) (Nat.le_of_ble_eq_true rfl) rfl ?_
          intro w207 hk208 hs209 hb210
          have hz211 := hk208.size
          have hB212 := hB205.new hk208 (by omega)
          refine SR.nil ?_
          refine W.ret ?_
          refine retC rfl rfl agg48 (hb210) rfl ?_
          exact ⟨(⟨v178, v198⟩ : ChestStep), t199, s200, eR (eA (eC (eI (z_c___spec_l1Cur__chestStep_213 Lc tc sc nc htc hbdc hlec x nx_Stack hbdx_Stack hlex_Stack hp0 hp1 v19 t20 s21 ht23 h26 v81 t82 s83 ht85 hq86 hq89 h90 v112 t113 s114 ht116 hq117 hx122 h130 v133 t134 s135 ht137 h140 v178 t179 s180 ht182 hq183 hq186 v198 t199 s200 ht202 hq203 hq206)) (eC (eI (z_c___spec_l1Cur__chestStep_214 Lc tc sc nc htc hbdc hlec x nx_Stack hbdx_Stack hlex_Stack hp0 hp1 v19 t20 s21 ht23 h26 v81 t82 s83 ht85 hq86 hq89 h90 v112 t113 s114 ht116 hq117 hx122 h130 v133 t134 s135 ht137 h140 v178 t179 s180 ht182 hq183 hq186 v198 t199 s200 ht202 hq203 hq206)) rfl))), ((hb201).kp hk208 (fun e' => by have e'' : gc = g9 := e'; omega)), ⟨by omega, by omega⟩, hB212⟩
      · refine W.seq ?_
        refine W.regS (SR.q' (r_eq rfl rfl) <| SR.q' (r_as (v := .bool _) rfl) <| SR.nil ?_)
        refine W.cond_d rfl (fun h215 => ?_) (fun h215 => ?_)
        · refine W.seq ?_
          refine W.seq ?_
          refine W.regS (SR.q' (r_mv (v := .pointer (some _)) rfl) <| SR.call ent118 (c___spec_l1Cur__one w125 Lc t113 s114 (hm123) ((((((((hLc).lo hk4).lo hk12).kp hk18 (fun b_ hb e' => by have e'' : b_ = gc := e'; omega)).lo hk75).kp hk80 (fun b_ hb e' => by have e'' : b_ = gc := e'; omega)).kp hR126 (fun b_ hb e' => by have e'' : b_ = gc := e'; omega))) (by omega) (by omega) 4 (by first | omega | (simp only [List.length_append, List.length_cons, List.length_nil, List.length_take, List.length_drop]; omega))) rfl ?_)
          rintro e w216 ⟨v218, t219, s220, rfl, hb221, ht222, hk217⟩
          refine ⟨_, rfl, ?_⟩
          have hz223 := hk217.size
          have hB224 := hB129.step hk217 (fun i_ hi_ e' => e')
          refine SR.nil ?_
          refine W.cond_b rfl (fun h225 => ?_) (fun h225 => ?_)
          · refine W.seq ?_
            refine W.regS (SR.q' (r_mv (v := .pointer (some _)) rfl) <| SR.lit (vs := [.int .i64 9, .int .i64 10, .int .i64 100]) (L := ([9, 10, 100] : List Int)) (enc := encI) tel38 (fun _ => rfl) rfl rfl rfl (by decide) ?_)
            intro g226 w227 hg228 hk229 hO230
            have hz231 := hk229.size
            have hB232 := hB224.lo hk229
            have hd233 : ¬ (some (⟨g72, 0, none⟩ : Addr)) = some ⟨g226, 0, none⟩ := fun e' => by have := ((((hO76).kp hk80 (fun b_ hb e' => by have e'' : b_ = gc := e'; have := (hO76).base_le hb; omega)).kp hR126 (fun b_ hb e' => by have e'' : b_ = gc := e'; have := ((hO76).kp hk80 (fun b_ hb e' => by have e'' : b_ = gc := e'; have := (hO76).base_le hb; omega)).base_le hb; omega)).kp hk217 (fun b_ hb e' => by have e'' : b_ = gc := e'; have := (((hO76).kp hk80 (fun b_ hb e' => by have e'' : b_ = gc := e'; have := (hO76).base_le hb; omega)).kp hR126 (fun b_ hb e' => by have e'' : b_ = gc := e'; have := ((hO76).kp hk80 (fun b_ hb e' => by have e'' : b_ = gc := e'; have := (hO76).base_le hb; omega)).base_le hb; omega)).base_le hb; omega)).base_le e'; omega
            refine SR.call ent54 (c___spec_l1Cur__among w227 Lc t219 s220 ((hb221).lo hk229) ((((((((((hLc).lo hk4).lo hk12).kp hk18 (fun b_ hb e' => by have e'' : b_ = gc := e'; omega)).lo hk75).kp hk80 (fun b_ hb e' => by have e'' : b_ = gc := e'; omega)).kp hR126 (fun b_ hb e' => by have e'' : b_ = gc := e'; omega)).kp hk217 (fun b_ hb e' => by have e'' : b_ = gc := e'; omega)).lo hk229)) (by omega) (by omega) ([9, 10, 100] : List Int) (((hO230).rd)) (by omega) (by omega) (show ¬ g226 = gc from by omega)) rfl ?_
            rintro e w234 ⟨v236, t237, s238, rfl, hb239, ht240, hq241, hk235⟩
            refine ⟨_, rfl, ?_⟩
            have hz242 := hk235.size
            have hB243 := hB232.step hk235 (fun i_ hi_ e' => e')
            have hq244 : (9 : Int) ≤ v236 ∧ v236 ≤ 100 := mem_rngB (lo := 9) (hi := 100) (by decide) hq241
            refine SR.q' (r_build (vs := [(0, .int .i64 7), (1, .int .i64 v236)]) rfl (bld48_0_1 _ _)) <| SR.store (o := 0) (vs := [.int .i64 7, .int .i64 v236]) agg48.2 rfl rfl rfl rfl ((((((((hb14).kp hk18 (fun e' => by have e'' : g9 = gc := e'; omega)).lo hk75).kp hk80 (fun e' => by have e'' : g9 = gc := e'; omega)).kp hR126 (fun e' => by have e'' : g9 = gc := e'; omega)).kp hk217 (fun e' => by have e'' : g9 = gc := e'; omega)).lo hk229).kp hk235 (fun e' => by have e'' : g9 = gc := e'; omega)) (Nat.le_of_ble_eq_true rfl) rfl ?_
            intro w245 hk246 hs247 hb248
            have hz249 := hk246.size
            have hB250 := hB243.new hk246 (by omega)
            refine SR.nil ?_
            refine W.ret ?_
            refine retC rfl rfl agg48 (hb248) rfl ?_
            exact ⟨(⟨7, v236⟩ : ChestStep), t237, s238, eR (eA (eC (eI (z_c___spec_l1Cur__chestStep_251 Lc tc sc nc htc hbdc hlec x nx_Stack hbdx_Stack hlex_Stack hp0 hp1 v19 t20 s21 ht23 h26 v81 t82 s83 ht85 hq86 hq89 h90 v112 t113 s114 ht116 hq117 hx122 h130 h215 v218 t219 s220 ht222 h225 v236 t237 s238 ht240 hq241 hq244)) (eC (eI (z_c___spec_l1Cur__chestStep_252 Lc tc sc nc htc hbdc hlec x nx_Stack hbdx_Stack hlex_Stack hp0 hp1 v19 t20 s21 ht23 h26 v81 t82 s83 ht85 hq86 hq89 h90 v112 t113 s114 ht116 hq117 hx122 h130 h215 v218 t219 s220 ht222 h225 v236 t237 s238 ht240 hq241 hq244)) rfl))), ((hb239).kp hk246 (fun e' => by have e'' : gc = g9 := e'; omega)), ⟨by omega, by omega⟩, hB250⟩
          · refine W.skip ?_
            refine W.seq ?_
            refine W.regS (SR.q' (r_mv (v := .pointer (some _)) rfl) <| SR.q' (r_fa fa40_1 rfl) <| SR.q' (r_ld (v := .int .i64 x.Key) sca3 rfl ((((((((hb6).lo hk12).kp hk18 (fun e' => by have e'' : g1 = gc := e'; omega)).lo hk75).kp hk80 (fun e' => by have e'' : g1 = gc := e'; omega)).kp hR126 (fun e' => by have e'' : g1 = gc := e'; omega)).kp hk217 (fun e' => by have e'' : g1 = gc := e'; omega)).cell rfl)) <| SR.q' (r_fa fa40_1 rfl) <| SR.q' (r_ld (v := .int .i64 x.Key) sca3 rfl ((((((((hb6).lo hk12).kp hk18 (fun e' => by have e'' : g1 = gc := e'; omega)).lo hk75).kp hk80 (fun e' => by have e'' : g1 = gc := e'; omega)).kp hR126 (fun e' => by have e'' : g1 = gc := e'; omega)).kp hk217 (fun e' => by have e'' : g1 = gc := e'; omega)).cell rfl)) <| SR.q' (r_fa fa40_1 rfl) <| SR.q' (r_ld (v := .int .i64 x.Key) sca3 rfl ((((((((hb6).lo hk12).kp hk18 (fun e' => by have e'' : g1 = gc := e'; omega)).lo hk75).kp hk80 (fun e' => by have e'' : g1 = gc := e'; omega)).kp hR126 (fun e' => by have e'' : g1 = gc := e'; omega)).kp hk217 (fun e' => by have e'' : g1 = gc := e'; omega)).cell rfl)) <| SR.q' (r_fa fa40_1 rfl) <| SR.q' (r_ld (v := .int .i64 x.Key) sca3 rfl ((((((((hb6).lo hk12).kp hk18 (fun e' => by have e'' : g1 = gc := e'; omega)).lo hk75).kp hk80 (fun e' => by have e'' : g1 = gc := e'; omega)).kp hR126 (fun e' => by have e'' : g1 = gc := e'; omega)).kp hk217 (fun e' => by have e'' : g1 = gc := e'; omega)).cell rfl)) <| SR.q' (r_add rfl rfl (by omega)) <| SR.lit (vs := [.int .i64 x.Key, .int .i64 x.Key, .int .i64 x.Key, .int .i64 (x.Key + 1)]) (L := ([x.Key, x.Key, x.Key, x.Key + 1] : List Int)) (enc := encI) tel38 (fun _ => rfl) rfl rfl rfl (by decide) ?_)
            intro g253 w254 hg255 hk256 hO257
            have hz258 := hk256.size
            have hB259 := hB224.lo hk256
            have hd260 : ¬ (some (⟨g72, 0, none⟩ : Addr)) = some ⟨g253, 0, none⟩ := fun e' => by have := ((((hO76).kp hk80 (fun b_ hb e' => by have e'' : b_ = gc := e'; have := (hO76).base_le hb; omega)).kp hR126 (fun b_ hb e' => by have e'' : b_ = gc := e'; have := ((hO76).kp hk80 (fun b_ hb e' => by have e'' : b_ = gc := e'; have := (hO76).base_le hb; omega)).base_le hb; omega)).kp hk217 (fun b_ hb e' => by have e'' : b_ = gc := e'; have := (((hO76).kp hk80 (fun b_ hb e' => by have e'' : b_ = gc := e'; have := (hO76).base_le hb; omega)).kp hR126 (fun b_ hb e' => by have e'' : b_ = gc := e'; have := ((hO76).kp hk80 (fun b_ hb e' => by have e'' : b_ = gc := e'; have := (hO76).base_le hb; omega)).base_le hb; omega)).base_le hb; omega)).base_le e'; omega
            refine SR.call ent54 (c___spec_l1Cur__among w254 Lc t219 s220 ((hb221).lo hk256) ((((((((((hLc).lo hk4).lo hk12).kp hk18 (fun b_ hb e' => by have e'' : b_ = gc := e'; omega)).lo hk75).kp hk80 (fun b_ hb e' => by have e'' : b_ = gc := e'; omega)).kp hR126 (fun b_ hb e' => by have e'' : b_ = gc := e'; omega)).kp hk217 (fun b_ hb e' => by have e'' : b_ = gc := e'; omega)).lo hk256)) (by omega) (by omega) ([x.Key, x.Key, x.Key, x.Key + 1] : List Int) (((hO257).rd)) (by omega) (by omega) (show ¬ g253 = gc from by omega)) rfl ?_
            rintro e w261 ⟨v263, t264, s265, rfl, hb266, ht267, hq268, hk262⟩
            refine ⟨_, rfl, ?_⟩
            have hz269 := hk262.size
            have hB270 := hB259.step hk262 (fun i_ hi_ e' => e')
            have hq271 : (v263 : Int) = x.Key ∨ (v263 : Int) = x.Key ∨ (v263 : Int) = x.Key ∨ (v263 : Int) = (x.Key + 1) := by simpa only [List.mem_cons, List.not_mem_nil, or_false] using hq268
            refine SR.q' (r_build (vs := [(0, .int .i64 4), (1, .int .i64 v263)]) rfl (bld48_0_1 _ _)) <| SR.store (o := 0) (vs := [.int .i64 4, .int .i64 v263]) agg48.2 rfl rfl rfl rfl ((((((((hb14).kp hk18 (fun e' => by have e'' : g9 = gc := e'; omega)).lo hk75).kp hk80 (fun e' => by have e'' : g9 = gc := e'; omega)).kp hR126 (fun e' => by have e'' : g9 = gc := e'; omega)).kp hk217 (fun e' => by have e'' : g9 = gc := e'; omega)).lo hk256).kp hk262 (fun e' => by have e'' : g9 = gc := e'; omega)) (Nat.le_of_ble_eq_true rfl) rfl ?_
            intro w272 hk273 hs274 hb275
            have hz276 := hk273.size
            have hB277 := hB270.new hk273 (by omega)
            refine SR.nil ?_
            refine W.ret ?_
            refine retC rfl rfl agg48 (hb275) rfl ?_
            exact ⟨(⟨4, v263⟩ : ChestStep), t264, s265, eR (eA (eC (eI (z_c___spec_l1Cur__chestStep_278 Lc tc sc nc htc hbdc hlec x nx_Stack hbdx_Stack hlex_Stack hp0 hp1 v19 t20 s21 ht23 h26 v81 t82 s83 ht85 hq86 hq89 h90 v112 t113 s114 ht116 hq117 hx122 h130 h215 v218 t219 s220 ht222 h225 v263 t264 s265 ht267 hq268 hq271)) (eC (eI (z_c___spec_l1Cur__chestStep_279 Lc tc sc nc htc hbdc hlec x nx_Stack hbdx_Stack hlex_Stack hp0 hp1 v19 t20 s21 ht23 h26 v81 t82 s83 ht85 hq86 hq89 h90 v112 t113 s114 ht116 hq117 hx122 h130 h215 v218 t219 s220 ht222 h225 v263 t264 s265 ht267 hq268 hq271)) rfl))), ((hb266).kp hk273 (fun e' => by have e'' : gc = g9 := e'; omega)), ⟨by omega, by omega⟩, hB277⟩
        · refine W.skip ?_
          refine W.seq ?_
          refine W.seq ?_
          refine W.regS (SR.q' (r_mv (v := .pointer (some _)) rfl) <| SR.call ent95 (c___spec_l1Cur__pick w125 Lc t113 s114 (hm123) ((((((((hLc).lo hk4).lo hk12).kp hk18 (fun b_ hb e' => by have e'' : b_ = gc := e'; omega)).lo hk75).kp hk80 (fun b_ hb e' => by have e'' : b_ = gc := e'; omega)).kp hR126 (fun b_ hb e' => by have e'' : b_ = gc := e'; omega))) (by omega) (by omega) 10 (by first | omega | (simp only [List.length_append, List.length_cons, List.length_nil, List.length_take, List.length_drop]; omega))) rfl ?_)
          rintro e w280 ⟨v282, t283, s284, rfl, hb285, ht286, hq287, hk281⟩
          refine ⟨_, rfl, ?_⟩
          have hz288 := hk281.size
          have hB289 := hB129.step hk281 (fun i_ hi_ e' => e')
          refine SR.nil ?_
          refine W.block ?_
          refine W.seq ?_
          refine W.seq ?_
          refine W.regS (SR.q' (r_eq rfl rfl) <| SR.q' (r_as (v := .bool _) rfl) <| SR.nil ?_)
          refine W.cond_d rfl (fun h290 => ?_) (fun h290 => ?_)
          · refine W.skip ?_
            refine W.cond_t (congrArg Value.bool (decide_eq_true h290)) ?_
            refine W.seq ?_
            refine W.regS (SR.q' (r_mv (v := .pointer (some _)) rfl) <| SR.lit (vs := [.int .i64 1, .int .i64 5, .int .i64 17, .int .i64 42, .int .i64 100, .int .i64 101, .int .i64 102, .int .i64 103, .int .i64 998, .int .i64 999, .int .i64 1000]) (L := ([1, 5, 17, 42, 100, 101, 102, 103, 998, 999, 1000] : List Int)) (enc := encI) tel38 (fun _ => rfl) rfl rfl rfl (by decide) ?_)
            intro g291 w292 hg293 hk294 hO295
            have hz296 := hk294.size
            have hB297 := hB289.lo hk294
            have hd298 : ¬ (some (⟨g72, 0, none⟩ : Addr)) = some ⟨g291, 0, none⟩ := fun e' => by have := ((((hO76).kp hk80 (fun b_ hb e' => by have e'' : b_ = gc := e'; have := (hO76).base_le hb; omega)).kp hR126 (fun b_ hb e' => by have e'' : b_ = gc := e'; have := ((hO76).kp hk80 (fun b_ hb e' => by have e'' : b_ = gc := e'; have := (hO76).base_le hb; omega)).base_le hb; omega)).kp hk281 (fun b_ hb e' => by have e'' : b_ = gc := e'; have := (((hO76).kp hk80 (fun b_ hb e' => by have e'' : b_ = gc := e'; have := (hO76).base_le hb; omega)).kp hR126 (fun b_ hb e' => by have e'' : b_ = gc := e'; have := ((hO76).kp hk80 (fun b_ hb e' => by have e'' : b_ = gc := e'; have := (hO76).base_le hb; omega)).base_le hb; omega)).base_le hb; omega)).base_le e'; omega
            refine SR.call ent54 (c___spec_l1Cur__among w292 Lc t283 s284 ((hb285).lo hk294) ((((((((((hLc).lo hk4).lo hk12).kp hk18 (fun b_ hb e' => by have e'' : b_ = gc := e'; omega)).lo hk75).kp hk80 (fun b_ hb e' => by have e'' : b_ = gc := e'; omega)).kp hR126 (fun b_ hb e' => by have e'' : b_ = gc := e'; omega)).kp hk281 (fun b_ hb e' => by have e'' : b_ = gc := e'; omega)).lo hk294)) (by omega) (by omega) ([1, 5, 17, 42, 100, 101, 102, 103, 998, 999, 1000] : List Int) (((hO295).rd)) (by omega) (by omega) (show ¬ g291 = gc from by omega)) rfl ?_
            rintro e w299 ⟨v301, t302, s303, rfl, hb304, ht305, hq306, hk300⟩
            refine ⟨_, rfl, ?_⟩
            have hz307 := hk300.size
            have hB308 := hB297.step hk300 (fun i_ hi_ e' => e')
            have hq309 : (1 : Int) ≤ v301 ∧ v301 ≤ 1000 := mem_rngB (lo := 1) (hi := 1000) (by decide) hq306
            refine SR.q' (r_build (vs := [(0, .int .i64 5), (1, .int .i64 v301)]) rfl (bld48_0_1 _ _)) <| SR.store (o := 0) (vs := [.int .i64 5, .int .i64 v301]) agg48.2 rfl rfl rfl rfl ((((((((hb14).kp hk18 (fun e' => by have e'' : g9 = gc := e'; omega)).lo hk75).kp hk80 (fun e' => by have e'' : g9 = gc := e'; omega)).kp hR126 (fun e' => by have e'' : g9 = gc := e'; omega)).kp hk281 (fun e' => by have e'' : g9 = gc := e'; omega)).lo hk294).kp hk300 (fun e' => by have e'' : g9 = gc := e'; omega)) (Nat.le_of_ble_eq_true rfl) rfl ?_
            intro w310 hk311 hs312 hb313
            have hz314 := hk311.size
            have hB315 := hB308.new hk311 (by omega)
            refine SR.nil ?_
            refine W.ret ?_
            refine retC rfl rfl agg48 (hb313) rfl ?_
            exact ⟨(⟨5, v301⟩ : ChestStep), t302, s303, eR (eA (eC (eI (z_c___spec_l1Cur__chestStep_316 Lc tc sc nc htc hbdc hlec x nx_Stack hbdx_Stack hlex_Stack hp0 hp1 v19 t20 s21 ht23 h26 v81 t82 s83 ht85 hq86 hq89 h90 v112 t113 s114 ht116 hq117 hx122 h130 h215 v282 t283 s284 ht286 hq287 h290 v301 t302 s303 ht305 hq306 hq309)) (eC (eI (z_c___spec_l1Cur__chestStep_317 Lc tc sc nc htc hbdc hlec x nx_Stack hbdx_Stack hlex_Stack hp0 hp1 v19 t20 s21 ht23 h26 v81 t82 s83 ht85 hq86 hq89 h90 v112 t113 s114 ht116 hq117 hx122 h130 h215 v282 t283 s284 ht286 hq287 h290 v301 t302 s303 ht305 hq306 hq309)) rfl))), ((hb304).kp hk311 (fun e' => by have e'' : gc = g9 := e'; omega)), ⟨by omega, by omega⟩, hB315⟩
          · refine W.seq ?_
            refine W.regS (SR.q' (r_eq rfl rfl) <| SR.q' (r_as (v := .bool _) rfl) <| SR.nil ?_)
            refine W.cond_d rfl (fun h318 => ?_) (fun h318 => ?_)
            · refine W.skip ?_
              refine W.cond_t (congrArg Value.bool (decide_eq_true h318)) ?_
              refine W.seq ?_
              refine W.regS (SR.q' (r_mv (v := .pointer (some _)) rfl) <| SR.lit (vs := [.int .i64 1, .int .i64 5, .int .i64 17, .int .i64 42, .int .i64 100, .int .i64 101, .int .i64 102, .int .i64 103, .int .i64 998, .int .i64 999, .int .i64 1000]) (L := ([1, 5, 17, 42, 100, 101, 102, 103, 998, 999, 1000] : List Int)) (enc := encI) tel38 (fun _ => rfl) rfl rfl rfl (by decide) ?_)
              intro g319 w320 hg321 hk322 hO323
              have hz324 := hk322.size
              have hB325 := hB289.lo hk322
              have hd326 : ¬ (some (⟨g72, 0, none⟩ : Addr)) = some ⟨g319, 0, none⟩ := fun e' => by have := ((((hO76).kp hk80 (fun b_ hb e' => by have e'' : b_ = gc := e'; have := (hO76).base_le hb; omega)).kp hR126 (fun b_ hb e' => by have e'' : b_ = gc := e'; have := ((hO76).kp hk80 (fun b_ hb e' => by have e'' : b_ = gc := e'; have := (hO76).base_le hb; omega)).base_le hb; omega)).kp hk281 (fun b_ hb e' => by have e'' : b_ = gc := e'; have := (((hO76).kp hk80 (fun b_ hb e' => by have e'' : b_ = gc := e'; have := (hO76).base_le hb; omega)).kp hR126 (fun b_ hb e' => by have e'' : b_ = gc := e'; have := ((hO76).kp hk80 (fun b_ hb e' => by have e'' : b_ = gc := e'; have := (hO76).base_le hb; omega)).base_le hb; omega)).base_le hb; omega)).base_le e'; omega
              refine SR.call ent54 (c___spec_l1Cur__among w320 Lc t283 s284 ((hb285).lo hk322) ((((((((((hLc).lo hk4).lo hk12).kp hk18 (fun b_ hb e' => by have e'' : b_ = gc := e'; omega)).lo hk75).kp hk80 (fun b_ hb e' => by have e'' : b_ = gc := e'; omega)).kp hR126 (fun b_ hb e' => by have e'' : b_ = gc := e'; omega)).kp hk281 (fun b_ hb e' => by have e'' : b_ = gc := e'; omega)).lo hk322)) (by omega) (by omega) ([1, 5, 17, 42, 100, 101, 102, 103, 998, 999, 1000] : List Int) (((hO323).rd)) (by omega) (by omega) (show ¬ g319 = gc from by omega)) rfl ?_
              rintro e w327 ⟨v329, t330, s331, rfl, hb332, ht333, hq334, hk328⟩
              refine ⟨_, rfl, ?_⟩
              have hz335 := hk328.size
              have hB336 := hB325.step hk328 (fun i_ hi_ e' => e')
              have hq337 : (1 : Int) ≤ v329 ∧ v329 ≤ 1000 := mem_rngB (lo := 1) (hi := 1000) (by decide) hq334
              refine SR.q' (r_build (vs := [(0, .int .i64 5), (1, .int .i64 v329)]) rfl (bld48_0_1 _ _)) <| SR.store (o := 0) (vs := [.int .i64 5, .int .i64 v329]) agg48.2 rfl rfl rfl rfl ((((((((hb14).kp hk18 (fun e' => by have e'' : g9 = gc := e'; omega)).lo hk75).kp hk80 (fun e' => by have e'' : g9 = gc := e'; omega)).kp hR126 (fun e' => by have e'' : g9 = gc := e'; omega)).kp hk281 (fun e' => by have e'' : g9 = gc := e'; omega)).lo hk322).kp hk328 (fun e' => by have e'' : g9 = gc := e'; omega)) (Nat.le_of_ble_eq_true rfl) rfl ?_
              intro w338 hk339 hs340 hb341
              have hz342 := hk339.size
              have hB343 := hB336.new hk339 (by omega)
              refine SR.nil ?_
              refine W.ret ?_
              refine retC rfl rfl agg48 (hb341) rfl ?_
              exact ⟨(⟨5, v329⟩ : ChestStep), t330, s331, eR (eA (eC (eI (z_c___spec_l1Cur__chestStep_344 Lc tc sc nc htc hbdc hlec x nx_Stack hbdx_Stack hlex_Stack hp0 hp1 v19 t20 s21 ht23 h26 v81 t82 s83 ht85 hq86 hq89 h90 v112 t113 s114 ht116 hq117 hx122 h130 h215 v282 t283 s284 ht286 hq287 h290 h318 v329 t330 s331 ht333 hq334 hq337)) (eC (eI (z_c___spec_l1Cur__chestStep_345 Lc tc sc nc htc hbdc hlec x nx_Stack hbdx_Stack hlex_Stack hp0 hp1 v19 t20 s21 ht23 h26 v81 t82 s83 ht85 hq86 hq89 h90 v112 t113 s114 ht116 hq117 hx122 h130 h215 v282 t283 s284 ht286 hq287 h290 h318 v329 t330 s331 ht333 hq334 hq337)) rfl))), ((hb332).kp hk339 (fun e' => by have e'' : gc = g9 := e'; omega)), ⟨by omega, by omega⟩, hB343⟩
            · refine W.seq ?_
              refine W.regS (SR.q' (r_eq rfl rfl) <| SR.q' (r_as (v := .bool _) rfl) <| SR.nil ?_)
              refine W.cond_d rfl (fun h346 => ?_) (fun h346 => ?_)
              · refine W.skip ?_
                refine W.cond_t (congrArg Value.bool (decide_eq_true h346)) ?_
                refine W.seq ?_
                refine W.regS (SR.q' (r_mv (v := .pointer (some _)) rfl) <| SR.lit (vs := [.int .i64 1, .int .i64 5, .int .i64 17, .int .i64 42, .int .i64 100, .int .i64 101, .int .i64 102, .int .i64 103, .int .i64 998, .int .i64 999, .int .i64 1000]) (L := ([1, 5, 17, 42, 100, 101, 102, 103, 998, 999, 1000] : List Int)) (enc := encI) tel38 (fun _ => rfl) rfl rfl rfl (by decide) ?_)
                intro g347 w348 hg349 hk350 hO351
                have hz352 := hk350.size
                have hB353 := hB289.lo hk350
                have hd354 : ¬ (some (⟨g72, 0, none⟩ : Addr)) = some ⟨g347, 0, none⟩ := fun e' => by have := ((((hO76).kp hk80 (fun b_ hb e' => by have e'' : b_ = gc := e'; have := (hO76).base_le hb; omega)).kp hR126 (fun b_ hb e' => by have e'' : b_ = gc := e'; have := ((hO76).kp hk80 (fun b_ hb e' => by have e'' : b_ = gc := e'; have := (hO76).base_le hb; omega)).base_le hb; omega)).kp hk281 (fun b_ hb e' => by have e'' : b_ = gc := e'; have := (((hO76).kp hk80 (fun b_ hb e' => by have e'' : b_ = gc := e'; have := (hO76).base_le hb; omega)).kp hR126 (fun b_ hb e' => by have e'' : b_ = gc := e'; have := ((hO76).kp hk80 (fun b_ hb e' => by have e'' : b_ = gc := e'; have := (hO76).base_le hb; omega)).base_le hb; omega)).base_le hb; omega)).base_le e'; omega
                refine SR.call ent54 (c___spec_l1Cur__among w348 Lc t283 s284 ((hb285).lo hk350) ((((((((((hLc).lo hk4).lo hk12).kp hk18 (fun b_ hb e' => by have e'' : b_ = gc := e'; omega)).lo hk75).kp hk80 (fun b_ hb e' => by have e'' : b_ = gc := e'; omega)).kp hR126 (fun b_ hb e' => by have e'' : b_ = gc := e'; omega)).kp hk281 (fun b_ hb e' => by have e'' : b_ = gc := e'; omega)).lo hk350)) (by omega) (by omega) ([1, 5, 17, 42, 100, 101, 102, 103, 998, 999, 1000] : List Int) (((hO351).rd)) (by omega) (by omega) (show ¬ g347 = gc from by omega)) rfl ?_
                rintro e w355 ⟨v357, t358, s359, rfl, hb360, ht361, hq362, hk356⟩
                refine ⟨_, rfl, ?_⟩
                have hz363 := hk356.size
                have hB364 := hB353.step hk356 (fun i_ hi_ e' => e')
                have hq365 : (1 : Int) ≤ v357 ∧ v357 ≤ 1000 := mem_rngB (lo := 1) (hi := 1000) (by decide) hq362
                refine SR.q' (r_build (vs := [(0, .int .i64 5), (1, .int .i64 v357)]) rfl (bld48_0_1 _ _)) <| SR.store (o := 0) (vs := [.int .i64 5, .int .i64 v357]) agg48.2 rfl rfl rfl rfl ((((((((hb14).kp hk18 (fun e' => by have e'' : g9 = gc := e'; omega)).lo hk75).kp hk80 (fun e' => by have e'' : g9 = gc := e'; omega)).kp hR126 (fun e' => by have e'' : g9 = gc := e'; omega)).kp hk281 (fun e' => by have e'' : g9 = gc := e'; omega)).lo hk350).kp hk356 (fun e' => by have e'' : g9 = gc := e'; omega)) (Nat.le_of_ble_eq_true rfl) rfl ?_
                intro w366 hk367 hs368 hb369
                have hz370 := hk367.size
                have hB371 := hB364.new hk367 (by omega)
                refine SR.nil ?_
                refine W.ret ?_
                refine retC rfl rfl agg48 (hb369) rfl ?_
                exact ⟨(⟨5, v357⟩ : ChestStep), t358, s359, eR (eA (eC (eI (z_c___spec_l1Cur__chestStep_372 Lc tc sc nc htc hbdc hlec x nx_Stack hbdx_Stack hlex_Stack hp0 hp1 v19 t20 s21 ht23 h26 v81 t82 s83 ht85 hq86 hq89 h90 v112 t113 s114 ht116 hq117 hx122 h130 h215 v282 t283 s284 ht286 hq287 h290 h318 h346 v357 t358 s359 ht361 hq362 hq365)) (eC (eI (z_c___spec_l1Cur__chestStep_373 Lc tc sc nc htc hbdc hlec x nx_Stack hbdx_Stack hlex_Stack hp0 hp1 v19 t20 s21 ht23 h26 v81 t82 s83 ht85 hq86 hq89 h90 v112 t113 s114 ht116 hq117 hx122 h130 h215 v282 t283 s284 ht286 hq287 h290 h318 h346 v357 t358 s359 ht361 hq362 hq365)) rfl))), ((hb360).kp hk367 (fun e' => by have e'' : gc = g9 := e'; omega)), ⟨by omega, by omega⟩, hB371⟩
              · refine W.regS (SR.q' (r_eq rfl rfl) <| SR.q' (r_as (v := .bool _) rfl) <| SR.nil ?_)
                refine W.cond_d rfl (fun h374 => ?_) (fun h374 => ?_)
                · refine W.seq ?_
                  refine W.regS (SR.q' (r_mv (v := .pointer (some _)) rfl) <| SR.lit (vs := [.int .i64 1, .int .i64 5, .int .i64 17, .int .i64 42, .int .i64 100, .int .i64 101, .int .i64 102, .int .i64 103, .int .i64 998, .int .i64 999, .int .i64 1000]) (L := ([1, 5, 17, 42, 100, 101, 102, 103, 998, 999, 1000] : List Int)) (enc := encI) tel38 (fun _ => rfl) rfl rfl rfl (by decide) ?_)
                  intro g375 w376 hg377 hk378 hO379
                  have hz380 := hk378.size
                  have hB381 := hB289.lo hk378
                  have hd382 : ¬ (some (⟨g72, 0, none⟩ : Addr)) = some ⟨g375, 0, none⟩ := fun e' => by have := ((((hO76).kp hk80 (fun b_ hb e' => by have e'' : b_ = gc := e'; have := (hO76).base_le hb; omega)).kp hR126 (fun b_ hb e' => by have e'' : b_ = gc := e'; have := ((hO76).kp hk80 (fun b_ hb e' => by have e'' : b_ = gc := e'; have := (hO76).base_le hb; omega)).base_le hb; omega)).kp hk281 (fun b_ hb e' => by have e'' : b_ = gc := e'; have := (((hO76).kp hk80 (fun b_ hb e' => by have e'' : b_ = gc := e'; have := (hO76).base_le hb; omega)).kp hR126 (fun b_ hb e' => by have e'' : b_ = gc := e'; have := ((hO76).kp hk80 (fun b_ hb e' => by have e'' : b_ = gc := e'; have := (hO76).base_le hb; omega)).base_le hb; omega)).base_le hb; omega)).base_le e'; omega
                  refine SR.call ent54 (c___spec_l1Cur__among w376 Lc t283 s284 ((hb285).lo hk378) ((((((((((hLc).lo hk4).lo hk12).kp hk18 (fun b_ hb e' => by have e'' : b_ = gc := e'; omega)).lo hk75).kp hk80 (fun b_ hb e' => by have e'' : b_ = gc := e'; omega)).kp hR126 (fun b_ hb e' => by have e'' : b_ = gc := e'; omega)).kp hk281 (fun b_ hb e' => by have e'' : b_ = gc := e'; omega)).lo hk378)) (by omega) (by omega) ([1, 5, 17, 42, 100, 101, 102, 103, 998, 999, 1000] : List Int) (((hO379).rd)) (by omega) (by omega) (show ¬ g375 = gc from by omega)) rfl ?_
                  rintro e w383 ⟨v385, t386, s387, rfl, hb388, ht389, hq390, hk384⟩
                  refine ⟨_, rfl, ?_⟩
                  have hz391 := hk384.size
                  have hB392 := hB381.step hk384 (fun i_ hi_ e' => e')
                  have hq393 : (1 : Int) ≤ v385 ∧ v385 ≤ 1000 := mem_rngB (lo := 1) (hi := 1000) (by decide) hq390
                  refine SR.q' (r_build (vs := [(0, .int .i64 5), (1, .int .i64 v385)]) rfl (bld48_0_1 _ _)) <| SR.store (o := 0) (vs := [.int .i64 5, .int .i64 v385]) agg48.2 rfl rfl rfl rfl ((((((((hb14).kp hk18 (fun e' => by have e'' : g9 = gc := e'; omega)).lo hk75).kp hk80 (fun e' => by have e'' : g9 = gc := e'; omega)).kp hR126 (fun e' => by have e'' : g9 = gc := e'; omega)).kp hk281 (fun e' => by have e'' : g9 = gc := e'; omega)).lo hk378).kp hk384 (fun e' => by have e'' : g9 = gc := e'; omega)) (Nat.le_of_ble_eq_true rfl) rfl ?_
                  intro w394 hk395 hs396 hb397
                  have hz398 := hk395.size
                  have hB399 := hB392.new hk395 (by omega)
                  refine SR.nil ?_
                  refine W.ret ?_
                  refine retC rfl rfl agg48 (hb397) rfl ?_
                  exact ⟨(⟨5, v385⟩ : ChestStep), t386, s387, eR (eA (eC (eI (z_c___spec_l1Cur__chestStep_400 Lc tc sc nc htc hbdc hlec x nx_Stack hbdx_Stack hlex_Stack hp0 hp1 v19 t20 s21 ht23 h26 v81 t82 s83 ht85 hq86 hq89 h90 v112 t113 s114 ht116 hq117 hx122 h130 h215 v282 t283 s284 ht286 hq287 h290 h318 h346 h374 v385 t386 s387 ht389 hq390 hq393)) (eC (eI (z_c___spec_l1Cur__chestStep_401 Lc tc sc nc htc hbdc hlec x nx_Stack hbdx_Stack hlex_Stack hp0 hp1 v19 t20 s21 ht23 h26 v81 t82 s83 ht85 hq86 hq89 h90 v112 t113 s114 ht116 hq117 hx122 h130 h215 v282 t283 s284 ht286 hq287 h290 h318 h346 h374 v385 t386 s387 ht389 hq390 hq393)) rfl))), ((hb388).kp hk395 (fun e' => by have e'' : gc = g9 := e'; omega)), ⟨by omega, by omega⟩, hB399⟩
                · refine W.seq ?_
                  refine W.seq ?_
                  refine W.regS (SR.q' (r_eq rfl rfl) <| SR.q' (r_as (v := .bool _) rfl) <| SR.nil ?_)
                  refine W.cond_d rfl (fun h402 => ?_) (fun h402 => ?_)
                  · refine W.skip ?_
                    refine W.cond_t (congrArg Value.bool (decide_eq_true h402)) ?_
                    refine W.seq ?_
                    refine W.regS (SR.q' (r_mv (v := .int .i64 _) rfl) <| SR.q' (r_build (vs := [(0, .int .i64 6), (1, .int .i64 (gt x.Stack v112.toNat))]) rfl (bld48_0_1 _ _)) <| SR.store (o := 0) (vs := [.int .i64 6, .int .i64 (gt x.Stack v112.toNat)]) agg48.2 rfl rfl rfl rfl ((((((hb14).kp hk18 (fun e' => by have e'' : g9 = gc := e'; omega)).lo hk75).kp hk80 (fun e' => by have e'' : g9 = gc := e'; omega)).kp hR126 (fun e' => by have e'' : g9 = gc := e'; omega)).kp hk281 (fun e' => by have e'' : g9 = gc := e'; omega)) (Nat.le_of_ble_eq_true rfl) rfl ?_)
                    intro w403 hk404 hs405 hb406
                    have hz407 := hk404.size
                    have hB408 := hB289.new hk404 (by omega)
                    refine SR.nil ?_
                    refine W.ret ?_
                    refine retC rfl rfl agg48 (hb406) rfl ?_
                    exact ⟨(⟨6, (gt x.Stack v112.toNat)⟩ : ChestStep), t283, s284, eR (eA (eC (eI (z_c___spec_l1Cur__chestStep_409 Lc tc sc nc htc hbdc hlec x nx_Stack hbdx_Stack hlex_Stack hp0 hp1 v19 t20 s21 ht23 h26 v81 t82 s83 ht85 hq86 hq89 h90 v112 t113 s114 ht116 hq117 hx122 h130 h215 v282 t283 s284 ht286 hq287 h290 h318 h346 h374 h402)) (eC (eI (z_c___spec_l1Cur__chestStep_410 Lc tc sc nc htc hbdc hlec x nx_Stack hbdx_Stack hlex_Stack hp0 hp1 v19 t20 s21 ht23 h26 v81 t82 s83 ht85 hq86 hq89 h90 v112 t113 s114 ht116 hq117 hx122 h130 h215 v282 t283 s284 ht286 hq287 h290 h318 h346 h374 h402)) rfl))), ((hb285).kp hk404 (fun e' => by have e'' : gc = g9 := e'; omega)), ⟨by omega, by omega⟩, hB408⟩
                  · refine W.regS (SR.q' (r_eq rfl rfl) <| SR.q' (r_as (v := .bool _) rfl) <| SR.nil ?_)
                    refine W.cond_d rfl (fun h411 => ?_) (fun h411 => ?_)
                    · refine W.seq ?_
                      refine W.regS (SR.q' (r_mv (v := .int .i64 _) rfl) <| SR.q' (r_build (vs := [(0, .int .i64 6), (1, .int .i64 (gt x.Stack v112.toNat))]) rfl (bld48_0_1 _ _)) <| SR.store (o := 0) (vs := [.int .i64 6, .int .i64 (gt x.Stack v112.toNat)]) agg48.2 rfl rfl rfl rfl ((((((hb14).kp hk18 (fun e' => by have e'' : g9 = gc := e'; omega)).lo hk75).kp hk80 (fun e' => by have e'' : g9 = gc := e'; omega)).kp hR126 (fun e' => by have e'' : g9 = gc := e'; omega)).kp hk281 (fun e' => by have e'' : g9 = gc := e'; omega)) (Nat.le_of_ble_eq_true rfl) rfl ?_)
                      intro w412 hk413 hs414 hb415
                      have hz416 := hk413.size
                      have hB417 := hB289.new hk413 (by omega)
                      refine SR.nil ?_
                      refine W.ret ?_
                      refine retC rfl rfl agg48 (hb415) rfl ?_
                      exact ⟨(⟨6, (gt x.Stack v112.toNat)⟩ : ChestStep), t283, s284, eR (eA (eC (eI (z_c___spec_l1Cur__chestStep_418 Lc tc sc nc htc hbdc hlec x nx_Stack hbdx_Stack hlex_Stack hp0 hp1 v19 t20 s21 ht23 h26 v81 t82 s83 ht85 hq86 hq89 h90 v112 t113 s114 ht116 hq117 hx122 h130 h215 v282 t283 s284 ht286 hq287 h290 h318 h346 h374 h402 h411)) (eC (eI (z_c___spec_l1Cur__chestStep_419 Lc tc sc nc htc hbdc hlec x nx_Stack hbdx_Stack hlex_Stack hp0 hp1 v19 t20 s21 ht23 h26 v81 t82 s83 ht85 hq86 hq89 h90 v112 t113 s114 ht116 hq117 hx122 h130 h215 v282 t283 s284 ht286 hq287 h290 h318 h346 h374 h402 h411)) rfl))), ((hb285).kp hk413 (fun e' => by have e'' : gc = g9 := e'; omega)), ⟨by omega, by omega⟩, hB417⟩
                    · refine W.seq ?_
                      refine W.seq ?_
                      refine W.regS (SR.q' (r_eq rfl rfl) <| SR.q' (r_as (v := .bool _) rfl) <| SR.nil ?_)
                      refine W.cond_d rfl (fun h420 => ?_) (fun h420 => ?_)
                      · refine W.skip ?_
                        refine W.cond_t (congrArg Value.bool (decide_eq_true h420)) ?_
                        refine W.seq ?_
                        refine W.regS (SR.q' (r_mv (v := .pointer (some _)) rfl) <| SR.lit (vs := [.int .i64 0, .int .i64 1, .int .i64 30, .int .i64 100, .int .i64 101]) (L := ([0, 1, 30, 100, 101] : List Int)) (enc := encI) tel38 (fun _ => rfl) rfl rfl rfl (by decide) ?_)
                        intro g421 w422 hg423 hk424 hO425
                        have hz426 := hk424.size
                        have hB427 := hB289.lo hk424
                        have hd428 : ¬ (some (⟨g72, 0, none⟩ : Addr)) = some ⟨g421, 0, none⟩ := fun e' => by have := ((((hO76).kp hk80 (fun b_ hb e' => by have e'' : b_ = gc := e'; have := (hO76).base_le hb; omega)).kp hR126 (fun b_ hb e' => by have e'' : b_ = gc := e'; have := ((hO76).kp hk80 (fun b_ hb e' => by have e'' : b_ = gc := e'; have := (hO76).base_le hb; omega)).base_le hb; omega)).kp hk281 (fun b_ hb e' => by have e'' : b_ = gc := e'; have := (((hO76).kp hk80 (fun b_ hb e' => by have e'' : b_ = gc := e'; have := (hO76).base_le hb; omega)).kp hR126 (fun b_ hb e' => by have e'' : b_ = gc := e'; have := ((hO76).kp hk80 (fun b_ hb e' => by have e'' : b_ = gc := e'; have := (hO76).base_le hb; omega)).base_le hb; omega)).base_le hb; omega)).base_le e'; omega
                        refine SR.call ent54 (c___spec_l1Cur__among w422 Lc t283 s284 ((hb285).lo hk424) ((((((((((hLc).lo hk4).lo hk12).kp hk18 (fun b_ hb e' => by have e'' : b_ = gc := e'; omega)).lo hk75).kp hk80 (fun b_ hb e' => by have e'' : b_ = gc := e'; omega)).kp hR126 (fun b_ hb e' => by have e'' : b_ = gc := e'; omega)).kp hk281 (fun b_ hb e' => by have e'' : b_ = gc := e'; omega)).lo hk424)) (by omega) (by omega) ([0, 1, 30, 100, 101] : List Int) (((hO425).rd)) (by omega) (by omega) (show ¬ g421 = gc from by omega)) rfl ?_
                        rintro e w429 ⟨v431, t432, s433, rfl, hb434, ht435, hq436, hk430⟩
                        refine ⟨_, rfl, ?_⟩
                        have hz437 := hk430.size
                        have hB438 := hB427.step hk430 (fun i_ hi_ e' => e')
                        have hq439 : (0 : Int) ≤ v431 ∧ v431 ≤ 101 := mem_rngB (lo := 0) (hi := 101) (by decide) hq436
                        refine SR.q' (r_build (vs := [(0, .int .i64 7), (1, .int .i64 v431)]) rfl (bld48_0_1 _ _)) <| SR.store (o := 0) (vs := [.int .i64 7, .int .i64 v431]) agg48.2 rfl rfl rfl rfl ((((((((hb14).kp hk18 (fun e' => by have e'' : g9 = gc := e'; omega)).lo hk75).kp hk80 (fun e' => by have e'' : g9 = gc := e'; omega)).kp hR126 (fun e' => by have e'' : g9 = gc := e'; omega)).kp hk281 (fun e' => by have e'' : g9 = gc := e'; omega)).lo hk424).kp hk430 (fun e' => by have e'' : g9 = gc := e'; omega)) (Nat.le_of_ble_eq_true rfl) rfl ?_
                        intro w440 hk441 hs442 hb443
                        have hz444 := hk441.size
                        have hB445 := hB438.new hk441 (by omega)
                        refine SR.nil ?_
                        refine W.ret ?_
                        refine retC rfl rfl agg48 (hb443) rfl ?_
                        exact ⟨(⟨7, v431⟩ : ChestStep), t432, s433, eR (eA (eC (eI (z_c___spec_l1Cur__chestStep_446 Lc tc sc nc htc hbdc hlec x nx_Stack hbdx_Stack hlex_Stack hp0 hp1 v19 t20 s21 ht23 h26 v81 t82 s83 ht85 hq86 hq89 h90 v112 t113 s114 ht116 hq117 hx122 h130 h215 v282 t283 s284 ht286 hq287 h290 h318 h346 h374 h402 h411 h420 v431 t432 s433 ht435 hq436 hq439)) (eC (eI (z_c___spec_l1Cur__chestStep_447 Lc tc sc nc htc hbdc hlec x nx_Stack hbdx_Stack hlex_Stack hp0 hp1 v19 t20 s21 ht23 h26 v81 t82 s83 ht85 hq86 hq89 h90 v112 t113 s114 ht116 hq117 hx122 h130 h215 v282 t283 s284 ht286 hq287 h290 h318 h346 h374 h402 h411 h420 v431 t432 s433 ht435 hq436 hq439)) rfl))), ((hb434).kp hk441 (fun e' => by have e'' : gc = g9 := e'; omega)), ⟨by omega, by omega⟩, hB445⟩
                      · refine W.regS (SR.q' (r_eq rfl rfl) <| SR.q' (r_as (v := .bool _) rfl) <| SR.nil ?_)
                        refine W.cond_d rfl (fun h448 => ?_) (fun h448 => ?_)
                        · refine W.seq ?_
                          refine W.regS (SR.q' (r_mv (v := .pointer (some _)) rfl) <| SR.lit (vs := [.int .i64 0, .int .i64 1, .int .i64 30, .int .i64 100, .int .i64 101]) (L := ([0, 1, 30, 100, 101] : List Int)) (enc := encI) tel38 (fun _ => rfl) rfl rfl rfl (by decide) ?_)
                          intro g449 w450 hg451 hk452 hO453
                          have hz454 := hk452.size
                          have hB455 := hB289.lo hk452
                          have hd456 : ¬ (some (⟨g72, 0, none⟩ : Addr)) = some ⟨g449, 0, none⟩ := fun e' => by have := ((((hO76).kp hk80 (fun b_ hb e' => by have e'' : b_ = gc := e'; have := (hO76).base_le hb; omega)).kp hR126 (fun b_ hb e' => by have e'' : b_ = gc := e'; have := ((hO76).kp hk80 (fun b_ hb e' => by have e'' : b_ = gc := e'; have := (hO76).base_le hb; omega)).base_le hb; omega)).kp hk281 (fun b_ hb e' => by have e'' : b_ = gc := e'; have := (((hO76).kp hk80 (fun b_ hb e' => by have e'' : b_ = gc := e'; have := (hO76).base_le hb; omega)).kp hR126 (fun b_ hb e' => by have e'' : b_ = gc := e'; have := ((hO76).kp hk80 (fun b_ hb e' => by have e'' : b_ = gc := e'; have := (hO76).base_le hb; omega)).base_le hb; omega)).base_le hb; omega)).base_le e'; omega
                          refine SR.call ent54 (c___spec_l1Cur__among w450 Lc t283 s284 ((hb285).lo hk452) ((((((((((hLc).lo hk4).lo hk12).kp hk18 (fun b_ hb e' => by have e'' : b_ = gc := e'; omega)).lo hk75).kp hk80 (fun b_ hb e' => by have e'' : b_ = gc := e'; omega)).kp hR126 (fun b_ hb e' => by have e'' : b_ = gc := e'; omega)).kp hk281 (fun b_ hb e' => by have e'' : b_ = gc := e'; omega)).lo hk452)) (by omega) (by omega) ([0, 1, 30, 100, 101] : List Int) (((hO453).rd)) (by omega) (by omega) (show ¬ g449 = gc from by omega)) rfl ?_
                          rintro e w457 ⟨v459, t460, s461, rfl, hb462, ht463, hq464, hk458⟩
                          refine ⟨_, rfl, ?_⟩
                          have hz465 := hk458.size
                          have hB466 := hB455.step hk458 (fun i_ hi_ e' => e')
                          have hq467 : (0 : Int) ≤ v459 ∧ v459 ≤ 101 := mem_rngB (lo := 0) (hi := 101) (by decide) hq464
                          refine SR.q' (r_build (vs := [(0, .int .i64 7), (1, .int .i64 v459)]) rfl (bld48_0_1 _ _)) <| SR.store (o := 0) (vs := [.int .i64 7, .int .i64 v459]) agg48.2 rfl rfl rfl rfl ((((((((hb14).kp hk18 (fun e' => by have e'' : g9 = gc := e'; omega)).lo hk75).kp hk80 (fun e' => by have e'' : g9 = gc := e'; omega)).kp hR126 (fun e' => by have e'' : g9 = gc := e'; omega)).kp hk281 (fun e' => by have e'' : g9 = gc := e'; omega)).lo hk452).kp hk458 (fun e' => by have e'' : g9 = gc := e'; omega)) (Nat.le_of_ble_eq_true rfl) rfl ?_
                          intro w468 hk469 hs470 hb471
                          have hz472 := hk469.size
                          have hB473 := hB466.new hk469 (by omega)
                          refine SR.nil ?_
                          refine W.ret ?_
                          refine retC rfl rfl agg48 (hb471) rfl ?_
                          exact ⟨(⟨7, v459⟩ : ChestStep), t460, s461, eR (eA (eC (eI (z_c___spec_l1Cur__chestStep_474 Lc tc sc nc htc hbdc hlec x nx_Stack hbdx_Stack hlex_Stack hp0 hp1 v19 t20 s21 ht23 h26 v81 t82 s83 ht85 hq86 hq89 h90 v112 t113 s114 ht116 hq117 hx122 h130 h215 v282 t283 s284 ht286 hq287 h290 h318 h346 h374 h402 h411 h420 h448 v459 t460 s461 ht463 hq464 hq467)) (eC (eI (z_c___spec_l1Cur__chestStep_475 Lc tc sc nc htc hbdc hlec x nx_Stack hbdx_Stack hlex_Stack hp0 hp1 v19 t20 s21 ht23 h26 v81 t82 s83 ht85 hq86 hq89 h90 v112 t113 s114 ht116 hq117 hx122 h130 h215 v282 t283 s284 ht286 hq287 h290 h318 h346 h374 h402 h411 h420 h448 v459 t460 s461 ht463 hq464 hq467)) rfl))), ((hb462).kp hk469 (fun e' => by have e'' : gc = g9 := e'; omega)), ⟨by omega, by omega⟩, hB473⟩
                        · refine W.seq ?_
                          refine W.regS (SR.q' (r_eq rfl rfl) <| SR.q' (r_as (v := .bool _) rfl) <| SR.nil ?_)
                          refine W.cond_d rfl (fun h476 => ?_) (fun h476 => ?_)
                          · refine W.seq ?_
                            refine W.regS (SR.q' (r_build (vs := [(0, .int .i64 2)]) rfl (bld48_0 _)) <| SR.store (o := 0) (vs := [.int .i64 2, .int .i64 0]) agg48.2 rfl rfl rfl rfl ((((((hb14).kp hk18 (fun e' => by have e'' : g9 = gc := e'; omega)).lo hk75).kp hk80 (fun e' => by have e'' : g9 = gc := e'; omega)).kp hR126 (fun e' => by have e'' : g9 = gc := e'; omega)).kp hk281 (fun e' => by have e'' : g9 = gc := e'; omega)) (Nat.le_of_ble_eq_true rfl) rfl ?_)
                            intro w477 hk478 hs479 hb480
                            have hz481 := hk478.size
                            have hB482 := hB289.new hk478 (by omega)
                            refine SR.nil ?_
                            refine W.ret ?_
                            refine retC rfl rfl agg48 (hb480) rfl ?_
                            exact ⟨(⟨2, 0⟩ : ChestStep), t283, s284, eR (eA (eC (eI (z_c___spec_l1Cur__chestStep_483 Lc tc sc nc htc hbdc hlec x nx_Stack hbdx_Stack hlex_Stack hp0 hp1 v19 t20 s21 ht23 h26 v81 t82 s83 ht85 hq86 hq89 h90 v112 t113 s114 ht116 hq117 hx122 h130 h215 v282 t283 s284 ht286 hq287 h290 h318 h346 h374 h402 h411 h420 h448 h476)) (eC (eI (z_c___spec_l1Cur__chestStep_484 Lc tc sc nc htc hbdc hlec x nx_Stack hbdx_Stack hlex_Stack hp0 hp1 v19 t20 s21 ht23 h26 v81 t82 s83 ht85 hq86 hq89 h90 v112 t113 s114 ht116 hq117 hx122 h130 h215 v282 t283 s284 ht286 hq287 h290 h318 h346 h374 h402 h411 h420 h448 h476)) rfl))), ((hb285).kp hk478 (fun e' => by have e'' : gc = g9 := e'; omega)), ⟨by omega, by omega⟩, hB482⟩
                          · refine W.skip ?_
                            refine W.seq ?_
                            refine W.regS (SR.q' (r_build (vs := [(0, .int .i64 1)]) rfl (bld48_0 _)) <| SR.store (o := 0) (vs := [.int .i64 1, .int .i64 0]) agg48.2 rfl rfl rfl rfl ((((((hb14).kp hk18 (fun e' => by have e'' : g9 = gc := e'; omega)).lo hk75).kp hk80 (fun e' => by have e'' : g9 = gc := e'; omega)).kp hR126 (fun e' => by have e'' : g9 = gc := e'; omega)).kp hk281 (fun e' => by have e'' : g9 = gc := e'; omega)) (Nat.le_of_ble_eq_true rfl) rfl ?_)
                            intro w485 hk486 hs487 hb488
                            have hz489 := hk486.size
                            have hB490 := hB289.new hk486 (by omega)
                            refine SR.nil ?_
                            refine W.ret ?_
                            refine retC rfl rfl agg48 (hb488) rfl ?_
                            exact ⟨(⟨1, 0⟩ : ChestStep), t283, s284, eR (eA (eC (eI (z_c___spec_l1Cur__chestStep_491 Lc tc sc nc htc hbdc hlec x nx_Stack hbdx_Stack hlex_Stack hp0 hp1 v19 t20 s21 ht23 h26 v81 t82 s83 ht85 hq86 hq89 h90 v112 t113 s114 ht116 hq117 hx122 h130 h215 v282 t283 s284 ht286 hq287 h290 h318 h346 h374 h402 h411 h420 h448 h476)) (eC (eI (z_c___spec_l1Cur__chestStep_492 Lc tc sc nc htc hbdc hlec x nx_Stack hbdx_Stack hlex_Stack hp0 hp1 v19 t20 s21 ht23 h26 v81 t82 s83 ht85 hq86 hq89 h90 v112 t113 s114 ht116 hq117 hx122 h130 h215 v282 t283 s284 ht286 hq287 h290 h318 h346 h374 h402 h411 h420 h448 h476)) rfl))), ((hb285).kp hk486 (fun e' => by have e'' : gc = g9 := e'; omega)), ⟨by omega, by omega⟩, hB490⟩
    · refine W.skip ?_
      refine W.seq ?_
      refine W.seq ?_
      refine W.regS (SR.q' (r_fa fa40_0 rfl) <| SR.q' (r_ld (v := .int .i64 x.State) sca3 rfl ((((((hb6).lo hk12).kp hk18 (fun e' => by have e'' : g1 = gc := e'; omega)).lo hk75).kp hk80 (fun e' => by have e'' : g1 = gc := e'; omega)).cell rfl)) <| SR.nil ?_)
      refine W.block ?_
      refine W.seq ?_
      refine W.regS (SR.q' (r_eq rfl rfl) <| SR.q' (r_as (v := .bool _) rfl) <| SR.nil ?_)
      refine W.cond_d rfl (fun h493 => ?_) (fun h493 => ?_)
      · refine W.seq ?_
        refine W.seq ?_
        refine W.regS (SR.q' (r_mv (v := .pointer (some _)) rfl) <| SR.call ent118 (c___spec_l1Cur__one w79 Lc t82 s83 (hb84) (((((((hLc).lo hk4).lo hk12).kp hk18 (fun b_ hb e' => by have e'' : b_ = gc := e'; omega)).lo hk75).kp hk80 (fun b_ hb e' => by have e'' : b_ = gc := e'; omega))) (by omega) (by omega) 3 (by first | omega | (simp only [List.length_append, List.length_cons, List.length_nil, List.length_take, List.length_drop]; omega))) rfl ?_)
        rintro e w494 ⟨v496, t497, s498, rfl, hb499, ht500, hk495⟩
        refine ⟨_, rfl, ?_⟩
        have hz501 := hk495.size
        have hB502 := hB88.step hk495 (fun i_ hi_ e' => e')
        refine SR.nil ?_
        refine W.cond_b rfl (fun h503 => ?_) (fun h503 => ?_)
        · refine W.seq ?_
          refine W.regS (SR.q' (r_mv (v := .pointer (some _)) rfl) <| SR.lit (vs := [.int .i64 1, .int .i64 77, .int .i64 9999, .int .i64 10000]) (L := ([1, 77, 9999, 10000] : List Int)) (enc := encI) tel38 (fun _ => rfl) rfl rfl rfl (by decide) ?_)
          intro g504 w505 hg506 hk507 hO508
          have hz509 := hk507.size
          have hB510 := hB502.lo hk507
          have hd511 : ¬ (some (⟨g72, 0, none⟩ : Addr)) = some ⟨g504, 0, none⟩ := fun e' => by have := (((hO76).kp hk80 (fun b_ hb e' => by have e'' : b_ = gc := e'; have := (hO76).base_le hb; omega)).kp hk495 (fun b_ hb e' => by have e'' : b_ = gc := e'; have := ((hO76).kp hk80 (fun b_ hb e' => by have e'' : b_ = gc := e'; have := (hO76).base_le hb; omega)).base_le hb; omega)).base_le e'; omega
          refine SR.call ent54 (c___spec_l1Cur__among w505 Lc t497 s498 ((hb499).lo hk507) (((((((((hLc).lo hk4).lo hk12).kp hk18 (fun b_ hb e' => by have e'' : b_ = gc := e'; omega)).lo hk75).kp hk80 (fun b_ hb e' => by have e'' : b_ = gc := e'; omega)).kp hk495 (fun b_ hb e' => by have e'' : b_ = gc := e'; omega)).lo hk507)) (by omega) (by omega) ([1, 77, 9999, 10000] : List Int) (((hO508).rd)) (by omega) (by omega) (show ¬ g504 = gc from by omega)) rfl ?_
          rintro e w512 ⟨v514, t515, s516, rfl, hb517, ht518, hq519, hk513⟩
          refine ⟨_, rfl, ?_⟩
          have hz520 := hk513.size
          have hB521 := hB510.step hk513 (fun i_ hi_ e' => e')
          have hq522 : (1 : Int) ≤ v514 ∧ v514 ≤ 10000 := mem_rngB (lo := 1) (hi := 10000) (by decide) hq519
          refine SR.q' (r_build (vs := [(0, .int .i64 3), (1, .int .i64 v514)]) rfl (bld48_0_1 _ _)) <| SR.store (o := 0) (vs := [.int .i64 3, .int .i64 v514]) agg48.2 rfl rfl rfl rfl (((((((hb14).kp hk18 (fun e' => by have e'' : g9 = gc := e'; omega)).lo hk75).kp hk80 (fun e' => by have e'' : g9 = gc := e'; omega)).kp hk495 (fun e' => by have e'' : g9 = gc := e'; omega)).lo hk507).kp hk513 (fun e' => by have e'' : g9 = gc := e'; omega)) (Nat.le_of_ble_eq_true rfl) rfl ?_
          intro w523 hk524 hs525 hb526
          have hz527 := hk524.size
          have hB528 := hB521.new hk524 (by omega)
          refine SR.nil ?_
          refine W.ret ?_
          refine retC rfl rfl agg48 (hb526) rfl ?_
          exact ⟨(⟨3, v514⟩ : ChestStep), t515, s516, eR (eA (eC (eI (z_c___spec_l1Cur__chestStep_529 Lc tc sc nc htc hbdc hlec x nx_Stack hbdx_Stack hlex_Stack hp0 hp1 v19 t20 s21 ht23 h26 v81 t82 s83 ht85 hq86 hq89 h90 h493 v496 t497 s498 ht500 h503 v514 t515 s516 ht518 hq519 hq522)) (eC (eI (z_c___spec_l1Cur__chestStep_530 Lc tc sc nc htc hbdc hlec x nx_Stack hbdx_Stack hlex_Stack hp0 hp1 v19 t20 s21 ht23 h26 v81 t82 s83 ht85 hq86 hq89 h90 h493 v496 t497 s498 ht500 h503 v514 t515 s516 ht518 hq519 hq522)) rfl))), ((hb517).kp hk524 (fun e' => by have e'' : gc = g9 := e'; omega)), ⟨by omega, by omega⟩, hB528⟩
        · refine W.skip ?_
          refine W.seq ?_
          refine W.regS (SR.q' (r_mv (v := .pointer (some _)) rfl) <| SR.lit (vs := [.int .i64 1, .int .i64 1, .int .i64 7]) (L := ([1, 1, 7] : List Int)) (enc := encI) tel38 (fun _ => rfl) rfl rfl rfl (by decide) ?_)
          intro g531 w532 hg533 hk534 hO535
          have hz536 := hk534.size
          have hB537 := hB502.lo hk534
          have hd538 : ¬ (some (⟨g72, 0, none⟩ : Addr)) = some ⟨g531, 0, none⟩ := fun e' => by have := (((hO76).kp hk80 (fun b_ hb e' => by have e'' : b_ = gc := e'; have := (hO76).base_le hb; omega)).kp hk495 (fun b_ hb e' => by have e'' : b_ = gc := e'; have := ((hO76).kp hk80 (fun b_ hb e' => by have e'' : b_ = gc := e'; have := (hO76).base_le hb; omega)).base_le hb; omega)).base_le e'; omega
          refine SR.call ent54 (c___spec_l1Cur__among w532 Lc t497 s498 ((hb499).lo hk534) (((((((((hLc).lo hk4).lo hk12).kp hk18 (fun b_ hb e' => by have e'' : b_ = gc := e'; omega)).lo hk75).kp hk80 (fun b_ hb e' => by have e'' : b_ = gc := e'; omega)).kp hk495 (fun b_ hb e' => by have e'' : b_ = gc := e'; omega)).lo hk534)) (by omega) (by omega) ([1, 1, 7] : List Int) (((hO535).rd)) (by omega) (by omega) (show ¬ g531 = gc from by omega)) rfl ?_
          rintro e w539 ⟨v541, t542, s543, rfl, hb544, ht545, hq546, hk540⟩
          refine ⟨_, rfl, ?_⟩
          have hz547 := hk540.size
          have hB548 := hB537.step hk540 (fun i_ hi_ e' => e')
          have hq549 : (1 : Int) ≤ v541 ∧ v541 ≤ 7 := mem_rngB (lo := 1) (hi := 7) (by decide) hq546
          refine SR.q' (r_mv (v := .pointer (some _)) rfl) <| SR.lit (vs := [.int .i64 0, .int .i64 0, .int .i64 0, .int .i64 25]) (L := ([0, 0, 0, 25] : List Int)) (enc := encI) tel38 (fun _ => rfl) rfl rfl rfl (by decide) ?_
          intro g550 w551 hg552 hk553 hO554
          have hz555 := hk553.size
          have hB556 := hB548.lo hk553
          have hd557 : ¬ (some (⟨g72, 0, none⟩ : Addr)) = some ⟨g550, 0, none⟩ := fun e' => by have := (((((hO76).kp hk80 (fun b_ hb e' => by have e'' : b_ = gc := e'; have := (hO76).base_le hb; omega)).kp hk495 (fun b_ hb e' => by have e'' : b_ = gc := e'; have := ((hO76).kp hk80 (fun b_ hb e' => by have e'' : b_ = gc := e'; have := (hO76).base_le hb; omega)).base_le hb; omega)).lo hk534).kp hk540 (fun b_ hb e' => by have e'' : b_ = gc := e'; have := ((((hO76).kp hk80 (fun b_ hb e' => by have e'' : b_ = gc := e'; have := (hO76).base_le hb; omega)).kp hk495 (fun b_ hb e' => by have e'' : b_ = gc := e'; have := ((hO76).kp hk80 (fun b_ hb e' => by have e'' : b_ = gc := e'; have := (hO76).base_le hb; omega)).base_le hb; omega)).lo hk534).base_le hb; omega)).base_le e'; omega
          have hd558 : ¬ (some (⟨g531, 0, none⟩ : Addr)) = some ⟨g550, 0, none⟩ := fun e' => by have := ((hO535).kp hk540 (fun b_ hb e' => by have e'' : b_ = gc := e'; have := (hO535).base_le hb; omega)).base_le e'; omega
          refine SR.call ent54 (c___spec_l1Cur__among w551 Lc t542 s543 ((hb544).lo hk553) (((((((((((hLc).lo hk4).lo hk12).kp hk18 (fun b_ hb e' => by have e'' : b_ = gc := e'; omega)).lo hk75).kp hk80 (fun b_ hb e' => by have e'' : b_ = gc := e'; omega)).kp hk495 (fun b_ hb e' => by have e'' : b_ = gc := e'; omega)).lo hk534).kp hk540 (fun b_ hb e' => by have e'' : b_ = gc := e'; omega)).lo hk553)) (by omega) (by omega) ([0, 0, 0, 25] : List Int) (((hO554).rd)) (by omega) (by omega) (show ¬ g550 = gc from by omega)) rfl ?_
          rintro e w559 ⟨v561, t562, s563, rfl, hb564, ht565, hq566, hk560⟩
          refine ⟨_, rfl, ?_⟩
          have hz567 := hk560.size
          have hB568 := hB556.step hk560 (fun i_ hi_ e' => e')
          have hq569 : (0 : Int) ≤ v561 ∧ v561 ≤ 25 := mem_rngB (lo := 0) (hi := 25) (by decide) hq566
          refine SR.q' (r_build (vs := [(0, .int .i64 v541), (1, .int .i64 v561)]) rfl (bld48_0_1 _ _)) <| SR.store (o := 0) (vs := [.int .i64 v541, .int .i64 v561]) agg48.2 rfl rfl rfl rfl (((((((((hb14).kp hk18 (fun e' => by have e'' : g9 = gc := e'; omega)).lo hk75).kp hk80 (fun e' => by have e'' : g9 = gc := e'; omega)).kp hk495 (fun e' => by have e'' : g9 = gc := e'; omega)).lo hk534).kp hk540 (fun e' => by have e'' : g9 = gc := e'; omega)).lo hk553).kp hk560 (fun e' => by have e'' : g9 = gc := e'; omega)) (Nat.le_of_ble_eq_true rfl) rfl ?_
          intro w570 hk571 hs572 hb573
          have hz574 := hk571.size
          have hB575 := hB568.new hk571 (by omega)
          refine SR.nil ?_
          refine W.ret ?_
          refine retC rfl rfl agg48 (hb573) rfl ?_
          exact ⟨(⟨v541, v561⟩ : ChestStep), t562, s563, eR (eA (eC (eI (z_c___spec_l1Cur__chestStep_576 Lc tc sc nc htc hbdc hlec x nx_Stack hbdx_Stack hlex_Stack hp0 hp1 v19 t20 s21 ht23 h26 v81 t82 s83 ht85 hq86 hq89 h90 h493 v496 t497 s498 ht500 h503 v541 t542 s543 ht545 hq546 hq549 v561 t562 s563 ht565 hq566 hq569)) (eC (eI (z_c___spec_l1Cur__chestStep_577 Lc tc sc nc htc hbdc hlec x nx_Stack hbdx_Stack hlex_Stack hp0 hp1 v19 t20 s21 ht23 h26 v81 t82 s83 ht85 hq86 hq89 h90 h493 v496 t497 s498 ht500 h503 v541 t542 s543 ht545 hq546 hq549 v561 t562 s563 ht565 hq566 hq569)) rfl))), ((hb564).kp hk571 (fun e' => by have e'' : gc = g9 := e'; omega)), ⟨by omega, by omega⟩, hB575⟩
      · refine W.seq ?_
        refine W.regS (SR.q' (r_eq rfl rfl) <| SR.q' (r_as (v := .bool _) rfl) <| SR.nil ?_)
        refine W.cond_d rfl (fun h578 => ?_) (fun h578 => ?_)
        · refine W.seq ?_
          refine W.seq ?_
          refine W.regS (SR.q' (r_mv (v := .pointer (some _)) rfl) <| SR.call ent118 (c___spec_l1Cur__one w79 Lc t82 s83 (hb84) (((((((hLc).lo hk4).lo hk12).kp hk18 (fun b_ hb e' => by have e'' : b_ = gc := e'; omega)).lo hk75).kp hk80 (fun b_ hb e' => by have e'' : b_ = gc := e'; omega))) (by omega) (by omega) 4 (by first | omega | (simp only [List.length_append, List.length_cons, List.length_nil, List.length_take, List.length_drop]; omega))) rfl ?_)
          rintro e w579 ⟨v581, t582, s583, rfl, hb584, ht585, hk580⟩
          refine ⟨_, rfl, ?_⟩
          have hz586 := hk580.size
          have hB587 := hB88.step hk580 (fun i_ hi_ e' => e')
          refine SR.nil ?_
          refine W.cond_b rfl (fun h588 => ?_) (fun h588 => ?_)
          · refine W.seq ?_
            refine W.regS (SR.q' (r_mv (v := .pointer (some _)) rfl) <| SR.lit (vs := [.int .i64 9, .int .i64 10, .int .i64 100]) (L := ([9, 10, 100] : List Int)) (enc := encI) tel38 (fun _ => rfl) rfl rfl rfl (by decide) ?_)
            intro g589 w590 hg591 hk592 hO593
            have hz594 := hk592.size
            have hB595 := hB587.lo hk592
            have hd596 : ¬ (some (⟨g72, 0, none⟩ : Addr)) = some ⟨g589, 0, none⟩ := fun e' => by have := (((hO76).kp hk80 (fun b_ hb e' => by have e'' : b_ = gc := e'; have := (hO76).base_le hb; omega)).kp hk580 (fun b_ hb e' => by have e'' : b_ = gc := e'; have := ((hO76).kp hk80 (fun b_ hb e' => by have e'' : b_ = gc := e'; have := (hO76).base_le hb; omega)).base_le hb; omega)).base_le e'; omega
            refine SR.call ent54 (c___spec_l1Cur__among w590 Lc t582 s583 ((hb584).lo hk592) (((((((((hLc).lo hk4).lo hk12).kp hk18 (fun b_ hb e' => by have e'' : b_ = gc := e'; omega)).lo hk75).kp hk80 (fun b_ hb e' => by have e'' : b_ = gc := e'; omega)).kp hk580 (fun b_ hb e' => by have e'' : b_ = gc := e'; omega)).lo hk592)) (by omega) (by omega) ([9, 10, 100] : List Int) (((hO593).rd)) (by omega) (by omega) (show ¬ g589 = gc from by omega)) rfl ?_
            rintro e w597 ⟨v599, t600, s601, rfl, hb602, ht603, hq604, hk598⟩
            refine ⟨_, rfl, ?_⟩
            have hz605 := hk598.size
            have hB606 := hB595.step hk598 (fun i_ hi_ e' => e')
            have hq607 : (9 : Int) ≤ v599 ∧ v599 ≤ 100 := mem_rngB (lo := 9) (hi := 100) (by decide) hq604
            refine SR.q' (r_build (vs := [(0, .int .i64 7), (1, .int .i64 v599)]) rfl (bld48_0_1 _ _)) <| SR.store (o := 0) (vs := [.int .i64 7, .int .i64 v599]) agg48.2 rfl rfl rfl rfl (((((((hb14).kp hk18 (fun e' => by have e'' : g9 = gc := e'; omega)).lo hk75).kp hk80 (fun e' => by have e'' : g9 = gc := e'; omega)).kp hk580 (fun e' => by have e'' : g9 = gc := e'; omega)).lo hk592).kp hk598 (fun e' => by have e'' : g9 = gc := e'; omega)) (Nat.le_of_ble_eq_true rfl) rfl ?_
            intro w608 hk609 hs610 hb611
            have hz612 := hk609.size
            have hB613 := hB606.new hk609 (by omega)
            refine SR.nil ?_
            refine W.ret ?_
            refine retC rfl rfl agg48 (hb611) rfl ?_
            exact ⟨(⟨7, v599⟩ : ChestStep), t600, s601, eR (eA (eC (eI (z_c___spec_l1Cur__chestStep_614 Lc tc sc nc htc hbdc hlec x nx_Stack hbdx_Stack hlex_Stack hp0 hp1 v19 t20 s21 ht23 h26 v81 t82 s83 ht85 hq86 hq89 h90 h493 h578 v581 t582 s583 ht585 h588 v599 t600 s601 ht603 hq604 hq607)) (eC (eI (z_c___spec_l1Cur__chestStep_615 Lc tc sc nc htc hbdc hlec x nx_Stack hbdx_Stack hlex_Stack hp0 hp1 v19 t20 s21 ht23 h26 v81 t82 s83 ht85 hq86 hq89 h90 h493 h578 v581 t582 s583 ht585 h588 v599 t600 s601 ht603 hq604 hq607)) rfl))), ((hb602).kp hk609 (fun e' => by have e'' : gc = g9 := e'; omega)), ⟨by omega, by omega⟩, hB613⟩
          · refine W.skip ?_
            refine W.seq ?_
            refine W.regS (SR.q' (r_mv (v := .pointer (some _)) rfl) <| SR.q' (r_fa fa40_1 rfl) <| SR.q' (r_ld (v := .int .i64 x.Key) sca3 rfl (((((((hb6).lo hk12).kp hk18 (fun e' => by have e'' : g1 = gc := e'; omega)).lo hk75).kp hk80 (fun e' => by have e'' : g1 = gc := e'; omega)).kp hk580 (fun e' => by have e'' : g1 = gc := e'; omega)).cell rfl)) <| SR.q' (r_fa fa40_1 rfl) <| SR.q' (r_ld (v := .int .i64 x.Key) sca3 rfl (((((((hb6).lo hk12).kp hk18 (fun e' => by have e'' : g1 = gc := e'; omega)).lo hk75).kp hk80 (fun e' => by have e'' : g1 = gc := e'; omega)).kp hk580 (fun e' => by have e'' : g1 = gc := e'; omega)).cell rfl)) <| SR.q' (r_fa fa40_1 rfl) <| SR.q' (r_ld (v := .int .i64 x.Key) sca3 rfl (((((((hb6).lo hk12).kp hk18 (fun e' => by have e'' : g1 = gc := e'; omega)).lo hk75).kp hk80 (fun e' => by have e'' : g1 = gc := e'; omega)).kp hk580 (fun e' => by have e'' : g1 = gc := e'; omega)).cell rfl)) <| SR.q' (r_fa fa40_1 rfl) <| SR.q' (r_ld (v := .int .i64 x.Key) sca3 rfl (((((((hb6).lo hk12).kp hk18 (fun e' => by have e'' : g1 = gc := e'; omega)).lo hk75).kp hk80 (fun e' => by have e'' : g1 = gc := e'; omega)).kp hk580 (fun e' => by have e'' : g1 = gc := e'; omega)).cell rfl)) <| SR.q' (r_add rfl rfl (by omega)) <| SR.lit (vs := [.int .i64 x.Key, .int .i64 x.Key, .int .i64 x.Key, .int .i64 (x.Key + 1)]) (L := ([x.Key, x.Key, x.Key, x.Key + 1] : List Int)) (enc := encI) tel38 (fun _ => rfl) rfl rfl rfl (by decide) ?_)
            intro g616 w617 hg618 hk619 hO620
            have hz621 := hk619.size
            have hB622 := hB587.lo hk619
            have hd623 : ¬ (some (⟨g72, 0, none⟩ : Addr)) = some ⟨g616, 0, none⟩ := fun e' => by have := (((hO76).kp hk80 (fun b_ hb e' => by have e'' : b_ = gc := e'; have := (hO76).base_le hb; omega)).kp hk580 (fun b_ hb e' => by have e'' : b_ = gc := e'; have := ((hO76).kp hk80 (fun b_ hb e' => by have e'' : b_ = gc := e'; have := (hO76).base_le hb; omega)).base_le hb; omega)).base_le e'; omega
            refine SR.call ent54 (c___spec_l1Cur__among w617 Lc t582 s583 ((hb584).lo hk619) (((((((((hLc).lo hk4).lo hk12).kp hk18 (fun b_ hb e' => by have e'' : b_ = gc := e'; omega)).lo hk75).kp hk80 (fun b_ hb e' => by have e'' : b_ = gc := e'; omega)).kp hk580 (fun b_ hb e' => by have e'' : b_ = gc := e'; omega)).lo hk619)) (by omega) (by omega) ([x.Key, x.Key, x.Key, x.Key + 1] : List Int) (((hO620).rd)) (by omega) (by omega) (show ¬ g616 = gc from by omega)) rfl ?_
            rintro e w624 ⟨v626, t627, s628, rfl, hb629, ht630, hq631, hk625⟩
            refine ⟨_, rfl, ?_⟩
            have hz632 := hk625.size
            have hB633 := hB622.step hk625 (fun i_ hi_ e' => e')
            have hq634 : (v626 : Int) = x.Key ∨ (v626 : Int) = x.Key ∨ (v626 : Int) = x.Key ∨ (v626 : Int) = (x.Key + 1) := by simpa only [List.mem_cons, List.not_mem_nil, or_false] using hq631
            refine SR.q' (r_build (vs := [(0, .int .i64 4), (1, .int .i64 v626)]) rfl (bld48_0_1 _ _)) <| SR.store (o := 0) (vs := [.int .i64 4, .int .i64 v626]) agg48.2 rfl rfl rfl rfl (((((((hb14).kp hk18 (fun e' => by have e'' : g9 = gc := e'; omega)).lo hk75).kp hk80 (fun e' => by have e'' : g9 = gc := e'; omega)).kp hk580 (fun e' => by have e'' : g9 = gc := e'; omega)).lo hk619).kp hk625 (fun e' => by have e'' : g9 = gc := e'; omega)) (Nat.le_of_ble_eq_true rfl) rfl ?_
            intro w635 hk636 hs637 hb638
            have hz639 := hk636.size
            have hB640 := hB633.new hk636 (by omega)
            refine SR.nil ?_
            refine W.ret ?_
            refine retC rfl rfl agg48 (hb638) rfl ?_
            exact ⟨(⟨4, v626⟩ : ChestStep), t627, s628, eR (eA (eC (eI (z_c___spec_l1Cur__chestStep_641 Lc tc sc nc htc hbdc hlec x nx_Stack hbdx_Stack hlex_Stack hp0 hp1 v19 t20 s21 ht23 h26 v81 t82 s83 ht85 hq86 hq89 h90 h493 h578 v581 t582 s583 ht585 h588 v626 t627 s628 ht630 hq631 hq634)) (eC (eI (z_c___spec_l1Cur__chestStep_642 Lc tc sc nc htc hbdc hlec x nx_Stack hbdx_Stack hlex_Stack hp0 hp1 v19 t20 s21 ht23 h26 v81 t82 s83 ht85 hq86 hq89 h90 h493 h578 v581 t582 s583 ht585 h588 v626 t627 s628 ht630 hq631 hq634)) rfl))), ((hb629).kp hk636 (fun e' => by have e'' : gc = g9 := e'; omega)), ⟨by omega, by omega⟩, hB640⟩
        · refine W.skip ?_
          refine W.seq ?_
          refine W.seq ?_
          refine W.regS (SR.q' (r_mv (v := .pointer (some _)) rfl) <| SR.call ent95 (c___spec_l1Cur__pick w79 Lc t82 s83 (hb84) (((((((hLc).lo hk4).lo hk12).kp hk18 (fun b_ hb e' => by have e'' : b_ = gc := e'; omega)).lo hk75).kp hk80 (fun b_ hb e' => by have e'' : b_ = gc := e'; omega))) (by omega) (by omega) 10 (by first | omega | (simp only [List.length_append, List.length_cons, List.length_nil, List.length_take, List.length_drop]; omega))) rfl ?_)
          rintro e w643 ⟨v645, t646, s647, rfl, hb648, ht649, hq650, hk644⟩
          refine ⟨_, rfl, ?_⟩
          have hz651 := hk644.size
          have hB652 := hB88.step hk644 (fun i_ hi_ e' => e')
          refine SR.nil ?_
          refine W.block ?_
          refine W.seq ?_
          refine W.seq ?_
          refine W.regS (SR.q' (r_eq rfl rfl) <| SR.q' (r_as (v := .bool _) rfl) <| SR.nil ?_)
          refine W.cond_d rfl (fun h653 => ?_) (fun h653 => ?_)
          · refine W.skip ?_
            refine W.cond_t (congrArg Value.bool (decide_eq_true h653)) ?_
            refine W.seq ?_
            refine W.regS (SR.q' (r_mv (v := .pointer (some _)) rfl) <| SR.lit (vs := [.int .i64 1, .int .i64 5, .int .i64 17, .int .i64 42, .int .i64 100, .int .i64 101, .int .i64 102, .int .i64 103, .int .i64 998, .int .i64 999, .int .i64 1000]) (L := ([1, 5, 17, 42, 100, 101, 102, 103, 998, 999, 1000] : List Int)) (enc := encI) tel38 (fun _ => rfl) rfl rfl rfl (by decide) ?_)
            intro g654 w655 hg656 hk657 hO658
            have hz659 := hk657.size
            have hB660 := hB652.lo hk657
            have hd661 : ¬ (some (⟨g72, 0, none⟩ : Addr)) = some ⟨g654, 0, none⟩ := fun e' => by have := (((hO76).kp hk80 (fun b_ hb e' => by have e'' : b_ = gc := e'; have := (hO76).base_le hb; omega)).kp hk644 (fun b_ hb e' => by have e'' : b_ = gc := e'; have := ((hO76).kp hk80 (fun b_ hb e' => by have e'' : b_ = gc := e'; have := (hO76).base_le hb; omega)).base_le hb; omega)).base_le e'; omega
            refine SR.call ent54 (c___spec_l1Cur__among w655 Lc t646 s647 ((hb648).lo hk657) (((((((((hLc).lo hk4).lo hk12).kp hk18 (fun b_ hb e' => by have e'' : b_ = gc := e'; omega)).lo hk75).kp hk80 (fun b_ hb e' => by have e'' : b_ = gc := e'; omega)).kp hk644 (fun b_ hb e' => by have e'' : b_ = gc := e'; omega)).lo hk657)) (by omega) (by omega) ([1, 5, 17, 42, 100, 101, 102, 103, 998, 999, 1000] : List Int) (((hO658).rd)) (by omega) (by omega) (show ¬ g654 = gc from by omega)) rfl ?_
            rintro e w662 ⟨v664, t665, s666, rfl, hb667, ht668, hq669, hk663⟩
            refine ⟨_, rfl, ?_⟩
            have hz670 := hk663.size
            have hB671 := hB660.step hk663 (fun i_ hi_ e' => e')
            have hq672 : (1 : Int) ≤ v664 ∧ v664 ≤ 1000 := mem_rngB (lo := 1) (hi := 1000) (by decide) hq669
            refine SR.q' (r_build (vs := [(0, .int .i64 5), (1, .int .i64 v664)]) rfl (bld48_0_1 _ _)) <| SR.store (o := 0) (vs := [.int .i64 5, .int .i64 v664]) agg48.2 rfl rfl rfl rfl (((((((hb14).kp hk18 (fun e' => by have e'' : g9 = gc := e'; omega)).lo hk75).kp hk80 (fun e' => by have e'' : g9 = gc := e'; omega)).kp hk644 (fun e' => by have e'' : g9 = gc := e'; omega)).lo hk657).kp hk663 (fun e' => by have e'' : g9 = gc := e'; omega)) (Nat.le_of_ble_eq_true rfl) rfl ?_
            intro w673 hk674 hs675 hb676
            have hz677 := hk674.size
            have hB678 := hB671.new hk674 (by omega)
            refine SR.nil ?_
            refine W.ret ?_
            refine retC rfl rfl agg48 (hb676) rfl ?_
            exact ⟨(⟨5, v664⟩ : ChestStep), t665, s666, eR (eA (eC (eI (z_c___spec_l1Cur__chestStep_679 Lc tc sc nc htc hbdc hlec x nx_Stack hbdx_Stack hlex_Stack hp0 hp1 v19 t20 s21 ht23 h26 v81 t82 s83 ht85 hq86 hq89 h90 h493 h578 v645 t646 s647 ht649 hq650 h653 v664 t665 s666 ht668 hq669 hq672)) (eC (eI (z_c___spec_l1Cur__chestStep_680 Lc tc sc nc htc hbdc hlec x nx_Stack hbdx_Stack hlex_Stack hp0 hp1 v19 t20 s21 ht23 h26 v81 t82 s83 ht85 hq86 hq89 h90 h493 h578 v645 t646 s647 ht649 hq650 h653 v664 t665 s666 ht668 hq669 hq672)) rfl))), ((hb667).kp hk674 (fun e' => by have e'' : gc = g9 := e'; omega)), ⟨by omega, by omega⟩, hB678⟩
          · refine W.seq ?_
            refine W.regS (SR.q' (r_eq rfl rfl) <| SR.q' (r_as (v := .bool _) rfl) <| SR.nil ?_)
            refine W.cond_d rfl (fun h681 => ?_) (fun h681 => ?_)
            · refine W.skip ?_
              refine W.cond_t (congrArg Value.bool (decide_eq_true h681)) ?_
              refine W.seq ?_
              refine W.regS (SR.q' (r_mv (v := .pointer (some _)) rfl) <| SR.lit (vs := [.int .i64 1, .int .i64 5, .int .i64 17, .int .i64 42, .int .i64 100, .int .i64 101, .int .i64 102, .int .i64 103, .int .i64 998, .int .i64 999, .int .i64 1000]) (L := ([1, 5, 17, 42, 100, 101, 102, 103, 998, 999, 1000] : List Int)) (enc := encI) tel38 (fun _ => rfl) rfl rfl rfl (by decide) ?_)
              intro g682 w683 hg684 hk685 hO686
              have hz687 := hk685.size
              have hB688 := hB652.lo hk685
              have hd689 : ¬ (some (⟨g72, 0, none⟩ : Addr)) = some ⟨g682, 0, none⟩ := fun e' => by have := (((hO76).kp hk80 (fun b_ hb e' => by have e'' : b_ = gc := e'; have := (hO76).base_le hb; omega)).kp hk644 (fun b_ hb e' => by have e'' : b_ = gc := e'; have := ((hO76).kp hk80 (fun b_ hb e' => by have e'' : b_ = gc := e'; have := (hO76).base_le hb; omega)).base_le hb; omega)).base_le e'; omega
              refine SR.call ent54 (c___spec_l1Cur__among w683 Lc t646 s647 ((hb648).lo hk685) (((((((((hLc).lo hk4).lo hk12).kp hk18 (fun b_ hb e' => by have e'' : b_ = gc := e'; omega)).lo hk75).kp hk80 (fun b_ hb e' => by have e'' : b_ = gc := e'; omega)).kp hk644 (fun b_ hb e' => by have e'' : b_ = gc := e'; omega)).lo hk685)) (by omega) (by omega) ([1, 5, 17, 42, 100, 101, 102, 103, 998, 999, 1000] : List Int) (((hO686).rd)) (by omega) (by omega) (show ¬ g682 = gc from by omega)) rfl ?_
              rintro e w690 ⟨v692, t693, s694, rfl, hb695, ht696, hq697, hk691⟩
              refine ⟨_, rfl, ?_⟩
              have hz698 := hk691.size
              have hB699 := hB688.step hk691 (fun i_ hi_ e' => e')
              have hq700 : (1 : Int) ≤ v692 ∧ v692 ≤ 1000 := mem_rngB (lo := 1) (hi := 1000) (by decide) hq697
              refine SR.q' (r_build (vs := [(0, .int .i64 5), (1, .int .i64 v692)]) rfl (bld48_0_1 _ _)) <| SR.store (o := 0) (vs := [.int .i64 5, .int .i64 v692]) agg48.2 rfl rfl rfl rfl (((((((hb14).kp hk18 (fun e' => by have e'' : g9 = gc := e'; omega)).lo hk75).kp hk80 (fun e' => by have e'' : g9 = gc := e'; omega)).kp hk644 (fun e' => by have e'' : g9 = gc := e'; omega)).lo hk685).kp hk691 (fun e' => by have e'' : g9 = gc := e'; omega)) (Nat.le_of_ble_eq_true rfl) rfl ?_
              intro w701 hk702 hs703 hb704
              have hz705 := hk702.size
              have hB706 := hB699.new hk702 (by omega)
              refine SR.nil ?_
              refine W.ret ?_
              refine retC rfl rfl agg48 (hb704) rfl ?_
              exact ⟨(⟨5, v692⟩ : ChestStep), t693, s694, eR (eA (eC (eI (z_c___spec_l1Cur__chestStep_707 Lc tc sc nc htc hbdc hlec x nx_Stack hbdx_Stack hlex_Stack hp0 hp1 v19 t20 s21 ht23 h26 v81 t82 s83 ht85 hq86 hq89 h90 h493 h578 v645 t646 s647 ht649 hq650 h653 h681 v692 t693 s694 ht696 hq697 hq700)) (eC (eI (z_c___spec_l1Cur__chestStep_708 Lc tc sc nc htc hbdc hlec x nx_Stack hbdx_Stack hlex_Stack hp0 hp1 v19 t20 s21 ht23 h26 v81 t82 s83 ht85 hq86 hq89 h90 h493 h578 v645 t646 s647 ht649 hq650 h653 h681 v692 t693 s694 ht696 hq697 hq700)) rfl))), ((hb695).kp hk702 (fun e' => by have e'' : gc = g9 := e'; omega)), ⟨by omega, by omega⟩, hB706⟩
            · refine W.seq ?_
              refine W.regS (SR.q' (r_eq rfl rfl) <| SR.q' (r_as (v := .bool _) rfl) <| SR.nil ?_)
              refine W.cond_d rfl (fun h709 => ?_) (fun h709 => ?_)
              · refine W.skip ?_
                refine W.cond_t (congrArg Value.bool (decide_eq_true h709)) ?_
                refine W.seq ?_
                refine W.regS (SR.q' (r_mv (v := .pointer (some _)) rfl) <| SR.lit (vs := [.int .i64 1, .int .i64 5, .int .i64 17, .int .i64 42, .int .i64 100, .int .i64 101, .int .i64 102, .int .i64 103, .int .i64 998, .int .i64 999, .int .i64 1000]) (L := ([1, 5, 17, 42, 100, 101, 102, 103, 998, 999, 1000] : List Int)) (enc := encI) tel38 (fun _ => rfl) rfl rfl rfl (by decide) ?_)
                intro g710 w711 hg712 hk713 hO714
                have hz715 := hk713.size
                have hB716 := hB652.lo hk713
                have hd717 : ¬ (some (⟨g72, 0, none⟩ : Addr)) = some ⟨g710, 0, none⟩ := fun e' => by have := (((hO76).kp hk80 (fun b_ hb e' => by have e'' : b_ = gc := e'; have := (hO76).base_le hb; omega)).kp hk644 (fun b_ hb e' => by have e'' : b_ = gc := e'; have := ((hO76).kp hk80 (fun b_ hb e' => by have e'' : b_ = gc := e'; have := (hO76).base_le hb; omega)).base_le hb; omega)).base_le e'; omega
                refine SR.call ent54 (c___spec_l1Cur__among w711 Lc t646 s647 ((hb648).lo hk713) (((((((((hLc).lo hk4).lo hk12).kp hk18 (fun b_ hb e' => by have e'' : b_ = gc := e'; omega)).lo hk75).kp hk80 (fun b_ hb e' => by have e'' : b_ = gc := e'; omega)).kp hk644 (fun b_ hb e' => by have e'' : b_ = gc := e'; omega)).lo hk713)) (by omega) (by omega) ([1, 5, 17, 42, 100, 101, 102, 103, 998, 999, 1000] : List Int) (((hO714).rd)) (by omega) (by omega) (show ¬ g710 = gc from by omega)) rfl ?_
                rintro e w718 ⟨v720, t721, s722, rfl, hb723, ht724, hq725, hk719⟩
                refine ⟨_, rfl, ?_⟩
                have hz726 := hk719.size
                have hB727 := hB716.step hk719 (fun i_ hi_ e' => e')
                have hq728 : (1 : Int) ≤ v720 ∧ v720 ≤ 1000 := mem_rngB (lo := 1) (hi := 1000) (by decide) hq725
                refine SR.q' (r_build (vs := [(0, .int .i64 5), (1, .int .i64 v720)]) rfl (bld48_0_1 _ _)) <| SR.store (o := 0) (vs := [.int .i64 5, .int .i64 v720]) agg48.2 rfl rfl rfl rfl (((((((hb14).kp hk18 (fun e' => by have e'' : g9 = gc := e'; omega)).lo hk75).kp hk80 (fun e' => by have e'' : g9 = gc := e'; omega)).kp hk644 (fun e' => by have e'' : g9 = gc := e'; omega)).lo hk713).kp hk719 (fun e' => by have e'' : g9 = gc := e'; omega)) (Nat.le_of_ble_eq_true rfl) rfl ?_
                intro w729 hk730 hs731 hb732
                have hz733 := hk730.size
                have hB734 := hB727.new hk730 (by omega)
                refine SR.nil ?_
                refine W.ret ?_
                refine retC rfl rfl agg48 (hb732) rfl ?_
                exact ⟨(⟨5, v720⟩ : ChestStep), t721, s722, eR (eA (eC (eI (z_c___spec_l1Cur__chestStep_735 Lc tc sc nc htc hbdc hlec x nx_Stack hbdx_Stack hlex_Stack hp0 hp1 v19 t20 s21 ht23 h26 v81 t82 s83 ht85 hq86 hq89 h90 h493 h578 v645 t646 s647 ht649 hq650 h653 h681 h709 v720 t721 s722 ht724 hq725 hq728)) (eC (eI (z_c___spec_l1Cur__chestStep_736 Lc tc sc nc htc hbdc hlec x nx_Stack hbdx_Stack hlex_Stack hp0 hp1 v19 t20 s21 ht23 h26 v81 t82 s83 ht85 hq86 hq89 h90 h493 h578 v645 t646 s647 ht649 hq650 h653 h681 h709 v720 t721 s722 ht724 hq725 hq728)) rfl))), ((hb723).kp hk730 (fun e' => by have e'' : gc = g9 := e'; omega)), ⟨by omega, by omega⟩, hB734⟩
              · refine W.regS (SR.q' (r_eq rfl rfl) <| SR.q' (r_as (v := .bool _) rfl) <| SR.nil ?_)
                refine W.cond_d rfl (fun h737 => ?_) (fun h737 => ?_)
                · refine W.seq ?_
                  refine W.regS (SR.q' (r_mv (v := .pointer (some _)) rfl) <| SR.lit (vs := [.int .i64 1, .int .i64 5, .int .i64 17, .int .i64 42, .int .i64 100, .int .i64 101, .int .i64 102, .int .i64 103, .int .i64 998, .int .i64 999, .int .i64 1000]) (L := ([1, 5, 17, 42, 100, 101, 102, 103, 998, 999, 1000] : List Int)) (enc := encI) tel38 (fun _ => rfl) rfl rfl rfl (by decide) ?_)
                  intro g738 w739 hg740 hk741 hO742
                  have hz743 := hk741.size
                  have hB744 := hB652.lo hk741
                  have hd745 : ¬ (some (⟨g72, 0, none⟩ : Addr)) = some ⟨g738, 0, none⟩ := fun e' => by have := (((hO76).kp hk80 (fun b_ hb e' => by have e'' : b_ = gc := e'; have := (hO76).base_le hb; omega)).kp hk644 (fun b_ hb e' => by have e'' : b_ = gc := e'; have := ((hO76).kp hk80 (fun b_ hb e' => by have e'' : b_ = gc := e'; have := (hO76).base_le hb; omega)).base_le hb; omega)).base_le e'; omega
                  refine SR.call ent54 (c___spec_l1Cur__among w739 Lc t646 s647 ((hb648).lo hk741) (((((((((hLc).lo hk4).lo hk12).kp hk18 (fun b_ hb e' => by have e'' : b_ = gc := e'; omega)).lo hk75).kp hk80 (fun b_ hb e' => by have e'' : b_ = gc := e'; omega)).kp hk644 (fun b_ hb e' => by have e'' : b_ = gc := e'; omega)).lo hk741)) (by omega) (by omega) ([1, 5, 17, 42, 100, 101, 102, 103, 998, 999, 1000] : List Int) (((hO742).rd)) (by omega) (by omega) (show ¬ g738 = gc from by omega)) rfl ?_
                  rintro e w746 ⟨v748, t749, s750, rfl, hb751, ht752, hq753, hk747⟩
                  refine ⟨_, rfl, ?_⟩
                  have hz754 := hk747.size
                  have hB755 := hB744.step hk747 (fun i_ hi_ e' => e')
                  have hq756 : (1 : Int) ≤ v748 ∧ v748 ≤ 1000 := mem_rngB (lo := 1) (hi := 1000) (by decide) hq753
                  refine SR.q' (r_build (vs := [(0, .int .i64 5), (1, .int .i64 v748)]) rfl (bld48_0_1 _ _)) <| SR.store (o := 0) (vs := [.int .i64 5, .int .i64 v748]) agg48.2 rfl rfl rfl rfl (((((((hb14).kp hk18 (fun e' => by have e'' : g9 = gc := e'; omega)).lo hk75).kp hk80 (fun e' => by have e'' : g9 = gc := e'; omega)).kp hk644 (fun e' => by have e'' : g9 = gc := e'; omega)).lo hk741).kp hk747 (fun e' => by have e'' : g9 = gc := e'; omega)) (Nat.le_of_ble_eq_true rfl) rfl ?_
                  intro w757 hk758 hs759 hb760
                  have hz761 := hk758.size
                  have hB762 := hB755.new hk758 (by omega)
                  refine SR.nil ?_
                  refine W.ret ?_
                  refine retC rfl rfl agg48 (hb760) rfl ?_
                  exact ⟨(⟨5, v748⟩ : ChestStep), t749, s750, eR (eA (eC (eI (z_c___spec_l1Cur__chestStep_763 Lc tc sc nc htc hbdc hlec x nx_Stack hbdx_Stack hlex_Stack hp0 hp1 v19 t20 s21 ht23 h26 v81 t82 s83 ht85 hq86 hq89 h90 h493 h578 v645 t646 s647 ht649 hq650 h653 h681 h709 h737 v748 t749 s750 ht752 hq753 hq756)) (eC (eI (z_c___spec_l1Cur__chestStep_764 Lc tc sc nc htc hbdc hlec x nx_Stack hbdx_Stack hlex_Stack hp0 hp1 v19 t20 s21 ht23 h26 v81 t82 s83 ht85 hq86 hq89 h90 h493 h578 v645 t646 s647 ht649 hq650 h653 h681 h709 h737 v748 t749 s750 ht752 hq753 hq756)) rfl))), ((hb751).kp hk758 (fun e' => by have e'' : gc = g9 := e'; omega)), ⟨by omega, by omega⟩, hB762⟩
                · refine W.seq ?_
                  refine W.seq ?_
                  refine W.regS (SR.q' (r_eq rfl rfl) <| SR.q' (r_as (v := .bool _) rfl) <| SR.nil ?_)
                  refine W.cond_d rfl (fun h765 => ?_) (fun h765 => ?_)
                  · refine W.skip ?_
                    refine W.cond_t (congrArg Value.bool (decide_eq_true h765)) ?_
                    refine W.seq ?_
                    refine W.regS (SR.q' (r_mv (v := .int .i64 _) rfl) <| SR.q' (r_build (vs := [(0, .int .i64 6), (1, .int .i64 v81)]) rfl (bld48_0_1 _ _)) <| SR.store (o := 0) (vs := [.int .i64 6, .int .i64 v81]) agg48.2 rfl rfl rfl rfl (((((hb14).kp hk18 (fun e' => by have e'' : g9 = gc := e'; omega)).lo hk75).kp hk80 (fun e' => by have e'' : g9 = gc := e'; omega)).kp hk644 (fun e' => by have e'' : g9 = gc := e'; omega)) (Nat.le_of_ble_eq_true rfl) rfl ?_)
                    intro w766 hk767 hs768 hb769
                    have hz770 := hk767.size
                    have hB771 := hB652.new hk767 (by omega)
                    refine SR.nil ?_
                    refine W.ret ?_
                    refine retC rfl rfl agg48 (hb769) rfl ?_
                    exact ⟨(⟨6, v81⟩ : ChestStep), t646, s647, eR (eA (eC (eI (z_c___spec_l1Cur__chestStep_772 Lc tc sc nc htc hbdc hlec x nx_Stack hbdx_Stack hlex_Stack hp0 hp1 v19 t20 s21 ht23 h26 v81 t82 s83 ht85 hq86 hq89 h90 h493 h578 v645 t646 s647 ht649 hq650 h653 h681 h709 h737 h765)) (eC (eI (z_c___spec_l1Cur__chestStep_773 Lc tc sc nc htc hbdc hlec x nx_Stack hbdx_Stack hlex_Stack hp0 hp1 v19 t20 s21 ht23 h26 v81 t82 s83 ht85 hq86 hq89 h90 h493 h578 v645 t646 s647 ht649 hq650 h653 h681 h709 h737 h765)) rfl))), ((hb648).kp hk767 (fun e' => by have e'' : gc = g9 := e'; omega)), ⟨by omega, by omega⟩, hB771⟩
                  · refine W.regS (SR.q' (r_eq rfl rfl) <| SR.q' (r_as (v := .bool _) rfl) <| SR.nil ?_)
                    refine W.cond_d rfl (fun h774 => ?_) (fun h774 => ?_)
                    · refine W.seq ?_
                      refine W.regS (SR.q' (r_mv (v := .int .i64 _) rfl) <| SR.q' (r_build (vs := [(0, .int .i64 6), (1, .int .i64 v81)]) rfl (bld48_0_1 _ _)) <| SR.store (o := 0) (vs := [.int .i64 6, .int .i64 v81]) agg48.2 rfl rfl rfl rfl (((((hb14).kp hk18 (fun e' => by have e'' : g9 = gc := e'; omega)).lo hk75).kp hk80 (fun e' => by have e'' : g9 = gc := e'; omega)).kp hk644 (fun e' => by have e'' : g9 = gc := e'; omega)) (Nat.le_of_ble_eq_true rfl) rfl ?_)
                      intro w775 hk776 hs777 hb778
                      have hz779 := hk776.size
                      have hB780 := hB652.new hk776 (by omega)
                      refine SR.nil ?_
                      refine W.ret ?_
                      refine retC rfl rfl agg48 (hb778) rfl ?_
                      exact ⟨(⟨6, v81⟩ : ChestStep), t646, s647, eR (eA (eC (eI (z_c___spec_l1Cur__chestStep_781 Lc tc sc nc htc hbdc hlec x nx_Stack hbdx_Stack hlex_Stack hp0 hp1 v19 t20 s21 ht23 h26 v81 t82 s83 ht85 hq86 hq89 h90 h493 h578 v645 t646 s647 ht649 hq650 h653 h681 h709 h737 h765 h774)) (eC (eI (z_c___spec_l1Cur__chestStep_782 Lc tc sc nc htc hbdc hlec x nx_Stack hbdx_Stack hlex_Stack hp0 hp1 v19 t20 s21 ht23 h26 v81 t82 s83 ht85 hq86 hq89 h90 h493 h578 v645 t646 s647 ht649 hq650 h653 h681 h709 h737 h765 h774)) rfl))), ((hb648).kp hk776 (fun e' => by have e'' : gc = g9 := e'; omega)), ⟨by omega, by omega⟩, hB780⟩
                    · refine W.seq ?_
                      refine W.seq ?_
                      refine W.regS (SR.q' (r_eq rfl rfl) <| SR.q' (r_as (v := .bool _) rfl) <| SR.nil ?_)
                      refine W.cond_d rfl (fun h783 => ?_) (fun h783 => ?_)
                      · refine W.skip ?_
                        refine W.cond_t (congrArg Value.bool (decide_eq_true h783)) ?_
                        refine W.seq ?_
                        refine W.regS (SR.q' (r_mv (v := .pointer (some _)) rfl) <| SR.lit (vs := [.int .i64 0, .int .i64 1, .int .i64 30, .int .i64 100, .int .i64 101]) (L := ([0, 1, 30, 100, 101] : List Int)) (enc := encI) tel38 (fun _ => rfl) rfl rfl rfl (by decide) ?_)
                        intro g784 w785 hg786 hk787 hO788
                        have hz789 := hk787.size
                        have hB790 := hB652.lo hk787
                        have hd791 : ¬ (some (⟨g72, 0, none⟩ : Addr)) = some ⟨g784, 0, none⟩ := fun e' => by have := (((hO76).kp hk80 (fun b_ hb e' => by have e'' : b_ = gc := e'; have := (hO76).base_le hb; omega)).kp hk644 (fun b_ hb e' => by have e'' : b_ = gc := e'; have := ((hO76).kp hk80 (fun b_ hb e' => by have e'' : b_ = gc := e'; have := (hO76).base_le hb; omega)).base_le hb; omega)).base_le e'; omega
                        refine SR.call ent54 (c___spec_l1Cur__among w785 Lc t646 s647 ((hb648).lo hk787) (((((((((hLc).lo hk4).lo hk12).kp hk18 (fun b_ hb e' => by have e'' : b_ = gc := e'; omega)).lo hk75).kp hk80 (fun b_ hb e' => by have e'' : b_ = gc := e'; omega)).kp hk644 (fun b_ hb e' => by have e'' : b_ = gc := e'; omega)).lo hk787)) (by omega) (by omega) ([0, 1, 30, 100, 101] : List Int) (((hO788).rd)) (by omega) (by omega) (show ¬ g784 = gc from by omega)) rfl ?_
                        rintro e w792 ⟨v794, t795, s796, rfl, hb797, ht798, hq799, hk793⟩
                        refine ⟨_, rfl, ?_⟩
                        have hz800 := hk793.size
                        have hB801 := hB790.step hk793 (fun i_ hi_ e' => e')
                        have hq802 : (0 : Int) ≤ v794 ∧ v794 ≤ 101 := mem_rngB (lo := 0) (hi := 101) (by decide) hq799
                        refine SR.q' (r_build (vs := [(0, .int .i64 7), (1, .int .i64 v794)]) rfl (bld48_0_1 _ _)) <| SR.store (o := 0) (vs := [.int .i64 7, .int .i64 v794]) agg48.2 rfl rfl rfl rfl (((((((hb14).kp hk18 (fun e' => by have e'' : g9 = gc := e'; omega)).lo hk75).kp hk80 (fun e' => by have e'' : g9 = gc := e'; omega)).kp hk644 (fun e' => by have e'' : g9 = gc := e'; omega)).lo hk787).kp hk793 (fun e' => by have e'' : g9 = gc := e'; omega)) (Nat.le_of_ble_eq_true rfl) rfl ?_
                        intro w803 hk804 hs805 hb806
                        have hz807 := hk804.size
                        have hB808 := hB801.new hk804 (by omega)
                        refine SR.nil ?_
                        refine W.ret ?_
                        refine retC rfl rfl agg48 (hb806) rfl ?_
                        exact ⟨(⟨7, v794⟩ : ChestStep), t795, s796, eR (eA (eC (eI (z_c___spec_l1Cur__chestStep_809 Lc tc sc nc htc hbdc hlec x nx_Stack hbdx_Stack hlex_Stack hp0 hp1 v19 t20 s21 ht23 h26 v81 t82 s83 ht85 hq86 hq89 h90 h493 h578 v645 t646 s647 ht649 hq650 h653 h681 h709 h737 h765 h774 h783 v794 t795 s796 ht798 hq799 hq802)) (eC (eI (z_c___spec_l1Cur__chestStep_810 Lc tc sc nc htc hbdc hlec x nx_Stack hbdx_Stack hlex_Stack hp0 hp1 v19 t20 s21 ht23 h26 v81 t82 s83 ht85 hq86 hq89 h90 h493 h578 v645 t646 s647 ht649 hq650 h653 h681 h709 h737 h765 h774 h783 v794 t795 s796 ht798 hq799 hq802)) rfl))), ((hb797).kp hk804 (fun e' => by have e'' : gc = g9 := e'; omega)), ⟨by omega, by omega⟩, hB808⟩
                      · refine W.regS (SR.q' (r_eq rfl rfl) <| SR.q' (r_as (v := .bool _) rfl) <| SR.nil ?_)
                        refine W.cond_d rfl (fun h811 => ?_) (fun h811 => ?_)
                        · refine W.seq ?_
                          refine W.regS (SR.q' (r_mv (v := .pointer (some _)) rfl) <| SR.lit (vs := [.int .i64 0, .int .i64 1, .int .i64 30, .int .i64 100, .int .i64 101]) (L := ([0, 1, 30, 100, 101] : List Int)) (enc := encI) tel38 (fun _ => rfl) rfl rfl rfl (by decide) ?_)
                          intro g812 w813 hg814 hk815 hO816
                          have hz817 := hk815.size
                          have hB818 := hB652.lo hk815
                          have hd819 : ¬ (some (⟨g72, 0, none⟩ : Addr)) = some ⟨g812, 0, none⟩ := fun e' => by have := (((hO76).kp hk80 (fun b_ hb e' => by have e'' : b_ = gc := e'; have := (hO76).base_le hb; omega)).kp hk644 (fun b_ hb e' => by have e'' : b_ = gc := e'; have := ((hO76).kp hk80 (fun b_ hb e' => by have e'' : b_ = gc := e'; have := (hO76).base_le hb; omega)).base_le hb; omega)).base_le e'; omega
                          refine SR.call ent54 (c___spec_l1Cur__among w813 Lc t646 s647 ((hb648).lo hk815) (((((((((hLc).lo hk4).lo hk12).kp hk18 (fun b_ hb e' => by have e'' : b_ = gc := e'; omega)).lo hk75).kp hk80 (fun b_ hb e' => by have e'' : b_ = gc := e'; omega)).kp hk644 (fun b_ hb e' => by have e'' : b_ = gc := e'; omega)).lo hk815)) (by omega) (by omega) ([0, 1, 30, 100, 101] : List Int) (((hO816).rd)) (by omega) (by omega) (show ¬ g812 = gc from by omega)) rfl ?_
                          rintro e w820 ⟨v822, t823, s824, rfl, hb825, ht826, hq827, hk821⟩
                          refine ⟨_, rfl, ?_⟩
                          have hz828 := hk821.size
                          have hB829 := hB818.step hk821 (fun i_ hi_ e' => e')
                          have hq830 : (0 : Int) ≤ v822 ∧ v822 ≤ 101 := mem_rngB (lo := 0) (hi := 101) (by decide) hq827
                          refine SR.q' (r_build (vs := [(0, .int .i64 7), (1, .int .i64 v822)]) rfl (bld48_0_1 _ _)) <| SR.store (o := 0) (vs := [.int .i64 7, .int .i64 v822]) agg48.2 rfl rfl rfl rfl (((((((hb14).kp hk18 (fun e' => by have e'' : g9 = gc := e'; omega)).lo hk75).kp hk80 (fun e' => by have e'' : g9 = gc := e'; omega)).kp hk644 (fun e' => by have e'' : g9 = gc := e'; omega)).lo hk815).kp hk821 (fun e' => by have e'' : g9 = gc := e'; omega)) (Nat.le_of_ble_eq_true rfl) rfl ?_
                          intro w831 hk832 hs833 hb834
                          have hz835 := hk832.size
                          have hB836 := hB829.new hk832 (by omega)
                          refine SR.nil ?_
                          refine W.ret ?_
                          refine retC rfl rfl agg48 (hb834) rfl ?_
                          exact ⟨(⟨7, v822⟩ : ChestStep), t823, s824, eR (eA (eC (eI (z_c___spec_l1Cur__chestStep_837 Lc tc sc nc htc hbdc hlec x nx_Stack hbdx_Stack hlex_Stack hp0 hp1 v19 t20 s21 ht23 h26 v81 t82 s83 ht85 hq86 hq89 h90 h493 h578 v645 t646 s647 ht649 hq650 h653 h681 h709 h737 h765 h774 h783 h811 v822 t823 s824 ht826 hq827 hq830)) (eC (eI (z_c___spec_l1Cur__chestStep_838 Lc tc sc nc htc hbdc hlec x nx_Stack hbdx_Stack hlex_Stack hp0 hp1 v19 t20 s21 ht23 h26 v81 t82 s83 ht85 hq86 hq89 h90 h493 h578 v645 t646 s647 ht649 hq650 h653 h681 h709 h737 h765 h774 h783 h811 v822 t823 s824 ht826 hq827 hq830)) rfl))), ((hb825).kp hk832 (fun e' => by have e'' : gc = g9 := e'; omega)), ⟨by omega, by omega⟩, hB836⟩
                        · refine W.seq ?_
                          refine W.regS (SR.q' (r_eq rfl rfl) <| SR.q' (r_as (v := .bool _) rfl) <| SR.nil ?_)
                          refine W.cond_d rfl (fun h839 => ?_) (fun h839 => ?_)
                          · refine W.seq ?_
                            refine W.regS (SR.q' (r_build (vs := [(0, .int .i64 2)]) rfl (bld48_0 _)) <| SR.store (o := 0) (vs := [.int .i64 2, .int .i64 0]) agg48.2 rfl rfl rfl rfl (((((hb14).kp hk18 (fun e' => by have e'' : g9 = gc := e'; omega)).lo hk75).kp hk80 (fun e' => by have e'' : g9 = gc := e'; omega)).kp hk644 (fun e' => by have e'' : g9 = gc := e'; omega)) (Nat.le_of_ble_eq_true rfl) rfl ?_)
                            intro w840 hk841 hs842 hb843
                            have hz844 := hk841.size
                            have hB845 := hB652.new hk841 (by omega)
                            refine SR.nil ?_
                            refine W.ret ?_
                            refine retC rfl rfl agg48 (hb843) rfl ?_
                            exact ⟨(⟨2, 0⟩ : ChestStep), t646, s647, eR (eA (eC (eI (z_c___spec_l1Cur__chestStep_846 Lc tc sc nc htc hbdc hlec x nx_Stack hbdx_Stack hlex_Stack hp0 hp1 v19 t20 s21 ht23 h26 v81 t82 s83 ht85 hq86 hq89 h90 h493 h578 v645 t646 s647 ht649 hq650 h653 h681 h709 h737 h765 h774 h783 h811 h839)) (eC (eI (z_c___spec_l1Cur__chestStep_847 Lc tc sc nc htc hbdc hlec x nx_Stack hbdx_Stack hlex_Stack hp0 hp1 v19 t20 s21 ht23 h26 v81 t82 s83 ht85 hq86 hq89 h90 h493 h578 v645 t646 s647 ht649 hq650 h653 h681 h709 h737 h765 h774 h783 h811 h839)) rfl))), ((hb648).kp hk841 (fun e' => by have e'' : gc = g9 := e'; omega)), ⟨by omega, by omega⟩, hB845⟩
                          · refine W.skip ?_
                            refine W.seq ?_
                            refine W.regS (SR.q' (r_build (vs := [(0, .int .i64 1)]) rfl (bld48_0 _)) <| SR.store (o := 0) (vs := [.int .i64 1, .int .i64 0]) agg48.2 rfl rfl rfl rfl (((((hb14).kp hk18 (fun e' => by have e'' : g9 = gc := e'; omega)).lo hk75).kp hk80 (fun e' => by have e'' : g9 = gc := e'; omega)).kp hk644 (fun e' => by have e'' : g9 = gc := e'; omega)) (Nat.le_of_ble_eq_true rfl) rfl ?_)
                            intro w848 hk849 hs850 hb851
                            have hz852 := hk849.size
                            have hB853 := hB652.new hk849 (by omega)
                            refine SR.nil ?_
                            refine W.ret ?_
                            refine retC rfl rfl agg48 (hb851) rfl ?_
                            exact ⟨(⟨1, 0⟩ : ChestStep), t646, s647, eR (eA (eC (eI (z_c___spec_l1Cur__chestStep_854 Lc tc sc nc htc hbdc hlec x nx_Stack hbdx_Stack hlex_Stack hp0 hp1 v19 t20 s21 ht23 h26 v81 t82 s83 ht85 hq86 hq89 h90 h493 h578 v645 t646 s647 ht649 hq650 h653 h681 h709 h737 h765 h774 h783 h811 h839)) (eC (eI (z_c___spec_l1Cur__chestStep_855 Lc tc sc nc htc hbdc hlec x nx_Stack hbdx_Stack hlex_Stack hp0 hp1 v19 t20 s21 ht23 h26 v81 t82 s83 ht85 hq86 hq89 h90 h493 h578 v645 t646 s647 ht649 hq650 h653 h681 h709 h737 h765 h774 h783 h811 h839)) rfl))), ((hb648).kp hk849 (fun e' => by have e'' : gc = g9 := e'; omega)), ⟨by omega, by omega⟩, hB853⟩
end Go.Proofs.YtlpapeeaghmjpaaDoor
