/- Walks, printed by a program of this claim's author. -/
import Derived.Test.YthlbmkpkgiabnaaDoorChecked
import Derived.Test.YthlbmkpkgiabnaaDoorWb
import Derived.Test.YthlbmkpkgiabnaaDoorFt
import Derived.Test.YthlbmkpkgiabnaaDoorSi
import Derived.Test.YthlbmkpkgiabnaaDoorDa
import Derived.Test.YthlbmkpkgiabnaaDoorG33u
namespace Go.Proofs.YthlbmkpkgiabnaaDoor
open Go Go.RowKit Fw
set_option maxRecDepth 10000
set_option linter.unusedVariables false
theorem ent56 : Ent Tryd.prog 56 := ent_of Tryd.func56 (by decide +kernel) rfl
theorem ent73 : Ent Tryd.prog 73 := ent_of Tryd.func73 (by decide +kernel) rfl
theorem fa72_0 : FA Tryd.prog 72 0 0 := fun _ _ => by kernel_rfl
theorem fa72_1 : FA Tryd.prog 72 1 1 := fun _ _ => by kernel_rfl
theorem fa72_2 : FA Tryd.prog 72 2 2 := fun _ _ => by kernel_rfl
theorem sca53 : TSca Tryd.prog 53 := ⟨fun _ => by kernel_rfl, fun _ => by kernel_rfl⟩
theorem sca70 : TSca Tryd.prog 70 := ⟨fun _ => by kernel_rfl, fun _ => by kernel_rfl⟩
theorem tsl74 : TSl Tryd.prog 74 3 1 := ⟨by kernel_rfl, fun _ => by kernel_rfl⟩
theorem und70 : Tryd.prog.underlying 70 = some (.int .u64) := by kernel_rfl
theorem und74 : Tryd.prog.underlying 74 = some (.slice 3) := by kernel_rfl

theorem z_c___spec_l1Cur__next_30 (Lc : List UInt8) (tc : Int) (sc : Int) (nc : Nat) (htc : 0 ≤ tc ∧ tc + 1 ≤ 4611686018427387904) (hbdc : (nc : Int) ≤ 9223372036854775807) (hlec : nc = Lc.length) (h5 : tc < (nc : Int)) (hx7 : Lc[tc.toNat]? = some (gt Lc tc.toNat)) (hq8 : ((gt Lc tc.toNat).toNat : Int) ≤ 255) (h29 : (tc + 1) ≤ (nc : Int)) : (0 : Int) ≤ ((gt Lc tc.toNat).toNat : Int) ∧ (((gt Lc tc.toNat).toNat : Int) : Int) ≤ 255 := by
  omega
theorem z_c___spec_l1Cur__next_31 (Lc : List UInt8) (tc : Int) (sc : Int) (nc : Nat) (htc : 0 ≤ tc ∧ tc + 1 ≤ 4611686018427387904) (hbdc : (nc : Int) ≤ 9223372036854775807) (hlec : nc = Lc.length) (h5 : tc < (nc : Int)) (hx7 : Lc[tc.toNat]? = some (gt Lc tc.toNat)) (hq8 : ((gt Lc tc.toNat).toNat : Int) ≤ 255) (h29 : ¬ ((tc + 1) ≤ (nc : Int))) : (0 : Int) ≤ (((IntKind.u64.wrap ((IntKind.u64.wrap ((IntKind.u64.wrap (sc * 6364136223846793005)) + ((gt Lc tc.toNat).toNat : Int))) + 604171)) / 1099511627776) % 256) ∧ ((((IntKind.u64.wrap ((IntKind.u64.wrap ((IntKind.u64.wrap (sc * 6364136223846793005)) + ((gt Lc tc.toNat).toNat : Int))) + 604171)) / 1099511627776) % 256) : Int) ≤ 255 := by
  omega
theorem z_c___spec_l1Cur__next_49 (Lc : List UInt8) (tc : Int) (sc : Int) (nc : Nat) (htc : 0 ≤ tc ∧ tc + 1 ≤ 4611686018427387904) (hbdc : (nc : Int) ≤ 9223372036854775807) (hlec : nc = Lc.length) (h5 : ¬ (tc < (nc : Int))) (h48 : (tc + 1) ≤ (nc : Int)) : (0 : Int) ≤ 0 ∧ (0 : Int) ≤ 255 := by
  omega
theorem z_c___spec_l1Cur__next_50 (Lc : List UInt8) (tc : Int) (sc : Int) (nc : Nat) (htc : 0 ≤ tc ∧ tc + 1 ≤ 4611686018427387904) (hbdc : (nc : Int) ≤ 9223372036854775807) (hlec : nc = Lc.length) (h5 : ¬ (tc < (nc : Int))) (h48 : ¬ ((tc + 1) ≤ (nc : Int))) : (0 : Int) ≤ (((IntKind.u64.wrap ((IntKind.u64.wrap ((IntKind.u64.wrap (sc * 6364136223846793005)) + 0)) + 604171)) / 1099511627776) % 256) ∧ ((((IntKind.u64.wrap ((IntKind.u64.wrap ((IntKind.u64.wrap (sc * 6364136223846793005)) + 0)) + 604171)) / 1099511627776) % 256) : Int) ≤ 255 := by
  omega
theorem c___spec_l1Cur__next (w : World) {gc ec : Nat} {Ac : Option Addr} {nc cc Bc : Nat} (Lc : List UInt8) (tc sc : Int) (hc : Blk w gc ec [.slice Ac nc cc, .int .i64 tc, .int .u64 sc]) (hLc : SlR w Bc encB 1 Ac nc cc Lc) (hgc : Bc ≤ gc) (htc : 0 ≤ tc ∧ tc + 1 ≤ 4611686018427387904) : Calls Tryd.prog 73 #[.pointer (some ⟨gc, 0, none⟩)] w fun e w' => ∃ (v : Int) (tc' sc' : Int), e = .returned (.int .i64 v) ∧ Blk w' gc ec [.slice Ac nc cc, .int .i64 tc', .int .u64 sc'] ∧ (tc ≤ tc' ∧ tc' ≤ tc + 1) ∧ ((0 : Int) ≤ v ∧ (v : Int) ≤ 255) ∧ Kp (fun b_ => b_ = gc) w w' := by
  refine calls_W 62 Tryd.func73 rfl rfl rfl ?_
  have hBlc := hc.lt
  have hbdc := hLc.bound
  have hlec := hLc.len
  have hBbc := hLc.bd
  refine W.seq ?_
  refine W.regS (SR.q' (r_as (v := .int .i64 0) rfl) <| SR.nil ?_)
  refine W.seq ?_
  refine W.regS (SR.q' (r_as (v := .int .i64 0) rfl) <| SR.nil ?_)
  refine W.seq ?_
  refine W.seq ?_
  refine W.regD mo (by kernel_rfl) (QR.q' (fun w' hw' => r_mv (v := .pointer (some _)) rfl) <| QR.q' (fun w' hw' => r_nilp rfl) <| QR.q' (fun w' hw' => r_fa fa72_1 rfl) <| QR.q' (fun w' hw' => r_ld (v := .int .i64 tc) sca3 rfl (((hc).lo hw').cell rfl)) <| QR.q' (fun w' hw' => r_mv (v := .pointer (some _)) rfl) <| QR.q' (fun w' hw' => r_nilp rfl) <| QR.q' (fun w' hw' => r_fa fa72_0 rfl) <| QR.q' (fun w' hw' => r_ld (v := .slice Ac nc cc) sca53 rfl (((hc).lo hw').cell rfl)) <| QR.q' (fun w' hw' => r_len und53 rfl) <| QR.q' (fun w' hw' => r_lt rfl rfl) <| QR.nil ?_)
  intro w1 hk2
  have hz3 := hk2.size
  have hB4 := (Kp.refl w : Kp (fun b_ => b_ = gc) w w).lo hk2
  refine W.cond_d rfl (fun h5 => ?_) (fun h5 => ?_)
  · refine W.regD mo (by kernel_rfl) (QR.q' (fun w' hw' => r_mv (v := .pointer (some _)) rfl) <| QR.q' (fun w' hw' => r_nilp rfl) <| QR.q' (fun w' hw' => r_fa fa72_0 rfl) <| QR.q' (fun w' hw' => r_ld (v := .slice Ac nc cc) sca53 rfl ((((hc).lo hk2).lo hw').cell rfl)) <| QR.q' (fun w' hw' => r_mv (v := .pointer (some _)) rfl) <| QR.q' (fun w' hw' => r_nilp rfl) <| QR.q' (fun w' hw' => r_fa fa72_1 rfl) <| QR.q' (fun w' hw' => r_ld (v := .int .i64 tc) sca3 rfl ((((hc).lo hk2).lo hw').cell rfl)) <| ?_)
    have hx7 := ((hLc).lo hk2).elem (i := tc.toNat) (by omega)
    have hq8 := u8_le (gt Lc tc.toNat)
    refine QR.q' (fun w' hw' => r_ixR tsl53 ((((hLc).lo hk2).lo hw')) rfl rfl (by omega)) <| QR.q' (fun w' hw' => r_ld (v := .int .u8 ((gt Lc tc.toNat).toNat : Int)) sca5 rfl (((((hLc).lo hk2).lo hw')).cell0 hx7 rfl)) <| QR.q' (fun w' hw' => r_convI und3 und5 rfl (by omega)) <| QR.q' (fun w' hw' => r_as (v := .int .i64 _) rfl) <| QR.nil ?_
    intro w9 hk10
    have hz11 := hk10.size
    have hB12 := hB4.lo hk10
    refine W.seq ?_
    refine W.regS (SR.q' (r_mv (v := .pointer (some _)) rfl) <| SR.q' (r_nilp rfl) <| SR.q' (r_fa fa72_1 rfl) <| SR.q' (r_ld (v := .int .i64 tc) sca3 rfl ((((hc).lo hk2).lo hk10).cell rfl)) <| SR.q' (r_add rfl rfl (by omega)) <| SR.q' (r_nilp rfl) <| SR.q' (r_fa fa72_1 rfl) <| SR.store (o := 1) (vs := [.int .i64 (tc + 1)]) sca3.2 rfl rfl rfl rfl (((hc).lo hk2).lo hk10) (Nat.le_of_ble_eq_true rfl) rfl ?_)
    intro w13 hk14 hs15 hb16
    have hz17 := hk14.size
    have hB18 := hB12.step hk14 (fun i_ hi_ e' => e')
    refine SR.nil ?_
    refine W.seq ?_
    refine W.regS (SR.q' (r_mv (v := .pointer (some _)) rfl) <| SR.q' (r_mv (v := .pointer (some _)) rfl) <| SR.q' (r_nilp rfl) <| SR.q' (r_fa fa72_2 rfl) <| SR.q' (r_ld (v := .int .u64 sc) sca70 rfl ((hb16).cell rfl)) <| SR.q' (r_mulW rfl rfl) <| SR.q' (r_mv (v := .int .i64 _) rfl) <| SR.q' (r_convU und70 und3 rfl (by omega)) <| SR.q' (r_addW rfl rfl) <| SR.q' (r_addW rfl rfl) <| SR.q' (r_nilp rfl) <| SR.q' (r_fa fa72_2 rfl) <| SR.store (o := 2) (vs := [.int .u64 (IntKind.u64.wrap ((IntKind.u64.wrap ((IntKind.u64.wrap (sc * 6364136223846793005)) + ((gt Lc tc.toNat).toNat : Int))) + 604171))]) sca70.2 rfl rfl rfl rfl (hb16) (Nat.le_of_ble_eq_true rfl) rfl ?_)
    intro w19 hk20 hs21 hb22
    have hz23 := hk20.size
    have hB24 := hB18.step hk20 (fun i_ hi_ e' => e')
    refine SR.nil ?_
    refine W.seq ?_
    refine W.seq ?_
    refine W.regD mo (by kernel_rfl) (QR.q' (fun w' hw' => r_mv (v := .pointer (some _)) rfl) <| QR.q' (fun w' hw' => r_nilp rfl) <| QR.q' (fun w' hw' => r_fa fa72_1 rfl) <| QR.q' (fun w' hw' => r_ld (v := .int .i64 (tc + 1)) sca3 rfl (((hb22).lo hw').cell rfl)) <| QR.q' (fun w' hw' => r_mv (v := .pointer (some _)) rfl) <| QR.q' (fun w' hw' => r_nilp rfl) <| QR.q' (fun w' hw' => r_fa fa72_0 rfl) <| QR.q' (fun w' hw' => r_ld (v := .slice Ac nc cc) sca53 rfl (((hb22).lo hw').cell rfl)) <| QR.q' (fun w' hw' => r_len und53 rfl) <| QR.q' (fun w' hw' => r_le rfl rfl) <| QR.nil ?_)
    intro w25 hk26
    have hz27 := hk26.size
    have hB28 := hB24.lo hk26
    refine W.cond_d rfl (fun h29 => ?_) (fun h29 => ?_)
    · refine W.seq ?_
      refine W.regS (SR.q' (r_mv (v := .int .i64 _) rfl) <| SR.q' (r_as (v := .int .i64 _) rfl) <| SR.nil ?_)
      refine W.ret ?_
      refine ret1 rfl (v := .int .i64 _) rfl ?_
      exact ⟨((gt Lc tc.toNat).toNat : Int), (tc + 1), (IntKind.u64.wrap ((IntKind.u64.wrap ((IntKind.u64.wrap (sc * 6364136223846793005)) + ((gt Lc tc.toNat).toNat : Int))) + 604171)), eR rfl, ((hb22).lo hk26), ⟨by omega, by omega⟩, (z_c___spec_l1Cur__next_30 Lc tc sc nc htc hbdc hlec h5 hx7 hq8 h29), hB28⟩
    · refine W.skip ?_
      refine W.seq ?_
      refine W.regS (SR.q' (r_mv (v := .pointer (some _)) rfl) <| SR.q' (r_nilp rfl) <| SR.q' (r_fa fa72_2 rfl) <| SR.q' (r_ld (v := .int .u64 (IntKind.u64.wrap ((IntKind.u64.wrap ((IntKind.u64.wrap (sc * 6364136223846793005)) + ((gt Lc tc.toNat).toNat : Int))) + 604171))) sca70 rfl (((hb22).lo hk26).cell rfl)) <| SR.q' (r_shr40 rfl rfl (by simp only [IntKind.wrap_u64]; omega)) <| SR.q' (r_and255 rfl rfl (by simp only [IntKind.wrap_u64]; omega)) <| SR.q' (r_convI und3 und70 rfl (by omega)) <| SR.q' (r_as (v := .int .i64 _) rfl) <| SR.nil ?_)
      refine W.ret ?_
      refine ret1 rfl (v := .int .i64 _) rfl ?_
      exact ⟨(((IntKind.u64.wrap ((IntKind.u64.wrap ((IntKind.u64.wrap (sc * 6364136223846793005)) + ((gt Lc tc.toNat).toNat : Int))) + 604171)) / 1099511627776) % 256), (tc + 1), (IntKind.u64.wrap ((IntKind.u64.wrap ((IntKind.u64.wrap (sc * 6364136223846793005)) + ((gt Lc tc.toNat).toNat : Int))) + 604171)), eR rfl, ((hb22).lo hk26), ⟨by omega, by omega⟩, (z_c___spec_l1Cur__next_31 Lc tc sc nc htc hbdc hlec h5 hx7 hq8 h29), hB28⟩
  · refine W.skip ?_
    refine W.seq ?_
    refine W.regS (SR.q' (r_mv (v := .pointer (some _)) rfl) <| SR.q' (r_nilp rfl) <| SR.q' (r_fa fa72_1 rfl) <| SR.q' (r_ld (v := .int .i64 tc) sca3 rfl (((hc).lo hk2).cell rfl)) <| SR.q' (r_add rfl rfl (by omega)) <| SR.q' (r_nilp rfl) <| SR.q' (r_fa fa72_1 rfl) <| SR.store (o := 1) (vs := [.int .i64 (tc + 1)]) sca3.2 rfl rfl rfl rfl ((hc).lo hk2) (Nat.le_of_ble_eq_true rfl) rfl ?_)
    intro w32 hk33 hs34 hb35
    have hz36 := hk33.size
    have hB37 := hB4.step hk33 (fun i_ hi_ e' => e')
    refine SR.nil ?_
    refine W.seq ?_
    refine W.regS (SR.q' (r_mv (v := .pointer (some _)) rfl) <| SR.q' (r_mv (v := .pointer (some _)) rfl) <| SR.q' (r_nilp rfl) <| SR.q' (r_fa fa72_2 rfl) <| SR.q' (r_ld (v := .int .u64 sc) sca70 rfl ((hb35).cell rfl)) <| SR.q' (r_mulW rfl rfl) <| SR.q' (r_mv (v := .int .i64 _) rfl) <| SR.q' (r_convU und70 und3 rfl (by omega)) <| SR.q' (r_addW rfl rfl) <| SR.q' (r_addW rfl rfl) <| SR.q' (r_nilp rfl) <| SR.q' (r_fa fa72_2 rfl) <| SR.store (o := 2) (vs := [.int .u64 (IntKind.u64.wrap ((IntKind.u64.wrap ((IntKind.u64.wrap (sc * 6364136223846793005)) + 0)) + 604171))]) sca70.2 rfl rfl rfl rfl (hb35) (Nat.le_of_ble_eq_true rfl) rfl ?_)
    intro w38 hk39 hs40 hb41
    have hz42 := hk39.size
    have hB43 := hB37.step hk39 (fun i_ hi_ e' => e')
    refine SR.nil ?_
    refine W.seq ?_
    refine W.seq ?_
    refine W.regD mo (by kernel_rfl) (QR.q' (fun w' hw' => r_mv (v := .pointer (some _)) rfl) <| QR.q' (fun w' hw' => r_nilp rfl) <| QR.q' (fun w' hw' => r_fa fa72_1 rfl) <| QR.q' (fun w' hw' => r_ld (v := .int .i64 (tc + 1)) sca3 rfl (((hb41).lo hw').cell rfl)) <| QR.q' (fun w' hw' => r_mv (v := .pointer (some _)) rfl) <| QR.q' (fun w' hw' => r_nilp rfl) <| QR.q' (fun w' hw' => r_fa fa72_0 rfl) <| QR.q' (fun w' hw' => r_ld (v := .slice Ac nc cc) sca53 rfl (((hb41).lo hw').cell rfl)) <| QR.q' (fun w' hw' => r_len und53 rfl) <| QR.q' (fun w' hw' => r_le rfl rfl) <| QR.nil ?_)
    intro w44 hk45
    have hz46 := hk45.size
    have hB47 := hB43.lo hk45
    refine W.cond_d rfl (fun h48 => ?_) (fun h48 => ?_)
    · refine W.seq ?_
      refine W.regS (SR.q' (r_mv (v := .int .i64 _) rfl) <| SR.q' (r_as (v := .int .i64 _) rfl) <| SR.nil ?_)
      refine W.ret ?_
      refine ret1 rfl (v := .int .i64 _) rfl ?_
      exact ⟨0, (tc + 1), (IntKind.u64.wrap ((IntKind.u64.wrap ((IntKind.u64.wrap (sc * 6364136223846793005)) + 0)) + 604171)), eR rfl, ((hb41).lo hk45), ⟨by omega, by omega⟩, (z_c___spec_l1Cur__next_49 Lc tc sc nc htc hbdc hlec h5 h48), hB47⟩
    · refine W.skip ?_
      refine W.seq ?_
      refine W.regS (SR.q' (r_mv (v := .pointer (some _)) rfl) <| SR.q' (r_nilp rfl) <| SR.q' (r_fa fa72_2 rfl) <| SR.q' (r_ld (v := .int .u64 (IntKind.u64.wrap ((IntKind.u64.wrap ((IntKind.u64.wrap (sc * 6364136223846793005)) + 0)) + 604171))) sca70 rfl (((hb41).lo hk45).cell rfl)) <| SR.q' (r_shr40 rfl rfl (by simp only [IntKind.wrap_u64]; omega)) <| SR.q' (r_and255 rfl rfl (by simp only [IntKind.wrap_u64]; omega)) <| SR.q' (r_convI und3 und70 rfl (by omega)) <| SR.q' (r_as (v := .int .i64 _) rfl) <| SR.nil ?_)
      refine W.ret ?_
      refine ret1 rfl (v := .int .i64 _) rfl ?_
      exact ⟨(((IntKind.u64.wrap ((IntKind.u64.wrap ((IntKind.u64.wrap (sc * 6364136223846793005)) + 0)) + 604171)) / 1099511627776) % 256), (tc + 1), (IntKind.u64.wrap ((IntKind.u64.wrap ((IntKind.u64.wrap (sc * 6364136223846793005)) + 0)) + 604171)), eR rfl, ((hb41).lo hk45), ⟨by omega, by omega⟩, (z_c___spec_l1Cur__next_50 Lc tc sc nc htc hbdc hlec h5 h48), hB47⟩

theorem z_c___spec_l1Cur__pick_2 (Lc : List UInt8) (tc : Int) (sc : Int) (nc : Nat) (htc : 0 ≤ tc ∧ tc + 2 ≤ 4611686018427387904) (hbdc : (nc : Int) ≤ 9223372036854775807) (hlec : nc = Lc.length) (n : Int) (hp0 : n ≤ 4611686018427387904) (h1 : n ≤ 1) : (0 : Int) ≤ 0 ∧ ((0 : Int) < n ∨ (0 : Int) = 0) := by
  first | omega | exact ⟨Int.emod_nonneg _ (by omega), .inl (Int.emod_lt_of_pos _ (by omega))⟩
theorem z_c___spec_l1Cur__pick_24 (Lc : List UInt8) (tc : Int) (sc : Int) (nc : Nat) (htc : 0 ≤ tc ∧ tc + 2 ≤ 4611686018427387904) (hbdc : (nc : Int) ≤ 9223372036854775807) (hlec : nc = Lc.length) (n : Int) (hp0 : n ≤ 4611686018427387904) (h1 : ¬ (n ≤ 1)) (v5 : Int) (t6 : Int) (s7 : Int) (ht9 : tc ≤ t6 ∧ t6 ≤ tc + 1) (hq10 : (0 : Int) ≤ v5 ∧ (v5 : Int) ≤ 255) (h13 : 200 < n) (v16 : Int) (t17 : Int) (s18 : Int) (ht20 : t6 ≤ t17 ∧ t17 ≤ t6 + 1) (hq21 : (0 : Int) ≤ v16 ∧ (v16 : Int) ≤ 255) : (0 : Int) ≤ (((v5 * 256) + v16) % n) ∧ (((((v5 * 256) + v16) % n) : Int) < n ∨ ((((v5 * 256) + v16) % n) : Int) = 0) := by
  first | omega | exact ⟨Int.emod_nonneg _ (by omega), .inl (Int.emod_lt_of_pos _ (by omega))⟩
theorem z_c___spec_l1Cur__pick_25 (Lc : List UInt8) (tc : Int) (sc : Int) (nc : Nat) (htc : 0 ≤ tc ∧ tc + 2 ≤ 4611686018427387904) (hbdc : (nc : Int) ≤ 9223372036854775807) (hlec : nc = Lc.length) (n : Int) (hp0 : n ≤ 4611686018427387904) (h1 : ¬ (n ≤ 1)) (v5 : Int) (t6 : Int) (s7 : Int) (ht9 : tc ≤ t6 ∧ t6 ≤ tc + 1) (hq10 : (0 : Int) ≤ v5 ∧ (v5 : Int) ≤ 255) (h13 : ¬ (200 < n)) : (0 : Int) ≤ (v5 % n) ∧ (((v5 % n) : Int) < n ∨ ((v5 % n) : Int) = 0) := by
  first | omega | exact ⟨Int.emod_nonneg _ (by omega), .inl (Int.emod_lt_of_pos _ (by omega))⟩
theorem c___spec_l1Cur__pick (w : World) {gc ec : Nat} {Ac : Option Addr} {nc cc Bc : Nat} (Lc : List UInt8) (tc sc : Int) (hc : Blk w gc ec [.slice Ac nc cc, .int .i64 tc, .int .u64 sc]) (hLc : SlR w Bc encB 1 Ac nc cc Lc) (hgc : Bc ≤ gc) (htc : 0 ≤ tc ∧ tc + 2 ≤ 4611686018427387904) (n : Int) (hp0 : n ≤ 4611686018427387904) : Calls Tryd.prog 56 #[.pointer (some ⟨gc, 0, none⟩), .int .i64 n] w fun e w' => ∃ (v : Int) (tc' sc' : Int), e = .returned (.int .i64 v) ∧ Blk w' gc ec [.slice Ac nc cc, .int .i64 tc', .int .u64 sc'] ∧ (tc ≤ tc' ∧ tc' ≤ tc + 2) ∧ ((0 : Int) ≤ v ∧ ((v : Int) < n ∨ (v : Int) = 0)) ∧ Kp (fun b_ => b_ = gc) w w' := by
  refine calls_W 20 Tryd.func56 rfl rfl rfl ?_
  have hBlc := hc.lt
  have hbdc := hLc.bound
  have hlec := hLc.len
  have hBbc := hLc.bd
  refine W.seq ?_
  refine W.regS (SR.q' (r_as (v := .int .i64 0) rfl) <| SR.nil ?_)
  refine W.seq ?_
  refine W.seq ?_
  refine W.regS (SR.q' (r_mv (v := .int .i64 _) rfl) <| SR.q' (r_le rfl rfl) <| SR.nil ?_)
  refine W.cond_d rfl (fun h1 => ?_) (fun h1 => ?_)
  · refine W.seq ?_
    refine W.regS (SR.q' (r_as (v := .int .i64 0) rfl) <| SR.nil ?_)
    refine W.ret ?_
    refine ret1 rfl (v := .int .i64 _) rfl ?_
    exact ⟨0, tc, sc, eR rfl, (hc), ⟨by omega, by omega⟩, (z_c___spec_l1Cur__pick_2 Lc tc sc nc htc hbdc hlec n hp0 h1), (Kp.refl w : Kp (fun b_ => b_ = gc) w w)⟩
  · refine W.skip ?_
    refine W.seq ?_
    refine W.regS (SR.q' (r_mv (v := .pointer (some _)) rfl) <| SR.call ent73 (c___spec_l1Cur__next w Lc tc sc (hc) ((hLc)) (by omega) (by omega)) rfl ?_)
    rintro e w3 ⟨v5, t6, s7, rfl, hb8, ht9, hq10, hk4⟩
    refine ⟨_, rfl, ?_⟩
    have hz11 := hk4.size
    have hB12 := (Kp.refl w : Kp (fun b_ => b_ = gc) w w).step hk4 (fun i_ hi_ e' => e')
    refine SR.q' (r_as (v := .int .i64 _) rfl) <| SR.nil ?_
    refine W.seq ?_
    refine W.seq ?_
    refine W.regS (SR.q' (r_mv (v := .int .i64 _) rfl) <| SR.q' (r_gt rfl rfl) <| SR.nil ?_)
    refine W.cond_d rfl (fun h13 => ?_) (fun h13 => ?_)
    · refine W.regS (SR.q' (r_mv (v := .int .i64 _) rfl) <| SR.q' (r_mul rfl rfl (by omega)) <| SR.q' (r_mv (v := .pointer (some _)) rfl) <| SR.call ent73 (c___spec_l1Cur__next w3 Lc t6 s7 (hb8) (((hLc).kp hk4 (fun b_ hb e' => by have e'' : b_ = gc := e'; omega))) (by omega) (by omega)) rfl ?_)
      rintro e w14 ⟨v16, t17, s18, rfl, hb19, ht20, hq21, hk15⟩
      refine ⟨_, rfl, ?_⟩
      have hz22 := hk15.size
      have hB23 := hB12.step hk15 (fun i_ hi_ e' => e')
      refine SR.q' (r_add rfl rfl (by omega)) <| SR.q' (r_as (v := .int .i64 _) rfl) <| SR.nil ?_
      refine W.seq ?_
      refine W.regS (SR.q' (r_mv (v := .int .i64 _) rfl) <| SR.q' (r_mv (v := .int .i64 _) rfl) <| SR.q' (r_rem rfl rfl (by omega)) <| SR.q' (r_as (v := .int .i64 _) rfl) <| SR.nil ?_)
      refine W.ret ?_
      refine ret1 rfl (v := .int .i64 _) rfl ?_
      exact ⟨(((v5 * 256) + v16) % n), t17, s18, eR rfl, (hb19), ⟨by omega, by omega⟩, (z_c___spec_l1Cur__pick_24 Lc tc sc nc htc hbdc hlec n hp0 h1 v5 t6 s7 ht9 hq10 h13 v16 t17 s18 ht20 hq21), hB23⟩
    · refine W.skip ?_
      refine W.seq ?_
      refine W.regS (SR.q' (r_mv (v := .int .i64 _) rfl) <| SR.q' (r_mv (v := .int .i64 _) rfl) <| SR.q' (r_rem rfl rfl (by omega)) <| SR.q' (r_as (v := .int .i64 _) rfl) <| SR.nil ?_)
      refine W.ret ?_
      refine ret1 rfl (v := .int .i64 _) rfl ?_
      exact ⟨(v5 % n), t6, s7, eR rfl, (hb8), ⟨by omega, by omega⟩, (z_c___spec_l1Cur__pick_25 Lc tc sc nc htc hbdc hlec n hp0 h1 v5 t6 s7 ht9 hq10 h13), hB12⟩

theorem z_c___spec_l1Cur__one_11 (Lc : List UInt8) (tc : Int) (sc : Int) (nc : Nat) (htc : 0 ≤ tc ∧ tc + 2 ≤ 4611686018427387904) (hbdc : (nc : Int) ≤ 9223372036854775807) (hlec : nc = Lc.length) (n : Int) (hp0 : n ≤ 4611686018427387904) (v3 : Int) (t4 : Int) (s5 : Int) (ht7 : tc ≤ t4 ∧ t4 ≤ tc + 2) (hq8 : (0 : Int) ≤ v3 ∧ ((v3 : Int) < n ∨ (v3 : Int) = 0)) : decide (v3 = 0) = decide (v3 = 0) := by
  first | rfl | omega | grind
theorem c___spec_l1Cur__one (w : World) {gc ec : Nat} {Ac : Option Addr} {nc cc Bc : Nat} (Lc : List UInt8) (tc sc : Int) (hc : Blk w gc ec [.slice Ac nc cc, .int .i64 tc, .int .u64 sc]) (hLc : SlR w Bc encB 1 Ac nc cc Lc) (hgc : Bc ≤ gc) (htc : 0 ≤ tc ∧ tc + 2 ≤ 4611686018427387904) (n : Int) (hp0 : n ≤ 4611686018427387904) : Calls Tryd.prog 58 #[.pointer (some ⟨gc, 0, none⟩), .int .i64 n] w fun e w' => ∃ (v : Bool) (tc' sc' : Int), e = .returned (.bool v) ∧ Blk w' gc ec [.slice Ac nc cc, .int .i64 tc', .int .u64 sc'] ∧ (tc ≤ tc' ∧ tc' ≤ tc + 2) ∧ Kp (fun b_ => b_ = gc) w w' := by
  refine calls_W 9 Tryd.func58 rfl rfl rfl ?_
  have hBlc := hc.lt
  have hbdc := hLc.bound
  have hlec := hLc.len
  have hBbc := hLc.bd
  refine W.seq ?_
  refine W.regS (SR.q' (r_as (v := .bool false) rfl) <| SR.nil ?_)
  refine W.seq ?_
  refine W.regS (SR.q' (r_mv (v := .pointer (some _)) rfl) <| SR.q' (r_mv (v := .int .i64 _) rfl) <| SR.call ent56 (c___spec_l1Cur__pick w Lc tc sc (hc) ((hLc)) (by omega) (by omega) n (by first | omega | (simp only [List.length_append, List.length_cons, List.length_nil, List.length_take, List.length_drop]; omega))) rfl ?_)
  rintro e w1 ⟨v3, t4, s5, rfl, hb6, ht7, hq8, hk2⟩
  refine ⟨_, rfl, ?_⟩
  have hz9 := hk2.size
  have hB10 := (Kp.refl w : Kp (fun b_ => b_ = gc) w w).step hk2 (fun i_ hi_ e' => e')
  refine SR.q' (r_eq rfl rfl) <| SR.q' (r_as (v := .bool _) rfl) <| SR.nil ?_
  refine W.ret ?_
  refine ret1 rfl (v := .bool _) rfl ?_
  exact ⟨(decide (v3 = 0)), t4, s5, eR (eB (z_c___spec_l1Cur__one_11 Lc tc sc nc htc hbdc hlec n hp0 v3 t4 s5 ht7 hq8)), (hb6), ⟨by omega, by omega⟩, hB10⟩

theorem z_c___spec_l1Cur__of_13 (Lc : List UInt8) (tc : Int) (sc : Int) (nc : Nat) (htc : 0 ≤ tc ∧ tc + 2 ≤ 4611686018427387904) (hbdc : (nc : Int) ≤ 9223372036854775807) (hlec : nc = Lc.length) (L : List (List UInt8)) (nL : Nat) (hbdL : (nL : Int) ≤ 9223372036854775807) (hleL : nL = L.length) (hp0 : 0 < nL) (hp1 : (nL : Int) ≤ 1048576) (v3 : Int) (t4 : Int) (s5 : Int) (ht7 : tc ≤ t4 ∧ t4 ≤ tc + 2) (hq8 : (0 : Int) ≤ v3 ∧ ((v3 : Int) < (nL : Int) ∨ (v3 : Int) = 0)) (x11 : List UInt8) (hx12 : L[v3.toNat]? = some x11) : x11 ∈ L := by
  exact List.mem_of_getElem? ‹L[_]? = some _›
theorem c___spec_l1Cur__of (w : World) {gc ec : Nat} {Ac : Option Addr} {nc cc Bc : Nat} (Lc : List UInt8) (tc sc : Int) (hc : Blk w gc ec [.slice Ac nc cc, .int .i64 tc, .int .u64 sc]) (hLc : SlR w Bc encB 1 Ac nc cc Lc) (hgc : Bc ≤ gc) (htc : 0 ≤ tc ∧ tc + 2 ≤ 4611686018427387904) {AL : Option Addr} {nL cL BL : Nat}  (L : List (List UInt8)) (hL : SlR w BL encS 1 AL nL cL L) (hp0 : 0 < nL) (hp1 : (nL : Int) ≤ 1048576) (hp2 : ¬ (adr AL).block = gc) : Calls Tryd.prog 72 #[.pointer (some ⟨gc, 0, none⟩), .slice AL nL cL] w fun e w' => ∃ (v : List UInt8) (tc' sc' : Int), e = .returned (str v) ∧ Blk w' gc ec [.slice Ac nc cc, .int .i64 tc', .int .u64 sc'] ∧ (tc ≤ tc' ∧ tc' ≤ tc + 2) ∧ (v ∈ L) ∧ Kp (fun b_ => b_ = gc) w w' := by
  refine calls_W 12 Tryd.func72 rfl rfl rfl ?_
  have hBlc := hc.lt
  have hbdc := hLc.bound
  have hlec := hLc.len
  have hBbc := hLc.bd
  have hbdL := hL.bound
  have hleL := hL.len
  have hBbL := hL.bd
  refine W.seq ?_
  refine W.regS (SR.q' (r_as (v := str ([] : List UInt8)) rfl) <| SR.nil ?_)
  refine W.seq ?_
  refine W.regS (SR.q' (r_mv (v := .slice _ _ _) rfl) <| SR.q' (r_mv (v := .pointer (some _)) rfl) <| SR.q' (r_mv (v := .slice _ _ _) rfl) <| SR.q' (r_len und85 rfl) <| SR.call ent56 (c___spec_l1Cur__pick w Lc tc sc (hc) ((hLc)) (by omega) (by omega) (nL : Int) (by first | omega | (simp only [List.length_append, List.length_cons, List.length_nil, List.length_take, List.length_drop]; omega))) rfl ?_)
  rintro e w1 ⟨v3, t4, s5, rfl, hb6, ht7, hq8, hk2⟩
  refine ⟨_, rfl, ?_⟩
  have hz9 := hk2.size
  have hB10 := (Kp.refl w : Kp (fun b_ => b_ = gc) w w).step hk2 (fun i_ hi_ e' => e')
  obtain ⟨x11, hx12⟩ := ((hL).kpb hk2 (fun e' => hp2 e')).get (i := v3.toNat) (by omega)
  refine SR.q' (r_ixR tsl85 ((hL).kpb hk2 (fun e' => hp2 e')) rfl rfl (by omega)) <| SR.q' (r_ld (v := str x11) sca9 rfl (((hL).kpb hk2 (fun e' => hp2 e')).cell0 hx12 rfl)) <| SR.q' (r_as (v := str _) rfl) <| SR.nil ?_
  refine W.ret ?_
  refine ret1 rfl (v := str _) rfl ?_
  exact ⟨x11, t4, s5, eR rfl, (hb6), ⟨by omega, by omega⟩, (z_c___spec_l1Cur__of_13 Lc tc sc nc htc hbdc hlec L nL hbdL hleL hp0 hp1 v3 t4 s5 ht7 hq8 x11 hx12), hB10⟩

theorem z_c___spec_l1Cur__among_13 (Lc : List UInt8) (tc : Int) (sc : Int) (nc : Nat) (htc : 0 ≤ tc ∧ tc + 2 ≤ 4611686018427387904) (hbdc : (nc : Int) ≤ 9223372036854775807) (hlec : nc = Lc.length) (L : List Int) (nL : Nat) (hbdL : (nL : Int) ≤ 9223372036854775807) (hleL : nL = L.length) (hp0 : 0 < nL) (hp1 : (nL : Int) ≤ 1048576) (v3 : Int) (t4 : Int) (s5 : Int) (ht7 : tc ≤ t4 ∧ t4 ≤ tc + 2) (hq8 : (0 : Int) ≤ v3 ∧ ((v3 : Int) < (nL : Int) ∨ (v3 : Int) = 0)) (x11 : Int) (hx12 : L[v3.toNat]? = some x11) : x11 ∈ L := by
  exact List.mem_of_getElem? ‹L[_]? = some _›
theorem c___spec_l1Cur__among (w : World) {gc ec : Nat} {Ac : Option Addr} {nc cc Bc : Nat} (Lc : List UInt8) (tc sc : Int) (hc : Blk w gc ec [.slice Ac nc cc, .int .i64 tc, .int .u64 sc]) (hLc : SlR w Bc encB 1 Ac nc cc Lc) (hgc : Bc ≤ gc) (htc : 0 ≤ tc ∧ tc + 2 ≤ 4611686018427387904) {AL : Option Addr} {nL cL BL : Nat}  (L : List Int) (hL : SlR w BL encI 1 AL nL cL L) (hp0 : 0 < nL) (hp1 : (nL : Int) ≤ 1048576) (hp2 : ¬ (adr AL).block = gc) : Calls Tryd.prog 53 #[.pointer (some ⟨gc, 0, none⟩), .slice AL nL cL] w fun e w' => ∃ (v : Int) (tc' sc' : Int), e = .returned (.int .i64 v) ∧ Blk w' gc ec [.slice Ac nc cc, .int .i64 tc', .int .u64 sc'] ∧ (tc ≤ tc' ∧ tc' ≤ tc + 2) ∧ (v ∈ L) ∧ Kp (fun b_ => b_ = gc) w w' := by
  refine calls_W 12 Tryd.func53 rfl rfl rfl ?_
  have hBlc := hc.lt
  have hbdc := hLc.bound
  have hlec := hLc.len
  have hBbc := hLc.bd
  have hbdL := hL.bound
  have hleL := hL.len
  have hBbL := hL.bd
  refine W.seq ?_
  refine W.regS (SR.q' (r_as (v := .int .i64 0) rfl) <| SR.nil ?_)
  refine W.seq ?_
  refine W.regS (SR.q' (r_mv (v := .slice _ _ _) rfl) <| SR.q' (r_mv (v := .pointer (some _)) rfl) <| SR.q' (r_mv (v := .slice _ _ _) rfl) <| SR.q' (r_len und74 rfl) <| SR.call ent56 (c___spec_l1Cur__pick w Lc tc sc (hc) ((hLc)) (by omega) (by omega) (nL : Int) (by first | omega | (simp only [List.length_append, List.length_cons, List.length_nil, List.length_take, List.length_drop]; omega))) rfl ?_)
  rintro e w1 ⟨v3, t4, s5, rfl, hb6, ht7, hq8, hk2⟩
  refine ⟨_, rfl, ?_⟩
  have hz9 := hk2.size
  have hB10 := (Kp.refl w : Kp (fun b_ => b_ = gc) w w).step hk2 (fun i_ hi_ e' => e')
  obtain ⟨x11, hx12⟩ := ((hL).kpb hk2 (fun e' => hp2 e')).get (i := v3.toNat) (by omega)
  refine SR.q' (r_ixR tsl74 ((hL).kpb hk2 (fun e' => hp2 e')) rfl rfl (by omega)) <| SR.q' (r_ld (v := .int .i64 x11) sca3 rfl (((hL).kpb hk2 (fun e' => hp2 e')).cell0 hx12 rfl)) <| SR.q' (r_as (v := .int .i64 _) rfl) <| SR.nil ?_
  refine W.ret ?_
  refine ret1 rfl (v := .int .i64 _) rfl ?_
  exact ⟨x11, t4, s5, eR rfl, (hb6), ⟨by omega, by omega⟩, (z_c___spec_l1Cur__among_13 Lc tc sc nc htc hbdc hlec L nL hbdL hleL hp0 hp1 v3 t4 s5 ht7 hq8 x11 hx12), hB10⟩

theorem z_c___spec_l1Cur__spoilt_2 (Lc : List UInt8) (tc : Int) (sc : Int) (nc : Nat) (htc : 0 ≤ tc ∧ tc + 6 ≤ 4611686018427387904) (hbdc : (nc : Int) ≤ 9223372036854775807) (hlec : nc = Lc.length) (s : List UInt8) (r : List UInt8) (hp0 : (s.length : Int) ≤ 1048576) (hp1 : 0 < r.length ∧ (r.length : Int) ≤ 1048576) (h1 : s = ([] : List UInt8)) : (r.take 1).length ≤ s.length + 1 := by
  simp only [List.length_append, List.length_take, List.length_drop]; omega
theorem z_c___spec_l1Cur__spoilt_39 (Lc : List UInt8) (tc : Int) (sc : Int) (nc : Nat) (htc : 0 ≤ tc ∧ tc + 6 ≤ 4611686018427387904) (hbdc : (nc : Int) ≤ 9223372036854775807) (hlec : nc = Lc.length) (s : List UInt8) (r : List UInt8) (hp0 : (s.length : Int) ≤ 1048576) (hp1 : 0 < r.length ∧ (r.length : Int) ≤ 1048576) (h1 : ¬ (s = ([] : List UInt8))) (hq3 : 0 < s.length) (v6 : Int) (t7 : Int) (s8 : Int) (ht10 : tc ≤ t7 ∧ t7 ≤ tc + 2) (hq11 : (0 : Int) ≤ v6 ∧ ((v6 : Int) < (s.length : Int) ∨ (v6 : Int) = 0)) (v16 : Int) (t17 : Int) (s18 : Int) (ht20 : t7 ≤ t17 ∧ t17 ≤ t7 + 2) (hq21 : (0 : Int) ≤ v16 ∧ ((v16 : Int) < (r.length : Int) ∨ (v16 : Int) = 0)) (v26 : Int) (t27 : Int) (s28 : Int) (ht30 : t17 ≤ t27 ∧ t27 ≤ t17 + 2) (hq31 : (0 : Int) ≤ v26 ∧ ((v26 : Int) < 3 ∨ (v26 : Int) = 0)) (h34 : v26 = 0) : (((s.take v6.toNat) ++ ((r.drop v16.toNat).take 1)) ++ (s.drop v6.toNat)).length ≤ s.length + 1 := by
  simp only [List.length_append, List.length_take, List.length_drop]; omega
theorem z_c___spec_l1Cur__spoilt_45 (Lc : List UInt8) (tc : Int) (sc : Int) (nc : Nat) (htc : 0 ≤ tc ∧ tc + 6 ≤ 4611686018427387904) (hbdc : (nc : Int) ≤ 9223372036854775807) (hlec : nc = Lc.length) (s : List UInt8) (r : List UInt8) (hp0 : (s.length : Int) ≤ 1048576) (hp1 : 0 < r.length ∧ (r.length : Int) ≤ 1048576) (h1 : ¬ (s = ([] : List UInt8))) (hq3 : 0 < s.length) (v6 : Int) (t7 : Int) (s8 : Int) (ht10 : tc ≤ t7 ∧ t7 ≤ tc + 2) (hq11 : (0 : Int) ≤ v6 ∧ ((v6 : Int) < (s.length : Int) ∨ (v6 : Int) = 0)) (v16 : Int) (t17 : Int) (s18 : Int) (ht20 : t7 ≤ t17 ∧ t17 ≤ t7 + 2) (hq21 : (0 : Int) ≤ v16 ∧ ((v16 : Int) < (r.length : Int) ∨ (v16 : Int) = 0)) (v26 : Int) (t27 : Int) (s28 : Int) (ht30 : t17 ≤ t27 ∧ t27 ≤ t17 + 2) (hq31 : (0 : Int) ≤ v26 ∧ ((v26 : Int) < 3 ∨ (v26 : Int) = 0)) (h34 : ¬ (v26 = 0)) (h40 : v26 = 1) : (((s.take v6.toNat) ++ ((r.drop v16.toNat).take 1)) ++ (s.drop ((v6 + 1).toNat))).length ≤ s.length + 1 := by
  simp only [List.length_append, List.length_take, List.length_drop]; omega
theorem z_c___spec_l1Cur__spoilt_50 (Lc : List UInt8) (tc : Int) (sc : Int) (nc : Nat) (htc : 0 ≤ tc ∧ tc + 6 ≤ 4611686018427387904) (hbdc : (nc : Int) ≤ 9223372036854775807) (hlec : nc = Lc.length) (s : List UInt8) (r : List UInt8) (hp0 : (s.length : Int) ≤ 1048576) (hp1 : 0 < r.length ∧ (r.length : Int) ≤ 1048576) (h1 : ¬ (s = ([] : List UInt8))) (hq3 : 0 < s.length) (v6 : Int) (t7 : Int) (s8 : Int) (ht10 : tc ≤ t7 ∧ t7 ≤ tc + 2) (hq11 : (0 : Int) ≤ v6 ∧ ((v6 : Int) < (s.length : Int) ∨ (v6 : Int) = 0)) (v16 : Int) (t17 : Int) (s18 : Int) (ht20 : t7 ≤ t17 ∧ t17 ≤ t7 + 2) (hq21 : (0 : Int) ≤ v16 ∧ ((v16 : Int) < (r.length : Int) ∨ (v16 : Int) = 0)) (v26 : Int) (t27 : Int) (s28 : Int) (ht30 : t17 ≤ t27 ∧ t27 ≤ t17 + 2) (hq31 : (0 : Int) ≤ v26 ∧ ((v26 : Int) < 3 ∨ (v26 : Int) = 0)) (h34 : ¬ (v26 = 0)) (h40 : ¬ (v26 = 1)) : ((s.take v6.toNat) ++ (s.drop ((v6 + 1).toNat))).length ≤ s.length + 1 := by
  simp only [List.length_append, List.length_take, List.length_drop]; omega
theorem c___spec_l1Cur__spoilt (w : World) {gc ec : Nat} {Ac : Option Addr} {nc cc Bc : Nat} (Lc : List UInt8) (tc sc : Int) (hc : Blk w gc ec [.slice Ac nc cc, .int .i64 tc, .int .u64 sc]) (hLc : SlR w Bc encB 1 Ac nc cc Lc) (hgc : Bc ≤ gc) (htc : 0 ≤ tc ∧ tc + 6 ≤ 4611686018427387904) (s : List UInt8) (r : List UInt8) (hp0 : (s.length : Int) ≤ 1048576) (hp1 : 0 < r.length ∧ (r.length : Int) ≤ 1048576) : Calls Tryd.prog 57 #[.pointer (some ⟨gc, 0, none⟩), str s, str r] w fun e w' => ∃ (v : List UInt8) (tc' sc' : Int), e = .returned (str v) ∧ Blk w' gc ec [.slice Ac nc cc, .int .i64 tc', .int .u64 sc'] ∧ (tc ≤ tc' ∧ tc' ≤ tc + 6) ∧ (v.length ≤ s.length + 1) ∧ Kp (fun b_ => b_ = gc) w w' := by
  refine calls_W 57 Tryd.func57 rfl rfl rfl ?_
  have hBlc := hc.lt
  have hbdc := hLc.bound
  have hlec := hLc.len
  have hBbc := hLc.bd
  refine W.seq ?_
  refine W.regS (SR.q' (r_as (v := str ([] : List UInt8)) rfl) <| SR.nil ?_)
  refine W.seq ?_
  refine W.seq ?_
  refine W.regS (SR.q' (r_mv (v := str _) rfl) <| SR.q' (r_eqs (s := s) (r := ([] : List UInt8)) rfl rfl) <| SR.nil ?_)
  refine W.cond_d rfl (fun h1 => ?_) (fun h1 => ?_)
  · refine W.seq ?_
    refine W.regS (SR.q' (r_mv (v := str _) rfl) <| SR.q' (r_cuthS (h := 1) und9 rfl rfl rfl (by first | omega | (simp only [List.length_append, List.length_cons, List.length_nil, List.length_take, List.length_drop]; omega) | (simp only [List.length_append, List.length_cons, List.length_nil, List.length_take, List.length_drop] at *; omega))) <| SR.q' (r_as (v := str _) rfl) <| SR.nil ?_)
    refine W.ret ?_
    refine ret1 rfl (v := str _) rfl ?_
    exact ⟨(r.take 1), tc, sc, eR rfl, (hc), ⟨by omega, by omega⟩, (z_c___spec_l1Cur__spoilt_2 Lc tc sc nc htc hbdc hlec s r hp0 hp1 h1), (Kp.refl w : Kp (fun b_ => b_ = gc) w w)⟩
  · have hq3 := List.length_pos_iff.2 h1
    refine W.skip ?_
    refine W.seq ?_
    refine W.regS (SR.q' (r_mv (v := .pointer (some _)) rfl) <| SR.q' (r_mv (v := str _) rfl) <| SR.q' (r_len_s und9 rfl) <| SR.call ent56 (c___spec_l1Cur__pick w Lc tc sc (hc) ((hLc)) (by omega) (by omega) (s.length : Int) (by first | omega | (simp only [List.length_append, List.length_cons, List.length_nil, List.length_take, List.length_drop]; omega))) rfl ?_)
    rintro e w4 ⟨v6, t7, s8, rfl, hb9, ht10, hq11, hk5⟩
    refine ⟨_, rfl, ?_⟩
    have hz12 := hk5.size
    have hB13 := (Kp.refl w : Kp (fun b_ => b_ = gc) w w).step hk5 (fun i_ hi_ e' => e')
    refine SR.q' (r_as (v := .int .i64 _) rfl) <| SR.nil ?_
    refine W.seq ?_
    refine W.regS (SR.q' (r_mv (v := str _) rfl) <| SR.q' (r_mv (v := .pointer (some _)) rfl) <| SR.q' (r_mv (v := str _) rfl) <| SR.q' (r_len_s und9 rfl) <| SR.call ent56 (c___spec_l1Cur__pick w4 Lc t7 s8 (hb9) (((hLc).kp hk5 (fun b_ hb e' => by have e'' : b_ = gc := e'; omega))) (by omega) (by omega) (r.length : Int) (by first | omega | (simp only [List.length_append, List.length_cons, List.length_nil, List.length_take, List.length_drop]; omega))) rfl ?_)
    rintro e w14 ⟨v16, t17, s18, rfl, hb19, ht20, hq21, hk15⟩
    refine ⟨_, rfl, ?_⟩
    have hz22 := hk15.size
    have hB23 := hB13.step hk15 (fun i_ hi_ e' => e')
    refine SR.q' (r_cutlS (l := v16.toNat) und9 rfl rfl (by omega) (by first | omega | (simp only [List.length_append, List.length_cons, List.length_nil, List.length_take, List.length_drop]; omega) | (simp only [List.length_append, List.length_cons, List.length_nil, List.length_take, List.length_drop] at *; omega))) <| SR.q' (r_cuthS (h := 1) und9 rfl rfl rfl (by first | omega | (simp only [List.length_append, List.length_cons, List.length_nil, List.length_take, List.length_drop]; omega) | (simp only [List.length_append, List.length_cons, List.length_nil, List.length_take, List.length_drop] at *; omega))) <| SR.q' (r_as (v := str _) rfl) <| SR.nil ?_
    refine W.seq ?_
    refine W.seq ?_
    refine W.regS (SR.q' (r_mv (v := .pointer (some _)) rfl) <| SR.call ent56 (c___spec_l1Cur__pick w14 Lc t17 s18 (hb19) ((((hLc).kp hk5 (fun b_ hb e' => by have e'' : b_ = gc := e'; omega)).kp hk15 (fun b_ hb e' => by have e'' : b_ = gc := e'; omega))) (by omega) (by omega) 3 (by first | omega | (simp only [List.length_append, List.length_cons, List.length_nil, List.length_take, List.length_drop]; omega))) rfl ?_)
    rintro e w24 ⟨v26, t27, s28, rfl, hb29, ht30, hq31, hk25⟩
    refine ⟨_, rfl, ?_⟩
    have hz32 := hk25.size
    have hB33 := hB23.step hk25 (fun i_ hi_ e' => e')
    refine SR.nil ?_
    refine W.block ?_
    refine W.seq ?_
    refine W.regS (SR.q' (r_eq rfl rfl) <| SR.q' (r_as (v := .bool _) rfl) <| SR.nil ?_)
    refine W.cond_d rfl (fun h34 => ?_) (fun h34 => ?_)
    · refine W.seq ?_
      refine W.regD mo (by kernel_rfl) (QR.q' (fun w' hw' => r_mv (v := str _) rfl) <| QR.q' (fun w' hw' => r_mv (v := .int .i64 _) rfl) <| QR.q' (fun w' hw' => r_cuthS (h := v6.toNat) und9 rfl rfl (by omega) (by first | omega | (simp only [List.length_append, List.length_cons, List.length_nil, List.length_take, List.length_drop]; omega) | (simp only [List.length_append, List.length_cons, List.length_nil, List.length_take, List.length_drop] at *; omega))) <| QR.q' (fun w' hw' => r_mv (v := str _) rfl) <| QR.q' (fun w' hw' => r_cat rfl rfl (by first | omega | (simp only [List.length_append, List.length_cons, List.length_nil, List.length_take, List.length_drop]; omega) | (simp only [List.length_append, List.length_cons, List.length_nil, List.length_take, List.length_drop] at *; omega))) <| QR.q' (fun w' hw' => r_mv (v := str _) rfl) <| QR.q' (fun w' hw' => r_mv (v := .int .i64 _) rfl) <| QR.q' (fun w' hw' => r_cutlS (l := v6.toNat) und9 rfl rfl (by omega) (by first | omega | (simp only [List.length_append, List.length_cons, List.length_nil, List.length_take, List.length_drop]; omega) | (simp only [List.length_append, List.length_cons, List.length_nil, List.length_take, List.length_drop] at *; omega))) <| QR.q' (fun w' hw' => r_cat rfl rfl (by first | omega | (simp only [List.length_append, List.length_cons, List.length_nil, List.length_take, List.length_drop]; omega) | (simp only [List.length_append, List.length_cons, List.length_nil, List.length_take, List.length_drop] at *; omega))) <| QR.q' (fun w' hw' => r_as (v := str _) rfl) <| QR.nil ?_)
      intro w35 hk36
      have hz37 := hk36.size
      have hB38 := hB33.lo hk36
      refine W.ret ?_
      refine ret1 rfl (v := str _) rfl ?_
      exact ⟨(((s.take v6.toNat) ++ ((r.drop v16.toNat).take 1)) ++ (s.drop v6.toNat)), t27, s28, eR rfl, ((hb29).lo hk36), ⟨by omega, by omega⟩, (z_c___spec_l1Cur__spoilt_39 Lc tc sc nc htc hbdc hlec s r hp0 hp1 h1 hq3 v6 t7 s8 ht10 hq11 v16 t17 s18 ht20 hq21 v26 t27 s28 ht30 hq31 h34), hB38⟩
    · refine W.seq ?_
      refine W.regS (SR.q' (r_eq rfl rfl) <| SR.q' (r_as (v := .bool _) rfl) <| SR.nil ?_)
      refine W.cond_d rfl (fun h40 => ?_) (fun h40 => ?_)
      · refine W.seq ?_
        refine W.regD mo (by kernel_rfl) (QR.q' (fun w' hw' => r_mv (v := str _) rfl) <| QR.q' (fun w' hw' => r_mv (v := .int .i64 _) rfl) <| QR.q' (fun w' hw' => r_cuthS (h := v6.toNat) und9 rfl rfl (by omega) (by first | omega | (simp only [List.length_append, List.length_cons, List.length_nil, List.length_take, List.length_drop]; omega) | (simp only [List.length_append, List.length_cons, List.length_nil, List.length_take, List.length_drop] at *; omega))) <| QR.q' (fun w' hw' => r_mv (v := str _) rfl) <| QR.q' (fun w' hw' => r_cat rfl rfl (by first | omega | (simp only [List.length_append, List.length_cons, List.length_nil, List.length_take, List.length_drop]; omega) | (simp only [List.length_append, List.length_cons, List.length_nil, List.length_take, List.length_drop] at *; omega))) <| QR.q' (fun w' hw' => r_mv (v := str _) rfl) <| QR.q' (fun w' hw' => r_mv (v := .int .i64 _) rfl) <| QR.q' (fun w' hw' => r_add rfl rfl (by omega)) <| QR.q' (fun w' hw' => r_cutlS (l := (v6 + 1).toNat) und9 rfl rfl (by omega) (by first | omega | (simp only [List.length_append, List.length_cons, List.length_nil, List.length_take, List.length_drop]; omega) | (simp only [List.length_append, List.length_cons, List.length_nil, List.length_take, List.length_drop] at *; omega))) <| QR.q' (fun w' hw' => r_cat rfl rfl (by first | omega | (simp only [List.length_append, List.length_cons, List.length_nil, List.length_take, List.length_drop]; omega) | (simp only [List.length_append, List.length_cons, List.length_nil, List.length_take, List.length_drop] at *; omega))) <| QR.q' (fun w' hw' => r_as (v := str _) rfl) <| QR.nil ?_)
        intro w41 hk42
        have hz43 := hk42.size
        have hB44 := hB33.lo hk42
        refine W.ret ?_
        refine ret1 rfl (v := str _) rfl ?_
        exact ⟨(((s.take v6.toNat) ++ ((r.drop v16.toNat).take 1)) ++ (s.drop ((v6 + 1).toNat))), t27, s28, eR rfl, ((hb29).lo hk42), ⟨by omega, by omega⟩, (z_c___spec_l1Cur__spoilt_45 Lc tc sc nc htc hbdc hlec s r hp0 hp1 h1 hq3 v6 t7 s8 ht10 hq11 v16 t17 s18 ht20 hq21 v26 t27 s28 ht30 hq31 h34 h40), hB44⟩
      · refine W.skip ?_
        refine W.seq ?_
        refine W.regD mo (by kernel_rfl) (QR.q' (fun w' hw' => r_mv (v := str _) rfl) <| QR.q' (fun w' hw' => r_mv (v := .int .i64 _) rfl) <| QR.q' (fun w' hw' => r_cuthS (h := v6.toNat) und9 rfl rfl (by omega) (by first | omega | (simp only [List.length_append, List.length_cons, List.length_nil, List.length_take, List.length_drop]; omega) | (simp only [List.length_append, List.length_cons, List.length_nil, List.length_take, List.length_drop] at *; omega))) <| QR.q' (fun w' hw' => r_mv (v := str _) rfl) <| QR.q' (fun w' hw' => r_mv (v := .int .i64 _) rfl) <| QR.q' (fun w' hw' => r_add rfl rfl (by omega)) <| QR.q' (fun w' hw' => r_cutlS (l := (v6 + 1).toNat) und9 rfl rfl (by omega) (by first | omega | (simp only [List.length_append, List.length_cons, List.length_nil, List.length_take, List.length_drop]; omega) | (simp only [List.length_append, List.length_cons, List.length_nil, List.length_take, List.length_drop] at *; omega))) <| QR.q' (fun w' hw' => r_cat rfl rfl (by first | omega | (simp only [List.length_append, List.length_cons, List.length_nil, List.length_take, List.length_drop]; omega) | (simp only [List.length_append, List.length_cons, List.length_nil, List.length_take, List.length_drop] at *; omega))) <| QR.q' (fun w' hw' => r_as (v := str _) rfl) <| QR.nil ?_)
        intro w46 hk47
        have hz48 := hk47.size
        have hB49 := hB33.lo hk47
        refine W.ret ?_
        refine ret1 rfl (v := str _) rfl ?_
        exact ⟨((s.take v6.toNat) ++ (s.drop ((v6 + 1).toNat))), t27, s28, eR rfl, ((hb29).lo hk47), ⟨by omega, by omega⟩, (z_c___spec_l1Cur__spoilt_50 Lc tc sc nc htc hbdc hlec s r hp0 hp1 h1 hq3 v6 t7 s8 ht10 hq11 v16 t17 s18 ht20 hq21 v26 t27 s28 ht30 hq31 h34 h40), hB49⟩
end Go.Proofs.YthlbmkpkgiabnaaDoor
