/- Walks, printed by a program of this claim's author. -/
import Derived.Test.YtlpapeeaghmjpaaDoorChecked
import Derived.Test.YtlpapeeaghmjpaaDoorSd
import Derived.Test.YtlpapeeaghmjpaaDoorFu
import Derived.Test.YtlpapeeaghmjpaaDoorFs
import Derived.Test.YtlpapeeaghmjpaaDoorFq
import Derived.Test.YtlpapeeaghmjpaaDoorFo
import Derived.Test.YtlpapeeaghmjpaaDoorSq
import Derived.Test.YtlpapeeaghmjpaaDoorG29r
namespace Go.Proofs.YtlpapeeaghmjpaaDoor
open Go Go.RowKit Fw
set_option maxRecDepth 10000
set_option linter.unusedVariables false
theorem bld57_1 (a1 : Option Addr) (b1 c1 : Nat) : Tryd.prog.built 57 [(1, .slice a1 b1 c1)] = some (List.toArray [.int .i64 0, .slice a1 b1 c1, .int .i64 0, .int .i64 0, .int .i64 0]) := by kernel_rfl
theorem ent115 : Ent Tryd.prog 115 := ent_of Tryd.func115 (by decide +kernel) rfl
theorem ent95 : Ent Tryd.prog 95 := ent_of Tryd.func95 (by decide +kernel) rfl
theorem fa85_0 : FA Tryd.prog 85 0 0 := fun _ _ => by kernel_rfl
theorem fa85_1 : FA Tryd.prog 85 1 1 := fun _ _ => by kernel_rfl
theorem fa85_2 : FA Tryd.prog 85 2 2 := fun _ _ => by kernel_rfl
theorem sca36 : TSca Tryd.prog 36 := ⟨fun _ => by kernel_rfl, fun _ => by kernel_rfl⟩
theorem sca5 : TSca Tryd.prog 5 := ⟨fun _ => by kernel_rfl, fun _ => by kernel_rfl⟩
theorem sca83 : TSca Tryd.prog 83 := ⟨fun _ => by kernel_rfl, fun _ => by kernel_rfl⟩
theorem tsl36 : TSl Tryd.prog 36 5 1 := ⟨by kernel_rfl, fun _ => by kernel_rfl⟩
theorem und3 : Tryd.prog.underlying 3 = some (.int .i64) := by kernel_rfl
theorem und36 : Tryd.prog.underlying 36 = some (.slice 5) := by kernel_rfl
theorem und5 : Tryd.prog.underlying 5 = some (.int .u8) := by kernel_rfl
theorem und83 : Tryd.prog.underlying 83 = some (.int .u64) := by kernel_rfl

theorem z_c___spec_l1Cur__next_30 (Lc : List UInt8) (tc : Int) (sc : Int) (nc : Nat) (htc : 0 ≤ tc ∧ tc + 1 ≤ 4611686018427387904) (hbdc : (nc : Int) ≤ 9223372036854775807) (hlec : nc = Lc.length) (h5 : tc < (nc : Int)) (hx7 : Lc[tc.toNat]? = some (gt Lc tc.toNat)) (hq8 : ((gt Lc tc.toNat).toNat : Int) ≤ 255) (h29 : (tc + 1) ≤ (nc : Int)) : (0 : Int) ≤ ((gt Lc tc.toNat).toNat : Int) ∧ (((gt Lc tc.toNat).toNat : Int) : Int) ≤ 255 := by
  omega
theorem z_c___spec_l1Cur__next_31 (Lc : List UInt8) (tc : Int) (sc : Int) (nc : Nat) (htc : 0 ≤ tc ∧ tc + 1 ≤ 4611686018427387904) (hbdc : (nc : Int) ≤ 9223372036854775807) (hlec : nc = Lc.length) (h5 : tc < (nc : Int)) (hx7 : Lc[tc.toNat]? = some (gt Lc tc.toNat)) (hq8 : ((gt Lc tc.toNat).toNat : Int) ≤ 255) (h29 : ¬ ((tc + 1) ≤ (nc : Int))) : (0 : Int) ≤ (((IntKind.u64.wrap ((IntKind.u64.wrap ((IntKind.u64.wrap (sc * 6364136223846793005)) + ((gt Lc tc.toNat).toNat : Int))) + 604171)) / 1099511627776) % 256) ∧ ((((IntKind.u64.wrap ((IntKind.u64.wrap ((IntKind.u64.wrap (sc * 6364136223846793005)) + ((gt Lc tc.toNat).toNat : Int))) + 604171)) / 1099511627776) % 256) : Int) ≤ 255 := by
  omega
theorem z_c___spec_l1Cur__next_49 (Lc : List UInt8) (tc : Int) (sc : Int) (nc : Nat) (htc : 0 ≤ tc ∧ tc + 1 ≤ 4611686018427387904) (hbdc : (nc : Int) ≤ 9223372036854775807) (hlec : nc = Lc.length) (h5 : ¬ (tc < (nc : Int))) (h48 : (tc + 1) ≤ (nc : Int)) : (0 : Int) ≤ 0 ∧ (0 : Int) ≤ 255 := by
  omega
theorem z_c___spec_l1Cur__next_50 (Lc : List UInt8) (tc : Int) (sc : Int) (nc : Nat) (htc : 0 ≤ tc ∧ tc + 1 ≤ 4611686018427387904) (hbdc : (nc : Int) ≤ 9223372036854775807) (hlec : nc = Lc.length) (h5 : ¬ (tc < (nc : Int))) (h48 : ¬ ((tc + 1) ≤ (nc : Int))) : (0 : Int) ≤ (((IntKind.u64.wrap ((IntKind.u64.wrap ((IntKind.u64.wrap (sc * 6364136223846793005)) + 0)) + 604171)) / 1099511627776) % 256) ∧ ((((IntKind.u64.wrap ((IntKind.u64.wrap ((IntKind.u64.wrap (sc * 6364136223846793005)) + 0)) + 604171)) / 1099511627776) % 256) : Int) ≤ 255 := by
  omega
theorem c___spec_l1Cur__next (w : World) {gc ec : Nat} {Ac : Option Addr} {nc cc Bc : Nat} (Lc : List UInt8) (tc sc : Int) (hc : Blk w gc ec [.slice Ac nc cc, .int .i64 tc, .int .u64 sc]) (hLc : SlR w Bc encB 1 Ac nc cc Lc) (hgc : Bc ≤ gc) (htc : 0 ≤ tc ∧ tc + 1 ≤ 4611686018427387904) : Calls Tryd.prog 115 #[.pointer (some ⟨gc, 0, none⟩)] w fun e w' => ∃ (v : Int) (tc' sc' : Int), e = .returned (.int .i64 v) ∧ Blk w' gc ec [.slice Ac nc cc, .int .i64 tc', .int .u64 sc'] ∧ (tc ≤ tc' ∧ tc' ≤ tc + 1) ∧ ((0 : Int) ≤ v ∧ (v : Int) ≤ 255) ∧ Kp (fun b_ => b_ = gc) w w' := by
  refine calls_W 62 Tryd.func115 rfl rfl rfl ?_
  have hBlc := hc.lt
  have hbdc := hLc.bound
  have hlec := hLc.len
  have hBbc := hLc.bd
  refine W.seq ?_
  refine W.regS (SR.q' (r_as (v := .int .i64 0) rfl) <| SR.nil ?_)
  refine W.seq ?_
  refine W.regS (SR.q' (r_as (v := .int .i64 0) rfl) <| SR.nil ?_)
  refine W.seq ?_
  refine W.seq ?_
  refine W.regD mo (by kernel_rfl) (QR.q' (fun w' hw' => r_mv (v := .pointer (some _)) rfl) <| QR.q' (fun w' hw' => r_nilp rfl) <| QR.q' (fun w' hw' => r_fa fa85_1 rfl) <| QR.q' (fun w' hw' => r_ld (v := .int .i64 tc) sca3 rfl (((hc).lo hw').cell rfl)) <| QR.q' (fun w' hw' => r_mv (v := .pointer (some _)) rfl) <| QR.q' (fun w' hw' => r_nilp rfl) <| QR.q' (fun w' hw' => r_fa fa85_0 rfl) <| QR.q' (fun w' hw' => r_ld (v := .slice Ac nc cc) sca36 rfl (((hc).lo hw').cell rfl)) <| QR.q' (fun w' hw' => r_len und36 rfl) <| QR.q' (fun w' hw' => r_lt rfl rfl) <| QR.nil ?_)
  intro w1 hk2
  have hz3 := hk2.size
  have hB4 := (Kp.refl w : Kp (fun b_ => b_ = gc) w w).lo hk2
  refine W.cond_d rfl (fun h5 => ?_) (fun h5 => ?_)
  · refine W.regD mo (by kernel_rfl) (QR.q' (fun w' hw' => r_mv (v := .pointer (some _)) rfl) <| QR.q' (fun w' hw' => r_nilp rfl) <| QR.q' (fun w' hw' => r_fa fa85_0 rfl) <| QR.q' (fun w' hw' => r_ld (v := .slice Ac nc cc) sca36 rfl ((((hc).lo hk2).lo hw').cell rfl)) <| QR.q' (fun w' hw' => r_mv (v := .pointer (some _)) rfl) <| QR.q' (fun w' hw' => r_nilp rfl) <| QR.q' (fun w' hw' => r_fa fa85_1 rfl) <| QR.q' (fun w' hw' => r_ld (v := .int .i64 tc) sca3 rfl ((((hc).lo hk2).lo hw').cell rfl)) <| ?_)
    have hx7 := ((hLc).lo hk2).elem (i := tc.toNat) (by omega)
    have hq8 := u8_le (gt Lc tc.toNat)
    refine QR.q' (fun w' hw' => r_ixR tsl36 ((((hLc).lo hk2).lo hw')) rfl rfl (by omega)) <| QR.q' (fun w' hw' => r_ld (v := .int .u8 ((gt Lc tc.toNat).toNat : Int)) sca5 rfl (((((hLc).lo hk2).lo hw')).cell0 hx7 rfl)) <| QR.q' (fun w' hw' => r_convI und3 und5 rfl (by omega)) <| QR.q' (fun w' hw' => r_as (v := .int .i64 _) rfl) <| QR.nil ?_
    intro w9 hk10
    have hz11 := hk10.size
    have hB12 := hB4.lo hk10
    refine W.seq ?_
    refine W.regS (SR.q' (r_mv (v := .pointer (some _)) rfl) <| SR.q' (r_nilp rfl) <| SR.q' (r_fa fa85_1 rfl) <| SR.q' (r_ld (v := .int .i64 tc) sca3 rfl ((((hc).lo hk2).lo hk10).cell rfl)) <| SR.q' (r_add rfl rfl (by omega)) <| SR.q' (r_nilp rfl) <| SR.q' (r_fa fa85_1 rfl) <| SR.store (o := 1) (vs := [.int .i64 (tc + 1)]) sca3.2 rfl rfl rfl rfl (((hc).lo hk2).lo hk10) (Nat.le_of_ble_eq_true rfl) rfl ?_)
    intro w13 hk14 hs15 hb16
    have hz17 := hk14.size
    have hB18 := hB12.step hk14 (fun i_ hi_ e' => e')
    refine SR.nil ?_
    refine W.seq ?_
    refine W.regS (SR.q' (r_mv (v := .pointer (some _)) rfl) <| SR.q' (r_mv (v := .pointer (some _)) rfl) <| SR.q' (r_nilp rfl) <| SR.q' (r_fa fa85_2 rfl) <| SR.q' (r_ld (v := .int .u64 sc) sca83 rfl ((hb16).cell rfl)) <| SR.q' (r_mulW rfl rfl) <| SR.q' (r_mv (v := .int .i64 _) rfl) <| SR.q' (r_convU und83 und3 rfl (by omega)) <| SR.q' (r_addW rfl rfl) <| SR.q' (r_addW rfl rfl) <| SR.q' (r_nilp rfl) <| SR.q' (r_fa fa85_2 rfl) <| SR.store (o := 2) (vs := [.int .u64 (IntKind.u64.wrap ((IntKind.u64.wrap ((IntKind.u64.wrap (sc * 6364136223846793005)) + ((gt Lc tc.toNat).toNat : Int))) + 604171))]) sca83.2 rfl rfl rfl rfl (hb16) (Nat.le_of_ble_eq_true rfl) rfl ?_)
    intro w19 hk20 hs21 hb22
    have hz23 := hk20.size
    have hB24 := hB18.step hk20 (fun i_ hi_ e' => e')
    refine SR.nil ?_
    refine W.seq ?_
    refine W.seq ?_
    refine W.regD mo (by kernel_rfl) (QR.q' (fun w' hw' => r_mv (v := .pointer (some _)) rfl) <| QR.q' (fun w' hw' => r_nilp rfl) <| QR.q' (fun w' hw' => r_fa fa85_1 rfl) <| QR.q' (fun w' hw' => r_ld (v := .int .i64 (tc + 1)) sca3 rfl (((hb22).lo hw').cell rfl)) <| QR.q' (fun w' hw' => r_mv (v := .pointer (some _)) rfl) <| QR.q' (fun w' hw' => r_nilp rfl) <| QR.q' (fun w' hw' => r_fa fa85_0 rfl) <| QR.q' (fun w' hw' => r_ld (v := .slice Ac nc cc) sca36 rfl (((hb22).lo hw').cell rfl)) <| QR.q' (fun w' hw' => r_len und36 rfl) <| QR.q' (fun w' hw' => r_le rfl rfl) <| QR.nil ?_)
    intro w25 hk26
    have hz27 := hk26.size
    have hB28 := hB24.lo hk26
    refine W.cond_d rfl (fun h29 => ?_) (fun h29 => ?_)
    · refine W.seq ?_
      refine W.regS (SR.q' (r_mv (v := .int .i64 _) rfl) <| SR.q' (r_as (v := .int .i64 _) rfl) <| SR.nil ?_)
      refine W.ret ?_
      refine ret1 rfl (v := .int .i64 _) rfl ?_
      exact ⟨((gt Lc tc.toNat).toNat : Int), (tc + 1), (IntKind.u64.wrap ((IntKind.u64.wrap ((IntKind.u64.wrap (sc * 6364136223846793005)) + ((gt Lc tc.toNat).toNat : Int))) + 604171)), eR rfl, ((hb22).lo hk26), ⟨by omega, by omega⟩, (z_c___spec_l1Cur__next_30 Lc tc sc nc htc hbdc hlec h5 hx7 hq8 h29), hB28⟩
    · refine W.skip ?_
      refine W.seq ?_
      refine W.regS (SR.q' (r_mv (v := .pointer (some _)) rfl) <| SR.q' (r_nilp rfl) <| SR.q' (r_fa fa85_2 rfl) <| SR.q' (r_ld (v := .int .u64 (IntKind.u64.wrap ((IntKind.u64.wrap ((IntKind.u64.wrap (sc * 6364136223846793005)) + ((gt Lc tc.toNat).toNat : Int))) + 604171))) sca83 rfl (((hb22).lo hk26).cell rfl)) <| SR.q' (r_shr40 rfl rfl (by simp only [IntKind.wrap_u64]; omega)) <| SR.q' (r_and255 rfl rfl (by simp only [IntKind.wrap_u64]; omega)) <| SR.q' (r_convI und3 und83 rfl (by omega)) <| SR.q' (r_as (v := .int .i64 _) rfl) <| SR.nil ?_)
      refine W.ret ?_
      refine ret1 rfl (v := .int .i64 _) rfl ?_
      exact ⟨(((IntKind.u64.wrap ((IntKind.u64.wrap ((IntKind.u64.wrap (sc * 6364136223846793005)) + ((gt Lc tc.toNat).toNat : Int))) + 604171)) / 1099511627776) % 256), (tc + 1), (IntKind.u64.wrap ((IntKind.u64.wrap ((IntKind.u64.wrap (sc * 6364136223846793005)) + ((gt Lc tc.toNat).toNat : Int))) + 604171)), eR rfl, ((hb22).lo hk26), ⟨by omega, by omega⟩, (z_c___spec_l1Cur__next_31 Lc tc sc nc htc hbdc hlec h5 hx7 hq8 h29), hB28⟩
  · refine W.skip ?_
    refine W.seq ?_
    refine W.regS (SR.q' (r_mv (v := .pointer (some _)) rfl) <| SR.q' (r_nilp rfl) <| SR.q' (r_fa fa85_1 rfl) <| SR.q' (r_ld (v := .int .i64 tc) sca3 rfl (((hc).lo hk2).cell rfl)) <| SR.q' (r_add rfl rfl (by omega)) <| SR.q' (r_nilp rfl) <| SR.q' (r_fa fa85_1 rfl) <| SR.store (o := 1) (vs := [.int .i64 (tc + 1)]) sca3.2 rfl rfl rfl rfl ((hc).lo hk2) (Nat.le_of_ble_eq_true rfl) rfl ?_)
    intro w32 hk33 hs34 hb35
    have hz36 := hk33.size
    have hB37 := hB4.step hk33 (fun i_ hi_ e' => e')
    refine SR.nil ?_
    refine W.seq ?_
    refine W.regS (SR.q' (r_mv (v := .pointer (some _)) rfl) <| SR.q' (r_mv (v := .pointer (some _)) rfl) <| SR.q' (r_nilp rfl) <| SR.q' (r_fa fa85_2 rfl) <| SR.q' (r_ld (v := .int .u64 sc) sca83 rfl ((hb35).cell rfl)) <| SR.q' (r_mulW rfl rfl) <| SR.q' (r_mv (v := .int .i64 _) rfl) <| SR.q' (r_convU und83 und3 rfl (by omega)) <| SR.q' (r_addW rfl rfl) <| SR.q' (r_addW rfl rfl) <| SR.q' (r_nilp rfl) <| SR.q' (r_fa fa85_2 rfl) <| SR.store (o := 2) (vs := [.int .u64 (IntKind.u64.wrap ((IntKind.u64.wrap ((IntKind.u64.wrap (sc * 6364136223846793005)) + 0)) + 604171))]) sca83.2 rfl rfl rfl rfl (hb35) (Nat.le_of_ble_eq_true rfl) rfl ?_)
    intro w38 hk39 hs40 hb41
    have hz42 := hk39.size
    have hB43 := hB37.step hk39 (fun i_ hi_ e' => e')
    refine SR.nil ?_
    refine W.seq ?_
    refine W.seq ?_
    refine W.regD mo (by kernel_rfl) (QR.q' (fun w' hw' => r_mv (v := .pointer (some _)) rfl) <| QR.q' (fun w' hw' => r_nilp rfl) <| QR.q' (fun w' hw' => r_fa fa85_1 rfl) <| QR.q' (fun w' hw' => r_ld (v := .int .i64 (tc + 1)) sca3 rfl (((hb41).lo hw').cell rfl)) <| QR.q' (fun w' hw' => r_mv (v := .pointer (some _)) rfl) <| QR.q' (fun w' hw' => r_nilp rfl) <| QR.q' (fun w' hw' => r_fa fa85_0 rfl) <| QR.q' (fun w' hw' => r_ld (v := .slice Ac nc cc) sca36 rfl (((hb41).lo hw').cell rfl)) <| QR.q' (fun w' hw' => r_len und36 rfl) <| QR.q' (fun w' hw' => r_le rfl rfl) <| QR.nil ?_)
    intro w44 hk45
    have hz46 := hk45.size
    have hB47 := hB43.lo hk45
    refine W.cond_d rfl (fun h48 => ?_) (fun h48 => ?_)
    · refine W.seq ?_
      refine W.regS (SR.q' (r_mv (v := .int .i64 _) rfl) <| SR.q' (r_as (v := .int .i64 _) rfl) <| SR.nil ?_)
      refine W.ret ?_
      refine ret1 rfl (v := .int .i64 _) rfl ?_
      exact ⟨0, (tc + 1), (IntKind.u64.wrap ((IntKind.u64.wrap ((IntKind.u64.wrap (sc * 6364136223846793005)) + 0)) + 604171)), eR rfl, ((hb41).lo hk45), ⟨by omega, by omega⟩, (z_c___spec_l1Cur__next_49 Lc tc sc nc htc hbdc hlec h5 h48), hB47⟩
    · refine W.skip ?_
      refine W.seq ?_
      refine W.regS (SR.q' (r_mv (v := .pointer (some _)) rfl) <| SR.q' (r_nilp rfl) <| SR.q' (r_fa fa85_2 rfl) <| SR.q' (r_ld (v := .int .u64 (IntKind.u64.wrap ((IntKind.u64.wrap ((IntKind.u64.wrap (sc * 6364136223846793005)) + 0)) + 604171))) sca83 rfl (((hb41).lo hk45).cell rfl)) <| SR.q' (r_shr40 rfl rfl (by simp only [IntKind.wrap_u64]; omega)) <| SR.q' (r_and255 rfl rfl (by simp only [IntKind.wrap_u64]; omega)) <| SR.q' (r_convI und3 und83 rfl (by omega)) <| SR.q' (r_as (v := .int .i64 _) rfl) <| SR.nil ?_)
      refine W.ret ?_
      refine ret1 rfl (v := .int .i64 _) rfl ?_
      exact ⟨(((IntKind.u64.wrap ((IntKind.u64.wrap ((IntKind.u64.wrap (sc * 6364136223846793005)) + 0)) + 604171)) / 1099511627776) % 256), (tc + 1), (IntKind.u64.wrap ((IntKind.u64.wrap ((IntKind.u64.wrap (sc * 6364136223846793005)) + 0)) + 604171)), eR rfl, ((hb41).lo hk45), ⟨by omega, by omega⟩, (z_c___spec_l1Cur__next_50 Lc tc sc nc htc hbdc hlec h5 h48), hB47⟩

theorem z_c___spec_l1Cur__pick_2 (Lc : List UInt8) (tc : Int) (sc : Int) (nc : Nat) (htc : 0 ≤ tc ∧ tc + 2 ≤ 4611686018427387904) (hbdc : (nc : Int) ≤ 9223372036854775807) (hlec : nc = Lc.length) (n : Int) (hp0 : n ≤ 4611686018427387904) (h1 : n ≤ 1) : (0 : Int) ≤ 0 ∧ ((0 : Int) < n ∨ (0 : Int) = 0) := by
  first | omega | exact ⟨Int.emod_nonneg _ (by omega), .inl (Int.emod_lt_of_pos _ (by omega))⟩
theorem z_c___spec_l1Cur__pick_24 (Lc : List UInt8) (tc : Int) (sc : Int) (nc : Nat) (htc : 0 ≤ tc ∧ tc + 2 ≤ 4611686018427387904) (hbdc : (nc : Int) ≤ 9223372036854775807) (hlec : nc = Lc.length) (n : Int) (hp0 : n ≤ 4611686018427387904) (h1 : ¬ (n ≤ 1)) (v5 : Int) (t6 : Int) (s7 : Int) (ht9 : tc ≤ t6 ∧ t6 ≤ tc + 1) (hq10 : (0 : Int) ≤ v5 ∧ (v5 : Int) ≤ 255) (h13 : 200 < n) (v16 : Int) (t17 : Int) (s18 : Int) (ht20 : t6 ≤ t17 ∧ t17 ≤ t6 + 1) (hq21 : (0 : Int) ≤ v16 ∧ (v16 : Int) ≤ 255) : (0 : Int) ≤ (((v5 * 256) + v16) % n) ∧ (((((v5 * 256) + v16) % n) : Int) < n ∨ ((((v5 * 256) + v16) % n) : Int) = 0) := by
  first | omega | exact ⟨Int.emod_nonneg _ (by omega), .inl (Int.emod_lt_of_pos _ (by omega))⟩
theorem z_c___spec_l1Cur__pick_25 (Lc : List UInt8) (tc : Int) (sc : Int) (nc : Nat) (htc : 0 ≤ tc ∧ tc + 2 ≤ 4611686018427387904) (hbdc : (nc : Int) ≤ 9223372036854775807) (hlec : nc = Lc.length) (n : Int) (hp0 : n ≤ 4611686018427387904) (h1 : ¬ (n ≤ 1)) (v5 : Int) (t6 : Int) (s7 : Int) (ht9 : tc ≤ t6 ∧ t6 ≤ tc + 1) (hq10 : (0 : Int) ≤ v5 ∧ (v5 : Int) ≤ 255) (h13 : ¬ (200 < n)) : (0 : Int) ≤ (v5 % n) ∧ (((v5 % n) : Int) < n ∨ ((v5 % n) : Int) = 0) := by
  first | omega | exact ⟨Int.emod_nonneg _ (by omega), .inl (Int.emod_lt_of_pos _ (by omega))⟩
theorem c___spec_l1Cur__pick (w : World) {gc ec : Nat} {Ac : Option Addr} {nc cc Bc : Nat} (Lc : List UInt8) (tc sc : Int) (hc : Blk w gc ec [.slice Ac nc cc, .int .i64 tc, .int .u64 sc]) (hLc : SlR w Bc encB 1 Ac nc cc Lc) (hgc : Bc ≤ gc) (htc : 0 ≤ tc ∧ tc + 2 ≤ 4611686018427387904) (n : Int) (hp0 : n ≤ 4611686018427387904) : Calls Tryd.prog 95 #[.pointer (some ⟨gc, 0, none⟩), .int .i64 n] w fun e w' => ∃ (v : Int) (tc' sc' : Int), e = .returned (.int .i64 v) ∧ Blk w' gc ec [.slice Ac nc cc, .int .i64 tc', .int .u64 sc'] ∧ (tc ≤ tc' ∧ tc' ≤ tc + 2) ∧ ((0 : Int) ≤ v ∧ ((v : Int) < n ∨ (v : Int) = 0)) ∧ Kp (fun b_ => b_ = gc) w w' := by
  refine calls_W 20 Tryd.func95 rfl rfl rfl ?_
  have hBlc := hc.lt
  have hbdc := hLc.bound
  have hlec := hLc.len
  have hBbc := hLc.bd
  refine W.seq ?_
  refine W.regS (SR.q' (r_as (v := .int .i64 0) rfl) <| SR.nil ?_)
  refine W.seq ?_
  refine W.seq ?_
  refine W.regS (SR.q' (r_mv (v := .int .i64 _) rfl) <| SR.q' (r_le rfl rfl) <| SR.nil ?_)
  refine W.cond_d rfl (fun h1 => ?_) (fun h1 => ?_)
  · refine W.seq ?_
    refine W.regS (SR.q' (r_as (v := .int .i64 0) rfl) <| SR.nil ?_)
    refine W.ret ?_
    refine ret1 rfl (v := .int .i64 _) rfl ?_
    exact ⟨0, tc, sc, eR rfl, (hc), ⟨by omega, by omega⟩, (z_c___spec_l1Cur__pick_2 Lc tc sc nc htc hbdc hlec n hp0 h1), (Kp.refl w : Kp (fun b_ => b_ = gc) w w)⟩
  · refine W.skip ?_
    refine W.seq ?_
    refine W.regS (SR.q' (r_mv (v := .pointer (some _)) rfl) <| SR.call ent115 (c___spec_l1Cur__next w Lc tc sc (hc) ((hLc)) (by omega) (by omega)) rfl ?_)
    rintro e w3 ⟨v5, t6, s7, rfl, hb8, ht9, hq10, hk4⟩
    refine ⟨_, rfl, ?_⟩
    have hz11 := hk4.size
    have hB12 := (Kp.refl w : Kp (fun b_ => b_ = gc) w w).step hk4 (fun i_ hi_ e' => e')
    refine SR.q' (r_as (v := .int .i64 _) rfl) <| SR.nil ?_
    refine W.seq ?_
    refine W.seq ?_
    refine W.regS (SR.q' (r_mv (v := .int .i64 _) rfl) <| SR.q' (r_gt rfl rfl) <| SR.nil ?_)
    refine W.cond_d rfl (fun h13 => ?_) (fun h13 => ?_)
    · refine W.regS (SR.q' (r_mv (v := .int .i64 _) rfl) <| SR.q' (r_mul rfl rfl (by omega)) <| SR.q' (r_mv (v := .pointer (some _)) rfl) <| SR.call ent115 (c___spec_l1Cur__next w3 Lc t6 s7 (hb8) (((hLc).kp hk4 (fun b_ hb e' => by have e'' : b_ = gc := e'; omega))) (by omega) (by omega)) rfl ?_)
      rintro e w14 ⟨v16, t17, s18, rfl, hb19, ht20, hq21, hk15⟩
      refine ⟨_, rfl, ?_⟩
      have hz22 := hk15.size
      have hB23 := hB12.step hk15 (fun i_ hi_ e' => e')
      refine SR.q' (r_add rfl rfl (by omega)) <| SR.q' (r_as (v := .int .i64 _) rfl) <| SR.nil ?_
      refine W.seq ?_
      refine W.regS (SR.q' (r_mv (v := .int .i64 _) rfl) <| SR.q' (r_mv (v := .int .i64 _) rfl) <| SR.q' (r_rem rfl rfl (by omega)) <| SR.q' (r_as (v := .int .i64 _) rfl) <| SR.nil ?_)
      refine W.ret ?_
      refine ret1 rfl (v := .int .i64 _) rfl ?_
      exact ⟨(((v5 * 256) + v16) % n), t17, s18, eR rfl, (hb19), ⟨by omega, by omega⟩, (z_c___spec_l1Cur__pick_24 Lc tc sc nc htc hbdc hlec n hp0 h1 v5 t6 s7 ht9 hq10 h13 v16 t17 s18 ht20 hq21), hB23⟩
    · refine W.skip ?_
      refine W.seq ?_
      refine W.regS (SR.q' (r_mv (v := .int .i64 _) rfl) <| SR.q' (r_mv (v := .int .i64 _) rfl) <| SR.q' (r_rem rfl rfl (by omega)) <| SR.q' (r_as (v := .int .i64 _) rfl) <| SR.nil ?_)
      refine W.ret ?_
      refine ret1 rfl (v := .int .i64 _) rfl ?_
      exact ⟨(v5 % n), t6, s7, eR rfl, (hb8), ⟨by omega, by omega⟩, (z_c___spec_l1Cur__pick_25 Lc tc sc nc htc hbdc hlec n hp0 h1 v5 t6 s7 ht9 hq10 h13), hB12⟩

theorem z_c___spec_l1Cur__one_11 (Lc : List UInt8) (tc : Int) (sc : Int) (nc : Nat) (htc : 0 ≤ tc ∧ tc + 2 ≤ 4611686018427387904) (hbdc : (nc : Int) ≤ 9223372036854775807) (hlec : nc = Lc.length) (n : Int) (hp0 : n ≤ 4611686018427387904) (v3 : Int) (t4 : Int) (s5 : Int) (ht7 : tc ≤ t4 ∧ t4 ≤ tc + 2) (hq8 : (0 : Int) ≤ v3 ∧ ((v3 : Int) < n ∨ (v3 : Int) = 0)) : decide (v3 = 0) = decide (v3 = 0) := by
  first | rfl | omega | grind
theorem c___spec_l1Cur__one (w : World) {gc ec : Nat} {Ac : Option Addr} {nc cc Bc : Nat} (Lc : List UInt8) (tc sc : Int) (hc : Blk w gc ec [.slice Ac nc cc, .int .i64 tc, .int .u64 sc]) (hLc : SlR w Bc encB 1 Ac nc cc Lc) (hgc : Bc ≤ gc) (htc : 0 ≤ tc ∧ tc + 2 ≤ 4611686018427387904) (n : Int) (hp0 : n ≤ 4611686018427387904) : Calls Tryd.prog 118 #[.pointer (some ⟨gc, 0, none⟩), .int .i64 n] w fun e w' => ∃ (v : Bool) (tc' sc' : Int), e = .returned (.bool v) ∧ Blk w' gc ec [.slice Ac nc cc, .int .i64 tc', .int .u64 sc'] ∧ (tc ≤ tc' ∧ tc' ≤ tc + 2) ∧ Kp (fun b_ => b_ = gc) w w' := by
  refine calls_W 9 Tryd.func118 rfl rfl rfl ?_
  have hBlc := hc.lt
  have hbdc := hLc.bound
  have hlec := hLc.len
  have hBbc := hLc.bd
  refine W.seq ?_
  refine W.regS (SR.q' (r_as (v := .bool false) rfl) <| SR.nil ?_)
  refine W.seq ?_
  refine W.regS (SR.q' (r_mv (v := .pointer (some _)) rfl) <| SR.q' (r_mv (v := .int .i64 _) rfl) <| SR.call ent95 (c___spec_l1Cur__pick w Lc tc sc (hc) ((hLc)) (by omega) (by omega) n (by first | omega | (simp only [List.length_append, List.length_cons, List.length_nil, List.length_take, List.length_drop]; omega))) rfl ?_)
  rintro e w1 ⟨v3, t4, s5, rfl, hb6, ht7, hq8, hk2⟩
  refine ⟨_, rfl, ?_⟩
  have hz9 := hk2.size
  have hB10 := (Kp.refl w : Kp (fun b_ => b_ = gc) w w).step hk2 (fun i_ hi_ e' => e')
  refine SR.q' (r_eq rfl rfl) <| SR.q' (r_as (v := .bool _) rfl) <| SR.nil ?_
  refine W.ret ?_
  refine ret1 rfl (v := .bool _) rfl ?_
  exact ⟨(decide (v3 = 0)), t4, s5, eR (eB (z_c___spec_l1Cur__one_11 Lc tc sc nc htc hbdc hlec n hp0 v3 t4 s5 ht7 hq8)), (hb6), ⟨by omega, by omega⟩, hB10⟩

theorem z_c___spec_l1Cur__among_13 (Lc : List UInt8) (tc : Int) (sc : Int) (nc : Nat) (htc : 0 ≤ tc ∧ tc + 2 ≤ 4611686018427387904) (hbdc : (nc : Int) ≤ 9223372036854775807) (hlec : nc = Lc.length) (L : List Int) (nL : Nat) (hbdL : (nL : Int) ≤ 9223372036854775807) (hleL : nL = L.length) (hp0 : 0 < nL) (hp1 : (nL : Int) ≤ 1048576) (v3 : Int) (t4 : Int) (s5 : Int) (ht7 : tc ≤ t4 ∧ t4 ≤ tc + 2) (hq8 : (0 : Int) ≤ v3 ∧ ((v3 : Int) < (nL : Int) ∨ (v3 : Int) = 0)) (x11 : Int) (hx12 : L[v3.toNat]? = some x11) : x11 ∈ L := by
  exact List.mem_of_getElem? ‹L[_]? = some _›
theorem c___spec_l1Cur__among (w : World) {gc ec : Nat} {Ac : Option Addr} {nc cc Bc : Nat} (Lc : List UInt8) (tc sc : Int) (hc : Blk w gc ec [.slice Ac nc cc, .int .i64 tc, .int .u64 sc]) (hLc : SlR w Bc encB 1 Ac nc cc Lc) (hgc : Bc ≤ gc) (htc : 0 ≤ tc ∧ tc + 2 ≤ 4611686018427387904) {AL : Option Addr} {nL cL BL : Nat}  (L : List Int) (hL : SlR w BL encI 1 AL nL cL L) (hp0 : 0 < nL) (hp1 : (nL : Int) ≤ 1048576) (hp2 : ¬ (adr AL).block = gc) : Calls Tryd.prog 54 #[.pointer (some ⟨gc, 0, none⟩), .slice AL nL cL] w fun e w' => ∃ (v : Int) (tc' sc' : Int), e = .returned (.int .i64 v) ∧ Blk w' gc ec [.slice Ac nc cc, .int .i64 tc', .int .u64 sc'] ∧ (tc ≤ tc' ∧ tc' ≤ tc + 2) ∧ (v ∈ L) ∧ Kp (fun b_ => b_ = gc) w w' := by
  refine calls_W 12 Tryd.func54 rfl rfl rfl ?_
  have hBlc := hc.lt
  have hbdc := hLc.bound
  have hlec := hLc.len
  have hBbc := hLc.bd
  have hbdL := hL.bound
  have hleL := hL.len
  have hBbL := hL.bd
  refine W.seq ?_
  refine W.regS (SR.q' (r_as (v := .int .i64 0) rfl) <| SR.nil ?_)
  refine W.seq ?_
  refine W.regS (SR.q' (r_mv (v := .slice _ _ _) rfl) <| SR.q' (r_mv (v := .pointer (some _)) rfl) <| SR.q' (r_mv (v := .slice _ _ _) rfl) <| SR.q' (r_len und38 rfl) <| SR.call ent95 (c___spec_l1Cur__pick w Lc tc sc (hc) ((hLc)) (by omega) (by omega) (nL : Int) (by first | omega | (simp only [List.length_append, List.length_cons, List.length_nil, List.length_take, List.length_drop]; omega))) rfl ?_)
  rintro e w1 ⟨v3, t4, s5, rfl, hb6, ht7, hq8, hk2⟩
  refine ⟨_, rfl, ?_⟩
  have hz9 := hk2.size
  have hB10 := (Kp.refl w : Kp (fun b_ => b_ = gc) w w).step hk2 (fun i_ hi_ e' => e')
  obtain ⟨x11, hx12⟩ := ((hL).kpb hk2 (fun e' => hp2 e')).get (i := v3.toNat) (by omega)
  refine SR.q' (r_ixR tsl38 ((hL).kpb hk2 (fun e' => hp2 e')) rfl rfl (by omega)) <| SR.q' (r_ld (v := .int .i64 x11) sca3 rfl (((hL).kpb hk2 (fun e' => hp2 e')).cell0 hx12 rfl)) <| SR.q' (r_as (v := .int .i64 _) rfl) <| SR.nil ?_
  refine W.ret ?_
  refine ret1 rfl (v := .int .i64 _) rfl ?_
  exact ⟨x11, t4, s5, eR rfl, (hb6), ⟨by omega, by omega⟩, (z_c___spec_l1Cur__among_13 Lc tc sc nc htc hbdc hlec L nL hbdL hleL hp0 hp1 v3 t4 s5 ht7 hq8 x11 hx12), hB10⟩

theorem z_c_spec_NewScan_20 (n : Int) (h13 : ¬ (1 ≤ n ∧ n ≤ 8)) : ([] : List Int) = ((newJ n).1).Tiles := by
  first | (rw [newJ_yes (by omega)]; done) | (rw [newJ_no (by omega)]; done) | (rw [newJ_yes (by omega)]; rfl) | (rw [newJ_no (by omega)]; rfl)
theorem z_c_spec_NewScan_21 (n : Int) (h13 : ¬ (1 ≤ n ∧ n ≤ 8)) : 0 = ((newJ n).1).State := by
  first | (rw [newJ_yes (by omega)]; done) | (rw [newJ_no (by omega)]; done) | (rw [newJ_yes (by omega)]; rfl) | (rw [newJ_no (by omega)]; rfl)
theorem z_c_spec_NewScan_22 (n : Int) (h13 : ¬ (1 ≤ n ∧ n ≤ 8)) : 0 = ((newJ n).1).Next := by
  first | (rw [newJ_yes (by omega)]; done) | (rw [newJ_no (by omega)]; done) | (rw [newJ_yes (by omega)]; rfl) | (rw [newJ_no (by omega)]; rfl)
theorem z_c_spec_NewScan_23 (n : Int) (h13 : ¬ (1 ≤ n ∧ n ≤ 8)) : 0 = ((newJ n).1).Fails := by
  first | (rw [newJ_yes (by omega)]; done) | (rw [newJ_no (by omega)]; done) | (rw [newJ_yes (by omega)]; rfl) | (rw [newJ_no (by omega)]; rfl)
theorem z_c_spec_NewScan_24 (n : Int) (h13 : ¬ (1 ≤ n ∧ n ≤ 8)) : 0 = ((newJ n).1).Size := by
  first | (rw [newJ_yes (by omega)]; done) | (rw [newJ_no (by omega)]; done) | (rw [newJ_yes (by omega)]; rfl) | (rw [newJ_no (by omega)]; rfl)
theorem z_c_spec_NewScan_25 (n : Int) (h13 : ¬ (1 ≤ n ∧ n ≤ 8)) : false = (newJ n).2 := by
  first | (rw [newJ_yes (by omega)]; done) | (rw [newJ_no (by omega)]; done) | (rw [newJ_yes (by omega)]; rfl) | (rw [newJ_no (by omega)]; rfl)
theorem z_c_spec_NewScan_39 (n : Int) (h13 : 1 ≤ n ∧ n ≤ 8) : List.replicate n.toNat (0 : Int) = ((newJ n).1).Tiles := by
  first | (rw [newJ_yes (by omega)]; done) | (rw [newJ_no (by omega)]; done) | (rw [newJ_yes (by omega)]; rfl) | (rw [newJ_no (by omega)]; rfl)
theorem z_c_spec_NewScan_40 (n : Int) (h13 : 1 ≤ n ∧ n ≤ 8) : 0 = ((newJ n).1).State := by
  first | (rw [newJ_yes (by omega)]; done) | (rw [newJ_no (by omega)]; done) | (rw [newJ_yes (by omega)]; rfl) | (rw [newJ_no (by omega)]; rfl)
theorem z_c_spec_NewScan_41 (n : Int) (h13 : 1 ≤ n ∧ n ≤ 8) : 0 = ((newJ n).1).Next := by
  first | (rw [newJ_yes (by omega)]; done) | (rw [newJ_no (by omega)]; done) | (rw [newJ_yes (by omega)]; rfl) | (rw [newJ_no (by omega)]; rfl)
theorem z_c_spec_NewScan_42 (n : Int) (h13 : 1 ≤ n ∧ n ≤ 8) : 0 = ((newJ n).1).Fails := by
  first | (rw [newJ_yes (by omega)]; done) | (rw [newJ_no (by omega)]; done) | (rw [newJ_yes (by omega)]; rfl) | (rw [newJ_no (by omega)]; rfl)
theorem z_c_spec_NewScan_43 (n : Int) (h13 : 1 ≤ n ∧ n ≤ 8) : 0 = ((newJ n).1).Size := by
  first | (rw [newJ_yes (by omega)]; done) | (rw [newJ_no (by omega)]; done) | (rw [newJ_yes (by omega)]; rfl) | (rw [newJ_no (by omega)]; rfl)
theorem z_c_spec_NewScan_44 (n : Int) (h13 : 1 ≤ n ∧ n ≤ 8) : true = (newJ n).2 := by
  first | (rw [newJ_yes (by omega)]; done) | (rw [newJ_no (by omega)]; done) | (rw [newJ_yes (by omega)]; rfl) | (rw [newJ_no (by omega)]; rfl)
theorem c_spec_NewScan (w : World) (n : Int) : Calls Tryd.prog 122 #[.int .i64 n] w fun e w' => ∃ (A1' : Option Addr) (n1' c1' : Nat), e = .returned (.tuple (List.toArray [.agg (List.toArray [.int .i64 (((newJ n).1).State), .slice A1' n1' c1', .int .i64 (((newJ n).1).Next), .int .i64 (((newJ n).1).Fails), .int .i64 (((newJ n).1).Size)]), .bool ((newJ n).2)])) ∧ SlO w' w.heap.size encI 1 3 A1' n1' c1' (((newJ n).1).Tiles) ∧ Lo w w' := by
  refine calls_W 11 Tryd.func122 rfl rfl rfl ?_
  refine W.seq ?_
  refine W.regS (SR.alloc (l := [.int .i64 0, .slice none 0 0, .int .i64 0, .int .i64 0, .int .i64 0]) tz57 rfl ?_)
  intro g1 w2 hg3 hk4 hs5 hb6
  have hz7 := hk4.size
  have hB8 := (Lo.refl w).lo hk4
  refine SR.q' (r_as (v := .bool false) rfl) <| SR.nil ?_
  refine W.seq ?_
  refine W.seq ?_
  refine W.regS (SR.q' (r_mv (v := .int .i64 _) rfl) <| SR.call ent58 (c_spec_l1In w2 n 1 8) rfl ?_)
  rintro e w9 ⟨rfl, hk10⟩
  refine ⟨_, rfl, ?_⟩
  have hz11 := hk10.size
  have hB12 := hB8.lo hk10
  refine SR.q' (r_not rfl) <| SR.nil ?_
  refine W.cond_n rfl (fun h13 => ?_) (fun h13 => ?_)
  · refine W.seq ?_
    refine W.regS (SR.q' (r_build (vs := []) rfl (bld57_)) <| SR.store (o := 0) (vs := [.int .i64 0, .slice none 0 0, .int .i64 0, .int .i64 0, .int .i64 0]) agg57.2 rfl rfl rfl rfl ((hb6).lo hk10) (Nat.le_of_ble_eq_true rfl) rfl ?_)
    intro w14 hk15 hs16 hb17
    have hz18 := hk15.size
    have hB19 := hB12.new hk15 (by omega)
    refine SR.q' (r_as (v := .bool false) rfl) <| SR.nil ?_
    refine W.ret ?_
    refine retCT rfl rfl agg57 (hb17) rfl (v := .bool _) rfl ?_
    exact ⟨none, 0, 0, eR (eT2 (eA (eC (eI (z_c_spec_NewScan_21 n h13)) (eC rfl (eC (eI (z_c_spec_NewScan_22 n h13)) (eC (eI (z_c_spec_NewScan_23 n h13)) (eC (eI (z_c_spec_NewScan_24 n h13)) rfl)))))) (eB (z_c_spec_NewScan_25 n h13))), (SlO.eqv (SlO.nil (e := 3) (enc := encI) (fun _ => rfl) (by omega)) (z_c_spec_NewScan_20 n h13)), hB19⟩
  · refine W.skip ?_
    refine W.seq ?_
    refine W.regS (SR.q' (r_mv (v := .int .i64 _) rfl) <| SR.make (m := n.toNat) (zx := (0 : Int)) (enc := encI) tel38 rfl (fun _ => rfl) (show _ = Value.int .i64 (n.toNat : Int) from congrArg (Value.int .i64) (by omega : n = (n.toNat : Int))) (show _ = Value.int .i64 (n.toNat : Int) from congrArg (Value.int .i64) (by omega : n = (n.toNat : Int))) (by omega) (by omega) ?_)
    intro g26 w27 hg28 hk29 hO30
    have hz31 := hk29.size
    have hB32 := hB12.lo hk29
    refine SR.q' (r_build (vs := [(1, .slice (some (⟨g26, 0, none⟩ : Addr)) n.toNat n.toNat)]) rfl (bld57_1 _ _ _)) <| SR.store (o := 0) (vs := [.int .i64 0, .slice (some (⟨g26, 0, none⟩ : Addr)) n.toNat n.toNat, .int .i64 0, .int .i64 0, .int .i64 0]) agg57.2 rfl rfl rfl rfl (((hb6).lo hk10).lo hk29) (Nat.le_of_ble_eq_true rfl) rfl ?_
    intro w33 hk34 hs35 hb36
    have hz37 := hk34.size
    have hB38 := hB32.new hk34 (by omega)
    refine SR.q' (r_as (v := .bool true) rfl) <| SR.nil ?_
    refine W.ret ?_
    refine retCT rfl rfl agg57 (hb36) rfl (v := .bool _) rfl ?_
    exact ⟨(some (⟨g26, 0, none⟩ : Addr)), n.toNat, n.toNat, eR (eT2 (eA (eC (eI (z_c_spec_NewScan_40 n h13)) (eC rfl (eC (eI (z_c_spec_NewScan_41 n h13)) (eC (eI (z_c_spec_NewScan_42 n h13)) (eC (eI (z_c_spec_NewScan_43 n h13)) rfl)))))) (eB (z_c_spec_NewScan_44 n h13))), (SlO.eqv (((hO30).kp hk34 (fun b_ hb e' => by have e'' : b_ = g1 := e'; have := (hO30).base_le hb; omega)).down (by omega)) (z_c_spec_NewScan_39 n h13)), hB38⟩
end Go.Proofs.YtlpapeeaghmjpaaDoor
