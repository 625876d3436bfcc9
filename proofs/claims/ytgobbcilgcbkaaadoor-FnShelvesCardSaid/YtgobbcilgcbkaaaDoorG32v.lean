/- Walks, printed by a program of this claim's author. -/
import Derived.Test.YtgobbcilgcbkaaaDoorChecked
import Derived.Test.YtgobbcilgcbkaaaDoorUa
import Derived.Test.YtgobbcilgcbkaaaDoorFu
import Derived.Test.YtgobbcilgcbkaaaDoorFs
import Derived.Test.YtgobbcilgcbkaaaDoorFq
import Derived.Test.YtgobbcilgcbkaaaDoorFo
import Derived.Test.YtgobbcilgcbkaaaDoorDa
import Derived.Test.YtgobbcilgcbkaaaDoorUj
import Derived.Test.YtgobbcilgcbkaaaDoorG32m
namespace Go.Proofs.YtgobbcilgcbkaaaDoor
open Go Go.RowKit Fw
set_option maxRecDepth 10000
set_option maxHeartbeats 2000000
set_option linter.unusedVariables false
theorem bld48_0_2 (a0 : Int) (a2 : Int) : Tryd.prog.built 48 [(0, .int .i64 a0), (2, .int .i64 a2)] = some (List.toArray [.int .i64 a0, .int .i64 0, .int .i64 a2]) := by kernel_rfl
theorem bld66_0_1_2 (a0 : Int) (a1 : Int) (a2 : Int) : Tryd.prog.built 66 [(0, .int .i64 a0), (1, .int .i64 a1), (2, .int .i64 a2)] = some (List.toArray [.int .i64 a0, .int .i64 a1, .int .i64 a2, .int .i64 0]) := by kernel_rfl
theorem bld66_0_1_2_3 (a0 : Int) (a1 : Int) (a2 : Int) (a3 : Int) : Tryd.prog.built 66 [(0, .int .i64 a0), (1, .int .i64 a1), (2, .int .i64 a2), (3, .int .i64 a3)] = some (List.toArray [.int .i64 a0, .int .i64 a1, .int .i64 a2, .int .i64 a3]) := by kernel_rfl
theorem bld66_0_1_3 (a0 : Int) (a1 : Int) (a3 : Int) : Tryd.prog.built 66 [(0, .int .i64 a0), (1, .int .i64 a1), (3, .int .i64 a3)] = some (List.toArray [.int .i64 a0, .int .i64 a1, .int .i64 0, .int .i64 a3]) := by kernel_rfl
theorem ent24 : Ent Tryd.prog 24 := ent_of Tryd.func24 (by decide +kernel) rfl
theorem ent25 : Ent Tryd.prog 25 := ent_of Tryd.func25 (by decide +kernel) rfl
theorem ent26 : Ent Tryd.prog 26 := ent_of Tryd.func26 (by decide +kernel) rfl
theorem ent42 : Ent Tryd.prog 42 := ent_of Tryd.func42 (by decide +kernel) rfl
theorem ent57 : Ent Tryd.prog 57 := ent_of Tryd.func57 (by decide +kernel) rfl
theorem fa44_0 : FA Tryd.prog 44 0 0 := fun _ _ => by kernel_rfl
theorem fa44_1 : FA Tryd.prog 44 1 1 := fun _ _ => by kernel_rfl
theorem fa44_2 : FA Tryd.prog 44 2 2 := fun _ _ => by kernel_rfl
theorem sca22 : TSca Tryd.prog 22 := ⟨fun _ => by kernel_rfl, fun _ => by kernel_rfl⟩
theorem sca42 : TSca Tryd.prog 42 := ⟨fun _ => by kernel_rfl, fun _ => by kernel_rfl⟩
theorem sca5 : TSca Tryd.prog 5 := ⟨fun _ => by kernel_rfl, fun _ => by kernel_rfl⟩
theorem tsl22 : TSl Tryd.prog 22 5 1 := ⟨by kernel_rfl, fun _ => by kernel_rfl⟩
theorem tz66 : TZ Tryd.prog 66 (.agg (List.toArray [.int .i64 0, .int .i64 0, .int .i64 0, .int .i64 0])) := fun _ => by kernel_rfl
theorem und22 : Tryd.prog.underlying 22 = some (.slice 5) := by kernel_rfl
theorem und42 : Tryd.prog.underlying 42 = some (.int .u64) := by kernel_rfl
theorem und5 : Tryd.prog.underlying 5 = some (.int .u8) := by kernel_rfl

theorem c___spec_l1Cur__next (w : World) {gc ec : Nat} {Ac : Option Addr} {nc cc Bc : Nat} (Lc : List UInt8) (tc sc : Int) (hc : Blk w gc ec [.slice Ac nc cc, .int .i64 tc, .int .u64 sc]) (hLc : SlR w Bc encB 1 Ac nc cc Lc) (hgc : Bc ≤ gc) (htc : 0 ≤ tc ∧ tc + 1 ≤ 4611686018427387904) : Calls Tryd.prog 42 #[.pointer (some ⟨gc, 0, none⟩)] w fun e w' => ∃ (v : Int) (tc' sc' : Int), e = .returned (.int .i64 v) ∧ Blk w' gc ec [.slice Ac nc cc, .int .i64 tc', .int .u64 sc'] ∧ (tc ≤ tc' ∧ tc' ≤ tc + 1) ∧ ((0 : Int) ≤ v ∧ (v : Int) ≤ 255) ∧ Kp (fun b_ => b_ = gc) w w' := by
  refine calls_W 62 Tryd.func42 rfl rfl rfl ?_
  have hBlc := hc.lt
  have hbdc := hLc.bound
  have hlec := hLc.len
  have hBbc := hLc.bd
  refine W.seq ?_
  refine W.regS (SR.q' (r_as (v := .int .i64 0) rfl) <| SR.nil ?_)
  refine W.seq ?_
  refine W.regS (SR.q' (r_as (v := .int .i64 0) rfl) <| SR.nil ?_)
  refine W.seq ?_
  refine W.seq ?_
  refine W.regD mo (by kernel_rfl) (QR.q' (fun w' hw' => r_mv (v := .pointer (some _)) rfl) <| QR.q' (fun w' hw' => r_nilp rfl) <| QR.q' (fun w' hw' => r_fa fa44_1 rfl) <| QR.q' (fun w' hw' => r_ld (v := .int .i64 tc) sca3 rfl (((hc).lo hw').cell rfl)) <| QR.q' (fun w' hw' => r_mv (v := .pointer (some _)) rfl) <| QR.q' (fun w' hw' => r_nilp rfl) <| QR.q' (fun w' hw' => r_fa fa44_0 rfl) <| QR.q' (fun w' hw' => r_ld (v := .slice Ac nc cc) sca22 rfl (((hc).lo hw').cell rfl)) <| QR.q' (fun w' hw' => r_len und22 rfl) <| QR.q' (fun w' hw' => r_lt rfl rfl) <| QR.nil ?_)
  intro w1 hk2
  have hz3 := hk2.size
  have hB4 := (Kp.refl w : Kp (fun b_ => b_ = gc) w w).lo hk2
  refine W.cond_d rfl (fun h5 => ?_) (fun h5 => ?_)
  · refine W.regD mo (by kernel_rfl) (QR.q' (fun w' hw' => r_mv (v := .pointer (some _)) rfl) <| QR.q' (fun w' hw' => r_nilp rfl) <| QR.q' (fun w' hw' => r_fa fa44_0 rfl) <| QR.q' (fun w' hw' => r_ld (v := .slice Ac nc cc) sca22 rfl ((((hc).lo hk2).lo hw').cell rfl)) <| QR.q' (fun w' hw' => r_mv (v := .pointer (some _)) rfl) <| QR.q' (fun w' hw' => r_nilp rfl) <| QR.q' (fun w' hw' => r_fa fa44_1 rfl) <| QR.q' (fun w' hw' => r_ld (v := .int .i64 tc) sca3 rfl ((((hc).lo hk2).lo hw').cell rfl)) <| ?_)
    have hx7 := ((hLc).lo hk2).elem (i := tc.toNat) (by omega)
    have hq8 := u8_le (gt Lc tc.toNat)
    refine QR.q' (fun w' hw' => r_ixR tsl22 ((((hLc).lo hk2).lo hw')) rfl rfl (by omega)) <| QR.q' (fun w' hw' => r_ld (v := .int .u8 ((gt Lc tc.toNat).toNat : Int)) sca5 rfl (((((hLc).lo hk2).lo hw')).cell0 hx7 rfl)) <| QR.q' (fun w' hw' => r_convI und3 und5 rfl (by omega)) <| QR.q' (fun w' hw' => r_as (v := .int .i64 _) rfl) <| QR.nil ?_
    intro w9 hk10
    have hz11 := hk10.size
    have hB12 := hB4.lo hk10
    refine W.seq ?_
    have hm13 := ((hc).lo hk2).lo hk10
    refine W.regS (SR.q' (r_mv (v := .pointer (some _)) rfl) <| SR.q' (r_nilp rfl) <| SR.q' (r_fa fa44_1 rfl) <| SR.q' (r_ld (v := .int .i64 tc) sca3 rfl ((hm13).cell rfl)) <| SR.q' (r_add rfl rfl (by omega)) <| SR.q' (r_nilp rfl) <| SR.q' (r_fa fa44_1 rfl) <| SR.store (o := 1) (vs := [.int .i64 (tc + 1)]) sca3.2 rfl rfl rfl rfl (hm13) (Nat.le_of_ble_eq_true rfl) rfl ?_)
    intro w15 hk16 hs17 hb18
    have hz19 := hk16.size
    have hB20 := hB12.step hk16 (fun i_ hi_ e' => e')
    refine SR.nil ?_
    refine W.seq ?_
    refine W.regS (SR.q' (r_mv (v := .pointer (some _)) rfl) <| SR.q' (r_mv (v := .pointer (some _)) rfl) <| SR.q' (r_nilp rfl) <| SR.q' (r_fa fa44_2 rfl) <| SR.q' (r_ld (v := .int .u64 sc) sca42 rfl ((hb18).cell rfl)) <| SR.q' (r_mulW rfl rfl) <| SR.q' (r_mv (v := .int .i64 _) rfl) <| SR.q' (r_convU und42 und3 rfl (by omega)) <| SR.q' (r_addW rfl rfl) <| SR.q' (r_addW rfl rfl) <| SR.q' (r_nilp rfl) <| SR.q' (r_fa fa44_2 rfl) <| SR.store (o := 2) (vs := [.int .u64 (IntKind.u64.wrap ((IntKind.u64.wrap ((IntKind.u64.wrap (sc * 6364136223846793005)) + ((gt Lc tc.toNat).toNat : Int))) + 604171))]) sca42.2 rfl rfl rfl rfl (hb18) (Nat.le_of_ble_eq_true rfl) rfl ?_)
    intro w21 hk22 hs23 hb24
    have hz25 := hk22.size
    have hB26 := hB20.step hk22 (fun i_ hi_ e' => e')
    refine SR.nil ?_
    refine W.seq ?_
    refine W.seq ?_
    refine W.regD mo (by kernel_rfl) (QR.q' (fun w' hw' => r_mv (v := .pointer (some _)) rfl) <| QR.q' (fun w' hw' => r_nilp rfl) <| QR.q' (fun w' hw' => r_fa fa44_1 rfl) <| QR.q' (fun w' hw' => r_ld (v := .int .i64 (tc + 1)) sca3 rfl (((hb24).lo hw').cell rfl)) <| QR.q' (fun w' hw' => r_mv (v := .pointer (some _)) rfl) <| QR.q' (fun w' hw' => r_nilp rfl) <| QR.q' (fun w' hw' => r_fa fa44_0 rfl) <| QR.q' (fun w' hw' => r_ld (v := .slice Ac nc cc) sca22 rfl (((hb24).lo hw').cell rfl)) <| QR.q' (fun w' hw' => r_len und22 rfl) <| QR.q' (fun w' hw' => r_le rfl rfl) <| QR.nil ?_)
    intro w28 hk29
    have hz30 := hk29.size
    have hB31 := hB26.lo hk29
    refine W.cond_d rfl (fun h32 => ?_) (fun h32 => ?_)
    · refine W.seq ?_
      refine W.regS (SR.q' (r_mv (v := .int .i64 _) rfl) <| SR.q' (r_as (v := .int .i64 _) rfl) <| SR.nil ?_)
      refine W.ret ?_
      refine ret1 rfl (v := .int .i64 _) rfl ?_
      exact ⟨((gt Lc tc.toNat).toNat : Int), (tc + 1), (IntKind.u64.wrap ((IntKind.u64.wrap ((IntKind.u64.wrap (sc * 6364136223846793005)) + ((gt Lc tc.toNat).toNat : Int))) + 604171)), eR rfl, ((hb24).lo hk29), ⟨by omega, by omega⟩, (by omega), hB31⟩
    · refine W.skip ?_
      refine W.seq ?_
      refine W.regS (SR.q' (r_mv (v := .pointer (some _)) rfl) <| SR.q' (r_nilp rfl) <| SR.q' (r_fa fa44_2 rfl) <| SR.q' (r_ld (v := .int .u64 (IntKind.u64.wrap ((IntKind.u64.wrap ((IntKind.u64.wrap (sc * 6364136223846793005)) + ((gt Lc tc.toNat).toNat : Int))) + 604171))) sca42 rfl (((hb24).lo hk29).cell rfl)) <| SR.q' (r_shr40 rfl rfl (by simp only [IntKind.wrap_u64]; omega)) <| SR.q' (r_and255 rfl rfl (by simp only [IntKind.wrap_u64]; omega)) <| SR.q' (r_convI und3 und42 rfl (by omega)) <| SR.q' (r_as (v := .int .i64 _) rfl) <| SR.nil ?_)
      refine W.ret ?_
      refine ret1 rfl (v := .int .i64 _) rfl ?_
      exact ⟨(((IntKind.u64.wrap ((IntKind.u64.wrap ((IntKind.u64.wrap (sc * 6364136223846793005)) + ((gt Lc tc.toNat).toNat : Int))) + 604171)) / 1099511627776) % 256), (tc + 1), (IntKind.u64.wrap ((IntKind.u64.wrap ((IntKind.u64.wrap (sc * 6364136223846793005)) + ((gt Lc tc.toNat).toNat : Int))) + 604171)), eR rfl, ((hb24).lo hk29), ⟨by omega, by omega⟩, (by omega), hB31⟩
  · refine W.skip ?_
    refine W.seq ?_
    refine W.regS (SR.q' (r_mv (v := .pointer (some _)) rfl) <| SR.q' (r_nilp rfl) <| SR.q' (r_fa fa44_1 rfl) <| SR.q' (r_ld (v := .int .i64 tc) sca3 rfl (((hc).lo hk2).cell rfl)) <| SR.q' (r_add rfl rfl (by omega)) <| SR.q' (r_nilp rfl) <| SR.q' (r_fa fa44_1 rfl) <| SR.store (o := 1) (vs := [.int .i64 (tc + 1)]) sca3.2 rfl rfl rfl rfl ((hc).lo hk2) (Nat.le_of_ble_eq_true rfl) rfl ?_)
    intro w33 hk34 hs35 hb36
    have hz37 := hk34.size
    have hB38 := hB4.step hk34 (fun i_ hi_ e' => e')
    refine SR.nil ?_
    refine W.seq ?_
    refine W.regS (SR.q' (r_mv (v := .pointer (some _)) rfl) <| SR.q' (r_mv (v := .pointer (some _)) rfl) <| SR.q' (r_nilp rfl) <| SR.q' (r_fa fa44_2 rfl) <| SR.q' (r_ld (v := .int .u64 sc) sca42 rfl ((hb36).cell rfl)) <| SR.q' (r_mulW rfl rfl) <| SR.q' (r_mv (v := .int .i64 _) rfl) <| SR.q' (r_convU und42 und3 rfl (by omega)) <| SR.q' (r_addW rfl rfl) <| SR.q' (r_addW rfl rfl) <| SR.q' (r_nilp rfl) <| SR.q' (r_fa fa44_2 rfl) <| SR.store (o := 2) (vs := [.int .u64 (IntKind.u64.wrap ((IntKind.u64.wrap ((IntKind.u64.wrap (sc * 6364136223846793005)) + 0)) + 604171))]) sca42.2 rfl rfl rfl rfl (hb36) (Nat.le_of_ble_eq_true rfl) rfl ?_)
    intro w40 hk41 hs42 hb43
    have hz44 := hk41.size
    have hB45 := hB38.step hk41 (fun i_ hi_ e' => e')
    refine SR.nil ?_
    refine W.seq ?_
    refine W.seq ?_
    refine W.regD mo (by kernel_rfl) (QR.q' (fun w' hw' => r_mv (v := .pointer (some _)) rfl) <| QR.q' (fun w' hw' => r_nilp rfl) <| QR.q' (fun w' hw' => r_fa fa44_1 rfl) <| QR.q' (fun w' hw' => r_ld (v := .int .i64 (tc + 1)) sca3 rfl (((hb43).lo hw').cell rfl)) <| QR.q' (fun w' hw' => r_mv (v := .pointer (some _)) rfl) <| QR.q' (fun w' hw' => r_nilp rfl) <| QR.q' (fun w' hw' => r_fa fa44_0 rfl) <| QR.q' (fun w' hw' => r_ld (v := .slice Ac nc cc) sca22 rfl (((hb43).lo hw').cell rfl)) <| QR.q' (fun w' hw' => r_len und22 rfl) <| QR.q' (fun w' hw' => r_le rfl rfl) <| QR.nil ?_)
    intro w46 hk47
    have hz48 := hk47.size
    have hB49 := hB45.lo hk47
    refine W.cond_d rfl (fun h50 => ?_) (fun h50 => ?_)
    · refine W.seq ?_
      refine W.regS (SR.q' (r_mv (v := .int .i64 _) rfl) <| SR.q' (r_as (v := .int .i64 _) rfl) <| SR.nil ?_)
      refine W.ret ?_
      refine ret1 rfl (v := .int .i64 _) rfl ?_
      exact ⟨0, (tc + 1), (IntKind.u64.wrap ((IntKind.u64.wrap ((IntKind.u64.wrap (sc * 6364136223846793005)) + 0)) + 604171)), eR rfl, ((hb43).lo hk47), ⟨by omega, by omega⟩, (by omega), hB49⟩
    · refine W.skip ?_
      refine W.seq ?_
      refine W.regS (SR.q' (r_mv (v := .pointer (some _)) rfl) <| SR.q' (r_nilp rfl) <| SR.q' (r_fa fa44_2 rfl) <| SR.q' (r_ld (v := .int .u64 (IntKind.u64.wrap ((IntKind.u64.wrap ((IntKind.u64.wrap (sc * 6364136223846793005)) + 0)) + 604171))) sca42 rfl (((hb43).lo hk47).cell rfl)) <| SR.q' (r_shr40 rfl rfl (by simp only [IntKind.wrap_u64]; omega)) <| SR.q' (r_and255 rfl rfl (by simp only [IntKind.wrap_u64]; omega)) <| SR.q' (r_convI und3 und42 rfl (by omega)) <| SR.q' (r_as (v := .int .i64 _) rfl) <| SR.nil ?_)
      refine W.ret ?_
      refine ret1 rfl (v := .int .i64 _) rfl ?_
      exact ⟨(((IntKind.u64.wrap ((IntKind.u64.wrap ((IntKind.u64.wrap (sc * 6364136223846793005)) + 0)) + 604171)) / 1099511627776) % 256), (tc + 1), (IntKind.u64.wrap ((IntKind.u64.wrap ((IntKind.u64.wrap (sc * 6364136223846793005)) + 0)) + 604171)), eR rfl, ((hb43).lo hk47), ⟨by omega, by omega⟩, (by omega), hB49⟩

theorem c___spec_l1Cur__pick (w : World) {gc ec : Nat} {Ac : Option Addr} {nc cc Bc : Nat} (Lc : List UInt8) (tc sc : Int) (hc : Blk w gc ec [.slice Ac nc cc, .int .i64 tc, .int .u64 sc]) (hLc : SlR w Bc encB 1 Ac nc cc Lc) (hgc : Bc ≤ gc) (htc : 0 ≤ tc ∧ tc + 2 ≤ 4611686018427387904) (n : Int) (hp0 : n ≤ 4611686018427387904) : Calls Tryd.prog 25 #[.pointer (some ⟨gc, 0, none⟩), .int .i64 n] w fun e w' => ∃ (v : Int) (tc' sc' : Int), e = .returned (.int .i64 v) ∧ Blk w' gc ec [.slice Ac nc cc, .int .i64 tc', .int .u64 sc'] ∧ (tc ≤ tc' ∧ tc' ≤ tc + 2) ∧ ((0 : Int) ≤ v ∧ ((v : Int) < n ∨ (v : Int) = 0)) ∧ Kp (fun b_ => b_ = gc) w w' := by
  refine calls_W 20 Tryd.func25 rfl rfl rfl ?_
  have hBlc := hc.lt
  have hbdc := hLc.bound
  have hlec := hLc.len
  have hBbc := hLc.bd
  refine W.seq ?_
  refine W.regS (SR.q' (r_as (v := .int .i64 0) rfl) <| SR.nil ?_)
  refine W.seq ?_
  refine W.seq ?_
  refine W.regS (SR.q' (r_mv (v := .int .i64 _) rfl) <| SR.q' (r_le rfl rfl) <| SR.nil ?_)
  refine W.cond_d rfl (fun h1 => ?_) (fun h1 => ?_)
  · refine W.seq ?_
    refine W.regS (SR.q' (r_as (v := .int .i64 0) rfl) <| SR.nil ?_)
    refine W.ret ?_
    refine ret1 rfl (v := .int .i64 _) rfl ?_
    exact ⟨0, tc, sc, eR rfl, (hc), ⟨by omega, by omega⟩, (by first | omega | exact ⟨Int.emod_nonneg _ (by omega), .inl (Int.emod_lt_of_pos _ (by omega))⟩), (Kp.refl w : Kp (fun b_ => b_ = gc) w w)⟩
  · refine W.skip ?_
    refine W.seq ?_
    refine W.regS (SR.q' (r_mv (v := .pointer (some _)) rfl) <| SR.call ent42 (c___spec_l1Cur__next w Lc tc sc (hc) ((hLc)) (by omega) (by omega)) rfl ?_)
    rintro e w2 ⟨v4, t5, s6, rfl, hb7, ht8, hq9, hk3⟩
    refine ⟨_, rfl, ?_⟩
    have hz10 := hk3.size
    have hB11 := (Kp.refl w : Kp (fun b_ => b_ = gc) w w).step hk3 (fun i_ hi_ e' => e')
    refine SR.q' (r_as (v := .int .i64 _) rfl) <| SR.nil ?_
    refine W.seq ?_
    refine W.seq ?_
    refine W.regS (SR.q' (r_mv (v := .int .i64 _) rfl) <| SR.q' (r_gt rfl rfl) <| SR.nil ?_)
    refine W.cond_d rfl (fun h12 => ?_) (fun h12 => ?_)
    · refine W.regS (SR.q' (r_mv (v := .int .i64 _) rfl) <| SR.q' (r_mul rfl rfl (by omega)) <| SR.q' (r_mv (v := .pointer (some _)) rfl) <| SR.call ent42 (c___spec_l1Cur__next w2 Lc t5 s6 (hb7) (((hLc).kn hk3 (by omega))) (by omega) (by omega)) rfl ?_)
      rintro e w13 ⟨v15, t16, s17, rfl, hb18, ht19, hq20, hk14⟩
      refine ⟨_, rfl, ?_⟩
      have hz21 := hk14.size
      have hB22 := hB11.step hk14 (fun i_ hi_ e' => e')
      refine SR.q' (r_add rfl rfl (by omega)) <| SR.q' (r_as (v := .int .i64 _) rfl) <| SR.nil ?_
      refine W.seq ?_
      refine W.regS (SR.q' (r_mv (v := .int .i64 _) rfl) <| SR.q' (r_mv (v := .int .i64 _) rfl) <| SR.q' (r_rem rfl rfl (by omega)) <| SR.q' (r_as (v := .int .i64 _) rfl) <| SR.nil ?_)
      refine W.ret ?_
      refine ret1 rfl (v := .int .i64 _) rfl ?_
      exact ⟨(((v4 * 256) + v15) % n), t16, s17, eR rfl, (hb18), ⟨by omega, by omega⟩, (by first | omega | exact ⟨Int.emod_nonneg _ (by omega), .inl (Int.emod_lt_of_pos _ (by omega))⟩), hB22⟩
    · refine W.skip ?_
      refine W.seq ?_
      refine W.regS (SR.q' (r_mv (v := .int .i64 _) rfl) <| SR.q' (r_mv (v := .int .i64 _) rfl) <| SR.q' (r_rem rfl rfl (by omega)) <| SR.q' (r_as (v := .int .i64 _) rfl) <| SR.nil ?_)
      refine W.ret ?_
      refine ret1 rfl (v := .int .i64 _) rfl ?_
      exact ⟨(v4 % n), t5, s6, eR rfl, (hb7), ⟨by omega, by omega⟩, (by first | omega | exact ⟨Int.emod_nonneg _ (by omega), .inl (Int.emod_lt_of_pos _ (by omega))⟩), hB11⟩

theorem c___spec_l1Cur__one (w : World) {gc ec : Nat} {Ac : Option Addr} {nc cc Bc : Nat} (Lc : List UInt8) (tc sc : Int) (hc : Blk w gc ec [.slice Ac nc cc, .int .i64 tc, .int .u64 sc]) (hLc : SlR w Bc encB 1 Ac nc cc Lc) (hgc : Bc ≤ gc) (htc : 0 ≤ tc ∧ tc + 2 ≤ 4611686018427387904) (n : Int) (hp0 : n ≤ 4611686018427387904) : Calls Tryd.prog 24 #[.pointer (some ⟨gc, 0, none⟩), .int .i64 n] w fun e w' => ∃ (v : Bool) (tc' sc' : Int), e = .returned (.bool v) ∧ Blk w' gc ec [.slice Ac nc cc, .int .i64 tc', .int .u64 sc'] ∧ (tc ≤ tc' ∧ tc' ≤ tc + 2) ∧ Kp (fun b_ => b_ = gc) w w' := by
  refine calls_W 9 Tryd.func24 rfl rfl rfl ?_
  have hBlc := hc.lt
  have hbdc := hLc.bound
  have hlec := hLc.len
  have hBbc := hLc.bd
  refine W.seq ?_
  refine W.regS (SR.q' (r_as (v := .bool false) rfl) <| SR.nil ?_)
  refine W.seq ?_
  refine W.regS (SR.q' (r_mv (v := .pointer (some _)) rfl) <| SR.q' (r_mv (v := .int .i64 _) rfl) <| SR.call ent25 (c___spec_l1Cur__pick w Lc tc sc (hc) ((hLc)) (by omega) (by omega) n (by first | omega | (simp only [List.length_append, List.length_cons, List.length_nil, List.length_take, List.length_drop]; omega))) rfl ?_)
  rintro e w1 ⟨v3, t4, s5, rfl, hb6, ht7, hq8, hk2⟩
  refine ⟨_, rfl, ?_⟩
  have hz9 := hk2.size
  have hB10 := (Kp.refl w : Kp (fun b_ => b_ = gc) w w).step hk2 (fun i_ hi_ e' => e')
  refine SR.q' (r_eq rfl rfl) <| SR.q' (r_as (v := .bool _) rfl) <| SR.nil ?_
  refine W.ret ?_
  refine ret1 rfl (v := .bool _) rfl ?_
  exact ⟨(decide (v3 = 0)), t4, s5, eR (eB (by first | rfl | omega | grind)), (hb6), ⟨by omega, by omega⟩, hB10⟩

theorem c___spec_l1Cur__among (w : World) {gc ec : Nat} {Ac : Option Addr} {nc cc Bc : Nat} (Lc : List UInt8) (tc sc : Int) (hc : Blk w gc ec [.slice Ac nc cc, .int .i64 tc, .int .u64 sc]) (hLc : SlR w Bc encB 1 Ac nc cc Lc) (hgc : Bc ≤ gc) (htc : 0 ≤ tc ∧ tc + 2 ≤ 4611686018427387904) {AL : Option Addr} {nL cL BL : Nat}  (L : List Int) (hL : SlR w BL encI 1 AL nL cL L) (hp0 : 0 < nL) (hp1 : (nL : Int) ≤ 1048576) (hp2 : ¬ (adr AL).block = gc) : Calls Tryd.prog 26 #[.pointer (some ⟨gc, 0, none⟩), .slice AL nL cL] w fun e w' => ∃ (v : Int) (tc' sc' : Int), e = .returned (.int .i64 v) ∧ Blk w' gc ec [.slice Ac nc cc, .int .i64 tc', .int .u64 sc'] ∧ (tc ≤ tc' ∧ tc' ≤ tc + 2) ∧ (v ∈ L) ∧ Kp (fun b_ => b_ = gc) w w' := by
  refine calls_W 12 Tryd.func26 rfl rfl rfl ?_
  have hBlc := hc.lt
  have hbdc := hLc.bound
  have hlec := hLc.len
  have hBbc := hLc.bd
  have hbdL := hL.bound
  have hleL := hL.len
  have hBbL := hL.bd
  refine W.seq ?_
  refine W.regS (SR.q' (r_as (v := .int .i64 0) rfl) <| SR.nil ?_)
  refine W.seq ?_
  refine W.regS (SR.q' (r_mv (v := .slice _ _ _) rfl) <| SR.q' (r_mv (v := .pointer (some _)) rfl) <| SR.q' (r_mv (v := .slice _ _ _) rfl) <| SR.q' (r_len und30 rfl) <| SR.call ent25 (c___spec_l1Cur__pick w Lc tc sc (hc) ((hLc)) (by omega) (by omega) (nL : Int) (by first | omega | (simp only [List.length_append, List.length_cons, List.length_nil, List.length_take, List.length_drop]; omega))) rfl ?_)
  rintro e w1 ⟨v3, t4, s5, rfl, hb6, ht7, hq8, hk2⟩
  refine ⟨_, rfl, ?_⟩
  have hz9 := hk2.size
  have hB10 := (Kp.refl w : Kp (fun b_ => b_ = gc) w w).step hk2 (fun i_ hi_ e' => e')
  obtain ⟨x11, hx12⟩ := ((hL).kpb hk2 (fun hn_ e' => hp2 e')).get (i := v3.toNat) (by omega)
  refine SR.q' (r_ixR tsl30 ((hL).kpb hk2 (fun hn_ e' => hp2 e')) rfl rfl (by omega)) <| SR.q' (r_ld (v := .int .i64 x11) sca3 rfl (((hL).kpb hk2 (fun hn_ e' => hp2 e')).cell0 hx12 rfl)) <| SR.q' (r_as (v := .int .i64 _) rfl) <| SR.nil ?_
  refine W.ret ?_
  refine ret1 rfl (v := .int .i64 _) rfl ?_
  exact ⟨x11, t4, s5, eR rfl, (hb6), ⟨by omega, by omega⟩, (by exact List.mem_of_getElem? ‹L[_]? = some _›), hB10⟩

theorem c_spec_l1Most (w : World) (a : Int) (b : Int) : Calls Tryd.prog 57 #[.int .i64 a, .int .i64 b] w fun e w' => e = .returned (.int .i64 (max a b)) ∧ Lo w w' := by
  refine calls_W 10 Tryd.func57 rfl rfl rfl ?_
  refine W.seq ?_
  refine W.regS (SR.q' (r_as (v := .int .i64 0) rfl) <| SR.nil ?_)
  refine W.seq ?_
  refine W.seq ?_
  refine W.regS (SR.q' (r_mv (v := .int .i64 _) rfl) <| SR.q' (r_mv (v := .int .i64 _) rfl) <| SR.q' (r_gt rfl rfl) <| SR.nil ?_)
  refine W.cond_d rfl (fun h1 => ?_) (fun h1 => ?_)
  · refine W.seq ?_
    refine W.regS (SR.q' (r_mv (v := .int .i64 _) rfl) <| SR.q' (r_as (v := .int .i64 _) rfl) <| SR.nil ?_)
    refine W.ret ?_
    refine ret1 rfl (v := .int .i64 _) rfl ?_
    exact ⟨eR (eI (by omega)), (Lo.refl w)⟩
  · refine W.skip ?_
    refine W.seq ?_
    refine W.regS (SR.q' (r_mv (v := .int .i64 _) rfl) <| SR.q' (r_as (v := .int .i64 _) rfl) <| SR.nil ?_)
    refine W.ret ?_
    refine ret1 rfl (v := .int .i64 _) rfl ?_
    exact ⟨eR (eI (by omega)), (Lo.refl w)⟩

theorem c___spec_l1Cur__libraryStep (w : World) {gc ec : Nat} {Ac : Option Addr} {nc cc Bc : Nat} (Lc : List UInt8) (tc sc : Int) (hc : Blk w gc ec [.slice Ac nc cc, .int .i64 tc, .int .u64 sc]) (hLc : SlR w Bc encB 1 Ac nc cc Lc) (hgc : Bc ≤ gc) (htc : 0 ≤ tc ∧ tc + 20 ≤ 4611686018427387904) (x : Library) {Ax_Maps : Option Addr} {nx_Maps cx_Maps Bx_Maps : Nat} (hx_Maps : SlR w Bx_Maps encLMap 3 Ax_Maps nx_Maps cx_Maps x.Maps) {Ax_Away : Option Addr} {nx_Away cx_Away Bx_Away : Nat} (hx_Away : SlR w Bx_Away encAway 2 Ax_Away nx_Away cx_Away x.Away) (hp0 : nx_Maps ≤ 9 ∧ nx_Away ≤ 9) (hp1 : MapB x.Maps) (hp2 : 0 < nx_Maps → ¬ (adr Ax_Maps).block = gc) (hp3 : 0 < nx_Away → ¬ (adr Ax_Away).block = gc) : Calls Tryd.prog 41 #[.pointer (some ⟨gc, 0, none⟩), .agg (List.toArray [.slice Ax_Maps nx_Maps cx_Maps, .slice Ax_Away nx_Away cx_Away, .int .i64 x.Bought, .int .i64 x.Dropped, .int .i64 x.Mended])] w fun e w' => ∃ (s : LibraryStep) (tc' sc' : Int), e = .returned (.agg (List.toArray [.int .i64 s.Kind, .int .i64 s.Id, .int .i64 s.Reader, .int .i64 s.Value])) ∧ Blk w' gc ec [.slice Ac nc cc, .int .i64 tc', .int .u64 sc'] ∧ (tc ≤ tc' ∧ tc' ≤ tc + 20) ∧ (s.Value ≤ 9223372036854775807) ∧ Kp (fun b_ => b_ = gc) w w' := by
  refine calls_W 146 Tryd.func41 rfl rfl rfl ?_
  have hBlc := hc.lt
  have hbdc := hLc.bound
  have hlec := hLc.len
  have hBbc := hLc.bd
  have hbdx_Maps := hx_Maps.bound
  have hlex_Maps := hx_Maps.len
  have hBbx_Maps := hx_Maps.bd
  have hbdx_Away := hx_Away.bound
  have hlex_Away := hx_Away.len
  have hBbx_Away := hx_Away.bd
  refine W.seq ?_
  refine W.regS (SR.box (v := .agg (List.toArray _)) (l := [.slice Ax_Maps nx_Maps cx_Maps, .slice Ax_Away nx_Away cx_Away, .int .i64 x.Bought, .int .i64 x.Dropped, .int .i64 x.Mended]) rfl rfl ?_)
  intro g1 w2 hg3 hk4 hs5 hb6
  have hz7 := hk4.size
  have hB8 := (Kp.refl w : Kp (fun b_ => b_ = gc) w w).lo hk4
  refine SR.alloc (l := [.int .i64 0, .int .i64 0, .int .i64 0, .int .i64 0]) tz66 rfl ?_
  intro g9 w10 hg11 hk12 hs13 hb14
  have hz15 := hk12.size
  have hB16 := hB8.lo hk12
  refine SR.nil ?_
  refine W.seq ?_
  have hm17 := ((hc).lo hk4).lo hk12
  have hm18 := ((hLc).lo hk4).lo hk12
  have hm19 := ((hx_Maps).lo hk4).lo hk12
  have hm20 := ((hx_Away).lo hk4).lo hk12
  refine W.regS (SR.q' (r_mv (v := .pointer (some _)) rfl) <| SR.lit (vs := [.int .i64 1, .int .i64 7]) (L := ([1, 7] : List Int)) (enc := encI) tel30 (fun _ => rfl) rfl rfl rfl (by decide) ?_)
  intro g21 w22 hg23 hk24 hO25
  have hz26 := hk24.size
  have hB27 := hB16.lo hk24
  refine SR.call ent26 (c___spec_l1Cur__among w22 Lc tc sc ((hm17).lo hk24) (((hm18).lo hk24)) (by omega) (by omega) ([1, 7] : List Int) (((hO25).rd)) (by omega) (by omega) (show ¬ g21 = gc from by first | omega | (have := (hO25).base_le rfl; omega))) rfl ?_
  rintro e w28 ⟨v30, t31, s32, rfl, hb33, ht34, hq35, hk29⟩
  refine ⟨_, rfl, ?_⟩
  have hz36 := hk29.size
  have hB37 := hB27.step hk29 (fun i_ hi_ e' => e')
  have hq38 : (1 : Int) ≤ v30 ∧ v30 ≤ 7 := mem_rngB (lo := 1) (hi := 7) (by decide) hq35
  refine SR.q' (r_build (vs := [(0, .int .i64 v30), (2, .int .i64 1)]) rfl (bld48_0_2 _ _)) <| SR.q' (r_build (vs := [(0, .int .i64 1), (1, .int .i64 5)]) rfl (bld57_0_1 _ _)) <| SR.alloc (l := [.int .i64 0, .int .i64 0, .int .i64 0]) tz48 rfl ?_
  intro g39 w40 hg41 hk42 hs43 hb44
  have hz45 := hk42.size
  have hB46 := hB37.lo hk42
  refine SR.alloc (l := [.int .i64 0, .int .i64 0]) tz57 rfl ?_
  intro g48 w49 hg50 hk51 hs52 hb53
  have hz54 := hk51.size
  have hB55 := hB46.lo hk51
  refine SR.store (o := 0) (vs := [.int .i64 v30, .int .i64 0, .int .i64 1]) agg48.2 rfl rfl rfl rfl ((hb44).lo hk51) (Nat.le_of_ble_eq_true rfl) rfl ?_
  intro w57 hk58 hs59 hb60
  have hz61 := hk58.size
  have hB62 := hB55.new hk58 (by omega)
  refine SR.store (o := 0) (vs := [.int .i64 1, .int .i64 5]) agg57.2 rfl rfl rfl rfl ((hb53).kn hk58 (by omega)) (Nat.le_of_ble_eq_true rfl) rfl ?_
  intro w63 hk64 hs65 hb66
  have hz67 := hk64.size
  have hB68 := hB62.new hk64 (by omega)
  refine SR.nil ?_
  refine W.seq ?_
  refine W.seq ?_
  have hm69 := ((((hb33).lo hk42).lo hk51).kn hk58 (by omega)).kn hk64 (by omega)
  have hm70 := ((((((hm18).lo hk24).kn hk29 (by omega)).lo hk42).lo hk51).kn hk58 (by omega)).kn hk64 (by omega)
  have hm71 := (((((((hb6).lo hk12).lo hk24).kn hk29 (by omega)).lo hk42).lo hk51).kn hk58 (by omega)).kn hk64 (by omega)
  have hm72 := ((((((hm19).lo hk24).kpb hk29 (fun hn_ e' => (hp2 (by omega)) e')).lo hk42).lo hk51).kn hk58 (by omega)).kn hk64 (by omega)
  have hm73 := ((((((hm20).lo hk24).kpb hk29 (fun hn_ e' => (hp3 (by omega)) e')).lo hk42).lo hk51).kn hk58 (by omega)).kn hk64 (by omega)
  have hm74 := ((((((hb14).lo hk24).kn hk29 (by omega)).lo hk42).lo hk51).kn hk58 (by omega)).kn hk64 (by omega)
  refine W.regS (SR.q' (r_fa fa27_0 rfl) <| SR.q' (r_ld (v := .slice Ax_Maps nx_Maps cx_Maps) sca24 rfl ((hm71).cell rfl)) <| SR.q' (r_len und24 rfl) <| SR.q' (r_gt rfl rfl) <| SR.nil ?_)
  refine W.thenJ (fun f' w' => ∃ g : LMap × Int × Int, At f' [(0, .pointer (pA gc)), (3, .pointer (pA g1)), (4, .pointer (pA g9)), (5, .pointer (pA g39)), (6, .pointer (pA g48))] ∧ (Kp (fun b_ => b_ = gc) w w') ∧ (Blk w' gc ec [.slice Ac nc cc, .int .i64 g.2.1, .int .u64 g.2.2]) ∧ (SlR w' Bc encB 1 Ac nc cc Lc) ∧ (Blk w' g1 27 [.slice Ax_Maps nx_Maps cx_Maps, .slice Ax_Away nx_Away cx_Away, .int .i64 x.Bought, .int .i64 x.Dropped, .int .i64 x.Mended]) ∧ (SlR w' Bx_Maps encLMap 3 Ax_Maps nx_Maps cx_Maps x.Maps) ∧ (SlR w' Bx_Away encAway 2 Ax_Away nx_Away cx_Away x.Away) ∧ (Blk w' g9 66 [.int .i64 0, .int .i64 0, .int .i64 0, .int .i64 0]) ∧ (Blk w' g39 48 [.int .i64 g.1.Id, .int .i64 g.1.Copies, .int .i64 g.1.Torn]) ∧ (Blk w' g48 57 [.int .i64 1, .int .i64 5]) ∧ (((-100000 ≤ g.1.Copies ∧ g.1.Copies ≤ 100000) ∧ (-100000 ≤ g.1.Torn ∧ g.1.Torn ≤ 100000)) ∧ tc ≤ g.2.1 ∧ g.2.1 ≤ tc + 4)) ?_ ?_
  · refine W.cond_d rfl (fun h75 => ?_) (fun h75 => ?_)
    · refine W.regA (Kp (fun b_ => b_ = gc ∨ b_ = g39) w63) (fun f' w' => ∃ (v126 : Int) (t127 : Int) (s128 : Int), At f' [(0, .pointer (pA gc)), (3, .pointer (pA g1)), (4, .pointer (pA g9)), (5, .pointer (pA g39)), (6, .pointer (pA g48))] ∧ (Kp (fun b_ => b_ = gc ∨ b_ = g39) w63 w') ∧ (Blk w' gc ec [.slice Ac nc cc, .int .i64 t127, .int .u64 s128]) ∧ (Blk w' g39 48 [.int .i64 ((gt x.Maps v126.toNat).Id), .int .i64 ((gt x.Maps v126.toNat).Copies), .int .i64 ((gt x.Maps v126.toNat).Torn)]) ∧ (t31 ≤ t127 ∧ t127 ≤ t31 + 2) ∧ ((0 : Int) ≤ v126 ∧ ((v126 : Int) < (nx_Maps : Int) ∨ (v126 : Int) = 0)) ∧ (x.Maps[v126.toNat]? = some (gt x.Maps v126.toNat)) ∧ ((-100000 ≤ (gt x.Maps v126.toNat).Copies ∧ (gt x.Maps v126.toNat).Copies ≤ 100000) ∧ (-100000 ≤ (gt x.Maps v126.toNat).Torn ∧ (gt x.Maps v126.toNat).Torn ≤ 100000))) mo ?_ ?_
      · intro w149 hk150
        have hz151 := hk150.size
        have hB152 := hB68.lo hk150
        refine AH.take 0 rfl (by kernel_rfl) trivial ((Kp.refl w63 : Kp (fun b_ => b_ = gc ∨ b_ = g39) w63 w63).lo hk150) (fun w' hw' => r_fa fa27_0 rfl) <| AH.take 1 rfl (by kernel_rfl) trivial ((Kp.refl w63 : Kp (fun b_ => b_ = gc ∨ b_ = g39) w63 w63).lo hk150) (fun w' hw' => r_ld (v := .slice Ax_Maps nx_Maps cx_Maps) sca24 rfl (((hm71).kp hw' (fun e' => e'.elim (fun e' => by have e'' : g1 = gc := e'; omega) (fun e' => by have e'' : g1 = g39 := e'; omega))).cell rfl)) <| AH.take 2 rfl (by kernel_rfl) trivial ((Kp.refl w63 : Kp (fun b_ => b_ = gc ∨ b_ = g39) w63 w63).lo hk150) (fun w' hw' => r_mv (v := .pointer (some _)) rfl) <| AH.take 3 rfl (by kernel_rfl) trivial ((Kp.refl w63 : Kp (fun b_ => b_ = gc ∨ b_ = g39) w63 w63).lo hk150) (fun w' hw' => r_fa fa27_0 rfl) <| AH.take 4 rfl (by kernel_rfl) trivial ((Kp.refl w63 : Kp (fun b_ => b_ = gc ∨ b_ = g39) w63 w63).lo hk150) (fun w' hw' => r_ld (v := .slice Ax_Maps nx_Maps cx_Maps) sca24 rfl (((hm71).kp hw' (fun e' => e'.elim (fun e' => by have e'' : g1 = gc := e'; omega) (fun e' => by have e'' : g1 = g39 := e'; omega))).cell rfl)) <| AH.take 5 rfl (by kernel_rfl) trivial ((Kp.refl w63 : Kp (fun b_ => b_ = gc ∨ b_ = g39) w63 w63).lo hk150) (fun w' hw' => r_len und24 rfl) <| AH.br [6] (by kernel_rfl) rfl ⟨Br.mk' rfl trivial ?_, trivial⟩
        refine SR.call ent25 (c___spec_l1Cur__pick w149 Lc t31 s32 ((hm69).lo hk150) (((hm70).lo hk150)) (by omega) (by omega) (nx_Maps : Int) (by first | omega | (simp only [List.length_append, List.length_cons, List.length_nil, List.length_take, List.length_drop]; omega))) rfl ?_
        rintro e w153 ⟨v155, t156, s157, rfl, hb158, ht159, hq160, hk154⟩
        refine ⟨_, rfl, ?_⟩
        have hz161 := hk154.size
        have hB162 := hB152.step hk154 (fun i_ hi_ e' => e')
        have hS163 := ((Kp.refl w63 : Kp (fun b_ => b_ = gc ∨ b_ = g39) w63 w63).lo hk150).step hk154 (fun _ _ e => .inl e)
        refine SR.nil ⟨hS163, _, rfl, ?_⟩
        have hx165 := (((hm72).lo hk150).kpb hk154 (fun hn_ e' => (hp2 (by omega)) e')).elem (i := v155.toNat) (by omega)
        have hq166 := MapB.at hp1 hx165
        refine AH.take 7 rfl (by kernel_rfl) trivial (hS163) (fun w' hw' => r_ixR tsl24 (((hm72).kpb hw' (fun hn_ e' => e'.elim (fun e' => (hp2 (by omega)) e') (fun e' => by have e'' : (adr Ax_Maps).block = g39 := e'; have h2 := (hm72).blk hn_; omega)))) rfl rfl (by omega)) <| AH.take 8 rfl (by kernel_rfl) trivial (hS163) (fun w' hw' => r_lda (l := encLMap (gt x.Maps v155.toNat)) agg48 rfl (fun _ _ hu => (((hm72).kpb hw' (fun hn_ e' => e'.elim (fun e' => (hp2 (by omega)) e') (fun e' => by have e'' : (adr Ax_Maps).block = g39 := e'; have h2 := (hm72).blk hn_; omega)))).cell hx165 hu) ((((hm72).kpb hw' (fun hn_ e' => e'.elim (fun e' => (hp2 (by omega)) e') (fun e' => by have e'' : (adr Ax_Maps).block = g39 := e'; have h2 := (hm72).blk hn_; omega)))).esz _)) <| AH.br [9] (by kernel_rfl) rfl ⟨Br.mk' rfl trivial ?_, trivial⟩
        refine SR.store (o := 0) (vs := [.int .i64 ((gt x.Maps v155.toNat).Id), .int .i64 ((gt x.Maps v155.toNat).Copies), .int .i64 ((gt x.Maps v155.toNat).Torn)]) agg48.2 rfl rfl rfl rfl ((((hb60).kn hk64 (by omega)).lo hk150).kn hk154 (by omega)) (Nat.le_of_ble_eq_true rfl) rfl ?_
        intro w167 hk168 hs169 hb170
        have hz171 := hk168.size
        have hB172 := hB162.new hk168 (by omega)
        have hS173 := (hS163).step hk168 (fun _ _ e => .inr (e))
        refine SR.nil ⟨hS173, _, rfl, ?_⟩
        refine AH.done (by kernel_rfl) ?_
        exact ⟨v155, t156, s157, ⟨rfl, rfl, rfl, rfl, rfl, trivial⟩, hS173, ((hb158).kn hk168 (by omega)), (hb170), ht159, hq160, hx165, hq166⟩
      rintro f174 w175 ⟨v126, t127, s128, hat177, hR176, hm147, hm148, ht130, hq131, hx136, hq137⟩
      rw [← sets_of_at hat177]
      have hz178 := hR176.size
      have hB179 := hB68.step hR176 (fun i_ hi_ e' => e'.elim (fun e' => e') (fun e' => by have e'' : i_ = g39 := e'; exfalso; omega))
      exact ⟨_, rfl, ((gt x.Maps v126.toNat), t127, s128), ⟨rfl, rfl, rfl, rfl, rfl, trivial⟩, hB179, (hm147), (hm70).kp hR176 (fun b_ hb e' => e'.elim (fun e' => by have e'' : b_ = gc := e'; omega) (fun e' => by have e'' : b_ = g39 := e'; omega)), (hm71).kp hR176 (fun e' => e'.elim (fun e' => by have e'' : g1 = gc := e'; omega) (fun e' => by have e'' : g1 = g39 := e'; omega)), (hm72).kpb hR176 (fun hn_ e' => e'.elim (fun e' => (hp2 (by omega)) e') (fun e' => by have e'' : (adr Ax_Maps).block = g39 := e'; have h2 := (hm72).blk hn_; omega)), (hm73).kpb hR176 (fun hn_ e' => e'.elim (fun e' => (hp3 (by omega)) e') (fun e' => by have e'' : (adr Ax_Away).block = g39 := e'; have h2 := (hm73).blk hn_; omega)), (hm74).kp hR176 (fun e' => e'.elim (fun e' => by have e'' : g9 = gc := e'; omega) (fun e' => by have e'' : g9 = g39 := e'; omega)), (hm148), (hb66).kp hR176 (fun e' => e'.elim (fun e' => by have e'' : g48 = gc := e'; omega) (fun e' => by have e'' : g48 = g39 := e'; omega)), (by first | omega | (dsimp only; omega))⟩
    · refine W.skip ?_
      exact ⟨_, rfl, ((⟨v30, 0, 1⟩ : LMap), t31, s32), ⟨rfl, rfl, rfl, rfl, rfl, trivial⟩, hB68, (hm69), hm70, hm71, hm72, hm73, hm74, ((hb60).kn hk64 (by omega)), hb66, (by first | omega | (dsimp only; omega))⟩
  rintro f180 w181 ⟨⟨m, t, z⟩, hat193, hP183⟩
  rw [← sets_of_at hat193]
  obtain ⟨hB182, hm184, hm185, hm186, hm187, hm188, hm189, hm190, hm191, hi192⟩ : (Kp (fun b_ => b_ = gc) w w181) ∧ (Blk w181 gc ec [.slice Ac nc cc, .int .i64 t, .int .u64 z]) ∧ (SlR w181 Bc encB 1 Ac nc cc Lc) ∧ (Blk w181 g1 27 [.slice Ax_Maps nx_Maps cx_Maps, .slice Ax_Away nx_Away cx_Away, .int .i64 x.Bought, .int .i64 x.Dropped, .int .i64 x.Mended]) ∧ (SlR w181 Bx_Maps encLMap 3 Ax_Maps nx_Maps cx_Maps x.Maps) ∧ (SlR w181 Bx_Away encAway 2 Ax_Away nx_Away cx_Away x.Away) ∧ (Blk w181 g9 66 [.int .i64 0, .int .i64 0, .int .i64 0, .int .i64 0]) ∧ (Blk w181 g39 48 [.int .i64 m.Id, .int .i64 m.Copies, .int .i64 m.Torn]) ∧ (Blk w181 g48 57 [.int .i64 1, .int .i64 5]) ∧ (((-100000 ≤ m.Copies ∧ m.Copies ≤ 100000) ∧ (-100000 ≤ m.Torn ∧ m.Torn ≤ 100000)) ∧ tc ≤ t ∧ t ≤ tc + 4) := hP183
  have hzw181 := hB182.size
  have hl194 := hm184.lt
  have hl195 := hm186.lt
  have hl196 := hm189.lt
  have hl197 := hm190.lt
  have hl198 := hm191.lt
  refine W.seq ?_
  refine W.seq ?_
  refine W.regS (SR.q' (r_fa fa27_1 rfl) <| SR.q' (r_ld (v := .slice Ax_Away nx_Away cx_Away) sca25 rfl ((hm186).cell rfl)) <| SR.q' (r_len und25 rfl) <| SR.q' (r_gt rfl rfl) <| SR.nil ?_)
  refine W.thenJ (fun f' w' => ∃ g : Away × Int × Int, At f' [(0, .pointer (pA gc)), (4, .pointer (pA g9)), (5, .pointer (pA g39)), (6, .pointer (pA g48))] ∧ (Kp (fun b_ => b_ = gc) w w') ∧ (Blk w' gc ec [.slice Ac nc cc, .int .i64 g.2.1, .int .u64 g.2.2]) ∧ (SlR w' Bc encB 1 Ac nc cc Lc) ∧ (Blk w' g9 66 [.int .i64 0, .int .i64 0, .int .i64 0, .int .i64 0]) ∧ (Blk w' g39 48 [.int .i64 m.Id, .int .i64 m.Copies, .int .i64 m.Torn]) ∧ (Blk w' g48 57 [.int .i64 g.1.Map, .int .i64 g.1.Reader]) ∧ (tc ≤ g.2.1 ∧ g.2.1 ≤ tc + 6)) ?_ ?_
  · refine W.cond_d rfl (fun h199 => ?_) (fun h199 => ?_)
    · refine W.regA (Kp (fun b_ => b_ = gc ∨ b_ = g48) w181) (fun f' w' => ∃ (v249 : Int) (t250 : Int) (s251 : Int), At f' [(0, .pointer (pA gc)), (4, .pointer (pA g9)), (5, .pointer (pA g39)), (6, .pointer (pA g48))] ∧ (Kp (fun b_ => b_ = gc ∨ b_ = g48) w181 w') ∧ (Blk w' gc ec [.slice Ac nc cc, .int .i64 t250, .int .u64 s251]) ∧ (Blk w' g48 57 [.int .i64 ((gt x.Away v249.toNat).Map), .int .i64 ((gt x.Away v249.toNat).Reader)]) ∧ (t ≤ t250 ∧ t250 ≤ t + 2) ∧ ((0 : Int) ≤ v249 ∧ ((v249 : Int) < (nx_Away : Int) ∨ (v249 : Int) = 0)) ∧ (x.Away[v249.toNat]? = some (gt x.Away v249.toNat))) mo ?_ ?_
      · intro w271 hk272
        have hz273 := hk272.size
        have hB274 := hB182.lo hk272
        refine AH.take 0 rfl (by kernel_rfl) trivial ((Kp.refl w181 : Kp (fun b_ => b_ = gc ∨ b_ = g48) w181 w181).lo hk272) (fun w' hw' => r_fa fa27_1 rfl) <| AH.take 1 rfl (by kernel_rfl) trivial ((Kp.refl w181 : Kp (fun b_ => b_ = gc ∨ b_ = g48) w181 w181).lo hk272) (fun w' hw' => r_ld (v := .slice Ax_Away nx_Away cx_Away) sca25 rfl (((hm186).kp hw' (fun e' => e'.elim (fun e' => by have e'' : g1 = gc := e'; omega) (fun e' => by have e'' : g1 = g48 := e'; omega))).cell rfl)) <| AH.take 2 rfl (by kernel_rfl) trivial ((Kp.refl w181 : Kp (fun b_ => b_ = gc ∨ b_ = g48) w181 w181).lo hk272) (fun w' hw' => r_mv (v := .pointer (some _)) rfl) <| AH.take 3 rfl (by kernel_rfl) trivial ((Kp.refl w181 : Kp (fun b_ => b_ = gc ∨ b_ = g48) w181 w181).lo hk272) (fun w' hw' => r_fa fa27_1 rfl) <| AH.take 4 rfl (by kernel_rfl) trivial ((Kp.refl w181 : Kp (fun b_ => b_ = gc ∨ b_ = g48) w181 w181).lo hk272) (fun w' hw' => r_ld (v := .slice Ax_Away nx_Away cx_Away) sca25 rfl (((hm186).kp hw' (fun e' => e'.elim (fun e' => by have e'' : g1 = gc := e'; omega) (fun e' => by have e'' : g1 = g48 := e'; omega))).cell rfl)) <| AH.take 5 rfl (by kernel_rfl) trivial ((Kp.refl w181 : Kp (fun b_ => b_ = gc ∨ b_ = g48) w181 w181).lo hk272) (fun w' hw' => r_len und25 rfl) <| AH.br [6] (by kernel_rfl) rfl ⟨Br.mk' rfl trivial ?_, trivial⟩
        refine SR.call ent25 (c___spec_l1Cur__pick w271 Lc t z ((hm184).lo hk272) (((hm185).lo hk272)) (by omega) (by omega) (nx_Away : Int) (by first | omega | (simp only [List.length_append, List.length_cons, List.length_nil, List.length_take, List.length_drop]; omega))) rfl ?_
        rintro e w275 ⟨v277, t278, s279, rfl, hb280, ht281, hq282, hk276⟩
        refine ⟨_, rfl, ?_⟩
        have hz283 := hk276.size
        have hB284 := hB274.step hk276 (fun i_ hi_ e' => e')
        have hS285 := ((Kp.refl w181 : Kp (fun b_ => b_ = gc ∨ b_ = g48) w181 w181).lo hk272).step hk276 (fun _ _ e => .inl e)
        refine SR.nil ⟨hS285, _, rfl, ?_⟩
        have hx287 := (((hm188).lo hk272).kpb hk276 (fun hn_ e' => (hp3 (by omega)) e')).elem (i := v277.toNat) (by omega)
        refine AH.take 7 rfl (by kernel_rfl) trivial (hS285) (fun w' hw' => r_ixR tsl25 (((hm188).kpb hw' (fun hn_ e' => e'.elim (fun e' => (hp3 (by omega)) e') (fun e' => by have e'' : (adr Ax_Away).block = g48 := e'; have h2 := (hm188).blk hn_; omega)))) rfl rfl (by omega)) <| AH.take 8 rfl (by kernel_rfl) trivial (hS285) (fun w' hw' => r_lda (l := encAway (gt x.Away v277.toNat)) agg57 rfl (fun _ _ hu => (((hm188).kpb hw' (fun hn_ e' => e'.elim (fun e' => (hp3 (by omega)) e') (fun e' => by have e'' : (adr Ax_Away).block = g48 := e'; have h2 := (hm188).blk hn_; omega)))).cell hx287 hu) ((((hm188).kpb hw' (fun hn_ e' => e'.elim (fun e' => (hp3 (by omega)) e') (fun e' => by have e'' : (adr Ax_Away).block = g48 := e'; have h2 := (hm188).blk hn_; omega)))).esz _)) <| AH.br [9] (by kernel_rfl) rfl ⟨Br.mk' rfl trivial ?_, trivial⟩
        refine SR.store (o := 0) (vs := [.int .i64 ((gt x.Away v277.toNat).Map), .int .i64 ((gt x.Away v277.toNat).Reader)]) agg57.2 rfl rfl rfl rfl (((hm191).lo hk272).kn hk276 (by omega)) (Nat.le_of_ble_eq_true rfl) rfl ?_
        intro w288 hk289 hs290 hb291
        have hz292 := hk289.size
        have hB293 := hB284.new hk289 (by omega)
        have hS294 := (hS285).step hk289 (fun _ _ e => .inr (e))
        refine SR.nil ⟨hS294, _, rfl, ?_⟩
        refine AH.done (by kernel_rfl) ?_
        exact ⟨v277, t278, s279, ⟨rfl, rfl, rfl, rfl, trivial⟩, hS294, ((hb280).kn hk289 (by omega)), (hb291), ht281, hq282, hx287⟩
      rintro f295 w296 ⟨v249, t250, s251, hat298, hR297, hm269, hm270, ht253, hq254, hx259⟩
      rw [← sets_of_at hat298]
      have hz299 := hR297.size
      have hB300 := hB182.step hR297 (fun i_ hi_ e' => e'.elim (fun e' => e') (fun e' => by have e'' : i_ = g48 := e'; exfalso; omega))
      exact ⟨_, rfl, ((gt x.Away v249.toNat), t250, s251), ⟨rfl, rfl, rfl, rfl, trivial⟩, hB300, (hm269), (hm185).kp hR297 (fun b_ hb e' => e'.elim (fun e' => by have e'' : b_ = gc := e'; omega) (fun e' => by have e'' : b_ = g48 := e'; omega)), (hm189).kp hR297 (fun e' => e'.elim (fun e' => by have e'' : g9 = gc := e'; omega) (fun e' => by have e'' : g9 = g48 := e'; omega)), (hm190).kp hR297 (fun e' => e'.elim (fun e' => by have e'' : g39 = gc := e'; omega) (fun e' => by have e'' : g39 = g48 := e'; omega)), (hm270), (by first | omega | (dsimp only; omega))⟩
    · refine W.skip ?_
      exact ⟨_, rfl, ((⟨1, 5⟩ : Away), t, z), ⟨rfl, rfl, rfl, rfl, trivial⟩, hB182, (hm184), hm185, hm189, hm190, (hm191), (by first | omega | (dsimp only; omega))⟩
  rintro f301 w302 ⟨⟨a, t2, z2⟩, hat311, hP304⟩
  rw [← sets_of_at hat311]
  obtain ⟨hB303, hm305, hm306, hm307, hm308, hm309, hi310⟩ : (Kp (fun b_ => b_ = gc) w w302) ∧ (Blk w302 gc ec [.slice Ac nc cc, .int .i64 t2, .int .u64 z2]) ∧ (SlR w302 Bc encB 1 Ac nc cc Lc) ∧ (Blk w302 g9 66 [.int .i64 0, .int .i64 0, .int .i64 0, .int .i64 0]) ∧ (Blk w302 g39 48 [.int .i64 m.Id, .int .i64 m.Copies, .int .i64 m.Torn]) ∧ (Blk w302 g48 57 [.int .i64 a.Map, .int .i64 a.Reader]) ∧ (tc ≤ t2 ∧ t2 ≤ tc + 6) := hP304
  have hzw302 := hB303.size
  have hl312 := hm305.lt
  have hl313 := hm307.lt
  have hl314 := hm308.lt
  have hl315 := hm309.lt
  refine W.seq ?_
  refine W.seq ?_
  refine W.regS (SR.q' (r_mv (v := .pointer (some _)) rfl) <| SR.call ent24 (c___spec_l1Cur__one w302 Lc t2 z2 (hm305) ((hm306)) (by omega) (by omega) 40 (by first | omega | (simp only [List.length_append, List.length_cons, List.length_nil, List.length_take, List.length_drop]; omega))) rfl ?_)
  rintro e w316 ⟨v318, t319, s320, rfl, hb321, ht322, hk317⟩
  refine ⟨_, rfl, ?_⟩
  have hz323 := hk317.size
  have hB324 := hB303.step hk317 (fun i_ hi_ e' => e')
  refine SR.nil ?_
  refine W.cond_b rfl (fun h325 => ?_) (fun h325 => ?_)
  · refine W.seq ?_
    refine W.regA (Kp (fun b_ => b_ = gc ∨ b_ = g9) w316) (fun f' w' => ∃ (g466 : Nat) (v532 : Int) (t533 : Int) (s534 : Int) (g544 : Nat) (v560 : Int) (t561 : Int) (s562 : Int) (v479 : Int) (t480 : Int) (s481 : Int) (g491 : Nat) (v505 : Int) (t506 : Int) (s507 : Int) (g517 : Nat), At f' [(0, .pointer (pA gc)), (4, .pointer (pA g9)), (5, .pointer (pA g39)), (6, .pointer (pA g48))] ∧ (Kp (fun b_ => b_ = gc ∨ b_ = g9) w316 w') ∧ (Blk w' gc ec [.slice Ac nc cc, .int .i64 t561, .int .u64 s562]) ∧ (Blk w' g9 66 [.int .i64 v479, .int .i64 v505, .int .i64 v532, .int .i64 v560]) ∧ (t319 ≤ t480 ∧ t480 ≤ t319 + 2) ∧ (v479 ∈ ([0, 8, 2] : List Int)) ∧ ((0 : Int) ≤ v479 ∧ v479 ≤ 8) ∧ (t480 ≤ t506 ∧ t506 ≤ t480 + 2) ∧ (v505 ∈ ([0, m.Id, 100] : List Int)) ∧ ((v505 : Int) = 0 ∨ (v505 : Int) = m.Id ∨ (v505 : Int) = 100) ∧ (t506 ≤ t533 ∧ t533 ≤ t506 + 2) ∧ (v532 ∈ ([0, 5] : List Int)) ∧ ((0 : Int) ≤ v532 ∧ v532 ≤ 5) ∧ (t533 ≤ t561 ∧ t561 ≤ t533 + 2) ∧ (v560 ∈ ([0, 1, (-1)] : List Int)) ∧ (((-1) : Int) ≤ v560 ∧ v560 ≤ 1)) mo ?_ ?_
    · intro w1272 hk1273
      have hz1274 := hk1273.size
      have hB1275 := hB324.lo hk1273
      refine AH.via #[true, true, true, true, true, true, true, true, true, true, true, true, true, false, false, false] 3 (fun f' w' => ∃ (g466 : Nat) (v532 : Int) (t533 : Int) (s534 : Int) (g544 : Nat) (v479 : Int) (t480 : Int) (s481 : Int) (g491 : Nat) (v505 : Int) (t506 : Int) (s507 : Int) (g517 : Nat), At f' [(0, .pointer (pA gc)), (4, .pointer (pA g9)), (5, .pointer (pA g39)), (6, .pointer (pA g48)), (42, .int .i64 v479), (47, .int .i64 v505), (50, .int .i64 v532), (51, .pointer (pA gc)), (52, .slice (pA g544) 3 3)] ∧ (Kp (fun b_ => b_ = gc ∨ b_ = g9) w316 w') ∧ (SlO w' w316.heap.size encI 1 3 (pA g544) 3 3 ([0, 1, (-1)] : List Int)) ∧ (Blk w' gc ec [.slice Ac nc cc, .int .i64 t533, .int .u64 s534]) ∧ (Blk w' g9 66 [.int .i64 0, .int .i64 0, .int .i64 0, .int .i64 0]) ∧ (t319 ≤ t480 ∧ t480 ≤ t319 + 2) ∧ (v479 ∈ ([0, 8, 2] : List Int)) ∧ ((0 : Int) ≤ v479 ∧ v479 ≤ 8) ∧ (t480 ≤ t506 ∧ t506 ≤ t480 + 2) ∧ (v505 ∈ ([0, m.Id, 100] : List Int)) ∧ ((v505 : Int) = 0 ∨ (v505 : Int) = m.Id ∨ (v505 : Int) = 100) ∧ (t506 ≤ t533 ∧ t533 ≤ t506 + 2) ∧ (v532 ∈ ([0, 5] : List Int)) ∧ ((0 : Int) ≤ v532 ∧ v532 ≤ 5)) ?_ (fun hn1276 => ?_)
      · rintro f1277 w1278 ⟨g466, v532, t533, s534, g544, v479, t480, s481, g491, v505, t506, s507, g517, hat1280, hR1279, hm555, hm556, hm557, ht483, hq484, hq488, ht509, hq510, hq514, ht536, hq537, hq541⟩
        rw [← sets_of_at hat1280]
        have hz1281 := hR1279.size
        have hB1282 := hB324.step hR1279 (fun i_ hi_ e' => e'.elim (fun e' => e') (fun e' => by have e'' : i_ = g9 := e'; exfalso; omega))
        refine AH.br [13] (by kernel_rfl) rfl ⟨Br.mk' rfl trivial ?_, trivial⟩
        refine SR.call ent26 (c___spec_l1Cur__among w1278 Lc t533 s534 (hm556) ((((hm306).kn hk317 (by omega)).kp hR1279 (fun b_ hb e' => e'.elim (fun e' => by have e'' : b_ = gc := e'; omega) (fun e' => by have e'' : b_ = g9 := e'; omega)))) (by omega) (by omega) ([0, 1, (-1)] : List Int) (((hm555).rd)) (by omega) (by omega) (show ¬ g544 = gc from by first | omega | (have := (hm555).base_le rfl; omega))) rfl ?_
        rintro e w1283 ⟨v1285, t1286, s1287, rfl, hb1288, ht1289, hq1290, hk1284⟩
        refine ⟨_, rfl, ?_⟩
        have hz1291 := hk1284.size
        have hB1292 := hB1282.step hk1284 (fun i_ hi_ e' => e')
        have hS1293 := (hR1279).step hk1284 (fun _ _ e => .inl e)
        have hq1294 : ((-1) : Int) ≤ v1285 ∧ v1285 ≤ 1 := mem_rngB (lo := (-1)) (hi := 1) (by decide) hq1290
        refine SR.nil ⟨hS1293, _, rfl, ?_⟩
        refine AH.take 14 rfl (by kernel_rfl) trivial (hS1293) (fun w' hw' => r_build (vs := [(0, .int .i64 v479), (1, .int .i64 v505), (2, .int .i64 v532), (3, .int .i64 v1285)]) rfl (bld66_0_1_2_3 _ _ _ _)) <| AH.br [15] (by kernel_rfl) rfl ⟨Br.mk' rfl trivial ?_, trivial⟩
        refine SR.store (o := 0) (vs := [.int .i64 v479, .int .i64 v505, .int .i64 v532, .int .i64 v1285]) agg66.2 rfl rfl rfl rfl ((hm557).kn hk1284 (by omega)) (Nat.le_of_ble_eq_true rfl) rfl ?_
        intro w1295 hk1296 hs1297 hb1298
        have hz1299 := hk1296.size
        have hB1300 := hB1292.new hk1296 (by omega)
        have hS1301 := (hS1293).step hk1296 (fun _ _ e => .inr (e))
        refine SR.nil ⟨hS1301, _, rfl, ?_⟩
        refine AH.done (by kernel_rfl) ?_
        exact ⟨g466, v532, t533, s534, g544, v1285, t1286, s1287, v479, t480, s481, g491, v505, t506, s507, g517, ⟨rfl, rfl, rfl, rfl, trivial⟩, hS1301, ((hb1288).kn hk1296 (by omega)), (hb1298), ht483, hq484, hq488, ht509, hq510, hq514, ht536, hq537, hq541, ht1289, hq1290, hq1294⟩
      refine AH.via #[true, true, true, true, true, true, true, true, true, true, false, true, true, false, false, false] 4 (fun f' w' => ∃ (g466 : Nat) (g581 : Nat) (v479 : Int) (t480 : Int) (s481 : Int) (g491 : Nat) (v505 : Int) (t506 : Int) (s507 : Int) (g517 : Nat), At f' [(0, .pointer (pA gc)), (4, .pointer (pA g9)), (5, .pointer (pA g39)), (6, .pointer (pA g48)), (42, .int .i64 v479), (47, .int .i64 v505), (48, .pointer (pA gc)), (49, .slice (pA g517) 2 2), (51, .pointer (pA gc)), (52, .slice (pA g581) 3 3)] ∧ (Kp (fun b_ => b_ = gc ∨ b_ = g9) w316 w') ∧ (SlO w' w316.heap.size encI 1 3 (pA g581) 3 3 ([0, 1, (-1)] : List Int)) ∧ (SlO w' w316.heap.size encI 1 3 (pA g517) 2 2 ([0, 5] : List Int)) ∧ (Blk w' gc ec [.slice Ac nc cc, .int .i64 t506, .int .u64 s507]) ∧ (Blk w' g9 66 [.int .i64 0, .int .i64 0, .int .i64 0, .int .i64 0]) ∧ (∀ b_, (pA g581) = some ⟨b_, 0, none⟩ → ¬ (pA g517) = some ⟨b_, 0, none⟩) ∧ (t319 ≤ t480 ∧ t480 ≤ t319 + 2) ∧ (v479 ∈ ([0, 8, 2] : List Int)) ∧ ((0 : Int) ≤ v479 ∧ v479 ≤ 8) ∧ (t480 ≤ t506 ∧ t506 ≤ t480 + 2) ∧ (v505 ∈ ([0, m.Id, 100] : List Int)) ∧ ((v505 : Int) = 0 ∨ (v505 : Int) = m.Id ∨ (v505 : Int) = 100)) ?_ (fun hn1302 => ?_)
      · rintro f1303 w1304 ⟨g466, g581, v479, t480, s481, g491, v505, t506, s507, g517, hat1306, hR1305, hm592, hm593, hm594, hm595, hd596, ht483, hq484, hq488, ht509, hq510, hq514⟩
        rw [← sets_of_at hat1306]
        have hz1307 := hR1305.size
        have hB1308 := hB324.step hR1305 (fun i_ hi_ e' => e'.elim (fun e' => e') (fun e' => by have e'' : i_ = g9 := e'; exfalso; omega))
        refine AH.br [10] (by kernel_rfl) rfl ⟨Br.mk' rfl trivial ?_, trivial⟩
        refine SR.call ent26 (c___spec_l1Cur__among w1304 Lc t506 s507 (hm594) ((((hm306).kn hk317 (by omega)).kp hR1305 (fun b_ hb e' => e'.elim (fun e' => by have e'' : b_ = gc := e'; omega) (fun e' => by have e'' : b_ = g9 := e'; omega)))) (by omega) (by omega) ([0, 5] : List Int) (((hm593).rd)) (by omega) (by omega) (show ¬ g517 = gc from by first | omega | (have := (hm593).base_le rfl; omega))) rfl ?_
        rintro e w1309 ⟨v1311, t1312, s1313, rfl, hb1314, ht1315, hq1316, hk1310⟩
        refine ⟨_, rfl, ?_⟩
        have hz1317 := hk1310.size
        have hB1318 := hB1308.step hk1310 (fun i_ hi_ e' => e')
        have hS1319 := (hR1305).step hk1310 (fun _ _ e => .inl e)
        have hq1320 : (0 : Int) ≤ v1311 ∧ v1311 ≤ 5 := mem_rngB (lo := 0) (hi := 5) (by decide) hq1316
        refine SR.nil ⟨hS1319, _, rfl, ?_⟩
        refine AH.goto (by kernel_rfl) rfl (hn1276 _ _ ?_)
        exact ⟨g466, v1311, t1312, s1313, g581, v479, t480, s481, g491, v505, t506, s507, g517, ⟨rfl, rfl, rfl, rfl, rfl, rfl, rfl, rfl, rfl, trivial⟩, hS1319, (((hm592).kn hk1310 (by omega)).down (by omega)), (hb1314), ((hm595).kn hk1310 (by omega)), ht483, hq484, hq488, ht509, hq510, hq514, ht1315, hq1316, hq1320⟩
      refine AH.via #[true, true, true, true, true, true, true, true, true, true, false, true, false, false, false, false] 5 (fun f' w' => ∃ (g466 : Nat) (v479 : Int) (t480 : Int) (s481 : Int) (g491 : Nat) (v505 : Int) (t506 : Int) (s507 : Int) (g517 : Nat), At f' [(0, .pointer (pA gc)), (4, .pointer (pA g9)), (5, .pointer (pA g39)), (6, .pointer (pA g48)), (42, .int .i64 v479), (47, .int .i64 v505), (48, .pointer (pA gc)), (49, .slice (pA g517) 2 2), (51, .pointer (pA gc))] ∧ (Kp (fun b_ => b_ = gc ∨ b_ = g9) w316 w') ∧ (SlO w' w316.heap.size encI 1 3 (pA g517) 2 2 ([0, 5] : List Int)) ∧ (Blk w' gc ec [.slice Ac nc cc, .int .i64 t506, .int .u64 s507]) ∧ (Blk w' g9 66 [.int .i64 0, .int .i64 0, .int .i64 0, .int .i64 0]) ∧ (t319 ≤ t480 ∧ t480 ≤ t319 + 2) ∧ (v479 ∈ ([0, 8, 2] : List Int)) ∧ ((0 : Int) ≤ v479 ∧ v479 ≤ 8) ∧ (t480 ≤ t506 ∧ t506 ≤ t480 + 2) ∧ (v505 ∈ ([0, m.Id, 100] : List Int)) ∧ ((v505 : Int) = 0 ∨ (v505 : Int) = m.Id ∨ (v505 : Int) = 100)) ?_ (fun hn1321 => ?_)
      · rintro f1322 w1323 ⟨g466, v479, t480, s481, g491, v505, t506, s507, g517, hat1325, hR1324, hm527, hm528, hm529, ht483, hq484, hq488, ht509, hq510, hq514⟩
        rw [← sets_of_at hat1325]
        have hz1326 := hR1324.size
        have hB1327 := hB324.step hR1324 (fun i_ hi_ e' => e'.elim (fun e' => e') (fun e' => by have e'' : i_ = g9 := e'; exfalso; omega))
        refine AH.br [10, 12] (by kernel_rfl) rfl ⟨Br.mk' rfl trivial ?_, Br.mk' rfl trivial ?_, trivial⟩
        · refine SR.call ent26 (c___spec_l1Cur__among w1323 Lc t506 s507 (hm528) ((((hm306).kn hk317 (by omega)).kp hR1324 (fun b_ hb e' => e'.elim (fun e' => by have e'' : b_ = gc := e'; omega) (fun e' => by have e'' : b_ = g9 := e'; omega)))) (by omega) (by omega) ([0, 5] : List Int) (((hm527).rd)) (by omega) (by omega) (show ¬ g517 = gc from by first | omega | (have := (hm527).base_le rfl; omega))) rfl ?_
          rintro e w1328 ⟨v1330, t1331, s1332, rfl, hb1333, ht1334, hq1335, hk1329⟩
          refine ⟨_, rfl, ?_⟩
          have hz1336 := hk1329.size
          have hB1337 := hB1327.step hk1329 (fun i_ hi_ e' => e')
          have hS1338 := (hR1324).step hk1329 (fun _ _ e => .inl e)
          have hq1339 : (0 : Int) ≤ v1330 ∧ v1330 ≤ 5 := mem_rngB (lo := 0) (hi := 5) (by decide) hq1335
          refine SR.nil ⟨hS1338, _, rfl, ?_⟩
          refine AH.br [12] (by kernel_rfl) rfl ⟨Br.mk' rfl trivial ?_, trivial⟩
          refine SR.lit (vs := [.int .i64 0, .int .i64 1, .int .i64 (-1)]) (L := ([0, 1, (-1)] : List Int)) (enc := encI) tel30 (fun _ => rfl) rfl rfl rfl (by decide) ?_
          intro g1340 w1341 hg1342 hk1343 hO1344
          have hz1345 := hk1343.size
          have hB1346 := hB1337.lo hk1343
          have hS1347 := (hS1338).lo hk1343
          refine SR.nil ⟨hS1347, _, rfl, ?_⟩
          refine AH.goto (by kernel_rfl) rfl (hn1276 _ _ ?_)
          exact ⟨g466, v1330, t1331, s1332, g1340, v479, t480, s481, g491, v505, t506, s507, g517, ⟨rfl, rfl, rfl, rfl, rfl, rfl, rfl, rfl, rfl, trivial⟩, hS1347, ((hO1344).down (by omega)), ((hb1333).lo hk1343), (((hm529).kn hk1329 (by omega)).lo hk1343), ht483, hq484, hq488, ht509, hq510, hq514, ht1334, hq1335, hq1339⟩
        · refine SR.lit (vs := [.int .i64 0, .int .i64 1, .int .i64 (-1)]) (L := ([0, 1, (-1)] : List Int)) (enc := encI) tel30 (fun _ => rfl) rfl rfl rfl (by decide) ?_
          intro g1349 w1350 hg1351 hk1352 hO1353
          have hz1354 := hk1352.size
          have hB1355 := hB1327.lo hk1352
          have hS1356 := (hR1324).lo hk1352
          have hd1357 : ¬ (pA g517) = some ⟨g1349, 0, none⟩ := fun e' => by have := (hm527).base_le e'; omega
          refine SR.nil ⟨hS1356, _, rfl, ?_⟩
          refine AH.goto (by kernel_rfl) rfl (hn1302 _ _ ?_)
          exact ⟨g466, g1349, v479, t480, s481, g491, v505, t506, s507, g517, ⟨rfl, rfl, rfl, rfl, rfl, rfl, rfl, rfl, rfl, rfl, trivial⟩, hS1356, ((hO1353).down (by omega)), (((hm527).lo hk1352).down (by omega)), ((hm528).lo hk1352), ((hm529).lo hk1352), (fun b_ h h' => hd1357 (h'.trans h.symm)), ht483, hq484, hq488, ht509, hq510, hq514⟩
      refine AH.via #[true, true, true, true, true, true, true, true, true, false, false, true, true, false, false, false] 5 (fun f' w' => ∃ (g466 : Nat) (g609 : Nat) (v479 : Int) (t480 : Int) (s481 : Int) (g491 : Nat) (v505 : Int) (t506 : Int) (s507 : Int), At f' [(0, .pointer (pA gc)), (4, .pointer (pA g9)), (5, .pointer (pA g39)), (6, .pointer (pA g48)), (42, .int .i64 v479), (47, .int .i64 v505), (48, .pointer (pA gc)), (51, .pointer (pA gc)), (52, .slice (pA g609) 3 3)] ∧ (Kp (fun b_ => b_ = gc ∨ b_ = g9) w316 w') ∧ (SlO w' w316.heap.size encI 1 3 (pA g609) 3 3 ([0, 1, (-1)] : List Int)) ∧ (Blk w' gc ec [.slice Ac nc cc, .int .i64 t506, .int .u64 s507]) ∧ (Blk w' g9 66 [.int .i64 0, .int .i64 0, .int .i64 0, .int .i64 0]) ∧ (t319 ≤ t480 ∧ t480 ≤ t319 + 2) ∧ (v479 ∈ ([0, 8, 2] : List Int)) ∧ ((0 : Int) ≤ v479 ∧ v479 ≤ 8) ∧ (t480 ≤ t506 ∧ t506 ≤ t480 + 2) ∧ (v505 ∈ ([0, m.Id, 100] : List Int)) ∧ ((v505 : Int) = 0 ∨ (v505 : Int) = m.Id ∨ (v505 : Int) = 100)) ?_ (fun hn1359 => ?_)
      · rintro f1360 w1361 ⟨g466, g609, v479, t480, s481, g491, v505, t506, s507, hat1363, hR1362, hm619, hm620, hm621, ht483, hq484, hq488, ht509, hq510, hq514⟩
        rw [← sets_of_at hat1363]
        have hz1364 := hR1362.size
        have hB1365 := hB324.step hR1362 (fun i_ hi_ e' => e'.elim (fun e' => e') (fun e' => by have e'' : i_ = g9 := e'; exfalso; omega))
        refine AH.br [9] (by kernel_rfl) rfl ⟨Br.mk' rfl trivial ?_, trivial⟩
        refine SR.lit (vs := [.int .i64 0, .int .i64 5]) (L := ([0, 5] : List Int)) (enc := encI) tel30 (fun _ => rfl) rfl rfl rfl (by decide) ?_
        intro g1366 w1367 hg1368 hk1369 hO1370
        have hz1371 := hk1369.size
        have hB1372 := hB1365.lo hk1369
        have hS1373 := (hR1362).lo hk1369
        have hd1374 : ¬ (pA g609) = some ⟨g1366, 0, none⟩ := fun e' => by have := (hm619).base_le e'; omega
        refine SR.nil ⟨hS1373, _, rfl, ?_⟩
        refine AH.goto (by kernel_rfl) rfl (hn1302 _ _ ?_)
        exact ⟨g466, g609, v479, t480, s481, g491, v505, t506, s507, g1366, ⟨rfl, rfl, rfl, rfl, rfl, rfl, rfl, rfl, rfl, rfl, trivial⟩, hS1373, (((hm619).lo hk1369).down (by omega)), ((hO1370).down (by omega)), ((hm620).lo hk1369), ((hm621).lo hk1369), (fun b_ h h' => hd1374 (h.trans h'.symm)), ht483, hq484, hq488, ht509, hq510, hq514⟩
      refine AH.via #[true, true, true, true, true, true, true, false, true, true, false, true, true, false, false, false] 5 (fun f' w' => ∃ (g466 : Nat) (g660 : Nat) (v479 : Int) (t480 : Int) (s481 : Int) (g491 : Nat) (g633 : Nat), At f' [(0, .pointer (pA gc)), (4, .pointer (pA g9)), (5, .pointer (pA g39)), (6, .pointer (pA g48)), (42, .int .i64 v479), (43, .pointer (pA gc)), (46, .slice (pA g491) 3 3), (48, .pointer (pA gc)), (49, .slice (pA g633) 2 2), (51, .pointer (pA gc)), (52, .slice (pA g660) 3 3)] ∧ (Kp (fun b_ => b_ = gc ∨ b_ = g9) w316 w') ∧ (SlO w' w316.heap.size encI 1 3 (pA g660) 3 3 ([0, 1, (-1)] : List Int)) ∧ (SlO w' w316.heap.size encI 1 3 (pA g491) 3 3 ([0, m.Id, 100] : List Int)) ∧ (SlO w' w316.heap.size encI 1 3 (pA g633) 2 2 ([0, 5] : List Int)) ∧ (Blk w' gc ec [.slice Ac nc cc, .int .i64 t480, .int .u64 s481]) ∧ (Blk w' g9 66 [.int .i64 0, .int .i64 0, .int .i64 0, .int .i64 0]) ∧ (∀ b_, (pA g660) = some ⟨b_, 0, none⟩ → ¬ (pA g491) = some ⟨b_, 0, none⟩) ∧ (∀ b_, (pA g660) = some ⟨b_, 0, none⟩ → ¬ (pA g633) = some ⟨b_, 0, none⟩) ∧ (∀ b_, (pA g491) = some ⟨b_, 0, none⟩ → ¬ (pA g633) = some ⟨b_, 0, none⟩) ∧ (t319 ≤ t480 ∧ t480 ≤ t319 + 2) ∧ (v479 ∈ ([0, 8, 2] : List Int)) ∧ ((0 : Int) ≤ v479 ∧ v479 ≤ 8)) ?_ (fun hn1376 => ?_)
      · rintro f1377 w1378 ⟨g466, g660, v479, t480, s481, g491, g633, hat1380, hR1379, hm671, hm672, hm673, hm674, hm675, hd676, hd677, hd678, ht483, hq484, hq488⟩
        rw [← sets_of_at hat1380]
        have hz1381 := hR1379.size
        have hB1382 := hB324.step hR1379 (fun i_ hi_ e' => e'.elim (fun e' => e') (fun e' => by have e'' : i_ = g9 := e'; exfalso; omega))
        refine AH.br [7] (by kernel_rfl) rfl ⟨Br.mk' rfl trivial ?_, trivial⟩
        refine SR.call ent26 (c___spec_l1Cur__among w1378 Lc t480 s481 (hm674) ((((hm306).kn hk317 (by omega)).kp hR1379 (fun b_ hb e' => e'.elim (fun e' => by have e'' : b_ = gc := e'; omega) (fun e' => by have e'' : b_ = g9 := e'; omega)))) (by omega) (by omega) ([0, m.Id, 100] : List Int) (((hm672).rd)) (by omega) (by omega) (show ¬ g491 = gc from by first | omega | (have := (hm672).base_le rfl; omega))) rfl ?_
        rintro e w1383 ⟨v1385, t1386, s1387, rfl, hb1388, ht1389, hq1390, hk1384⟩
        refine ⟨_, rfl, ?_⟩
        have hz1391 := hk1384.size
        have hB1392 := hB1382.step hk1384 (fun i_ hi_ e' => e')
        have hS1393 := (hR1379).step hk1384 (fun _ _ e => .inl e)
        have hq1394 : (v1385 : Int) = 0 ∨ (v1385 : Int) = m.Id ∨ (v1385 : Int) = 100 := by simpa only [List.mem_cons, List.not_mem_nil, or_false] using hq1390
        refine SR.nil ⟨hS1393, _, rfl, ?_⟩
        refine AH.goto (by kernel_rfl) rfl (hn1302 _ _ ?_)
        exact ⟨g466, g660, v479, t480, s481, g491, v1385, t1386, s1387, g633, ⟨rfl, rfl, rfl, rfl, rfl, rfl, rfl, rfl, rfl, rfl, trivial⟩, hS1393, (((hm671).kn hk1384 (by omega)).down (by omega)), (((hm673).kn hk1384 (by omega)).down (by omega)), (hb1388), ((hm675).kn hk1384 (by omega)), hd677, ht483, hq484, hq488, ht1389, hq1390, hq1394⟩
      refine AH.via #[true, true, true, true, true, true, true, false, true, true, false, true, false, false, false, false] 6 (fun f' w' => ∃ (g466 : Nat) (v479 : Int) (t480 : Int) (s481 : Int) (g491 : Nat) (g633 : Nat), At f' [(0, .pointer (pA gc)), (4, .pointer (pA g9)), (5, .pointer (pA g39)), (6, .pointer (pA g48)), (42, .int .i64 v479), (43, .pointer (pA gc)), (46, .slice (pA g491) 3 3), (48, .pointer (pA gc)), (49, .slice (pA g633) 2 2), (51, .pointer (pA gc))] ∧ (Kp (fun b_ => b_ = gc ∨ b_ = g9) w316 w') ∧ (SlO w' w316.heap.size encI 1 3 (pA g491) 3 3 ([0, m.Id, 100] : List Int)) ∧ (SlO w' w316.heap.size encI 1 3 (pA g633) 2 2 ([0, 5] : List Int)) ∧ (Blk w' gc ec [.slice Ac nc cc, .int .i64 t480, .int .u64 s481]) ∧ (Blk w' g9 66 [.int .i64 0, .int .i64 0, .int .i64 0, .int .i64 0]) ∧ (∀ b_, (pA g491) = some ⟨b_, 0, none⟩ → ¬ (pA g633) = some ⟨b_, 0, none⟩) ∧ (t319 ≤ t480 ∧ t480 ≤ t319 + 2) ∧ (v479 ∈ ([0, 8, 2] : List Int)) ∧ ((0 : Int) ≤ v479 ∧ v479 ≤ 8)) ?_ (fun hn1396 => ?_)
      · rintro f1397 w1398 ⟨g466, v479, t480, s481, g491, g633, hat1400, hR1399, hm643, hm644, hm645, hm646, hd647, ht483, hq484, hq488⟩
        rw [← sets_of_at hat1400]
        have hz1401 := hR1399.size
        have hB1402 := hB324.step hR1399 (fun i_ hi_ e' => e'.elim (fun e' => e') (fun e' => by have e'' : i_ = g9 := e'; exfalso; omega))
        refine AH.br [7, 12] (by kernel_rfl) rfl ⟨Br.mk' rfl trivial ?_, Br.mk' rfl trivial ?_, trivial⟩
        · refine SR.call ent26 (c___spec_l1Cur__among w1398 Lc t480 s481 (hm645) ((((hm306).kn hk317 (by omega)).kp hR1399 (fun b_ hb e' => e'.elim (fun e' => by have e'' : b_ = gc := e'; omega) (fun e' => by have e'' : b_ = g9 := e'; omega)))) (by omega) (by omega) ([0, m.Id, 100] : List Int) (((hm643).rd)) (by omega) (by omega) (show ¬ g491 = gc from by first | omega | (have := (hm643).base_le rfl; omega))) rfl ?_
          rintro e w1403 ⟨v1405, t1406, s1407, rfl, hb1408, ht1409, hq1410, hk1404⟩
          refine ⟨_, rfl, ?_⟩
          have hz1411 := hk1404.size
          have hB1412 := hB1402.step hk1404 (fun i_ hi_ e' => e')
          have hS1413 := (hR1399).step hk1404 (fun _ _ e => .inl e)
          have hq1414 : (v1405 : Int) = 0 ∨ (v1405 : Int) = m.Id ∨ (v1405 : Int) = 100 := by simpa only [List.mem_cons, List.not_mem_nil, or_false] using hq1410
          refine SR.nil ⟨hS1413, _, rfl, ?_⟩
          refine AH.goto (by kernel_rfl) rfl (hn1321 _ _ ?_)
          exact ⟨g466, v479, t480, s481, g491, v1405, t1406, s1407, g633, ⟨rfl, rfl, rfl, rfl, rfl, rfl, rfl, rfl, rfl, trivial⟩, hS1413, (((hm644).kn hk1404 (by omega)).down (by omega)), (hb1408), ((hm646).kn hk1404 (by omega)), ht483, hq484, hq488, ht1409, hq1410, hq1414⟩
        · refine SR.lit (vs := [.int .i64 0, .int .i64 1, .int .i64 (-1)]) (L := ([0, 1, (-1)] : List Int)) (enc := encI) tel30 (fun _ => rfl) rfl rfl rfl (by decide) ?_
          intro g1415 w1416 hg1417 hk1418 hO1419
          have hz1420 := hk1418.size
          have hB1421 := hB1402.lo hk1418
          have hS1422 := (hR1399).lo hk1418
          have hd1423 : ¬ (pA g491) = some ⟨g1415, 0, none⟩ := fun e' => by have := (hm643).base_le e'; omega
          have hd1424 : ¬ (pA g633) = some ⟨g1415, 0, none⟩ := fun e' => by have := (hm644).base_le e'; omega
          refine SR.nil ⟨hS1422, _, rfl, ?_⟩
          refine AH.goto (by kernel_rfl) rfl (hn1376 _ _ ?_)
          exact ⟨g466, g1415, v479, t480, s481, g491, g633, ⟨rfl, rfl, rfl, rfl, rfl, rfl, rfl, rfl, rfl, rfl, rfl, trivial⟩, hS1422, ((hO1419).down (by omega)), (((hm643).lo hk1418).down (by omega)), (((hm644).lo hk1418).down (by omega)), ((hm645).lo hk1418), ((hm646).lo hk1418), (fun b_ h h' => hd1423 (h'.trans h.symm)), (fun b_ h h' => hd1424 (h'.trans h.symm)), hd647, ht483, hq484, hq488⟩
      refine AH.via #[true, true, true, true, true, true, true, false, true, false, false, true, true, false, false, false] 6 (fun f' w' => ∃ (g466 : Nat) (g691 : Nat) (v479 : Int) (t480 : Int) (s481 : Int) (g491 : Nat), At f' [(0, .pointer (pA gc)), (4, .pointer (pA g9)), (5, .pointer (pA g39)), (6, .pointer (pA g48)), (42, .int .i64 v479), (43, .pointer (pA gc)), (46, .slice (pA g491) 3 3), (48, .pointer (pA gc)), (51, .pointer (pA gc)), (52, .slice (pA g691) 3 3)] ∧ (Kp (fun b_ => b_ = gc ∨ b_ = g9) w316 w') ∧ (SlO w' w316.heap.size encI 1 3 (pA g691) 3 3 ([0, 1, (-1)] : List Int)) ∧ (SlO w' w316.heap.size encI 1 3 (pA g491) 3 3 ([0, m.Id, 100] : List Int)) ∧ (Blk w' gc ec [.slice Ac nc cc, .int .i64 t480, .int .u64 s481]) ∧ (Blk w' g9 66 [.int .i64 0, .int .i64 0, .int .i64 0, .int .i64 0]) ∧ (∀ b_, (pA g691) = some ⟨b_, 0, none⟩ → ¬ (pA g491) = some ⟨b_, 0, none⟩) ∧ (t319 ≤ t480 ∧ t480 ≤ t319 + 2) ∧ (v479 ∈ ([0, 8, 2] : List Int)) ∧ ((0 : Int) ≤ v479 ∧ v479 ≤ 8)) ?_ (fun hn1428 => ?_)
      · rintro f1429 w1430 ⟨g466, g691, v479, t480, s481, g491, hat1432, hR1431, hm701, hm702, hm703, hm704, hd705, ht483, hq484, hq488⟩
        rw [← sets_of_at hat1432]
        have hz1433 := hR1431.size
        have hB1434 := hB324.step hR1431 (fun i_ hi_ e' => e'.elim (fun e' => e') (fun e' => by have e'' : i_ = g9 := e'; exfalso; omega))
        refine AH.br [7, 9] (by kernel_rfl) rfl ⟨Br.mk' rfl trivial ?_, Br.mk' rfl trivial ?_, trivial⟩
        · refine SR.call ent26 (c___spec_l1Cur__among w1430 Lc t480 s481 (hm703) ((((hm306).kn hk317 (by omega)).kp hR1431 (fun b_ hb e' => e'.elim (fun e' => by have e'' : b_ = gc := e'; omega) (fun e' => by have e'' : b_ = g9 := e'; omega)))) (by omega) (by omega) ([0, m.Id, 100] : List Int) (((hm702).rd)) (by omega) (by omega) (show ¬ g491 = gc from by first | omega | (have := (hm702).base_le rfl; omega))) rfl ?_
          rintro e w1435 ⟨v1437, t1438, s1439, rfl, hb1440, ht1441, hq1442, hk1436⟩
          refine ⟨_, rfl, ?_⟩
          have hz1443 := hk1436.size
          have hB1444 := hB1434.step hk1436 (fun i_ hi_ e' => e')
          have hS1445 := (hR1431).step hk1436 (fun _ _ e => .inl e)
          have hq1446 : (v1437 : Int) = 0 ∨ (v1437 : Int) = m.Id ∨ (v1437 : Int) = 100 := by simpa only [List.mem_cons, List.not_mem_nil, or_false] using hq1442
          refine SR.nil ⟨hS1445, _, rfl, ?_⟩
          refine AH.goto (by kernel_rfl) rfl (hn1359 _ _ ?_)
          exact ⟨g466, g691, v479, t480, s481, g491, v1437, t1438, s1439, ⟨rfl, rfl, rfl, rfl, rfl, rfl, rfl, rfl, rfl, trivial⟩, hS1445, (((hm701).kn hk1436 (by omega)).down (by omega)), (hb1440), ((hm704).kn hk1436 (by omega)), ht483, hq484, hq488, ht1441, hq1442, hq1446⟩
        · refine SR.lit (vs := [.int .i64 0, .int .i64 5]) (L := ([0, 5] : List Int)) (enc := encI) tel30 (fun _ => rfl) rfl rfl rfl (by decide) ?_
          intro g1447 w1448 hg1449 hk1450 hO1451
          have hz1452 := hk1450.size
          have hB1453 := hB1434.lo hk1450
          have hS1454 := (hR1431).lo hk1450
          have hd1455 : ¬ (pA g491) = some ⟨g1447, 0, none⟩ := fun e' => by have := (hm702).base_le e'; omega
          have hd1456 : ¬ (pA g691) = some ⟨g1447, 0, none⟩ := fun e' => by have := (hm701).base_le e'; omega
          refine SR.nil ⟨hS1454, _, rfl, ?_⟩
          refine AH.goto (by kernel_rfl) rfl (hn1376 _ _ ?_)
          exact ⟨g466, g691, v479, t480, s481, g491, g1447, ⟨rfl, rfl, rfl, rfl, rfl, rfl, rfl, rfl, rfl, rfl, rfl, trivial⟩, hS1454, (((hm701).lo hk1450).down (by omega)), (((hm702).lo hk1450).down (by omega)), ((hO1451).down (by omega)), ((hm703).lo hk1450), ((hm704).lo hk1450), hd705, (fun b_ h h' => hd1456 (h.trans h'.symm)), (fun b_ h h' => hd1455 (h.trans h'.symm)), ht483, hq484, hq488⟩
      refine AH.via #[true, true, true, true, true, true, false, false, true, true, false, true, true, false, false, false] 6 (fun f' w' => ∃ (g466 : Nat) (g751 : Nat) (v479 : Int) (t480 : Int) (s481 : Int) (g729 : Nat), At f' [(0, .pointer (pA gc)), (4, .pointer (pA g9)), (5, .pointer (pA g39)), (6, .pointer (pA g48)), (42, .int .i64 v479), (43, .pointer (pA gc)), (45, .int .i64 m.Id), (48, .pointer (pA gc)), (49, .slice (pA g729) 2 2), (51, .pointer (pA gc)), (52, .slice (pA g751) 3 3)] ∧ (Kp (fun b_ => b_ = gc ∨ b_ = g9) w316 w') ∧ (SlO w' w316.heap.size encI 1 3 (pA g751) 3 3 ([0, 1, (-1)] : List Int)) ∧ (SlO w' w316.heap.size encI 1 3 (pA g729) 2 2 ([0, 5] : List Int)) ∧ (Blk w' gc ec [.slice Ac nc cc, .int .i64 t480, .int .u64 s481]) ∧ (Blk w' g9 66 [.int .i64 0, .int .i64 0, .int .i64 0, .int .i64 0]) ∧ (∀ b_, (pA g751) = some ⟨b_, 0, none⟩ → ¬ (pA g729) = some ⟨b_, 0, none⟩) ∧ (t319 ≤ t480 ∧ t480 ≤ t319 + 2) ∧ (v479 ∈ ([0, 8, 2] : List Int)) ∧ ((0 : Int) ≤ v479 ∧ v479 ≤ 8)) ?_ (fun hn1460 => ?_)
      · rintro f1461 w1462 ⟨g466, g751, v479, t480, s481, g729, hat1464, hR1463, hm761, hm762, hm763, hm764, hd765, ht483, hq484, hq488⟩
        rw [← sets_of_at hat1464]
        have hz1465 := hR1463.size
        have hB1466 := hB324.step hR1463 (fun i_ hi_ e' => e'.elim (fun e' => e') (fun e' => by have e'' : i_ = g9 := e'; exfalso; omega))
        refine AH.br [6] (by kernel_rfl) rfl ⟨Br.mk' rfl trivial ?_, trivial⟩
        refine SR.lit (vs := [.int .i64 0, .int .i64 m.Id, .int .i64 100]) (L := ([0, m.Id, 100] : List Int)) (enc := encI) tel30 (fun _ => rfl) rfl rfl rfl (by decide) ?_
        intro g1467 w1468 hg1469 hk1470 hO1471
        have hz1472 := hk1470.size
        have hB1473 := hB1466.lo hk1470
        have hS1474 := (hR1463).lo hk1470
        have hd1475 : ¬ (pA g729) = some ⟨g1467, 0, none⟩ := fun e' => by have := (hm762).base_le e'; omega
        have hd1476 : ¬ (pA g751) = some ⟨g1467, 0, none⟩ := fun e' => by have := (hm761).base_le e'; omega
        refine SR.nil ⟨hS1474, _, rfl, ?_⟩
        refine AH.goto (by kernel_rfl) rfl (hn1376 _ _ ?_)
        exact ⟨g466, g751, v479, t480, s481, g1467, g729, ⟨rfl, rfl, rfl, rfl, rfl, rfl, rfl, rfl, rfl, rfl, rfl, trivial⟩, hS1474, (((hm761).lo hk1470).down (by omega)), ((hO1471).down (by omega)), (((hm762).lo hk1470).down (by omega)), ((hm763).lo hk1470), ((hm764).lo hk1470), (fun b_ h h' => hd1476 (h.trans h'.symm)), hd765, (fun b_ h h' => hd1475 (h'.trans h.symm)), ht483, hq484, hq488⟩
      refine AH.via #[true, true, false, true, true, true, true, false, true, true, false, true, true, false, false, false] 6 (fun f' w' => ∃ (g466 : Nat) (g865 : Nat) (g809 : Nat) (g835 : Nat), At f' [(0, .pointer (pA gc)), (4, .pointer (pA g9)), (5, .pointer (pA g39)), (6, .pointer (pA g48)), (40, .pointer (pA gc)), (41, .slice (pA g466) 3 3), (43, .pointer (pA gc)), (46, .slice (pA g809) 3 3), (48, .pointer (pA gc)), (49, .slice (pA g835) 2 2), (51, .pointer (pA gc)), (52, .slice (pA g865) 3 3)] ∧ (Kp (fun b_ => b_ = gc ∨ b_ = g9) w316 w') ∧ (SlO w' w316.heap.size encI 1 3 (pA g466) 3 3 ([0, 8, 2] : List Int)) ∧ (SlO w' w316.heap.size encI 1 3 (pA g865) 3 3 ([0, 1, (-1)] : List Int)) ∧ (SlO w' w316.heap.size encI 1 3 (pA g809) 3 3 ([0, m.Id, 100] : List Int)) ∧ (SlO w' w316.heap.size encI 1 3 (pA g835) 2 2 ([0, 5] : List Int)) ∧ (Blk w' gc ec [.slice Ac nc cc, .int .i64 t319, .int .u64 s320]) ∧ (Blk w' g9 66 [.int .i64 0, .int .i64 0, .int .i64 0, .int .i64 0]) ∧ (∀ b_, (pA g466) = some ⟨b_, 0, none⟩ → ¬ (pA g865) = some ⟨b_, 0, none⟩) ∧ (∀ b_, (pA g466) = some ⟨b_, 0, none⟩ → ¬ (pA g809) = some ⟨b_, 0, none⟩) ∧ (∀ b_, (pA g466) = some ⟨b_, 0, none⟩ → ¬ (pA g835) = some ⟨b_, 0, none⟩) ∧ (∀ b_, (pA g865) = some ⟨b_, 0, none⟩ → ¬ (pA g809) = some ⟨b_, 0, none⟩) ∧ (∀ b_, (pA g865) = some ⟨b_, 0, none⟩ → ¬ (pA g835) = some ⟨b_, 0, none⟩) ∧ (∀ b_, (pA g809) = some ⟨b_, 0, none⟩ → ¬ (pA g835) = some ⟨b_, 0, none⟩)) ?_ (fun hn1480 => ?_)
      · rintro f1481 w1482 ⟨g466, g865, g809, g835, hat1484, hR1483, hm876, hm877, hm878, hm879, hm880, hm881, hd882, hd883, hd884, hd885, hd886, hd887⟩
        rw [← sets_of_at hat1484]
        have hz1485 := hR1483.size
        have hB1486 := hB324.step hR1483 (fun i_ hi_ e' => e'.elim (fun e' => e') (fun e' => by have e'' : i_ = g9 := e'; exfalso; omega))
        refine AH.br [2] (by kernel_rfl) rfl ⟨Br.mk' rfl trivial ?_, trivial⟩
        refine SR.call ent26 (c___spec_l1Cur__among w1482 Lc t319 s320 (hm880) ((((hm306).kn hk317 (by omega)).kp hR1483 (fun b_ hb e' => e'.elim (fun e' => by have e'' : b_ = gc := e'; omega) (fun e' => by have e'' : b_ = g9 := e'; omega)))) (by omega) (by omega) ([0, 8, 2] : List Int) (((hm876).rd)) (by omega) (by omega) (show ¬ g466 = gc from by first | omega | (have := (hm876).base_le rfl; omega))) rfl ?_
        rintro e w1487 ⟨v1489, t1490, s1491, rfl, hb1492, ht1493, hq1494, hk1488⟩
        refine ⟨_, rfl, ?_⟩
        have hz1495 := hk1488.size
        have hB1496 := hB1486.step hk1488 (fun i_ hi_ e' => e')
        have hS1497 := (hR1483).step hk1488 (fun _ _ e => .inl e)
        have hq1498 : (0 : Int) ≤ v1489 ∧ v1489 ≤ 8 := mem_rngB (lo := 0) (hi := 8) (by decide) hq1494
        refine SR.nil ⟨hS1497, _, rfl, ?_⟩
        refine AH.goto (by kernel_rfl) rfl (hn1376 _ _ ?_)
        exact ⟨g466, g865, v1489, t1490, s1491, g809, g835, ⟨rfl, rfl, rfl, rfl, rfl, rfl, rfl, rfl, rfl, rfl, rfl, trivial⟩, hS1497, (((hm877).kn hk1488 (by omega)).down (by omega)), (((hm878).kn hk1488 (by omega)).down (by omega)), (((hm879).kn hk1488 (by omega)).down (by omega)), (hb1492), ((hm881).kn hk1488 (by omega)), hd885, hd886, hd887, ht1493, hq1494, hq1498⟩
      refine AH.via #[true, true, true, true, true, true, true, false, true, false, false, true, false, false, false, false] 7 (fun f' w' => ∃ (g466 : Nat) (v479 : Int) (t480 : Int) (s481 : Int) (g491 : Nat), At f' [(0, .pointer (pA gc)), (4, .pointer (pA g9)), (5, .pointer (pA g39)), (6, .pointer (pA g48)), (42, .int .i64 v479), (43, .pointer (pA gc)), (46, .slice (pA g491) 3 3), (48, .pointer (pA gc)), (51, .pointer (pA gc))] ∧ (Kp (fun b_ => b_ = gc ∨ b_ = g9) w316 w') ∧ (SlO w' w316.heap.size encI 1 3 (pA g491) 3 3 ([0, m.Id, 100] : List Int)) ∧ (Blk w' gc ec [.slice Ac nc cc, .int .i64 t480, .int .u64 s481]) ∧ (Blk w' g9 66 [.int .i64 0, .int .i64 0, .int .i64 0, .int .i64 0]) ∧ (t319 ≤ t480 ∧ t480 ≤ t319 + 2) ∧ (v479 ∈ ([0, 8, 2] : List Int)) ∧ ((0 : Int) ≤ v479 ∧ v479 ≤ 8)) ?_ (fun hn1502 => ?_)
      · rintro f1503 w1504 ⟨g466, v479, t480, s481, g491, hat1506, hR1505, hm500, hm501, hm502, ht483, hq484, hq488⟩
        rw [← sets_of_at hat1506]
        have hz1507 := hR1505.size
        have hB1508 := hB324.step hR1505 (fun i_ hi_ e' => e'.elim (fun e' => e') (fun e' => by have e'' : i_ = g9 := e'; exfalso; omega))
        refine AH.br [7, 9, 12] (by kernel_rfl) rfl ⟨Br.mk' rfl trivial ?_, Br.mk' rfl trivial ?_, Br.mk' rfl trivial ?_, trivial⟩
        · refine SR.call ent26 (c___spec_l1Cur__among w1504 Lc t480 s481 (hm501) ((((hm306).kn hk317 (by omega)).kp hR1505 (fun b_ hb e' => e'.elim (fun e' => by have e'' : b_ = gc := e'; omega) (fun e' => by have e'' : b_ = g9 := e'; omega)))) (by omega) (by omega) ([0, m.Id, 100] : List Int) (((hm500).rd)) (by omega) (by omega) (show ¬ g491 = gc from by first | omega | (have := (hm500).base_le rfl; omega))) rfl ?_
          rintro e w1509 ⟨v1511, t1512, s1513, rfl, hb1514, ht1515, hq1516, hk1510⟩
          refine ⟨_, rfl, ?_⟩
          have hz1517 := hk1510.size
          have hB1518 := hB1508.step hk1510 (fun i_ hi_ e' => e')
          have hS1519 := (hR1505).step hk1510 (fun _ _ e => .inl e)
          have hq1520 : (v1511 : Int) = 0 ∨ (v1511 : Int) = m.Id ∨ (v1511 : Int) = 100 := by simpa only [List.mem_cons, List.not_mem_nil, or_false] using hq1516
          refine SR.nil ⟨hS1519, _, rfl, ?_⟩
          refine AH.br [9, 12] (by kernel_rfl) rfl ⟨Br.mk' rfl trivial ?_, Br.mk' rfl trivial ?_, trivial⟩
          · refine SR.lit (vs := [.int .i64 0, .int .i64 5]) (L := ([0, 5] : List Int)) (enc := encI) tel30 (fun _ => rfl) rfl rfl rfl (by decide) ?_
            intro g1521 w1522 hg1523 hk1524 hO1525
            have hz1526 := hk1524.size
            have hB1527 := hB1518.lo hk1524
            have hS1528 := (hS1519).lo hk1524
            refine SR.nil ⟨hS1528, _, rfl, ?_⟩
            refine AH.goto (by kernel_rfl) rfl (hn1321 _ _ ?_)
            exact ⟨g466, v479, t480, s481, g491, v1511, t1512, s1513, g1521, ⟨rfl, rfl, rfl, rfl, rfl, rfl, rfl, rfl, rfl, trivial⟩, hS1528, ((hO1525).down (by omega)), ((hb1514).lo hk1524), (((hm502).kn hk1510 (by omega)).lo hk1524), ht483, hq484, hq488, ht1515, hq1516, hq1520⟩
          · refine SR.lit (vs := [.int .i64 0, .int .i64 1, .int .i64 (-1)]) (L := ([0, 1, (-1)] : List Int)) (enc := encI) tel30 (fun _ => rfl) rfl rfl rfl (by decide) ?_
            intro g1530 w1531 hg1532 hk1533 hO1534
            have hz1535 := hk1533.size
            have hB1536 := hB1518.lo hk1533
            have hS1537 := (hS1519).lo hk1533
            refine SR.nil ⟨hS1537, _, rfl, ?_⟩
            refine AH.goto (by kernel_rfl) rfl (hn1359 _ _ ?_)
            exact ⟨g466, g1530, v479, t480, s481, g491, v1511, t1512, s1513, ⟨rfl, rfl, rfl, rfl, rfl, rfl, rfl, rfl, rfl, trivial⟩, hS1537, ((hO1534).down (by omega)), ((hb1514).lo hk1533), (((hm502).kn hk1510 (by omega)).lo hk1533), ht483, hq484, hq488, ht1515, hq1516, hq1520⟩
        · refine SR.lit (vs := [.int .i64 0, .int .i64 5]) (L := ([0, 5] : List Int)) (enc := encI) tel30 (fun _ => rfl) rfl rfl rfl (by decide) ?_
          intro g1539 w1540 hg1541 hk1542 hO1543
          have hz1544 := hk1542.size
          have hB1545 := hB1508.lo hk1542
          have hS1546 := (hR1505).lo hk1542
          have hd1547 : ¬ (pA g491) = some ⟨g1539, 0, none⟩ := fun e' => by have := (hm500).base_le e'; omega
          refine SR.nil ⟨hS1546, _, rfl, ?_⟩
          refine AH.goto (by kernel_rfl) rfl (hn1396 _ _ ?_)
          exact ⟨g466, v479, t480, s481, g491, g1539, ⟨rfl, rfl, rfl, rfl, rfl, rfl, rfl, rfl, rfl, rfl, trivial⟩, hS1546, (((hm500).lo hk1542).down (by omega)), ((hO1543).down (by omega)), ((hm501).lo hk1542), ((hm502).lo hk1542), (fun b_ h h' => hd1547 (h.trans h'.symm)), ht483, hq484, hq488⟩
        · refine SR.lit (vs := [.int .i64 0, .int .i64 1, .int .i64 (-1)]) (L := ([0, 1, (-1)] : List Int)) (enc := encI) tel30 (fun _ => rfl) rfl rfl rfl (by decide) ?_
          intro g1549 w1550 hg1551 hk1552 hO1553
          have hz1554 := hk1552.size
          have hB1555 := hB1508.lo hk1552
          have hS1556 := (hR1505).lo hk1552
          have hd1557 : ¬ (pA g491) = some ⟨g1549, 0, none⟩ := fun e' => by have := (hm500).base_le e'; omega
          refine SR.nil ⟨hS1556, _, rfl, ?_⟩
          refine AH.goto (by kernel_rfl) rfl (hn1428 _ _ ?_)
          exact ⟨g466, g1549, v479, t480, s481, g491, ⟨rfl, rfl, rfl, rfl, rfl, rfl, rfl, rfl, rfl, rfl, trivial⟩, hS1556, ((hO1553).down (by omega)), (((hm500).lo hk1552).down (by omega)), ((hm501).lo hk1552), ((hm502).lo hk1552), (fun b_ h h' => hd1557 (h'.trans h.symm)), ht483, hq484, hq488⟩
      refine AH.via #[true, true, true, true, true, true, false, false, true, true, false, true, false, false, false, false] 7 (fun f' w' => ∃ (g466 : Nat) (v479 : Int) (t480 : Int) (s481 : Int) (g729 : Nat), At f' [(0, .pointer (pA gc)), (4, .pointer (pA g9)), (5, .pointer (pA g39)), (6, .pointer (pA g48)), (42, .int .i64 v479), (43, .pointer (pA gc)), (45, .int .i64 m.Id), (48, .pointer (pA gc)), (49, .slice (pA g729) 2 2), (51, .pointer (pA gc))] ∧ (Kp (fun b_ => b_ = gc ∨ b_ = g9) w316 w') ∧ (SlO w' w316.heap.size encI 1 3 (pA g729) 2 2 ([0, 5] : List Int)) ∧ (Blk w' gc ec [.slice Ac nc cc, .int .i64 t480, .int .u64 s481]) ∧ (Blk w' g9 66 [.int .i64 0, .int .i64 0, .int .i64 0, .int .i64 0]) ∧ (t319 ≤ t480 ∧ t480 ≤ t319 + 2) ∧ (v479 ∈ ([0, 8, 2] : List Int)) ∧ ((0 : Int) ≤ v479 ∧ v479 ≤ 8)) ?_ (fun hn1559 => ?_)
      · rintro f1560 w1561 ⟨g466, v479, t480, s481, g729, hat1563, hR1562, hm738, hm739, hm740, ht483, hq484, hq488⟩
        rw [← sets_of_at hat1563]
        have hz1564 := hR1562.size
        have hB1565 := hB324.step hR1562 (fun i_ hi_ e' => e'.elim (fun e' => e') (fun e' => by have e'' : i_ = g9 := e'; exfalso; omega))
        refine AH.br [6, 12] (by kernel_rfl) rfl ⟨Br.mk' rfl trivial ?_, Br.mk' rfl trivial ?_, trivial⟩
        · refine SR.lit (vs := [.int .i64 0, .int .i64 m.Id, .int .i64 100]) (L := ([0, m.Id, 100] : List Int)) (enc := encI) tel30 (fun _ => rfl) rfl rfl rfl (by decide) ?_
          intro g1566 w1567 hg1568 hk1569 hO1570
          have hz1571 := hk1569.size
          have hB1572 := hB1565.lo hk1569
          have hS1573 := (hR1562).lo hk1569
          have hd1574 : ¬ (pA g729) = some ⟨g1566, 0, none⟩ := fun e' => by have := (hm738).base_le e'; omega
          refine SR.nil ⟨hS1573, _, rfl, ?_⟩
          refine AH.goto (by kernel_rfl) rfl (hn1396 _ _ ?_)
          exact ⟨g466, v479, t480, s481, g1566, g729, ⟨rfl, rfl, rfl, rfl, rfl, rfl, rfl, rfl, rfl, rfl, trivial⟩, hS1573, ((hO1570).down (by omega)), (((hm738).lo hk1569).down (by omega)), ((hm739).lo hk1569), ((hm740).lo hk1569), (fun b_ h h' => hd1574 (h'.trans h.symm)), ht483, hq484, hq488⟩
        · refine SR.lit (vs := [.int .i64 0, .int .i64 1, .int .i64 (-1)]) (L := ([0, 1, (-1)] : List Int)) (enc := encI) tel30 (fun _ => rfl) rfl rfl rfl (by decide) ?_
          intro g1576 w1577 hg1578 hk1579 hO1580
          have hz1581 := hk1579.size
          have hB1582 := hB1565.lo hk1579
          have hS1583 := (hR1562).lo hk1579
          have hd1584 : ¬ (pA g729) = some ⟨g1576, 0, none⟩ := fun e' => by have := (hm738).base_le e'; omega
          refine SR.nil ⟨hS1583, _, rfl, ?_⟩
          refine AH.goto (by kernel_rfl) rfl (hn1460 _ _ ?_)
          exact ⟨g466, g1576, v479, t480, s481, g729, ⟨rfl, rfl, rfl, rfl, rfl, rfl, rfl, rfl, rfl, rfl, rfl, trivial⟩, hS1583, ((hO1580).down (by omega)), (((hm738).lo hk1579).down (by omega)), ((hm739).lo hk1579), ((hm740).lo hk1579), (fun b_ h h' => hd1584 (h'.trans h.symm)), ht483, hq484, hq488⟩
      refine AH.via #[true, true, true, true, true, true, false, false, true, false, false, true, true, false, false, false] 7 (fun f' w' => ∃ (g466 : Nat) (g777 : Nat) (v479 : Int) (t480 : Int) (s481 : Int), At f' [(0, .pointer (pA gc)), (4, .pointer (pA g9)), (5, .pointer (pA g39)), (6, .pointer (pA g48)), (42, .int .i64 v479), (43, .pointer (pA gc)), (45, .int .i64 m.Id), (48, .pointer (pA gc)), (51, .pointer (pA gc)), (52, .slice (pA g777) 3 3)] ∧ (Kp (fun b_ => b_ = gc ∨ b_ = g9) w316 w') ∧ (SlO w' w316.heap.size encI 1 3 (pA g777) 3 3 ([0, 1, (-1)] : List Int)) ∧ (Blk w' gc ec [.slice Ac nc cc, .int .i64 t480, .int .u64 s481]) ∧ (Blk w' g9 66 [.int .i64 0, .int .i64 0, .int .i64 0, .int .i64 0]) ∧ (t319 ≤ t480 ∧ t480 ≤ t319 + 2) ∧ (v479 ∈ ([0, 8, 2] : List Int)) ∧ ((0 : Int) ≤ v479 ∧ v479 ≤ 8)) ?_ (fun hn1586 => ?_)
      · rintro f1587 w1588 ⟨g466, g777, v479, t480, s481, hat1590, hR1589, hm786, hm787, hm788, ht483, hq484, hq488⟩
        rw [← sets_of_at hat1590]
        have hz1591 := hR1589.size
        have hB1592 := hB324.step hR1589 (fun i_ hi_ e' => e'.elim (fun e' => e') (fun e' => by have e'' : i_ = g9 := e'; exfalso; omega))
        refine AH.br [6, 9] (by kernel_rfl) rfl ⟨Br.mk' rfl trivial ?_, Br.mk' rfl trivial ?_, trivial⟩
        · refine SR.lit (vs := [.int .i64 0, .int .i64 m.Id, .int .i64 100]) (L := ([0, m.Id, 100] : List Int)) (enc := encI) tel30 (fun _ => rfl) rfl rfl rfl (by decide) ?_
          intro g1593 w1594 hg1595 hk1596 hO1597
          have hz1598 := hk1596.size
          have hB1599 := hB1592.lo hk1596
          have hS1600 := (hR1589).lo hk1596
          have hd1601 : ¬ (pA g777) = some ⟨g1593, 0, none⟩ := fun e' => by have := (hm786).base_le e'; omega
          refine SR.nil ⟨hS1600, _, rfl, ?_⟩
          refine AH.goto (by kernel_rfl) rfl (hn1428 _ _ ?_)
          exact ⟨g466, g777, v479, t480, s481, g1593, ⟨rfl, rfl, rfl, rfl, rfl, rfl, rfl, rfl, rfl, rfl, trivial⟩, hS1600, (((hm786).lo hk1596).down (by omega)), ((hO1597).down (by omega)), ((hm787).lo hk1596), ((hm788).lo hk1596), (fun b_ h h' => hd1601 (h.trans h'.symm)), ht483, hq484, hq488⟩
        · refine SR.lit (vs := [.int .i64 0, .int .i64 5]) (L := ([0, 5] : List Int)) (enc := encI) tel30 (fun _ => rfl) rfl rfl rfl (by decide) ?_
          intro g1603 w1604 hg1605 hk1606 hO1607
          have hz1608 := hk1606.size
          have hB1609 := hB1592.lo hk1606
          have hS1610 := (hR1589).lo hk1606
          have hd1611 : ¬ (pA g777) = some ⟨g1603, 0, none⟩ := fun e' => by have := (hm786).base_le e'; omega
          refine SR.nil ⟨hS1610, _, rfl, ?_⟩
          refine AH.goto (by kernel_rfl) rfl (hn1460 _ _ ?_)
          exact ⟨g466, g777, v479, t480, s481, g1603, ⟨rfl, rfl, rfl, rfl, rfl, rfl, rfl, rfl, rfl, rfl, rfl, trivial⟩, hS1610, (((hm786).lo hk1606).down (by omega)), ((hO1607).down (by omega)), ((hm787).lo hk1606), ((hm788).lo hk1606), (fun b_ h h' => hd1611 (h.trans h'.symm)), ht483, hq484, hq488⟩
      refine AH.via #[true, true, false, true, true, true, true, false, true, true, false, true, false, false, false, false] 7 (fun f' w' => ∃ (g466 : Nat) (g809 : Nat) (g835 : Nat), At f' [(0, .pointer (pA gc)), (4, .pointer (pA g9)), (5, .pointer (pA g39)), (6, .pointer (pA g48)), (40, .pointer (pA gc)), (41, .slice (pA g466) 3 3), (43, .pointer (pA gc)), (46, .slice (pA g809) 3 3), (48, .pointer (pA gc)), (49, .slice (pA g835) 2 2), (51, .pointer (pA gc))] ∧ (Kp (fun b_ => b_ = gc ∨ b_ = g9) w316 w') ∧ (SlO w' w316.heap.size encI 1 3 (pA g466) 3 3 ([0, 8, 2] : List Int)) ∧ (SlO w' w316.heap.size encI 1 3 (pA g809) 3 3 ([0, m.Id, 100] : List Int)) ∧ (SlO w' w316.heap.size encI 1 3 (pA g835) 2 2 ([0, 5] : List Int)) ∧ (Blk w' gc ec [.slice Ac nc cc, .int .i64 t319, .int .u64 s320]) ∧ (Blk w' g9 66 [.int .i64 0, .int .i64 0, .int .i64 0, .int .i64 0]) ∧ (∀ b_, (pA g466) = some ⟨b_, 0, none⟩ → ¬ (pA g809) = some ⟨b_, 0, none⟩) ∧ (∀ b_, (pA g466) = some ⟨b_, 0, none⟩ → ¬ (pA g835) = some ⟨b_, 0, none⟩) ∧ (∀ b_, (pA g809) = some ⟨b_, 0, none⟩ → ¬ (pA g835) = some ⟨b_, 0, none⟩)) ?_ (fun hn1613 => ?_)
      · rintro f1614 w1615 ⟨g466, g809, g835, hat1617, hR1616, hm845, hm846, hm847, hm848, hm849, hd850, hd851, hd852⟩
        rw [← sets_of_at hat1617]
        have hz1618 := hR1616.size
        have hB1619 := hB324.step hR1616 (fun i_ hi_ e' => e'.elim (fun e' => e') (fun e' => by have e'' : i_ = g9 := e'; exfalso; omega))
        refine AH.br [2, 12] (by kernel_rfl) rfl ⟨Br.mk' rfl trivial ?_, Br.mk' rfl trivial ?_, trivial⟩
        · refine SR.call ent26 (c___spec_l1Cur__among w1615 Lc t319 s320 (hm848) ((((hm306).kn hk317 (by omega)).kp hR1616 (fun b_ hb e' => e'.elim (fun e' => by have e'' : b_ = gc := e'; omega) (fun e' => by have e'' : b_ = g9 := e'; omega)))) (by omega) (by omega) ([0, 8, 2] : List Int) (((hm845).rd)) (by omega) (by omega) (show ¬ g466 = gc from by first | omega | (have := (hm845).base_le rfl; omega))) rfl ?_
          rintro e w1620 ⟨v1622, t1623, s1624, rfl, hb1625, ht1626, hq1627, hk1621⟩
          refine ⟨_, rfl, ?_⟩
          have hz1628 := hk1621.size
          have hB1629 := hB1619.step hk1621 (fun i_ hi_ e' => e')
          have hS1630 := (hR1616).step hk1621 (fun _ _ e => .inl e)
          have hq1631 : (0 : Int) ≤ v1622 ∧ v1622 ≤ 8 := mem_rngB (lo := 0) (hi := 8) (by decide) hq1627
          refine SR.nil ⟨hS1630, _, rfl, ?_⟩
          refine AH.goto (by kernel_rfl) rfl (hn1396 _ _ ?_)
          exact ⟨g466, v1622, t1623, s1624, g809, g835, ⟨rfl, rfl, rfl, rfl, rfl, rfl, rfl, rfl, rfl, rfl, trivial⟩, hS1630, (((hm846).kn hk1621 (by omega)).down (by omega)), (((hm847).kn hk1621 (by omega)).down (by omega)), (hb1625), ((hm849).kn hk1621 (by omega)), hd852, ht1626, hq1627, hq1631⟩
        · refine SR.lit (vs := [.int .i64 0, .int .i64 1, .int .i64 (-1)]) (L := ([0, 1, (-1)] : List Int)) (enc := encI) tel30 (fun _ => rfl) rfl rfl rfl (by decide) ?_
          intro g1633 w1634 hg1635 hk1636 hO1637
          have hz1638 := hk1636.size
          have hB1639 := hB1619.lo hk1636
          have hS1640 := (hR1616).lo hk1636
          have hd1641 : ¬ (pA g466) = some ⟨g1633, 0, none⟩ := fun e' => by have := (hm845).base_le e'; omega
          have hd1642 : ¬ (pA g809) = some ⟨g1633, 0, none⟩ := fun e' => by have := (hm846).base_le e'; omega
          have hd1643 : ¬ (pA g835) = some ⟨g1633, 0, none⟩ := fun e' => by have := (hm847).base_le e'; omega
          refine SR.nil ⟨hS1640, _, rfl, ?_⟩
          refine AH.goto (by kernel_rfl) rfl (hn1480 _ _ ?_)
          exact ⟨g466, g1633, g809, g835, ⟨rfl, rfl, rfl, rfl, rfl, rfl, rfl, rfl, rfl, rfl, rfl, rfl, trivial⟩, hS1640, (((hm845).lo hk1636).down (by omega)), ((hO1637).down (by omega)), (((hm846).lo hk1636).down (by omega)), (((hm847).lo hk1636).down (by omega)), ((hm848).lo hk1636), ((hm849).lo hk1636), (fun b_ h h' => hd1641 (h.trans h'.symm)), hd850, hd851, (fun b_ h h' => hd1642 (h'.trans h.symm)), (fun b_ h h' => hd1643 (h'.trans h.symm)), hd852⟩
      refine AH.via #[true, true, false, true, true, true, true, false, true, false, false, true, true, false, false, false] 7 (fun f' w' => ∃ (g466 : Nat) (g900 : Nat) (g809 : Nat), At f' [(0, .pointer (pA gc)), (4, .pointer (pA g9)), (5, .pointer (pA g39)), (6, .pointer (pA g48)), (40, .pointer (pA gc)), (41, .slice (pA g466) 3 3), (43, .pointer (pA gc)), (46, .slice (pA g809) 3 3), (48, .pointer (pA gc)), (51, .pointer (pA gc)), (52, .slice (pA g900) 3 3)] ∧ (Kp (fun b_ => b_ = gc ∨ b_ = g9) w316 w') ∧ (SlO w' w316.heap.size encI 1 3 (pA g466) 3 3 ([0, 8, 2] : List Int)) ∧ (SlO w' w316.heap.size encI 1 3 (pA g900) 3 3 ([0, 1, (-1)] : List Int)) ∧ (SlO w' w316.heap.size encI 1 3 (pA g809) 3 3 ([0, m.Id, 100] : List Int)) ∧ (Blk w' gc ec [.slice Ac nc cc, .int .i64 t319, .int .u64 s320]) ∧ (Blk w' g9 66 [.int .i64 0, .int .i64 0, .int .i64 0, .int .i64 0]) ∧ (∀ b_, (pA g466) = some ⟨b_, 0, none⟩ → ¬ (pA g900) = some ⟨b_, 0, none⟩) ∧ (∀ b_, (pA g466) = some ⟨b_, 0, none⟩ → ¬ (pA g809) = some ⟨b_, 0, none⟩) ∧ (∀ b_, (pA g900) = some ⟨b_, 0, none⟩ → ¬ (pA g809) = some ⟨b_, 0, none⟩)) ?_ (fun hn1650 => ?_)
      · rintro f1651 w1652 ⟨g466, g900, g809, hat1654, hR1653, hm910, hm911, hm912, hm913, hm914, hd915, hd916, hd917⟩
        rw [← sets_of_at hat1654]
        have hz1655 := hR1653.size
        have hB1656 := hB324.step hR1653 (fun i_ hi_ e' => e'.elim (fun e' => e') (fun e' => by have e'' : i_ = g9 := e'; exfalso; omega))
        refine AH.br [2, 9] (by kernel_rfl) rfl ⟨Br.mk' rfl trivial ?_, Br.mk' rfl trivial ?_, trivial⟩
        · refine SR.call ent26 (c___spec_l1Cur__among w1652 Lc t319 s320 (hm913) ((((hm306).kn hk317 (by omega)).kp hR1653 (fun b_ hb e' => e'.elim (fun e' => by have e'' : b_ = gc := e'; omega) (fun e' => by have e'' : b_ = g9 := e'; omega)))) (by omega) (by omega) ([0, 8, 2] : List Int) (((hm910).rd)) (by omega) (by omega) (show ¬ g466 = gc from by first | omega | (have := (hm910).base_le rfl; omega))) rfl ?_
          rintro e w1657 ⟨v1659, t1660, s1661, rfl, hb1662, ht1663, hq1664, hk1658⟩
          refine ⟨_, rfl, ?_⟩
          have hz1665 := hk1658.size
          have hB1666 := hB1656.step hk1658 (fun i_ hi_ e' => e')
          have hS1667 := (hR1653).step hk1658 (fun _ _ e => .inl e)
          have hq1668 : (0 : Int) ≤ v1659 ∧ v1659 ≤ 8 := mem_rngB (lo := 0) (hi := 8) (by decide) hq1664
          refine SR.nil ⟨hS1667, _, rfl, ?_⟩
          refine AH.goto (by kernel_rfl) rfl (hn1428 _ _ ?_)
          exact ⟨g466, g900, v1659, t1660, s1661, g809, ⟨rfl, rfl, rfl, rfl, rfl, rfl, rfl, rfl, rfl, rfl, trivial⟩, hS1667, (((hm911).kn hk1658 (by omega)).down (by omega)), (((hm912).kn hk1658 (by omega)).down (by omega)), (hb1662), ((hm914).kn hk1658 (by omega)), hd917, ht1663, hq1664, hq1668⟩
        · refine SR.lit (vs := [.int .i64 0, .int .i64 5]) (L := ([0, 5] : List Int)) (enc := encI) tel30 (fun _ => rfl) rfl rfl rfl (by decide) ?_
          intro g1670 w1671 hg1672 hk1673 hO1674
          have hz1675 := hk1673.size
          have hB1676 := hB1656.lo hk1673
          have hS1677 := (hR1653).lo hk1673
          have hd1678 : ¬ (pA g466) = some ⟨g1670, 0, none⟩ := fun e' => by have := (hm910).base_le e'; omega
          have hd1679 : ¬ (pA g809) = some ⟨g1670, 0, none⟩ := fun e' => by have := (hm912).base_le e'; omega
          have hd1680 : ¬ (pA g900) = some ⟨g1670, 0, none⟩ := fun e' => by have := (hm911).base_le e'; omega
          refine SR.nil ⟨hS1677, _, rfl, ?_⟩
          refine AH.goto (by kernel_rfl) rfl (hn1480 _ _ ?_)
          exact ⟨g466, g900, g809, g1670, ⟨rfl, rfl, rfl, rfl, rfl, rfl, rfl, rfl, rfl, rfl, rfl, rfl, trivial⟩, hS1677, (((hm910).lo hk1673).down (by omega)), (((hm911).lo hk1673).down (by omega)), (((hm912).lo hk1673).down (by omega)), ((hO1674).down (by omega)), ((hm913).lo hk1673), ((hm914).lo hk1673), hd915, hd916, (fun b_ h h' => hd1678 (h.trans h'.symm)), hd917, (fun b_ h h' => hd1680 (h.trans h'.symm)), (fun b_ h h' => hd1679 (h.trans h'.symm))⟩
      refine AH.via #[true, true, false, true, true, true, false, false, true, true, false, true, true, false, false, false] 7 (fun f' w' => ∃ (g466 : Nat) (g977 : Nat) (g941 : Nat), At f' [(0, .pointer (pA gc)), (4, .pointer (pA g9)), (5, .pointer (pA g39)), (6, .pointer (pA g48)), (40, .pointer (pA gc)), (41, .slice (pA g466) 3 3), (43, .pointer (pA gc)), (45, .int .i64 m.Id), (48, .pointer (pA gc)), (49, .slice (pA g941) 2 2), (51, .pointer (pA gc)), (52, .slice (pA g977) 3 3)] ∧ (Kp (fun b_ => b_ = gc ∨ b_ = g9) w316 w') ∧ (SlO w' w316.heap.size encI 1 3 (pA g466) 3 3 ([0, 8, 2] : List Int)) ∧ (SlO w' w316.heap.size encI 1 3 (pA g977) 3 3 ([0, 1, (-1)] : List Int)) ∧ (SlO w' w316.heap.size encI 1 3 (pA g941) 2 2 ([0, 5] : List Int)) ∧ (Blk w' gc ec [.slice Ac nc cc, .int .i64 t319, .int .u64 s320]) ∧ (Blk w' g9 66 [.int .i64 0, .int .i64 0, .int .i64 0, .int .i64 0]) ∧ (∀ b_, (pA g466) = some ⟨b_, 0, none⟩ → ¬ (pA g977) = some ⟨b_, 0, none⟩) ∧ (∀ b_, (pA g466) = some ⟨b_, 0, none⟩ → ¬ (pA g941) = some ⟨b_, 0, none⟩) ∧ (∀ b_, (pA g977) = some ⟨b_, 0, none⟩ → ¬ (pA g941) = some ⟨b_, 0, none⟩)) ?_ (fun hn1687 => ?_)
      · rintro f1688 w1689 ⟨g466, g977, g941, hat1691, hR1690, hm987, hm988, hm989, hm990, hm991, hd992, hd993, hd994⟩
        rw [← sets_of_at hat1691]
        have hz1692 := hR1690.size
        have hB1693 := hB324.step hR1690 (fun i_ hi_ e' => e'.elim (fun e' => e') (fun e' => by have e'' : i_ = g9 := e'; exfalso; omega))
        refine AH.br [2, 6] (by kernel_rfl) rfl ⟨Br.mk' rfl trivial ?_, Br.mk' rfl trivial ?_, trivial⟩
        · refine SR.call ent26 (c___spec_l1Cur__among w1689 Lc t319 s320 (hm990) ((((hm306).kn hk317 (by omega)).kp hR1690 (fun b_ hb e' => e'.elim (fun e' => by have e'' : b_ = gc := e'; omega) (fun e' => by have e'' : b_ = g9 := e'; omega)))) (by omega) (by omega) ([0, 8, 2] : List Int) (((hm987).rd)) (by omega) (by omega) (show ¬ g466 = gc from by first | omega | (have := (hm987).base_le rfl; omega))) rfl ?_
          rintro e w1694 ⟨v1696, t1697, s1698, rfl, hb1699, ht1700, hq1701, hk1695⟩
          refine ⟨_, rfl, ?_⟩
          have hz1702 := hk1695.size
          have hB1703 := hB1693.step hk1695 (fun i_ hi_ e' => e')
          have hS1704 := (hR1690).step hk1695 (fun _ _ e => .inl e)
          have hq1705 : (0 : Int) ≤ v1696 ∧ v1696 ≤ 8 := mem_rngB (lo := 0) (hi := 8) (by decide) hq1701
          refine SR.nil ⟨hS1704, _, rfl, ?_⟩
          refine AH.goto (by kernel_rfl) rfl (hn1460 _ _ ?_)
          exact ⟨g466, g977, v1696, t1697, s1698, g941, ⟨rfl, rfl, rfl, rfl, rfl, rfl, rfl, rfl, rfl, rfl, rfl, trivial⟩, hS1704, (((hm988).kn hk1695 (by omega)).down (by omega)), (((hm989).kn hk1695 (by omega)).down (by omega)), (hb1699), ((hm991).kn hk1695 (by omega)), hd994, ht1700, hq1701, hq1705⟩
        · refine SR.lit (vs := [.int .i64 0, .int .i64 m.Id, .int .i64 100]) (L := ([0, m.Id, 100] : List Int)) (enc := encI) tel30 (fun _ => rfl) rfl rfl rfl (by decide) ?_
          intro g1707 w1708 hg1709 hk1710 hO1711
          have hz1712 := hk1710.size
          have hB1713 := hB1693.lo hk1710
          have hS1714 := (hR1690).lo hk1710
          have hd1715 : ¬ (pA g466) = some ⟨g1707, 0, none⟩ := fun e' => by have := (hm987).base_le e'; omega
          have hd1716 : ¬ (pA g941) = some ⟨g1707, 0, none⟩ := fun e' => by have := (hm989).base_le e'; omega
          have hd1717 : ¬ (pA g977) = some ⟨g1707, 0, none⟩ := fun e' => by have := (hm988).base_le e'; omega
          refine SR.nil ⟨hS1714, _, rfl, ?_⟩
          refine AH.goto (by kernel_rfl) rfl (hn1480 _ _ ?_)
          exact ⟨g466, g977, g1707, g941, ⟨rfl, rfl, rfl, rfl, rfl, rfl, rfl, rfl, rfl, rfl, rfl, rfl, trivial⟩, hS1714, (((hm987).lo hk1710).down (by omega)), (((hm988).lo hk1710).down (by omega)), ((hO1711).down (by omega)), (((hm989).lo hk1710).down (by omega)), ((hm990).lo hk1710), ((hm991).lo hk1710), hd992, (fun b_ h h' => hd1715 (h.trans h'.symm)), hd993, (fun b_ h h' => hd1717 (h.trans h'.symm)), hd994, (fun b_ h h' => hd1716 (h'.trans h.symm))⟩
      refine AH.via #[true, false, false, true, true, true, true, false, true, true, false, true, true, false, false, false] 7 (fun f' w' => ∃ (g1108 : Nat) (g1064 : Nat) (g1084 : Nat), At f' [(0, .pointer (pA gc)), (4, .pointer (pA g9)), (5, .pointer (pA g39)), (6, .pointer (pA g48)), (40, .pointer (pA gc)), (43, .pointer (pA gc)), (46, .slice (pA g1064) 3 3), (48, .pointer (pA gc)), (49, .slice (pA g1084) 2 2), (51, .pointer (pA gc)), (52, .slice (pA g1108) 3 3)] ∧ (Kp (fun b_ => b_ = gc ∨ b_ = g9) w316 w') ∧ (SlO w' w316.heap.size encI 1 3 (pA g1108) 3 3 ([0, 1, (-1)] : List Int)) ∧ (SlO w' w316.heap.size encI 1 3 (pA g1064) 3 3 ([0, m.Id, 100] : List Int)) ∧ (SlO w' w316.heap.size encI 1 3 (pA g1084) 2 2 ([0, 5] : List Int)) ∧ (Blk w' gc ec [.slice Ac nc cc, .int .i64 t319, .int .u64 s320]) ∧ (Blk w' g9 66 [.int .i64 0, .int .i64 0, .int .i64 0, .int .i64 0]) ∧ (∀ b_, (pA g1108) = some ⟨b_, 0, none⟩ → ¬ (pA g1064) = some ⟨b_, 0, none⟩) ∧ (∀ b_, (pA g1108) = some ⟨b_, 0, none⟩ → ¬ (pA g1084) = some ⟨b_, 0, none⟩) ∧ (∀ b_, (pA g1064) = some ⟨b_, 0, none⟩ → ¬ (pA g1084) = some ⟨b_, 0, none⟩)) ?_ (fun hn1724 => ?_)
      · rintro f1725 w1726 ⟨g1108, g1064, g1084, hat1728, hR1727, hm1118, hm1119, hm1120, hm1121, hm1122, hd1123, hd1124, hd1125⟩
        rw [← sets_of_at hat1728]
        have hz1729 := hR1727.size
        have hB1730 := hB324.step hR1727 (fun i_ hi_ e' => e'.elim (fun e' => e') (fun e' => by have e'' : i_ = g9 := e'; exfalso; omega))
        refine AH.br [1] (by kernel_rfl) rfl ⟨Br.mk' rfl trivial ?_, trivial⟩
        refine SR.lit (vs := [.int .i64 0, .int .i64 8, .int .i64 2]) (L := ([0, 8, 2] : List Int)) (enc := encI) tel30 (fun _ => rfl) rfl rfl rfl (by decide) ?_
        intro g1731 w1732 hg1733 hk1734 hO1735
        have hz1736 := hk1734.size
        have hB1737 := hB1730.lo hk1734
        have hS1738 := (hR1727).lo hk1734
        have hd1739 : ¬ (pA g1064) = some ⟨g1731, 0, none⟩ := fun e' => by have := (hm1119).base_le e'; omega
        have hd1740 : ¬ (pA g1084) = some ⟨g1731, 0, none⟩ := fun e' => by have := (hm1120).base_le e'; omega
        have hd1741 : ¬ (pA g1108) = some ⟨g1731, 0, none⟩ := fun e' => by have := (hm1118).base_le e'; omega
        refine SR.nil ⟨hS1738, _, rfl, ?_⟩
        refine AH.goto (by kernel_rfl) rfl (hn1480 _ _ ?_)
        exact ⟨g1731, g1108, g1064, g1084, ⟨rfl, rfl, rfl, rfl, rfl, rfl, rfl, rfl, rfl, rfl, rfl, rfl, trivial⟩, hS1738, ((hO1735).down (by omega)), (((hm1118).lo hk1734).down (by omega)), (((hm1119).lo hk1734).down (by omega)), (((hm1120).lo hk1734).down (by omega)), ((hm1121).lo hk1734), ((hm1122).lo hk1734), (fun b_ h h' => hd1741 (h'.trans h.symm)), (fun b_ h h' => hd1739 (h'.trans h.symm)), (fun b_ h h' => hd1740 (h'.trans h.symm)), hd1123, hd1124, hd1125⟩
      refine AH.via #[true, true, false, true, true, true, true, false, true, false, false, true, false, false, false, false] 8 (fun f' w' => ∃ (g466 : Nat) (g809 : Nat), At f' [(0, .pointer (pA gc)), (4, .pointer (pA g9)), (5, .pointer (pA g39)), (6, .pointer (pA g48)), (40, .pointer (pA gc)), (41, .slice (pA g466) 3 3), (43, .pointer (pA gc)), (46, .slice (pA g809) 3 3), (48, .pointer (pA gc)), (51, .pointer (pA gc))] ∧ (Kp (fun b_ => b_ = gc ∨ b_ = g9) w316 w') ∧ (SlO w' w316.heap.size encI 1 3 (pA g466) 3 3 ([0, 8, 2] : List Int)) ∧ (SlO w' w316.heap.size encI 1 3 (pA g809) 3 3 ([0, m.Id, 100] : List Int)) ∧ (Blk w' gc ec [.slice Ac nc cc, .int .i64 t319, .int .u64 s320]) ∧ (Blk w' g9 66 [.int .i64 0, .int .i64 0, .int .i64 0, .int .i64 0]) ∧ (∀ b_, (pA g466) = some ⟨b_, 0, none⟩ → ¬ (pA g809) = some ⟨b_, 0, none⟩)) ?_ (fun hn1748 => ?_)
      · rintro f1749 w1750 ⟨g466, g809, hat1752, hR1751, hm818, hm819, hm820, hm821, hd822⟩
        rw [← sets_of_at hat1752]
        have hz1753 := hR1751.size
        have hB1754 := hB324.step hR1751 (fun i_ hi_ e' => e'.elim (fun e' => e') (fun e' => by have e'' : i_ = g9 := e'; exfalso; omega))
        refine AH.br [2, 9, 12] (by kernel_rfl) rfl ⟨Br.mk' rfl trivial ?_, Br.mk' rfl trivial ?_, Br.mk' rfl trivial ?_, trivial⟩
        · refine SR.call ent26 (c___spec_l1Cur__among w1750 Lc t319 s320 (hm820) ((((hm306).kn hk317 (by omega)).kp hR1751 (fun b_ hb e' => e'.elim (fun e' => by have e'' : b_ = gc := e'; omega) (fun e' => by have e'' : b_ = g9 := e'; omega)))) (by omega) (by omega) ([0, 8, 2] : List Int) (((hm818).rd)) (by omega) (by omega) (show ¬ g466 = gc from by first | omega | (have := (hm818).base_le rfl; omega))) rfl ?_
          rintro e w1755 ⟨v1757, t1758, s1759, rfl, hb1760, ht1761, hq1762, hk1756⟩
          refine ⟨_, rfl, ?_⟩
          have hz1763 := hk1756.size
          have hB1764 := hB1754.step hk1756 (fun i_ hi_ e' => e')
          have hS1765 := (hR1751).step hk1756 (fun _ _ e => .inl e)
          have hq1766 : (0 : Int) ≤ v1757 ∧ v1757 ≤ 8 := mem_rngB (lo := 0) (hi := 8) (by decide) hq1762
          refine SR.nil ⟨hS1765, _, rfl, ?_⟩
          refine AH.goto (by kernel_rfl) rfl (hn1502 _ _ ?_)
          exact ⟨g466, v1757, t1758, s1759, g809, ⟨rfl, rfl, rfl, rfl, rfl, rfl, rfl, rfl, rfl, trivial⟩, hS1765, (((hm819).kn hk1756 (by omega)).down (by omega)), (hb1760), ((hm821).kn hk1756 (by omega)), ht1761, hq1762, hq1766⟩
        · refine SR.lit (vs := [.int .i64 0, .int .i64 5]) (L := ([0, 5] : List Int)) (enc := encI) tel30 (fun _ => rfl) rfl rfl rfl (by decide) ?_
          intro g1767 w1768 hg1769 hk1770 hO1771
          have hz1772 := hk1770.size
          have hB1773 := hB1754.lo hk1770
          have hS1774 := (hR1751).lo hk1770
          have hd1775 : ¬ (pA g466) = some ⟨g1767, 0, none⟩ := fun e' => by have := (hm818).base_le e'; omega
          have hd1776 : ¬ (pA g809) = some ⟨g1767, 0, none⟩ := fun e' => by have := (hm819).base_le e'; omega
          refine SR.nil ⟨hS1774, _, rfl, ?_⟩
          refine AH.goto (by kernel_rfl) rfl (hn1613 _ _ ?_)
          exact ⟨g466, g809, g1767, ⟨rfl, rfl, rfl, rfl, rfl, rfl, rfl, rfl, rfl, rfl, rfl, trivial⟩, hS1774, (((hm818).lo hk1770).down (by omega)), (((hm819).lo hk1770).down (by omega)), ((hO1771).down (by omega)), ((hm820).lo hk1770), ((hm821).lo hk1770), hd822, (fun b_ h h' => hd1775 (h.trans h'.symm)), (fun b_ h h' => hd1776 (h.trans h'.symm))⟩
        · refine SR.lit (vs := [.int .i64 0, .int .i64 1, .int .i64 (-1)]) (L := ([0, 1, (-1)] : List Int)) (enc := encI) tel30 (fun _ => rfl) rfl rfl rfl (by decide) ?_
          intro g1780 w1781 hg1782 hk1783 hO1784
          have hz1785 := hk1783.size
          have hB1786 := hB1754.lo hk1783
          have hS1787 := (hR1751).lo hk1783
          have hd1788 : ¬ (pA g466) = some ⟨g1780, 0, none⟩ := fun e' => by have := (hm818).base_le e'; omega
          have hd1789 : ¬ (pA g809) = some ⟨g1780, 0, none⟩ := fun e' => by have := (hm819).base_le e'; omega
          refine SR.nil ⟨hS1787, _, rfl, ?_⟩
          refine AH.goto (by kernel_rfl) rfl (hn1650 _ _ ?_)
          exact ⟨g466, g1780, g809, ⟨rfl, rfl, rfl, rfl, rfl, rfl, rfl, rfl, rfl, rfl, rfl, trivial⟩, hS1787, (((hm818).lo hk1783).down (by omega)), ((hO1784).down (by omega)), (((hm819).lo hk1783).down (by omega)), ((hm820).lo hk1783), ((hm821).lo hk1783), (fun b_ h h' => hd1788 (h.trans h'.symm)), hd822, (fun b_ h h' => hd1789 (h'.trans h.symm))⟩
      refine AH.via #[true, true, false, true, true, true, false, false, true, true, false, true, false, false, false, false] 8 (fun f' w' => ∃ (g466 : Nat) (g941 : Nat), At f' [(0, .pointer (pA gc)), (4, .pointer (pA g9)), (5, .pointer (pA g39)), (6, .pointer (pA g48)), (40, .pointer (pA gc)), (41, .slice (pA g466) 3 3), (43, .pointer (pA gc)), (45, .int .i64 m.Id), (48, .pointer (pA gc)), (49, .slice (pA g941) 2 2), (51, .pointer (pA gc))] ∧ (Kp (fun b_ => b_ = gc ∨ b_ = g9) w316 w') ∧ (SlO w' w316.heap.size encI 1 3 (pA g466) 3 3 ([0, 8, 2] : List Int)) ∧ (SlO w' w316.heap.size encI 1 3 (pA g941) 2 2 ([0, 5] : List Int)) ∧ (Blk w' gc ec [.slice Ac nc cc, .int .i64 t319, .int .u64 s320]) ∧ (Blk w' g9 66 [.int .i64 0, .int .i64 0, .int .i64 0, .int .i64 0]) ∧ (∀ b_, (pA g466) = some ⟨b_, 0, none⟩ → ¬ (pA g941) = some ⟨b_, 0, none⟩)) ?_ (fun hn1793 => ?_)
      · rintro f1794 w1795 ⟨g466, g941, hat1797, hR1796, hm950, hm951, hm952, hm953, hd954⟩
        rw [← sets_of_at hat1797]
        have hz1798 := hR1796.size
        have hB1799 := hB324.step hR1796 (fun i_ hi_ e' => e'.elim (fun e' => e') (fun e' => by have e'' : i_ = g9 := e'; exfalso; omega))
        refine AH.br [2, 6, 12] (by kernel_rfl) rfl ⟨Br.mk' rfl trivial ?_, Br.mk' rfl trivial ?_, Br.mk' rfl trivial ?_, trivial⟩
        · refine SR.call ent26 (c___spec_l1Cur__among w1795 Lc t319 s320 (hm952) ((((hm306).kn hk317 (by omega)).kp hR1796 (fun b_ hb e' => e'.elim (fun e' => by have e'' : b_ = gc := e'; omega) (fun e' => by have e'' : b_ = g9 := e'; omega)))) (by omega) (by omega) ([0, 8, 2] : List Int) (((hm950).rd)) (by omega) (by omega) (show ¬ g466 = gc from by first | omega | (have := (hm950).base_le rfl; omega))) rfl ?_
          rintro e w1800 ⟨v1802, t1803, s1804, rfl, hb1805, ht1806, hq1807, hk1801⟩
          refine ⟨_, rfl, ?_⟩
          have hz1808 := hk1801.size
          have hB1809 := hB1799.step hk1801 (fun i_ hi_ e' => e')
          have hS1810 := (hR1796).step hk1801 (fun _ _ e => .inl e)
          have hq1811 : (0 : Int) ≤ v1802 ∧ v1802 ≤ 8 := mem_rngB (lo := 0) (hi := 8) (by decide) hq1807
          refine SR.nil ⟨hS1810, _, rfl, ?_⟩
          refine AH.goto (by kernel_rfl) rfl (hn1559 _ _ ?_)
          exact ⟨g466, v1802, t1803, s1804, g941, ⟨rfl, rfl, rfl, rfl, rfl, rfl, rfl, rfl, rfl, rfl, trivial⟩, hS1810, (((hm951).kn hk1801 (by omega)).down (by omega)), (hb1805), ((hm953).kn hk1801 (by omega)), ht1806, hq1807, hq1811⟩
        · refine SR.lit (vs := [.int .i64 0, .int .i64 m.Id, .int .i64 100]) (L := ([0, m.Id, 100] : List Int)) (enc := encI) tel30 (fun _ => rfl) rfl rfl rfl (by decide) ?_
          intro g1812 w1813 hg1814 hk1815 hO1816
          have hz1817 := hk1815.size
          have hB1818 := hB1799.lo hk1815
          have hS1819 := (hR1796).lo hk1815
          have hd1820 : ¬ (pA g466) = some ⟨g1812, 0, none⟩ := fun e' => by have := (hm950).base_le e'; omega
          have hd1821 : ¬ (pA g941) = some ⟨g1812, 0, none⟩ := fun e' => by have := (hm951).base_le e'; omega
          refine SR.nil ⟨hS1819, _, rfl, ?_⟩
          refine AH.goto (by kernel_rfl) rfl (hn1613 _ _ ?_)
          exact ⟨g466, g1812, g941, ⟨rfl, rfl, rfl, rfl, rfl, rfl, rfl, rfl, rfl, rfl, rfl, trivial⟩, hS1819, (((hm950).lo hk1815).down (by omega)), ((hO1816).down (by omega)), (((hm951).lo hk1815).down (by omega)), ((hm952).lo hk1815), ((hm953).lo hk1815), (fun b_ h h' => hd1820 (h.trans h'.symm)), hd954, (fun b_ h h' => hd1821 (h'.trans h.symm))⟩
        · refine SR.lit (vs := [.int .i64 0, .int .i64 1, .int .i64 (-1)]) (L := ([0, 1, (-1)] : List Int)) (enc := encI) tel30 (fun _ => rfl) rfl rfl rfl (by decide) ?_
          intro g1825 w1826 hg1827 hk1828 hO1829
          have hz1830 := hk1828.size
          have hB1831 := hB1799.lo hk1828
          have hS1832 := (hR1796).lo hk1828
          have hd1833 : ¬ (pA g466) = some ⟨g1825, 0, none⟩ := fun e' => by have := (hm950).base_le e'; omega
          have hd1834 : ¬ (pA g941) = some ⟨g1825, 0, none⟩ := fun e' => by have := (hm951).base_le e'; omega
          refine SR.nil ⟨hS1832, _, rfl, ?_⟩
          refine AH.goto (by kernel_rfl) rfl (hn1687 _ _ ?_)
          exact ⟨g466, g1825, g941, ⟨rfl, rfl, rfl, rfl, rfl, rfl, rfl, rfl, rfl, rfl, rfl, rfl, trivial⟩, hS1832, (((hm950).lo hk1828).down (by omega)), ((hO1829).down (by omega)), (((hm951).lo hk1828).down (by omega)), ((hm952).lo hk1828), ((hm953).lo hk1828), (fun b_ h h' => hd1833 (h.trans h'.symm)), hd954, (fun b_ h h' => hd1834 (h'.trans h.symm))⟩
      refine AH.via #[true, true, false, true, true, true, false, false, true, false, false, true, true, false, false, false] 8 (fun f' w' => ∃ (g466 : Nat) (g1018 : Nat), At f' [(0, .pointer (pA gc)), (4, .pointer (pA g9)), (5, .pointer (pA g39)), (6, .pointer (pA g48)), (40, .pointer (pA gc)), (41, .slice (pA g466) 3 3), (43, .pointer (pA gc)), (45, .int .i64 m.Id), (48, .pointer (pA gc)), (51, .pointer (pA gc)), (52, .slice (pA g1018) 3 3)] ∧ (Kp (fun b_ => b_ = gc ∨ b_ = g9) w316 w') ∧ (SlO w' w316.heap.size encI 1 3 (pA g466) 3 3 ([0, 8, 2] : List Int)) ∧ (SlO w' w316.heap.size encI 1 3 (pA g1018) 3 3 ([0, 1, (-1)] : List Int)) ∧ (Blk w' gc ec [.slice Ac nc cc, .int .i64 t319, .int .u64 s320]) ∧ (Blk w' g9 66 [.int .i64 0, .int .i64 0, .int .i64 0, .int .i64 0]) ∧ (∀ b_, (pA g466) = some ⟨b_, 0, none⟩ → ¬ (pA g1018) = some ⟨b_, 0, none⟩)) ?_ (fun hn1838 => ?_)
      · rintro f1839 w1840 ⟨g466, g1018, hat1842, hR1841, hm1027, hm1028, hm1029, hm1030, hd1031⟩
        rw [← sets_of_at hat1842]
        have hz1843 := hR1841.size
        have hB1844 := hB324.step hR1841 (fun i_ hi_ e' => e'.elim (fun e' => e') (fun e' => by have e'' : i_ = g9 := e'; exfalso; omega))
        refine AH.br [2, 6, 9] (by kernel_rfl) rfl ⟨Br.mk' rfl trivial ?_, Br.mk' rfl trivial ?_, Br.mk' rfl trivial ?_, trivial⟩
        · refine SR.call ent26 (c___spec_l1Cur__among w1840 Lc t319 s320 (hm1029) ((((hm306).kn hk317 (by omega)).kp hR1841 (fun b_ hb e' => e'.elim (fun e' => by have e'' : b_ = gc := e'; omega) (fun e' => by have e'' : b_ = g9 := e'; omega)))) (by omega) (by omega) ([0, 8, 2] : List Int) (((hm1027).rd)) (by omega) (by omega) (show ¬ g466 = gc from by first | omega | (have := (hm1027).base_le rfl; omega))) rfl ?_
          rintro e w1845 ⟨v1847, t1848, s1849, rfl, hb1850, ht1851, hq1852, hk1846⟩
          refine ⟨_, rfl, ?_⟩
          have hz1853 := hk1846.size
          have hB1854 := hB1844.step hk1846 (fun i_ hi_ e' => e')
          have hS1855 := (hR1841).step hk1846 (fun _ _ e => .inl e)
          have hq1856 : (0 : Int) ≤ v1847 ∧ v1847 ≤ 8 := mem_rngB (lo := 0) (hi := 8) (by decide) hq1852
          refine SR.nil ⟨hS1855, _, rfl, ?_⟩
          refine AH.goto (by kernel_rfl) rfl (hn1586 _ _ ?_)
          exact ⟨g466, g1018, v1847, t1848, s1849, ⟨rfl, rfl, rfl, rfl, rfl, rfl, rfl, rfl, rfl, rfl, trivial⟩, hS1855, (((hm1028).kn hk1846 (by omega)).down (by omega)), (hb1850), ((hm1030).kn hk1846 (by omega)), ht1851, hq1852, hq1856⟩
        · refine SR.lit (vs := [.int .i64 0, .int .i64 m.Id, .int .i64 100]) (L := ([0, m.Id, 100] : List Int)) (enc := encI) tel30 (fun _ => rfl) rfl rfl rfl (by decide) ?_
          intro g1857 w1858 hg1859 hk1860 hO1861
          have hz1862 := hk1860.size
          have hB1863 := hB1844.lo hk1860
          have hS1864 := (hR1841).lo hk1860
          have hd1865 : ¬ (pA g466) = some ⟨g1857, 0, none⟩ := fun e' => by have := (hm1027).base_le e'; omega
          have hd1866 : ¬ (pA g1018) = some ⟨g1857, 0, none⟩ := fun e' => by have := (hm1028).base_le e'; omega
          refine SR.nil ⟨hS1864, _, rfl, ?_⟩
          refine AH.goto (by kernel_rfl) rfl (hn1650 _ _ ?_)
          exact ⟨g466, g1018, g1857, ⟨rfl, rfl, rfl, rfl, rfl, rfl, rfl, rfl, rfl, rfl, rfl, trivial⟩, hS1864, (((hm1027).lo hk1860).down (by omega)), (((hm1028).lo hk1860).down (by omega)), ((hO1861).down (by omega)), ((hm1029).lo hk1860), ((hm1030).lo hk1860), hd1031, (fun b_ h h' => hd1865 (h.trans h'.symm)), (fun b_ h h' => hd1866 (h.trans h'.symm))⟩
        · refine SR.lit (vs := [.int .i64 0, .int .i64 5]) (L := ([0, 5] : List Int)) (enc := encI) tel30 (fun _ => rfl) rfl rfl rfl (by decide) ?_
          intro g1870 w1871 hg1872 hk1873 hO1874
          have hz1875 := hk1873.size
          have hB1876 := hB1844.lo hk1873
          have hS1877 := (hR1841).lo hk1873
          have hd1878 : ¬ (pA g466) = some ⟨g1870, 0, none⟩ := fun e' => by have := (hm1027).base_le e'; omega
          have hd1879 : ¬ (pA g1018) = some ⟨g1870, 0, none⟩ := fun e' => by have := (hm1028).base_le e'; omega
          refine SR.nil ⟨hS1877, _, rfl, ?_⟩
          refine AH.goto (by kernel_rfl) rfl (hn1687 _ _ ?_)
          exact ⟨g466, g1018, g1870, ⟨rfl, rfl, rfl, rfl, rfl, rfl, rfl, rfl, rfl, rfl, rfl, rfl, trivial⟩, hS1877, (((hm1027).lo hk1873).down (by omega)), (((hm1028).lo hk1873).down (by omega)), ((hO1874).down (by omega)), ((hm1029).lo hk1873), ((hm1030).lo hk1873), hd1031, (fun b_ h h' => hd1878 (h.trans h'.symm)), (fun b_ h h' => hd1879 (h.trans h'.symm))⟩
      refine AH.via #[true, false, false, true, true, true, true, false, true, true, false, true, false, false, false, false] 8 (fun f' w' => ∃ (g1064 : Nat) (g1084 : Nat), At f' [(0, .pointer (pA gc)), (4, .pointer (pA g9)), (5, .pointer (pA g39)), (6, .pointer (pA g48)), (40, .pointer (pA gc)), (43, .pointer (pA gc)), (46, .slice (pA g1064) 3 3), (48, .pointer (pA gc)), (49, .slice (pA g1084) 2 2), (51, .pointer (pA gc))] ∧ (Kp (fun b_ => b_ = gc ∨ b_ = g9) w316 w') ∧ (SlO w' w316.heap.size encI 1 3 (pA g1064) 3 3 ([0, m.Id, 100] : List Int)) ∧ (SlO w' w316.heap.size encI 1 3 (pA g1084) 2 2 ([0, 5] : List Int)) ∧ (Blk w' gc ec [.slice Ac nc cc, .int .i64 t319, .int .u64 s320]) ∧ (Blk w' g9 66 [.int .i64 0, .int .i64 0, .int .i64 0, .int .i64 0]) ∧ (∀ b_, (pA g1064) = some ⟨b_, 0, none⟩ → ¬ (pA g1084) = some ⟨b_, 0, none⟩)) ?_ (fun hn1883 => ?_)
      · rintro f1884 w1885 ⟨g1064, g1084, hat1887, hR1886, hm1093, hm1094, hm1095, hm1096, hd1097⟩
        rw [← sets_of_at hat1887]
        have hz1888 := hR1886.size
        have hB1889 := hB324.step hR1886 (fun i_ hi_ e' => e'.elim (fun e' => e') (fun e' => by have e'' : i_ = g9 := e'; exfalso; omega))
        refine AH.br [1, 12] (by kernel_rfl) rfl ⟨Br.mk' rfl trivial ?_, Br.mk' rfl trivial ?_, trivial⟩
        · refine SR.lit (vs := [.int .i64 0, .int .i64 8, .int .i64 2]) (L := ([0, 8, 2] : List Int)) (enc := encI) tel30 (fun _ => rfl) rfl rfl rfl (by decide) ?_
          intro g1890 w1891 hg1892 hk1893 hO1894
          have hz1895 := hk1893.size
          have hB1896 := hB1889.lo hk1893
          have hS1897 := (hR1886).lo hk1893
          have hd1898 : ¬ (pA g1064) = some ⟨g1890, 0, none⟩ := fun e' => by have := (hm1093).base_le e'; omega
          have hd1899 : ¬ (pA g1084) = some ⟨g1890, 0, none⟩ := fun e' => by have := (hm1094).base_le e'; omega
          refine SR.nil ⟨hS1897, _, rfl, ?_⟩
          refine AH.goto (by kernel_rfl) rfl (hn1613 _ _ ?_)
          exact ⟨g1890, g1064, g1084, ⟨rfl, rfl, rfl, rfl, rfl, rfl, rfl, rfl, rfl, rfl, rfl, trivial⟩, hS1897, ((hO1894).down (by omega)), (((hm1093).lo hk1893).down (by omega)), (((hm1094).lo hk1893).down (by omega)), ((hm1095).lo hk1893), ((hm1096).lo hk1893), (fun b_ h h' => hd1898 (h'.trans h.symm)), (fun b_ h h' => hd1899 (h'.trans h.symm)), hd1097⟩
        · refine SR.lit (vs := [.int .i64 0, .int .i64 1, .int .i64 (-1)]) (L := ([0, 1, (-1)] : List Int)) (enc := encI) tel30 (fun _ => rfl) rfl rfl rfl (by decide) ?_
          intro g1903 w1904 hg1905 hk1906 hO1907
          have hz1908 := hk1906.size
          have hB1909 := hB1889.lo hk1906
          have hS1910 := (hR1886).lo hk1906
          have hd1911 : ¬ (pA g1064) = some ⟨g1903, 0, none⟩ := fun e' => by have := (hm1093).base_le e'; omega
          have hd1912 : ¬ (pA g1084) = some ⟨g1903, 0, none⟩ := fun e' => by have := (hm1094).base_le e'; omega
          refine SR.nil ⟨hS1910, _, rfl, ?_⟩
          refine AH.goto (by kernel_rfl) rfl (hn1724 _ _ ?_)
          exact ⟨g1903, g1064, g1084, ⟨rfl, rfl, rfl, rfl, rfl, rfl, rfl, rfl, rfl, rfl, rfl, trivial⟩, hS1910, ((hO1907).down (by omega)), (((hm1093).lo hk1906).down (by omega)), (((hm1094).lo hk1906).down (by omega)), ((hm1095).lo hk1906), ((hm1096).lo hk1906), (fun b_ h h' => hd1911 (h'.trans h.symm)), (fun b_ h h' => hd1912 (h'.trans h.symm)), hd1097⟩
      refine AH.via #[true, false, false, true, true, true, true, false, true, false, false, true, true, false, false, false] 8 (fun f' w' => ∃ (g1137 : Nat) (g1064 : Nat), At f' [(0, .pointer (pA gc)), (4, .pointer (pA g9)), (5, .pointer (pA g39)), (6, .pointer (pA g48)), (40, .pointer (pA gc)), (43, .pointer (pA gc)), (46, .slice (pA g1064) 3 3), (48, .pointer (pA gc)), (51, .pointer (pA gc)), (52, .slice (pA g1137) 3 3)] ∧ (Kp (fun b_ => b_ = gc ∨ b_ = g9) w316 w') ∧ (SlO w' w316.heap.size encI 1 3 (pA g1137) 3 3 ([0, 1, (-1)] : List Int)) ∧ (SlO w' w316.heap.size encI 1 3 (pA g1064) 3 3 ([0, m.Id, 100] : List Int)) ∧ (Blk w' gc ec [.slice Ac nc cc, .int .i64 t319, .int .u64 s320]) ∧ (Blk w' g9 66 [.int .i64 0, .int .i64 0, .int .i64 0, .int .i64 0]) ∧ (∀ b_, (pA g1137) = some ⟨b_, 0, none⟩ → ¬ (pA g1064) = some ⟨b_, 0, none⟩)) ?_ (fun hn1916 => ?_)
      · rintro f1917 w1918 ⟨g1137, g1064, hat1920, hR1919, hm1146, hm1147, hm1148, hm1149, hd1150⟩
        rw [← sets_of_at hat1920]
        have hz1921 := hR1919.size
        have hB1922 := hB324.step hR1919 (fun i_ hi_ e' => e'.elim (fun e' => e') (fun e' => by have e'' : i_ = g9 := e'; exfalso; omega))
        refine AH.br [1, 9] (by kernel_rfl) rfl ⟨Br.mk' rfl trivial ?_, Br.mk' rfl trivial ?_, trivial⟩
        · refine SR.lit (vs := [.int .i64 0, .int .i64 8, .int .i64 2]) (L := ([0, 8, 2] : List Int)) (enc := encI) tel30 (fun _ => rfl) rfl rfl rfl (by decide) ?_
          intro g1923 w1924 hg1925 hk1926 hO1927
          have hz1928 := hk1926.size
          have hB1929 := hB1922.lo hk1926
          have hS1930 := (hR1919).lo hk1926
          have hd1931 : ¬ (pA g1064) = some ⟨g1923, 0, none⟩ := fun e' => by have := (hm1147).base_le e'; omega
          have hd1932 : ¬ (pA g1137) = some ⟨g1923, 0, none⟩ := fun e' => by have := (hm1146).base_le e'; omega
          refine SR.nil ⟨hS1930, _, rfl, ?_⟩
          refine AH.goto (by kernel_rfl) rfl (hn1650 _ _ ?_)
          exact ⟨g1923, g1137, g1064, ⟨rfl, rfl, rfl, rfl, rfl, rfl, rfl, rfl, rfl, rfl, rfl, trivial⟩, hS1930, ((hO1927).down (by omega)), (((hm1146).lo hk1926).down (by omega)), (((hm1147).lo hk1926).down (by omega)), ((hm1148).lo hk1926), ((hm1149).lo hk1926), (fun b_ h h' => hd1932 (h'.trans h.symm)), (fun b_ h h' => hd1931 (h'.trans h.symm)), hd1150⟩
        · refine SR.lit (vs := [.int .i64 0, .int .i64 5]) (L := ([0, 5] : List Int)) (enc := encI) tel30 (fun _ => rfl) rfl rfl rfl (by decide) ?_
          intro g1936 w1937 hg1938 hk1939 hO1940
          have hz1941 := hk1939.size
          have hB1942 := hB1922.lo hk1939
          have hS1943 := (hR1919).lo hk1939
          have hd1944 : ¬ (pA g1064) = some ⟨g1936, 0, none⟩ := fun e' => by have := (hm1147).base_le e'; omega
          have hd1945 : ¬ (pA g1137) = some ⟨g1936, 0, none⟩ := fun e' => by have := (hm1146).base_le e'; omega
          refine SR.nil ⟨hS1943, _, rfl, ?_⟩
          refine AH.goto (by kernel_rfl) rfl (hn1724 _ _ ?_)
          exact ⟨g1137, g1064, g1936, ⟨rfl, rfl, rfl, rfl, rfl, rfl, rfl, rfl, rfl, rfl, rfl, trivial⟩, hS1943, (((hm1146).lo hk1939).down (by omega)), (((hm1147).lo hk1939).down (by omega)), ((hO1940).down (by omega)), ((hm1148).lo hk1939), ((hm1149).lo hk1939), hd1150, (fun b_ h h' => hd1945 (h.trans h'.symm)), (fun b_ h h' => hd1944 (h.trans h'.symm))⟩
      refine AH.via #[true, false, false, true, true, true, false, false, true, true, false, true, true, false, false, false] 8 (fun f' w' => ∃ (g1200 : Nat) (g1171 : Nat), At f' [(0, .pointer (pA gc)), (4, .pointer (pA g9)), (5, .pointer (pA g39)), (6, .pointer (pA g48)), (40, .pointer (pA gc)), (43, .pointer (pA gc)), (45, .int .i64 m.Id), (48, .pointer (pA gc)), (49, .slice (pA g1171) 2 2), (51, .pointer (pA gc)), (52, .slice (pA g1200) 3 3)] ∧ (Kp (fun b_ => b_ = gc ∨ b_ = g9) w316 w') ∧ (SlO w' w316.heap.size encI 1 3 (pA g1200) 3 3 ([0, 1, (-1)] : List Int)) ∧ (SlO w' w316.heap.size encI 1 3 (pA g1171) 2 2 ([0, 5] : List Int)) ∧ (Blk w' gc ec [.slice Ac nc cc, .int .i64 t319, .int .u64 s320]) ∧ (Blk w' g9 66 [.int .i64 0, .int .i64 0, .int .i64 0, .int .i64 0]) ∧ (∀ b_, (pA g1200) = some ⟨b_, 0, none⟩ → ¬ (pA g1171) = some ⟨b_, 0, none⟩)) ?_ (fun hn1949 => ?_)
      · rintro f1950 w1951 ⟨g1200, g1171, hat1953, hR1952, hm1209, hm1210, hm1211, hm1212, hd1213⟩
        rw [← sets_of_at hat1953]
        have hz1954 := hR1952.size
        have hB1955 := hB324.step hR1952 (fun i_ hi_ e' => e'.elim (fun e' => e') (fun e' => by have e'' : i_ = g9 := e'; exfalso; omega))
        refine AH.br [1, 6] (by kernel_rfl) rfl ⟨Br.mk' rfl trivial ?_, Br.mk' rfl trivial ?_, trivial⟩
        · refine SR.lit (vs := [.int .i64 0, .int .i64 8, .int .i64 2]) (L := ([0, 8, 2] : List Int)) (enc := encI) tel30 (fun _ => rfl) rfl rfl rfl (by decide) ?_
          intro g1956 w1957 hg1958 hk1959 hO1960
          have hz1961 := hk1959.size
          have hB1962 := hB1955.lo hk1959
          have hS1963 := (hR1952).lo hk1959
          have hd1964 : ¬ (pA g1171) = some ⟨g1956, 0, none⟩ := fun e' => by have := (hm1210).base_le e'; omega
          have hd1965 : ¬ (pA g1200) = some ⟨g1956, 0, none⟩ := fun e' => by have := (hm1209).base_le e'; omega
          refine SR.nil ⟨hS1963, _, rfl, ?_⟩
          refine AH.goto (by kernel_rfl) rfl (hn1687 _ _ ?_)
          exact ⟨g1956, g1200, g1171, ⟨rfl, rfl, rfl, rfl, rfl, rfl, rfl, rfl, rfl, rfl, rfl, rfl, trivial⟩, hS1963, ((hO1960).down (by omega)), (((hm1209).lo hk1959).down (by omega)), (((hm1210).lo hk1959).down (by omega)), ((hm1211).lo hk1959), ((hm1212).lo hk1959), (fun b_ h h' => hd1965 (h'.trans h.symm)), (fun b_ h h' => hd1964 (h'.trans h.symm)), hd1213⟩
        · refine SR.lit (vs := [.int .i64 0, .int .i64 m.Id, .int .i64 100]) (L := ([0, m.Id, 100] : List Int)) (enc := encI) tel30 (fun _ => rfl) rfl rfl rfl (by decide) ?_
          intro g1969 w1970 hg1971 hk1972 hO1973
          have hz1974 := hk1972.size
          have hB1975 := hB1955.lo hk1972
          have hS1976 := (hR1952).lo hk1972
          have hd1977 : ¬ (pA g1171) = some ⟨g1969, 0, none⟩ := fun e' => by have := (hm1210).base_le e'; omega
          have hd1978 : ¬ (pA g1200) = some ⟨g1969, 0, none⟩ := fun e' => by have := (hm1209).base_le e'; omega
          refine SR.nil ⟨hS1976, _, rfl, ?_⟩
          refine AH.goto (by kernel_rfl) rfl (hn1724 _ _ ?_)
          exact ⟨g1200, g1969, g1171, ⟨rfl, rfl, rfl, rfl, rfl, rfl, rfl, rfl, rfl, rfl, rfl, trivial⟩, hS1976, (((hm1209).lo hk1972).down (by omega)), ((hO1973).down (by omega)), (((hm1210).lo hk1972).down (by omega)), ((hm1211).lo hk1972), ((hm1212).lo hk1972), (fun b_ h h' => hd1978 (h.trans h'.symm)), hd1213, (fun b_ h h' => hd1977 (h'.trans h.symm))⟩
      refine AH.take 0 rfl (by kernel_rfl) trivial ((Kp.refl w316 : Kp (fun b_ => b_ = gc ∨ b_ = g9) w316 w316).lo hk1273) (fun w' hw' => r_mv (v := .pointer (some _)) rfl) <| AH.take 3 rfl (by kernel_rfl) trivial ((Kp.refl w316 : Kp (fun b_ => b_ = gc ∨ b_ = g9) w316 w316).lo hk1273) (fun w' hw' => r_mv (v := .pointer (some _)) rfl) <| AH.take 4 rfl (by kernel_rfl) trivial ((Kp.refl w316 : Kp (fun b_ => b_ = gc ∨ b_ = g9) w316 w316).lo hk1273) (fun w' hw' => r_fa fa48_0 rfl) <| AH.take 5 rfl (by kernel_rfl) trivial ((Kp.refl w316 : Kp (fun b_ => b_ = gc ∨ b_ = g9) w316 w316).lo hk1273) (fun w' hw' => r_ld (v := .int .i64 m.Id) sca3 rfl ((((hm308).kn hk317 (by omega)).kp hw' (fun e' => e'.elim (fun e' => by have e'' : g39 = gc := e'; omega) (fun e' => by have e'' : g39 = g9 := e'; omega))).cell rfl)) <| AH.take 8 rfl (by kernel_rfl) trivial ((Kp.refl w316 : Kp (fun b_ => b_ = gc ∨ b_ = g9) w316 w316).lo hk1273) (fun w' hw' => r_mv (v := .pointer (some _)) rfl) <| AH.take 11 rfl (by kernel_rfl) trivial ((Kp.refl w316 : Kp (fun b_ => b_ = gc ∨ b_ = g9) w316 w316).lo hk1273) (fun w' hw' => r_mv (v := .pointer (some _)) rfl) <| AH.br [1, 6, 9, 12] (by kernel_rfl) rfl ⟨Br.mk' rfl trivial ?_, Br.mk' rfl trivial ?_, Br.mk' rfl trivial ?_, Br.mk' rfl trivial ?_, trivial⟩
      · refine SR.lit (vs := [.int .i64 0, .int .i64 8, .int .i64 2]) (L := ([0, 8, 2] : List Int)) (enc := encI) tel30 (fun _ => rfl) rfl rfl rfl (by decide) ?_
        intro g1982 w1983 hg1984 hk1985 hO1986
        have hz1987 := hk1985.size
        have hB1988 := hB1275.lo hk1985
        have hS1989 := ((Kp.refl w316 : Kp (fun b_ => b_ = gc ∨ b_ = g9) w316 w316).lo hk1273).lo hk1985
        refine SR.nil ⟨hS1989, _, rfl, ?_⟩
        refine AH.br [2, 6, 9, 12] (by kernel_rfl) rfl ⟨Br.mk' rfl trivial ?_, Br.mk' rfl trivial ?_, Br.mk' rfl trivial ?_, Br.mk' rfl trivial ?_, trivial⟩
        · refine SR.call ent26 (c___spec_l1Cur__among w1983 Lc t319 s320 (((hb321).lo hk1273).lo hk1985) (((((hm306).kn hk317 (by omega)).lo hk1273).lo hk1985)) (by omega) (by omega) ([0, 8, 2] : List Int) (((hO1986).rd)) (by omega) (by omega) (show ¬ g1982 = gc from by first | omega | (have := (hO1986).base_le rfl; omega))) rfl ?_
          rintro e w1990 ⟨v1992, t1993, s1994, rfl, hb1995, ht1996, hq1997, hk1991⟩
          refine ⟨_, rfl, ?_⟩
          have hz1998 := hk1991.size
          have hB1999 := hB1988.step hk1991 (fun i_ hi_ e' => e')
          have hS2000 := (hS1989).step hk1991 (fun _ _ e => .inl e)
          have hq2001 : (0 : Int) ≤ v1992 ∧ v1992 ≤ 8 := mem_rngB (lo := 0) (hi := 8) (by decide) hq1997
          refine SR.nil ⟨hS2000, _, rfl, ?_⟩
          refine AH.br [6, 9, 12] (by kernel_rfl) rfl ⟨Br.mk' rfl trivial ?_, Br.mk' rfl trivial ?_, Br.mk' rfl trivial ?_, trivial⟩
          · refine SR.lit (vs := [.int .i64 0, .int .i64 m.Id, .int .i64 100]) (L := ([0, m.Id, 100] : List Int)) (enc := encI) tel30 (fun _ => rfl) rfl rfl rfl (by decide) ?_
            intro g2002 w2003 hg2004 hk2005 hO2006
            have hz2007 := hk2005.size
            have hB2008 := hB1999.lo hk2005
            have hS2009 := (hS2000).lo hk2005
            refine SR.nil ⟨hS2009, _, rfl, ?_⟩
            refine AH.goto (by kernel_rfl) rfl (hn1502 _ _ ?_)
            exact ⟨g1982, v1992, t1993, s1994, g2002, ⟨rfl, rfl, rfl, rfl, rfl, rfl, rfl, rfl, rfl, trivial⟩, hS2009, ((hO2006).down (by omega)), ((hb1995).lo hk2005), ((((((hm307).kn hk317 (by omega)).lo hk1273).lo hk1985).kn hk1991 (by omega)).lo hk2005), ht1996, hq1997, hq2001⟩
          · refine SR.lit (vs := [.int .i64 0, .int .i64 5]) (L := ([0, 5] : List Int)) (enc := encI) tel30 (fun _ => rfl) rfl rfl rfl (by decide) ?_
            intro g2011 w2012 hg2013 hk2014 hO2015
            have hz2016 := hk2014.size
            have hB2017 := hB1999.lo hk2014
            have hS2018 := (hS2000).lo hk2014
            refine SR.nil ⟨hS2018, _, rfl, ?_⟩
            refine AH.goto (by kernel_rfl) rfl (hn1559 _ _ ?_)
            exact ⟨g1982, v1992, t1993, s1994, g2011, ⟨rfl, rfl, rfl, rfl, rfl, rfl, rfl, rfl, rfl, rfl, trivial⟩, hS2018, ((hO2015).down (by omega)), ((hb1995).lo hk2014), ((((((hm307).kn hk317 (by omega)).lo hk1273).lo hk1985).kn hk1991 (by omega)).lo hk2014), ht1996, hq1997, hq2001⟩
          · refine SR.lit (vs := [.int .i64 0, .int .i64 1, .int .i64 (-1)]) (L := ([0, 1, (-1)] : List Int)) (enc := encI) tel30 (fun _ => rfl) rfl rfl rfl (by decide) ?_
            intro g2020 w2021 hg2022 hk2023 hO2024
            have hz2025 := hk2023.size
            have hB2026 := hB1999.lo hk2023
            have hS2027 := (hS2000).lo hk2023
            refine SR.nil ⟨hS2027, _, rfl, ?_⟩
            refine AH.goto (by kernel_rfl) rfl (hn1586 _ _ ?_)
            exact ⟨g1982, g2020, v1992, t1993, s1994, ⟨rfl, rfl, rfl, rfl, rfl, rfl, rfl, rfl, rfl, rfl, trivial⟩, hS2027, ((hO2024).down (by omega)), ((hb1995).lo hk2023), ((((((hm307).kn hk317 (by omega)).lo hk1273).lo hk1985).kn hk1991 (by omega)).lo hk2023), ht1996, hq1997, hq2001⟩
        · refine SR.lit (vs := [.int .i64 0, .int .i64 m.Id, .int .i64 100]) (L := ([0, m.Id, 100] : List Int)) (enc := encI) tel30 (fun _ => rfl) rfl rfl rfl (by decide) ?_
          intro g2029 w2030 hg2031 hk2032 hO2033
          have hz2034 := hk2032.size
          have hB2035 := hB1988.lo hk2032
          have hS2036 := (hS1989).lo hk2032
          have hd2037 : ¬ (pA g1982) = some ⟨g2029, 0, none⟩ := fun e' => by have := (hO1986).base_le e'; omega
          refine SR.nil ⟨hS2036, _, rfl, ?_⟩
          refine AH.goto (by kernel_rfl) rfl (hn1748 _ _ ?_)
          exact ⟨g1982, g2029, ⟨rfl, rfl, rfl, rfl, rfl, rfl, rfl, rfl, rfl, rfl, trivial⟩, hS2036, (((hO1986).lo hk2032).down (by omega)), ((hO2033).down (by omega)), ((((hb321).lo hk1273).lo hk1985).lo hk2032), (((((hm307).kn hk317 (by omega)).lo hk1273).lo hk1985).lo hk2032), (fun b_ h h' => hd2037 (h.trans h'.symm))⟩
        · refine SR.lit (vs := [.int .i64 0, .int .i64 5]) (L := ([0, 5] : List Int)) (enc := encI) tel30 (fun _ => rfl) rfl rfl rfl (by decide) ?_
          intro g2039 w2040 hg2041 hk2042 hO2043
          have hz2044 := hk2042.size
          have hB2045 := hB1988.lo hk2042
          have hS2046 := (hS1989).lo hk2042
          have hd2047 : ¬ (pA g1982) = some ⟨g2039, 0, none⟩ := fun e' => by have := (hO1986).base_le e'; omega
          refine SR.nil ⟨hS2046, _, rfl, ?_⟩
          refine AH.goto (by kernel_rfl) rfl (hn1793 _ _ ?_)
          exact ⟨g1982, g2039, ⟨rfl, rfl, rfl, rfl, rfl, rfl, rfl, rfl, rfl, rfl, rfl, trivial⟩, hS2046, (((hO1986).lo hk2042).down (by omega)), ((hO2043).down (by omega)), ((((hb321).lo hk1273).lo hk1985).lo hk2042), (((((hm307).kn hk317 (by omega)).lo hk1273).lo hk1985).lo hk2042), (fun b_ h h' => hd2047 (h.trans h'.symm))⟩
        · refine SR.lit (vs := [.int .i64 0, .int .i64 1, .int .i64 (-1)]) (L := ([0, 1, (-1)] : List Int)) (enc := encI) tel30 (fun _ => rfl) rfl rfl rfl (by decide) ?_
          intro g2049 w2050 hg2051 hk2052 hO2053
          have hz2054 := hk2052.size
          have hB2055 := hB1988.lo hk2052
          have hS2056 := (hS1989).lo hk2052
          have hd2057 : ¬ (pA g1982) = some ⟨g2049, 0, none⟩ := fun e' => by have := (hO1986).base_le e'; omega
          refine SR.nil ⟨hS2056, _, rfl, ?_⟩
          refine AH.goto (by kernel_rfl) rfl (hn1838 _ _ ?_)
          exact ⟨g1982, g2049, ⟨rfl, rfl, rfl, rfl, rfl, rfl, rfl, rfl, rfl, rfl, rfl, trivial⟩, hS2056, (((hO1986).lo hk2052).down (by omega)), ((hO2053).down (by omega)), ((((hb321).lo hk1273).lo hk1985).lo hk2052), (((((hm307).kn hk317 (by omega)).lo hk1273).lo hk1985).lo hk2052), (fun b_ h h' => hd2057 (h.trans h'.symm))⟩
      · refine SR.lit (vs := [.int .i64 0, .int .i64 m.Id, .int .i64 100]) (L := ([0, m.Id, 100] : List Int)) (enc := encI) tel30 (fun _ => rfl) rfl rfl rfl (by decide) ?_
        intro g2059 w2060 hg2061 hk2062 hO2063
        have hz2064 := hk2062.size
        have hB2065 := hB1275.lo hk2062
        have hS2066 := ((Kp.refl w316 : Kp (fun b_ => b_ = gc ∨ b_ = g9) w316 w316).lo hk1273).lo hk2062
        refine SR.nil ⟨hS2066, _, rfl, ?_⟩
        refine AH.br [1, 9, 12] (by kernel_rfl) rfl ⟨Br.mk' rfl trivial ?_, Br.mk' rfl trivial ?_, Br.mk' rfl trivial ?_, trivial⟩
        · refine SR.lit (vs := [.int .i64 0, .int .i64 8, .int .i64 2]) (L := ([0, 8, 2] : List Int)) (enc := encI) tel30 (fun _ => rfl) rfl rfl rfl (by decide) ?_
          intro g2067 w2068 hg2069 hk2070 hO2071
          have hz2072 := hk2070.size
          have hB2073 := hB2065.lo hk2070
          have hS2074 := (hS2066).lo hk2070
          have hd2075 : ¬ (pA g2059) = some ⟨g2067, 0, none⟩ := fun e' => by have := (hO2063).base_le e'; omega
          refine SR.nil ⟨hS2074, _, rfl, ?_⟩
          refine AH.goto (by kernel_rfl) rfl (hn1748 _ _ ?_)
          exact ⟨g2067, g2059, ⟨rfl, rfl, rfl, rfl, rfl, rfl, rfl, rfl, rfl, rfl, trivial⟩, hS2074, ((hO2071).down (by omega)), (((hO2063).lo hk2070).down (by omega)), ((((hb321).lo hk1273).lo hk2062).lo hk2070), (((((hm307).kn hk317 (by omega)).lo hk1273).lo hk2062).lo hk2070), (fun b_ h h' => hd2075 (h'.trans h.symm))⟩
        · refine SR.lit (vs := [.int .i64 0, .int .i64 5]) (L := ([0, 5] : List Int)) (enc := encI) tel30 (fun _ => rfl) rfl rfl rfl (by decide) ?_
          intro g2077 w2078 hg2079 hk2080 hO2081
          have hz2082 := hk2080.size
          have hB2083 := hB2065.lo hk2080
          have hS2084 := (hS2066).lo hk2080
          have hd2085 : ¬ (pA g2059) = some ⟨g2077, 0, none⟩ := fun e' => by have := (hO2063).base_le e'; omega
          refine SR.nil ⟨hS2084, _, rfl, ?_⟩
          refine AH.goto (by kernel_rfl) rfl (hn1883 _ _ ?_)
          exact ⟨g2059, g2077, ⟨rfl, rfl, rfl, rfl, rfl, rfl, rfl, rfl, rfl, rfl, trivial⟩, hS2084, (((hO2063).lo hk2080).down (by omega)), ((hO2081).down (by omega)), ((((hb321).lo hk1273).lo hk2062).lo hk2080), (((((hm307).kn hk317 (by omega)).lo hk1273).lo hk2062).lo hk2080), (fun b_ h h' => hd2085 (h.trans h'.symm))⟩
        · refine SR.lit (vs := [.int .i64 0, .int .i64 1, .int .i64 (-1)]) (L := ([0, 1, (-1)] : List Int)) (enc := encI) tel30 (fun _ => rfl) rfl rfl rfl (by decide) ?_
          intro g2087 w2088 hg2089 hk2090 hO2091
          have hz2092 := hk2090.size
          have hB2093 := hB2065.lo hk2090
          have hS2094 := (hS2066).lo hk2090
          have hd2095 : ¬ (pA g2059) = some ⟨g2087, 0, none⟩ := fun e' => by have := (hO2063).base_le e'; omega
          refine SR.nil ⟨hS2094, _, rfl, ?_⟩
          refine AH.goto (by kernel_rfl) rfl (hn1916 _ _ ?_)
          exact ⟨g2087, g2059, ⟨rfl, rfl, rfl, rfl, rfl, rfl, rfl, rfl, rfl, rfl, trivial⟩, hS2094, ((hO2091).down (by omega)), (((hO2063).lo hk2090).down (by omega)), ((((hb321).lo hk1273).lo hk2062).lo hk2090), (((((hm307).kn hk317 (by omega)).lo hk1273).lo hk2062).lo hk2090), (fun b_ h h' => hd2095 (h'.trans h.symm))⟩
      · refine SR.lit (vs := [.int .i64 0, .int .i64 5]) (L := ([0, 5] : List Int)) (enc := encI) tel30 (fun _ => rfl) rfl rfl rfl (by decide) ?_
        intro g2097 w2098 hg2099 hk2100 hO2101
        have hz2102 := hk2100.size
        have hB2103 := hB1275.lo hk2100
        have hS2104 := ((Kp.refl w316 : Kp (fun b_ => b_ = gc ∨ b_ = g9) w316 w316).lo hk1273).lo hk2100
        refine SR.nil ⟨hS2104, _, rfl, ?_⟩
        refine AH.br [1, 6, 12] (by kernel_rfl) rfl ⟨Br.mk' rfl trivial ?_, Br.mk' rfl trivial ?_, Br.mk' rfl trivial ?_, trivial⟩
        · refine SR.lit (vs := [.int .i64 0, .int .i64 8, .int .i64 2]) (L := ([0, 8, 2] : List Int)) (enc := encI) tel30 (fun _ => rfl) rfl rfl rfl (by decide) ?_
          intro g2105 w2106 hg2107 hk2108 hO2109
          have hz2110 := hk2108.size
          have hB2111 := hB2103.lo hk2108
          have hS2112 := (hS2104).lo hk2108
          have hd2113 : ¬ (pA g2097) = some ⟨g2105, 0, none⟩ := fun e' => by have := (hO2101).base_le e'; omega
          refine SR.nil ⟨hS2112, _, rfl, ?_⟩
          refine AH.goto (by kernel_rfl) rfl (hn1793 _ _ ?_)
          exact ⟨g2105, g2097, ⟨rfl, rfl, rfl, rfl, rfl, rfl, rfl, rfl, rfl, rfl, rfl, trivial⟩, hS2112, ((hO2109).down (by omega)), (((hO2101).lo hk2108).down (by omega)), ((((hb321).lo hk1273).lo hk2100).lo hk2108), (((((hm307).kn hk317 (by omega)).lo hk1273).lo hk2100).lo hk2108), (fun b_ h h' => hd2113 (h'.trans h.symm))⟩
        · refine SR.lit (vs := [.int .i64 0, .int .i64 m.Id, .int .i64 100]) (L := ([0, m.Id, 100] : List Int)) (enc := encI) tel30 (fun _ => rfl) rfl rfl rfl (by decide) ?_
          intro g2115 w2116 hg2117 hk2118 hO2119
          have hz2120 := hk2118.size
          have hB2121 := hB2103.lo hk2118
          have hS2122 := (hS2104).lo hk2118
          have hd2123 : ¬ (pA g2097) = some ⟨g2115, 0, none⟩ := fun e' => by have := (hO2101).base_le e'; omega
          refine SR.nil ⟨hS2122, _, rfl, ?_⟩
          refine AH.goto (by kernel_rfl) rfl (hn1883 _ _ ?_)
          exact ⟨g2115, g2097, ⟨rfl, rfl, rfl, rfl, rfl, rfl, rfl, rfl, rfl, rfl, trivial⟩, hS2122, ((hO2119).down (by omega)), (((hO2101).lo hk2118).down (by omega)), ((((hb321).lo hk1273).lo hk2100).lo hk2118), (((((hm307).kn hk317 (by omega)).lo hk1273).lo hk2100).lo hk2118), (fun b_ h h' => hd2123 (h'.trans h.symm))⟩
        · refine SR.lit (vs := [.int .i64 0, .int .i64 1, .int .i64 (-1)]) (L := ([0, 1, (-1)] : List Int)) (enc := encI) tel30 (fun _ => rfl) rfl rfl rfl (by decide) ?_
          intro g2125 w2126 hg2127 hk2128 hO2129
          have hz2130 := hk2128.size
          have hB2131 := hB2103.lo hk2128
          have hS2132 := (hS2104).lo hk2128
          have hd2133 : ¬ (pA g2097) = some ⟨g2125, 0, none⟩ := fun e' => by have := (hO2101).base_le e'; omega
          refine SR.nil ⟨hS2132, _, rfl, ?_⟩
          refine AH.goto (by kernel_rfl) rfl (hn1949 _ _ ?_)
          exact ⟨g2125, g2097, ⟨rfl, rfl, rfl, rfl, rfl, rfl, rfl, rfl, rfl, rfl, rfl, trivial⟩, hS2132, ((hO2129).down (by omega)), (((hO2101).lo hk2128).down (by omega)), ((((hb321).lo hk1273).lo hk2100).lo hk2128), (((((hm307).kn hk317 (by omega)).lo hk1273).lo hk2100).lo hk2128), (fun b_ h h' => hd2133 (h'.trans h.symm))⟩
      · refine SR.lit (vs := [.int .i64 0, .int .i64 1, .int .i64 (-1)]) (L := ([0, 1, (-1)] : List Int)) (enc := encI) tel30 (fun _ => rfl) rfl rfl rfl (by decide) ?_
        intro g2135 w2136 hg2137 hk2138 hO2139
        have hz2140 := hk2138.size
        have hB2141 := hB1275.lo hk2138
        have hS2142 := ((Kp.refl w316 : Kp (fun b_ => b_ = gc ∨ b_ = g9) w316 w316).lo hk1273).lo hk2138
        refine SR.nil ⟨hS2142, _, rfl, ?_⟩
        refine AH.br [1, 6, 9] (by kernel_rfl) rfl ⟨Br.mk' rfl trivial ?_, Br.mk' rfl trivial ?_, Br.mk' rfl trivial ?_, trivial⟩
        · refine SR.lit (vs := [.int .i64 0, .int .i64 8, .int .i64 2]) (L := ([0, 8, 2] : List Int)) (enc := encI) tel30 (fun _ => rfl) rfl rfl rfl (by decide) ?_
          intro g2143 w2144 hg2145 hk2146 hO2147
          have hz2148 := hk2146.size
          have hB2149 := hB2141.lo hk2146
          have hS2150 := (hS2142).lo hk2146
          have hd2151 : ¬ (pA g2135) = some ⟨g2143, 0, none⟩ := fun e' => by have := (hO2139).base_le e'; omega
          refine SR.nil ⟨hS2150, _, rfl, ?_⟩
          refine AH.goto (by kernel_rfl) rfl (hn1838 _ _ ?_)
          exact ⟨g2143, g2135, ⟨rfl, rfl, rfl, rfl, rfl, rfl, rfl, rfl, rfl, rfl, rfl, trivial⟩, hS2150, ((hO2147).down (by omega)), (((hO2139).lo hk2146).down (by omega)), ((((hb321).lo hk1273).lo hk2138).lo hk2146), (((((hm307).kn hk317 (by omega)).lo hk1273).lo hk2138).lo hk2146), (fun b_ h h' => hd2151 (h'.trans h.symm))⟩
        · refine SR.lit (vs := [.int .i64 0, .int .i64 m.Id, .int .i64 100]) (L := ([0, m.Id, 100] : List Int)) (enc := encI) tel30 (fun _ => rfl) rfl rfl rfl (by decide) ?_
          intro g2153 w2154 hg2155 hk2156 hO2157
          have hz2158 := hk2156.size
          have hB2159 := hB2141.lo hk2156
          have hS2160 := (hS2142).lo hk2156
          have hd2161 : ¬ (pA g2135) = some ⟨g2153, 0, none⟩ := fun e' => by have := (hO2139).base_le e'; omega
          refine SR.nil ⟨hS2160, _, rfl, ?_⟩
          refine AH.goto (by kernel_rfl) rfl (hn1916 _ _ ?_)
          exact ⟨g2135, g2153, ⟨rfl, rfl, rfl, rfl, rfl, rfl, rfl, rfl, rfl, rfl, trivial⟩, hS2160, (((hO2139).lo hk2156).down (by omega)), ((hO2157).down (by omega)), ((((hb321).lo hk1273).lo hk2138).lo hk2156), (((((hm307).kn hk317 (by omega)).lo hk1273).lo hk2138).lo hk2156), (fun b_ h h' => hd2161 (h.trans h'.symm))⟩
        · refine SR.lit (vs := [.int .i64 0, .int .i64 5]) (L := ([0, 5] : List Int)) (enc := encI) tel30 (fun _ => rfl) rfl rfl rfl (by decide) ?_
          intro g2163 w2164 hg2165 hk2166 hO2167
          have hz2168 := hk2166.size
          have hB2169 := hB2141.lo hk2166
          have hS2170 := (hS2142).lo hk2166
          have hd2171 : ¬ (pA g2135) = some ⟨g2163, 0, none⟩ := fun e' => by have := (hO2139).base_le e'; omega
          refine SR.nil ⟨hS2170, _, rfl, ?_⟩
          refine AH.goto (by kernel_rfl) rfl (hn1949 _ _ ?_)
          exact ⟨g2135, g2163, ⟨rfl, rfl, rfl, rfl, rfl, rfl, rfl, rfl, rfl, rfl, rfl, trivial⟩, hS2170, (((hO2139).lo hk2166).down (by omega)), ((hO2167).down (by omega)), ((((hb321).lo hk1273).lo hk2138).lo hk2166), (((((hm307).kn hk317 (by omega)).lo hk1273).lo hk2138).lo hk2166), (fun b_ h h' => hd2171 (h.trans h'.symm))⟩
    rintro f2173 w2174 ⟨g466, v532, t533, s534, g544, v560, t561, s562, v479, t480, s481, g491, v505, t506, s507, g517, hat2176, hR2175, hm579, hm580, ht483, hq484, hq488, ht509, hq510, hq514, ht536, hq537, hq541, ht564, hq565, hq569⟩
    rw [← sets_of_at hat2176]
    have hz2177 := hR2175.size
    have hB2178 := hB324.step hR2175 (fun i_ hi_ e' => e'.elim (fun e' => e') (fun e' => by have e'' : i_ = g9 := e'; exfalso; omega))
    refine W.ret ?_
    refine retC rfl rfl agg66 (hm580) rfl ?_
    exact ⟨(⟨v479, v505, v532, v560⟩ : LibraryStep), t561, s562, eR (eA rfl), (hm579), ⟨by omega, by omega⟩, (by first | omega | (dsimp only; omega)), hB2178⟩
  · refine W.skip ?_
    refine W.seq ?_
    refine W.seq ?_
    refine W.regS (SR.q' (r_mv (v := .pointer (some _)) rfl) <| SR.call ent25 (c___spec_l1Cur__pick w316 Lc t319 s320 (hb321) (((hm306).kn hk317 (by omega))) (by omega) (by omega) 14 (by first | omega | (simp only [List.length_append, List.length_cons, List.length_nil, List.length_take, List.length_drop]; omega))) rfl ?_)
    rintro e w2179 ⟨v2181, t2182, s2183, rfl, hb2184, ht2185, hq2186, hk2180⟩
    refine ⟨_, rfl, ?_⟩
    have hz2187 := hk2180.size
    have hB2188 := hB324.step hk2180 (fun i_ hi_ e' => e')
    refine SR.nil ?_
    refine W.block ?_
    refine W.seq ?_
    refine W.seq ?_
    have hm2189 := ((hm306).kn hk317 (by omega)).kn hk2180 (by omega)
    have hm2190 := ((hm307).kn hk317 (by omega)).kn hk2180 (by omega)
    have hm2191 := ((hm308).kn hk317 (by omega)).kn hk2180 (by omega)
    have hm2192 := ((hm309).kn hk317 (by omega)).kn hk2180 (by omega)
    refine W.regS (SR.q' (r_eq rfl rfl) <| SR.q' (r_as (v := .bool _) rfl) <| SR.nil ?_)
    refine W.thenJ (fun f' w' => At f' [(0, .pointer (pA gc)), (4, .pointer (pA g9)), (5, .pointer (pA g39)), (6, .pointer (pA g48)), (56, .int .i64 v2181), (57, .bool (decide (((v2181 = 0) ∧ (v2181 = 0)) ∨ ((¬ (v2181 = 0)) ∧ (((v2181 = 1) ∧ (v2181 = 1)) ∨ ((¬ (v2181 = 1)) ∧ (v2181 = 2)))))))] ∧ Lo w2179 w') ?_ ?_
    · refine W.cond_d rfl (fun h2193 => ?_) (fun h2193 => ?_)
      · refine W.skip ?_
        exact ⟨_, rfl, ⟨rfl, rfl, rfl, rfl, rfl, (eDD (jgt h2193)), trivial⟩, (Lo.refl w2179)⟩
      · refine W.seq ?_
        refine W.regS (SR.q' (r_eq rfl rfl) <| SR.q' (r_as (v := .bool _) rfl) <| SR.nil ?_)
        refine W.cond_d rfl (fun h2194 => ?_) (fun h2194 => ?_)
        · refine W.skip ?_
          exact ⟨_, rfl, ⟨rfl, rfl, rfl, rfl, rfl, (eDD ((jgt h2194).trans (jgf h2193))), trivial⟩, (Lo.refl w2179)⟩
        · refine W.regS (SR.q' (r_eq rfl rfl) <| SR.q' (r_as (v := .bool _) rfl) <| SR.nil ?_)
          exact ⟨_, rfl, ⟨rfl, rfl, rfl, rfl, rfl, (eDD ((jgf h2194).trans (jgf h2193))), trivial⟩, (Lo.refl w2179)⟩
    rintro f2195 w2196 ⟨hat2197, hk2198⟩
    rw [← sets_of_at hat2197]
    have hz2199 := hk2198.size
    have hB2200 := hB2188.lo hk2198
    refine W.cond_d rfl (fun h2201 => ?_) (fun h2201 => ?_)
    · refine W.seq ?_
      refine W.regS (SR.q' (r_mv (v := .pointer (some _)) rfl) <| SR.lit (vs := [.int .i64 1, .int .i64 7, .int .i64 20, .int .i64 33, .int .i64 42, .int .i64 98, .int .i64 99, .int .i64 100]) (L := ([1, 7, 20, 33, 42, 98, 99, 100] : List Int)) (enc := encI) tel30 (fun _ => rfl) rfl rfl rfl (by decide) ?_)
      intro g2202 w2203 hg2204 hk2205 hO2206
      have hz2207 := hk2205.size
      have hB2208 := hB2200.lo hk2205
      refine SR.call ent26 (c___spec_l1Cur__among w2203 Lc t2182 s2183 (((hb2184).lo hk2198).lo hk2205) ((((hm2189).lo hk2198).lo hk2205)) (by omega) (by omega) ([1, 7, 20, 33, 42, 98, 99, 100] : List Int) (((hO2206).rd)) (by omega) (by omega) (show ¬ g2202 = gc from by first | omega | (have := (hO2206).base_le rfl; omega))) rfl ?_
      rintro e w2209 ⟨v2211, t2212, s2213, rfl, hb2214, ht2215, hq2216, hk2210⟩
      refine ⟨_, rfl, ?_⟩
      have hz2217 := hk2210.size
      have hB2218 := hB2208.step hk2210 (fun i_ hi_ e' => e')
      have hq2219 : (1 : Int) ≤ v2211 ∧ v2211 ≤ 100 := mem_rngB (lo := 1) (hi := 100) (by decide) hq2216
      refine SR.q' (r_mv (v := .pointer (some _)) rfl) <| SR.lit (vs := [.int .i64 1, .int .i64 2, .int .i64 3, .int .i64 50, .int .i64 51]) (L := ([1, 2, 3, 50, 51] : List Int)) (enc := encI) tel30 (fun _ => rfl) rfl rfl rfl (by decide) ?_
      intro g2220 w2221 hg2222 hk2223 hO2224
      have hz2225 := hk2223.size
      have hB2226 := hB2218.lo hk2223
      refine SR.call ent26 (c___spec_l1Cur__among w2221 Lc t2212 s2213 ((hb2214).lo hk2223) ((((((hm2189).lo hk2198).lo hk2205).kn hk2210 (by omega)).lo hk2223)) (by omega) (by omega) ([1, 2, 3, 50, 51] : List Int) (((hO2224).rd)) (by omega) (by omega) (show ¬ g2220 = gc from by first | omega | (have := (hO2224).base_le rfl; omega))) rfl ?_
      rintro e w2228 ⟨v2230, t2231, s2232, rfl, hb2233, ht2234, hq2235, hk2229⟩
      refine ⟨_, rfl, ?_⟩
      have hz2236 := hk2229.size
      have hB2237 := hB2226.step hk2229 (fun i_ hi_ e' => e')
      have hq2238 : (1 : Int) ≤ v2230 ∧ v2230 ≤ 51 := mem_rngB (lo := 1) (hi := 51) (by decide) hq2235
      refine SR.q' (r_build (vs := [(0, .int .i64 1), (1, .int .i64 v2211), (3, .int .i64 v2230)]) rfl (bld66_0_1_3 _ _ _)) <| SR.store (o := 0) (vs := [.int .i64 1, .int .i64 v2211, .int .i64 0, .int .i64 v2230]) agg66.2 rfl rfl rfl rfl ((((((hm2190).lo hk2198).lo hk2205).kn hk2210 (by omega)).lo hk2223).kn hk2229 (by omega)) (Nat.le_of_ble_eq_true rfl) rfl ?_
      intro w2239 hk2240 hs2241 hb2242
      have hz2243 := hk2240.size
      have hB2244 := hB2237.new hk2240 (by omega)
      refine SR.nil ?_
      refine W.ret ?_
      refine retC rfl rfl agg66 (hb2242) rfl ?_
      exact ⟨(⟨1, v2211, 0, v2230⟩ : LibraryStep), t2231, s2232, eR (eA rfl), ((hb2233).kn hk2240 (by omega)), ⟨by omega, by omega⟩, (by first | omega | (dsimp only; omega)), hB2244⟩
    · have hq2245 : ¬ ((v2181 = 0) ∧ (v2181 = 0)) := (not_or.1 h2201).1
      have hq2246 : ¬ ((¬ (v2181 = 0)) ∧ (((v2181 = 1) ∧ (v2181 = 1)) ∨ ((¬ (v2181 = 1)) ∧ (v2181 = 2)))) := (not_or.1 h2201).2
      refine W.seq ?_
      refine W.seq ?_
      refine W.regS (SR.q' (r_eq rfl rfl) <| SR.q' (r_as (v := .bool _) rfl) <| SR.nil ?_)
      refine W.thenJ (fun f' w' => At f' [(0, .pointer (pA gc)), (4, .pointer (pA g9)), (5, .pointer (pA g39)), (6, .pointer (pA g48)), (56, .int .i64 v2181), (68, .bool (decide (((v2181 = 3) ∧ (v2181 = 3)) ∨ ((¬ (v2181 = 3)) ∧ (((v2181 = 4) ∧ (v2181 = 4)) ∨ ((¬ (v2181 = 4)) ∧ (((v2181 = 5) ∧ (v2181 = 5)) ∨ ((¬ (v2181 = 5)) ∧ (v2181 = 6)))))))))] ∧ Lo w2196 w') ?_ ?_
      · refine W.cond_d rfl (fun h2247 => ?_) (fun h2247 => ?_)
        · refine W.skip ?_
          exact ⟨_, rfl, ⟨rfl, rfl, rfl, rfl, rfl, (eDD (jgt h2247)), trivial⟩, (Lo.refl w2196)⟩
        · refine W.seq ?_
          refine W.regS (SR.q' (r_eq rfl rfl) <| SR.q' (r_as (v := .bool _) rfl) <| SR.nil ?_)
          refine W.cond_d rfl (fun h2248 => ?_) (fun h2248 => ?_)
          · refine W.skip ?_
            exact ⟨_, rfl, ⟨rfl, rfl, rfl, rfl, rfl, (eDD ((jgt h2248).trans (jgf h2247))), trivial⟩, (Lo.refl w2196)⟩
          · refine W.seq ?_
            refine W.regS (SR.q' (r_eq rfl rfl) <| SR.q' (r_as (v := .bool _) rfl) <| SR.nil ?_)
            refine W.cond_d rfl (fun h2249 => ?_) (fun h2249 => ?_)
            · refine W.skip ?_
              exact ⟨_, rfl, ⟨rfl, rfl, rfl, rfl, rfl, (eDD (((jgt h2249).trans (jgf h2248)).trans (jgf h2247))), trivial⟩, (Lo.refl w2196)⟩
            · refine W.regS (SR.q' (r_eq rfl rfl) <| SR.q' (r_as (v := .bool _) rfl) <| SR.nil ?_)
              exact ⟨_, rfl, ⟨rfl, rfl, rfl, rfl, rfl, (eDD (((jgf h2249).trans (jgf h2248)).trans (jgf h2247))), trivial⟩, (Lo.refl w2196)⟩
      rintro f2250 w2251 ⟨hat2252, hk2253⟩
      rw [← sets_of_at hat2252]
      have hz2254 := hk2253.size
      have hB2255 := hB2200.lo hk2253
      refine W.cond_d rfl (fun h2256 => ?_) (fun h2256 => ?_)
      · refine W.seq ?_
        have hm2257 := ((hb2184).lo hk2198).lo hk2253
        have hm2258 := ((hm2189).lo hk2198).lo hk2253
        have hm2259 := ((hm2190).lo hk2198).lo hk2253
        have hm2260 := ((hm2191).lo hk2198).lo hk2253
        refine W.regA (Kp (fun b_ => b_ = gc ∨ b_ = g9) w2251) (fun f' w' => ∃ (g2326 : Nat) (v2339 : Int) (t2340 : Int) (s2341 : Int), At f' [(0, .pointer (pA gc)), (4, .pointer (pA g9)), (5, .pointer (pA g39))] ∧ (Kp (fun b_ => b_ = gc ∨ b_ = g9) w2251 w') ∧ (Blk w' gc ec [.slice Ac nc cc, .int .i64 t2340, .int .u64 s2341]) ∧ (Blk w' g9 66 [.int .i64 2, .int .i64 m.Id, .int .i64 v2339, .int .i64 0]) ∧ (t2182 ≤ t2340 ∧ t2340 ≤ t2182 + 2) ∧ (v2339 ∈ ([5, 17, 40, 999, 1000] : List Int)) ∧ ((5 : Int) ≤ v2339 ∧ v2339 ≤ 1000)) mo ?_ ?_
        · intro w2360 hk2361
          have hz2362 := hk2361.size
          have hB2363 := hB2255.lo hk2361
          refine AH.take 0 rfl (by kernel_rfl) trivial ((Kp.refl w2251 : Kp (fun b_ => b_ = gc ∨ b_ = g9) w2251 w2251).lo hk2361) (fun w' hw' => r_fa fa48_0 rfl) <| AH.take 1 rfl (by kernel_rfl) trivial ((Kp.refl w2251 : Kp (fun b_ => b_ = gc ∨ b_ = g9) w2251 w2251).lo hk2361) (fun w' hw' => r_ld (v := .int .i64 m.Id) sca3 rfl (((hm2260).kp hw' (fun e' => e'.elim (fun e' => by have e'' : g39 = gc := e'; omega) (fun e' => by have e'' : g39 = g9 := e'; omega))).cell rfl)) <| AH.take 2 rfl (by kernel_rfl) trivial ((Kp.refl w2251 : Kp (fun b_ => b_ = gc ∨ b_ = g9) w2251 w2251).lo hk2361) (fun w' hw' => r_mv (v := .pointer (some _)) rfl) <| AH.br [3] (by kernel_rfl) rfl ⟨Br.mk' rfl trivial ?_, trivial⟩
          refine SR.lit (vs := [.int .i64 5, .int .i64 17, .int .i64 40, .int .i64 999, .int .i64 1000]) (L := ([5, 17, 40, 999, 1000] : List Int)) (enc := encI) tel30 (fun _ => rfl) rfl rfl rfl (by decide) ?_
          intro g2364 w2365 hg2366 hk2367 hO2368
          have hz2369 := hk2367.size
          have hB2370 := hB2363.lo hk2367
          have hS2371 := ((Kp.refl w2251 : Kp (fun b_ => b_ = gc ∨ b_ = g9) w2251 w2251).lo hk2361).lo hk2367
          refine SR.nil ⟨hS2371, _, rfl, ?_⟩
          refine AH.br [4] (by kernel_rfl) rfl ⟨Br.mk' rfl trivial ?_, trivial⟩
          refine SR.call ent26 (c___spec_l1Cur__among w2365 Lc t2182 s2183 (((hm2257).lo hk2361).lo hk2367) ((((hm2258).lo hk2361).lo hk2367)) (by omega) (by omega) ([5, 17, 40, 999, 1000] : List Int) (((hO2368).rd)) (by omega) (by omega) (show ¬ g2364 = gc from by first | omega | (have := (hO2368).base_le rfl; omega))) rfl ?_
          rintro e w2372 ⟨v2374, t2375, s2376, rfl, hb2377, ht2378, hq2379, hk2373⟩
          refine ⟨_, rfl, ?_⟩
          have hz2380 := hk2373.size
          have hB2381 := hB2370.step hk2373 (fun i_ hi_ e' => e')
          have hS2382 := (hS2371).step hk2373 (fun _ _ e => .inl e)
          have hq2383 : (5 : Int) ≤ v2374 ∧ v2374 ≤ 1000 := mem_rngB (lo := 5) (hi := 1000) (by decide) hq2379
          refine SR.nil ⟨hS2382, _, rfl, ?_⟩
          refine AH.take 5 rfl (by kernel_rfl) trivial (hS2382) (fun w' hw' => r_build (vs := [(0, .int .i64 2), (1, .int .i64 m.Id), (2, .int .i64 v2374)]) rfl (bld66_0_1_2 _ _ _)) <| AH.br [6] (by kernel_rfl) rfl ⟨Br.mk' rfl trivial ?_, trivial⟩
          refine SR.store (o := 0) (vs := [.int .i64 2, .int .i64 m.Id, .int .i64 v2374, .int .i64 0]) agg66.2 rfl rfl rfl rfl ((((hm2259).lo hk2361).lo hk2367).kn hk2373 (by omega)) (Nat.le_of_ble_eq_true rfl) rfl ?_
          intro w2384 hk2385 hs2386 hb2387
          have hz2388 := hk2385.size
          have hB2389 := hB2381.new hk2385 (by omega)
          have hS2390 := (hS2382).step hk2385 (fun _ _ e => .inr (e))
          refine SR.nil ⟨hS2390, _, rfl, ?_⟩
          refine AH.done (by kernel_rfl) ?_
          exact ⟨g2364, v2374, t2375, s2376, ⟨rfl, rfl, rfl, trivial⟩, hS2390, ((hb2377).kn hk2385 (by omega)), (hb2387), ht2378, hq2379, hq2383⟩
        rintro f2391 w2392 ⟨g2326, v2339, t2340, s2341, hat2394, hR2393, hm2358, hm2359, ht2343, hq2344, hq2348⟩
        rw [← sets_of_at hat2394]
        have hz2395 := hR2393.size
        have hB2396 := hB2255.step hR2393 (fun i_ hi_ e' => e'.elim (fun e' => e') (fun e' => by have e'' : i_ = g9 := e'; exfalso; omega))
        refine W.ret ?_
        refine retC rfl rfl agg66 (hm2359) rfl ?_
        exact ⟨(⟨2, m.Id, v2339, 0⟩ : LibraryStep), t2340, s2341, eR (eA rfl), (hm2358), ⟨by omega, by omega⟩, (by first | omega | (dsimp only; omega)), hB2396⟩
      · have hq2397 : ¬ ((v2181 = 3) ∧ (v2181 = 3)) := (not_or.1 h2256).1
        have hq2398 : ¬ ((¬ (v2181 = 3)) ∧ (((v2181 = 4) ∧ (v2181 = 4)) ∨ ((¬ (v2181 = 4)) ∧ (((v2181 = 5) ∧ (v2181 = 5)) ∨ ((¬ (v2181 = 5)) ∧ (v2181 = 6)))))) := (not_or.1 h2256).2
        refine W.seq ?_
        refine W.seq ?_
        have hm2399 := ((hb2184).lo hk2198).lo hk2253
        have hm2400 := ((hm2189).lo hk2198).lo hk2253
        have hm2401 := ((hm2190).lo hk2198).lo hk2253
        have hm2402 := ((hm2191).lo hk2198).lo hk2253
        have hm2403 := ((hm2192).lo hk2198).lo hk2253
        refine W.regS (SR.q' (r_eq rfl rfl) <| SR.q' (r_as (v := .bool _) rfl) <| SR.nil ?_)
        refine W.thenJ (fun f' w' => At f' [(0, .pointer (pA gc)), (4, .pointer (pA g9)), (5, .pointer (pA g39)), (6, .pointer (pA g48)), (56, .int .i64 v2181), (79, .bool (decide (((v2181 = 7) ∧ (v2181 = 7)) ∨ ((¬ (v2181 = 7)) ∧ (v2181 = 8)))))] ∧ Lo w2251 w') ?_ ?_
        · refine W.cond_d rfl (fun h2404 => ?_) (fun h2404 => ?_)
          · refine W.skip ?_
            exact ⟨_, rfl, ⟨rfl, rfl, rfl, rfl, rfl, (eDD (jgt h2404)), trivial⟩, (Lo.refl w2251)⟩
          · refine W.regS (SR.q' (r_eq rfl rfl) <| SR.q' (r_as (v := .bool _) rfl) <| SR.nil ?_)
            exact ⟨_, rfl, ⟨rfl, rfl, rfl, rfl, rfl, (eDD (jgf h2404)), trivial⟩, (Lo.refl w2251)⟩
        rintro f2405 w2406 ⟨hat2407, hk2408⟩
        rw [← sets_of_at hat2407]
        have hz2409 := hk2408.size
        have hB2410 := hB2255.lo hk2408
        refine W.cond_d rfl (fun h2411 => ?_) (fun h2411 => ?_)
        · refine W.seq ?_
          refine W.regA (Kp (fun b_ => b_ = gc ∨ b_ = g9) w2406) (fun f' w' => ∃ (g2477 : Nat) (v2490 : Int) (t2491 : Int) (s2492 : Int), At f' [(0, .pointer (pA gc)), (4, .pointer (pA g9)), (5, .pointer (pA g39))] ∧ (Kp (fun b_ => b_ = gc ∨ b_ = g9) w2406 w') ∧ (Blk w' gc ec [.slice Ac nc cc, .int .i64 t2491, .int .u64 s2492]) ∧ (Blk w' g9 66 [.int .i64 3, .int .i64 a.Map, .int .i64 a.Reader, .int .i64 v2490]) ∧ (t2182 ≤ t2491 ∧ t2491 ≤ t2182 + 2) ∧ (v2490 ∈ ([0, 1, 1, 2] : List Int)) ∧ ((0 : Int) ≤ v2490 ∧ v2490 ≤ 2)) mo ?_ ?_
          · intro w2511 hk2512
            have hz2513 := hk2512.size
            have hB2514 := hB2410.lo hk2512
            refine AH.take 0 rfl (by kernel_rfl) trivial ((Kp.refl w2406 : Kp (fun b_ => b_ = gc ∨ b_ = g9) w2406 w2406).lo hk2512) (fun w' hw' => r_fa fa57_0 rfl) <| AH.take 1 rfl (by kernel_rfl) trivial ((Kp.refl w2406 : Kp (fun b_ => b_ = gc ∨ b_ = g9) w2406 w2406).lo hk2512) (fun w' hw' => r_ld (v := .int .i64 a.Map) sca3 rfl ((((hm2403).lo hk2408).kp hw' (fun e' => e'.elim (fun e' => by have e'' : g48 = gc := e'; omega) (fun e' => by have e'' : g48 = g9 := e'; omega))).cell rfl)) <| AH.take 2 rfl (by kernel_rfl) trivial ((Kp.refl w2406 : Kp (fun b_ => b_ = gc ∨ b_ = g9) w2406 w2406).lo hk2512) (fun w' hw' => r_fa fa57_1 rfl) <| AH.take 3 rfl (by kernel_rfl) trivial ((Kp.refl w2406 : Kp (fun b_ => b_ = gc ∨ b_ = g9) w2406 w2406).lo hk2512) (fun w' hw' => r_ld (v := .int .i64 a.Reader) sca3 rfl ((((hm2403).lo hk2408).kp hw' (fun e' => e'.elim (fun e' => by have e'' : g48 = gc := e'; omega) (fun e' => by have e'' : g48 = g9 := e'; omega))).cell rfl)) <| AH.take 4 rfl (by kernel_rfl) trivial ((Kp.refl w2406 : Kp (fun b_ => b_ = gc ∨ b_ = g9) w2406 w2406).lo hk2512) (fun w' hw' => r_mv (v := .pointer (some _)) rfl) <| AH.br [5] (by kernel_rfl) rfl ⟨Br.mk' rfl trivial ?_, trivial⟩
            refine SR.lit (vs := [.int .i64 0, .int .i64 1, .int .i64 1, .int .i64 2]) (L := ([0, 1, 1, 2] : List Int)) (enc := encI) tel30 (fun _ => rfl) rfl rfl rfl (by decide) ?_
            intro g2515 w2516 hg2517 hk2518 hO2519
            have hz2520 := hk2518.size
            have hB2521 := hB2514.lo hk2518
            have hS2522 := ((Kp.refl w2406 : Kp (fun b_ => b_ = gc ∨ b_ = g9) w2406 w2406).lo hk2512).lo hk2518
            refine SR.nil ⟨hS2522, _, rfl, ?_⟩
            refine AH.br [6] (by kernel_rfl) rfl ⟨Br.mk' rfl trivial ?_, trivial⟩
            refine SR.call ent26 (c___spec_l1Cur__among w2516 Lc t2182 s2183 ((((hm2399).lo hk2408).lo hk2512).lo hk2518) (((((hm2400).lo hk2408).lo hk2512).lo hk2518)) (by omega) (by omega) ([0, 1, 1, 2] : List Int) (((hO2519).rd)) (by omega) (by omega) (show ¬ g2515 = gc from by first | omega | (have := (hO2519).base_le rfl; omega))) rfl ?_
            rintro e w2523 ⟨v2525, t2526, s2527, rfl, hb2528, ht2529, hq2530, hk2524⟩
            refine ⟨_, rfl, ?_⟩
            have hz2531 := hk2524.size
            have hB2532 := hB2521.step hk2524 (fun i_ hi_ e' => e')
            have hS2533 := (hS2522).step hk2524 (fun _ _ e => .inl e)
            have hq2534 : (0 : Int) ≤ v2525 ∧ v2525 ≤ 2 := mem_rngB (lo := 0) (hi := 2) (by decide) hq2530
            refine SR.nil ⟨hS2533, _, rfl, ?_⟩
            refine AH.take 7 rfl (by kernel_rfl) trivial (hS2533) (fun w' hw' => r_build (vs := [(0, .int .i64 3), (1, .int .i64 a.Map), (2, .int .i64 a.Reader), (3, .int .i64 v2525)]) rfl (bld66_0_1_2_3 _ _ _ _)) <| AH.br [8] (by kernel_rfl) rfl ⟨Br.mk' rfl trivial ?_, trivial⟩
            refine SR.store (o := 0) (vs := [.int .i64 3, .int .i64 a.Map, .int .i64 a.Reader, .int .i64 v2525]) agg66.2 rfl rfl rfl rfl (((((hm2401).lo hk2408).lo hk2512).lo hk2518).kn hk2524 (by omega)) (Nat.le_of_ble_eq_true rfl) rfl ?_
            intro w2535 hk2536 hs2537 hb2538
            have hz2539 := hk2536.size
            have hB2540 := hB2532.new hk2536 (by omega)
            have hS2541 := (hS2533).step hk2536 (fun _ _ e => .inr (e))
            refine SR.nil ⟨hS2541, _, rfl, ?_⟩
            refine AH.done (by kernel_rfl) ?_
            exact ⟨g2515, v2525, t2526, s2527, ⟨rfl, rfl, rfl, trivial⟩, hS2541, ((hb2528).kn hk2536 (by omega)), (hb2538), ht2529, hq2530, hq2534⟩
          rintro f2542 w2543 ⟨g2477, v2490, t2491, s2492, hat2545, hR2544, hm2509, hm2510, ht2494, hq2495, hq2499⟩
          rw [← sets_of_at hat2545]
          have hz2546 := hR2544.size
          have hB2547 := hB2410.step hR2544 (fun i_ hi_ e' => e'.elim (fun e' => e') (fun e' => by have e'' : i_ = g9 := e'; exfalso; omega))
          refine W.ret ?_
          refine retC rfl rfl agg66 (hm2510) rfl ?_
          exact ⟨(⟨3, a.Map, a.Reader, v2490⟩ : LibraryStep), t2491, s2492, eR (eA rfl), (hm2509), ⟨by omega, by omega⟩, (by first | omega | (dsimp only; omega)), hB2547⟩
        · have hq2548 : ¬ ((v2181 = 7) ∧ (v2181 = 7)) := (not_or.1 h2411).1
          have hq2549 : ¬ ((¬ (v2181 = 7)) ∧ (v2181 = 8)) := (not_or.1 h2411).2
          refine W.seq ?_
          refine W.regS (SR.q' (r_eq rfl rfl) <| SR.q' (r_as (v := .bool _) rfl) <| SR.nil ?_)
          refine W.cond_d rfl (fun h2550 => ?_) (fun h2550 => ?_)
          · refine W.seq ?_
            refine W.regA (Kp (fun b_ => b_ = gc ∨ b_ = g9) w2406) (fun f' w' => ∃ (v2647 : Int) (t2648 : Int) (s2649 : Int) (g2634 : Nat), At f' [(0, .pointer (pA gc)), (4, .pointer (pA g9)), (5, .pointer (pA g39))] ∧ (Kp (fun b_ => b_ = gc ∨ b_ = g9) w2406 w') ∧ (Blk w' gc ec [.slice Ac nc cc, .int .i64 t2648, .int .u64 s2649]) ∧ (Blk w' g9 66 [.int .i64 4, .int .i64 m.Id, .int .i64 0, .int .i64 v2647]) ∧ (t2182 ≤ t2648 ∧ t2648 ≤ t2182 + 2) ∧ (v2647 ∈ ([1, max 1 m.Torn, m.Torn + 1] : List Int)) ∧ ((v2647 : Int) = 1 ∨ (v2647 : Int) = (max 1 m.Torn) ∨ (v2647 : Int) = (m.Torn + 1))) mo ?_ ?_
            · intro w2668 hk2669
              have hz2670 := hk2669.size
              have hB2671 := hB2410.lo hk2669
              refine AH.take 0 rfl (by kernel_rfl) trivial ((Kp.refl w2406 : Kp (fun b_ => b_ = gc ∨ b_ = g9) w2406 w2406).lo hk2669) (fun w' hw' => r_fa fa48_0 rfl) <| AH.take 1 rfl (by kernel_rfl) trivial ((Kp.refl w2406 : Kp (fun b_ => b_ = gc ∨ b_ = g9) w2406 w2406).lo hk2669) (fun w' hw' => r_ld (v := .int .i64 m.Id) sca3 rfl ((((hm2402).lo hk2408).kp hw' (fun e' => e'.elim (fun e' => by have e'' : g39 = gc := e'; omega) (fun e' => by have e'' : g39 = g9 := e'; omega))).cell rfl)) <| AH.take 2 rfl (by kernel_rfl) trivial ((Kp.refl w2406 : Kp (fun b_ => b_ = gc ∨ b_ = g9) w2406 w2406).lo hk2669) (fun w' hw' => r_mv (v := .pointer (some _)) rfl) <| AH.take 3 rfl (by kernel_rfl) trivial ((Kp.refl w2406 : Kp (fun b_ => b_ = gc ∨ b_ = g9) w2406 w2406).lo hk2669) (fun w' hw' => r_fa fa48_2 rfl) <| AH.take 4 rfl (by kernel_rfl) trivial ((Kp.refl w2406 : Kp (fun b_ => b_ = gc ∨ b_ = g9) w2406 w2406).lo hk2669) (fun w' hw' => r_ld (v := .int .i64 m.Torn) sca3 rfl ((((hm2402).lo hk2408).kp hw' (fun e' => e'.elim (fun e' => by have e'' : g39 = gc := e'; omega) (fun e' => by have e'' : g39 = g9 := e'; omega))).cell rfl)) <| AH.take 6 rfl (by kernel_rfl) trivial ((Kp.refl w2406 : Kp (fun b_ => b_ = gc ∨ b_ = g9) w2406 w2406).lo hk2669) (fun w' hw' => r_fa fa48_2 rfl) <| AH.take 7 rfl (by kernel_rfl) trivial ((Kp.refl w2406 : Kp (fun b_ => b_ = gc ∨ b_ = g9) w2406 w2406).lo hk2669) (fun w' hw' => r_ld (v := .int .i64 m.Torn) sca3 rfl ((((hm2402).lo hk2408).kp hw' (fun e' => e'.elim (fun e' => by have e'' : g39 = gc := e'; omega) (fun e' => by have e'' : g39 = g9 := e'; omega))).cell rfl)) <| AH.take 8 rfl (by kernel_rfl) trivial ((Kp.refl w2406 : Kp (fun b_ => b_ = gc ∨ b_ = g9) w2406 w2406).lo hk2669) (fun w' hw' => r_add rfl rfl (by omega)) <| AH.br [5] (by kernel_rfl) rfl ⟨Br.mk' rfl trivial ?_, trivial⟩
              refine SR.call ent57 (c_spec_l1Most w2668 1 m.Torn) rfl ?_
              rintro e w2672 ⟨rfl, hk2673⟩
              refine ⟨_, rfl, ?_⟩
              have hz2674 := hk2673.size
              have hB2675 := hB2671.lo hk2673
              have hS2676 := ((Kp.refl w2406 : Kp (fun b_ => b_ = gc ∨ b_ = g9) w2406 w2406).lo hk2669).lo hk2673
              refine SR.nil ⟨hS2676, _, rfl, ?_⟩
              refine AH.br [9] (by kernel_rfl) rfl ⟨Br.mk' rfl trivial ?_, trivial⟩
              refine SR.lit (vs := [.int .i64 1, .int .i64 (max 1 m.Torn), .int .i64 (m.Torn + 1)]) (L := ([1, max 1 m.Torn, m.Torn + 1] : List Int)) (enc := encI) tel30 (fun _ => rfl) rfl rfl rfl (by decide) ?_
              intro g2677 w2678 hg2679 hk2680 hO2681
              have hz2682 := hk2680.size
              have hB2683 := hB2675.lo hk2680
              have hS2684 := (hS2676).lo hk2680
              refine SR.nil ⟨hS2684, _, rfl, ?_⟩
              refine AH.br [10] (by kernel_rfl) rfl ⟨Br.mk' rfl trivial ?_, trivial⟩
              refine SR.call ent26 (c___spec_l1Cur__among w2678 Lc t2182 s2183 (((((hm2399).lo hk2408).lo hk2669).lo hk2673).lo hk2680) ((((((hm2400).lo hk2408).lo hk2669).lo hk2673).lo hk2680)) (by omega) (by omega) ([1, max 1 m.Torn, m.Torn + 1] : List Int) (((hO2681).rd)) (by omega) (by omega) (show ¬ g2677 = gc from by first | omega | (have := (hO2681).base_le rfl; omega))) rfl ?_
              rintro e w2685 ⟨v2687, t2688, s2689, rfl, hb2690, ht2691, hq2692, hk2686⟩
              refine ⟨_, rfl, ?_⟩
              have hz2693 := hk2686.size
              have hB2694 := hB2683.step hk2686 (fun i_ hi_ e' => e')
              have hS2695 := (hS2684).step hk2686 (fun _ _ e => .inl e)
              have hq2696 : (v2687 : Int) = 1 ∨ (v2687 : Int) = (max 1 m.Torn) ∨ (v2687 : Int) = (m.Torn + 1) := by simpa only [List.mem_cons, List.not_mem_nil, or_false] using hq2692
              refine SR.nil ⟨hS2695, _, rfl, ?_⟩
              refine AH.take 11 rfl (by kernel_rfl) trivial (hS2695) (fun w' hw' => r_build (vs := [(0, .int .i64 4), (1, .int .i64 m.Id), (3, .int .i64 v2687)]) rfl (bld66_0_1_3 _ _ _)) <| AH.br [12] (by kernel_rfl) rfl ⟨Br.mk' rfl trivial ?_, trivial⟩
              refine SR.store (o := 0) (vs := [.int .i64 4, .int .i64 m.Id, .int .i64 0, .int .i64 v2687]) agg66.2 rfl rfl rfl rfl ((((((hm2401).lo hk2408).lo hk2669).lo hk2673).lo hk2680).kn hk2686 (by omega)) (Nat.le_of_ble_eq_true rfl) rfl ?_
              intro w2697 hk2698 hs2699 hb2700
              have hz2701 := hk2698.size
              have hB2702 := hB2694.new hk2698 (by omega)
              have hS2703 := (hS2695).step hk2698 (fun _ _ e => .inr (e))
              refine SR.nil ⟨hS2703, _, rfl, ?_⟩
              refine AH.done (by kernel_rfl) ?_
              exact ⟨v2687, t2688, s2689, g2677, ⟨rfl, rfl, rfl, trivial⟩, hS2703, ((hb2690).kn hk2698 (by omega)), (hb2700), ht2691, hq2692, hq2696⟩
            rintro f2704 w2705 ⟨v2647, t2648, s2649, g2634, hat2707, hR2706, hm2666, hm2667, ht2651, hq2652, hq2656⟩
            rw [← sets_of_at hat2707]
            have hz2708 := hR2706.size
            have hB2709 := hB2410.step hR2706 (fun i_ hi_ e' => e'.elim (fun e' => e') (fun e' => by have e'' : i_ = g9 := e'; exfalso; omega))
            refine W.ret ?_
            refine retC rfl rfl agg66 (hm2667) rfl ?_
            exact ⟨(⟨4, m.Id, 0, v2647⟩ : LibraryStep), t2648, s2649, eR (eA rfl), (hm2666), ⟨by omega, by omega⟩, (by first | omega | (dsimp only; omega)), hB2709⟩
          · refine W.seq ?_
            refine W.regS (SR.q' (r_eq rfl rfl) <| SR.q' (r_as (v := .bool _) rfl) <| SR.nil ?_)
            refine W.cond_d rfl (fun h2710 => ?_) (fun h2710 => ?_)
            · refine W.seq ?_
              refine W.regA (Kp (fun b_ => b_ = gc ∨ b_ = g9) w2406) (fun f' w' => ∃ (g2776 : Nat) (v2789 : Int) (t2790 : Int) (s2791 : Int), At f' [(0, .pointer (pA gc)), (4, .pointer (pA g9)), (5, .pointer (pA g39))] ∧ (Kp (fun b_ => b_ = gc ∨ b_ = g9) w2406 w') ∧ (Blk w' gc ec [.slice Ac nc cc, .int .i64 t2790, .int .u64 s2791]) ∧ (Blk w' g9 66 [.int .i64 5, .int .i64 a.Map, .int .i64 a.Reader, .int .i64 v2789]) ∧ (t2182 ≤ t2790 ∧ t2790 ≤ t2182 + 2) ∧ (v2789 ∈ ([5, 17, 18, 999] : List Int)) ∧ ((5 : Int) ≤ v2789 ∧ v2789 ≤ 999)) mo ?_ ?_
              · intro w2810 hk2811
                have hz2812 := hk2811.size
                have hB2813 := hB2410.lo hk2811
                refine AH.take 0 rfl (by kernel_rfl) trivial ((Kp.refl w2406 : Kp (fun b_ => b_ = gc ∨ b_ = g9) w2406 w2406).lo hk2811) (fun w' hw' => r_fa fa57_0 rfl) <| AH.take 1 rfl (by kernel_rfl) trivial ((Kp.refl w2406 : Kp (fun b_ => b_ = gc ∨ b_ = g9) w2406 w2406).lo hk2811) (fun w' hw' => r_ld (v := .int .i64 a.Map) sca3 rfl ((((hm2403).lo hk2408).kp hw' (fun e' => e'.elim (fun e' => by have e'' : g48 = gc := e'; omega) (fun e' => by have e'' : g48 = g9 := e'; omega))).cell rfl)) <| AH.take 2 rfl (by kernel_rfl) trivial ((Kp.refl w2406 : Kp (fun b_ => b_ = gc ∨ b_ = g9) w2406 w2406).lo hk2811) (fun w' hw' => r_fa fa57_1 rfl) <| AH.take 3 rfl (by kernel_rfl) trivial ((Kp.refl w2406 : Kp (fun b_ => b_ = gc ∨ b_ = g9) w2406 w2406).lo hk2811) (fun w' hw' => r_ld (v := .int .i64 a.Reader) sca3 rfl ((((hm2403).lo hk2408).kp hw' (fun e' => e'.elim (fun e' => by have e'' : g48 = gc := e'; omega) (fun e' => by have e'' : g48 = g9 := e'; omega))).cell rfl)) <| AH.take 4 rfl (by kernel_rfl) trivial ((Kp.refl w2406 : Kp (fun b_ => b_ = gc ∨ b_ = g9) w2406 w2406).lo hk2811) (fun w' hw' => r_mv (v := .pointer (some _)) rfl) <| AH.br [5] (by kernel_rfl) rfl ⟨Br.mk' rfl trivial ?_, trivial⟩
                refine SR.lit (vs := [.int .i64 5, .int .i64 17, .int .i64 18, .int .i64 999]) (L := ([5, 17, 18, 999] : List Int)) (enc := encI) tel30 (fun _ => rfl) rfl rfl rfl (by decide) ?_
                intro g2814 w2815 hg2816 hk2817 hO2818
                have hz2819 := hk2817.size
                have hB2820 := hB2813.lo hk2817
                have hS2821 := ((Kp.refl w2406 : Kp (fun b_ => b_ = gc ∨ b_ = g9) w2406 w2406).lo hk2811).lo hk2817
                refine SR.nil ⟨hS2821, _, rfl, ?_⟩
                refine AH.br [6] (by kernel_rfl) rfl ⟨Br.mk' rfl trivial ?_, trivial⟩
                refine SR.call ent26 (c___spec_l1Cur__among w2815 Lc t2182 s2183 ((((hm2399).lo hk2408).lo hk2811).lo hk2817) (((((hm2400).lo hk2408).lo hk2811).lo hk2817)) (by omega) (by omega) ([5, 17, 18, 999] : List Int) (((hO2818).rd)) (by omega) (by omega) (show ¬ g2814 = gc from by first | omega | (have := (hO2818).base_le rfl; omega))) rfl ?_
                rintro e w2822 ⟨v2824, t2825, s2826, rfl, hb2827, ht2828, hq2829, hk2823⟩
                refine ⟨_, rfl, ?_⟩
                have hz2830 := hk2823.size
                have hB2831 := hB2820.step hk2823 (fun i_ hi_ e' => e')
                have hS2832 := (hS2821).step hk2823 (fun _ _ e => .inl e)
                have hq2833 : (5 : Int) ≤ v2824 ∧ v2824 ≤ 999 := mem_rngB (lo := 5) (hi := 999) (by decide) hq2829
                refine SR.nil ⟨hS2832, _, rfl, ?_⟩
                refine AH.take 7 rfl (by kernel_rfl) trivial (hS2832) (fun w' hw' => r_build (vs := [(0, .int .i64 5), (1, .int .i64 a.Map), (2, .int .i64 a.Reader), (3, .int .i64 v2824)]) rfl (bld66_0_1_2_3 _ _ _ _)) <| AH.br [8] (by kernel_rfl) rfl ⟨Br.mk' rfl trivial ?_, trivial⟩
                refine SR.store (o := 0) (vs := [.int .i64 5, .int .i64 a.Map, .int .i64 a.Reader, .int .i64 v2824]) agg66.2 rfl rfl rfl rfl (((((hm2401).lo hk2408).lo hk2811).lo hk2817).kn hk2823 (by omega)) (Nat.le_of_ble_eq_true rfl) rfl ?_
                intro w2834 hk2835 hs2836 hb2837
                have hz2838 := hk2835.size
                have hB2839 := hB2831.new hk2835 (by omega)
                have hS2840 := (hS2832).step hk2835 (fun _ _ e => .inr (e))
                refine SR.nil ⟨hS2840, _, rfl, ?_⟩
                refine AH.done (by kernel_rfl) ?_
                exact ⟨g2814, v2824, t2825, s2826, ⟨rfl, rfl, rfl, trivial⟩, hS2840, ((hb2827).kn hk2835 (by omega)), (hb2837), ht2828, hq2829, hq2833⟩
              rintro f2841 w2842 ⟨g2776, v2789, t2790, s2791, hat2844, hR2843, hm2808, hm2809, ht2793, hq2794, hq2798⟩
              rw [← sets_of_at hat2844]
              have hz2845 := hR2843.size
              have hB2846 := hB2410.step hR2843 (fun i_ hi_ e' => e'.elim (fun e' => e') (fun e' => by have e'' : i_ = g9 := e'; exfalso; omega))
              refine W.ret ?_
              refine retC rfl rfl agg66 (hm2809) rfl ?_
              exact ⟨(⟨5, a.Map, a.Reader, v2789⟩ : LibraryStep), t2790, s2791, eR (eA rfl), (hm2808), ⟨by omega, by omega⟩, (by first | omega | (dsimp only; omega)), hB2846⟩
            · refine W.seq ?_
              refine W.regS (SR.q' (r_eq rfl rfl) <| SR.q' (r_as (v := .bool _) rfl) <| SR.nil ?_)
              refine W.cond_d rfl (fun h2847 => ?_) (fun h2847 => ?_)
              · refine W.seq ?_
                refine W.regA (Kp (fun b_ => b_ = gc ∨ b_ = g9) w2406) (fun f' w' => ∃ (v2944 : Int) (t2945 : Int) (s2946 : Int) (g2931 : Nat), At f' [(0, .pointer (pA gc)), (4, .pointer (pA g9)), (5, .pointer (pA g39))] ∧ (Kp (fun b_ => b_ = gc ∨ b_ = g9) w2406 w') ∧ (Blk w' gc ec [.slice Ac nc cc, .int .i64 t2945, .int .u64 s2946]) ∧ (Blk w' g9 66 [.int .i64 6, .int .i64 m.Id, .int .i64 0, .int .i64 v2944]) ∧ (t2182 ≤ t2945 ∧ t2945 ≤ t2182 + 2) ∧ (v2944 ∈ ([1, max 1 m.Torn, m.Torn + 1] : List Int)) ∧ ((v2944 : Int) = 1 ∨ (v2944 : Int) = (max 1 m.Torn) ∨ (v2944 : Int) = (m.Torn + 1))) mo ?_ ?_
                · intro w2965 hk2966
                  have hz2967 := hk2966.size
                  have hB2968 := hB2410.lo hk2966
                  refine AH.take 0 rfl (by kernel_rfl) trivial ((Kp.refl w2406 : Kp (fun b_ => b_ = gc ∨ b_ = g9) w2406 w2406).lo hk2966) (fun w' hw' => r_fa fa48_0 rfl) <| AH.take 1 rfl (by kernel_rfl) trivial ((Kp.refl w2406 : Kp (fun b_ => b_ = gc ∨ b_ = g9) w2406 w2406).lo hk2966) (fun w' hw' => r_ld (v := .int .i64 m.Id) sca3 rfl ((((hm2402).lo hk2408).kp hw' (fun e' => e'.elim (fun e' => by have e'' : g39 = gc := e'; omega) (fun e' => by have e'' : g39 = g9 := e'; omega))).cell rfl)) <| AH.take 2 rfl (by kernel_rfl) trivial ((Kp.refl w2406 : Kp (fun b_ => b_ = gc ∨ b_ = g9) w2406 w2406).lo hk2966) (fun w' hw' => r_mv (v := .pointer (some _)) rfl) <| AH.take 3 rfl (by kernel_rfl) trivial ((Kp.refl w2406 : Kp (fun b_ => b_ = gc ∨ b_ = g9) w2406 w2406).lo hk2966) (fun w' hw' => r_fa fa48_2 rfl) <| AH.take 4 rfl (by kernel_rfl) trivial ((Kp.refl w2406 : Kp (fun b_ => b_ = gc ∨ b_ = g9) w2406 w2406).lo hk2966) (fun w' hw' => r_ld (v := .int .i64 m.Torn) sca3 rfl ((((hm2402).lo hk2408).kp hw' (fun e' => e'.elim (fun e' => by have e'' : g39 = gc := e'; omega) (fun e' => by have e'' : g39 = g9 := e'; omega))).cell rfl)) <| AH.take 6 rfl (by kernel_rfl) trivial ((Kp.refl w2406 : Kp (fun b_ => b_ = gc ∨ b_ = g9) w2406 w2406).lo hk2966) (fun w' hw' => r_fa fa48_2 rfl) <| AH.take 7 rfl (by kernel_rfl) trivial ((Kp.refl w2406 : Kp (fun b_ => b_ = gc ∨ b_ = g9) w2406 w2406).lo hk2966) (fun w' hw' => r_ld (v := .int .i64 m.Torn) sca3 rfl ((((hm2402).lo hk2408).kp hw' (fun e' => e'.elim (fun e' => by have e'' : g39 = gc := e'; omega) (fun e' => by have e'' : g39 = g9 := e'; omega))).cell rfl)) <| AH.take 8 rfl (by kernel_rfl) trivial ((Kp.refl w2406 : Kp (fun b_ => b_ = gc ∨ b_ = g9) w2406 w2406).lo hk2966) (fun w' hw' => r_add rfl rfl (by omega)) <| AH.br [5] (by kernel_rfl) rfl ⟨Br.mk' rfl trivial ?_, trivial⟩
                  refine SR.call ent57 (c_spec_l1Most w2965 1 m.Torn) rfl ?_
                  rintro e w2969 ⟨rfl, hk2970⟩
                  refine ⟨_, rfl, ?_⟩
                  have hz2971 := hk2970.size
                  have hB2972 := hB2968.lo hk2970
                  have hS2973 := ((Kp.refl w2406 : Kp (fun b_ => b_ = gc ∨ b_ = g9) w2406 w2406).lo hk2966).lo hk2970
                  refine SR.nil ⟨hS2973, _, rfl, ?_⟩
                  refine AH.br [9] (by kernel_rfl) rfl ⟨Br.mk' rfl trivial ?_, trivial⟩
                  refine SR.lit (vs := [.int .i64 1, .int .i64 (max 1 m.Torn), .int .i64 (m.Torn + 1)]) (L := ([1, max 1 m.Torn, m.Torn + 1] : List Int)) (enc := encI) tel30 (fun _ => rfl) rfl rfl rfl (by decide) ?_
                  intro g2974 w2975 hg2976 hk2977 hO2978
                  have hz2979 := hk2977.size
                  have hB2980 := hB2972.lo hk2977
                  have hS2981 := (hS2973).lo hk2977
                  refine SR.nil ⟨hS2981, _, rfl, ?_⟩
                  refine AH.br [10] (by kernel_rfl) rfl ⟨Br.mk' rfl trivial ?_, trivial⟩
                  refine SR.call ent26 (c___spec_l1Cur__among w2975 Lc t2182 s2183 (((((hm2399).lo hk2408).lo hk2966).lo hk2970).lo hk2977) ((((((hm2400).lo hk2408).lo hk2966).lo hk2970).lo hk2977)) (by omega) (by omega) ([1, max 1 m.Torn, m.Torn + 1] : List Int) (((hO2978).rd)) (by omega) (by omega) (show ¬ g2974 = gc from by first | omega | (have := (hO2978).base_le rfl; omega))) rfl ?_
                  rintro e w2982 ⟨v2984, t2985, s2986, rfl, hb2987, ht2988, hq2989, hk2983⟩
                  refine ⟨_, rfl, ?_⟩
                  have hz2990 := hk2983.size
                  have hB2991 := hB2980.step hk2983 (fun i_ hi_ e' => e')
                  have hS2992 := (hS2981).step hk2983 (fun _ _ e => .inl e)
                  have hq2993 : (v2984 : Int) = 1 ∨ (v2984 : Int) = (max 1 m.Torn) ∨ (v2984 : Int) = (m.Torn + 1) := by simpa only [List.mem_cons, List.not_mem_nil, or_false] using hq2989
                  refine SR.nil ⟨hS2992, _, rfl, ?_⟩
                  refine AH.take 11 rfl (by kernel_rfl) trivial (hS2992) (fun w' hw' => r_build (vs := [(0, .int .i64 6), (1, .int .i64 m.Id), (3, .int .i64 v2984)]) rfl (bld66_0_1_3 _ _ _)) <| AH.br [12] (by kernel_rfl) rfl ⟨Br.mk' rfl trivial ?_, trivial⟩
                  refine SR.store (o := 0) (vs := [.int .i64 6, .int .i64 m.Id, .int .i64 0, .int .i64 v2984]) agg66.2 rfl rfl rfl rfl ((((((hm2401).lo hk2408).lo hk2966).lo hk2970).lo hk2977).kn hk2983 (by omega)) (Nat.le_of_ble_eq_true rfl) rfl ?_
                  intro w2994 hk2995 hs2996 hb2997
                  have hz2998 := hk2995.size
                  have hB2999 := hB2991.new hk2995 (by omega)
                  have hS3000 := (hS2992).step hk2995 (fun _ _ e => .inr (e))
                  refine SR.nil ⟨hS3000, _, rfl, ?_⟩
                  refine AH.done (by kernel_rfl) ?_
                  exact ⟨v2984, t2985, s2986, g2974, ⟨rfl, rfl, rfl, trivial⟩, hS3000, ((hb2987).kn hk2995 (by omega)), (hb2997), ht2988, hq2989, hq2993⟩
                rintro f3001 w3002 ⟨v2944, t2945, s2946, g2931, hat3004, hR3003, hm2963, hm2964, ht2948, hq2949, hq2953⟩
                rw [← sets_of_at hat3004]
                have hz3005 := hR3003.size
                have hB3006 := hB2410.step hR3003 (fun i_ hi_ e' => e'.elim (fun e' => e') (fun e' => by have e'' : i_ = g9 := e'; exfalso; omega))
                refine W.ret ?_
                refine retC rfl rfl agg66 (hm2964) rfl ?_
                exact ⟨(⟨6, m.Id, 0, v2944⟩ : LibraryStep), t2945, s2946, eR (eA rfl), (hm2963), ⟨by omega, by omega⟩, (by first | omega | (dsimp only; omega)), hB3006⟩
              · refine W.skip ?_
                refine W.seq ?_
                refine W.regA (Kp (fun b_ => b_ = gc ∨ b_ = g9) w2406) (fun f' w' => ∃ (g3090 : Nat) (v3103 : Int) (t3104 : Int) (s3105 : Int), At f' [(4, .pointer (pA g9))] ∧ (Kp (fun b_ => b_ = gc ∨ b_ = g9) w2406 w') ∧ (Blk w' gc ec [.slice Ac nc cc, .int .i64 t3104, .int .u64 s3105]) ∧ (Blk w' g9 66 [.int .i64 7, .int .i64 m.Id, .int .i64 0, .int .i64 v3103]) ∧ (t2182 ≤ t3104 ∧ t3104 ≤ t2182 + 2) ∧ (v3103 ∈ ([1, max 1 (m.Copies - m.Torn), (m.Copies - m.Torn) + 1, 2000000] : List Int)) ∧ ((v3103 : Int) = 1 ∨ (v3103 : Int) = (max 1 (m.Copies - m.Torn)) ∨ (v3103 : Int) = ((m.Copies - m.Torn) + 1) ∨ (v3103 : Int) = 2000000)) mo ?_ ?_
                · intro w3124 hk3125
                  have hz3126 := hk3125.size
                  have hB3127 := hB2410.lo hk3125
                  refine AH.take 0 rfl (by kernel_rfl) trivial ((Kp.refl w2406 : Kp (fun b_ => b_ = gc ∨ b_ = g9) w2406 w2406).lo hk3125) (fun w' hw' => r_fa fa48_0 rfl) <| AH.take 1 rfl (by kernel_rfl) trivial ((Kp.refl w2406 : Kp (fun b_ => b_ = gc ∨ b_ = g9) w2406 w2406).lo hk3125) (fun w' hw' => r_ld (v := .int .i64 m.Id) sca3 rfl ((((hm2402).lo hk2408).kp hw' (fun e' => e'.elim (fun e' => by have e'' : g39 = gc := e'; omega) (fun e' => by have e'' : g39 = g9 := e'; omega))).cell rfl)) <| AH.take 2 rfl (by kernel_rfl) trivial ((Kp.refl w2406 : Kp (fun b_ => b_ = gc ∨ b_ = g9) w2406 w2406).lo hk3125) (fun w' hw' => r_mv (v := .pointer (some _)) rfl) <| AH.take 3 rfl (by kernel_rfl) trivial ((Kp.refl w2406 : Kp (fun b_ => b_ = gc ∨ b_ = g9) w2406 w2406).lo hk3125) (fun w' hw' => r_fa fa48_1 rfl) <| AH.take 4 rfl (by kernel_rfl) trivial ((Kp.refl w2406 : Kp (fun b_ => b_ = gc ∨ b_ = g9) w2406 w2406).lo hk3125) (fun w' hw' => r_ld (v := .int .i64 m.Copies) sca3 rfl ((((hm2402).lo hk2408).kp hw' (fun e' => e'.elim (fun e' => by have e'' : g39 = gc := e'; omega) (fun e' => by have e'' : g39 = g9 := e'; omega))).cell rfl)) <| AH.take 5 rfl (by kernel_rfl) trivial ((Kp.refl w2406 : Kp (fun b_ => b_ = gc ∨ b_ = g9) w2406 w2406).lo hk3125) (fun w' hw' => r_fa fa48_2 rfl) <| AH.take 6 rfl (by kernel_rfl) trivial ((Kp.refl w2406 : Kp (fun b_ => b_ = gc ∨ b_ = g9) w2406 w2406).lo hk3125) (fun w' hw' => r_ld (v := .int .i64 m.Torn) sca3 rfl ((((hm2402).lo hk2408).kp hw' (fun e' => e'.elim (fun e' => by have e'' : g39 = gc := e'; omega) (fun e' => by have e'' : g39 = g9 := e'; omega))).cell rfl)) <| AH.take 7 rfl (by kernel_rfl) trivial ((Kp.refl w2406 : Kp (fun b_ => b_ = gc ∨ b_ = g9) w2406 w2406).lo hk3125) (fun w' hw' => r_sub rfl rfl (by omega)) <| AH.take 9 rfl (by kernel_rfl) trivial ((Kp.refl w2406 : Kp (fun b_ => b_ = gc ∨ b_ = g9) w2406 w2406).lo hk3125) (fun w' hw' => r_fa fa48_1 rfl) <| AH.take 10 rfl (by kernel_rfl) trivial ((Kp.refl w2406 : Kp (fun b_ => b_ = gc ∨ b_ = g9) w2406 w2406).lo hk3125) (fun w' hw' => r_ld (v := .int .i64 m.Copies) sca3 rfl ((((hm2402).lo hk2408).kp hw' (fun e' => e'.elim (fun e' => by have e'' : g39 = gc := e'; omega) (fun e' => by have e'' : g39 = g9 := e'; omega))).cell rfl)) <| AH.take 11 rfl (by kernel_rfl) trivial ((Kp.refl w2406 : Kp (fun b_ => b_ = gc ∨ b_ = g9) w2406 w2406).lo hk3125) (fun w' hw' => r_fa fa48_2 rfl) <| AH.take 12 rfl (by kernel_rfl) trivial ((Kp.refl w2406 : Kp (fun b_ => b_ = gc ∨ b_ = g9) w2406 w2406).lo hk3125) (fun w' hw' => r_ld (v := .int .i64 m.Torn) sca3 rfl ((((hm2402).lo hk2408).kp hw' (fun e' => e'.elim (fun e' => by have e'' : g39 = gc := e'; omega) (fun e' => by have e'' : g39 = g9 := e'; omega))).cell rfl)) <| AH.take 13 rfl (by kernel_rfl) trivial ((Kp.refl w2406 : Kp (fun b_ => b_ = gc ∨ b_ = g9) w2406 w2406).lo hk3125) (fun w' hw' => r_sub rfl rfl (by omega)) <| AH.take 14 rfl (by kernel_rfl) trivial ((Kp.refl w2406 : Kp (fun b_ => b_ = gc ∨ b_ = g9) w2406 w2406).lo hk3125) (fun w' hw' => r_add rfl rfl (by omega)) <| AH.br [8] (by kernel_rfl) rfl ⟨Br.mk' rfl trivial ?_, trivial⟩
                  refine SR.call ent57 (c_spec_l1Most w3124 1 (m.Copies - m.Torn)) rfl ?_
                  rintro e w3128 ⟨rfl, hk3129⟩
                  refine ⟨_, rfl, ?_⟩
                  have hz3130 := hk3129.size
                  have hB3131 := hB3127.lo hk3129
                  have hS3132 := ((Kp.refl w2406 : Kp (fun b_ => b_ = gc ∨ b_ = g9) w2406 w2406).lo hk3125).lo hk3129
                  refine SR.nil ⟨hS3132, _, rfl, ?_⟩
                  refine AH.br [15] (by kernel_rfl) rfl ⟨Br.mk' rfl trivial ?_, trivial⟩
                  refine SR.lit (vs := [.int .i64 1, .int .i64 (max 1 (m.Copies - m.Torn)), .int .i64 ((m.Copies - m.Torn) + 1), .int .i64 2000000]) (L := ([1, max 1 (m.Copies - m.Torn), (m.Copies - m.Torn) + 1, 2000000] : List Int)) (enc := encI) tel30 (fun _ => rfl) rfl rfl rfl (by decide) ?_
                  intro g3133 w3134 hg3135 hk3136 hO3137
                  have hz3138 := hk3136.size
                  have hB3139 := hB3131.lo hk3136
                  have hS3140 := (hS3132).lo hk3136
                  refine SR.nil ⟨hS3140, _, rfl, ?_⟩
                  refine AH.br [16] (by kernel_rfl) rfl ⟨Br.mk' rfl trivial ?_, trivial⟩
                  refine SR.call ent26 (c___spec_l1Cur__among w3134 Lc t2182 s2183 (((((hm2399).lo hk2408).lo hk3125).lo hk3129).lo hk3136) ((((((hm2400).lo hk2408).lo hk3125).lo hk3129).lo hk3136)) (by omega) (by omega) ([1, max 1 (m.Copies - m.Torn), (m.Copies - m.Torn) + 1, 2000000] : List Int) (((hO3137).rd)) (by omega) (by omega) (show ¬ g3133 = gc from by first | omega | (have := (hO3137).base_le rfl; omega))) rfl ?_
                  rintro e w3141 ⟨v3143, t3144, s3145, rfl, hb3146, ht3147, hq3148, hk3142⟩
                  refine ⟨_, rfl, ?_⟩
                  have hz3149 := hk3142.size
                  have hB3150 := hB3139.step hk3142 (fun i_ hi_ e' => e')
                  have hS3151 := (hS3140).step hk3142 (fun _ _ e => .inl e)
                  have hq3152 : (v3143 : Int) = 1 ∨ (v3143 : Int) = (max 1 (m.Copies - m.Torn)) ∨ (v3143 : Int) = ((m.Copies - m.Torn) + 1) ∨ (v3143 : Int) = 2000000 := by simpa only [List.mem_cons, List.not_mem_nil, or_false] using hq3148
                  refine SR.nil ⟨hS3151, _, rfl, ?_⟩
                  refine AH.take 17 rfl (by kernel_rfl) trivial (hS3151) (fun w' hw' => r_build (vs := [(0, .int .i64 7), (1, .int .i64 m.Id), (3, .int .i64 v3143)]) rfl (bld66_0_1_3 _ _ _)) <| AH.br [18] (by kernel_rfl) rfl ⟨Br.mk' rfl trivial ?_, trivial⟩
                  refine SR.store (o := 0) (vs := [.int .i64 7, .int .i64 m.Id, .int .i64 0, .int .i64 v3143]) agg66.2 rfl rfl rfl rfl ((((((hm2401).lo hk2408).lo hk3125).lo hk3129).lo hk3136).kn hk3142 (by omega)) (Nat.le_of_ble_eq_true rfl) rfl ?_
                  intro w3153 hk3154 hs3155 hb3156
                  have hz3157 := hk3154.size
                  have hB3158 := hB3150.new hk3154 (by omega)
                  have hS3159 := (hS3151).step hk3154 (fun _ _ e => .inr (e))
                  refine SR.nil ⟨hS3159, _, rfl, ?_⟩
                  refine AH.done (by kernel_rfl) ?_
                  exact ⟨g3133, v3143, t3144, s3145, ⟨rfl, trivial⟩, hS3159, ((hb3146).kn hk3154 (by omega)), (hb3156), ht3147, hq3148, hq3152⟩
                rintro f3160 w3161 ⟨g3090, v3103, t3104, s3105, hat3163, hR3162, hm3122, hm3123, ht3107, hq3108, hq3112⟩
                rw [← sets_of_at hat3163]
                have hz3164 := hR3162.size
                have hB3165 := hB2410.step hR3162 (fun i_ hi_ e' => e'.elim (fun e' => e') (fun e' => by have e'' : i_ = g9 := e'; exfalso; omega))
                refine W.ret ?_
                refine retC rfl rfl agg66 (hm3123) rfl ?_
                exact ⟨(⟨7, m.Id, 0, v3103⟩ : LibraryStep), t3104, s3105, eR (eA rfl), (hm3122), ⟨by omega, by omega⟩, (by first | omega | (dsimp only; omega)), hB3165⟩
end Go.Proofs.YtgobbcilgcbkaaaDoor
