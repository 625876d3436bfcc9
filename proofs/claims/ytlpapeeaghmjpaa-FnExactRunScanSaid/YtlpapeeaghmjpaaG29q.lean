/- Walks, printed by a program of this claim's author. -/
import Derived.Test.YtlpapeeaghmjpaaChecked
import Derived.Test.YtlpapeeaghmjpaaSd
import Derived.Test.YtlpapeeaghmjpaaSg
import Derived.Test.YtlpapeeaghmjpaaG29p
namespace Go.Proofs.Ytlpapeeaghmjpaa
open Go Go.RowKit Fw
set_option maxRecDepth 10000
set_option linter.unusedVariables false
theorem agg38 : TAgg Try.prog 38 5 := ⟨fun _ => by kernel_rfl, fun _ => by kernel_rfl⟩
theorem ent17 : Ent Try.prog 17 := ent_of Try.func17 (by decide +kernel) rfl
theorem ent18 : Ent Try.prog 18 := ent_of Try.func18 (by decide +kernel) rfl
theorem ent19 : Ent Try.prog 19 := ent_of Try.func19 (by decide +kernel) rfl
theorem ent21 : Ent Try.prog 21 := ent_of Try.func21 (by decide +kernel) rfl
theorem ent22 : Ent Try.prog 22 := ent_of Try.func22 (by decide +kernel) rfl
theorem ent23 : Ent Try.prog 23 := ent_of Try.func23 (by decide +kernel) rfl
theorem ent24 : Ent Try.prog 24 := ent_of Try.func24 (by decide +kernel) rfl
theorem und4 : Try.prog.underlying 4 = some (.bool) := by kernel_rfl

theorem z_c_laws_FnExactStepScan_365 (x : ScanJob) (nx_Tiles : Nat) (hbdx_Tiles : (nx_Tiles : Int) ≤ 9223372036854775807) (hlex_Tiles : nx_Tiles = x.Tiles.length) (s : ScanStep) (h21 : ¬ ((szN x.Tiles.length 1048576) < 0)) (hq22 : ((x.Tiles.length : Nat) : Int) ≤ 1048576 ∧ szN x.Tiles.length 1048576 = 1048576 - (x.Tiles.length : Int)) (n30 : Nat) (n46 : Nat) (hl36 : n30 = (x.Tiles).length) (hl37 : (n30 : Int) ≤ 9223372036854775807) (hl52 : n46 = (((spec_StepScan x s).1).Tiles).length) (hl53 : (n46 : Int) ≤ 9223372036854775807) (hq54 : (((spec_StepScan x s).1).Tiles).length ≤ 8) (n199 : Nat) (hl204 : n199 = (x.Tiles).length) (hl205 : (n199 : Int) ≤ 9223372036854775807) (n234 : Nat) (hl240 : n234 = (((impl_StepScan x s).1).Tiles).length) (hl241 : (n234 : Int) ≤ 9223372036854775807) (hq242 : (((impl_StepScan x s).1).Tiles).length ≤ 8) (h364 : (¬ (((impl_StepScan x s).1) = ((spec_StepScan x s).1))) ∨ ((!(((impl_StepScan x s).2) == ((spec_StepScan x s).2))) = true)) : false = true := by
  first | (simp only [step_eqJ] at *; simp_all; done) | (simp_all; done) | (simp only [step_eqJ] at *; omega) | omega | (simp [step_eqJ] at *; omega)
theorem z_c_laws_FnExactStepScan_395 (x : ScanJob) (nx_Tiles : Nat) (hbdx_Tiles : (nx_Tiles : Int) ≤ 9223372036854775807) (hlex_Tiles : nx_Tiles = x.Tiles.length) (s : ScanStep) (h21 : ¬ ((szN x.Tiles.length 1048576) < 0)) (hq22 : ((x.Tiles.length : Nat) : Int) ≤ 1048576 ∧ szN x.Tiles.length 1048576 = 1048576 - (x.Tiles.length : Int)) (n30 : Nat) (n46 : Nat) (hl36 : n30 = (x.Tiles).length) (hl37 : (n30 : Int) ≤ 9223372036854775807) (hl52 : n46 = (((spec_StepScan x s).1).Tiles).length) (hl53 : (n46 : Int) ≤ 9223372036854775807) (hq54 : (((spec_StepScan x s).1).Tiles).length ≤ 8) (n199 : Nat) (hl204 : n199 = (x.Tiles).length) (hl205 : (n199 : Int) ≤ 9223372036854775807) (n234 : Nat) (hl240 : n234 = (((impl_StepScan x s).1).Tiles).length) (hl241 : (n234 : Int) ≤ 9223372036854775807) (hq242 : (((impl_StepScan x s).1).Tiles).length ≤ 8) (h364 : ¬ ((¬ (((impl_StepScan x s).1) = ((spec_StepScan x s).1))) ∨ ((!(((impl_StepScan x s).2) == ((spec_StepScan x s).2))) = true))) (hq366 : ((impl_StepScan x s).1) = ((spec_StepScan x s).1)) (hq367 : ¬ ((!(((impl_StepScan x s).2) == ((spec_StepScan x s).2))) = true)) (n375 : Nat) (hl381 : n375 = (x.Tiles).length) (hl382 : (n375 : Int) ≤ 9223372036854775807) (h394 : ¬ (x = x)) : false = true := by
  first | (simp only [step_eqJ] at *; simp_all; done) | (simp_all; done) | (simp only [step_eqJ] at *; omega) | omega | (simp [step_eqJ] at *; omega)
theorem z_c_laws_FnExactStepScan_414 (x : ScanJob) (nx_Tiles : Nat) (hbdx_Tiles : (nx_Tiles : Int) ≤ 9223372036854775807) (hlex_Tiles : nx_Tiles = x.Tiles.length) (s : ScanStep) (h21 : ¬ ((szN x.Tiles.length 1048576) < 0)) (hq22 : ((x.Tiles.length : Nat) : Int) ≤ 1048576 ∧ szN x.Tiles.length 1048576 = 1048576 - (x.Tiles.length : Int)) (n30 : Nat) (n46 : Nat) (hl36 : n30 = (x.Tiles).length) (hl37 : (n30 : Int) ≤ 9223372036854775807) (hl52 : n46 = (((spec_StepScan x s).1).Tiles).length) (hl53 : (n46 : Int) ≤ 9223372036854775807) (hq54 : (((spec_StepScan x s).1).Tiles).length ≤ 8) (n199 : Nat) (hl204 : n199 = (x.Tiles).length) (hl205 : (n199 : Int) ≤ 9223372036854775807) (n234 : Nat) (hl240 : n234 = (((impl_StepScan x s).1).Tiles).length) (hl241 : (n234 : Int) ≤ 9223372036854775807) (hq242 : (((impl_StepScan x s).1).Tiles).length ≤ 8) (h364 : ¬ ((¬ (((impl_StepScan x s).1) = ((spec_StepScan x s).1))) ∨ ((!(((impl_StepScan x s).2) == ((spec_StepScan x s).2))) = true))) (hq366 : ((impl_StepScan x s).1) = ((spec_StepScan x s).1)) (hq367 : ¬ ((!(((impl_StepScan x s).2) == ((spec_StepScan x s).2))) = true)) (n375 : Nat) (hl381 : n375 = (x.Tiles).length) (hl382 : (n375 : Int) ≤ 9223372036854775807) (h394 : x = x) (h413 : ((1 + 1 * (x.Tiles.length : Int)) < 0) ∨ ((¬ (((impl_StepScan x s).1) = ((spec_StepScan x s).1))) ∨ ((!(((impl_StepScan x s).2) == ((spec_StepScan x s).2))) = true))) : false = true := by
  first | (simp only [step_eqJ] at *; simp_all; done) | (simp_all; done) | (simp only [step_eqJ] at *; omega) | omega | (simp [step_eqJ] at *; omega)
theorem z_c_laws_FnExactStepScan_428 (x : ScanJob) (nx_Tiles : Nat) (hbdx_Tiles : (nx_Tiles : Int) ≤ 9223372036854775807) (hlex_Tiles : nx_Tiles = x.Tiles.length) (s : ScanStep) (h21 : ¬ ((szN x.Tiles.length 1048576) < 0)) (hq22 : ((x.Tiles.length : Nat) : Int) ≤ 1048576 ∧ szN x.Tiles.length 1048576 = 1048576 - (x.Tiles.length : Int)) (n30 : Nat) (n46 : Nat) (hl36 : n30 = (x.Tiles).length) (hl37 : (n30 : Int) ≤ 9223372036854775807) (hl52 : n46 = (((spec_StepScan x s).1).Tiles).length) (hl53 : (n46 : Int) ≤ 9223372036854775807) (hq54 : (((spec_StepScan x s).1).Tiles).length ≤ 8) (n199 : Nat) (hl204 : n199 = (x.Tiles).length) (hl205 : (n199 : Int) ≤ 9223372036854775807) (n234 : Nat) (hl240 : n234 = (((impl_StepScan x s).1).Tiles).length) (hl241 : (n234 : Int) ≤ 9223372036854775807) (hq242 : (((impl_StepScan x s).1).Tiles).length ≤ 8) (h364 : ¬ ((¬ (((impl_StepScan x s).1) = ((spec_StepScan x s).1))) ∨ ((!(((impl_StepScan x s).2) == ((spec_StepScan x s).2))) = true))) (hq366 : ((impl_StepScan x s).1) = ((spec_StepScan x s).1)) (hq367 : ¬ ((!(((impl_StepScan x s).2) == ((spec_StepScan x s).2))) = true)) (n375 : Nat) (hl381 : n375 = (x.Tiles).length) (hl382 : (n375 : Int) ≤ 9223372036854775807) (h394 : x = x) (h413 : ¬ (((1 + 1 * (x.Tiles.length : Int)) < 0) ∨ ((¬ (((impl_StepScan x s).1) = ((spec_StepScan x s).1))) ∨ ((!(((impl_StepScan x s).2) == ((spec_StepScan x s).2))) = true)))) (hq415 : ¬ ((1 + 1 * (x.Tiles.length : Int)) < 0)) (hq416 : ((impl_StepScan x s).1) = ((spec_StepScan x s).1)) (hq417 : ¬ ((!(((impl_StepScan x s).2) == ((spec_StepScan x s).2))) = true)) (h427 : (1 + 1 * ((((impl_StepScan x s).1).Tiles.length : Nat) : Int)) < 0) : false = true := by
  first | (simp only [step_eqJ] at *; simp_all; done) | (simp_all; done) | (simp only [step_eqJ] at *; omega) | omega | (simp [step_eqJ] at *; omega)
theorem z_c_laws_FnExactStepScan_430 (x : ScanJob) (nx_Tiles : Nat) (hbdx_Tiles : (nx_Tiles : Int) ≤ 9223372036854775807) (hlex_Tiles : nx_Tiles = x.Tiles.length) (s : ScanStep) (h21 : ¬ ((szN x.Tiles.length 1048576) < 0)) (hq22 : ((x.Tiles.length : Nat) : Int) ≤ 1048576 ∧ szN x.Tiles.length 1048576 = 1048576 - (x.Tiles.length : Int)) (n30 : Nat) (n46 : Nat) (hl36 : n30 = (x.Tiles).length) (hl37 : (n30 : Int) ≤ 9223372036854775807) (hl52 : n46 = (((spec_StepScan x s).1).Tiles).length) (hl53 : (n46 : Int) ≤ 9223372036854775807) (hq54 : (((spec_StepScan x s).1).Tiles).length ≤ 8) (n199 : Nat) (hl204 : n199 = (x.Tiles).length) (hl205 : (n199 : Int) ≤ 9223372036854775807) (n234 : Nat) (hl240 : n234 = (((impl_StepScan x s).1).Tiles).length) (hl241 : (n234 : Int) ≤ 9223372036854775807) (hq242 : (((impl_StepScan x s).1).Tiles).length ≤ 8) (h364 : ¬ ((¬ (((impl_StepScan x s).1) = ((spec_StepScan x s).1))) ∨ ((!(((impl_StepScan x s).2) == ((spec_StepScan x s).2))) = true))) (hq366 : ((impl_StepScan x s).1) = ((spec_StepScan x s).1)) (hq367 : ¬ ((!(((impl_StepScan x s).2) == ((spec_StepScan x s).2))) = true)) (n375 : Nat) (hl381 : n375 = (x.Tiles).length) (hl382 : (n375 : Int) ≤ 9223372036854775807) (h394 : x = x) (h413 : ¬ (((1 + 1 * (x.Tiles.length : Int)) < 0) ∨ ((¬ (((impl_StepScan x s).1) = ((spec_StepScan x s).1))) ∨ ((!(((impl_StepScan x s).2) == ((spec_StepScan x s).2))) = true)))) (hq415 : ¬ ((1 + 1 * (x.Tiles.length : Int)) < 0)) (hq416 : ((impl_StepScan x s).1) = ((spec_StepScan x s).1)) (hq417 : ¬ ((!(((impl_StepScan x s).2) == ((spec_StepScan x s).2))) = true)) (h427 : ¬ ((1 + 1 * ((((impl_StepScan x s).1).Tiles.length : Nat) : Int)) < 0)) (h429 : ¬ ((1 + 1 * ((((impl_StepScan x s).1).Tiles.length : Nat) : Int)) = (1 + 1 * (((impl_StepScan x s).1).Tiles.length : Int)))) : false = true := by
  first | (simp only [step_eqJ] at *; simp_all; done) | (simp_all; done) | (simp only [step_eqJ] at *; omega) | omega | (simp [step_eqJ] at *; omega)
theorem c_laws_FnExactStepScan (w : World) (x : ScanJob) {Ax_Tiles : Option Addr} {nx_Tiles cx_Tiles Bx_Tiles : Nat} (hx_Tiles : SlR w Bx_Tiles encI 1 Ax_Tiles nx_Tiles cx_Tiles x.Tiles) (s : ScanStep) : Calls Try.prog 4 #[.agg (List.toArray [.int .i64 x.State, .slice Ax_Tiles nx_Tiles cx_Tiles, .int .i64 x.Next, .int .i64 x.Fails, .int .i64 x.Size]), .agg (List.toArray (encScanStep s))] w fun e w' => e = .returned (.bool true) ∧ Lo w w' := by
  refine calls_W 104 Try.func4 rfl rfl rfl ?_
  have hbdx_Tiles := hx_Tiles.bound
  have hlex_Tiles := hx_Tiles.len
  have hBbx_Tiles := hx_Tiles.bd
  refine W.seq ?_
  refine W.regS (SR.box (v := .agg (List.toArray _)) (l := [.int .i64 x.State, .slice Ax_Tiles nx_Tiles cx_Tiles, .int .i64 x.Next, .int .i64 x.Fails, .int .i64 x.Size]) rfl rfl ?_)
  intro g1 w2 hg3 hk4 hs5 hb6
  have hz7 := hk4.size
  have hB8 := (Lo.refl w).lo hk4
  refine SR.box (v := .agg (List.toArray _)) (l := [.int .i64 s.Kind, .int .i64 s.Value]) rfl rfl ?_
  intro g9 w10 hg11 hk12 hs13 hb14
  have hz15 := hk12.size
  have hB16 := hB8.lo hk12
  refine SR.q' (r_as (v := .bool false) rfl) <| SR.nil ?_
  refine W.seq ?_
  refine W.regS (SR.q' (r_as (v := .int .i64 1048576) rfl) <| SR.nil ?_)
  refine W.seq ?_
  refine W.regS (SR.q' (r_lda (l := [.int .i64 x.State, .slice Ax_Tiles nx_Tiles cx_Tiles, .int .i64 x.Next, .int .i64 x.Fails, .int .i64 x.Size]) agg38 rfl (fun _ _ hu => ((hb6).lo hk12).cell hu) rfl) <| SR.q' (r_mv (v := .int .i64 _) rfl) <| SR.call ent17 (c_laws_szScanJob w10 x ((((hx_Tiles).lo hk4).lo hk12)) 1048576 (by omega) (by omega)) rfl ?_)
  rintro e w17 ⟨rfl, hk18⟩
  refine ⟨_, rfl, ?_⟩
  have hz19 := hk18.size
  have hB20 := hB16.lo hk18
  refine SR.q' (r_as (v := .int .i64 _) rfl) <| SR.nil ?_
  refine W.seq ?_
  refine W.seq ?_
  refine W.regS (SR.q' (r_mv (v := .int .i64 _) rfl) <| SR.q' (r_lt rfl rfl) <| SR.nil ?_)
  refine W.cond_d rfl (fun h21 => ?_) (fun h21 => ?_)
  · refine W.seq ?_
    refine W.regS (SR.q' (r_as (v := .bool true) rfl) <| SR.nil ?_)
    refine W.ret ?_
    refine ret1 rfl (v := .bool _) rfl ?_
    exact ⟨eR rfl, hB20⟩
  · have hq22 := szN_ok h21
    refine W.skip ?_
    refine W.seq ?_
    refine W.regA (Lo w17) (fun f' w' => ∃ (A29 : Option Addr), ∃ (n30 : Nat), ∃ (c31 : Nat), ∃ (A45 : Option Addr), ∃ (n46 : Nat), ∃ (c47 : Nat), ∃ (g55 : Nat), At f' [(2, .pointer (some ((⟨g1, 0, none⟩ : Addr)))), (3, .pointer (some ((⟨g9, 0, none⟩ : Addr)))), (4, .bool false), (6, .pointer (some ((⟨g55, 0, none⟩ : Addr)))), (7, .bool ((spec_StepScan x s).2))] ∧ (Lo w17 w') ∧ (SlO w' w17.heap.size encI 1 3 A45 n46 c47 (((spec_StepScan x s).1).Tiles)) ∧ (Blk w' g55 41 [.int .i64 (((spec_StepScan x s).1).State), .slice A45 n46 c47, .int .i64 (((spec_StepScan x s).1).Next), .int .i64 (((spec_StepScan x s).1).Fails), .int .i64 (((spec_StepScan x s).1).Size)]) ∧ (w17.heap.size ≤ g55 ∧ g55 < w'.heap.size) ∧ (¬ A45 = some ⟨g55, 0, none⟩) ∧ (n30 = (x.Tiles).length) ∧ ((n30 : Int) ≤ 9223372036854775807) ∧ (n46 = (((spec_StepScan x s).1).Tiles).length) ∧ ((n46 : Int) ≤ 9223372036854775807) ∧ ((((spec_StepScan x s).1).Tiles).length ≤ 8)) mo ?_ ?_
    · intro w23 hk24
      have hz25 := hk24.size
      have hB26 := hB20.lo hk24
      refine AH.take 0 rfl (by kernel_rfl) trivial (hk24) (fun w' hw' => r_lda (l := [.int .i64 x.State, .slice Ax_Tiles nx_Tiles cx_Tiles, .int .i64 x.Next, .int .i64 x.Fails, .int .i64 x.Size]) agg38 rfl (fun _ _ hu => ((((hb6).lo hk12).lo hk18).lo hw').cell hu) rfl) <| AH.take 2 rfl (by kernel_rfl) trivial (hk24) (fun w' hw' => r_lda (l := [.int .i64 s.Kind, .int .i64 s.Value]) agg39 rfl (fun _ _ hu => (((hb14).lo hk18).lo hw').cell hu) rfl) <| AH.br [1, 8] (by kernel_rfl) rfl ⟨Br.mk' rfl trivial ?_, Br.mk' rfl trivial ?_, trivial⟩
      · refine SR.call ent19 (c_laws_toScanJob w23 x ((((((hx_Tiles).lo hk4).lo hk12).lo hk18).lo hk24)) (by omega)) rfl ?_
        rintro e w27 ⟨A29, n30, c31, rfl, hO32, hk28⟩
        refine ⟨_, rfl, ?_⟩
        have hz33 := hk28.size
        have hB34 := hB26.lo hk28
        have hS35 := (hk24).lo hk28
        have hl36 := hO32.len
        have hl37 := hO32.rd.bound
        refine SR.nil ⟨hS35, _, rfl, ?_⟩
        refine AH.br [3, 8] (by kernel_rfl) rfl ⟨Br.mk' rfl trivial ?_, Br.mk' rfl trivial ?_, trivial⟩
        · refine SR.call ent20 (c_laws_toScanStep w27 s) rfl ?_
          rintro e w38 ⟨rfl, hk39⟩
          refine ⟨_, rfl, ?_⟩
          have hz40 := hk39.size
          have hB41 := hB34.lo hk39
          have hS42 := (hS35).lo hk39
          refine SR.nil ⟨hS42, _, rfl, ?_⟩
          refine AH.br [4, 8] (by kernel_rfl) rfl ⟨Br.mk' rfl trivial ?_, Br.mk' rfl trivial ?_, trivial⟩
          · refine SR.call ent18 (c_spec_StepScan w38 x ((((hO32).lo hk39).rd)) s) rfl ?_
            rintro e w43 ⟨A45, n46, c47, rfl, hO48, hk44⟩
            refine ⟨_, rfl, ?_⟩
            have hz49 := hk44.size
            have hB50 := hB41.lo hk44
            have hS51 := (hS42).lo hk44
            have hl52 := hO48.len
            have hl53 := hO48.rd.bound
            have hq54 := step_lenJS x s
            refine SR.nil ⟨hS51, _, rfl, ?_⟩
            refine AH.take 5 rfl (by kernel_rfl) trivial (hS51) (fun w' hw' => r_mv (v := .tuple (List.toArray _)) rfl) <| AH.take 6 rfl (by kernel_rfl) trivial (hS51) (fun w' hw' => r_ext (v := .agg (List.toArray _)) rfl rfl) <| AH.take 7 rfl (by kernel_rfl) trivial (hS51) (fun w' hw' => r_ext (v := .bool _) rfl rfl) <| AH.br [8] (by kernel_rfl) rfl ⟨Br.mk' rfl trivial ?_, trivial⟩
            refine SR.alloc (l := [.int .i64 0, .slice none 0 0, .int .i64 0, .int .i64 0, .int .i64 0]) tz41 rfl ?_
            intro g55 w56 hg57 hk58 hs59 hb60
            have hz61 := hk58.size
            have hB62 := hB50.lo hk58
            have hS63 := (hS51).lo hk58
            have hd64 : ¬ A29 = some ⟨g55, 0, none⟩ := fun e' => by have := (((hO32).lo hk39).lo hk44).base_le e'; omega
            have hd65 : ¬ A45 = some ⟨g55, 0, none⟩ := fun e' => by have := (hO48).base_le e'; omega
            refine SR.nil ⟨hS63, _, rfl, ?_⟩
            refine AH.br [9] (by kernel_rfl) rfl ⟨Br.mk' rfl trivial ?_, trivial⟩
            refine SR.store (o := 0) (vs := [.int .i64 (((spec_StepScan x s).1).State), .slice A45 n46 c47, .int .i64 (((spec_StepScan x s).1).Next), .int .i64 (((spec_StepScan x s).1).Fails), .int .i64 (((spec_StepScan x s).1).Size)]) agg41.2 rfl rfl rfl rfl (hb60) (Nat.le_of_ble_eq_true rfl) rfl ?_
            intro w66 hk67 hs68 hb69
            have hz70 := hk67.size
            have hB71 := hB62.new hk67 (by omega)
            have hS72 := (hS63).new hk67 (by omega)
            refine SR.nil ⟨hS72, _, rfl, ?_⟩
            refine AH.take 10 rfl (by kernel_rfl) trivial (hS72) (fun w' hw' => r_as (v := .bool _) rfl) <| AH.done (by kernel_rfl) ?_
            exact ⟨A29, n30, c31, A45, n46, c47, g55, ⟨rfl, rfl, rfl, rfl, rfl, trivial⟩, hS72, ((((hO48).lo hk58).kp hk67 (fun b_ hb e' => hd65 (by have e'' : b_ = g55 := e'; rw [← e'']; exact hb))).down (by omega)), (hb69), ⟨by omega, (hb69).lt⟩, hd65, hl36, hl37, hl52, hl53, hq54⟩
          · refine SR.alloc (l := [.int .i64 0, .slice none 0 0, .int .i64 0, .int .i64 0, .int .i64 0]) tz41 rfl ?_
            intro g77 w78 hg79 hk80 hs81 hb82
            have hz83 := hk80.size
            have hB84 := hB41.lo hk80
            have hS85 := (hS42).lo hk80
            have hd86 : ¬ A29 = some ⟨g77, 0, none⟩ := fun e' => by have := ((hO32).lo hk39).base_le e'; omega
            refine SR.nil ⟨hS85, _, rfl, ?_⟩
            refine AH.br [4] (by kernel_rfl) rfl ⟨Br.mk' rfl trivial ?_, trivial⟩
            refine SR.call ent18 (c_spec_StepScan w78 x (((((hO32).lo hk39).lo hk80).rd)) s) rfl ?_
            rintro e w87 ⟨A89, n90, c91, rfl, hO92, hk88⟩
            refine ⟨_, rfl, ?_⟩
            have hz93 := hk88.size
            have hB94 := hB84.lo hk88
            have hS95 := (hS85).lo hk88
            have hl96 := hO92.len
            have hl97 := hO92.rd.bound
            have hq98 := step_lenJS x s
            refine SR.nil ⟨hS95, _, rfl, ?_⟩
            refine AH.take 5 rfl (by kernel_rfl) trivial (hS95) (fun w' hw' => r_mv (v := .tuple (List.toArray _)) rfl) <| AH.take 6 rfl (by kernel_rfl) trivial (hS95) (fun w' hw' => r_ext (v := .agg (List.toArray _)) rfl rfl) <| AH.take 7 rfl (by kernel_rfl) trivial (hS95) (fun w' hw' => r_ext (v := .bool _) rfl rfl) <| AH.br [9] (by kernel_rfl) rfl ⟨Br.mk' rfl trivial ?_, trivial⟩
            refine SR.store (o := 0) (vs := [.int .i64 (((spec_StepScan x s).1).State), .slice A89 n90 c91, .int .i64 (((spec_StepScan x s).1).Next), .int .i64 (((spec_StepScan x s).1).Fails), .int .i64 (((spec_StepScan x s).1).Size)]) agg41.2 rfl rfl rfl rfl ((hb82).lo hk88) (Nat.le_of_ble_eq_true rfl) rfl ?_
            intro w99 hk100 hs101 hb102
            have hz103 := hk100.size
            have hB104 := hB94.new hk100 (by omega)
            have hS105 := (hS95).new hk100 (by omega)
            refine SR.nil ⟨hS105, _, rfl, ?_⟩
            refine AH.take 10 rfl (by kernel_rfl) trivial (hS105) (fun w' hw' => r_as (v := .bool _) rfl) <| AH.done (by kernel_rfl) ?_
            exact ⟨A29, n30, c31, A89, n90, c91, g77, ⟨rfl, rfl, rfl, rfl, rfl, trivial⟩, hS105, (((hO92).kp hk100 (fun b_ hb e' => by have e'' : b_ = g77 := e'; have := (hO92).base_le hb; omega)).down (by omega)), (hb102), ⟨by omega, (hb102).lt⟩, (fun e' => by have := ((hO92).kp hk100 (fun b_ hb e' => by have e'' : b_ = g77 := e'; have := (hO92).base_le hb; omega)).base_le e'; omega), hl36, hl37, hl96, hl97, hq98⟩
        · refine SR.alloc (l := [.int .i64 0, .slice none 0 0, .int .i64 0, .int .i64 0, .int .i64 0]) tz41 rfl ?_
          intro g108 w109 hg110 hk111 hs112 hb113
          have hz114 := hk111.size
          have hB115 := hB34.lo hk111
          have hS116 := (hS35).lo hk111
          have hd117 : ¬ A29 = some ⟨g108, 0, none⟩ := fun e' => by have := (hO32).base_le e'; omega
          refine SR.nil ⟨hS116, _, rfl, ?_⟩
          refine AH.br [3] (by kernel_rfl) rfl ⟨Br.mk' rfl trivial ?_, trivial⟩
          refine SR.call ent20 (c_laws_toScanStep w109 s) rfl ?_
          rintro e w118 ⟨rfl, hk119⟩
          refine ⟨_, rfl, ?_⟩
          have hz120 := hk119.size
          have hB121 := hB115.lo hk119
          have hS122 := (hS116).lo hk119
          refine SR.nil ⟨hS122, _, rfl, ?_⟩
          refine AH.br [4] (by kernel_rfl) rfl ⟨Br.mk' rfl trivial ?_, trivial⟩
          refine SR.call ent18 (c_spec_StepScan w118 x (((((hO32).lo hk111).lo hk119).rd)) s) rfl ?_
          rintro e w123 ⟨A125, n126, c127, rfl, hO128, hk124⟩
          refine ⟨_, rfl, ?_⟩
          have hz129 := hk124.size
          have hB130 := hB121.lo hk124
          have hS131 := (hS122).lo hk124
          have hl132 := hO128.len
          have hl133 := hO128.rd.bound
          have hq134 := step_lenJS x s
          refine SR.nil ⟨hS131, _, rfl, ?_⟩
          refine AH.take 5 rfl (by kernel_rfl) trivial (hS131) (fun w' hw' => r_mv (v := .tuple (List.toArray _)) rfl) <| AH.take 6 rfl (by kernel_rfl) trivial (hS131) (fun w' hw' => r_ext (v := .agg (List.toArray _)) rfl rfl) <| AH.take 7 rfl (by kernel_rfl) trivial (hS131) (fun w' hw' => r_ext (v := .bool _) rfl rfl) <| AH.br [9] (by kernel_rfl) rfl ⟨Br.mk' rfl trivial ?_, trivial⟩
          refine SR.store (o := 0) (vs := [.int .i64 (((spec_StepScan x s).1).State), .slice A125 n126 c127, .int .i64 (((spec_StepScan x s).1).Next), .int .i64 (((spec_StepScan x s).1).Fails), .int .i64 (((spec_StepScan x s).1).Size)]) agg41.2 rfl rfl rfl rfl (((hb113).lo hk119).lo hk124) (Nat.le_of_ble_eq_true rfl) rfl ?_
          intro w135 hk136 hs137 hb138
          have hz139 := hk136.size
          have hB140 := hB130.new hk136 (by omega)
          have hS141 := (hS131).new hk136 (by omega)
          refine SR.nil ⟨hS141, _, rfl, ?_⟩
          refine AH.take 10 rfl (by kernel_rfl) trivial (hS141) (fun w' hw' => r_as (v := .bool _) rfl) <| AH.done (by kernel_rfl) ?_
          exact ⟨A29, n30, c31, A125, n126, c127, g108, ⟨rfl, rfl, rfl, rfl, rfl, trivial⟩, hS141, (((hO128).kp hk136 (fun b_ hb e' => by have e'' : b_ = g108 := e'; have := (hO128).base_le hb; omega)).down (by omega)), (hb138), ⟨by omega, (hb138).lt⟩, (fun e' => by have := ((hO128).kp hk136 (fun b_ hb e' => by have e'' : b_ = g108 := e'; have := (hO128).base_le hb; omega)).base_le e'; omega), hl36, hl37, hl132, hl133, hq134⟩
      · refine SR.alloc (l := [.int .i64 0, .slice none 0 0, .int .i64 0, .int .i64 0, .int .i64 0]) tz41 rfl ?_
        intro g144 w145 hg146 hk147 hs148 hb149
        have hz150 := hk147.size
        have hB151 := hB26.lo hk147
        have hS152 := (hk24).lo hk147
        refine SR.nil ⟨hS152, _, rfl, ?_⟩
        refine AH.br [1] (by kernel_rfl) rfl ⟨Br.mk' rfl trivial ?_, trivial⟩
        refine SR.call ent19 (c_laws_toScanJob w145 x (((((((hx_Tiles).lo hk4).lo hk12).lo hk18).lo hk24).lo hk147)) (by omega)) rfl ?_
        rintro e w153 ⟨A155, n156, c157, rfl, hO158, hk154⟩
        refine ⟨_, rfl, ?_⟩
        have hz159 := hk154.size
        have hB160 := hB151.lo hk154
        have hS161 := (hS152).lo hk154
        have hl162 := hO158.len
        have hl163 := hO158.rd.bound
        refine SR.nil ⟨hS161, _, rfl, ?_⟩
        refine AH.br [3] (by kernel_rfl) rfl ⟨Br.mk' rfl trivial ?_, trivial⟩
        refine SR.call ent20 (c_laws_toScanStep w153 s) rfl ?_
        rintro e w164 ⟨rfl, hk165⟩
        refine ⟨_, rfl, ?_⟩
        have hz166 := hk165.size
        have hB167 := hB160.lo hk165
        have hS168 := (hS161).lo hk165
        refine SR.nil ⟨hS168, _, rfl, ?_⟩
        refine AH.br [4] (by kernel_rfl) rfl ⟨Br.mk' rfl trivial ?_, trivial⟩
        refine SR.call ent18 (c_spec_StepScan w164 x ((((hO158).lo hk165).rd)) s) rfl ?_
        rintro e w169 ⟨A171, n172, c173, rfl, hO174, hk170⟩
        refine ⟨_, rfl, ?_⟩
        have hz175 := hk170.size
        have hB176 := hB167.lo hk170
        have hS177 := (hS168).lo hk170
        have hl178 := hO174.len
        have hl179 := hO174.rd.bound
        have hq180 := step_lenJS x s
        refine SR.nil ⟨hS177, _, rfl, ?_⟩
        refine AH.take 5 rfl (by kernel_rfl) trivial (hS177) (fun w' hw' => r_mv (v := .tuple (List.toArray _)) rfl) <| AH.take 6 rfl (by kernel_rfl) trivial (hS177) (fun w' hw' => r_ext (v := .agg (List.toArray _)) rfl rfl) <| AH.take 7 rfl (by kernel_rfl) trivial (hS177) (fun w' hw' => r_ext (v := .bool _) rfl rfl) <| AH.br [9] (by kernel_rfl) rfl ⟨Br.mk' rfl trivial ?_, trivial⟩
        refine SR.store (o := 0) (vs := [.int .i64 (((spec_StepScan x s).1).State), .slice A171 n172 c173, .int .i64 (((spec_StepScan x s).1).Next), .int .i64 (((spec_StepScan x s).1).Fails), .int .i64 (((spec_StepScan x s).1).Size)]) agg41.2 rfl rfl rfl rfl ((((hb149).lo hk154).lo hk165).lo hk170) (Nat.le_of_ble_eq_true rfl) rfl ?_
        intro w181 hk182 hs183 hb184
        have hz185 := hk182.size
        have hB186 := hB176.new hk182 (by omega)
        have hS187 := (hS177).new hk182 (by omega)
        refine SR.nil ⟨hS187, _, rfl, ?_⟩
        refine AH.take 10 rfl (by kernel_rfl) trivial (hS187) (fun w' hw' => r_as (v := .bool _) rfl) <| AH.done (by kernel_rfl) ?_
        exact ⟨A155, n156, c157, A171, n172, c173, g144, ⟨rfl, rfl, rfl, rfl, rfl, trivial⟩, hS187, (((hO174).kp hk182 (fun b_ hb e' => by have e'' : b_ = g144 := e'; have := (hO174).base_le hb; omega)).down (by omega)), (hb184), ⟨by omega, (hb184).lt⟩, (fun e' => by have := ((hO174).kp hk182 (fun b_ hb e' => by have e'' : b_ = g144 := e'; have := (hO174).base_le hb; omega)).base_le e'; omega), hl162, hl163, hl178, hl179, hq180⟩
    rintro f190 w191 ⟨A29, n30, c31, A45, n46, c47, g55, hat193, hR192, hm73, hm74, hg75, hd76, hl36, hl37, hl52, hl53, hq54⟩
    rw [← sets_of_at hat193]
    have hz194 := hR192.size
    have hB195 := hB20.lo hR192
    refine W.seq ?_
    refine W.regS (SR.q' (r_lda (l := [.int .i64 x.State, .slice Ax_Tiles nx_Tiles cx_Tiles, .int .i64 x.Next, .int .i64 x.Fails, .int .i64 x.Size]) agg38 rfl (fun _ _ hu => ((((hb6).lo hk12).lo hk18).lo hR192).cell hu) rfl) <| SR.call ent19 (c_laws_toScanJob w191 x ((((((hx_Tiles).lo hk4).lo hk12).lo hk18).lo hR192)) (by omega)) rfl ?_)
    rintro e w196 ⟨A198, n199, c200, rfl, hO201, hk197⟩
    refine ⟨_, rfl, ?_⟩
    have hz202 := hk197.size
    have hB203 := hB195.lo hk197
    have hl204 := hO201.len
    have hl205 := hO201.rd.bound
    refine SR.alloc (l := [.int .i64 0, .slice none 0 0, .int .i64 0, .int .i64 0, .int .i64 0]) tz41 rfl ?_
    intro g206 w207 hg208 hk209 hs210 hb211
    have hz212 := hk209.size
    have hB213 := hB203.lo hk209
    have hd214 : ¬ A45 = some ⟨g206, 0, none⟩ := fun e' => by have := ((hm73).lo hk197).base_le e'; omega
    have hd215 : ¬ A198 = some ⟨g206, 0, none⟩ := fun e' => by have := (hO201).base_le e'; omega
    refine SR.store (o := 0) (vs := [.int .i64 x.State, .slice A198 n199 c200, .int .i64 x.Next, .int .i64 x.Fails, .int .i64 x.Size]) agg41.2 rfl rfl rfl rfl (hb211) (Nat.le_of_ble_eq_true rfl) rfl ?_
    intro w216 hk217 hs218 hb219
    have hz220 := hk217.size
    have hB221 := hB213.new hk217 (by omega)
    refine SR.nil ?_
    refine W.seq ?_
    refine W.regA (Lo w216) (fun f' w' => ∃ (A233 : Option Addr), ∃ (n234 : Nat), ∃ (c235 : Nat), ∃ (g243 : Nat), At f' [(2, .pointer (some ((⟨g1, 0, none⟩ : Addr)))), (3, .pointer (some ((⟨g9, 0, none⟩ : Addr)))), (4, .bool false), (6, .pointer (some ((⟨g55, 0, none⟩ : Addr)))), (7, .bool ((spec_StepScan x s).2)), (8, .pointer (some ((⟨g206, 0, none⟩ : Addr)))), (9, .pointer (some ((⟨g243, 0, none⟩ : Addr)))), (10, .bool ((impl_StepScan x s).2))] ∧ (Lo w216 w') ∧ (SlO w' w216.heap.size encI 1 3 A233 n234 c235 (((impl_StepScan x s).1).Tiles)) ∧ (Blk w' g243 41 [.int .i64 (((impl_StepScan x s).1).State), .slice A233 n234 c235, .int .i64 (((impl_StepScan x s).1).Next), .int .i64 (((impl_StepScan x s).1).Fails), .int .i64 (((impl_StepScan x s).1).Size)]) ∧ (w216.heap.size ≤ g243 ∧ g243 < w'.heap.size) ∧ (¬ A45 = some ⟨g243, 0, none⟩) ∧ (¬ A198 = some ⟨g243, 0, none⟩) ∧ (¬ A233 = some ⟨g243, 0, none⟩) ∧ (∀ b_, A233 = some ⟨b_, 0, none⟩ → ¬ A45 = some ⟨b_, 0, none⟩) ∧ (∀ b_, A233 = some ⟨b_, 0, none⟩ → ¬ A198 = some ⟨b_, 0, none⟩) ∧ (n234 = (((impl_StepScan x s).1).Tiles).length) ∧ ((n234 : Int) ≤ 9223372036854775807) ∧ ((((impl_StepScan x s).1).Tiles).length ≤ 8)) mo ?_ ?_
    · intro w222 hk223
      have hz224 := hk223.size
      have hB225 := hB221.lo hk223
      refine AH.take 0 rfl (by kernel_rfl) trivial (hk223) (fun w' hw' => r_lda (l := [.int .i64 x.State, .slice A198 n199 c200, .int .i64 x.Next, .int .i64 x.Fails, .int .i64 x.Size]) agg41 rfl (fun _ _ hu => ((hb219).lo hw').cell hu) rfl) <| AH.take 1 rfl (by kernel_rfl) trivial (hk223) (fun w' hw' => r_lda (l := [.int .i64 s.Kind, .int .i64 s.Value]) agg39 rfl (fun _ _ hu => (((((((hb14).lo hk18).lo hR192).lo hk197).lo hk209).kp hk217 (fun e' => by have e'' : g9 = g206 := e'; omega)).lo hw').cell hu) rfl) <| AH.br [2, 7] (by kernel_rfl) rfl ⟨Br.mk' rfl trivial ?_, Br.mk' rfl trivial ?_, trivial⟩
      · refine SR.call ent20 (c_laws_toScanStep w222 s) rfl ?_
        rintro e w226 ⟨rfl, hk227⟩
        refine ⟨_, rfl, ?_⟩
        have hz228 := hk227.size
        have hB229 := hB225.lo hk227
        have hS230 := (hk223).lo hk227
        refine SR.nil ⟨hS230, _, rfl, ?_⟩
        refine AH.br [3, 7] (by kernel_rfl) rfl ⟨Br.mk' rfl trivial ?_, Br.mk' rfl trivial ?_, trivial⟩
        · refine SR.call ent21 (c_impl_StepScan w226 x (((((((hO201).lo hk209).kp hk217 (fun b_ hb e' => hd215 (by have e'' : b_ = g206 := e'; rw [← e'']; exact hb))).lo hk223).lo hk227).rd)) s) rfl ?_
          rintro e w231 ⟨A233, n234, c235, rfl, hO236, hk232⟩
          refine ⟨_, rfl, ?_⟩
          have hz237 := hk232.size
          have hB238 := hB229.lo hk232
          have hS239 := (hS230).lo hk232
          have hl240 := hO236.len
          have hl241 := hO236.rd.bound
          have hq242 := step_lenJ x s
          refine SR.nil ⟨hS239, _, rfl, ?_⟩
          refine AH.take 4 rfl (by kernel_rfl) trivial (hS239) (fun w' hw' => r_mv (v := .tuple (List.toArray _)) rfl) <| AH.take 5 rfl (by kernel_rfl) trivial (hS239) (fun w' hw' => r_ext (v := .agg (List.toArray _)) rfl rfl) <| AH.take 6 rfl (by kernel_rfl) trivial (hS239) (fun w' hw' => r_ext (v := .bool _) rfl rfl) <| AH.br [7] (by kernel_rfl) rfl ⟨Br.mk' rfl trivial ?_, trivial⟩
          refine SR.alloc (l := [.int .i64 0, .slice none 0 0, .int .i64 0, .int .i64 0, .int .i64 0]) tz41 rfl ?_
          intro g243 w244 hg245 hk246 hs247 hb248
          have hz249 := hk246.size
          have hB250 := hB238.lo hk246
          have hS251 := (hS239).lo hk246
          have hd252 : ¬ A45 = some ⟨g243, 0, none⟩ := fun e' => by have := (((((((hm73).lo hk197).lo hk209).kp hk217 (fun b_ hb e' => hd214 (by have e'' : b_ = g206 := e'; rw [← e'']; exact hb))).lo hk223).lo hk227).lo hk232).base_le e'; omega
          have hd253 : ¬ A198 = some ⟨g243, 0, none⟩ := fun e' => by have := ((((((hO201).lo hk209).kp hk217 (fun b_ hb e' => hd215 (by have e'' : b_ = g206 := e'; rw [← e'']; exact hb))).lo hk223).lo hk227).lo hk232).base_le e'; omega
          have hd254 : ¬ A233 = some ⟨g243, 0, none⟩ := fun e' => by have := (hO236).base_le e'; omega
          refine SR.nil ⟨hS251, _, rfl, ?_⟩
          refine AH.br [8] (by kernel_rfl) rfl ⟨Br.mk' rfl trivial ?_, trivial⟩
          refine SR.store (o := 0) (vs := [.int .i64 (((impl_StepScan x s).1).State), .slice A233 n234 c235, .int .i64 (((impl_StepScan x s).1).Next), .int .i64 (((impl_StepScan x s).1).Fails), .int .i64 (((impl_StepScan x s).1).Size)]) agg41.2 rfl rfl rfl rfl (hb248) (Nat.le_of_ble_eq_true rfl) rfl ?_
          intro w255 hk256 hs257 hb258
          have hz259 := hk256.size
          have hB260 := hB250.new hk256 (by omega)
          have hS261 := (hS251).new hk256 (by omega)
          refine SR.nil ⟨hS261, _, rfl, ?_⟩
          refine AH.take 9 rfl (by kernel_rfl) trivial (hS261) (fun w' hw' => r_as (v := .bool _) rfl) <| AH.done (by kernel_rfl) ?_
          exact ⟨A233, n234, c235, g243, ⟨rfl, rfl, rfl, rfl, rfl, rfl, rfl, rfl, trivial⟩, hS261, ((((hO236).lo hk246).kp hk256 (fun b_ hb e' => hd254 (by have e'' : b_ = g243 := e'; rw [← e'']; exact hb))).down (by omega)), (hb258), ⟨by omega, (hb258).lt⟩, hd252, hd253, hd254, (fun b_ h h' => by have h1 := (((hO236).lo hk246).kp hk256 (fun b_ hb e' => hd254 (by have e'' : b_ = g243 := e'; rw [← e'']; exact hb))).base_le h; have h2 := ((((((hm73).lo hk197).lo hk209).kp hk217 (fun b_ hb e' => hd214 (by have e'' : b_ = g206 := e'; rw [← e'']; exact hb))).lo hk223).lo hk227).base_le h'; omega), (fun b_ h h' => by have h1 := (((hO236).lo hk246).kp hk256 (fun b_ hb e' => hd254 (by have e'' : b_ = g243 := e'; rw [← e'']; exact hb))).base_le h; have h2 := (((((hO201).lo hk209).kp hk217 (fun b_ hb e' => hd215 (by have e'' : b_ = g206 := e'; rw [← e'']; exact hb))).lo hk223).lo hk227).base_le h'; omega), hl240, hl241, hq242⟩
        · refine SR.alloc (l := [.int .i64 0, .slice none 0 0, .int .i64 0, .int .i64 0, .int .i64 0]) tz41 rfl ?_
          intro g270 w271 hg272 hk273 hs274 hb275
          have hz276 := hk273.size
          have hB277 := hB229.lo hk273
          have hS278 := (hS230).lo hk273
          have hd279 : ¬ A45 = some ⟨g270, 0, none⟩ := fun e' => by have := ((((((hm73).lo hk197).lo hk209).kp hk217 (fun b_ hb e' => hd214 (by have e'' : b_ = g206 := e'; rw [← e'']; exact hb))).lo hk223).lo hk227).base_le e'; omega
          have hd280 : ¬ A198 = some ⟨g270, 0, none⟩ := fun e' => by have := (((((hO201).lo hk209).kp hk217 (fun b_ hb e' => hd215 (by have e'' : b_ = g206 := e'; rw [← e'']; exact hb))).lo hk223).lo hk227).base_le e'; omega
          refine SR.nil ⟨hS278, _, rfl, ?_⟩
          refine AH.br [3] (by kernel_rfl) rfl ⟨Br.mk' rfl trivial ?_, trivial⟩
          refine SR.call ent21 (c_impl_StepScan w271 x ((((((((hO201).lo hk209).kp hk217 (fun b_ hb e' => hd215 (by have e'' : b_ = g206 := e'; rw [← e'']; exact hb))).lo hk223).lo hk227).lo hk273).rd)) s) rfl ?_
          rintro e w281 ⟨A283, n284, c285, rfl, hO286, hk282⟩
          refine ⟨_, rfl, ?_⟩
          have hz287 := hk282.size
          have hB288 := hB277.lo hk282
          have hS289 := (hS278).lo hk282
          have hl290 := hO286.len
          have hl291 := hO286.rd.bound
          have hq292 := step_lenJ x s
          refine SR.nil ⟨hS289, _, rfl, ?_⟩
          refine AH.take 4 rfl (by kernel_rfl) trivial (hS289) (fun w' hw' => r_mv (v := .tuple (List.toArray _)) rfl) <| AH.take 5 rfl (by kernel_rfl) trivial (hS289) (fun w' hw' => r_ext (v := .agg (List.toArray _)) rfl rfl) <| AH.take 6 rfl (by kernel_rfl) trivial (hS289) (fun w' hw' => r_ext (v := .bool _) rfl rfl) <| AH.br [8] (by kernel_rfl) rfl ⟨Br.mk' rfl trivial ?_, trivial⟩
          refine SR.store (o := 0) (vs := [.int .i64 (((impl_StepScan x s).1).State), .slice A283 n284 c285, .int .i64 (((impl_StepScan x s).1).Next), .int .i64 (((impl_StepScan x s).1).Fails), .int .i64 (((impl_StepScan x s).1).Size)]) agg41.2 rfl rfl rfl rfl ((hb275).lo hk282) (Nat.le_of_ble_eq_true rfl) rfl ?_
          intro w293 hk294 hs295 hb296
          have hz297 := hk294.size
          have hB298 := hB288.new hk294 (by omega)
          have hS299 := (hS289).new hk294 (by omega)
          refine SR.nil ⟨hS299, _, rfl, ?_⟩
          refine AH.take 9 rfl (by kernel_rfl) trivial (hS299) (fun w' hw' => r_as (v := .bool _) rfl) <| AH.done (by kernel_rfl) ?_
          exact ⟨A283, n284, c285, g270, ⟨rfl, rfl, rfl, rfl, rfl, rfl, rfl, rfl, trivial⟩, hS299, (((hO286).kp hk294 (fun b_ hb e' => by have e'' : b_ = g270 := e'; have := (hO286).base_le hb; omega)).down (by omega)), (hb296), ⟨by omega, (hb296).lt⟩, hd279, hd280, (fun e' => by have := ((hO286).kp hk294 (fun b_ hb e' => by have e'' : b_ = g270 := e'; have := (hO286).base_le hb; omega)).base_le e'; omega), (fun b_ h h' => by have h1 := ((hO286).kp hk294 (fun b_ hb e' => by have e'' : b_ = g270 := e'; have := (hO286).base_le hb; omega)).base_le h; have h2 := (((((((hm73).lo hk197).lo hk209).kp hk217 (fun b_ hb e' => hd214 (by have e'' : b_ = g206 := e'; rw [← e'']; exact hb))).lo hk223).lo hk227).lo hk273).base_le h'; omega), (fun b_ h h' => by have h1 := ((hO286).kp hk294 (fun b_ hb e' => by have e'' : b_ = g270 := e'; have := (hO286).base_le hb; omega)).base_le h; have h2 := ((((((hO201).lo hk209).kp hk217 (fun b_ hb e' => hd215 (by have e'' : b_ = g206 := e'; rw [← e'']; exact hb))).lo hk223).lo hk227).lo hk273).base_le h'; omega), hl290, hl291, hq292⟩
      · refine SR.alloc (l := [.int .i64 0, .slice none 0 0, .int .i64 0, .int .i64 0, .int .i64 0]) tz41 rfl ?_
        intro g306 w307 hg308 hk309 hs310 hb311
        have hz312 := hk309.size
        have hB313 := hB225.lo hk309
        have hS314 := (hk223).lo hk309
        have hd315 : ¬ A45 = some ⟨g306, 0, none⟩ := fun e' => by have := (((((hm73).lo hk197).lo hk209).kp hk217 (fun b_ hb e' => hd214 (by have e'' : b_ = g206 := e'; rw [← e'']; exact hb))).lo hk223).base_le e'; omega
        have hd316 : ¬ A198 = some ⟨g306, 0, none⟩ := fun e' => by have := ((((hO201).lo hk209).kp hk217 (fun b_ hb e' => hd215 (by have e'' : b_ = g206 := e'; rw [← e'']; exact hb))).lo hk223).base_le e'; omega
        refine SR.nil ⟨hS314, _, rfl, ?_⟩
        refine AH.br [2] (by kernel_rfl) rfl ⟨Br.mk' rfl trivial ?_, trivial⟩
        refine SR.call ent20 (c_laws_toScanStep w307 s) rfl ?_
        rintro e w317 ⟨rfl, hk318⟩
        refine ⟨_, rfl, ?_⟩
        have hz319 := hk318.size
        have hB320 := hB313.lo hk318
        have hS321 := (hS314).lo hk318
        refine SR.nil ⟨hS321, _, rfl, ?_⟩
        refine AH.br [3] (by kernel_rfl) rfl ⟨Br.mk' rfl trivial ?_, trivial⟩
        refine SR.call ent21 (c_impl_StepScan w317 x ((((((((hO201).lo hk209).kp hk217 (fun b_ hb e' => hd215 (by have e'' : b_ = g206 := e'; rw [← e'']; exact hb))).lo hk223).lo hk309).lo hk318).rd)) s) rfl ?_
        rintro e w322 ⟨A324, n325, c326, rfl, hO327, hk323⟩
        refine ⟨_, rfl, ?_⟩
        have hz328 := hk323.size
        have hB329 := hB320.lo hk323
        have hS330 := (hS321).lo hk323
        have hl331 := hO327.len
        have hl332 := hO327.rd.bound
        have hq333 := step_lenJ x s
        refine SR.nil ⟨hS330, _, rfl, ?_⟩
        refine AH.take 4 rfl (by kernel_rfl) trivial (hS330) (fun w' hw' => r_mv (v := .tuple (List.toArray _)) rfl) <| AH.take 5 rfl (by kernel_rfl) trivial (hS330) (fun w' hw' => r_ext (v := .agg (List.toArray _)) rfl rfl) <| AH.take 6 rfl (by kernel_rfl) trivial (hS330) (fun w' hw' => r_ext (v := .bool _) rfl rfl) <| AH.br [8] (by kernel_rfl) rfl ⟨Br.mk' rfl trivial ?_, trivial⟩
        refine SR.store (o := 0) (vs := [.int .i64 (((impl_StepScan x s).1).State), .slice A324 n325 c326, .int .i64 (((impl_StepScan x s).1).Next), .int .i64 (((impl_StepScan x s).1).Fails), .int .i64 (((impl_StepScan x s).1).Size)]) agg41.2 rfl rfl rfl rfl (((hb311).lo hk318).lo hk323) (Nat.le_of_ble_eq_true rfl) rfl ?_
        intro w334 hk335 hs336 hb337
        have hz338 := hk335.size
        have hB339 := hB329.new hk335 (by omega)
        have hS340 := (hS330).new hk335 (by omega)
        refine SR.nil ⟨hS340, _, rfl, ?_⟩
        refine AH.take 9 rfl (by kernel_rfl) trivial (hS340) (fun w' hw' => r_as (v := .bool _) rfl) <| AH.done (by kernel_rfl) ?_
        exact ⟨A324, n325, c326, g306, ⟨rfl, rfl, rfl, rfl, rfl, rfl, rfl, rfl, trivial⟩, hS340, (((hO327).kp hk335 (fun b_ hb e' => by have e'' : b_ = g306 := e'; have := (hO327).base_le hb; omega)).down (by omega)), (hb337), ⟨by omega, (hb337).lt⟩, hd315, hd316, (fun e' => by have := ((hO327).kp hk335 (fun b_ hb e' => by have e'' : b_ = g306 := e'; have := (hO327).base_le hb; omega)).base_le e'; omega), (fun b_ h h' => by have h1 := ((hO327).kp hk335 (fun b_ hb e' => by have e'' : b_ = g306 := e'; have := (hO327).base_le hb; omega)).base_le h; have h2 := (((((((hm73).lo hk197).lo hk209).kp hk217 (fun b_ hb e' => hd214 (by have e'' : b_ = g206 := e'; rw [← e'']; exact hb))).lo hk223).lo hk309).lo hk318).base_le h'; omega), (fun b_ h h' => by have h1 := ((hO327).kp hk335 (fun b_ hb e' => by have e'' : b_ = g306 := e'; have := (hO327).base_le hb; omega)).base_le h; have h2 := ((((((hO201).lo hk209).kp hk217 (fun b_ hb e' => hd215 (by have e'' : b_ = g206 := e'; rw [← e'']; exact hb))).lo hk223).lo hk309).lo hk318).base_le h'; omega), hl331, hl332, hq333⟩
    rintro f347 w348 ⟨A233, n234, c235, g243, hat350, hR349, hm262, hm263, hg264, hd265, hd266, hd267, hd268, hd269, hl240, hl241, hq242⟩
    rw [← sets_of_at hat350]
    have hz351 := hR349.size
    have hB352 := hB221.lo hR349
    refine W.seq ?_
    refine W.seq ?_
    refine W.regJS (fun f' w' => At f' [(2, .pointer (some ((⟨g1, 0, none⟩ : Addr)))), (3, .pointer (some ((⟨g9, 0, none⟩ : Addr)))), (4, .bool false), (6, .pointer (some ((⟨g55, 0, none⟩ : Addr)))), (7, .bool ((spec_StepScan x s).2)), (8, .pointer (some ((⟨g206, 0, none⟩ : Addr)))), (9, .pointer (some ((⟨g243, 0, none⟩ : Addr)))), (10, .bool ((impl_StepScan x s).2)), (46, .bool (decide ((¬ (((impl_StepScan x s).1) = ((spec_StepScan x s).1))) ∨ ((!(((impl_StepScan x s).2) == ((spec_StepScan x s).2))) = true))))] ∧ Lo w348 w') ?_ ?_
    · refine SR.q' (r_lda (l := [.int .i64 (((impl_StepScan x s).1).State), .slice A233 n234 c235, .int .i64 (((impl_StepScan x s).1).Next), .int .i64 (((impl_StepScan x s).1).Fails), .int .i64 (((impl_StepScan x s).1).Size)]) agg41 rfl (fun _ _ hu => (hm263).cell hu) rfl) <| SR.q' (r_lda (l := [.int .i64 (((spec_StepScan x s).1).State), .slice A45 n46 c47, .int .i64 (((spec_StepScan x s).1).Next), .int .i64 (((spec_StepScan x s).1).Fails), .int .i64 (((spec_StepScan x s).1).Size)]) agg41 rfl (fun _ _ hu => (((((hm74).lo hk197).lo hk209).kp hk217 (fun e' => by have e'' : g55 = g206 := e'; omega)).lo hR349).cell hu) rfl) <| SR.call ent22 (c_laws_eqScanJob w348 ((impl_StepScan x s).1) (((hm262).rd)) ((spec_StepScan x s).1) (((((((hm73).lo hk197).lo hk209).kp hk217 (fun b_ hb e' => hd214 (by have e'' : b_ = g206 := e'; rw [← e'']; exact hb))).lo hR349).rd))) rfl ?_
      rintro e w353 ⟨rfl, hk354⟩
      refine ⟨_, rfl, ?_⟩
      have hz355 := hk354.size
      have hB356 := hB352.lo hk354
      refine SR.q' (r_not rfl) <| SR.q' (r_mv (v := .bool _) rfl) <| SR.splitN (fun h357 => ?_) (fun h357 => ?_)
      · refine SR.s' rfl <| SR.s' rfl <| SR.s' rfl <| SR.q' (r_pick true rfl (v := .bool true) rfl) <| SR.nil ?_
        exact ⟨_, rfl, ⟨⟨rfl, rfl, rfl, rfl, rfl, rfl, rfl, rfl, (eDT ((jmf h357).1 trivial)), trivial⟩, (hk354)⟩⟩
      · refine SR.g' rfl (r_mv (v := .bool _) rfl) <| SR.g' rfl (r_mv (v := .bool _) rfl) <| SR.g' rfl (r_neb und4 rfl rfl) <| SR.q' (r_pick false rfl (v := .bool _) rfl) <| SR.nil ?_
        exact ⟨_, rfl, ⟨⟨rfl, rfl, rfl, rfl, rfl, rfl, rfl, rfl, (eBD (jmt h357)), trivial⟩, (hk354)⟩⟩
    rintro f358 w359 ⟨hat360, hk361⟩
    rw [← sets_of_at hat360]
    have hz362 := hk361.size
    have hB363 := hB352.lo hk361
    refine W.cond_d rfl (fun h364 => ?_) (fun h364 => ?_)
    · refine W.seq ?_
      refine W.regS (SR.q' (r_as (v := .bool false) rfl) <| SR.nil ?_)
      refine W.ret ?_
      refine ret1 rfl (v := .bool _) rfl ?_
      exact ⟨eR (eB (z_c_laws_FnExactStepScan_365 x nx_Tiles hbdx_Tiles hlex_Tiles s h21 hq22 n30 n46 hl36 hl37 hl52 hl53 hq54 n199 hl204 hl205 n234 hl240 hl241 hq242 h364)), hB363⟩
    · have hq366 : ((impl_StepScan x s).1) = ((spec_StepScan x s).1) := (Classical.not_not.1 (not_or.1 h364).1)
      have hq367 : ¬ ((!(((impl_StepScan x s).2) == ((spec_StepScan x s).2))) = true) := (not_or.1 h364).2
      refine W.skip ?_
      refine W.seq ?_
      refine W.seq ?_
      refine W.regA (Lo w359) (fun f' w' => ∃ (A374 : Option Addr), ∃ (n375 : Nat), ∃ (c376 : Nat), At f' [(2, .pointer (some ((⟨g1, 0, none⟩ : Addr)))), (3, .pointer (some ((⟨g9, 0, none⟩ : Addr)))), (4, .bool false), (6, .pointer (some ((⟨g55, 0, none⟩ : Addr)))), (7, .bool ((spec_StepScan x s).2)), (8, .pointer (some ((⟨g206, 0, none⟩ : Addr)))), (9, .pointer (some ((⟨g243, 0, none⟩ : Addr)))), (10, .bool ((impl_StepScan x s).2)), (51, .bool (!decide (x = x)))] ∧ (Lo w359 w') ∧ (n375 = (x.Tiles).length) ∧ ((n375 : Int) ≤ 9223372036854775807)) mo ?_ ?_
      · intro w368 hk369
        have hz370 := hk369.size
        have hB371 := hB363.lo hk369
        refine AH.take 0 rfl (by kernel_rfl) trivial (hk369) (fun w' hw' => r_lda (l := [.int .i64 x.State, .slice A198 n199 c200, .int .i64 x.Next, .int .i64 x.Fails, .int .i64 x.Size]) agg41 rfl (fun _ _ hu => ((((hb219).lo hR349).lo hk361).lo hw').cell hu) rfl) <| AH.take 1 rfl (by kernel_rfl) trivial (hk369) (fun w' hw' => r_lda (l := [.int .i64 x.State, .slice Ax_Tiles nx_Tiles cx_Tiles, .int .i64 x.Next, .int .i64 x.Fails, .int .i64 x.Size]) agg38 rfl (fun _ _ hu => ((((((((((hb6).lo hk12).lo hk18).lo hR192).lo hk197).lo hk209).kp hk217 (fun e' => by have e'' : g1 = g206 := e'; omega)).lo hR349).lo hk361).lo hw').cell hu) rfl) <| AH.br [2] (by kernel_rfl) rfl ⟨Br.mk' rfl trivial ?_, trivial⟩
        refine SR.call ent19 (c_laws_toScanJob w368 x ((((((((((((hx_Tiles).lo hk4).lo hk12).lo hk18).lo hR192).lo hk197).lo hk209).kp hk217 (fun b_ hb e' => by have e'' : b_ = g206 := e'; omega)).lo hR349).lo hk361).lo hk369)) (by omega)) rfl ?_
        rintro e w372 ⟨A374, n375, c376, rfl, hO377, hk373⟩
        refine ⟨_, rfl, ?_⟩
        have hz378 := hk373.size
        have hB379 := hB371.lo hk373
        have hS380 := (hk369).lo hk373
        have hl381 := hO377.len
        have hl382 := hO377.rd.bound
        refine SR.nil ⟨hS380, _, rfl, ?_⟩
        refine AH.br [3] (by kernel_rfl) rfl ⟨Br.mk' rfl trivial ?_, trivial⟩
        refine SR.call ent22 (c_laws_eqScanJob w372 x (((((((((hO201).lo hk209).kp hk217 (fun b_ hb e' => hd215 (by have e'' : b_ = g206 := e'; rw [← e'']; exact hb))).lo hR349).lo hk361).lo hk369).lo hk373).rd)) x (((hO377).rd))) rfl ?_
        rintro e w383 ⟨rfl, hk384⟩
        refine ⟨_, rfl, ?_⟩
        have hz385 := hk384.size
        have hB386 := hB379.lo hk384
        have hS387 := (hS380).lo hk384
        refine SR.nil ⟨hS387, _, rfl, ?_⟩
        refine AH.take 4 rfl (by kernel_rfl) trivial (hS387) (fun w' hw' => r_not rfl) <| AH.done (by kernel_rfl) ?_
        exact ⟨A374, n375, c376, ⟨rfl, rfl, rfl, rfl, rfl, rfl, rfl, rfl, rfl, trivial⟩, hS387, hl381, hl382⟩
      rintro f388 w389 ⟨A374, n375, c376, hat391, hR390, hl381, hl382⟩
      rw [← sets_of_at hat391]
      have hz392 := hR390.size
      have hB393 := hB363.lo hR390
      refine W.cond_n rfl (fun h394 => ?_) (fun h394 => ?_)
      · refine W.seq ?_
        refine W.regS (SR.q' (r_as (v := .bool false) rfl) <| SR.nil ?_)
        refine W.ret ?_
        refine ret1 rfl (v := .bool _) rfl ?_
        exact ⟨eR (eB (z_c_laws_FnExactStepScan_395 x nx_Tiles hbdx_Tiles hlex_Tiles s h21 hq22 n30 n46 hl36 hl37 hl52 hl53 hq54 n199 hl204 hl205 n234 hl240 hl241 hq242 h364 hq366 hq367 n375 hl381 hl382 h394)), hB393⟩
      · refine W.skip ?_
        refine W.seq ?_
        refine W.regS (SR.q' (r_as (v := .int .i64 1) rfl) <| SR.nil ?_)
        refine W.seq ?_
        refine W.regS (SR.q' (r_lda (l := [.int .i64 x.State, .slice A198 n199 c200, .int .i64 x.Next, .int .i64 x.Fails, .int .i64 x.Size]) agg41 rfl (fun _ _ hu => ((((hb219).lo hR349).lo hk361).lo hR390).cell hu) rfl) <| SR.q' (r_mv (v := .int .i64 _) rfl) <| SR.call ent23 (c_laws_markScanJob w389 x ((((((hO201).lo hk209).kp hk217 (fun b_ hb e' => hd215 (by have e'' : b_ = g206 := e'; rw [← e'']; exact hb))).lo hR349).lo hk361).lo hR390) 1 (by omega) (by omega) (by omega)) rfl ?_)
        rintro e w396 ⟨rfl, hO398, hk397⟩
        refine ⟨_, rfl, ?_⟩
        have hz399 := hk397.size
        have hB400 := hB393.step hk397 (fun i_ hi_ e' => by have := (((((((hO201).lo hk209).kp hk217 (fun b_ hb e' => hd215 (by have e'' : b_ = g206 := e'; rw [← e'']; exact hb))).lo hR349).lo hk361).lo hR390)).base_le e'; first | omega | (exfalso; omega) | exact e' | exact .inl e' | exact .inr e')
        refine SR.q' (r_as (v := .int .i64 _) rfl) <| SR.nil ?_
        refine W.seq ?_
        refine W.seq ?_
        refine W.regJS (fun f' w' => At f' [(2, .pointer (some ((⟨g1, 0, none⟩ : Addr)))), (3, .pointer (some ((⟨g9, 0, none⟩ : Addr)))), (4, .bool false), (6, .pointer (some ((⟨g55, 0, none⟩ : Addr)))), (7, .bool ((spec_StepScan x s).2)), (9, .pointer (some ((⟨g243, 0, none⟩ : Addr)))), (67, .bool (decide (((1 + 1 * (x.Tiles.length : Int)) < 0) ∨ ((¬ (((impl_StepScan x s).1) = ((spec_StepScan x s).1))) ∨ ((!(((impl_StepScan x s).2) == ((spec_StepScan x s).2))) = true)))))] ∧ Lo w396 w') ?_ ?_
        · refine SR.q' (r_mv (v := .int .i64 _) rfl) <| SR.q' (r_lt rfl rfl) <| SR.q' (r_mv (v := .bool _) rfl) <| SR.splitD (fun h401 => ?_) (fun h401 => ?_)
          · refine SR.s' rfl <| SR.s' rfl <| SR.s' rfl <| SR.s' rfl <| SR.q' (r_pick true rfl (v := .bool true) rfl) <| SR.q' (r_mv (v := .bool _) rfl) <| SR.s' rfl <| SR.s' rfl <| SR.s' rfl <| SR.q' (r_pick true rfl (v := .bool true) rfl) <| SR.nil ?_
            exact ⟨_, rfl, ⟨⟨rfl, rfl, rfl, rfl, rfl, rfl, (eDT ((jot h401).1 trivial)), trivial⟩, (Lo.refl _)⟩⟩
          · refine SR.g' rfl (r_lda (l := [.int .i64 (((impl_StepScan x s).1).State), .slice A233 n234 c235, .int .i64 (((impl_StepScan x s).1).Next), .int .i64 (((impl_StepScan x s).1).Fails), .int .i64 (((impl_StepScan x s).1).Size)]) agg41 rfl (fun _ _ hu => ((((hm263).lo hk361).lo hR390).kp hk397 (fun e' => hd266 e')).cell hu) rfl) <| SR.g' rfl (r_lda (l := [.int .i64 (((spec_StepScan x s).1).State), .slice A45 n46 c47, .int .i64 (((spec_StepScan x s).1).Next), .int .i64 (((spec_StepScan x s).1).Fails), .int .i64 (((spec_StepScan x s).1).Size)]) agg41 rfl (fun _ _ hu => ((((((((hm74).lo hk197).lo hk209).kp hk217 (fun e' => by have e'' : g55 = g206 := e'; omega)).lo hR349).lo hk361).lo hR390).kp hk397 (fun e' => by have := (((((((hO201).lo hk209).kp hk217 (fun b_ hb e' => hd215 (by have e'' : b_ = g206 := e'; rw [← e'']; exact hb))).lo hR349).lo hk361).lo hR390)).base_le e'; omega)).cell hu) rfl) <| SR.gcall rfl ent22 (c_laws_eqScanJob w396 ((impl_StepScan x s).1) ((((((hm262).lo hk361).lo hR390).kp hk397 (fun b_ hb e' => hd269 b_ hb e')).rd)) ((spec_StepScan x s).1) ((((((((((hm73).lo hk197).lo hk209).kp hk217 (fun b_ hb e' => hd214 (by have e'' : b_ = g206 := e'; rw [← e'']; exact hb))).lo hR349).lo hk361).lo hR390).kp hk397 (fun b_ hb e' => by have h1 := (((((((hO201).lo hk209).kp hk217 (fun b_ hb e' => hd215 (by have e'' : b_ = g206 := e'; rw [← e'']; exact hb))).lo hR349).lo hk361).lo hR390)).base_le e'; have h2 := (((((((hm73).lo hk197).lo hk209).kp hk217 (fun b_ hb e' => hd214 (by have e'' : b_ = g206 := e'; rw [← e'']; exact hb))).lo hR349).lo hk361).lo hR390).base_le hb; have h3 := (hm73).base_le hb; omega)).rd))) rfl ?_
            rintro e w402 ⟨rfl, hk403⟩
            refine ⟨_, rfl, ?_⟩
            have hz404 := hk403.size
            have hB405 := hB400.lo hk403
            refine SR.g' rfl (r_not rfl) <| SR.q' (r_pick false rfl (v := .bool _) rfl) <| SR.q' (r_mv (v := .bool _) rfl) <| SR.splitN (fun h406 => ?_) (fun h406 => ?_)
            · refine SR.s' rfl <| SR.s' rfl <| SR.s' rfl <| SR.q' (r_pick true rfl (v := .bool true) rfl) <| SR.nil ?_
              exact ⟨_, rfl, ⟨⟨rfl, rfl, rfl, rfl, rfl, rfl, (eDT (((jmf h406).trans (jof h401)).1 trivial)), trivial⟩, (hk403)⟩⟩
            · refine SR.g' rfl (r_mv (v := .bool _) rfl) <| SR.g' rfl (r_mv (v := .bool _) rfl) <| SR.g' rfl (r_neb und4 rfl rfl) <| SR.q' (r_pick false rfl (v := .bool _) rfl) <| SR.nil ?_
              exact ⟨_, rfl, ⟨⟨rfl, rfl, rfl, rfl, rfl, rfl, (eBD ((jmt h406).trans (jof h401))), trivial⟩, (hk403)⟩⟩
        rintro f407 w408 ⟨hat409, hk410⟩
        rw [← sets_of_at hat409]
        have hz411 := hk410.size
        have hB412 := hB400.lo hk410
        refine W.cond_d rfl (fun h413 => ?_) (fun h413 => ?_)
        · refine W.seq ?_
          refine W.regS (SR.q' (r_as (v := .bool false) rfl) <| SR.nil ?_)
          refine W.ret ?_
          refine ret1 rfl (v := .bool _) rfl ?_
          exact ⟨eR (eB (z_c_laws_FnExactStepScan_414 x nx_Tiles hbdx_Tiles hlex_Tiles s h21 hq22 n30 n46 hl36 hl37 hl52 hl53 hq54 n199 hl204 hl205 n234 hl240 hl241 hq242 h364 hq366 hq367 n375 hl381 hl382 h394 h413)), hB412⟩
        · have hq415 : ¬ ((1 + 1 * (x.Tiles.length : Int)) < 0) := (not_or.1 h413).1
          have hq416 : ((impl_StepScan x s).1) = ((spec_StepScan x s).1) := (Classical.not_not.1 (not_or.1 (not_or.1 h413).2).1)
          have hq417 : ¬ ((!(((impl_StepScan x s).2) == ((spec_StepScan x s).2))) = true) := (not_or.1 (not_or.1 h413).2).2
          refine W.skip ?_
          refine W.seq ?_
          refine W.regS (SR.q' (r_as (v := .int .i64 1) rfl) <| SR.nil ?_)
          refine W.seq ?_
          refine W.regS (SR.q' (r_lda (l := [.int .i64 (((impl_StepScan x s).1).State), .slice A233 n234 c235, .int .i64 (((impl_StepScan x s).1).Next), .int .i64 (((impl_StepScan x s).1).Fails), .int .i64 (((impl_StepScan x s).1).Size)]) agg41 rfl (fun _ _ hu => (((((hm263).lo hk361).lo hR390).kp hk397 (fun e' => hd266 e')).lo hk410).cell hu) rfl) <| SR.q' (r_mv (v := .int .i64 _) rfl) <| SR.call ent23 (c_laws_markScanJob w408 ((impl_StepScan x s).1) (((((hm262).lo hk361).lo hR390).kp hk397 (fun b_ hb e' => hd269 b_ hb e')).lo hk410) 1 (by omega) (by omega) (by omega)) rfl ?_)
          rintro e w418 ⟨rfl, hO420, hk419⟩
          refine ⟨_, rfl, ?_⟩
          have hz421 := hk419.size
          have hB422 := hB412.step hk419 (fun i_ hi_ e' => by have := ((((((hm262).lo hk361).lo hR390).kp hk397 (fun b_ hb e' => hd269 b_ hb e')).lo hk410)).base_le e'; first | omega | (exfalso; omega) | exact e' | exact .inl e' | exact .inr e')
          refine SR.q' (r_as (v := .int .i64 _) rfl) <| SR.nil ?_
          refine W.seq ?_
          refine W.regS (SR.q' (r_as (v := .int .i64 1) rfl) <| SR.nil ?_)
          refine W.seq ?_
          refine W.regS (SR.q' (r_lda (l := [.int .i64 (((impl_StepScan x s).1).State), .slice A233 n234 c235, .int .i64 (((impl_StepScan x s).1).Next), .int .i64 (((impl_StepScan x s).1).Fails), .int .i64 (((impl_StepScan x s).1).Size)]) agg41 rfl (fun _ _ hu => ((((((hm263).lo hk361).lo hR390).kp hk397 (fun e' => hd266 e')).lo hk410).kp hk419 (fun e' => hd267 e')).cell hu) rfl) <| SR.q' (r_mv (v := .int .i64 _) rfl) <| SR.call ent24 (c_laws_heldScanJob w418 (⟨((impl_StepScan x s).1).State, mkL mkInt 1 ((impl_StepScan x s).1).Tiles.length 1, ((impl_StepScan x s).1).Next, ((impl_StepScan x s).1).Fails, ((impl_StepScan x s).1).Size⟩ : ScanJob) (((hO420).rd)) 1 (((impl_StepScan x s).1).Tiles.length) (by omega) (by omega) (by omega) (by rfl) (by omega)) rfl ?_)
          rintro e w423 ⟨rfl, hk424⟩
          refine ⟨_, rfl, ?_⟩
          have hz425 := hk424.size
          have hB426 := hB422.lo hk424
          refine SR.q' (r_as (v := .int .i64 _) rfl) <| SR.nil ?_
          refine W.seq ?_
          refine W.seq ?_
          refine W.regS (SR.q' (r_mv (v := .int .i64 _) rfl) <| SR.q' (r_lt rfl rfl) <| SR.nil ?_)
          refine W.cond_d rfl (fun h427 => ?_) (fun h427 => ?_)
          · refine W.seq ?_
            refine W.regS (SR.q' (r_as (v := .bool false) rfl) <| SR.nil ?_)
            refine W.ret ?_
            refine ret1 rfl (v := .bool _) rfl ?_
            exact ⟨eR (eB (z_c_laws_FnExactStepScan_428 x nx_Tiles hbdx_Tiles hlex_Tiles s h21 hq22 n30 n46 hl36 hl37 hl52 hl53 hq54 n199 hl204 hl205 n234 hl240 hl241 hq242 h364 hq366 hq367 n375 hl381 hl382 h394 h413 hq415 hq416 hq417 h427)), hB426⟩
          · refine W.skip ?_
            refine W.seq ?_
            refine W.seq ?_
            refine W.regS (SR.q' (r_mv (v := .int .i64 _) rfl) <| SR.q' (r_mv (v := .int .i64 _) rfl) <| SR.q' (r_ne rfl rfl) <| SR.nil ?_)
            refine W.cond_n rfl (fun h429 => ?_) (fun h429 => ?_)
            · refine W.seq ?_
              refine W.regS (SR.q' (r_as (v := .bool false) rfl) <| SR.nil ?_)
              refine W.ret ?_
              refine ret1 rfl (v := .bool _) rfl ?_
              exact ⟨eR (eB (z_c_laws_FnExactStepScan_430 x nx_Tiles hbdx_Tiles hlex_Tiles s h21 hq22 n30 n46 hl36 hl37 hl52 hl53 hq54 n199 hl204 hl205 n234 hl240 hl241 hq242 h364 hq366 hq367 n375 hl381 hl382 h394 h413 hq415 hq416 hq417 h427 h429)), hB426⟩
            · refine W.skip ?_
              refine W.seq ?_
              refine W.regA (Lo w423) (fun f' w' => ∃ (A437 : Option Addr), ∃ (n438 : Nat), ∃ (c439 : Nat), ∃ (A453 : Option Addr), ∃ (n454 : Nat), ∃ (c455 : Nat), ∃ (g463 : Nat), At f' [(4, .bool false), (6, .pointer (some ((⟨g55, 0, none⟩ : Addr)))), (7, .bool ((spec_StepScan x s).2)), (9, .pointer (some ((⟨g243, 0, none⟩ : Addr)))), (12, .int .i64 (1 + 1 * (((impl_StepScan x s).1).Tiles.length : Int))), (13, .int .i64 (1 + 1 * ((((impl_StepScan x s).1).Tiles.length : Nat) : Int))), (14, .pointer (some ((⟨g463, 0, none⟩ : Addr)))), (15, .bool ((impl_StepScan x s).2))] ∧ (Lo w423 w') ∧ (SlO w' w423.heap.size encI 1 3 A453 n454 c455 (((impl_StepScan x s).1).Tiles)) ∧ (Blk w' g463 41 [.int .i64 (((impl_StepScan x s).1).State), .slice A453 n454 c455, .int .i64 (((impl_StepScan x s).1).Next), .int .i64 (((impl_StepScan x s).1).Fails), .int .i64 (((impl_StepScan x s).1).Size)]) ∧ (w423.heap.size ≤ g463 ∧ g463 < w'.heap.size) ∧ (¬ A45 = some ⟨g463, 0, none⟩) ∧ (¬ A198 = some ⟨g463, 0, none⟩) ∧ (¬ A233 = some ⟨g463, 0, none⟩) ∧ (¬ A453 = some ⟨g463, 0, none⟩) ∧ (∀ b_, A453 = some ⟨b_, 0, none⟩ → ¬ A45 = some ⟨b_, 0, none⟩) ∧ (∀ b_, A453 = some ⟨b_, 0, none⟩ → ¬ A198 = some ⟨b_, 0, none⟩) ∧ (∀ b_, A453 = some ⟨b_, 0, none⟩ → ¬ A233 = some ⟨b_, 0, none⟩) ∧ (n438 = (x.Tiles).length) ∧ ((n438 : Int) ≤ 9223372036854775807) ∧ (n454 = (((impl_StepScan x s).1).Tiles).length) ∧ ((n454 : Int) ≤ 9223372036854775807) ∧ ((((impl_StepScan x s).1).Tiles).length ≤ 8)) mo ?_ ?_
              · intro w431 hk432
                have hz433 := hk432.size
                have hB434 := hB426.lo hk432
                refine AH.take 0 rfl (by kernel_rfl) trivial (hk432) (fun w' hw' => r_lda (l := [.int .i64 x.State, .slice Ax_Tiles nx_Tiles cx_Tiles, .int .i64 x.Next, .int .i64 x.Fails, .int .i64 x.Size]) agg38 rfl (fun _ _ hu => (((((((((((((((hb6).lo hk12).lo hk18).lo hR192).lo hk197).lo hk209).kp hk217 (fun e' => by have e'' : g1 = g206 := e'; omega)).lo hR349).lo hk361).lo hR390).kp hk397 (fun e' => by have := (((((((hO201).lo hk209).kp hk217 (fun b_ hb e' => hd215 (by have e'' : b_ = g206 := e'; rw [← e'']; exact hb))).lo hR349).lo hk361).lo hR390)).base_le e'; omega)).lo hk410).kp hk419 (fun e' => by have := ((((((hm262).lo hk361).lo hR390).kp hk397 (fun b_ hb e' => hd269 b_ hb e')).lo hk410)).base_le e'; omega)).lo hk424).lo hw').cell hu) rfl) <| AH.take 2 rfl (by kernel_rfl) trivial (hk432) (fun w' hw' => r_lda (l := [.int .i64 s.Kind, .int .i64 s.Value]) agg39 rfl (fun _ _ hu => ((((((((((((((hb14).lo hk18).lo hR192).lo hk197).lo hk209).kp hk217 (fun e' => by have e'' : g9 = g206 := e'; omega)).lo hR349).lo hk361).lo hR390).kp hk397 (fun e' => by have := (((((((hO201).lo hk209).kp hk217 (fun b_ hb e' => hd215 (by have e'' : b_ = g206 := e'; rw [← e'']; exact hb))).lo hR349).lo hk361).lo hR390)).base_le e'; omega)).lo hk410).kp hk419 (fun e' => by have := ((((((hm262).lo hk361).lo hR390).kp hk397 (fun b_ hb e' => hd269 b_ hb e')).lo hk410)).base_le e'; omega)).lo hk424).lo hw').cell hu) rfl) <| AH.br [1, 8] (by kernel_rfl) rfl ⟨Br.mk' rfl trivial ?_, Br.mk' rfl trivial ?_, trivial⟩
                · refine SR.call ent19 (c_laws_toScanJob w431 x (((((((((((((((((hx_Tiles).lo hk4).lo hk12).lo hk18).lo hR192).lo hk197).lo hk209).kp hk217 (fun b_ hb e' => by have e'' : b_ = g206 := e'; omega)).lo hR349).lo hk361).lo hR390).kp hk397 (fun b_ hb e' => by have := (((((((hO201).lo hk209).kp hk217 (fun b_ hb e' => hd215 (by have e'' : b_ = g206 := e'; rw [← e'']; exact hb))).lo hR349).lo hk361).lo hR390)).base_le e'; omega)).lo hk410).kp hk419 (fun b_ hb e' => by have := ((((((hm262).lo hk361).lo hR390).kp hk397 (fun b_ hb e' => hd269 b_ hb e')).lo hk410)).base_le e'; omega)).lo hk424).lo hk432)) (by omega)) rfl ?_
                  rintro e w435 ⟨A437, n438, c439, rfl, hO440, hk436⟩
                  refine ⟨_, rfl, ?_⟩
                  have hz441 := hk436.size
                  have hB442 := hB434.lo hk436
                  have hS443 := (hk432).lo hk436
                  have hl444 := hO440.len
                  have hl445 := hO440.rd.bound
                  refine SR.nil ⟨hS443, _, rfl, ?_⟩
                  refine AH.br [3, 8] (by kernel_rfl) rfl ⟨Br.mk' rfl trivial ?_, Br.mk' rfl trivial ?_, trivial⟩
                  · refine SR.call ent20 (c_laws_toScanStep w435 s) rfl ?_
                    rintro e w446 ⟨rfl, hk447⟩
                    refine ⟨_, rfl, ?_⟩
                    have hz448 := hk447.size
                    have hB449 := hB442.lo hk447
                    have hS450 := (hS443).lo hk447
                    refine SR.nil ⟨hS450, _, rfl, ?_⟩
                    refine AH.br [4, 8] (by kernel_rfl) rfl ⟨Br.mk' rfl trivial ?_, Br.mk' rfl trivial ?_, trivial⟩
                    · refine SR.call ent21 (c_impl_StepScan w446 x ((((hO440).lo hk447).rd)) s) rfl ?_
                      rintro e w451 ⟨A453, n454, c455, rfl, hO456, hk452⟩
                      refine ⟨_, rfl, ?_⟩
                      have hz457 := hk452.size
                      have hB458 := hB449.lo hk452
                      have hS459 := (hS450).lo hk452
                      have hl460 := hO456.len
                      have hl461 := hO456.rd.bound
                      have hq462 := step_lenJ x s
                      refine SR.nil ⟨hS459, _, rfl, ?_⟩
                      refine AH.take 5 rfl (by kernel_rfl) trivial (hS459) (fun w' hw' => r_mv (v := .tuple (List.toArray _)) rfl) <| AH.take 6 rfl (by kernel_rfl) trivial (hS459) (fun w' hw' => r_ext (v := .agg (List.toArray _)) rfl rfl) <| AH.take 7 rfl (by kernel_rfl) trivial (hS459) (fun w' hw' => r_ext (v := .bool _) rfl rfl) <| AH.br [8] (by kernel_rfl) rfl ⟨Br.mk' rfl trivial ?_, trivial⟩
                      refine SR.alloc (l := [.int .i64 0, .slice none 0 0, .int .i64 0, .int .i64 0, .int .i64 0]) tz41 rfl ?_
                      intro g463 w464 hg465 hk466 hs467 hb468
                      have hz469 := hk466.size
                      have hB470 := hB458.lo hk466
                      have hS471 := (hS459).lo hk466
                      have hd472 : ¬ A45 = some ⟨g463, 0, none⟩ := fun e' => by have := (((((((((((((((hm73).lo hk197).lo hk209).kp hk217 (fun b_ hb e' => hd214 (by have e'' : b_ = g206 := e'; rw [← e'']; exact hb))).lo hR349).lo hk361).lo hR390).kp hk397 (fun b_ hb e' => by have h1 := (((((((hO201).lo hk209).kp hk217 (fun b_ hb e' => hd215 (by have e'' : b_ = g206 := e'; rw [← e'']; exact hb))).lo hR349).lo hk361).lo hR390)).base_le e'; have h2 := (((((((hm73).lo hk197).lo hk209).kp hk217 (fun b_ hb e' => hd214 (by have e'' : b_ = g206 := e'; rw [← e'']; exact hb))).lo hR349).lo hk361).lo hR390).base_le hb; have h3 := (hm73).base_le hb; omega)).lo hk410).kp hk419 (fun b_ hb e' => hd268 b_ e' hb)).lo hk424).lo hk432).lo hk436).lo hk447).lo hk452).base_le e'; omega
                      have hd473 : ¬ A198 = some ⟨g463, 0, none⟩ := fun e' => by have := ((((((((hO398).lo hk410).kp hk419 (fun b_ hb e' => hd269 b_ e' hb)).lo hk424).lo hk432).lo hk436).lo hk447).lo hk452).base_le e'; omega
                      have hd474 : ¬ A233 = some ⟨g463, 0, none⟩ := fun e' => by have := ((((((hO420).lo hk424).lo hk432).lo hk436).lo hk447).lo hk452).base_le e'; omega
                      have hd475 : ¬ A437 = some ⟨g463, 0, none⟩ := fun e' => by have := (((hO440).lo hk447).lo hk452).base_le e'; omega
                      have hd476 : ¬ A453 = some ⟨g463, 0, none⟩ := fun e' => by have := (hO456).base_le e'; omega
                      refine SR.nil ⟨hS471, _, rfl, ?_⟩
                      refine AH.br [9] (by kernel_rfl) rfl ⟨Br.mk' rfl trivial ?_, trivial⟩
                      refine SR.store (o := 0) (vs := [.int .i64 (((impl_StepScan x s).1).State), .slice A453 n454 c455, .int .i64 (((impl_StepScan x s).1).Next), .int .i64 (((impl_StepScan x s).1).Fails), .int .i64 (((impl_StepScan x s).1).Size)]) agg41.2 rfl rfl rfl rfl (hb468) (Nat.le_of_ble_eq_true rfl) rfl ?_
                      intro w477 hk478 hs479 hb480
                      have hz481 := hk478.size
                      have hB482 := hB470.new hk478 (by omega)
                      have hS483 := (hS471).new hk478 (by omega)
                      refine SR.nil ⟨hS483, _, rfl, ?_⟩
                      refine AH.take 10 rfl (by kernel_rfl) trivial (hS483) (fun w' hw' => r_as (v := .bool _) rfl) <| AH.done (by kernel_rfl) ?_
                      exact ⟨A437, n438, c439, A453, n454, c455, g463, ⟨rfl, rfl, rfl, rfl, rfl, rfl, rfl, rfl, trivial⟩, hS483, ((((hO456).lo hk466).kp hk478 (fun b_ hb e' => hd476 (by have e'' : b_ = g463 := e'; rw [← e'']; exact hb))).down (by omega)), (hb480), ⟨by omega, (hb480).lt⟩, hd472, hd473, hd474, hd476, (fun b_ h h' => by have h1 := (((hO456).lo hk466).kp hk478 (fun b_ hb e' => hd476 (by have e'' : b_ = g463 := e'; rw [← e'']; exact hb))).base_le h; have h2 := ((((((((((((((hm73).lo hk197).lo hk209).kp hk217 (fun b_ hb e' => hd214 (by have e'' : b_ = g206 := e'; rw [← e'']; exact hb))).lo hR349).lo hk361).lo hR390).kp hk397 (fun b_ hb e' => by have h1 := (((((((hO201).lo hk209).kp hk217 (fun b_ hb e' => hd215 (by have e'' : b_ = g206 := e'; rw [← e'']; exact hb))).lo hR349).lo hk361).lo hR390)).base_le e'; have h2 := (((((((hm73).lo hk197).lo hk209).kp hk217 (fun b_ hb e' => hd214 (by have e'' : b_ = g206 := e'; rw [← e'']; exact hb))).lo hR349).lo hk361).lo hR390).base_le hb; have h3 := (hm73).base_le hb; omega)).lo hk410).kp hk419 (fun b_ hb e' => hd268 b_ e' hb)).lo hk424).lo hk432).lo hk436).lo hk447).base_le h'; omega), (fun b_ h h' => by have h1 := (((hO456).lo hk466).kp hk478 (fun b_ hb e' => hd476 (by have e'' : b_ = g463 := e'; rw [← e'']; exact hb))).base_le h; have h2 := (((((((hO398).lo hk410).kp hk419 (fun b_ hb e' => hd269 b_ e' hb)).lo hk424).lo hk432).lo hk436).lo hk447).base_le h'; omega), (fun b_ h h' => by have h1 := (((hO456).lo hk466).kp hk478 (fun b_ hb e' => hd476 (by have e'' : b_ = g463 := e'; rw [← e'']; exact hb))).base_le h; have h2 := (((((hO420).lo hk424).lo hk432).lo hk436).lo hk447).base_le h'; omega), hl444, hl445, hl460, hl461, hq462⟩
                    · refine SR.alloc (l := [.int .i64 0, .slice none 0 0, .int .i64 0, .int .i64 0, .int .i64 0]) tz41 rfl ?_
                      intro g494 w495 hg496 hk497 hs498 hb499
                      have hz500 := hk497.size
                      have hB501 := hB449.lo hk497
                      have hS502 := (hS450).lo hk497
                      have hd503 : ¬ A45 = some ⟨g494, 0, none⟩ := fun e' => by have := ((((((((((((((hm73).lo hk197).lo hk209).kp hk217 (fun b_ hb e' => hd214 (by have e'' : b_ = g206 := e'; rw [← e'']; exact hb))).lo hR349).lo hk361).lo hR390).kp hk397 (fun b_ hb e' => by have h1 := (((((((hO201).lo hk209).kp hk217 (fun b_ hb e' => hd215 (by have e'' : b_ = g206 := e'; rw [← e'']; exact hb))).lo hR349).lo hk361).lo hR390)).base_le e'; have h2 := (((((((hm73).lo hk197).lo hk209).kp hk217 (fun b_ hb e' => hd214 (by have e'' : b_ = g206 := e'; rw [← e'']; exact hb))).lo hR349).lo hk361).lo hR390).base_le hb; have h3 := (hm73).base_le hb; omega)).lo hk410).kp hk419 (fun b_ hb e' => hd268 b_ e' hb)).lo hk424).lo hk432).lo hk436).lo hk447).base_le e'; omega
                      have hd504 : ¬ A198 = some ⟨g494, 0, none⟩ := fun e' => by have := (((((((hO398).lo hk410).kp hk419 (fun b_ hb e' => hd269 b_ e' hb)).lo hk424).lo hk432).lo hk436).lo hk447).base_le e'; omega
                      have hd505 : ¬ A233 = some ⟨g494, 0, none⟩ := fun e' => by have := (((((hO420).lo hk424).lo hk432).lo hk436).lo hk447).base_le e'; omega
                      have hd506 : ¬ A437 = some ⟨g494, 0, none⟩ := fun e' => by have := ((hO440).lo hk447).base_le e'; omega
                      refine SR.nil ⟨hS502, _, rfl, ?_⟩
                      refine AH.br [4] (by kernel_rfl) rfl ⟨Br.mk' rfl trivial ?_, trivial⟩
                      refine SR.call ent21 (c_impl_StepScan w495 x (((((hO440).lo hk447).lo hk497).rd)) s) rfl ?_
                      rintro e w507 ⟨A509, n510, c511, rfl, hO512, hk508⟩
                      refine ⟨_, rfl, ?_⟩
                      have hz513 := hk508.size
                      have hB514 := hB501.lo hk508
                      have hS515 := (hS502).lo hk508
                      have hl516 := hO512.len
                      have hl517 := hO512.rd.bound
                      have hq518 := step_lenJ x s
                      refine SR.nil ⟨hS515, _, rfl, ?_⟩
                      refine AH.take 5 rfl (by kernel_rfl) trivial (hS515) (fun w' hw' => r_mv (v := .tuple (List.toArray _)) rfl) <| AH.take 6 rfl (by kernel_rfl) trivial (hS515) (fun w' hw' => r_ext (v := .agg (List.toArray _)) rfl rfl) <| AH.take 7 rfl (by kernel_rfl) trivial (hS515) (fun w' hw' => r_ext (v := .bool _) rfl rfl) <| AH.br [9] (by kernel_rfl) rfl ⟨Br.mk' rfl trivial ?_, trivial⟩
                      refine SR.store (o := 0) (vs := [.int .i64 (((impl_StepScan x s).1).State), .slice A509 n510 c511, .int .i64 (((impl_StepScan x s).1).Next), .int .i64 (((impl_StepScan x s).1).Fails), .int .i64 (((impl_StepScan x s).1).Size)]) agg41.2 rfl rfl rfl rfl ((hb499).lo hk508) (Nat.le_of_ble_eq_true rfl) rfl ?_
                      intro w519 hk520 hs521 hb522
                      have hz523 := hk520.size
                      have hB524 := hB514.new hk520 (by omega)
                      have hS525 := (hS515).new hk520 (by omega)
                      refine SR.nil ⟨hS525, _, rfl, ?_⟩
                      refine AH.take 10 rfl (by kernel_rfl) trivial (hS525) (fun w' hw' => r_as (v := .bool _) rfl) <| AH.done (by kernel_rfl) ?_
                      exact ⟨A437, n438, c439, A509, n510, c511, g494, ⟨rfl, rfl, rfl, rfl, rfl, rfl, rfl, rfl, trivial⟩, hS525, (((hO512).kp hk520 (fun b_ hb e' => by have e'' : b_ = g494 := e'; have := (hO512).base_le hb; omega)).down (by omega)), (hb522), ⟨by omega, (hb522).lt⟩, hd503, hd504, hd505, (fun e' => by have := ((hO512).kp hk520 (fun b_ hb e' => by have e'' : b_ = g494 := e'; have := (hO512).base_le hb; omega)).base_le e'; omega), (fun b_ h h' => by have h1 := ((hO512).kp hk520 (fun b_ hb e' => by have e'' : b_ = g494 := e'; have := (hO512).base_le hb; omega)).base_le h; have h2 := (((((((((((((((hm73).lo hk197).lo hk209).kp hk217 (fun b_ hb e' => hd214 (by have e'' : b_ = g206 := e'; rw [← e'']; exact hb))).lo hR349).lo hk361).lo hR390).kp hk397 (fun b_ hb e' => by have h1 := (((((((hO201).lo hk209).kp hk217 (fun b_ hb e' => hd215 (by have e'' : b_ = g206 := e'; rw [← e'']; exact hb))).lo hR349).lo hk361).lo hR390)).base_le e'; have h2 := (((((((hm73).lo hk197).lo hk209).kp hk217 (fun b_ hb e' => hd214 (by have e'' : b_ = g206 := e'; rw [← e'']; exact hb))).lo hR349).lo hk361).lo hR390).base_le hb; have h3 := (hm73).base_le hb; omega)).lo hk410).kp hk419 (fun b_ hb e' => hd268 b_ e' hb)).lo hk424).lo hk432).lo hk436).lo hk447).lo hk497).base_le h'; omega), (fun b_ h h' => by have h1 := ((hO512).kp hk520 (fun b_ hb e' => by have e'' : b_ = g494 := e'; have := (hO512).base_le hb; omega)).base_le h; have h2 := ((((((((hO398).lo hk410).kp hk419 (fun b_ hb e' => hd269 b_ e' hb)).lo hk424).lo hk432).lo hk436).lo hk447).lo hk497).base_le h'; omega), (fun b_ h h' => by have h1 := ((hO512).kp hk520 (fun b_ hb e' => by have e'' : b_ = g494 := e'; have := (hO512).base_le hb; omega)).base_le h; have h2 := ((((((hO420).lo hk424).lo hk432).lo hk436).lo hk447).lo hk497).base_le h'; omega), hl444, hl445, hl516, hl517, hq518⟩
                  · refine SR.alloc (l := [.int .i64 0, .slice none 0 0, .int .i64 0, .int .i64 0, .int .i64 0]) tz41 rfl ?_
                    intro g534 w535 hg536 hk537 hs538 hb539
                    have hz540 := hk537.size
                    have hB541 := hB442.lo hk537
                    have hS542 := (hS443).lo hk537
                    have hd543 : ¬ A45 = some ⟨g534, 0, none⟩ := fun e' => by have := (((((((((((((hm73).lo hk197).lo hk209).kp hk217 (fun b_ hb e' => hd214 (by have e'' : b_ = g206 := e'; rw [← e'']; exact hb))).lo hR349).lo hk361).lo hR390).kp hk397 (fun b_ hb e' => by have h1 := (((((((hO201).lo hk209).kp hk217 (fun b_ hb e' => hd215 (by have e'' : b_ = g206 := e'; rw [← e'']; exact hb))).lo hR349).lo hk361).lo hR390)).base_le e'; have h2 := (((((((hm73).lo hk197).lo hk209).kp hk217 (fun b_ hb e' => hd214 (by have e'' : b_ = g206 := e'; rw [← e'']; exact hb))).lo hR349).lo hk361).lo hR390).base_le hb; have h3 := (hm73).base_le hb; omega)).lo hk410).kp hk419 (fun b_ hb e' => hd268 b_ e' hb)).lo hk424).lo hk432).lo hk436).base_le e'; omega
                    have hd544 : ¬ A198 = some ⟨g534, 0, none⟩ := fun e' => by have := ((((((hO398).lo hk410).kp hk419 (fun b_ hb e' => hd269 b_ e' hb)).lo hk424).lo hk432).lo hk436).base_le e'; omega
                    have hd545 : ¬ A233 = some ⟨g534, 0, none⟩ := fun e' => by have := ((((hO420).lo hk424).lo hk432).lo hk436).base_le e'; omega
                    have hd546 : ¬ A437 = some ⟨g534, 0, none⟩ := fun e' => by have := (hO440).base_le e'; omega
                    refine SR.nil ⟨hS542, _, rfl, ?_⟩
                    refine AH.br [3] (by kernel_rfl) rfl ⟨Br.mk' rfl trivial ?_, trivial⟩
                    refine SR.call ent20 (c_laws_toScanStep w535 s) rfl ?_
                    rintro e w547 ⟨rfl, hk548⟩
                    refine ⟨_, rfl, ?_⟩
                    have hz549 := hk548.size
                    have hB550 := hB541.lo hk548
                    have hS551 := (hS542).lo hk548
                    refine SR.nil ⟨hS551, _, rfl, ?_⟩
                    refine AH.br [4] (by kernel_rfl) rfl ⟨Br.mk' rfl trivial ?_, trivial⟩
                    refine SR.call ent21 (c_impl_StepScan w547 x (((((hO440).lo hk537).lo hk548).rd)) s) rfl ?_
                    rintro e w552 ⟨A554, n555, c556, rfl, hO557, hk553⟩
                    refine ⟨_, rfl, ?_⟩
                    have hz558 := hk553.size
                    have hB559 := hB550.lo hk553
                    have hS560 := (hS551).lo hk553
                    have hl561 := hO557.len
                    have hl562 := hO557.rd.bound
                    have hq563 := step_lenJ x s
                    refine SR.nil ⟨hS560, _, rfl, ?_⟩
                    refine AH.take 5 rfl (by kernel_rfl) trivial (hS560) (fun w' hw' => r_mv (v := .tuple (List.toArray _)) rfl) <| AH.take 6 rfl (by kernel_rfl) trivial (hS560) (fun w' hw' => r_ext (v := .agg (List.toArray _)) rfl rfl) <| AH.take 7 rfl (by kernel_rfl) trivial (hS560) (fun w' hw' => r_ext (v := .bool _) rfl rfl) <| AH.br [9] (by kernel_rfl) rfl ⟨Br.mk' rfl trivial ?_, trivial⟩
                    refine SR.store (o := 0) (vs := [.int .i64 (((impl_StepScan x s).1).State), .slice A554 n555 c556, .int .i64 (((impl_StepScan x s).1).Next), .int .i64 (((impl_StepScan x s).1).Fails), .int .i64 (((impl_StepScan x s).1).Size)]) agg41.2 rfl rfl rfl rfl (((hb539).lo hk548).lo hk553) (Nat.le_of_ble_eq_true rfl) rfl ?_
                    intro w564 hk565 hs566 hb567
                    have hz568 := hk565.size
                    have hB569 := hB559.new hk565 (by omega)
                    have hS570 := (hS560).new hk565 (by omega)
                    refine SR.nil ⟨hS570, _, rfl, ?_⟩
                    refine AH.take 10 rfl (by kernel_rfl) trivial (hS570) (fun w' hw' => r_as (v := .bool _) rfl) <| AH.done (by kernel_rfl) ?_
                    exact ⟨A437, n438, c439, A554, n555, c556, g534, ⟨rfl, rfl, rfl, rfl, rfl, rfl, rfl, rfl, trivial⟩, hS570, (((hO557).kp hk565 (fun b_ hb e' => by have e'' : b_ = g534 := e'; have := (hO557).base_le hb; omega)).down (by omega)), (hb567), ⟨by omega, (hb567).lt⟩, hd543, hd544, hd545, (fun e' => by have := ((hO557).kp hk565 (fun b_ hb e' => by have e'' : b_ = g534 := e'; have := (hO557).base_le hb; omega)).base_le e'; omega), (fun b_ h h' => by have h1 := ((hO557).kp hk565 (fun b_ hb e' => by have e'' : b_ = g534 := e'; have := (hO557).base_le hb; omega)).base_le h; have h2 := (((((((((((((((hm73).lo hk197).lo hk209).kp hk217 (fun b_ hb e' => hd214 (by have e'' : b_ = g206 := e'; rw [← e'']; exact hb))).lo hR349).lo hk361).lo hR390).kp hk397 (fun b_ hb e' => by have h1 := (((((((hO201).lo hk209).kp hk217 (fun b_ hb e' => hd215 (by have e'' : b_ = g206 := e'; rw [← e'']; exact hb))).lo hR349).lo hk361).lo hR390)).base_le e'; have h2 := (((((((hm73).lo hk197).lo hk209).kp hk217 (fun b_ hb e' => hd214 (by have e'' : b_ = g206 := e'; rw [← e'']; exact hb))).lo hR349).lo hk361).lo hR390).base_le hb; have h3 := (hm73).base_le hb; omega)).lo hk410).kp hk419 (fun b_ hb e' => hd268 b_ e' hb)).lo hk424).lo hk432).lo hk436).lo hk537).lo hk548).base_le h'; omega), (fun b_ h h' => by have h1 := ((hO557).kp hk565 (fun b_ hb e' => by have e'' : b_ = g534 := e'; have := (hO557).base_le hb; omega)).base_le h; have h2 := ((((((((hO398).lo hk410).kp hk419 (fun b_ hb e' => hd269 b_ e' hb)).lo hk424).lo hk432).lo hk436).lo hk537).lo hk548).base_le h'; omega), (fun b_ h h' => by have h1 := ((hO557).kp hk565 (fun b_ hb e' => by have e'' : b_ = g534 := e'; have := (hO557).base_le hb; omega)).base_le h; have h2 := ((((((hO420).lo hk424).lo hk432).lo hk436).lo hk537).lo hk548).base_le h'; omega), hl444, hl445, hl561, hl562, hq563⟩
                · refine SR.alloc (l := [.int .i64 0, .slice none 0 0, .int .i64 0, .int .i64 0, .int .i64 0]) tz41 rfl ?_
                  intro g579 w580 hg581 hk582 hs583 hb584
                  have hz585 := hk582.size
                  have hB586 := hB434.lo hk582
                  have hS587 := (hk432).lo hk582
                  have hd588 : ¬ A45 = some ⟨g579, 0, none⟩ := fun e' => by have := ((((((((((((hm73).lo hk197).lo hk209).kp hk217 (fun b_ hb e' => hd214 (by have e'' : b_ = g206 := e'; rw [← e'']; exact hb))).lo hR349).lo hk361).lo hR390).kp hk397 (fun b_ hb e' => by have h1 := (((((((hO201).lo hk209).kp hk217 (fun b_ hb e' => hd215 (by have e'' : b_ = g206 := e'; rw [← e'']; exact hb))).lo hR349).lo hk361).lo hR390)).base_le e'; have h2 := (((((((hm73).lo hk197).lo hk209).kp hk217 (fun b_ hb e' => hd214 (by have e'' : b_ = g206 := e'; rw [← e'']; exact hb))).lo hR349).lo hk361).lo hR390).base_le hb; have h3 := (hm73).base_le hb; omega)).lo hk410).kp hk419 (fun b_ hb e' => hd268 b_ e' hb)).lo hk424).lo hk432).base_le e'; omega
                  have hd589 : ¬ A198 = some ⟨g579, 0, none⟩ := fun e' => by have := (((((hO398).lo hk410).kp hk419 (fun b_ hb e' => hd269 b_ e' hb)).lo hk424).lo hk432).base_le e'; omega
                  have hd590 : ¬ A233 = some ⟨g579, 0, none⟩ := fun e' => by have := (((hO420).lo hk424).lo hk432).base_le e'; omega
                  refine SR.nil ⟨hS587, _, rfl, ?_⟩
                  refine AH.br [1] (by kernel_rfl) rfl ⟨Br.mk' rfl trivial ?_, trivial⟩
                  refine SR.call ent19 (c_laws_toScanJob w580 x ((((((((((((((((((hx_Tiles).lo hk4).lo hk12).lo hk18).lo hR192).lo hk197).lo hk209).kp hk217 (fun b_ hb e' => by have e'' : b_ = g206 := e'; omega)).lo hR349).lo hk361).lo hR390).kp hk397 (fun b_ hb e' => by have := (((((((hO201).lo hk209).kp hk217 (fun b_ hb e' => hd215 (by have e'' : b_ = g206 := e'; rw [← e'']; exact hb))).lo hR349).lo hk361).lo hR390)).base_le e'; omega)).lo hk410).kp hk419 (fun b_ hb e' => by have := ((((((hm262).lo hk361).lo hR390).kp hk397 (fun b_ hb e' => hd269 b_ hb e')).lo hk410)).base_le e'; omega)).lo hk424).lo hk432).lo hk582)) (by omega)) rfl ?_
                  rintro e w591 ⟨A593, n594, c595, rfl, hO596, hk592⟩
                  refine ⟨_, rfl, ?_⟩
                  have hz597 := hk592.size
                  have hB598 := hB586.lo hk592
                  have hS599 := (hS587).lo hk592
                  have hl600 := hO596.len
                  have hl601 := hO596.rd.bound
                  refine SR.nil ⟨hS599, _, rfl, ?_⟩
                  refine AH.br [3] (by kernel_rfl) rfl ⟨Br.mk' rfl trivial ?_, trivial⟩
                  refine SR.call ent20 (c_laws_toScanStep w591 s) rfl ?_
                  rintro e w602 ⟨rfl, hk603⟩
                  refine ⟨_, rfl, ?_⟩
                  have hz604 := hk603.size
                  have hB605 := hB598.lo hk603
                  have hS606 := (hS599).lo hk603
                  refine SR.nil ⟨hS606, _, rfl, ?_⟩
                  refine AH.br [4] (by kernel_rfl) rfl ⟨Br.mk' rfl trivial ?_, trivial⟩
                  refine SR.call ent21 (c_impl_StepScan w602 x ((((hO596).lo hk603).rd)) s) rfl ?_
                  rintro e w607 ⟨A609, n610, c611, rfl, hO612, hk608⟩
                  refine ⟨_, rfl, ?_⟩
                  have hz613 := hk608.size
                  have hB614 := hB605.lo hk608
                  have hS615 := (hS606).lo hk608
                  have hl616 := hO612.len
                  have hl617 := hO612.rd.bound
                  have hq618 := step_lenJ x s
                  refine SR.nil ⟨hS615, _, rfl, ?_⟩
                  refine AH.take 5 rfl (by kernel_rfl) trivial (hS615) (fun w' hw' => r_mv (v := .tuple (List.toArray _)) rfl) <| AH.take 6 rfl (by kernel_rfl) trivial (hS615) (fun w' hw' => r_ext (v := .agg (List.toArray _)) rfl rfl) <| AH.take 7 rfl (by kernel_rfl) trivial (hS615) (fun w' hw' => r_ext (v := .bool _) rfl rfl) <| AH.br [9] (by kernel_rfl) rfl ⟨Br.mk' rfl trivial ?_, trivial⟩
                  refine SR.store (o := 0) (vs := [.int .i64 (((impl_StepScan x s).1).State), .slice A609 n610 c611, .int .i64 (((impl_StepScan x s).1).Next), .int .i64 (((impl_StepScan x s).1).Fails), .int .i64 (((impl_StepScan x s).1).Size)]) agg41.2 rfl rfl rfl rfl ((((hb584).lo hk592).lo hk603).lo hk608) (Nat.le_of_ble_eq_true rfl) rfl ?_
                  intro w619 hk620 hs621 hb622
                  have hz623 := hk620.size
                  have hB624 := hB614.new hk620 (by omega)
                  have hS625 := (hS615).new hk620 (by omega)
                  refine SR.nil ⟨hS625, _, rfl, ?_⟩
                  refine AH.take 10 rfl (by kernel_rfl) trivial (hS625) (fun w' hw' => r_as (v := .bool _) rfl) <| AH.done (by kernel_rfl) ?_
                  exact ⟨A593, n594, c595, A609, n610, c611, g579, ⟨rfl, rfl, rfl, rfl, rfl, rfl, rfl, rfl, trivial⟩, hS625, (((hO612).kp hk620 (fun b_ hb e' => by have e'' : b_ = g579 := e'; have := (hO612).base_le hb; omega)).down (by omega)), (hb622), ⟨by omega, (hb622).lt⟩, hd588, hd589, hd590, (fun e' => by have := ((hO612).kp hk620 (fun b_ hb e' => by have e'' : b_ = g579 := e'; have := (hO612).base_le hb; omega)).base_le e'; omega), (fun b_ h h' => by have h1 := ((hO612).kp hk620 (fun b_ hb e' => by have e'' : b_ = g579 := e'; have := (hO612).base_le hb; omega)).base_le h; have h2 := (((((((((((((((hm73).lo hk197).lo hk209).kp hk217 (fun b_ hb e' => hd214 (by have e'' : b_ = g206 := e'; rw [← e'']; exact hb))).lo hR349).lo hk361).lo hR390).kp hk397 (fun b_ hb e' => by have h1 := (((((((hO201).lo hk209).kp hk217 (fun b_ hb e' => hd215 (by have e'' : b_ = g206 := e'; rw [← e'']; exact hb))).lo hR349).lo hk361).lo hR390)).base_le e'; have h2 := (((((((hm73).lo hk197).lo hk209).kp hk217 (fun b_ hb e' => hd214 (by have e'' : b_ = g206 := e'; rw [← e'']; exact hb))).lo hR349).lo hk361).lo hR390).base_le hb; have h3 := (hm73).base_le hb; omega)).lo hk410).kp hk419 (fun b_ hb e' => hd268 b_ e' hb)).lo hk424).lo hk432).lo hk582).lo hk592).lo hk603).base_le h'; omega), (fun b_ h h' => by have h1 := ((hO612).kp hk620 (fun b_ hb e' => by have e'' : b_ = g579 := e'; have := (hO612).base_le hb; omega)).base_le h; have h2 := ((((((((hO398).lo hk410).kp hk419 (fun b_ hb e' => hd269 b_ e' hb)).lo hk424).lo hk432).lo hk582).lo hk592).lo hk603).base_le h'; omega), (fun b_ h h' => by have h1 := ((hO612).kp hk620 (fun b_ hb e' => by have e'' : b_ = g579 := e'; have := (hO612).base_le hb; omega)).base_le h; have h2 := ((((((hO420).lo hk424).lo hk432).lo hk582).lo hk592).lo hk603).base_le h'; omega), hl600, hl601, hl616, hl617, hq618⟩
              rintro f634 w635 ⟨A437, n438, c439, A453, n454, c455, g463, hat637, hR636, hm484, hm485, hg486, hd487, hd488, hd489, hd490, hd491, hd492, hd493, hl444, hl445, hl460, hl461, hq462⟩
              rw [← sets_of_at hat637]
              have hz638 := hR636.size
              have hB639 := hB426.lo hR636
              refine W.seq ?_
              refine W.seq ?_
              refine W.regJS (fun f' w' => At f' [(4, .bool false), (9, .pointer (some ((⟨g243, 0, none⟩ : Addr)))), (12, .int .i64 (1 + 1 * (((impl_StepScan x s).1).Tiles.length : Int))), (13, .int .i64 (1 + 1 * ((((impl_StepScan x s).1).Tiles.length : Nat) : Int))), (95, .bool (decide ((¬ (((impl_StepScan x s).1) = ((spec_StepScan x s).1))) ∨ ((!(((impl_StepScan x s).2) == ((spec_StepScan x s).2))) = true))))] ∧ Lo w635 w') ?_ ?_
              · refine SR.q' (r_lda (l := [.int .i64 (((impl_StepScan x s).1).State), .slice A453 n454 c455, .int .i64 (((impl_StepScan x s).1).Next), .int .i64 (((impl_StepScan x s).1).Fails), .int .i64 (((impl_StepScan x s).1).Size)]) agg41 rfl (fun _ _ hu => (hm485).cell hu) rfl) <| SR.q' (r_lda (l := [.int .i64 (((spec_StepScan x s).1).State), .slice A45 n46 c47, .int .i64 (((spec_StepScan x s).1).Next), .int .i64 (((spec_StepScan x s).1).Fails), .int .i64 (((spec_StepScan x s).1).Size)]) agg41 rfl (fun _ _ hu => ((((((((((((hm74).lo hk197).lo hk209).kp hk217 (fun e' => by have e'' : g55 = g206 := e'; omega)).lo hR349).lo hk361).lo hR390).kp hk397 (fun e' => by have := (((((((hO201).lo hk209).kp hk217 (fun b_ hb e' => hd215 (by have e'' : b_ = g206 := e'; rw [← e'']; exact hb))).lo hR349).lo hk361).lo hR390)).base_le e'; omega)).lo hk410).kp hk419 (fun e' => by have := ((((((hm262).lo hk361).lo hR390).kp hk397 (fun b_ hb e' => hd269 b_ hb e')).lo hk410)).base_le e'; omega)).lo hk424).lo hR636).cell hu) rfl) <| SR.call ent22 (c_laws_eqScanJob w635 ((impl_StepScan x s).1) (((hm484).rd)) ((spec_StepScan x s).1) ((((((((((((((hm73).lo hk197).lo hk209).kp hk217 (fun b_ hb e' => hd214 (by have e'' : b_ = g206 := e'; rw [← e'']; exact hb))).lo hR349).lo hk361).lo hR390).kp hk397 (fun b_ hb e' => by have h1 := (((((((hO201).lo hk209).kp hk217 (fun b_ hb e' => hd215 (by have e'' : b_ = g206 := e'; rw [← e'']; exact hb))).lo hR349).lo hk361).lo hR390)).base_le e'; have h2 := (((((((hm73).lo hk197).lo hk209).kp hk217 (fun b_ hb e' => hd214 (by have e'' : b_ = g206 := e'; rw [← e'']; exact hb))).lo hR349).lo hk361).lo hR390).base_le hb; have h3 := (hm73).base_le hb; omega)).lo hk410).kp hk419 (fun b_ hb e' => hd268 b_ e' hb)).lo hk424).lo hR636).rd))) rfl ?_
                rintro e w640 ⟨rfl, hk641⟩
                refine ⟨_, rfl, ?_⟩
                have hz642 := hk641.size
                have hB643 := hB639.lo hk641
                refine SR.q' (r_not rfl) <| SR.q' (r_mv (v := .bool _) rfl) <| SR.splitN (fun h644 => ?_) (fun h644 => ?_)
                · refine SR.s' rfl <| SR.s' rfl <| SR.s' rfl <| SR.q' (r_pick true rfl (v := .bool true) rfl) <| SR.nil ?_
                  exact ⟨_, rfl, ⟨⟨rfl, rfl, rfl, rfl, (eDT ((jmf h644).1 trivial)), trivial⟩, (hk641)⟩⟩
                · refine SR.g' rfl (r_mv (v := .bool _) rfl) <| SR.g' rfl (r_mv (v := .bool _) rfl) <| SR.g' rfl (r_neb und4 rfl rfl) <| SR.q' (r_pick false rfl (v := .bool _) rfl) <| SR.nil ?_
                  exact ⟨_, rfl, ⟨⟨rfl, rfl, rfl, rfl, (eBD (jmt h644)), trivial⟩, (hk641)⟩⟩
              rintro f645 w646 ⟨hat647, hk648⟩
              rw [← sets_of_at hat647]
              have hz649 := hk648.size
              have hB650 := hB639.lo hk648
              refine W.cond_f (congrArg Value.bool (decide_eq_false h364)) ?_
              refine W.skip ?_
              refine W.seq ?_
              refine W.regS (SR.q' (r_as (v := .int .i64 1) rfl) <| SR.nil ?_)
              refine W.seq ?_
              refine W.regS (SR.q' (r_lda (l := [.int .i64 (((impl_StepScan x s).1).State), .slice A233 n234 c235, .int .i64 (((impl_StepScan x s).1).Next), .int .i64 (((impl_StepScan x s).1).Fails), .int .i64 (((impl_StepScan x s).1).Size)]) agg41 rfl (fun _ _ hu => (((((((((hm263).lo hk361).lo hR390).kp hk397 (fun e' => hd266 e')).lo hk410).kp hk419 (fun e' => hd267 e')).lo hk424).lo hR636).lo hk648).cell hu) rfl) <| SR.q' (r_mv (v := .int .i64 _) rfl) <| SR.call ent24 (c_laws_heldScanJob w646 (⟨((impl_StepScan x s).1).State, mkL mkInt 1 ((impl_StepScan x s).1).Tiles.length 1, ((impl_StepScan x s).1).Next, ((impl_StepScan x s).1).Fails, ((impl_StepScan x s).1).Size⟩ : ScanJob) ((((((hO420).lo hk424).lo hR636).lo hk648).rd)) 1 (((impl_StepScan x s).1).Tiles.length) (by omega) (by omega) (by omega) (by rfl) (by omega)) rfl ?_)
              rintro e w651 ⟨rfl, hk652⟩
              refine ⟨_, rfl, ?_⟩
              have hz653 := hk652.size
              have hB654 := hB650.lo hk652
              refine SR.q' (r_as (v := .int .i64 _) rfl) <| SR.nil ?_
              refine W.seq ?_
              refine W.seq ?_
              refine W.regS (SR.q' (r_mv (v := .int .i64 _) rfl) <| SR.q' (r_lt rfl rfl) <| SR.nil ?_)
              refine W.cond_f (congrArg Value.bool (decide_eq_false h427)) ?_
              refine W.skip ?_
              refine W.seq ?_
              refine W.seq ?_
              refine W.regS (SR.q' (r_mv (v := .int .i64 _) rfl) <| SR.q' (r_mv (v := .int .i64 _) rfl) <| SR.q' (r_ne rfl rfl) <| SR.nil ?_)
              refine W.cond_f (congrArg Value.bool (not_decide_t h429)) ?_
              refine W.skip ?_
              refine W.seq ?_
              refine W.regS (SR.q' (r_as (v := .bool true) rfl) <| SR.nil ?_)
              refine W.ret ?_
              refine ret1 rfl (v := .bool _) rfl ?_
              exact ⟨eR rfl, hB654⟩
end Go.Proofs.Ytlpapeeaghmjpaa
