/- Walks, printed by a program of this claim's author. -/
import Derived.Test.YtlpapeeaghmjpaaDoorChecked
import Derived.Test.YtlpapeeaghmjpaaDoorSd
import Derived.Test.YtlpapeeaghmjpaaDoorFu
import Derived.Test.YtlpapeeaghmjpaaDoorFs
import Derived.Test.YtlpapeeaghmjpaaDoorFq
import Derived.Test.YtlpapeeaghmjpaaDoorFo
import Derived.Test.YtlpapeeaghmjpaaDoorSe
import Derived.Test.YtlpapeeaghmjpaaDoorG29o
namespace Go.Proofs.YtlpapeeaghmjpaaDoor
open Go Go.RowKit Fw
set_option maxRecDepth 10000
set_option linter.unusedVariables false
theorem ent129 : Ent Tryd.prog 129 := ent_of Tryd.func129 (by decide +kernel) rfl
theorem ent130 : Ent Tryd.prog 130 := ent_of Tryd.func130 (by decide +kernel) rfl
theorem ent136 : Ent Tryd.prog 136 := ent_of Tryd.func136 (by decide +kernel) rfl
theorem ent69 : Ent Tryd.prog 69 := ent_of Tryd.func69 (by decide +kernel) rfl

open Classical in
noncomputable def spec_l29Make (x : ScanJob) (s : ScanStep) : ScanJob × Bool :=
  if s.Kind = 1 then ((⟨1, x.Tiles, x.Next, x.Fails, x.Size⟩ : ScanJob), decide ((x.State = 0) ∧ (JobOK (⟨1, x.Tiles, x.Next, x.Fails, x.Size⟩ : ScanJob)))) else if s.Kind = 2 then (if x.Next = (x.Tiles.length : Int) then (x, false) else ((⟨x.State, x.Tiles.set x.Next.toNat s.Value, x.Next + 1, 0, x.Size + (10 * s.Value)⟩ : ScanJob), decide ((x.State = 1) ∧ (JobOK (⟨x.State, x.Tiles.set x.Next.toNat s.Value, x.Next + 1, 0, x.Size + (10 * s.Value)⟩ : ScanJob))))) else if s.Kind = 3 then (if (x.Fails + 1) = 3 then ((⟨2, x.Tiles, x.Next, x.Fails + 1, x.Size⟩ : ScanJob), decide (((x.State = 1) ∧ (x.Next < (x.Tiles.length : Int))) ∧ (JobOK (⟨2, x.Tiles, x.Next, x.Fails + 1, x.Size⟩ : ScanJob)))) else ((⟨x.State, x.Tiles, x.Next, x.Fails + 1, x.Size⟩ : ScanJob), decide (((x.State = 1) ∧ (x.Next < (x.Tiles.length : Int))) ∧ (JobOK (⟨x.State, x.Tiles, x.Next, x.Fails + 1, x.Size⟩ : ScanJob))))) else if s.Kind = 4 then ((⟨2, x.Tiles, x.Next, x.Fails, x.Size⟩ : ScanJob), decide ((x.State = 1) ∧ (JobOK (⟨2, x.Tiles, x.Next, x.Fails, x.Size⟩ : ScanJob)))) else if s.Kind = 5 then ((againN x s.Value), decide (((s.Value = 0 ∨ 0 ≤ lastB x.Tiles s.Value x.Next.toNat) ∧ (x.State = 2)) ∧ (JobOK (againN x s.Value)))) else ((⟨3, x.Tiles, x.Next, x.Fails, x.Size⟩ : ScanJob), decide (((x.State = 1) ∧ (x.Next = (x.Tiles.length : Int))) ∧ (JobOK (⟨3, x.Tiles, x.Next, x.Fails, x.Size⟩ : ScanJob))))
theorem c_spec_l29Make (w : World) (x : ScanJob) {Ax_Tiles : Option Addr} {nx_Tiles cx_Tiles Bx_Tiles : Nat} (hx_Tiles : SlR w Bx_Tiles encI 1 Ax_Tiles nx_Tiles cx_Tiles x.Tiles) (s : ScanStep) (hp0 : JobOK x) (hp1 : (0 ≤ s.Value ∧ s.Value ≤ 100) ∧ 1 ≤ s.Kind ∧ s.Kind ≤ 6) : Calls Tryd.prog 130 #[.agg (List.toArray [.int .i64 x.State, .slice Ax_Tiles nx_Tiles cx_Tiles, .int .i64 x.Next, .int .i64 x.Fails, .int .i64 x.Size]), .agg (List.toArray (encScanStep s))] w fun e w' => ∃ (A1' : Option Addr) (n1' c1' : Nat), e = .returned (.tuple (List.toArray [.agg (List.toArray [.int .i64 (((spec_l29Make x s).1).State), .slice A1' n1' c1', .int .i64 (((spec_l29Make x s).1).Next), .int .i64 (((spec_l29Make x s).1).Fails), .int .i64 (((spec_l29Make x s).1).Size)]), .bool ((spec_l29Make x s).2)])) ∧ SlO w' w.heap.size encI 1 3 A1' n1' c1' (((spec_l29Make x s).1).Tiles) ∧ Lo w w' := by
  refine calls_W 104 Tryd.func130 rfl rfl rfl ?_
  have hbdx_Tiles := hx_Tiles.bound
  have hlex_Tiles := hx_Tiles.len
  have hBbx_Tiles := hx_Tiles.bd
  have hbdx_Tiles := hx_Tiles.bound
  have hlex_Tiles := hx_Tiles.len
  have hBbx_Tiles := hx_Tiles.bd
  have hrg := job_rng hp0
  refine W.seq ?_
  refine W.regS (SR.box (v := .agg (List.toArray _)) (l := [.int .i64 x.State, .slice Ax_Tiles nx_Tiles cx_Tiles, .int .i64 x.Next, .int .i64 x.Fails, .int .i64 x.Size]) rfl rfl ?_)
  intro g1 w2 hg3 hk4 hs5 hb6
  have hz7 := hk4.size
  have hB8 := (Lo.refl w).lo hk4
  refine SR.box (v := .agg (List.toArray _)) (l := [.int .i64 s.Kind, .int .i64 s.Value]) rfl rfl ?_
  intro g9 w10 hg11 hk12 hs13 hb14
  have hz15 := hk12.size
  have hB16 := hB8.lo hk12
  refine SR.alloc (l := [.int .i64 0, .slice none 0 0, .int .i64 0, .int .i64 0, .int .i64 0]) tz57 rfl ?_
  intro g17 w18 hg19 hk20 hs21 hb22
  have hz23 := hk20.size
  have hB24 := hB16.lo hk20
  refine SR.q' (r_as (v := .bool false) rfl) <| SR.nil ?_
  refine W.seq ?_
  refine W.regA (Lo w18) (fun f' w' => ∃ (A31 : Option Addr), ∃ (n32 : Nat), ∃ (c33 : Nat), ∃ (g40 : Nat), At f' [(2, .pointer (some ((⟨g1, 0, none⟩ : Addr)))), (3, .pointer (some ((⟨g9, 0, none⟩ : Addr)))), (4, .pointer (some ((⟨g17, 0, none⟩ : Addr)))), (5, .bool false), (6, .pointer (some ((⟨g40, 0, none⟩ : Addr)))), (7, .bool (decide (x.State = 1)))] ∧ (Lo w18 w') ∧ (SlO w' w18.heap.size encI 1 3 A31 n32 c33 x.Tiles) ∧ (Blk w' g40 57 [.int .i64 x.State, .slice A31 n32 c33, .int .i64 x.Next, .int .i64 x.Fails, .int .i64 x.Size]) ∧ (w18.heap.size ≤ g40 ∧ g40 < w'.heap.size) ∧ (¬ A31 = some ⟨g40, 0, none⟩) ∧ (n32 = (x.Tiles).length) ∧ ((n32 : Int) ≤ 9223372036854775807)) mo ?_ ?_
  · intro w25 hk26
    have hz27 := hk26.size
    have hB28 := hB24.lo hk26
    refine AH.take 0 rfl (by kernel_rfl) trivial (hk26) (fun w' hw' => r_lda (l := [.int .i64 x.State, .slice Ax_Tiles nx_Tiles cx_Tiles, .int .i64 x.Next, .int .i64 x.Fails, .int .i64 x.Size]) agg57 rfl (fun _ _ hu => ((((hb6).lo hk12).lo hk20).lo hw').cell hu) rfl) <| AH.take 2 rfl (by kernel_rfl) trivial (hk26) (fun w' hw' => r_fa fa57_0 rfl) <| AH.take 3 rfl (by kernel_rfl) trivial (hk26) (fun w' hw' => r_ld (v := .int .i64 x.State) sca3 rfl (((((hb6).lo hk12).lo hk20).lo hw').cell rfl)) <| AH.take 4 rfl (by kernel_rfl) trivial (hk26) (fun w' hw' => r_eq rfl rfl) <| AH.br [1, 5] (by kernel_rfl) rfl ⟨Br.mk' rfl trivial ?_, Br.mk' rfl trivial ?_, trivial⟩
    · refine SR.call ent135 (c_spec_l29Own w25 x ((((((hx_Tiles).lo hk4).lo hk12).lo hk20).lo hk26)) (by omega)) rfl ?_
      rintro e w29 ⟨A31, n32, c33, rfl, hO34, hk30⟩
      refine ⟨_, rfl, ?_⟩
      have hz35 := hk30.size
      have hB36 := hB28.lo hk30
      have hS37 := (hk26).lo hk30
      have hl38 := hO34.len
      have hl39 := hO34.rd.bound
      refine SR.nil ⟨hS37, _, rfl, ?_⟩
      refine AH.br [5] (by kernel_rfl) rfl ⟨Br.mk' rfl trivial ?_, trivial⟩
      refine SR.alloc (l := [.int .i64 0, .slice none 0 0, .int .i64 0, .int .i64 0, .int .i64 0]) tz57 rfl ?_
      intro g40 w41 hg42 hk43 hs44 hb45
      have hz46 := hk43.size
      have hB47 := hB36.lo hk43
      have hS48 := (hS37).lo hk43
      have hd49 : ¬ A31 = some ⟨g40, 0, none⟩ := fun e' => by have := (hO34).base_le e'; omega
      refine SR.nil ⟨hS48, _, rfl, ?_⟩
      refine AH.br [6] (by kernel_rfl) rfl ⟨Br.mk' rfl trivial ?_, trivial⟩
      refine SR.store (o := 0) (vs := [.int .i64 x.State, .slice A31 n32 c33, .int .i64 x.Next, .int .i64 x.Fails, .int .i64 x.Size]) agg57.2 rfl rfl rfl rfl (hb45) (Nat.le_of_ble_eq_true rfl) rfl ?_
      intro w50 hk51 hs52 hb53
      have hz54 := hk51.size
      have hB55 := hB47.new hk51 (by omega)
      have hS56 := (hS48).new hk51 (by omega)
      refine SR.nil ⟨hS56, _, rfl, ?_⟩
      refine AH.take 7 rfl (by kernel_rfl) trivial (hS56) (fun w' hw' => r_as (v := .bool _) rfl) <| AH.done (by kernel_rfl) ?_
      exact ⟨A31, n32, c33, g40, ⟨rfl, rfl, rfl, rfl, rfl, rfl, trivial⟩, hS56, ((((hO34).lo hk43).kp hk51 (fun b_ hb e' => hd49 (by have e'' : b_ = g40 := e'; rw [← e'']; exact hb))).down (by omega)), (hb53), ⟨by omega, (hb53).lt⟩, hd49, hl38, hl39⟩
    · refine SR.alloc (l := [.int .i64 0, .slice none 0 0, .int .i64 0, .int .i64 0, .int .i64 0]) tz57 rfl ?_
      intro g61 w62 hg63 hk64 hs65 hb66
      have hz67 := hk64.size
      have hB68 := hB28.lo hk64
      have hS69 := (hk26).lo hk64
      refine SR.nil ⟨hS69, _, rfl, ?_⟩
      refine AH.br [1] (by kernel_rfl) rfl ⟨Br.mk' rfl trivial ?_, trivial⟩
      refine SR.call ent135 (c_spec_l29Own w62 x (((((((hx_Tiles).lo hk4).lo hk12).lo hk20).lo hk26).lo hk64)) (by omega)) rfl ?_
      rintro e w70 ⟨A72, n73, c74, rfl, hO75, hk71⟩
      refine ⟨_, rfl, ?_⟩
      have hz76 := hk71.size
      have hB77 := hB68.lo hk71
      have hS78 := (hS69).lo hk71
      have hl79 := hO75.len
      have hl80 := hO75.rd.bound
      refine SR.nil ⟨hS78, _, rfl, ?_⟩
      refine AH.br [6] (by kernel_rfl) rfl ⟨Br.mk' rfl trivial ?_, trivial⟩
      refine SR.store (o := 0) (vs := [.int .i64 x.State, .slice A72 n73 c74, .int .i64 x.Next, .int .i64 x.Fails, .int .i64 x.Size]) agg57.2 rfl rfl rfl rfl ((hb66).lo hk71) (Nat.le_of_ble_eq_true rfl) rfl ?_
      intro w81 hk82 hs83 hb84
      have hz85 := hk82.size
      have hB86 := hB77.new hk82 (by omega)
      have hS87 := (hS78).new hk82 (by omega)
      refine SR.nil ⟨hS87, _, rfl, ?_⟩
      refine AH.take 7 rfl (by kernel_rfl) trivial (hS87) (fun w' hw' => r_as (v := .bool _) rfl) <| AH.done (by kernel_rfl) ?_
      exact ⟨A72, n73, c74, g61, ⟨rfl, rfl, rfl, rfl, rfl, rfl, trivial⟩, hS87, (((hO75).kp hk82 (fun b_ hb e' => by have e'' : b_ = g61 := e'; have := (hO75).base_le hb; omega)).down (by omega)), (hb84), ⟨by omega, (hb84).lt⟩, (fun e' => by have := ((hO75).kp hk82 (fun b_ hb e' => by have e'' : b_ = g61 := e'; have := (hO75).base_le hb; omega)).base_le e'; omega), hl79, hl80⟩
  rintro f90 w91 ⟨A31, n32, c33, g40, hat93, hR92, hm57, hm58, hg59, hd60, hl38, hl39⟩
  rw [← sets_of_at hat93]
  have hz94 := hR92.size
  have hB95 := hB24.lo hR92
  refine W.seq ?_
  refine W.regS (SR.q' (r_mv (v := .bool _) rfl) <| SR.q' (r_as (v := .bool _) rfl) <| SR.nil ?_)
  refine W.seq ?_
  refine W.seq ?_
  refine W.regS (SR.q' (r_fa fa60_0 rfl) <| SR.q' (r_ld (v := .int .i64 s.Kind) sca3 rfl ((((hb14).lo hk20).lo hR92).cell rfl)) <| SR.nil ?_)
  refine W.block ?_
  refine W.seq ?_
  refine W.regS (SR.q' (r_eq rfl rfl) <| SR.q' (r_as (v := .bool _) rfl) <| SR.nil ?_)
  refine W.cond_d rfl (fun h96 => ?_) (fun h96 => ?_)
  · refine W.seq ?_
    refine W.regS (SR.q' (r_fa fa57_0 rfl) <| SR.store (o := 0) (vs := [.int .i64 1]) sca3.2 rfl rfl rfl rfl (hm58) (Nat.le_of_ble_eq_true rfl) rfl ?_)
    intro w97 hk98 hs99 hb100
    have hz101 := hk98.size
    have hB102 := hB95.new hk98 (by omega)
    refine SR.nil ?_
    refine W.regS (SR.q' (r_fa fa57_0 rfl) <| SR.q' (r_ld (v := .int .i64 x.State) sca3 rfl ((((((hb6).lo hk12).lo hk20).lo hR92).kp hk98 (fun e' => by have e'' : g1 = g40 := e'; omega)).cell rfl)) <| SR.q' (r_eq rfl rfl) <| SR.q' (r_as (v := .bool _) rfl) <| SR.nil ?_)
    refine W.seq ?_
    refine W.regA (Kp (fun b_ => b_ = g17) w97) (fun f' w' => At f' [(4, .pointer (some ((⟨g17, 0, none⟩ : Addr)))), (5, .bool (decide ((x.State = 0) ∧ (JobOK (⟨1, x.Tiles, x.Next, x.Fails, x.Size⟩ : ScanJob)))))] ∧ (Kp (fun b_ => b_ = g17) w97 w') ∧ (Blk w' g17 57 [.int .i64 1, .slice A31 n32 c33, .int .i64 x.Next, .int .i64 x.Fails, .int .i64 x.Size])) mo ?_ ?_
    · intro w118 hk119
      have hz120 := hk119.size
      have hB121 := hB102.lo hk119
      refine AH.take 0 rfl (by kernel_rfl) trivial ((Kp.refl w97 : Kp (fun b_ => b_ = g17) w97 w97).lo hk119) (fun w' hw' => r_lda (l := [.int .i64 1, .slice A31 n32 c33, .int .i64 x.Next, .int .i64 x.Fails, .int .i64 x.Size]) agg57 rfl (fun _ _ hu => ((hb100).kp hw' (fun e' => by have e'' : g40 = g17 := e'; omega)).cell hu) rfl) <| AH.take 1 rfl (by kernel_rfl) trivial ((Kp.refl w97 : Kp (fun b_ => b_ = g17) w97 w97).lo hk119) (fun w' hw' => r_mv (v := .bool _) rfl) <| AH.take 2 rfl (by kernel_rfl) trivial ((Kp.refl w97 : Kp (fun b_ => b_ = g17) w97 w97).lo hk119) (fun w' hw' => r_mv (v := .bool _) rfl) <| AH.splitD (fun h122 => ?_) (fun h122 => ?_)
      · refine AH.take 3 rfl (by kernel_rfl) rfl ((Kp.refl w97 : Kp (fun b_ => b_ = g17) w97 w97).lo hk119) (fun w' hw' => r_lda (l := [.int .i64 1, .slice A31 n32 c33, .int .i64 x.Next, .int .i64 x.Fails, .int .i64 x.Size]) agg57 rfl (fun _ _ hu => ((hb100).kp hw' (fun e' => by have e'' : g40 = g17 := e'; omega)).cell hu) rfl) <| AH.br [4] (by kernel_rfl) rfl ⟨Br.mk' rfl rfl ?_, trivial⟩
        refine SR.gcall rfl ent69 (c_spec_l29Good w118 (⟨1, x.Tiles, x.Next, x.Fails, x.Size⟩ : ScanJob) (((((hm57).kp hk98 (fun b_ hb e' => hd60 (by have e'' : b_ = g40 := e'; rw [← e'']; exact hb))).lo hk119).rd))) rfl ?_
        rintro e w123 ⟨rfl, hk124⟩
        refine ⟨_, rfl, ?_⟩
        have hz125 := hk124.size
        have hB126 := hB121.lo hk124
        have hS127 := ((Kp.refl w97 : Kp (fun b_ => b_ = g17) w97 w97).lo hk119).lo hk124
        refine SR.nil ⟨hS127, _, rfl, ?_⟩
        refine AH.take 5 rfl (by kernel_rfl) trivial (hS127) (fun w' hw' => r_pick true rfl (v := .bool _) rfl) <| AH.br [6] (by kernel_rfl) rfl ⟨Br.mk' rfl trivial ?_, trivial⟩
        refine SR.store (o := 0) (vs := [.int .i64 1, .slice A31 n32 c33, .int .i64 x.Next, .int .i64 x.Fails, .int .i64 x.Size]) agg57.2 rfl rfl rfl rfl (((((hb22).lo hR92).kp hk98 (fun e' => by have e'' : g17 = g40 := e'; omega)).lo hk119).lo hk124) (Nat.le_of_ble_eq_true rfl) rfl ?_
        intro w128 hk129 hs130 hb131
        have hz132 := hk129.size
        have hB133 := hB126.new hk129 (by omega)
        have hS134 := (hS127).step hk129 (fun _ _ e => e)
        refine SR.nil ⟨hS134, _, rfl, ?_⟩
        refine AH.take 7 rfl (by kernel_rfl) trivial (hS134) (fun w' hw' => r_as (v := .bool _) rfl) <| AH.done (by kernel_rfl) ?_
        exact ⟨⟨rfl, (eDD (jat h122)), trivial⟩, hS134, (hb131)⟩
      · refine AH.s' 3 rfl (by kernel_rfl) rfl ((Kp.refl w97 : Kp (fun b_ => b_ = g17) w97 w97).lo hk119) <| AH.s' 4 rfl (by kernel_rfl) rfl ((Kp.refl w97 : Kp (fun b_ => b_ = g17) w97 w97).lo hk119) <| AH.take 5 rfl (by kernel_rfl) trivial ((Kp.refl w97 : Kp (fun b_ => b_ = g17) w97 w97).lo hk119) (fun w' hw' => r_pick false rfl (v := .bool false) rfl) <| AH.br [6] (by kernel_rfl) rfl ⟨Br.mk' rfl trivial ?_, trivial⟩
        refine SR.store (o := 0) (vs := [.int .i64 1, .slice A31 n32 c33, .int .i64 x.Next, .int .i64 x.Fails, .int .i64 x.Size]) agg57.2 rfl rfl rfl rfl ((((hb22).lo hR92).kp hk98 (fun e' => by have e'' : g17 = g40 := e'; omega)).lo hk119) (Nat.le_of_ble_eq_true rfl) rfl ?_
        intro w136 hk137 hs138 hb139
        have hz140 := hk137.size
        have hB141 := hB121.new hk137 (by omega)
        have hS142 := ((Kp.refl w97 : Kp (fun b_ => b_ = g17) w97 w97).lo hk119).step hk137 (fun _ _ e => e)
        refine SR.nil ⟨hS142, _, rfl, ?_⟩
        refine AH.take 7 rfl (by kernel_rfl) trivial (hS142) (fun w' hw' => r_as (v := .bool _) rfl) <| AH.done (by kernel_rfl) ?_
        exact ⟨⟨rfl, (eDF (jaf h122).2), trivial⟩, hS142, (hb139)⟩
    rintro f143 w144 ⟨hat146, hR145, hm135⟩
    rw [← sets_of_at hat146]
    have hz147 := hR145.size
    have hB148 := hB102.new hR145 (by omega)
    refine W.ret ?_
    refine retCT rfl rfl agg57 (hm135) rfl (v := .bool _) rfl ?_
    exact ⟨A31, n32, c33, eR (eT2 (eA (eC (eI (by subst hl38; unfold spec_l29Make; rw [if_pos h96] <;> rfl)) (eC rfl (eC (eI (by subst hl38; unfold spec_l29Make; rw [if_pos h96] <;> rfl)) (eC (eI (by subst hl38; unfold spec_l29Make; rw [if_pos h96] <;> rfl)) (eC (eI (by subst hl38; unfold spec_l29Make; rw [if_pos h96] <;> rfl)) rfl)))))) (eB (by subst hl38; unfold spec_l29Make; rw [if_pos h96] <;> rfl))), (SlO.eqv ((((hm57).kp hk98 (fun b_ hb e' => hd60 (by have e'' : b_ = g40 := e'; rw [← e'']; exact hb))).kp hR145 (fun b_ hb e' => by have e'' : b_ = g17 := e'; have := ((hm57).kp hk98 (fun b_ hb e' => hd60 (by have e'' : b_ = g40 := e'; rw [← e'']; exact hb))).base_le hb; omega)).down (by omega)) (by subst hl38; unfold spec_l29Make; rw [if_pos h96] <;> rfl)), hB148⟩
  · refine W.seq ?_
    refine W.regS (SR.q' (r_eq rfl rfl) <| SR.q' (r_as (v := .bool _) rfl) <| SR.nil ?_)
    refine W.cond_d rfl (fun h149 => ?_) (fun h149 => ?_)
    · refine W.seq ?_
      refine W.seq ?_
      refine W.regS (SR.q' (r_fa fa57_2 rfl) <| SR.q' (r_ld (v := .int .i64 x.Next) sca3 rfl (((((hb6).lo hk12).lo hk20).lo hR92).cell rfl)) <| SR.q' (r_fa fa57_1 rfl) <| SR.q' (r_ld (v := .slice Ax_Tiles nx_Tiles cx_Tiles) sca38 rfl (((((hb6).lo hk12).lo hk20).lo hR92).cell rfl)) <| SR.q' (r_len und38 rfl) <| SR.q' (r_eq rfl rfl) <| SR.nil ?_)
      refine W.cond_d rfl (fun h150 => ?_) (fun h150 => ?_)
      · refine W.seq ?_
        refine W.regS (SR.q' (r_lda (l := [.int .i64 x.State, .slice A31 n32 c33, .int .i64 x.Next, .int .i64 x.Fails, .int .i64 x.Size]) agg57 rfl (fun _ _ hu => (hm58).cell hu) rfl) <| SR.store (o := 0) (vs := [.int .i64 x.State, .slice A31 n32 c33, .int .i64 x.Next, .int .i64 x.Fails, .int .i64 x.Size]) agg57.2 rfl rfl rfl rfl ((hb22).lo hR92) (Nat.le_of_ble_eq_true rfl) rfl ?_)
        intro w151 hk152 hs153 hb154
        have hz155 := hk152.size
        have hB156 := hB95.new hk152 (by omega)
        refine SR.q' (r_as (v := .bool false) rfl) <| SR.nil ?_
        refine W.ret ?_
        refine retCT rfl rfl agg57 (hb154) rfl (v := .bool _) rfl ?_
        exact ⟨A31, n32, c33, eR (eT2 (eA (eC (eI (by subst hlex_Tiles hl38; unfold spec_l29Make; rw [if_neg h96, if_pos h149, if_pos h150] <;> rfl)) (eC rfl (eC (eI (by subst hlex_Tiles hl38; unfold spec_l29Make; rw [if_neg h96, if_pos h149, if_pos h150] <;> rfl)) (eC (eI (by subst hlex_Tiles hl38; unfold spec_l29Make; rw [if_neg h96, if_pos h149, if_pos h150] <;> rfl)) (eC (eI (by subst hlex_Tiles hl38; unfold spec_l29Make; rw [if_neg h96, if_pos h149, if_pos h150] <;> rfl)) rfl)))))) (eB (by subst hlex_Tiles hl38; unfold spec_l29Make; rw [if_neg h96, if_pos h149, if_pos h150] <;> rfl))), (SlO.eqv (((hm57).kp hk152 (fun b_ hb e' => by have e'' : b_ = g17 := e'; have := (hm57).base_le hb; omega)).down (by omega)) (by subst hlex_Tiles hl38; unfold spec_l29Make; rw [if_neg h96, if_pos h149, if_pos h150] <;> rfl)), hB156⟩
      · refine W.skip ?_
        refine W.seq ?_
        refine W.regS (SR.q' (r_fa fa57_1 rfl) <| SR.q' (r_ld (v := .slice A31 n32 c33) sca38 rfl ((hm58).cell rfl)) <| SR.q' (r_fa fa57_2 rfl) <| SR.q' (r_ld (v := .int .i64 x.Next) sca3 rfl (((((hb6).lo hk12).lo hk20).lo hR92).cell rfl)) <| SR.q' (r_fa fa60_1 rfl) <| SR.q' (r_ld (v := .int .i64 s.Value) sca3 rfl ((((hb14).lo hk20).lo hR92).cell rfl)) <| ?_)
        have hx158 := ((hm57).rd).elem (i := x.Next.toNat) (by omega)
        refine SR.q' (r_ixR tsl38 ((hm57).rd) rfl rfl (by omega)) <| SR.storeO (o := 0) (vs := [.int .i64 s.Value]) (x1 := s.Value) sca3.2 rfl rfl rfl rfl (hm57) hx158 rfl (Nat.le_of_ble_eq_true rfl) rfl ?_
        intro w159 hk160 hs161 hO162
        have hz163 := hk160.size
        have hB164 := hB95.step hk160 (fun i_ hi_ e' => by have := ((hm57)).base_le e'; first | omega | (exfalso; omega) | exact e' | exact .inl e' | exact .inr e')
        have hx165 : (x.Tiles.set x.Next.toNat s.Value)[x.Next.toNat]? = some (s.Value) := List.getElem?_set_self (List.getElem?_eq_some_iff.1 hx158).1
        refine SR.nil ?_
        refine W.seq ?_
        refine W.regS (SR.q' (r_fa fa57_2 rfl) <| SR.q' (r_ld (v := .int .i64 x.Next) sca3 rfl ((((((hb6).lo hk12).lo hk20).lo hR92).kp hk160 (fun e' => by have := ((hm57)).base_le e'; omega)).cell rfl)) <| SR.q' (r_add rfl rfl (by omega)) <| SR.q' (r_fa fa57_2 rfl) <| SR.store (o := 2) (vs := [.int .i64 (x.Next + 1)]) sca3.2 rfl rfl rfl rfl ((hm58).kp hk160 (fun e' => hd60 e')) (Nat.le_of_ble_eq_true rfl) rfl ?_)
        intro w166 hk167 hs168 hb169
        have hz170 := hk167.size
        have hB171 := hB164.new hk167 (by omega)
        refine SR.nil ?_
        refine W.seq ?_
        refine W.regS (SR.q' (r_fa fa57_4 rfl) <| SR.q' (r_ld (v := .int .i64 x.Size) sca3 rfl (((((((hb6).lo hk12).lo hk20).lo hR92).kp hk160 (fun e' => by have := ((hm57)).base_le e'; omega)).kp hk167 (fun e' => by have e'' : g1 = g40 := e'; omega)).cell rfl)) <| SR.q' (r_fa fa60_1 rfl) <| SR.q' (r_ld (v := .int .i64 s.Value) sca3 rfl ((((((hb14).lo hk20).lo hR92).kp hk160 (fun e' => by have := ((hm57)).base_le e'; omega)).kp hk167 (fun e' => by have e'' : g9 = g40 := e'; omega)).cell rfl)) <| SR.q' (r_mul rfl rfl (by omega)) <| SR.q' (r_add rfl rfl (by omega)) <| SR.q' (r_fa fa57_4 rfl) <| SR.store (o := 4) (vs := [.int .i64 (x.Size + (10 * s.Value))]) sca3.2 rfl rfl rfl rfl (hb169) (Nat.le_of_ble_eq_true rfl) rfl ?_)
        intro w172 hk173 hs174 hb175
        have hz176 := hk173.size
        have hB177 := hB171.new hk173 (by omega)
        refine SR.nil ?_
        refine W.regS (SR.q' (r_fa fa57_3 rfl) <| SR.store (o := 3) (vs := [.int .i64 0]) sca3.2 rfl rfl rfl rfl (hb175) (Nat.le_of_ble_eq_true rfl) rfl ?_)
        intro w178 hk179 hs180 hb181
        have hz182 := hk179.size
        have hB183 := hB177.new hk179 (by omega)
        refine SR.nil ?_
        refine W.seq ?_
        refine W.regA (Kp (fun b_ => b_ = g17) w178) (fun f' w' => At f' [(4, .pointer (some ((⟨g17, 0, none⟩ : Addr)))), (5, .bool (decide ((x.State = 1) ∧ (JobOK (⟨x.State, x.Tiles.set x.Next.toNat s.Value, x.Next + 1, 0, x.Size + (10 * s.Value)⟩ : ScanJob)))))] ∧ (Kp (fun b_ => b_ = g17) w178 w') ∧ (Blk w' g17 57 [.int .i64 x.State, .slice A31 n32 c33, .int .i64 (x.Next + 1), .int .i64 0, .int .i64 (x.Size + (10 * s.Value))])) mo ?_ ?_
        · intro w199 hk200
          have hz201 := hk200.size
          have hB202 := hB183.lo hk200
          refine AH.take 0 rfl (by kernel_rfl) trivial ((Kp.refl w178 : Kp (fun b_ => b_ = g17) w178 w178).lo hk200) (fun w' hw' => r_lda (l := [.int .i64 x.State, .slice A31 n32 c33, .int .i64 (x.Next + 1), .int .i64 0, .int .i64 (x.Size + (10 * s.Value))]) agg57 rfl (fun _ _ hu => ((hb181).kp hw' (fun e' => by have e'' : g40 = g17 := e'; omega)).cell hu) rfl) <| AH.take 1 rfl (by kernel_rfl) trivial ((Kp.refl w178 : Kp (fun b_ => b_ = g17) w178 w178).lo hk200) (fun w' hw' => r_mv (v := .bool _) rfl) <| AH.take 2 rfl (by kernel_rfl) trivial ((Kp.refl w178 : Kp (fun b_ => b_ = g17) w178 w178).lo hk200) (fun w' hw' => r_mv (v := .bool _) rfl) <| AH.splitD (fun h203 => ?_) (fun h203 => ?_)
          · refine AH.take 3 rfl (by kernel_rfl) rfl ((Kp.refl w178 : Kp (fun b_ => b_ = g17) w178 w178).lo hk200) (fun w' hw' => r_lda (l := [.int .i64 x.State, .slice A31 n32 c33, .int .i64 (x.Next + 1), .int .i64 0, .int .i64 (x.Size + (10 * s.Value))]) agg57 rfl (fun _ _ hu => ((hb181).kp hw' (fun e' => by have e'' : g40 = g17 := e'; omega)).cell hu) rfl) <| AH.br [4] (by kernel_rfl) rfl ⟨Br.mk' rfl rfl ?_, trivial⟩
            refine SR.gcall rfl ent69 (c_spec_l29Good w199 (⟨x.State, x.Tiles.set x.Next.toNat s.Value, x.Next + 1, 0, x.Size + (10 * s.Value)⟩ : ScanJob) (((((((hO162).kp hk167 (fun b_ hb e' => hd60 (by have e'' : b_ = g40 := e'; rw [← e'']; exact hb))).kp hk173 (fun b_ hb e' => hd60 (by have e'' : b_ = g40 := e'; rw [← e'']; exact hb))).kp hk179 (fun b_ hb e' => hd60 (by have e'' : b_ = g40 := e'; rw [← e'']; exact hb))).lo hk200).rd))) rfl ?_
            rintro e w204 ⟨rfl, hk205⟩
            refine ⟨_, rfl, ?_⟩
            have hz206 := hk205.size
            have hB207 := hB202.lo hk205
            have hS208 := ((Kp.refl w178 : Kp (fun b_ => b_ = g17) w178 w178).lo hk200).lo hk205
            refine SR.nil ⟨hS208, _, rfl, ?_⟩
            refine AH.take 5 rfl (by kernel_rfl) trivial (hS208) (fun w' hw' => r_pick true rfl (v := .bool _) rfl) <| AH.br [6] (by kernel_rfl) rfl ⟨Br.mk' rfl trivial ?_, trivial⟩
            refine SR.store (o := 0) (vs := [.int .i64 x.State, .slice A31 n32 c33, .int .i64 (x.Next + 1), .int .i64 0, .int .i64 (x.Size + (10 * s.Value))]) agg57.2 rfl rfl rfl rfl ((((((((hb22).lo hR92).kp hk160 (fun e' => by have := ((hm57)).base_le e'; omega)).kp hk167 (fun e' => by have e'' : g17 = g40 := e'; omega)).kp hk173 (fun e' => by have e'' : g17 = g40 := e'; omega)).kp hk179 (fun e' => by have e'' : g17 = g40 := e'; omega)).lo hk200).lo hk205) (Nat.le_of_ble_eq_true rfl) rfl ?_
            intro w209 hk210 hs211 hb212
            have hz213 := hk210.size
            have hB214 := hB207.new hk210 (by omega)
            have hS215 := (hS208).step hk210 (fun _ _ e => e)
            refine SR.nil ⟨hS215, _, rfl, ?_⟩
            refine AH.take 7 rfl (by kernel_rfl) trivial (hS215) (fun w' hw' => r_as (v := .bool _) rfl) <| AH.done (by kernel_rfl) ?_
            exact ⟨⟨rfl, (eDD (jat h203)), trivial⟩, hS215, (hb212)⟩
          · refine AH.s' 3 rfl (by kernel_rfl) rfl ((Kp.refl w178 : Kp (fun b_ => b_ = g17) w178 w178).lo hk200) <| AH.s' 4 rfl (by kernel_rfl) rfl ((Kp.refl w178 : Kp (fun b_ => b_ = g17) w178 w178).lo hk200) <| AH.take 5 rfl (by kernel_rfl) trivial ((Kp.refl w178 : Kp (fun b_ => b_ = g17) w178 w178).lo hk200) (fun w' hw' => r_pick false rfl (v := .bool false) rfl) <| AH.br [6] (by kernel_rfl) rfl ⟨Br.mk' rfl trivial ?_, trivial⟩
            refine SR.store (o := 0) (vs := [.int .i64 x.State, .slice A31 n32 c33, .int .i64 (x.Next + 1), .int .i64 0, .int .i64 (x.Size + (10 * s.Value))]) agg57.2 rfl rfl rfl rfl (((((((hb22).lo hR92).kp hk160 (fun e' => by have := ((hm57)).base_le e'; omega)).kp hk167 (fun e' => by have e'' : g17 = g40 := e'; omega)).kp hk173 (fun e' => by have e'' : g17 = g40 := e'; omega)).kp hk179 (fun e' => by have e'' : g17 = g40 := e'; omega)).lo hk200) (Nat.le_of_ble_eq_true rfl) rfl ?_
            intro w217 hk218 hs219 hb220
            have hz221 := hk218.size
            have hB222 := hB202.new hk218 (by omega)
            have hS223 := ((Kp.refl w178 : Kp (fun b_ => b_ = g17) w178 w178).lo hk200).step hk218 (fun _ _ e => e)
            refine SR.nil ⟨hS223, _, rfl, ?_⟩
            refine AH.take 7 rfl (by kernel_rfl) trivial (hS223) (fun w' hw' => r_as (v := .bool _) rfl) <| AH.done (by kernel_rfl) ?_
            exact ⟨⟨rfl, (eDF (jaf h203).2), trivial⟩, hS223, (hb220)⟩
        rintro f224 w225 ⟨hat227, hR226, hm216⟩
        rw [← sets_of_at hat227]
        have hz228 := hR226.size
        have hB229 := hB183.new hR226 (by omega)
        refine W.ret ?_
        refine retCT rfl rfl agg57 (hm216) rfl (v := .bool _) rfl ?_
        exact ⟨A31, n32, c33, eR (eT2 (eA (eC (eI (by subst hlex_Tiles hl38; unfold spec_l29Make; rw [if_neg h96, if_pos h149, if_neg h150] <;> rfl)) (eC rfl (eC (eI (by subst hlex_Tiles hl38; unfold spec_l29Make; rw [if_neg h96, if_pos h149, if_neg h150] <;> rfl)) (eC (eI (by subst hlex_Tiles hl38; unfold spec_l29Make; rw [if_neg h96, if_pos h149, if_neg h150] <;> rfl)) (eC (eI (by subst hlex_Tiles hl38; unfold spec_l29Make; rw [if_neg h96, if_pos h149, if_neg h150] <;> rfl)) rfl)))))) (eB (by subst hlex_Tiles hl38; unfold spec_l29Make; rw [if_neg h96, if_pos h149, if_neg h150] <;> rfl))), (SlO.eqv ((((((hO162).kp hk167 (fun b_ hb e' => hd60 (by have e'' : b_ = g40 := e'; rw [← e'']; exact hb))).kp hk173 (fun b_ hb e' => hd60 (by have e'' : b_ = g40 := e'; rw [← e'']; exact hb))).kp hk179 (fun b_ hb e' => hd60 (by have e'' : b_ = g40 := e'; rw [← e'']; exact hb))).kp hR226 (fun b_ hb e' => by have e'' : b_ = g17 := e'; have := ((((hO162).kp hk167 (fun b_ hb e' => hd60 (by have e'' : b_ = g40 := e'; rw [← e'']; exact hb))).kp hk173 (fun b_ hb e' => hd60 (by have e'' : b_ = g40 := e'; rw [← e'']; exact hb))).kp hk179 (fun b_ hb e' => hd60 (by have e'' : b_ = g40 := e'; rw [← e'']; exact hb))).base_le hb; omega)).down (by omega)) (by subst hlex_Tiles hl38; unfold spec_l29Make; rw [if_neg h96, if_pos h149, if_neg h150] <;> rfl)), hB229⟩
    · refine W.seq ?_
      refine W.regS (SR.q' (r_eq rfl rfl) <| SR.q' (r_as (v := .bool _) rfl) <| SR.nil ?_)
      refine W.cond_d rfl (fun h230 => ?_) (fun h230 => ?_)
      · refine W.seq ?_
        refine W.regS (SR.q' (r_fa fa57_3 rfl) <| SR.q' (r_ld (v := .int .i64 x.Fails) sca3 rfl (((((hb6).lo hk12).lo hk20).lo hR92).cell rfl)) <| SR.q' (r_add rfl rfl (by omega)) <| SR.q' (r_fa fa57_3 rfl) <| SR.store (o := 3) (vs := [.int .i64 (x.Fails + 1)]) sca3.2 rfl rfl rfl rfl (hm58) (Nat.le_of_ble_eq_true rfl) rfl ?_)
        intro w231 hk232 hs233 hb234
        have hz235 := hk232.size
        have hB236 := hB95.new hk232 (by omega)
        refine SR.nil ?_
        refine W.seq ?_
        refine W.seq ?_
        refine W.regS (SR.q' (r_fa fa57_3 rfl) <| SR.q' (r_ld (v := .int .i64 (x.Fails + 1)) sca3 rfl ((hb234).cell rfl)) <| SR.q' (r_eq rfl rfl) <| SR.nil ?_)
        refine W.cond_d rfl (fun h237 => ?_) (fun h237 => ?_)
        · refine W.regS (SR.q' (r_fa fa57_0 rfl) <| SR.store (o := 0) (vs := [.int .i64 2]) sca3.2 rfl rfl rfl rfl (hb234) (Nat.le_of_ble_eq_true rfl) rfl ?_)
          intro w238 hk239 hs240 hb241
          have hz242 := hk239.size
          have hB243 := hB236.new hk239 (by omega)
          refine SR.nil ?_
          refine W.regJS (fun f' w' => At f' [(4, .pointer (some ((⟨g17, 0, none⟩ : Addr)))), (5, .bool false), (6, .pointer (some ((⟨g40, 0, none⟩ : Addr)))), (8, .bool (decide ((x.State = 1) ∧ (x.Next < (nx_Tiles : Int)))))] ∧ Lo w238 w') ?_ ?_
          · refine SR.q' (r_mv (v := .bool _) rfl) <| SR.q' (r_mv (v := .bool _) rfl) <| SR.splitD (fun h244 => ?_) (fun h244 => ?_)
            · refine SR.g' rfl (r_fa fa57_2 rfl) <| SR.g' rfl (r_ld (v := .int .i64 x.Next) sca3 rfl (((((((hb6).lo hk12).lo hk20).lo hR92).kp hk232 (fun e' => by have e'' : g1 = g40 := e'; omega)).kp hk239 (fun e' => by have e'' : g1 = g40 := e'; omega)).cell rfl)) <| SR.g' rfl (r_fa fa57_1 rfl) <| SR.g' rfl (r_ld (v := .slice Ax_Tiles nx_Tiles cx_Tiles) sca38 rfl (((((((hb6).lo hk12).lo hk20).lo hR92).kp hk232 (fun e' => by have e'' : g1 = g40 := e'; omega)).kp hk239 (fun e' => by have e'' : g1 = g40 := e'; omega)).cell rfl)) <| SR.g' rfl (r_len und38 rfl) <| SR.g' rfl (r_lt rfl rfl) <| SR.q' (r_pick true rfl (v := .bool _) rfl) <| SR.q' (r_as (v := .bool _) rfl) <| SR.nil ?_
              exact ⟨_, rfl, ⟨⟨rfl, rfl, rfl, (eDD (jat h244)), trivial⟩, (Lo.refl _)⟩⟩
            · refine SR.s' rfl <| SR.s' rfl <| SR.s' rfl <| SR.s' rfl <| SR.s' rfl <| SR.s' rfl <| SR.q' (r_pick false rfl (v := .bool false) rfl) <| SR.q' (r_as (v := .bool _) rfl) <| SR.nil ?_
              exact ⟨_, rfl, ⟨⟨rfl, rfl, rfl, (eDF (jaf h244).2), trivial⟩, (Lo.refl _)⟩⟩
          rintro f245 w246 ⟨hat247, hk248⟩
          rw [← sets_of_at hat247]
          have hz249 := hk248.size
          have hB250 := hB243.lo hk248
          refine W.seq ?_
          refine W.regA (Kp (fun b_ => b_ = g17) w246) (fun f' w' => At f' [(4, .pointer (some ((⟨g17, 0, none⟩ : Addr)))), (5, .bool (decide (((x.State = 1) ∧ (x.Next < (nx_Tiles : Int))) ∧ (JobOK (⟨2, x.Tiles, x.Next, x.Fails + 1, x.Size⟩ : ScanJob)))))] ∧ (Kp (fun b_ => b_ = g17) w246 w') ∧ (Blk w' g17 57 [.int .i64 2, .slice A31 n32 c33, .int .i64 x.Next, .int .i64 (x.Fails + 1), .int .i64 x.Size])) mo ?_ ?_
          · intro w268 hk269
            have hz270 := hk269.size
            have hB271 := hB250.lo hk269
            refine AH.take 0 rfl (by kernel_rfl) trivial ((Kp.refl w246 : Kp (fun b_ => b_ = g17) w246 w246).lo hk269) (fun w' hw' => r_lda (l := [.int .i64 2, .slice A31 n32 c33, .int .i64 x.Next, .int .i64 (x.Fails + 1), .int .i64 x.Size]) agg57 rfl (fun _ _ hu => (((hb241).lo hk248).kp hw' (fun e' => by have e'' : g40 = g17 := e'; omega)).cell hu) rfl) <| AH.take 1 rfl (by kernel_rfl) trivial ((Kp.refl w246 : Kp (fun b_ => b_ = g17) w246 w246).lo hk269) (fun w' hw' => r_mv (v := .bool _) rfl) <| AH.take 2 rfl (by kernel_rfl) trivial ((Kp.refl w246 : Kp (fun b_ => b_ = g17) w246 w246).lo hk269) (fun w' hw' => r_mv (v := .bool _) rfl) <| AH.splitD (fun h272 => ?_) (fun h272 => ?_)
            · have hq273 : x.State = 1 := h272.1
              have hq274 : x.Next < (nx_Tiles : Int) := h272.2
              refine AH.take 3 rfl (by kernel_rfl) rfl ((Kp.refl w246 : Kp (fun b_ => b_ = g17) w246 w246).lo hk269) (fun w' hw' => r_lda (l := [.int .i64 2, .slice A31 n32 c33, .int .i64 x.Next, .int .i64 (x.Fails + 1), .int .i64 x.Size]) agg57 rfl (fun _ _ hu => (((hb241).lo hk248).kp hw' (fun e' => by have e'' : g40 = g17 := e'; omega)).cell hu) rfl) <| AH.br [4] (by kernel_rfl) rfl ⟨Br.mk' rfl rfl ?_, trivial⟩
              refine SR.gcall rfl ent69 (c_spec_l29Good w268 (⟨2, x.Tiles, x.Next, x.Fails + 1, x.Size⟩ : ScanJob) (((((((hm57).kp hk232 (fun b_ hb e' => hd60 (by have e'' : b_ = g40 := e'; rw [← e'']; exact hb))).kp hk239 (fun b_ hb e' => hd60 (by have e'' : b_ = g40 := e'; rw [← e'']; exact hb))).lo hk248).lo hk269).rd))) rfl ?_
              rintro e w275 ⟨rfl, hk276⟩
              refine ⟨_, rfl, ?_⟩
              have hz277 := hk276.size
              have hB278 := hB271.lo hk276
              have hS279 := ((Kp.refl w246 : Kp (fun b_ => b_ = g17) w246 w246).lo hk269).lo hk276
              refine SR.nil ⟨hS279, _, rfl, ?_⟩
              refine AH.take 5 rfl (by kernel_rfl) trivial (hS279) (fun w' hw' => r_pick true rfl (v := .bool _) rfl) <| AH.br [6] (by kernel_rfl) rfl ⟨Br.mk' rfl trivial ?_, trivial⟩
              refine SR.store (o := 0) (vs := [.int .i64 2, .slice A31 n32 c33, .int .i64 x.Next, .int .i64 (x.Fails + 1), .int .i64 x.Size]) agg57.2 rfl rfl rfl rfl (((((((hb22).lo hR92).kp hk232 (fun e' => by have e'' : g17 = g40 := e'; omega)).kp hk239 (fun e' => by have e'' : g17 = g40 := e'; omega)).lo hk248).lo hk269).lo hk276) (Nat.le_of_ble_eq_true rfl) rfl ?_
              intro w280 hk281 hs282 hb283
              have hz284 := hk281.size
              have hB285 := hB278.new hk281 (by omega)
              have hS286 := (hS279).step hk281 (fun _ _ e => e)
              refine SR.nil ⟨hS286, _, rfl, ?_⟩
              refine AH.take 7 rfl (by kernel_rfl) trivial (hS286) (fun w' hw' => r_as (v := .bool _) rfl) <| AH.done (by kernel_rfl) ?_
              exact ⟨⟨rfl, (eDD (jat h272)), trivial⟩, hS286, (hb283)⟩
            · refine AH.s' 3 rfl (by kernel_rfl) rfl ((Kp.refl w246 : Kp (fun b_ => b_ = g17) w246 w246).lo hk269) <| AH.s' 4 rfl (by kernel_rfl) rfl ((Kp.refl w246 : Kp (fun b_ => b_ = g17) w246 w246).lo hk269) <| AH.take 5 rfl (by kernel_rfl) trivial ((Kp.refl w246 : Kp (fun b_ => b_ = g17) w246 w246).lo hk269) (fun w' hw' => r_pick false rfl (v := .bool false) rfl) <| AH.br [6] (by kernel_rfl) rfl ⟨Br.mk' rfl trivial ?_, trivial⟩
              refine SR.store (o := 0) (vs := [.int .i64 2, .slice A31 n32 c33, .int .i64 x.Next, .int .i64 (x.Fails + 1), .int .i64 x.Size]) agg57.2 rfl rfl rfl rfl ((((((hb22).lo hR92).kp hk232 (fun e' => by have e'' : g17 = g40 := e'; omega)).kp hk239 (fun e' => by have e'' : g17 = g40 := e'; omega)).lo hk248).lo hk269) (Nat.le_of_ble_eq_true rfl) rfl ?_
              intro w288 hk289 hs290 hb291
              have hz292 := hk289.size
              have hB293 := hB271.new hk289 (by omega)
              have hS294 := ((Kp.refl w246 : Kp (fun b_ => b_ = g17) w246 w246).lo hk269).step hk289 (fun _ _ e => e)
              refine SR.nil ⟨hS294, _, rfl, ?_⟩
              refine AH.take 7 rfl (by kernel_rfl) trivial (hS294) (fun w' hw' => r_as (v := .bool _) rfl) <| AH.done (by kernel_rfl) ?_
              exact ⟨⟨rfl, (eDF (jaf h272).2), trivial⟩, hS294, (hb291)⟩
          rintro f295 w296 ⟨hat298, hR297, hm287⟩
          rw [← sets_of_at hat298]
          have hz299 := hR297.size
          have hB300 := hB250.new hR297 (by omega)
          refine W.ret ?_
          refine retCT rfl rfl agg57 (hm287) rfl (v := .bool _) rfl ?_
          exact ⟨A31, n32, c33, eR (eT2 (eA (eC (eI (by subst hlex_Tiles hl38; unfold spec_l29Make; rw [if_neg h96, if_neg h149, if_pos h230, if_pos h237] <;> rfl)) (eC rfl (eC (eI (by subst hlex_Tiles hl38; unfold spec_l29Make; rw [if_neg h96, if_neg h149, if_pos h230, if_pos h237] <;> rfl)) (eC (eI (by subst hlex_Tiles hl38; unfold spec_l29Make; rw [if_neg h96, if_neg h149, if_pos h230, if_pos h237] <;> rfl)) (eC (eI (by subst hlex_Tiles hl38; unfold spec_l29Make; rw [if_neg h96, if_neg h149, if_pos h230, if_pos h237] <;> rfl)) rfl)))))) (eB (by subst hlex_Tiles hl38; unfold spec_l29Make; rw [if_neg h96, if_neg h149, if_pos h230, if_pos h237] <;> rfl))), (SlO.eqv ((((((hm57).kp hk232 (fun b_ hb e' => hd60 (by have e'' : b_ = g40 := e'; rw [← e'']; exact hb))).kp hk239 (fun b_ hb e' => hd60 (by have e'' : b_ = g40 := e'; rw [← e'']; exact hb))).lo hk248).kp hR297 (fun b_ hb e' => by have e'' : b_ = g17 := e'; have := ((((hm57).kp hk232 (fun b_ hb e' => hd60 (by have e'' : b_ = g40 := e'; rw [← e'']; exact hb))).kp hk239 (fun b_ hb e' => hd60 (by have e'' : b_ = g40 := e'; rw [← e'']; exact hb))).lo hk248).base_le hb; omega)).down (by omega)) (by subst hlex_Tiles hl38; unfold spec_l29Make; rw [if_neg h96, if_neg h149, if_pos h230, if_pos h237] <;> rfl)), hB300⟩
        · refine W.skip ?_
          refine W.regJS (fun f' w' => At f' [(4, .pointer (some ((⟨g17, 0, none⟩ : Addr)))), (5, .bool false), (6, .pointer (some ((⟨g40, 0, none⟩ : Addr)))), (8, .bool (decide ((x.State = 1) ∧ (x.Next < (nx_Tiles : Int)))))] ∧ Lo w231 w') ?_ ?_
          · refine SR.q' (r_mv (v := .bool _) rfl) <| SR.q' (r_mv (v := .bool _) rfl) <| SR.splitD (fun h301 => ?_) (fun h301 => ?_)
            · refine SR.g' rfl (r_fa fa57_2 rfl) <| SR.g' rfl (r_ld (v := .int .i64 x.Next) sca3 rfl ((((((hb6).lo hk12).lo hk20).lo hR92).kp hk232 (fun e' => by have e'' : g1 = g40 := e'; omega)).cell rfl)) <| SR.g' rfl (r_fa fa57_1 rfl) <| SR.g' rfl (r_ld (v := .slice Ax_Tiles nx_Tiles cx_Tiles) sca38 rfl ((((((hb6).lo hk12).lo hk20).lo hR92).kp hk232 (fun e' => by have e'' : g1 = g40 := e'; omega)).cell rfl)) <| SR.g' rfl (r_len und38 rfl) <| SR.g' rfl (r_lt rfl rfl) <| SR.q' (r_pick true rfl (v := .bool _) rfl) <| SR.q' (r_as (v := .bool _) rfl) <| SR.nil ?_
              exact ⟨_, rfl, ⟨⟨rfl, rfl, rfl, (eDD (jat h301)), trivial⟩, (Lo.refl _)⟩⟩
            · refine SR.s' rfl <| SR.s' rfl <| SR.s' rfl <| SR.s' rfl <| SR.s' rfl <| SR.s' rfl <| SR.q' (r_pick false rfl (v := .bool false) rfl) <| SR.q' (r_as (v := .bool _) rfl) <| SR.nil ?_
              exact ⟨_, rfl, ⟨⟨rfl, rfl, rfl, (eDF (jaf h301).2), trivial⟩, (Lo.refl _)⟩⟩
          rintro f302 w303 ⟨hat304, hk305⟩
          rw [← sets_of_at hat304]
          have hz306 := hk305.size
          have hB307 := hB236.lo hk305
          refine W.seq ?_
          refine W.regA (Kp (fun b_ => b_ = g17) w303) (fun f' w' => At f' [(4, .pointer (some ((⟨g17, 0, none⟩ : Addr)))), (5, .bool (decide (((x.State = 1) ∧ (x.Next < (nx_Tiles : Int))) ∧ (JobOK (⟨x.State, x.Tiles, x.Next, x.Fails + 1, x.Size⟩ : ScanJob)))))] ∧ (Kp (fun b_ => b_ = g17) w303 w') ∧ (Blk w' g17 57 [.int .i64 x.State, .slice A31 n32 c33, .int .i64 x.Next, .int .i64 (x.Fails + 1), .int .i64 x.Size])) mo ?_ ?_
          · intro w325 hk326
            have hz327 := hk326.size
            have hB328 := hB307.lo hk326
            refine AH.take 0 rfl (by kernel_rfl) trivial ((Kp.refl w303 : Kp (fun b_ => b_ = g17) w303 w303).lo hk326) (fun w' hw' => r_lda (l := [.int .i64 x.State, .slice A31 n32 c33, .int .i64 x.Next, .int .i64 (x.Fails + 1), .int .i64 x.Size]) agg57 rfl (fun _ _ hu => (((hb234).lo hk305).kp hw' (fun e' => by have e'' : g40 = g17 := e'; omega)).cell hu) rfl) <| AH.take 1 rfl (by kernel_rfl) trivial ((Kp.refl w303 : Kp (fun b_ => b_ = g17) w303 w303).lo hk326) (fun w' hw' => r_mv (v := .bool _) rfl) <| AH.take 2 rfl (by kernel_rfl) trivial ((Kp.refl w303 : Kp (fun b_ => b_ = g17) w303 w303).lo hk326) (fun w' hw' => r_mv (v := .bool _) rfl) <| AH.splitD (fun h329 => ?_) (fun h329 => ?_)
            · have hq330 : x.State = 1 := h329.1
              have hq331 : x.Next < (nx_Tiles : Int) := h329.2
              refine AH.take 3 rfl (by kernel_rfl) rfl ((Kp.refl w303 : Kp (fun b_ => b_ = g17) w303 w303).lo hk326) (fun w' hw' => r_lda (l := [.int .i64 x.State, .slice A31 n32 c33, .int .i64 x.Next, .int .i64 (x.Fails + 1), .int .i64 x.Size]) agg57 rfl (fun _ _ hu => (((hb234).lo hk305).kp hw' (fun e' => by have e'' : g40 = g17 := e'; omega)).cell hu) rfl) <| AH.br [4] (by kernel_rfl) rfl ⟨Br.mk' rfl rfl ?_, trivial⟩
              refine SR.gcall rfl ent69 (c_spec_l29Good w325 (⟨x.State, x.Tiles, x.Next, x.Fails + 1, x.Size⟩ : ScanJob) ((((((hm57).kp hk232 (fun b_ hb e' => hd60 (by have e'' : b_ = g40 := e'; rw [← e'']; exact hb))).lo hk305).lo hk326).rd))) rfl ?_
              rintro e w332 ⟨rfl, hk333⟩
              refine ⟨_, rfl, ?_⟩
              have hz334 := hk333.size
              have hB335 := hB328.lo hk333
              have hS336 := ((Kp.refl w303 : Kp (fun b_ => b_ = g17) w303 w303).lo hk326).lo hk333
              refine SR.nil ⟨hS336, _, rfl, ?_⟩
              refine AH.take 5 rfl (by kernel_rfl) trivial (hS336) (fun w' hw' => r_pick true rfl (v := .bool _) rfl) <| AH.br [6] (by kernel_rfl) rfl ⟨Br.mk' rfl trivial ?_, trivial⟩
              refine SR.store (o := 0) (vs := [.int .i64 x.State, .slice A31 n32 c33, .int .i64 x.Next, .int .i64 (x.Fails + 1), .int .i64 x.Size]) agg57.2 rfl rfl rfl rfl ((((((hb22).lo hR92).kp hk232 (fun e' => by have e'' : g17 = g40 := e'; omega)).lo hk305).lo hk326).lo hk333) (Nat.le_of_ble_eq_true rfl) rfl ?_
              intro w337 hk338 hs339 hb340
              have hz341 := hk338.size
              have hB342 := hB335.new hk338 (by omega)
              have hS343 := (hS336).step hk338 (fun _ _ e => e)
              refine SR.nil ⟨hS343, _, rfl, ?_⟩
              refine AH.take 7 rfl (by kernel_rfl) trivial (hS343) (fun w' hw' => r_as (v := .bool _) rfl) <| AH.done (by kernel_rfl) ?_
              exact ⟨⟨rfl, (eDD (jat h329)), trivial⟩, hS343, (hb340)⟩
            · refine AH.s' 3 rfl (by kernel_rfl) rfl ((Kp.refl w303 : Kp (fun b_ => b_ = g17) w303 w303).lo hk326) <| AH.s' 4 rfl (by kernel_rfl) rfl ((Kp.refl w303 : Kp (fun b_ => b_ = g17) w303 w303).lo hk326) <| AH.take 5 rfl (by kernel_rfl) trivial ((Kp.refl w303 : Kp (fun b_ => b_ = g17) w303 w303).lo hk326) (fun w' hw' => r_pick false rfl (v := .bool false) rfl) <| AH.br [6] (by kernel_rfl) rfl ⟨Br.mk' rfl trivial ?_, trivial⟩
              refine SR.store (o := 0) (vs := [.int .i64 x.State, .slice A31 n32 c33, .int .i64 x.Next, .int .i64 (x.Fails + 1), .int .i64 x.Size]) agg57.2 rfl rfl rfl rfl (((((hb22).lo hR92).kp hk232 (fun e' => by have e'' : g17 = g40 := e'; omega)).lo hk305).lo hk326) (Nat.le_of_ble_eq_true rfl) rfl ?_
              intro w345 hk346 hs347 hb348
              have hz349 := hk346.size
              have hB350 := hB328.new hk346 (by omega)
              have hS351 := ((Kp.refl w303 : Kp (fun b_ => b_ = g17) w303 w303).lo hk326).step hk346 (fun _ _ e => e)
              refine SR.nil ⟨hS351, _, rfl, ?_⟩
              refine AH.take 7 rfl (by kernel_rfl) trivial (hS351) (fun w' hw' => r_as (v := .bool _) rfl) <| AH.done (by kernel_rfl) ?_
              exact ⟨⟨rfl, (eDF (jaf h329).2), trivial⟩, hS351, (hb348)⟩
          rintro f352 w353 ⟨hat355, hR354, hm344⟩
          rw [← sets_of_at hat355]
          have hz356 := hR354.size
          have hB357 := hB307.new hR354 (by omega)
          refine W.ret ?_
          refine retCT rfl rfl agg57 (hm344) rfl (v := .bool _) rfl ?_
          exact ⟨A31, n32, c33, eR (eT2 (eA (eC (eI (by subst hlex_Tiles hl38; unfold spec_l29Make; rw [if_neg h96, if_neg h149, if_pos h230, if_neg h237] <;> rfl)) (eC rfl (eC (eI (by subst hlex_Tiles hl38; unfold spec_l29Make; rw [if_neg h96, if_neg h149, if_pos h230, if_neg h237] <;> rfl)) (eC (eI (by subst hlex_Tiles hl38; unfold spec_l29Make; rw [if_neg h96, if_neg h149, if_pos h230, if_neg h237] <;> rfl)) (eC (eI (by subst hlex_Tiles hl38; unfold spec_l29Make; rw [if_neg h96, if_neg h149, if_pos h230, if_neg h237] <;> rfl)) rfl)))))) (eB (by subst hlex_Tiles hl38; unfold spec_l29Make; rw [if_neg h96, if_neg h149, if_pos h230, if_neg h237] <;> rfl))), (SlO.eqv (((((hm57).kp hk232 (fun b_ hb e' => hd60 (by have e'' : b_ = g40 := e'; rw [← e'']; exact hb))).lo hk305).kp hR354 (fun b_ hb e' => by have e'' : b_ = g17 := e'; have := (((hm57).kp hk232 (fun b_ hb e' => hd60 (by have e'' : b_ = g40 := e'; rw [← e'']; exact hb))).lo hk305).base_le hb; omega)).down (by omega)) (by subst hlex_Tiles hl38; unfold spec_l29Make; rw [if_neg h96, if_neg h149, if_pos h230, if_neg h237] <;> rfl)), hB357⟩
      · refine W.seq ?_
        refine W.regS (SR.q' (r_eq rfl rfl) <| SR.q' (r_as (v := .bool _) rfl) <| SR.nil ?_)
        refine W.cond_d rfl (fun h358 => ?_) (fun h358 => ?_)
        · refine W.regS (SR.q' (r_fa fa57_0 rfl) <| SR.store (o := 0) (vs := [.int .i64 2]) sca3.2 rfl rfl rfl rfl (hm58) (Nat.le_of_ble_eq_true rfl) rfl ?_)
          intro w359 hk360 hs361 hb362
          have hz363 := hk360.size
          have hB364 := hB95.new hk360 (by omega)
          refine SR.nil ?_
          refine W.seq ?_
          refine W.regA (Kp (fun b_ => b_ = g17) w359) (fun f' w' => At f' [(4, .pointer (some ((⟨g17, 0, none⟩ : Addr)))), (5, .bool (decide ((x.State = 1) ∧ (JobOK (⟨2, x.Tiles, x.Next, x.Fails, x.Size⟩ : ScanJob)))))] ∧ (Kp (fun b_ => b_ = g17) w359 w') ∧ (Blk w' g17 57 [.int .i64 2, .slice A31 n32 c33, .int .i64 x.Next, .int .i64 x.Fails, .int .i64 x.Size])) mo ?_ ?_
          · intro w380 hk381
            have hz382 := hk381.size
            have hB383 := hB364.lo hk381
            refine AH.take 0 rfl (by kernel_rfl) trivial ((Kp.refl w359 : Kp (fun b_ => b_ = g17) w359 w359).lo hk381) (fun w' hw' => r_lda (l := [.int .i64 2, .slice A31 n32 c33, .int .i64 x.Next, .int .i64 x.Fails, .int .i64 x.Size]) agg57 rfl (fun _ _ hu => ((hb362).kp hw' (fun e' => by have e'' : g40 = g17 := e'; omega)).cell hu) rfl) <| AH.take 1 rfl (by kernel_rfl) trivial ((Kp.refl w359 : Kp (fun b_ => b_ = g17) w359 w359).lo hk381) (fun w' hw' => r_mv (v := .bool _) rfl) <| AH.take 2 rfl (by kernel_rfl) trivial ((Kp.refl w359 : Kp (fun b_ => b_ = g17) w359 w359).lo hk381) (fun w' hw' => r_mv (v := .bool _) rfl) <| AH.splitD (fun h384 => ?_) (fun h384 => ?_)
            · refine AH.take 3 rfl (by kernel_rfl) rfl ((Kp.refl w359 : Kp (fun b_ => b_ = g17) w359 w359).lo hk381) (fun w' hw' => r_lda (l := [.int .i64 2, .slice A31 n32 c33, .int .i64 x.Next, .int .i64 x.Fails, .int .i64 x.Size]) agg57 rfl (fun _ _ hu => ((hb362).kp hw' (fun e' => by have e'' : g40 = g17 := e'; omega)).cell hu) rfl) <| AH.br [4] (by kernel_rfl) rfl ⟨Br.mk' rfl rfl ?_, trivial⟩
              refine SR.gcall rfl ent69 (c_spec_l29Good w380 (⟨2, x.Tiles, x.Next, x.Fails, x.Size⟩ : ScanJob) (((((hm57).kp hk360 (fun b_ hb e' => hd60 (by have e'' : b_ = g40 := e'; rw [← e'']; exact hb))).lo hk381).rd))) rfl ?_
              rintro e w385 ⟨rfl, hk386⟩
              refine ⟨_, rfl, ?_⟩
              have hz387 := hk386.size
              have hB388 := hB383.lo hk386
              have hS389 := ((Kp.refl w359 : Kp (fun b_ => b_ = g17) w359 w359).lo hk381).lo hk386
              refine SR.nil ⟨hS389, _, rfl, ?_⟩
              refine AH.take 5 rfl (by kernel_rfl) trivial (hS389) (fun w' hw' => r_pick true rfl (v := .bool _) rfl) <| AH.br [6] (by kernel_rfl) rfl ⟨Br.mk' rfl trivial ?_, trivial⟩
              refine SR.store (o := 0) (vs := [.int .i64 2, .slice A31 n32 c33, .int .i64 x.Next, .int .i64 x.Fails, .int .i64 x.Size]) agg57.2 rfl rfl rfl rfl (((((hb22).lo hR92).kp hk360 (fun e' => by have e'' : g17 = g40 := e'; omega)).lo hk381).lo hk386) (Nat.le_of_ble_eq_true rfl) rfl ?_
              intro w390 hk391 hs392 hb393
              have hz394 := hk391.size
              have hB395 := hB388.new hk391 (by omega)
              have hS396 := (hS389).step hk391 (fun _ _ e => e)
              refine SR.nil ⟨hS396, _, rfl, ?_⟩
              refine AH.take 7 rfl (by kernel_rfl) trivial (hS396) (fun w' hw' => r_as (v := .bool _) rfl) <| AH.done (by kernel_rfl) ?_
              exact ⟨⟨rfl, (eDD (jat h384)), trivial⟩, hS396, (hb393)⟩
            · refine AH.s' 3 rfl (by kernel_rfl) rfl ((Kp.refl w359 : Kp (fun b_ => b_ = g17) w359 w359).lo hk381) <| AH.s' 4 rfl (by kernel_rfl) rfl ((Kp.refl w359 : Kp (fun b_ => b_ = g17) w359 w359).lo hk381) <| AH.take 5 rfl (by kernel_rfl) trivial ((Kp.refl w359 : Kp (fun b_ => b_ = g17) w359 w359).lo hk381) (fun w' hw' => r_pick false rfl (v := .bool false) rfl) <| AH.br [6] (by kernel_rfl) rfl ⟨Br.mk' rfl trivial ?_, trivial⟩
              refine SR.store (o := 0) (vs := [.int .i64 2, .slice A31 n32 c33, .int .i64 x.Next, .int .i64 x.Fails, .int .i64 x.Size]) agg57.2 rfl rfl rfl rfl ((((hb22).lo hR92).kp hk360 (fun e' => by have e'' : g17 = g40 := e'; omega)).lo hk381) (Nat.le_of_ble_eq_true rfl) rfl ?_
              intro w398 hk399 hs400 hb401
              have hz402 := hk399.size
              have hB403 := hB383.new hk399 (by omega)
              have hS404 := ((Kp.refl w359 : Kp (fun b_ => b_ = g17) w359 w359).lo hk381).step hk399 (fun _ _ e => e)
              refine SR.nil ⟨hS404, _, rfl, ?_⟩
              refine AH.take 7 rfl (by kernel_rfl) trivial (hS404) (fun w' hw' => r_as (v := .bool _) rfl) <| AH.done (by kernel_rfl) ?_
              exact ⟨⟨rfl, (eDF (jaf h384).2), trivial⟩, hS404, (hb401)⟩
          rintro f405 w406 ⟨hat408, hR407, hm397⟩
          rw [← sets_of_at hat408]
          have hz409 := hR407.size
          have hB410 := hB364.new hR407 (by omega)
          refine W.ret ?_
          refine retCT rfl rfl agg57 (hm397) rfl (v := .bool _) rfl ?_
          exact ⟨A31, n32, c33, eR (eT2 (eA (eC (eI (by subst hl38; unfold spec_l29Make; rw [if_neg h96, if_neg h149, if_neg h230, if_pos h358] <;> rfl)) (eC rfl (eC (eI (by subst hl38; unfold spec_l29Make; rw [if_neg h96, if_neg h149, if_neg h230, if_pos h358] <;> rfl)) (eC (eI (by subst hl38; unfold spec_l29Make; rw [if_neg h96, if_neg h149, if_neg h230, if_pos h358] <;> rfl)) (eC (eI (by subst hl38; unfold spec_l29Make; rw [if_neg h96, if_neg h149, if_neg h230, if_pos h358] <;> rfl)) rfl)))))) (eB (by subst hl38; unfold spec_l29Make; rw [if_neg h96, if_neg h149, if_neg h230, if_pos h358] <;> rfl))), (SlO.eqv ((((hm57).kp hk360 (fun b_ hb e' => hd60 (by have e'' : b_ = g40 := e'; rw [← e'']; exact hb))).kp hR407 (fun b_ hb e' => by have e'' : b_ = g17 := e'; have := ((hm57).kp hk360 (fun b_ hb e' => hd60 (by have e'' : b_ = g40 := e'; rw [← e'']; exact hb))).base_le hb; omega)).down (by omega)) (by subst hl38; unfold spec_l29Make; rw [if_neg h96, if_neg h149, if_neg h230, if_pos h358] <;> rfl)), hB410⟩
        · refine W.seq ?_
          refine W.regS (SR.q' (r_eq rfl rfl) <| SR.q' (r_as (v := .bool _) rfl) <| SR.nil ?_)
          refine W.cond_d rfl (fun h411 => ?_) (fun h411 => ?_)
          · refine W.seq ?_
            refine W.regS (SR.q' (r_lda (l := [.int .i64 x.State, .slice Ax_Tiles nx_Tiles cx_Tiles, .int .i64 x.Next, .int .i64 x.Fails, .int .i64 x.Size]) agg57 rfl (fun _ _ hu => ((((hb6).lo hk12).lo hk20).lo hR92).cell hu) rfl) <| SR.q' (r_fa fa60_1 rfl) <| SR.q' (r_ld (v := .int .i64 s.Value) sca3 rfl ((((hb14).lo hk20).lo hR92).cell rfl)) <| SR.call ent136 (c_spec_l29Again w91 x ((((((hx_Tiles).lo hk4).lo hk12).lo hk20).lo hR92)) s.Value (by assumption)) rfl ?_)
            rintro e w412 ⟨A414, n415, c416, rfl, hO417, hk413⟩
            refine ⟨_, rfl, ?_⟩
            have hz418 := hk413.size
            have hB419 := hB95.lo hk413
            have hl420 := hO417.len
            have hl421 := hO417.rd.bound
            refine SR.q' (r_mv (v := .tuple (List.toArray _)) rfl) <| SR.q' (r_ext (v := .agg (List.toArray _)) rfl rfl) <| SR.q' (r_ext (v := .bool _) rfl rfl) <| SR.store (o := 0) (vs := [.int .i64 ((againN x s.Value).State), .slice A414 n415 c416, .int .i64 ((againN x s.Value).Next), .int .i64 ((againN x s.Value).Fails), .int .i64 ((againN x s.Value).Size)]) agg57.2 rfl rfl rfl rfl ((hm58).lo hk413) (Nat.le_of_ble_eq_true rfl) rfl ?_
            intro w422 hk423 hs424 hb425
            have hz426 := hk423.size
            have hB427 := hB419.new hk423 (by omega)
            refine SR.q' (r_as (v := .bool _) rfl) <| SR.nil ?_
            refine W.regJS (fun f' w' => At f' [(4, .pointer (some ((⟨g17, 0, none⟩ : Addr)))), (5, .bool false), (6, .pointer (some ((⟨g40, 0, none⟩ : Addr)))), (8, .bool (decide ((s.Value = 0 ∨ 0 ≤ lastB x.Tiles s.Value x.Next.toNat) ∧ (x.State = 2))))] ∧ Lo w422 w') ?_ ?_
            · refine SR.q' (r_mv (v := .bool _) rfl) <| SR.q' (r_mv (v := .bool _) rfl) <| SR.splitD (fun h428 => ?_) (fun h428 => ?_)
              · refine SR.g' rfl (r_fa fa57_0 rfl) <| SR.g' rfl (r_ld (v := .int .i64 x.State) sca3 rfl (((((((hb6).lo hk12).lo hk20).lo hR92).lo hk413).kp hk423 (fun e' => by have e'' : g1 = g40 := e'; omega)).cell rfl)) <| SR.g' rfl (r_eq rfl rfl) <| SR.q' (r_pick true rfl (v := .bool _) rfl) <| SR.q' (r_as (v := .bool _) rfl) <| SR.nil ?_
                exact ⟨_, rfl, ⟨⟨rfl, rfl, rfl, (eDD (jat h428)), trivial⟩, (Lo.refl _)⟩⟩
              · refine SR.s' rfl <| SR.s' rfl <| SR.s' rfl <| SR.q' (r_pick false rfl (v := .bool false) rfl) <| SR.q' (r_as (v := .bool _) rfl) <| SR.nil ?_
                exact ⟨_, rfl, ⟨⟨rfl, rfl, rfl, (eDF (jaf h428).2), trivial⟩, (Lo.refl _)⟩⟩
            rintro f429 w430 ⟨hat431, hk432⟩
            rw [← sets_of_at hat431]
            have hz433 := hk432.size
            have hB434 := hB427.lo hk432
            refine W.seq ?_
            refine W.regA (Kp (fun b_ => b_ = g17) w430) (fun f' w' => At f' [(4, .pointer (some ((⟨g17, 0, none⟩ : Addr)))), (5, .bool (decide (((s.Value = 0 ∨ 0 ≤ lastB x.Tiles s.Value x.Next.toNat) ∧ (x.State = 2)) ∧ (JobOK (againN x s.Value)))))] ∧ (Kp (fun b_ => b_ = g17) w430 w') ∧ (Blk w' g17 57 [.int .i64 ((againN x s.Value).State), .slice A414 n415 c416, .int .i64 ((againN x s.Value).Next), .int .i64 ((againN x s.Value).Fails), .int .i64 ((againN x s.Value).Size)])) mo ?_ ?_
            · intro w452 hk453
              have hz454 := hk453.size
              have hB455 := hB434.lo hk453
              refine AH.take 0 rfl (by kernel_rfl) trivial ((Kp.refl w430 : Kp (fun b_ => b_ = g17) w430 w430).lo hk453) (fun w' hw' => r_lda (l := [.int .i64 ((againN x s.Value).State), .slice A414 n415 c416, .int .i64 ((againN x s.Value).Next), .int .i64 ((againN x s.Value).Fails), .int .i64 ((againN x s.Value).Size)]) agg57 rfl (fun _ _ hu => (((hb425).lo hk432).kp hw' (fun e' => by have e'' : g40 = g17 := e'; omega)).cell hu) rfl) <| AH.take 1 rfl (by kernel_rfl) trivial ((Kp.refl w430 : Kp (fun b_ => b_ = g17) w430 w430).lo hk453) (fun w' hw' => r_mv (v := .bool _) rfl) <| AH.take 2 rfl (by kernel_rfl) trivial ((Kp.refl w430 : Kp (fun b_ => b_ = g17) w430 w430).lo hk453) (fun w' hw' => r_mv (v := .bool _) rfl) <| AH.splitD (fun h456 => ?_) (fun h456 => ?_)
              · have hq457 : s.Value = 0 ∨ 0 ≤ lastB x.Tiles s.Value x.Next.toNat := h456.1
                have hq458 : x.State = 2 := h456.2
                refine AH.take 3 rfl (by kernel_rfl) rfl ((Kp.refl w430 : Kp (fun b_ => b_ = g17) w430 w430).lo hk453) (fun w' hw' => r_lda (l := [.int .i64 ((againN x s.Value).State), .slice A414 n415 c416, .int .i64 ((againN x s.Value).Next), .int .i64 ((againN x s.Value).Fails), .int .i64 ((againN x s.Value).Size)]) agg57 rfl (fun _ _ hu => (((hb425).lo hk432).kp hw' (fun e' => by have e'' : g40 = g17 := e'; omega)).cell hu) rfl) <| AH.br [4] (by kernel_rfl) rfl ⟨Br.mk' rfl rfl ?_, trivial⟩
                refine SR.gcall rfl ent69 (c_spec_l29Good w452 (againN x s.Value) ((((((hO417).kp hk423 (fun b_ hb e' => by have e'' : b_ = g40 := e'; have := (hO417).base_le hb; omega)).lo hk432).lo hk453).rd))) rfl ?_
                rintro e w459 ⟨rfl, hk460⟩
                refine ⟨_, rfl, ?_⟩
                have hz461 := hk460.size
                have hB462 := hB455.lo hk460
                have hS463 := ((Kp.refl w430 : Kp (fun b_ => b_ = g17) w430 w430).lo hk453).lo hk460
                refine SR.nil ⟨hS463, _, rfl, ?_⟩
                refine AH.take 5 rfl (by kernel_rfl) trivial (hS463) (fun w' hw' => r_pick true rfl (v := .bool _) rfl) <| AH.br [6] (by kernel_rfl) rfl ⟨Br.mk' rfl trivial ?_, trivial⟩
                refine SR.store (o := 0) (vs := [.int .i64 ((againN x s.Value).State), .slice A414 n415 c416, .int .i64 ((againN x s.Value).Next), .int .i64 ((againN x s.Value).Fails), .int .i64 ((againN x s.Value).Size)]) agg57.2 rfl rfl rfl rfl (((((((hb22).lo hR92).lo hk413).kp hk423 (fun e' => by have e'' : g17 = g40 := e'; omega)).lo hk432).lo hk453).lo hk460) (Nat.le_of_ble_eq_true rfl) rfl ?_
                intro w464 hk465 hs466 hb467
                have hz468 := hk465.size
                have hB469 := hB462.new hk465 (by omega)
                have hS470 := (hS463).step hk465 (fun _ _ e => e)
                refine SR.nil ⟨hS470, _, rfl, ?_⟩
                refine AH.take 7 rfl (by kernel_rfl) trivial (hS470) (fun w' hw' => r_as (v := .bool _) rfl) <| AH.done (by kernel_rfl) ?_
                exact ⟨⟨rfl, (eDD (jat h456)), trivial⟩, hS470, (hb467)⟩
              · refine AH.s' 3 rfl (by kernel_rfl) rfl ((Kp.refl w430 : Kp (fun b_ => b_ = g17) w430 w430).lo hk453) <| AH.s' 4 rfl (by kernel_rfl) rfl ((Kp.refl w430 : Kp (fun b_ => b_ = g17) w430 w430).lo hk453) <| AH.take 5 rfl (by kernel_rfl) trivial ((Kp.refl w430 : Kp (fun b_ => b_ = g17) w430 w430).lo hk453) (fun w' hw' => r_pick false rfl (v := .bool false) rfl) <| AH.br [6] (by kernel_rfl) rfl ⟨Br.mk' rfl trivial ?_, trivial⟩
                refine SR.store (o := 0) (vs := [.int .i64 ((againN x s.Value).State), .slice A414 n415 c416, .int .i64 ((againN x s.Value).Next), .int .i64 ((againN x s.Value).Fails), .int .i64 ((againN x s.Value).Size)]) agg57.2 rfl rfl rfl rfl ((((((hb22).lo hR92).lo hk413).kp hk423 (fun e' => by have e'' : g17 = g40 := e'; omega)).lo hk432).lo hk453) (Nat.le_of_ble_eq_true rfl) rfl ?_
                intro w472 hk473 hs474 hb475
                have hz476 := hk473.size
                have hB477 := hB455.new hk473 (by omega)
                have hS478 := ((Kp.refl w430 : Kp (fun b_ => b_ = g17) w430 w430).lo hk453).step hk473 (fun _ _ e => e)
                refine SR.nil ⟨hS478, _, rfl, ?_⟩
                refine AH.take 7 rfl (by kernel_rfl) trivial (hS478) (fun w' hw' => r_as (v := .bool _) rfl) <| AH.done (by kernel_rfl) ?_
                exact ⟨⟨rfl, (eDF (jaf h456).2), trivial⟩, hS478, (hb475)⟩
            rintro f479 w480 ⟨hat482, hR481, hm471⟩
            rw [← sets_of_at hat482]
            have hz483 := hR481.size
            have hB484 := hB434.new hR481 (by omega)
            refine W.ret ?_
            refine retCT rfl rfl agg57 (hm471) rfl (v := .bool _) rfl ?_
            exact ⟨A414, n415, c416, eR (eT2 (eA (eC (eI (by subst hl420; unfold spec_l29Make; rw [if_neg h96, if_neg h149, if_neg h230, if_neg h358, if_pos h411] <;> rfl)) (eC rfl (eC (eI (by subst hl420; unfold spec_l29Make; rw [if_neg h96, if_neg h149, if_neg h230, if_neg h358, if_pos h411] <;> rfl)) (eC (eI (by subst hl420; unfold spec_l29Make; rw [if_neg h96, if_neg h149, if_neg h230, if_neg h358, if_pos h411] <;> rfl)) (eC (eI (by subst hl420; unfold spec_l29Make; rw [if_neg h96, if_neg h149, if_neg h230, if_neg h358, if_pos h411] <;> rfl)) rfl)))))) (eB (by subst hl420; unfold spec_l29Make; rw [if_neg h96, if_neg h149, if_neg h230, if_neg h358, if_pos h411] <;> rfl))), (SlO.eqv (((((hO417).kp hk423 (fun b_ hb e' => by have e'' : b_ = g40 := e'; have := (hO417).base_le hb; omega)).lo hk432).kp hR481 (fun b_ hb e' => by have e'' : b_ = g17 := e'; have := (((hO417).kp hk423 (fun b_ hb e' => by have e'' : b_ = g40 := e'; have := (hO417).base_le hb; omega)).lo hk432).base_le hb; omega)).down (by omega)) (by subst hl420; unfold spec_l29Make; rw [if_neg h96, if_neg h149, if_neg h230, if_neg h358, if_pos h411] <;> rfl)), hB484⟩
          · refine W.seq ?_
            refine W.regS (SR.q' (r_fa fa57_0 rfl) <| SR.store (o := 0) (vs := [.int .i64 3]) sca3.2 rfl rfl rfl rfl (hm58) (Nat.le_of_ble_eq_true rfl) rfl ?_)
            intro w485 hk486 hs487 hb488
            have hz489 := hk486.size
            have hB490 := hB95.new hk486 (by omega)
            refine SR.nil ?_
            refine W.regJS (fun f' w' => At f' [(4, .pointer (some ((⟨g17, 0, none⟩ : Addr)))), (5, .bool false), (6, .pointer (some ((⟨g40, 0, none⟩ : Addr)))), (8, .bool (decide ((x.State = 1) ∧ (x.Next = (nx_Tiles : Int)))))] ∧ Lo w485 w') ?_ ?_
            · refine SR.q' (r_mv (v := .bool _) rfl) <| SR.q' (r_mv (v := .bool _) rfl) <| SR.splitD (fun h491 => ?_) (fun h491 => ?_)
              · refine SR.g' rfl (r_fa fa57_2 rfl) <| SR.g' rfl (r_ld (v := .int .i64 x.Next) sca3 rfl ((((((hb6).lo hk12).lo hk20).lo hR92).kp hk486 (fun e' => by have e'' : g1 = g40 := e'; omega)).cell rfl)) <| SR.g' rfl (r_fa fa57_1 rfl) <| SR.g' rfl (r_ld (v := .slice Ax_Tiles nx_Tiles cx_Tiles) sca38 rfl ((((((hb6).lo hk12).lo hk20).lo hR92).kp hk486 (fun e' => by have e'' : g1 = g40 := e'; omega)).cell rfl)) <| SR.g' rfl (r_len und38 rfl) <| SR.g' rfl (r_eq rfl rfl) <| SR.q' (r_pick true rfl (v := .bool _) rfl) <| SR.q' (r_as (v := .bool _) rfl) <| SR.nil ?_
                exact ⟨_, rfl, ⟨⟨rfl, rfl, rfl, (eDD (jat h491)), trivial⟩, (Lo.refl _)⟩⟩
              · refine SR.s' rfl <| SR.s' rfl <| SR.s' rfl <| SR.s' rfl <| SR.s' rfl <| SR.s' rfl <| SR.q' (r_pick false rfl (v := .bool false) rfl) <| SR.q' (r_as (v := .bool _) rfl) <| SR.nil ?_
                exact ⟨_, rfl, ⟨⟨rfl, rfl, rfl, (eDF (jaf h491).2), trivial⟩, (Lo.refl _)⟩⟩
            rintro f492 w493 ⟨hat494, hk495⟩
            rw [← sets_of_at hat494]
            have hz496 := hk495.size
            have hB497 := hB490.lo hk495
            refine W.seq ?_
            refine W.regA (Kp (fun b_ => b_ = g17) w493) (fun f' w' => At f' [(4, .pointer (some ((⟨g17, 0, none⟩ : Addr)))), (5, .bool (decide (((x.State = 1) ∧ (x.Next = (nx_Tiles : Int))) ∧ (JobOK (⟨3, x.Tiles, x.Next, x.Fails, x.Size⟩ : ScanJob)))))] ∧ (Kp (fun b_ => b_ = g17) w493 w') ∧ (Blk w' g17 57 [.int .i64 3, .slice A31 n32 c33, .int .i64 x.Next, .int .i64 x.Fails, .int .i64 x.Size])) mo ?_ ?_
            · intro w515 hk516
              have hz517 := hk516.size
              have hB518 := hB497.lo hk516
              refine AH.take 0 rfl (by kernel_rfl) trivial ((Kp.refl w493 : Kp (fun b_ => b_ = g17) w493 w493).lo hk516) (fun w' hw' => r_lda (l := [.int .i64 3, .slice A31 n32 c33, .int .i64 x.Next, .int .i64 x.Fails, .int .i64 x.Size]) agg57 rfl (fun _ _ hu => (((hb488).lo hk495).kp hw' (fun e' => by have e'' : g40 = g17 := e'; omega)).cell hu) rfl) <| AH.take 1 rfl (by kernel_rfl) trivial ((Kp.refl w493 : Kp (fun b_ => b_ = g17) w493 w493).lo hk516) (fun w' hw' => r_mv (v := .bool _) rfl) <| AH.take 2 rfl (by kernel_rfl) trivial ((Kp.refl w493 : Kp (fun b_ => b_ = g17) w493 w493).lo hk516) (fun w' hw' => r_mv (v := .bool _) rfl) <| AH.splitD (fun h519 => ?_) (fun h519 => ?_)
              · have hq520 : x.State = 1 := h519.1
                have hq521 : x.Next = (nx_Tiles : Int) := h519.2
                refine AH.take 3 rfl (by kernel_rfl) rfl ((Kp.refl w493 : Kp (fun b_ => b_ = g17) w493 w493).lo hk516) (fun w' hw' => r_lda (l := [.int .i64 3, .slice A31 n32 c33, .int .i64 x.Next, .int .i64 x.Fails, .int .i64 x.Size]) agg57 rfl (fun _ _ hu => (((hb488).lo hk495).kp hw' (fun e' => by have e'' : g40 = g17 := e'; omega)).cell hu) rfl) <| AH.br [4] (by kernel_rfl) rfl ⟨Br.mk' rfl rfl ?_, trivial⟩
                refine SR.gcall rfl ent69 (c_spec_l29Good w515 (⟨3, x.Tiles, x.Next, x.Fails, x.Size⟩ : ScanJob) ((((((hm57).kp hk486 (fun b_ hb e' => hd60 (by have e'' : b_ = g40 := e'; rw [← e'']; exact hb))).lo hk495).lo hk516).rd))) rfl ?_
                rintro e w522 ⟨rfl, hk523⟩
                refine ⟨_, rfl, ?_⟩
                have hz524 := hk523.size
                have hB525 := hB518.lo hk523
                have hS526 := ((Kp.refl w493 : Kp (fun b_ => b_ = g17) w493 w493).lo hk516).lo hk523
                refine SR.nil ⟨hS526, _, rfl, ?_⟩
                refine AH.take 5 rfl (by kernel_rfl) trivial (hS526) (fun w' hw' => r_pick true rfl (v := .bool _) rfl) <| AH.br [6] (by kernel_rfl) rfl ⟨Br.mk' rfl trivial ?_, trivial⟩
                refine SR.store (o := 0) (vs := [.int .i64 3, .slice A31 n32 c33, .int .i64 x.Next, .int .i64 x.Fails, .int .i64 x.Size]) agg57.2 rfl rfl rfl rfl ((((((hb22).lo hR92).kp hk486 (fun e' => by have e'' : g17 = g40 := e'; omega)).lo hk495).lo hk516).lo hk523) (Nat.le_of_ble_eq_true rfl) rfl ?_
                intro w527 hk528 hs529 hb530
                have hz531 := hk528.size
                have hB532 := hB525.new hk528 (by omega)
                have hS533 := (hS526).step hk528 (fun _ _ e => e)
                refine SR.nil ⟨hS533, _, rfl, ?_⟩
                refine AH.take 7 rfl (by kernel_rfl) trivial (hS533) (fun w' hw' => r_as (v := .bool _) rfl) <| AH.done (by kernel_rfl) ?_
                exact ⟨⟨rfl, (eDD (jat h519)), trivial⟩, hS533, (hb530)⟩
              · refine AH.s' 3 rfl (by kernel_rfl) rfl ((Kp.refl w493 : Kp (fun b_ => b_ = g17) w493 w493).lo hk516) <| AH.s' 4 rfl (by kernel_rfl) rfl ((Kp.refl w493 : Kp (fun b_ => b_ = g17) w493 w493).lo hk516) <| AH.take 5 rfl (by kernel_rfl) trivial ((Kp.refl w493 : Kp (fun b_ => b_ = g17) w493 w493).lo hk516) (fun w' hw' => r_pick false rfl (v := .bool false) rfl) <| AH.br [6] (by kernel_rfl) rfl ⟨Br.mk' rfl trivial ?_, trivial⟩
                refine SR.store (o := 0) (vs := [.int .i64 3, .slice A31 n32 c33, .int .i64 x.Next, .int .i64 x.Fails, .int .i64 x.Size]) agg57.2 rfl rfl rfl rfl (((((hb22).lo hR92).kp hk486 (fun e' => by have e'' : g17 = g40 := e'; omega)).lo hk495).lo hk516) (Nat.le_of_ble_eq_true rfl) rfl ?_
                intro w535 hk536 hs537 hb538
                have hz539 := hk536.size
                have hB540 := hB518.new hk536 (by omega)
                have hS541 := ((Kp.refl w493 : Kp (fun b_ => b_ = g17) w493 w493).lo hk516).step hk536 (fun _ _ e => e)
                refine SR.nil ⟨hS541, _, rfl, ?_⟩
                refine AH.take 7 rfl (by kernel_rfl) trivial (hS541) (fun w' hw' => r_as (v := .bool _) rfl) <| AH.done (by kernel_rfl) ?_
                exact ⟨⟨rfl, (eDF (jaf h519).2), trivial⟩, hS541, (hb538)⟩
            rintro f542 w543 ⟨hat545, hR544, hm534⟩
            rw [← sets_of_at hat545]
            have hz546 := hR544.size
            have hB547 := hB497.new hR544 (by omega)
            refine W.ret ?_
            refine retCT rfl rfl agg57 (hm534) rfl (v := .bool _) rfl ?_
            exact ⟨A31, n32, c33, eR (eT2 (eA (eC (eI (by subst hlex_Tiles hl38; unfold spec_l29Make; rw [if_neg h96, if_neg h149, if_neg h230, if_neg h358, if_neg h411] <;> rfl)) (eC rfl (eC (eI (by subst hlex_Tiles hl38; unfold spec_l29Make; rw [if_neg h96, if_neg h149, if_neg h230, if_neg h358, if_neg h411] <;> rfl)) (eC (eI (by subst hlex_Tiles hl38; unfold spec_l29Make; rw [if_neg h96, if_neg h149, if_neg h230, if_neg h358, if_neg h411] <;> rfl)) (eC (eI (by subst hlex_Tiles hl38; unfold spec_l29Make; rw [if_neg h96, if_neg h149, if_neg h230, if_neg h358, if_neg h411] <;> rfl)) rfl)))))) (eB (by subst hlex_Tiles hl38; unfold spec_l29Make; rw [if_neg h96, if_neg h149, if_neg h230, if_neg h358, if_neg h411] <;> rfl))), (SlO.eqv (((((hm57).kp hk486 (fun b_ hb e' => hd60 (by have e'' : b_ = g40 := e'; rw [← e'']; exact hb))).lo hk495).kp hR544 (fun b_ hb e' => by have e'' : b_ = g17 := e'; have := (((hm57).kp hk486 (fun b_ hb e' => hd60 (by have e'' : b_ = g40 := e'; rw [← e'']; exact hb))).lo hk495).base_le hb; omega)).down (by omega)) (by subst hlex_Tiles hl38; unfold spec_l29Make; rw [if_neg h96, if_neg h149, if_neg h230, if_neg h358, if_neg h411] <;> rfl)), hB547⟩

open Classical in
noncomputable def spec_StepScan (x : ScanJob) (s : ScanStep) : ScanJob × Bool :=
  if (¬ (JobOK x)) ∨ ((!(spec_l29Step s)) = true) then ((⟨0, ([] : List Int), 0, 0, 0⟩ : ScanJob), false) else if (!((spec_l29Make x s).2)) = true then ((⟨0, ([] : List Int), 0, 0, 0⟩ : ScanJob), false) else (((spec_l29Make x s).1), true)
theorem c_spec_StepScan (w : World) (x : ScanJob) {Ax_Tiles : Option Addr} {nx_Tiles cx_Tiles Bx_Tiles : Nat} (hx_Tiles : SlR w Bx_Tiles encI 1 Ax_Tiles nx_Tiles cx_Tiles x.Tiles) (s : ScanStep) : Calls Tryd.prog 123 #[.agg (List.toArray [.int .i64 x.State, .slice Ax_Tiles nx_Tiles cx_Tiles, .int .i64 x.Next, .int .i64 x.Fails, .int .i64 x.Size]), .agg (List.toArray (encScanStep s))] w fun e w' => ∃ (A1' : Option Addr) (n1' c1' : Nat), e = .returned (.tuple (List.toArray [.agg (List.toArray [.int .i64 (((spec_StepScan x s).1).State), .slice A1' n1' c1', .int .i64 (((spec_StepScan x s).1).Next), .int .i64 (((spec_StepScan x s).1).Fails), .int .i64 (((spec_StepScan x s).1).Size)]), .bool ((spec_StepScan x s).2)])) ∧ SlO w' w.heap.size encI 1 3 A1' n1' c1' (((spec_StepScan x s).1).Tiles) ∧ Lo w w' := by
  refine calls_W 27 Tryd.func123 rfl rfl rfl ?_
  have hbdx_Tiles := hx_Tiles.bound
  have hlex_Tiles := hx_Tiles.len
  have hBbx_Tiles := hx_Tiles.bd
  have hbdx_Tiles := hx_Tiles.bound
  have hlex_Tiles := hx_Tiles.len
  have hBbx_Tiles := hx_Tiles.bd
  refine W.seq ?_
  refine W.regS (SR.box (v := .agg (List.toArray _)) (l := [.int .i64 x.State, .slice Ax_Tiles nx_Tiles cx_Tiles, .int .i64 x.Next, .int .i64 x.Fails, .int .i64 x.Size]) rfl rfl ?_)
  intro g1 w2 hg3 hk4 hs5 hb6
  have hz7 := hk4.size
  have hB8 := (Lo.refl w).lo hk4
  refine SR.box (v := .agg (List.toArray _)) (l := [.int .i64 s.Kind, .int .i64 s.Value]) rfl rfl ?_
  intro g9 w10 hg11 hk12 hs13 hb14
  have hz15 := hk12.size
  have hB16 := hB8.lo hk12
  refine SR.alloc (l := [.int .i64 0, .slice none 0 0, .int .i64 0, .int .i64 0, .int .i64 0]) tz57 rfl ?_
  intro g17 w18 hg19 hk20 hs21 hb22
  have hz23 := hk20.size
  have hB24 := hB16.lo hk20
  refine SR.q' (r_as (v := .bool false) rfl) <| SR.nil ?_
  refine W.seq ?_
  refine W.seq ?_
  refine W.regJS (fun f' w' => At f' [(2, .pointer (some ((⟨g1, 0, none⟩ : Addr)))), (3, .pointer (some ((⟨g9, 0, none⟩ : Addr)))), (4, .pointer (some ((⟨g17, 0, none⟩ : Addr)))), (5, .bool false), (15, .bool (decide ((¬ (JobOK x)) ∨ ((!(spec_l29Step s)) = true))))] ∧ Lo w18 w') ?_ ?_
  · refine SR.q' (r_lda (l := [.int .i64 x.State, .slice Ax_Tiles nx_Tiles cx_Tiles, .int .i64 x.Next, .int .i64 x.Fails, .int .i64 x.Size]) agg57 rfl (fun _ _ hu => (((hb6).lo hk12).lo hk20).cell hu) rfl) <| SR.call ent69 (c_spec_l29Good w18 x (((((hx_Tiles).lo hk4).lo hk12).lo hk20))) rfl ?_
    rintro e w25 ⟨rfl, hk26⟩
    refine ⟨_, rfl, ?_⟩
    have hz27 := hk26.size
    have hB28 := hB24.lo hk26
    refine SR.q' (r_not rfl) <| SR.q' (r_mv (v := .bool _) rfl) <| SR.splitN (fun h29 => ?_) (fun h29 => ?_)
    · refine SR.s' rfl <| SR.s' rfl <| SR.s' rfl <| SR.q' (r_pick true rfl (v := .bool true) rfl) <| SR.nil ?_
      exact ⟨_, rfl, ⟨⟨rfl, rfl, rfl, rfl, (eDT ((jmf h29).1 trivial)), trivial⟩, (hk26)⟩⟩
    · have hq30 := job_rng h29
      refine SR.g' rfl (r_lda (l := [.int .i64 s.Kind, .int .i64 s.Value]) agg60 rfl (fun _ _ hu => (((hb14).lo hk20).lo hk26).cell hu) rfl) <| SR.gcall rfl ent129 (c_spec_l29Step w25 s) rfl ?_
      rintro e w31 ⟨rfl, hk32⟩
      refine ⟨_, rfl, ?_⟩
      have hz33 := hk32.size
      have hB34 := hB28.lo hk32
      refine SR.g' rfl (r_not rfl) <| SR.q' (r_pick false rfl (v := .bool _) rfl) <| SR.nil ?_
      exact ⟨_, rfl, ⟨⟨rfl, rfl, rfl, rfl, (eBD (jmt h29)), trivial⟩, ((hk26).trans hk32)⟩⟩
  rintro f35 w36 ⟨hat37, hk38⟩
  rw [← sets_of_at hat37]
  have hz39 := hk38.size
  have hB40 := hB24.lo hk38
  refine W.cond_d rfl (fun h41 => ?_) (fun h41 => ?_)
  · refine W.seq ?_
    refine W.regS (SR.q' (r_build (vs := []) rfl (bld57_)) <| SR.store (o := 0) (vs := [.int .i64 0, .slice none 0 0, .int .i64 0, .int .i64 0, .int .i64 0]) agg57.2 rfl rfl rfl rfl ((hb22).lo hk38) (Nat.le_of_ble_eq_true rfl) rfl ?_)
    intro w42 hk43 hs44 hb45
    have hz46 := hk43.size
    have hB47 := hB40.new hk43 (by omega)
    refine SR.q' (r_as (v := .bool false) rfl) <| SR.nil ?_
    refine W.ret ?_
    refine retCT rfl rfl agg57 (hb45) rfl (v := .bool _) rfl ?_
    exact ⟨none, 0, 0, eR (eT2 (eA (eC (eI (by unfold spec_StepScan; rw [if_pos h41] <;> rfl)) (eC rfl (eC (eI (by unfold spec_StepScan; rw [if_pos h41] <;> rfl)) (eC (eI (by unfold spec_StepScan; rw [if_pos h41] <;> rfl)) (eC (eI (by unfold spec_StepScan; rw [if_pos h41] <;> rfl)) rfl)))))) (eB (by unfold spec_StepScan; rw [if_pos h41] <;> rfl))), (SlO.eqv (SlO.nil (e := 3) (enc := encI) (fun _ => rfl) (by omega)) (by unfold spec_StepScan; rw [if_pos h41] <;> rfl)), hB47⟩
  · have hq48 : JobOK x := (Classical.not_not.1 (not_or.1 h41).1)
    have hq49 : ¬ ((!(spec_l29Step s)) = true) := (not_or.1 h41).2
    have hq50 := job_rng hq48
    have hq51 := bnot_n hq49
    have hq52 := sstep_rng' hq51
    refine W.skip ?_
    refine W.seq ?_
    refine W.regS (SR.q' (r_lda (l := [.int .i64 x.State, .slice Ax_Tiles nx_Tiles cx_Tiles, .int .i64 x.Next, .int .i64 x.Fails, .int .i64 x.Size]) agg57 rfl (fun _ _ hu => ((((hb6).lo hk12).lo hk20).lo hk38).cell hu) rfl) <| SR.q' (r_lda (l := [.int .i64 s.Kind, .int .i64 s.Value]) agg60 rfl (fun _ _ hu => (((hb14).lo hk20).lo hk38).cell hu) rfl) <| SR.call ent130 (c_spec_l29Make w36 x ((((((hx_Tiles).lo hk4).lo hk12).lo hk20).lo hk38)) s (by assumption) (by assumption)) rfl ?_)
    rintro e w53 ⟨A55, n56, c57, rfl, hO58, hk54⟩
    refine ⟨_, rfl, ?_⟩
    have hz59 := hk54.size
    have hB60 := hB40.lo hk54
    have hl61 := hO58.len
    have hl62 := hO58.rd.bound
    refine SR.q' (r_mv (v := .tuple (List.toArray _)) rfl) <| SR.q' (r_ext (v := .agg (List.toArray _)) rfl rfl) <| SR.q' (r_ext (v := .bool _) rfl rfl) <| SR.alloc (l := [.int .i64 0, .slice none 0 0, .int .i64 0, .int .i64 0, .int .i64 0]) tz57 rfl ?_
    intro g63 w64 hg65 hk66 hs67 hb68
    have hz69 := hk66.size
    have hB70 := hB60.lo hk66
    have hd71 : ¬ A55 = some ⟨g63, 0, none⟩ := fun e' => by have := (hO58).base_le e'; omega
    refine SR.store (o := 0) (vs := [.int .i64 (((spec_l29Make x s).1).State), .slice A55 n56 c57, .int .i64 (((spec_l29Make x s).1).Next), .int .i64 (((spec_l29Make x s).1).Fails), .int .i64 (((spec_l29Make x s).1).Size)]) agg57.2 rfl rfl rfl rfl (hb68) (Nat.le_of_ble_eq_true rfl) rfl ?_
    intro w72 hk73 hs74 hb75
    have hz76 := hk73.size
    have hB77 := hB70.new hk73 (by omega)
    refine SR.q' (r_as (v := .bool _) rfl) <| SR.nil ?_
    refine W.seq ?_
    refine W.seq ?_
    refine W.regS (SR.q' (r_mv (v := .bool _) rfl) <| SR.q' (r_not rfl) <| SR.nil ?_)
    refine W.cond_b rfl (fun h78 => ?_) (fun h78 => ?_)
    · have hq79 := bnot_t h78
      refine W.seq ?_
      refine W.regS (SR.q' (r_build (vs := []) rfl (bld57_)) <| SR.store (o := 0) (vs := [.int .i64 0, .slice none 0 0, .int .i64 0, .int .i64 0, .int .i64 0]) agg57.2 rfl rfl rfl rfl (((((hb22).lo hk38).lo hk54).lo hk66).kp hk73 (fun e' => by have e'' : g17 = g63 := e'; omega)) (Nat.le_of_ble_eq_true rfl) rfl ?_)
      intro w80 hk81 hs82 hb83
      have hz84 := hk81.size
      have hB85 := hB77.new hk81 (by omega)
      refine SR.q' (r_as (v := .bool false) rfl) <| SR.nil ?_
      refine W.ret ?_
      refine retCT rfl rfl agg57 (hb83) rfl (v := .bool _) rfl ?_
      exact ⟨none, 0, 0, eR (eT2 (eA (eC (eI (by unfold spec_StepScan; rw [if_neg h41, if_pos h78] <;> rfl)) (eC rfl (eC (eI (by unfold spec_StepScan; rw [if_neg h41, if_pos h78] <;> rfl)) (eC (eI (by unfold spec_StepScan; rw [if_neg h41, if_pos h78] <;> rfl)) (eC (eI (by unfold spec_StepScan; rw [if_neg h41, if_pos h78] <;> rfl)) rfl)))))) (eB (by unfold spec_StepScan; rw [if_neg h41, if_pos h78] <;> rfl))), (SlO.eqv (SlO.nil (e := 3) (enc := encI) (fun _ => rfl) (by omega)) (by unfold spec_StepScan; rw [if_neg h41, if_pos h78] <;> rfl)), hB85⟩
    · have hq86 := bnot_f h78
      refine W.skip ?_
      refine W.seq ?_
      refine W.regS (SR.q' (r_lda (l := [.int .i64 (((spec_l29Make x s).1).State), .slice A55 n56 c57, .int .i64 (((spec_l29Make x s).1).Next), .int .i64 (((spec_l29Make x s).1).Fails), .int .i64 (((spec_l29Make x s).1).Size)]) agg57 rfl (fun _ _ hu => (hb75).cell hu) rfl) <| SR.store (o := 0) (vs := [.int .i64 (((spec_l29Make x s).1).State), .slice A55 n56 c57, .int .i64 (((spec_l29Make x s).1).Next), .int .i64 (((spec_l29Make x s).1).Fails), .int .i64 (((spec_l29Make x s).1).Size)]) agg57.2 rfl rfl rfl rfl (((((hb22).lo hk38).lo hk54).lo hk66).kp hk73 (fun e' => by have e'' : g17 = g63 := e'; omega)) (Nat.le_of_ble_eq_true rfl) rfl ?_)
      intro w87 hk88 hs89 hb90
      have hz91 := hk88.size
      have hB92 := hB77.new hk88 (by omega)
      refine SR.q' (r_as (v := .bool true) rfl) <| SR.nil ?_
      refine W.ret ?_
      refine retCT rfl rfl agg57 (hb90) rfl (v := .bool _) rfl ?_
      exact ⟨A55, n56, c57, eR (eT2 (eA (eC (eI (by subst hl61; unfold spec_StepScan; rw [if_neg h41, if_neg (ne_true_of_eq_false h78)] <;> rfl)) (eC rfl (eC (eI (by subst hl61; unfold spec_StepScan; rw [if_neg h41, if_neg (ne_true_of_eq_false h78)] <;> rfl)) (eC (eI (by subst hl61; unfold spec_StepScan; rw [if_neg h41, if_neg (ne_true_of_eq_false h78)] <;> rfl)) (eC (eI (by subst hl61; unfold spec_StepScan; rw [if_neg h41, if_neg (ne_true_of_eq_false h78)] <;> rfl)) rfl)))))) (eB (by subst hl61; unfold spec_StepScan; rw [if_neg h41, if_neg (ne_true_of_eq_false h78)] <;> rfl))), (SlO.eqv (((((hO58).lo hk66).kp hk73 (fun b_ hb e' => hd71 (by have e'' : b_ = g63 := e'; rw [← e'']; exact hb))).kp hk88 (fun b_ hb e' => by have e'' : b_ = g17 := e'; have := (((hO58).lo hk66).kp hk73 (fun b_ hb e' => hd71 (by have e'' : b_ = g63 := e'; rw [← e'']; exact hb))).base_le hb; omega)).down (by omega)) (by subst hl61; unfold spec_StepScan; rw [if_neg h41, if_neg (ne_true_of_eq_false h78)] <;> rfl)), hB92⟩
end Go.Proofs.YtlpapeeaghmjpaaDoor
