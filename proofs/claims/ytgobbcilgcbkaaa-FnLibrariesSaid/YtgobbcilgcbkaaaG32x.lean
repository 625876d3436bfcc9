/- Walks, printed by a program of this claim's author. -/
import Derived.Test.YtgobbcilgcbkaaaChecked
import Derived.Test.YtgobbcilgcbkaaaUa
import Derived.Test.YtgobbcilgcbkaaaFu
import Derived.Test.YtgobbcilgcbkaaaFs
import Derived.Test.YtgobbcilgcbkaaaFq
import Derived.Test.YtgobbcilgcbkaaaFo
import Derived.Test.YtgobbcilgcbkaaaDa
import Derived.Test.YtgobbcilgcbkaaaG32w
namespace Go.Proofs.Ytgobbcilgcbkaaa
open Go Go.RowKit Fw
set_option maxRecDepth 10000
set_option maxHeartbeats 2000000
set_option linter.unusedVariables false
theorem ent26 : Ent Try.prog 26 := ent_of Try.func26 (by decide +kernel) rfl
theorem ent27 : Ent Try.prog 27 := ent_of Try.func27 (by decide +kernel) rfl
theorem eqg59 : Try.prog.eqGuardType Try.prog.depth 59 = false := by kernel_rfl
theorem eqg63 : Try.prog.eqGuardType Try.prog.depth 63 = false := by kernel_rfl
theorem eql59 (a b : LMap) (w : World) : (binOp .eql 59 (.agg (List.toArray (encLMap a))) (.agg (List.toArray (encLMap b)))).run Try.prog w = .ok (.bool (decide (a = b))) w := by
  have u3 := Try.underlying3
  have a3 := Try.isAgg3
  have z3 := Try.sizeOf3
  have hS : Try.prog.underlying 59 = some (.struct (Try.prog.fieldsOf 59)) := by kernel_rfl
  have hp : Try.prog.stoodInHeld 59 = false := by kernel_rfl
  have hd : (a = b) ↔ a.Id = b.Id ∧ a.Copies = b.Copies ∧ a.Torn = b.Torn := by cases a; cases b; simp
  simp only [encLMap, hd]
  rw [run_eql_struct, show (10000 : Nat) = 9999 + 1 from rfl, run_equalIn_agg w 9999 59 _ _ hS hp]
  simp only [Program.fieldsOf, Try.underlying59]
  go_simp
  skip
  by_cases h0 : a.Id = b.Id <;> by_cases h1 : a.Copies = b.Copies <;> by_cases h2 : a.Torn = b.Torn <;> simp [h0, h1, h2]
theorem eql63 (a b : Away) (w : World) : (binOp .eql 63 (.agg (List.toArray (encAway a))) (.agg (List.toArray (encAway b)))).run Try.prog w = .ok (.bool (decide (a = b))) w := by
  have u3 := Try.underlying3
  have a3 := Try.isAgg3
  have z3 := Try.sizeOf3
  have hS : Try.prog.underlying 63 = some (.struct (Try.prog.fieldsOf 63)) := by kernel_rfl
  have hp : Try.prog.stoodInHeld 63 = false := by kernel_rfl
  have hd : (a = b) ↔ a.Map = b.Map ∧ a.Reader = b.Reader := by cases a; cases b; simp
  simp only [encAway, hd]
  rw [run_eql_struct, show (10000 : Nat) = 9999 + 1 from rfl, run_equalIn_agg w 9999 63 _ _ hS hp]
  simp only [Program.fieldsOf, Try.underlying63]
  go_simp
  skip
  by_cases h0 : a.Map = b.Map <;> by_cases h1 : a.Reader = b.Reader <;> simp [h0, h1]
theorem tel43 : TEl Try.prog 43 29 (.agg (List.toArray [.int .i64 0, .int .i64 0, .int .i64 0, .int .i64 0])) 4 32 := ⟨by kernel_rfl, by kernel_rfl, rfl, by decide⟩

theorem c_spec_DrawRunLibrary (w : World) {AL : Option Addr} {nL cL BL : Nat}  (L : List UInt8) (hL : SlR w BL encB 1 AL nL cL L) (hp0 : (nL : Int) ≤ 65536) : Calls Try.prog 17 #[.slice AL nL cL] w fun e w' => ∃ (A1' : Option Addr) (n1' c1' : Nat) (A2' : Option Addr) (n2' c2' : Nat) (A3' : Option Addr) (n3' c3' : Nat) (x : Library) (S : List LibraryStep), e = .returned (.tuple (List.toArray [.agg (List.toArray [.slice A1' n1' c1', .slice A2' n2' c2', .int .i64 x.Bought, .int .i64 x.Dropped, .int .i64 x.Mended]), .slice A3' n3' c3'])) ∧ SlO w' w.heap.size encLMap 3 59 A1' n1' c1' x.Maps ∧ SlO w' w.heap.size encAway 2 63 A2' n2' c2' x.Away ∧ SlO w' w.heap.size encLibraryStep 4 29 A3' n3' c3' S ∧ (∀ b_, A1' = some ⟨b_, 0, none⟩ → ¬ A2' = some ⟨b_, 0, none⟩) ∧ (∀ b_, A1' = some ⟨b_, 0, none⟩ → ¬ A3' = some ⟨b_, 0, none⟩) ∧ (∀ b_, A2' = some ⟨b_, 0, none⟩ → ¬ A3' = some ⟨b_, 0, none⟩) ∧ (x.Maps.length ≤ 9 ∧ x.Away.length ≤ 9) ∧ (MapB x.Maps) ∧ (S.length ≤ 60) ∧ (StepsIn S) ∧ Lo w w' := by
  refine calls_W 54 Try.func17 rfl rfl rfl ?_
  have hbdL := hL.bound
  have hleL := hL.len
  have hBbL := hL.bd
  refine W.seq ?_
  refine W.regS (SR.alloc (l := [.slice none 0 0, .slice none 0 0, .int .i64 0, .int .i64 0, .int .i64 0]) tz27 rfl ?_)
  intro g1 w2 hg3 hk4 hs5 hb6
  have hz7 := hk4.size
  have hB8 := (Lo.refl w).lo hk4
  refine SR.q' (r_as (v := .slice none 0 0) rfl) <| SR.nil ?_
  refine W.seq ?_
  refine W.regS (SR.q' (r_mv (v := .slice _ _ _) rfl) <| SR.q' (r_build (vs := [(0, .slice AL nL cL)]) rfl (bld51_0 _ _ _)) <| SR.box (v := .agg (List.toArray _)) (l := [.slice AL nL cL, .int .i64 0, .int .u64 0]) rfl rfl ?_)
  intro g9 w10 hg11 hk12 hs13 hb14
  have hz15 := hk12.size
  have hB16 := hB8.lo hk12
  refine SR.q' (r_as (v := .pointer (some _)) rfl) <| SR.nil ?_
  refine W.seq ?_
  have hm17 := ((hL).lo hk4).lo hk12
  refine W.regS (SR.q' (r_mv (v := .pointer (some _)) rfl) <| SR.call ent20 (c___spec_l1Cur__library w10 L 0 0 (hb14) ((hm17)) (by omega) (by omega)) rfl ?_)
  rintro e w18 ⟨A20, n21, c22, A24, n25, c26, v29, t30, s31, rfl, hO23, hO27, hd28, hb32, ht33, hq34, hq35, hk19⟩
  refine ⟨_, rfl, ?_⟩
  have hz36 := hk19.size
  have hB37 := hB16.new hk19 (by omega)
  have hl38 := hO23.len
  have hl39 := hO23.rd.bound
  have hl40 := hO27.len
  have hl41 := hO27.rd.bound
  refine SR.alloc (l := [.slice none 0 0, .slice none 0 0, .int .i64 0, .int .i64 0, .int .i64 0]) tz27 rfl ?_
  intro g42 w43 hg44 hk45 hs46 hb47
  have hz48 := hk45.size
  have hB49 := hB37.lo hk45
  have hd50 : ¬ A20 = some ⟨g42, 0, none⟩ := fun e' => by have := (hO23).base_le e'; omega
  have hd51 : ¬ A24 = some ⟨g42, 0, none⟩ := fun e' => by have := (hO27).base_le e'; omega
  refine SR.store (o := 0) (vs := [.slice A20 n21 c22, .slice A24 n25 c26, .int .i64 v29.Bought, .int .i64 v29.Dropped, .int .i64 v29.Mended]) agg27.2 rfl rfl rfl rfl (hb47) (Nat.le_of_ble_eq_true rfl) rfl ?_
  intro w52 hk53 hs54 hb55
  have hz56 := hk53.size
  have hB57 := hB49.new hk53 (by omega)
  refine SR.nil ?_
  refine W.seq ?_
  have hm58 := ((((hb6).lo hk12).kn hk19 (by omega)).lo hk45).kn hk53 (by omega)
  have hm59 := ((hb32).lo hk45).kn hk53 (by omega)
  have hm60 := (((hm17).kn hk19 (by omega)).lo hk45).kn hk53 (by omega)
  have hm61 := ((hO23).lo hk45).kd hk53 hd50
  have hm62 := ((hO27).lo hk45).kd hk53 hd51
  refine W.regS (SR.lit (vs := []) (L := ([] : List LibraryStep)) (enc := encLibraryStep) tel43 (fun _ => rfl) rfl rfl rfl (by decide) ?_)
  intro g63 w64 hg65 hk66 hO67
  have hz68 := hk66.size
  have hB69 := hB57.lo hk66
  have hd70 : ¬ A20 = some ⟨g63, 0, none⟩ := fun e' => by have := (hm61).base_le e'; omega
  have hd71 : ¬ A24 = some ⟨g63, 0, none⟩ := fun e' => by have := (hm62).base_le e'; omega
  refine SR.q' (r_as (v := .slice _ _ _) rfl) <| SR.nil ?_
  refine W.seq ?_
  refine W.regS (SR.q' (r_lda (l := [.slice A20 n21 c22, .slice A24 n25 c26, .int .i64 v29.Bought, .int .i64 v29.Dropped, .int .i64 v29.Mended]) agg27 rfl (fun _ _ hu => ((hb55).lo hk66).cell hu) rfl) <| SR.alloc (l := [.slice none 0 0, .slice none 0 0, .int .i64 0, .int .i64 0, .int .i64 0]) tz27 rfl ?_)
  intro g72 w73 hg74 hk75 hs76 hb77
  have hz78 := hk75.size
  have hB79 := hB69.lo hk75
  have hd80 : ¬ A20 = some ⟨g72, 0, none⟩ := fun e' => by have := ((hm61).lo hk66).base_le e'; omega
  have hd81 : ¬ A24 = some ⟨g72, 0, none⟩ := fun e' => by have := ((hm62).lo hk66).base_le e'; omega
  have hd82 : ¬ (pA g63) = some ⟨g72, 0, none⟩ := fun e' => by have := (hO67).base_le e'; omega
  refine SR.store (o := 0) (vs := [.slice A20 n21 c22, .slice A24 n25 c26, .int .i64 v29.Bought, .int .i64 v29.Dropped, .int .i64 v29.Mended]) agg27.2 rfl rfl rfl rfl (hb77) (Nat.le_of_ble_eq_true rfl) rfl ?_
  intro w83 hk84 hs85 hb86
  have hz87 := hk84.size
  have hB88 := hB79.new hk84 (by omega)
  refine SR.nil ?_
  refine W.seq ?_
  refine W.seq ?_
  have hm89 := (((hm58).lo hk66).lo hk75).kn hk84 (by omega)
  have hm90 := (((hm59).lo hk66).lo hk75).kn hk84 (by omega)
  have hm91 := (((hm60).lo hk66).lo hk75).kn hk84 (by omega)
  have hm92 := (((hb55).lo hk66).lo hk75).kn hk84 (by omega)
  have hm93 := (((hm61).lo hk66).lo hk75).kd hk84 hd80
  have hm94 := (((hm62).lo hk66).lo hk75).kd hk84 hd81
  have hm95 := ((hO67).lo hk75).kd hk84 hd82
  refine W.regS (SR.q' (r_mv (v := .pointer (some _)) rfl) <| SR.call ent36 (c___spec_l1Cur__pick w83 L t30 s31 (hm90) ((hm91)) (by omega) (by omega) 12 (by first | omega | (simp only [List.length_append, List.length_cons, List.length_nil, List.length_take, List.length_drop]; omega))) rfl ?_)
  rintro e w96 ⟨v98, t99, s100, rfl, hb101, ht102, hq103, hk97⟩
  refine ⟨_, rfl, ?_⟩
  have hz104 := hk97.size
  have hB105 := hB88.new hk97 (by omega)
  refine SR.q' (r_as (v := .int .i64 _) rfl) <| SR.nil ?_
  refine W.block ?_
  refine W.loop (σ := Int × Library × (List LibraryStep) × Int × Int × (Option Addr) × Nat × Nat × (Option Addr) × Nat × Nat × (Option Addr) × Nat × Nat) (fun g => [(2, .pointer (pA g1)), (3, .slice none 0 0), (4, .pointer (pA g9)), (5, .pointer (pA g42)), (6, .slice g.2.2.2.2.2.1 g.2.2.2.2.2.2.1 g.2.2.2.2.2.2.2.1), (7, .pointer (pA g72)), (8, .int .i64 g.1)]) (fun g w' => (Lo w w') ∧ (Blk w' g1 27 [.slice none 0 0, .slice none 0 0, .int .i64 0, .int .i64 0, .int .i64 0]) ∧ (Blk w' g9 51 [.slice AL nL cL, .int .i64 g.2.2.2.1, .int .u64 g.2.2.2.2.1]) ∧ (SlR w' BL encB 1 AL nL cL L) ∧ (Blk w' g42 27 [.slice A20 n21 c22, .slice A24 n25 c26, .int .i64 v29.Bought, .int .i64 v29.Dropped, .int .i64 v29.Mended]) ∧ (SlO w' w10.heap.size encLMap 3 59 A20 n21 c22 v29.Maps) ∧ (SlO w' w10.heap.size encAway 2 63 A24 n25 c26 v29.Away) ∧ (Blk w' g72 27 [.slice g.2.2.2.2.2.2.2.2.1 g.2.2.2.2.2.2.2.2.2.1 g.2.2.2.2.2.2.2.2.2.2.1, .slice g.2.2.2.2.2.2.2.2.2.2.2.1 g.2.2.2.2.2.2.2.2.2.2.2.2.1 g.2.2.2.2.2.2.2.2.2.2.2.2.2, .int .i64 g.2.1.Bought, .int .i64 g.2.1.Dropped, .int .i64 g.2.1.Mended]) ∧ (SlO w' w.heap.size encLibraryStep 4 29 g.2.2.2.2.2.1 g.2.2.2.2.2.2.1 g.2.2.2.2.2.2.2.1 g.2.2.1) ∧ (SlO w' w.heap.size encLMap 3 59 g.2.2.2.2.2.2.2.2.1 g.2.2.2.2.2.2.2.2.2.1 g.2.2.2.2.2.2.2.2.2.2.1 g.2.1.Maps) ∧ (SlO w' w.heap.size encAway 2 63 g.2.2.2.2.2.2.2.2.2.2.2.1 g.2.2.2.2.2.2.2.2.2.2.2.2.1 g.2.2.2.2.2.2.2.2.2.2.2.2.2 g.2.1.Away) ∧ (¬ g.2.2.2.2.2.1 = some ⟨g1, 0, none⟩) ∧ (¬ g.2.2.2.2.2.1 = some ⟨g9, 0, none⟩) ∧ (¬ g.2.2.2.2.2.1 = some ⟨g42, 0, none⟩) ∧ (∀ b_, g.2.2.2.2.2.1 = some ⟨b_, 0, none⟩ → ¬ A20 = some ⟨b_, 0, none⟩) ∧ (∀ b_, g.2.2.2.2.2.1 = some ⟨b_, 0, none⟩ → ¬ A24 = some ⟨b_, 0, none⟩) ∧ (¬ g.2.2.2.2.2.1 = some ⟨g72, 0, none⟩) ∧ (∀ b_, g.2.2.2.2.2.1 = some ⟨b_, 0, none⟩ → ¬ g.2.2.2.2.2.2.2.2.1 = some ⟨b_, 0, none⟩) ∧ (∀ b_, g.2.2.2.2.2.1 = some ⟨b_, 0, none⟩ → ¬ g.2.2.2.2.2.2.2.2.2.2.2.1 = some ⟨b_, 0, none⟩) ∧ (¬ g.2.2.2.2.2.2.2.2.1 = some ⟨g1, 0, none⟩) ∧ (¬ g.2.2.2.2.2.2.2.2.1 = some ⟨g9, 0, none⟩) ∧ (¬ g.2.2.2.2.2.2.2.2.1 = some ⟨g42, 0, none⟩) ∧ (∀ b_, g.2.2.2.2.2.2.2.2.1 = some ⟨b_, 0, none⟩ → ¬ A24 = some ⟨b_, 0, none⟩) ∧ (¬ g.2.2.2.2.2.2.2.2.1 = some ⟨g72, 0, none⟩) ∧ (∀ b_, g.2.2.2.2.2.2.2.2.1 = some ⟨b_, 0, none⟩ → ¬ g.2.2.2.2.2.2.2.2.2.2.2.1 = some ⟨b_, 0, none⟩) ∧ (¬ g.2.2.2.2.2.2.2.2.2.2.2.1 = some ⟨g1, 0, none⟩) ∧ (¬ g.2.2.2.2.2.2.2.2.2.2.2.1 = some ⟨g9, 0, none⟩) ∧ (¬ g.2.2.2.2.2.2.2.2.2.2.2.1 = some ⟨g42, 0, none⟩) ∧ (∀ b_, g.2.2.2.2.2.2.2.2.2.2.2.1 = some ⟨b_, 0, none⟩ → ¬ A20 = some ⟨b_, 0, none⟩) ∧ (¬ g.2.2.2.2.2.2.2.2.2.2.2.1 = some ⟨g72, 0, none⟩) ∧ (((0 ≤ g.1 ∧ g.1 ≤ 11) ∧ (g.2.2.1.length : Int) + g.1 ≤ 12 ∧ (g.2.1.Maps.length ≤ 9 ∧ g.2.1.Away.length ≤ 9) ∧ 0 ≤ g.2.2.2.1 ∧ g.2.2.2.1 ≤ 820 + 20 * (12 - g.1)) ∧ MapB g.2.1.Maps ∧ StepsIn g.2.2.1)) (fun g => g.1.toNat) (v98, v29, ([] : List LibraryStep), t99, s100, (pA g63), 0, 0, A20, n21, c22, A24, n25, c26) ?_ ?_ ?_
  · exact ⟨rfl, rfl, rfl, rfl, rfl, rfl, rfl, trivial⟩
  · show (Lo w w96) ∧ (Blk w96 g1 27 [.slice none 0 0, .slice none 0 0, .int .i64 0, .int .i64 0, .int .i64 0]) ∧ (Blk w96 g9 51 [.slice AL nL cL, .int .i64 t99, .int .u64 s100]) ∧ (SlR w96 BL encB 1 AL nL cL L) ∧ (Blk w96 g42 27 [.slice A20 n21 c22, .slice A24 n25 c26, .int .i64 v29.Bought, .int .i64 v29.Dropped, .int .i64 v29.Mended]) ∧ (SlO w96 w10.heap.size encLMap 3 59 A20 n21 c22 v29.Maps) ∧ (SlO w96 w10.heap.size encAway 2 63 A24 n25 c26 v29.Away) ∧ (Blk w96 g72 27 [.slice A20 n21 c22, .slice A24 n25 c26, .int .i64 v29.Bought, .int .i64 v29.Dropped, .int .i64 v29.Mended]) ∧ (SlO w96 w.heap.size encLibraryStep 4 29 (pA g63) 0 0 ([] : List LibraryStep)) ∧ (SlO w96 w.heap.size encLMap 3 59 A20 n21 c22 v29.Maps) ∧ (SlO w96 w.heap.size encAway 2 63 A24 n25 c26 v29.Away) ∧ (¬ (pA g63) = some ⟨g1, 0, none⟩) ∧ (¬ (pA g63) = some ⟨g9, 0, none⟩) ∧ (¬ (pA g63) = some ⟨g42, 0, none⟩) ∧ (∀ b_, (pA g63) = some ⟨b_, 0, none⟩ → ¬ A20 = some ⟨b_, 0, none⟩) ∧ (∀ b_, (pA g63) = some ⟨b_, 0, none⟩ → ¬ A24 = some ⟨b_, 0, none⟩) ∧ (¬ (pA g63) = some ⟨g72, 0, none⟩) ∧ (∀ b_, (pA g63) = some ⟨b_, 0, none⟩ → ¬ A20 = some ⟨b_, 0, none⟩) ∧ (∀ b_, (pA g63) = some ⟨b_, 0, none⟩ → ¬ A24 = some ⟨b_, 0, none⟩) ∧ (¬ A20 = some ⟨g1, 0, none⟩) ∧ (¬ A20 = some ⟨g9, 0, none⟩) ∧ (¬ A20 = some ⟨g42, 0, none⟩) ∧ (∀ b_, A20 = some ⟨b_, 0, none⟩ → ¬ A24 = some ⟨b_, 0, none⟩) ∧ (¬ A20 = some ⟨g72, 0, none⟩) ∧ (∀ b_, A20 = some ⟨b_, 0, none⟩ → ¬ A24 = some ⟨b_, 0, none⟩) ∧ (¬ A24 = some ⟨g1, 0, none⟩) ∧ (¬ A24 = some ⟨g9, 0, none⟩) ∧ (¬ A24 = some ⟨g42, 0, none⟩) ∧ (∀ b_, A24 = some ⟨b_, 0, none⟩ → ¬ A20 = some ⟨b_, 0, none⟩) ∧ (¬ A24 = some ⟨g72, 0, none⟩) ∧ (((0 ≤ v98 ∧ v98 ≤ 11) ∧ (([] : List LibraryStep).length : Int) + v98 ≤ 12 ∧ (v29.Maps.length ≤ 9 ∧ v29.Away.length ≤ 9) ∧ 0 ≤ t99 ∧ t99 ≤ 820 + 20 * (12 - v98)) ∧ MapB v29.Maps ∧ StepsIn ([] : List LibraryStep))
    exact ⟨hB105, (hm89).kn hk97 (by omega), (hb101), (hm91).kn hk97 (by omega), (hm92).kn hk97 (by omega), (hm93).kn hk97 (by omega), (hm94).kn hk97 (by omega), ((hb86).kn hk97 (by omega)), (((hm95).kn hk97 (by omega)).down (by omega)), (((hm93).kn hk97 (by omega)).down (by omega)), (((hm94).kn hk97 (by omega)).down (by omega)), (fun e' => by have := ((hm95).kn hk97 (by omega)).base_le e'; omega), (fun e' => by have := ((hm95).kn hk97 (by omega)).base_le e'; omega), (fun e' => by have := ((hm95).kn hk97 (by omega)).base_le e'; omega), (fun b_ h h' => hd70 (h'.trans h.symm)), (fun b_ h h' => hd71 (h'.trans h.symm)), hd82, (fun b_ h h' => hd70 (h'.trans h.symm)), (fun b_ h h' => hd71 (h'.trans h.symm)), (fun e' => by have := ((hm93).kn hk97 (by omega)).base_le e'; omega), (fun e' => by have := ((hm93).kn hk97 (by omega)).base_le e'; omega), hd50, hd28, hd80, hd28, (fun e' => by have := ((hm94).kn hk97 (by omega)).base_le e'; omega), (fun e' => by have := ((hm94).kn hk97 (by omega)).base_le e'; omega), hd51, (fun b_ h h' => hd28 b_ h' h), hd81, (by exact ⟨⟨by omega, by simp; omega, by omega, by omega, by omega⟩, by assumption, StepsIn.nil⟩)⟩
  · rintro ⟨n, o, S, t, z, A106, n106, c106, A107, n107, c107, A108, n108, c108⟩ f109 w110 hP112
    obtain ⟨hB111, hm113, hm114, hm115, hm116, hm117, hm118, hm119, hO120, hO121, hO122, hd124, hd125, hd126, hd127, hd128, hd129, hd130, hd131, hd132, hd133, hd134, hd135, hd136, hd137, hd138, hd139, hd140, hd141, hd142, hi123⟩ : (Lo w w110) ∧ (Blk w110 g1 27 [.slice none 0 0, .slice none 0 0, .int .i64 0, .int .i64 0, .int .i64 0]) ∧ (Blk w110 g9 51 [.slice AL nL cL, .int .i64 t, .int .u64 z]) ∧ (SlR w110 BL encB 1 AL nL cL L) ∧ (Blk w110 g42 27 [.slice A20 n21 c22, .slice A24 n25 c26, .int .i64 v29.Bought, .int .i64 v29.Dropped, .int .i64 v29.Mended]) ∧ (SlO w110 w10.heap.size encLMap 3 59 A20 n21 c22 v29.Maps) ∧ (SlO w110 w10.heap.size encAway 2 63 A24 n25 c26 v29.Away) ∧ (Blk w110 g72 27 [.slice A107 n107 c107, .slice A108 n108 c108, .int .i64 o.Bought, .int .i64 o.Dropped, .int .i64 o.Mended]) ∧ (SlO w110 w.heap.size encLibraryStep 4 29 A106 n106 c106 S) ∧ (SlO w110 w.heap.size encLMap 3 59 A107 n107 c107 o.Maps) ∧ (SlO w110 w.heap.size encAway 2 63 A108 n108 c108 o.Away) ∧ (¬ A106 = some ⟨g1, 0, none⟩) ∧ (¬ A106 = some ⟨g9, 0, none⟩) ∧ (¬ A106 = some ⟨g42, 0, none⟩) ∧ (∀ b_, A106 = some ⟨b_, 0, none⟩ → ¬ A20 = some ⟨b_, 0, none⟩) ∧ (∀ b_, A106 = some ⟨b_, 0, none⟩ → ¬ A24 = some ⟨b_, 0, none⟩) ∧ (¬ A106 = some ⟨g72, 0, none⟩) ∧ (∀ b_, A106 = some ⟨b_, 0, none⟩ → ¬ A107 = some ⟨b_, 0, none⟩) ∧ (∀ b_, A106 = some ⟨b_, 0, none⟩ → ¬ A108 = some ⟨b_, 0, none⟩) ∧ (¬ A107 = some ⟨g1, 0, none⟩) ∧ (¬ A107 = some ⟨g9, 0, none⟩) ∧ (¬ A107 = some ⟨g42, 0, none⟩) ∧ (∀ b_, A107 = some ⟨b_, 0, none⟩ → ¬ A24 = some ⟨b_, 0, none⟩) ∧ (¬ A107 = some ⟨g72, 0, none⟩) ∧ (∀ b_, A107 = some ⟨b_, 0, none⟩ → ¬ A108 = some ⟨b_, 0, none⟩) ∧ (¬ A108 = some ⟨g1, 0, none⟩) ∧ (¬ A108 = some ⟨g9, 0, none⟩) ∧ (¬ A108 = some ⟨g42, 0, none⟩) ∧ (∀ b_, A108 = some ⟨b_, 0, none⟩ → ¬ A20 = some ⟨b_, 0, none⟩) ∧ (¬ A108 = some ⟨g72, 0, none⟩) ∧ (((0 ≤ n ∧ n ≤ 11) ∧ (S.length : Int) + n ≤ 12 ∧ (o.Maps.length ≤ 9 ∧ o.Away.length ≤ 9) ∧ 0 ≤ t ∧ t ≤ 820 + 20 * (12 - n)) ∧ MapB o.Maps ∧ StepsIn S) := hP112
    refine (?_ : W _ _ _ _ _ (act _ (sets f109 [(2, .pointer (pA g1)), (3, .slice none 0 0), (4, .pointer (pA g9)), (5, .pointer (pA g42)), (6, .slice A106 n106 c106), (7, .pointer (pA g72)), (8, .int .i64 n)])) _)
    have hzw110 := hB111.size
    have hl143 := hm113.lt
    have hl144 := hm114.lt
    have hl145 := hm116.lt
    have hl146 := hm119.lt
    have hl147 := hO120.len
    have hl148 := hO120.rd.bound
    have hl149 := hO121.len
    have hl150 := hO121.rd.bound
    have hl151 := hO122.len
    have hl152 := hO122.rd.bound
    have hq153 : (0 ≤ n ∧ n ≤ 11) ∧ (S.length : Int) + n ≤ 12 ∧ (o.Maps.length ≤ 9 ∧ o.Away.length ≤ 9) ∧ 0 ≤ t ∧ t ≤ 820 + 20 * (12 - n) := hi123.1
    have hq154 : MapB o.Maps := hi123.2.1
    have hq155 : StepsIn S := hi123.2.2
    refine W.seq ?_
    refine W.seq ?_
    refine W.regS (SR.q' (r_mv (v := .int .i64 _) rfl) <| SR.q' (r_gt rfl rfl) <| SR.nil ?_)
    refine W.cond_d rfl (fun h156 => ?_) (fun h156 => ?_)
    · refine W.skip ?_
      refine W.seq ?_
      refine W.block ?_
      refine W.seq ?_
      refine W.regS (SR.q' (r_mv (v := .pointer (some _)) rfl) <| SR.q' (r_lda (l := [.slice A107 n107 c107, .slice A108 n108 c108, .int .i64 o.Bought, .int .i64 o.Dropped, .int .i64 o.Mended]) agg27 rfl (fun _ _ hu => (hm119).cell hu) rfl) <| SR.call ent21 (c___spec_l1Cur__libraryStep w110 L t z (hm114) ((hm115)) (by omega) (by omega) o (((hO121).rd)) (((hO122).rd)) (by omega) (by first | assumption | exact MapB.of (And.left (And.left ‹LibOK _›)) | exact MapB.app (MapB.of (And.left (And.left ‹LibOK _›))) (by first | omega | (dsimp only; omega)) | exact MapB.nil) ((hO121).apart hd133) ((hO122).apart hd139)) rfl ?_)
      rintro e w157 ⟨v159, t160, s161, rfl, hb162, ht163, hq164, hk158⟩
      refine ⟨_, rfl, ?_⟩
      have hz165 := hk158.size
      have hB166 := hB111.new hk158 (by omega)
      refine SR.alloc (l := [.int .i64 0, .int .i64 0, .int .i64 0, .int .i64 0]) tz29 rfl ?_
      intro g167 w168 hg169 hk170 hs171 hb172
      have hz173 := hk170.size
      have hB174 := hB166.lo hk170
      have hd175 : ¬ A20 = some ⟨g167, 0, none⟩ := fun e' => by have := ((hm117).kn hk158 (by omega)).base_le e'; omega
      have hd176 : ¬ A24 = some ⟨g167, 0, none⟩ := fun e' => by have := ((hm118).kn hk158 (by omega)).base_le e'; omega
      have hd177 : ¬ A106 = some ⟨g167, 0, none⟩ := fun e' => by have := ((hO120).kd hk158 hd125).base_le e'; omega
      have hd178 : ¬ A107 = some ⟨g167, 0, none⟩ := fun e' => by have := ((hO121).kd hk158 hd133).base_le e'; omega
      have hd179 : ¬ A108 = some ⟨g167, 0, none⟩ := fun e' => by have := ((hO122).kd hk158 hd139).base_le e'; omega
      refine SR.store (o := 0) (vs := [.int .i64 v159.Kind, .int .i64 v159.Id, .int .i64 v159.Reader, .int .i64 v159.Value]) agg29.2 rfl rfl rfl rfl (hb172) (Nat.le_of_ble_eq_true rfl) rfl ?_
      intro w180 hk181 hs182 hb183
      have hz184 := hk181.size
      have hB185 := hB174.new hk181 (by omega)
      refine SR.nil ?_
      refine W.seq ?_
      have hm186 := (((hm113).kn hk158 (by omega)).lo hk170).kn hk181 (by omega)
      have hm187 := ((hb162).lo hk170).kn hk181 (by omega)
      have hm188 := (((hm115).kn hk158 (by omega)).lo hk170).kn hk181 (by omega)
      have hm189 := (((hm116).kn hk158 (by omega)).lo hk170).kn hk181 (by omega)
      have hm190 := (((hm117).kn hk158 (by omega)).lo hk170).kd hk181 hd175
      have hm191 := (((hm118).kn hk158 (by omega)).lo hk170).kd hk181 hd176
      have hm192 := (((hO120).kd hk158 hd125).lo hk170).kd hk181 hd177
      have hm193 := (((hm119).kn hk158 (by omega)).lo hk170).kn hk181 (by omega)
      have hm194 := (((hO121).kd hk158 hd133).lo hk170).kd hk181 hd178
      have hm195 := (((hO122).kd hk158 hd139).lo hk170).kd hk181 hd179
      refine W.regS (SR.q' (r_mv (v := .slice _ _ _) rfl) <| SR.q' (r_lda (l := [.int .i64 v159.Kind, .int .i64 v159.Id, .int .i64 v159.Reader, .int .i64 v159.Value]) agg29 rfl (fun _ _ hu => (hb183).cell hu) rfl) <| SR.lit (vs := [.agg (List.toArray [.int .i64 v159.Kind, .int .i64 v159.Id, .int .i64 v159.Reader, .int .i64 v159.Value])]) (L := ([v159] : List LibraryStep)) (enc := encLibraryStep) tel43 (fun _ => rfl) rfl rfl rfl (by decide) ?_)
      intro g196 w197 hg198 hk199 hO200
      have hz201 := hk199.size
      have hB202 := hB185.lo hk199
      refine SR.app tel43 rfl rfl ((hm192).lo hk199) ((hO200).rd) (fun _ => rfl) (by omega) (by omega) ?_
      intro A208 c209 w210 hk211 hO212 hN213
      have hz214 := hk211.size
      have hB215 := hB202.step hk211 (fun i_ hi_ e' => by have := (((hm192).lo hk199)).base_le e'; first | omega | (exfalso; omega) | exact e' | exact .inl e' | exact .inr e')
      have hd216 : ¬ A208 = some ⟨g1, 0, none⟩ := fun e' => (hN213 g1 e').elim (fun h => hd124 (h.trans e')) (fun h => by have := ((hm186).lo hk199).lt; omega)
      have hd217 : ¬ A208 = some ⟨g9, 0, none⟩ := fun e' => (hN213 g9 e').elim (fun h => hd125 (h.trans e')) (fun h => by have := ((hm187).lo hk199).lt; omega)
      have hd218 : ∀ b_, A208 = some ⟨b_, 0, none⟩ → ¬ A20 = some ⟨b_, 0, none⟩ := fun b_ e' h' => (hN213 b_ e').elim (fun h => hd127 b_ (h.trans e') h') (fun h => by have := ((hm190).lo hk199).base_le h'; omega)
      have hd219 : ∀ b_, A208 = some ⟨b_, 0, none⟩ → ¬ A24 = some ⟨b_, 0, none⟩ := fun b_ e' h' => (hN213 b_ e').elim (fun h => hd128 b_ (h.trans e') h') (fun h => by have := ((hm191).lo hk199).base_le h'; omega)
      have hd220 : ¬ A208 = some ⟨g42, 0, none⟩ := fun e' => (hN213 g42 e').elim (fun h => hd126 (h.trans e')) (fun h => by have := ((hm189).lo hk199).lt; omega)
      have hd221 : ¬ A208 = some ⟨g72, 0, none⟩ := fun e' => (hN213 g72 e').elim (fun h => hd129 (h.trans e')) (fun h => by have := ((hm193).lo hk199).lt; omega)
      have hd222 : ∀ b_, A208 = some ⟨b_, 0, none⟩ → ¬ A107 = some ⟨b_, 0, none⟩ := fun b_ e' h' => (hN213 b_ e').elim (fun h => hd130 b_ (h.trans e') h') (fun h => by have := ((hm194).lo hk199).base_le h'; omega)
      have hd223 : ∀ b_, A208 = some ⟨b_, 0, none⟩ → ¬ A108 = some ⟨b_, 0, none⟩ := fun b_ e' h' => (hN213 b_ e').elim (fun h => hd131 b_ (h.trans e') h') (fun h => by have := ((hm195).lo hk199).base_le h'; omega)
      refine SR.q' (r_as (v := .slice _ _ _) rfl) <| SR.nil ?_
      refine W.seq ?_
      have hm226 := ((hm186).lo hk199).kp hk211 (fun e' => hd124 e')
      have hm227 := ((hm187).lo hk199).kp hk211 (fun e' => hd125 e')
      have hm228 := ((hm188).lo hk199).kp hk211 (fun b_ hb e' => by have := (((hm192).lo hk199)).base_le e'; omega)
      have hm229 := ((hm189).lo hk199).kp hk211 (fun e' => hd126 e')
      have hm230 := ((hm190).lo hk199).kp hk211 (fun b_ hb e' => hd127 b_ e' hb)
      have hm231 := ((hm191).lo hk199).kp hk211 (fun b_ hb e' => hd128 b_ e' hb)
      have hm232 := ((hm193).lo hk199).kp hk211 (fun e' => hd129 e')
      have hm233 := ((hm194).lo hk199).kp hk211 (fun b_ hb e' => hd130 b_ e' hb)
      have hm234 := ((hm195).lo hk199).kp hk211 (fun b_ hb e' => hd131 b_ e' hb)
      have hm235 := ((hb183).lo hk199).kp hk211 (fun e' => hd177 e')
      refine W.regS (SR.q' (r_lda (l := [.slice A107 n107 c107, .slice A108 n108 c108, .int .i64 o.Bought, .int .i64 o.Dropped, .int .i64 o.Mended]) agg27 rfl (fun _ _ hu => (hm232).cell hu) rfl) <| SR.q' (r_lda (l := [.int .i64 v159.Kind, .int .i64 v159.Id, .int .i64 v159.Reader, .int .i64 v159.Value]) agg29 rfl (fun _ _ hu => (hm235).cell hu) rfl) <| SR.call ent7 (c_spec_StepLibrary w210 o (((hm233).rd)) (((hm234).rd)) v159) rfl ?_)
      rintro e w236 ⟨A238, n239, c240, A242, n243, c244, rfl, hO241, hO245, hd246, hk237⟩
      refine ⟨_, rfl, ?_⟩
      have hz247 := hk237.size
      have hB248 := hB215.lo hk237
      have hl249 := hO241.len
      have hl250 := hO241.rd.bound
      have hq251 := step_lenMS o v159
      have hl252 := hO245.len
      have hl253 := hO245.rd.bound
      have hq254 := step_lenAS o v159
      refine SR.q' (r_mv (v := .tuple (List.toArray _)) rfl) <| SR.q' (r_ext (v := .agg (List.toArray _)) rfl rfl) <| SR.q' (r_ext (v := .bool _) rfl rfl) <| SR.alloc (l := [.slice none 0 0, .slice none 0 0, .int .i64 0, .int .i64 0, .int .i64 0]) tz27 rfl ?_
      intro g255 w256 hg257 hk258 hs259 hb260
      have hz261 := hk258.size
      have hB262 := hB248.lo hk258
      have hd263 : ¬ A20 = some ⟨g255, 0, none⟩ := fun e' => by have := ((hm230).lo hk237).base_le e'; omega
      have hd264 : ¬ A24 = some ⟨g255, 0, none⟩ := fun e' => by have := ((hm231).lo hk237).base_le e'; omega
      have hd265 : ¬ A107 = some ⟨g255, 0, none⟩ := fun e' => by have := ((hm233).lo hk237).base_le e'; omega
      have hd266 : ¬ A108 = some ⟨g255, 0, none⟩ := fun e' => by have := ((hm234).lo hk237).base_le e'; omega
      have hd268 : ¬ A208 = some ⟨g255, 0, none⟩ := fun e' => by have := ((hO212).lo hk237).base_le e'; omega
      have hd269 : ¬ A238 = some ⟨g255, 0, none⟩ := fun e' => by have := (hO241).base_le e'; omega
      have hd270 : ¬ A242 = some ⟨g255, 0, none⟩ := fun e' => by have := (hO245).base_le e'; omega
      refine SR.store (o := 0) (vs := [.slice A238 n239 c240, .slice A242 n243 c244, .int .i64 (((spec_StepLibrary o v159).1).Bought), .int .i64 (((spec_StepLibrary o v159).1).Dropped), .int .i64 (((spec_StepLibrary o v159).1).Mended)]) agg27.2 rfl rfl rfl rfl (hb260) (Nat.le_of_ble_eq_true rfl) rfl ?_
      intro w271 hk272 hs273 hb274
      have hz275 := hk272.size
      have hB276 := hB262.new hk272 (by omega)
      refine SR.q' (r_as (v := .bool _) rfl) <| SR.nil ?_
      refine W.seq ?_
      have hm277 := (((hm226).lo hk237).lo hk258).kn hk272 (by omega)
      have hm278 := (((hm227).lo hk237).lo hk258).kn hk272 (by omega)
      have hm279 := (((hm228).lo hk237).lo hk258).kn hk272 (by omega)
      have hm280 := (((hm229).lo hk237).lo hk258).kn hk272 (by omega)
      have hm281 := (((hm230).lo hk237).lo hk258).kd hk272 hd263
      have hm282 := (((hm231).lo hk237).lo hk258).kd hk272 hd264
      have hm283 := (((hO212).lo hk237).lo hk258).kd hk272 hd268
      have hm284 := (((hm232).lo hk237).lo hk258).kn hk272 (by omega)
      have hm285 := (((hm233).lo hk237).lo hk258).kd hk272 hd265
      have hm286 := (((hm234).lo hk237).lo hk258).kd hk272 hd266
      have hm287 := ((hO241).lo hk258).kd hk272 hd269
      have hm288 := ((hO245).lo hk258).kd hk272 hd270
      refine W.regS (SR.q' (r_mv (v := .bool _) rfl) <| SR.nil ?_)
      refine W.cond_b rfl (fun h289 => ?_) (fun h289 => ?_)
      · refine W.regS (SR.q' (r_lda (l := [.slice A238 n239 c240, .slice A242 n243 c244, .int .i64 (((spec_StepLibrary o v159).1).Bought), .int .i64 (((spec_StepLibrary o v159).1).Dropped), .int .i64 (((spec_StepLibrary o v159).1).Mended)]) agg27 rfl (fun _ _ hu => (hb274).cell hu) rfl) <| SR.store (o := 0) (vs := [.slice A238 n239 c240, .slice A242 n243 c244, .int .i64 (((spec_StepLibrary o v159).1).Bought), .int .i64 (((spec_StepLibrary o v159).1).Dropped), .int .i64 (((spec_StepLibrary o v159).1).Mended)]) agg27.2 rfl rfl rfl rfl (hm284) (Nat.le_of_ble_eq_true rfl) rfl ?_)
        intro w290 hk291 hs292 hb293
        have hz294 := hk291.size
        have hB295 := hB276.new hk291 (by omega)
        refine SR.nil ?_
        refine W.regS (SR.q' (r_mv (v := .int .i64 _) rfl) <| SR.q' (r_sub rfl rfl (by omega)) <| SR.q' (r_as (v := .int .i64 _) rfl) <| SR.nil ?_)
        refine ⟨(n - 1, ((spec_StepLibrary o v159).1), S ++ ([v159] : List LibraryStep), t160, s161, A208, n106 + 1, c209, A238, n239, c240, A242, n243, c244), _, rfl, ⟨rfl, rfl, rfl, rfl, rfl, rfl, rfl, trivial⟩, (show (Lo w w290) ∧ (Blk w290 g1 27 [.slice none 0 0, .slice none 0 0, .int .i64 0, .int .i64 0, .int .i64 0]) ∧ (Blk w290 g9 51 [.slice AL nL cL, .int .i64 t160, .int .u64 s161]) ∧ (SlR w290 BL encB 1 AL nL cL L) ∧ (Blk w290 g42 27 [.slice A20 n21 c22, .slice A24 n25 c26, .int .i64 v29.Bought, .int .i64 v29.Dropped, .int .i64 v29.Mended]) ∧ (SlO w290 w10.heap.size encLMap 3 59 A20 n21 c22 v29.Maps) ∧ (SlO w290 w10.heap.size encAway 2 63 A24 n25 c26 v29.Away) ∧ (Blk w290 g72 27 [.slice A238 n239 c240, .slice A242 n243 c244, .int .i64 (((spec_StepLibrary o v159).1).Bought), .int .i64 (((spec_StepLibrary o v159).1).Dropped), .int .i64 (((spec_StepLibrary o v159).1).Mended)]) ∧ (SlO w290 w.heap.size encLibraryStep 4 29 A208 (n106 + 1) c209 (S ++ ([v159] : List LibraryStep))) ∧ (SlO w290 w.heap.size encLMap 3 59 A238 n239 c240 (((spec_StepLibrary o v159).1).Maps)) ∧ (SlO w290 w.heap.size encAway 2 63 A242 n243 c244 (((spec_StepLibrary o v159).1).Away)) ∧ (¬ A208 = some ⟨g1, 0, none⟩) ∧ (¬ A208 = some ⟨g9, 0, none⟩) ∧ (¬ A208 = some ⟨g42, 0, none⟩) ∧ (∀ b_, A208 = some ⟨b_, 0, none⟩ → ¬ A20 = some ⟨b_, 0, none⟩) ∧ (∀ b_, A208 = some ⟨b_, 0, none⟩ → ¬ A24 = some ⟨b_, 0, none⟩) ∧ (¬ A208 = some ⟨g72, 0, none⟩) ∧ (∀ b_, A208 = some ⟨b_, 0, none⟩ → ¬ A238 = some ⟨b_, 0, none⟩) ∧ (∀ b_, A208 = some ⟨b_, 0, none⟩ → ¬ A242 = some ⟨b_, 0, none⟩) ∧ (¬ A238 = some ⟨g1, 0, none⟩) ∧ (¬ A238 = some ⟨g9, 0, none⟩) ∧ (¬ A238 = some ⟨g42, 0, none⟩) ∧ (∀ b_, A238 = some ⟨b_, 0, none⟩ → ¬ A24 = some ⟨b_, 0, none⟩) ∧ (¬ A238 = some ⟨g72, 0, none⟩) ∧ (∀ b_, A238 = some ⟨b_, 0, none⟩ → ¬ A242 = some ⟨b_, 0, none⟩) ∧ (¬ A242 = some ⟨g1, 0, none⟩) ∧ (¬ A242 = some ⟨g9, 0, none⟩) ∧ (¬ A242 = some ⟨g42, 0, none⟩) ∧ (∀ b_, A242 = some ⟨b_, 0, none⟩ → ¬ A20 = some ⟨b_, 0, none⟩) ∧ (¬ A242 = some ⟨g72, 0, none⟩) ∧ (((0 ≤ n - 1 ∧ n - 1 ≤ 11) ∧ ((S ++ ([v159] : List LibraryStep)).length : Int) + (n - 1) ≤ 12 ∧ (((spec_StepLibrary o v159).1).Maps.length ≤ 9 ∧ ((spec_StepLibrary o v159).1).Away.length ≤ 9) ∧ 0 ≤ t160 ∧ t160 ≤ 820 + 20 * (12 - (n - 1))) ∧ MapB ((spec_StepLibrary o v159).1).Maps ∧ StepsIn (S ++ ([v159] : List LibraryStep))) from ⟨hB295, (hm277).kn hk291 (by omega), ((hm278).kn hk291 (by omega)), (hm279).kn hk291 (by omega), (hm280).kn hk291 (by omega), (hm281).kd hk291 hd80, (hm282).kd hk291 hd81, (hb293), ((hm283).kd hk291 hd221), (((hm287).kn hk291 (by omega)).down (by omega)), (((hm288).kn hk291 (by omega)).down (by omega)), hd216, hd217, hd220, hd218, hd219, hd221, (fun b_ h h' => by have h1 := (hO212).base_le h; have h2 := ((hm287).kn hk291 (by omega)).base_le h'; omega), (fun b_ h h' => by have h1 := (hO212).base_le h; have h2 := ((hm288).kn hk291 (by omega)).base_le h'; omega), (fun e' => by have := ((hm287).kn hk291 (by omega)).base_le e'; omega), (fun e' => by have := ((hm287).kn hk291 (by omega)).base_le e'; omega), (fun e' => by have := ((hm287).kn hk291 (by omega)).base_le e'; omega), (fun b_ h h' => by have h1 := ((hm287).kn hk291 (by omega)).base_le h; have h2 := (hm231).base_le h'; omega), (fun e' => by have := ((hm287).kn hk291 (by omega)).base_le e'; omega), hd246, (fun e' => by have := ((hm288).kn hk291 (by omega)).base_le e'; omega), (fun e' => by have := ((hm288).kn hk291 (by omega)).base_le e'; omega), (fun e' => by have := ((hm288).kn hk291 (by omega)).base_le e'; omega), (fun b_ h h' => by have h1 := ((hm288).kn hk291 (by omega)).base_le h; have h2 := (hm230).base_le h'; omega), (fun e' => by have := ((hm288).kn hk291 (by omega)).base_le e'; omega), ?_⟩), ?_⟩
        · exact (by first | (have ho := spec_okL ‹(spec_StepLibrary _ _).2 = true›; have hl := lib_bought ho; exact ⟨⟨by omega, by simp only [List.length_append, List.length_cons, List.length_nil]; omega, by omega, by omega, by omega⟩, MapB.of ho.1.1, (by first | assumption | exact StepsIn.app ‹StepsIn _› (by first | assumption | omega | (dsimp only; omega)))⟩) | exact ⟨⟨by omega, by simp only [List.length_append, List.length_cons, List.length_nil]; omega, by omega, by omega, by omega⟩, ‹MapB _›, (by first | assumption | exact StepsIn.app ‹StepsIn _› (by first | assumption | omega | (dsimp only; omega)))⟩)
        · exact (by omega)
      · refine W.skip ?_
        refine W.regS (SR.q' (r_mv (v := .int .i64 _) rfl) <| SR.q' (r_sub rfl rfl (by omega)) <| SR.q' (r_as (v := .int .i64 _) rfl) <| SR.nil ?_)
        refine ⟨(n - 1, o, S ++ ([v159] : List LibraryStep), t160, s161, A208, n106 + 1, c209, A107, n107, c107, A108, n108, c108), _, rfl, ⟨rfl, rfl, rfl, rfl, rfl, rfl, rfl, trivial⟩, (show (Lo w w271) ∧ (Blk w271 g1 27 [.slice none 0 0, .slice none 0 0, .int .i64 0, .int .i64 0, .int .i64 0]) ∧ (Blk w271 g9 51 [.slice AL nL cL, .int .i64 t160, .int .u64 s161]) ∧ (SlR w271 BL encB 1 AL nL cL L) ∧ (Blk w271 g42 27 [.slice A20 n21 c22, .slice A24 n25 c26, .int .i64 v29.Bought, .int .i64 v29.Dropped, .int .i64 v29.Mended]) ∧ (SlO w271 w10.heap.size encLMap 3 59 A20 n21 c22 v29.Maps) ∧ (SlO w271 w10.heap.size encAway 2 63 A24 n25 c26 v29.Away) ∧ (Blk w271 g72 27 [.slice A107 n107 c107, .slice A108 n108 c108, .int .i64 o.Bought, .int .i64 o.Dropped, .int .i64 o.Mended]) ∧ (SlO w271 w.heap.size encLibraryStep 4 29 A208 (n106 + 1) c209 (S ++ ([v159] : List LibraryStep))) ∧ (SlO w271 w.heap.size encLMap 3 59 A107 n107 c107 o.Maps) ∧ (SlO w271 w.heap.size encAway 2 63 A108 n108 c108 o.Away) ∧ (¬ A208 = some ⟨g1, 0, none⟩) ∧ (¬ A208 = some ⟨g9, 0, none⟩) ∧ (¬ A208 = some ⟨g42, 0, none⟩) ∧ (∀ b_, A208 = some ⟨b_, 0, none⟩ → ¬ A20 = some ⟨b_, 0, none⟩) ∧ (∀ b_, A208 = some ⟨b_, 0, none⟩ → ¬ A24 = some ⟨b_, 0, none⟩) ∧ (¬ A208 = some ⟨g72, 0, none⟩) ∧ (∀ b_, A208 = some ⟨b_, 0, none⟩ → ¬ A107 = some ⟨b_, 0, none⟩) ∧ (∀ b_, A208 = some ⟨b_, 0, none⟩ → ¬ A108 = some ⟨b_, 0, none⟩) ∧ (¬ A107 = some ⟨g1, 0, none⟩) ∧ (¬ A107 = some ⟨g9, 0, none⟩) ∧ (¬ A107 = some ⟨g42, 0, none⟩) ∧ (∀ b_, A107 = some ⟨b_, 0, none⟩ → ¬ A24 = some ⟨b_, 0, none⟩) ∧ (¬ A107 = some ⟨g72, 0, none⟩) ∧ (∀ b_, A107 = some ⟨b_, 0, none⟩ → ¬ A108 = some ⟨b_, 0, none⟩) ∧ (¬ A108 = some ⟨g1, 0, none⟩) ∧ (¬ A108 = some ⟨g9, 0, none⟩) ∧ (¬ A108 = some ⟨g42, 0, none⟩) ∧ (∀ b_, A108 = some ⟨b_, 0, none⟩ → ¬ A20 = some ⟨b_, 0, none⟩) ∧ (¬ A108 = some ⟨g72, 0, none⟩) ∧ (((0 ≤ n - 1 ∧ n - 1 ≤ 11) ∧ ((S ++ ([v159] : List LibraryStep)).length : Int) + (n - 1) ≤ 12 ∧ (o.Maps.length ≤ 9 ∧ o.Away.length ≤ 9) ∧ 0 ≤ t160 ∧ t160 ≤ 820 + 20 * (12 - (n - 1))) ∧ MapB o.Maps ∧ StepsIn (S ++ ([v159] : List LibraryStep))) from ⟨hB276, hm277, (hm278), hm279, hm280, hm281, hm282, (hm284), (hm283), (hm285), (hm286), hd216, hd217, hd220, hd218, hd219, hd221, hd222, hd223, hd132, hd133, hd134, hd135, hd136, hd137, hd138, hd139, hd140, hd141, hd142, ?_⟩), ?_⟩
        · exact (by first | (have ho := spec_okL ‹(spec_StepLibrary _ _).2 = true›; have hl := lib_bought ho; exact ⟨⟨by omega, by simp only [List.length_append, List.length_cons, List.length_nil]; omega, by omega, by omega, by omega⟩, MapB.of ho.1.1, (by first | assumption | exact StepsIn.app ‹StepsIn _› (by first | assumption | omega | (dsimp only; omega)))⟩) | exact ⟨⟨by omega, by simp only [List.length_append, List.length_cons, List.length_nil]; omega, by omega, by omega, by omega⟩, ‹MapB _›, (by first | assumption | exact StepsIn.app ‹StepsIn _› (by first | assumption | omega | (dsimp only; omega)))⟩)
        · exact (by omega)
    · refine W.exit (xin_here ?_)
      refine W.seq ?_
      refine W.seq ?_
      refine W.regS (SR.q' (r_mv (v := .pointer (some _)) rfl) <| SR.call ent37 (c___spec_l1Cur__one w110 L t z (hm114) ((hm115)) (by omega) (by omega) 24 (by first | omega | (simp only [List.length_append, List.length_cons, List.length_nil, List.length_take, List.length_drop]; omega))) rfl ?_)
      rintro e w296 ⟨v298, t299, s300, rfl, hb301, ht302, hk297⟩
      refine ⟨_, rfl, ?_⟩
      have hz303 := hk297.size
      have hB304 := hB111.new hk297 (by omega)
      refine SR.nil ?_
      refine W.cond_b rfl (fun h305 => ?_) (fun h305 => ?_)
      · refine W.block ?_
        refine W.loop (σ := (List LibraryStep) × Int × Int × (Option Addr) × Nat × Nat) (fun g => [(2, .pointer (pA g1)), (3, .slice none 0 0), (4, .pointer (pA g9)), (5, .pointer (pA g42)), (6, .slice g.2.2.2.1 g.2.2.2.2.1 g.2.2.2.2.2)]) (fun g w' => (Lo w w') ∧ (Blk w' g1 27 [.slice none 0 0, .slice none 0 0, .int .i64 0, .int .i64 0, .int .i64 0]) ∧ (Blk w' g9 51 [.slice AL nL cL, .int .i64 g.2.1, .int .u64 g.2.2.1]) ∧ (SlR w' BL encB 1 AL nL cL L) ∧ (Blk w' g42 27 [.slice A20 n21 c22, .slice A24 n25 c26, .int .i64 v29.Bought, .int .i64 v29.Dropped, .int .i64 v29.Mended]) ∧ (SlO w' w10.heap.size encLMap 3 59 A20 n21 c22 v29.Maps) ∧ (SlO w' w10.heap.size encAway 2 63 A24 n25 c26 v29.Away) ∧ (SlO w' w.heap.size encLibraryStep 4 29 g.2.2.2.1 g.2.2.2.2.1 g.2.2.2.2.2 g.1) ∧ (¬ g.2.2.2.1 = some ⟨g1, 0, none⟩) ∧ (¬ g.2.2.2.1 = some ⟨g9, 0, none⟩) ∧ (¬ g.2.2.2.1 = some ⟨g42, 0, none⟩) ∧ (∀ b_, g.2.2.2.1 = some ⟨b_, 0, none⟩ → ¬ A20 = some ⟨b_, 0, none⟩) ∧ (∀ b_, g.2.2.2.1 = some ⟨b_, 0, none⟩ → ¬ A24 = some ⟨b_, 0, none⟩) ∧ ((g.1.length ≤ 41 ∧ 0 ≤ g.2.1 ∧ g.2.1 ≤ 1600 + 2 * (g.1.length : Int)) ∧ StepsIn g.1)) (fun g => 60 - g.1.length) (S, t299, s300, A106, n106, c106) ?_ ?_ ?_
        · exact ⟨rfl, rfl, rfl, rfl, rfl, trivial⟩
        · show (Lo w w296) ∧ (Blk w296 g1 27 [.slice none 0 0, .slice none 0 0, .int .i64 0, .int .i64 0, .int .i64 0]) ∧ (Blk w296 g9 51 [.slice AL nL cL, .int .i64 t299, .int .u64 s300]) ∧ (SlR w296 BL encB 1 AL nL cL L) ∧ (Blk w296 g42 27 [.slice A20 n21 c22, .slice A24 n25 c26, .int .i64 v29.Bought, .int .i64 v29.Dropped, .int .i64 v29.Mended]) ∧ (SlO w296 w10.heap.size encLMap 3 59 A20 n21 c22 v29.Maps) ∧ (SlO w296 w10.heap.size encAway 2 63 A24 n25 c26 v29.Away) ∧ (SlO w296 w.heap.size encLibraryStep 4 29 A106 n106 c106 S) ∧ (¬ A106 = some ⟨g1, 0, none⟩) ∧ (¬ A106 = some ⟨g9, 0, none⟩) ∧ (¬ A106 = some ⟨g42, 0, none⟩) ∧ (∀ b_, A106 = some ⟨b_, 0, none⟩ → ¬ A20 = some ⟨b_, 0, none⟩) ∧ (∀ b_, A106 = some ⟨b_, 0, none⟩ → ¬ A24 = some ⟨b_, 0, none⟩) ∧ ((S.length ≤ 41 ∧ 0 ≤ t299 ∧ t299 ≤ 1600 + 2 * (S.length : Int)) ∧ StepsIn S)
          exact ⟨hB304, (hm113).kn hk297 (by omega), (hb301), (hm115).kn hk297 (by omega), (hm116).kn hk297 (by omega), (hm117).kn hk297 (by omega), (hm118).kn hk297 (by omega), ((hO120).kd hk297 hd125), hd124, hd125, hd126, hd127, hd128, (by exact ⟨by omega, by assumption⟩)⟩
        · rintro ⟨Q, t2, z2, A306, n306, c306⟩ f307 w308 hP310
          obtain ⟨hB309, hm311, hm312, hm313, hm314, hm315, hm316, hO317, hd319, hd320, hd321, hd322, hd323, hi318⟩ : (Lo w w308) ∧ (Blk w308 g1 27 [.slice none 0 0, .slice none 0 0, .int .i64 0, .int .i64 0, .int .i64 0]) ∧ (Blk w308 g9 51 [.slice AL nL cL, .int .i64 t2, .int .u64 z2]) ∧ (SlR w308 BL encB 1 AL nL cL L) ∧ (Blk w308 g42 27 [.slice A20 n21 c22, .slice A24 n25 c26, .int .i64 v29.Bought, .int .i64 v29.Dropped, .int .i64 v29.Mended]) ∧ (SlO w308 w10.heap.size encLMap 3 59 A20 n21 c22 v29.Maps) ∧ (SlO w308 w10.heap.size encAway 2 63 A24 n25 c26 v29.Away) ∧ (SlO w308 w.heap.size encLibraryStep 4 29 A306 n306 c306 Q) ∧ (¬ A306 = some ⟨g1, 0, none⟩) ∧ (¬ A306 = some ⟨g9, 0, none⟩) ∧ (¬ A306 = some ⟨g42, 0, none⟩) ∧ (∀ b_, A306 = some ⟨b_, 0, none⟩ → ¬ A20 = some ⟨b_, 0, none⟩) ∧ (∀ b_, A306 = some ⟨b_, 0, none⟩ → ¬ A24 = some ⟨b_, 0, none⟩) ∧ ((Q.length ≤ 41 ∧ 0 ≤ t2 ∧ t2 ≤ 1600 + 2 * (Q.length : Int)) ∧ StepsIn Q) := hP310
          refine (?_ : W _ _ _ _ _ (act _ (sets f307 [(2, .pointer (pA g1)), (3, .slice none 0 0), (4, .pointer (pA g9)), (5, .pointer (pA g42)), (6, .slice A306 n306 c306)])) _)
          have hzw308 := hB309.size
          have hl324 := hm311.lt
          have hl325 := hm312.lt
          have hl326 := hm314.lt
          have hl327 := hO317.len
          have hl328 := hO317.rd.bound
          have hq329 : Q.length ≤ 41 ∧ 0 ≤ t2 ∧ t2 ≤ 1600 + 2 * (Q.length : Int) := hi318.1
          have hq330 : StepsIn Q := hi318.2
          refine W.seq ?_
          refine W.seq ?_
          refine W.regS (SR.q' (r_mv (v := .slice _ _ _) rfl) <| SR.q' (r_len und43 rfl) <| SR.q' (r_mv (v := .pointer (some _)) rfl) <| SR.call ent36 (c___spec_l1Cur__pick w308 L t2 z2 (hm312) ((hm313)) (by omega) (by omega) 2 (by first | omega | (simp only [List.length_append, List.length_cons, List.length_nil, List.length_take, List.length_drop]; omega))) rfl ?_)
          rintro e w331 ⟨v333, t334, s335, rfl, hb336, ht337, hq338, hk332⟩
          refine ⟨_, rfl, ?_⟩
          have hz339 := hk332.size
          have hB340 := hB309.new hk332 (by omega)
          refine SR.q' (r_add rfl rfl (by omega)) <| SR.q' (r_lt rfl rfl) <| SR.nil ?_
          refine W.cond_d rfl (fun h341 => ?_) (fun h341 => ?_)
          · refine W.skip ?_
            refine W.block ?_
            refine W.regS (SR.q' (r_mv (v := .slice _ _ _) rfl) <| SR.q' (r_build (vs := [(0, .int .i64 1), (1, .int .i64 7), (3, .int .i64 1)]) rfl (bld29_0_1_3 _ _ _)) <| SR.lit (vs := [.agg (List.toArray [.int .i64 1, .int .i64 7, .int .i64 0, .int .i64 1])]) (L := ([(⟨1, 7, 0, 1⟩ : LibraryStep)] : List LibraryStep)) (enc := encLibraryStep) tel43 (fun _ => rfl) rfl rfl rfl (by decide) ?_)
            intro g342 w343 hg344 hk345 hO346
            have hz347 := hk345.size
            have hB348 := hB340.lo hk345
            refine SR.app tel43 rfl rfl (((hO317).kd hk332 hd320).lo hk345) ((hO346).rd) (fun _ => rfl) (by omega) (by omega) ?_
            intro A352 c353 w354 hk355 hO356 hN357
            have hz358 := hk355.size
            have hB359 := hB348.step hk355 (fun i_ hi_ e' => by have := ((((hO317).kd hk332 hd320).lo hk345)).base_le e'; first | omega | (exfalso; omega) | exact e' | exact .inl e' | exact .inr e')
            have hd360 : ¬ A352 = some ⟨g1, 0, none⟩ := fun e' => (hN357 g1 e').elim (fun h => hd319 (h.trans e')) (fun h => by have := (((hm311).kn hk332 (by omega)).lo hk345).lt; omega)
            have hd361 : ¬ A352 = some ⟨g9, 0, none⟩ := fun e' => (hN357 g9 e').elim (fun h => hd320 (h.trans e')) (fun h => by have := ((hb336).lo hk345).lt; omega)
            have hd362 : ∀ b_, A352 = some ⟨b_, 0, none⟩ → ¬ A20 = some ⟨b_, 0, none⟩ := fun b_ e' h' => (hN357 b_ e').elim (fun h => hd322 b_ (h.trans e') h') (fun h => by have := (((hm315).kn hk332 (by omega)).lo hk345).base_le h'; omega)
            have hd363 : ∀ b_, A352 = some ⟨b_, 0, none⟩ → ¬ A24 = some ⟨b_, 0, none⟩ := fun b_ e' h' => (hN357 b_ e').elim (fun h => hd323 b_ (h.trans e') h') (fun h => by have := (((hm316).kn hk332 (by omega)).lo hk345).base_le h'; omega)
            have hd364 : ¬ A352 = some ⟨g42, 0, none⟩ := fun e' => (hN357 g42 e').elim (fun h => hd321 (h.trans e')) (fun h => by have := (((hm314).kn hk332 (by omega)).lo hk345).lt; omega)
            refine SR.q' (r_as (v := .slice _ _ _) rfl) <| SR.nil ?_
            refine ⟨(Q ++ ([(⟨1, 7, 0, 1⟩ : LibraryStep)] : List LibraryStep), t334, s335, A352, n306 + 1, c353), _, rfl, ⟨rfl, rfl, rfl, rfl, rfl, trivial⟩, (show (Lo w w354) ∧ (Blk w354 g1 27 [.slice none 0 0, .slice none 0 0, .int .i64 0, .int .i64 0, .int .i64 0]) ∧ (Blk w354 g9 51 [.slice AL nL cL, .int .i64 t334, .int .u64 s335]) ∧ (SlR w354 BL encB 1 AL nL cL L) ∧ (Blk w354 g42 27 [.slice A20 n21 c22, .slice A24 n25 c26, .int .i64 v29.Bought, .int .i64 v29.Dropped, .int .i64 v29.Mended]) ∧ (SlO w354 w10.heap.size encLMap 3 59 A20 n21 c22 v29.Maps) ∧ (SlO w354 w10.heap.size encAway 2 63 A24 n25 c26 v29.Away) ∧ (SlO w354 w.heap.size encLibraryStep 4 29 A352 (n306 + 1) c353 (Q ++ ([(⟨1, 7, 0, 1⟩ : LibraryStep)] : List LibraryStep))) ∧ (¬ A352 = some ⟨g1, 0, none⟩) ∧ (¬ A352 = some ⟨g9, 0, none⟩) ∧ (¬ A352 = some ⟨g42, 0, none⟩) ∧ (∀ b_, A352 = some ⟨b_, 0, none⟩ → ¬ A20 = some ⟨b_, 0, none⟩) ∧ (∀ b_, A352 = some ⟨b_, 0, none⟩ → ¬ A24 = some ⟨b_, 0, none⟩) ∧ (((Q ++ ([(⟨1, 7, 0, 1⟩ : LibraryStep)] : List LibraryStep)).length ≤ 41 ∧ 0 ≤ t334 ∧ t334 ≤ 1600 + 2 * ((Q ++ ([(⟨1, 7, 0, 1⟩ : LibraryStep)] : List LibraryStep)).length : Int)) ∧ StepsIn (Q ++ ([(⟨1, 7, 0, 1⟩ : LibraryStep)] : List LibraryStep))) from ⟨hB359, (((hm311).kn hk332 (by omega)).lo hk345).kp hk355 (fun e' => hd319 e'), (((hb336).lo hk345).kp hk355 (fun e' => hd320 e')), (((hm313).kn hk332 (by omega)).lo hk345).kp hk355 (fun b_ hb e' => by have := ((((hO317).kd hk332 hd320).lo hk345)).base_le e'; omega), (((hm314).kn hk332 (by omega)).lo hk345).kp hk355 (fun e' => hd321 e'), (((hm315).kn hk332 (by omega)).lo hk345).kp hk355 (fun b_ hb e' => hd322 b_ e' hb), (((hm316).kn hk332 (by omega)).lo hk345).kp hk355 (fun b_ hb e' => hd323 b_ e' hb), (hO356), hd360, hd361, hd364, hd362, hd363, ?_⟩), ?_⟩
            · exact (by exact ⟨by simp only [List.length_append, List.length_cons, List.length_nil]; omega, (by first | assumption | exact StepsIn.app ‹StepsIn _› (by first | assumption | omega | (dsimp only; omega)))⟩)
            · exact (by simp only [List.length_append, List.length_cons, List.length_nil]; omega)
          · refine W.exit (xin_here ?_)
            refine W.seq ?_
            refine W.regS (SR.q' (r_lda (l := [.slice A20 n21 c22, .slice A24 n25 c26, .int .i64 v29.Bought, .int .i64 v29.Dropped, .int .i64 v29.Mended]) agg27 rfl (fun _ _ hu => ((hm314).kn hk332 (by omega)).cell hu) rfl) <| SR.q' (r_mv (v := .slice _ _ _) rfl) <| SR.store (o := 0) (vs := [.slice A20 n21 c22, .slice A24 n25 c26, .int .i64 v29.Bought, .int .i64 v29.Dropped, .int .i64 v29.Mended]) agg27.2 rfl rfl rfl rfl ((hm311).kn hk332 (by omega)) (Nat.le_of_ble_eq_true rfl) rfl ?_)
            intro w366 hk367 hs368 hb369
            have hz370 := hk367.size
            have hB371 := hB340.new hk367 (by omega)
            refine SR.q' (r_as (v := .slice _ _ _) rfl) <| SR.nil ?_
            refine W.ret ?_
            refine retCT rfl rfl agg27 (hb369) rfl (v := .slice _ _ _) rfl ?_
            exact ⟨A20, n21, c22, A24, n25, c26, A306, n306, c306, v29, Q, eR (eT2 rfl rfl), ((((hm315).kn hk332 (by omega)).kn hk367 (by omega)).down (by omega)), ((((hm316).kn hk332 (by omega)).kn hk367 (by omega)).down (by omega)), ((((hO317).kd hk332 hd320).kd hk367 hd319).down (by omega)), hd28, (fun b_ h h' => hd322 b_ h' h), (fun b_ h h' => hd323 b_ h' h), hq34, hq35, (by omega), hq330, hB371⟩
      · refine W.skip ?_
        refine W.seq ?_
        refine W.regS (SR.q' (r_lda (l := [.slice A20 n21 c22, .slice A24 n25 c26, .int .i64 v29.Bought, .int .i64 v29.Dropped, .int .i64 v29.Mended]) agg27 rfl (fun _ _ hu => ((hm116).kn hk297 (by omega)).cell hu) rfl) <| SR.q' (r_mv (v := .slice _ _ _) rfl) <| SR.store (o := 0) (vs := [.slice A20 n21 c22, .slice A24 n25 c26, .int .i64 v29.Bought, .int .i64 v29.Dropped, .int .i64 v29.Mended]) agg27.2 rfl rfl rfl rfl ((hm113).kn hk297 (by omega)) (Nat.le_of_ble_eq_true rfl) rfl ?_)
        intro w372 hk373 hs374 hb375
        have hz376 := hk373.size
        have hB377 := hB304.new hk373 (by omega)
        refine SR.q' (r_as (v := .slice _ _ _) rfl) <| SR.nil ?_
        refine W.ret ?_
        refine retCT rfl rfl agg27 (hb375) rfl (v := .slice _ _ _) rfl ?_
        exact ⟨A20, n21, c22, A24, n25, c26, A106, n106, c106, v29, S, eR (eT2 rfl rfl), ((((hm117).kn hk297 (by omega)).kn hk373 (by omega)).down (by omega)), ((((hm118).kn hk297 (by omega)).kn hk373 (by omega)).down (by omega)), ((((hO120).kd hk297 hd125).kd hk373 hd124).down (by omega)), hd28, (fun b_ h h' => hd127 b_ h' h), (fun b_ h h' => hd128 b_ h' h), hq34, hq35, (by omega), hq155, hB377⟩

theorem c_laws_vBig (w : World) {AL : Option Addr} {nL cL BL : Nat}  (L : List UInt8) (hL : SlR w BL encB 1 AL nL cL L) : Calls Try.prog 4 #[.slice AL nL cL] w fun e w' => e = .returned (.bool (decide (65536 < (L.length : Int)))) ∧ Lo w w' := by
  refine calls_W 6 Try.func4 rfl rfl rfl ?_
  have hbdL := hL.bound
  have hleL := hL.len
  have hBbL := hL.bd
  refine W.seq ?_
  refine W.regS (SR.q' (r_as (v := .bool false) rfl) <| SR.nil ?_)
  refine W.seq ?_
  refine W.regS (SR.q' (r_mv (v := .slice _ _ _) rfl) <| SR.q' (r_len und22 rfl) <| SR.q' (r_gt rfl rfl) <| SR.q' (r_as (v := .bool _) rfl) <| SR.nil ?_)
  refine W.ret ?_
  refine ret1 rfl (v := .bool _) rfl ?_
  exact ⟨eR (eDD (by omega)), (Lo.refl w)⟩

theorem c_laws_vMaps (w : World) {AL : Option Addr} {nL cL BL : Nat}  (L : List LMap) (hL : SlR w BL encLMap 3 AL nL cL L) {AM : Option Addr} {nM cM BM : Nat}  (M : List LMap) (hM : SlR w BM encLMap 3 AM nM cM M) : Calls Try.prog 26 #[.slice AL nL cL, .slice AM nM cM] w fun e w' => e = .returned (.bool (decide (L = M))) ∧ Lo w w' := by
  refine calls_W 26 Try.func26 rfl rfl rfl ?_
  have hbdL := hL.bound
  have hleL := hL.len
  have hBbL := hL.bd
  have hbdM := hM.bound
  have hleM := hM.len
  have hBbM := hM.bd
  refine W.seq ?_
  refine W.regS (SR.q' (r_as (v := .bool false) rfl) <| SR.nil ?_)
  refine W.seq ?_
  refine W.seq ?_
  refine W.regS (SR.q' (r_mv (v := .slice _ _ _) rfl) <| SR.q' (r_len und24 rfl) <| SR.q' (r_mv (v := .slice _ _ _) rfl) <| SR.q' (r_len und24 rfl) <| SR.q' (r_ne rfl rfl) <| SR.nil ?_)
  refine W.cond_n rfl (fun h1 => ?_) (fun h1 => ?_)
  · refine W.seq ?_
    refine W.regS (SR.q' (r_as (v := .bool false) rfl) <| SR.nil ?_)
    refine W.ret ?_
    refine ret1 rfl (v := .bool _) rfl ?_
    exact ⟨eR (eDF (by first | (intro e; subst e; omega) | exact ne_at ‹L[_]? = some _› ‹M[_]? = some _› ‹_› | exact take_end (And.right ‹_ ∧ L.take _ = M.take _›) hleL hleM (by omega) ‹_›)), (Lo.refl w)⟩
  · refine W.skip ?_
    refine W.seq ?_
    refine W.seq ?_
    refine W.regS (SR.q' (r_as (v := .int .i64 0) rfl) <| SR.nil ?_)
    refine W.block ?_
    refine W.loop (σ := Nat) (fun g => [(0, .slice AL nL cL), (1, .slice AM nM cM), (5, .int .i64 (g : Int))]) (fun g w' => (Lo w w') ∧ (SlR w' BL encLMap 3 AL nL cL L) ∧ (SlR w' BM encLMap 3 AM nM cM M) ∧ (g ≤ nL ∧ L.take g = M.take g)) (fun g => nL - g) 0 ?_ ?_ ?_
    · exact ⟨rfl, rfl, rfl, trivial⟩
    · exact ⟨(Lo.refl w), hL, hM, (by simp)⟩
    · rintro k f2 w3 hP5
      obtain ⟨hB4, hm6, hm7, hi8⟩ : (Lo w w3) ∧ (SlR w3 BL encLMap 3 AL nL cL L) ∧ (SlR w3 BM encLMap 3 AM nM cM M) ∧ (k ≤ nL ∧ L.take k = M.take k) := hP5
      refine (?_ : W _ _ _ _ _ (act _ (sets f2 [(0, .slice AL nL cL), (1, .slice AM nM cM), (5, .int .i64 (k : Int))])) _)
      have hzw3 := hB4.size
      refine W.seq ?_
      refine W.seq ?_
      refine W.regS (SR.q' (r_mv (v := .int .i64 _) rfl) <| SR.q' (r_mv (v := .slice _ _ _) rfl) <| SR.q' (r_len und24 rfl) <| SR.q' (r_lt rfl rfl) <| SR.nil ?_)
      refine W.cond_d rfl (fun h9 => ?_) (fun h9 => ?_)
      · refine W.skip ?_
        refine W.seq ?_
        refine W.block ?_
        refine W.seq ?_
        refine W.regD mo (by kernel_rfl) (QR.q' (fun w' hw' => r_mv (v := .slice _ _ _) rfl) <| QR.q' (fun w' hw' => r_mv (v := .int .i64 _) rfl) <| ?_)
        have hx11 := (hm6).elem (i := k) (by omega)
        refine QR.q' (fun w' hw' => r_ixR tsl24 (((hm6).lo hw')) rfl rfl (by omega)) <| QR.q' (fun w' hw' => r_lda (l := encLMap (gt L k)) agg59 rfl (fun _ _ hu => (((hm6).lo hw')).cell hx11 hu) ((((hm6).lo hw')).esz _)) <| QR.q' (fun w' hw' => r_mv (v := .slice _ _ _) rfl) <| QR.q' (fun w' hw' => r_mv (v := .int .i64 _) rfl) <| ?_
        have hx13 := (hm7).elem (i := k) (by omega)
        refine QR.q' (fun w' hw' => r_ixR tsl24 (((hm7).lo hw')) rfl rfl (by omega)) <| QR.q' (fun w' hw' => r_lda (l := encLMap (gt M k)) agg59 rfl (fun _ _ hu => (((hm7).lo hw')).cell hx13 hu) ((((hm7).lo hw')).esz _)) <| QR.q' (fun w' hw' => r_neA (l := encLMap (gt L k)) (r := encLMap (gt M k)) rfl rfl eqg59 (eql59 (gt L k) (gt M k))) <| QR.nil ?_
        intro w14 hk15
        have hz16 := hk15.size
        have hB17 := hB4.lo hk15
        refine W.cond_n rfl (fun h18 => ?_) (fun h18 => ?_)
        · refine W.seq ?_
          refine W.regS (SR.q' (r_as (v := .bool false) rfl) <| SR.nil ?_)
          refine W.ret ?_
          refine ret1 rfl (v := .bool _) rfl ?_
          exact ⟨eR (eDF (by first | (intro e; subst e; omega) | exact ne_at ‹L[_]? = some _› ‹M[_]? = some _› ‹_› | exact take_end (And.right ‹_ ∧ L.take _ = M.take _›) hleL hleM (by omega) ‹_›)), hB17⟩
        · refine W.skip ?_
          refine W.regS (SR.q' (r_mv (v := .int .i64 _) rfl) <| SR.q' (r_add rfl rfl (by omega)) <| SR.q' (r_as (v := .int .i64 _) rfl) <| SR.nil ?_)
          refine ⟨k + 1, _, rfl, ⟨rfl, rfl, rfl, trivial⟩, ⟨hB17, (hm6).lo hk15, (hm7).lo hk15, ?_⟩, ?_⟩
          · exact (by exact ⟨by omega, take_next (And.right ‹_ ∧ L.take _ = M.take _›) ‹L[_]? = some _› ‹M[_]? = some _› (by assumption)⟩)
          · exact (by omega)
      · refine W.exit (xin_here ?_)
        refine W.seq ?_
        refine W.regS (SR.q' (r_as (v := .bool true) rfl) <| SR.nil ?_)
        refine W.ret ?_
        refine ret1 rfl (v := .bool _) rfl ?_
        exact ⟨eR (eDT (by first | (intro e; subst e; omega) | exact ne_at ‹L[_]? = some _› ‹M[_]? = some _› ‹_› | exact take_end (And.right ‹_ ∧ L.take _ = M.take _›) hleL hleM (by omega) ‹_›)), hB4⟩

theorem c_laws_vAway (w : World) {AL : Option Addr} {nL cL BL : Nat}  (L : List Away) (hL : SlR w BL encAway 2 AL nL cL L) {AM : Option Addr} {nM cM BM : Nat}  (M : List Away) (hM : SlR w BM encAway 2 AM nM cM M) : Calls Try.prog 27 #[.slice AL nL cL, .slice AM nM cM] w fun e w' => e = .returned (.bool (decide (L = M))) ∧ Lo w w' := by
  refine calls_W 26 Try.func27 rfl rfl rfl ?_
  have hbdL := hL.bound
  have hleL := hL.len
  have hBbL := hL.bd
  have hbdM := hM.bound
  have hleM := hM.len
  have hBbM := hM.bd
  refine W.seq ?_
  refine W.regS (SR.q' (r_as (v := .bool false) rfl) <| SR.nil ?_)
  refine W.seq ?_
  refine W.seq ?_
  refine W.regS (SR.q' (r_mv (v := .slice _ _ _) rfl) <| SR.q' (r_len und25 rfl) <| SR.q' (r_mv (v := .slice _ _ _) rfl) <| SR.q' (r_len und25 rfl) <| SR.q' (r_ne rfl rfl) <| SR.nil ?_)
  refine W.cond_n rfl (fun h1 => ?_) (fun h1 => ?_)
  · refine W.seq ?_
    refine W.regS (SR.q' (r_as (v := .bool false) rfl) <| SR.nil ?_)
    refine W.ret ?_
    refine ret1 rfl (v := .bool _) rfl ?_
    exact ⟨eR (eDF (by first | (intro e; subst e; omega) | exact ne_at ‹L[_]? = some _› ‹M[_]? = some _› ‹_› | exact take_end (And.right ‹_ ∧ L.take _ = M.take _›) hleL hleM (by omega) ‹_›)), (Lo.refl w)⟩
  · refine W.skip ?_
    refine W.seq ?_
    refine W.seq ?_
    refine W.regS (SR.q' (r_as (v := .int .i64 0) rfl) <| SR.nil ?_)
    refine W.block ?_
    refine W.loop (σ := Nat) (fun g => [(0, .slice AL nL cL), (1, .slice AM nM cM), (5, .int .i64 (g : Int))]) (fun g w' => (Lo w w') ∧ (SlR w' BL encAway 2 AL nL cL L) ∧ (SlR w' BM encAway 2 AM nM cM M) ∧ (g ≤ nL ∧ L.take g = M.take g)) (fun g => nL - g) 0 ?_ ?_ ?_
    · exact ⟨rfl, rfl, rfl, trivial⟩
    · exact ⟨(Lo.refl w), hL, hM, (by simp)⟩
    · rintro k f2 w3 hP5
      obtain ⟨hB4, hm6, hm7, hi8⟩ : (Lo w w3) ∧ (SlR w3 BL encAway 2 AL nL cL L) ∧ (SlR w3 BM encAway 2 AM nM cM M) ∧ (k ≤ nL ∧ L.take k = M.take k) := hP5
      refine (?_ : W _ _ _ _ _ (act _ (sets f2 [(0, .slice AL nL cL), (1, .slice AM nM cM), (5, .int .i64 (k : Int))])) _)
      have hzw3 := hB4.size
      refine W.seq ?_
      refine W.seq ?_
      refine W.regS (SR.q' (r_mv (v := .int .i64 _) rfl) <| SR.q' (r_mv (v := .slice _ _ _) rfl) <| SR.q' (r_len und25 rfl) <| SR.q' (r_lt rfl rfl) <| SR.nil ?_)
      refine W.cond_d rfl (fun h9 => ?_) (fun h9 => ?_)
      · refine W.skip ?_
        refine W.seq ?_
        refine W.block ?_
        refine W.seq ?_
        refine W.regD mo (by kernel_rfl) (QR.q' (fun w' hw' => r_mv (v := .slice _ _ _) rfl) <| QR.q' (fun w' hw' => r_mv (v := .int .i64 _) rfl) <| ?_)
        have hx11 := (hm6).elem (i := k) (by omega)
        refine QR.q' (fun w' hw' => r_ixR tsl25 (((hm6).lo hw')) rfl rfl (by omega)) <| QR.q' (fun w' hw' => r_lda (l := encAway (gt L k)) agg63 rfl (fun _ _ hu => (((hm6).lo hw')).cell hx11 hu) ((((hm6).lo hw')).esz _)) <| QR.q' (fun w' hw' => r_mv (v := .slice _ _ _) rfl) <| QR.q' (fun w' hw' => r_mv (v := .int .i64 _) rfl) <| ?_
        have hx13 := (hm7).elem (i := k) (by omega)
        refine QR.q' (fun w' hw' => r_ixR tsl25 (((hm7).lo hw')) rfl rfl (by omega)) <| QR.q' (fun w' hw' => r_lda (l := encAway (gt M k)) agg63 rfl (fun _ _ hu => (((hm7).lo hw')).cell hx13 hu) ((((hm7).lo hw')).esz _)) <| QR.q' (fun w' hw' => r_neA (l := encAway (gt L k)) (r := encAway (gt M k)) rfl rfl eqg63 (eql63 (gt L k) (gt M k))) <| QR.nil ?_
        intro w14 hk15
        have hz16 := hk15.size
        have hB17 := hB4.lo hk15
        refine W.cond_n rfl (fun h18 => ?_) (fun h18 => ?_)
        · refine W.seq ?_
          refine W.regS (SR.q' (r_as (v := .bool false) rfl) <| SR.nil ?_)
          refine W.ret ?_
          refine ret1 rfl (v := .bool _) rfl ?_
          exact ⟨eR (eDF (by first | (intro e; subst e; omega) | exact ne_at ‹L[_]? = some _› ‹M[_]? = some _› ‹_› | exact take_end (And.right ‹_ ∧ L.take _ = M.take _›) hleL hleM (by omega) ‹_›)), hB17⟩
        · refine W.skip ?_
          refine W.regS (SR.q' (r_mv (v := .int .i64 _) rfl) <| SR.q' (r_add rfl rfl (by omega)) <| SR.q' (r_as (v := .int .i64 _) rfl) <| SR.nil ?_)
          refine ⟨k + 1, _, rfl, ⟨rfl, rfl, rfl, trivial⟩, ⟨hB17, (hm6).lo hk15, (hm7).lo hk15, ?_⟩, ?_⟩
          · exact (by exact ⟨by omega, take_next (And.right ‹_ ∧ L.take _ = M.take _›) ‹L[_]? = some _› ‹M[_]? = some _› (by assumption)⟩)
          · exact (by omega)
      · refine W.exit (xin_here ?_)
        refine W.seq ?_
        refine W.regS (SR.q' (r_as (v := .bool true) rfl) <| SR.nil ?_)
        refine W.ret ?_
        refine ret1 rfl (v := .bool _) rfl ?_
        exact ⟨eR (eDT (by first | (intro e; subst e; omega) | exact ne_at ‹L[_]? = some _› ‹M[_]? = some _› ‹_› | exact take_end (And.right ‹_ ∧ L.take _ = M.take _›) hleL hleM (by omega) ‹_›)), hB4⟩

theorem c_laws_vLibrary (w : World) (a : Library) {Aa_Maps : Option Addr} {na_Maps ca_Maps Ba_Maps : Nat} (ha_Maps : SlR w Ba_Maps encLMap 3 Aa_Maps na_Maps ca_Maps a.Maps) {Aa_Away : Option Addr} {na_Away ca_Away Ba_Away : Nat} (ha_Away : SlR w Ba_Away encAway 2 Aa_Away na_Away ca_Away a.Away) (b : Library) {Ab_Maps : Option Addr} {nb_Maps cb_Maps Bb_Maps : Nat} (hb_Maps : SlR w Bb_Maps encLMap 3 Ab_Maps nb_Maps cb_Maps b.Maps) {Ab_Away : Option Addr} {nb_Away cb_Away Bb_Away : Nat} (hb_Away : SlR w Bb_Away encAway 2 Ab_Away nb_Away cb_Away b.Away) : Calls Try.prog 8 #[.agg (List.toArray [.slice Aa_Maps na_Maps ca_Maps, .slice Aa_Away na_Away ca_Away, .int .i64 a.Bought, .int .i64 a.Dropped, .int .i64 a.Mended]), .agg (List.toArray [.slice Ab_Maps nb_Maps cb_Maps, .slice Ab_Away nb_Away cb_Away, .int .i64 b.Bought, .int .i64 b.Dropped, .int .i64 b.Mended])] w fun e w' => e = .returned (.bool (decide (a = b))) ∧ Lo w w' := by
  refine calls_W 38 Try.func8 rfl rfl rfl ?_
  have hbda_Maps := ha_Maps.bound
  have hlea_Maps := ha_Maps.len
  have hBba_Maps := ha_Maps.bd
  have hbda_Away := ha_Away.bound
  have hlea_Away := ha_Away.len
  have hBba_Away := ha_Away.bd
  have hbdb_Maps := hb_Maps.bound
  have hleb_Maps := hb_Maps.len
  have hBbb_Maps := hb_Maps.bd
  have hbdb_Away := hb_Away.bound
  have hleb_Away := hb_Away.len
  have hBbb_Away := hb_Away.bd
  refine W.seq ?_
  refine W.regS (SR.box (v := .agg (List.toArray _)) (l := [.slice Aa_Maps na_Maps ca_Maps, .slice Aa_Away na_Away ca_Away, .int .i64 a.Bought, .int .i64 a.Dropped, .int .i64 a.Mended]) rfl rfl ?_)
  intro g1 w2 hg3 hk4 hs5 hb6
  have hz7 := hk4.size
  have hB8 := (Lo.refl w).lo hk4
  refine SR.box (v := .agg (List.toArray _)) (l := [.slice Ab_Maps nb_Maps cb_Maps, .slice Ab_Away nb_Away cb_Away, .int .i64 b.Bought, .int .i64 b.Dropped, .int .i64 b.Mended]) rfl rfl ?_
  intro g9 w10 hg11 hk12 hs13 hb14
  have hz15 := hk12.size
  have hB16 := hB8.lo hk12
  refine SR.q' (r_as (v := .bool false) rfl) <| SR.nil ?_
  refine W.seq ?_
  have hm17 := ((ha_Maps).lo hk4).lo hk12
  have hm18 := ((ha_Away).lo hk4).lo hk12
  have hm19 := ((hb_Maps).lo hk4).lo hk12
  have hm20 := ((hb_Away).lo hk4).lo hk12
  refine W.regJS (fun f' w' => At f' [(4, .bool (decide ((a.Maps = b.Maps) ∧ ((a.Away = b.Away) ∧ ((a.Bought = b.Bought) ∧ ((a.Dropped = b.Dropped) ∧ (a.Mended = b.Mended)))))))] ∧ Lo w10 w') ?_ ?_
  · refine SR.q' (r_fa fa27_0 rfl) <| SR.q' (r_ld (v := .slice Aa_Maps na_Maps ca_Maps) sca24 rfl (((hb6).lo hk12).cell rfl)) <| SR.q' (r_fa fa27_0 rfl) <| SR.q' (r_ld (v := .slice Ab_Maps nb_Maps cb_Maps) sca24 rfl ((hb14).cell rfl)) <| SR.call ent26 (c_laws_vMaps w10 a.Maps ((hm17)) b.Maps ((hm19))) rfl ?_
    rintro e w21 ⟨rfl, hk22⟩
    refine ⟨_, rfl, ?_⟩
    have hz23 := hk22.size
    have hB24 := hB16.lo hk22
    refine SR.q' (r_mv (v := .bool _) rfl) <| SR.splitD (fun h25 => ?_) (fun h25 => ?_)
    · refine SR.g' rfl (r_fa fa27_1 rfl) <| SR.g' rfl (r_ld (v := .slice Aa_Away na_Away ca_Away) sca25 rfl ((((hb6).lo hk12).lo hk22).cell rfl)) <| SR.g' rfl (r_fa fa27_1 rfl) <| SR.g' rfl (r_ld (v := .slice Ab_Away nb_Away cb_Away) sca25 rfl (((hb14).lo hk22).cell rfl)) <| SR.gcall rfl ent27 (c_laws_vAway w21 a.Away (((hm18).lo hk22)) b.Away (((hm20).lo hk22))) rfl ?_
      rintro e w26 ⟨rfl, hk27⟩
      refine ⟨_, rfl, ?_⟩
      have hz28 := hk27.size
      have hB29 := hB24.lo hk27
      refine SR.q' (r_pick true rfl (v := .bool _) rfl) <| SR.q' (r_mv (v := .bool _) rfl) <| SR.splitD (fun h30 => ?_) (fun h30 => ?_)
      · refine SR.g' rfl (r_fa fa27_2 rfl) <| SR.g' rfl (r_ld (v := .int .i64 a.Bought) sca3 rfl (((((hb6).lo hk12).lo hk22).lo hk27).cell rfl)) <| SR.g' rfl (r_fa fa27_2 rfl) <| SR.g' rfl (r_ld (v := .int .i64 b.Bought) sca3 rfl ((((hb14).lo hk22).lo hk27).cell rfl)) <| SR.g' rfl (r_eq rfl rfl) <| SR.q' (r_pick true rfl (v := .bool _) rfl) <| SR.q' (r_mv (v := .bool _) rfl) <| SR.splitD (fun h31 => ?_) (fun h31 => ?_)
        · refine SR.g' rfl (r_fa fa27_3 rfl) <| SR.g' rfl (r_ld (v := .int .i64 a.Dropped) sca3 rfl (((((hb6).lo hk12).lo hk22).lo hk27).cell rfl)) <| SR.g' rfl (r_fa fa27_3 rfl) <| SR.g' rfl (r_ld (v := .int .i64 b.Dropped) sca3 rfl ((((hb14).lo hk22).lo hk27).cell rfl)) <| SR.g' rfl (r_eq rfl rfl) <| SR.q' (r_pick true rfl (v := .bool _) rfl) <| SR.q' (r_mv (v := .bool _) rfl) <| SR.splitD (fun h32 => ?_) (fun h32 => ?_)
          · refine SR.g' rfl (r_fa fa27_4 rfl) <| SR.g' rfl (r_ld (v := .int .i64 a.Mended) sca3 rfl (((((hb6).lo hk12).lo hk22).lo hk27).cell rfl)) <| SR.g' rfl (r_fa fa27_4 rfl) <| SR.g' rfl (r_ld (v := .int .i64 b.Mended) sca3 rfl ((((hb14).lo hk22).lo hk27).cell rfl)) <| SR.g' rfl (r_eq rfl rfl) <| SR.q' (r_pick true rfl (v := .bool _) rfl) <| SR.q' (r_as (v := .bool _) rfl) <| SR.nil ?_
            exact ⟨_, rfl, ⟨⟨(eDD ((((jat h32).trans (jat h31)).trans (jat h30)).trans (jat h25))), trivial⟩, ((hk22).trans hk27)⟩⟩
          · refine SR.s' rfl <| SR.s' rfl <| SR.s' rfl <| SR.s' rfl <| SR.s' rfl <| SR.q' (r_pick false rfl (v := .bool false) rfl) <| SR.q' (r_as (v := .bool _) rfl) <| SR.nil ?_
            exact ⟨_, rfl, ⟨⟨(eDF ((((jaf h32).trans (jat h31)).trans (jat h30)).trans (jat h25)).2), trivial⟩, ((hk22).trans hk27)⟩⟩
        · refine SR.s' rfl <| SR.s' rfl <| SR.s' rfl <| SR.s' rfl <| SR.s' rfl <| SR.q' (r_pick false rfl (v := .bool false) rfl) <| SR.q' (r_mv (v := .bool _) rfl) <| SR.s' rfl <| SR.s' rfl <| SR.s' rfl <| SR.s' rfl <| SR.s' rfl <| SR.q' (r_pick false rfl (v := .bool false) rfl) <| SR.q' (r_as (v := .bool _) rfl) <| SR.nil ?_
          exact ⟨_, rfl, ⟨⟨(eDF (((jaf h31).trans (jat h30)).trans (jat h25)).2), trivial⟩, ((hk22).trans hk27)⟩⟩
      · refine SR.s' rfl <| SR.s' rfl <| SR.s' rfl <| SR.s' rfl <| SR.s' rfl <| SR.q' (r_pick false rfl (v := .bool false) rfl) <| SR.q' (r_mv (v := .bool _) rfl) <| SR.s' rfl <| SR.s' rfl <| SR.s' rfl <| SR.s' rfl <| SR.s' rfl <| SR.q' (r_pick false rfl (v := .bool false) rfl) <| SR.q' (r_mv (v := .bool _) rfl) <| SR.s' rfl <| SR.s' rfl <| SR.s' rfl <| SR.s' rfl <| SR.s' rfl <| SR.q' (r_pick false rfl (v := .bool false) rfl) <| SR.q' (r_as (v := .bool _) rfl) <| SR.nil ?_
        exact ⟨_, rfl, ⟨⟨(eDF ((jaf h30).trans (jat h25)).2), trivial⟩, ((hk22).trans hk27)⟩⟩
    · refine SR.s' rfl <| SR.s' rfl <| SR.s' rfl <| SR.s' rfl <| SR.s' rfl <| SR.q' (r_pick false rfl (v := .bool false) rfl) <| SR.q' (r_mv (v := .bool _) rfl) <| SR.s' rfl <| SR.s' rfl <| SR.s' rfl <| SR.s' rfl <| SR.s' rfl <| SR.q' (r_pick false rfl (v := .bool false) rfl) <| SR.q' (r_mv (v := .bool _) rfl) <| SR.s' rfl <| SR.s' rfl <| SR.s' rfl <| SR.s' rfl <| SR.s' rfl <| SR.q' (r_pick false rfl (v := .bool false) rfl) <| SR.q' (r_mv (v := .bool _) rfl) <| SR.s' rfl <| SR.s' rfl <| SR.s' rfl <| SR.s' rfl <| SR.s' rfl <| SR.q' (r_pick false rfl (v := .bool false) rfl) <| SR.q' (r_as (v := .bool _) rfl) <| SR.nil ?_
      exact ⟨_, rfl, ⟨⟨(eDF (jaf h25).2), trivial⟩, (hk22)⟩⟩
  rintro f33 w34 ⟨hat35, hk36⟩
  rw [← sets_of_at hat35]
  have hz37 := hk36.size
  have hB38 := hB16.lo hk36
  refine W.ret ?_
  refine ret1 rfl (v := .bool _) rfl ?_
  exact ⟨eR (eDD (by cases a; cases b; simp_all)), hB38⟩

theorem c_laws_vHas (w : World) {AL : Option Addr} {nL cL BL : Nat}  (L : List Int) (hL : SlR w BL encI 1 AL nL cL L) (x : Int) : Calls Try.prog 16 #[.slice AL nL cL, .int .i64 x] w fun e w' => e = .returned (.bool (decide (x ∈ L))) ∧ Lo w w' := by
  refine calls_W 18 Try.func16 rfl rfl rfl ?_
  have hbdL := hL.bound
  have hleL := hL.len
  have hBbL := hL.bd
  refine W.seq ?_
  refine W.regS (SR.q' (r_as (v := .bool false) rfl) <| SR.nil ?_)
  refine W.seq ?_
  refine W.seq ?_
  refine W.regS (SR.q' (r_as (v := .int .i64 0) rfl) <| SR.nil ?_)
  refine W.block ?_
  refine W.loop (σ := Nat) (fun g => [(0, .slice AL nL cL), (1, .int .i64 x), (5, .int .i64 (g : Int))]) (fun g w' => (Lo w w') ∧ (SlR w' BL encI 1 AL nL cL L) ∧ (g ≤ nL ∧ x ∉ L.take g)) (fun g => nL - g) 0 ?_ ?_ ?_
  · exact ⟨rfl, rfl, rfl, trivial⟩
  · exact ⟨(Lo.refl w), hL, (by simp)⟩
  · rintro k f1 w2 hP4
    obtain ⟨hB3, hm5, hi6⟩ : (Lo w w2) ∧ (SlR w2 BL encI 1 AL nL cL L) ∧ (k ≤ nL ∧ x ∉ L.take k) := hP4
    refine (?_ : W _ _ _ _ _ (act _ (sets f1 [(0, .slice AL nL cL), (1, .int .i64 x), (5, .int .i64 (k : Int))])) _)
    have hzw2 := hB3.size
    refine W.seq ?_
    refine W.seq ?_
    refine W.regS (SR.q' (r_mv (v := .int .i64 _) rfl) <| SR.q' (r_mv (v := .slice _ _ _) rfl) <| SR.q' (r_len und38 rfl) <| SR.q' (r_lt rfl rfl) <| SR.nil ?_)
    refine W.cond_d rfl (fun h7 => ?_) (fun h7 => ?_)
    · refine W.skip ?_
      refine W.seq ?_
      refine W.block ?_
      refine W.seq ?_
      refine W.regS (SR.q' (r_mv (v := .slice _ _ _) rfl) <| SR.q' (r_mv (v := .int .i64 _) rfl) <| ?_)
      have hx9 := (hm5).elem (i := k) (by omega)
      refine SR.q' (r_ixR tsl38 (hm5) rfl rfl (by omega)) <| SR.q' (r_ld (v := .int .i64 (gt L k)) sca3 rfl ((hm5).cell0 hx9 rfl)) <| SR.q' (r_mv (v := .int .i64 _) rfl) <| SR.q' (r_eq rfl rfl) <| SR.nil ?_
      refine W.cond_d rfl (fun h10 => ?_) (fun h10 => ?_)
      · refine W.seq ?_
        refine W.regS (SR.q' (r_as (v := .bool true) rfl) <| SR.nil ?_)
        refine W.ret ?_
        refine ret1 rfl (v := .bool _) rfl ?_
        exact ⟨eR (eDT (by first | exact has_yes ‹L[_]? = some _› (by assumption) | exact has_no (And.right ‹_ ∧ _ ∉ L.take _›) (by omega))), hB3⟩
      · refine W.skip ?_
        refine W.regS (SR.q' (r_mv (v := .int .i64 _) rfl) <| SR.q' (r_add rfl rfl (by omega)) <| SR.q' (r_as (v := .int .i64 _) rfl) <| SR.nil ?_)
        refine ⟨k + 1, _, rfl, ⟨rfl, rfl, rfl, trivial⟩, ⟨hB3, hm5, ?_⟩, ?_⟩
        · exact (by exact ⟨by omega, has_next (And.right ‹_ ∧ _ ∉ L.take _›) ‹L[_]? = some _› (by assumption)⟩)
        · exact (by omega)
    · refine W.exit (xin_here ?_)
      refine W.seq ?_
      refine W.regS (SR.q' (r_as (v := .bool false) rfl) <| SR.nil ?_)
      refine W.ret ?_
      refine ret1 rfl (v := .bool _) rfl ?_
      exact ⟨eR (eDF (by first | exact has_yes ‹L[_]? = some _› (by assumption) | exact has_no (And.right ‹_ ∧ _ ∉ L.take _›) (by omega))), hB3⟩
end Go.Proofs.Ytgobbcilgcbkaaa
