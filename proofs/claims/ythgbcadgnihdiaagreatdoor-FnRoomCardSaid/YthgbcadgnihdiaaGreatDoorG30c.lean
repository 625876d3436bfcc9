/- Walks, printed by a program of this claim's author. -/
import Derived.Test.YthgbcadgnihdiaaGreatDoorChecked
import Derived.Test.YthgbcadgnihdiaaGreatDoorRa
import Derived.Test.YthgbcadgnihdiaaGreatDoorFu
import Derived.Test.YthgbcadgnihdiaaGreatDoorFo
import Derived.Test.YthgbcadgnihdiaaGreatDoorFp
import Derived.Test.YthgbcadgnihdiaaGreatDoorFt
import Derived.Test.YthgbcadgnihdiaaGreatDoorRf
import Derived.Test.YthgbcadgnihdiaaGreatDoorG30e
namespace Go.Proofs.YthgbcadgnihdiaaGreatDoor
open Go Go.RowKit Fw
set_option maxRecDepth 10000
set_option linter.unusedVariables false
theorem ent43 : Ent Tryz.prog 43 := ent_of Tryz.func43 (by decide +kernel) rfl

theorem c_spec_DrawSeatedAt (w : World) {AC : Option Addr} {nC cC BC : Nat}  (C : List UInt8) (hC : SlR w BC encB 1 AC nC cC C) (hp0 : (nC : Int) ≤ 65536) : Calls Tryz.prog 5 #[.slice AC nC cC] w fun e w' => ∃ (A1' : Option Addr) (n1' c1' : Nat) (L : List Visit) (m : Int), e = .returned (.tuple (List.toArray [.slice A1' n1' c1', .int .i64 m])) ∧ SlO w' w.heap.size encVisit 4 45 A1' n1' c1' L ∧ (VsB L) ∧ (L.length ≤ 60) ∧ Lo w w' := by
  refine calls_W 15 Tryz.func5 rfl rfl rfl ?_
  have hbdC := hC.bound
  have hleC := hC.len
  have hBbC := hC.bd
  refine W.seq ?_
  refine W.regS (SR.q' (r_as (v := .slice none 0 0) rfl) <| SR.q' (r_as (v := .int .i64 0) rfl) <| SR.nil ?_)
  refine W.seq ?_
  refine W.regS (SR.q' (r_mv (v := .slice _ _ _) rfl) <| SR.q' (r_build (vs := [(0, .slice AC nC cC)]) rfl (bld52_0 _ _ _)) <| SR.box (v := .agg (List.toArray _)) (l := [.slice AC nC cC, .int .i64 0, .int .u64 0]) rfl rfl ?_)
  intro g1 w2 hg3 hk4 hs5 hb6
  have hz7 := hk4.size
  have hB8 := (Lo.refl w).lo hk4
  refine SR.q' (r_as (v := .pointer (some _)) rfl) <| SR.nil ?_
  refine W.seq ?_
  refine W.regS (SR.q' (r_mv (v := .pointer (some _)) rfl) <| SR.call ent27 (c___spec_l1Cur__visits w2 C 0 0 (hb6) (((hC).lo hk4)) (by omega) (by omega)) rfl ?_)
  rintro e w9 ⟨A11, n12, c13, v15, t16, s17, rfl, hO14, hb18, ht19, hq20, hq21, hk10⟩
  refine ⟨_, rfl, ?_⟩
  have hz22 := hk10.size
  have hB23 := hB8.new hk10 (by omega)
  have hl24 := hO14.len
  have hl25 := hO14.rd.bound
  refine SR.q' (r_as (v := .slice _ _ _) rfl) <| SR.nil ?_
  refine W.seq ?_
  refine W.regS (SR.q' (r_mv (v := .slice _ _ _) rfl) <| SR.q' (r_mv (v := .pointer (some _)) rfl) <| SR.q' (r_mv (v := .slice _ _ _) rfl) <| SR.call ent28 (c___spec_l1Cur__minute30 w9 C t16 s17 (hb18) ((((hC).lo hk4).kn hk10 (by omega))) (by omega) (by omega) v15 (((hO14).rd)) (by assumption) (by omega) ((hO14).apart (fun e' => by have := (hO14).base_le e'; omega))) rfl ?_)
  rintro e w26 ⟨v28, t29, s30, rfl, hb31, ht32, hq33, hk27⟩
  refine ⟨_, rfl, ?_⟩
  have hz34 := hk27.size
  have hB35 := hB23.new hk27 (by omega)
  refine SR.q' (r_as (v := .slice _ _ _) rfl) <| SR.q' (r_as (v := .int .i64 _) rfl) <| SR.nil ?_
  refine W.ret ?_
  refine ret2 rfl (v := .slice _ _ _) (v' := .int .i64 _) rfl rfl ?_
  exact ⟨A11, n12, c13, v15, v28, eR (eT2 rfl rfl), (((hO14).kn hk27 (by omega)).down (by omega)), hq20, hq21, hB35⟩

theorem c_spec_DrawLongestGap (w : World) {AC : Option Addr} {nC cC BC : Nat}  (C : List UInt8) (hC : SlR w BC encB 1 AC nC cC C) (hp0 : (nC : Int) ≤ 65536) : Calls Tryz.prog 11 #[.slice AC nC cC] w fun e w' => ∃ (A1' : Option Addr) (n1' c1' : Nat) (L : List Visit) (s : Int), e = .returned (.tuple (List.toArray [.slice A1' n1' c1', .int .i64 s])) ∧ SlO w' w.heap.size encVisit 4 45 A1' n1' c1' L ∧ (VsB L) ∧ (L.length ≤ 60) ∧ Lo w w' := by
  refine calls_W 18 Tryz.func11 rfl rfl rfl ?_
  have hbdC := hC.bound
  have hleC := hC.len
  have hBbC := hC.bd
  refine W.seq ?_
  refine W.regS (SR.q' (r_as (v := .slice none 0 0) rfl) <| SR.q' (r_as (v := .int .i64 0) rfl) <| SR.nil ?_)
  refine W.seq ?_
  refine W.regS (SR.q' (r_mv (v := .slice _ _ _) rfl) <| SR.q' (r_build (vs := [(0, .slice AC nC cC)]) rfl (bld52_0 _ _ _)) <| SR.box (v := .agg (List.toArray _)) (l := [.slice AC nC cC, .int .i64 0, .int .u64 0]) rfl rfl ?_)
  intro g1 w2 hg3 hk4 hs5 hb6
  have hz7 := hk4.size
  have hB8 := (Lo.refl w).lo hk4
  refine SR.q' (r_as (v := .pointer (some _)) rfl) <| SR.nil ?_
  refine W.seq ?_
  refine W.regS (SR.q' (r_mv (v := .pointer (some _)) rfl) <| SR.call ent27 (c___spec_l1Cur__visits w2 C 0 0 (hb6) (((hC).lo hk4)) (by omega) (by omega)) rfl ?_)
  rintro e w9 ⟨A11, n12, c13, v15, t16, s17, rfl, hO14, hb18, ht19, hq20, hq21, hk10⟩
  refine ⟨_, rfl, ?_⟩
  have hz22 := hk10.size
  have hB23 := hB8.new hk10 (by omega)
  have hl24 := hO14.len
  have hl25 := hO14.rd.bound
  refine SR.q' (r_mv (v := .pointer (some _)) rfl) <| SR.lit (vs := [.int .i64 1, .int .i64 1, .int .i64 2, .int .i64 3, .int .i64 6, .int .i64 0, .int .i64 7]) (L := ([1, 1, 2, 3, 6, 0, 7] : List Int)) (enc := encI) tel27 (fun _ => rfl) rfl rfl rfl (by decide) ?_
  intro g26 w27 hg28 hk29 hO30
  have hz31 := hk29.size
  have hB32 := hB23.lo hk29
  have hd33 : ¬ A11 = some ⟨g26, 0, none⟩ := fun e' => by have := (hO14).base_le e'; omega
  refine SR.q' (r_mv (v := .pointer (some _)) rfl) <| SR.call ent37 (c___spec_l1Cur__pick w27 C t16 s17 ((hb18).lo hk29) (((((hC).lo hk4).kn hk10 (by omega)).lo hk29)) (by omega) (by omega) 24 (by first | omega | (simp only [List.length_append, List.length_cons, List.length_nil, List.length_take, List.length_drop]; omega))) rfl ?_
  rintro e w34 ⟨v36, t37, s38, rfl, hb39, ht40, hq41, hk35⟩
  refine ⟨_, rfl, ?_⟩
  have hz42 := hk35.size
  have hB43 := hB32.new hk35 (by omega)
  refine SR.q' (r_quo rfl rfl (by omega)) <| SR.q' (r_add rfl rfl (by omega)) <| SR.q' (r_cuth (h := (5 + (v36 / 11)).toNat) tsl27 rfl rfl (by omega) (Nat.le_trans (by omega : (5 + (v36 / 11)).toNat ≤ 7) ((hO30).kn hk35 (by omega)).rd.cap)) <| SR.call ent36 (c___spec_l1Cur__among w34 C t37 s38 (hb39) ((((((hC).lo hk4).kn hk10 (by omega)).lo hk29).kn hk35 (by omega))) (by omega) (by omega) (([1, 1, 2, 3, 6, 0, 7] : List Int).take ((5 + (v36 / 11)).toNat)) (((((hO30).kn hk35 (by omega)).head (h := (5 + (v36 / 11)).toNat) (by omega)).rd)) (by omega) (by omega) (show ¬ g26 = g1 from by first | omega | (have := (((hO30).kn hk35 (by omega)).head (h := (5 + (v36 / 11)).toNat) (by omega)).base_le rfl; omega))) rfl ?_
  rintro e w44 ⟨v46, t47, s48, rfl, hb49, ht50, hq51, hk45⟩
  refine ⟨_, rfl, ?_⟩
  have hz52 := hk45.size
  have hB53 := hB43.new hk45 (by omega)
  have hq54 := List.mem_of_mem_take hq51
  have hq55 : (0 : Int) ≤ v46 ∧ v46 ≤ 7 := mem_rngB (lo := 0) (hi := 7) (by decide) hq54
  refine SR.q' (r_as (v := .slice _ _ _) rfl) <| SR.q' (r_as (v := .int .i64 _) rfl) <| SR.nil ?_
  refine W.ret ?_
  refine ret2 rfl (v := .slice _ _ _) (v' := .int .i64 _) rfl rfl ?_
  exact ⟨A11, n12, c13, v15, v46, eR (eT2 rfl rfl), (((((hO14).lo hk29).kn hk35 (by omega)).kn hk45 (by omega)).down (by omega)), hq20, hq21, hB53⟩

theorem c_spec_DrawChangeSeat (w : World) {AC : Option Addr} {nC cC BC : Nat}  (C : List UInt8) (hC : SlR w BC encB 1 AC nC cC C) (hp0 : (nC : Int) ≤ 65536) : Calls Tryz.prog 16 #[.slice AC nC cC] w fun e w' => ∃ (A1' : Option Addr) (n1' c1' : Nat) (L : List Visit) (r : Int) (m : Int) (s : Int), e = .returned (.tuple (List.toArray [.slice A1' n1' c1', .int .i64 r, .int .i64 m, .int .i64 s])) ∧ SlO w' w.heap.size encVisit 4 45 A1' n1' c1' L ∧ (VsB L) ∧ (L.length ≤ 60) ∧ Lo w w' := by
  refine calls_W 30 Tryz.func16 rfl rfl rfl ?_
  have hbdC := hC.bound
  have hleC := hC.len
  have hBbC := hC.bd
  refine W.seq ?_
  refine W.regS (SR.q' (r_as (v := .slice none 0 0) rfl) <| SR.q' (r_as (v := .int .i64 0) rfl) <| SR.q' (r_as (v := .int .i64 0) rfl) <| SR.q' (r_as (v := .int .i64 0) rfl) <| SR.nil ?_)
  refine W.seq ?_
  refine W.regS (SR.q' (r_mv (v := .slice _ _ _) rfl) <| SR.q' (r_build (vs := [(0, .slice AC nC cC)]) rfl (bld52_0 _ _ _)) <| SR.box (v := .agg (List.toArray _)) (l := [.slice AC nC cC, .int .i64 0, .int .u64 0]) rfl rfl ?_)
  intro g1 w2 hg3 hk4 hs5 hb6
  have hz7 := hk4.size
  have hB8 := (Lo.refl w).lo hk4
  refine SR.q' (r_as (v := .pointer (some _)) rfl) <| SR.nil ?_
  refine W.seq ?_
  refine W.regS (SR.q' (r_mv (v := .slice _ _ _) rfl) <| SR.call ent43 (c_spec_DrawLeaveSeat w2 C (((hC).lo hk4)) (by omega)) rfl ?_)
  rintro e w9 ⟨A11, n12, c13, v15, v16, v17, rfl, hO14, hq18, hq19, hk10⟩
  refine ⟨_, rfl, ?_⟩
  have hz20 := hk10.size
  have hB21 := hB8.lo hk10
  have hl22 := hO14.len
  have hl23 := hO14.rd.bound
  refine SR.q' (r_mv (v := .tuple (List.toArray _)) rfl) <| SR.q' (r_ext (v := .slice _ _ _) rfl rfl) <| SR.q' (r_ext (v := .int .i64 _) rfl rfl) <| SR.q' (r_ext (v := .int .i64 _) rfl rfl) <| SR.q' (r_as (v := .slice _ _ _) rfl) <| SR.q' (r_as (v := .int .i64 _) rfl) <| SR.q' (r_as (v := .int .i64 _) rfl) <| SR.nil ?_
  refine W.seq ?_
  refine W.regS (SR.q' (r_mv (v := .slice _ _ _) rfl) <| SR.q' (r_mv (v := .int .i64 _) rfl) <| SR.q' (r_mv (v := .int .i64 _) rfl) <| SR.q' (r_mv (v := .pointer (some _)) rfl) <| SR.lit (vs := [.int .i64 1, .int .i64 2, .int .i64 3, .int .i64 4, .int .i64 6, .int .i64 0, .int .i64 7]) (L := ([1, 2, 3, 4, 6, 0, 7] : List Int)) (enc := encI) tel27 (fun _ => rfl) rfl rfl rfl (by decide) ?_)
  intro g24 w25 hg26 hk27 hO28
  have hz29 := hk27.size
  have hB30 := hB21.lo hk27
  have hd31 : ¬ A11 = some ⟨g24, 0, none⟩ := fun e' => by have := (hO14).base_le e'; omega
  refine SR.q' (r_mv (v := .pointer (some _)) rfl) <| SR.call ent37 (c___spec_l1Cur__pick w25 C 0 0 (((hb6).lo hk10).lo hk27) (((((hC).lo hk4).lo hk10).lo hk27)) (by omega) (by omega) 24 (by first | omega | (simp only [List.length_append, List.length_cons, List.length_nil, List.length_take, List.length_drop]; omega))) rfl ?_
  rintro e w32 ⟨v34, t35, s36, rfl, hb37, ht38, hq39, hk33⟩
  refine ⟨_, rfl, ?_⟩
  have hz40 := hk33.size
  have hB41 := hB30.new hk33 (by omega)
  refine SR.q' (r_quo rfl rfl (by omega)) <| SR.q' (r_add rfl rfl (by omega)) <| SR.q' (r_cuth (h := (5 + (v34 / 11)).toNat) tsl27 rfl rfl (by omega) (Nat.le_trans (by omega : (5 + (v34 / 11)).toNat ≤ 7) ((hO28).kn hk33 (by omega)).rd.cap)) <| SR.call ent36 (c___spec_l1Cur__among w32 C t35 s36 (hb37) ((((((hC).lo hk4).lo hk10).lo hk27).kn hk33 (by omega))) (by omega) (by omega) (([1, 2, 3, 4, 6, 0, 7] : List Int).take ((5 + (v34 / 11)).toNat)) (((((hO28).kn hk33 (by omega)).head (h := (5 + (v34 / 11)).toNat) (by omega)).rd)) (by omega) (by omega) (show ¬ g24 = g1 from by first | omega | (have := (((hO28).kn hk33 (by omega)).head (h := (5 + (v34 / 11)).toNat) (by omega)).base_le rfl; omega))) rfl ?_
  rintro e w42 ⟨v44, t45, s46, rfl, hb47, ht48, hq49, hk43⟩
  refine ⟨_, rfl, ?_⟩
  have hz50 := hk43.size
  have hB51 := hB41.new hk43 (by omega)
  have hq52 := List.mem_of_mem_take hq49
  have hq53 : (0 : Int) ≤ v44 ∧ v44 ≤ 7 := mem_rngB (lo := 0) (hi := 7) (by decide) hq52
  refine SR.q' (r_as (v := .slice _ _ _) rfl) <| SR.q' (r_as (v := .int .i64 _) rfl) <| SR.q' (r_as (v := .int .i64 _) rfl) <| SR.q' (r_as (v := .int .i64 _) rfl) <| SR.nil ?_
  refine W.ret ?_
  refine ret4 rfl (v := .slice _ _ _) (v' := .int .i64 _) (v'' := .int .i64 _) (v''' := .int .i64 _) rfl rfl rfl rfl ?_
  exact ⟨A11, n12, c13, v15, v16, v17, v44, eR (eT4 rfl rfl rfl rfl), (((((hO14).lo hk27).kn hk33 (by omega)).kn hk43 (by omega)).down (by omega)), hq18, hq19, hB51⟩

theorem c_spec_DrawSeatMinutes (w : World) {AC : Option Addr} {nC cC BC : Nat}  (C : List UInt8) (hC : SlR w BC encB 1 AC nC cC C) (hp0 : (nC : Int) ≤ 65536) : Calls Tryz.prog 22 #[.slice AC nC cC] w fun e w' => ∃ (A1' : Option Addr) (n1' c1' : Nat) (L : List Visit) (r : Int), e = .returned (.tuple (List.toArray [.slice A1' n1' c1', .int .i64 r])) ∧ SlO w' w.heap.size encVisit 4 45 A1' n1' c1' L ∧ (VsB L) ∧ (L.length ≤ 60) ∧ Lo w w' := by
  refine calls_W 12 Tryz.func22 rfl rfl rfl ?_
  have hbdC := hC.bound
  have hleC := hC.len
  have hBbC := hC.bd
  refine W.seq ?_
  refine W.regS (SR.q' (r_as (v := .slice none 0 0) rfl) <| SR.q' (r_as (v := .int .i64 0) rfl) <| SR.nil ?_)
  refine W.seq ?_
  refine W.regS (SR.q' (r_mv (v := .slice _ _ _) rfl) <| SR.q' (r_build (vs := [(0, .slice AC nC cC)]) rfl (bld52_0 _ _ _)) <| SR.box (v := .agg (List.toArray _)) (l := [.slice AC nC cC, .int .i64 0, .int .u64 0]) rfl rfl ?_)
  intro g1 w2 hg3 hk4 hs5 hb6
  have hz7 := hk4.size
  have hB8 := (Lo.refl w).lo hk4
  refine SR.q' (r_as (v := .pointer (some _)) rfl) <| SR.nil ?_
  refine W.seq ?_
  refine W.regS (SR.q' (r_mv (v := .pointer (some _)) rfl) <| SR.call ent27 (c___spec_l1Cur__visits w2 C 0 0 (hb6) (((hC).lo hk4)) (by omega) (by omega)) rfl ?_)
  rintro e w9 ⟨A11, n12, c13, v15, t16, s17, rfl, hO14, hb18, ht19, hq20, hq21, hk10⟩
  refine ⟨_, rfl, ?_⟩
  have hz22 := hk10.size
  have hB23 := hB8.new hk10 (by omega)
  have hl24 := hO14.len
  have hl25 := hO14.rd.bound
  refine SR.q' (r_mv (v := .pointer (some _)) rfl) <| SR.call ent47 (c___spec_l1Cur__visitor w9 C t16 s17 (hb18) ((((hC).lo hk4).kn hk10 (by omega))) (by omega) (by omega)) rfl ?_
  rintro e w26 ⟨v28, t29, s30, rfl, hb31, ht32, hq33, hk27⟩
  refine ⟨_, rfl, ?_⟩
  have hz34 := hk27.size
  have hB35 := hB23.new hk27 (by omega)
  refine SR.q' (r_as (v := .slice _ _ _) rfl) <| SR.q' (r_as (v := .int .i64 _) rfl) <| SR.nil ?_
  refine W.ret ?_
  refine ret2 rfl (v := .slice _ _ _) (v' := .int .i64 _) rfl rfl ?_
  exact ⟨A11, n12, c13, v15, v28, eR (eT2 rfl rfl), (((hO14).kn hk27 (by omega)).down (by omega)), hq20, hq21, hB35⟩

theorem c_spec_DrawVisitText (w : World) {AC : Option Addr} {nC cC BC : Nat}  (C : List UInt8) (hC : SlR w BC encB 1 AC nC cC C) (hp0 : (nC : Int) ≤ 65536) : Calls Tryz.prog 24 #[.slice AC nC cC] w fun e w' => ∃ (v : Visit), e = .returned (.agg (List.toArray [.int .i64 v.Reader, .int .i64 v.Seat, .int .i64 v.From, .int .i64 v.Until])) ∧ Lo w w' := by
  refine calls_W 12 Tryz.func24 rfl rfl rfl ?_
  have hbdC := hC.bound
  have hleC := hC.len
  have hBbC := hC.bd
  refine W.seq ?_
  refine W.regS (SR.alloc (l := [.int .i64 0, .int .i64 0, .int .i64 0, .int .i64 0]) tz45 rfl ?_)
  intro g1 w2 hg3 hk4 hs5 hb6
  have hz7 := hk4.size
  have hB8 := (Lo.refl w).lo hk4
  refine SR.nil ?_
  refine W.seq ?_
  refine W.regS (SR.q' (r_mv (v := .slice _ _ _) rfl) <| SR.q' (r_build (vs := [(0, .slice AC nC cC)]) rfl (bld52_0 _ _ _)) <| SR.box (v := .agg (List.toArray _)) (l := [.slice AC nC cC, .int .i64 0, .int .u64 0]) rfl rfl ?_)
  intro g9 w10 hg11 hk12 hs13 hb14
  have hz15 := hk12.size
  have hB16 := hB8.lo hk12
  refine SR.q' (r_as (v := .pointer (some _)) rfl) <| SR.nil ?_
  refine W.seq ?_
  refine W.regS (SR.q' (r_mv (v := .pointer (some _)) rfl) <| SR.q' (r_mv (v := .pointer (some _)) rfl) <| SR.lit (vs := [.int .i64 480, .int .i64 605, .int .i64 1199]) (L := ([480, 605, 1199] : List Int)) (enc := encI) tel27 (fun _ => rfl) rfl rfl rfl (by decide) ?_)
  intro g17 w18 hg19 hk20 hO21
  have hz22 := hk20.size
  have hB23 := hB16.lo hk20
  refine SR.call ent36 (c___spec_l1Cur__among w18 C 0 0 ((hb14).lo hk20) (((((hC).lo hk4).lo hk12).lo hk20)) (by omega) (by omega) ([480, 605, 1199] : List Int) (((hO21).rd)) (by omega) (by omega) (show ¬ g17 = g9 from by first | omega | (have := (hO21).base_le rfl; omega))) rfl ?_
  rintro e w24 ⟨v26, t27, s28, rfl, hb29, ht30, hq31, hk25⟩
  refine ⟨_, rfl, ?_⟩
  have hz32 := hk25.size
  have hB33 := hB23.new hk25 (by omega)
  have hq34 : (480 : Int) ≤ v26 ∧ v26 ≤ 1199 := mem_rngB (lo := 480) (hi := 1199) (by decide) hq31
  refine SR.call ent49 (c___spec_l1Cur__visit w24 C t27 s28 (hb29) ((((((hC).lo hk4).lo hk12).lo hk20).kn hk25 (by omega))) (by omega) (by omega) v26 (by omega)) rfl ?_
  rintro e w35 ⟨v37, t38, s39, rfl, hb40, ht41, hq42, hk36⟩
  refine ⟨_, rfl, ?_⟩
  have hz43 := hk36.size
  have hB44 := hB33.new hk36 (by omega)
  refine SR.store (o := 0) (vs := [.int .i64 v37.Reader, .int .i64 v37.Seat, .int .i64 v37.From, .int .i64 v37.Until]) agg45.2 rfl rfl rfl rfl (((((hb6).lo hk12).lo hk20).kn hk25 (by omega)).kn hk36 (by omega)) (Nat.le_of_ble_eq_true rfl) rfl ?_
  intro w45 hk46 hs47 hb48
  have hz49 := hk46.size
  have hB50 := hB44.new hk46 (by omega)
  refine SR.nil ?_
  refine W.ret ?_
  refine retC rfl rfl agg45 (hb48) rfl ?_
  exact ⟨v37, eR rfl, hB50⟩
end Go.Proofs.YthgbcadgnihdiaaGreatDoor
