/- Walks, printed by a program of this claim's author. -/
import Derived.Test.YtnbbfokkpkphoaaGreatDoorChecked
import Derived.Test.YtnbbfokkpkphoaaGreatDoorLa
import Derived.Test.YtnbbfokkpkphoaaGreatDoorFo
import Derived.Test.YtnbbfokkpkphoaaGreatDoorFs
import Derived.Test.YtnbbfokkpkphoaaGreatDoorFq
import Derived.Test.YtnbbfokkpkphoaaGreatDoorFp
import Derived.Test.YtnbbfokkpkphoaaGreatDoorFu
import Derived.Test.YtnbbfokkpkphoaaGreatDoorFt
import Derived.Test.YtnbbfokkpkphoaaGreatDoorG31z
namespace Go.Proofs.YtnbbfokkpkphoaaGreatDoor
open Go Go.RowKit Fw
set_option maxRecDepth 10000
set_option linter.unusedVariables false
theorem tel51 : TEl Tryz.prog 51 9 (str ([] : List UInt8)) 1 16 := ⟨by kernel_rfl, by kernel_rfl, rfl, by decide⟩

theorem z_c_spec_l1Split_9 (s : List UInt8) (c : UInt8) (hp0 : (s.length : Int) ≤ 10000000) : SpTo c s ([] : List (List UInt8)) 0 0 ∧ ([] : List (List UInt8)).length ≤ 0 := by
  exact ⟨SpTo.zero, Nat.le_refl _⟩
theorem z_c_spec_l1Split_40 (s : List UInt8) (c : UInt8) (hp0 : (s.length : Int) ≤ 10000000) (O : List (List UInt8)) (f : Nat) (i : Nat) (n8 : Nat) (c8 : Nat) (hi15 : SpTo c s O f i ∧ O.length ≤ i) (hl16 : n8 = (O).length) (hq18 : f ≤ i ∧ i ≤ s.length) (hq19 : O.length ≤ i) (h20 : (i : Int) < (s.length : Int)) (hq21 : ((gt s i).toNat : Int) ≤ 255) (h22 : ((gt s i).toNat : Int) = (c.toNat : Int)) : SpTo c s (O ++ ([(s.drop f).take (i - f)] : List (List UInt8))) (i + 1) (i + 1) ∧ (O ++ ([(s.drop f).take (i - f)] : List (List UInt8))).length ≤ i + 1 := by
  have hh := ‹SpTo _ _ _ _ _ ∧ _›; first | exact ⟨hh.1.hit (by omega) (u8_eq.1 ‹_›), by simp only [List.length_append, List.length_cons, List.length_nil]; omega⟩ | exact ⟨hh.1.miss (by omega) (fun e => ‹¬ _› (u8_eq.2 e)), by omega⟩
theorem z_c_spec_l1Split_41 (s : List UInt8) (c : UInt8) (hp0 : (s.length : Int) ≤ 10000000) (O : List (List UInt8)) (f : Nat) (i : Nat) (n8 : Nat) (c8 : Nat) (hi15 : SpTo c s O f i ∧ O.length ≤ i) (hl16 : n8 = (O).length) (hq18 : f ≤ i ∧ i ≤ s.length) (hq19 : O.length ≤ i) (h20 : (i : Int) < (s.length : Int)) (hq21 : ((gt s i).toNat : Int) ≤ 255) (h22 : ((gt s i).toNat : Int) = (c.toNat : Int)) : s.length - (i + 1) < s.length - i := by
  omega
theorem z_c_spec_l1Split_42 (s : List UInt8) (c : UInt8) (hp0 : (s.length : Int) ≤ 10000000) (O : List (List UInt8)) (f : Nat) (i : Nat) (n8 : Nat) (c8 : Nat) (hi15 : SpTo c s O f i ∧ O.length ≤ i) (hl16 : n8 = (O).length) (hq18 : f ≤ i ∧ i ≤ s.length) (hq19 : O.length ≤ i) (h20 : (i : Int) < (s.length : Int)) (hq21 : ((gt s i).toNat : Int) ≤ 255) (h22 : ¬ (((gt s i).toNat : Int) = (c.toNat : Int))) : SpTo c s O f (i + 1) ∧ O.length ≤ i + 1 := by
  have hh := ‹SpTo _ _ _ _ _ ∧ _›; first | exact ⟨hh.1.hit (by omega) (u8_eq.1 ‹_›), by simp only [List.length_append, List.length_cons, List.length_nil]; omega⟩ | exact ⟨hh.1.miss (by omega) (fun e => ‹¬ _› (u8_eq.2 e)), by omega⟩
theorem z_c_spec_l1Split_43 (s : List UInt8) (c : UInt8) (hp0 : (s.length : Int) ≤ 10000000) (O : List (List UInt8)) (f : Nat) (i : Nat) (n8 : Nat) (c8 : Nat) (hi15 : SpTo c s O f i ∧ O.length ≤ i) (hl16 : n8 = (O).length) (hq18 : f ≤ i ∧ i ≤ s.length) (hq19 : O.length ≤ i) (h20 : (i : Int) < (s.length : Int)) (hq21 : ((gt s i).toNat : Int) ≤ 255) (h22 : ¬ (((gt s i).toNat : Int) = (c.toNat : Int))) : s.length - (i + 1) < s.length - i := by
  omega
theorem z_c_spec_l1Split_61 (s : List UInt8) (c : UInt8) (hp0 : (s.length : Int) ≤ 10000000) (O : List (List UInt8)) (f : Nat) (i : Nat) (n8 : Nat) (c8 : Nat) (hi15 : SpTo c s O f i ∧ O.length ≤ i) (hl16 : n8 = (O).length) (hq18 : f ≤ i ∧ i ≤ s.length) (hq19 : O.length ≤ i) (h20 : ¬ ((i : Int) < (s.length : Int))) : O ++ ([s.drop f] : List (List UInt8)) = splitB c s := by
  exact SpTo.all (And.left ‹SpTo _ _ _ _ _ ∧ _›) (by omega)
theorem c_spec_l1Split (w : World) (s : List UInt8) (c : UInt8) (hp0 : (s.length : Int) ≤ 10000000) : Calls Tryz.prog 34 #[str s, .int .u8 (c.toNat : Int)] w fun e w' => ∃ (A1' : Option Addr) (n1' c1' : Nat), e = .returned (.slice A1' n1' c1') ∧ SlO w' w.heap.size encS 1 9 A1' n1' c1' (splitB c s) ∧ Lo w w' := by
  refine calls_W 35 Tryz.func34 rfl rfl rfl ?_
  refine W.seq ?_
  refine W.regS (SR.q' (r_as (v := .slice none 0 0) rfl) <| SR.nil ?_)
  refine W.seq ?_
  refine W.regS (SR.lit (vs := []) (L := ([] : List (List UInt8))) (enc := encS) tel51 (fun _ => rfl) rfl rfl rfl (by decide) ?_)
  intro g1 w2 hg3 hk4 hO5
  have hz6 := hk4.size
  have hB7 := (Lo.refl w).lo hk4
  refine SR.q' (r_as (v := .slice _ _ _) rfl) <| SR.nil ?_
  refine W.seq ?_
  refine W.regS (SR.q' (r_as (v := .int .i64 0) rfl) <| SR.nil ?_)
  refine W.seq ?_
  refine W.seq ?_
  refine W.regS (SR.q' (r_as (v := .int .i64 0) rfl) <| SR.nil ?_)
  refine W.block ?_
  refine W.loop (σ := (List (List UInt8)) × Nat × Nat × (Option Addr) × Nat × Nat) (fun g => [(0, str s), (1, .int .u8 (c.toNat : Int)), (4, .slice none 0 0), (5, .slice g.2.2.2.1 g.2.2.2.2.1 g.2.2.2.2.2), (6, .int .i64 (g.2.1 : Int)), (7, .int .i64 (g.2.2.1 : Int))]) (fun g w' => (Lo w w') ∧ (SlO w' w.heap.size encS 1 9 g.2.2.2.1 g.2.2.2.2.1 g.2.2.2.2.2 g.1) ∧ (SpTo c s g.1 g.2.1 g.2.2.1 ∧ g.1.length ≤ g.2.2.1)) (fun g => s.length - g.2.2.1) (([] : List (List UInt8)), 0, 0, (some (⟨g1, 0, none⟩ : Addr)), 0, 0) ?_ ?_ ?_
  · exact ⟨rfl, rfl, rfl, rfl, (eI (by first | omega | (dsimp only; omega))), (eI (by first | omega | (dsimp only; omega))), trivial⟩
  · exact ⟨hB7, (hO5), (z_c_spec_l1Split_9 s c hp0)⟩
  · rintro ⟨O, f, i, A8, n8, c8⟩ f10 w11 hP13
    obtain ⟨hB12, hO14, hi15⟩ : (Lo w w11) ∧ (SlO w11 w.heap.size encS 1 9 A8 n8 c8 O) ∧ (SpTo c s O f i ∧ O.length ≤ i) := hP13
    refine (?_ : W _ _ _ _ _ (act _ (sets f10 [(0, str s), (1, .int .u8 (c.toNat : Int)), (4, .slice none 0 0), (5, .slice A8 n8 c8), (6, .int .i64 (f : Int)), (7, .int .i64 (i : Int))])) _)
    have hzw11 := hB12.size
    have hl16 := hO14.len
    have hl17 := hO14.rd.bound
    have hq18 : f ≤ i ∧ i ≤ s.length := hi15.1.rng
    have hq19 : O.length ≤ i := hi15.2
    refine W.seq ?_
    refine W.seq ?_
    refine W.regS (SR.q' (r_mv (v := .int .i64 _) rfl) <| SR.q' (r_mv (v := str _) rfl) <| SR.q' (r_len_s und9 rfl) <| SR.q' (r_lt rfl rfl) <| SR.nil ?_)
    refine W.cond_d rfl (fun h20 => ?_) (fun h20 => ?_)
    · refine W.skip ?_
      refine W.seq ?_
      refine W.block ?_
      refine W.seq ?_
      refine W.regS (SR.q' (r_mv (v := str _) rfl) <| SR.q' (r_mv (v := .int .i64 _) rfl) <| ?_)
      have hq21 := u8_le (gt s i)
      refine SR.q' (r_idxS (i := i) und9 rfl rfl rfl (by first | omega | (simp only [List.length_append, List.length_cons, List.length_nil, List.length_take, List.length_drop]; omega) | (simp only [List.length_append, List.length_cons, List.length_nil, List.length_take, List.length_drop] at *; omega))) <| SR.q' (r_mv (v := .int .u8 _) rfl) <| SR.q' (r_eq rfl rfl) <| SR.nil ?_
      refine W.cond_d rfl (fun h22 => ?_) (fun h22 => ?_)
      · refine W.seq ?_
        refine W.regS (SR.q' (r_mv (v := .slice _ _ _) rfl) <| SR.q' (r_mv (v := str _) rfl) <| SR.q' (r_mv (v := .int .i64 _) rfl) <| SR.q' (r_mv (v := .int .i64 _) rfl) <| SR.q' (r_cutS (l := f) (h := i) und9 rfl rfl rfl rfl rfl (by omega) (by first | omega | (simp only [List.length_append, List.length_cons, List.length_nil, List.length_take, List.length_drop]; omega) | (simp only [List.length_append, List.length_cons, List.length_nil, List.length_take, List.length_drop] at *; omega))) <| SR.lit (vs := [str ((s.drop f).take (i - f))]) (L := ([(s.drop f).take (i - f)] : List (List UInt8))) (enc := encS) tel51 (fun _ => rfl) rfl rfl rfl (by decide) ?_)
        intro g23 w24 hg25 hk26 hO27
        have hz28 := hk26.size
        have hB29 := hB12.lo hk26
        have hd30 : ¬ A8 = some ⟨g23, 0, none⟩ := fun e' => by have := (hO14).base_le e'; omega
        refine SR.app tel51 rfl rfl ((hO14).lo hk26) ((hO27).rd) (fun _ => rfl) (by omega) (by omega) ?_
        intro A31 c32 w33 hk34 hO35 hN36
        have hz37 := hk34.size
        have hB38 := hB29.step hk34 (fun i_ hi_ e' => by have := (((hO14).lo hk26)).base_le e'; first | omega | (exfalso; omega) | exact e' | exact .inl e' | exact .inr e')
        refine SR.q' (r_as (v := .slice _ _ _) rfl) <| SR.nil ?_
        refine W.regS (SR.q' (r_mv (v := .int .i64 _) rfl) <| SR.q' (r_add rfl rfl (by omega)) <| SR.q' (r_as (v := .int .i64 _) rfl) <| SR.nil ?_)
        refine W.regS (SR.q' (r_mv (v := .int .i64 _) rfl) <| SR.q' (r_add rfl rfl (by omega)) <| SR.q' (r_as (v := .int .i64 _) rfl) <| SR.nil ?_)
        refine ⟨(O ++ ([(s.drop f).take (i - f)] : List (List UInt8)), (i + 1), i + 1, A31, n8 + 1, c32), _, rfl, ⟨rfl, rfl, rfl, rfl, (eI (by first | omega | (dsimp only; omega))), (eI (by first | omega | (dsimp only; omega))), trivial⟩, ⟨hB38, (hO35), ?_⟩, ?_⟩
        · exact (z_c_spec_l1Split_40 s c hp0 O f i n8 c8 hi15 hl16 hq18 hq19 h20 hq21 h22)
        · exact (z_c_spec_l1Split_41 s c hp0 O f i n8 c8 hi15 hl16 hq18 hq19 h20 hq21 h22)
      · refine W.skip ?_
        refine W.regS (SR.q' (r_mv (v := .int .i64 _) rfl) <| SR.q' (r_add rfl rfl (by omega)) <| SR.q' (r_as (v := .int .i64 _) rfl) <| SR.nil ?_)
        refine ⟨(O, f, i + 1, A8, n8, c8), _, rfl, ⟨rfl, rfl, rfl, rfl, rfl, (eI (by first | omega | (dsimp only; omega))), trivial⟩, ⟨hB12, (hO14), ?_⟩, ?_⟩
        · exact (z_c_spec_l1Split_42 s c hp0 O f i n8 c8 hi15 hl16 hq18 hq19 h20 hq21 h22)
        · exact (z_c_spec_l1Split_43 s c hp0 O f i n8 c8 hi15 hl16 hq18 hq19 h20 hq21 h22)
    · refine W.exit (xin_here ?_)
      refine W.seq ?_
      refine W.regS (SR.q' (r_mv (v := .slice _ _ _) rfl) <| SR.q' (r_mv (v := str _) rfl) <| SR.q' (r_mv (v := .int .i64 _) rfl) <| SR.q' (r_cutlS (l := f) und9 rfl rfl rfl (by first | omega | (simp only [List.length_append, List.length_cons, List.length_nil, List.length_take, List.length_drop]; omega) | (simp only [List.length_append, List.length_cons, List.length_nil, List.length_take, List.length_drop] at *; omega))) <| SR.lit (vs := [str (s.drop f)]) (L := ([s.drop f] : List (List UInt8))) (enc := encS) tel51 (fun _ => rfl) rfl rfl rfl (by decide) ?_)
      intro g44 w45 hg46 hk47 hO48
      have hz49 := hk47.size
      have hB50 := hB12.lo hk47
      have hd51 : ¬ A8 = some ⟨g44, 0, none⟩ := fun e' => by have := (hO14).base_le e'; omega
      refine SR.app tel51 rfl rfl ((hO14).lo hk47) ((hO48).rd) (fun _ => rfl) (by omega) (by omega) ?_
      intro A52 c53 w54 hk55 hO56 hN57
      have hz58 := hk55.size
      have hB59 := hB50.step hk55 (fun i_ hi_ e' => by have := (((hO14).lo hk47)).base_le e'; first | omega | (exfalso; omega) | exact e' | exact .inl e' | exact .inr e')
      refine SR.q' (r_as (v := .slice _ _ _) rfl) <| SR.nil ?_
      refine W.ret ?_
      refine ret1 rfl (v := .slice _ _ _) rfl ?_
      exact ⟨A52, n8 + 1, c53, eR rfl, (SlO.eqv ((hO56).down (by omega)) (z_c_spec_l1Split_61 s c hp0 O f i n8 c8 hi15 hl16 hq18 hq19 h20)), hB59⟩
end Go.Proofs.YtnbbfokkpkphoaaGreatDoor
