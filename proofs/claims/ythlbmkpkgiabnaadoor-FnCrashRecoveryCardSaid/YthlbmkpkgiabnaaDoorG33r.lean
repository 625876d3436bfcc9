/- Walks, printed by a program of this claim's author. -/
import Derived.Test.YthlbmkpkgiabnaaDoorChecked
import Derived.Test.YthlbmkpkgiabnaaDoorWb
import Derived.Test.YthlbmkpkgiabnaaDoorFt
import Derived.Test.YthlbmkpkgiabnaaDoorSi
import Derived.Test.YthlbmkpkgiabnaaDoorG33q
namespace Go.Proofs.YthlbmkpkgiabnaaDoor
open Go Go.RowKit Fw
set_option maxRecDepth 10000
set_option linter.unusedVariables false
theorem bld27_ : Tryd.prog.built 27 [] = some (List.toArray [str ([] : List UInt8), str ([] : List UInt8)]) := by kernel_rfl
theorem bld27_0_1 (a0 : List UInt8) (a1 : List UInt8) : Tryd.prog.built 27 [(0, str a0), (1, str a1)] = some (List.toArray [str a0, str a1]) := by kernel_rfl
theorem ent16 : Ent Tryd.prog 16 := ent_of Tryd.func16 (by decide +kernel) rfl
theorem ent68 : Ent Tryd.prog 68 := ent_of Tryd.func68 (by decide +kernel) rfl
theorem ent70 : Ent Tryd.prog 70 := ent_of Tryd.func70 (by decide +kernel) rfl
theorem ent80 : Ent Tryd.prog 80 := ent_of Tryd.func80 (by decide +kernel) rfl
theorem tel85 : TEl Tryd.prog 85 9 (str ([] : List UInt8)) 1 16 := ⟨by kernel_rfl, by kernel_rfl, rfl, by decide⟩
theorem tsl85 : TSl Tryd.prog 85 9 1 := ⟨by kernel_rfl, fun _ => by kernel_rfl⟩
theorem tz27 : TZ Tryd.prog 27 (.agg (List.toArray [str ([] : List UInt8), str ([] : List UInt8)])) := fun _ => by kernel_rfl

theorem z_c_spec_l1Split_9 (s : List UInt8) (c : UInt8) (hp0 : (s.length : Int) ≤ 10000000) : SpTo c s ([] : List (List UInt8)) 0 0 ∧ ([] : List (List UInt8)).length ≤ 0 := by
  exact ⟨SpTo.zero, Nat.le_refl _⟩
theorem z_c_spec_l1Split_40 (s : List UInt8) (c : UInt8) (hp0 : (s.length : Int) ≤ 10000000) (O : List (List UInt8)) (f : Nat) (i : Nat) (n8 : Nat) (c8 : Nat) (hi15 : SpTo c s O f i ∧ O.length ≤ i) (hl16 : n8 = (O).length) (hq18 : f ≤ i ∧ i ≤ s.length) (hq19 : O.length ≤ i) (h20 : (i : Int) < (s.length : Int)) (hq21 : ((gt s i).toNat : Int) ≤ 255) (h22 : ((gt s i).toNat : Int) = (c.toNat : Int)) : SpTo c s (O ++ ([(s.drop f).take (i - f)] : List (List UInt8))) (i + 1) (i + 1) ∧ (O ++ ([(s.drop f).take (i - f)] : List (List UInt8))).length ≤ i + 1 := by
  have hh := ‹SpTo _ _ _ _ _ ∧ _›; first | exact ⟨hh.1.hit (by omega) (u8_eq.1 ‹_›), by simp only [List.length_append, List.length_cons, List.length_nil]; omega⟩ | exact ⟨hh.1.miss (by omega) (fun e => ‹¬ _› (u8_eq.2 e)), by omega⟩
theorem z_c_spec_l1Split_41 (s : List UInt8) (c : UInt8) (hp0 : (s.length : Int) ≤ 10000000) (O : List (List UInt8)) (f : Nat) (i : Nat) (n8 : Nat) (c8 : Nat) (hi15 : SpTo c s O f i ∧ O.length ≤ i) (hl16 : n8 = (O).length) (hq18 : f ≤ i ∧ i ≤ s.length) (hq19 : O.length ≤ i) (h20 : (i : Int) < (s.length : Int)) (hq21 : ((gt s i).toNat : Int) ≤ 255) (h22 : ((gt s i).toNat : Int) = (c.toNat : Int)) : s.length - (i + 1) < s.length - i := by
  omega
theorem z_c_spec_l1Split_42 (s : List UInt8) (c : UInt8) (hp0 : (s.length : Int) ≤ 10000000) (O : List (List UInt8)) (f : Nat) (i : Nat) (n8 : Nat) (c8 : Nat) (hi15 : SpTo c s O f i ∧ O.length ≤ i) (hl16 : n8 = (O).length) (hq18 : f ≤ i ∧ i ≤ s.length) (hq19 : O.length ≤ i) (h20 : (i : Int) < (s.length : Int)) (hq21 : ((gt s i).toNat : Int) ≤ 255) (h22 : ¬ (((gt s i).toNat : Int) = (c.toNat : Int))) : SpTo c s O f (i + 1) ∧ O.length ≤ i + 1 := by
  have hh := ‹SpTo _ _ _ _ _ ∧ _›; first | exact ⟨hh.1.hit (by omega) (u8_eq.1 ‹_›), by simp only [List.length_append, List.length_cons, List.length_nil]; omega⟩ | exact ⟨hh.1.miss (by omega) (fun e => ‹¬ _› (u8_eq.2 e)), by omega⟩
theorem z_c_spec_l1Split_43 (s : List UInt8) (c : UInt8) (hp0 : (s.length : Int) ≤ 10000000) (O : List (List UInt8)) (f : Nat) (i : Nat) (n8 : Nat) (c8 : Nat) (hi15 : SpTo c s O f i ∧ O.length ≤ i) (hl16 : n8 = (O).length) (hq18 : f ≤ i ∧ i ≤ s.length) (hq19 : O.length ≤ i) (h20 : (i : Int) < (s.length : Int)) (hq21 : ((gt s i).toNat : Int) ≤ 255) (h22 : ¬ (((gt s i).toNat : Int) = (c.toNat : Int))) : s.length - (i + 1) < s.length - i := by
  omega
theorem z_c_spec_l1Split_61 (s : List UInt8) (c : UInt8) (hp0 : (s.length : Int) ≤ 10000000) (O : List (List UInt8)) (f : Nat) (i : Nat) (n8 : Nat) (c8 : Nat) (hi15 : SpTo c s O f i ∧ O.length ≤ i) (hl16 : n8 = (O).length) (hq18 : f ≤ i ∧ i ≤ s.length) (hq19 : O.length ≤ i) (h20 : ¬ ((i : Int) < (s.length : Int))) : O ++ ([s.drop f] : List (List UInt8)) = splitB c s := by
  exact SpTo.all (And.left ‹SpTo _ _ _ _ _ ∧ _›) (by omega)
theorem c_spec_l1Split (w : World) (s : List UInt8) (c : UInt8) (hp0 : (s.length : Int) ≤ 10000000) : Calls Tryd.prog 68 #[str s, .int .u8 (c.toNat : Int)] w fun e w' => ∃ (A1' : Option Addr) (n1' c1' : Nat), e = .returned (.slice A1' n1' c1') ∧ SlO w' w.heap.size encS 1 9 A1' n1' c1' (splitB c s) ∧ Lo w w' := by
  refine calls_W 35 Tryd.func68 rfl rfl rfl ?_
  refine W.seq ?_
  refine W.regS (SR.q' (r_as (v := .slice none 0 0) rfl) <| SR.nil ?_)
  refine W.seq ?_
  refine W.regS (SR.lit (vs := []) (L := ([] : List (List UInt8))) (enc := encS) tel85 (fun _ => rfl) rfl rfl rfl (by decide) ?_)
  intro g1 w2 hg3 hk4 hO5
  have hz6 := hk4.size
  have hB7 := (Lo.refl w).lo hk4
  refine SR.q' (r_as (v := .slice _ _ _) rfl) <| SR.nil ?_
  refine W.seq ?_
  refine W.regS (SR.q' (r_as (v := .int .i64 0) rfl) <| SR.nil ?_)
  refine W.seq ?_
  refine W.seq ?_
  refine W.regS (SR.q' (r_as (v := .int .i64 0) rfl) <| SR.nil ?_)
  refine W.block ?_
  refine W.loop (σ := (List (List UInt8)) × Nat × Nat × (Option Addr) × Nat × Nat) (fun g => [(0, str s), (1, .int .u8 (c.toNat : Int)), (4, .slice none 0 0), (5, .slice g.2.2.2.1 g.2.2.2.2.1 g.2.2.2.2.2), (6, .int .i64 (g.2.1 : Int)), (7, .int .i64 (g.2.2.1 : Int))]) (fun g w' => (Lo w w') ∧ (SlO w' w.heap.size encS 1 9 g.2.2.2.1 g.2.2.2.2.1 g.2.2.2.2.2 g.1) ∧ (SpTo c s g.1 g.2.1 g.2.2.1 ∧ g.1.length ≤ g.2.2.1)) (fun g => s.length - g.2.2.1) (([] : List (List UInt8)), 0, 0, (some (⟨g1, 0, none⟩ : Addr)), 0, 0) ?_ ?_ ?_
  · exact ⟨rfl, rfl, rfl, rfl, (eI (by first | omega | (dsimp only; omega))), (eI (by first | omega | (dsimp only; omega))), trivial⟩
  · exact ⟨hB7, (hO5), (z_c_spec_l1Split_9 s c hp0)⟩
  · rintro ⟨O, f, i, A8, n8, c8⟩ f10 w11 hP13
    obtain ⟨hB12, hO14, hi15⟩ : (Lo w w11) ∧ (SlO w11 w.heap.size encS 1 9 A8 n8 c8 O) ∧ (SpTo c s O f i ∧ O.length ≤ i) := hP13
    refine (?_ : W _ _ _ _ _ (act _ (sets f10 [(0, str s), (1, .int .u8 (c.toNat : Int)), (4, .slice none 0 0), (5, .slice A8 n8 c8), (6, .int .i64 (f : Int)), (7, .int .i64 (i : Int))])) _)
    have hzw11 := hB12.size
    have hl16 := hO14.len
    have hl17 := hO14.rd.bound
    have hq18 : f ≤ i ∧ i ≤ s.length := hi15.1.rng
    have hq19 : O.length ≤ i := hi15.2
    refine W.seq ?_
    refine W.seq ?_
    refine W.regS (SR.q' (r_mv (v := .int .i64 _) rfl) <| SR.q' (r_mv (v := str _) rfl) <| SR.q' (r_len_s und9 rfl) <| SR.q' (r_lt rfl rfl) <| SR.nil ?_)
    refine W.cond_d rfl (fun h20 => ?_) (fun h20 => ?_)
    · refine W.skip ?_
      refine W.seq ?_
      refine W.block ?_
      refine W.seq ?_
      refine W.regS (SR.q' (r_mv (v := str _) rfl) <| SR.q' (r_mv (v := .int .i64 _) rfl) <| ?_)
      have hq21 := u8_le (gt s i)
      refine SR.q' (r_idxS (i := i) und9 rfl rfl rfl (by first | omega | (simp only [List.length_append, List.length_cons, List.length_nil, List.length_take, List.length_drop]; omega) | (simp only [List.length_append, List.length_cons, List.length_nil, List.length_take, List.length_drop] at *; omega))) <| SR.q' (r_mv (v := .int .u8 _) rfl) <| SR.q' (r_eq rfl rfl) <| SR.nil ?_
      refine W.cond_d rfl (fun h22 => ?_) (fun h22 => ?_)
      · refine W.seq ?_
        refine W.regS (SR.q' (r_mv (v := .slice _ _ _) rfl) <| SR.q' (r_mv (v := str _) rfl) <| SR.q' (r_mv (v := .int .i64 _) rfl) <| SR.q' (r_mv (v := .int .i64 _) rfl) <| SR.q' (r_cutS (l := f) (h := i) und9 rfl rfl rfl rfl rfl (by omega) (by first | omega | (simp only [List.length_append, List.length_cons, List.length_nil, List.length_take, List.length_drop]; omega) | (simp only [List.length_append, List.length_cons, List.length_nil, List.length_take, List.length_drop] at *; omega))) <| SR.lit (vs := [str ((s.drop f).take (i - f))]) (L := ([(s.drop f).take (i - f)] : List (List UInt8))) (enc := encS) tel85 (fun _ => rfl) rfl rfl rfl (by decide) ?_)
        intro g23 w24 hg25 hk26 hO27
        have hz28 := hk26.size
        have hB29 := hB12.lo hk26
        have hd30 : ¬ A8 = some ⟨g23, 0, none⟩ := fun e' => by have := (hO14).base_le e'; omega
        refine SR.app tel85 rfl rfl ((hO14).lo hk26) ((hO27).rd) (fun _ => rfl) (by omega) (by omega) ?_
        intro A31 c32 w33 hk34 hO35 hN36
        have hz37 := hk34.size
        have hB38 := hB29.step hk34 (fun i_ hi_ e' => by have := (((hO14).lo hk26)).base_le e'; first | omega | (exfalso; omega) | exact e' | exact .inl e' | exact .inr e')
        refine SR.q' (r_as (v := .slice _ _ _) rfl) <| SR.nil ?_
        refine W.regS (SR.q' (r_mv (v := .int .i64 _) rfl) <| SR.q' (r_add rfl rfl (by omega)) <| SR.q' (r_as (v := .int .i64 _) rfl) <| SR.nil ?_)
        refine W.regS (SR.q' (r_mv (v := .int .i64 _) rfl) <| SR.q' (r_add rfl rfl (by omega)) <| SR.q' (r_as (v := .int .i64 _) rfl) <| SR.nil ?_)
        refine ⟨(O ++ ([(s.drop f).take (i - f)] : List (List UInt8)), (i + 1), i + 1, A31, n8 + 1, c32), _, rfl, ⟨rfl, rfl, rfl, rfl, (eI (by first | omega | (dsimp only; omega))), (eI (by first | omega | (dsimp only; omega))), trivial⟩, ⟨hB38, (hO35), ?_⟩, ?_⟩
        · exact (z_c_spec_l1Split_40 s c hp0 O f i n8 c8 hi15 hl16 hq18 hq19 h20 hq21 h22)
        · exact (z_c_spec_l1Split_41 s c hp0 O f i n8 c8 hi15 hl16 hq18 hq19 h20 hq21 h22)
      · refine W.skip ?_
        refine W.regS (SR.q' (r_mv (v := .int .i64 _) rfl) <| SR.q' (r_add rfl rfl (by omega)) <| SR.q' (r_as (v := .int .i64 _) rfl) <| SR.nil ?_)
        refine ⟨(O, f, i + 1, A8, n8, c8), _, rfl, ⟨rfl, rfl, rfl, rfl, rfl, (eI (by first | omega | (dsimp only; omega))), trivial⟩, ⟨hB12, (hO14), ?_⟩, ?_⟩
        · exact (z_c_spec_l1Split_42 s c hp0 O f i n8 c8 hi15 hl16 hq18 hq19 h20 hq21 h22)
        · exact (z_c_spec_l1Split_43 s c hp0 O f i n8 c8 hi15 hl16 hq18 hq19 h20 hq21 h22)
    · refine W.exit (xin_here ?_)
      refine W.seq ?_
      refine W.regS (SR.q' (r_mv (v := .slice _ _ _) rfl) <| SR.q' (r_mv (v := str _) rfl) <| SR.q' (r_mv (v := .int .i64 _) rfl) <| SR.q' (r_cutlS (l := f) und9 rfl rfl rfl (by first | omega | (simp only [List.length_append, List.length_cons, List.length_nil, List.length_take, List.length_drop]; omega) | (simp only [List.length_append, List.length_cons, List.length_nil, List.length_take, List.length_drop] at *; omega))) <| SR.lit (vs := [str (s.drop f)]) (L := ([s.drop f] : List (List UInt8))) (enc := encS) tel85 (fun _ => rfl) rfl rfl rfl (by decide) ?_)
      intro g44 w45 hg46 hk47 hO48
      have hz49 := hk47.size
      have hB50 := hB12.lo hk47
      have hd51 : ¬ A8 = some ⟨g44, 0, none⟩ := fun e' => by have := (hO14).base_le e'; omega
      refine SR.app tel85 rfl rfl ((hO14).lo hk47) ((hO48).rd) (fun _ => rfl) (by omega) (by omega) ?_
      intro A52 c53 w54 hk55 hO56 hN57
      have hz58 := hk55.size
      have hB59 := hB50.step hk55 (fun i_ hi_ e' => by have := (((hO14).lo hk47)).base_le e'; first | omega | (exfalso; omega) | exact e' | exact .inl e' | exact .inr e')
      refine SR.q' (r_as (v := .slice _ _ _) rfl) <| SR.nil ?_
      refine W.ret ?_
      refine ret1 rfl (v := .slice _ _ _) rfl ?_
      exact ⟨A52, n8 + 1, c53, eR rfl, (SlO.eqv ((hO56).down (by omega)) (z_c_spec_l1Split_61 s c hp0 O f i n8 c8 hi15 hl16 hq18 hq19 h20)), hB59⟩

open Classical in
noncomputable def impl_decode (k : Int) (s : List UInt8) : LogRecord × Bool :=
  if ((encN k (⟨(Lib.cut (Lib.trimPrefix ((Lib.cut s ([35] : List UInt8)).1) ((Lib.itoa k) ++ ([32] : List UInt8))) ([64] : List UInt8)).1, (Lib.cut (Lib.trimPrefix ((Lib.cut s ([35] : List UInt8)).1) ((Lib.itoa k) ++ ([32] : List UInt8))) ([64] : List UInt8)).2.1⟩ : LogRecord)).2) = true then ((⟨(Lib.cut (Lib.trimPrefix ((Lib.cut s ([35] : List UInt8)).1) ((Lib.itoa k) ++ ([32] : List UInt8))) ([64] : List UInt8)).1, (Lib.cut (Lib.trimPrefix ((Lib.cut s ([35] : List UInt8)).1) ((Lib.itoa k) ++ ([32] : List UInt8))) ([64] : List UInt8)).2.1⟩ : LogRecord), decide (((encN k (⟨(Lib.cut (Lib.trimPrefix ((Lib.cut s ([35] : List UInt8)).1) ((Lib.itoa k) ++ ([32] : List UInt8))) ([64] : List UInt8)).1, (Lib.cut (Lib.trimPrefix ((Lib.cut s ([35] : List UInt8)).1) ((Lib.itoa k) ++ ([32] : List UInt8))) ([64] : List UInt8)).2.1⟩ : LogRecord)).1) = (s ++ ([10] : List UInt8)))) else ((⟨(Lib.cut (Lib.trimPrefix ((Lib.cut s ([35] : List UInt8)).1) ((Lib.itoa k) ++ ([32] : List UInt8))) ([64] : List UInt8)).1, (Lib.cut (Lib.trimPrefix ((Lib.cut s ([35] : List UInt8)).1) ((Lib.itoa k) ++ ([32] : List UInt8))) ([64] : List UInt8)).2.1⟩ : LogRecord), false)
theorem c_impl_decode (w : World) (k : Int) (s : List UInt8) (hp0 : 0 ≤ k ∧ k ≤ 59) (hp1 : (s.length : Int) ≤ 5000000) (hE : EnvW w) : Calls Tryd.prog 71 #[.int .i64 k, str s] w fun e w' => e = .returned (.tuple (List.toArray [.agg (List.toArray [str (((impl_decode k s).1).Command), str (((impl_decode k s).1).Reply)]), .bool ((impl_decode k s).2)])) ∧ Lo w w' := by
  refine calls_W 48 Tryd.func71 rfl rfl rfl ?_
  refine W.seq ?_
  refine W.regS (SR.alloc (l := [str ([] : List UInt8), str ([] : List UInt8)]) tz27 rfl ?_)
  intro g1 w2 hg3 hk4 hs5 hb6
  have hz7 := hk4.size
  have hB8 := (Lo.refl w).lo hk4
  refine SR.q' (r_as (v := .bool false) rfl) <| SR.nil ?_
  refine W.seq ?_
  refine W.regS (SR.q' (r_mv (v := str _) rfl) <| SR.call ent70 (c_strings_Cut w2 s ([35] : List UInt8) (by omega) (hE.lo (hB8))) rfl ?_)
  rintro e w9 ⟨rfl, hk10⟩
  refine ⟨_, rfl, ?_⟩
  have hz11 := hk10.size
  have hB12 := hB8.lo hk10
  have hq13 : (Lib.cut s ([35] : List UInt8)).1.length ≤ s.length ∧ (Lib.cut s ([35] : List UInt8)).2.1.length ≤ s.length := cut_len s ([35] : List UInt8)
  refine SR.q' (r_mv (v := .tuple (List.toArray _)) rfl) <| SR.q' (r_ext (v := str _) rfl rfl) <| SR.q' (r_ext (v := str _) rfl rfl) <| SR.q' (r_ext (v := .bool _) rfl rfl) <| SR.q' (r_as (v := str _) rfl) <| SR.q' (r_as (v := str _) rfl) <| SR.q' (r_as (v := .bool _) rfl) <| SR.nil ?_
  refine W.seq ?_
  refine W.regS (SR.q' (r_mv (v := str _) rfl) <| SR.q' (r_mv (v := .int .i64 _) rfl) <| SR.call ent47 (c_impl_text w9 k (by omega) (hE.lo (hB12))) rfl ?_)
  rintro e w14 ⟨rfl, hk15⟩
  refine ⟨_, rfl, ?_⟩
  have hz16 := hk15.size
  have hB17 := hB12.lo hk15
  have hq18 : (Lib.itoa k).length ≤ 21 := itoa_len (n := k) (by omega) (by omega)
  refine SR.q' (r_cat rfl rfl (by first | omega | (simp only [List.length_append, List.length_cons, List.length_nil, List.length_take, List.length_drop]; omega) | (simp only [List.length_append, List.length_cons, List.length_nil, List.length_take, List.length_drop] at *; omega))) <| SR.call ent80 (c_strings_TrimPrefix w14 ((Lib.cut s ([35] : List UInt8)).1) ((Lib.itoa k) ++ ([32] : List UInt8))) rfl ?_
  rintro e w19 ⟨rfl, hk20⟩
  refine ⟨_, rfl, ?_⟩
  have hz21 := hk20.size
  have hB22 := hB17.lo hk20
  have hq23 : (Lib.trimPrefix ((Lib.cut s ([35] : List UInt8)).1) ((Lib.itoa k) ++ ([32] : List UInt8))).length ≤ ((Lib.cut s ([35] : List UInt8)).1).length := trim_len ((Lib.cut s ([35] : List UInt8)).1) ((Lib.itoa k) ++ ([32] : List UInt8))
  refine SR.call ent70 (c_strings_Cut w19 (Lib.trimPrefix ((Lib.cut s ([35] : List UInt8)).1) ((Lib.itoa k) ++ ([32] : List UInt8))) ([64] : List UInt8) (by omega) (hE.lo (hB22))) rfl ?_
  rintro e w24 ⟨rfl, hk25⟩
  refine ⟨_, rfl, ?_⟩
  have hz26 := hk25.size
  have hB27 := hB22.lo hk25
  have hq28 : (Lib.cut (Lib.trimPrefix ((Lib.cut s ([35] : List UInt8)).1) ((Lib.itoa k) ++ ([32] : List UInt8))) ([64] : List UInt8)).1.length ≤ (Lib.trimPrefix ((Lib.cut s ([35] : List UInt8)).1) ((Lib.itoa k) ++ ([32] : List UInt8))).length ∧ (Lib.cut (Lib.trimPrefix ((Lib.cut s ([35] : List UInt8)).1) ((Lib.itoa k) ++ ([32] : List UInt8))) ([64] : List UInt8)).2.1.length ≤ (Lib.trimPrefix ((Lib.cut s ([35] : List UInt8)).1) ((Lib.itoa k) ++ ([32] : List UInt8))).length := cut_len (Lib.trimPrefix ((Lib.cut s ([35] : List UInt8)).1) ((Lib.itoa k) ++ ([32] : List UInt8))) ([64] : List UInt8)
  refine SR.q' (r_mv (v := .tuple (List.toArray _)) rfl) <| SR.q' (r_ext (v := str _) rfl rfl) <| SR.q' (r_ext (v := str _) rfl rfl) <| SR.q' (r_ext (v := .bool _) rfl rfl) <| SR.q' (r_as (v := str _) rfl) <| SR.q' (r_as (v := str _) rfl) <| SR.q' (r_as (v := .bool _) rfl) <| SR.nil ?_
  refine W.seq ?_
  refine W.regS (SR.q' (r_mv (v := str _) rfl) <| SR.q' (r_mv (v := str _) rfl) <| SR.q' (r_build (vs := [(0, str ((Lib.cut (Lib.trimPrefix ((Lib.cut s ([35] : List UInt8)).1) ((Lib.itoa k) ++ ([32] : List UInt8))) ([64] : List UInt8)).1)), (1, str ((Lib.cut (Lib.trimPrefix ((Lib.cut s ([35] : List UInt8)).1) ((Lib.itoa k) ++ ([32] : List UInt8))) ([64] : List UInt8)).2.1))]) rfl (bld27_0_1 _ _)) <| SR.alloc (l := [str ([] : List UInt8), str ([] : List UInt8)]) tz27 rfl ?_)
  intro g29 w30 hg31 hk32 hs33 hb34
  have hz35 := hk32.size
  have hB36 := hB27.lo hk32
  refine SR.store (o := 0) (vs := [str ((Lib.cut (Lib.trimPrefix ((Lib.cut s ([35] : List UInt8)).1) ((Lib.itoa k) ++ ([32] : List UInt8))) ([64] : List UInt8)).1), str ((Lib.cut (Lib.trimPrefix ((Lib.cut s ([35] : List UInt8)).1) ((Lib.itoa k) ++ ([32] : List UInt8))) ([64] : List UInt8)).2.1)]) agg27.2 rfl rfl rfl rfl (hb34) (Nat.le_of_ble_eq_true rfl) rfl ?_
  intro w37 hk38 hs39 hb40
  have hz41 := hk38.size
  have hB42 := hB36.new hk38 (by omega)
  refine SR.nil ?_
  refine W.seq ?_
  refine W.regS (SR.q' (r_mv (v := .int .i64 _) rfl) <| SR.q' (r_lda (l := [str ((Lib.cut (Lib.trimPrefix ((Lib.cut s ([35] : List UInt8)).1) ((Lib.itoa k) ++ ([32] : List UInt8))) ([64] : List UInt8)).1), str ((Lib.cut (Lib.trimPrefix ((Lib.cut s ([35] : List UInt8)).1) ((Lib.itoa k) ++ ([32] : List UInt8))) ([64] : List UInt8)).2.1)]) agg27 rfl (fun _ _ hu => (hb40).cell hu) rfl) <| SR.call ent16 (c_impl_EncodeRecord w37 k (⟨(Lib.cut (Lib.trimPrefix ((Lib.cut s ([35] : List UInt8)).1) ((Lib.itoa k) ++ ([32] : List UInt8))) ([64] : List UInt8)).1, (Lib.cut (Lib.trimPrefix ((Lib.cut s ([35] : List UInt8)).1) ((Lib.itoa k) ++ ([32] : List UInt8))) ([64] : List UInt8)).2.1⟩ : LogRecord) (hE.lo (hB42))) rfl ?_)
  rintro e w43 ⟨rfl, hk44⟩
  refine ⟨_, rfl, ?_⟩
  have hz45 := hk44.size
  have hB46 := hB42.lo hk44
  have hq47 : (encN k (⟨(Lib.cut (Lib.trimPrefix ((Lib.cut s ([35] : List UInt8)).1) ((Lib.itoa k) ++ ([32] : List UInt8))) ([64] : List UInt8)).1, (Lib.cut (Lib.trimPrefix ((Lib.cut s ([35] : List UInt8)).1) ((Lib.itoa k) ++ ([32] : List UInt8))) ([64] : List UInt8)).2.1⟩ : LogRecord)).1.length ≤ 406 := enc_len k (⟨(Lib.cut (Lib.trimPrefix ((Lib.cut s ([35] : List UInt8)).1) ((Lib.itoa k) ++ ([32] : List UInt8))) ([64] : List UInt8)).1, (Lib.cut (Lib.trimPrefix ((Lib.cut s ([35] : List UInt8)).1) ((Lib.itoa k) ++ ([32] : List UInt8))) ([64] : List UInt8)).2.1⟩ : LogRecord)
  refine SR.q' (r_mv (v := .tuple (List.toArray _)) rfl) <| SR.q' (r_ext (v := str _) rfl rfl) <| SR.q' (r_ext (v := .bool _) rfl rfl) <| SR.q' (r_as (v := str _) rfl) <| SR.q' (r_as (v := .bool _) rfl) <| SR.nil ?_
  refine W.seq ?_
  refine W.regS (SR.q' (r_lda (l := [str ((Lib.cut (Lib.trimPrefix ((Lib.cut s ([35] : List UInt8)).1) ((Lib.itoa k) ++ ([32] : List UInt8))) ([64] : List UInt8)).1), str ((Lib.cut (Lib.trimPrefix ((Lib.cut s ([35] : List UInt8)).1) ((Lib.itoa k) ++ ([32] : List UInt8))) ([64] : List UInt8)).2.1)]) agg27 rfl (fun _ _ hu => ((hb40).lo hk44).cell hu) rfl) <| SR.q' (r_mv (v := .bool _) rfl) <| SR.q' (r_mv (v := .bool _) rfl) <| SR.split (fun h48 => ?_) (fun h48 => ?_))
  · refine SR.g' rfl (r_mv (v := str _) rfl) <| SR.g' rfl (r_mv (v := str _) rfl) <| SR.g' rfl (r_cat rfl rfl (by first | omega | (simp only [List.length_append, List.length_cons, List.length_nil, List.length_take, List.length_drop]; omega) | (simp only [List.length_append, List.length_cons, List.length_nil, List.length_take, List.length_drop] at *; omega))) <| SR.g' rfl (r_eqs (s := (encN k (⟨(Lib.cut (Lib.trimPrefix ((Lib.cut s ([35] : List UInt8)).1) ((Lib.itoa k) ++ ([32] : List UInt8))) ([64] : List UInt8)).1, (Lib.cut (Lib.trimPrefix ((Lib.cut s ([35] : List UInt8)).1) ((Lib.itoa k) ++ ([32] : List UInt8))) ([64] : List UInt8)).2.1⟩ : LogRecord)).1) (r := s ++ ([10] : List UInt8)) rfl rfl) <| SR.q' (r_pick true rfl (v := .bool _) rfl) <| SR.store (o := 0) (vs := [str ((Lib.cut (Lib.trimPrefix ((Lib.cut s ([35] : List UInt8)).1) ((Lib.itoa k) ++ ([32] : List UInt8))) ([64] : List UInt8)).1), str ((Lib.cut (Lib.trimPrefix ((Lib.cut s ([35] : List UInt8)).1) ((Lib.itoa k) ++ ([32] : List UInt8))) ([64] : List UInt8)).2.1)]) agg27.2 rfl rfl rfl rfl ((((((((hb6).lo hk10).lo hk15).lo hk20).lo hk25).lo hk32).kp hk38 (fun e' => by have e'' : g1 = g29 := e'; omega)).lo hk44) (Nat.le_of_ble_eq_true rfl) rfl ?_
    intro w49 hk50 hs51 hb52
    have hz53 := hk50.size
    have hB54 := hB46.new hk50 (by omega)
    refine SR.q' (r_as (v := .bool _) rfl) <| SR.nil ?_
    refine W.ret ?_
    refine retCT rfl rfl agg27 (hb52) rfl (v := .bool _) rfl ?_
    exact ⟨eR (eT2 (eA (eC (eS (by unfold impl_decode; rw [if_pos h48] <;> rfl)) (eC (eS (by unfold impl_decode; rw [if_pos h48] <;> rfl)) rfl))) (eB (by unfold impl_decode; rw [if_pos h48] <;> rfl))), hB54⟩
  · refine SR.s' rfl <| SR.s' rfl <| SR.s' rfl <| SR.s' rfl <| SR.q' (r_pick false rfl (v := .bool false) rfl) <| SR.store (o := 0) (vs := [str ((Lib.cut (Lib.trimPrefix ((Lib.cut s ([35] : List UInt8)).1) ((Lib.itoa k) ++ ([32] : List UInt8))) ([64] : List UInt8)).1), str ((Lib.cut (Lib.trimPrefix ((Lib.cut s ([35] : List UInt8)).1) ((Lib.itoa k) ++ ([32] : List UInt8))) ([64] : List UInt8)).2.1)]) agg27.2 rfl rfl rfl rfl ((((((((hb6).lo hk10).lo hk15).lo hk20).lo hk25).lo hk32).kp hk38 (fun e' => by have e'' : g1 = g29 := e'; omega)).lo hk44) (Nat.le_of_ble_eq_true rfl) rfl ?_
    intro w55 hk56 hs57 hb58
    have hz59 := hk56.size
    have hB60 := hB46.new hk56 (by omega)
    refine SR.q' (r_as (v := .bool _) rfl) <| SR.nil ?_
    refine W.ret ?_
    refine retCT rfl rfl agg27 (hb58) rfl (v := .bool _) rfl ?_
    exact ⟨eR (eT2 (eA (eC (eS (by unfold impl_decode; rw [if_neg (ne_true_of_eq_false h48)] <;> rfl)) (eC (eS (by unfold impl_decode; rw [if_neg (ne_true_of_eq_false h48)] <;> rfl)) rfl))) (eB (by unfold impl_decode; rw [if_neg (ne_true_of_eq_false h48)] <;> rfl))), hB60⟩

open Classical in
noncomputable def spec_l33Read (s : List UInt8) (k : Int) : LogRecord × Bool :=
  if (((gt (splitB (35 : UInt8) s) 0).length : Int) < (((Lib.itoa k) ++ ([32] : List UInt8)).length : Int)) ∨ (¬ (((gt (splitB (35 : UInt8) s) 0).take ((((Lib.itoa k) ++ ([32] : List UInt8)).length : Int).toNat)) = ((Lib.itoa k) ++ ([32] : List UInt8)))) then ((⟨([] : List UInt8), ([] : List UInt8)⟩ : LogRecord), false) else if ((gt (splitB (64 : UInt8) ((gt (splitB (35 : UInt8) s) 0).drop ((((Lib.itoa k) ++ ([32] : List UInt8)).length : Int).toNat))) 0).length : Int) = (((gt (splitB (35 : UInt8) s) 0).drop ((((Lib.itoa k) ++ ([32] : List UInt8)).length : Int).toNat)).length : Int) then ((⟨([] : List UInt8), ([] : List UInt8)⟩ : LogRecord), false) else ((⟨(gt (splitB (64 : UInt8) ((gt (splitB (35 : UInt8) s) 0).drop ((((Lib.itoa k) ++ ([32] : List UInt8)).length : Int).toNat))) 0), ((gt (splitB (35 : UInt8) s) 0).drop ((((Lib.itoa k) ++ ([32] : List UInt8)).length : Int).toNat)).drop ((((gt (splitB (64 : UInt8) ((gt (splitB (35 : UInt8) s) 0).drop ((((Lib.itoa k) ++ ([32] : List UInt8)).length : Int).toNat))) 0).length : Int) + 1).toNat)⟩ : LogRecord), decide ((RecOK (⟨(gt (splitB (64 : UInt8) ((gt (splitB (35 : UInt8) s) 0).drop ((((Lib.itoa k) ++ ([32] : List UInt8)).length : Int).toNat))) 0), ((gt (splitB (35 : UInt8) s) 0).drop ((((Lib.itoa k) ++ ([32] : List UInt8)).length : Int).toNat)).drop ((((gt (splitB (64 : UInt8) ((gt (splitB (35 : UInt8) s) 0).drop ((((Lib.itoa k) ++ ([32] : List UInt8)).length : Int).toNat))) 0).length : Int) + 1).toNat)⟩ : LogRecord)) ∧ ((lineB k (⟨(gt (splitB (64 : UInt8) ((gt (splitB (35 : UInt8) s) 0).drop ((((Lib.itoa k) ++ ([32] : List UInt8)).length : Int).toNat))) 0), ((gt (splitB (35 : UInt8) s) 0).drop ((((Lib.itoa k) ++ ([32] : List UInt8)).length : Int).toNat)).drop ((((gt (splitB (64 : UInt8) ((gt (splitB (35 : UInt8) s) 0).drop ((((Lib.itoa k) ++ ([32] : List UInt8)).length : Int).toNat))) 0).length : Int) + 1).toNat)⟩ : LogRecord)) = (s ++ ([10] : List UInt8)))))
theorem c_spec_l33Read (w : World) (s : List UInt8) (k : Int) (hp0 : (s.length : Int) ≤ 5000000) (hp1 : 0 ≤ k ∧ k ≤ 59) : Calls Tryd.prog 69 #[str s, .int .i64 k] w fun e w' => e = .returned (.tuple (List.toArray [.agg (List.toArray [str (((spec_l33Read s k).1).Command), str (((spec_l33Read s k).1).Reply)]), .bool ((spec_l33Read s k).2)])) ∧ Lo w w' := by
  refine calls_W 64 Tryd.func69 rfl rfl rfl ?_
  refine W.seq ?_
  refine W.regS (SR.alloc (l := [str ([] : List UInt8), str ([] : List UInt8)]) tz27 rfl ?_)
  intro g1 w2 hg3 hk4 hs5 hb6
  have hz7 := hk4.size
  have hB8 := (Lo.refl w).lo hk4
  refine SR.q' (r_as (v := .bool false) rfl) <| SR.nil ?_
  refine W.seq ?_
  refine W.regS (SR.q' (r_mv (v := .int .i64 _) rfl) <| SR.call ent65 (c_spec_l1Num w2 k (by omega)) rfl ?_)
  rintro e w9 ⟨rfl, hk10⟩
  refine ⟨_, rfl, ?_⟩
  have hz11 := hk10.size
  have hB12 := hB8.lo hk10
  have hq13 : (Lib.itoa k).length ≤ 21 := itoa_len (n := k) (by omega) (by omega)
  refine SR.q' (r_cat rfl rfl (by first | omega | (simp only [List.length_append, List.length_cons, List.length_nil, List.length_take, List.length_drop]; omega) | (simp only [List.length_append, List.length_cons, List.length_nil, List.length_take, List.length_drop] at *; omega))) <| SR.q' (r_as (v := str _) rfl) <| SR.nil ?_
  refine W.seq ?_
  refine W.regS (SR.q' (r_mv (v := str _) rfl) <| SR.call ent68 (c_spec_l1Split w9 s (35 : UInt8) (by first | omega | (simp only [List.length_append, List.length_cons, List.length_nil, List.length_take, List.length_drop]; omega))) rfl ?_)
  rintro e w14 ⟨A16, n17, c18, rfl, hO19, hk15⟩
  refine ⟨_, rfl, ?_⟩
  have hz20 := hk15.size
  have hB21 := hB12.lo hk15
  have hl22 := hO19.len
  have hl23 := hO19.rd.bound
  have hq24 := splitB_len (35 : UInt8) s
  have hx26 := ((hO19).rd).elem (i := 0) (by omega)
  have hq27 := splitB_gt (35 : UInt8) s
  refine SR.q' (r_ixR tsl85 ((hO19).rd) rfl rfl (by omega)) <| SR.q' (r_ld (v := str (gt (splitB (35 : UInt8) s) 0)) sca9 rfl (((hO19).rd).cell0 hx26 rfl)) <| SR.q' (r_as (v := str _) rfl) <| SR.nil ?_
  refine W.seq ?_
  refine W.seq ?_
  refine W.regJS (fun f' w' => At f' [(0, str s), (1, .int .i64 k), (4, .pointer (some ((⟨g1, 0, none⟩ : Addr)))), (5, .bool false), (6, str ((Lib.itoa k) ++ ([32] : List UInt8))), (7, str (gt (splitB (35 : UInt8) s) 0)), (30, .bool (decide ((((gt (splitB (35 : UInt8) s) 0).length : Int) < (((Lib.itoa k) ++ ([32] : List UInt8)).length : Int)) ∨ (¬ (((gt (splitB (35 : UInt8) s) 0).take ((((Lib.itoa k) ++ ([32] : List UInt8)).length : Int).toNat)) = ((Lib.itoa k) ++ ([32] : List UInt8)))))))] ∧ Lo w14 w') ?_ ?_
  · refine SR.q' (r_mv (v := str _) rfl) <| SR.q' (r_len_s und9 rfl) <| SR.q' (r_mv (v := str _) rfl) <| SR.q' (r_len_s und9 rfl) <| SR.q' (r_lt rfl rfl) <| SR.q' (r_mv (v := .bool _) rfl) <| SR.splitD (fun h28 => ?_) (fun h28 => ?_)
    · refine SR.s' rfl <| SR.s' rfl <| SR.s' rfl <| SR.s' rfl <| SR.s' rfl <| SR.s' rfl <| SR.q' (r_pick true rfl (v := .bool true) rfl) <| SR.nil ?_
      exact ⟨_, rfl, ⟨⟨rfl, rfl, rfl, rfl, rfl, rfl, (eDT ((jot h28).1 trivial)), trivial⟩, (Lo.refl _)⟩⟩
    · refine SR.g' rfl (r_mv (v := str _) rfl) <| SR.g' rfl (r_mv (v := str _) rfl) <| SR.g' rfl (r_len_s und9 rfl) <| SR.g' rfl (r_cuthS (h := (((Lib.itoa k) ++ ([32] : List UInt8)).length : Int).toNat) und9 rfl rfl (by omega) (by first | omega | (simp only [List.length_append, List.length_cons, List.length_nil, List.length_take, List.length_drop]; omega) | (simp only [List.length_append, List.length_cons, List.length_nil, List.length_take, List.length_drop] at *; omega))) <| SR.g' rfl (r_mv (v := str _) rfl) <| SR.g' rfl (r_nes (s := (gt (splitB (35 : UInt8) s) 0).take ((((Lib.itoa k) ++ ([32] : List UInt8)).length : Int).toNat)) (r := (Lib.itoa k) ++ ([32] : List UInt8)) rfl rfl) <| SR.q' (r_pick false rfl (v := .bool _) rfl) <| SR.nil ?_
      exact ⟨_, rfl, ⟨⟨rfl, rfl, rfl, rfl, rfl, rfl, (eND (jof h28)), trivial⟩, (Lo.refl _)⟩⟩
  rintro f29 w30 ⟨hat31, hk32⟩
  rw [← sets_of_at hat31]
  have hz33 := hk32.size
  have hB34 := hB21.lo hk32
  refine W.cond_d rfl (fun h35 => ?_) (fun h35 => ?_)
  · refine W.seq ?_
    refine W.regS (SR.q' (r_build (vs := []) rfl (bld27_)) <| SR.store (o := 0) (vs := [str ([] : List UInt8), str ([] : List UInt8)]) agg27.2 rfl rfl rfl rfl ((((hb6).lo hk10).lo hk15).lo hk32) (Nat.le_of_ble_eq_true rfl) rfl ?_)
    intro w36 hk37 hs38 hb39
    have hz40 := hk37.size
    have hB41 := hB34.new hk37 (by omega)
    refine SR.q' (r_as (v := .bool false) rfl) <| SR.nil ?_
    refine W.ret ?_
    refine retCT rfl rfl agg27 (hb39) rfl (v := .bool _) rfl ?_
    exact ⟨eR (eT2 (eA (eC (eS (by unfold spec_l33Read; rw [if_pos h35] <;> rfl)) (eC (eS (by unfold spec_l33Read; rw [if_pos h35] <;> rfl)) rfl))) (eB (by unfold spec_l33Read; rw [if_pos h35] <;> rfl))), hB41⟩
  · have hq42 : ¬ (((gt (splitB (35 : UInt8) s) 0).length : Int) < (((Lib.itoa k) ++ ([32] : List UInt8)).length : Int)) := (not_or.1 h35).1
    have hq43 : ((gt (splitB (35 : UInt8) s) 0).take ((((Lib.itoa k) ++ ([32] : List UInt8)).length : Int).toNat)) = ((Lib.itoa k) ++ ([32] : List UInt8)) := (Classical.not_not.1 (not_or.1 h35).2)
    refine W.skip ?_
    refine W.seq ?_
    refine W.regS (SR.q' (r_mv (v := str _) rfl) <| SR.q' (r_mv (v := str _) rfl) <| SR.q' (r_len_s und9 rfl) <| SR.q' (r_cutlS (l := (((Lib.itoa k) ++ ([32] : List UInt8)).length : Int).toNat) und9 rfl rfl (by omega) (by first | omega | (simp only [List.length_append, List.length_cons, List.length_nil, List.length_take, List.length_drop]; omega) | (simp only [List.length_append, List.length_cons, List.length_nil, List.length_take, List.length_drop] at *; omega))) <| SR.q' (r_as (v := str _) rfl) <| SR.nil ?_)
    refine W.seq ?_
    refine W.regS (SR.q' (r_mv (v := str _) rfl) <| SR.call ent68 (c_spec_l1Split w30 ((gt (splitB (35 : UInt8) s) 0).drop ((((Lib.itoa k) ++ ([32] : List UInt8)).length : Int).toNat)) (64 : UInt8) (by first | omega | (simp only [List.length_append, List.length_cons, List.length_nil, List.length_take, List.length_drop]; omega))) rfl ?_)
    rintro e w44 ⟨A46, n47, c48, rfl, hO49, hk45⟩
    refine ⟨_, rfl, ?_⟩
    have hz50 := hk45.size
    have hB51 := hB34.lo hk45
    have hl52 := hO49.len
    have hl53 := hO49.rd.bound
    have hq54 := splitB_len (64 : UInt8) ((gt (splitB (35 : UInt8) s) 0).drop ((((Lib.itoa k) ++ ([32] : List UInt8)).length : Int).toNat))
    have hx56 := ((hO49).rd).elem (i := 0) (by omega)
    have hq57 := splitB_gt (64 : UInt8) ((gt (splitB (35 : UInt8) s) 0).drop ((((Lib.itoa k) ++ ([32] : List UInt8)).length : Int).toNat))
    have hq58 : ((gt (splitB (35 : UInt8) s) 0).drop ((((Lib.itoa k) ++ ([32] : List UInt8)).length : Int).toNat)).length ≤ (gt (splitB (35 : UInt8) s) 0).length := by rw [List.length_drop]; omega
    refine SR.q' (r_ixR tsl85 ((hO49).rd) rfl rfl (by omega)) <| SR.q' (r_ld (v := str (gt (splitB (64 : UInt8) ((gt (splitB (35 : UInt8) s) 0).drop ((((Lib.itoa k) ++ ([32] : List UInt8)).length : Int).toNat))) 0)) sca9 rfl (((hO49).rd).cell0 hx56 rfl)) <| SR.q' (r_as (v := str _) rfl) <| SR.nil ?_
    refine W.seq ?_
    refine W.seq ?_
    refine W.regS (SR.q' (r_mv (v := str _) rfl) <| SR.q' (r_len_s und9 rfl) <| SR.q' (r_mv (v := str _) rfl) <| SR.q' (r_len_s und9 rfl) <| SR.q' (r_eq rfl rfl) <| SR.nil ?_)
    refine W.cond_d rfl (fun h59 => ?_) (fun h59 => ?_)
    · refine W.seq ?_
      refine W.regS (SR.q' (r_build (vs := []) rfl (bld27_)) <| SR.store (o := 0) (vs := [str ([] : List UInt8), str ([] : List UInt8)]) agg27.2 rfl rfl rfl rfl (((((hb6).lo hk10).lo hk15).lo hk32).lo hk45) (Nat.le_of_ble_eq_true rfl) rfl ?_)
      intro w60 hk61 hs62 hb63
      have hz64 := hk61.size
      have hB65 := hB51.new hk61 (by omega)
      refine SR.q' (r_as (v := .bool false) rfl) <| SR.nil ?_
      refine W.ret ?_
      refine retCT rfl rfl agg27 (hb63) rfl (v := .bool _) rfl ?_
      exact ⟨eR (eT2 (eA (eC (eS (by unfold spec_l33Read; rw [if_neg h35, if_pos h59] <;> rfl)) (eC (eS (by unfold spec_l33Read; rw [if_neg h35, if_pos h59] <;> rfl)) rfl))) (eB (by unfold spec_l33Read; rw [if_neg h35, if_pos h59] <;> rfl))), hB65⟩
    · refine W.skip ?_
      refine W.seq ?_
      refine W.regS (SR.q' (r_mv (v := str _) rfl) <| SR.q' (r_mv (v := str _) rfl) <| SR.q' (r_mv (v := str _) rfl) <| SR.q' (r_len_s und9 rfl) <| SR.q' (r_add rfl rfl (by omega)) <| SR.q' (r_cutlS (l := (((gt (splitB (64 : UInt8) ((gt (splitB (35 : UInt8) s) 0).drop ((((Lib.itoa k) ++ ([32] : List UInt8)).length : Int).toNat))) 0).length : Int) + 1).toNat) und9 rfl rfl (by omega) (by first | omega | (simp only [List.length_append, List.length_cons, List.length_nil, List.length_take, List.length_drop]; omega) | (simp only [List.length_append, List.length_cons, List.length_nil, List.length_take, List.length_drop] at *; omega))) <| SR.q' (r_build (vs := [(0, str (gt (splitB (64 : UInt8) ((gt (splitB (35 : UInt8) s) 0).drop ((((Lib.itoa k) ++ ([32] : List UInt8)).length : Int).toNat))) 0)), (1, str (((gt (splitB (35 : UInt8) s) 0).drop ((((Lib.itoa k) ++ ([32] : List UInt8)).length : Int).toNat)).drop ((((gt (splitB (64 : UInt8) ((gt (splitB (35 : UInt8) s) 0).drop ((((Lib.itoa k) ++ ([32] : List UInt8)).length : Int).toNat))) 0).length : Int) + 1).toNat)))]) rfl (bld27_0_1 _ _)) <| SR.alloc (l := [str ([] : List UInt8), str ([] : List UInt8)]) tz27 rfl ?_)
      intro g66 w67 hg68 hk69 hs70 hb71
      have hz72 := hk69.size
      have hB73 := hB51.lo hk69
      have hd74 : ¬ A16 = some ⟨g66, 0, none⟩ := fun e' => by have := (((hO19).lo hk32).lo hk45).base_le e'; omega
      have hd75 : ¬ A46 = some ⟨g66, 0, none⟩ := fun e' => by have := (hO49).base_le e'; omega
      refine SR.store (o := 0) (vs := [str (gt (splitB (64 : UInt8) ((gt (splitB (35 : UInt8) s) 0).drop ((((Lib.itoa k) ++ ([32] : List UInt8)).length : Int).toNat))) 0), str (((gt (splitB (35 : UInt8) s) 0).drop ((((Lib.itoa k) ++ ([32] : List UInt8)).length : Int).toNat)).drop ((((gt (splitB (64 : UInt8) ((gt (splitB (35 : UInt8) s) 0).drop ((((Lib.itoa k) ++ ([32] : List UInt8)).length : Int).toNat))) 0).length : Int) + 1).toNat))]) agg27.2 rfl rfl rfl rfl (hb71) (Nat.le_of_ble_eq_true rfl) rfl ?_
      intro w76 hk77 hs78 hb79
      have hz80 := hk77.size
      have hB81 := hB73.new hk77 (by omega)
      refine SR.nil ?_
      refine W.seq ?_
      refine W.regA (Kp (fun b_ => b_ = g1) w76) (fun f' w' => At f' [(4, .pointer (some ((⟨g1, 0, none⟩ : Addr)))), (5, .bool (decide ((RecOK (⟨(gt (splitB (64 : UInt8) ((gt (splitB (35 : UInt8) s) 0).drop ((((Lib.itoa k) ++ ([32] : List UInt8)).length : Int).toNat))) 0), ((gt (splitB (35 : UInt8) s) 0).drop ((((Lib.itoa k) ++ ([32] : List UInt8)).length : Int).toNat)).drop ((((gt (splitB (64 : UInt8) ((gt (splitB (35 : UInt8) s) 0).drop ((((Lib.itoa k) ++ ([32] : List UInt8)).length : Int).toNat))) 0).length : Int) + 1).toNat)⟩ : LogRecord)) ∧ ((lineB k (⟨(gt (splitB (64 : UInt8) ((gt (splitB (35 : UInt8) s) 0).drop ((((Lib.itoa k) ++ ([32] : List UInt8)).length : Int).toNat))) 0), ((gt (splitB (35 : UInt8) s) 0).drop ((((Lib.itoa k) ++ ([32] : List UInt8)).length : Int).toNat)).drop ((((gt (splitB (64 : UInt8) ((gt (splitB (35 : UInt8) s) 0).drop ((((Lib.itoa k) ++ ([32] : List UInt8)).length : Int).toNat))) 0).length : Int) + 1).toNat)⟩ : LogRecord)) = (s ++ ([10] : List UInt8))))))] ∧ (Kp (fun b_ => b_ = g1) w76 w') ∧ (Blk w' g1 27 [str (gt (splitB (64 : UInt8) ((gt (splitB (35 : UInt8) s) 0).drop ((((Lib.itoa k) ++ ([32] : List UInt8)).length : Int).toNat))) 0), str (((gt (splitB (35 : UInt8) s) 0).drop ((((Lib.itoa k) ++ ([32] : List UInt8)).length : Int).toNat)).drop ((((gt (splitB (64 : UInt8) ((gt (splitB (35 : UInt8) s) 0).drop ((((Lib.itoa k) ++ ([32] : List UInt8)).length : Int).toNat))) 0).length : Int) + 1).toNat))])) mo ?_ ?_
      · intro w103 hk104
        have hz105 := hk104.size
        have hB106 := hB81.lo hk104
        refine AH.take 0 rfl (by kernel_rfl) trivial ((Kp.refl w76 : Kp (fun b_ => b_ = g1) w76 w76).lo hk104) (fun w' hw' => r_lda (l := [str (gt (splitB (64 : UInt8) ((gt (splitB (35 : UInt8) s) 0).drop ((((Lib.itoa k) ++ ([32] : List UInt8)).length : Int).toNat))) 0), str (((gt (splitB (35 : UInt8) s) 0).drop ((((Lib.itoa k) ++ ([32] : List UInt8)).length : Int).toNat)).drop ((((gt (splitB (64 : UInt8) ((gt (splitB (35 : UInt8) s) 0).drop ((((Lib.itoa k) ++ ([32] : List UInt8)).length : Int).toNat))) 0).length : Int) + 1).toNat))]) agg27 rfl (fun _ _ hu => ((hb79).kp hw' (fun e' => by have e'' : g66 = g1 := e'; omega)).cell hu) rfl) <| AH.take 1 rfl (by kernel_rfl) trivial ((Kp.refl w76 : Kp (fun b_ => b_ = g1) w76 w76).lo hk104) (fun w' hw' => r_lda (l := [str (gt (splitB (64 : UInt8) ((gt (splitB (35 : UInt8) s) 0).drop ((((Lib.itoa k) ++ ([32] : List UInt8)).length : Int).toNat))) 0), str (((gt (splitB (35 : UInt8) s) 0).drop ((((Lib.itoa k) ++ ([32] : List UInt8)).length : Int).toNat)).drop ((((gt (splitB (64 : UInt8) ((gt (splitB (35 : UInt8) s) 0).drop ((((Lib.itoa k) ++ ([32] : List UInt8)).length : Int).toNat))) 0).length : Int) + 1).toNat))]) agg27 rfl (fun _ _ hu => ((hb79).kp hw' (fun e' => by have e'' : g66 = g1 := e'; omega)).cell hu) rfl) <| AH.br [2] (by kernel_rfl) rfl ⟨Br.mk' rfl trivial ?_, trivial⟩
        refine SR.call ent43 (c_spec_l33Good w103 (⟨(gt (splitB (64 : UInt8) ((gt (splitB (35 : UInt8) s) 0).drop ((((Lib.itoa k) ++ ([32] : List UInt8)).length : Int).toNat))) 0), ((gt (splitB (35 : UInt8) s) 0).drop ((((Lib.itoa k) ++ ([32] : List UInt8)).length : Int).toNat)).drop ((((gt (splitB (64 : UInt8) ((gt (splitB (35 : UInt8) s) 0).drop ((((Lib.itoa k) ++ ([32] : List UInt8)).length : Int).toNat))) 0).length : Int) + 1).toNat)⟩ : LogRecord) (by first | omega | (dsimp only; omega) | (dsimp only; simp only [List.length_drop]; omega))) rfl ?_
        rintro e w107 ⟨rfl, hk108⟩
        refine ⟨_, rfl, ?_⟩
        have hz109 := hk108.size
        have hB110 := hB106.lo hk108
        have hS111 := ((Kp.refl w76 : Kp (fun b_ => b_ = g1) w76 w76).lo hk104).lo hk108
        refine SR.nil ⟨hS111, _, rfl, ?_⟩
        refine AH.take 3 rfl (by kernel_rfl) trivial (hS111) (fun w' hw' => r_mv (v := .bool _) rfl) <| AH.splitD (fun h112 => ?_) (fun h112 => ?_)
        · refine AH.take 4 rfl (by kernel_rfl) rfl (hS111) (fun w' hw' => r_mv (v := .int .i64 _) rfl) <| AH.take 5 rfl (by kernel_rfl) rfl (hS111) (fun w' hw' => r_lda (l := [str (gt (splitB (64 : UInt8) ((gt (splitB (35 : UInt8) s) 0).drop ((((Lib.itoa k) ++ ([32] : List UInt8)).length : Int).toNat))) 0), str (((gt (splitB (35 : UInt8) s) 0).drop ((((Lib.itoa k) ++ ([32] : List UInt8)).length : Int).toNat)).drop ((((gt (splitB (64 : UInt8) ((gt (splitB (35 : UInt8) s) 0).drop ((((Lib.itoa k) ++ ([32] : List UInt8)).length : Int).toNat))) 0).length : Int) + 1).toNat))]) agg27 rfl (fun _ _ hu => ((hb79).kp hw' (fun e' => by have e'' : g66 = g1 := e'; omega)).cell hu) rfl) <| AH.take 7 rfl (by kernel_rfl) rfl (hS111) (fun w' hw' => r_mv (v := str _) rfl) <| AH.take 8 rfl (by kernel_rfl) rfl (hS111) (fun w' hw' => r_cat rfl rfl (by first | omega | (simp only [List.length_append, List.length_cons, List.length_nil, List.length_take, List.length_drop]; omega) | (simp only [List.length_append, List.length_cons, List.length_nil, List.length_take, List.length_drop] at *; omega))) <| AH.br [6] (by kernel_rfl) rfl ⟨Br.mk' rfl rfl ?_, trivial⟩
          refine SR.gcall rfl ent44 (c_spec_l33Line w107 k (⟨(gt (splitB (64 : UInt8) ((gt (splitB (35 : UInt8) s) 0).drop ((((Lib.itoa k) ++ ([32] : List UInt8)).length : Int).toNat))) 0), ((gt (splitB (35 : UInt8) s) 0).drop ((((Lib.itoa k) ++ ([32] : List UInt8)).length : Int).toNat)).drop ((((gt (splitB (64 : UInt8) ((gt (splitB (35 : UInt8) s) 0).drop ((((Lib.itoa k) ++ ([32] : List UInt8)).length : Int).toNat))) 0).length : Int) + 1).toNat)⟩ : LogRecord) (by omega) (by first | omega | (dsimp only; omega) | (dsimp only; simp only [List.length_drop]; omega))) rfl ?_
          rintro e w113 ⟨rfl, hk114⟩
          refine ⟨_, rfl, ?_⟩
          have hz115 := hk114.size
          have hB116 := hB110.lo hk114
          have hS117 := (hS111).lo hk114
          have hq118 : (lineB k (⟨(gt (splitB (64 : UInt8) ((gt (splitB (35 : UInt8) s) 0).drop ((((Lib.itoa k) ++ ([32] : List UInt8)).length : Int).toNat))) 0), ((gt (splitB (35 : UInt8) s) 0).drop ((((Lib.itoa k) ++ ([32] : List UInt8)).length : Int).toNat)).drop ((((gt (splitB (64 : UInt8) ((gt (splitB (35 : UInt8) s) 0).drop ((((Lib.itoa k) ++ ([32] : List UInt8)).length : Int).toNat))) 0).length : Int) + 1).toNat)⟩ : LogRecord)).length ≤ (⟨(gt (splitB (64 : UInt8) ((gt (splitB (35 : UInt8) s) 0).drop ((((Lib.itoa k) ++ ([32] : List UInt8)).length : Int).toNat))) 0), ((gt (splitB (35 : UInt8) s) 0).drop ((((Lib.itoa k) ++ ([32] : List UInt8)).length : Int).toNat)).drop ((((gt (splitB (64 : UInt8) ((gt (splitB (35 : UInt8) s) 0).drop ((((Lib.itoa k) ++ ([32] : List UInt8)).length : Int).toNat))) 0).length : Int) + 1).toNat)⟩ : LogRecord).Command.length + (⟨(gt (splitB (64 : UInt8) ((gt (splitB (35 : UInt8) s) 0).drop ((((Lib.itoa k) ++ ([32] : List UInt8)).length : Int).toNat))) 0), ((gt (splitB (35 : UInt8) s) 0).drop ((((Lib.itoa k) ++ ([32] : List UInt8)).length : Int).toNat)).drop ((((gt (splitB (64 : UInt8) ((gt (splitB (35 : UInt8) s) 0).drop ((((Lib.itoa k) ++ ([32] : List UInt8)).length : Int).toNat))) 0).length : Int) + 1).toNat)⟩ : LogRecord).Reply.length + 46 := line_lenG (k := k) (e := (⟨(gt (splitB (64 : UInt8) ((gt (splitB (35 : UInt8) s) 0).drop ((((Lib.itoa k) ++ ([32] : List UInt8)).length : Int).toNat))) 0), ((gt (splitB (35 : UInt8) s) 0).drop ((((Lib.itoa k) ++ ([32] : List UInt8)).length : Int).toNat)).drop ((((gt (splitB (64 : UInt8) ((gt (splitB (35 : UInt8) s) 0).drop ((((Lib.itoa k) ++ ([32] : List UInt8)).length : Int).toNat))) 0).length : Int) + 1).toNat)⟩ : LogRecord)) (by omega)
          refine SR.nil ⟨hS117, _, rfl, ?_⟩
          refine AH.take 9 rfl (by kernel_rfl) rfl (hS117) (fun w' hw' => r_eqs (s := lineB k (⟨(gt (splitB (64 : UInt8) ((gt (splitB (35 : UInt8) s) 0).drop ((((Lib.itoa k) ++ ([32] : List UInt8)).length : Int).toNat))) 0), ((gt (splitB (35 : UInt8) s) 0).drop ((((Lib.itoa k) ++ ([32] : List UInt8)).length : Int).toNat)).drop ((((gt (splitB (64 : UInt8) ((gt (splitB (35 : UInt8) s) 0).drop ((((Lib.itoa k) ++ ([32] : List UInt8)).length : Int).toNat))) 0).length : Int) + 1).toNat)⟩ : LogRecord)) (r := s ++ ([10] : List UInt8)) rfl rfl) <| AH.take 10 rfl (by kernel_rfl) trivial (hS117) (fun w' hw' => r_pick true rfl (v := .bool _) rfl) <| AH.br [11] (by kernel_rfl) rfl ⟨Br.mk' rfl trivial ?_, trivial⟩
          refine SR.store (o := 0) (vs := [str (gt (splitB (64 : UInt8) ((gt (splitB (35 : UInt8) s) 0).drop ((((Lib.itoa k) ++ ([32] : List UInt8)).length : Int).toNat))) 0), str (((gt (splitB (35 : UInt8) s) 0).drop ((((Lib.itoa k) ++ ([32] : List UInt8)).length : Int).toNat)).drop ((((gt (splitB (64 : UInt8) ((gt (splitB (35 : UInt8) s) 0).drop ((((Lib.itoa k) ++ ([32] : List UInt8)).length : Int).toNat))) 0).length : Int) + 1).toNat))]) agg27.2 rfl rfl rfl rfl ((((((((((hb6).lo hk10).lo hk15).lo hk32).lo hk45).lo hk69).kp hk77 (fun e' => by have e'' : g1 = g66 := e'; omega)).lo hk104).lo hk108).lo hk114) (Nat.le_of_ble_eq_true rfl) rfl ?_
          intro w119 hk120 hs121 hb122
          have hz123 := hk120.size
          have hB124 := hB116.new hk120 (by omega)
          have hS125 := (hS117).step hk120 (fun _ _ e => e)
          refine SR.nil ⟨hS125, _, rfl, ?_⟩
          refine AH.take 12 rfl (by kernel_rfl) trivial (hS125) (fun w' hw' => r_as (v := .bool _) rfl) <| AH.done (by kernel_rfl) ?_
          exact ⟨⟨rfl, (eDD (jat h112)), trivial⟩, hS125, (hb122)⟩
        · refine AH.s' 4 rfl (by kernel_rfl) rfl (hS111) <| AH.s' 5 rfl (by kernel_rfl) rfl (hS111) <| AH.s' 6 rfl (by kernel_rfl) rfl (hS111) <| AH.s' 7 rfl (by kernel_rfl) rfl (hS111) <| AH.s' 8 rfl (by kernel_rfl) rfl (hS111) <| AH.s' 9 rfl (by kernel_rfl) rfl (hS111) <| AH.take 10 rfl (by kernel_rfl) trivial (hS111) (fun w' hw' => r_pick false rfl (v := .bool false) rfl) <| AH.br [11] (by kernel_rfl) rfl ⟨Br.mk' rfl trivial ?_, trivial⟩
          refine SR.store (o := 0) (vs := [str (gt (splitB (64 : UInt8) ((gt (splitB (35 : UInt8) s) 0).drop ((((Lib.itoa k) ++ ([32] : List UInt8)).length : Int).toNat))) 0), str (((gt (splitB (35 : UInt8) s) 0).drop ((((Lib.itoa k) ++ ([32] : List UInt8)).length : Int).toNat)).drop ((((gt (splitB (64 : UInt8) ((gt (splitB (35 : UInt8) s) 0).drop ((((Lib.itoa k) ++ ([32] : List UInt8)).length : Int).toNat))) 0).length : Int) + 1).toNat))]) agg27.2 rfl rfl rfl rfl (((((((((hb6).lo hk10).lo hk15).lo hk32).lo hk45).lo hk69).kp hk77 (fun e' => by have e'' : g1 = g66 := e'; omega)).lo hk104).lo hk108) (Nat.le_of_ble_eq_true rfl) rfl ?_
          intro w127 hk128 hs129 hb130
          have hz131 := hk128.size
          have hB132 := hB110.new hk128 (by omega)
          have hS133 := (hS111).step hk128 (fun _ _ e => e)
          refine SR.nil ⟨hS133, _, rfl, ?_⟩
          refine AH.take 12 rfl (by kernel_rfl) trivial (hS133) (fun w' hw' => r_as (v := .bool _) rfl) <| AH.done (by kernel_rfl) ?_
          exact ⟨⟨rfl, (eDF (jaf h112).2), trivial⟩, hS133, (hb130)⟩
      rintro f134 w135 ⟨hat137, hR136, hm126⟩
      rw [← sets_of_at hat137]
      have hz138 := hR136.size
      have hB139 := hB81.new hR136 (by omega)
      refine W.ret ?_
      refine retCT rfl rfl agg27 (hm126) rfl (v := .bool _) rfl ?_
      exact ⟨eR (eT2 (eA (eC (eS (by unfold spec_l33Read; rw [if_neg h35, if_neg h59] <;> rfl)) (eC (eS (by unfold spec_l33Read; rw [if_neg h35, if_neg h59] <;> rfl)) rfl))) (eB (by unfold spec_l33Read; rw [if_neg h35, if_neg h59] <;> rfl))), hB139⟩
end Go.Proofs.YthlbmkpkgiabnaaDoor
