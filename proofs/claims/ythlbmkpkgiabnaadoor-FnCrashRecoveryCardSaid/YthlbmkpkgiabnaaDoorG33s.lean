/- Walks, printed by a program of this claim's author. -/
import Derived.Test.YthlbmkpkgiabnaaDoorChecked
import Derived.Test.YthlbmkpkgiabnaaDoorWb
import Derived.Test.YthlbmkpkgiabnaaDoorFt
import Derived.Test.YthlbmkpkgiabnaaDoorSi
import Derived.Test.YthlbmkpkgiabnaaDoorWe
import Derived.Test.YthlbmkpkgiabnaaDoorG33r
namespace Go.Proofs.YthlbmkpkgiabnaaDoor
open Go Go.RowKit Fw
set_option maxRecDepth 10000
set_option linter.unusedVariables false
theorem ent69 : Ent Tryd.prog 69 := ent_of Tryd.func69 (by decide +kernel) rfl
theorem ent71 : Ent Tryd.prog 71 := ent_of Tryd.func71 (by decide +kernel) rfl
theorem tel48 : TEl Tryd.prog 48 27 (.agg (List.toArray [str ([] : List UInt8), str ([] : List UInt8)])) 2 32 := ⟨by kernel_rfl, by kernel_rfl, rfl, by decide⟩
theorem und48 : Tryd.prog.underlying 48 = some (.slice 27) := by kernel_rfl
theorem und85 : Tryd.prog.underlying 85 = some (.slice 9) := by kernel_rfl

theorem z_c_impl_recovered_2 (s : List UInt8) (hp0 : (s.length : Int) ≤ 5000000) : OpTo s ([] : List LogRecord) 0 := by
  exact OpTo.zero
theorem z_c_impl_recovered_3 (s : List UInt8) (hp0 : (s.length : Int) ≤ 5000000) : ([] : List LogRecord) = ([] : List LogRecord) := by
  rfl
theorem z_c_impl_recovered_47 (s : List UInt8) (hp0 : (s.length : Int) ≤ 5000000) (R : List LogRecord) (r : Nat) (n1 : Nat) (c1 : Nat) (hi9 : OpTo s R r) (hl10 : n1 = (R).length) (hq12 : R.length ≤ 60 ∧ r ≤ s.length) (hq13 : (s.drop r).length ≤ s.length) (h14 : (n1 : Int) < 60) (hq19 : (Lib.cut (s.drop r) ([10] : List UInt8)).1.length ≤ (s.drop r).length ∧ (Lib.cut (s.drop r) ([10] : List UInt8)).2.1.length ≤ (s.drop r).length) (h46 : ((!((Lib.cut (s.drop r) ([10] : List UInt8)).2.2)) = true) ∨ ((!((impl_decode (n1 : Int) ((Lib.cut (s.drop r) ([10] : List UInt8)).1)).2)) = true)) : R = (opN s).1 := by
  have hn := ‹_ = R.length›; subst hn; rw [OpTo.stop ‹OpTo s R r› (by first | exact .inl (by omega) | exact .inr (rec_noI ‹_ ∨ _›))]
theorem z_c_impl_recovered_48 (s : List UInt8) (hp0 : (s.length : Int) ≤ 5000000) (R : List LogRecord) (r : Nat) (n1 : Nat) (c1 : Nat) (hi9 : OpTo s R r) (hl10 : n1 = (R).length) (hq12 : R.length ≤ 60 ∧ r ≤ s.length) (hq13 : (s.drop r).length ≤ s.length) (h14 : (n1 : Int) < 60) (hq19 : (Lib.cut (s.drop r) ([10] : List UInt8)).1.length ≤ (s.drop r).length ∧ (Lib.cut (s.drop r) ([10] : List UInt8)).2.1.length ≤ (s.drop r).length) (h46 : ((!((Lib.cut (s.drop r) ([10] : List UInt8)).2.2)) = true) ∨ ((!((impl_decode (n1 : Int) ((Lib.cut (s.drop r) ([10] : List UInt8)).1)).2)) = true)) : (r : Int) = ((opN s).2 : Int) := by
  have hn := ‹_ = R.length›; subst hn; rw [OpTo.stop ‹OpTo s R r› (by first | exact .inl (by omega) | exact .inr (rec_noI ‹_ ∨ _›))]
theorem z_c_impl_recovered_69 (s : List UInt8) (hp0 : (s.length : Int) ≤ 5000000) (R : List LogRecord) (r : Nat) (n1 : Nat) (c1 : Nat) (hi9 : OpTo s R r) (hl10 : n1 = (R).length) (hq12 : R.length ≤ 60 ∧ r ≤ s.length) (hq13 : (s.drop r).length ≤ s.length) (h14 : (n1 : Int) < 60) (hq19 : (Lib.cut (s.drop r) ([10] : List UInt8)).1.length ≤ (s.drop r).length ∧ (Lib.cut (s.drop r) ([10] : List UInt8)).2.1.length ≤ (s.drop r).length) (h46 : ¬ (((!((Lib.cut (s.drop r) ([10] : List UInt8)).2.2)) = true) ∨ ((!((impl_decode (n1 : Int) ((Lib.cut (s.drop r) ([10] : List UInt8)).1)).2)) = true))) (hq49 : ¬ ((!((Lib.cut (s.drop r) ([10] : List UInt8)).2.2)) = true)) (hq50 : ¬ ((!((impl_decode (n1 : Int) ((Lib.cut (s.drop r) ([10] : List UInt8)).1)).2)) = true)) : R ++ ([((impl_decode (n1 : Int) ((Lib.cut (s.drop r) ([10] : List UInt8)).1)).1)] : List LogRecord) = R ++ [rec1 R.length (s.drop r)] := by
  have hn := ‹_ = R.length›; subst hn; unfold rec1; rw [cut_line]
theorem z_c_impl_recovered_70 (s : List UInt8) (hp0 : (s.length : Int) ≤ 5000000) (R : List LogRecord) (r : Nat) (n1 : Nat) (c1 : Nat) (hi9 : OpTo s R r) (hl10 : n1 = (R).length) (hq12 : R.length ≤ 60 ∧ r ≤ s.length) (hq13 : (s.drop r).length ≤ s.length) (h14 : (n1 : Int) < 60) (hq19 : (Lib.cut (s.drop r) ([10] : List UInt8)).1.length ≤ (s.drop r).length ∧ (Lib.cut (s.drop r) ([10] : List UInt8)).2.1.length ≤ (s.drop r).length) (h46 : ¬ (((!((Lib.cut (s.drop r) ([10] : List UInt8)).2.2)) = true) ∨ ((!((impl_decode (n1 : Int) ((Lib.cut (s.drop r) ([10] : List UInt8)).1)).2)) = true))) (hq49 : ¬ ((!((Lib.cut (s.drop r) ([10] : List UInt8)).2.2)) = true)) (hq50 : ¬ ((!((impl_decode (n1 : Int) ((Lib.cut (s.drop r) ([10] : List UInt8)).1)).2)) = true)) : OpTo s (R ++ [rec1 R.length (s.drop r)]) (r + (befB (s.drop r) 10).length + 1) := by
  have hn := ‹_ = R.length›; subst hn; exact OpTo.next ‹OpTo s R r› (by omega) (rec_yesI ‹¬ (_ ∨ _)›)
theorem z_c_impl_recovered_71 (s : List UInt8) (hp0 : (s.length : Int) ≤ 5000000) (R : List LogRecord) (r : Nat) (n1 : Nat) (c1 : Nat) (hi9 : OpTo s R r) (hl10 : n1 = (R).length) (hq12 : R.length ≤ 60 ∧ r ≤ s.length) (hq13 : (s.drop r).length ≤ s.length) (h14 : (n1 : Int) < 60) (hq19 : (Lib.cut (s.drop r) ([10] : List UInt8)).1.length ≤ (s.drop r).length ∧ (Lib.cut (s.drop r) ([10] : List UInt8)).2.1.length ≤ (s.drop r).length) (h46 : ¬ (((!((Lib.cut (s.drop r) ([10] : List UInt8)).2.2)) = true) ∨ ((!((impl_decode (n1 : Int) ((Lib.cut (s.drop r) ([10] : List UInt8)).1)).2)) = true))) (hq49 : ¬ ((!((Lib.cut (s.drop r) ([10] : List UInt8)).2.2)) = true)) (hq50 : ¬ ((!((impl_decode (n1 : Int) ((Lib.cut (s.drop r) ([10] : List UInt8)).1)).2)) = true)) : 60 - (R ++ [rec1 R.length (s.drop r)]).length < 60 - R.length := by
  simp only [List.length_append, List.length_cons, List.length_nil]; omega
theorem z_c_impl_recovered_72 (s : List UInt8) (hp0 : (s.length : Int) ≤ 5000000) (R : List LogRecord) (r : Nat) (n1 : Nat) (c1 : Nat) (hi9 : OpTo s R r) (hl10 : n1 = (R).length) (hq12 : R.length ≤ 60 ∧ r ≤ s.length) (hq13 : (s.drop r).length ≤ s.length) (h14 : ¬ ((n1 : Int) < 60)) : R = (opN s).1 := by
  have hn := ‹_ = R.length›; subst hn; rw [OpTo.stop ‹OpTo s R r› (by first | exact .inl (by omega) | exact .inr (rec_noI ‹_ ∨ _›))]
theorem z_c_impl_recovered_73 (s : List UInt8) (hp0 : (s.length : Int) ≤ 5000000) (R : List LogRecord) (r : Nat) (n1 : Nat) (c1 : Nat) (hi9 : OpTo s R r) (hl10 : n1 = (R).length) (hq12 : R.length ≤ 60 ∧ r ≤ s.length) (hq13 : (s.drop r).length ≤ s.length) (h14 : ¬ ((n1 : Int) < 60)) : (r : Int) = ((opN s).2 : Int) := by
  have hn := ‹_ = R.length›; subst hn; rw [OpTo.stop ‹OpTo s R r› (by first | exact .inl (by omega) | exact .inr (rec_noI ‹_ ∨ _›))]
theorem c_impl_recovered (w : World) (s : List UInt8) (hp0 : (s.length : Int) ≤ 5000000) (hE : EnvW w) : Calls Tryd.prog 49 #[str s] w fun e w' => ∃ (A1' : Option Addr) (n1' c1' : Nat), e = .returned (.tuple (List.toArray [.slice A1' n1' c1', .int .i64 ((opN s).2 : Int)])) ∧ SlO w' w.heap.size encLogRecord 2 27 A1' n1' c1' ((opN s).1) ∧ Lo w w' := by
  refine calls_W 46 Tryd.func49 rfl rfl rfl ?_
  refine W.seq ?_
  refine W.regS (SR.q' (r_as (v := .slice none 0 0) rfl) <| SR.q' (r_as (v := .int .i64 0) rfl) <| SR.nil ?_)
  refine W.seq ?_
  refine W.regS (SR.q' (r_as (v := .slice none 0 0) rfl) <| SR.nil ?_)
  refine W.seq ?_
  refine W.regS (SR.q' (r_as (v := .int .i64 0) rfl) <| SR.nil ?_)
  refine W.seq ?_
  refine W.block ?_
  refine W.loop (σ := (List LogRecord) × Nat × (Option Addr) × Nat × Nat) (fun g => [(0, str s), (2, .slice none 0 0), (3, .int .i64 0), (4, .slice g.2.2.1 g.2.2.2.1 g.2.2.2.2), (5, .int .i64 (g.2.1 : Int))]) (fun g w' => (Lo w w') ∧ (SlO w' w.heap.size encLogRecord 2 27 g.2.2.1 g.2.2.2.1 g.2.2.2.2 g.1) ∧ (OpTo s g.1 g.2.1)) (fun g => 60 - g.1.length) (([] : List LogRecord), 0, (none : Option Addr), 0, 0) ?_ ?_ ?_
  · exact ⟨rfl, rfl, rfl, rfl, (eI (by first | (first | omega | rfl | (rw [cut_line]; omega)) | (dsimp only; (first | omega | rfl | (rw [cut_line]; omega))))), trivial⟩
  · exact ⟨(Lo.refl w), (SlO.eqv (SlO.nil (base := w.heap.size) (e := 27) (enc := encLogRecord) (fun _ => rfl) (Nat.le_refl _)) (z_c_impl_recovered_3 s hp0)), (z_c_impl_recovered_2 s hp0)⟩
  · rintro ⟨R, r, A1, n1, c1⟩ f4 w5 hP7
    obtain ⟨hB6, hO8, hi9⟩ : (Lo w w5) ∧ (SlO w5 w.heap.size encLogRecord 2 27 A1 n1 c1 R) ∧ (OpTo s R r) := hP7
    refine (?_ : W _ _ _ _ _ (act _ (sets f4 [(0, str s), (2, .slice none 0 0), (3, .int .i64 0), (4, .slice A1 n1 c1), (5, .int .i64 (r : Int))])) _)
    have hzw5 := hB6.size
    have hl10 := hO8.len
    have hl11 := hO8.rd.bound
    have hq12 : R.length ≤ 60 ∧ r ≤ s.length := hi9.rng
    have hq13 : (s.drop r).length ≤ s.length := (by rw [List.length_drop]; omega)
    refine W.seq ?_
    refine W.seq ?_
    refine W.regS (SR.q' (r_mv (v := .slice _ _ _) rfl) <| SR.q' (r_len und48 rfl) <| SR.q' (r_lt rfl rfl) <| SR.nil ?_)
    refine W.cond_d rfl (fun h14 => ?_) (fun h14 => ?_)
    · refine W.skip ?_
      refine W.block ?_
      refine W.seq ?_
      refine W.regS (SR.q' (r_mv (v := str _) rfl) <| SR.q' (r_mv (v := .int .i64 _) rfl) <| SR.q' (r_cutlS (l := r) und9 rfl rfl rfl (by first | omega | (simp only [List.length_append, List.length_cons, List.length_nil, List.length_take, List.length_drop]; omega) | (simp only [List.length_append, List.length_cons, List.length_nil, List.length_take, List.length_drop] at *; omega))) <| SR.call ent70 (c_strings_Cut w5 (s.drop r) ([10] : List UInt8) (by omega) (hE.lo (hB6))) rfl ?_)
      rintro e w15 ⟨rfl, hk16⟩
      refine ⟨_, rfl, ?_⟩
      have hz17 := hk16.size
      have hB18 := hB6.lo hk16
      have hq19 : (Lib.cut (s.drop r) ([10] : List UInt8)).1.length ≤ (s.drop r).length ∧ (Lib.cut (s.drop r) ([10] : List UInt8)).2.1.length ≤ (s.drop r).length := cut_len (s.drop r) ([10] : List UInt8)
      refine SR.q' (r_mv (v := .tuple (List.toArray _)) rfl) <| SR.q' (r_ext (v := str _) rfl rfl) <| SR.q' (r_ext (v := str _) rfl rfl) <| SR.q' (r_ext (v := .bool _) rfl rfl) <| SR.q' (r_as (v := str _) rfl) <| SR.q' (r_as (v := str _) rfl) <| SR.q' (r_as (v := .bool _) rfl) <| SR.nil ?_
      refine W.seq ?_
      refine W.regS (SR.q' (r_mv (v := .slice _ _ _) rfl) <| SR.q' (r_len und48 rfl) <| SR.q' (r_mv (v := str _) rfl) <| SR.call ent71 (c_impl_decode w15 (n1 : Int) ((Lib.cut (s.drop r) ([10] : List UInt8)).1) (by omega) (by first | omega | (simp only [List.length_append, List.length_cons, List.length_nil, List.length_take, List.length_drop]; omega)) (hE.lo (hB18))) rfl ?_)
      rintro e w20 ⟨rfl, hk21⟩
      refine ⟨_, rfl, ?_⟩
      have hz22 := hk21.size
      have hB23 := hB18.lo hk21
      refine SR.q' (r_mv (v := .tuple (List.toArray _)) rfl) <| SR.q' (r_ext (v := .agg (List.toArray _)) rfl rfl) <| SR.q' (r_ext (v := .bool _) rfl rfl) <| SR.alloc (l := [str ([] : List UInt8), str ([] : List UInt8)]) tz27 rfl ?_
      intro g24 w25 hg26 hk27 hs28 hb29
      have hz30 := hk27.size
      have hB31 := hB23.lo hk27
      have hd32 : ¬ A1 = some ⟨g24, 0, none⟩ := fun e' => by have := (((hO8).lo hk16).lo hk21).base_le e'; omega
      refine SR.store (o := 0) (vs := [str (((impl_decode (n1 : Int) ((Lib.cut (s.drop r) ([10] : List UInt8)).1)).1).Command), str (((impl_decode (n1 : Int) ((Lib.cut (s.drop r) ([10] : List UInt8)).1)).1).Reply)]) agg27.2 rfl rfl rfl rfl (hb29) (Nat.le_of_ble_eq_true rfl) rfl ?_
      intro w33 hk34 hs35 hb36
      have hz37 := hk34.size
      have hB38 := hB31.new hk34 (by omega)
      refine SR.q' (r_as (v := .bool _) rfl) <| SR.nil ?_
      refine W.seq ?_
      refine W.seq ?_
      refine W.regJS (fun f' w' => At f' [(0, str s), (2, .slice none 0 0), (3, .int .i64 0), (4, .slice A1 n1 c1), (5, .int .i64 (r : Int)), (6, str ((Lib.cut (s.drop r) ([10] : List UInt8)).1)), (9, .pointer (some ((⟨g24, 0, none⟩ : Addr)))), (34, .bool (decide (((!((Lib.cut (s.drop r) ([10] : List UInt8)).2.2)) = true) ∨ ((!((impl_decode (n1 : Int) ((Lib.cut (s.drop r) ([10] : List UInt8)).1)).2)) = true))))] ∧ Lo w33 w') ?_ ?_
      · refine SR.q' (r_mv (v := .bool _) rfl) <| SR.q' (r_not rfl) <| SR.q' (r_mv (v := .bool _) rfl) <| SR.split (fun h39 => ?_) (fun h39 => ?_)
        · refine SR.s' rfl <| SR.s' rfl <| SR.q' (r_pick true rfl (v := .bool true) rfl) <| SR.nil ?_
          exact ⟨_, rfl, ⟨⟨rfl, rfl, rfl, rfl, rfl, rfl, rfl, (eDT ((jot h39).1 trivial)), trivial⟩, (Lo.refl _)⟩⟩
        · refine SR.g' rfl (r_mv (v := .bool _) rfl) <| SR.g' rfl (r_not rfl) <| SR.q' (r_pick false rfl (v := .bool _) rfl) <| SR.nil ?_
          exact ⟨_, rfl, ⟨⟨rfl, rfl, rfl, rfl, rfl, rfl, rfl, (eBD (jof (ne_true_of_eq_false h39))), trivial⟩, (Lo.refl _)⟩⟩
      rintro f40 w41 ⟨hat42, hk43⟩
      rw [← sets_of_at hat42]
      have hz44 := hk43.size
      have hB45 := hB38.lo hk43
      refine W.cond_d rfl (fun h46 => ?_) (fun h46 => ?_)
      · refine W.exit (xin_out rfl (xin_here ?_))
        refine W.seq ?_
        refine W.regS (SR.q' (r_mv (v := .slice _ _ _) rfl) <| SR.q' (r_mv (v := .int .i64 _) rfl) <| SR.q' (r_as (v := .slice _ _ _) rfl) <| SR.q' (r_as (v := .int .i64 _) rfl) <| SR.nil ?_)
        refine W.ret ?_
        refine ret2 rfl (v := .slice _ _ _) (v' := .int .i64 _) rfl rfl ?_
        exact ⟨A1, n1, c1, eR (eT2 rfl (eI (z_c_impl_recovered_48 s hp0 R r n1 c1 hi9 hl10 hq12 hq13 h14 hq19 h46))), (SlO.eqv (((((((hO8).lo hk16).lo hk21).lo hk27).kp hk34 (fun b_ hb e' => hd32 (by have e'' : b_ = g24 := e'; rw [← e'']; exact hb))).lo hk43).down (by omega)) (z_c_impl_recovered_47 s hp0 R r n1 c1 hi9 hl10 hq12 hq13 h14 hq19 h46)), hB45⟩
      · have hq49 : ¬ ((!((Lib.cut (s.drop r) ([10] : List UInt8)).2.2)) = true) := (not_or.1 h46).1
        have hq50 : ¬ ((!((impl_decode (n1 : Int) ((Lib.cut (s.drop r) ([10] : List UInt8)).1)).2)) = true) := (not_or.1 h46).2
        refine W.skip ?_
        refine W.seq ?_
        refine W.regS (SR.q' (r_mv (v := .slice _ _ _) rfl) <| SR.q' (r_lda (l := [str (((impl_decode (n1 : Int) ((Lib.cut (s.drop r) ([10] : List UInt8)).1)).1).Command), str (((impl_decode (n1 : Int) ((Lib.cut (s.drop r) ([10] : List UInt8)).1)).1).Reply)]) agg27 rfl (fun _ _ hu => ((hb36).lo hk43).cell hu) rfl) <| SR.lit (vs := [.agg (List.toArray [str (((impl_decode (n1 : Int) ((Lib.cut (s.drop r) ([10] : List UInt8)).1)).1).Command), str (((impl_decode (n1 : Int) ((Lib.cut (s.drop r) ([10] : List UInt8)).1)).1).Reply)])]) (L := ([((impl_decode (n1 : Int) ((Lib.cut (s.drop r) ([10] : List UInt8)).1)).1)] : List LogRecord)) (enc := encLogRecord) tel48 (fun _ => rfl) rfl rfl rfl (by decide) ?_)
        intro g51 w52 hg53 hk54 hO55
        have hz56 := hk54.size
        have hB57 := hB45.lo hk54
        have hd58 : ¬ A1 = some ⟨g51, 0, none⟩ := fun e' => by have := ((((((hO8).lo hk16).lo hk21).lo hk27).kp hk34 (fun b_ hb e' => hd32 (by have e'' : b_ = g24 := e'; rw [← e'']; exact hb))).lo hk43).base_le e'; omega
        refine SR.app tel48 rfl rfl (((((((hO8).lo hk16).lo hk21).lo hk27).kp hk34 (fun b_ hb e' => hd32 (by have e'' : b_ = g24 := e'; rw [← e'']; exact hb))).lo hk43).lo hk54) ((hO55).rd) (fun _ => rfl) (by omega) (by omega) ?_
        intro A59 c60 w61 hk62 hO63 hN64
        have hz65 := hk62.size
        have hB66 := hB57.step hk62 (fun i_ hi_ e' => by have := ((((((((hO8).lo hk16).lo hk21).lo hk27).kp hk34 (fun b_ hb e' => hd32 (by have e'' : b_ = g24 := e'; rw [← e'']; exact hb))).lo hk43).lo hk54)).base_le e'; first | omega | (exfalso; omega) | exact e' | exact .inl e' | exact .inr e')
        have hd67 : ¬ A59 = some ⟨g24, 0, none⟩ := fun e' => (hN64 g24 e').elim (fun h => hd32 (h.trans e')) (fun h => by have := (((hb36).lo hk43).lo hk54).lt; omega)
        refine SR.q' (r_as (v := .slice _ _ _) rfl) <| SR.nil ?_
        refine W.regS (SR.q' (r_mv (v := .int .i64 _) rfl) <| SR.q' (r_mv (v := str _) rfl) <| SR.q' (r_len_s und9 rfl) <| SR.q' (r_add rfl rfl (by omega)) <| SR.q' (r_add rfl rfl (by omega)) <| SR.q' (r_as (v := .int .i64 _) rfl) <| SR.nil ?_)
        refine ⟨(R ++ [rec1 R.length (s.drop r)], r + (befB (s.drop r) 10).length + 1, A59, n1 + 1, c60), _, rfl, ⟨rfl, rfl, rfl, rfl, (eI (by first | (first | omega | rfl | (rw [cut_line]; omega)) | (dsimp only; (first | omega | rfl | (rw [cut_line]; omega))))), trivial⟩, ⟨hB66, (SlO.eqv (hO63) (z_c_impl_recovered_69 s hp0 R r n1 c1 hi9 hl10 hq12 hq13 h14 hq19 h46 hq49 hq50)), ?_⟩, ?_⟩
        · exact (z_c_impl_recovered_70 s hp0 R r n1 c1 hi9 hl10 hq12 hq13 h14 hq19 h46 hq49 hq50)
        · exact (z_c_impl_recovered_71 s hp0 R r n1 c1 hi9 hl10 hq12 hq13 h14 hq19 h46 hq49 hq50)
    · refine W.exit (xin_here ?_)
      refine W.seq ?_
      refine W.regS (SR.q' (r_mv (v := .slice _ _ _) rfl) <| SR.q' (r_mv (v := .int .i64 _) rfl) <| SR.q' (r_as (v := .slice _ _ _) rfl) <| SR.q' (r_as (v := .int .i64 _) rfl) <| SR.nil ?_)
      refine W.ret ?_
      refine ret2 rfl (v := .slice _ _ _) (v' := .int .i64 _) rfl rfl ?_
      exact ⟨A1, n1, c1, eR (eT2 rfl (eI (z_c_impl_recovered_73 s hp0 R r n1 c1 hi9 hl10 hq12 hq13 h14))), (SlO.eqv ((hO8).down (by omega)) (z_c_impl_recovered_72 s hp0 R r n1 c1 hi9 hl10 hq12 hq13 h14)), hB6⟩

theorem z_c_spec_l33Open_9 (s : List UInt8) (hp0 : (s.length : Int) ≤ 5000000) : OpTo s ([] : List LogRecord) 0 := by
  exact OpTo.zero
theorem z_c_spec_l33Open_73 (s : List UInt8) (hp0 : (s.length : Int) ≤ 5000000) (R : List LogRecord) (r : Nat) (n8 : Nat) (c8 : Nat) (hi15 : OpTo s R r) (hl16 : n8 = (R).length) (hq18 : R.length ≤ 60 ∧ r ≤ s.length) (hq19 : (s.drop r).length ≤ s.length) (h27 : ((r : Int) < (s.length : Int)) ∧ ((n8 : Int) < 60)) (hq28 : (r : Int) < (s.length : Int)) (hq29 : (n8 : Int) < 60) (n33 : Nat) (hl38 : n33 = (splitB (10 : UInt8) (s.drop r)).length) (hl39 : (n33 : Int) ≤ 9223372036854775807) (hq40 : 1 ≤ (splitB (10 : UInt8) (s.drop r)).length) (hx42 : (splitB (10 : UInt8) (s.drop r))[0]? = some (gt (splitB (10 : UInt8) (s.drop r)) 0)) (hq43 : (gt (splitB (10 : UInt8) (s.drop r)) 0).length ≤ (s.drop r).length) (hq44 : (s.drop r).length ≤ s.length) (h72 : ((n33 : Int) < 2) ∨ ((!((spec_l33Read (gt (splitB (10 : UInt8) (s.drop r)) 0) (n8 : Int)).2)) = true)) : R = (opN s).1 := by
  have hn := ‹_ = R.length›; subst hn; rw [OpTo.stop ‹OpTo s R r› (by first | exact stopS ‹¬ (_ ∧ _)› | exact .inr (recS_no (by omega) ‹_ = (splitB _ _).length› ‹_ ∨ _›))]
theorem z_c_spec_l33Open_74 (s : List UInt8) (hp0 : (s.length : Int) ≤ 5000000) (R : List LogRecord) (r : Nat) (n8 : Nat) (c8 : Nat) (hi15 : OpTo s R r) (hl16 : n8 = (R).length) (hq18 : R.length ≤ 60 ∧ r ≤ s.length) (hq19 : (s.drop r).length ≤ s.length) (h27 : ((r : Int) < (s.length : Int)) ∧ ((n8 : Int) < 60)) (hq28 : (r : Int) < (s.length : Int)) (hq29 : (n8 : Int) < 60) (n33 : Nat) (hl38 : n33 = (splitB (10 : UInt8) (s.drop r)).length) (hl39 : (n33 : Int) ≤ 9223372036854775807) (hq40 : 1 ≤ (splitB (10 : UInt8) (s.drop r)).length) (hx42 : (splitB (10 : UInt8) (s.drop r))[0]? = some (gt (splitB (10 : UInt8) (s.drop r)) 0)) (hq43 : (gt (splitB (10 : UInt8) (s.drop r)) 0).length ≤ (s.drop r).length) (hq44 : (s.drop r).length ≤ s.length) (h72 : ((n33 : Int) < 2) ∨ ((!((spec_l33Read (gt (splitB (10 : UInt8) (s.drop r)) 0) (n8 : Int)).2)) = true)) : (r : Int) = ((opN s).2 : Int) := by
  have hn := ‹_ = R.length›; subst hn; rw [OpTo.stop ‹OpTo s R r› (by first | exact stopS ‹¬ (_ ∧ _)› | exact .inr (recS_no (by omega) ‹_ = (splitB _ _).length› ‹_ ∨ _›))]
theorem z_c_spec_l33Open_97 (s : List UInt8) (hp0 : (s.length : Int) ≤ 5000000) (R : List LogRecord) (r : Nat) (n8 : Nat) (c8 : Nat) (hi15 : OpTo s R r) (hl16 : n8 = (R).length) (hq18 : R.length ≤ 60 ∧ r ≤ s.length) (hq19 : (s.drop r).length ≤ s.length) (h27 : ((r : Int) < (s.length : Int)) ∧ ((n8 : Int) < 60)) (hq28 : (r : Int) < (s.length : Int)) (hq29 : (n8 : Int) < 60) (n33 : Nat) (hl38 : n33 = (splitB (10 : UInt8) (s.drop r)).length) (hl39 : (n33 : Int) ≤ 9223372036854775807) (hq40 : 1 ≤ (splitB (10 : UInt8) (s.drop r)).length) (hx42 : (splitB (10 : UInt8) (s.drop r))[0]? = some (gt (splitB (10 : UInt8) (s.drop r)) 0)) (hq43 : (gt (splitB (10 : UInt8) (s.drop r)) 0).length ≤ (s.drop r).length) (hq44 : (s.drop r).length ≤ s.length) (h72 : ¬ (((n33 : Int) < 2) ∨ ((!((spec_l33Read (gt (splitB (10 : UInt8) (s.drop r)) 0) (n8 : Int)).2)) = true))) (hq75 : ¬ ((n33 : Int) < 2)) (hq76 : ¬ ((!((spec_l33Read (gt (splitB (10 : UInt8) (s.drop r)) 0) (n8 : Int)).2)) = true)) : R ++ ([((spec_l33Read (gt (splitB (10 : UInt8) (s.drop r)) 0) (n8 : Int)).1)] : List LogRecord) = R ++ [rec1 R.length (s.drop r)] := by
  have hn := ‹_ = R.length›; subst hn; rw [(recS_yes (by omega) ‹_ = (splitB _ _).length› ‹¬ (_ ∨ _)›).2]
theorem z_c_spec_l33Open_98 (s : List UInt8) (hp0 : (s.length : Int) ≤ 5000000) (R : List LogRecord) (r : Nat) (n8 : Nat) (c8 : Nat) (hi15 : OpTo s R r) (hl16 : n8 = (R).length) (hq18 : R.length ≤ 60 ∧ r ≤ s.length) (hq19 : (s.drop r).length ≤ s.length) (h27 : ((r : Int) < (s.length : Int)) ∧ ((n8 : Int) < 60)) (hq28 : (r : Int) < (s.length : Int)) (hq29 : (n8 : Int) < 60) (n33 : Nat) (hl38 : n33 = (splitB (10 : UInt8) (s.drop r)).length) (hl39 : (n33 : Int) ≤ 9223372036854775807) (hq40 : 1 ≤ (splitB (10 : UInt8) (s.drop r)).length) (hx42 : (splitB (10 : UInt8) (s.drop r))[0]? = some (gt (splitB (10 : UInt8) (s.drop r)) 0)) (hq43 : (gt (splitB (10 : UInt8) (s.drop r)) 0).length ≤ (s.drop r).length) (hq44 : (s.drop r).length ≤ s.length) (h72 : ¬ (((n33 : Int) < 2) ∨ ((!((spec_l33Read (gt (splitB (10 : UInt8) (s.drop r)) 0) (n8 : Int)).2)) = true))) (hq75 : ¬ ((n33 : Int) < 2)) (hq76 : ¬ ((!((spec_l33Read (gt (splitB (10 : UInt8) (s.drop r)) 0) (n8 : Int)).2)) = true)) : OpTo s (R ++ [rec1 R.length (s.drop r)]) (r + (befB (s.drop r) 10).length + 1) := by
  have hn := ‹_ = R.length›; subst hn; exact OpTo.next ‹OpTo s R r› (by omega) ((recS_yes (by omega) ‹_ = (splitB _ _).length› ‹¬ (_ ∨ _)›).1)
theorem z_c_spec_l33Open_99 (s : List UInt8) (hp0 : (s.length : Int) ≤ 5000000) (R : List LogRecord) (r : Nat) (n8 : Nat) (c8 : Nat) (hi15 : OpTo s R r) (hl16 : n8 = (R).length) (hq18 : R.length ≤ 60 ∧ r ≤ s.length) (hq19 : (s.drop r).length ≤ s.length) (h27 : ((r : Int) < (s.length : Int)) ∧ ((n8 : Int) < 60)) (hq28 : (r : Int) < (s.length : Int)) (hq29 : (n8 : Int) < 60) (n33 : Nat) (hl38 : n33 = (splitB (10 : UInt8) (s.drop r)).length) (hl39 : (n33 : Int) ≤ 9223372036854775807) (hq40 : 1 ≤ (splitB (10 : UInt8) (s.drop r)).length) (hx42 : (splitB (10 : UInt8) (s.drop r))[0]? = some (gt (splitB (10 : UInt8) (s.drop r)) 0)) (hq43 : (gt (splitB (10 : UInt8) (s.drop r)) 0).length ≤ (s.drop r).length) (hq44 : (s.drop r).length ≤ s.length) (h72 : ¬ (((n33 : Int) < 2) ∨ ((!((spec_l33Read (gt (splitB (10 : UInt8) (s.drop r)) 0) (n8 : Int)).2)) = true))) (hq75 : ¬ ((n33 : Int) < 2)) (hq76 : ¬ ((!((spec_l33Read (gt (splitB (10 : UInt8) (s.drop r)) 0) (n8 : Int)).2)) = true)) : 60 - (R ++ [rec1 R.length (s.drop r)]).length < 60 - R.length := by
  simp only [List.length_append, List.length_cons, List.length_nil]; omega
theorem z_c_spec_l33Open_100 (s : List UInt8) (hp0 : (s.length : Int) ≤ 5000000) (R : List LogRecord) (r : Nat) (n8 : Nat) (c8 : Nat) (hi15 : OpTo s R r) (hl16 : n8 = (R).length) (hq18 : R.length ≤ 60 ∧ r ≤ s.length) (hq19 : (s.drop r).length ≤ s.length) (h27 : ¬ (((r : Int) < (s.length : Int)) ∧ ((n8 : Int) < 60))) : R = (opN s).1 := by
  have hn := ‹_ = R.length›; subst hn; rw [OpTo.stop ‹OpTo s R r› (by first | exact stopS ‹¬ (_ ∧ _)› | exact .inr (recS_no (by omega) ‹_ = (splitB _ _).length› ‹_ ∨ _›))]
theorem z_c_spec_l33Open_101 (s : List UInt8) (hp0 : (s.length : Int) ≤ 5000000) (R : List LogRecord) (r : Nat) (n8 : Nat) (c8 : Nat) (hi15 : OpTo s R r) (hl16 : n8 = (R).length) (hq18 : R.length ≤ 60 ∧ r ≤ s.length) (hq19 : (s.drop r).length ≤ s.length) (h27 : ¬ (((r : Int) < (s.length : Int)) ∧ ((n8 : Int) < 60))) : (r : Int) = ((opN s).2 : Int) := by
  have hn := ‹_ = R.length›; subst hn; rw [OpTo.stop ‹OpTo s R r› (by first | exact stopS ‹¬ (_ ∧ _)› | exact .inr (recS_no (by omega) ‹_ = (splitB _ _).length› ‹_ ∨ _›))]
theorem c_spec_l33Open (w : World) (s : List UInt8) (hp0 : (s.length : Int) ≤ 5000000) : Calls Tryd.prog 48 #[str s] w fun e w' => ∃ (A1' : Option Addr) (n1' c1' : Nat), e = .returned (.tuple (List.toArray [.slice A1' n1' c1', .int .i64 ((opN s).2 : Int)])) ∧ SlO w' w.heap.size encLogRecord 2 27 A1' n1' c1' ((opN s).1) ∧ Lo w w' := by
  refine calls_W 52 Tryd.func48 rfl rfl rfl ?_
  refine W.seq ?_
  refine W.regS (SR.q' (r_as (v := .slice none 0 0) rfl) <| SR.q' (r_as (v := .int .i64 0) rfl) <| SR.nil ?_)
  refine W.seq ?_
  refine W.regS (SR.lit (vs := []) (L := ([] : List LogRecord)) (enc := encLogRecord) tel48 (fun _ => rfl) rfl rfl rfl (by decide) ?_)
  intro g1 w2 hg3 hk4 hO5
  have hz6 := hk4.size
  have hB7 := (Lo.refl w).lo hk4
  refine SR.q' (r_as (v := .slice _ _ _) rfl) <| SR.nil ?_
  refine W.seq ?_
  refine W.regS (SR.q' (r_as (v := .int .i64 0) rfl) <| SR.nil ?_)
  refine W.seq ?_
  refine W.block ?_
  refine W.loop (σ := (List LogRecord) × Nat × (Option Addr) × Nat × Nat) (fun g => [(0, str s), (2, .slice none 0 0), (3, .int .i64 0), (4, .slice g.2.2.1 g.2.2.2.1 g.2.2.2.2), (5, .int .i64 (g.2.1 : Int))]) (fun g w' => (Lo w w') ∧ (SlO w' w.heap.size encLogRecord 2 27 g.2.2.1 g.2.2.2.1 g.2.2.2.2 g.1) ∧ (OpTo s g.1 g.2.1)) (fun g => 60 - g.1.length) (([] : List LogRecord), 0, (some (⟨g1, 0, none⟩ : Addr)), 0, 0) ?_ ?_ ?_
  · exact ⟨rfl, rfl, rfl, rfl, (eI (by first | (first | omega | rfl | (rw [splitB_head]; omega)) | (dsimp only; (first | omega | rfl | (rw [splitB_head]; omega))))), trivial⟩
  · exact ⟨hB7, (hO5), (z_c_spec_l33Open_9 s hp0)⟩
  · rintro ⟨R, r, A8, n8, c8⟩ f10 w11 hP13
    obtain ⟨hB12, hO14, hi15⟩ : (Lo w w11) ∧ (SlO w11 w.heap.size encLogRecord 2 27 A8 n8 c8 R) ∧ (OpTo s R r) := hP13
    refine (?_ : W _ _ _ _ _ (act _ (sets f10 [(0, str s), (2, .slice none 0 0), (3, .int .i64 0), (4, .slice A8 n8 c8), (5, .int .i64 (r : Int))])) _)
    have hzw11 := hB12.size
    have hl16 := hO14.len
    have hl17 := hO14.rd.bound
    have hq18 : R.length ≤ 60 ∧ r ≤ s.length := hi15.rng
    have hq19 : (s.drop r).length ≤ s.length := (by rw [List.length_drop]; omega)
    refine W.seq ?_
    refine W.seq ?_
    refine W.regJS (fun f' w' => At f' [(0, str s), (2, .slice none 0 0), (3, .int .i64 0), (4, .slice A8 n8 c8), (5, .int .i64 (r : Int)), (18, .bool (decide (((r : Int) < (s.length : Int)) ∧ ((n8 : Int) < 60))))] ∧ Lo w11 w') ?_ ?_
    · refine SR.q' (r_mv (v := .int .i64 _) rfl) <| SR.q' (r_mv (v := str _) rfl) <| SR.q' (r_len_s und9 rfl) <| SR.q' (r_lt rfl rfl) <| SR.q' (r_mv (v := .bool _) rfl) <| SR.splitD (fun h20 => ?_) (fun h20 => ?_)
      · refine SR.g' rfl (r_mv (v := .slice _ _ _) rfl) <| SR.g' rfl (r_len und48 rfl) <| SR.g' rfl (r_lt rfl rfl) <| SR.q' (r_pick true rfl (v := .bool _) rfl) <| SR.nil ?_
        exact ⟨_, rfl, ⟨⟨rfl, rfl, rfl, rfl, rfl, (eDD (jat h20)), trivial⟩, (Lo.refl _)⟩⟩
      · refine SR.s' rfl <| SR.s' rfl <| SR.s' rfl <| SR.q' (r_pick false rfl (v := .bool false) rfl) <| SR.nil ?_
        exact ⟨_, rfl, ⟨⟨rfl, rfl, rfl, rfl, rfl, (eDF (jaf h20).2), trivial⟩, (Lo.refl _)⟩⟩
    rintro f21 w22 ⟨hat23, hk24⟩
    rw [← sets_of_at hat23]
    have hz25 := hk24.size
    have hB26 := hB12.lo hk24
    refine W.cond_d rfl (fun h27 => ?_) (fun h27 => ?_)
    · have hq28 : (r : Int) < (s.length : Int) := h27.1
      have hq29 : (n8 : Int) < 60 := h27.2
      refine W.skip ?_
      refine W.block ?_
      refine W.seq ?_
      refine W.regS (SR.q' (r_mv (v := str _) rfl) <| SR.q' (r_mv (v := .int .i64 _) rfl) <| SR.q' (r_cutlS (l := r) und9 rfl rfl rfl (by first | omega | (simp only [List.length_append, List.length_cons, List.length_nil, List.length_take, List.length_drop]; omega) | (simp only [List.length_append, List.length_cons, List.length_nil, List.length_take, List.length_drop] at *; omega))) <| SR.call ent68 (c_spec_l1Split w22 (s.drop r) (10 : UInt8) (by first | omega | (simp only [List.length_append, List.length_cons, List.length_nil, List.length_take, List.length_drop]; omega))) rfl ?_)
      rintro e w30 ⟨A32, n33, c34, rfl, hO35, hk31⟩
      refine ⟨_, rfl, ?_⟩
      have hz36 := hk31.size
      have hB37 := hB26.lo hk31
      have hl38 := hO35.len
      have hl39 := hO35.rd.bound
      have hq40 := splitB_len (10 : UInt8) (s.drop r)
      refine SR.q' (r_as (v := .slice _ _ _) rfl) <| SR.nil ?_
      refine W.seq ?_
      refine W.regS (SR.q' (r_mv (v := .slice _ _ _) rfl) <| ?_)
      have hx42 := ((hO35).rd).elem (i := 0) (by omega)
      have hq43 := splitB_gt (10 : UInt8) (s.drop r)
      have hq44 : (s.drop r).length ≤ s.length := by rw [List.length_drop]; omega
      refine SR.q' (r_ixR tsl85 ((hO35).rd) rfl rfl (by omega)) <| SR.q' (r_ld (v := str (gt (splitB (10 : UInt8) (s.drop r)) 0)) sca9 rfl (((hO35).rd).cell0 hx42 rfl)) <| SR.q' (r_mv (v := .slice _ _ _) rfl) <| SR.q' (r_len und48 rfl) <| SR.call ent69 (c_spec_l33Read w30 (gt (splitB (10 : UInt8) (s.drop r)) 0) (n8 : Int) (by first | omega | (simp only [List.length_append, List.length_cons, List.length_nil, List.length_take, List.length_drop]; omega)) (by omega)) rfl ?_
      rintro e w45 ⟨rfl, hk46⟩
      refine ⟨_, rfl, ?_⟩
      have hz47 := hk46.size
      have hB48 := hB37.lo hk46
      refine SR.q' (r_mv (v := .tuple (List.toArray _)) rfl) <| SR.q' (r_ext (v := .agg (List.toArray _)) rfl rfl) <| SR.q' (r_ext (v := .bool _) rfl rfl) <| SR.alloc (l := [str ([] : List UInt8), str ([] : List UInt8)]) tz27 rfl ?_
      intro g49 w50 hg51 hk52 hs53 hb54
      have hz55 := hk52.size
      have hB56 := hB48.lo hk52
      have hd57 : ¬ A8 = some ⟨g49, 0, none⟩ := fun e' => by have := ((((hO14).lo hk24).lo hk31).lo hk46).base_le e'; omega
      have hd58 : ¬ A32 = some ⟨g49, 0, none⟩ := fun e' => by have := ((hO35).lo hk46).base_le e'; omega
      refine SR.store (o := 0) (vs := [str (((spec_l33Read (gt (splitB (10 : UInt8) (s.drop r)) 0) (n8 : Int)).1).Command), str (((spec_l33Read (gt (splitB (10 : UInt8) (s.drop r)) 0) (n8 : Int)).1).Reply)]) agg27.2 rfl rfl rfl rfl (hb54) (Nat.le_of_ble_eq_true rfl) rfl ?_
      intro w59 hk60 hs61 hb62
      have hz63 := hk60.size
      have hB64 := hB56.new hk60 (by omega)
      refine SR.q' (r_as (v := .bool _) rfl) <| SR.nil ?_
      refine W.seq ?_
      refine W.seq ?_
      refine W.regJS (fun f' w' => At f' [(0, str s), (2, .slice none 0 0), (3, .int .i64 0), (4, .slice A8 n8 c8), (5, .int .i64 (r : Int)), (6, .slice A32 n33 c34), (7, .pointer (some ((⟨g49, 0, none⟩ : Addr)))), (38, .bool (decide (((n33 : Int) < 2) ∨ ((!((spec_l33Read (gt (splitB (10 : UInt8) (s.drop r)) 0) (n8 : Int)).2)) = true))))] ∧ Lo w59 w') ?_ ?_
      · refine SR.q' (r_mv (v := .slice _ _ _) rfl) <| SR.q' (r_len und85 rfl) <| SR.q' (r_lt rfl rfl) <| SR.q' (r_mv (v := .bool _) rfl) <| SR.splitD (fun h65 => ?_) (fun h65 => ?_)
        · refine SR.s' rfl <| SR.s' rfl <| SR.q' (r_pick true rfl (v := .bool true) rfl) <| SR.nil ?_
          exact ⟨_, rfl, ⟨⟨rfl, rfl, rfl, rfl, rfl, rfl, rfl, (eDT ((jot h65).1 trivial)), trivial⟩, (Lo.refl _)⟩⟩
        · refine SR.g' rfl (r_mv (v := .bool _) rfl) <| SR.g' rfl (r_not rfl) <| SR.q' (r_pick false rfl (v := .bool _) rfl) <| SR.nil ?_
          exact ⟨_, rfl, ⟨⟨rfl, rfl, rfl, rfl, rfl, rfl, rfl, (eBD (jof h65)), trivial⟩, (Lo.refl _)⟩⟩
      rintro f66 w67 ⟨hat68, hk69⟩
      rw [← sets_of_at hat68]
      have hz70 := hk69.size
      have hB71 := hB64.lo hk69
      refine W.cond_d rfl (fun h72 => ?_) (fun h72 => ?_)
      · refine W.exit (xin_out rfl (xin_here ?_))
        refine W.seq ?_
        refine W.regS (SR.q' (r_mv (v := .slice _ _ _) rfl) <| SR.q' (r_mv (v := .int .i64 _) rfl) <| SR.q' (r_as (v := .slice _ _ _) rfl) <| SR.q' (r_as (v := .int .i64 _) rfl) <| SR.nil ?_)
        refine W.ret ?_
        refine ret2 rfl (v := .slice _ _ _) (v' := .int .i64 _) rfl rfl ?_
        exact ⟨A8, n8, c8, eR (eT2 rfl (eI (z_c_spec_l33Open_74 s hp0 R r n8 c8 hi15 hl16 hq18 hq19 h27 hq28 hq29 n33 hl38 hl39 hq40 hx42 hq43 hq44 h72))), (SlO.eqv ((((((((hO14).lo hk24).lo hk31).lo hk46).lo hk52).kp hk60 (fun b_ hb e' => hd57 (by have e'' : b_ = g49 := e'; rw [← e'']; exact hb))).lo hk69).down (by omega)) (z_c_spec_l33Open_73 s hp0 R r n8 c8 hi15 hl16 hq18 hq19 h27 hq28 hq29 n33 hl38 hl39 hq40 hx42 hq43 hq44 h72)), hB71⟩
      · have hq75 : ¬ ((n33 : Int) < 2) := (not_or.1 h72).1
        have hq76 : ¬ ((!((spec_l33Read (gt (splitB (10 : UInt8) (s.drop r)) 0) (n8 : Int)).2)) = true) := (not_or.1 h72).2
        refine W.skip ?_
        refine W.seq ?_
        refine W.regS (SR.q' (r_mv (v := .slice _ _ _) rfl) <| SR.q' (r_lda (l := [str (((spec_l33Read (gt (splitB (10 : UInt8) (s.drop r)) 0) (n8 : Int)).1).Command), str (((spec_l33Read (gt (splitB (10 : UInt8) (s.drop r)) 0) (n8 : Int)).1).Reply)]) agg27 rfl (fun _ _ hu => ((hb62).lo hk69).cell hu) rfl) <| SR.lit (vs := [.agg (List.toArray [str (((spec_l33Read (gt (splitB (10 : UInt8) (s.drop r)) 0) (n8 : Int)).1).Command), str (((spec_l33Read (gt (splitB (10 : UInt8) (s.drop r)) 0) (n8 : Int)).1).Reply)])]) (L := ([((spec_l33Read (gt (splitB (10 : UInt8) (s.drop r)) 0) (n8 : Int)).1)] : List LogRecord)) (enc := encLogRecord) tel48 (fun _ => rfl) rfl rfl rfl (by decide) ?_)
        intro g77 w78 hg79 hk80 hO81
        have hz82 := hk80.size
        have hB83 := hB71.lo hk80
        have hd84 : ¬ A8 = some ⟨g77, 0, none⟩ := fun e' => by have := (((((((hO14).lo hk24).lo hk31).lo hk46).lo hk52).kp hk60 (fun b_ hb e' => hd57 (by have e'' : b_ = g49 := e'; rw [← e'']; exact hb))).lo hk69).base_le e'; omega
        have hd85 : ¬ A32 = some ⟨g77, 0, none⟩ := fun e' => by have := (((((hO35).lo hk46).lo hk52).kp hk60 (fun b_ hb e' => hd58 (by have e'' : b_ = g49 := e'; rw [← e'']; exact hb))).lo hk69).base_le e'; omega
        refine SR.app tel48 rfl rfl ((((((((hO14).lo hk24).lo hk31).lo hk46).lo hk52).kp hk60 (fun b_ hb e' => hd57 (by have e'' : b_ = g49 := e'; rw [← e'']; exact hb))).lo hk69).lo hk80) ((hO81).rd) (fun _ => rfl) (by omega) (by omega) ?_
        intro A86 c87 w88 hk89 hO90 hN91
        have hz92 := hk89.size
        have hB93 := hB83.step hk89 (fun i_ hi_ e' => by have := (((((((((hO14).lo hk24).lo hk31).lo hk46).lo hk52).kp hk60 (fun b_ hb e' => hd57 (by have e'' : b_ = g49 := e'; rw [← e'']; exact hb))).lo hk69).lo hk80)).base_le e'; first | omega | (exfalso; omega) | exact e' | exact .inl e' | exact .inr e')
        have hd95 : ¬ A86 = some ⟨g49, 0, none⟩ := fun e' => (hN91 g49 e').elim (fun h => hd57 (h.trans e')) (fun h => by have := (((hb62).lo hk69).lo hk80).lt; omega)
        refine SR.q' (r_as (v := .slice _ _ _) rfl) <| SR.nil ?_
        refine W.regS (SR.q' (r_mv (v := .int .i64 _) rfl) <| SR.q' (r_mv (v := .slice _ _ _) rfl) <| SR.q' (r_ixR tsl85 ((((((((hO35).lo hk46).lo hk52).kp hk60 (fun b_ hb e' => hd58 (by have e'' : b_ = g49 := e'; rw [← e'']; exact hb))).lo hk69).lo hk80).kp hk89 (fun b_ hb e' => by have h1 := (((((((((hO14).lo hk24).lo hk31).lo hk46).lo hk52).kp hk60 (fun b_ hb e' => hd57 (by have e'' : b_ = g49 := e'; rw [← e'']; exact hb))).lo hk69).lo hk80)).base_le e'; have h2 := ((((((hO35).lo hk46).lo hk52).kp hk60 (fun b_ hb e' => hd58 (by have e'' : b_ = g49 := e'; rw [← e'']; exact hb))).lo hk69).lo hk80).base_le hb; have h4 := ((hO14).lo hk24).base_le e'; omega)).rd) rfl rfl (by omega)) <| SR.q' (r_ld (v := str (gt (splitB (10 : UInt8) (s.drop r)) 0)) sca9 rfl (((((((((hO35).lo hk46).lo hk52).kp hk60 (fun b_ hb e' => hd58 (by have e'' : b_ = g49 := e'; rw [← e'']; exact hb))).lo hk69).lo hk80).kp hk89 (fun b_ hb e' => by have h1 := (((((((((hO14).lo hk24).lo hk31).lo hk46).lo hk52).kp hk60 (fun b_ hb e' => hd57 (by have e'' : b_ = g49 := e'; rw [← e'']; exact hb))).lo hk69).lo hk80)).base_le e'; have h2 := ((((((hO35).lo hk46).lo hk52).kp hk60 (fun b_ hb e' => hd58 (by have e'' : b_ = g49 := e'; rw [← e'']; exact hb))).lo hk69).lo hk80).base_le hb; have h4 := ((hO14).lo hk24).base_le e'; omega)).rd).cell0 hx42 rfl)) <| SR.q' (r_len_s und9 rfl) <| SR.q' (r_add rfl rfl (by omega)) <| SR.q' (r_add rfl rfl (by omega)) <| SR.q' (r_as (v := .int .i64 _) rfl) <| SR.nil ?_)
        refine ⟨(R ++ [rec1 R.length (s.drop r)], r + (befB (s.drop r) 10).length + 1, A86, n8 + 1, c87), _, rfl, ⟨rfl, rfl, rfl, rfl, (eI (by first | (first | omega | rfl | (rw [splitB_head]; omega)) | (dsimp only; (first | omega | rfl | (rw [splitB_head]; omega))))), trivial⟩, ⟨hB93, (SlO.eqv (hO90) (z_c_spec_l33Open_97 s hp0 R r n8 c8 hi15 hl16 hq18 hq19 h27 hq28 hq29 n33 hl38 hl39 hq40 hx42 hq43 hq44 h72 hq75 hq76)), ?_⟩, ?_⟩
        · exact (z_c_spec_l33Open_98 s hp0 R r n8 c8 hi15 hl16 hq18 hq19 h27 hq28 hq29 n33 hl38 hl39 hq40 hx42 hq43 hq44 h72 hq75 hq76)
        · exact (z_c_spec_l33Open_99 s hp0 R r n8 c8 hi15 hl16 hq18 hq19 h27 hq28 hq29 n33 hl38 hl39 hq40 hx42 hq43 hq44 h72 hq75 hq76)
    · refine W.exit (xin_here ?_)
      refine W.seq ?_
      refine W.regS (SR.q' (r_mv (v := .slice _ _ _) rfl) <| SR.q' (r_mv (v := .int .i64 _) rfl) <| SR.q' (r_as (v := .slice _ _ _) rfl) <| SR.q' (r_as (v := .int .i64 _) rfl) <| SR.nil ?_)
      refine W.ret ?_
      refine ret2 rfl (v := .slice _ _ _) (v' := .int .i64 _) rfl rfl ?_
      exact ⟨A8, n8, c8, eR (eT2 rfl (eI (z_c_spec_l33Open_101 s hp0 R r n8 c8 hi15 hl16 hq18 hq19 h27))), (SlO.eqv (((hO14).lo hk24).down (by omega)) (z_c_spec_l33Open_100 s hp0 R r n8 c8 hi15 hl16 hq18 hq19 h27)), hB26⟩
end Go.Proofs.YthlbmkpkgiabnaaDoor
