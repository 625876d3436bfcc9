/- Walks, printed by a program of this claim's author. -/
import Derived.Test.YthgbcadgnihdiaaGreatDoorChecked
import Derived.Test.YthgbcadgnihdiaaGreatDoorRa
import Derived.Test.YthgbcadgnihdiaaGreatDoorFu
import Derived.Test.YthgbcadgnihdiaaGreatDoorFo
import Derived.Test.YthgbcadgnihdiaaGreatDoorFp
import Derived.Test.YthgbcadgnihdiaaGreatDoorFt
import Derived.Test.YthgbcadgnihdiaaGreatDoorSi
import Derived.Test.YthgbcadgnihdiaaGreatDoorVa
import Derived.Test.YthgbcadgnihdiaaGreatDoorG30w
namespace Go.Proofs.YthgbcadgnihdiaaGreatDoor
open Go Go.RowKit Fw
set_option maxRecDepth 10000
set_option linter.unusedVariables false
theorem ent51 : Ent Tryz.prog 51 := ent_of Tryz.func51 (by decide +kernel) rfl
theorem ent52 : Ent Tryz.prog 52 := ent_of Tryz.func52 (by decide +kernel) rfl
theorem ent54 : Ent Tryz.prog 54 := ent_of Tryz.func54 (by decide +kernel) rfl
theorem ent55 : Ent Tryz.prog 55 := ent_of Tryz.func55 (by decide +kernel) rfl
theorem ent70 : Ent Tryz.prog 70 := ent_of Tryz.func70 (by decide +kernel) rfl
theorem ent71 : Ent Tryz.prog 71 := ent_of Tryz.func71 (by decide +kernel) rfl
theorem und9 : Tryz.prog.underlying 9 = some (.string) := by kernel_rfl

theorem c_impl_text (w : World) (n : Int) (hp0 : -9223372036854775808 ≤ n ∧ n ≤ 9223372036854775807) (hE : EnvW w) : Calls Tryz.prog 51 #[.int .i64 n] w fun e w' => e = .returned (str (Lib.itoa n)) ∧ Lo w w' := by
  refine calls_W 5 Tryz.func51 rfl rfl rfl ?_
  refine W.seq ?_
  refine W.regS (SR.q' (r_as (v := str ([] : List UInt8)) rfl) <| SR.nil ?_)
  refine W.seq ?_
  refine W.regS (SR.q' (r_mv (v := .int .i64 _) rfl) <| SR.call ent70 (c_strconv_Itoa w n (by omega) (hE.lo ((Lo.refl w)))) rfl ?_)
  rintro e w1 ⟨rfl, hk2⟩
  refine ⟨_, rfl, ?_⟩
  have hz3 := hk2.size
  have hB4 := (Lo.refl w).lo hk2
  have hq5 : (Lib.itoa n).length ≤ 21 := itoa_len (n := n) (by omega) (by omega)
  refine SR.q' (r_as (v := str _) rfl) <| SR.nil ?_
  refine W.ret ?_
  refine ret1 rfl (v := str _) rfl ?_
  exact ⟨eR rfl, hB4⟩

theorem z_c_spec_l1Num_7 (n : Int) (hp0 : -9223372036854775807 ≤ n ∧ n ≤ 9223372036854775807) (h1 : n < 0) (hq6 : (Lib.itoa (-n)).length ≤ 21) : ([45] : List UInt8) ++ (Lib.itoa (-n)) = Lib.itoa n := by
  first | exact itoa_m ‹_› | exact itoa_d (by omega) ‹_› | exact itoa_b (by omega)
theorem z_c_spec_l1Num_9 (n : Int) (hp0 : -9223372036854775807 ≤ n ∧ n ≤ 9223372036854775807) (h1 : ¬ (n < 0)) (h8 : n < 10) : (([48, 49, 50, 51, 52, 53, 54, 55, 56, 57] : List UInt8).drop n.toNat).take (((n + 1).toNat) - n.toNat) = Lib.itoa n := by
  first | exact itoa_m ‹_› | exact itoa_d (by omega) ‹_› | exact itoa_b (by omega)
theorem z_c_spec_l1Num_15 (n : Int) (hp0 : -9223372036854775807 ≤ n ∧ n ≤ 9223372036854775807) (h1 : ¬ (n < 0)) (h8 : ¬ (n < 10)) (hq10 : (Lib.itoa (n / 10)).length ≤ 21) : (Lib.itoa (n / 10)) ++ ((([48, 49, 50, 51, 52, 53, 54, 55, 56, 57] : List UInt8).drop ((n % 10).toNat)).take ((((n % 10) + 1).toNat) - ((n % 10).toNat))) = Lib.itoa n := by
  first | exact itoa_m ‹_› | exact itoa_d (by omega) ‹_› | exact itoa_b (by omega)
theorem c_spec_l1Num (w : World) (n : Int) (hp0 : -9223372036854775807 ≤ n ∧ n ≤ 9223372036854775807) : Calls Tryz.prog 54 #[.int .i64 n] w fun e w' => e = .returned (str (Lib.itoa n)) ∧ Lo w w' := by
  refine calls_W 25 Tryz.func54 rfl rfl rfl ?_
  refine W.seq ?_
  refine W.regS (SR.q' (r_as (v := str ([] : List UInt8)) rfl) <| SR.nil ?_)
  refine W.seq ?_
  refine W.seq ?_
  refine W.regS (SR.q' (r_mv (v := .int .i64 _) rfl) <| SR.q' (r_lt rfl rfl) <| SR.nil ?_)
  refine W.cond_d rfl (fun h1 => ?_) (fun h1 => ?_)
  · refine W.seq ?_
    refine W.regS (SR.q' (r_mv (v := .int .i64 _) rfl) <| SR.q' (r_neg rfl (by omega)) <| SR.call ent54 (c_spec_l1Num w (-n) (by omega)) rfl ?_)
    rintro e w2 ⟨rfl, hk3⟩
    refine ⟨_, rfl, ?_⟩
    have hz4 := hk3.size
    have hB5 := (Lo.refl w).lo hk3
    have hq6 : (Lib.itoa (-n)).length ≤ 21 := itoa_len (n := -n) (by omega) (by omega)
    refine SR.q' (r_cat rfl rfl (by first | omega | (simp only [List.length_append, List.length_cons, List.length_nil, List.length_take, List.length_drop]; omega) | (simp only [List.length_append, List.length_cons, List.length_nil, List.length_take, List.length_drop] at *; omega))) <| SR.q' (r_as (v := str _) rfl) <| SR.nil ?_
    refine W.ret ?_
    refine ret1 rfl (v := str _) rfl ?_
    exact ⟨eR (eS (z_c_spec_l1Num_7 n hp0 h1 hq6)), hB5⟩
  · refine W.skip ?_
    refine W.seq ?_
    refine W.seq ?_
    refine W.regS (SR.q' (r_mv (v := .int .i64 _) rfl) <| SR.q' (r_lt rfl rfl) <| SR.nil ?_)
    refine W.cond_d rfl (fun h8 => ?_) (fun h8 => ?_)
    · refine W.seq ?_
      refine W.regS (SR.q' (r_mv (v := .int .i64 _) rfl) <| SR.q' (r_mv (v := .int .i64 _) rfl) <| SR.q' (r_add rfl rfl (by omega)) <| SR.q' (r_cutS (l := n.toNat) (h := (n + 1).toNat) und9 rfl rfl rfl (by omega) (by omega) (by omega) (by first | omega | (simp only [List.length_append, List.length_cons, List.length_nil, List.length_take, List.length_drop]; omega) | (simp only [List.length_append, List.length_cons, List.length_nil, List.length_take, List.length_drop] at *; omega))) <| SR.q' (r_as (v := str _) rfl) <| SR.nil ?_)
      refine W.ret ?_
      refine ret1 rfl (v := str _) rfl ?_
      exact ⟨eR (eS (z_c_spec_l1Num_9 n hp0 h1 h8)), (Lo.refl w)⟩
    · refine W.skip ?_
      refine W.seq ?_
      refine W.regD mo (by kernel_rfl) (QR.q' (fun w' hw' => r_mv (v := .int .i64 _) rfl) <| QR.q' (fun w' hw' => r_quo rfl rfl (by omega)) <| QR.call ent54 (fun w' hw' => (c_spec_l1Num w' (n / 10) (by omega)).mono fun _ _ h => ⟨h.1, hw'.trans h.2⟩) rfl <| ?_)
      have hq10 : (Lib.itoa (n / 10)).length ≤ 21 := itoa_len (n := n / 10) (by omega) (by omega)
      refine QR.q' (fun w' hw' => r_mv (v := .int .i64 _) rfl) <| QR.q' (fun w' hw' => r_rem rfl rfl (by omega)) <| QR.q' (fun w' hw' => r_mv (v := .int .i64 _) rfl) <| QR.q' (fun w' hw' => r_rem rfl rfl (by omega)) <| QR.q' (fun w' hw' => r_add rfl rfl (by omega)) <| QR.q' (fun w' hw' => r_cutS (l := (n % 10).toNat) (h := ((n % 10) + 1).toNat) und9 rfl rfl rfl (by omega) (by omega) (by omega) (by first | omega | (simp only [List.length_append, List.length_cons, List.length_nil, List.length_take, List.length_drop]; omega) | (simp only [List.length_append, List.length_cons, List.length_nil, List.length_take, List.length_drop] at *; omega))) <| QR.q' (fun w' hw' => r_cat rfl rfl (by first | omega | (simp only [List.length_append, List.length_cons, List.length_nil, List.length_take, List.length_drop]; omega) | (simp only [List.length_append, List.length_cons, List.length_nil, List.length_take, List.length_drop] at *; omega))) <| QR.q' (fun w' hw' => r_as (v := str _) rfl) <| QR.nil ?_
      intro w11 hk12
      have hz13 := hk12.size
      have hB14 := (Lo.refl w).lo hk12
      refine W.ret ?_
      refine ret1 rfl (v := str _) rfl ?_
      exact ⟨eR (eS (z_c_spec_l1Num_15 n hp0 h1 h8 hq10)), hB14⟩
termination_by n.toNat + 2 * (-n).toNat
decreasing_by all_goals omega

theorem z_c_impl_twoDigits_11 (n : Int) (hp0 : 0 ≤ n ∧ n ≤ 99) (hq5 : (Lib.itoa (n / 10)).length ≤ 21) (hq10 : (Lib.itoa (n % 10)).length ≤ 21) : (Lib.itoa (n / 10)) ++ (Lib.itoa (n % 10)) = twoD n := by
  rfl
theorem c_impl_twoDigits (w : World) (n : Int) (hp0 : 0 ≤ n ∧ n ≤ 99) (hE : EnvW w) : Calls Tryz.prog 71 #[.int .i64 n] w fun e w' => e = .returned (str (twoD n)) ∧ Lo w w' := by
  refine calls_W 10 Tryz.func71 rfl rfl rfl ?_
  refine W.seq ?_
  refine W.regS (SR.q' (r_as (v := str ([] : List UInt8)) rfl) <| SR.nil ?_)
  refine W.seq ?_
  refine W.regS (SR.q' (r_mv (v := .int .i64 _) rfl) <| SR.q' (r_quo rfl rfl (by omega)) <| SR.call ent51 (c_impl_text w (n / 10) (by omega) (hE.lo ((Lo.refl w)))) rfl ?_)
  rintro e w1 ⟨rfl, hk2⟩
  refine ⟨_, rfl, ?_⟩
  have hz3 := hk2.size
  have hB4 := (Lo.refl w).lo hk2
  have hq5 : (Lib.itoa (n / 10)).length ≤ 21 := itoa_len (n := n / 10) (by omega) (by omega)
  refine SR.q' (r_mv (v := .int .i64 _) rfl) <| SR.q' (r_rem rfl rfl (by omega)) <| SR.call ent51 (c_impl_text w1 (n % 10) (by omega) (hE.lo (hB4))) rfl ?_
  rintro e w6 ⟨rfl, hk7⟩
  refine ⟨_, rfl, ?_⟩
  have hz8 := hk7.size
  have hB9 := hB4.lo hk7
  have hq10 : (Lib.itoa (n % 10)).length ≤ 21 := itoa_len (n := n % 10) (by omega) (by omega)
  refine SR.q' (r_cat rfl rfl (by first | omega | (simp only [List.length_append, List.length_cons, List.length_nil, List.length_take, List.length_drop]; omega) | (simp only [List.length_append, List.length_cons, List.length_nil, List.length_take, List.length_drop] at *; omega))) <| SR.q' (r_as (v := str _) rfl) <| SR.nil ?_
  refine W.ret ?_
  refine ret1 rfl (v := str _) rfl ?_
  exact ⟨eR (eS (z_c_impl_twoDigits_11 n hp0 hq5 hq10)), hB9⟩

theorem z_c_spec_l30Clock_12 (m : Int) (hp0 : 0 ≤ m ∧ m ≤ 100000) (hq5 : (Lib.itoa (m / 60)).length ≤ 21) (h6 : (m % 60) < 10) (hq11 : (Lib.itoa (m % 60)).length ≤ 21) : (((Lib.itoa (m / 60)) ++ ([58] : List UInt8)) ++ ([48] : List UInt8)) ++ (Lib.itoa (m % 60)) = clockT m := by
  first | exact clock_eq m | exact clock_lt (by omega) ‹_› | exact clock_ge (by omega) ‹_›
theorem z_c_spec_l30Clock_18 (m : Int) (hp0 : 0 ≤ m ∧ m ≤ 100000) (hq5 : (Lib.itoa (m / 60)).length ≤ 21) (h6 : ¬ ((m % 60) < 10)) (hq17 : (Lib.itoa (m % 60)).length ≤ 21) : ((Lib.itoa (m / 60)) ++ ([58] : List UInt8)) ++ (Lib.itoa (m % 60)) = clockT m := by
  first | exact clock_eq m | exact clock_lt (by omega) ‹_› | exact clock_ge (by omega) ‹_›
theorem c_spec_l30Clock (w : World) (m : Int) (hp0 : 0 ≤ m ∧ m ≤ 100000) : Calls Tryz.prog 55 #[.int .i64 m] w fun e w' => e = .returned (str (clockT m)) ∧ Lo w w' := by
  refine calls_W 18 Tryz.func55 rfl rfl rfl ?_
  refine W.seq ?_
  refine W.regS (SR.q' (r_as (v := str ([] : List UInt8)) rfl) <| SR.nil ?_)
  refine W.seq ?_
  refine W.regS (SR.q' (r_mv (v := .int .i64 _) rfl) <| SR.q' (r_quo rfl rfl (by omega)) <| SR.call ent54 (c_spec_l1Num w (m / 60) (by omega)) rfl ?_)
  rintro e w1 ⟨rfl, hk2⟩
  refine ⟨_, rfl, ?_⟩
  have hz3 := hk2.size
  have hB4 := (Lo.refl w).lo hk2
  have hq5 : (Lib.itoa (m / 60)).length ≤ 21 := itoa_len (n := m / 60) (by omega) (by omega)
  refine SR.q' (r_cat rfl rfl (by first | omega | (simp only [List.length_append, List.length_cons, List.length_nil, List.length_take, List.length_drop]; omega) | (simp only [List.length_append, List.length_cons, List.length_nil, List.length_take, List.length_drop] at *; omega))) <| SR.q' (r_as (v := str _) rfl) <| SR.nil ?_
  refine W.seq ?_
  refine W.seq ?_
  refine W.regS (SR.q' (r_mv (v := .int .i64 _) rfl) <| SR.q' (r_rem rfl rfl (by omega)) <| SR.q' (r_lt rfl rfl) <| SR.nil ?_)
  refine W.cond_d rfl (fun h6 => ?_) (fun h6 => ?_)
  · refine W.regS (SR.q' (r_mv (v := str _) rfl) <| SR.q' (r_cat rfl rfl (by first | omega | (simp only [List.length_append, List.length_cons, List.length_nil, List.length_take, List.length_drop]; omega) | (simp only [List.length_append, List.length_cons, List.length_nil, List.length_take, List.length_drop] at *; omega))) <| SR.q' (r_as (v := str _) rfl) <| SR.nil ?_)
    refine W.seq ?_
    refine W.regS (SR.q' (r_mv (v := str _) rfl) <| SR.q' (r_mv (v := .int .i64 _) rfl) <| SR.q' (r_rem rfl rfl (by omega)) <| SR.call ent54 (c_spec_l1Num w1 (m % 60) (by omega)) rfl ?_)
    rintro e w7 ⟨rfl, hk8⟩
    refine ⟨_, rfl, ?_⟩
    have hz9 := hk8.size
    have hB10 := hB4.lo hk8
    have hq11 : (Lib.itoa (m % 60)).length ≤ 21 := itoa_len (n := m % 60) (by omega) (by omega)
    refine SR.q' (r_cat rfl rfl (by first | omega | (simp only [List.length_append, List.length_cons, List.length_nil, List.length_take, List.length_drop]; omega) | (simp only [List.length_append, List.length_cons, List.length_nil, List.length_take, List.length_drop] at *; omega))) <| SR.q' (r_as (v := str _) rfl) <| SR.nil ?_
    refine W.ret ?_
    refine ret1 rfl (v := str _) rfl ?_
    exact ⟨eR (eS (z_c_spec_l30Clock_12 m hp0 hq5 h6 hq11)), hB10⟩
  · refine W.skip ?_
    refine W.seq ?_
    refine W.regS (SR.q' (r_mv (v := str _) rfl) <| SR.q' (r_mv (v := .int .i64 _) rfl) <| SR.q' (r_rem rfl rfl (by omega)) <| SR.call ent54 (c_spec_l1Num w1 (m % 60) (by omega)) rfl ?_)
    rintro e w13 ⟨rfl, hk14⟩
    refine ⟨_, rfl, ?_⟩
    have hz15 := hk14.size
    have hB16 := hB4.lo hk14
    have hq17 : (Lib.itoa (m % 60)).length ≤ 21 := itoa_len (n := m % 60) (by omega) (by omega)
    refine SR.q' (r_cat rfl rfl (by first | omega | (simp only [List.length_append, List.length_cons, List.length_nil, List.length_take, List.length_drop]; omega) | (simp only [List.length_append, List.length_cons, List.length_nil, List.length_take, List.length_drop] at *; omega))) <| SR.q' (r_as (v := str _) rfl) <| SR.nil ?_
    refine W.ret ?_
    refine ret1 rfl (v := str _) rfl ?_
    exact ⟨eR (eS (z_c_spec_l30Clock_18 m hp0 hq5 h6 hq17)), hB16⟩

theorem z_c_impl_clock_11 (m : Int) (hp0 : 0 ≤ m ∧ m ≤ 100000) (hq5 : (Lib.itoa (m / 60)).length ≤ 21) (hq10 : (twoD (m % 60)).length ≤ 42) : ((Lib.itoa (m / 60)) ++ ([58] : List UInt8)) ++ (twoD (m % 60)) = clockT m := by
  first | exact clock_eq m | exact clock_lt (by omega) ‹_› | exact clock_ge (by omega) ‹_›
theorem c_impl_clock (w : World) (m : Int) (hp0 : 0 ≤ m ∧ m ≤ 100000) (hE : EnvW w) : Calls Tryz.prog 52 #[.int .i64 m] w fun e w' => e = .returned (str (clockT m)) ∧ Lo w w' := by
  refine calls_W 11 Tryz.func52 rfl rfl rfl ?_
  refine W.seq ?_
  refine W.regS (SR.q' (r_as (v := str ([] : List UInt8)) rfl) <| SR.nil ?_)
  refine W.seq ?_
  refine W.regS (SR.q' (r_mv (v := .int .i64 _) rfl) <| SR.q' (r_quo rfl rfl (by omega)) <| SR.call ent51 (c_impl_text w (m / 60) (by omega) (hE.lo ((Lo.refl w)))) rfl ?_)
  rintro e w1 ⟨rfl, hk2⟩
  refine ⟨_, rfl, ?_⟩
  have hz3 := hk2.size
  have hB4 := (Lo.refl w).lo hk2
  have hq5 : (Lib.itoa (m / 60)).length ≤ 21 := itoa_len (n := m / 60) (by omega) (by omega)
  refine SR.q' (r_cat rfl rfl (by first | omega | (simp only [List.length_append, List.length_cons, List.length_nil, List.length_take, List.length_drop]; omega) | (simp only [List.length_append, List.length_cons, List.length_nil, List.length_take, List.length_drop] at *; omega))) <| SR.q' (r_mv (v := .int .i64 _) rfl) <| SR.q' (r_rem rfl rfl (by omega)) <| SR.call ent71 (c_impl_twoDigits w1 (m % 60) (by omega) (hE.lo (hB4))) rfl ?_
  rintro e w6 ⟨rfl, hk7⟩
  refine ⟨_, rfl, ?_⟩
  have hz8 := hk7.size
  have hB9 := hB4.lo hk7
  have hq10 : (twoD (m % 60)).length ≤ 42 := two_len (n := m % 60) (by omega)
  refine SR.q' (r_cat rfl rfl (by first | omega | (simp only [List.length_append, List.length_cons, List.length_nil, List.length_take, List.length_drop]; omega) | (simp only [List.length_append, List.length_cons, List.length_nil, List.length_take, List.length_drop] at *; omega))) <| SR.q' (r_as (v := str _) rfl) <| SR.nil ?_
  refine W.ret ?_
  refine ret1 rfl (v := str _) rfl ?_
  exact ⟨eR (eS (z_c_impl_clock_11 m hp0 hq5 hq10)), hB9⟩

open Classical in
noncomputable def spec_VisitText (v : Visit) : List UInt8 × Bool :=
  if VOK v then (((((((([114] : List UInt8) ++ (Lib.itoa v.Reader)) ++ ([32, 115, 101, 97, 116, 32] : List UInt8)) ++ (Lib.itoa v.Seat)) ++ ([32] : List UInt8)) ++ (clockT v.From)) ++ ([45] : List UInt8)) ++ (clockT v.Until), true) else (([] : List UInt8), false)
theorem c_spec_VisitText (w : World) (v : Visit) : Calls Tryz.prog 26 #[.agg (List.toArray (encVisit v))] w fun e w' => e = .returned (.tuple (List.toArray [str ((spec_VisitText v).1), .bool ((spec_VisitText v).2)])) ∧ Lo w w' := by
  refine calls_W 26 Tryz.func26 rfl rfl rfl ?_
  refine W.seq ?_
  refine W.regS (SR.box (v := .agg (List.toArray _)) (l := [.int .i64 v.Reader, .int .i64 v.Seat, .int .i64 v.From, .int .i64 v.Until]) rfl rfl ?_)
  intro g1 w2 hg3 hk4 hs5 hb6
  have hz7 := hk4.size
  have hB8 := (Lo.refl w).lo hk4
  refine SR.q' (r_as (v := str ([] : List UInt8)) rfl) <| SR.q' (r_as (v := .bool false) rfl) <| SR.nil ?_
  refine W.seq ?_
  refine W.seq ?_
  refine W.regS (SR.q' (r_lda (l := [.int .i64 v.Reader, .int .i64 v.Seat, .int .i64 v.From, .int .i64 v.Until]) agg45 rfl (fun _ _ hu => (hb6).cell hu) rfl) <| SR.call ent53 (c_spec_l30One w2 v) rfl ?_)
  rintro e w9 ⟨rfl, hk10⟩
  refine ⟨_, rfl, ?_⟩
  have hz11 := hk10.size
  have hB12 := hB8.lo hk10
  refine SR.q' (r_not rfl) <| SR.nil ?_
  refine W.cond_n rfl (fun h13 => ?_) (fun h13 => ?_)
  · refine W.seq ?_
    refine W.regS (SR.q' (r_as (v := str ([] : List UInt8)) rfl) <| SR.q' (r_as (v := .bool false) rfl) <| SR.nil ?_)
    refine W.ret ?_
    refine ret2 rfl (v := str _) (v' := .bool _) rfl rfl ?_
    exact ⟨eR (eT2 (eS (by unfold spec_VisitText; rw [if_neg h13] <;> rfl)) (eB (by unfold spec_VisitText; rw [if_neg h13] <;> rfl))), hB12⟩
  · have hq14 := vok_rng h13
    refine W.skip ?_
    refine W.seq ?_
    refine W.regD mo (by kernel_rfl) (QR.q' (fun w' hw' => r_fa fa45_0 rfl) <| QR.q' (fun w' hw' => r_ld (v := .int .i64 v.Reader) sca3 rfl ((((hb6).lo hk10).lo hw').cell rfl)) <| QR.call ent54 (fun w' hw' => (c_spec_l1Num w' v.Reader (by omega)).mono fun _ _ h => ⟨h.1, hw'.trans h.2⟩) rfl <| ?_)
    have hq15 : (Lib.itoa v.Reader).length ≤ 21 := itoa_len (n := v.Reader) (by omega) (by omega)
    refine QR.q' (fun w' hw' => r_cat rfl rfl (by first | omega | (simp only [List.length_append, List.length_cons, List.length_nil, List.length_take, List.length_drop]; omega) | (simp only [List.length_append, List.length_cons, List.length_nil, List.length_take, List.length_drop] at *; omega))) <| QR.q' (fun w' hw' => r_cat rfl rfl (by first | omega | (simp only [List.length_append, List.length_cons, List.length_nil, List.length_take, List.length_drop]; omega) | (simp only [List.length_append, List.length_cons, List.length_nil, List.length_take, List.length_drop] at *; omega))) <| QR.q' (fun w' hw' => r_fa fa45_1 rfl) <| QR.q' (fun w' hw' => r_ld (v := .int .i64 v.Seat) sca3 rfl ((((hb6).lo hk10).lo hw').cell rfl)) <| QR.call ent54 (fun w' hw' => (c_spec_l1Num w' v.Seat (by omega)).mono fun _ _ h => ⟨h.1, hw'.trans h.2⟩) rfl <| ?_
    have hq16 : (Lib.itoa v.Seat).length ≤ 21 := itoa_len (n := v.Seat) (by omega) (by omega)
    refine QR.q' (fun w' hw' => r_cat rfl rfl (by first | omega | (simp only [List.length_append, List.length_cons, List.length_nil, List.length_take, List.length_drop]; omega) | (simp only [List.length_append, List.length_cons, List.length_nil, List.length_take, List.length_drop] at *; omega))) <| QR.q' (fun w' hw' => r_cat rfl rfl (by first | omega | (simp only [List.length_append, List.length_cons, List.length_nil, List.length_take, List.length_drop]; omega) | (simp only [List.length_append, List.length_cons, List.length_nil, List.length_take, List.length_drop] at *; omega))) <| QR.q' (fun w' hw' => r_fa fa45_2 rfl) <| QR.q' (fun w' hw' => r_ld (v := .int .i64 v.From) sca3 rfl ((((hb6).lo hk10).lo hw').cell rfl)) <| QR.call ent55 (fun w' hw' => (c_spec_l30Clock w' v.From (by omega)).mono fun _ _ h => ⟨h.1, hw'.trans h.2⟩) rfl <| ?_
    have hq17 : (clockT v.From).length ≤ 100 := clock_len (m := v.From) (by omega)
    refine QR.q' (fun w' hw' => r_cat rfl rfl (by first | omega | (simp only [List.length_append, List.length_cons, List.length_nil, List.length_take, List.length_drop]; omega) | (simp only [List.length_append, List.length_cons, List.length_nil, List.length_take, List.length_drop] at *; omega))) <| QR.q' (fun w' hw' => r_cat rfl rfl (by first | omega | (simp only [List.length_append, List.length_cons, List.length_nil, List.length_take, List.length_drop]; omega) | (simp only [List.length_append, List.length_cons, List.length_nil, List.length_take, List.length_drop] at *; omega))) <| QR.q' (fun w' hw' => r_fa fa45_3 rfl) <| QR.q' (fun w' hw' => r_ld (v := .int .i64 v.Until) sca3 rfl ((((hb6).lo hk10).lo hw').cell rfl)) <| QR.call ent55 (fun w' hw' => (c_spec_l30Clock w' v.Until (by omega)).mono fun _ _ h => ⟨h.1, hw'.trans h.2⟩) rfl <| ?_
    have hq18 : (clockT v.Until).length ≤ 100 := clock_len (m := v.Until) (by omega)
    refine QR.q' (fun w' hw' => r_cat rfl rfl (by first | omega | (simp only [List.length_append, List.length_cons, List.length_nil, List.length_take, List.length_drop]; omega) | (simp only [List.length_append, List.length_cons, List.length_nil, List.length_take, List.length_drop] at *; omega))) <| QR.q' (fun w' hw' => r_as (v := str _) rfl) <| QR.q' (fun w' hw' => r_as (v := .bool true) rfl) <| QR.nil ?_
    intro w19 hk20
    have hz21 := hk20.size
    have hB22 := hB12.lo hk20
    refine W.ret ?_
    refine ret2 rfl (v := str _) (v' := .bool _) rfl rfl ?_
    exact ⟨eR (eT2 (eS (by unfold spec_VisitText; rw [if_pos h13] <;> rfl)) (eB (by unfold spec_VisitText; rw [if_pos h13] <;> rfl))), hB22⟩

open Classical in
noncomputable def impl_VisitText (v : Visit) : List UInt8 × Bool :=
  if VOK v then (((((((([114] : List UInt8) ++ (Lib.itoa v.Reader)) ++ ([32, 115, 101, 97, 116, 32] : List UInt8)) ++ (Lib.itoa v.Seat)) ++ ([32] : List UInt8)) ++ (clockT v.From)) ++ ([45] : List UInt8)) ++ (clockT v.Until), true) else (([] : List UInt8), false)
theorem c_impl_VisitText (w : World) (v : Visit) (hE : EnvW w) : Calls Tryz.prog 25 #[.agg (List.toArray (encVisit v))] w fun e w' => e = .returned (.tuple (List.toArray [str ((impl_VisitText v).1), .bool ((impl_VisitText v).2)])) ∧ Lo w w' := by
  refine calls_W 26 Tryz.func25 rfl rfl rfl ?_
  refine W.seq ?_
  refine W.regS (SR.box (v := .agg (List.toArray _)) (l := [.int .i64 v.Reader, .int .i64 v.Seat, .int .i64 v.From, .int .i64 v.Until]) rfl rfl ?_)
  intro g1 w2 hg3 hk4 hs5 hb6
  have hz7 := hk4.size
  have hB8 := (Lo.refl w).lo hk4
  refine SR.q' (r_as (v := str ([] : List UInt8)) rfl) <| SR.q' (r_as (v := .bool false) rfl) <| SR.nil ?_
  refine W.seq ?_
  refine W.seq ?_
  refine W.regS (SR.q' (r_lda (l := [.int .i64 v.Reader, .int .i64 v.Seat, .int .i64 v.From, .int .i64 v.Until]) agg45 rfl (fun _ _ hu => (hb6).cell hu) rfl) <| SR.call ent50 (c_impl_isVisit w2 v) rfl ?_)
  rintro e w9 ⟨rfl, hk10⟩
  refine ⟨_, rfl, ?_⟩
  have hz11 := hk10.size
  have hB12 := hB8.lo hk10
  refine SR.q' (r_not rfl) <| SR.nil ?_
  refine W.cond_n rfl (fun h13 => ?_) (fun h13 => ?_)
  · refine W.seq ?_
    refine W.regS (SR.q' (r_as (v := str ([] : List UInt8)) rfl) <| SR.q' (r_as (v := .bool false) rfl) <| SR.nil ?_)
    refine W.ret ?_
    refine ret2 rfl (v := str _) (v' := .bool _) rfl rfl ?_
    exact ⟨eR (eT2 (eS (by unfold impl_VisitText; rw [if_neg h13] <;> rfl)) (eB (by unfold impl_VisitText; rw [if_neg h13] <;> rfl))), hB12⟩
  · have hq14 := vok_rng h13
    refine W.skip ?_
    refine W.seq ?_
    refine W.regD mo (by kernel_rfl) (QR.q' (fun w' hw' => r_fa fa45_0 rfl) <| QR.q' (fun w' hw' => r_ld (v := .int .i64 v.Reader) sca3 rfl ((((hb6).lo hk10).lo hw').cell rfl)) <| QR.call ent51 (fun w' hw' => (c_impl_text w' v.Reader (by omega) (hE.lo (hB12.trans hw'))).mono fun _ _ h => ⟨h.1, hw'.trans h.2⟩) rfl <| ?_)
    have hq15 : (Lib.itoa v.Reader).length ≤ 21 := itoa_len (n := v.Reader) (by omega) (by omega)
    refine QR.q' (fun w' hw' => r_cat rfl rfl (by first | omega | (simp only [List.length_append, List.length_cons, List.length_nil, List.length_take, List.length_drop]; omega) | (simp only [List.length_append, List.length_cons, List.length_nil, List.length_take, List.length_drop] at *; omega))) <| QR.q' (fun w' hw' => r_cat rfl rfl (by first | omega | (simp only [List.length_append, List.length_cons, List.length_nil, List.length_take, List.length_drop]; omega) | (simp only [List.length_append, List.length_cons, List.length_nil, List.length_take, List.length_drop] at *; omega))) <| QR.q' (fun w' hw' => r_fa fa45_1 rfl) <| QR.q' (fun w' hw' => r_ld (v := .int .i64 v.Seat) sca3 rfl ((((hb6).lo hk10).lo hw').cell rfl)) <| QR.call ent51 (fun w' hw' => (c_impl_text w' v.Seat (by omega) (hE.lo (hB12.trans hw'))).mono fun _ _ h => ⟨h.1, hw'.trans h.2⟩) rfl <| ?_
    have hq16 : (Lib.itoa v.Seat).length ≤ 21 := itoa_len (n := v.Seat) (by omega) (by omega)
    refine QR.q' (fun w' hw' => r_cat rfl rfl (by first | omega | (simp only [List.length_append, List.length_cons, List.length_nil, List.length_take, List.length_drop]; omega) | (simp only [List.length_append, List.length_cons, List.length_nil, List.length_take, List.length_drop] at *; omega))) <| QR.q' (fun w' hw' => r_cat rfl rfl (by first | omega | (simp only [List.length_append, List.length_cons, List.length_nil, List.length_take, List.length_drop]; omega) | (simp only [List.length_append, List.length_cons, List.length_nil, List.length_take, List.length_drop] at *; omega))) <| QR.q' (fun w' hw' => r_fa fa45_2 rfl) <| QR.q' (fun w' hw' => r_ld (v := .int .i64 v.From) sca3 rfl ((((hb6).lo hk10).lo hw').cell rfl)) <| QR.call ent52 (fun w' hw' => (c_impl_clock w' v.From (by omega) (hE.lo (hB12.trans hw'))).mono fun _ _ h => ⟨h.1, hw'.trans h.2⟩) rfl <| ?_
    have hq17 : (clockT v.From).length ≤ 100 := clock_len (m := v.From) (by omega)
    refine QR.q' (fun w' hw' => r_cat rfl rfl (by first | omega | (simp only [List.length_append, List.length_cons, List.length_nil, List.length_take, List.length_drop]; omega) | (simp only [List.length_append, List.length_cons, List.length_nil, List.length_take, List.length_drop] at *; omega))) <| QR.q' (fun w' hw' => r_cat rfl rfl (by first | omega | (simp only [List.length_append, List.length_cons, List.length_nil, List.length_take, List.length_drop]; omega) | (simp only [List.length_append, List.length_cons, List.length_nil, List.length_take, List.length_drop] at *; omega))) <| QR.q' (fun w' hw' => r_fa fa45_3 rfl) <| QR.q' (fun w' hw' => r_ld (v := .int .i64 v.Until) sca3 rfl ((((hb6).lo hk10).lo hw').cell rfl)) <| QR.call ent52 (fun w' hw' => (c_impl_clock w' v.Until (by omega) (hE.lo (hB12.trans hw'))).mono fun _ _ h => ⟨h.1, hw'.trans h.2⟩) rfl <| ?_
    have hq18 : (clockT v.Until).length ≤ 100 := clock_len (m := v.Until) (by omega)
    refine QR.q' (fun w' hw' => r_cat rfl rfl (by first | omega | (simp only [List.length_append, List.length_cons, List.length_nil, List.length_take, List.length_drop]; omega) | (simp only [List.length_append, List.length_cons, List.length_nil, List.length_take, List.length_drop] at *; omega))) <| QR.q' (fun w' hw' => r_as (v := str _) rfl) <| QR.q' (fun w' hw' => r_as (v := .bool true) rfl) <| QR.nil ?_
    intro w19 hk20
    have hz21 := hk20.size
    have hB22 := hB12.lo hk20
    refine W.ret ?_
    refine ret2 rfl (v := str _) (v' := .bool _) rfl rfl ?_
    exact ⟨eR (eT2 (eS (by unfold impl_VisitText; rw [if_pos h13] <;> rfl)) (eB (by unfold impl_VisitText; rw [if_pos h13] <;> rfl))), hB22⟩
end Go.Proofs.YthgbcadgnihdiaaGreatDoor
