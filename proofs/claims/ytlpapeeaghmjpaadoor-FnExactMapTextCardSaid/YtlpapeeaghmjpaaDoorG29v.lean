/- Walks, printed by a program of this claim's author. -/
import Derived.Test.YtlpapeeaghmjpaaDoorChecked
import Derived.Test.YtlpapeeaghmjpaaDoorUt
import Derived.Test.YtlpapeeaghmjpaaDoorFt
import Derived.Test.YtlpapeeaghmjpaaDoorSi
import Derived.Test.YtlpapeeaghmjpaaDoorG29u
namespace Go.Proofs.YtlpapeeaghmjpaaDoor
open Go Go.RowKit Fw
set_option maxRecDepth 10000
set_option linter.unusedVariables false
theorem agg25 : TAgg Tryd.prog 25 5 := ⟨fun _ => by kernel_rfl, fun _ => by kernel_rfl⟩
theorem ent10 : Ent Tryd.prog 10 := ent_of Tryd.func10 (by decide +kernel) rfl
theorem ent43 : Ent Tryd.prog 43 := ent_of Tryd.func43 (by decide +kernel) rfl
theorem ent44 : Ent Tryd.prog 44 := ent_of Tryd.func44 (by decide +kernel) rfl
theorem ent48 : Ent Tryd.prog 48 := ent_of Tryd.func48 (by decide +kernel) rfl
theorem ent49 : Ent Tryd.prog 49 := ent_of Tryd.func49 (by decide +kernel) rfl
theorem ent50 : Ent Tryd.prog 50 := ent_of Tryd.func50 (by decide +kernel) rfl
theorem ent6 : Ent Tryd.prog 6 := ent_of Tryd.func6 (by decide +kernel) rfl
theorem ent63 : Ent Tryd.prog 63 := ent_of Tryd.func63 (by decide +kernel) rfl
theorem ent7 : Ent Tryd.prog 7 := ent_of Tryd.func7 (by decide +kernel) rfl
theorem ent8 : Ent Tryd.prog 8 := ent_of Tryd.func8 (by decide +kernel) rfl
theorem ent82 : Ent Tryd.prog 82 := ent_of Tryd.func82 (by decide +kernel) rfl
theorem ent9 : Ent Tryd.prog 9 := ent_of Tryd.func9 (by decide +kernel) rfl
theorem und4 : Tryd.prog.underlying 4 = some (.bool) := by kernel_rfl
theorem und9 : Tryd.prog.underlying 9 = some (.string) := by kernel_rfl

theorem z_c_spec_l1Num_7 (n : Int) (hp0 : -9223372036854775807 ≤ n ∧ n ≤ 9223372036854775807) (h1 : n < 0) (hq6 : (Lib.itoa (-n)).length ≤ 21) : ([45] : List UInt8) ++ (Lib.itoa (-n)) = Lib.itoa n := by
  first | exact itoa_m ‹_› | exact itoa_d (by omega) ‹_› | exact itoa_b (by omega)
theorem z_c_spec_l1Num_9 (n : Int) (hp0 : -9223372036854775807 ≤ n ∧ n ≤ 9223372036854775807) (h1 : ¬ (n < 0)) (h8 : n < 10) : (([48, 49, 50, 51, 52, 53, 54, 55, 56, 57] : List UInt8).drop n.toNat).take (((n + 1).toNat) - n.toNat) = Lib.itoa n := by
  first | exact itoa_m ‹_› | exact itoa_d (by omega) ‹_› | exact itoa_b (by omega)
theorem z_c_spec_l1Num_15 (n : Int) (hp0 : -9223372036854775807 ≤ n ∧ n ≤ 9223372036854775807) (h1 : ¬ (n < 0)) (h8 : ¬ (n < 10)) (hq10 : (Lib.itoa (n / 10)).length ≤ 21) : (Lib.itoa (n / 10)) ++ ((([48, 49, 50, 51, 52, 53, 54, 55, 56, 57] : List UInt8).drop ((n % 10).toNat)).take ((((n % 10) + 1).toNat) - ((n % 10).toNat))) = Lib.itoa n := by
  first | exact itoa_m ‹_› | exact itoa_d (by omega) ‹_› | exact itoa_b (by omega)
theorem c_spec_l1Num (w : World) (n : Int) (hp0 : -9223372036854775807 ≤ n ∧ n ≤ 9223372036854775807) : Calls Tryd.prog 63 #[.int .i64 n] w fun e w' => e = .returned (str (Lib.itoa n)) ∧ Lo w w' := by
  refine calls_W 25 Tryd.func63 rfl rfl rfl ?_
  refine W.seq ?_
  refine W.regS (SR.q' (r_as (v := str ([] : List UInt8)) rfl) <| SR.nil ?_)
  refine W.seq ?_
  refine W.seq ?_
  refine W.regS (SR.q' (r_mv (v := .int .i64 _) rfl) <| SR.q' (r_lt rfl rfl) <| SR.nil ?_)
  refine W.cond_d rfl (fun h1 => ?_) (fun h1 => ?_)
  · refine W.seq ?_
    refine W.regS (SR.q' (r_mv (v := .int .i64 _) rfl) <| SR.q' (r_neg rfl (by omega)) <| SR.call ent63 (c_spec_l1Num w (-n) (by omega)) rfl ?_)
    rintro e w2 ⟨rfl, hk3⟩
    refine ⟨_, rfl, ?_⟩
    have hz4 := hk3.size
    have hB5 := (Lo.refl w).lo hk3
    have hq6 : (Lib.itoa (-n)).length ≤ 21 := itoa_len (n := -n) (by omega) (by omega)
    refine SR.q' (r_cat rfl rfl (by first | omega | (simp only [List.length_append, List.length_cons, List.length_nil, List.length_take, List.length_drop]; omega) | (simp only [List.length_append, List.length_cons, List.length_nil, List.length_take, List.length_drop] at *; omega))) <| SR.q' (r_as (v := str _) rfl) <| SR.nil ?_
    refine W.ret ?_
    refine ret1 rfl (v := str _) rfl ?_
    exact ⟨eR (eS (z_c_spec_l1Num_7 n hp0 h1 hq6)), hB5⟩
  · refine W.skip ?_
    refine W.seq ?_
    refine W.seq ?_
    refine W.regS (SR.q' (r_mv (v := .int .i64 _) rfl) <| SR.q' (r_lt rfl rfl) <| SR.nil ?_)
    refine W.cond_d rfl (fun h8 => ?_) (fun h8 => ?_)
    · refine W.seq ?_
      refine W.regS (SR.q' (r_mv (v := .int .i64 _) rfl) <| SR.q' (r_mv (v := .int .i64 _) rfl) <| SR.q' (r_add rfl rfl (by omega)) <| SR.q' (r_cutS (l := n.toNat) (h := (n + 1).toNat) und9 rfl rfl rfl (by omega) (by omega) (by omega) (by first | omega | (simp only [List.length_append, List.length_cons, List.length_nil, List.length_take, List.length_drop]; omega) | (simp only [List.length_append, List.length_cons, List.length_nil, List.length_take, List.length_drop] at *; omega))) <| SR.q' (r_as (v := str _) rfl) <| SR.nil ?_)
      refine W.ret ?_
      refine ret1 rfl (v := str _) rfl ?_
      exact ⟨eR (eS (z_c_spec_l1Num_9 n hp0 h1 h8)), (Lo.refl w)⟩
    · refine W.skip ?_
      refine W.seq ?_
      refine W.regD mo (by kernel_rfl) (QR.q' (fun w' hw' => r_mv (v := .int .i64 _) rfl) <| QR.q' (fun w' hw' => r_quo rfl rfl (by omega)) <| QR.call ent63 (fun w' hw' => (c_spec_l1Num w' (n / 10) (by omega)).mono fun _ _ h => ⟨h.1, hw'.trans h.2⟩) rfl <| ?_)
      have hq10 : (Lib.itoa (n / 10)).length ≤ 21 := itoa_len (n := n / 10) (by omega) (by omega)
      refine QR.q' (fun w' hw' => r_mv (v := .int .i64 _) rfl) <| QR.q' (fun w' hw' => r_rem rfl rfl (by omega)) <| QR.q' (fun w' hw' => r_mv (v := .int .i64 _) rfl) <| QR.q' (fun w' hw' => r_rem rfl rfl (by omega)) <| QR.q' (fun w' hw' => r_add rfl rfl (by omega)) <| QR.q' (fun w' hw' => r_cutS (l := (n % 10).toNat) (h := ((n % 10) + 1).toNat) und9 rfl rfl rfl (by omega) (by omega) (by omega) (by first | omega | (simp only [List.length_append, List.length_cons, List.length_nil, List.length_take, List.length_drop]; omega) | (simp only [List.length_append, List.length_cons, List.length_nil, List.length_take, List.length_drop] at *; omega))) <| QR.q' (fun w' hw' => r_cat rfl rfl (by first | omega | (simp only [List.length_append, List.length_cons, List.length_nil, List.length_take, List.length_drop]; omega) | (simp only [List.length_append, List.length_cons, List.length_nil, List.length_take, List.length_drop] at *; omega))) <| QR.q' (fun w' hw' => r_as (v := str _) rfl) <| QR.nil ?_
      intro w11 hk12
      have hz13 := hk12.size
      have hB14 := (Lo.refl w).lo hk12
      refine W.ret ?_
      refine ret1 rfl (v := str _) rfl ?_
      exact ⟨eR (eS (z_c_spec_l1Num_15 n hp0 h1 h8 hq10)), hB14⟩
termination_by n.toNat + 2 * (-n).toNat
decreasing_by all_goals omega

theorem z_c_spec_l32Text_66 (x : Library) (nx_Maps : Nat) (hbdx_Maps : (nx_Maps : Int) ≤ 9223372036854775807) (hlex_Maps : nx_Maps = x.Maps.length) (nx_Away : Nat) (hbdx_Away : (nx_Away : Int) ≤ 9223372036854775807) (hlex_Away : nx_Away = x.Away.length) (i : Int) (hp0 : LibOK x) (hp1 : 0 ≤ i ∧ i < (nx_Maps : Int)) (hx10 : x.Maps[i.toNat]? = some (gt x.Maps i.toNat)) (hq11 : ((1 : Int) ≤ (gt x.Maps i.toNat).Id ∧ (gt x.Maps i.toNat).Id ≤ 99) ∧ ((0 : Int) ≤ (gt x.Maps i.toNat).Copies ∧ (gt x.Maps i.toNat).Copies ≤ 99) ∧ ((0 : Int) ≤ (gt x.Maps i.toNat).Torn ∧ (gt x.Maps i.toNat).Torn ≤ (gt x.Maps i.toNat).Copies)) (n45 : Nat) (hq35 : (Lib.itoa ((gt x.Maps i.toNat).Copies)).length ≤ 21) (hq41 : (Lib.itoa ((gt x.Maps i.toNat).Torn)).length ≤ 21) (hl51 : n45 = (selL (ofM ((gt x.Maps i.toNat).Id)) Away.Reader x.Away).length) (hl52 : (n45 : Int) ≤ 9223372036854775807) (hq53 : (selL (ofM ((gt x.Maps i.toNat).Id)) Away.Reader x.Away).length ≤ x.Away.length) (hq59 : (Lib.itoa (n45 : Int)).length ≤ 21) : ((((Lib.itoa ((gt x.Maps i.toNat).Copies)) ++ ([32, 116, 111, 114, 110, 32] : List UInt8)) ++ (Lib.itoa ((gt x.Maps i.toNat).Torn))) ++ ([32, 97, 119, 97, 121, 32] : List UInt8)) ++ (Lib.itoa (n45 : Int)) = textL x i := by
  unfold textL textM; rw [← ‹_ = (selL _ _ _).length›]
theorem c_spec_l32Text (w : World) (x : Library) {Ax_Maps : Option Addr} {nx_Maps cx_Maps Bx_Maps : Nat} (hx_Maps : SlR w Bx_Maps encLMap 3 Ax_Maps nx_Maps cx_Maps x.Maps) {Ax_Away : Option Addr} {nx_Away cx_Away Bx_Away : Nat} (hx_Away : SlR w Bx_Away encAway 2 Ax_Away nx_Away cx_Away x.Away) (i : Int) (hp0 : LibOK x) (hp1 : 0 ≤ i ∧ i < (nx_Maps : Int)) : Calls Tryd.prog 44 #[.agg (List.toArray [.slice Ax_Maps nx_Maps cx_Maps, .slice Ax_Away nx_Away cx_Away, .int .i64 x.Bought, .int .i64 x.Dropped, .int .i64 x.Mended]), .int .i64 i] w fun e w' => e = .returned (str (textL x i)) ∧ Lo w w' := by
  refine calls_W 27 Tryd.func44 rfl rfl rfl ?_
  have hbdx_Maps := hx_Maps.bound
  have hlex_Maps := hx_Maps.len
  have hBbx_Maps := hx_Maps.bd
  have hbdx_Away := hx_Away.bound
  have hlex_Away := hx_Away.len
  have hBbx_Away := hx_Away.bd
  have hla := lib_len hp0
  refine W.seq ?_
  refine W.regS (SR.box (v := .agg (List.toArray _)) (l := [.slice Ax_Maps nx_Maps cx_Maps, .slice Ax_Away nx_Away cx_Away, .int .i64 x.Bought, .int .i64 x.Dropped, .int .i64 x.Mended]) rfl rfl ?_)
  intro g1 w2 hg3 hk4 hs5 hb6
  have hz7 := hk4.size
  have hB8 := (Lo.refl w).lo hk4
  refine SR.q' (r_as (v := str ([] : List UInt8)) rfl) <| SR.nil ?_
  refine W.seq ?_
  refine W.regS (SR.q' (r_fa fa32_0 rfl) <| SR.q' (r_ld (v := .slice Ax_Maps nx_Maps cx_Maps) sca29 rfl ((hb6).cell rfl)) <| SR.q' (r_mv (v := .int .i64 _) rfl) <| ?_)
  have hx10 := ((hx_Maps).lo hk4).elem (i := i.toNat) (by omega)
  have hq11 := maps_rng ‹LibOK x›.1.1 hx10
  refine SR.q' (r_ixR tsl29 ((hx_Maps).lo hk4) rfl rfl (by omega)) <| SR.q' (r_lda (l := encLMap (gt x.Maps i.toNat)) agg77 rfl (fun _ _ hu => ((hx_Maps).lo hk4).cell hx10 hu) (((hx_Maps).lo hk4).esz _)) <| SR.alloc (l := [.int .i64 0, .int .i64 0, .int .i64 0]) tz77 rfl ?_
  intro g12 w13 hg14 hk15 hs16 hb17
  have hz18 := hk15.size
  have hB19 := hB8.lo hk15
  refine SR.store (o := 0) (vs := [.int .i64 ((gt x.Maps i.toNat).Id), .int .i64 ((gt x.Maps i.toNat).Copies), .int .i64 ((gt x.Maps i.toNat).Torn)]) agg77.2 rfl rfl rfl rfl (hb17) (Nat.le_of_ble_eq_true rfl) rfl ?_
  intro w20 hk21 hs22 hb23
  have hz24 := hk21.size
  have hB25 := hB19.new hk21 (by omega)
  refine SR.nil ?_
  refine W.seq ?_
  refine W.regA (Lo w20) (fun f' w' => ∃ (A44 : Option Addr), ∃ (n45 : Nat), ∃ (c46 : Nat), At f' [(4, str (((((Lib.itoa ((gt x.Maps i.toNat).Copies)) ++ ([32, 116, 111, 114, 110, 32] : List UInt8)) ++ (Lib.itoa ((gt x.Maps i.toNat).Torn))) ++ ([32, 97, 119, 97, 121, 32] : List UInt8)) ++ (Lib.itoa (n45 : Int))))] ∧ (Lo w20 w') ∧ ((Lib.itoa ((gt x.Maps i.toNat).Copies)).length ≤ 21) ∧ ((Lib.itoa ((gt x.Maps i.toNat).Torn)).length ≤ 21) ∧ (n45 = (selL (ofM ((gt x.Maps i.toNat).Id)) Away.Reader x.Away).length) ∧ ((n45 : Int) ≤ 9223372036854775807) ∧ ((selL (ofM ((gt x.Maps i.toNat).Id)) Away.Reader x.Away).length ≤ x.Away.length) ∧ ((Lib.itoa (n45 : Int)).length ≤ 21)) mo ?_ ?_
  · intro w26 hk27
    have hz28 := hk27.size
    have hB29 := hB25.lo hk27
    refine AH.take 0 rfl (by kernel_rfl) trivial (hk27) (fun w' hw' => r_fa fa77_1 rfl) <| AH.take 1 rfl (by kernel_rfl) trivial (hk27) (fun w' hw' => r_ld (v := .int .i64 ((gt x.Maps i.toNat).Copies)) sca3 rfl (((hb23).lo hw').cell rfl)) <| AH.take 4 rfl (by kernel_rfl) trivial (hk27) (fun w' hw' => r_fa fa77_2 rfl) <| AH.take 5 rfl (by kernel_rfl) trivial (hk27) (fun w' hw' => r_ld (v := .int .i64 ((gt x.Maps i.toNat).Torn)) sca3 rfl (((hb23).lo hw').cell rfl)) <| AH.take 9 rfl (by kernel_rfl) trivial (hk27) (fun w' hw' => r_lda (l := [.slice Ax_Maps nx_Maps cx_Maps, .slice Ax_Away nx_Away cx_Away, .int .i64 x.Bought, .int .i64 x.Dropped, .int .i64 x.Mended]) agg32 rfl (fun _ _ hu => ((((hb6).lo hk15).kp hk21 (fun e' => by have e'' : g1 = g12 := e'; omega)).lo hw').cell hu) rfl) <| AH.take 10 rfl (by kernel_rfl) trivial (hk27) (fun w' hw' => r_fa fa77_0 rfl) <| AH.take 11 rfl (by kernel_rfl) trivial (hk27) (fun w' hw' => r_ld (v := .int .i64 ((gt x.Maps i.toNat).Id)) sca3 rfl (((hb23).lo hw').cell rfl)) <| AH.br [2] (by kernel_rfl) rfl ⟨Br.mk' rfl trivial ?_, trivial⟩
    refine SR.call ent63 (c_spec_l1Num w26 ((gt x.Maps i.toNat).Copies) (by omega)) rfl ?_
    rintro e w30 ⟨rfl, hk31⟩
    refine ⟨_, rfl, ?_⟩
    have hz32 := hk31.size
    have hB33 := hB29.lo hk31
    have hS34 := (hk27).lo hk31
    have hq35 : (Lib.itoa ((gt x.Maps i.toNat).Copies)).length ≤ 21 := itoa_len (n := (gt x.Maps i.toNat).Copies) (by omega) (by omega)
    refine SR.nil ⟨hS34, _, rfl, ?_⟩
    refine AH.take 3 rfl (by kernel_rfl) trivial (hS34) (fun w' hw' => r_cat rfl rfl (by first | omega | (simp only [List.length_append, List.length_cons, List.length_nil, List.length_take, List.length_drop]; omega) | (simp only [List.length_append, List.length_cons, List.length_nil, List.length_take, List.length_drop] at *; omega))) <| AH.br [6] (by kernel_rfl) rfl ⟨Br.mk' rfl trivial ?_, trivial⟩
    refine SR.call ent63 (c_spec_l1Num w30 ((gt x.Maps i.toNat).Torn) (by omega)) rfl ?_
    rintro e w36 ⟨rfl, hk37⟩
    refine ⟨_, rfl, ?_⟩
    have hz38 := hk37.size
    have hB39 := hB33.lo hk37
    have hS40 := (hS34).lo hk37
    have hq41 : (Lib.itoa ((gt x.Maps i.toNat).Torn)).length ≤ 21 := itoa_len (n := (gt x.Maps i.toNat).Torn) (by omega) (by omega)
    refine SR.nil ⟨hS40, _, rfl, ?_⟩
    refine AH.take 7 rfl (by kernel_rfl) trivial (hS40) (fun w' hw' => r_cat rfl rfl (by first | omega | (simp only [List.length_append, List.length_cons, List.length_nil, List.length_take, List.length_drop]; omega) | (simp only [List.length_append, List.length_cons, List.length_nil, List.length_take, List.length_drop] at *; omega))) <| AH.take 8 rfl (by kernel_rfl) trivial (hS40) (fun w' hw' => r_cat rfl rfl (by first | omega | (simp only [List.length_append, List.length_cons, List.length_nil, List.length_take, List.length_drop]; omega) | (simp only [List.length_append, List.length_cons, List.length_nil, List.length_take, List.length_drop] at *; omega))) <| AH.br [12] (by kernel_rfl) rfl ⟨Br.mk' rfl trivial ?_, trivial⟩
    refine SR.call ent82 (c_spec_l32At w36 x ((((((((hx_Maps).lo hk4).lo hk15).kp hk21 (fun b_ hb e' => by have e'' : b_ = g12 := e'; omega)).lo hk27).lo hk31).lo hk37)) ((((((((hx_Away).lo hk4).lo hk15).kp hk21 (fun b_ hb e' => by have e'' : b_ = g12 := e'; omega)).lo hk27).lo hk31).lo hk37)) ((gt x.Maps i.toNat).Id) (by omega)) rfl ?_
    rintro e w42 ⟨A44, n45, c46, rfl, hO47, hk43⟩
    refine ⟨_, rfl, ?_⟩
    have hz48 := hk43.size
    have hB49 := hB39.lo hk43
    have hS50 := (hS40).lo hk43
    have hl51 := hO47.len
    have hl52 := hO47.rd.bound
    have hq53 := sel_len x.Away (ofM ((gt x.Maps i.toNat).Id)) Away.Reader
    refine SR.nil ⟨hS50, _, rfl, ?_⟩
    refine AH.take 13 rfl (by kernel_rfl) trivial (hS50) (fun w' hw' => r_len und38 rfl) <| AH.br [14] (by kernel_rfl) rfl ⟨Br.mk' rfl trivial ?_, trivial⟩
    refine SR.call ent63 (c_spec_l1Num w42 (n45 : Int) (by omega)) rfl ?_
    rintro e w54 ⟨rfl, hk55⟩
    refine ⟨_, rfl, ?_⟩
    have hz56 := hk55.size
    have hB57 := hB49.lo hk55
    have hS58 := (hS50).lo hk55
    have hq59 : (Lib.itoa (n45 : Int)).length ≤ 21 := itoa_len (n := (n45 : Int)) (by omega) (by omega)
    refine SR.nil ⟨hS58, _, rfl, ?_⟩
    refine AH.take 15 rfl (by kernel_rfl) trivial (hS58) (fun w' hw' => r_cat rfl rfl (by first | omega | (simp only [List.length_append, List.length_cons, List.length_nil, List.length_take, List.length_drop]; omega) | (simp only [List.length_append, List.length_cons, List.length_nil, List.length_take, List.length_drop] at *; omega))) <| AH.take 16 rfl (by kernel_rfl) trivial (hS58) (fun w' hw' => r_as (v := str _) rfl) <| AH.done (by kernel_rfl) ?_
    exact ⟨A44, n45, c46, ⟨rfl, trivial⟩, hS58, hq35, hq41, hl51, hl52, hq53, hq59⟩
  rintro f60 w61 ⟨A44, n45, c46, hat63, hR62, hq35, hq41, hl51, hl52, hq53, hq59⟩
  rw [← sets_of_at hat63]
  have hz64 := hR62.size
  have hB65 := hB25.lo hR62
  refine W.ret ?_
  refine ret1 rfl (v := str _) rfl ?_
  exact ⟨eR (eS (z_c_spec_l32Text_66 x nx_Maps hbdx_Maps hlex_Maps nx_Away hbdx_Away hlex_Away i hp0 hp1 hx10 hq11 n45 hq35 hq41 hl51 hl52 hq53 hq59)), hB65⟩

theorem z_c_spec_MapText_30 (x : Library) (nx_Maps : Nat) (hbdx_Maps : (nx_Maps : Int) ≤ 9223372036854775807) (hlex_Maps : nx_Maps = x.Maps.length) (nx_Away : Nat) (hbdx_Away : (nx_Away : Int) ≤ 9223372036854775807) (hlex_Away : nx_Away = x.Away.length) (id : Int) (hq13 : idxF (hasId id) x.Maps < (x.Maps.length : Int) ∧ -1 ≤ idxF (hasId id) x.Maps) (h29 : (¬ (LibOK x)) ∨ ((idxF (hasId id) x.Maps) < 0)) : ([] : List UInt8) = (mapT x id).1 := by
  first | (rw [mapT_noI ‹_›]; done) | (rw [mapT_noS ‹_›]; done) | (rw [mapT_eqI ‹bsF _ _ _› ‹LibOK _›, ← ‹_ = (selL _ _ _).length›]; first | done | rfl) | (rw [mapT_eqS ⟨‹LibOK x›, by omega⟩]; first | done | rfl)
theorem z_c_spec_MapText_31 (x : Library) (nx_Maps : Nat) (hbdx_Maps : (nx_Maps : Int) ≤ 9223372036854775807) (hlex_Maps : nx_Maps = x.Maps.length) (nx_Away : Nat) (hbdx_Away : (nx_Away : Int) ≤ 9223372036854775807) (hlex_Away : nx_Away = x.Away.length) (id : Int) (hq13 : idxF (hasId id) x.Maps < (x.Maps.length : Int) ∧ -1 ≤ idxF (hasId id) x.Maps) (h29 : (¬ (LibOK x)) ∨ ((idxF (hasId id) x.Maps) < 0)) : false = (mapT x id).2 := by
  first | (rw [mapT_noI ‹_›]; done) | (rw [mapT_noS ‹_›]; done) | (rw [mapT_eqI ‹bsF _ _ _› ‹LibOK _›]; done) | (rw [mapT_eqS ⟨‹LibOK x›, by omega⟩]; done)
theorem z_c_spec_MapText_44 (x : Library) (nx_Maps : Nat) (hbdx_Maps : (nx_Maps : Int) ≤ 9223372036854775807) (hlex_Maps : nx_Maps = x.Maps.length) (nx_Away : Nat) (hbdx_Away : (nx_Away : Int) ≤ 9223372036854775807) (hlex_Away : nx_Away = x.Away.length) (id : Int) (hq13 : idxF (hasId id) x.Maps < (x.Maps.length : Int) ∧ -1 ≤ idxF (hasId id) x.Maps) (h29 : ¬ ((¬ (LibOK x)) ∨ ((idxF (hasId id) x.Maps) < 0))) (hq32 : LibOK x) (hq33 : ¬ ((idxF (hasId id) x.Maps) < 0)) (hq34 : MapsOK x.Maps ∧ x.Maps.length ≤ 8) (hq35 : x.Away.length ≤ 8) (hq36 : 0 ≤ (idxF (hasId id) x.Maps)) (hq37 : MapsOK x.Maps) (hq38 : x.Maps.length ≤ 8) (hq43 : (textL x (idxF (hasId id) x.Maps)).length ≤ 75) : textL x (idxF (hasId id) x.Maps) = (mapT x id).1 := by
  first | (rw [mapT_noI ‹_›]; done) | (rw [mapT_noS ‹_›]; done) | (rw [mapT_eqI ‹bsF _ _ _› ‹LibOK _›, ← ‹_ = (selL _ _ _).length›]; first | done | rfl) | (rw [mapT_eqS ⟨‹LibOK x›, by omega⟩]; first | done | rfl)
theorem z_c_spec_MapText_45 (x : Library) (nx_Maps : Nat) (hbdx_Maps : (nx_Maps : Int) ≤ 9223372036854775807) (hlex_Maps : nx_Maps = x.Maps.length) (nx_Away : Nat) (hbdx_Away : (nx_Away : Int) ≤ 9223372036854775807) (hlex_Away : nx_Away = x.Away.length) (id : Int) (hq13 : idxF (hasId id) x.Maps < (x.Maps.length : Int) ∧ -1 ≤ idxF (hasId id) x.Maps) (h29 : ¬ ((¬ (LibOK x)) ∨ ((idxF (hasId id) x.Maps) < 0))) (hq32 : LibOK x) (hq33 : ¬ ((idxF (hasId id) x.Maps) < 0)) (hq34 : MapsOK x.Maps ∧ x.Maps.length ≤ 8) (hq35 : x.Away.length ≤ 8) (hq36 : 0 ≤ (idxF (hasId id) x.Maps)) (hq37 : MapsOK x.Maps) (hq38 : x.Maps.length ≤ 8) (hq43 : (textL x (idxF (hasId id) x.Maps)).length ≤ 75) : true = (mapT x id).2 := by
  first | (rw [mapT_noI ‹_›]; done) | (rw [mapT_noS ‹_›]; done) | (rw [mapT_eqI ‹bsF _ _ _› ‹LibOK _›]; done) | (rw [mapT_eqS ⟨‹LibOK x›, by omega⟩]; done)
theorem c_spec_MapText (w : World) (x : Library) {Ax_Maps : Option Addr} {nx_Maps cx_Maps Bx_Maps : Nat} (hx_Maps : SlR w Bx_Maps encLMap 3 Ax_Maps nx_Maps cx_Maps x.Maps) {Ax_Away : Option Addr} {nx_Away cx_Away Bx_Away : Nat} (hx_Away : SlR w Bx_Away encAway 2 Ax_Away nx_Away cx_Away x.Away) (id : Int) : Calls Tryd.prog 7 #[.agg (List.toArray [.slice Ax_Maps nx_Maps cx_Maps, .slice Ax_Away nx_Away cx_Away, .int .i64 x.Bought, .int .i64 x.Dropped, .int .i64 x.Mended]), .int .i64 id] w fun e w' => e = .returned (.tuple (List.toArray [str ((mapT x id).1), .bool ((mapT x id).2)])) ∧ Lo w w' := by
  refine calls_W 20 Tryd.func7 rfl rfl rfl ?_
  have hbdx_Maps := hx_Maps.bound
  have hlex_Maps := hx_Maps.len
  have hBbx_Maps := hx_Maps.bd
  have hbdx_Away := hx_Away.bound
  have hlex_Away := hx_Away.len
  have hBbx_Away := hx_Away.bd
  refine W.seq ?_
  refine W.regS (SR.box (v := .agg (List.toArray _)) (l := [.slice Ax_Maps nx_Maps cx_Maps, .slice Ax_Away nx_Away cx_Away, .int .i64 x.Bought, .int .i64 x.Dropped, .int .i64 x.Mended]) rfl rfl ?_)
  intro g1 w2 hg3 hk4 hs5 hb6
  have hz7 := hk4.size
  have hB8 := (Lo.refl w).lo hk4
  refine SR.q' (r_as (v := str ([] : List UInt8)) rfl) <| SR.q' (r_as (v := .bool false) rfl) <| SR.nil ?_
  refine W.seq ?_
  refine W.regS (SR.q' (r_lda (l := [.slice Ax_Maps nx_Maps cx_Maps, .slice Ax_Away nx_Away cx_Away, .int .i64 x.Bought, .int .i64 x.Dropped, .int .i64 x.Mended]) agg32 rfl (fun _ _ hu => (hb6).cell hu) rfl) <| SR.q' (r_mv (v := .int .i64 _) rfl) <| SR.call ent42 (c_spec_l32Map w2 x (((hx_Maps).lo hk4)) (((hx_Away).lo hk4)) id) rfl ?_)
  rintro e w9 ⟨rfl, hk10⟩
  refine ⟨_, rfl, ?_⟩
  have hz11 := hk10.size
  have hB12 := hB8.lo hk10
  have hq13 : idxF (hasId id) x.Maps < (x.Maps.length : Int) ∧ -1 ≤ idxF (hasId id) x.Maps := idx_lt
  refine SR.q' (r_as (v := .int .i64 _) rfl) <| SR.nil ?_
  refine W.seq ?_
  refine W.seq ?_
  refine W.regJS (fun f' w' => At f' [(2, .pointer (some ((⟨g1, 0, none⟩ : Addr)))), (4, str ([] : List UInt8)), (5, .bool false), (6, .int .i64 (idxF (hasId id) x.Maps)), (16, .bool (decide ((¬ (LibOK x)) ∨ ((idxF (hasId id) x.Maps) < 0))))] ∧ Lo w9 w') ?_ ?_
  · refine SR.q' (r_lda (l := [.slice Ax_Maps nx_Maps cx_Maps, .slice Ax_Away nx_Away cx_Away, .int .i64 x.Bought, .int .i64 x.Dropped, .int .i64 x.Mended]) agg32 rfl (fun _ _ hu => ((hb6).lo hk10).cell hu) rfl) <| SR.call ent43 (c_spec_l32Good w9 x ((((hx_Maps).lo hk4).lo hk10)) ((((hx_Away).lo hk4).lo hk10))) rfl ?_
    rintro e w14 ⟨rfl, hk15⟩
    refine ⟨_, rfl, ?_⟩
    have hz16 := hk15.size
    have hB17 := hB12.lo hk15
    refine SR.q' (r_not rfl) <| SR.q' (r_mv (v := .bool _) rfl) <| SR.splitN (fun h18 => ?_) (fun h18 => ?_)
    · refine SR.s' rfl <| SR.s' rfl <| SR.q' (r_pick true rfl (v := .bool true) rfl) <| SR.nil ?_
      exact ⟨_, rfl, ⟨⟨rfl, rfl, rfl, rfl, (eDT ((jmf h18).1 trivial)), trivial⟩, (hk15)⟩⟩
    · have hq19 := And.left h18
      have hq20 := lib_len h18
      have hq21 := And.left hq19
      have hq22 := And.right hq19
      refine SR.g' rfl (r_mv (v := .int .i64 _) rfl) <| SR.g' rfl (r_lt rfl rfl) <| SR.q' (r_pick false rfl (v := .bool _) rfl) <| SR.nil ?_
      exact ⟨_, rfl, ⟨⟨rfl, rfl, rfl, rfl, (eDD (jmt h18)), trivial⟩, (hk15)⟩⟩
  rintro f23 w24 ⟨hat25, hk26⟩
  rw [← sets_of_at hat25]
  have hz27 := hk26.size
  have hB28 := hB12.lo hk26
  refine W.cond_d rfl (fun h29 => ?_) (fun h29 => ?_)
  · refine W.seq ?_
    refine W.regS (SR.q' (r_as (v := str ([] : List UInt8)) rfl) <| SR.q' (r_as (v := .bool false) rfl) <| SR.nil ?_)
    refine W.ret ?_
    refine ret2 rfl (v := str _) (v' := .bool _) rfl rfl ?_
    exact ⟨eR (eT2 (eS (z_c_spec_MapText_30 x nx_Maps hbdx_Maps hlex_Maps nx_Away hbdx_Away hlex_Away id hq13 h29)) (eB (z_c_spec_MapText_31 x nx_Maps hbdx_Maps hlex_Maps nx_Away hbdx_Away hlex_Away id hq13 h29))), hB28⟩
  · have hq32 : LibOK x := (Classical.not_not.1 (not_or.1 h29).1)
    have hq33 : ¬ ((idxF (hasId id) x.Maps) < 0) := (not_or.1 h29).2
    have hq34 := And.left hq32
    have hq35 := lib_len hq32
    have hq36 := Int.not_lt.1 hq33
    have hq37 := And.left hq34
    have hq38 := And.right hq34
    refine W.skip ?_
    refine W.seq ?_
    refine W.regS (SR.q' (r_lda (l := [.slice Ax_Maps nx_Maps cx_Maps, .slice Ax_Away nx_Away cx_Away, .int .i64 x.Bought, .int .i64 x.Dropped, .int .i64 x.Mended]) agg32 rfl (fun _ _ hu => (((hb6).lo hk10).lo hk26).cell hu) rfl) <| SR.q' (r_mv (v := .int .i64 _) rfl) <| SR.call ent44 (c_spec_l32Text w24 x (((((hx_Maps).lo hk4).lo hk10).lo hk26)) (((((hx_Away).lo hk4).lo hk10).lo hk26)) (idxF (hasId id) x.Maps) (by assumption) (by omega)) rfl ?_)
    rintro e w39 ⟨rfl, hk40⟩
    refine ⟨_, rfl, ?_⟩
    have hz41 := hk40.size
    have hB42 := hB28.lo hk40
    have hq43 : (textL x (idxF (hasId id) x.Maps)).length ≤ 75 := textL_len (x := x) (by assumption) (i := (idxF (hasId id) x.Maps)) (by omega)
    refine SR.q' (r_as (v := str _) rfl) <| SR.q' (r_as (v := .bool true) rfl) <| SR.nil ?_
    refine W.ret ?_
    refine ret2 rfl (v := str _) (v' := .bool _) rfl rfl ?_
    exact ⟨eR (eT2 (eS (z_c_spec_MapText_44 x nx_Maps hbdx_Maps hlex_Maps nx_Away hbdx_Away hlex_Away id hq13 h29 hq32 hq33 hq34 hq35 hq36 hq37 hq38 hq43)) (eB (z_c_spec_MapText_45 x nx_Maps hbdx_Maps hlex_Maps nx_Away hbdx_Away hlex_Away id hq13 h29 hq32 hq33 hq34 hq35 hq36 hq37 hq38 hq43))), hB42⟩

theorem z_c_impl_MapText_27 (x : Library) (nx_Maps : Nat) (hbdx_Maps : (nx_Maps : Int) ≤ 9223372036854775807) (hlex_Maps : nx_Maps = x.Maps.length) (nx_Away : Nat) (hbdx_Away : (nx_Away : Int) ≤ 9223372036854775807) (hlex_Away : nx_Away = x.Away.length) (id : Int) (hp0 : (nx_Maps : Int) ≤ 1048576) (hq13 : bsP cmpM id x.Maps ≤ x.Maps.length) (h26 : (¬ (bsF cmpM id x.Maps)) ∨ (¬ (LibOK x))) : ([] : List UInt8) = (mapT x id).1 := by
  first | (rw [mapT_noI ‹_›]; done) | (rw [mapT_noS ‹_›]; done) | (rw [mapT_eqI ‹bsF _ _ _› ‹LibOK _›, ← ‹_ = (selL _ _ _).length›]; first | done | rfl) | (rw [mapT_eqS ⟨‹LibOK x›, by omega⟩]; first | done | rfl)
theorem z_c_impl_MapText_28 (x : Library) (nx_Maps : Nat) (hbdx_Maps : (nx_Maps : Int) ≤ 9223372036854775807) (hlex_Maps : nx_Maps = x.Maps.length) (nx_Away : Nat) (hbdx_Away : (nx_Away : Int) ≤ 9223372036854775807) (hlex_Away : nx_Away = x.Away.length) (id : Int) (hp0 : (nx_Maps : Int) ≤ 1048576) (hq13 : bsP cmpM id x.Maps ≤ x.Maps.length) (h26 : (¬ (bsF cmpM id x.Maps)) ∨ (¬ (LibOK x))) : false = (mapT x id).2 := by
  first | (rw [mapT_noI ‹_›]; done) | (rw [mapT_noS ‹_›]; done) | (rw [mapT_eqI ‹bsF _ _ _› ‹LibOK _›]; done) | (rw [mapT_eqS ⟨‹LibOK x›, by omega⟩]; done)
theorem z_c_impl_MapText_93 (x : Library) (nx_Maps : Nat) (hbdx_Maps : (nx_Maps : Int) ≤ 9223372036854775807) (hlex_Maps : nx_Maps = x.Maps.length) (nx_Away : Nat) (hbdx_Away : (nx_Away : Int) ≤ 9223372036854775807) (hlex_Away : nx_Away = x.Away.length) (id : Int) (hp0 : (nx_Maps : Int) ≤ 1048576) (hq13 : bsP cmpM id x.Maps ≤ x.Maps.length) (h26 : ¬ ((¬ (bsF cmpM id x.Maps)) ∨ (¬ (LibOK x)))) (hq29 : bsF cmpM id x.Maps) (hq30 : LibOK x) (hq31 : (bsP cmpM id x.Maps : Int) < (x.Maps.length : Int)) (hq32 : MapsOK x.Maps ∧ x.Maps.length ≤ 8) (hq33 : x.Away.length ≤ 8) (hq34 : MapsOK x.Maps) (hq35 : x.Maps.length ≤ 8) (hx37 : x.Maps[(bsP cmpM id x.Maps : Int).toNat]? = some (gt x.Maps ((bsP cmpM id x.Maps : Int).toNat))) (hq38 : ((1 : Int) ≤ (gt x.Maps ((bsP cmpM id x.Maps : Int).toNat)).Id ∧ (gt x.Maps ((bsP cmpM id x.Maps : Int).toNat)).Id ≤ 99) ∧ ((0 : Int) ≤ (gt x.Maps ((bsP cmpM id x.Maps : Int).toNat)).Copies ∧ (gt x.Maps ((bsP cmpM id x.Maps : Int).toNat)).Copies ≤ 99) ∧ ((0 : Int) ≤ (gt x.Maps ((bsP cmpM id x.Maps : Int).toNat)).Torn ∧ (gt x.Maps ((bsP cmpM id x.Maps : Int).toNat)).Torn ≤ (gt x.Maps ((bsP cmpM id x.Maps : Int).toNat)).Copies)) (n72 : Nat) (hq62 : (Lib.itoa ((gt x.Maps ((bsP cmpM id x.Maps : Int).toNat)).Copies)).length ≤ 21) (hq68 : (Lib.itoa ((gt x.Maps ((bsP cmpM id x.Maps : Int).toNat)).Torn)).length ≤ 21) (hl78 : n72 = (selL (ofM id) Away.Reader x.Away).length) (hl79 : (n72 : Int) ≤ 9223372036854775807) (hq80 : (selL (ofM id) Away.Reader x.Away).length ≤ x.Away.length) (hq86 : (Lib.itoa (n72 : Int)).length ≤ 21) : ((((Lib.itoa ((gt x.Maps ((bsP cmpM id x.Maps : Int).toNat)).Copies)) ++ ([32, 116, 111, 114, 110, 32] : List UInt8)) ++ (Lib.itoa ((gt x.Maps ((bsP cmpM id x.Maps : Int).toNat)).Torn))) ++ ([32, 97, 119, 97, 121, 32] : List UInt8)) ++ (Lib.itoa (n72 : Int)) = (mapT x id).1 := by
  first | (rw [mapT_noI ‹_›]; done) | (rw [mapT_noS ‹_›]; done) | (rw [mapT_eqI ‹bsF _ _ _› ‹LibOK _›, ← ‹_ = (selL _ _ _).length›]; first | done | rfl) | (rw [mapT_eqS ⟨‹LibOK x›, by omega⟩]; first | done | rfl)
theorem z_c_impl_MapText_94 (x : Library) (nx_Maps : Nat) (hbdx_Maps : (nx_Maps : Int) ≤ 9223372036854775807) (hlex_Maps : nx_Maps = x.Maps.length) (nx_Away : Nat) (hbdx_Away : (nx_Away : Int) ≤ 9223372036854775807) (hlex_Away : nx_Away = x.Away.length) (id : Int) (hp0 : (nx_Maps : Int) ≤ 1048576) (hq13 : bsP cmpM id x.Maps ≤ x.Maps.length) (h26 : ¬ ((¬ (bsF cmpM id x.Maps)) ∨ (¬ (LibOK x)))) (hq29 : bsF cmpM id x.Maps) (hq30 : LibOK x) (hq31 : (bsP cmpM id x.Maps : Int) < (x.Maps.length : Int)) (hq32 : MapsOK x.Maps ∧ x.Maps.length ≤ 8) (hq33 : x.Away.length ≤ 8) (hq34 : MapsOK x.Maps) (hq35 : x.Maps.length ≤ 8) (hx37 : x.Maps[(bsP cmpM id x.Maps : Int).toNat]? = some (gt x.Maps ((bsP cmpM id x.Maps : Int).toNat))) (hq38 : ((1 : Int) ≤ (gt x.Maps ((bsP cmpM id x.Maps : Int).toNat)).Id ∧ (gt x.Maps ((bsP cmpM id x.Maps : Int).toNat)).Id ≤ 99) ∧ ((0 : Int) ≤ (gt x.Maps ((bsP cmpM id x.Maps : Int).toNat)).Copies ∧ (gt x.Maps ((bsP cmpM id x.Maps : Int).toNat)).Copies ≤ 99) ∧ ((0 : Int) ≤ (gt x.Maps ((bsP cmpM id x.Maps : Int).toNat)).Torn ∧ (gt x.Maps ((bsP cmpM id x.Maps : Int).toNat)).Torn ≤ (gt x.Maps ((bsP cmpM id x.Maps : Int).toNat)).Copies)) (n72 : Nat) (hq62 : (Lib.itoa ((gt x.Maps ((bsP cmpM id x.Maps : Int).toNat)).Copies)).length ≤ 21) (hq68 : (Lib.itoa ((gt x.Maps ((bsP cmpM id x.Maps : Int).toNat)).Torn)).length ≤ 21) (hl78 : n72 = (selL (ofM id) Away.Reader x.Away).length) (hl79 : (n72 : Int) ≤ 9223372036854775807) (hq80 : (selL (ofM id) Away.Reader x.Away).length ≤ x.Away.length) (hq86 : (Lib.itoa (n72 : Int)).length ≤ 21) : true = (mapT x id).2 := by
  first | (rw [mapT_noI ‹_›]; done) | (rw [mapT_noS ‹_›]; done) | (rw [mapT_eqI ‹bsF _ _ _› ‹LibOK _›]; done) | (rw [mapT_eqS ⟨‹LibOK x›, by omega⟩]; done)
theorem c_impl_MapText (w : World) (x : Library) {Ax_Maps : Option Addr} {nx_Maps cx_Maps Bx_Maps : Nat} (hx_Maps : SlR w Bx_Maps encLMap 3 Ax_Maps nx_Maps cx_Maps x.Maps) {Ax_Away : Option Addr} {nx_Away cx_Away Bx_Away : Nat} (hx_Away : SlR w Bx_Away encAway 2 Ax_Away nx_Away cx_Away x.Away) (id : Int) (hp0 : (nx_Maps : Int) ≤ 1048576) (hE : EnvW w) : Calls Tryd.prog 9 #[.agg (List.toArray [.slice Ax_Maps nx_Maps cx_Maps, .slice Ax_Away nx_Away cx_Away, .int .i64 x.Bought, .int .i64 x.Dropped, .int .i64 x.Mended]), .int .i64 id] w fun e w' => e = .returned (.tuple (List.toArray [str ((mapT x id).1), .bool ((mapT x id).2)])) ∧ Lo w w' := by
  refine calls_W 42 Tryd.func9 rfl rfl rfl ?_
  have hbdx_Maps := hx_Maps.bound
  have hlex_Maps := hx_Maps.len
  have hBbx_Maps := hx_Maps.bd
  have hbdx_Away := hx_Away.bound
  have hlex_Away := hx_Away.len
  have hBbx_Away := hx_Away.bd
  refine W.seq ?_
  refine W.regS (SR.box (v := .agg (List.toArray _)) (l := [.slice Ax_Maps nx_Maps cx_Maps, .slice Ax_Away nx_Away cx_Away, .int .i64 x.Bought, .int .i64 x.Dropped, .int .i64 x.Mended]) rfl rfl ?_)
  intro g1 w2 hg3 hk4 hs5 hb6
  have hz7 := hk4.size
  have hB8 := (Lo.refl w).lo hk4
  refine SR.q' (r_as (v := str ([] : List UInt8)) rfl) <| SR.q' (r_as (v := .bool false) rfl) <| SR.nil ?_
  refine W.seq ?_
  refine W.regS (SR.q' (r_lda (l := [.slice Ax_Maps nx_Maps cx_Maps, .slice Ax_Away nx_Away cx_Away, .int .i64 x.Bought, .int .i64 x.Dropped, .int .i64 x.Mended]) agg32 rfl (fun _ _ hu => (hb6).cell hu) rfl) <| SR.q' (r_mv (v := .int .i64 _) rfl) <| SR.call ent47 (c__impl_Library__mapAt w2 x (((hx_Maps).lo hk4)) (((hx_Away).lo hk4)) id (by omega)) rfl ?_)
  rintro e w9 ⟨rfl, hk10⟩
  refine ⟨_, rfl, ?_⟩
  have hz11 := hk10.size
  have hB12 := hB8.lo hk10
  have hq13 : bsP cmpM id x.Maps ≤ x.Maps.length := bsP_le
  refine SR.q' (r_mv (v := .tuple (List.toArray _)) rfl) <| SR.q' (r_ext (v := .int .i64 _) rfl rfl) <| SR.q' (r_ext (v := .bool _) rfl rfl) <| SR.q' (r_as (v := .int .i64 _) rfl) <| SR.q' (r_as (v := .bool _) rfl) <| SR.nil ?_
  refine W.seq ?_
  refine W.seq ?_
  refine W.regJS (fun f' w' => At f' [(1, .int .i64 id), (2, .pointer (some ((⟨g1, 0, none⟩ : Addr)))), (4, str ([] : List UInt8)), (5, .bool false), (6, .int .i64 (bsP cmpM id x.Maps : Int)), (21, .bool (decide ((¬ (bsF cmpM id x.Maps)) ∨ (¬ (LibOK x)))))] ∧ Lo w9 w') ?_ ?_
  · refine SR.q' (r_mv (v := .bool _) rfl) <| SR.q' (r_not rfl) <| SR.q' (r_mv (v := .bool _) rfl) <| SR.splitN (fun h14 => ?_) (fun h14 => ?_)
    · refine SR.s' rfl <| SR.s' rfl <| SR.s' rfl <| SR.q' (r_pick true rfl (v := .bool true) rfl) <| SR.nil ?_
      exact ⟨_, rfl, ⟨⟨rfl, rfl, rfl, rfl, rfl, (eDT ((jmf h14).1 trivial)), trivial⟩, (Lo.refl _)⟩⟩
    · have hq15 := And.left h14
      refine SR.g' rfl (r_lda (l := [.slice Ax_Maps nx_Maps cx_Maps, .slice Ax_Away nx_Away cx_Away, .int .i64 x.Bought, .int .i64 x.Dropped, .int .i64 x.Mended]) agg32 rfl (fun _ _ hu => ((hb6).lo hk10).cell hu) rfl) <| SR.gcall rfl ent48 (c_impl_IsLibrary w9 x ((((hx_Maps).lo hk4).lo hk10)) ((((hx_Away).lo hk4).lo hk10)) (by omega)) rfl ?_
      rintro e w16 ⟨rfl, hk17⟩
      refine ⟨_, rfl, ?_⟩
      have hz18 := hk17.size
      have hB19 := hB12.lo hk17
      refine SR.g' rfl (r_not rfl) <| SR.q' (r_pick false rfl (v := .bool _) rfl) <| SR.nil ?_
      exact ⟨_, rfl, ⟨⟨rfl, rfl, rfl, rfl, rfl, (eND (jmt h14)), trivial⟩, (hk17)⟩⟩
  rintro f20 w21 ⟨hat22, hk23⟩
  rw [← sets_of_at hat22]
  have hz24 := hk23.size
  have hB25 := hB12.lo hk23
  refine W.cond_d rfl (fun h26 => ?_) (fun h26 => ?_)
  · refine W.seq ?_
    refine W.regS (SR.q' (r_as (v := str ([] : List UInt8)) rfl) <| SR.q' (r_as (v := .bool false) rfl) <| SR.nil ?_)
    refine W.ret ?_
    refine ret2 rfl (v := str _) (v' := .bool _) rfl rfl ?_
    exact ⟨eR (eT2 (eS (z_c_impl_MapText_27 x nx_Maps hbdx_Maps hlex_Maps nx_Away hbdx_Away hlex_Away id hp0 hq13 h26)) (eB (z_c_impl_MapText_28 x nx_Maps hbdx_Maps hlex_Maps nx_Away hbdx_Away hlex_Away id hp0 hq13 h26))), hB25⟩
  · have hq29 : bsF cmpM id x.Maps := (Classical.not_not.1 (not_or.1 h26).1)
    have hq30 : LibOK x := (Classical.not_not.1 (not_or.1 h26).2)
    have hq31 := And.left hq29
    have hq32 := And.left hq30
    have hq33 := lib_len hq30
    have hq34 := And.left hq32
    have hq35 := And.right hq32
    refine W.skip ?_
    refine W.seq ?_
    refine W.regS (SR.q' (r_fa fa32_0 rfl) <| SR.q' (r_ld (v := .slice Ax_Maps nx_Maps cx_Maps) sca29 rfl ((((hb6).lo hk10).lo hk23).cell rfl)) <| SR.q' (r_mv (v := .int .i64 _) rfl) <| ?_)
    have hx37 := ((((hx_Maps).lo hk4).lo hk10).lo hk23).elem (i := (bsP cmpM id x.Maps : Int).toNat) (by omega)
    have hq38 := maps_rng ‹LibOK x›.1.1 hx37
    refine SR.q' (r_ixR tsl29 ((((hx_Maps).lo hk4).lo hk10).lo hk23) rfl rfl (by omega)) <| SR.q' (r_lda (l := encLMap (gt x.Maps ((bsP cmpM id x.Maps : Int).toNat))) agg77 rfl (fun _ _ hu => ((((hx_Maps).lo hk4).lo hk10).lo hk23).cell hx37 hu) (((((hx_Maps).lo hk4).lo hk10).lo hk23).esz _)) <| SR.alloc (l := [.int .i64 0, .int .i64 0, .int .i64 0]) tz77 rfl ?_
    intro g39 w40 hg41 hk42 hs43 hb44
    have hz45 := hk42.size
    have hB46 := hB25.lo hk42
    refine SR.store (o := 0) (vs := [.int .i64 ((gt x.Maps ((bsP cmpM id x.Maps : Int).toNat)).Id), .int .i64 ((gt x.Maps ((bsP cmpM id x.Maps : Int).toNat)).Copies), .int .i64 ((gt x.Maps ((bsP cmpM id x.Maps : Int).toNat)).Torn)]) agg77.2 rfl rfl rfl rfl (hb44) (Nat.le_of_ble_eq_true rfl) rfl ?_
    intro w47 hk48 hs49 hb50
    have hz51 := hk48.size
    have hB52 := hB46.new hk48 (by omega)
    refine SR.nil ?_
    refine W.seq ?_
    refine W.regA (Lo w47) (fun f' w' => ∃ (A71 : Option Addr), ∃ (n72 : Nat), ∃ (c73 : Nat), At f' [(4, str (((((Lib.itoa ((gt x.Maps ((bsP cmpM id x.Maps : Int).toNat)).Copies)) ++ ([32, 116, 111, 114, 110, 32] : List UInt8)) ++ (Lib.itoa ((gt x.Maps ((bsP cmpM id x.Maps : Int).toNat)).Torn))) ++ ([32, 97, 119, 97, 121, 32] : List UInt8)) ++ (Lib.itoa (n72 : Int)))), (5, .bool true)] ∧ (Lo w47 w') ∧ ((Lib.itoa ((gt x.Maps ((bsP cmpM id x.Maps : Int).toNat)).Copies)).length ≤ 21) ∧ ((Lib.itoa ((gt x.Maps ((bsP cmpM id x.Maps : Int).toNat)).Torn)).length ≤ 21) ∧ (n72 = (selL (ofM id) Away.Reader x.Away).length) ∧ ((n72 : Int) ≤ 9223372036854775807) ∧ ((selL (ofM id) Away.Reader x.Away).length ≤ x.Away.length) ∧ ((Lib.itoa (n72 : Int)).length ≤ 21)) mo ?_ ?_
    · intro w53 hk54
      have hz55 := hk54.size
      have hB56 := hB52.lo hk54
      refine AH.take 0 rfl (by kernel_rfl) trivial (hk54) (fun w' hw' => r_fa fa77_1 rfl) <| AH.take 1 rfl (by kernel_rfl) trivial (hk54) (fun w' hw' => r_ld (v := .int .i64 ((gt x.Maps ((bsP cmpM id x.Maps : Int).toNat)).Copies)) sca3 rfl (((hb50).lo hw').cell rfl)) <| AH.take 4 rfl (by kernel_rfl) trivial (hk54) (fun w' hw' => r_fa fa77_2 rfl) <| AH.take 5 rfl (by kernel_rfl) trivial (hk54) (fun w' hw' => r_ld (v := .int .i64 ((gt x.Maps ((bsP cmpM id x.Maps : Int).toNat)).Torn)) sca3 rfl (((hb50).lo hw').cell rfl)) <| AH.take 9 rfl (by kernel_rfl) trivial (hk54) (fun w' hw' => r_lda (l := [.slice Ax_Maps nx_Maps cx_Maps, .slice Ax_Away nx_Away cx_Away, .int .i64 x.Bought, .int .i64 x.Dropped, .int .i64 x.Mended]) agg32 rfl (fun _ _ hu => ((((((hb6).lo hk10).lo hk23).lo hk42).kp hk48 (fun e' => by have e'' : g1 = g39 := e'; omega)).lo hw').cell hu) rfl) <| AH.take 10 rfl (by kernel_rfl) trivial (hk54) (fun w' hw' => r_mv (v := .int .i64 _) rfl) <| AH.br [2] (by kernel_rfl) rfl ⟨Br.mk' rfl trivial ?_, trivial⟩
      refine SR.call ent49 (c_impl_text w53 ((gt x.Maps ((bsP cmpM id x.Maps : Int).toNat)).Copies) (by omega) (hE.lo (hB56))) rfl ?_
      rintro e w57 ⟨rfl, hk58⟩
      refine ⟨_, rfl, ?_⟩
      have hz59 := hk58.size
      have hB60 := hB56.lo hk58
      have hS61 := (hk54).lo hk58
      have hq62 : (Lib.itoa ((gt x.Maps ((bsP cmpM id x.Maps : Int).toNat)).Copies)).length ≤ 21 := itoa_len (n := (gt x.Maps ((bsP cmpM id x.Maps : Int).toNat)).Copies) (by omega) (by omega)
      refine SR.nil ⟨hS61, _, rfl, ?_⟩
      refine AH.take 3 rfl (by kernel_rfl) trivial (hS61) (fun w' hw' => r_cat rfl rfl (by first | omega | (simp only [List.length_append, List.length_cons, List.length_nil, List.length_take, List.length_drop]; omega) | (simp only [List.length_append, List.length_cons, List.length_nil, List.length_take, List.length_drop] at *; omega))) <| AH.br [6] (by kernel_rfl) rfl ⟨Br.mk' rfl trivial ?_, trivial⟩
      refine SR.call ent49 (c_impl_text w57 ((gt x.Maps ((bsP cmpM id x.Maps : Int).toNat)).Torn) (by omega) (hE.lo (hB60))) rfl ?_
      rintro e w63 ⟨rfl, hk64⟩
      refine ⟨_, rfl, ?_⟩
      have hz65 := hk64.size
      have hB66 := hB60.lo hk64
      have hS67 := (hS61).lo hk64
      have hq68 : (Lib.itoa ((gt x.Maps ((bsP cmpM id x.Maps : Int).toNat)).Torn)).length ≤ 21 := itoa_len (n := (gt x.Maps ((bsP cmpM id x.Maps : Int).toNat)).Torn) (by omega) (by omega)
      refine SR.nil ⟨hS67, _, rfl, ?_⟩
      refine AH.take 7 rfl (by kernel_rfl) trivial (hS67) (fun w' hw' => r_cat rfl rfl (by first | omega | (simp only [List.length_append, List.length_cons, List.length_nil, List.length_take, List.length_drop]; omega) | (simp only [List.length_append, List.length_cons, List.length_nil, List.length_take, List.length_drop] at *; omega))) <| AH.take 8 rfl (by kernel_rfl) trivial (hS67) (fun w' hw' => r_cat rfl rfl (by first | omega | (simp only [List.length_append, List.length_cons, List.length_nil, List.length_take, List.length_drop]; omega) | (simp only [List.length_append, List.length_cons, List.length_nil, List.length_take, List.length_drop] at *; omega))) <| AH.br [11] (by kernel_rfl) rfl ⟨Br.mk' rfl trivial ?_, trivial⟩
      refine SR.call ent50 (c__impl_Library__readersOf w63 x ((((((((((hx_Maps).lo hk4).lo hk10).lo hk23).lo hk42).kp hk48 (fun b_ hb e' => by have e'' : b_ = g39 := e'; omega)).lo hk54).lo hk58).lo hk64)) ((((((((((hx_Away).lo hk4).lo hk10).lo hk23).lo hk42).kp hk48 (fun b_ hb e' => by have e'' : b_ = g39 := e'; omega)).lo hk54).lo hk58).lo hk64)) id (by omega)) rfl ?_
      rintro e w69 ⟨A71, n72, c73, rfl, hO74, hk70⟩
      refine ⟨_, rfl, ?_⟩
      have hz75 := hk70.size
      have hB76 := hB66.lo hk70
      have hS77 := (hS67).lo hk70
      have hl78 := hO74.len
      have hl79 := hO74.rd.bound
      have hq80 := sel_len x.Away (ofM id) Away.Reader
      refine SR.nil ⟨hS77, _, rfl, ?_⟩
      refine AH.take 12 rfl (by kernel_rfl) trivial (hS77) (fun w' hw' => r_len und38 rfl) <| AH.br [13] (by kernel_rfl) rfl ⟨Br.mk' rfl trivial ?_, trivial⟩
      refine SR.call ent49 (c_impl_text w69 (n72 : Int) (by omega) (hE.lo (hB76))) rfl ?_
      rintro e w81 ⟨rfl, hk82⟩
      refine ⟨_, rfl, ?_⟩
      have hz83 := hk82.size
      have hB84 := hB76.lo hk82
      have hS85 := (hS77).lo hk82
      have hq86 : (Lib.itoa (n72 : Int)).length ≤ 21 := itoa_len (n := (n72 : Int)) (by omega) (by omega)
      refine SR.nil ⟨hS85, _, rfl, ?_⟩
      refine AH.take 14 rfl (by kernel_rfl) trivial (hS85) (fun w' hw' => r_cat rfl rfl (by first | omega | (simp only [List.length_append, List.length_cons, List.length_nil, List.length_take, List.length_drop]; omega) | (simp only [List.length_append, List.length_cons, List.length_nil, List.length_take, List.length_drop] at *; omega))) <| AH.take 15 rfl (by kernel_rfl) trivial (hS85) (fun w' hw' => r_as (v := str _) rfl) <| AH.take 16 rfl (by kernel_rfl) trivial (hS85) (fun w' hw' => r_as (v := .bool true) rfl) <| AH.done (by kernel_rfl) ?_
      exact ⟨A71, n72, c73, ⟨rfl, rfl, trivial⟩, hS85, hq62, hq68, hl78, hl79, hq80, hq86⟩
    rintro f87 w88 ⟨A71, n72, c73, hat90, hR89, hq62, hq68, hl78, hl79, hq80, hq86⟩
    rw [← sets_of_at hat90]
    have hz91 := hR89.size
    have hB92 := hB52.lo hR89
    refine W.ret ?_
    refine ret2 rfl (v := str _) (v' := .bool _) rfl rfl ?_
    exact ⟨eR (eT2 (eS (z_c_impl_MapText_93 x nx_Maps hbdx_Maps hlex_Maps nx_Away hbdx_Away hlex_Away id hp0 hq13 h26 hq29 hq30 hq31 hq32 hq33 hq34 hq35 hx37 hq38 n72 hq62 hq68 hl78 hl79 hq80 hq86)) (eB (z_c_impl_MapText_94 x nx_Maps hbdx_Maps hlex_Maps nx_Away hbdx_Away hlex_Away id hp0 hq13 h26 hq29 hq30 hq31 hq32 hq33 hq34 hq35 hx37 hq38 n72 hq62 hq68 hl78 hl79 hq80 hq86))), hB92⟩

theorem z_c_laws_FnExactMapText_111 (x : Library) (nx_Maps : Nat) (hbdx_Maps : (nx_Maps : Int) ≤ 9223372036854775807) (hlex_Maps : nx_Maps = x.Maps.length) (nx_Away : Nat) (hbdx_Away : (nx_Away : Int) ≤ 9223372036854775807) (hlex_Away : nx_Away = x.Away.length) (id : Int) (h13 : ¬ ((szN (x.Maps.length + x.Away.length) 1048576) < 0)) (hq14 : ((x.Maps.length + x.Away.length : Nat) : Int) ≤ 1048576 ∧ szN (x.Maps.length + x.Away.length) 1048576 = 1048576 - ((x.Maps.length + x.Away.length : Nat) : Int)) (n18 : Nat) (hl28 : n18 = (x.Maps).length) (hl29 : (n18 : Int) ≤ 9223372036854775807) (n22 : Nat) (hl30 : n22 = (x.Away).length) (hl31 : (n22 : Int) ≤ 9223372036854775807) (hq36 : (mapT x id).1.length ≤ 75) (n40 : Nat) (hl50 : n40 = (x.Maps).length) (hl51 : (n40 : Int) ≤ 9223372036854775807) (n44 : Nat) (hl52 : n44 = (x.Away).length) (hl53 : (n44 : Int) ≤ 9223372036854775807) (hq76 : (mapT x id).1.length ≤ 75) (n84 : Nat) (n88 : Nat) (hl95 : n84 = (x.Maps).length) (hl96 : (n84 : Int) ≤ 9223372036854775807) (hl97 : n88 = (x.Away).length) (hl98 : (n88 : Int) ≤ 9223372036854775807) (h110 : ¬ (x = x)) : false = true := by
  first | (simp_all; done) | omega | (simp at *; omega)
theorem c_laws_FnExactMapText (w : World) (x : Library) {Ax_Maps : Option Addr} {nx_Maps cx_Maps Bx_Maps : Nat} (hx_Maps : SlR w Bx_Maps encLMap 3 Ax_Maps nx_Maps cx_Maps x.Maps) {Ax_Away : Option Addr} {nx_Away cx_Away Bx_Away : Nat} (hx_Away : SlR w Bx_Away encAway 2 Ax_Away nx_Away cx_Away x.Away) (id : Int) (hE : EnvW w) : Calls Tryd.prog 3 #[.agg (List.toArray [.slice Ax_Maps nx_Maps cx_Maps, .slice Ax_Away nx_Away cx_Away, .int .i64 x.Bought, .int .i64 x.Dropped, .int .i64 x.Mended]), .int .i64 id] w fun e w' => e = .returned (.bool true) ∧ Lo w w' := by
  refine calls_W 44 Tryd.func3 rfl rfl rfl ?_
  have hbdx_Maps := hx_Maps.bound
  have hlex_Maps := hx_Maps.len
  have hBbx_Maps := hx_Maps.bd
  have hbdx_Away := hx_Away.bound
  have hlex_Away := hx_Away.len
  have hBbx_Away := hx_Away.bd
  refine W.seq ?_
  refine W.regS (SR.box (v := .agg (List.toArray _)) (l := [.slice Ax_Maps nx_Maps cx_Maps, .slice Ax_Away nx_Away cx_Away, .int .i64 x.Bought, .int .i64 x.Dropped, .int .i64 x.Mended]) rfl rfl ?_)
  intro g1 w2 hg3 hk4 hs5 hb6
  have hz7 := hk4.size
  have hB8 := (Lo.refl w).lo hk4
  refine SR.q' (r_as (v := .bool false) rfl) <| SR.nil ?_
  refine W.seq ?_
  refine W.regS (SR.q' (r_as (v := .int .i64 1048576) rfl) <| SR.nil ?_)
  refine W.seq ?_
  refine W.regS (SR.q' (r_lda (l := [.slice Ax_Maps nx_Maps cx_Maps, .slice Ax_Away nx_Away cx_Away, .int .i64 x.Bought, .int .i64 x.Dropped, .int .i64 x.Mended]) agg25 rfl (fun _ _ hu => (hb6).cell hu) rfl) <| SR.q' (r_mv (v := .int .i64 _) rfl) <| SR.call ent6 (c_laws_szLibrary w2 x (((hx_Maps).lo hk4)) (((hx_Away).lo hk4)) 1048576 (by omega) (by omega)) rfl ?_)
  rintro e w9 ⟨rfl, hk10⟩
  refine ⟨_, rfl, ?_⟩
  have hz11 := hk10.size
  have hB12 := hB8.lo hk10
  refine SR.q' (r_as (v := .int .i64 _) rfl) <| SR.nil ?_
  refine W.seq ?_
  refine W.seq ?_
  refine W.regS (SR.q' (r_mv (v := .int .i64 _) rfl) <| SR.q' (r_lt rfl rfl) <| SR.nil ?_)
  refine W.cond_d rfl (fun h13 => ?_) (fun h13 => ?_)
  · refine W.seq ?_
    refine W.regS (SR.q' (r_as (v := .bool true) rfl) <| SR.nil ?_)
    refine W.ret ?_
    refine ret1 rfl (v := .bool _) rfl ?_
    exact ⟨eR rfl, hB12⟩
  · have hq14 := szN_ok h13
    refine W.skip ?_
    refine W.seq ?_
    refine W.regS (SR.q' (r_lda (l := [.slice Ax_Maps nx_Maps cx_Maps, .slice Ax_Away nx_Away cx_Away, .int .i64 x.Bought, .int .i64 x.Dropped, .int .i64 x.Mended]) agg25 rfl (fun _ _ hu => ((hb6).lo hk10).cell hu) rfl) <| SR.call ent8 (c_laws_toLibrary w9 x ((((hx_Maps).lo hk4).lo hk10)) ((((hx_Away).lo hk4).lo hk10)) (by omega) (by omega)) rfl ?_)
    rintro e w15 ⟨A17, n18, c19, A21, n22, c23, rfl, hO20, hO24, hd25, hk16⟩
    refine ⟨_, rfl, ?_⟩
    have hz26 := hk16.size
    have hB27 := hB12.lo hk16
    have hl28 := hO20.len
    have hl29 := hO20.rd.bound
    have hl30 := hO24.len
    have hl31 := hO24.rd.bound
    refine SR.q' (r_mv (v := .int .i64 _) rfl) <| SR.call ent7 (c_spec_MapText w15 x (((hO20).rd)) (((hO24).rd)) id) rfl ?_
    rintro e w32 ⟨rfl, hk33⟩
    refine ⟨_, rfl, ?_⟩
    have hz34 := hk33.size
    have hB35 := hB27.lo hk33
    have hq36 : (mapT x id).1.length ≤ 75 := mapT_len x id
    refine SR.q' (r_mv (v := .tuple (List.toArray _)) rfl) <| SR.q' (r_ext (v := str _) rfl rfl) <| SR.q' (r_ext (v := .bool _) rfl rfl) <| SR.q' (r_as (v := str _) rfl) <| SR.q' (r_as (v := .bool _) rfl) <| SR.nil ?_
    refine W.seq ?_
    refine W.regS (SR.q' (r_lda (l := [.slice Ax_Maps nx_Maps cx_Maps, .slice Ax_Away nx_Away cx_Away, .int .i64 x.Bought, .int .i64 x.Dropped, .int .i64 x.Mended]) agg25 rfl (fun _ _ hu => ((((hb6).lo hk10).lo hk16).lo hk33).cell hu) rfl) <| SR.call ent8 (c_laws_toLibrary w32 x ((((((hx_Maps).lo hk4).lo hk10).lo hk16).lo hk33)) ((((((hx_Away).lo hk4).lo hk10).lo hk16).lo hk33)) (by omega) (by omega)) rfl ?_)
    rintro e w37 ⟨A39, n40, c41, A43, n44, c45, rfl, hO42, hO46, hd47, hk38⟩
    refine ⟨_, rfl, ?_⟩
    have hz48 := hk38.size
    have hB49 := hB35.lo hk38
    have hl50 := hO42.len
    have hl51 := hO42.rd.bound
    have hl52 := hO46.len
    have hl53 := hO46.rd.bound
    refine SR.alloc (l := [.slice none 0 0, .slice none 0 0, .int .i64 0, .int .i64 0, .int .i64 0]) tz32 rfl ?_
    intro g54 w55 hg56 hk57 hs58 hb59
    have hz60 := hk57.size
    have hB61 := hB49.lo hk57
    have hd62 : ¬ A17 = some ⟨g54, 0, none⟩ := fun e' => by have := (((hO20).lo hk33).lo hk38).base_le e'; omega
    have hd63 : ¬ A21 = some ⟨g54, 0, none⟩ := fun e' => by have := (((hO24).lo hk33).lo hk38).base_le e'; omega
    have hd64 : ¬ A39 = some ⟨g54, 0, none⟩ := fun e' => by have := (hO42).base_le e'; omega
    have hd65 : ¬ A43 = some ⟨g54, 0, none⟩ := fun e' => by have := (hO46).base_le e'; omega
    refine SR.store (o := 0) (vs := [.slice A39 n40 c41, .slice A43 n44 c45, .int .i64 x.Bought, .int .i64 x.Dropped, .int .i64 x.Mended]) agg32.2 rfl rfl rfl rfl (hb59) (Nat.le_of_ble_eq_true rfl) rfl ?_
    intro w66 hk67 hs68 hb69
    have hz70 := hk67.size
    have hB71 := hB61.new hk67 (by omega)
    refine SR.nil ?_
    refine W.seq ?_
    refine W.regS (SR.q' (r_lda (l := [.slice A39 n40 c41, .slice A43 n44 c45, .int .i64 x.Bought, .int .i64 x.Dropped, .int .i64 x.Mended]) agg32 rfl (fun _ _ hu => (hb69).cell hu) rfl) <| SR.q' (r_mv (v := .int .i64 _) rfl) <| SR.call ent9 (c_impl_MapText w66 x (((((hO42).lo hk57).kp hk67 (fun b_ hb e' => hd64 (by have e'' : b_ = g54 := e'; rw [← e'']; exact hb))).rd)) (((((hO46).lo hk57).kp hk67 (fun b_ hb e' => hd65 (by have e'' : b_ = g54 := e'; rw [← e'']; exact hb))).rd)) id (by omega) (hE.lo (hB71))) rfl ?_)
    rintro e w72 ⟨rfl, hk73⟩
    refine ⟨_, rfl, ?_⟩
    have hz74 := hk73.size
    have hB75 := hB71.lo hk73
    have hq76 : (mapT x id).1.length ≤ 75 := mapT_len x id
    refine SR.q' (r_mv (v := .tuple (List.toArray _)) rfl) <| SR.q' (r_ext (v := str _) rfl rfl) <| SR.q' (r_ext (v := .bool _) rfl rfl) <| SR.q' (r_as (v := str _) rfl) <| SR.q' (r_as (v := .bool _) rfl) <| SR.nil ?_
    refine W.seq ?_
    refine W.seq ?_
    refine W.regS (SR.q' (r_mv (v := str _) rfl) <| SR.q' (r_mv (v := str _) rfl) <| SR.q' (r_nes_s (s := (mapT x id).1) rfl rfl) <| SR.q' (r_mv (v := .bool _) rfl) <| SR.g' rfl (r_mv (v := .bool _) rfl) <| SR.g' rfl (r_mv (v := .bool _) rfl) <| SR.g' rfl (r_neb_s und4 rfl rfl) <| SR.q' (r_pick false rfl (v := .bool _) rfl) <| SR.nil ?_)
    refine W.cond_f rfl ?_
    refine W.skip ?_
    refine W.seq ?_
    refine W.seq ?_
    refine W.regA (Lo w72) (fun f' w' => ∃ (A83 : Option Addr), ∃ (n84 : Nat), ∃ (c85 : Nat), ∃ (A87 : Option Addr), ∃ (n88 : Nat), ∃ (c89 : Nat), At f' [(4, .bool false), (43, .bool (!decide (x = x)))] ∧ (Lo w72 w') ∧ (n84 = (x.Maps).length) ∧ ((n84 : Int) ≤ 9223372036854775807) ∧ (n88 = (x.Away).length) ∧ ((n88 : Int) ≤ 9223372036854775807)) mo ?_ ?_
    · intro w77 hk78
      have hz79 := hk78.size
      have hB80 := hB75.lo hk78
      refine AH.take 0 rfl (by kernel_rfl) trivial (hk78) (fun w' hw' => r_lda (l := [.slice A39 n40 c41, .slice A43 n44 c45, .int .i64 x.Bought, .int .i64 x.Dropped, .int .i64 x.Mended]) agg32 rfl (fun _ _ hu => (((hb69).lo hk73).lo hw').cell hu) rfl) <| AH.take 1 rfl (by kernel_rfl) trivial (hk78) (fun w' hw' => r_lda (l := [.slice Ax_Maps nx_Maps cx_Maps, .slice Ax_Away nx_Away cx_Away, .int .i64 x.Bought, .int .i64 x.Dropped, .int .i64 x.Mended]) agg25 rfl (fun _ _ hu => (((((((((hb6).lo hk10).lo hk16).lo hk33).lo hk38).lo hk57).kp hk67 (fun e' => by have e'' : g1 = g54 := e'; omega)).lo hk73).lo hw').cell hu) rfl) <| AH.br [2] (by kernel_rfl) rfl ⟨Br.mk' rfl trivial ?_, trivial⟩
      refine SR.call ent8 (c_laws_toLibrary w77 x (((((((((((hx_Maps).lo hk4).lo hk10).lo hk16).lo hk33).lo hk38).lo hk57).kp hk67 (fun b_ hb e' => by have e'' : b_ = g54 := e'; omega)).lo hk73).lo hk78)) (((((((((((hx_Away).lo hk4).lo hk10).lo hk16).lo hk33).lo hk38).lo hk57).kp hk67 (fun b_ hb e' => by have e'' : b_ = g54 := e'; omega)).lo hk73).lo hk78)) (by omega) (by omega)) rfl ?_
      rintro e w81 ⟨A83, n84, c85, A87, n88, c89, rfl, hO86, hO90, hd91, hk82⟩
      refine ⟨_, rfl, ?_⟩
      have hz92 := hk82.size
      have hB93 := hB80.lo hk82
      have hS94 := (hk78).lo hk82
      have hl95 := hO86.len
      have hl96 := hO86.rd.bound
      have hl97 := hO90.len
      have hl98 := hO90.rd.bound
      refine SR.nil ⟨hS94, _, rfl, ?_⟩
      refine AH.br [3] (by kernel_rfl) rfl ⟨Br.mk' rfl trivial ?_, trivial⟩
      refine SR.call ent10 (c_laws_eqLibrary w81 x ((((((((hO42).lo hk57).kp hk67 (fun b_ hb e' => hd64 (by have e'' : b_ = g54 := e'; rw [← e'']; exact hb))).lo hk73).lo hk78).lo hk82).rd)) ((((((((hO46).lo hk57).kp hk67 (fun b_ hb e' => hd65 (by have e'' : b_ = g54 := e'; rw [← e'']; exact hb))).lo hk73).lo hk78).lo hk82).rd)) x (((hO86).rd)) (((hO90).rd))) rfl ?_
      rintro e w99 ⟨rfl, hk100⟩
      refine ⟨_, rfl, ?_⟩
      have hz101 := hk100.size
      have hB102 := hB93.lo hk100
      have hS103 := (hS94).lo hk100
      refine SR.nil ⟨hS103, _, rfl, ?_⟩
      refine AH.take 4 rfl (by kernel_rfl) trivial (hS103) (fun w' hw' => r_not rfl) <| AH.done (by kernel_rfl) ?_
      exact ⟨A83, n84, c85, A87, n88, c89, ⟨rfl, rfl, trivial⟩, hS103, hl95, hl96, hl97, hl98⟩
    rintro f104 w105 ⟨A83, n84, c85, A87, n88, c89, hat107, hR106, hl95, hl96, hl97, hl98⟩
    rw [← sets_of_at hat107]
    have hz108 := hR106.size
    have hB109 := hB75.lo hR106
    refine W.cond_n rfl (fun h110 => ?_) (fun h110 => ?_)
    · refine W.seq ?_
      refine W.regS (SR.q' (r_as (v := .bool false) rfl) <| SR.nil ?_)
      refine W.ret ?_
      refine ret1 rfl (v := .bool _) rfl ?_
      exact ⟨eR (eB (z_c_laws_FnExactMapText_111 x nx_Maps hbdx_Maps hlex_Maps nx_Away hbdx_Away hlex_Away id h13 hq14 n18 hl28 hl29 n22 hl30 hl31 hq36 n40 hl50 hl51 n44 hl52 hl53 hq76 n84 n88 hl95 hl96 hl97 hl98 h110)), hB109⟩
    · refine W.skip ?_
      refine W.seq ?_
      refine W.regS (SR.q' (r_as (v := .bool true) rfl) <| SR.nil ?_)
      refine W.ret ?_
      refine ret1 rfl (v := .bool _) rfl ?_
      exact ⟨eR rfl, hB109⟩
end Go.Proofs.YtlpapeeaghmjpaaDoor
