/- Walks, printed by a program of this claim's author. -/
import Derived.Test.YtgobbcilgcbkaaaDoorChecked
import Derived.Test.YtgobbcilgcbkaaaDoorUa
import Derived.Test.YtgobbcilgcbkaaaDoorFu
import Derived.Test.YtgobbcilgcbkaaaDoorFs
import Derived.Test.YtgobbcilgcbkaaaDoorFq
import Derived.Test.YtgobbcilgcbkaaaDoorFo
import Derived.Test.YtgobbcilgcbkaaaDoorDa
import Derived.Test.YtgobbcilgcbkaaaDoorSi
import Derived.Test.YtgobbcilgcbkaaaDoorG32w
namespace Go.Proofs.YtgobbcilgcbkaaaDoor
open Go Go.RowKit Fw
set_option maxRecDepth 10000
set_option maxHeartbeats 2000000
set_option linter.unusedVariables false
theorem bld44_0 (a0 : Option Addr) (b0 c0 : Nat) : Tryd.prog.built 44 [(0, .slice a0 b0 c0)] = some (List.toArray [.slice a0 b0 c0, .int .i64 0, .int .u64 0]) := by kernel_rfl
theorem ent23 : Ent Tryd.prog 23 := ent_of Tryd.func23 (by decide +kernel) rfl
theorem ent34 : Ent Tryd.prog 34 := ent_of Tryd.func34 (by decide +kernel) rfl
theorem ent38 : Ent Tryd.prog 38 := ent_of Tryd.func38 (by decide +kernel) rfl
theorem ent39 : Ent Tryd.prog 39 := ent_of Tryd.func39 (by decide +kernel) rfl
theorem ent5 : Ent Tryd.prog 5 := ent_of Tryd.func5 (by decide +kernel) rfl
theorem ent53 : Ent Tryd.prog 53 := ent_of Tryd.func53 (by decide +kernel) rfl
theorem ent54 : Ent Tryd.prog 54 := ent_of Tryd.func54 (by decide +kernel) rfl
theorem und9 : Tryd.prog.underlying 9 = some (.string) := by kernel_rfl

theorem c_impl_text (w : World) (n : Int) (hp0 : -9223372036854775808 ≤ n ∧ n ≤ 9223372036854775807) (hE : EnvW w) : Calls Tryd.prog 38 #[.int .i64 n] w fun e w' => e = .returned (str (Lib.itoa n)) ∧ Lo w w' := by
  refine calls_W 5 Tryd.func38 rfl rfl rfl ?_
  refine W.seq ?_
  refine W.regS (SR.q' (r_as (v := str ([] : List UInt8)) rfl) <| SR.nil ?_)
  refine W.seq ?_
  refine W.regS (SR.q' (r_mv (v := .int .i64 _) rfl) <| SR.call ent53 (c_strconv_Itoa w n (by omega) (hE.lo ((Lo.refl w)))) rfl ?_)
  rintro e w1 ⟨rfl, hk2⟩
  refine ⟨_, rfl, ?_⟩
  have hz3 := hk2.size
  have hB4 := (Lo.refl w).lo hk2
  have hq5 : (Lib.itoa n).length ≤ 21 := itoa_len (n := n) (by omega) (by omega)
  refine SR.q' (r_as (v := str _) rfl) <| SR.nil ?_
  refine W.ret ?_
  refine ret1 rfl (v := str _) rfl ?_
  exact ⟨eR rfl, hB4⟩

theorem c_spec_l1Num (w : World) (n : Int) (hp0 : -9223372036854775807 ≤ n ∧ n ≤ 9223372036854775807) : Calls Tryd.prog 54 #[.int .i64 n] w fun e w' => e = .returned (str (Lib.itoa n)) ∧ Lo w w' := by
  refine calls_W 25 Tryd.func54 rfl rfl rfl ?_
  refine W.seq ?_
  refine W.regS (SR.q' (r_as (v := str ([] : List UInt8)) rfl) <| SR.nil ?_)
  refine W.seq ?_
  refine W.seq ?_
  refine W.regS (SR.q' (r_mv (v := .int .i64 _) rfl) <| SR.q' (r_lt rfl rfl) <| SR.nil ?_)
  refine W.cond_d rfl (fun h1 => ?_) (fun h1 => ?_)
  · refine W.seq ?_
    refine W.regS (SR.q' (r_mv (v := .int .i64 _) rfl) <| SR.q' (r_neg rfl (by omega)) <| SR.call ent54 (c_spec_l1Num w (-n) (by omega)) rfl ?_)
    rintro e w2 ⟨rfl, hk3⟩
    refine ⟨_, rfl, ?_⟩
    have hz4 := hk3.size
    have hB5 := (Lo.refl w).lo hk3
    have hq6 : (Lib.itoa (-n)).length ≤ 21 := itoa_len (n := -n) (by omega) (by omega)
    refine SR.q' (r_cat rfl rfl (by first | omega | (simp only [List.length_append, List.length_cons, List.length_nil, List.length_take, List.length_drop]; omega) | (simp only [List.length_append, List.length_cons, List.length_nil, List.length_take, List.length_drop] at *; omega))) <| SR.q' (r_as (v := str _) rfl) <| SR.nil ?_
    refine W.ret ?_
    refine ret1 rfl (v := str _) rfl ?_
    exact ⟨eR (eS (by first | exact itoa_m ‹_› | exact itoa_d (by omega) ‹_› | exact itoa_b (by omega))), hB5⟩
  · refine W.skip ?_
    refine W.seq ?_
    refine W.seq ?_
    refine W.regS (SR.q' (r_mv (v := .int .i64 _) rfl) <| SR.q' (r_lt rfl rfl) <| SR.nil ?_)
    refine W.cond_d rfl (fun h7 => ?_) (fun h7 => ?_)
    · refine W.seq ?_
      refine W.regS (SR.q' (r_mv (v := .int .i64 _) rfl) <| SR.q' (r_mv (v := .int .i64 _) rfl) <| SR.q' (r_add rfl rfl (by omega)) <| SR.q' (r_cutS (l := n.toNat) (h := (n + 1).toNat) und9 rfl rfl rfl (by omega) (by omega) (by omega) (by first | omega | (simp only [List.length_append, List.length_cons, List.length_nil, List.length_take, List.length_drop]; omega) | (simp only [List.length_append, List.length_cons, List.length_nil, List.length_take, List.length_drop] at *; omega))) <| SR.q' (r_as (v := str _) rfl) <| SR.nil ?_)
      refine W.ret ?_
      refine ret1 rfl (v := str _) rfl ?_
      exact ⟨eR (eS (by first | exact itoa_m ‹_› | exact itoa_d (by omega) ‹_› | exact itoa_b (by omega))), (Lo.refl w)⟩
    · refine W.skip ?_
      refine W.seq ?_
      refine W.regD mo (by kernel_rfl) (QR.q' (fun w' hw' => r_mv (v := .int .i64 _) rfl) <| QR.q' (fun w' hw' => r_quo rfl rfl (by omega)) <| QR.call ent54 (fun w' hw' => (c_spec_l1Num w' (n / 10) (by omega)).mono fun _ _ h => ⟨h.1, hw'.trans h.2⟩) rfl <| ?_)
      have hq8 : (Lib.itoa (n / 10)).length ≤ 21 := itoa_len (n := n / 10) (by omega) (by omega)
      refine QR.q' (fun w' hw' => r_mv (v := .int .i64 _) rfl) <| QR.q' (fun w' hw' => r_rem rfl rfl (by omega)) <| QR.q' (fun w' hw' => r_mv (v := .int .i64 _) rfl) <| QR.q' (fun w' hw' => r_rem rfl rfl (by omega)) <| QR.q' (fun w' hw' => r_add rfl rfl (by omega)) <| QR.q' (fun w' hw' => r_cutS (l := (n % 10).toNat) (h := ((n % 10) + 1).toNat) und9 rfl rfl rfl (by omega) (by omega) (by omega) (by first | omega | (simp only [List.length_append, List.length_cons, List.length_nil, List.length_take, List.length_drop]; omega) | (simp only [List.length_append, List.length_cons, List.length_nil, List.length_take, List.length_drop] at *; omega))) <| QR.q' (fun w' hw' => r_cat rfl rfl (by first | omega | (simp only [List.length_append, List.length_cons, List.length_nil, List.length_take, List.length_drop]; omega) | (simp only [List.length_append, List.length_cons, List.length_nil, List.length_take, List.length_drop] at *; omega))) <| QR.q' (fun w' hw' => r_as (v := str _) rfl) <| QR.nil ?_
      intro w9 hk10
      have hz11 := hk10.size
      have hB12 := (Lo.refl w).lo hk10
      refine W.ret ?_
      refine ret1 rfl (v := str _) rfl ?_
      exact ⟨eR (eS (by first | exact itoa_m ‹_› | exact itoa_d (by omega) ‹_› | exact itoa_b (by omega))), hB12⟩
termination_by n.toNat + 2 * (-n).toNat
decreasing_by all_goals omega

theorem c_spec_l32Text (w : World) (x : Library) {Ax_Maps : Option Addr} {nx_Maps cx_Maps Bx_Maps : Nat} (hx_Maps : SlR w Bx_Maps encLMap 3 Ax_Maps nx_Maps cx_Maps x.Maps) {Ax_Away : Option Addr} {nx_Away cx_Away Bx_Away : Nat} (hx_Away : SlR w Bx_Away encAway 2 Ax_Away nx_Away cx_Away x.Away) (i : Int) (hp0 : LibOK x) (hp1 : 0 ≤ i ∧ i < (nx_Maps : Int)) : Calls Tryd.prog 39 #[.agg (List.toArray [.slice Ax_Maps nx_Maps cx_Maps, .slice Ax_Away nx_Away cx_Away, .int .i64 x.Bought, .int .i64 x.Dropped, .int .i64 x.Mended]), .int .i64 i] w fun e w' => e = .returned (str (textL x i)) ∧ Lo w w' := by
  refine calls_W 27 Tryd.func39 rfl rfl rfl ?_
  have hbdx_Maps := hx_Maps.bound
  have hlex_Maps := hx_Maps.len
  have hBbx_Maps := hx_Maps.bd
  have hbdx_Away := hx_Away.bound
  have hlex_Away := hx_Away.len
  have hBbx_Away := hx_Away.bd
  have hla := lib_len hp0
  refine W.seq ?_
  refine W.regS (SR.box (v := .agg (List.toArray _)) (l := [.slice Ax_Maps nx_Maps cx_Maps, .slice Ax_Away nx_Away cx_Away, .int .i64 x.Bought, .int .i64 x.Dropped, .int .i64 x.Mended]) rfl rfl ?_)
  intro g1 w2 hg3 hk4 hs5 hb6
  have hz7 := hk4.size
  have hB8 := (Lo.refl w).lo hk4
  refine SR.q' (r_as (v := str ([] : List UInt8)) rfl) <| SR.nil ?_
  refine W.seq ?_
  refine W.regS (SR.q' (r_fa fa27_0 rfl) <| SR.q' (r_ld (v := .slice Ax_Maps nx_Maps cx_Maps) sca24 rfl ((hb6).cell rfl)) <| SR.q' (r_mv (v := .int .i64 _) rfl) <| ?_)
  have hx10 := ((hx_Maps).lo hk4).elem (i := i.toNat) (by omega)
  have hq11 := maps_rng ‹LibOK x›.1.1 hx10
  refine SR.q' (r_ixR tsl24 ((hx_Maps).lo hk4) rfl rfl (by omega)) <| SR.q' (r_lda (l := encLMap (gt x.Maps i.toNat)) agg48 rfl (fun _ _ hu => ((hx_Maps).lo hk4).cell hx10 hu) (((hx_Maps).lo hk4).esz _)) <| SR.alloc (l := [.int .i64 0, .int .i64 0, .int .i64 0]) tz48 rfl ?_
  intro g12 w13 hg14 hk15 hs16 hb17
  have hz18 := hk15.size
  have hB19 := hB8.lo hk15
  refine SR.store (o := 0) (vs := [.int .i64 ((gt x.Maps i.toNat).Id), .int .i64 ((gt x.Maps i.toNat).Copies), .int .i64 ((gt x.Maps i.toNat).Torn)]) agg48.2 rfl rfl rfl rfl (hb17) (Nat.le_of_ble_eq_true rfl) rfl ?_
  intro w20 hk21 hs22 hb23
  have hz24 := hk21.size
  have hB25 := hB19.new hk21 (by omega)
  refine SR.nil ?_
  refine W.seq ?_
  have hm26 := ((hb6).lo hk15).kn hk21 (by omega)
  have hm27 := (((hx_Maps).lo hk4).lo hk15).kn hk21 (by omega)
  have hm28 := (((hx_Away).lo hk4).lo hk15).kn hk21 (by omega)
  refine W.regA (Lo w20) (fun f' w' => ∃ (A47 : Option Addr) (n48 : Nat) (c49 : Nat), At f' [(4, str (((((Lib.itoa ((gt x.Maps i.toNat).Copies)) ++ ([32, 116, 111, 114, 110, 32] : List UInt8)) ++ (Lib.itoa ((gt x.Maps i.toNat).Torn))) ++ ([32, 97, 119, 97, 121, 32] : List UInt8)) ++ (Lib.itoa (n48 : Int))))] ∧ (Lo w20 w') ∧ ((Lib.itoa ((gt x.Maps i.toNat).Copies)).length ≤ 21) ∧ ((Lib.itoa ((gt x.Maps i.toNat).Torn)).length ≤ 21) ∧ (n48 = (selL (ofM ((gt x.Maps i.toNat).Id)) Away.Reader x.Away).length) ∧ ((n48 : Int) ≤ 9223372036854775807) ∧ ((selL (ofM ((gt x.Maps i.toNat).Id)) Away.Reader x.Away).length ≤ x.Away.length) ∧ ((Lib.itoa (n48 : Int)).length ≤ 21)) mo ?_ ?_
  · intro w63 hk64
    have hz65 := hk64.size
    have hB66 := hB25.lo hk64
    refine AH.take 0 rfl (by kernel_rfl) trivial (hk64) (fun w' hw' => r_fa fa48_1 rfl) <| AH.take 1 rfl (by kernel_rfl) trivial (hk64) (fun w' hw' => r_ld (v := .int .i64 ((gt x.Maps i.toNat).Copies)) sca3 rfl (((hb23).lo hw').cell rfl)) <| AH.take 4 rfl (by kernel_rfl) trivial (hk64) (fun w' hw' => r_fa fa48_2 rfl) <| AH.take 5 rfl (by kernel_rfl) trivial (hk64) (fun w' hw' => r_ld (v := .int .i64 ((gt x.Maps i.toNat).Torn)) sca3 rfl (((hb23).lo hw').cell rfl)) <| AH.take 9 rfl (by kernel_rfl) trivial (hk64) (fun w' hw' => r_lda (l := [.slice Ax_Maps nx_Maps cx_Maps, .slice Ax_Away nx_Away cx_Away, .int .i64 x.Bought, .int .i64 x.Dropped, .int .i64 x.Mended]) agg27 rfl (fun _ _ hu => ((hm26).lo hw').cell hu) rfl) <| AH.take 10 rfl (by kernel_rfl) trivial (hk64) (fun w' hw' => r_fa fa48_0 rfl) <| AH.take 11 rfl (by kernel_rfl) trivial (hk64) (fun w' hw' => r_ld (v := .int .i64 ((gt x.Maps i.toNat).Id)) sca3 rfl (((hb23).lo hw').cell rfl)) <| AH.br [2] (by kernel_rfl) rfl ⟨Br.mk' rfl trivial ?_, trivial⟩
    refine SR.call ent54 (c_spec_l1Num w63 ((gt x.Maps i.toNat).Copies) (by omega)) rfl ?_
    rintro e w67 ⟨rfl, hk68⟩
    refine ⟨_, rfl, ?_⟩
    have hz69 := hk68.size
    have hB70 := hB66.lo hk68
    have hS71 := (hk64).lo hk68
    have hq72 : (Lib.itoa ((gt x.Maps i.toNat).Copies)).length ≤ 21 := itoa_len (n := (gt x.Maps i.toNat).Copies) (by omega) (by omega)
    refine SR.nil ⟨hS71, _, rfl, ?_⟩
    refine AH.take 3 rfl (by kernel_rfl) trivial (hS71) (fun w' hw' => r_cat rfl rfl (by first | omega | (simp only [List.length_append, List.length_cons, List.length_nil, List.length_take, List.length_drop]; omega) | (simp only [List.length_append, List.length_cons, List.length_nil, List.length_take, List.length_drop] at *; omega))) <| AH.br [6] (by kernel_rfl) rfl ⟨Br.mk' rfl trivial ?_, trivial⟩
    refine SR.call ent54 (c_spec_l1Num w67 ((gt x.Maps i.toNat).Torn) (by omega)) rfl ?_
    rintro e w73 ⟨rfl, hk74⟩
    refine ⟨_, rfl, ?_⟩
    have hz75 := hk74.size
    have hB76 := hB70.lo hk74
    have hS77 := (hS71).lo hk74
    have hq78 : (Lib.itoa ((gt x.Maps i.toNat).Torn)).length ≤ 21 := itoa_len (n := (gt x.Maps i.toNat).Torn) (by omega) (by omega)
    refine SR.nil ⟨hS77, _, rfl, ?_⟩
    refine AH.take 7 rfl (by kernel_rfl) trivial (hS77) (fun w' hw' => r_cat rfl rfl (by first | omega | (simp only [List.length_append, List.length_cons, List.length_nil, List.length_take, List.length_drop]; omega) | (simp only [List.length_append, List.length_cons, List.length_nil, List.length_take, List.length_drop] at *; omega))) <| AH.take 8 rfl (by kernel_rfl) trivial (hS77) (fun w' hw' => r_cat rfl rfl (by first | omega | (simp only [List.length_append, List.length_cons, List.length_nil, List.length_take, List.length_drop]; omega) | (simp only [List.length_append, List.length_cons, List.length_nil, List.length_take, List.length_drop] at *; omega))) <| AH.br [12] (by kernel_rfl) rfl ⟨Br.mk' rfl trivial ?_, trivial⟩
    refine SR.call ent32 (c_spec_l32At w73 x (((((hm27).lo hk64).lo hk68).lo hk74)) (((((hm28).lo hk64).lo hk68).lo hk74)) ((gt x.Maps i.toNat).Id) (by omega)) rfl ?_
    rintro e w79 ⟨A81, n82, c83, rfl, hO84, hk80⟩
    refine ⟨_, rfl, ?_⟩
    have hz85 := hk80.size
    have hB86 := hB76.lo hk80
    have hS87 := (hS77).lo hk80
    have hl88 := hO84.len
    have hl89 := hO84.rd.bound
    have hq90 := sel_len x.Away (ofM ((gt x.Maps i.toNat).Id)) Away.Reader
    refine SR.nil ⟨hS87, _, rfl, ?_⟩
    refine AH.take 13 rfl (by kernel_rfl) trivial (hS87) (fun w' hw' => r_len und30 rfl) <| AH.br [14] (by kernel_rfl) rfl ⟨Br.mk' rfl trivial ?_, trivial⟩
    refine SR.call ent54 (c_spec_l1Num w79 (n82 : Int) (by omega)) rfl ?_
    rintro e w91 ⟨rfl, hk92⟩
    refine ⟨_, rfl, ?_⟩
    have hz93 := hk92.size
    have hB94 := hB86.lo hk92
    have hS95 := (hS87).lo hk92
    have hq96 : (Lib.itoa (n82 : Int)).length ≤ 21 := itoa_len (n := (n82 : Int)) (by omega) (by omega)
    refine SR.nil ⟨hS95, _, rfl, ?_⟩
    refine AH.take 15 rfl (by kernel_rfl) trivial (hS95) (fun w' hw' => r_cat rfl rfl (by first | omega | (simp only [List.length_append, List.length_cons, List.length_nil, List.length_take, List.length_drop]; omega) | (simp only [List.length_append, List.length_cons, List.length_nil, List.length_take, List.length_drop] at *; omega))) <| AH.take 16 rfl (by kernel_rfl) trivial (hS95) (fun w' hw' => r_as (v := str _) rfl) <| AH.done (by kernel_rfl) ?_
    exact ⟨A81, n82, c83, ⟨rfl, trivial⟩, hS95, hq72, hq78, hl88, hl89, hq90, hq96⟩
  rintro f97 w98 ⟨A47, n48, c49, hat100, hR99, hq38, hq44, hl54, hl55, hq56, hq62⟩
  rw [← sets_of_at hat100]
  have hz101 := hR99.size
  have hB102 := hB25.lo hR99
  refine W.ret ?_
  refine ret1 rfl (v := str _) rfl ?_
  exact ⟨eR (eS (by unfold textL textM; rw [← ‹_ = (selL _ _ _).length›])), hB102⟩

theorem c_spec_MapText (w : World) (x : Library) {Ax_Maps : Option Addr} {nx_Maps cx_Maps Bx_Maps : Nat} (hx_Maps : SlR w Bx_Maps encLMap 3 Ax_Maps nx_Maps cx_Maps x.Maps) {Ax_Away : Option Addr} {nx_Away cx_Away Bx_Away : Nat} (hx_Away : SlR w Bx_Away encAway 2 Ax_Away nx_Away cx_Away x.Away) (id : Int) : Calls Tryd.prog 22 #[.agg (List.toArray [.slice Ax_Maps nx_Maps cx_Maps, .slice Ax_Away nx_Away cx_Away, .int .i64 x.Bought, .int .i64 x.Dropped, .int .i64 x.Mended]), .int .i64 id] w fun e w' => e = .returned (.tuple (List.toArray [str ((mapT x id).1), .bool ((mapT x id).2)])) ∧ Lo w w' := by
  refine calls_W 20 Tryd.func22 rfl rfl rfl ?_
  have hbdx_Maps := hx_Maps.bound
  have hlex_Maps := hx_Maps.len
  have hBbx_Maps := hx_Maps.bd
  have hbdx_Away := hx_Away.bound
  have hlex_Away := hx_Away.len
  have hBbx_Away := hx_Away.bd
  refine W.seq ?_
  refine W.regS (SR.box (v := .agg (List.toArray _)) (l := [.slice Ax_Maps nx_Maps cx_Maps, .slice Ax_Away nx_Away cx_Away, .int .i64 x.Bought, .int .i64 x.Dropped, .int .i64 x.Mended]) rfl rfl ?_)
  intro g1 w2 hg3 hk4 hs5 hb6
  have hz7 := hk4.size
  have hB8 := (Lo.refl w).lo hk4
  refine SR.q' (r_as (v := str ([] : List UInt8)) rfl) <| SR.q' (r_as (v := .bool false) rfl) <| SR.nil ?_
  refine W.seq ?_
  refine W.regS (SR.q' (r_lda (l := [.slice Ax_Maps nx_Maps cx_Maps, .slice Ax_Away nx_Away cx_Away, .int .i64 x.Bought, .int .i64 x.Dropped, .int .i64 x.Mended]) agg27 rfl (fun _ _ hu => (hb6).cell hu) rfl) <| SR.q' (r_mv (v := .int .i64 _) rfl) <| SR.call ent31 (c_spec_l32Map w2 x (((hx_Maps).lo hk4)) (((hx_Away).lo hk4)) id) rfl ?_)
  rintro e w9 ⟨rfl, hk10⟩
  refine ⟨_, rfl, ?_⟩
  have hz11 := hk10.size
  have hB12 := hB8.lo hk10
  have hq13 : idxF (hasId id) x.Maps < (x.Maps.length : Int) ∧ -1 ≤ idxF (hasId id) x.Maps := idx_lt
  refine SR.q' (r_as (v := .int .i64 _) rfl) <| SR.nil ?_
  refine W.seq ?_
  refine W.seq ?_
  have hm14 := ((hx_Maps).lo hk4).lo hk10
  have hm15 := ((hx_Away).lo hk4).lo hk10
  refine W.regJS (fun f' w' => At f' [(2, .pointer (pA g1)), (4, str ([] : List UInt8)), (5, .bool false), (6, .int .i64 (idxF (hasId id) x.Maps)), (16, .bool (decide ((¬ (LibOK x)) ∨ ((idxF (hasId id) x.Maps) < 0))))] ∧ Lo w9 w') ?_ ?_
  · refine SR.q' (r_lda (l := [.slice Ax_Maps nx_Maps cx_Maps, .slice Ax_Away nx_Away cx_Away, .int .i64 x.Bought, .int .i64 x.Dropped, .int .i64 x.Mended]) agg27 rfl (fun _ _ hu => ((hb6).lo hk10).cell hu) rfl) <| SR.call ent30 (c_spec_l32Good w9 x ((hm14)) ((hm15))) rfl ?_
    rintro e w16 ⟨rfl, hk17⟩
    refine ⟨_, rfl, ?_⟩
    have hz18 := hk17.size
    have hB19 := hB12.lo hk17
    refine SR.q' (r_not rfl) <| SR.q' (r_mv (v := .bool _) rfl) <| SR.splitN (fun h20 => ?_) (fun h20 => ?_)
    · refine SR.s' rfl <| SR.s' rfl <| SR.q' (r_pick true rfl (v := .bool true) rfl) <| SR.nil ?_
      exact ⟨_, rfl, ⟨⟨rfl, rfl, rfl, rfl, (eDT ((jmf h20).1 trivial)), trivial⟩, (hk17)⟩⟩
    · have hq21 := And.left h20
      have hq22 := lib_len h20
      have hq23 := And.left hq21
      have hq24 := And.right hq21
      refine SR.g' rfl (r_mv (v := .int .i64 _) rfl) <| SR.g' rfl (r_lt rfl rfl) <| SR.q' (r_pick false rfl (v := .bool _) rfl) <| SR.nil ?_
      exact ⟨_, rfl, ⟨⟨rfl, rfl, rfl, rfl, (eDD (jmt h20)), trivial⟩, (hk17)⟩⟩
  rintro f25 w26 ⟨hat27, hk28⟩
  rw [← sets_of_at hat27]
  have hz29 := hk28.size
  have hB30 := hB12.lo hk28
  refine W.cond_d rfl (fun h31 => ?_) (fun h31 => ?_)
  · refine W.seq ?_
    refine W.regS (SR.q' (r_as (v := str ([] : List UInt8)) rfl) <| SR.q' (r_as (v := .bool false) rfl) <| SR.nil ?_)
    refine W.ret ?_
    refine ret2 rfl (v := str _) (v' := .bool _) rfl rfl ?_
    exact ⟨eR (eT2 (eS (by first | (rw [mapT_noI ‹_›]; done) | (rw [mapT_noS ‹_›]; done) | (rw [mapT_eqI ‹bsF _ _ _› ‹LibOK _›, ← ‹_ = (selL _ _ _).length›]; first | done | rfl) | (rw [mapT_eqS ⟨‹LibOK x›, by omega⟩]; first | done | rfl))) (eB (by first | (rw [mapT_noI ‹_›]; done) | (rw [mapT_noS ‹_›]; done) | (rw [mapT_eqI ‹bsF _ _ _› ‹LibOK _›]; done) | (rw [mapT_eqS ⟨‹LibOK x›, by omega⟩]; done)))), hB30⟩
  · have hq33 : LibOK x := (Classical.not_not.1 (not_or.1 h31).1)
    have hq34 : ¬ ((idxF (hasId id) x.Maps) < 0) := (not_or.1 h31).2
    have hq35 := And.left hq33
    have hq36 := lib_len hq33
    have hq37 := Int.not_lt.1 hq34
    have hq38 := And.left hq35
    have hq39 := And.right hq35
    refine W.skip ?_
    refine W.seq ?_
    have hm40 := ((hb6).lo hk10).lo hk28
    refine W.regS (SR.q' (r_lda (l := [.slice Ax_Maps nx_Maps cx_Maps, .slice Ax_Away nx_Away cx_Away, .int .i64 x.Bought, .int .i64 x.Dropped, .int .i64 x.Mended]) agg27 rfl (fun _ _ hu => (hm40).cell hu) rfl) <| SR.q' (r_mv (v := .int .i64 _) rfl) <| SR.call ent39 (c_spec_l32Text w26 x (((hm14).lo hk28)) (((hm15).lo hk28)) (idxF (hasId id) x.Maps) (by assumption) (by omega)) rfl ?_)
    rintro e w41 ⟨rfl, hk42⟩
    refine ⟨_, rfl, ?_⟩
    have hz43 := hk42.size
    have hB44 := hB30.lo hk42
    have hq45 : (textL x (idxF (hasId id) x.Maps)).length ≤ 75 := textL_len (x := x) (by assumption) (i := (idxF (hasId id) x.Maps)) (by omega)
    refine SR.q' (r_as (v := str _) rfl) <| SR.q' (r_as (v := .bool true) rfl) <| SR.nil ?_
    refine W.ret ?_
    refine ret2 rfl (v := str _) (v' := .bool _) rfl rfl ?_
    exact ⟨eR (eT2 (eS (by first | (rw [mapT_noI ‹_›]; done) | (rw [mapT_noS ‹_›]; done) | (rw [mapT_eqI ‹bsF _ _ _› ‹LibOK _›, ← ‹_ = (selL _ _ _).length›]; first | done | rfl) | (rw [mapT_eqS ⟨‹LibOK x›, by omega⟩]; first | done | rfl))) (eB (by first | (rw [mapT_noI ‹_›]; done) | (rw [mapT_noS ‹_›]; done) | (rw [mapT_eqI ‹bsF _ _ _› ‹LibOK _›]; done) | (rw [mapT_eqS ⟨‹LibOK x›, by omega⟩]; done)))), hB44⟩

theorem c_impl_MapText (w : World) (x : Library) {Ax_Maps : Option Addr} {nx_Maps cx_Maps Bx_Maps : Nat} (hx_Maps : SlR w Bx_Maps encLMap 3 Ax_Maps nx_Maps cx_Maps x.Maps) {Ax_Away : Option Addr} {nx_Away cx_Away Bx_Away : Nat} (hx_Away : SlR w Bx_Away encAway 2 Ax_Away nx_Away cx_Away x.Away) (id : Int) (hp0 : (nx_Maps : Int) ≤ 1048576) (hE : EnvW w) : Calls Tryd.prog 21 #[.agg (List.toArray [.slice Ax_Maps nx_Maps cx_Maps, .slice Ax_Away nx_Away cx_Away, .int .i64 x.Bought, .int .i64 x.Dropped, .int .i64 x.Mended]), .int .i64 id] w fun e w' => e = .returned (.tuple (List.toArray [str ((mapT x id).1), .bool ((mapT x id).2)])) ∧ Lo w w' := by
  refine calls_W 42 Tryd.func21 rfl rfl rfl ?_
  have hbdx_Maps := hx_Maps.bound
  have hlex_Maps := hx_Maps.len
  have hBbx_Maps := hx_Maps.bd
  have hbdx_Away := hx_Away.bound
  have hlex_Away := hx_Away.len
  have hBbx_Away := hx_Away.bd
  refine W.seq ?_
  refine W.regS (SR.box (v := .agg (List.toArray _)) (l := [.slice Ax_Maps nx_Maps cx_Maps, .slice Ax_Away nx_Away cx_Away, .int .i64 x.Bought, .int .i64 x.Dropped, .int .i64 x.Mended]) rfl rfl ?_)
  intro g1 w2 hg3 hk4 hs5 hb6
  have hz7 := hk4.size
  have hB8 := (Lo.refl w).lo hk4
  refine SR.q' (r_as (v := str ([] : List UInt8)) rfl) <| SR.q' (r_as (v := .bool false) rfl) <| SR.nil ?_
  refine W.seq ?_
  refine W.regS (SR.q' (r_lda (l := [.slice Ax_Maps nx_Maps cx_Maps, .slice Ax_Away nx_Away cx_Away, .int .i64 x.Bought, .int .i64 x.Dropped, .int .i64 x.Mended]) agg27 rfl (fun _ _ hu => (hb6).cell hu) rfl) <| SR.q' (r_mv (v := .int .i64 _) rfl) <| SR.call ent27 (c__impl_Library__mapAt w2 x (((hx_Maps).lo hk4)) (((hx_Away).lo hk4)) id (by omega)) rfl ?_)
  rintro e w9 ⟨rfl, hk10⟩
  refine ⟨_, rfl, ?_⟩
  have hz11 := hk10.size
  have hB12 := hB8.lo hk10
  have hq13 : bsP cmpM id x.Maps ≤ x.Maps.length := bsP_le
  refine SR.q' (r_mv (v := .tuple (List.toArray _)) rfl) <| SR.q' (r_ext (v := .int .i64 _) rfl rfl) <| SR.q' (r_ext (v := .bool _) rfl rfl) <| SR.q' (r_as (v := .int .i64 _) rfl) <| SR.q' (r_as (v := .bool _) rfl) <| SR.nil ?_
  refine W.seq ?_
  refine W.seq ?_
  have hm14 := ((hx_Maps).lo hk4).lo hk10
  have hm15 := ((hx_Away).lo hk4).lo hk10
  refine W.regJS (fun f' w' => At f' [(1, .int .i64 id), (2, .pointer (pA g1)), (4, str ([] : List UInt8)), (5, .bool false), (6, .int .i64 (bsP cmpM id x.Maps : Int)), (21, .bool (decide ((¬ (bsF cmpM id x.Maps)) ∨ (¬ (LibOK x)))))] ∧ Lo w9 w') ?_ ?_
  · refine SR.q' (r_mv (v := .bool _) rfl) <| SR.q' (r_not rfl) <| SR.q' (r_mv (v := .bool _) rfl) <| SR.splitN (fun h16 => ?_) (fun h16 => ?_)
    · refine SR.s' rfl <| SR.s' rfl <| SR.s' rfl <| SR.q' (r_pick true rfl (v := .bool true) rfl) <| SR.nil ?_
      exact ⟨_, rfl, ⟨⟨rfl, rfl, rfl, rfl, rfl, (eDT ((jmf h16).1 trivial)), trivial⟩, (Lo.refl _)⟩⟩
    · have hq17 := And.left h16
      have hq18 := And.left h16
      refine SR.g' rfl (r_lda (l := [.slice Ax_Maps nx_Maps cx_Maps, .slice Ax_Away nx_Away cx_Away, .int .i64 x.Bought, .int .i64 x.Dropped, .int .i64 x.Mended]) agg27 rfl (fun _ _ hu => ((hb6).lo hk10).cell hu) rfl) <| SR.gcall rfl ent28 (c_impl_IsLibrary w9 x ((hm14)) ((hm15)) (by omega)) rfl ?_
      rintro e w19 ⟨rfl, hk20⟩
      refine ⟨_, rfl, ?_⟩
      have hz21 := hk20.size
      have hB22 := hB12.lo hk20
      refine SR.g' rfl (r_not rfl) <| SR.q' (r_pick false rfl (v := .bool _) rfl) <| SR.nil ?_
      exact ⟨_, rfl, ⟨⟨rfl, rfl, rfl, rfl, rfl, (eND (jmt h16)), trivial⟩, (hk20)⟩⟩
  rintro f23 w24 ⟨hat25, hk26⟩
  rw [← sets_of_at hat25]
  have hz27 := hk26.size
  have hB28 := hB12.lo hk26
  refine W.cond_d rfl (fun h29 => ?_) (fun h29 => ?_)
  · refine W.seq ?_
    refine W.regS (SR.q' (r_as (v := str ([] : List UInt8)) rfl) <| SR.q' (r_as (v := .bool false) rfl) <| SR.nil ?_)
    refine W.ret ?_
    refine ret2 rfl (v := str _) (v' := .bool _) rfl rfl ?_
    exact ⟨eR (eT2 (eS (by first | (rw [mapT_noI ‹_›]; done) | (rw [mapT_noS ‹_›]; done) | (rw [mapT_eqI ‹bsF _ _ _› ‹LibOK _›, ← ‹_ = (selL _ _ _).length›]; first | done | rfl) | (rw [mapT_eqS ⟨‹LibOK x›, by omega⟩]; first | done | rfl))) (eB (by first | (rw [mapT_noI ‹_›]; done) | (rw [mapT_noS ‹_›]; done) | (rw [mapT_eqI ‹bsF _ _ _› ‹LibOK _›]; done) | (rw [mapT_eqS ⟨‹LibOK x›, by omega⟩]; done)))), hB28⟩
  · have hq31 : bsF cmpM id x.Maps := (Classical.not_not.1 (not_or.1 h29).1)
    have hq32 : LibOK x := (Classical.not_not.1 (not_or.1 h29).2)
    have hq33 := And.left hq31
    have hq34 := And.left hq31
    have hq35 := And.left hq32
    have hq36 := lib_len hq32
    have hq37 := And.left hq35
    have hq38 := And.right hq35
    refine W.skip ?_
    refine W.seq ?_
    have hm39 := ((hb6).lo hk10).lo hk26
    refine W.regS (SR.q' (r_fa fa27_0 rfl) <| SR.q' (r_ld (v := .slice Ax_Maps nx_Maps cx_Maps) sca24 rfl ((hm39).cell rfl)) <| SR.q' (r_mv (v := .int .i64 _) rfl) <| ?_)
    have hx41 := ((hm14).lo hk26).elem (i := (bsP cmpM id x.Maps : Int).toNat) (by omega)
    have hq42 := maps_rng ‹LibOK x›.1.1 hx41
    refine SR.q' (r_ixR tsl24 ((hm14).lo hk26) rfl rfl (by omega)) <| SR.q' (r_lda (l := encLMap (gt x.Maps ((bsP cmpM id x.Maps : Int).toNat))) agg48 rfl (fun _ _ hu => ((hm14).lo hk26).cell hx41 hu) (((hm14).lo hk26).esz _)) <| SR.alloc (l := [.int .i64 0, .int .i64 0, .int .i64 0]) tz48 rfl ?_
    intro g43 w44 hg45 hk46 hs47 hb48
    have hz49 := hk46.size
    have hB50 := hB28.lo hk46
    refine SR.store (o := 0) (vs := [.int .i64 ((gt x.Maps ((bsP cmpM id x.Maps : Int).toNat)).Id), .int .i64 ((gt x.Maps ((bsP cmpM id x.Maps : Int).toNat)).Copies), .int .i64 ((gt x.Maps ((bsP cmpM id x.Maps : Int).toNat)).Torn)]) agg48.2 rfl rfl rfl rfl (hb48) (Nat.le_of_ble_eq_true rfl) rfl ?_
    intro w51 hk52 hs53 hb54
    have hz55 := hk52.size
    have hB56 := hB50.new hk52 (by omega)
    refine SR.nil ?_
    refine W.seq ?_
    have hm57 := ((hm39).lo hk46).kn hk52 (by omega)
    have hm58 := (((hm14).lo hk26).lo hk46).kn hk52 (by omega)
    have hm59 := (((hm15).lo hk26).lo hk46).kn hk52 (by omega)
    refine W.regA (Lo w51) (fun f' w' => ∃ (A78 : Option Addr) (n79 : Nat) (c80 : Nat), At f' [(4, str (((((Lib.itoa ((gt x.Maps ((bsP cmpM id x.Maps : Int).toNat)).Copies)) ++ ([32, 116, 111, 114, 110, 32] : List UInt8)) ++ (Lib.itoa ((gt x.Maps ((bsP cmpM id x.Maps : Int).toNat)).Torn))) ++ ([32, 97, 119, 97, 121, 32] : List UInt8)) ++ (Lib.itoa (n79 : Int)))), (5, .bool true)] ∧ (Lo w51 w') ∧ ((Lib.itoa ((gt x.Maps ((bsP cmpM id x.Maps : Int).toNat)).Copies)).length ≤ 21) ∧ ((Lib.itoa ((gt x.Maps ((bsP cmpM id x.Maps : Int).toNat)).Torn)).length ≤ 21) ∧ (n79 = (selL (ofM id) Away.Reader x.Away).length) ∧ ((n79 : Int) ≤ 9223372036854775807) ∧ ((selL (ofM id) Away.Reader x.Away).length ≤ x.Away.length) ∧ ((Lib.itoa (n79 : Int)).length ≤ 21)) mo ?_ ?_
    · intro w94 hk95
      have hz96 := hk95.size
      have hB97 := hB56.lo hk95
      refine AH.take 0 rfl (by kernel_rfl) trivial (hk95) (fun w' hw' => r_fa fa48_1 rfl) <| AH.take 1 rfl (by kernel_rfl) trivial (hk95) (fun w' hw' => r_ld (v := .int .i64 ((gt x.Maps ((bsP cmpM id x.Maps : Int).toNat)).Copies)) sca3 rfl (((hb54).lo hw').cell rfl)) <| AH.take 4 rfl (by kernel_rfl) trivial (hk95) (fun w' hw' => r_fa fa48_2 rfl) <| AH.take 5 rfl (by kernel_rfl) trivial (hk95) (fun w' hw' => r_ld (v := .int .i64 ((gt x.Maps ((bsP cmpM id x.Maps : Int).toNat)).Torn)) sca3 rfl (((hb54).lo hw').cell rfl)) <| AH.take 9 rfl (by kernel_rfl) trivial (hk95) (fun w' hw' => r_lda (l := [.slice Ax_Maps nx_Maps cx_Maps, .slice Ax_Away nx_Away cx_Away, .int .i64 x.Bought, .int .i64 x.Dropped, .int .i64 x.Mended]) agg27 rfl (fun _ _ hu => ((hm57).lo hw').cell hu) rfl) <| AH.take 10 rfl (by kernel_rfl) trivial (hk95) (fun w' hw' => r_mv (v := .int .i64 _) rfl) <| AH.br [2] (by kernel_rfl) rfl ⟨Br.mk' rfl trivial ?_, trivial⟩
      refine SR.call ent38 (c_impl_text w94 ((gt x.Maps ((bsP cmpM id x.Maps : Int).toNat)).Copies) (by omega) (hE.lo (hB97))) rfl ?_
      rintro e w98 ⟨rfl, hk99⟩
      refine ⟨_, rfl, ?_⟩
      have hz100 := hk99.size
      have hB101 := hB97.lo hk99
      have hS102 := (hk95).lo hk99
      have hq103 : (Lib.itoa ((gt x.Maps ((bsP cmpM id x.Maps : Int).toNat)).Copies)).length ≤ 21 := itoa_len (n := (gt x.Maps ((bsP cmpM id x.Maps : Int).toNat)).Copies) (by omega) (by omega)
      refine SR.nil ⟨hS102, _, rfl, ?_⟩
      refine AH.take 3 rfl (by kernel_rfl) trivial (hS102) (fun w' hw' => r_cat rfl rfl (by first | omega | (simp only [List.length_append, List.length_cons, List.length_nil, List.length_take, List.length_drop]; omega) | (simp only [List.length_append, List.length_cons, List.length_nil, List.length_take, List.length_drop] at *; omega))) <| AH.br [6] (by kernel_rfl) rfl ⟨Br.mk' rfl trivial ?_, trivial⟩
      refine SR.call ent38 (c_impl_text w98 ((gt x.Maps ((bsP cmpM id x.Maps : Int).toNat)).Torn) (by omega) (hE.lo (hB101))) rfl ?_
      rintro e w104 ⟨rfl, hk105⟩
      refine ⟨_, rfl, ?_⟩
      have hz106 := hk105.size
      have hB107 := hB101.lo hk105
      have hS108 := (hS102).lo hk105
      have hq109 : (Lib.itoa ((gt x.Maps ((bsP cmpM id x.Maps : Int).toNat)).Torn)).length ≤ 21 := itoa_len (n := (gt x.Maps ((bsP cmpM id x.Maps : Int).toNat)).Torn) (by omega) (by omega)
      refine SR.nil ⟨hS108, _, rfl, ?_⟩
      refine AH.take 7 rfl (by kernel_rfl) trivial (hS108) (fun w' hw' => r_cat rfl rfl (by first | omega | (simp only [List.length_append, List.length_cons, List.length_nil, List.length_take, List.length_drop]; omega) | (simp only [List.length_append, List.length_cons, List.length_nil, List.length_take, List.length_drop] at *; omega))) <| AH.take 8 rfl (by kernel_rfl) trivial (hS108) (fun w' hw' => r_cat rfl rfl (by first | omega | (simp only [List.length_append, List.length_cons, List.length_nil, List.length_take, List.length_drop]; omega) | (simp only [List.length_append, List.length_cons, List.length_nil, List.length_take, List.length_drop] at *; omega))) <| AH.br [11] (by kernel_rfl) rfl ⟨Br.mk' rfl trivial ?_, trivial⟩
      refine SR.call ent29 (c__impl_Library__readersOf w104 x (((((hm58).lo hk95).lo hk99).lo hk105)) (((((hm59).lo hk95).lo hk99).lo hk105)) id (by omega)) rfl ?_
      rintro e w110 ⟨A112, n113, c114, rfl, hO115, hk111⟩
      refine ⟨_, rfl, ?_⟩
      have hz116 := hk111.size
      have hB117 := hB107.lo hk111
      have hS118 := (hS108).lo hk111
      have hl119 := hO115.len
      have hl120 := hO115.rd.bound
      have hq121 := sel_len x.Away (ofM id) Away.Reader
      refine SR.nil ⟨hS118, _, rfl, ?_⟩
      refine AH.take 12 rfl (by kernel_rfl) trivial (hS118) (fun w' hw' => r_len und30 rfl) <| AH.br [13] (by kernel_rfl) rfl ⟨Br.mk' rfl trivial ?_, trivial⟩
      refine SR.call ent38 (c_impl_text w110 (n113 : Int) (by omega) (hE.lo (hB117))) rfl ?_
      rintro e w122 ⟨rfl, hk123⟩
      refine ⟨_, rfl, ?_⟩
      have hz124 := hk123.size
      have hB125 := hB117.lo hk123
      have hS126 := (hS118).lo hk123
      have hq127 : (Lib.itoa (n113 : Int)).length ≤ 21 := itoa_len (n := (n113 : Int)) (by omega) (by omega)
      refine SR.nil ⟨hS126, _, rfl, ?_⟩
      refine AH.take 14 rfl (by kernel_rfl) trivial (hS126) (fun w' hw' => r_cat rfl rfl (by first | omega | (simp only [List.length_append, List.length_cons, List.length_nil, List.length_take, List.length_drop]; omega) | (simp only [List.length_append, List.length_cons, List.length_nil, List.length_take, List.length_drop] at *; omega))) <| AH.take 15 rfl (by kernel_rfl) trivial (hS126) (fun w' hw' => r_as (v := str _) rfl) <| AH.take 16 rfl (by kernel_rfl) trivial (hS126) (fun w' hw' => r_as (v := .bool true) rfl) <| AH.done (by kernel_rfl) ?_
      exact ⟨A112, n113, c114, ⟨rfl, rfl, trivial⟩, hS126, hq103, hq109, hl119, hl120, hq121, hq127⟩
    rintro f128 w129 ⟨A78, n79, c80, hat131, hR130, hq69, hq75, hl85, hl86, hq87, hq93⟩
    rw [← sets_of_at hat131]
    have hz132 := hR130.size
    have hB133 := hB56.lo hR130
    refine W.ret ?_
    refine ret2 rfl (v := str _) (v' := .bool _) rfl rfl ?_
    exact ⟨eR (eT2 (eS (by first | (rw [mapT_noI ‹_›]; done) | (rw [mapT_noS ‹_›]; done) | (rw [mapT_eqI ‹bsF _ _ _› ‹LibOK _›, ← ‹_ = (selL _ _ _).length›]; first | done | rfl) | (rw [mapT_eqS ⟨‹LibOK x›, by omega⟩]; first | done | rfl))) (eB (by first | (rw [mapT_noI ‹_›]; done) | (rw [mapT_noS ‹_›]; done) | (rw [mapT_eqI ‹bsF _ _ _› ‹LibOK _›]; done) | (rw [mapT_eqS ⟨‹LibOK x›, by omega⟩]; done)))), hB133⟩

theorem c_spec_DrawIsLibrary (w : World) {AL : Option Addr} {nL cL BL : Nat}  (L : List UInt8) (hL : SlR w BL encB 1 AL nL cL L) (hp0 : (nL : Int) ≤ 65536) : Calls Tryd.prog 34 #[.slice AL nL cL] w fun e w' => ∃ (A1' : Option Addr) (n1' c1' : Nat) (A2' : Option Addr) (n2' c2' : Nat) (x : Library), e = .returned (.agg (List.toArray [.slice A1' n1' c1', .slice A2' n2' c2', .int .i64 x.Bought, .int .i64 x.Dropped, .int .i64 x.Mended])) ∧ SlO w' w.heap.size encLMap 3 48 A1' n1' c1' x.Maps ∧ SlO w' w.heap.size encAway 2 57 A2' n2' c2' x.Away ∧ (∀ b_, A1' = some ⟨b_, 0, none⟩ → ¬ A2' = some ⟨b_, 0, none⟩) ∧ (x.Maps.length ≤ 9 ∧ x.Away.length ≤ 9) ∧ (MapB x.Maps) ∧ Lo w w' := by
  refine calls_W 9 Tryd.func34 rfl rfl rfl ?_
  have hbdL := hL.bound
  have hleL := hL.len
  have hBbL := hL.bd
  refine W.seq ?_
  refine W.regS (SR.alloc (l := [.slice none 0 0, .slice none 0 0, .int .i64 0, .int .i64 0, .int .i64 0]) tz27 rfl ?_)
  intro g1 w2 hg3 hk4 hs5 hb6
  have hz7 := hk4.size
  have hB8 := (Lo.refl w).lo hk4
  refine SR.nil ?_
  refine W.seq ?_
  refine W.regS (SR.q' (r_mv (v := .slice _ _ _) rfl) <| SR.q' (r_build (vs := [(0, .slice AL nL cL)]) rfl (bld44_0 _ _ _)) <| SR.box (v := .agg (List.toArray _)) (l := [.slice AL nL cL, .int .i64 0, .int .u64 0]) rfl rfl ?_)
  intro g9 w10 hg11 hk12 hs13 hb14
  have hz15 := hk12.size
  have hB16 := hB8.lo hk12
  refine SR.q' (r_as (v := .pointer (some _)) rfl) <| SR.nil ?_
  refine W.seq ?_
  have hm17 := ((hL).lo hk4).lo hk12
  refine W.regS (SR.q' (r_mv (v := .pointer (some _)) rfl) <| SR.call ent23 (c___spec_l1Cur__library w10 L 0 0 (hb14) ((hm17)) (by omega) (by omega)) rfl ?_)
  rintro e w18 ⟨A20, n21, c22, A24, n25, c26, v29, t30, s31, rfl, hO23, hO27, hd28, hb32, ht33, hq34, hq35, hk19⟩
  refine ⟨_, rfl, ?_⟩
  have hz36 := hk19.size
  have hB37 := hB16.new hk19 (by omega)
  have hl38 := hO23.len
  have hl39 := hO23.rd.bound
  have hl40 := hO27.len
  have hl41 := hO27.rd.bound
  refine SR.store (o := 0) (vs := [.slice A20 n21 c22, .slice A24 n25 c26, .int .i64 v29.Bought, .int .i64 v29.Dropped, .int .i64 v29.Mended]) agg27.2 rfl rfl rfl rfl (((hb6).lo hk12).kn hk19 (by omega)) (Nat.le_of_ble_eq_true rfl) rfl ?_
  intro w42 hk43 hs44 hb45
  have hz46 := hk43.size
  have hB47 := hB37.new hk43 (by omega)
  refine SR.nil ?_
  refine W.ret ?_
  refine retC rfl rfl agg27 (hb45) rfl ?_
  exact ⟨A20, n21, c22, A24, n25, c26, v29, eR rfl, (((hO23).kn hk43 (by omega)).down (by omega)), (((hO27).kn hk43 (by omega)).down (by omega)), hd28, hq34, hq35, hB47⟩

theorem c_spec_DrawTornCopies (w : World) {AL : Option Addr} {nL cL BL : Nat}  (L : List UInt8) (hL : SlR w BL encB 1 AL nL cL L) (hp0 : (nL : Int) ≤ 65536) : Calls Tryd.prog 11 #[.slice AL nL cL] w fun e w' => ∃ (A1' : Option Addr) (n1' c1' : Nat) (A2' : Option Addr) (n2' c2' : Nat) (x : Library), e = .returned (.agg (List.toArray [.slice A1' n1' c1', .slice A2' n2' c2', .int .i64 x.Bought, .int .i64 x.Dropped, .int .i64 x.Mended])) ∧ SlO w' w.heap.size encLMap 3 48 A1' n1' c1' x.Maps ∧ SlO w' w.heap.size encAway 2 57 A2' n2' c2' x.Away ∧ (∀ b_, A1' = some ⟨b_, 0, none⟩ → ¬ A2' = some ⟨b_, 0, none⟩) ∧ (x.Maps.length ≤ 9 ∧ x.Away.length ≤ 9) ∧ (MapB x.Maps) ∧ Lo w w' := by
  refine calls_W 5 Tryd.func11 rfl rfl rfl ?_
  have hbdL := hL.bound
  have hleL := hL.len
  have hBbL := hL.bd
  refine W.seq ?_
  refine W.regS (SR.alloc (l := [.slice none 0 0, .slice none 0 0, .int .i64 0, .int .i64 0, .int .i64 0]) tz27 rfl ?_)
  intro g1 w2 hg3 hk4 hs5 hb6
  have hz7 := hk4.size
  have hB8 := (Lo.refl w).lo hk4
  refine SR.nil ?_
  refine W.seq ?_
  refine W.regS (SR.q' (r_mv (v := .slice _ _ _) rfl) <| SR.call ent34 (c_spec_DrawIsLibrary w2 L (((hL).lo hk4)) (by omega)) rfl ?_)
  rintro e w9 ⟨A11, n12, c13, A15, n16, c17, v20, rfl, hO14, hO18, hd19, hq21, hq22, hk10⟩
  refine ⟨_, rfl, ?_⟩
  have hz23 := hk10.size
  have hB24 := hB8.lo hk10
  have hl25 := hO14.len
  have hl26 := hO14.rd.bound
  have hl27 := hO18.len
  have hl28 := hO18.rd.bound
  refine SR.store (o := 0) (vs := [.slice A11 n12 c13, .slice A15 n16 c17, .int .i64 v20.Bought, .int .i64 v20.Dropped, .int .i64 v20.Mended]) agg27.2 rfl rfl rfl rfl ((hb6).lo hk10) (Nat.le_of_ble_eq_true rfl) rfl ?_
  intro w29 hk30 hs31 hb32
  have hz33 := hk30.size
  have hB34 := hB24.new hk30 (by omega)
  refine SR.nil ?_
  refine W.ret ?_
  refine retC rfl rfl agg27 (hb32) rfl ?_
  exact ⟨A11, n12, c13, A15, n16, c17, v20, eR rfl, (((hO14).kn hk30 (by omega)).down (by omega)), (((hO18).kn hk30 (by omega)).down (by omega)), hd19, hq21, hq22, hB34⟩

theorem c_spec_DrawReadersOf (w : World) {AL : Option Addr} {nL cL BL : Nat}  (L : List UInt8) (hL : SlR w BL encB 1 AL nL cL L) (hp0 : (nL : Int) ≤ 65536) : Calls Tryd.prog 5 #[.slice AL nL cL] w fun e w' => ∃ (A1' : Option Addr) (n1' c1' : Nat) (A2' : Option Addr) (n2' c2' : Nat) (x : Library) (v : Int), e = .returned (.tuple (List.toArray [.agg (List.toArray [.slice A1' n1' c1', .slice A2' n2' c2', .int .i64 x.Bought, .int .i64 x.Dropped, .int .i64 x.Mended]), .int .i64 v])) ∧ SlO w' w.heap.size encLMap 3 48 A1' n1' c1' x.Maps ∧ SlO w' w.heap.size encAway 2 57 A2' n2' c2' x.Away ∧ (∀ b_, A1' = some ⟨b_, 0, none⟩ → ¬ A2' = some ⟨b_, 0, none⟩) ∧ (x.Maps.length ≤ 9 ∧ x.Away.length ≤ 9) ∧ (MapB x.Maps) ∧ Lo w w' := by
  refine calls_W 35 Tryd.func5 rfl rfl rfl ?_
  have hbdL := hL.bound
  have hleL := hL.len
  have hBbL := hL.bd
  refine W.seq ?_
  refine W.regS (SR.alloc (l := [.slice none 0 0, .slice none 0 0, .int .i64 0, .int .i64 0, .int .i64 0]) tz27 rfl ?_)
  intro g1 w2 hg3 hk4 hs5 hb6
  have hz7 := hk4.size
  have hB8 := (Lo.refl w).lo hk4
  refine SR.q' (r_as (v := .int .i64 0) rfl) <| SR.nil ?_
  refine W.seq ?_
  refine W.regS (SR.q' (r_mv (v := .slice _ _ _) rfl) <| SR.q' (r_build (vs := [(0, .slice AL nL cL)]) rfl (bld44_0 _ _ _)) <| SR.box (v := .agg (List.toArray _)) (l := [.slice AL nL cL, .int .i64 0, .int .u64 0]) rfl rfl ?_)
  intro g9 w10 hg11 hk12 hs13 hb14
  have hz15 := hk12.size
  have hB16 := hB8.lo hk12
  refine SR.q' (r_as (v := .pointer (some _)) rfl) <| SR.nil ?_
  refine W.seq ?_
  have hm17 := ((hL).lo hk4).lo hk12
  refine W.regS (SR.q' (r_mv (v := .pointer (some _)) rfl) <| SR.call ent23 (c___spec_l1Cur__library w10 L 0 0 (hb14) ((hm17)) (by omega) (by omega)) rfl ?_)
  rintro e w18 ⟨A20, n21, c22, A24, n25, c26, v29, t30, s31, rfl, hO23, hO27, hd28, hb32, ht33, hq34, hq35, hk19⟩
  refine ⟨_, rfl, ?_⟩
  have hz36 := hk19.size
  have hB37 := hB16.new hk19 (by omega)
  have hl38 := hO23.len
  have hl39 := hO23.rd.bound
  have hl40 := hO27.len
  have hl41 := hO27.rd.bound
  refine SR.alloc (l := [.slice none 0 0, .slice none 0 0, .int .i64 0, .int .i64 0, .int .i64 0]) tz27 rfl ?_
  intro g42 w43 hg44 hk45 hs46 hb47
  have hz48 := hk45.size
  have hB49 := hB37.lo hk45
  have hd50 : ¬ A20 = some ⟨g42, 0, none⟩ := fun e' => by have := (hO23).base_le e'; omega
  have hd51 : ¬ A24 = some ⟨g42, 0, none⟩ := fun e' => by have := (hO27).base_le e'; omega
  refine SR.store (o := 0) (vs := [.slice A20 n21 c22, .slice A24 n25 c26, .int .i64 v29.Bought, .int .i64 v29.Dropped, .int .i64 v29.Mended]) agg27.2 rfl rfl rfl rfl (hb47) (Nat.le_of_ble_eq_true rfl) rfl ?_
  intro w52 hk53 hs54 hb55
  have hz56 := hk53.size
  have hB57 := hB49.new hk53 (by omega)
  refine SR.nil ?_
  refine W.seq ?_
  refine W.seq ?_
  have hm58 := ((((hb6).lo hk12).kn hk19 (by omega)).lo hk45).kn hk53 (by omega)
  have hm59 := ((hb32).lo hk45).kn hk53 (by omega)
  have hm60 := (((hm17).kn hk19 (by omega)).lo hk45).kn hk53 (by omega)
  have hm61 := ((hO23).lo hk45).kd hk53 hd50
  have hm62 := ((hO27).lo hk45).kd hk53 hd51
  refine W.regS (SR.q' (r_fa fa27_0 rfl) <| SR.q' (r_ld (v := .slice A20 n21 c22) sca24 rfl ((hb55).cell rfl)) <| SR.q' (r_len und24 rfl) <| SR.q' (r_gt rfl rfl) <| SR.q' (r_mv (v := .bool _) rfl) <| SR.splitD (fun h63 => ?_) (fun h63 => ?_))
  · refine SR.g' rfl (r_mv (v := .pointer (some _)) rfl) <| SR.gcall rfl ent24 (c___spec_l1Cur__one w52 L t30 s31 (hm59) ((hm60)) (by omega) (by omega) 6 (by first | omega | (simp only [List.length_append, List.length_cons, List.length_nil, List.length_take, List.length_drop]; omega))) rfl ?_
    rintro e w64 ⟨v66, t67, s68, rfl, hb69, ht70, hk65⟩
    refine ⟨_, rfl, ?_⟩
    have hz71 := hk65.size
    have hB72 := hB57.new hk65 (by omega)
    refine SR.g' rfl (r_not rfl) <| SR.q' (r_pick true rfl (v := .bool _) rfl) <| SR.nil ?_
    refine W.cond_b rfl (fun h73 => ?_) (fun h73 => ?_)
    · have hq74 := bnot_t h73
      refine W.seq ?_
      refine W.regA (Kp (fun b_ => b_ = g9 ∨ b_ = g1) w64) (fun f' w' => ∃ (v125 : Int) (t126 : Int) (s127 : Int), At f' [(2, .pointer (pA g1)), (3, .int .i64 ((gt v29.Maps v125.toNat).Id)), (4, .pointer (pA g9)), (5, .pointer (pA g42))] ∧ (Kp (fun b_ => b_ = g9 ∨ b_ = g1) w64 w') ∧ (Blk w' g1 27 [.slice A20 n21 c22, .slice A24 n25 c26, .int .i64 v29.Bought, .int .i64 v29.Dropped, .int .i64 v29.Mended]) ∧ (Blk w' g9 44 [.slice AL nL cL, .int .i64 t126, .int .u64 s127]) ∧ (t67 ≤ t126 ∧ t126 ≤ t67 + 2) ∧ ((0 : Int) ≤ v125 ∧ ((v125 : Int) < (n21 : Int) ∨ (v125 : Int) = 0)) ∧ (v29.Maps[v125.toNat]? = some (gt v29.Maps v125.toNat)) ∧ ((-100000 ≤ (gt v29.Maps v125.toNat).Copies ∧ (gt v29.Maps v125.toNat).Copies ≤ 100000) ∧ (-100000 ≤ (gt v29.Maps v125.toNat).Torn ∧ (gt v29.Maps v125.toNat).Torn ≤ 100000))) mo ?_ ?_
      · intro w148 hk149
        have hz150 := hk149.size
        have hB151 := hB72.lo hk149
        refine AH.take 0 rfl (by kernel_rfl) trivial ((Kp.refl w64 : Kp (fun b_ => b_ = g9 ∨ b_ = g1) w64 w64).lo hk149) (fun w' hw' => r_lda (l := [.slice A20 n21 c22, .slice A24 n25 c26, .int .i64 v29.Bought, .int .i64 v29.Dropped, .int .i64 v29.Mended]) agg27 rfl (fun _ _ hu => (((hb55).kn hk65 (by omega)).kp hw' (fun e' => e'.elim (fun e' => by have e'' : g42 = g9 := e'; omega) (fun e' => by have e'' : g42 = g1 := e'; omega))).cell hu) rfl) <| AH.take 1 rfl (by kernel_rfl) trivial ((Kp.refl w64 : Kp (fun b_ => b_ = g9 ∨ b_ = g1) w64 w64).lo hk149) (fun w' hw' => r_fa fa27_0 rfl) <| AH.take 2 rfl (by kernel_rfl) trivial ((Kp.refl w64 : Kp (fun b_ => b_ = g9 ∨ b_ = g1) w64 w64).lo hk149) (fun w' hw' => r_ld (v := .slice A20 n21 c22) sca24 rfl ((((hb55).kn hk65 (by omega)).kp hw' (fun e' => e'.elim (fun e' => by have e'' : g42 = g9 := e'; omega) (fun e' => by have e'' : g42 = g1 := e'; omega))).cell rfl)) <| AH.take 3 rfl (by kernel_rfl) trivial ((Kp.refl w64 : Kp (fun b_ => b_ = g9 ∨ b_ = g1) w64 w64).lo hk149) (fun w' hw' => r_mv (v := .pointer (some _)) rfl) <| AH.take 4 rfl (by kernel_rfl) trivial ((Kp.refl w64 : Kp (fun b_ => b_ = g9 ∨ b_ = g1) w64 w64).lo hk149) (fun w' hw' => r_fa fa27_0 rfl) <| AH.take 5 rfl (by kernel_rfl) trivial ((Kp.refl w64 : Kp (fun b_ => b_ = g9 ∨ b_ = g1) w64 w64).lo hk149) (fun w' hw' => r_ld (v := .slice A20 n21 c22) sca24 rfl ((((hb55).kn hk65 (by omega)).kp hw' (fun e' => e'.elim (fun e' => by have e'' : g42 = g9 := e'; omega) (fun e' => by have e'' : g42 = g1 := e'; omega))).cell rfl)) <| AH.take 6 rfl (by kernel_rfl) trivial ((Kp.refl w64 : Kp (fun b_ => b_ = g9 ∨ b_ = g1) w64 w64).lo hk149) (fun w' hw' => r_len und24 rfl) <| AH.br [7] (by kernel_rfl) rfl ⟨Br.mk' rfl trivial ?_, trivial⟩
        refine SR.call ent25 (c___spec_l1Cur__pick w148 L t67 s68 ((hb69).lo hk149) ((((hm60).kn hk65 (by omega)).lo hk149)) (by omega) (by omega) (n21 : Int) (by first | omega | (simp only [List.length_append, List.length_cons, List.length_nil, List.length_take, List.length_drop]; omega))) rfl ?_
        rintro e w152 ⟨v154, t155, s156, rfl, hb157, ht158, hq159, hk153⟩
        refine ⟨_, rfl, ?_⟩
        have hz160 := hk153.size
        have hB161 := hB151.new hk153 (by omega)
        have hS162 := ((Kp.refl w64 : Kp (fun b_ => b_ = g9 ∨ b_ = g1) w64 w64).lo hk149).step hk153 (fun _ _ e => .inl e)
        refine SR.nil ⟨hS162, _, rfl, ?_⟩
        have hx164 := (((((hm61).kn hk65 (by omega)).lo hk149).kn hk153 (by omega)).rd).elem (i := v154.toNat) (by omega)
        have hq165 := MapB.at hq35 hx164
        refine AH.take 8 rfl (by kernel_rfl) trivial (hS162) (fun w' hw' => r_ixR tsl24 ((((hm61).kn hk65 (by omega)).kp hw' (fun b_ hb e' => e'.elim (fun e' => by have e'' : b_ = g9 := e'; have := ((hm61).kn hk65 (by omega)).base_le hb; omega) (fun e' => by have e'' : b_ = g1 := e'; have := ((hm61).kn hk65 (by omega)).base_le hb; omega))).rd) rfl rfl (by omega)) <| AH.take 9 rfl (by kernel_rfl) trivial (hS162) (fun w' hw' => r_fa fa48_0 rfl) <| AH.take 10 rfl (by kernel_rfl) trivial (hS162) (fun w' hw' => r_ld (v := .int .i64 ((gt v29.Maps v154.toNat).Id)) sca3 rfl (((((hm61).kn hk65 (by omega)).kp hw' (fun b_ hb e' => e'.elim (fun e' => by have e'' : b_ = g9 := e'; have := ((hm61).kn hk65 (by omega)).base_le hb; omega) (fun e' => by have e'' : b_ = g1 := e'; have := ((hm61).kn hk65 (by omega)).base_le hb; omega))).rd).cell hx164 rfl)) <| AH.br [11] (by kernel_rfl) rfl ⟨Br.mk' rfl trivial ?_, trivial⟩
        refine SR.store (o := 0) (vs := [.slice A20 n21 c22, .slice A24 n25 c26, .int .i64 v29.Bought, .int .i64 v29.Dropped, .int .i64 v29.Mended]) agg27.2 rfl rfl rfl rfl ((((hm58).kn hk65 (by omega)).lo hk149).kn hk153 (by omega)) (Nat.le_of_ble_eq_true rfl) rfl ?_
        intro w166 hk167 hs168 hb169
        have hz170 := hk167.size
        have hB171 := hB161.new hk167 (by omega)
        have hS172 := (hS162).step hk167 (fun _ _ e => .inr (e))
        refine SR.nil ⟨hS172, _, rfl, ?_⟩
        refine AH.take 12 rfl (by kernel_rfl) trivial (hS172) (fun w' hw' => r_as (v := .int .i64 _) rfl) <| AH.done (by kernel_rfl) ?_
        exact ⟨v154, t155, s156, ⟨rfl, rfl, rfl, rfl, trivial⟩, hS172, (hb169), ((hb157).kn hk167 (by omega)), ht158, hq159, hx164, hq165⟩
      rintro f173 w174 ⟨v125, t126, s127, hat176, hR175, hm146, hm147, ht129, hq130, hx135, hq136⟩
      rw [← sets_of_at hat176]
      have hz177 := hR175.size
      have hB178 := hB72.step hR175 (fun i_ hi_ e' => e'.elim (fun e' => by have e'' : i_ = g9 := e'; exfalso; omega) (fun e' => by have e'' : i_ = g1 := e'; exfalso; omega))
      refine W.ret ?_
      refine retCT rfl rfl agg27 (hm146) rfl (v := .int .i64 _) rfl ?_
      exact ⟨A20, n21, c22, A24, n25, c26, v29, ((gt v29.Maps v125.toNat).Id), eR (eT2 rfl rfl), ((((hm61).kn hk65 (by omega)).kp hR175 (fun b_ hb e' => e'.elim (fun e' => by have e'' : b_ = g9 := e'; have := ((hm61).kn hk65 (by omega)).base_le hb; omega) (fun e' => by have e'' : b_ = g1 := e'; have := ((hm61).kn hk65 (by omega)).base_le hb; omega))).down (by omega)), ((((hm62).kn hk65 (by omega)).kp hR175 (fun b_ hb e' => e'.elim (fun e' => by have e'' : b_ = g9 := e'; have := ((hm62).kn hk65 (by omega)).base_le hb; omega) (fun e' => by have e'' : b_ = g1 := e'; have := ((hm62).kn hk65 (by omega)).base_le hb; omega))).down (by omega)), hd28, hq34, hq35, hB178⟩
    · have hq179 := bnot_f h73
      refine W.skip ?_
      refine W.seq ?_
      refine W.regA (Kp (fun b_ => b_ = g9 ∨ b_ = g1) w64) (fun f' w' => ∃ (g253 : Nat) (v270 : Int) (t271 : Int) (s272 : Int), At f' [(2, .pointer (pA g1)), (3, .int .i64 v270)] ∧ (Kp (fun b_ => b_ = g9 ∨ b_ = g1) w64 w') ∧ (Blk w' g1 27 [.slice A20 n21 c22, .slice A24 n25 c26, .int .i64 v29.Bought, .int .i64 v29.Dropped, .int .i64 v29.Mended]) ∧ (Blk w' g9 44 [.slice AL nL cL, .int .i64 t271, .int .u64 s272]) ∧ (t67 ≤ t271 ∧ t271 ≤ t67 + 2) ∧ (v270 ∈ ([0, 1, 7] : List Int)) ∧ ((0 : Int) ≤ v270 ∧ v270 ≤ 7)) mo ?_ ?_
      · intro w291 hk292
        have hz293 := hk292.size
        have hB294 := hB72.lo hk292
        refine AH.take 0 rfl (by kernel_rfl) trivial ((Kp.refl w64 : Kp (fun b_ => b_ = g9 ∨ b_ = g1) w64 w64).lo hk292) (fun w' hw' => r_lda (l := [.slice A20 n21 c22, .slice A24 n25 c26, .int .i64 v29.Bought, .int .i64 v29.Dropped, .int .i64 v29.Mended]) agg27 rfl (fun _ _ hu => (((hb55).kn hk65 (by omega)).kp hw' (fun e' => e'.elim (fun e' => by have e'' : g42 = g9 := e'; omega) (fun e' => by have e'' : g42 = g1 := e'; omega))).cell hu) rfl) <| AH.take 1 rfl (by kernel_rfl) trivial ((Kp.refl w64 : Kp (fun b_ => b_ = g9 ∨ b_ = g1) w64 w64).lo hk292) (fun w' hw' => r_mv (v := .pointer (some _)) rfl) <| AH.br [2] (by kernel_rfl) rfl ⟨Br.mk' rfl trivial ?_, trivial⟩
        refine SR.lit (vs := [.int .i64 0, .int .i64 1, .int .i64 7]) (L := ([0, 1, 7] : List Int)) (enc := encI) tel30 (fun _ => rfl) rfl rfl rfl (by decide) ?_
        intro g295 w296 hg297 hk298 hO299
        have hz300 := hk298.size
        have hB301 := hB294.lo hk298
        have hS302 := ((Kp.refl w64 : Kp (fun b_ => b_ = g9 ∨ b_ = g1) w64 w64).lo hk292).lo hk298
        refine SR.nil ⟨hS302, _, rfl, ?_⟩
        refine AH.br [3] (by kernel_rfl) rfl ⟨Br.mk' rfl trivial ?_, trivial⟩
        refine SR.call ent26 (c___spec_l1Cur__among w296 L t67 s68 (((hb69).lo hk292).lo hk298) (((((hm60).kn hk65 (by omega)).lo hk292).lo hk298)) (by omega) (by omega) ([0, 1, 7] : List Int) (((hO299).rd)) (by omega) (by omega) (show ¬ g295 = g9 from by first | omega | (have := (hO299).base_le rfl; omega))) rfl ?_
        rintro e w305 ⟨v307, t308, s309, rfl, hb310, ht311, hq312, hk306⟩
        refine ⟨_, rfl, ?_⟩
        have hz313 := hk306.size
        have hB314 := hB301.new hk306 (by omega)
        have hS315 := (hS302).step hk306 (fun _ _ e => .inl e)
        have hq316 : (0 : Int) ≤ v307 ∧ v307 ≤ 7 := mem_rngB (lo := 0) (hi := 7) (by decide) hq312
        refine SR.nil ⟨hS315, _, rfl, ?_⟩
        refine AH.br [4] (by kernel_rfl) rfl ⟨Br.mk' rfl trivial ?_, trivial⟩
        refine SR.store (o := 0) (vs := [.slice A20 n21 c22, .slice A24 n25 c26, .int .i64 v29.Bought, .int .i64 v29.Dropped, .int .i64 v29.Mended]) agg27.2 rfl rfl rfl rfl (((((hm58).kn hk65 (by omega)).lo hk292).lo hk298).kn hk306 (by omega)) (Nat.le_of_ble_eq_true rfl) rfl ?_
        intro w317 hk318 hs319 hb320
        have hz321 := hk318.size
        have hB322 := hB314.new hk318 (by omega)
        have hS323 := (hS315).step hk318 (fun _ _ e => .inr (e))
        refine SR.nil ⟨hS323, _, rfl, ?_⟩
        refine AH.take 5 rfl (by kernel_rfl) trivial (hS323) (fun w' hw' => r_as (v := .int .i64 _) rfl) <| AH.done (by kernel_rfl) ?_
        exact ⟨g295, v307, t308, s309, ⟨rfl, rfl, trivial⟩, hS323, (hb320), ((hb310).kn hk318 (by omega)), ht311, hq312, hq316⟩
      rintro f324 w325 ⟨g253, v270, t271, s272, hat327, hR326, hm289, hm290, ht274, hq275, hq279⟩
      rw [← sets_of_at hat327]
      have hz328 := hR326.size
      have hB329 := hB72.step hR326 (fun i_ hi_ e' => e'.elim (fun e' => by have e'' : i_ = g9 := e'; exfalso; omega) (fun e' => by have e'' : i_ = g1 := e'; exfalso; omega))
      refine W.ret ?_
      refine retCT rfl rfl agg27 (hm289) rfl (v := .int .i64 _) rfl ?_
      exact ⟨A20, n21, c22, A24, n25, c26, v29, v270, eR (eT2 rfl rfl), ((((hm61).kn hk65 (by omega)).kp hR326 (fun b_ hb e' => e'.elim (fun e' => by have e'' : b_ = g9 := e'; have := ((hm61).kn hk65 (by omega)).base_le hb; omega) (fun e' => by have e'' : b_ = g1 := e'; have := ((hm61).kn hk65 (by omega)).base_le hb; omega))).down (by omega)), ((((hm62).kn hk65 (by omega)).kp hR326 (fun b_ hb e' => e'.elim (fun e' => by have e'' : b_ = g9 := e'; have := ((hm62).kn hk65 (by omega)).base_le hb; omega) (fun e' => by have e'' : b_ = g1 := e'; have := ((hm62).kn hk65 (by omega)).base_le hb; omega))).down (by omega)), hd28, hq34, hq35, hB329⟩
  · refine SR.s' rfl <| SR.s' rfl <| SR.s' rfl <| SR.q' (r_pick false rfl (v := .bool false) rfl) <| SR.nil ?_
    refine W.cond_f rfl ?_
    refine W.skip ?_
    refine W.seq ?_
    refine W.regA (Kp (fun b_ => b_ = g9 ∨ b_ = g1) w52) (fun f' w' => ∃ (g403 : Nat) (v420 : Int) (t421 : Int) (s422 : Int), At f' [(2, .pointer (pA g1)), (3, .int .i64 v420)] ∧ (Kp (fun b_ => b_ = g9 ∨ b_ = g1) w52 w') ∧ (Blk w' g1 27 [.slice A20 n21 c22, .slice A24 n25 c26, .int .i64 v29.Bought, .int .i64 v29.Dropped, .int .i64 v29.Mended]) ∧ (Blk w' g9 44 [.slice AL nL cL, .int .i64 t421, .int .u64 s422]) ∧ (t30 ≤ t421 ∧ t421 ≤ t30 + 2) ∧ (v420 ∈ ([0, 1, 7] : List Int)) ∧ ((0 : Int) ≤ v420 ∧ v420 ≤ 7)) mo ?_ ?_
    · intro w441 hk442
      have hz443 := hk442.size
      have hB444 := hB57.lo hk442
      refine AH.take 0 rfl (by kernel_rfl) trivial ((Kp.refl w52 : Kp (fun b_ => b_ = g9 ∨ b_ = g1) w52 w52).lo hk442) (fun w' hw' => r_lda (l := [.slice A20 n21 c22, .slice A24 n25 c26, .int .i64 v29.Bought, .int .i64 v29.Dropped, .int .i64 v29.Mended]) agg27 rfl (fun _ _ hu => ((hb55).kp hw' (fun e' => e'.elim (fun e' => by have e'' : g42 = g9 := e'; omega) (fun e' => by have e'' : g42 = g1 := e'; omega))).cell hu) rfl) <| AH.take 1 rfl (by kernel_rfl) trivial ((Kp.refl w52 : Kp (fun b_ => b_ = g9 ∨ b_ = g1) w52 w52).lo hk442) (fun w' hw' => r_mv (v := .pointer (some _)) rfl) <| AH.br [2] (by kernel_rfl) rfl ⟨Br.mk' rfl trivial ?_, trivial⟩
      refine SR.lit (vs := [.int .i64 0, .int .i64 1, .int .i64 7]) (L := ([0, 1, 7] : List Int)) (enc := encI) tel30 (fun _ => rfl) rfl rfl rfl (by decide) ?_
      intro g445 w446 hg447 hk448 hO449
      have hz450 := hk448.size
      have hB451 := hB444.lo hk448
      have hS452 := ((Kp.refl w52 : Kp (fun b_ => b_ = g9 ∨ b_ = g1) w52 w52).lo hk442).lo hk448
      refine SR.nil ⟨hS452, _, rfl, ?_⟩
      refine AH.br [3] (by kernel_rfl) rfl ⟨Br.mk' rfl trivial ?_, trivial⟩
      refine SR.call ent26 (c___spec_l1Cur__among w446 L t30 s31 (((hm59).lo hk442).lo hk448) ((((hm60).lo hk442).lo hk448)) (by omega) (by omega) ([0, 1, 7] : List Int) (((hO449).rd)) (by omega) (by omega) (show ¬ g445 = g9 from by first | omega | (have := (hO449).base_le rfl; omega))) rfl ?_
      rintro e w455 ⟨v457, t458, s459, rfl, hb460, ht461, hq462, hk456⟩
      refine ⟨_, rfl, ?_⟩
      have hz463 := hk456.size
      have hB464 := hB451.new hk456 (by omega)
      have hS465 := (hS452).step hk456 (fun _ _ e => .inl e)
      have hq466 : (0 : Int) ≤ v457 ∧ v457 ≤ 7 := mem_rngB (lo := 0) (hi := 7) (by decide) hq462
      refine SR.nil ⟨hS465, _, rfl, ?_⟩
      refine AH.br [4] (by kernel_rfl) rfl ⟨Br.mk' rfl trivial ?_, trivial⟩
      refine SR.store (o := 0) (vs := [.slice A20 n21 c22, .slice A24 n25 c26, .int .i64 v29.Bought, .int .i64 v29.Dropped, .int .i64 v29.Mended]) agg27.2 rfl rfl rfl rfl ((((hm58).lo hk442).lo hk448).kn hk456 (by omega)) (Nat.le_of_ble_eq_true rfl) rfl ?_
      intro w467 hk468 hs469 hb470
      have hz471 := hk468.size
      have hB472 := hB464.new hk468 (by omega)
      have hS473 := (hS465).step hk468 (fun _ _ e => .inr (e))
      refine SR.nil ⟨hS473, _, rfl, ?_⟩
      refine AH.take 5 rfl (by kernel_rfl) trivial (hS473) (fun w' hw' => r_as (v := .int .i64 _) rfl) <| AH.done (by kernel_rfl) ?_
      exact ⟨g445, v457, t458, s459, ⟨rfl, rfl, trivial⟩, hS473, (hb470), ((hb460).kn hk468 (by omega)), ht461, hq462, hq466⟩
    rintro f474 w475 ⟨g403, v420, t421, s422, hat477, hR476, hm439, hm440, ht424, hq425, hq429⟩
    rw [← sets_of_at hat477]
    have hz478 := hR476.size
    have hB479 := hB57.step hR476 (fun i_ hi_ e' => e'.elim (fun e' => by have e'' : i_ = g9 := e'; exfalso; omega) (fun e' => by have e'' : i_ = g1 := e'; exfalso; omega))
    refine W.ret ?_
    refine retCT rfl rfl agg27 (hm439) rfl (v := .int .i64 _) rfl ?_
    exact ⟨A20, n21, c22, A24, n25, c26, v29, v420, eR (eT2 rfl rfl), (((hm61).kp hR476 (fun b_ hb e' => e'.elim (fun e' => by have e'' : b_ = g9 := e'; have := (hm61).base_le hb; omega) (fun e' => by have e'' : b_ = g1 := e'; have := (hm61).base_le hb; omega))).down (by omega)), (((hm62).kp hR476 (fun b_ hb e' => e'.elim (fun e' => by have e'' : b_ = g9 := e'; have := (hm62).base_le hb; omega) (fun e' => by have e'' : b_ = g1 := e'; have := (hm62).base_le hb; omega))).down (by omega)), hd28, hq34, hq35, hB479⟩

theorem c_spec_DrawMapsAt (w : World) {AL : Option Addr} {nL cL BL : Nat}  (L : List UInt8) (hL : SlR w BL encB 1 AL nL cL L) (hp0 : (nL : Int) ≤ 65536) : Calls Tryd.prog 18 #[.slice AL nL cL] w fun e w' => ∃ (A1' : Option Addr) (n1' c1' : Nat) (A2' : Option Addr) (n2' c2' : Nat) (x : Library) (v : Int), e = .returned (.tuple (List.toArray [.agg (List.toArray [.slice A1' n1' c1', .slice A2' n2' c2', .int .i64 x.Bought, .int .i64 x.Dropped, .int .i64 x.Mended]), .int .i64 v])) ∧ SlO w' w.heap.size encLMap 3 48 A1' n1' c1' x.Maps ∧ SlO w' w.heap.size encAway 2 57 A2' n2' c2' x.Away ∧ (∀ b_, A1' = some ⟨b_, 0, none⟩ → ¬ A2' = some ⟨b_, 0, none⟩) ∧ (x.Maps.length ≤ 9 ∧ x.Away.length ≤ 9) ∧ (MapB x.Maps) ∧ Lo w w' := by
  refine calls_W 15 Tryd.func18 rfl rfl rfl ?_
  have hbdL := hL.bound
  have hleL := hL.len
  have hBbL := hL.bd
  refine W.seq ?_
  refine W.regS (SR.alloc (l := [.slice none 0 0, .slice none 0 0, .int .i64 0, .int .i64 0, .int .i64 0]) tz27 rfl ?_)
  intro g1 w2 hg3 hk4 hs5 hb6
  have hz7 := hk4.size
  have hB8 := (Lo.refl w).lo hk4
  refine SR.q' (r_as (v := .int .i64 0) rfl) <| SR.nil ?_
  refine W.seq ?_
  refine W.regS (SR.q' (r_mv (v := .slice _ _ _) rfl) <| SR.q' (r_build (vs := [(0, .slice AL nL cL)]) rfl (bld44_0 _ _ _)) <| SR.box (v := .agg (List.toArray _)) (l := [.slice AL nL cL, .int .i64 0, .int .u64 0]) rfl rfl ?_)
  intro g9 w10 hg11 hk12 hs13 hb14
  have hz15 := hk12.size
  have hB16 := hB8.lo hk12
  refine SR.q' (r_as (v := .pointer (some _)) rfl) <| SR.nil ?_
  refine W.seq ?_
  have hm17 := ((hL).lo hk4).lo hk12
  refine W.regS (SR.q' (r_mv (v := .pointer (some _)) rfl) <| SR.call ent23 (c___spec_l1Cur__library w10 L 0 0 (hb14) ((hm17)) (by omega) (by omega)) rfl ?_)
  rintro e w18 ⟨A20, n21, c22, A24, n25, c26, v29, t30, s31, rfl, hO23, hO27, hd28, hb32, ht33, hq34, hq35, hk19⟩
  refine ⟨_, rfl, ?_⟩
  have hz36 := hk19.size
  have hB37 := hB16.new hk19 (by omega)
  have hl38 := hO23.len
  have hl39 := hO23.rd.bound
  have hl40 := hO27.len
  have hl41 := hO27.rd.bound
  refine SR.alloc (l := [.slice none 0 0, .slice none 0 0, .int .i64 0, .int .i64 0, .int .i64 0]) tz27 rfl ?_
  intro g42 w43 hg44 hk45 hs46 hb47
  have hz48 := hk45.size
  have hB49 := hB37.lo hk45
  have hd50 : ¬ A20 = some ⟨g42, 0, none⟩ := fun e' => by have := (hO23).base_le e'; omega
  have hd51 : ¬ A24 = some ⟨g42, 0, none⟩ := fun e' => by have := (hO27).base_le e'; omega
  refine SR.store (o := 0) (vs := [.slice A20 n21 c22, .slice A24 n25 c26, .int .i64 v29.Bought, .int .i64 v29.Dropped, .int .i64 v29.Mended]) agg27.2 rfl rfl rfl rfl (hb47) (Nat.le_of_ble_eq_true rfl) rfl ?_
  intro w52 hk53 hs54 hb55
  have hz56 := hk53.size
  have hB57 := hB49.new hk53 (by omega)
  refine SR.nil ?_
  refine W.seq ?_
  have hm58 := ((((hb6).lo hk12).kn hk19 (by omega)).lo hk45).kn hk53 (by omega)
  have hm59 := ((hb32).lo hk45).kn hk53 (by omega)
  have hm60 := (((hm17).kn hk19 (by omega)).lo hk45).kn hk53 (by omega)
  have hm61 := ((hO23).lo hk45).kd hk53 hd50
  have hm62 := ((hO27).lo hk45).kd hk53 hd51
  refine W.regA (Kp (fun b_ => b_ = g9 ∨ b_ = g1) w52) (fun f' w' => ∃ (g136 : Nat) (v153 : Int) (t154 : Int) (s155 : Int), At f' [(2, .pointer (pA g1)), (3, .int .i64 v153)] ∧ (Kp (fun b_ => b_ = g9 ∨ b_ = g1) w52 w') ∧ (Blk w' g1 27 [.slice A20 n21 c22, .slice A24 n25 c26, .int .i64 v29.Bought, .int .i64 v29.Dropped, .int .i64 v29.Mended]) ∧ (Blk w' g9 44 [.slice AL nL cL, .int .i64 t154, .int .u64 s155]) ∧ (t30 ≤ t154 ∧ t154 ≤ t30 + 2) ∧ (v153 ∈ ([5, 5, 17, 40, 999, 0, 1000] : List Int)) ∧ ((0 : Int) ≤ v153 ∧ v153 ≤ 1000)) mo ?_ ?_
  · intro w174 hk175
    have hz176 := hk175.size
    have hB177 := hB57.lo hk175
    refine AH.take 0 rfl (by kernel_rfl) trivial ((Kp.refl w52 : Kp (fun b_ => b_ = g9 ∨ b_ = g1) w52 w52).lo hk175) (fun w' hw' => r_lda (l := [.slice A20 n21 c22, .slice A24 n25 c26, .int .i64 v29.Bought, .int .i64 v29.Dropped, .int .i64 v29.Mended]) agg27 rfl (fun _ _ hu => ((hb55).kp hw' (fun e' => e'.elim (fun e' => by have e'' : g42 = g9 := e'; omega) (fun e' => by have e'' : g42 = g1 := e'; omega))).cell hu) rfl) <| AH.take 1 rfl (by kernel_rfl) trivial ((Kp.refl w52 : Kp (fun b_ => b_ = g9 ∨ b_ = g1) w52 w52).lo hk175) (fun w' hw' => r_mv (v := .pointer (some _)) rfl) <| AH.br [2] (by kernel_rfl) rfl ⟨Br.mk' rfl trivial ?_, trivial⟩
    refine SR.lit (vs := [.int .i64 5, .int .i64 5, .int .i64 17, .int .i64 40, .int .i64 999, .int .i64 0, .int .i64 1000]) (L := ([5, 5, 17, 40, 999, 0, 1000] : List Int)) (enc := encI) tel30 (fun _ => rfl) rfl rfl rfl (by decide) ?_
    intro g178 w179 hg180 hk181 hO182
    have hz183 := hk181.size
    have hB184 := hB177.lo hk181
    have hS185 := ((Kp.refl w52 : Kp (fun b_ => b_ = g9 ∨ b_ = g1) w52 w52).lo hk175).lo hk181
    refine SR.nil ⟨hS185, _, rfl, ?_⟩
    refine AH.br [3] (by kernel_rfl) rfl ⟨Br.mk' rfl trivial ?_, trivial⟩
    refine SR.call ent26 (c___spec_l1Cur__among w179 L t30 s31 (((hm59).lo hk175).lo hk181) ((((hm60).lo hk175).lo hk181)) (by omega) (by omega) ([5, 5, 17, 40, 999, 0, 1000] : List Int) (((hO182).rd)) (by omega) (by omega) (show ¬ g178 = g9 from by first | omega | (have := (hO182).base_le rfl; omega))) rfl ?_
    rintro e w188 ⟨v190, t191, s192, rfl, hb193, ht194, hq195, hk189⟩
    refine ⟨_, rfl, ?_⟩
    have hz196 := hk189.size
    have hB197 := hB184.new hk189 (by omega)
    have hS198 := (hS185).step hk189 (fun _ _ e => .inl e)
    have hq199 : (0 : Int) ≤ v190 ∧ v190 ≤ 1000 := mem_rngB (lo := 0) (hi := 1000) (by decide) hq195
    refine SR.nil ⟨hS198, _, rfl, ?_⟩
    refine AH.br [4] (by kernel_rfl) rfl ⟨Br.mk' rfl trivial ?_, trivial⟩
    refine SR.store (o := 0) (vs := [.slice A20 n21 c22, .slice A24 n25 c26, .int .i64 v29.Bought, .int .i64 v29.Dropped, .int .i64 v29.Mended]) agg27.2 rfl rfl rfl rfl ((((hm58).lo hk175).lo hk181).kn hk189 (by omega)) (Nat.le_of_ble_eq_true rfl) rfl ?_
    intro w200 hk201 hs202 hb203
    have hz204 := hk201.size
    have hB205 := hB197.new hk201 (by omega)
    have hS206 := (hS198).step hk201 (fun _ _ e => .inr (e))
    refine SR.nil ⟨hS206, _, rfl, ?_⟩
    refine AH.take 5 rfl (by kernel_rfl) trivial (hS206) (fun w' hw' => r_as (v := .int .i64 _) rfl) <| AH.done (by kernel_rfl) ?_
    exact ⟨g178, v190, t191, s192, ⟨rfl, rfl, trivial⟩, hS206, (hb203), ((hb193).kn hk201 (by omega)), ht194, hq195, hq199⟩
  rintro f207 w208 ⟨g136, v153, t154, s155, hat210, hR209, hm172, hm173, ht157, hq158, hq162⟩
  rw [← sets_of_at hat210]
  have hz211 := hR209.size
  have hB212 := hB57.step hR209 (fun i_ hi_ e' => e'.elim (fun e' => by have e'' : i_ = g9 := e'; exfalso; omega) (fun e' => by have e'' : i_ = g1 := e'; exfalso; omega))
  refine W.ret ?_
  refine retCT rfl rfl agg27 (hm172) rfl (v := .int .i64 _) rfl ?_
  exact ⟨A20, n21, c22, A24, n25, c26, v29, v153, eR (eT2 rfl rfl), (((hm61).kp hR209 (fun b_ hb e' => e'.elim (fun e' => by have e'' : b_ = g9 := e'; have := (hm61).base_le hb; omega) (fun e' => by have e'' : b_ = g1 := e'; have := (hm61).base_le hb; omega))).down (by omega)), (((hm62).kp hR209 (fun b_ hb e' => e'.elim (fun e' => by have e'' : b_ = g9 := e'; have := (hm62).base_le hb; omega) (fun e' => by have e'' : b_ = g1 := e'; have := (hm62).base_le hb; omega))).down (by omega)), hd28, hq34, hq35, hB212⟩

theorem c_spec_DrawMapText (w : World) {AL : Option Addr} {nL cL BL : Nat}  (L : List UInt8) (hL : SlR w BL encB 1 AL nL cL L) (hp0 : (nL : Int) ≤ 65536) : Calls Tryd.prog 20 #[.slice AL nL cL] w fun e w' => ∃ (A1' : Option Addr) (n1' c1' : Nat) (A2' : Option Addr) (n2' c2' : Nat) (x : Library) (v : Int), e = .returned (.tuple (List.toArray [.agg (List.toArray [.slice A1' n1' c1', .slice A2' n2' c2', .int .i64 x.Bought, .int .i64 x.Dropped, .int .i64 x.Mended]), .int .i64 v])) ∧ SlO w' w.heap.size encLMap 3 48 A1' n1' c1' x.Maps ∧ SlO w' w.heap.size encAway 2 57 A2' n2' c2' x.Away ∧ (∀ b_, A1' = some ⟨b_, 0, none⟩ → ¬ A2' = some ⟨b_, 0, none⟩) ∧ (x.Maps.length ≤ 9 ∧ x.Away.length ≤ 9) ∧ (MapB x.Maps) ∧ Lo w w' := by
  refine calls_W 8 Tryd.func20 rfl rfl rfl ?_
  have hbdL := hL.bound
  have hleL := hL.len
  have hBbL := hL.bd
  refine W.seq ?_
  refine W.regS (SR.alloc (l := [.slice none 0 0, .slice none 0 0, .int .i64 0, .int .i64 0, .int .i64 0]) tz27 rfl ?_)
  intro g1 w2 hg3 hk4 hs5 hb6
  have hz7 := hk4.size
  have hB8 := (Lo.refl w).lo hk4
  refine SR.q' (r_as (v := .int .i64 0) rfl) <| SR.nil ?_
  refine W.seq ?_
  refine W.regS (SR.q' (r_mv (v := .slice _ _ _) rfl) <| SR.call ent5 (c_spec_DrawReadersOf w2 L (((hL).lo hk4)) (by omega)) rfl ?_)
  rintro e w9 ⟨A11, n12, c13, A15, n16, c17, v20, v21, rfl, hO14, hO18, hd19, hq22, hq23, hk10⟩
  refine ⟨_, rfl, ?_⟩
  have hz24 := hk10.size
  have hB25 := hB8.lo hk10
  have hl26 := hO14.len
  have hl27 := hO14.rd.bound
  have hl28 := hO18.len
  have hl29 := hO18.rd.bound
  refine SR.q' (r_ext (v := .agg (List.toArray _)) rfl rfl) <| SR.q' (r_ext (v := .int .i64 _) rfl rfl) <| SR.store (o := 0) (vs := [.slice A11 n12 c13, .slice A15 n16 c17, .int .i64 v20.Bought, .int .i64 v20.Dropped, .int .i64 v20.Mended]) agg27.2 rfl rfl rfl rfl ((hb6).lo hk10) (Nat.le_of_ble_eq_true rfl) rfl ?_
  intro w30 hk31 hs32 hb33
  have hz34 := hk31.size
  have hB35 := hB25.new hk31 (by omega)
  refine SR.q' (r_as (v := .int .i64 _) rfl) <| SR.nil ?_
  refine W.ret ?_
  refine retCT rfl rfl agg27 (hb33) rfl (v := .int .i64 _) rfl ?_
  exact ⟨A11, n12, c13, A15, n16, c17, v20, v21, eR (eT2 rfl rfl), (((hO14).kn hk31 (by omega)).down (by omega)), (((hO18).kn hk31 (by omega)).down (by omega)), hd19, hq22, hq23, hB35⟩

theorem c_laws_vInts (w : World) {AL : Option Addr} {nL cL BL : Nat}  (L : List Int) (hL : SlR w BL encI 1 AL nL cL L) {AM : Option Addr} {nM cM BM : Nat}  (M : List Int) (hM : SlR w BM encI 1 AM nM cM M) : Calls Tryd.prog 8 #[.slice AL nL cL, .slice AM nM cM] w fun e w' => e = .returned (.bool (decide (L = M))) ∧ Lo w w' := by
  refine calls_W 26 Tryd.func8 rfl rfl rfl ?_
  have hbdL := hL.bound
  have hleL := hL.len
  have hBbL := hL.bd
  have hbdM := hM.bound
  have hleM := hM.len
  have hBbM := hM.bd
  refine W.seq ?_
  refine W.regS (SR.q' (r_as (v := .bool false) rfl) <| SR.nil ?_)
  refine W.seq ?_
  refine W.seq ?_
  refine W.regS (SR.q' (r_mv (v := .slice _ _ _) rfl) <| SR.q' (r_len und30 rfl) <| SR.q' (r_mv (v := .slice _ _ _) rfl) <| SR.q' (r_len und30 rfl) <| SR.q' (r_ne rfl rfl) <| SR.nil ?_)
  refine W.cond_n rfl (fun h1 => ?_) (fun h1 => ?_)
  · refine W.seq ?_
    refine W.regS (SR.q' (r_as (v := .bool false) rfl) <| SR.nil ?_)
    refine W.ret ?_
    refine ret1 rfl (v := .bool _) rfl ?_
    exact ⟨eR (eDF (by first | (intro e; subst e; omega) | exact ne_at ‹L[_]? = some _› ‹M[_]? = some _› ‹_› | exact take_end (And.right ‹_ ∧ L.take _ = M.take _›) hleL hleM (by omega) ‹_›)), (Lo.refl w)⟩
  · refine W.skip ?_
    refine W.seq ?_
    refine W.seq ?_
    refine W.regS (SR.q' (r_as (v := .int .i64 0) rfl) <| SR.nil ?_)
    refine W.block ?_
    refine W.loop (σ := Nat) (fun g => [(0, .slice AL nL cL), (1, .slice AM nM cM), (5, .int .i64 (g : Int))]) (fun g w' => (Lo w w') ∧ (SlR w' BL encI 1 AL nL cL L) ∧ (SlR w' BM encI 1 AM nM cM M) ∧ (g ≤ nL ∧ L.take g = M.take g)) (fun g => nL - g) 0 ?_ ?_ ?_
    · exact ⟨rfl, rfl, rfl, trivial⟩
    · exact ⟨(Lo.refl w), hL, hM, (by simp)⟩
    · rintro k f2 w3 hP5
      obtain ⟨hB4, hm6, hm7, hi8⟩ : (Lo w w3) ∧ (SlR w3 BL encI 1 AL nL cL L) ∧ (SlR w3 BM encI 1 AM nM cM M) ∧ (k ≤ nL ∧ L.take k = M.take k) := hP5
      refine (?_ : W _ _ _ _ _ (act _ (sets f2 [(0, .slice AL nL cL), (1, .slice AM nM cM), (5, .int .i64 (k : Int))])) _)
      have hzw3 := hB4.size
      refine W.seq ?_
      refine W.seq ?_
      refine W.regS (SR.q' (r_mv (v := .int .i64 _) rfl) <| SR.q' (r_mv (v := .slice _ _ _) rfl) <| SR.q' (r_len und30 rfl) <| SR.q' (r_lt rfl rfl) <| SR.nil ?_)
      refine W.cond_d rfl (fun h9 => ?_) (fun h9 => ?_)
      · refine W.skip ?_
        refine W.seq ?_
        refine W.block ?_
        refine W.seq ?_
        refine W.regD mo (by kernel_rfl) (QR.q' (fun w' hw' => r_mv (v := .slice _ _ _) rfl) <| QR.q' (fun w' hw' => r_mv (v := .int .i64 _) rfl) <| ?_)
        have hx11 := (hm6).elem (i := k) (by omega)
        refine QR.q' (fun w' hw' => r_ixR tsl30 (((hm6).lo hw')) rfl rfl (by omega)) <| QR.q' (fun w' hw' => r_ld (v := .int .i64 (gt L k)) sca3 rfl ((((hm6).lo hw')).cell0 hx11 rfl)) <| QR.q' (fun w' hw' => r_mv (v := .slice _ _ _) rfl) <| QR.q' (fun w' hw' => r_mv (v := .int .i64 _) rfl) <| ?_
        have hx13 := (hm7).elem (i := k) (by omega)
        refine QR.q' (fun w' hw' => r_ixR tsl30 (((hm7).lo hw')) rfl rfl (by omega)) <| QR.q' (fun w' hw' => r_ld (v := .int .i64 (gt M k)) sca3 rfl ((((hm7).lo hw')).cell0 hx13 rfl)) <| QR.q' (fun w' hw' => r_ne rfl rfl) <| QR.nil ?_
        intro w14 hk15
        have hz16 := hk15.size
        have hB17 := hB4.lo hk15
        refine W.cond_n rfl (fun h18 => ?_) (fun h18 => ?_)
        · refine W.seq ?_
          refine W.regS (SR.q' (r_as (v := .bool false) rfl) <| SR.nil ?_)
          refine W.ret ?_
          refine ret1 rfl (v := .bool _) rfl ?_
          exact ⟨eR (eDF (by first | (intro e; subst e; omega) | exact ne_at ‹L[_]? = some _› ‹M[_]? = some _› ‹_› | exact take_end (And.right ‹_ ∧ L.take _ = M.take _›) hleL hleM (by omega) ‹_›)), hB17⟩
        · refine W.skip ?_
          refine W.regS (SR.q' (r_mv (v := .int .i64 _) rfl) <| SR.q' (r_add rfl rfl (by omega)) <| SR.q' (r_as (v := .int .i64 _) rfl) <| SR.nil ?_)
          refine ⟨k + 1, _, rfl, ⟨rfl, rfl, rfl, trivial⟩, ⟨hB17, (hm6).lo hk15, (hm7).lo hk15, ?_⟩, ?_⟩
          · exact (by exact ⟨by omega, take_next (And.right ‹_ ∧ L.take _ = M.take _›) ‹L[_]? = some _› ‹M[_]? = some _› (by assumption)⟩)
          · exact (by omega)
      · refine W.exit (xin_here ?_)
        refine W.seq ?_
        refine W.regS (SR.q' (r_as (v := .bool true) rfl) <| SR.nil ?_)
        refine W.ret ?_
        refine ret1 rfl (v := .bool _) rfl ?_
        exact ⟨eR (eDT (by first | (intro e; subst e; omega) | exact ne_at ‹L[_]? = some _› ‹M[_]? = some _› ‹_› | exact take_end (And.right ‹_ ∧ L.take _ = M.take _›) hleL hleM (by omega) ‹_›)), hB4⟩

theorem c_laws_vBig (w : World) {AL : Option Addr} {nL cL BL : Nat}  (L : List UInt8) (hL : SlR w BL encB 1 AL nL cL L) : Calls Tryd.prog 4 #[.slice AL nL cL] w fun e w' => e = .returned (.bool (decide (65536 < (L.length : Int)))) ∧ Lo w w' := by
  refine calls_W 6 Tryd.func4 rfl rfl rfl ?_
  have hbdL := hL.bound
  have hleL := hL.len
  have hBbL := hL.bd
  refine W.seq ?_
  refine W.regS (SR.q' (r_as (v := .bool false) rfl) <| SR.nil ?_)
  refine W.seq ?_
  refine W.regS (SR.q' (r_mv (v := .slice _ _ _) rfl) <| SR.q' (r_len und22 rfl) <| SR.q' (r_gt rfl rfl) <| SR.q' (r_as (v := .bool _) rfl) <| SR.nil ?_)
  refine W.ret ?_
  refine ret1 rfl (v := .bool _) rfl ?_
  exact ⟨eR (eDD (by omega)), (Lo.refl w)⟩

theorem c_laws_vHas (w : World) {AL : Option Addr} {nL cL BL : Nat}  (L : List Int) (hL : SlR w BL encI 1 AL nL cL L) (x : Int) : Calls Tryd.prog 10 #[.slice AL nL cL, .int .i64 x] w fun e w' => e = .returned (.bool (decide (x ∈ L))) ∧ Lo w w' := by
  refine calls_W 18 Tryd.func10 rfl rfl rfl ?_
  have hbdL := hL.bound
  have hleL := hL.len
  have hBbL := hL.bd
  refine W.seq ?_
  refine W.regS (SR.q' (r_as (v := .bool false) rfl) <| SR.nil ?_)
  refine W.seq ?_
  refine W.seq ?_
  refine W.regS (SR.q' (r_as (v := .int .i64 0) rfl) <| SR.nil ?_)
  refine W.block ?_
  refine W.loop (σ := Nat) (fun g => [(0, .slice AL nL cL), (1, .int .i64 x), (5, .int .i64 (g : Int))]) (fun g w' => (Lo w w') ∧ (SlR w' BL encI 1 AL nL cL L) ∧ (g ≤ nL ∧ x ∉ L.take g)) (fun g => nL - g) 0 ?_ ?_ ?_
  · exact ⟨rfl, rfl, rfl, trivial⟩
  · exact ⟨(Lo.refl w), hL, (by simp)⟩
  · rintro k f1 w2 hP4
    obtain ⟨hB3, hm5, hi6⟩ : (Lo w w2) ∧ (SlR w2 BL encI 1 AL nL cL L) ∧ (k ≤ nL ∧ x ∉ L.take k) := hP4
    refine (?_ : W _ _ _ _ _ (act _ (sets f1 [(0, .slice AL nL cL), (1, .int .i64 x), (5, .int .i64 (k : Int))])) _)
    have hzw2 := hB3.size
    refine W.seq ?_
    refine W.seq ?_
    refine W.regS (SR.q' (r_mv (v := .int .i64 _) rfl) <| SR.q' (r_mv (v := .slice _ _ _) rfl) <| SR.q' (r_len und30 rfl) <| SR.q' (r_lt rfl rfl) <| SR.nil ?_)
    refine W.cond_d rfl (fun h7 => ?_) (fun h7 => ?_)
    · refine W.skip ?_
      refine W.seq ?_
      refine W.block ?_
      refine W.seq ?_
      refine W.regS (SR.q' (r_mv (v := .slice _ _ _) rfl) <| SR.q' (r_mv (v := .int .i64 _) rfl) <| ?_)
      have hx9 := (hm5).elem (i := k) (by omega)
      refine SR.q' (r_ixR tsl30 (hm5) rfl rfl (by omega)) <| SR.q' (r_ld (v := .int .i64 (gt L k)) sca3 rfl ((hm5).cell0 hx9 rfl)) <| SR.q' (r_mv (v := .int .i64 _) rfl) <| SR.q' (r_eq rfl rfl) <| SR.nil ?_
      refine W.cond_d rfl (fun h10 => ?_) (fun h10 => ?_)
      · refine W.seq ?_
        refine W.regS (SR.q' (r_as (v := .bool true) rfl) <| SR.nil ?_)
        refine W.ret ?_
        refine ret1 rfl (v := .bool _) rfl ?_
        exact ⟨eR (eDT (by first | exact has_yes ‹L[_]? = some _› (by assumption) | exact has_no (And.right ‹_ ∧ _ ∉ L.take _›) (by omega))), hB3⟩
      · refine W.skip ?_
        refine W.regS (SR.q' (r_mv (v := .int .i64 _) rfl) <| SR.q' (r_add rfl rfl (by omega)) <| SR.q' (r_as (v := .int .i64 _) rfl) <| SR.nil ?_)
        refine ⟨k + 1, _, rfl, ⟨rfl, rfl, rfl, trivial⟩, ⟨hB3, hm5, ?_⟩, ?_⟩
        · exact (by exact ⟨by omega, has_next (And.right ‹_ ∧ _ ∉ L.take _›) ‹L[_]? = some _› (by assumption)⟩)
        · exact (by omega)
    · refine W.exit (xin_here ?_)
      refine W.seq ?_
      refine W.regS (SR.q' (r_as (v := .bool false) rfl) <| SR.nil ?_)
      refine W.ret ?_
      refine ret1 rfl (v := .bool _) rfl ?_
      exact ⟨eR (eDF (by first | exact has_yes ‹L[_]? = some _› (by assumption) | exact has_no (And.right ‹_ ∧ _ ∉ L.take _›) (by omega))), hB3⟩
end Go.Proofs.YtgobbcilgcbkaaaDoor
