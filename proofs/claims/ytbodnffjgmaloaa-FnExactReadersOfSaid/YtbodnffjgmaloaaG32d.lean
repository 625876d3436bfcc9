/- Walks, printed by a program of this claim's author. -/
import Derived.Test.YtbodnffjgmaloaaChecked
import Derived.Test.YtbodnffjgmaloaaUa
import Derived.Test.YtbodnffjgmaloaaG32c
namespace Go.Proofs.Ytbodnffjgmaloaa
open Go Go.RowKit Fw
set_option maxRecDepth 10000
set_option linter.unusedVariables false
theorem ent15 : Ent Try.prog 15 := ent_of Try.func15 (by decide +kernel) rfl
theorem ent65 : Ent Try.prog 65 := ent_of Try.func65 (by decide +kernel) rfl
theorem ent66 : Ent Try.prog 66 := ent_of Try.func66 (by decide +kernel) rfl

theorem z_c_impl_CopiesThere_14 (x : Library) (nx_Maps : Nat) (hbdx_Maps : (nx_Maps : Int) ≤ 9223372036854775807) (hlex_Maps : nx_Maps = x.Maps.length) (nx_Away : Nat) (hbdx_Away : (nx_Away : Int) ≤ 9223372036854775807) (hlex_Away : nx_Away = x.Away.length) (hp0 : (nx_Maps : Int) ≤ 1048576) (h13 : ¬ (LibOK x)) : 0 = (if LibOK x then sumC x.Maps else 0) := by
  first | assumption | simp [*]
theorem z_c_impl_CopiesThere_15 (x : Library) (nx_Maps : Nat) (hbdx_Maps : (nx_Maps : Int) ≤ 9223372036854775807) (hlex_Maps : nx_Maps = x.Maps.length) (nx_Away : Nat) (hbdx_Away : (nx_Away : Int) ≤ 9223372036854775807) (hlex_Away : nx_Away = x.Away.length) (hp0 : (nx_Maps : Int) ≤ 1048576) (h13 : ¬ (LibOK x)) : ¬ (LibOK x) := by
  first | assumption | simp [*]
theorem z_c_impl_CopiesThere_25 (x : Library) (nx_Maps : Nat) (hbdx_Maps : (nx_Maps : Int) ≤ 9223372036854775807) (hlex_Maps : nx_Maps = x.Maps.length) (nx_Away : Nat) (hbdx_Away : (nx_Away : Int) ≤ 9223372036854775807) (hlex_Away : nx_Away = x.Away.length) (hp0 : (nx_Maps : Int) ≤ 1048576) (h13 : LibOK x) (hq16 : MapsOK x.Maps ∧ x.Maps.length ≤ 8) (hq17 : x.Away.length ≤ 8) (hq18 : MapsOK x.Maps) (hq19 : x.Maps.length ≤ 8) (hq24 : 0 ≤ sumC x.Maps ∧ sumC x.Maps ≤ 792) : sumC x.Maps = (if LibOK x then sumC x.Maps else 0) := by
  first | assumption | simp [*]
theorem z_c_impl_CopiesThere_26 (x : Library) (nx_Maps : Nat) (hbdx_Maps : (nx_Maps : Int) ≤ 9223372036854775807) (hlex_Maps : nx_Maps = x.Maps.length) (nx_Away : Nat) (hbdx_Away : (nx_Away : Int) ≤ 9223372036854775807) (hlex_Away : nx_Away = x.Away.length) (hp0 : (nx_Maps : Int) ≤ 1048576) (h13 : LibOK x) (hq16 : MapsOK x.Maps ∧ x.Maps.length ≤ 8) (hq17 : x.Away.length ≤ 8) (hq18 : MapsOK x.Maps) (hq19 : x.Maps.length ≤ 8) (hq24 : 0 ≤ sumC x.Maps ∧ sumC x.Maps ≤ 792) : LibOK x := by
  first | assumption | simp [*]
theorem c_impl_CopiesThere (w : World) (x : Library) {Ax_Maps : Option Addr} {nx_Maps cx_Maps Bx_Maps : Nat} (hx_Maps : SlR w Bx_Maps encLMap 3 Ax_Maps nx_Maps cx_Maps x.Maps) {Ax_Away : Option Addr} {nx_Away cx_Away Bx_Away : Nat} (hx_Away : SlR w Bx_Away encAway 2 Ax_Away nx_Away cx_Away x.Away) (hp0 : (nx_Maps : Int) ≤ 1048576) : Calls Try.prog 18 #[.agg (List.toArray [.slice Ax_Maps nx_Maps cx_Maps, .slice Ax_Away nx_Away cx_Away, .int .i64 x.Bought, .int .i64 x.Dropped, .int .i64 x.Mended])] w fun e w' => e = .returned (.tuple (List.toArray [.int .i64 (if LibOK x then sumC x.Maps else 0), .bool (decide (LibOK x))])) ∧ Lo w w' := by
  refine calls_W 9 Try.func18 rfl rfl rfl ?_
  have hbdx_Maps := hx_Maps.bound
  have hlex_Maps := hx_Maps.len
  have hBbx_Maps := hx_Maps.bd
  have hbdx_Away := hx_Away.bound
  have hlex_Away := hx_Away.len
  have hBbx_Away := hx_Away.bd
  refine W.seq ?_
  refine W.regS (SR.box (v := .agg (List.toArray _)) (l := [.slice Ax_Maps nx_Maps cx_Maps, .slice Ax_Away nx_Away cx_Away, .int .i64 x.Bought, .int .i64 x.Dropped, .int .i64 x.Mended]) rfl rfl ?_)
  intro g1 w2 hg3 hk4 hs5 hb6
  have hz7 := hk4.size
  have hB8 := (Lo.refl w).lo hk4
  refine SR.q' (r_as (v := .int .i64 0) rfl) <| SR.q' (r_as (v := .bool false) rfl) <| SR.nil ?_
  refine W.seq ?_
  refine W.seq ?_
  refine W.regS (SR.q' (r_lda (l := [.slice Ax_Maps nx_Maps cx_Maps, .slice Ax_Away nx_Away cx_Away, .int .i64 x.Bought, .int .i64 x.Dropped, .int .i64 x.Mended]) agg31 rfl (fun _ _ hu => (hb6).cell hu) rfl) <| SR.call ent15 (c_impl_IsLibrary w2 x (((hx_Maps).lo hk4)) (((hx_Away).lo hk4)) (by omega)) rfl ?_)
  rintro e w9 ⟨rfl, hk10⟩
  refine ⟨_, rfl, ?_⟩
  have hz11 := hk10.size
  have hB12 := hB8.lo hk10
  refine SR.q' (r_not rfl) <| SR.nil ?_
  refine W.cond_n rfl (fun h13 => ?_) (fun h13 => ?_)
  · refine W.seq ?_
    refine W.regS (SR.q' (r_as (v := .int .i64 0) rfl) <| SR.q' (r_as (v := .bool false) rfl) <| SR.nil ?_)
    refine W.ret ?_
    refine ret2 rfl (v := .int .i64 _) (v' := .bool _) rfl rfl ?_
    exact ⟨eR (eT2 (eI (z_c_impl_CopiesThere_14 x nx_Maps hbdx_Maps hlex_Maps nx_Away hbdx_Away hlex_Away hp0 h13)) (eDF (z_c_impl_CopiesThere_15 x nx_Maps hbdx_Maps hlex_Maps nx_Away hbdx_Away hlex_Away hp0 h13))), hB12⟩
  · have hq16 := And.left h13
    have hq17 := lib_len h13
    have hq18 := And.left hq16
    have hq19 := And.right hq16
    refine W.skip ?_
    refine W.seq ?_
    refine W.regS (SR.q' (r_lda (l := [.slice Ax_Maps nx_Maps cx_Maps, .slice Ax_Away nx_Away cx_Away, .int .i64 x.Bought, .int .i64 x.Dropped, .int .i64 x.Mended]) agg31 rfl (fun _ _ hu => ((hb6).lo hk10).cell hu) rfl) <| SR.call ent57 (c__impl_Library__copies w9 x ((((hx_Maps).lo hk4).lo hk10)) ((((hx_Away).lo hk4).lo hk10)) (by first | assumption | exact MTo.end_ (And.right ‹_ ∧ MTo _ _›) (by omega)) (by omega)) rfl ?_)
    rintro e w20 ⟨rfl, hk21⟩
    refine ⟨_, rfl, ?_⟩
    have hz22 := hk21.size
    have hB23 := hB12.lo hk21
    have hq24 : 0 ≤ sumC x.Maps ∧ sumC x.Maps ≤ 792 := sumC_rng (by first | assumption | exact MTo.end_ (And.right ‹_ ∧ MTo _ _›) (by omega)) (by omega)
    refine SR.q' (r_as (v := .int .i64 _) rfl) <| SR.q' (r_as (v := .bool true) rfl) <| SR.nil ?_
    refine W.ret ?_
    refine ret2 rfl (v := .int .i64 _) (v' := .bool _) rfl rfl ?_
    exact ⟨eR (eT2 (eI (z_c_impl_CopiesThere_25 x nx_Maps hbdx_Maps hlex_Maps nx_Away hbdx_Away hlex_Away hp0 h13 hq16 hq17 hq18 hq19 hq24)) (eDT (z_c_impl_CopiesThere_26 x nx_Maps hbdx_Maps hlex_Maps nx_Away hbdx_Away hlex_Away hp0 h13 hq16 hq17 hq18 hq19 hq24))), hB23⟩

theorem z_c_spec_CopiesThere_14 (x : Library) (nx_Maps : Nat) (hbdx_Maps : (nx_Maps : Int) ≤ 9223372036854775807) (hlex_Maps : nx_Maps = x.Maps.length) (nx_Away : Nat) (hbdx_Away : (nx_Away : Int) ≤ 9223372036854775807) (hlex_Away : nx_Away = x.Away.length) (hp0 : (nx_Maps : Int) ≤ 1048576) (h13 : ¬ (LibOK x)) : 0 = (if LibOK x then sumC x.Maps else 0) := by
  first | assumption | simp [*]
theorem z_c_spec_CopiesThere_15 (x : Library) (nx_Maps : Nat) (hbdx_Maps : (nx_Maps : Int) ≤ 9223372036854775807) (hlex_Maps : nx_Maps = x.Maps.length) (nx_Away : Nat) (hbdx_Away : (nx_Away : Int) ≤ 9223372036854775807) (hlex_Away : nx_Away = x.Away.length) (hp0 : (nx_Maps : Int) ≤ 1048576) (h13 : ¬ (LibOK x)) : ¬ (LibOK x) := by
  first | assumption | simp [*]
theorem z_c_spec_CopiesThere_25 (x : Library) (nx_Maps : Nat) (hbdx_Maps : (nx_Maps : Int) ≤ 9223372036854775807) (hlex_Maps : nx_Maps = x.Maps.length) (nx_Away : Nat) (hbdx_Away : (nx_Away : Int) ≤ 9223372036854775807) (hlex_Away : nx_Away = x.Away.length) (hp0 : (nx_Maps : Int) ≤ 1048576) (h13 : LibOK x) (hq16 : MapsOK x.Maps ∧ x.Maps.length ≤ 8) (hq17 : x.Away.length ≤ 8) (hq18 : MapsOK x.Maps) (hq19 : x.Maps.length ≤ 8) (hq24 : 0 ≤ (if false = true then sumT x.Maps else sumC x.Maps) ∧ (if false = true then sumT x.Maps else sumC x.Maps) ≤ 792) : (if false = true then sumT x.Maps else sumC x.Maps) = (if LibOK x then sumC x.Maps else 0) := by
  first | assumption | simp [*]
theorem z_c_spec_CopiesThere_26 (x : Library) (nx_Maps : Nat) (hbdx_Maps : (nx_Maps : Int) ≤ 9223372036854775807) (hlex_Maps : nx_Maps = x.Maps.length) (nx_Away : Nat) (hbdx_Away : (nx_Away : Int) ≤ 9223372036854775807) (hlex_Away : nx_Away = x.Away.length) (hp0 : (nx_Maps : Int) ≤ 1048576) (h13 : LibOK x) (hq16 : MapsOK x.Maps ∧ x.Maps.length ≤ 8) (hq17 : x.Away.length ≤ 8) (hq18 : MapsOK x.Maps) (hq19 : x.Maps.length ≤ 8) (hq24 : 0 ≤ (if false = true then sumT x.Maps else sumC x.Maps) ∧ (if false = true then sumT x.Maps else sumC x.Maps) ≤ 792) : LibOK x := by
  first | assumption | simp [*]
theorem c_spec_CopiesThere (w : World) (x : Library) {Ax_Maps : Option Addr} {nx_Maps cx_Maps Bx_Maps : Nat} (hx_Maps : SlR w Bx_Maps encLMap 3 Ax_Maps nx_Maps cx_Maps x.Maps) {Ax_Away : Option Addr} {nx_Away cx_Away Bx_Away : Nat} (hx_Away : SlR w Bx_Away encAway 2 Ax_Away nx_Away cx_Away x.Away) (hp0 : (nx_Maps : Int) ≤ 1048576) : Calls Try.prog 17 #[.agg (List.toArray [.slice Ax_Maps nx_Maps cx_Maps, .slice Ax_Away nx_Away cx_Away, .int .i64 x.Bought, .int .i64 x.Dropped, .int .i64 x.Mended])] w fun e w' => e = .returned (.tuple (List.toArray [.int .i64 (if LibOK x then sumC x.Maps else 0), .bool (decide (LibOK x))])) ∧ Lo w w' := by
  refine calls_W 9 Try.func17 rfl rfl rfl ?_
  have hbdx_Maps := hx_Maps.bound
  have hlex_Maps := hx_Maps.len
  have hBbx_Maps := hx_Maps.bd
  have hbdx_Away := hx_Away.bound
  have hlex_Away := hx_Away.len
  have hBbx_Away := hx_Away.bd
  refine W.seq ?_
  refine W.regS (SR.box (v := .agg (List.toArray _)) (l := [.slice Ax_Maps nx_Maps cx_Maps, .slice Ax_Away nx_Away cx_Away, .int .i64 x.Bought, .int .i64 x.Dropped, .int .i64 x.Mended]) rfl rfl ?_)
  intro g1 w2 hg3 hk4 hs5 hb6
  have hz7 := hk4.size
  have hB8 := (Lo.refl w).lo hk4
  refine SR.q' (r_as (v := .int .i64 0) rfl) <| SR.q' (r_as (v := .bool false) rfl) <| SR.nil ?_
  refine W.seq ?_
  refine W.seq ?_
  refine W.regS (SR.q' (r_lda (l := [.slice Ax_Maps nx_Maps cx_Maps, .slice Ax_Away nx_Away cx_Away, .int .i64 x.Bought, .int .i64 x.Dropped, .int .i64 x.Mended]) agg31 rfl (fun _ _ hu => (hb6).cell hu) rfl) <| SR.call ent48 (c_spec_l32Good w2 x (((hx_Maps).lo hk4)) (((hx_Away).lo hk4))) rfl ?_)
  rintro e w9 ⟨rfl, hk10⟩
  refine ⟨_, rfl, ?_⟩
  have hz11 := hk10.size
  have hB12 := hB8.lo hk10
  refine SR.q' (r_not rfl) <| SR.nil ?_
  refine W.cond_n rfl (fun h13 => ?_) (fun h13 => ?_)
  · refine W.seq ?_
    refine W.regS (SR.q' (r_as (v := .int .i64 0) rfl) <| SR.q' (r_as (v := .bool false) rfl) <| SR.nil ?_)
    refine W.ret ?_
    refine ret2 rfl (v := .int .i64 _) (v' := .bool _) rfl rfl ?_
    exact ⟨eR (eT2 (eI (z_c_spec_CopiesThere_14 x nx_Maps hbdx_Maps hlex_Maps nx_Away hbdx_Away hlex_Away hp0 h13)) (eDF (z_c_spec_CopiesThere_15 x nx_Maps hbdx_Maps hlex_Maps nx_Away hbdx_Away hlex_Away hp0 h13))), hB12⟩
  · have hq16 := And.left h13
    have hq17 := lib_len h13
    have hq18 := And.left hq16
    have hq19 := And.right hq16
    refine W.skip ?_
    refine W.seq ?_
    refine W.regS (SR.q' (r_lda (l := [.slice Ax_Maps nx_Maps cx_Maps, .slice Ax_Away nx_Away cx_Away, .int .i64 x.Bought, .int .i64 x.Dropped, .int .i64 x.Mended]) agg31 rfl (fun _ _ hu => ((hb6).lo hk10).cell hu) rfl) <| SR.call ent60 (c_spec_l32There w9 x ((((hx_Maps).lo hk4).lo hk10)) ((((hx_Away).lo hk4).lo hk10)) false (by first | assumption | exact MTo.end_ (And.right ‹_ ∧ MTo _ _›) (by omega)) (by omega)) rfl ?_)
    rintro e w20 ⟨rfl, hk21⟩
    refine ⟨_, rfl, ?_⟩
    have hz22 := hk21.size
    have hB23 := hB12.lo hk21
    have hq24 : 0 ≤ (if false = true then sumT x.Maps else sumC x.Maps) ∧ (if false = true then sumT x.Maps else sumC x.Maps) ≤ 792 := there_rng false ‹MapsOK _› (by omega)
    refine SR.q' (r_as (v := .int .i64 _) rfl) <| SR.q' (r_as (v := .bool true) rfl) <| SR.nil ?_
    refine W.ret ?_
    refine ret2 rfl (v := .int .i64 _) (v' := .bool _) rfl rfl ?_
    exact ⟨eR (eT2 (eI (z_c_spec_CopiesThere_25 x nx_Maps hbdx_Maps hlex_Maps nx_Away hbdx_Away hlex_Away hp0 h13 hq16 hq17 hq18 hq19 hq24)) (eDT (z_c_spec_CopiesThere_26 x nx_Maps hbdx_Maps hlex_Maps nx_Away hbdx_Away hlex_Away hp0 h13 hq16 hq17 hq18 hq19 hq24))), hB23⟩

theorem z_c_impl_MapsAt_29 (x : Library) (nx_Maps : Nat) (hbdx_Maps : (nx_Maps : Int) ≤ 9223372036854775807) (hlex_Maps : nx_Maps = x.Maps.length) (nx_Away : Nat) (hbdx_Away : (nx_Away : Int) ≤ 9223372036854775807) (hlex_Away : nx_Away = x.Away.length) (r : Int) (hp0 : (nx_Maps : Int) ≤ 1048576) (h28 : (¬ (LibOK x)) ∨ (¬ (1 ≤ r ∧ r ≤ 999))) : ([] : List Int) = (if LibOK x ∧ (1 ≤ r ∧ r ≤ 999) then selL (atR r) Away.Map x.Away else []) := by
  first | (rw [if_pos (by first | assumption | exact ⟨‹_›, ‹_›⟩)]; exact sel_end (by omega)) | (rw [if_neg (by first | assumption | exact not_and_of_not_or_not ‹_›)])
theorem z_c_impl_MapsAt_30 (x : Library) (nx_Maps : Nat) (hbdx_Maps : (nx_Maps : Int) ≤ 9223372036854775807) (hlex_Maps : nx_Maps = x.Maps.length) (nx_Away : Nat) (hbdx_Away : (nx_Away : Int) ≤ 9223372036854775807) (hlex_Away : nx_Away = x.Away.length) (r : Int) (hp0 : (nx_Maps : Int) ≤ 1048576) (h28 : (¬ (LibOK x)) ∨ (¬ (1 ≤ r ∧ r ≤ 999))) : ¬ (LibOK x ∧ (1 ≤ r ∧ r ≤ 999)) := by
  first | assumption | exact ⟨‹_›, ‹_›⟩ | exact not_and_of_not_or_not ‹_›
theorem z_c_impl_MapsAt_38 (x : Library) (nx_Maps : Nat) (hbdx_Maps : (nx_Maps : Int) ≤ 9223372036854775807) (hlex_Maps : nx_Maps = x.Maps.length) (nx_Away : Nat) (hbdx_Away : (nx_Away : Int) ≤ 9223372036854775807) (hlex_Away : nx_Away = x.Away.length) (r : Int) (hp0 : (nx_Maps : Int) ≤ 1048576) (h28 : ¬ ((¬ (LibOK x)) ∨ (¬ (1 ≤ r ∧ r ≤ 999)))) (hq31 : LibOK x) (hq32 : 1 ≤ r ∧ r ≤ 999) (hq33 : MapsOK x.Maps ∧ x.Maps.length ≤ 8) (hq34 : x.Away.length ≤ 8) (hq35 : MapsOK x.Maps) (hq36 : x.Maps.length ≤ 8) : 0 ≤ nx_Away := by
  omega
theorem z_c_impl_MapsAt_39 (x : Library) (nx_Maps : Nat) (hbdx_Maps : (nx_Maps : Int) ≤ 9223372036854775807) (hlex_Maps : nx_Maps = x.Maps.length) (nx_Away : Nat) (hbdx_Away : (nx_Away : Int) ≤ 9223372036854775807) (hlex_Away : nx_Away = x.Away.length) (r : Int) (hp0 : (nx_Maps : Int) ≤ 1048576) (h28 : ¬ ((¬ (LibOK x)) ∨ (¬ (1 ≤ r ∧ r ≤ 999)))) (hq31 : LibOK x) (hq32 : 1 ≤ r ∧ r ≤ 999) (hq33 : MapsOK x.Maps ∧ x.Maps.length ≤ 8) (hq34 : x.Away.length ≤ 8) (hq35 : MapsOK x.Maps) (hq36 : x.Maps.length ≤ 8) : ([] : List Int) = selL (atR r) Away.Map (x.Away.take 0) := by
  rfl
theorem z_c_impl_MapsAt_87 (x : Library) (nx_Maps : Nat) (hbdx_Maps : (nx_Maps : Int) ≤ 9223372036854775807) (hlex_Maps : nx_Maps = x.Maps.length) (nx_Away : Nat) (hbdx_Away : (nx_Away : Int) ≤ 9223372036854775807) (hlex_Away : nx_Away = x.Away.length) (r : Int) (hp0 : (nx_Maps : Int) ≤ 1048576) (h28 : ¬ ((¬ (LibOK x)) ∨ (¬ (1 ≤ r ∧ r ≤ 999)))) (hq31 : LibOK x) (hq32 : 1 ≤ r ∧ r ≤ 999) (hq33 : MapsOK x.Maps ∧ x.Maps.length ≤ 8) (hq34 : x.Away.length ≤ 8) (hq35 : MapsOK x.Maps) (hq36 : x.Maps.length ≤ 8) (k : Nat) (n37 : Nat) (c37 : Nat) (hi46 : k ≤ nx_Away) (hl47 : n37 = (selL (atR r) Away.Map (x.Away.take k)).length) (hq49 : (selL (atR r) Away.Map (x.Away.take k)).length ≤ x.Away.length) (h50 : (k : Int) < (nx_Away : Int)) (hx52 : x.Away[k]? = some (gt x.Away k)) (h68 : ((gt x.Away k).Reader) = r) : (selL (atR r) Away.Map (x.Away.take k)) ++ ([(gt x.Away k).Map] : List Int) = selL (atR r) Away.Map (x.Away.take (k + 1)) := by
  first | exact sel_yes (by omega) (decide_eq_true ‹_›) | exact sel_no (by omega) (decide_eq_false ‹_›)
theorem z_c_impl_MapsAt_88 (x : Library) (nx_Maps : Nat) (hbdx_Maps : (nx_Maps : Int) ≤ 9223372036854775807) (hlex_Maps : nx_Maps = x.Maps.length) (nx_Away : Nat) (hbdx_Away : (nx_Away : Int) ≤ 9223372036854775807) (hlex_Away : nx_Away = x.Away.length) (r : Int) (hp0 : (nx_Maps : Int) ≤ 1048576) (h28 : ¬ ((¬ (LibOK x)) ∨ (¬ (1 ≤ r ∧ r ≤ 999)))) (hq31 : LibOK x) (hq32 : 1 ≤ r ∧ r ≤ 999) (hq33 : MapsOK x.Maps ∧ x.Maps.length ≤ 8) (hq34 : x.Away.length ≤ 8) (hq35 : MapsOK x.Maps) (hq36 : x.Maps.length ≤ 8) (k : Nat) (n37 : Nat) (c37 : Nat) (hi46 : k ≤ nx_Away) (hl47 : n37 = (selL (atR r) Away.Map (x.Away.take k)).length) (hq49 : (selL (atR r) Away.Map (x.Away.take k)).length ≤ x.Away.length) (h50 : (k : Int) < (nx_Away : Int)) (hx52 : x.Away[k]? = some (gt x.Away k)) (h68 : ((gt x.Away k).Reader) = r) : k + 1 ≤ nx_Away := by
  omega
theorem z_c_impl_MapsAt_89 (x : Library) (nx_Maps : Nat) (hbdx_Maps : (nx_Maps : Int) ≤ 9223372036854775807) (hlex_Maps : nx_Maps = x.Maps.length) (nx_Away : Nat) (hbdx_Away : (nx_Away : Int) ≤ 9223372036854775807) (hlex_Away : nx_Away = x.Away.length) (r : Int) (hp0 : (nx_Maps : Int) ≤ 1048576) (h28 : ¬ ((¬ (LibOK x)) ∨ (¬ (1 ≤ r ∧ r ≤ 999)))) (hq31 : LibOK x) (hq32 : 1 ≤ r ∧ r ≤ 999) (hq33 : MapsOK x.Maps ∧ x.Maps.length ≤ 8) (hq34 : x.Away.length ≤ 8) (hq35 : MapsOK x.Maps) (hq36 : x.Maps.length ≤ 8) (k : Nat) (n37 : Nat) (c37 : Nat) (hi46 : k ≤ nx_Away) (hl47 : n37 = (selL (atR r) Away.Map (x.Away.take k)).length) (hq49 : (selL (atR r) Away.Map (x.Away.take k)).length ≤ x.Away.length) (h50 : (k : Int) < (nx_Away : Int)) (hx52 : x.Away[k]? = some (gt x.Away k)) (h68 : ((gt x.Away k).Reader) = r) : nx_Away - (k + 1) < nx_Away - k := by
  omega
theorem z_c_impl_MapsAt_90 (x : Library) (nx_Maps : Nat) (hbdx_Maps : (nx_Maps : Int) ≤ 9223372036854775807) (hlex_Maps : nx_Maps = x.Maps.length) (nx_Away : Nat) (hbdx_Away : (nx_Away : Int) ≤ 9223372036854775807) (hlex_Away : nx_Away = x.Away.length) (r : Int) (hp0 : (nx_Maps : Int) ≤ 1048576) (h28 : ¬ ((¬ (LibOK x)) ∨ (¬ (1 ≤ r ∧ r ≤ 999)))) (hq31 : LibOK x) (hq32 : 1 ≤ r ∧ r ≤ 999) (hq33 : MapsOK x.Maps ∧ x.Maps.length ≤ 8) (hq34 : x.Away.length ≤ 8) (hq35 : MapsOK x.Maps) (hq36 : x.Maps.length ≤ 8) (k : Nat) (n37 : Nat) (c37 : Nat) (hi46 : k ≤ nx_Away) (hl47 : n37 = (selL (atR r) Away.Map (x.Away.take k)).length) (hq49 : (selL (atR r) Away.Map (x.Away.take k)).length ≤ x.Away.length) (h50 : (k : Int) < (nx_Away : Int)) (hx52 : x.Away[k]? = some (gt x.Away k)) (h68 : ¬ (((gt x.Away k).Reader) = r)) : selL (atR r) Away.Map (x.Away.take k) = selL (atR r) Away.Map (x.Away.take (k + 1)) := by
  first | exact sel_yes (by omega) (decide_eq_true ‹_›) | exact sel_no (by omega) (decide_eq_false ‹_›)
theorem z_c_impl_MapsAt_91 (x : Library) (nx_Maps : Nat) (hbdx_Maps : (nx_Maps : Int) ≤ 9223372036854775807) (hlex_Maps : nx_Maps = x.Maps.length) (nx_Away : Nat) (hbdx_Away : (nx_Away : Int) ≤ 9223372036854775807) (hlex_Away : nx_Away = x.Away.length) (r : Int) (hp0 : (nx_Maps : Int) ≤ 1048576) (h28 : ¬ ((¬ (LibOK x)) ∨ (¬ (1 ≤ r ∧ r ≤ 999)))) (hq31 : LibOK x) (hq32 : 1 ≤ r ∧ r ≤ 999) (hq33 : MapsOK x.Maps ∧ x.Maps.length ≤ 8) (hq34 : x.Away.length ≤ 8) (hq35 : MapsOK x.Maps) (hq36 : x.Maps.length ≤ 8) (k : Nat) (n37 : Nat) (c37 : Nat) (hi46 : k ≤ nx_Away) (hl47 : n37 = (selL (atR r) Away.Map (x.Away.take k)).length) (hq49 : (selL (atR r) Away.Map (x.Away.take k)).length ≤ x.Away.length) (h50 : (k : Int) < (nx_Away : Int)) (hx52 : x.Away[k]? = some (gt x.Away k)) (h68 : ¬ (((gt x.Away k).Reader) = r)) : k + 1 ≤ nx_Away := by
  omega
theorem z_c_impl_MapsAt_92 (x : Library) (nx_Maps : Nat) (hbdx_Maps : (nx_Maps : Int) ≤ 9223372036854775807) (hlex_Maps : nx_Maps = x.Maps.length) (nx_Away : Nat) (hbdx_Away : (nx_Away : Int) ≤ 9223372036854775807) (hlex_Away : nx_Away = x.Away.length) (r : Int) (hp0 : (nx_Maps : Int) ≤ 1048576) (h28 : ¬ ((¬ (LibOK x)) ∨ (¬ (1 ≤ r ∧ r ≤ 999)))) (hq31 : LibOK x) (hq32 : 1 ≤ r ∧ r ≤ 999) (hq33 : MapsOK x.Maps ∧ x.Maps.length ≤ 8) (hq34 : x.Away.length ≤ 8) (hq35 : MapsOK x.Maps) (hq36 : x.Maps.length ≤ 8) (k : Nat) (n37 : Nat) (c37 : Nat) (hi46 : k ≤ nx_Away) (hl47 : n37 = (selL (atR r) Away.Map (x.Away.take k)).length) (hq49 : (selL (atR r) Away.Map (x.Away.take k)).length ≤ x.Away.length) (h50 : (k : Int) < (nx_Away : Int)) (hx52 : x.Away[k]? = some (gt x.Away k)) (h68 : ¬ (((gt x.Away k).Reader) = r)) : nx_Away - (k + 1) < nx_Away - k := by
  omega
theorem z_c_impl_MapsAt_93 (x : Library) (nx_Maps : Nat) (hbdx_Maps : (nx_Maps : Int) ≤ 9223372036854775807) (hlex_Maps : nx_Maps = x.Maps.length) (nx_Away : Nat) (hbdx_Away : (nx_Away : Int) ≤ 9223372036854775807) (hlex_Away : nx_Away = x.Away.length) (r : Int) (hp0 : (nx_Maps : Int) ≤ 1048576) (h28 : ¬ ((¬ (LibOK x)) ∨ (¬ (1 ≤ r ∧ r ≤ 999)))) (hq31 : LibOK x) (hq32 : 1 ≤ r ∧ r ≤ 999) (hq33 : MapsOK x.Maps ∧ x.Maps.length ≤ 8) (hq34 : x.Away.length ≤ 8) (hq35 : MapsOK x.Maps) (hq36 : x.Maps.length ≤ 8) (k : Nat) (n37 : Nat) (c37 : Nat) (hi46 : k ≤ nx_Away) (hl47 : n37 = (selL (atR r) Away.Map (x.Away.take k)).length) (hq49 : (selL (atR r) Away.Map (x.Away.take k)).length ≤ x.Away.length) (h50 : ¬ ((k : Int) < (nx_Away : Int))) : selL (atR r) Away.Map (x.Away.take k) = (if LibOK x ∧ (1 ≤ r ∧ r ≤ 999) then selL (atR r) Away.Map x.Away else []) := by
  first | (rw [if_pos (by first | assumption | exact ⟨‹_›, ‹_›⟩)]; exact sel_end (by omega)) | (rw [if_neg (by first | assumption | exact not_and_of_not_or_not ‹_›)])
theorem z_c_impl_MapsAt_94 (x : Library) (nx_Maps : Nat) (hbdx_Maps : (nx_Maps : Int) ≤ 9223372036854775807) (hlex_Maps : nx_Maps = x.Maps.length) (nx_Away : Nat) (hbdx_Away : (nx_Away : Int) ≤ 9223372036854775807) (hlex_Away : nx_Away = x.Away.length) (r : Int) (hp0 : (nx_Maps : Int) ≤ 1048576) (h28 : ¬ ((¬ (LibOK x)) ∨ (¬ (1 ≤ r ∧ r ≤ 999)))) (hq31 : LibOK x) (hq32 : 1 ≤ r ∧ r ≤ 999) (hq33 : MapsOK x.Maps ∧ x.Maps.length ≤ 8) (hq34 : x.Away.length ≤ 8) (hq35 : MapsOK x.Maps) (hq36 : x.Maps.length ≤ 8) (k : Nat) (n37 : Nat) (c37 : Nat) (hi46 : k ≤ nx_Away) (hl47 : n37 = (selL (atR r) Away.Map (x.Away.take k)).length) (hq49 : (selL (atR r) Away.Map (x.Away.take k)).length ≤ x.Away.length) (h50 : ¬ ((k : Int) < (nx_Away : Int))) : LibOK x ∧ (1 ≤ r ∧ r ≤ 999) := by
  first | assumption | exact ⟨‹_›, ‹_›⟩ | exact not_and_of_not_or_not ‹_›
theorem c_impl_MapsAt (w : World) (x : Library) {Ax_Maps : Option Addr} {nx_Maps cx_Maps Bx_Maps : Nat} (hx_Maps : SlR w Bx_Maps encLMap 3 Ax_Maps nx_Maps cx_Maps x.Maps) {Ax_Away : Option Addr} {nx_Away cx_Away Bx_Away : Nat} (hx_Away : SlR w Bx_Away encAway 2 Ax_Away nx_Away cx_Away x.Away) (r : Int) (hp0 : (nx_Maps : Int) ≤ 1048576) : Calls Try.prog 22 #[.agg (List.toArray [.slice Ax_Maps nx_Maps cx_Maps, .slice Ax_Away nx_Away cx_Away, .int .i64 x.Bought, .int .i64 x.Dropped, .int .i64 x.Mended]), .int .i64 r] w fun e w' => ∃ (A1' : Option Addr) (n1' c1' : Nat), e = .returned (.tuple (List.toArray [.slice A1' n1' c1', .bool (decide (LibOK x ∧ (1 ≤ r ∧ r ≤ 999)))])) ∧ SlO w' w.heap.size encI 1 3 A1' n1' c1' (if LibOK x ∧ (1 ≤ r ∧ r ≤ 999) then selL (atR r) Away.Map x.Away else []) ∧ Lo w w' := by
  refine calls_W 35 Try.func22 rfl rfl rfl ?_
  have hbdx_Maps := hx_Maps.bound
  have hlex_Maps := hx_Maps.len
  have hBbx_Maps := hx_Maps.bd
  have hbdx_Away := hx_Away.bound
  have hlex_Away := hx_Away.len
  have hBbx_Away := hx_Away.bd
  refine W.seq ?_
  refine W.regS (SR.box (v := .agg (List.toArray _)) (l := [.slice Ax_Maps nx_Maps cx_Maps, .slice Ax_Away nx_Away cx_Away, .int .i64 x.Bought, .int .i64 x.Dropped, .int .i64 x.Mended]) rfl rfl ?_)
  intro g1 w2 hg3 hk4 hs5 hb6
  have hz7 := hk4.size
  have hB8 := (Lo.refl w).lo hk4
  refine SR.q' (r_as (v := .slice none 0 0) rfl) <| SR.q' (r_as (v := .bool false) rfl) <| SR.nil ?_
  refine W.seq ?_
  refine W.seq ?_
  refine W.regJS (fun f' w' => At f' [(1, .int .i64 r), (2, .pointer (some ((⟨g1, 0, none⟩ : Addr)))), (4, .slice none 0 0), (5, .bool false), (16, .bool (decide ((¬ (LibOK x)) ∨ (¬ (1 ≤ r ∧ r ≤ 999)))))] ∧ Lo w2 w') ?_ ?_
  · refine SR.q' (r_lda (l := [.slice Ax_Maps nx_Maps cx_Maps, .slice Ax_Away nx_Away cx_Away, .int .i64 x.Bought, .int .i64 x.Dropped, .int .i64 x.Mended]) agg31 rfl (fun _ _ hu => (hb6).cell hu) rfl) <| SR.call ent15 (c_impl_IsLibrary w2 x (((hx_Maps).lo hk4)) (((hx_Away).lo hk4)) (by omega)) rfl ?_
    rintro e w9 ⟨rfl, hk10⟩
    refine ⟨_, rfl, ?_⟩
    have hz11 := hk10.size
    have hB12 := hB8.lo hk10
    refine SR.q' (r_not rfl) <| SR.q' (r_mv (v := .bool _) rfl) <| SR.splitN (fun h13 => ?_) (fun h13 => ?_)
    · refine SR.s' rfl <| SR.s' rfl <| SR.s' rfl <| SR.q' (r_pick true rfl (v := .bool true) rfl) <| SR.nil ?_
      exact ⟨_, rfl, ⟨⟨rfl, rfl, rfl, rfl, (eDT ((jmf h13).1 trivial)), trivial⟩, (hk10)⟩⟩
    · have hq14 := And.left h13
      have hq15 := lib_len h13
      have hq16 := And.left hq14
      have hq17 := And.right hq14
      refine SR.g' rfl (r_mv (v := .int .i64 _) rfl) <| SR.gcall rfl ent54 (c_impl_isId w9 r) rfl ?_
      rintro e w18 ⟨rfl, hk19⟩
      refine ⟨_, rfl, ?_⟩
      have hz20 := hk19.size
      have hB21 := hB12.lo hk19
      refine SR.g' rfl (r_not rfl) <| SR.q' (r_pick false rfl (v := .bool _) rfl) <| SR.nil ?_
      exact ⟨_, rfl, ⟨⟨rfl, rfl, rfl, rfl, (eND (jmt h13)), trivial⟩, ((hk10).trans hk19)⟩⟩
  rintro f22 w23 ⟨hat24, hk25⟩
  rw [← sets_of_at hat24]
  have hz26 := hk25.size
  have hB27 := hB8.lo hk25
  refine W.cond_d rfl (fun h28 => ?_) (fun h28 => ?_)
  · refine W.seq ?_
    refine W.regS (SR.q' (r_as (v := .slice none 0 0) rfl) <| SR.q' (r_as (v := .bool false) rfl) <| SR.nil ?_)
    refine W.ret ?_
    refine ret2 rfl (v := .slice none 0 0) (v' := .bool _) rfl rfl ?_
    exact ⟨none, 0, 0, eR (eT2 rfl (eDF (z_c_impl_MapsAt_30 x nx_Maps hbdx_Maps hlex_Maps nx_Away hbdx_Away hlex_Away r hp0 h28))), (SlO.eqv (SlO.nil (e := 3) (enc := encI) (fun _ => rfl) (by omega)) (z_c_impl_MapsAt_29 x nx_Maps hbdx_Maps hlex_Maps nx_Away hbdx_Away hlex_Away r hp0 h28)), hB27⟩
  · have hq31 : LibOK x := (Classical.not_not.1 (not_or.1 h28).1)
    have hq32 : 1 ≤ r ∧ r ≤ 999 := (Classical.not_not.1 (not_or.1 h28).2)
    have hq33 := And.left hq31
    have hq34 := lib_len hq31
    have hq35 := And.left hq33
    have hq36 := And.right hq33
    refine W.skip ?_
    refine W.seq ?_
    refine W.regS (SR.q' (r_as (v := .slice none 0 0) rfl) <| SR.nil ?_)
    refine W.seq ?_
    refine W.seq ?_
    refine W.regS (SR.q' (r_fa fa31_1 rfl) <| SR.q' (r_ld (v := .slice Ax_Away nx_Away cx_Away) sca29 rfl (((hb6).lo hk25).cell rfl)) <| SR.q' (r_len und29 rfl) <| SR.q' (r_mv (v := .int .i64 0) rfl) <| SR.nil ?_)
    refine W.block ?_
    refine W.loop (σ := Nat × (Option Addr) × Nat × Nat) (fun g => [(1, .int .i64 r), (4, .slice none 0 0), (5, .bool false), (6, .slice g.2.1 g.2.2.1 g.2.2.2), (18, .slice Ax_Away nx_Away cx_Away), (19, .int .i64 (nx_Away : Int)), (20, .int .i64 (g.1 : Int))]) (fun g w' => (Lo w w') ∧ (SlR w' Bx_Away encAway 2 Ax_Away nx_Away cx_Away x.Away) ∧ (SlO w' w.heap.size encI 1 3 g.2.1 g.2.2.1 g.2.2.2 (selL (atR r) Away.Map (x.Away.take g.1))) ∧ (g.1 ≤ nx_Away)) (fun g => nx_Away - g.1) (0, (none : Option Addr), 0, 0) ?_ ?_ ?_
    · exact ⟨rfl, rfl, rfl, rfl, rfl, rfl, rfl, trivial⟩
    · exact ⟨hB27, ((hx_Away).lo hk4).lo hk25, (SlO.eqv (SlO.nil (base := w.heap.size) (e := 3) (enc := encI) (fun _ => rfl) (by omega)) (z_c_impl_MapsAt_39 x nx_Maps hbdx_Maps hlex_Maps nx_Away hbdx_Away hlex_Away r hp0 h28 hq31 hq32 hq33 hq34 hq35 hq36)), (z_c_impl_MapsAt_38 x nx_Maps hbdx_Maps hlex_Maps nx_Away hbdx_Away hlex_Away r hp0 h28 hq31 hq32 hq33 hq34 hq35 hq36)⟩
    · rintro ⟨k, A37, n37, c37⟩ f40 w41 hP43
      obtain ⟨hB42, hm44, hO45, hi46⟩ : (Lo w w41) ∧ (SlR w41 Bx_Away encAway 2 Ax_Away nx_Away cx_Away x.Away) ∧ (SlO w41 w.heap.size encI 1 3 A37 n37 c37 (selL (atR r) Away.Map (x.Away.take k))) ∧ (k ≤ nx_Away) := hP43
      refine (?_ : W _ _ _ _ _ (act _ (sets f40 [(1, .int .i64 r), (4, .slice none 0 0), (5, .bool false), (6, .slice A37 n37 c37), (18, .slice Ax_Away nx_Away cx_Away), (19, .int .i64 (nx_Away : Int)), (20, .int .i64 (k : Int))])) _)
      have hzw41 := hB42.size
      have hl47 := hO45.len
      have hl48 := hO45.rd.bound
      have hq49 := sel_lenT x.Away k (atR r) Away.Map
      refine W.seq ?_
      refine W.regS (SR.q' (r_lt rfl rfl) <| SR.nil ?_)
      refine W.seq ?_
      refine W.cond_d rfl (fun h50 => ?_) (fun h50 => ?_)
      · refine W.skip ?_
        refine W.seq ?_
        refine W.block ?_
        refine W.seq ?_
        have hx52 := (hm44).elem (i := k) (by omega)
        refine W.regS (SR.q' (r_ixR tsl29 (hm44) rfl rfl (by omega)) <| SR.q' (r_lda (l := encAway (gt x.Away k)) agg77 rfl (fun _ _ hu => (hm44).cell hx52 hu) ((hm44).esz _)) <| SR.alloc (l := [.int .i64 0, .int .i64 0]) tz77 rfl ?_)
        intro g53 w54 hg55 hk56 hs57 hb58
        have hz59 := hk56.size
        have hB60 := hB42.lo hk56
        have hd61 : ¬ A37 = some ⟨g53, 0, none⟩ := fun e' => by have := (hO45).base_le e'; omega
        refine SR.store (o := 0) (vs := [.int .i64 ((gt x.Away k).Map), .int .i64 ((gt x.Away k).Reader)]) agg77.2 rfl rfl rfl rfl (hb58) (Nat.le_of_ble_eq_true rfl) rfl ?_
        intro w62 hk63 hs64 hb65
        have hz66 := hk63.size
        have hB67 := hB60.new hk63 (by omega)
        refine SR.nil ?_
        refine W.seq ?_
        refine W.regS (SR.q' (r_fa fa77_1 rfl) <| SR.q' (r_ld (v := .int .i64 ((gt x.Away k).Reader)) sca3 rfl ((hb65).cell rfl)) <| SR.q' (r_mv (v := .int .i64 _) rfl) <| SR.q' (r_eq rfl rfl) <| SR.nil ?_)
        refine W.cond_d rfl (fun h68 => ?_) (fun h68 => ?_)
        · refine W.regS (SR.q' (r_mv (v := .slice _ _ _) rfl) <| SR.q' (r_fa fa77_0 rfl) <| SR.q' (r_ld (v := .int .i64 ((gt x.Away k).Map)) sca3 rfl ((hb65).cell rfl)) <| SR.lit (vs := [.int .i64 ((gt x.Away k).Map)]) (L := ([(gt x.Away k).Map] : List Int)) (enc := encI) tel37 (fun _ => rfl) rfl rfl rfl (by decide) ?_)
          intro g69 w70 hg71 hk72 hO73
          have hz74 := hk72.size
          have hB75 := hB67.lo hk72
          have hd76 : ¬ A37 = some ⟨g69, 0, none⟩ := fun e' => by have := (((hO45).lo hk56).kp hk63 (fun b_ hb e' => hd61 (by have e'' : b_ = g53 := e'; rw [← e'']; exact hb))).base_le e'; omega
          refine SR.app tel37 rfl rfl ((((hO45).lo hk56).kp hk63 (fun b_ hb e' => hd61 (by have e'' : b_ = g53 := e'; rw [← e'']; exact hb))).lo hk72) ((hO73).rd) (fun _ => rfl) (by omega) (by omega) ?_
          intro A77 c78 w79 hk80 hO81 hN82
          have hz83 := hk80.size
          have hB84 := hB75.step hk80 (fun i_ hi_ e' => by have := (((((hO45).lo hk56).kp hk63 (fun b_ hb e' => hd61 (by have e'' : b_ = g53 := e'; rw [← e'']; exact hb))).lo hk72)).base_le e'; first | omega | (exfalso; omega) | exact e' | exact .inl e' | exact .inr e')
          have hd85 : ¬ A77 = some ⟨g53, 0, none⟩ := fun e' => (hN82 g53 e').elim (fun h => hd61 (h.trans e')) (fun h => by have := ((hb65).lo hk72).lt; omega)
          refine SR.q' (r_as (v := .slice _ _ _) rfl) <| SR.nil ?_
          refine W.regS (SR.q' (r_add rfl rfl (by omega)) <| SR.q' (r_mv (v := .int .i64 _) rfl) <| SR.nil ?_)
          refine ⟨(k + 1, A77, n37 + 1, c78), _, rfl, ⟨rfl, rfl, rfl, rfl, rfl, rfl, rfl, trivial⟩, ⟨hB84, ((((hm44).lo hk56).kp hk63 (fun b_ hb e' => by have e'' : b_ = g53 := e'; omega)).lo hk72).kp hk80 (fun b_ hb e' => by have := (((((hO45).lo hk56).kp hk63 (fun b_ hb e' => hd61 (by have e'' : b_ = g53 := e'; rw [← e'']; exact hb))).lo hk72)).base_le e'; omega), (SlO.eqv (hO81) (z_c_impl_MapsAt_87 x nx_Maps hbdx_Maps hlex_Maps nx_Away hbdx_Away hlex_Away r hp0 h28 hq31 hq32 hq33 hq34 hq35 hq36 k n37 c37 hi46 hl47 hq49 h50 hx52 h68)), ?_⟩, ?_⟩
          · exact (z_c_impl_MapsAt_88 x nx_Maps hbdx_Maps hlex_Maps nx_Away hbdx_Away hlex_Away r hp0 h28 hq31 hq32 hq33 hq34 hq35 hq36 k n37 c37 hi46 hl47 hq49 h50 hx52 h68)
          · exact (z_c_impl_MapsAt_89 x nx_Maps hbdx_Maps hlex_Maps nx_Away hbdx_Away hlex_Away r hp0 h28 hq31 hq32 hq33 hq34 hq35 hq36 k n37 c37 hi46 hl47 hq49 h50 hx52 h68)
        · refine W.skip ?_
          refine W.regS (SR.q' (r_add rfl rfl (by omega)) <| SR.q' (r_mv (v := .int .i64 _) rfl) <| SR.nil ?_)
          refine ⟨(k + 1, A37, n37, c37), _, rfl, ⟨rfl, rfl, rfl, rfl, rfl, rfl, rfl, trivial⟩, ⟨hB67, ((hm44).lo hk56).kp hk63 (fun b_ hb e' => by have e'' : b_ = g53 := e'; omega), (SlO.eqv (((hO45).lo hk56).kp hk63 (fun b_ hb e' => hd61 (by have e'' : b_ = g53 := e'; rw [← e'']; exact hb))) (z_c_impl_MapsAt_90 x nx_Maps hbdx_Maps hlex_Maps nx_Away hbdx_Away hlex_Away r hp0 h28 hq31 hq32 hq33 hq34 hq35 hq36 k n37 c37 hi46 hl47 hq49 h50 hx52 h68)), ?_⟩, ?_⟩
          · exact (z_c_impl_MapsAt_91 x nx_Maps hbdx_Maps hlex_Maps nx_Away hbdx_Away hlex_Away r hp0 h28 hq31 hq32 hq33 hq34 hq35 hq36 k n37 c37 hi46 hl47 hq49 h50 hx52 h68)
          · exact (z_c_impl_MapsAt_92 x nx_Maps hbdx_Maps hlex_Maps nx_Away hbdx_Away hlex_Away r hp0 h28 hq31 hq32 hq33 hq34 hq35 hq36 k n37 c37 hi46 hl47 hq49 h50 hx52 h68)
      · refine W.exit (xin_here ?_)
        refine W.seq ?_
        refine W.regS (SR.q' (r_mv (v := .slice _ _ _) rfl) <| SR.q' (r_as (v := .slice _ _ _) rfl) <| SR.q' (r_as (v := .bool true) rfl) <| SR.nil ?_)
        refine W.ret ?_
        refine ret2 rfl (v := .slice _ _ _) (v' := .bool _) rfl rfl ?_
        exact ⟨A37, n37, c37, eR (eT2 rfl (eDT (z_c_impl_MapsAt_94 x nx_Maps hbdx_Maps hlex_Maps nx_Away hbdx_Away hlex_Away r hp0 h28 hq31 hq32 hq33 hq34 hq35 hq36 k n37 c37 hi46 hl47 hq49 h50))), (SlO.eqv ((hO45).down (by omega)) (z_c_impl_MapsAt_93 x nx_Maps hbdx_Maps hlex_Maps nx_Away hbdx_Away hlex_Away r hp0 h28 hq31 hq32 hq33 hq34 hq35 hq36 k n37 c37 hi46 hl47 hq49 h50)), hB42⟩

theorem z_c_spec_MapsAt_36 (x : Library) (nx_Maps : Nat) (hbdx_Maps : (nx_Maps : Int) ≤ 9223372036854775807) (hlex_Maps : nx_Maps = x.Maps.length) (nx_Away : Nat) (hbdx_Away : (nx_Away : Int) ≤ 9223372036854775807) (hlex_Away : nx_Away = x.Away.length) (r : Int) (hp0 : (nx_Maps : Int) ≤ 1048576) (h35 : (¬ (LibOK x)) ∨ (¬ (1 ≤ r ∧ r ≤ 999))) : ([] : List Int) = (if LibOK x ∧ (1 ≤ r ∧ r ≤ 999) then selL (atR r) Away.Map x.Away else []) := by
  first | (rw [if_pos (by first | assumption | exact ⟨‹_›, ‹_›⟩)]; exact sel_end (by omega)) | (rw [if_neg (by first | assumption | exact not_and_of_not_or_not ‹_›)])
theorem z_c_spec_MapsAt_37 (x : Library) (nx_Maps : Nat) (hbdx_Maps : (nx_Maps : Int) ≤ 9223372036854775807) (hlex_Maps : nx_Maps = x.Maps.length) (nx_Away : Nat) (hbdx_Away : (nx_Away : Int) ≤ 9223372036854775807) (hlex_Away : nx_Away = x.Away.length) (r : Int) (hp0 : (nx_Maps : Int) ≤ 1048576) (h35 : (¬ (LibOK x)) ∨ (¬ (1 ≤ r ∧ r ≤ 999))) : ¬ (LibOK x ∧ (1 ≤ r ∧ r ≤ 999)) := by
  first | assumption | exact ⟨‹_›, ‹_›⟩ | exact not_and_of_not_or_not ‹_›
theorem z_c_spec_MapsAt_45 (x : Library) (nx_Maps : Nat) (hbdx_Maps : (nx_Maps : Int) ≤ 9223372036854775807) (hlex_Maps : nx_Maps = x.Maps.length) (nx_Away : Nat) (hbdx_Away : (nx_Away : Int) ≤ 9223372036854775807) (hlex_Away : nx_Away = x.Away.length) (r : Int) (hp0 : (nx_Maps : Int) ≤ 1048576) (h35 : ¬ ((¬ (LibOK x)) ∨ (¬ (1 ≤ r ∧ r ≤ 999)))) (hq38 : LibOK x) (hq39 : 1 ≤ r ∧ r ≤ 999) (hq40 : MapsOK x.Maps ∧ x.Maps.length ≤ 8) (hq41 : x.Away.length ≤ 8) (hq42 : MapsOK x.Maps) (hq43 : x.Maps.length ≤ 8) : 0 ≤ nx_Away := by
  omega
theorem z_c_spec_MapsAt_46 (x : Library) (nx_Maps : Nat) (hbdx_Maps : (nx_Maps : Int) ≤ 9223372036854775807) (hlex_Maps : nx_Maps = x.Maps.length) (nx_Away : Nat) (hbdx_Away : (nx_Away : Int) ≤ 9223372036854775807) (hlex_Away : nx_Away = x.Away.length) (r : Int) (hp0 : (nx_Maps : Int) ≤ 1048576) (h35 : ¬ ((¬ (LibOK x)) ∨ (¬ (1 ≤ r ∧ r ≤ 999)))) (hq38 : LibOK x) (hq39 : 1 ≤ r ∧ r ≤ 999) (hq40 : MapsOK x.Maps ∧ x.Maps.length ≤ 8) (hq41 : x.Away.length ≤ 8) (hq42 : MapsOK x.Maps) (hq43 : x.Maps.length ≤ 8) : ([] : List Int) = selL (atR r) Away.Map (x.Away.take 0) := by
  rfl
theorem z_c_spec_MapsAt_83 (x : Library) (nx_Maps : Nat) (hbdx_Maps : (nx_Maps : Int) ≤ 9223372036854775807) (hlex_Maps : nx_Maps = x.Maps.length) (nx_Away : Nat) (hbdx_Away : (nx_Away : Int) ≤ 9223372036854775807) (hlex_Away : nx_Away = x.Away.length) (r : Int) (hp0 : (nx_Maps : Int) ≤ 1048576) (h35 : ¬ ((¬ (LibOK x)) ∨ (¬ (1 ≤ r ∧ r ≤ 999)))) (hq38 : LibOK x) (hq39 : 1 ≤ r ∧ r ≤ 999) (hq40 : MapsOK x.Maps ∧ x.Maps.length ≤ 8) (hq41 : x.Away.length ≤ 8) (hq42 : MapsOK x.Maps) (hq43 : x.Maps.length ≤ 8) (k : Nat) (n44 : Nat) (c44 : Nat) (hi55 : k ≤ nx_Away) (hl58 : n44 = (selL (atR r) Away.Map (x.Away.take k)).length) (hq60 : (selL (atR r) Away.Map (x.Away.take k)).length ≤ x.Away.length) (h61 : (k : Int) < (nx_Away : Int)) (hx63 : x.Away[k]? = some (gt x.Away k)) (h64 : ((gt x.Away k).Reader) = r) : (selL (atR r) Away.Map (x.Away.take k)) ++ ([(gt x.Away k).Map] : List Int) = selL (atR r) Away.Map (x.Away.take (k + 1)) := by
  first | exact sel_yes (by omega) (decide_eq_true ‹_›) | exact sel_no (by omega) (decide_eq_false ‹_›)
theorem z_c_spec_MapsAt_84 (x : Library) (nx_Maps : Nat) (hbdx_Maps : (nx_Maps : Int) ≤ 9223372036854775807) (hlex_Maps : nx_Maps = x.Maps.length) (nx_Away : Nat) (hbdx_Away : (nx_Away : Int) ≤ 9223372036854775807) (hlex_Away : nx_Away = x.Away.length) (r : Int) (hp0 : (nx_Maps : Int) ≤ 1048576) (h35 : ¬ ((¬ (LibOK x)) ∨ (¬ (1 ≤ r ∧ r ≤ 999)))) (hq38 : LibOK x) (hq39 : 1 ≤ r ∧ r ≤ 999) (hq40 : MapsOK x.Maps ∧ x.Maps.length ≤ 8) (hq41 : x.Away.length ≤ 8) (hq42 : MapsOK x.Maps) (hq43 : x.Maps.length ≤ 8) (k : Nat) (n44 : Nat) (c44 : Nat) (hi55 : k ≤ nx_Away) (hl58 : n44 = (selL (atR r) Away.Map (x.Away.take k)).length) (hq60 : (selL (atR r) Away.Map (x.Away.take k)).length ≤ x.Away.length) (h61 : (k : Int) < (nx_Away : Int)) (hx63 : x.Away[k]? = some (gt x.Away k)) (h64 : ((gt x.Away k).Reader) = r) : k + 1 ≤ nx_Away := by
  omega
theorem z_c_spec_MapsAt_85 (x : Library) (nx_Maps : Nat) (hbdx_Maps : (nx_Maps : Int) ≤ 9223372036854775807) (hlex_Maps : nx_Maps = x.Maps.length) (nx_Away : Nat) (hbdx_Away : (nx_Away : Int) ≤ 9223372036854775807) (hlex_Away : nx_Away = x.Away.length) (r : Int) (hp0 : (nx_Maps : Int) ≤ 1048576) (h35 : ¬ ((¬ (LibOK x)) ∨ (¬ (1 ≤ r ∧ r ≤ 999)))) (hq38 : LibOK x) (hq39 : 1 ≤ r ∧ r ≤ 999) (hq40 : MapsOK x.Maps ∧ x.Maps.length ≤ 8) (hq41 : x.Away.length ≤ 8) (hq42 : MapsOK x.Maps) (hq43 : x.Maps.length ≤ 8) (k : Nat) (n44 : Nat) (c44 : Nat) (hi55 : k ≤ nx_Away) (hl58 : n44 = (selL (atR r) Away.Map (x.Away.take k)).length) (hq60 : (selL (atR r) Away.Map (x.Away.take k)).length ≤ x.Away.length) (h61 : (k : Int) < (nx_Away : Int)) (hx63 : x.Away[k]? = some (gt x.Away k)) (h64 : ((gt x.Away k).Reader) = r) : nx_Away - (k + 1) < nx_Away - k := by
  omega
theorem z_c_spec_MapsAt_86 (x : Library) (nx_Maps : Nat) (hbdx_Maps : (nx_Maps : Int) ≤ 9223372036854775807) (hlex_Maps : nx_Maps = x.Maps.length) (nx_Away : Nat) (hbdx_Away : (nx_Away : Int) ≤ 9223372036854775807) (hlex_Away : nx_Away = x.Away.length) (r : Int) (hp0 : (nx_Maps : Int) ≤ 1048576) (h35 : ¬ ((¬ (LibOK x)) ∨ (¬ (1 ≤ r ∧ r ≤ 999)))) (hq38 : LibOK x) (hq39 : 1 ≤ r ∧ r ≤ 999) (hq40 : MapsOK x.Maps ∧ x.Maps.length ≤ 8) (hq41 : x.Away.length ≤ 8) (hq42 : MapsOK x.Maps) (hq43 : x.Maps.length ≤ 8) (k : Nat) (n44 : Nat) (c44 : Nat) (hi55 : k ≤ nx_Away) (hl58 : n44 = (selL (atR r) Away.Map (x.Away.take k)).length) (hq60 : (selL (atR r) Away.Map (x.Away.take k)).length ≤ x.Away.length) (h61 : (k : Int) < (nx_Away : Int)) (hx63 : x.Away[k]? = some (gt x.Away k)) (h64 : ¬ (((gt x.Away k).Reader) = r)) : selL (atR r) Away.Map (x.Away.take k) = selL (atR r) Away.Map (x.Away.take (k + 1)) := by
  first | exact sel_yes (by omega) (decide_eq_true ‹_›) | exact sel_no (by omega) (decide_eq_false ‹_›)
theorem z_c_spec_MapsAt_87 (x : Library) (nx_Maps : Nat) (hbdx_Maps : (nx_Maps : Int) ≤ 9223372036854775807) (hlex_Maps : nx_Maps = x.Maps.length) (nx_Away : Nat) (hbdx_Away : (nx_Away : Int) ≤ 9223372036854775807) (hlex_Away : nx_Away = x.Away.length) (r : Int) (hp0 : (nx_Maps : Int) ≤ 1048576) (h35 : ¬ ((¬ (LibOK x)) ∨ (¬ (1 ≤ r ∧ r ≤ 999)))) (hq38 : LibOK x) (hq39 : 1 ≤ r ∧ r ≤ 999) (hq40 : MapsOK x.Maps ∧ x.Maps.length ≤ 8) (hq41 : x.Away.length ≤ 8) (hq42 : MapsOK x.Maps) (hq43 : x.Maps.length ≤ 8) (k : Nat) (n44 : Nat) (c44 : Nat) (hi55 : k ≤ nx_Away) (hl58 : n44 = (selL (atR r) Away.Map (x.Away.take k)).length) (hq60 : (selL (atR r) Away.Map (x.Away.take k)).length ≤ x.Away.length) (h61 : (k : Int) < (nx_Away : Int)) (hx63 : x.Away[k]? = some (gt x.Away k)) (h64 : ¬ (((gt x.Away k).Reader) = r)) : k + 1 ≤ nx_Away := by
  omega
theorem z_c_spec_MapsAt_88 (x : Library) (nx_Maps : Nat) (hbdx_Maps : (nx_Maps : Int) ≤ 9223372036854775807) (hlex_Maps : nx_Maps = x.Maps.length) (nx_Away : Nat) (hbdx_Away : (nx_Away : Int) ≤ 9223372036854775807) (hlex_Away : nx_Away = x.Away.length) (r : Int) (hp0 : (nx_Maps : Int) ≤ 1048576) (h35 : ¬ ((¬ (LibOK x)) ∨ (¬ (1 ≤ r ∧ r ≤ 999)))) (hq38 : LibOK x) (hq39 : 1 ≤ r ∧ r ≤ 999) (hq40 : MapsOK x.Maps ∧ x.Maps.length ≤ 8) (hq41 : x.Away.length ≤ 8) (hq42 : MapsOK x.Maps) (hq43 : x.Maps.length ≤ 8) (k : Nat) (n44 : Nat) (c44 : Nat) (hi55 : k ≤ nx_Away) (hl58 : n44 = (selL (atR r) Away.Map (x.Away.take k)).length) (hq60 : (selL (atR r) Away.Map (x.Away.take k)).length ≤ x.Away.length) (h61 : (k : Int) < (nx_Away : Int)) (hx63 : x.Away[k]? = some (gt x.Away k)) (h64 : ¬ (((gt x.Away k).Reader) = r)) : nx_Away - (k + 1) < nx_Away - k := by
  omega
theorem z_c_spec_MapsAt_89 (x : Library) (nx_Maps : Nat) (hbdx_Maps : (nx_Maps : Int) ≤ 9223372036854775807) (hlex_Maps : nx_Maps = x.Maps.length) (nx_Away : Nat) (hbdx_Away : (nx_Away : Int) ≤ 9223372036854775807) (hlex_Away : nx_Away = x.Away.length) (r : Int) (hp0 : (nx_Maps : Int) ≤ 1048576) (h35 : ¬ ((¬ (LibOK x)) ∨ (¬ (1 ≤ r ∧ r ≤ 999)))) (hq38 : LibOK x) (hq39 : 1 ≤ r ∧ r ≤ 999) (hq40 : MapsOK x.Maps ∧ x.Maps.length ≤ 8) (hq41 : x.Away.length ≤ 8) (hq42 : MapsOK x.Maps) (hq43 : x.Maps.length ≤ 8) (k : Nat) (n44 : Nat) (c44 : Nat) (hi55 : k ≤ nx_Away) (hl58 : n44 = (selL (atR r) Away.Map (x.Away.take k)).length) (hq60 : (selL (atR r) Away.Map (x.Away.take k)).length ≤ x.Away.length) (h61 : ¬ ((k : Int) < (nx_Away : Int))) : selL (atR r) Away.Map (x.Away.take k) = (if LibOK x ∧ (1 ≤ r ∧ r ≤ 999) then selL (atR r) Away.Map x.Away else []) := by
  first | (rw [if_pos (by first | assumption | exact ⟨‹_›, ‹_›⟩)]; exact sel_end (by omega)) | (rw [if_neg (by first | assumption | exact not_and_of_not_or_not ‹_›)])
theorem z_c_spec_MapsAt_90 (x : Library) (nx_Maps : Nat) (hbdx_Maps : (nx_Maps : Int) ≤ 9223372036854775807) (hlex_Maps : nx_Maps = x.Maps.length) (nx_Away : Nat) (hbdx_Away : (nx_Away : Int) ≤ 9223372036854775807) (hlex_Away : nx_Away = x.Away.length) (r : Int) (hp0 : (nx_Maps : Int) ≤ 1048576) (h35 : ¬ ((¬ (LibOK x)) ∨ (¬ (1 ≤ r ∧ r ≤ 999)))) (hq38 : LibOK x) (hq39 : 1 ≤ r ∧ r ≤ 999) (hq40 : MapsOK x.Maps ∧ x.Maps.length ≤ 8) (hq41 : x.Away.length ≤ 8) (hq42 : MapsOK x.Maps) (hq43 : x.Maps.length ≤ 8) (k : Nat) (n44 : Nat) (c44 : Nat) (hi55 : k ≤ nx_Away) (hl58 : n44 = (selL (atR r) Away.Map (x.Away.take k)).length) (hq60 : (selL (atR r) Away.Map (x.Away.take k)).length ≤ x.Away.length) (h61 : ¬ ((k : Int) < (nx_Away : Int))) : LibOK x ∧ (1 ≤ r ∧ r ≤ 999) := by
  first | assumption | exact ⟨‹_›, ‹_›⟩ | exact not_and_of_not_or_not ‹_›
theorem c_spec_MapsAt (w : World) (x : Library) {Ax_Maps : Option Addr} {nx_Maps cx_Maps Bx_Maps : Nat} (hx_Maps : SlR w Bx_Maps encLMap 3 Ax_Maps nx_Maps cx_Maps x.Maps) {Ax_Away : Option Addr} {nx_Away cx_Away Bx_Away : Nat} (hx_Away : SlR w Bx_Away encAway 2 Ax_Away nx_Away cx_Away x.Away) (r : Int) (hp0 : (nx_Maps : Int) ≤ 1048576) : Calls Try.prog 21 #[.agg (List.toArray [.slice Ax_Maps nx_Maps cx_Maps, .slice Ax_Away nx_Away cx_Away, .int .i64 x.Bought, .int .i64 x.Dropped, .int .i64 x.Mended]), .int .i64 r] w fun e w' => ∃ (A1' : Option Addr) (n1' c1' : Nat), e = .returned (.tuple (List.toArray [.slice A1' n1' c1', .bool (decide (LibOK x ∧ (1 ≤ r ∧ r ≤ 999)))])) ∧ SlO w' w.heap.size encI 1 3 A1' n1' c1' (if LibOK x ∧ (1 ≤ r ∧ r ≤ 999) then selL (atR r) Away.Map x.Away else []) ∧ Lo w w' := by
  refine calls_W 43 Try.func21 rfl rfl rfl ?_
  have hbdx_Maps := hx_Maps.bound
  have hlex_Maps := hx_Maps.len
  have hBbx_Maps := hx_Maps.bd
  have hbdx_Away := hx_Away.bound
  have hlex_Away := hx_Away.len
  have hBbx_Away := hx_Away.bd
  refine W.seq ?_
  refine W.regS (SR.box (v := .agg (List.toArray _)) (l := [.slice Ax_Maps nx_Maps cx_Maps, .slice Ax_Away nx_Away cx_Away, .int .i64 x.Bought, .int .i64 x.Dropped, .int .i64 x.Mended]) rfl rfl ?_)
  intro g1 w2 hg3 hk4 hs5 hb6
  have hz7 := hk4.size
  have hB8 := (Lo.refl w).lo hk4
  refine SR.q' (r_as (v := .slice none 0 0) rfl) <| SR.q' (r_as (v := .bool false) rfl) <| SR.nil ?_
  refine W.seq ?_
  refine W.regS (SR.lit (vs := []) (L := ([] : List Int)) (enc := encI) tel37 (fun _ => rfl) rfl rfl rfl (by decide) ?_)
  intro g9 w10 hg11 hk12 hO13
  have hz14 := hk12.size
  have hB15 := hB8.lo hk12
  refine SR.q' (r_as (v := .slice _ _ _) rfl) <| SR.nil ?_
  refine W.seq ?_
  refine W.seq ?_
  refine W.regJS (fun f' w' => At f' [(1, .int .i64 r), (2, .pointer (some ((⟨g1, 0, none⟩ : Addr)))), (4, .slice none 0 0), (5, .bool false), (6, .slice (some (⟨g9, 0, none⟩ : Addr)) 0 0), (16, .bool (decide ((¬ (LibOK x)) ∨ (¬ (1 ≤ r ∧ r ≤ 999)))))] ∧ Lo w10 w') ?_ ?_
  · refine SR.q' (r_lda (l := [.slice Ax_Maps nx_Maps cx_Maps, .slice Ax_Away nx_Away cx_Away, .int .i64 x.Bought, .int .i64 x.Dropped, .int .i64 x.Mended]) agg31 rfl (fun _ _ hu => ((hb6).lo hk12).cell hu) rfl) <| SR.call ent48 (c_spec_l32Good w10 x ((((hx_Maps).lo hk4).lo hk12)) ((((hx_Away).lo hk4).lo hk12))) rfl ?_
    rintro e w16 ⟨rfl, hk17⟩
    refine ⟨_, rfl, ?_⟩
    have hz18 := hk17.size
    have hB19 := hB15.lo hk17
    refine SR.q' (r_not rfl) <| SR.q' (r_mv (v := .bool _) rfl) <| SR.splitN (fun h20 => ?_) (fun h20 => ?_)
    · refine SR.s' rfl <| SR.s' rfl <| SR.s' rfl <| SR.q' (r_pick true rfl (v := .bool true) rfl) <| SR.nil ?_
      exact ⟨_, rfl, ⟨⟨rfl, rfl, rfl, rfl, rfl, (eDT ((jmf h20).1 trivial)), trivial⟩, (hk17)⟩⟩
    · have hq21 := And.left h20
      have hq22 := lib_len h20
      have hq23 := And.left hq21
      have hq24 := And.right hq21
      refine SR.g' rfl (r_mv (v := .int .i64 _) rfl) <| SR.gcall rfl ent61 (c_spec_l1In w16 r 1 999) rfl ?_
      rintro e w25 ⟨rfl, hk26⟩
      refine ⟨_, rfl, ?_⟩
      have hz27 := hk26.size
      have hB28 := hB19.lo hk26
      refine SR.g' rfl (r_not rfl) <| SR.q' (r_pick false rfl (v := .bool _) rfl) <| SR.nil ?_
      exact ⟨_, rfl, ⟨⟨rfl, rfl, rfl, rfl, rfl, (eND (jmt h20)), trivial⟩, ((hk17).trans hk26)⟩⟩
  rintro f29 w30 ⟨hat31, hk32⟩
  rw [← sets_of_at hat31]
  have hz33 := hk32.size
  have hB34 := hB15.lo hk32
  refine W.cond_d rfl (fun h35 => ?_) (fun h35 => ?_)
  · refine W.seq ?_
    refine W.regS (SR.q' (r_mv (v := .slice _ _ _) rfl) <| SR.q' (r_as (v := .slice _ _ _) rfl) <| SR.q' (r_as (v := .bool false) rfl) <| SR.nil ?_)
    refine W.ret ?_
    refine ret2 rfl (v := .slice _ _ _) (v' := .bool _) rfl rfl ?_
    exact ⟨(some (⟨g9, 0, none⟩ : Addr)), 0, 0, eR (eT2 rfl (eDF (z_c_spec_MapsAt_37 x nx_Maps hbdx_Maps hlex_Maps nx_Away hbdx_Away hlex_Away r hp0 h35))), (SlO.eqv (((hO13).lo hk32).down (by omega)) (z_c_spec_MapsAt_36 x nx_Maps hbdx_Maps hlex_Maps nx_Away hbdx_Away hlex_Away r hp0 h35)), hB34⟩
  · have hq38 : LibOK x := (Classical.not_not.1 (not_or.1 h35).1)
    have hq39 : 1 ≤ r ∧ r ≤ 999 := (Classical.not_not.1 (not_or.1 h35).2)
    have hq40 := And.left hq38
    have hq41 := lib_len hq38
    have hq42 := And.left hq40
    have hq43 := And.right hq40
    refine W.skip ?_
    refine W.seq ?_
    refine W.seq ?_
    refine W.regS (SR.q' (r_as (v := .int .i64 0) rfl) <| SR.nil ?_)
    refine W.block ?_
    refine W.loop (σ := Nat × (Option Addr) × Nat × Nat) (fun g => [(1, .int .i64 r), (2, .pointer (some ((⟨g1, 0, none⟩ : Addr)))), (4, .slice none 0 0), (5, .bool false), (6, .slice g.2.1 g.2.2.1 g.2.2.2), (7, .int .i64 (g.1 : Int))]) (fun g w' => (Lo w w') ∧ (Blk w' g1 31 [.slice Ax_Maps nx_Maps cx_Maps, .slice Ax_Away nx_Away cx_Away, .int .i64 x.Bought, .int .i64 x.Dropped, .int .i64 x.Mended]) ∧ (SlR w' Bx_Maps encLMap 3 Ax_Maps nx_Maps cx_Maps x.Maps) ∧ (SlR w' Bx_Away encAway 2 Ax_Away nx_Away cx_Away x.Away) ∧ (SlO w' w.heap.size encI 1 3 g.2.1 g.2.2.1 g.2.2.2 (selL (atR r) Away.Map (x.Away.take g.1))) ∧ (¬ g.2.1 = some ⟨g1, 0, none⟩) ∧ (g.1 ≤ nx_Away)) (fun g => nx_Away - g.1) (0, (some (⟨g9, 0, none⟩ : Addr)), 0, 0) ?_ ?_ ?_
    · exact ⟨rfl, rfl, rfl, rfl, rfl, rfl, trivial⟩
    · show (Lo w w30) ∧ (Blk w30 g1 31 [.slice Ax_Maps nx_Maps cx_Maps, .slice Ax_Away nx_Away cx_Away, .int .i64 x.Bought, .int .i64 x.Dropped, .int .i64 x.Mended]) ∧ (SlR w30 Bx_Maps encLMap 3 Ax_Maps nx_Maps cx_Maps x.Maps) ∧ (SlR w30 Bx_Away encAway 2 Ax_Away nx_Away cx_Away x.Away) ∧ (SlO w30 w.heap.size encI 1 3 (some (⟨g9, 0, none⟩ : Addr)) 0 0 (selL (atR r) Away.Map (x.Away.take 0))) ∧ (¬ (some (⟨g9, 0, none⟩ : Addr)) = some ⟨g1, 0, none⟩) ∧ (0 ≤ nx_Away)
      exact ⟨hB34, ((hb6).lo hk12).lo hk32, (((hx_Maps).lo hk4).lo hk12).lo hk32, (((hx_Away).lo hk4).lo hk12).lo hk32, (SlO.eqv (((hO13).lo hk32).down (by omega)) (z_c_spec_MapsAt_46 x nx_Maps hbdx_Maps hlex_Maps nx_Away hbdx_Away hlex_Away r hp0 h35 hq38 hq39 hq40 hq41 hq42 hq43)), (fun e' => by have := ((hO13).lo hk32).base_le e'; omega), (z_c_spec_MapsAt_45 x nx_Maps hbdx_Maps hlex_Maps nx_Away hbdx_Away hlex_Away r hp0 h35 hq38 hq39 hq40 hq41 hq42 hq43)⟩
    · rintro ⟨k, A44, n44, c44⟩ f47 w48 hP50
      obtain ⟨hB49, hm51, hm52, hm53, hO54, hd56, hi55⟩ : (Lo w w48) ∧ (Blk w48 g1 31 [.slice Ax_Maps nx_Maps cx_Maps, .slice Ax_Away nx_Away cx_Away, .int .i64 x.Bought, .int .i64 x.Dropped, .int .i64 x.Mended]) ∧ (SlR w48 Bx_Maps encLMap 3 Ax_Maps nx_Maps cx_Maps x.Maps) ∧ (SlR w48 Bx_Away encAway 2 Ax_Away nx_Away cx_Away x.Away) ∧ (SlO w48 w.heap.size encI 1 3 A44 n44 c44 (selL (atR r) Away.Map (x.Away.take k))) ∧ (¬ A44 = some ⟨g1, 0, none⟩) ∧ (k ≤ nx_Away) := hP50
      refine (?_ : W _ _ _ _ _ (act _ (sets f47 [(1, .int .i64 r), (2, .pointer (some ((⟨g1, 0, none⟩ : Addr)))), (4, .slice none 0 0), (5, .bool false), (6, .slice A44 n44 c44), (7, .int .i64 (k : Int))])) _)
      have hzw48 := hB49.size
      have hl57 := hm51.lt
      have hl58 := hO54.len
      have hl59 := hO54.rd.bound
      have hq60 := sel_lenT x.Away k (atR r) Away.Map
      refine W.seq ?_
      refine W.seq ?_
      refine W.regS (SR.q' (r_mv (v := .int .i64 _) rfl) <| SR.q' (r_fa fa31_1 rfl) <| SR.q' (r_ld (v := .slice Ax_Away nx_Away cx_Away) sca29 rfl ((hm51).cell rfl)) <| SR.q' (r_len und29 rfl) <| SR.q' (r_lt rfl rfl) <| SR.nil ?_)
      refine W.cond_d rfl (fun h61 => ?_) (fun h61 => ?_)
      · refine W.skip ?_
        refine W.seq ?_
        refine W.block ?_
        refine W.seq ?_
        refine W.regS (SR.q' (r_fa fa31_1 rfl) <| SR.q' (r_ld (v := .slice Ax_Away nx_Away cx_Away) sca29 rfl ((hm51).cell rfl)) <| SR.q' (r_mv (v := .int .i64 _) rfl) <| ?_)
        have hx63 := (hm53).elem (i := k) (by omega)
        refine SR.q' (r_ixR tsl29 (hm53) rfl rfl (by omega)) <| SR.q' (r_fa fa77_1 rfl) <| SR.q' (r_ld (v := .int .i64 ((gt x.Away k).Reader)) sca3 rfl ((hm53).cell hx63 rfl)) <| SR.q' (r_mv (v := .int .i64 _) rfl) <| SR.q' (r_eq rfl rfl) <| SR.nil ?_
        refine W.cond_d rfl (fun h64 => ?_) (fun h64 => ?_)
        · refine W.regS (SR.q' (r_mv (v := .slice _ _ _) rfl) <| SR.q' (r_fa fa31_1 rfl) <| SR.q' (r_ld (v := .slice Ax_Away nx_Away cx_Away) sca29 rfl ((hm51).cell rfl)) <| SR.q' (r_mv (v := .int .i64 _) rfl) <| SR.q' (r_ixR tsl29 (hm53) rfl rfl (by omega)) <| SR.q' (r_fa fa77_0 rfl) <| SR.q' (r_ld (v := .int .i64 ((gt x.Away k).Map)) sca3 rfl ((hm53).cell hx63 rfl)) <| SR.lit (vs := [.int .i64 ((gt x.Away k).Map)]) (L := ([(gt x.Away k).Map] : List Int)) (enc := encI) tel37 (fun _ => rfl) rfl rfl rfl (by decide) ?_)
          intro g65 w66 hg67 hk68 hO69
          have hz70 := hk68.size
          have hB71 := hB49.lo hk68
          have hd72 : ¬ A44 = some ⟨g65, 0, none⟩ := fun e' => by have := (hO54).base_le e'; omega
          refine SR.app tel37 rfl rfl ((hO54).lo hk68) ((hO69).rd) (fun _ => rfl) (by omega) (by omega) ?_
          intro A73 c74 w75 hk76 hO77 hN78
          have hz79 := hk76.size
          have hB80 := hB71.step hk76 (fun i_ hi_ e' => by have := (((hO54).lo hk68)).base_le e'; first | omega | (exfalso; omega) | exact e' | exact .inl e' | exact .inr e')
          have hd81 : ¬ A73 = some ⟨g1, 0, none⟩ := fun e' => (hN78 g1 e').elim (fun h => hd56 (h.trans e')) (fun h => by have := ((hm51).lo hk68).lt; omega)
          refine SR.q' (r_as (v := .slice _ _ _) rfl) <| SR.nil ?_
          refine W.regS (SR.q' (r_mv (v := .int .i64 _) rfl) <| SR.q' (r_add rfl rfl (by omega)) <| SR.q' (r_as (v := .int .i64 _) rfl) <| SR.nil ?_)
          refine ⟨(k + 1, A73, n44 + 1, c74), _, rfl, ⟨rfl, rfl, rfl, rfl, rfl, rfl, trivial⟩, (show (Lo w w75) ∧ (Blk w75 g1 31 [.slice Ax_Maps nx_Maps cx_Maps, .slice Ax_Away nx_Away cx_Away, .int .i64 x.Bought, .int .i64 x.Dropped, .int .i64 x.Mended]) ∧ (SlR w75 Bx_Maps encLMap 3 Ax_Maps nx_Maps cx_Maps x.Maps) ∧ (SlR w75 Bx_Away encAway 2 Ax_Away nx_Away cx_Away x.Away) ∧ (SlO w75 w.heap.size encI 1 3 A73 (n44 + 1) c74 (selL (atR r) Away.Map (x.Away.take (k + 1)))) ∧ (¬ A73 = some ⟨g1, 0, none⟩) ∧ (k + 1 ≤ nx_Away) from ⟨hB80, ((hm51).lo hk68).kp hk76 (fun e' => hd56 e'), ((hm52).lo hk68).kp hk76 (fun b_ hb e' => by have := (((hO54).lo hk68)).base_le e'; omega), ((hm53).lo hk68).kp hk76 (fun b_ hb e' => by have := (((hO54).lo hk68)).base_le e'; omega), (SlO.eqv (hO77) (z_c_spec_MapsAt_83 x nx_Maps hbdx_Maps hlex_Maps nx_Away hbdx_Away hlex_Away r hp0 h35 hq38 hq39 hq40 hq41 hq42 hq43 k n44 c44 hi55 hl58 hq60 h61 hx63 h64)), hd81, ?_⟩), ?_⟩
          · exact (z_c_spec_MapsAt_84 x nx_Maps hbdx_Maps hlex_Maps nx_Away hbdx_Away hlex_Away r hp0 h35 hq38 hq39 hq40 hq41 hq42 hq43 k n44 c44 hi55 hl58 hq60 h61 hx63 h64)
          · exact (z_c_spec_MapsAt_85 x nx_Maps hbdx_Maps hlex_Maps nx_Away hbdx_Away hlex_Away r hp0 h35 hq38 hq39 hq40 hq41 hq42 hq43 k n44 c44 hi55 hl58 hq60 h61 hx63 h64)
        · refine W.skip ?_
          refine W.regS (SR.q' (r_mv (v := .int .i64 _) rfl) <| SR.q' (r_add rfl rfl (by omega)) <| SR.q' (r_as (v := .int .i64 _) rfl) <| SR.nil ?_)
          refine ⟨(k + 1, A44, n44, c44), _, rfl, ⟨rfl, rfl, rfl, rfl, rfl, rfl, trivial⟩, (show (Lo w w48) ∧ (Blk w48 g1 31 [.slice Ax_Maps nx_Maps cx_Maps, .slice Ax_Away nx_Away cx_Away, .int .i64 x.Bought, .int .i64 x.Dropped, .int .i64 x.Mended]) ∧ (SlR w48 Bx_Maps encLMap 3 Ax_Maps nx_Maps cx_Maps x.Maps) ∧ (SlR w48 Bx_Away encAway 2 Ax_Away nx_Away cx_Away x.Away) ∧ (SlO w48 w.heap.size encI 1 3 A44 n44 c44 (selL (atR r) Away.Map (x.Away.take (k + 1)))) ∧ (¬ A44 = some ⟨g1, 0, none⟩) ∧ (k + 1 ≤ nx_Away) from ⟨hB49, hm51, hm52, hm53, (SlO.eqv (hO54) (z_c_spec_MapsAt_86 x nx_Maps hbdx_Maps hlex_Maps nx_Away hbdx_Away hlex_Away r hp0 h35 hq38 hq39 hq40 hq41 hq42 hq43 k n44 c44 hi55 hl58 hq60 h61 hx63 h64)), hd56, ?_⟩), ?_⟩
          · exact (z_c_spec_MapsAt_87 x nx_Maps hbdx_Maps hlex_Maps nx_Away hbdx_Away hlex_Away r hp0 h35 hq38 hq39 hq40 hq41 hq42 hq43 k n44 c44 hi55 hl58 hq60 h61 hx63 h64)
          · exact (z_c_spec_MapsAt_88 x nx_Maps hbdx_Maps hlex_Maps nx_Away hbdx_Away hlex_Away r hp0 h35 hq38 hq39 hq40 hq41 hq42 hq43 k n44 c44 hi55 hl58 hq60 h61 hx63 h64)
      · refine W.exit (xin_here ?_)
        refine W.seq ?_
        refine W.regS (SR.q' (r_mv (v := .slice _ _ _) rfl) <| SR.q' (r_as (v := .slice _ _ _) rfl) <| SR.q' (r_as (v := .bool true) rfl) <| SR.nil ?_)
        refine W.ret ?_
        refine ret2 rfl (v := .slice _ _ _) (v' := .bool _) rfl rfl ?_
        exact ⟨A44, n44, c44, eR (eT2 rfl (eDT (z_c_spec_MapsAt_90 x nx_Maps hbdx_Maps hlex_Maps nx_Away hbdx_Away hlex_Away r hp0 h35 hq38 hq39 hq40 hq41 hq42 hq43 k n44 c44 hi55 hl58 hq60 h61))), (SlO.eqv ((hO54).down (by omega)) (z_c_spec_MapsAt_89 x nx_Maps hbdx_Maps hlex_Maps nx_Away hbdx_Away hlex_Away r hp0 h35 hq38 hq39 hq40 hq41 hq42 hq43 k n44 c44 hi55 hl58 hq60 h61)), hB49⟩

theorem z_c_impl_MayLend_14 (x : Library) (nx_Maps : Nat) (hbdx_Maps : (nx_Maps : Int) ≤ 9223372036854775807) (hlex_Maps : nx_Maps = x.Maps.length) (nx_Away : Nat) (hbdx_Away : (nx_Away : Int) ≤ 9223372036854775807) (hlex_Away : nx_Away = x.Away.length) (hp0 : (nx_Maps : Int) ≤ 1048576) (h13 : ¬ (LibOK x)) : ([] : List Int) = (if LibOK x then selL mayM LMap.Id x.Maps else []) := by
  first | (rw [if_pos (by first | assumption | exact ⟨‹_›, ‹_›⟩)]; exact sel_end (by omega)) | (rw [if_neg (by first | assumption | exact not_and_of_not_or_not ‹_›)])
theorem z_c_impl_MayLend_15 (x : Library) (nx_Maps : Nat) (hbdx_Maps : (nx_Maps : Int) ≤ 9223372036854775807) (hlex_Maps : nx_Maps = x.Maps.length) (nx_Away : Nat) (hbdx_Away : (nx_Away : Int) ≤ 9223372036854775807) (hlex_Away : nx_Away = x.Away.length) (hp0 : (nx_Maps : Int) ≤ 1048576) (h13 : ¬ (LibOK x)) : ¬ (LibOK x) := by
  first | assumption | exact ⟨‹_›, ‹_›⟩ | exact not_and_of_not_or_not ‹_›
theorem z_c_impl_MayLend_21 (x : Library) (nx_Maps : Nat) (hbdx_Maps : (nx_Maps : Int) ≤ 9223372036854775807) (hlex_Maps : nx_Maps = x.Maps.length) (nx_Away : Nat) (hbdx_Away : (nx_Away : Int) ≤ 9223372036854775807) (hlex_Away : nx_Away = x.Away.length) (hp0 : (nx_Maps : Int) ≤ 1048576) (h13 : LibOK x) (hq16 : MapsOK x.Maps ∧ x.Maps.length ≤ 8) (hq17 : x.Away.length ≤ 8) (hq18 : MapsOK x.Maps) (hq19 : x.Maps.length ≤ 8) : 0 ≤ nx_Maps := by
  omega
theorem z_c_impl_MayLend_22 (x : Library) (nx_Maps : Nat) (hbdx_Maps : (nx_Maps : Int) ≤ 9223372036854775807) (hlex_Maps : nx_Maps = x.Maps.length) (nx_Away : Nat) (hbdx_Away : (nx_Away : Int) ≤ 9223372036854775807) (hlex_Away : nx_Away = x.Away.length) (hp0 : (nx_Maps : Int) ≤ 1048576) (h13 : LibOK x) (hq16 : MapsOK x.Maps ∧ x.Maps.length ≤ 8) (hq17 : x.Away.length ≤ 8) (hq18 : MapsOK x.Maps) (hq19 : x.Maps.length ≤ 8) : ([] : List Int) = selL mayM LMap.Id (x.Maps.take 0) := by
  rfl
theorem z_c_impl_MayLend_70 (x : Library) (nx_Maps : Nat) (hbdx_Maps : (nx_Maps : Int) ≤ 9223372036854775807) (hlex_Maps : nx_Maps = x.Maps.length) (nx_Away : Nat) (hbdx_Away : (nx_Away : Int) ≤ 9223372036854775807) (hlex_Away : nx_Away = x.Away.length) (hp0 : (nx_Maps : Int) ≤ 1048576) (h13 : LibOK x) (hq16 : MapsOK x.Maps ∧ x.Maps.length ≤ 8) (hq17 : x.Away.length ≤ 8) (hq18 : MapsOK x.Maps) (hq19 : x.Maps.length ≤ 8) (k : Nat) (n20 : Nat) (c20 : Nat) (hi29 : k ≤ nx_Maps) (hl30 : n20 = (selL mayM LMap.Id (x.Maps.take k)).length) (hq32 : (selL mayM LMap.Id (x.Maps.take k)).length ≤ x.Maps.length) (h33 : (k : Int) < (nx_Maps : Int)) (hx35 : x.Maps[k]? = some (gt x.Maps k)) (h51 : ((gt x.Maps k).Torn) < ((gt x.Maps k).Copies)) : (selL mayM LMap.Id (x.Maps.take k)) ++ ([(gt x.Maps k).Id] : List Int) = selL mayM LMap.Id (x.Maps.take (k + 1)) := by
  first | exact sel_yes (by omega) (decide_eq_true ‹_›) | exact sel_no (by omega) (decide_eq_false ‹_›)
theorem z_c_impl_MayLend_71 (x : Library) (nx_Maps : Nat) (hbdx_Maps : (nx_Maps : Int) ≤ 9223372036854775807) (hlex_Maps : nx_Maps = x.Maps.length) (nx_Away : Nat) (hbdx_Away : (nx_Away : Int) ≤ 9223372036854775807) (hlex_Away : nx_Away = x.Away.length) (hp0 : (nx_Maps : Int) ≤ 1048576) (h13 : LibOK x) (hq16 : MapsOK x.Maps ∧ x.Maps.length ≤ 8) (hq17 : x.Away.length ≤ 8) (hq18 : MapsOK x.Maps) (hq19 : x.Maps.length ≤ 8) (k : Nat) (n20 : Nat) (c20 : Nat) (hi29 : k ≤ nx_Maps) (hl30 : n20 = (selL mayM LMap.Id (x.Maps.take k)).length) (hq32 : (selL mayM LMap.Id (x.Maps.take k)).length ≤ x.Maps.length) (h33 : (k : Int) < (nx_Maps : Int)) (hx35 : x.Maps[k]? = some (gt x.Maps k)) (h51 : ((gt x.Maps k).Torn) < ((gt x.Maps k).Copies)) : k + 1 ≤ nx_Maps := by
  omega
theorem z_c_impl_MayLend_72 (x : Library) (nx_Maps : Nat) (hbdx_Maps : (nx_Maps : Int) ≤ 9223372036854775807) (hlex_Maps : nx_Maps = x.Maps.length) (nx_Away : Nat) (hbdx_Away : (nx_Away : Int) ≤ 9223372036854775807) (hlex_Away : nx_Away = x.Away.length) (hp0 : (nx_Maps : Int) ≤ 1048576) (h13 : LibOK x) (hq16 : MapsOK x.Maps ∧ x.Maps.length ≤ 8) (hq17 : x.Away.length ≤ 8) (hq18 : MapsOK x.Maps) (hq19 : x.Maps.length ≤ 8) (k : Nat) (n20 : Nat) (c20 : Nat) (hi29 : k ≤ nx_Maps) (hl30 : n20 = (selL mayM LMap.Id (x.Maps.take k)).length) (hq32 : (selL mayM LMap.Id (x.Maps.take k)).length ≤ x.Maps.length) (h33 : (k : Int) < (nx_Maps : Int)) (hx35 : x.Maps[k]? = some (gt x.Maps k)) (h51 : ((gt x.Maps k).Torn) < ((gt x.Maps k).Copies)) : nx_Maps - (k + 1) < nx_Maps - k := by
  omega
theorem z_c_impl_MayLend_73 (x : Library) (nx_Maps : Nat) (hbdx_Maps : (nx_Maps : Int) ≤ 9223372036854775807) (hlex_Maps : nx_Maps = x.Maps.length) (nx_Away : Nat) (hbdx_Away : (nx_Away : Int) ≤ 9223372036854775807) (hlex_Away : nx_Away = x.Away.length) (hp0 : (nx_Maps : Int) ≤ 1048576) (h13 : LibOK x) (hq16 : MapsOK x.Maps ∧ x.Maps.length ≤ 8) (hq17 : x.Away.length ≤ 8) (hq18 : MapsOK x.Maps) (hq19 : x.Maps.length ≤ 8) (k : Nat) (n20 : Nat) (c20 : Nat) (hi29 : k ≤ nx_Maps) (hl30 : n20 = (selL mayM LMap.Id (x.Maps.take k)).length) (hq32 : (selL mayM LMap.Id (x.Maps.take k)).length ≤ x.Maps.length) (h33 : (k : Int) < (nx_Maps : Int)) (hx35 : x.Maps[k]? = some (gt x.Maps k)) (h51 : ¬ (((gt x.Maps k).Torn) < ((gt x.Maps k).Copies))) : selL mayM LMap.Id (x.Maps.take k) = selL mayM LMap.Id (x.Maps.take (k + 1)) := by
  first | exact sel_yes (by omega) (decide_eq_true ‹_›) | exact sel_no (by omega) (decide_eq_false ‹_›)
theorem z_c_impl_MayLend_74 (x : Library) (nx_Maps : Nat) (hbdx_Maps : (nx_Maps : Int) ≤ 9223372036854775807) (hlex_Maps : nx_Maps = x.Maps.length) (nx_Away : Nat) (hbdx_Away : (nx_Away : Int) ≤ 9223372036854775807) (hlex_Away : nx_Away = x.Away.length) (hp0 : (nx_Maps : Int) ≤ 1048576) (h13 : LibOK x) (hq16 : MapsOK x.Maps ∧ x.Maps.length ≤ 8) (hq17 : x.Away.length ≤ 8) (hq18 : MapsOK x.Maps) (hq19 : x.Maps.length ≤ 8) (k : Nat) (n20 : Nat) (c20 : Nat) (hi29 : k ≤ nx_Maps) (hl30 : n20 = (selL mayM LMap.Id (x.Maps.take k)).length) (hq32 : (selL mayM LMap.Id (x.Maps.take k)).length ≤ x.Maps.length) (h33 : (k : Int) < (nx_Maps : Int)) (hx35 : x.Maps[k]? = some (gt x.Maps k)) (h51 : ¬ (((gt x.Maps k).Torn) < ((gt x.Maps k).Copies))) : k + 1 ≤ nx_Maps := by
  omega
theorem z_c_impl_MayLend_75 (x : Library) (nx_Maps : Nat) (hbdx_Maps : (nx_Maps : Int) ≤ 9223372036854775807) (hlex_Maps : nx_Maps = x.Maps.length) (nx_Away : Nat) (hbdx_Away : (nx_Away : Int) ≤ 9223372036854775807) (hlex_Away : nx_Away = x.Away.length) (hp0 : (nx_Maps : Int) ≤ 1048576) (h13 : LibOK x) (hq16 : MapsOK x.Maps ∧ x.Maps.length ≤ 8) (hq17 : x.Away.length ≤ 8) (hq18 : MapsOK x.Maps) (hq19 : x.Maps.length ≤ 8) (k : Nat) (n20 : Nat) (c20 : Nat) (hi29 : k ≤ nx_Maps) (hl30 : n20 = (selL mayM LMap.Id (x.Maps.take k)).length) (hq32 : (selL mayM LMap.Id (x.Maps.take k)).length ≤ x.Maps.length) (h33 : (k : Int) < (nx_Maps : Int)) (hx35 : x.Maps[k]? = some (gt x.Maps k)) (h51 : ¬ (((gt x.Maps k).Torn) < ((gt x.Maps k).Copies))) : nx_Maps - (k + 1) < nx_Maps - k := by
  omega
theorem z_c_impl_MayLend_76 (x : Library) (nx_Maps : Nat) (hbdx_Maps : (nx_Maps : Int) ≤ 9223372036854775807) (hlex_Maps : nx_Maps = x.Maps.length) (nx_Away : Nat) (hbdx_Away : (nx_Away : Int) ≤ 9223372036854775807) (hlex_Away : nx_Away = x.Away.length) (hp0 : (nx_Maps : Int) ≤ 1048576) (h13 : LibOK x) (hq16 : MapsOK x.Maps ∧ x.Maps.length ≤ 8) (hq17 : x.Away.length ≤ 8) (hq18 : MapsOK x.Maps) (hq19 : x.Maps.length ≤ 8) (k : Nat) (n20 : Nat) (c20 : Nat) (hi29 : k ≤ nx_Maps) (hl30 : n20 = (selL mayM LMap.Id (x.Maps.take k)).length) (hq32 : (selL mayM LMap.Id (x.Maps.take k)).length ≤ x.Maps.length) (h33 : ¬ ((k : Int) < (nx_Maps : Int))) : selL mayM LMap.Id (x.Maps.take k) = (if LibOK x then selL mayM LMap.Id x.Maps else []) := by
  first | (rw [if_pos (by first | assumption | exact ⟨‹_›, ‹_›⟩)]; exact sel_end (by omega)) | (rw [if_neg (by first | assumption | exact not_and_of_not_or_not ‹_›)])
theorem z_c_impl_MayLend_77 (x : Library) (nx_Maps : Nat) (hbdx_Maps : (nx_Maps : Int) ≤ 9223372036854775807) (hlex_Maps : nx_Maps = x.Maps.length) (nx_Away : Nat) (hbdx_Away : (nx_Away : Int) ≤ 9223372036854775807) (hlex_Away : nx_Away = x.Away.length) (hp0 : (nx_Maps : Int) ≤ 1048576) (h13 : LibOK x) (hq16 : MapsOK x.Maps ∧ x.Maps.length ≤ 8) (hq17 : x.Away.length ≤ 8) (hq18 : MapsOK x.Maps) (hq19 : x.Maps.length ≤ 8) (k : Nat) (n20 : Nat) (c20 : Nat) (hi29 : k ≤ nx_Maps) (hl30 : n20 = (selL mayM LMap.Id (x.Maps.take k)).length) (hq32 : (selL mayM LMap.Id (x.Maps.take k)).length ≤ x.Maps.length) (h33 : ¬ ((k : Int) < (nx_Maps : Int))) : LibOK x := by
  first | assumption | exact ⟨‹_›, ‹_›⟩ | exact not_and_of_not_or_not ‹_›
theorem c_impl_MayLend (w : World) (x : Library) {Ax_Maps : Option Addr} {nx_Maps cx_Maps Bx_Maps : Nat} (hx_Maps : SlR w Bx_Maps encLMap 3 Ax_Maps nx_Maps cx_Maps x.Maps) {Ax_Away : Option Addr} {nx_Away cx_Away Bx_Away : Nat} (hx_Away : SlR w Bx_Away encAway 2 Ax_Away nx_Away cx_Away x.Away) (hp0 : (nx_Maps : Int) ≤ 1048576) : Calls Try.prog 28 #[.agg (List.toArray [.slice Ax_Maps nx_Maps cx_Maps, .slice Ax_Away nx_Away cx_Away, .int .i64 x.Bought, .int .i64 x.Dropped, .int .i64 x.Mended])] w fun e w' => ∃ (A1' : Option Addr) (n1' c1' : Nat), e = .returned (.tuple (List.toArray [.slice A1' n1' c1', .bool (decide (LibOK x))])) ∧ SlO w' w.heap.size encI 1 3 A1' n1' c1' (if LibOK x then selL mayM LMap.Id x.Maps else []) ∧ Lo w w' := by
  refine calls_W 29 Try.func28 rfl rfl rfl ?_
  have hbdx_Maps := hx_Maps.bound
  have hlex_Maps := hx_Maps.len
  have hBbx_Maps := hx_Maps.bd
  have hbdx_Away := hx_Away.bound
  have hlex_Away := hx_Away.len
  have hBbx_Away := hx_Away.bd
  refine W.seq ?_
  refine W.regS (SR.box (v := .agg (List.toArray _)) (l := [.slice Ax_Maps nx_Maps cx_Maps, .slice Ax_Away nx_Away cx_Away, .int .i64 x.Bought, .int .i64 x.Dropped, .int .i64 x.Mended]) rfl rfl ?_)
  intro g1 w2 hg3 hk4 hs5 hb6
  have hz7 := hk4.size
  have hB8 := (Lo.refl w).lo hk4
  refine SR.q' (r_as (v := .slice none 0 0) rfl) <| SR.q' (r_as (v := .bool false) rfl) <| SR.nil ?_
  refine W.seq ?_
  refine W.seq ?_
  refine W.regS (SR.q' (r_lda (l := [.slice Ax_Maps nx_Maps cx_Maps, .slice Ax_Away nx_Away cx_Away, .int .i64 x.Bought, .int .i64 x.Dropped, .int .i64 x.Mended]) agg31 rfl (fun _ _ hu => (hb6).cell hu) rfl) <| SR.call ent15 (c_impl_IsLibrary w2 x (((hx_Maps).lo hk4)) (((hx_Away).lo hk4)) (by omega)) rfl ?_)
  rintro e w9 ⟨rfl, hk10⟩
  refine ⟨_, rfl, ?_⟩
  have hz11 := hk10.size
  have hB12 := hB8.lo hk10
  refine SR.q' (r_not rfl) <| SR.nil ?_
  refine W.cond_n rfl (fun h13 => ?_) (fun h13 => ?_)
  · refine W.seq ?_
    refine W.regS (SR.q' (r_as (v := .slice none 0 0) rfl) <| SR.q' (r_as (v := .bool false) rfl) <| SR.nil ?_)
    refine W.ret ?_
    refine ret2 rfl (v := .slice none 0 0) (v' := .bool _) rfl rfl ?_
    exact ⟨none, 0, 0, eR (eT2 rfl (eDF (z_c_impl_MayLend_15 x nx_Maps hbdx_Maps hlex_Maps nx_Away hbdx_Away hlex_Away hp0 h13))), (SlO.eqv (SlO.nil (e := 3) (enc := encI) (fun _ => rfl) (by omega)) (z_c_impl_MayLend_14 x nx_Maps hbdx_Maps hlex_Maps nx_Away hbdx_Away hlex_Away hp0 h13)), hB12⟩
  · have hq16 := And.left h13
    have hq17 := lib_len h13
    have hq18 := And.left hq16
    have hq19 := And.right hq16
    refine W.skip ?_
    refine W.seq ?_
    refine W.regS (SR.q' (r_as (v := .slice none 0 0) rfl) <| SR.nil ?_)
    refine W.seq ?_
    refine W.seq ?_
    refine W.regS (SR.q' (r_fa fa31_0 rfl) <| SR.q' (r_ld (v := .slice Ax_Maps nx_Maps cx_Maps) sca28 rfl (((hb6).lo hk10).cell rfl)) <| SR.q' (r_len und28 rfl) <| SR.q' (r_mv (v := .int .i64 0) rfl) <| SR.nil ?_)
    refine W.block ?_
    refine W.loop (σ := Nat × (Option Addr) × Nat × Nat) (fun g => [(2, .slice none 0 0), (3, .bool false), (4, .slice g.2.1 g.2.2.1 g.2.2.2), (11, .slice Ax_Maps nx_Maps cx_Maps), (12, .int .i64 (nx_Maps : Int)), (13, .int .i64 (g.1 : Int))]) (fun g w' => (Lo w w') ∧ (SlR w' Bx_Maps encLMap 3 Ax_Maps nx_Maps cx_Maps x.Maps) ∧ (SlO w' w.heap.size encI 1 3 g.2.1 g.2.2.1 g.2.2.2 (selL mayM LMap.Id (x.Maps.take g.1))) ∧ (g.1 ≤ nx_Maps)) (fun g => nx_Maps - g.1) (0, (none : Option Addr), 0, 0) ?_ ?_ ?_
    · exact ⟨rfl, rfl, rfl, rfl, rfl, rfl, trivial⟩
    · exact ⟨hB12, ((hx_Maps).lo hk4).lo hk10, (SlO.eqv (SlO.nil (base := w.heap.size) (e := 3) (enc := encI) (fun _ => rfl) (by omega)) (z_c_impl_MayLend_22 x nx_Maps hbdx_Maps hlex_Maps nx_Away hbdx_Away hlex_Away hp0 h13 hq16 hq17 hq18 hq19)), (z_c_impl_MayLend_21 x nx_Maps hbdx_Maps hlex_Maps nx_Away hbdx_Away hlex_Away hp0 h13 hq16 hq17 hq18 hq19)⟩
    · rintro ⟨k, A20, n20, c20⟩ f23 w24 hP26
      obtain ⟨hB25, hm27, hO28, hi29⟩ : (Lo w w24) ∧ (SlR w24 Bx_Maps encLMap 3 Ax_Maps nx_Maps cx_Maps x.Maps) ∧ (SlO w24 w.heap.size encI 1 3 A20 n20 c20 (selL mayM LMap.Id (x.Maps.take k))) ∧ (k ≤ nx_Maps) := hP26
      refine (?_ : W _ _ _ _ _ (act _ (sets f23 [(2, .slice none 0 0), (3, .bool false), (4, .slice A20 n20 c20), (11, .slice Ax_Maps nx_Maps cx_Maps), (12, .int .i64 (nx_Maps : Int)), (13, .int .i64 (k : Int))])) _)
      have hzw24 := hB25.size
      have hl30 := hO28.len
      have hl31 := hO28.rd.bound
      have hq32 := sel_lenT x.Maps k mayM LMap.Id
      refine W.seq ?_
      refine W.regS (SR.q' (r_lt rfl rfl) <| SR.nil ?_)
      refine W.seq ?_
      refine W.cond_d rfl (fun h33 => ?_) (fun h33 => ?_)
      · refine W.skip ?_
        refine W.seq ?_
        refine W.block ?_
        refine W.seq ?_
        have hx35 := (hm27).elem (i := k) (by omega)
        refine W.regS (SR.q' (r_ixR tsl28 (hm27) rfl rfl (by omega)) <| SR.q' (r_lda (l := encLMap (gt x.Maps k)) agg73 rfl (fun _ _ hu => (hm27).cell hx35 hu) ((hm27).esz _)) <| SR.alloc (l := [.int .i64 0, .int .i64 0, .int .i64 0]) tz73 rfl ?_)
        intro g36 w37 hg38 hk39 hs40 hb41
        have hz42 := hk39.size
        have hB43 := hB25.lo hk39
        have hd44 : ¬ A20 = some ⟨g36, 0, none⟩ := fun e' => by have := (hO28).base_le e'; omega
        refine SR.store (o := 0) (vs := [.int .i64 ((gt x.Maps k).Id), .int .i64 ((gt x.Maps k).Copies), .int .i64 ((gt x.Maps k).Torn)]) agg73.2 rfl rfl rfl rfl (hb41) (Nat.le_of_ble_eq_true rfl) rfl ?_
        intro w45 hk46 hs47 hb48
        have hz49 := hk46.size
        have hB50 := hB43.new hk46 (by omega)
        refine SR.nil ?_
        refine W.seq ?_
        refine W.regS (SR.q' (r_fa fa73_1 rfl) <| SR.q' (r_ld (v := .int .i64 ((gt x.Maps k).Copies)) sca3 rfl ((hb48).cell rfl)) <| SR.q' (r_fa fa73_2 rfl) <| SR.q' (r_ld (v := .int .i64 ((gt x.Maps k).Torn)) sca3 rfl ((hb48).cell rfl)) <| SR.q' (r_gt rfl rfl) <| SR.nil ?_)
        refine W.cond_d rfl (fun h51 => ?_) (fun h51 => ?_)
        · refine W.regS (SR.q' (r_mv (v := .slice _ _ _) rfl) <| SR.q' (r_fa fa73_0 rfl) <| SR.q' (r_ld (v := .int .i64 ((gt x.Maps k).Id)) sca3 rfl ((hb48).cell rfl)) <| SR.lit (vs := [.int .i64 ((gt x.Maps k).Id)]) (L := ([(gt x.Maps k).Id] : List Int)) (enc := encI) tel37 (fun _ => rfl) rfl rfl rfl (by decide) ?_)
          intro g52 w53 hg54 hk55 hO56
          have hz57 := hk55.size
          have hB58 := hB50.lo hk55
          have hd59 : ¬ A20 = some ⟨g52, 0, none⟩ := fun e' => by have := (((hO28).lo hk39).kp hk46 (fun b_ hb e' => hd44 (by have e'' : b_ = g36 := e'; rw [← e'']; exact hb))).base_le e'; omega
          refine SR.app tel37 rfl rfl ((((hO28).lo hk39).kp hk46 (fun b_ hb e' => hd44 (by have e'' : b_ = g36 := e'; rw [← e'']; exact hb))).lo hk55) ((hO56).rd) (fun _ => rfl) (by omega) (by omega) ?_
          intro A60 c61 w62 hk63 hO64 hN65
          have hz66 := hk63.size
          have hB67 := hB58.step hk63 (fun i_ hi_ e' => by have := (((((hO28).lo hk39).kp hk46 (fun b_ hb e' => hd44 (by have e'' : b_ = g36 := e'; rw [← e'']; exact hb))).lo hk55)).base_le e'; first | omega | (exfalso; omega) | exact e' | exact .inl e' | exact .inr e')
          have hd68 : ¬ A60 = some ⟨g36, 0, none⟩ := fun e' => (hN65 g36 e').elim (fun h => hd44 (h.trans e')) (fun h => by have := ((hb48).lo hk55).lt; omega)
          refine SR.q' (r_as (v := .slice _ _ _) rfl) <| SR.nil ?_
          refine W.regS (SR.q' (r_add rfl rfl (by omega)) <| SR.q' (r_mv (v := .int .i64 _) rfl) <| SR.nil ?_)
          refine ⟨(k + 1, A60, n20 + 1, c61), _, rfl, ⟨rfl, rfl, rfl, rfl, rfl, rfl, trivial⟩, ⟨hB67, ((((hm27).lo hk39).kp hk46 (fun b_ hb e' => by have e'' : b_ = g36 := e'; omega)).lo hk55).kp hk63 (fun b_ hb e' => by have := (((((hO28).lo hk39).kp hk46 (fun b_ hb e' => hd44 (by have e'' : b_ = g36 := e'; rw [← e'']; exact hb))).lo hk55)).base_le e'; omega), (SlO.eqv (hO64) (z_c_impl_MayLend_70 x nx_Maps hbdx_Maps hlex_Maps nx_Away hbdx_Away hlex_Away hp0 h13 hq16 hq17 hq18 hq19 k n20 c20 hi29 hl30 hq32 h33 hx35 h51)), ?_⟩, ?_⟩
          · exact (z_c_impl_MayLend_71 x nx_Maps hbdx_Maps hlex_Maps nx_Away hbdx_Away hlex_Away hp0 h13 hq16 hq17 hq18 hq19 k n20 c20 hi29 hl30 hq32 h33 hx35 h51)
          · exact (z_c_impl_MayLend_72 x nx_Maps hbdx_Maps hlex_Maps nx_Away hbdx_Away hlex_Away hp0 h13 hq16 hq17 hq18 hq19 k n20 c20 hi29 hl30 hq32 h33 hx35 h51)
        · refine W.skip ?_
          refine W.regS (SR.q' (r_add rfl rfl (by omega)) <| SR.q' (r_mv (v := .int .i64 _) rfl) <| SR.nil ?_)
          refine ⟨(k + 1, A20, n20, c20), _, rfl, ⟨rfl, rfl, rfl, rfl, rfl, rfl, trivial⟩, ⟨hB50, ((hm27).lo hk39).kp hk46 (fun b_ hb e' => by have e'' : b_ = g36 := e'; omega), (SlO.eqv (((hO28).lo hk39).kp hk46 (fun b_ hb e' => hd44 (by have e'' : b_ = g36 := e'; rw [← e'']; exact hb))) (z_c_impl_MayLend_73 x nx_Maps hbdx_Maps hlex_Maps nx_Away hbdx_Away hlex_Away hp0 h13 hq16 hq17 hq18 hq19 k n20 c20 hi29 hl30 hq32 h33 hx35 h51)), ?_⟩, ?_⟩
          · exact (z_c_impl_MayLend_74 x nx_Maps hbdx_Maps hlex_Maps nx_Away hbdx_Away hlex_Away hp0 h13 hq16 hq17 hq18 hq19 k n20 c20 hi29 hl30 hq32 h33 hx35 h51)
          · exact (z_c_impl_MayLend_75 x nx_Maps hbdx_Maps hlex_Maps nx_Away hbdx_Away hlex_Away hp0 h13 hq16 hq17 hq18 hq19 k n20 c20 hi29 hl30 hq32 h33 hx35 h51)
      · refine W.exit (xin_here ?_)
        refine W.seq ?_
        refine W.regS (SR.q' (r_mv (v := .slice _ _ _) rfl) <| SR.q' (r_as (v := .slice _ _ _) rfl) <| SR.q' (r_as (v := .bool true) rfl) <| SR.nil ?_)
        refine W.ret ?_
        refine ret2 rfl (v := .slice _ _ _) (v' := .bool _) rfl rfl ?_
        exact ⟨A20, n20, c20, eR (eT2 rfl (eDT (z_c_impl_MayLend_77 x nx_Maps hbdx_Maps hlex_Maps nx_Away hbdx_Away hlex_Away hp0 h13 hq16 hq17 hq18 hq19 k n20 c20 hi29 hl30 hq32 h33))), (SlO.eqv ((hO28).down (by omega)) (z_c_impl_MayLend_76 x nx_Maps hbdx_Maps hlex_Maps nx_Away hbdx_Away hlex_Away hp0 h13 hq16 hq17 hq18 hq19 k n20 c20 hi29 hl30 hq32 h33)), hB25⟩

theorem z_c_spec_MayLend_21 (x : Library) (nx_Maps : Nat) (hbdx_Maps : (nx_Maps : Int) ≤ 9223372036854775807) (hlex_Maps : nx_Maps = x.Maps.length) (nx_Away : Nat) (hbdx_Away : (nx_Away : Int) ≤ 9223372036854775807) (hlex_Away : nx_Away = x.Away.length) (hp0 : (nx_Maps : Int) ≤ 1048576) (h20 : ¬ (LibOK x)) : ([] : List Int) = (if LibOK x then selL mayM LMap.Id x.Maps else []) := by
  first | (rw [if_pos (by first | assumption | exact ⟨‹_›, ‹_›⟩)]; exact sel_end (by omega)) | (rw [if_neg (by first | assumption | exact not_and_of_not_or_not ‹_›)])
theorem z_c_spec_MayLend_22 (x : Library) (nx_Maps : Nat) (hbdx_Maps : (nx_Maps : Int) ≤ 9223372036854775807) (hlex_Maps : nx_Maps = x.Maps.length) (nx_Away : Nat) (hbdx_Away : (nx_Away : Int) ≤ 9223372036854775807) (hlex_Away : nx_Away = x.Away.length) (hp0 : (nx_Maps : Int) ≤ 1048576) (h20 : ¬ (LibOK x)) : ¬ (LibOK x) := by
  first | assumption | exact ⟨‹_›, ‹_›⟩ | exact not_and_of_not_or_not ‹_›
theorem z_c_spec_MayLend_28 (x : Library) (nx_Maps : Nat) (hbdx_Maps : (nx_Maps : Int) ≤ 9223372036854775807) (hlex_Maps : nx_Maps = x.Maps.length) (nx_Away : Nat) (hbdx_Away : (nx_Away : Int) ≤ 9223372036854775807) (hlex_Away : nx_Away = x.Away.length) (hp0 : (nx_Maps : Int) ≤ 1048576) (h20 : LibOK x) (hq23 : MapsOK x.Maps ∧ x.Maps.length ≤ 8) (hq24 : x.Away.length ≤ 8) (hq25 : MapsOK x.Maps) (hq26 : x.Maps.length ≤ 8) : 0 ≤ nx_Maps := by
  omega
theorem z_c_spec_MayLend_29 (x : Library) (nx_Maps : Nat) (hbdx_Maps : (nx_Maps : Int) ≤ 9223372036854775807) (hlex_Maps : nx_Maps = x.Maps.length) (nx_Away : Nat) (hbdx_Away : (nx_Away : Int) ≤ 9223372036854775807) (hlex_Away : nx_Away = x.Away.length) (hp0 : (nx_Maps : Int) ≤ 1048576) (h20 : LibOK x) (hq23 : MapsOK x.Maps ∧ x.Maps.length ≤ 8) (hq24 : x.Away.length ≤ 8) (hq25 : MapsOK x.Maps) (hq26 : x.Maps.length ≤ 8) : ([] : List Int) = selL mayM LMap.Id (x.Maps.take 0) := by
  rfl
theorem z_c_spec_MayLend_70 (x : Library) (nx_Maps : Nat) (hbdx_Maps : (nx_Maps : Int) ≤ 9223372036854775807) (hlex_Maps : nx_Maps = x.Maps.length) (nx_Away : Nat) (hbdx_Away : (nx_Away : Int) ≤ 9223372036854775807) (hlex_Away : nx_Away = x.Away.length) (hp0 : (nx_Maps : Int) ≤ 1048576) (h20 : LibOK x) (hq23 : MapsOK x.Maps ∧ x.Maps.length ≤ 8) (hq24 : x.Away.length ≤ 8) (hq25 : MapsOK x.Maps) (hq26 : x.Maps.length ≤ 8) (k : Nat) (n27 : Nat) (c27 : Nat) (hi38 : k ≤ nx_Maps) (hl41 : n27 = (selL mayM LMap.Id (x.Maps.take k)).length) (hq43 : (selL mayM LMap.Id (x.Maps.take k)).length ≤ x.Maps.length) (h44 : (k : Int) < (nx_Maps : Int)) (hx46 : x.Maps[k]? = some (gt x.Maps k)) (h51 : ((gt x.Maps k).Torn) < ((gt x.Maps k).Copies)) : (selL mayM LMap.Id (x.Maps.take k)) ++ ([(gt x.Maps k).Id] : List Int) = selL mayM LMap.Id (x.Maps.take (k + 1)) := by
  first | exact sel_yes (by omega) (decide_eq_true ‹_›) | exact sel_no (by omega) (decide_eq_false ‹_›)
theorem z_c_spec_MayLend_71 (x : Library) (nx_Maps : Nat) (hbdx_Maps : (nx_Maps : Int) ≤ 9223372036854775807) (hlex_Maps : nx_Maps = x.Maps.length) (nx_Away : Nat) (hbdx_Away : (nx_Away : Int) ≤ 9223372036854775807) (hlex_Away : nx_Away = x.Away.length) (hp0 : (nx_Maps : Int) ≤ 1048576) (h20 : LibOK x) (hq23 : MapsOK x.Maps ∧ x.Maps.length ≤ 8) (hq24 : x.Away.length ≤ 8) (hq25 : MapsOK x.Maps) (hq26 : x.Maps.length ≤ 8) (k : Nat) (n27 : Nat) (c27 : Nat) (hi38 : k ≤ nx_Maps) (hl41 : n27 = (selL mayM LMap.Id (x.Maps.take k)).length) (hq43 : (selL mayM LMap.Id (x.Maps.take k)).length ≤ x.Maps.length) (h44 : (k : Int) < (nx_Maps : Int)) (hx46 : x.Maps[k]? = some (gt x.Maps k)) (h51 : ((gt x.Maps k).Torn) < ((gt x.Maps k).Copies)) : k + 1 ≤ nx_Maps := by
  omega
theorem z_c_spec_MayLend_72 (x : Library) (nx_Maps : Nat) (hbdx_Maps : (nx_Maps : Int) ≤ 9223372036854775807) (hlex_Maps : nx_Maps = x.Maps.length) (nx_Away : Nat) (hbdx_Away : (nx_Away : Int) ≤ 9223372036854775807) (hlex_Away : nx_Away = x.Away.length) (hp0 : (nx_Maps : Int) ≤ 1048576) (h20 : LibOK x) (hq23 : MapsOK x.Maps ∧ x.Maps.length ≤ 8) (hq24 : x.Away.length ≤ 8) (hq25 : MapsOK x.Maps) (hq26 : x.Maps.length ≤ 8) (k : Nat) (n27 : Nat) (c27 : Nat) (hi38 : k ≤ nx_Maps) (hl41 : n27 = (selL mayM LMap.Id (x.Maps.take k)).length) (hq43 : (selL mayM LMap.Id (x.Maps.take k)).length ≤ x.Maps.length) (h44 : (k : Int) < (nx_Maps : Int)) (hx46 : x.Maps[k]? = some (gt x.Maps k)) (h51 : ((gt x.Maps k).Torn) < ((gt x.Maps k).Copies)) : nx_Maps - (k + 1) < nx_Maps - k := by
  omega
theorem z_c_spec_MayLend_73 (x : Library) (nx_Maps : Nat) (hbdx_Maps : (nx_Maps : Int) ≤ 9223372036854775807) (hlex_Maps : nx_Maps = x.Maps.length) (nx_Away : Nat) (hbdx_Away : (nx_Away : Int) ≤ 9223372036854775807) (hlex_Away : nx_Away = x.Away.length) (hp0 : (nx_Maps : Int) ≤ 1048576) (h20 : LibOK x) (hq23 : MapsOK x.Maps ∧ x.Maps.length ≤ 8) (hq24 : x.Away.length ≤ 8) (hq25 : MapsOK x.Maps) (hq26 : x.Maps.length ≤ 8) (k : Nat) (n27 : Nat) (c27 : Nat) (hi38 : k ≤ nx_Maps) (hl41 : n27 = (selL mayM LMap.Id (x.Maps.take k)).length) (hq43 : (selL mayM LMap.Id (x.Maps.take k)).length ≤ x.Maps.length) (h44 : (k : Int) < (nx_Maps : Int)) (hx46 : x.Maps[k]? = some (gt x.Maps k)) (h51 : ¬ (((gt x.Maps k).Torn) < ((gt x.Maps k).Copies))) : selL mayM LMap.Id (x.Maps.take k) = selL mayM LMap.Id (x.Maps.take (k + 1)) := by
  first | exact sel_yes (by omega) (decide_eq_true ‹_›) | exact sel_no (by omega) (decide_eq_false ‹_›)
theorem z_c_spec_MayLend_74 (x : Library) (nx_Maps : Nat) (hbdx_Maps : (nx_Maps : Int) ≤ 9223372036854775807) (hlex_Maps : nx_Maps = x.Maps.length) (nx_Away : Nat) (hbdx_Away : (nx_Away : Int) ≤ 9223372036854775807) (hlex_Away : nx_Away = x.Away.length) (hp0 : (nx_Maps : Int) ≤ 1048576) (h20 : LibOK x) (hq23 : MapsOK x.Maps ∧ x.Maps.length ≤ 8) (hq24 : x.Away.length ≤ 8) (hq25 : MapsOK x.Maps) (hq26 : x.Maps.length ≤ 8) (k : Nat) (n27 : Nat) (c27 : Nat) (hi38 : k ≤ nx_Maps) (hl41 : n27 = (selL mayM LMap.Id (x.Maps.take k)).length) (hq43 : (selL mayM LMap.Id (x.Maps.take k)).length ≤ x.Maps.length) (h44 : (k : Int) < (nx_Maps : Int)) (hx46 : x.Maps[k]? = some (gt x.Maps k)) (h51 : ¬ (((gt x.Maps k).Torn) < ((gt x.Maps k).Copies))) : k + 1 ≤ nx_Maps := by
  omega
theorem z_c_spec_MayLend_75 (x : Library) (nx_Maps : Nat) (hbdx_Maps : (nx_Maps : Int) ≤ 9223372036854775807) (hlex_Maps : nx_Maps = x.Maps.length) (nx_Away : Nat) (hbdx_Away : (nx_Away : Int) ≤ 9223372036854775807) (hlex_Away : nx_Away = x.Away.length) (hp0 : (nx_Maps : Int) ≤ 1048576) (h20 : LibOK x) (hq23 : MapsOK x.Maps ∧ x.Maps.length ≤ 8) (hq24 : x.Away.length ≤ 8) (hq25 : MapsOK x.Maps) (hq26 : x.Maps.length ≤ 8) (k : Nat) (n27 : Nat) (c27 : Nat) (hi38 : k ≤ nx_Maps) (hl41 : n27 = (selL mayM LMap.Id (x.Maps.take k)).length) (hq43 : (selL mayM LMap.Id (x.Maps.take k)).length ≤ x.Maps.length) (h44 : (k : Int) < (nx_Maps : Int)) (hx46 : x.Maps[k]? = some (gt x.Maps k)) (h51 : ¬ (((gt x.Maps k).Torn) < ((gt x.Maps k).Copies))) : nx_Maps - (k + 1) < nx_Maps - k := by
  omega
theorem z_c_spec_MayLend_76 (x : Library) (nx_Maps : Nat) (hbdx_Maps : (nx_Maps : Int) ≤ 9223372036854775807) (hlex_Maps : nx_Maps = x.Maps.length) (nx_Away : Nat) (hbdx_Away : (nx_Away : Int) ≤ 9223372036854775807) (hlex_Away : nx_Away = x.Away.length) (hp0 : (nx_Maps : Int) ≤ 1048576) (h20 : LibOK x) (hq23 : MapsOK x.Maps ∧ x.Maps.length ≤ 8) (hq24 : x.Away.length ≤ 8) (hq25 : MapsOK x.Maps) (hq26 : x.Maps.length ≤ 8) (k : Nat) (n27 : Nat) (c27 : Nat) (hi38 : k ≤ nx_Maps) (hl41 : n27 = (selL mayM LMap.Id (x.Maps.take k)).length) (hq43 : (selL mayM LMap.Id (x.Maps.take k)).length ≤ x.Maps.length) (h44 : ¬ ((k : Int) < (nx_Maps : Int))) : selL mayM LMap.Id (x.Maps.take k) = (if LibOK x then selL mayM LMap.Id x.Maps else []) := by
  first | (rw [if_pos (by first | assumption | exact ⟨‹_›, ‹_›⟩)]; exact sel_end (by omega)) | (rw [if_neg (by first | assumption | exact not_and_of_not_or_not ‹_›)])
theorem z_c_spec_MayLend_77 (x : Library) (nx_Maps : Nat) (hbdx_Maps : (nx_Maps : Int) ≤ 9223372036854775807) (hlex_Maps : nx_Maps = x.Maps.length) (nx_Away : Nat) (hbdx_Away : (nx_Away : Int) ≤ 9223372036854775807) (hlex_Away : nx_Away = x.Away.length) (hp0 : (nx_Maps : Int) ≤ 1048576) (h20 : LibOK x) (hq23 : MapsOK x.Maps ∧ x.Maps.length ≤ 8) (hq24 : x.Away.length ≤ 8) (hq25 : MapsOK x.Maps) (hq26 : x.Maps.length ≤ 8) (k : Nat) (n27 : Nat) (c27 : Nat) (hi38 : k ≤ nx_Maps) (hl41 : n27 = (selL mayM LMap.Id (x.Maps.take k)).length) (hq43 : (selL mayM LMap.Id (x.Maps.take k)).length ≤ x.Maps.length) (h44 : ¬ ((k : Int) < (nx_Maps : Int))) : LibOK x := by
  first | assumption | exact ⟨‹_›, ‹_›⟩ | exact not_and_of_not_or_not ‹_›
theorem c_spec_MayLend (w : World) (x : Library) {Ax_Maps : Option Addr} {nx_Maps cx_Maps Bx_Maps : Nat} (hx_Maps : SlR w Bx_Maps encLMap 3 Ax_Maps nx_Maps cx_Maps x.Maps) {Ax_Away : Option Addr} {nx_Away cx_Away Bx_Away : Nat} (hx_Away : SlR w Bx_Away encAway 2 Ax_Away nx_Away cx_Away x.Away) (hp0 : (nx_Maps : Int) ≤ 1048576) : Calls Try.prog 27 #[.agg (List.toArray [.slice Ax_Maps nx_Maps cx_Maps, .slice Ax_Away nx_Away cx_Away, .int .i64 x.Bought, .int .i64 x.Dropped, .int .i64 x.Mended])] w fun e w' => ∃ (A1' : Option Addr) (n1' c1' : Nat), e = .returned (.tuple (List.toArray [.slice A1' n1' c1', .bool (decide (LibOK x))])) ∧ SlO w' w.heap.size encI 1 3 A1' n1' c1' (if LibOK x then selL mayM LMap.Id x.Maps else []) ∧ Lo w w' := by
  refine calls_W 41 Try.func27 rfl rfl rfl ?_
  have hbdx_Maps := hx_Maps.bound
  have hlex_Maps := hx_Maps.len
  have hBbx_Maps := hx_Maps.bd
  have hbdx_Away := hx_Away.bound
  have hlex_Away := hx_Away.len
  have hBbx_Away := hx_Away.bd
  refine W.seq ?_
  refine W.regS (SR.box (v := .agg (List.toArray _)) (l := [.slice Ax_Maps nx_Maps cx_Maps, .slice Ax_Away nx_Away cx_Away, .int .i64 x.Bought, .int .i64 x.Dropped, .int .i64 x.Mended]) rfl rfl ?_)
  intro g1 w2 hg3 hk4 hs5 hb6
  have hz7 := hk4.size
  have hB8 := (Lo.refl w).lo hk4
  refine SR.q' (r_as (v := .slice none 0 0) rfl) <| SR.q' (r_as (v := .bool false) rfl) <| SR.nil ?_
  refine W.seq ?_
  refine W.regS (SR.lit (vs := []) (L := ([] : List Int)) (enc := encI) tel37 (fun _ => rfl) rfl rfl rfl (by decide) ?_)
  intro g9 w10 hg11 hk12 hO13
  have hz14 := hk12.size
  have hB15 := hB8.lo hk12
  refine SR.q' (r_as (v := .slice _ _ _) rfl) <| SR.nil ?_
  refine W.seq ?_
  refine W.seq ?_
  refine W.regS (SR.q' (r_lda (l := [.slice Ax_Maps nx_Maps cx_Maps, .slice Ax_Away nx_Away cx_Away, .int .i64 x.Bought, .int .i64 x.Dropped, .int .i64 x.Mended]) agg31 rfl (fun _ _ hu => ((hb6).lo hk12).cell hu) rfl) <| SR.call ent48 (c_spec_l32Good w10 x ((((hx_Maps).lo hk4).lo hk12)) ((((hx_Away).lo hk4).lo hk12))) rfl ?_)
  rintro e w16 ⟨rfl, hk17⟩
  refine ⟨_, rfl, ?_⟩
  have hz18 := hk17.size
  have hB19 := hB15.lo hk17
  refine SR.q' (r_not rfl) <| SR.nil ?_
  refine W.cond_n rfl (fun h20 => ?_) (fun h20 => ?_)
  · refine W.seq ?_
    refine W.regS (SR.q' (r_mv (v := .slice _ _ _) rfl) <| SR.q' (r_as (v := .slice _ _ _) rfl) <| SR.q' (r_as (v := .bool false) rfl) <| SR.nil ?_)
    refine W.ret ?_
    refine ret2 rfl (v := .slice _ _ _) (v' := .bool _) rfl rfl ?_
    exact ⟨(some (⟨g9, 0, none⟩ : Addr)), 0, 0, eR (eT2 rfl (eDF (z_c_spec_MayLend_22 x nx_Maps hbdx_Maps hlex_Maps nx_Away hbdx_Away hlex_Away hp0 h20))), (SlO.eqv (((hO13).lo hk17).down (by omega)) (z_c_spec_MayLend_21 x nx_Maps hbdx_Maps hlex_Maps nx_Away hbdx_Away hlex_Away hp0 h20)), hB19⟩
  · have hq23 := And.left h20
    have hq24 := lib_len h20
    have hq25 := And.left hq23
    have hq26 := And.right hq23
    refine W.skip ?_
    refine W.seq ?_
    refine W.seq ?_
    refine W.regS (SR.q' (r_as (v := .int .i64 0) rfl) <| SR.nil ?_)
    refine W.block ?_
    refine W.loop (σ := Nat × (Option Addr) × Nat × Nat) (fun g => [(1, .pointer (some ((⟨g1, 0, none⟩ : Addr)))), (2, .slice none 0 0), (3, .bool false), (4, .slice g.2.1 g.2.2.1 g.2.2.2), (5, .int .i64 (g.1 : Int))]) (fun g w' => (Lo w w') ∧ (Blk w' g1 31 [.slice Ax_Maps nx_Maps cx_Maps, .slice Ax_Away nx_Away cx_Away, .int .i64 x.Bought, .int .i64 x.Dropped, .int .i64 x.Mended]) ∧ (SlR w' Bx_Maps encLMap 3 Ax_Maps nx_Maps cx_Maps x.Maps) ∧ (SlR w' Bx_Away encAway 2 Ax_Away nx_Away cx_Away x.Away) ∧ (SlO w' w.heap.size encI 1 3 g.2.1 g.2.2.1 g.2.2.2 (selL mayM LMap.Id (x.Maps.take g.1))) ∧ (¬ g.2.1 = some ⟨g1, 0, none⟩) ∧ (g.1 ≤ nx_Maps)) (fun g => nx_Maps - g.1) (0, (some (⟨g9, 0, none⟩ : Addr)), 0, 0) ?_ ?_ ?_
    · exact ⟨rfl, rfl, rfl, rfl, rfl, trivial⟩
    · show (Lo w w16) ∧ (Blk w16 g1 31 [.slice Ax_Maps nx_Maps cx_Maps, .slice Ax_Away nx_Away cx_Away, .int .i64 x.Bought, .int .i64 x.Dropped, .int .i64 x.Mended]) ∧ (SlR w16 Bx_Maps encLMap 3 Ax_Maps nx_Maps cx_Maps x.Maps) ∧ (SlR w16 Bx_Away encAway 2 Ax_Away nx_Away cx_Away x.Away) ∧ (SlO w16 w.heap.size encI 1 3 (some (⟨g9, 0, none⟩ : Addr)) 0 0 (selL mayM LMap.Id (x.Maps.take 0))) ∧ (¬ (some (⟨g9, 0, none⟩ : Addr)) = some ⟨g1, 0, none⟩) ∧ (0 ≤ nx_Maps)
      exact ⟨hB19, ((hb6).lo hk12).lo hk17, (((hx_Maps).lo hk4).lo hk12).lo hk17, (((hx_Away).lo hk4).lo hk12).lo hk17, (SlO.eqv (((hO13).lo hk17).down (by omega)) (z_c_spec_MayLend_29 x nx_Maps hbdx_Maps hlex_Maps nx_Away hbdx_Away hlex_Away hp0 h20 hq23 hq24 hq25 hq26)), (fun e' => by have := ((hO13).lo hk17).base_le e'; omega), (z_c_spec_MayLend_28 x nx_Maps hbdx_Maps hlex_Maps nx_Away hbdx_Away hlex_Away hp0 h20 hq23 hq24 hq25 hq26)⟩
    · rintro ⟨k, A27, n27, c27⟩ f30 w31 hP33
      obtain ⟨hB32, hm34, hm35, hm36, hO37, hd39, hi38⟩ : (Lo w w31) ∧ (Blk w31 g1 31 [.slice Ax_Maps nx_Maps cx_Maps, .slice Ax_Away nx_Away cx_Away, .int .i64 x.Bought, .int .i64 x.Dropped, .int .i64 x.Mended]) ∧ (SlR w31 Bx_Maps encLMap 3 Ax_Maps nx_Maps cx_Maps x.Maps) ∧ (SlR w31 Bx_Away encAway 2 Ax_Away nx_Away cx_Away x.Away) ∧ (SlO w31 w.heap.size encI 1 3 A27 n27 c27 (selL mayM LMap.Id (x.Maps.take k))) ∧ (¬ A27 = some ⟨g1, 0, none⟩) ∧ (k ≤ nx_Maps) := hP33
      refine (?_ : W _ _ _ _ _ (act _ (sets f30 [(1, .pointer (some ((⟨g1, 0, none⟩ : Addr)))), (2, .slice none 0 0), (3, .bool false), (4, .slice A27 n27 c27), (5, .int .i64 (k : Int))])) _)
      have hzw31 := hB32.size
      have hl40 := hm34.lt
      have hl41 := hO37.len
      have hl42 := hO37.rd.bound
      have hq43 := sel_lenT x.Maps k mayM LMap.Id
      refine W.seq ?_
      refine W.seq ?_
      refine W.regS (SR.q' (r_mv (v := .int .i64 _) rfl) <| SR.q' (r_fa fa31_0 rfl) <| SR.q' (r_ld (v := .slice Ax_Maps nx_Maps cx_Maps) sca28 rfl ((hm34).cell rfl)) <| SR.q' (r_len und28 rfl) <| SR.q' (r_lt rfl rfl) <| SR.nil ?_)
      refine W.cond_d rfl (fun h44 => ?_) (fun h44 => ?_)
      · refine W.skip ?_
        refine W.seq ?_
        refine W.block ?_
        refine W.seq ?_
        refine W.regD mo (by kernel_rfl) (QR.q' (fun w' hw' => r_fa fa31_0 rfl) <| QR.q' (fun w' hw' => r_ld (v := .slice Ax_Maps nx_Maps cx_Maps) sca28 rfl (((hm34).lo hw').cell rfl)) <| QR.q' (fun w' hw' => r_mv (v := .int .i64 _) rfl) <| ?_)
        have hx46 := (hm35).elem (i := k) (by omega)
        refine QR.q' (fun w' hw' => r_ixR tsl28 (((hm35).lo hw')) rfl rfl (by omega)) <| QR.q' (fun w' hw' => r_fa fa73_1 rfl) <| QR.q' (fun w' hw' => r_ld (v := .int .i64 ((gt x.Maps k).Copies)) sca3 rfl ((((hm35).lo hw')).cell hx46 rfl)) <| QR.q' (fun w' hw' => r_fa fa31_0 rfl) <| QR.q' (fun w' hw' => r_ld (v := .slice Ax_Maps nx_Maps cx_Maps) sca28 rfl (((hm34).lo hw').cell rfl)) <| QR.q' (fun w' hw' => r_mv (v := .int .i64 _) rfl) <| QR.q' (fun w' hw' => r_ixR tsl28 (((hm35).lo hw')) rfl rfl (by omega)) <| QR.q' (fun w' hw' => r_fa fa73_2 rfl) <| QR.q' (fun w' hw' => r_ld (v := .int .i64 ((gt x.Maps k).Torn)) sca3 rfl ((((hm35).lo hw')).cell hx46 rfl)) <| QR.q' (fun w' hw' => r_gt rfl rfl) <| QR.nil ?_
        intro w47 hk48
        have hz49 := hk48.size
        have hB50 := hB32.lo hk48
        refine W.cond_d rfl (fun h51 => ?_) (fun h51 => ?_)
        · refine W.regS (SR.q' (r_mv (v := .slice _ _ _) rfl) <| SR.q' (r_fa fa31_0 rfl) <| SR.q' (r_ld (v := .slice Ax_Maps nx_Maps cx_Maps) sca28 rfl (((hm34).lo hk48).cell rfl)) <| SR.q' (r_mv (v := .int .i64 _) rfl) <| SR.q' (r_ixR tsl28 ((hm35).lo hk48) rfl rfl (by omega)) <| SR.q' (r_fa fa73_0 rfl) <| SR.q' (r_ld (v := .int .i64 ((gt x.Maps k).Id)) sca3 rfl (((hm35).lo hk48).cell hx46 rfl)) <| SR.lit (vs := [.int .i64 ((gt x.Maps k).Id)]) (L := ([(gt x.Maps k).Id] : List Int)) (enc := encI) tel37 (fun _ => rfl) rfl rfl rfl (by decide) ?_)
          intro g52 w53 hg54 hk55 hO56
          have hz57 := hk55.size
          have hB58 := hB50.lo hk55
          have hd59 : ¬ A27 = some ⟨g52, 0, none⟩ := fun e' => by have := ((hO37).lo hk48).base_le e'; omega
          refine SR.app tel37 rfl rfl (((hO37).lo hk48).lo hk55) ((hO56).rd) (fun _ => rfl) (by omega) (by omega) ?_
          intro A60 c61 w62 hk63 hO64 hN65
          have hz66 := hk63.size
          have hB67 := hB58.step hk63 (fun i_ hi_ e' => by have := ((((hO37).lo hk48).lo hk55)).base_le e'; first | omega | (exfalso; omega) | exact e' | exact .inl e' | exact .inr e')
          have hd68 : ¬ A60 = some ⟨g1, 0, none⟩ := fun e' => (hN65 g1 e').elim (fun h => hd39 (h.trans e')) (fun h => by have := (((hm34).lo hk48).lo hk55).lt; omega)
          refine SR.q' (r_as (v := .slice _ _ _) rfl) <| SR.nil ?_
          refine W.regS (SR.q' (r_mv (v := .int .i64 _) rfl) <| SR.q' (r_add rfl rfl (by omega)) <| SR.q' (r_as (v := .int .i64 _) rfl) <| SR.nil ?_)
          refine ⟨(k + 1, A60, n27 + 1, c61), _, rfl, ⟨rfl, rfl, rfl, rfl, rfl, trivial⟩, (show (Lo w w62) ∧ (Blk w62 g1 31 [.slice Ax_Maps nx_Maps cx_Maps, .slice Ax_Away nx_Away cx_Away, .int .i64 x.Bought, .int .i64 x.Dropped, .int .i64 x.Mended]) ∧ (SlR w62 Bx_Maps encLMap 3 Ax_Maps nx_Maps cx_Maps x.Maps) ∧ (SlR w62 Bx_Away encAway 2 Ax_Away nx_Away cx_Away x.Away) ∧ (SlO w62 w.heap.size encI 1 3 A60 (n27 + 1) c61 (selL mayM LMap.Id (x.Maps.take (k + 1)))) ∧ (¬ A60 = some ⟨g1, 0, none⟩) ∧ (k + 1 ≤ nx_Maps) from ⟨hB67, (((hm34).lo hk48).lo hk55).kp hk63 (fun e' => hd39 e'), (((hm35).lo hk48).lo hk55).kp hk63 (fun b_ hb e' => by have := ((((hO37).lo hk48).lo hk55)).base_le e'; omega), (((hm36).lo hk48).lo hk55).kp hk63 (fun b_ hb e' => by have := ((((hO37).lo hk48).lo hk55)).base_le e'; omega), (SlO.eqv (hO64) (z_c_spec_MayLend_70 x nx_Maps hbdx_Maps hlex_Maps nx_Away hbdx_Away hlex_Away hp0 h20 hq23 hq24 hq25 hq26 k n27 c27 hi38 hl41 hq43 h44 hx46 h51)), hd68, ?_⟩), ?_⟩
          · exact (z_c_spec_MayLend_71 x nx_Maps hbdx_Maps hlex_Maps nx_Away hbdx_Away hlex_Away hp0 h20 hq23 hq24 hq25 hq26 k n27 c27 hi38 hl41 hq43 h44 hx46 h51)
          · exact (z_c_spec_MayLend_72 x nx_Maps hbdx_Maps hlex_Maps nx_Away hbdx_Away hlex_Away hp0 h20 hq23 hq24 hq25 hq26 k n27 c27 hi38 hl41 hq43 h44 hx46 h51)
        · refine W.skip ?_
          refine W.regS (SR.q' (r_mv (v := .int .i64 _) rfl) <| SR.q' (r_add rfl rfl (by omega)) <| SR.q' (r_as (v := .int .i64 _) rfl) <| SR.nil ?_)
          refine ⟨(k + 1, A27, n27, c27), _, rfl, ⟨rfl, rfl, rfl, rfl, rfl, trivial⟩, (show (Lo w w47) ∧ (Blk w47 g1 31 [.slice Ax_Maps nx_Maps cx_Maps, .slice Ax_Away nx_Away cx_Away, .int .i64 x.Bought, .int .i64 x.Dropped, .int .i64 x.Mended]) ∧ (SlR w47 Bx_Maps encLMap 3 Ax_Maps nx_Maps cx_Maps x.Maps) ∧ (SlR w47 Bx_Away encAway 2 Ax_Away nx_Away cx_Away x.Away) ∧ (SlO w47 w.heap.size encI 1 3 A27 n27 c27 (selL mayM LMap.Id (x.Maps.take (k + 1)))) ∧ (¬ A27 = some ⟨g1, 0, none⟩) ∧ (k + 1 ≤ nx_Maps) from ⟨hB50, (hm34).lo hk48, (hm35).lo hk48, (hm36).lo hk48, (SlO.eqv ((hO37).lo hk48) (z_c_spec_MayLend_73 x nx_Maps hbdx_Maps hlex_Maps nx_Away hbdx_Away hlex_Away hp0 h20 hq23 hq24 hq25 hq26 k n27 c27 hi38 hl41 hq43 h44 hx46 h51)), hd39, ?_⟩), ?_⟩
          · exact (z_c_spec_MayLend_74 x nx_Maps hbdx_Maps hlex_Maps nx_Away hbdx_Away hlex_Away hp0 h20 hq23 hq24 hq25 hq26 k n27 c27 hi38 hl41 hq43 h44 hx46 h51)
          · exact (z_c_spec_MayLend_75 x nx_Maps hbdx_Maps hlex_Maps nx_Away hbdx_Away hlex_Away hp0 h20 hq23 hq24 hq25 hq26 k n27 c27 hi38 hl41 hq43 h44 hx46 h51)
      · refine W.exit (xin_here ?_)
        refine W.seq ?_
        refine W.regS (SR.q' (r_mv (v := .slice _ _ _) rfl) <| SR.q' (r_as (v := .slice _ _ _) rfl) <| SR.q' (r_as (v := .bool true) rfl) <| SR.nil ?_)
        refine W.ret ?_
        refine ret2 rfl (v := .slice _ _ _) (v' := .bool _) rfl rfl ?_
        exact ⟨A27, n27, c27, eR (eT2 rfl (eDT (z_c_spec_MayLend_77 x nx_Maps hbdx_Maps hlex_Maps nx_Away hbdx_Away hlex_Away hp0 h20 hq23 hq24 hq25 hq26 k n27 c27 hi38 hl41 hq43 h44))), (SlO.eqv ((hO37).down (by omega)) (z_c_spec_MayLend_76 x nx_Maps hbdx_Maps hlex_Maps nx_Away hbdx_Away hlex_Away hp0 h20 hq23 hq24 hq25 hq26 k n27 c27 hi38 hl41 hq43 h44)), hB32⟩

theorem z_c_impl_TornCopies_14 (x : Library) (nx_Maps : Nat) (hbdx_Maps : (nx_Maps : Int) ≤ 9223372036854775807) (hlex_Maps : nx_Maps = x.Maps.length) (nx_Away : Nat) (hbdx_Away : (nx_Away : Int) ≤ 9223372036854775807) (hlex_Away : nx_Away = x.Away.length) (hp0 : (nx_Maps : Int) ≤ 1048576) (h13 : ¬ (LibOK x)) : 0 = (if LibOK x then sumT x.Maps else 0) := by
  first | assumption | simp [*]
theorem z_c_impl_TornCopies_15 (x : Library) (nx_Maps : Nat) (hbdx_Maps : (nx_Maps : Int) ≤ 9223372036854775807) (hlex_Maps : nx_Maps = x.Maps.length) (nx_Away : Nat) (hbdx_Away : (nx_Away : Int) ≤ 9223372036854775807) (hlex_Away : nx_Away = x.Away.length) (hp0 : (nx_Maps : Int) ≤ 1048576) (h13 : ¬ (LibOK x)) : ¬ (LibOK x) := by
  first | assumption | simp [*]
theorem z_c_impl_TornCopies_20 (x : Library) (nx_Maps : Nat) (hbdx_Maps : (nx_Maps : Int) ≤ 9223372036854775807) (hlex_Maps : nx_Maps = x.Maps.length) (nx_Away : Nat) (hbdx_Away : (nx_Away : Int) ≤ 9223372036854775807) (hlex_Away : nx_Away = x.Away.length) (hp0 : (nx_Maps : Int) ≤ 1048576) (h13 : LibOK x) (hq16 : MapsOK x.Maps ∧ x.Maps.length ≤ 8) (hq17 : x.Away.length ≤ 8) (hq18 : MapsOK x.Maps) (hq19 : x.Maps.length ≤ 8) : 0 ≤ nx_Maps ∧ sumT (x.Maps.take 0) = (0 : Int) ∧ 0 ≤ (0 : Int) ∧ (0 : Int) ≤ 99 * (0 : Int) := by
  simp [sumT]
theorem z_c_impl_TornCopies_45 (x : Library) (nx_Maps : Nat) (hbdx_Maps : (nx_Maps : Int) ≤ 9223372036854775807) (hlex_Maps : nx_Maps = x.Maps.length) (nx_Away : Nat) (hbdx_Away : (nx_Away : Int) ≤ 9223372036854775807) (hlex_Away : nx_Away = x.Away.length) (hp0 : (nx_Maps : Int) ≤ 1048576) (h13 : LibOK x) (hq16 : MapsOK x.Maps ∧ x.Maps.length ≤ 8) (hq17 : x.Away.length ≤ 8) (hq18 : MapsOK x.Maps) (hq19 : x.Maps.length ≤ 8) (k : Nat) (t : Int) (hi26 : k ≤ nx_Maps ∧ sumT (x.Maps.take k) = t ∧ 0 ≤ t ∧ t ≤ 99 * (k : Int)) (h27 : (k : Int) < (nx_Maps : Int)) (hx29 : x.Maps[k]? = some (gt x.Maps k)) : k + 1 ≤ nx_Maps ∧ sumT (x.Maps.take (k + 1)) = t + ((gt x.Maps k).Torn) ∧ 0 ≤ t + ((gt x.Maps k).Torn) ∧ t + ((gt x.Maps k).Torn) ≤ 99 * (k + 1 : Int) := by
  have hh := ‹_ ∧ sumT _ = _ ∧ _›
  have hq := maps_rng ‹MapsOK _› ‹x.Maps[k]? = some _›
  exact ⟨by omega, by rw [sumT_snoc (by omega), hh.2.1], by omega, by omega⟩
theorem z_c_impl_TornCopies_46 (x : Library) (nx_Maps : Nat) (hbdx_Maps : (nx_Maps : Int) ≤ 9223372036854775807) (hlex_Maps : nx_Maps = x.Maps.length) (nx_Away : Nat) (hbdx_Away : (nx_Away : Int) ≤ 9223372036854775807) (hlex_Away : nx_Away = x.Away.length) (hp0 : (nx_Maps : Int) ≤ 1048576) (h13 : LibOK x) (hq16 : MapsOK x.Maps ∧ x.Maps.length ≤ 8) (hq17 : x.Away.length ≤ 8) (hq18 : MapsOK x.Maps) (hq19 : x.Maps.length ≤ 8) (k : Nat) (t : Int) (hi26 : k ≤ nx_Maps ∧ sumT (x.Maps.take k) = t ∧ 0 ≤ t ∧ t ≤ 99 * (k : Int)) (h27 : (k : Int) < (nx_Maps : Int)) (hx29 : x.Maps[k]? = some (gt x.Maps k)) : nx_Maps - (k + 1) < nx_Maps - k := by
  omega
theorem z_c_impl_TornCopies_47 (x : Library) (nx_Maps : Nat) (hbdx_Maps : (nx_Maps : Int) ≤ 9223372036854775807) (hlex_Maps : nx_Maps = x.Maps.length) (nx_Away : Nat) (hbdx_Away : (nx_Away : Int) ≤ 9223372036854775807) (hlex_Away : nx_Away = x.Away.length) (hp0 : (nx_Maps : Int) ≤ 1048576) (h13 : LibOK x) (hq16 : MapsOK x.Maps ∧ x.Maps.length ≤ 8) (hq17 : x.Away.length ≤ 8) (hq18 : MapsOK x.Maps) (hq19 : x.Maps.length ≤ 8) (k : Nat) (t : Int) (hi26 : k ≤ nx_Maps ∧ sumT (x.Maps.take k) = t ∧ 0 ≤ t ∧ t ≤ 99 * (k : Int)) (h27 : ¬ ((k : Int) < (nx_Maps : Int))) : t = (if LibOK x then sumT x.Maps else 0) := by
  rw [if_pos ‹_›]
  have hh := ‹_ ∧ sumT _ = _ ∧ _›
  rw [← hh.2.1, List.take_of_length_le (by omega)]
theorem z_c_impl_TornCopies_48 (x : Library) (nx_Maps : Nat) (hbdx_Maps : (nx_Maps : Int) ≤ 9223372036854775807) (hlex_Maps : nx_Maps = x.Maps.length) (nx_Away : Nat) (hbdx_Away : (nx_Away : Int) ≤ 9223372036854775807) (hlex_Away : nx_Away = x.Away.length) (hp0 : (nx_Maps : Int) ≤ 1048576) (h13 : LibOK x) (hq16 : MapsOK x.Maps ∧ x.Maps.length ≤ 8) (hq17 : x.Away.length ≤ 8) (hq18 : MapsOK x.Maps) (hq19 : x.Maps.length ≤ 8) (k : Nat) (t : Int) (hi26 : k ≤ nx_Maps ∧ sumT (x.Maps.take k) = t ∧ 0 ≤ t ∧ t ≤ 99 * (k : Int)) (h27 : ¬ ((k : Int) < (nx_Maps : Int))) : LibOK x := by
  assumption
theorem c_impl_TornCopies (w : World) (x : Library) {Ax_Maps : Option Addr} {nx_Maps cx_Maps Bx_Maps : Nat} (hx_Maps : SlR w Bx_Maps encLMap 3 Ax_Maps nx_Maps cx_Maps x.Maps) {Ax_Away : Option Addr} {nx_Away cx_Away Bx_Away : Nat} (hx_Away : SlR w Bx_Away encAway 2 Ax_Away nx_Away cx_Away x.Away) (hp0 : (nx_Maps : Int) ≤ 1048576) : Calls Try.prog 20 #[.agg (List.toArray [.slice Ax_Maps nx_Maps cx_Maps, .slice Ax_Away nx_Away cx_Away, .int .i64 x.Bought, .int .i64 x.Dropped, .int .i64 x.Mended])] w fun e w' => e = .returned (.tuple (List.toArray [.int .i64 (if LibOK x then sumT x.Maps else 0), .bool (decide (LibOK x))])) ∧ Lo w w' := by
  refine calls_W 23 Try.func20 rfl rfl rfl ?_
  have hbdx_Maps := hx_Maps.bound
  have hlex_Maps := hx_Maps.len
  have hBbx_Maps := hx_Maps.bd
  have hbdx_Away := hx_Away.bound
  have hlex_Away := hx_Away.len
  have hBbx_Away := hx_Away.bd
  refine W.seq ?_
  refine W.regS (SR.box (v := .agg (List.toArray _)) (l := [.slice Ax_Maps nx_Maps cx_Maps, .slice Ax_Away nx_Away cx_Away, .int .i64 x.Bought, .int .i64 x.Dropped, .int .i64 x.Mended]) rfl rfl ?_)
  intro g1 w2 hg3 hk4 hs5 hb6
  have hz7 := hk4.size
  have hB8 := (Lo.refl w).lo hk4
  refine SR.q' (r_as (v := .int .i64 0) rfl) <| SR.q' (r_as (v := .bool false) rfl) <| SR.nil ?_
  refine W.seq ?_
  refine W.seq ?_
  refine W.regS (SR.q' (r_lda (l := [.slice Ax_Maps nx_Maps cx_Maps, .slice Ax_Away nx_Away cx_Away, .int .i64 x.Bought, .int .i64 x.Dropped, .int .i64 x.Mended]) agg31 rfl (fun _ _ hu => (hb6).cell hu) rfl) <| SR.call ent15 (c_impl_IsLibrary w2 x (((hx_Maps).lo hk4)) (((hx_Away).lo hk4)) (by omega)) rfl ?_)
  rintro e w9 ⟨rfl, hk10⟩
  refine ⟨_, rfl, ?_⟩
  have hz11 := hk10.size
  have hB12 := hB8.lo hk10
  refine SR.q' (r_not rfl) <| SR.nil ?_
  refine W.cond_n rfl (fun h13 => ?_) (fun h13 => ?_)
  · refine W.seq ?_
    refine W.regS (SR.q' (r_as (v := .int .i64 0) rfl) <| SR.q' (r_as (v := .bool false) rfl) <| SR.nil ?_)
    refine W.ret ?_
    refine ret2 rfl (v := .int .i64 _) (v' := .bool _) rfl rfl ?_
    exact ⟨eR (eT2 (eI (z_c_impl_TornCopies_14 x nx_Maps hbdx_Maps hlex_Maps nx_Away hbdx_Away hlex_Away hp0 h13)) (eDF (z_c_impl_TornCopies_15 x nx_Maps hbdx_Maps hlex_Maps nx_Away hbdx_Away hlex_Away hp0 h13))), hB12⟩
  · have hq16 := And.left h13
    have hq17 := lib_len h13
    have hq18 := And.left hq16
    have hq19 := And.right hq16
    refine W.skip ?_
    refine W.seq ?_
    refine W.regS (SR.q' (r_as (v := .int .i64 0) rfl) <| SR.nil ?_)
    refine W.seq ?_
    refine W.seq ?_
    refine W.regS (SR.q' (r_fa fa31_0 rfl) <| SR.q' (r_ld (v := .slice Ax_Maps nx_Maps cx_Maps) sca28 rfl (((hb6).lo hk10).cell rfl)) <| SR.q' (r_len und28 rfl) <| SR.q' (r_mv (v := .int .i64 0) rfl) <| SR.nil ?_)
    refine W.block ?_
    refine W.loop (σ := Nat × Int) (fun g => [(2, .int .i64 0), (3, .bool false), (4, .int .i64 g.2), (11, .slice Ax_Maps nx_Maps cx_Maps), (12, .int .i64 (nx_Maps : Int)), (13, .int .i64 (g.1 : Int))]) (fun g w' => (Lo w w') ∧ (SlR w' Bx_Maps encLMap 3 Ax_Maps nx_Maps cx_Maps x.Maps) ∧ (g.1 ≤ nx_Maps ∧ sumT (x.Maps.take g.1) = g.2 ∧ 0 ≤ g.2 ∧ g.2 ≤ 99 * (g.1 : Int))) (fun g => nx_Maps - g.1) (0, (0 : Int)) ?_ ?_ ?_
    · exact ⟨rfl, rfl, rfl, rfl, rfl, rfl, trivial⟩
    · exact ⟨hB12, ((hx_Maps).lo hk4).lo hk10, (z_c_impl_TornCopies_20 x nx_Maps hbdx_Maps hlex_Maps nx_Away hbdx_Away hlex_Away hp0 h13 hq16 hq17 hq18 hq19)⟩
    · rintro ⟨k, t⟩ f21 w22 hP24
      obtain ⟨hB23, hm25, hi26⟩ : (Lo w w22) ∧ (SlR w22 Bx_Maps encLMap 3 Ax_Maps nx_Maps cx_Maps x.Maps) ∧ (k ≤ nx_Maps ∧ sumT (x.Maps.take k) = t ∧ 0 ≤ t ∧ t ≤ 99 * (k : Int)) := hP24
      refine (?_ : W _ _ _ _ _ (act _ (sets f21 [(2, .int .i64 0), (3, .bool false), (4, .int .i64 t), (11, .slice Ax_Maps nx_Maps cx_Maps), (12, .int .i64 (nx_Maps : Int)), (13, .int .i64 (k : Int))])) _)
      have hzw22 := hB23.size
      refine W.seq ?_
      refine W.regS (SR.q' (r_lt rfl rfl) <| SR.nil ?_)
      refine W.seq ?_
      refine W.cond_d rfl (fun h27 => ?_) (fun h27 => ?_)
      · refine W.skip ?_
        refine W.seq ?_
        refine W.block ?_
        refine W.seq ?_
        have hx29 := (hm25).elem (i := k) (by omega)
        have hq30 := maps_rng ‹MapsOK x.Maps› hx29
        refine W.regS (SR.q' (r_ixR tsl28 (hm25) rfl rfl (by omega)) <| SR.q' (r_lda (l := encLMap (gt x.Maps k)) agg73 rfl (fun _ _ hu => (hm25).cell hx29 hu) ((hm25).esz _)) <| SR.alloc (l := [.int .i64 0, .int .i64 0, .int .i64 0]) tz73 rfl ?_)
        intro g31 w32 hg33 hk34 hs35 hb36
        have hz37 := hk34.size
        have hB38 := hB23.lo hk34
        refine SR.store (o := 0) (vs := [.int .i64 ((gt x.Maps k).Id), .int .i64 ((gt x.Maps k).Copies), .int .i64 ((gt x.Maps k).Torn)]) agg73.2 rfl rfl rfl rfl (hb36) (Nat.le_of_ble_eq_true rfl) rfl ?_
        intro w39 hk40 hs41 hb42
        have hz43 := hk40.size
        have hB44 := hB38.new hk40 (by omega)
        refine SR.nil ?_
        refine W.regS (SR.q' (r_mv (v := .int .i64 _) rfl) <| SR.q' (r_fa fa73_2 rfl) <| SR.q' (r_ld (v := .int .i64 ((gt x.Maps k).Torn)) sca3 rfl ((hb42).cell rfl)) <| SR.q' (r_add rfl rfl (by omega)) <| SR.q' (r_as (v := .int .i64 _) rfl) <| SR.nil ?_)
        refine W.regS (SR.q' (r_add rfl rfl (by omega)) <| SR.q' (r_mv (v := .int .i64 _) rfl) <| SR.nil ?_)
        refine ⟨(k + 1, t + ((gt x.Maps k).Torn)), _, rfl, ⟨rfl, rfl, rfl, rfl, rfl, rfl, trivial⟩, ⟨hB44, ((hm25).lo hk34).kp hk40 (fun b_ hb e' => by have e'' : b_ = g31 := e'; omega), ?_⟩, ?_⟩
        · exact (z_c_impl_TornCopies_45 x nx_Maps hbdx_Maps hlex_Maps nx_Away hbdx_Away hlex_Away hp0 h13 hq16 hq17 hq18 hq19 k t hi26 h27 hx29)
        · exact (z_c_impl_TornCopies_46 x nx_Maps hbdx_Maps hlex_Maps nx_Away hbdx_Away hlex_Away hp0 h13 hq16 hq17 hq18 hq19 k t hi26 h27 hx29)
      · refine W.exit (xin_here ?_)
        refine W.seq ?_
        refine W.regS (SR.q' (r_mv (v := .int .i64 _) rfl) <| SR.q' (r_as (v := .int .i64 _) rfl) <| SR.q' (r_as (v := .bool true) rfl) <| SR.nil ?_)
        refine W.ret ?_
        refine ret2 rfl (v := .int .i64 _) (v' := .bool _) rfl rfl ?_
        exact ⟨eR (eT2 (eI (z_c_impl_TornCopies_47 x nx_Maps hbdx_Maps hlex_Maps nx_Away hbdx_Away hlex_Away hp0 h13 hq16 hq17 hq18 hq19 k t hi26 h27)) (eDT (z_c_impl_TornCopies_48 x nx_Maps hbdx_Maps hlex_Maps nx_Away hbdx_Away hlex_Away hp0 h13 hq16 hq17 hq18 hq19 k t hi26 h27))), hB23⟩

theorem z_c_spec_TornCopies_14 (x : Library) (nx_Maps : Nat) (hbdx_Maps : (nx_Maps : Int) ≤ 9223372036854775807) (hlex_Maps : nx_Maps = x.Maps.length) (nx_Away : Nat) (hbdx_Away : (nx_Away : Int) ≤ 9223372036854775807) (hlex_Away : nx_Away = x.Away.length) (h13 : ¬ (LibOK x)) : 0 = (if LibOK x then sumT x.Maps else 0) := by
  first | assumption | simp [*]
theorem z_c_spec_TornCopies_15 (x : Library) (nx_Maps : Nat) (hbdx_Maps : (nx_Maps : Int) ≤ 9223372036854775807) (hlex_Maps : nx_Maps = x.Maps.length) (nx_Away : Nat) (hbdx_Away : (nx_Away : Int) ≤ 9223372036854775807) (hlex_Away : nx_Away = x.Away.length) (h13 : ¬ (LibOK x)) : ¬ (LibOK x) := by
  first | assumption | simp [*]
theorem z_c_spec_TornCopies_25 (x : Library) (nx_Maps : Nat) (hbdx_Maps : (nx_Maps : Int) ≤ 9223372036854775807) (hlex_Maps : nx_Maps = x.Maps.length) (nx_Away : Nat) (hbdx_Away : (nx_Away : Int) ≤ 9223372036854775807) (hlex_Away : nx_Away = x.Away.length) (h13 : LibOK x) (hq16 : MapsOK x.Maps ∧ x.Maps.length ≤ 8) (hq17 : x.Away.length ≤ 8) (hq18 : MapsOK x.Maps) (hq19 : x.Maps.length ≤ 8) (hq24 : 0 ≤ (if true = true then sumT x.Maps else sumC x.Maps) ∧ (if true = true then sumT x.Maps else sumC x.Maps) ≤ 792) : (if true = true then sumT x.Maps else sumC x.Maps) = (if LibOK x then sumT x.Maps else 0) := by
  first | assumption | simp [*]
theorem z_c_spec_TornCopies_26 (x : Library) (nx_Maps : Nat) (hbdx_Maps : (nx_Maps : Int) ≤ 9223372036854775807) (hlex_Maps : nx_Maps = x.Maps.length) (nx_Away : Nat) (hbdx_Away : (nx_Away : Int) ≤ 9223372036854775807) (hlex_Away : nx_Away = x.Away.length) (h13 : LibOK x) (hq16 : MapsOK x.Maps ∧ x.Maps.length ≤ 8) (hq17 : x.Away.length ≤ 8) (hq18 : MapsOK x.Maps) (hq19 : x.Maps.length ≤ 8) (hq24 : 0 ≤ (if true = true then sumT x.Maps else sumC x.Maps) ∧ (if true = true then sumT x.Maps else sumC x.Maps) ≤ 792) : LibOK x := by
  first | assumption | simp [*]
theorem c_spec_TornCopies (w : World) (x : Library) {Ax_Maps : Option Addr} {nx_Maps cx_Maps Bx_Maps : Nat} (hx_Maps : SlR w Bx_Maps encLMap 3 Ax_Maps nx_Maps cx_Maps x.Maps) {Ax_Away : Option Addr} {nx_Away cx_Away Bx_Away : Nat} (hx_Away : SlR w Bx_Away encAway 2 Ax_Away nx_Away cx_Away x.Away) : Calls Try.prog 19 #[.agg (List.toArray [.slice Ax_Maps nx_Maps cx_Maps, .slice Ax_Away nx_Away cx_Away, .int .i64 x.Bought, .int .i64 x.Dropped, .int .i64 x.Mended])] w fun e w' => e = .returned (.tuple (List.toArray [.int .i64 (if LibOK x then sumT x.Maps else 0), .bool (decide (LibOK x))])) ∧ Lo w w' := by
  refine calls_W 9 Try.func19 rfl rfl rfl ?_
  have hbdx_Maps := hx_Maps.bound
  have hlex_Maps := hx_Maps.len
  have hBbx_Maps := hx_Maps.bd
  have hbdx_Away := hx_Away.bound
  have hlex_Away := hx_Away.len
  have hBbx_Away := hx_Away.bd
  refine W.seq ?_
  refine W.regS (SR.box (v := .agg (List.toArray _)) (l := [.slice Ax_Maps nx_Maps cx_Maps, .slice Ax_Away nx_Away cx_Away, .int .i64 x.Bought, .int .i64 x.Dropped, .int .i64 x.Mended]) rfl rfl ?_)
  intro g1 w2 hg3 hk4 hs5 hb6
  have hz7 := hk4.size
  have hB8 := (Lo.refl w).lo hk4
  refine SR.q' (r_as (v := .int .i64 0) rfl) <| SR.q' (r_as (v := .bool false) rfl) <| SR.nil ?_
  refine W.seq ?_
  refine W.seq ?_
  refine W.regS (SR.q' (r_lda (l := [.slice Ax_Maps nx_Maps cx_Maps, .slice Ax_Away nx_Away cx_Away, .int .i64 x.Bought, .int .i64 x.Dropped, .int .i64 x.Mended]) agg31 rfl (fun _ _ hu => (hb6).cell hu) rfl) <| SR.call ent48 (c_spec_l32Good w2 x (((hx_Maps).lo hk4)) (((hx_Away).lo hk4))) rfl ?_)
  rintro e w9 ⟨rfl, hk10⟩
  refine ⟨_, rfl, ?_⟩
  have hz11 := hk10.size
  have hB12 := hB8.lo hk10
  refine SR.q' (r_not rfl) <| SR.nil ?_
  refine W.cond_n rfl (fun h13 => ?_) (fun h13 => ?_)
  · refine W.seq ?_
    refine W.regS (SR.q' (r_as (v := .int .i64 0) rfl) <| SR.q' (r_as (v := .bool false) rfl) <| SR.nil ?_)
    refine W.ret ?_
    refine ret2 rfl (v := .int .i64 _) (v' := .bool _) rfl rfl ?_
    exact ⟨eR (eT2 (eI (z_c_spec_TornCopies_14 x nx_Maps hbdx_Maps hlex_Maps nx_Away hbdx_Away hlex_Away h13)) (eDF (z_c_spec_TornCopies_15 x nx_Maps hbdx_Maps hlex_Maps nx_Away hbdx_Away hlex_Away h13))), hB12⟩
  · have hq16 := And.left h13
    have hq17 := lib_len h13
    have hq18 := And.left hq16
    have hq19 := And.right hq16
    refine W.skip ?_
    refine W.seq ?_
    refine W.regS (SR.q' (r_lda (l := [.slice Ax_Maps nx_Maps cx_Maps, .slice Ax_Away nx_Away cx_Away, .int .i64 x.Bought, .int .i64 x.Dropped, .int .i64 x.Mended]) agg31 rfl (fun _ _ hu => ((hb6).lo hk10).cell hu) rfl) <| SR.call ent60 (c_spec_l32There w9 x ((((hx_Maps).lo hk4).lo hk10)) ((((hx_Away).lo hk4).lo hk10)) true (by first | assumption | exact MTo.end_ (And.right ‹_ ∧ MTo _ _›) (by omega)) (by omega)) rfl ?_)
    rintro e w20 ⟨rfl, hk21⟩
    refine ⟨_, rfl, ?_⟩
    have hz22 := hk21.size
    have hB23 := hB12.lo hk21
    have hq24 : 0 ≤ (if true = true then sumT x.Maps else sumC x.Maps) ∧ (if true = true then sumT x.Maps else sumC x.Maps) ≤ 792 := there_rng true ‹MapsOK _› (by omega)
    refine SR.q' (r_as (v := .int .i64 _) rfl) <| SR.q' (r_as (v := .bool true) rfl) <| SR.nil ?_
    refine W.ret ?_
    refine ret2 rfl (v := .int .i64 _) (v' := .bool _) rfl rfl ?_
    exact ⟨eR (eT2 (eI (z_c_spec_TornCopies_25 x nx_Maps hbdx_Maps hlex_Maps nx_Away hbdx_Away hlex_Away h13 hq16 hq17 hq18 hq19 hq24)) (eDT (z_c_spec_TornCopies_26 x nx_Maps hbdx_Maps hlex_Maps nx_Away hbdx_Away hlex_Away h13 hq16 hq17 hq18 hq19 hq24))), hB23⟩

theorem z_c__impl_Library__readersOf_10 (x : Library) (nx_Maps : Nat) (hbdx_Maps : (nx_Maps : Int) ≤ 9223372036854775807) (hlex_Maps : nx_Maps = x.Maps.length) (nx_Away : Nat) (hbdx_Away : (nx_Away : Int) ≤ 9223372036854775807) (hlex_Away : nx_Away = x.Away.length) (r : Int) (hp0 : nx_Away ≤ 8) : 0 ≤ nx_Away := by
  omega
theorem z_c__impl_Library__readersOf_11 (x : Library) (nx_Maps : Nat) (hbdx_Maps : (nx_Maps : Int) ≤ 9223372036854775807) (hlex_Maps : nx_Maps = x.Maps.length) (nx_Away : Nat) (hbdx_Away : (nx_Away : Int) ≤ 9223372036854775807) (hlex_Away : nx_Away = x.Away.length) (r : Int) (hp0 : nx_Away ≤ 8) : ([] : List Int) = selL (ofM r) Away.Reader (x.Away.take 0) := by
  rfl
theorem z_c__impl_Library__readersOf_59 (x : Library) (nx_Maps : Nat) (hbdx_Maps : (nx_Maps : Int) ≤ 9223372036854775807) (hlex_Maps : nx_Maps = x.Maps.length) (nx_Away : Nat) (hbdx_Away : (nx_Away : Int) ≤ 9223372036854775807) (hlex_Away : nx_Away = x.Away.length) (r : Int) (hp0 : nx_Away ≤ 8) (k : Nat) (n9 : Nat) (c9 : Nat) (hi18 : k ≤ nx_Away) (hl19 : n9 = (selL (ofM r) Away.Reader (x.Away.take k)).length) (hq21 : (selL (ofM r) Away.Reader (x.Away.take k)).length ≤ x.Away.length) (h22 : (k : Int) < (nx_Away : Int)) (hx24 : x.Away[k]? = some (gt x.Away k)) (h40 : ((gt x.Away k).Map) = r) : (selL (ofM r) Away.Reader (x.Away.take k)) ++ ([(gt x.Away k).Reader] : List Int) = selL (ofM r) Away.Reader (x.Away.take (k + 1)) := by
  first | exact sel_yes (by omega) (decide_eq_true ‹_›) | exact sel_no (by omega) (decide_eq_false ‹_›)
theorem z_c__impl_Library__readersOf_60 (x : Library) (nx_Maps : Nat) (hbdx_Maps : (nx_Maps : Int) ≤ 9223372036854775807) (hlex_Maps : nx_Maps = x.Maps.length) (nx_Away : Nat) (hbdx_Away : (nx_Away : Int) ≤ 9223372036854775807) (hlex_Away : nx_Away = x.Away.length) (r : Int) (hp0 : nx_Away ≤ 8) (k : Nat) (n9 : Nat) (c9 : Nat) (hi18 : k ≤ nx_Away) (hl19 : n9 = (selL (ofM r) Away.Reader (x.Away.take k)).length) (hq21 : (selL (ofM r) Away.Reader (x.Away.take k)).length ≤ x.Away.length) (h22 : (k : Int) < (nx_Away : Int)) (hx24 : x.Away[k]? = some (gt x.Away k)) (h40 : ((gt x.Away k).Map) = r) : k + 1 ≤ nx_Away := by
  omega
theorem z_c__impl_Library__readersOf_61 (x : Library) (nx_Maps : Nat) (hbdx_Maps : (nx_Maps : Int) ≤ 9223372036854775807) (hlex_Maps : nx_Maps = x.Maps.length) (nx_Away : Nat) (hbdx_Away : (nx_Away : Int) ≤ 9223372036854775807) (hlex_Away : nx_Away = x.Away.length) (r : Int) (hp0 : nx_Away ≤ 8) (k : Nat) (n9 : Nat) (c9 : Nat) (hi18 : k ≤ nx_Away) (hl19 : n9 = (selL (ofM r) Away.Reader (x.Away.take k)).length) (hq21 : (selL (ofM r) Away.Reader (x.Away.take k)).length ≤ x.Away.length) (h22 : (k : Int) < (nx_Away : Int)) (hx24 : x.Away[k]? = some (gt x.Away k)) (h40 : ((gt x.Away k).Map) = r) : nx_Away - (k + 1) < nx_Away - k := by
  omega
theorem z_c__impl_Library__readersOf_62 (x : Library) (nx_Maps : Nat) (hbdx_Maps : (nx_Maps : Int) ≤ 9223372036854775807) (hlex_Maps : nx_Maps = x.Maps.length) (nx_Away : Nat) (hbdx_Away : (nx_Away : Int) ≤ 9223372036854775807) (hlex_Away : nx_Away = x.Away.length) (r : Int) (hp0 : nx_Away ≤ 8) (k : Nat) (n9 : Nat) (c9 : Nat) (hi18 : k ≤ nx_Away) (hl19 : n9 = (selL (ofM r) Away.Reader (x.Away.take k)).length) (hq21 : (selL (ofM r) Away.Reader (x.Away.take k)).length ≤ x.Away.length) (h22 : (k : Int) < (nx_Away : Int)) (hx24 : x.Away[k]? = some (gt x.Away k)) (h40 : ¬ (((gt x.Away k).Map) = r)) : selL (ofM r) Away.Reader (x.Away.take k) = selL (ofM r) Away.Reader (x.Away.take (k + 1)) := by
  first | exact sel_yes (by omega) (decide_eq_true ‹_›) | exact sel_no (by omega) (decide_eq_false ‹_›)
theorem z_c__impl_Library__readersOf_63 (x : Library) (nx_Maps : Nat) (hbdx_Maps : (nx_Maps : Int) ≤ 9223372036854775807) (hlex_Maps : nx_Maps = x.Maps.length) (nx_Away : Nat) (hbdx_Away : (nx_Away : Int) ≤ 9223372036854775807) (hlex_Away : nx_Away = x.Away.length) (r : Int) (hp0 : nx_Away ≤ 8) (k : Nat) (n9 : Nat) (c9 : Nat) (hi18 : k ≤ nx_Away) (hl19 : n9 = (selL (ofM r) Away.Reader (x.Away.take k)).length) (hq21 : (selL (ofM r) Away.Reader (x.Away.take k)).length ≤ x.Away.length) (h22 : (k : Int) < (nx_Away : Int)) (hx24 : x.Away[k]? = some (gt x.Away k)) (h40 : ¬ (((gt x.Away k).Map) = r)) : k + 1 ≤ nx_Away := by
  omega
theorem z_c__impl_Library__readersOf_64 (x : Library) (nx_Maps : Nat) (hbdx_Maps : (nx_Maps : Int) ≤ 9223372036854775807) (hlex_Maps : nx_Maps = x.Maps.length) (nx_Away : Nat) (hbdx_Away : (nx_Away : Int) ≤ 9223372036854775807) (hlex_Away : nx_Away = x.Away.length) (r : Int) (hp0 : nx_Away ≤ 8) (k : Nat) (n9 : Nat) (c9 : Nat) (hi18 : k ≤ nx_Away) (hl19 : n9 = (selL (ofM r) Away.Reader (x.Away.take k)).length) (hq21 : (selL (ofM r) Away.Reader (x.Away.take k)).length ≤ x.Away.length) (h22 : (k : Int) < (nx_Away : Int)) (hx24 : x.Away[k]? = some (gt x.Away k)) (h40 : ¬ (((gt x.Away k).Map) = r)) : nx_Away - (k + 1) < nx_Away - k := by
  omega
theorem z_c__impl_Library__readersOf_65 (x : Library) (nx_Maps : Nat) (hbdx_Maps : (nx_Maps : Int) ≤ 9223372036854775807) (hlex_Maps : nx_Maps = x.Maps.length) (nx_Away : Nat) (hbdx_Away : (nx_Away : Int) ≤ 9223372036854775807) (hlex_Away : nx_Away = x.Away.length) (r : Int) (hp0 : nx_Away ≤ 8) (k : Nat) (n9 : Nat) (c9 : Nat) (hi18 : k ≤ nx_Away) (hl19 : n9 = (selL (ofM r) Away.Reader (x.Away.take k)).length) (hq21 : (selL (ofM r) Away.Reader (x.Away.take k)).length ≤ x.Away.length) (h22 : ¬ ((k : Int) < (nx_Away : Int))) : selL (ofM r) Away.Reader (x.Away.take k) = selL (ofM r) Away.Reader x.Away := by
  exact sel_end (by omega)
theorem c__impl_Library__readersOf (w : World) (x : Library) {Ax_Maps : Option Addr} {nx_Maps cx_Maps Bx_Maps : Nat} (hx_Maps : SlR w Bx_Maps encLMap 3 Ax_Maps nx_Maps cx_Maps x.Maps) {Ax_Away : Option Addr} {nx_Away cx_Away Bx_Away : Nat} (hx_Away : SlR w Bx_Away encAway 2 Ax_Away nx_Away cx_Away x.Away) (r : Int) (hp0 : nx_Away ≤ 8) : Calls Try.prog 66 #[.agg (List.toArray [.slice Ax_Maps nx_Maps cx_Maps, .slice Ax_Away nx_Away cx_Away, .int .i64 x.Bought, .int .i64 x.Dropped, .int .i64 x.Mended]), .int .i64 r] w fun e w' => ∃ (A1' : Option Addr) (n1' c1' : Nat), e = .returned (.slice A1' n1' c1') ∧ SlO w' w.heap.size encI 1 3 A1' n1' c1' (selL (ofM r) Away.Reader x.Away) ∧ Lo w w' := by
  refine calls_W 26 Try.func66 rfl rfl rfl ?_
  have hbdx_Maps := hx_Maps.bound
  have hlex_Maps := hx_Maps.len
  have hBbx_Maps := hx_Maps.bd
  have hbdx_Away := hx_Away.bound
  have hlex_Away := hx_Away.len
  have hBbx_Away := hx_Away.bd
  refine W.seq ?_
  refine W.regS (SR.box (v := .agg (List.toArray _)) (l := [.slice Ax_Maps nx_Maps cx_Maps, .slice Ax_Away nx_Away cx_Away, .int .i64 x.Bought, .int .i64 x.Dropped, .int .i64 x.Mended]) rfl rfl ?_)
  intro g1 w2 hg3 hk4 hs5 hb6
  have hz7 := hk4.size
  have hB8 := (Lo.refl w).lo hk4
  refine SR.q' (r_as (v := .slice none 0 0) rfl) <| SR.nil ?_
  refine W.seq ?_
  refine W.regS (SR.q' (r_as (v := .slice none 0 0) rfl) <| SR.nil ?_)
  refine W.seq ?_
  refine W.seq ?_
  refine W.regS (SR.q' (r_fa fa31_1 rfl) <| SR.q' (r_ld (v := .slice Ax_Away nx_Away cx_Away) sca29 rfl ((hb6).cell rfl)) <| SR.q' (r_len und29 rfl) <| SR.q' (r_mv (v := .int .i64 0) rfl) <| SR.nil ?_)
  refine W.block ?_
  refine W.loop (σ := Nat × (Option Addr) × Nat × Nat) (fun g => [(1, .int .i64 r), (4, .slice none 0 0), (5, .slice g.2.1 g.2.2.1 g.2.2.2), (9, .slice Ax_Away nx_Away cx_Away), (10, .int .i64 (nx_Away : Int)), (11, .int .i64 (g.1 : Int))]) (fun g w' => (Lo w w') ∧ (SlR w' Bx_Away encAway 2 Ax_Away nx_Away cx_Away x.Away) ∧ (SlO w' w.heap.size encI 1 3 g.2.1 g.2.2.1 g.2.2.2 (selL (ofM r) Away.Reader (x.Away.take g.1))) ∧ (g.1 ≤ nx_Away)) (fun g => nx_Away - g.1) (0, (none : Option Addr), 0, 0) ?_ ?_ ?_
  · exact ⟨rfl, rfl, rfl, rfl, rfl, rfl, trivial⟩
  · exact ⟨hB8, (hx_Away).lo hk4, (SlO.eqv (SlO.nil (base := w.heap.size) (e := 3) (enc := encI) (fun _ => rfl) (by omega)) (z_c__impl_Library__readersOf_11 x nx_Maps hbdx_Maps hlex_Maps nx_Away hbdx_Away hlex_Away r hp0)), (z_c__impl_Library__readersOf_10 x nx_Maps hbdx_Maps hlex_Maps nx_Away hbdx_Away hlex_Away r hp0)⟩
  · rintro ⟨k, A9, n9, c9⟩ f12 w13 hP15
    obtain ⟨hB14, hm16, hO17, hi18⟩ : (Lo w w13) ∧ (SlR w13 Bx_Away encAway 2 Ax_Away nx_Away cx_Away x.Away) ∧ (SlO w13 w.heap.size encI 1 3 A9 n9 c9 (selL (ofM r) Away.Reader (x.Away.take k))) ∧ (k ≤ nx_Away) := hP15
    refine (?_ : W _ _ _ _ _ (act _ (sets f12 [(1, .int .i64 r), (4, .slice none 0 0), (5, .slice A9 n9 c9), (9, .slice Ax_Away nx_Away cx_Away), (10, .int .i64 (nx_Away : Int)), (11, .int .i64 (k : Int))])) _)
    have hzw13 := hB14.size
    have hl19 := hO17.len
    have hl20 := hO17.rd.bound
    have hq21 := sel_lenT x.Away k (ofM r) Away.Reader
    refine W.seq ?_
    refine W.regS (SR.q' (r_lt rfl rfl) <| SR.nil ?_)
    refine W.seq ?_
    refine W.cond_d rfl (fun h22 => ?_) (fun h22 => ?_)
    · refine W.skip ?_
      refine W.seq ?_
      refine W.block ?_
      refine W.seq ?_
      have hx24 := (hm16).elem (i := k) (by omega)
      refine W.regS (SR.q' (r_ixR tsl29 (hm16) rfl rfl (by omega)) <| SR.q' (r_lda (l := encAway (gt x.Away k)) agg77 rfl (fun _ _ hu => (hm16).cell hx24 hu) ((hm16).esz _)) <| SR.alloc (l := [.int .i64 0, .int .i64 0]) tz77 rfl ?_)
      intro g25 w26 hg27 hk28 hs29 hb30
      have hz31 := hk28.size
      have hB32 := hB14.lo hk28
      have hd33 : ¬ A9 = some ⟨g25, 0, none⟩ := fun e' => by have := (hO17).base_le e'; omega
      refine SR.store (o := 0) (vs := [.int .i64 ((gt x.Away k).Map), .int .i64 ((gt x.Away k).Reader)]) agg77.2 rfl rfl rfl rfl (hb30) (Nat.le_of_ble_eq_true rfl) rfl ?_
      intro w34 hk35 hs36 hb37
      have hz38 := hk35.size
      have hB39 := hB32.new hk35 (by omega)
      refine SR.nil ?_
      refine W.seq ?_
      refine W.regS (SR.q' (r_fa fa77_0 rfl) <| SR.q' (r_ld (v := .int .i64 ((gt x.Away k).Map)) sca3 rfl ((hb37).cell rfl)) <| SR.q' (r_mv (v := .int .i64 _) rfl) <| SR.q' (r_eq rfl rfl) <| SR.nil ?_)
      refine W.cond_d rfl (fun h40 => ?_) (fun h40 => ?_)
      · refine W.regS (SR.q' (r_mv (v := .slice _ _ _) rfl) <| SR.q' (r_fa fa77_1 rfl) <| SR.q' (r_ld (v := .int .i64 ((gt x.Away k).Reader)) sca3 rfl ((hb37).cell rfl)) <| SR.lit (vs := [.int .i64 ((gt x.Away k).Reader)]) (L := ([(gt x.Away k).Reader] : List Int)) (enc := encI) tel37 (fun _ => rfl) rfl rfl rfl (by decide) ?_)
        intro g41 w42 hg43 hk44 hO45
        have hz46 := hk44.size
        have hB47 := hB39.lo hk44
        have hd48 : ¬ A9 = some ⟨g41, 0, none⟩ := fun e' => by have := (((hO17).lo hk28).kp hk35 (fun b_ hb e' => hd33 (by have e'' : b_ = g25 := e'; rw [← e'']; exact hb))).base_le e'; omega
        refine SR.app tel37 rfl rfl ((((hO17).lo hk28).kp hk35 (fun b_ hb e' => hd33 (by have e'' : b_ = g25 := e'; rw [← e'']; exact hb))).lo hk44) ((hO45).rd) (fun _ => rfl) (by omega) (by omega) ?_
        intro A49 c50 w51 hk52 hO53 hN54
        have hz55 := hk52.size
        have hB56 := hB47.step hk52 (fun i_ hi_ e' => by have := (((((hO17).lo hk28).kp hk35 (fun b_ hb e' => hd33 (by have e'' : b_ = g25 := e'; rw [← e'']; exact hb))).lo hk44)).base_le e'; first | omega | (exfalso; omega) | exact e' | exact .inl e' | exact .inr e')
        have hd57 : ¬ A49 = some ⟨g25, 0, none⟩ := fun e' => (hN54 g25 e').elim (fun h => hd33 (h.trans e')) (fun h => by have := ((hb37).lo hk44).lt; omega)
        refine SR.q' (r_as (v := .slice _ _ _) rfl) <| SR.nil ?_
        refine W.regS (SR.q' (r_add rfl rfl (by omega)) <| SR.q' (r_mv (v := .int .i64 _) rfl) <| SR.nil ?_)
        refine ⟨(k + 1, A49, n9 + 1, c50), _, rfl, ⟨rfl, rfl, rfl, rfl, rfl, rfl, trivial⟩, ⟨hB56, ((((hm16).lo hk28).kp hk35 (fun b_ hb e' => by have e'' : b_ = g25 := e'; omega)).lo hk44).kp hk52 (fun b_ hb e' => by have := (((((hO17).lo hk28).kp hk35 (fun b_ hb e' => hd33 (by have e'' : b_ = g25 := e'; rw [← e'']; exact hb))).lo hk44)).base_le e'; omega), (SlO.eqv (hO53) (z_c__impl_Library__readersOf_59 x nx_Maps hbdx_Maps hlex_Maps nx_Away hbdx_Away hlex_Away r hp0 k n9 c9 hi18 hl19 hq21 h22 hx24 h40)), ?_⟩, ?_⟩
        · exact (z_c__impl_Library__readersOf_60 x nx_Maps hbdx_Maps hlex_Maps nx_Away hbdx_Away hlex_Away r hp0 k n9 c9 hi18 hl19 hq21 h22 hx24 h40)
        · exact (z_c__impl_Library__readersOf_61 x nx_Maps hbdx_Maps hlex_Maps nx_Away hbdx_Away hlex_Away r hp0 k n9 c9 hi18 hl19 hq21 h22 hx24 h40)
      · refine W.skip ?_
        refine W.regS (SR.q' (r_add rfl rfl (by omega)) <| SR.q' (r_mv (v := .int .i64 _) rfl) <| SR.nil ?_)
        refine ⟨(k + 1, A9, n9, c9), _, rfl, ⟨rfl, rfl, rfl, rfl, rfl, rfl, trivial⟩, ⟨hB39, ((hm16).lo hk28).kp hk35 (fun b_ hb e' => by have e'' : b_ = g25 := e'; omega), (SlO.eqv (((hO17).lo hk28).kp hk35 (fun b_ hb e' => hd33 (by have e'' : b_ = g25 := e'; rw [← e'']; exact hb))) (z_c__impl_Library__readersOf_62 x nx_Maps hbdx_Maps hlex_Maps nx_Away hbdx_Away hlex_Away r hp0 k n9 c9 hi18 hl19 hq21 h22 hx24 h40)), ?_⟩, ?_⟩
        · exact (z_c__impl_Library__readersOf_63 x nx_Maps hbdx_Maps hlex_Maps nx_Away hbdx_Away hlex_Away r hp0 k n9 c9 hi18 hl19 hq21 h22 hx24 h40)
        · exact (z_c__impl_Library__readersOf_64 x nx_Maps hbdx_Maps hlex_Maps nx_Away hbdx_Away hlex_Away r hp0 k n9 c9 hi18 hl19 hq21 h22 hx24 h40)
    · refine W.exit (xin_here ?_)
      refine W.seq ?_
      refine W.regS (SR.q' (r_mv (v := .slice _ _ _) rfl) <| SR.q' (r_as (v := .slice _ _ _) rfl) <| SR.nil ?_)
      refine W.ret ?_
      refine ret1 rfl (v := .slice _ _ _) rfl ?_
      exact ⟨A9, n9, c9, eR rfl, (SlO.eqv ((hO17).down (by omega)) (z_c__impl_Library__readersOf_65 x nx_Maps hbdx_Maps hlex_Maps nx_Away hbdx_Away hlex_Away r hp0 k n9 c9 hi18 hl19 hq21 h22)), hB14⟩

theorem z_c_spec_l32At_17 (x : Library) (nx_Maps : Nat) (hbdx_Maps : (nx_Maps : Int) ≤ 9223372036854775807) (hlex_Maps : nx_Maps = x.Maps.length) (nx_Away : Nat) (hbdx_Away : (nx_Away : Int) ≤ 9223372036854775807) (hlex_Away : nx_Away = x.Away.length) (r : Int) (hp0 : nx_Away ≤ 8) : 0 ≤ nx_Away := by
  omega
theorem z_c_spec_l32At_18 (x : Library) (nx_Maps : Nat) (hbdx_Maps : (nx_Maps : Int) ≤ 9223372036854775807) (hlex_Maps : nx_Maps = x.Maps.length) (nx_Away : Nat) (hbdx_Away : (nx_Away : Int) ≤ 9223372036854775807) (hlex_Away : nx_Away = x.Away.length) (r : Int) (hp0 : nx_Away ≤ 8) : ([] : List Int) = selL (ofM r) Away.Reader (x.Away.take 0) := by
  rfl
theorem z_c_spec_l32At_55 (x : Library) (nx_Maps : Nat) (hbdx_Maps : (nx_Maps : Int) ≤ 9223372036854775807) (hlex_Maps : nx_Maps = x.Maps.length) (nx_Away : Nat) (hbdx_Away : (nx_Away : Int) ≤ 9223372036854775807) (hlex_Away : nx_Away = x.Away.length) (r : Int) (hp0 : nx_Away ≤ 8) (k : Nat) (n16 : Nat) (c16 : Nat) (hi27 : k ≤ nx_Away) (hl30 : n16 = (selL (ofM r) Away.Reader (x.Away.take k)).length) (hq32 : (selL (ofM r) Away.Reader (x.Away.take k)).length ≤ x.Away.length) (h33 : (k : Int) < (nx_Away : Int)) (hx35 : x.Away[k]? = some (gt x.Away k)) (h36 : ((gt x.Away k).Map) = r) : (selL (ofM r) Away.Reader (x.Away.take k)) ++ ([(gt x.Away k).Reader] : List Int) = selL (ofM r) Away.Reader (x.Away.take (k + 1)) := by
  first | exact sel_yes (by omega) (decide_eq_true ‹_›) | exact sel_no (by omega) (decide_eq_false ‹_›)
theorem z_c_spec_l32At_56 (x : Library) (nx_Maps : Nat) (hbdx_Maps : (nx_Maps : Int) ≤ 9223372036854775807) (hlex_Maps : nx_Maps = x.Maps.length) (nx_Away : Nat) (hbdx_Away : (nx_Away : Int) ≤ 9223372036854775807) (hlex_Away : nx_Away = x.Away.length) (r : Int) (hp0 : nx_Away ≤ 8) (k : Nat) (n16 : Nat) (c16 : Nat) (hi27 : k ≤ nx_Away) (hl30 : n16 = (selL (ofM r) Away.Reader (x.Away.take k)).length) (hq32 : (selL (ofM r) Away.Reader (x.Away.take k)).length ≤ x.Away.length) (h33 : (k : Int) < (nx_Away : Int)) (hx35 : x.Away[k]? = some (gt x.Away k)) (h36 : ((gt x.Away k).Map) = r) : k + 1 ≤ nx_Away := by
  omega
theorem z_c_spec_l32At_57 (x : Library) (nx_Maps : Nat) (hbdx_Maps : (nx_Maps : Int) ≤ 9223372036854775807) (hlex_Maps : nx_Maps = x.Maps.length) (nx_Away : Nat) (hbdx_Away : (nx_Away : Int) ≤ 9223372036854775807) (hlex_Away : nx_Away = x.Away.length) (r : Int) (hp0 : nx_Away ≤ 8) (k : Nat) (n16 : Nat) (c16 : Nat) (hi27 : k ≤ nx_Away) (hl30 : n16 = (selL (ofM r) Away.Reader (x.Away.take k)).length) (hq32 : (selL (ofM r) Away.Reader (x.Away.take k)).length ≤ x.Away.length) (h33 : (k : Int) < (nx_Away : Int)) (hx35 : x.Away[k]? = some (gt x.Away k)) (h36 : ((gt x.Away k).Map) = r) : nx_Away - (k + 1) < nx_Away - k := by
  omega
theorem z_c_spec_l32At_58 (x : Library) (nx_Maps : Nat) (hbdx_Maps : (nx_Maps : Int) ≤ 9223372036854775807) (hlex_Maps : nx_Maps = x.Maps.length) (nx_Away : Nat) (hbdx_Away : (nx_Away : Int) ≤ 9223372036854775807) (hlex_Away : nx_Away = x.Away.length) (r : Int) (hp0 : nx_Away ≤ 8) (k : Nat) (n16 : Nat) (c16 : Nat) (hi27 : k ≤ nx_Away) (hl30 : n16 = (selL (ofM r) Away.Reader (x.Away.take k)).length) (hq32 : (selL (ofM r) Away.Reader (x.Away.take k)).length ≤ x.Away.length) (h33 : (k : Int) < (nx_Away : Int)) (hx35 : x.Away[k]? = some (gt x.Away k)) (h36 : ¬ (((gt x.Away k).Map) = r)) : selL (ofM r) Away.Reader (x.Away.take k) = selL (ofM r) Away.Reader (x.Away.take (k + 1)) := by
  first | exact sel_yes (by omega) (decide_eq_true ‹_›) | exact sel_no (by omega) (decide_eq_false ‹_›)
theorem z_c_spec_l32At_59 (x : Library) (nx_Maps : Nat) (hbdx_Maps : (nx_Maps : Int) ≤ 9223372036854775807) (hlex_Maps : nx_Maps = x.Maps.length) (nx_Away : Nat) (hbdx_Away : (nx_Away : Int) ≤ 9223372036854775807) (hlex_Away : nx_Away = x.Away.length) (r : Int) (hp0 : nx_Away ≤ 8) (k : Nat) (n16 : Nat) (c16 : Nat) (hi27 : k ≤ nx_Away) (hl30 : n16 = (selL (ofM r) Away.Reader (x.Away.take k)).length) (hq32 : (selL (ofM r) Away.Reader (x.Away.take k)).length ≤ x.Away.length) (h33 : (k : Int) < (nx_Away : Int)) (hx35 : x.Away[k]? = some (gt x.Away k)) (h36 : ¬ (((gt x.Away k).Map) = r)) : k + 1 ≤ nx_Away := by
  omega
theorem z_c_spec_l32At_60 (x : Library) (nx_Maps : Nat) (hbdx_Maps : (nx_Maps : Int) ≤ 9223372036854775807) (hlex_Maps : nx_Maps = x.Maps.length) (nx_Away : Nat) (hbdx_Away : (nx_Away : Int) ≤ 9223372036854775807) (hlex_Away : nx_Away = x.Away.length) (r : Int) (hp0 : nx_Away ≤ 8) (k : Nat) (n16 : Nat) (c16 : Nat) (hi27 : k ≤ nx_Away) (hl30 : n16 = (selL (ofM r) Away.Reader (x.Away.take k)).length) (hq32 : (selL (ofM r) Away.Reader (x.Away.take k)).length ≤ x.Away.length) (h33 : (k : Int) < (nx_Away : Int)) (hx35 : x.Away[k]? = some (gt x.Away k)) (h36 : ¬ (((gt x.Away k).Map) = r)) : nx_Away - (k + 1) < nx_Away - k := by
  omega
theorem z_c_spec_l32At_61 (x : Library) (nx_Maps : Nat) (hbdx_Maps : (nx_Maps : Int) ≤ 9223372036854775807) (hlex_Maps : nx_Maps = x.Maps.length) (nx_Away : Nat) (hbdx_Away : (nx_Away : Int) ≤ 9223372036854775807) (hlex_Away : nx_Away = x.Away.length) (r : Int) (hp0 : nx_Away ≤ 8) (k : Nat) (n16 : Nat) (c16 : Nat) (hi27 : k ≤ nx_Away) (hl30 : n16 = (selL (ofM r) Away.Reader (x.Away.take k)).length) (hq32 : (selL (ofM r) Away.Reader (x.Away.take k)).length ≤ x.Away.length) (h33 : ¬ ((k : Int) < (nx_Away : Int))) : selL (ofM r) Away.Reader (x.Away.take k) = selL (ofM r) Away.Reader x.Away := by
  exact sel_end (by omega)
theorem c_spec_l32At (w : World) (x : Library) {Ax_Maps : Option Addr} {nx_Maps cx_Maps Bx_Maps : Nat} (hx_Maps : SlR w Bx_Maps encLMap 3 Ax_Maps nx_Maps cx_Maps x.Maps) {Ax_Away : Option Addr} {nx_Away cx_Away Bx_Away : Nat} (hx_Away : SlR w Bx_Away encAway 2 Ax_Away nx_Away cx_Away x.Away) (r : Int) (hp0 : nx_Away ≤ 8) : Calls Try.prog 65 #[.agg (List.toArray [.slice Ax_Maps nx_Maps cx_Maps, .slice Ax_Away nx_Away cx_Away, .int .i64 x.Bought, .int .i64 x.Dropped, .int .i64 x.Mended]), .int .i64 r] w fun e w' => ∃ (A1' : Option Addr) (n1' c1' : Nat), e = .returned (.slice A1' n1' c1') ∧ SlO w' w.heap.size encI 1 3 A1' n1' c1' (selL (ofM r) Away.Reader x.Away) ∧ Lo w w' := by
  refine calls_W 33 Try.func65 rfl rfl rfl ?_
  have hbdx_Maps := hx_Maps.bound
  have hlex_Maps := hx_Maps.len
  have hBbx_Maps := hx_Maps.bd
  have hbdx_Away := hx_Away.bound
  have hlex_Away := hx_Away.len
  have hBbx_Away := hx_Away.bd
  refine W.seq ?_
  refine W.regS (SR.box (v := .agg (List.toArray _)) (l := [.slice Ax_Maps nx_Maps cx_Maps, .slice Ax_Away nx_Away cx_Away, .int .i64 x.Bought, .int .i64 x.Dropped, .int .i64 x.Mended]) rfl rfl ?_)
  intro g1 w2 hg3 hk4 hs5 hb6
  have hz7 := hk4.size
  have hB8 := (Lo.refl w).lo hk4
  refine SR.q' (r_as (v := .slice none 0 0) rfl) <| SR.nil ?_
  refine W.seq ?_
  refine W.regS (SR.lit (vs := []) (L := ([] : List Int)) (enc := encI) tel37 (fun _ => rfl) rfl rfl rfl (by decide) ?_)
  intro g9 w10 hg11 hk12 hO13
  have hz14 := hk12.size
  have hB15 := hB8.lo hk12
  refine SR.q' (r_as (v := .slice _ _ _) rfl) <| SR.nil ?_
  refine W.seq ?_
  refine W.seq ?_
  refine W.regS (SR.q' (r_as (v := .int .i64 0) rfl) <| SR.nil ?_)
  refine W.block ?_
  refine W.loop (σ := Nat × (Option Addr) × Nat × Nat) (fun g => [(1, .int .i64 r), (2, .pointer (some ((⟨g1, 0, none⟩ : Addr)))), (4, .slice none 0 0), (5, .slice g.2.1 g.2.2.1 g.2.2.2), (6, .int .i64 (g.1 : Int))]) (fun g w' => (Lo w w') ∧ (Blk w' g1 31 [.slice Ax_Maps nx_Maps cx_Maps, .slice Ax_Away nx_Away cx_Away, .int .i64 x.Bought, .int .i64 x.Dropped, .int .i64 x.Mended]) ∧ (SlR w' Bx_Maps encLMap 3 Ax_Maps nx_Maps cx_Maps x.Maps) ∧ (SlR w' Bx_Away encAway 2 Ax_Away nx_Away cx_Away x.Away) ∧ (SlO w' w.heap.size encI 1 3 g.2.1 g.2.2.1 g.2.2.2 (selL (ofM r) Away.Reader (x.Away.take g.1))) ∧ (¬ g.2.1 = some ⟨g1, 0, none⟩) ∧ (g.1 ≤ nx_Away)) (fun g => nx_Away - g.1) (0, (some (⟨g9, 0, none⟩ : Addr)), 0, 0) ?_ ?_ ?_
  · exact ⟨rfl, rfl, rfl, rfl, rfl, trivial⟩
  · show (Lo w w10) ∧ (Blk w10 g1 31 [.slice Ax_Maps nx_Maps cx_Maps, .slice Ax_Away nx_Away cx_Away, .int .i64 x.Bought, .int .i64 x.Dropped, .int .i64 x.Mended]) ∧ (SlR w10 Bx_Maps encLMap 3 Ax_Maps nx_Maps cx_Maps x.Maps) ∧ (SlR w10 Bx_Away encAway 2 Ax_Away nx_Away cx_Away x.Away) ∧ (SlO w10 w.heap.size encI 1 3 (some (⟨g9, 0, none⟩ : Addr)) 0 0 (selL (ofM r) Away.Reader (x.Away.take 0))) ∧ (¬ (some (⟨g9, 0, none⟩ : Addr)) = some ⟨g1, 0, none⟩) ∧ (0 ≤ nx_Away)
    exact ⟨hB15, (hb6).lo hk12, ((hx_Maps).lo hk4).lo hk12, ((hx_Away).lo hk4).lo hk12, (SlO.eqv ((hO13).down (by omega)) (z_c_spec_l32At_18 x nx_Maps hbdx_Maps hlex_Maps nx_Away hbdx_Away hlex_Away r hp0)), (fun e' => by have := (hO13).base_le e'; omega), (z_c_spec_l32At_17 x nx_Maps hbdx_Maps hlex_Maps nx_Away hbdx_Away hlex_Away r hp0)⟩
  · rintro ⟨k, A16, n16, c16⟩ f19 w20 hP22
    obtain ⟨hB21, hm23, hm24, hm25, hO26, hd28, hi27⟩ : (Lo w w20) ∧ (Blk w20 g1 31 [.slice Ax_Maps nx_Maps cx_Maps, .slice Ax_Away nx_Away cx_Away, .int .i64 x.Bought, .int .i64 x.Dropped, .int .i64 x.Mended]) ∧ (SlR w20 Bx_Maps encLMap 3 Ax_Maps nx_Maps cx_Maps x.Maps) ∧ (SlR w20 Bx_Away encAway 2 Ax_Away nx_Away cx_Away x.Away) ∧ (SlO w20 w.heap.size encI 1 3 A16 n16 c16 (selL (ofM r) Away.Reader (x.Away.take k))) ∧ (¬ A16 = some ⟨g1, 0, none⟩) ∧ (k ≤ nx_Away) := hP22
    refine (?_ : W _ _ _ _ _ (act _ (sets f19 [(1, .int .i64 r), (2, .pointer (some ((⟨g1, 0, none⟩ : Addr)))), (4, .slice none 0 0), (5, .slice A16 n16 c16), (6, .int .i64 (k : Int))])) _)
    have hzw20 := hB21.size
    have hl29 := hm23.lt
    have hl30 := hO26.len
    have hl31 := hO26.rd.bound
    have hq32 := sel_lenT x.Away k (ofM r) Away.Reader
    refine W.seq ?_
    refine W.seq ?_
    refine W.regS (SR.q' (r_mv (v := .int .i64 _) rfl) <| SR.q' (r_fa fa31_1 rfl) <| SR.q' (r_ld (v := .slice Ax_Away nx_Away cx_Away) sca29 rfl ((hm23).cell rfl)) <| SR.q' (r_len und29 rfl) <| SR.q' (r_lt rfl rfl) <| SR.nil ?_)
    refine W.cond_d rfl (fun h33 => ?_) (fun h33 => ?_)
    · refine W.skip ?_
      refine W.seq ?_
      refine W.block ?_
      refine W.seq ?_
      refine W.regS (SR.q' (r_fa fa31_1 rfl) <| SR.q' (r_ld (v := .slice Ax_Away nx_Away cx_Away) sca29 rfl ((hm23).cell rfl)) <| SR.q' (r_mv (v := .int .i64 _) rfl) <| ?_)
      have hx35 := (hm25).elem (i := k) (by omega)
      refine SR.q' (r_ixR tsl29 (hm25) rfl rfl (by omega)) <| SR.q' (r_fa fa77_0 rfl) <| SR.q' (r_ld (v := .int .i64 ((gt x.Away k).Map)) sca3 rfl ((hm25).cell hx35 rfl)) <| SR.q' (r_mv (v := .int .i64 _) rfl) <| SR.q' (r_eq rfl rfl) <| SR.nil ?_
      refine W.cond_d rfl (fun h36 => ?_) (fun h36 => ?_)
      · refine W.regS (SR.q' (r_mv (v := .slice _ _ _) rfl) <| SR.q' (r_fa fa31_1 rfl) <| SR.q' (r_ld (v := .slice Ax_Away nx_Away cx_Away) sca29 rfl ((hm23).cell rfl)) <| SR.q' (r_mv (v := .int .i64 _) rfl) <| SR.q' (r_ixR tsl29 (hm25) rfl rfl (by omega)) <| SR.q' (r_fa fa77_1 rfl) <| SR.q' (r_ld (v := .int .i64 ((gt x.Away k).Reader)) sca3 rfl ((hm25).cell hx35 rfl)) <| SR.lit (vs := [.int .i64 ((gt x.Away k).Reader)]) (L := ([(gt x.Away k).Reader] : List Int)) (enc := encI) tel37 (fun _ => rfl) rfl rfl rfl (by decide) ?_)
        intro g37 w38 hg39 hk40 hO41
        have hz42 := hk40.size
        have hB43 := hB21.lo hk40
        have hd44 : ¬ A16 = some ⟨g37, 0, none⟩ := fun e' => by have := (hO26).base_le e'; omega
        refine SR.app tel37 rfl rfl ((hO26).lo hk40) ((hO41).rd) (fun _ => rfl) (by omega) (by omega) ?_
        intro A45 c46 w47 hk48 hO49 hN50
        have hz51 := hk48.size
        have hB52 := hB43.step hk48 (fun i_ hi_ e' => by have := (((hO26).lo hk40)).base_le e'; first | omega | (exfalso; omega) | exact e' | exact .inl e' | exact .inr e')
        have hd53 : ¬ A45 = some ⟨g1, 0, none⟩ := fun e' => (hN50 g1 e').elim (fun h => hd28 (h.trans e')) (fun h => by have := ((hm23).lo hk40).lt; omega)
        refine SR.q' (r_as (v := .slice _ _ _) rfl) <| SR.nil ?_
        refine W.regS (SR.q' (r_mv (v := .int .i64 _) rfl) <| SR.q' (r_add rfl rfl (by omega)) <| SR.q' (r_as (v := .int .i64 _) rfl) <| SR.nil ?_)
        refine ⟨(k + 1, A45, n16 + 1, c46), _, rfl, ⟨rfl, rfl, rfl, rfl, rfl, trivial⟩, (show (Lo w w47) ∧ (Blk w47 g1 31 [.slice Ax_Maps nx_Maps cx_Maps, .slice Ax_Away nx_Away cx_Away, .int .i64 x.Bought, .int .i64 x.Dropped, .int .i64 x.Mended]) ∧ (SlR w47 Bx_Maps encLMap 3 Ax_Maps nx_Maps cx_Maps x.Maps) ∧ (SlR w47 Bx_Away encAway 2 Ax_Away nx_Away cx_Away x.Away) ∧ (SlO w47 w.heap.size encI 1 3 A45 (n16 + 1) c46 (selL (ofM r) Away.Reader (x.Away.take (k + 1)))) ∧ (¬ A45 = some ⟨g1, 0, none⟩) ∧ (k + 1 ≤ nx_Away) from ⟨hB52, ((hm23).lo hk40).kp hk48 (fun e' => hd28 e'), ((hm24).lo hk40).kp hk48 (fun b_ hb e' => by have := (((hO26).lo hk40)).base_le e'; omega), ((hm25).lo hk40).kp hk48 (fun b_ hb e' => by have := (((hO26).lo hk40)).base_le e'; omega), (SlO.eqv (hO49) (z_c_spec_l32At_55 x nx_Maps hbdx_Maps hlex_Maps nx_Away hbdx_Away hlex_Away r hp0 k n16 c16 hi27 hl30 hq32 h33 hx35 h36)), hd53, ?_⟩), ?_⟩
        · exact (z_c_spec_l32At_56 x nx_Maps hbdx_Maps hlex_Maps nx_Away hbdx_Away hlex_Away r hp0 k n16 c16 hi27 hl30 hq32 h33 hx35 h36)
        · exact (z_c_spec_l32At_57 x nx_Maps hbdx_Maps hlex_Maps nx_Away hbdx_Away hlex_Away r hp0 k n16 c16 hi27 hl30 hq32 h33 hx35 h36)
      · refine W.skip ?_
        refine W.regS (SR.q' (r_mv (v := .int .i64 _) rfl) <| SR.q' (r_add rfl rfl (by omega)) <| SR.q' (r_as (v := .int .i64 _) rfl) <| SR.nil ?_)
        refine ⟨(k + 1, A16, n16, c16), _, rfl, ⟨rfl, rfl, rfl, rfl, rfl, trivial⟩, (show (Lo w w20) ∧ (Blk w20 g1 31 [.slice Ax_Maps nx_Maps cx_Maps, .slice Ax_Away nx_Away cx_Away, .int .i64 x.Bought, .int .i64 x.Dropped, .int .i64 x.Mended]) ∧ (SlR w20 Bx_Maps encLMap 3 Ax_Maps nx_Maps cx_Maps x.Maps) ∧ (SlR w20 Bx_Away encAway 2 Ax_Away nx_Away cx_Away x.Away) ∧ (SlO w20 w.heap.size encI 1 3 A16 n16 c16 (selL (ofM r) Away.Reader (x.Away.take (k + 1)))) ∧ (¬ A16 = some ⟨g1, 0, none⟩) ∧ (k + 1 ≤ nx_Away) from ⟨hB21, hm23, hm24, hm25, (SlO.eqv (hO26) (z_c_spec_l32At_58 x nx_Maps hbdx_Maps hlex_Maps nx_Away hbdx_Away hlex_Away r hp0 k n16 c16 hi27 hl30 hq32 h33 hx35 h36)), hd28, ?_⟩), ?_⟩
        · exact (z_c_spec_l32At_59 x nx_Maps hbdx_Maps hlex_Maps nx_Away hbdx_Away hlex_Away r hp0 k n16 c16 hi27 hl30 hq32 h33 hx35 h36)
        · exact (z_c_spec_l32At_60 x nx_Maps hbdx_Maps hlex_Maps nx_Away hbdx_Away hlex_Away r hp0 k n16 c16 hi27 hl30 hq32 h33 hx35 h36)
    · refine W.exit (xin_here ?_)
      refine W.seq ?_
      refine W.regS (SR.q' (r_mv (v := .slice _ _ _) rfl) <| SR.q' (r_as (v := .slice _ _ _) rfl) <| SR.nil ?_)
      refine W.ret ?_
      refine ret1 rfl (v := .slice _ _ _) rfl ?_
      exact ⟨A16, n16, c16, eR rfl, (SlO.eqv ((hO26).down (by omega)) (z_c_spec_l32At_61 x nx_Maps hbdx_Maps hlex_Maps nx_Away hbdx_Away hlex_Away r hp0 k n16 c16 hi27 hl30 hq32 h33)), hB21⟩

theorem z_c_impl_ReadersOf_26 (x : Library) (nx_Maps : Nat) (hbdx_Maps : (nx_Maps : Int) ≤ 9223372036854775807) (hlex_Maps : nx_Maps = x.Maps.length) (nx_Away : Nat) (hbdx_Away : (nx_Away : Int) ≤ 9223372036854775807) (hlex_Away : nx_Away = x.Away.length) (id : Int) (hp0 : (nx_Maps : Int) ≤ 1048576) (hq13 : bsP cmpM id x.Maps ≤ x.Maps.length) (h25 : (¬ (bsF cmpM id x.Maps)) ∨ (¬ (LibOK x))) : ([] : List Int) = (if LibOK x ∧ 0 ≤ idxF (hasId id) x.Maps then selL (ofM id) Away.Reader x.Away else []) := by
  first | (rw [if_pos (ro_yes ‹_› ‹_›)]) | (rw [if_neg (ro_no ‹_›)])
theorem z_c_impl_ReadersOf_27 (x : Library) (nx_Maps : Nat) (hbdx_Maps : (nx_Maps : Int) ≤ 9223372036854775807) (hlex_Maps : nx_Maps = x.Maps.length) (nx_Away : Nat) (hbdx_Away : (nx_Away : Int) ≤ 9223372036854775807) (hlex_Away : nx_Away = x.Away.length) (id : Int) (hp0 : (nx_Maps : Int) ≤ 1048576) (hq13 : bsP cmpM id x.Maps ≤ x.Maps.length) (h25 : (¬ (bsF cmpM id x.Maps)) ∨ (¬ (LibOK x))) : ¬ (LibOK x ∧ 0 ≤ idxF (hasId id) x.Maps) := by
  first | exact ro_yes ‹_› ‹_› | exact ro_no ‹_›
theorem z_c_impl_ReadersOf_44 (x : Library) (nx_Maps : Nat) (hbdx_Maps : (nx_Maps : Int) ≤ 9223372036854775807) (hlex_Maps : nx_Maps = x.Maps.length) (nx_Away : Nat) (hbdx_Away : (nx_Away : Int) ≤ 9223372036854775807) (hlex_Away : nx_Away = x.Away.length) (id : Int) (hp0 : (nx_Maps : Int) ≤ 1048576) (hq13 : bsP cmpM id x.Maps ≤ x.Maps.length) (h25 : ¬ ((¬ (bsF cmpM id x.Maps)) ∨ (¬ (LibOK x)))) (hq28 : bsF cmpM id x.Maps) (hq29 : LibOK x) (hq30 : MapsOK x.Maps ∧ x.Maps.length ≤ 8) (hq31 : x.Away.length ≤ 8) (hq32 : MapsOK x.Maps) (hq33 : x.Maps.length ≤ 8) (n37 : Nat) (hl42 : n37 = (selL (ofM id) Away.Reader x.Away).length) (hl43 : (n37 : Int) ≤ 9223372036854775807) : selL (ofM id) Away.Reader x.Away = (if LibOK x ∧ 0 ≤ idxF (hasId id) x.Maps then selL (ofM id) Away.Reader x.Away else []) := by
  first | (rw [if_pos (ro_yes ‹_› ‹_›)]) | (rw [if_neg (ro_no ‹_›)])
theorem z_c_impl_ReadersOf_45 (x : Library) (nx_Maps : Nat) (hbdx_Maps : (nx_Maps : Int) ≤ 9223372036854775807) (hlex_Maps : nx_Maps = x.Maps.length) (nx_Away : Nat) (hbdx_Away : (nx_Away : Int) ≤ 9223372036854775807) (hlex_Away : nx_Away = x.Away.length) (id : Int) (hp0 : (nx_Maps : Int) ≤ 1048576) (hq13 : bsP cmpM id x.Maps ≤ x.Maps.length) (h25 : ¬ ((¬ (bsF cmpM id x.Maps)) ∨ (¬ (LibOK x)))) (hq28 : bsF cmpM id x.Maps) (hq29 : LibOK x) (hq30 : MapsOK x.Maps ∧ x.Maps.length ≤ 8) (hq31 : x.Away.length ≤ 8) (hq32 : MapsOK x.Maps) (hq33 : x.Maps.length ≤ 8) (n37 : Nat) (hl42 : n37 = (selL (ofM id) Away.Reader x.Away).length) (hl43 : (n37 : Int) ≤ 9223372036854775807) : LibOK x ∧ 0 ≤ idxF (hasId id) x.Maps := by
  first | exact ro_yes ‹_› ‹_› | exact ro_no ‹_›
theorem c_impl_ReadersOf (w : World) (x : Library) {Ax_Maps : Option Addr} {nx_Maps cx_Maps Bx_Maps : Nat} (hx_Maps : SlR w Bx_Maps encLMap 3 Ax_Maps nx_Maps cx_Maps x.Maps) {Ax_Away : Option Addr} {nx_Away cx_Away Bx_Away : Nat} (hx_Away : SlR w Bx_Away encAway 2 Ax_Away nx_Away cx_Away x.Away) (id : Int) (hp0 : (nx_Maps : Int) ≤ 1048576) : Calls Try.prog 30 #[.agg (List.toArray [.slice Ax_Maps nx_Maps cx_Maps, .slice Ax_Away nx_Away cx_Away, .int .i64 x.Bought, .int .i64 x.Dropped, .int .i64 x.Mended]), .int .i64 id] w fun e w' => ∃ (A1' : Option Addr) (n1' c1' : Nat), e = .returned (.tuple (List.toArray [.slice A1' n1' c1', .bool (decide (LibOK x ∧ 0 ≤ idxF (hasId id) x.Maps))])) ∧ SlO w' w.heap.size encI 1 3 A1' n1' c1' (if LibOK x ∧ 0 ≤ idxF (hasId id) x.Maps then selL (ofM id) Away.Reader x.Away else []) ∧ Lo w w' := by
  refine calls_W 24 Try.func30 rfl rfl rfl ?_
  have hbdx_Maps := hx_Maps.bound
  have hlex_Maps := hx_Maps.len
  have hBbx_Maps := hx_Maps.bd
  have hbdx_Away := hx_Away.bound
  have hlex_Away := hx_Away.len
  have hBbx_Away := hx_Away.bd
  refine W.seq ?_
  refine W.regS (SR.box (v := .agg (List.toArray _)) (l := [.slice Ax_Maps nx_Maps cx_Maps, .slice Ax_Away nx_Away cx_Away, .int .i64 x.Bought, .int .i64 x.Dropped, .int .i64 x.Mended]) rfl rfl ?_)
  intro g1 w2 hg3 hk4 hs5 hb6
  have hz7 := hk4.size
  have hB8 := (Lo.refl w).lo hk4
  refine SR.q' (r_as (v := .slice none 0 0) rfl) <| SR.q' (r_as (v := .bool false) rfl) <| SR.nil ?_
  refine W.seq ?_
  refine W.seq ?_
  refine W.regS (SR.q' (r_lda (l := [.slice Ax_Maps nx_Maps cx_Maps, .slice Ax_Away nx_Away cx_Away, .int .i64 x.Bought, .int .i64 x.Dropped, .int .i64 x.Mended]) agg31 rfl (fun _ _ hu => (hb6).cell hu) rfl) <| SR.q' (r_mv (v := .int .i64 _) rfl) <| SR.call ent53 (c__impl_Library__mapAt w2 x (((hx_Maps).lo hk4)) (((hx_Away).lo hk4)) id (by omega)) rfl ?_)
  rintro e w9 ⟨rfl, hk10⟩
  refine ⟨_, rfl, ?_⟩
  have hz11 := hk10.size
  have hB12 := hB8.lo hk10
  have hq13 : bsP cmpM id x.Maps ≤ x.Maps.length := bsP_le
  refine SR.q' (r_mv (v := .tuple (List.toArray _)) rfl) <| SR.q' (r_ext (v := .int .i64 _) rfl rfl) <| SR.q' (r_ext (v := .bool _) rfl rfl) <| SR.q' (r_as (v := .int .i64 _) rfl) <| SR.q' (r_as (v := .bool _) rfl) <| SR.nil ?_
  refine W.seq ?_
  refine W.regJS (fun f' w' => At f' [(1, .int .i64 id), (2, .pointer (some ((⟨g1, 0, none⟩ : Addr)))), (4, .slice none 0 0), (5, .bool false), (20, .bool (decide ((¬ (bsF cmpM id x.Maps)) ∨ (¬ (LibOK x)))))] ∧ Lo w9 w') ?_ ?_
  · refine SR.q' (r_mv (v := .bool _) rfl) <| SR.q' (r_not rfl) <| SR.q' (r_mv (v := .bool _) rfl) <| SR.splitN (fun h14 => ?_) (fun h14 => ?_)
    · refine SR.s' rfl <| SR.s' rfl <| SR.s' rfl <| SR.q' (r_pick true rfl (v := .bool true) rfl) <| SR.nil ?_
      exact ⟨_, rfl, ⟨⟨rfl, rfl, rfl, rfl, (eDT ((jmf h14).1 trivial)), trivial⟩, (Lo.refl _)⟩⟩
    · refine SR.g' rfl (r_lda (l := [.slice Ax_Maps nx_Maps cx_Maps, .slice Ax_Away nx_Away cx_Away, .int .i64 x.Bought, .int .i64 x.Dropped, .int .i64 x.Mended]) agg31 rfl (fun _ _ hu => ((hb6).lo hk10).cell hu) rfl) <| SR.gcall rfl ent15 (c_impl_IsLibrary w9 x ((((hx_Maps).lo hk4).lo hk10)) ((((hx_Away).lo hk4).lo hk10)) (by omega)) rfl ?_
      rintro e w15 ⟨rfl, hk16⟩
      refine ⟨_, rfl, ?_⟩
      have hz17 := hk16.size
      have hB18 := hB12.lo hk16
      refine SR.g' rfl (r_not rfl) <| SR.q' (r_pick false rfl (v := .bool _) rfl) <| SR.nil ?_
      exact ⟨_, rfl, ⟨⟨rfl, rfl, rfl, rfl, (eND (jmt h14)), trivial⟩, (hk16)⟩⟩
  rintro f19 w20 ⟨hat21, hk22⟩
  rw [← sets_of_at hat21]
  have hz23 := hk22.size
  have hB24 := hB12.lo hk22
  refine W.cond_d rfl (fun h25 => ?_) (fun h25 => ?_)
  · refine W.seq ?_
    refine W.regS (SR.q' (r_as (v := .slice none 0 0) rfl) <| SR.q' (r_as (v := .bool false) rfl) <| SR.nil ?_)
    refine W.ret ?_
    refine ret2 rfl (v := .slice none 0 0) (v' := .bool _) rfl rfl ?_
    exact ⟨none, 0, 0, eR (eT2 rfl (eDF (z_c_impl_ReadersOf_27 x nx_Maps hbdx_Maps hlex_Maps nx_Away hbdx_Away hlex_Away id hp0 hq13 h25))), (SlO.eqv (SlO.nil (e := 3) (enc := encI) (fun _ => rfl) (by omega)) (z_c_impl_ReadersOf_26 x nx_Maps hbdx_Maps hlex_Maps nx_Away hbdx_Away hlex_Away id hp0 hq13 h25)), hB24⟩
  · have hq28 : bsF cmpM id x.Maps := (Classical.not_not.1 (not_or.1 h25).1)
    have hq29 : LibOK x := (Classical.not_not.1 (not_or.1 h25).2)
    have hq30 := And.left hq29
    have hq31 := lib_len hq29
    have hq32 := And.left hq30
    have hq33 := And.right hq30
    refine W.skip ?_
    refine W.seq ?_
    refine W.regS (SR.q' (r_lda (l := [.slice Ax_Maps nx_Maps cx_Maps, .slice Ax_Away nx_Away cx_Away, .int .i64 x.Bought, .int .i64 x.Dropped, .int .i64 x.Mended]) agg31 rfl (fun _ _ hu => (((hb6).lo hk10).lo hk22).cell hu) rfl) <| SR.q' (r_mv (v := .int .i64 _) rfl) <| SR.call ent66 (c__impl_Library__readersOf w20 x (((((hx_Maps).lo hk4).lo hk10).lo hk22)) (((((hx_Away).lo hk4).lo hk10).lo hk22)) id (by omega)) rfl ?_)
    rintro e w34 ⟨A36, n37, c38, rfl, hO39, hk35⟩
    refine ⟨_, rfl, ?_⟩
    have hz40 := hk35.size
    have hB41 := hB24.lo hk35
    have hl42 := hO39.len
    have hl43 := hO39.rd.bound
    refine SR.q' (r_as (v := .slice _ _ _) rfl) <| SR.q' (r_as (v := .bool true) rfl) <| SR.nil ?_
    refine W.ret ?_
    refine ret2 rfl (v := .slice _ _ _) (v' := .bool _) rfl rfl ?_
    exact ⟨A36, n37, c38, eR (eT2 rfl (eDT (z_c_impl_ReadersOf_45 x nx_Maps hbdx_Maps hlex_Maps nx_Away hbdx_Away hlex_Away id hp0 hq13 h25 hq28 hq29 hq30 hq31 hq32 hq33 n37 hl42 hl43))), (SlO.eqv ((hO39).down (by omega)) (z_c_impl_ReadersOf_44 x nx_Maps hbdx_Maps hlex_Maps nx_Away hbdx_Away hlex_Away id hp0 hq13 h25 hq28 hq29 hq30 hq31 hq32 hq33 n37 hl42 hl43)), hB41⟩

theorem z_c_spec_ReadersOf_37 (x : Library) (nx_Maps : Nat) (hbdx_Maps : (nx_Maps : Int) ≤ 9223372036854775807) (hlex_Maps : nx_Maps = x.Maps.length) (nx_Away : Nat) (hbdx_Away : (nx_Away : Int) ≤ 9223372036854775807) (hlex_Away : nx_Away = x.Away.length) (id : Int) (h29 : (¬ (LibOK x)) ∨ ((idxF (hasId id) x.Maps) < 0)) : ([] : List Int) = (if LibOK x ∧ 0 ≤ idxF (hasId id) x.Maps then selL (ofM id) Away.Reader x.Away else []) := by
  first | (rw [if_pos ⟨‹LibOK x›, by omega⟩]) | (rw [if_neg (ro_noS ‹_›)])
theorem z_c_spec_ReadersOf_38 (x : Library) (nx_Maps : Nat) (hbdx_Maps : (nx_Maps : Int) ≤ 9223372036854775807) (hlex_Maps : nx_Maps = x.Maps.length) (nx_Away : Nat) (hbdx_Away : (nx_Away : Int) ≤ 9223372036854775807) (hlex_Away : nx_Away = x.Away.length) (id : Int) (h29 : (¬ (LibOK x)) ∨ ((idxF (hasId id) x.Maps) < 0)) : ¬ (LibOK x ∧ 0 ≤ idxF (hasId id) x.Maps) := by
  first | exact ⟨‹LibOK x›, by omega⟩ | exact ro_noS ‹_›
theorem z_c_spec_ReadersOf_56 (x : Library) (nx_Maps : Nat) (hbdx_Maps : (nx_Maps : Int) ≤ 9223372036854775807) (hlex_Maps : nx_Maps = x.Maps.length) (nx_Away : Nat) (hbdx_Away : (nx_Away : Int) ≤ 9223372036854775807) (hlex_Away : nx_Away = x.Away.length) (id : Int) (h29 : ¬ ((¬ (LibOK x)) ∨ ((idxF (hasId id) x.Maps) < 0))) (hq39 : LibOK x) (hq40 : ¬ ((idxF (hasId id) x.Maps) < 0)) (hq41 : MapsOK x.Maps ∧ x.Maps.length ≤ 8) (hq42 : x.Away.length ≤ 8) (hq43 : 0 ≤ (idxF (hasId id) x.Maps)) (hq44 : MapsOK x.Maps) (hq45 : x.Maps.length ≤ 8) (n49 : Nat) (hl54 : n49 = (selL (ofM id) Away.Reader x.Away).length) (hl55 : (n49 : Int) ≤ 9223372036854775807) : selL (ofM id) Away.Reader x.Away = (if LibOK x ∧ 0 ≤ idxF (hasId id) x.Maps then selL (ofM id) Away.Reader x.Away else []) := by
  first | (rw [if_pos ⟨‹LibOK x›, by omega⟩]) | (rw [if_neg (ro_noS ‹_›)])
theorem z_c_spec_ReadersOf_57 (x : Library) (nx_Maps : Nat) (hbdx_Maps : (nx_Maps : Int) ≤ 9223372036854775807) (hlex_Maps : nx_Maps = x.Maps.length) (nx_Away : Nat) (hbdx_Away : (nx_Away : Int) ≤ 9223372036854775807) (hlex_Away : nx_Away = x.Away.length) (id : Int) (h29 : ¬ ((¬ (LibOK x)) ∨ ((idxF (hasId id) x.Maps) < 0))) (hq39 : LibOK x) (hq40 : ¬ ((idxF (hasId id) x.Maps) < 0)) (hq41 : MapsOK x.Maps ∧ x.Maps.length ≤ 8) (hq42 : x.Away.length ≤ 8) (hq43 : 0 ≤ (idxF (hasId id) x.Maps)) (hq44 : MapsOK x.Maps) (hq45 : x.Maps.length ≤ 8) (n49 : Nat) (hl54 : n49 = (selL (ofM id) Away.Reader x.Away).length) (hl55 : (n49 : Int) ≤ 9223372036854775807) : LibOK x ∧ 0 ≤ idxF (hasId id) x.Maps := by
  first | exact ⟨‹LibOK x›, by omega⟩ | exact ro_noS ‹_›
theorem c_spec_ReadersOf (w : World) (x : Library) {Ax_Maps : Option Addr} {nx_Maps cx_Maps Bx_Maps : Nat} (hx_Maps : SlR w Bx_Maps encLMap 3 Ax_Maps nx_Maps cx_Maps x.Maps) {Ax_Away : Option Addr} {nx_Away cx_Away Bx_Away : Nat} (hx_Away : SlR w Bx_Away encAway 2 Ax_Away nx_Away cx_Away x.Away) (id : Int) : Calls Try.prog 29 #[.agg (List.toArray [.slice Ax_Maps nx_Maps cx_Maps, .slice Ax_Away nx_Away cx_Away, .int .i64 x.Bought, .int .i64 x.Dropped, .int .i64 x.Mended]), .int .i64 id] w fun e w' => ∃ (A1' : Option Addr) (n1' c1' : Nat), e = .returned (.tuple (List.toArray [.slice A1' n1' c1', .bool (decide (LibOK x ∧ 0 ≤ idxF (hasId id) x.Maps))])) ∧ SlO w' w.heap.size encI 1 3 A1' n1' c1' (if LibOK x ∧ 0 ≤ idxF (hasId id) x.Maps then selL (ofM id) Away.Reader x.Away else []) ∧ Lo w w' := by
  refine calls_W 19 Try.func29 rfl rfl rfl ?_
  have hbdx_Maps := hx_Maps.bound
  have hlex_Maps := hx_Maps.len
  have hBbx_Maps := hx_Maps.bd
  have hbdx_Away := hx_Away.bound
  have hlex_Away := hx_Away.len
  have hBbx_Away := hx_Away.bd
  refine W.seq ?_
  refine W.regS (SR.box (v := .agg (List.toArray _)) (l := [.slice Ax_Maps nx_Maps cx_Maps, .slice Ax_Away nx_Away cx_Away, .int .i64 x.Bought, .int .i64 x.Dropped, .int .i64 x.Mended]) rfl rfl ?_)
  intro g1 w2 hg3 hk4 hs5 hb6
  have hz7 := hk4.size
  have hB8 := (Lo.refl w).lo hk4
  refine SR.q' (r_as (v := .slice none 0 0) rfl) <| SR.q' (r_as (v := .bool false) rfl) <| SR.nil ?_
  refine W.seq ?_
  refine W.seq ?_
  refine W.regJS (fun f' w' => At f' [(1, .int .i64 id), (2, .pointer (some ((⟨g1, 0, none⟩ : Addr)))), (4, .slice none 0 0), (5, .bool false), (14, .bool (decide ((¬ (LibOK x)) ∨ ((idxF (hasId id) x.Maps) < 0))))] ∧ Lo w2 w') ?_ ?_
  · refine SR.q' (r_lda (l := [.slice Ax_Maps nx_Maps cx_Maps, .slice Ax_Away nx_Away cx_Away, .int .i64 x.Bought, .int .i64 x.Dropped, .int .i64 x.Mended]) agg31 rfl (fun _ _ hu => (hb6).cell hu) rfl) <| SR.call ent48 (c_spec_l32Good w2 x (((hx_Maps).lo hk4)) (((hx_Away).lo hk4))) rfl ?_
    rintro e w9 ⟨rfl, hk10⟩
    refine ⟨_, rfl, ?_⟩
    have hz11 := hk10.size
    have hB12 := hB8.lo hk10
    refine SR.q' (r_not rfl) <| SR.q' (r_mv (v := .bool _) rfl) <| SR.splitN (fun h13 => ?_) (fun h13 => ?_)
    · refine SR.s' rfl <| SR.s' rfl <| SR.s' rfl <| SR.s' rfl <| SR.q' (r_pick true rfl (v := .bool true) rfl) <| SR.nil ?_
      exact ⟨_, rfl, ⟨⟨rfl, rfl, rfl, rfl, (eDT ((jmf h13).1 trivial)), trivial⟩, (hk10)⟩⟩
    · have hq14 := And.left h13
      have hq15 := lib_len h13
      have hq16 := And.left hq14
      have hq17 := And.right hq14
      refine SR.g' rfl (r_lda (l := [.slice Ax_Maps nx_Maps cx_Maps, .slice Ax_Away nx_Away cx_Away, .int .i64 x.Bought, .int .i64 x.Dropped, .int .i64 x.Mended]) agg31 rfl (fun _ _ hu => ((hb6).lo hk10).cell hu) rfl) <| SR.g' rfl (r_mv (v := .int .i64 _) rfl) <| SR.gcall rfl ent64 (c_spec_l32Map w9 x ((((hx_Maps).lo hk4).lo hk10)) ((((hx_Away).lo hk4).lo hk10)) id) rfl ?_
      rintro e w18 ⟨rfl, hk19⟩
      refine ⟨_, rfl, ?_⟩
      have hz20 := hk19.size
      have hB21 := hB12.lo hk19
      have hq22 : idxF (hasId id) x.Maps < (x.Maps.length : Int) ∧ -1 ≤ idxF (hasId id) x.Maps := idx_lt
      refine SR.g' rfl (r_lt rfl rfl) <| SR.q' (r_pick false rfl (v := .bool _) rfl) <| SR.nil ?_
      exact ⟨_, rfl, ⟨⟨rfl, rfl, rfl, rfl, (eDD (jmt h13)), trivial⟩, ((hk10).trans hk19)⟩⟩
  rintro f23 w24 ⟨hat25, hk26⟩
  rw [← sets_of_at hat25]
  have hz27 := hk26.size
  have hB28 := hB8.lo hk26
  refine W.cond_d rfl (fun h29 => ?_) (fun h29 => ?_)
  · refine W.seq ?_
    refine W.regS (SR.lit (vs := []) (L := ([] : List Int)) (enc := encI) tel37 (fun _ => rfl) rfl rfl rfl (by decide) ?_)
    intro g30 w31 hg32 hk33 hO34
    have hz35 := hk33.size
    have hB36 := hB28.lo hk33
    refine SR.q' (r_as (v := .slice _ _ _) rfl) <| SR.q' (r_as (v := .bool false) rfl) <| SR.nil ?_
    refine W.ret ?_
    refine ret2 rfl (v := .slice _ _ _) (v' := .bool _) rfl rfl ?_
    exact ⟨(some (⟨g30, 0, none⟩ : Addr)), 0, 0, eR (eT2 rfl (eDF (z_c_spec_ReadersOf_38 x nx_Maps hbdx_Maps hlex_Maps nx_Away hbdx_Away hlex_Away id h29))), (SlO.eqv ((hO34).down (by omega)) (z_c_spec_ReadersOf_37 x nx_Maps hbdx_Maps hlex_Maps nx_Away hbdx_Away hlex_Away id h29)), hB36⟩
  · have hq39 : LibOK x := (Classical.not_not.1 (not_or.1 h29).1)
    have hq40 : ¬ ((idxF (hasId id) x.Maps) < 0) := (not_or.1 h29).2
    have hq41 := And.left hq39
    have hq42 := lib_len hq39
    have hq43 := Int.not_lt.1 hq40
    have hq44 := And.left hq41
    have hq45 := And.right hq41
    refine W.skip ?_
    refine W.seq ?_
    refine W.regS (SR.q' (r_lda (l := [.slice Ax_Maps nx_Maps cx_Maps, .slice Ax_Away nx_Away cx_Away, .int .i64 x.Bought, .int .i64 x.Dropped, .int .i64 x.Mended]) agg31 rfl (fun _ _ hu => ((hb6).lo hk26).cell hu) rfl) <| SR.q' (r_mv (v := .int .i64 _) rfl) <| SR.call ent65 (c_spec_l32At w24 x ((((hx_Maps).lo hk4).lo hk26)) ((((hx_Away).lo hk4).lo hk26)) id (by omega)) rfl ?_)
    rintro e w46 ⟨A48, n49, c50, rfl, hO51, hk47⟩
    refine ⟨_, rfl, ?_⟩
    have hz52 := hk47.size
    have hB53 := hB28.lo hk47
    have hl54 := hO51.len
    have hl55 := hO51.rd.bound
    refine SR.q' (r_as (v := .slice _ _ _) rfl) <| SR.q' (r_as (v := .bool true) rfl) <| SR.nil ?_
    refine W.ret ?_
    refine ret2 rfl (v := .slice _ _ _) (v' := .bool _) rfl rfl ?_
    exact ⟨A48, n49, c50, eR (eT2 rfl (eDT (z_c_spec_ReadersOf_57 x nx_Maps hbdx_Maps hlex_Maps nx_Away hbdx_Away hlex_Away id h29 hq39 hq40 hq41 hq42 hq43 hq44 hq45 n49 hl54 hl55))), (SlO.eqv ((hO51).down (by omega)) (z_c_spec_ReadersOf_56 x nx_Maps hbdx_Maps hlex_Maps nx_Away hbdx_Away hlex_Away id h29 hq39 hq40 hq41 hq42 hq43 hq44 hq45 n49 hl54 hl55)), hB53⟩
end Go.Proofs.Ytbodnffjgmaloaa
