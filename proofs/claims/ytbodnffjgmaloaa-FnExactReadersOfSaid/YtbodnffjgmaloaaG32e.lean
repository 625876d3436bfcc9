/- Walks, printed by a program of this claim's author. -/
import Derived.Test.YtbodnffjgmaloaaChecked
import Derived.Test.YtbodnffjgmaloaaUa
import Derived.Test.YtbodnffjgmaloaaG32d
namespace Go.Proofs.Ytbodnffjgmaloaa
open Go Go.RowKit Fw
set_option maxRecDepth 10000
set_option linter.unusedVariables false
theorem agg25 : TAgg Try.prog 25 5 := ⟨fun _ => by kernel_rfl, fun _ => by kernel_rfl⟩
theorem ent12 : Ent Try.prog 12 := ent_of Try.func12 (by decide +kernel) rfl
theorem ent13 : Ent Try.prog 13 := ent_of Try.func13 (by decide +kernel) rfl
theorem ent14 : Ent Try.prog 14 := ent_of Try.func14 (by decide +kernel) rfl
theorem ent16 : Ent Try.prog 16 := ent_of Try.func16 (by decide +kernel) rfl
theorem ent17 : Ent Try.prog 17 := ent_of Try.func17 (by decide +kernel) rfl
theorem ent18 : Ent Try.prog 18 := ent_of Try.func18 (by decide +kernel) rfl
theorem ent19 : Ent Try.prog 19 := ent_of Try.func19 (by decide +kernel) rfl
theorem ent20 : Ent Try.prog 20 := ent_of Try.func20 (by decide +kernel) rfl
theorem und4 : Try.prog.underlying 4 = some (.bool) := by kernel_rfl

theorem z_c_laws_FnExactIsLibrary_109 (x : Library) (nx_Maps : Nat) (hbdx_Maps : (nx_Maps : Int) ≤ 9223372036854775807) (hlex_Maps : nx_Maps = x.Maps.length) (nx_Away : Nat) (hbdx_Away : (nx_Away : Int) ≤ 9223372036854775807) (hlex_Away : nx_Away = x.Away.length) (h13 : ¬ ((szN (x.Maps.length + x.Away.length) 1048576) < 0)) (hq14 : ((x.Maps.length + x.Away.length : Nat) : Int) ≤ 1048576 ∧ szN (x.Maps.length + x.Away.length) 1048576 = 1048576 - ((x.Maps.length + x.Away.length : Nat) : Int)) (n18 : Nat) (hl28 : n18 = (x.Maps).length) (hl29 : (n18 : Int) ≤ 9223372036854775807) (n22 : Nat) (hl30 : n22 = (x.Away).length) (hl31 : (n22 : Int) ≤ 9223372036854775807) (n39 : Nat) (hl49 : n39 = (x.Maps).length) (hl50 : (n39 : Int) ≤ 9223372036854775807) (n43 : Nat) (hl51 : n43 = (x.Away).length) (hl52 : (n43 : Int) ≤ 9223372036854775807) (n82 : Nat) (n86 : Nat) (hl93 : n82 = (x.Maps).length) (hl94 : (n82 : Int) ≤ 9223372036854775807) (hl95 : n86 = (x.Away).length) (hl96 : (n86 : Int) ≤ 9223372036854775807) (h108 : ¬ (x = x)) : false = true := by
  first | (simp_all; done) | omega | (simp at *; omega)
theorem c_laws_FnExactIsLibrary (w : World) (x : Library) {Ax_Maps : Option Addr} {nx_Maps cx_Maps Bx_Maps : Nat} (hx_Maps : SlR w Bx_Maps encLMap 3 Ax_Maps nx_Maps cx_Maps x.Maps) {Ax_Away : Option Addr} {nx_Away cx_Away Bx_Away : Nat} (hx_Away : SlR w Bx_Away encAway 2 Ax_Away nx_Away cx_Away x.Away) : Calls Try.prog 3 #[.agg (List.toArray [.slice Ax_Maps nx_Maps cx_Maps, .slice Ax_Away nx_Away cx_Away, .int .i64 x.Bought, .int .i64 x.Dropped, .int .i64 x.Mended])] w fun e w' => e = .returned (.bool true) ∧ Lo w w' := by
  refine calls_W 27 Try.func3 rfl rfl rfl ?_
  have hbdx_Maps := hx_Maps.bound
  have hlex_Maps := hx_Maps.len
  have hBbx_Maps := hx_Maps.bd
  have hbdx_Away := hx_Away.bound
  have hlex_Away := hx_Away.len
  have hBbx_Away := hx_Away.bd
  refine W.seq ?_
  refine W.regS (SR.box (v := .agg (List.toArray _)) (l := [.slice Ax_Maps nx_Maps cx_Maps, .slice Ax_Away nx_Away cx_Away, .int .i64 x.Bought, .int .i64 x.Dropped, .int .i64 x.Mended]) rfl rfl ?_)
  intro g1 w2 hg3 hk4 hs5 hb6
  have hz7 := hk4.size
  have hB8 := (Lo.refl w).lo hk4
  refine SR.q' (r_as (v := .bool false) rfl) <| SR.nil ?_
  refine W.seq ?_
  refine W.regS (SR.q' (r_as (v := .int .i64 1048576) rfl) <| SR.nil ?_)
  refine W.seq ?_
  refine W.regS (SR.q' (r_lda (l := [.slice Ax_Maps nx_Maps cx_Maps, .slice Ax_Away nx_Away cx_Away, .int .i64 x.Bought, .int .i64 x.Dropped, .int .i64 x.Mended]) agg25 rfl (fun _ _ hu => (hb6).cell hu) rfl) <| SR.q' (r_mv (v := .int .i64 _) rfl) <| SR.call ent12 (c_laws_szLibrary w2 x (((hx_Maps).lo hk4)) (((hx_Away).lo hk4)) 1048576 (by omega) (by omega)) rfl ?_)
  rintro e w9 ⟨rfl, hk10⟩
  refine ⟨_, rfl, ?_⟩
  have hz11 := hk10.size
  have hB12 := hB8.lo hk10
  refine SR.q' (r_as (v := .int .i64 _) rfl) <| SR.nil ?_
  refine W.seq ?_
  refine W.seq ?_
  refine W.regS (SR.q' (r_mv (v := .int .i64 _) rfl) <| SR.q' (r_lt rfl rfl) <| SR.nil ?_)
  refine W.cond_d rfl (fun h13 => ?_) (fun h13 => ?_)
  · refine W.seq ?_
    refine W.regS (SR.q' (r_as (v := .bool true) rfl) <| SR.nil ?_)
    refine W.ret ?_
    refine ret1 rfl (v := .bool _) rfl ?_
    exact ⟨eR rfl, hB12⟩
  · have hq14 := szN_ok h13
    refine W.skip ?_
    refine W.seq ?_
    refine W.regS (SR.q' (r_lda (l := [.slice Ax_Maps nx_Maps cx_Maps, .slice Ax_Away nx_Away cx_Away, .int .i64 x.Bought, .int .i64 x.Dropped, .int .i64 x.Mended]) agg25 rfl (fun _ _ hu => ((hb6).lo hk10).cell hu) rfl) <| SR.call ent14 (c_laws_toLibrary w9 x ((((hx_Maps).lo hk4).lo hk10)) ((((hx_Away).lo hk4).lo hk10)) (by omega) (by omega)) rfl ?_)
    rintro e w15 ⟨A17, n18, c19, A21, n22, c23, rfl, hO20, hO24, hd25, hk16⟩
    refine ⟨_, rfl, ?_⟩
    have hz26 := hk16.size
    have hB27 := hB12.lo hk16
    have hl28 := hO20.len
    have hl29 := hO20.rd.bound
    have hl30 := hO24.len
    have hl31 := hO24.rd.bound
    refine SR.call ent13 (c_spec_IsLibrary w15 x (((hO20).rd)) (((hO24).rd))) rfl ?_
    rintro e w32 ⟨rfl, hk33⟩
    refine ⟨_, rfl, ?_⟩
    have hz34 := hk33.size
    have hB35 := hB27.lo hk33
    refine SR.q' (r_as (v := .bool _) rfl) <| SR.nil ?_
    refine W.seq ?_
    refine W.regS (SR.q' (r_lda (l := [.slice Ax_Maps nx_Maps cx_Maps, .slice Ax_Away nx_Away cx_Away, .int .i64 x.Bought, .int .i64 x.Dropped, .int .i64 x.Mended]) agg25 rfl (fun _ _ hu => ((((hb6).lo hk10).lo hk16).lo hk33).cell hu) rfl) <| SR.call ent14 (c_laws_toLibrary w32 x ((((((hx_Maps).lo hk4).lo hk10).lo hk16).lo hk33)) ((((((hx_Away).lo hk4).lo hk10).lo hk16).lo hk33)) (by omega) (by omega)) rfl ?_)
    rintro e w36 ⟨A38, n39, c40, A42, n43, c44, rfl, hO41, hO45, hd46, hk37⟩
    refine ⟨_, rfl, ?_⟩
    have hz47 := hk37.size
    have hB48 := hB35.lo hk37
    have hl49 := hO41.len
    have hl50 := hO41.rd.bound
    have hl51 := hO45.len
    have hl52 := hO45.rd.bound
    refine SR.alloc (l := [.slice none 0 0, .slice none 0 0, .int .i64 0, .int .i64 0, .int .i64 0]) tz31 rfl ?_
    intro g53 w54 hg55 hk56 hs57 hb58
    have hz59 := hk56.size
    have hB60 := hB48.lo hk56
    have hd61 : ¬ A17 = some ⟨g53, 0, none⟩ := fun e' => by have := (((hO20).lo hk33).lo hk37).base_le e'; omega
    have hd62 : ¬ A21 = some ⟨g53, 0, none⟩ := fun e' => by have := (((hO24).lo hk33).lo hk37).base_le e'; omega
    have hd63 : ¬ A38 = some ⟨g53, 0, none⟩ := fun e' => by have := (hO41).base_le e'; omega
    have hd64 : ¬ A42 = some ⟨g53, 0, none⟩ := fun e' => by have := (hO45).base_le e'; omega
    refine SR.store (o := 0) (vs := [.slice A38 n39 c40, .slice A42 n43 c44, .int .i64 x.Bought, .int .i64 x.Dropped, .int .i64 x.Mended]) agg31.2 rfl rfl rfl rfl (hb58) (Nat.le_of_ble_eq_true rfl) rfl ?_
    intro w65 hk66 hs67 hb68
    have hz69 := hk66.size
    have hB70 := hB60.new hk66 (by omega)
    refine SR.nil ?_
    refine W.seq ?_
    refine W.regS (SR.q' (r_lda (l := [.slice A38 n39 c40, .slice A42 n43 c44, .int .i64 x.Bought, .int .i64 x.Dropped, .int .i64 x.Mended]) agg31 rfl (fun _ _ hu => (hb68).cell hu) rfl) <| SR.call ent15 (c_impl_IsLibrary w65 x (((((hO41).lo hk56).kp hk66 (fun b_ hb e' => hd63 (by have e'' : b_ = g53 := e'; rw [← e'']; exact hb))).rd)) (((((hO45).lo hk56).kp hk66 (fun b_ hb e' => hd64 (by have e'' : b_ = g53 := e'; rw [← e'']; exact hb))).rd)) (by omega)) rfl ?_)
    rintro e w71 ⟨rfl, hk72⟩
    refine ⟨_, rfl, ?_⟩
    have hz73 := hk72.size
    have hB74 := hB70.lo hk72
    refine SR.q' (r_as (v := .bool _) rfl) <| SR.nil ?_
    refine W.seq ?_
    refine W.seq ?_
    refine W.regS (SR.q' (r_mv (v := .bool _) rfl) <| SR.q' (r_mv (v := .bool _) rfl) <| SR.q' (r_neb_s und4 rfl rfl) <| SR.nil ?_)
    refine W.cond_f rfl ?_
    refine W.skip ?_
    refine W.seq ?_
    refine W.seq ?_
    refine W.regA (Lo w71) (fun f' w' => ∃ (A81 : Option Addr), ∃ (n82 : Nat), ∃ (c83 : Nat), ∃ (A85 : Option Addr), ∃ (n86 : Nat), ∃ (c87 : Nat), At f' [(2, .bool false), (26, .bool (!decide (x = x)))] ∧ (Lo w71 w') ∧ (n82 = (x.Maps).length) ∧ ((n82 : Int) ≤ 9223372036854775807) ∧ (n86 = (x.Away).length) ∧ ((n86 : Int) ≤ 9223372036854775807)) mo ?_ ?_
    · intro w75 hk76
      have hz77 := hk76.size
      have hB78 := hB74.lo hk76
      refine AH.take 0 rfl (by kernel_rfl) trivial (hk76) (fun w' hw' => r_lda (l := [.slice A38 n39 c40, .slice A42 n43 c44, .int .i64 x.Bought, .int .i64 x.Dropped, .int .i64 x.Mended]) agg31 rfl (fun _ _ hu => (((hb68).lo hk72).lo hw').cell hu) rfl) <| AH.take 1 rfl (by kernel_rfl) trivial (hk76) (fun w' hw' => r_lda (l := [.slice Ax_Maps nx_Maps cx_Maps, .slice Ax_Away nx_Away cx_Away, .int .i64 x.Bought, .int .i64 x.Dropped, .int .i64 x.Mended]) agg25 rfl (fun _ _ hu => (((((((((hb6).lo hk10).lo hk16).lo hk33).lo hk37).lo hk56).kp hk66 (fun e' => by have e'' : g1 = g53 := e'; omega)).lo hk72).lo hw').cell hu) rfl) <| AH.br [2] (by kernel_rfl) rfl ⟨Br.mk' rfl trivial ?_, trivial⟩
      refine SR.call ent14 (c_laws_toLibrary w75 x (((((((((((hx_Maps).lo hk4).lo hk10).lo hk16).lo hk33).lo hk37).lo hk56).kp hk66 (fun b_ hb e' => by have e'' : b_ = g53 := e'; omega)).lo hk72).lo hk76)) (((((((((((hx_Away).lo hk4).lo hk10).lo hk16).lo hk33).lo hk37).lo hk56).kp hk66 (fun b_ hb e' => by have e'' : b_ = g53 := e'; omega)).lo hk72).lo hk76)) (by omega) (by omega)) rfl ?_
      rintro e w79 ⟨A81, n82, c83, A85, n86, c87, rfl, hO84, hO88, hd89, hk80⟩
      refine ⟨_, rfl, ?_⟩
      have hz90 := hk80.size
      have hB91 := hB78.lo hk80
      have hS92 := (hk76).lo hk80
      have hl93 := hO84.len
      have hl94 := hO84.rd.bound
      have hl95 := hO88.len
      have hl96 := hO88.rd.bound
      refine SR.nil ⟨hS92, _, rfl, ?_⟩
      refine AH.br [3] (by kernel_rfl) rfl ⟨Br.mk' rfl trivial ?_, trivial⟩
      refine SR.call ent16 (c_laws_eqLibrary w79 x ((((((((hO41).lo hk56).kp hk66 (fun b_ hb e' => hd63 (by have e'' : b_ = g53 := e'; rw [← e'']; exact hb))).lo hk72).lo hk76).lo hk80).rd)) ((((((((hO45).lo hk56).kp hk66 (fun b_ hb e' => hd64 (by have e'' : b_ = g53 := e'; rw [← e'']; exact hb))).lo hk72).lo hk76).lo hk80).rd)) x (((hO84).rd)) (((hO88).rd))) rfl ?_
      rintro e w97 ⟨rfl, hk98⟩
      refine ⟨_, rfl, ?_⟩
      have hz99 := hk98.size
      have hB100 := hB91.lo hk98
      have hS101 := (hS92).lo hk98
      refine SR.nil ⟨hS101, _, rfl, ?_⟩
      refine AH.take 4 rfl (by kernel_rfl) trivial (hS101) (fun w' hw' => r_not rfl) <| AH.done (by kernel_rfl) ?_
      exact ⟨A81, n82, c83, A85, n86, c87, ⟨rfl, rfl, trivial⟩, hS101, hl93, hl94, hl95, hl96⟩
    rintro f102 w103 ⟨A81, n82, c83, A85, n86, c87, hat105, hR104, hl93, hl94, hl95, hl96⟩
    rw [← sets_of_at hat105]
    have hz106 := hR104.size
    have hB107 := hB74.lo hR104
    refine W.cond_n rfl (fun h108 => ?_) (fun h108 => ?_)
    · refine W.seq ?_
      refine W.regS (SR.q' (r_as (v := .bool false) rfl) <| SR.nil ?_)
      refine W.ret ?_
      refine ret1 rfl (v := .bool _) rfl ?_
      exact ⟨eR (eB (z_c_laws_FnExactIsLibrary_109 x nx_Maps hbdx_Maps hlex_Maps nx_Away hbdx_Away hlex_Away h13 hq14 n18 hl28 hl29 n22 hl30 hl31 n39 hl49 hl50 n43 hl51 hl52 n82 n86 hl93 hl94 hl95 hl96 h108)), hB107⟩
    · refine W.skip ?_
      refine W.seq ?_
      refine W.regS (SR.q' (r_as (v := .bool true) rfl) <| SR.nil ?_)
      refine W.ret ?_
      refine ret1 rfl (v := .bool _) rfl ?_
      exact ⟨eR rfl, hB107⟩

theorem z_c_laws_FnExactCopiesThere_109 (x : Library) (nx_Maps : Nat) (hbdx_Maps : (nx_Maps : Int) ≤ 9223372036854775807) (hlex_Maps : nx_Maps = x.Maps.length) (nx_Away : Nat) (hbdx_Away : (nx_Away : Int) ≤ 9223372036854775807) (hlex_Away : nx_Away = x.Away.length) (h13 : ¬ ((szN (x.Maps.length + x.Away.length) 1048576) < 0)) (hq14 : ((x.Maps.length + x.Away.length : Nat) : Int) ≤ 1048576 ∧ szN (x.Maps.length + x.Away.length) 1048576 = 1048576 - ((x.Maps.length + x.Away.length : Nat) : Int)) (n18 : Nat) (hl28 : n18 = (x.Maps).length) (hl29 : (n18 : Int) ≤ 9223372036854775807) (n22 : Nat) (hl30 : n22 = (x.Away).length) (hl31 : (n22 : Int) ≤ 9223372036854775807) (n39 : Nat) (hl49 : n39 = (x.Maps).length) (hl50 : (n39 : Int) ≤ 9223372036854775807) (n43 : Nat) (hl51 : n43 = (x.Away).length) (hl52 : (n43 : Int) ≤ 9223372036854775807) (n82 : Nat) (n86 : Nat) (hl93 : n82 = (x.Maps).length) (hl94 : (n82 : Int) ≤ 9223372036854775807) (hl95 : n86 = (x.Away).length) (hl96 : (n86 : Int) ≤ 9223372036854775807) (h108 : ¬ (x = x)) : false = true := by
  first | (simp_all; done) | omega | (simp at *; omega)
theorem c_laws_FnExactCopiesThere (w : World) (x : Library) {Ax_Maps : Option Addr} {nx_Maps cx_Maps Bx_Maps : Nat} (hx_Maps : SlR w Bx_Maps encLMap 3 Ax_Maps nx_Maps cx_Maps x.Maps) {Ax_Away : Option Addr} {nx_Away cx_Away Bx_Away : Nat} (hx_Away : SlR w Bx_Away encAway 2 Ax_Away nx_Away cx_Away x.Away) : Calls Try.prog 4 #[.agg (List.toArray [.slice Ax_Maps nx_Maps cx_Maps, .slice Ax_Away nx_Away cx_Away, .int .i64 x.Bought, .int .i64 x.Dropped, .int .i64 x.Mended])] w fun e w' => e = .returned (.bool true) ∧ Lo w w' := by
  refine calls_W 40 Try.func4 rfl rfl rfl ?_
  have hbdx_Maps := hx_Maps.bound
  have hlex_Maps := hx_Maps.len
  have hBbx_Maps := hx_Maps.bd
  have hbdx_Away := hx_Away.bound
  have hlex_Away := hx_Away.len
  have hBbx_Away := hx_Away.bd
  refine W.seq ?_
  refine W.regS (SR.box (v := .agg (List.toArray _)) (l := [.slice Ax_Maps nx_Maps cx_Maps, .slice Ax_Away nx_Away cx_Away, .int .i64 x.Bought, .int .i64 x.Dropped, .int .i64 x.Mended]) rfl rfl ?_)
  intro g1 w2 hg3 hk4 hs5 hb6
  have hz7 := hk4.size
  have hB8 := (Lo.refl w).lo hk4
  refine SR.q' (r_as (v := .bool false) rfl) <| SR.nil ?_
  refine W.seq ?_
  refine W.regS (SR.q' (r_as (v := .int .i64 1048576) rfl) <| SR.nil ?_)
  refine W.seq ?_
  refine W.regS (SR.q' (r_lda (l := [.slice Ax_Maps nx_Maps cx_Maps, .slice Ax_Away nx_Away cx_Away, .int .i64 x.Bought, .int .i64 x.Dropped, .int .i64 x.Mended]) agg25 rfl (fun _ _ hu => (hb6).cell hu) rfl) <| SR.q' (r_mv (v := .int .i64 _) rfl) <| SR.call ent12 (c_laws_szLibrary w2 x (((hx_Maps).lo hk4)) (((hx_Away).lo hk4)) 1048576 (by omega) (by omega)) rfl ?_)
  rintro e w9 ⟨rfl, hk10⟩
  refine ⟨_, rfl, ?_⟩
  have hz11 := hk10.size
  have hB12 := hB8.lo hk10
  refine SR.q' (r_as (v := .int .i64 _) rfl) <| SR.nil ?_
  refine W.seq ?_
  refine W.seq ?_
  refine W.regS (SR.q' (r_mv (v := .int .i64 _) rfl) <| SR.q' (r_lt rfl rfl) <| SR.nil ?_)
  refine W.cond_d rfl (fun h13 => ?_) (fun h13 => ?_)
  · refine W.seq ?_
    refine W.regS (SR.q' (r_as (v := .bool true) rfl) <| SR.nil ?_)
    refine W.ret ?_
    refine ret1 rfl (v := .bool _) rfl ?_
    exact ⟨eR rfl, hB12⟩
  · have hq14 := szN_ok h13
    refine W.skip ?_
    refine W.seq ?_
    refine W.regS (SR.q' (r_lda (l := [.slice Ax_Maps nx_Maps cx_Maps, .slice Ax_Away nx_Away cx_Away, .int .i64 x.Bought, .int .i64 x.Dropped, .int .i64 x.Mended]) agg25 rfl (fun _ _ hu => ((hb6).lo hk10).cell hu) rfl) <| SR.call ent14 (c_laws_toLibrary w9 x ((((hx_Maps).lo hk4).lo hk10)) ((((hx_Away).lo hk4).lo hk10)) (by omega) (by omega)) rfl ?_)
    rintro e w15 ⟨A17, n18, c19, A21, n22, c23, rfl, hO20, hO24, hd25, hk16⟩
    refine ⟨_, rfl, ?_⟩
    have hz26 := hk16.size
    have hB27 := hB12.lo hk16
    have hl28 := hO20.len
    have hl29 := hO20.rd.bound
    have hl30 := hO24.len
    have hl31 := hO24.rd.bound
    refine SR.call ent17 (c_spec_CopiesThere w15 x (((hO20).rd)) (((hO24).rd)) (by omega)) rfl ?_
    rintro e w32 ⟨rfl, hk33⟩
    refine ⟨_, rfl, ?_⟩
    have hz34 := hk33.size
    have hB35 := hB27.lo hk33
    refine SR.q' (r_mv (v := .tuple (List.toArray _)) rfl) <| SR.q' (r_ext (v := .int .i64 _) rfl rfl) <| SR.q' (r_ext (v := .bool _) rfl rfl) <| SR.q' (r_as (v := .int .i64 _) rfl) <| SR.q' (r_as (v := .bool _) rfl) <| SR.nil ?_
    refine W.seq ?_
    refine W.regS (SR.q' (r_lda (l := [.slice Ax_Maps nx_Maps cx_Maps, .slice Ax_Away nx_Away cx_Away, .int .i64 x.Bought, .int .i64 x.Dropped, .int .i64 x.Mended]) agg25 rfl (fun _ _ hu => ((((hb6).lo hk10).lo hk16).lo hk33).cell hu) rfl) <| SR.call ent14 (c_laws_toLibrary w32 x ((((((hx_Maps).lo hk4).lo hk10).lo hk16).lo hk33)) ((((((hx_Away).lo hk4).lo hk10).lo hk16).lo hk33)) (by omega) (by omega)) rfl ?_)
    rintro e w36 ⟨A38, n39, c40, A42, n43, c44, rfl, hO41, hO45, hd46, hk37⟩
    refine ⟨_, rfl, ?_⟩
    have hz47 := hk37.size
    have hB48 := hB35.lo hk37
    have hl49 := hO41.len
    have hl50 := hO41.rd.bound
    have hl51 := hO45.len
    have hl52 := hO45.rd.bound
    refine SR.alloc (l := [.slice none 0 0, .slice none 0 0, .int .i64 0, .int .i64 0, .int .i64 0]) tz31 rfl ?_
    intro g53 w54 hg55 hk56 hs57 hb58
    have hz59 := hk56.size
    have hB60 := hB48.lo hk56
    have hd61 : ¬ A17 = some ⟨g53, 0, none⟩ := fun e' => by have := (((hO20).lo hk33).lo hk37).base_le e'; omega
    have hd62 : ¬ A21 = some ⟨g53, 0, none⟩ := fun e' => by have := (((hO24).lo hk33).lo hk37).base_le e'; omega
    have hd63 : ¬ A38 = some ⟨g53, 0, none⟩ := fun e' => by have := (hO41).base_le e'; omega
    have hd64 : ¬ A42 = some ⟨g53, 0, none⟩ := fun e' => by have := (hO45).base_le e'; omega
    refine SR.store (o := 0) (vs := [.slice A38 n39 c40, .slice A42 n43 c44, .int .i64 x.Bought, .int .i64 x.Dropped, .int .i64 x.Mended]) agg31.2 rfl rfl rfl rfl (hb58) (Nat.le_of_ble_eq_true rfl) rfl ?_
    intro w65 hk66 hs67 hb68
    have hz69 := hk66.size
    have hB70 := hB60.new hk66 (by omega)
    refine SR.nil ?_
    refine W.seq ?_
    refine W.regS (SR.q' (r_lda (l := [.slice A38 n39 c40, .slice A42 n43 c44, .int .i64 x.Bought, .int .i64 x.Dropped, .int .i64 x.Mended]) agg31 rfl (fun _ _ hu => (hb68).cell hu) rfl) <| SR.call ent18 (c_impl_CopiesThere w65 x (((((hO41).lo hk56).kp hk66 (fun b_ hb e' => hd63 (by have e'' : b_ = g53 := e'; rw [← e'']; exact hb))).rd)) (((((hO45).lo hk56).kp hk66 (fun b_ hb e' => hd64 (by have e'' : b_ = g53 := e'; rw [← e'']; exact hb))).rd)) (by omega)) rfl ?_)
    rintro e w71 ⟨rfl, hk72⟩
    refine ⟨_, rfl, ?_⟩
    have hz73 := hk72.size
    have hB74 := hB70.lo hk72
    refine SR.q' (r_mv (v := .tuple (List.toArray _)) rfl) <| SR.q' (r_ext (v := .int .i64 _) rfl rfl) <| SR.q' (r_ext (v := .bool _) rfl rfl) <| SR.q' (r_as (v := .int .i64 _) rfl) <| SR.q' (r_as (v := .bool _) rfl) <| SR.nil ?_
    refine W.seq ?_
    refine W.seq ?_
    refine W.regS (SR.q' (r_mv (v := .int .i64 _) rfl) <| SR.q' (r_mv (v := .int .i64 _) rfl) <| SR.q' (r_ne_s rfl rfl) <| SR.q' (r_mv (v := .bool _) rfl) <| SR.g' rfl (r_mv (v := .bool _) rfl) <| SR.g' rfl (r_mv (v := .bool _) rfl) <| SR.g' rfl (r_neb_s und4 rfl rfl) <| SR.q' (r_pick false rfl (v := .bool _) rfl) <| SR.nil ?_)
    refine W.cond_f rfl ?_
    refine W.skip ?_
    refine W.seq ?_
    refine W.seq ?_
    refine W.regA (Lo w71) (fun f' w' => ∃ (A81 : Option Addr), ∃ (n82 : Nat), ∃ (c83 : Nat), ∃ (A85 : Option Addr), ∃ (n86 : Nat), ∃ (c87 : Nat), At f' [(2, .bool false), (39, .bool (!decide (x = x)))] ∧ (Lo w71 w') ∧ (n82 = (x.Maps).length) ∧ ((n82 : Int) ≤ 9223372036854775807) ∧ (n86 = (x.Away).length) ∧ ((n86 : Int) ≤ 9223372036854775807)) mo ?_ ?_
    · intro w75 hk76
      have hz77 := hk76.size
      have hB78 := hB74.lo hk76
      refine AH.take 0 rfl (by kernel_rfl) trivial (hk76) (fun w' hw' => r_lda (l := [.slice A38 n39 c40, .slice A42 n43 c44, .int .i64 x.Bought, .int .i64 x.Dropped, .int .i64 x.Mended]) agg31 rfl (fun _ _ hu => (((hb68).lo hk72).lo hw').cell hu) rfl) <| AH.take 1 rfl (by kernel_rfl) trivial (hk76) (fun w' hw' => r_lda (l := [.slice Ax_Maps nx_Maps cx_Maps, .slice Ax_Away nx_Away cx_Away, .int .i64 x.Bought, .int .i64 x.Dropped, .int .i64 x.Mended]) agg25 rfl (fun _ _ hu => (((((((((hb6).lo hk10).lo hk16).lo hk33).lo hk37).lo hk56).kp hk66 (fun e' => by have e'' : g1 = g53 := e'; omega)).lo hk72).lo hw').cell hu) rfl) <| AH.br [2] (by kernel_rfl) rfl ⟨Br.mk' rfl trivial ?_, trivial⟩
      refine SR.call ent14 (c_laws_toLibrary w75 x (((((((((((hx_Maps).lo hk4).lo hk10).lo hk16).lo hk33).lo hk37).lo hk56).kp hk66 (fun b_ hb e' => by have e'' : b_ = g53 := e'; omega)).lo hk72).lo hk76)) (((((((((((hx_Away).lo hk4).lo hk10).lo hk16).lo hk33).lo hk37).lo hk56).kp hk66 (fun b_ hb e' => by have e'' : b_ = g53 := e'; omega)).lo hk72).lo hk76)) (by omega) (by omega)) rfl ?_
      rintro e w79 ⟨A81, n82, c83, A85, n86, c87, rfl, hO84, hO88, hd89, hk80⟩
      refine ⟨_, rfl, ?_⟩
      have hz90 := hk80.size
      have hB91 := hB78.lo hk80
      have hS92 := (hk76).lo hk80
      have hl93 := hO84.len
      have hl94 := hO84.rd.bound
      have hl95 := hO88.len
      have hl96 := hO88.rd.bound
      refine SR.nil ⟨hS92, _, rfl, ?_⟩
      refine AH.br [3] (by kernel_rfl) rfl ⟨Br.mk' rfl trivial ?_, trivial⟩
      refine SR.call ent16 (c_laws_eqLibrary w79 x ((((((((hO41).lo hk56).kp hk66 (fun b_ hb e' => hd63 (by have e'' : b_ = g53 := e'; rw [← e'']; exact hb))).lo hk72).lo hk76).lo hk80).rd)) ((((((((hO45).lo hk56).kp hk66 (fun b_ hb e' => hd64 (by have e'' : b_ = g53 := e'; rw [← e'']; exact hb))).lo hk72).lo hk76).lo hk80).rd)) x (((hO84).rd)) (((hO88).rd))) rfl ?_
      rintro e w97 ⟨rfl, hk98⟩
      refine ⟨_, rfl, ?_⟩
      have hz99 := hk98.size
      have hB100 := hB91.lo hk98
      have hS101 := (hS92).lo hk98
      refine SR.nil ⟨hS101, _, rfl, ?_⟩
      refine AH.take 4 rfl (by kernel_rfl) trivial (hS101) (fun w' hw' => r_not rfl) <| AH.done (by kernel_rfl) ?_
      exact ⟨A81, n82, c83, A85, n86, c87, ⟨rfl, rfl, trivial⟩, hS101, hl93, hl94, hl95, hl96⟩
    rintro f102 w103 ⟨A81, n82, c83, A85, n86, c87, hat105, hR104, hl93, hl94, hl95, hl96⟩
    rw [← sets_of_at hat105]
    have hz106 := hR104.size
    have hB107 := hB74.lo hR104
    refine W.cond_n rfl (fun h108 => ?_) (fun h108 => ?_)
    · refine W.seq ?_
      refine W.regS (SR.q' (r_as (v := .bool false) rfl) <| SR.nil ?_)
      refine W.ret ?_
      refine ret1 rfl (v := .bool _) rfl ?_
      exact ⟨eR (eB (z_c_laws_FnExactCopiesThere_109 x nx_Maps hbdx_Maps hlex_Maps nx_Away hbdx_Away hlex_Away h13 hq14 n18 hl28 hl29 n22 hl30 hl31 n39 hl49 hl50 n43 hl51 hl52 n82 n86 hl93 hl94 hl95 hl96 h108)), hB107⟩
    · refine W.skip ?_
      refine W.seq ?_
      refine W.regS (SR.q' (r_as (v := .bool true) rfl) <| SR.nil ?_)
      refine W.ret ?_
      refine ret1 rfl (v := .bool _) rfl ?_
      exact ⟨eR rfl, hB107⟩

theorem z_c_laws_FnExactTornCopies_109 (x : Library) (nx_Maps : Nat) (hbdx_Maps : (nx_Maps : Int) ≤ 9223372036854775807) (hlex_Maps : nx_Maps = x.Maps.length) (nx_Away : Nat) (hbdx_Away : (nx_Away : Int) ≤ 9223372036854775807) (hlex_Away : nx_Away = x.Away.length) (h13 : ¬ ((szN (x.Maps.length + x.Away.length) 1048576) < 0)) (hq14 : ((x.Maps.length + x.Away.length : Nat) : Int) ≤ 1048576 ∧ szN (x.Maps.length + x.Away.length) 1048576 = 1048576 - ((x.Maps.length + x.Away.length : Nat) : Int)) (n18 : Nat) (hl28 : n18 = (x.Maps).length) (hl29 : (n18 : Int) ≤ 9223372036854775807) (n22 : Nat) (hl30 : n22 = (x.Away).length) (hl31 : (n22 : Int) ≤ 9223372036854775807) (n39 : Nat) (hl49 : n39 = (x.Maps).length) (hl50 : (n39 : Int) ≤ 9223372036854775807) (n43 : Nat) (hl51 : n43 = (x.Away).length) (hl52 : (n43 : Int) ≤ 9223372036854775807) (n82 : Nat) (n86 : Nat) (hl93 : n82 = (x.Maps).length) (hl94 : (n82 : Int) ≤ 9223372036854775807) (hl95 : n86 = (x.Away).length) (hl96 : (n86 : Int) ≤ 9223372036854775807) (h108 : ¬ (x = x)) : false = true := by
  first | (simp_all; done) | omega | (simp at *; omega)
theorem c_laws_FnExactTornCopies (w : World) (x : Library) {Ax_Maps : Option Addr} {nx_Maps cx_Maps Bx_Maps : Nat} (hx_Maps : SlR w Bx_Maps encLMap 3 Ax_Maps nx_Maps cx_Maps x.Maps) {Ax_Away : Option Addr} {nx_Away cx_Away Bx_Away : Nat} (hx_Away : SlR w Bx_Away encAway 2 Ax_Away nx_Away cx_Away x.Away) : Calls Try.prog 5 #[.agg (List.toArray [.slice Ax_Maps nx_Maps cx_Maps, .slice Ax_Away nx_Away cx_Away, .int .i64 x.Bought, .int .i64 x.Dropped, .int .i64 x.Mended])] w fun e w' => e = .returned (.bool true) ∧ Lo w w' := by
  refine calls_W 40 Try.func5 rfl rfl rfl ?_
  have hbdx_Maps := hx_Maps.bound
  have hlex_Maps := hx_Maps.len
  have hBbx_Maps := hx_Maps.bd
  have hbdx_Away := hx_Away.bound
  have hlex_Away := hx_Away.len
  have hBbx_Away := hx_Away.bd
  refine W.seq ?_
  refine W.regS (SR.box (v := .agg (List.toArray _)) (l := [.slice Ax_Maps nx_Maps cx_Maps, .slice Ax_Away nx_Away cx_Away, .int .i64 x.Bought, .int .i64 x.Dropped, .int .i64 x.Mended]) rfl rfl ?_)
  intro g1 w2 hg3 hk4 hs5 hb6
  have hz7 := hk4.size
  have hB8 := (Lo.refl w).lo hk4
  refine SR.q' (r_as (v := .bool false) rfl) <| SR.nil ?_
  refine W.seq ?_
  refine W.regS (SR.q' (r_as (v := .int .i64 1048576) rfl) <| SR.nil ?_)
  refine W.seq ?_
  refine W.regS (SR.q' (r_lda (l := [.slice Ax_Maps nx_Maps cx_Maps, .slice Ax_Away nx_Away cx_Away, .int .i64 x.Bought, .int .i64 x.Dropped, .int .i64 x.Mended]) agg25 rfl (fun _ _ hu => (hb6).cell hu) rfl) <| SR.q' (r_mv (v := .int .i64 _) rfl) <| SR.call ent12 (c_laws_szLibrary w2 x (((hx_Maps).lo hk4)) (((hx_Away).lo hk4)) 1048576 (by omega) (by omega)) rfl ?_)
  rintro e w9 ⟨rfl, hk10⟩
  refine ⟨_, rfl, ?_⟩
  have hz11 := hk10.size
  have hB12 := hB8.lo hk10
  refine SR.q' (r_as (v := .int .i64 _) rfl) <| SR.nil ?_
  refine W.seq ?_
  refine W.seq ?_
  refine W.regS (SR.q' (r_mv (v := .int .i64 _) rfl) <| SR.q' (r_lt rfl rfl) <| SR.nil ?_)
  refine W.cond_d rfl (fun h13 => ?_) (fun h13 => ?_)
  · refine W.seq ?_
    refine W.regS (SR.q' (r_as (v := .bool true) rfl) <| SR.nil ?_)
    refine W.ret ?_
    refine ret1 rfl (v := .bool _) rfl ?_
    exact ⟨eR rfl, hB12⟩
  · have hq14 := szN_ok h13
    refine W.skip ?_
    refine W.seq ?_
    refine W.regS (SR.q' (r_lda (l := [.slice Ax_Maps nx_Maps cx_Maps, .slice Ax_Away nx_Away cx_Away, .int .i64 x.Bought, .int .i64 x.Dropped, .int .i64 x.Mended]) agg25 rfl (fun _ _ hu => ((hb6).lo hk10).cell hu) rfl) <| SR.call ent14 (c_laws_toLibrary w9 x ((((hx_Maps).lo hk4).lo hk10)) ((((hx_Away).lo hk4).lo hk10)) (by omega) (by omega)) rfl ?_)
    rintro e w15 ⟨A17, n18, c19, A21, n22, c23, rfl, hO20, hO24, hd25, hk16⟩
    refine ⟨_, rfl, ?_⟩
    have hz26 := hk16.size
    have hB27 := hB12.lo hk16
    have hl28 := hO20.len
    have hl29 := hO20.rd.bound
    have hl30 := hO24.len
    have hl31 := hO24.rd.bound
    refine SR.call ent19 (c_spec_TornCopies w15 x (((hO20).rd)) (((hO24).rd))) rfl ?_
    rintro e w32 ⟨rfl, hk33⟩
    refine ⟨_, rfl, ?_⟩
    have hz34 := hk33.size
    have hB35 := hB27.lo hk33
    refine SR.q' (r_mv (v := .tuple (List.toArray _)) rfl) <| SR.q' (r_ext (v := .int .i64 _) rfl rfl) <| SR.q' (r_ext (v := .bool _) rfl rfl) <| SR.q' (r_as (v := .int .i64 _) rfl) <| SR.q' (r_as (v := .bool _) rfl) <| SR.nil ?_
    refine W.seq ?_
    refine W.regS (SR.q' (r_lda (l := [.slice Ax_Maps nx_Maps cx_Maps, .slice Ax_Away nx_Away cx_Away, .int .i64 x.Bought, .int .i64 x.Dropped, .int .i64 x.Mended]) agg25 rfl (fun _ _ hu => ((((hb6).lo hk10).lo hk16).lo hk33).cell hu) rfl) <| SR.call ent14 (c_laws_toLibrary w32 x ((((((hx_Maps).lo hk4).lo hk10).lo hk16).lo hk33)) ((((((hx_Away).lo hk4).lo hk10).lo hk16).lo hk33)) (by omega) (by omega)) rfl ?_)
    rintro e w36 ⟨A38, n39, c40, A42, n43, c44, rfl, hO41, hO45, hd46, hk37⟩
    refine ⟨_, rfl, ?_⟩
    have hz47 := hk37.size
    have hB48 := hB35.lo hk37
    have hl49 := hO41.len
    have hl50 := hO41.rd.bound
    have hl51 := hO45.len
    have hl52 := hO45.rd.bound
    refine SR.alloc (l := [.slice none 0 0, .slice none 0 0, .int .i64 0, .int .i64 0, .int .i64 0]) tz31 rfl ?_
    intro g53 w54 hg55 hk56 hs57 hb58
    have hz59 := hk56.size
    have hB60 := hB48.lo hk56
    have hd61 : ¬ A17 = some ⟨g53, 0, none⟩ := fun e' => by have := (((hO20).lo hk33).lo hk37).base_le e'; omega
    have hd62 : ¬ A21 = some ⟨g53, 0, none⟩ := fun e' => by have := (((hO24).lo hk33).lo hk37).base_le e'; omega
    have hd63 : ¬ A38 = some ⟨g53, 0, none⟩ := fun e' => by have := (hO41).base_le e'; omega
    have hd64 : ¬ A42 = some ⟨g53, 0, none⟩ := fun e' => by have := (hO45).base_le e'; omega
    refine SR.store (o := 0) (vs := [.slice A38 n39 c40, .slice A42 n43 c44, .int .i64 x.Bought, .int .i64 x.Dropped, .int .i64 x.Mended]) agg31.2 rfl rfl rfl rfl (hb58) (Nat.le_of_ble_eq_true rfl) rfl ?_
    intro w65 hk66 hs67 hb68
    have hz69 := hk66.size
    have hB70 := hB60.new hk66 (by omega)
    refine SR.nil ?_
    refine W.seq ?_
    refine W.regS (SR.q' (r_lda (l := [.slice A38 n39 c40, .slice A42 n43 c44, .int .i64 x.Bought, .int .i64 x.Dropped, .int .i64 x.Mended]) agg31 rfl (fun _ _ hu => (hb68).cell hu) rfl) <| SR.call ent20 (c_impl_TornCopies w65 x (((((hO41).lo hk56).kp hk66 (fun b_ hb e' => hd63 (by have e'' : b_ = g53 := e'; rw [← e'']; exact hb))).rd)) (((((hO45).lo hk56).kp hk66 (fun b_ hb e' => hd64 (by have e'' : b_ = g53 := e'; rw [← e'']; exact hb))).rd)) (by omega)) rfl ?_)
    rintro e w71 ⟨rfl, hk72⟩
    refine ⟨_, rfl, ?_⟩
    have hz73 := hk72.size
    have hB74 := hB70.lo hk72
    refine SR.q' (r_mv (v := .tuple (List.toArray _)) rfl) <| SR.q' (r_ext (v := .int .i64 _) rfl rfl) <| SR.q' (r_ext (v := .bool _) rfl rfl) <| SR.q' (r_as (v := .int .i64 _) rfl) <| SR.q' (r_as (v := .bool _) rfl) <| SR.nil ?_
    refine W.seq ?_
    refine W.seq ?_
    refine W.regS (SR.q' (r_mv (v := .int .i64 _) rfl) <| SR.q' (r_mv (v := .int .i64 _) rfl) <| SR.q' (r_ne_s rfl rfl) <| SR.q' (r_mv (v := .bool _) rfl) <| SR.g' rfl (r_mv (v := .bool _) rfl) <| SR.g' rfl (r_mv (v := .bool _) rfl) <| SR.g' rfl (r_neb_s und4 rfl rfl) <| SR.q' (r_pick false rfl (v := .bool _) rfl) <| SR.nil ?_)
    refine W.cond_f rfl ?_
    refine W.skip ?_
    refine W.seq ?_
    refine W.seq ?_
    refine W.regA (Lo w71) (fun f' w' => ∃ (A81 : Option Addr), ∃ (n82 : Nat), ∃ (c83 : Nat), ∃ (A85 : Option Addr), ∃ (n86 : Nat), ∃ (c87 : Nat), At f' [(2, .bool false), (39, .bool (!decide (x = x)))] ∧ (Lo w71 w') ∧ (n82 = (x.Maps).length) ∧ ((n82 : Int) ≤ 9223372036854775807) ∧ (n86 = (x.Away).length) ∧ ((n86 : Int) ≤ 9223372036854775807)) mo ?_ ?_
    · intro w75 hk76
      have hz77 := hk76.size
      have hB78 := hB74.lo hk76
      refine AH.take 0 rfl (by kernel_rfl) trivial (hk76) (fun w' hw' => r_lda (l := [.slice A38 n39 c40, .slice A42 n43 c44, .int .i64 x.Bought, .int .i64 x.Dropped, .int .i64 x.Mended]) agg31 rfl (fun _ _ hu => (((hb68).lo hk72).lo hw').cell hu) rfl) <| AH.take 1 rfl (by kernel_rfl) trivial (hk76) (fun w' hw' => r_lda (l := [.slice Ax_Maps nx_Maps cx_Maps, .slice Ax_Away nx_Away cx_Away, .int .i64 x.Bought, .int .i64 x.Dropped, .int .i64 x.Mended]) agg25 rfl (fun _ _ hu => (((((((((hb6).lo hk10).lo hk16).lo hk33).lo hk37).lo hk56).kp hk66 (fun e' => by have e'' : g1 = g53 := e'; omega)).lo hk72).lo hw').cell hu) rfl) <| AH.br [2] (by kernel_rfl) rfl ⟨Br.mk' rfl trivial ?_, trivial⟩
      refine SR.call ent14 (c_laws_toLibrary w75 x (((((((((((hx_Maps).lo hk4).lo hk10).lo hk16).lo hk33).lo hk37).lo hk56).kp hk66 (fun b_ hb e' => by have e'' : b_ = g53 := e'; omega)).lo hk72).lo hk76)) (((((((((((hx_Away).lo hk4).lo hk10).lo hk16).lo hk33).lo hk37).lo hk56).kp hk66 (fun b_ hb e' => by have e'' : b_ = g53 := e'; omega)).lo hk72).lo hk76)) (by omega) (by omega)) rfl ?_
      rintro e w79 ⟨A81, n82, c83, A85, n86, c87, rfl, hO84, hO88, hd89, hk80⟩
      refine ⟨_, rfl, ?_⟩
      have hz90 := hk80.size
      have hB91 := hB78.lo hk80
      have hS92 := (hk76).lo hk80
      have hl93 := hO84.len
      have hl94 := hO84.rd.bound
      have hl95 := hO88.len
      have hl96 := hO88.rd.bound
      refine SR.nil ⟨hS92, _, rfl, ?_⟩
      refine AH.br [3] (by kernel_rfl) rfl ⟨Br.mk' rfl trivial ?_, trivial⟩
      refine SR.call ent16 (c_laws_eqLibrary w79 x ((((((((hO41).lo hk56).kp hk66 (fun b_ hb e' => hd63 (by have e'' : b_ = g53 := e'; rw [← e'']; exact hb))).lo hk72).lo hk76).lo hk80).rd)) ((((((((hO45).lo hk56).kp hk66 (fun b_ hb e' => hd64 (by have e'' : b_ = g53 := e'; rw [← e'']; exact hb))).lo hk72).lo hk76).lo hk80).rd)) x (((hO84).rd)) (((hO88).rd))) rfl ?_
      rintro e w97 ⟨rfl, hk98⟩
      refine ⟨_, rfl, ?_⟩
      have hz99 := hk98.size
      have hB100 := hB91.lo hk98
      have hS101 := (hS92).lo hk98
      refine SR.nil ⟨hS101, _, rfl, ?_⟩
      refine AH.take 4 rfl (by kernel_rfl) trivial (hS101) (fun w' hw' => r_not rfl) <| AH.done (by kernel_rfl) ?_
      exact ⟨A81, n82, c83, A85, n86, c87, ⟨rfl, rfl, trivial⟩, hS101, hl93, hl94, hl95, hl96⟩
    rintro f102 w103 ⟨A81, n82, c83, A85, n86, c87, hat105, hR104, hl93, hl94, hl95, hl96⟩
    rw [← sets_of_at hat105]
    have hz106 := hR104.size
    have hB107 := hB74.lo hR104
    refine W.cond_n rfl (fun h108 => ?_) (fun h108 => ?_)
    · refine W.seq ?_
      refine W.regS (SR.q' (r_as (v := .bool false) rfl) <| SR.nil ?_)
      refine W.ret ?_
      refine ret1 rfl (v := .bool _) rfl ?_
      exact ⟨eR (eB (z_c_laws_FnExactTornCopies_109 x nx_Maps hbdx_Maps hlex_Maps nx_Away hbdx_Away hlex_Away h13 hq14 n18 hl28 hl29 n22 hl30 hl31 n39 hl49 hl50 n43 hl51 hl52 n82 n86 hl93 hl94 hl95 hl96 h108)), hB107⟩
    · refine W.skip ?_
      refine W.seq ?_
      refine W.regS (SR.q' (r_as (v := .bool true) rfl) <| SR.nil ?_)
      refine W.ret ?_
      refine ret1 rfl (v := .bool _) rfl ?_
      exact ⟨eR rfl, hB107⟩
end Go.Proofs.Ytbodnffjgmaloaa
