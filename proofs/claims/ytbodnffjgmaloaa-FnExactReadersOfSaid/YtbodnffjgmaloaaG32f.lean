/- Walks, printed by a program of this claim's author. -/
import Derived.Test.YtbodnffjgmaloaaChecked
import Derived.Test.YtbodnffjgmaloaaUa
import Derived.Test.YtbodnffjgmaloaaG32e
namespace Go.Proofs.Ytbodnffjgmaloaa
open Go Go.RowKit Fw
set_option maxRecDepth 10000
set_option linter.unusedVariables false
theorem ent21 : Ent Try.prog 21 := ent_of Try.func21 (by decide +kernel) rfl
theorem ent22 : Ent Try.prog 22 := ent_of Try.func22 (by decide +kernel) rfl
theorem ent23 : Ent Try.prog 23 := ent_of Try.func23 (by decide +kernel) rfl
theorem ent24 : Ent Try.prog 24 := ent_of Try.func24 (by decide +kernel) rfl
theorem ent25 : Ent Try.prog 25 := ent_of Try.func25 (by decide +kernel) rfl
theorem ent26 : Ent Try.prog 26 := ent_of Try.func26 (by decide +kernel) rfl
theorem ent27 : Ent Try.prog 27 := ent_of Try.func27 (by decide +kernel) rfl
theorem ent28 : Ent Try.prog 28 := ent_of Try.func28 (by decide +kernel) rfl

theorem z_c_laws_FnExactMayLend_103 (x : Library) (nx_Maps : Nat) (hbdx_Maps : (nx_Maps : Int) ≤ 9223372036854775807) (hlex_Maps : nx_Maps = x.Maps.length) (nx_Away : Nat) (hbdx_Away : (nx_Away : Int) ≤ 9223372036854775807) (hlex_Away : nx_Away = x.Away.length) (h13 : ¬ ((szN (x.Maps.length + x.Away.length) 1048576) < 0)) (hq14 : ((x.Maps.length + x.Away.length : Nat) : Int) ≤ 1048576 ∧ szN (x.Maps.length + x.Away.length) 1048576 = 1048576 - ((x.Maps.length + x.Away.length : Nat) : Int)) (n18 : Nat) (hl28 : n18 = (x.Maps).length) (hl29 : (n18 : Int) ≤ 9223372036854775807) (n22 : Nat) (hl30 : n22 = (x.Away).length) (hl31 : (n22 : Int) ≤ 9223372036854775807) (n35 : Nat) (hl40 : n35 = ((if LibOK x then selL mayM LMap.Id x.Maps else [])).length) (hl41 : (n35 : Int) ≤ 9223372036854775807) (hq42 : (if LibOK x then selL mayM LMap.Id x.Maps else []).length ≤ x.Maps.length) (n46 : Nat) (hl56 : n46 = (x.Maps).length) (hl57 : (n46 : Int) ≤ 9223372036854775807) (n50 : Nat) (hl58 : n50 = (x.Away).length) (hl59 : (n50 : Int) ≤ 9223372036854775807) (n82 : Nat) (hl87 : n82 = ((if LibOK x then selL mayM LMap.Id x.Maps else [])).length) (hl88 : (n82 : Int) ≤ 9223372036854775807) (hq89 : (if LibOK x then selL mayM LMap.Id x.Maps else []).length ≤ x.Maps.length) (h101 : ¬ ((if LibOK x then selL mayM LMap.Id x.Maps else []) = (if LibOK x then selL mayM LMap.Id x.Maps else []))) (hq102 : ¬ ((if LibOK x then selL mayM LMap.Id x.Maps else []) = (if LibOK x then selL mayM LMap.Id x.Maps else []))) : false = true := by
  first | (simp_all; done) | omega | (simp at *; omega)
theorem z_c_laws_FnExactMayLend_139 (x : Library) (nx_Maps : Nat) (hbdx_Maps : (nx_Maps : Int) ≤ 9223372036854775807) (hlex_Maps : nx_Maps = x.Maps.length) (nx_Away : Nat) (hbdx_Away : (nx_Away : Int) ≤ 9223372036854775807) (hlex_Away : nx_Away = x.Away.length) (h13 : ¬ ((szN (x.Maps.length + x.Away.length) 1048576) < 0)) (hq14 : ((x.Maps.length + x.Away.length : Nat) : Int) ≤ 1048576 ∧ szN (x.Maps.length + x.Away.length) 1048576 = 1048576 - ((x.Maps.length + x.Away.length : Nat) : Int)) (n18 : Nat) (hl28 : n18 = (x.Maps).length) (hl29 : (n18 : Int) ≤ 9223372036854775807) (n22 : Nat) (hl30 : n22 = (x.Away).length) (hl31 : (n22 : Int) ≤ 9223372036854775807) (n35 : Nat) (hl40 : n35 = ((if LibOK x then selL mayM LMap.Id x.Maps else [])).length) (hl41 : (n35 : Int) ≤ 9223372036854775807) (hq42 : (if LibOK x then selL mayM LMap.Id x.Maps else []).length ≤ x.Maps.length) (n46 : Nat) (hl56 : n46 = (x.Maps).length) (hl57 : (n46 : Int) ≤ 9223372036854775807) (n50 : Nat) (hl58 : n50 = (x.Away).length) (hl59 : (n50 : Int) ≤ 9223372036854775807) (n82 : Nat) (hl87 : n82 = ((if LibOK x then selL mayM LMap.Id x.Maps else [])).length) (hl88 : (n82 : Int) ≤ 9223372036854775807) (hq89 : (if LibOK x then selL mayM LMap.Id x.Maps else []).length ≤ x.Maps.length) (h101 : ¬ (¬ ((if LibOK x then selL mayM LMap.Id x.Maps else []) = (if LibOK x then selL mayM LMap.Id x.Maps else [])))) (hq104 : (if LibOK x then selL mayM LMap.Id x.Maps else []) = (if LibOK x then selL mayM LMap.Id x.Maps else [])) (n112 : Nat) (n116 : Nat) (hl123 : n112 = (x.Maps).length) (hl124 : (n112 : Int) ≤ 9223372036854775807) (hl125 : n116 = (x.Away).length) (hl126 : (n116 : Int) ≤ 9223372036854775807) (h138 : ¬ (x = x)) : false = true := by
  first | (simp_all; done) | omega | (simp at *; omega)
theorem z_c_laws_FnExactMayLend_159 (x : Library) (nx_Maps : Nat) (hbdx_Maps : (nx_Maps : Int) ≤ 9223372036854775807) (hlex_Maps : nx_Maps = x.Maps.length) (nx_Away : Nat) (hbdx_Away : (nx_Away : Int) ≤ 9223372036854775807) (hlex_Away : nx_Away = x.Away.length) (h13 : ¬ ((szN (x.Maps.length + x.Away.length) 1048576) < 0)) (hq14 : ((x.Maps.length + x.Away.length : Nat) : Int) ≤ 1048576 ∧ szN (x.Maps.length + x.Away.length) 1048576 = 1048576 - ((x.Maps.length + x.Away.length : Nat) : Int)) (n18 : Nat) (hl28 : n18 = (x.Maps).length) (hl29 : (n18 : Int) ≤ 9223372036854775807) (n22 : Nat) (hl30 : n22 = (x.Away).length) (hl31 : (n22 : Int) ≤ 9223372036854775807) (n35 : Nat) (hl40 : n35 = ((if LibOK x then selL mayM LMap.Id x.Maps else [])).length) (hl41 : (n35 : Int) ≤ 9223372036854775807) (hq42 : (if LibOK x then selL mayM LMap.Id x.Maps else []).length ≤ x.Maps.length) (n46 : Nat) (hl56 : n46 = (x.Maps).length) (hl57 : (n46 : Int) ≤ 9223372036854775807) (n50 : Nat) (hl58 : n50 = (x.Away).length) (hl59 : (n50 : Int) ≤ 9223372036854775807) (n82 : Nat) (hl87 : n82 = ((if LibOK x then selL mayM LMap.Id x.Maps else [])).length) (hl88 : (n82 : Int) ≤ 9223372036854775807) (hq89 : (if LibOK x then selL mayM LMap.Id x.Maps else []).length ≤ x.Maps.length) (h101 : ¬ (¬ ((if LibOK x then selL mayM LMap.Id x.Maps else []) = (if LibOK x then selL mayM LMap.Id x.Maps else [])))) (hq104 : (if LibOK x then selL mayM LMap.Id x.Maps else []) = (if LibOK x then selL mayM LMap.Id x.Maps else [])) (n112 : Nat) (n116 : Nat) (hl123 : n112 = (x.Maps).length) (hl124 : (n112 : Int) ≤ 9223372036854775807) (hl125 : n116 = (x.Away).length) (hl126 : (n116 : Int) ≤ 9223372036854775807) (h138 : x = x) (h158 : ((1 + 3 * (x.Maps.length : Int) + 2 * (x.Away.length : Int)) < 0) ∨ (¬ ((if LibOK x then selL mayM LMap.Id x.Maps else []) = (if LibOK x then selL mayM LMap.Id x.Maps else [])))) : false = true := by
  first | (simp_all; done) | omega | (simp at *; omega)
theorem z_c_laws_FnExactMayLend_172 (x : Library) (nx_Maps : Nat) (hbdx_Maps : (nx_Maps : Int) ≤ 9223372036854775807) (hlex_Maps : nx_Maps = x.Maps.length) (nx_Away : Nat) (hbdx_Away : (nx_Away : Int) ≤ 9223372036854775807) (hlex_Away : nx_Away = x.Away.length) (h13 : ¬ ((szN (x.Maps.length + x.Away.length) 1048576) < 0)) (hq14 : ((x.Maps.length + x.Away.length : Nat) : Int) ≤ 1048576 ∧ szN (x.Maps.length + x.Away.length) 1048576 = 1048576 - ((x.Maps.length + x.Away.length : Nat) : Int)) (n18 : Nat) (hl28 : n18 = (x.Maps).length) (hl29 : (n18 : Int) ≤ 9223372036854775807) (n22 : Nat) (hl30 : n22 = (x.Away).length) (hl31 : (n22 : Int) ≤ 9223372036854775807) (n35 : Nat) (hl40 : n35 = ((if LibOK x then selL mayM LMap.Id x.Maps else [])).length) (hl41 : (n35 : Int) ≤ 9223372036854775807) (hq42 : (if LibOK x then selL mayM LMap.Id x.Maps else []).length ≤ x.Maps.length) (n46 : Nat) (hl56 : n46 = (x.Maps).length) (hl57 : (n46 : Int) ≤ 9223372036854775807) (n50 : Nat) (hl58 : n50 = (x.Away).length) (hl59 : (n50 : Int) ≤ 9223372036854775807) (n82 : Nat) (hl87 : n82 = ((if LibOK x then selL mayM LMap.Id x.Maps else [])).length) (hl88 : (n82 : Int) ≤ 9223372036854775807) (hq89 : (if LibOK x then selL mayM LMap.Id x.Maps else []).length ≤ x.Maps.length) (h101 : ¬ (¬ ((if LibOK x then selL mayM LMap.Id x.Maps else []) = (if LibOK x then selL mayM LMap.Id x.Maps else [])))) (hq104 : (if LibOK x then selL mayM LMap.Id x.Maps else []) = (if LibOK x then selL mayM LMap.Id x.Maps else [])) (n112 : Nat) (n116 : Nat) (hl123 : n112 = (x.Maps).length) (hl124 : (n112 : Int) ≤ 9223372036854775807) (hl125 : n116 = (x.Away).length) (hl126 : (n116 : Int) ≤ 9223372036854775807) (h138 : x = x) (h158 : ¬ (((1 + 3 * (x.Maps.length : Int) + 2 * (x.Away.length : Int)) < 0) ∨ (¬ ((if LibOK x then selL mayM LMap.Id x.Maps else []) = (if LibOK x then selL mayM LMap.Id x.Maps else []))))) (hq160 : ¬ ((1 + 3 * (x.Maps.length : Int) + 2 * (x.Away.length : Int)) < 0)) (hq161 : (if LibOK x then selL mayM LMap.Id x.Maps else []) = (if LibOK x then selL mayM LMap.Id x.Maps else [])) (h171 : (1 + 1 * ((if LibOK x then selL mayM LMap.Id x.Maps else []).length : Int)) < 0) : false = true := by
  first | (simp_all; done) | omega | (simp at *; omega)
theorem c_laws_FnExactMayLend (w : World) (x : Library) {Ax_Maps : Option Addr} {nx_Maps cx_Maps Bx_Maps : Nat} (hx_Maps : SlR w Bx_Maps encLMap 3 Ax_Maps nx_Maps cx_Maps x.Maps) {Ax_Away : Option Addr} {nx_Away cx_Away Bx_Away : Nat} (hx_Away : SlR w Bx_Away encAway 2 Ax_Away nx_Away cx_Away x.Away) : Calls Try.prog 7 #[.agg (List.toArray [.slice Ax_Maps nx_Maps cx_Maps, .slice Ax_Away nx_Away cx_Away, .int .i64 x.Bought, .int .i64 x.Dropped, .int .i64 x.Mended])] w fun e w' => e = .returned (.bool true) ∧ Lo w w' := by
  refine calls_W 96 Try.func7 rfl rfl rfl ?_
  have hbdx_Maps := hx_Maps.bound
  have hlex_Maps := hx_Maps.len
  have hBbx_Maps := hx_Maps.bd
  have hbdx_Away := hx_Away.bound
  have hlex_Away := hx_Away.len
  have hBbx_Away := hx_Away.bd
  refine W.seq ?_
  refine W.regS (SR.box (v := .agg (List.toArray _)) (l := [.slice Ax_Maps nx_Maps cx_Maps, .slice Ax_Away nx_Away cx_Away, .int .i64 x.Bought, .int .i64 x.Dropped, .int .i64 x.Mended]) rfl rfl ?_)
  intro g1 w2 hg3 hk4 hs5 hb6
  have hz7 := hk4.size
  have hB8 := (Lo.refl w).lo hk4
  refine SR.q' (r_as (v := .bool false) rfl) <| SR.nil ?_
  refine W.seq ?_
  refine W.regS (SR.q' (r_as (v := .int .i64 1048576) rfl) <| SR.nil ?_)
  refine W.seq ?_
  refine W.regS (SR.q' (r_lda (l := [.slice Ax_Maps nx_Maps cx_Maps, .slice Ax_Away nx_Away cx_Away, .int .i64 x.Bought, .int .i64 x.Dropped, .int .i64 x.Mended]) agg25 rfl (fun _ _ hu => (hb6).cell hu) rfl) <| SR.q' (r_mv (v := .int .i64 _) rfl) <| SR.call ent12 (c_laws_szLibrary w2 x (((hx_Maps).lo hk4)) (((hx_Away).lo hk4)) 1048576 (by omega) (by omega)) rfl ?_)
  rintro e w9 ⟨rfl, hk10⟩
  refine ⟨_, rfl, ?_⟩
  have hz11 := hk10.size
  have hB12 := hB8.lo hk10
  refine SR.q' (r_as (v := .int .i64 _) rfl) <| SR.nil ?_
  refine W.seq ?_
  refine W.seq ?_
  refine W.regS (SR.q' (r_mv (v := .int .i64 _) rfl) <| SR.q' (r_lt rfl rfl) <| SR.nil ?_)
  refine W.cond_d rfl (fun h13 => ?_) (fun h13 => ?_)
  · refine W.seq ?_
    refine W.regS (SR.q' (r_as (v := .bool true) rfl) <| SR.nil ?_)
    refine W.ret ?_
    refine ret1 rfl (v := .bool _) rfl ?_
    exact ⟨eR rfl, hB12⟩
  · have hq14 := szN_ok h13
    refine W.skip ?_
    refine W.seq ?_
    refine W.regS (SR.q' (r_lda (l := [.slice Ax_Maps nx_Maps cx_Maps, .slice Ax_Away nx_Away cx_Away, .int .i64 x.Bought, .int .i64 x.Dropped, .int .i64 x.Mended]) agg25 rfl (fun _ _ hu => ((hb6).lo hk10).cell hu) rfl) <| SR.call ent14 (c_laws_toLibrary w9 x ((((hx_Maps).lo hk4).lo hk10)) ((((hx_Away).lo hk4).lo hk10)) (by omega) (by omega)) rfl ?_)
    rintro e w15 ⟨A17, n18, c19, A21, n22, c23, rfl, hO20, hO24, hd25, hk16⟩
    refine ⟨_, rfl, ?_⟩
    have hz26 := hk16.size
    have hB27 := hB12.lo hk16
    have hl28 := hO20.len
    have hl29 := hO20.rd.bound
    have hl30 := hO24.len
    have hl31 := hO24.rd.bound
    refine SR.call ent27 (c_spec_MayLend w15 x (((hO20).rd)) (((hO24).rd)) (by omega)) rfl ?_
    rintro e w32 ⟨A34, n35, c36, rfl, hO37, hk33⟩
    refine ⟨_, rfl, ?_⟩
    have hz38 := hk33.size
    have hB39 := hB27.lo hk33
    have hl40 := hO37.len
    have hl41 := hO37.rd.bound
    have hq42 := selif_len (LibOK x) mayM LMap.Id x.Maps
    refine SR.q' (r_mv (v := .tuple (List.toArray _)) rfl) <| SR.q' (r_ext (v := .slice _ _ _) rfl rfl) <| SR.q' (r_ext (v := .bool _) rfl rfl) <| SR.q' (r_as (v := .slice _ _ _) rfl) <| SR.q' (r_as (v := .bool _) rfl) <| SR.nil ?_
    refine W.seq ?_
    refine W.regS (SR.q' (r_lda (l := [.slice Ax_Maps nx_Maps cx_Maps, .slice Ax_Away nx_Away cx_Away, .int .i64 x.Bought, .int .i64 x.Dropped, .int .i64 x.Mended]) agg25 rfl (fun _ _ hu => ((((hb6).lo hk10).lo hk16).lo hk33).cell hu) rfl) <| SR.call ent14 (c_laws_toLibrary w32 x ((((((hx_Maps).lo hk4).lo hk10).lo hk16).lo hk33)) ((((((hx_Away).lo hk4).lo hk10).lo hk16).lo hk33)) (by omega) (by omega)) rfl ?_)
    rintro e w43 ⟨A45, n46, c47, A49, n50, c51, rfl, hO48, hO52, hd53, hk44⟩
    refine ⟨_, rfl, ?_⟩
    have hz54 := hk44.size
    have hB55 := hB39.lo hk44
    have hl56 := hO48.len
    have hl57 := hO48.rd.bound
    have hl58 := hO52.len
    have hl59 := hO52.rd.bound
    refine SR.alloc (l := [.slice none 0 0, .slice none 0 0, .int .i64 0, .int .i64 0, .int .i64 0]) tz31 rfl ?_
    intro g60 w61 hg62 hk63 hs64 hb65
    have hz66 := hk63.size
    have hB67 := hB55.lo hk63
    have hd68 : ¬ A17 = some ⟨g60, 0, none⟩ := fun e' => by have := (((hO20).lo hk33).lo hk44).base_le e'; omega
    have hd69 : ¬ A21 = some ⟨g60, 0, none⟩ := fun e' => by have := (((hO24).lo hk33).lo hk44).base_le e'; omega
    have hd70 : ¬ A34 = some ⟨g60, 0, none⟩ := fun e' => by have := ((hO37).lo hk44).base_le e'; omega
    have hd71 : ¬ A45 = some ⟨g60, 0, none⟩ := fun e' => by have := (hO48).base_le e'; omega
    have hd72 : ¬ A49 = some ⟨g60, 0, none⟩ := fun e' => by have := (hO52).base_le e'; omega
    refine SR.store (o := 0) (vs := [.slice A45 n46 c47, .slice A49 n50 c51, .int .i64 x.Bought, .int .i64 x.Dropped, .int .i64 x.Mended]) agg31.2 rfl rfl rfl rfl (hb65) (Nat.le_of_ble_eq_true rfl) rfl ?_
    intro w73 hk74 hs75 hb76
    have hz77 := hk74.size
    have hB78 := hB67.new hk74 (by omega)
    refine SR.nil ?_
    refine W.seq ?_
    refine W.regS (SR.q' (r_lda (l := [.slice A45 n46 c47, .slice A49 n50 c51, .int .i64 x.Bought, .int .i64 x.Dropped, .int .i64 x.Mended]) agg31 rfl (fun _ _ hu => (hb76).cell hu) rfl) <| SR.call ent28 (c_impl_MayLend w73 x (((((hO48).lo hk63).kp hk74 (fun b_ hb e' => hd71 (by have e'' : b_ = g60 := e'; rw [← e'']; exact hb))).rd)) (((((hO52).lo hk63).kp hk74 (fun b_ hb e' => hd72 (by have e'' : b_ = g60 := e'; rw [← e'']; exact hb))).rd)) (by omega)) rfl ?_)
    rintro e w79 ⟨A81, n82, c83, rfl, hO84, hk80⟩
    refine ⟨_, rfl, ?_⟩
    have hz85 := hk80.size
    have hB86 := hB78.lo hk80
    have hl87 := hO84.len
    have hl88 := hO84.rd.bound
    have hq89 := selif_len (LibOK x) mayM LMap.Id x.Maps
    refine SR.q' (r_mv (v := .tuple (List.toArray _)) rfl) <| SR.q' (r_ext (v := .slice _ _ _) rfl rfl) <| SR.q' (r_ext (v := .bool _) rfl rfl) <| SR.q' (r_as (v := .slice _ _ _) rfl) <| SR.q' (r_as (v := .bool _) rfl) <| SR.nil ?_
    refine W.seq ?_
    refine W.seq ?_
    refine W.regJS (fun f' w' => At f' [(1, .pointer (some ((⟨g1, 0, none⟩ : Addr)))), (2, .bool false), (4, .slice A34 n35 c36), (5, .bool (decide (LibOK x))), (6, .pointer (some ((⟨g60, 0, none⟩ : Addr)))), (7, .slice A81 n82 c83), (8, .bool (decide (LibOK x))), (40, .bool (decide (¬ ((if LibOK x then selL mayM LMap.Id x.Maps else []) = (if LibOK x then selL mayM LMap.Id x.Maps else [])))))] ∧ Lo w79 w') ?_ ?_
    · refine SR.q' (r_mv (v := .slice _ _ _) rfl) <| SR.q' (r_mv (v := .slice _ _ _) rfl) <| SR.call ent23 (c_laws_eqIntS w79 (if LibOK x then selL mayM LMap.Id x.Maps else []) (((hO84).rd)) (if LibOK x then selL mayM LMap.Id x.Maps else []) (((((((hO37).lo hk44).lo hk63).kp hk74 (fun b_ hb e' => hd70 (by have e'' : b_ = g60 := e'; rw [← e'']; exact hb))).lo hk80).rd))) rfl ?_
      rintro e w90 ⟨rfl, hk91⟩
      refine ⟨_, rfl, ?_⟩
      have hz92 := hk91.size
      have hB93 := hB86.lo hk91
      refine SR.q' (r_not rfl) <| SR.q' (r_mv (v := .bool _) rfl) <| SR.splitN (fun h94 => ?_) (fun h94 => ?_)
      · refine SR.s' rfl <| SR.s' rfl <| SR.s' rfl <| SR.q' (r_pick true rfl (v := .bool true) rfl) <| SR.nil ?_
        exact ⟨_, rfl, ⟨⟨rfl, rfl, rfl, rfl, rfl, rfl, rfl, (eDT ((j2f h94).1 trivial)), trivial⟩, (hk91)⟩⟩
      · refine SR.g' rfl (r_mv (v := .bool _) rfl) <| SR.g' rfl (r_mv (v := .bool _) rfl) <| SR.g' rfl (r_neb_s und4 rfl rfl) <| SR.q' (r_pick false rfl (v := .bool _) rfl) <| SR.nil ?_
        exact ⟨_, rfl, ⟨⟨rfl, rfl, rfl, rfl, rfl, rfl, rfl, (eDF (j2t h94).2), trivial⟩, (hk91)⟩⟩
    rintro f95 w96 ⟨hat97, hk98⟩
    rw [← sets_of_at hat97]
    have hz99 := hk98.size
    have hB100 := hB86.lo hk98
    refine W.cond_d rfl (fun h101 => ?_) (fun h101 => ?_)
    · have hq102 : ¬ ((if LibOK x then selL mayM LMap.Id x.Maps else []) = (if LibOK x then selL mayM LMap.Id x.Maps else [])) := h101
      refine W.seq ?_
      refine W.regS (SR.q' (r_as (v := .bool false) rfl) <| SR.nil ?_)
      refine W.ret ?_
      refine ret1 rfl (v := .bool _) rfl ?_
      exact ⟨eR (eB (z_c_laws_FnExactMayLend_103 x nx_Maps hbdx_Maps hlex_Maps nx_Away hbdx_Away hlex_Away h13 hq14 n18 hl28 hl29 n22 hl30 hl31 n35 hl40 hl41 hq42 n46 hl56 hl57 n50 hl58 hl59 n82 hl87 hl88 hq89 h101 hq102)), hB100⟩
    · have hq104 : (if LibOK x then selL mayM LMap.Id x.Maps else []) = (if LibOK x then selL mayM LMap.Id x.Maps else []) := (Classical.not_not.1 h101)
      refine W.skip ?_
      refine W.seq ?_
      refine W.seq ?_
      refine W.regA (Lo w96) (fun f' w' => ∃ (A111 : Option Addr), ∃ (n112 : Nat), ∃ (c113 : Nat), ∃ (A115 : Option Addr), ∃ (n116 : Nat), ∃ (c117 : Nat), At f' [(1, .pointer (some ((⟨g1, 0, none⟩ : Addr)))), (2, .bool false), (4, .slice A34 n35 c36), (5, .bool (decide (LibOK x))), (6, .pointer (some ((⟨g60, 0, none⟩ : Addr)))), (7, .slice A81 n82 c83), (8, .bool (decide (LibOK x))), (45, .bool (!decide (x = x)))] ∧ (Lo w96 w') ∧ (n112 = (x.Maps).length) ∧ ((n112 : Int) ≤ 9223372036854775807) ∧ (n116 = (x.Away).length) ∧ ((n116 : Int) ≤ 9223372036854775807)) mo ?_ ?_
      · intro w105 hk106
        have hz107 := hk106.size
        have hB108 := hB100.lo hk106
        refine AH.take 0 rfl (by kernel_rfl) trivial (hk106) (fun w' hw' => r_lda (l := [.slice A45 n46 c47, .slice A49 n50 c51, .int .i64 x.Bought, .int .i64 x.Dropped, .int .i64 x.Mended]) agg31 rfl (fun _ _ hu => ((((hb76).lo hk80).lo hk98).lo hw').cell hu) rfl) <| AH.take 1 rfl (by kernel_rfl) trivial (hk106) (fun w' hw' => r_lda (l := [.slice Ax_Maps nx_Maps cx_Maps, .slice Ax_Away nx_Away cx_Away, .int .i64 x.Bought, .int .i64 x.Dropped, .int .i64 x.Mended]) agg25 rfl (fun _ _ hu => ((((((((((hb6).lo hk10).lo hk16).lo hk33).lo hk44).lo hk63).kp hk74 (fun e' => by have e'' : g1 = g60 := e'; omega)).lo hk80).lo hk98).lo hw').cell hu) rfl) <| AH.br [2] (by kernel_rfl) rfl ⟨Br.mk' rfl trivial ?_, trivial⟩
        refine SR.call ent14 (c_laws_toLibrary w105 x ((((((((((((hx_Maps).lo hk4).lo hk10).lo hk16).lo hk33).lo hk44).lo hk63).kp hk74 (fun b_ hb e' => by have e'' : b_ = g60 := e'; omega)).lo hk80).lo hk98).lo hk106)) ((((((((((((hx_Away).lo hk4).lo hk10).lo hk16).lo hk33).lo hk44).lo hk63).kp hk74 (fun b_ hb e' => by have e'' : b_ = g60 := e'; omega)).lo hk80).lo hk98).lo hk106)) (by omega) (by omega)) rfl ?_
        rintro e w109 ⟨A111, n112, c113, A115, n116, c117, rfl, hO114, hO118, hd119, hk110⟩
        refine ⟨_, rfl, ?_⟩
        have hz120 := hk110.size
        have hB121 := hB108.lo hk110
        have hS122 := (hk106).lo hk110
        have hl123 := hO114.len
        have hl124 := hO114.rd.bound
        have hl125 := hO118.len
        have hl126 := hO118.rd.bound
        refine SR.nil ⟨hS122, _, rfl, ?_⟩
        refine AH.br [3] (by kernel_rfl) rfl ⟨Br.mk' rfl trivial ?_, trivial⟩
        refine SR.call ent16 (c_laws_eqLibrary w109 x (((((((((hO48).lo hk63).kp hk74 (fun b_ hb e' => hd71 (by have e'' : b_ = g60 := e'; rw [← e'']; exact hb))).lo hk80).lo hk98).lo hk106).lo hk110).rd)) (((((((((hO52).lo hk63).kp hk74 (fun b_ hb e' => hd72 (by have e'' : b_ = g60 := e'; rw [← e'']; exact hb))).lo hk80).lo hk98).lo hk106).lo hk110).rd)) x (((hO114).rd)) (((hO118).rd))) rfl ?_
        rintro e w127 ⟨rfl, hk128⟩
        refine ⟨_, rfl, ?_⟩
        have hz129 := hk128.size
        have hB130 := hB121.lo hk128
        have hS131 := (hS122).lo hk128
        refine SR.nil ⟨hS131, _, rfl, ?_⟩
        refine AH.take 4 rfl (by kernel_rfl) trivial (hS131) (fun w' hw' => r_not rfl) <| AH.done (by kernel_rfl) ?_
        exact ⟨A111, n112, c113, A115, n116, c117, ⟨rfl, rfl, rfl, rfl, rfl, rfl, rfl, rfl, trivial⟩, hS131, hl123, hl124, hl125, hl126⟩
      rintro f132 w133 ⟨A111, n112, c113, A115, n116, c117, hat135, hR134, hl123, hl124, hl125, hl126⟩
      rw [← sets_of_at hat135]
      have hz136 := hR134.size
      have hB137 := hB100.lo hR134
      refine W.cond_n rfl (fun h138 => ?_) (fun h138 => ?_)
      · refine W.seq ?_
        refine W.regS (SR.q' (r_as (v := .bool false) rfl) <| SR.nil ?_)
        refine W.ret ?_
        refine ret1 rfl (v := .bool _) rfl ?_
        exact ⟨eR (eB (z_c_laws_FnExactMayLend_139 x nx_Maps hbdx_Maps hlex_Maps nx_Away hbdx_Away hlex_Away h13 hq14 n18 hl28 hl29 n22 hl30 hl31 n35 hl40 hl41 hq42 n46 hl56 hl57 n50 hl58 hl59 n82 hl87 hl88 hq89 h101 hq104 n112 n116 hl123 hl124 hl125 hl126 h138)), hB137⟩
      · refine W.skip ?_
        refine W.seq ?_
        refine W.regS (SR.q' (r_as (v := .int .i64 1) rfl) <| SR.nil ?_)
        refine W.seq ?_
        refine W.regS (SR.q' (r_lda (l := [.slice A45 n46 c47, .slice A49 n50 c51, .int .i64 x.Bought, .int .i64 x.Dropped, .int .i64 x.Mended]) agg31 rfl (fun _ _ hu => ((((hb76).lo hk80).lo hk98).lo hR134).cell hu) rfl) <| SR.q' (r_mv (v := .int .i64 _) rfl) <| SR.call ent24 (c_laws_markLibrary w133 x ((((((hO48).lo hk63).kp hk74 (fun b_ hb e' => hd71 (by have e'' : b_ = g60 := e'; rw [← e'']; exact hb))).lo hk80).lo hk98).lo hR134) ((((((hO52).lo hk63).kp hk74 (fun b_ hb e' => hd72 (by have e'' : b_ = g60 := e'; rw [← e'']; exact hb))).lo hk80).lo hk98).lo hR134) 1 hd53 (by omega) (by omega) (by omega) (by omega)) rfl ?_)
        rintro e w140 ⟨rfl, hO142, hO143, hk141⟩
        refine ⟨_, rfl, ?_⟩
        have hz144 := hk141.size
        have hB145 := hB137.step hk141 (fun i_ hi_ e' => e'.elim (fun e' => by have := (((((((hO48).lo hk63).kp hk74 (fun b_ hb e' => hd71 (by have e'' : b_ = g60 := e'; rw [← e'']; exact hb))).lo hk80).lo hk98).lo hR134)).base_le e'; first | omega | (exfalso; omega) | exact e' | exact .inl e' | exact .inr e') (fun e' => by have := (((((((hO52).lo hk63).kp hk74 (fun b_ hb e' => hd72 (by have e'' : b_ = g60 := e'; rw [← e'']; exact hb))).lo hk80).lo hk98).lo hR134)).base_le e'; first | omega | (exfalso; omega) | exact e' | exact .inl e' | exact .inr e'))
        refine SR.q' (r_as (v := .int .i64 _) rfl) <| SR.nil ?_
        refine W.seq ?_
        refine W.seq ?_
        refine W.regJS (fun f' w' => At f' [(1, .pointer (some ((⟨g1, 0, none⟩ : Addr)))), (2, .bool false), (4, .slice A34 n35 c36), (5, .bool (decide (LibOK x))), (7, .slice A81 n82 c83), (61, .bool (decide (((1 + 3 * (x.Maps.length : Int) + 2 * (x.Away.length : Int)) < 0) ∨ (¬ ((if LibOK x then selL mayM LMap.Id x.Maps else []) = (if LibOK x then selL mayM LMap.Id x.Maps else []))))))] ∧ Lo w140 w') ?_ ?_
        · refine SR.q' (r_mv (v := .int .i64 _) rfl) <| SR.q' (r_lt rfl rfl) <| SR.q' (r_mv (v := .bool _) rfl) <| SR.splitD (fun h146 => ?_) (fun h146 => ?_)
          · refine SR.s' rfl <| SR.s' rfl <| SR.s' rfl <| SR.s' rfl <| SR.q' (r_pick true rfl (v := .bool true) rfl) <| SR.q' (r_mv (v := .bool _) rfl) <| SR.s' rfl <| SR.s' rfl <| SR.s' rfl <| SR.q' (r_pick true rfl (v := .bool true) rfl) <| SR.nil ?_
            exact ⟨_, rfl, ⟨⟨rfl, rfl, rfl, rfl, rfl, (eDT ((jot h146).1 trivial)), trivial⟩, (Lo.refl _)⟩⟩
          · refine SR.g' rfl (r_mv (v := .slice _ _ _) rfl) <| SR.g' rfl (r_mv (v := .slice _ _ _) rfl) <| SR.gcall rfl ent23 (c_laws_eqIntS w140 (if LibOK x then selL mayM LMap.Id x.Maps else []) ((((((hO84).lo hk98).lo hR134).kp hk141 (fun b_ hb e' => e'.elim (fun e' => by have h1 := (((((((hO48).lo hk63).kp hk74 (fun b_ hb e' => hd71 (by have e'' : b_ = g60 := e'; rw [← e'']; exact hb))).lo hk80).lo hk98).lo hR134)).base_le e'; have h2 := (((hO84).lo hk98).lo hR134).base_le hb; have h4 := (((hO48).lo hk63).kp hk74 (fun b_ hb e' => hd71 (by have e'' : b_ = g60 := e'; rw [← e'']; exact hb))).base_le e'; omega) (fun e' => by have h1 := (((((((hO52).lo hk63).kp hk74 (fun b_ hb e' => hd72 (by have e'' : b_ = g60 := e'; rw [← e'']; exact hb))).lo hk80).lo hk98).lo hR134)).base_le e'; have h2 := (((hO84).lo hk98).lo hR134).base_le hb; have h4 := (((hO52).lo hk63).kp hk74 (fun b_ hb e' => hd72 (by have e'' : b_ = g60 := e'; rw [← e'']; exact hb))).base_le e'; omega))).rd)) (if LibOK x then selL mayM LMap.Id x.Maps else []) ((((((((((hO37).lo hk44).lo hk63).kp hk74 (fun b_ hb e' => hd70 (by have e'' : b_ = g60 := e'; rw [← e'']; exact hb))).lo hk80).lo hk98).lo hR134).kp hk141 (fun b_ hb e' => e'.elim (fun e' => by have h1 := (((((((hO48).lo hk63).kp hk74 (fun b_ hb e' => hd71 (by have e'' : b_ = g60 := e'; rw [← e'']; exact hb))).lo hk80).lo hk98).lo hR134)).base_le e'; have h2 := (((((((hO37).lo hk44).lo hk63).kp hk74 (fun b_ hb e' => hd70 (by have e'' : b_ = g60 := e'; rw [← e'']; exact hb))).lo hk80).lo hk98).lo hR134).base_le hb; have h3 := (hO37).base_le hb; omega) (fun e' => by have h1 := (((((((hO52).lo hk63).kp hk74 (fun b_ hb e' => hd72 (by have e'' : b_ = g60 := e'; rw [← e'']; exact hb))).lo hk80).lo hk98).lo hR134)).base_le e'; have h2 := (((((((hO37).lo hk44).lo hk63).kp hk74 (fun b_ hb e' => hd70 (by have e'' : b_ = g60 := e'; rw [← e'']; exact hb))).lo hk80).lo hk98).lo hR134).base_le hb; have h3 := (hO37).base_le hb; omega))).rd))) rfl ?_
            rintro e w147 ⟨rfl, hk148⟩
            refine ⟨_, rfl, ?_⟩
            have hz149 := hk148.size
            have hB150 := hB145.lo hk148
            refine SR.g' rfl (r_not rfl) <| SR.q' (r_pick false rfl (v := .bool _) rfl) <| SR.q' (r_mv (v := .bool _) rfl) <| SR.splitN (fun h151 => ?_) (fun h151 => ?_)
            · refine SR.s' rfl <| SR.s' rfl <| SR.s' rfl <| SR.q' (r_pick true rfl (v := .bool true) rfl) <| SR.nil ?_
              exact ⟨_, rfl, ⟨⟨rfl, rfl, rfl, rfl, rfl, (eDT (((j2f h151).trans (jof h146)).1 trivial)), trivial⟩, (hk148)⟩⟩
            · refine SR.g' rfl (r_mv (v := .bool _) rfl) <| SR.g' rfl (r_mv (v := .bool _) rfl) <| SR.g' rfl (r_neb_s und4 rfl rfl) <| SR.q' (r_pick false rfl (v := .bool _) rfl) <| SR.nil ?_
              exact ⟨_, rfl, ⟨⟨rfl, rfl, rfl, rfl, rfl, (eDF ((j2t h151).trans (jof h146)).2), trivial⟩, (hk148)⟩⟩
        rintro f152 w153 ⟨hat154, hk155⟩
        rw [← sets_of_at hat154]
        have hz156 := hk155.size
        have hB157 := hB145.lo hk155
        refine W.cond_d rfl (fun h158 => ?_) (fun h158 => ?_)
        · refine W.seq ?_
          refine W.regS (SR.q' (r_as (v := .bool false) rfl) <| SR.nil ?_)
          refine W.ret ?_
          refine ret1 rfl (v := .bool _) rfl ?_
          exact ⟨eR (eB (z_c_laws_FnExactMayLend_159 x nx_Maps hbdx_Maps hlex_Maps nx_Away hbdx_Away hlex_Away h13 hq14 n18 hl28 hl29 n22 hl30 hl31 n35 hl40 hl41 hq42 n46 hl56 hl57 n50 hl58 hl59 n82 hl87 hl88 hq89 h101 hq104 n112 n116 hl123 hl124 hl125 hl126 h138 h158)), hB157⟩
        · have hq160 : ¬ ((1 + 3 * (x.Maps.length : Int) + 2 * (x.Away.length : Int)) < 0) := (not_or.1 h158).1
          have hq161 : (if LibOK x then selL mayM LMap.Id x.Maps else []) = (if LibOK x then selL mayM LMap.Id x.Maps else []) := (Classical.not_not.1 (not_or.1 h158).2)
          refine W.skip ?_
          refine W.seq ?_
          refine W.regS (SR.q' (r_as (v := .int .i64 1) rfl) <| SR.nil ?_)
          refine W.seq ?_
          refine W.regS (SR.q' (r_mv (v := .slice _ _ _) rfl) <| SR.q' (r_mv (v := .int .i64 _) rfl) <| SR.call ent25 (c_laws_markIntS w153 (if LibOK x then selL mayM LMap.Id x.Maps else []) (((((hO84).lo hk98).lo hR134).kp hk141 (fun b_ hb e' => e'.elim (fun e' => by have h1 := (((((((hO48).lo hk63).kp hk74 (fun b_ hb e' => hd71 (by have e'' : b_ = g60 := e'; rw [← e'']; exact hb))).lo hk80).lo hk98).lo hR134)).base_le e'; have h2 := (((hO84).lo hk98).lo hR134).base_le hb; have h4 := (((hO48).lo hk63).kp hk74 (fun b_ hb e' => hd71 (by have e'' : b_ = g60 := e'; rw [← e'']; exact hb))).base_le e'; omega) (fun e' => by have h1 := (((((((hO52).lo hk63).kp hk74 (fun b_ hb e' => hd72 (by have e'' : b_ = g60 := e'; rw [← e'']; exact hb))).lo hk80).lo hk98).lo hR134)).base_le e'; have h2 := (((hO84).lo hk98).lo hR134).base_le hb; have h4 := (((hO52).lo hk63).kp hk74 (fun b_ hb e' => hd72 (by have e'' : b_ = g60 := e'; rw [← e'']; exact hb))).base_le e'; omega))).lo hk155) 1 (by omega) (by omega) (by omega)) rfl ?_)
          rintro e w162 ⟨rfl, hO164, hk163⟩
          refine ⟨_, rfl, ?_⟩
          have hz165 := hk163.size
          have hB166 := hB157.step hk163 (fun i_ hi_ e' => by have := ((((((hO84).lo hk98).lo hR134).kp hk141 (fun b_ hb e' => e'.elim (fun e' => by have h1 := (((((((hO48).lo hk63).kp hk74 (fun b_ hb e' => hd71 (by have e'' : b_ = g60 := e'; rw [← e'']; exact hb))).lo hk80).lo hk98).lo hR134)).base_le e'; have h2 := (((hO84).lo hk98).lo hR134).base_le hb; have h4 := (((hO48).lo hk63).kp hk74 (fun b_ hb e' => hd71 (by have e'' : b_ = g60 := e'; rw [← e'']; exact hb))).base_le e'; omega) (fun e' => by have h1 := (((((((hO52).lo hk63).kp hk74 (fun b_ hb e' => hd72 (by have e'' : b_ = g60 := e'; rw [← e'']; exact hb))).lo hk80).lo hk98).lo hR134)).base_le e'; have h2 := (((hO84).lo hk98).lo hR134).base_le hb; have h4 := (((hO52).lo hk63).kp hk74 (fun b_ hb e' => hd72 (by have e'' : b_ = g60 := e'; rw [← e'']; exact hb))).base_le e'; omega))).lo hk155)).base_le e'; first | omega | (exfalso; omega) | exact e' | exact .inl e' | exact .inr e')
          refine SR.q' (r_as (v := .int .i64 _) rfl) <| SR.nil ?_
          refine W.seq ?_
          refine W.regS (SR.q' (r_as (v := .int .i64 1) rfl) <| SR.nil ?_)
          refine W.seq ?_
          refine W.regS (SR.q' (r_mv (v := .slice _ _ _) rfl) <| SR.q' (r_mv (v := .int .i64 _) rfl) <| SR.call ent26 (c_laws_heldIntS w162 (mkL mkInt 1 (if LibOK x then selL mayM LMap.Id x.Maps else []).length 1) (((hO164).rd)) 1 ((if LibOK x then selL mayM LMap.Id x.Maps else []).length) (by omega) (by omega) (by omega) (by first | rfl | assumption)) rfl ?_)
          rintro e w167 ⟨rfl, hk168⟩
          refine ⟨_, rfl, ?_⟩
          have hz169 := hk168.size
          have hB170 := hB166.lo hk168
          refine SR.q' (r_as (v := .int .i64 _) rfl) <| SR.nil ?_
          refine W.seq ?_
          refine W.seq ?_
          refine W.regS (SR.q' (r_mv (v := .int .i64 _) rfl) <| SR.q' (r_lt rfl rfl) <| SR.nil ?_)
          refine W.cond_d rfl (fun h171 => ?_) (fun h171 => ?_)
          · refine W.seq ?_
            refine W.regS (SR.q' (r_as (v := .bool false) rfl) <| SR.nil ?_)
            refine W.ret ?_
            refine ret1 rfl (v := .bool _) rfl ?_
            exact ⟨eR (eB (z_c_laws_FnExactMayLend_172 x nx_Maps hbdx_Maps hlex_Maps nx_Away hbdx_Away hlex_Away h13 hq14 n18 hl28 hl29 n22 hl30 hl31 n35 hl40 hl41 hq42 n46 hl56 hl57 n50 hl58 hl59 n82 hl87 hl88 hq89 h101 hq104 n112 n116 hl123 hl124 hl125 hl126 h138 h158 hq160 hq161 h171)), hB170⟩
          · refine W.skip ?_
            refine W.seq ?_
            refine W.seq ?_
            refine W.regS (SR.q' (r_mv (v := .int .i64 _) rfl) <| SR.q' (r_mv (v := .int .i64 _) rfl) <| SR.q' (r_ne_s rfl rfl) <| SR.nil ?_)
            refine W.cond_f rfl ?_
            refine W.skip ?_
            refine W.seq ?_
            refine W.regS (SR.q' (r_lda (l := [.slice Ax_Maps nx_Maps cx_Maps, .slice Ax_Away nx_Away cx_Away, .int .i64 x.Bought, .int .i64 x.Dropped, .int .i64 x.Mended]) agg25 rfl (fun _ _ hu => ((((((((((((((hb6).lo hk10).lo hk16).lo hk33).lo hk44).lo hk63).kp hk74 (fun e' => by have e'' : g1 = g60 := e'; omega)).lo hk80).lo hk98).lo hR134).kp hk141 (fun e' => e'.elim (fun e' => by have := (((((((hO48).lo hk63).kp hk74 (fun b_ hb e' => hd71 (by have e'' : b_ = g60 := e'; rw [← e'']; exact hb))).lo hk80).lo hk98).lo hR134)).base_le e'; omega) (fun e' => by have := (((((((hO52).lo hk63).kp hk74 (fun b_ hb e' => hd72 (by have e'' : b_ = g60 := e'; rw [← e'']; exact hb))).lo hk80).lo hk98).lo hR134)).base_le e'; omega))).lo hk155).kp hk163 (fun e' => by have := ((((((hO84).lo hk98).lo hR134).kp hk141 (fun b_ hb e' => e'.elim (fun e' => by have h1 := (((((((hO48).lo hk63).kp hk74 (fun b_ hb e' => hd71 (by have e'' : b_ = g60 := e'; rw [← e'']; exact hb))).lo hk80).lo hk98).lo hR134)).base_le e'; have h2 := (((hO84).lo hk98).lo hR134).base_le hb; have h4 := (((hO48).lo hk63).kp hk74 (fun b_ hb e' => hd71 (by have e'' : b_ = g60 := e'; rw [← e'']; exact hb))).base_le e'; omega) (fun e' => by have h1 := (((((((hO52).lo hk63).kp hk74 (fun b_ hb e' => hd72 (by have e'' : b_ = g60 := e'; rw [← e'']; exact hb))).lo hk80).lo hk98).lo hR134)).base_le e'; have h2 := (((hO84).lo hk98).lo hR134).base_le hb; have h4 := (((hO52).lo hk63).kp hk74 (fun b_ hb e' => hd72 (by have e'' : b_ = g60 := e'; rw [← e'']; exact hb))).base_le e'; omega))).lo hk155)).base_le e'; omega)).lo hk168).cell hu) rfl) <| SR.call ent14 (c_laws_toLibrary w167 x ((((((((((((((((hx_Maps).lo hk4).lo hk10).lo hk16).lo hk33).lo hk44).lo hk63).kp hk74 (fun b_ hb e' => by have e'' : b_ = g60 := e'; omega)).lo hk80).lo hk98).lo hR134).kp hk141 (fun b_ hb e' => e'.elim (fun e' => by have := (((((((hO48).lo hk63).kp hk74 (fun b_ hb e' => hd71 (by have e'' : b_ = g60 := e'; rw [← e'']; exact hb))).lo hk80).lo hk98).lo hR134)).base_le e'; omega) (fun e' => by have := (((((((hO52).lo hk63).kp hk74 (fun b_ hb e' => hd72 (by have e'' : b_ = g60 := e'; rw [← e'']; exact hb))).lo hk80).lo hk98).lo hR134)).base_le e'; omega))).lo hk155).kp hk163 (fun b_ hb e' => by have := ((((((hO84).lo hk98).lo hR134).kp hk141 (fun b_ hb e' => e'.elim (fun e' => by have h1 := (((((((hO48).lo hk63).kp hk74 (fun b_ hb e' => hd71 (by have e'' : b_ = g60 := e'; rw [← e'']; exact hb))).lo hk80).lo hk98).lo hR134)).base_le e'; have h2 := (((hO84).lo hk98).lo hR134).base_le hb; have h4 := (((hO48).lo hk63).kp hk74 (fun b_ hb e' => hd71 (by have e'' : b_ = g60 := e'; rw [← e'']; exact hb))).base_le e'; omega) (fun e' => by have h1 := (((((((hO52).lo hk63).kp hk74 (fun b_ hb e' => hd72 (by have e'' : b_ = g60 := e'; rw [← e'']; exact hb))).lo hk80).lo hk98).lo hR134)).base_le e'; have h2 := (((hO84).lo hk98).lo hR134).base_le hb; have h4 := (((hO52).lo hk63).kp hk74 (fun b_ hb e' => hd72 (by have e'' : b_ = g60 := e'; rw [← e'']; exact hb))).base_le e'; omega))).lo hk155)).base_le e'; omega)).lo hk168)) ((((((((((((((((hx_Away).lo hk4).lo hk10).lo hk16).lo hk33).lo hk44).lo hk63).kp hk74 (fun b_ hb e' => by have e'' : b_ = g60 := e'; omega)).lo hk80).lo hk98).lo hR134).kp hk141 (fun b_ hb e' => e'.elim (fun e' => by have := (((((((hO48).lo hk63).kp hk74 (fun b_ hb e' => hd71 (by have e'' : b_ = g60 := e'; rw [← e'']; exact hb))).lo hk80).lo hk98).lo hR134)).base_le e'; omega) (fun e' => by have := (((((((hO52).lo hk63).kp hk74 (fun b_ hb e' => hd72 (by have e'' : b_ = g60 := e'; rw [← e'']; exact hb))).lo hk80).lo hk98).lo hR134)).base_le e'; omega))).lo hk155).kp hk163 (fun b_ hb e' => by have := ((((((hO84).lo hk98).lo hR134).kp hk141 (fun b_ hb e' => e'.elim (fun e' => by have h1 := (((((((hO48).lo hk63).kp hk74 (fun b_ hb e' => hd71 (by have e'' : b_ = g60 := e'; rw [← e'']; exact hb))).lo hk80).lo hk98).lo hR134)).base_le e'; have h2 := (((hO84).lo hk98).lo hR134).base_le hb; have h4 := (((hO48).lo hk63).kp hk74 (fun b_ hb e' => hd71 (by have e'' : b_ = g60 := e'; rw [← e'']; exact hb))).base_le e'; omega) (fun e' => by have h1 := (((((((hO52).lo hk63).kp hk74 (fun b_ hb e' => hd72 (by have e'' : b_ = g60 := e'; rw [← e'']; exact hb))).lo hk80).lo hk98).lo hR134)).base_le e'; have h2 := (((hO84).lo hk98).lo hR134).base_le hb; have h4 := (((hO52).lo hk63).kp hk74 (fun b_ hb e' => hd72 (by have e'' : b_ = g60 := e'; rw [← e'']; exact hb))).base_le e'; omega))).lo hk155)).base_le e'; omega)).lo hk168)) (by omega) (by omega)) rfl ?_)
            rintro e w173 ⟨A175, n176, c177, A179, n180, c181, rfl, hO178, hO182, hd183, hk174⟩
            refine ⟨_, rfl, ?_⟩
            have hz184 := hk174.size
            have hB185 := hB170.lo hk174
            have hl186 := hO178.len
            have hl187 := hO178.rd.bound
            have hl188 := hO182.len
            have hl189 := hO182.rd.bound
            refine SR.call ent28 (c_impl_MayLend w173 x (((hO178).rd)) (((hO182).rd)) (by omega)) rfl ?_
            rintro e w190 ⟨A192, n193, c194, rfl, hO195, hk191⟩
            refine ⟨_, rfl, ?_⟩
            have hz196 := hk191.size
            have hB197 := hB185.lo hk191
            have hl198 := hO195.len
            have hl199 := hO195.rd.bound
            have hq200 := selif_len (LibOK x) mayM LMap.Id x.Maps
            refine SR.q' (r_mv (v := .tuple (List.toArray _)) rfl) <| SR.q' (r_ext (v := .slice _ _ _) rfl rfl) <| SR.q' (r_ext (v := .bool _) rfl rfl) <| SR.q' (r_as (v := .slice _ _ _) rfl) <| SR.q' (r_as (v := .bool _) rfl) <| SR.nil ?_
            refine W.seq ?_
            refine W.seq ?_
            refine W.regJS (fun f' w' => At f' [(2, .bool false), (7, .slice A81 n82 c83), (10, .int .i64 (1 + 1 * ((if LibOK x then selL mayM LMap.Id x.Maps else []).length : Int))), (11, .int .i64 (1 + 1 * ((if LibOK x then selL mayM LMap.Id x.Maps else []).length : Int))), (87, .bool (decide (¬ ((if LibOK x then selL mayM LMap.Id x.Maps else []) = (if LibOK x then selL mayM LMap.Id x.Maps else [])))))] ∧ Lo w190 w') ?_ ?_
            · refine SR.q' (r_mv (v := .slice _ _ _) rfl) <| SR.q' (r_mv (v := .slice _ _ _) rfl) <| SR.call ent23 (c_laws_eqIntS w190 (if LibOK x then selL mayM LMap.Id x.Maps else []) (((hO195).rd)) (if LibOK x then selL mayM LMap.Id x.Maps else []) (((((((((((((((hO37).lo hk44).lo hk63).kp hk74 (fun b_ hb e' => hd70 (by have e'' : b_ = g60 := e'; rw [← e'']; exact hb))).lo hk80).lo hk98).lo hR134).kp hk141 (fun b_ hb e' => e'.elim (fun e' => by have h1 := (((((((hO48).lo hk63).kp hk74 (fun b_ hb e' => hd71 (by have e'' : b_ = g60 := e'; rw [← e'']; exact hb))).lo hk80).lo hk98).lo hR134)).base_le e'; have h2 := (((((((hO37).lo hk44).lo hk63).kp hk74 (fun b_ hb e' => hd70 (by have e'' : b_ = g60 := e'; rw [← e'']; exact hb))).lo hk80).lo hk98).lo hR134).base_le hb; have h3 := (hO37).base_le hb; omega) (fun e' => by have h1 := (((((((hO52).lo hk63).kp hk74 (fun b_ hb e' => hd72 (by have e'' : b_ = g60 := e'; rw [← e'']; exact hb))).lo hk80).lo hk98).lo hR134)).base_le e'; have h2 := (((((((hO37).lo hk44).lo hk63).kp hk74 (fun b_ hb e' => hd70 (by have e'' : b_ = g60 := e'; rw [← e'']; exact hb))).lo hk80).lo hk98).lo hR134).base_le hb; have h3 := (hO37).base_le hb; omega))).lo hk155).kp hk163 (fun b_ hb e' => by have h1 := ((((((hO84).lo hk98).lo hR134).kp hk141 (fun b_ hb e' => e'.elim (fun e' => by have h1 := (((((((hO48).lo hk63).kp hk74 (fun b_ hb e' => hd71 (by have e'' : b_ = g60 := e'; rw [← e'']; exact hb))).lo hk80).lo hk98).lo hR134)).base_le e'; have h2 := (((hO84).lo hk98).lo hR134).base_le hb; have h4 := (((hO48).lo hk63).kp hk74 (fun b_ hb e' => hd71 (by have e'' : b_ = g60 := e'; rw [← e'']; exact hb))).base_le e'; omega) (fun e' => by have h1 := (((((((hO52).lo hk63).kp hk74 (fun b_ hb e' => hd72 (by have e'' : b_ = g60 := e'; rw [← e'']; exact hb))).lo hk80).lo hk98).lo hR134)).base_le e'; have h2 := (((hO84).lo hk98).lo hR134).base_le hb; have h4 := (((hO52).lo hk63).kp hk74 (fun b_ hb e' => hd72 (by have e'' : b_ = g60 := e'; rw [← e'']; exact hb))).base_le e'; omega))).lo hk155)).base_le e'; have h2 := (((((((((hO37).lo hk44).lo hk63).kp hk74 (fun b_ hb e' => hd70 (by have e'' : b_ = g60 := e'; rw [← e'']; exact hb))).lo hk80).lo hk98).lo hR134).kp hk141 (fun b_ hb e' => e'.elim (fun e' => by have h1 := (((((((hO48).lo hk63).kp hk74 (fun b_ hb e' => hd71 (by have e'' : b_ = g60 := e'; rw [← e'']; exact hb))).lo hk80).lo hk98).lo hR134)).base_le e'; have h2 := (((((((hO37).lo hk44).lo hk63).kp hk74 (fun b_ hb e' => hd70 (by have e'' : b_ = g60 := e'; rw [← e'']; exact hb))).lo hk80).lo hk98).lo hR134).base_le hb; have h3 := (hO37).base_le hb; omega) (fun e' => by have h1 := (((((((hO52).lo hk63).kp hk74 (fun b_ hb e' => hd72 (by have e'' : b_ = g60 := e'; rw [← e'']; exact hb))).lo hk80).lo hk98).lo hR134)).base_le e'; have h2 := (((((((hO37).lo hk44).lo hk63).kp hk74 (fun b_ hb e' => hd70 (by have e'' : b_ = g60 := e'; rw [← e'']; exact hb))).lo hk80).lo hk98).lo hR134).base_le hb; have h3 := (hO37).base_le hb; omega))).lo hk155).base_le hb; have h3 := ((((hO37).lo hk44).lo hk63).kp hk74 (fun b_ hb e' => hd70 (by have e'' : b_ = g60 := e'; rw [← e'']; exact hb))).base_le hb; omega)).lo hk168).lo hk174).lo hk191).rd))) rfl ?_
              rintro e w201 ⟨rfl, hk202⟩
              refine ⟨_, rfl, ?_⟩
              have hz203 := hk202.size
              have hB204 := hB197.lo hk202
              refine SR.q' (r_not rfl) <| SR.q' (r_mv (v := .bool _) rfl) <| SR.splitN (fun h205 => ?_) (fun h205 => ?_)
              · refine SR.s' rfl <| SR.s' rfl <| SR.s' rfl <| SR.q' (r_pick true rfl (v := .bool true) rfl) <| SR.nil ?_
                exact ⟨_, rfl, ⟨⟨rfl, rfl, rfl, rfl, (eDT ((j2f h205).1 trivial)), trivial⟩, (hk202)⟩⟩
              · refine SR.g' rfl (r_mv (v := .bool _) rfl) <| SR.g' rfl (r_mv (v := .bool _) rfl) <| SR.g' rfl (r_neb_s und4 rfl rfl) <| SR.q' (r_pick false rfl (v := .bool _) rfl) <| SR.nil ?_
                exact ⟨_, rfl, ⟨⟨rfl, rfl, rfl, rfl, (eDF (j2t h205).2), trivial⟩, (hk202)⟩⟩
            rintro f206 w207 ⟨hat208, hk209⟩
            rw [← sets_of_at hat208]
            have hz210 := hk209.size
            have hB211 := hB197.lo hk209
            refine W.cond_f (congrArg Value.bool (decide_eq_false h101)) ?_
            refine W.skip ?_
            refine W.seq ?_
            refine W.regS (SR.q' (r_as (v := .int .i64 1) rfl) <| SR.nil ?_)
            refine W.seq ?_
            refine W.regS (SR.q' (r_mv (v := .slice _ _ _) rfl) <| SR.q' (r_mv (v := .int .i64 _) rfl) <| SR.call ent26 (c_laws_heldIntS w207 (mkL mkInt 1 (if LibOK x then selL mayM LMap.Id x.Maps else []).length 1) (((((((hO164).lo hk168).lo hk174).lo hk191).lo hk209).rd)) 1 ((if LibOK x then selL mayM LMap.Id x.Maps else []).length) (by omega) (by omega) (by omega) (by first | rfl | assumption)) rfl ?_)
            rintro e w212 ⟨rfl, hk213⟩
            refine ⟨_, rfl, ?_⟩
            have hz214 := hk213.size
            have hB215 := hB211.lo hk213
            refine SR.q' (r_as (v := .int .i64 _) rfl) <| SR.nil ?_
            refine W.seq ?_
            refine W.seq ?_
            refine W.regS (SR.q' (r_mv (v := .int .i64 _) rfl) <| SR.q' (r_lt rfl rfl) <| SR.nil ?_)
            refine W.cond_f (congrArg Value.bool (decide_eq_false h171)) ?_
            refine W.skip ?_
            refine W.seq ?_
            refine W.seq ?_
            refine W.regS (SR.q' (r_mv (v := .int .i64 _) rfl) <| SR.q' (r_mv (v := .int .i64 _) rfl) <| SR.q' (r_ne_s rfl rfl) <| SR.nil ?_)
            refine W.cond_f rfl ?_
            refine W.skip ?_
            refine W.seq ?_
            refine W.regS (SR.q' (r_as (v := .bool true) rfl) <| SR.nil ?_)
            refine W.ret ?_
            refine ret1 rfl (v := .bool _) rfl ?_
            exact ⟨eR rfl, hB215⟩

theorem z_c_laws_FnExactMapsAt_103 (x : Library) (nx_Maps : Nat) (hbdx_Maps : (nx_Maps : Int) ≤ 9223372036854775807) (hlex_Maps : nx_Maps = x.Maps.length) (nx_Away : Nat) (hbdx_Away : (nx_Away : Int) ≤ 9223372036854775807) (hlex_Away : nx_Away = x.Away.length) (r : Int) (h13 : ¬ ((szN (x.Maps.length + x.Away.length) 1048576) < 0)) (hq14 : ((x.Maps.length + x.Away.length : Nat) : Int) ≤ 1048576 ∧ szN (x.Maps.length + x.Away.length) 1048576 = 1048576 - ((x.Maps.length + x.Away.length : Nat) : Int)) (n18 : Nat) (hl28 : n18 = (x.Maps).length) (hl29 : (n18 : Int) ≤ 9223372036854775807) (n22 : Nat) (hl30 : n22 = (x.Away).length) (hl31 : (n22 : Int) ≤ 9223372036854775807) (n35 : Nat) (hl40 : n35 = ((if LibOK x ∧ (1 ≤ r ∧ r ≤ 999) then selL (atR r) Away.Map x.Away else [])).length) (hl41 : (n35 : Int) ≤ 9223372036854775807) (hq42 : (if LibOK x ∧ (1 ≤ r ∧ r ≤ 999) then selL (atR r) Away.Map x.Away else []).length ≤ x.Away.length) (n46 : Nat) (hl56 : n46 = (x.Maps).length) (hl57 : (n46 : Int) ≤ 9223372036854775807) (n50 : Nat) (hl58 : n50 = (x.Away).length) (hl59 : (n50 : Int) ≤ 9223372036854775807) (n82 : Nat) (hl87 : n82 = ((if LibOK x ∧ (1 ≤ r ∧ r ≤ 999) then selL (atR r) Away.Map x.Away else [])).length) (hl88 : (n82 : Int) ≤ 9223372036854775807) (hq89 : (if LibOK x ∧ (1 ≤ r ∧ r ≤ 999) then selL (atR r) Away.Map x.Away else []).length ≤ x.Away.length) (h101 : ¬ ((if LibOK x ∧ (1 ≤ r ∧ r ≤ 999) then selL (atR r) Away.Map x.Away else []) = (if LibOK x ∧ (1 ≤ r ∧ r ≤ 999) then selL (atR r) Away.Map x.Away else []))) (hq102 : ¬ ((if LibOK x ∧ (1 ≤ r ∧ r ≤ 999) then selL (atR r) Away.Map x.Away else []) = (if LibOK x ∧ (1 ≤ r ∧ r ≤ 999) then selL (atR r) Away.Map x.Away else []))) : false = true := by
  first | (simp_all; done) | omega | (simp at *; omega)
theorem z_c_laws_FnExactMapsAt_139 (x : Library) (nx_Maps : Nat) (hbdx_Maps : (nx_Maps : Int) ≤ 9223372036854775807) (hlex_Maps : nx_Maps = x.Maps.length) (nx_Away : Nat) (hbdx_Away : (nx_Away : Int) ≤ 9223372036854775807) (hlex_Away : nx_Away = x.Away.length) (r : Int) (h13 : ¬ ((szN (x.Maps.length + x.Away.length) 1048576) < 0)) (hq14 : ((x.Maps.length + x.Away.length : Nat) : Int) ≤ 1048576 ∧ szN (x.Maps.length + x.Away.length) 1048576 = 1048576 - ((x.Maps.length + x.Away.length : Nat) : Int)) (n18 : Nat) (hl28 : n18 = (x.Maps).length) (hl29 : (n18 : Int) ≤ 9223372036854775807) (n22 : Nat) (hl30 : n22 = (x.Away).length) (hl31 : (n22 : Int) ≤ 9223372036854775807) (n35 : Nat) (hl40 : n35 = ((if LibOK x ∧ (1 ≤ r ∧ r ≤ 999) then selL (atR r) Away.Map x.Away else [])).length) (hl41 : (n35 : Int) ≤ 9223372036854775807) (hq42 : (if LibOK x ∧ (1 ≤ r ∧ r ≤ 999) then selL (atR r) Away.Map x.Away else []).length ≤ x.Away.length) (n46 : Nat) (hl56 : n46 = (x.Maps).length) (hl57 : (n46 : Int) ≤ 9223372036854775807) (n50 : Nat) (hl58 : n50 = (x.Away).length) (hl59 : (n50 : Int) ≤ 9223372036854775807) (n82 : Nat) (hl87 : n82 = ((if LibOK x ∧ (1 ≤ r ∧ r ≤ 999) then selL (atR r) Away.Map x.Away else [])).length) (hl88 : (n82 : Int) ≤ 9223372036854775807) (hq89 : (if LibOK x ∧ (1 ≤ r ∧ r ≤ 999) then selL (atR r) Away.Map x.Away else []).length ≤ x.Away.length) (h101 : ¬ (¬ ((if LibOK x ∧ (1 ≤ r ∧ r ≤ 999) then selL (atR r) Away.Map x.Away else []) = (if LibOK x ∧ (1 ≤ r ∧ r ≤ 999) then selL (atR r) Away.Map x.Away else [])))) (hq104 : (if LibOK x ∧ (1 ≤ r ∧ r ≤ 999) then selL (atR r) Away.Map x.Away else []) = (if LibOK x ∧ (1 ≤ r ∧ r ≤ 999) then selL (atR r) Away.Map x.Away else [])) (n112 : Nat) (n116 : Nat) (hl123 : n112 = (x.Maps).length) (hl124 : (n112 : Int) ≤ 9223372036854775807) (hl125 : n116 = (x.Away).length) (hl126 : (n116 : Int) ≤ 9223372036854775807) (h138 : ¬ (x = x)) : false = true := by
  first | (simp_all; done) | omega | (simp at *; omega)
theorem z_c_laws_FnExactMapsAt_159 (x : Library) (nx_Maps : Nat) (hbdx_Maps : (nx_Maps : Int) ≤ 9223372036854775807) (hlex_Maps : nx_Maps = x.Maps.length) (nx_Away : Nat) (hbdx_Away : (nx_Away : Int) ≤ 9223372036854775807) (hlex_Away : nx_Away = x.Away.length) (r : Int) (h13 : ¬ ((szN (x.Maps.length + x.Away.length) 1048576) < 0)) (hq14 : ((x.Maps.length + x.Away.length : Nat) : Int) ≤ 1048576 ∧ szN (x.Maps.length + x.Away.length) 1048576 = 1048576 - ((x.Maps.length + x.Away.length : Nat) : Int)) (n18 : Nat) (hl28 : n18 = (x.Maps).length) (hl29 : (n18 : Int) ≤ 9223372036854775807) (n22 : Nat) (hl30 : n22 = (x.Away).length) (hl31 : (n22 : Int) ≤ 9223372036854775807) (n35 : Nat) (hl40 : n35 = ((if LibOK x ∧ (1 ≤ r ∧ r ≤ 999) then selL (atR r) Away.Map x.Away else [])).length) (hl41 : (n35 : Int) ≤ 9223372036854775807) (hq42 : (if LibOK x ∧ (1 ≤ r ∧ r ≤ 999) then selL (atR r) Away.Map x.Away else []).length ≤ x.Away.length) (n46 : Nat) (hl56 : n46 = (x.Maps).length) (hl57 : (n46 : Int) ≤ 9223372036854775807) (n50 : Nat) (hl58 : n50 = (x.Away).length) (hl59 : (n50 : Int) ≤ 9223372036854775807) (n82 : Nat) (hl87 : n82 = ((if LibOK x ∧ (1 ≤ r ∧ r ≤ 999) then selL (atR r) Away.Map x.Away else [])).length) (hl88 : (n82 : Int) ≤ 9223372036854775807) (hq89 : (if LibOK x ∧ (1 ≤ r ∧ r ≤ 999) then selL (atR r) Away.Map x.Away else []).length ≤ x.Away.length) (h101 : ¬ (¬ ((if LibOK x ∧ (1 ≤ r ∧ r ≤ 999) then selL (atR r) Away.Map x.Away else []) = (if LibOK x ∧ (1 ≤ r ∧ r ≤ 999) then selL (atR r) Away.Map x.Away else [])))) (hq104 : (if LibOK x ∧ (1 ≤ r ∧ r ≤ 999) then selL (atR r) Away.Map x.Away else []) = (if LibOK x ∧ (1 ≤ r ∧ r ≤ 999) then selL (atR r) Away.Map x.Away else [])) (n112 : Nat) (n116 : Nat) (hl123 : n112 = (x.Maps).length) (hl124 : (n112 : Int) ≤ 9223372036854775807) (hl125 : n116 = (x.Away).length) (hl126 : (n116 : Int) ≤ 9223372036854775807) (h138 : x = x) (h158 : ((1 + 3 * (x.Maps.length : Int) + 2 * (x.Away.length : Int)) < 0) ∨ (¬ ((if LibOK x ∧ (1 ≤ r ∧ r ≤ 999) then selL (atR r) Away.Map x.Away else []) = (if LibOK x ∧ (1 ≤ r ∧ r ≤ 999) then selL (atR r) Away.Map x.Away else [])))) : false = true := by
  first | (simp_all; done) | omega | (simp at *; omega)
theorem z_c_laws_FnExactMapsAt_172 (x : Library) (nx_Maps : Nat) (hbdx_Maps : (nx_Maps : Int) ≤ 9223372036854775807) (hlex_Maps : nx_Maps = x.Maps.length) (nx_Away : Nat) (hbdx_Away : (nx_Away : Int) ≤ 9223372036854775807) (hlex_Away : nx_Away = x.Away.length) (r : Int) (h13 : ¬ ((szN (x.Maps.length + x.Away.length) 1048576) < 0)) (hq14 : ((x.Maps.length + x.Away.length : Nat) : Int) ≤ 1048576 ∧ szN (x.Maps.length + x.Away.length) 1048576 = 1048576 - ((x.Maps.length + x.Away.length : Nat) : Int)) (n18 : Nat) (hl28 : n18 = (x.Maps).length) (hl29 : (n18 : Int) ≤ 9223372036854775807) (n22 : Nat) (hl30 : n22 = (x.Away).length) (hl31 : (n22 : Int) ≤ 9223372036854775807) (n35 : Nat) (hl40 : n35 = ((if LibOK x ∧ (1 ≤ r ∧ r ≤ 999) then selL (atR r) Away.Map x.Away else [])).length) (hl41 : (n35 : Int) ≤ 9223372036854775807) (hq42 : (if LibOK x ∧ (1 ≤ r ∧ r ≤ 999) then selL (atR r) Away.Map x.Away else []).length ≤ x.Away.length) (n46 : Nat) (hl56 : n46 = (x.Maps).length) (hl57 : (n46 : Int) ≤ 9223372036854775807) (n50 : Nat) (hl58 : n50 = (x.Away).length) (hl59 : (n50 : Int) ≤ 9223372036854775807) (n82 : Nat) (hl87 : n82 = ((if LibOK x ∧ (1 ≤ r ∧ r ≤ 999) then selL (atR r) Away.Map x.Away else [])).length) (hl88 : (n82 : Int) ≤ 9223372036854775807) (hq89 : (if LibOK x ∧ (1 ≤ r ∧ r ≤ 999) then selL (atR r) Away.Map x.Away else []).length ≤ x.Away.length) (h101 : ¬ (¬ ((if LibOK x ∧ (1 ≤ r ∧ r ≤ 999) then selL (atR r) Away.Map x.Away else []) = (if LibOK x ∧ (1 ≤ r ∧ r ≤ 999) then selL (atR r) Away.Map x.Away else [])))) (hq104 : (if LibOK x ∧ (1 ≤ r ∧ r ≤ 999) then selL (atR r) Away.Map x.Away else []) = (if LibOK x ∧ (1 ≤ r ∧ r ≤ 999) then selL (atR r) Away.Map x.Away else [])) (n112 : Nat) (n116 : Nat) (hl123 : n112 = (x.Maps).length) (hl124 : (n112 : Int) ≤ 9223372036854775807) (hl125 : n116 = (x.Away).length) (hl126 : (n116 : Int) ≤ 9223372036854775807) (h138 : x = x) (h158 : ¬ (((1 + 3 * (x.Maps.length : Int) + 2 * (x.Away.length : Int)) < 0) ∨ (¬ ((if LibOK x ∧ (1 ≤ r ∧ r ≤ 999) then selL (atR r) Away.Map x.Away else []) = (if LibOK x ∧ (1 ≤ r ∧ r ≤ 999) then selL (atR r) Away.Map x.Away else []))))) (hq160 : ¬ ((1 + 3 * (x.Maps.length : Int) + 2 * (x.Away.length : Int)) < 0)) (hq161 : (if LibOK x ∧ (1 ≤ r ∧ r ≤ 999) then selL (atR r) Away.Map x.Away else []) = (if LibOK x ∧ (1 ≤ r ∧ r ≤ 999) then selL (atR r) Away.Map x.Away else [])) (h171 : (1 + 1 * ((if LibOK x ∧ (1 ≤ r ∧ r ≤ 999) then selL (atR r) Away.Map x.Away else []).length : Int)) < 0) : false = true := by
  first | (simp_all; done) | omega | (simp at *; omega)
theorem c_laws_FnExactMapsAt (w : World) (x : Library) {Ax_Maps : Option Addr} {nx_Maps cx_Maps Bx_Maps : Nat} (hx_Maps : SlR w Bx_Maps encLMap 3 Ax_Maps nx_Maps cx_Maps x.Maps) {Ax_Away : Option Addr} {nx_Away cx_Away Bx_Away : Nat} (hx_Away : SlR w Bx_Away encAway 2 Ax_Away nx_Away cx_Away x.Away) (r : Int) : Calls Try.prog 6 #[.agg (List.toArray [.slice Ax_Maps nx_Maps cx_Maps, .slice Ax_Away nx_Away cx_Away, .int .i64 x.Bought, .int .i64 x.Dropped, .int .i64 x.Mended]), .int .i64 r] w fun e w' => e = .returned (.bool true) ∧ Lo w w' := by
  refine calls_W 101 Try.func6 rfl rfl rfl ?_
  have hbdx_Maps := hx_Maps.bound
  have hlex_Maps := hx_Maps.len
  have hBbx_Maps := hx_Maps.bd
  have hbdx_Away := hx_Away.bound
  have hlex_Away := hx_Away.len
  have hBbx_Away := hx_Away.bd
  refine W.seq ?_
  refine W.regS (SR.box (v := .agg (List.toArray _)) (l := [.slice Ax_Maps nx_Maps cx_Maps, .slice Ax_Away nx_Away cx_Away, .int .i64 x.Bought, .int .i64 x.Dropped, .int .i64 x.Mended]) rfl rfl ?_)
  intro g1 w2 hg3 hk4 hs5 hb6
  have hz7 := hk4.size
  have hB8 := (Lo.refl w).lo hk4
  refine SR.q' (r_as (v := .bool false) rfl) <| SR.nil ?_
  refine W.seq ?_
  refine W.regS (SR.q' (r_as (v := .int .i64 1048576) rfl) <| SR.nil ?_)
  refine W.seq ?_
  refine W.regS (SR.q' (r_lda (l := [.slice Ax_Maps nx_Maps cx_Maps, .slice Ax_Away nx_Away cx_Away, .int .i64 x.Bought, .int .i64 x.Dropped, .int .i64 x.Mended]) agg25 rfl (fun _ _ hu => (hb6).cell hu) rfl) <| SR.q' (r_mv (v := .int .i64 _) rfl) <| SR.call ent12 (c_laws_szLibrary w2 x (((hx_Maps).lo hk4)) (((hx_Away).lo hk4)) 1048576 (by omega) (by omega)) rfl ?_)
  rintro e w9 ⟨rfl, hk10⟩
  refine ⟨_, rfl, ?_⟩
  have hz11 := hk10.size
  have hB12 := hB8.lo hk10
  refine SR.q' (r_as (v := .int .i64 _) rfl) <| SR.nil ?_
  refine W.seq ?_
  refine W.seq ?_
  refine W.regS (SR.q' (r_mv (v := .int .i64 _) rfl) <| SR.q' (r_lt rfl rfl) <| SR.nil ?_)
  refine W.cond_d rfl (fun h13 => ?_) (fun h13 => ?_)
  · refine W.seq ?_
    refine W.regS (SR.q' (r_as (v := .bool true) rfl) <| SR.nil ?_)
    refine W.ret ?_
    refine ret1 rfl (v := .bool _) rfl ?_
    exact ⟨eR rfl, hB12⟩
  · have hq14 := szN_ok h13
    refine W.skip ?_
    refine W.seq ?_
    refine W.regS (SR.q' (r_lda (l := [.slice Ax_Maps nx_Maps cx_Maps, .slice Ax_Away nx_Away cx_Away, .int .i64 x.Bought, .int .i64 x.Dropped, .int .i64 x.Mended]) agg25 rfl (fun _ _ hu => ((hb6).lo hk10).cell hu) rfl) <| SR.call ent14 (c_laws_toLibrary w9 x ((((hx_Maps).lo hk4).lo hk10)) ((((hx_Away).lo hk4).lo hk10)) (by omega) (by omega)) rfl ?_)
    rintro e w15 ⟨A17, n18, c19, A21, n22, c23, rfl, hO20, hO24, hd25, hk16⟩
    refine ⟨_, rfl, ?_⟩
    have hz26 := hk16.size
    have hB27 := hB12.lo hk16
    have hl28 := hO20.len
    have hl29 := hO20.rd.bound
    have hl30 := hO24.len
    have hl31 := hO24.rd.bound
    refine SR.q' (r_mv (v := .int .i64 _) rfl) <| SR.call ent21 (c_spec_MapsAt w15 x (((hO20).rd)) (((hO24).rd)) r (by omega)) rfl ?_
    rintro e w32 ⟨A34, n35, c36, rfl, hO37, hk33⟩
    refine ⟨_, rfl, ?_⟩
    have hz38 := hk33.size
    have hB39 := hB27.lo hk33
    have hl40 := hO37.len
    have hl41 := hO37.rd.bound
    have hq42 := selif_len (LibOK x ∧ (1 ≤ r ∧ r ≤ 999)) (atR r) Away.Map x.Away
    refine SR.q' (r_mv (v := .tuple (List.toArray _)) rfl) <| SR.q' (r_ext (v := .slice _ _ _) rfl rfl) <| SR.q' (r_ext (v := .bool _) rfl rfl) <| SR.q' (r_as (v := .slice _ _ _) rfl) <| SR.q' (r_as (v := .bool _) rfl) <| SR.nil ?_
    refine W.seq ?_
    refine W.regS (SR.q' (r_lda (l := [.slice Ax_Maps nx_Maps cx_Maps, .slice Ax_Away nx_Away cx_Away, .int .i64 x.Bought, .int .i64 x.Dropped, .int .i64 x.Mended]) agg25 rfl (fun _ _ hu => ((((hb6).lo hk10).lo hk16).lo hk33).cell hu) rfl) <| SR.call ent14 (c_laws_toLibrary w32 x ((((((hx_Maps).lo hk4).lo hk10).lo hk16).lo hk33)) ((((((hx_Away).lo hk4).lo hk10).lo hk16).lo hk33)) (by omega) (by omega)) rfl ?_)
    rintro e w43 ⟨A45, n46, c47, A49, n50, c51, rfl, hO48, hO52, hd53, hk44⟩
    refine ⟨_, rfl, ?_⟩
    have hz54 := hk44.size
    have hB55 := hB39.lo hk44
    have hl56 := hO48.len
    have hl57 := hO48.rd.bound
    have hl58 := hO52.len
    have hl59 := hO52.rd.bound
    refine SR.alloc (l := [.slice none 0 0, .slice none 0 0, .int .i64 0, .int .i64 0, .int .i64 0]) tz31 rfl ?_
    intro g60 w61 hg62 hk63 hs64 hb65
    have hz66 := hk63.size
    have hB67 := hB55.lo hk63
    have hd68 : ¬ A17 = some ⟨g60, 0, none⟩ := fun e' => by have := (((hO20).lo hk33).lo hk44).base_le e'; omega
    have hd69 : ¬ A21 = some ⟨g60, 0, none⟩ := fun e' => by have := (((hO24).lo hk33).lo hk44).base_le e'; omega
    have hd70 : ¬ A34 = some ⟨g60, 0, none⟩ := fun e' => by have := ((hO37).lo hk44).base_le e'; omega
    have hd71 : ¬ A45 = some ⟨g60, 0, none⟩ := fun e' => by have := (hO48).base_le e'; omega
    have hd72 : ¬ A49 = some ⟨g60, 0, none⟩ := fun e' => by have := (hO52).base_le e'; omega
    refine SR.store (o := 0) (vs := [.slice A45 n46 c47, .slice A49 n50 c51, .int .i64 x.Bought, .int .i64 x.Dropped, .int .i64 x.Mended]) agg31.2 rfl rfl rfl rfl (hb65) (Nat.le_of_ble_eq_true rfl) rfl ?_
    intro w73 hk74 hs75 hb76
    have hz77 := hk74.size
    have hB78 := hB67.new hk74 (by omega)
    refine SR.nil ?_
    refine W.seq ?_
    refine W.regS (SR.q' (r_lda (l := [.slice A45 n46 c47, .slice A49 n50 c51, .int .i64 x.Bought, .int .i64 x.Dropped, .int .i64 x.Mended]) agg31 rfl (fun _ _ hu => (hb76).cell hu) rfl) <| SR.q' (r_mv (v := .int .i64 _) rfl) <| SR.call ent22 (c_impl_MapsAt w73 x (((((hO48).lo hk63).kp hk74 (fun b_ hb e' => hd71 (by have e'' : b_ = g60 := e'; rw [← e'']; exact hb))).rd)) (((((hO52).lo hk63).kp hk74 (fun b_ hb e' => hd72 (by have e'' : b_ = g60 := e'; rw [← e'']; exact hb))).rd)) r (by omega)) rfl ?_)
    rintro e w79 ⟨A81, n82, c83, rfl, hO84, hk80⟩
    refine ⟨_, rfl, ?_⟩
    have hz85 := hk80.size
    have hB86 := hB78.lo hk80
    have hl87 := hO84.len
    have hl88 := hO84.rd.bound
    have hq89 := selif_len (LibOK x ∧ (1 ≤ r ∧ r ≤ 999)) (atR r) Away.Map x.Away
    refine SR.q' (r_mv (v := .tuple (List.toArray _)) rfl) <| SR.q' (r_ext (v := .slice _ _ _) rfl rfl) <| SR.q' (r_ext (v := .bool _) rfl rfl) <| SR.q' (r_as (v := .slice _ _ _) rfl) <| SR.q' (r_as (v := .bool _) rfl) <| SR.nil ?_
    refine W.seq ?_
    refine W.seq ?_
    refine W.regJS (fun f' w' => At f' [(1, .int .i64 r), (2, .pointer (some ((⟨g1, 0, none⟩ : Addr)))), (4, .bool false), (6, .slice A34 n35 c36), (7, .bool (decide (LibOK x ∧ (1 ≤ r ∧ r ≤ 999)))), (8, .pointer (some ((⟨g60, 0, none⟩ : Addr)))), (9, .slice A81 n82 c83), (10, .bool (decide (LibOK x ∧ (1 ≤ r ∧ r ≤ 999)))), (44, .bool (decide (¬ ((if LibOK x ∧ (1 ≤ r ∧ r ≤ 999) then selL (atR r) Away.Map x.Away else []) = (if LibOK x ∧ (1 ≤ r ∧ r ≤ 999) then selL (atR r) Away.Map x.Away else [])))))] ∧ Lo w79 w') ?_ ?_
    · refine SR.q' (r_mv (v := .slice _ _ _) rfl) <| SR.q' (r_mv (v := .slice _ _ _) rfl) <| SR.call ent23 (c_laws_eqIntS w79 (if LibOK x ∧ (1 ≤ r ∧ r ≤ 999) then selL (atR r) Away.Map x.Away else []) (((hO84).rd)) (if LibOK x ∧ (1 ≤ r ∧ r ≤ 999) then selL (atR r) Away.Map x.Away else []) (((((((hO37).lo hk44).lo hk63).kp hk74 (fun b_ hb e' => hd70 (by have e'' : b_ = g60 := e'; rw [← e'']; exact hb))).lo hk80).rd))) rfl ?_
      rintro e w90 ⟨rfl, hk91⟩
      refine ⟨_, rfl, ?_⟩
      have hz92 := hk91.size
      have hB93 := hB86.lo hk91
      refine SR.q' (r_not rfl) <| SR.q' (r_mv (v := .bool _) rfl) <| SR.splitN (fun h94 => ?_) (fun h94 => ?_)
      · refine SR.s' rfl <| SR.s' rfl <| SR.s' rfl <| SR.q' (r_pick true rfl (v := .bool true) rfl) <| SR.nil ?_
        exact ⟨_, rfl, ⟨⟨rfl, rfl, rfl, rfl, rfl, rfl, rfl, rfl, (eDT ((j2f h94).1 trivial)), trivial⟩, (hk91)⟩⟩
      · refine SR.g' rfl (r_mv (v := .bool _) rfl) <| SR.g' rfl (r_mv (v := .bool _) rfl) <| SR.g' rfl (r_neb_s und4 rfl rfl) <| SR.q' (r_pick false rfl (v := .bool _) rfl) <| SR.nil ?_
        exact ⟨_, rfl, ⟨⟨rfl, rfl, rfl, rfl, rfl, rfl, rfl, rfl, (eDF (j2t h94).2), trivial⟩, (hk91)⟩⟩
    rintro f95 w96 ⟨hat97, hk98⟩
    rw [← sets_of_at hat97]
    have hz99 := hk98.size
    have hB100 := hB86.lo hk98
    refine W.cond_d rfl (fun h101 => ?_) (fun h101 => ?_)
    · have hq102 : ¬ ((if LibOK x ∧ (1 ≤ r ∧ r ≤ 999) then selL (atR r) Away.Map x.Away else []) = (if LibOK x ∧ (1 ≤ r ∧ r ≤ 999) then selL (atR r) Away.Map x.Away else [])) := h101
      refine W.seq ?_
      refine W.regS (SR.q' (r_as (v := .bool false) rfl) <| SR.nil ?_)
      refine W.ret ?_
      refine ret1 rfl (v := .bool _) rfl ?_
      exact ⟨eR (eB (z_c_laws_FnExactMapsAt_103 x nx_Maps hbdx_Maps hlex_Maps nx_Away hbdx_Away hlex_Away r h13 hq14 n18 hl28 hl29 n22 hl30 hl31 n35 hl40 hl41 hq42 n46 hl56 hl57 n50 hl58 hl59 n82 hl87 hl88 hq89 h101 hq102)), hB100⟩
    · have hq104 : (if LibOK x ∧ (1 ≤ r ∧ r ≤ 999) then selL (atR r) Away.Map x.Away else []) = (if LibOK x ∧ (1 ≤ r ∧ r ≤ 999) then selL (atR r) Away.Map x.Away else []) := (Classical.not_not.1 h101)
      refine W.skip ?_
      refine W.seq ?_
      refine W.seq ?_
      refine W.regA (Lo w96) (fun f' w' => ∃ (A111 : Option Addr), ∃ (n112 : Nat), ∃ (c113 : Nat), ∃ (A115 : Option Addr), ∃ (n116 : Nat), ∃ (c117 : Nat), At f' [(1, .int .i64 r), (2, .pointer (some ((⟨g1, 0, none⟩ : Addr)))), (4, .bool false), (6, .slice A34 n35 c36), (7, .bool (decide (LibOK x ∧ (1 ≤ r ∧ r ≤ 999)))), (8, .pointer (some ((⟨g60, 0, none⟩ : Addr)))), (9, .slice A81 n82 c83), (10, .bool (decide (LibOK x ∧ (1 ≤ r ∧ r ≤ 999)))), (49, .bool (!decide (x = x)))] ∧ (Lo w96 w') ∧ (n112 = (x.Maps).length) ∧ ((n112 : Int) ≤ 9223372036854775807) ∧ (n116 = (x.Away).length) ∧ ((n116 : Int) ≤ 9223372036854775807)) mo ?_ ?_
      · intro w105 hk106
        have hz107 := hk106.size
        have hB108 := hB100.lo hk106
        refine AH.take 0 rfl (by kernel_rfl) trivial (hk106) (fun w' hw' => r_lda (l := [.slice A45 n46 c47, .slice A49 n50 c51, .int .i64 x.Bought, .int .i64 x.Dropped, .int .i64 x.Mended]) agg31 rfl (fun _ _ hu => ((((hb76).lo hk80).lo hk98).lo hw').cell hu) rfl) <| AH.take 1 rfl (by kernel_rfl) trivial (hk106) (fun w' hw' => r_lda (l := [.slice Ax_Maps nx_Maps cx_Maps, .slice Ax_Away nx_Away cx_Away, .int .i64 x.Bought, .int .i64 x.Dropped, .int .i64 x.Mended]) agg25 rfl (fun _ _ hu => ((((((((((hb6).lo hk10).lo hk16).lo hk33).lo hk44).lo hk63).kp hk74 (fun e' => by have e'' : g1 = g60 := e'; omega)).lo hk80).lo hk98).lo hw').cell hu) rfl) <| AH.br [2] (by kernel_rfl) rfl ⟨Br.mk' rfl trivial ?_, trivial⟩
        refine SR.call ent14 (c_laws_toLibrary w105 x ((((((((((((hx_Maps).lo hk4).lo hk10).lo hk16).lo hk33).lo hk44).lo hk63).kp hk74 (fun b_ hb e' => by have e'' : b_ = g60 := e'; omega)).lo hk80).lo hk98).lo hk106)) ((((((((((((hx_Away).lo hk4).lo hk10).lo hk16).lo hk33).lo hk44).lo hk63).kp hk74 (fun b_ hb e' => by have e'' : b_ = g60 := e'; omega)).lo hk80).lo hk98).lo hk106)) (by omega) (by omega)) rfl ?_
        rintro e w109 ⟨A111, n112, c113, A115, n116, c117, rfl, hO114, hO118, hd119, hk110⟩
        refine ⟨_, rfl, ?_⟩
        have hz120 := hk110.size
        have hB121 := hB108.lo hk110
        have hS122 := (hk106).lo hk110
        have hl123 := hO114.len
        have hl124 := hO114.rd.bound
        have hl125 := hO118.len
        have hl126 := hO118.rd.bound
        refine SR.nil ⟨hS122, _, rfl, ?_⟩
        refine AH.br [3] (by kernel_rfl) rfl ⟨Br.mk' rfl trivial ?_, trivial⟩
        refine SR.call ent16 (c_laws_eqLibrary w109 x (((((((((hO48).lo hk63).kp hk74 (fun b_ hb e' => hd71 (by have e'' : b_ = g60 := e'; rw [← e'']; exact hb))).lo hk80).lo hk98).lo hk106).lo hk110).rd)) (((((((((hO52).lo hk63).kp hk74 (fun b_ hb e' => hd72 (by have e'' : b_ = g60 := e'; rw [← e'']; exact hb))).lo hk80).lo hk98).lo hk106).lo hk110).rd)) x (((hO114).rd)) (((hO118).rd))) rfl ?_
        rintro e w127 ⟨rfl, hk128⟩
        refine ⟨_, rfl, ?_⟩
        have hz129 := hk128.size
        have hB130 := hB121.lo hk128
        have hS131 := (hS122).lo hk128
        refine SR.nil ⟨hS131, _, rfl, ?_⟩
        refine AH.take 4 rfl (by kernel_rfl) trivial (hS131) (fun w' hw' => r_not rfl) <| AH.done (by kernel_rfl) ?_
        exact ⟨A111, n112, c113, A115, n116, c117, ⟨rfl, rfl, rfl, rfl, rfl, rfl, rfl, rfl, rfl, trivial⟩, hS131, hl123, hl124, hl125, hl126⟩
      rintro f132 w133 ⟨A111, n112, c113, A115, n116, c117, hat135, hR134, hl123, hl124, hl125, hl126⟩
      rw [← sets_of_at hat135]
      have hz136 := hR134.size
      have hB137 := hB100.lo hR134
      refine W.cond_n rfl (fun h138 => ?_) (fun h138 => ?_)
      · refine W.seq ?_
        refine W.regS (SR.q' (r_as (v := .bool false) rfl) <| SR.nil ?_)
        refine W.ret ?_
        refine ret1 rfl (v := .bool _) rfl ?_
        exact ⟨eR (eB (z_c_laws_FnExactMapsAt_139 x nx_Maps hbdx_Maps hlex_Maps nx_Away hbdx_Away hlex_Away r h13 hq14 n18 hl28 hl29 n22 hl30 hl31 n35 hl40 hl41 hq42 n46 hl56 hl57 n50 hl58 hl59 n82 hl87 hl88 hq89 h101 hq104 n112 n116 hl123 hl124 hl125 hl126 h138)), hB137⟩
      · refine W.skip ?_
        refine W.seq ?_
        refine W.regS (SR.q' (r_as (v := .int .i64 1) rfl) <| SR.nil ?_)
        refine W.seq ?_
        refine W.regS (SR.q' (r_lda (l := [.slice A45 n46 c47, .slice A49 n50 c51, .int .i64 x.Bought, .int .i64 x.Dropped, .int .i64 x.Mended]) agg31 rfl (fun _ _ hu => ((((hb76).lo hk80).lo hk98).lo hR134).cell hu) rfl) <| SR.q' (r_mv (v := .int .i64 _) rfl) <| SR.call ent24 (c_laws_markLibrary w133 x ((((((hO48).lo hk63).kp hk74 (fun b_ hb e' => hd71 (by have e'' : b_ = g60 := e'; rw [← e'']; exact hb))).lo hk80).lo hk98).lo hR134) ((((((hO52).lo hk63).kp hk74 (fun b_ hb e' => hd72 (by have e'' : b_ = g60 := e'; rw [← e'']; exact hb))).lo hk80).lo hk98).lo hR134) 1 hd53 (by omega) (by omega) (by omega) (by omega)) rfl ?_)
        rintro e w140 ⟨rfl, hO142, hO143, hk141⟩
        refine ⟨_, rfl, ?_⟩
        have hz144 := hk141.size
        have hB145 := hB137.step hk141 (fun i_ hi_ e' => e'.elim (fun e' => by have := (((((((hO48).lo hk63).kp hk74 (fun b_ hb e' => hd71 (by have e'' : b_ = g60 := e'; rw [← e'']; exact hb))).lo hk80).lo hk98).lo hR134)).base_le e'; first | omega | (exfalso; omega) | exact e' | exact .inl e' | exact .inr e') (fun e' => by have := (((((((hO52).lo hk63).kp hk74 (fun b_ hb e' => hd72 (by have e'' : b_ = g60 := e'; rw [← e'']; exact hb))).lo hk80).lo hk98).lo hR134)).base_le e'; first | omega | (exfalso; omega) | exact e' | exact .inl e' | exact .inr e'))
        refine SR.q' (r_as (v := .int .i64 _) rfl) <| SR.nil ?_
        refine W.seq ?_
        refine W.seq ?_
        refine W.regJS (fun f' w' => At f' [(1, .int .i64 r), (2, .pointer (some ((⟨g1, 0, none⟩ : Addr)))), (4, .bool false), (6, .slice A34 n35 c36), (7, .bool (decide (LibOK x ∧ (1 ≤ r ∧ r ≤ 999)))), (9, .slice A81 n82 c83), (65, .bool (decide (((1 + 3 * (x.Maps.length : Int) + 2 * (x.Away.length : Int)) < 0) ∨ (¬ ((if LibOK x ∧ (1 ≤ r ∧ r ≤ 999) then selL (atR r) Away.Map x.Away else []) = (if LibOK x ∧ (1 ≤ r ∧ r ≤ 999) then selL (atR r) Away.Map x.Away else []))))))] ∧ Lo w140 w') ?_ ?_
        · refine SR.q' (r_mv (v := .int .i64 _) rfl) <| SR.q' (r_lt rfl rfl) <| SR.q' (r_mv (v := .bool _) rfl) <| SR.splitD (fun h146 => ?_) (fun h146 => ?_)
          · refine SR.s' rfl <| SR.s' rfl <| SR.s' rfl <| SR.s' rfl <| SR.q' (r_pick true rfl (v := .bool true) rfl) <| SR.q' (r_mv (v := .bool _) rfl) <| SR.s' rfl <| SR.s' rfl <| SR.s' rfl <| SR.q' (r_pick true rfl (v := .bool true) rfl) <| SR.nil ?_
            exact ⟨_, rfl, ⟨⟨rfl, rfl, rfl, rfl, rfl, rfl, (eDT ((jot h146).1 trivial)), trivial⟩, (Lo.refl _)⟩⟩
          · refine SR.g' rfl (r_mv (v := .slice _ _ _) rfl) <| SR.g' rfl (r_mv (v := .slice _ _ _) rfl) <| SR.gcall rfl ent23 (c_laws_eqIntS w140 (if LibOK x ∧ (1 ≤ r ∧ r ≤ 999) then selL (atR r) Away.Map x.Away else []) ((((((hO84).lo hk98).lo hR134).kp hk141 (fun b_ hb e' => e'.elim (fun e' => by have h1 := (((((((hO48).lo hk63).kp hk74 (fun b_ hb e' => hd71 (by have e'' : b_ = g60 := e'; rw [← e'']; exact hb))).lo hk80).lo hk98).lo hR134)).base_le e'; have h2 := (((hO84).lo hk98).lo hR134).base_le hb; have h4 := (((hO48).lo hk63).kp hk74 (fun b_ hb e' => hd71 (by have e'' : b_ = g60 := e'; rw [← e'']; exact hb))).base_le e'; omega) (fun e' => by have h1 := (((((((hO52).lo hk63).kp hk74 (fun b_ hb e' => hd72 (by have e'' : b_ = g60 := e'; rw [← e'']; exact hb))).lo hk80).lo hk98).lo hR134)).base_le e'; have h2 := (((hO84).lo hk98).lo hR134).base_le hb; have h4 := (((hO52).lo hk63).kp hk74 (fun b_ hb e' => hd72 (by have e'' : b_ = g60 := e'; rw [← e'']; exact hb))).base_le e'; omega))).rd)) (if LibOK x ∧ (1 ≤ r ∧ r ≤ 999) then selL (atR r) Away.Map x.Away else []) ((((((((((hO37).lo hk44).lo hk63).kp hk74 (fun b_ hb e' => hd70 (by have e'' : b_ = g60 := e'; rw [← e'']; exact hb))).lo hk80).lo hk98).lo hR134).kp hk141 (fun b_ hb e' => e'.elim (fun e' => by have h1 := (((((((hO48).lo hk63).kp hk74 (fun b_ hb e' => hd71 (by have e'' : b_ = g60 := e'; rw [← e'']; exact hb))).lo hk80).lo hk98).lo hR134)).base_le e'; have h2 := (((((((hO37).lo hk44).lo hk63).kp hk74 (fun b_ hb e' => hd70 (by have e'' : b_ = g60 := e'; rw [← e'']; exact hb))).lo hk80).lo hk98).lo hR134).base_le hb; have h3 := (hO37).base_le hb; omega) (fun e' => by have h1 := (((((((hO52).lo hk63).kp hk74 (fun b_ hb e' => hd72 (by have e'' : b_ = g60 := e'; rw [← e'']; exact hb))).lo hk80).lo hk98).lo hR134)).base_le e'; have h2 := (((((((hO37).lo hk44).lo hk63).kp hk74 (fun b_ hb e' => hd70 (by have e'' : b_ = g60 := e'; rw [← e'']; exact hb))).lo hk80).lo hk98).lo hR134).base_le hb; have h3 := (hO37).base_le hb; omega))).rd))) rfl ?_
            rintro e w147 ⟨rfl, hk148⟩
            refine ⟨_, rfl, ?_⟩
            have hz149 := hk148.size
            have hB150 := hB145.lo hk148
            refine SR.g' rfl (r_not rfl) <| SR.q' (r_pick false rfl (v := .bool _) rfl) <| SR.q' (r_mv (v := .bool _) rfl) <| SR.splitN (fun h151 => ?_) (fun h151 => ?_)
            · refine SR.s' rfl <| SR.s' rfl <| SR.s' rfl <| SR.q' (r_pick true rfl (v := .bool true) rfl) <| SR.nil ?_
              exact ⟨_, rfl, ⟨⟨rfl, rfl, rfl, rfl, rfl, rfl, (eDT (((j2f h151).trans (jof h146)).1 trivial)), trivial⟩, (hk148)⟩⟩
            · refine SR.g' rfl (r_mv (v := .bool _) rfl) <| SR.g' rfl (r_mv (v := .bool _) rfl) <| SR.g' rfl (r_neb_s und4 rfl rfl) <| SR.q' (r_pick false rfl (v := .bool _) rfl) <| SR.nil ?_
              exact ⟨_, rfl, ⟨⟨rfl, rfl, rfl, rfl, rfl, rfl, (eDF ((j2t h151).trans (jof h146)).2), trivial⟩, (hk148)⟩⟩
        rintro f152 w153 ⟨hat154, hk155⟩
        rw [← sets_of_at hat154]
        have hz156 := hk155.size
        have hB157 := hB145.lo hk155
        refine W.cond_d rfl (fun h158 => ?_) (fun h158 => ?_)
        · refine W.seq ?_
          refine W.regS (SR.q' (r_as (v := .bool false) rfl) <| SR.nil ?_)
          refine W.ret ?_
          refine ret1 rfl (v := .bool _) rfl ?_
          exact ⟨eR (eB (z_c_laws_FnExactMapsAt_159 x nx_Maps hbdx_Maps hlex_Maps nx_Away hbdx_Away hlex_Away r h13 hq14 n18 hl28 hl29 n22 hl30 hl31 n35 hl40 hl41 hq42 n46 hl56 hl57 n50 hl58 hl59 n82 hl87 hl88 hq89 h101 hq104 n112 n116 hl123 hl124 hl125 hl126 h138 h158)), hB157⟩
        · have hq160 : ¬ ((1 + 3 * (x.Maps.length : Int) + 2 * (x.Away.length : Int)) < 0) := (not_or.1 h158).1
          have hq161 : (if LibOK x ∧ (1 ≤ r ∧ r ≤ 999) then selL (atR r) Away.Map x.Away else []) = (if LibOK x ∧ (1 ≤ r ∧ r ≤ 999) then selL (atR r) Away.Map x.Away else []) := (Classical.not_not.1 (not_or.1 h158).2)
          refine W.skip ?_
          refine W.seq ?_
          refine W.regS (SR.q' (r_as (v := .int .i64 1) rfl) <| SR.nil ?_)
          refine W.seq ?_
          refine W.regS (SR.q' (r_mv (v := .slice _ _ _) rfl) <| SR.q' (r_mv (v := .int .i64 _) rfl) <| SR.call ent25 (c_laws_markIntS w153 (if LibOK x ∧ (1 ≤ r ∧ r ≤ 999) then selL (atR r) Away.Map x.Away else []) (((((hO84).lo hk98).lo hR134).kp hk141 (fun b_ hb e' => e'.elim (fun e' => by have h1 := (((((((hO48).lo hk63).kp hk74 (fun b_ hb e' => hd71 (by have e'' : b_ = g60 := e'; rw [← e'']; exact hb))).lo hk80).lo hk98).lo hR134)).base_le e'; have h2 := (((hO84).lo hk98).lo hR134).base_le hb; have h4 := (((hO48).lo hk63).kp hk74 (fun b_ hb e' => hd71 (by have e'' : b_ = g60 := e'; rw [← e'']; exact hb))).base_le e'; omega) (fun e' => by have h1 := (((((((hO52).lo hk63).kp hk74 (fun b_ hb e' => hd72 (by have e'' : b_ = g60 := e'; rw [← e'']; exact hb))).lo hk80).lo hk98).lo hR134)).base_le e'; have h2 := (((hO84).lo hk98).lo hR134).base_le hb; have h4 := (((hO52).lo hk63).kp hk74 (fun b_ hb e' => hd72 (by have e'' : b_ = g60 := e'; rw [← e'']; exact hb))).base_le e'; omega))).lo hk155) 1 (by omega) (by omega) (by omega)) rfl ?_)
          rintro e w162 ⟨rfl, hO164, hk163⟩
          refine ⟨_, rfl, ?_⟩
          have hz165 := hk163.size
          have hB166 := hB157.step hk163 (fun i_ hi_ e' => by have := ((((((hO84).lo hk98).lo hR134).kp hk141 (fun b_ hb e' => e'.elim (fun e' => by have h1 := (((((((hO48).lo hk63).kp hk74 (fun b_ hb e' => hd71 (by have e'' : b_ = g60 := e'; rw [← e'']; exact hb))).lo hk80).lo hk98).lo hR134)).base_le e'; have h2 := (((hO84).lo hk98).lo hR134).base_le hb; have h4 := (((hO48).lo hk63).kp hk74 (fun b_ hb e' => hd71 (by have e'' : b_ = g60 := e'; rw [← e'']; exact hb))).base_le e'; omega) (fun e' => by have h1 := (((((((hO52).lo hk63).kp hk74 (fun b_ hb e' => hd72 (by have e'' : b_ = g60 := e'; rw [← e'']; exact hb))).lo hk80).lo hk98).lo hR134)).base_le e'; have h2 := (((hO84).lo hk98).lo hR134).base_le hb; have h4 := (((hO52).lo hk63).kp hk74 (fun b_ hb e' => hd72 (by have e'' : b_ = g60 := e'; rw [← e'']; exact hb))).base_le e'; omega))).lo hk155)).base_le e'; first | omega | (exfalso; omega) | exact e' | exact .inl e' | exact .inr e')
          refine SR.q' (r_as (v := .int .i64 _) rfl) <| SR.nil ?_
          refine W.seq ?_
          refine W.regS (SR.q' (r_as (v := .int .i64 1) rfl) <| SR.nil ?_)
          refine W.seq ?_
          refine W.regS (SR.q' (r_mv (v := .slice _ _ _) rfl) <| SR.q' (r_mv (v := .int .i64 _) rfl) <| SR.call ent26 (c_laws_heldIntS w162 (mkL mkInt 1 (if LibOK x ∧ (1 ≤ r ∧ r ≤ 999) then selL (atR r) Away.Map x.Away else []).length 1) (((hO164).rd)) 1 ((if LibOK x ∧ (1 ≤ r ∧ r ≤ 999) then selL (atR r) Away.Map x.Away else []).length) (by omega) (by omega) (by omega) (by first | rfl | assumption)) rfl ?_)
          rintro e w167 ⟨rfl, hk168⟩
          refine ⟨_, rfl, ?_⟩
          have hz169 := hk168.size
          have hB170 := hB166.lo hk168
          refine SR.q' (r_as (v := .int .i64 _) rfl) <| SR.nil ?_
          refine W.seq ?_
          refine W.seq ?_
          refine W.regS (SR.q' (r_mv (v := .int .i64 _) rfl) <| SR.q' (r_lt rfl rfl) <| SR.nil ?_)
          refine W.cond_d rfl (fun h171 => ?_) (fun h171 => ?_)
          · refine W.seq ?_
            refine W.regS (SR.q' (r_as (v := .bool false) rfl) <| SR.nil ?_)
            refine W.ret ?_
            refine ret1 rfl (v := .bool _) rfl ?_
            exact ⟨eR (eB (z_c_laws_FnExactMapsAt_172 x nx_Maps hbdx_Maps hlex_Maps nx_Away hbdx_Away hlex_Away r h13 hq14 n18 hl28 hl29 n22 hl30 hl31 n35 hl40 hl41 hq42 n46 hl56 hl57 n50 hl58 hl59 n82 hl87 hl88 hq89 h101 hq104 n112 n116 hl123 hl124 hl125 hl126 h138 h158 hq160 hq161 h171)), hB170⟩
          · refine W.skip ?_
            refine W.seq ?_
            refine W.seq ?_
            refine W.regS (SR.q' (r_mv (v := .int .i64 _) rfl) <| SR.q' (r_mv (v := .int .i64 _) rfl) <| SR.q' (r_ne_s rfl rfl) <| SR.nil ?_)
            refine W.cond_f rfl ?_
            refine W.skip ?_
            refine W.seq ?_
            refine W.regS (SR.q' (r_lda (l := [.slice Ax_Maps nx_Maps cx_Maps, .slice Ax_Away nx_Away cx_Away, .int .i64 x.Bought, .int .i64 x.Dropped, .int .i64 x.Mended]) agg25 rfl (fun _ _ hu => ((((((((((((((hb6).lo hk10).lo hk16).lo hk33).lo hk44).lo hk63).kp hk74 (fun e' => by have e'' : g1 = g60 := e'; omega)).lo hk80).lo hk98).lo hR134).kp hk141 (fun e' => e'.elim (fun e' => by have := (((((((hO48).lo hk63).kp hk74 (fun b_ hb e' => hd71 (by have e'' : b_ = g60 := e'; rw [← e'']; exact hb))).lo hk80).lo hk98).lo hR134)).base_le e'; omega) (fun e' => by have := (((((((hO52).lo hk63).kp hk74 (fun b_ hb e' => hd72 (by have e'' : b_ = g60 := e'; rw [← e'']; exact hb))).lo hk80).lo hk98).lo hR134)).base_le e'; omega))).lo hk155).kp hk163 (fun e' => by have := ((((((hO84).lo hk98).lo hR134).kp hk141 (fun b_ hb e' => e'.elim (fun e' => by have h1 := (((((((hO48).lo hk63).kp hk74 (fun b_ hb e' => hd71 (by have e'' : b_ = g60 := e'; rw [← e'']; exact hb))).lo hk80).lo hk98).lo hR134)).base_le e'; have h2 := (((hO84).lo hk98).lo hR134).base_le hb; have h4 := (((hO48).lo hk63).kp hk74 (fun b_ hb e' => hd71 (by have e'' : b_ = g60 := e'; rw [← e'']; exact hb))).base_le e'; omega) (fun e' => by have h1 := (((((((hO52).lo hk63).kp hk74 (fun b_ hb e' => hd72 (by have e'' : b_ = g60 := e'; rw [← e'']; exact hb))).lo hk80).lo hk98).lo hR134)).base_le e'; have h2 := (((hO84).lo hk98).lo hR134).base_le hb; have h4 := (((hO52).lo hk63).kp hk74 (fun b_ hb e' => hd72 (by have e'' : b_ = g60 := e'; rw [← e'']; exact hb))).base_le e'; omega))).lo hk155)).base_le e'; omega)).lo hk168).cell hu) rfl) <| SR.call ent14 (c_laws_toLibrary w167 x ((((((((((((((((hx_Maps).lo hk4).lo hk10).lo hk16).lo hk33).lo hk44).lo hk63).kp hk74 (fun b_ hb e' => by have e'' : b_ = g60 := e'; omega)).lo hk80).lo hk98).lo hR134).kp hk141 (fun b_ hb e' => e'.elim (fun e' => by have := (((((((hO48).lo hk63).kp hk74 (fun b_ hb e' => hd71 (by have e'' : b_ = g60 := e'; rw [← e'']; exact hb))).lo hk80).lo hk98).lo hR134)).base_le e'; omega) (fun e' => by have := (((((((hO52).lo hk63).kp hk74 (fun b_ hb e' => hd72 (by have e'' : b_ = g60 := e'; rw [← e'']; exact hb))).lo hk80).lo hk98).lo hR134)).base_le e'; omega))).lo hk155).kp hk163 (fun b_ hb e' => by have := ((((((hO84).lo hk98).lo hR134).kp hk141 (fun b_ hb e' => e'.elim (fun e' => by have h1 := (((((((hO48).lo hk63).kp hk74 (fun b_ hb e' => hd71 (by have e'' : b_ = g60 := e'; rw [← e'']; exact hb))).lo hk80).lo hk98).lo hR134)).base_le e'; have h2 := (((hO84).lo hk98).lo hR134).base_le hb; have h4 := (((hO48).lo hk63).kp hk74 (fun b_ hb e' => hd71 (by have e'' : b_ = g60 := e'; rw [← e'']; exact hb))).base_le e'; omega) (fun e' => by have h1 := (((((((hO52).lo hk63).kp hk74 (fun b_ hb e' => hd72 (by have e'' : b_ = g60 := e'; rw [← e'']; exact hb))).lo hk80).lo hk98).lo hR134)).base_le e'; have h2 := (((hO84).lo hk98).lo hR134).base_le hb; have h4 := (((hO52).lo hk63).kp hk74 (fun b_ hb e' => hd72 (by have e'' : b_ = g60 := e'; rw [← e'']; exact hb))).base_le e'; omega))).lo hk155)).base_le e'; omega)).lo hk168)) ((((((((((((((((hx_Away).lo hk4).lo hk10).lo hk16).lo hk33).lo hk44).lo hk63).kp hk74 (fun b_ hb e' => by have e'' : b_ = g60 := e'; omega)).lo hk80).lo hk98).lo hR134).kp hk141 (fun b_ hb e' => e'.elim (fun e' => by have := (((((((hO48).lo hk63).kp hk74 (fun b_ hb e' => hd71 (by have e'' : b_ = g60 := e'; rw [← e'']; exact hb))).lo hk80).lo hk98).lo hR134)).base_le e'; omega) (fun e' => by have := (((((((hO52).lo hk63).kp hk74 (fun b_ hb e' => hd72 (by have e'' : b_ = g60 := e'; rw [← e'']; exact hb))).lo hk80).lo hk98).lo hR134)).base_le e'; omega))).lo hk155).kp hk163 (fun b_ hb e' => by have := ((((((hO84).lo hk98).lo hR134).kp hk141 (fun b_ hb e' => e'.elim (fun e' => by have h1 := (((((((hO48).lo hk63).kp hk74 (fun b_ hb e' => hd71 (by have e'' : b_ = g60 := e'; rw [← e'']; exact hb))).lo hk80).lo hk98).lo hR134)).base_le e'; have h2 := (((hO84).lo hk98).lo hR134).base_le hb; have h4 := (((hO48).lo hk63).kp hk74 (fun b_ hb e' => hd71 (by have e'' : b_ = g60 := e'; rw [← e'']; exact hb))).base_le e'; omega) (fun e' => by have h1 := (((((((hO52).lo hk63).kp hk74 (fun b_ hb e' => hd72 (by have e'' : b_ = g60 := e'; rw [← e'']; exact hb))).lo hk80).lo hk98).lo hR134)).base_le e'; have h2 := (((hO84).lo hk98).lo hR134).base_le hb; have h4 := (((hO52).lo hk63).kp hk74 (fun b_ hb e' => hd72 (by have e'' : b_ = g60 := e'; rw [← e'']; exact hb))).base_le e'; omega))).lo hk155)).base_le e'; omega)).lo hk168)) (by omega) (by omega)) rfl ?_)
            rintro e w173 ⟨A175, n176, c177, A179, n180, c181, rfl, hO178, hO182, hd183, hk174⟩
            refine ⟨_, rfl, ?_⟩
            have hz184 := hk174.size
            have hB185 := hB170.lo hk174
            have hl186 := hO178.len
            have hl187 := hO178.rd.bound
            have hl188 := hO182.len
            have hl189 := hO182.rd.bound
            refine SR.q' (r_mv (v := .int .i64 _) rfl) <| SR.call ent22 (c_impl_MapsAt w173 x (((hO178).rd)) (((hO182).rd)) r (by omega)) rfl ?_
            rintro e w190 ⟨A192, n193, c194, rfl, hO195, hk191⟩
            refine ⟨_, rfl, ?_⟩
            have hz196 := hk191.size
            have hB197 := hB185.lo hk191
            have hl198 := hO195.len
            have hl199 := hO195.rd.bound
            have hq200 := selif_len (LibOK x ∧ (1 ≤ r ∧ r ≤ 999)) (atR r) Away.Map x.Away
            refine SR.q' (r_mv (v := .tuple (List.toArray _)) rfl) <| SR.q' (r_ext (v := .slice _ _ _) rfl rfl) <| SR.q' (r_ext (v := .bool _) rfl rfl) <| SR.q' (r_as (v := .slice _ _ _) rfl) <| SR.q' (r_as (v := .bool _) rfl) <| SR.nil ?_
            refine W.seq ?_
            refine W.seq ?_
            refine W.regJS (fun f' w' => At f' [(4, .bool false), (9, .slice A81 n82 c83), (12, .int .i64 (1 + 1 * ((if LibOK x ∧ (1 ≤ r ∧ r ≤ 999) then selL (atR r) Away.Map x.Away else []).length : Int))), (13, .int .i64 (1 + 1 * ((if LibOK x ∧ (1 ≤ r ∧ r ≤ 999) then selL (atR r) Away.Map x.Away else []).length : Int))), (92, .bool (decide (¬ ((if LibOK x ∧ (1 ≤ r ∧ r ≤ 999) then selL (atR r) Away.Map x.Away else []) = (if LibOK x ∧ (1 ≤ r ∧ r ≤ 999) then selL (atR r) Away.Map x.Away else [])))))] ∧ Lo w190 w') ?_ ?_
            · refine SR.q' (r_mv (v := .slice _ _ _) rfl) <| SR.q' (r_mv (v := .slice _ _ _) rfl) <| SR.call ent23 (c_laws_eqIntS w190 (if LibOK x ∧ (1 ≤ r ∧ r ≤ 999) then selL (atR r) Away.Map x.Away else []) (((hO195).rd)) (if LibOK x ∧ (1 ≤ r ∧ r ≤ 999) then selL (atR r) Away.Map x.Away else []) (((((((((((((((hO37).lo hk44).lo hk63).kp hk74 (fun b_ hb e' => hd70 (by have e'' : b_ = g60 := e'; rw [← e'']; exact hb))).lo hk80).lo hk98).lo hR134).kp hk141 (fun b_ hb e' => e'.elim (fun e' => by have h1 := (((((((hO48).lo hk63).kp hk74 (fun b_ hb e' => hd71 (by have e'' : b_ = g60 := e'; rw [← e'']; exact hb))).lo hk80).lo hk98).lo hR134)).base_le e'; have h2 := (((((((hO37).lo hk44).lo hk63).kp hk74 (fun b_ hb e' => hd70 (by have e'' : b_ = g60 := e'; rw [← e'']; exact hb))).lo hk80).lo hk98).lo hR134).base_le hb; have h3 := (hO37).base_le hb; omega) (fun e' => by have h1 := (((((((hO52).lo hk63).kp hk74 (fun b_ hb e' => hd72 (by have e'' : b_ = g60 := e'; rw [← e'']; exact hb))).lo hk80).lo hk98).lo hR134)).base_le e'; have h2 := (((((((hO37).lo hk44).lo hk63).kp hk74 (fun b_ hb e' => hd70 (by have e'' : b_ = g60 := e'; rw [← e'']; exact hb))).lo hk80).lo hk98).lo hR134).base_le hb; have h3 := (hO37).base_le hb; omega))).lo hk155).kp hk163 (fun b_ hb e' => by have h1 := ((((((hO84).lo hk98).lo hR134).kp hk141 (fun b_ hb e' => e'.elim (fun e' => by have h1 := (((((((hO48).lo hk63).kp hk74 (fun b_ hb e' => hd71 (by have e'' : b_ = g60 := e'; rw [← e'']; exact hb))).lo hk80).lo hk98).lo hR134)).base_le e'; have h2 := (((hO84).lo hk98).lo hR134).base_le hb; have h4 := (((hO48).lo hk63).kp hk74 (fun b_ hb e' => hd71 (by have e'' : b_ = g60 := e'; rw [← e'']; exact hb))).base_le e'; omega) (fun e' => by have h1 := (((((((hO52).lo hk63).kp hk74 (fun b_ hb e' => hd72 (by have e'' : b_ = g60 := e'; rw [← e'']; exact hb))).lo hk80).lo hk98).lo hR134)).base_le e'; have h2 := (((hO84).lo hk98).lo hR134).base_le hb; have h4 := (((hO52).lo hk63).kp hk74 (fun b_ hb e' => hd72 (by have e'' : b_ = g60 := e'; rw [← e'']; exact hb))).base_le e'; omega))).lo hk155)).base_le e'; have h2 := (((((((((hO37).lo hk44).lo hk63).kp hk74 (fun b_ hb e' => hd70 (by have e'' : b_ = g60 := e'; rw [← e'']; exact hb))).lo hk80).lo hk98).lo hR134).kp hk141 (fun b_ hb e' => e'.elim (fun e' => by have h1 := (((((((hO48).lo hk63).kp hk74 (fun b_ hb e' => hd71 (by have e'' : b_ = g60 := e'; rw [← e'']; exact hb))).lo hk80).lo hk98).lo hR134)).base_le e'; have h2 := (((((((hO37).lo hk44).lo hk63).kp hk74 (fun b_ hb e' => hd70 (by have e'' : b_ = g60 := e'; rw [← e'']; exact hb))).lo hk80).lo hk98).lo hR134).base_le hb; have h3 := (hO37).base_le hb; omega) (fun e' => by have h1 := (((((((hO52).lo hk63).kp hk74 (fun b_ hb e' => hd72 (by have e'' : b_ = g60 := e'; rw [← e'']; exact hb))).lo hk80).lo hk98).lo hR134)).base_le e'; have h2 := (((((((hO37).lo hk44).lo hk63).kp hk74 (fun b_ hb e' => hd70 (by have e'' : b_ = g60 := e'; rw [← e'']; exact hb))).lo hk80).lo hk98).lo hR134).base_le hb; have h3 := (hO37).base_le hb; omega))).lo hk155).base_le hb; have h3 := ((((hO37).lo hk44).lo hk63).kp hk74 (fun b_ hb e' => hd70 (by have e'' : b_ = g60 := e'; rw [← e'']; exact hb))).base_le hb; omega)).lo hk168).lo hk174).lo hk191).rd))) rfl ?_
              rintro e w201 ⟨rfl, hk202⟩
              refine ⟨_, rfl, ?_⟩
              have hz203 := hk202.size
              have hB204 := hB197.lo hk202
              refine SR.q' (r_not rfl) <| SR.q' (r_mv (v := .bool _) rfl) <| SR.splitN (fun h205 => ?_) (fun h205 => ?_)
              · refine SR.s' rfl <| SR.s' rfl <| SR.s' rfl <| SR.q' (r_pick true rfl (v := .bool true) rfl) <| SR.nil ?_
                exact ⟨_, rfl, ⟨⟨rfl, rfl, rfl, rfl, (eDT ((j2f h205).1 trivial)), trivial⟩, (hk202)⟩⟩
              · refine SR.g' rfl (r_mv (v := .bool _) rfl) <| SR.g' rfl (r_mv (v := .bool _) rfl) <| SR.g' rfl (r_neb_s und4 rfl rfl) <| SR.q' (r_pick false rfl (v := .bool _) rfl) <| SR.nil ?_
                exact ⟨_, rfl, ⟨⟨rfl, rfl, rfl, rfl, (eDF (j2t h205).2), trivial⟩, (hk202)⟩⟩
            rintro f206 w207 ⟨hat208, hk209⟩
            rw [← sets_of_at hat208]
            have hz210 := hk209.size
            have hB211 := hB197.lo hk209
            refine W.cond_f (congrArg Value.bool (decide_eq_false h101)) ?_
            refine W.skip ?_
            refine W.seq ?_
            refine W.regS (SR.q' (r_as (v := .int .i64 1) rfl) <| SR.nil ?_)
            refine W.seq ?_
            refine W.regS (SR.q' (r_mv (v := .slice _ _ _) rfl) <| SR.q' (r_mv (v := .int .i64 _) rfl) <| SR.call ent26 (c_laws_heldIntS w207 (mkL mkInt 1 (if LibOK x ∧ (1 ≤ r ∧ r ≤ 999) then selL (atR r) Away.Map x.Away else []).length 1) (((((((hO164).lo hk168).lo hk174).lo hk191).lo hk209).rd)) 1 ((if LibOK x ∧ (1 ≤ r ∧ r ≤ 999) then selL (atR r) Away.Map x.Away else []).length) (by omega) (by omega) (by omega) (by first | rfl | assumption)) rfl ?_)
            rintro e w212 ⟨rfl, hk213⟩
            refine ⟨_, rfl, ?_⟩
            have hz214 := hk213.size
            have hB215 := hB211.lo hk213
            refine SR.q' (r_as (v := .int .i64 _) rfl) <| SR.nil ?_
            refine W.seq ?_
            refine W.seq ?_
            refine W.regS (SR.q' (r_mv (v := .int .i64 _) rfl) <| SR.q' (r_lt rfl rfl) <| SR.nil ?_)
            refine W.cond_f (congrArg Value.bool (decide_eq_false h171)) ?_
            refine W.skip ?_
            refine W.seq ?_
            refine W.seq ?_
            refine W.regS (SR.q' (r_mv (v := .int .i64 _) rfl) <| SR.q' (r_mv (v := .int .i64 _) rfl) <| SR.q' (r_ne_s rfl rfl) <| SR.nil ?_)
            refine W.cond_f rfl ?_
            refine W.skip ?_
            refine W.seq ?_
            refine W.regS (SR.q' (r_as (v := .bool true) rfl) <| SR.nil ?_)
            refine W.ret ?_
            refine ret1 rfl (v := .bool _) rfl ?_
            exact ⟨eR rfl, hB215⟩
end Go.Proofs.Ytbodnffjgmaloaa
