/- Walks, printed by a program of this claim's author. -/
import Derived.Test.YtbodnffjgmaloaaChecked
import Derived.Test.YtbodnffjgmaloaaUa
import Derived.Test.YtbodnffjgmaloaaFs
import Derived.Test.YtbodnffjgmaloaaFq
import Derived.Test.YtbodnffjgmaloaaUc
import Derived.Test.YtbodnffjgmaloaaG32h
namespace Go.Proofs.Ytbodnffjgmaloaa
open Go Go.RowKit Fw
set_option maxRecDepth 10000
set_option linter.unusedVariables false
theorem agg49 : TAgg Try.prog 49 4 := ⟨fun _ => by kernel_rfl, fun _ => by kernel_rfl⟩
theorem ent108 : Ent Try.prog 108 := ent_of Try.func108 (by decide +kernel) rfl
theorem ent109 : Ent Try.prog 109 := ent_of Try.func109 (by decide +kernel) rfl
theorem ent110 : Ent Try.prog 110 := ent_of Try.func110 (by decide +kernel) rfl

open Classical in
noncomputable def impl_Library_hand (x : Library) (s : LibraryStep) : Library × Bool :=
  if s.Reader = s.Value then ((⟨([] : List LMap), ([] : List Away), 0, 0, 0⟩ : Library), false) else if (!((impl_Library_fetch x s.Id s.Reader).2)) = true then ((⟨([] : List LMap), ([] : List Away), 0, 0, 0⟩ : Library), false) else (((impl_Library_give ((impl_Library_fetch x s.Id s.Reader).1) s.Id s.Value).1), (impl_Library_give ((impl_Library_fetch x s.Id s.Reader).1) s.Id s.Value).2)
theorem c__impl_Library__hand (w : World) (x : Library) {Ax_Maps : Option Addr} {nx_Maps cx_Maps Bx_Maps : Nat} (hx_Maps : SlO w Bx_Maps encLMap 3 73 Ax_Maps nx_Maps cx_Maps x.Maps) {Ax_Away : Option Addr} {nx_Away cx_Away Bx_Away : Nat} (hx_Away : SlO w Bx_Away encAway 2 77 Ax_Away nx_Away cx_Away x.Away) (s : LibraryStep) (hdx_Maps_x_Away : ∀ b_, Ax_Maps = some ⟨b_, 0, none⟩ → ¬ Ax_Away = some ⟨b_, 0, none⟩) (hp0 : (nx_Maps : Int) ≤ 100) (hp1 : (nx_Away : Int) ≤ 100) : Calls Try.prog 110 #[.agg (List.toArray [.slice Ax_Maps nx_Maps cx_Maps, .slice Ax_Away nx_Away cx_Away, .int .i64 x.Bought, .int .i64 x.Dropped, .int .i64 x.Mended]), .agg (List.toArray (encLibraryStep s))] w fun e w' => ∃ (A1' : Option Addr) (n1' c1' : Nat) (A2' : Option Addr) (n2' c2' : Nat), e = .returned (.tuple (List.toArray [.agg (List.toArray [.slice A1' n1' c1', .slice A2' n2' c2', .int .i64 (((impl_Library_hand x s).1).Bought), .int .i64 (((impl_Library_hand x s).1).Dropped), .int .i64 (((impl_Library_hand x s).1).Mended)]), .bool ((impl_Library_hand x s).2)])) ∧ SlO w' Bx_Maps encLMap 3 73 A1' n1' c1' (((impl_Library_hand x s).1).Maps) ∧ SlO w' Bx_Away encAway 2 77 A2' n2' c2' (((impl_Library_hand x s).1).Away) ∧ (∀ b_, A1' = some ⟨b_, 0, none⟩ → ¬ A2' = some ⟨b_, 0, none⟩) ∧ (∀ b_, A1' = some ⟨b_, 0, none⟩ → (Ax_Maps = some ⟨b_, 0, none⟩ ∨ Ax_Away = some ⟨b_, 0, none⟩) ∨ w.heap.size ≤ b_) ∧ (∀ b_, A2' = some ⟨b_, 0, none⟩ → (Ax_Maps = some ⟨b_, 0, none⟩ ∨ Ax_Away = some ⟨b_, 0, none⟩) ∨ w.heap.size ≤ b_) ∧ Kp (fun b_ => Ax_Maps = some ⟨b_, 0, none⟩ ∨ Ax_Away = some ⟨b_, 0, none⟩) w w' := by
  refine calls_W 34 Try.func110 rfl rfl rfl ?_
  have hcpx_Maps := hx_Maps.rd.cap
  have hbbx_Maps := hx_Maps.rd.bd
  have hbdx_Maps := hx_Maps.rd.bound
  have hlex_Maps := hx_Maps.len
  have hBbx_Maps := hx_Maps.bd
  have hcpx_Away := hx_Away.rd.cap
  have hbbx_Away := hx_Away.rd.bd
  have hbdx_Away := hx_Away.rd.bound
  have hlex_Away := hx_Away.len
  have hBbx_Away := hx_Away.bd
  have hcpx_Maps := hx_Maps.rd.cap
  have hbbx_Maps := hx_Maps.rd.bd
  have hbdx_Maps := hx_Maps.rd.bound
  have hlex_Maps := hx_Maps.len
  have hBbx_Maps := hx_Maps.bd
  have hcpx_Away := hx_Away.rd.cap
  have hbbx_Away := hx_Away.rd.bd
  have hbdx_Away := hx_Away.rd.bound
  have hlex_Away := hx_Away.len
  have hBbx_Away := hx_Away.bd
  refine W.seq ?_
  refine W.regS (SR.box (v := .agg (List.toArray _)) (l := [.slice Ax_Maps nx_Maps cx_Maps, .slice Ax_Away nx_Away cx_Away, .int .i64 x.Bought, .int .i64 x.Dropped, .int .i64 x.Mended]) rfl rfl ?_)
  intro g1 w2 hg3 hk4 hs5 hb6
  have hz7 := hk4.size
  have hB8 := (Kp.refl w : Kp (fun b_ => Ax_Maps = some ⟨b_, 0, none⟩ ∨ Ax_Away = some ⟨b_, 0, none⟩) w w).lo hk4
  have hd9 : ¬ Ax_Maps = some ⟨g1, 0, none⟩ := fun e' => by have := (hx_Maps).base_le e'; omega
  have hd10 : ¬ Ax_Away = some ⟨g1, 0, none⟩ := fun e' => by have := (hx_Away).base_le e'; omega
  refine SR.box (v := .agg (List.toArray _)) (l := [.int .i64 s.Kind, .int .i64 s.Id, .int .i64 s.Reader, .int .i64 s.Value]) rfl rfl ?_
  intro g11 w12 hg13 hk14 hs15 hb16
  have hz17 := hk14.size
  have hB18 := hB8.lo hk14
  have hd19 : ¬ Ax_Maps = some ⟨g11, 0, none⟩ := fun e' => by have := ((hx_Maps).lo hk4).base_le e'; omega
  have hd20 : ¬ Ax_Away = some ⟨g11, 0, none⟩ := fun e' => by have := ((hx_Away).lo hk4).base_le e'; omega
  refine SR.alloc (l := [.slice none 0 0, .slice none 0 0, .int .i64 0, .int .i64 0, .int .i64 0]) tz31 rfl ?_
  intro g21 w22 hg23 hk24 hs25 hb26
  have hz27 := hk24.size
  have hB28 := hB18.lo hk24
  have hd29 : ¬ Ax_Maps = some ⟨g21, 0, none⟩ := fun e' => by have := (((hx_Maps).lo hk4).lo hk14).base_le e'; omega
  have hd30 : ¬ Ax_Away = some ⟨g21, 0, none⟩ := fun e' => by have := (((hx_Away).lo hk4).lo hk14).base_le e'; omega
  refine SR.q' (r_as (v := .bool false) rfl) <| SR.nil ?_
  refine W.seq ?_
  refine W.seq ?_
  have hm31 := ((hb6).lo hk14).lo hk24
  have hm32 := (((hx_Maps).lo hk4).lo hk14).lo hk24
  have hm33 := (((hx_Away).lo hk4).lo hk14).lo hk24
  refine W.regS (SR.q' (r_fa fa49_2 rfl) <| SR.q' (r_ld (v := .int .i64 s.Reader) sca3 rfl (((hb16).lo hk24).cell rfl)) <| SR.q' (r_fa fa49_3 rfl) <| SR.q' (r_ld (v := .int .i64 s.Value) sca3 rfl (((hb16).lo hk24).cell rfl)) <| SR.q' (r_eq rfl rfl) <| SR.nil ?_)
  refine W.cond_d rfl (fun h34 => ?_) (fun h34 => ?_)
  · refine W.seq ?_
    refine W.regS (SR.q' (r_build (vs := []) rfl (bld31_)) <| SR.store (o := 0) (vs := [.slice none 0 0, .slice none 0 0, .int .i64 0, .int .i64 0, .int .i64 0]) agg31.2 rfl rfl rfl rfl (hb26) (Nat.le_of_ble_eq_true rfl) rfl ?_)
    intro w35 hk36 hs37 hb38
    have hz39 := hk36.size
    have hB40 := hB28.new hk36 (by omega)
    refine SR.q' (r_as (v := .bool false) rfl) <| SR.nil ?_
    refine W.ret ?_
    refine retCT rfl rfl agg31 (hb38) rfl (v := .bool _) rfl ?_
    exact ⟨none, 0, 0, none, 0, 0, eR (eT2 (eA (eC rfl (eC rfl (eC (eI (by unfold impl_Library_hand; rw [if_pos h34] <;> rfl)) (eC (eI (by unfold impl_Library_hand; rw [if_pos h34] <;> rfl)) (eC (eI (by unfold impl_Library_hand; rw [if_pos h34] <;> rfl)) rfl)))))) (eB (by unfold impl_Library_hand; rw [if_pos h34] <;> rfl))), (SlO.eqv (SlO.nil (e := 73) (enc := encLMap) (fun _ => rfl) (by omega)) (by unfold impl_Library_hand; rw [if_pos h34] <;> rfl)), (SlO.eqv (SlO.nil (e := 77) (enc := encAway) (fun _ => rfl) (by omega)) (by unfold impl_Library_hand; rw [if_pos h34] <;> rfl)), (fun b_ h => by cases h), (fun b_ h => by cases h), (fun b_ h => by cases h), hB40⟩
  · refine W.skip ?_
    refine W.seq ?_
    refine W.regS (SR.q' (r_lda (l := [.slice Ax_Maps nx_Maps cx_Maps, .slice Ax_Away nx_Away cx_Away, .int .i64 x.Bought, .int .i64 x.Dropped, .int .i64 x.Mended]) agg31 rfl (fun _ _ hu => (hm31).cell hu) rfl) <| SR.q' (r_fa fa49_1 rfl) <| SR.q' (r_ld (v := .int .i64 s.Id) sca3 rfl (((hb16).lo hk24).cell rfl)) <| SR.q' (r_fa fa49_2 rfl) <| SR.q' (r_ld (v := .int .i64 s.Reader) sca3 rfl (((hb16).lo hk24).cell rfl)) <| SR.call ent109 (c__impl_Library__fetch w22 x (hm32) (hm33) s.Id s.Reader hdx_Maps_x_Away (by omega) (by omega)) rfl ?_)
    rintro e w41 ⟨A43, n44, c45, A47, n48, c49, rfl, hO46, hO50, hd51, hN52, hN53, hk42⟩
    refine ⟨_, rfl, ?_⟩
    have hz54 := hk42.size
    have hB55 := hB28.step hk42 (fun i_ hi_ e' => e'.elim (fun e' => by have := ((hm32)).base_le e'; first | omega | (exfalso; omega) | exact e' | exact .inl e' | exact .inr e') (fun e' => by have := ((hm33)).base_le e'; first | omega | (exfalso; omega) | exact e' | exact .inl e' | exact .inr e'))
    have hd56 : ¬ A43 = some ⟨g1, 0, none⟩ := fun e' => (hN52 g1 e').elim (fun h => h.elim (fun h => hd9 h) (fun h => hd10 h)) (fun h => by have := (hm31).lt; omega)
    have hd57 : ¬ A43 = some ⟨g11, 0, none⟩ := fun e' => (hN52 g11 e').elim (fun h => h.elim (fun h => hd19 h) (fun h => hd20 h)) (fun h => by have := ((hb16).lo hk24).lt; omega)
    have hd58 : ¬ A43 = some ⟨g21, 0, none⟩ := fun e' => (hN52 g21 e').elim (fun h => h.elim (fun h => hd29 h) (fun h => hd30 h)) (fun h => by have := (hb26).lt; omega)
    have hd59 : ¬ A47 = some ⟨g1, 0, none⟩ := fun e' => (hN53 g1 e').elim (fun h => h.elim (fun h => hd9 h) (fun h => hd10 h)) (fun h => by have := (hm31).lt; omega)
    have hd60 : ¬ A47 = some ⟨g11, 0, none⟩ := fun e' => (hN53 g11 e').elim (fun h => h.elim (fun h => hd19 h) (fun h => hd20 h)) (fun h => by have := ((hb16).lo hk24).lt; omega)
    have hd61 : ¬ A47 = some ⟨g21, 0, none⟩ := fun e' => (hN53 g21 e').elim (fun h => h.elim (fun h => hd29 h) (fun h => hd30 h)) (fun h => by have := (hb26).lt; omega)
    have hl62 := hO46.len
    have hl63 := hO46.rd.bound
    have hq64 := fetch_lenMaps x s.Id s.Reader
    have hl65 := hO50.len
    have hl66 := hO50.rd.bound
    have hq67 := fetch_lenAway x s.Id s.Reader
    refine SR.q' (r_mv (v := .tuple (List.toArray _)) rfl) <| SR.q' (r_ext (v := .agg (List.toArray _)) rfl rfl) <| SR.q' (r_ext (v := .bool _) rfl rfl) <| SR.alloc (l := [.slice none 0 0, .slice none 0 0, .int .i64 0, .int .i64 0, .int .i64 0]) tz31 rfl ?_
    intro g68 w69 hg70 hk71 hs72 hb73
    have hz74 := hk71.size
    have hB75 := hB55.lo hk71
    have hd76 : ¬ A43 = some ⟨g68, 0, none⟩ := fun e' => by have := (hO46).base_le e'; omega
    have hd77 : ¬ A47 = some ⟨g68, 0, none⟩ := fun e' => by have := (hO50).base_le e'; omega
    refine SR.store (o := 0) (vs := [.slice A43 n44 c45, .slice A47 n48 c49, .int .i64 (((impl_Library_fetch x s.Id s.Reader).1).Bought), .int .i64 (((impl_Library_fetch x s.Id s.Reader).1).Dropped), .int .i64 (((impl_Library_fetch x s.Id s.Reader).1).Mended)]) agg31.2 rfl rfl rfl rfl (hb73) (Nat.le_of_ble_eq_true rfl) rfl ?_
    intro w78 hk79 hs80 hb81
    have hz82 := hk79.size
    have hB83 := hB75.new hk79 (by omega)
    refine SR.q' (r_as (v := .bool _) rfl) <| SR.nil ?_
    refine W.seq ?_
    refine W.seq ?_
    have hm84 := ((((hb16).lo hk24).kp hk42 (fun e' => e'.elim (fun e' => hd19 e') (fun e' => hd20 e'))).lo hk71).kp hk79 (fun e' => by have e'' : g11 = g68 := e'; omega)
    have hm85 := (((hb26).kp hk42 (fun e' => e'.elim (fun e' => hd29 e') (fun e' => hd30 e'))).lo hk71).kp hk79 (fun e' => by have e'' : g21 = g68 := e'; omega)
    have hm86 := ((hO46).lo hk71).kp hk79 (fun b_ hb e' => hd76 (by have e'' : b_ = g68 := e'; rw [← e'']; exact hb))
    have hm87 := ((hO50).lo hk71).kp hk79 (fun b_ hb e' => hd77 (by have e'' : b_ = g68 := e'; rw [← e'']; exact hb))
    refine W.regS (SR.q' (r_mv (v := .bool _) rfl) <| SR.q' (r_not rfl) <| SR.nil ?_)
    refine W.cond_b rfl (fun h88 => ?_) (fun h88 => ?_)
    · have hq89 := bnot_t h88
      refine W.seq ?_
      refine W.regS (SR.q' (r_build (vs := []) rfl (bld31_)) <| SR.store (o := 0) (vs := [.slice none 0 0, .slice none 0 0, .int .i64 0, .int .i64 0, .int .i64 0]) agg31.2 rfl rfl rfl rfl (hm85) (Nat.le_of_ble_eq_true rfl) rfl ?_)
      intro w90 hk91 hs92 hb93
      have hz94 := hk91.size
      have hB95 := hB83.new hk91 (by omega)
      refine SR.q' (r_as (v := .bool false) rfl) <| SR.nil ?_
      refine W.ret ?_
      refine retCT rfl rfl agg31 (hb93) rfl (v := .bool _) rfl ?_
      exact ⟨none, 0, 0, none, 0, 0, eR (eT2 (eA (eC rfl (eC rfl (eC (eI (by unfold impl_Library_hand; rw [if_neg h34, if_pos h88] <;> rfl)) (eC (eI (by unfold impl_Library_hand; rw [if_neg h34, if_pos h88] <;> rfl)) (eC (eI (by unfold impl_Library_hand; rw [if_neg h34, if_pos h88] <;> rfl)) rfl)))))) (eB (by unfold impl_Library_hand; rw [if_neg h34, if_pos h88] <;> rfl))), (SlO.eqv (SlO.nil (e := 73) (enc := encLMap) (fun _ => rfl) (by omega)) (by unfold impl_Library_hand; rw [if_neg h34, if_pos h88] <;> rfl)), (SlO.eqv (SlO.nil (e := 77) (enc := encAway) (fun _ => rfl) (by omega)) (by unfold impl_Library_hand; rw [if_neg h34, if_pos h88] <;> rfl)), (fun b_ h => by cases h), (fun b_ h => by cases h), (fun b_ h => by cases h), hB95⟩
    · have hq96 := bnot_f h88
      refine W.skip ?_
      refine W.seq ?_
      refine W.regS (SR.q' (r_lda (l := [.slice A43 n44 c45, .slice A47 n48 c49, .int .i64 (((impl_Library_fetch x s.Id s.Reader).1).Bought), .int .i64 (((impl_Library_fetch x s.Id s.Reader).1).Dropped), .int .i64 (((impl_Library_fetch x s.Id s.Reader).1).Mended)]) agg31 rfl (fun _ _ hu => (hb81).cell hu) rfl) <| SR.q' (r_fa fa49_1 rfl) <| SR.q' (r_ld (v := .int .i64 s.Id) sca3 rfl ((hm84).cell rfl)) <| SR.q' (r_fa fa49_3 rfl) <| SR.q' (r_ld (v := .int .i64 s.Value) sca3 rfl ((hm84).cell rfl)) <| SR.call ent108 (c__impl_Library__give w78 ((impl_Library_fetch x s.Id s.Reader).1) (hm86) (hm87) s.Id s.Value hd51 (by omega) (by omega)) rfl ?_)
      rintro e w97 ⟨A99, n100, c101, A103, n104, c105, rfl, hO102, hO106, hd107, hN108, hN109, hk98⟩
      refine ⟨_, rfl, ?_⟩
      have hz110 := hk98.size
      have hB111 := hB83.step hk98 (fun i_ hi_ e' => e'.elim (fun e' => ((show ∀ b_, A43 = some ⟨b_, 0, none⟩ → (Ax_Maps = some ⟨b_, 0, none⟩ ∨ Ax_Away = some ⟨b_, 0, none⟩) ∨ w.heap.size ≤ b_ from (fun b_ h_ => (hN52 b_ h_).elim (fun h => h.elim (fun h => ((show ∀ b_, Ax_Maps = some ⟨b_, 0, none⟩ → (Ax_Maps = some ⟨b_, 0, none⟩ ∨ Ax_Away = some ⟨b_, 0, none⟩) ∨ w.heap.size ≤ b_ from (fun b_ h_ => .inl (.inl h_))) b_ h)) (fun h => ((show ∀ b_, Ax_Away = some ⟨b_, 0, none⟩ → (Ax_Maps = some ⟨b_, 0, none⟩ ∨ Ax_Away = some ⟨b_, 0, none⟩) ∨ w.heap.size ≤ b_ from (fun b_ h_ => .inl (.inr (h_)))) b_ h))) (fun h => .inr (by omega)))) i_ e').elim (fun e_ => e_) (fun e_ => by exfalso; omega)) (fun e' => ((show ∀ b_, A47 = some ⟨b_, 0, none⟩ → (Ax_Maps = some ⟨b_, 0, none⟩ ∨ Ax_Away = some ⟨b_, 0, none⟩) ∨ w.heap.size ≤ b_ from (fun b_ h_ => (hN53 b_ h_).elim (fun h => h.elim (fun h => ((show ∀ b_, Ax_Maps = some ⟨b_, 0, none⟩ → (Ax_Maps = some ⟨b_, 0, none⟩ ∨ Ax_Away = some ⟨b_, 0, none⟩) ∨ w.heap.size ≤ b_ from (fun b_ h_ => .inl (.inl h_))) b_ h)) (fun h => ((show ∀ b_, Ax_Away = some ⟨b_, 0, none⟩ → (Ax_Maps = some ⟨b_, 0, none⟩ ∨ Ax_Away = some ⟨b_, 0, none⟩) ∨ w.heap.size ≤ b_ from (fun b_ h_ => .inl (.inr (h_)))) b_ h))) (fun h => .inr (by omega)))) i_ e').elim (fun e_ => e_) (fun e_ => by exfalso; omega)))
      have hd112 : ¬ A99 = some ⟨g1, 0, none⟩ := fun e' => (hN108 g1 e').elim (fun h => h.elim (fun h => hd56 h) (fun h => hd59 h)) (fun h => by have := ((((hm31).kp hk42 (fun e' => e'.elim (fun e' => hd9 e') (fun e' => hd10 e'))).lo hk71).kp hk79 (fun e' => by have e'' : g1 = g68 := e'; omega)).lt; omega)
      have hd113 : ¬ A99 = some ⟨g11, 0, none⟩ := fun e' => (hN108 g11 e').elim (fun h => h.elim (fun h => hd57 h) (fun h => hd60 h)) (fun h => by have := (hm84).lt; omega)
      have hd114 : ¬ A99 = some ⟨g21, 0, none⟩ := fun e' => (hN108 g21 e').elim (fun h => h.elim (fun h => hd58 h) (fun h => hd61 h)) (fun h => by have := (hm85).lt; omega)
      have hd115 : ¬ A99 = some ⟨g68, 0, none⟩ := fun e' => (hN108 g68 e').elim (fun h => h.elim (fun h => hd76 h) (fun h => hd77 h)) (fun h => by have := (hb81).lt; omega)
      have hd116 : ¬ A103 = some ⟨g1, 0, none⟩ := fun e' => (hN109 g1 e').elim (fun h => h.elim (fun h => hd56 h) (fun h => hd59 h)) (fun h => by have := ((((hm31).kp hk42 (fun e' => e'.elim (fun e' => hd9 e') (fun e' => hd10 e'))).lo hk71).kp hk79 (fun e' => by have e'' : g1 = g68 := e'; omega)).lt; omega)
      have hd117 : ¬ A103 = some ⟨g11, 0, none⟩ := fun e' => (hN109 g11 e').elim (fun h => h.elim (fun h => hd57 h) (fun h => hd60 h)) (fun h => by have := (hm84).lt; omega)
      have hd118 : ¬ A103 = some ⟨g21, 0, none⟩ := fun e' => (hN109 g21 e').elim (fun h => h.elim (fun h => hd58 h) (fun h => hd61 h)) (fun h => by have := (hm85).lt; omega)
      have hd119 : ¬ A103 = some ⟨g68, 0, none⟩ := fun e' => (hN109 g68 e').elim (fun h => h.elim (fun h => hd76 h) (fun h => hd77 h)) (fun h => by have := (hb81).lt; omega)
      have hl120 := hO102.len
      have hl121 := hO102.rd.bound
      have hl122 := hO106.len
      have hl123 := hO106.rd.bound
      refine SR.q' (r_ext (v := .agg (List.toArray _)) rfl rfl) <| SR.q' (r_ext (v := .bool _) rfl rfl) <| SR.store (o := 0) (vs := [.slice A99 n100 c101, .slice A103 n104 c105, .int .i64 (((impl_Library_give ((impl_Library_fetch x s.Id s.Reader).1) s.Id s.Value).1).Bought), .int .i64 (((impl_Library_give ((impl_Library_fetch x s.Id s.Reader).1) s.Id s.Value).1).Dropped), .int .i64 (((impl_Library_give ((impl_Library_fetch x s.Id s.Reader).1) s.Id s.Value).1).Mended)]) agg31.2 rfl rfl rfl rfl ((hm85).kp hk98 (fun e' => e'.elim (fun e' => hd58 e') (fun e' => hd61 e'))) (Nat.le_of_ble_eq_true rfl) rfl ?_
      intro w124 hk125 hs126 hb127
      have hz128 := hk125.size
      have hB129 := hB111.new hk125 (by omega)
      refine SR.q' (r_as (v := .bool _) rfl) <| SR.nil ?_
      refine W.ret ?_
      refine retCT rfl rfl agg31 (hb127) rfl (v := .bool _) rfl ?_
      exact ⟨A99, n100, c101, A103, n104, c105, eR (eT2 (eA (eC rfl (eC rfl (eC (eI (by subst hl120 hl122; unfold impl_Library_hand; rw [if_neg h34, if_neg (ne_true_of_eq_false h88)] <;> rfl)) (eC (eI (by subst hl120 hl122; unfold impl_Library_hand; rw [if_neg h34, if_neg (ne_true_of_eq_false h88)] <;> rfl)) (eC (eI (by subst hl120 hl122; unfold impl_Library_hand; rw [if_neg h34, if_neg (ne_true_of_eq_false h88)] <;> rfl)) rfl)))))) (eB (by subst hl120 hl122; unfold impl_Library_hand; rw [if_neg h34, if_neg (ne_true_of_eq_false h88)] <;> rfl))), (SlO.eqv ((hO102).kp hk125 (fun b_ hb e' => hd114 (by have e'' : b_ = g21 := e'; rw [← e'']; exact hb))) (by subst hl120 hl122; unfold impl_Library_hand; rw [if_neg h34, if_neg (ne_true_of_eq_false h88)] <;> rfl)), (SlO.eqv ((hO106).kp hk125 (fun b_ hb e' => hd118 (by have e'' : b_ = g21 := e'; rw [← e'']; exact hb))) (by subst hl120 hl122; unfold impl_Library_hand; rw [if_neg h34, if_neg (ne_true_of_eq_false h88)] <;> rfl)), hd107, (fun b_ h_ => (hN108 b_ h_).elim (fun h => h.elim (fun h => ((show ∀ b_, A43 = some ⟨b_, 0, none⟩ → (Ax_Maps = some ⟨b_, 0, none⟩ ∨ Ax_Away = some ⟨b_, 0, none⟩) ∨ w.heap.size ≤ b_ from (fun b_ h_ => (hN52 b_ h_).elim (fun h => h.elim (fun h => ((show ∀ b_, Ax_Maps = some ⟨b_, 0, none⟩ → (Ax_Maps = some ⟨b_, 0, none⟩ ∨ Ax_Away = some ⟨b_, 0, none⟩) ∨ w.heap.size ≤ b_ from (fun b_ h_ => .inl (.inl h_))) b_ h)) (fun h => ((show ∀ b_, Ax_Away = some ⟨b_, 0, none⟩ → (Ax_Maps = some ⟨b_, 0, none⟩ ∨ Ax_Away = some ⟨b_, 0, none⟩) ∨ w.heap.size ≤ b_ from (fun b_ h_ => .inl (.inr (h_)))) b_ h))) (fun h => .inr (by omega)))) b_ h)) (fun h => ((show ∀ b_, A47 = some ⟨b_, 0, none⟩ → (Ax_Maps = some ⟨b_, 0, none⟩ ∨ Ax_Away = some ⟨b_, 0, none⟩) ∨ w.heap.size ≤ b_ from (fun b_ h_ => (hN53 b_ h_).elim (fun h => h.elim (fun h => ((show ∀ b_, Ax_Maps = some ⟨b_, 0, none⟩ → (Ax_Maps = some ⟨b_, 0, none⟩ ∨ Ax_Away = some ⟨b_, 0, none⟩) ∨ w.heap.size ≤ b_ from (fun b_ h_ => .inl (.inl h_))) b_ h)) (fun h => ((show ∀ b_, Ax_Away = some ⟨b_, 0, none⟩ → (Ax_Maps = some ⟨b_, 0, none⟩ ∨ Ax_Away = some ⟨b_, 0, none⟩) ∨ w.heap.size ≤ b_ from (fun b_ h_ => .inl (.inr (h_)))) b_ h))) (fun h => .inr (by omega)))) b_ h))) (fun h => .inr (by omega))), (fun b_ h_ => (hN109 b_ h_).elim (fun h => h.elim (fun h => ((show ∀ b_, A43 = some ⟨b_, 0, none⟩ → (Ax_Maps = some ⟨b_, 0, none⟩ ∨ Ax_Away = some ⟨b_, 0, none⟩) ∨ w.heap.size ≤ b_ from (fun b_ h_ => (hN52 b_ h_).elim (fun h => h.elim (fun h => ((show ∀ b_, Ax_Maps = some ⟨b_, 0, none⟩ → (Ax_Maps = some ⟨b_, 0, none⟩ ∨ Ax_Away = some ⟨b_, 0, none⟩) ∨ w.heap.size ≤ b_ from (fun b_ h_ => .inl (.inl h_))) b_ h)) (fun h => ((show ∀ b_, Ax_Away = some ⟨b_, 0, none⟩ → (Ax_Maps = some ⟨b_, 0, none⟩ ∨ Ax_Away = some ⟨b_, 0, none⟩) ∨ w.heap.size ≤ b_ from (fun b_ h_ => .inl (.inr (h_)))) b_ h))) (fun h => .inr (by omega)))) b_ h)) (fun h => ((show ∀ b_, A47 = some ⟨b_, 0, none⟩ → (Ax_Maps = some ⟨b_, 0, none⟩ ∨ Ax_Away = some ⟨b_, 0, none⟩) ∨ w.heap.size ≤ b_ from (fun b_ h_ => (hN53 b_ h_).elim (fun h => h.elim (fun h => ((show ∀ b_, Ax_Maps = some ⟨b_, 0, none⟩ → (Ax_Maps = some ⟨b_, 0, none⟩ ∨ Ax_Away = some ⟨b_, 0, none⟩) ∨ w.heap.size ≤ b_ from (fun b_ h_ => .inl (.inl h_))) b_ h)) (fun h => ((show ∀ b_, Ax_Away = some ⟨b_, 0, none⟩ → (Ax_Maps = some ⟨b_, 0, none⟩ ∨ Ax_Away = some ⟨b_, 0, none⟩) ∨ w.heap.size ≤ b_ from (fun b_ h_ => .inl (.inr (h_)))) b_ h))) (fun h => .inr (by omega)))) b_ h))) (fun h => .inr (by omega))), hB129⟩

open Classical in
noncomputable def impl_Library_use (x : Library) (s : LibraryStep) (k : Int) : Library × Bool :=
  if s.Kind = 2 then (((impl_Library_give (⟨x.Maps.set k.toNat ({ (gt x.Maps k.toNat) with Copies := IntKind.i64.wrap (((gt x.Maps k.toNat).Copies) - 1) }), x.Away, x.Bought, x.Dropped, x.Mended⟩ : Library) s.Id s.Reader).1), (impl_Library_give (⟨x.Maps.set k.toNat ({ (gt x.Maps k.toNat) with Copies := IntKind.i64.wrap (((gt x.Maps k.toNat).Copies) - 1) }), x.Away, x.Bought, x.Dropped, x.Mended⟩ : Library) s.Id s.Reader).2) else if s.Kind = 3 then (((impl_Library_fetch (⟨x.Maps.set k.toNat ({ ({ (gt x.Maps k.toNat) with Copies := IntKind.i64.wrap (((gt x.Maps k.toNat).Copies) + 1) }) with Torn := IntKind.i64.wrap (((gt x.Maps k.toNat).Torn) + s.Value) }), x.Away, x.Bought, x.Dropped, x.Mended⟩ : Library) s.Id s.Reader).1), (impl_Library_fetch (⟨x.Maps.set k.toNat ({ ({ (gt x.Maps k.toNat) with Copies := IntKind.i64.wrap (((gt x.Maps k.toNat).Copies) + 1) }) with Torn := IntKind.i64.wrap (((gt x.Maps k.toNat).Torn) + s.Value) }), x.Away, x.Bought, x.Dropped, x.Mended⟩ : Library) s.Id s.Reader).2) else if s.Kind = 5 then (((impl_Library_hand x s).1), (impl_Library_hand x s).2) else if s.Kind = 4 then ((⟨x.Maps.set k.toNat ({ (gt x.Maps k.toNat) with Torn := IntKind.i64.wrap (((gt x.Maps k.toNat).Torn) - s.Value) }), x.Away, x.Bought, x.Dropped, IntKind.i64.wrap (x.Mended + s.Value)⟩ : Library), true) else if s.Kind = 6 then ((⟨(x.Maps.set k.toNat ({ (gt x.Maps k.toNat) with Torn := IntKind.i64.wrap (((gt x.Maps k.toNat).Torn) - s.Value) })).set k.toNat ({ ({ (gt x.Maps k.toNat) with Torn := IntKind.i64.wrap (((gt x.Maps k.toNat).Torn) - s.Value) }) with Copies := IntKind.i64.wrap (((gt x.Maps k.toNat).Copies) - s.Value) }), x.Away, x.Bought, IntKind.i64.wrap (x.Dropped + s.Value), x.Mended⟩ : Library), true) else ((⟨x.Maps.set k.toNat ({ (gt x.Maps k.toNat) with Torn := IntKind.i64.wrap (((gt x.Maps k.toNat).Torn) + s.Value) }), x.Away, x.Bought, x.Dropped, x.Mended⟩ : Library), true)
theorem c__impl_Library__use (w : World) (x : Library) {Ax_Maps : Option Addr} {nx_Maps cx_Maps Bx_Maps : Nat} (hx_Maps : SlO w Bx_Maps encLMap 3 73 Ax_Maps nx_Maps cx_Maps x.Maps) {Ax_Away : Option Addr} {nx_Away cx_Away Bx_Away : Nat} (hx_Away : SlO w Bx_Away encAway 2 77 Ax_Away nx_Away cx_Away x.Away) (s : LibraryStep) (k : Int) (hdx_Maps_x_Away : ∀ b_, Ax_Maps = some ⟨b_, 0, none⟩ → ¬ Ax_Away = some ⟨b_, 0, none⟩) (hp0 : (nx_Maps : Int) ≤ 100) (hp1 : (nx_Away : Int) ≤ 100) (hp2 : 0 ≤ k ∧ k < (nx_Maps : Int)) : Calls Try.prog 97 #[.agg (List.toArray [.slice Ax_Maps nx_Maps cx_Maps, .slice Ax_Away nx_Away cx_Away, .int .i64 x.Bought, .int .i64 x.Dropped, .int .i64 x.Mended]), .agg (List.toArray (encLibraryStep s)), .int .i64 k] w fun e w' => ∃ (A1' : Option Addr) (n1' c1' : Nat) (A2' : Option Addr) (n2' c2' : Nat), e = .returned (.tuple (List.toArray [.agg (List.toArray [.slice A1' n1' c1', .slice A2' n2' c2', .int .i64 (((impl_Library_use x s k).1).Bought), .int .i64 (((impl_Library_use x s k).1).Dropped), .int .i64 (((impl_Library_use x s k).1).Mended)]), .bool ((impl_Library_use x s k).2)])) ∧ SlO w' Bx_Maps encLMap 3 73 A1' n1' c1' (((impl_Library_use x s k).1).Maps) ∧ SlO w' Bx_Away encAway 2 77 A2' n2' c2' (((impl_Library_use x s k).1).Away) ∧ (∀ b_, A1' = some ⟨b_, 0, none⟩ → ¬ A2' = some ⟨b_, 0, none⟩) ∧ (∀ b_, A1' = some ⟨b_, 0, none⟩ → (Ax_Maps = some ⟨b_, 0, none⟩ ∨ Ax_Away = some ⟨b_, 0, none⟩) ∨ w.heap.size ≤ b_) ∧ (∀ b_, A2' = some ⟨b_, 0, none⟩ → (Ax_Maps = some ⟨b_, 0, none⟩ ∨ Ax_Away = some ⟨b_, 0, none⟩) ∨ w.heap.size ≤ b_) ∧ Kp (fun b_ => Ax_Maps = some ⟨b_, 0, none⟩ ∨ Ax_Away = some ⟨b_, 0, none⟩) w w' := by
  refine calls_W 118 Try.func97 rfl rfl rfl ?_
  have hcpx_Maps := hx_Maps.rd.cap
  have hbbx_Maps := hx_Maps.rd.bd
  have hbdx_Maps := hx_Maps.rd.bound
  have hlex_Maps := hx_Maps.len
  have hBbx_Maps := hx_Maps.bd
  have hcpx_Away := hx_Away.rd.cap
  have hbbx_Away := hx_Away.rd.bd
  have hbdx_Away := hx_Away.rd.bound
  have hlex_Away := hx_Away.len
  have hBbx_Away := hx_Away.bd
  have hcpx_Maps := hx_Maps.rd.cap
  have hbbx_Maps := hx_Maps.rd.bd
  have hbdx_Maps := hx_Maps.rd.bound
  have hlex_Maps := hx_Maps.len
  have hBbx_Maps := hx_Maps.bd
  have hcpx_Away := hx_Away.rd.cap
  have hbbx_Away := hx_Away.rd.bd
  have hbdx_Away := hx_Away.rd.bound
  have hlex_Away := hx_Away.len
  have hBbx_Away := hx_Away.bd
  refine W.seq ?_
  refine W.regS (SR.box (v := .agg (List.toArray _)) (l := [.slice Ax_Maps nx_Maps cx_Maps, .slice Ax_Away nx_Away cx_Away, .int .i64 x.Bought, .int .i64 x.Dropped, .int .i64 x.Mended]) rfl rfl ?_)
  intro g1 w2 hg3 hk4 hs5 hb6
  have hz7 := hk4.size
  have hB8 := (Kp.refl w : Kp (fun b_ => Ax_Maps = some ⟨b_, 0, none⟩ ∨ Ax_Away = some ⟨b_, 0, none⟩) w w).lo hk4
  have hd9 : ¬ Ax_Maps = some ⟨g1, 0, none⟩ := fun e' => by have := (hx_Maps).base_le e'; omega
  have hd10 : ¬ Ax_Away = some ⟨g1, 0, none⟩ := fun e' => by have := (hx_Away).base_le e'; omega
  refine SR.box (v := .agg (List.toArray _)) (l := [.int .i64 s.Kind, .int .i64 s.Id, .int .i64 s.Reader, .int .i64 s.Value]) rfl rfl ?_
  intro g11 w12 hg13 hk14 hs15 hb16
  have hz17 := hk14.size
  have hB18 := hB8.lo hk14
  have hd19 : ¬ Ax_Maps = some ⟨g11, 0, none⟩ := fun e' => by have := ((hx_Maps).lo hk4).base_le e'; omega
  have hd20 : ¬ Ax_Away = some ⟨g11, 0, none⟩ := fun e' => by have := ((hx_Away).lo hk4).base_le e'; omega
  refine SR.alloc (l := [.slice none 0 0, .slice none 0 0, .int .i64 0, .int .i64 0, .int .i64 0]) tz31 rfl ?_
  intro g21 w22 hg23 hk24 hs25 hb26
  have hz27 := hk24.size
  have hB28 := hB18.lo hk24
  have hd29 : ¬ Ax_Maps = some ⟨g21, 0, none⟩ := fun e' => by have := (((hx_Maps).lo hk4).lo hk14).base_le e'; omega
  have hd30 : ¬ Ax_Away = some ⟨g21, 0, none⟩ := fun e' => by have := (((hx_Away).lo hk4).lo hk14).base_le e'; omega
  refine SR.q' (r_as (v := .bool false) rfl) <| SR.nil ?_
  refine W.seq ?_
  have hm31 := ((hb6).lo hk14).lo hk24
  have hm32 := (((hx_Maps).lo hk4).lo hk14).lo hk24
  have hm33 := (((hx_Away).lo hk4).lo hk14).lo hk24
  refine W.regS (SR.q' (r_fa fa31_0 rfl) <| SR.q' (r_ld (v := .slice Ax_Maps nx_Maps cx_Maps) sca28 rfl ((hm31).cell rfl)) <| SR.q' (r_mv (v := .int .i64 _) rfl) <| ?_)
  have hx35 := ((hm32).rd).elem (i := k.toNat) (by omega)
  refine SR.q' (r_ixR tsl28 ((hm32).rd) rfl rfl (by omega)) <| SR.q' (r_as (v := .pointer (some _)) rfl) <| SR.nil ?_
  refine W.seq ?_
  refine W.seq ?_
  refine W.regS (SR.q' (r_fa fa49_0 rfl) <| SR.q' (r_ld (v := .int .i64 s.Kind) sca3 rfl (((hb16).lo hk24).cell rfl)) <| SR.nil ?_)
  refine W.block ?_
  refine W.seq ?_
  refine W.regS (SR.q' (r_eq rfl rfl) <| SR.q' (r_as (v := .bool _) rfl) <| SR.nil ?_)
  refine W.cond_d rfl (fun h36 => ?_) (fun h36 => ?_)
  · refine W.seq ?_
    refine W.regS (SR.q' (r_mv (v := .pointer (some _)) rfl) <| SR.q' (r_nilc rfl) <| SR.q' (r_fa fa73_1 rfl) <| SR.q' (r_ld (v := .int .i64 ((gt x.Maps k.toNat).Copies)) sca3 rfl (((hm32).rd).cell hx35 rfl)) <| SR.q' (r_subW rfl rfl) <| SR.q' (r_nilc rfl) <| SR.q' (r_fa fa73_1 rfl) <| SR.storeO (o := 1) (vs := [.int .i64 (IntKind.i64.wrap (((gt x.Maps k.toNat).Copies) - 1))]) (x1 := { (gt x.Maps k.toNat) with Copies := IntKind.i64.wrap (((gt x.Maps k.toNat).Copies) - 1) }) sca3.2 rfl (add_add _ _ _) rfl rfl (hm32) hx35 rfl (Nat.le_of_ble_eq_true rfl) rfl ?_)
    intro w37 hk38 hs39 hO40
    have hz41 := hk38.size
    have hB42 := hB28.step hk38 (fun i_ hi_ e' => by have := ((hm32)).base_le e'; first | omega | (exfalso; omega) | exact e' | exact .inl e' | exact .inr e')
    have hx43 : (x.Maps.set k.toNat ({ (gt x.Maps k.toNat) with Copies := IntKind.i64.wrap (((gt x.Maps k.toNat).Copies) - 1) }))[k.toNat]? = some ({ (gt x.Maps k.toNat) with Copies := IntKind.i64.wrap (((gt x.Maps k.toNat).Copies) - 1) }) := List.getElem?_set_self (List.getElem?_eq_some_iff.1 hx35).1
    refine SR.nil ?_
    refine W.seq ?_
    have hm44 := ((hb16).lo hk24).kp hk38 (fun e' => hd19 e')
    refine W.regS (SR.q' (r_lda (l := [.slice Ax_Maps nx_Maps cx_Maps, .slice Ax_Away nx_Away cx_Away, .int .i64 x.Bought, .int .i64 x.Dropped, .int .i64 x.Mended]) agg31 rfl (fun _ _ hu => ((hm31).kp hk38 (fun e' => hd9 e')).cell hu) rfl) <| SR.q' (r_fa fa49_1 rfl) <| SR.q' (r_ld (v := .int .i64 s.Id) sca3 rfl ((hm44).cell rfl)) <| SR.q' (r_fa fa49_2 rfl) <| SR.q' (r_ld (v := .int .i64 s.Reader) sca3 rfl ((hm44).cell rfl)) <| SR.call ent108 (c__impl_Library__give w37 (⟨x.Maps.set k.toNat ({ (gt x.Maps k.toNat) with Copies := IntKind.i64.wrap (((gt x.Maps k.toNat).Copies) - 1) }), x.Away, x.Bought, x.Dropped, x.Mended⟩ : Library) (hO40) ((hm33).kp hk38 (fun b_ hb e' => hdx_Maps_x_Away b_ e' hb)) s.Id s.Reader hdx_Maps_x_Away (by omega) (by omega)) rfl ?_)
    rintro e w45 ⟨A47, n48, c49, A51, n52, c53, rfl, hO50, hO54, hd55, hN56, hN57, hk46⟩
    refine ⟨_, rfl, ?_⟩
    have hz58 := hk46.size
    have hB59 := hB42.step hk46 (fun i_ hi_ e' => e'.elim (fun e' => by have := ((hO40)).base_le e'; first | omega | (exfalso; omega) | exact e' | exact .inl e' | exact .inr e') (fun e' => by have := (((hm33).kp hk38 (fun b_ hb e' => hdx_Maps_x_Away b_ e' hb))).base_le e'; first | omega | (exfalso; omega) | exact e' | exact .inl e' | exact .inr e'))
    have hd60 : ¬ A47 = some ⟨g1, 0, none⟩ := fun e' => (hN56 g1 e').elim (fun h => h.elim (fun h => hd9 h) (fun h => hd10 h)) (fun h => by have := ((hm31).kp hk38 (fun e' => hd9 e')).lt; omega)
    have hd61 : ¬ A47 = some ⟨g11, 0, none⟩ := fun e' => (hN56 g11 e').elim (fun h => h.elim (fun h => hd19 h) (fun h => hd20 h)) (fun h => by have := (hm44).lt; omega)
    have hd62 : ¬ A47 = some ⟨g21, 0, none⟩ := fun e' => (hN56 g21 e').elim (fun h => h.elim (fun h => hd29 h) (fun h => hd30 h)) (fun h => by have := ((hb26).kp hk38 (fun e' => hd29 e')).lt; omega)
    have hd63 : ¬ A51 = some ⟨g1, 0, none⟩ := fun e' => (hN57 g1 e').elim (fun h => h.elim (fun h => hd9 h) (fun h => hd10 h)) (fun h => by have := ((hm31).kp hk38 (fun e' => hd9 e')).lt; omega)
    have hd64 : ¬ A51 = some ⟨g11, 0, none⟩ := fun e' => (hN57 g11 e').elim (fun h => h.elim (fun h => hd19 h) (fun h => hd20 h)) (fun h => by have := (hm44).lt; omega)
    have hd65 : ¬ A51 = some ⟨g21, 0, none⟩ := fun e' => (hN57 g21 e').elim (fun h => h.elim (fun h => hd29 h) (fun h => hd30 h)) (fun h => by have := ((hb26).kp hk38 (fun e' => hd29 e')).lt; omega)
    have hl66 := hO50.len
    have hl67 := hO50.rd.bound
    have hl68 := hO54.len
    have hl69 := hO54.rd.bound
    refine SR.q' (r_ext (v := .agg (List.toArray _)) rfl rfl) <| SR.q' (r_ext (v := .bool _) rfl rfl) <| SR.store (o := 0) (vs := [.slice A47 n48 c49, .slice A51 n52 c53, .int .i64 (((impl_Library_give (⟨x.Maps.set k.toNat ({ (gt x.Maps k.toNat) with Copies := IntKind.i64.wrap (((gt x.Maps k.toNat).Copies) - 1) }), x.Away, x.Bought, x.Dropped, x.Mended⟩ : Library) s.Id s.Reader).1).Bought), .int .i64 (((impl_Library_give (⟨x.Maps.set k.toNat ({ (gt x.Maps k.toNat) with Copies := IntKind.i64.wrap (((gt x.Maps k.toNat).Copies) - 1) }), x.Away, x.Bought, x.Dropped, x.Mended⟩ : Library) s.Id s.Reader).1).Dropped), .int .i64 (((impl_Library_give (⟨x.Maps.set k.toNat ({ (gt x.Maps k.toNat) with Copies := IntKind.i64.wrap (((gt x.Maps k.toNat).Copies) - 1) }), x.Away, x.Bought, x.Dropped, x.Mended⟩ : Library) s.Id s.Reader).1).Mended)]) agg31.2 rfl rfl rfl rfl (((hb26).kp hk38 (fun e' => hd29 e')).kp hk46 (fun e' => e'.elim (fun e' => hd29 e') (fun e' => hd30 e'))) (Nat.le_of_ble_eq_true rfl) rfl ?_
    intro w70 hk71 hs72 hb73
    have hz74 := hk71.size
    have hB75 := hB59.new hk71 (by omega)
    refine SR.q' (r_as (v := .bool _) rfl) <| SR.nil ?_
    refine W.ret ?_
    refine retCT rfl rfl agg31 (hb73) rfl (v := .bool _) rfl ?_
    exact ⟨A47, n48, c49, A51, n52, c53, eR (eT2 (eA (eC rfl (eC rfl (eC (eI (by subst hl66 hl68; unfold impl_Library_use; rw [if_pos h36] <;> rfl)) (eC (eI (by subst hl66 hl68; unfold impl_Library_use; rw [if_pos h36] <;> rfl)) (eC (eI (by subst hl66 hl68; unfold impl_Library_use; rw [if_pos h36] <;> rfl)) rfl)))))) (eB (by subst hl66 hl68; unfold impl_Library_use; rw [if_pos h36] <;> rfl))), (SlO.eqv ((hO50).kp hk71 (fun b_ hb e' => hd62 (by have e'' : b_ = g21 := e'; rw [← e'']; exact hb))) (by subst hl66 hl68; unfold impl_Library_use; rw [if_pos h36] <;> rfl)), (SlO.eqv ((hO54).kp hk71 (fun b_ hb e' => hd65 (by have e'' : b_ = g21 := e'; rw [← e'']; exact hb))) (by subst hl66 hl68; unfold impl_Library_use; rw [if_pos h36] <;> rfl)), hd55, (fun b_ h_ => (hN56 b_ h_).elim (fun h => h.elim (fun h => ((show ∀ b_, Ax_Maps = some ⟨b_, 0, none⟩ → (Ax_Maps = some ⟨b_, 0, none⟩ ∨ Ax_Away = some ⟨b_, 0, none⟩) ∨ w.heap.size ≤ b_ from (fun b_ h_ => .inl (.inl h_))) b_ h)) (fun h => ((show ∀ b_, Ax_Away = some ⟨b_, 0, none⟩ → (Ax_Maps = some ⟨b_, 0, none⟩ ∨ Ax_Away = some ⟨b_, 0, none⟩) ∨ w.heap.size ≤ b_ from (fun b_ h_ => .inl (.inr (h_)))) b_ h))) (fun h => .inr (by omega))), (fun b_ h_ => (hN57 b_ h_).elim (fun h => h.elim (fun h => ((show ∀ b_, Ax_Maps = some ⟨b_, 0, none⟩ → (Ax_Maps = some ⟨b_, 0, none⟩ ∨ Ax_Away = some ⟨b_, 0, none⟩) ∨ w.heap.size ≤ b_ from (fun b_ h_ => .inl (.inl h_))) b_ h)) (fun h => ((show ∀ b_, Ax_Away = some ⟨b_, 0, none⟩ → (Ax_Maps = some ⟨b_, 0, none⟩ ∨ Ax_Away = some ⟨b_, 0, none⟩) ∨ w.heap.size ≤ b_ from (fun b_ h_ => .inl (.inr (h_)))) b_ h))) (fun h => .inr (by omega))), hB75⟩
  · refine W.seq ?_
    refine W.regS (SR.q' (r_eq rfl rfl) <| SR.q' (r_as (v := .bool _) rfl) <| SR.nil ?_)
    refine W.cond_d rfl (fun h76 => ?_) (fun h76 => ?_)
    · refine W.seq ?_
      refine W.regS (SR.q' (r_mv (v := .pointer (some _)) rfl) <| SR.q' (r_nilc rfl) <| SR.q' (r_fa fa73_1 rfl) <| SR.q' (r_ld (v := .int .i64 ((gt x.Maps k.toNat).Copies)) sca3 rfl (((hm32).rd).cell hx35 rfl)) <| SR.q' (r_addW rfl rfl) <| SR.q' (r_nilc rfl) <| SR.q' (r_fa fa73_1 rfl) <| SR.storeO (o := 1) (vs := [.int .i64 (IntKind.i64.wrap (((gt x.Maps k.toNat).Copies) + 1))]) (x1 := { (gt x.Maps k.toNat) with Copies := IntKind.i64.wrap (((gt x.Maps k.toNat).Copies) + 1) }) sca3.2 rfl (add_add _ _ _) rfl rfl (hm32) hx35 rfl (Nat.le_of_ble_eq_true rfl) rfl ?_)
      intro w77 hk78 hs79 hO80
      have hz81 := hk78.size
      have hB82 := hB28.step hk78 (fun i_ hi_ e' => by have := ((hm32)).base_le e'; first | omega | (exfalso; omega) | exact e' | exact .inl e' | exact .inr e')
      have hx83 : (x.Maps.set k.toNat ({ (gt x.Maps k.toNat) with Copies := IntKind.i64.wrap (((gt x.Maps k.toNat).Copies) + 1) }))[k.toNat]? = some ({ (gt x.Maps k.toNat) with Copies := IntKind.i64.wrap (((gt x.Maps k.toNat).Copies) + 1) }) := List.getElem?_set_self (List.getElem?_eq_some_iff.1 hx35).1
      refine SR.nil ?_
      refine W.seq ?_
      have hm84 := ((hb16).lo hk24).kp hk78 (fun e' => hd19 e')
      refine W.regA (Kp (fun b_ => Ax_Maps = some ⟨b_, 0, none⟩) w77) (fun f' w' => At f' [(3, .pointer (some ((⟨g1, 0, none⟩ : Addr)))), (4, .pointer (some ((⟨g11, 0, none⟩ : Addr)))), (6, .pointer (some ((⟨g21, 0, none⟩ : Addr)))), (7, .bool false)] ∧ (Kp (fun b_ => Ax_Maps = some ⟨b_, 0, none⟩) w77 w') ∧ (SlO w' Bx_Maps encLMap 3 73 Ax_Maps nx_Maps cx_Maps (x.Maps.set k.toNat ({ ({ (gt x.Maps k.toNat) with Copies := IntKind.i64.wrap (((gt x.Maps k.toNat).Copies) + 1) }) with Torn := IntKind.i64.wrap (((gt x.Maps k.toNat).Torn) + s.Value) }))) ∧ ((x.Maps.set k.toNat ({ ({ (gt x.Maps k.toNat) with Copies := IntKind.i64.wrap (((gt x.Maps k.toNat).Copies) + 1) }) with Torn := IntKind.i64.wrap (((gt x.Maps k.toNat).Torn) + s.Value) }))[k.toNat]? = some ({ ({ (gt x.Maps k.toNat) with Copies := IntKind.i64.wrap (((gt x.Maps k.toNat).Copies) + 1) }) with Torn := IntKind.i64.wrap (((gt x.Maps k.toNat).Torn) + s.Value) }))) mo ?_ ?_
      · intro w96 hk97
        have hz98 := hk97.size
        have hB99 := hB82.lo hk97
        refine AH.take 0 rfl (by kernel_rfl) trivial ((Kp.refl w77 : Kp (fun b_ => Ax_Maps = some ⟨b_, 0, none⟩) w77 w77).lo hk97) (fun w' hw' => r_mv (v := .pointer (some _)) rfl) <| AH.take 1 rfl (by kernel_rfl) trivial ((Kp.refl w77 : Kp (fun b_ => Ax_Maps = some ⟨b_, 0, none⟩) w77 w77).lo hk97) (fun w' hw' => r_nilc rfl) <| AH.take 2 rfl (by kernel_rfl) trivial ((Kp.refl w77 : Kp (fun b_ => Ax_Maps = some ⟨b_, 0, none⟩) w77 w77).lo hk97) (fun w' hw' => r_fa fa73_2 rfl) <| AH.take 4 rfl (by kernel_rfl) trivial ((Kp.refl w77 : Kp (fun b_ => Ax_Maps = some ⟨b_, 0, none⟩) w77 w77).lo hk97) (fun w' hw' => r_fa fa49_3 rfl) <| AH.take 5 rfl (by kernel_rfl) trivial ((Kp.refl w77 : Kp (fun b_ => Ax_Maps = some ⟨b_, 0, none⟩) w77 w77).lo hk97) (fun w' hw' => r_ld (v := .int .i64 s.Value) sca3 rfl (((hm84).kp hw' (fun e' => hd19 e')).cell rfl)) <| AH.br [3] (by kernel_rfl) rfl ⟨Br.mk' rfl trivial ?_, trivial⟩
        refine SR.q' (r_ld (v := .int .i64 ((gt x.Maps k.toNat).Torn)) sca3 rfl ((((hO80).lo hk97).rd).cell hx83 rfl)) ?_
        refine SR.nil ⟨(Kp.refl w77 : Kp (fun b_ => Ax_Maps = some ⟨b_, 0, none⟩) w77 w77).lo hk97, _, rfl, ?_⟩
        refine AH.take 6 rfl (by kernel_rfl) trivial ((Kp.refl w77 : Kp (fun b_ => Ax_Maps = some ⟨b_, 0, none⟩) w77 w77).lo hk97) (fun w' hw' => r_addW rfl rfl) <| AH.take 7 rfl (by kernel_rfl) trivial ((Kp.refl w77 : Kp (fun b_ => Ax_Maps = some ⟨b_, 0, none⟩) w77 w77).lo hk97) (fun w' hw' => r_nilc rfl) <| AH.take 8 rfl (by kernel_rfl) trivial ((Kp.refl w77 : Kp (fun b_ => Ax_Maps = some ⟨b_, 0, none⟩) w77 w77).lo hk97) (fun w' hw' => r_fa fa73_2 rfl) <| AH.br [9] (by kernel_rfl) rfl ⟨Br.mk' rfl trivial ?_, trivial⟩
        refine SR.storeO (o := 2) (vs := [.int .i64 (IntKind.i64.wrap (((gt x.Maps k.toNat).Torn) + s.Value))]) (x1 := { ({ (gt x.Maps k.toNat) with Copies := IntKind.i64.wrap (((gt x.Maps k.toNat).Copies) + 1) }) with Torn := IntKind.i64.wrap (((gt x.Maps k.toNat).Torn) + s.Value) }) sca3.2 rfl (add_add _ _ _) rfl rfl ((hO80).lo hk97) hx83 rfl (Nat.le_of_ble_eq_true rfl) rfl ?_
        intro w100 hk101 hs102 hO103
        have hz104 := hk101.size
        have hB105 := hB99.step hk101 (fun i_ hi_ e' => by have := (((hO80).lo hk97)).base_le e'; first | omega | (exfalso; omega) | exact e' | exact .inl e' | exact .inr e')
        have hS106 := ((Kp.refl w77 : Kp (fun b_ => Ax_Maps = some ⟨b_, 0, none⟩) w77 w77).lo hk97).step hk101 (fun _ _ e => e)
        rw [List.set_set] at hO103
        have hx107 : (x.Maps.set k.toNat ({ ({ (gt x.Maps k.toNat) with Copies := IntKind.i64.wrap (((gt x.Maps k.toNat).Copies) + 1) }) with Torn := IntKind.i64.wrap (((gt x.Maps k.toNat).Torn) + s.Value) }))[k.toNat]? = some ({ ({ (gt x.Maps k.toNat) with Copies := IntKind.i64.wrap (((gt x.Maps k.toNat).Copies) + 1) }) with Torn := IntKind.i64.wrap (((gt x.Maps k.toNat).Torn) + s.Value) }) := List.getElem?_set_self (List.getElem?_eq_some_iff.1 hx35).1
        refine SR.nil ⟨hS106, _, rfl, ?_⟩
        refine AH.done (by kernel_rfl) ?_
        exact ⟨⟨rfl, rfl, rfl, rfl, trivial⟩, hS106, (hO103), hx107⟩
      rintro f109 w110 ⟨hat112, hR111, hm108, hx107⟩
      rw [← sets_of_at hat112]
      have hz113 := hR111.size
      have hB114 := hB82.step hR111 (fun i_ hi_ e' => by have := ((hO80)).base_le e'; first | omega | (exfalso; omega) | exact e' | exact .inl e' | exact .inr e')
      refine W.seq ?_
      have hm115 := ((hm31).kp hk78 (fun e' => hd9 e')).kp hR111 (fun e' => hd9 e')
      have hm116 := ((hm33).kp hk78 (fun b_ hb e' => hdx_Maps_x_Away b_ e' hb)).kp hR111 (fun b_ hb e' => hdx_Maps_x_Away b_ e' hb)
      have hm117 := ((hb26).kp hk78 (fun e' => hd29 e')).kp hR111 (fun e' => hd29 e')
      refine W.regS (SR.q' (r_lda (l := [.slice Ax_Maps nx_Maps cx_Maps, .slice Ax_Away nx_Away cx_Away, .int .i64 x.Bought, .int .i64 x.Dropped, .int .i64 x.Mended]) agg31 rfl (fun _ _ hu => (hm115).cell hu) rfl) <| SR.q' (r_fa fa49_1 rfl) <| SR.q' (r_ld (v := .int .i64 s.Id) sca3 rfl (((hm84).kp hR111 (fun e' => hd19 e')).cell rfl)) <| SR.q' (r_fa fa49_2 rfl) <| SR.q' (r_ld (v := .int .i64 s.Reader) sca3 rfl (((hm84).kp hR111 (fun e' => hd19 e')).cell rfl)) <| SR.call ent109 (c__impl_Library__fetch w110 (⟨x.Maps.set k.toNat ({ ({ (gt x.Maps k.toNat) with Copies := IntKind.i64.wrap (((gt x.Maps k.toNat).Copies) + 1) }) with Torn := IntKind.i64.wrap (((gt x.Maps k.toNat).Torn) + s.Value) }), x.Away, x.Bought, x.Dropped, x.Mended⟩ : Library) (hm108) (hm116) s.Id s.Reader hdx_Maps_x_Away (by omega) (by omega)) rfl ?_)
      rintro e w118 ⟨A120, n121, c122, A124, n125, c126, rfl, hO123, hO127, hd128, hN129, hN130, hk119⟩
      refine ⟨_, rfl, ?_⟩
      have hz131 := hk119.size
      have hB132 := hB114.step hk119 (fun i_ hi_ e' => e'.elim (fun e' => by have := ((hm108)).base_le e'; first | omega | (exfalso; omega) | exact e' | exact .inl e' | exact .inr e') (fun e' => by have := ((hm116)).base_le e'; first | omega | (exfalso; omega) | exact e' | exact .inl e' | exact .inr e'))
      have hd133 : ¬ A120 = some ⟨g1, 0, none⟩ := fun e' => (hN129 g1 e').elim (fun h => h.elim (fun h => hd9 h) (fun h => hd10 h)) (fun h => by have := (hm115).lt; omega)
      have hd134 : ¬ A120 = some ⟨g11, 0, none⟩ := fun e' => (hN129 g11 e').elim (fun h => h.elim (fun h => hd19 h) (fun h => hd20 h)) (fun h => by have := ((hm84).kp hR111 (fun e' => hd19 e')).lt; omega)
      have hd135 : ¬ A120 = some ⟨g21, 0, none⟩ := fun e' => (hN129 g21 e').elim (fun h => h.elim (fun h => hd29 h) (fun h => hd30 h)) (fun h => by have := (hm117).lt; omega)
      have hd136 : ¬ A124 = some ⟨g1, 0, none⟩ := fun e' => (hN130 g1 e').elim (fun h => h.elim (fun h => hd9 h) (fun h => hd10 h)) (fun h => by have := (hm115).lt; omega)
      have hd137 : ¬ A124 = some ⟨g11, 0, none⟩ := fun e' => (hN130 g11 e').elim (fun h => h.elim (fun h => hd19 h) (fun h => hd20 h)) (fun h => by have := ((hm84).kp hR111 (fun e' => hd19 e')).lt; omega)
      have hd138 : ¬ A124 = some ⟨g21, 0, none⟩ := fun e' => (hN130 g21 e').elim (fun h => h.elim (fun h => hd29 h) (fun h => hd30 h)) (fun h => by have := (hm117).lt; omega)
      have hl139 := hO123.len
      have hl140 := hO123.rd.bound
      have hq141 := fetch_lenMaps (⟨x.Maps.set k.toNat ({ ({ (gt x.Maps k.toNat) with Copies := IntKind.i64.wrap (((gt x.Maps k.toNat).Copies) + 1) }) with Torn := IntKind.i64.wrap (((gt x.Maps k.toNat).Torn) + s.Value) }), x.Away, x.Bought, x.Dropped, x.Mended⟩ : Library) s.Id s.Reader
      have hl142 := hO127.len
      have hl143 := hO127.rd.bound
      have hq144 := fetch_lenAway (⟨x.Maps.set k.toNat ({ ({ (gt x.Maps k.toNat) with Copies := IntKind.i64.wrap (((gt x.Maps k.toNat).Copies) + 1) }) with Torn := IntKind.i64.wrap (((gt x.Maps k.toNat).Torn) + s.Value) }), x.Away, x.Bought, x.Dropped, x.Mended⟩ : Library) s.Id s.Reader
      refine SR.q' (r_ext (v := .agg (List.toArray _)) rfl rfl) <| SR.q' (r_ext (v := .bool _) rfl rfl) <| SR.store (o := 0) (vs := [.slice A120 n121 c122, .slice A124 n125 c126, .int .i64 (((impl_Library_fetch (⟨x.Maps.set k.toNat ({ ({ (gt x.Maps k.toNat) with Copies := IntKind.i64.wrap (((gt x.Maps k.toNat).Copies) + 1) }) with Torn := IntKind.i64.wrap (((gt x.Maps k.toNat).Torn) + s.Value) }), x.Away, x.Bought, x.Dropped, x.Mended⟩ : Library) s.Id s.Reader).1).Bought), .int .i64 (((impl_Library_fetch (⟨x.Maps.set k.toNat ({ ({ (gt x.Maps k.toNat) with Copies := IntKind.i64.wrap (((gt x.Maps k.toNat).Copies) + 1) }) with Torn := IntKind.i64.wrap (((gt x.Maps k.toNat).Torn) + s.Value) }), x.Away, x.Bought, x.Dropped, x.Mended⟩ : Library) s.Id s.Reader).1).Dropped), .int .i64 (((impl_Library_fetch (⟨x.Maps.set k.toNat ({ ({ (gt x.Maps k.toNat) with Copies := IntKind.i64.wrap (((gt x.Maps k.toNat).Copies) + 1) }) with Torn := IntKind.i64.wrap (((gt x.Maps k.toNat).Torn) + s.Value) }), x.Away, x.Bought, x.Dropped, x.Mended⟩ : Library) s.Id s.Reader).1).Mended)]) agg31.2 rfl rfl rfl rfl ((hm117).kp hk119 (fun e' => e'.elim (fun e' => hd29 e') (fun e' => hd30 e'))) (Nat.le_of_ble_eq_true rfl) rfl ?_
      intro w145 hk146 hs147 hb148
      have hz149 := hk146.size
      have hB150 := hB132.new hk146 (by omega)
      refine SR.q' (r_as (v := .bool _) rfl) <| SR.nil ?_
      refine W.ret ?_
      refine retCT rfl rfl agg31 (hb148) rfl (v := .bool _) rfl ?_
      exact ⟨A120, n121, c122, A124, n125, c126, eR (eT2 (eA (eC rfl (eC rfl (eC (eI (by subst hl139 hl142; unfold impl_Library_use; rw [if_neg h36, if_pos h76] <;> rfl)) (eC (eI (by subst hl139 hl142; unfold impl_Library_use; rw [if_neg h36, if_pos h76] <;> rfl)) (eC (eI (by subst hl139 hl142; unfold impl_Library_use; rw [if_neg h36, if_pos h76] <;> rfl)) rfl)))))) (eB (by subst hl139 hl142; unfold impl_Library_use; rw [if_neg h36, if_pos h76] <;> rfl))), (SlO.eqv ((hO123).kp hk146 (fun b_ hb e' => hd135 (by have e'' : b_ = g21 := e'; rw [← e'']; exact hb))) (by subst hl139 hl142; unfold impl_Library_use; rw [if_neg h36, if_pos h76] <;> rfl)), (SlO.eqv ((hO127).kp hk146 (fun b_ hb e' => hd138 (by have e'' : b_ = g21 := e'; rw [← e'']; exact hb))) (by subst hl139 hl142; unfold impl_Library_use; rw [if_neg h36, if_pos h76] <;> rfl)), hd128, (fun b_ h_ => (hN129 b_ h_).elim (fun h => h.elim (fun h => ((show ∀ b_, Ax_Maps = some ⟨b_, 0, none⟩ → (Ax_Maps = some ⟨b_, 0, none⟩ ∨ Ax_Away = some ⟨b_, 0, none⟩) ∨ w.heap.size ≤ b_ from (fun b_ h_ => .inl (.inl h_))) b_ h)) (fun h => ((show ∀ b_, Ax_Away = some ⟨b_, 0, none⟩ → (Ax_Maps = some ⟨b_, 0, none⟩ ∨ Ax_Away = some ⟨b_, 0, none⟩) ∨ w.heap.size ≤ b_ from (fun b_ h_ => .inl (.inr (h_)))) b_ h))) (fun h => .inr (by omega))), (fun b_ h_ => (hN130 b_ h_).elim (fun h => h.elim (fun h => ((show ∀ b_, Ax_Maps = some ⟨b_, 0, none⟩ → (Ax_Maps = some ⟨b_, 0, none⟩ ∨ Ax_Away = some ⟨b_, 0, none⟩) ∨ w.heap.size ≤ b_ from (fun b_ h_ => .inl (.inl h_))) b_ h)) (fun h => ((show ∀ b_, Ax_Away = some ⟨b_, 0, none⟩ → (Ax_Maps = some ⟨b_, 0, none⟩ ∨ Ax_Away = some ⟨b_, 0, none⟩) ∨ w.heap.size ≤ b_ from (fun b_ h_ => .inl (.inr (h_)))) b_ h))) (fun h => .inr (by omega))), hB150⟩
    · refine W.seq ?_
      refine W.regS (SR.q' (r_eq rfl rfl) <| SR.q' (r_as (v := .bool _) rfl) <| SR.nil ?_)
      refine W.cond_d rfl (fun h151 => ?_) (fun h151 => ?_)
      · refine W.seq ?_
        refine W.regS (SR.q' (r_lda (l := [.slice Ax_Maps nx_Maps cx_Maps, .slice Ax_Away nx_Away cx_Away, .int .i64 x.Bought, .int .i64 x.Dropped, .int .i64 x.Mended]) agg31 rfl (fun _ _ hu => (hm31).cell hu) rfl) <| SR.q' (r_lda (l := [.int .i64 s.Kind, .int .i64 s.Id, .int .i64 s.Reader, .int .i64 s.Value]) agg49 rfl (fun _ _ hu => ((hb16).lo hk24).cell hu) rfl) <| SR.call ent110 (c__impl_Library__hand w22 x (hm32) (hm33) s hdx_Maps_x_Away (by omega) (by omega)) rfl ?_)
        rintro e w152 ⟨A154, n155, c156, A158, n159, c160, rfl, hO157, hO161, hd162, hN163, hN164, hk153⟩
        refine ⟨_, rfl, ?_⟩
        have hz165 := hk153.size
        have hB166 := hB28.step hk153 (fun i_ hi_ e' => e'.elim (fun e' => by have := ((hm32)).base_le e'; first | omega | (exfalso; omega) | exact e' | exact .inl e' | exact .inr e') (fun e' => by have := ((hm33)).base_le e'; first | omega | (exfalso; omega) | exact e' | exact .inl e' | exact .inr e'))
        have hd167 : ¬ A154 = some ⟨g1, 0, none⟩ := fun e' => (hN163 g1 e').elim (fun h => h.elim (fun h => hd9 h) (fun h => hd10 h)) (fun h => by have := (hm31).lt; omega)
        have hd168 : ¬ A154 = some ⟨g11, 0, none⟩ := fun e' => (hN163 g11 e').elim (fun h => h.elim (fun h => hd19 h) (fun h => hd20 h)) (fun h => by have := ((hb16).lo hk24).lt; omega)
        have hd169 : ¬ A154 = some ⟨g21, 0, none⟩ := fun e' => (hN163 g21 e').elim (fun h => h.elim (fun h => hd29 h) (fun h => hd30 h)) (fun h => by have := (hb26).lt; omega)
        have hd170 : ¬ A158 = some ⟨g1, 0, none⟩ := fun e' => (hN164 g1 e').elim (fun h => h.elim (fun h => hd9 h) (fun h => hd10 h)) (fun h => by have := (hm31).lt; omega)
        have hd171 : ¬ A158 = some ⟨g11, 0, none⟩ := fun e' => (hN164 g11 e').elim (fun h => h.elim (fun h => hd19 h) (fun h => hd20 h)) (fun h => by have := ((hb16).lo hk24).lt; omega)
        have hd172 : ¬ A158 = some ⟨g21, 0, none⟩ := fun e' => (hN164 g21 e').elim (fun h => h.elim (fun h => hd29 h) (fun h => hd30 h)) (fun h => by have := (hb26).lt; omega)
        have hl173 := hO157.len
        have hl174 := hO157.rd.bound
        have hl175 := hO161.len
        have hl176 := hO161.rd.bound
        refine SR.q' (r_ext (v := .agg (List.toArray _)) rfl rfl) <| SR.q' (r_ext (v := .bool _) rfl rfl) <| SR.store (o := 0) (vs := [.slice A154 n155 c156, .slice A158 n159 c160, .int .i64 (((impl_Library_hand x s).1).Bought), .int .i64 (((impl_Library_hand x s).1).Dropped), .int .i64 (((impl_Library_hand x s).1).Mended)]) agg31.2 rfl rfl rfl rfl ((hb26).kp hk153 (fun e' => e'.elim (fun e' => hd29 e') (fun e' => hd30 e'))) (Nat.le_of_ble_eq_true rfl) rfl ?_
        intro w177 hk178 hs179 hb180
        have hz181 := hk178.size
        have hB182 := hB166.new hk178 (by omega)
        refine SR.q' (r_as (v := .bool _) rfl) <| SR.nil ?_
        refine W.ret ?_
        refine retCT rfl rfl agg31 (hb180) rfl (v := .bool _) rfl ?_
        exact ⟨A154, n155, c156, A158, n159, c160, eR (eT2 (eA (eC rfl (eC rfl (eC (eI (by subst hl173 hl175; unfold impl_Library_use; rw [if_neg h36, if_neg h76, if_pos h151] <;> rfl)) (eC (eI (by subst hl173 hl175; unfold impl_Library_use; rw [if_neg h36, if_neg h76, if_pos h151] <;> rfl)) (eC (eI (by subst hl173 hl175; unfold impl_Library_use; rw [if_neg h36, if_neg h76, if_pos h151] <;> rfl)) rfl)))))) (eB (by subst hl173 hl175; unfold impl_Library_use; rw [if_neg h36, if_neg h76, if_pos h151] <;> rfl))), (SlO.eqv ((hO157).kp hk178 (fun b_ hb e' => hd169 (by have e'' : b_ = g21 := e'; rw [← e'']; exact hb))) (by subst hl173 hl175; unfold impl_Library_use; rw [if_neg h36, if_neg h76, if_pos h151] <;> rfl)), (SlO.eqv ((hO161).kp hk178 (fun b_ hb e' => hd172 (by have e'' : b_ = g21 := e'; rw [← e'']; exact hb))) (by subst hl173 hl175; unfold impl_Library_use; rw [if_neg h36, if_neg h76, if_pos h151] <;> rfl)), hd162, (fun b_ h_ => (hN163 b_ h_).elim (fun h => h.elim (fun h => ((show ∀ b_, Ax_Maps = some ⟨b_, 0, none⟩ → (Ax_Maps = some ⟨b_, 0, none⟩ ∨ Ax_Away = some ⟨b_, 0, none⟩) ∨ w.heap.size ≤ b_ from (fun b_ h_ => .inl (.inl h_))) b_ h)) (fun h => ((show ∀ b_, Ax_Away = some ⟨b_, 0, none⟩ → (Ax_Maps = some ⟨b_, 0, none⟩ ∨ Ax_Away = some ⟨b_, 0, none⟩) ∨ w.heap.size ≤ b_ from (fun b_ h_ => .inl (.inr (h_)))) b_ h))) (fun h => .inr (by omega))), (fun b_ h_ => (hN164 b_ h_).elim (fun h => h.elim (fun h => ((show ∀ b_, Ax_Maps = some ⟨b_, 0, none⟩ → (Ax_Maps = some ⟨b_, 0, none⟩ ∨ Ax_Away = some ⟨b_, 0, none⟩) ∨ w.heap.size ≤ b_ from (fun b_ h_ => .inl (.inl h_))) b_ h)) (fun h => ((show ∀ b_, Ax_Away = some ⟨b_, 0, none⟩ → (Ax_Maps = some ⟨b_, 0, none⟩ ∨ Ax_Away = some ⟨b_, 0, none⟩) ∨ w.heap.size ≤ b_ from (fun b_ h_ => .inl (.inr (h_)))) b_ h))) (fun h => .inr (by omega))), hB182⟩
      · refine W.seq ?_
        refine W.regS (SR.q' (r_eq rfl rfl) <| SR.q' (r_as (v := .bool _) rfl) <| SR.nil ?_)
        refine W.cond_d rfl (fun h183 => ?_) (fun h183 => ?_)
        · refine W.seq ?_
          refine W.regA (Kp (fun b_ => Ax_Maps = some ⟨b_, 0, none⟩) w22) (fun f' w' => At f' [(3, .pointer (some ((⟨g1, 0, none⟩ : Addr)))), (4, .pointer (some ((⟨g11, 0, none⟩ : Addr)))), (6, .pointer (some ((⟨g21, 0, none⟩ : Addr)))), (7, .bool false)] ∧ (Kp (fun b_ => Ax_Maps = some ⟨b_, 0, none⟩) w22 w') ∧ (SlO w' Bx_Maps encLMap 3 73 Ax_Maps nx_Maps cx_Maps (x.Maps.set k.toNat ({ (gt x.Maps k.toNat) with Torn := IntKind.i64.wrap (((gt x.Maps k.toNat).Torn) - s.Value) }))) ∧ ((x.Maps.set k.toNat ({ (gt x.Maps k.toNat) with Torn := IntKind.i64.wrap (((gt x.Maps k.toNat).Torn) - s.Value) }))[k.toNat]? = some ({ (gt x.Maps k.toNat) with Torn := IntKind.i64.wrap (((gt x.Maps k.toNat).Torn) - s.Value) }))) mo ?_ ?_
          · intro w195 hk196
            have hz197 := hk196.size
            have hB198 := hB28.lo hk196
            refine AH.take 0 rfl (by kernel_rfl) trivial ((Kp.refl w22 : Kp (fun b_ => Ax_Maps = some ⟨b_, 0, none⟩) w22 w22).lo hk196) (fun w' hw' => r_mv (v := .pointer (some _)) rfl) <| AH.take 1 rfl (by kernel_rfl) trivial ((Kp.refl w22 : Kp (fun b_ => Ax_Maps = some ⟨b_, 0, none⟩) w22 w22).lo hk196) (fun w' hw' => r_nilc rfl) <| AH.take 2 rfl (by kernel_rfl) trivial ((Kp.refl w22 : Kp (fun b_ => Ax_Maps = some ⟨b_, 0, none⟩) w22 w22).lo hk196) (fun w' hw' => r_fa fa73_2 rfl) <| AH.take 4 rfl (by kernel_rfl) trivial ((Kp.refl w22 : Kp (fun b_ => Ax_Maps = some ⟨b_, 0, none⟩) w22 w22).lo hk196) (fun w' hw' => r_fa fa49_3 rfl) <| AH.take 5 rfl (by kernel_rfl) trivial ((Kp.refl w22 : Kp (fun b_ => Ax_Maps = some ⟨b_, 0, none⟩) w22 w22).lo hk196) (fun w' hw' => r_ld (v := .int .i64 s.Value) sca3 rfl ((((hb16).lo hk24).kp hw' (fun e' => hd19 e')).cell rfl)) <| AH.br [3] (by kernel_rfl) rfl ⟨Br.mk' rfl trivial ?_, trivial⟩
            refine SR.q' (r_ld (v := .int .i64 ((gt x.Maps k.toNat).Torn)) sca3 rfl ((((hm32).lo hk196).rd).cell hx35 rfl)) ?_
            refine SR.nil ⟨(Kp.refl w22 : Kp (fun b_ => Ax_Maps = some ⟨b_, 0, none⟩) w22 w22).lo hk196, _, rfl, ?_⟩
            refine AH.take 6 rfl (by kernel_rfl) trivial ((Kp.refl w22 : Kp (fun b_ => Ax_Maps = some ⟨b_, 0, none⟩) w22 w22).lo hk196) (fun w' hw' => r_subW rfl rfl) <| AH.take 7 rfl (by kernel_rfl) trivial ((Kp.refl w22 : Kp (fun b_ => Ax_Maps = some ⟨b_, 0, none⟩) w22 w22).lo hk196) (fun w' hw' => r_nilc rfl) <| AH.take 8 rfl (by kernel_rfl) trivial ((Kp.refl w22 : Kp (fun b_ => Ax_Maps = some ⟨b_, 0, none⟩) w22 w22).lo hk196) (fun w' hw' => r_fa fa73_2 rfl) <| AH.br [9] (by kernel_rfl) rfl ⟨Br.mk' rfl trivial ?_, trivial⟩
            refine SR.storeO (o := 2) (vs := [.int .i64 (IntKind.i64.wrap (((gt x.Maps k.toNat).Torn) - s.Value))]) (x1 := { (gt x.Maps k.toNat) with Torn := IntKind.i64.wrap (((gt x.Maps k.toNat).Torn) - s.Value) }) sca3.2 rfl (add_add _ _ _) rfl rfl ((hm32).lo hk196) hx35 rfl (Nat.le_of_ble_eq_true rfl) rfl ?_
            intro w199 hk200 hs201 hO202
            have hz203 := hk200.size
            have hB204 := hB198.step hk200 (fun i_ hi_ e' => by have := (((hm32).lo hk196)).base_le e'; first | omega | (exfalso; omega) | exact e' | exact .inl e' | exact .inr e')
            have hS205 := ((Kp.refl w22 : Kp (fun b_ => Ax_Maps = some ⟨b_, 0, none⟩) w22 w22).lo hk196).step hk200 (fun _ _ e => e)
            have hx206 : (x.Maps.set k.toNat ({ (gt x.Maps k.toNat) with Torn := IntKind.i64.wrap (((gt x.Maps k.toNat).Torn) - s.Value) }))[k.toNat]? = some ({ (gt x.Maps k.toNat) with Torn := IntKind.i64.wrap (((gt x.Maps k.toNat).Torn) - s.Value) }) := List.getElem?_set_self (List.getElem?_eq_some_iff.1 hx35).1
            refine SR.nil ⟨hS205, _, rfl, ?_⟩
            refine AH.done (by kernel_rfl) ?_
            exact ⟨⟨rfl, rfl, rfl, rfl, trivial⟩, hS205, (hO202), hx206⟩
          rintro f208 w209 ⟨hat211, hR210, hm207, hx206⟩
          rw [← sets_of_at hat211]
          have hz212 := hR210.size
          have hB213 := hB28.step hR210 (fun i_ hi_ e' => by have := ((hm32)).base_le e'; first | omega | (exfalso; omega) | exact e' | exact .inl e' | exact .inr e')
          have hm214 := ((hb16).lo hk24).kp hR210 (fun e' => hd19 e')
          refine W.regS (SR.q' (r_fa fa31_4 rfl) <| SR.q' (r_ld (v := .int .i64 x.Mended) sca3 rfl (((hm31).kp hR210 (fun e' => hd9 e')).cell rfl)) <| SR.q' (r_fa fa49_3 rfl) <| SR.q' (r_ld (v := .int .i64 s.Value) sca3 rfl ((hm214).cell rfl)) <| SR.q' (r_addW rfl rfl) <| SR.q' (r_fa fa31_4 rfl) <| SR.store (o := 4) (vs := [.int .i64 (IntKind.i64.wrap (x.Mended + s.Value))]) sca3.2 rfl rfl rfl rfl ((hm31).kp hR210 (fun e' => hd9 e')) (Nat.le_of_ble_eq_true rfl) rfl ?_)
          intro w215 hk216 hs217 hb218
          have hz219 := hk216.size
          have hB220 := hB213.new hk216 (by omega)
          refine SR.nil ?_
          refine W.seq ?_
          have hm221 := ((hm33).kp hR210 (fun b_ hb e' => hdx_Maps_x_Away b_ e' hb)).kp hk216 (fun b_ hb e' => hd10 (by have e'' : b_ = g1 := e'; rw [← e'']; exact hb))
          have hm222 := ((hb26).kp hR210 (fun e' => hd29 e')).kp hk216 (fun e' => by have e'' : g21 = g1 := e'; omega)
          refine W.regS (SR.q' (r_lda (l := [.slice Ax_Maps nx_Maps cx_Maps, .slice Ax_Away nx_Away cx_Away, .int .i64 x.Bought, .int .i64 x.Dropped, .int .i64 (IntKind.i64.wrap (x.Mended + s.Value))]) agg31 rfl (fun _ _ hu => (hb218).cell hu) rfl) <| SR.store (o := 0) (vs := [.slice Ax_Maps nx_Maps cx_Maps, .slice Ax_Away nx_Away cx_Away, .int .i64 x.Bought, .int .i64 x.Dropped, .int .i64 (IntKind.i64.wrap (x.Mended + s.Value))]) agg31.2 rfl rfl rfl rfl (hm222) (Nat.le_of_ble_eq_true rfl) rfl ?_)
          intro w223 hk224 hs225 hb226
          have hz227 := hk224.size
          have hB228 := hB220.new hk224 (by omega)
          refine SR.q' (r_as (v := .bool true) rfl) <| SR.nil ?_
          refine W.ret ?_
          refine retCT rfl rfl agg31 (hb226) rfl (v := .bool _) rfl ?_
          exact ⟨Ax_Maps, nx_Maps, cx_Maps, Ax_Away, nx_Away, cx_Away, eR (eT2 (eA (eC rfl (eC rfl (eC (eI (by subst hlex_Maps hlex_Away; unfold impl_Library_use; rw [if_neg h36, if_neg h76, if_neg h151, if_pos h183] <;> rfl)) (eC (eI (by subst hlex_Maps hlex_Away; unfold impl_Library_use; rw [if_neg h36, if_neg h76, if_neg h151, if_pos h183] <;> rfl)) (eC (eI (by subst hlex_Maps hlex_Away; unfold impl_Library_use; rw [if_neg h36, if_neg h76, if_neg h151, if_pos h183] <;> rfl)) rfl)))))) (eB (by subst hlex_Maps hlex_Away; unfold impl_Library_use; rw [if_neg h36, if_neg h76, if_neg h151, if_pos h183] <;> rfl))), (SlO.eqv (((hm207).kp hk216 (fun b_ hb e' => hd9 (by have e'' : b_ = g1 := e'; rw [← e'']; exact hb))).kp hk224 (fun b_ hb e' => hd29 (by have e'' : b_ = g21 := e'; rw [← e'']; exact hb))) (by subst hlex_Maps hlex_Away; unfold impl_Library_use; rw [if_neg h36, if_neg h76, if_neg h151, if_pos h183] <;> rfl)), (SlO.eqv ((hm221).kp hk224 (fun b_ hb e' => hd30 (by have e'' : b_ = g21 := e'; rw [← e'']; exact hb))) (by subst hlex_Maps hlex_Away; unfold impl_Library_use; rw [if_neg h36, if_neg h76, if_neg h151, if_pos h183] <;> rfl)), hdx_Maps_x_Away, (fun b_ h_ => .inl (.inl h_)), (fun b_ h_ => .inl (.inr (h_))), hB228⟩
        · refine W.seq ?_
          refine W.regS (SR.q' (r_eq rfl rfl) <| SR.q' (r_as (v := .bool _) rfl) <| SR.nil ?_)
          refine W.cond_d rfl (fun h229 => ?_) (fun h229 => ?_)
          · refine W.seq ?_
            refine W.regA (Kp (fun b_ => Ax_Maps = some ⟨b_, 0, none⟩) w22) (fun f' w' => At f' [(3, .pointer (some ((⟨g1, 0, none⟩ : Addr)))), (4, .pointer (some ((⟨g11, 0, none⟩ : Addr)))), (6, .pointer (some ((⟨g21, 0, none⟩ : Addr)))), (7, .bool false), (8, .pointer (some ((adr Ax_Maps).add (k.toNat * 3))))] ∧ (Kp (fun b_ => Ax_Maps = some ⟨b_, 0, none⟩) w22 w') ∧ (SlO w' Bx_Maps encLMap 3 73 Ax_Maps nx_Maps cx_Maps (x.Maps.set k.toNat ({ (gt x.Maps k.toNat) with Torn := IntKind.i64.wrap (((gt x.Maps k.toNat).Torn) - s.Value) }))) ∧ ((x.Maps.set k.toNat ({ (gt x.Maps k.toNat) with Torn := IntKind.i64.wrap (((gt x.Maps k.toNat).Torn) - s.Value) }))[k.toNat]? = some ({ (gt x.Maps k.toNat) with Torn := IntKind.i64.wrap (((gt x.Maps k.toNat).Torn) - s.Value) }))) mo ?_ ?_
            · intro w241 hk242
              have hz243 := hk242.size
              have hB244 := hB28.lo hk242
              refine AH.take 0 rfl (by kernel_rfl) trivial ((Kp.refl w22 : Kp (fun b_ => Ax_Maps = some ⟨b_, 0, none⟩) w22 w22).lo hk242) (fun w' hw' => r_mv (v := .pointer (some _)) rfl) <| AH.take 1 rfl (by kernel_rfl) trivial ((Kp.refl w22 : Kp (fun b_ => Ax_Maps = some ⟨b_, 0, none⟩) w22 w22).lo hk242) (fun w' hw' => r_nilc rfl) <| AH.take 2 rfl (by kernel_rfl) trivial ((Kp.refl w22 : Kp (fun b_ => Ax_Maps = some ⟨b_, 0, none⟩) w22 w22).lo hk242) (fun w' hw' => r_fa fa73_2 rfl) <| AH.take 4 rfl (by kernel_rfl) trivial ((Kp.refl w22 : Kp (fun b_ => Ax_Maps = some ⟨b_, 0, none⟩) w22 w22).lo hk242) (fun w' hw' => r_fa fa49_3 rfl) <| AH.take 5 rfl (by kernel_rfl) trivial ((Kp.refl w22 : Kp (fun b_ => Ax_Maps = some ⟨b_, 0, none⟩) w22 w22).lo hk242) (fun w' hw' => r_ld (v := .int .i64 s.Value) sca3 rfl ((((hb16).lo hk24).kp hw' (fun e' => hd19 e')).cell rfl)) <| AH.br [3] (by kernel_rfl) rfl ⟨Br.mk' rfl trivial ?_, trivial⟩
              refine SR.q' (r_ld (v := .int .i64 ((gt x.Maps k.toNat).Torn)) sca3 rfl ((((hm32).lo hk242).rd).cell hx35 rfl)) ?_
              refine SR.nil ⟨(Kp.refl w22 : Kp (fun b_ => Ax_Maps = some ⟨b_, 0, none⟩) w22 w22).lo hk242, _, rfl, ?_⟩
              refine AH.take 6 rfl (by kernel_rfl) trivial ((Kp.refl w22 : Kp (fun b_ => Ax_Maps = some ⟨b_, 0, none⟩) w22 w22).lo hk242) (fun w' hw' => r_subW rfl rfl) <| AH.take 7 rfl (by kernel_rfl) trivial ((Kp.refl w22 : Kp (fun b_ => Ax_Maps = some ⟨b_, 0, none⟩) w22 w22).lo hk242) (fun w' hw' => r_nilc rfl) <| AH.take 8 rfl (by kernel_rfl) trivial ((Kp.refl w22 : Kp (fun b_ => Ax_Maps = some ⟨b_, 0, none⟩) w22 w22).lo hk242) (fun w' hw' => r_fa fa73_2 rfl) <| AH.br [9] (by kernel_rfl) rfl ⟨Br.mk' rfl trivial ?_, trivial⟩
              refine SR.storeO (o := 2) (vs := [.int .i64 (IntKind.i64.wrap (((gt x.Maps k.toNat).Torn) - s.Value))]) (x1 := { (gt x.Maps k.toNat) with Torn := IntKind.i64.wrap (((gt x.Maps k.toNat).Torn) - s.Value) }) sca3.2 rfl (add_add _ _ _) rfl rfl ((hm32).lo hk242) hx35 rfl (Nat.le_of_ble_eq_true rfl) rfl ?_
              intro w245 hk246 hs247 hO248
              have hz249 := hk246.size
              have hB250 := hB244.step hk246 (fun i_ hi_ e' => by have := (((hm32).lo hk242)).base_le e'; first | omega | (exfalso; omega) | exact e' | exact .inl e' | exact .inr e')
              have hS251 := ((Kp.refl w22 : Kp (fun b_ => Ax_Maps = some ⟨b_, 0, none⟩) w22 w22).lo hk242).step hk246 (fun _ _ e => e)
              have hx252 : (x.Maps.set k.toNat ({ (gt x.Maps k.toNat) with Torn := IntKind.i64.wrap (((gt x.Maps k.toNat).Torn) - s.Value) }))[k.toNat]? = some ({ (gt x.Maps k.toNat) with Torn := IntKind.i64.wrap (((gt x.Maps k.toNat).Torn) - s.Value) }) := List.getElem?_set_self (List.getElem?_eq_some_iff.1 hx35).1
              refine SR.nil ⟨hS251, _, rfl, ?_⟩
              refine AH.done (by kernel_rfl) ?_
              exact ⟨⟨rfl, rfl, rfl, rfl, rfl, trivial⟩, hS251, (hO248), hx252⟩
            rintro f254 w255 ⟨hat257, hR256, hm253, hx252⟩
            rw [← sets_of_at hat257]
            have hz258 := hR256.size
            have hB259 := hB28.step hR256 (fun i_ hi_ e' => by have := ((hm32)).base_le e'; first | omega | (exfalso; omega) | exact e' | exact .inl e' | exact .inr e')
            refine W.seq ?_
            have hm260 := ((hb16).lo hk24).kp hR256 (fun e' => hd19 e')
            refine W.regA (Kp (fun b_ => Ax_Maps = some ⟨b_, 0, none⟩) w255) (fun f' w' => At f' [(3, .pointer (some ((⟨g1, 0, none⟩ : Addr)))), (4, .pointer (some ((⟨g11, 0, none⟩ : Addr)))), (6, .pointer (some ((⟨g21, 0, none⟩ : Addr)))), (7, .bool false)] ∧ (Kp (fun b_ => Ax_Maps = some ⟨b_, 0, none⟩) w255 w') ∧ (SlO w' Bx_Maps encLMap 3 73 Ax_Maps nx_Maps cx_Maps ((x.Maps.set k.toNat ({ (gt x.Maps k.toNat) with Torn := IntKind.i64.wrap (((gt x.Maps k.toNat).Torn) - s.Value) })).set k.toNat ({ ({ (gt x.Maps k.toNat) with Torn := IntKind.i64.wrap (((gt x.Maps k.toNat).Torn) - s.Value) }) with Copies := IntKind.i64.wrap (((gt x.Maps k.toNat).Copies) - s.Value) }))) ∧ (((x.Maps.set k.toNat ({ (gt x.Maps k.toNat) with Torn := IntKind.i64.wrap (((gt x.Maps k.toNat).Torn) - s.Value) })).set k.toNat ({ ({ (gt x.Maps k.toNat) with Torn := IntKind.i64.wrap (((gt x.Maps k.toNat).Torn) - s.Value) }) with Copies := IntKind.i64.wrap (((gt x.Maps k.toNat).Copies) - s.Value) }))[k.toNat]? = some ({ ({ (gt x.Maps k.toNat) with Torn := IntKind.i64.wrap (((gt x.Maps k.toNat).Torn) - s.Value) }) with Copies := IntKind.i64.wrap (((gt x.Maps k.toNat).Copies) - s.Value) }))) mo ?_ ?_
            · intro w272 hk273
              have hz274 := hk273.size
              have hB275 := hB259.lo hk273
              refine AH.take 0 rfl (by kernel_rfl) trivial ((Kp.refl w255 : Kp (fun b_ => Ax_Maps = some ⟨b_, 0, none⟩) w255 w255).lo hk273) (fun w' hw' => r_mv (v := .pointer (some _)) rfl) <| AH.take 1 rfl (by kernel_rfl) trivial ((Kp.refl w255 : Kp (fun b_ => Ax_Maps = some ⟨b_, 0, none⟩) w255 w255).lo hk273) (fun w' hw' => r_nilc rfl) <| AH.take 2 rfl (by kernel_rfl) trivial ((Kp.refl w255 : Kp (fun b_ => Ax_Maps = some ⟨b_, 0, none⟩) w255 w255).lo hk273) (fun w' hw' => r_fa fa73_1 rfl) <| AH.take 4 rfl (by kernel_rfl) trivial ((Kp.refl w255 : Kp (fun b_ => Ax_Maps = some ⟨b_, 0, none⟩) w255 w255).lo hk273) (fun w' hw' => r_fa fa49_3 rfl) <| AH.take 5 rfl (by kernel_rfl) trivial ((Kp.refl w255 : Kp (fun b_ => Ax_Maps = some ⟨b_, 0, none⟩) w255 w255).lo hk273) (fun w' hw' => r_ld (v := .int .i64 s.Value) sca3 rfl (((hm260).kp hw' (fun e' => hd19 e')).cell rfl)) <| AH.br [3] (by kernel_rfl) rfl ⟨Br.mk' rfl trivial ?_, trivial⟩
              refine SR.q' (r_ld (v := .int .i64 ((gt x.Maps k.toNat).Copies)) sca3 rfl ((((hm253).lo hk273).rd).cell hx252 rfl)) ?_
              refine SR.nil ⟨(Kp.refl w255 : Kp (fun b_ => Ax_Maps = some ⟨b_, 0, none⟩) w255 w255).lo hk273, _, rfl, ?_⟩
              refine AH.take 6 rfl (by kernel_rfl) trivial ((Kp.refl w255 : Kp (fun b_ => Ax_Maps = some ⟨b_, 0, none⟩) w255 w255).lo hk273) (fun w' hw' => r_subW rfl rfl) <| AH.take 7 rfl (by kernel_rfl) trivial ((Kp.refl w255 : Kp (fun b_ => Ax_Maps = some ⟨b_, 0, none⟩) w255 w255).lo hk273) (fun w' hw' => r_nilc rfl) <| AH.take 8 rfl (by kernel_rfl) trivial ((Kp.refl w255 : Kp (fun b_ => Ax_Maps = some ⟨b_, 0, none⟩) w255 w255).lo hk273) (fun w' hw' => r_fa fa73_1 rfl) <| AH.br [9] (by kernel_rfl) rfl ⟨Br.mk' rfl trivial ?_, trivial⟩
              refine SR.storeO (o := 1) (vs := [.int .i64 (IntKind.i64.wrap (((gt x.Maps k.toNat).Copies) - s.Value))]) (x1 := { ({ (gt x.Maps k.toNat) with Torn := IntKind.i64.wrap (((gt x.Maps k.toNat).Torn) - s.Value) }) with Copies := IntKind.i64.wrap (((gt x.Maps k.toNat).Copies) - s.Value) }) sca3.2 rfl (add_add _ _ _) rfl rfl ((hm253).lo hk273) hx252 rfl (Nat.le_of_ble_eq_true rfl) rfl ?_
              intro w276 hk277 hs278 hO279
              have hz280 := hk277.size
              have hB281 := hB275.step hk277 (fun i_ hi_ e' => by have := (((hm253).lo hk273)).base_le e'; first | omega | (exfalso; omega) | exact e' | exact .inl e' | exact .inr e')
              have hS282 := ((Kp.refl w255 : Kp (fun b_ => Ax_Maps = some ⟨b_, 0, none⟩) w255 w255).lo hk273).step hk277 (fun _ _ e => e)
              have hx283 : ((x.Maps.set k.toNat ({ (gt x.Maps k.toNat) with Torn := IntKind.i64.wrap (((gt x.Maps k.toNat).Torn) - s.Value) })).set k.toNat ({ ({ (gt x.Maps k.toNat) with Torn := IntKind.i64.wrap (((gt x.Maps k.toNat).Torn) - s.Value) }) with Copies := IntKind.i64.wrap (((gt x.Maps k.toNat).Copies) - s.Value) }))[k.toNat]? = some ({ ({ (gt x.Maps k.toNat) with Torn := IntKind.i64.wrap (((gt x.Maps k.toNat).Torn) - s.Value) }) with Copies := IntKind.i64.wrap (((gt x.Maps k.toNat).Copies) - s.Value) }) := List.getElem?_set_self (List.getElem?_eq_some_iff.1 hx252).1
              refine SR.nil ⟨hS282, _, rfl, ?_⟩
              refine AH.done (by kernel_rfl) ?_
              exact ⟨⟨rfl, rfl, rfl, rfl, trivial⟩, hS282, (hO279), hx283⟩
            rintro f285 w286 ⟨hat288, hR287, hm284, hx283⟩
            rw [← sets_of_at hat288]
            have hz289 := hR287.size
            have hB290 := hB259.step hR287 (fun i_ hi_ e' => by have := ((hm253)).base_le e'; first | omega | (exfalso; omega) | exact e' | exact .inl e' | exact .inr e')
            have hm291 := ((hm31).kp hR256 (fun e' => hd9 e')).kp hR287 (fun e' => hd9 e')
            have hm292 := ((hm33).kp hR256 (fun b_ hb e' => hdx_Maps_x_Away b_ e' hb)).kp hR287 (fun b_ hb e' => hdx_Maps_x_Away b_ e' hb)
            have hm293 := ((hb26).kp hR256 (fun e' => hd29 e')).kp hR287 (fun e' => hd29 e')
            refine W.regS (SR.q' (r_fa fa31_3 rfl) <| SR.q' (r_ld (v := .int .i64 x.Dropped) sca3 rfl ((hm291).cell rfl)) <| SR.q' (r_fa fa49_3 rfl) <| SR.q' (r_ld (v := .int .i64 s.Value) sca3 rfl (((hm260).kp hR287 (fun e' => hd19 e')).cell rfl)) <| SR.q' (r_addW rfl rfl) <| SR.q' (r_fa fa31_3 rfl) <| SR.store (o := 3) (vs := [.int .i64 (IntKind.i64.wrap (x.Dropped + s.Value))]) sca3.2 rfl rfl rfl rfl (hm291) (Nat.le_of_ble_eq_true rfl) rfl ?_)
            intro w294 hk295 hs296 hb297
            have hz298 := hk295.size
            have hB299 := hB290.new hk295 (by omega)
            refine SR.nil ?_
            refine W.seq ?_
            refine W.regS (SR.q' (r_lda (l := [.slice Ax_Maps nx_Maps cx_Maps, .slice Ax_Away nx_Away cx_Away, .int .i64 x.Bought, .int .i64 (IntKind.i64.wrap (x.Dropped + s.Value)), .int .i64 x.Mended]) agg31 rfl (fun _ _ hu => (hb297).cell hu) rfl) <| SR.store (o := 0) (vs := [.slice Ax_Maps nx_Maps cx_Maps, .slice Ax_Away nx_Away cx_Away, .int .i64 x.Bought, .int .i64 (IntKind.i64.wrap (x.Dropped + s.Value)), .int .i64 x.Mended]) agg31.2 rfl rfl rfl rfl ((hm293).kp hk295 (fun e' => by have e'' : g21 = g1 := e'; omega)) (Nat.le_of_ble_eq_true rfl) rfl ?_)
            intro w300 hk301 hs302 hb303
            have hz304 := hk301.size
            have hB305 := hB299.new hk301 (by omega)
            refine SR.q' (r_as (v := .bool true) rfl) <| SR.nil ?_
            refine W.ret ?_
            refine retCT rfl rfl agg31 (hb303) rfl (v := .bool _) rfl ?_
            exact ⟨Ax_Maps, nx_Maps, cx_Maps, Ax_Away, nx_Away, cx_Away, eR (eT2 (eA (eC rfl (eC rfl (eC (eI (by subst hlex_Maps hlex_Away; unfold impl_Library_use; rw [if_neg h36, if_neg h76, if_neg h151, if_neg h183, if_pos h229] <;> rfl)) (eC (eI (by subst hlex_Maps hlex_Away; unfold impl_Library_use; rw [if_neg h36, if_neg h76, if_neg h151, if_neg h183, if_pos h229] <;> rfl)) (eC (eI (by subst hlex_Maps hlex_Away; unfold impl_Library_use; rw [if_neg h36, if_neg h76, if_neg h151, if_neg h183, if_pos h229] <;> rfl)) rfl)))))) (eB (by subst hlex_Maps hlex_Away; unfold impl_Library_use; rw [if_neg h36, if_neg h76, if_neg h151, if_neg h183, if_pos h229] <;> rfl))), (SlO.eqv (((hm284).kp hk295 (fun b_ hb e' => hd9 (by have e'' : b_ = g1 := e'; rw [← e'']; exact hb))).kp hk301 (fun b_ hb e' => hd29 (by have e'' : b_ = g21 := e'; rw [← e'']; exact hb))) (by subst hlex_Maps hlex_Away; unfold impl_Library_use; rw [if_neg h36, if_neg h76, if_neg h151, if_neg h183, if_pos h229] <;> rfl)), (SlO.eqv (((hm292).kp hk295 (fun b_ hb e' => hd10 (by have e'' : b_ = g1 := e'; rw [← e'']; exact hb))).kp hk301 (fun b_ hb e' => hd30 (by have e'' : b_ = g21 := e'; rw [← e'']; exact hb))) (by subst hlex_Maps hlex_Away; unfold impl_Library_use; rw [if_neg h36, if_neg h76, if_neg h151, if_neg h183, if_pos h229] <;> rfl)), hdx_Maps_x_Away, (fun b_ h_ => .inl (.inl h_)), (fun b_ h_ => .inl (.inr (h_))), hB305⟩
          · refine W.regA (Kp (fun b_ => Ax_Maps = some ⟨b_, 0, none⟩) w22) (fun f' w' => At f' [(3, .pointer (some ((⟨g1, 0, none⟩ : Addr)))), (6, .pointer (some ((⟨g21, 0, none⟩ : Addr)))), (7, .bool false)] ∧ (Kp (fun b_ => Ax_Maps = some ⟨b_, 0, none⟩) w22 w') ∧ (SlO w' Bx_Maps encLMap 3 73 Ax_Maps nx_Maps cx_Maps (x.Maps.set k.toNat ({ (gt x.Maps k.toNat) with Torn := IntKind.i64.wrap (((gt x.Maps k.toNat).Torn) + s.Value) }))) ∧ ((x.Maps.set k.toNat ({ (gt x.Maps k.toNat) with Torn := IntKind.i64.wrap (((gt x.Maps k.toNat).Torn) + s.Value) }))[k.toNat]? = some ({ (gt x.Maps k.toNat) with Torn := IntKind.i64.wrap (((gt x.Maps k.toNat).Torn) + s.Value) }))) mo ?_ ?_
            · intro w317 hk318
              have hz319 := hk318.size
              have hB320 := hB28.lo hk318
              refine AH.take 0 rfl (by kernel_rfl) trivial ((Kp.refl w22 : Kp (fun b_ => Ax_Maps = some ⟨b_, 0, none⟩) w22 w22).lo hk318) (fun w' hw' => r_mv (v := .pointer (some _)) rfl) <| AH.take 1 rfl (by kernel_rfl) trivial ((Kp.refl w22 : Kp (fun b_ => Ax_Maps = some ⟨b_, 0, none⟩) w22 w22).lo hk318) (fun w' hw' => r_nilc rfl) <| AH.take 2 rfl (by kernel_rfl) trivial ((Kp.refl w22 : Kp (fun b_ => Ax_Maps = some ⟨b_, 0, none⟩) w22 w22).lo hk318) (fun w' hw' => r_fa fa73_2 rfl) <| AH.take 4 rfl (by kernel_rfl) trivial ((Kp.refl w22 : Kp (fun b_ => Ax_Maps = some ⟨b_, 0, none⟩) w22 w22).lo hk318) (fun w' hw' => r_fa fa49_3 rfl) <| AH.take 5 rfl (by kernel_rfl) trivial ((Kp.refl w22 : Kp (fun b_ => Ax_Maps = some ⟨b_, 0, none⟩) w22 w22).lo hk318) (fun w' hw' => r_ld (v := .int .i64 s.Value) sca3 rfl ((((hb16).lo hk24).kp hw' (fun e' => hd19 e')).cell rfl)) <| AH.br [3] (by kernel_rfl) rfl ⟨Br.mk' rfl trivial ?_, trivial⟩
              refine SR.q' (r_ld (v := .int .i64 ((gt x.Maps k.toNat).Torn)) sca3 rfl ((((hm32).lo hk318).rd).cell hx35 rfl)) ?_
              refine SR.nil ⟨(Kp.refl w22 : Kp (fun b_ => Ax_Maps = some ⟨b_, 0, none⟩) w22 w22).lo hk318, _, rfl, ?_⟩
              refine AH.take 6 rfl (by kernel_rfl) trivial ((Kp.refl w22 : Kp (fun b_ => Ax_Maps = some ⟨b_, 0, none⟩) w22 w22).lo hk318) (fun w' hw' => r_addW rfl rfl) <| AH.take 7 rfl (by kernel_rfl) trivial ((Kp.refl w22 : Kp (fun b_ => Ax_Maps = some ⟨b_, 0, none⟩) w22 w22).lo hk318) (fun w' hw' => r_nilc rfl) <| AH.take 8 rfl (by kernel_rfl) trivial ((Kp.refl w22 : Kp (fun b_ => Ax_Maps = some ⟨b_, 0, none⟩) w22 w22).lo hk318) (fun w' hw' => r_fa fa73_2 rfl) <| AH.br [9] (by kernel_rfl) rfl ⟨Br.mk' rfl trivial ?_, trivial⟩
              refine SR.storeO (o := 2) (vs := [.int .i64 (IntKind.i64.wrap (((gt x.Maps k.toNat).Torn) + s.Value))]) (x1 := { (gt x.Maps k.toNat) with Torn := IntKind.i64.wrap (((gt x.Maps k.toNat).Torn) + s.Value) }) sca3.2 rfl (add_add _ _ _) rfl rfl ((hm32).lo hk318) hx35 rfl (Nat.le_of_ble_eq_true rfl) rfl ?_
              intro w321 hk322 hs323 hO324
              have hz325 := hk322.size
              have hB326 := hB320.step hk322 (fun i_ hi_ e' => by have := (((hm32).lo hk318)).base_le e'; first | omega | (exfalso; omega) | exact e' | exact .inl e' | exact .inr e')
              have hS327 := ((Kp.refl w22 : Kp (fun b_ => Ax_Maps = some ⟨b_, 0, none⟩) w22 w22).lo hk318).step hk322 (fun _ _ e => e)
              have hx328 : (x.Maps.set k.toNat ({ (gt x.Maps k.toNat) with Torn := IntKind.i64.wrap (((gt x.Maps k.toNat).Torn) + s.Value) }))[k.toNat]? = some ({ (gt x.Maps k.toNat) with Torn := IntKind.i64.wrap (((gt x.Maps k.toNat).Torn) + s.Value) }) := List.getElem?_set_self (List.getElem?_eq_some_iff.1 hx35).1
              refine SR.nil ⟨hS327, _, rfl, ?_⟩
              refine AH.done (by kernel_rfl) ?_
              exact ⟨⟨rfl, rfl, rfl, trivial⟩, hS327, (hO324), hx328⟩
            rintro f330 w331 ⟨hat333, hR332, hm329, hx328⟩
            rw [← sets_of_at hat333]
            have hz334 := hR332.size
            have hB335 := hB28.step hR332 (fun i_ hi_ e' => by have := ((hm32)).base_le e'; first | omega | (exfalso; omega) | exact e' | exact .inl e' | exact .inr e')
            refine W.seq ?_
            refine W.regS (SR.q' (r_lda (l := [.slice Ax_Maps nx_Maps cx_Maps, .slice Ax_Away nx_Away cx_Away, .int .i64 x.Bought, .int .i64 x.Dropped, .int .i64 x.Mended]) agg31 rfl (fun _ _ hu => ((hm31).kp hR332 (fun e' => hd9 e')).cell hu) rfl) <| SR.store (o := 0) (vs := [.slice Ax_Maps nx_Maps cx_Maps, .slice Ax_Away nx_Away cx_Away, .int .i64 x.Bought, .int .i64 x.Dropped, .int .i64 x.Mended]) agg31.2 rfl rfl rfl rfl ((hb26).kp hR332 (fun e' => hd29 e')) (Nat.le_of_ble_eq_true rfl) rfl ?_)
            intro w336 hk337 hs338 hb339
            have hz340 := hk337.size
            have hB341 := hB335.new hk337 (by omega)
            refine SR.q' (r_as (v := .bool true) rfl) <| SR.nil ?_
            refine W.ret ?_
            refine retCT rfl rfl agg31 (hb339) rfl (v := .bool _) rfl ?_
            exact ⟨Ax_Maps, nx_Maps, cx_Maps, Ax_Away, nx_Away, cx_Away, eR (eT2 (eA (eC rfl (eC rfl (eC (eI (by subst hlex_Maps hlex_Away; unfold impl_Library_use; rw [if_neg h36, if_neg h76, if_neg h151, if_neg h183, if_neg h229] <;> rfl)) (eC (eI (by subst hlex_Maps hlex_Away; unfold impl_Library_use; rw [if_neg h36, if_neg h76, if_neg h151, if_neg h183, if_neg h229] <;> rfl)) (eC (eI (by subst hlex_Maps hlex_Away; unfold impl_Library_use; rw [if_neg h36, if_neg h76, if_neg h151, if_neg h183, if_neg h229] <;> rfl)) rfl)))))) (eB (by subst hlex_Maps hlex_Away; unfold impl_Library_use; rw [if_neg h36, if_neg h76, if_neg h151, if_neg h183, if_neg h229] <;> rfl))), (SlO.eqv ((hm329).kp hk337 (fun b_ hb e' => hd29 (by have e'' : b_ = g21 := e'; rw [← e'']; exact hb))) (by subst hlex_Maps hlex_Away; unfold impl_Library_use; rw [if_neg h36, if_neg h76, if_neg h151, if_neg h183, if_neg h229] <;> rfl)), (SlO.eqv (((hm33).kp hR332 (fun b_ hb e' => hdx_Maps_x_Away b_ e' hb)).kp hk337 (fun b_ hb e' => hd30 (by have e'' : b_ = g21 := e'; rw [← e'']; exact hb))) (by subst hlex_Maps hlex_Away; unfold impl_Library_use; rw [if_neg h36, if_neg h76, if_neg h151, if_neg h183, if_neg h229] <;> rfl)), hdx_Maps_x_Away, (fun b_ h_ => .inl (.inl h_)), (fun b_ h_ => .inl (.inr (h_))), hB341⟩
end Go.Proofs.Ytbodnffjgmaloaa
