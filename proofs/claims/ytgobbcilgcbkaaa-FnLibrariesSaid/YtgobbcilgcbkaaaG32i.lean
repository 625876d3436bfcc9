/- Walks, printed by a program of this claim's author. -/
import Derived.Test.YtgobbcilgcbkaaaChecked
import Derived.Test.YtgobbcilgcbkaaaUa
import Derived.Test.YtgobbcilgcbkaaaFu
import Derived.Test.YtgobbcilgcbkaaaFs
import Derived.Test.YtgobbcilgcbkaaaFq
import Derived.Test.YtgobbcilgcbkaaaFo
import Derived.Test.YtgobbcilgcbkaaaDa
import Derived.Test.YtgobbcilgcbkaaaUc
import Derived.Test.YtgobbcilgcbkaaaG32h
namespace Go.Proofs.Ytgobbcilgcbkaaa
open Go Go.RowKit Fw
set_option maxRecDepth 10000
set_option maxHeartbeats 2000000
set_option linter.unusedVariables false
theorem agg29 : TAgg Try.prog 29 4 := ⟨fun _ => by kernel_rfl, fun _ => by kernel_rfl⟩
theorem ent62 : Ent Try.prog 62 := ent_of Try.func62 (by decide +kernel) rfl
theorem ent63 : Ent Try.prog 63 := ent_of Try.func63 (by decide +kernel) rfl
theorem ent64 : Ent Try.prog 64 := ent_of Try.func64 (by decide +kernel) rfl

open Classical in
noncomputable def impl_Library_hand (x : Library) (s : LibraryStep) : Library × Bool :=
  if s.Reader = s.Value then ((⟨([] : List LMap), ([] : List Away), 0, 0, 0⟩ : Library), false) else if (!((impl_Library_fetch x s.Id s.Reader).2)) = true then ((⟨([] : List LMap), ([] : List Away), 0, 0, 0⟩ : Library), false) else (((impl_Library_give ((impl_Library_fetch x s.Id s.Reader).1) s.Id s.Value).1), (impl_Library_give ((impl_Library_fetch x s.Id s.Reader).1) s.Id s.Value).2)
theorem c__impl_Library__hand (w : World) (x : Library) {Ax_Maps : Option Addr} {nx_Maps cx_Maps Bx_Maps : Nat} (hx_Maps : SlO w Bx_Maps encLMap 3 59 Ax_Maps nx_Maps cx_Maps x.Maps) {Ax_Away : Option Addr} {nx_Away cx_Away Bx_Away : Nat} (hx_Away : SlO w Bx_Away encAway 2 63 Ax_Away nx_Away cx_Away x.Away) (s : LibraryStep) (hdx_Maps_x_Away : ∀ b_, Ax_Maps = some ⟨b_, 0, none⟩ → ¬ Ax_Away = some ⟨b_, 0, none⟩) (hp0 : (nx_Maps : Int) ≤ 100) (hp1 : (nx_Away : Int) ≤ 100) : Calls Try.prog 64 #[.agg (List.toArray [.slice Ax_Maps nx_Maps cx_Maps, .slice Ax_Away nx_Away cx_Away, .int .i64 x.Bought, .int .i64 x.Dropped, .int .i64 x.Mended]), .agg (List.toArray (encLibraryStep s))] w fun e w' => ∃ (A1' : Option Addr) (n1' c1' : Nat) (A2' : Option Addr) (n2' c2' : Nat), e = .returned (.tuple (List.toArray [.agg (List.toArray [.slice A1' n1' c1', .slice A2' n2' c2', .int .i64 (((impl_Library_hand x s).1).Bought), .int .i64 (((impl_Library_hand x s).1).Dropped), .int .i64 (((impl_Library_hand x s).1).Mended)]), .bool ((impl_Library_hand x s).2)])) ∧ SlO w' Bx_Maps encLMap 3 59 A1' n1' c1' (((impl_Library_hand x s).1).Maps) ∧ SlO w' Bx_Away encAway 2 63 A2' n2' c2' (((impl_Library_hand x s).1).Away) ∧ (∀ b_, A1' = some ⟨b_, 0, none⟩ → ¬ A2' = some ⟨b_, 0, none⟩) ∧ (∀ b_, A1' = some ⟨b_, 0, none⟩ → (Ax_Maps = some ⟨b_, 0, none⟩ ∨ Ax_Away = some ⟨b_, 0, none⟩) ∨ w.heap.size ≤ b_) ∧ (∀ b_, A2' = some ⟨b_, 0, none⟩ → (Ax_Maps = some ⟨b_, 0, none⟩ ∨ Ax_Away = some ⟨b_, 0, none⟩) ∨ w.heap.size ≤ b_) ∧ Kp (fun b_ => Ax_Maps = some ⟨b_, 0, none⟩ ∨ Ax_Away = some ⟨b_, 0, none⟩) w w' := by
  refine calls_W 34 Try.func64 rfl rfl rfl ?_
  have hcpx_Maps := hx_Maps.rd.cap
  have hbbx_Maps := hx_Maps.rd.bd
  have hbdx_Maps := hx_Maps.rd.bound
  have hlex_Maps := hx_Maps.len
  have hBbx_Maps := hx_Maps.bd
  have hcpx_Away := hx_Away.rd.cap
  have hbbx_Away := hx_Away.rd.bd
  have hbdx_Away := hx_Away.rd.bound
  have hlex_Away := hx_Away.len
  have hBbx_Away := hx_Away.bd
  have hcpx_Maps := hx_Maps.rd.cap
  have hbbx_Maps := hx_Maps.rd.bd
  have hbdx_Maps := hx_Maps.rd.bound
  have hlex_Maps := hx_Maps.len
  have hBbx_Maps := hx_Maps.bd
  have hcpx_Away := hx_Away.rd.cap
  have hbbx_Away := hx_Away.rd.bd
  have hbdx_Away := hx_Away.rd.bound
  have hlex_Away := hx_Away.len
  have hBbx_Away := hx_Away.bd
  refine W.seq ?_
  refine W.regS (SR.box (v := .agg (List.toArray _)) (l := [.slice Ax_Maps nx_Maps cx_Maps, .slice Ax_Away nx_Away cx_Away, .int .i64 x.Bought, .int .i64 x.Dropped, .int .i64 x.Mended]) rfl rfl ?_)
  intro g1 w2 hg3 hk4 hs5 hb6
  have hz7 := hk4.size
  have hB8 := (Kp.refl w : Kp (fun b_ => Ax_Maps = some ⟨b_, 0, none⟩ ∨ Ax_Away = some ⟨b_, 0, none⟩) w w).lo hk4
  refine SR.box (v := .agg (List.toArray _)) (l := [.int .i64 s.Kind, .int .i64 s.Id, .int .i64 s.Reader, .int .i64 s.Value]) rfl rfl ?_
  intro g11 w12 hg13 hk14 hs15 hb16
  have hz17 := hk14.size
  have hB18 := hB8.lo hk14
  have hd19 : ¬ Ax_Maps = some ⟨g11, 0, none⟩ := fun e' => by have := ((hx_Maps).lo hk4).base_le e'; omega
  have hd20 : ¬ Ax_Away = some ⟨g11, 0, none⟩ := fun e' => by have := ((hx_Away).lo hk4).base_le e'; omega
  refine SR.alloc (l := [.slice none 0 0, .slice none 0 0, .int .i64 0, .int .i64 0, .int .i64 0]) tz27 rfl ?_
  intro g21 w22 hg23 hk24 hs25 hb26
  have hz27 := hk24.size
  have hB28 := hB18.lo hk24
  have hd29 : ¬ Ax_Maps = some ⟨g21, 0, none⟩ := fun e' => by have := (((hx_Maps).lo hk4).lo hk14).base_le e'; omega
  have hd30 : ¬ Ax_Away = some ⟨g21, 0, none⟩ := fun e' => by have := (((hx_Away).lo hk4).lo hk14).base_le e'; omega
  refine SR.q' (r_as (v := .bool false) rfl) <| SR.nil ?_
  refine W.seq ?_
  refine W.seq ?_
  have hm31 := ((hb6).lo hk14).lo hk24
  have hm32 := (((hx_Maps).lo hk4).lo hk14).lo hk24
  have hm33 := (((hx_Away).lo hk4).lo hk14).lo hk24
  refine W.regS (SR.q' (r_fa fa29_2 rfl) <| SR.q' (r_ld (v := .int .i64 s.Reader) sca3 rfl (((hb16).lo hk24).cell rfl)) <| SR.q' (r_fa fa29_3 rfl) <| SR.q' (r_ld (v := .int .i64 s.Value) sca3 rfl (((hb16).lo hk24).cell rfl)) <| SR.q' (r_eq rfl rfl) <| SR.nil ?_)
  refine W.cond_d rfl (fun h34 => ?_) (fun h34 => ?_)
  · refine W.seq ?_
    refine W.regS (SR.q' (r_build (vs := []) rfl (bld27_)) <| SR.store (o := 0) (vs := [.slice none 0 0, .slice none 0 0, .int .i64 0, .int .i64 0, .int .i64 0]) agg27.2 rfl rfl rfl rfl (hb26) (Nat.le_of_ble_eq_true rfl) rfl ?_)
    intro w35 hk36 hs37 hb38
    have hz39 := hk36.size
    have hB40 := hB28.new hk36 (by omega)
    refine SR.q' (r_as (v := .bool false) rfl) <| SR.nil ?_
    refine W.ret ?_
    refine retCT rfl rfl agg27 (hb38) rfl (v := .bool _) rfl ?_
    exact ⟨none, 0, 0, none, 0, 0, eR (eT2 (eA (eC rfl (eC rfl (eC (eI (by unfold impl_Library_hand; rw [if_pos h34] <;> rfl)) (eC (eI (by unfold impl_Library_hand; rw [if_pos h34] <;> rfl)) (eC (eI (by unfold impl_Library_hand; rw [if_pos h34] <;> rfl)) rfl)))))) (eB (by unfold impl_Library_hand; rw [if_pos h34] <;> rfl))), (SlO.eqv (SlO.nil (e := 59) (enc := encLMap) (fun _ => rfl) (by omega)) (by unfold impl_Library_hand; rw [if_pos h34] <;> rfl)), (SlO.eqv (SlO.nil (e := 63) (enc := encAway) (fun _ => rfl) (by omega)) (by unfold impl_Library_hand; rw [if_pos h34] <;> rfl)), (fun b_ h => by cases h), (fun b_ h => by cases h), (fun b_ h => by cases h), hB40⟩
  · refine W.skip ?_
    refine W.seq ?_
    refine W.regS (SR.q' (r_lda (l := [.slice Ax_Maps nx_Maps cx_Maps, .slice Ax_Away nx_Away cx_Away, .int .i64 x.Bought, .int .i64 x.Dropped, .int .i64 x.Mended]) agg27 rfl (fun _ _ hu => (hm31).cell hu) rfl) <| SR.q' (r_fa fa29_1 rfl) <| SR.q' (r_ld (v := .int .i64 s.Id) sca3 rfl (((hb16).lo hk24).cell rfl)) <| SR.q' (r_fa fa29_2 rfl) <| SR.q' (r_ld (v := .int .i64 s.Reader) sca3 rfl (((hb16).lo hk24).cell rfl)) <| SR.call ent63 (c__impl_Library__fetch w22 x (hm32) (hm33) s.Id s.Reader hdx_Maps_x_Away (by omega) (by omega)) rfl ?_)
    rintro e w41 ⟨A43, n44, c45, A47, n48, c49, rfl, hO46, hO50, hd51, hN52, hN53, hk42⟩
    refine ⟨_, rfl, ?_⟩
    have hz54 := hk42.size
    have hB55 := hB28.step hk42 (fun i_ hi_ e' => e'.elim (fun e' => by have := ((hm32)).base_le e'; first | omega | (exfalso; omega) | exact e' | exact .inl e' | exact .inr e') (fun e' => by have := ((hm33)).base_le e'; first | omega | (exfalso; omega) | exact e' | exact .inl e' | exact .inr e'))
    have hd58 : ¬ A43 = some ⟨g21, 0, none⟩ := fun e' => (hN52 g21 e').elim (fun h => h.elim (fun h => hd29 h) (fun h => hd30 h)) (fun h => by have := (hb26).lt; omega)
    have hd61 : ¬ A47 = some ⟨g21, 0, none⟩ := fun e' => (hN53 g21 e').elim (fun h => h.elim (fun h => hd29 h) (fun h => hd30 h)) (fun h => by have := (hb26).lt; omega)
    have hl62 := hO46.len
    have hl63 := hO46.rd.bound
    have hq64 := fetch_lenMaps x s.Id s.Reader
    have hl65 := hO50.len
    have hl66 := hO50.rd.bound
    have hq67 := fetch_lenAway x s.Id s.Reader
    refine SR.q' (r_mv (v := .tuple (List.toArray _)) rfl) <| SR.q' (r_ext (v := .agg (List.toArray _)) rfl rfl) <| SR.q' (r_ext (v := .bool _) rfl rfl) <| SR.alloc (l := [.slice none 0 0, .slice none 0 0, .int .i64 0, .int .i64 0, .int .i64 0]) tz27 rfl ?_
    intro g68 w69 hg70 hk71 hs72 hb73
    have hz74 := hk71.size
    have hB75 := hB55.lo hk71
    have hd76 : ¬ A43 = some ⟨g68, 0, none⟩ := fun e' => by have := (hO46).base_le e'; omega
    have hd77 : ¬ A47 = some ⟨g68, 0, none⟩ := fun e' => by have := (hO50).base_le e'; omega
    refine SR.store (o := 0) (vs := [.slice A43 n44 c45, .slice A47 n48 c49, .int .i64 (((impl_Library_fetch x s.Id s.Reader).1).Bought), .int .i64 (((impl_Library_fetch x s.Id s.Reader).1).Dropped), .int .i64 (((impl_Library_fetch x s.Id s.Reader).1).Mended)]) agg27.2 rfl rfl rfl rfl (hb73) (Nat.le_of_ble_eq_true rfl) rfl ?_
    intro w78 hk79 hs80 hb81
    have hz82 := hk79.size
    have hB83 := hB75.new hk79 (by omega)
    refine SR.q' (r_as (v := .bool _) rfl) <| SR.nil ?_
    refine W.seq ?_
    refine W.seq ?_
    have hm84 := ((((hb16).lo hk24).kp hk42 (fun e' => e'.elim (fun e' => hd19 e') (fun e' => hd20 e'))).lo hk71).kn hk79 (by omega)
    have hm85 := (((hb26).kp hk42 (fun e' => e'.elim (fun e' => hd29 e') (fun e' => hd30 e'))).lo hk71).kn hk79 (by omega)
    have hm86 := ((hO46).lo hk71).kd hk79 hd76
    have hm87 := ((hO50).lo hk71).kd hk79 hd77
    refine W.regS (SR.q' (r_mv (v := .bool _) rfl) <| SR.q' (r_not rfl) <| SR.nil ?_)
    refine W.cond_b rfl (fun h88 => ?_) (fun h88 => ?_)
    · have hq89 := bnot_t h88
      refine W.seq ?_
      refine W.regS (SR.q' (r_build (vs := []) rfl (bld27_)) <| SR.store (o := 0) (vs := [.slice none 0 0, .slice none 0 0, .int .i64 0, .int .i64 0, .int .i64 0]) agg27.2 rfl rfl rfl rfl (hm85) (Nat.le_of_ble_eq_true rfl) rfl ?_)
      intro w90 hk91 hs92 hb93
      have hz94 := hk91.size
      have hB95 := hB83.new hk91 (by omega)
      refine SR.q' (r_as (v := .bool false) rfl) <| SR.nil ?_
      refine W.ret ?_
      refine retCT rfl rfl agg27 (hb93) rfl (v := .bool _) rfl ?_
      exact ⟨none, 0, 0, none, 0, 0, eR (eT2 (eA (eC rfl (eC rfl (eC (eI (by unfold impl_Library_hand; rw [if_neg h34, if_pos h88] <;> rfl)) (eC (eI (by unfold impl_Library_hand; rw [if_neg h34, if_pos h88] <;> rfl)) (eC (eI (by unfold impl_Library_hand; rw [if_neg h34, if_pos h88] <;> rfl)) rfl)))))) (eB (by unfold impl_Library_hand; rw [if_neg h34, if_pos h88] <;> rfl))), (SlO.eqv (SlO.nil (e := 59) (enc := encLMap) (fun _ => rfl) (by omega)) (by unfold impl_Library_hand; rw [if_neg h34, if_pos h88] <;> rfl)), (SlO.eqv (SlO.nil (e := 63) (enc := encAway) (fun _ => rfl) (by omega)) (by unfold impl_Library_hand; rw [if_neg h34, if_pos h88] <;> rfl)), (fun b_ h => by cases h), (fun b_ h => by cases h), (fun b_ h => by cases h), hB95⟩
    · have hq96 := bnot_f h88
      refine W.skip ?_
      refine W.seq ?_
      refine W.regS (SR.q' (r_lda (l := [.slice A43 n44 c45, .slice A47 n48 c49, .int .i64 (((impl_Library_fetch x s.Id s.Reader).1).Bought), .int .i64 (((impl_Library_fetch x s.Id s.Reader).1).Dropped), .int .i64 (((impl_Library_fetch x s.Id s.Reader).1).Mended)]) agg27 rfl (fun _ _ hu => (hb81).cell hu) rfl) <| SR.q' (r_fa fa29_1 rfl) <| SR.q' (r_ld (v := .int .i64 s.Id) sca3 rfl ((hm84).cell rfl)) <| SR.q' (r_fa fa29_3 rfl) <| SR.q' (r_ld (v := .int .i64 s.Value) sca3 rfl ((hm84).cell rfl)) <| SR.call ent62 (c__impl_Library__give w78 ((impl_Library_fetch x s.Id s.Reader).1) (hm86) (hm87) s.Id s.Value hd51 (by omega) (by omega)) rfl ?_)
      rintro e w97 ⟨A99, n100, c101, A103, n104, c105, rfl, hO102, hO106, hd107, hN108, hN109, hk98⟩
      refine ⟨_, rfl, ?_⟩
      have hz110 := hk98.size
      have hB111 := hB83.step hk98 (fun i_ hi_ e' => e'.elim (fun e' => ((show ∀ b_, A43 = some ⟨b_, 0, none⟩ → (Ax_Maps = some ⟨b_, 0, none⟩ ∨ Ax_Away = some ⟨b_, 0, none⟩) ∨ w.heap.size ≤ b_ from (fun b_ h_ => (hN52 b_ h_).elim (fun h => h.elim (fun h => ((show ∀ b_, Ax_Maps = some ⟨b_, 0, none⟩ → (Ax_Maps = some ⟨b_, 0, none⟩ ∨ Ax_Away = some ⟨b_, 0, none⟩) ∨ w.heap.size ≤ b_ from (fun b_ h_ => .inl (.inl h_))) b_ h)) (fun h => ((show ∀ b_, Ax_Away = some ⟨b_, 0, none⟩ → (Ax_Maps = some ⟨b_, 0, none⟩ ∨ Ax_Away = some ⟨b_, 0, none⟩) ∨ w.heap.size ≤ b_ from (fun b_ h_ => .inl (.inr (h_)))) b_ h))) (fun h => .inr (by omega)))) i_ e').elim (fun e_ => e_) (fun e_ => by exfalso; omega)) (fun e' => ((show ∀ b_, A47 = some ⟨b_, 0, none⟩ → (Ax_Maps = some ⟨b_, 0, none⟩ ∨ Ax_Away = some ⟨b_, 0, none⟩) ∨ w.heap.size ≤ b_ from (fun b_ h_ => (hN53 b_ h_).elim (fun h => h.elim (fun h => ((show ∀ b_, Ax_Maps = some ⟨b_, 0, none⟩ → (Ax_Maps = some ⟨b_, 0, none⟩ ∨ Ax_Away = some ⟨b_, 0, none⟩) ∨ w.heap.size ≤ b_ from (fun b_ h_ => .inl (.inl h_))) b_ h)) (fun h => ((show ∀ b_, Ax_Away = some ⟨b_, 0, none⟩ → (Ax_Maps = some ⟨b_, 0, none⟩ ∨ Ax_Away = some ⟨b_, 0, none⟩) ∨ w.heap.size ≤ b_ from (fun b_ h_ => .inl (.inr (h_)))) b_ h))) (fun h => .inr (by omega)))) i_ e').elim (fun e_ => e_) (fun e_ => by exfalso; omega)))
      have hd114 : ¬ A99 = some ⟨g21, 0, none⟩ := fun e' => (hN108 g21 e').elim (fun h => h.elim (fun h => hd58 h) (fun h => hd61 h)) (fun h => by have := (hm85).lt; omega)
      have hd118 : ¬ A103 = some ⟨g21, 0, none⟩ := fun e' => (hN109 g21 e').elim (fun h => h.elim (fun h => hd58 h) (fun h => hd61 h)) (fun h => by have := (hm85).lt; omega)
      have hl120 := hO102.len
      have hl121 := hO102.rd.bound
      have hl122 := hO106.len
      have hl123 := hO106.rd.bound
      refine SR.q' (r_ext (v := .agg (List.toArray _)) rfl rfl) <| SR.q' (r_ext (v := .bool _) rfl rfl) <| SR.store (o := 0) (vs := [.slice A99 n100 c101, .slice A103 n104 c105, .int .i64 (((impl_Library_give ((impl_Library_fetch x s.Id s.Reader).1) s.Id s.Value).1).Bought), .int .i64 (((impl_Library_give ((impl_Library_fetch x s.Id s.Reader).1) s.Id s.Value).1).Dropped), .int .i64 (((impl_Library_give ((impl_Library_fetch x s.Id s.Reader).1) s.Id s.Value).1).Mended)]) agg27.2 rfl rfl rfl rfl ((hm85).kp hk98 (fun e' => e'.elim (fun e' => hd58 e') (fun e' => hd61 e'))) (Nat.le_of_ble_eq_true rfl) rfl ?_
      intro w124 hk125 hs126 hb127
      have hz128 := hk125.size
      have hB129 := hB111.new hk125 (by omega)
      refine SR.q' (r_as (v := .bool _) rfl) <| SR.nil ?_
      refine W.ret ?_
      refine retCT rfl rfl agg27 (hb127) rfl (v := .bool _) rfl ?_
      exact ⟨A99, n100, c101, A103, n104, c105, eR (eT2 (eA (eC rfl (eC rfl (eC (eI (by subst hl120 hl122; unfold impl_Library_hand; rw [if_neg h34, if_neg (ne_true_of_eq_false h88)] <;> rfl)) (eC (eI (by subst hl120 hl122; unfold impl_Library_hand; rw [if_neg h34, if_neg (ne_true_of_eq_false h88)] <;> rfl)) (eC (eI (by subst hl120 hl122; unfold impl_Library_hand; rw [if_neg h34, if_neg (ne_true_of_eq_false h88)] <;> rfl)) rfl)))))) (eB (by subst hl120 hl122; unfold impl_Library_hand; rw [if_neg h34, if_neg (ne_true_of_eq_false h88)] <;> rfl))), (SlO.eqv ((hO102).kd hk125 hd114) (by subst hl120 hl122; unfold impl_Library_hand; rw [if_neg h34, if_neg (ne_true_of_eq_false h88)] <;> rfl)), (SlO.eqv ((hO106).kd hk125 hd118) (by subst hl120 hl122; unfold impl_Library_hand; rw [if_neg h34, if_neg (ne_true_of_eq_false h88)] <;> rfl)), hd107, (fun b_ h_ => (hN108 b_ h_).elim (fun h => h.elim (fun h => ((show ∀ b_, A43 = some ⟨b_, 0, none⟩ → (Ax_Maps = some ⟨b_, 0, none⟩ ∨ Ax_Away = some ⟨b_, 0, none⟩) ∨ w.heap.size ≤ b_ from (fun b_ h_ => (hN52 b_ h_).elim (fun h => h.elim (fun h => ((show ∀ b_, Ax_Maps = some ⟨b_, 0, none⟩ → (Ax_Maps = some ⟨b_, 0, none⟩ ∨ Ax_Away = some ⟨b_, 0, none⟩) ∨ w.heap.size ≤ b_ from (fun b_ h_ => .inl (.inl h_))) b_ h)) (fun h => ((show ∀ b_, Ax_Away = some ⟨b_, 0, none⟩ → (Ax_Maps = some ⟨b_, 0, none⟩ ∨ Ax_Away = some ⟨b_, 0, none⟩) ∨ w.heap.size ≤ b_ from (fun b_ h_ => .inl (.inr (h_)))) b_ h))) (fun h => .inr (by omega)))) b_ h)) (fun h => ((show ∀ b_, A47 = some ⟨b_, 0, none⟩ → (Ax_Maps = some ⟨b_, 0, none⟩ ∨ Ax_Away = some ⟨b_, 0, none⟩) ∨ w.heap.size ≤ b_ from (fun b_ h_ => (hN53 b_ h_).elim (fun h => h.elim (fun h => ((show ∀ b_, Ax_Maps = some ⟨b_, 0, none⟩ → (Ax_Maps = some ⟨b_, 0, none⟩ ∨ Ax_Away = some ⟨b_, 0, none⟩) ∨ w.heap.size ≤ b_ from (fun b_ h_ => .inl (.inl h_))) b_ h)) (fun h => ((show ∀ b_, Ax_Away = some ⟨b_, 0, none⟩ → (Ax_Maps = some ⟨b_, 0, none⟩ ∨ Ax_Away = some ⟨b_, 0, none⟩) ∨ w.heap.size ≤ b_ from (fun b_ h_ => .inl (.inr (h_)))) b_ h))) (fun h => .inr (by omega)))) b_ h))) (fun h => .inr (by omega))), (fun b_ h_ => (hN109 b_ h_).elim (fun h => h.elim (fun h => ((show ∀ b_, A43 = some ⟨b_, 0, none⟩ → (Ax_Maps = some ⟨b_, 0, none⟩ ∨ Ax_Away = some ⟨b_, 0, none⟩) ∨ w.heap.size ≤ b_ from (fun b_ h_ => (hN52 b_ h_).elim (fun h => h.elim (fun h => ((show ∀ b_, Ax_Maps = some ⟨b_, 0, none⟩ → (Ax_Maps = some ⟨b_, 0, none⟩ ∨ Ax_Away = some ⟨b_, 0, none⟩) ∨ w.heap.size ≤ b_ from (fun b_ h_ => .inl (.inl h_))) b_ h)) (fun h => ((show ∀ b_, Ax_Away = some ⟨b_, 0, none⟩ → (Ax_Maps = some ⟨b_, 0, none⟩ ∨ Ax_Away = some ⟨b_, 0, none⟩) ∨ w.heap.size ≤ b_ from (fun b_ h_ => .inl (.inr (h_)))) b_ h))) (fun h => .inr (by omega)))) b_ h)) (fun h => ((show ∀ b_, A47 = some ⟨b_, 0, none⟩ → (Ax_Maps = some ⟨b_, 0, none⟩ ∨ Ax_Away = some ⟨b_, 0, none⟩) ∨ w.heap.size ≤ b_ from (fun b_ h_ => (hN53 b_ h_).elim (fun h => h.elim (fun h => ((show ∀ b_, Ax_Maps = some ⟨b_, 0, none⟩ → (Ax_Maps = some ⟨b_, 0, none⟩ ∨ Ax_Away = some ⟨b_, 0, none⟩) ∨ w.heap.size ≤ b_ from (fun b_ h_ => .inl (.inl h_))) b_ h)) (fun h => ((show ∀ b_, Ax_Away = some ⟨b_, 0, none⟩ → (Ax_Maps = some ⟨b_, 0, none⟩ ∨ Ax_Away = some ⟨b_, 0, none⟩) ∨ w.heap.size ≤ b_ from (fun b_ h_ => .inl (.inr (h_)))) b_ h))) (fun h => .inr (by omega)))) b_ h))) (fun h => .inr (by omega))), hB129⟩

open Classical in
noncomputable def impl_Library_use (x : Library) (s : LibraryStep) (k : Int) : Library × Bool :=
  if s.Kind = 2 then (((impl_Library_give (⟨x.Maps.set k.toNat ({ (gt x.Maps k.toNat) with Copies := IntKind.i64.wrap (((gt x.Maps k.toNat).Copies) - 1) }), x.Away, x.Bought, x.Dropped, x.Mended⟩ : Library) s.Id s.Reader).1), (impl_Library_give (⟨x.Maps.set k.toNat ({ (gt x.Maps k.toNat) with Copies := IntKind.i64.wrap (((gt x.Maps k.toNat).Copies) - 1) }), x.Away, x.Bought, x.Dropped, x.Mended⟩ : Library) s.Id s.Reader).2) else if s.Kind = 3 then (((impl_Library_fetch (⟨x.Maps.set k.toNat ({ ({ (gt x.Maps k.toNat) with Copies := IntKind.i64.wrap (((gt x.Maps k.toNat).Copies) + 1) }) with Torn := IntKind.i64.wrap (((gt x.Maps k.toNat).Torn) + s.Value) }), x.Away, x.Bought, x.Dropped, x.Mended⟩ : Library) s.Id s.Reader).1), (impl_Library_fetch (⟨x.Maps.set k.toNat ({ ({ (gt x.Maps k.toNat) with Copies := IntKind.i64.wrap (((gt x.Maps k.toNat).Copies) + 1) }) with Torn := IntKind.i64.wrap (((gt x.Maps k.toNat).Torn) + s.Value) }), x.Away, x.Bought, x.Dropped, x.Mended⟩ : Library) s.Id s.Reader).2) else if s.Kind = 5 then (((impl_Library_hand x s).1), (impl_Library_hand x s).2) else if s.Kind = 4 then ((⟨x.Maps.set k.toNat ({ (gt x.Maps k.toNat) with Torn := IntKind.i64.wrap (((gt x.Maps k.toNat).Torn) - s.Value) }), x.Away, x.Bought, x.Dropped, IntKind.i64.wrap (x.Mended + s.Value)⟩ : Library), true) else if s.Kind = 6 then ((⟨(x.Maps.set k.toNat ({ (gt x.Maps k.toNat) with Torn := IntKind.i64.wrap (((gt x.Maps k.toNat).Torn) - s.Value) })).set k.toNat ({ ({ (gt x.Maps k.toNat) with Torn := IntKind.i64.wrap (((gt x.Maps k.toNat).Torn) - s.Value) }) with Copies := IntKind.i64.wrap (((gt x.Maps k.toNat).Copies) - s.Value) }), x.Away, x.Bought, IntKind.i64.wrap (x.Dropped + s.Value), x.Mended⟩ : Library), true) else ((⟨x.Maps.set k.toNat ({ (gt x.Maps k.toNat) with Torn := IntKind.i64.wrap (((gt x.Maps k.toNat).Torn) + s.Value) }), x.Away, x.Bought, x.Dropped, x.Mended⟩ : Library), true)
theorem c__impl_Library__use (w : World) (x : Library) {Ax_Maps : Option Addr} {nx_Maps cx_Maps Bx_Maps : Nat} (hx_Maps : SlO w Bx_Maps encLMap 3 59 Ax_Maps nx_Maps cx_Maps x.Maps) {Ax_Away : Option Addr} {nx_Away cx_Away Bx_Away : Nat} (hx_Away : SlO w Bx_Away encAway 2 63 Ax_Away nx_Away cx_Away x.Away) (s : LibraryStep) (k : Int) (hdx_Maps_x_Away : ∀ b_, Ax_Maps = some ⟨b_, 0, none⟩ → ¬ Ax_Away = some ⟨b_, 0, none⟩) (hp0 : (nx_Maps : Int) ≤ 100) (hp1 : (nx_Away : Int) ≤ 100) (hp2 : 0 ≤ k ∧ k < (nx_Maps : Int)) : Calls Try.prog 44 #[.agg (List.toArray [.slice Ax_Maps nx_Maps cx_Maps, .slice Ax_Away nx_Away cx_Away, .int .i64 x.Bought, .int .i64 x.Dropped, .int .i64 x.Mended]), .agg (List.toArray (encLibraryStep s)), .int .i64 k] w fun e w' => ∃ (A1' : Option Addr) (n1' c1' : Nat) (A2' : Option Addr) (n2' c2' : Nat), e = .returned (.tuple (List.toArray [.agg (List.toArray [.slice A1' n1' c1', .slice A2' n2' c2', .int .i64 (((impl_Library_use x s k).1).Bought), .int .i64 (((impl_Library_use x s k).1).Dropped), .int .i64 (((impl_Library_use x s k).1).Mended)]), .bool ((impl_Library_use x s k).2)])) ∧ SlO w' Bx_Maps encLMap 3 59 A1' n1' c1' (((impl_Library_use x s k).1).Maps) ∧ SlO w' Bx_Away encAway 2 63 A2' n2' c2' (((impl_Library_use x s k).1).Away) ∧ (∀ b_, A1' = some ⟨b_, 0, none⟩ → ¬ A2' = some ⟨b_, 0, none⟩) ∧ (∀ b_, A1' = some ⟨b_, 0, none⟩ → (Ax_Maps = some ⟨b_, 0, none⟩ ∨ Ax_Away = some ⟨b_, 0, none⟩) ∨ w.heap.size ≤ b_) ∧ (∀ b_, A2' = some ⟨b_, 0, none⟩ → (Ax_Maps = some ⟨b_, 0, none⟩ ∨ Ax_Away = some ⟨b_, 0, none⟩) ∨ w.heap.size ≤ b_) ∧ Kp (fun b_ => Ax_Maps = some ⟨b_, 0, none⟩ ∨ Ax_Away = some ⟨b_, 0, none⟩) w w' := by
  refine calls_W 118 Try.func44 rfl rfl rfl ?_
  have hcpx_Maps := hx_Maps.rd.cap
  have hbbx_Maps := hx_Maps.rd.bd
  have hbdx_Maps := hx_Maps.rd.bound
  have hlex_Maps := hx_Maps.len
  have hBbx_Maps := hx_Maps.bd
  have hcpx_Away := hx_Away.rd.cap
  have hbbx_Away := hx_Away.rd.bd
  have hbdx_Away := hx_Away.rd.bound
  have hlex_Away := hx_Away.len
  have hBbx_Away := hx_Away.bd
  have hcpx_Maps := hx_Maps.rd.cap
  have hbbx_Maps := hx_Maps.rd.bd
  have hbdx_Maps := hx_Maps.rd.bound
  have hlex_Maps := hx_Maps.len
  have hBbx_Maps := hx_Maps.bd
  have hcpx_Away := hx_Away.rd.cap
  have hbbx_Away := hx_Away.rd.bd
  have hbdx_Away := hx_Away.rd.bound
  have hlex_Away := hx_Away.len
  have hBbx_Away := hx_Away.bd
  refine W.seq ?_
  refine W.regS (SR.box (v := .agg (List.toArray _)) (l := [.slice Ax_Maps nx_Maps cx_Maps, .slice Ax_Away nx_Away cx_Away, .int .i64 x.Bought, .int .i64 x.Dropped, .int .i64 x.Mended]) rfl rfl ?_)
  intro g1 w2 hg3 hk4 hs5 hb6
  have hz7 := hk4.size
  have hB8 := (Kp.refl w : Kp (fun b_ => Ax_Maps = some ⟨b_, 0, none⟩ ∨ Ax_Away = some ⟨b_, 0, none⟩) w w).lo hk4
  have hd9 : ¬ Ax_Maps = some ⟨g1, 0, none⟩ := fun e' => by have := (hx_Maps).base_le e'; omega
  have hd10 : ¬ Ax_Away = some ⟨g1, 0, none⟩ := fun e' => by have := (hx_Away).base_le e'; omega
  refine SR.box (v := .agg (List.toArray _)) (l := [.int .i64 s.Kind, .int .i64 s.Id, .int .i64 s.Reader, .int .i64 s.Value]) rfl rfl ?_
  intro g11 w12 hg13 hk14 hs15 hb16
  have hz17 := hk14.size
  have hB18 := hB8.lo hk14
  have hd19 : ¬ Ax_Maps = some ⟨g11, 0, none⟩ := fun e' => by have := ((hx_Maps).lo hk4).base_le e'; omega
  refine SR.alloc (l := [.slice none 0 0, .slice none 0 0, .int .i64 0, .int .i64 0, .int .i64 0]) tz27 rfl ?_
  intro g21 w22 hg23 hk24 hs25 hb26
  have hz27 := hk24.size
  have hB28 := hB18.lo hk24
  have hd29 : ¬ Ax_Maps = some ⟨g21, 0, none⟩ := fun e' => by have := (((hx_Maps).lo hk4).lo hk14).base_le e'; omega
  have hd30 : ¬ Ax_Away = some ⟨g21, 0, none⟩ := fun e' => by have := (((hx_Away).lo hk4).lo hk14).base_le e'; omega
  refine SR.q' (r_as (v := .bool false) rfl) <| SR.nil ?_
  refine W.seq ?_
  have hm31 := ((hb6).lo hk14).lo hk24
  have hm32 := (((hx_Maps).lo hk4).lo hk14).lo hk24
  have hm33 := (((hx_Away).lo hk4).lo hk14).lo hk24
  refine W.regS (SR.q' (r_fa fa27_0 rfl) <| SR.q' (r_ld (v := .slice Ax_Maps nx_Maps cx_Maps) sca24 rfl ((hm31).cell rfl)) <| SR.q' (r_mv (v := .int .i64 _) rfl) <| ?_)
  have hx35 := ((hm32).rd).elem (i := k.toNat) (by omega)
  refine SR.q' (r_ixR tsl24 ((hm32).rd) rfl rfl (by omega)) <| SR.q' (r_as (v := .pointer (some _)) rfl) <| SR.nil ?_
  refine W.seq ?_
  refine W.seq ?_
  refine W.regS (SR.q' (r_fa fa29_0 rfl) <| SR.q' (r_ld (v := .int .i64 s.Kind) sca3 rfl (((hb16).lo hk24).cell rfl)) <| SR.nil ?_)
  refine W.block ?_
  refine W.seq ?_
  refine W.regS (SR.q' (r_eq rfl rfl) <| SR.q' (r_as (v := .bool _) rfl) <| SR.nil ?_)
  refine W.cond_d rfl (fun h36 => ?_) (fun h36 => ?_)
  · refine W.seq ?_
    refine W.regS (SR.q' (r_mv (v := .pointer (some _)) rfl) <| SR.q' (r_nilp rfl) <| SR.q' (r_fa fa59_1 rfl) <| SR.q' (r_ld (v := .int .i64 ((gt x.Maps k.toNat).Copies)) sca3 rfl (((hm32).rd).cell hx35 rfl)) <| SR.q' (r_subW rfl rfl) <| SR.q' (r_nilp rfl) <| SR.q' (r_fa fa59_1 rfl) <| SR.storeO (o := 1) (vs := [.int .i64 (IntKind.i64.wrap (((gt x.Maps k.toNat).Copies) - 1))]) (x1 := { (gt x.Maps k.toNat) with Copies := IntKind.i64.wrap (((gt x.Maps k.toNat).Copies) - 1) }) sca3.2 rfl (add_add _ _ _) rfl rfl (hm32) hx35 rfl (Nat.le_of_ble_eq_true rfl) rfl ?_)
    intro w37 hk38 hs39 hO40
    have hz41 := hk38.size
    have hB42 := hB28.step hk38 (fun i_ hi_ e' => by have := ((hm32)).base_le e'; first | omega | (exfalso; omega) | exact e' | exact .inl e' | exact .inr e')
    have hx43 : (x.Maps.set k.toNat ({ (gt x.Maps k.toNat) with Copies := IntKind.i64.wrap (((gt x.Maps k.toNat).Copies) - 1) }))[k.toNat]? = some ({ (gt x.Maps k.toNat) with Copies := IntKind.i64.wrap (((gt x.Maps k.toNat).Copies) - 1) }) := List.getElem?_set_self (List.getElem?_eq_some_iff.1 hx35).1
    refine SR.nil ?_
    refine W.seq ?_
    have hm44 := ((hb16).lo hk24).kp hk38 (fun e' => hd19 e')
    refine W.regS (SR.q' (r_lda (l := [.slice Ax_Maps nx_Maps cx_Maps, .slice Ax_Away nx_Away cx_Away, .int .i64 x.Bought, .int .i64 x.Dropped, .int .i64 x.Mended]) agg27 rfl (fun _ _ hu => ((hm31).kp hk38 (fun e' => hd9 e')).cell hu) rfl) <| SR.q' (r_fa fa29_1 rfl) <| SR.q' (r_ld (v := .int .i64 s.Id) sca3 rfl ((hm44).cell rfl)) <| SR.q' (r_fa fa29_2 rfl) <| SR.q' (r_ld (v := .int .i64 s.Reader) sca3 rfl ((hm44).cell rfl)) <| SR.call ent62 (c__impl_Library__give w37 (⟨x.Maps.set k.toNat ({ (gt x.Maps k.toNat) with Copies := IntKind.i64.wrap (((gt x.Maps k.toNat).Copies) - 1) }), x.Away, x.Bought, x.Dropped, x.Mended⟩ : Library) (hO40) ((hm33).kp hk38 (fun b_ hb e' => hdx_Maps_x_Away b_ e' hb)) s.Id s.Reader hdx_Maps_x_Away (by omega) (by omega)) rfl ?_)
    rintro e w45 ⟨A47, n48, c49, A51, n52, c53, rfl, hO50, hO54, hd55, hN56, hN57, hk46⟩
    refine ⟨_, rfl, ?_⟩
    have hz58 := hk46.size
    have hB59 := hB42.step hk46 (fun i_ hi_ e' => e'.elim (fun e' => by have := ((hO40)).base_le e'; first | omega | (exfalso; omega) | exact e' | exact .inl e' | exact .inr e') (fun e' => by have := (((hm33).kp hk38 (fun b_ hb e' => hdx_Maps_x_Away b_ e' hb))).base_le e'; first | omega | (exfalso; omega) | exact e' | exact .inl e' | exact .inr e'))
    have hd62 : ¬ A47 = some ⟨g21, 0, none⟩ := fun e' => (hN56 g21 e').elim (fun h => h.elim (fun h => hd29 h) (fun h => hd30 h)) (fun h => by have := ((hb26).kp hk38 (fun e' => hd29 e')).lt; omega)
    have hd65 : ¬ A51 = some ⟨g21, 0, none⟩ := fun e' => (hN57 g21 e').elim (fun h => h.elim (fun h => hd29 h) (fun h => hd30 h)) (fun h => by have := ((hb26).kp hk38 (fun e' => hd29 e')).lt; omega)
    have hl66 := hO50.len
    have hl67 := hO50.rd.bound
    have hl68 := hO54.len
    have hl69 := hO54.rd.bound
    refine SR.q' (r_ext (v := .agg (List.toArray _)) rfl rfl) <| SR.q' (r_ext (v := .bool _) rfl rfl) <| SR.store (o := 0) (vs := [.slice A47 n48 c49, .slice A51 n52 c53, .int .i64 (((impl_Library_give (⟨x.Maps.set k.toNat ({ (gt x.Maps k.toNat) with Copies := IntKind.i64.wrap (((gt x.Maps k.toNat).Copies) - 1) }), x.Away, x.Bought, x.Dropped, x.Mended⟩ : Library) s.Id s.Reader).1).Bought), .int .i64 (((impl_Library_give (⟨x.Maps.set k.toNat ({ (gt x.Maps k.toNat) with Copies := IntKind.i64.wrap (((gt x.Maps k.toNat).Copies) - 1) }), x.Away, x.Bought, x.Dropped, x.Mended⟩ : Library) s.Id s.Reader).1).Dropped), .int .i64 (((impl_Library_give (⟨x.Maps.set k.toNat ({ (gt x.Maps k.toNat) with Copies := IntKind.i64.wrap (((gt x.Maps k.toNat).Copies) - 1) }), x.Away, x.Bought, x.Dropped, x.Mended⟩ : Library) s.Id s.Reader).1).Mended)]) agg27.2 rfl rfl rfl rfl (((hb26).kp hk38 (fun e' => hd29 e')).kp hk46 (fun e' => e'.elim (fun e' => hd29 e') (fun e' => hd30 e'))) (Nat.le_of_ble_eq_true rfl) rfl ?_
    intro w70 hk71 hs72 hb73
    have hz74 := hk71.size
    have hB75 := hB59.new hk71 (by omega)
    refine SR.q' (r_as (v := .bool _) rfl) <| SR.nil ?_
    refine W.ret ?_
    refine retCT rfl rfl agg27 (hb73) rfl (v := .bool _) rfl ?_
    exact ⟨A47, n48, c49, A51, n52, c53, eR (eT2 (eA (eC rfl (eC rfl (eC (eI (by subst hl66 hl68; unfold impl_Library_use; rw [if_pos h36] <;> rfl)) (eC (eI (by subst hl66 hl68; unfold impl_Library_use; rw [if_pos h36] <;> rfl)) (eC (eI (by subst hl66 hl68; unfold impl_Library_use; rw [if_pos h36] <;> rfl)) rfl)))))) (eB (by subst hl66 hl68; unfold impl_Library_use; rw [if_pos h36] <;> rfl))), (SlO.eqv ((hO50).kd hk71 hd62) (by subst hl66 hl68; unfold impl_Library_use; rw [if_pos h36] <;> rfl)), (SlO.eqv ((hO54).kd hk71 hd65) (by subst hl66 hl68; unfold impl_Library_use; rw [if_pos h36] <;> rfl)), hd55, (fun b_ h_ => (hN56 b_ h_).elim (fun h => h.elim (fun h => ((show ∀ b_, Ax_Maps = some ⟨b_, 0, none⟩ → (Ax_Maps = some ⟨b_, 0, none⟩ ∨ Ax_Away = some ⟨b_, 0, none⟩) ∨ w.heap.size ≤ b_ from (fun b_ h_ => .inl (.inl h_))) b_ h)) (fun h => ((show ∀ b_, Ax_Away = some ⟨b_, 0, none⟩ → (Ax_Maps = some ⟨b_, 0, none⟩ ∨ Ax_Away = some ⟨b_, 0, none⟩) ∨ w.heap.size ≤ b_ from (fun b_ h_ => .inl (.inr (h_)))) b_ h))) (fun h => .inr (by omega))), (fun b_ h_ => (hN57 b_ h_).elim (fun h => h.elim (fun h => ((show ∀ b_, Ax_Maps = some ⟨b_, 0, none⟩ → (Ax_Maps = some ⟨b_, 0, none⟩ ∨ Ax_Away = some ⟨b_, 0, none⟩) ∨ w.heap.size ≤ b_ from (fun b_ h_ => .inl (.inl h_))) b_ h)) (fun h => ((show ∀ b_, Ax_Away = some ⟨b_, 0, none⟩ → (Ax_Maps = some ⟨b_, 0, none⟩ ∨ Ax_Away = some ⟨b_, 0, none⟩) ∨ w.heap.size ≤ b_ from (fun b_ h_ => .inl (.inr (h_)))) b_ h))) (fun h => .inr (by omega))), hB75⟩
  · refine W.seq ?_
    refine W.regS (SR.q' (r_eq rfl rfl) <| SR.q' (r_as (v := .bool _) rfl) <| SR.nil ?_)
    refine W.cond_d rfl (fun h76 => ?_) (fun h76 => ?_)
    · refine W.seq ?_
      refine W.regS (SR.q' (r_mv (v := .pointer (some _)) rfl) <| SR.q' (r_nilp rfl) <| SR.q' (r_fa fa59_1 rfl) <| SR.q' (r_ld (v := .int .i64 ((gt x.Maps k.toNat).Copies)) sca3 rfl (((hm32).rd).cell hx35 rfl)) <| SR.q' (r_addW rfl rfl) <| SR.q' (r_nilp rfl) <| SR.q' (r_fa fa59_1 rfl) <| SR.storeO (o := 1) (vs := [.int .i64 (IntKind.i64.wrap (((gt x.Maps k.toNat).Copies) + 1))]) (x1 := { (gt x.Maps k.toNat) with Copies := IntKind.i64.wrap (((gt x.Maps k.toNat).Copies) + 1) }) sca3.2 rfl (add_add _ _ _) rfl rfl (hm32) hx35 rfl (Nat.le_of_ble_eq_true rfl) rfl ?_)
      intro w77 hk78 hs79 hO80
      have hz81 := hk78.size
      have hB82 := hB28.step hk78 (fun i_ hi_ e' => by have := ((hm32)).base_le e'; first | omega | (exfalso; omega) | exact e' | exact .inl e' | exact .inr e')
      have hx83 : (x.Maps.set k.toNat ({ (gt x.Maps k.toNat) with Copies := IntKind.i64.wrap (((gt x.Maps k.toNat).Copies) + 1) }))[k.toNat]? = some ({ (gt x.Maps k.toNat) with Copies := IntKind.i64.wrap (((gt x.Maps k.toNat).Copies) + 1) }) := List.getElem?_set_self (List.getElem?_eq_some_iff.1 hx35).1
      refine SR.nil ?_
      refine W.seq ?_
      have hm84 := ((hb16).lo hk24).kp hk78 (fun e' => hd19 e')
      refine W.regA (Kp (fun b_ => Ax_Maps = some ⟨b_, 0, none⟩) w77) (fun f' w' => At f' [(3, .pointer (pA g1)), (4, .pointer (pA g11)), (6, .pointer (pA g21)), (7, .bool false)] ∧ (Kp (fun b_ => Ax_Maps = some ⟨b_, 0, none⟩) w77 w') ∧ (SlO w' Bx_Maps encLMap 3 59 Ax_Maps nx_Maps cx_Maps (x.Maps.set k.toNat ({ ({ (gt x.Maps k.toNat) with Copies := IntKind.i64.wrap (((gt x.Maps k.toNat).Copies) + 1) }) with Torn := IntKind.i64.wrap (((gt x.Maps k.toNat).Torn) + s.Value) }))) ∧ ((x.Maps.set k.toNat ({ ({ (gt x.Maps k.toNat) with Copies := IntKind.i64.wrap (((gt x.Maps k.toNat).Copies) + 1) }) with Torn := IntKind.i64.wrap (((gt x.Maps k.toNat).Torn) + s.Value) }))[k.toNat]? = some ({ ({ (gt x.Maps k.toNat) with Copies := IntKind.i64.wrap (((gt x.Maps k.toNat).Copies) + 1) }) with Torn := IntKind.i64.wrap (((gt x.Maps k.toNat).Torn) + s.Value) }))) mo ?_ ?_
      · intro w111 hk112
        have hz113 := hk112.size
        have hB114 := hB82.lo hk112
        refine AH.take 0 rfl (by kernel_rfl) trivial ((Kp.refl w77 : Kp (fun b_ => Ax_Maps = some ⟨b_, 0, none⟩) w77 w77).lo hk112) (fun w' hw' => r_mv (v := .pointer (some _)) rfl) <| AH.take 1 rfl (by kernel_rfl) trivial ((Kp.refl w77 : Kp (fun b_ => Ax_Maps = some ⟨b_, 0, none⟩) w77 w77).lo hk112) (fun w' hw' => r_nilp rfl) <| AH.take 2 rfl (by kernel_rfl) trivial ((Kp.refl w77 : Kp (fun b_ => Ax_Maps = some ⟨b_, 0, none⟩) w77 w77).lo hk112) (fun w' hw' => r_fa fa59_2 rfl) <| AH.take 4 rfl (by kernel_rfl) trivial ((Kp.refl w77 : Kp (fun b_ => Ax_Maps = some ⟨b_, 0, none⟩) w77 w77).lo hk112) (fun w' hw' => r_fa fa29_3 rfl) <| AH.take 5 rfl (by kernel_rfl) trivial ((Kp.refl w77 : Kp (fun b_ => Ax_Maps = some ⟨b_, 0, none⟩) w77 w77).lo hk112) (fun w' hw' => r_ld (v := .int .i64 s.Value) sca3 rfl (((hm84).kp hw' (fun e' => hd19 e')).cell rfl)) <| AH.br [3] (by kernel_rfl) rfl ⟨Br.mk' rfl trivial ?_, trivial⟩
        refine SR.q' (r_ld (v := .int .i64 ((gt x.Maps k.toNat).Torn)) sca3 rfl ((((hO80).lo hk112).rd).cell hx83 rfl)) ?_
        refine SR.nil ⟨(Kp.refl w77 : Kp (fun b_ => Ax_Maps = some ⟨b_, 0, none⟩) w77 w77).lo hk112, _, rfl, ?_⟩
        refine AH.take 6 rfl (by kernel_rfl) trivial ((Kp.refl w77 : Kp (fun b_ => Ax_Maps = some ⟨b_, 0, none⟩) w77 w77).lo hk112) (fun w' hw' => r_addW rfl rfl) <| AH.take 7 rfl (by kernel_rfl) trivial ((Kp.refl w77 : Kp (fun b_ => Ax_Maps = some ⟨b_, 0, none⟩) w77 w77).lo hk112) (fun w' hw' => r_nilp rfl) <| AH.take 8 rfl (by kernel_rfl) trivial ((Kp.refl w77 : Kp (fun b_ => Ax_Maps = some ⟨b_, 0, none⟩) w77 w77).lo hk112) (fun w' hw' => r_fa fa59_2 rfl) <| AH.br [9] (by kernel_rfl) rfl ⟨Br.mk' rfl trivial ?_, trivial⟩
        refine SR.storeO (o := 2) (vs := [.int .i64 (IntKind.i64.wrap (((gt x.Maps k.toNat).Torn) + s.Value))]) (x1 := { ({ (gt x.Maps k.toNat) with Copies := IntKind.i64.wrap (((gt x.Maps k.toNat).Copies) + 1) }) with Torn := IntKind.i64.wrap (((gt x.Maps k.toNat).Torn) + s.Value) }) sca3.2 rfl (add_add _ _ _) rfl rfl ((hO80).lo hk112) hx83 rfl (Nat.le_of_ble_eq_true rfl) rfl ?_
        intro w115 hk116 hs117 hO118
        have hz119 := hk116.size
        have hB120 := hB114.step hk116 (fun i_ hi_ e' => by have := (((hO80).lo hk112)).base_le e'; first | omega | (exfalso; omega) | exact e' | exact .inl e' | exact .inr e')
        have hS121 := ((Kp.refl w77 : Kp (fun b_ => Ax_Maps = some ⟨b_, 0, none⟩) w77 w77).lo hk112).step hk116 (fun _ _ e => e)
        rw [List.set_set] at hO118
        have hx122 : (x.Maps.set k.toNat ({ ({ (gt x.Maps k.toNat) with Copies := IntKind.i64.wrap (((gt x.Maps k.toNat).Copies) + 1) }) with Torn := IntKind.i64.wrap (((gt x.Maps k.toNat).Torn) + s.Value) }))[k.toNat]? = some ({ ({ (gt x.Maps k.toNat) with Copies := IntKind.i64.wrap (((gt x.Maps k.toNat).Copies) + 1) }) with Torn := IntKind.i64.wrap (((gt x.Maps k.toNat).Torn) + s.Value) }) := List.getElem?_set_self (List.getElem?_eq_some_iff.1 hx35).1
        refine SR.nil ⟨hS121, _, rfl, ?_⟩
        refine AH.done (by kernel_rfl) ?_
        exact ⟨⟨rfl, rfl, rfl, rfl, trivial⟩, hS121, (hO118), hx122⟩
      rintro f123 w124 ⟨hat126, hR125, hm110, hx109⟩
      rw [← sets_of_at hat126]
      have hz127 := hR125.size
      have hB128 := hB82.step hR125 (fun i_ hi_ e' => by have := ((hO80)).base_le e'; first | omega | (exfalso; omega) | exact e' | exact .inl e' | exact .inr e')
      refine W.seq ?_
      have hm129 := ((hm31).kp hk78 (fun e' => hd9 e')).kp hR125 (fun e' => hd9 e')
      have hm130 := ((hm33).kp hk78 (fun b_ hb e' => hdx_Maps_x_Away b_ e' hb)).kp hR125 (fun b_ hb e' => hdx_Maps_x_Away b_ e' hb)
      have hm131 := ((hb26).kp hk78 (fun e' => hd29 e')).kp hR125 (fun e' => hd29 e')
      refine W.regS (SR.q' (r_lda (l := [.slice Ax_Maps nx_Maps cx_Maps, .slice Ax_Away nx_Away cx_Away, .int .i64 x.Bought, .int .i64 x.Dropped, .int .i64 x.Mended]) agg27 rfl (fun _ _ hu => (hm129).cell hu) rfl) <| SR.q' (r_fa fa29_1 rfl) <| SR.q' (r_ld (v := .int .i64 s.Id) sca3 rfl (((hm84).kp hR125 (fun e' => hd19 e')).cell rfl)) <| SR.q' (r_fa fa29_2 rfl) <| SR.q' (r_ld (v := .int .i64 s.Reader) sca3 rfl (((hm84).kp hR125 (fun e' => hd19 e')).cell rfl)) <| SR.call ent63 (c__impl_Library__fetch w124 (⟨x.Maps.set k.toNat ({ ({ (gt x.Maps k.toNat) with Copies := IntKind.i64.wrap (((gt x.Maps k.toNat).Copies) + 1) }) with Torn := IntKind.i64.wrap (((gt x.Maps k.toNat).Torn) + s.Value) }), x.Away, x.Bought, x.Dropped, x.Mended⟩ : Library) (hm110) (hm130) s.Id s.Reader hdx_Maps_x_Away (by omega) (by omega)) rfl ?_)
      rintro e w132 ⟨A134, n135, c136, A138, n139, c140, rfl, hO137, hO141, hd142, hN143, hN144, hk133⟩
      refine ⟨_, rfl, ?_⟩
      have hz145 := hk133.size
      have hB146 := hB128.step hk133 (fun i_ hi_ e' => e'.elim (fun e' => by have := ((hm110)).base_le e'; first | omega | (exfalso; omega) | exact e' | exact .inl e' | exact .inr e') (fun e' => by have := ((hm130)).base_le e'; first | omega | (exfalso; omega) | exact e' | exact .inl e' | exact .inr e'))
      have hd149 : ¬ A134 = some ⟨g21, 0, none⟩ := fun e' => (hN143 g21 e').elim (fun h => h.elim (fun h => hd29 h) (fun h => hd30 h)) (fun h => by have := (hm131).lt; omega)
      have hd152 : ¬ A138 = some ⟨g21, 0, none⟩ := fun e' => (hN144 g21 e').elim (fun h => h.elim (fun h => hd29 h) (fun h => hd30 h)) (fun h => by have := (hm131).lt; omega)
      have hl153 := hO137.len
      have hl154 := hO137.rd.bound
      have hq155 := fetch_lenMaps (⟨x.Maps.set k.toNat ({ ({ (gt x.Maps k.toNat) with Copies := IntKind.i64.wrap (((gt x.Maps k.toNat).Copies) + 1) }) with Torn := IntKind.i64.wrap (((gt x.Maps k.toNat).Torn) + s.Value) }), x.Away, x.Bought, x.Dropped, x.Mended⟩ : Library) s.Id s.Reader
      have hl156 := hO141.len
      have hl157 := hO141.rd.bound
      have hq158 := fetch_lenAway (⟨x.Maps.set k.toNat ({ ({ (gt x.Maps k.toNat) with Copies := IntKind.i64.wrap (((gt x.Maps k.toNat).Copies) + 1) }) with Torn := IntKind.i64.wrap (((gt x.Maps k.toNat).Torn) + s.Value) }), x.Away, x.Bought, x.Dropped, x.Mended⟩ : Library) s.Id s.Reader
      refine SR.q' (r_ext (v := .agg (List.toArray _)) rfl rfl) <| SR.q' (r_ext (v := .bool _) rfl rfl) <| SR.store (o := 0) (vs := [.slice A134 n135 c136, .slice A138 n139 c140, .int .i64 (((impl_Library_fetch (⟨x.Maps.set k.toNat ({ ({ (gt x.Maps k.toNat) with Copies := IntKind.i64.wrap (((gt x.Maps k.toNat).Copies) + 1) }) with Torn := IntKind.i64.wrap (((gt x.Maps k.toNat).Torn) + s.Value) }), x.Away, x.Bought, x.Dropped, x.Mended⟩ : Library) s.Id s.Reader).1).Bought), .int .i64 (((impl_Library_fetch (⟨x.Maps.set k.toNat ({ ({ (gt x.Maps k.toNat) with Copies := IntKind.i64.wrap (((gt x.Maps k.toNat).Copies) + 1) }) with Torn := IntKind.i64.wrap (((gt x.Maps k.toNat).Torn) + s.Value) }), x.Away, x.Bought, x.Dropped, x.Mended⟩ : Library) s.Id s.Reader).1).Dropped), .int .i64 (((impl_Library_fetch (⟨x.Maps.set k.toNat ({ ({ (gt x.Maps k.toNat) with Copies := IntKind.i64.wrap (((gt x.Maps k.toNat).Copies) + 1) }) with Torn := IntKind.i64.wrap (((gt x.Maps k.toNat).Torn) + s.Value) }), x.Away, x.Bought, x.Dropped, x.Mended⟩ : Library) s.Id s.Reader).1).Mended)]) agg27.2 rfl rfl rfl rfl ((hm131).kp hk133 (fun e' => e'.elim (fun e' => hd29 e') (fun e' => hd30 e'))) (Nat.le_of_ble_eq_true rfl) rfl ?_
      intro w159 hk160 hs161 hb162
      have hz163 := hk160.size
      have hB164 := hB146.new hk160 (by omega)
      refine SR.q' (r_as (v := .bool _) rfl) <| SR.nil ?_
      refine W.ret ?_
      refine retCT rfl rfl agg27 (hb162) rfl (v := .bool _) rfl ?_
      exact ⟨A134, n135, c136, A138, n139, c140, eR (eT2 (eA (eC rfl (eC rfl (eC (eI (by subst hl153 hl156; unfold impl_Library_use; rw [if_neg h36, if_pos h76] <;> rfl)) (eC (eI (by subst hl153 hl156; unfold impl_Library_use; rw [if_neg h36, if_pos h76] <;> rfl)) (eC (eI (by subst hl153 hl156; unfold impl_Library_use; rw [if_neg h36, if_pos h76] <;> rfl)) rfl)))))) (eB (by subst hl153 hl156; unfold impl_Library_use; rw [if_neg h36, if_pos h76] <;> rfl))), (SlO.eqv ((hO137).kd hk160 hd149) (by subst hl153 hl156; unfold impl_Library_use; rw [if_neg h36, if_pos h76] <;> rfl)), (SlO.eqv ((hO141).kd hk160 hd152) (by subst hl153 hl156; unfold impl_Library_use; rw [if_neg h36, if_pos h76] <;> rfl)), hd142, (fun b_ h_ => (hN143 b_ h_).elim (fun h => h.elim (fun h => ((show ∀ b_, Ax_Maps = some ⟨b_, 0, none⟩ → (Ax_Maps = some ⟨b_, 0, none⟩ ∨ Ax_Away = some ⟨b_, 0, none⟩) ∨ w.heap.size ≤ b_ from (fun b_ h_ => .inl (.inl h_))) b_ h)) (fun h => ((show ∀ b_, Ax_Away = some ⟨b_, 0, none⟩ → (Ax_Maps = some ⟨b_, 0, none⟩ ∨ Ax_Away = some ⟨b_, 0, none⟩) ∨ w.heap.size ≤ b_ from (fun b_ h_ => .inl (.inr (h_)))) b_ h))) (fun h => .inr (by omega))), (fun b_ h_ => (hN144 b_ h_).elim (fun h => h.elim (fun h => ((show ∀ b_, Ax_Maps = some ⟨b_, 0, none⟩ → (Ax_Maps = some ⟨b_, 0, none⟩ ∨ Ax_Away = some ⟨b_, 0, none⟩) ∨ w.heap.size ≤ b_ from (fun b_ h_ => .inl (.inl h_))) b_ h)) (fun h => ((show ∀ b_, Ax_Away = some ⟨b_, 0, none⟩ → (Ax_Maps = some ⟨b_, 0, none⟩ ∨ Ax_Away = some ⟨b_, 0, none⟩) ∨ w.heap.size ≤ b_ from (fun b_ h_ => .inl (.inr (h_)))) b_ h))) (fun h => .inr (by omega))), hB164⟩
    · refine W.seq ?_
      refine W.regS (SR.q' (r_eq rfl rfl) <| SR.q' (r_as (v := .bool _) rfl) <| SR.nil ?_)
      refine W.cond_d rfl (fun h165 => ?_) (fun h165 => ?_)
      · refine W.seq ?_
        refine W.regS (SR.q' (r_lda (l := [.slice Ax_Maps nx_Maps cx_Maps, .slice Ax_Away nx_Away cx_Away, .int .i64 x.Bought, .int .i64 x.Dropped, .int .i64 x.Mended]) agg27 rfl (fun _ _ hu => (hm31).cell hu) rfl) <| SR.q' (r_lda (l := [.int .i64 s.Kind, .int .i64 s.Id, .int .i64 s.Reader, .int .i64 s.Value]) agg29 rfl (fun _ _ hu => ((hb16).lo hk24).cell hu) rfl) <| SR.call ent64 (c__impl_Library__hand w22 x (hm32) (hm33) s hdx_Maps_x_Away (by omega) (by omega)) rfl ?_)
        rintro e w166 ⟨A168, n169, c170, A172, n173, c174, rfl, hO171, hO175, hd176, hN177, hN178, hk167⟩
        refine ⟨_, rfl, ?_⟩
        have hz179 := hk167.size
        have hB180 := hB28.step hk167 (fun i_ hi_ e' => e'.elim (fun e' => by have := ((hm32)).base_le e'; first | omega | (exfalso; omega) | exact e' | exact .inl e' | exact .inr e') (fun e' => by have := ((hm33)).base_le e'; first | omega | (exfalso; omega) | exact e' | exact .inl e' | exact .inr e'))
        have hd183 : ¬ A168 = some ⟨g21, 0, none⟩ := fun e' => (hN177 g21 e').elim (fun h => h.elim (fun h => hd29 h) (fun h => hd30 h)) (fun h => by have := (hb26).lt; omega)
        have hd186 : ¬ A172 = some ⟨g21, 0, none⟩ := fun e' => (hN178 g21 e').elim (fun h => h.elim (fun h => hd29 h) (fun h => hd30 h)) (fun h => by have := (hb26).lt; omega)
        have hl187 := hO171.len
        have hl188 := hO171.rd.bound
        have hl189 := hO175.len
        have hl190 := hO175.rd.bound
        refine SR.q' (r_ext (v := .agg (List.toArray _)) rfl rfl) <| SR.q' (r_ext (v := .bool _) rfl rfl) <| SR.store (o := 0) (vs := [.slice A168 n169 c170, .slice A172 n173 c174, .int .i64 (((impl_Library_hand x s).1).Bought), .int .i64 (((impl_Library_hand x s).1).Dropped), .int .i64 (((impl_Library_hand x s).1).Mended)]) agg27.2 rfl rfl rfl rfl ((hb26).kp hk167 (fun e' => e'.elim (fun e' => hd29 e') (fun e' => hd30 e'))) (Nat.le_of_ble_eq_true rfl) rfl ?_
        intro w191 hk192 hs193 hb194
        have hz195 := hk192.size
        have hB196 := hB180.new hk192 (by omega)
        refine SR.q' (r_as (v := .bool _) rfl) <| SR.nil ?_
        refine W.ret ?_
        refine retCT rfl rfl agg27 (hb194) rfl (v := .bool _) rfl ?_
        exact ⟨A168, n169, c170, A172, n173, c174, eR (eT2 (eA (eC rfl (eC rfl (eC (eI (by subst hl187 hl189; unfold impl_Library_use; rw [if_neg h36, if_neg h76, if_pos h165] <;> rfl)) (eC (eI (by subst hl187 hl189; unfold impl_Library_use; rw [if_neg h36, if_neg h76, if_pos h165] <;> rfl)) (eC (eI (by subst hl187 hl189; unfold impl_Library_use; rw [if_neg h36, if_neg h76, if_pos h165] <;> rfl)) rfl)))))) (eB (by subst hl187 hl189; unfold impl_Library_use; rw [if_neg h36, if_neg h76, if_pos h165] <;> rfl))), (SlO.eqv ((hO171).kd hk192 hd183) (by subst hl187 hl189; unfold impl_Library_use; rw [if_neg h36, if_neg h76, if_pos h165] <;> rfl)), (SlO.eqv ((hO175).kd hk192 hd186) (by subst hl187 hl189; unfold impl_Library_use; rw [if_neg h36, if_neg h76, if_pos h165] <;> rfl)), hd176, (fun b_ h_ => (hN177 b_ h_).elim (fun h => h.elim (fun h => ((show ∀ b_, Ax_Maps = some ⟨b_, 0, none⟩ → (Ax_Maps = some ⟨b_, 0, none⟩ ∨ Ax_Away = some ⟨b_, 0, none⟩) ∨ w.heap.size ≤ b_ from (fun b_ h_ => .inl (.inl h_))) b_ h)) (fun h => ((show ∀ b_, Ax_Away = some ⟨b_, 0, none⟩ → (Ax_Maps = some ⟨b_, 0, none⟩ ∨ Ax_Away = some ⟨b_, 0, none⟩) ∨ w.heap.size ≤ b_ from (fun b_ h_ => .inl (.inr (h_)))) b_ h))) (fun h => .inr (by omega))), (fun b_ h_ => (hN178 b_ h_).elim (fun h => h.elim (fun h => ((show ∀ b_, Ax_Maps = some ⟨b_, 0, none⟩ → (Ax_Maps = some ⟨b_, 0, none⟩ ∨ Ax_Away = some ⟨b_, 0, none⟩) ∨ w.heap.size ≤ b_ from (fun b_ h_ => .inl (.inl h_))) b_ h)) (fun h => ((show ∀ b_, Ax_Away = some ⟨b_, 0, none⟩ → (Ax_Maps = some ⟨b_, 0, none⟩ ∨ Ax_Away = some ⟨b_, 0, none⟩) ∨ w.heap.size ≤ b_ from (fun b_ h_ => .inl (.inr (h_)))) b_ h))) (fun h => .inr (by omega))), hB196⟩
      · refine W.seq ?_
        refine W.regS (SR.q' (r_eq rfl rfl) <| SR.q' (r_as (v := .bool _) rfl) <| SR.nil ?_)
        refine W.cond_d rfl (fun h197 => ?_) (fun h197 => ?_)
        · refine W.seq ?_
          refine W.regA (Kp (fun b_ => Ax_Maps = some ⟨b_, 0, none⟩) w22) (fun f' w' => At f' [(3, .pointer (pA g1)), (4, .pointer (pA g11)), (6, .pointer (pA g21)), (7, .bool false)] ∧ (Kp (fun b_ => Ax_Maps = some ⟨b_, 0, none⟩) w22 w') ∧ (SlO w' Bx_Maps encLMap 3 59 Ax_Maps nx_Maps cx_Maps (x.Maps.set k.toNat ({ (gt x.Maps k.toNat) with Torn := IntKind.i64.wrap (((gt x.Maps k.toNat).Torn) - s.Value) }))) ∧ ((x.Maps.set k.toNat ({ (gt x.Maps k.toNat) with Torn := IntKind.i64.wrap (((gt x.Maps k.toNat).Torn) - s.Value) }))[k.toNat]? = some ({ (gt x.Maps k.toNat) with Torn := IntKind.i64.wrap (((gt x.Maps k.toNat).Torn) - s.Value) }))) mo ?_ ?_
          · intro w224 hk225
            have hz226 := hk225.size
            have hB227 := hB28.lo hk225
            refine AH.take 0 rfl (by kernel_rfl) trivial ((Kp.refl w22 : Kp (fun b_ => Ax_Maps = some ⟨b_, 0, none⟩) w22 w22).lo hk225) (fun w' hw' => r_mv (v := .pointer (some _)) rfl) <| AH.take 1 rfl (by kernel_rfl) trivial ((Kp.refl w22 : Kp (fun b_ => Ax_Maps = some ⟨b_, 0, none⟩) w22 w22).lo hk225) (fun w' hw' => r_nilp rfl) <| AH.take 2 rfl (by kernel_rfl) trivial ((Kp.refl w22 : Kp (fun b_ => Ax_Maps = some ⟨b_, 0, none⟩) w22 w22).lo hk225) (fun w' hw' => r_fa fa59_2 rfl) <| AH.take 4 rfl (by kernel_rfl) trivial ((Kp.refl w22 : Kp (fun b_ => Ax_Maps = some ⟨b_, 0, none⟩) w22 w22).lo hk225) (fun w' hw' => r_fa fa29_3 rfl) <| AH.take 5 rfl (by kernel_rfl) trivial ((Kp.refl w22 : Kp (fun b_ => Ax_Maps = some ⟨b_, 0, none⟩) w22 w22).lo hk225) (fun w' hw' => r_ld (v := .int .i64 s.Value) sca3 rfl ((((hb16).lo hk24).kp hw' (fun e' => hd19 e')).cell rfl)) <| AH.br [3] (by kernel_rfl) rfl ⟨Br.mk' rfl trivial ?_, trivial⟩
            refine SR.q' (r_ld (v := .int .i64 ((gt x.Maps k.toNat).Torn)) sca3 rfl ((((hm32).lo hk225).rd).cell hx35 rfl)) ?_
            refine SR.nil ⟨(Kp.refl w22 : Kp (fun b_ => Ax_Maps = some ⟨b_, 0, none⟩) w22 w22).lo hk225, _, rfl, ?_⟩
            refine AH.take 6 rfl (by kernel_rfl) trivial ((Kp.refl w22 : Kp (fun b_ => Ax_Maps = some ⟨b_, 0, none⟩) w22 w22).lo hk225) (fun w' hw' => r_subW rfl rfl) <| AH.take 7 rfl (by kernel_rfl) trivial ((Kp.refl w22 : Kp (fun b_ => Ax_Maps = some ⟨b_, 0, none⟩) w22 w22).lo hk225) (fun w' hw' => r_nilp rfl) <| AH.take 8 rfl (by kernel_rfl) trivial ((Kp.refl w22 : Kp (fun b_ => Ax_Maps = some ⟨b_, 0, none⟩) w22 w22).lo hk225) (fun w' hw' => r_fa fa59_2 rfl) <| AH.br [9] (by kernel_rfl) rfl ⟨Br.mk' rfl trivial ?_, trivial⟩
            refine SR.storeO (o := 2) (vs := [.int .i64 (IntKind.i64.wrap (((gt x.Maps k.toNat).Torn) - s.Value))]) (x1 := { (gt x.Maps k.toNat) with Torn := IntKind.i64.wrap (((gt x.Maps k.toNat).Torn) - s.Value) }) sca3.2 rfl (add_add _ _ _) rfl rfl ((hm32).lo hk225) hx35 rfl (Nat.le_of_ble_eq_true rfl) rfl ?_
            intro w228 hk229 hs230 hO231
            have hz232 := hk229.size
            have hB233 := hB227.step hk229 (fun i_ hi_ e' => by have := (((hm32).lo hk225)).base_le e'; first | omega | (exfalso; omega) | exact e' | exact .inl e' | exact .inr e')
            have hS234 := ((Kp.refl w22 : Kp (fun b_ => Ax_Maps = some ⟨b_, 0, none⟩) w22 w22).lo hk225).step hk229 (fun _ _ e => e)
            have hx235 : (x.Maps.set k.toNat ({ (gt x.Maps k.toNat) with Torn := IntKind.i64.wrap (((gt x.Maps k.toNat).Torn) - s.Value) }))[k.toNat]? = some ({ (gt x.Maps k.toNat) with Torn := IntKind.i64.wrap (((gt x.Maps k.toNat).Torn) - s.Value) }) := List.getElem?_set_self (List.getElem?_eq_some_iff.1 hx35).1
            refine SR.nil ⟨hS234, _, rfl, ?_⟩
            refine AH.done (by kernel_rfl) ?_
            exact ⟨⟨rfl, rfl, rfl, rfl, trivial⟩, hS234, (hO231), hx235⟩
          rintro f236 w237 ⟨hat239, hR238, hm223, hx222⟩
          rw [← sets_of_at hat239]
          have hz240 := hR238.size
          have hB241 := hB28.step hR238 (fun i_ hi_ e' => by have := ((hm32)).base_le e'; first | omega | (exfalso; omega) | exact e' | exact .inl e' | exact .inr e')
          have hm242 := ((hb16).lo hk24).kp hR238 (fun e' => hd19 e')
          refine W.regS (SR.q' (r_fa fa27_4 rfl) <| SR.q' (r_ld (v := .int .i64 x.Mended) sca3 rfl (((hm31).kp hR238 (fun e' => hd9 e')).cell rfl)) <| SR.q' (r_fa fa29_3 rfl) <| SR.q' (r_ld (v := .int .i64 s.Value) sca3 rfl ((hm242).cell rfl)) <| SR.q' (r_addW rfl rfl) <| SR.q' (r_fa fa27_4 rfl) <| SR.store (o := 4) (vs := [.int .i64 (IntKind.i64.wrap (x.Mended + s.Value))]) sca3.2 rfl rfl rfl rfl ((hm31).kp hR238 (fun e' => hd9 e')) (Nat.le_of_ble_eq_true rfl) rfl ?_)
          intro w243 hk244 hs245 hb246
          have hz247 := hk244.size
          have hB248 := hB241.new hk244 (by omega)
          refine SR.nil ?_
          refine W.seq ?_
          have hm249 := ((hm33).kp hR238 (fun b_ hb e' => hdx_Maps_x_Away b_ e' hb)).kd hk244 hd10
          have hm250 := ((hb26).kp hR238 (fun e' => hd29 e')).kn hk244 (by omega)
          refine W.regS (SR.q' (r_lda (l := [.slice Ax_Maps nx_Maps cx_Maps, .slice Ax_Away nx_Away cx_Away, .int .i64 x.Bought, .int .i64 x.Dropped, .int .i64 (IntKind.i64.wrap (x.Mended + s.Value))]) agg27 rfl (fun _ _ hu => (hb246).cell hu) rfl) <| SR.store (o := 0) (vs := [.slice Ax_Maps nx_Maps cx_Maps, .slice Ax_Away nx_Away cx_Away, .int .i64 x.Bought, .int .i64 x.Dropped, .int .i64 (IntKind.i64.wrap (x.Mended + s.Value))]) agg27.2 rfl rfl rfl rfl (hm250) (Nat.le_of_ble_eq_true rfl) rfl ?_)
          intro w251 hk252 hs253 hb254
          have hz255 := hk252.size
          have hB256 := hB248.new hk252 (by omega)
          refine SR.q' (r_as (v := .bool true) rfl) <| SR.nil ?_
          refine W.ret ?_
          refine retCT rfl rfl agg27 (hb254) rfl (v := .bool _) rfl ?_
          exact ⟨Ax_Maps, nx_Maps, cx_Maps, Ax_Away, nx_Away, cx_Away, eR (eT2 (eA (eC rfl (eC rfl (eC (eI (by subst hlex_Maps hlex_Away; unfold impl_Library_use; rw [if_neg h36, if_neg h76, if_neg h165, if_pos h197] <;> rfl)) (eC (eI (by subst hlex_Maps hlex_Away; unfold impl_Library_use; rw [if_neg h36, if_neg h76, if_neg h165, if_pos h197] <;> rfl)) (eC (eI (by subst hlex_Maps hlex_Away; unfold impl_Library_use; rw [if_neg h36, if_neg h76, if_neg h165, if_pos h197] <;> rfl)) rfl)))))) (eB (by subst hlex_Maps hlex_Away; unfold impl_Library_use; rw [if_neg h36, if_neg h76, if_neg h165, if_pos h197] <;> rfl))), (SlO.eqv (((hm223).kd hk244 hd9).kd hk252 hd29) (by subst hlex_Maps hlex_Away; unfold impl_Library_use; rw [if_neg h36, if_neg h76, if_neg h165, if_pos h197] <;> rfl)), (SlO.eqv ((hm249).kd hk252 hd30) (by subst hlex_Maps hlex_Away; unfold impl_Library_use; rw [if_neg h36, if_neg h76, if_neg h165, if_pos h197] <;> rfl)), hdx_Maps_x_Away, (fun b_ h_ => .inl (.inl h_)), (fun b_ h_ => .inl (.inr (h_))), hB256⟩
        · refine W.seq ?_
          refine W.regS (SR.q' (r_eq rfl rfl) <| SR.q' (r_as (v := .bool _) rfl) <| SR.nil ?_)
          refine W.cond_d rfl (fun h257 => ?_) (fun h257 => ?_)
          · refine W.seq ?_
            refine W.regA (Kp (fun b_ => Ax_Maps = some ⟨b_, 0, none⟩) w22) (fun f' w' => At f' [(3, .pointer (pA g1)), (4, .pointer (pA g11)), (6, .pointer (pA g21)), (7, .bool false), (8, .pointer (some ((adr Ax_Maps).add (k.toNat * 3))))] ∧ (Kp (fun b_ => Ax_Maps = some ⟨b_, 0, none⟩) w22 w') ∧ (SlO w' Bx_Maps encLMap 3 59 Ax_Maps nx_Maps cx_Maps (x.Maps.set k.toNat ({ (gt x.Maps k.toNat) with Torn := IntKind.i64.wrap (((gt x.Maps k.toNat).Torn) - s.Value) }))) ∧ ((x.Maps.set k.toNat ({ (gt x.Maps k.toNat) with Torn := IntKind.i64.wrap (((gt x.Maps k.toNat).Torn) - s.Value) }))[k.toNat]? = some ({ (gt x.Maps k.toNat) with Torn := IntKind.i64.wrap (((gt x.Maps k.toNat).Torn) - s.Value) }))) mo ?_ ?_
            · intro w284 hk285
              have hz286 := hk285.size
              have hB287 := hB28.lo hk285
              refine AH.take 0 rfl (by kernel_rfl) trivial ((Kp.refl w22 : Kp (fun b_ => Ax_Maps = some ⟨b_, 0, none⟩) w22 w22).lo hk285) (fun w' hw' => r_mv (v := .pointer (some _)) rfl) <| AH.take 1 rfl (by kernel_rfl) trivial ((Kp.refl w22 : Kp (fun b_ => Ax_Maps = some ⟨b_, 0, none⟩) w22 w22).lo hk285) (fun w' hw' => r_nilp rfl) <| AH.take 2 rfl (by kernel_rfl) trivial ((Kp.refl w22 : Kp (fun b_ => Ax_Maps = some ⟨b_, 0, none⟩) w22 w22).lo hk285) (fun w' hw' => r_fa fa59_2 rfl) <| AH.take 4 rfl (by kernel_rfl) trivial ((Kp.refl w22 : Kp (fun b_ => Ax_Maps = some ⟨b_, 0, none⟩) w22 w22).lo hk285) (fun w' hw' => r_fa fa29_3 rfl) <| AH.take 5 rfl (by kernel_rfl) trivial ((Kp.refl w22 : Kp (fun b_ => Ax_Maps = some ⟨b_, 0, none⟩) w22 w22).lo hk285) (fun w' hw' => r_ld (v := .int .i64 s.Value) sca3 rfl ((((hb16).lo hk24).kp hw' (fun e' => hd19 e')).cell rfl)) <| AH.br [3] (by kernel_rfl) rfl ⟨Br.mk' rfl trivial ?_, trivial⟩
              refine SR.q' (r_ld (v := .int .i64 ((gt x.Maps k.toNat).Torn)) sca3 rfl ((((hm32).lo hk285).rd).cell hx35 rfl)) ?_
              refine SR.nil ⟨(Kp.refl w22 : Kp (fun b_ => Ax_Maps = some ⟨b_, 0, none⟩) w22 w22).lo hk285, _, rfl, ?_⟩
              refine AH.take 6 rfl (by kernel_rfl) trivial ((Kp.refl w22 : Kp (fun b_ => Ax_Maps = some ⟨b_, 0, none⟩) w22 w22).lo hk285) (fun w' hw' => r_subW rfl rfl) <| AH.take 7 rfl (by kernel_rfl) trivial ((Kp.refl w22 : Kp (fun b_ => Ax_Maps = some ⟨b_, 0, none⟩) w22 w22).lo hk285) (fun w' hw' => r_nilp rfl) <| AH.take 8 rfl (by kernel_rfl) trivial ((Kp.refl w22 : Kp (fun b_ => Ax_Maps = some ⟨b_, 0, none⟩) w22 w22).lo hk285) (fun w' hw' => r_fa fa59_2 rfl) <| AH.br [9] (by kernel_rfl) rfl ⟨Br.mk' rfl trivial ?_, trivial⟩
              refine SR.storeO (o := 2) (vs := [.int .i64 (IntKind.i64.wrap (((gt x.Maps k.toNat).Torn) - s.Value))]) (x1 := { (gt x.Maps k.toNat) with Torn := IntKind.i64.wrap (((gt x.Maps k.toNat).Torn) - s.Value) }) sca3.2 rfl (add_add _ _ _) rfl rfl ((hm32).lo hk285) hx35 rfl (Nat.le_of_ble_eq_true rfl) rfl ?_
              intro w288 hk289 hs290 hO291
              have hz292 := hk289.size
              have hB293 := hB287.step hk289 (fun i_ hi_ e' => by have := (((hm32).lo hk285)).base_le e'; first | omega | (exfalso; omega) | exact e' | exact .inl e' | exact .inr e')
              have hS294 := ((Kp.refl w22 : Kp (fun b_ => Ax_Maps = some ⟨b_, 0, none⟩) w22 w22).lo hk285).step hk289 (fun _ _ e => e)
              have hx295 : (x.Maps.set k.toNat ({ (gt x.Maps k.toNat) with Torn := IntKind.i64.wrap (((gt x.Maps k.toNat).Torn) - s.Value) }))[k.toNat]? = some ({ (gt x.Maps k.toNat) with Torn := IntKind.i64.wrap (((gt x.Maps k.toNat).Torn) - s.Value) }) := List.getElem?_set_self (List.getElem?_eq_some_iff.1 hx35).1
              refine SR.nil ⟨hS294, _, rfl, ?_⟩
              refine AH.done (by kernel_rfl) ?_
              exact ⟨⟨rfl, rfl, rfl, rfl, rfl, trivial⟩, hS294, (hO291), hx295⟩
            rintro f296 w297 ⟨hat299, hR298, hm283, hx282⟩
            rw [← sets_of_at hat299]
            have hz300 := hR298.size
            have hB301 := hB28.step hR298 (fun i_ hi_ e' => by have := ((hm32)).base_le e'; first | omega | (exfalso; omega) | exact e' | exact .inl e' | exact .inr e')
            refine W.seq ?_
            have hm302 := ((hb16).lo hk24).kp hR298 (fun e' => hd19 e')
            refine W.regA (Kp (fun b_ => Ax_Maps = some ⟨b_, 0, none⟩) w297) (fun f' w' => At f' [(3, .pointer (pA g1)), (4, .pointer (pA g11)), (6, .pointer (pA g21)), (7, .bool false)] ∧ (Kp (fun b_ => Ax_Maps = some ⟨b_, 0, none⟩) w297 w') ∧ (SlO w' Bx_Maps encLMap 3 59 Ax_Maps nx_Maps cx_Maps ((x.Maps.set k.toNat ({ (gt x.Maps k.toNat) with Torn := IntKind.i64.wrap (((gt x.Maps k.toNat).Torn) - s.Value) })).set k.toNat ({ ({ (gt x.Maps k.toNat) with Torn := IntKind.i64.wrap (((gt x.Maps k.toNat).Torn) - s.Value) }) with Copies := IntKind.i64.wrap (((gt x.Maps k.toNat).Copies) - s.Value) }))) ∧ (((x.Maps.set k.toNat ({ (gt x.Maps k.toNat) with Torn := IntKind.i64.wrap (((gt x.Maps k.toNat).Torn) - s.Value) })).set k.toNat ({ ({ (gt x.Maps k.toNat) with Torn := IntKind.i64.wrap (((gt x.Maps k.toNat).Torn) - s.Value) }) with Copies := IntKind.i64.wrap (((gt x.Maps k.toNat).Copies) - s.Value) }))[k.toNat]? = some ({ ({ (gt x.Maps k.toNat) with Torn := IntKind.i64.wrap (((gt x.Maps k.toNat).Torn) - s.Value) }) with Copies := IntKind.i64.wrap (((gt x.Maps k.toNat).Copies) - s.Value) }))) mo ?_ ?_
            · intro w329 hk330
              have hz331 := hk330.size
              have hB332 := hB301.lo hk330
              refine AH.take 0 rfl (by kernel_rfl) trivial ((Kp.refl w297 : Kp (fun b_ => Ax_Maps = some ⟨b_, 0, none⟩) w297 w297).lo hk330) (fun w' hw' => r_mv (v := .pointer (some _)) rfl) <| AH.take 1 rfl (by kernel_rfl) trivial ((Kp.refl w297 : Kp (fun b_ => Ax_Maps = some ⟨b_, 0, none⟩) w297 w297).lo hk330) (fun w' hw' => r_nilp rfl) <| AH.take 2 rfl (by kernel_rfl) trivial ((Kp.refl w297 : Kp (fun b_ => Ax_Maps = some ⟨b_, 0, none⟩) w297 w297).lo hk330) (fun w' hw' => r_fa fa59_1 rfl) <| AH.take 4 rfl (by kernel_rfl) trivial ((Kp.refl w297 : Kp (fun b_ => Ax_Maps = some ⟨b_, 0, none⟩) w297 w297).lo hk330) (fun w' hw' => r_fa fa29_3 rfl) <| AH.take 5 rfl (by kernel_rfl) trivial ((Kp.refl w297 : Kp (fun b_ => Ax_Maps = some ⟨b_, 0, none⟩) w297 w297).lo hk330) (fun w' hw' => r_ld (v := .int .i64 s.Value) sca3 rfl (((hm302).kp hw' (fun e' => hd19 e')).cell rfl)) <| AH.br [3] (by kernel_rfl) rfl ⟨Br.mk' rfl trivial ?_, trivial⟩
              refine SR.q' (r_ld (v := .int .i64 ((gt x.Maps k.toNat).Copies)) sca3 rfl ((((hm283).lo hk330).rd).cell hx282 rfl)) ?_
              refine SR.nil ⟨(Kp.refl w297 : Kp (fun b_ => Ax_Maps = some ⟨b_, 0, none⟩) w297 w297).lo hk330, _, rfl, ?_⟩
              refine AH.take 6 rfl (by kernel_rfl) trivial ((Kp.refl w297 : Kp (fun b_ => Ax_Maps = some ⟨b_, 0, none⟩) w297 w297).lo hk330) (fun w' hw' => r_subW rfl rfl) <| AH.take 7 rfl (by kernel_rfl) trivial ((Kp.refl w297 : Kp (fun b_ => Ax_Maps = some ⟨b_, 0, none⟩) w297 w297).lo hk330) (fun w' hw' => r_nilp rfl) <| AH.take 8 rfl (by kernel_rfl) trivial ((Kp.refl w297 : Kp (fun b_ => Ax_Maps = some ⟨b_, 0, none⟩) w297 w297).lo hk330) (fun w' hw' => r_fa fa59_1 rfl) <| AH.br [9] (by kernel_rfl) rfl ⟨Br.mk' rfl trivial ?_, trivial⟩
              refine SR.storeO (o := 1) (vs := [.int .i64 (IntKind.i64.wrap (((gt x.Maps k.toNat).Copies) - s.Value))]) (x1 := { ({ (gt x.Maps k.toNat) with Torn := IntKind.i64.wrap (((gt x.Maps k.toNat).Torn) - s.Value) }) with Copies := IntKind.i64.wrap (((gt x.Maps k.toNat).Copies) - s.Value) }) sca3.2 rfl (add_add _ _ _) rfl rfl ((hm283).lo hk330) hx282 rfl (Nat.le_of_ble_eq_true rfl) rfl ?_
              intro w333 hk334 hs335 hO336
              have hz337 := hk334.size
              have hB338 := hB332.step hk334 (fun i_ hi_ e' => by have := (((hm283).lo hk330)).base_le e'; first | omega | (exfalso; omega) | exact e' | exact .inl e' | exact .inr e')
              have hS339 := ((Kp.refl w297 : Kp (fun b_ => Ax_Maps = some ⟨b_, 0, none⟩) w297 w297).lo hk330).step hk334 (fun _ _ e => e)
              have hx340 : ((x.Maps.set k.toNat ({ (gt x.Maps k.toNat) with Torn := IntKind.i64.wrap (((gt x.Maps k.toNat).Torn) - s.Value) })).set k.toNat ({ ({ (gt x.Maps k.toNat) with Torn := IntKind.i64.wrap (((gt x.Maps k.toNat).Torn) - s.Value) }) with Copies := IntKind.i64.wrap (((gt x.Maps k.toNat).Copies) - s.Value) }))[k.toNat]? = some ({ ({ (gt x.Maps k.toNat) with Torn := IntKind.i64.wrap (((gt x.Maps k.toNat).Torn) - s.Value) }) with Copies := IntKind.i64.wrap (((gt x.Maps k.toNat).Copies) - s.Value) }) := List.getElem?_set_self (List.getElem?_eq_some_iff.1 hx282).1
              refine SR.nil ⟨hS339, _, rfl, ?_⟩
              refine AH.done (by kernel_rfl) ?_
              exact ⟨⟨rfl, rfl, rfl, rfl, trivial⟩, hS339, (hO336), hx340⟩
            rintro f341 w342 ⟨hat344, hR343, hm328, hx327⟩
            rw [← sets_of_at hat344]
            have hz345 := hR343.size
            have hB346 := hB301.step hR343 (fun i_ hi_ e' => by have := ((hm283)).base_le e'; first | omega | (exfalso; omega) | exact e' | exact .inl e' | exact .inr e')
            have hm347 := ((hm31).kp hR298 (fun e' => hd9 e')).kp hR343 (fun e' => hd9 e')
            have hm348 := ((hm33).kp hR298 (fun b_ hb e' => hdx_Maps_x_Away b_ e' hb)).kp hR343 (fun b_ hb e' => hdx_Maps_x_Away b_ e' hb)
            have hm349 := ((hb26).kp hR298 (fun e' => hd29 e')).kp hR343 (fun e' => hd29 e')
            refine W.regS (SR.q' (r_fa fa27_3 rfl) <| SR.q' (r_ld (v := .int .i64 x.Dropped) sca3 rfl ((hm347).cell rfl)) <| SR.q' (r_fa fa29_3 rfl) <| SR.q' (r_ld (v := .int .i64 s.Value) sca3 rfl (((hm302).kp hR343 (fun e' => hd19 e')).cell rfl)) <| SR.q' (r_addW rfl rfl) <| SR.q' (r_fa fa27_3 rfl) <| SR.store (o := 3) (vs := [.int .i64 (IntKind.i64.wrap (x.Dropped + s.Value))]) sca3.2 rfl rfl rfl rfl (hm347) (Nat.le_of_ble_eq_true rfl) rfl ?_)
            intro w350 hk351 hs352 hb353
            have hz354 := hk351.size
            have hB355 := hB346.new hk351 (by omega)
            refine SR.nil ?_
            refine W.seq ?_
            refine W.regS (SR.q' (r_lda (l := [.slice Ax_Maps nx_Maps cx_Maps, .slice Ax_Away nx_Away cx_Away, .int .i64 x.Bought, .int .i64 (IntKind.i64.wrap (x.Dropped + s.Value)), .int .i64 x.Mended]) agg27 rfl (fun _ _ hu => (hb353).cell hu) rfl) <| SR.store (o := 0) (vs := [.slice Ax_Maps nx_Maps cx_Maps, .slice Ax_Away nx_Away cx_Away, .int .i64 x.Bought, .int .i64 (IntKind.i64.wrap (x.Dropped + s.Value)), .int .i64 x.Mended]) agg27.2 rfl rfl rfl rfl ((hm349).kn hk351 (by omega)) (Nat.le_of_ble_eq_true rfl) rfl ?_)
            intro w356 hk357 hs358 hb359
            have hz360 := hk357.size
            have hB361 := hB355.new hk357 (by omega)
            refine SR.q' (r_as (v := .bool true) rfl) <| SR.nil ?_
            refine W.ret ?_
            refine retCT rfl rfl agg27 (hb359) rfl (v := .bool _) rfl ?_
            exact ⟨Ax_Maps, nx_Maps, cx_Maps, Ax_Away, nx_Away, cx_Away, eR (eT2 (eA (eC rfl (eC rfl (eC (eI (by subst hlex_Maps hlex_Away; unfold impl_Library_use; rw [if_neg h36, if_neg h76, if_neg h165, if_neg h197, if_pos h257] <;> rfl)) (eC (eI (by subst hlex_Maps hlex_Away; unfold impl_Library_use; rw [if_neg h36, if_neg h76, if_neg h165, if_neg h197, if_pos h257] <;> rfl)) (eC (eI (by subst hlex_Maps hlex_Away; unfold impl_Library_use; rw [if_neg h36, if_neg h76, if_neg h165, if_neg h197, if_pos h257] <;> rfl)) rfl)))))) (eB (by subst hlex_Maps hlex_Away; unfold impl_Library_use; rw [if_neg h36, if_neg h76, if_neg h165, if_neg h197, if_pos h257] <;> rfl))), (SlO.eqv (((hm328).kd hk351 hd9).kd hk357 hd29) (by subst hlex_Maps hlex_Away; unfold impl_Library_use; rw [if_neg h36, if_neg h76, if_neg h165, if_neg h197, if_pos h257] <;> rfl)), (SlO.eqv (((hm348).kd hk351 hd10).kd hk357 hd30) (by subst hlex_Maps hlex_Away; unfold impl_Library_use; rw [if_neg h36, if_neg h76, if_neg h165, if_neg h197, if_pos h257] <;> rfl)), hdx_Maps_x_Away, (fun b_ h_ => .inl (.inl h_)), (fun b_ h_ => .inl (.inr (h_))), hB361⟩
          · refine W.regA (Kp (fun b_ => Ax_Maps = some ⟨b_, 0, none⟩) w22) (fun f' w' => At f' [(3, .pointer (pA g1)), (6, .pointer (pA g21)), (7, .bool false)] ∧ (Kp (fun b_ => Ax_Maps = some ⟨b_, 0, none⟩) w22 w') ∧ (SlO w' Bx_Maps encLMap 3 59 Ax_Maps nx_Maps cx_Maps (x.Maps.set k.toNat ({ (gt x.Maps k.toNat) with Torn := IntKind.i64.wrap (((gt x.Maps k.toNat).Torn) + s.Value) }))) ∧ ((x.Maps.set k.toNat ({ (gt x.Maps k.toNat) with Torn := IntKind.i64.wrap (((gt x.Maps k.toNat).Torn) + s.Value) }))[k.toNat]? = some ({ (gt x.Maps k.toNat) with Torn := IntKind.i64.wrap (((gt x.Maps k.toNat).Torn) + s.Value) }))) mo ?_ ?_
            · intro w388 hk389
              have hz390 := hk389.size
              have hB391 := hB28.lo hk389
              refine AH.take 0 rfl (by kernel_rfl) trivial ((Kp.refl w22 : Kp (fun b_ => Ax_Maps = some ⟨b_, 0, none⟩) w22 w22).lo hk389) (fun w' hw' => r_mv (v := .pointer (some _)) rfl) <| AH.take 1 rfl (by kernel_rfl) trivial ((Kp.refl w22 : Kp (fun b_ => Ax_Maps = some ⟨b_, 0, none⟩) w22 w22).lo hk389) (fun w' hw' => r_nilp rfl) <| AH.take 2 rfl (by kernel_rfl) trivial ((Kp.refl w22 : Kp (fun b_ => Ax_Maps = some ⟨b_, 0, none⟩) w22 w22).lo hk389) (fun w' hw' => r_fa fa59_2 rfl) <| AH.take 4 rfl (by kernel_rfl) trivial ((Kp.refl w22 : Kp (fun b_ => Ax_Maps = some ⟨b_, 0, none⟩) w22 w22).lo hk389) (fun w' hw' => r_fa fa29_3 rfl) <| AH.take 5 rfl (by kernel_rfl) trivial ((Kp.refl w22 : Kp (fun b_ => Ax_Maps = some ⟨b_, 0, none⟩) w22 w22).lo hk389) (fun w' hw' => r_ld (v := .int .i64 s.Value) sca3 rfl ((((hb16).lo hk24).kp hw' (fun e' => hd19 e')).cell rfl)) <| AH.br [3] (by kernel_rfl) rfl ⟨Br.mk' rfl trivial ?_, trivial⟩
              refine SR.q' (r_ld (v := .int .i64 ((gt x.Maps k.toNat).Torn)) sca3 rfl ((((hm32).lo hk389).rd).cell hx35 rfl)) ?_
              refine SR.nil ⟨(Kp.refl w22 : Kp (fun b_ => Ax_Maps = some ⟨b_, 0, none⟩) w22 w22).lo hk389, _, rfl, ?_⟩
              refine AH.take 6 rfl (by kernel_rfl) trivial ((Kp.refl w22 : Kp (fun b_ => Ax_Maps = some ⟨b_, 0, none⟩) w22 w22).lo hk389) (fun w' hw' => r_addW rfl rfl) <| AH.take 7 rfl (by kernel_rfl) trivial ((Kp.refl w22 : Kp (fun b_ => Ax_Maps = some ⟨b_, 0, none⟩) w22 w22).lo hk389) (fun w' hw' => r_nilp rfl) <| AH.take 8 rfl (by kernel_rfl) trivial ((Kp.refl w22 : Kp (fun b_ => Ax_Maps = some ⟨b_, 0, none⟩) w22 w22).lo hk389) (fun w' hw' => r_fa fa59_2 rfl) <| AH.br [9] (by kernel_rfl) rfl ⟨Br.mk' rfl trivial ?_, trivial⟩
              refine SR.storeO (o := 2) (vs := [.int .i64 (IntKind.i64.wrap (((gt x.Maps k.toNat).Torn) + s.Value))]) (x1 := { (gt x.Maps k.toNat) with Torn := IntKind.i64.wrap (((gt x.Maps k.toNat).Torn) + s.Value) }) sca3.2 rfl (add_add _ _ _) rfl rfl ((hm32).lo hk389) hx35 rfl (Nat.le_of_ble_eq_true rfl) rfl ?_
              intro w392 hk393 hs394 hO395
              have hz396 := hk393.size
              have hB397 := hB391.step hk393 (fun i_ hi_ e' => by have := (((hm32).lo hk389)).base_le e'; first | omega | (exfalso; omega) | exact e' | exact .inl e' | exact .inr e')
              have hS398 := ((Kp.refl w22 : Kp (fun b_ => Ax_Maps = some ⟨b_, 0, none⟩) w22 w22).lo hk389).step hk393 (fun _ _ e => e)
              have hx399 : (x.Maps.set k.toNat ({ (gt x.Maps k.toNat) with Torn := IntKind.i64.wrap (((gt x.Maps k.toNat).Torn) + s.Value) }))[k.toNat]? = some ({ (gt x.Maps k.toNat) with Torn := IntKind.i64.wrap (((gt x.Maps k.toNat).Torn) + s.Value) }) := List.getElem?_set_self (List.getElem?_eq_some_iff.1 hx35).1
              refine SR.nil ⟨hS398, _, rfl, ?_⟩
              refine AH.done (by kernel_rfl) ?_
              exact ⟨⟨rfl, rfl, rfl, trivial⟩, hS398, (hO395), hx399⟩
            rintro f400 w401 ⟨hat403, hR402, hm387, hx386⟩
            rw [← sets_of_at hat403]
            have hz404 := hR402.size
            have hB405 := hB28.step hR402 (fun i_ hi_ e' => by have := ((hm32)).base_le e'; first | omega | (exfalso; omega) | exact e' | exact .inl e' | exact .inr e')
            refine W.seq ?_
            refine W.regS (SR.q' (r_lda (l := [.slice Ax_Maps nx_Maps cx_Maps, .slice Ax_Away nx_Away cx_Away, .int .i64 x.Bought, .int .i64 x.Dropped, .int .i64 x.Mended]) agg27 rfl (fun _ _ hu => ((hm31).kp hR402 (fun e' => hd9 e')).cell hu) rfl) <| SR.store (o := 0) (vs := [.slice Ax_Maps nx_Maps cx_Maps, .slice Ax_Away nx_Away cx_Away, .int .i64 x.Bought, .int .i64 x.Dropped, .int .i64 x.Mended]) agg27.2 rfl rfl rfl rfl ((hb26).kp hR402 (fun e' => hd29 e')) (Nat.le_of_ble_eq_true rfl) rfl ?_)
            intro w406 hk407 hs408 hb409
            have hz410 := hk407.size
            have hB411 := hB405.new hk407 (by omega)
            refine SR.q' (r_as (v := .bool true) rfl) <| SR.nil ?_
            refine W.ret ?_
            refine retCT rfl rfl agg27 (hb409) rfl (v := .bool _) rfl ?_
            exact ⟨Ax_Maps, nx_Maps, cx_Maps, Ax_Away, nx_Away, cx_Away, eR (eT2 (eA (eC rfl (eC rfl (eC (eI (by subst hlex_Maps hlex_Away; unfold impl_Library_use; rw [if_neg h36, if_neg h76, if_neg h165, if_neg h197, if_neg h257] <;> rfl)) (eC (eI (by subst hlex_Maps hlex_Away; unfold impl_Library_use; rw [if_neg h36, if_neg h76, if_neg h165, if_neg h197, if_neg h257] <;> rfl)) (eC (eI (by subst hlex_Maps hlex_Away; unfold impl_Library_use; rw [if_neg h36, if_neg h76, if_neg h165, if_neg h197, if_neg h257] <;> rfl)) rfl)))))) (eB (by subst hlex_Maps hlex_Away; unfold impl_Library_use; rw [if_neg h36, if_neg h76, if_neg h165, if_neg h197, if_neg h257] <;> rfl))), (SlO.eqv ((hm387).kd hk407 hd29) (by subst hlex_Maps hlex_Away; unfold impl_Library_use; rw [if_neg h36, if_neg h76, if_neg h165, if_neg h197, if_neg h257] <;> rfl)), (SlO.eqv (((hm33).kp hR402 (fun b_ hb e' => hdx_Maps_x_Away b_ e' hb)).kd hk407 hd30) (by subst hlex_Maps hlex_Away; unfold impl_Library_use; rw [if_neg h36, if_neg h76, if_neg h165, if_neg h197, if_neg h257] <;> rfl)), hdx_Maps_x_Away, (fun b_ h_ => .inl (.inl h_)), (fun b_ h_ => .inl (.inr (h_))), hB411⟩
end Go.Proofs.Ytgobbcilgcbkaaa
