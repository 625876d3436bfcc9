/- Words and walks of this claim. -/
import Derived.Test.YtndcchndcghmoaaGreatDoorChecked
import Derived.Lib.Join
import Derived.Test.YtndcchndcghmoaaGreatDoorMExactRunScriptc
set_option linter.unusedVariables false
namespace Go.Proofs.YtndcchndcghmoaaGreatDoor
open Go Go.RowKit Fw
set_option maxRecDepth 10000
set_option maxHeartbeats 2000000
set_option linter.unusedVariables false
theorem agg106 : TAgg Tryz.prog 106 4 := tG
theorem ent183 : Ent Tryz.prog 183 := en Tryz.func183
theorem ent184 : Ent Tryz.prog 184 := en Tryz.func184
theorem ent185 : Ent Tryz.prog 185 := en Tryz.func185
open Classical in
noncomputable def impl_Library_hand (x : Library) (s : LibraryStep) : Library × Bool :=
 if s.Reader = s.Value then ((⟨([] : List LMap), ([] : List Away), 0, 0, 0⟩ : Library), false) else if (!((impl_Library_fetch x s.Id s.Reader).2)) = true then ((⟨([] : List LMap), ([] : List Away), 0, 0, 0⟩ : Library), false) else (((impl_Library_give ((impl_Library_fetch x s.Id s.Reader).1) s.Id s.Value).1), (impl_Library_give ((impl_Library_fetch x s.Id s.Reader).1) s.Id s.Value).2)
theorem c__impl_Library__hand (w : World) (x : Library) {Ax1 : Option Addr} {nx1 cx1 Bx1 : Nat} (hx1 : SlO w Bx1 encLMap 3 102 Ax1 nx1 cx1 x.Maps) {Ax2 : Option Addr} {nx2 cx2 Bx2 : Nat} (hx2 : SlO w Bx2 encAway 2 129 Ax2 nx2 cx2 x.Away) (s : LibraryStep) (hdx_Maps_x2 : Dj Ax1 Ax2) (hp0 : (nx1 : Int) ≤ 100) (hp1 : (nx2 : Int) ≤ 100) : Calls Tryz.prog 185 #[.agg (List.toArray (cLb Ax1 nx1 cx1 Ax2 nx2 cx2 x)), .agg (List.toArray (encLibraryStep s))] w fun e w' => ∃ (A1' : Option Addr) (n1' c1' : Nat) (A2' : Option Addr) (n2' c2' : Nat), e = .returned (.tuple (List.toArray [.agg (List.toArray [.slice A1' n1' c1', .slice A2' n2' c2', .int .i64 (((impl_Library_hand x s).1).Bought), .int .i64 (((impl_Library_hand x s).1).Dropped), .int .i64 (((impl_Library_hand x s).1).Mended)]), .bool ((impl_Library_hand x s).2)])) ∧ SlO w' Bx1 encLMap 3 102 A1' n1' c1' (((impl_Library_hand x s).1).Maps) ∧ SlO w' Bx2 encAway 2 129 A2' n2' c2' (((impl_Library_hand x s).1).Away) ∧ Dj A1' A2' ∧ (∀ b_, A1' = some ⟨b_, 0, none⟩ → (Ax1 = some ⟨b_, 0, none⟩ ∨ Ax2 = some ⟨b_, 0, none⟩) ∨ w.heap.size ≤ b_) ∧ (∀ b_, A2' = some ⟨b_, 0, none⟩ → (Ax1 = some ⟨b_, 0, none⟩ ∨ Ax2 = some ⟨b_, 0, none⟩) ∨ w.heap.size ≤ b_) ∧ Kp (fun b_ => Ax1 = some ⟨b_, 0, none⟩ ∨ Ax2 = some ⟨b_, 0, none⟩) w w' := by
 refine calls_W 34 Tryz.func185 rfl rfl rfl ?_
 have hcpx1 := hx1.rd.cap
 have hbbx1 := hx1.rd.bd
 have hbdx1 := hx1.rd.bound
 have hlex1 := hx1.len
 have hBbx1 := hx1.bd
 have hcpx2 := hx2.rd.cap
 have hbbx2 := hx2.rd.bd
 have hbdx2 := hx2.rd.bound
 have hlex2 := hx2.len
 have hBbx2 := hx2.bd
 refine Ws (Wr (SR.box (v := .agg (List.toArray _)) (l := (cLb Ax1 nx1 cx1 Ax2 nx2 cx2 x)) rfl rfl ?_))
 intro g1 w2 hg3 hk4 hs5 hb6
 refine SR.box (v := .agg (List.toArray _)) (l := [.int .i64 s.Kind, .int .i64 s.Id, .int .i64 s.Reader, .int .i64 s.Value]) rfl rfl ?_
 intro g11 w12 hg13 hk14 hs15 hb16
 refine SR.alloc (l := [.slice none 0 0, .slice none 0 0, .int .i64 0, .int .i64 0, .int .i64 0]) tz34 rfl ?_
 intro g21 w22 hg23 hk24 hs25 hb26
 have hB28 := (((Kp.refl w : Kp (fun b_ => Ax1 = some ⟨b_, 0, none⟩ ∨ Ax2 = some ⟨b_, 0, none⟩) w w).lo hk4).lo hk14).lo hk24
 have hd29 := SlO.ne (g := g21) ((hx1.lo hk4).lo hk14)
 have hd30 := SlO.ne (g := g21) ((hx2.lo hk4).lo hk14)
 refine Q (aB rfl) <| Qn (Ws (Ws ?_))
 have hm32 := ((hx1.lo hk4).lo hk14).lo hk24
 have hm33 := ((hx2.lo hk4).lo hk14).lo hk24
 refine Wr (Q (fA fa106_2 rfl) <| Q (lB sca3 rfl (hb16.lo hk24) rfl) <| Q (fA fa106_3 rfl) <| Q (lB sca3 rfl (hb16.lo hk24) rfl) <| Q (r_eq rfl rfl) <| Qn (W.cond_d rfl (fun h34 => ?_) (fun h34 => ?_)))
 ·refine Ws (Wr (Q (r_build (vs := []) rfl bld34_) <| Qw (o := 0) (vs := [.slice none 0 0, .slice none 0 0, .int .i64 0, .int .i64 0, .int .i64 0]) agg34.2 rfl rfl rfl rfl hb26 ler rfl ?_))
  intro w35 hk36 hs37 hb38
  refine Q (aB rfl) <| Qn (W.ret (retCT rfl rfl agg34 hb38 rfl (v := .bool _) rfl ?_))
  refine ⟨none, 0, 0, none, 0, 0, eR (eT2 (eA (eC rfl (eC rfl (eC (eI ?_) (eC (eI ?_) (eC (eI ?_) rfl)))))) (eB ?_)), (SlO.eqv (SlO.nil (e := 102) (enc := encLMap) (fun _ => rfl) (by omega)) ?_), (SlO.eqv (SlO.nil (e := 129) (enc := encAway) (fun _ => rfl) (by omega)) ?_), (fun b_ h => by cases h), (fun b_ h => by cases h), (fun b_ h => by cases h), (hB28.new hk36)⟩ <;> (unfold impl_Library_hand; rw [if_pos h34] <;> rfl)
 ·refine W.skip (Ws (Wr (Q (lG agg34 rfl ((hb6.lo hk14).lo hk24) rfl) <| Q (fA fa106_1 rfl) <| Q (lB sca3 rfl (hb16.lo hk24) rfl) <| Q (fA fa106_2 rfl) <| Q (lB sca3 rfl (hb16.lo hk24) rfl) <| SR.call ent184 (c__impl_Library__fetch w22 x hm32 hm33 s.Id s.Reader hdx_Maps_x2 (by omega) (by omega)) rfl ?_)))
  rintro e w41 ⟨A43, n44, c45, A47, n48, c49, rfl, hO46, hO50, hd51, hN52, hN53, hk42⟩
  refine ⟨_, rfl, ?_⟩
  have hz54 := hk42.size
  have hd58 : ¬ A43 = some ⟨g21, 0, none⟩ := fun e' => (hN52 g21 e').elim (fun h => h.elim (fun h => hd29 h) (fun h => hd30 h)) (fun h => by have := hb26.lt; omega)
  have hd61 : ¬ A47 = some ⟨g21, 0, none⟩ := fun e' => (hN53 g21 e').elim (fun h => h.elim (fun h => hd29 h) (fun h => hd30 h)) (fun h => by have := hb26.lt; omega)
  have hl62 := hO46.len
  have hl63 := hO46.rd.bound
  have hq64 := fetch_lenMaps x s.Id s.Reader
  have hl65 := hO50.len
  have hl66 := hO50.rd.bound
  have hq67 := fetch_lenAway x s.Id s.Reader
  refine Q (mT rfl) <| Q (xG rfl rfl) <| Q (xB rfl rfl) <| SR.alloc (l := [.slice none 0 0, .slice none 0 0, .int .i64 0, .int .i64 0, .int .i64 0]) tz34 rfl ?_
  intro g68 w69 hg70 hk71 hs72 hb73
  refine Qw (o := 0) (vs := [.slice A43 n44 c45, .slice A47 n48 c49, .int .i64 (((impl_Library_fetch x s.Id s.Reader).1).Bought), .int .i64 (((impl_Library_fetch x s.Id s.Reader).1).Dropped), .int .i64 (((impl_Library_fetch x s.Id s.Reader).1).Mended)]) agg34.2 rfl rfl rfl rfl hb73 ler rfl ?_
  intro w78 hk79 hs80 hb81
  have hB83 := ((hB28.step hk42 (fun i_ hi_ e' => e'.elim (fun e' => by have := hm32.base_le e'; first | omega | exact e' | exact .inl e' | exact .inr e') (fun e' => by have := hm33.base_le e'; first | omega | exact e' | exact .inl e' | exact .inr e'))).lo hk71).new hk79
  refine Q (aB rfl) <| Qn (Ws (Ws ?_))
  have hm84 := (((hb16.lo hk24).kp hk42 (fun e' => e'.elim (fun e' => (SlO.ne (g := g11) (hx1.lo hk4)) e') (fun e' => (SlO.ne (g := g11) (hx2.lo hk4)) e'))).lo hk71).kn hk79
  have hm85 := ((hb26.kp hk42 (fun e' => e'.elim (fun e' => hd29 e') (fun e' => hd30 e'))).lo hk71).kn hk79
  refine Wr (Q (mB rfl) <| Q (r_not rfl) <| Qn (W.cond_b rfl (fun h88 => ?_) (fun h88 => ?_)))
  ·have hq89 := bnot_t h88
   refine Ws (Wr (Q (r_build (vs := []) rfl bld34_) <| Qw (o := 0) (vs := [.slice none 0 0, .slice none 0 0, .int .i64 0, .int .i64 0, .int .i64 0]) agg34.2 rfl rfl rfl rfl hm85 ler rfl ?_))
   intro w90 hk91 hs92 hb93
   refine Q (aB rfl) <| Qn (W.ret (retCT rfl rfl agg34 hb93 rfl (v := .bool _) rfl ?_))
   refine ⟨none, 0, 0, none, 0, 0, eR (eT2 (eA (eC rfl (eC rfl (eC (eI ?_) (eC (eI ?_) (eC (eI ?_) rfl)))))) (eB ?_)), (SlO.eqv (SlO.nil (e := 102) (enc := encLMap) (fun _ => rfl) (by omega)) ?_), (SlO.eqv (SlO.nil (e := 129) (enc := encAway) (fun _ => rfl) (by omega)) ?_), (fun b_ h => by cases h), (fun b_ h => by cases h), (fun b_ h => by cases h), (hB83.new hk91)⟩ <;> (unfold impl_Library_hand; rw [if_neg h34, if_pos h88] <;> rfl)
  ·have hq96 := bnot_f h88
   refine W.skip (Ws (Wr (Q (lG agg34 rfl hb81 rfl) <| Q (fA fa106_1 rfl) <| Q (lB sca3 rfl hm84 rfl) <| Q (fA fa106_3 rfl) <| Q (lB sca3 rfl hm84 rfl) <| SR.call ent183 (c__impl_Library__give w78 ((impl_Library_fetch x s.Id s.Reader).1) ((hO46.lo hk71).kd hk79 (SlO.ne (g := g68) hO46)) ((hO50.lo hk71).kd hk79 (SlO.ne (g := g68) hO50)) s.Id s.Value hd51 (by omega) (by omega)) rfl ?_)))
   rintro e w97 ⟨A99, n100, c101, A103, n104, c105, rfl, hO102, hO106, hd107, hN108, hN109, hk98⟩
   refine ⟨_, rfl, ?_⟩
   have hz110 := hk98.size
   have hB111 := hB83.step hk98 (fun i_ hi_ e' => e'.elim (fun e' => ((show ∀ b_, A43 = some ⟨b_, 0, none⟩ → (Ax1 = some ⟨b_, 0, none⟩ ∨ Ax2 = some ⟨b_, 0, none⟩) ∨ w.heap.size ≤ b_ from (fun b_ h_ => (hN52 b_ h_).elim (fun h => h.elim (fun h => ((show ∀ b_, Ax1 = some ⟨b_, 0, none⟩ → (Ax1 = some ⟨b_, 0, none⟩ ∨ Ax2 = some ⟨b_, 0, none⟩) ∨ w.heap.size ≤ b_ from (fun b_ h_ => .inl (.inl h_))) b_ h)) (fun h => ((show ∀ b_, Ax2 = some ⟨b_, 0, none⟩ → (Ax1 = some ⟨b_, 0, none⟩ ∨ Ax2 = some ⟨b_, 0, none⟩) ∨ w.heap.size ≤ b_ from (fun b_ h_ => .inl (.inr h_))) b_ h))) (fun h => .inr (by omega)))) i_ e').elim (fun e_ => e_) (fun e_ => by omega)) (fun e' => ((show ∀ b_, A47 = some ⟨b_, 0, none⟩ → (Ax1 = some ⟨b_, 0, none⟩ ∨ Ax2 = some ⟨b_, 0, none⟩) ∨ w.heap.size ≤ b_ from (fun b_ h_ => (hN53 b_ h_).elim (fun h => h.elim (fun h => ((show ∀ b_, Ax1 = some ⟨b_, 0, none⟩ → (Ax1 = some ⟨b_, 0, none⟩ ∨ Ax2 = some ⟨b_, 0, none⟩) ∨ w.heap.size ≤ b_ from (fun b_ h_ => .inl (.inl h_))) b_ h)) (fun h => ((show ∀ b_, Ax2 = some ⟨b_, 0, none⟩ → (Ax1 = some ⟨b_, 0, none⟩ ∨ Ax2 = some ⟨b_, 0, none⟩) ∨ w.heap.size ≤ b_ from (fun b_ h_ => .inl (.inr h_))) b_ h))) (fun h => .inr (by omega)))) i_ e').elim (fun e_ => e_) (fun e_ => by omega)))
   have hd114 : ¬ A99 = some ⟨g21, 0, none⟩ := fun e' => (hN108 g21 e').elim (fun h => h.elim (fun h => hd58 h) (fun h => hd61 h)) (fun h => by have := hm85.lt; omega)
   have hd118 : ¬ A103 = some ⟨g21, 0, none⟩ := fun e' => (hN109 g21 e').elim (fun h => h.elim (fun h => hd58 h) (fun h => hd61 h)) (fun h => by have := hm85.lt; omega)
   have hl120 := hO102.len
   have hl121 := hO102.rd.bound
   have hl122 := hO106.len
   have hl123 := hO106.rd.bound
   refine Q (xG rfl rfl) <| Q (xB rfl rfl) <| Qw (o := 0) (vs := [.slice A99 n100 c101, .slice A103 n104 c105, .int .i64 (((impl_Library_give ((impl_Library_fetch x s.Id s.Reader).1) s.Id s.Value).1).Bought), .int .i64 (((impl_Library_give ((impl_Library_fetch x s.Id s.Reader).1) s.Id s.Value).1).Dropped), .int .i64 (((impl_Library_give ((impl_Library_fetch x s.Id s.Reader).1) s.Id s.Value).1).Mended)]) agg34.2 rfl rfl rfl rfl (hm85.kp hk98 (fun e' => e'.elim (fun e' => hd58 e') (fun e' => hd61 e'))) ler rfl ?_
   intro w124 hk125 hs126 hb127
   refine Q (aB rfl) <| Qn (W.ret (retCT rfl rfl agg34 hb127 rfl (v := .bool _) rfl ?_))
   refine ⟨A99, n100, c101, A103, n104, c105, eR (eT2 (eA (eC rfl (eC rfl (eC (eI ?_) (eC (eI ?_) (eC (eI ?_) rfl)))))) (eB ?_)), (SlO.eqv (hO102.kd hk125 hd114) ?_), (SlO.eqv (hO106.kd hk125 hd118) ?_), hd107, (fun b_ h_ => (hN108 b_ h_).elim (fun h => h.elim (fun h => ((show ∀ b_, A43 = some ⟨b_, 0, none⟩ → (Ax1 = some ⟨b_, 0, none⟩ ∨ Ax2 = some ⟨b_, 0, none⟩) ∨ w.heap.size ≤ b_ from (fun b_ h_ => (hN52 b_ h_).elim (fun h => h.elim (fun h => ((show ∀ b_, Ax1 = some ⟨b_, 0, none⟩ → (Ax1 = some ⟨b_, 0, none⟩ ∨ Ax2 = some ⟨b_, 0, none⟩) ∨ w.heap.size ≤ b_ from (fun b_ h_ => .inl (.inl h_))) b_ h)) (fun h => ((show ∀ b_, Ax2 = some ⟨b_, 0, none⟩ → (Ax1 = some ⟨b_, 0, none⟩ ∨ Ax2 = some ⟨b_, 0, none⟩) ∨ w.heap.size ≤ b_ from (fun b_ h_ => .inl (.inr h_))) b_ h))) (fun h => .inr (by omega)))) b_ h)) (fun h => ((show ∀ b_, A47 = some ⟨b_, 0, none⟩ → (Ax1 = some ⟨b_, 0, none⟩ ∨ Ax2 = some ⟨b_, 0, none⟩) ∨ w.heap.size ≤ b_ from (fun b_ h_ => (hN53 b_ h_).elim (fun h => h.elim (fun h => ((show ∀ b_, Ax1 = some ⟨b_, 0, none⟩ → (Ax1 = some ⟨b_, 0, none⟩ ∨ Ax2 = some ⟨b_, 0, none⟩) ∨ w.heap.size ≤ b_ from (fun b_ h_ => .inl (.inl h_))) b_ h)) (fun h => ((show ∀ b_, Ax2 = some ⟨b_, 0, none⟩ → (Ax1 = some ⟨b_, 0, none⟩ ∨ Ax2 = some ⟨b_, 0, none⟩) ∨ w.heap.size ≤ b_ from (fun b_ h_ => .inl (.inr h_))) b_ h))) (fun h => .inr (by omega)))) b_ h))) (fun h => .inr (by omega))), (fun b_ h_ => (hN109 b_ h_).elim (fun h => h.elim (fun h => ((show ∀ b_, A43 = some ⟨b_, 0, none⟩ → (Ax1 = some ⟨b_, 0, none⟩ ∨ Ax2 = some ⟨b_, 0, none⟩) ∨ w.heap.size ≤ b_ from (fun b_ h_ => (hN52 b_ h_).elim (fun h => h.elim (fun h => ((show ∀ b_, Ax1 = some ⟨b_, 0, none⟩ → (Ax1 = some ⟨b_, 0, none⟩ ∨ Ax2 = some ⟨b_, 0, none⟩) ∨ w.heap.size ≤ b_ from (fun b_ h_ => .inl (.inl h_))) b_ h)) (fun h => ((show ∀ b_, Ax2 = some ⟨b_, 0, none⟩ → (Ax1 = some ⟨b_, 0, none⟩ ∨ Ax2 = some ⟨b_, 0, none⟩) ∨ w.heap.size ≤ b_ from (fun b_ h_ => .inl (.inr h_))) b_ h))) (fun h => .inr (by omega)))) b_ h)) (fun h => ((show ∀ b_, A47 = some ⟨b_, 0, none⟩ → (Ax1 = some ⟨b_, 0, none⟩ ∨ Ax2 = some ⟨b_, 0, none⟩) ∨ w.heap.size ≤ b_ from (fun b_ h_ => (hN53 b_ h_).elim (fun h => h.elim (fun h => ((show ∀ b_, Ax1 = some ⟨b_, 0, none⟩ → (Ax1 = some ⟨b_, 0, none⟩ ∨ Ax2 = some ⟨b_, 0, none⟩) ∨ w.heap.size ≤ b_ from (fun b_ h_ => .inl (.inl h_))) b_ h)) (fun h => ((show ∀ b_, Ax2 = some ⟨b_, 0, none⟩ → (Ax1 = some ⟨b_, 0, none⟩ ∨ Ax2 = some ⟨b_, 0, none⟩) ∨ w.heap.size ≤ b_ from (fun b_ h_ => .inl (.inr h_))) b_ h))) (fun h => .inr (by omega)))) b_ h))) (fun h => .inr (by omega))), (hB111.new hk125)⟩ <;> (subst hl120 hl122; unfold impl_Library_hand; rw [if_neg h34, if_neg (ne_true_of_eq_false h88)] <;> rfl)
open Classical in
noncomputable def impl_Library_use (x : Library) (s : LibraryStep) (k : Int) : Library × Bool :=
 if s.Kind = 2 then (((impl_Library_give (⟨x.Maps.set k.toNat ({ (gt x.Maps k.toNat) with Copies := IntKind.i64.wrap (((gt x.Maps k.toNat).Copies) - 1) }), x.Away, x.Bought, x.Dropped, x.Mended⟩ : Library) s.Id s.Reader).1), (impl_Library_give (⟨x.Maps.set k.toNat ({ (gt x.Maps k.toNat) with Copies := IntKind.i64.wrap (((gt x.Maps k.toNat).Copies) - 1) }), x.Away, x.Bought, x.Dropped, x.Mended⟩ : Library) s.Id s.Reader).2) else if s.Kind = 3 then (((impl_Library_fetch (⟨x.Maps.set k.toNat ({ ({ (gt x.Maps k.toNat) with Copies := IntKind.i64.wrap (((gt x.Maps k.toNat).Copies) + 1) }) with Torn := IntKind.i64.wrap (((gt x.Maps k.toNat).Torn) + s.Value) }), x.Away, x.Bought, x.Dropped, x.Mended⟩ : Library) s.Id s.Reader).1), (impl_Library_fetch (⟨x.Maps.set k.toNat ({ ({ (gt x.Maps k.toNat) with Copies := IntKind.i64.wrap (((gt x.Maps k.toNat).Copies) + 1) }) with Torn := IntKind.i64.wrap (((gt x.Maps k.toNat).Torn) + s.Value) }), x.Away, x.Bought, x.Dropped, x.Mended⟩ : Library) s.Id s.Reader).2) else if s.Kind = 5 then (((impl_Library_hand x s).1), (impl_Library_hand x s).2) else if s.Kind = 4 then ((⟨x.Maps.set k.toNat ({ (gt x.Maps k.toNat) with Torn := IntKind.i64.wrap (((gt x.Maps k.toNat).Torn) - s.Value) }), x.Away, x.Bought, x.Dropped, IntKind.i64.wrap (x.Mended + s.Value)⟩ : Library), true) else if s.Kind = 6 then ((⟨(x.Maps.set k.toNat ({ (gt x.Maps k.toNat) with Torn := IntKind.i64.wrap (((gt x.Maps k.toNat).Torn) - s.Value) })).set k.toNat ({ ({ (gt x.Maps k.toNat) with Torn := IntKind.i64.wrap (((gt x.Maps k.toNat).Torn) - s.Value) }) with Copies := IntKind.i64.wrap (((gt x.Maps k.toNat).Copies) - s.Value) }), x.Away, x.Bought, IntKind.i64.wrap (x.Dropped + s.Value), x.Mended⟩ : Library), true) else ((⟨x.Maps.set k.toNat ({ (gt x.Maps k.toNat) with Torn := IntKind.i64.wrap (((gt x.Maps k.toNat).Torn) + s.Value) }), x.Away, x.Bought, x.Dropped, x.Mended⟩ : Library), true)
theorem c__impl_Library__use (w : World) (x : Library) {Ax1 : Option Addr} {nx1 cx1 Bx1 : Nat} (hx1 : SlO w Bx1 encLMap 3 102 Ax1 nx1 cx1 x.Maps) {Ax2 : Option Addr} {nx2 cx2 Bx2 : Nat} (hx2 : SlO w Bx2 encAway 2 129 Ax2 nx2 cx2 x.Away) (s : LibraryStep) (k : Int) (hdx_Maps_x2 : Dj Ax1 Ax2) (hp0 : (nx1 : Int) ≤ 100) (hp1 : (nx2 : Int) ≤ 100) (hp2 : 0 ≤ k ∧ k < (nx1 : Int)) : Calls Tryz.prog 152 #[.agg (List.toArray (cLb Ax1 nx1 cx1 Ax2 nx2 cx2 x)), .agg (List.toArray (encLibraryStep s)), .int .i64 k] w fun e w' => ∃ (A1' : Option Addr) (n1' c1' : Nat) (A2' : Option Addr) (n2' c2' : Nat), e = .returned (.tuple (List.toArray [.agg (List.toArray [.slice A1' n1' c1', .slice A2' n2' c2', .int .i64 (((impl_Library_use x s k).1).Bought), .int .i64 (((impl_Library_use x s k).1).Dropped), .int .i64 (((impl_Library_use x s k).1).Mended)]), .bool ((impl_Library_use x s k).2)])) ∧ SlO w' Bx1 encLMap 3 102 A1' n1' c1' (((impl_Library_use x s k).1).Maps) ∧ SlO w' Bx2 encAway 2 129 A2' n2' c2' (((impl_Library_use x s k).1).Away) ∧ Dj A1' A2' ∧ (∀ b_, A1' = some ⟨b_, 0, none⟩ → (Ax1 = some ⟨b_, 0, none⟩ ∨ Ax2 = some ⟨b_, 0, none⟩) ∨ w.heap.size ≤ b_) ∧ (∀ b_, A2' = some ⟨b_, 0, none⟩ → (Ax1 = some ⟨b_, 0, none⟩ ∨ Ax2 = some ⟨b_, 0, none⟩) ∨ w.heap.size ≤ b_) ∧ Kp (fun b_ => Ax1 = some ⟨b_, 0, none⟩ ∨ Ax2 = some ⟨b_, 0, none⟩) w w' := by
 refine calls_W 118 Tryz.func152 rfl rfl rfl ?_
 have hcpx1 := hx1.rd.cap
 have hbbx1 := hx1.rd.bd
 have hbdx1 := hx1.rd.bound
 have hlex1 := hx1.len
 have hBbx1 := hx1.bd
 have hcpx2 := hx2.rd.cap
 have hbbx2 := hx2.rd.bd
 have hbdx2 := hx2.rd.bound
 have hlex2 := hx2.len
 have hBbx2 := hx2.bd
 refine Ws (Wr (SR.box (v := .agg (List.toArray _)) (l := (cLb Ax1 nx1 cx1 Ax2 nx2 cx2 x)) rfl rfl ?_))
 intro g1 w2 hg3 hk4 hs5 hb6
 have hd9 := SlO.ne (g := g1) hx1
 have hd10 := SlO.ne (g := g1) hx2
 refine SR.box (v := .agg (List.toArray _)) (l := [.int .i64 s.Kind, .int .i64 s.Id, .int .i64 s.Reader, .int .i64 s.Value]) rfl rfl ?_
 intro g11 w12 hg13 hk14 hs15 hb16
 have hd19 := SlO.ne (g := g11) (hx1.lo hk4)
 refine SR.alloc (l := [.slice none 0 0, .slice none 0 0, .int .i64 0, .int .i64 0, .int .i64 0]) tz34 rfl ?_
 intro g21 w22 hg23 hk24 hs25 hb26
 have hB28 := (((Kp.refl w : Kp (fun b_ => Ax1 = some ⟨b_, 0, none⟩ ∨ Ax2 = some ⟨b_, 0, none⟩) w w).lo hk4).lo hk14).lo hk24
 have hd29 := SlO.ne (g := g21) ((hx1.lo hk4).lo hk14)
 have hd30 := SlO.ne (g := g21) ((hx2.lo hk4).lo hk14)
 refine Q (aB rfl) <| Qn (Ws ?_)
 have hm31 := (hb6.lo hk14).lo hk24
 have hm32 := ((hx1.lo hk4).lo hk14).lo hk24
 have hm33 := ((hx2.lo hk4).lo hk14).lo hk24
 refine Wr (Q (fA fa34_0 rfl) <| Q (lB sca31 rfl hm31 rfl) <| Q (mI rfl) <| ?_)
 have hx35 := (hm32.rd).elem (i := k.toNat) (by omega)
 refine Q (r_ixR tsl31 (hm32.rd) rfl rfl (by omega)) <| Q (aP rfl) <| Qn (Ws (Ws (Wr (Q (fA fa106_0 rfl) <| Q (lB sca3 rfl (hb16.lo hk24) rfl) <| Qn (W.block (Ws (Wr (Q (r_eq rfl rfl) <| Q (aB rfl) <| Qn (W.cond_d rfl (fun h36 => ?_) (fun h36 => ?_))))))))))
 ·refine Ws (Wr (Q (mP rfl) <| Q (r_nilc rfl) <| Q (fA fa102_1 rfl) <| Q (r_ld (v := .int .i64 ((gt x.Maps k.toNat).Copies)) sca3 rfl ((hm32.rd).cell hx35 rfl)) <| Q (r_subW rfl rfl) <| Q (r_nilc rfl) <| Q (fA fa102_1 rfl) <| SR.storeO (o := 1) (vs := [.int .i64 (IntKind.i64.wrap (((gt x.Maps k.toNat).Copies) - 1))]) (x1 := { (gt x.Maps k.toNat) with Copies := IntKind.i64.wrap (((gt x.Maps k.toNat).Copies) - 1) }) sca3.2 rfl (add_add _ _ _) rfl rfl hm32 hx35 rfl ler rfl ?_))
  intro w37 hk38 hs39 hO40
  have hz41 := hk38.size
  have hx43 : (x.Maps.set k.toNat ({ (gt x.Maps k.toNat) with Copies := IntKind.i64.wrap (((gt x.Maps k.toNat).Copies) - 1) }))[k.toNat]? = some ({ (gt x.Maps k.toNat) with Copies := IntKind.i64.wrap (((gt x.Maps k.toNat).Copies) - 1) }) := List.getElem?_set_self (List.getElem?_eq_some_iff.1 hx35).1
  refine Qn (Ws ?_)
  have hm44 := (hb16.lo hk24).kp hk38 (fun e' => hd19 e')
  refine Wr (Q (lG agg34 rfl (hm31.kp hk38 (fun e' => hd9 e')) rfl) <| Q (fA fa106_1 rfl) <| Q (lB sca3 rfl hm44 rfl) <| Q (fA fa106_2 rfl) <| Q (lB sca3 rfl hm44 rfl) <| SR.call ent183 (c__impl_Library__give w37 (⟨x.Maps.set k.toNat ({ (gt x.Maps k.toNat) with Copies := IntKind.i64.wrap (((gt x.Maps k.toNat).Copies) - 1) }), x.Away, x.Bought, x.Dropped, x.Mended⟩ : Library) hO40 (hm33.kp hk38 (fun b_ hb e' => hdx_Maps_x2 b_ e' hb)) s.Id s.Reader hdx_Maps_x2 (by omega) (by omega)) rfl ?_)
  rintro e w45 ⟨A47, n48, c49, A51, n52, c53, rfl, hO50, hO54, hd55, hN56, hN57, hk46⟩
  refine ⟨_, rfl, ?_⟩
  have hz58 := hk46.size
  have hB59 := (hB28.step hk38 (fun i_ hi_ e' => by have := hm32.base_le e'; first | omega | exact e' | exact .inl e' | exact .inr e')).step hk46 (fun i_ hi_ e' => e'.elim (fun e' => by have := hO40.base_le e'; first | omega | exact e' | exact .inl e' | exact .inr e') (fun e' => by have := (hm33.kp hk38 (fun b_ hb e' => hdx_Maps_x2 b_ e' hb)).base_le e'; first | omega | exact e' | exact .inl e' | exact .inr e'))
  have hd62 : ¬ A47 = some ⟨g21, 0, none⟩ := fun e' => (hN56 g21 e').elim (fun h => h.elim (fun h => hd29 h) (fun h => hd30 h)) (fun h => by have := (hb26.kp hk38 (fun e' => hd29 e')).lt; omega)
  have hd65 : ¬ A51 = some ⟨g21, 0, none⟩ := fun e' => (hN57 g21 e').elim (fun h => h.elim (fun h => hd29 h) (fun h => hd30 h)) (fun h => by have := (hb26.kp hk38 (fun e' => hd29 e')).lt; omega)
  have hl66 := hO50.len
  have hl67 := hO50.rd.bound
  have hl68 := hO54.len
  have hl69 := hO54.rd.bound
  refine Q (xG rfl rfl) <| Q (xB rfl rfl) <| Qw (o := 0) (vs := [.slice A47 n48 c49, .slice A51 n52 c53, .int .i64 (((impl_Library_give (⟨x.Maps.set k.toNat ({ (gt x.Maps k.toNat) with Copies := IntKind.i64.wrap (((gt x.Maps k.toNat).Copies) - 1) }), x.Away, x.Bought, x.Dropped, x.Mended⟩ : Library) s.Id s.Reader).1).Bought), .int .i64 (((impl_Library_give (⟨x.Maps.set k.toNat ({ (gt x.Maps k.toNat) with Copies := IntKind.i64.wrap (((gt x.Maps k.toNat).Copies) - 1) }), x.Away, x.Bought, x.Dropped, x.Mended⟩ : Library) s.Id s.Reader).1).Dropped), .int .i64 (((impl_Library_give (⟨x.Maps.set k.toNat ({ (gt x.Maps k.toNat) with Copies := IntKind.i64.wrap (((gt x.Maps k.toNat).Copies) - 1) }), x.Away, x.Bought, x.Dropped, x.Mended⟩ : Library) s.Id s.Reader).1).Mended)]) agg34.2 rfl rfl rfl rfl ((hb26.kp hk38 (fun e' => hd29 e')).kp hk46 (fun e' => e'.elim (fun e' => hd29 e') (fun e' => hd30 e'))) ler rfl ?_
  intro w70 hk71 hs72 hb73
  refine Q (aB rfl) <| Qn (W.ret (retCT rfl rfl agg34 hb73 rfl (v := .bool _) rfl ?_))
  refine ⟨A47, n48, c49, A51, n52, c53, eR (eT2 (eA (eC rfl (eC rfl (eC (eI ?_) (eC (eI ?_) (eC (eI ?_) rfl)))))) (eB ?_)), (SlO.eqv (hO50.kd hk71 hd62) ?_), (SlO.eqv (hO54.kd hk71 hd65) ?_), hd55, (fun b_ h_ => (hN56 b_ h_).elim (fun h => h.elim (fun h => ((show ∀ b_, Ax1 = some ⟨b_, 0, none⟩ → (Ax1 = some ⟨b_, 0, none⟩ ∨ Ax2 = some ⟨b_, 0, none⟩) ∨ w.heap.size ≤ b_ from (fun b_ h_ => .inl (.inl h_))) b_ h)) (fun h => ((show ∀ b_, Ax2 = some ⟨b_, 0, none⟩ → (Ax1 = some ⟨b_, 0, none⟩ ∨ Ax2 = some ⟨b_, 0, none⟩) ∨ w.heap.size ≤ b_ from (fun b_ h_ => .inl (.inr h_))) b_ h))) (fun h => .inr (by omega))), (fun b_ h_ => (hN57 b_ h_).elim (fun h => h.elim (fun h => ((show ∀ b_, Ax1 = some ⟨b_, 0, none⟩ → (Ax1 = some ⟨b_, 0, none⟩ ∨ Ax2 = some ⟨b_, 0, none⟩) ∨ w.heap.size ≤ b_ from (fun b_ h_ => .inl (.inl h_))) b_ h)) (fun h => ((show ∀ b_, Ax2 = some ⟨b_, 0, none⟩ → (Ax1 = some ⟨b_, 0, none⟩ ∨ Ax2 = some ⟨b_, 0, none⟩) ∨ w.heap.size ≤ b_ from (fun b_ h_ => .inl (.inr h_))) b_ h))) (fun h => .inr (by omega))), (hB59.new hk71)⟩ <;> (subst hl66 hl68; unfold impl_Library_use; rw [if_pos h36] <;> rfl)
 ·refine Ws (Wr (Q (r_eq rfl rfl) <| Q (aB rfl) <| Qn (W.cond_d rfl (fun h76 => ?_) (fun h76 => ?_))))
  ·refine Ws (Wr (Q (mP rfl) <| Q (r_nilc rfl) <| Q (fA fa102_1 rfl) <| Q (r_ld (v := .int .i64 ((gt x.Maps k.toNat).Copies)) sca3 rfl ((hm32.rd).cell hx35 rfl)) <| Q (r_addW rfl rfl) <| Q (r_nilc rfl) <| Q (fA fa102_1 rfl) <| SR.storeO (o := 1) (vs := [.int .i64 (IntKind.i64.wrap (((gt x.Maps k.toNat).Copies) + 1))]) (x1 := { (gt x.Maps k.toNat) with Copies := IntKind.i64.wrap (((gt x.Maps k.toNat).Copies) + 1) }) sca3.2 rfl (add_add _ _ _) rfl rfl hm32 hx35 rfl ler rfl ?_))
   intro w77 hk78 hs79 hO80
   have hz81 := hk78.size
   have hx83 : (x.Maps.set k.toNat ({ (gt x.Maps k.toNat) with Copies := IntKind.i64.wrap (((gt x.Maps k.toNat).Copies) + 1) }))[k.toNat]? = some ({ (gt x.Maps k.toNat) with Copies := IntKind.i64.wrap (((gt x.Maps k.toNat).Copies) + 1) }) := List.getElem?_set_self (List.getElem?_eq_some_iff.1 hx35).1
   refine Qn (Ws ?_)
   have hm84 := (hb16.lo hk24).kp hk78 (fun e' => hd19 e')
   refine W.regA (Kp (KA Ax1) w77) (fun f' w' => At f' [(3, .pointer (pA g1)), (4, .pointer (pA g11)), (6, .pointer (pA g21)), (7, .bool false)] ∧ (Kp (KA Ax1) w77 w') ∧ (SlO w' Bx1 encLMap 3 102 Ax1 nx1 cx1 (x.Maps.set k.toNat ({ ({ (gt x.Maps k.toNat) with Copies := IntKind.i64.wrap (((gt x.Maps k.toNat).Copies) + 1) }) with Torn := IntKind.i64.wrap (((gt x.Maps k.toNat).Torn) + s.Value) }))) ∧ ((x.Maps.set k.toNat ({ ({ (gt x.Maps k.toNat) with Copies := IntKind.i64.wrap (((gt x.Maps k.toNat).Copies) + 1) }) with Torn := IntKind.i64.wrap (((gt x.Maps k.toNat).Torn) + s.Value) }))[k.toNat]? = some ({ ({ (gt x.Maps k.toNat) with Copies := IntKind.i64.wrap (((gt x.Maps k.toNat).Copies) + 1) }) with Torn := IntKind.i64.wrap (((gt x.Maps k.toNat).Torn) + s.Value) }))) mo ?_ ?_
   ·intro w111 hk112
    have hz113 := hk112.size
    refine Ak 0 rfl ((Kp.refl w77 : Kp (KA Ax1) w77 w77).lo hk112) (fun w' hw' => r_mv (v := .pointer (some _)) rfl) <| Ak 1 rfl ((Kp.refl w77 : Kp (KA Ax1) w77 w77).lo hk112) (fun w' hw' => r_nilc rfl) <| Ak 2 rfl ((Kp.refl w77 : Kp (KA Ax1) w77 w77).lo hk112) (fun w' hw' => fA fa102_2 rfl) <| Ak 4 rfl ((Kp.refl w77 : Kp (KA Ax1) w77 w77).lo hk112) (fun w' hw' => fA fa106_3 rfl) <| Ak 5 rfl ((Kp.refl w77 : Kp (KA Ax1) w77 w77).lo hk112) (fun w' hw' => r_ld (v := .int .i64 s.Value) sca3 rfl ((hm84.kp hw' (fun e' => hd19 e')).cell rfl)) <| Ab 3 rfl (Q (r_ld (v := .int .i64 ((gt x.Maps k.toNat).Torn)) sca3 rfl (((hO80.lo hk112).rd).cell hx83 rfl)) (Qn ⟨(Kp.refl w77 : Kp (KA Ax1) w77 w77).lo hk112, _, rfl, (Ak 6 rfl ((Kp.refl w77 : Kp (KA Ax1) w77 w77).lo hk112) (fun w' hw' => r_addW rfl rfl) <| Ak 7 rfl ((Kp.refl w77 : Kp (KA Ax1) w77 w77).lo hk112) (fun w' hw' => r_nilc rfl) <| Ak 8 rfl ((Kp.refl w77 : Kp (KA Ax1) w77 w77).lo hk112) (fun w' hw' => fA fa102_2 rfl) <| Ab 9 rfl (SR.storeO (o := 2) (vs := [.int .i64 (IntKind.i64.wrap (((gt x.Maps k.toNat).Torn) + s.Value))]) (x1 := { ({ (gt x.Maps k.toNat) with Copies := IntKind.i64.wrap (((gt x.Maps k.toNat).Copies) + 1) }) with Torn := IntKind.i64.wrap (((gt x.Maps k.toNat).Torn) + s.Value) }) sca3.2 rfl (add_add _ _ _) rfl rfl (hO80.lo hk112) hx83 rfl ler rfl ?_))⟩))
    intro w115 hk116 hs117 hO118
    have hz119 := hk116.size
    have hS121 := ((Kp.refl w77 : Kp (KA Ax1) w77 w77).lo hk112).step hk116 (fun _ _ e => e)
    rw [List.set_set] at hO118
    have hx122 : (x.Maps.set k.toNat ({ ({ (gt x.Maps k.toNat) with Copies := IntKind.i64.wrap (((gt x.Maps k.toNat).Copies) + 1) }) with Torn := IntKind.i64.wrap (((gt x.Maps k.toNat).Torn) + s.Value) }))[k.toNat]? = some ({ ({ (gt x.Maps k.toNat) with Copies := IntKind.i64.wrap (((gt x.Maps k.toNat).Copies) + 1) }) with Torn := IntKind.i64.wrap (((gt x.Maps k.toNat).Torn) + s.Value) }) := List.getElem?_set_self (List.getElem?_eq_some_iff.1 hx35).1
    refine Qn ⟨hS121, _, rfl, (AH.done (by kernel_rfl) (⟨(At.r rfl), hS121, hO118, hx122⟩))⟩
   rintro f123 w124 ⟨hat126, hR125, hm110, hx109⟩
   rw [← sets_of_at hat126]
   have hz127 := hR125.size
   refine Ws ?_
   have hm130 := (hm33.kp hk78 (fun b_ hb e' => hdx_Maps_x2 b_ e' hb)).kp hR125 (fun b_ hb e' => hdx_Maps_x2 b_ e' hb)
   have hm131 := (hb26.kp hk78 (fun e' => hd29 e')).kp hR125 (fun e' => hd29 e')
   refine Wr (Q (lG agg34 rfl ((hm31.kp hk78 (fun e' => hd9 e')).kp hR125 (fun e' => hd9 e')) rfl) <| Q (fA fa106_1 rfl) <| Q (lB sca3 rfl (hm84.kp hR125 (fun e' => hd19 e')) rfl) <| Q (fA fa106_2 rfl) <| Q (lB sca3 rfl (hm84.kp hR125 (fun e' => hd19 e')) rfl) <| SR.call ent184 (c__impl_Library__fetch w124 (⟨x.Maps.set k.toNat ({ ({ (gt x.Maps k.toNat) with Copies := IntKind.i64.wrap (((gt x.Maps k.toNat).Copies) + 1) }) with Torn := IntKind.i64.wrap (((gt x.Maps k.toNat).Torn) + s.Value) }), x.Away, x.Bought, x.Dropped, x.Mended⟩ : Library) hm110 hm130 s.Id s.Reader hdx_Maps_x2 (by omega) (by omega)) rfl ?_)
   rintro e w132 ⟨A134, n135, c136, A138, n139, c140, rfl, hO137, hO141, hd142, hN143, hN144, hk133⟩
   refine ⟨_, rfl, ?_⟩
   have hz145 := hk133.size
   have hB146 := ((hB28.step hk78 (fun i_ hi_ e' => by have := hm32.base_le e'; first | omega | exact e' | exact .inl e' | exact .inr e')).step hR125 (fun i_ hi_ e' => by have := hO80.base_le e'; first | omega | exact e' | exact .inl e' | exact .inr e')).step hk133 (fun i_ hi_ e' => e'.elim (fun e' => by have := hm110.base_le e'; first | omega | exact e' | exact .inl e' | exact .inr e') (fun e' => by have := hm130.base_le e'; first | omega | exact e' | exact .inl e' | exact .inr e'))
   have hd149 : ¬ A134 = some ⟨g21, 0, none⟩ := fun e' => (hN143 g21 e').elim (fun h => h.elim (fun h => hd29 h) (fun h => hd30 h)) (fun h => by have := hm131.lt; omega)
   have hd152 : ¬ A138 = some ⟨g21, 0, none⟩ := fun e' => (hN144 g21 e').elim (fun h => h.elim (fun h => hd29 h) (fun h => hd30 h)) (fun h => by have := hm131.lt; omega)
   have hl153 := hO137.len
   have hl154 := hO137.rd.bound
   have hq155 := fetch_lenMaps (⟨x.Maps.set k.toNat ({ ({ (gt x.Maps k.toNat) with Copies := IntKind.i64.wrap (((gt x.Maps k.toNat).Copies) + 1) }) with Torn := IntKind.i64.wrap (((gt x.Maps k.toNat).Torn) + s.Value) }), x.Away, x.Bought, x.Dropped, x.Mended⟩ : Library) s.Id s.Reader
   have hl156 := hO141.len
   have hl157 := hO141.rd.bound
   have hq158 := fetch_lenAway (⟨x.Maps.set k.toNat ({ ({ (gt x.Maps k.toNat) with Copies := IntKind.i64.wrap (((gt x.Maps k.toNat).Copies) + 1) }) with Torn := IntKind.i64.wrap (((gt x.Maps k.toNat).Torn) + s.Value) }), x.Away, x.Bought, x.Dropped, x.Mended⟩ : Library) s.Id s.Reader
   refine Q (xG rfl rfl) <| Q (xB rfl rfl) <| Qw (o := 0) (vs := [.slice A134 n135 c136, .slice A138 n139 c140, .int .i64 (((impl_Library_fetch (⟨x.Maps.set k.toNat ({ ({ (gt x.Maps k.toNat) with Copies := IntKind.i64.wrap (((gt x.Maps k.toNat).Copies) + 1) }) with Torn := IntKind.i64.wrap (((gt x.Maps k.toNat).Torn) + s.Value) }), x.Away, x.Bought, x.Dropped, x.Mended⟩ : Library) s.Id s.Reader).1).Bought), .int .i64 (((impl_Library_fetch (⟨x.Maps.set k.toNat ({ ({ (gt x.Maps k.toNat) with Copies := IntKind.i64.wrap (((gt x.Maps k.toNat).Copies) + 1) }) with Torn := IntKind.i64.wrap (((gt x.Maps k.toNat).Torn) + s.Value) }), x.Away, x.Bought, x.Dropped, x.Mended⟩ : Library) s.Id s.Reader).1).Dropped), .int .i64 (((impl_Library_fetch (⟨x.Maps.set k.toNat ({ ({ (gt x.Maps k.toNat) with Copies := IntKind.i64.wrap (((gt x.Maps k.toNat).Copies) + 1) }) with Torn := IntKind.i64.wrap (((gt x.Maps k.toNat).Torn) + s.Value) }), x.Away, x.Bought, x.Dropped, x.Mended⟩ : Library) s.Id s.Reader).1).Mended)]) agg34.2 rfl rfl rfl rfl (hm131.kp hk133 (fun e' => e'.elim (fun e' => hd29 e') (fun e' => hd30 e'))) ler rfl ?_
   intro w159 hk160 hs161 hb162
   refine Q (aB rfl) <| Qn (W.ret (retCT rfl rfl agg34 hb162 rfl (v := .bool _) rfl ?_))
   refine ⟨A134, n135, c136, A138, n139, c140, eR (eT2 (eA (eC rfl (eC rfl (eC (eI ?_) (eC (eI ?_) (eC (eI ?_) rfl)))))) (eB ?_)), (SlO.eqv (hO137.kd hk160 hd149) ?_), (SlO.eqv (hO141.kd hk160 hd152) ?_), hd142, (fun b_ h_ => (hN143 b_ h_).elim (fun h => h.elim (fun h => ((show ∀ b_, Ax1 = some ⟨b_, 0, none⟩ → (Ax1 = some ⟨b_, 0, none⟩ ∨ Ax2 = some ⟨b_, 0, none⟩) ∨ w.heap.size ≤ b_ from (fun b_ h_ => .inl (.inl h_))) b_ h)) (fun h => ((show ∀ b_, Ax2 = some ⟨b_, 0, none⟩ → (Ax1 = some ⟨b_, 0, none⟩ ∨ Ax2 = some ⟨b_, 0, none⟩) ∨ w.heap.size ≤ b_ from (fun b_ h_ => .inl (.inr h_))) b_ h))) (fun h => .inr (by omega))), (fun b_ h_ => (hN144 b_ h_).elim (fun h => h.elim (fun h => ((show ∀ b_, Ax1 = some ⟨b_, 0, none⟩ → (Ax1 = some ⟨b_, 0, none⟩ ∨ Ax2 = some ⟨b_, 0, none⟩) ∨ w.heap.size ≤ b_ from (fun b_ h_ => .inl (.inl h_))) b_ h)) (fun h => ((show ∀ b_, Ax2 = some ⟨b_, 0, none⟩ → (Ax1 = some ⟨b_, 0, none⟩ ∨ Ax2 = some ⟨b_, 0, none⟩) ∨ w.heap.size ≤ b_ from (fun b_ h_ => .inl (.inr h_))) b_ h))) (fun h => .inr (by omega))), (hB146.new hk160)⟩ <;> (subst hl153 hl156; unfold impl_Library_use; rw [if_neg h36, if_pos h76] <;> rfl)
  ·refine Ws (Wr (Q (r_eq rfl rfl) <| Q (aB rfl) <| Qn (W.cond_d rfl (fun h165 => ?_) (fun h165 => ?_))))
   ·refine Ws (Wr (Q (lG agg34 rfl hm31 rfl) <| Q (lG agg106 rfl (hb16.lo hk24) rfl) <| SR.call ent185 (c__impl_Library__hand w22 x hm32 hm33 s hdx_Maps_x2 (by omega) (by omega)) rfl ?_))
    rintro e w166 ⟨A168, n169, c170, A172, n173, c174, rfl, hO171, hO175, hd176, hN177, hN178, hk167⟩
    refine ⟨_, rfl, ?_⟩
    have hz179 := hk167.size
    have hd183 : ¬ A168 = some ⟨g21, 0, none⟩ := fun e' => (hN177 g21 e').elim (fun h => h.elim (fun h => hd29 h) (fun h => hd30 h)) (fun h => by have := hb26.lt; omega)
    have hd186 : ¬ A172 = some ⟨g21, 0, none⟩ := fun e' => (hN178 g21 e').elim (fun h => h.elim (fun h => hd29 h) (fun h => hd30 h)) (fun h => by have := hb26.lt; omega)
    have hl187 := hO171.len
    have hl188 := hO171.rd.bound
    have hl189 := hO175.len
    have hl190 := hO175.rd.bound
    refine Q (xG rfl rfl) <| Q (xB rfl rfl) <| Qw (o := 0) (vs := [.slice A168 n169 c170, .slice A172 n173 c174, .int .i64 (((impl_Library_hand x s).1).Bought), .int .i64 (((impl_Library_hand x s).1).Dropped), .int .i64 (((impl_Library_hand x s).1).Mended)]) agg34.2 rfl rfl rfl rfl (hb26.kp hk167 (fun e' => e'.elim (fun e' => hd29 e') (fun e' => hd30 e'))) ler rfl ?_
    intro w191 hk192 hs193 hb194
    refine Q (aB rfl) <| Qn (W.ret (retCT rfl rfl agg34 hb194 rfl (v := .bool _) rfl ?_))
    refine ⟨A168, n169, c170, A172, n173, c174, eR (eT2 (eA (eC rfl (eC rfl (eC (eI ?_) (eC (eI ?_) (eC (eI ?_) rfl)))))) (eB ?_)), (SlO.eqv (hO171.kd hk192 hd183) ?_), (SlO.eqv (hO175.kd hk192 hd186) ?_), hd176, (fun b_ h_ => (hN177 b_ h_).elim (fun h => h.elim (fun h => ((show ∀ b_, Ax1 = some ⟨b_, 0, none⟩ → (Ax1 = some ⟨b_, 0, none⟩ ∨ Ax2 = some ⟨b_, 0, none⟩) ∨ w.heap.size ≤ b_ from (fun b_ h_ => .inl (.inl h_))) b_ h)) (fun h => ((show ∀ b_, Ax2 = some ⟨b_, 0, none⟩ → (Ax1 = some ⟨b_, 0, none⟩ ∨ Ax2 = some ⟨b_, 0, none⟩) ∨ w.heap.size ≤ b_ from (fun b_ h_ => .inl (.inr h_))) b_ h))) (fun h => .inr (by omega))), (fun b_ h_ => (hN178 b_ h_).elim (fun h => h.elim (fun h => ((show ∀ b_, Ax1 = some ⟨b_, 0, none⟩ → (Ax1 = some ⟨b_, 0, none⟩ ∨ Ax2 = some ⟨b_, 0, none⟩) ∨ w.heap.size ≤ b_ from (fun b_ h_ => .inl (.inl h_))) b_ h)) (fun h => ((show ∀ b_, Ax2 = some ⟨b_, 0, none⟩ → (Ax1 = some ⟨b_, 0, none⟩ ∨ Ax2 = some ⟨b_, 0, none⟩) ∨ w.heap.size ≤ b_ from (fun b_ h_ => .inl (.inr h_))) b_ h))) (fun h => .inr (by omega))), ((hB28.step hk167 (fun i_ hi_ e' => e'.elim (fun e' => by have := hm32.base_le e'; first | omega | exact e' | exact .inl e' | exact .inr e') (fun e' => by have := hm33.base_le e'; first | omega | exact e' | exact .inl e' | exact .inr e'))).new hk192)⟩ <;> (subst hl187 hl189; unfold impl_Library_use; rw [if_neg h36, if_neg h76, if_pos h165] <;> rfl)
   ·refine Ws (Wr (Q (r_eq rfl rfl) <| Q (aB rfl) <| Qn (W.cond_d rfl (fun h197 => ?_) (fun h197 => ?_))))
    ·refine Ws (W.regA (Kp (KA Ax1) w22) (fun f' w' => At f' [(3, .pointer (pA g1)), (4, .pointer (pA g11)), (6, .pointer (pA g21)), (7, .bool false)] ∧ (Kp (KA Ax1) w22 w') ∧ (SlO w' Bx1 encLMap 3 102 Ax1 nx1 cx1 (x.Maps.set k.toNat ({ (gt x.Maps k.toNat) with Torn := IntKind.i64.wrap (((gt x.Maps k.toNat).Torn) - s.Value) }))) ∧ ((x.Maps.set k.toNat ({ (gt x.Maps k.toNat) with Torn := IntKind.i64.wrap (((gt x.Maps k.toNat).Torn) - s.Value) }))[k.toNat]? = some ({ (gt x.Maps k.toNat) with Torn := IntKind.i64.wrap (((gt x.Maps k.toNat).Torn) - s.Value) }))) mo ?_ ?_)
     ·intro w224 hk225
      have hz226 := hk225.size
      refine Ak 0 rfl ((Kp.refl w22 : Kp (KA Ax1) w22 w22).lo hk225) (fun w' hw' => r_mv (v := .pointer (some _)) rfl) <| Ak 1 rfl ((Kp.refl w22 : Kp (KA Ax1) w22 w22).lo hk225) (fun w' hw' => r_nilc rfl) <| Ak 2 rfl ((Kp.refl w22 : Kp (KA Ax1) w22 w22).lo hk225) (fun w' hw' => fA fa102_2 rfl) <| Ak 4 rfl ((Kp.refl w22 : Kp (KA Ax1) w22 w22).lo hk225) (fun w' hw' => fA fa106_3 rfl) <| Ak 5 rfl ((Kp.refl w22 : Kp (KA Ax1) w22 w22).lo hk225) (fun w' hw' => r_ld (v := .int .i64 s.Value) sca3 rfl (((hb16.lo hk24).kp hw' (fun e' => hd19 e')).cell rfl)) <| Ab 3 rfl (Q (r_ld (v := .int .i64 ((gt x.Maps k.toNat).Torn)) sca3 rfl (((hm32.lo hk225).rd).cell hx35 rfl)) (Qn ⟨(Kp.refl w22 : Kp (KA Ax1) w22 w22).lo hk225, _, rfl, (Ak 6 rfl ((Kp.refl w22 : Kp (KA Ax1) w22 w22).lo hk225) (fun w' hw' => r_subW rfl rfl) <| Ak 7 rfl ((Kp.refl w22 : Kp (KA Ax1) w22 w22).lo hk225) (fun w' hw' => r_nilc rfl) <| Ak 8 rfl ((Kp.refl w22 : Kp (KA Ax1) w22 w22).lo hk225) (fun w' hw' => fA fa102_2 rfl) <| Ab 9 rfl (SR.storeO (o := 2) (vs := [.int .i64 (IntKind.i64.wrap (((gt x.Maps k.toNat).Torn) - s.Value))]) (x1 := { (gt x.Maps k.toNat) with Torn := IntKind.i64.wrap (((gt x.Maps k.toNat).Torn) - s.Value) }) sca3.2 rfl (add_add _ _ _) rfl rfl (hm32.lo hk225) hx35 rfl ler rfl ?_))⟩))
      intro w228 hk229 hs230 hO231
      have hz232 := hk229.size
      have hS234 := ((Kp.refl w22 : Kp (KA Ax1) w22 w22).lo hk225).step hk229 (fun _ _ e => e)
      have hx235 : (x.Maps.set k.toNat ({ (gt x.Maps k.toNat) with Torn := IntKind.i64.wrap (((gt x.Maps k.toNat).Torn) - s.Value) }))[k.toNat]? = some ({ (gt x.Maps k.toNat) with Torn := IntKind.i64.wrap (((gt x.Maps k.toNat).Torn) - s.Value) }) := List.getElem?_set_self (List.getElem?_eq_some_iff.1 hx35).1
      refine Qn ⟨hS234, _, rfl, (AH.done (by kernel_rfl) (⟨(At.r rfl), hS234, hO231, hx235⟩))⟩
     rintro f236 w237 ⟨hat239, hR238, hm223, hx222⟩
     rw [← sets_of_at hat239]
     have hz240 := hR238.size
     refine Wr (Q (fA fa34_4 rfl) <| Q (lB sca3 rfl (hm31.kp hR238 (fun e' => hd9 e')) rfl) <| Q (fA fa106_3 rfl) <| Q (lB sca3 rfl ((hb16.lo hk24).kp hR238 (fun e' => hd19 e')) rfl) <| Q (r_addW rfl rfl) <| Q (fA fa34_4 rfl) <| Qw (o := 4) (vs := [.int .i64 (IntKind.i64.wrap (x.Mended + s.Value))]) sca3.2 rfl rfl rfl rfl (hm31.kp hR238 (fun e' => hd9 e')) ler rfl ?_)
     intro w243 hk244 hs245 hb246
     refine Qn (Ws (Wr (Q (lG agg34 rfl hb246 rfl) <| Qw (o := 0) (vs := [.slice Ax1 nx1 cx1, .slice Ax2 nx2 cx2, .int .i64 x.Bought, .int .i64 x.Dropped, .int .i64 (IntKind.i64.wrap (x.Mended + s.Value))]) agg34.2 rfl rfl rfl rfl ((hb26.kp hR238 (fun e' => hd29 e')).kn hk244) ler rfl ?_)))
     intro w251 hk252 hs253 hb254
     refine Q (aB rfl) <| Qn (W.ret (retCT rfl rfl agg34 hb254 rfl (v := .bool _) rfl ?_))
     refine ⟨Ax1, nx1, cx1, Ax2, nx2, cx2, eR (eT2 (eA (eC rfl (eC rfl (eC (eI ?_) (eC (eI ?_) (eC (eI ?_) rfl)))))) (eB ?_)), (SlO.eqv ((hm223.kd hk244 hd9).kd hk252 hd29) ?_), (SlO.eqv (((hm33.kp hR238 (fun b_ hb e' => hdx_Maps_x2 b_ e' hb)).kd hk244 hd10).kd hk252 hd30) ?_), hdx_Maps_x2, (fun b_ h_ => .inl (.inl h_)), (fun b_ h_ => .inl (.inr h_)), (((hB28.step hR238 (fun i_ hi_ e' => by have := hm32.base_le e'; first | omega | exact e' | exact .inl e' | exact .inr e')).new hk244).new hk252)⟩ <;> (subst hlex1 hlex2; unfold impl_Library_use; rw [if_neg h36, if_neg h76, if_neg h165, if_pos h197] <;> rfl)
    ·refine Ws (Wr (Q (r_eq rfl rfl) <| Q (aB rfl) <| Qn (W.cond_d rfl (fun h257 => ?_) (fun h257 => ?_))))
     ·refine Ws (W.regA (Kp (KA Ax1) w22) (fun f' w' => At f' [(3, .pointer (pA g1)), (4, .pointer (pA g11)), (6, .pointer (pA g21)), (7, .bool false), (8, .pointer (some ((adr Ax1).add (k.toNat * 3))))] ∧ (Kp (KA Ax1) w22 w') ∧ (SlO w' Bx1 encLMap 3 102 Ax1 nx1 cx1 (x.Maps.set k.toNat ({ (gt x.Maps k.toNat) with Torn := IntKind.i64.wrap (((gt x.Maps k.toNat).Torn) - s.Value) }))) ∧ ((x.Maps.set k.toNat ({ (gt x.Maps k.toNat) with Torn := IntKind.i64.wrap (((gt x.Maps k.toNat).Torn) - s.Value) }))[k.toNat]? = some ({ (gt x.Maps k.toNat) with Torn := IntKind.i64.wrap (((gt x.Maps k.toNat).Torn) - s.Value) }))) mo ?_ ?_)
      ·intro w284 hk285
       have hz286 := hk285.size
       refine Ak 0 rfl ((Kp.refl w22 : Kp (KA Ax1) w22 w22).lo hk285) (fun w' hw' => r_mv (v := .pointer (some _)) rfl) <| Ak 1 rfl ((Kp.refl w22 : Kp (KA Ax1) w22 w22).lo hk285) (fun w' hw' => r_nilc rfl) <| Ak 2 rfl ((Kp.refl w22 : Kp (KA Ax1) w22 w22).lo hk285) (fun w' hw' => fA fa102_2 rfl) <| Ak 4 rfl ((Kp.refl w22 : Kp (KA Ax1) w22 w22).lo hk285) (fun w' hw' => fA fa106_3 rfl) <| Ak 5 rfl ((Kp.refl w22 : Kp (KA Ax1) w22 w22).lo hk285) (fun w' hw' => r_ld (v := .int .i64 s.Value) sca3 rfl (((hb16.lo hk24).kp hw' (fun e' => hd19 e')).cell rfl)) <| Ab 3 rfl (Q (r_ld (v := .int .i64 ((gt x.Maps k.toNat).Torn)) sca3 rfl (((hm32.lo hk285).rd).cell hx35 rfl)) (Qn ⟨(Kp.refl w22 : Kp (KA Ax1) w22 w22).lo hk285, _, rfl, (Ak 6 rfl ((Kp.refl w22 : Kp (KA Ax1) w22 w22).lo hk285) (fun w' hw' => r_subW rfl rfl) <| Ak 7 rfl ((Kp.refl w22 : Kp (KA Ax1) w22 w22).lo hk285) (fun w' hw' => r_nilc rfl) <| Ak 8 rfl ((Kp.refl w22 : Kp (KA Ax1) w22 w22).lo hk285) (fun w' hw' => fA fa102_2 rfl) <| Ab 9 rfl (SR.storeO (o := 2) (vs := [.int .i64 (IntKind.i64.wrap (((gt x.Maps k.toNat).Torn) - s.Value))]) (x1 := { (gt x.Maps k.toNat) with Torn := IntKind.i64.wrap (((gt x.Maps k.toNat).Torn) - s.Value) }) sca3.2 rfl (add_add _ _ _) rfl rfl (hm32.lo hk285) hx35 rfl ler rfl ?_))⟩))
       intro w288 hk289 hs290 hO291
       have hz292 := hk289.size
       have hS294 := ((Kp.refl w22 : Kp (KA Ax1) w22 w22).lo hk285).step hk289 (fun _ _ e => e)
       have hx295 : (x.Maps.set k.toNat ({ (gt x.Maps k.toNat) with Torn := IntKind.i64.wrap (((gt x.Maps k.toNat).Torn) - s.Value) }))[k.toNat]? = some ({ (gt x.Maps k.toNat) with Torn := IntKind.i64.wrap (((gt x.Maps k.toNat).Torn) - s.Value) }) := List.getElem?_set_self (List.getElem?_eq_some_iff.1 hx35).1
       refine Qn ⟨hS294, _, rfl, (AH.done (by kernel_rfl) (⟨(At.r rfl), hS294, hO291, hx295⟩))⟩
      rintro f296 w297 ⟨hat299, hR298, hm283, hx282⟩
      rw [← sets_of_at hat299]
      have hz300 := hR298.size
      refine Ws ?_
      have hm302 := (hb16.lo hk24).kp hR298 (fun e' => hd19 e')
      refine W.regA (Kp (KA Ax1) w297) (fun f' w' => At f' [(3, .pointer (pA g1)), (4, .pointer (pA g11)), (6, .pointer (pA g21)), (7, .bool false)] ∧ (Kp (KA Ax1) w297 w') ∧ (SlO w' Bx1 encLMap 3 102 Ax1 nx1 cx1 ((x.Maps.set k.toNat ({ (gt x.Maps k.toNat) with Torn := IntKind.i64.wrap (((gt x.Maps k.toNat).Torn) - s.Value) })).set k.toNat ({ ({ (gt x.Maps k.toNat) with Torn := IntKind.i64.wrap (((gt x.Maps k.toNat).Torn) - s.Value) }) with Copies := IntKind.i64.wrap (((gt x.Maps k.toNat).Copies) - s.Value) }))) ∧ (((x.Maps.set k.toNat ({ (gt x.Maps k.toNat) with Torn := IntKind.i64.wrap (((gt x.Maps k.toNat).Torn) - s.Value) })).set k.toNat ({ ({ (gt x.Maps k.toNat) with Torn := IntKind.i64.wrap (((gt x.Maps k.toNat).Torn) - s.Value) }) with Copies := IntKind.i64.wrap (((gt x.Maps k.toNat).Copies) - s.Value) }))[k.toNat]? = some ({ ({ (gt x.Maps k.toNat) with Torn := IntKind.i64.wrap (((gt x.Maps k.toNat).Torn) - s.Value) }) with Copies := IntKind.i64.wrap (((gt x.Maps k.toNat).Copies) - s.Value) }))) mo ?_ ?_
      ·intro w329 hk330
       have hz331 := hk330.size
       refine Ak 0 rfl ((Kp.refl w297 : Kp (KA Ax1) w297 w297).lo hk330) (fun w' hw' => r_mv (v := .pointer (some _)) rfl) <| Ak 1 rfl ((Kp.refl w297 : Kp (KA Ax1) w297 w297).lo hk330) (fun w' hw' => r_nilc rfl) <| Ak 2 rfl ((Kp.refl w297 : Kp (KA Ax1) w297 w297).lo hk330) (fun w' hw' => fA fa102_1 rfl) <| Ak 4 rfl ((Kp.refl w297 : Kp (KA Ax1) w297 w297).lo hk330) (fun w' hw' => fA fa106_3 rfl) <| Ak 5 rfl ((Kp.refl w297 : Kp (KA Ax1) w297 w297).lo hk330) (fun w' hw' => r_ld (v := .int .i64 s.Value) sca3 rfl ((hm302.kp hw' (fun e' => hd19 e')).cell rfl)) <| Ab 3 rfl (Q (r_ld (v := .int .i64 ((gt x.Maps k.toNat).Copies)) sca3 rfl (((hm283.lo hk330).rd).cell hx282 rfl)) (Qn ⟨(Kp.refl w297 : Kp (KA Ax1) w297 w297).lo hk330, _, rfl, (Ak 6 rfl ((Kp.refl w297 : Kp (KA Ax1) w297 w297).lo hk330) (fun w' hw' => r_subW rfl rfl) <| Ak 7 rfl ((Kp.refl w297 : Kp (KA Ax1) w297 w297).lo hk330) (fun w' hw' => r_nilc rfl) <| Ak 8 rfl ((Kp.refl w297 : Kp (KA Ax1) w297 w297).lo hk330) (fun w' hw' => fA fa102_1 rfl) <| Ab 9 rfl (SR.storeO (o := 1) (vs := [.int .i64 (IntKind.i64.wrap (((gt x.Maps k.toNat).Copies) - s.Value))]) (x1 := { ({ (gt x.Maps k.toNat) with Torn := IntKind.i64.wrap (((gt x.Maps k.toNat).Torn) - s.Value) }) with Copies := IntKind.i64.wrap (((gt x.Maps k.toNat).Copies) - s.Value) }) sca3.2 rfl (add_add _ _ _) rfl rfl (hm283.lo hk330) hx282 rfl ler rfl ?_))⟩))
       intro w333 hk334 hs335 hO336
       have hz337 := hk334.size
       have hS339 := ((Kp.refl w297 : Kp (KA Ax1) w297 w297).lo hk330).step hk334 (fun _ _ e => e)
       have hx340 : ((x.Maps.set k.toNat ({ (gt x.Maps k.toNat) with Torn := IntKind.i64.wrap (((gt x.Maps k.toNat).Torn) - s.Value) })).set k.toNat ({ ({ (gt x.Maps k.toNat) with Torn := IntKind.i64.wrap (((gt x.Maps k.toNat).Torn) - s.Value) }) with Copies := IntKind.i64.wrap (((gt x.Maps k.toNat).Copies) - s.Value) }))[k.toNat]? = some ({ ({ (gt x.Maps k.toNat) with Torn := IntKind.i64.wrap (((gt x.Maps k.toNat).Torn) - s.Value) }) with Copies := IntKind.i64.wrap (((gt x.Maps k.toNat).Copies) - s.Value) }) := List.getElem?_set_self (List.getElem?_eq_some_iff.1 hx282).1
       refine Qn ⟨hS339, _, rfl, (AH.done (by kernel_rfl) (⟨(At.r rfl), hS339, hO336, hx340⟩))⟩
      rintro f341 w342 ⟨hat344, hR343, hm328, hx327⟩
      rw [← sets_of_at hat344]
      have hz345 := hR343.size
      have hm347 := (hm31.kp hR298 (fun e' => hd9 e')).kp hR343 (fun e' => hd9 e')
      refine Wr (Q (fA fa34_3 rfl) <| Q (lB sca3 rfl hm347 rfl) <| Q (fA fa106_3 rfl) <| Q (lB sca3 rfl (hm302.kp hR343 (fun e' => hd19 e')) rfl) <| Q (r_addW rfl rfl) <| Q (fA fa34_3 rfl) <| Qw (o := 3) (vs := [.int .i64 (IntKind.i64.wrap (x.Dropped + s.Value))]) sca3.2 rfl rfl rfl rfl hm347 ler rfl ?_)
      intro w350 hk351 hs352 hb353
      refine Qn (Ws (Wr (Q (lG agg34 rfl hb353 rfl) <| Qw (o := 0) (vs := [.slice Ax1 nx1 cx1, .slice Ax2 nx2 cx2, .int .i64 x.Bought, .int .i64 (IntKind.i64.wrap (x.Dropped + s.Value)), .int .i64 x.Mended]) agg34.2 rfl rfl rfl rfl (((hb26.kp hR298 (fun e' => hd29 e')).kp hR343 (fun e' => hd29 e')).kn hk351) ler rfl ?_)))
      intro w356 hk357 hs358 hb359
      refine Q (aB rfl) <| Qn (W.ret (retCT rfl rfl agg34 hb359 rfl (v := .bool _) rfl ?_))
      refine ⟨Ax1, nx1, cx1, Ax2, nx2, cx2, eR (eT2 (eA (eC rfl (eC rfl (eC (eI ?_) (eC (eI ?_) (eC (eI ?_) rfl)))))) (eB ?_)), (SlO.eqv ((hm328.kd hk351 hd9).kd hk357 hd29) ?_), (SlO.eqv ((((hm33.kp hR298 (fun b_ hb e' => hdx_Maps_x2 b_ e' hb)).kp hR343 (fun b_ hb e' => hdx_Maps_x2 b_ e' hb)).kd hk351 hd10).kd hk357 hd30) ?_), hdx_Maps_x2, (fun b_ h_ => .inl (.inl h_)), (fun b_ h_ => .inl (.inr h_)), ((((hB28.step hR298 (fun i_ hi_ e' => by have := hm32.base_le e'; first | omega | exact e' | exact .inl e' | exact .inr e')).step hR343 (fun i_ hi_ e' => by have := hm283.base_le e'; first | omega | exact e' | exact .inl e' | exact .inr e')).new hk351).new hk357)⟩ <;> (subst hlex1 hlex2; unfold impl_Library_use; rw [if_neg h36, if_neg h76, if_neg h165, if_neg h197, if_pos h257] <;> rfl)
     ·refine W.regA (Kp (KA Ax1) w22) (fun f' w' => At f' [(3, .pointer (pA g1)), (6, .pointer (pA g21)), (7, .bool false)] ∧ (Kp (KA Ax1) w22 w') ∧ (SlO w' Bx1 encLMap 3 102 Ax1 nx1 cx1 (x.Maps.set k.toNat ({ (gt x.Maps k.toNat) with Torn := IntKind.i64.wrap (((gt x.Maps k.toNat).Torn) + s.Value) }))) ∧ ((x.Maps.set k.toNat ({ (gt x.Maps k.toNat) with Torn := IntKind.i64.wrap (((gt x.Maps k.toNat).Torn) + s.Value) }))[k.toNat]? = some ({ (gt x.Maps k.toNat) with Torn := IntKind.i64.wrap (((gt x.Maps k.toNat).Torn) + s.Value) }))) mo ?_ ?_
      ·intro w388 hk389
       have hz390 := hk389.size
       refine Ak 0 rfl ((Kp.refl w22 : Kp (KA Ax1) w22 w22).lo hk389) (fun w' hw' => r_mv (v := .pointer (some _)) rfl) <| Ak 1 rfl ((Kp.refl w22 : Kp (KA Ax1) w22 w22).lo hk389) (fun w' hw' => r_nilc rfl) <| Ak 2 rfl ((Kp.refl w22 : Kp (KA Ax1) w22 w22).lo hk389) (fun w' hw' => fA fa102_2 rfl) <| Ak 4 rfl ((Kp.refl w22 : Kp (KA Ax1) w22 w22).lo hk389) (fun w' hw' => fA fa106_3 rfl) <| Ak 5 rfl ((Kp.refl w22 : Kp (KA Ax1) w22 w22).lo hk389) (fun w' hw' => r_ld (v := .int .i64 s.Value) sca3 rfl (((hb16.lo hk24).kp hw' (fun e' => hd19 e')).cell rfl)) <| Ab 3 rfl (Q (r_ld (v := .int .i64 ((gt x.Maps k.toNat).Torn)) sca3 rfl (((hm32.lo hk389).rd).cell hx35 rfl)) (Qn ⟨(Kp.refl w22 : Kp (KA Ax1) w22 w22).lo hk389, _, rfl, (Ak 6 rfl ((Kp.refl w22 : Kp (KA Ax1) w22 w22).lo hk389) (fun w' hw' => r_addW rfl rfl) <| Ak 7 rfl ((Kp.refl w22 : Kp (KA Ax1) w22 w22).lo hk389) (fun w' hw' => r_nilc rfl) <| Ak 8 rfl ((Kp.refl w22 : Kp (KA Ax1) w22 w22).lo hk389) (fun w' hw' => fA fa102_2 rfl) <| Ab 9 rfl (SR.storeO (o := 2) (vs := [.int .i64 (IntKind.i64.wrap (((gt x.Maps k.toNat).Torn) + s.Value))]) (x1 := { (gt x.Maps k.toNat) with Torn := IntKind.i64.wrap (((gt x.Maps k.toNat).Torn) + s.Value) }) sca3.2 rfl (add_add _ _ _) rfl rfl (hm32.lo hk389) hx35 rfl ler rfl ?_))⟩))
       intro w392 hk393 hs394 hO395
       have hz396 := hk393.size
       have hS398 := ((Kp.refl w22 : Kp (KA Ax1) w22 w22).lo hk389).step hk393 (fun _ _ e => e)
       have hx399 : (x.Maps.set k.toNat ({ (gt x.Maps k.toNat) with Torn := IntKind.i64.wrap (((gt x.Maps k.toNat).Torn) + s.Value) }))[k.toNat]? = some ({ (gt x.Maps k.toNat) with Torn := IntKind.i64.wrap (((gt x.Maps k.toNat).Torn) + s.Value) }) := List.getElem?_set_self (List.getElem?_eq_some_iff.1 hx35).1
       refine Qn ⟨hS398, _, rfl, (AH.done (by kernel_rfl) (⟨(At.r rfl), hS398, hO395, hx399⟩))⟩
      rintro f400 w401 ⟨hat403, hR402, hm387, hx386⟩
      rw [← sets_of_at hat403]
      have hz404 := hR402.size
      refine Ws (Wr (Q (lG agg34 rfl (hm31.kp hR402 (fun e' => hd9 e')) rfl) <| Qw (o := 0) (vs := (cLb Ax1 nx1 cx1 Ax2 nx2 cx2 x)) agg34.2 rfl rfl rfl rfl (hb26.kp hR402 (fun e' => hd29 e')) ler rfl ?_))
      intro w406 hk407 hs408 hb409
      refine Q (aB rfl) <| Qn (W.ret (retCT rfl rfl agg34 hb409 rfl (v := .bool _) rfl ?_))
      refine ⟨Ax1, nx1, cx1, Ax2, nx2, cx2, eR (eT2 (eA (eC rfl (eC rfl (eC (eI ?_) (eC (eI ?_) (eC (eI ?_) rfl)))))) (eB ?_)), (SlO.eqv (hm387.kd hk407 hd29) ?_), (SlO.eqv ((hm33.kp hR402 (fun b_ hb e' => hdx_Maps_x2 b_ e' hb)).kd hk407 hd30) ?_), hdx_Maps_x2, (fun b_ h_ => .inl (.inl h_)), (fun b_ h_ => .inl (.inr h_)), ((hB28.step hR402 (fun i_ hi_ e' => by have := hm32.base_le e'; first | omega | exact e' | exact .inl e' | exact .inr e')).new hk407)⟩ <;> (subst hlex1 hlex2; unfold impl_Library_use; rw [if_neg h36, if_neg h76, if_neg h165, if_neg h197, if_neg h257] <;> rfl)
end Go.Proofs.YtndcchndcghmoaaGreatDoor
namespace Go.Proofs.YtndcchndcghmoaaGreatDoor
open Go Go.RowKit Fw
section
variable (x : Library) (s : LibraryStep) (k : Int)
theorem hand_lenMaps : (((impl_Library_hand x s).1).Maps).length ≤ x.Maps.length := by
  unfold impl_Library_hand
  split
  · simp
  · split
    · simp
    · exact Nat.le_trans (give_lenMaps _ _ _) (fetch_lenMaps _ _ _)
theorem hand_lenAway : (((impl_Library_hand x s).1).Away).length ≤ x.Away.length + 1 := by
  unfold impl_Library_hand
  split
  · simp
  · split
    · simp
    · have h1 := give_lenAway ((impl_Library_fetch x s.Id s.Reader).1) s.Id s.Value
      have h2 := fetch_lenAway x s.Id s.Reader
      dsimp only; omega
theorem use_lenMaps : (((impl_Library_use x s k).1).Maps).length ≤ x.Maps.length := by
  unfold impl_Library_use
  repeat' split
  · exact Nat.le_trans (give_lenMaps _ _ _) (by simp)
  · exact Nat.le_trans (fetch_lenMaps _ _ _) (by simp)
  · exact hand_lenMaps x s
  all_goals simp
theorem use_lenAway : (((impl_Library_use x s k).1).Away).length ≤ x.Away.length + 1 := by
  unfold impl_Library_use
  repeat' split
  · exact give_lenAway _ _ _
  · exact Nat.le_trans (fetch_lenAway _ _ _) (by simp)
  · exact hand_lenAway x s
  all_goals simp
end
end Go.Proofs.YtndcchndcghmoaaGreatDoor
namespace Go.Proofs.YtndcchndcghmoaaGreatDoor
open Go Go.RowKit Fw
set_option maxRecDepth 10000
set_option maxHeartbeats 2000000
set_option linter.unusedVariables false
theorem ent150 : Ent Tryz.prog 150 := en Tryz.func150
theorem ent151 : Ent Tryz.prog 151 := en Tryz.func151
theorem ent152 : Ent Tryz.prog 152 := en Tryz.func152
theorem ent47 : Ent Tryz.prog 47 := en Tryz.func47
open Classical in
noncomputable def impl_Library_stepped (x : Library) (s : LibraryStep) : Library × Bool :=
 if (!(impl_isLibraryStep s)) = true then ((⟨([] : List LMap), ([] : List Away), 0, 0, 0⟩ : Library), false) else if s.Kind = 1 then (if LibOK (impl_Library_buy x s) then ((impl_Library_buy x s), true) else ((⟨([] : List LMap), ([] : List Away), 0, 0, 0⟩ : Library), false)) else if bsF cmpM s.Id x.Maps then (if ((!((impl_Library_use x s (bsP cmpM s.Id x.Maps : Int)).2)) = true) ∨ (¬ (LibOK ((impl_Library_use x s (bsP cmpM s.Id x.Maps : Int)).1))) then ((⟨([] : List LMap), ([] : List Away), 0, 0, 0⟩ : Library), false) else (((impl_Library_use x s (bsP cmpM s.Id x.Maps : Int)).1), true)) else ((⟨([] : List LMap), ([] : List Away), 0, 0, 0⟩ : Library), false)
theorem c__impl_Library__stepped (w : World) (x : Library) {Ax1 : Option Addr} {nx1 cx1 Bx1 : Nat} (hx1 : SlR w Bx1 encLMap 3 Ax1 nx1 cx1 x.Maps) {Ax2 : Option Addr} {nx2 cx2 Bx2 : Nat} (hx2 : SlR w Bx2 encAway 2 Ax2 nx2 cx2 x.Away) (s : LibraryStep) (hp0 : (nx1 : Int) ≤ 50) (hp1 : (nx2 : Int) ≤ 50) : Calls Tryz.prog 97 #[.agg (List.toArray (cLb Ax1 nx1 cx1 Ax2 nx2 cx2 x)), .agg (List.toArray (encLibraryStep s))] w fun e w' => ∃ (A1' : Option Addr) (n1' c1' : Nat) (A2' : Option Addr) (n2' c2' : Nat), e = .returned (.tuple (List.toArray [.agg (List.toArray [.slice A1' n1' c1', .slice A2' n2' c2', .int .i64 (((impl_Library_stepped x s).1).Bought), .int .i64 (((impl_Library_stepped x s).1).Dropped), .int .i64 (((impl_Library_stepped x s).1).Mended)]), .bool ((impl_Library_stepped x s).2)])) ∧ SlO w' w.heap.size encLMap 3 102 A1' n1' c1' (((impl_Library_stepped x s).1).Maps) ∧ SlO w' w.heap.size encAway 2 129 A2' n2' c2' (((impl_Library_stepped x s).1).Away) ∧ Dj A1' A2' ∧ Lo w w' := by
 refine calls_W 48 Tryz.func97 rfl rfl rfl ?_
 have hbdx1 := hx1.bound
 have hlex1 := hx1.len
 have hBbx1 := hx1.bd
 have hbdx2 := hx2.bound
 have hlex2 := hx2.len
 have hBbx2 := hx2.bd
 refine Ws (Wr (SR.box (v := .agg (List.toArray _)) (l := (cLb Ax1 nx1 cx1 Ax2 nx2 cx2 x)) rfl rfl ?_))
 intro g1 w2 hg3 hk4 hs5 hb6
 refine SR.box (v := .agg (List.toArray _)) (l := [.int .i64 s.Kind, .int .i64 s.Id, .int .i64 s.Reader, .int .i64 s.Value]) rfl rfl ?_
 intro g9 w10 hg11 hk12 hs13 hb14
 refine SR.alloc (l := [.slice none 0 0, .slice none 0 0, .int .i64 0, .int .i64 0, .int .i64 0]) tz34 rfl ?_
 intro g17 w18 hg19 hk20 hs21 hb22
 refine Q (aB rfl) <| Qn (Ws (Ws (Wr (Q (lG agg106 rfl (hb14.lo hk20) rfl) <| Qv ent150 (c_impl_isLibraryStep w18 s) rfl fun w28 hk29 hz30 => ?_))))
 have hB31 := ((((Lo.refl w).lo hk4).lo hk12).lo hk20).lo hk29
 refine Q (r_not rfl) <| Qn (W.cond_b rfl (fun h32 => ?_) (fun h32 => ?_))
 ·have hq33 := bnot_t h32
  refine Ws (Wr (Q (r_build (vs := []) rfl bld34_) <| Qw (o := 0) (vs := [.slice none 0 0, .slice none 0 0, .int .i64 0, .int .i64 0, .int .i64 0]) agg34.2 rfl rfl rfl rfl (hb22.lo hk29) ler rfl ?_))
  intro w35 hk36 hs37 hb38
  refine Q (aB rfl) <| Qn (W.ret (retCT rfl rfl agg34 hb38 rfl (v := .bool _) rfl ?_))
  refine ⟨none, 0, 0, none, 0, 0, eR (eT2 (eA (eC rfl (eC rfl (eC (eI ?_) (eC (eI ?_) (eC (eI ?_) rfl)))))) (eB ?_)), (SlO.eqv (SlO.nil (e := 102) (enc := encLMap) (fun _ => rfl) (by omega)) ?_), (SlO.eqv (SlO.nil (e := 129) (enc := encAway) (fun _ => rfl) (by omega)) ?_), (fun b_ h => by cases h), (hB31.new hk36)⟩ <;> (unfold impl_Library_stepped; rw [if_pos h32] <;> rfl)
 ·have hq41 := bnot_f h32
  refine W.skip (Ws (Wr (Q (lG agg34 rfl (((hb6.lo hk12).lo hk20).lo hk29) rfl) <| SR.call ent47 (c__impl_Library__own w28 x ((((hx1.lo hk4).lo hk12).lo hk20).lo hk29) ((((hx2.lo hk4).lo hk12).lo hk20).lo hk29) (by omega) (by omega)) rfl ?_)))
  rintro e w43 ⟨A45, n46, c47, A49, n50, c51, rfl, hO48, hO52, hd53, hk44⟩
  refine ⟨_, rfl, ?_⟩
  have hz54 := hk44.size
  have hl56 := hO48.len
  have hl57 := hO48.rd.bound
  have hl58 := hO52.len
  have hl59 := hO52.rd.bound
  refine SR.alloc (l := [.slice none 0 0, .slice none 0 0, .int .i64 0, .int .i64 0, .int .i64 0]) tz34 rfl ?_
  intro g60 w61 hg62 hk63 hs64 hb65
  have hd68 := SlO.ne (g := g60) hO48
  have hd69 := SlO.ne (g := g60) hO52
  refine Qw (o := 0) (vs := (cLb A45 n46 c47 A49 n50 c51 x)) agg34.2 rfl rfl rfl rfl hb65 ler rfl ?_
  intro w70 hk71 hs72 hb73
  have hB75 := ((hB31.lo hk44).lo hk63).new hk71
  refine Q (aB rfl) <| Qn (Ws (Ws ?_))
  have hm76 := ((((hb14.lo hk20).lo hk29).lo hk44).lo hk63).kn hk71
  have hm77 := (((hb22.lo hk29).lo hk44).lo hk63).kn hk71
  have hm78 := (hO48.lo hk63).kd hk71 hd68
  have hm79 := (hO52.lo hk63).kd hk71 hd69
  refine Wr (Q (fA fa106_0 rfl) <| Q (lB sca3 rfl hm76 rfl) <| Q (r_eq rfl rfl) <| Qn (W.cond_d rfl (fun h80 => ?_) (fun h80 => ?_)))
  ·refine Wr (Q (lG agg34 rfl hb73 rfl) <| Q (lG agg106 rfl hm76 rfl) <| SR.call ent151 (c__impl_Library__buy w70 x hm78 hm79 s hd53 (by omega) (by omega)) rfl ?_)
   rintro e w81 ⟨A83, n84, c85, A87, n88, c89, rfl, hO86, hO90, hd91, hN92, hN93, hk82⟩
   refine ⟨_, rfl, ?_⟩
   have hz94 := hk82.size
   have hd98 : ¬ A83 = some ⟨g17, 0, none⟩ := fun e' => (hN92 g17 e').elim (fun h => h.elim (fun h => (by have := hm78.base_le h; omega)) (fun h => (by have := hm79.base_le h; omega))) (fun h => by have := hm77.lt; omega)
   have hd99 : ¬ A83 = some ⟨g60, 0, none⟩ := fun e' => (hN92 g60 e').elim (fun h => h.elim (fun h => hd68 h) (fun h => hd69 h)) (fun h => by have := hb73.lt; omega)
   have hd102 : ¬ A87 = some ⟨g17, 0, none⟩ := fun e' => (hN93 g17 e').elim (fun h => h.elim (fun h => (by have := hm78.base_le h; omega)) (fun h => (by have := hm79.base_le h; omega))) (fun h => by have := hm77.lt; omega)
   have hd103 : ¬ A87 = some ⟨g60, 0, none⟩ := fun e' => (hN93 g60 e').elim (fun h => h.elim (fun h => hd68 h) (fun h => hd69 h)) (fun h => by have := hb73.lt; omega)
   have hl104 := hO86.len
   have hl105 := hO86.rd.bound
   have hq106 := buy_lenMaps x s
   have hl107 := hO90.len
   have hl108 := hO90.rd.bound
   have hq109 := buy_lenAway x s
   refine Qw (o := 0) (vs := [.slice A83 n84 c85, .slice A87 n88 c89, .int .i64 ((impl_Library_buy x s).Bought), .int .i64 ((impl_Library_buy x s).Dropped), .int .i64 ((impl_Library_buy x s).Mended)]) agg34.2 rfl rfl rfl rfl (hb73.kp hk82 (fun e' => e'.elim (fun e' => hd68 e') (fun e' => hd69 e'))) ler rfl ?_
   intro w110 hk111 hs112 hb113
   refine Qn (Ws (Ws ?_))
   have hm116 := (hm77.kp hk82 (fun e' => e'.elim (fun e' => by have := hm78.base_le e'; omega) (fun e' => by have := hm79.base_le e'; omega))).kn hk111
   refine Wr (Q (mB rfl) <| Q (r_not rfl) <| Q (mB rfl) <| Qg rfl (lG agg34 rfl hb113 rfl) <| SR.gcall rfl ent72 (c_impl_IsLibrary w110 (impl_Library_buy x s) ((hO86.kd hk111 hd99).rd) ((hO90.kd hk111 hd103).rd) (by omega)) rfl ?_)
   rintro e w117 ⟨rfl, hk118⟩
   refine ⟨_, rfl, ?_⟩
   have hz119 := hk118.size
   have hB120 := ((hB75.step hk82 (fun i_ hi_ e' => e'.elim (fun e' => by have := hm78.base_le e'; first | omega | exact e' | exact .inl e' | exact .inr e') (fun e' => by have := hm79.base_le e'; first | omega | exact e' | exact .inl e' | exact .inr e'))).new hk111).lo hk118
   refine Qg rfl (r_not rfl) <| Q (r_pick false rfl (v := .bool _) rfl) <| Qn (W.cond_n rfl (fun h121 => ?_) (fun h121 => ?_))
   ·refine Ws (Wr (Q (r_build (vs := []) rfl bld34_) <| Qw (o := 0) (vs := [.slice none 0 0, .slice none 0 0, .int .i64 0, .int .i64 0, .int .i64 0]) agg34.2 rfl rfl rfl rfl (hm116.lo hk118) ler rfl ?_))
    intro w124 hk125 hs126 hb127
    refine Q (aB rfl) <| Qn (W.ret (retCT rfl rfl agg34 hb127 rfl (v := .bool _) rfl ?_))
    refine ⟨none, 0, 0, none, 0, 0, eR (eT2 (eA (eC rfl (eC rfl (eC (eI ?_) (eC (eI ?_) (eC (eI ?_) rfl)))))) (eB ?_)), (SlO.eqv (SlO.nil (e := 102) (enc := encLMap) (fun _ => rfl) (by omega)) ?_), (SlO.eqv (SlO.nil (e := 129) (enc := encAway) (fun _ => rfl) (by omega)) ?_), (fun b_ h => by cases h), (hB120.new hk125)⟩ <;> (unfold impl_Library_stepped; rw [if_neg (ne_true_of_eq_false h32), if_pos h80, if_neg h121] <;> rfl)
   ·refine W.skip (Ws (Wr (Q (lG agg34 rfl (hb113.lo hk118) rfl) <| Qw (o := 0) (vs := [.slice A83 n84 c85, .slice A87 n88 c89, .int .i64 ((impl_Library_buy x s).Bought), .int .i64 ((impl_Library_buy x s).Dropped), .int .i64 ((impl_Library_buy x s).Mended)]) agg34.2 rfl rfl rfl rfl (hm116.lo hk118) ler rfl ?_)))
    intro w132 hk133 hs134 hb135
    refine Q (aB rfl) <| Qn (W.ret (retCT rfl rfl agg34 hb135 rfl (v := .bool _) rfl ?_))
    refine ⟨A83, n84, c85, A87, n88, c89, eR (eT2 (eA (eC rfl (eC rfl (eC (eI ?_) (eC (eI ?_) (eC (eI ?_) rfl)))))) (eB ?_)), (SlO.eqv ((((hO86.kd hk111 hd99).lo hk118).kd hk133 hd98).down) ?_), (SlO.eqv ((((hO90.kd hk111 hd103).lo hk118).kd hk133 hd102).down) ?_), hd91, (hB120.new hk133)⟩ <;> (subst hl104 hl107; unfold impl_Library_stepped; rw [if_neg (ne_true_of_eq_false h32), if_pos h80, if_pos h121] <;> rfl)
  ·refine Ws (Wr (Q (lG agg34 rfl hb73 rfl) <| Q (fA fa106_1 rfl) <| Q (lB sca3 rfl hm76 rfl) <| Qv ent121 (c__impl_Library__mapAt w70 x (hm78.rd) (hm79.rd) s.Id (by omega)) rfl fun w138 hk139 hz140 => ?_))
   have hB141 := hB75.lo hk139
   have hq142 : bsP cmpM s.Id x.Maps ≤ x.Maps.length := bsP_le
   refine Q (mT rfl) <| Q (xI rfl rfl) <| Q (xB rfl rfl) <| Q (aI rfl) <| Q (aB rfl) <| Qn (Ws (Ws (Wr (Q (mB rfl) <| Q (r_not rfl) <| Qn (W.cond_n rfl (fun h143 => ?_) (fun h143 => ?_))))))
   ·refine Ws (Wr (Q (r_build (vs := []) rfl bld34_) <| Qw (o := 0) (vs := [.slice none 0 0, .slice none 0 0, .int .i64 0, .int .i64 0, .int .i64 0]) agg34.2 rfl rfl rfl rfl (hm77.lo hk139) ler rfl ?_))
    intro w144 hk145 hs146 hb147
    refine Q (aB rfl) <| Qn (W.ret (retCT rfl rfl agg34 hb147 rfl (v := .bool _) rfl ?_))
    refine ⟨none, 0, 0, none, 0, 0, eR (eT2 (eA (eC rfl (eC rfl (eC (eI ?_) (eC (eI ?_) (eC (eI ?_) rfl)))))) (eB ?_)), (SlO.eqv (SlO.nil (e := 102) (enc := encLMap) (fun _ => rfl) (by omega)) ?_), (SlO.eqv (SlO.nil (e := 129) (enc := encAway) (fun _ => rfl) (by omega)) ?_), (fun b_ h => by cases h), (hB141.new hk145)⟩ <;> (unfold impl_Library_stepped; rw [if_neg (ne_true_of_eq_false h32), if_neg h80, if_neg h143] <;> rfl)
   ·have hq150 := And.left h143
    have hq151 := And.left h143
    refine W.skip (Wr (Q (lG agg34 rfl (hb73.lo hk139) rfl) <| Q (lG agg106 rfl (hm76.lo hk139) rfl) <| Q (mI rfl) <| SR.call ent152 (c__impl_Library__use w138 x (hm78.lo hk139) (hm79.lo hk139) s (bsP cmpM s.Id x.Maps : Int) hd53 (by omega) (by omega) (by omega)) rfl ?_))
    rintro e w152 ⟨A154, n155, c156, A158, n159, c160, rfl, hO157, hO161, hd162, hN163, hN164, hk153⟩
    refine ⟨_, rfl, ?_⟩
    have hz165 := hk153.size
    have hd169 : ¬ A154 = some ⟨g17, 0, none⟩ := fun e' => (hN163 g17 e').elim (fun h => h.elim (fun h => (by have := (hm78.lo hk139).base_le h; omega)) (fun h => (by have := (hm79.lo hk139).base_le h; omega))) (fun h => by have := (hm77.lo hk139).lt; omega)
    have hd170 : ¬ A154 = some ⟨g60, 0, none⟩ := fun e' => (hN163 g60 e').elim (fun h => h.elim (fun h => hd68 h) (fun h => hd69 h)) (fun h => by have := (hb73.lo hk139).lt; omega)
    have hd173 : ¬ A158 = some ⟨g17, 0, none⟩ := fun e' => (hN164 g17 e').elim (fun h => h.elim (fun h => (by have := (hm78.lo hk139).base_le h; omega)) (fun h => (by have := (hm79.lo hk139).base_le h; omega))) (fun h => by have := (hm77.lo hk139).lt; omega)
    have hd174 : ¬ A158 = some ⟨g60, 0, none⟩ := fun e' => (hN164 g60 e').elim (fun h => h.elim (fun h => hd68 h) (fun h => hd69 h)) (fun h => by have := (hb73.lo hk139).lt; omega)
    have hl175 := hO157.len
    have hl176 := hO157.rd.bound
    have hq177 := use_lenMaps x s (bsP cmpM s.Id x.Maps : Int)
    have hl178 := hO161.len
    have hl179 := hO161.rd.bound
    have hq180 := use_lenAway x s (bsP cmpM s.Id x.Maps : Int)
    refine Q (mT rfl) <| Q (xG rfl rfl) <| Q (xB rfl rfl) <| Qw (o := 0) (vs := [.slice A154 n155 c156, .slice A158 n159 c160, .int .i64 (((impl_Library_use x s (bsP cmpM s.Id x.Maps : Int)).1).Bought), .int .i64 (((impl_Library_use x s (bsP cmpM s.Id x.Maps : Int)).1).Dropped), .int .i64 (((impl_Library_use x s (bsP cmpM s.Id x.Maps : Int)).1).Mended)]) agg34.2 rfl rfl rfl rfl ((hb73.lo hk139).kp hk153 (fun e' => e'.elim (fun e' => hd68 e') (fun e' => hd69 e'))) ler rfl ?_
    intro w181 hk182 hs183 hb184
    refine Q (aB rfl) <| Qn (Ws (Ws ?_))
    have hm187 := ((hm77.lo hk139).kp hk153 (fun e' => e'.elim (fun e' => by have := (hm78.lo hk139).base_le e'; omega) (fun e' => by have := (hm79.lo hk139).base_le e'; omega))).kn hk182
    refine W.regJS (fun f' w' => At f' [(4, .pointer (pA g17)), (5, .bool false), (6, .pointer (pA g60)), (45, .bool (decide (((!((impl_Library_use x s (bsP cmpM s.Id x.Maps : Int)).2)) = true) ∨ (¬ (LibOK ((impl_Library_use x s (bsP cmpM s.Id x.Maps : Int)).1))))))] ∧ Lo w181 w') ?_ ?_
    ·refine Q (mB rfl) <| Q (r_not rfl) <| Q (mB rfl) <| SR.split (fun h188 => ?_) (fun h188 => ?_)
     ·have hq189 := bnot_t h188
      refine Qs rfl <| Qs rfl <| Qs rfl <| Q (r_pick true rfl (v := .bool true) rfl) <| Qn (⟨_, rfl, ⟨⟨rfl, rfl, rfl, (eDT ((jot h188).1 trivial)), trivial⟩, (Lo.refl _)⟩⟩)
     ·have hq190 := bnot_f h188
      refine Qg rfl (lG agg34 rfl hb184 rfl) <| SR.gcall rfl ent72 (c_impl_IsLibrary w181 ((impl_Library_use x s (bsP cmpM s.Id x.Maps : Int)).1) ((hO157.kd hk182 hd170).rd) ((hO161.kd hk182 hd174).rd) (by omega)) rfl ?_
      rintro e w191 ⟨rfl, hk192⟩
      refine ⟨_, rfl, ?_⟩
      have hz193 := hk192.size
      refine Qg rfl (r_not rfl) <| Q (r_pick false rfl (v := .bool _) rfl) <| Qn (⟨_, rfl, ⟨⟨rfl, rfl, rfl, (eND (jof (ne_true_of_eq_false h188))), trivial⟩, hk192⟩⟩)
    rintro f195 w196 ⟨hat197, hk198⟩
    rw [← sets_of_at hat197]
    have hz199 := hk198.size
    have hB200 := ((hB141.step hk153 (fun i_ hi_ e' => e'.elim (fun e' => by have := (hm78.lo hk139).base_le e'; first | omega | exact e' | exact .inl e' | exact .inr e') (fun e' => by have := (hm79.lo hk139).base_le e'; first | omega | exact e' | exact .inl e' | exact .inr e'))).new hk182).lo hk198
    refine W.cond_d rfl (fun h201 => ?_) (fun h201 => ?_)
    ·refine Ws (Wr (Q (r_build (vs := []) rfl bld34_) <| Qw (o := 0) (vs := [.slice none 0 0, .slice none 0 0, .int .i64 0, .int .i64 0, .int .i64 0]) agg34.2 rfl rfl rfl rfl (hm187.lo hk198) ler rfl ?_))
     intro w204 hk205 hs206 hb207
     refine Q (aB rfl) <| Qn (W.ret (retCT rfl rfl agg34 hb207 rfl (v := .bool _) rfl ?_))
     refine ⟨none, 0, 0, none, 0, 0, eR (eT2 (eA (eC rfl (eC rfl (eC (eI ?_) (eC (eI ?_) (eC (eI ?_) rfl)))))) (eB ?_)), (SlO.eqv (SlO.nil (e := 102) (enc := encLMap) (fun _ => rfl) (by omega)) ?_), (SlO.eqv (SlO.nil (e := 129) (enc := encAway) (fun _ => rfl) (by omega)) ?_), (fun b_ h => by cases h), (hB200.new hk205)⟩ <;> (unfold impl_Library_stepped; rw [if_neg (ne_true_of_eq_false h32), if_neg h80, if_pos h143, if_pos h201] <;> rfl)
    ·have hq210 : ¬ ((!((impl_Library_use x s (bsP cmpM s.Id x.Maps : Int)).2)) = true) := (not_or.1 h201).1
     have hq211 : LibOK ((impl_Library_use x s (bsP cmpM s.Id x.Maps : Int)).1) := (Classical.not_not.1 (not_or.1 h201).2)
     refine W.skip (Ws (Wr (Q (lG agg34 rfl (hb184.lo hk198) rfl) <| Qw (o := 0) (vs := [.slice A154 n155 c156, .slice A158 n159 c160, .int .i64 (((impl_Library_use x s (bsP cmpM s.Id x.Maps : Int)).1).Bought), .int .i64 (((impl_Library_use x s (bsP cmpM s.Id x.Maps : Int)).1).Dropped), .int .i64 (((impl_Library_use x s (bsP cmpM s.Id x.Maps : Int)).1).Mended)]) agg34.2 rfl rfl rfl rfl (hm187.lo hk198) ler rfl ?_)))
     intro w214 hk215 hs216 hb217
     refine Q (aB rfl) <| Qn (W.ret (retCT rfl rfl agg34 hb217 rfl (v := .bool _) rfl ?_))
     refine ⟨A154, n155, c156, A158, n159, c160, eR (eT2 (eA (eC rfl (eC rfl (eC (eI ?_) (eC (eI ?_) (eC (eI ?_) rfl)))))) (eB ?_)), (SlO.eqv ((((hO157.kd hk182 hd170).lo hk198).kd hk215 hd169).down) ?_), (SlO.eqv ((((hO161.kd hk182 hd174).lo hk198).kd hk215 hd173).down) ?_), hd162, (hB200.new hk215)⟩ <;> (subst hl175 hl178; unfold impl_Library_stepped; rw [if_neg (ne_true_of_eq_false h32), if_neg h80, if_pos h143, if_neg h201] <;> rfl)
end Go.Proofs.YtndcchndcghmoaaGreatDoor
namespace Go.Proofs.YtndcchndcghmoaaGreatDoor
open Go Go.RowKit Fw
set_option maxRecDepth 10000
set_option maxHeartbeats 2000000
set_option linter.unusedVariables false
theorem c_spec_l32Away (w : World) (x : Library) {Ax1 : Option Addr} {nx1 cx1 Bx1 : Nat} (hx1 : SlR w Bx1 encLMap 3 Ax1 nx1 cx1 x.Maps) {Ax2 : Option Addr} {nx2 cx2 Bx2 : Nat} (hx2 : SlR w Bx2 encAway 2 Ax2 nx2 cx2 x.Away) (id : Int) (r : Int) : Calls Tryz.prog 192 #[.agg (List.toArray (cLb Ax1 nx1 cx1 Ax2 nx2 cx2 x)), .int .i64 id, .int .i64 r] w fun e w' => e = .returned (.int .i64 (idxF (isA id r) x.Away)) ∧ Lo w w' := by
 refine calls_W 34 Tryz.func192 rfl rfl rfl ?_
 have hbdx1 := hx1.bound
 have hlex1 := hx1.len
 have hBbx1 := hx1.bd
 have hbdx2 := hx2.bound
 have hlex2 := hx2.len
 have hBbx2 := hx2.bd
 refine Ws (Wr (SR.box (v := .agg (List.toArray _)) (l := (cLb Ax1 nx1 cx1 Ax2 nx2 cx2 x)) rfl rfl ?_))
 intro g1 w2 hg3 hk4 hs5 hb6
 refine Q (aI rfl) <| Qn (Ws (Ws (Wr (Q (aI rfl) <| Qn (W.block (W.loop (σ := Nat) (fun g => [(1, .int .i64 id), (2, .int .i64 r), (3, .pointer (pA g1)), (7, .int .i64 (g : Int))]) (fun g w' => (Lo w w') ∧ (Blk w' g1 34 (cLb Ax1 nx1 cx1 Ax2 nx2 cx2 x)) ∧ (SlR w' Bx1 encLMap 3 Ax1 nx1 cx1 x.Maps) ∧ (SlR w' Bx2 encAway 2 Ax2 nx2 cx2 x.Away) ∧ (g ≤ nx2 ∧ NoneTo (isA id r) x.Away g)) (fun g => nx2 - g) 0 ?_ ?_ ?_))))))
 ·exact (At.r rfl)
 ·exact ⟨((Lo.refl w).lo hk4), hb6, hx1.lo hk4, hx2.lo hk4, (by exact ⟨Nat.zero_le _, NoneTo.zero⟩)⟩
 ·rintro k f9 w10 hP12
  obtain ⟨hB11, hm13, hm14, hm15, hi16⟩ : (Lo w w10) ∧ (Blk w10 g1 34 (cLb Ax1 nx1 cx1 Ax2 nx2 cx2 x)) ∧ (SlR w10 Bx1 encLMap 3 Ax1 nx1 cx1 x.Maps) ∧ (SlR w10 Bx2 encAway 2 Ax2 nx2 cx2 x.Away) ∧ (k ≤ nx2 ∧ NoneTo (isA id r) x.Away k) := hP12
  refine (?_ : W _ _ _ _ _ (act _ (sets f9 [(1, .int .i64 id), (2, .int .i64 r), (3, .pointer (pA g1)), (7, .int .i64 (k : Int))])) _)
  have hzw10 := hB11.size
  have hl17 := hm13.lt
  refine Ws (Ws (Wr (Q (mI rfl) <| Q (fA fa34_1 rfl) <| Q (lB sca32 rfl hm13 rfl) <| Q (r_len und32 rfl) <| Q (r_lt rfl rfl) <| Qn (W.cond_d rfl (fun h18 => ?_) (fun h18 => ?_)))))
  ·refine W.skip (Ws (W.block (Ws (W.regJS (fun f' w' => At f' [(1, .int .i64 id), (2, .int .i64 r), (3, .pointer (pA g1)), (7, .int .i64 (k : Int)), (32, .bool (decide ((((gt x.Away k).Map) = id) ∧ (((gt x.Away k).Reader) = r))))] ∧ Lo w10 w' ∧ (x.Away[k]? = some (gt x.Away k))) ?_ ?_))))
   ·refine Q (fA fa34_1 rfl) <| Q (lB sca32 rfl hm13 rfl) <| Q (mI rfl) <| ?_
    have hx20 := hm15.elem (i := k) (by omega)
    refine Q (r_ixR tsl32 hm15 rfl rfl (by omega)) <| Q (fA fa129_0 rfl) <| Q (r_ld (v := .int .i64 ((gt x.Away k).Map)) sca3 rfl (hm15.cell hx20 rfl)) <| Q (mI rfl) <| Q (r_eq rfl rfl) <| Q (mB rfl) <| SR.splitD (fun h21 => ?_) (fun h21 => ?_)
    ·refine Qg rfl (fA fa34_1 rfl) <| Qg rfl (lB sca32 rfl hm13 rfl) <| Qg rfl (mI rfl) <| Qg rfl (r_ixR tsl32 hm15 rfl rfl (by omega)) <| Qg rfl (fA fa129_1 rfl) <| Qg rfl (r_ld (v := .int .i64 ((gt x.Away k).Reader)) sca3 rfl (hm15.cell hx20 rfl)) <| Qg rfl (mI rfl) <| Qg rfl (r_eq rfl rfl) <| Q (r_pick true rfl (v := .bool _) rfl) <| Qn (⟨_, rfl, ⟨⟨rfl, rfl, rfl, rfl, (eDD (jat h21)), trivial⟩, (Lo.refl _), hx20⟩⟩)
    ·refine Qs rfl <| Qs rfl <| Qs rfl <| Qs rfl <| Qs rfl <| Qs rfl <| Qs rfl <| Qs rfl <| Q (r_pick false rfl (v := .bool false) rfl) <| Qn (⟨_, rfl, ⟨⟨rfl, rfl, rfl, rfl, (eDF (jaf h21).2), trivial⟩, (Lo.refl _), hx20⟩⟩)
   rintro f22 w23 ⟨hat24, hk25, hq26⟩
   rw [← sets_of_at hat24]
   have hz27 := hk25.size
   have hB28 := hB11.lo hk25
   refine W.cond_d rfl (fun h29 => ?_) (fun h29 => ?_)
   ·have hq30 : ((gt x.Away k).Map) = id := h29.1
    have hq31 : ((gt x.Away k).Reader) = r := h29.2
    refine Ws (Wr (Q (mI rfl) <| Q (aI rfl) <| Qn (W.ret (ret1 rfl (v := .int .i64 _) rfl (⟨eR (eI (by first | exact idx_at (And.right ‹_ ∧ NoneTo _ _ _›) ‹x.Away[k]? = some _› (by unfold isA; exact decide_eq_true ‹_›) | exact idx_no (And.right ‹_ ∧ NoneTo _ _ _›) hlex2 ‹_›)), hB28⟩)))))
   ·refine W.skip (Wr (Q (mI rfl) <| Q (r_add rfl rfl (by omega)) <| Q (aI rfl) <| Qn (⟨k + 1, _, rfl, (At.r rfl), ⟨hB28, hm13.lo hk25, hm14.lo hk25, hm15.lo hk25, ?_⟩, ?_⟩)))
    ·exact (by exact ⟨by omega, NoneTo.next (And.right ‹_ ∧ NoneTo _ _ _›) ‹x.Away[k]? = some _› (by unfold isA; exact decide_eq_false ‹_›)⟩)
    ·exact (by omega)
  ·refine W.exit (xin_here (Ws (Wr (Q (r_as (v := .int .i64 (-1)) rfl) <| Qn (W.ret (ret1 rfl (v := .int .i64 _) rfl (⟨eR (eI (by first | exact idx_at (And.right ‹_ ∧ NoneTo _ _ _›) ‹x.Away[k]? = some _› (by unfold isA; exact decide_eq_true ‹_›) | exact idx_no (And.right ‹_ ∧ NoneTo _ _ _›) hlex2 ‹_›)), hB11⟩)))))))
open Classical in
noncomputable def spec_l32Step (x : Library) (s : LibraryStep) : Bool :=
 if s.Kind = 1 then decide ((1 ≤ s.Id ∧ s.Id ≤ 99) ∧ ((s.Reader = 0) ∧ (1 ≤ s.Value ∧ s.Value ≤ 50))) else if s.Kind = 2 then decide ((0 ≤ (idxF (hasId s.Id) x.Maps)) ∧ ((1 ≤ s.Reader ∧ s.Reader ≤ 999) ∧ (s.Value = 0))) else if s.Kind = 3 then decide ((0 ≤ (idxF (hasId s.Id) x.Maps)) ∧ ((1 ≤ s.Reader ∧ s.Reader ≤ 999) ∧ (0 ≤ s.Value ∧ s.Value ≤ 1))) else if s.Kind = 5 then decide ((0 ≤ (idxF (hasId s.Id) x.Maps)) ∧ ((1 ≤ s.Reader ∧ s.Reader ≤ 999) ∧ (1 ≤ s.Value ∧ s.Value ≤ 999))) else decide (((s.Kind = 4) ∧ ((0 ≤ (idxF (hasId s.Id) x.Maps)) ∧ ((s.Reader = 0) ∧ (1 ≤ s.Value)))) ∨ ((¬ (s.Kind = 4)) ∧ (((s.Kind = 6) ∧ ((0 ≤ (idxF (hasId s.Id) x.Maps)) ∧ ((s.Reader = 0) ∧ (1 ≤ s.Value)))) ∨ ((¬ (s.Kind = 6)) ∧ ((s.Kind = 7) ∧ ((0 ≤ (idxF (hasId s.Id) x.Maps)) ∧ ((s.Reader = 0) ∧ (1 ≤ s.Value))))))))
theorem c_spec_l32Step (w : World) (x : Library) {Ax1 : Option Addr} {nx1 cx1 Bx1 : Nat} (hx1 : SlR w Bx1 encLMap 3 Ax1 nx1 cx1 x.Maps) {Ax2 : Option Addr} {nx2 cx2 Bx2 : Nat} (hx2 : SlR w Bx2 encAway 2 Ax2 nx2 cx2 x.Away) (s : LibraryStep) : Calls Tryz.prog 114 #[.agg (List.toArray (cLb Ax1 nx1 cx1 Ax2 nx2 cx2 x)), .agg (List.toArray (encLibraryStep s))] w fun e w' => e = .returned (.bool (spec_l32Step x s)) ∧ Lo w w' := by
 refine calls_W 91 Tryz.func114 rfl rfl rfl ?_
 have hbdx1 := hx1.bound
 have hlex1 := hx1.len
 have hBbx1 := hx1.bd
 have hbdx2 := hx2.bound
 have hlex2 := hx2.len
 have hBbx2 := hx2.bd
 refine Ws (Wr (SR.box (v := .agg (List.toArray _)) (l := (cLb Ax1 nx1 cx1 Ax2 nx2 cx2 x)) rfl rfl ?_))
 intro g1 w2 hg3 hk4 hs5 hb6
 refine SR.box (v := .agg (List.toArray _)) (l := [.int .i64 s.Kind, .int .i64 s.Id, .int .i64 s.Reader, .int .i64 s.Value]) rfl rfl ?_
 intro g9 w10 hg11 hk12 hs13 hb14
 refine Q (aB rfl) <| Qn (Ws (W.regD mo (by kernel_rfl) (QR.q' (fun w' hw' => r_lda (l := (cLb Ax1 nx1 cx1 Ax2 nx2 cx2 x)) agg34 rfl (fun _ _ hu => ((hb6.lo hk12).lo hw').cell hu) rfl) <| QR.q' (fun w' hw' => fA fa106_1 rfl) <| QR.q' (fun w' hw' => r_ld (v := .int .i64 s.Id) sca3 rfl ((hb14.lo hw').cell rfl)) <| QR.call ent165 (fun w' hw' => (c_spec_l32Map w' x (((hx1.lo hk4).lo hk12).lo hw') (((hx2.lo hk4).lo hk12).lo hw') s.Id).mono fun _ _ h => ⟨h.1, hw'.trans h.2⟩) rfl <| ?_)))
 have hq19 : idxF (hasId s.Id) x.Maps < (x.Maps.length : Int) ∧ -1 ≤ idxF (hasId s.Id) x.Maps := idx_lt
 refine QR.q' (fun w' hw' => r_ge rfl rfl) <| QR.q' (fun w' hw' => fA fa106_2 rfl) <| QR.q' (fun w' hw' => r_ld (v := .int .i64 s.Reader) sca3 rfl ((hb14.lo hw').cell rfl)) <| QR.call ent133 (fun w' hw' => (c_spec_l1In w' s.Reader 1 999).mono fun _ _ h => ⟨h.1, hw'.trans h.2⟩) rfl <| QR.q' (fun w' hw' => r_as (v := .bool _) rfl) <| QR.q' (fun w' hw' => r_as (v := .bool _) rfl) <| QR.nil ?_
 intro w20 hk21
 have hz22 := hk21.size
 have hB23 := (((Lo.refl w).lo hk4).lo hk12).lo hk21
 refine Ws (Ws (Wr (Q (fA fa106_0 rfl) <| Q (lB sca3 rfl (hb14.lo hk21) rfl) <| Qn (W.block (Ws (Wr (Q (r_eq rfl rfl) <| Q (aB rfl) <| Qn (W.cond_d rfl (fun h24 => ?_) (fun h24 => ?_)))))))))
 ·refine Ws (W.regJS (fun f' w' => At f' [(3, .pointer (pA g9)), (4, .bool (decide ((1 ≤ s.Id ∧ s.Id ≤ 99) ∧ ((s.Reader = 0) ∧ (1 ≤ s.Value ∧ s.Value ≤ 50))))), (5, .bool (decide (0 ≤ (idxF (hasId s.Id) x.Maps))))] ∧ Lo w20 w') ?_ ?_)
  ·refine Q (fA fa106_1 rfl) <| Q (lB sca3 rfl (hb14.lo hk21) rfl) <| Qv ent133 (c_spec_l1In w20 s.Id 1 99) rfl fun w25 hk26 hz27 => (Q (mB rfl) <| SR.splitD (fun h29 => ?_) (fun h29 => ?_))
   ·refine Qg rfl (fA fa106_2 rfl) <| Qg rfl (lB sca3 rfl ((hb14.lo hk21).lo hk26) rfl) <| Qg rfl (r_eq rfl rfl) <| Q (r_pick true rfl (v := .bool _) rfl) <| Q (mB rfl) <| SR.splitD (fun h30 => ?_) (fun h30 => ?_)
    ·refine Qg rfl (fA fa106_3 rfl) <| Qg rfl (lB sca3 rfl ((hb14.lo hk21).lo hk26) rfl) <| SR.gcall rfl ent133 (c_spec_l1In w25 s.Value 1 50) rfl ?_
     rintro e w31 ⟨rfl, hk32⟩
     refine ⟨_, rfl, ?_⟩
     have hz33 := hk32.size
     refine Q (r_pick true rfl (v := .bool _) rfl) <| Q (aB rfl) <| Qn (⟨_, rfl, ⟨⟨rfl, (eDD ((jat h30).trans (jat h29))), rfl, trivial⟩, (hk26.trans hk32)⟩⟩)
    ·refine Qs rfl <| Qs rfl <| Qs rfl <| Q (r_pick false rfl (v := .bool false) rfl) <| Q (aB rfl) <| Qn (⟨_, rfl, ⟨⟨rfl, (eDF ((jaf h30).trans (jat h29)).2), rfl, trivial⟩, hk26⟩⟩)
   ·refine Qs rfl <| Qs rfl <| Qs rfl <| Q (r_pick false rfl (v := .bool false) rfl) <| Q (mB rfl) <| Qs rfl <| Qs rfl <| Qs rfl <| Q (r_pick false rfl (v := .bool false) rfl) <| Q (aB rfl) <| Qn (⟨_, rfl, ⟨⟨rfl, (eDF (jaf h29).2), rfl, trivial⟩, hk26⟩⟩)
  rintro f35 w36 ⟨hat37, hk38⟩
  rw [← sets_of_at hat37]
  have hz39 := hk38.size
  refine W.ret (ret1 rfl (v := .bool _) rfl ?_)
  exact ⟨eR (eB (by unfold spec_l32Step; rw [if_pos h24] <;> rfl)), (hB23.lo hk38)⟩
 ·refine Ws (Wr (Q (r_eq rfl rfl) <| Q (aB rfl) <| Qn (W.cond_d rfl (fun h41 => ?_) (fun h41 => ?_))))
  ·refine Ws (W.regJS (fun f' w' => At f' [(3, .pointer (pA g9)), (4, .bool (decide ((0 ≤ (idxF (hasId s.Id) x.Maps)) ∧ ((1 ≤ s.Reader ∧ s.Reader ≤ 999) ∧ (s.Value = 0))))), (5, .bool (decide (0 ≤ (idxF (hasId s.Id) x.Maps))))] ∧ Lo w20 w') ?_ ?_)
   ·refine Q (mB rfl) <| Q (mB rfl) <| SR.splitD (fun h42 => ?_) (fun h42 => ?_)
    ·refine Qg rfl (mB rfl) <| Q (r_pick true rfl (v := .bool _) rfl) <| Q (mB rfl) <| SR.splitD (fun h43 => ?_) (fun h43 => ?_)
     ·refine Qg rfl (fA fa106_3 rfl) <| Qg rfl (lB sca3 rfl (hb14.lo hk21) rfl) <| Qg rfl (r_eq rfl rfl) <| Q (r_pick true rfl (v := .bool _) rfl) <| Q (aB rfl) <| Qn (⟨_, rfl, ⟨⟨rfl, (eDD ((jat h43).trans (jat h42))), rfl, trivial⟩, (Lo.refl _)⟩⟩)
     ·refine Qs rfl <| Qs rfl <| Qs rfl <| Q (r_pick false rfl (v := .bool false) rfl) <| Q (aB rfl) <| Qn (⟨_, rfl, ⟨⟨rfl, (eDF ((jaf h43).trans (jat h42)).2), rfl, trivial⟩, (Lo.refl _)⟩⟩)
    ·refine Qs rfl <| Q (r_pick false rfl (v := .bool false) rfl) <| Q (mB rfl) <| Qs rfl <| Qs rfl <| Qs rfl <| Q (r_pick false rfl (v := .bool false) rfl) <| Q (aB rfl) <| Qn (⟨_, rfl, ⟨⟨rfl, (eDF (jaf h42).2), rfl, trivial⟩, (Lo.refl _)⟩⟩)
   rintro f44 w45 ⟨hat46, hk47⟩
   rw [← sets_of_at hat46]
   have hz48 := hk47.size
   refine W.ret (ret1 rfl (v := .bool _) rfl ?_)
   exact ⟨eR (eB (by unfold spec_l32Step; rw [if_neg h24, if_pos h41] <;> rfl)), (hB23.lo hk47)⟩
  ·refine Ws (Wr (Q (r_eq rfl rfl) <| Q (aB rfl) <| Qn (W.cond_d rfl (fun h50 => ?_) (fun h50 => ?_))))
   ·refine Ws (W.regJS (fun f' w' => At f' [(3, .pointer (pA g9)), (4, .bool (decide ((0 ≤ (idxF (hasId s.Id) x.Maps)) ∧ ((1 ≤ s.Reader ∧ s.Reader ≤ 999) ∧ (0 ≤ s.Value ∧ s.Value ≤ 1))))), (5, .bool (decide (0 ≤ (idxF (hasId s.Id) x.Maps))))] ∧ Lo w20 w') ?_ ?_)
    ·refine Q (mB rfl) <| Q (mB rfl) <| SR.splitD (fun h51 => ?_) (fun h51 => ?_)
     ·refine Qg rfl (mB rfl) <| Q (r_pick true rfl (v := .bool _) rfl) <| Q (mB rfl) <| SR.splitD (fun h52 => ?_) (fun h52 => ?_)
      ·refine Qg rfl (fA fa106_3 rfl) <| Qg rfl (lB sca3 rfl (hb14.lo hk21) rfl) <| SR.gcall rfl ent133 (c_spec_l1In w20 s.Value 0 1) rfl ?_
       rintro e w53 ⟨rfl, hk54⟩
       refine ⟨_, rfl, ?_⟩
       have hz55 := hk54.size
       refine Q (r_pick true rfl (v := .bool _) rfl) <| Q (aB rfl) <| Qn (⟨_, rfl, ⟨⟨rfl, (eDD ((jat h52).trans (jat h51))), rfl, trivial⟩, hk54⟩⟩)
      ·refine Qs rfl <| Qs rfl <| Qs rfl <| Q (r_pick false rfl (v := .bool false) rfl) <| Q (aB rfl) <| Qn (⟨_, rfl, ⟨⟨rfl, (eDF ((jaf h52).trans (jat h51)).2), rfl, trivial⟩, (Lo.refl _)⟩⟩)
     ·refine Qs rfl <| Q (r_pick false rfl (v := .bool false) rfl) <| Q (mB rfl) <| Qs rfl <| Qs rfl <| Qs rfl <| Q (r_pick false rfl (v := .bool false) rfl) <| Q (aB rfl) <| Qn (⟨_, rfl, ⟨⟨rfl, (eDF (jaf h51).2), rfl, trivial⟩, (Lo.refl _)⟩⟩)
    rintro f57 w58 ⟨hat59, hk60⟩
    rw [← sets_of_at hat59]
    have hz61 := hk60.size
    refine W.ret (ret1 rfl (v := .bool _) rfl ?_)
    exact ⟨eR (eB (by unfold spec_l32Step; rw [if_neg h24, if_neg h41, if_pos h50] <;> rfl)), (hB23.lo hk60)⟩
   ·refine Ws (Wr (Q (r_eq rfl rfl) <| Q (aB rfl) <| Qn (W.cond_d rfl (fun h63 => ?_) (fun h63 => ?_))))
    ·refine Ws (W.regJS (fun f' w' => At f' [(3, .pointer (pA g9)), (4, .bool (decide ((0 ≤ (idxF (hasId s.Id) x.Maps)) ∧ ((1 ≤ s.Reader ∧ s.Reader ≤ 999) ∧ (1 ≤ s.Value ∧ s.Value ≤ 999))))), (5, .bool (decide (0 ≤ (idxF (hasId s.Id) x.Maps))))] ∧ Lo w20 w') ?_ ?_)
     ·refine Q (mB rfl) <| Q (mB rfl) <| SR.splitD (fun h64 => ?_) (fun h64 => ?_)
      ·refine Qg rfl (mB rfl) <| Q (r_pick true rfl (v := .bool _) rfl) <| Q (mB rfl) <| SR.splitD (fun h65 => ?_) (fun h65 => ?_)
       ·refine Qg rfl (fA fa106_3 rfl) <| Qg rfl (lB sca3 rfl (hb14.lo hk21) rfl) <| SR.gcall rfl ent133 (c_spec_l1In w20 s.Value 1 999) rfl ?_
        rintro e w66 ⟨rfl, hk67⟩
        refine ⟨_, rfl, ?_⟩
        have hz68 := hk67.size
        refine Q (r_pick true rfl (v := .bool _) rfl) <| Q (aB rfl) <| Qn (⟨_, rfl, ⟨⟨rfl, (eDD ((jat h65).trans (jat h64))), rfl, trivial⟩, hk67⟩⟩)
       ·refine Qs rfl <| Qs rfl <| Qs rfl <| Q (r_pick false rfl (v := .bool false) rfl) <| Q (aB rfl) <| Qn (⟨_, rfl, ⟨⟨rfl, (eDF ((jaf h65).trans (jat h64)).2), rfl, trivial⟩, (Lo.refl _)⟩⟩)
      ·refine Qs rfl <| Q (r_pick false rfl (v := .bool false) rfl) <| Q (mB rfl) <| Qs rfl <| Qs rfl <| Qs rfl <| Q (r_pick false rfl (v := .bool false) rfl) <| Q (aB rfl) <| Qn (⟨_, rfl, ⟨⟨rfl, (eDF (jaf h64).2), rfl, trivial⟩, (Lo.refl _)⟩⟩)
     rintro f70 w71 ⟨hat72, hk73⟩
     rw [← sets_of_at hat72]
     have hz74 := hk73.size
     refine W.ret (ret1 rfl (v := .bool _) rfl ?_)
     exact ⟨eR (eB (by unfold spec_l32Step; rw [if_neg h24, if_neg h41, if_neg h50, if_pos h63] <;> rfl)), (hB23.lo hk73)⟩
    ·refine W.skip (Ws (W.regJS (fun f' w' => At f' [(4, .bool (decide (((s.Kind = 4) ∧ ((0 ≤ (idxF (hasId s.Id) x.Maps)) ∧ ((s.Reader = 0) ∧ (1 ≤ s.Value)))) ∨ ((¬ (s.Kind = 4)) ∧ (((s.Kind = 6) ∧ ((0 ≤ (idxF (hasId s.Id) x.Maps)) ∧ ((s.Reader = 0) ∧ (1 ≤ s.Value)))) ∨ ((¬ (s.Kind = 6)) ∧ ((s.Kind = 7) ∧ ((0 ≤ (idxF (hasId s.Id) x.Maps)) ∧ ((s.Reader = 0) ∧ (1 ≤ s.Value))))))))))] ∧ Lo w20 w') ?_ ?_))
     ·refine Q (fA fa106_0 rfl) <| Q (lB sca3 rfl (hb14.lo hk21) rfl) <| Q (r_eq rfl rfl) <| Q (mB rfl) <| SR.splitD (fun h76 => ?_) (fun h76 => ?_)
      ·refine Qs rfl <| Qs rfl <| Qs rfl <| Q (r_pick true rfl (v := .bool true) rfl) <| Q (mB rfl) <| Qs rfl <| Qs rfl <| Qs rfl <| Q (r_pick true rfl (v := .bool true) rfl) <| Q (mB rfl) <| Qg rfl (mB rfl) <| Q (r_pick true rfl (v := .bool _) rfl) <| Q (mB rfl) <| SR.splitD (fun h77 => ?_) (fun h77 => ?_)
       ·refine Qg rfl (fA fa106_2 rfl) <| Qg rfl (lB sca3 rfl (hb14.lo hk21) rfl) <| Qg rfl (r_eq rfl rfl) <| Q (r_pick true rfl (v := .bool _) rfl) <| Q (mB rfl) <| SR.splitD (fun h78 => ?_) (fun h78 => ?_)
        ·refine Qg rfl (fA fa106_3 rfl) <| Qg rfl (lB sca3 rfl (hb14.lo hk21) rfl) <| Qg rfl (r_ge rfl rfl) <| Q (r_pick true rfl (v := .bool _) rfl) <| Q (aB rfl) <| Qn (⟨_, rfl, ⟨⟨(eDD (((jat h78).trans (jat h77)).trans (jgt h76))), trivial⟩, (Lo.refl _)⟩⟩)
        ·refine Qs rfl <| Qs rfl <| Qs rfl <| Q (r_pick false rfl (v := .bool false) rfl) <| Q (aB rfl) <| Qn (⟨_, rfl, ⟨⟨(eDF (((jaf h78).trans (jat h77)).trans (jgt h76)).2), trivial⟩, (Lo.refl _)⟩⟩)
       ·refine Qs rfl <| Qs rfl <| Qs rfl <| Q (r_pick false rfl (v := .bool false) rfl) <| Q (mB rfl) <| Qs rfl <| Qs rfl <| Qs rfl <| Q (r_pick false rfl (v := .bool false) rfl) <| Q (aB rfl) <| Qn (⟨_, rfl, ⟨⟨(eDF ((jaf h77).trans (jgt h76)).2), trivial⟩, (Lo.refl _)⟩⟩)
      ·refine Qg rfl (fA fa106_0 rfl) <| Qg rfl (lB sca3 rfl (hb14.lo hk21) rfl) <| Qg rfl (r_eq rfl rfl) <| Q (r_pick false rfl (v := .bool _) rfl) <| Q (mB rfl) <| SR.splitD (fun h79 => ?_) (fun h79 => ?_)
       ·refine Qs rfl <| Qs rfl <| Qs rfl <| Q (r_pick true rfl (v := .bool true) rfl) <| Q (mB rfl) <| Qg rfl (mB rfl) <| Q (r_pick true rfl (v := .bool _) rfl) <| Q (mB rfl) <| SR.splitD (fun h80 => ?_) (fun h80 => ?_)
        ·refine Qg rfl (fA fa106_2 rfl) <| Qg rfl (lB sca3 rfl (hb14.lo hk21) rfl) <| Qg rfl (r_eq rfl rfl) <| Q (r_pick true rfl (v := .bool _) rfl) <| Q (mB rfl) <| SR.splitD (fun h81 => ?_) (fun h81 => ?_)
         ·refine Qg rfl (fA fa106_3 rfl) <| Qg rfl (lB sca3 rfl (hb14.lo hk21) rfl) <| Qg rfl (r_ge rfl rfl) <| Q (r_pick true rfl (v := .bool _) rfl) <| Q (aB rfl) <| Qn (⟨_, rfl, ⟨⟨(eDD ((((jat h81).trans (jat h80)).trans (jgt h79)).trans (jgf h76))), trivial⟩, (Lo.refl _)⟩⟩)
         ·refine Qs rfl <| Qs rfl <| Qs rfl <| Q (r_pick false rfl (v := .bool false) rfl) <| Q (aB rfl) <| Qn (⟨_, rfl, ⟨⟨(eDF ((((jaf h81).trans (jat h80)).trans (jgt h79)).trans (jgf h76)).2), trivial⟩, (Lo.refl _)⟩⟩)
        ·refine Qs rfl <| Qs rfl <| Qs rfl <| Q (r_pick false rfl (v := .bool false) rfl) <| Q (mB rfl) <| Qs rfl <| Qs rfl <| Qs rfl <| Q (r_pick false rfl (v := .bool false) rfl) <| Q (aB rfl) <| Qn (⟨_, rfl, ⟨⟨(eDF (((jaf h80).trans (jgt h79)).trans (jgf h76)).2), trivial⟩, (Lo.refl _)⟩⟩)
       ·refine Qg rfl (fA fa106_0 rfl) <| Qg rfl (lB sca3 rfl (hb14.lo hk21) rfl) <| Qg rfl (r_eq rfl rfl) <| Q (r_pick false rfl (v := .bool _) rfl) <| Q (mB rfl) <| SR.splitD (fun h82 => ?_) (fun h82 => ?_)
        ·refine Qg rfl (mB rfl) <| Q (r_pick true rfl (v := .bool _) rfl) <| Q (mB rfl) <| SR.splitD (fun h83 => ?_) (fun h83 => ?_)
         ·refine Qg rfl (fA fa106_2 rfl) <| Qg rfl (lB sca3 rfl (hb14.lo hk21) rfl) <| Qg rfl (r_eq rfl rfl) <| Q (r_pick true rfl (v := .bool _) rfl) <| Q (mB rfl) <| SR.splitD (fun h84 => ?_) (fun h84 => ?_)
          ·refine Qg rfl (fA fa106_3 rfl) <| Qg rfl (lB sca3 rfl (hb14.lo hk21) rfl) <| Qg rfl (r_ge rfl rfl) <| Q (r_pick true rfl (v := .bool _) rfl) <| Q (aB rfl) <| Qn (⟨_, rfl, ⟨⟨(eDD (((((jat h84).trans (jat h83)).trans (jat h82)).trans (jgf h79)).trans (jgf h76))), trivial⟩, (Lo.refl _)⟩⟩)
          ·refine Qs rfl <| Qs rfl <| Qs rfl <| Q (r_pick false rfl (v := .bool false) rfl) <| Q (aB rfl) <| Qn (⟨_, rfl, ⟨⟨(eDF (((((jaf h84).trans (jat h83)).trans (jat h82)).trans (jgf h79)).trans (jgf h76)).2), trivial⟩, (Lo.refl _)⟩⟩)
         ·refine Qs rfl <| Qs rfl <| Qs rfl <| Q (r_pick false rfl (v := .bool false) rfl) <| Q (mB rfl) <| Qs rfl <| Qs rfl <| Qs rfl <| Q (r_pick false rfl (v := .bool false) rfl) <| Q (aB rfl) <| Qn (⟨_, rfl, ⟨⟨(eDF ((((jaf h83).trans (jat h82)).trans (jgf h79)).trans (jgf h76)).2), trivial⟩, (Lo.refl _)⟩⟩)
        ·refine Qs rfl <| Q (r_pick false rfl (v := .bool false) rfl) <| Q (mB rfl) <| Qs rfl <| Qs rfl <| Qs rfl <| Q (r_pick false rfl (v := .bool false) rfl) <| Q (mB rfl) <| Qs rfl <| Qs rfl <| Qs rfl <| Q (r_pick false rfl (v := .bool false) rfl) <| Q (aB rfl) <| Qn (⟨_, rfl, ⟨⟨(eDF (((jaf h82).trans (jgf h79)).trans (jgf h76)).2), trivial⟩, (Lo.refl _)⟩⟩)
     rintro f85 w86 ⟨hat87, hk88⟩
     rw [← sets_of_at hat87]
     have hz89 := hk88.size
     refine W.ret (ret1 rfl (v := .bool _) rfl ?_)
     exact ⟨eR (eB (by unfold spec_l32Step; rw [if_neg h24, if_neg h41, if_neg h50, if_neg h63] <;> rfl)), (hB23.lo hk88)⟩
end Go.Proofs.YtndcchndcghmoaaGreatDoor
namespace Go.Proofs.YtndcchndcghmoaaGreatDoor
open Go Go.RowKit Fw
section
variable {x : Library} {s : LibraryStep} {id n r a : Int}
theorem bought_yes (h : 0 ≤ idxF (hasId id) x.Maps) : boughtN x id n = { x with Maps := x.Maps.set (idxF (hasId id) x.Maps).toNat (moreM (gt x.Maps (idxF (hasId id) x.Maps).toNat) n), Bought := x.Bought + n } := if_pos h
theorem bought_no (h : ¬ 0 ≤ idxF (hasId id) x.Maps) : boughtN x id n = { x with Maps := x.Maps.take (bdM id x.Maps) ++ [⟨id, n, 0⟩] ++ x.Maps.drop (bdM id x.Maps), Bought := x.Bought + n } := if_neg h
theorem stepL_rng (h : spec_l32Step x s = true) : (s.Kind = 1 → (1 ≤ s.Id ∧ s.Id ≤ 99) ∧ (1 ≤ s.Value ∧ s.Value ≤ 50)) ∧ (¬ s.Kind = 1 → 0 ≤ idxF (hasId s.Id) x.Maps) ∧ 0 ≤ s.Value ∧ (¬ s.Kind = 4 ∧ ¬ s.Kind = 6 ∧ ¬ s.Kind = 7 → s.Value ≤ 999) := by
  unfold spec_l32Step at h
  split at h
  · have := of_decide_eq_true h; omega
  · split at h
    · have := of_decide_eq_true h; omega
    · split at h
      · have := of_decide_eq_true h; omega
      · split at h
        · have := of_decide_eq_true h; omega
        · have := of_decide_eq_true h; omega
theorem gone_lenMaps (x : Library) (i r : Int) : ((goneN x i r).Maps).length = x.Maps.length := rfl
theorem gone_lenAway (x : Library) (i r : Int) : ((goneN x i r).Away).length = x.Away.length + 1 := ins_len (bdA_le _ _)
theorem back_lenMaps (x : Library) (a : Int) : ((backN x a).Maps).length = x.Maps.length := rfl
theorem back_lenAway (x : Library) (a : Int) : ((backN x a).Away).length ≤ x.Away.length := del_lenT _ (by omega)
theorem bought_lenMaps (x : Library) (i n : Int) : ((boughtN x i n).Maps).length ≤ x.Maps.length + 1 := by
  unfold boughtN; split
  · simp
  · exact Nat.le_of_eq (ins_len (bdM_le _ _))
theorem bought_lenAway (x : Library) (i n : Int) : ((boughtN x i n).Away).length = x.Away.length := by unfold boughtN; split <;> rfl
end
end Go.Proofs.YtndcchndcghmoaaGreatDoor
namespace Go.Proofs.YtndcchndcghmoaaGreatDoor
open Go Go.RowKit Fw
set_option maxRecDepth 10000
set_option maxHeartbeats 2000000
set_option linter.unusedVariables false
theorem bld102_0_1 (a0 : Int) (a1 : Int) : Tryz.prog.built 102 [(0, .int .i64 a0), (1, .int .i64 a1)] = some (List.toArray [.int .i64 a0, .int .i64 a1, .int .i64 0]) := by kernel_rfl
theorem ent79 : Ent Tryz.prog 79 := en Tryz.func79
theorem c_spec_l32Bought (w : World) (x : Library) {Ax1 : Option Addr} {nx1 cx1 Bx1 : Nat} (hx1 : SlR w Bx1 encLMap 3 Ax1 nx1 cx1 x.Maps) {Ax2 : Option Addr} {nx2 cx2 Bx2 : Nat} (hx2 : SlR w Bx2 encAway 2 Ax2 nx2 cx2 x.Away) (id : Int) (n : Int) (hp0 : LibOK x) (hp1 : 0 ≤ n ∧ n ≤ 100) : Calls Tryz.prog 166 #[.agg (List.toArray (cLb Ax1 nx1 cx1 Ax2 nx2 cx2 x)), .int .i64 id, .int .i64 n] w fun e w' => ∃ (A1' : Option Addr) (n1' c1' : Nat) (A2' : Option Addr) (n2' c2' : Nat), e = .returned (.agg (List.toArray [.slice A1' n1' c1', .slice A2' n2' c2', .int .i64 ((boughtN x id n).Bought), .int .i64 ((boughtN x id n).Dropped), .int .i64 ((boughtN x id n).Mended)])) ∧ SlO w' w.heap.size encLMap 3 102 A1' n1' c1' ((boughtN x id n).Maps) ∧ SlO w' w.heap.size encAway 2 129 A2' n2' c2' ((boughtN x id n).Away) ∧ Dj A1' A2' ∧ Lo w w' := by
 refine calls_W 71 Tryz.func166 rfl rfl rfl ?_
 have hbdx1 := hx1.bound
 have hlex1 := hx1.len
 have hBbx1 := hx1.bd
 have hbdx2 := hx2.bound
 have hlex2 := hx2.len
 have hBbx2 := hx2.bd
 have hlb := lib_rng hp0
 refine Ws (Wr (SR.box (v := .agg (List.toArray _)) (l := (cLb Ax1 nx1 cx1 Ax2 nx2 cx2 x)) rfl rfl ?_))
 intro g1 w2 hg3 hk4 hs5 hb6
 refine SR.alloc (l := [.slice none 0 0, .slice none 0 0, .int .i64 0, .int .i64 0, .int .i64 0]) tz34 rfl ?_
 intro g9 w10 hg11 hk12 hs13 hb14
 refine Qn (Ws ?_)
 have hm17 := (hx1.lo hk4).lo hk12
 have hm18 := (hx2.lo hk4).lo hk12
 refine Wr (Q (lG agg34 rfl (hb6.lo hk12) rfl) <| SR.call ent79 (c_spec_l32Own w10 x hm17 hm18 (by omega) (by omega)) rfl ?_)
 rintro e w19 ⟨A21, n22, c23, A25, n26, c27, rfl, hO24, hO28, hd29, hk20⟩
 refine ⟨_, rfl, ?_⟩
 have hz30 := hk20.size
 have hl32 := hO24.len
 have hl33 := hO24.rd.bound
 have hl34 := hO28.len
 have hl35 := hO28.rd.bound
 refine SR.alloc (l := [.slice none 0 0, .slice none 0 0, .int .i64 0, .int .i64 0, .int .i64 0]) tz34 rfl ?_
 intro g36 w37 hg38 hk39 hs40 hb41
 have hd44 := SlO.ne (g := g36) hO24
 have hd45 := SlO.ne (g := g36) hO28
 refine Qw (o := 0) (vs := (cLb A21 n22 c23 A25 n26 c27 x)) agg34.2 rfl rfl rfl rfl hb41 ler rfl ?_
 intro w46 hk47 hs48 hb49
 refine Qn (Ws ?_)
 have hm52 := (((hb6.lo hk12).lo hk20).lo hk39).kn hk47
 have hm53 := ((hm17.lo hk20).lo hk39).kn hk47
 have hm54 := ((hm18.lo hk20).lo hk39).kn hk47
 refine Wr (Q (fA fa34_2 rfl) <| Q (lB sca3 rfl hm52 rfl) <| Q (mI rfl) <| Q (r_add rfl rfl (by omega)) <| Q (fA fa34_2 rfl) <| Qw (o := 2) (vs := [.int .i64 (x.Bought + n)]) sca3.2 rfl rfl rfl rfl hb49 ler rfl ?_)
 intro w58 hk59 hs60 hb61
 refine Qn (Ws (Ws (Wr (Q (lG agg34 rfl (hm52.kn hk59) rfl) <| Q (mI rfl) <| Qv ent165 (c_spec_l32Map w58 x (hm53.kn hk59) (hm54.kn hk59) id) rfl fun w64 hk65 hz66 => ?_))))
 have hB67 := (((((((Lo.refl w).lo hk4).lo hk12).lo hk20).lo hk39).new hk47).new hk59).lo hk65
 have hq68 : idxF (hasId id) x.Maps < (x.Maps.length : Int) ∧ -1 ≤ idxF (hasId id) x.Maps := idx_lt
 refine Q (aI rfl) <| Qn (Ws ?_)
 have hm69 := (hm52.kn hk59).lo hk65
 have hm70 := (hm53.kn hk59).lo hk65
 have hm72 := ((((hb14.lo hk20).lo hk39).kn hk47).kn hk59).lo hk65
 have hm73 := (((hO24.lo hk39).kd hk47 hd44).kd hk59 hd44).lo hk65
 have hm74 := (((hO28.lo hk39).kd hk47 hd45).kd hk59 hd45).lo hk65
 refine Wr (Q (mI rfl) <| Q (r_ge rfl rfl) <| Qn (W.cond_d rfl (fun h75 => ?_) (fun h75 => ?_)))
 ·refine Ws (W.regA (Kp (KA A21) w64) (fun f' w' => At f' [(1, .int .i64 id), (2, .int .i64 n), (3, .pointer (pA g1)), (6, .pointer (pA g9)), (7, .pointer (pA g36))] ∧ (Kp (KA A21) w64 w') ∧ (SlO w' w10.heap.size encLMap 3 102 A21 n22 c23 (x.Maps.set ((idxF (hasId id) x.Maps).toNat) ({ (gt x.Maps ((idxF (hasId id) x.Maps).toNat)) with Copies := ((gt x.Maps ((idxF (hasId id) x.Maps).toNat)).Copies) + n }))) ∧ (x.Maps[(idxF (hasId id) x.Maps).toNat]? = some (gt x.Maps ((idxF (hasId id) x.Maps).toNat))) ∧ (((1 : Int) ≤ (gt x.Maps ((idxF (hasId id) x.Maps).toNat)).Id ∧ (gt x.Maps ((idxF (hasId id) x.Maps).toNat)).Id ≤ 99) ∧ ((0 : Int) ≤ (gt x.Maps ((idxF (hasId id) x.Maps).toNat)).Copies ∧ (gt x.Maps ((idxF (hasId id) x.Maps).toNat)).Copies ≤ 99) ∧ ((0 : Int) ≤ (gt x.Maps ((idxF (hasId id) x.Maps).toNat)).Torn ∧ (gt x.Maps ((idxF (hasId id) x.Maps).toNat)).Torn ≤ (gt x.Maps ((idxF (hasId id) x.Maps).toNat)).Copies)) ∧ ((x.Maps.set ((idxF (hasId id) x.Maps).toNat) ({ (gt x.Maps ((idxF (hasId id) x.Maps).toNat)) with Copies := ((gt x.Maps ((idxF (hasId id) x.Maps).toNat)).Copies) + n }))[(idxF (hasId id) x.Maps).toNat]? = some ({ (gt x.Maps ((idxF (hasId id) x.Maps).toNat)) with Copies := ((gt x.Maps ((idxF (hasId id) x.Maps).toNat)).Copies) + n }))) mo ?_ ?_)
  ·intro w108 hk109
   have hz110 := hk109.size
   refine Ak 0 rfl ((Kp.refl w64 : Kp (KA A21) w64 w64).lo hk109) (fun w' hw' => fA fa34_0 rfl) <| Ak 1 rfl ((Kp.refl w64 : Kp (KA A21) w64 w64).lo hk109) (fun w' hw' => r_ld (v := .slice A21 n22 c23) sca31 rfl (((hb61.lo hk65).kp hw' (fun e' => hd44 e')).cell rfl)) <| Ak 2 rfl ((Kp.refl w64 : Kp (KA A21) w64 w64).lo hk109) (fun w' hw' => r_mv (v := .int .i64 _) rfl) <| Ak 3 rfl ((Kp.refl w64 : Kp (KA A21) w64 w64).lo hk109) (fun w' hw' => fA fa34_0 rfl) <| Ak 4 rfl ((Kp.refl w64 : Kp (KA A21) w64 w64).lo hk109) (fun w' hw' => r_ld (v := .slice Ax1 nx1 cx1) sca31 rfl ((hm69.kp hw' (fun e' => by have := hm73.base_le e'; omega)).cell rfl)) <| Ak 5 rfl ((Kp.refl w64 : Kp (KA A21) w64 w64).lo hk109) (fun w' hw' => r_mv (v := .int .i64 _) rfl) <| ?_
   have hx113 := (hm70.lo hk109).elem (i := (idxF (hasId id) x.Maps).toNat) (by omega)
   have hq114 := maps_rng hp0.1.1 hx113
   refine Ak 6 rfl ((Kp.refl w64 : Kp (KA A21) w64 w64).lo hk109) (fun w' hw' => r_ixR tsl31 (hm70.kp hw' (fun b_ hb e' => by have := hm73.base_le e'; omega)) rfl rfl (by omega)) <| Ak 7 rfl ((Kp.refl w64 : Kp (KA A21) w64 w64).lo hk109) (fun w' hw' => fA fa102_1 rfl) <| Ak 8 rfl ((Kp.refl w64 : Kp (KA A21) w64 w64).lo hk109) (fun w' hw' => r_ld (v := .int .i64 ((gt x.Maps ((idxF (hasId id) x.Maps).toNat)).Copies)) sca3 rfl ((hm70.kp hw' (fun b_ hb e' => by have := hm73.base_le e'; omega)).cell hx113 rfl)) <| Ak 9 rfl ((Kp.refl w64 : Kp (KA A21) w64 w64).lo hk109) (fun w' hw' => r_mv (v := .int .i64 _) rfl) <| Ak 10 rfl ((Kp.refl w64 : Kp (KA A21) w64 w64).lo hk109) (fun w' hw' => r_add rfl rfl (by omega)) <| Ab 11 rfl (Q (r_ixR tsl31 ((hm73.lo hk109).rd) rfl rfl (by omega)) (Qn ⟨(Kp.refl w64 : Kp (KA A21) w64 w64).lo hk109, _, rfl, (Ak 12 rfl ((Kp.refl w64 : Kp (KA A21) w64 w64).lo hk109) (fun w' hw' => fA fa102_1 rfl) <| Ab 13 rfl (SR.storeO (o := 1) (vs := [.int .i64 (((gt x.Maps ((idxF (hasId id) x.Maps).toNat)).Copies) + n)]) (x1 := { (gt x.Maps ((idxF (hasId id) x.Maps).toNat)) with Copies := ((gt x.Maps ((idxF (hasId id) x.Maps).toNat)).Copies) + n }) sca3.2 rfl (add_add _ _ _) rfl rfl (hm73.lo hk109) hx113 rfl ler rfl ?_))⟩))
   intro w115 hk116 hs117 hO118
   have hz119 := hk116.size
   have hS121 := ((Kp.refl w64 : Kp (KA A21) w64 w64).lo hk109).step hk116 (fun _ _ e => e)
   have hx122 : (x.Maps.set ((idxF (hasId id) x.Maps).toNat) ({ (gt x.Maps ((idxF (hasId id) x.Maps).toNat)) with Copies := ((gt x.Maps ((idxF (hasId id) x.Maps).toNat)).Copies) + n }))[(idxF (hasId id) x.Maps).toNat]? = some ({ (gt x.Maps ((idxF (hasId id) x.Maps).toNat)) with Copies := ((gt x.Maps ((idxF (hasId id) x.Maps).toNat)).Copies) + n }) := List.getElem?_set_self (List.getElem?_eq_some_iff.1 hx113).1
   refine Qn ⟨hS121, _, rfl, (AH.done (by kernel_rfl) (⟨(At.r rfl), hS121, hO118, hx113, hq114, hx122⟩))⟩
  rintro f123 w124 ⟨hat126, hR125, hm107, hx95, hq96, hx106⟩
  rw [← sets_of_at hat126]
  have hz127 := hR125.size
  refine Ws (Wr (Q (lG agg34 rfl ((hb61.lo hk65).kp hR125 (fun e' => hd44 e')) rfl) <| Qw (o := 0) (vs := [.slice A21 n22 c23, .slice A25 n26 c27, .int .i64 (x.Bought + n), .int .i64 x.Dropped, .int .i64 x.Mended]) agg34.2 rfl rfl rfl rfl (hm72.kp hR125 (fun e' => by have := hm73.base_le e'; omega)) ler rfl ?_))
  intro w130 hk131 hs132 hb133
  refine Qn (W.ret (retC rfl rfl agg34 hb133 rfl ?_))
  refine ⟨A21, n22, c23, A25, n26, c27, eR (eA (eC rfl (eC rfl (eC (eI ?_) (eC (eI ?_) (eC (eI ?_) rfl)))))), (SlO.eqv ((hm107.kn hk131).down) ?_), (SlO.eqv (((hm74.kp hR125 (fun b_ hb e' => hd29 b_ e' hb)).kn hk131).down) ?_), hd29, ((hB67.step hR125 (fun i_ hi_ e' => by have := hm73.base_le e'; first | omega | exact e' | exact .inl e' | exact .inr e')).new hk131)⟩ <;> (first | (rw [bought_yes (x := x) (id := id) (n := n) (by assumption)]; first | done | rfl) | (rw [bought_no (x := x) (id := id) (n := n) (by assumption)]; first | done | rfl | (dsimp only; rw [← loopM_end (And.right ‹_ ∧ ∀ j, _ → cmpM _ _ < 0›) (by omega) (by omega)]; done) | (dsimp only; rw [← loopM_end (And.right ‹_ ∧ ∀ j, _ → cmpM _ _ < 0›) (by omega) (by omega)]; rfl)))
 ·refine W.skip (Ws (Wr (Q (aI rfl) <| Qn (Ws (W.block (W.loop (σ := Nat) (fun g => [(1, .int .i64 id), (2, .int .i64 n), (3, .pointer (pA g1)), (6, .pointer (pA g9)), (7, .pointer (pA g36)), (9, .int .i64 (g : Int))]) (fun g w' => (Lo w w') ∧ (Blk w' g1 34 (cLb Ax1 nx1 cx1 Ax2 nx2 cx2 x)) ∧ (SlR w' Bx1 encLMap 3 Ax1 nx1 cx1 x.Maps) ∧ (SlR w' Bx2 encAway 2 Ax2 nx2 cx2 x.Away) ∧ (Blk w' g9 34 [.slice none 0 0, .slice none 0 0, .int .i64 0, .int .i64 0, .int .i64 0]) ∧ (Blk w' g36 34 [.slice A21 n22 c23, .slice A25 n26 c27, .int .i64 (x.Bought + n), .int .i64 x.Dropped, .int .i64 x.Mended]) ∧ (SlO w' w10.heap.size encLMap 3 102 A21 n22 c23 x.Maps) ∧ (SlO w' w10.heap.size encAway 2 129 A25 n26 c27 x.Away) ∧ (g ≤ nx1 ∧ ∀ j, j < g → cmpM (gt x.Maps j) id < 0)) (fun g => nx1 - g) 0 ?_ ?_ ?_))))))
  ·exact (At.r rfl)
  ·exact ⟨hB67, hm69, hm70, ((hm54.kn hk59).lo hk65), hm72, hb61.lo hk65, hm73, hm74, (by exact ⟨Nat.zero_le _, fun _ h => absurd h (by omega)⟩)⟩
  ·rintro k f136 w137 hP139
   obtain ⟨hB138, hm140, hm141, hm142, hm143, hm144, hm145, hm146, hi147⟩ : (Lo w w137) ∧ (Blk w137 g1 34 (cLb Ax1 nx1 cx1 Ax2 nx2 cx2 x)) ∧ (SlR w137 Bx1 encLMap 3 Ax1 nx1 cx1 x.Maps) ∧ (SlR w137 Bx2 encAway 2 Ax2 nx2 cx2 x.Away) ∧ (Blk w137 g9 34 [.slice none 0 0, .slice none 0 0, .int .i64 0, .int .i64 0, .int .i64 0]) ∧ (Blk w137 g36 34 [.slice A21 n22 c23, .slice A25 n26 c27, .int .i64 (x.Bought + n), .int .i64 x.Dropped, .int .i64 x.Mended]) ∧ (SlO w137 w10.heap.size encLMap 3 102 A21 n22 c23 x.Maps) ∧ (SlO w137 w10.heap.size encAway 2 129 A25 n26 c27 x.Away) ∧ (k ≤ nx1 ∧ ∀ j, j < k → cmpM (gt x.Maps j) id < 0) := hP139
   refine (?_ : W _ _ _ _ _ (act _ (sets f136 [(1, .int .i64 id), (2, .int .i64 n), (3, .pointer (pA g1)), (6, .pointer (pA g9)), (7, .pointer (pA g36)), (9, .int .i64 (k : Int))])) _)
   have hzw137 := hB138.size
   have hl148 := hm140.lt
   have hl149 := hm143.lt
   have hl150 := hm144.lt
   refine Ws (Ws (W.regJS (fun f' w' => At f' [(1, .int .i64 id), (2, .int .i64 n), (3, .pointer (pA g1)), (6, .pointer (pA g9)), (7, .pointer (pA g36)), (9, .int .i64 (k : Int)), (50, .bool (decide (((k : Int) < (nx1 : Int)) ∧ (((gt x.Maps k).Id) < id))))] ∧ Lo w137 w') ?_ ?_))
   ·refine Q (mI rfl) <| Q (fA fa34_0 rfl) <| Q (lB sca31 rfl hm140 rfl) <| Q (r_len und31 rfl) <| Q (r_lt rfl rfl) <| Q (mB rfl) <| SR.splitD (fun h151 => ?_) (fun h151 => ?_)
    ·refine Qg rfl (fA fa34_0 rfl) <| Qg rfl (lB sca31 rfl hm140 rfl) <| Qg rfl (mI rfl) <| ?_
     have hx153 := hm141.elem (i := k) (by omega)
     have hq154 := maps_rng hp0.1.1 hx153
     refine Qg rfl (r_ixR tsl31 hm141 rfl rfl (by omega)) <| Qg rfl (fA fa102_0 rfl) <| Qg rfl (r_ld (v := .int .i64 ((gt x.Maps k).Id)) sca3 rfl (hm141.cell hx153 rfl)) <| Qg rfl (mI rfl) <| Qg rfl (r_lt rfl rfl) <| Q (r_pick true rfl (v := .bool _) rfl) <| Qn (⟨_, rfl, ⟨⟨rfl, rfl, rfl, rfl, rfl, rfl, (eDD (jat h151)), trivial⟩, (Lo.refl _)⟩⟩)
    ·refine Qs rfl <| Qs rfl <| Qs rfl <| Qs rfl <| Qs rfl <| Qs rfl <| Qs rfl <| Qs rfl <| Q (r_pick false rfl (v := .bool false) rfl) <| Qn (⟨_, rfl, ⟨⟨rfl, rfl, rfl, rfl, rfl, rfl, (eDF (jaf h151).2), trivial⟩, (Lo.refl _)⟩⟩)
   rintro f155 w156 ⟨hat157, hk158⟩
   rw [← sets_of_at hat157]
   have hz159 := hk158.size
   have hB160 := hB138.lo hk158
   refine W.cond_d rfl (fun h161 => ?_) (fun h161 => ?_)
   ·have hq162 : (k : Int) < (nx1 : Int) := h161.1
    have hq163 : ((gt x.Maps k).Id) < id := h161.2
    refine W.skip (W.block (Wr (Q (mI rfl) <| Q (r_add rfl rfl (by omega)) <| Q (aI rfl) <| Qn (⟨k + 1, _, rfl, (At.r rfl), ⟨hB160, hm140.lo hk158, hm141.lo hk158, hm142.lo hk158, hm143.lo hk158, hm144.lo hk158, hm145.lo hk158, hm146.lo hk158, ?_⟩, ?_⟩))))
    ·exact (by exact ⟨by omega, loopM_next (And.right ‹_ ∧ ∀ j, _ → cmpM _ _ < 0›) (by omega)⟩)
    ·exact (by omega)
   ·refine W.exit (xin_here (Ws (W.regA (Kp (fun b_ => b_ = g36) w156) (fun f' w' => ∃ (g264 : Nat) (A315 : Option Addr) (c316 : Nat) (A334 : Option Addr) (c335 : Nat) (A278 : Option Addr) (c279 : Nat) (g296 : Nat), At f' [(6, .pointer (pA g9)), (7, .pointer (pA g36))] ∧ (Kp (fun b_ => b_ = g36) w156 w') ∧ (SlO w' w156.heap.size encLMap 3 102 A334 (((0 + k) + 1) + (nx1 - k)) c335 (((x.Maps.take k) ++ ([(⟨id, n, 0⟩ : LMap)] : List LMap)) ++ (x.Maps.drop k))) ∧ (Blk w' g36 34 [.slice A334 (((0 + k) + 1) + (nx1 - k)) c335, .slice A25 n26 c27, .int .i64 (x.Bought + n), .int .i64 x.Dropped, .int .i64 x.Mended]) ∧ Dj A334 A21 ∧ Dj A334 A25) mo ?_ ?_)))
    ·intro w423 hk424
     have hz425 := hk424.size
     refine AH.via #[true, true, true, true, true, true, true, true, true, true, false, true, true, true, true, false, false, false] 4 (fun f' w' => ∃ (g264 : Nat) (A278 : Option Addr) (c279 : Nat) (g296 : Nat), At f' [(6, .pointer (pA g9)), (7, .pointer (pA g36)), (58, .slice A278 (0 + k) c279), (62, .slice (pA g296) 1 1), (67, .slice (cutA Ax1 cx1 k 3) (nx1 - k) (cx1 - k))] ∧ (Kp (fun b_ => b_ = g36) w156 w') ∧ (SlO w' w156.heap.size encLMap 3 102 A278 (0 + k) c279 (x.Maps.take k)) ∧ (SlO w' w156.heap.size encLMap 3 102 (pA g296) 1 1 ([(⟨id, n, 0⟩ : LMap)] : List LMap)) ∧ (Blk w' g36 34 [.slice A21 n22 c23, .slice A25 n26 c27, .int .i64 (x.Bought + n), .int .i64 x.Dropped, .int .i64 x.Mended]) ∧ Dj A278 A21 ∧ Dj A278 A25 ∧ (∀ b_, A278 = some ⟨b_, 0, none⟩ → ¬ (pA g296) = some ⟨b_, 0, none⟩) ∧ (∀ b_, (pA g296) = some ⟨b_, 0, none⟩ → ¬ A21 = some ⟨b_, 0, none⟩) ∧ (∀ b_, (pA g296) = some ⟨b_, 0, none⟩ → ¬ A25 = some ⟨b_, 0, none⟩)) ?_ (fun hn427 => ?_)
     ·rintro f428 w429 ⟨g264, A278, c279, g296, hat431, hR430, hm307, hm308, hm309, hd310, hd311, hd312, hd313, hd314⟩
      rw [← sets_of_at hat431]
      have hz432 := hR430.size
      refine Ab 10 rfl (SR.app tel31 rfl rfl hm307 (hm308.rd) (fun _ => rfl) (by omega) (by omega) ?_)
      intro A434 c435 w436 hk437 hO438 hN439
      have hz440 := hk437.size
      have hS442 := hR430.step hk437 (fun i_ hi_ e' => by have := hm307.base_le e'; omega)
      have hd445 : Dj A434 A21 := fun b_ e' h' => (hN439 b_ e').elim (fun h => hd310 b_ (h.trans e') h') (fun h => by have := ((hm145.lo hk158).kd hR430 hd44).base_le h'; omega)
      have hd446 : Dj A434 A25 := fun b_ e' h' => (hN439 b_ e').elim (fun h => hd311 b_ (h.trans e') h') (fun h => by have := ((hm146.lo hk158).kd hR430 hd45).base_le h'; omega)
      have hd447 : ¬ A434 = some ⟨g36, 0, none⟩ := fun e' => (hN439 g36 e').elim (fun h => by have := hm307.base_le (h.trans e'); omega) (fun h => by have := hm309.lt; omega)
      refine Qn ⟨hS442, _, rfl, (Ab 15 rfl (SR.app tel31 rfl rfl hO438 ((((hm141.lo hk158).cutl (l := k) (by omega)).kn hR430 (by omega)).kp hk437 (fun b_ hb e' => by have := hm307.base_le e'; omega)) (fun _ => rfl) (by omega) (by omega) ?_))⟩
      intro A449 c450 w451 hk452 hO453 hN454
      have hz455 := hk452.size
      have hS457 := hS442.step hk452 (fun i_ hi_ e' => by have := hO438.base_le e'; omega)
      have hd460 : Dj A449 A21 := fun b_ e' h' => (hN454 b_ e').elim (fun h => hd445 b_ (h.trans e') h') (fun h => by have := (((hm145.lo hk158).kd hR430 hd44).kp hk437 (fun b_ hb e' => hd310 b_ e' hb)).base_le h'; omega)
      have hd461 : Dj A449 A25 := fun b_ e' h' => (hN454 b_ e').elim (fun h => hd446 b_ (h.trans e') h') (fun h => by have := (((hm146.lo hk158).kd hR430 hd45).kp hk437 (fun b_ hb e' => hd311 b_ e' hb)).base_le h'; omega)
      have hd462 : ¬ A449 = some ⟨g36, 0, none⟩ := fun e' => (hN454 g36 e').elim (fun h => hd447 (h.trans e')) (fun h => by have := (hm309.kp hk437 (fun e' => by have := hm307.base_le e'; omega)).lt; omega)
      refine Qn ⟨hS457, _, rfl, (Ak 16 rfl hS457 (fun w' hw' => fA fa34_0 rfl) <| Ab 17 rfl (Qw (o := 0) (vs := [.slice A449 (((0 + k) + 1) + (nx1 - k)) c450]) sca31.2 rfl rfl rfl rfl ((hm309.kp hk437 (fun e' => by have := hm307.base_le e'; omega)).kp hk452 (fun e' => hd447 e')) ler rfl ?_))⟩
      intro w464 hk465 hs466 hb467
      have hS470 := hS457.step hk465 (fun _ _ e => e)
      refine Qn ⟨hS470, _, rfl, (AH.done (by kernel_rfl) (⟨g264, A434, c435, A449, c450, A278, c279, g296, ⟨rfl, rfl, trivial⟩, hS470, ((hO453.kd hk465 hd462).down), hb467, hd460, hd461⟩))⟩
     refine AH.via #[true, true, true, true, true, false, true, true, true, true, false, true, true, true, true, false, false, false] 5 (fun f' w' => ∃ (g264 : Nat) (g364 : Nat), At f' [(6, .pointer (pA g9)), (7, .pointer (pA g36)), (53, .slice (pA g264) 0 0), (57, .slice Ax1 k cx1), (62, .slice (pA g364) 1 1), (67, .slice (cutA Ax1 cx1 k 3) (nx1 - k) (cx1 - k))] ∧ (Kp (fun b_ => b_ = g36) w156 w') ∧ (SlO w' w156.heap.size encLMap 3 102 (pA g264) 0 0 ([] : List LMap)) ∧ (SlO w' w156.heap.size encLMap 3 102 (pA g364) 1 1 ([(⟨id, n, 0⟩ : LMap)] : List LMap)) ∧ (Blk w' g36 34 [.slice A21 n22 c23, .slice A25 n26 c27, .int .i64 (x.Bought + n), .int .i64 x.Dropped, .int .i64 x.Mended]) ∧ (∀ b_, (pA g264) = some ⟨b_, 0, none⟩ → ¬ A21 = some ⟨b_, 0, none⟩) ∧ (∀ b_, (pA g264) = some ⟨b_, 0, none⟩ → ¬ A25 = some ⟨b_, 0, none⟩) ∧ (∀ b_, (pA g264) = some ⟨b_, 0, none⟩ → ¬ (pA g364) = some ⟨b_, 0, none⟩) ∧ (∀ b_, (pA g364) = some ⟨b_, 0, none⟩ → ¬ A21 = some ⟨b_, 0, none⟩) ∧ (∀ b_, (pA g364) = some ⟨b_, 0, none⟩ → ¬ A25 = some ⟨b_, 0, none⟩)) ?_ (fun hn473 => ?_)
     ·rintro f474 w475 ⟨g264, g364, hat477, hR476, hm375, hm376, hm377, hd378, hd379, hd380, hd381, hd382⟩
      rw [← sets_of_at hat477]
      have hz478 := hR476.size
      refine Ab 5 rfl (SR.app tel31 rfl rfl hm375 (((hm141.lo hk158).head (h := k) (by omega)).kn hR476 (by omega)) (fun _ => rfl) (by omega) (by omega) ?_)
      intro A480 c481 w482 hk483 hO484 hN485
      have hz486 := hk483.size
      have hS488 := hR476.step hk483 (fun i_ hi_ e' => by have := hm375.base_le e'; omega)
      rw [List.nil_append] at hO484
      have hd491 : Dj A480 A21 := fun b_ e' h' => (hN485 b_ e').elim (fun h => hd378 b_ (h.trans e') h') (fun h => by have := ((hm145.lo hk158).kd hR476 hd44).base_le h'; omega)
      have hd492 : Dj A480 A25 := fun b_ e' h' => (hN485 b_ e').elim (fun h => hd379 b_ (h.trans e') h') (fun h => by have := ((hm146.lo hk158).kd hR476 hd45).base_le h'; omega)
      have hd494 : ∀ b_, A480 = some ⟨b_, 0, none⟩ → ¬ (pA g364) = some ⟨b_, 0, none⟩ := fun b_ e' h' => (hN485 b_ e').elim (fun h => hd380 b_ (h.trans e') h') (fun h => by have := hm376.base_le h'; omega)
      refine Qn ⟨hS488, _, rfl, (AH.goto (by kernel_rfl) rfl (hn427 _ _ (⟨g264, A480, c481, g364, (At.r rfl), hS488, (hO484.down), ((hm376.kp hk483 (fun b_ hb e' => hd380 b_ e' hb)).down), (hm377.kp hk483 (fun e' => by have := hm375.base_le e'; omega)), hd491, hd492, hd494, hd381, hd382⟩)))⟩
     refine Ak 1 rfl (kr hk424) (fun w' hw' => fA fa34_0 rfl) <| Ak 2 rfl (kr hk424) (fun w' hw' => r_ld (v := .slice Ax1 nx1 cx1) sca31 rfl (((hm140.lo hk158).kn hw' (by omega)).cell rfl)) <| Ak 3 rfl (kr hk424) (fun w' hw' => r_mv (v := .int .i64 _) rfl) <| Ak 4 rfl (kr hk424) (fun w' hw' => r_cuth (h := k) tsl31 rfl rfl rfl (Nat.le_trans (by omega : k ≤ nx1) (hm141.lo hk158).cap)) <| Ak 6 rfl (kr hk424) (fun w' hw' => r_mv (v := .int .i64 _) rfl) <| Ak 7 rfl (kr hk424) (fun w' hw' => r_mv (v := .int .i64 _) rfl) <| Ak 8 rfl (kr hk424) (fun w' hw' => r_build (vs := [(0, .int .i64 id), (1, .int .i64 n)]) rfl (bld102_0_1 _ _)) <| Ak 11 rfl (kr hk424) (fun w' hw' => fA fa34_0 rfl) <| Ak 12 rfl (kr hk424) (fun w' hw' => r_ld (v := .slice Ax1 nx1 cx1) sca31 rfl (((hm140.lo hk158).kn hw' (by omega)).cell rfl)) <| Ak 13 rfl (kr hk424) (fun w' hw' => r_mv (v := .int .i64 _) rfl) <| Ak 14 rfl (kr hk424) (fun w' hw' => r_cutl (l := k) tsl31 rfl rfl rfl (by omega)) <| AH.br [0, 9] (by kernel_rfl) rfl ⟨Br.mk' rfl trivial ?_, Br.mk' rfl trivial ?_, trivial⟩
     ·refine SR.lit (vs := []) (L := ([] : List LMap)) (enc := encLMap) tel31 (fun _ => rfl) rfl rfl rfl (by decide) ?_
      intro g500 w501 hg502 hk503 hO504
      have hz505 := hk503.size
      have hS507 := ((Kp.refl w156 : Kp (fun b_ => b_ = g36) w156 w156).lo hk424).lo hk503
      refine Qn ⟨hS507, _, rfl, (AH.br [5, 9] (by kernel_rfl) rfl ⟨Br.mk' rfl trivial ?_, Br.mk' rfl trivial ?_, trivial⟩)⟩
      ·refine SR.app tel31 rfl rfl hO504 ((((hm141.lo hk158).head (h := k) (by omega)).lo hk424).lo hk503) (fun _ => rfl) (by omega) (by omega) ?_
       intro A510 c511 w512 hk513 hO514 hN515
       have hz516 := hk513.size
       have hS518 := hS507.step hk513 (fun i_ hi_ e' => by have := hO504.base_le e'; omega)
       rw [List.nil_append] at hO514
       refine Qn ⟨hS518, _, rfl, (Ab 9 rfl (SR.lit (vs := [.agg (List.toArray [.int .i64 id, .int .i64 n, .int .i64 0])]) (L := ([(⟨id, n, 0⟩ : LMap)] : List LMap)) (enc := encLMap) tel31 (fun _ => rfl) rfl rfl rfl (by decide) ?_))⟩
       intro g524 w525 hg526 hk527 hO528
       have hz529 := hk527.size
       have hS531 := hS518.lo hk527
       have hd532 := SlO.ne (g := g524) ((((hm145.lo hk158).lo hk424).lo hk503).kp hk513 (fun b_ hb e' => by have h1 := hO504.base_le e'; have h2 := (((hm145.lo hk158).lo hk424).lo hk503).base_le hb; have h3 := ((hm145.lo hk158).lo hk424).base_le hb; omega))
       have hd533 := SlO.ne (g := g524) ((((hm146.lo hk158).lo hk424).lo hk503).kp hk513 (fun b_ hb e' => by have h1 := hO504.base_le e'; have h2 := (((hm146.lo hk158).lo hk424).lo hk503).base_le hb; have h3 := ((hm146.lo hk158).lo hk424).base_le hb; omega))
       refine Qn ⟨hS531, _, rfl, (AH.goto (by kernel_rfl) rfl (hn427 _ _ (⟨g500, A510, c511, g524, (At.r rfl), hS531, ((hO514.lo hk527).down), (hO528.down), (((((hm144.lo hk158).lo hk424).lo hk503).kp hk513 (fun e' => by have := hO504.base_le e'; omega)).lo hk527), (fun b_ h h' => by have h1 := (hO514.lo hk527).base_le h; have h2 := ((hm145.lo hk158).lo hk424).base_le h'; omega), (fun b_ h h' => by have h1 := (hO514.lo hk527).base_le h; have h2 := ((hm146.lo hk158).lo hk424).base_le h'; omega), (fun b_ h h' => (SlO.ne (g := g524) hO514) (h.trans h'.symm)), (fun b_ h h' => hd532 (h'.trans h.symm)), (fun b_ h h' => hd533 (h'.trans h.symm))⟩)))⟩
      ·refine SR.lit (vs := [.agg (List.toArray [.int .i64 id, .int .i64 n, .int .i64 0])]) (L := ([(⟨id, n, 0⟩ : LMap)] : List LMap)) (enc := encLMap) tel31 (fun _ => rfl) rfl rfl rfl (by decide) ?_
       intro g540 w541 hg542 hk543 hO544
       have hz545 := hk543.size
       have hS547 := hS507.lo hk543
       refine Qn ⟨hS547, _, rfl, (AH.goto (by kernel_rfl) rfl (hn473 _ _ (⟨g500, g540, (At.r rfl), hS547, ((hO504.lo hk543).down), (hO544.down), ((((hm144.lo hk158).lo hk424).lo hk503).lo hk543), (fun b_ h h' => (SlO.ne (g := g500) ((hm145.lo hk158).lo hk424)) (h'.trans h.symm)), (fun b_ h h' => (SlO.ne (g := g500) ((hm146.lo hk158).lo hk424)) (h'.trans h.symm)), (fun b_ h h' => (SlO.ne (g := g540) hO504) (h.trans h'.symm)), (fun b_ h h' => (SlO.ne (g := g540) (((hm145.lo hk158).lo hk424).lo hk503)) (h'.trans h.symm)), (fun b_ h h' => (SlO.ne (g := g540) (((hm146.lo hk158).lo hk424).lo hk503)) (h'.trans h.symm))⟩)))⟩
     ·refine SR.lit (vs := [.agg (List.toArray [.int .i64 id, .int .i64 n, .int .i64 0])]) (L := ([(⟨id, n, 0⟩ : LMap)] : List LMap)) (enc := encLMap) tel31 (fun _ => rfl) rfl rfl rfl (by decide) ?_
      intro g556 w557 hg558 hk559 hO560
      have hz561 := hk559.size
      have hS563 := ((Kp.refl w156 : Kp (fun b_ => b_ = g36) w156 w156).lo hk424).lo hk559
      refine Qn ⟨hS563, _, rfl, (Ab 0 rfl (SR.lit (vs := []) (L := ([] : List LMap)) (enc := encLMap) tel31 (fun _ => rfl) rfl rfl rfl (by decide) ?_))⟩
      intro g566 w567 hg568 hk569 hO570
      have hz571 := hk569.size
      have hS573 := hS563.lo hk569
      refine Qn ⟨hS573, _, rfl, (AH.goto (by kernel_rfl) rfl (hn473 _ _ (⟨g566, g556, (At.r rfl), hS573, (hO570.down), ((hO560.lo hk569).down), ((((hm144.lo hk158).lo hk424).lo hk559).lo hk569), (fun b_ h h' => (SlO.ne (g := g566) (((hm145.lo hk158).lo hk424).lo hk559)) (h'.trans h.symm)), (fun b_ h h' => (SlO.ne (g := g566) (((hm146.lo hk158).lo hk424).lo hk559)) (h'.trans h.symm)), (fun b_ h h' => (SlO.ne (g := g566) hO560) (h'.trans h.symm)), (fun b_ h h' => (SlO.ne (g := g556) ((hm145.lo hk158).lo hk424)) (h'.trans h.symm)), (fun b_ h h' => (SlO.ne (g := g556) ((hm146.lo hk158).lo hk424)) (h'.trans h.symm))⟩)))⟩
    rintro f582 w583 ⟨g264, A315, c316, A334, c335, A278, c279, g296, hat585, hR584, hm360, hm361, hd362, hd363⟩
    rw [← sets_of_at hat585]
    have hz586 := hR584.size
    refine Ws ?_
    have hm588 := (hm143.lo hk158).kn hR584 (by omega)
    refine Wr (Q (lG agg34 rfl hm361 rfl) <| Qw (o := 0) (vs := [.slice A334 (((0 + k) + 1) + (nx1 - k)) c335, .slice A25 n26 c27, .int .i64 (x.Bought + n), .int .i64 x.Dropped, .int .i64 x.Mended]) agg34.2 rfl rfl rfl rfl hm588 ler rfl ?_)
    intro w590 hk591 hs592 hb593
    refine Qn (W.ret (retC rfl rfl agg34 hb593 rfl ?_))
    refine ⟨A334, ((0 + k) + 1) + (nx1 - k), c335, A25, n26, c27, eR (eA (eC rfl (eC rfl (eC (eI ?_) (eC (eI ?_) (eC (eI ?_) rfl)))))), (SlO.eqv ((hm360.kn hk591).down) ?_), (SlO.eqv ((((hm146.lo hk158).kd hR584 hd45).kn hk591).down) ?_), hd363, ((hB160.new hR584 (by omega)).new hk591)⟩ <;> (first | (rw [bought_yes (x := x) (id := id) (n := n) (by assumption)]; first | done | rfl) | (rw [bought_no (x := x) (id := id) (n := n) (by assumption)]; first | done | rfl | (dsimp only; rw [← loopM_end (And.right ‹_ ∧ ∀ j, _ → cmpM _ _ < 0›) (by omega) (by omega)]; done) | (dsimp only; rw [← loopM_end (And.right ‹_ ∧ ∀ j, _ → cmpM _ _ < 0›) (by omega) (by omega)]; rfl)))
theorem c_spec_l32Gone (w : World) (x : Library) {Ax1 : Option Addr} {nx1 cx1 Bx1 : Nat} (hx1 : SlR w Bx1 encLMap 3 Ax1 nx1 cx1 x.Maps) {Ax2 : Option Addr} {nx2 cx2 Bx2 : Nat} (hx2 : SlR w Bx2 encAway 2 Ax2 nx2 cx2 x.Away) (id : Int) (r : Int) (hp0 : (nx1 : Int) ≤ 100) (hp1 : (nx2 : Int) ≤ 100) : Calls Tryz.prog 193 #[.agg (List.toArray (cLb Ax1 nx1 cx1 Ax2 nx2 cx2 x)), .int .i64 id, .int .i64 r] w fun e w' => ∃ (A1' : Option Addr) (n1' c1' : Nat) (A2' : Option Addr) (n2' c2' : Nat), e = .returned (.agg (List.toArray [.slice A1' n1' c1', .slice A2' n2' c2', .int .i64 ((goneN x id r).Bought), .int .i64 ((goneN x id r).Dropped), .int .i64 ((goneN x id r).Mended)])) ∧ SlO w' w.heap.size encLMap 3 102 A1' n1' c1' ((goneN x id r).Maps) ∧ SlO w' w.heap.size encAway 2 129 A2' n2' c2' ((goneN x id r).Away) ∧ Dj A1' A2' ∧ Lo w w' := by
 refine calls_W 66 Tryz.func193 rfl rfl rfl ?_
 have hbdx1 := hx1.bound
 have hlex1 := hx1.len
 have hBbx1 := hx1.bd
 have hbdx2 := hx2.bound
 have hlex2 := hx2.len
 have hBbx2 := hx2.bd
 refine Ws (Wr (SR.box (v := .agg (List.toArray _)) (l := (cLb Ax1 nx1 cx1 Ax2 nx2 cx2 x)) rfl rfl ?_))
 intro g1 w2 hg3 hk4 hs5 hb6
 refine SR.alloc (l := [.slice none 0 0, .slice none 0 0, .int .i64 0, .int .i64 0, .int .i64 0]) tz34 rfl ?_
 intro g9 w10 hg11 hk12 hs13 hb14
 refine Qn (Ws (Wr (Q (aI rfl) <| Qn (Ws (W.block (W.loop (σ := Nat) (fun g => [(1, .int .i64 id), (2, .int .i64 r), (3, .pointer (pA g1)), (6, .pointer (pA g9)), (7, .int .i64 (g : Int))]) (fun g w' => (Lo w w') ∧ (Blk w' g1 34 (cLb Ax1 nx1 cx1 Ax2 nx2 cx2 x)) ∧ (SlR w' Bx1 encLMap 3 Ax1 nx1 cx1 x.Maps) ∧ (SlR w' Bx2 encAway 2 Ax2 nx2 cx2 x.Away) ∧ (Blk w' g9 34 [.slice none 0 0, .slice none 0 0, .int .i64 0, .int .i64 0, .int .i64 0]) ∧ (g ≤ nx2 ∧ ∀ j, j < g → cmpA (gt x.Away j) (⟨id, r⟩ : Away) < 0)) (fun g => nx2 - g) 0 ?_ ?_ ?_))))))
 ·exact (At.r rfl)
 ·exact ⟨(((Lo.refl w).lo hk4).lo hk12), hb6.lo hk12, ((hx1.lo hk4).lo hk12), ((hx2.lo hk4).lo hk12), hb14, (by exact ⟨Nat.zero_le _, fun _ h => absurd h (by omega)⟩)⟩
 ·rintro k f19 w20 hP22
  obtain ⟨hB21, hm23, hm24, hm25, hm26, hi27⟩ : (Lo w w20) ∧ (Blk w20 g1 34 (cLb Ax1 nx1 cx1 Ax2 nx2 cx2 x)) ∧ (SlR w20 Bx1 encLMap 3 Ax1 nx1 cx1 x.Maps) ∧ (SlR w20 Bx2 encAway 2 Ax2 nx2 cx2 x.Away) ∧ (Blk w20 g9 34 [.slice none 0 0, .slice none 0 0, .int .i64 0, .int .i64 0, .int .i64 0]) ∧ (k ≤ nx2 ∧ ∀ j, j < k → cmpA (gt x.Away j) (⟨id, r⟩ : Away) < 0) := hP22
  refine (?_ : W _ _ _ _ _ (act _ (sets f19 [(1, .int .i64 id), (2, .int .i64 r), (3, .pointer (pA g1)), (6, .pointer (pA g9)), (7, .int .i64 (k : Int))])) _)
  have hzw20 := hB21.size
  have hl28 := hm23.lt
  have hl29 := hm26.lt
  refine Ws (Ws (W.regJS (fun f' w' => At f' [(1, .int .i64 id), (2, .int .i64 r), (3, .pointer (pA g1)), (6, .pointer (pA g9)), (7, .int .i64 (k : Int)), (43, .bool (decide (((k : Int) < (nx2 : Int)) ∧ ((((gt x.Away k).Map) < id) ∨ ((((gt x.Away k).Map) = id) ∧ (((gt x.Away k).Reader) < r))))))] ∧ Lo w20 w') ?_ ?_))
  ·refine Q (mI rfl) <| Q (fA fa34_1 rfl) <| Q (lB sca32 rfl hm23 rfl) <| Q (r_len und32 rfl) <| Q (r_lt rfl rfl) <| Q (mB rfl) <| SR.splitD (fun h30 => ?_) (fun h30 => ?_)
   ·refine Qg rfl (fA fa34_1 rfl) <| Qg rfl (lB sca32 rfl hm23 rfl) <| Qg rfl (mI rfl) <| ?_
    have hx32 := hm25.elem (i := k) (by omega)
    refine Qg rfl (r_ixR tsl32 hm25 rfl rfl (by omega)) <| Qg rfl (fA fa129_0 rfl) <| Qg rfl (r_ld (v := .int .i64 ((gt x.Away k).Map)) sca3 rfl (hm25.cell hx32 rfl)) <| Qg rfl (mI rfl) <| Qg rfl (r_lt rfl rfl) <| Qg rfl (mB rfl) <| SR.splitD (fun h33 => ?_) (fun h33 => ?_)
    ·refine Qs rfl <| Qs rfl <| Qs rfl <| Qs rfl <| Qs rfl <| Qs rfl <| Qs rfl <| Qs rfl <| Qs rfl <| SR.u' rfl <| SR.u' rfl <| SR.u' rfl <| SR.u' rfl <| SR.u' rfl <| SR.u' rfl <| SR.u' rfl <| SR.u' rfl <| Qs rfl <| Qg rfl (r_pick true rfl (v := .bool true) rfl) <| Q (r_pick true rfl (v := .bool _) rfl) <| Qn (⟨_, rfl, ⟨⟨rfl, rfl, rfl, rfl, rfl, (eDT (((jot h33).trans (jat h30)).1 trivial)), trivial⟩, (Lo.refl _)⟩⟩)
    ·refine Qg rfl (fA fa34_1 rfl) <| Qg rfl (lB sca32 rfl hm23 rfl) <| Qg rfl (mI rfl) <| Qg rfl (r_ixR tsl32 hm25 rfl rfl (by omega)) <| Qg rfl (fA fa129_0 rfl) <| Qg rfl (r_ld (v := .int .i64 ((gt x.Away k).Map)) sca3 rfl (hm25.cell hx32 rfl)) <| Qg rfl (mI rfl) <| Qg rfl (r_eq rfl rfl) <| Qg rfl (mB rfl) <| SR.splitD (fun h34 => ?_) (fun h34 => ?_)
     ·refine Qg rfl (fA fa34_1 rfl) <| Qg rfl (lB sca32 rfl hm23 rfl) <| Qg rfl (mI rfl) <| Qg rfl (r_ixR tsl32 hm25 rfl rfl (by omega)) <| Qg rfl (fA fa129_1 rfl) <| Qg rfl (r_ld (v := .int .i64 ((gt x.Away k).Reader)) sca3 rfl (hm25.cell hx32 rfl)) <| Qg rfl (mI rfl) <| Qg rfl (r_lt rfl rfl) <| Qg rfl (r_pick true rfl (v := .bool _) rfl) <| Qg rfl (r_pick false rfl (v := .bool _) rfl) <| Q (r_pick true rfl (v := .bool _) rfl) <| Qn (⟨_, rfl, ⟨⟨rfl, rfl, rfl, rfl, rfl, (eDD (((jat h34).trans (jof h33)).trans (jat h30))), trivial⟩, (Lo.refl _)⟩⟩)
     ·refine Qs rfl <| Qs rfl <| Qs rfl <| Qs rfl <| Qs rfl <| Qs rfl <| Qs rfl <| Qs rfl <| Qg rfl (r_pick false rfl (v := .bool false) rfl) <| Qg rfl (r_pick false rfl (v := .bool _) rfl) <| Q (r_pick true rfl (v := .bool _) rfl) <| Qn (⟨_, rfl, ⟨⟨rfl, rfl, rfl, rfl, rfl, (eDF (((jaf h34).trans (jof h33)).trans (jat h30)).2), trivial⟩, (Lo.refl _)⟩⟩)
   ·refine Qs rfl <| Qs rfl <| Qs rfl <| Qs rfl <| Qs rfl <| Qs rfl <| Qs rfl <| Qs rfl <| Qs rfl <| SR.u' rfl <| SR.u' rfl <| SR.u' rfl <| SR.u' rfl <| SR.u' rfl <| SR.u' rfl <| SR.u' rfl <| SR.u' rfl <| SR.u' rfl <| SR.u' rfl <| SR.u' rfl <| SR.u' rfl <| SR.u' rfl <| SR.u' rfl <| SR.u' rfl <| SR.u' rfl <| SR.u' rfl <| SR.u' rfl <| Qs rfl <| Q (r_pick false rfl (v := .bool false) rfl) <| Qn (⟨_, rfl, ⟨⟨rfl, rfl, rfl, rfl, rfl, (eDF (jaf h30).2), trivial⟩, (Lo.refl _)⟩⟩)
  rintro f35 w36 ⟨hat37, hk38⟩
  rw [← sets_of_at hat37]
  have hz39 := hk38.size
  have hB40 := hB21.lo hk38
  refine W.cond_d rfl (fun h41 => ?_) (fun h41 => ?_)
  ·have hq42 : (k : Int) < (nx2 : Int) := h41.1
   have hq43 : (((gt x.Away k).Map) < id) ∨ ((((gt x.Away k).Map) = id) ∧ (((gt x.Away k).Reader) < r)) := h41.2
   refine W.skip (W.block (Wr (Q (mI rfl) <| Q (r_add rfl rfl (by omega)) <| Q (aI rfl) <| Qn (⟨k + 1, _, rfl, (At.r rfl), ⟨hB40, hm23.lo hk38, hm24.lo hk38, hm25.lo hk38, hm26.lo hk38, ?_⟩, ?_⟩))))
   ·exact (by exact ⟨by omega, loopA_next (And.right ‹_ ∧ ∀ j, _ → cmpA _ _ < 0›) (by unfold lexlt; dsimp only; omega)⟩)
   ·exact (by omega)
  ·refine W.exit (xin_here (Ws (Wr (Q (lG agg34 rfl (hm23.lo hk38) rfl) <| SR.call ent79 (c_spec_l32Own w36 x (hm24.lo hk38) (hm25.lo hk38) (by omega) (by omega)) rfl ?_))))
   rintro e w44 ⟨A46, n47, c48, A50, n51, c52, rfl, hO49, hO53, hd54, hk45⟩
   refine ⟨_, rfl, ?_⟩
   have hz55 := hk45.size
   have hl57 := hO49.len
   have hl58 := hO49.rd.bound
   have hl59 := hO53.len
   have hl60 := hO53.rd.bound
   refine SR.alloc (l := [.slice none 0 0, .slice none 0 0, .int .i64 0, .int .i64 0, .int .i64 0]) tz34 rfl ?_
   intro g61 w62 hg63 hk64 hs65 hb66
   have hd69 := SlO.ne (g := g61) hO49
   have hd70 := SlO.ne (g := g61) hO53
   refine Qw (o := 0) (vs := (cLb A46 n47 c48 A50 n51 c52 x)) agg34.2 rfl rfl rfl rfl hb66 ler rfl ?_
   intro w71 hk72 hs73 hb74
   refine Qn (Ws ?_)
   have hm77 := (((hm23.lo hk38).lo hk45).lo hk64).kn hk72
   have hm79 := (((hm25.lo hk38).lo hk45).lo hk64).kn hk72
   have hm81 := (hO49.lo hk64).kd hk72 hd69
   have hm82 := (hO53.lo hk64).kd hk72 hd70
   refine W.regA (Kp (fun b_ => b_ = g61) w71) (fun f' w' => ∃ (g183 : Nat) (A234 : Option Addr) (c235 : Nat) (A253 : Option Addr) (c254 : Nat) (A197 : Option Addr) (c198 : Nat) (g215 : Nat), At f' [(6, .pointer (pA g9)), (8, .pointer (pA g61))] ∧ (Kp (fun b_ => b_ = g61) w71 w') ∧ (SlO w' w71.heap.size encAway 2 129 A253 (((0 + k) + 1) + (nx2 - k)) c254 (((x.Away.take k) ++ ([(⟨id, r⟩ : Away)] : List Away)) ++ (x.Away.drop k))) ∧ (Blk w' g61 34 [.slice A46 n47 c48, .slice A253 (((0 + k) + 1) + (nx2 - k)) c254, .int .i64 x.Bought, .int .i64 x.Dropped, .int .i64 x.Mended]) ∧ Dj A253 A46 ∧ Dj A253 A50) mo ?_ ?_
   ·intro w342 hk343
    have hz344 := hk343.size
    refine AH.via #[true, true, true, true, true, true, true, true, true, true, false, true, true, true, true, false, false, false] 4 (fun f' w' => ∃ (g183 : Nat) (A197 : Option Addr) (c198 : Nat) (g215 : Nat), At f' [(6, .pointer (pA g9)), (8, .pointer (pA g61)), (53, .slice A197 (0 + k) c198), (57, .slice (pA g215) 1 1), (62, .slice (cutA Ax2 cx2 k 2) (nx2 - k) (cx2 - k))] ∧ (Kp (fun b_ => b_ = g61) w71 w') ∧ (SlO w' w71.heap.size encAway 2 129 A197 (0 + k) c198 (x.Away.take k)) ∧ (SlO w' w71.heap.size encAway 2 129 (pA g215) 1 1 ([(⟨id, r⟩ : Away)] : List Away)) ∧ (Blk w' g61 34 (cLb A46 n47 c48 A50 n51 c52 x)) ∧ Dj A197 A46 ∧ Dj A197 A50 ∧ (∀ b_, A197 = some ⟨b_, 0, none⟩ → ¬ (pA g215) = some ⟨b_, 0, none⟩) ∧ (∀ b_, (pA g215) = some ⟨b_, 0, none⟩ → ¬ A46 = some ⟨b_, 0, none⟩) ∧ (∀ b_, (pA g215) = some ⟨b_, 0, none⟩ → ¬ A50 = some ⟨b_, 0, none⟩)) ?_ (fun hn346 => ?_)
    ·rintro f347 w348 ⟨g183, A197, c198, g215, hat350, hR349, hm226, hm227, hm228, hd229, hd230, hd231, hd232, hd233⟩
     rw [← sets_of_at hat350]
     have hz351 := hR349.size
     refine Ab 10 rfl (SR.app tel32 rfl rfl hm226 (hm227.rd) (fun _ => rfl) (by omega) (by omega) ?_)
     intro A353 c354 w355 hk356 hO357 hN358
     have hz359 := hk356.size
     have hS361 := hR349.step hk356 (fun i_ hi_ e' => by have := hm226.base_le e'; omega)
     have hd364 : Dj A353 A46 := fun b_ e' h' => (hN358 b_ e').elim (fun h => hd229 b_ (h.trans e') h') (fun h => by have := (hm81.kd hR349 hd69).base_le h'; omega)
     have hd365 : Dj A353 A50 := fun b_ e' h' => (hN358 b_ e').elim (fun h => hd230 b_ (h.trans e') h') (fun h => by have := (hm82.kd hR349 hd70).base_le h'; omega)
     have hd366 : ¬ A353 = some ⟨g61, 0, none⟩ := fun e' => (hN358 g61 e').elim (fun h => by have := hm226.base_le (h.trans e'); omega) (fun h => by have := hm228.lt; omega)
     refine Qn ⟨hS361, _, rfl, (Ab 15 rfl (SR.app tel32 rfl rfl hO357 (((hm79.cutl (l := k) (by omega)).kn hR349 (by omega)).kp hk356 (fun b_ hb e' => by have := hm226.base_le e'; omega)) (fun _ => rfl) (by omega) (by omega) ?_))⟩
     intro A368 c369 w370 hk371 hO372 hN373
     have hz374 := hk371.size
     have hS376 := hS361.step hk371 (fun i_ hi_ e' => by have := hO357.base_le e'; omega)
     have hd379 : Dj A368 A46 := fun b_ e' h' => (hN373 b_ e').elim (fun h => hd364 b_ (h.trans e') h') (fun h => by have := ((hm81.kd hR349 hd69).kp hk356 (fun b_ hb e' => hd229 b_ e' hb)).base_le h'; omega)
     have hd380 : Dj A368 A50 := fun b_ e' h' => (hN373 b_ e').elim (fun h => hd365 b_ (h.trans e') h') (fun h => by have := ((hm82.kd hR349 hd70).kp hk356 (fun b_ hb e' => hd230 b_ e' hb)).base_le h'; omega)
     have hd381 : ¬ A368 = some ⟨g61, 0, none⟩ := fun e' => (hN373 g61 e').elim (fun h => hd366 (h.trans e')) (fun h => by have := (hm228.kp hk356 (fun e' => by have := hm226.base_le e'; omega)).lt; omega)
     refine Qn ⟨hS376, _, rfl, (Ak 16 rfl hS376 (fun w' hw' => fA fa34_1 rfl) <| Ab 17 rfl (Qw (o := 1) (vs := [.slice A368 (((0 + k) + 1) + (nx2 - k)) c369]) sca32.2 rfl rfl rfl rfl ((hm228.kp hk356 (fun e' => by have := hm226.base_le e'; omega)).kp hk371 (fun e' => hd366 e')) ler rfl ?_))⟩
     intro w383 hk384 hs385 hb386
     have hS389 := hS376.step hk384 (fun _ _ e => e)
     refine Qn ⟨hS389, _, rfl, (AH.done (by kernel_rfl) (⟨g183, A353, c354, A368, c369, A197, c198, g215, ⟨rfl, rfl, trivial⟩, hS389, ((hO372.kd hk384 hd381).down), hb386, hd379, hd380⟩))⟩
    refine AH.via #[true, true, true, true, true, false, true, true, true, true, false, true, true, true, true, false, false, false] 5 (fun f' w' => ∃ (g183 : Nat) (g283 : Nat), At f' [(6, .pointer (pA g9)), (8, .pointer (pA g61)), (48, .slice (pA g183) 0 0), (52, .slice Ax2 k cx2), (57, .slice (pA g283) 1 1), (62, .slice (cutA Ax2 cx2 k 2) (nx2 - k) (cx2 - k))] ∧ (Kp (fun b_ => b_ = g61) w71 w') ∧ (SlO w' w71.heap.size encAway 2 129 (pA g183) 0 0 ([] : List Away)) ∧ (SlO w' w71.heap.size encAway 2 129 (pA g283) 1 1 ([(⟨id, r⟩ : Away)] : List Away)) ∧ (Blk w' g61 34 (cLb A46 n47 c48 A50 n51 c52 x)) ∧ (∀ b_, (pA g183) = some ⟨b_, 0, none⟩ → ¬ A46 = some ⟨b_, 0, none⟩) ∧ (∀ b_, (pA g183) = some ⟨b_, 0, none⟩ → ¬ A50 = some ⟨b_, 0, none⟩) ∧ (∀ b_, (pA g183) = some ⟨b_, 0, none⟩ → ¬ (pA g283) = some ⟨b_, 0, none⟩) ∧ (∀ b_, (pA g283) = some ⟨b_, 0, none⟩ → ¬ A46 = some ⟨b_, 0, none⟩) ∧ (∀ b_, (pA g283) = some ⟨b_, 0, none⟩ → ¬ A50 = some ⟨b_, 0, none⟩)) ?_ (fun hn392 => ?_)
    ·rintro f393 w394 ⟨g183, g283, hat396, hR395, hm294, hm295, hm296, hd297, hd298, hd299, hd300, hd301⟩
     rw [← sets_of_at hat396]
     have hz397 := hR395.size
     refine Ab 5 rfl (SR.app tel32 rfl rfl hm294 ((hm79.head (h := k) (by omega)).kn hR395 (by omega)) (fun _ => rfl) (by omega) (by omega) ?_)
     intro A399 c400 w401 hk402 hO403 hN404
     have hz405 := hk402.size
     have hS407 := hR395.step hk402 (fun i_ hi_ e' => by have := hm294.base_le e'; omega)
     rw [List.nil_append] at hO403
     have hd410 : Dj A399 A46 := fun b_ e' h' => (hN404 b_ e').elim (fun h => hd297 b_ (h.trans e') h') (fun h => by have := (hm81.kd hR395 hd69).base_le h'; omega)
     have hd411 : Dj A399 A50 := fun b_ e' h' => (hN404 b_ e').elim (fun h => hd298 b_ (h.trans e') h') (fun h => by have := (hm82.kd hR395 hd70).base_le h'; omega)
     have hd413 : ∀ b_, A399 = some ⟨b_, 0, none⟩ → ¬ (pA g283) = some ⟨b_, 0, none⟩ := fun b_ e' h' => (hN404 b_ e').elim (fun h => hd299 b_ (h.trans e') h') (fun h => by have := hm295.base_le h'; omega)
     refine Qn ⟨hS407, _, rfl, (AH.goto (by kernel_rfl) rfl (hn346 _ _ (⟨g183, A399, c400, g283, (At.r rfl), hS407, (hO403.down), ((hm295.kp hk402 (fun b_ hb e' => hd299 b_ e' hb)).down), (hm296.kp hk402 (fun e' => by have := hm294.base_le e'; omega)), hd410, hd411, hd413, hd300, hd301⟩)))⟩
    refine Ak 1 rfl (kr hk343) (fun w' hw' => fA fa34_1 rfl) <| Ak 2 rfl (kr hk343) (fun w' hw' => r_ld (v := .slice Ax2 nx2 cx2) sca32 rfl ((hm77.kn hw' (by omega)).cell rfl)) <| Ak 3 rfl (kr hk343) (fun w' hw' => r_mv (v := .int .i64 _) rfl) <| Ak 4 rfl (kr hk343) (fun w' hw' => r_cuth (h := k) tsl32 rfl rfl rfl (Nat.le_trans (by omega : k ≤ nx2) hm79.cap)) <| Ak 6 rfl (kr hk343) (fun w' hw' => r_mv (v := .int .i64 _) rfl) <| Ak 7 rfl (kr hk343) (fun w' hw' => r_mv (v := .int .i64 _) rfl) <| Ak 8 rfl (kr hk343) (fun w' hw' => r_build (vs := [(0, .int .i64 id), (1, .int .i64 r)]) rfl (bld129_0_1 _ _)) <| Ak 11 rfl (kr hk343) (fun w' hw' => fA fa34_1 rfl) <| Ak 12 rfl (kr hk343) (fun w' hw' => r_ld (v := .slice Ax2 nx2 cx2) sca32 rfl ((hm77.kn hw' (by omega)).cell rfl)) <| Ak 13 rfl (kr hk343) (fun w' hw' => r_mv (v := .int .i64 _) rfl) <| Ak 14 rfl (kr hk343) (fun w' hw' => r_cutl (l := k) tsl32 rfl rfl rfl (by omega)) <| AH.br [0, 9] (by kernel_rfl) rfl ⟨Br.mk' rfl trivial ?_, Br.mk' rfl trivial ?_, trivial⟩
    ·refine SR.lit (vs := []) (L := ([] : List Away)) (enc := encAway) tel32 (fun _ => rfl) rfl rfl rfl (by decide) ?_
     intro g419 w420 hg421 hk422 hO423
     have hz424 := hk422.size
     have hS426 := ((Kp.refl w71 : Kp (fun b_ => b_ = g61) w71 w71).lo hk343).lo hk422
     refine Qn ⟨hS426, _, rfl, (AH.br [5, 9] (by kernel_rfl) rfl ⟨Br.mk' rfl trivial ?_, Br.mk' rfl trivial ?_, trivial⟩)⟩
     ·refine SR.app tel32 rfl rfl hO423 (((hm79.head (h := k) (by omega)).lo hk343).lo hk422) (fun _ => rfl) (by omega) (by omega) ?_
      intro A429 c430 w431 hk432 hO433 hN434
      have hz435 := hk432.size
      have hS437 := hS426.step hk432 (fun i_ hi_ e' => by have := hO423.base_le e'; omega)
      rw [List.nil_append] at hO433
      refine Qn ⟨hS437, _, rfl, (Ab 9 rfl (SR.lit (vs := [.agg (List.toArray [.int .i64 id, .int .i64 r])]) (L := ([(⟨id, r⟩ : Away)] : List Away)) (enc := encAway) tel32 (fun _ => rfl) rfl rfl rfl (by decide) ?_))⟩
      intro g443 w444 hg445 hk446 hO447
      have hz448 := hk446.size
      have hS450 := hS437.lo hk446
      have hd451 := SlO.ne (g := g443) (((hm81.lo hk343).lo hk422).kp hk432 (fun b_ hb e' => by have h1 := hO423.base_le e'; have h2 := ((hm81.lo hk343).lo hk422).base_le hb; have h3 := (hm81.lo hk343).base_le hb; omega))
      have hd452 := SlO.ne (g := g443) (((hm82.lo hk343).lo hk422).kp hk432 (fun b_ hb e' => by have h1 := hO423.base_le e'; have h2 := ((hm82.lo hk343).lo hk422).base_le hb; have h3 := (hm82.lo hk343).base_le hb; omega))
      refine Qn ⟨hS450, _, rfl, (AH.goto (by kernel_rfl) rfl (hn346 _ _ (⟨g419, A429, c430, g443, (At.r rfl), hS450, ((hO433.lo hk446).down), (hO447.down), ((((hb74.lo hk343).lo hk422).kp hk432 (fun e' => by have := hO423.base_le e'; omega)).lo hk446), (fun b_ h h' => by have h1 := (hO433.lo hk446).base_le h; have h2 := (hm81.lo hk343).base_le h'; omega), (fun b_ h h' => by have h1 := (hO433.lo hk446).base_le h; have h2 := (hm82.lo hk343).base_le h'; omega), (fun b_ h h' => (SlO.ne (g := g443) hO433) (h.trans h'.symm)), (fun b_ h h' => hd451 (h'.trans h.symm)), (fun b_ h h' => hd452 (h'.trans h.symm))⟩)))⟩
     ·refine SR.lit (vs := [.agg (List.toArray [.int .i64 id, .int .i64 r])]) (L := ([(⟨id, r⟩ : Away)] : List Away)) (enc := encAway) tel32 (fun _ => rfl) rfl rfl rfl (by decide) ?_
      intro g459 w460 hg461 hk462 hO463
      have hz464 := hk462.size
      have hS466 := hS426.lo hk462
      refine Qn ⟨hS466, _, rfl, (AH.goto (by kernel_rfl) rfl (hn392 _ _ (⟨g419, g459, (At.r rfl), hS466, ((hO423.lo hk462).down), (hO463.down), (((hb74.lo hk343).lo hk422).lo hk462), (fun b_ h h' => (SlO.ne (g := g419) (hm81.lo hk343)) (h'.trans h.symm)), (fun b_ h h' => (SlO.ne (g := g419) (hm82.lo hk343)) (h'.trans h.symm)), (fun b_ h h' => (SlO.ne (g := g459) hO423) (h.trans h'.symm)), (fun b_ h h' => (SlO.ne (g := g459) ((hm81.lo hk343).lo hk422)) (h'.trans h.symm)), (fun b_ h h' => (SlO.ne (g := g459) ((hm82.lo hk343).lo hk422)) (h'.trans h.symm))⟩)))⟩
    ·refine SR.lit (vs := [.agg (List.toArray [.int .i64 id, .int .i64 r])]) (L := ([(⟨id, r⟩ : Away)] : List Away)) (enc := encAway) tel32 (fun _ => rfl) rfl rfl rfl (by decide) ?_
     intro g475 w476 hg477 hk478 hO479
     have hz480 := hk478.size
     have hS482 := ((Kp.refl w71 : Kp (fun b_ => b_ = g61) w71 w71).lo hk343).lo hk478
     refine Qn ⟨hS482, _, rfl, (Ab 0 rfl (SR.lit (vs := []) (L := ([] : List Away)) (enc := encAway) tel32 (fun _ => rfl) rfl rfl rfl (by decide) ?_))⟩
     intro g485 w486 hg487 hk488 hO489
     have hz490 := hk488.size
     have hS492 := hS482.lo hk488
     refine Qn ⟨hS492, _, rfl, (AH.goto (by kernel_rfl) rfl (hn392 _ _ (⟨g485, g475, (At.r rfl), hS492, (hO489.down), ((hO479.lo hk488).down), (((hb74.lo hk343).lo hk478).lo hk488), (fun b_ h h' => (SlO.ne (g := g485) ((hm81.lo hk343).lo hk478)) (h'.trans h.symm)), (fun b_ h h' => (SlO.ne (g := g485) ((hm82.lo hk343).lo hk478)) (h'.trans h.symm)), (fun b_ h h' => (SlO.ne (g := g485) hO479) (h'.trans h.symm)), (fun b_ h h' => (SlO.ne (g := g475) (hm81.lo hk343)) (h'.trans h.symm)), (fun b_ h h' => (SlO.ne (g := g475) (hm82.lo hk343)) (h'.trans h.symm))⟩)))⟩
   rintro f501 w502 ⟨g183, A234, c235, A253, c254, A197, c198, g215, hat504, hR503, hm279, hm280, hd281, hd282⟩
   rw [← sets_of_at hat504]
   have hz505 := hR503.size
   refine Ws (Wr (Q (lG agg34 rfl hm280 rfl) <| Qw (o := 0) (vs := [.slice A46 n47 c48, .slice A253 (((0 + k) + 1) + (nx2 - k)) c254, .int .i64 x.Bought, .int .i64 x.Dropped, .int .i64 x.Mended]) agg34.2 rfl rfl rfl rfl (((((hm26.lo hk38).lo hk45).lo hk64).kn hk72).kn hR503 (by omega)) ler rfl ?_))
   intro w507 hk508 hs509 hb510
   refine Qn (W.ret (retC rfl rfl agg34 hb510 rfl ?_))
   refine ⟨A46, n47, c48, A253, ((0 + k) + 1) + (nx2 - k), c254, eR (eA (eC rfl (eC rfl (eC (eI ?_) (eC (eI ?_) (eC (eI ?_) rfl)))))), (SlO.eqv (((hm81.kd hR503 hd69).kn hk508).down) ?_), (SlO.eqv ((hm279.kn hk508).down) ?_), (fun b_ h h' => hd281 b_ h' h), (((((hB40.lo hk45).lo hk64).new hk72).new hR503 (by omega)).new hk508)⟩ <;> (first | rfl | (show _ = insAt x.Away _ _; unfold insAt; rw [← loopA_end (t := ⟨id, r⟩) (And.right ‹_ ∧ ∀ j, _ → cmpA _ _ < 0›) (by omega) (by unfold lexlt; dsimp only; omega)]))
theorem c_spec_l32Back (w : World) (x : Library) {Ax1 : Option Addr} {nx1 cx1 Bx1 : Nat} (hx1 : SlR w Bx1 encLMap 3 Ax1 nx1 cx1 x.Maps) {Ax2 : Option Addr} {nx2 cx2 Bx2 : Nat} (hx2 : SlR w Bx2 encAway 2 Ax2 nx2 cx2 x.Away) (a : Int) (hp0 : (nx1 : Int) ≤ 100) (hp1 : (nx2 : Int) ≤ 100) (hp2 : 0 ≤ a ∧ a < (nx2 : Int)) : Calls Tryz.prog 194 #[.agg (List.toArray (cLb Ax1 nx1 cx1 Ax2 nx2 cx2 x)), .int .i64 a] w fun e w' => ∃ (A1' : Option Addr) (n1' c1' : Nat) (A2' : Option Addr) (n2' c2' : Nat), e = .returned (.agg (List.toArray [.slice A1' n1' c1', .slice A2' n2' c2', .int .i64 ((backN x a).Bought), .int .i64 ((backN x a).Dropped), .int .i64 ((backN x a).Mended)])) ∧ SlO w' w.heap.size encLMap 3 102 A1' n1' c1' ((backN x a).Maps) ∧ SlO w' w.heap.size encAway 2 129 A2' n2' c2' ((backN x a).Away) ∧ Dj A1' A2' ∧ Lo w w' := by
 refine calls_W 22 Tryz.func194 rfl rfl rfl ?_
 have hbdx1 := hx1.bound
 have hlex1 := hx1.len
 have hBbx1 := hx1.bd
 have hbdx2 := hx2.bound
 have hlex2 := hx2.len
 have hBbx2 := hx2.bd
 refine Ws (Wr (SR.box (v := .agg (List.toArray _)) (l := (cLb Ax1 nx1 cx1 Ax2 nx2 cx2 x)) rfl rfl ?_))
 intro g1 w2 hg3 hk4 hs5 hb6
 refine SR.alloc (l := [.slice none 0 0, .slice none 0 0, .int .i64 0, .int .i64 0, .int .i64 0]) tz34 rfl ?_
 intro g9 w10 hg11 hk12 hs13 hb14
 refine Qn (Ws ?_)
 have hm18 := (hx2.lo hk4).lo hk12
 refine Wr (Q (lG agg34 rfl (hb6.lo hk12) rfl) <| SR.call ent79 (c_spec_l32Own w10 x ((hx1.lo hk4).lo hk12) hm18 (by omega) (by omega)) rfl ?_)
 rintro e w19 ⟨A21, n22, c23, A25, n26, c27, rfl, hO24, hO28, hd29, hk20⟩
 refine ⟨_, rfl, ?_⟩
 have hz30 := hk20.size
 have hl32 := hO24.len
 have hl33 := hO24.rd.bound
 have hl34 := hO28.len
 have hl35 := hO28.rd.bound
 refine SR.alloc (l := [.slice none 0 0, .slice none 0 0, .int .i64 0, .int .i64 0, .int .i64 0]) tz34 rfl ?_
 intro g36 w37 hg38 hk39 hs40 hb41
 have hd44 := SlO.ne (g := g36) hO24
 refine Qw (o := 0) (vs := (cLb A21 n22 c23 A25 n26 c27 x)) agg34.2 rfl rfl rfl rfl hb41 ler rfl ?_
 intro w46 hk47 hs48 hb49
 refine Qn (Ws ?_)
 have hm52 := (((hb6.lo hk12).lo hk20).lo hk39).kn hk47
 have hm54 := ((hm18.lo hk20).lo hk39).kn hk47
 have hm56 := (hO24.lo hk39).kd hk47 hd44
 refine W.regA (Kp (fun b_ => b_ = g36) w46) (fun f' w' => ∃ (g111 : Nat) (A138 : Option Addr) (c139 : Nat) (A125 : Option Addr) (c126 : Nat), At f' [(4, .pointer (pA g9)), (5, .pointer (pA g36))] ∧ (Kp (fun b_ => b_ = g36) w46 w') ∧ (SlO w' w46.heap.size encAway 2 129 A138 ((0 + a.toNat) + (nx2 - ((a + 1).toNat))) c139 ((x.Away.take a.toNat) ++ (x.Away.drop ((a + 1).toNat)))) ∧ (Blk w' g36 34 [.slice A21 n22 c23, .slice A138 ((0 + a.toNat) + (nx2 - ((a + 1).toNat))) c139, .int .i64 x.Bought, .int .i64 x.Dropped, .int .i64 x.Mended]) ∧ Dj A138 A21 ∧ Dj A138 A25) mo ?_ ?_
 ·intro w162 hk163
  have hz164 := hk163.size
  refine Ak 1 rfl (kr hk163) (fun w' hw' => fA fa34_1 rfl) <| Ak 2 rfl (kr hk163) (fun w' hw' => r_ld (v := .slice Ax2 nx2 cx2) sca32 rfl ((hm52.kn hw' (by omega)).cell rfl)) <| Ak 3 rfl (kr hk163) (fun w' hw' => r_mv (v := .int .i64 _) rfl) <| Ak 4 rfl (kr hk163) (fun w' hw' => r_cuth (h := a.toNat) tsl32 rfl rfl (by omega) (Nat.le_trans (by omega : a.toNat ≤ nx2) hm54.cap)) <| Ak 6 rfl (kr hk163) (fun w' hw' => fA fa34_1 rfl) <| Ak 7 rfl (kr hk163) (fun w' hw' => r_ld (v := .slice Ax2 nx2 cx2) sca32 rfl ((hm52.kn hw' (by omega)).cell rfl)) <| Ak 8 rfl (kr hk163) (fun w' hw' => r_mv (v := .int .i64 _) rfl) <| Ak 9 rfl (kr hk163) (fun w' hw' => r_add rfl rfl (by omega)) <| Ak 10 rfl (kr hk163) (fun w' hw' => r_cutl (l := (a + 1).toNat) tsl32 rfl rfl (by omega) (by omega)) <| Ab 0 rfl (SR.lit (vs := []) (L := ([] : List Away)) (enc := encAway) tel32 (fun _ => rfl) rfl rfl rfl (by decide) ?_)
  intro g166 w167 hg168 hk169 hO170
  have hz171 := hk169.size
  have hS173 := ((Kp.refl w46 : Kp (fun b_ => b_ = g36) w46 w46).lo hk163).lo hk169
  refine Qn ⟨hS173, _, rfl, (Ab 5 rfl (SR.app tel32 rfl rfl hO170 (((hm54.head (h := a.toNat) (by omega)).lo hk163).lo hk169) (fun _ => rfl) (by omega) (by omega) ?_))⟩
  intro A176 c177 w178 hk179 hO180 hN181
  have hz182 := hk179.size
  have hS184 := hS173.step hk179 (fun i_ hi_ e' => by have := hO170.base_le e'; omega)
  rw [List.nil_append] at hO180
  refine Qn ⟨hS184, _, rfl, (Ab 11 rfl (SR.app tel32 rfl rfl hO180 ((((hm54.cutl (l := (a + 1).toNat) (by omega)).lo hk163).lo hk169).kp hk179 (fun b_ hb e' => by have := hO170.base_le e'; omega)) (fun _ => rfl) (by omega) (by omega) ?_))⟩
  intro A185 c186 w187 hk188 hO189 hN190
  have hz191 := hk188.size
  have hS193 := hS184.step hk188 (fun i_ hi_ e' => by have := hO180.base_le e'; omega)
  refine Qn ⟨hS193, _, rfl, (Ak 12 rfl hS193 (fun w' hw' => fA fa34_1 rfl) <| Ab 13 rfl (Qw (o := 1) (vs := [.slice A185 ((0 + a.toNat) + (nx2 - ((a + 1).toNat))) c186]) sca32.2 rfl rfl rfl rfl ((((hb49.lo hk163).lo hk169).kp hk179 (fun e' => by have := hO170.base_le e'; omega)).kp hk188 (fun e' => by have := hO180.base_le e'; omega)) ler rfl ?_))⟩
  intro w194 hk195 hs196 hb197
  have hS200 := hS193.step hk195 (fun _ _ e => e)
  refine Qn ⟨hS200, _, rfl, (AH.done (by kernel_rfl) (⟨g166, A185, c186, A176, c177, ⟨rfl, rfl, trivial⟩, hS200, ((hO189.kn hk195).down), hb197, (fun b_ h h' => by have h1 := (hO189.kn hk195).base_le h; have h2 := (hm56.lo hk163).base_le h'; omega), (fun b_ h h' => by have h1 := (hO189.kn hk195).base_le h; have h2 := (((hO28.lo hk39).kd hk47 (SlO.ne (g := g36) hO28)).lo hk163).base_le h'; omega)⟩))⟩
 rintro f203 w204 ⟨g111, A138, c139, A125, c126, hat206, hR205, hm158, hm159, hd160, hd161⟩
 rw [← sets_of_at hat206]
 have hz207 := hR205.size
 refine Ws (Wr (Q (lG agg34 rfl hm159 rfl) <| Qw (o := 0) (vs := [.slice A21 n22 c23, .slice A138 ((0 + a.toNat) + (nx2 - ((a + 1).toNat))) c139, .int .i64 x.Bought, .int .i64 x.Dropped, .int .i64 x.Mended]) agg34.2 rfl rfl rfl rfl ((((hb14.lo hk20).lo hk39).kn hk47).kn hR205 (by omega)) ler rfl ?_))
 intro w209 hk210 hs211 hb212
 refine Qn (W.ret (retC rfl rfl agg34 hb212 rfl ?_))
 refine ⟨A21, n22, c23, A138, (0 + a.toNat) + (nx2 - ((a + 1).toNat)), c139, eR (eA (eC rfl (eC rfl (eC (eI ?_) (eC (eI ?_) (eC (eI ?_) rfl)))))), (SlO.eqv (((hm56.kd hR205 hd44).kn hk210).down) ?_), (SlO.eqv ((hm158.kn hk210).down) ?_), (fun b_ h h' => hd160 b_ h' h), ((((((((Lo.refl w).lo hk4).lo hk12).lo hk20).lo hk39).new hk47).new hR205 (by omega)).new hk210)⟩ <;> (first | rfl | (unfold backN delAt; dsimp only; first | rfl | (rw [show (a + 1).toNat = a.toNat + 1 by omega]; done) | (rw [show (a + 1).toNat = a.toNat + 1 by omega, List.nil_append])))
end Go.Proofs.YtndcchndcghmoaaGreatDoor
namespace Go.Proofs.YtndcchndcghmoaaGreatDoor
open Go Go.RowKit Fw
set_option maxRecDepth 10000
set_option maxHeartbeats 2000000
set_option linter.unusedVariables false
theorem bld102_0_1_2 (a0 : Int) (a1 : Int) (a2 : Int) : Tryz.prog.built 102 [(0, .int .i64 a0), (1, .int .i64 a1), (2, .int .i64 a2)] = some (List.toArray [.int .i64 a0, .int .i64 a1, .int .i64 a2]) := by kernel_rfl
theorem ent114 : Ent Tryz.prog 114 := en Tryz.func114
theorem ent115 : Ent Tryz.prog 115 := en Tryz.func115
theorem ent166 : Ent Tryz.prog 166 := en Tryz.func166
theorem ent167 : Ent Tryz.prog 167 := en Tryz.func167
theorem ent168 : Ent Tryz.prog 168 := en Tryz.func168
theorem ent192 : Ent Tryz.prog 192 := en Tryz.func192
theorem ent193 : Ent Tryz.prog 193 := en Tryz.func193
theorem ent194 : Ent Tryz.prog 194 := en Tryz.func194
open Classical in
noncomputable def spec_l32Readers (x : Library) (s : LibraryStep) (i : Int) : Library × Bool :=
 if s.Kind = 2 then ((⟨((goneN x s.Id s.Reader).Maps).set i.toNat ({ (gt ((goneN x s.Id s.Reader).Maps) i.toNat) with Copies := ((gt x.Maps i.toNat).Copies) - 1 }), (goneN x s.Id s.Reader).Away, (goneN x s.Id s.Reader).Bought, (goneN x s.Id s.Reader).Dropped, (goneN x s.Id s.Reader).Mended⟩ : Library), decide (((idxF (isA s.Id s.Reader) x.Away) < 0) ∧ (((gt x.Maps i.toNat).Torn) < ((gt x.Maps i.toNat).Copies)))) else if (idxF (isA s.Id s.Reader) x.Away) < 0 then (x, false) else if s.Kind = 5 then ((goneN (backN x (idxF (isA s.Id s.Reader) x.Away)) s.Id s.Value), decide ((idxF (isA s.Id s.Value) x.Away) < 0)) else ((⟨((backN x (idxF (isA s.Id s.Reader) x.Away)).Maps).set i.toNat ({ ({ (gt ((backN x (idxF (isA s.Id s.Reader) x.Away)).Maps) i.toNat) with Copies := ((gt x.Maps i.toNat).Copies) + 1 }) with Torn := ((gt x.Maps i.toNat).Torn) + s.Value }), (backN x (idxF (isA s.Id s.Reader) x.Away)).Away, (backN x (idxF (isA s.Id s.Reader) x.Away)).Bought, (backN x (idxF (isA s.Id s.Reader) x.Away)).Dropped, (backN x (idxF (isA s.Id s.Reader) x.Away)).Mended⟩ : Library), true)
theorem c_spec_l32Readers (w : World) (x : Library) {Ax1 : Option Addr} {nx1 cx1 Bx1 : Nat} (hx1 : SlR w Bx1 encLMap 3 Ax1 nx1 cx1 x.Maps) {Ax2 : Option Addr} {nx2 cx2 Bx2 : Nat} (hx2 : SlR w Bx2 encAway 2 Ax2 nx2 cx2 x.Away) (s : LibraryStep) (i : Int) (hp0 : LibOK x) (hp1 : 0 ≤ i ∧ i < (nx1 : Int)) (hp2 : 0 ≤ s.Value ∧ s.Value ≤ 999) : Calls Tryz.prog 168 #[.agg (List.toArray (cLb Ax1 nx1 cx1 Ax2 nx2 cx2 x)), .agg (List.toArray (encLibraryStep s)), .int .i64 i] w fun e w' => ∃ (A1' : Option Addr) (n1' c1' : Nat) (A2' : Option Addr) (n2' c2' : Nat), e = .returned (.tuple (List.toArray [.agg (List.toArray [.slice A1' n1' c1', .slice A2' n2' c2', .int .i64 (((spec_l32Readers x s i).1).Bought), .int .i64 (((spec_l32Readers x s i).1).Dropped), .int .i64 (((spec_l32Readers x s i).1).Mended)]), .bool ((spec_l32Readers x s i).2)])) ∧ SlO w' w.heap.size encLMap 3 102 A1' n1' c1' (((spec_l32Readers x s i).1).Maps) ∧ SlO w' w.heap.size encAway 2 129 A2' n2' c2' (((spec_l32Readers x s i).1).Away) ∧ Dj A1' A2' ∧ Lo w w' := by
 refine calls_W 92 Tryz.func168 rfl rfl rfl ?_
 have hbdx1 := hx1.bound
 have hlex1 := hx1.len
 have hBbx1 := hx1.bd
 have hbdx2 := hx2.bound
 have hlex2 := hx2.len
 have hBbx2 := hx2.bd
 have hlb := lib_rng hp0
 refine Ws (Wr (SR.box (v := .agg (List.toArray _)) (l := (cLb Ax1 nx1 cx1 Ax2 nx2 cx2 x)) rfl rfl ?_))
 intro g1 w2 hg3 hk4 hs5 hb6
 refine SR.box (v := .agg (List.toArray _)) (l := [.int .i64 s.Kind, .int .i64 s.Id, .int .i64 s.Reader, .int .i64 s.Value]) rfl rfl ?_
 intro g9 w10 hg11 hk12 hs13 hb14
 refine SR.alloc (l := [.slice none 0 0, .slice none 0 0, .int .i64 0, .int .i64 0, .int .i64 0]) tz34 rfl ?_
 intro g17 w18 hg19 hk20 hs21 hb22
 refine Q (aB rfl) <| Qn (Ws ?_)
 have hm25 := (hb6.lo hk12).lo hk20
 have hm26 := ((hx1.lo hk4).lo hk12).lo hk20
 have hm27 := ((hx2.lo hk4).lo hk12).lo hk20
 refine W.regA (Lo w18) (fun f' w' => ∃ (g41 : Nat), At f' [(2, .int .i64 i), (3, .pointer (pA g1)), (4, .pointer (pA g9)), (6, .pointer (pA g17)), (7, .bool false), (8, .int .i64 (idxF (isA s.Id s.Reader) x.Away)), (9, .pointer (pA g41))] ∧ (Lo w18 w') ∧ (Blk w' g41 102 [.int .i64 ((gt x.Maps i.toNat).Id), .int .i64 ((gt x.Maps i.toNat).Copies), .int .i64 ((gt x.Maps i.toNat).Torn)]) ∧ (w18.heap.size ≤ g41 ∧ g41 < w'.heap.size) ∧ (x.Maps[i.toNat]? = some (gt x.Maps i.toNat)) ∧ (((1 : Int) ≤ (gt x.Maps i.toNat).Id ∧ (gt x.Maps i.toNat).Id ≤ 99) ∧ ((0 : Int) ≤ (gt x.Maps i.toNat).Copies ∧ (gt x.Maps i.toNat).Copies ≤ 99) ∧ ((0 : Int) ≤ (gt x.Maps i.toNat).Torn ∧ (gt x.Maps i.toNat).Torn ≤ (gt x.Maps i.toNat).Copies)) ∧ (idxF (isA s.Id s.Reader) x.Away < (x.Away.length : Int) ∧ -1 ≤ idxF (isA s.Id s.Reader) x.Away)) mo ?_ ?_
 ·intro w78 hk79
  have hz80 := hk79.size
  refine AH.via #[true, true, true, true, true, true, true, true, true, true, true, true, true, false] 1 (fun f' w' => ∃ (g41 : Nat), At f' [(2, .int .i64 i), (3, .pointer (pA g1)), (4, .pointer (pA g9)), (6, .pointer (pA g17)), (7, .bool false), (8, .int .i64 (idxF (isA s.Id s.Reader) x.Away)), (9, .pointer (pA g41)), (22, .agg (List.toArray (encLMap (gt x.Maps i.toNat))))] ∧ (Lo w18 w') ∧ (Blk w' g41 102 [.int .i64 0, .int .i64 0, .int .i64 0]) ∧ (w18.heap.size ≤ g41 ∧ g41 < w'.heap.size) ∧ (x.Maps[i.toNat]? = some (gt x.Maps i.toNat)) ∧ (((1 : Int) ≤ (gt x.Maps i.toNat).Id ∧ (gt x.Maps i.toNat).Id ≤ 99) ∧ ((0 : Int) ≤ (gt x.Maps i.toNat).Copies ∧ (gt x.Maps i.toNat).Copies ≤ 99) ∧ ((0 : Int) ≤ (gt x.Maps i.toNat).Torn ∧ (gt x.Maps i.toNat).Torn ≤ (gt x.Maps i.toNat).Copies)) ∧ (idxF (isA s.Id s.Reader) x.Away < (x.Away.length : Int) ∧ -1 ≤ idxF (isA s.Id s.Reader) x.Away)) ?_ (fun hn82 => ?_)
  ·rintro f83 w84 ⟨g41, hat86, hR85, hm50, hg51, hx33, hq34, hq40⟩
   rw [← sets_of_at hat86]
   have hz87 := hR85.size
   refine Ab 13 rfl (Qw (o := 0) (vs := [.int .i64 ((gt x.Maps i.toNat).Id), .int .i64 ((gt x.Maps i.toNat).Copies), .int .i64 ((gt x.Maps i.toNat).Torn)]) agg102.2 rfl rfl rfl rfl hm50 ler rfl ?_)
   intro w89 hk90 hs91 hb92
   have hS95 := hR85.new hk90
   refine Qn ⟨hS95, _, rfl, (AH.done (by kernel_rfl) (⟨g41, (At.r rfl), hS95, hb92, ⟨by omega, hb92.lt⟩, hx33, hq34, hq40⟩))⟩
  refine Ak 0 rfl hk79 (fun w' hw' => r_lda (l := (cLb Ax1 nx1 cx1 Ax2 nx2 cx2 x)) agg34 rfl (fun _ _ hu => (hm25.lo hw').cell hu) rfl) <| Ak 1 rfl hk79 (fun w' hw' => fA fa106_1 rfl) <| Ak 2 rfl hk79 (fun w' hw' => r_ld (v := .int .i64 s.Id) sca3 rfl (((hb14.lo hk20).lo hw').cell rfl)) <| Ak 3 rfl hk79 (fun w' hw' => fA fa106_2 rfl) <| Ak 4 rfl hk79 (fun w' hw' => r_ld (v := .int .i64 s.Reader) sca3 rfl (((hb14.lo hk20).lo hw').cell rfl)) <| Ak 6 rfl hk79 (fun w' hw' => fA fa34_0 rfl) <| Ak 7 rfl hk79 (fun w' hw' => r_ld (v := .slice Ax1 nx1 cx1) sca31 rfl ((hm25.lo hw').cell rfl)) <| Ak 8 rfl hk79 (fun w' hw' => r_mv (v := .int .i64 _) rfl) <| ?_
  have hx98 := (hm26.lo hk79).elem (i := i.toNat) (by omega)
  have hq99 := maps_rng hp0.1.1 hx98
  refine Ak 9 rfl hk79 (fun w' hw' => r_ixR tsl31 (hm26.lo hw') rfl rfl (by omega)) <| Ak 10 rfl hk79 (fun w' hw' => r_lda (l := encLMap (gt x.Maps i.toNat)) agg102 rfl (fun _ _ hu => (hm26.lo hw').cell hx98 hu) ((hm26.lo hw').esz _)) <| AH.br [5, 11] (by kernel_rfl) rfl ⟨Br.mk' rfl trivial ?_, Br.mk' rfl trivial ?_, trivial⟩
  ·refine Qv ent192 (c_spec_l32Away w78 x (hm26.lo hk79) (hm27.lo hk79) s.Id s.Reader) rfl fun w100 hk101 hz102 => ?_
   have hS104 := hk79.lo hk101
   have hq105 : idxF (isA s.Id s.Reader) x.Away < (x.Away.length : Int) ∧ -1 ≤ idxF (isA s.Id s.Reader) x.Away := idx_lt
   refine Qn ⟨hS104, _, rfl, (Ab 11 rfl (SR.alloc (l := [.int .i64 0, .int .i64 0, .int .i64 0]) tz102 rfl ?_))⟩
   intro g106 w107 hg108 hk109 hs110 hb111
   have hS114 := hS104.lo hk109
   refine Qn ⟨hS114, _, rfl, (Ak 12 rfl hS114 (fun w' hw' => r_as (v := .int .i64 _) rfl) <| AH.goto (by kernel_rfl) rfl (hn82 _ _ (⟨g106, (At.r rfl), hS114, hb111, ⟨by omega, hb111.lt⟩, hx98, hq99, hq105⟩)))⟩
  ·refine SR.alloc (l := [.int .i64 0, .int .i64 0, .int .i64 0]) tz102 rfl ?_
   intro g116 w117 hg118 hk119 hs120 hb121
   have hS124 := hk79.lo hk119
   refine Qn ⟨hS124, _, rfl, (Ab 5 rfl (Qv ent192 (c_spec_l32Away w117 x ((hm26.lo hk79).lo hk119) ((hm27.lo hk79).lo hk119) s.Id s.Reader) rfl fun w125 hk126 hz127 => ?_))⟩
   have hS129 := hS124.lo hk126
   have hq130 : idxF (isA s.Id s.Reader) x.Away < (x.Away.length : Int) ∧ -1 ≤ idxF (isA s.Id s.Reader) x.Away := idx_lt
   refine Qn ⟨hS129, _, rfl, (Ak 12 rfl hS129 (fun w' hw' => r_as (v := .int .i64 _) rfl) <| AH.goto (by kernel_rfl) rfl (hn82 _ _ (⟨g116, (At.r rfl), hS129, (hb121.lo hk126), ⟨by omega, (hb121.lo hk126).lt⟩, hx98, hq99, hq130⟩)))⟩
 rintro f132 w133 ⟨g41, hat135, hR134, hm59, hg60, hx33, hq34, hq40⟩
 rw [← sets_of_at hat135]
 have hz136 := hR134.size
 have hB137 := ((((Lo.refl w).lo hk4).lo hk12).lo hk20).lo hR134
 refine Ws (Ws ?_)
 have hm138 := (hb14.lo hk20).lo hR134
 refine Wr (Q (fA fa106_0 rfl) <| Q (lB sca3 rfl hm138 rfl) <| Q (r_eq rfl rfl) <| Qn (W.cond_d rfl (fun h139 => ?_) (fun h139 => ?_)))
 ·refine Ws (Wr (Q (lG agg34 rfl (hm25.lo hR134) rfl) <| Q (fA fa106_1 rfl) <| Q (lB sca3 rfl hm138 rfl) <| Q (fA fa106_2 rfl) <| Q (lB sca3 rfl hm138 rfl) <| SR.call ent193 (c_spec_l32Gone w133 x (hm26.lo hR134) (hm27.lo hR134) s.Id s.Reader (by omega) (by omega)) rfl ?_))
  rintro e w140 ⟨A142, n143, c144, A146, n147, c148, rfl, hO145, hO149, hd150, hk141⟩
  refine ⟨_, rfl, ?_⟩
  have hz151 := hk141.size
  have hl153 := hO145.len
  have hl154 := hO145.rd.bound
  have hq155 := gone_lenMaps x s.Id s.Reader
  have hl156 := hO149.len
  have hl157 := hO149.rd.bound
  have hq158 := gone_lenAway x s.Id s.Reader
  refine SR.alloc (l := [.slice none 0 0, .slice none 0 0, .int .i64 0, .int .i64 0, .int .i64 0]) tz34 rfl ?_
  intro g159 w160 hg161 hk162 hs163 hb164
  have hd167 := SlO.ne (g := g159) hO145
  refine Qw (o := 0) (vs := [.slice A142 n143 c144, .slice A146 n147 c148, .int .i64 ((goneN x s.Id s.Reader).Bought), .int .i64 ((goneN x s.Id s.Reader).Dropped), .int .i64 ((goneN x s.Id s.Reader).Mended)]) agg34.2 rfl rfl rfl rfl hb164 ler rfl ?_
  intro w169 hk170 hs171 hb172
  refine Qn (Ws ?_)
  have hm179 := (((hb22.lo hR134).lo hk141).lo hk162).kn hk170
  have hm180 := ((hm59.lo hk141).lo hk162).kn hk170
  have hm181 := (hO145.lo hk162).kd hk170 hd167
  refine Wr (Q (fA fa34_0 rfl) <| Q (lB sca31 rfl hb172 rfl) <| Q (mI rfl) <| Q (fA fa102_1 rfl) <| Q (lB sca3 rfl hm180 rfl) <| Q (r_sub rfl rfl (by omega)) <| ?_)
  have hx184 := (hm181.rd).elem (i := i.toNat) (by omega)
  have hq185 := maps_rng hp0.1.1 hx184
  refine Q (r_ixR tsl31 (hm181.rd) rfl rfl (by omega)) <| Q (fA fa102_1 rfl) <| SR.storeO (o := 1) (vs := [.int .i64 (((gt x.Maps i.toNat).Copies) - 1)]) (x1 := { (gt ((goneN x s.Id s.Reader).Maps) i.toNat) with Copies := ((gt x.Maps i.toNat).Copies) - 1 }) sca3.2 rfl (add_add _ _ _) rfl rfl hm181 hx184 rfl ler rfl ?_
  intro w186 hk187 hs188 hO189
  have hz190 := hk187.size
  have hx192 : (((goneN x s.Id s.Reader).Maps).set i.toNat ({ (gt ((goneN x s.Id s.Reader).Maps) i.toNat) with Copies := ((gt x.Maps i.toNat).Copies) - 1 }))[i.toNat]? = some ({ (gt ((goneN x s.Id s.Reader).Maps) i.toNat) with Copies := ((gt x.Maps i.toNat).Copies) - 1 }) := List.getElem?_set_self (List.getElem?_eq_some_iff.1 hx184).1
  refine Qn (Ws (W.regA (Kp (fun b_ => b_ = g17) w186) (fun f' w' => At f' [(2, .int .i64 i), (3, .pointer (pA g1)), (4, .pointer (pA g9)), (6, .pointer (pA g17)), (7, .bool (decide (((idxF (isA s.Id s.Reader) x.Away) < 0) ∧ (((gt x.Maps i.toNat).Torn) < ((gt x.Maps i.toNat).Copies))))), (8, .int .i64 (idxF (isA s.Id s.Reader) x.Away)), (9, .pointer (pA g41))] ∧ (Kp (fun b_ => b_ = g17) w186 w') ∧ (Blk w' g17 34 [.slice A142 n143 c144, .slice A146 n147 c148, .int .i64 ((goneN x s.Id s.Reader).Bought), .int .i64 ((goneN x s.Id s.Reader).Dropped), .int .i64 ((goneN x s.Id s.Reader).Mended)])) mo ?_ ?_))
  ·intro w203 hk204
   have hz205 := hk204.size
   refine Ak 0 rfl (kr hk204) (fun w' hw' => r_lda (l := [.slice A142 n143 c144, .slice A146 n147 c148, .int .i64 ((goneN x s.Id s.Reader).Bought), .int .i64 ((goneN x s.Id s.Reader).Dropped), .int .i64 ((goneN x s.Id s.Reader).Mended)]) agg34 rfl (fun _ _ hu => ((hb172.kp hk187 (fun e' => hd167 e')).kn hw' (by omega)).cell hu) rfl) <| Ak 1 rfl (kr hk204) (fun w' hw' => r_mv (v := .int .i64 _) rfl) <| Ak 2 rfl (kr hk204) (fun w' hw' => r_lt rfl rfl) <| Ak 3 rfl (kr hk204) (fun w' hw' => r_mv (v := .bool _) rfl) <| AH.splitD (fun h207 => ?_) (fun h207 => ?_)
   ·refine AH.take 4 rfl (by kernel_rfl) rfl (kr hk204) (fun w' hw' => fA fa102_1 rfl) <| AH.take 5 rfl (by kernel_rfl) rfl (kr hk204) (fun w' hw' => r_ld (v := .int .i64 ((gt x.Maps i.toNat).Copies)) sca3 rfl (((hm180.kp hk187 (fun e' => by have := hm181.base_le e'; omega)).kn hw' (by omega)).cell rfl)) <| AH.take 6 rfl (by kernel_rfl) rfl (kr hk204) (fun w' hw' => fA fa102_2 rfl) <| AH.take 7 rfl (by kernel_rfl) rfl (kr hk204) (fun w' hw' => r_ld (v := .int .i64 ((gt x.Maps i.toNat).Torn)) sca3 rfl (((hm180.kp hk187 (fun e' => by have := hm181.base_le e'; omega)).kn hw' (by omega)).cell rfl)) <| AH.take 8 rfl (by kernel_rfl) rfl (kr hk204) (fun w' hw' => r_gt rfl rfl) <| Ak 9 rfl (kr hk204) (fun w' hw' => r_pick true rfl (v := .bool _) rfl) <| Ab 10 rfl (Qw (o := 0) (vs := [.slice A142 n143 c144, .slice A146 n147 c148, .int .i64 ((goneN x s.Id s.Reader).Bought), .int .i64 ((goneN x s.Id s.Reader).Dropped), .int .i64 ((goneN x s.Id s.Reader).Mended)]) agg34.2 rfl rfl rfl rfl ((hm179.kp hk187 (fun e' => by have := hm181.base_le e'; omega)).lo hk204) ler rfl ?_)
    intro w208 hk209 hs210 hb211
    have hS214 := ((Kp.refl w186 : Kp (fun b_ => b_ = g17) w186 w186).lo hk204).step hk209 (fun _ _ e => e)
    refine Qn ⟨hS214, _, rfl, (Ak 11 rfl hS214 (fun w' hw' => r_as (v := .bool _) rfl) <| AH.done (by kernel_rfl) (⟨⟨rfl, rfl, rfl, rfl, (eDD (jat h207)), rfl, rfl, trivial⟩, hS214, hb211⟩))⟩
   ·have hq216 := Int.not_lt.1 h207
    refine AH.s' 4 rfl (by kernel_rfl) rfl (kr hk204) <| AH.s' 5 rfl (by kernel_rfl) rfl (kr hk204) <| AH.s' 6 rfl (by kernel_rfl) rfl (kr hk204) <| AH.s' 7 rfl (by kernel_rfl) rfl (kr hk204) <| AH.s' 8 rfl (by kernel_rfl) rfl (kr hk204) <| Ak 9 rfl (kr hk204) (fun w' hw' => r_pick false rfl (v := .bool false) rfl) <| Ab 10 rfl (Qw (o := 0) (vs := [.slice A142 n143 c144, .slice A146 n147 c148, .int .i64 ((goneN x s.Id s.Reader).Bought), .int .i64 ((goneN x s.Id s.Reader).Dropped), .int .i64 ((goneN x s.Id s.Reader).Mended)]) agg34.2 rfl rfl rfl rfl ((hm179.kp hk187 (fun e' => by have := hm181.base_le e'; omega)).lo hk204) ler rfl ?_)
    intro w217 hk218 hs219 hb220
    have hS223 := ((Kp.refl w186 : Kp (fun b_ => b_ = g17) w186 w186).lo hk204).step hk218 (fun _ _ e => e)
    refine Qn ⟨hS223, _, rfl, (Ak 11 rfl hS223 (fun w' hw' => r_as (v := .bool _) rfl) <| AH.done (by kernel_rfl) (⟨⟨rfl, rfl, rfl, rfl, (eDF (jaf h207).2), rfl, rfl, trivial⟩, hS223, hb220⟩))⟩
  rintro f224 w225 ⟨hat227, hR226, hm215⟩
  rw [← sets_of_at hat227]
  have hz228 := hR226.size
  refine W.ret (retCT rfl rfl agg34 hm215 rfl (v := .bool _) rfl ?_)
  refine ⟨A142, n143, c144, A146, n147, c148, eR (eT2 (eA (eC rfl (eC rfl (eC (eI ?_) (eC (eI ?_) (eC (eI ?_) rfl)))))) (eB ?_)), (SlO.eqv ((hO189.kn hR226 (by omega)).down) ?_), (SlO.eqv (((((hO149.lo hk162).kd hk170 (SlO.ne (g := g159) hO149)).kp hk187 (fun b_ hb e' => hd150 b_ e' hb)).kn hR226 (by omega)).down) ?_), hd150, (((((hB137.lo hk141).lo hk162).new hk170).step hk187 (fun i_ hi_ e' => by have := hm181.base_le e'; first | omega | exact e' | exact .inl e' | exact .inr e')).new hR226 (by omega))⟩ <;> (subst hl153 hl156; unfold spec_l32Readers; rw [if_pos h139] <;> rfl)
 ·refine W.skip (Ws (Ws (Wr (Q (mI rfl) <| Q (r_lt rfl rfl) <| Qn (W.cond_d rfl (fun h230 => ?_) (fun h230 => ?_))))))
  ·refine Ws (Wr (Q (lG agg34 rfl (hm25.lo hR134) rfl) <| SR.call ent79 (c_spec_l32Own w133 x (hm26.lo hR134) (hm27.lo hR134) (by omega) (by omega)) rfl ?_))
   rintro e w231 ⟨A233, n234, c235, A237, n238, c239, rfl, hO236, hO240, hd241, hk232⟩
   refine ⟨_, rfl, ?_⟩
   have hz242 := hk232.size
   have hl244 := hO236.len
   have hl245 := hO236.rd.bound
   have hl246 := hO240.len
   have hl247 := hO240.rd.bound
   refine Qw (o := 0) (vs := (cLb A233 n234 c235 A237 n238 c239 x)) agg34.2 rfl rfl rfl rfl ((hb22.lo hR134).lo hk232) ler rfl ?_
   intro w248 hk249 hs250 hb251
   refine Q (aB rfl) <| Qn (W.ret (retCT rfl rfl agg34 hb251 rfl (v := .bool _) rfl ?_))
   refine ⟨A233, n234, c235, A237, n238, c239, eR (eT2 (eA (eC rfl (eC rfl (eC (eI ?_) (eC (eI ?_) (eC (eI ?_) rfl)))))) (eB ?_)), (SlO.eqv ((hO236.kn hk249).down) ?_), (SlO.eqv ((hO240.kn hk249).down) ?_), hd241, ((hB137.lo hk232).new hk249)⟩ <;> (subst hl244 hl246; unfold spec_l32Readers; rw [if_neg h139, if_pos h230] <;> rfl)
  ·have hq254 := Int.not_lt.1 h230
   refine W.skip (Ws (Wr (Q (lG agg34 rfl (hm25.lo hR134) rfl) <| Q (mI rfl) <| SR.call ent194 (c_spec_l32Back w133 x (hm26.lo hR134) (hm27.lo hR134) (idxF (isA s.Id s.Reader) x.Away) (by omega) (by omega) (by omega)) rfl ?_)))
   rintro e w255 ⟨A257, n258, c259, A261, n262, c263, rfl, hO260, hO264, hd265, hk256⟩
   refine ⟨_, rfl, ?_⟩
   have hz266 := hk256.size
   have hl268 := hO260.len
   have hl269 := hO260.rd.bound
   have hq270 := back_lenMaps x (idxF (isA s.Id s.Reader) x.Away)
   have hl271 := hO264.len
   have hl272 := hO264.rd.bound
   have hq273 := back_lenAway x (idxF (isA s.Id s.Reader) x.Away)
   refine SR.alloc (l := [.slice none 0 0, .slice none 0 0, .int .i64 0, .int .i64 0, .int .i64 0]) tz34 rfl ?_
   intro g274 w275 hg276 hk277 hs278 hb279
   have hd282 := SlO.ne (g := g274) hO260
   refine Qw (o := 0) (vs := [.slice A257 n258 c259, .slice A261 n262 c263, .int .i64 ((backN x (idxF (isA s.Id s.Reader) x.Away)).Bought), .int .i64 ((backN x (idxF (isA s.Id s.Reader) x.Away)).Dropped), .int .i64 ((backN x (idxF (isA s.Id s.Reader) x.Away)).Mended)]) agg34.2 rfl rfl rfl rfl hb279 ler rfl ?_
   intro w284 hk285 hs286 hb287
   have hB289 := ((hB137.lo hk256).lo hk277).new hk285
   refine Qn (Ws (Ws ?_))
   have hm293 := ((hm138.lo hk256).lo hk277).kn hk285
   have hm294 := (((hb22.lo hR134).lo hk256).lo hk277).kn hk285
   have hm295 := ((hm59.lo hk256).lo hk277).kn hk285
   have hm296 := (hO260.lo hk277).kd hk285 hd282
   have hm297 := (hO264.lo hk277).kd hk285 (SlO.ne (g := g274) hO264)
   refine Wr (Q (fA fa106_0 rfl) <| Q (lB sca3 rfl hm293 rfl) <| Q (r_eq rfl rfl) <| Qn (W.cond_d rfl (fun h298 => ?_) (fun h298 => ?_)))
   ·refine Ws (W.regA (Kp (fun b_ => b_ = g17) w284) (fun f' w' => ∃ (A357 : Option Addr) (n358 : Nat) (c359 : Nat) (A361 : Option Addr) (n362 : Nat) (c363 : Nat), At f' [(2, .int .i64 i), (4, .pointer (pA g9)), (6, .pointer (pA g17)), (7, .bool (decide ((idxF (isA s.Id s.Value) x.Away) < 0))), (9, .pointer (pA g41)), (11, .pointer (pA g274))] ∧ (Kp (fun b_ => b_ = g17) w284 w') ∧ (SlO w' w284.heap.size encLMap 3 102 A357 n358 c359 ((goneN (backN x (idxF (isA s.Id s.Reader) x.Away)) s.Id s.Value).Maps)) ∧ (SlO w' w284.heap.size encAway 2 129 A361 n362 c363 ((goneN (backN x (idxF (isA s.Id s.Reader) x.Away)) s.Id s.Value).Away)) ∧ (Blk w' g17 34 [.slice A357 n358 c359, .slice A361 n362 c363, .int .i64 ((goneN (backN x (idxF (isA s.Id s.Reader) x.Away)) s.Id s.Value).Bought), .int .i64 ((goneN (backN x (idxF (isA s.Id s.Reader) x.Away)) s.Id s.Value).Dropped), .int .i64 ((goneN (backN x (idxF (isA s.Id s.Reader) x.Away)) s.Id s.Value).Mended)]) ∧ Dj A357 A257 ∧ Dj A357 A261 ∧ Dj A357 A361 ∧ Dj A361 A257 ∧ Dj A361 A261 ∧ (n358 = ((goneN (backN x (idxF (isA s.Id s.Reader) x.Away)) s.Id s.Value).Maps).length) ∧ ((n358 : Int) ≤ 9223372036854775807) ∧ (((goneN (backN x (idxF (isA s.Id s.Reader) x.Away)) s.Id s.Value).Maps).length = (backN x (idxF (isA s.Id s.Reader) x.Away)).Maps.length) ∧ (n362 = ((goneN (backN x (idxF (isA s.Id s.Reader) x.Away)) s.Id s.Value).Away).length) ∧ ((n362 : Int) ≤ 9223372036854775807) ∧ (((goneN (backN x (idxF (isA s.Id s.Reader) x.Away)) s.Id s.Value).Away).length = (backN x (idxF (isA s.Id s.Reader) x.Away)).Away.length + 1) ∧ (idxF (isA s.Id s.Value) x.Away < (x.Away.length : Int) ∧ -1 ≤ idxF (isA s.Id s.Value) x.Away)) mo ?_ ?_)
    ·intro w412 hk413
     have hz414 := hk413.size
     refine Ak 0 rfl (kr hk413) (fun w' hw' => r_lda (l := [.slice A257 n258 c259, .slice A261 n262 c263, .int .i64 ((backN x (idxF (isA s.Id s.Reader) x.Away)).Bought), .int .i64 ((backN x (idxF (isA s.Id s.Reader) x.Away)).Dropped), .int .i64 ((backN x (idxF (isA s.Id s.Reader) x.Away)).Mended)]) agg34 rfl (fun _ _ hu => (hb287.kn hw' (by omega)).cell hu) rfl) <| Ak 1 rfl (kr hk413) (fun w' hw' => fA fa106_1 rfl) <| Ak 2 rfl (kr hk413) (fun w' hw' => r_ld (v := .int .i64 s.Id) sca3 rfl ((hm293.kn hw' (by omega)).cell rfl)) <| Ak 3 rfl (kr hk413) (fun w' hw' => fA fa106_3 rfl) <| Ak 4 rfl (kr hk413) (fun w' hw' => r_ld (v := .int .i64 s.Value) sca3 rfl ((hm293.kn hw' (by omega)).cell rfl)) <| Ak 6 rfl (kr hk413) (fun w' hw' => r_lda (l := (cLb Ax1 nx1 cx1 Ax2 nx2 cx2 x)) agg34 rfl (fun _ _ hu => (((((hm25.lo hR134).lo hk256).lo hk277).kn hk285).kn hw' (by omega)).cell hu) rfl) <| Ak 7 rfl (kr hk413) (fun w' hw' => fA fa106_1 rfl) <| Ak 8 rfl (kr hk413) (fun w' hw' => r_ld (v := .int .i64 s.Id) sca3 rfl ((hm293.kn hw' (by omega)).cell rfl)) <| Ak 9 rfl (kr hk413) (fun w' hw' => fA fa106_3 rfl) <| Ak 10 rfl (kr hk413) (fun w' hw' => r_ld (v := .int .i64 s.Value) sca3 rfl ((hm293.kn hw' (by omega)).cell rfl)) <| Ab 5 rfl (SR.call ent193 (c_spec_l32Gone w412 (backN x (idxF (isA s.Id s.Reader) x.Away)) ((hm296.lo hk413).rd) ((hm297.lo hk413).rd) s.Id s.Value (by omega) (by omega)) rfl ?_)
     rintro e w416 ⟨A418, n419, c420, A422, n423, c424, rfl, hO421, hO425, hd426, hk417⟩
     refine ⟨_, rfl, ?_⟩
     have hz427 := hk417.size
     have hS429 := ((Kp.refl w284 : Kp (fun b_ => b_ = g17) w284 w284).lo hk413).lo hk417
     have hl430 := hO421.len
     have hl431 := hO421.rd.bound
     have hq432 := gone_lenMaps (backN x (idxF (isA s.Id s.Reader) x.Away)) s.Id s.Value
     have hl433 := hO425.len
     have hl434 := hO425.rd.bound
     have hq435 := gone_lenAway (backN x (idxF (isA s.Id s.Reader) x.Away)) s.Id s.Value
     refine Qn ⟨hS429, _, rfl, (Ab 11 rfl (Qv ent192 (c_spec_l32Away w416 x ((((((hm26.lo hR134).lo hk256).lo hk277).kn hk285).lo hk413).lo hk417) ((((((hm27.lo hR134).lo hk256).lo hk277).kn hk285).lo hk413).lo hk417) s.Id s.Value) rfl fun w436 hk437 hz438 => ?_))⟩
     have hS440 := hS429.lo hk437
     have hq441 : idxF (isA s.Id s.Value) x.Away < (x.Away.length : Int) ∧ -1 ≤ idxF (isA s.Id s.Value) x.Away := idx_lt
     refine Qn ⟨hS440, _, rfl, (Ak 12 rfl hS440 (fun w' hw' => r_lt rfl rfl) <| Ab 13 rfl (Qw (o := 0) (vs := [.slice A418 n419 c420, .slice A422 n423 c424, .int .i64 ((goneN (backN x (idxF (isA s.Id s.Reader) x.Away)) s.Id s.Value).Bought), .int .i64 ((goneN (backN x (idxF (isA s.Id s.Reader) x.Away)) s.Id s.Value).Dropped), .int .i64 ((goneN (backN x (idxF (isA s.Id s.Reader) x.Away)) s.Id s.Value).Mended)]) agg34.2 rfl rfl rfl rfl (((hm294.lo hk413).lo hk417).lo hk437) ler rfl ?_))⟩
     intro w442 hk443 hs444 hb445
     have hS448 := hS440.step hk443 (fun _ _ e => e)
     refine Qn ⟨hS448, _, rfl, (Ak 14 rfl hS448 (fun w' hw' => r_as (v := .bool _) rfl) <| AH.done (by kernel_rfl) (⟨A418, n419, c420, A422, n423, c424, (At.r rfl), hS448, (((hO421.lo hk437).kn hk443).down), (((hO425.lo hk437).kn hk443).down), hb445, (fun b_ h h' => by have h1 := ((hO421.lo hk437).kn hk443).base_le h; have h2 := (hm296.lo hk413).base_le h'; omega), (fun b_ h h' => by have h1 := ((hO421.lo hk437).kn hk443).base_le h; have h2 := (hm297.lo hk413).base_le h'; omega), hd426, (fun b_ h h' => by have h1 := ((hO425.lo hk437).kn hk443).base_le h; have h2 := (hm296.lo hk413).base_le h'; omega), (fun b_ h h' => by have h1 := ((hO425.lo hk437).kn hk443).base_le h; have h2 := (hm297.lo hk413).base_le h'; omega), hl430, hl431, hq432, hl433, hl434, hq435, hq441⟩))⟩
    rintro f454 w455 ⟨A357, n358, c359, A361, n362, c363, hat457, hR456, hm404, hm405, hm406, hd407, hd408, hd409, hd410, hd411, hl369, hl370, hq371, hl372, hl373, hq374, hq388⟩
    rw [← sets_of_at hat457]
    have hz458 := hR456.size
    refine W.ret (retCT rfl rfl agg34 hm406 rfl (v := .bool _) rfl ?_)
    refine ⟨A357, n358, c359, A361, n362, c363, eR (eT2 (eA (eC rfl (eC rfl (eC (eI ?_) (eC (eI ?_) (eC (eI ?_) rfl)))))) (eB ?_)), (SlO.eqv (hm404.down) ?_), (SlO.eqv (hm405.down) ?_), hd409, (hB289.new hR456 (by omega))⟩ <;> (subst hl369 hl372; unfold spec_l32Readers; rw [if_neg h139, if_neg h230, if_pos h298] <;> rfl)
   ·refine W.skip (Ws (Wr (Q (fA fa34_0 rfl) <| Q (lB sca31 rfl hb287 rfl) <| Q (mI rfl) <| Q (fA fa102_1 rfl) <| Q (lB sca3 rfl hm295 rfl) <| Q (r_add rfl rfl (by omega)) <| ?_)))
    have hx461 := (hm296.rd).elem (i := i.toNat) (by omega)
    have hq462 := maps_rng hp0.1.1 hx461
    refine Q (r_ixR tsl31 (hm296.rd) rfl rfl (by omega)) <| Q (fA fa102_1 rfl) <| SR.storeO (o := 1) (vs := [.int .i64 (((gt x.Maps i.toNat).Copies) + 1)]) (x1 := { (gt ((backN x (idxF (isA s.Id s.Reader) x.Away)).Maps) i.toNat) with Copies := ((gt x.Maps i.toNat).Copies) + 1 }) sca3.2 rfl (add_add _ _ _) rfl rfl hm296 hx461 rfl ler rfl ?_
    intro w463 hk464 hs465 hO466
    have hz467 := hk464.size
    have hx469 : (((backN x (idxF (isA s.Id s.Reader) x.Away)).Maps).set i.toNat ({ (gt ((backN x (idxF (isA s.Id s.Reader) x.Away)).Maps) i.toNat) with Copies := ((gt x.Maps i.toNat).Copies) + 1 }))[i.toNat]? = some ({ (gt ((backN x (idxF (isA s.Id s.Reader) x.Away)).Maps) i.toNat) with Copies := ((gt x.Maps i.toNat).Copies) + 1 }) := List.getElem?_set_self (List.getElem?_eq_some_iff.1 hx461).1
    refine Qn (Ws (Wr (Q (fA fa34_0 rfl) <| Q (lB sca31 rfl (hb287.kp hk464 (fun e' => hd282 e')) rfl) <| Q (mI rfl) <| Q (fA fa102_2 rfl) <| Q (lB sca3 rfl (hm295.kp hk464 (fun e' => by have := hm296.base_le e'; omega)) rfl) <| Q (fA fa106_3 rfl) <| Q (lB sca3 rfl (hm293.kp hk464 (fun e' => by have := hm296.base_le e'; omega)) rfl) <| Q (r_add rfl rfl (by omega)) <| Q (r_ixR tsl31 (hO466.rd) rfl rfl (by omega)) <| Q (fA fa102_2 rfl) <| SR.storeO (o := 2) (vs := [.int .i64 (((gt x.Maps i.toNat).Torn) + s.Value)]) (x1 := { ({ (gt ((backN x (idxF (isA s.Id s.Reader) x.Away)).Maps) i.toNat) with Copies := ((gt x.Maps i.toNat).Copies) + 1 }) with Torn := ((gt x.Maps i.toNat).Torn) + s.Value }) sca3.2 rfl (add_add _ _ _) rfl rfl hO466 hx469 rfl ler rfl ?_)))
    intro w470 hk471 hs472 hO473
    have hz474 := hk471.size
    rw [List.set_set] at hO473
    have hx476 : (((backN x (idxF (isA s.Id s.Reader) x.Away)).Maps).set i.toNat ({ ({ (gt ((backN x (idxF (isA s.Id s.Reader) x.Away)).Maps) i.toNat) with Copies := ((gt x.Maps i.toNat).Copies) + 1 }) with Torn := ((gt x.Maps i.toNat).Torn) + s.Value }))[i.toNat]? = some ({ ({ (gt ((backN x (idxF (isA s.Id s.Reader) x.Away)).Maps) i.toNat) with Copies := ((gt x.Maps i.toNat).Copies) + 1 }) with Torn := ((gt x.Maps i.toNat).Torn) + s.Value }) := List.getElem?_set_self (List.getElem?_eq_some_iff.1 hx461).1
    refine Qn (Ws ?_)
    have hm477 := (hm294.kp hk464 (fun e' => by have := hm296.base_le e'; omega)).kp hk471 (fun e' => by have := hO466.base_le e'; omega)
    refine Wr (Q (lG agg34 rfl ((hb287.kp hk464 (fun e' => hd282 e')).kp hk471 (fun e' => hd282 e')) rfl) <| Qw (o := 0) (vs := [.slice A257 n258 c259, .slice A261 n262 c263, .int .i64 ((backN x (idxF (isA s.Id s.Reader) x.Away)).Bought), .int .i64 ((backN x (idxF (isA s.Id s.Reader) x.Away)).Dropped), .int .i64 ((backN x (idxF (isA s.Id s.Reader) x.Away)).Mended)]) agg34.2 rfl rfl rfl rfl hm477 ler rfl ?_)
    intro w480 hk481 hs482 hb483
    refine Q (aB rfl) <| Qn (W.ret (retCT rfl rfl agg34 hb483 rfl (v := .bool _) rfl ?_))
    refine ⟨A257, n258, c259, A261, n262, c263, eR (eT2 (eA (eC rfl (eC rfl (eC (eI ?_) (eC (eI ?_) (eC (eI ?_) rfl)))))) (eB ?_)), (SlO.eqv ((hO473.kn hk481).down) ?_), (SlO.eqv ((((hm297.kp hk464 (fun b_ hb e' => hd265 b_ e' hb)).kp hk471 (fun b_ hb e' => hd265 b_ e' hb)).kn hk481).down) ?_), hd265, (((hB289.step hk464 (fun i_ hi_ e' => by have := hm296.base_le e'; first | omega | exact e' | exact .inl e' | exact .inr e')).step hk471 (fun i_ hi_ e' => by have := hO466.base_le e'; first | omega | exact e' | exact .inl e' | exact .inr e')).new hk481)⟩ <;> (subst hl268 hl271; unfold spec_l32Readers; rw [if_neg h139, if_neg h230, if_neg h298] <;> rfl)
open Classical in
noncomputable def spec_l32Make (x : Library) (s : LibraryStep) : Library × Bool :=
 if s.Kind = 1 then ((boughtN x s.Id s.Value), decide (LibOK (boughtN x s.Id s.Value))) else if s.Kind = 4 then ((⟨x.Maps.set ((idxF (hasId s.Id) x.Maps).toNat) ({ (gt x.Maps ((idxF (hasId s.Id) x.Maps).toNat)) with Torn := ((gt x.Maps ((idxF (hasId s.Id) x.Maps).toNat)).Torn) - (min s.Value ((gt x.Maps ((idxF (hasId s.Id) x.Maps).toNat)).Torn)) }), x.Away, x.Bought, x.Dropped, x.Mended + (min s.Value ((gt x.Maps ((idxF (hasId s.Id) x.Maps).toNat)).Torn))⟩ : Library), decide ((s.Value ≤ ((gt x.Maps ((idxF (hasId s.Id) x.Maps).toNat)).Torn)) ∧ (LibOK (⟨x.Maps.set ((idxF (hasId s.Id) x.Maps).toNat) ({ (gt x.Maps ((idxF (hasId s.Id) x.Maps).toNat)) with Torn := ((gt x.Maps ((idxF (hasId s.Id) x.Maps).toNat)).Torn) - (min s.Value ((gt x.Maps ((idxF (hasId s.Id) x.Maps).toNat)).Torn)) }), x.Away, x.Bought, x.Dropped, x.Mended + (min s.Value ((gt x.Maps ((idxF (hasId s.Id) x.Maps).toNat)).Torn))⟩ : Library)))) else if s.Kind = 6 then ((⟨x.Maps.set ((idxF (hasId s.Id) x.Maps).toNat) (⟨(gt x.Maps ((idxF (hasId s.Id) x.Maps).toNat)).Id, ((gt x.Maps ((idxF (hasId s.Id) x.Maps).toNat)).Copies) - (min s.Value ((gt x.Maps ((idxF (hasId s.Id) x.Maps).toNat)).Torn)), ((gt x.Maps ((idxF (hasId s.Id) x.Maps).toNat)).Torn) - (min s.Value ((gt x.Maps ((idxF (hasId s.Id) x.Maps).toNat)).Torn))⟩ : LMap), x.Away, x.Bought, x.Dropped + (min s.Value ((gt x.Maps ((idxF (hasId s.Id) x.Maps).toNat)).Torn)), x.Mended⟩ : Library), decide ((s.Value ≤ ((gt x.Maps ((idxF (hasId s.Id) x.Maps).toNat)).Torn)) ∧ (LibOK (⟨x.Maps.set ((idxF (hasId s.Id) x.Maps).toNat) (⟨(gt x.Maps ((idxF (hasId s.Id) x.Maps).toNat)).Id, ((gt x.Maps ((idxF (hasId s.Id) x.Maps).toNat)).Copies) - (min s.Value ((gt x.Maps ((idxF (hasId s.Id) x.Maps).toNat)).Torn)), ((gt x.Maps ((idxF (hasId s.Id) x.Maps).toNat)).Torn) - (min s.Value ((gt x.Maps ((idxF (hasId s.Id) x.Maps).toNat)).Torn))⟩ : LMap), x.Away, x.Bought, x.Dropped + (min s.Value ((gt x.Maps ((idxF (hasId s.Id) x.Maps).toNat)).Torn)), x.Mended⟩ : Library)))) else if s.Kind = 7 then ((⟨x.Maps.set ((idxF (hasId s.Id) x.Maps).toNat) ({ (gt x.Maps ((idxF (hasId s.Id) x.Maps).toNat)) with Torn := ((gt x.Maps ((idxF (hasId s.Id) x.Maps).toNat)).Torn) + (min s.Value 100) }), x.Away, x.Bought, x.Dropped, x.Mended⟩ : Library), decide ((s.Value ≤ (((gt x.Maps ((idxF (hasId s.Id) x.Maps).toNat)).Copies) - ((gt x.Maps ((idxF (hasId s.Id) x.Maps).toNat)).Torn))) ∧ (LibOK (⟨x.Maps.set ((idxF (hasId s.Id) x.Maps).toNat) ({ (gt x.Maps ((idxF (hasId s.Id) x.Maps).toNat)) with Torn := ((gt x.Maps ((idxF (hasId s.Id) x.Maps).toNat)).Torn) + (min s.Value 100) }), x.Away, x.Bought, x.Dropped, x.Mended⟩ : Library)))) else (((spec_l32Readers x s (idxF (hasId s.Id) x.Maps)).1), decide ((((spec_l32Readers x s (idxF (hasId s.Id) x.Maps)).2) = true) ∧ (LibOK ((spec_l32Readers x s (idxF (hasId s.Id) x.Maps)).1))))
theorem c_spec_l32Make (w : World) (x : Library) {Ax1 : Option Addr} {nx1 cx1 Bx1 : Nat} (hx1 : SlR w Bx1 encLMap 3 Ax1 nx1 cx1 x.Maps) {Ax2 : Option Addr} {nx2 cx2 Bx2 : Nat} (hx2 : SlR w Bx2 encAway 2 Ax2 nx2 cx2 x.Away) (s : LibraryStep) (hp0 : LibOK x) (hp1 : spec_l32Step x s = true) : Calls Tryz.prog 115 #[.agg (List.toArray (cLb Ax1 nx1 cx1 Ax2 nx2 cx2 x)), .agg (List.toArray (encLibraryStep s))] w fun e w' => ∃ (A1' : Option Addr) (n1' c1' : Nat) (A2' : Option Addr) (n2' c2' : Nat), e = .returned (.tuple (List.toArray [.agg (List.toArray [.slice A1' n1' c1', .slice A2' n2' c2', .int .i64 (((spec_l32Make x s).1).Bought), .int .i64 (((spec_l32Make x s).1).Dropped), .int .i64 (((spec_l32Make x s).1).Mended)]), .bool ((spec_l32Make x s).2)])) ∧ SlO w' w.heap.size encLMap 3 102 A1' n1' c1' (((spec_l32Make x s).1).Maps) ∧ SlO w' w.heap.size encAway 2 129 A2' n2' c2' (((spec_l32Make x s).1).Away) ∧ Dj A1' A2' ∧ Lo w w' := by
 refine calls_W 138 Tryz.func115 rfl rfl rfl ?_
 have hbdx1 := hx1.bound
 have hlex1 := hx1.len
 have hBbx1 := hx1.bd
 have hbdx2 := hx2.bound
 have hlex2 := hx2.len
 have hBbx2 := hx2.bd
 have hlb := lib_rng hp0
 have hsr := stepL_rng hp1
 refine Ws (Wr (SR.box (v := .agg (List.toArray _)) (l := (cLb Ax1 nx1 cx1 Ax2 nx2 cx2 x)) rfl rfl ?_))
 intro g1 w2 hg3 hk4 hs5 hb6
 refine SR.box (v := .agg (List.toArray _)) (l := [.int .i64 s.Kind, .int .i64 s.Id, .int .i64 s.Reader, .int .i64 s.Value]) rfl rfl ?_
 intro g9 w10 hg11 hk12 hs13 hb14
 refine SR.alloc (l := [.slice none 0 0, .slice none 0 0, .int .i64 0, .int .i64 0, .int .i64 0]) tz34 rfl ?_
 intro g17 w18 hg19 hk20 hs21 hb22
 have hB24 := (((Lo.refl w).lo hk4).lo hk12).lo hk20
 refine Q (aB rfl) <| Qn (Ws (Ws ?_))
 have hm25 := (hb6.lo hk12).lo hk20
 have hm26 := ((hx1.lo hk4).lo hk12).lo hk20
 have hm27 := ((hx2.lo hk4).lo hk12).lo hk20
 refine Wr (Q (fA fa106_0 rfl) <| Q (lB sca3 rfl (hb14.lo hk20) rfl) <| Q (r_eq rfl rfl) <| Qn (W.cond_d rfl (fun h28 => ?_) (fun h28 => ?_)))
 ·refine Ws (Wr (Q (lG agg34 rfl hm25 rfl) <| Q (fA fa106_1 rfl) <| Q (lB sca3 rfl (hb14.lo hk20) rfl) <| Q (fA fa106_3 rfl) <| Q (lB sca3 rfl (hb14.lo hk20) rfl) <| SR.call ent166 (c_spec_l32Bought w18 x hm26 hm27 s.Id s.Value (by assumption) (by omega)) rfl ?_))
  rintro e w29 ⟨A31, n32, c33, A35, n36, c37, rfl, hO34, hO38, hd39, hk30⟩
  refine ⟨_, rfl, ?_⟩
  have hz40 := hk30.size
  have hl42 := hO34.len
  have hl43 := hO34.rd.bound
  have hq44 := bought_lenMaps x s.Id s.Value
  have hl45 := hO38.len
  have hl46 := hO38.rd.bound
  have hq47 := bought_lenAway x s.Id s.Value
  refine SR.alloc (l := [.slice none 0 0, .slice none 0 0, .int .i64 0, .int .i64 0, .int .i64 0]) tz34 rfl ?_
  intro g48 w49 hg50 hk51 hs52 hb53
  refine Qw (o := 0) (vs := [.slice A31 n32 c33, .slice A35 n36 c37, .int .i64 ((boughtN x s.Id s.Value).Bought), .int .i64 ((boughtN x s.Id s.Value).Dropped), .int .i64 ((boughtN x s.Id s.Value).Mended)]) agg34.2 rfl rfl rfl rfl hb53 ler rfl ?_
  intro w58 hk59 hs60 hb61
  refine Qn (Ws ?_)
  have hm69 := (hO34.lo hk51).kd hk59 (SlO.ne (g := g48) hO34)
  have hm70 := (hO38.lo hk51).kd hk59 (SlO.ne (g := g48) hO38)
  refine W.regA (Kp (fun b_ => b_ = g17) w58) (fun f' w' => At f' [(2, .pointer (pA g1)), (3, .pointer (pA g9)), (4, .pointer (pA g17)), (5, .bool (decide (LibOK (boughtN x s.Id s.Value))))] ∧ (Kp (fun b_ => b_ = g17) w58 w') ∧ (Blk w' g17 34 [.slice A31 n32 c33, .slice A35 n36 c37, .int .i64 ((boughtN x s.Id s.Value).Bought), .int .i64 ((boughtN x s.Id s.Value).Dropped), .int .i64 ((boughtN x s.Id s.Value).Mended)])) mo ?_ ?_
  ·intro w106 hk107
   have hz108 := hk107.size
   refine Ak 0 rfl (kr hk107) (fun w' hw' => r_lda (l := [.slice A31 n32 c33, .slice A35 n36 c37, .int .i64 ((boughtN x s.Id s.Value).Bought), .int .i64 ((boughtN x s.Id s.Value).Dropped), .int .i64 ((boughtN x s.Id s.Value).Mended)]) agg34 rfl (fun _ _ hu => (hb61.kn hw' (by omega)).cell hu) rfl) <| Ak 1 rfl (kr hk107) (fun w' hw' => r_lda (l := [.slice A31 n32 c33, .slice A35 n36 c37, .int .i64 ((boughtN x s.Id s.Value).Bought), .int .i64 ((boughtN x s.Id s.Value).Dropped), .int .i64 ((boughtN x s.Id s.Value).Mended)]) agg34 rfl (fun _ _ hu => (hb61.kn hw' (by omega)).cell hu) rfl) <| Ab 2 rfl (Qv ent80 (c_spec_l32Good w106 (boughtN x s.Id s.Value) ((hm69.lo hk107).rd) ((hm70.lo hk107).rd)) rfl fun w110 hk111 hz112 => ?_)
   have hS114 := ((Kp.refl w58 : Kp (fun b_ => b_ = g17) w58 w58).lo hk107).lo hk111
   refine Qn ⟨hS114, _, rfl, (Ab 3 rfl (Qw (o := 0) (vs := [.slice A31 n32 c33, .slice A35 n36 c37, .int .i64 ((boughtN x s.Id s.Value).Bought), .int .i64 ((boughtN x s.Id s.Value).Dropped), .int .i64 ((boughtN x s.Id s.Value).Mended)]) agg34.2 rfl rfl rfl rfl (((((hb22.lo hk30).lo hk51).kn hk59).lo hk107).lo hk111) ler rfl ?_))⟩
   intro w115 hk116 hs117 hb118
   have hS121 := hS114.step hk116 (fun _ _ e => e)
   refine Qn ⟨hS121, _, rfl, (Ak 4 rfl hS121 (fun w' hw' => r_as (v := .bool _) rfl) <| AH.done (by kernel_rfl) (⟨(At.r rfl), hS121, hb118⟩))⟩
  rintro f122 w123 ⟨hat125, hR124, hm105⟩
  rw [← sets_of_at hat125]
  have hz126 := hR124.size
  refine W.ret (retCT rfl rfl agg34 hm105 rfl (v := .bool _) rfl ?_)
  refine ⟨A31, n32, c33, A35, n36, c37, eR (eT2 (eA (eC rfl (eC rfl (eC (eI ?_) (eC (eI ?_) (eC (eI ?_) rfl)))))) (eB ?_)), (SlO.eqv ((hm69.kn hR124 (by omega)).down) ?_), (SlO.eqv ((hm70.kn hR124 (by omega)).down) ?_), hd39, ((((hB24.lo hk30).lo hk51).new hk59).new hR124 (by omega))⟩ <;> (subst hl42 hl45; unfold spec_l32Make; rw [if_pos h28] <;> rfl)
 ·refine W.skip (Ws (W.regA (Lo w18) (fun f' w' => ∃ (A134 : Option Addr) (n135 : Nat) (c136 : Nat) (A138 : Option Addr) (n139 : Nat) (c140 : Nat) (g162 : Nat), At f' [(2, .pointer (pA g1)), (3, .pointer (pA g9)), (4, .pointer (pA g17)), (5, .bool false), (7, .pointer (pA g162)), (8, .int .i64 (idxF (hasId s.Id) x.Maps))] ∧ (Lo w18 w') ∧ (SlO w' w18.heap.size encLMap 3 102 A134 n135 c136 x.Maps) ∧ (SlO w' w18.heap.size encAway 2 129 A138 n139 c140 x.Away) ∧ (Blk w' g162 34 (cLb A134 n135 c136 A138 n139 c140 x)) ∧ (w18.heap.size ≤ g162 ∧ g162 < w'.heap.size) ∧ (¬ A134 = some ⟨g162, 0, none⟩) ∧ (¬ A138 = some ⟨g162, 0, none⟩) ∧ Dj A134 A138 ∧ (n135 = (x.Maps).length) ∧ ((n135 : Int) ≤ 9223372036854775807) ∧ (n139 = (x.Away).length) ∧ ((n139 : Int) ≤ 9223372036854775807) ∧ (idxF (hasId s.Id) x.Maps < (x.Maps.length : Int) ∧ -1 ≤ idxF (hasId s.Id) x.Maps)) mo ?_ ?_))
  ·intro w247 hk248
   have hz249 := hk248.size
   refine AH.via #[true, true, true, true, true, true, true, false, false] 2 (fun f' w' => ∃ (A134 : Option Addr) (n135 : Nat) (c136 : Nat) (A138 : Option Addr) (n139 : Nat) (c140 : Nat) (g162 : Nat), At f' [(2, .pointer (pA g1)), (3, .pointer (pA g9)), (4, .pointer (pA g17)), (5, .bool false), (7, .pointer (pA g162)), (24, .agg (List.toArray (cLb A134 n135 c136 A138 n139 c140 x))), (28, .int .i64 (idxF (hasId s.Id) x.Maps))] ∧ (Lo w18 w') ∧ (SlO w' w18.heap.size encLMap 3 102 A134 n135 c136 x.Maps) ∧ (SlO w' w18.heap.size encAway 2 129 A138 n139 c140 x.Away) ∧ (Blk w' g162 34 [.slice none 0 0, .slice none 0 0, .int .i64 0, .int .i64 0, .int .i64 0]) ∧ (w18.heap.size ≤ g162 ∧ g162 < w'.heap.size) ∧ (¬ A134 = some ⟨g162, 0, none⟩) ∧ (¬ A138 = some ⟨g162, 0, none⟩) ∧ Dj A134 A138 ∧ (n135 = (x.Maps).length) ∧ ((n135 : Int) ≤ 9223372036854775807) ∧ (n139 = (x.Away).length) ∧ ((n139 : Int) ≤ 9223372036854775807) ∧ (idxF (hasId s.Id) x.Maps < (x.Maps.length : Int) ∧ -1 ≤ idxF (hasId s.Id) x.Maps)) ?_ (fun hn251 => ?_)
   ·rintro f252 w253 ⟨A134, n135, c136, A138, n139, c140, g162, hat255, hR254, hm173, hm174, hm175, hg176, hd177, hd178, hd179, hl146, hl147, hl148, hl149, hq158⟩
    rw [← sets_of_at hat255]
    have hz256 := hR254.size
    refine Ab 7 rfl (Qw (o := 0) (vs := (cLb A134 n135 c136 A138 n139 c140 x)) agg34.2 rfl rfl rfl rfl hm175 ler rfl ?_)
    intro w258 hk259 hs260 hb261
    have hS264 := hR254.new hk259
    refine Qn ⟨hS264, _, rfl, (Ak 8 rfl hS264 (fun w' hw' => r_as (v := .int .i64 _) rfl) <| AH.done (by kernel_rfl) (⟨A134, n135, c136, A138, n139, c140, g162, (At.r rfl), hS264, ((hm173.kd hk259 hd177).down), ((hm174.kd hk259 hd178).down), hb261, ⟨by omega, hb261.lt⟩, hd177, hd178, hd179, hl146, hl147, hl148, hl149, hq158⟩))⟩
   refine AH.via #[true, true, true, true, true, false, true, false, false] 3 (fun f' w' => ∃ (A134 : Option Addr) (n135 : Nat) (c136 : Nat) (A138 : Option Addr) (n139 : Nat) (c140 : Nat) (g194 : Nat), At f' [(2, .pointer (pA g1)), (3, .pointer (pA g9)), (4, .pointer (pA g17)), (5, .bool false), (7, .pointer (pA g194)), (24, .agg (List.toArray (cLb A134 n135 c136 A138 n139 c140 x))), (25, .agg (List.toArray (cLb Ax1 nx1 cx1 Ax2 nx2 cx2 x))), (27, .int .i64 s.Id)] ∧ (Lo w18 w') ∧ (SlO w' w18.heap.size encLMap 3 102 A134 n135 c136 x.Maps) ∧ (SlO w' w18.heap.size encAway 2 129 A138 n139 c140 x.Away) ∧ (Blk w' g194 34 [.slice none 0 0, .slice none 0 0, .int .i64 0, .int .i64 0, .int .i64 0]) ∧ (w18.heap.size ≤ g194 ∧ g194 < w'.heap.size) ∧ (¬ A134 = some ⟨g194, 0, none⟩) ∧ (¬ A138 = some ⟨g194, 0, none⟩) ∧ Dj A134 A138 ∧ (n135 = (x.Maps).length) ∧ ((n135 : Int) ≤ 9223372036854775807) ∧ (n139 = (x.Away).length) ∧ ((n139 : Int) ≤ 9223372036854775807)) ?_ (fun hn269 => ?_)
   ·rintro f270 w271 ⟨A134, n135, c136, A138, n139, c140, g194, hat273, hR272, hm205, hm206, hm207, hg208, hd209, hd210, hd211, hl146, hl147, hl148, hl149⟩
    rw [← sets_of_at hat273]
    have hz274 := hR272.size
    refine Ab 5 rfl (Qv ent165 (c_spec_l32Map w271 x (hm26.lo hR272) (hm27.lo hR272) s.Id) rfl fun w276 hk277 hz278 => ?_)
    have hS280 := hR272.lo hk277
    have hq281 : idxF (hasId s.Id) x.Maps < (x.Maps.length : Int) ∧ -1 ≤ idxF (hasId s.Id) x.Maps := idx_lt
    refine Qn ⟨hS280, _, rfl, (AH.goto (by kernel_rfl) rfl (hn251 _ _ (⟨A134, n135, c136, A138, n139, c140, g194, (At.r rfl), hS280, ((hm205.lo hk277).down), ((hm206.lo hk277).down), (hm207.lo hk277), ⟨by omega, (hm207.lo hk277).lt⟩, hd209, hd210, hd211, hl146, hl147, hl148, hl149, hq281⟩)))⟩
   refine Ak 0 rfl hk248 (fun w' hw' => r_lda (l := (cLb Ax1 nx1 cx1 Ax2 nx2 cx2 x)) agg34 rfl (fun _ _ hu => (hm25.lo hw').cell hu) rfl) <| Ak 2 rfl hk248 (fun w' hw' => r_lda (l := (cLb Ax1 nx1 cx1 Ax2 nx2 cx2 x)) agg34 rfl (fun _ _ hu => (hm25.lo hw').cell hu) rfl) <| Ak 3 rfl hk248 (fun w' hw' => fA fa106_1 rfl) <| Ak 4 rfl hk248 (fun w' hw' => r_ld (v := .int .i64 s.Id) sca3 rfl (((hb14.lo hk20).lo hw').cell rfl)) <| AH.br [1, 6] (by kernel_rfl) rfl ⟨Br.mk' rfl trivial ?_, Br.mk' rfl trivial ?_, trivial⟩
   ·refine SR.call ent79 (c_spec_l32Own w247 x (hm26.lo hk248) (hm27.lo hk248) (by omega) (by omega)) rfl ?_
    rintro e w286 ⟨A288, n289, c290, A292, n293, c294, rfl, hO291, hO295, hd296, hk287⟩
    refine ⟨_, rfl, ?_⟩
    have hz297 := hk287.size
    have hS299 := hk248.lo hk287
    have hl300 := hO291.len
    have hl301 := hO291.rd.bound
    have hl302 := hO295.len
    have hl303 := hO295.rd.bound
    refine Qn ⟨hS299, _, rfl, (AH.br [5, 6] (by kernel_rfl) rfl ⟨Br.mk' rfl trivial ?_, Br.mk' rfl trivial ?_, trivial⟩)⟩
    ·refine Qv ent165 (c_spec_l32Map w286 x ((hm26.lo hk248).lo hk287) ((hm27.lo hk248).lo hk287) s.Id) rfl fun w304 hk305 hz306 => ?_
     have hS308 := hS299.lo hk305
     have hq309 : idxF (hasId s.Id) x.Maps < (x.Maps.length : Int) ∧ -1 ≤ idxF (hasId s.Id) x.Maps := idx_lt
     refine Qn ⟨hS308, _, rfl, (Ab 6 rfl (SR.alloc (l := [.slice none 0 0, .slice none 0 0, .int .i64 0, .int .i64 0, .int .i64 0]) tz34 rfl ?_))⟩
     intro g310 w311 hg312 hk313 hs314 hb315
     have hS318 := hS308.lo hk313
     refine Qn ⟨hS318, _, rfl, (AH.goto (by kernel_rfl) rfl (hn251 _ _ (⟨A288, n289, c290, A292, n293, c294, g310, (At.r rfl), hS318, (((hO291.lo hk305).lo hk313).down), (((hO295.lo hk305).lo hk313).down), hb315, ⟨by omega, hb315.lt⟩, (SlO.ne (g := g310) (hO291.lo hk305)), (SlO.ne (g := g310) (hO295.lo hk305)), hd296, hl300, hl301, hl302, hl303, hq309⟩)))⟩
    ·refine SR.alloc (l := [.slice none 0 0, .slice none 0 0, .int .i64 0, .int .i64 0, .int .i64 0]) tz34 rfl ?_
     intro g325 w326 hg327 hk328 hs329 hb330
     have hS333 := hS299.lo hk328
     refine Qn ⟨hS333, _, rfl, (AH.goto (by kernel_rfl) rfl (hn269 _ _ (⟨A288, n289, c290, A292, n293, c294, g325, (At.r rfl), hS333, ((hO291.lo hk328).down), ((hO295.lo hk328).down), hb330, ⟨by omega, hb330.lt⟩, (SlO.ne (g := g325) hO291), (SlO.ne (g := g325) hO295), hd296, hl300, hl301, hl302, hl303⟩)))⟩
   ·refine SR.alloc (l := [.slice none 0 0, .slice none 0 0, .int .i64 0, .int .i64 0, .int .i64 0]) tz34 rfl ?_
    intro g340 w341 hg342 hk343 hs344 hb345
    have hS348 := hk248.lo hk343
    refine Qn ⟨hS348, _, rfl, (Ab 1 rfl (SR.call ent79 (c_spec_l32Own w341 x ((hm26.lo hk248).lo hk343) ((hm27.lo hk248).lo hk343) (by omega) (by omega)) rfl ?_))⟩
    rintro e w349 ⟨A351, n352, c353, A355, n356, c357, rfl, hO354, hO358, hd359, hk350⟩
    refine ⟨_, rfl, ?_⟩
    have hz360 := hk350.size
    have hS362 := hS348.lo hk350
    have hl363 := hO354.len
    have hl364 := hO354.rd.bound
    have hl365 := hO358.len
    have hl366 := hO358.rd.bound
    refine Qn ⟨hS362, _, rfl, (AH.goto (by kernel_rfl) rfl (hn269 _ _ (⟨A351, n352, c353, A355, n356, c357, g340, (At.r rfl), hS362, (hO354.down), (hO358.down), (hb345.lo hk350), ⟨by omega, (hb345.lo hk350).lt⟩, (fun e' => by have := hO354.base_le e'; omega), (fun e' => by have := hO358.base_le e'; omega), hd359, hl363, hl364, hl365, hl366⟩)))⟩
  rintro f371 w372 ⟨A134, n135, c136, A138, n139, c140, g162, hat374, hR373, hm187, hm188, hm189, hg190, hd191, hd192, hd193, hl146, hl147, hl148, hl149, hq158⟩
  rw [← sets_of_at hat374]
  have hz375 := hR373.size
  refine Ws (Wr (Q (fA fa34_0 rfl) <| Q (lB sca31 rfl (hm25.lo hR373) rfl) <| Q (mI rfl) <| ?_))
  have hx379 := (hm26.lo hR373).elem (i := (idxF (hasId s.Id) x.Maps).toNat) (by omega)
  have hq380 := maps_rng hp0.1.1 hx379
  refine Q (r_ixR tsl31 (hm26.lo hR373) rfl rfl (by omega)) <| Q (r_lda (l := encLMap (gt x.Maps ((idxF (hasId s.Id) x.Maps).toNat))) agg102 rfl (fun _ _ hu => (hm26.lo hR373).cell hx379 hu) ((hm26.lo hR373).esz _)) <| SR.alloc (l := [.int .i64 0, .int .i64 0, .int .i64 0]) tz102 rfl ?_
  intro g381 w382 hg383 hk384 hs385 hb386
  have hd389 := SlO.ne (g := g381) hm187
  refine Qw (o := 0) (vs := [.int .i64 ((gt x.Maps ((idxF (hasId s.Id) x.Maps).toNat)).Id), .int .i64 ((gt x.Maps ((idxF (hasId s.Id) x.Maps).toNat)).Copies), .int .i64 ((gt x.Maps ((idxF (hasId s.Id) x.Maps).toNat)).Torn)]) agg102.2 rfl rfl rfl rfl hb386 ler rfl ?_
  intro w391 hk392 hs393 hb394
  have hB396 := ((hB24.lo hR373).lo hk384).new hk392
  refine Q (aB rfl) <| Qn (Ws (Ws ?_))
  have hm397 := ((hm25.lo hR373).lo hk384).kn hk392
  have hm400 := (((hb14.lo hk20).lo hR373).lo hk384).kn hk392
  have hm401 := ((hb22.lo hR373).lo hk384).kn hk392
  have hm402 := (hm189.lo hk384).kn hk392
  have hm403 := (hm187.lo hk384).kd hk392 hd389
  have hm404 := (hm188.lo hk384).kd hk392 (SlO.ne (g := g381) hm188)
  refine Wr (Q (fA fa106_0 rfl) <| Q (lB sca3 rfl hm400 rfl) <| Qn (W.block (Ws (Wr (Q (r_eq rfl rfl) <| Q (aB rfl) <| Qn (W.cond_d rfl (fun h405 => ?_) (fun h405 => ?_)))))))
  ·refine Ws (Wr (Q (fA fa106_3 rfl) <| Q (lB sca3 rfl hm400 rfl) <| Q (fA fa102_2 rfl) <| Q (lB sca3 rfl hb394 rfl) <| Q (r_le rfl rfl) <| Q (aB rfl) <| Qn (Ws (W.regA (Kp (KA A134) w391) (fun f' w' => At f' [(2, .pointer (pA g1)), (3, .pointer (pA g9)), (4, .pointer (pA g17)), (5, .bool false), (7, .pointer (pA g162)), (9, .pointer (pA g381)), (10, .bool (decide (s.Value ≤ ((gt x.Maps ((idxF (hasId s.Id) x.Maps).toNat)).Torn))))] ∧ (Kp (KA A134) w391 w') ∧ (SlO w' w18.heap.size encLMap 3 102 A134 n135 c136 (x.Maps.set ((idxF (hasId s.Id) x.Maps).toNat) ({ (gt x.Maps ((idxF (hasId s.Id) x.Maps).toNat)) with Torn := ((gt x.Maps ((idxF (hasId s.Id) x.Maps).toNat)).Torn) - (min s.Value ((gt x.Maps ((idxF (hasId s.Id) x.Maps).toNat)).Torn)) }))) ∧ ((x.Maps.set ((idxF (hasId s.Id) x.Maps).toNat) ({ (gt x.Maps ((idxF (hasId s.Id) x.Maps).toNat)) with Torn := ((gt x.Maps ((idxF (hasId s.Id) x.Maps).toNat)).Torn) - (min s.Value ((gt x.Maps ((idxF (hasId s.Id) x.Maps).toNat)).Torn)) }))[(idxF (hasId s.Id) x.Maps).toNat]? = some ({ (gt x.Maps ((idxF (hasId s.Id) x.Maps).toNat)) with Torn := ((gt x.Maps ((idxF (hasId s.Id) x.Maps).toNat)).Torn) - (min s.Value ((gt x.Maps ((idxF (hasId s.Id) x.Maps).toNat)).Torn)) }))) mo ?_ ?_))))
   ·intro w443 hk444
    have hz445 := hk444.size
    refine Ak 0 rfl ((Kp.refl w391 : Kp (KA A134) w391 w391).lo hk444) (fun w' hw' => fA fa34_0 rfl) <| Ak 1 rfl ((Kp.refl w391 : Kp (KA A134) w391 w391).lo hk444) (fun w' hw' => r_ld (v := .slice A134 n135 c136) sca31 rfl ((hm402.kp hw' (fun e' => hd191 e')).cell rfl)) <| Ak 2 rfl ((Kp.refl w391 : Kp (KA A134) w391 w391).lo hk444) (fun w' hw' => r_mv (v := .int .i64 _) rfl) <| Ak 3 rfl ((Kp.refl w391 : Kp (KA A134) w391 w391).lo hk444) (fun w' hw' => fA fa102_2 rfl) <| Ak 4 rfl ((Kp.refl w391 : Kp (KA A134) w391 w391).lo hk444) (fun w' hw' => r_ld (v := .int .i64 ((gt x.Maps ((idxF (hasId s.Id) x.Maps).toNat)).Torn)) sca3 rfl ((hb394.kp hw' (fun e' => hd389 e')).cell rfl)) <| Ak 5 rfl ((Kp.refl w391 : Kp (KA A134) w391 w391).lo hk444) (fun w' hw' => fA fa106_3 rfl) <| Ak 6 rfl ((Kp.refl w391 : Kp (KA A134) w391 w391).lo hk444) (fun w' hw' => r_ld (v := .int .i64 s.Value) sca3 rfl ((hm400.kp hw' (fun e' => by have := hm403.base_le e'; omega)).cell rfl)) <| Ak 7 rfl ((Kp.refl w391 : Kp (KA A134) w391 w391).lo hk444) (fun w' hw' => fA fa102_2 rfl) <| Ak 8 rfl ((Kp.refl w391 : Kp (KA A134) w391 w391).lo hk444) (fun w' hw' => r_ld (v := .int .i64 ((gt x.Maps ((idxF (hasId s.Id) x.Maps).toNat)).Torn)) sca3 rfl ((hb394.kp hw' (fun e' => hd389 e')).cell rfl)) <| Ab 9 rfl (Qv ent167 (c_spec_l1Least w443 s.Value ((gt x.Maps ((idxF (hasId s.Id) x.Maps).toNat)).Torn)) rfl fun w447 hk448 hz449 => ?_)
    have hS451 := ((Kp.refl w391 : Kp (KA A134) w391 w391).lo hk444).lo hk448
    refine Qn ⟨hS451, _, rfl, (Ak 10 rfl hS451 (fun w' hw' => r_sub rfl rfl (by omega)) <| Ab 11 rfl (Q (r_ixR tsl31 (((hm403.lo hk444).lo hk448).rd) rfl rfl (by omega)) (Qn ⟨hS451, _, rfl, (Ak 12 rfl hS451 (fun w' hw' => fA fa102_2 rfl) <| Ab 13 rfl (SR.storeO (o := 2) (vs := [.int .i64 (((gt x.Maps ((idxF (hasId s.Id) x.Maps).toNat)).Torn) - (min s.Value ((gt x.Maps ((idxF (hasId s.Id) x.Maps).toNat)).Torn)))]) (x1 := { (gt x.Maps ((idxF (hasId s.Id) x.Maps).toNat)) with Torn := ((gt x.Maps ((idxF (hasId s.Id) x.Maps).toNat)).Torn) - (min s.Value ((gt x.Maps ((idxF (hasId s.Id) x.Maps).toNat)).Torn)) }) sca3.2 rfl (add_add _ _ _) rfl rfl ((hm403.lo hk444).lo hk448) hx379 rfl ler rfl ?_))⟩)))⟩
    intro w452 hk453 hs454 hO455
    have hz456 := hk453.size
    have hS458 := hS451.step hk453 (fun _ _ e => e)
    have hx459 : (x.Maps.set ((idxF (hasId s.Id) x.Maps).toNat) ({ (gt x.Maps ((idxF (hasId s.Id) x.Maps).toNat)) with Torn := ((gt x.Maps ((idxF (hasId s.Id) x.Maps).toNat)).Torn) - (min s.Value ((gt x.Maps ((idxF (hasId s.Id) x.Maps).toNat)).Torn)) }))[(idxF (hasId s.Id) x.Maps).toNat]? = some ({ (gt x.Maps ((idxF (hasId s.Id) x.Maps).toNat)) with Torn := ((gt x.Maps ((idxF (hasId s.Id) x.Maps).toNat)).Torn) - (min s.Value ((gt x.Maps ((idxF (hasId s.Id) x.Maps).toNat)).Torn)) }) := List.getElem?_set_self (List.getElem?_eq_some_iff.1 hx379).1
    refine Qn ⟨hS458, _, rfl, (AH.done (by kernel_rfl) (⟨(At.r rfl), hS458, hO455, hx459⟩))⟩
   rintro f460 w461 ⟨hat463, hR462, hm442, hx441⟩
   rw [← sets_of_at hat463]
   have hz464 := hR462.size
   refine W.regA (Kp (fun b_ => b_ = g162) w461) (fun f' w' => At f' [(4, .pointer (pA g17)), (5, .bool false), (7, .pointer (pA g162)), (10, .bool (decide (s.Value ≤ ((gt x.Maps ((idxF (hasId s.Id) x.Maps).toNat)).Torn))))] ∧ (Kp (fun b_ => b_ = g162) w461 w') ∧ (Blk w' g162 34 [.slice A134 n135 c136, .slice A138 n139 c140, .int .i64 x.Bought, .int .i64 x.Dropped, .int .i64 (x.Mended + (min s.Value ((gt x.Maps ((idxF (hasId s.Id) x.Maps).toNat)).Torn)))])) mo ?_ ?_
   ·intro w501 hk502
    have hz503 := hk502.size
    refine Ak 0 rfl (kr hk502) (fun w' hw' => fA fa34_4 rfl) <| Ak 1 rfl (kr hk502) (fun w' hw' => r_ld (v := .int .i64 x.Mended) sca3 rfl (((hm397.kp hR462 (fun e' => by have := hm403.base_le e'; omega)).kn hw' (by omega)).cell rfl)) <| Ak 2 rfl (kr hk502) (fun w' hw' => fA fa106_3 rfl) <| Ak 3 rfl (kr hk502) (fun w' hw' => r_ld (v := .int .i64 s.Value) sca3 rfl (((hm400.kp hR462 (fun e' => by have := hm403.base_le e'; omega)).kn hw' (by omega)).cell rfl)) <| Ak 4 rfl (kr hk502) (fun w' hw' => fA fa102_2 rfl) <| Ak 5 rfl (kr hk502) (fun w' hw' => r_ld (v := .int .i64 ((gt x.Maps ((idxF (hasId s.Id) x.Maps).toNat)).Torn)) sca3 rfl (((hb394.kp hR462 (fun e' => hd389 e')).kn hw' (by omega)).cell rfl)) <| Ab 6 rfl (Qv ent167 (c_spec_l1Least w501 s.Value ((gt x.Maps ((idxF (hasId s.Id) x.Maps).toNat)).Torn)) rfl fun w505 hk506 hz507 => ?_)
    have hS509 := ((Kp.refl w461 : Kp (fun b_ => b_ = g162) w461 w461).lo hk502).lo hk506
    refine Qn ⟨hS509, _, rfl, (Ak 7 rfl hS509 (fun w' hw' => r_add rfl rfl (by omega)) <| Ak 8 rfl hS509 (fun w' hw' => fA fa34_4 rfl) <| Ab 9 rfl (Qw (o := 4) (vs := [.int .i64 (x.Mended + (min s.Value ((gt x.Maps ((idxF (hasId s.Id) x.Maps).toNat)).Torn)))]) sca3.2 rfl rfl rfl rfl (((hm402.kp hR462 (fun e' => hd191 e')).lo hk502).lo hk506) ler rfl ?_))⟩
    intro w510 hk511 hs512 hb513
    have hS516 := hS509.step hk511 (fun _ _ e => e)
    refine Qn ⟨hS516, _, rfl, (AH.done (by kernel_rfl) (⟨(At.r rfl), hS516, hb513⟩))⟩
   rintro f517 w518 ⟨hat520, hR519, hm500⟩
   rw [← sets_of_at hat520]
   have hz521 := hR519.size
   refine Ws ?_
   have hm523 := (hm401.kp hR462 (fun e' => by have := hm403.base_le e'; omega)).kn hR519 (by omega)
   have hm524 := (hm404.kp hR462 (fun b_ hb e' => hd193 b_ e' hb)).kd hR519 hd192
   refine W.regA (Kp (fun b_ => b_ = g17) w518) (fun f' w' => At f' [(4, .pointer (pA g17)), (5, .bool (decide ((s.Value ≤ ((gt x.Maps ((idxF (hasId s.Id) x.Maps).toNat)).Torn)) ∧ (LibOK (⟨x.Maps.set ((idxF (hasId s.Id) x.Maps).toNat) ({ (gt x.Maps ((idxF (hasId s.Id) x.Maps).toNat)) with Torn := ((gt x.Maps ((idxF (hasId s.Id) x.Maps).toNat)).Torn) - (min s.Value ((gt x.Maps ((idxF (hasId s.Id) x.Maps).toNat)).Torn)) }), x.Away, x.Bought, x.Dropped, x.Mended + (min s.Value ((gt x.Maps ((idxF (hasId s.Id) x.Maps).toNat)).Torn))⟩ : Library)))))] ∧ (Kp (fun b_ => b_ = g17) w518 w') ∧ (Blk w' g17 34 [.slice A134 n135 c136, .slice A138 n139 c140, .int .i64 x.Bought, .int .i64 x.Dropped, .int .i64 (x.Mended + (min s.Value ((gt x.Maps ((idxF (hasId s.Id) x.Maps).toNat)).Torn)))])) mo ?_ ?_
   ·intro w540 hk541
    have hz542 := hk541.size
    refine Ak 0 rfl (kr hk541) (fun w' hw' => r_lda (l := [.slice A134 n135 c136, .slice A138 n139 c140, .int .i64 x.Bought, .int .i64 x.Dropped, .int .i64 (x.Mended + (min s.Value ((gt x.Maps ((idxF (hasId s.Id) x.Maps).toNat)).Torn)))]) agg34 rfl (fun _ _ hu => (hm500.kn hw' (by omega)).cell hu) rfl) <| Ak 1 rfl (kr hk541) (fun w' hw' => r_mv (v := .bool _) rfl) <| Ak 2 rfl (kr hk541) (fun w' hw' => r_mv (v := .bool _) rfl) <| AH.splitD (fun h544 => ?_) (fun h544 => ?_)
    ·refine AH.take 3 rfl (by kernel_rfl) rfl (kr hk541) (fun w' hw' => r_lda (l := [.slice A134 n135 c136, .slice A138 n139 c140, .int .i64 x.Bought, .int .i64 x.Dropped, .int .i64 (x.Mended + (min s.Value ((gt x.Maps ((idxF (hasId s.Id) x.Maps).toNat)).Torn)))]) agg34 rfl (fun _ _ hu => (hm500.kn hw' (by omega)).cell hu) rfl) <| AH.br [4] (by kernel_rfl) rfl ⟨Br.mk' rfl rfl (SR.gcall rfl ent80 (c_spec_l32Good w540 (⟨x.Maps.set ((idxF (hasId s.Id) x.Maps).toNat) ({ (gt x.Maps ((idxF (hasId s.Id) x.Maps).toNat)) with Torn := ((gt x.Maps ((idxF (hasId s.Id) x.Maps).toNat)).Torn) - (min s.Value ((gt x.Maps ((idxF (hasId s.Id) x.Maps).toNat)).Torn)) }), x.Away, x.Bought, x.Dropped, x.Mended + (min s.Value ((gt x.Maps ((idxF (hasId s.Id) x.Maps).toNat)).Torn))⟩ : Library) (((hm442.kd hR519 hd191).lo hk541).rd) ((hm524.lo hk541).rd)) rfl ?_), trivial⟩
     rintro e w545 ⟨rfl, hk546⟩
     refine ⟨_, rfl, ?_⟩
     have hz547 := hk546.size
     have hS549 := ((Kp.refl w518 : Kp (fun b_ => b_ = g17) w518 w518).lo hk541).lo hk546
     refine Qn ⟨hS549, _, rfl, (Ak 5 rfl hS549 (fun w' hw' => r_pick true rfl (v := .bool _) rfl) <| Ab 6 rfl (Qw (o := 0) (vs := [.slice A134 n135 c136, .slice A138 n139 c140, .int .i64 x.Bought, .int .i64 x.Dropped, .int .i64 (x.Mended + (min s.Value ((gt x.Maps ((idxF (hasId s.Id) x.Maps).toNat)).Torn)))]) agg34.2 rfl rfl rfl rfl ((hm523.lo hk541).lo hk546) ler rfl ?_))⟩
     intro w550 hk551 hs552 hb553
     have hS556 := hS549.step hk551 (fun _ _ e => e)
     refine Qn ⟨hS556, _, rfl, (Ak 7 rfl hS556 (fun w' hw' => r_as (v := .bool _) rfl) <| AH.done (by kernel_rfl) (⟨⟨rfl, (eDD (jat h544)), trivial⟩, hS556, hb553⟩))⟩
    ·refine AH.s' 3 rfl (by kernel_rfl) rfl (kr hk541) <| AH.s' 4 rfl (by kernel_rfl) rfl (kr hk541) <| Ak 5 rfl (kr hk541) (fun w' hw' => r_pick false rfl (v := .bool false) rfl) <| Ab 6 rfl (Qw (o := 0) (vs := [.slice A134 n135 c136, .slice A138 n139 c140, .int .i64 x.Bought, .int .i64 x.Dropped, .int .i64 (x.Mended + (min s.Value ((gt x.Maps ((idxF (hasId s.Id) x.Maps).toNat)).Torn)))]) agg34.2 rfl rfl rfl rfl (hm523.lo hk541) ler rfl ?_)
     intro w558 hk559 hs560 hb561
     have hS564 := ((Kp.refl w518 : Kp (fun b_ => b_ = g17) w518 w518).lo hk541).step hk559 (fun _ _ e => e)
     refine Qn ⟨hS564, _, rfl, (Ak 7 rfl hS564 (fun w' hw' => r_as (v := .bool _) rfl) <| AH.done (by kernel_rfl) (⟨⟨rfl, (eDF (jaf h544).2), trivial⟩, hS564, hb561⟩))⟩
   rintro f565 w566 ⟨hat568, hR567, hm557⟩
   rw [← sets_of_at hat568]
   have hz569 := hR567.size
   refine W.ret (retCT rfl rfl agg34 hm557 rfl (v := .bool _) rfl ?_)
   refine ⟨A134, n135, c136, A138, n139, c140, eR (eT2 (eA (eC rfl (eC rfl (eC (eI ?_) (eC (eI ?_) (eC (eI ?_) rfl)))))) (eB ?_)), (SlO.eqv (((hm442.kd hR519 hd191).kn hR567 (by omega)).down) ?_), (SlO.eqv ((hm524.kn hR567 (by omega)).down) ?_), hd193, (((hB396.step hR462 (fun i_ hi_ e' => by have := hm403.base_le e'; first | omega | exact e' | exact .inl e' | exact .inr e')).new hR519 (by omega)).new hR567 (by omega))⟩ <;> (subst hl146 hl148; unfold spec_l32Make; rw [if_neg h28, if_pos h405] <;> rfl)
  ·refine Ws (Wr (Q (r_eq rfl rfl) <| Q (aB rfl) <| Qn (W.cond_d rfl (fun h571 => ?_) (fun h571 => ?_))))
   ·refine Ws (Wr (Q (fA fa106_3 rfl) <| Q (lB sca3 rfl hm400 rfl) <| Q (fA fa102_2 rfl) <| Q (lB sca3 rfl hb394 rfl) <| Q (r_le rfl rfl) <| Q (aB rfl) <| Qn (Ws (W.regA (Kp (KA A134) w391) (fun f' w' => At f' [(2, .pointer (pA g1)), (3, .pointer (pA g9)), (4, .pointer (pA g17)), (5, .bool false), (7, .pointer (pA g162)), (9, .pointer (pA g381)), (10, .bool (decide (s.Value ≤ ((gt x.Maps ((idxF (hasId s.Id) x.Maps).toNat)).Torn))))] ∧ (Kp (KA A134) w391 w') ∧ (SlO w' w18.heap.size encLMap 3 102 A134 n135 c136 (x.Maps.set ((idxF (hasId s.Id) x.Maps).toNat) (⟨(gt x.Maps ((idxF (hasId s.Id) x.Maps).toNat)).Id, ((gt x.Maps ((idxF (hasId s.Id) x.Maps).toNat)).Copies) - (min s.Value ((gt x.Maps ((idxF (hasId s.Id) x.Maps).toNat)).Torn)), ((gt x.Maps ((idxF (hasId s.Id) x.Maps).toNat)).Torn) - (min s.Value ((gt x.Maps ((idxF (hasId s.Id) x.Maps).toNat)).Torn))⟩ : LMap))) ∧ ((x.Maps.set ((idxF (hasId s.Id) x.Maps).toNat) (⟨(gt x.Maps ((idxF (hasId s.Id) x.Maps).toNat)).Id, ((gt x.Maps ((idxF (hasId s.Id) x.Maps).toNat)).Copies) - (min s.Value ((gt x.Maps ((idxF (hasId s.Id) x.Maps).toNat)).Torn)), ((gt x.Maps ((idxF (hasId s.Id) x.Maps).toNat)).Torn) - (min s.Value ((gt x.Maps ((idxF (hasId s.Id) x.Maps).toNat)).Torn))⟩ : LMap))[(idxF (hasId s.Id) x.Maps).toNat]? = some (⟨(gt x.Maps ((idxF (hasId s.Id) x.Maps).toNat)).Id, ((gt x.Maps ((idxF (hasId s.Id) x.Maps).toNat)).Copies) - (min s.Value ((gt x.Maps ((idxF (hasId s.Id) x.Maps).toNat)).Torn)), ((gt x.Maps ((idxF (hasId s.Id) x.Maps).toNat)).Torn) - (min s.Value ((gt x.Maps ((idxF (hasId s.Id) x.Maps).toNat)).Torn))⟩ : LMap))) mo ?_ ?_))))
    ·intro w620 hk621
     have hz622 := hk621.size
     refine Ak 0 rfl ((Kp.refl w391 : Kp (KA A134) w391 w391).lo hk621) (fun w' hw' => fA fa34_0 rfl) <| Ak 1 rfl ((Kp.refl w391 : Kp (KA A134) w391 w391).lo hk621) (fun w' hw' => r_ld (v := .slice A134 n135 c136) sca31 rfl ((hm402.kp hw' (fun e' => hd191 e')).cell rfl)) <| Ak 2 rfl ((Kp.refl w391 : Kp (KA A134) w391 w391).lo hk621) (fun w' hw' => r_mv (v := .int .i64 _) rfl) <| Ak 3 rfl ((Kp.refl w391 : Kp (KA A134) w391 w391).lo hk621) (fun w' hw' => fA fa102_0 rfl) <| Ak 4 rfl ((Kp.refl w391 : Kp (KA A134) w391 w391).lo hk621) (fun w' hw' => r_ld (v := .int .i64 ((gt x.Maps ((idxF (hasId s.Id) x.Maps).toNat)).Id)) sca3 rfl ((hb394.kp hw' (fun e' => hd389 e')).cell rfl)) <| Ak 5 rfl ((Kp.refl w391 : Kp (KA A134) w391 w391).lo hk621) (fun w' hw' => fA fa102_1 rfl) <| Ak 6 rfl ((Kp.refl w391 : Kp (KA A134) w391 w391).lo hk621) (fun w' hw' => r_ld (v := .int .i64 ((gt x.Maps ((idxF (hasId s.Id) x.Maps).toNat)).Copies)) sca3 rfl ((hb394.kp hw' (fun e' => hd389 e')).cell rfl)) <| Ak 7 rfl ((Kp.refl w391 : Kp (KA A134) w391 w391).lo hk621) (fun w' hw' => fA fa106_3 rfl) <| Ak 8 rfl ((Kp.refl w391 : Kp (KA A134) w391 w391).lo hk621) (fun w' hw' => r_ld (v := .int .i64 s.Value) sca3 rfl ((hm400.kp hw' (fun e' => by have := hm403.base_le e'; omega)).cell rfl)) <| Ak 9 rfl ((Kp.refl w391 : Kp (KA A134) w391 w391).lo hk621) (fun w' hw' => fA fa102_2 rfl) <| Ak 10 rfl ((Kp.refl w391 : Kp (KA A134) w391 w391).lo hk621) (fun w' hw' => r_ld (v := .int .i64 ((gt x.Maps ((idxF (hasId s.Id) x.Maps).toNat)).Torn)) sca3 rfl ((hb394.kp hw' (fun e' => hd389 e')).cell rfl)) <| Ak 13 rfl ((Kp.refl w391 : Kp (KA A134) w391 w391).lo hk621) (fun w' hw' => fA fa102_2 rfl) <| Ak 14 rfl ((Kp.refl w391 : Kp (KA A134) w391 w391).lo hk621) (fun w' hw' => r_ld (v := .int .i64 ((gt x.Maps ((idxF (hasId s.Id) x.Maps).toNat)).Torn)) sca3 rfl ((hb394.kp hw' (fun e' => hd389 e')).cell rfl)) <| Ak 15 rfl ((Kp.refl w391 : Kp (KA A134) w391 w391).lo hk621) (fun w' hw' => fA fa106_3 rfl) <| Ak 16 rfl ((Kp.refl w391 : Kp (KA A134) w391 w391).lo hk621) (fun w' hw' => r_ld (v := .int .i64 s.Value) sca3 rfl ((hm400.kp hw' (fun e' => by have := hm403.base_le e'; omega)).cell rfl)) <| Ak 17 rfl ((Kp.refl w391 : Kp (KA A134) w391 w391).lo hk621) (fun w' hw' => fA fa102_2 rfl) <| Ak 18 rfl ((Kp.refl w391 : Kp (KA A134) w391 w391).lo hk621) (fun w' hw' => r_ld (v := .int .i64 ((gt x.Maps ((idxF (hasId s.Id) x.Maps).toNat)).Torn)) sca3 rfl ((hb394.kp hw' (fun e' => hd389 e')).cell rfl)) <| Ab 11 rfl (Qv ent167 (c_spec_l1Least w620 s.Value ((gt x.Maps ((idxF (hasId s.Id) x.Maps).toNat)).Torn)) rfl fun w624 hk625 hz626 => ?_)
     have hS628 := ((Kp.refl w391 : Kp (KA A134) w391 w391).lo hk621).lo hk625
     refine Qn ⟨hS628, _, rfl, (Ak 12 rfl hS628 (fun w' hw' => r_sub rfl rfl (by omega)) <| Ab 19 rfl (Qv ent167 (c_spec_l1Least w624 s.Value ((gt x.Maps ((idxF (hasId s.Id) x.Maps).toNat)).Torn)) rfl fun w629 hk630 hz631 => ?_))⟩
     have hS633 := hS628.lo hk630
     refine Qn ⟨hS633, _, rfl, (Ak 20 rfl hS633 (fun w' hw' => r_sub rfl rfl (by omega)) <| Ak 21 rfl hS633 (fun w' hw' => r_build (vs := [(0, .int .i64 ((gt x.Maps ((idxF (hasId s.Id) x.Maps).toNat)).Id)), (1, .int .i64 (((gt x.Maps ((idxF (hasId s.Id) x.Maps).toNat)).Copies) - (min s.Value ((gt x.Maps ((idxF (hasId s.Id) x.Maps).toNat)).Torn)))), (2, .int .i64 (((gt x.Maps ((idxF (hasId s.Id) x.Maps).toNat)).Torn) - (min s.Value ((gt x.Maps ((idxF (hasId s.Id) x.Maps).toNat)).Torn))))]) rfl (bld102_0_1_2 _ _ _)) <| Ab 22 rfl (Q (r_ixR tsl31 ((((hm403.lo hk621).lo hk625).lo hk630).rd) rfl rfl (by omega)) (Qn ⟨hS633, _, rfl, (Ab 23 rfl (SR.storeO (o := 0) (vs := [.int .i64 ((gt x.Maps ((idxF (hasId s.Id) x.Maps).toNat)).Id), .int .i64 (((gt x.Maps ((idxF (hasId s.Id) x.Maps).toNat)).Copies) - (min s.Value ((gt x.Maps ((idxF (hasId s.Id) x.Maps).toNat)).Torn))), .int .i64 (((gt x.Maps ((idxF (hasId s.Id) x.Maps).toNat)).Torn) - (min s.Value ((gt x.Maps ((idxF (hasId s.Id) x.Maps).toNat)).Torn)))]) (x1 := (⟨(gt x.Maps ((idxF (hasId s.Id) x.Maps).toNat)).Id, ((gt x.Maps ((idxF (hasId s.Id) x.Maps).toNat)).Copies) - (min s.Value ((gt x.Maps ((idxF (hasId s.Id) x.Maps).toNat)).Torn)), ((gt x.Maps ((idxF (hasId s.Id) x.Maps).toNat)).Torn) - (min s.Value ((gt x.Maps ((idxF (hasId s.Id) x.Maps).toNat)).Torn))⟩ : LMap)) agg102.2 rfl rfl rfl rfl (((hm403.lo hk621).lo hk625).lo hk630) hx379 rfl ler rfl ?_))⟩)))⟩
     intro w634 hk635 hs636 hO637
     have hz638 := hk635.size
     have hS640 := hS633.step hk635 (fun _ _ e => e)
     have hx641 : (x.Maps.set ((idxF (hasId s.Id) x.Maps).toNat) (⟨(gt x.Maps ((idxF (hasId s.Id) x.Maps).toNat)).Id, ((gt x.Maps ((idxF (hasId s.Id) x.Maps).toNat)).Copies) - (min s.Value ((gt x.Maps ((idxF (hasId s.Id) x.Maps).toNat)).Torn)), ((gt x.Maps ((idxF (hasId s.Id) x.Maps).toNat)).Torn) - (min s.Value ((gt x.Maps ((idxF (hasId s.Id) x.Maps).toNat)).Torn))⟩ : LMap))[(idxF (hasId s.Id) x.Maps).toNat]? = some (⟨(gt x.Maps ((idxF (hasId s.Id) x.Maps).toNat)).Id, ((gt x.Maps ((idxF (hasId s.Id) x.Maps).toNat)).Copies) - (min s.Value ((gt x.Maps ((idxF (hasId s.Id) x.Maps).toNat)).Torn)), ((gt x.Maps ((idxF (hasId s.Id) x.Maps).toNat)).Torn) - (min s.Value ((gt x.Maps ((idxF (hasId s.Id) x.Maps).toNat)).Torn))⟩ : LMap) := List.getElem?_set_self (List.getElem?_eq_some_iff.1 hx379).1
     refine Qn ⟨hS640, _, rfl, (AH.done (by kernel_rfl) (⟨(At.r rfl), hS640, hO637, hx641⟩))⟩
    rintro f642 w643 ⟨hat645, hR644, hm619, hx618⟩
    rw [← sets_of_at hat645]
    have hz646 := hR644.size
    refine W.regA (Kp (fun b_ => b_ = g162) w643) (fun f' w' => At f' [(4, .pointer (pA g17)), (5, .bool false), (7, .pointer (pA g162)), (10, .bool (decide (s.Value ≤ ((gt x.Maps ((idxF (hasId s.Id) x.Maps).toNat)).Torn))))] ∧ (Kp (fun b_ => b_ = g162) w643 w') ∧ (Blk w' g162 34 [.slice A134 n135 c136, .slice A138 n139 c140, .int .i64 x.Bought, .int .i64 (x.Dropped + (min s.Value ((gt x.Maps ((idxF (hasId s.Id) x.Maps).toNat)).Torn))), .int .i64 x.Mended])) mo ?_ ?_
    ·intro w683 hk684
     have hz685 := hk684.size
     refine Ak 0 rfl (kr hk684) (fun w' hw' => fA fa34_3 rfl) <| Ak 1 rfl (kr hk684) (fun w' hw' => r_ld (v := .int .i64 x.Dropped) sca3 rfl (((hm397.kp hR644 (fun e' => by have := hm403.base_le e'; omega)).kn hw' (by omega)).cell rfl)) <| Ak 2 rfl (kr hk684) (fun w' hw' => fA fa106_3 rfl) <| Ak 3 rfl (kr hk684) (fun w' hw' => r_ld (v := .int .i64 s.Value) sca3 rfl (((hm400.kp hR644 (fun e' => by have := hm403.base_le e'; omega)).kn hw' (by omega)).cell rfl)) <| Ak 4 rfl (kr hk684) (fun w' hw' => fA fa102_2 rfl) <| Ak 5 rfl (kr hk684) (fun w' hw' => r_ld (v := .int .i64 ((gt x.Maps ((idxF (hasId s.Id) x.Maps).toNat)).Torn)) sca3 rfl (((hb394.kp hR644 (fun e' => hd389 e')).kn hw' (by omega)).cell rfl)) <| Ab 6 rfl (Qv ent167 (c_spec_l1Least w683 s.Value ((gt x.Maps ((idxF (hasId s.Id) x.Maps).toNat)).Torn)) rfl fun w687 hk688 hz689 => ?_)
     have hS691 := ((Kp.refl w643 : Kp (fun b_ => b_ = g162) w643 w643).lo hk684).lo hk688
     refine Qn ⟨hS691, _, rfl, (Ak 7 rfl hS691 (fun w' hw' => r_add rfl rfl (by omega)) <| Ak 8 rfl hS691 (fun w' hw' => fA fa34_3 rfl) <| Ab 9 rfl (Qw (o := 3) (vs := [.int .i64 (x.Dropped + (min s.Value ((gt x.Maps ((idxF (hasId s.Id) x.Maps).toNat)).Torn)))]) sca3.2 rfl rfl rfl rfl (((hm402.kp hR644 (fun e' => hd191 e')).lo hk684).lo hk688) ler rfl ?_))⟩
     intro w692 hk693 hs694 hb695
     have hS698 := hS691.step hk693 (fun _ _ e => e)
     refine Qn ⟨hS698, _, rfl, (AH.done (by kernel_rfl) (⟨(At.r rfl), hS698, hb695⟩))⟩
    rintro f699 w700 ⟨hat702, hR701, hm682⟩
    rw [← sets_of_at hat702]
    have hz703 := hR701.size
    refine Ws ?_
    have hm705 := (hm401.kp hR644 (fun e' => by have := hm403.base_le e'; omega)).kn hR701 (by omega)
    have hm706 := (hm404.kp hR644 (fun b_ hb e' => hd193 b_ e' hb)).kd hR701 hd192
    refine W.regA (Kp (fun b_ => b_ = g17) w700) (fun f' w' => At f' [(4, .pointer (pA g17)), (5, .bool (decide ((s.Value ≤ ((gt x.Maps ((idxF (hasId s.Id) x.Maps).toNat)).Torn)) ∧ (LibOK (⟨x.Maps.set ((idxF (hasId s.Id) x.Maps).toNat) (⟨(gt x.Maps ((idxF (hasId s.Id) x.Maps).toNat)).Id, ((gt x.Maps ((idxF (hasId s.Id) x.Maps).toNat)).Copies) - (min s.Value ((gt x.Maps ((idxF (hasId s.Id) x.Maps).toNat)).Torn)), ((gt x.Maps ((idxF (hasId s.Id) x.Maps).toNat)).Torn) - (min s.Value ((gt x.Maps ((idxF (hasId s.Id) x.Maps).toNat)).Torn))⟩ : LMap), x.Away, x.Bought, x.Dropped + (min s.Value ((gt x.Maps ((idxF (hasId s.Id) x.Maps).toNat)).Torn)), x.Mended⟩ : Library)))))] ∧ (Kp (fun b_ => b_ = g17) w700 w') ∧ (Blk w' g17 34 [.slice A134 n135 c136, .slice A138 n139 c140, .int .i64 x.Bought, .int .i64 (x.Dropped + (min s.Value ((gt x.Maps ((idxF (hasId s.Id) x.Maps).toNat)).Torn))), .int .i64 x.Mended])) mo ?_ ?_
    ·intro w722 hk723
     have hz724 := hk723.size
     refine Ak 0 rfl (kr hk723) (fun w' hw' => r_lda (l := [.slice A134 n135 c136, .slice A138 n139 c140, .int .i64 x.Bought, .int .i64 (x.Dropped + (min s.Value ((gt x.Maps ((idxF (hasId s.Id) x.Maps).toNat)).Torn))), .int .i64 x.Mended]) agg34 rfl (fun _ _ hu => (hm682.kn hw' (by omega)).cell hu) rfl) <| Ak 1 rfl (kr hk723) (fun w' hw' => r_mv (v := .bool _) rfl) <| Ak 2 rfl (kr hk723) (fun w' hw' => r_mv (v := .bool _) rfl) <| AH.splitD (fun h726 => ?_) (fun h726 => ?_)
     ·refine AH.take 3 rfl (by kernel_rfl) rfl (kr hk723) (fun w' hw' => r_lda (l := [.slice A134 n135 c136, .slice A138 n139 c140, .int .i64 x.Bought, .int .i64 (x.Dropped + (min s.Value ((gt x.Maps ((idxF (hasId s.Id) x.Maps).toNat)).Torn))), .int .i64 x.Mended]) agg34 rfl (fun _ _ hu => (hm682.kn hw' (by omega)).cell hu) rfl) <| AH.br [4] (by kernel_rfl) rfl ⟨Br.mk' rfl rfl (SR.gcall rfl ent80 (c_spec_l32Good w722 (⟨x.Maps.set ((idxF (hasId s.Id) x.Maps).toNat) (⟨(gt x.Maps ((idxF (hasId s.Id) x.Maps).toNat)).Id, ((gt x.Maps ((idxF (hasId s.Id) x.Maps).toNat)).Copies) - (min s.Value ((gt x.Maps ((idxF (hasId s.Id) x.Maps).toNat)).Torn)), ((gt x.Maps ((idxF (hasId s.Id) x.Maps).toNat)).Torn) - (min s.Value ((gt x.Maps ((idxF (hasId s.Id) x.Maps).toNat)).Torn))⟩ : LMap), x.Away, x.Bought, x.Dropped + (min s.Value ((gt x.Maps ((idxF (hasId s.Id) x.Maps).toNat)).Torn)), x.Mended⟩ : Library) (((hm619.kd hR701 hd191).lo hk723).rd) ((hm706.lo hk723).rd)) rfl ?_), trivial⟩
      rintro e w727 ⟨rfl, hk728⟩
      refine ⟨_, rfl, ?_⟩
      have hz729 := hk728.size
      have hS731 := ((Kp.refl w700 : Kp (fun b_ => b_ = g17) w700 w700).lo hk723).lo hk728
      refine Qn ⟨hS731, _, rfl, (Ak 5 rfl hS731 (fun w' hw' => r_pick true rfl (v := .bool _) rfl) <| Ab 6 rfl (Qw (o := 0) (vs := [.slice A134 n135 c136, .slice A138 n139 c140, .int .i64 x.Bought, .int .i64 (x.Dropped + (min s.Value ((gt x.Maps ((idxF (hasId s.Id) x.Maps).toNat)).Torn))), .int .i64 x.Mended]) agg34.2 rfl rfl rfl rfl ((hm705.lo hk723).lo hk728) ler rfl ?_))⟩
      intro w732 hk733 hs734 hb735
      have hS738 := hS731.step hk733 (fun _ _ e => e)
      refine Qn ⟨hS738, _, rfl, (Ak 7 rfl hS738 (fun w' hw' => r_as (v := .bool _) rfl) <| AH.done (by kernel_rfl) (⟨⟨rfl, (eDD (jat h726)), trivial⟩, hS738, hb735⟩))⟩
     ·refine AH.s' 3 rfl (by kernel_rfl) rfl (kr hk723) <| AH.s' 4 rfl (by kernel_rfl) rfl (kr hk723) <| Ak 5 rfl (kr hk723) (fun w' hw' => r_pick false rfl (v := .bool false) rfl) <| Ab 6 rfl (Qw (o := 0) (vs := [.slice A134 n135 c136, .slice A138 n139 c140, .int .i64 x.Bought, .int .i64 (x.Dropped + (min s.Value ((gt x.Maps ((idxF (hasId s.Id) x.Maps).toNat)).Torn))), .int .i64 x.Mended]) agg34.2 rfl rfl rfl rfl (hm705.lo hk723) ler rfl ?_)
      intro w740 hk741 hs742 hb743
      have hS746 := ((Kp.refl w700 : Kp (fun b_ => b_ = g17) w700 w700).lo hk723).step hk741 (fun _ _ e => e)
      refine Qn ⟨hS746, _, rfl, (Ak 7 rfl hS746 (fun w' hw' => r_as (v := .bool _) rfl) <| AH.done (by kernel_rfl) (⟨⟨rfl, (eDF (jaf h726).2), trivial⟩, hS746, hb743⟩))⟩
    rintro f747 w748 ⟨hat750, hR749, hm739⟩
    rw [← sets_of_at hat750]
    have hz751 := hR749.size
    refine W.ret (retCT rfl rfl agg34 hm739 rfl (v := .bool _) rfl ?_)
    refine ⟨A134, n135, c136, A138, n139, c140, eR (eT2 (eA (eC rfl (eC rfl (eC (eI ?_) (eC (eI ?_) (eC (eI ?_) rfl)))))) (eB ?_)), (SlO.eqv (((hm619.kd hR701 hd191).kn hR749 (by omega)).down) ?_), (SlO.eqv ((hm706.kn hR749 (by omega)).down) ?_), hd193, (((hB396.step hR644 (fun i_ hi_ e' => by have := hm403.base_le e'; first | omega | exact e' | exact .inl e' | exact .inr e')).new hR701 (by omega)).new hR749 (by omega))⟩ <;> (subst hl146 hl148; unfold spec_l32Make; rw [if_neg h28, if_neg h405, if_pos h571] <;> rfl)
   ·refine Ws (Wr (Q (r_eq rfl rfl) <| Q (aB rfl) <| Qn (W.cond_d rfl (fun h753 => ?_) (fun h753 => ?_))))
    ·refine Ws (Wr (Q (fA fa106_3 rfl) <| Q (lB sca3 rfl hm400 rfl) <| Q (fA fa102_1 rfl) <| Q (lB sca3 rfl hb394 rfl) <| Q (fA fa102_2 rfl) <| Q (lB sca3 rfl hb394 rfl) <| Q (r_sub rfl rfl (by omega)) <| Q (r_le rfl rfl) <| Q (aB rfl) <| Qn (W.regA (Kp (KA A134) w391) (fun f' w' => At f' [(4, .pointer (pA g17)), (5, .bool false), (7, .pointer (pA g162)), (10, .bool (decide (s.Value ≤ (((gt x.Maps ((idxF (hasId s.Id) x.Maps).toNat)).Copies) - ((gt x.Maps ((idxF (hasId s.Id) x.Maps).toNat)).Torn)))))] ∧ (Kp (KA A134) w391 w') ∧ (SlO w' w18.heap.size encLMap 3 102 A134 n135 c136 (x.Maps.set ((idxF (hasId s.Id) x.Maps).toNat) ({ (gt x.Maps ((idxF (hasId s.Id) x.Maps).toNat)) with Torn := ((gt x.Maps ((idxF (hasId s.Id) x.Maps).toNat)).Torn) + (min s.Value 100) }))) ∧ ((x.Maps.set ((idxF (hasId s.Id) x.Maps).toNat) ({ (gt x.Maps ((idxF (hasId s.Id) x.Maps).toNat)) with Torn := ((gt x.Maps ((idxF (hasId s.Id) x.Maps).toNat)).Torn) + (min s.Value 100) }))[(idxF (hasId s.Id) x.Maps).toNat]? = some ({ (gt x.Maps ((idxF (hasId s.Id) x.Maps).toNat)) with Torn := ((gt x.Maps ((idxF (hasId s.Id) x.Maps).toNat)).Torn) + (min s.Value 100) }))) mo ?_ ?_)))
     ·intro w791 hk792
      have hz793 := hk792.size
      refine Ak 0 rfl ((Kp.refl w391 : Kp (KA A134) w391 w391).lo hk792) (fun w' hw' => fA fa34_0 rfl) <| Ak 1 rfl ((Kp.refl w391 : Kp (KA A134) w391 w391).lo hk792) (fun w' hw' => r_ld (v := .slice A134 n135 c136) sca31 rfl ((hm402.kp hw' (fun e' => hd191 e')).cell rfl)) <| Ak 2 rfl ((Kp.refl w391 : Kp (KA A134) w391 w391).lo hk792) (fun w' hw' => r_mv (v := .int .i64 _) rfl) <| Ak 3 rfl ((Kp.refl w391 : Kp (KA A134) w391 w391).lo hk792) (fun w' hw' => fA fa102_2 rfl) <| Ak 4 rfl ((Kp.refl w391 : Kp (KA A134) w391 w391).lo hk792) (fun w' hw' => r_ld (v := .int .i64 ((gt x.Maps ((idxF (hasId s.Id) x.Maps).toNat)).Torn)) sca3 rfl ((hb394.kp hw' (fun e' => hd389 e')).cell rfl)) <| Ak 5 rfl ((Kp.refl w391 : Kp (KA A134) w391 w391).lo hk792) (fun w' hw' => fA fa106_3 rfl) <| Ak 6 rfl ((Kp.refl w391 : Kp (KA A134) w391 w391).lo hk792) (fun w' hw' => r_ld (v := .int .i64 s.Value) sca3 rfl ((hm400.kp hw' (fun e' => by have := hm403.base_le e'; omega)).cell rfl)) <| Ab 7 rfl (Qv ent167 (c_spec_l1Least w791 s.Value 100) rfl fun w795 hk796 hz797 => ?_)
      have hS799 := ((Kp.refl w391 : Kp (KA A134) w391 w391).lo hk792).lo hk796
      refine Qn ⟨hS799, _, rfl, (Ak 8 rfl hS799 (fun w' hw' => r_add rfl rfl (by omega)) <| Ab 9 rfl (Q (r_ixR tsl31 (((hm403.lo hk792).lo hk796).rd) rfl rfl (by omega)) (Qn ⟨hS799, _, rfl, (Ak 10 rfl hS799 (fun w' hw' => fA fa102_2 rfl) <| Ab 11 rfl (SR.storeO (o := 2) (vs := [.int .i64 (((gt x.Maps ((idxF (hasId s.Id) x.Maps).toNat)).Torn) + (min s.Value 100))]) (x1 := { (gt x.Maps ((idxF (hasId s.Id) x.Maps).toNat)) with Torn := ((gt x.Maps ((idxF (hasId s.Id) x.Maps).toNat)).Torn) + (min s.Value 100) }) sca3.2 rfl (add_add _ _ _) rfl rfl ((hm403.lo hk792).lo hk796) hx379 rfl ler rfl ?_))⟩)))⟩
      intro w800 hk801 hs802 hO803
      have hz804 := hk801.size
      have hS806 := hS799.step hk801 (fun _ _ e => e)
      have hx807 : (x.Maps.set ((idxF (hasId s.Id) x.Maps).toNat) ({ (gt x.Maps ((idxF (hasId s.Id) x.Maps).toNat)) with Torn := ((gt x.Maps ((idxF (hasId s.Id) x.Maps).toNat)).Torn) + (min s.Value 100) }))[(idxF (hasId s.Id) x.Maps).toNat]? = some ({ (gt x.Maps ((idxF (hasId s.Id) x.Maps).toNat)) with Torn := ((gt x.Maps ((idxF (hasId s.Id) x.Maps).toNat)).Torn) + (min s.Value 100) }) := List.getElem?_set_self (List.getElem?_eq_some_iff.1 hx379).1
      refine Qn ⟨hS806, _, rfl, (AH.done (by kernel_rfl) (⟨(At.r rfl), hS806, hO803, hx807⟩))⟩
     rintro f808 w809 ⟨hat811, hR810, hm790, hx789⟩
     rw [← sets_of_at hat811]
     have hz812 := hR810.size
     refine Ws (W.regA (Kp (fun b_ => b_ = g17) w809) (fun f' w' => At f' [(4, .pointer (pA g17)), (5, .bool (decide ((s.Value ≤ (((gt x.Maps ((idxF (hasId s.Id) x.Maps).toNat)).Copies) - ((gt x.Maps ((idxF (hasId s.Id) x.Maps).toNat)).Torn))) ∧ (LibOK (⟨x.Maps.set ((idxF (hasId s.Id) x.Maps).toNat) ({ (gt x.Maps ((idxF (hasId s.Id) x.Maps).toNat)) with Torn := ((gt x.Maps ((idxF (hasId s.Id) x.Maps).toNat)).Torn) + (min s.Value 100) }), x.Away, x.Bought, x.Dropped, x.Mended⟩ : Library)))))] ∧ (Kp (fun b_ => b_ = g17) w809 w') ∧ (Blk w' g17 34 (cLb A134 n135 c136 A138 n139 c140 x))) mo ?_ ?_)
     ·intro w829 hk830
      have hz831 := hk830.size
      refine Ak 0 rfl (kr hk830) (fun w' hw' => r_lda (l := (cLb A134 n135 c136 A138 n139 c140 x)) agg34 rfl (fun _ _ hu => ((hm402.kp hR810 (fun e' => hd191 e')).kn hw' (by omega)).cell hu) rfl) <| Ak 1 rfl (kr hk830) (fun w' hw' => r_mv (v := .bool _) rfl) <| Ak 2 rfl (kr hk830) (fun w' hw' => r_mv (v := .bool _) rfl) <| AH.splitD (fun h833 => ?_) (fun h833 => ?_)
      ·refine AH.take 3 rfl (by kernel_rfl) rfl (kr hk830) (fun w' hw' => r_lda (l := (cLb A134 n135 c136 A138 n139 c140 x)) agg34 rfl (fun _ _ hu => ((hm402.kp hR810 (fun e' => hd191 e')).kn hw' (by omega)).cell hu) rfl) <| AH.br [4] (by kernel_rfl) rfl ⟨Br.mk' rfl rfl (SR.gcall rfl ent80 (c_spec_l32Good w829 (⟨x.Maps.set ((idxF (hasId s.Id) x.Maps).toNat) ({ (gt x.Maps ((idxF (hasId s.Id) x.Maps).toNat)) with Torn := ((gt x.Maps ((idxF (hasId s.Id) x.Maps).toNat)).Torn) + (min s.Value 100) }), x.Away, x.Bought, x.Dropped, x.Mended⟩ : Library) ((hm790.lo hk830).rd) (((hm404.kp hR810 (fun b_ hb e' => hd193 b_ e' hb)).lo hk830).rd)) rfl ?_), trivial⟩
       rintro e w834 ⟨rfl, hk835⟩
       refine ⟨_, rfl, ?_⟩
       have hz836 := hk835.size
       have hS838 := ((Kp.refl w809 : Kp (fun b_ => b_ = g17) w809 w809).lo hk830).lo hk835
       refine Qn ⟨hS838, _, rfl, (Ak 5 rfl hS838 (fun w' hw' => r_pick true rfl (v := .bool _) rfl) <| Ab 6 rfl (Qw (o := 0) (vs := (cLb A134 n135 c136 A138 n139 c140 x)) agg34.2 rfl rfl rfl rfl (((hm401.kp hR810 (fun e' => by have := hm403.base_le e'; omega)).lo hk830).lo hk835) ler rfl ?_))⟩
       intro w839 hk840 hs841 hb842
       have hS845 := hS838.step hk840 (fun _ _ e => e)
       refine Qn ⟨hS845, _, rfl, (Ak 7 rfl hS845 (fun w' hw' => r_as (v := .bool _) rfl) <| AH.done (by kernel_rfl) (⟨⟨rfl, (eDD (jat h833)), trivial⟩, hS845, hb842⟩))⟩
      ·refine AH.s' 3 rfl (by kernel_rfl) rfl (kr hk830) <| AH.s' 4 rfl (by kernel_rfl) rfl (kr hk830) <| Ak 5 rfl (kr hk830) (fun w' hw' => r_pick false rfl (v := .bool false) rfl) <| Ab 6 rfl (Qw (o := 0) (vs := (cLb A134 n135 c136 A138 n139 c140 x)) agg34.2 rfl rfl rfl rfl ((hm401.kp hR810 (fun e' => by have := hm403.base_le e'; omega)).lo hk830) ler rfl ?_)
       intro w847 hk848 hs849 hb850
       have hS853 := ((Kp.refl w809 : Kp (fun b_ => b_ = g17) w809 w809).lo hk830).step hk848 (fun _ _ e => e)
       refine Qn ⟨hS853, _, rfl, (Ak 7 rfl hS853 (fun w' hw' => r_as (v := .bool _) rfl) <| AH.done (by kernel_rfl) (⟨⟨rfl, (eDF (jaf h833).2), trivial⟩, hS853, hb850⟩))⟩
     rintro f854 w855 ⟨hat857, hR856, hm846⟩
     rw [← sets_of_at hat857]
     have hz858 := hR856.size
     refine W.ret (retCT rfl rfl agg34 hm846 rfl (v := .bool _) rfl ?_)
     refine ⟨A134, n135, c136, A138, n139, c140, eR (eT2 (eA (eC rfl (eC rfl (eC (eI ?_) (eC (eI ?_) (eC (eI ?_) rfl)))))) (eB ?_)), (SlO.eqv ((hm790.kn hR856 (by omega)).down) ?_), (SlO.eqv (((hm404.kp hR810 (fun b_ hb e' => hd193 b_ e' hb)).kn hR856 (by omega)).down) ?_), hd193, ((hB396.step hR810 (fun i_ hi_ e' => by have := hm403.base_le e'; first | omega | exact e' | exact .inl e' | exact .inr e')).new hR856 (by omega))⟩ <;> (subst hl146 hl148; unfold spec_l32Make; rw [if_neg h28, if_neg h405, if_neg h571, if_pos h753] <;> rfl)
    ·refine Wr (Q (lG agg34 rfl hm397 rfl) <| Q (lG agg106 rfl hm400 rfl) <| Q (mI rfl) <| SR.call ent168 (c_spec_l32Readers w391 x (((hm26.lo hR373).lo hk384).kn hk392) (((hm27.lo hR373).lo hk384).kn hk392) s (idxF (hasId s.Id) x.Maps) (by assumption) (by omega) (by omega)) rfl ?_)
     rintro e w860 ⟨A862, n863, c864, A866, n867, c868, rfl, hO865, hO869, hd870, hk861⟩
     refine ⟨_, rfl, ?_⟩
     have hz871 := hk861.size
     have hl873 := hO865.len
     have hl874 := hO865.rd.bound
     have hl875 := hO869.len
     have hl876 := hO869.rd.bound
     refine Q (mT rfl) <| Q (xG rfl rfl) <| Q (xB rfl rfl) <| Qw (o := 0) (vs := [.slice A862 n863 c864, .slice A866 n867 c868, .int .i64 (((spec_l32Readers x s (idxF (hasId s.Id) x.Maps)).1).Bought), .int .i64 (((spec_l32Readers x s (idxF (hasId s.Id) x.Maps)).1).Dropped), .int .i64 (((spec_l32Readers x s (idxF (hasId s.Id) x.Maps)).1).Mended)]) agg34.2 rfl rfl rfl rfl (hm402.lo hk861) ler rfl ?_
     intro w877 hk878 hs879 hb880
     refine Q (aB rfl) <| Qn (Ws ?_)
     have hm883 := (hm401.lo hk861).kn hk878
     refine W.regA (Kp (fun b_ => b_ = g17) w877) (fun f' w' => At f' [(4, .pointer (pA g17)), (5, .bool (decide ((((spec_l32Readers x s (idxF (hasId s.Id) x.Maps)).2) = true) ∧ (LibOK ((spec_l32Readers x s (idxF (hasId s.Id) x.Maps)).1)))))] ∧ (Kp (fun b_ => b_ = g17) w877 w') ∧ (Blk w' g17 34 [.slice A862 n863 c864, .slice A866 n867 c868, .int .i64 (((spec_l32Readers x s (idxF (hasId s.Id) x.Maps)).1).Bought), .int .i64 (((spec_l32Readers x s (idxF (hasId s.Id) x.Maps)).1).Dropped), .int .i64 (((spec_l32Readers x s (idxF (hasId s.Id) x.Maps)).1).Mended)])) mo ?_ ?_
     ·intro w899 hk900
      have hz901 := hk900.size
      refine Ak 0 rfl (kr hk900) (fun w' hw' => r_lda (l := [.slice A862 n863 c864, .slice A866 n867 c868, .int .i64 (((spec_l32Readers x s (idxF (hasId s.Id) x.Maps)).1).Bought), .int .i64 (((spec_l32Readers x s (idxF (hasId s.Id) x.Maps)).1).Dropped), .int .i64 (((spec_l32Readers x s (idxF (hasId s.Id) x.Maps)).1).Mended)]) agg34 rfl (fun _ _ hu => (hb880.kn hw' (by omega)).cell hu) rfl) <| Ak 1 rfl (kr hk900) (fun w' hw' => r_mv (v := .bool _) rfl) <| Ak 2 rfl (kr hk900) (fun w' hw' => r_mv (v := .bool _) rfl) <| AH.split (fun h903 => ?_) (fun h903 => ?_)
      ·refine AH.take 3 rfl (by kernel_rfl) rfl (kr hk900) (fun w' hw' => r_lda (l := [.slice A862 n863 c864, .slice A866 n867 c868, .int .i64 (((spec_l32Readers x s (idxF (hasId s.Id) x.Maps)).1).Bought), .int .i64 (((spec_l32Readers x s (idxF (hasId s.Id) x.Maps)).1).Dropped), .int .i64 (((spec_l32Readers x s (idxF (hasId s.Id) x.Maps)).1).Mended)]) agg34 rfl (fun _ _ hu => (hb880.kn hw' (by omega)).cell hu) rfl) <| AH.br [4] (by kernel_rfl) rfl ⟨Br.mk' rfl rfl (SR.gcall rfl ent80 (c_spec_l32Good w899 ((spec_l32Readers x s (idxF (hasId s.Id) x.Maps)).1) (((hO865.kn hk878).lo hk900).rd) (((hO869.kn hk878).lo hk900).rd)) rfl ?_), trivial⟩
       rintro e w904 ⟨rfl, hk905⟩
       refine ⟨_, rfl, ?_⟩
       have hz906 := hk905.size
       have hS908 := ((Kp.refl w877 : Kp (fun b_ => b_ = g17) w877 w877).lo hk900).lo hk905
       refine Qn ⟨hS908, _, rfl, (Ak 5 rfl hS908 (fun w' hw' => r_pick true rfl (v := .bool _) rfl) <| Ab 6 rfl (Qw (o := 0) (vs := [.slice A862 n863 c864, .slice A866 n867 c868, .int .i64 (((spec_l32Readers x s (idxF (hasId s.Id) x.Maps)).1).Bought), .int .i64 (((spec_l32Readers x s (idxF (hasId s.Id) x.Maps)).1).Dropped), .int .i64 (((spec_l32Readers x s (idxF (hasId s.Id) x.Maps)).1).Mended)]) agg34.2 rfl rfl rfl rfl ((hm883.lo hk900).lo hk905) ler rfl ?_))⟩
       intro w909 hk910 hs911 hb912
       have hS915 := hS908.step hk910 (fun _ _ e => e)
       refine Qn ⟨hS915, _, rfl, (Ak 7 rfl hS915 (fun w' hw' => r_as (v := .bool _) rfl) <| AH.done (by kernel_rfl) (⟨⟨rfl, (eDD (jat h903)), trivial⟩, hS915, hb912⟩))⟩
      ·refine AH.s' 3 rfl (by kernel_rfl) rfl (kr hk900) <| AH.s' 4 rfl (by kernel_rfl) rfl (kr hk900) <| Ak 5 rfl (kr hk900) (fun w' hw' => r_pick false rfl (v := .bool false) rfl) <| Ab 6 rfl (Qw (o := 0) (vs := [.slice A862 n863 c864, .slice A866 n867 c868, .int .i64 (((spec_l32Readers x s (idxF (hasId s.Id) x.Maps)).1).Bought), .int .i64 (((spec_l32Readers x s (idxF (hasId s.Id) x.Maps)).1).Dropped), .int .i64 (((spec_l32Readers x s (idxF (hasId s.Id) x.Maps)).1).Mended)]) agg34.2 rfl rfl rfl rfl (hm883.lo hk900) ler rfl ?_)
       intro w917 hk918 hs919 hb920
       have hS923 := ((Kp.refl w877 : Kp (fun b_ => b_ = g17) w877 w877).lo hk900).step hk918 (fun _ _ e => e)
       refine Qn ⟨hS923, _, rfl, (Ak 7 rfl hS923 (fun w' hw' => r_as (v := .bool _) rfl) <| AH.done (by kernel_rfl) (⟨⟨rfl, (eDF (jaf (ne_true_of_eq_false h903)).2), trivial⟩, hS923, hb920⟩))⟩
     rintro f924 w925 ⟨hat927, hR926, hm916⟩
     rw [← sets_of_at hat927]
     have hz928 := hR926.size
     refine W.ret (retCT rfl rfl agg34 hm916 rfl (v := .bool _) rfl ?_)
     refine ⟨A862, n863, c864, A866, n867, c868, eR (eT2 (eA (eC rfl (eC rfl (eC (eI ?_) (eC (eI ?_) (eC (eI ?_) rfl)))))) (eB ?_)), (SlO.eqv (((hO865.kn hk878).kn hR926 (by omega)).down) ?_), (SlO.eqv (((hO869.kn hk878).kn hR926 (by omega)).down) ?_), hd870, (((hB396.lo hk861).new hk878).new hR926 (by omega))⟩ <;> (subst hl873 hl875; unfold spec_l32Make; rw [if_neg h28, if_neg h405, if_neg h571, if_neg h753] <;> rfl)
open Classical in
noncomputable def spec_StepLibrary (x : Library) (s : LibraryStep) : Library × Bool :=
 if (¬ (LibOK x)) ∨ ((!(spec_l32Step x s)) = true) then ((⟨([] : List LMap), ([] : List Away), 0, 0, 0⟩ : Library), false) else if (!((spec_l32Make x s).2)) = true then ((⟨([] : List LMap), ([] : List Away), 0, 0, 0⟩ : Library), false) else (((spec_l32Make x s).1), true)
theorem c_spec_StepLibrary (w : World) (x : Library) {Ax1 : Option Addr} {nx1 cx1 Bx1 : Nat} (hx1 : SlR w Bx1 encLMap 3 Ax1 nx1 cx1 x.Maps) {Ax2 : Option Addr} {nx2 cx2 Bx2 : Nat} (hx2 : SlR w Bx2 encAway 2 Ax2 nx2 cx2 x.Away) (s : LibraryStep) : Calls Tryz.prog 67 #[.agg (List.toArray (cLb Ax1 nx1 cx1 Ax2 nx2 cx2 x)), .agg (List.toArray (encLibraryStep s))] w fun e w' => ∃ (A1' : Option Addr) (n1' c1' : Nat) (A2' : Option Addr) (n2' c2' : Nat), e = .returned (.tuple (List.toArray [.agg (List.toArray [.slice A1' n1' c1', .slice A2' n2' c2', .int .i64 (((spec_StepLibrary x s).1).Bought), .int .i64 (((spec_StepLibrary x s).1).Dropped), .int .i64 (((spec_StepLibrary x s).1).Mended)]), .bool ((spec_StepLibrary x s).2)])) ∧ SlO w' w.heap.size encLMap 3 102 A1' n1' c1' (((spec_StepLibrary x s).1).Maps) ∧ SlO w' w.heap.size encAway 2 129 A2' n2' c2' (((spec_StepLibrary x s).1).Away) ∧ Dj A1' A2' ∧ Lo w w' := by
 refine calls_W 28 Tryz.func67 rfl rfl rfl ?_
 have hbdx1 := hx1.bound
 have hlex1 := hx1.len
 have hBbx1 := hx1.bd
 have hbdx2 := hx2.bound
 have hlex2 := hx2.len
 have hBbx2 := hx2.bd
 refine Ws (Wr (SR.box (v := .agg (List.toArray _)) (l := (cLb Ax1 nx1 cx1 Ax2 nx2 cx2 x)) rfl rfl ?_))
 intro g1 w2 hg3 hk4 hs5 hb6
 refine SR.box (v := .agg (List.toArray _)) (l := [.int .i64 s.Kind, .int .i64 s.Id, .int .i64 s.Reader, .int .i64 s.Value]) rfl rfl ?_
 intro g9 w10 hg11 hk12 hs13 hb14
 refine SR.alloc (l := [.slice none 0 0, .slice none 0 0, .int .i64 0, .int .i64 0, .int .i64 0]) tz34 rfl ?_
 intro g17 w18 hg19 hk20 hs21 hb22
 refine Q (aB rfl) <| Qn (Ws (Ws ?_))
 have hm25 := (hb6.lo hk12).lo hk20
 have hm26 := ((hx1.lo hk4).lo hk12).lo hk20
 have hm27 := ((hx2.lo hk4).lo hk12).lo hk20
 refine W.regJS (fun f' w' => At f' [(2, .pointer (pA g1)), (3, .pointer (pA g9)), (4, .pointer (pA g17)), (5, .bool false), (16, .bool (decide ((¬ (LibOK x)) ∨ ((!(spec_l32Step x s)) = true))))] ∧ Lo w18 w') ?_ ?_
 ·refine Q (lG agg34 rfl hm25 rfl) <| Qv ent80 (c_spec_l32Good w18 x hm26 hm27) rfl fun w28 hk29 hz30 => (Q (r_not rfl) <| Q (mB rfl) <| SR.splitN (fun h32 => ?_) (fun h32 => ?_))
  ·refine Qs rfl <| Qs rfl <| Qs rfl <| Qs rfl <| Q (r_pick true rfl (v := .bool true) rfl) <| Qn (⟨_, rfl, ⟨⟨rfl, rfl, rfl, rfl, (eDT ((jmf h32).1 trivial)), trivial⟩, hk29⟩⟩)
  ·have hq33 := And.left h32
   have hq34 := lib_len h32
   have hq35 := And.left hq33
   have hq36 := And.right hq33
   refine Qg rfl (lG agg34 rfl (hm25.lo hk29) rfl) <| Qg rfl (lG agg106 rfl ((hb14.lo hk20).lo hk29) rfl) <| SR.gcall rfl ent114 (c_spec_l32Step w28 x (hm26.lo hk29) (hm27.lo hk29) s) rfl ?_
   rintro e w37 ⟨rfl, hk38⟩
   refine ⟨_, rfl, ?_⟩
   have hz39 := hk38.size
   refine Qg rfl (r_not rfl) <| Q (r_pick false rfl (v := .bool _) rfl) <| Qn (⟨_, rfl, ⟨⟨rfl, rfl, rfl, rfl, (eBD (jmt h32)), trivial⟩, (hk29.trans hk38)⟩⟩)
 rintro f41 w42 ⟨hat43, hk44⟩
 rw [← sets_of_at hat43]
 have hz45 := hk44.size
 have hB46 := ((((Lo.refl w).lo hk4).lo hk12).lo hk20).lo hk44
 refine W.cond_d rfl (fun h47 => ?_) (fun h47 => ?_)
 ·refine Ws (Wr (Q (r_build (vs := []) rfl bld34_) <| Qw (o := 0) (vs := [.slice none 0 0, .slice none 0 0, .int .i64 0, .int .i64 0, .int .i64 0]) agg34.2 rfl rfl rfl rfl (hb22.lo hk44) ler rfl ?_))
  intro w49 hk50 hs51 hb52
  refine Q (aB rfl) <| Qn (W.ret (retCT rfl rfl agg34 hb52 rfl (v := .bool _) rfl ?_))
  refine ⟨none, 0, 0, none, 0, 0, eR (eT2 (eA (eC rfl (eC rfl (eC (eI ?_) (eC (eI ?_) (eC (eI ?_) rfl)))))) (eB ?_)), (SlO.eqv (SlO.nil (e := 102) (enc := encLMap) (fun _ => rfl) (by omega)) ?_), (SlO.eqv (SlO.nil (e := 129) (enc := encAway) (fun _ => rfl) (by omega)) ?_), (fun b_ h => by cases h), (hB46.new hk50)⟩ <;> (unfold spec_StepLibrary; rw [if_pos h47] <;> rfl)
 ·have hq55 : LibOK x := (Classical.not_not.1 (not_or.1 h47).1)
  have hq56 : ¬ ((!(spec_l32Step x s)) = true) := (not_or.1 h47).2
  have hq57 := And.left hq55
  have hq58 := lib_len hq55
  have hq59 := bnot_n hq56
  have hq60 := And.left hq57
  have hq61 := And.right hq57
  refine W.skip (Ws (Wr (Q (lG agg34 rfl (hm25.lo hk44) rfl) <| Q (lG agg106 rfl ((hb14.lo hk20).lo hk44) rfl) <| SR.call ent115 (c_spec_l32Make w42 x (hm26.lo hk44) (hm27.lo hk44) s (by assumption) (by assumption)) rfl ?_)))
  rintro e w63 ⟨A65, n66, c67, A69, n70, c71, rfl, hO68, hO72, hd73, hk64⟩
  refine ⟨_, rfl, ?_⟩
  have hz74 := hk64.size
  have hl76 := hO68.len
  have hl77 := hO68.rd.bound
  have hl78 := hO72.len
  have hl79 := hO72.rd.bound
  refine Q (mT rfl) <| Q (xG rfl rfl) <| Q (xB rfl rfl) <| SR.alloc (l := [.slice none 0 0, .slice none 0 0, .int .i64 0, .int .i64 0, .int .i64 0]) tz34 rfl ?_
  intro g80 w81 hg82 hk83 hs84 hb85
  refine Qw (o := 0) (vs := [.slice A65 n66 c67, .slice A69 n70 c71, .int .i64 (((spec_l32Make x s).1).Bought), .int .i64 (((spec_l32Make x s).1).Dropped), .int .i64 (((spec_l32Make x s).1).Mended)]) agg34.2 rfl rfl rfl rfl hb85 ler rfl ?_
  intro w90 hk91 hs92 hb93
  have hB95 := ((hB46.lo hk64).lo hk83).new hk91
  refine Q (aB rfl) <| Qn (Ws (Ws ?_))
  have hm96 := (((hb22.lo hk44).lo hk64).lo hk83).kn hk91
  refine Wr (Q (mB rfl) <| Q (r_not rfl) <| Qn (W.cond_b rfl (fun h99 => ?_) (fun h99 => ?_)))
  ·have hq100 := bnot_t h99
   refine Ws (Wr (Q (r_build (vs := []) rfl bld34_) <| Qw (o := 0) (vs := [.slice none 0 0, .slice none 0 0, .int .i64 0, .int .i64 0, .int .i64 0]) agg34.2 rfl rfl rfl rfl hm96 ler rfl ?_))
   intro w101 hk102 hs103 hb104
   refine Q (aB rfl) <| Qn (W.ret (retCT rfl rfl agg34 hb104 rfl (v := .bool _) rfl ?_))
   refine ⟨none, 0, 0, none, 0, 0, eR (eT2 (eA (eC rfl (eC rfl (eC (eI ?_) (eC (eI ?_) (eC (eI ?_) rfl)))))) (eB ?_)), (SlO.eqv (SlO.nil (e := 102) (enc := encLMap) (fun _ => rfl) (by omega)) ?_), (SlO.eqv (SlO.nil (e := 129) (enc := encAway) (fun _ => rfl) (by omega)) ?_), (fun b_ h => by cases h), (hB95.new hk102)⟩ <;> (unfold spec_StepLibrary; rw [if_neg h47, if_pos h99] <;> rfl)
  ·have hq107 := bnot_f h99
   refine W.skip (Ws (Wr (Q (lG agg34 rfl hb93 rfl) <| Qw (o := 0) (vs := [.slice A65 n66 c67, .slice A69 n70 c71, .int .i64 (((spec_l32Make x s).1).Bought), .int .i64 (((spec_l32Make x s).1).Dropped), .int .i64 (((spec_l32Make x s).1).Mended)]) agg34.2 rfl rfl rfl rfl hm96 ler rfl ?_)))
   intro w108 hk109 hs110 hb111
   refine Q (aB rfl) <| Qn (W.ret (retCT rfl rfl agg34 hb111 rfl (v := .bool _) rfl ?_))
   refine ⟨A65, n66, c67, A69, n70, c71, eR (eT2 (eA (eC rfl (eC rfl (eC (eI ?_) (eC (eI ?_) (eC (eI ?_) rfl)))))) (eB ?_)), (SlO.eqv ((((hO68.lo hk83).kd hk91 (SlO.ne (g := g80) hO68)).kn hk109).down) ?_), (SlO.eqv ((((hO72.lo hk83).kd hk91 (SlO.ne (g := g80) hO72)).kn hk109).down) ?_), hd73, (hB95.new hk109)⟩ <;> (subst hl76 hl78; unfold spec_StepLibrary; rw [if_neg h47, if_neg (ne_true_of_eq_false h99)] <;> rfl)
end Go.Proofs.YtndcchndcghmoaaGreatDoor
namespace Go.Proofs.YtndcchndcghmoaaGreatDoor
open Go Go.RowKit Fw
def noLib : Library := ⟨[], [], 0, 0, 0⟩
section
variable {x y : Library} {s : LibraryStep} {L : List LMap} {A : List Away} {k i : Nat} {m z : LMap} {v : Int}
theorem ins_set {α : Type} {L : List α} {k : Nat} {y z : α} (hk : k ≤ L.length) : (L.take k ++ [y] ++ L.drop k).set k z = L.take k ++ [z] ++ L.drop k := by
  have h : (L.take k).length = k := by simp; omega
  rw [List.append_assoc, List.set_append_right _ _ (by omega), h]; simp
theorem ins_gt {α : Type} [Inhabited α] {L : List α} {k : Nat} {y : α} (hk : k ≤ L.length) : gt (L.take k ++ [y] ++ L.drop k) k = y := by
  have h : (L.take k).length = k := by simp; omega
  refine gt_eq ?_
  rw [List.append_assoc, List.getElem?_append_right (by omega), h]; simp
theorem set_gt {α : Type} [Inhabited α] {L : List α} {k : Nat} {y : α} (hk : k < L.length) : gt (L.set k y) k = y := gt_eq (by simp [hk])
theorem buy_eq (hx : LibOK x) (h1 : 1 ≤ s.Value ∧ s.Value ≤ 50) : impl_Library_buy x s = boughtN x s.Id s.Value := by
  obtain ⟨e1, e2, e3⟩ := bsM hx.1.1 s.Id
  have hr := lib_rng hx
  unfold impl_Library_buy boughtN
  by_cases hf : bsF cmpM s.Id x.Maps
  · have e := e3 hf
    have hlt : bsP cmpM s.Id x.Maps < x.Maps.length := by have := hf.1; omega
    have hm := maps_at hx.1.1 hlt
    rw [if_pos hf, if_pos (e2.1 hf), ← e]
    simp only [Int.toNat_natCast]
    rw [wrap64_in (by omega), wrap64_in (by omega)]
    rfl
  · rw [if_neg hf, if_neg (mt e2.2 hf)]
    have hle := bsP_le (c := cmpM) (t := s.Id) (L := x.Maps)
    simp only [Int.toNat_natCast]
    rw [ins_gt hle, ins_set hle, e1]
    dsimp only
    rw [wrap64_in (by omega), wrap64_in (by omega)]
    unfold insAt; simp
theorem step_iff : spec_l32Step x s = true ↔ impl_isLibraryStep s = true ∧ (¬ s.Kind = 1 → 0 ≤ idxF (hasId s.Id) x.Maps) := by
  unfold spec_l32Step impl_isLibraryStep
  by_cases h1 : s.Kind = 1
  · simp only [if_pos h1, decide_eq_true_eq]
    exact ⟨fun h => ⟨h, fun q => absurd h1 q⟩, fun h => h.1⟩
  by_cases h2 : s.Kind = 2
  · simp only [if_neg h1, if_pos h2, decide_eq_true_eq]; omega
  by_cases h3 : s.Kind = 3
  · simp only [if_neg h1, if_neg h2, if_pos h3, decide_eq_true_eq]; omega
  by_cases h5 : s.Kind = 5
  · simp only [if_neg h1, if_neg h2, if_neg h3, if_pos h5, decide_eq_true_eq]; omega
  by_cases h4 : s.Kind = 4
  · simp only [if_neg h1, if_neg h2, if_neg h3, if_neg h5, if_pos h4, decide_eq_true_eq]; omega
  by_cases h6 : s.Kind = 6
  · simp only [if_neg h1, if_neg h2, if_neg h3, if_neg h5, if_neg h4, if_pos h6, decide_eq_true_eq]; omega
  by_cases h7 : s.Kind = 7
  · simp only [if_neg h1, if_neg h2, if_neg h3, if_neg h5, if_neg h4, if_neg h6, if_pos h7, decide_eq_true_eq]; omega
  simp only [if_neg h1, if_neg h2, if_neg h3, if_neg h5, if_neg h4, if_neg h6, if_neg h7, decide_eq_true_eq]
  exact ⟨fun h => by omega, fun h => absurd h.1 (by simp)⟩
theorem lib_at (h : LibOK y) (hy : y.Maps = L.set k m) (hk : k < L.length) : 0 ≤ m.Torn ∧ m.Torn ≤ m.Copies := by
  have h1 := maps_at (k := k) h.1.1 (by rw [hy]; simpa using hk)
  rw [hy, set_gt hk] at h1
  exact h1.2.2.1
def UseOK (u s : Library × Bool) : Prop := ((u.2 = true ∧ LibOK u.1) ↔ s.2 = true) ∧ (s.2 = true → u.1 = s.1)
theorem useOK_same {u : Library × Bool} {q : Library} {p : Prop} [Decidable p] (h : u.2 = true ∧ LibOK u.1 → p) (h2 : p → u.2 = true ∧ u.1 = q) : UseOK u (q, decide (p ∧ LibOK q)) := by
  constructor
  · rw [decide_eq_true_eq]
    constructor
    · intro hh; have hp := h hh; exact ⟨hp, (h2 hp).2 ▸ hh.2⟩
    · rintro ⟨hp, hq⟩; exact ⟨(h2 hp).1, (h2 hp).2.symm ▸ hq⟩
  · intro hh; exact (h2 (of_decide_eq_true hh).1).2
theorem aw_idx (hx : LibOK x) (id r : Int) : bsP cmpA ⟨id, r⟩ x.Away = bdA ⟨id, r⟩ x.Away ∧ (bsF cmpA ⟨id, r⟩ x.Away ↔ 0 ≤ idxF (isA id r) x.Away) ∧ (bsF cmpA ⟨id, r⟩ x.Away → (bsP cmpA ⟨id, r⟩ x.Away : Int) = idxF (isA id r) x.Away) := bsA (aw_s hx.2.1.1) id r
theorem use_ok (hx : LibOK x) (hs : spec_l32Step x s = true) (h1 : ¬ s.Kind = 1) (hv : s.Value ≤ 9223372036854775807) : UseOK (impl_Library_use x s (idxF (hasId s.Id) x.Maps)) (spec_l32Make x s) := by
  have hsr := stepL_rng hs
  have hi := hsr.2.1 h1
  have hlt := (idx_lt (p := hasId s.Id) (L := x.Maps)).1
  unfold spec_l32Make impl_Library_use
  simp only [if_neg h1]
  generalize hj : (idxF (hasId s.Id) x.Maps).toNat = j
  have hjl : j < x.Maps.length := by omega
  have hm := maps_at hx.1.1 hjl
  have hr := lib_rng hx
  have hst : spec_l32Readers x s (idxF (hasId s.Id) x.Maps) = spec_l32Readers x s (idxF (hasId s.Id) x.Maps) := rfl
  by_cases h4 : s.Kind = 4
  · simp only [if_neg (show ¬ s.Kind = 2 by omega), if_neg (show ¬ s.Kind = 3 by omega), if_neg (show ¬ s.Kind = 5 by omega), if_pos h4]
    refine useOK_same (fun hh => ?_) (fun hp => ⟨rfl, ?_⟩)
    · have h := lib_at hh.2 rfl hjl
      dsimp only at h
      rw [wrap64_in (by omega)] at h; omega
    · rw [wrap64_in (by omega), wrap64_in (by omega), Int.min_eq_left hp]
  by_cases h6 : s.Kind = 6
  · simp only [if_neg (show ¬ s.Kind = 2 by omega), if_neg (show ¬ s.Kind = 3 by omega), if_neg (show ¬ s.Kind = 5 by omega), if_neg h4, if_pos h6]
    refine useOK_same (fun hh => ?_) (fun hp => ⟨rfl, ?_⟩)
    · have h := lib_at hh.2 (List.set_set ..) hjl
      dsimp only at h
      rw [wrap64_in (by omega)] at h; omega
    · rw [wrap64_in (by omega), wrap64_in (by omega), wrap64_in (by omega), Int.min_eq_left hp, List.set_set]
  by_cases h7 : s.Kind = 7
  · simp only [if_neg (show ¬ s.Kind = 2 by omega), if_neg (show ¬ s.Kind = 3 by omega), if_neg (show ¬ s.Kind = 5 by omega), if_neg h4, if_neg h6, if_pos h7]
    refine useOK_same (fun hh => ?_) (fun hp => ⟨rfl, ?_⟩)
    · have h := lib_at hh.2 rfl hjl
      dsimp only at h
      simp only [IntKind.wrap_i64] at h; omega
    · rw [wrap64_in (by omega), Int.min_eq_left (by omega)]
  simp only [if_neg h4, if_neg h6, if_neg h7]
  have hV := hsr.2.2.2 ⟨h4, h6, h7⟩
  have hV0 := hsr.2.2.1
  obtain ⟨a1, a2, a3⟩ := aw_idx hx s.Id s.Reader
  have hal := (idx_lt (p := isA s.Id s.Reader) (L := x.Away)).1
  unfold spec_l32Readers
  rw [hj]
  by_cases h2 : s.Kind = 2
  · simp only [if_pos h2]
    unfold impl_Library_give
    refine useOK_same (p := _ = true) (fun hh => ?_) (fun hp => ?_)
    · by_cases hf : bsF cmpA ⟨s.Id, s.Reader⟩ x.Away
      · rw [if_pos hf] at hh; exact absurd hh.1 (by simp)
      · rw [if_neg hf] at hh
        have h := lib_at hh.2 rfl hjl
        dsimp only at h
        rw [wrap64_in (by omega)] at h
        refine decide_eq_true ⟨?_, by omega⟩
        have := mt a2.2 hf; omega
    · have hp' := of_decide_eq_true hp
      have hf : ¬ bsF cmpA ⟨s.Id, s.Reader⟩ x.Away := fun hf => by have := a2.1 hf; omega
      rw [if_neg hf]
      refine ⟨rfl, ?_⟩
      dsimp only
      rw [a1, wrap64_in (by omega), Int.toNat_natCast]
      rfl
  simp only [if_neg h2]
  by_cases h3 : s.Kind = 3
  · simp only [if_pos h3, if_neg (show ¬ s.Kind = 5 by omega)]
    unfold impl_Library_fetch
    by_cases hf : bsF cmpA ⟨s.Id, s.Reader⟩ x.Away
    · rw [if_pos hf, if_neg (by have := a2.1 hf; omega)]
      refine useOK_same (p := _ = true) (fun hh => rfl) (fun hp => ⟨rfl, ?_⟩)
      have e := a3 hf
      dsimp only
      rw [← e, wrap64_in (by omega), wrap64_in (by omega), Int.toNat_natCast, show ((bsP cmpA ⟨s.Id, s.Reader⟩ x.Away : Int) + 1).toNat = bsP cmpA ⟨s.Id, s.Reader⟩ x.Away + 1 by omega]
      rfl
    · rw [if_neg hf, if_pos (by have := mt a2.2 hf; omega)]
      exact useOK_same (p := _ = true) (fun hh => absurd hh.1 (by simp)) (fun hp => absurd hp (by simp))
  simp only [if_neg h3]
  have h5 : s.Kind = 5 := by
    rcases step_iff.1 hs with ⟨h, _⟩
    unfold impl_isLibraryStep at h
    apply Classical.byContradiction; intro h5
    simp only [h1, h2, h3, h4, h5, h6, h7, if_false] at h
    exact absurd h (by simp)
  simp only [if_pos h5]
  obtain ⟨b1, b2, b3⟩ := aw_idx hx s.Id s.Value
  unfold impl_Library_hand
  by_cases hrv : s.Reader = s.Value
  · rw [if_pos hrv]
    split
    · exact useOK_same (p := _ = true) (fun hh => absurd hh.1 (by simp)) (fun hp => absurd hp (by simp))
    · refine useOK_same (p := _ = true) (fun hh => absurd hh.1 (by simp)) (fun hp => ?_)
      have := of_decide_eq_true hp
      rw [← hrv] at this; omega
  rw [if_neg hrv]
  by_cases hf : bsF cmpA ⟨s.Id, s.Reader⟩ x.Away
  · have e := a3 hf
    have hkl : bsP cmpA ⟨s.Id, s.Reader⟩ x.Away < x.Away.length := by have := hf.1; omega
    have hfe : impl_Library_fetch x s.Id s.Reader = (backN x (idxF (isA s.Id s.Reader) x.Away), true) := by
      unfold impl_Library_fetch backN delAt
      rw [if_pos hf, ← e, Int.toNat_natCast, show ((bsP cmpA ⟨s.Id, s.Reader⟩ x.Away : Int) + 1).toNat = bsP cmpA ⟨s.Id, s.Reader⟩ x.Away + 1 by omega]
    have hidx : ¬ idxF (isA s.Id s.Reader) x.Away < 0 := by have := a2.1 hf; omega
    simp only [hfe, if_neg hidx, Bool.not_true, Bool.false_eq_true, if_false]
    have hae : (backN x (idxF (isA s.Id s.Reader) x.Away)).Away = delAt x.Away (bsP cmpA ⟨s.Id, s.Reader⟩ x.Away) := by unfold backN; rw [← e, Int.toNat_natCast]
    obtain ⟨c1, c2, c3⟩ := bsA (del_s (aw_s hx.2.1.1) hkl) s.Id s.Value
    have hd := del_has (q := isA s.Id s.Value) hkl (by
      have := cmpA_eq.1 hf.2
      rw [this]; unfold isA; exact decide_eq_false (fun hh => hrv hh.2))
    unfold impl_Library_give
    rw [hae]
    by_cases hg : bsF cmpA ⟨s.Id, s.Value⟩ (delAt x.Away (bsP cmpA ⟨s.Id, s.Reader⟩ x.Away))
    · rw [if_pos hg]
      have := hd.1 (c2.1 hg)
      refine useOK_same (p := _ = true) (fun hh => absurd hh.1 (by simp)) (fun hp => ?_)
      have := of_decide_eq_true hp; omega
    · rw [if_neg hg]
      refine useOK_same (p := _ = true) (fun hh => decide_eq_true ?_) (fun hp => ⟨rfl, ?_⟩)
      · have := mt (fun q => c2.2 (hd.2 q)) hg; omega
      · unfold goneN insAt
        rw [hae, c1, Int.toNat_natCast]
  · have hfe : (impl_Library_fetch x s.Id s.Reader).2 = false := by unfold impl_Library_fetch; rw [if_neg hf]
    have hidx : idxF (isA s.Id s.Reader) x.Away < 0 := by have := mt a2.2 hf; omega
    have hn : (!(impl_Library_fetch x s.Id s.Reader).2) = true := by rw [hfe]; rfl
    simp only [if_pos hidx, if_pos hn]
    exact useOK_same (p := _ = true) (fun hh => absurd hh.1 (by simp)) (fun hp => absurd hp (by simp))
theorem stepped_yesL (hx : LibOK x) (hs : spec_l32Step x s = true) (hv : s.Value ≤ 9223372036854775807) : impl_Library_stepped x s = if (spec_l32Make x s).2 = true then ((spec_l32Make x s).1, true) else (noLib, false) := by
  have h0 := step_iff.1 hs
  unfold impl_Library_stepped
  rw [if_neg (by rw [h0.1]; simp)]
  by_cases h1 : s.Kind = 1
  · have hsr := (stepL_rng hs).1 h1
    rw [if_pos h1, buy_eq hx hsr.2]
    unfold spec_l32Make
    rw [if_pos h1]
    by_cases hl : LibOK (boughtN x s.Id s.Value)
    · rw [if_pos hl, if_pos (decide_eq_true hl)]
    · rw [if_neg hl, if_neg (by simpa using hl)]; rfl
  · have hf : bsF cmpM s.Id x.Maps := (bsM hx.1.1 s.Id).2.1.2 (h0.2 h1)
    have hu := use_ok hx hs h1 hv
    rw [if_neg h1, if_pos hf, (bsM hx.1.1 s.Id).2.2 hf]
    by_cases hy : (spec_l32Make x s).2 = true
    · have h2 := hu.1.2 hy
      rw [if_pos hy, if_neg (by rintro (q | q); rw [h2.1] at q; cases q; exact q h2.2), hu.2 hy]
    · rw [if_neg hy, if_pos (by
        apply Classical.byContradiction; intro q
        rw [not_or] at q
        exact hy (hu.1.1 ⟨by simpa using q.1, Classical.not_not.1 q.2⟩))]
      rfl
theorem stepped_noL (hx : LibOK x) (hs : ¬ spec_l32Step x s = true) : impl_Library_stepped x s = (noLib, false) := by
  unfold impl_Library_stepped
  by_cases h0 : impl_isLibraryStep s = true
  · have h1 : ¬ s.Kind = 1 := fun h1 => hs (step_iff.2 ⟨h0, fun h => absurd h1 h⟩)
    have hi : ¬ 0 ≤ idxF (hasId s.Id) x.Maps := fun hi => hs (step_iff.2 ⟨h0, fun _ => hi⟩)
    rw [if_neg (by rw [h0]; simp), if_neg h1, if_neg (fun hf => hi ((bsM hx.1.1 s.Id).2.1.1 hf))]; rfl
  · rw [if_pos (by simpa using h0)]; rfl
noncomputable def impl_StepLibrary (x : Library) (s : LibraryStep) : Library × Bool :=
  if LibOK x then (((impl_Library_stepped x s).1), (impl_Library_stepped x s).2) else ((⟨([] : List LMap), ([] : List Away), 0, 0, 0⟩ : Library), false)
theorem step_eqL (hv : s.Value ≤ 9223372036854775807) : spec_StepLibrary x s = impl_StepLibrary x s := by
  unfold spec_StepLibrary impl_StepLibrary
  by_cases hx : LibOK x
  · rw [if_pos hx]
    by_cases hs : spec_l32Step x s = true
    · rw [if_neg (by rintro (q | q); exact q hx; rw [hs] at q; cases q), stepped_yesL hx hs hv]
      by_cases hy : (spec_l32Make x s).2 = true
      · rw [if_neg (by rw [hy]; simp), if_pos hy]
      · rw [if_pos (by simpa using hy), if_neg hy]; rfl
    · rw [if_pos (.inr (by simpa using hs)), stepped_noL hx hs]; rfl
  · rw [if_neg hx, if_pos (.inl hx)]
end
end Go.Proofs.YtndcchndcghmoaaGreatDoor
namespace Go.Proofs.YtndcchndcghmoaaGreatDoor
open Go Go.RowKit Fw
section
variable {s A B : List UInt8} {c : UInt8}
theorem occ1_not {L : List UInt8} {j : Nat} (h : ∀ x, L[j]? = some x → ¬ x = c) : Lib.occAt L [c] j = false := by
  cases h2 : Lib.occAt L [c] j
  · rfl
  · exfalso
    unfold Lib.occAt at h2
    obtain ⟨t, ht⟩ := List.isPrefixOf_iff_prefix.1 h2
    have := congrArg (·[0]?) ht
    simp at this
    exact h c this.symm rfl
theorem index1_cut (h : c ∉ A) : Lib.index (A ++ c :: B) [c] = (A.length : Int) := by
  refine Lib.index_first (by simp) ?_ (fun j hj => occ1_not fun x hx e => ?_)
  · unfold Lib.occAt
    rw [List.isPrefixOf_iff_prefix, List.drop_left]
    exact ⟨B, rfl⟩
  · rw [List.getElem?_append_left hj] at hx
    exact h (e ▸ List.mem_of_getElem? hx)
theorem index1_nil (h : c ∉ A) : Lib.index A [c] = -1 :=
  Lib.index_none fun j _ => occ1_not fun x hx e => h (e ▸ List.mem_of_getElem? hx)
theorem split_one1 : ∀ (n : Nat) (s : List UInt8), s.length ≤ n → Lib.split s [c] = splitB c s
  | 0, s, h => by
    have : s = [] := List.eq_nil_of_length_eq_zero (by omega)
    subst this
    unfold Lib.split
    rw [Lib.count_miss (index1_nil (by simp))]; rfl
  | n + 1, s, h => by
    by_cases hc : c ∈ s
    · have e : s = befB s c ++ c :: aftB s c := befB_join hc
      have hb : c ∉ befB s c := befB_not s
      have hl := congrArg List.length e
      simp only [List.length_append, List.length_cons] at hl
      have ih := split_one1 n (aftB s c) (by omega)
      generalize befB s c = b at *
      generalize aftB s c = a at *
      subst e
      rw [splitB_cut hb, ← ih]
      unfold Lib.split
      rw [Lib.count_hit (by simp) (index1_cut hb)]
      have e2 : (b.length + [c].length) = (b ++ [c]).length := by simp
      have e3 : b ++ c :: a = b ++ [c] ++ a := by simp
      rw [e2, e3, List.drop_left, Nat.add_comm 1]
      conv => lhs; unfold Lib.splitK
      rw [← e3]
      have hm : ¬ ((Lib.index (b ++ c :: a) [c] == -1) = true) := by rw [index1_cut hb]; simp
      rw [if_neg hm, index1_cut hb, e3]
      have e4 : ((b.length : Int).toNat + [c].length) = (b ++ [c]).length := by simp
      rw [e4, List.drop_left, Int.toNat_natCast, Nat.add_zero, List.append_assoc, List.take_left]
    · rw [splitB_none hc]
      unfold Lib.split
      rw [Lib.count_miss (index1_nil hc)]; rfl
theorem split_eqB (s : List UInt8) (c : UInt8) : Lib.split s [c] = splitB c s := split_one1 s.length s (Nat.le_refl _)
end
def listT (L : List Int) : List UInt8 := Lib.join (L.map Lib.itoa) [32]
def listN (L : List Int) : List UInt8 := if L = [] then [110, 111, 110, 101] else listT L
def IntsIn (L : List Int) : Prop := ∀ (k : Nat) (y : Int), L[k]? = some y → 0 ≤ y ∧ y ≤ 9999
section
variable {L : List Int} {k : Nat} {y : Int}
theorem list_next (h : L[k]? = some y) : (L.take k).map Lib.itoa ++ [Lib.itoa y] = (L.take (k + 1)).map Lib.itoa := by
  rw [List.take_add_one, h]; simp
theorem listT_one (h : L[0]? = some y) : Lib.itoa y = listT (L.take 1) := by
  cases L with
  | nil => simp at h
  | cons x r =>
    obtain rfl : x = y := by simpa using h
    show _ = Lib.join ([x].map Lib.itoa) [32]
    rw [List.map_cons, List.map_nil, Lib.join_one]
theorem listT_next (h1 : 1 ≤ k) (h : L[k]? = some y) : listT (L.take k) ++ [32] ++ Lib.itoa y = listT (L.take (k + 1)) := by
  cases L with
  | nil => simp at h
  | cons x r =>
    obtain ⟨q, rfl⟩ : ∃ q, k = q + 1 := ⟨k - 1, by omega⟩
    have h2 : (r.map Lib.itoa)[q]? = some (Lib.itoa y) := by
      rw [List.getElem?_cons_succ] at h; rw [List.getElem?_map, h]; rfl
    unfold listT
    rw [List.take_succ_cons, List.take_succ_cons, List.map_cons, List.map_cons, Lib.join_cons, Lib.join_cons, List.map_take, List.map_take, Lib.joinTail_take_succ _ _ _ _ h2]
    simp only [List.append_assoc]
theorem join_bd {W : List (List UInt8)} (h : ∀ w ∈ W, w.length ≤ 21) (hn : W.length ≤ 1000000) : (Lib.join W [32]).length ≤ 22 * W.length := by
  have hl : ∀ W : List (List UInt8), (∀ w ∈ W, w.length ≤ 21) → Lib.lens W ≤ 21 * W.length := by
    intro W
    induction W with
    | nil => intro _; simp [Lib.lens]
    | cons x r ih =>
      intro h
      have h1 := ih (fun w hw => h w (by simp [hw]))
      have h2 := h x (by simp)
      simp only [Lib.lens, List.map_cons, List.sum_cons, List.length_cons] at *; omega
  cases W with
  | nil => simp [Lib.join_nil]
  | cons x r =>
    have h1 := hl r (fun w hw => h w (by simp [hw]))
    have h2 := h x (by simp)
    rw [Lib.join_cons, List.length_append, Lib.joinTail_length]
    simp only [List.length_cons, List.length_nil] at *; omega
end
section
variable {L : List Int} {k n : Nat} {y : Int} {b : Bool} {W : List (List UInt8)} {x : Library}
theorem itoas_le (h : IntsIn L) : ∀ w ∈ L.map Lib.itoa, w.length ≤ 21 := fun w hw => by
  obtain ⟨y, hy, rfl⟩ := List.mem_map.1 hw
  obtain ⟨k, hk⟩ := List.mem_iff_getElem?.1 hy
  have := h k y hk
  exact itoa_len (by omega) (by omega)
theorem itoas_take (h : IntsIn L) (k : Nat) : ∀ w ∈ (L.take k).map Lib.itoa, w.length ≤ 21 := fun w hw => itoas_le h w (by
  obtain ⟨y, hy, rfl⟩ := List.mem_map.1 hw
  exact List.mem_map.2 ⟨y, List.mem_of_mem_take hy, rfl⟩)
theorem itoas_len (h : k ≤ L.length) : ((L.take k).map Lib.itoa).length = k := by simp; omega
theorem listN_len (L : List Int) (h : IntsIn L) (hn : L.length ≤ 1000000) : (listN L).length ≤ 22 * L.length + 4 := by
  unfold listN; split
  · simp
  · have := join_bd (itoas_le h) (by simpa using hn)
    unfold listT; simp at this ⊢; omega
theorem listT_bd (h : IntsIn L) (hn : L.length ≤ 100) (k : Nat) : (listT (L.take k)).length ≤ 2200 := by
  have h1 : ((L.take k).map Lib.itoa).length ≤ 100 := by simp; omega
  have := join_bd (itoas_take h k) (by omega)
  unfold listT; omega
theorem ints_if {c : Prop} [Decidable c] (h : c → IntsIn L) : IntsIn (if c then L else []) := by
  split
  · exact h ‹_›
  · intro k y hk; simp at hk
theorem ints_of (h : ∀ y ∈ L, 0 ≤ y ∧ y ≤ 9999) : IntsIn L := fun k y hk => h y (List.mem_of_getElem? hk)
theorem ints_at (x : Library) (r : Int) : IntsIn (if LibOK x ∧ (1 ≤ r ∧ r ≤ 999) then selL (atR r) Away.Map x.Away else []) := ints_if fun hc => ints_of fun y hy => by
  unfold selL at hy
  obtain ⟨a, ha, rfl⟩ := List.mem_map.1 hy
  obtain ⟨j, hj⟩ := List.mem_iff_getElem?.1 (List.mem_filter.1 ha).1
  have hb := Classical.not_not.1 (hc.1.2.1.1 j (List.getElem?_eq_some_iff.1 hj).1)
  rw [gt_eq hj] at hb
  obtain ⟨m, hm, hq⟩ := hb.1
  obtain ⟨q, hz⟩ := List.mem_iff_getElem?.1 hm
  have h1 := maps_at hc.1.1.1 (List.getElem?_eq_some_iff.1 hz).1
  rw [gt_eq hz] at h1
  omega
theorem ints_rd (x : Library) (id : Int) : IntsIn (if LibOK x ∧ 0 ≤ idxF (hasId id) x.Maps then selL (ofM id) Away.Reader x.Away else []) := ints_if fun hc => ints_of fun y hy => by
  unfold selL at hy
  obtain ⟨a, ha, rfl⟩ := List.mem_map.1 hy
  obtain ⟨j, hj⟩ := List.mem_iff_getElem?.1 (List.mem_filter.1 ha).1
  have hb := Classical.not_not.1 (hc.1.2.1.1 j (List.getElem?_eq_some_iff.1 hj).1)
  rw [gt_eq hj] at hb
  omega
theorem ints_may (x : Library) : IntsIn (if LibOK x then selL mayM LMap.Id x.Maps else []) := ints_if fun hc => ints_of fun y hy => by
  unfold selL at hy
  obtain ⟨a, ha, rfl⟩ := List.mem_map.1 hy
  obtain ⟨j, hj⟩ := List.mem_iff_getElem?.1 (List.mem_filter.1 ha).1
  have h1 := maps_at hc.1.1 (List.getElem?_eq_some_iff.1 hj).1
  rw [gt_eq hj] at h1
  omega
theorem there_rngN (x : Library) : 0 ≤ (if LibOK x then sumC x.Maps else 0) ∧ (if LibOK x then sumC x.Maps else 0) ≤ 9999 := by
  split
  · have := sumC_rng ‹LibOK x›.1.1 ‹LibOK x›.1.2; omega
  · omega
theorem torn_rng (x : Library) : 0 ≤ (if LibOK x then sumT x.Maps else 0) ∧ (if LibOK x then sumT x.Maps else 0) ≤ 9999 := by
  split
  · have := there_rng true ‹LibOK x›.1.1 ‹LibOK x›.1.2; simp at this; omega
  · omega
theorem list_nil (h : L.length = 0) : ([110, 111, 110, 101] : List UInt8) = listN L := (if_pos (List.eq_nil_of_length_eq_zero h)).symm
theorem list_all (h : ¬ L.length = 0) (hk : L.length ≤ k) : Lib.join ((L.take k).map Lib.itoa) [32] = listN L := by
  rw [List.take_of_length_le hk]; exact (if_neg (fun e => h (by rw [e]; rfl))).symm
theorem listT_all (h : ¬ L.length = 0) (hk : L.length ≤ k) : listT (L.take k) = listN L := list_all h hk
end
noncomputable def numsW (W : List (List UInt8)) : List Int := W.map fun w => (readN w).1
noncomputable def nmW (s : List UInt8) (k : Nat) : List Int := numsW (((splitB 32 s).take k).drop 1)
def AllNum (W : List (List UInt8)) : Prop := ∀ w ∈ W, (readN w).2 = true
noncomputable instance (W : List (List UInt8)) : Decidable (AllNum W) := Classical.propDecidable _
section
variable {s x : List UInt8} {k : Nat}
theorem nums_len (h : 1 ≤ k ∧ k ≤ (splitB 32 s).length) : (nmW s k).length + 1 = k := by unfold nmW numsW; simp; omega
theorem take_drop_next {W : List (List UInt8)} (h1 : 1 ≤ k) (hx : W[k]? = some x) : (W.take (k + 1)).drop 1 = (W.take k).drop 1 ++ [x] := by
  have hl := (List.getElem?_eq_some_iff.1 hx).1
  rw [List.take_add_one, hx, Option.toList_some, List.drop_append_of_le_length (by simp; omega)]
theorem nums_next (h1 : 1 ≤ k) (hx : (splitB 32 s)[k]? = some x) : nmW s k ++ [(readN x).1] = nmW s (k + 1) := by
  unfold nmW; rw [take_drop_next h1 hx]; simp [numsW]
theorem nmD_next {D : List (List UInt8)} (hx : D[k]? = some x) : numsW (D.take k) ++ [(readN x).1] = numsW (D.take (k + 1)) := by
  rw [List.take_add_one, hx]; simp [numsW]
theorem nmD_len {D : List (List UInt8)} (h : k ≤ D.length) : (numsW (D.take k)).length = k := by simp [numsW]; omega
theorem allD_next {D : List (List UInt8)} (h : AllNum (D.take k)) (hx : D[k]? = some x) (hy : (!(readN x).2) = false) : AllNum (D.take (k + 1)) := by
  intro w hw
  rw [List.take_add_one, hx, Option.toList_some, List.mem_append] at hw
  rcases hw with hw | hw
  · exact h w hw
  · rw [List.mem_singleton.1 hw]; simpa using hy
theorem dropB_el {c : UInt8} (h : ((splitB c s).drop 1)[k]? = some x) : x.length ≤ s.length := splitB_el (k := 1 + k) (by rw [List.getElem?_drop] at h; exact h)
theorem drop_len (W : List (List UInt8)) : (W.drop 1).length + 1 = W.length ∨ W.length = 0 := by rw [List.length_drop]; omega
theorem allN_zero (W : List (List UInt8)) : AllNum ((W.take 1).drop 1) := by
  intro w hw
  cases W <;> simp at hw
theorem allN_next {W : List (List UInt8)} (h1 : 1 ≤ k) (h : AllNum ((W.take k).drop 1)) (hx : W[k]? = some x) (hy : (readN x).2 = true) : AllNum ((W.take (k + 1)).drop 1) := by
  intro w hw
  rw [take_drop_next h1 hx, List.mem_append] at hw
  rcases hw with hw | hw
  · exact h w hw
  · rw [List.mem_singleton.1 hw]; exact hy
end
end Go.Proofs.YtndcchndcghmoaaGreatDoor
namespace Go.Proofs.YtndcchndcghmoaaGreatDoor
open Go Go.RowKit Fw
section
variable {x o : Library} {S : List LibraryStep} {k n : Nat} {m : Int} {s : LibraryStep}
theorem stepped_okL (h : (impl_Library_stepped x s).2 = true) : LibOK (impl_Library_stepped x s).1 := by
  unfold impl_Library_stepped at *
  repeat' split at h
  all_goals simp_all
theorem make_okL (h : (spec_l32Make x s).2 = true) : LibOK (spec_l32Make x s).1 := by
  unfold spec_l32Make at *
  repeat' split at h
  all_goals first | exact (of_decide_eq_true h) | (simp only [*, if_true, if_false]; exact (of_decide_eq_true h)) | (simp only [*, if_true, if_false]; exact (of_decide_eq_true h).2) | simp_all
theorem stepped_nil (h : ¬ (impl_Library_stepped x s).2 = true) : (impl_Library_stepped x s).1 = noLib := by
  unfold impl_Library_stepped noLib at *
  repeat' split at h
  all_goals simp_all
theorem stepped_lenL (x : Library) (s : LibraryStep) : (impl_Library_stepped x s).1.Maps.length ≤ 8 ∧ (impl_Library_stepped x s).1.Away.length ≤ 8 := by
  by_cases h : (impl_Library_stepped x s).2 = true
  · have := lib_rng (stepped_okL h); exact ⟨this.1, this.2.1⟩
  · rw [stepped_nil h]; simp [noLib]
theorem step_lenS (x : Library) (s : LibraryStep) : (spec_StepLibrary x s).1.Maps.length ≤ 8 ∧ (spec_StepLibrary x s).1.Away.length ≤ 8 := by
  unfold spec_StepLibrary; split
  · simp
  · split
    · simp
    · rename_i h
      have := lib_rng (make_okL (x := x) (s := s) (by simpa using h)); exact ⟨this.1, this.2.1⟩
theorem step_lenMS (x : Library) (s : LibraryStep) : (spec_StepLibrary x s).1.Maps.length ≤ 8 := (step_lenS x s).1
theorem step_lenAS (x : Library) (s : LibraryStep) : (spec_StepLibrary x s).1.Away.length ≤ 8 := (step_lenS x s).2
end
end Go.Proofs.YtndcchndcghmoaaGreatDoor
namespace Go.Proofs.YtndcchndcghmoaaGreatDoor
open Go Go.RowKit Fw
set_option maxRecDepth 10000
set_option maxHeartbeats 2000000
set_option linter.unusedVariables false
theorem agg37 : TAgg Tryz.prog 37 8 := tG
theorem ent42 : Ent Tryz.prog 42 := en Tryz.func42
theorem fa37_0 : FA Tryz.prog 37 0 0 := fun _ _ => by kernel_rfl
theorem fa37_1 : FA Tryz.prog 37 1 5 := fun _ _ => by kernel_rfl
theorem c_impl_IsValidConsole (w : World) (c : Console) {Ac1 : Option Addr} {nc1 cc1 Bc1 : Nat} (hc1 : SlR w Bc1 encLMap 3 Ac1 nc1 cc1 c.Library.Maps) {Ac2 : Option Addr} {nc2 cc2 Bc2 : Nat} (hc2 : SlR w Bc2 encAway 2 Ac2 nc2 cc2 c.Library.Away) (hp0 : (c.Library.Maps.length : Int) ≤ 1048576 ∧ (c.Library.Away.length : Int) ≤ 1048576 ∧ (c.Log.Durable.length : Int) + (c.Log.Pending.length : Int) ≤ 1048576) (hE : EnvW w) : Calls Tryz.prog 35 #[.agg (List.toArray [.slice Ac1 nc1 cc1, .slice Ac2 nc2 cc2, .int .i64 c.Library.Bought, .int .i64 c.Library.Dropped, .int .i64 c.Library.Mended, str c.Log.Durable, str c.Log.Pending, .int .i64 c.Log.Count])] w fun e w' => e = .returned (.bool (decide (ConOK c))) ∧ Lo w w' := by
 refine calls_W 11 Tryz.func35 rfl rfl rfl ?_
 have hbdc1 := hc1.bound
 have hlec1 := hc1.len
 have hBbc1 := hc1.bd
 have hbdc2 := hc2.bound
 have hlec2 := hc2.len
 have hBbc2 := hc2.bd
 refine Ws (Wr (SR.box (v := .agg (List.toArray _)) (l := [.slice Ac1 nc1 cc1, .slice Ac2 nc2 cc2, .int .i64 c.Library.Bought, .int .i64 c.Library.Dropped, .int .i64 c.Library.Mended, str c.Log.Durable, str c.Log.Pending, .int .i64 c.Log.Count]) rfl rfl ?_))
 intro g1 w2 hg3 hk4 hs5 hb6
 have hB8 := (Lo.refl w).lo hk4
 refine Q (aB rfl) <| Qn (Ws (W.regJS (fun f' w' => At f' [(2, .bool (decide ((LibOK c.Library) ∧ (LogOK c.Log))))] ∧ Lo w2 w') ?_ ?_))
 ·refine Q (fA fa37_0 rfl) <| Q (r_lda (l := (cLb Ac1 nc1 cc1 Ac2 nc2 cc2 c.Library)) agg34 rfl (fun _ _ hu => hb6.cells (vs := (cLb Ac1 nc1 cc1 Ac2 nc2 cc2 c.Library)) rfl hu) rfl) <| Qv ent72 (c_impl_IsLibrary w2 c.Library (hc1.lo hk4) (hc2.lo hk4) (by omega)) rfl fun w9 hk10 hz11 => (Q (mB rfl) <| SR.splitD (fun h13 => ?_) (fun h13 => ?_))
  ·refine Qg rfl (fA fa37_1 rfl) <| Qg rfl (r_lda (l := [str c.Log.Durable, str c.Log.Pending, .int .i64 c.Log.Count]) agg35 rfl (fun _ _ hu => (hb6.lo hk10).cells (vs := [str c.Log.Durable, str c.Log.Pending, .int .i64 c.Log.Count]) rfl hu) rfl) <| SR.gcall rfl ent69 (c_impl_IsValidLog w9 c.Log (by omega) (hE.lo (hB8.lo hk10))) rfl ?_
   rintro e w14 ⟨rfl, hk15⟩
   refine ⟨_, rfl, ?_⟩
   have hz16 := hk15.size
   refine Q (r_pick true rfl (v := .bool _) rfl) <| Q (aB rfl) <| Qn (⟨_, rfl, ⟨⟨(eDD (jat h13)), trivial⟩, (hk10.trans hk15)⟩⟩)
  ·refine Qs rfl <| Qs rfl <| Qs rfl <| Q (r_pick false rfl (v := .bool false) rfl) <| Q (aB rfl) <| Qn (⟨_, rfl, ⟨⟨(eDF (jaf h13).2), trivial⟩, hk10⟩⟩)
 rintro f18 w19 ⟨hat20, hk21⟩
 rw [← sets_of_at hat20]
 have hz22 := hk21.size
 refine W.ret (ret1 rfl (v := .bool _) rfl (⟨eR (eDD (by first | exact Iff.rfl | rfl)), (hB8.lo hk21)⟩))
theorem c_spec_l34Good (w : World) (c : Console) {Ac1 : Option Addr} {nc1 cc1 Bc1 : Nat} (hc1 : SlR w Bc1 encLMap 3 Ac1 nc1 cc1 c.Library.Maps) {Ac2 : Option Addr} {nc2 cc2 Bc2 : Nat} (hc2 : SlR w Bc2 encAway 2 Ac2 nc2 cc2 c.Library.Away) (hp0 : (c.Library.Maps.length : Int) ≤ 1048576 ∧ (c.Library.Away.length : Int) ≤ 1048576 ∧ (c.Log.Durable.length : Int) + (c.Log.Pending.length : Int) ≤ 1048576) : Calls Tryz.prog 42 #[.agg (List.toArray [.slice Ac1 nc1 cc1, .slice Ac2 nc2 cc2, .int .i64 c.Library.Bought, .int .i64 c.Library.Dropped, .int .i64 c.Library.Mended, str c.Log.Durable, str c.Log.Pending, .int .i64 c.Log.Count])] w fun e w' => e = .returned (.bool (decide (ConOK c))) ∧ Lo w w' := by
 refine calls_W 11 Tryz.func42 rfl rfl rfl ?_
 have hbdc1 := hc1.bound
 have hlec1 := hc1.len
 have hBbc1 := hc1.bd
 have hbdc2 := hc2.bound
 have hlec2 := hc2.len
 have hBbc2 := hc2.bd
 refine Ws (Wr (SR.box (v := .agg (List.toArray _)) (l := [.slice Ac1 nc1 cc1, .slice Ac2 nc2 cc2, .int .i64 c.Library.Bought, .int .i64 c.Library.Dropped, .int .i64 c.Library.Mended, str c.Log.Durable, str c.Log.Pending, .int .i64 c.Log.Count]) rfl rfl ?_))
 intro g1 w2 hg3 hk4 hs5 hb6
 refine Q (aB rfl) <| Qn (Ws (W.regJS (fun f' w' => At f' [(2, .bool (decide ((LibOK c.Library) ∧ (LogOK c.Log))))] ∧ Lo w2 w') ?_ ?_))
 ·refine Q (fA fa37_0 rfl) <| Q (r_lda (l := (cLb Ac1 nc1 cc1 Ac2 nc2 cc2 c.Library)) agg34 rfl (fun _ _ hu => hb6.cells (vs := (cLb Ac1 nc1 cc1 Ac2 nc2 cc2 c.Library)) rfl hu) rfl) <| Qv ent80 (c_spec_l32Good w2 c.Library (hc1.lo hk4) (hc2.lo hk4)) rfl fun w9 hk10 hz11 => (Q (mB rfl) <| SR.splitD (fun h13 => ?_) (fun h13 => ?_))
  ·refine Qg rfl (fA fa37_1 rfl) <| Qg rfl (r_lda (l := [str c.Log.Durable, str c.Log.Pending, .int .i64 c.Log.Count]) agg35 rfl (fun _ _ hu => (hb6.lo hk10).cells (vs := [str c.Log.Durable, str c.Log.Pending, .int .i64 c.Log.Count]) rfl hu) rfl) <| SR.gcall rfl ent63 (c_spec_l33Log w9 c.Log (by omega)) rfl ?_
   rintro e w14 ⟨rfl, hk15⟩
   refine ⟨_, rfl, ?_⟩
   have hz16 := hk15.size
   refine Q (r_pick true rfl (v := .bool _) rfl) <| Q (aB rfl) <| Qn (⟨_, rfl, ⟨⟨(eDD (jat h13)), trivial⟩, (hk10.trans hk15)⟩⟩)
  ·refine Qs rfl <| Qs rfl <| Qs rfl <| Q (r_pick false rfl (v := .bool false) rfl) <| Q (aB rfl) <| Qn (⟨_, rfl, ⟨⟨(eDF (jaf h13).2), trivial⟩, hk10⟩⟩)
 rintro f18 w19 ⟨hat20, hk21⟩
 rw [← sets_of_at hat20]
 have hz22 := hk21.size
 refine W.ret (ret1 rfl (v := .bool _) rfl (⟨eR (eDD (by first | exact Iff.rfl | rfl)), (((Lo.refl w).lo hk4).lo hk21)⟩))
end Go.Proofs.YtndcchndcghmoaaGreatDoor
