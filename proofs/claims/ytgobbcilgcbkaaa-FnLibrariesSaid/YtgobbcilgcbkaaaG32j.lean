/- Walks, printed by a program of this claim's author. -/
import Derived.Test.YtgobbcilgcbkaaaChecked
import Derived.Test.YtgobbcilgcbkaaaUa
import Derived.Test.YtgobbcilgcbkaaaFu
import Derived.Test.YtgobbcilgcbkaaaFs
import Derived.Test.YtgobbcilgcbkaaaFq
import Derived.Test.YtgobbcilgcbkaaaFo
import Derived.Test.YtgobbcilgcbkaaaDa
import Derived.Test.YtgobbcilgcbkaaaUd
import Derived.Test.YtgobbcilgcbkaaaG32i
namespace Go.Proofs.Ytgobbcilgcbkaaa
open Go Go.RowKit Fw
set_option maxRecDepth 10000
set_option maxHeartbeats 2000000
set_option linter.unusedVariables false
theorem ent22 : Ent Try.prog 22 := ent_of Try.func22 (by decide +kernel) rfl
theorem ent38 : Ent Try.prog 38 := ent_of Try.func38 (by decide +kernel) rfl
theorem ent42 : Ent Try.prog 42 := ent_of Try.func42 (by decide +kernel) rfl
theorem ent43 : Ent Try.prog 43 := ent_of Try.func43 (by decide +kernel) rfl
theorem ent44 : Ent Try.prog 44 := ent_of Try.func44 (by decide +kernel) rfl
theorem ent9 : Ent Try.prog 9 := ent_of Try.func9 (by decide +kernel) rfl

open Classical in
noncomputable def impl_Library_stepped (x : Library) (s : LibraryStep) : Library × Bool :=
  if (!(impl_isLibraryStep s)) = true then ((⟨([] : List LMap), ([] : List Away), 0, 0, 0⟩ : Library), false) else if s.Kind = 1 then (if LibOK (impl_Library_buy x s) then ((impl_Library_buy x s), true) else ((⟨([] : List LMap), ([] : List Away), 0, 0, 0⟩ : Library), false)) else if bsF cmpM s.Id x.Maps then (if ((!((impl_Library_use x s (bsP cmpM s.Id x.Maps : Int)).2)) = true) ∨ (¬ (LibOK ((impl_Library_use x s (bsP cmpM s.Id x.Maps : Int)).1))) then ((⟨([] : List LMap), ([] : List Away), 0, 0, 0⟩ : Library), false) else (((impl_Library_use x s (bsP cmpM s.Id x.Maps : Int)).1), true)) else ((⟨([] : List LMap), ([] : List Away), 0, 0, 0⟩ : Library), false)
theorem c__impl_Library__stepped (w : World) (x : Library) {Ax_Maps : Option Addr} {nx_Maps cx_Maps Bx_Maps : Nat} (hx_Maps : SlR w Bx_Maps encLMap 3 Ax_Maps nx_Maps cx_Maps x.Maps) {Ax_Away : Option Addr} {nx_Away cx_Away Bx_Away : Nat} (hx_Away : SlR w Bx_Away encAway 2 Ax_Away nx_Away cx_Away x.Away) (s : LibraryStep) (hp0 : (nx_Maps : Int) ≤ 50) (hp1 : (nx_Away : Int) ≤ 50) : Calls Try.prog 22 #[.agg (List.toArray [.slice Ax_Maps nx_Maps cx_Maps, .slice Ax_Away nx_Away cx_Away, .int .i64 x.Bought, .int .i64 x.Dropped, .int .i64 x.Mended]), .agg (List.toArray (encLibraryStep s))] w fun e w' => ∃ (A1' : Option Addr) (n1' c1' : Nat) (A2' : Option Addr) (n2' c2' : Nat), e = .returned (.tuple (List.toArray [.agg (List.toArray [.slice A1' n1' c1', .slice A2' n2' c2', .int .i64 (((impl_Library_stepped x s).1).Bought), .int .i64 (((impl_Library_stepped x s).1).Dropped), .int .i64 (((impl_Library_stepped x s).1).Mended)]), .bool ((impl_Library_stepped x s).2)])) ∧ SlO w' w.heap.size encLMap 3 59 A1' n1' c1' (((impl_Library_stepped x s).1).Maps) ∧ SlO w' w.heap.size encAway 2 63 A2' n2' c2' (((impl_Library_stepped x s).1).Away) ∧ (∀ b_, A1' = some ⟨b_, 0, none⟩ → ¬ A2' = some ⟨b_, 0, none⟩) ∧ Lo w w' := by
  refine calls_W 48 Try.func22 rfl rfl rfl ?_
  have hbdx_Maps := hx_Maps.bound
  have hlex_Maps := hx_Maps.len
  have hBbx_Maps := hx_Maps.bd
  have hbdx_Away := hx_Away.bound
  have hlex_Away := hx_Away.len
  have hBbx_Away := hx_Away.bd
  have hbdx_Maps := hx_Maps.bound
  have hlex_Maps := hx_Maps.len
  have hBbx_Maps := hx_Maps.bd
  have hbdx_Away := hx_Away.bound
  have hlex_Away := hx_Away.len
  have hBbx_Away := hx_Away.bd
  refine W.seq ?_
  refine W.regS (SR.box (v := .agg (List.toArray _)) (l := [.slice Ax_Maps nx_Maps cx_Maps, .slice Ax_Away nx_Away cx_Away, .int .i64 x.Bought, .int .i64 x.Dropped, .int .i64 x.Mended]) rfl rfl ?_)
  intro g1 w2 hg3 hk4 hs5 hb6
  have hz7 := hk4.size
  have hB8 := (Lo.refl w).lo hk4
  refine SR.box (v := .agg (List.toArray _)) (l := [.int .i64 s.Kind, .int .i64 s.Id, .int .i64 s.Reader, .int .i64 s.Value]) rfl rfl ?_
  intro g9 w10 hg11 hk12 hs13 hb14
  have hz15 := hk12.size
  have hB16 := hB8.lo hk12
  refine SR.alloc (l := [.slice none 0 0, .slice none 0 0, .int .i64 0, .int .i64 0, .int .i64 0]) tz27 rfl ?_
  intro g17 w18 hg19 hk20 hs21 hb22
  have hz23 := hk20.size
  have hB24 := hB16.lo hk20
  refine SR.q' (r_as (v := .bool false) rfl) <| SR.nil ?_
  refine W.seq ?_
  refine W.seq ?_
  have hm25 := ((hb6).lo hk12).lo hk20
  have hm26 := (((hx_Maps).lo hk4).lo hk12).lo hk20
  have hm27 := (((hx_Away).lo hk4).lo hk12).lo hk20
  refine W.regS (SR.q' (r_lda (l := [.int .i64 s.Kind, .int .i64 s.Id, .int .i64 s.Reader, .int .i64 s.Value]) agg29 rfl (fun _ _ hu => ((hb14).lo hk20).cell hu) rfl) <| SR.call ent42 (c_impl_isLibraryStep w18 s) rfl ?_)
  rintro e w28 ⟨rfl, hk29⟩
  refine ⟨_, rfl, ?_⟩
  have hz30 := hk29.size
  have hB31 := hB24.lo hk29
  refine SR.q' (r_not rfl) <| SR.nil ?_
  refine W.cond_b rfl (fun h32 => ?_) (fun h32 => ?_)
  · have hq33 := bnot_t h32
    refine W.seq ?_
    refine W.regS (SR.q' (r_build (vs := []) rfl (bld27_)) <| SR.store (o := 0) (vs := [.slice none 0 0, .slice none 0 0, .int .i64 0, .int .i64 0, .int .i64 0]) agg27.2 rfl rfl rfl rfl ((hb22).lo hk29) (Nat.le_of_ble_eq_true rfl) rfl ?_)
    intro w35 hk36 hs37 hb38
    have hz39 := hk36.size
    have hB40 := hB31.new hk36 (by omega)
    refine SR.q' (r_as (v := .bool false) rfl) <| SR.nil ?_
    refine W.ret ?_
    refine retCT rfl rfl agg27 (hb38) rfl (v := .bool _) rfl ?_
    exact ⟨none, 0, 0, none, 0, 0, eR (eT2 (eA (eC rfl (eC rfl (eC (eI (by unfold impl_Library_stepped; rw [if_pos h32] <;> rfl)) (eC (eI (by unfold impl_Library_stepped; rw [if_pos h32] <;> rfl)) (eC (eI (by unfold impl_Library_stepped; rw [if_pos h32] <;> rfl)) rfl)))))) (eB (by unfold impl_Library_stepped; rw [if_pos h32] <;> rfl))), (SlO.eqv (SlO.nil (e := 59) (enc := encLMap) (fun _ => rfl) (by omega)) (by unfold impl_Library_stepped; rw [if_pos h32] <;> rfl)), (SlO.eqv (SlO.nil (e := 63) (enc := encAway) (fun _ => rfl) (by omega)) (by unfold impl_Library_stepped; rw [if_pos h32] <;> rfl)), (fun b_ h => by cases h), hB40⟩
  · have hq41 := bnot_f h32
    refine W.skip ?_
    refine W.seq ?_
    have hm42 := ((hb14).lo hk20).lo hk29
    refine W.regS (SR.q' (r_lda (l := [.slice Ax_Maps nx_Maps cx_Maps, .slice Ax_Away nx_Away cx_Away, .int .i64 x.Bought, .int .i64 x.Dropped, .int .i64 x.Mended]) agg27 rfl (fun _ _ hu => ((hm25).lo hk29).cell hu) rfl) <| SR.call ent38 (c__impl_Library__own w28 x (((hm26).lo hk29)) (((hm27).lo hk29)) (by omega) (by omega)) rfl ?_)
    rintro e w43 ⟨A45, n46, c47, A49, n50, c51, rfl, hO48, hO52, hd53, hk44⟩
    refine ⟨_, rfl, ?_⟩
    have hz54 := hk44.size
    have hB55 := hB31.lo hk44
    have hl56 := hO48.len
    have hl57 := hO48.rd.bound
    have hl58 := hO52.len
    have hl59 := hO52.rd.bound
    refine SR.alloc (l := [.slice none 0 0, .slice none 0 0, .int .i64 0, .int .i64 0, .int .i64 0]) tz27 rfl ?_
    intro g60 w61 hg62 hk63 hs64 hb65
    have hz66 := hk63.size
    have hB67 := hB55.lo hk63
    have hd68 : ¬ A45 = some ⟨g60, 0, none⟩ := fun e' => by have := (hO48).base_le e'; omega
    have hd69 : ¬ A49 = some ⟨g60, 0, none⟩ := fun e' => by have := (hO52).base_le e'; omega
    refine SR.store (o := 0) (vs := [.slice A45 n46 c47, .slice A49 n50 c51, .int .i64 x.Bought, .int .i64 x.Dropped, .int .i64 x.Mended]) agg27.2 rfl rfl rfl rfl (hb65) (Nat.le_of_ble_eq_true rfl) rfl ?_
    intro w70 hk71 hs72 hb73
    have hz74 := hk71.size
    have hB75 := hB67.new hk71 (by omega)
    refine SR.q' (r_as (v := .bool true) rfl) <| SR.nil ?_
    refine W.seq ?_
    refine W.seq ?_
    have hm76 := (((hm42).lo hk44).lo hk63).kn hk71 (by omega)
    have hm77 := ((((hb22).lo hk29).lo hk44).lo hk63).kn hk71 (by omega)
    have hm78 := ((hO48).lo hk63).kd hk71 hd68
    have hm79 := ((hO52).lo hk63).kd hk71 hd69
    refine W.regS (SR.q' (r_fa fa29_0 rfl) <| SR.q' (r_ld (v := .int .i64 s.Kind) sca3 rfl ((hm76).cell rfl)) <| SR.q' (r_eq rfl rfl) <| SR.nil ?_)
    refine W.cond_d rfl (fun h80 => ?_) (fun h80 => ?_)
    · refine W.regS (SR.q' (r_lda (l := [.slice A45 n46 c47, .slice A49 n50 c51, .int .i64 x.Bought, .int .i64 x.Dropped, .int .i64 x.Mended]) agg27 rfl (fun _ _ hu => (hb73).cell hu) rfl) <| SR.q' (r_lda (l := [.int .i64 s.Kind, .int .i64 s.Id, .int .i64 s.Reader, .int .i64 s.Value]) agg29 rfl (fun _ _ hu => (hm76).cell hu) rfl) <| SR.call ent43 (c__impl_Library__buy w70 x (hm78) (hm79) s hd53 (by omega) (by omega)) rfl ?_)
      rintro e w81 ⟨A83, n84, c85, A87, n88, c89, rfl, hO86, hO90, hd91, hN92, hN93, hk82⟩
      refine ⟨_, rfl, ?_⟩
      have hz94 := hk82.size
      have hB95 := hB75.step hk82 (fun i_ hi_ e' => e'.elim (fun e' => by have := ((hm78)).base_le e'; first | omega | (exfalso; omega) | exact e' | exact .inl e' | exact .inr e') (fun e' => by have := ((hm79)).base_le e'; first | omega | (exfalso; omega) | exact e' | exact .inl e' | exact .inr e'))
      have hd98 : ¬ A83 = some ⟨g17, 0, none⟩ := fun e' => (hN92 g17 e').elim (fun h => h.elim (fun h => (by have := (hm78).base_le h; omega)) (fun h => (by have := (hm79).base_le h; omega))) (fun h => by have := (hm77).lt; omega)
      have hd99 : ¬ A83 = some ⟨g60, 0, none⟩ := fun e' => (hN92 g60 e').elim (fun h => h.elim (fun h => hd68 h) (fun h => hd69 h)) (fun h => by have := (hb73).lt; omega)
      have hd102 : ¬ A87 = some ⟨g17, 0, none⟩ := fun e' => (hN93 g17 e').elim (fun h => h.elim (fun h => (by have := (hm78).base_le h; omega)) (fun h => (by have := (hm79).base_le h; omega))) (fun h => by have := (hm77).lt; omega)
      have hd103 : ¬ A87 = some ⟨g60, 0, none⟩ := fun e' => (hN93 g60 e').elim (fun h => h.elim (fun h => hd68 h) (fun h => hd69 h)) (fun h => by have := (hb73).lt; omega)
      have hl104 := hO86.len
      have hl105 := hO86.rd.bound
      have hq106 := buy_lenMaps x s
      have hl107 := hO90.len
      have hl108 := hO90.rd.bound
      have hq109 := buy_lenAway x s
      refine SR.store (o := 0) (vs := [.slice A83 n84 c85, .slice A87 n88 c89, .int .i64 ((impl_Library_buy x s).Bought), .int .i64 ((impl_Library_buy x s).Dropped), .int .i64 ((impl_Library_buy x s).Mended)]) agg27.2 rfl rfl rfl rfl ((hb73).kp hk82 (fun e' => e'.elim (fun e' => hd68 e') (fun e' => hd69 e'))) (Nat.le_of_ble_eq_true rfl) rfl ?_
      intro w110 hk111 hs112 hb113
      have hz114 := hk111.size
      have hB115 := hB95.new hk111 (by omega)
      refine SR.nil ?_
      refine W.seq ?_
      refine W.seq ?_
      have hm116 := ((hm77).kp hk82 (fun e' => e'.elim (fun e' => by have := ((hm78)).base_le e'; omega) (fun e' => by have := ((hm79)).base_le e'; omega))).kn hk111 (by omega)
      refine W.regS (SR.q' (r_mv (v := .bool _) rfl) <| SR.q' (r_not rfl) <| SR.q' (r_mv (v := .bool _) rfl) <| SR.g' rfl (r_lda (l := [.slice A83 n84 c85, .slice A87 n88 c89, .int .i64 ((impl_Library_buy x s).Bought), .int .i64 ((impl_Library_buy x s).Dropped), .int .i64 ((impl_Library_buy x s).Mended)]) agg27 rfl (fun _ _ hu => (hb113).cell hu) rfl) <| SR.gcall rfl ent9 (c_impl_IsLibrary w110 (impl_Library_buy x s) ((((hO86).kd hk111 hd99).rd)) ((((hO90).kd hk111 hd103).rd)) (by omega)) rfl ?_)
      rintro e w117 ⟨rfl, hk118⟩
      refine ⟨_, rfl, ?_⟩
      have hz119 := hk118.size
      have hB120 := hB115.lo hk118
      refine SR.g' rfl (r_not rfl) <| SR.q' (r_pick false rfl (v := .bool _) rfl) <| SR.nil ?_
      refine W.cond_n rfl (fun h121 => ?_) (fun h121 => ?_)
      · refine W.seq ?_
        refine W.regS (SR.q' (r_build (vs := []) rfl (bld27_)) <| SR.store (o := 0) (vs := [.slice none 0 0, .slice none 0 0, .int .i64 0, .int .i64 0, .int .i64 0]) agg27.2 rfl rfl rfl rfl ((hm116).lo hk118) (Nat.le_of_ble_eq_true rfl) rfl ?_)
        intro w124 hk125 hs126 hb127
        have hz128 := hk125.size
        have hB129 := hB120.new hk125 (by omega)
        refine SR.q' (r_as (v := .bool false) rfl) <| SR.nil ?_
        refine W.ret ?_
        refine retCT rfl rfl agg27 (hb127) rfl (v := .bool _) rfl ?_
        exact ⟨none, 0, 0, none, 0, 0, eR (eT2 (eA (eC rfl (eC rfl (eC (eI (by unfold impl_Library_stepped; rw [if_neg (ne_true_of_eq_false h32), if_pos h80, if_neg h121] <;> rfl)) (eC (eI (by unfold impl_Library_stepped; rw [if_neg (ne_true_of_eq_false h32), if_pos h80, if_neg h121] <;> rfl)) (eC (eI (by unfold impl_Library_stepped; rw [if_neg (ne_true_of_eq_false h32), if_pos h80, if_neg h121] <;> rfl)) rfl)))))) (eB (by unfold impl_Library_stepped; rw [if_neg (ne_true_of_eq_false h32), if_pos h80, if_neg h121] <;> rfl))), (SlO.eqv (SlO.nil (e := 59) (enc := encLMap) (fun _ => rfl) (by omega)) (by unfold impl_Library_stepped; rw [if_neg (ne_true_of_eq_false h32), if_pos h80, if_neg h121] <;> rfl)), (SlO.eqv (SlO.nil (e := 63) (enc := encAway) (fun _ => rfl) (by omega)) (by unfold impl_Library_stepped; rw [if_neg (ne_true_of_eq_false h32), if_pos h80, if_neg h121] <;> rfl)), (fun b_ h => by cases h), hB129⟩
      · refine W.skip ?_
        refine W.seq ?_
        have hm130 := ((hO86).kd hk111 hd99).lo hk118
        have hm131 := ((hO90).kd hk111 hd103).lo hk118
        refine W.regS (SR.q' (r_lda (l := [.slice A83 n84 c85, .slice A87 n88 c89, .int .i64 ((impl_Library_buy x s).Bought), .int .i64 ((impl_Library_buy x s).Dropped), .int .i64 ((impl_Library_buy x s).Mended)]) agg27 rfl (fun _ _ hu => ((hb113).lo hk118).cell hu) rfl) <| SR.store (o := 0) (vs := [.slice A83 n84 c85, .slice A87 n88 c89, .int .i64 ((impl_Library_buy x s).Bought), .int .i64 ((impl_Library_buy x s).Dropped), .int .i64 ((impl_Library_buy x s).Mended)]) agg27.2 rfl rfl rfl rfl ((hm116).lo hk118) (Nat.le_of_ble_eq_true rfl) rfl ?_)
        intro w132 hk133 hs134 hb135
        have hz136 := hk133.size
        have hB137 := hB120.new hk133 (by omega)
        refine SR.q' (r_as (v := .bool true) rfl) <| SR.nil ?_
        refine W.ret ?_
        refine retCT rfl rfl agg27 (hb135) rfl (v := .bool _) rfl ?_
        exact ⟨A83, n84, c85, A87, n88, c89, eR (eT2 (eA (eC rfl (eC rfl (eC (eI (by subst hl104 hl107; unfold impl_Library_stepped; rw [if_neg (ne_true_of_eq_false h32), if_pos h80, if_pos h121] <;> rfl)) (eC (eI (by subst hl104 hl107; unfold impl_Library_stepped; rw [if_neg (ne_true_of_eq_false h32), if_pos h80, if_pos h121] <;> rfl)) (eC (eI (by subst hl104 hl107; unfold impl_Library_stepped; rw [if_neg (ne_true_of_eq_false h32), if_pos h80, if_pos h121] <;> rfl)) rfl)))))) (eB (by subst hl104 hl107; unfold impl_Library_stepped; rw [if_neg (ne_true_of_eq_false h32), if_pos h80, if_pos h121] <;> rfl))), (SlO.eqv (((hm130).kd hk133 hd98).down (by omega)) (by subst hl104 hl107; unfold impl_Library_stepped; rw [if_neg (ne_true_of_eq_false h32), if_pos h80, if_pos h121] <;> rfl)), (SlO.eqv (((hm131).kd hk133 hd102).down (by omega)) (by subst hl104 hl107; unfold impl_Library_stepped; rw [if_neg (ne_true_of_eq_false h32), if_pos h80, if_pos h121] <;> rfl)), hd91, hB137⟩
    · refine W.seq ?_
      refine W.regS (SR.q' (r_lda (l := [.slice A45 n46 c47, .slice A49 n50 c51, .int .i64 x.Bought, .int .i64 x.Dropped, .int .i64 x.Mended]) agg27 rfl (fun _ _ hu => (hb73).cell hu) rfl) <| SR.q' (r_fa fa29_1 rfl) <| SR.q' (r_ld (v := .int .i64 s.Id) sca3 rfl ((hm76).cell rfl)) <| SR.call ent30 (c__impl_Library__mapAt w70 x (((hm78).rd)) (((hm79).rd)) s.Id (by omega)) rfl ?_)
      rintro e w138 ⟨rfl, hk139⟩
      refine ⟨_, rfl, ?_⟩
      have hz140 := hk139.size
      have hB141 := hB75.lo hk139
      have hq142 : bsP cmpM s.Id x.Maps ≤ x.Maps.length := bsP_le
      refine SR.q' (r_mv (v := .tuple (List.toArray _)) rfl) <| SR.q' (r_ext (v := .int .i64 _) rfl rfl) <| SR.q' (r_ext (v := .bool _) rfl rfl) <| SR.q' (r_as (v := .int .i64 _) rfl) <| SR.q' (r_as (v := .bool _) rfl) <| SR.nil ?_
      refine W.seq ?_
      refine W.seq ?_
      refine W.regS (SR.q' (r_mv (v := .bool _) rfl) <| SR.q' (r_not rfl) <| SR.nil ?_)
      refine W.cond_n rfl (fun h143 => ?_) (fun h143 => ?_)
      · refine W.seq ?_
        refine W.regS (SR.q' (r_build (vs := []) rfl (bld27_)) <| SR.store (o := 0) (vs := [.slice none 0 0, .slice none 0 0, .int .i64 0, .int .i64 0, .int .i64 0]) agg27.2 rfl rfl rfl rfl ((hm77).lo hk139) (Nat.le_of_ble_eq_true rfl) rfl ?_)
        intro w144 hk145 hs146 hb147
        have hz148 := hk145.size
        have hB149 := hB141.new hk145 (by omega)
        refine SR.q' (r_as (v := .bool false) rfl) <| SR.nil ?_
        refine W.ret ?_
        refine retCT rfl rfl agg27 (hb147) rfl (v := .bool _) rfl ?_
        exact ⟨none, 0, 0, none, 0, 0, eR (eT2 (eA (eC rfl (eC rfl (eC (eI (by unfold impl_Library_stepped; rw [if_neg (ne_true_of_eq_false h32), if_neg h80, if_neg h143] <;> rfl)) (eC (eI (by unfold impl_Library_stepped; rw [if_neg (ne_true_of_eq_false h32), if_neg h80, if_neg h143] <;> rfl)) (eC (eI (by unfold impl_Library_stepped; rw [if_neg (ne_true_of_eq_false h32), if_neg h80, if_neg h143] <;> rfl)) rfl)))))) (eB (by unfold impl_Library_stepped; rw [if_neg (ne_true_of_eq_false h32), if_neg h80, if_neg h143] <;> rfl))), (SlO.eqv (SlO.nil (e := 59) (enc := encLMap) (fun _ => rfl) (by omega)) (by unfold impl_Library_stepped; rw [if_neg (ne_true_of_eq_false h32), if_neg h80, if_neg h143] <;> rfl)), (SlO.eqv (SlO.nil (e := 63) (enc := encAway) (fun _ => rfl) (by omega)) (by unfold impl_Library_stepped; rw [if_neg (ne_true_of_eq_false h32), if_neg h80, if_neg h143] <;> rfl)), (fun b_ h => by cases h), hB149⟩
      · have hq150 := And.left h143
        refine W.skip ?_
        refine W.regS (SR.q' (r_lda (l := [.slice A45 n46 c47, .slice A49 n50 c51, .int .i64 x.Bought, .int .i64 x.Dropped, .int .i64 x.Mended]) agg27 rfl (fun _ _ hu => ((hb73).lo hk139).cell hu) rfl) <| SR.q' (r_lda (l := [.int .i64 s.Kind, .int .i64 s.Id, .int .i64 s.Reader, .int .i64 s.Value]) agg29 rfl (fun _ _ hu => ((hm76).lo hk139).cell hu) rfl) <| SR.q' (r_mv (v := .int .i64 _) rfl) <| SR.call ent44 (c__impl_Library__use w138 x ((hm78).lo hk139) ((hm79).lo hk139) s (bsP cmpM s.Id x.Maps : Int) hd53 (by omega) (by omega) (by omega)) rfl ?_)
        rintro e w151 ⟨A153, n154, c155, A157, n158, c159, rfl, hO156, hO160, hd161, hN162, hN163, hk152⟩
        refine ⟨_, rfl, ?_⟩
        have hz164 := hk152.size
        have hB165 := hB141.step hk152 (fun i_ hi_ e' => e'.elim (fun e' => by have := (((hm78).lo hk139)).base_le e'; first | omega | (exfalso; omega) | exact e' | exact .inl e' | exact .inr e') (fun e' => by have := (((hm79).lo hk139)).base_le e'; first | omega | (exfalso; omega) | exact e' | exact .inl e' | exact .inr e'))
        have hd168 : ¬ A153 = some ⟨g17, 0, none⟩ := fun e' => (hN162 g17 e').elim (fun h => h.elim (fun h => (by have := ((hm78).lo hk139).base_le h; omega)) (fun h => (by have := ((hm79).lo hk139).base_le h; omega))) (fun h => by have := ((hm77).lo hk139).lt; omega)
        have hd169 : ¬ A153 = some ⟨g60, 0, none⟩ := fun e' => (hN162 g60 e').elim (fun h => h.elim (fun h => hd68 h) (fun h => hd69 h)) (fun h => by have := ((hb73).lo hk139).lt; omega)
        have hd172 : ¬ A157 = some ⟨g17, 0, none⟩ := fun e' => (hN163 g17 e').elim (fun h => h.elim (fun h => (by have := ((hm78).lo hk139).base_le h; omega)) (fun h => (by have := ((hm79).lo hk139).base_le h; omega))) (fun h => by have := ((hm77).lo hk139).lt; omega)
        have hd173 : ¬ A157 = some ⟨g60, 0, none⟩ := fun e' => (hN163 g60 e').elim (fun h => h.elim (fun h => hd68 h) (fun h => hd69 h)) (fun h => by have := ((hb73).lo hk139).lt; omega)
        have hl174 := hO156.len
        have hl175 := hO156.rd.bound
        have hq176 := use_lenMaps x s (bsP cmpM s.Id x.Maps : Int)
        have hl177 := hO160.len
        have hl178 := hO160.rd.bound
        have hq179 := use_lenAway x s (bsP cmpM s.Id x.Maps : Int)
        refine SR.q' (r_mv (v := .tuple (List.toArray _)) rfl) <| SR.q' (r_ext (v := .agg (List.toArray _)) rfl rfl) <| SR.q' (r_ext (v := .bool _) rfl rfl) <| SR.store (o := 0) (vs := [.slice A153 n154 c155, .slice A157 n158 c159, .int .i64 (((impl_Library_use x s (bsP cmpM s.Id x.Maps : Int)).1).Bought), .int .i64 (((impl_Library_use x s (bsP cmpM s.Id x.Maps : Int)).1).Dropped), .int .i64 (((impl_Library_use x s (bsP cmpM s.Id x.Maps : Int)).1).Mended)]) agg27.2 rfl rfl rfl rfl (((hb73).lo hk139).kp hk152 (fun e' => e'.elim (fun e' => hd68 e') (fun e' => hd69 e'))) (Nat.le_of_ble_eq_true rfl) rfl ?_
        intro w180 hk181 hs182 hb183
        have hz184 := hk181.size
        have hB185 := hB165.new hk181 (by omega)
        refine SR.q' (r_as (v := .bool _) rfl) <| SR.nil ?_
        refine W.seq ?_
        refine W.seq ?_
        have hm186 := (((hm77).lo hk139).kp hk152 (fun e' => e'.elim (fun e' => by have := (((hm78).lo hk139)).base_le e'; omega) (fun e' => by have := (((hm79).lo hk139)).base_le e'; omega))).kn hk181 (by omega)
        refine W.regJS (fun f' w' => At f' [(4, .pointer (pA g17)), (5, .bool false), (6, .pointer (pA g60)), (45, .bool (decide (((!((impl_Library_use x s (bsP cmpM s.Id x.Maps : Int)).2)) = true) ∨ (¬ (LibOK ((impl_Library_use x s (bsP cmpM s.Id x.Maps : Int)).1))))))] ∧ Lo w180 w') ?_ ?_
        · refine SR.q' (r_mv (v := .bool _) rfl) <| SR.q' (r_not rfl) <| SR.q' (r_mv (v := .bool _) rfl) <| SR.split (fun h187 => ?_) (fun h187 => ?_)
          · have hq188 := bnot_t h187
            refine SR.s' rfl <| SR.s' rfl <| SR.s' rfl <| SR.q' (r_pick true rfl (v := .bool true) rfl) <| SR.nil ?_
            exact ⟨_, rfl, ⟨⟨rfl, rfl, rfl, (eDT ((jot h187).1 trivial)), trivial⟩, (Lo.refl _)⟩⟩
          · have hq189 := bnot_f h187
            refine SR.g' rfl (r_lda (l := [.slice A153 n154 c155, .slice A157 n158 c159, .int .i64 (((impl_Library_use x s (bsP cmpM s.Id x.Maps : Int)).1).Bought), .int .i64 (((impl_Library_use x s (bsP cmpM s.Id x.Maps : Int)).1).Dropped), .int .i64 (((impl_Library_use x s (bsP cmpM s.Id x.Maps : Int)).1).Mended)]) agg27 rfl (fun _ _ hu => (hb183).cell hu) rfl) <| SR.gcall rfl ent9 (c_impl_IsLibrary w180 ((impl_Library_use x s (bsP cmpM s.Id x.Maps : Int)).1) ((((hO156).kd hk181 hd169).rd)) ((((hO160).kd hk181 hd173).rd)) (by omega)) rfl ?_
            rintro e w190 ⟨rfl, hk191⟩
            refine ⟨_, rfl, ?_⟩
            have hz192 := hk191.size
            have hB193 := hB185.lo hk191
            refine SR.g' rfl (r_not rfl) <| SR.q' (r_pick false rfl (v := .bool _) rfl) <| SR.nil ?_
            exact ⟨_, rfl, ⟨⟨rfl, rfl, rfl, (eND (jof (ne_true_of_eq_false h187))), trivial⟩, (hk191)⟩⟩
        rintro f194 w195 ⟨hat196, hk197⟩
        rw [← sets_of_at hat196]
        have hz198 := hk197.size
        have hB199 := hB185.lo hk197
        refine W.cond_d rfl (fun h200 => ?_) (fun h200 => ?_)
        · refine W.seq ?_
          refine W.regS (SR.q' (r_build (vs := []) rfl (bld27_)) <| SR.store (o := 0) (vs := [.slice none 0 0, .slice none 0 0, .int .i64 0, .int .i64 0, .int .i64 0]) agg27.2 rfl rfl rfl rfl ((hm186).lo hk197) (Nat.le_of_ble_eq_true rfl) rfl ?_)
          intro w203 hk204 hs205 hb206
          have hz207 := hk204.size
          have hB208 := hB199.new hk204 (by omega)
          refine SR.q' (r_as (v := .bool false) rfl) <| SR.nil ?_
          refine W.ret ?_
          refine retCT rfl rfl agg27 (hb206) rfl (v := .bool _) rfl ?_
          exact ⟨none, 0, 0, none, 0, 0, eR (eT2 (eA (eC rfl (eC rfl (eC (eI (by unfold impl_Library_stepped; rw [if_neg (ne_true_of_eq_false h32), if_neg h80, if_pos h143, if_pos h200] <;> rfl)) (eC (eI (by unfold impl_Library_stepped; rw [if_neg (ne_true_of_eq_false h32), if_neg h80, if_pos h143, if_pos h200] <;> rfl)) (eC (eI (by unfold impl_Library_stepped; rw [if_neg (ne_true_of_eq_false h32), if_neg h80, if_pos h143, if_pos h200] <;> rfl)) rfl)))))) (eB (by unfold impl_Library_stepped; rw [if_neg (ne_true_of_eq_false h32), if_neg h80, if_pos h143, if_pos h200] <;> rfl))), (SlO.eqv (SlO.nil (e := 59) (enc := encLMap) (fun _ => rfl) (by omega)) (by unfold impl_Library_stepped; rw [if_neg (ne_true_of_eq_false h32), if_neg h80, if_pos h143, if_pos h200] <;> rfl)), (SlO.eqv (SlO.nil (e := 63) (enc := encAway) (fun _ => rfl) (by omega)) (by unfold impl_Library_stepped; rw [if_neg (ne_true_of_eq_false h32), if_neg h80, if_pos h143, if_pos h200] <;> rfl)), (fun b_ h => by cases h), hB208⟩
        · have hq209 : ¬ ((!((impl_Library_use x s (bsP cmpM s.Id x.Maps : Int)).2)) = true) := (not_or.1 h200).1
          have hq210 : LibOK ((impl_Library_use x s (bsP cmpM s.Id x.Maps : Int)).1) := (Classical.not_not.1 (not_or.1 h200).2)
          refine W.skip ?_
          refine W.seq ?_
          have hm211 := ((hO156).kd hk181 hd169).lo hk197
          have hm212 := ((hO160).kd hk181 hd173).lo hk197
          refine W.regS (SR.q' (r_lda (l := [.slice A153 n154 c155, .slice A157 n158 c159, .int .i64 (((impl_Library_use x s (bsP cmpM s.Id x.Maps : Int)).1).Bought), .int .i64 (((impl_Library_use x s (bsP cmpM s.Id x.Maps : Int)).1).Dropped), .int .i64 (((impl_Library_use x s (bsP cmpM s.Id x.Maps : Int)).1).Mended)]) agg27 rfl (fun _ _ hu => ((hb183).lo hk197).cell hu) rfl) <| SR.store (o := 0) (vs := [.slice A153 n154 c155, .slice A157 n158 c159, .int .i64 (((impl_Library_use x s (bsP cmpM s.Id x.Maps : Int)).1).Bought), .int .i64 (((impl_Library_use x s (bsP cmpM s.Id x.Maps : Int)).1).Dropped), .int .i64 (((impl_Library_use x s (bsP cmpM s.Id x.Maps : Int)).1).Mended)]) agg27.2 rfl rfl rfl rfl ((hm186).lo hk197) (Nat.le_of_ble_eq_true rfl) rfl ?_)
          intro w213 hk214 hs215 hb216
          have hz217 := hk214.size
          have hB218 := hB199.new hk214 (by omega)
          refine SR.q' (r_as (v := .bool true) rfl) <| SR.nil ?_
          refine W.ret ?_
          refine retCT rfl rfl agg27 (hb216) rfl (v := .bool _) rfl ?_
          exact ⟨A153, n154, c155, A157, n158, c159, eR (eT2 (eA (eC rfl (eC rfl (eC (eI (by subst hl174 hl177; unfold impl_Library_stepped; rw [if_neg (ne_true_of_eq_false h32), if_neg h80, if_pos h143, if_neg h200] <;> rfl)) (eC (eI (by subst hl174 hl177; unfold impl_Library_stepped; rw [if_neg (ne_true_of_eq_false h32), if_neg h80, if_pos h143, if_neg h200] <;> rfl)) (eC (eI (by subst hl174 hl177; unfold impl_Library_stepped; rw [if_neg (ne_true_of_eq_false h32), if_neg h80, if_pos h143, if_neg h200] <;> rfl)) rfl)))))) (eB (by subst hl174 hl177; unfold impl_Library_stepped; rw [if_neg (ne_true_of_eq_false h32), if_neg h80, if_pos h143, if_neg h200] <;> rfl))), (SlO.eqv (((hm211).kd hk214 hd168).down (by omega)) (by subst hl174 hl177; unfold impl_Library_stepped; rw [if_neg (ne_true_of_eq_false h32), if_neg h80, if_pos h143, if_neg h200] <;> rfl)), (SlO.eqv (((hm212).kd hk214 hd172).down (by omega)) (by subst hl174 hl177; unfold impl_Library_stepped; rw [if_neg (ne_true_of_eq_false h32), if_neg h80, if_pos h143, if_neg h200] <;> rfl)), hd161, hB218⟩

open Classical in
noncomputable def impl_StepLibrary (x : Library) (s : LibraryStep) : Library × Bool :=
  if LibOK x then (((impl_Library_stepped x s).1), (impl_Library_stepped x s).2) else ((⟨([] : List LMap), ([] : List Away), 0, 0, 0⟩ : Library), false)
theorem c_impl_StepLibrary (w : World) (x : Library) {Ax_Maps : Option Addr} {nx_Maps cx_Maps Bx_Maps : Nat} (hx_Maps : SlR w Bx_Maps encLMap 3 Ax_Maps nx_Maps cx_Maps x.Maps) {Ax_Away : Option Addr} {nx_Away cx_Away Bx_Away : Nat} (hx_Away : SlR w Bx_Away encAway 2 Ax_Away nx_Away cx_Away x.Away) (s : LibraryStep) (hp0 : (nx_Maps : Int) ≤ 1048576) : Calls Try.prog 6 #[.agg (List.toArray [.slice Ax_Maps nx_Maps cx_Maps, .slice Ax_Away nx_Away cx_Away, .int .i64 x.Bought, .int .i64 x.Dropped, .int .i64 x.Mended]), .agg (List.toArray (encLibraryStep s))] w fun e w' => ∃ (A1' : Option Addr) (n1' c1' : Nat) (A2' : Option Addr) (n2' c2' : Nat), e = .returned (.tuple (List.toArray [.agg (List.toArray [.slice A1' n1' c1', .slice A2' n2' c2', .int .i64 (((impl_StepLibrary x s).1).Bought), .int .i64 (((impl_StepLibrary x s).1).Dropped), .int .i64 (((impl_StepLibrary x s).1).Mended)]), .bool ((impl_StepLibrary x s).2)])) ∧ SlO w' w.heap.size encLMap 3 59 A1' n1' c1' (((impl_StepLibrary x s).1).Maps) ∧ SlO w' w.heap.size encAway 2 63 A2' n2' c2' (((impl_StepLibrary x s).1).Away) ∧ (∀ b_, A1' = some ⟨b_, 0, none⟩ → ¬ A2' = some ⟨b_, 0, none⟩) ∧ Lo w w' := by
  refine calls_W 15 Try.func6 rfl rfl rfl ?_
  have hbdx_Maps := hx_Maps.bound
  have hlex_Maps := hx_Maps.len
  have hBbx_Maps := hx_Maps.bd
  have hbdx_Away := hx_Away.bound
  have hlex_Away := hx_Away.len
  have hBbx_Away := hx_Away.bd
  have hbdx_Maps := hx_Maps.bound
  have hlex_Maps := hx_Maps.len
  have hBbx_Maps := hx_Maps.bd
  have hbdx_Away := hx_Away.bound
  have hlex_Away := hx_Away.len
  have hBbx_Away := hx_Away.bd
  refine W.seq ?_
  refine W.regS (SR.box (v := .agg (List.toArray _)) (l := [.slice Ax_Maps nx_Maps cx_Maps, .slice Ax_Away nx_Away cx_Away, .int .i64 x.Bought, .int .i64 x.Dropped, .int .i64 x.Mended]) rfl rfl ?_)
  intro g1 w2 hg3 hk4 hs5 hb6
  have hz7 := hk4.size
  have hB8 := (Lo.refl w).lo hk4
  refine SR.box (v := .agg (List.toArray _)) (l := [.int .i64 s.Kind, .int .i64 s.Id, .int .i64 s.Reader, .int .i64 s.Value]) rfl rfl ?_
  intro g9 w10 hg11 hk12 hs13 hb14
  have hz15 := hk12.size
  have hB16 := hB8.lo hk12
  refine SR.alloc (l := [.slice none 0 0, .slice none 0 0, .int .i64 0, .int .i64 0, .int .i64 0]) tz27 rfl ?_
  intro g17 w18 hg19 hk20 hs21 hb22
  have hz23 := hk20.size
  have hB24 := hB16.lo hk20
  refine SR.q' (r_as (v := .bool false) rfl) <| SR.nil ?_
  refine W.seq ?_
  refine W.seq ?_
  have hm25 := ((hb6).lo hk12).lo hk20
  have hm26 := (((hx_Maps).lo hk4).lo hk12).lo hk20
  have hm27 := (((hx_Away).lo hk4).lo hk12).lo hk20
  refine W.regS (SR.q' (r_lda (l := [.slice Ax_Maps nx_Maps cx_Maps, .slice Ax_Away nx_Away cx_Away, .int .i64 x.Bought, .int .i64 x.Dropped, .int .i64 x.Mended]) agg27 rfl (fun _ _ hu => (hm25).cell hu) rfl) <| SR.call ent9 (c_impl_IsLibrary w18 x ((hm26)) ((hm27)) (by omega)) rfl ?_)
  rintro e w28 ⟨rfl, hk29⟩
  refine ⟨_, rfl, ?_⟩
  have hz30 := hk29.size
  have hB31 := hB24.lo hk29
  refine SR.q' (r_not rfl) <| SR.nil ?_
  refine W.cond_n rfl (fun h32 => ?_) (fun h32 => ?_)
  · refine W.seq ?_
    refine W.regS (SR.q' (r_build (vs := []) rfl (bld27_)) <| SR.store (o := 0) (vs := [.slice none 0 0, .slice none 0 0, .int .i64 0, .int .i64 0, .int .i64 0]) agg27.2 rfl rfl rfl rfl ((hb22).lo hk29) (Nat.le_of_ble_eq_true rfl) rfl ?_)
    intro w34 hk35 hs36 hb37
    have hz38 := hk35.size
    have hB39 := hB31.new hk35 (by omega)
    refine SR.q' (r_as (v := .bool false) rfl) <| SR.nil ?_
    refine W.ret ?_
    refine retCT rfl rfl agg27 (hb37) rfl (v := .bool _) rfl ?_
    exact ⟨none, 0, 0, none, 0, 0, eR (eT2 (eA (eC rfl (eC rfl (eC (eI (by unfold impl_StepLibrary; rw [if_neg h32] <;> rfl)) (eC (eI (by unfold impl_StepLibrary; rw [if_neg h32] <;> rfl)) (eC (eI (by unfold impl_StepLibrary; rw [if_neg h32] <;> rfl)) rfl)))))) (eB (by unfold impl_StepLibrary; rw [if_neg h32] <;> rfl))), (SlO.eqv (SlO.nil (e := 59) (enc := encLMap) (fun _ => rfl) (by omega)) (by unfold impl_StepLibrary; rw [if_neg h32] <;> rfl)), (SlO.eqv (SlO.nil (e := 63) (enc := encAway) (fun _ => rfl) (by omega)) (by unfold impl_StepLibrary; rw [if_neg h32] <;> rfl)), (fun b_ h => by cases h), hB39⟩
  · have hq40 := And.left h32
    have hq41 := lib_len h32
    have hq42 := And.left hq40
    have hq43 := And.right hq40
    refine W.skip ?_
    refine W.seq ?_
    have hm44 := ((hb14).lo hk20).lo hk29
    refine W.regS (SR.q' (r_lda (l := [.slice Ax_Maps nx_Maps cx_Maps, .slice Ax_Away nx_Away cx_Away, .int .i64 x.Bought, .int .i64 x.Dropped, .int .i64 x.Mended]) agg27 rfl (fun _ _ hu => ((hm25).lo hk29).cell hu) rfl) <| SR.q' (r_lda (l := [.int .i64 s.Kind, .int .i64 s.Id, .int .i64 s.Reader, .int .i64 s.Value]) agg29 rfl (fun _ _ hu => (hm44).cell hu) rfl) <| SR.call ent22 (c__impl_Library__stepped w28 x (((hm26).lo hk29)) (((hm27).lo hk29)) s (by omega) (by omega)) rfl ?_)
    rintro e w45 ⟨A47, n48, c49, A51, n52, c53, rfl, hO50, hO54, hd55, hk46⟩
    refine ⟨_, rfl, ?_⟩
    have hz56 := hk46.size
    have hB57 := hB31.lo hk46
    have hl58 := hO50.len
    have hl59 := hO50.rd.bound
    have hl60 := hO54.len
    have hl61 := hO54.rd.bound
    refine SR.q' (r_ext (v := .agg (List.toArray _)) rfl rfl) <| SR.q' (r_ext (v := .bool _) rfl rfl) <| SR.store (o := 0) (vs := [.slice A47 n48 c49, .slice A51 n52 c53, .int .i64 (((impl_Library_stepped x s).1).Bought), .int .i64 (((impl_Library_stepped x s).1).Dropped), .int .i64 (((impl_Library_stepped x s).1).Mended)]) agg27.2 rfl rfl rfl rfl (((hb22).lo hk29).lo hk46) (Nat.le_of_ble_eq_true rfl) rfl ?_
    intro w62 hk63 hs64 hb65
    have hz66 := hk63.size
    have hB67 := hB57.new hk63 (by omega)
    refine SR.q' (r_as (v := .bool _) rfl) <| SR.nil ?_
    refine W.ret ?_
    refine retCT rfl rfl agg27 (hb65) rfl (v := .bool _) rfl ?_
    exact ⟨A47, n48, c49, A51, n52, c53, eR (eT2 (eA (eC rfl (eC rfl (eC (eI (by subst hl58 hl60; unfold impl_StepLibrary; rw [if_pos h32] <;> rfl)) (eC (eI (by subst hl58 hl60; unfold impl_StepLibrary; rw [if_pos h32] <;> rfl)) (eC (eI (by subst hl58 hl60; unfold impl_StepLibrary; rw [if_pos h32] <;> rfl)) rfl)))))) (eB (by subst hl58 hl60; unfold impl_StepLibrary; rw [if_pos h32] <;> rfl))), (SlO.eqv (((hO50).kn hk63 (by omega)).down (by omega)) (by subst hl58 hl60; unfold impl_StepLibrary; rw [if_pos h32] <;> rfl)), (SlO.eqv (((hO54).kn hk63 (by omega)).down (by omega)) (by subst hl58 hl60; unfold impl_StepLibrary; rw [if_pos h32] <;> rfl)), hd55, hB67⟩
end Go.Proofs.Ytgobbcilgcbkaaa
