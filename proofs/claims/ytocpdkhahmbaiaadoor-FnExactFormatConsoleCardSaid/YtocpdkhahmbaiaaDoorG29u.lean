/- Walks, printed by a program of this claim's author. -/
import Derived.Test.YtocpdkhahmbaiaaDoorChecked
import Derived.Test.YtocpdkhahmbaiaaDoorUt
import Derived.Test.YtocpdkhahmbaiaaDoorWb
import Derived.Test.YtocpdkhahmbaiaaDoorFt
import Derived.Test.YtocpdkhahmbaiaaDoorSi
import Derived.Test.YtocpdkhahmbaiaaDoorG32c
namespace Go.Proofs.YtocpdkhahmbaiaaDoor
open Go Go.RowKit Fw
set_option maxRecDepth 10000
set_option linter.unusedVariables false
theorem ent17 : Ent Tryd.prog 17 := ent_of Tryd.func17 (by decide +kernel) rfl
theorem ent41 : Ent Tryd.prog 41 := ent_of Tryd.func41 (by decide +kernel) rfl
theorem ent42 : Ent Tryd.prog 42 := ent_of Tryd.func42 (by decide +kernel) rfl

theorem z_c__impl_Library__readersOf_10 (x : Library) (nx_Maps : Nat) (hbdx_Maps : (nx_Maps : Int) ≤ 9223372036854775807) (hlex_Maps : nx_Maps = x.Maps.length) (nx_Away : Nat) (hbdx_Away : (nx_Away : Int) ≤ 9223372036854775807) (hlex_Away : nx_Away = x.Away.length) (r : Int) (hp0 : nx_Away ≤ 8) : 0 ≤ nx_Away := by
  omega
theorem z_c__impl_Library__readersOf_11 (x : Library) (nx_Maps : Nat) (hbdx_Maps : (nx_Maps : Int) ≤ 9223372036854775807) (hlex_Maps : nx_Maps = x.Maps.length) (nx_Away : Nat) (hbdx_Away : (nx_Away : Int) ≤ 9223372036854775807) (hlex_Away : nx_Away = x.Away.length) (r : Int) (hp0 : nx_Away ≤ 8) : ([] : List Int) = selL (ofM r) Away.Reader (x.Away.take 0) := by
  rfl
theorem z_c__impl_Library__readersOf_59 (x : Library) (nx_Maps : Nat) (hbdx_Maps : (nx_Maps : Int) ≤ 9223372036854775807) (hlex_Maps : nx_Maps = x.Maps.length) (nx_Away : Nat) (hbdx_Away : (nx_Away : Int) ≤ 9223372036854775807) (hlex_Away : nx_Away = x.Away.length) (r : Int) (hp0 : nx_Away ≤ 8) (k : Nat) (n9 : Nat) (c9 : Nat) (hi18 : k ≤ nx_Away) (hl19 : n9 = (selL (ofM r) Away.Reader (x.Away.take k)).length) (hq21 : (selL (ofM r) Away.Reader (x.Away.take k)).length ≤ x.Away.length) (h22 : (k : Int) < (nx_Away : Int)) (hx24 : x.Away[k]? = some (gt x.Away k)) (h40 : ((gt x.Away k).Map) = r) : (selL (ofM r) Away.Reader (x.Away.take k)) ++ ([(gt x.Away k).Reader] : List Int) = selL (ofM r) Away.Reader (x.Away.take (k + 1)) := by
  first | exact sel_yes (by omega) (decide_eq_true ‹_›) | exact sel_no (by omega) (decide_eq_false ‹_›)
theorem z_c__impl_Library__readersOf_60 (x : Library) (nx_Maps : Nat) (hbdx_Maps : (nx_Maps : Int) ≤ 9223372036854775807) (hlex_Maps : nx_Maps = x.Maps.length) (nx_Away : Nat) (hbdx_Away : (nx_Away : Int) ≤ 9223372036854775807) (hlex_Away : nx_Away = x.Away.length) (r : Int) (hp0 : nx_Away ≤ 8) (k : Nat) (n9 : Nat) (c9 : Nat) (hi18 : k ≤ nx_Away) (hl19 : n9 = (selL (ofM r) Away.Reader (x.Away.take k)).length) (hq21 : (selL (ofM r) Away.Reader (x.Away.take k)).length ≤ x.Away.length) (h22 : (k : Int) < (nx_Away : Int)) (hx24 : x.Away[k]? = some (gt x.Away k)) (h40 : ((gt x.Away k).Map) = r) : k + 1 ≤ nx_Away := by
  omega
theorem z_c__impl_Library__readersOf_61 (x : Library) (nx_Maps : Nat) (hbdx_Maps : (nx_Maps : Int) ≤ 9223372036854775807) (hlex_Maps : nx_Maps = x.Maps.length) (nx_Away : Nat) (hbdx_Away : (nx_Away : Int) ≤ 9223372036854775807) (hlex_Away : nx_Away = x.Away.length) (r : Int) (hp0 : nx_Away ≤ 8) (k : Nat) (n9 : Nat) (c9 : Nat) (hi18 : k ≤ nx_Away) (hl19 : n9 = (selL (ofM r) Away.Reader (x.Away.take k)).length) (hq21 : (selL (ofM r) Away.Reader (x.Away.take k)).length ≤ x.Away.length) (h22 : (k : Int) < (nx_Away : Int)) (hx24 : x.Away[k]? = some (gt x.Away k)) (h40 : ((gt x.Away k).Map) = r) : nx_Away - (k + 1) < nx_Away - k := by
  omega
theorem z_c__impl_Library__readersOf_62 (x : Library) (nx_Maps : Nat) (hbdx_Maps : (nx_Maps : Int) ≤ 9223372036854775807) (hlex_Maps : nx_Maps = x.Maps.length) (nx_Away : Nat) (hbdx_Away : (nx_Away : Int) ≤ 9223372036854775807) (hlex_Away : nx_Away = x.Away.length) (r : Int) (hp0 : nx_Away ≤ 8) (k : Nat) (n9 : Nat) (c9 : Nat) (hi18 : k ≤ nx_Away) (hl19 : n9 = (selL (ofM r) Away.Reader (x.Away.take k)).length) (hq21 : (selL (ofM r) Away.Reader (x.Away.take k)).length ≤ x.Away.length) (h22 : (k : Int) < (nx_Away : Int)) (hx24 : x.Away[k]? = some (gt x.Away k)) (h40 : ¬ (((gt x.Away k).Map) = r)) : selL (ofM r) Away.Reader (x.Away.take k) = selL (ofM r) Away.Reader (x.Away.take (k + 1)) := by
  first | exact sel_yes (by omega) (decide_eq_true ‹_›) | exact sel_no (by omega) (decide_eq_false ‹_›)
theorem z_c__impl_Library__readersOf_63 (x : Library) (nx_Maps : Nat) (hbdx_Maps : (nx_Maps : Int) ≤ 9223372036854775807) (hlex_Maps : nx_Maps = x.Maps.length) (nx_Away : Nat) (hbdx_Away : (nx_Away : Int) ≤ 9223372036854775807) (hlex_Away : nx_Away = x.Away.length) (r : Int) (hp0 : nx_Away ≤ 8) (k : Nat) (n9 : Nat) (c9 : Nat) (hi18 : k ≤ nx_Away) (hl19 : n9 = (selL (ofM r) Away.Reader (x.Away.take k)).length) (hq21 : (selL (ofM r) Away.Reader (x.Away.take k)).length ≤ x.Away.length) (h22 : (k : Int) < (nx_Away : Int)) (hx24 : x.Away[k]? = some (gt x.Away k)) (h40 : ¬ (((gt x.Away k).Map) = r)) : k + 1 ≤ nx_Away := by
  omega
theorem z_c__impl_Library__readersOf_64 (x : Library) (nx_Maps : Nat) (hbdx_Maps : (nx_Maps : Int) ≤ 9223372036854775807) (hlex_Maps : nx_Maps = x.Maps.length) (nx_Away : Nat) (hbdx_Away : (nx_Away : Int) ≤ 9223372036854775807) (hlex_Away : nx_Away = x.Away.length) (r : Int) (hp0 : nx_Away ≤ 8) (k : Nat) (n9 : Nat) (c9 : Nat) (hi18 : k ≤ nx_Away) (hl19 : n9 = (selL (ofM r) Away.Reader (x.Away.take k)).length) (hq21 : (selL (ofM r) Away.Reader (x.Away.take k)).length ≤ x.Away.length) (h22 : (k : Int) < (nx_Away : Int)) (hx24 : x.Away[k]? = some (gt x.Away k)) (h40 : ¬ (((gt x.Away k).Map) = r)) : nx_Away - (k + 1) < nx_Away - k := by
  omega
theorem z_c__impl_Library__readersOf_65 (x : Library) (nx_Maps : Nat) (hbdx_Maps : (nx_Maps : Int) ≤ 9223372036854775807) (hlex_Maps : nx_Maps = x.Maps.length) (nx_Away : Nat) (hbdx_Away : (nx_Away : Int) ≤ 9223372036854775807) (hlex_Away : nx_Away = x.Away.length) (r : Int) (hp0 : nx_Away ≤ 8) (k : Nat) (n9 : Nat) (c9 : Nat) (hi18 : k ≤ nx_Away) (hl19 : n9 = (selL (ofM r) Away.Reader (x.Away.take k)).length) (hq21 : (selL (ofM r) Away.Reader (x.Away.take k)).length ≤ x.Away.length) (h22 : ¬ ((k : Int) < (nx_Away : Int))) : selL (ofM r) Away.Reader (x.Away.take k) = selL (ofM r) Away.Reader x.Away := by
  exact sel_end (by omega)
theorem c__impl_Library__readersOf (w : World) (x : Library) {Ax_Maps : Option Addr} {nx_Maps cx_Maps Bx_Maps : Nat} (hx_Maps : SlR w Bx_Maps encLMap 3 Ax_Maps nx_Maps cx_Maps x.Maps) {Ax_Away : Option Addr} {nx_Away cx_Away Bx_Away : Nat} (hx_Away : SlR w Bx_Away encAway 2 Ax_Away nx_Away cx_Away x.Away) (r : Int) (hp0 : nx_Away ≤ 8) : Calls Tryd.prog 42 #[.agg (List.toArray [.slice Ax_Maps nx_Maps cx_Maps, .slice Ax_Away nx_Away cx_Away, .int .i64 x.Bought, .int .i64 x.Dropped, .int .i64 x.Mended]), .int .i64 r] w fun e w' => ∃ (A1' : Option Addr) (n1' c1' : Nat), e = .returned (.slice A1' n1' c1') ∧ SlO w' w.heap.size encI 1 3 A1' n1' c1' (selL (ofM r) Away.Reader x.Away) ∧ Lo w w' := by
  refine calls_W 26 Tryd.func42 rfl rfl rfl ?_
  have hbdx_Maps := hx_Maps.bound
  have hlex_Maps := hx_Maps.len
  have hBbx_Maps := hx_Maps.bd
  have hbdx_Away := hx_Away.bound
  have hlex_Away := hx_Away.len
  have hBbx_Away := hx_Away.bd
  refine W.seq ?_
  refine W.regS (SR.box (v := .agg (List.toArray _)) (l := [.slice Ax_Maps nx_Maps cx_Maps, .slice Ax_Away nx_Away cx_Away, .int .i64 x.Bought, .int .i64 x.Dropped, .int .i64 x.Mended]) rfl rfl ?_)
  intro g1 w2 hg3 hk4 hs5 hb6
  have hz7 := hk4.size
  have hB8 := (Lo.refl w).lo hk4
  refine SR.q' (r_as (v := .slice none 0 0) rfl) <| SR.nil ?_
  refine W.seq ?_
  refine W.regS (SR.q' (r_as (v := .slice none 0 0) rfl) <| SR.nil ?_)
  refine W.seq ?_
  refine W.seq ?_
  refine W.regS (SR.q' (r_fa fa35_1 rfl) <| SR.q' (r_ld (v := .slice Ax_Away nx_Away cx_Away) sca33 rfl ((hb6).cell rfl)) <| SR.q' (r_len und33 rfl) <| SR.q' (r_mv (v := .int .i64 0) rfl) <| SR.nil ?_)
  refine W.block ?_
  refine W.loop (σ := Nat × (Option Addr) × Nat × Nat) (fun g => [(1, .int .i64 r), (4, .slice none 0 0), (5, .slice g.2.1 g.2.2.1 g.2.2.2), (9, .slice Ax_Away nx_Away cx_Away), (10, .int .i64 (nx_Away : Int)), (11, .int .i64 (g.1 : Int))]) (fun g w' => (Lo w w') ∧ (SlR w' Bx_Away encAway 2 Ax_Away nx_Away cx_Away x.Away) ∧ (SlO w' w.heap.size encI 1 3 g.2.1 g.2.2.1 g.2.2.2 (selL (ofM r) Away.Reader (x.Away.take g.1))) ∧ (g.1 ≤ nx_Away)) (fun g => nx_Away - g.1) (0, (none : Option Addr), 0, 0) ?_ ?_ ?_
  · exact ⟨rfl, rfl, rfl, rfl, rfl, rfl, trivial⟩
  · exact ⟨hB8, (hx_Away).lo hk4, (SlO.eqv (SlO.nil (base := w.heap.size) (e := 3) (enc := encI) (fun _ => rfl) (by omega)) (z_c__impl_Library__readersOf_11 x nx_Maps hbdx_Maps hlex_Maps nx_Away hbdx_Away hlex_Away r hp0)), (z_c__impl_Library__readersOf_10 x nx_Maps hbdx_Maps hlex_Maps nx_Away hbdx_Away hlex_Away r hp0)⟩
  · rintro ⟨k, A9, n9, c9⟩ f12 w13 hP15
    obtain ⟨hB14, hm16, hO17, hi18⟩ : (Lo w w13) ∧ (SlR w13 Bx_Away encAway 2 Ax_Away nx_Away cx_Away x.Away) ∧ (SlO w13 w.heap.size encI 1 3 A9 n9 c9 (selL (ofM r) Away.Reader (x.Away.take k))) ∧ (k ≤ nx_Away) := hP15
    refine (?_ : W _ _ _ _ _ (act _ (sets f12 [(1, .int .i64 r), (4, .slice none 0 0), (5, .slice A9 n9 c9), (9, .slice Ax_Away nx_Away cx_Away), (10, .int .i64 (nx_Away : Int)), (11, .int .i64 (k : Int))])) _)
    have hzw13 := hB14.size
    have hl19 := hO17.len
    have hl20 := hO17.rd.bound
    have hq21 := sel_lenT x.Away k (ofM r) Away.Reader
    refine W.seq ?_
    refine W.regS (SR.q' (r_lt rfl rfl) <| SR.nil ?_)
    refine W.seq ?_
    refine W.cond_d rfl (fun h22 => ?_) (fun h22 => ?_)
    · refine W.skip ?_
      refine W.seq ?_
      refine W.block ?_
      refine W.seq ?_
      have hx24 := (hm16).elem (i := k) (by omega)
      refine W.regS (SR.q' (r_ixR tsl33 (hm16) rfl rfl (by omega)) <| SR.q' (r_lda (l := encAway (gt x.Away k)) agg64 rfl (fun _ _ hu => (hm16).cell hx24 hu) ((hm16).esz _)) <| SR.alloc (l := [.int .i64 0, .int .i64 0]) tz64 rfl ?_)
      intro g25 w26 hg27 hk28 hs29 hb30
      have hz31 := hk28.size
      have hB32 := hB14.lo hk28
      have hd33 : ¬ A9 = some ⟨g25, 0, none⟩ := fun e' => by have := (hO17).base_le e'; omega
      refine SR.store (o := 0) (vs := [.int .i64 ((gt x.Away k).Map), .int .i64 ((gt x.Away k).Reader)]) agg64.2 rfl rfl rfl rfl (hb30) (Nat.le_of_ble_eq_true rfl) rfl ?_
      intro w34 hk35 hs36 hb37
      have hz38 := hk35.size
      have hB39 := hB32.new hk35 (by omega)
      refine SR.nil ?_
      refine W.seq ?_
      refine W.regS (SR.q' (r_fa fa64_0 rfl) <| SR.q' (r_ld (v := .int .i64 ((gt x.Away k).Map)) sca3 rfl ((hb37).cell rfl)) <| SR.q' (r_mv (v := .int .i64 _) rfl) <| SR.q' (r_eq rfl rfl) <| SR.nil ?_)
      refine W.cond_d rfl (fun h40 => ?_) (fun h40 => ?_)
      · refine W.regS (SR.q' (r_mv (v := .slice _ _ _) rfl) <| SR.q' (r_fa fa64_1 rfl) <| SR.q' (r_ld (v := .int .i64 ((gt x.Away k).Reader)) sca3 rfl ((hb37).cell rfl)) <| SR.lit (vs := [.int .i64 ((gt x.Away k).Reader)]) (L := ([(gt x.Away k).Reader] : List Int)) (enc := encI) tel74 (fun _ => rfl) rfl rfl rfl (by decide) ?_)
        intro g41 w42 hg43 hk44 hO45
        have hz46 := hk44.size
        have hB47 := hB39.lo hk44
        have hd48 : ¬ A9 = some ⟨g41, 0, none⟩ := fun e' => by have := (((hO17).lo hk28).kp hk35 (fun b_ hb e' => hd33 (by have e'' : b_ = g25 := e'; rw [← e'']; exact hb))).base_le e'; omega
        refine SR.app tel74 rfl rfl ((((hO17).lo hk28).kp hk35 (fun b_ hb e' => hd33 (by have e'' : b_ = g25 := e'; rw [← e'']; exact hb))).lo hk44) ((hO45).rd) (fun _ => rfl) (by omega) (by omega) ?_
        intro A49 c50 w51 hk52 hO53 hN54
        have hz55 := hk52.size
        have hB56 := hB47.step hk52 (fun i_ hi_ e' => by have := (((((hO17).lo hk28).kp hk35 (fun b_ hb e' => hd33 (by have e'' : b_ = g25 := e'; rw [← e'']; exact hb))).lo hk44)).base_le e'; first | omega | (exfalso; omega) | exact e' | exact .inl e' | exact .inr e')
        have hd57 : ¬ A49 = some ⟨g25, 0, none⟩ := fun e' => (hN54 g25 e').elim (fun h => hd33 (h.trans e')) (fun h => by have := ((hb37).lo hk44).lt; omega)
        refine SR.q' (r_as (v := .slice _ _ _) rfl) <| SR.nil ?_
        refine W.regS (SR.q' (r_add rfl rfl (by omega)) <| SR.q' (r_mv (v := .int .i64 _) rfl) <| SR.nil ?_)
        refine ⟨(k + 1, A49, n9 + 1, c50), _, rfl, ⟨rfl, rfl, rfl, rfl, rfl, rfl, trivial⟩, ⟨hB56, ((((hm16).lo hk28).kp hk35 (fun b_ hb e' => by have e'' : b_ = g25 := e'; omega)).lo hk44).kp hk52 (fun b_ hb e' => by have := (((((hO17).lo hk28).kp hk35 (fun b_ hb e' => hd33 (by have e'' : b_ = g25 := e'; rw [← e'']; exact hb))).lo hk44)).base_le e'; omega), (SlO.eqv (hO53) (z_c__impl_Library__readersOf_59 x nx_Maps hbdx_Maps hlex_Maps nx_Away hbdx_Away hlex_Away r hp0 k n9 c9 hi18 hl19 hq21 h22 hx24 h40)), ?_⟩, ?_⟩
        · exact (z_c__impl_Library__readersOf_60 x nx_Maps hbdx_Maps hlex_Maps nx_Away hbdx_Away hlex_Away r hp0 k n9 c9 hi18 hl19 hq21 h22 hx24 h40)
        · exact (z_c__impl_Library__readersOf_61 x nx_Maps hbdx_Maps hlex_Maps nx_Away hbdx_Away hlex_Away r hp0 k n9 c9 hi18 hl19 hq21 h22 hx24 h40)
      · refine W.skip ?_
        refine W.regS (SR.q' (r_add rfl rfl (by omega)) <| SR.q' (r_mv (v := .int .i64 _) rfl) <| SR.nil ?_)
        refine ⟨(k + 1, A9, n9, c9), _, rfl, ⟨rfl, rfl, rfl, rfl, rfl, rfl, trivial⟩, ⟨hB39, ((hm16).lo hk28).kp hk35 (fun b_ hb e' => by have e'' : b_ = g25 := e'; omega), (SlO.eqv (((hO17).lo hk28).kp hk35 (fun b_ hb e' => hd33 (by have e'' : b_ = g25 := e'; rw [← e'']; exact hb))) (z_c__impl_Library__readersOf_62 x nx_Maps hbdx_Maps hlex_Maps nx_Away hbdx_Away hlex_Away r hp0 k n9 c9 hi18 hl19 hq21 h22 hx24 h40)), ?_⟩, ?_⟩
        · exact (z_c__impl_Library__readersOf_63 x nx_Maps hbdx_Maps hlex_Maps nx_Away hbdx_Away hlex_Away r hp0 k n9 c9 hi18 hl19 hq21 h22 hx24 h40)
        · exact (z_c__impl_Library__readersOf_64 x nx_Maps hbdx_Maps hlex_Maps nx_Away hbdx_Away hlex_Away r hp0 k n9 c9 hi18 hl19 hq21 h22 hx24 h40)
    · refine W.exit (xin_here ?_)
      refine W.seq ?_
      refine W.regS (SR.q' (r_mv (v := .slice _ _ _) rfl) <| SR.q' (r_as (v := .slice _ _ _) rfl) <| SR.nil ?_)
      refine W.ret ?_
      refine ret1 rfl (v := .slice _ _ _) rfl ?_
      exact ⟨A9, n9, c9, eR rfl, (SlO.eqv ((hO17).down (by omega)) (z_c__impl_Library__readersOf_65 x nx_Maps hbdx_Maps hlex_Maps nx_Away hbdx_Away hlex_Away r hp0 k n9 c9 hi18 hl19 hq21 h22)), hB14⟩

theorem z_c_spec_l32At_17 (x : Library) (nx_Maps : Nat) (hbdx_Maps : (nx_Maps : Int) ≤ 9223372036854775807) (hlex_Maps : nx_Maps = x.Maps.length) (nx_Away : Nat) (hbdx_Away : (nx_Away : Int) ≤ 9223372036854775807) (hlex_Away : nx_Away = x.Away.length) (r : Int) (hp0 : nx_Away ≤ 8) : 0 ≤ nx_Away := by
  omega
theorem z_c_spec_l32At_18 (x : Library) (nx_Maps : Nat) (hbdx_Maps : (nx_Maps : Int) ≤ 9223372036854775807) (hlex_Maps : nx_Maps = x.Maps.length) (nx_Away : Nat) (hbdx_Away : (nx_Away : Int) ≤ 9223372036854775807) (hlex_Away : nx_Away = x.Away.length) (r : Int) (hp0 : nx_Away ≤ 8) : ([] : List Int) = selL (ofM r) Away.Reader (x.Away.take 0) := by
  rfl
theorem z_c_spec_l32At_55 (x : Library) (nx_Maps : Nat) (hbdx_Maps : (nx_Maps : Int) ≤ 9223372036854775807) (hlex_Maps : nx_Maps = x.Maps.length) (nx_Away : Nat) (hbdx_Away : (nx_Away : Int) ≤ 9223372036854775807) (hlex_Away : nx_Away = x.Away.length) (r : Int) (hp0 : nx_Away ≤ 8) (k : Nat) (n16 : Nat) (c16 : Nat) (hi27 : k ≤ nx_Away) (hl30 : n16 = (selL (ofM r) Away.Reader (x.Away.take k)).length) (hq32 : (selL (ofM r) Away.Reader (x.Away.take k)).length ≤ x.Away.length) (h33 : (k : Int) < (nx_Away : Int)) (hx35 : x.Away[k]? = some (gt x.Away k)) (h36 : ((gt x.Away k).Map) = r) : (selL (ofM r) Away.Reader (x.Away.take k)) ++ ([(gt x.Away k).Reader] : List Int) = selL (ofM r) Away.Reader (x.Away.take (k + 1)) := by
  first | exact sel_yes (by omega) (decide_eq_true ‹_›) | exact sel_no (by omega) (decide_eq_false ‹_›)
theorem z_c_spec_l32At_56 (x : Library) (nx_Maps : Nat) (hbdx_Maps : (nx_Maps : Int) ≤ 9223372036854775807) (hlex_Maps : nx_Maps = x.Maps.length) (nx_Away : Nat) (hbdx_Away : (nx_Away : Int) ≤ 9223372036854775807) (hlex_Away : nx_Away = x.Away.length) (r : Int) (hp0 : nx_Away ≤ 8) (k : Nat) (n16 : Nat) (c16 : Nat) (hi27 : k ≤ nx_Away) (hl30 : n16 = (selL (ofM r) Away.Reader (x.Away.take k)).length) (hq32 : (selL (ofM r) Away.Reader (x.Away.take k)).length ≤ x.Away.length) (h33 : (k : Int) < (nx_Away : Int)) (hx35 : x.Away[k]? = some (gt x.Away k)) (h36 : ((gt x.Away k).Map) = r) : k + 1 ≤ nx_Away := by
  omega
theorem z_c_spec_l32At_57 (x : Library) (nx_Maps : Nat) (hbdx_Maps : (nx_Maps : Int) ≤ 9223372036854775807) (hlex_Maps : nx_Maps = x.Maps.length) (nx_Away : Nat) (hbdx_Away : (nx_Away : Int) ≤ 9223372036854775807) (hlex_Away : nx_Away = x.Away.length) (r : Int) (hp0 : nx_Away ≤ 8) (k : Nat) (n16 : Nat) (c16 : Nat) (hi27 : k ≤ nx_Away) (hl30 : n16 = (selL (ofM r) Away.Reader (x.Away.take k)).length) (hq32 : (selL (ofM r) Away.Reader (x.Away.take k)).length ≤ x.Away.length) (h33 : (k : Int) < (nx_Away : Int)) (hx35 : x.Away[k]? = some (gt x.Away k)) (h36 : ((gt x.Away k).Map) = r) : nx_Away - (k + 1) < nx_Away - k := by
  omega
theorem z_c_spec_l32At_58 (x : Library) (nx_Maps : Nat) (hbdx_Maps : (nx_Maps : Int) ≤ 9223372036854775807) (hlex_Maps : nx_Maps = x.Maps.length) (nx_Away : Nat) (hbdx_Away : (nx_Away : Int) ≤ 9223372036854775807) (hlex_Away : nx_Away = x.Away.length) (r : Int) (hp0 : nx_Away ≤ 8) (k : Nat) (n16 : Nat) (c16 : Nat) (hi27 : k ≤ nx_Away) (hl30 : n16 = (selL (ofM r) Away.Reader (x.Away.take k)).length) (hq32 : (selL (ofM r) Away.Reader (x.Away.take k)).length ≤ x.Away.length) (h33 : (k : Int) < (nx_Away : Int)) (hx35 : x.Away[k]? = some (gt x.Away k)) (h36 : ¬ (((gt x.Away k).Map) = r)) : selL (ofM r) Away.Reader (x.Away.take k) = selL (ofM r) Away.Reader (x.Away.take (k + 1)) := by
  first | exact sel_yes (by omega) (decide_eq_true ‹_›) | exact sel_no (by omega) (decide_eq_false ‹_›)
theorem z_c_spec_l32At_59 (x : Library) (nx_Maps : Nat) (hbdx_Maps : (nx_Maps : Int) ≤ 9223372036854775807) (hlex_Maps : nx_Maps = x.Maps.length) (nx_Away : Nat) (hbdx_Away : (nx_Away : Int) ≤ 9223372036854775807) (hlex_Away : nx_Away = x.Away.length) (r : Int) (hp0 : nx_Away ≤ 8) (k : Nat) (n16 : Nat) (c16 : Nat) (hi27 : k ≤ nx_Away) (hl30 : n16 = (selL (ofM r) Away.Reader (x.Away.take k)).length) (hq32 : (selL (ofM r) Away.Reader (x.Away.take k)).length ≤ x.Away.length) (h33 : (k : Int) < (nx_Away : Int)) (hx35 : x.Away[k]? = some (gt x.Away k)) (h36 : ¬ (((gt x.Away k).Map) = r)) : k + 1 ≤ nx_Away := by
  omega
theorem z_c_spec_l32At_60 (x : Library) (nx_Maps : Nat) (hbdx_Maps : (nx_Maps : Int) ≤ 9223372036854775807) (hlex_Maps : nx_Maps = x.Maps.length) (nx_Away : Nat) (hbdx_Away : (nx_Away : Int) ≤ 9223372036854775807) (hlex_Away : nx_Away = x.Away.length) (r : Int) (hp0 : nx_Away ≤ 8) (k : Nat) (n16 : Nat) (c16 : Nat) (hi27 : k ≤ nx_Away) (hl30 : n16 = (selL (ofM r) Away.Reader (x.Away.take k)).length) (hq32 : (selL (ofM r) Away.Reader (x.Away.take k)).length ≤ x.Away.length) (h33 : (k : Int) < (nx_Away : Int)) (hx35 : x.Away[k]? = some (gt x.Away k)) (h36 : ¬ (((gt x.Away k).Map) = r)) : nx_Away - (k + 1) < nx_Away - k := by
  omega
theorem z_c_spec_l32At_61 (x : Library) (nx_Maps : Nat) (hbdx_Maps : (nx_Maps : Int) ≤ 9223372036854775807) (hlex_Maps : nx_Maps = x.Maps.length) (nx_Away : Nat) (hbdx_Away : (nx_Away : Int) ≤ 9223372036854775807) (hlex_Away : nx_Away = x.Away.length) (r : Int) (hp0 : nx_Away ≤ 8) (k : Nat) (n16 : Nat) (c16 : Nat) (hi27 : k ≤ nx_Away) (hl30 : n16 = (selL (ofM r) Away.Reader (x.Away.take k)).length) (hq32 : (selL (ofM r) Away.Reader (x.Away.take k)).length ≤ x.Away.length) (h33 : ¬ ((k : Int) < (nx_Away : Int))) : selL (ofM r) Away.Reader (x.Away.take k) = selL (ofM r) Away.Reader x.Away := by
  exact sel_end (by omega)
theorem c_spec_l32At (w : World) (x : Library) {Ax_Maps : Option Addr} {nx_Maps cx_Maps Bx_Maps : Nat} (hx_Maps : SlR w Bx_Maps encLMap 3 Ax_Maps nx_Maps cx_Maps x.Maps) {Ax_Away : Option Addr} {nx_Away cx_Away Bx_Away : Nat} (hx_Away : SlR w Bx_Away encAway 2 Ax_Away nx_Away cx_Away x.Away) (r : Int) (hp0 : nx_Away ≤ 8) : Calls Tryd.prog 41 #[.agg (List.toArray [.slice Ax_Maps nx_Maps cx_Maps, .slice Ax_Away nx_Away cx_Away, .int .i64 x.Bought, .int .i64 x.Dropped, .int .i64 x.Mended]), .int .i64 r] w fun e w' => ∃ (A1' : Option Addr) (n1' c1' : Nat), e = .returned (.slice A1' n1' c1') ∧ SlO w' w.heap.size encI 1 3 A1' n1' c1' (selL (ofM r) Away.Reader x.Away) ∧ Lo w w' := by
  refine calls_W 33 Tryd.func41 rfl rfl rfl ?_
  have hbdx_Maps := hx_Maps.bound
  have hlex_Maps := hx_Maps.len
  have hBbx_Maps := hx_Maps.bd
  have hbdx_Away := hx_Away.bound
  have hlex_Away := hx_Away.len
  have hBbx_Away := hx_Away.bd
  refine W.seq ?_
  refine W.regS (SR.box (v := .agg (List.toArray _)) (l := [.slice Ax_Maps nx_Maps cx_Maps, .slice Ax_Away nx_Away cx_Away, .int .i64 x.Bought, .int .i64 x.Dropped, .int .i64 x.Mended]) rfl rfl ?_)
  intro g1 w2 hg3 hk4 hs5 hb6
  have hz7 := hk4.size
  have hB8 := (Lo.refl w).lo hk4
  refine SR.q' (r_as (v := .slice none 0 0) rfl) <| SR.nil ?_
  refine W.seq ?_
  refine W.regS (SR.lit (vs := []) (L := ([] : List Int)) (enc := encI) tel74 (fun _ => rfl) rfl rfl rfl (by decide) ?_)
  intro g9 w10 hg11 hk12 hO13
  have hz14 := hk12.size
  have hB15 := hB8.lo hk12
  refine SR.q' (r_as (v := .slice _ _ _) rfl) <| SR.nil ?_
  refine W.seq ?_
  refine W.seq ?_
  refine W.regS (SR.q' (r_as (v := .int .i64 0) rfl) <| SR.nil ?_)
  refine W.block ?_
  refine W.loop (σ := Nat × (Option Addr) × Nat × Nat) (fun g => [(1, .int .i64 r), (2, .pointer (some ((⟨g1, 0, none⟩ : Addr)))), (4, .slice none 0 0), (5, .slice g.2.1 g.2.2.1 g.2.2.2), (6, .int .i64 (g.1 : Int))]) (fun g w' => (Lo w w') ∧ (Blk w' g1 35 [.slice Ax_Maps nx_Maps cx_Maps, .slice Ax_Away nx_Away cx_Away, .int .i64 x.Bought, .int .i64 x.Dropped, .int .i64 x.Mended]) ∧ (SlR w' Bx_Maps encLMap 3 Ax_Maps nx_Maps cx_Maps x.Maps) ∧ (SlR w' Bx_Away encAway 2 Ax_Away nx_Away cx_Away x.Away) ∧ (SlO w' w.heap.size encI 1 3 g.2.1 g.2.2.1 g.2.2.2 (selL (ofM r) Away.Reader (x.Away.take g.1))) ∧ (¬ g.2.1 = some ⟨g1, 0, none⟩) ∧ (g.1 ≤ nx_Away)) (fun g => nx_Away - g.1) (0, (some (⟨g9, 0, none⟩ : Addr)), 0, 0) ?_ ?_ ?_
  · exact ⟨rfl, rfl, rfl, rfl, rfl, trivial⟩
  · show (Lo w w10) ∧ (Blk w10 g1 35 [.slice Ax_Maps nx_Maps cx_Maps, .slice Ax_Away nx_Away cx_Away, .int .i64 x.Bought, .int .i64 x.Dropped, .int .i64 x.Mended]) ∧ (SlR w10 Bx_Maps encLMap 3 Ax_Maps nx_Maps cx_Maps x.Maps) ∧ (SlR w10 Bx_Away encAway 2 Ax_Away nx_Away cx_Away x.Away) ∧ (SlO w10 w.heap.size encI 1 3 (some (⟨g9, 0, none⟩ : Addr)) 0 0 (selL (ofM r) Away.Reader (x.Away.take 0))) ∧ (¬ (some (⟨g9, 0, none⟩ : Addr)) = some ⟨g1, 0, none⟩) ∧ (0 ≤ nx_Away)
    exact ⟨hB15, (hb6).lo hk12, ((hx_Maps).lo hk4).lo hk12, ((hx_Away).lo hk4).lo hk12, (SlO.eqv ((hO13).down (by omega)) (z_c_spec_l32At_18 x nx_Maps hbdx_Maps hlex_Maps nx_Away hbdx_Away hlex_Away r hp0)), (fun e' => by have := (hO13).base_le e'; omega), (z_c_spec_l32At_17 x nx_Maps hbdx_Maps hlex_Maps nx_Away hbdx_Away hlex_Away r hp0)⟩
  · rintro ⟨k, A16, n16, c16⟩ f19 w20 hP22
    obtain ⟨hB21, hm23, hm24, hm25, hO26, hd28, hi27⟩ : (Lo w w20) ∧ (Blk w20 g1 35 [.slice Ax_Maps nx_Maps cx_Maps, .slice Ax_Away nx_Away cx_Away, .int .i64 x.Bought, .int .i64 x.Dropped, .int .i64 x.Mended]) ∧ (SlR w20 Bx_Maps encLMap 3 Ax_Maps nx_Maps cx_Maps x.Maps) ∧ (SlR w20 Bx_Away encAway 2 Ax_Away nx_Away cx_Away x.Away) ∧ (SlO w20 w.heap.size encI 1 3 A16 n16 c16 (selL (ofM r) Away.Reader (x.Away.take k))) ∧ (¬ A16 = some ⟨g1, 0, none⟩) ∧ (k ≤ nx_Away) := hP22
    refine (?_ : W _ _ _ _ _ (act _ (sets f19 [(1, .int .i64 r), (2, .pointer (some ((⟨g1, 0, none⟩ : Addr)))), (4, .slice none 0 0), (5, .slice A16 n16 c16), (6, .int .i64 (k : Int))])) _)
    have hzw20 := hB21.size
    have hl29 := hm23.lt
    have hl30 := hO26.len
    have hl31 := hO26.rd.bound
    have hq32 := sel_lenT x.Away k (ofM r) Away.Reader
    refine W.seq ?_
    refine W.seq ?_
    refine W.regS (SR.q' (r_mv (v := .int .i64 _) rfl) <| SR.q' (r_fa fa35_1 rfl) <| SR.q' (r_ld (v := .slice Ax_Away nx_Away cx_Away) sca33 rfl ((hm23).cell rfl)) <| SR.q' (r_len und33 rfl) <| SR.q' (r_lt rfl rfl) <| SR.nil ?_)
    refine W.cond_d rfl (fun h33 => ?_) (fun h33 => ?_)
    · refine W.skip ?_
      refine W.seq ?_
      refine W.block ?_
      refine W.seq ?_
      refine W.regS (SR.q' (r_fa fa35_1 rfl) <| SR.q' (r_ld (v := .slice Ax_Away nx_Away cx_Away) sca33 rfl ((hm23).cell rfl)) <| SR.q' (r_mv (v := .int .i64 _) rfl) <| ?_)
      have hx35 := (hm25).elem (i := k) (by omega)
      refine SR.q' (r_ixR tsl33 (hm25) rfl rfl (by omega)) <| SR.q' (r_fa fa64_0 rfl) <| SR.q' (r_ld (v := .int .i64 ((gt x.Away k).Map)) sca3 rfl ((hm25).cell hx35 rfl)) <| SR.q' (r_mv (v := .int .i64 _) rfl) <| SR.q' (r_eq rfl rfl) <| SR.nil ?_
      refine W.cond_d rfl (fun h36 => ?_) (fun h36 => ?_)
      · refine W.regS (SR.q' (r_mv (v := .slice _ _ _) rfl) <| SR.q' (r_fa fa35_1 rfl) <| SR.q' (r_ld (v := .slice Ax_Away nx_Away cx_Away) sca33 rfl ((hm23).cell rfl)) <| SR.q' (r_mv (v := .int .i64 _) rfl) <| SR.q' (r_ixR tsl33 (hm25) rfl rfl (by omega)) <| SR.q' (r_fa fa64_1 rfl) <| SR.q' (r_ld (v := .int .i64 ((gt x.Away k).Reader)) sca3 rfl ((hm25).cell hx35 rfl)) <| SR.lit (vs := [.int .i64 ((gt x.Away k).Reader)]) (L := ([(gt x.Away k).Reader] : List Int)) (enc := encI) tel74 (fun _ => rfl) rfl rfl rfl (by decide) ?_)
        intro g37 w38 hg39 hk40 hO41
        have hz42 := hk40.size
        have hB43 := hB21.lo hk40
        have hd44 : ¬ A16 = some ⟨g37, 0, none⟩ := fun e' => by have := (hO26).base_le e'; omega
        refine SR.app tel74 rfl rfl ((hO26).lo hk40) ((hO41).rd) (fun _ => rfl) (by omega) (by omega) ?_
        intro A45 c46 w47 hk48 hO49 hN50
        have hz51 := hk48.size
        have hB52 := hB43.step hk48 (fun i_ hi_ e' => by have := (((hO26).lo hk40)).base_le e'; first | omega | (exfalso; omega) | exact e' | exact .inl e' | exact .inr e')
        have hd53 : ¬ A45 = some ⟨g1, 0, none⟩ := fun e' => (hN50 g1 e').elim (fun h => hd28 (h.trans e')) (fun h => by have := ((hm23).lo hk40).lt; omega)
        refine SR.q' (r_as (v := .slice _ _ _) rfl) <| SR.nil ?_
        refine W.regS (SR.q' (r_mv (v := .int .i64 _) rfl) <| SR.q' (r_add rfl rfl (by omega)) <| SR.q' (r_as (v := .int .i64 _) rfl) <| SR.nil ?_)
        refine ⟨(k + 1, A45, n16 + 1, c46), _, rfl, ⟨rfl, rfl, rfl, rfl, rfl, trivial⟩, (show (Lo w w47) ∧ (Blk w47 g1 35 [.slice Ax_Maps nx_Maps cx_Maps, .slice Ax_Away nx_Away cx_Away, .int .i64 x.Bought, .int .i64 x.Dropped, .int .i64 x.Mended]) ∧ (SlR w47 Bx_Maps encLMap 3 Ax_Maps nx_Maps cx_Maps x.Maps) ∧ (SlR w47 Bx_Away encAway 2 Ax_Away nx_Away cx_Away x.Away) ∧ (SlO w47 w.heap.size encI 1 3 A45 (n16 + 1) c46 (selL (ofM r) Away.Reader (x.Away.take (k + 1)))) ∧ (¬ A45 = some ⟨g1, 0, none⟩) ∧ (k + 1 ≤ nx_Away) from ⟨hB52, ((hm23).lo hk40).kp hk48 (fun e' => hd28 e'), ((hm24).lo hk40).kp hk48 (fun b_ hb e' => by have := (((hO26).lo hk40)).base_le e'; omega), ((hm25).lo hk40).kp hk48 (fun b_ hb e' => by have := (((hO26).lo hk40)).base_le e'; omega), (SlO.eqv (hO49) (z_c_spec_l32At_55 x nx_Maps hbdx_Maps hlex_Maps nx_Away hbdx_Away hlex_Away r hp0 k n16 c16 hi27 hl30 hq32 h33 hx35 h36)), hd53, ?_⟩), ?_⟩
        · exact (z_c_spec_l32At_56 x nx_Maps hbdx_Maps hlex_Maps nx_Away hbdx_Away hlex_Away r hp0 k n16 c16 hi27 hl30 hq32 h33 hx35 h36)
        · exact (z_c_spec_l32At_57 x nx_Maps hbdx_Maps hlex_Maps nx_Away hbdx_Away hlex_Away r hp0 k n16 c16 hi27 hl30 hq32 h33 hx35 h36)
      · refine W.skip ?_
        refine W.regS (SR.q' (r_mv (v := .int .i64 _) rfl) <| SR.q' (r_add rfl rfl (by omega)) <| SR.q' (r_as (v := .int .i64 _) rfl) <| SR.nil ?_)
        refine ⟨(k + 1, A16, n16, c16), _, rfl, ⟨rfl, rfl, rfl, rfl, rfl, trivial⟩, (show (Lo w w20) ∧ (Blk w20 g1 35 [.slice Ax_Maps nx_Maps cx_Maps, .slice Ax_Away nx_Away cx_Away, .int .i64 x.Bought, .int .i64 x.Dropped, .int .i64 x.Mended]) ∧ (SlR w20 Bx_Maps encLMap 3 Ax_Maps nx_Maps cx_Maps x.Maps) ∧ (SlR w20 Bx_Away encAway 2 Ax_Away nx_Away cx_Away x.Away) ∧ (SlO w20 w.heap.size encI 1 3 A16 n16 c16 (selL (ofM r) Away.Reader (x.Away.take (k + 1)))) ∧ (¬ A16 = some ⟨g1, 0, none⟩) ∧ (k + 1 ≤ nx_Away) from ⟨hB21, hm23, hm24, hm25, (SlO.eqv (hO26) (z_c_spec_l32At_58 x nx_Maps hbdx_Maps hlex_Maps nx_Away hbdx_Away hlex_Away r hp0 k n16 c16 hi27 hl30 hq32 h33 hx35 h36)), hd28, ?_⟩), ?_⟩
        · exact (z_c_spec_l32At_59 x nx_Maps hbdx_Maps hlex_Maps nx_Away hbdx_Away hlex_Away r hp0 k n16 c16 hi27 hl30 hq32 h33 hx35 h36)
        · exact (z_c_spec_l32At_60 x nx_Maps hbdx_Maps hlex_Maps nx_Away hbdx_Away hlex_Away r hp0 k n16 c16 hi27 hl30 hq32 h33 hx35 h36)
    · refine W.exit (xin_here ?_)
      refine W.seq ?_
      refine W.regS (SR.q' (r_mv (v := .slice _ _ _) rfl) <| SR.q' (r_as (v := .slice _ _ _) rfl) <| SR.nil ?_)
      refine W.ret ?_
      refine ret1 rfl (v := .slice _ _ _) rfl ?_
      exact ⟨A16, n16, c16, eR rfl, (SlO.eqv ((hO26).down (by omega)) (z_c_spec_l32At_61 x nx_Maps hbdx_Maps hlex_Maps nx_Away hbdx_Away hlex_Away r hp0 k n16 c16 hi27 hl30 hq32 h33)), hB21⟩

theorem z_c_spec_l32Text_66 (x : Library) (nx_Maps : Nat) (hbdx_Maps : (nx_Maps : Int) ≤ 9223372036854775807) (hlex_Maps : nx_Maps = x.Maps.length) (nx_Away : Nat) (hbdx_Away : (nx_Away : Int) ≤ 9223372036854775807) (hlex_Away : nx_Away = x.Away.length) (i : Int) (hp0 : LibOK x) (hp1 : 0 ≤ i ∧ i < (nx_Maps : Int)) (hx10 : x.Maps[i.toNat]? = some (gt x.Maps i.toNat)) (hq11 : ((1 : Int) ≤ (gt x.Maps i.toNat).Id ∧ (gt x.Maps i.toNat).Id ≤ 99) ∧ ((0 : Int) ≤ (gt x.Maps i.toNat).Copies ∧ (gt x.Maps i.toNat).Copies ≤ 99) ∧ ((0 : Int) ≤ (gt x.Maps i.toNat).Torn ∧ (gt x.Maps i.toNat).Torn ≤ (gt x.Maps i.toNat).Copies)) (n45 : Nat) (hq35 : (Lib.itoa ((gt x.Maps i.toNat).Copies)).length ≤ 21) (hq41 : (Lib.itoa ((gt x.Maps i.toNat).Torn)).length ≤ 21) (hl51 : n45 = (selL (ofM ((gt x.Maps i.toNat).Id)) Away.Reader x.Away).length) (hl52 : (n45 : Int) ≤ 9223372036854775807) (hq53 : (selL (ofM ((gt x.Maps i.toNat).Id)) Away.Reader x.Away).length ≤ x.Away.length) (hq59 : (Lib.itoa (n45 : Int)).length ≤ 21) : ((((Lib.itoa ((gt x.Maps i.toNat).Copies)) ++ ([32, 116, 111, 114, 110, 32] : List UInt8)) ++ (Lib.itoa ((gt x.Maps i.toNat).Torn))) ++ ([32, 97, 119, 97, 121, 32] : List UInt8)) ++ (Lib.itoa (n45 : Int)) = textL x i := by
  unfold textL textM; rw [← ‹_ = (selL _ _ _).length›]
theorem c_spec_l32Text (w : World) (x : Library) {Ax_Maps : Option Addr} {nx_Maps cx_Maps Bx_Maps : Nat} (hx_Maps : SlR w Bx_Maps encLMap 3 Ax_Maps nx_Maps cx_Maps x.Maps) {Ax_Away : Option Addr} {nx_Away cx_Away Bx_Away : Nat} (hx_Away : SlR w Bx_Away encAway 2 Ax_Away nx_Away cx_Away x.Away) (i : Int) (hp0 : LibOK x) (hp1 : 0 ≤ i ∧ i < (nx_Maps : Int)) : Calls Tryd.prog 22 #[.agg (List.toArray [.slice Ax_Maps nx_Maps cx_Maps, .slice Ax_Away nx_Away cx_Away, .int .i64 x.Bought, .int .i64 x.Dropped, .int .i64 x.Mended]), .int .i64 i] w fun e w' => e = .returned (str (textL x i)) ∧ Lo w w' := by
  refine calls_W 27 Tryd.func22 rfl rfl rfl ?_
  have hbdx_Maps := hx_Maps.bound
  have hlex_Maps := hx_Maps.len
  have hBbx_Maps := hx_Maps.bd
  have hbdx_Away := hx_Away.bound
  have hlex_Away := hx_Away.len
  have hBbx_Away := hx_Away.bd
  have hla := lib_len hp0
  refine W.seq ?_
  refine W.regS (SR.box (v := .agg (List.toArray _)) (l := [.slice Ax_Maps nx_Maps cx_Maps, .slice Ax_Away nx_Away cx_Away, .int .i64 x.Bought, .int .i64 x.Dropped, .int .i64 x.Mended]) rfl rfl ?_)
  intro g1 w2 hg3 hk4 hs5 hb6
  have hz7 := hk4.size
  have hB8 := (Lo.refl w).lo hk4
  refine SR.q' (r_as (v := str ([] : List UInt8)) rfl) <| SR.nil ?_
  refine W.seq ?_
  refine W.regS (SR.q' (r_fa fa35_0 rfl) <| SR.q' (r_ld (v := .slice Ax_Maps nx_Maps cx_Maps) sca32 rfl ((hb6).cell rfl)) <| SR.q' (r_mv (v := .int .i64 _) rfl) <| ?_)
  have hx10 := ((hx_Maps).lo hk4).elem (i := i.toNat) (by omega)
  have hq11 := maps_rng ‹LibOK x›.1.1 hx10
  refine SR.q' (r_ixR tsl32 ((hx_Maps).lo hk4) rfl rfl (by omega)) <| SR.q' (r_lda (l := encLMap (gt x.Maps i.toNat)) agg54 rfl (fun _ _ hu => ((hx_Maps).lo hk4).cell hx10 hu) (((hx_Maps).lo hk4).esz _)) <| SR.alloc (l := [.int .i64 0, .int .i64 0, .int .i64 0]) tz54 rfl ?_
  intro g12 w13 hg14 hk15 hs16 hb17
  have hz18 := hk15.size
  have hB19 := hB8.lo hk15
  refine SR.store (o := 0) (vs := [.int .i64 ((gt x.Maps i.toNat).Id), .int .i64 ((gt x.Maps i.toNat).Copies), .int .i64 ((gt x.Maps i.toNat).Torn)]) agg54.2 rfl rfl rfl rfl (hb17) (Nat.le_of_ble_eq_true rfl) rfl ?_
  intro w20 hk21 hs22 hb23
  have hz24 := hk21.size
  have hB25 := hB19.new hk21 (by omega)
  refine SR.nil ?_
  refine W.seq ?_
  refine W.regA (Lo w20) (fun f' w' => ∃ (A44 : Option Addr), ∃ (n45 : Nat), ∃ (c46 : Nat), At f' [(4, str (((((Lib.itoa ((gt x.Maps i.toNat).Copies)) ++ ([32, 116, 111, 114, 110, 32] : List UInt8)) ++ (Lib.itoa ((gt x.Maps i.toNat).Torn))) ++ ([32, 97, 119, 97, 121, 32] : List UInt8)) ++ (Lib.itoa (n45 : Int))))] ∧ (Lo w20 w') ∧ ((Lib.itoa ((gt x.Maps i.toNat).Copies)).length ≤ 21) ∧ ((Lib.itoa ((gt x.Maps i.toNat).Torn)).length ≤ 21) ∧ (n45 = (selL (ofM ((gt x.Maps i.toNat).Id)) Away.Reader x.Away).length) ∧ ((n45 : Int) ≤ 9223372036854775807) ∧ ((selL (ofM ((gt x.Maps i.toNat).Id)) Away.Reader x.Away).length ≤ x.Away.length) ∧ ((Lib.itoa (n45 : Int)).length ≤ 21)) mo ?_ ?_
  · intro w26 hk27
    have hz28 := hk27.size
    have hB29 := hB25.lo hk27
    refine AH.take 0 rfl (by kernel_rfl) trivial (hk27) (fun w' hw' => r_fa fa54_1 rfl) <| AH.take 1 rfl (by kernel_rfl) trivial (hk27) (fun w' hw' => r_ld (v := .int .i64 ((gt x.Maps i.toNat).Copies)) sca3 rfl (((hb23).lo hw').cell rfl)) <| AH.take 4 rfl (by kernel_rfl) trivial (hk27) (fun w' hw' => r_fa fa54_2 rfl) <| AH.take 5 rfl (by kernel_rfl) trivial (hk27) (fun w' hw' => r_ld (v := .int .i64 ((gt x.Maps i.toNat).Torn)) sca3 rfl (((hb23).lo hw').cell rfl)) <| AH.take 9 rfl (by kernel_rfl) trivial (hk27) (fun w' hw' => r_lda (l := [.slice Ax_Maps nx_Maps cx_Maps, .slice Ax_Away nx_Away cx_Away, .int .i64 x.Bought, .int .i64 x.Dropped, .int .i64 x.Mended]) agg35 rfl (fun _ _ hu => ((((hb6).lo hk15).kp hk21 (fun e' => by have e'' : g1 = g12 := e'; omega)).lo hw').cell hu) rfl) <| AH.take 10 rfl (by kernel_rfl) trivial (hk27) (fun w' hw' => r_fa fa54_0 rfl) <| AH.take 11 rfl (by kernel_rfl) trivial (hk27) (fun w' hw' => r_ld (v := .int .i64 ((gt x.Maps i.toNat).Id)) sca3 rfl (((hb23).lo hw').cell rfl)) <| AH.br [2] (by kernel_rfl) rfl ⟨Br.mk' rfl trivial ?_, trivial⟩
    refine SR.call ent21 (c_spec_l1Num w26 ((gt x.Maps i.toNat).Copies) (by omega)) rfl ?_
    rintro e w30 ⟨rfl, hk31⟩
    refine ⟨_, rfl, ?_⟩
    have hz32 := hk31.size
    have hB33 := hB29.lo hk31
    have hS34 := (hk27).lo hk31
    have hq35 : (Lib.itoa ((gt x.Maps i.toNat).Copies)).length ≤ 21 := itoa_len (n := (gt x.Maps i.toNat).Copies) (by omega) (by omega)
    refine SR.nil ⟨hS34, _, rfl, ?_⟩
    refine AH.take 3 rfl (by kernel_rfl) trivial (hS34) (fun w' hw' => r_cat rfl rfl (by first | omega | (simp only [List.length_append, List.length_cons, List.length_nil, List.length_take, List.length_drop]; omega) | (simp only [List.length_append, List.length_cons, List.length_nil, List.length_take, List.length_drop] at *; omega))) <| AH.br [6] (by kernel_rfl) rfl ⟨Br.mk' rfl trivial ?_, trivial⟩
    refine SR.call ent21 (c_spec_l1Num w30 ((gt x.Maps i.toNat).Torn) (by omega)) rfl ?_
    rintro e w36 ⟨rfl, hk37⟩
    refine ⟨_, rfl, ?_⟩
    have hz38 := hk37.size
    have hB39 := hB33.lo hk37
    have hS40 := (hS34).lo hk37
    have hq41 : (Lib.itoa ((gt x.Maps i.toNat).Torn)).length ≤ 21 := itoa_len (n := (gt x.Maps i.toNat).Torn) (by omega) (by omega)
    refine SR.nil ⟨hS40, _, rfl, ?_⟩
    refine AH.take 7 rfl (by kernel_rfl) trivial (hS40) (fun w' hw' => r_cat rfl rfl (by first | omega | (simp only [List.length_append, List.length_cons, List.length_nil, List.length_take, List.length_drop]; omega) | (simp only [List.length_append, List.length_cons, List.length_nil, List.length_take, List.length_drop] at *; omega))) <| AH.take 8 rfl (by kernel_rfl) trivial (hS40) (fun w' hw' => r_cat rfl rfl (by first | omega | (simp only [List.length_append, List.length_cons, List.length_nil, List.length_take, List.length_drop]; omega) | (simp only [List.length_append, List.length_cons, List.length_nil, List.length_take, List.length_drop] at *; omega))) <| AH.br [12] (by kernel_rfl) rfl ⟨Br.mk' rfl trivial ?_, trivial⟩
    refine SR.call ent41 (c_spec_l32At w36 x ((((((((hx_Maps).lo hk4).lo hk15).kp hk21 (fun b_ hb e' => by have e'' : b_ = g12 := e'; omega)).lo hk27).lo hk31).lo hk37)) ((((((((hx_Away).lo hk4).lo hk15).kp hk21 (fun b_ hb e' => by have e'' : b_ = g12 := e'; omega)).lo hk27).lo hk31).lo hk37)) ((gt x.Maps i.toNat).Id) (by omega)) rfl ?_
    rintro e w42 ⟨A44, n45, c46, rfl, hO47, hk43⟩
    refine ⟨_, rfl, ?_⟩
    have hz48 := hk43.size
    have hB49 := hB39.lo hk43
    have hS50 := (hS40).lo hk43
    have hl51 := hO47.len
    have hl52 := hO47.rd.bound
    have hq53 := sel_len x.Away (ofM ((gt x.Maps i.toNat).Id)) Away.Reader
    refine SR.nil ⟨hS50, _, rfl, ?_⟩
    refine AH.take 13 rfl (by kernel_rfl) trivial (hS50) (fun w' hw' => r_len und74 rfl) <| AH.br [14] (by kernel_rfl) rfl ⟨Br.mk' rfl trivial ?_, trivial⟩
    refine SR.call ent21 (c_spec_l1Num w42 (n45 : Int) (by omega)) rfl ?_
    rintro e w54 ⟨rfl, hk55⟩
    refine ⟨_, rfl, ?_⟩
    have hz56 := hk55.size
    have hB57 := hB49.lo hk55
    have hS58 := (hS50).lo hk55
    have hq59 : (Lib.itoa (n45 : Int)).length ≤ 21 := itoa_len (n := (n45 : Int)) (by omega) (by omega)
    refine SR.nil ⟨hS58, _, rfl, ?_⟩
    refine AH.take 15 rfl (by kernel_rfl) trivial (hS58) (fun w' hw' => r_cat rfl rfl (by first | omega | (simp only [List.length_append, List.length_cons, List.length_nil, List.length_take, List.length_drop]; omega) | (simp only [List.length_append, List.length_cons, List.length_nil, List.length_take, List.length_drop] at *; omega))) <| AH.take 16 rfl (by kernel_rfl) trivial (hS58) (fun w' hw' => r_as (v := str _) rfl) <| AH.done (by kernel_rfl) ?_
    exact ⟨A44, n45, c46, ⟨rfl, trivial⟩, hS58, hq35, hq41, hl51, hl52, hq53, hq59⟩
  rintro f60 w61 ⟨A44, n45, c46, hat63, hR62, hq35, hq41, hl51, hl52, hq53, hq59⟩
  rw [← sets_of_at hat63]
  have hz64 := hR62.size
  have hB65 := hB25.lo hR62
  refine W.ret ?_
  refine ret1 rfl (v := str _) rfl ?_
  exact ⟨eR (eS (z_c_spec_l32Text_66 x nx_Maps hbdx_Maps hlex_Maps nx_Away hbdx_Away hlex_Away i hp0 hp1 hx10 hq11 n45 hq35 hq41 hl51 hl52 hq53 hq59)), hB65⟩

theorem z_c_impl_MapText_27 (x : Library) (nx_Maps : Nat) (hbdx_Maps : (nx_Maps : Int) ≤ 9223372036854775807) (hlex_Maps : nx_Maps = x.Maps.length) (nx_Away : Nat) (hbdx_Away : (nx_Away : Int) ≤ 9223372036854775807) (hlex_Away : nx_Away = x.Away.length) (id : Int) (hp0 : (nx_Maps : Int) ≤ 1048576) (hq13 : bsP cmpM id x.Maps ≤ x.Maps.length) (h26 : (¬ (bsF cmpM id x.Maps)) ∨ (¬ (LibOK x))) : ([] : List UInt8) = (mapT x id).1 := by
  first | (rw [mapT_noI ‹_›]; done) | (rw [mapT_noS ‹_›]; done) | (rw [mapT_eqI ‹bsF _ _ _› ‹LibOK _›, ← ‹_ = (selL _ _ _).length›]; first | done | rfl) | (rw [mapT_eqS ⟨‹LibOK x›, by omega⟩]; first | done | rfl)
theorem z_c_impl_MapText_28 (x : Library) (nx_Maps : Nat) (hbdx_Maps : (nx_Maps : Int) ≤ 9223372036854775807) (hlex_Maps : nx_Maps = x.Maps.length) (nx_Away : Nat) (hbdx_Away : (nx_Away : Int) ≤ 9223372036854775807) (hlex_Away : nx_Away = x.Away.length) (id : Int) (hp0 : (nx_Maps : Int) ≤ 1048576) (hq13 : bsP cmpM id x.Maps ≤ x.Maps.length) (h26 : (¬ (bsF cmpM id x.Maps)) ∨ (¬ (LibOK x))) : false = (mapT x id).2 := by
  first | (rw [mapT_noI ‹_›]; done) | (rw [mapT_noS ‹_›]; done) | (rw [mapT_eqI ‹bsF _ _ _› ‹LibOK _›]; done) | (rw [mapT_eqS ⟨‹LibOK x›, by omega⟩]; done)
theorem z_c_impl_MapText_93 (x : Library) (nx_Maps : Nat) (hbdx_Maps : (nx_Maps : Int) ≤ 9223372036854775807) (hlex_Maps : nx_Maps = x.Maps.length) (nx_Away : Nat) (hbdx_Away : (nx_Away : Int) ≤ 9223372036854775807) (hlex_Away : nx_Away = x.Away.length) (id : Int) (hp0 : (nx_Maps : Int) ≤ 1048576) (hq13 : bsP cmpM id x.Maps ≤ x.Maps.length) (h26 : ¬ ((¬ (bsF cmpM id x.Maps)) ∨ (¬ (LibOK x)))) (hq29 : bsF cmpM id x.Maps) (hq30 : LibOK x) (hq31 : (bsP cmpM id x.Maps : Int) < (x.Maps.length : Int)) (hq32 : MapsOK x.Maps ∧ x.Maps.length ≤ 8) (hq33 : x.Away.length ≤ 8) (hq34 : MapsOK x.Maps) (hq35 : x.Maps.length ≤ 8) (hx37 : x.Maps[(bsP cmpM id x.Maps : Int).toNat]? = some (gt x.Maps ((bsP cmpM id x.Maps : Int).toNat))) (hq38 : ((1 : Int) ≤ (gt x.Maps ((bsP cmpM id x.Maps : Int).toNat)).Id ∧ (gt x.Maps ((bsP cmpM id x.Maps : Int).toNat)).Id ≤ 99) ∧ ((0 : Int) ≤ (gt x.Maps ((bsP cmpM id x.Maps : Int).toNat)).Copies ∧ (gt x.Maps ((bsP cmpM id x.Maps : Int).toNat)).Copies ≤ 99) ∧ ((0 : Int) ≤ (gt x.Maps ((bsP cmpM id x.Maps : Int).toNat)).Torn ∧ (gt x.Maps ((bsP cmpM id x.Maps : Int).toNat)).Torn ≤ (gt x.Maps ((bsP cmpM id x.Maps : Int).toNat)).Copies)) (n72 : Nat) (hq62 : (Lib.itoa ((gt x.Maps ((bsP cmpM id x.Maps : Int).toNat)).Copies)).length ≤ 21) (hq68 : (Lib.itoa ((gt x.Maps ((bsP cmpM id x.Maps : Int).toNat)).Torn)).length ≤ 21) (hl78 : n72 = (selL (ofM id) Away.Reader x.Away).length) (hl79 : (n72 : Int) ≤ 9223372036854775807) (hq80 : (selL (ofM id) Away.Reader x.Away).length ≤ x.Away.length) (hq86 : (Lib.itoa (n72 : Int)).length ≤ 21) : ((((Lib.itoa ((gt x.Maps ((bsP cmpM id x.Maps : Int).toNat)).Copies)) ++ ([32, 116, 111, 114, 110, 32] : List UInt8)) ++ (Lib.itoa ((gt x.Maps ((bsP cmpM id x.Maps : Int).toNat)).Torn))) ++ ([32, 97, 119, 97, 121, 32] : List UInt8)) ++ (Lib.itoa (n72 : Int)) = (mapT x id).1 := by
  first | (rw [mapT_noI ‹_›]; done) | (rw [mapT_noS ‹_›]; done) | (rw [mapT_eqI ‹bsF _ _ _› ‹LibOK _›, ← ‹_ = (selL _ _ _).length›]; first | done | rfl) | (rw [mapT_eqS ⟨‹LibOK x›, by omega⟩]; first | done | rfl)
theorem z_c_impl_MapText_94 (x : Library) (nx_Maps : Nat) (hbdx_Maps : (nx_Maps : Int) ≤ 9223372036854775807) (hlex_Maps : nx_Maps = x.Maps.length) (nx_Away : Nat) (hbdx_Away : (nx_Away : Int) ≤ 9223372036854775807) (hlex_Away : nx_Away = x.Away.length) (id : Int) (hp0 : (nx_Maps : Int) ≤ 1048576) (hq13 : bsP cmpM id x.Maps ≤ x.Maps.length) (h26 : ¬ ((¬ (bsF cmpM id x.Maps)) ∨ (¬ (LibOK x)))) (hq29 : bsF cmpM id x.Maps) (hq30 : LibOK x) (hq31 : (bsP cmpM id x.Maps : Int) < (x.Maps.length : Int)) (hq32 : MapsOK x.Maps ∧ x.Maps.length ≤ 8) (hq33 : x.Away.length ≤ 8) (hq34 : MapsOK x.Maps) (hq35 : x.Maps.length ≤ 8) (hx37 : x.Maps[(bsP cmpM id x.Maps : Int).toNat]? = some (gt x.Maps ((bsP cmpM id x.Maps : Int).toNat))) (hq38 : ((1 : Int) ≤ (gt x.Maps ((bsP cmpM id x.Maps : Int).toNat)).Id ∧ (gt x.Maps ((bsP cmpM id x.Maps : Int).toNat)).Id ≤ 99) ∧ ((0 : Int) ≤ (gt x.Maps ((bsP cmpM id x.Maps : Int).toNat)).Copies ∧ (gt x.Maps ((bsP cmpM id x.Maps : Int).toNat)).Copies ≤ 99) ∧ ((0 : Int) ≤ (gt x.Maps ((bsP cmpM id x.Maps : Int).toNat)).Torn ∧ (gt x.Maps ((bsP cmpM id x.Maps : Int).toNat)).Torn ≤ (gt x.Maps ((bsP cmpM id x.Maps : Int).toNat)).Copies)) (n72 : Nat) (hq62 : (Lib.itoa ((gt x.Maps ((bsP cmpM id x.Maps : Int).toNat)).Copies)).length ≤ 21) (hq68 : (Lib.itoa ((gt x.Maps ((bsP cmpM id x.Maps : Int).toNat)).Torn)).length ≤ 21) (hl78 : n72 = (selL (ofM id) Away.Reader x.Away).length) (hl79 : (n72 : Int) ≤ 9223372036854775807) (hq80 : (selL (ofM id) Away.Reader x.Away).length ≤ x.Away.length) (hq86 : (Lib.itoa (n72 : Int)).length ≤ 21) : true = (mapT x id).2 := by
  first | (rw [mapT_noI ‹_›]; done) | (rw [mapT_noS ‹_›]; done) | (rw [mapT_eqI ‹bsF _ _ _› ‹LibOK _›]; done) | (rw [mapT_eqS ⟨‹LibOK x›, by omega⟩]; done)
theorem c_impl_MapText (w : World) (x : Library) {Ax_Maps : Option Addr} {nx_Maps cx_Maps Bx_Maps : Nat} (hx_Maps : SlR w Bx_Maps encLMap 3 Ax_Maps nx_Maps cx_Maps x.Maps) {Ax_Away : Option Addr} {nx_Away cx_Away Bx_Away : Nat} (hx_Away : SlR w Bx_Away encAway 2 Ax_Away nx_Away cx_Away x.Away) (id : Int) (hp0 : (nx_Maps : Int) ≤ 1048576) (hE : EnvW w) : Calls Tryd.prog 23 #[.agg (List.toArray [.slice Ax_Maps nx_Maps cx_Maps, .slice Ax_Away nx_Away cx_Away, .int .i64 x.Bought, .int .i64 x.Dropped, .int .i64 x.Mended]), .int .i64 id] w fun e w' => e = .returned (.tuple (List.toArray [str ((mapT x id).1), .bool ((mapT x id).2)])) ∧ Lo w w' := by
  refine calls_W 42 Tryd.func23 rfl rfl rfl ?_
  have hbdx_Maps := hx_Maps.bound
  have hlex_Maps := hx_Maps.len
  have hBbx_Maps := hx_Maps.bd
  have hbdx_Away := hx_Away.bound
  have hlex_Away := hx_Away.len
  have hBbx_Away := hx_Away.bd
  refine W.seq ?_
  refine W.regS (SR.box (v := .agg (List.toArray _)) (l := [.slice Ax_Maps nx_Maps cx_Maps, .slice Ax_Away nx_Away cx_Away, .int .i64 x.Bought, .int .i64 x.Dropped, .int .i64 x.Mended]) rfl rfl ?_)
  intro g1 w2 hg3 hk4 hs5 hb6
  have hz7 := hk4.size
  have hB8 := (Lo.refl w).lo hk4
  refine SR.q' (r_as (v := str ([] : List UInt8)) rfl) <| SR.q' (r_as (v := .bool false) rfl) <| SR.nil ?_
  refine W.seq ?_
  refine W.regS (SR.q' (r_lda (l := [.slice Ax_Maps nx_Maps cx_Maps, .slice Ax_Away nx_Away cx_Away, .int .i64 x.Bought, .int .i64 x.Dropped, .int .i64 x.Mended]) agg35 rfl (fun _ _ hu => (hb6).cell hu) rfl) <| SR.q' (r_mv (v := .int .i64 _) rfl) <| SR.call ent33 (c__impl_Library__mapAt w2 x (((hx_Maps).lo hk4)) (((hx_Away).lo hk4)) id (by omega)) rfl ?_)
  rintro e w9 ⟨rfl, hk10⟩
  refine ⟨_, rfl, ?_⟩
  have hz11 := hk10.size
  have hB12 := hB8.lo hk10
  have hq13 : bsP cmpM id x.Maps ≤ x.Maps.length := bsP_le
  refine SR.q' (r_mv (v := .tuple (List.toArray _)) rfl) <| SR.q' (r_ext (v := .int .i64 _) rfl rfl) <| SR.q' (r_ext (v := .bool _) rfl rfl) <| SR.q' (r_as (v := .int .i64 _) rfl) <| SR.q' (r_as (v := .bool _) rfl) <| SR.nil ?_
  refine W.seq ?_
  refine W.seq ?_
  refine W.regJS (fun f' w' => At f' [(1, .int .i64 id), (2, .pointer (some ((⟨g1, 0, none⟩ : Addr)))), (4, str ([] : List UInt8)), (5, .bool false), (6, .int .i64 (bsP cmpM id x.Maps : Int)), (21, .bool (decide ((¬ (bsF cmpM id x.Maps)) ∨ (¬ (LibOK x)))))] ∧ Lo w9 w') ?_ ?_
  · refine SR.q' (r_mv (v := .bool _) rfl) <| SR.q' (r_not rfl) <| SR.q' (r_mv (v := .bool _) rfl) <| SR.splitN (fun h14 => ?_) (fun h14 => ?_)
    · refine SR.s' rfl <| SR.s' rfl <| SR.s' rfl <| SR.q' (r_pick true rfl (v := .bool true) rfl) <| SR.nil ?_
      exact ⟨_, rfl, ⟨⟨rfl, rfl, rfl, rfl, rfl, (eDT ((jmf h14).1 trivial)), trivial⟩, (Lo.refl _)⟩⟩
    · have hq15 := And.left h14
      refine SR.g' rfl (r_lda (l := [.slice Ax_Maps nx_Maps cx_Maps, .slice Ax_Away nx_Away cx_Away, .int .i64 x.Bought, .int .i64 x.Dropped, .int .i64 x.Mended]) agg35 rfl (fun _ _ hu => ((hb6).lo hk10).cell hu) rfl) <| SR.gcall rfl ent17 (c_impl_IsLibrary w9 x ((((hx_Maps).lo hk4).lo hk10)) ((((hx_Away).lo hk4).lo hk10)) (by omega)) rfl ?_
      rintro e w16 ⟨rfl, hk17⟩
      refine ⟨_, rfl, ?_⟩
      have hz18 := hk17.size
      have hB19 := hB12.lo hk17
      refine SR.g' rfl (r_not rfl) <| SR.q' (r_pick false rfl (v := .bool _) rfl) <| SR.nil ?_
      exact ⟨_, rfl, ⟨⟨rfl, rfl, rfl, rfl, rfl, (eND (jmt h14)), trivial⟩, (hk17)⟩⟩
  rintro f20 w21 ⟨hat22, hk23⟩
  rw [← sets_of_at hat22]
  have hz24 := hk23.size
  have hB25 := hB12.lo hk23
  refine W.cond_d rfl (fun h26 => ?_) (fun h26 => ?_)
  · refine W.seq ?_
    refine W.regS (SR.q' (r_as (v := str ([] : List UInt8)) rfl) <| SR.q' (r_as (v := .bool false) rfl) <| SR.nil ?_)
    refine W.ret ?_
    refine ret2 rfl (v := str _) (v' := .bool _) rfl rfl ?_
    exact ⟨eR (eT2 (eS (z_c_impl_MapText_27 x nx_Maps hbdx_Maps hlex_Maps nx_Away hbdx_Away hlex_Away id hp0 hq13 h26)) (eB (z_c_impl_MapText_28 x nx_Maps hbdx_Maps hlex_Maps nx_Away hbdx_Away hlex_Away id hp0 hq13 h26))), hB25⟩
  · have hq29 : bsF cmpM id x.Maps := (Classical.not_not.1 (not_or.1 h26).1)
    have hq30 : LibOK x := (Classical.not_not.1 (not_or.1 h26).2)
    have hq31 := And.left hq29
    have hq32 := And.left hq30
    have hq33 := lib_len hq30
    have hq34 := And.left hq32
    have hq35 := And.right hq32
    refine W.skip ?_
    refine W.seq ?_
    refine W.regS (SR.q' (r_fa fa35_0 rfl) <| SR.q' (r_ld (v := .slice Ax_Maps nx_Maps cx_Maps) sca32 rfl ((((hb6).lo hk10).lo hk23).cell rfl)) <| SR.q' (r_mv (v := .int .i64 _) rfl) <| ?_)
    have hx37 := ((((hx_Maps).lo hk4).lo hk10).lo hk23).elem (i := (bsP cmpM id x.Maps : Int).toNat) (by omega)
    have hq38 := maps_rng ‹LibOK x›.1.1 hx37
    refine SR.q' (r_ixR tsl32 ((((hx_Maps).lo hk4).lo hk10).lo hk23) rfl rfl (by omega)) <| SR.q' (r_lda (l := encLMap (gt x.Maps ((bsP cmpM id x.Maps : Int).toNat))) agg54 rfl (fun _ _ hu => ((((hx_Maps).lo hk4).lo hk10).lo hk23).cell hx37 hu) (((((hx_Maps).lo hk4).lo hk10).lo hk23).esz _)) <| SR.alloc (l := [.int .i64 0, .int .i64 0, .int .i64 0]) tz54 rfl ?_
    intro g39 w40 hg41 hk42 hs43 hb44
    have hz45 := hk42.size
    have hB46 := hB25.lo hk42
    refine SR.store (o := 0) (vs := [.int .i64 ((gt x.Maps ((bsP cmpM id x.Maps : Int).toNat)).Id), .int .i64 ((gt x.Maps ((bsP cmpM id x.Maps : Int).toNat)).Copies), .int .i64 ((gt x.Maps ((bsP cmpM id x.Maps : Int).toNat)).Torn)]) agg54.2 rfl rfl rfl rfl (hb44) (Nat.le_of_ble_eq_true rfl) rfl ?_
    intro w47 hk48 hs49 hb50
    have hz51 := hk48.size
    have hB52 := hB46.new hk48 (by omega)
    refine SR.nil ?_
    refine W.seq ?_
    refine W.regA (Lo w47) (fun f' w' => ∃ (A71 : Option Addr), ∃ (n72 : Nat), ∃ (c73 : Nat), At f' [(4, str (((((Lib.itoa ((gt x.Maps ((bsP cmpM id x.Maps : Int).toNat)).Copies)) ++ ([32, 116, 111, 114, 110, 32] : List UInt8)) ++ (Lib.itoa ((gt x.Maps ((bsP cmpM id x.Maps : Int).toNat)).Torn))) ++ ([32, 97, 119, 97, 121, 32] : List UInt8)) ++ (Lib.itoa (n72 : Int)))), (5, .bool true)] ∧ (Lo w47 w') ∧ ((Lib.itoa ((gt x.Maps ((bsP cmpM id x.Maps : Int).toNat)).Copies)).length ≤ 21) ∧ ((Lib.itoa ((gt x.Maps ((bsP cmpM id x.Maps : Int).toNat)).Torn)).length ≤ 21) ∧ (n72 = (selL (ofM id) Away.Reader x.Away).length) ∧ ((n72 : Int) ≤ 9223372036854775807) ∧ ((selL (ofM id) Away.Reader x.Away).length ≤ x.Away.length) ∧ ((Lib.itoa (n72 : Int)).length ≤ 21)) mo ?_ ?_
    · intro w53 hk54
      have hz55 := hk54.size
      have hB56 := hB52.lo hk54
      refine AH.take 0 rfl (by kernel_rfl) trivial (hk54) (fun w' hw' => r_fa fa54_1 rfl) <| AH.take 1 rfl (by kernel_rfl) trivial (hk54) (fun w' hw' => r_ld (v := .int .i64 ((gt x.Maps ((bsP cmpM id x.Maps : Int).toNat)).Copies)) sca3 rfl (((hb50).lo hw').cell rfl)) <| AH.take 4 rfl (by kernel_rfl) trivial (hk54) (fun w' hw' => r_fa fa54_2 rfl) <| AH.take 5 rfl (by kernel_rfl) trivial (hk54) (fun w' hw' => r_ld (v := .int .i64 ((gt x.Maps ((bsP cmpM id x.Maps : Int).toNat)).Torn)) sca3 rfl (((hb50).lo hw').cell rfl)) <| AH.take 9 rfl (by kernel_rfl) trivial (hk54) (fun w' hw' => r_lda (l := [.slice Ax_Maps nx_Maps cx_Maps, .slice Ax_Away nx_Away cx_Away, .int .i64 x.Bought, .int .i64 x.Dropped, .int .i64 x.Mended]) agg35 rfl (fun _ _ hu => ((((((hb6).lo hk10).lo hk23).lo hk42).kp hk48 (fun e' => by have e'' : g1 = g39 := e'; omega)).lo hw').cell hu) rfl) <| AH.take 10 rfl (by kernel_rfl) trivial (hk54) (fun w' hw' => r_mv (v := .int .i64 _) rfl) <| AH.br [2] (by kernel_rfl) rfl ⟨Br.mk' rfl trivial ?_, trivial⟩
      refine SR.call ent24 (c_impl_text w53 ((gt x.Maps ((bsP cmpM id x.Maps : Int).toNat)).Copies) (by omega) (hE.lo (hB56))) rfl ?_
      rintro e w57 ⟨rfl, hk58⟩
      refine ⟨_, rfl, ?_⟩
      have hz59 := hk58.size
      have hB60 := hB56.lo hk58
      have hS61 := (hk54).lo hk58
      have hq62 : (Lib.itoa ((gt x.Maps ((bsP cmpM id x.Maps : Int).toNat)).Copies)).length ≤ 21 := itoa_len (n := (gt x.Maps ((bsP cmpM id x.Maps : Int).toNat)).Copies) (by omega) (by omega)
      refine SR.nil ⟨hS61, _, rfl, ?_⟩
      refine AH.take 3 rfl (by kernel_rfl) trivial (hS61) (fun w' hw' => r_cat rfl rfl (by first | omega | (simp only [List.length_append, List.length_cons, List.length_nil, List.length_take, List.length_drop]; omega) | (simp only [List.length_append, List.length_cons, List.length_nil, List.length_take, List.length_drop] at *; omega))) <| AH.br [6] (by kernel_rfl) rfl ⟨Br.mk' rfl trivial ?_, trivial⟩
      refine SR.call ent24 (c_impl_text w57 ((gt x.Maps ((bsP cmpM id x.Maps : Int).toNat)).Torn) (by omega) (hE.lo (hB60))) rfl ?_
      rintro e w63 ⟨rfl, hk64⟩
      refine ⟨_, rfl, ?_⟩
      have hz65 := hk64.size
      have hB66 := hB60.lo hk64
      have hS67 := (hS61).lo hk64
      have hq68 : (Lib.itoa ((gt x.Maps ((bsP cmpM id x.Maps : Int).toNat)).Torn)).length ≤ 21 := itoa_len (n := (gt x.Maps ((bsP cmpM id x.Maps : Int).toNat)).Torn) (by omega) (by omega)
      refine SR.nil ⟨hS67, _, rfl, ?_⟩
      refine AH.take 7 rfl (by kernel_rfl) trivial (hS67) (fun w' hw' => r_cat rfl rfl (by first | omega | (simp only [List.length_append, List.length_cons, List.length_nil, List.length_take, List.length_drop]; omega) | (simp only [List.length_append, List.length_cons, List.length_nil, List.length_take, List.length_drop] at *; omega))) <| AH.take 8 rfl (by kernel_rfl) trivial (hS67) (fun w' hw' => r_cat rfl rfl (by first | omega | (simp only [List.length_append, List.length_cons, List.length_nil, List.length_take, List.length_drop]; omega) | (simp only [List.length_append, List.length_cons, List.length_nil, List.length_take, List.length_drop] at *; omega))) <| AH.br [11] (by kernel_rfl) rfl ⟨Br.mk' rfl trivial ?_, trivial⟩
      refine SR.call ent42 (c__impl_Library__readersOf w63 x ((((((((((hx_Maps).lo hk4).lo hk10).lo hk23).lo hk42).kp hk48 (fun b_ hb e' => by have e'' : b_ = g39 := e'; omega)).lo hk54).lo hk58).lo hk64)) ((((((((((hx_Away).lo hk4).lo hk10).lo hk23).lo hk42).kp hk48 (fun b_ hb e' => by have e'' : b_ = g39 := e'; omega)).lo hk54).lo hk58).lo hk64)) id (by omega)) rfl ?_
      rintro e w69 ⟨A71, n72, c73, rfl, hO74, hk70⟩
      refine ⟨_, rfl, ?_⟩
      have hz75 := hk70.size
      have hB76 := hB66.lo hk70
      have hS77 := (hS67).lo hk70
      have hl78 := hO74.len
      have hl79 := hO74.rd.bound
      have hq80 := sel_len x.Away (ofM id) Away.Reader
      refine SR.nil ⟨hS77, _, rfl, ?_⟩
      refine AH.take 12 rfl (by kernel_rfl) trivial (hS77) (fun w' hw' => r_len und74 rfl) <| AH.br [13] (by kernel_rfl) rfl ⟨Br.mk' rfl trivial ?_, trivial⟩
      refine SR.call ent24 (c_impl_text w69 (n72 : Int) (by omega) (hE.lo (hB76))) rfl ?_
      rintro e w81 ⟨rfl, hk82⟩
      refine ⟨_, rfl, ?_⟩
      have hz83 := hk82.size
      have hB84 := hB76.lo hk82
      have hS85 := (hS77).lo hk82
      have hq86 : (Lib.itoa (n72 : Int)).length ≤ 21 := itoa_len (n := (n72 : Int)) (by omega) (by omega)
      refine SR.nil ⟨hS85, _, rfl, ?_⟩
      refine AH.take 14 rfl (by kernel_rfl) trivial (hS85) (fun w' hw' => r_cat rfl rfl (by first | omega | (simp only [List.length_append, List.length_cons, List.length_nil, List.length_take, List.length_drop]; omega) | (simp only [List.length_append, List.length_cons, List.length_nil, List.length_take, List.length_drop] at *; omega))) <| AH.take 15 rfl (by kernel_rfl) trivial (hS85) (fun w' hw' => r_as (v := str _) rfl) <| AH.take 16 rfl (by kernel_rfl) trivial (hS85) (fun w' hw' => r_as (v := .bool true) rfl) <| AH.done (by kernel_rfl) ?_
      exact ⟨A71, n72, c73, ⟨rfl, rfl, trivial⟩, hS85, hq62, hq68, hl78, hl79, hq80, hq86⟩
    rintro f87 w88 ⟨A71, n72, c73, hat90, hR89, hq62, hq68, hl78, hl79, hq80, hq86⟩
    rw [← sets_of_at hat90]
    have hz91 := hR89.size
    have hB92 := hB52.lo hR89
    refine W.ret ?_
    refine ret2 rfl (v := str _) (v' := .bool _) rfl rfl ?_
    exact ⟨eR (eT2 (eS (z_c_impl_MapText_93 x nx_Maps hbdx_Maps hlex_Maps nx_Away hbdx_Away hlex_Away id hp0 hq13 h26 hq29 hq30 hq31 hq32 hq33 hq34 hq35 hx37 hq38 n72 hq62 hq68 hl78 hl79 hq80 hq86)) (eB (z_c_impl_MapText_94 x nx_Maps hbdx_Maps hlex_Maps nx_Away hbdx_Away hlex_Away id hp0 hq13 h26 hq29 hq30 hq31 hq32 hq33 hq34 hq35 hx37 hq38 n72 hq62 hq68 hl78 hl79 hq80 hq86))), hB92⟩
end Go.Proofs.YtocpdkhahmbaiaaDoor
