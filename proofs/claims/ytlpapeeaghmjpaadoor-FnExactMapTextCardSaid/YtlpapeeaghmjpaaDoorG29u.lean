/- Walks, printed by a program of this claim's author. -/
import Derived.Test.YtlpapeeaghmjpaaDoorChecked
import Derived.Test.YtlpapeeaghmjpaaDoorUt
import Derived.Test.YtlpapeeaghmjpaaDoorFt
import Derived.Test.YtlpapeeaghmjpaaDoorSi
import Derived.Test.YtlpapeeaghmjpaaDoorG32c
namespace Go.Proofs.YtlpapeeaghmjpaaDoor
open Go Go.RowKit Fw
set_option maxRecDepth 10000
set_option linter.unusedVariables false
theorem ent92 : Ent Tryd.prog 92 := ent_of Tryd.func92 (by decide +kernel) rfl

theorem z_c__impl_Library__readersOf_10 (x : Library) (nx_Maps : Nat) (hbdx_Maps : (nx_Maps : Int) ≤ 9223372036854775807) (hlex_Maps : nx_Maps = x.Maps.length) (nx_Away : Nat) (hbdx_Away : (nx_Away : Int) ≤ 9223372036854775807) (hlex_Away : nx_Away = x.Away.length) (r : Int) (hp0 : nx_Away ≤ 8) : 0 ≤ nx_Away := by
  omega
theorem z_c__impl_Library__readersOf_11 (x : Library) (nx_Maps : Nat) (hbdx_Maps : (nx_Maps : Int) ≤ 9223372036854775807) (hlex_Maps : nx_Maps = x.Maps.length) (nx_Away : Nat) (hbdx_Away : (nx_Away : Int) ≤ 9223372036854775807) (hlex_Away : nx_Away = x.Away.length) (r : Int) (hp0 : nx_Away ≤ 8) : ([] : List Int) = selL (ofM r) Away.Reader (x.Away.take 0) := by
  rfl
theorem z_c__impl_Library__readersOf_59 (x : Library) (nx_Maps : Nat) (hbdx_Maps : (nx_Maps : Int) ≤ 9223372036854775807) (hlex_Maps : nx_Maps = x.Maps.length) (nx_Away : Nat) (hbdx_Away : (nx_Away : Int) ≤ 9223372036854775807) (hlex_Away : nx_Away = x.Away.length) (r : Int) (hp0 : nx_Away ≤ 8) (k : Nat) (n9 : Nat) (c9 : Nat) (hi18 : k ≤ nx_Away) (hl19 : n9 = (selL (ofM r) Away.Reader (x.Away.take k)).length) (hq21 : (selL (ofM r) Away.Reader (x.Away.take k)).length ≤ x.Away.length) (h22 : (k : Int) < (nx_Away : Int)) (hx24 : x.Away[k]? = some (gt x.Away k)) (h40 : ((gt x.Away k).Map) = r) : (selL (ofM r) Away.Reader (x.Away.take k)) ++ ([(gt x.Away k).Reader] : List Int) = selL (ofM r) Away.Reader (x.Away.take (k + 1)) := by
  first | exact sel_yes (by omega) (decide_eq_true ‹_›) | exact sel_no (by omega) (decide_eq_false ‹_›)
theorem z_c__impl_Library__readersOf_60 (x : Library) (nx_Maps : Nat) (hbdx_Maps : (nx_Maps : Int) ≤ 9223372036854775807) (hlex_Maps : nx_Maps = x.Maps.length) (nx_Away : Nat) (hbdx_Away : (nx_Away : Int) ≤ 9223372036854775807) (hlex_Away : nx_Away = x.Away.length) (r : Int) (hp0 : nx_Away ≤ 8) (k : Nat) (n9 : Nat) (c9 : Nat) (hi18 : k ≤ nx_Away) (hl19 : n9 = (selL (ofM r) Away.Reader (x.Away.take k)).length) (hq21 : (selL (ofM r) Away.Reader (x.Away.take k)).length ≤ x.Away.length) (h22 : (k : Int) < (nx_Away : Int)) (hx24 : x.Away[k]? = some (gt x.Away k)) (h40 : ((gt x.Away k).Map) = r) : k + 1 ≤ nx_Away := by
  omega
theorem z_c__impl_Library__readersOf_61 (x : Library) (nx_Maps : Nat) (hbdx_Maps : (nx_Maps : Int) ≤ 9223372036854775807) (hlex_Maps : nx_Maps = x.Maps.length) (nx_Away : Nat) (hbdx_Away : (nx_Away : Int) ≤ 9223372036854775807) (hlex_Away : nx_Away = x.Away.length) (r : Int) (hp0 : nx_Away ≤ 8) (k : Nat) (n9 : Nat) (c9 : Nat) (hi18 : k ≤ nx_Away) (hl19 : n9 = (selL (ofM r) Away.Reader (x.Away.take k)).length) (hq21 : (selL (ofM r) Away.Reader (x.Away.take k)).length ≤ x.Away.length) (h22 : (k : Int) < (nx_Away : Int)) (hx24 : x.Away[k]? = some (gt x.Away k)) (h40 : ((gt x.Away k).Map) = r) : nx_Away - (k + 1) < nx_Away - k := by
  omega
theorem z_c__impl_Library__readersOf_62 (x : Library) (nx_Maps : Nat) (hbdx_Maps : (nx_Maps : Int) ≤ 9223372036854775807) (hlex_Maps : nx_Maps = x.Maps.length) (nx_Away : Nat) (hbdx_Away : (nx_Away : Int) ≤ 9223372036854775807) (hlex_Away : nx_Away = x.Away.length) (r : Int) (hp0 : nx_Away ≤ 8) (k : Nat) (n9 : Nat) (c9 : Nat) (hi18 : k ≤ nx_Away) (hl19 : n9 = (selL (ofM r) Away.Reader (x.Away.take k)).length) (hq21 : (selL (ofM r) Away.Reader (x.Away.take k)).length ≤ x.Away.length) (h22 : (k : Int) < (nx_Away : Int)) (hx24 : x.Away[k]? = some (gt x.Away k)) (h40 : ¬ (((gt x.Away k).Map) = r)) : selL (ofM r) Away.Reader (x.Away.take k) = selL (ofM r) Away.Reader (x.Away.take (k + 1)) := by
  first | exact sel_yes (by omega) (decide_eq_true ‹_›) | exact sel_no (by omega) (decide_eq_false ‹_›)
theorem z_c__impl_Library__readersOf_63 (x : Library) (nx_Maps : Nat) (hbdx_Maps : (nx_Maps : Int) ≤ 9223372036854775807) (hlex_Maps : nx_Maps = x.Maps.length) (nx_Away : Nat) (hbdx_Away : (nx_Away : Int) ≤ 9223372036854775807) (hlex_Away : nx_Away = x.Away.length) (r : Int) (hp0 : nx_Away ≤ 8) (k : Nat) (n9 : Nat) (c9 : Nat) (hi18 : k ≤ nx_Away) (hl19 : n9 = (selL (ofM r) Away.Reader (x.Away.take k)).length) (hq21 : (selL (ofM r) Away.Reader (x.Away.take k)).length ≤ x.Away.length) (h22 : (k : Int) < (nx_Away : Int)) (hx24 : x.Away[k]? = some (gt x.Away k)) (h40 : ¬ (((gt x.Away k).Map) = r)) : k + 1 ≤ nx_Away := by
  omega
theorem z_c__impl_Library__readersOf_64 (x : Library) (nx_Maps : Nat) (hbdx_Maps : (nx_Maps : Int) ≤ 9223372036854775807) (hlex_Maps : nx_Maps = x.Maps.length) (nx_Away : Nat) (hbdx_Away : (nx_Away : Int) ≤ 9223372036854775807) (hlex_Away : nx_Away = x.Away.length) (r : Int) (hp0 : nx_Away ≤ 8) (k : Nat) (n9 : Nat) (c9 : Nat) (hi18 : k ≤ nx_Away) (hl19 : n9 = (selL (ofM r) Away.Reader (x.Away.take k)).length) (hq21 : (selL (ofM r) Away.Reader (x.Away.take k)).length ≤ x.Away.length) (h22 : (k : Int) < (nx_Away : Int)) (hx24 : x.Away[k]? = some (gt x.Away k)) (h40 : ¬ (((gt x.Away k).Map) = r)) : nx_Away - (k + 1) < nx_Away - k := by
  omega
theorem z_c__impl_Library__readersOf_65 (x : Library) (nx_Maps : Nat) (hbdx_Maps : (nx_Maps : Int) ≤ 9223372036854775807) (hlex_Maps : nx_Maps = x.Maps.length) (nx_Away : Nat) (hbdx_Away : (nx_Away : Int) ≤ 9223372036854775807) (hlex_Away : nx_Away = x.Away.length) (r : Int) (hp0 : nx_Away ≤ 8) (k : Nat) (n9 : Nat) (c9 : Nat) (hi18 : k ≤ nx_Away) (hl19 : n9 = (selL (ofM r) Away.Reader (x.Away.take k)).length) (hq21 : (selL (ofM r) Away.Reader (x.Away.take k)).length ≤ x.Away.length) (h22 : ¬ ((k : Int) < (nx_Away : Int))) : selL (ofM r) Away.Reader (x.Away.take k) = selL (ofM r) Away.Reader x.Away := by
  exact sel_end (by omega)
theorem c__impl_Library__readersOf (w : World) (x : Library) {Ax_Maps : Option Addr} {nx_Maps cx_Maps Bx_Maps : Nat} (hx_Maps : SlR w Bx_Maps encLMap 3 Ax_Maps nx_Maps cx_Maps x.Maps) {Ax_Away : Option Addr} {nx_Away cx_Away Bx_Away : Nat} (hx_Away : SlR w Bx_Away encAway 2 Ax_Away nx_Away cx_Away x.Away) (r : Int) (hp0 : nx_Away ≤ 8) : Calls Tryd.prog 50 #[.agg (List.toArray [.slice Ax_Maps nx_Maps cx_Maps, .slice Ax_Away nx_Away cx_Away, .int .i64 x.Bought, .int .i64 x.Dropped, .int .i64 x.Mended]), .int .i64 r] w fun e w' => ∃ (A1' : Option Addr) (n1' c1' : Nat), e = .returned (.slice A1' n1' c1') ∧ SlO w' w.heap.size encI 1 3 A1' n1' c1' (selL (ofM r) Away.Reader x.Away) ∧ Lo w w' := by
  refine calls_W 26 Tryd.func50 rfl rfl rfl ?_
  have hbdx_Maps := hx_Maps.bound
  have hlex_Maps := hx_Maps.len
  have hBbx_Maps := hx_Maps.bd
  have hbdx_Away := hx_Away.bound
  have hlex_Away := hx_Away.len
  have hBbx_Away := hx_Away.bd
  refine W.seq ?_
  refine W.regS (SR.box (v := .agg (List.toArray _)) (l := [.slice Ax_Maps nx_Maps cx_Maps, .slice Ax_Away nx_Away cx_Away, .int .i64 x.Bought, .int .i64 x.Dropped, .int .i64 x.Mended]) rfl rfl ?_)
  intro g1 w2 hg3 hk4 hs5 hb6
  have hz7 := hk4.size
  have hB8 := (Lo.refl w).lo hk4
  refine SR.q' (r_as (v := .slice none 0 0) rfl) <| SR.nil ?_
  refine W.seq ?_
  refine W.regS (SR.q' (r_as (v := .slice none 0 0) rfl) <| SR.nil ?_)
  refine W.seq ?_
  refine W.seq ?_
  refine W.regS (SR.q' (r_fa fa32_1 rfl) <| SR.q' (r_ld (v := .slice Ax_Away nx_Away cx_Away) sca30 rfl ((hb6).cell rfl)) <| SR.q' (r_len und30 rfl) <| SR.q' (r_mv (v := .int .i64 0) rfl) <| SR.nil ?_)
  refine W.block ?_
  refine W.loop (σ := Nat × (Option Addr) × Nat × Nat) (fun g => [(1, .int .i64 r), (4, .slice none 0 0), (5, .slice g.2.1 g.2.2.1 g.2.2.2), (9, .slice Ax_Away nx_Away cx_Away), (10, .int .i64 (nx_Away : Int)), (11, .int .i64 (g.1 : Int))]) (fun g w' => (Lo w w') ∧ (SlR w' Bx_Away encAway 2 Ax_Away nx_Away cx_Away x.Away) ∧ (SlO w' w.heap.size encI 1 3 g.2.1 g.2.2.1 g.2.2.2 (selL (ofM r) Away.Reader (x.Away.take g.1))) ∧ (g.1 ≤ nx_Away)) (fun g => nx_Away - g.1) (0, (none : Option Addr), 0, 0) ?_ ?_ ?_
  · exact ⟨rfl, rfl, rfl, rfl, rfl, rfl, trivial⟩
  · exact ⟨hB8, (hx_Away).lo hk4, (SlO.eqv (SlO.nil (base := w.heap.size) (e := 3) (enc := encI) (fun _ => rfl) (by omega)) (z_c__impl_Library__readersOf_11 x nx_Maps hbdx_Maps hlex_Maps nx_Away hbdx_Away hlex_Away r hp0)), (z_c__impl_Library__readersOf_10 x nx_Maps hbdx_Maps hlex_Maps nx_Away hbdx_Away hlex_Away r hp0)⟩
  · rintro ⟨k, A9, n9, c9⟩ f12 w13 hP15
    obtain ⟨hB14, hm16, hO17, hi18⟩ : (Lo w w13) ∧ (SlR w13 Bx_Away encAway 2 Ax_Away nx_Away cx_Away x.Away) ∧ (SlO w13 w.heap.size encI 1 3 A9 n9 c9 (selL (ofM r) Away.Reader (x.Away.take k))) ∧ (k ≤ nx_Away) := hP15
    refine (?_ : W _ _ _ _ _ (act _ (sets f12 [(1, .int .i64 r), (4, .slice none 0 0), (5, .slice A9 n9 c9), (9, .slice Ax_Away nx_Away cx_Away), (10, .int .i64 (nx_Away : Int)), (11, .int .i64 (k : Int))])) _)
    have hzw13 := hB14.size
    have hl19 := hO17.len
    have hl20 := hO17.rd.bound
    have hq21 := sel_lenT x.Away k (ofM r) Away.Reader
    refine W.seq ?_
    refine W.regS (SR.q' (r_lt rfl rfl) <| SR.nil ?_)
    refine W.seq ?_
    refine W.cond_d rfl (fun h22 => ?_) (fun h22 => ?_)
    · refine W.skip ?_
      refine W.seq ?_
      refine W.block ?_
      refine W.seq ?_
      have hx24 := (hm16).elem (i := k) (by omega)
      refine W.regS (SR.q' (r_ixR tsl30 (hm16) rfl rfl (by omega)) <| SR.q' (r_lda (l := encAway (gt x.Away k)) agg106 rfl (fun _ _ hu => (hm16).cell hx24 hu) ((hm16).esz _)) <| SR.alloc (l := [.int .i64 0, .int .i64 0]) tz106 rfl ?_)
      intro g25 w26 hg27 hk28 hs29 hb30
      have hz31 := hk28.size
      have hB32 := hB14.lo hk28
      have hd33 : ¬ A9 = some ⟨g25, 0, none⟩ := fun e' => by have := (hO17).base_le e'; omega
      refine SR.store (o := 0) (vs := [.int .i64 ((gt x.Away k).Map), .int .i64 ((gt x.Away k).Reader)]) agg106.2 rfl rfl rfl rfl (hb30) (Nat.le_of_ble_eq_true rfl) rfl ?_
      intro w34 hk35 hs36 hb37
      have hz38 := hk35.size
      have hB39 := hB32.new hk35 (by omega)
      refine SR.nil ?_
      refine W.seq ?_
      refine W.regS (SR.q' (r_fa fa106_0 rfl) <| SR.q' (r_ld (v := .int .i64 ((gt x.Away k).Map)) sca3 rfl ((hb37).cell rfl)) <| SR.q' (r_mv (v := .int .i64 _) rfl) <| SR.q' (r_eq rfl rfl) <| SR.nil ?_)
      refine W.cond_d rfl (fun h40 => ?_) (fun h40 => ?_)
      · refine W.regS (SR.q' (r_mv (v := .slice _ _ _) rfl) <| SR.q' (r_fa fa106_1 rfl) <| SR.q' (r_ld (v := .int .i64 ((gt x.Away k).Reader)) sca3 rfl ((hb37).cell rfl)) <| SR.lit (vs := [.int .i64 ((gt x.Away k).Reader)]) (L := ([(gt x.Away k).Reader] : List Int)) (enc := encI) tel38 (fun _ => rfl) rfl rfl rfl (by decide) ?_)
        intro g41 w42 hg43 hk44 hO45
        have hz46 := hk44.size
        have hB47 := hB39.lo hk44
        have hd48 : ¬ A9 = some ⟨g41, 0, none⟩ := fun e' => by have := (((hO17).lo hk28).kp hk35 (fun b_ hb e' => hd33 (by have e'' : b_ = g25 := e'; rw [← e'']; exact hb))).base_le e'; omega
        refine SR.app tel38 rfl rfl ((((hO17).lo hk28).kp hk35 (fun b_ hb e' => hd33 (by have e'' : b_ = g25 := e'; rw [← e'']; exact hb))).lo hk44) ((hO45).rd) (fun _ => rfl) (by omega) (by omega) ?_
        intro A49 c50 w51 hk52 hO53 hN54
        have hz55 := hk52.size
        have hB56 := hB47.step hk52 (fun i_ hi_ e' => by have := (((((hO17).lo hk28).kp hk35 (fun b_ hb e' => hd33 (by have e'' : b_ = g25 := e'; rw [← e'']; exact hb))).lo hk44)).base_le e'; first | omega | (exfalso; omega) | exact e' | exact .inl e' | exact .inr e')
        have hd57 : ¬ A49 = some ⟨g25, 0, none⟩ := fun e' => (hN54 g25 e').elim (fun h => hd33 (h.trans e')) (fun h => by have := ((hb37).lo hk44).lt; omega)
        refine SR.q' (r_as (v := .slice _ _ _) rfl) <| SR.nil ?_
        refine W.regS (SR.q' (r_add rfl rfl (by omega)) <| SR.q' (r_mv (v := .int .i64 _) rfl) <| SR.nil ?_)
        refine ⟨(k + 1, A49, n9 + 1, c50), _, rfl, ⟨rfl, rfl, rfl, rfl, rfl, rfl, trivial⟩, ⟨hB56, ((((hm16).lo hk28).kp hk35 (fun b_ hb e' => by have e'' : b_ = g25 := e'; omega)).lo hk44).kp hk52 (fun b_ hb e' => by have := (((((hO17).lo hk28).kp hk35 (fun b_ hb e' => hd33 (by have e'' : b_ = g25 := e'; rw [← e'']; exact hb))).lo hk44)).base_le e'; omega), (SlO.eqv (hO53) (z_c__impl_Library__readersOf_59 x nx_Maps hbdx_Maps hlex_Maps nx_Away hbdx_Away hlex_Away r hp0 k n9 c9 hi18 hl19 hq21 h22 hx24 h40)), ?_⟩, ?_⟩
        · exact (z_c__impl_Library__readersOf_60 x nx_Maps hbdx_Maps hlex_Maps nx_Away hbdx_Away hlex_Away r hp0 k n9 c9 hi18 hl19 hq21 h22 hx24 h40)
        · exact (z_c__impl_Library__readersOf_61 x nx_Maps hbdx_Maps hlex_Maps nx_Away hbdx_Away hlex_Away r hp0 k n9 c9 hi18 hl19 hq21 h22 hx24 h40)
      · refine W.skip ?_
        refine W.regS (SR.q' (r_add rfl rfl (by omega)) <| SR.q' (r_mv (v := .int .i64 _) rfl) <| SR.nil ?_)
        refine ⟨(k + 1, A9, n9, c9), _, rfl, ⟨rfl, rfl, rfl, rfl, rfl, rfl, trivial⟩, ⟨hB39, ((hm16).lo hk28).kp hk35 (fun b_ hb e' => by have e'' : b_ = g25 := e'; omega), (SlO.eqv (((hO17).lo hk28).kp hk35 (fun b_ hb e' => hd33 (by have e'' : b_ = g25 := e'; rw [← e'']; exact hb))) (z_c__impl_Library__readersOf_62 x nx_Maps hbdx_Maps hlex_Maps nx_Away hbdx_Away hlex_Away r hp0 k n9 c9 hi18 hl19 hq21 h22 hx24 h40)), ?_⟩, ?_⟩
        · exact (z_c__impl_Library__readersOf_63 x nx_Maps hbdx_Maps hlex_Maps nx_Away hbdx_Away hlex_Away r hp0 k n9 c9 hi18 hl19 hq21 h22 hx24 h40)
        · exact (z_c__impl_Library__readersOf_64 x nx_Maps hbdx_Maps hlex_Maps nx_Away hbdx_Away hlex_Away r hp0 k n9 c9 hi18 hl19 hq21 h22 hx24 h40)
    · refine W.exit (xin_here ?_)
      refine W.seq ?_
      refine W.regS (SR.q' (r_mv (v := .slice _ _ _) rfl) <| SR.q' (r_as (v := .slice _ _ _) rfl) <| SR.nil ?_)
      refine W.ret ?_
      refine ret1 rfl (v := .slice _ _ _) rfl ?_
      exact ⟨A9, n9, c9, eR rfl, (SlO.eqv ((hO17).down (by omega)) (z_c__impl_Library__readersOf_65 x nx_Maps hbdx_Maps hlex_Maps nx_Away hbdx_Away hlex_Away r hp0 k n9 c9 hi18 hl19 hq21 h22)), hB14⟩

theorem z_c_spec_l32At_17 (x : Library) (nx_Maps : Nat) (hbdx_Maps : (nx_Maps : Int) ≤ 9223372036854775807) (hlex_Maps : nx_Maps = x.Maps.length) (nx_Away : Nat) (hbdx_Away : (nx_Away : Int) ≤ 9223372036854775807) (hlex_Away : nx_Away = x.Away.length) (r : Int) (hp0 : nx_Away ≤ 8) : 0 ≤ nx_Away := by
  omega
theorem z_c_spec_l32At_18 (x : Library) (nx_Maps : Nat) (hbdx_Maps : (nx_Maps : Int) ≤ 9223372036854775807) (hlex_Maps : nx_Maps = x.Maps.length) (nx_Away : Nat) (hbdx_Away : (nx_Away : Int) ≤ 9223372036854775807) (hlex_Away : nx_Away = x.Away.length) (r : Int) (hp0 : nx_Away ≤ 8) : ([] : List Int) = selL (ofM r) Away.Reader (x.Away.take 0) := by
  rfl
theorem z_c_spec_l32At_55 (x : Library) (nx_Maps : Nat) (hbdx_Maps : (nx_Maps : Int) ≤ 9223372036854775807) (hlex_Maps : nx_Maps = x.Maps.length) (nx_Away : Nat) (hbdx_Away : (nx_Away : Int) ≤ 9223372036854775807) (hlex_Away : nx_Away = x.Away.length) (r : Int) (hp0 : nx_Away ≤ 8) (k : Nat) (n16 : Nat) (c16 : Nat) (hi27 : k ≤ nx_Away) (hl30 : n16 = (selL (ofM r) Away.Reader (x.Away.take k)).length) (hq32 : (selL (ofM r) Away.Reader (x.Away.take k)).length ≤ x.Away.length) (h33 : (k : Int) < (nx_Away : Int)) (hx35 : x.Away[k]? = some (gt x.Away k)) (h36 : ((gt x.Away k).Map) = r) : (selL (ofM r) Away.Reader (x.Away.take k)) ++ ([(gt x.Away k).Reader] : List Int) = selL (ofM r) Away.Reader (x.Away.take (k + 1)) := by
  first | exact sel_yes (by omega) (decide_eq_true ‹_›) | exact sel_no (by omega) (decide_eq_false ‹_›)
theorem z_c_spec_l32At_56 (x : Library) (nx_Maps : Nat) (hbdx_Maps : (nx_Maps : Int) ≤ 9223372036854775807) (hlex_Maps : nx_Maps = x.Maps.length) (nx_Away : Nat) (hbdx_Away : (nx_Away : Int) ≤ 9223372036854775807) (hlex_Away : nx_Away = x.Away.length) (r : Int) (hp0 : nx_Away ≤ 8) (k : Nat) (n16 : Nat) (c16 : Nat) (hi27 : k ≤ nx_Away) (hl30 : n16 = (selL (ofM r) Away.Reader (x.Away.take k)).length) (hq32 : (selL (ofM r) Away.Reader (x.Away.take k)).length ≤ x.Away.length) (h33 : (k : Int) < (nx_Away : Int)) (hx35 : x.Away[k]? = some (gt x.Away k)) (h36 : ((gt x.Away k).Map) = r) : k + 1 ≤ nx_Away := by
  omega
theorem z_c_spec_l32At_57 (x : Library) (nx_Maps : Nat) (hbdx_Maps : (nx_Maps : Int) ≤ 9223372036854775807) (hlex_Maps : nx_Maps = x.Maps.length) (nx_Away : Nat) (hbdx_Away : (nx_Away : Int) ≤ 9223372036854775807) (hlex_Away : nx_Away = x.Away.length) (r : Int) (hp0 : nx_Away ≤ 8) (k : Nat) (n16 : Nat) (c16 : Nat) (hi27 : k ≤ nx_Away) (hl30 : n16 = (selL (ofM r) Away.Reader (x.Away.take k)).length) (hq32 : (selL (ofM r) Away.Reader (x.Away.take k)).length ≤ x.Away.length) (h33 : (k : Int) < (nx_Away : Int)) (hx35 : x.Away[k]? = some (gt x.Away k)) (h36 : ((gt x.Away k).Map) = r) : nx_Away - (k + 1) < nx_Away - k := by
  omega
theorem z_c_spec_l32At_58 (x : Library) (nx_Maps : Nat) (hbdx_Maps : (nx_Maps : Int) ≤ 9223372036854775807) (hlex_Maps : nx_Maps = x.Maps.length) (nx_Away : Nat) (hbdx_Away : (nx_Away : Int) ≤ 9223372036854775807) (hlex_Away : nx_Away = x.Away.length) (r : Int) (hp0 : nx_Away ≤ 8) (k : Nat) (n16 : Nat) (c16 : Nat) (hi27 : k ≤ nx_Away) (hl30 : n16 = (selL (ofM r) Away.Reader (x.Away.take k)).length) (hq32 : (selL (ofM r) Away.Reader (x.Away.take k)).length ≤ x.Away.length) (h33 : (k : Int) < (nx_Away : Int)) (hx35 : x.Away[k]? = some (gt x.Away k)) (h36 : ¬ (((gt x.Away k).Map) = r)) : selL (ofM r) Away.Reader (x.Away.take k) = selL (ofM r) Away.Reader (x.Away.take (k + 1)) := by
  first | exact sel_yes (by omega) (decide_eq_true ‹_›) | exact sel_no (by omega) (decide_eq_false ‹_›)
theorem z_c_spec_l32At_59 (x : Library) (nx_Maps : Nat) (hbdx_Maps : (nx_Maps : Int) ≤ 9223372036854775807) (hlex_Maps : nx_Maps = x.Maps.length) (nx_Away : Nat) (hbdx_Away : (nx_Away : Int) ≤ 9223372036854775807) (hlex_Away : nx_Away = x.Away.length) (r : Int) (hp0 : nx_Away ≤ 8) (k : Nat) (n16 : Nat) (c16 : Nat) (hi27 : k ≤ nx_Away) (hl30 : n16 = (selL (ofM r) Away.Reader (x.Away.take k)).length) (hq32 : (selL (ofM r) Away.Reader (x.Away.take k)).length ≤ x.Away.length) (h33 : (k : Int) < (nx_Away : Int)) (hx35 : x.Away[k]? = some (gt x.Away k)) (h36 : ¬ (((gt x.Away k).Map) = r)) : k + 1 ≤ nx_Away := by
  omega
theorem z_c_spec_l32At_60 (x : Library) (nx_Maps : Nat) (hbdx_Maps : (nx_Maps : Int) ≤ 9223372036854775807) (hlex_Maps : nx_Maps = x.Maps.length) (nx_Away : Nat) (hbdx_Away : (nx_Away : Int) ≤ 9223372036854775807) (hlex_Away : nx_Away = x.Away.length) (r : Int) (hp0 : nx_Away ≤ 8) (k : Nat) (n16 : Nat) (c16 : Nat) (hi27 : k ≤ nx_Away) (hl30 : n16 = (selL (ofM r) Away.Reader (x.Away.take k)).length) (hq32 : (selL (ofM r) Away.Reader (x.Away.take k)).length ≤ x.Away.length) (h33 : (k : Int) < (nx_Away : Int)) (hx35 : x.Away[k]? = some (gt x.Away k)) (h36 : ¬ (((gt x.Away k).Map) = r)) : nx_Away - (k + 1) < nx_Away - k := by
  omega
theorem z_c_spec_l32At_61 (x : Library) (nx_Maps : Nat) (hbdx_Maps : (nx_Maps : Int) ≤ 9223372036854775807) (hlex_Maps : nx_Maps = x.Maps.length) (nx_Away : Nat) (hbdx_Away : (nx_Away : Int) ≤ 9223372036854775807) (hlex_Away : nx_Away = x.Away.length) (r : Int) (hp0 : nx_Away ≤ 8) (k : Nat) (n16 : Nat) (c16 : Nat) (hi27 : k ≤ nx_Away) (hl30 : n16 = (selL (ofM r) Away.Reader (x.Away.take k)).length) (hq32 : (selL (ofM r) Away.Reader (x.Away.take k)).length ≤ x.Away.length) (h33 : ¬ ((k : Int) < (nx_Away : Int))) : selL (ofM r) Away.Reader (x.Away.take k) = selL (ofM r) Away.Reader x.Away := by
  exact sel_end (by omega)
theorem c_spec_l32At (w : World) (x : Library) {Ax_Maps : Option Addr} {nx_Maps cx_Maps Bx_Maps : Nat} (hx_Maps : SlR w Bx_Maps encLMap 3 Ax_Maps nx_Maps cx_Maps x.Maps) {Ax_Away : Option Addr} {nx_Away cx_Away Bx_Away : Nat} (hx_Away : SlR w Bx_Away encAway 2 Ax_Away nx_Away cx_Away x.Away) (r : Int) (hp0 : nx_Away ≤ 8) : Calls Tryd.prog 82 #[.agg (List.toArray [.slice Ax_Maps nx_Maps cx_Maps, .slice Ax_Away nx_Away cx_Away, .int .i64 x.Bought, .int .i64 x.Dropped, .int .i64 x.Mended]), .int .i64 r] w fun e w' => ∃ (A1' : Option Addr) (n1' c1' : Nat), e = .returned (.slice A1' n1' c1') ∧ SlO w' w.heap.size encI 1 3 A1' n1' c1' (selL (ofM r) Away.Reader x.Away) ∧ Lo w w' := by
  refine calls_W 33 Tryd.func82 rfl rfl rfl ?_
  have hbdx_Maps := hx_Maps.bound
  have hlex_Maps := hx_Maps.len
  have hBbx_Maps := hx_Maps.bd
  have hbdx_Away := hx_Away.bound
  have hlex_Away := hx_Away.len
  have hBbx_Away := hx_Away.bd
  refine W.seq ?_
  refine W.regS (SR.box (v := .agg (List.toArray _)) (l := [.slice Ax_Maps nx_Maps cx_Maps, .slice Ax_Away nx_Away cx_Away, .int .i64 x.Bought, .int .i64 x.Dropped, .int .i64 x.Mended]) rfl rfl ?_)
  intro g1 w2 hg3 hk4 hs5 hb6
  have hz7 := hk4.size
  have hB8 := (Lo.refl w).lo hk4
  refine SR.q' (r_as (v := .slice none 0 0) rfl) <| SR.nil ?_
  refine W.seq ?_
  refine W.regS (SR.lit (vs := []) (L := ([] : List Int)) (enc := encI) tel38 (fun _ => rfl) rfl rfl rfl (by decide) ?_)
  intro g9 w10 hg11 hk12 hO13
  have hz14 := hk12.size
  have hB15 := hB8.lo hk12
  refine SR.q' (r_as (v := .slice _ _ _) rfl) <| SR.nil ?_
  refine W.seq ?_
  refine W.seq ?_
  refine W.regS (SR.q' (r_as (v := .int .i64 0) rfl) <| SR.nil ?_)
  refine W.block ?_
  refine W.loop (σ := Nat × (Option Addr) × Nat × Nat) (fun g => [(1, .int .i64 r), (2, .pointer (some ((⟨g1, 0, none⟩ : Addr)))), (4, .slice none 0 0), (5, .slice g.2.1 g.2.2.1 g.2.2.2), (6, .int .i64 (g.1 : Int))]) (fun g w' => (Lo w w') ∧ (Blk w' g1 32 [.slice Ax_Maps nx_Maps cx_Maps, .slice Ax_Away nx_Away cx_Away, .int .i64 x.Bought, .int .i64 x.Dropped, .int .i64 x.Mended]) ∧ (SlR w' Bx_Maps encLMap 3 Ax_Maps nx_Maps cx_Maps x.Maps) ∧ (SlR w' Bx_Away encAway 2 Ax_Away nx_Away cx_Away x.Away) ∧ (SlO w' w.heap.size encI 1 3 g.2.1 g.2.2.1 g.2.2.2 (selL (ofM r) Away.Reader (x.Away.take g.1))) ∧ (¬ g.2.1 = some ⟨g1, 0, none⟩) ∧ (g.1 ≤ nx_Away)) (fun g => nx_Away - g.1) (0, (some (⟨g9, 0, none⟩ : Addr)), 0, 0) ?_ ?_ ?_
  · exact ⟨rfl, rfl, rfl, rfl, rfl, trivial⟩
  · show (Lo w w10) ∧ (Blk w10 g1 32 [.slice Ax_Maps nx_Maps cx_Maps, .slice Ax_Away nx_Away cx_Away, .int .i64 x.Bought, .int .i64 x.Dropped, .int .i64 x.Mended]) ∧ (SlR w10 Bx_Maps encLMap 3 Ax_Maps nx_Maps cx_Maps x.Maps) ∧ (SlR w10 Bx_Away encAway 2 Ax_Away nx_Away cx_Away x.Away) ∧ (SlO w10 w.heap.size encI 1 3 (some (⟨g9, 0, none⟩ : Addr)) 0 0 (selL (ofM r) Away.Reader (x.Away.take 0))) ∧ (¬ (some (⟨g9, 0, none⟩ : Addr)) = some ⟨g1, 0, none⟩) ∧ (0 ≤ nx_Away)
    exact ⟨hB15, (hb6).lo hk12, ((hx_Maps).lo hk4).lo hk12, ((hx_Away).lo hk4).lo hk12, (SlO.eqv ((hO13).down (by omega)) (z_c_spec_l32At_18 x nx_Maps hbdx_Maps hlex_Maps nx_Away hbdx_Away hlex_Away r hp0)), (fun e' => by have := (hO13).base_le e'; omega), (z_c_spec_l32At_17 x nx_Maps hbdx_Maps hlex_Maps nx_Away hbdx_Away hlex_Away r hp0)⟩
  · rintro ⟨k, A16, n16, c16⟩ f19 w20 hP22
    obtain ⟨hB21, hm23, hm24, hm25, hO26, hd28, hi27⟩ : (Lo w w20) ∧ (Blk w20 g1 32 [.slice Ax_Maps nx_Maps cx_Maps, .slice Ax_Away nx_Away cx_Away, .int .i64 x.Bought, .int .i64 x.Dropped, .int .i64 x.Mended]) ∧ (SlR w20 Bx_Maps encLMap 3 Ax_Maps nx_Maps cx_Maps x.Maps) ∧ (SlR w20 Bx_Away encAway 2 Ax_Away nx_Away cx_Away x.Away) ∧ (SlO w20 w.heap.size encI 1 3 A16 n16 c16 (selL (ofM r) Away.Reader (x.Away.take k))) ∧ (¬ A16 = some ⟨g1, 0, none⟩) ∧ (k ≤ nx_Away) := hP22
    refine (?_ : W _ _ _ _ _ (act _ (sets f19 [(1, .int .i64 r), (2, .pointer (some ((⟨g1, 0, none⟩ : Addr)))), (4, .slice none 0 0), (5, .slice A16 n16 c16), (6, .int .i64 (k : Int))])) _)
    have hzw20 := hB21.size
    have hl29 := hm23.lt
    have hl30 := hO26.len
    have hl31 := hO26.rd.bound
    have hq32 := sel_lenT x.Away k (ofM r) Away.Reader
    refine W.seq ?_
    refine W.seq ?_
    refine W.regS (SR.q' (r_mv (v := .int .i64 _) rfl) <| SR.q' (r_fa fa32_1 rfl) <| SR.q' (r_ld (v := .slice Ax_Away nx_Away cx_Away) sca30 rfl ((hm23).cell rfl)) <| SR.q' (r_len und30 rfl) <| SR.q' (r_lt rfl rfl) <| SR.nil ?_)
    refine W.cond_d rfl (fun h33 => ?_) (fun h33 => ?_)
    · refine W.skip ?_
      refine W.seq ?_
      refine W.block ?_
      refine W.seq ?_
      refine W.regS (SR.q' (r_fa fa32_1 rfl) <| SR.q' (r_ld (v := .slice Ax_Away nx_Away cx_Away) sca30 rfl ((hm23).cell rfl)) <| SR.q' (r_mv (v := .int .i64 _) rfl) <| ?_)
      have hx35 := (hm25).elem (i := k) (by omega)
      refine SR.q' (r_ixR tsl30 (hm25) rfl rfl (by omega)) <| SR.q' (r_fa fa106_0 rfl) <| SR.q' (r_ld (v := .int .i64 ((gt x.Away k).Map)) sca3 rfl ((hm25).cell hx35 rfl)) <| SR.q' (r_mv (v := .int .i64 _) rfl) <| SR.q' (r_eq rfl rfl) <| SR.nil ?_
      refine W.cond_d rfl (fun h36 => ?_) (fun h36 => ?_)
      · refine W.regS (SR.q' (r_mv (v := .slice _ _ _) rfl) <| SR.q' (r_fa fa32_1 rfl) <| SR.q' (r_ld (v := .slice Ax_Away nx_Away cx_Away) sca30 rfl ((hm23).cell rfl)) <| SR.q' (r_mv (v := .int .i64 _) rfl) <| SR.q' (r_ixR tsl30 (hm25) rfl rfl (by omega)) <| SR.q' (r_fa fa106_1 rfl) <| SR.q' (r_ld (v := .int .i64 ((gt x.Away k).Reader)) sca3 rfl ((hm25).cell hx35 rfl)) <| SR.lit (vs := [.int .i64 ((gt x.Away k).Reader)]) (L := ([(gt x.Away k).Reader] : List Int)) (enc := encI) tel38 (fun _ => rfl) rfl rfl rfl (by decide) ?_)
        intro g37 w38 hg39 hk40 hO41
        have hz42 := hk40.size
        have hB43 := hB21.lo hk40
        have hd44 : ¬ A16 = some ⟨g37, 0, none⟩ := fun e' => by have := (hO26).base_le e'; omega
        refine SR.app tel38 rfl rfl ((hO26).lo hk40) ((hO41).rd) (fun _ => rfl) (by omega) (by omega) ?_
        intro A45 c46 w47 hk48 hO49 hN50
        have hz51 := hk48.size
        have hB52 := hB43.step hk48 (fun i_ hi_ e' => by have := (((hO26).lo hk40)).base_le e'; first | omega | (exfalso; omega) | exact e' | exact .inl e' | exact .inr e')
        have hd53 : ¬ A45 = some ⟨g1, 0, none⟩ := fun e' => (hN50 g1 e').elim (fun h => hd28 (h.trans e')) (fun h => by have := ((hm23).lo hk40).lt; omega)
        refine SR.q' (r_as (v := .slice _ _ _) rfl) <| SR.nil ?_
        refine W.regS (SR.q' (r_mv (v := .int .i64 _) rfl) <| SR.q' (r_add rfl rfl (by omega)) <| SR.q' (r_as (v := .int .i64 _) rfl) <| SR.nil ?_)
        refine ⟨(k + 1, A45, n16 + 1, c46), _, rfl, ⟨rfl, rfl, rfl, rfl, rfl, trivial⟩, (show (Lo w w47) ∧ (Blk w47 g1 32 [.slice Ax_Maps nx_Maps cx_Maps, .slice Ax_Away nx_Away cx_Away, .int .i64 x.Bought, .int .i64 x.Dropped, .int .i64 x.Mended]) ∧ (SlR w47 Bx_Maps encLMap 3 Ax_Maps nx_Maps cx_Maps x.Maps) ∧ (SlR w47 Bx_Away encAway 2 Ax_Away nx_Away cx_Away x.Away) ∧ (SlO w47 w.heap.size encI 1 3 A45 (n16 + 1) c46 (selL (ofM r) Away.Reader (x.Away.take (k + 1)))) ∧ (¬ A45 = some ⟨g1, 0, none⟩) ∧ (k + 1 ≤ nx_Away) from ⟨hB52, ((hm23).lo hk40).kp hk48 (fun e' => hd28 e'), ((hm24).lo hk40).kp hk48 (fun b_ hb e' => by have := (((hO26).lo hk40)).base_le e'; omega), ((hm25).lo hk40).kp hk48 (fun b_ hb e' => by have := (((hO26).lo hk40)).base_le e'; omega), (SlO.eqv (hO49) (z_c_spec_l32At_55 x nx_Maps hbdx_Maps hlex_Maps nx_Away hbdx_Away hlex_Away r hp0 k n16 c16 hi27 hl30 hq32 h33 hx35 h36)), hd53, ?_⟩), ?_⟩
        · exact (z_c_spec_l32At_56 x nx_Maps hbdx_Maps hlex_Maps nx_Away hbdx_Away hlex_Away r hp0 k n16 c16 hi27 hl30 hq32 h33 hx35 h36)
        · exact (z_c_spec_l32At_57 x nx_Maps hbdx_Maps hlex_Maps nx_Away hbdx_Away hlex_Away r hp0 k n16 c16 hi27 hl30 hq32 h33 hx35 h36)
      · refine W.skip ?_
        refine W.regS (SR.q' (r_mv (v := .int .i64 _) rfl) <| SR.q' (r_add rfl rfl (by omega)) <| SR.q' (r_as (v := .int .i64 _) rfl) <| SR.nil ?_)
        refine ⟨(k + 1, A16, n16, c16), _, rfl, ⟨rfl, rfl, rfl, rfl, rfl, trivial⟩, (show (Lo w w20) ∧ (Blk w20 g1 32 [.slice Ax_Maps nx_Maps cx_Maps, .slice Ax_Away nx_Away cx_Away, .int .i64 x.Bought, .int .i64 x.Dropped, .int .i64 x.Mended]) ∧ (SlR w20 Bx_Maps encLMap 3 Ax_Maps nx_Maps cx_Maps x.Maps) ∧ (SlR w20 Bx_Away encAway 2 Ax_Away nx_Away cx_Away x.Away) ∧ (SlO w20 w.heap.size encI 1 3 A16 n16 c16 (selL (ofM r) Away.Reader (x.Away.take (k + 1)))) ∧ (¬ A16 = some ⟨g1, 0, none⟩) ∧ (k + 1 ≤ nx_Away) from ⟨hB21, hm23, hm24, hm25, (SlO.eqv (hO26) (z_c_spec_l32At_58 x nx_Maps hbdx_Maps hlex_Maps nx_Away hbdx_Away hlex_Away r hp0 k n16 c16 hi27 hl30 hq32 h33 hx35 h36)), hd28, ?_⟩), ?_⟩
        · exact (z_c_spec_l32At_59 x nx_Maps hbdx_Maps hlex_Maps nx_Away hbdx_Away hlex_Away r hp0 k n16 c16 hi27 hl30 hq32 h33 hx35 h36)
        · exact (z_c_spec_l32At_60 x nx_Maps hbdx_Maps hlex_Maps nx_Away hbdx_Away hlex_Away r hp0 k n16 c16 hi27 hl30 hq32 h33 hx35 h36)
    · refine W.exit (xin_here ?_)
      refine W.seq ?_
      refine W.regS (SR.q' (r_mv (v := .slice _ _ _) rfl) <| SR.q' (r_as (v := .slice _ _ _) rfl) <| SR.nil ?_)
      refine W.ret ?_
      refine ret1 rfl (v := .slice _ _ _) rfl ?_
      exact ⟨A16, n16, c16, eR rfl, (SlO.eqv ((hO26).down (by omega)) (z_c_spec_l32At_61 x nx_Maps hbdx_Maps hlex_Maps nx_Away hbdx_Away hlex_Away r hp0 k n16 c16 hi27 hl30 hq32 h33)), hB21⟩

theorem c_impl_text (w : World) (n : Int) (hp0 : -9223372036854775808 ≤ n ∧ n ≤ 9223372036854775807) (hE : EnvW w) : Calls Tryd.prog 49 #[.int .i64 n] w fun e w' => e = .returned (str (Lib.itoa n)) ∧ Lo w w' := by
  refine calls_W 5 Tryd.func49 rfl rfl rfl ?_
  refine W.seq ?_
  refine W.regS (SR.q' (r_as (v := str ([] : List UInt8)) rfl) <| SR.nil ?_)
  refine W.seq ?_
  refine W.regS (SR.q' (r_mv (v := .int .i64 _) rfl) <| SR.call ent92 (c_strconv_Itoa w n (by omega) (hE.lo ((Lo.refl w)))) rfl ?_)
  rintro e w1 ⟨rfl, hk2⟩
  refine ⟨_, rfl, ?_⟩
  have hz3 := hk2.size
  have hB4 := (Lo.refl w).lo hk2
  have hq5 : (Lib.itoa n).length ≤ 21 := itoa_len (n := n) (by omega) (by omega)
  refine SR.q' (r_as (v := str _) rfl) <| SR.nil ?_
  refine W.ret ?_
  refine ret1 rfl (v := str _) rfl ?_
  exact ⟨eR rfl, hB4⟩
end Go.Proofs.YtlpapeeaghmjpaaDoor
