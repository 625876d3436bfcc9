/- Walks, printed by a program of this claim's author. -/
import Derived.Test.YtmigipacjadpeaaChecked
import Derived.Test.YtmigipacjadpeaaLa
import Derived.Test.YtmigipacjadpeaaLb
import Derived.Test.YtmigipacjadpeaaFo
import Derived.Test.YtmigipacjadpeaaFs
import Derived.Test.YtmigipacjadpeaaFq
import Derived.Test.YtmigipacjadpeaaFp
import Derived.Test.YtmigipacjadpeaaFu
import Derived.Test.YtmigipacjadpeaaFt
import Derived.Test.YtmigipacjadpeaaLd
import Derived.Test.YtmigipacjadpeaaG31t
namespace Go.Proofs.Ytmigipacjadpeaa
open Go Go.RowKit Fw
set_option maxRecDepth 10000
set_option linter.unusedVariables false
theorem ent21 : Ent Try.prog 21 := ent_of Try.func21 (by decide +kernel) rfl

theorem z_c_spec_MedianLent_14 (L : List LibRow) (nL : Nat) (hbdL : (nL : Int) ≤ 9223372036854775807) (hleL : nL = L.length) (h13 : (¬ (RowsOK L)) ∨ ((nL : Int) = 0)) : 0 = medL L := by
  subst hleL
  first | exact (med_no ‹_›).symm | exact med_yes ‹RowsOK L› (by omega) (by omega) ‹_› (by omega)
theorem z_c_spec_MedianLent_15 (L : List LibRow) (nL : Nat) (hbdL : (nL : Int) ≤ 9223372036854775807) (hleL : nL = L.length) (h13 : (¬ (RowsOK L)) ∨ ((nL : Int) = 0)) : ¬ (RowsOK L ∧ 0 < L.length) := by
  subst hleL
  first | (intro hh; rcases ‹_ ∨ _› with h | h; exact h hh.1; omega) | exact ⟨‹RowsOK L›, by omega⟩
theorem z_c_spec_MedianLent_27 (L : List LibRow) (nL : Nat) (hbdL : (nL : Int) ≤ 9223372036854775807) (hleL : nL = L.length) (h13 : ¬ ((¬ (RowsOK L)) ∨ ((nL : Int) = 0))) (hq16 : RowsOK L) (hq17 : ¬ ((nL : Int) = 0)) (hq18 : L.length ≤ 12) : 0 ≤ nL := by
  omega
theorem z_c_spec_MedianLent_28 (L : List LibRow) (nL : Nat) (hbdL : (nL : Int) ≤ 9223372036854775807) (hleL : nL = L.length) (h13 : ¬ ((¬ (RowsOK L)) ∨ ((nL : Int) = 0))) (hq16 : RowsOK L) (hq17 : ¬ ((nL : Int) = 0)) (hq18 : L.length ≤ 12) : ([] : List Int) = sortI (lents L 0) := by
  simp [lents, sortI]
theorem z_c_spec_MedianLent_41 (L : List LibRow) (nL : Nat) (hbdL : (nL : Int) ≤ 9223372036854775807) (hleL : nL = L.length) (h13 : ¬ ((¬ (RowsOK L)) ∨ ((nL : Int) = 0))) (hq16 : RowsOK L) (hq17 : ¬ ((nL : Int) = 0)) (hq18 : L.length ≤ 12) (k : Nat) (n26 : Nat) (c26 : Nat) (hi35 : k ≤ nL) (hl36 : n26 = (sortI (lents L k)).length) (hq38 : (sortI (lents L k)).length ≤ L.length) (hq39 : (sortI (lents L k)).length = k) (h40 : (k : Int) < (nL : Int)) : n26 ≤ (sortI (lents L k)).length ∧ ∀ x ∈ (sortI (lents L k)).drop n26, (gt L k).Lent < x := by
  refine ⟨by omega, ?_⟩
  rw [List.drop_of_length_le (by omega)]; simp
theorem z_c_spec_MedianLent_69 (L : List LibRow) (nL : Nat) (hbdL : (nL : Int) ≤ 9223372036854775807) (hleL : nL = L.length) (h13 : ¬ ((¬ (RowsOK L)) ∨ ((nL : Int) = 0))) (hq16 : RowsOK L) (hq17 : ¬ ((nL : Int) = 0)) (hq18 : L.length ≤ 12) (k : Nat) (n26 : Nat) (c26 : Nat) (hi35 : k ≤ nL) (hl36 : n26 = (sortI (lents L k)).length) (hq38 : (sortI (lents L k)).length ≤ L.length) (hq39 : (sortI (lents L k)).length = k) (h40 : (k : Int) < (nL : Int)) (j : Nat) (hi48 : j ≤ (sortI (lents L k)).length ∧ ∀ x ∈ (sortI (lents L k)).drop j, (gt L k).Lent < x) (h66 : (0 < (j : Int)) ∧ (((gt L k).Lent) < (gt (sortI (lents L k)) (j - 1)))) (hq67 : 0 < (j : Int)) (hq68 : ((gt L k).Lent) < (gt (sortI (lents L k)) (j - 1))) : j - 1 ≤ (sortI (lents L k)).length ∧ ∀ x ∈ (sortI (lents L k)).drop (j - 1), (gt L k).Lent < x := by
  have hh := ‹j ≤ _ ∧ ∀ x ∈ _, _ < x›
  exact ⟨by omega, med_down (by omega) hh.1 hh.2 (And.right ‹_ ∧ _ < gt _ _›)⟩
theorem z_c_spec_MedianLent_70 (L : List LibRow) (nL : Nat) (hbdL : (nL : Int) ≤ 9223372036854775807) (hleL : nL = L.length) (h13 : ¬ ((¬ (RowsOK L)) ∨ ((nL : Int) = 0))) (hq16 : RowsOK L) (hq17 : ¬ ((nL : Int) = 0)) (hq18 : L.length ≤ 12) (k : Nat) (n26 : Nat) (c26 : Nat) (hi35 : k ≤ nL) (hl36 : n26 = (sortI (lents L k)).length) (hq38 : (sortI (lents L k)).length ≤ L.length) (hq39 : (sortI (lents L k)).length = k) (h40 : (k : Int) < (nL : Int)) (j : Nat) (hi48 : j ≤ (sortI (lents L k)).length ∧ ∀ x ∈ (sortI (lents L k)).drop j, (gt L k).Lent < x) (h66 : (0 < (j : Int)) ∧ (((gt L k).Lent) < (gt (sortI (lents L k)) (j - 1)))) (hq67 : 0 < (j : Int)) (hq68 : ((gt L k).Lent) < (gt (sortI (lents L k)) (j - 1))) : (j - 1) < j := by
  omega
theorem z_c_spec_MedianLent_246 (L : List LibRow) (nL : Nat) (hbdL : (nL : Int) ≤ 9223372036854775807) (hleL : nL = L.length) (h13 : ¬ ((¬ (RowsOK L)) ∨ ((nL : Int) = 0))) (hq16 : RowsOK L) (hq17 : ¬ ((nL : Int) = 0)) (hq18 : L.length ≤ 12) (k : Nat) (n26 : Nat) (c26 : Nat) (hi35 : k ≤ nL) (hl36 : n26 = (sortI (lents L k)).length) (hq38 : (sortI (lents L k)).length ≤ L.length) (hq39 : (sortI (lents L k)).length = k) (h40 : (k : Int) < (nL : Int)) (j : Nat) (hi48 : j ≤ (sortI (lents L k)).length ∧ ∀ x ∈ (sortI (lents L k)).drop j, (gt L k).Lent < x) (h66 : ¬ ((0 < (j : Int)) ∧ (((gt L k).Lent) < (gt (sortI (lents L k)) (j - 1))))) (hx76 : L[k]? = some (gt L k)) (hq77 : ((1 : Int) ≤ (gt L k).Month ∧ (gt L k).Month ≤ 1200) ∧ ((0 : Int) ≤ (gt L k).Lent ∧ (gt L k).Lent ≤ 9999) ∧ ((0 : Int) ≤ (gt L k).Copied ∧ (gt L k).Copied ≤ 9999) ∧ ((0 : Int) ≤ (gt L k).Given ∧ (gt L k).Given ≤ 999) ∧ ((0 : Int) ≤ (gt L k).Fines ∧ (gt L k).Fines ≤ 99999)) : (((sortI (lents L k)).take j) ++ ([(gt L k).Lent] : List Int)) ++ ((sortI (lents L k)).drop j) = sortI (lents L (k + 1)) := by
  subst hleL
  have hh := ‹j ≤ _ ∧ ∀ x ∈ _, _ < x›
  try simp only [Int.toNat_natCast, List.nil_append]
  exact med_ins (by omega) hh.1 hh.2 ‹¬ (_ ∧ _)›
theorem z_c_spec_MedianLent_247 (L : List LibRow) (nL : Nat) (hbdL : (nL : Int) ≤ 9223372036854775807) (hleL : nL = L.length) (h13 : ¬ ((¬ (RowsOK L)) ∨ ((nL : Int) = 0))) (hq16 : RowsOK L) (hq17 : ¬ ((nL : Int) = 0)) (hq18 : L.length ≤ 12) (k : Nat) (n26 : Nat) (c26 : Nat) (hi35 : k ≤ nL) (hl36 : n26 = (sortI (lents L k)).length) (hq38 : (sortI (lents L k)).length ≤ L.length) (hq39 : (sortI (lents L k)).length = k) (h40 : (k : Int) < (nL : Int)) (j : Nat) (hi48 : j ≤ (sortI (lents L k)).length ∧ ∀ x ∈ (sortI (lents L k)).drop j, (gt L k).Lent < x) (h66 : ¬ ((0 < (j : Int)) ∧ (((gt L k).Lent) < (gt (sortI (lents L k)) (j - 1))))) (hx76 : L[k]? = some (gt L k)) (hq77 : ((1 : Int) ≤ (gt L k).Month ∧ (gt L k).Month ≤ 1200) ∧ ((0 : Int) ≤ (gt L k).Lent ∧ (gt L k).Lent ≤ 9999) ∧ ((0 : Int) ≤ (gt L k).Copied ∧ (gt L k).Copied ≤ 9999) ∧ ((0 : Int) ≤ (gt L k).Given ∧ (gt L k).Given ≤ 999) ∧ ((0 : Int) ≤ (gt L k).Fines ∧ (gt L k).Fines ≤ 99999)) : k + 1 ≤ nL := by
  omega
theorem z_c_spec_MedianLent_248 (L : List LibRow) (nL : Nat) (hbdL : (nL : Int) ≤ 9223372036854775807) (hleL : nL = L.length) (h13 : ¬ ((¬ (RowsOK L)) ∨ ((nL : Int) = 0))) (hq16 : RowsOK L) (hq17 : ¬ ((nL : Int) = 0)) (hq18 : L.length ≤ 12) (k : Nat) (n26 : Nat) (c26 : Nat) (hi35 : k ≤ nL) (hl36 : n26 = (sortI (lents L k)).length) (hq38 : (sortI (lents L k)).length ≤ L.length) (hq39 : (sortI (lents L k)).length = k) (h40 : (k : Int) < (nL : Int)) (j : Nat) (hi48 : j ≤ (sortI (lents L k)).length ∧ ∀ x ∈ (sortI (lents L k)).drop j, (gt L k).Lent < x) (h66 : ¬ ((0 < (j : Int)) ∧ (((gt L k).Lent) < (gt (sortI (lents L k)) (j - 1))))) (hx76 : L[k]? = some (gt L k)) (hq77 : ((1 : Int) ≤ (gt L k).Month ∧ (gt L k).Month ≤ 1200) ∧ ((0 : Int) ≤ (gt L k).Lent ∧ (gt L k).Lent ≤ 9999) ∧ ((0 : Int) ≤ (gt L k).Copied ∧ (gt L k).Copied ≤ 9999) ∧ ((0 : Int) ≤ (gt L k).Given ∧ (gt L k).Given ≤ 999) ∧ ((0 : Int) ≤ (gt L k).Fines ∧ (gt L k).Fines ≤ 99999)) : nL - (k + 1) < nL - k := by
  omega
theorem z_c_spec_MedianLent_251 (L : List LibRow) (nL : Nat) (hbdL : (nL : Int) ≤ 9223372036854775807) (hleL : nL = L.length) (h13 : ¬ ((¬ (RowsOK L)) ∨ ((nL : Int) = 0))) (hq16 : RowsOK L) (hq17 : ¬ ((nL : Int) = 0)) (hq18 : L.length ≤ 12) (k : Nat) (n26 : Nat) (c26 : Nat) (hi35 : k ≤ nL) (hl36 : n26 = (sortI (lents L k)).length) (hq38 : (sortI (lents L k)).length ≤ L.length) (hq39 : (sortI (lents L k)).length = k) (h40 : ¬ ((k : Int) < (nL : Int))) (hx250 : (sortI (lents L k))[(((n26 : Int) - 1) / 2).toNat]? = some (gt (sortI (lents L k)) ((((n26 : Int) - 1) / 2).toNat))) : (gt (sortI (lents L k)) ((((n26 : Int) - 1) / 2).toNat)) = medL L := by
  subst hleL
  first | exact (med_no ‹_›).symm | exact med_yes ‹RowsOK L› (by omega) (by omega) ‹_› (by omega)
theorem z_c_spec_MedianLent_252 (L : List LibRow) (nL : Nat) (hbdL : (nL : Int) ≤ 9223372036854775807) (hleL : nL = L.length) (h13 : ¬ ((¬ (RowsOK L)) ∨ ((nL : Int) = 0))) (hq16 : RowsOK L) (hq17 : ¬ ((nL : Int) = 0)) (hq18 : L.length ≤ 12) (k : Nat) (n26 : Nat) (c26 : Nat) (hi35 : k ≤ nL) (hl36 : n26 = (sortI (lents L k)).length) (hq38 : (sortI (lents L k)).length ≤ L.length) (hq39 : (sortI (lents L k)).length = k) (h40 : ¬ ((k : Int) < (nL : Int))) (hx250 : (sortI (lents L k))[(((n26 : Int) - 1) / 2).toNat]? = some (gt (sortI (lents L k)) ((((n26 : Int) - 1) / 2).toNat))) : RowsOK L ∧ 0 < L.length := by
  subst hleL
  first | (intro hh; rcases ‹_ ∨ _› with h | h; exact h hh.1; omega) | exact ⟨‹RowsOK L›, by omega⟩
theorem c_spec_MedianLent (w : World) {AL : Option Addr} {nL cL BL : Nat}  (L : List LibRow) (hL : SlR w BL encLibRow 5 AL nL cL L) : Calls Try.prog 7 #[.slice AL nL cL] w fun e w' => e = .returned (.tuple (List.toArray [.int .i64 (medL L), .bool (decide (RowsOK L ∧ 0 < L.length))])) ∧ Lo w w' := by
  refine calls_W 64 Try.func7 rfl rfl rfl ?_
  have hbdL := hL.bound
  have hleL := hL.len
  have hBbL := hL.bd
  refine W.seq ?_
  refine W.regS (SR.q' (r_as (v := .int .i64 0) rfl) <| SR.q' (r_as (v := .bool false) rfl) <| SR.nil ?_)
  refine W.seq ?_
  refine W.seq ?_
  refine W.regJS (fun f' w' => At f' [(0, .slice AL nL cL), (2, .int .i64 0), (3, .bool false), (14, .bool (decide ((¬ (RowsOK L)) ∨ ((nL : Int) = 0))))] ∧ Lo w w') ?_ ?_
  · refine SR.q' (r_mv (v := .slice _ _ _) rfl) <| SR.call ent22 (c_spec_l31Good w L ((hL))) rfl ?_
    rintro e w1 ⟨rfl, hk2⟩
    refine ⟨_, rfl, ?_⟩
    have hz3 := hk2.size
    have hB4 := (Lo.refl w).lo hk2
    refine SR.q' (r_not rfl) <| SR.q' (r_mv (v := .bool _) rfl) <| SR.splitN (fun h5 => ?_) (fun h5 => ?_)
    · refine SR.s' rfl <| SR.s' rfl <| SR.s' rfl <| SR.q' (r_pick true rfl (v := .bool true) rfl) <| SR.nil ?_
      exact ⟨_, rfl, ⟨⟨rfl, rfl, rfl, (eDT ((jmf h5).1 trivial)), trivial⟩, (hk2)⟩⟩
    · have hq6 := rows_len h5
      refine SR.g' rfl (r_mv (v := .slice _ _ _) rfl) <| SR.g' rfl (r_len und24 rfl) <| SR.g' rfl (r_eq rfl rfl) <| SR.q' (r_pick false rfl (v := .bool _) rfl) <| SR.nil ?_
      exact ⟨_, rfl, ⟨⟨rfl, rfl, rfl, (eDD (jmt h5)), trivial⟩, (hk2)⟩⟩
  rintro f7 w8 ⟨hat9, hk10⟩
  rw [← sets_of_at hat9]
  have hz11 := hk10.size
  have hB12 := (Lo.refl w).lo hk10
  refine W.cond_d rfl (fun h13 => ?_) (fun h13 => ?_)
  · refine W.seq ?_
    refine W.regS (SR.q' (r_as (v := .int .i64 0) rfl) <| SR.q' (r_as (v := .bool false) rfl) <| SR.nil ?_)
    refine W.ret ?_
    refine ret2 rfl (v := .int .i64 _) (v' := .bool _) rfl rfl ?_
    exact ⟨eR (eT2 (eI (z_c_spec_MedianLent_14 L nL hbdL hleL h13)) (eDF (z_c_spec_MedianLent_15 L nL hbdL hleL h13))), hB12⟩
  · have hq16 : RowsOK L := (Classical.not_not.1 (not_or.1 h13).1)
    have hq17 : ¬ ((nL : Int) = 0) := (not_or.1 h13).2
    have hq18 := rows_len hq16
    refine W.skip ?_
    refine W.seq ?_
    refine W.regS (SR.lit (vs := []) (L := ([] : List Int)) (enc := encI) tel32 (fun _ => rfl) rfl rfl rfl (by decide) ?_)
    intro g19 w20 hg21 hk22 hO23
    have hz24 := hk22.size
    have hB25 := hB12.lo hk22
    refine SR.q' (r_as (v := .slice _ _ _) rfl) <| SR.nil ?_
    refine W.seq ?_
    refine W.seq ?_
    refine W.regS (SR.q' (r_as (v := .int .i64 0) rfl) <| SR.nil ?_)
    refine W.block ?_
    refine W.loop (σ := Nat × (Option Addr) × Nat × Nat) (fun g => [(0, .slice AL nL cL), (2, .int .i64 0), (3, .bool false), (4, .slice g.2.1 g.2.2.1 g.2.2.2), (5, .int .i64 (g.1 : Int))]) (fun g w' => (Lo w w') ∧ (SlR w' BL encLibRow 5 AL nL cL L) ∧ (SlO w' w.heap.size encI 1 3 g.2.1 g.2.2.1 g.2.2.2 (sortI (lents L g.1))) ∧ (g.1 ≤ nL)) (fun g => nL - g.1) (0, (some (⟨g19, 0, none⟩ : Addr)), 0, 0) ?_ ?_ ?_
    · exact ⟨rfl, rfl, rfl, rfl, rfl, trivial⟩
    · exact ⟨hB25, ((hL).lo hk10).lo hk22, (SlO.eqv ((hO23).down (by omega)) (z_c_spec_MedianLent_28 L nL hbdL hleL h13 hq16 hq17 hq18)), (z_c_spec_MedianLent_27 L nL hbdL hleL h13 hq16 hq17 hq18)⟩
    · rintro ⟨k, A26, n26, c26⟩ f29 w30 hP32
      obtain ⟨hB31, hm33, hO34, hi35⟩ : (Lo w w30) ∧ (SlR w30 BL encLibRow 5 AL nL cL L) ∧ (SlO w30 w.heap.size encI 1 3 A26 n26 c26 (sortI (lents L k))) ∧ (k ≤ nL) := hP32
      refine (?_ : W _ _ _ _ _ (act _ (sets f29 [(0, .slice AL nL cL), (2, .int .i64 0), (3, .bool false), (4, .slice A26 n26 c26), (5, .int .i64 (k : Int))])) _)
      have hzw30 := hB31.size
      have hl36 := hO34.len
      have hl37 := hO34.rd.bound
      have hq38 := sl_len L k
      have hq39 : (sortI (lents L k)).length = k := sl_leq (by omega)
      refine W.seq ?_
      refine W.seq ?_
      refine W.regS (SR.q' (r_mv (v := .int .i64 _) rfl) <| SR.q' (r_mv (v := .slice _ _ _) rfl) <| SR.q' (r_len und24 rfl) <| SR.q' (r_lt rfl rfl) <| SR.nil ?_)
      refine W.cond_d rfl (fun h40 => ?_) (fun h40 => ?_)
      · refine W.skip ?_
        refine W.seq ?_
        refine W.block ?_
        refine W.seq ?_
        refine W.regS (SR.q' (r_mv (v := .slice _ _ _) rfl) <| SR.q' (r_len und32 rfl) <| SR.q' (r_as (v := .int .i64 _) rfl) <| SR.nil ?_)
        refine W.seq ?_
        refine W.block ?_
        refine W.loop (σ := Nat) (fun g => [(0, .slice AL nL cL), (2, .int .i64 0), (3, .bool false), (4, .slice A26 n26 c26), (5, .int .i64 (k : Int)), (6, .int .i64 (g : Int))]) (fun g w' => (Lo w w') ∧ (SlR w' BL encLibRow 5 AL nL cL L) ∧ (SlO w' w.heap.size encI 1 3 A26 n26 c26 (sortI (lents L k))) ∧ (g ≤ (sortI (lents L k)).length ∧ ∀ x ∈ (sortI (lents L k)).drop g, (gt L k).Lent < x)) (fun g => g) n26 ?_ ?_ ?_
        · exact ⟨rfl, rfl, rfl, rfl, rfl, rfl, trivial⟩
        · exact ⟨hB31, hm33, hO34, (z_c_spec_MedianLent_41 L nL hbdL hleL h13 hq16 hq17 hq18 k n26 c26 hi35 hl36 hq38 hq39 h40)⟩
        · rintro j f42 w43 hP45
          obtain ⟨hB44, hm46, hm47, hi48⟩ : (Lo w w43) ∧ (SlR w43 BL encLibRow 5 AL nL cL L) ∧ (SlO w43 w.heap.size encI 1 3 A26 n26 c26 (sortI (lents L k))) ∧ (j ≤ (sortI (lents L k)).length ∧ ∀ x ∈ (sortI (lents L k)).drop j, (gt L k).Lent < x) := hP45
          refine (?_ : W _ _ _ _ _ (act _ (sets f42 [(0, .slice AL nL cL), (2, .int .i64 0), (3, .bool false), (4, .slice A26 n26 c26), (5, .int .i64 (k : Int)), (6, .int .i64 (j : Int))])) _)
          have hzw43 := hB44.size
          refine W.seq ?_
          refine W.seq ?_
          refine W.regJD mo (by kernel_rfl) (fun f' w' => At f' [(0, .slice AL nL cL), (2, .int .i64 0), (3, .bool false), (4, .slice A26 n26 c26), (5, .int .i64 (k : Int)), (6, .int .i64 (j : Int)), (38, .bool (decide ((0 < (j : Int)) ∧ (((gt L k).Lent) < (gt (sortI (lents L k)) (j - 1))))))] ∧ Lo w43 w') ?_ ?_
          · refine QR.q' (fun w' hw' => r_mv (v := .int .i64 _) rfl) <| QR.q' (fun w' hw' => r_gt rfl rfl) <| QR.q' (fun w' hw' => r_mv (v := .bool _) rfl) <| QR.splitD (fun h49 => ?_) (fun h49 => ?_)
            · refine QR.g' rfl (fun w' hw' => r_mv (v := .slice _ _ _) rfl) <| QR.g' rfl (fun w' hw' => r_mv (v := .int .i64 _) rfl) <| QR.g' rfl (fun w' hw' => r_sub rfl rfl (by omega)) <| ?_
              have hx51 := ((hm47).rd).elem (i := ((j : Int) - 1).toNat) (by omega)
              rw [show ((j : Int) - 1).toNat = j - 1 from by omega] at hx51
              have hx52 : (sortI (lents L k))[((j : Int) - 1).toNat]? = some (gt (sortI (lents L k)) (j - 1)) := (show ((j : Int) - 1).toNat = j - 1 from by omega) ▸ hx51
              refine QR.g' rfl (fun w' hw' => r_ixR tsl32 (((hm47).lo hw').rd) rfl rfl (by omega)) <| QR.g' rfl (fun w' hw' => r_ld (v := .int .i64 (gt (sortI (lents L k)) (j - 1))) sca3 rfl ((((hm47).lo hw').rd).cell0 hx52 rfl)) <| QR.g' rfl (fun w' hw' => r_mv (v := .slice _ _ _) rfl) <| QR.g' rfl (fun w' hw' => r_mv (v := .int .i64 _) rfl) <| ?_
              have hx54 := (hm46).elem (i := k) (by omega)
              have hq55 := rows_rng hq16 hx54
              refine QR.g' rfl (fun w' hw' => r_ixR tsl24 (((hm46).lo hw')) rfl rfl (by omega)) <| QR.g' rfl (fun w' hw' => r_fa fa29_1 rfl) <| QR.g' rfl (fun w' hw' => r_ld (v := .int .i64 ((gt L k).Lent)) sca3 rfl ((((hm46).lo hw')).cell hx54 rfl)) <| QR.g' rfl (fun w' hw' => r_gt rfl rfl) <| QR.q' (fun w' hw' => r_pick true rfl (v := .bool _) rfl) <| QR.nil ?_
              intro w56 hk57
              exact ⟨⟨rfl, rfl, rfl, rfl, rfl, rfl, (eDD (jat h49)), trivial⟩, hk57⟩
            · refine QR.s' rfl <| QR.s' rfl <| QR.s' rfl <| QR.s' rfl <| QR.s' rfl <| QR.s' rfl <| QR.s' rfl <| QR.s' rfl <| QR.s' rfl <| QR.s' rfl <| QR.s' rfl <| QR.q' (fun w' hw' => r_pick false rfl (v := .bool false) rfl) <| QR.nil ?_
              intro w58 hk59
              exact ⟨⟨rfl, rfl, rfl, rfl, rfl, rfl, (eDF (jaf h49).2), trivial⟩, hk59⟩
          rintro f60 w61 ⟨hat62, hk63⟩
          rw [← sets_of_at hat62]
          have hz64 := hk63.size
          have hB65 := hB44.lo hk63
          refine W.cond_d rfl (fun h66 => ?_) (fun h66 => ?_)
          · have hq67 : 0 < (j : Int) := h66.1
            have hq68 : ((gt L k).Lent) < (gt (sortI (lents L k)) (j - 1)) := h66.2
            refine W.skip ?_
            refine W.block ?_
            refine W.regS (SR.q' (r_mv (v := .int .i64 _) rfl) <| SR.q' (r_sub rfl rfl (by omega)) <| SR.q' (r_as (v := .int .i64 _) rfl) <| SR.nil ?_)
            refine ⟨j - 1, _, rfl, ⟨rfl, rfl, rfl, rfl, rfl, (eI (by first | omega | (dsimp only; omega))), trivial⟩, ⟨hB65, (hm46).lo hk63, (hm47).lo hk63, ?_⟩, ?_⟩
            · exact (z_c_spec_MedianLent_69 L nL hbdL hleL h13 hq16 hq17 hq18 k n26 c26 hi35 hl36 hq38 hq39 h40 j hi48 h66 hq67 hq68)
            · exact (z_c_spec_MedianLent_70 L nL hbdL hleL h13 hq16 hq17 hq18 k n26 c26 hi35 hl36 hq38 hq39 h40 j hi48 h66 hq67 hq68)
          · refine W.exit (xin_here ?_)
            refine W.regA (Lo w61) (fun f' w' => ∃ (g78 : Nat), ∃ (g98 : Nat), ∃ (A108 : Option Addr), ∃ (c109 : Nat), ∃ (A120 : Option Addr), ∃ (c121 : Nat), ∃ (A87 : Option Addr), ∃ (c88 : Nat), At f' [(0, .slice AL nL cL), (2, .int .i64 0), (3, .bool false), (4, .slice A120 (((0 + j) + 1) + (n26 - j)) c121), (5, .int .i64 (k : Int))] ∧ (Lo w61 w') ∧ (SlO w' w61.heap.size encI 1 3 A120 (((0 + j) + 1) + (n26 - j)) c121 ((((sortI (lents L k)).take j) ++ ([(gt L k).Lent] : List Int)) ++ ((sortI (lents L k)).drop j))) ∧ (∀ b_, A120 = some ⟨b_, 0, none⟩ → ¬ A26 = some ⟨b_, 0, none⟩) ∧ (∀ b_, A120 = some ⟨b_, 0, none⟩ → ¬ A26 = some ⟨b_, 0, none⟩) ∧ (L[k]? = some (gt L k)) ∧ (((1 : Int) ≤ (gt L k).Month ∧ (gt L k).Month ≤ 1200) ∧ ((0 : Int) ≤ (gt L k).Lent ∧ (gt L k).Lent ≤ 9999) ∧ ((0 : Int) ≤ (gt L k).Copied ∧ (gt L k).Copied ≤ 9999) ∧ ((0 : Int) ≤ (gt L k).Given ∧ (gt L k).Given ≤ 999) ∧ ((0 : Int) ≤ (gt L k).Fines ∧ (gt L k).Fines ≤ 99999))) mo ?_ ?_
            · intro w71 hk72
              have hz73 := hk72.size
              have hB74 := hB65.lo hk72
              refine AH.take 1 rfl (by kernel_rfl) trivial (hk72) (fun w' hw' => r_mv (v := .slice _ _ _) rfl) <| AH.take 2 rfl (by kernel_rfl) trivial (hk72) (fun w' hw' => r_mv (v := .int .i64 _) rfl) <| AH.take 3 rfl (by kernel_rfl) trivial (hk72) (fun w' hw' => r_cuth (h := j) tsl32 rfl rfl rfl (Nat.le_trans (by omega : j ≤ n26) ((hm47).lo hk63).rd.cap)) <| AH.take 5 rfl (by kernel_rfl) trivial (hk72) (fun w' hw' => r_mv (v := .slice _ _ _) rfl) <| AH.take 6 rfl (by kernel_rfl) trivial (hk72) (fun w' hw' => r_mv (v := .int .i64 _) rfl) <| ?_
              have hx76 := (((hm46).lo hk63).lo hk72).elem (i := k) (by omega)
              have hq77 := rows_rng hq16 hx76
              refine AH.take 7 rfl (by kernel_rfl) trivial (hk72) (fun w' hw' => r_ixR tsl24 ((((hm46).lo hk63).lo hw')) rfl rfl (by omega)) <| AH.take 8 rfl (by kernel_rfl) trivial (hk72) (fun w' hw' => r_fa fa29_1 rfl) <| AH.take 9 rfl (by kernel_rfl) trivial (hk72) (fun w' hw' => r_ld (v := .int .i64 ((gt L k).Lent)) sca3 rfl (((((hm46).lo hk63).lo hw')).cell hx76 rfl)) <| AH.take 12 rfl (by kernel_rfl) trivial (hk72) (fun w' hw' => r_mv (v := .slice _ _ _) rfl) <| AH.take 13 rfl (by kernel_rfl) trivial (hk72) (fun w' hw' => r_mv (v := .int .i64 _) rfl) <| AH.take 14 rfl (by kernel_rfl) trivial (hk72) (fun w' hw' => r_cutl (l := j) tsl32 rfl rfl rfl (by omega)) <| AH.br [0, 10] (by kernel_rfl) rfl ⟨Br.mk' rfl trivial ?_, Br.mk' rfl trivial ?_, trivial⟩
              · refine SR.lit (vs := []) (L := ([] : List Int)) (enc := encI) tel32 (fun _ => rfl) rfl rfl rfl (by decide) ?_
                intro g78 w79 hg80 hk81 hO82
                have hz83 := hk81.size
                have hB84 := hB74.lo hk81
                have hS85 := (hk72).lo hk81
                have hd86 : ¬ A26 = some ⟨g78, 0, none⟩ := fun e' => by have := (((hm47).lo hk63).lo hk72).base_le e'; omega
                refine SR.nil ⟨hS85, _, rfl, ?_⟩
                refine AH.br [4, 10] (by kernel_rfl) rfl ⟨Br.mk' rfl trivial ?_, Br.mk' rfl trivial ?_, trivial⟩
                · refine SR.app tel32 rfl rfl (hO82) ((((((hm47).lo hk63).head (h := j) (by omega)).lo hk72).lo hk81).rd) (fun _ => rfl) (by omega) (by omega) ?_
                  intro A87 c88 w89 hk90 hO91 hN92
                  have hz93 := hk90.size
                  have hB94 := hB84.step hk90 (fun i_ hi_ e' => by have := ((hO82)).base_le e'; first | omega | (exfalso; omega) | exact e' | exact .inl e' | exact .inr e')
                  have hS95 := (hS85).step hk90 (fun i_ hi_ e' => by have := ((hO82)).base_le e'; exfalso; omega)
                  rw [List.nil_append] at hO91
                  refine SR.nil ⟨hS95, _, rfl, ?_⟩
                  refine AH.br [10] (by kernel_rfl) rfl ⟨Br.mk' rfl trivial ?_, trivial⟩
                  refine SR.lit (vs := [.int .i64 ((gt L k).Lent)]) (L := ([(gt L k).Lent] : List Int)) (enc := encI) tel32 (fun _ => rfl) rfl rfl rfl (by decide) ?_
                  intro g98 w99 hg100 hk101 hO102
                  have hz103 := hk101.size
                  have hB104 := hB94.lo hk101
                  have hS105 := (hS95).lo hk101
                  have hd106 : ¬ A26 = some ⟨g98, 0, none⟩ := fun e' => by have := (((((hm47).lo hk63).lo hk72).lo hk81).kp hk90 (fun b_ hb e' => by have h1 := ((hO82)).base_le e'; have h2 := ((((hm47).lo hk63).lo hk72).lo hk81).base_le hb; have h3 := (((hm47).lo hk63).lo hk72).base_le hb; omega)).base_le e'; omega
                  have hd107 : ¬ A87 = some ⟨g98, 0, none⟩ := fun e' => by have := (hO91).base_le e'; omega
                  refine SR.nil ⟨hS105, _, rfl, ?_⟩
                  refine AH.br [11] (by kernel_rfl) rfl ⟨Br.mk' rfl trivial ?_, trivial⟩
                  refine SR.app tel32 rfl rfl ((hO91).lo hk101) ((hO102).rd) (fun _ => rfl) (by omega) (by omega) ?_
                  intro A108 c109 w110 hk111 hO112 hN113
                  have hz114 := hk111.size
                  have hB115 := hB104.step hk111 (fun i_ hi_ e' => by have := (((hO91).lo hk101)).base_le e'; first | omega | (exfalso; omega) | exact e' | exact .inl e' | exact .inr e')
                  have hS116 := (hS105).step hk111 (fun i_ hi_ e' => by have := (((hO91).lo hk101)).base_le e'; exfalso; omega)
                  refine SR.nil ⟨hS116, _, rfl, ?_⟩
                  refine AH.br [15] (by kernel_rfl) rfl ⟨Br.mk' rfl trivial ?_, trivial⟩
                  refine SR.app tel32 rfl rfl (hO112) ((((((((hm47).lo hk63).rd.cutl (l := j) (by omega)).lo hk72).lo hk81).kp hk90 (fun b_ hb e' => by have := ((hO82)).base_le e'; omega)).lo hk101).kp hk111 (fun b_ hb e' => by have := (((hO91).lo hk101)).base_le e'; omega)) (fun _ => rfl) (by omega) (by omega) ?_
                  intro A120 c121 w122 hk123 hO124 hN125
                  have hz126 := hk123.size
                  have hB127 := hB115.step hk123 (fun i_ hi_ e' => by have := ((hO112)).base_le e'; first | omega | (exfalso; omega) | exact e' | exact .inl e' | exact .inr e')
                  have hS128 := (hS116).step hk123 (fun i_ hi_ e' => by have := ((hO112)).base_le e'; exfalso; omega)
                  refine SR.nil ⟨hS128, _, rfl, ?_⟩
                  refine AH.take 16 rfl (by kernel_rfl) trivial (hS128) (fun w' hw' => r_as (v := .slice _ _ _) rfl) <| AH.done (by kernel_rfl) ?_
                  exact ⟨g78, g98, A108, c109, A120, c121, A87, c88, ⟨rfl, rfl, rfl, rfl, rfl, trivial⟩, hS128, ((hO124).down (by omega)), (fun b_ h h' => by have h1 := (hO124).base_le h; have h2 := (((hm47).lo hk63).lo hk72).base_le h'; omega), (fun b_ h h' => by have h1 := (hO124).base_le h; have h2 := ((((hm47).lo hk63).head (h := j) (by omega)).lo hk72).base_le h'; omega), hx76, hq77⟩
                · refine SR.lit (vs := [.int .i64 ((gt L k).Lent)]) (L := ([(gt L k).Lent] : List Int)) (enc := encI) tel32 (fun _ => rfl) rfl rfl rfl (by decide) ?_
                  intro g135 w136 hg137 hk138 hO139
                  have hz140 := hk138.size
                  have hB141 := hB84.lo hk138
                  have hS142 := (hS85).lo hk138
                  have hd143 : ¬ A26 = some ⟨g135, 0, none⟩ := fun e' => by have := ((((hm47).lo hk63).lo hk72).lo hk81).base_le e'; omega
                  have hd144 : ¬ (some (⟨g78, 0, none⟩ : Addr)) = some ⟨g135, 0, none⟩ := fun e' => by have := (hO82).base_le e'; omega
                  refine SR.nil ⟨hS142, _, rfl, ?_⟩
                  refine AH.br [4] (by kernel_rfl) rfl ⟨Br.mk' rfl trivial ?_, trivial⟩
                  refine SR.app tel32 rfl rfl ((hO82).lo hk138) (((((((hm47).lo hk63).head (h := j) (by omega)).lo hk72).lo hk81).lo hk138).rd) (fun _ => rfl) (by omega) (by omega) ?_
                  intro A145 c146 w147 hk148 hO149 hN150
                  have hz151 := hk148.size
                  have hB152 := hB141.step hk148 (fun i_ hi_ e' => by have := (((hO82).lo hk138)).base_le e'; first | omega | (exfalso; omega) | exact e' | exact .inl e' | exact .inr e')
                  have hS153 := (hS142).step hk148 (fun i_ hi_ e' => by have := (((hO82).lo hk138)).base_le e'; exfalso; omega)
                  rw [List.nil_append] at hO149
                  refine SR.nil ⟨hS153, _, rfl, ?_⟩
                  refine AH.br [11] (by kernel_rfl) rfl ⟨Br.mk' rfl trivial ?_, trivial⟩
                  refine SR.app tel32 rfl rfl (hO149) (((hO139).kp hk148 (fun b_ hb e' => hd144 (hb ▸ e'))).rd) (fun _ => rfl) (by omega) (by omega) ?_
                  intro A157 c158 w159 hk160 hO161 hN162
                  have hz163 := hk160.size
                  have hB164 := hB152.step hk160 (fun i_ hi_ e' => by have := ((hO149)).base_le e'; first | omega | (exfalso; omega) | exact e' | exact .inl e' | exact .inr e')
                  have hS165 := (hS153).step hk160 (fun i_ hi_ e' => by have := ((hO149)).base_le e'; exfalso; omega)
                  refine SR.nil ⟨hS165, _, rfl, ?_⟩
                  refine AH.br [15] (by kernel_rfl) rfl ⟨Br.mk' rfl trivial ?_, trivial⟩
                  refine SR.app tel32 rfl rfl (hO161) ((((((((hm47).lo hk63).rd.cutl (l := j) (by omega)).lo hk72).lo hk81).lo hk138).kp hk148 (fun b_ hb e' => by have := (((hO82).lo hk138)).base_le e'; omega)).kp hk160 (fun b_ hb e' => by have := ((hO149)).base_le e'; omega)) (fun _ => rfl) (by omega) (by omega) ?_
                  intro A169 c170 w171 hk172 hO173 hN174
                  have hz175 := hk172.size
                  have hB176 := hB164.step hk172 (fun i_ hi_ e' => by have := ((hO161)).base_le e'; first | omega | (exfalso; omega) | exact e' | exact .inl e' | exact .inr e')
                  have hS177 := (hS165).step hk172 (fun i_ hi_ e' => by have := ((hO161)).base_le e'; exfalso; omega)
                  refine SR.nil ⟨hS177, _, rfl, ?_⟩
                  refine AH.take 16 rfl (by kernel_rfl) trivial (hS177) (fun w' hw' => r_as (v := .slice _ _ _) rfl) <| AH.done (by kernel_rfl) ?_
                  exact ⟨g78, g135, A157, c158, A169, c170, A145, c146, ⟨rfl, rfl, rfl, rfl, rfl, trivial⟩, hS177, ((hO173).down (by omega)), (fun b_ h h' => by have h1 := (hO173).base_le h; have h2 := (((hm47).lo hk63).lo hk72).base_le h'; omega), (fun b_ h h' => by have h1 := (hO173).base_le h; have h2 := ((((hm47).lo hk63).head (h := j) (by omega)).lo hk72).base_le h'; omega), hx76, hq77⟩
              · refine SR.lit (vs := [.int .i64 ((gt L k).Lent)]) (L := ([(gt L k).Lent] : List Int)) (enc := encI) tel32 (fun _ => rfl) rfl rfl rfl (by decide) ?_
                intro g183 w184 hg185 hk186 hO187
                have hz188 := hk186.size
                have hB189 := hB74.lo hk186
                have hS190 := (hk72).lo hk186
                have hd191 : ¬ A26 = some ⟨g183, 0, none⟩ := fun e' => by have := (((hm47).lo hk63).lo hk72).base_le e'; omega
                refine SR.nil ⟨hS190, _, rfl, ?_⟩
                refine AH.br [0] (by kernel_rfl) rfl ⟨Br.mk' rfl trivial ?_, trivial⟩
                refine SR.lit (vs := []) (L := ([] : List Int)) (enc := encI) tel32 (fun _ => rfl) rfl rfl rfl (by decide) ?_
                intro g192 w193 hg194 hk195 hO196
                have hz197 := hk195.size
                have hB198 := hB189.lo hk195
                have hS199 := (hS190).lo hk195
                have hd200 : ¬ A26 = some ⟨g192, 0, none⟩ := fun e' => by have := ((((hm47).lo hk63).lo hk72).lo hk186).base_le e'; omega
                have hd201 : ¬ (some (⟨g183, 0, none⟩ : Addr)) = some ⟨g192, 0, none⟩ := fun e' => by have := (hO187).base_le e'; omega
                refine SR.nil ⟨hS199, _, rfl, ?_⟩
                refine AH.br [4] (by kernel_rfl) rfl ⟨Br.mk' rfl trivial ?_, trivial⟩
                refine SR.app tel32 rfl rfl (hO196) (((((((hm47).lo hk63).head (h := j) (by omega)).lo hk72).lo hk186).lo hk195).rd) (fun _ => rfl) (by omega) (by omega) ?_
                intro A202 c203 w204 hk205 hO206 hN207
                have hz208 := hk205.size
                have hB209 := hB198.step hk205 (fun i_ hi_ e' => by have := ((hO196)).base_le e'; first | omega | (exfalso; omega) | exact e' | exact .inl e' | exact .inr e')
                have hS210 := (hS199).step hk205 (fun i_ hi_ e' => by have := ((hO196)).base_le e'; exfalso; omega)
                rw [List.nil_append] at hO206
                refine SR.nil ⟨hS210, _, rfl, ?_⟩
                refine AH.br [11] (by kernel_rfl) rfl ⟨Br.mk' rfl trivial ?_, trivial⟩
                refine SR.app tel32 rfl rfl (hO206) ((((hO187).lo hk195).kp hk205 (fun b_ hb e' => by have h1 := ((hO196)).base_le e'; have h2 := ((hO187).lo hk195).base_le hb; have h3 := (hO187).base_le hb; omega)).rd) (fun _ => rfl) (by omega) (by omega) ?_
                intro A214 c215 w216 hk217 hO218 hN219
                have hz220 := hk217.size
                have hB221 := hB209.step hk217 (fun i_ hi_ e' => by have := ((hO206)).base_le e'; first | omega | (exfalso; omega) | exact e' | exact .inl e' | exact .inr e')
                have hS222 := (hS210).step hk217 (fun i_ hi_ e' => by have := ((hO206)).base_le e'; exfalso; omega)
                refine SR.nil ⟨hS222, _, rfl, ?_⟩
                refine AH.br [15] (by kernel_rfl) rfl ⟨Br.mk' rfl trivial ?_, trivial⟩
                refine SR.app tel32 rfl rfl (hO218) ((((((((hm47).lo hk63).rd.cutl (l := j) (by omega)).lo hk72).lo hk186).lo hk195).kp hk205 (fun b_ hb e' => by have := ((hO196)).base_le e'; omega)).kp hk217 (fun b_ hb e' => by have := ((hO206)).base_le e'; omega)) (fun _ => rfl) (by omega) (by omega) ?_
                intro A226 c227 w228 hk229 hO230 hN231
                have hz232 := hk229.size
                have hB233 := hB221.step hk229 (fun i_ hi_ e' => by have := ((hO218)).base_le e'; first | omega | (exfalso; omega) | exact e' | exact .inl e' | exact .inr e')
                have hS234 := (hS222).step hk229 (fun i_ hi_ e' => by have := ((hO218)).base_le e'; exfalso; omega)
                refine SR.nil ⟨hS234, _, rfl, ?_⟩
                refine AH.take 16 rfl (by kernel_rfl) trivial (hS234) (fun w' hw' => r_as (v := .slice _ _ _) rfl) <| AH.done (by kernel_rfl) ?_
                exact ⟨g192, g183, A214, c215, A226, c227, A202, c203, ⟨rfl, rfl, rfl, rfl, rfl, trivial⟩, hS234, ((hO230).down (by omega)), (fun b_ h h' => by have h1 := (hO230).base_le h; have h2 := ((((hm47).lo hk63).lo hk72).lo hk186).base_le h'; omega), (fun b_ h h' => by have h1 := (hO230).base_le h; have h2 := (((((hm47).lo hk63).head (h := j) (by omega)).lo hk72).lo hk186).base_le h'; omega), hx76, hq77⟩
            rintro f240 w241 ⟨g78, g98, A108, c109, A120, c121, A87, c88, hat243, hR242, hm132, hd133, hd134, hx76, hq77⟩
            rw [← sets_of_at hat243]
            have hz244 := hR242.size
            have hB245 := hB65.lo hR242
            refine W.regS (SR.q' (r_mv (v := .int .i64 _) rfl) <| SR.q' (r_add rfl rfl (by omega)) <| SR.q' (r_as (v := .int .i64 _) rfl) <| SR.nil ?_)
            refine ⟨(k + 1, A120, ((0 + j) + 1) + (n26 - j), c121), _, rfl, ⟨rfl, rfl, rfl, rfl, rfl, trivial⟩, ⟨hB245, ((hm46).lo hk63).lo hR242, (SlO.eqv ((hm132).down (by omega)) (z_c_spec_MedianLent_246 L nL hbdL hleL h13 hq16 hq17 hq18 k n26 c26 hi35 hl36 hq38 hq39 h40 j hi48 h66 hx76 hq77)), ?_⟩, ?_⟩
            · exact (z_c_spec_MedianLent_247 L nL hbdL hleL h13 hq16 hq17 hq18 k n26 c26 hi35 hl36 hq38 hq39 h40 j hi48 h66 hx76 hq77)
            · exact (z_c_spec_MedianLent_248 L nL hbdL hleL h13 hq16 hq17 hq18 k n26 c26 hi35 hl36 hq38 hq39 h40 j hi48 h66 hx76 hq77)
      · refine W.exit (xin_here ?_)
        refine W.seq ?_
        refine W.regS (SR.q' (r_mv (v := .slice _ _ _) rfl) <| SR.q' (r_mv (v := .slice _ _ _) rfl) <| SR.q' (r_len und32 rfl) <| SR.q' (r_sub rfl rfl (by omega)) <| SR.q' (r_quo rfl rfl (by omega)) <| ?_)
        have hx250 := ((hO34).rd).elem (i := (((n26 : Int) - 1) / 2).toNat) (by omega)
        refine SR.q' (r_ixR tsl32 ((hO34).rd) rfl rfl (by omega)) <| SR.q' (r_ld (v := .int .i64 (gt (sortI (lents L k)) ((((n26 : Int) - 1) / 2).toNat))) sca3 rfl (((hO34).rd).cell0 hx250 rfl)) <| SR.q' (r_as (v := .int .i64 _) rfl) <| SR.q' (r_as (v := .bool true) rfl) <| SR.nil ?_
        refine W.ret ?_
        refine ret2 rfl (v := .int .i64 _) (v' := .bool _) rfl rfl ?_
        exact ⟨eR (eT2 (eI (z_c_spec_MedianLent_251 L nL hbdL hleL h13 hq16 hq17 hq18 k n26 c26 hi35 hl36 hq38 hq39 h40 hx250)) (eDT (z_c_spec_MedianLent_252 L nL hbdL hleL h13 hq16 hq17 hq18 k n26 c26 hi35 hl36 hq38 hq39 h40 hx250))), hB31⟩

theorem z_c_impl_MedianLent_14 (L : List LibRow) (nL : Nat) (hbdL : (nL : Int) ≤ 9223372036854775807) (hleL : nL = L.length) (h13 : (¬ (RowsOK L)) ∨ ((nL : Int) = 0)) : 0 = medL L := by
  subst hleL
  first | exact (med_no ‹_›).symm | exact med_yes ‹RowsOK L› (by omega) (by omega) ‹_› (by omega)
theorem z_c_impl_MedianLent_15 (L : List LibRow) (nL : Nat) (hbdL : (nL : Int) ≤ 9223372036854775807) (hleL : nL = L.length) (h13 : (¬ (RowsOK L)) ∨ ((nL : Int) = 0)) : ¬ (RowsOK L ∧ 0 < L.length) := by
  subst hleL
  first | (intro hh; rcases ‹_ ∨ _› with h | h; exact h hh.1; omega) | exact ⟨‹RowsOK L›, by omega⟩
theorem z_c_impl_MedianLent_20 (L : List LibRow) (nL : Nat) (hbdL : (nL : Int) ≤ 9223372036854775807) (hleL : nL = L.length) (h13 : ¬ ((¬ (RowsOK L)) ∨ ((nL : Int) = 0))) (hq16 : RowsOK L) (hq17 : ¬ ((nL : Int) = 0)) (hq18 : L.length ≤ 12) : 0 ≤ nL := by
  omega
theorem z_c_impl_MedianLent_21 (L : List LibRow) (nL : Nat) (hbdL : (nL : Int) ≤ 9223372036854775807) (hleL : nL = L.length) (h13 : ¬ ((¬ (RowsOK L)) ∨ ((nL : Int) = 0))) (hq16 : RowsOK L) (hq17 : ¬ ((nL : Int) = 0)) (hq18 : L.length ≤ 12) : ([] : List Int) = lents L 0 := by
  simp [lents]
theorem z_c_impl_MedianLent_70 (L : List LibRow) (nL : Nat) (hbdL : (nL : Int) ≤ 9223372036854775807) (hleL : nL = L.length) (h13 : ¬ ((¬ (RowsOK L)) ∨ ((nL : Int) = 0))) (hq16 : RowsOK L) (hq17 : ¬ ((nL : Int) = 0)) (hq18 : L.length ≤ 12) (k : Nat) (n19 : Nat) (c19 : Nat) (hi28 : k ≤ nL) (hl29 : n19 = (lents L k).length) (hq31 : (lents L k).length ≤ L.length) (hq32 : (lents L k).length = k) (h33 : (k : Int) < (nL : Int)) (hx35 : L[k]? = some (gt L k)) (hq36 : ((1 : Int) ≤ (gt L k).Month ∧ (gt L k).Month ≤ 1200) ∧ ((0 : Int) ≤ (gt L k).Lent ∧ (gt L k).Lent ≤ 9999) ∧ ((0 : Int) ≤ (gt L k).Copied ∧ (gt L k).Copied ≤ 9999) ∧ ((0 : Int) ≤ (gt L k).Given ∧ (gt L k).Given ≤ 999) ∧ ((0 : Int) ≤ (gt L k).Fines ∧ (gt L k).Fines ≤ 99999)) : (lents L k) ++ ([(gt L k).Lent] : List Int) = lents L (k + 1) := by
  exact lents_next (by omega)
theorem z_c_impl_MedianLent_71 (L : List LibRow) (nL : Nat) (hbdL : (nL : Int) ≤ 9223372036854775807) (hleL : nL = L.length) (h13 : ¬ ((¬ (RowsOK L)) ∨ ((nL : Int) = 0))) (hq16 : RowsOK L) (hq17 : ¬ ((nL : Int) = 0)) (hq18 : L.length ≤ 12) (k : Nat) (n19 : Nat) (c19 : Nat) (hi28 : k ≤ nL) (hl29 : n19 = (lents L k).length) (hq31 : (lents L k).length ≤ L.length) (hq32 : (lents L k).length = k) (h33 : (k : Int) < (nL : Int)) (hx35 : L[k]? = some (gt L k)) (hq36 : ((1 : Int) ≤ (gt L k).Month ∧ (gt L k).Month ≤ 1200) ∧ ((0 : Int) ≤ (gt L k).Lent ∧ (gt L k).Lent ≤ 9999) ∧ ((0 : Int) ≤ (gt L k).Copied ∧ (gt L k).Copied ≤ 9999) ∧ ((0 : Int) ≤ (gt L k).Given ∧ (gt L k).Given ≤ 999) ∧ ((0 : Int) ≤ (gt L k).Fines ∧ (gt L k).Fines ≤ 99999)) : k + 1 ≤ nL := by
  omega
theorem z_c_impl_MedianLent_72 (L : List LibRow) (nL : Nat) (hbdL : (nL : Int) ≤ 9223372036854775807) (hleL : nL = L.length) (h13 : ¬ ((¬ (RowsOK L)) ∨ ((nL : Int) = 0))) (hq16 : RowsOK L) (hq17 : ¬ ((nL : Int) = 0)) (hq18 : L.length ≤ 12) (k : Nat) (n19 : Nat) (c19 : Nat) (hi28 : k ≤ nL) (hl29 : n19 = (lents L k).length) (hq31 : (lents L k).length ≤ L.length) (hq32 : (lents L k).length = k) (h33 : (k : Int) < (nL : Int)) (hx35 : L[k]? = some (gt L k)) (hq36 : ((1 : Int) ≤ (gt L k).Month ∧ (gt L k).Month ≤ 1200) ∧ ((0 : Int) ≤ (gt L k).Lent ∧ (gt L k).Lent ≤ 9999) ∧ ((0 : Int) ≤ (gt L k).Copied ∧ (gt L k).Copied ≤ 9999) ∧ ((0 : Int) ≤ (gt L k).Given ∧ (gt L k).Given ≤ 999) ∧ ((0 : Int) ≤ (gt L k).Fines ∧ (gt L k).Fines ≤ 99999)) : nL - (k + 1) < nL - k := by
  omega
theorem z_c_impl_MedianLent_80 (L : List LibRow) (nL : Nat) (hbdL : (nL : Int) ≤ 9223372036854775807) (hleL : nL = L.length) (h13 : ¬ ((¬ (RowsOK L)) ∨ ((nL : Int) = 0))) (hq16 : RowsOK L) (hq17 : ¬ ((nL : Int) = 0)) (hq18 : L.length ≤ 12) (k : Nat) (n19 : Nat) (c19 : Nat) (hi28 : k ≤ nL) (hl29 : n19 = (lents L k).length) (hq31 : (lents L k).length ≤ L.length) (hq32 : (lents L k).length = k) (h33 : ¬ ((k : Int) < (nL : Int))) (hx79 : (sortI (lents L k))[(((n19 : Int) - 1) / 2).toNat]? = some (gt (sortI (lents L k)) ((((n19 : Int) - 1) / 2).toNat))) : (gt (sortI (lents L k)) ((((n19 : Int) - 1) / 2).toNat)) = medL L := by
  subst hleL
  first | exact (med_no ‹_›).symm | exact med_yes ‹RowsOK L› (by omega) (by omega) ‹_› (by omega)
theorem z_c_impl_MedianLent_81 (L : List LibRow) (nL : Nat) (hbdL : (nL : Int) ≤ 9223372036854775807) (hleL : nL = L.length) (h13 : ¬ ((¬ (RowsOK L)) ∨ ((nL : Int) = 0))) (hq16 : RowsOK L) (hq17 : ¬ ((nL : Int) = 0)) (hq18 : L.length ≤ 12) (k : Nat) (n19 : Nat) (c19 : Nat) (hi28 : k ≤ nL) (hl29 : n19 = (lents L k).length) (hq31 : (lents L k).length ≤ L.length) (hq32 : (lents L k).length = k) (h33 : ¬ ((k : Int) < (nL : Int))) (hx79 : (sortI (lents L k))[(((n19 : Int) - 1) / 2).toNat]? = some (gt (sortI (lents L k)) ((((n19 : Int) - 1) / 2).toNat))) : RowsOK L ∧ 0 < L.length := by
  subst hleL
  first | (intro hh; rcases ‹_ ∨ _› with h | h; exact h hh.1; omega) | exact ⟨‹RowsOK L›, by omega⟩
theorem c_impl_MedianLent (w : World) {AL : Option Addr} {nL cL BL : Nat}  (L : List LibRow) (hL : SlR w BL encLibRow 5 AL nL cL L) : Calls Try.prog 6 #[.slice AL nL cL] w fun e w' => e = .returned (.tuple (List.toArray [.int .i64 (medL L), .bool (decide (RowsOK L ∧ 0 < L.length))])) ∧ Lo w w' := by
  refine calls_W 36 Try.func6 rfl rfl rfl ?_
  have hbdL := hL.bound
  have hleL := hL.len
  have hBbL := hL.bd
  refine W.seq ?_
  refine W.regS (SR.q' (r_as (v := .int .i64 0) rfl) <| SR.q' (r_as (v := .bool false) rfl) <| SR.nil ?_)
  refine W.seq ?_
  refine W.seq ?_
  refine W.regJS (fun f' w' => At f' [(0, .slice AL nL cL), (2, .int .i64 0), (3, .bool false), (14, .bool (decide ((¬ (RowsOK L)) ∨ ((nL : Int) = 0))))] ∧ Lo w w') ?_ ?_
  · refine SR.q' (r_mv (v := .slice _ _ _) rfl) <| SR.call ent20 (c_impl_AreLibRows w L ((hL))) rfl ?_
    rintro e w1 ⟨rfl, hk2⟩
    refine ⟨_, rfl, ?_⟩
    have hz3 := hk2.size
    have hB4 := (Lo.refl w).lo hk2
    refine SR.q' (r_not rfl) <| SR.q' (r_mv (v := .bool _) rfl) <| SR.splitN (fun h5 => ?_) (fun h5 => ?_)
    · refine SR.s' rfl <| SR.s' rfl <| SR.s' rfl <| SR.q' (r_pick true rfl (v := .bool true) rfl) <| SR.nil ?_
      exact ⟨_, rfl, ⟨⟨rfl, rfl, rfl, (eDT ((jmf h5).1 trivial)), trivial⟩, (hk2)⟩⟩
    · have hq6 := rows_len h5
      refine SR.g' rfl (r_mv (v := .slice _ _ _) rfl) <| SR.g' rfl (r_len und24 rfl) <| SR.g' rfl (r_eq rfl rfl) <| SR.q' (r_pick false rfl (v := .bool _) rfl) <| SR.nil ?_
      exact ⟨_, rfl, ⟨⟨rfl, rfl, rfl, (eDD (jmt h5)), trivial⟩, (hk2)⟩⟩
  rintro f7 w8 ⟨hat9, hk10⟩
  rw [← sets_of_at hat9]
  have hz11 := hk10.size
  have hB12 := (Lo.refl w).lo hk10
  refine W.cond_d rfl (fun h13 => ?_) (fun h13 => ?_)
  · refine W.seq ?_
    refine W.regS (SR.q' (r_as (v := .int .i64 0) rfl) <| SR.q' (r_as (v := .bool false) rfl) <| SR.nil ?_)
    refine W.ret ?_
    refine ret2 rfl (v := .int .i64 _) (v' := .bool _) rfl rfl ?_
    exact ⟨eR (eT2 (eI (z_c_impl_MedianLent_14 L nL hbdL hleL h13)) (eDF (z_c_impl_MedianLent_15 L nL hbdL hleL h13))), hB12⟩
  · have hq16 : RowsOK L := (Classical.not_not.1 (not_or.1 h13).1)
    have hq17 : ¬ ((nL : Int) = 0) := (not_or.1 h13).2
    have hq18 := rows_len hq16
    refine W.skip ?_
    refine W.seq ?_
    refine W.regS (SR.q' (r_as (v := .slice none 0 0) rfl) <| SR.nil ?_)
    refine W.seq ?_
    refine W.seq ?_
    refine W.regS (SR.q' (r_mv (v := .slice _ _ _) rfl) <| SR.q' (r_len und24 rfl) <| SR.q' (r_mv (v := .int .i64 0) rfl) <| SR.nil ?_)
    refine W.block ?_
    refine W.loop (σ := Nat × (Option Addr) × Nat × Nat) (fun g => [(2, .int .i64 0), (3, .bool false), (4, .slice g.2.1 g.2.2.1 g.2.2.2), (15, .slice AL nL cL), (16, .int .i64 (nL : Int)), (17, .int .i64 (g.1 : Int))]) (fun g w' => (Lo w w') ∧ (SlR w' BL encLibRow 5 AL nL cL L) ∧ (SlO w' w.heap.size encI 1 3 g.2.1 g.2.2.1 g.2.2.2 (lents L g.1)) ∧ (g.1 ≤ nL)) (fun g => nL - g.1) (0, (none : Option Addr), 0, 0) ?_ ?_ ?_
    · exact ⟨rfl, rfl, rfl, rfl, rfl, rfl, trivial⟩
    · exact ⟨hB12, (hL).lo hk10, (SlO.eqv (SlO.nil (base := w.heap.size) (e := 3) (enc := encI) (fun _ => rfl) (by omega)) (z_c_impl_MedianLent_21 L nL hbdL hleL h13 hq16 hq17 hq18)), (z_c_impl_MedianLent_20 L nL hbdL hleL h13 hq16 hq17 hq18)⟩
    · rintro ⟨k, A19, n19, c19⟩ f22 w23 hP25
      obtain ⟨hB24, hm26, hO27, hi28⟩ : (Lo w w23) ∧ (SlR w23 BL encLibRow 5 AL nL cL L) ∧ (SlO w23 w.heap.size encI 1 3 A19 n19 c19 (lents L k)) ∧ (k ≤ nL) := hP25
      refine (?_ : W _ _ _ _ _ (act _ (sets f22 [(2, .int .i64 0), (3, .bool false), (4, .slice A19 n19 c19), (15, .slice AL nL cL), (16, .int .i64 (nL : Int)), (17, .int .i64 (k : Int))])) _)
      have hzw23 := hB24.size
      have hl29 := hO27.len
      have hl30 := hO27.rd.bound
      have hq31 := lents_len L k
      have hq32 : (lents L k).length = k := lents_len' (by omega)
      refine W.seq ?_
      refine W.regS (SR.q' (r_lt rfl rfl) <| SR.nil ?_)
      refine W.seq ?_
      refine W.cond_d rfl (fun h33 => ?_) (fun h33 => ?_)
      · refine W.skip ?_
        refine W.seq ?_
        refine W.block ?_
        refine W.seq ?_
        have hx35 := (hm26).elem (i := k) (by omega)
        have hq36 := rows_rng hq16 hx35
        refine W.regS (SR.q' (r_ixR tsl24 (hm26) rfl rfl (by omega)) <| SR.q' (r_lda (l := encLibRow (gt L k)) agg29 rfl (fun _ _ hu => (hm26).cell hx35 hu) ((hm26).esz _)) <| SR.alloc (l := [.int .i64 0, .int .i64 0, .int .i64 0, .int .i64 0, .int .i64 0]) tz29 rfl ?_)
        intro g37 w38 hg39 hk40 hs41 hb42
        have hz43 := hk40.size
        have hB44 := hB24.lo hk40
        have hd45 : ¬ A19 = some ⟨g37, 0, none⟩ := fun e' => by have := (hO27).base_le e'; omega
        refine SR.store (o := 0) (vs := [.int .i64 ((gt L k).Month), .int .i64 ((gt L k).Lent), .int .i64 ((gt L k).Copied), .int .i64 ((gt L k).Given), .int .i64 ((gt L k).Fines)]) agg29.2 rfl rfl rfl rfl (hb42) (Nat.le_of_ble_eq_true rfl) rfl ?_
        intro w46 hk47 hs48 hb49
        have hz50 := hk47.size
        have hB51 := hB44.new hk47 (by omega)
        refine SR.nil ?_
        refine W.regS (SR.q' (r_mv (v := .slice _ _ _) rfl) <| SR.q' (r_fa fa29_1 rfl) <| SR.q' (r_ld (v := .int .i64 ((gt L k).Lent)) sca3 rfl ((hb49).cell rfl)) <| SR.lit (vs := [.int .i64 ((gt L k).Lent)]) (L := ([(gt L k).Lent] : List Int)) (enc := encI) tel32 (fun _ => rfl) rfl rfl rfl (by decide) ?_)
        intro g52 w53 hg54 hk55 hO56
        have hz57 := hk55.size
        have hB58 := hB51.lo hk55
        have hd59 : ¬ A19 = some ⟨g52, 0, none⟩ := fun e' => by have := (((hO27).lo hk40).kp hk47 (fun b_ hb e' => hd45 (by have e'' : b_ = g37 := e'; rw [← e'']; exact hb))).base_le e'; omega
        refine SR.app tel32 rfl rfl ((((hO27).lo hk40).kp hk47 (fun b_ hb e' => hd45 (by have e'' : b_ = g37 := e'; rw [← e'']; exact hb))).lo hk55) ((hO56).rd) (fun _ => rfl) (by omega) (by omega) ?_
        intro A60 c61 w62 hk63 hO64 hN65
        have hz66 := hk63.size
        have hB67 := hB58.step hk63 (fun i_ hi_ e' => by have := (((((hO27).lo hk40).kp hk47 (fun b_ hb e' => hd45 (by have e'' : b_ = g37 := e'; rw [← e'']; exact hb))).lo hk55)).base_le e'; first | omega | (exfalso; omega) | exact e' | exact .inl e' | exact .inr e')
        have hd68 : ¬ A60 = some ⟨g37, 0, none⟩ := fun e' => (hN65 g37 e').elim (fun h => hd45 (h.trans e')) (fun h => by have := ((hb49).lo hk55).lt; omega)
        refine SR.q' (r_as (v := .slice _ _ _) rfl) <| SR.nil ?_
        refine W.regS (SR.q' (r_add rfl rfl (by omega)) <| SR.q' (r_mv (v := .int .i64 _) rfl) <| SR.nil ?_)
        refine ⟨(k + 1, A60, n19 + 1, c61), _, rfl, ⟨rfl, rfl, rfl, rfl, rfl, rfl, trivial⟩, ⟨hB67, ((((hm26).lo hk40).kp hk47 (fun b_ hb e' => by have e'' : b_ = g37 := e'; omega)).lo hk55).kp hk63 (fun b_ hb e' => by have := (((((hO27).lo hk40).kp hk47 (fun b_ hb e' => hd45 (by have e'' : b_ = g37 := e'; rw [← e'']; exact hb))).lo hk55)).base_le e'; omega), (SlO.eqv (hO64) (z_c_impl_MedianLent_70 L nL hbdL hleL h13 hq16 hq17 hq18 k n19 c19 hi28 hl29 hq31 hq32 h33 hx35 hq36)), ?_⟩, ?_⟩
        · exact (z_c_impl_MedianLent_71 L nL hbdL hleL h13 hq16 hq17 hq18 k n19 c19 hi28 hl29 hq31 hq32 h33 hx35 hq36)
        · exact (z_c_impl_MedianLent_72 L nL hbdL hleL h13 hq16 hq17 hq18 k n19 c19 hi28 hl29 hq31 hq32 h33 hx35 hq36)
      · refine W.exit (xin_here ?_)
        refine W.seq ?_
        refine W.regS (SR.q' (r_mv (v := .slice _ _ _) rfl) <| SR.call ent21 (c_slices_Sort___int_int_ w23 (lents L k) (hO27) (by omega)) rfl ?_)
        rintro e w73 ⟨rfl, hO75, hk74⟩
        refine ⟨_, rfl, ?_⟩
        have hz76 := hk74.size
        have hB77 := hB24.step hk74 (fun i_ hi_ e' => by have := ((hO27)).base_le e'; first | omega | (exfalso; omega) | exact e' | exact .inl e' | exact .inr e')
        refine SR.nil ?_
        refine W.seq ?_
        refine W.regS (SR.q' (r_mv (v := .slice _ _ _) rfl) <| SR.q' (r_mv (v := .slice _ _ _) rfl) <| SR.q' (r_len und32 rfl) <| SR.q' (r_sub rfl rfl (by omega)) <| SR.q' (r_quo rfl rfl (by omega)) <| ?_)
        have hx79 := ((hO75).rd).elem (i := (((n19 : Int) - 1) / 2).toNat) (by omega)
        refine SR.q' (r_ixR tsl32 ((hO75).rd) rfl rfl (by omega)) <| SR.q' (r_ld (v := .int .i64 (gt (sortI (lents L k)) ((((n19 : Int) - 1) / 2).toNat))) sca3 rfl (((hO75).rd).cell0 hx79 rfl)) <| SR.q' (r_as (v := .int .i64 _) rfl) <| SR.q' (r_as (v := .bool true) rfl) <| SR.nil ?_
        refine W.ret ?_
        refine ret2 rfl (v := .int .i64 _) (v' := .bool _) rfl rfl ?_
        exact ⟨eR (eT2 (eI (z_c_impl_MedianLent_80 L nL hbdL hleL h13 hq16 hq17 hq18 k n19 c19 hi28 hl29 hq31 hq32 h33 hx79)) (eDT (z_c_impl_MedianLent_81 L nL hbdL hleL h13 hq16 hq17 hq18 k n19 c19 hi28 hl29 hq31 hq32 h33 hx79))), hB77⟩
end Go.Proofs.Ytmigipacjadpeaa
