/- Walks, printed by a program of this claim's author. -/
import Derived.Test.YtmigipacjadpeaaChecked
import Derived.Test.YtmigipacjadpeaaLa
import Derived.Test.YtmigipacjadpeaaLb
import Derived.Test.YtmigipacjadpeaaFo
import Derived.Test.YtmigipacjadpeaaFs
import Derived.Test.YtmigipacjadpeaaFq
import Derived.Test.YtmigipacjadpeaaFp
import Derived.Test.YtmigipacjadpeaaFu
import Derived.Test.YtmigipacjadpeaaFt
import Derived.Test.YtmigipacjadpeaaG31b
namespace Go.Proofs.Ytmigipacjadpeaa
open Go Go.RowKit Fw
set_option maxRecDepth 10000
set_option linter.unusedVariables false
theorem ent26 : Ent Try.prog 26 := ent_of Try.func26 (by decide +kernel) rfl
theorem tel32 : TEl Try.prog 32 3 (.int .i64 0) 1 8 := ⟨by kernel_rfl, by kernel_rfl, rfl, by decide⟩
theorem tsl32 : TSl Try.prog 32 3 1 := ⟨by kernel_rfl, fun _ => by kernel_rfl⟩
theorem und32 : Try.prog.underlying 32 = some (.slice 3) := by kernel_rfl

theorem z_c_spec_LibTotals_13 (L : List LibRow) (nL : Nat) (hbdL : (nL : Int) ≤ 9223372036854775807) (hleL : nL = L.length) (h5 : ¬ (RowsOK L)) : ([] : List Int) = totL L := by
  simp_all [totL]
theorem z_c_spec_LibTotals_14 (L : List LibRow) (nL : Nat) (hbdL : (nL : Int) ≤ 9223372036854775807) (hleL : nL = L.length) (h5 : ¬ (RowsOK L)) : ¬ (RowsOK L) := by
  assumption
theorem z_c_spec_LibTotals_16 (L : List LibRow) (nL : Nat) (hbdL : (nL : Int) ≤ 9223372036854775807) (hleL : nL = L.length) (h5 : RowsOK L) (hq15 : L.length ≤ 12) : 0 ≤ nL ∧ totN (L.take 0) = [(0 : Int), (0 : Int), (0 : Int), (0 : Int)] ∧ (0 ≤ (0 : Int) ∧ (0 : Int) ≤ 99999 * (0 : Int)) ∧ (0 ≤ (0 : Int) ∧ (0 : Int) ≤ 99999 * (0 : Int)) ∧ (0 ≤ (0 : Int) ∧ (0 : Int) ≤ 99999 * (0 : Int)) ∧ (0 ≤ (0 : Int) ∧ (0 : Int) ≤ 99999 * (0 : Int)) := by
  simp [totN]
theorem z_c_spec_LibTotals_27 (L : List LibRow) (nL : Nat) (hbdL : (nL : Int) ≤ 9223372036854775807) (hleL : nL = L.length) (h5 : RowsOK L) (hq15 : L.length ≤ 12) (k : Nat) (a : Int) (b : Int) (c : Int) (d : Int) (hi22 : k ≤ nL ∧ totN (L.take k) = [a, b, c, d] ∧ (0 ≤ a ∧ a ≤ 99999 * (k : Int)) ∧ (0 ≤ b ∧ b ≤ 99999 * (k : Int)) ∧ (0 ≤ c ∧ c ≤ 99999 * (k : Int)) ∧ (0 ≤ d ∧ d ≤ 99999 * (k : Int))) (h23 : (k : Int) < (nL : Int)) (x24 : LibRow) (hx25 : L[k]? = some x24) (hq26 : ((1 : Int) ≤ x24.Month ∧ x24.Month ≤ 1200) ∧ ((0 : Int) ≤ x24.Lent ∧ x24.Lent ≤ 9999) ∧ ((0 : Int) ≤ x24.Copied ∧ x24.Copied ≤ 9999) ∧ ((0 : Int) ≤ x24.Given ∧ x24.Given ≤ 999) ∧ ((0 : Int) ≤ x24.Fines ∧ x24.Fines ≤ 99999)) : k + 1 ≤ nL ∧ totN (L.take (k + 1)) = [a + x24.Lent, b + x24.Copied, c + x24.Given, d + x24.Fines] ∧ (0 ≤ a + x24.Lent ∧ a + x24.Lent ≤ 99999 * (k + 1 : Int)) ∧ (0 ≤ b + x24.Copied ∧ b + x24.Copied ≤ 99999 * (k + 1 : Int)) ∧ (0 ≤ c + x24.Given ∧ c + x24.Given ≤ 99999 * (k + 1 : Int)) ∧ (0 ≤ d + x24.Fines ∧ d + x24.Fines ≤ 99999 * (k + 1 : Int)) := by
  obtain ⟨h1, h2, h3⟩ := ‹_ ∧ totN _ = _ ∧ _›; exact ⟨by omega, tot_next h2 ‹L[_]? = some _›, by omega, by omega, by omega, by omega⟩
theorem z_c_spec_LibTotals_28 (L : List LibRow) (nL : Nat) (hbdL : (nL : Int) ≤ 9223372036854775807) (hleL : nL = L.length) (h5 : RowsOK L) (hq15 : L.length ≤ 12) (k : Nat) (a : Int) (b : Int) (c : Int) (d : Int) (hi22 : k ≤ nL ∧ totN (L.take k) = [a, b, c, d] ∧ (0 ≤ a ∧ a ≤ 99999 * (k : Int)) ∧ (0 ≤ b ∧ b ≤ 99999 * (k : Int)) ∧ (0 ≤ c ∧ c ≤ 99999 * (k : Int)) ∧ (0 ≤ d ∧ d ≤ 99999 * (k : Int))) (h23 : (k : Int) < (nL : Int)) (x24 : LibRow) (hx25 : L[k]? = some x24) (hq26 : ((1 : Int) ≤ x24.Month ∧ x24.Month ≤ 1200) ∧ ((0 : Int) ≤ x24.Lent ∧ x24.Lent ≤ 9999) ∧ ((0 : Int) ≤ x24.Copied ∧ x24.Copied ≤ 9999) ∧ ((0 : Int) ≤ x24.Given ∧ x24.Given ≤ 999) ∧ ((0 : Int) ≤ x24.Fines ∧ x24.Fines ≤ 99999)) : nL - (k + 1) < nL - k := by
  omega
theorem z_c_spec_LibTotals_36 (L : List LibRow) (nL : Nat) (hbdL : (nL : Int) ≤ 9223372036854775807) (hleL : nL = L.length) (h5 : RowsOK L) (hq15 : L.length ≤ 12) (k : Nat) (a : Int) (b : Int) (c : Int) (d : Int) (hi22 : k ≤ nL ∧ totN (L.take k) = [a, b, c, d] ∧ (0 ≤ a ∧ a ≤ 99999 * (k : Int)) ∧ (0 ≤ b ∧ b ≤ 99999 * (k : Int)) ∧ (0 ≤ c ∧ c ≤ 99999 * (k : Int)) ∧ (0 ≤ d ∧ d ≤ 99999 * (k : Int))) (h23 : ¬ ((k : Int) < (nL : Int))) : ([a, b, c, d] : List Int) = totL L := by
  obtain ⟨h1, h2, h3⟩ := ‹_ ∧ totN _ = _ ∧ _›; first | (rw [totL, if_pos ‹RowsOK L›, ← h2, take_all hleL ‹_›]; done) | (rw [← h2, take_all hleL ‹_›]; done)
theorem z_c_spec_LibTotals_37 (L : List LibRow) (nL : Nat) (hbdL : (nL : Int) ≤ 9223372036854775807) (hleL : nL = L.length) (h5 : RowsOK L) (hq15 : L.length ≤ 12) (k : Nat) (a : Int) (b : Int) (c : Int) (d : Int) (hi22 : k ≤ nL ∧ totN (L.take k) = [a, b, c, d] ∧ (0 ≤ a ∧ a ≤ 99999 * (k : Int)) ∧ (0 ≤ b ∧ b ≤ 99999 * (k : Int)) ∧ (0 ≤ c ∧ c ≤ 99999 * (k : Int)) ∧ (0 ≤ d ∧ d ≤ 99999 * (k : Int))) (h23 : ¬ ((k : Int) < (nL : Int))) : RowsOK L := by
  assumption
theorem c_spec_LibTotals (w : World) {AL : Option Addr} {nL cL BL : Nat}  (L : List LibRow) (hL : SlR w BL encLibRow 5 AL nL cL L) : Calls Try.prog 17 #[.slice AL nL cL] w fun e w' => ∃ (A1' : Option Addr) (n1' c1' : Nat), e = .returned (.tuple (List.toArray [.slice A1' n1' c1', .bool (decide (RowsOK L))])) ∧ SlO w' w.heap.size encI 1 3 A1' n1' c1' (totL L) ∧ Lo w w' := by
  refine calls_W 52 Try.func17 rfl rfl rfl ?_
  have hbdL := hL.bound
  have hleL := hL.len
  have hBbL := hL.bd
  refine W.seq ?_
  refine W.regS (SR.q' (r_as (v := .slice none 0 0) rfl) <| SR.q' (r_as (v := .bool false) rfl) <| SR.nil ?_)
  refine W.seq ?_
  refine W.seq ?_
  refine W.regS (SR.q' (r_mv (v := .slice _ _ _) rfl) <| SR.call ent22 (c_spec_l31Good w L ((hL))) rfl ?_)
  rintro e w1 ⟨rfl, hk2⟩
  refine ⟨_, rfl, ?_⟩
  have hz3 := hk2.size
  have hB4 := (Lo.refl w).lo hk2
  refine SR.q' (r_not rfl) <| SR.nil ?_
  refine W.cond_n rfl (fun h5 => ?_) (fun h5 => ?_)
  · refine W.seq ?_
    refine W.regS (SR.lit (vs := []) (L := ([] : List Int)) (enc := encI) tel32 (fun _ => rfl) rfl rfl rfl (by decide) ?_)
    intro g6 w7 hg8 hk9 hO10
    have hz11 := hk9.size
    have hB12 := hB4.lo hk9
    refine SR.q' (r_as (v := .slice _ _ _) rfl) <| SR.q' (r_as (v := .bool false) rfl) <| SR.nil ?_
    refine W.ret ?_
    refine ret2 rfl (v := .slice _ _ _) (v' := .bool _) rfl rfl ?_
    exact ⟨(some (⟨g6, 0, none⟩ : Addr)), 0, 0, eR (eT2 rfl (eDF (z_c_spec_LibTotals_14 L nL hbdL hleL h5))), (SlO.eqv ((hO10).down (by omega)) (z_c_spec_LibTotals_13 L nL hbdL hleL h5)), hB12⟩
  · have hq15 := rows_len h5
    refine W.skip ?_
    refine W.seq ?_
    refine W.regS (SR.q' (r_as (v := .int .i64 0) rfl) <| SR.q' (r_as (v := .int .i64 0) rfl) <| SR.q' (r_as (v := .int .i64 0) rfl) <| SR.q' (r_as (v := .int .i64 0) rfl) <| SR.nil ?_)
    refine W.seq ?_
    refine W.seq ?_
    refine W.regS (SR.q' (r_as (v := .int .i64 0) rfl) <| SR.nil ?_)
    refine W.block ?_
    refine W.loop (σ := Nat × Int × Int × Int × Int) (fun g => [(0, .slice AL nL cL), (2, .slice none 0 0), (3, .bool false), (4, .int .i64 g.2.1), (5, .int .i64 g.2.2.1), (6, .int .i64 g.2.2.2.1), (7, .int .i64 g.2.2.2.2), (8, .int .i64 (g.1 : Int))]) (fun g w' => (Lo w w') ∧ (SlR w' BL encLibRow 5 AL nL cL L) ∧ (g.1 ≤ nL ∧ totN (L.take g.1) = [g.2.1, g.2.2.1, g.2.2.2.1, g.2.2.2.2] ∧ (0 ≤ g.2.1 ∧ g.2.1 ≤ 99999 * (g.1 : Int)) ∧ (0 ≤ g.2.2.1 ∧ g.2.2.1 ≤ 99999 * (g.1 : Int)) ∧ (0 ≤ g.2.2.2.1 ∧ g.2.2.2.1 ≤ 99999 * (g.1 : Int)) ∧ (0 ≤ g.2.2.2.2 ∧ g.2.2.2.2 ≤ 99999 * (g.1 : Int)))) (fun g => nL - g.1) (0, (0 : Int), (0 : Int), (0 : Int), (0 : Int)) ?_ ?_ ?_
    · exact ⟨rfl, rfl, rfl, rfl, rfl, rfl, rfl, rfl, trivial⟩
    · exact ⟨hB4, (hL).lo hk2, (z_c_spec_LibTotals_16 L nL hbdL hleL h5 hq15)⟩
    · rintro ⟨k, a, b, c, d⟩ f17 w18 hP20
      obtain ⟨hB19, hm21, hi22⟩ : (Lo w w18) ∧ (SlR w18 BL encLibRow 5 AL nL cL L) ∧ (k ≤ nL ∧ totN (L.take k) = [a, b, c, d] ∧ (0 ≤ a ∧ a ≤ 99999 * (k : Int)) ∧ (0 ≤ b ∧ b ≤ 99999 * (k : Int)) ∧ (0 ≤ c ∧ c ≤ 99999 * (k : Int)) ∧ (0 ≤ d ∧ d ≤ 99999 * (k : Int))) := hP20
      refine (?_ : W _ _ _ _ _ (act _ (sets f17 [(0, .slice AL nL cL), (2, .slice none 0 0), (3, .bool false), (4, .int .i64 a), (5, .int .i64 b), (6, .int .i64 c), (7, .int .i64 d), (8, .int .i64 (k : Int))])) _)
      have hzw18 := hB19.size
      refine W.seq ?_
      refine W.seq ?_
      refine W.regS (SR.q' (r_mv (v := .int .i64 _) rfl) <| SR.q' (r_mv (v := .slice _ _ _) rfl) <| SR.q' (r_len und24 rfl) <| SR.q' (r_lt rfl rfl) <| SR.nil ?_)
      refine W.cond_d rfl (fun h23 => ?_) (fun h23 => ?_)
      · refine W.skip ?_
        refine W.seq ?_
        refine W.block ?_
        refine W.seq ?_
        refine W.regS (SR.q' (r_mv (v := .int .i64 _) rfl) <| SR.q' (r_mv (v := .slice _ _ _) rfl) <| SR.q' (r_mv (v := .int .i64 _) rfl) <| ?_)
        obtain ⟨x24, hx25⟩ := (hm21).get (i := k) (by omega)
        have hq26 := rows_rng h5 hx25
        refine SR.q' (r_ixR tsl24 (hm21) rfl rfl (by omega)) <| SR.q' (r_fa fa29_1 rfl) <| SR.q' (r_ld (v := .int .i64 x24.Lent) sca3 rfl ((hm21).cell hx25 rfl)) <| SR.q' (r_add rfl rfl (by omega)) <| SR.q' (r_as (v := .int .i64 _) rfl) <| SR.nil ?_
        refine W.seq ?_
        refine W.regS (SR.q' (r_mv (v := .int .i64 _) rfl) <| SR.q' (r_mv (v := .slice _ _ _) rfl) <| SR.q' (r_mv (v := .int .i64 _) rfl) <| SR.q' (r_ixR tsl24 (hm21) rfl rfl (by omega)) <| SR.q' (r_fa fa29_2 rfl) <| SR.q' (r_ld (v := .int .i64 x24.Copied) sca3 rfl ((hm21).cell hx25 rfl)) <| SR.q' (r_add rfl rfl (by omega)) <| SR.q' (r_as (v := .int .i64 _) rfl) <| SR.nil ?_)
        refine W.seq ?_
        refine W.regS (SR.q' (r_mv (v := .int .i64 _) rfl) <| SR.q' (r_mv (v := .slice _ _ _) rfl) <| SR.q' (r_mv (v := .int .i64 _) rfl) <| SR.q' (r_ixR tsl24 (hm21) rfl rfl (by omega)) <| SR.q' (r_fa fa29_3 rfl) <| SR.q' (r_ld (v := .int .i64 x24.Given) sca3 rfl ((hm21).cell hx25 rfl)) <| SR.q' (r_add rfl rfl (by omega)) <| SR.q' (r_as (v := .int .i64 _) rfl) <| SR.nil ?_)
        refine W.regS (SR.q' (r_mv (v := .int .i64 _) rfl) <| SR.q' (r_mv (v := .slice _ _ _) rfl) <| SR.q' (r_mv (v := .int .i64 _) rfl) <| SR.q' (r_ixR tsl24 (hm21) rfl rfl (by omega)) <| SR.q' (r_fa fa29_4 rfl) <| SR.q' (r_ld (v := .int .i64 x24.Fines) sca3 rfl ((hm21).cell hx25 rfl)) <| SR.q' (r_add rfl rfl (by omega)) <| SR.q' (r_as (v := .int .i64 _) rfl) <| SR.nil ?_)
        refine W.regS (SR.q' (r_mv (v := .int .i64 _) rfl) <| SR.q' (r_add rfl rfl (by omega)) <| SR.q' (r_as (v := .int .i64 _) rfl) <| SR.nil ?_)
        refine ⟨(k + 1, a + x24.Lent, b + x24.Copied, c + x24.Given, d + x24.Fines), _, rfl, ⟨rfl, rfl, rfl, rfl, rfl, rfl, rfl, rfl, trivial⟩, ⟨hB19, hm21, ?_⟩, ?_⟩
        · exact (z_c_spec_LibTotals_27 L nL hbdL hleL h5 hq15 k a b c d hi22 h23 x24 hx25 hq26)
        · exact (z_c_spec_LibTotals_28 L nL hbdL hleL h5 hq15 k a b c d hi22 h23 x24 hx25 hq26)
      · refine W.exit (xin_here ?_)
        refine W.seq ?_
        refine W.regS (SR.q' (r_mv (v := .int .i64 _) rfl) <| SR.q' (r_mv (v := .int .i64 _) rfl) <| SR.q' (r_mv (v := .int .i64 _) rfl) <| SR.q' (r_mv (v := .int .i64 _) rfl) <| SR.lit (vs := [.int .i64 a, .int .i64 b, .int .i64 c, .int .i64 d]) (L := ([a, b, c, d] : List Int)) (enc := encI) tel32 (fun _ => rfl) rfl rfl rfl (by decide) ?_)
        intro g29 w30 hg31 hk32 hO33
        have hz34 := hk32.size
        have hB35 := hB19.lo hk32
        refine SR.q' (r_as (v := .slice _ _ _) rfl) <| SR.q' (r_as (v := .bool true) rfl) <| SR.nil ?_
        refine W.ret ?_
        refine ret2 rfl (v := .slice _ _ _) (v' := .bool _) rfl rfl ?_
        exact ⟨(some (⟨g29, 0, none⟩ : Addr)), 4, 4, eR (eT2 rfl (eDT (z_c_spec_LibTotals_37 L nL hbdL hleL h5 hq15 k a b c d hi22 h23))), (SlO.eqv ((hO33).down (by omega)) (z_c_spec_LibTotals_36 L nL hbdL hleL h5 hq15 k a b c d hi22 h23)), hB35⟩

theorem z_c_impl_libTotals_8 (L : List LibRow) (nL : Nat) (hbdL : (nL : Int) ≤ 9223372036854775807) (hleL : nL = L.length) (hp0 : RowsOK L) : 0 ≤ nL ∧ totN (L.take 0) = [(0 : Int), (0 : Int), (0 : Int), (0 : Int)] ∧ (0 ≤ (0 : Int) ∧ (0 : Int) ≤ 99999 * (0 : Int)) ∧ (0 ≤ (0 : Int) ∧ (0 : Int) ≤ 99999 * (0 : Int)) ∧ (0 ≤ (0 : Int) ∧ (0 : Int) ≤ 99999 * (0 : Int)) ∧ (0 ≤ (0 : Int) ∧ (0 : Int) ≤ 99999 * (0 : Int)) := by
  simp [totN]
theorem z_c_impl_libTotals_9 (L : List LibRow) (nL : Nat) (hbdL : (nL : Int) ≤ 9223372036854775807) (hleL : nL = L.length) (hp0 : RowsOK L) : List.replicate 4 (0 : Int) = [(0 : Int), (0 : Int), (0 : Int), (0 : Int)] := by
  rfl
theorem z_c_impl_libTotals_44 (L : List LibRow) (nL : Nat) (hbdL : (nL : Int) ≤ 9223372036854775807) (hleL : nL = L.length) (hp0 : RowsOK L) (k : Nat) (a : Int) (b : Int) (c : Int) (d : Int) (hi16 : k ≤ nL ∧ totN (L.take k) = [a, b, c, d] ∧ (0 ≤ a ∧ a ≤ 99999 * (k : Int)) ∧ (0 ≤ b ∧ b ≤ 99999 * (k : Int)) ∧ (0 ≤ c ∧ c ≤ 99999 * (k : Int)) ∧ (0 ≤ d ∧ d ≤ 99999 * (k : Int))) (h17 : (k : Int) < (nL : Int)) (x18 : LibRow) (hx19 : L[k]? = some x18) (hq20 : ((1 : Int) ≤ x18.Month ∧ x18.Month ≤ 1200) ∧ ((0 : Int) ≤ x18.Lent ∧ x18.Lent ≤ 9999) ∧ ((0 : Int) ≤ x18.Copied ∧ x18.Copied ≤ 9999) ∧ ((0 : Int) ≤ x18.Given ∧ x18.Given ≤ 999) ∧ ((0 : Int) ≤ x18.Fines ∧ x18.Fines ≤ 99999)) : 0 ≤ 4 := by
  omega
theorem z_c_impl_libTotals_45 (L : List LibRow) (nL : Nat) (hbdL : (nL : Int) ≤ 9223372036854775807) (hleL : nL = L.length) (hp0 : RowsOK L) (k : Nat) (a : Int) (b : Int) (c : Int) (d : Int) (hi16 : k ≤ nL ∧ totN (L.take k) = [a, b, c, d] ∧ (0 ≤ a ∧ a ≤ 99999 * (k : Int)) ∧ (0 ≤ b ∧ b ≤ 99999 * (k : Int)) ∧ (0 ≤ c ∧ c ≤ 99999 * (k : Int)) ∧ (0 ≤ d ∧ d ≤ 99999 * (k : Int))) (h17 : (k : Int) < (nL : Int)) (x18 : LibRow) (hx19 : L[k]? = some x18) (hq20 : ((1 : Int) ≤ x18.Month ∧ x18.Month ≤ 1200) ∧ ((0 : Int) ≤ x18.Lent ∧ x18.Lent ≤ 9999) ∧ ((0 : Int) ≤ x18.Copied ∧ x18.Copied ≤ 9999) ∧ ((0 : Int) ≤ x18.Given ∧ x18.Given ≤ 999) ∧ ((0 : Int) ≤ x18.Fines ∧ x18.Fines ≤ 99999)) : [a, b, c, d] = addF [a, b, c, d] [x18.Lent, x18.Copied, x18.Given, x18.Fines] 0 := by
  rfl
theorem z_c_impl_libTotals_68 (L : List LibRow) (nL : Nat) (hbdL : (nL : Int) ≤ 9223372036854775807) (hleL : nL = L.length) (hp0 : RowsOK L) (k : Nat) (a : Int) (b : Int) (c : Int) (d : Int) (hi16 : k ≤ nL ∧ totN (L.take k) = [a, b, c, d] ∧ (0 ≤ a ∧ a ≤ 99999 * (k : Int)) ∧ (0 ≤ b ∧ b ≤ 99999 * (k : Int)) ∧ (0 ≤ c ∧ c ≤ 99999 * (k : Int)) ∧ (0 ≤ d ∧ d ≤ 99999 * (k : Int))) (h17 : (k : Int) < (nL : Int)) (x18 : LibRow) (hx19 : L[k]? = some x18) (hq20 : ((1 : Int) ≤ x18.Month ∧ x18.Month ≤ 1200) ∧ ((0 : Int) ≤ x18.Lent ∧ x18.Lent ≤ 9999) ∧ ((0 : Int) ≤ x18.Copied ∧ x18.Copied ≤ 9999) ∧ ((0 : Int) ≤ x18.Given ∧ x18.Given ≤ 999) ∧ ((0 : Int) ≤ x18.Fines ∧ x18.Fines ≤ 99999)) (j : Nat) (hi53 : j ≤ 4) (h54 : (j : Int) < (4 : Int)) (x55 : Int) (hx56 : ([x18.Lent, x18.Copied, x18.Given, x18.Fines] : List Int)[j]? = some x55) (hq57 : x55 = x18.Lent ∨ x55 = x18.Copied ∨ x55 = x18.Given ∨ x55 = x18.Fines) (x58 : Int) (hx59 : (addF [a, b, c, d] [x18.Lent, x18.Copied, x18.Given, x18.Fines] j)[j]? = some x58) (hq60 : x58 = a ∨ x58 = b ∨ x58 = c ∨ x58 = d) : (addF [a, b, c, d] [x18.Lent, x18.Copied, x18.Given, x18.Fines] j).set ((j : Int).toNat) (x58 + x55) = addF [a, b, c, d] [x18.Lent, x18.Copied, x18.Given, x18.Fines] (j + 1) := by
  exact addF_set (by omega) ‹(addF _ _ j)[j]? = some _› ‹_[j]? = some _›
theorem z_c_impl_libTotals_69 (L : List LibRow) (nL : Nat) (hbdL : (nL : Int) ≤ 9223372036854775807) (hleL : nL = L.length) (hp0 : RowsOK L) (k : Nat) (a : Int) (b : Int) (c : Int) (d : Int) (hi16 : k ≤ nL ∧ totN (L.take k) = [a, b, c, d] ∧ (0 ≤ a ∧ a ≤ 99999 * (k : Int)) ∧ (0 ≤ b ∧ b ≤ 99999 * (k : Int)) ∧ (0 ≤ c ∧ c ≤ 99999 * (k : Int)) ∧ (0 ≤ d ∧ d ≤ 99999 * (k : Int))) (h17 : (k : Int) < (nL : Int)) (x18 : LibRow) (hx19 : L[k]? = some x18) (hq20 : ((1 : Int) ≤ x18.Month ∧ x18.Month ≤ 1200) ∧ ((0 : Int) ≤ x18.Lent ∧ x18.Lent ≤ 9999) ∧ ((0 : Int) ≤ x18.Copied ∧ x18.Copied ≤ 9999) ∧ ((0 : Int) ≤ x18.Given ∧ x18.Given ≤ 999) ∧ ((0 : Int) ≤ x18.Fines ∧ x18.Fines ≤ 99999)) (j : Nat) (hi53 : j ≤ 4) (h54 : (j : Int) < (4 : Int)) (x55 : Int) (hx56 : ([x18.Lent, x18.Copied, x18.Given, x18.Fines] : List Int)[j]? = some x55) (hq57 : x55 = x18.Lent ∨ x55 = x18.Copied ∨ x55 = x18.Given ∨ x55 = x18.Fines) (x58 : Int) (hx59 : (addF [a, b, c, d] [x18.Lent, x18.Copied, x18.Given, x18.Fines] j)[j]? = some x58) (hq60 : x58 = a ∨ x58 = b ∨ x58 = c ∨ x58 = d) : j + 1 ≤ 4 := by
  omega
theorem z_c_impl_libTotals_70 (L : List LibRow) (nL : Nat) (hbdL : (nL : Int) ≤ 9223372036854775807) (hleL : nL = L.length) (hp0 : RowsOK L) (k : Nat) (a : Int) (b : Int) (c : Int) (d : Int) (hi16 : k ≤ nL ∧ totN (L.take k) = [a, b, c, d] ∧ (0 ≤ a ∧ a ≤ 99999 * (k : Int)) ∧ (0 ≤ b ∧ b ≤ 99999 * (k : Int)) ∧ (0 ≤ c ∧ c ≤ 99999 * (k : Int)) ∧ (0 ≤ d ∧ d ≤ 99999 * (k : Int))) (h17 : (k : Int) < (nL : Int)) (x18 : LibRow) (hx19 : L[k]? = some x18) (hq20 : ((1 : Int) ≤ x18.Month ∧ x18.Month ≤ 1200) ∧ ((0 : Int) ≤ x18.Lent ∧ x18.Lent ≤ 9999) ∧ ((0 : Int) ≤ x18.Copied ∧ x18.Copied ≤ 9999) ∧ ((0 : Int) ≤ x18.Given ∧ x18.Given ≤ 999) ∧ ((0 : Int) ≤ x18.Fines ∧ x18.Fines ≤ 99999)) (j : Nat) (hi53 : j ≤ 4) (h54 : (j : Int) < (4 : Int)) (x55 : Int) (hx56 : ([x18.Lent, x18.Copied, x18.Given, x18.Fines] : List Int)[j]? = some x55) (hq57 : x55 = x18.Lent ∨ x55 = x18.Copied ∨ x55 = x18.Given ∨ x55 = x18.Fines) (x58 : Int) (hx59 : (addF [a, b, c, d] [x18.Lent, x18.Copied, x18.Given, x18.Fines] j)[j]? = some x58) (hq60 : x58 = a ∨ x58 = b ∨ x58 = c ∨ x58 = d) : 4 - (j + 1) < 4 - j := by
  omega
theorem z_c_impl_libTotals_71 (L : List LibRow) (nL : Nat) (hbdL : (nL : Int) ≤ 9223372036854775807) (hleL : nL = L.length) (hp0 : RowsOK L) (k : Nat) (a : Int) (b : Int) (c : Int) (d : Int) (hi16 : k ≤ nL ∧ totN (L.take k) = [a, b, c, d] ∧ (0 ≤ a ∧ a ≤ 99999 * (k : Int)) ∧ (0 ≤ b ∧ b ≤ 99999 * (k : Int)) ∧ (0 ≤ c ∧ c ≤ 99999 * (k : Int)) ∧ (0 ≤ d ∧ d ≤ 99999 * (k : Int))) (h17 : (k : Int) < (nL : Int)) (x18 : LibRow) (hx19 : L[k]? = some x18) (hq20 : ((1 : Int) ≤ x18.Month ∧ x18.Month ≤ 1200) ∧ ((0 : Int) ≤ x18.Lent ∧ x18.Lent ≤ 9999) ∧ ((0 : Int) ≤ x18.Copied ∧ x18.Copied ≤ 9999) ∧ ((0 : Int) ≤ x18.Given ∧ x18.Given ≤ 999) ∧ ((0 : Int) ≤ x18.Fines ∧ x18.Fines ≤ 99999)) (j : Nat) (hi53 : j ≤ 4) (h54 : ¬ ((j : Int) < (4 : Int))) : addF [a, b, c, d] [x18.Lent, x18.Copied, x18.Given, x18.Fines] j = [a + x18.Lent, b + x18.Copied, c + x18.Given, d + x18.Fines] := by
  obtain rfl : j = 4 := by omega
  rfl
theorem z_c_impl_libTotals_72 (L : List LibRow) (nL : Nat) (hbdL : (nL : Int) ≤ 9223372036854775807) (hleL : nL = L.length) (hp0 : RowsOK L) (k : Nat) (a : Int) (b : Int) (c : Int) (d : Int) (hi16 : k ≤ nL ∧ totN (L.take k) = [a, b, c, d] ∧ (0 ≤ a ∧ a ≤ 99999 * (k : Int)) ∧ (0 ≤ b ∧ b ≤ 99999 * (k : Int)) ∧ (0 ≤ c ∧ c ≤ 99999 * (k : Int)) ∧ (0 ≤ d ∧ d ≤ 99999 * (k : Int))) (h17 : (k : Int) < (nL : Int)) (x18 : LibRow) (hx19 : L[k]? = some x18) (hq20 : ((1 : Int) ≤ x18.Month ∧ x18.Month ≤ 1200) ∧ ((0 : Int) ≤ x18.Lent ∧ x18.Lent ≤ 9999) ∧ ((0 : Int) ≤ x18.Copied ∧ x18.Copied ≤ 9999) ∧ ((0 : Int) ≤ x18.Given ∧ x18.Given ≤ 999) ∧ ((0 : Int) ≤ x18.Fines ∧ x18.Fines ≤ 99999)) (j : Nat) (hi53 : j ≤ 4) (h54 : ¬ ((j : Int) < (4 : Int))) : k + 1 ≤ nL ∧ totN (L.take (k + 1)) = [a + x18.Lent, b + x18.Copied, c + x18.Given, d + x18.Fines] ∧ (0 ≤ a + x18.Lent ∧ a + x18.Lent ≤ 99999 * (k + 1 : Int)) ∧ (0 ≤ b + x18.Copied ∧ b + x18.Copied ≤ 99999 * (k + 1 : Int)) ∧ (0 ≤ c + x18.Given ∧ c + x18.Given ≤ 99999 * (k + 1 : Int)) ∧ (0 ≤ d + x18.Fines ∧ d + x18.Fines ≤ 99999 * (k + 1 : Int)) := by
  obtain ⟨h1, h2, h3⟩ := ‹_ ∧ totN _ = _ ∧ _›; exact ⟨by omega, tot_next h2 ‹L[_]? = some _›, by omega, by omega, by omega, by omega⟩
theorem z_c_impl_libTotals_73 (L : List LibRow) (nL : Nat) (hbdL : (nL : Int) ≤ 9223372036854775807) (hleL : nL = L.length) (hp0 : RowsOK L) (k : Nat) (a : Int) (b : Int) (c : Int) (d : Int) (hi16 : k ≤ nL ∧ totN (L.take k) = [a, b, c, d] ∧ (0 ≤ a ∧ a ≤ 99999 * (k : Int)) ∧ (0 ≤ b ∧ b ≤ 99999 * (k : Int)) ∧ (0 ≤ c ∧ c ≤ 99999 * (k : Int)) ∧ (0 ≤ d ∧ d ≤ 99999 * (k : Int))) (h17 : (k : Int) < (nL : Int)) (x18 : LibRow) (hx19 : L[k]? = some x18) (hq20 : ((1 : Int) ≤ x18.Month ∧ x18.Month ≤ 1200) ∧ ((0 : Int) ≤ x18.Lent ∧ x18.Lent ≤ 9999) ∧ ((0 : Int) ≤ x18.Copied ∧ x18.Copied ≤ 9999) ∧ ((0 : Int) ≤ x18.Given ∧ x18.Given ≤ 999) ∧ ((0 : Int) ≤ x18.Fines ∧ x18.Fines ≤ 99999)) (j : Nat) (hi53 : j ≤ 4) (h54 : ¬ ((j : Int) < (4 : Int))) : nL - (k + 1) < nL - k := by
  omega
theorem z_c_impl_libTotals_74 (L : List LibRow) (nL : Nat) (hbdL : (nL : Int) ≤ 9223372036854775807) (hleL : nL = L.length) (hp0 : RowsOK L) (k : Nat) (a : Int) (b : Int) (c : Int) (d : Int) (hi16 : k ≤ nL ∧ totN (L.take k) = [a, b, c, d] ∧ (0 ≤ a ∧ a ≤ 99999 * (k : Int)) ∧ (0 ≤ b ∧ b ≤ 99999 * (k : Int)) ∧ (0 ≤ c ∧ c ≤ 99999 * (k : Int)) ∧ (0 ≤ d ∧ d ≤ 99999 * (k : Int))) (h17 : ¬ ((k : Int) < (nL : Int))) : [a, b, c, d] = totN L := by
  obtain ⟨h1, h2, h3⟩ := ‹_ ∧ totN _ = _ ∧ _›; first | (rw [totL, if_pos ‹RowsOK L›, ← h2, take_all hleL ‹_›]; done) | (rw [← h2, take_all hleL ‹_›]; done)
theorem c_impl_libTotals (w : World) {AL : Option Addr} {nL cL BL : Nat}  (L : List LibRow) (hL : SlR w BL encLibRow 5 AL nL cL L) (hp0 : RowsOK L) : Calls Try.prog 26 #[.slice AL nL cL] w fun e w' => ∃ (A1' : Option Addr) (n1' c1' : Nat), e = .returned (.slice A1' n1' c1') ∧ SlO w' w.heap.size encI 1 3 A1' n1' c1' (totN L) ∧ Lo w w' := by
  refine calls_W 40 Try.func26 rfl rfl rfl ?_
  have hbdL := hL.bound
  have hleL := hL.len
  have hBbL := hL.bd
  have hlenL := rows_len hp0
  refine W.seq ?_
  refine W.regS (SR.q' (r_as (v := .slice none 0 0) rfl) <| SR.nil ?_)
  refine W.seq ?_
  refine W.regS (SR.make (m := 4) (zx := (0 : Int)) (enc := encI) tel32 rfl (fun _ => rfl) rfl rfl (by omega) (by omega) ?_)
  intro g1 w2 hg3 hk4 hO5
  have hz6 := hk4.size
  have hB7 := (Lo.refl w).lo hk4
  refine SR.q' (r_as (v := .slice _ _ _) rfl) <| SR.nil ?_
  refine W.seq ?_
  refine W.seq ?_
  refine W.regS (SR.q' (r_mv (v := .slice _ _ _) rfl) <| SR.q' (r_len und24 rfl) <| SR.q' (r_mv (v := .int .i64 0) rfl) <| SR.nil ?_)
  refine W.block ?_
  refine W.loop (σ := Nat × Int × Int × Int × Int) (fun g => [(2, .slice none 0 0), (3, .slice (some (⟨g1, 0, none⟩ : Addr)) 4 4), (9, .slice AL nL cL), (10, .int .i64 (nL : Int)), (11, .int .i64 (g.1 : Int))]) (fun g w' => (Lo w w') ∧ (SlO w' w.heap.size encI 1 3 (some (⟨g1, 0, none⟩ : Addr)) 4 4 [g.2.1, g.2.2.1, g.2.2.2.1, g.2.2.2.2]) ∧ (SlR w' BL encLibRow 5 AL nL cL L) ∧ (g.1 ≤ nL ∧ totN (L.take g.1) = [g.2.1, g.2.2.1, g.2.2.2.1, g.2.2.2.2] ∧ (0 ≤ g.2.1 ∧ g.2.1 ≤ 99999 * (g.1 : Int)) ∧ (0 ≤ g.2.2.1 ∧ g.2.2.1 ≤ 99999 * (g.1 : Int)) ∧ (0 ≤ g.2.2.2.1 ∧ g.2.2.2.1 ≤ 99999 * (g.1 : Int)) ∧ (0 ≤ g.2.2.2.2 ∧ g.2.2.2.2 ≤ 99999 * (g.1 : Int)))) (fun g => nL - g.1) (0, (0 : Int), (0 : Int), (0 : Int), (0 : Int)) ?_ ?_ ?_
  · exact ⟨rfl, rfl, rfl, rfl, rfl, trivial⟩
  · exact ⟨hB7, (SlO.eqv (hO5) (z_c_impl_libTotals_9 L nL hbdL hleL hp0)), (hL).lo hk4, (z_c_impl_libTotals_8 L nL hbdL hleL hp0)⟩
  · rintro ⟨k, a, b, c, d⟩ f10 w11 hP13
    obtain ⟨hB12, hm14, hm15, hi16⟩ : (Lo w w11) ∧ (SlO w11 w.heap.size encI 1 3 (some (⟨g1, 0, none⟩ : Addr)) 4 4 [a, b, c, d]) ∧ (SlR w11 BL encLibRow 5 AL nL cL L) ∧ (k ≤ nL ∧ totN (L.take k) = [a, b, c, d] ∧ (0 ≤ a ∧ a ≤ 99999 * (k : Int)) ∧ (0 ≤ b ∧ b ≤ 99999 * (k : Int)) ∧ (0 ≤ c ∧ c ≤ 99999 * (k : Int)) ∧ (0 ≤ d ∧ d ≤ 99999 * (k : Int))) := hP13
    refine (?_ : W _ _ _ _ _ (act _ (sets f10 [(2, .slice none 0 0), (3, .slice (some (⟨g1, 0, none⟩ : Addr)) 4 4), (9, .slice AL nL cL), (10, .int .i64 (nL : Int)), (11, .int .i64 (k : Int))])) _)
    have hzw11 := hB12.size
    refine W.seq ?_
    refine W.regS (SR.q' (r_lt rfl rfl) <| SR.nil ?_)
    refine W.seq ?_
    refine W.cond_d rfl (fun h17 => ?_) (fun h17 => ?_)
    · refine W.skip ?_
      refine W.seq ?_
      refine W.block ?_
      refine W.seq ?_
      obtain ⟨x18, hx19⟩ := (hm15).get (i := k) (by omega)
      have hq20 := rows_rng hp0 hx19
      refine W.regS (SR.q' (r_ixR tsl24 (hm15) rfl rfl (by omega)) <| SR.q' (r_lda (l := encLibRow x18) agg29 rfl (fun _ _ hu => (hm15).cell hx19 hu) ((hm15).esz _)) <| SR.alloc (l := [.int .i64 0, .int .i64 0, .int .i64 0, .int .i64 0, .int .i64 0]) tz29 rfl ?_)
      intro g21 w22 hg23 hk24 hs25 hb26
      have hz27 := hk24.size
      have hB28 := hB12.lo hk24
      have hd29 : ¬ (some (⟨g1, 0, none⟩ : Addr)) = some ⟨g21, 0, none⟩ := fun e' => by have := (hm14).base_le e'; omega
      refine SR.store (o := 0) (vs := [.int .i64 x18.Month, .int .i64 x18.Lent, .int .i64 x18.Copied, .int .i64 x18.Given, .int .i64 x18.Fines]) agg29.2 rfl rfl rfl rfl (hb26) (Nat.le_of_ble_eq_true rfl) rfl ?_
      intro w30 hk31 hs32 hb33
      have hz34 := hk31.size
      have hB35 := hB28.new hk31 (by omega)
      refine SR.nil ?_
      refine W.seq ?_
      refine W.regS (SR.q' (r_fa fa29_1 rfl) <| SR.q' (r_ld (v := .int .i64 x18.Lent) sca3 rfl ((hb33).cell rfl)) <| SR.q' (r_fa fa29_2 rfl) <| SR.q' (r_ld (v := .int .i64 x18.Copied) sca3 rfl ((hb33).cell rfl)) <| SR.q' (r_fa fa29_3 rfl) <| SR.q' (r_ld (v := .int .i64 x18.Given) sca3 rfl ((hb33).cell rfl)) <| SR.q' (r_fa fa29_4 rfl) <| SR.q' (r_ld (v := .int .i64 x18.Fines) sca3 rfl ((hb33).cell rfl)) <| SR.lit (vs := [.int .i64 x18.Lent, .int .i64 x18.Copied, .int .i64 x18.Given, .int .i64 x18.Fines]) (L := ([x18.Lent, x18.Copied, x18.Given, x18.Fines] : List Int)) (enc := encI) tel32 (fun _ => rfl) rfl rfl rfl (by decide) ?_)
      intro g36 w37 hg38 hk39 hO40
      have hz41 := hk39.size
      have hB42 := hB35.lo hk39
      have hd43 : ¬ (some (⟨g1, 0, none⟩ : Addr)) = some ⟨g36, 0, none⟩ := fun e' => by have := (((hm14).lo hk24).kp hk31 (fun b_ hb e' => hd29 (by have e'' : b_ = g21 := e'; rw [← e'']; exact hb))).base_le e'; omega
      refine SR.q' (r_len und32 rfl) <| SR.q' (r_mv (v := .int .i64 0) rfl) <| SR.nil ?_
      refine W.block ?_
      refine W.loop (σ := Nat) (fun g => [(2, .slice none 0 0), (3, .slice (some (⟨g1, 0, none⟩ : Addr)) 4 4), (9, .slice AL nL cL), (10, .int .i64 (nL : Int)), (11, .int .i64 (k : Int)), (23, .slice (some (⟨g36, 0, none⟩ : Addr)) 4 4), (24, .int .i64 (4 : Int)), (25, .int .i64 (g : Int))]) (fun g w' => (Lo w w') ∧ (SlO w' w.heap.size encI 1 3 (some (⟨g1, 0, none⟩ : Addr)) 4 4 (addF [a, b, c, d] [x18.Lent, x18.Copied, x18.Given, x18.Fines] g)) ∧ (SlR w' BL encLibRow 5 AL nL cL L) ∧ (SlO w' w30.heap.size encI 1 3 (some (⟨g36, 0, none⟩ : Addr)) 4 4 ([x18.Lent, x18.Copied, x18.Given, x18.Fines] : List Int)) ∧ (g ≤ 4)) (fun g => 4 - g) 0 ?_ ?_ ?_
      · exact ⟨rfl, rfl, rfl, rfl, rfl, rfl, rfl, rfl, trivial⟩
      · exact ⟨hB42, (SlO.eqv ((((hm14).lo hk24).kp hk31 (fun b_ hb e' => hd29 (by have e'' : b_ = g21 := e'; rw [← e'']; exact hb))).lo hk39) (z_c_impl_libTotals_45 L nL hbdL hleL hp0 k a b c d hi16 h17 x18 hx19 hq20)), (((hm15).lo hk24).kp hk31 (fun b_ hb e' => by have e'' : b_ = g21 := e'; omega)).lo hk39, hO40, (z_c_impl_libTotals_44 L nL hbdL hleL hp0 k a b c d hi16 h17 x18 hx19 hq20)⟩
      · rintro j f46 w47 hP49
        obtain ⟨hB48, hm50, hm51, hm52, hi53⟩ : (Lo w w47) ∧ (SlO w47 w.heap.size encI 1 3 (some (⟨g1, 0, none⟩ : Addr)) 4 4 (addF [a, b, c, d] [x18.Lent, x18.Copied, x18.Given, x18.Fines] j)) ∧ (SlR w47 BL encLibRow 5 AL nL cL L) ∧ (SlO w47 w30.heap.size encI 1 3 (some (⟨g36, 0, none⟩ : Addr)) 4 4 ([x18.Lent, x18.Copied, x18.Given, x18.Fines] : List Int)) ∧ (j ≤ 4) := hP49
        refine (?_ : W _ _ _ _ _ (act _ (sets f46 [(2, .slice none 0 0), (3, .slice (some (⟨g1, 0, none⟩ : Addr)) 4 4), (9, .slice AL nL cL), (10, .int .i64 (nL : Int)), (11, .int .i64 (k : Int)), (23, .slice (some (⟨g36, 0, none⟩ : Addr)) 4 4), (24, .int .i64 (4 : Int)), (25, .int .i64 (j : Int))])) _)
        have hzw47 := hB48.size
        refine W.seq ?_
        refine W.regS (SR.q' (r_lt rfl rfl) <| SR.nil ?_)
        refine W.seq ?_
        refine W.cond_d rfl (fun h54 => ?_) (fun h54 => ?_)
        · refine W.skip ?_
          refine W.seq ?_
          refine W.block ?_
          refine W.seq ?_
          refine W.regS (SR.q' (r_mv (v := .int .i64 _) rfl) <| ?_)
          obtain ⟨x55, hx56⟩ := ((hm52).rd).get (i := j) (by omega)
          have hq57 := four_at hx56
          refine SR.q' (r_ixR tsl32 ((hm52).rd) rfl rfl (by omega)) <| SR.q' (r_ld (v := .int .i64 x55) sca3 rfl (((hm52).rd).cell0 hx56 rfl)) <| SR.q' (r_as (v := .int .i64 _) rfl) <| SR.q' (r_as (v := .int .i64 _) rfl) <| SR.nil ?_
          refine W.regS (SR.q' (r_mv (v := .slice _ _ _) rfl) <| SR.q' (r_mv (v := .int .i64 _) rfl) <| ?_)
          obtain ⟨x58, hx59⟩ := ((hm50).rd).get (i := j) (by omega)
          have hq60 := addF_at hx59
          refine SR.q' (r_ixR tsl32 ((hm50).rd) rfl rfl (by omega)) <| SR.q' (r_ld (v := .int .i64 x58) sca3 rfl (((hm50).rd).cell0 hx59 rfl)) <| SR.q' (r_mv (v := .int .i64 _) rfl) <| SR.q' (r_add rfl rfl (by omega)) <| SR.q' (r_ixR tsl32 ((hm50).rd) rfl rfl (by omega)) <| SR.storeO (o := 0) (vs := [.int .i64 (x58 + x55)]) (x1 := x58 + x55) sca3.2 rfl rfl rfl rfl (hm50) hx59 rfl (Nat.le_of_ble_eq_true rfl) rfl ?_
          intro w61 hk62 hs63 hO64
          have hz65 := hk62.size
          have hB66 := hB48.step hk62 (fun i_ hi_ e' => by have := ((hm50)).base_le e'; first | omega | (exfalso; omega) | exact e' | exact .inl e' | exact .inr e')
          have hx67 : ((addF [a, b, c, d] [x18.Lent, x18.Copied, x18.Given, x18.Fines] j).set ((j : Int).toNat) (x58 + x55))[(j : Int).toNat]? = some (x58 + x55) := List.getElem?_set_self (List.getElem?_eq_some_iff.1 hx59).1
          refine SR.nil ?_
          refine W.regS (SR.q' (r_add rfl rfl (by omega)) <| SR.q' (r_mv (v := .int .i64 _) rfl) <| SR.nil ?_)
          refine ⟨j + 1, _, rfl, ⟨rfl, rfl, rfl, rfl, rfl, rfl, rfl, rfl, trivial⟩, ⟨hB66, (SlO.eqv (hO64) (z_c_impl_libTotals_68 L nL hbdL hleL hp0 k a b c d hi16 h17 x18 hx19 hq20 j hi53 h54 x55 hx56 hq57 x58 hx59 hq60)), (hm51).kp hk62 (fun b_ hb e' => by have := ((hm50)).base_le e'; omega), (hm52).kp hk62 (fun b_ hb e' => hd43 (hb ▸ e')), ?_⟩, ?_⟩
          · exact (z_c_impl_libTotals_69 L nL hbdL hleL hp0 k a b c d hi16 h17 x18 hx19 hq20 j hi53 h54 x55 hx56 hq57 x58 hx59 hq60)
          · exact (z_c_impl_libTotals_70 L nL hbdL hleL hp0 k a b c d hi16 h17 x18 hx19 hq20 j hi53 h54 x55 hx56 hq57 x58 hx59 hq60)
        · refine W.exit (xin_here ?_)
          refine W.regS (SR.q' (r_add rfl rfl (by omega)) <| SR.q' (r_mv (v := .int .i64 _) rfl) <| SR.nil ?_)
          refine ⟨(k + 1, a + x18.Lent, b + x18.Copied, c + x18.Given, d + x18.Fines), _, rfl, ⟨rfl, rfl, rfl, rfl, rfl, trivial⟩, ⟨hB48, (SlO.eqv (hm50) (z_c_impl_libTotals_71 L nL hbdL hleL hp0 k a b c d hi16 h17 x18 hx19 hq20 j hi53 h54)), hm51, ?_⟩, ?_⟩
          · exact (z_c_impl_libTotals_72 L nL hbdL hleL hp0 k a b c d hi16 h17 x18 hx19 hq20 j hi53 h54)
          · exact (z_c_impl_libTotals_73 L nL hbdL hleL hp0 k a b c d hi16 h17 x18 hx19 hq20 j hi53 h54)
    · refine W.exit (xin_here ?_)
      refine W.seq ?_
      refine W.regS (SR.q' (r_mv (v := .slice _ _ _) rfl) <| SR.q' (r_as (v := .slice _ _ _) rfl) <| SR.nil ?_)
      refine W.ret ?_
      refine ret1 rfl (v := .slice _ _ _) rfl ?_
      exact ⟨(some (⟨g1, 0, none⟩ : Addr)), 4, 4, eR rfl, (SlO.eqv ((hm14).down (by omega)) (z_c_impl_libTotals_74 L nL hbdL hleL hp0 k a b c d hi16 h17)), hB12⟩

theorem z_c_impl_LibTotals_6 (L : List LibRow) (nL : Nat) (hbdL : (nL : Int) ≤ 9223372036854775807) (hleL : nL = L.length) (h5 : ¬ (RowsOK L)) : ([] : List Int) = totL L := by
  simp_all [totL]
theorem z_c_impl_LibTotals_7 (L : List LibRow) (nL : Nat) (hbdL : (nL : Int) ≤ 9223372036854775807) (hleL : nL = L.length) (h5 : ¬ (RowsOK L)) : ¬ (RowsOK L) := by
  assumption
theorem z_c_impl_LibTotals_19 (L : List LibRow) (nL : Nat) (hbdL : (nL : Int) ≤ 9223372036854775807) (hleL : nL = L.length) (h5 : RowsOK L) (hq8 : L.length ≤ 12) (n12 : Nat) (hl17 : n12 = (totN L).length) (hl18 : (n12 : Int) ≤ 9223372036854775807) : totN L = totL L := by
  rw [totL, if_pos ‹RowsOK L›]
theorem z_c_impl_LibTotals_20 (L : List LibRow) (nL : Nat) (hbdL : (nL : Int) ≤ 9223372036854775807) (hleL : nL = L.length) (h5 : RowsOK L) (hq8 : L.length ≤ 12) (n12 : Nat) (hl17 : n12 = (totN L).length) (hl18 : (n12 : Int) ≤ 9223372036854775807) : RowsOK L := by
  assumption
theorem c_impl_LibTotals (w : World) {AL : Option Addr} {nL cL BL : Nat}  (L : List LibRow) (hL : SlR w BL encLibRow 5 AL nL cL L) : Calls Try.prog 16 #[.slice AL nL cL] w fun e w' => ∃ (A1' : Option Addr) (n1' c1' : Nat), e = .returned (.tuple (List.toArray [.slice A1' n1' c1', .bool (decide (RowsOK L))])) ∧ SlO w' w.heap.size encI 1 3 A1' n1' c1' (totL L) ∧ Lo w w' := by
  refine calls_W 9 Try.func16 rfl rfl rfl ?_
  have hbdL := hL.bound
  have hleL := hL.len
  have hBbL := hL.bd
  refine W.seq ?_
  refine W.regS (SR.q' (r_as (v := .slice none 0 0) rfl) <| SR.q' (r_as (v := .bool false) rfl) <| SR.nil ?_)
  refine W.seq ?_
  refine W.seq ?_
  refine W.regS (SR.q' (r_mv (v := .slice _ _ _) rfl) <| SR.call ent20 (c_impl_AreLibRows w L ((hL))) rfl ?_)
  rintro e w1 ⟨rfl, hk2⟩
  refine ⟨_, rfl, ?_⟩
  have hz3 := hk2.size
  have hB4 := (Lo.refl w).lo hk2
  refine SR.q' (r_not rfl) <| SR.nil ?_
  refine W.cond_n rfl (fun h5 => ?_) (fun h5 => ?_)
  · refine W.seq ?_
    refine W.regS (SR.q' (r_as (v := .slice none 0 0) rfl) <| SR.q' (r_as (v := .bool false) rfl) <| SR.nil ?_)
    refine W.ret ?_
    refine ret2 rfl (v := .slice none 0 0) (v' := .bool _) rfl rfl ?_
    exact ⟨none, 0, 0, eR (eT2 rfl (eDF (z_c_impl_LibTotals_7 L nL hbdL hleL h5))), (SlO.eqv (SlO.nil (e := 3) (enc := encI) (fun _ => rfl) (by omega)) (z_c_impl_LibTotals_6 L nL hbdL hleL h5)), hB4⟩
  · have hq8 := rows_len h5
    refine W.skip ?_
    refine W.seq ?_
    refine W.regS (SR.q' (r_mv (v := .slice _ _ _) rfl) <| SR.call ent26 (c_impl_libTotals w1 L (((hL).lo hk2)) (by assumption)) rfl ?_)
    rintro e w9 ⟨A11, n12, c13, rfl, hO14, hk10⟩
    refine ⟨_, rfl, ?_⟩
    have hz15 := hk10.size
    have hB16 := hB4.lo hk10
    have hl17 := hO14.len
    have hl18 := hO14.rd.bound
    refine SR.q' (r_as (v := .slice _ _ _) rfl) <| SR.q' (r_as (v := .bool true) rfl) <| SR.nil ?_
    refine W.ret ?_
    refine ret2 rfl (v := .slice _ _ _) (v' := .bool _) rfl rfl ?_
    exact ⟨A11, n12, c13, eR (eT2 rfl (eDT (z_c_impl_LibTotals_20 L nL hbdL hleL h5 hq8 n12 hl17 hl18))), (SlO.eqv ((hO14).down (by omega)) (z_c_impl_LibTotals_19 L nL hbdL hleL h5 hq8 n12 hl17 hl18)), hB16⟩
end Go.Proofs.Ytmigipacjadpeaa
