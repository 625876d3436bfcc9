/- Walks, printed by a program of this claim's author. -/
import Derived.Test.YtocpdkhahmbaiaaDoorChecked
import Derived.Test.YtocpdkhahmbaiaaDoorUt
import Derived.Test.YtocpdkhahmbaiaaDoorWb
import Derived.Test.YtocpdkhahmbaiaaDoorFt
import Derived.Test.YtocpdkhahmbaiaaDoorSi
import Derived.Test.YtocpdkhahmbaiaaDoorG32b
namespace Go.Proofs.YtocpdkhahmbaiaaDoor
open Go Go.RowKit Fw
set_option maxRecDepth 10000
set_option linter.unusedVariables false
theorem ent31 : Ent Tryd.prog 31 := ent_of Tryd.func31 (by decide +kernel) rfl
theorem ent33 : Ent Tryd.prog 33 := ent_of Tryd.func33 (by decide +kernel) rfl
theorem ent34 : Ent Tryd.prog 34 := ent_of Tryd.func34 (by decide +kernel) rfl
theorem ent35 : Ent Tryd.prog 35 := ent_of Tryd.func35 (by decide +kernel) rfl
theorem ent36 : Ent Tryd.prog 36 := ent_of Tryd.func36 (by decide +kernel) rfl
theorem ent37 : Ent Tryd.prog 37 := ent_of Tryd.func37 (by decide +kernel) rfl
theorem ent44 : Ent Tryd.prog 44 := ent_of Tryd.func44 (by decide +kernel) rfl
theorem ent45 : Ent Tryd.prog 45 := ent_of Tryd.func45 (by decide +kernel) rfl
theorem ent46 : Ent Tryd.prog 46 := ent_of Tryd.func46 (by decide +kernel) rfl
theorem ent47 : Ent Tryd.prog 47 := ent_of Tryd.func47 (by decide +kernel) rfl
theorem ent61 : Ent Tryd.prog 61 := ent_of Tryd.func61 (by decide +kernel) rfl

theorem z_c_spec_l32Map_9 (x : Library) (nx_Maps : Nat) (hbdx_Maps : (nx_Maps : Int) ≤ 9223372036854775807) (hlex_Maps : nx_Maps = x.Maps.length) (nx_Away : Nat) (hbdx_Away : (nx_Away : Int) ≤ 9223372036854775807) (hlex_Away : nx_Away = x.Away.length) (id : Int) : 0 ≤ nx_Maps ∧ NoneTo (hasId id) x.Maps 0 := by
  exact ⟨Nat.zero_le _, NoneTo.zero⟩
theorem z_c_spec_l32Map_23 (x : Library) (nx_Maps : Nat) (hbdx_Maps : (nx_Maps : Int) ≤ 9223372036854775807) (hlex_Maps : nx_Maps = x.Maps.length) (nx_Away : Nat) (hbdx_Away : (nx_Away : Int) ≤ 9223372036854775807) (hlex_Away : nx_Away = x.Away.length) (id : Int) (k : Nat) (hi17 : k ≤ nx_Maps ∧ NoneTo (hasId id) x.Maps k) (h19 : (k : Int) < (nx_Maps : Int)) (hx21 : x.Maps[k]? = some (gt x.Maps k)) (h22 : ((gt x.Maps k).Id) = id) : (k : Int) = idxF (hasId id) x.Maps := by
  first | exact idx_at (And.right ‹_ ∧ NoneTo _ _ _›) ‹x.Maps[k]? = some _› (by simpa [hasId] using ‹_›) | exact idx_no (And.right ‹_ ∧ NoneTo _ _ _›) hlex_Maps ‹_›
theorem z_c_spec_l32Map_24 (x : Library) (nx_Maps : Nat) (hbdx_Maps : (nx_Maps : Int) ≤ 9223372036854775807) (hlex_Maps : nx_Maps = x.Maps.length) (nx_Away : Nat) (hbdx_Away : (nx_Away : Int) ≤ 9223372036854775807) (hlex_Away : nx_Away = x.Away.length) (id : Int) (k : Nat) (hi17 : k ≤ nx_Maps ∧ NoneTo (hasId id) x.Maps k) (h19 : (k : Int) < (nx_Maps : Int)) (hx21 : x.Maps[k]? = some (gt x.Maps k)) (h22 : ¬ (((gt x.Maps k).Id) = id)) : k + 1 ≤ nx_Maps ∧ NoneTo (hasId id) x.Maps (k + 1) := by
  exact ⟨by omega, NoneTo.next (And.right ‹_ ∧ NoneTo _ _ _›) ‹x.Maps[k]? = some _› (by simpa [hasId] using ‹_›)⟩
theorem z_c_spec_l32Map_25 (x : Library) (nx_Maps : Nat) (hbdx_Maps : (nx_Maps : Int) ≤ 9223372036854775807) (hlex_Maps : nx_Maps = x.Maps.length) (nx_Away : Nat) (hbdx_Away : (nx_Away : Int) ≤ 9223372036854775807) (hlex_Away : nx_Away = x.Away.length) (id : Int) (k : Nat) (hi17 : k ≤ nx_Maps ∧ NoneTo (hasId id) x.Maps k) (h19 : (k : Int) < (nx_Maps : Int)) (hx21 : x.Maps[k]? = some (gt x.Maps k)) (h22 : ¬ (((gt x.Maps k).Id) = id)) : nx_Maps - (k + 1) < nx_Maps - k := by
  omega
theorem z_c_spec_l32Map_26 (x : Library) (nx_Maps : Nat) (hbdx_Maps : (nx_Maps : Int) ≤ 9223372036854775807) (hlex_Maps : nx_Maps = x.Maps.length) (nx_Away : Nat) (hbdx_Away : (nx_Away : Int) ≤ 9223372036854775807) (hlex_Away : nx_Away = x.Away.length) (id : Int) (k : Nat) (hi17 : k ≤ nx_Maps ∧ NoneTo (hasId id) x.Maps k) (h19 : ¬ ((k : Int) < (nx_Maps : Int))) : (-1) = idxF (hasId id) x.Maps := by
  first | exact idx_at (And.right ‹_ ∧ NoneTo _ _ _›) ‹x.Maps[k]? = some _› (by simpa [hasId] using ‹_›) | exact idx_no (And.right ‹_ ∧ NoneTo _ _ _›) hlex_Maps ‹_›
theorem c_spec_l32Map (w : World) (x : Library) {Ax_Maps : Option Addr} {nx_Maps cx_Maps Bx_Maps : Nat} (hx_Maps : SlR w Bx_Maps encLMap 3 Ax_Maps nx_Maps cx_Maps x.Maps) {Ax_Away : Option Addr} {nx_Away cx_Away Bx_Away : Nat} (hx_Away : SlR w Bx_Away encAway 2 Ax_Away nx_Away cx_Away x.Away) (id : Int) : Calls Tryd.prog 61 #[.agg (List.toArray [.slice Ax_Maps nx_Maps cx_Maps, .slice Ax_Away nx_Away cx_Away, .int .i64 x.Bought, .int .i64 x.Dropped, .int .i64 x.Mended]), .int .i64 id] w fun e w' => e = .returned (.int .i64 (idxF (hasId id) x.Maps)) ∧ Lo w w' := by
  refine calls_W 22 Tryd.func61 rfl rfl rfl ?_
  have hbdx_Maps := hx_Maps.bound
  have hlex_Maps := hx_Maps.len
  have hBbx_Maps := hx_Maps.bd
  have hbdx_Away := hx_Away.bound
  have hlex_Away := hx_Away.len
  have hBbx_Away := hx_Away.bd
  refine W.seq ?_
  refine W.regS (SR.box (v := .agg (List.toArray _)) (l := [.slice Ax_Maps nx_Maps cx_Maps, .slice Ax_Away nx_Away cx_Away, .int .i64 x.Bought, .int .i64 x.Dropped, .int .i64 x.Mended]) rfl rfl ?_)
  intro g1 w2 hg3 hk4 hs5 hb6
  have hz7 := hk4.size
  have hB8 := (Lo.refl w).lo hk4
  refine SR.q' (r_as (v := .int .i64 0) rfl) <| SR.nil ?_
  refine W.seq ?_
  refine W.seq ?_
  refine W.regS (SR.q' (r_as (v := .int .i64 0) rfl) <| SR.nil ?_)
  refine W.block ?_
  refine W.loop (σ := Nat) (fun g => [(1, .int .i64 id), (2, .pointer (some ((⟨g1, 0, none⟩ : Addr)))), (5, .int .i64 (g : Int))]) (fun g w' => (Lo w w') ∧ (Blk w' g1 35 [.slice Ax_Maps nx_Maps cx_Maps, .slice Ax_Away nx_Away cx_Away, .int .i64 x.Bought, .int .i64 x.Dropped, .int .i64 x.Mended]) ∧ (SlR w' Bx_Maps encLMap 3 Ax_Maps nx_Maps cx_Maps x.Maps) ∧ (SlR w' Bx_Away encAway 2 Ax_Away nx_Away cx_Away x.Away) ∧ (g ≤ nx_Maps ∧ NoneTo (hasId id) x.Maps g)) (fun g => nx_Maps - g) 0 ?_ ?_ ?_
  · exact ⟨rfl, rfl, rfl, trivial⟩
  · exact ⟨hB8, hb6, (hx_Maps).lo hk4, (hx_Away).lo hk4, (z_c_spec_l32Map_9 x nx_Maps hbdx_Maps hlex_Maps nx_Away hbdx_Away hlex_Away id)⟩
  · rintro k f10 w11 hP13
    obtain ⟨hB12, hm14, hm15, hm16, hi17⟩ : (Lo w w11) ∧ (Blk w11 g1 35 [.slice Ax_Maps nx_Maps cx_Maps, .slice Ax_Away nx_Away cx_Away, .int .i64 x.Bought, .int .i64 x.Dropped, .int .i64 x.Mended]) ∧ (SlR w11 Bx_Maps encLMap 3 Ax_Maps nx_Maps cx_Maps x.Maps) ∧ (SlR w11 Bx_Away encAway 2 Ax_Away nx_Away cx_Away x.Away) ∧ (k ≤ nx_Maps ∧ NoneTo (hasId id) x.Maps k) := hP13
    refine (?_ : W _ _ _ _ _ (act _ (sets f10 [(1, .int .i64 id), (2, .pointer (some ((⟨g1, 0, none⟩ : Addr)))), (5, .int .i64 (k : Int))])) _)
    have hzw11 := hB12.size
    have hl18 := hm14.lt
    refine W.seq ?_
    refine W.seq ?_
    refine W.regS (SR.q' (r_mv (v := .int .i64 _) rfl) <| SR.q' (r_fa fa35_0 rfl) <| SR.q' (r_ld (v := .slice Ax_Maps nx_Maps cx_Maps) sca32 rfl ((hm14).cell rfl)) <| SR.q' (r_len und32 rfl) <| SR.q' (r_lt rfl rfl) <| SR.nil ?_)
    refine W.cond_d rfl (fun h19 => ?_) (fun h19 => ?_)
    · refine W.skip ?_
      refine W.seq ?_
      refine W.block ?_
      refine W.seq ?_
      refine W.regS (SR.q' (r_fa fa35_0 rfl) <| SR.q' (r_ld (v := .slice Ax_Maps nx_Maps cx_Maps) sca32 rfl ((hm14).cell rfl)) <| SR.q' (r_mv (v := .int .i64 _) rfl) <| ?_)
      have hx21 := (hm15).elem (i := k) (by omega)
      refine SR.q' (r_ixR tsl32 (hm15) rfl rfl (by omega)) <| SR.q' (r_fa fa54_0 rfl) <| SR.q' (r_ld (v := .int .i64 ((gt x.Maps k).Id)) sca3 rfl ((hm15).cell hx21 rfl)) <| SR.q' (r_mv (v := .int .i64 _) rfl) <| SR.q' (r_eq rfl rfl) <| SR.nil ?_
      refine W.cond_d rfl (fun h22 => ?_) (fun h22 => ?_)
      · refine W.seq ?_
        refine W.regS (SR.q' (r_mv (v := .int .i64 _) rfl) <| SR.q' (r_as (v := .int .i64 _) rfl) <| SR.nil ?_)
        refine W.ret ?_
        refine ret1 rfl (v := .int .i64 _) rfl ?_
        exact ⟨eR (eI (z_c_spec_l32Map_23 x nx_Maps hbdx_Maps hlex_Maps nx_Away hbdx_Away hlex_Away id k hi17 h19 hx21 h22)), hB12⟩
      · refine W.skip ?_
        refine W.regS (SR.q' (r_mv (v := .int .i64 _) rfl) <| SR.q' (r_add rfl rfl (by omega)) <| SR.q' (r_as (v := .int .i64 _) rfl) <| SR.nil ?_)
        refine ⟨k + 1, _, rfl, ⟨rfl, rfl, rfl, trivial⟩, ⟨hB12, hm14, hm15, hm16, ?_⟩, ?_⟩
        · exact (z_c_spec_l32Map_24 x nx_Maps hbdx_Maps hlex_Maps nx_Away hbdx_Away hlex_Away id k hi17 h19 hx21 h22)
        · exact (z_c_spec_l32Map_25 x nx_Maps hbdx_Maps hlex_Maps nx_Away hbdx_Away hlex_Away id k hi17 h19 hx21 h22)
    · refine W.exit (xin_here ?_)
      refine W.seq ?_
      refine W.regS (SR.q' (r_as (v := .int .i64 (-1)) rfl) <| SR.nil ?_)
      refine W.ret ?_
      refine ret1 rfl (v := .int .i64 _) rfl ?_
      exact ⟨eR (eI (z_c_spec_l32Map_26 x nx_Maps hbdx_Maps hlex_Maps nx_Away hbdx_Away hlex_Away id k hi17 h19)), hB12⟩

theorem z_c_spec_l32Maps_9 (x : Library) (nx_Maps : Nat) (hbdx_Maps : (nx_Maps : Int) ≤ 9223372036854775807) (hlex_Maps : nx_Maps = x.Maps.length) (nx_Away : Nat) (hbdx_Away : (nx_Away : Int) ≤ 9223372036854775807) (hlex_Away : nx_Away = x.Away.length) : 0 ≤ nx_Maps ∧ MTo x.Maps 0 := by
  exact ⟨Nat.zero_le _, MTo.zero⟩
theorem z_c_spec_l32Maps_60 (x : Library) (nx_Maps : Nat) (hbdx_Maps : (nx_Maps : Int) ≤ 9223372036854775807) (hlex_Maps : nx_Maps = x.Maps.length) (nx_Away : Nat) (hbdx_Away : (nx_Away : Int) ≤ 9223372036854775807) (hlex_Away : nx_Away = x.Away.length) (k : Nat) (hi17 : k ≤ nx_Maps ∧ MTo x.Maps k) (h19 : (k : Int) < (nx_Maps : Int)) (hx21 : x.Maps[k]? = some (gt x.Maps k)) (h59 : (¬ (1 ≤ ((gt x.Maps k).Id) ∧ ((gt x.Maps k).Id) ≤ 99)) ∨ ((¬ (0 ≤ ((gt x.Maps k).Copies) ∧ ((gt x.Maps k).Copies) ≤ 99)) ∨ ((¬ (0 ≤ ((gt x.Maps k).Torn) ∧ ((gt x.Maps k).Torn) ≤ ((gt x.Maps k).Copies))) ∨ ((0 < (k : Int)) ∧ (((gt x.Maps k).Id) ≤ ((gt x.Maps (k - 1)).Id)))))) : ¬ (MapsOK x.Maps ∧ x.Maps.length ≤ 8) := by
  subst hlex_Maps
  first | exact (fun hh => hh.1 k (by omega) ‹_›) | (have h1 := MTo.end_ (And.right ‹_ ∧ MTo _ _›) (by omega); exact ⟨fun h => ⟨h1, by omega⟩, fun h => by omega⟩)
theorem z_c_spec_l32Maps_65 (x : Library) (nx_Maps : Nat) (hbdx_Maps : (nx_Maps : Int) ≤ 9223372036854775807) (hlex_Maps : nx_Maps = x.Maps.length) (nx_Away : Nat) (hbdx_Away : (nx_Away : Int) ≤ 9223372036854775807) (hlex_Away : nx_Away = x.Away.length) (k : Nat) (hi17 : k ≤ nx_Maps ∧ MTo x.Maps k) (h19 : (k : Int) < (nx_Maps : Int)) (hx21 : x.Maps[k]? = some (gt x.Maps k)) (h59 : ¬ ((¬ (1 ≤ ((gt x.Maps k).Id) ∧ ((gt x.Maps k).Id) ≤ 99)) ∨ ((¬ (0 ≤ ((gt x.Maps k).Copies) ∧ ((gt x.Maps k).Copies) ≤ 99)) ∨ ((¬ (0 ≤ ((gt x.Maps k).Torn) ∧ ((gt x.Maps k).Torn) ≤ ((gt x.Maps k).Copies))) ∨ ((0 < (k : Int)) ∧ (((gt x.Maps k).Id) ≤ ((gt x.Maps (k - 1)).Id))))))) (hq61 : 1 ≤ ((gt x.Maps k).Id) ∧ ((gt x.Maps k).Id) ≤ 99) (hq62 : 0 ≤ ((gt x.Maps k).Copies) ∧ ((gt x.Maps k).Copies) ≤ 99) (hq63 : 0 ≤ ((gt x.Maps k).Torn) ∧ ((gt x.Maps k).Torn) ≤ ((gt x.Maps k).Copies)) (hq64 : ¬ ((0 < (k : Int)) ∧ (((gt x.Maps k).Id) ≤ ((gt x.Maps (k - 1)).Id)))) : k + 1 ≤ nx_Maps ∧ MTo x.Maps (k + 1) := by
  exact ⟨by omega, MTo.next (And.right ‹_ ∧ MTo _ _›) ‹_›⟩
theorem z_c_spec_l32Maps_66 (x : Library) (nx_Maps : Nat) (hbdx_Maps : (nx_Maps : Int) ≤ 9223372036854775807) (hlex_Maps : nx_Maps = x.Maps.length) (nx_Away : Nat) (hbdx_Away : (nx_Away : Int) ≤ 9223372036854775807) (hlex_Away : nx_Away = x.Away.length) (k : Nat) (hi17 : k ≤ nx_Maps ∧ MTo x.Maps k) (h19 : (k : Int) < (nx_Maps : Int)) (hx21 : x.Maps[k]? = some (gt x.Maps k)) (h59 : ¬ ((¬ (1 ≤ ((gt x.Maps k).Id) ∧ ((gt x.Maps k).Id) ≤ 99)) ∨ ((¬ (0 ≤ ((gt x.Maps k).Copies) ∧ ((gt x.Maps k).Copies) ≤ 99)) ∨ ((¬ (0 ≤ ((gt x.Maps k).Torn) ∧ ((gt x.Maps k).Torn) ≤ ((gt x.Maps k).Copies))) ∨ ((0 < (k : Int)) ∧ (((gt x.Maps k).Id) ≤ ((gt x.Maps (k - 1)).Id))))))) (hq61 : 1 ≤ ((gt x.Maps k).Id) ∧ ((gt x.Maps k).Id) ≤ 99) (hq62 : 0 ≤ ((gt x.Maps k).Copies) ∧ ((gt x.Maps k).Copies) ≤ 99) (hq63 : 0 ≤ ((gt x.Maps k).Torn) ∧ ((gt x.Maps k).Torn) ≤ ((gt x.Maps k).Copies)) (hq64 : ¬ ((0 < (k : Int)) ∧ (((gt x.Maps k).Id) ≤ ((gt x.Maps (k - 1)).Id)))) : nx_Maps - (k + 1) < nx_Maps - k := by
  omega
theorem z_c_spec_l32Maps_67 (x : Library) (nx_Maps : Nat) (hbdx_Maps : (nx_Maps : Int) ≤ 9223372036854775807) (hlex_Maps : nx_Maps = x.Maps.length) (nx_Away : Nat) (hbdx_Away : (nx_Away : Int) ≤ 9223372036854775807) (hlex_Away : nx_Away = x.Away.length) (k : Nat) (hi17 : k ≤ nx_Maps ∧ MTo x.Maps k) (h19 : ¬ ((k : Int) < (nx_Maps : Int))) : ((nx_Maps : Int) ≤ 8) ↔ (MapsOK x.Maps ∧ x.Maps.length ≤ 8) := by
  subst hlex_Maps
  first | exact (fun hh => hh.1 k (by omega) ‹_›) | (have h1 := MTo.end_ (And.right ‹_ ∧ MTo _ _›) (by omega); exact ⟨fun h => ⟨h1, by omega⟩, fun h => by omega⟩)
theorem c_spec_l32Maps (w : World) (x : Library) {Ax_Maps : Option Addr} {nx_Maps cx_Maps Bx_Maps : Nat} (hx_Maps : SlR w Bx_Maps encLMap 3 Ax_Maps nx_Maps cx_Maps x.Maps) {Ax_Away : Option Addr} {nx_Away cx_Away Bx_Away : Nat} (hx_Away : SlR w Bx_Away encAway 2 Ax_Away nx_Away cx_Away x.Away) : Calls Tryd.prog 44 #[.agg (List.toArray [.slice Ax_Maps nx_Maps cx_Maps, .slice Ax_Away nx_Away cx_Away, .int .i64 x.Bought, .int .i64 x.Dropped, .int .i64 x.Mended])] w fun e w' => e = .returned (.bool (decide (MapsOK x.Maps ∧ x.Maps.length ≤ 8))) ∧ Lo w w' := by
  refine calls_W 55 Tryd.func44 rfl rfl rfl ?_
  have hbdx_Maps := hx_Maps.bound
  have hlex_Maps := hx_Maps.len
  have hBbx_Maps := hx_Maps.bd
  have hbdx_Away := hx_Away.bound
  have hlex_Away := hx_Away.len
  have hBbx_Away := hx_Away.bd
  refine W.seq ?_
  refine W.regS (SR.box (v := .agg (List.toArray _)) (l := [.slice Ax_Maps nx_Maps cx_Maps, .slice Ax_Away nx_Away cx_Away, .int .i64 x.Bought, .int .i64 x.Dropped, .int .i64 x.Mended]) rfl rfl ?_)
  intro g1 w2 hg3 hk4 hs5 hb6
  have hz7 := hk4.size
  have hB8 := (Lo.refl w).lo hk4
  refine SR.q' (r_as (v := .bool false) rfl) <| SR.nil ?_
  refine W.seq ?_
  refine W.seq ?_
  refine W.regS (SR.q' (r_as (v := .int .i64 0) rfl) <| SR.nil ?_)
  refine W.block ?_
  refine W.loop (σ := Nat) (fun g => [(1, .pointer (some ((⟨g1, 0, none⟩ : Addr)))), (3, .int .i64 (g : Int))]) (fun g w' => (Lo w w') ∧ (Blk w' g1 35 [.slice Ax_Maps nx_Maps cx_Maps, .slice Ax_Away nx_Away cx_Away, .int .i64 x.Bought, .int .i64 x.Dropped, .int .i64 x.Mended]) ∧ (SlR w' Bx_Maps encLMap 3 Ax_Maps nx_Maps cx_Maps x.Maps) ∧ (SlR w' Bx_Away encAway 2 Ax_Away nx_Away cx_Away x.Away) ∧ (g ≤ nx_Maps ∧ MTo x.Maps g)) (fun g => nx_Maps - g) 0 ?_ ?_ ?_
  · exact ⟨rfl, rfl, trivial⟩
  · exact ⟨hB8, hb6, (hx_Maps).lo hk4, (hx_Away).lo hk4, (z_c_spec_l32Maps_9 x nx_Maps hbdx_Maps hlex_Maps nx_Away hbdx_Away hlex_Away)⟩
  · rintro k f10 w11 hP13
    obtain ⟨hB12, hm14, hm15, hm16, hi17⟩ : (Lo w w11) ∧ (Blk w11 g1 35 [.slice Ax_Maps nx_Maps cx_Maps, .slice Ax_Away nx_Away cx_Away, .int .i64 x.Bought, .int .i64 x.Dropped, .int .i64 x.Mended]) ∧ (SlR w11 Bx_Maps encLMap 3 Ax_Maps nx_Maps cx_Maps x.Maps) ∧ (SlR w11 Bx_Away encAway 2 Ax_Away nx_Away cx_Away x.Away) ∧ (k ≤ nx_Maps ∧ MTo x.Maps k) := hP13
    refine (?_ : W _ _ _ _ _ (act _ (sets f10 [(1, .pointer (some ((⟨g1, 0, none⟩ : Addr)))), (3, .int .i64 (k : Int))])) _)
    have hzw11 := hB12.size
    have hl18 := hm14.lt
    refine W.seq ?_
    refine W.seq ?_
    refine W.regS (SR.q' (r_mv (v := .int .i64 _) rfl) <| SR.q' (r_fa fa35_0 rfl) <| SR.q' (r_ld (v := .slice Ax_Maps nx_Maps cx_Maps) sca32 rfl ((hm14).cell rfl)) <| SR.q' (r_len und32 rfl) <| SR.q' (r_lt rfl rfl) <| SR.nil ?_)
    refine W.cond_d rfl (fun h19 => ?_) (fun h19 => ?_)
    · refine W.skip ?_
      refine W.seq ?_
      refine W.block ?_
      refine W.seq ?_
      refine W.regS (SR.q' (r_fa fa35_0 rfl) <| SR.q' (r_ld (v := .slice Ax_Maps nx_Maps cx_Maps) sca32 rfl ((hm14).cell rfl)) <| SR.q' (r_mv (v := .int .i64 _) rfl) <| ?_)
      have hx21 := (hm15).elem (i := k) (by omega)
      refine SR.q' (r_ixR tsl32 (hm15) rfl rfl (by omega)) <| SR.q' (r_lda (l := encLMap (gt x.Maps k)) agg54 rfl (fun _ _ hu => (hm15).cell hx21 hu) ((hm15).esz _)) <| SR.alloc (l := [.int .i64 0, .int .i64 0, .int .i64 0]) tz54 rfl ?_
      intro g22 w23 hg24 hk25 hs26 hb27
      have hz28 := hk25.size
      have hB29 := hB12.lo hk25
      refine SR.store (o := 0) (vs := [.int .i64 ((gt x.Maps k).Id), .int .i64 ((gt x.Maps k).Copies), .int .i64 ((gt x.Maps k).Torn)]) agg54.2 rfl rfl rfl rfl (hb27) (Nat.le_of_ble_eq_true rfl) rfl ?_
      intro w30 hk31 hs32 hb33
      have hz34 := hk31.size
      have hB35 := hB29.new hk31 (by omega)
      refine SR.nil ?_
      refine W.seq ?_
      refine W.regJD mo (by kernel_rfl) (fun f' w' => At f' [(1, .pointer (some ((⟨g1, 0, none⟩ : Addr)))), (3, .int .i64 (k : Int)), (50, .bool (decide ((¬ (1 ≤ ((gt x.Maps k).Id) ∧ ((gt x.Maps k).Id) ≤ 99)) ∨ ((¬ (0 ≤ ((gt x.Maps k).Copies) ∧ ((gt x.Maps k).Copies) ≤ 99)) ∨ ((¬ (0 ≤ ((gt x.Maps k).Torn) ∧ ((gt x.Maps k).Torn) ≤ ((gt x.Maps k).Copies))) ∨ ((0 < (k : Int)) ∧ (((gt x.Maps k).Id) ≤ ((gt x.Maps (k - 1)).Id))))))))] ∧ Lo w30 w') ?_ ?_
      · refine QR.q' (fun w' hw' => r_fa fa54_0 rfl) <| QR.q' (fun w' hw' => r_ld (v := .int .i64 ((gt x.Maps k).Id)) sca3 rfl (((hb33).lo hw').cell rfl)) <| QR.call ent60 (fun w' hw' => (c_spec_l1In w' ((gt x.Maps k).Id) 1 99).mono fun _ _ h => ⟨h.1, hw'.trans h.2⟩) rfl <| QR.q' (fun w' hw' => r_not rfl) <| QR.q' (fun w' hw' => r_mv (v := .bool _) rfl) <| QR.splitN (fun h36 => ?_) (fun h36 => ?_)
        · refine QR.s' rfl <| QR.s' rfl <| QR.s' rfl <| QR.s' rfl <| QR.q' (fun w' hw' => r_pick true rfl (v := .bool true) rfl) <| QR.q' (fun w' hw' => r_mv (v := .bool _) rfl) <| QR.s' rfl <| QR.s' rfl <| QR.s' rfl <| QR.s' rfl <| QR.s' rfl <| QR.s' rfl <| QR.q' (fun w' hw' => r_pick true rfl (v := .bool true) rfl) <| QR.q' (fun w' hw' => r_mv (v := .bool _) rfl) <| QR.s' rfl <| QR.s' rfl <| QR.s' rfl <| QR.u' rfl <| QR.u' rfl <| QR.u' rfl <| QR.u' rfl <| QR.u' rfl <| QR.u' rfl <| QR.u' rfl <| QR.u' rfl <| QR.u' rfl <| QR.u' rfl <| QR.s' rfl <| QR.q' (fun w' hw' => r_pick true rfl (v := .bool true) rfl) <| QR.nil ?_
          intro w37 hk38
          exact ⟨⟨rfl, rfl, (eDT ((jmf h36).1 trivial)), trivial⟩, hk38⟩
        · refine QR.g' rfl (fun w' hw' => r_fa fa54_1 rfl) <| QR.g' rfl (fun w' hw' => r_ld (v := .int .i64 ((gt x.Maps k).Copies)) sca3 rfl (((hb33).lo hw').cell rfl)) <| QR.gcall rfl ent60 (fun w' hw' => (c_spec_l1In w' ((gt x.Maps k).Copies) 0 99).mono fun _ _ h => ⟨h.1, hw'.trans h.2⟩) rfl <| QR.g' rfl (fun w' hw' => r_not rfl) <| QR.q' (fun w' hw' => r_pick false rfl (v := .bool _) rfl) <| QR.q' (fun w' hw' => r_mv (v := .bool _) rfl) <| QR.splitN (fun h39 => ?_) (fun h39 => ?_)
          · refine QR.s' rfl <| QR.s' rfl <| QR.s' rfl <| QR.s' rfl <| QR.s' rfl <| QR.s' rfl <| QR.q' (fun w' hw' => r_pick true rfl (v := .bool true) rfl) <| QR.q' (fun w' hw' => r_mv (v := .bool _) rfl) <| QR.s' rfl <| QR.s' rfl <| QR.s' rfl <| QR.u' rfl <| QR.u' rfl <| QR.u' rfl <| QR.u' rfl <| QR.u' rfl <| QR.u' rfl <| QR.u' rfl <| QR.u' rfl <| QR.u' rfl <| QR.u' rfl <| QR.s' rfl <| QR.q' (fun w' hw' => r_pick true rfl (v := .bool true) rfl) <| QR.nil ?_
            intro w40 hk41
            exact ⟨⟨rfl, rfl, (eDT (((jmf h39).trans (jmt h36)).1 trivial)), trivial⟩, hk41⟩
          · refine QR.g' rfl (fun w' hw' => r_fa fa54_2 rfl) <| QR.g' rfl (fun w' hw' => r_ld (v := .int .i64 ((gt x.Maps k).Torn)) sca3 rfl (((hb33).lo hw').cell rfl)) <| QR.g' rfl (fun w' hw' => r_fa fa54_1 rfl) <| QR.g' rfl (fun w' hw' => r_ld (v := .int .i64 ((gt x.Maps k).Copies)) sca3 rfl (((hb33).lo hw').cell rfl)) <| QR.gcall rfl ent60 (fun w' hw' => (c_spec_l1In w' ((gt x.Maps k).Torn) 0 ((gt x.Maps k).Copies)).mono fun _ _ h => ⟨h.1, hw'.trans h.2⟩) rfl <| QR.g' rfl (fun w' hw' => r_not rfl) <| QR.q' (fun w' hw' => r_pick false rfl (v := .bool _) rfl) <| QR.q' (fun w' hw' => r_mv (v := .bool _) rfl) <| QR.splitN (fun h42 => ?_) (fun h42 => ?_)
            · refine QR.s' rfl <| QR.s' rfl <| QR.s' rfl <| QR.u' rfl <| QR.u' rfl <| QR.u' rfl <| QR.u' rfl <| QR.u' rfl <| QR.u' rfl <| QR.u' rfl <| QR.u' rfl <| QR.u' rfl <| QR.u' rfl <| QR.s' rfl <| QR.q' (fun w' hw' => r_pick true rfl (v := .bool true) rfl) <| QR.nil ?_
              intro w43 hk44
              exact ⟨⟨rfl, rfl, (eDT ((((jmf h42).trans (jmt h39)).trans (jmt h36)).1 trivial)), trivial⟩, hk44⟩
            · refine QR.g' rfl (fun w' hw' => r_mv (v := .int .i64 _) rfl) <| QR.g' rfl (fun w' hw' => r_gt rfl rfl) <| QR.g' rfl (fun w' hw' => r_mv (v := .bool _) rfl) <| QR.splitD (fun h45 => ?_) (fun h45 => ?_)
              · refine QR.g' rfl (fun w' hw' => r_fa fa35_0 rfl) <| QR.g' rfl (fun w' hw' => r_ld (v := .slice Ax_Maps nx_Maps cx_Maps) sca32 rfl (((((hm14).lo hk25).kp hk31 (fun e' => by have e'' : g1 = g22 := e'; omega)).lo hw').cell rfl)) <| QR.g' rfl (fun w' hw' => r_mv (v := .int .i64 _) rfl) <| QR.g' rfl (fun w' hw' => r_sub rfl rfl (by omega)) <| ?_
                have hx47 := (((hm15).lo hk25).kp hk31 (fun b_ hb e' => by have e'' : b_ = g22 := e'; omega)).elem (i := ((k : Int) - 1).toNat) (by omega)
                rw [show ((k : Int) - 1).toNat = k - 1 from by omega] at hx47
                have hx48 : x.Maps[((k : Int) - 1).toNat]? = some (gt x.Maps (k - 1)) := (show ((k : Int) - 1).toNat = k - 1 from by omega) ▸ hx47
                refine QR.g' rfl (fun w' hw' => r_ixR tsl32 (((((hm15).lo hk25).kp hk31 (fun b_ hb e' => by have e'' : b_ = g22 := e'; omega)).lo hw')) rfl rfl (by omega)) <| QR.g' rfl (fun w' hw' => r_fa fa54_0 rfl) <| QR.g' rfl (fun w' hw' => r_ld (v := .int .i64 ((gt x.Maps (k - 1)).Id)) sca3 rfl ((((((hm15).lo hk25).kp hk31 (fun b_ hb e' => by have e'' : b_ = g22 := e'; omega)).lo hw')).cell hx48 rfl)) <| QR.g' rfl (fun w' hw' => r_fa fa54_0 rfl) <| QR.g' rfl (fun w' hw' => r_ld (v := .int .i64 ((gt x.Maps k).Id)) sca3 rfl (((hb33).lo hw').cell rfl)) <| QR.g' rfl (fun w' hw' => r_ge rfl rfl) <| QR.g' rfl (fun w' hw' => r_pick true rfl (v := .bool _) rfl) <| QR.q' (fun w' hw' => r_pick false rfl (v := .bool _) rfl) <| QR.nil ?_
                intro w49 hk50
                exact ⟨⟨rfl, rfl, (eDD ((((jat h45).trans (jmt h42)).trans (jmt h39)).trans (jmt h36))), trivial⟩, hk50⟩
              · refine QR.s' rfl <| QR.s' rfl <| QR.s' rfl <| QR.s' rfl <| QR.s' rfl <| QR.s' rfl <| QR.s' rfl <| QR.s' rfl <| QR.s' rfl <| QR.s' rfl <| QR.g' rfl (fun w' hw' => r_pick false rfl (v := .bool false) rfl) <| QR.q' (fun w' hw' => r_pick false rfl (v := .bool _) rfl) <| QR.nil ?_
                intro w51 hk52
                exact ⟨⟨rfl, rfl, (eDF ((((jaf h45).trans (jmt h42)).trans (jmt h39)).trans (jmt h36)).2), trivial⟩, hk52⟩
      rintro f53 w54 ⟨hat55, hk56⟩
      rw [← sets_of_at hat55]
      have hz57 := hk56.size
      have hB58 := hB35.lo hk56
      refine W.cond_d rfl (fun h59 => ?_) (fun h59 => ?_)
      · refine W.seq ?_
        refine W.regS (SR.q' (r_as (v := .bool false) rfl) <| SR.nil ?_)
        refine W.ret ?_
        refine ret1 rfl (v := .bool _) rfl ?_
        exact ⟨eR (eDF (z_c_spec_l32Maps_60 x nx_Maps hbdx_Maps hlex_Maps nx_Away hbdx_Away hlex_Away k hi17 h19 hx21 h59)), hB58⟩
      · have hq61 : 1 ≤ ((gt x.Maps k).Id) ∧ ((gt x.Maps k).Id) ≤ 99 := (Classical.not_not.1 (not_or.1 h59).1)
        have hq62 : 0 ≤ ((gt x.Maps k).Copies) ∧ ((gt x.Maps k).Copies) ≤ 99 := (Classical.not_not.1 (not_or.1 (not_or.1 h59).2).1)
        have hq63 : 0 ≤ ((gt x.Maps k).Torn) ∧ ((gt x.Maps k).Torn) ≤ ((gt x.Maps k).Copies) := (Classical.not_not.1 (not_or.1 (not_or.1 (not_or.1 h59).2).2).1)
        have hq64 : ¬ ((0 < (k : Int)) ∧ (((gt x.Maps k).Id) ≤ ((gt x.Maps (k - 1)).Id))) := (not_or.1 (not_or.1 (not_or.1 h59).2).2).2
        refine W.skip ?_
        refine W.regS (SR.q' (r_mv (v := .int .i64 _) rfl) <| SR.q' (r_add rfl rfl (by omega)) <| SR.q' (r_as (v := .int .i64 _) rfl) <| SR.nil ?_)
        refine ⟨k + 1, _, rfl, ⟨rfl, rfl, trivial⟩, ⟨hB58, (((hm14).lo hk25).kp hk31 (fun e' => by have e'' : g1 = g22 := e'; omega)).lo hk56, (((hm15).lo hk25).kp hk31 (fun b_ hb e' => by have e'' : b_ = g22 := e'; omega)).lo hk56, (((hm16).lo hk25).kp hk31 (fun b_ hb e' => by have e'' : b_ = g22 := e'; omega)).lo hk56, ?_⟩, ?_⟩
        · exact (z_c_spec_l32Maps_65 x nx_Maps hbdx_Maps hlex_Maps nx_Away hbdx_Away hlex_Away k hi17 h19 hx21 h59 hq61 hq62 hq63 hq64)
        · exact (z_c_spec_l32Maps_66 x nx_Maps hbdx_Maps hlex_Maps nx_Away hbdx_Away hlex_Away k hi17 h19 hx21 h59 hq61 hq62 hq63 hq64)
    · refine W.exit (xin_here ?_)
      refine W.seq ?_
      refine W.regS (SR.q' (r_fa fa35_0 rfl) <| SR.q' (r_ld (v := .slice Ax_Maps nx_Maps cx_Maps) sca32 rfl ((hm14).cell rfl)) <| SR.q' (r_len und32 rfl) <| SR.q' (r_le rfl rfl) <| SR.q' (r_as (v := .bool _) rfl) <| SR.nil ?_)
      refine W.ret ?_
      refine ret1 rfl (v := .bool _) rfl ?_
      exact ⟨eR (eDD (z_c_spec_l32Maps_67 x nx_Maps hbdx_Maps hlex_Maps nx_Away hbdx_Away hlex_Away k hi17 h19)), hB12⟩

theorem z_c_spec_l32Lent_9 (x : Library) (nx_Maps : Nat) (hbdx_Maps : (nx_Maps : Int) ≤ 9223372036854775807) (hlex_Maps : nx_Maps = x.Maps.length) (nx_Away : Nat) (hbdx_Away : (nx_Away : Int) ≤ 9223372036854775807) (hlex_Away : nx_Away = x.Away.length) : 0 ≤ nx_Away ∧ ATo x.Maps x.Away 0 := by
  exact ⟨Nat.zero_le _, ATo.zero⟩
theorem z_c_spec_l32Lent_55 (x : Library) (nx_Maps : Nat) (hbdx_Maps : (nx_Maps : Int) ≤ 9223372036854775807) (hlex_Maps : nx_Maps = x.Maps.length) (nx_Away : Nat) (hbdx_Away : (nx_Away : Int) ≤ 9223372036854775807) (hlex_Away : nx_Away = x.Away.length) (k : Nat) (hi17 : k ≤ nx_Away ∧ ATo x.Maps x.Away k) (h19 : (k : Int) < (nx_Away : Int)) (hx21 : x.Away[k]? = some (gt x.Away k)) (hq51 : idxF (hasId ((gt x.Away k).Map)) x.Maps < (x.Maps.length : Int) ∧ -1 ≤ idxF (hasId ((gt x.Away k).Map)) x.Maps) (h54 : ((idxF (hasId ((gt x.Away k).Map)) x.Maps) < 0) ∨ (¬ (1 ≤ ((gt x.Away k).Reader) ∧ ((gt x.Away k).Reader) ≤ 999))) : ¬ (AwayOK x.Maps x.Away ∧ x.Away.length ≤ 8) := by
  subst hlex_Away
  first | exact (fun hh => hh.1 k (by omega) (a_bad1 ‹_›)) | exact (fun hh => hh.1 k (by omega) (a_bad2 ‹_›)) | (have h1 := ATo.end_ (And.right ‹_ ∧ ATo _ _ _›) (by omega); exact ⟨fun h => ⟨h1, by omega⟩, fun h => by omega⟩)
theorem z_c_spec_l32Lent_82 (x : Library) (nx_Maps : Nat) (hbdx_Maps : (nx_Maps : Int) ≤ 9223372036854775807) (hlex_Maps : nx_Maps = x.Maps.length) (nx_Away : Nat) (hbdx_Away : (nx_Away : Int) ≤ 9223372036854775807) (hlex_Away : nx_Away = x.Away.length) (k : Nat) (hi17 : k ≤ nx_Away ∧ ATo x.Maps x.Away k) (h19 : (k : Int) < (nx_Away : Int)) (hx21 : x.Away[k]? = some (gt x.Away k)) (hq51 : idxF (hasId ((gt x.Away k).Map)) x.Maps < (x.Maps.length : Int) ∧ -1 ≤ idxF (hasId ((gt x.Away k).Map)) x.Maps) (h54 : ¬ (((idxF (hasId ((gt x.Away k).Map)) x.Maps) < 0) ∨ (¬ (1 ≤ ((gt x.Away k).Reader) ∧ ((gt x.Away k).Reader) ≤ 999)))) (hq56 : ¬ ((idxF (hasId ((gt x.Away k).Map)) x.Maps) < 0)) (hq57 : 1 ≤ ((gt x.Away k).Reader) ∧ ((gt x.Away k).Reader) ≤ 999) (hq58 : 0 ≤ (idxF (hasId ((gt x.Away k).Map)) x.Maps)) (h79 : (0 < (k : Int)) ∧ ((((gt x.Away k).Map) < ((gt x.Away (k - 1)).Map)) ∨ ((((gt x.Away (k - 1)).Map) = ((gt x.Away k).Map)) ∧ (((gt x.Away k).Reader) ≤ ((gt x.Away (k - 1)).Reader))))) (hq80 : 0 < (k : Int)) (hq81 : (((gt x.Away k).Map) < ((gt x.Away (k - 1)).Map)) ∨ ((((gt x.Away (k - 1)).Map) = ((gt x.Away k).Map)) ∧ (((gt x.Away k).Reader) ≤ ((gt x.Away (k - 1)).Reader)))) : ¬ (AwayOK x.Maps x.Away ∧ x.Away.length ≤ 8) := by
  subst hlex_Away
  first | exact (fun hh => hh.1 k (by omega) (a_bad1 ‹_›)) | exact (fun hh => hh.1 k (by omega) (a_bad2 ‹_›)) | (have h1 := ATo.end_ (And.right ‹_ ∧ ATo _ _ _›) (by omega); exact ⟨fun h => ⟨h1, by omega⟩, fun h => by omega⟩)
theorem z_c_spec_l32Lent_83 (x : Library) (nx_Maps : Nat) (hbdx_Maps : (nx_Maps : Int) ≤ 9223372036854775807) (hlex_Maps : nx_Maps = x.Maps.length) (nx_Away : Nat) (hbdx_Away : (nx_Away : Int) ≤ 9223372036854775807) (hlex_Away : nx_Away = x.Away.length) (k : Nat) (hi17 : k ≤ nx_Away ∧ ATo x.Maps x.Away k) (h19 : (k : Int) < (nx_Away : Int)) (hx21 : x.Away[k]? = some (gt x.Away k)) (hq51 : idxF (hasId ((gt x.Away k).Map)) x.Maps < (x.Maps.length : Int) ∧ -1 ≤ idxF (hasId ((gt x.Away k).Map)) x.Maps) (h54 : ¬ (((idxF (hasId ((gt x.Away k).Map)) x.Maps) < 0) ∨ (¬ (1 ≤ ((gt x.Away k).Reader) ∧ ((gt x.Away k).Reader) ≤ 999)))) (hq56 : ¬ ((idxF (hasId ((gt x.Away k).Map)) x.Maps) < 0)) (hq57 : 1 ≤ ((gt x.Away k).Reader) ∧ ((gt x.Away k).Reader) ≤ 999) (hq58 : 0 ≤ (idxF (hasId ((gt x.Away k).Map)) x.Maps)) (h79 : ¬ ((0 < (k : Int)) ∧ ((((gt x.Away k).Map) < ((gt x.Away (k - 1)).Map)) ∨ ((((gt x.Away (k - 1)).Map) = ((gt x.Away k).Map)) ∧ (((gt x.Away k).Reader) ≤ ((gt x.Away (k - 1)).Reader)))))) : k + 1 ≤ nx_Away ∧ ATo x.Maps x.Away (k + 1) := by
  exact ⟨by omega, ATo.next (And.right ‹_ ∧ ATo _ _ _›) (a_good ‹_› ‹_›)⟩
theorem z_c_spec_l32Lent_84 (x : Library) (nx_Maps : Nat) (hbdx_Maps : (nx_Maps : Int) ≤ 9223372036854775807) (hlex_Maps : nx_Maps = x.Maps.length) (nx_Away : Nat) (hbdx_Away : (nx_Away : Int) ≤ 9223372036854775807) (hlex_Away : nx_Away = x.Away.length) (k : Nat) (hi17 : k ≤ nx_Away ∧ ATo x.Maps x.Away k) (h19 : (k : Int) < (nx_Away : Int)) (hx21 : x.Away[k]? = some (gt x.Away k)) (hq51 : idxF (hasId ((gt x.Away k).Map)) x.Maps < (x.Maps.length : Int) ∧ -1 ≤ idxF (hasId ((gt x.Away k).Map)) x.Maps) (h54 : ¬ (((idxF (hasId ((gt x.Away k).Map)) x.Maps) < 0) ∨ (¬ (1 ≤ ((gt x.Away k).Reader) ∧ ((gt x.Away k).Reader) ≤ 999)))) (hq56 : ¬ ((idxF (hasId ((gt x.Away k).Map)) x.Maps) < 0)) (hq57 : 1 ≤ ((gt x.Away k).Reader) ∧ ((gt x.Away k).Reader) ≤ 999) (hq58 : 0 ≤ (idxF (hasId ((gt x.Away k).Map)) x.Maps)) (h79 : ¬ ((0 < (k : Int)) ∧ ((((gt x.Away k).Map) < ((gt x.Away (k - 1)).Map)) ∨ ((((gt x.Away (k - 1)).Map) = ((gt x.Away k).Map)) ∧ (((gt x.Away k).Reader) ≤ ((gt x.Away (k - 1)).Reader)))))) : nx_Away - (k + 1) < nx_Away - k := by
  omega
theorem z_c_spec_l32Lent_85 (x : Library) (nx_Maps : Nat) (hbdx_Maps : (nx_Maps : Int) ≤ 9223372036854775807) (hlex_Maps : nx_Maps = x.Maps.length) (nx_Away : Nat) (hbdx_Away : (nx_Away : Int) ≤ 9223372036854775807) (hlex_Away : nx_Away = x.Away.length) (k : Nat) (hi17 : k ≤ nx_Away ∧ ATo x.Maps x.Away k) (h19 : ¬ ((k : Int) < (nx_Away : Int))) : ((nx_Away : Int) ≤ 8) ↔ (AwayOK x.Maps x.Away ∧ x.Away.length ≤ 8) := by
  subst hlex_Away
  first | exact (fun hh => hh.1 k (by omega) (a_bad1 ‹_›)) | exact (fun hh => hh.1 k (by omega) (a_bad2 ‹_›)) | (have h1 := ATo.end_ (And.right ‹_ ∧ ATo _ _ _›) (by omega); exact ⟨fun h => ⟨h1, by omega⟩, fun h => by omega⟩)
theorem c_spec_l32Lent (w : World) (x : Library) {Ax_Maps : Option Addr} {nx_Maps cx_Maps Bx_Maps : Nat} (hx_Maps : SlR w Bx_Maps encLMap 3 Ax_Maps nx_Maps cx_Maps x.Maps) {Ax_Away : Option Addr} {nx_Away cx_Away Bx_Away : Nat} (hx_Away : SlR w Bx_Away encAway 2 Ax_Away nx_Away cx_Away x.Away) : Calls Tryd.prog 45 #[.agg (List.toArray [.slice Ax_Maps nx_Maps cx_Maps, .slice Ax_Away nx_Away cx_Away, .int .i64 x.Bought, .int .i64 x.Dropped, .int .i64 x.Mended])] w fun e w' => e = .returned (.bool (decide (AwayOK x.Maps x.Away ∧ x.Away.length ≤ 8))) ∧ Lo w w' := by
  refine calls_W 70 Tryd.func45 rfl rfl rfl ?_
  have hbdx_Maps := hx_Maps.bound
  have hlex_Maps := hx_Maps.len
  have hBbx_Maps := hx_Maps.bd
  have hbdx_Away := hx_Away.bound
  have hlex_Away := hx_Away.len
  have hBbx_Away := hx_Away.bd
  refine W.seq ?_
  refine W.regS (SR.box (v := .agg (List.toArray _)) (l := [.slice Ax_Maps nx_Maps cx_Maps, .slice Ax_Away nx_Away cx_Away, .int .i64 x.Bought, .int .i64 x.Dropped, .int .i64 x.Mended]) rfl rfl ?_)
  intro g1 w2 hg3 hk4 hs5 hb6
  have hz7 := hk4.size
  have hB8 := (Lo.refl w).lo hk4
  refine SR.q' (r_as (v := .bool false) rfl) <| SR.nil ?_
  refine W.seq ?_
  refine W.seq ?_
  refine W.regS (SR.q' (r_as (v := .int .i64 0) rfl) <| SR.nil ?_)
  refine W.block ?_
  refine W.loop (σ := Nat) (fun g => [(1, .pointer (some ((⟨g1, 0, none⟩ : Addr)))), (3, .int .i64 (g : Int))]) (fun g w' => (Lo w w') ∧ (Blk w' g1 35 [.slice Ax_Maps nx_Maps cx_Maps, .slice Ax_Away nx_Away cx_Away, .int .i64 x.Bought, .int .i64 x.Dropped, .int .i64 x.Mended]) ∧ (SlR w' Bx_Maps encLMap 3 Ax_Maps nx_Maps cx_Maps x.Maps) ∧ (SlR w' Bx_Away encAway 2 Ax_Away nx_Away cx_Away x.Away) ∧ (g ≤ nx_Away ∧ ATo x.Maps x.Away g)) (fun g => nx_Away - g) 0 ?_ ?_ ?_
  · exact ⟨rfl, rfl, trivial⟩
  · exact ⟨hB8, hb6, (hx_Maps).lo hk4, (hx_Away).lo hk4, (z_c_spec_l32Lent_9 x nx_Maps hbdx_Maps hlex_Maps nx_Away hbdx_Away hlex_Away)⟩
  · rintro k f10 w11 hP13
    obtain ⟨hB12, hm14, hm15, hm16, hi17⟩ : (Lo w w11) ∧ (Blk w11 g1 35 [.slice Ax_Maps nx_Maps cx_Maps, .slice Ax_Away nx_Away cx_Away, .int .i64 x.Bought, .int .i64 x.Dropped, .int .i64 x.Mended]) ∧ (SlR w11 Bx_Maps encLMap 3 Ax_Maps nx_Maps cx_Maps x.Maps) ∧ (SlR w11 Bx_Away encAway 2 Ax_Away nx_Away cx_Away x.Away) ∧ (k ≤ nx_Away ∧ ATo x.Maps x.Away k) := hP13
    refine (?_ : W _ _ _ _ _ (act _ (sets f10 [(1, .pointer (some ((⟨g1, 0, none⟩ : Addr)))), (3, .int .i64 (k : Int))])) _)
    have hzw11 := hB12.size
    have hl18 := hm14.lt
    refine W.seq ?_
    refine W.seq ?_
    refine W.regS (SR.q' (r_mv (v := .int .i64 _) rfl) <| SR.q' (r_fa fa35_1 rfl) <| SR.q' (r_ld (v := .slice Ax_Away nx_Away cx_Away) sca33 rfl ((hm14).cell rfl)) <| SR.q' (r_len und33 rfl) <| SR.q' (r_lt rfl rfl) <| SR.nil ?_)
    refine W.cond_d rfl (fun h19 => ?_) (fun h19 => ?_)
    · refine W.skip ?_
      refine W.seq ?_
      refine W.block ?_
      refine W.seq ?_
      refine W.regS (SR.q' (r_fa fa35_1 rfl) <| SR.q' (r_ld (v := .slice Ax_Away nx_Away cx_Away) sca33 rfl ((hm14).cell rfl)) <| SR.q' (r_mv (v := .int .i64 _) rfl) <| ?_)
      have hx21 := (hm16).elem (i := k) (by omega)
      refine SR.q' (r_ixR tsl33 (hm16) rfl rfl (by omega)) <| SR.q' (r_lda (l := encAway (gt x.Away k)) agg64 rfl (fun _ _ hu => (hm16).cell hx21 hu) ((hm16).esz _)) <| SR.alloc (l := [.int .i64 0, .int .i64 0]) tz64 rfl ?_
      intro g22 w23 hg24 hk25 hs26 hb27
      have hz28 := hk25.size
      have hB29 := hB12.lo hk25
      refine SR.store (o := 0) (vs := [.int .i64 ((gt x.Away k).Map), .int .i64 ((gt x.Away k).Reader)]) agg64.2 rfl rfl rfl rfl (hb27) (Nat.le_of_ble_eq_true rfl) rfl ?_
      intro w30 hk31 hs32 hb33
      have hz34 := hk31.size
      have hB35 := hB29.new hk31 (by omega)
      refine SR.nil ?_
      refine W.seq ?_
      refine W.seq ?_
      refine W.regJS (fun f' w' => At f' [(1, .pointer (some ((⟨g1, 0, none⟩ : Addr)))), (3, .int .i64 (k : Int)), (4, .pointer (some ((⟨g22, 0, none⟩ : Addr)))), (27, .bool (decide (((idxF (hasId ((gt x.Away k).Map)) x.Maps) < 0) ∨ (¬ (1 ≤ ((gt x.Away k).Reader) ∧ ((gt x.Away k).Reader) ≤ 999)))))] ∧ Lo w30 w' ∧ (idxF (hasId ((gt x.Away k).Map)) x.Maps < (x.Maps.length : Int) ∧ -1 ≤ idxF (hasId ((gt x.Away k).Map)) x.Maps)) ?_ ?_
      · refine SR.q' (r_lda (l := [.slice Ax_Maps nx_Maps cx_Maps, .slice Ax_Away nx_Away cx_Away, .int .i64 x.Bought, .int .i64 x.Dropped, .int .i64 x.Mended]) agg35 rfl (fun _ _ hu => (((hm14).lo hk25).kp hk31 (fun e' => by have e'' : g1 = g22 := e'; omega)).cell hu) rfl) <| SR.q' (r_fa fa64_0 rfl) <| SR.q' (r_ld (v := .int .i64 ((gt x.Away k).Map)) sca3 rfl ((hb33).cell rfl)) <| SR.call ent61 (c_spec_l32Map w30 x ((((hm15).lo hk25).kp hk31 (fun b_ hb e' => by have e'' : b_ = g22 := e'; omega))) ((((hm16).lo hk25).kp hk31 (fun b_ hb e' => by have e'' : b_ = g22 := e'; omega))) ((gt x.Away k).Map)) rfl ?_
        rintro e w36 ⟨rfl, hk37⟩
        refine ⟨_, rfl, ?_⟩
        have hz38 := hk37.size
        have hB39 := hB35.lo hk37
        have hq40 : idxF (hasId ((gt x.Away k).Map)) x.Maps < (x.Maps.length : Int) ∧ -1 ≤ idxF (hasId ((gt x.Away k).Map)) x.Maps := idx_lt
        refine SR.q' (r_lt rfl rfl) <| SR.q' (r_mv (v := .bool _) rfl) <| SR.splitD (fun h41 => ?_) (fun h41 => ?_)
        · refine SR.s' rfl <| SR.s' rfl <| SR.s' rfl <| SR.s' rfl <| SR.q' (r_pick true rfl (v := .bool true) rfl) <| SR.nil ?_
          exact ⟨_, rfl, ⟨⟨rfl, rfl, rfl, (eDT ((jot h41).1 trivial)), trivial⟩, (hk37), hq40⟩⟩
        · have hq42 := Int.not_lt.1 h41
          refine SR.g' rfl (r_fa fa64_1 rfl) <| SR.g' rfl (r_ld (v := .int .i64 ((gt x.Away k).Reader)) sca3 rfl (((hb33).lo hk37).cell rfl)) <| SR.gcall rfl ent60 (c_spec_l1In w36 ((gt x.Away k).Reader) 1 999) rfl ?_
          rintro e w43 ⟨rfl, hk44⟩
          refine ⟨_, rfl, ?_⟩
          have hz45 := hk44.size
          have hB46 := hB39.lo hk44
          refine SR.g' rfl (r_not rfl) <| SR.q' (r_pick false rfl (v := .bool _) rfl) <| SR.nil ?_
          exact ⟨_, rfl, ⟨⟨rfl, rfl, rfl, (eND (jof h41)), trivial⟩, ((hk37).trans hk44), hq40⟩⟩
      rintro f47 w48 ⟨hat49, hk50, hq51⟩
      rw [← sets_of_at hat49]
      have hz52 := hk50.size
      have hB53 := hB35.lo hk50
      refine W.cond_d rfl (fun h54 => ?_) (fun h54 => ?_)
      · refine W.seq ?_
        refine W.regS (SR.q' (r_as (v := .bool false) rfl) <| SR.nil ?_)
        refine W.ret ?_
        refine ret1 rfl (v := .bool _) rfl ?_
        exact ⟨eR (eDF (z_c_spec_l32Lent_55 x nx_Maps hbdx_Maps hlex_Maps nx_Away hbdx_Away hlex_Away k hi17 h19 hx21 hq51 h54)), hB53⟩
      · have hq56 : ¬ ((idxF (hasId ((gt x.Away k).Map)) x.Maps) < 0) := (not_or.1 h54).1
        have hq57 : 1 ≤ ((gt x.Away k).Reader) ∧ ((gt x.Away k).Reader) ≤ 999 := (Classical.not_not.1 (not_or.1 h54).2)
        have hq58 := Int.not_lt.1 hq56
        refine W.skip ?_
        refine W.seq ?_
        refine W.regJD mo (by kernel_rfl) (fun f' w' => At f' [(1, .pointer (some ((⟨g1, 0, none⟩ : Addr)))), (3, .int .i64 (k : Int)), (65, .bool (decide ((0 < (k : Int)) ∧ ((((gt x.Away k).Map) < ((gt x.Away (k - 1)).Map)) ∨ ((((gt x.Away (k - 1)).Map) = ((gt x.Away k).Map)) ∧ (((gt x.Away k).Reader) ≤ ((gt x.Away (k - 1)).Reader)))))))] ∧ Lo w48 w') ?_ ?_
        · refine QR.q' (fun w' hw' => r_mv (v := .int .i64 _) rfl) <| QR.q' (fun w' hw' => r_gt rfl rfl) <| QR.q' (fun w' hw' => r_mv (v := .bool _) rfl) <| QR.splitD (fun h59 => ?_) (fun h59 => ?_)
          · refine QR.g' rfl (fun w' hw' => r_fa fa35_1 rfl) <| QR.g' rfl (fun w' hw' => r_ld (v := .slice Ax_Away nx_Away cx_Away) sca33 rfl ((((((hm14).lo hk25).kp hk31 (fun e' => by have e'' : g1 = g22 := e'; omega)).lo hk50).lo hw').cell rfl)) <| QR.g' rfl (fun w' hw' => r_mv (v := .int .i64 _) rfl) <| QR.g' rfl (fun w' hw' => r_sub rfl rfl (by omega)) <| ?_
            have hx61 := ((((hm16).lo hk25).kp hk31 (fun b_ hb e' => by have e'' : b_ = g22 := e'; omega)).lo hk50).elem (i := ((k : Int) - 1).toNat) (by omega)
            rw [show ((k : Int) - 1).toNat = k - 1 from by omega] at hx61
            have hx62 : x.Away[((k : Int) - 1).toNat]? = some (gt x.Away (k - 1)) := (show ((k : Int) - 1).toNat = k - 1 from by omega) ▸ hx61
            refine QR.g' rfl (fun w' hw' => r_ixR tsl33 ((((((hm16).lo hk25).kp hk31 (fun b_ hb e' => by have e'' : b_ = g22 := e'; omega)).lo hk50).lo hw')) rfl rfl (by omega)) <| QR.g' rfl (fun w' hw' => r_fa fa64_0 rfl) <| QR.g' rfl (fun w' hw' => r_ld (v := .int .i64 ((gt x.Away (k - 1)).Map)) sca3 rfl (((((((hm16).lo hk25).kp hk31 (fun b_ hb e' => by have e'' : b_ = g22 := e'; omega)).lo hk50).lo hw')).cell hx62 rfl)) <| QR.g' rfl (fun w' hw' => r_fa fa64_0 rfl) <| QR.g' rfl (fun w' hw' => r_ld (v := .int .i64 ((gt x.Away k).Map)) sca3 rfl ((((hb33).lo hk50).lo hw').cell rfl)) <| QR.g' rfl (fun w' hw' => r_gt rfl rfl) <| QR.g' rfl (fun w' hw' => r_mv (v := .bool _) rfl) <| QR.splitD (fun h63 => ?_) (fun h63 => ?_)
            · refine QR.s' rfl <| QR.s' rfl <| QR.s' rfl <| QR.s' rfl <| QR.s' rfl <| QR.s' rfl <| QR.s' rfl <| QR.s' rfl <| QR.s' rfl <| QR.s' rfl <| QR.s' rfl <| QR.u' rfl <| QR.u' rfl <| QR.u' rfl <| QR.u' rfl <| QR.u' rfl <| QR.u' rfl <| QR.u' rfl <| QR.u' rfl <| QR.u' rfl <| QR.u' rfl <| QR.s' rfl <| QR.g' rfl (fun w' hw' => r_pick true rfl (v := .bool true) rfl) <| QR.q' (fun w' hw' => r_pick true rfl (v := .bool _) rfl) <| QR.nil ?_
              intro w64 hk65
              exact ⟨⟨rfl, rfl, (eDT (((jot h63).trans (jat h59)).1 trivial)), trivial⟩, hk65⟩
            · refine QR.g' rfl (fun w' hw' => r_fa fa35_1 rfl) <| QR.g' rfl (fun w' hw' => r_ld (v := .slice Ax_Away nx_Away cx_Away) sca33 rfl ((((((hm14).lo hk25).kp hk31 (fun e' => by have e'' : g1 = g22 := e'; omega)).lo hk50).lo hw').cell rfl)) <| QR.g' rfl (fun w' hw' => r_mv (v := .int .i64 _) rfl) <| QR.g' rfl (fun w' hw' => r_sub rfl rfl (by omega)) <| QR.g' rfl (fun w' hw' => r_ixR tsl33 ((((((hm16).lo hk25).kp hk31 (fun b_ hb e' => by have e'' : b_ = g22 := e'; omega)).lo hk50).lo hw')) rfl rfl (by omega)) <| QR.g' rfl (fun w' hw' => r_fa fa64_0 rfl) <| QR.g' rfl (fun w' hw' => r_ld (v := .int .i64 ((gt x.Away (k - 1)).Map)) sca3 rfl (((((((hm16).lo hk25).kp hk31 (fun b_ hb e' => by have e'' : b_ = g22 := e'; omega)).lo hk50).lo hw')).cell hx62 rfl)) <| QR.g' rfl (fun w' hw' => r_fa fa64_0 rfl) <| QR.g' rfl (fun w' hw' => r_ld (v := .int .i64 ((gt x.Away k).Map)) sca3 rfl ((((hb33).lo hk50).lo hw').cell rfl)) <| QR.g' rfl (fun w' hw' => r_eq rfl rfl) <| QR.g' rfl (fun w' hw' => r_mv (v := .bool _) rfl) <| QR.splitD (fun h66 => ?_) (fun h66 => ?_)
              · refine QR.g' rfl (fun w' hw' => r_fa fa35_1 rfl) <| QR.g' rfl (fun w' hw' => r_ld (v := .slice Ax_Away nx_Away cx_Away) sca33 rfl ((((((hm14).lo hk25).kp hk31 (fun e' => by have e'' : g1 = g22 := e'; omega)).lo hk50).lo hw').cell rfl)) <| QR.g' rfl (fun w' hw' => r_mv (v := .int .i64 _) rfl) <| QR.g' rfl (fun w' hw' => r_sub rfl rfl (by omega)) <| QR.g' rfl (fun w' hw' => r_ixR tsl33 ((((((hm16).lo hk25).kp hk31 (fun b_ hb e' => by have e'' : b_ = g22 := e'; omega)).lo hk50).lo hw')) rfl rfl (by omega)) <| QR.g' rfl (fun w' hw' => r_fa fa64_1 rfl) <| QR.g' rfl (fun w' hw' => r_ld (v := .int .i64 ((gt x.Away (k - 1)).Reader)) sca3 rfl (((((((hm16).lo hk25).kp hk31 (fun b_ hb e' => by have e'' : b_ = g22 := e'; omega)).lo hk50).lo hw')).cell hx62 rfl)) <| QR.g' rfl (fun w' hw' => r_fa fa64_1 rfl) <| QR.g' rfl (fun w' hw' => r_ld (v := .int .i64 ((gt x.Away k).Reader)) sca3 rfl ((((hb33).lo hk50).lo hw').cell rfl)) <| QR.g' rfl (fun w' hw' => r_ge rfl rfl) <| QR.g' rfl (fun w' hw' => r_pick true rfl (v := .bool _) rfl) <| QR.g' rfl (fun w' hw' => r_pick false rfl (v := .bool _) rfl) <| QR.q' (fun w' hw' => r_pick true rfl (v := .bool _) rfl) <| QR.nil ?_
                intro w67 hk68
                exact ⟨⟨rfl, rfl, (eDD (((jat h66).trans (jof h63)).trans (jat h59))), trivial⟩, hk68⟩
              · refine QR.s' rfl <| QR.s' rfl <| QR.s' rfl <| QR.s' rfl <| QR.s' rfl <| QR.s' rfl <| QR.s' rfl <| QR.s' rfl <| QR.s' rfl <| QR.s' rfl <| QR.g' rfl (fun w' hw' => r_pick false rfl (v := .bool false) rfl) <| QR.g' rfl (fun w' hw' => r_pick false rfl (v := .bool _) rfl) <| QR.q' (fun w' hw' => r_pick true rfl (v := .bool _) rfl) <| QR.nil ?_
                intro w69 hk70
                exact ⟨⟨rfl, rfl, (eDF (((jaf h66).trans (jof h63)).trans (jat h59)).2), trivial⟩, hk70⟩
          · refine QR.s' rfl <| QR.s' rfl <| QR.s' rfl <| QR.s' rfl <| QR.s' rfl <| QR.s' rfl <| QR.s' rfl <| QR.s' rfl <| QR.s' rfl <| QR.s' rfl <| QR.s' rfl <| QR.u' rfl <| QR.u' rfl <| QR.u' rfl <| QR.u' rfl <| QR.u' rfl <| QR.u' rfl <| QR.u' rfl <| QR.u' rfl <| QR.u' rfl <| QR.u' rfl <| QR.u' rfl <| QR.u' rfl <| QR.u' rfl <| QR.u' rfl <| QR.u' rfl <| QR.u' rfl <| QR.u' rfl <| QR.u' rfl <| QR.u' rfl <| QR.u' rfl <| QR.u' rfl <| QR.u' rfl <| QR.s' rfl <| QR.q' (fun w' hw' => r_pick false rfl (v := .bool false) rfl) <| QR.nil ?_
            intro w71 hk72
            exact ⟨⟨rfl, rfl, (eDF (jaf h59).2), trivial⟩, hk72⟩
        rintro f73 w74 ⟨hat75, hk76⟩
        rw [← sets_of_at hat75]
        have hz77 := hk76.size
        have hB78 := hB53.lo hk76
        refine W.cond_d rfl (fun h79 => ?_) (fun h79 => ?_)
        · have hq80 : 0 < (k : Int) := h79.1
          have hq81 : (((gt x.Away k).Map) < ((gt x.Away (k - 1)).Map)) ∨ ((((gt x.Away (k - 1)).Map) = ((gt x.Away k).Map)) ∧ (((gt x.Away k).Reader) ≤ ((gt x.Away (k - 1)).Reader))) := h79.2
          refine W.seq ?_
          refine W.regS (SR.q' (r_as (v := .bool false) rfl) <| SR.nil ?_)
          refine W.ret ?_
          refine ret1 rfl (v := .bool _) rfl ?_
          exact ⟨eR (eDF (z_c_spec_l32Lent_82 x nx_Maps hbdx_Maps hlex_Maps nx_Away hbdx_Away hlex_Away k hi17 h19 hx21 hq51 h54 hq56 hq57 hq58 h79 hq80 hq81)), hB78⟩
        · refine W.skip ?_
          refine W.regS (SR.q' (r_mv (v := .int .i64 _) rfl) <| SR.q' (r_add rfl rfl (by omega)) <| SR.q' (r_as (v := .int .i64 _) rfl) <| SR.nil ?_)
          refine ⟨k + 1, _, rfl, ⟨rfl, rfl, trivial⟩, ⟨hB78, ((((hm14).lo hk25).kp hk31 (fun e' => by have e'' : g1 = g22 := e'; omega)).lo hk50).lo hk76, ((((hm15).lo hk25).kp hk31 (fun b_ hb e' => by have e'' : b_ = g22 := e'; omega)).lo hk50).lo hk76, ((((hm16).lo hk25).kp hk31 (fun b_ hb e' => by have e'' : b_ = g22 := e'; omega)).lo hk50).lo hk76, ?_⟩, ?_⟩
          · exact (z_c_spec_l32Lent_83 x nx_Maps hbdx_Maps hlex_Maps nx_Away hbdx_Away hlex_Away k hi17 h19 hx21 hq51 h54 hq56 hq57 hq58 h79)
          · exact (z_c_spec_l32Lent_84 x nx_Maps hbdx_Maps hlex_Maps nx_Away hbdx_Away hlex_Away k hi17 h19 hx21 hq51 h54 hq56 hq57 hq58 h79)
    · refine W.exit (xin_here ?_)
      refine W.seq ?_
      refine W.regS (SR.q' (r_fa fa35_1 rfl) <| SR.q' (r_ld (v := .slice Ax_Away nx_Away cx_Away) sca33 rfl ((hm14).cell rfl)) <| SR.q' (r_len und33 rfl) <| SR.q' (r_le rfl rfl) <| SR.q' (r_as (v := .bool _) rfl) <| SR.nil ?_)
      refine W.ret ?_
      refine ret1 rfl (v := .bool _) rfl ?_
      exact ⟨eR (eDD (z_c_spec_l32Lent_85 x nx_Maps hbdx_Maps hlex_Maps nx_Away hbdx_Away hlex_Away k hi17 h19)), hB12⟩

theorem z_c_spec_l32Good_36 (x : Library) (nx_Maps : Nat) (hbdx_Maps : (nx_Maps : Int) ≤ 9223372036854775807) (hlex_Maps : nx_Maps = x.Maps.length) (nx_Away : Nat) (hbdx_Away : (nx_Away : Int) ≤ 9223372036854775807) (hlex_Away : nx_Away = x.Away.length) : ((MapsOK x.Maps ∧ x.Maps.length ≤ 8) ∧ ((AwayOK x.Maps x.Away ∧ x.Away.length ≤ 8) ∧ ((0 ≤ x.Bought ∧ x.Bought ≤ 9999) ∧ ((0 ≤ x.Dropped ∧ x.Dropped ≤ 9999) ∧ ((0 ≤ x.Mended ∧ x.Mended ≤ 9999) ∧ (x.Bought = (((if false = true then sumT x.Maps else sumC x.Maps) + (nx_Away : Int)) + x.Dropped))))))) ↔ (LibOK x) := by
  subst hlex_Maps hlex_Away
  unfold LibOK
  constructor <;> (intro h; obtain ⟨h1, h2, h⟩ := h; refine ⟨h1, h2, ?_⟩; simpa using h)
theorem c_spec_l32Good (w : World) (x : Library) {Ax_Maps : Option Addr} {nx_Maps cx_Maps Bx_Maps : Nat} (hx_Maps : SlR w Bx_Maps encLMap 3 Ax_Maps nx_Maps cx_Maps x.Maps) {Ax_Away : Option Addr} {nx_Away cx_Away Bx_Away : Nat} (hx_Away : SlR w Bx_Away encAway 2 Ax_Away nx_Away cx_Away x.Away) : Calls Tryd.prog 27 #[.agg (List.toArray [.slice Ax_Maps nx_Maps cx_Maps, .slice Ax_Away nx_Away cx_Away, .int .i64 x.Bought, .int .i64 x.Dropped, .int .i64 x.Mended])] w fun e w' => e = .returned (.bool (decide (LibOK x))) ∧ Lo w w' := by
  refine calls_W 38 Tryd.func27 rfl rfl rfl ?_
  have hbdx_Maps := hx_Maps.bound
  have hlex_Maps := hx_Maps.len
  have hBbx_Maps := hx_Maps.bd
  have hbdx_Away := hx_Away.bound
  have hlex_Away := hx_Away.len
  have hBbx_Away := hx_Away.bd
  refine W.seq ?_
  refine W.regS (SR.box (v := .agg (List.toArray _)) (l := [.slice Ax_Maps nx_Maps cx_Maps, .slice Ax_Away nx_Away cx_Away, .int .i64 x.Bought, .int .i64 x.Dropped, .int .i64 x.Mended]) rfl rfl ?_)
  intro g1 w2 hg3 hk4 hs5 hb6
  have hz7 := hk4.size
  have hB8 := (Lo.refl w).lo hk4
  refine SR.q' (r_as (v := .bool false) rfl) <| SR.nil ?_
  refine W.seq ?_
  refine W.regJD mo (by kernel_rfl) (fun f' w' => At f' [(2, .bool (decide ((MapsOK x.Maps ∧ x.Maps.length ≤ 8) ∧ ((AwayOK x.Maps x.Away ∧ x.Away.length ≤ 8) ∧ ((0 ≤ x.Bought ∧ x.Bought ≤ 9999) ∧ ((0 ≤ x.Dropped ∧ x.Dropped ≤ 9999) ∧ ((0 ≤ x.Mended ∧ x.Mended ≤ 9999) ∧ (x.Bought = (((if false = true then sumT x.Maps else sumC x.Maps) + (nx_Away : Int)) + x.Dropped)))))))))] ∧ Lo w2 w') ?_ ?_
  · refine QR.q' (fun w' hw' => r_lda (l := [.slice Ax_Maps nx_Maps cx_Maps, .slice Ax_Away nx_Away cx_Away, .int .i64 x.Bought, .int .i64 x.Dropped, .int .i64 x.Mended]) agg35 rfl (fun _ _ hu => ((hb6).lo hw').cell hu) rfl) <| QR.call ent44 (fun w' hw' => (c_spec_l32Maps w' x (((((hx_Maps).lo hk4).lo hw'))) (((((hx_Away).lo hk4).lo hw')))).mono fun _ _ h => ⟨h.1, hw'.trans h.2⟩) rfl <| QR.q' (fun w' hw' => r_mv (v := .bool _) rfl) <| QR.splitD (fun h9 => ?_) (fun h9 => ?_)
    · have hq10 := And.left h9
      have hq11 := And.left h9
      have hq12 := And.right h9
      refine QR.g' rfl (fun w' hw' => r_lda (l := [.slice Ax_Maps nx_Maps cx_Maps, .slice Ax_Away nx_Away cx_Away, .int .i64 x.Bought, .int .i64 x.Dropped, .int .i64 x.Mended]) agg35 rfl (fun _ _ hu => ((hb6).lo hw').cell hu) rfl) <| QR.gcall rfl ent45 (fun w' hw' => (c_spec_l32Lent w' x (((((hx_Maps).lo hk4).lo hw'))) (((((hx_Away).lo hk4).lo hw')))).mono fun _ _ h => ⟨h.1, hw'.trans h.2⟩) rfl <| QR.q' (fun w' hw' => r_pick true rfl (v := .bool _) rfl) <| QR.q' (fun w' hw' => r_mv (v := .bool _) rfl) <| QR.splitD (fun h13 => ?_) (fun h13 => ?_)
      · refine QR.g' rfl (fun w' hw' => r_fa fa35_2 rfl) <| QR.g' rfl (fun w' hw' => r_ld (v := .int .i64 x.Bought) sca3 rfl (((hb6).lo hw').cell rfl)) <| QR.gcall rfl ent46 (fun w' hw' => (c_spec_l32Count w' x.Bought).mono fun _ _ h => ⟨h.1, hw'.trans h.2⟩) rfl <| QR.q' (fun w' hw' => r_pick true rfl (v := .bool _) rfl) <| QR.q' (fun w' hw' => r_mv (v := .bool _) rfl) <| QR.splitD (fun h14 => ?_) (fun h14 => ?_)
        · refine QR.g' rfl (fun w' hw' => r_fa fa35_3 rfl) <| QR.g' rfl (fun w' hw' => r_ld (v := .int .i64 x.Dropped) sca3 rfl (((hb6).lo hw').cell rfl)) <| QR.gcall rfl ent46 (fun w' hw' => (c_spec_l32Count w' x.Dropped).mono fun _ _ h => ⟨h.1, hw'.trans h.2⟩) rfl <| QR.q' (fun w' hw' => r_pick true rfl (v := .bool _) rfl) <| QR.q' (fun w' hw' => r_mv (v := .bool _) rfl) <| QR.splitD (fun h15 => ?_) (fun h15 => ?_)
          · refine QR.g' rfl (fun w' hw' => r_fa fa35_4 rfl) <| QR.g' rfl (fun w' hw' => r_ld (v := .int .i64 x.Mended) sca3 rfl (((hb6).lo hw').cell rfl)) <| QR.gcall rfl ent46 (fun w' hw' => (c_spec_l32Count w' x.Mended).mono fun _ _ h => ⟨h.1, hw'.trans h.2⟩) rfl <| QR.q' (fun w' hw' => r_pick true rfl (v := .bool _) rfl) <| QR.q' (fun w' hw' => r_mv (v := .bool _) rfl) <| QR.splitD (fun h16 => ?_) (fun h16 => ?_)
            · refine QR.g' rfl (fun w' hw' => r_fa fa35_2 rfl) <| QR.g' rfl (fun w' hw' => r_ld (v := .int .i64 x.Bought) sca3 rfl (((hb6).lo hw').cell rfl)) <| QR.g' rfl (fun w' hw' => r_lda (l := [.slice Ax_Maps nx_Maps cx_Maps, .slice Ax_Away nx_Away cx_Away, .int .i64 x.Bought, .int .i64 x.Dropped, .int .i64 x.Mended]) agg35 rfl (fun _ _ hu => ((hb6).lo hw').cell hu) rfl) <| QR.gcall rfl ent47 (fun w' hw' => (c_spec_l32There w' x (((((hx_Maps).lo hk4).lo hw'))) (((((hx_Away).lo hk4).lo hw'))) false (by first | assumption | exact MTo.end_ (And.right ‹_ ∧ MTo _ _›) (by omega)) (by omega)).mono fun _ _ h => ⟨h.1, hw'.trans h.2⟩) rfl <| ?_
              have hq17 : 0 ≤ (if false = true then sumT x.Maps else sumC x.Maps) ∧ (if false = true then sumT x.Maps else sumC x.Maps) ≤ 792 := there_rng false ‹MapsOK _› (by omega)
              refine QR.g' rfl (fun w' hw' => r_fa fa35_1 rfl) <| QR.g' rfl (fun w' hw' => r_ld (v := .slice Ax_Away nx_Away cx_Away) sca33 rfl (((hb6).lo hw').cell rfl)) <| QR.g' rfl (fun w' hw' => r_len und33 rfl) <| QR.g' rfl (fun w' hw' => r_add rfl rfl (by omega)) <| QR.g' rfl (fun w' hw' => r_fa fa35_3 rfl) <| QR.g' rfl (fun w' hw' => r_ld (v := .int .i64 x.Dropped) sca3 rfl (((hb6).lo hw').cell rfl)) <| QR.g' rfl (fun w' hw' => r_add rfl rfl (by omega)) <| QR.g' rfl (fun w' hw' => r_eq rfl rfl) <| QR.q' (fun w' hw' => r_pick true rfl (v := .bool _) rfl) <| QR.q' (fun w' hw' => r_as (v := .bool _) rfl) <| QR.nil ?_
              intro w18 hk19
              exact ⟨⟨(eDD (((((jat h16).trans (jat h15)).trans (jat h14)).trans (jat h13)).trans (jat h9))), trivial⟩, hk19⟩
            · refine QR.s' rfl <| QR.s' rfl <| QR.s' rfl <| QR.s' rfl <| QR.s' rfl <| QR.s' rfl <| QR.s' rfl <| QR.s' rfl <| QR.s' rfl <| QR.s' rfl <| QR.s' rfl <| QR.s' rfl <| QR.q' (fun w' hw' => r_pick false rfl (v := .bool false) rfl) <| QR.q' (fun w' hw' => r_as (v := .bool _) rfl) <| QR.nil ?_
              intro w20 hk21
              exact ⟨⟨(eDF (((((jaf h16).trans (jat h15)).trans (jat h14)).trans (jat h13)).trans (jat h9)).2), trivial⟩, hk21⟩
          · refine QR.s' rfl <| QR.s' rfl <| QR.s' rfl <| QR.q' (fun w' hw' => r_pick false rfl (v := .bool false) rfl) <| QR.q' (fun w' hw' => r_mv (v := .bool _) rfl) <| QR.s' rfl <| QR.s' rfl <| QR.s' rfl <| QR.s' rfl <| QR.s' rfl <| QR.s' rfl <| QR.s' rfl <| QR.s' rfl <| QR.s' rfl <| QR.s' rfl <| QR.s' rfl <| QR.s' rfl <| QR.q' (fun w' hw' => r_pick false rfl (v := .bool false) rfl) <| QR.q' (fun w' hw' => r_as (v := .bool _) rfl) <| QR.nil ?_
            intro w22 hk23
            exact ⟨⟨(eDF ((((jaf h15).trans (jat h14)).trans (jat h13)).trans (jat h9)).2), trivial⟩, hk23⟩
        · refine QR.s' rfl <| QR.s' rfl <| QR.s' rfl <| QR.q' (fun w' hw' => r_pick false rfl (v := .bool false) rfl) <| QR.q' (fun w' hw' => r_mv (v := .bool _) rfl) <| QR.s' rfl <| QR.s' rfl <| QR.s' rfl <| QR.q' (fun w' hw' => r_pick false rfl (v := .bool false) rfl) <| QR.q' (fun w' hw' => r_mv (v := .bool _) rfl) <| QR.s' rfl <| QR.s' rfl <| QR.s' rfl <| QR.s' rfl <| QR.s' rfl <| QR.s' rfl <| QR.s' rfl <| QR.s' rfl <| QR.s' rfl <| QR.s' rfl <| QR.s' rfl <| QR.s' rfl <| QR.q' (fun w' hw' => r_pick false rfl (v := .bool false) rfl) <| QR.q' (fun w' hw' => r_as (v := .bool _) rfl) <| QR.nil ?_
          intro w24 hk25
          exact ⟨⟨(eDF (((jaf h14).trans (jat h13)).trans (jat h9)).2), trivial⟩, hk25⟩
      · refine QR.s' rfl <| QR.s' rfl <| QR.s' rfl <| QR.q' (fun w' hw' => r_pick false rfl (v := .bool false) rfl) <| QR.q' (fun w' hw' => r_mv (v := .bool _) rfl) <| QR.s' rfl <| QR.s' rfl <| QR.s' rfl <| QR.q' (fun w' hw' => r_pick false rfl (v := .bool false) rfl) <| QR.q' (fun w' hw' => r_mv (v := .bool _) rfl) <| QR.s' rfl <| QR.s' rfl <| QR.s' rfl <| QR.q' (fun w' hw' => r_pick false rfl (v := .bool false) rfl) <| QR.q' (fun w' hw' => r_mv (v := .bool _) rfl) <| QR.s' rfl <| QR.s' rfl <| QR.s' rfl <| QR.s' rfl <| QR.s' rfl <| QR.s' rfl <| QR.s' rfl <| QR.s' rfl <| QR.s' rfl <| QR.s' rfl <| QR.s' rfl <| QR.s' rfl <| QR.q' (fun w' hw' => r_pick false rfl (v := .bool false) rfl) <| QR.q' (fun w' hw' => r_as (v := .bool _) rfl) <| QR.nil ?_
        intro w26 hk27
        exact ⟨⟨(eDF ((jaf h13).trans (jat h9)).2), trivial⟩, hk27⟩
    · refine QR.s' rfl <| QR.s' rfl <| QR.q' (fun w' hw' => r_pick false rfl (v := .bool false) rfl) <| QR.q' (fun w' hw' => r_mv (v := .bool _) rfl) <| QR.s' rfl <| QR.s' rfl <| QR.s' rfl <| QR.q' (fun w' hw' => r_pick false rfl (v := .bool false) rfl) <| QR.q' (fun w' hw' => r_mv (v := .bool _) rfl) <| QR.s' rfl <| QR.s' rfl <| QR.s' rfl <| QR.q' (fun w' hw' => r_pick false rfl (v := .bool false) rfl) <| QR.q' (fun w' hw' => r_mv (v := .bool _) rfl) <| QR.s' rfl <| QR.s' rfl <| QR.s' rfl <| QR.q' (fun w' hw' => r_pick false rfl (v := .bool false) rfl) <| QR.q' (fun w' hw' => r_mv (v := .bool _) rfl) <| QR.s' rfl <| QR.s' rfl <| QR.s' rfl <| QR.s' rfl <| QR.s' rfl <| QR.s' rfl <| QR.s' rfl <| QR.s' rfl <| QR.s' rfl <| QR.s' rfl <| QR.s' rfl <| QR.s' rfl <| QR.q' (fun w' hw' => r_pick false rfl (v := .bool false) rfl) <| QR.q' (fun w' hw' => r_as (v := .bool _) rfl) <| QR.nil ?_
      intro w28 hk29
      exact ⟨⟨(eDF (jaf h9).2), trivial⟩, hk29⟩
  rintro f30 w31 ⟨hat32, hk33⟩
  rw [← sets_of_at hat32]
  have hz34 := hk33.size
  have hB35 := hB8.lo hk33
  refine W.ret ?_
  refine ret1 rfl (v := .bool _) rfl ?_
  exact ⟨eR (eDD (z_c_spec_l32Good_36 x nx_Maps hbdx_Maps hlex_Maps nx_Away hbdx_Away hlex_Away)), hB35⟩

theorem z_c_impl_IsLibrary_9 (x : Library) (nx_Maps : Nat) (hbdx_Maps : (nx_Maps : Int) ≤ 9223372036854775807) (hlex_Maps : nx_Maps = x.Maps.length) (nx_Away : Nat) (hbdx_Away : (nx_Away : Int) ≤ 9223372036854775807) (hlex_Away : nx_Away = x.Away.length) (hp0 : (nx_Maps : Int) ≤ 1048576) : 0 ≤ nx_Maps ∧ MTo x.Maps 0 := by
  exact ⟨Nat.zero_le _, MTo.zero⟩
theorem z_c_impl_IsLibrary_60 (x : Library) (nx_Maps : Nat) (hbdx_Maps : (nx_Maps : Int) ≤ 9223372036854775807) (hlex_Maps : nx_Maps = x.Maps.length) (nx_Away : Nat) (hbdx_Away : (nx_Away : Int) ≤ 9223372036854775807) (hlex_Away : nx_Away = x.Away.length) (hp0 : (nx_Maps : Int) ≤ 1048576) (k : Nat) (hi17 : k ≤ nx_Maps ∧ MTo x.Maps k) (h19 : (k : Int) < (nx_Maps : Int)) (hx21 : x.Maps[k]? = some (gt x.Maps k)) (h59 : (¬ (1 ≤ ((gt x.Maps k).Id) ∧ ((gt x.Maps k).Id) ≤ 99)) ∨ ((¬ (0 ≤ ((gt x.Maps k).Copies) ∧ ((gt x.Maps k).Copies) ≤ 99)) ∨ ((¬ (0 ≤ ((gt x.Maps k).Torn) ∧ ((gt x.Maps k).Torn) ≤ ((gt x.Maps k).Copies))) ∨ ((0 < (k : Int)) ∧ (((gt x.Maps k).Id) ≤ ((gt x.Maps (k - 1)).Id)))))) : ¬ (LibOK x) := by
  subst hlex_Maps hlex_Away
  first | exact (fun hh => hh.1.1 k (by omega) ‹_›) | exact (fun hh => hh.2.1.1 j (by omega) (a_badI (MTo.end_ (And.right ‹_ ∧ MTo _ _›) (by omega)) ‹_›)) | (have h1 := MTo.end_ (And.right ‹_ ∧ MTo _ _›) (by omega); have h2 := ATo.end_ (And.right ‹_ ∧ ATo _ _ _›) (by omega); unfold LibOK; constructor <;> (intro h; simp only [h1, h2, true_and] at h ⊢; omega))
theorem z_c_impl_IsLibrary_65 (x : Library) (nx_Maps : Nat) (hbdx_Maps : (nx_Maps : Int) ≤ 9223372036854775807) (hlex_Maps : nx_Maps = x.Maps.length) (nx_Away : Nat) (hbdx_Away : (nx_Away : Int) ≤ 9223372036854775807) (hlex_Away : nx_Away = x.Away.length) (hp0 : (nx_Maps : Int) ≤ 1048576) (k : Nat) (hi17 : k ≤ nx_Maps ∧ MTo x.Maps k) (h19 : (k : Int) < (nx_Maps : Int)) (hx21 : x.Maps[k]? = some (gt x.Maps k)) (h59 : ¬ ((¬ (1 ≤ ((gt x.Maps k).Id) ∧ ((gt x.Maps k).Id) ≤ 99)) ∨ ((¬ (0 ≤ ((gt x.Maps k).Copies) ∧ ((gt x.Maps k).Copies) ≤ 99)) ∨ ((¬ (0 ≤ ((gt x.Maps k).Torn) ∧ ((gt x.Maps k).Torn) ≤ ((gt x.Maps k).Copies))) ∨ ((0 < (k : Int)) ∧ (((gt x.Maps k).Id) ≤ ((gt x.Maps (k - 1)).Id))))))) (hq61 : 1 ≤ ((gt x.Maps k).Id) ∧ ((gt x.Maps k).Id) ≤ 99) (hq62 : 0 ≤ ((gt x.Maps k).Copies) ∧ ((gt x.Maps k).Copies) ≤ 99) (hq63 : 0 ≤ ((gt x.Maps k).Torn) ∧ ((gt x.Maps k).Torn) ≤ ((gt x.Maps k).Copies)) (hq64 : ¬ ((0 < (k : Int)) ∧ (((gt x.Maps k).Id) ≤ ((gt x.Maps (k - 1)).Id)))) : k + 1 ≤ nx_Maps ∧ MTo x.Maps (k + 1) := by
  exact ⟨by omega, MTo.next (And.right ‹_ ∧ MTo _ _›) ‹_›⟩
theorem z_c_impl_IsLibrary_66 (x : Library) (nx_Maps : Nat) (hbdx_Maps : (nx_Maps : Int) ≤ 9223372036854775807) (hlex_Maps : nx_Maps = x.Maps.length) (nx_Away : Nat) (hbdx_Away : (nx_Away : Int) ≤ 9223372036854775807) (hlex_Away : nx_Away = x.Away.length) (hp0 : (nx_Maps : Int) ≤ 1048576) (k : Nat) (hi17 : k ≤ nx_Maps ∧ MTo x.Maps k) (h19 : (k : Int) < (nx_Maps : Int)) (hx21 : x.Maps[k]? = some (gt x.Maps k)) (h59 : ¬ ((¬ (1 ≤ ((gt x.Maps k).Id) ∧ ((gt x.Maps k).Id) ≤ 99)) ∨ ((¬ (0 ≤ ((gt x.Maps k).Copies) ∧ ((gt x.Maps k).Copies) ≤ 99)) ∨ ((¬ (0 ≤ ((gt x.Maps k).Torn) ∧ ((gt x.Maps k).Torn) ≤ ((gt x.Maps k).Copies))) ∨ ((0 < (k : Int)) ∧ (((gt x.Maps k).Id) ≤ ((gt x.Maps (k - 1)).Id))))))) (hq61 : 1 ≤ ((gt x.Maps k).Id) ∧ ((gt x.Maps k).Id) ≤ 99) (hq62 : 0 ≤ ((gt x.Maps k).Copies) ∧ ((gt x.Maps k).Copies) ≤ 99) (hq63 : 0 ≤ ((gt x.Maps k).Torn) ∧ ((gt x.Maps k).Torn) ≤ ((gt x.Maps k).Copies)) (hq64 : ¬ ((0 < (k : Int)) ∧ (((gt x.Maps k).Id) ≤ ((gt x.Maps (k - 1)).Id)))) : nx_Maps - (k + 1) < nx_Maps - k := by
  omega
theorem z_c_impl_IsLibrary_67 (x : Library) (nx_Maps : Nat) (hbdx_Maps : (nx_Maps : Int) ≤ 9223372036854775807) (hlex_Maps : nx_Maps = x.Maps.length) (nx_Away : Nat) (hbdx_Away : (nx_Away : Int) ≤ 9223372036854775807) (hlex_Away : nx_Away = x.Away.length) (hp0 : (nx_Maps : Int) ≤ 1048576) (k : Nat) (hi17 : k ≤ nx_Maps ∧ MTo x.Maps k) (h19 : ¬ ((k : Int) < (nx_Maps : Int))) : 0 ≤ nx_Away ∧ ATo x.Maps x.Away 0 := by
  exact ⟨Nat.zero_le _, ATo.zero⟩
theorem z_c_impl_IsLibrary_120 (x : Library) (nx_Maps : Nat) (hbdx_Maps : (nx_Maps : Int) ≤ 9223372036854775807) (hlex_Maps : nx_Maps = x.Maps.length) (nx_Away : Nat) (hbdx_Away : (nx_Away : Int) ≤ 9223372036854775807) (hlex_Away : nx_Away = x.Away.length) (hp0 : (nx_Maps : Int) ≤ 1048576) (k : Nat) (hi17 : k ≤ nx_Maps ∧ MTo x.Maps k) (h19 : ¬ ((k : Int) < (nx_Maps : Int))) (j : Nat) (hi75 : j ≤ nx_Away ∧ ATo x.Maps x.Away j) (h77 : (j : Int) < (nx_Away : Int)) (hx79 : x.Away[j]? = some (gt x.Away j)) (hq98 : bsP cmpM ((gt x.Away j).Map) x.Maps ≤ x.Maps.length) (h119 : (¬ (bsF cmpM ((gt x.Away j).Map) x.Maps)) ∨ ((¬ (1 ≤ ((gt x.Away j).Reader) ∧ ((gt x.Away j).Reader) ≤ 999)) ∨ ((0 < (j : Int)) ∧ (0 ≤ (cmpA (gt x.Away (j - 1)) (gt x.Away j)))))) : ¬ (LibOK x) := by
  subst hlex_Maps hlex_Away
  first | exact (fun hh => hh.1.1 k (by omega) ‹_›) | exact (fun hh => hh.2.1.1 j (by omega) (a_badI (MTo.end_ (And.right ‹_ ∧ MTo _ _›) (by omega)) ‹_›)) | (have h1 := MTo.end_ (And.right ‹_ ∧ MTo _ _›) (by omega); have h2 := ATo.end_ (And.right ‹_ ∧ ATo _ _ _›) (by omega); unfold LibOK; constructor <;> (intro h; simp only [h1, h2, true_and] at h ⊢; omega))
theorem z_c_impl_IsLibrary_124 (x : Library) (nx_Maps : Nat) (hbdx_Maps : (nx_Maps : Int) ≤ 9223372036854775807) (hlex_Maps : nx_Maps = x.Maps.length) (nx_Away : Nat) (hbdx_Away : (nx_Away : Int) ≤ 9223372036854775807) (hlex_Away : nx_Away = x.Away.length) (hp0 : (nx_Maps : Int) ≤ 1048576) (k : Nat) (hi17 : k ≤ nx_Maps ∧ MTo x.Maps k) (h19 : ¬ ((k : Int) < (nx_Maps : Int))) (j : Nat) (hi75 : j ≤ nx_Away ∧ ATo x.Maps x.Away j) (h77 : (j : Int) < (nx_Away : Int)) (hx79 : x.Away[j]? = some (gt x.Away j)) (hq98 : bsP cmpM ((gt x.Away j).Map) x.Maps ≤ x.Maps.length) (h119 : ¬ ((¬ (bsF cmpM ((gt x.Away j).Map) x.Maps)) ∨ ((¬ (1 ≤ ((gt x.Away j).Reader) ∧ ((gt x.Away j).Reader) ≤ 999)) ∨ ((0 < (j : Int)) ∧ (0 ≤ (cmpA (gt x.Away (j - 1)) (gt x.Away j))))))) (hq121 : bsF cmpM ((gt x.Away j).Map) x.Maps) (hq122 : 1 ≤ ((gt x.Away j).Reader) ∧ ((gt x.Away j).Reader) ≤ 999) (hq123 : ¬ ((0 < (j : Int)) ∧ (0 ≤ (cmpA (gt x.Away (j - 1)) (gt x.Away j))))) : j + 1 ≤ nx_Away ∧ ATo x.Maps x.Away (j + 1) := by
  exact ⟨by omega, ATo.next (And.right ‹_ ∧ ATo _ _ _›) (a_goodI (MTo.end_ (And.right ‹_ ∧ MTo _ _›) (by omega)) ‹_›)⟩
theorem z_c_impl_IsLibrary_125 (x : Library) (nx_Maps : Nat) (hbdx_Maps : (nx_Maps : Int) ≤ 9223372036854775807) (hlex_Maps : nx_Maps = x.Maps.length) (nx_Away : Nat) (hbdx_Away : (nx_Away : Int) ≤ 9223372036854775807) (hlex_Away : nx_Away = x.Away.length) (hp0 : (nx_Maps : Int) ≤ 1048576) (k : Nat) (hi17 : k ≤ nx_Maps ∧ MTo x.Maps k) (h19 : ¬ ((k : Int) < (nx_Maps : Int))) (j : Nat) (hi75 : j ≤ nx_Away ∧ ATo x.Maps x.Away j) (h77 : (j : Int) < (nx_Away : Int)) (hx79 : x.Away[j]? = some (gt x.Away j)) (hq98 : bsP cmpM ((gt x.Away j).Map) x.Maps ≤ x.Maps.length) (h119 : ¬ ((¬ (bsF cmpM ((gt x.Away j).Map) x.Maps)) ∨ ((¬ (1 ≤ ((gt x.Away j).Reader) ∧ ((gt x.Away j).Reader) ≤ 999)) ∨ ((0 < (j : Int)) ∧ (0 ≤ (cmpA (gt x.Away (j - 1)) (gt x.Away j))))))) (hq121 : bsF cmpM ((gt x.Away j).Map) x.Maps) (hq122 : 1 ≤ ((gt x.Away j).Reader) ∧ ((gt x.Away j).Reader) ≤ 999) (hq123 : ¬ ((0 < (j : Int)) ∧ (0 ≤ (cmpA (gt x.Away (j - 1)) (gt x.Away j))))) : nx_Away - (j + 1) < nx_Away - j := by
  omega
theorem z_c_impl_IsLibrary_150 (x : Library) (nx_Maps : Nat) (hbdx_Maps : (nx_Maps : Int) ≤ 9223372036854775807) (hlex_Maps : nx_Maps = x.Maps.length) (nx_Away : Nat) (hbdx_Away : (nx_Away : Int) ≤ 9223372036854775807) (hlex_Away : nx_Away = x.Away.length) (hp0 : (nx_Maps : Int) ≤ 1048576) (k : Nat) (hi17 : k ≤ nx_Maps ∧ MTo x.Maps k) (h19 : ¬ ((k : Int) < (nx_Maps : Int))) (j : Nat) (hi75 : j ≤ nx_Away ∧ ATo x.Maps x.Away j) (h77 : ¬ ((j : Int) < (nx_Away : Int))) : (((nx_Maps : Int) ≤ 8) ∧ (((nx_Away : Int) ≤ 8) ∧ ((0 ≤ x.Bought ∧ x.Bought ≤ 9999) ∧ ((0 ≤ x.Dropped ∧ x.Dropped ≤ 9999) ∧ ((0 ≤ x.Mended ∧ x.Mended ≤ 9999) ∧ (x.Bought = (((sumC x.Maps) + (nx_Away : Int)) + x.Dropped))))))) ↔ (LibOK x) := by
  subst hlex_Maps hlex_Away
  first | exact (fun hh => hh.1.1 k (by omega) ‹_›) | exact (fun hh => hh.2.1.1 j (by omega) (a_badI (MTo.end_ (And.right ‹_ ∧ MTo _ _›) (by omega)) ‹_›)) | (have h1 := MTo.end_ (And.right ‹_ ∧ MTo _ _›) (by omega); have h2 := ATo.end_ (And.right ‹_ ∧ ATo _ _ _›) (by omega); unfold LibOK; constructor <;> (intro h; simp only [h1, h2, true_and] at h ⊢; omega))
theorem c_impl_IsLibrary (w : World) (x : Library) {Ax_Maps : Option Addr} {nx_Maps cx_Maps Bx_Maps : Nat} (hx_Maps : SlR w Bx_Maps encLMap 3 Ax_Maps nx_Maps cx_Maps x.Maps) {Ax_Away : Option Addr} {nx_Away cx_Away Bx_Away : Nat} (hx_Away : SlR w Bx_Away encAway 2 Ax_Away nx_Away cx_Away x.Away) (hp0 : (nx_Maps : Int) ≤ 1048576) : Calls Tryd.prog 17 #[.agg (List.toArray [.slice Ax_Maps nx_Maps cx_Maps, .slice Ax_Away nx_Away cx_Away, .int .i64 x.Bought, .int .i64 x.Dropped, .int .i64 x.Mended])] w fun e w' => e = .returned (.bool (decide (LibOK x))) ∧ Lo w w' := by
  refine calls_W 130 Tryd.func17 rfl rfl rfl ?_
  have hbdx_Maps := hx_Maps.bound
  have hlex_Maps := hx_Maps.len
  have hBbx_Maps := hx_Maps.bd
  have hbdx_Away := hx_Away.bound
  have hlex_Away := hx_Away.len
  have hBbx_Away := hx_Away.bd
  refine W.seq ?_
  refine W.regS (SR.box (v := .agg (List.toArray _)) (l := [.slice Ax_Maps nx_Maps cx_Maps, .slice Ax_Away nx_Away cx_Away, .int .i64 x.Bought, .int .i64 x.Dropped, .int .i64 x.Mended]) rfl rfl ?_)
  intro g1 w2 hg3 hk4 hs5 hb6
  have hz7 := hk4.size
  have hB8 := (Lo.refl w).lo hk4
  refine SR.q' (r_as (v := .bool false) rfl) <| SR.nil ?_
  refine W.seq ?_
  refine W.seq ?_
  refine W.regS (SR.q' (r_fa fa35_0 rfl) <| SR.q' (r_ld (v := .slice Ax_Maps nx_Maps cx_Maps) sca32 rfl ((hb6).cell rfl)) <| SR.q' (r_len und32 rfl) <| SR.q' (r_mv (v := .int .i64 0) rfl) <| SR.nil ?_)
  refine W.block ?_
  refine W.loop (σ := Nat) (fun g => [(1, .pointer (some ((⟨g1, 0, none⟩ : Addr)))), (10, .slice Ax_Maps nx_Maps cx_Maps), (11, .int .i64 (nx_Maps : Int)), (12, .int .i64 (g : Int))]) (fun g w' => (Lo w w') ∧ (Blk w' g1 35 [.slice Ax_Maps nx_Maps cx_Maps, .slice Ax_Away nx_Away cx_Away, .int .i64 x.Bought, .int .i64 x.Dropped, .int .i64 x.Mended]) ∧ (SlR w' Bx_Maps encLMap 3 Ax_Maps nx_Maps cx_Maps x.Maps) ∧ (SlR w' Bx_Away encAway 2 Ax_Away nx_Away cx_Away x.Away) ∧ (g ≤ nx_Maps ∧ MTo x.Maps g)) (fun g => nx_Maps - g) 0 ?_ ?_ ?_
  · exact ⟨rfl, rfl, rfl, rfl, trivial⟩
  · exact ⟨hB8, hb6, (hx_Maps).lo hk4, (hx_Away).lo hk4, (z_c_impl_IsLibrary_9 x nx_Maps hbdx_Maps hlex_Maps nx_Away hbdx_Away hlex_Away hp0)⟩
  · rintro k f10 w11 hP13
    obtain ⟨hB12, hm14, hm15, hm16, hi17⟩ : (Lo w w11) ∧ (Blk w11 g1 35 [.slice Ax_Maps nx_Maps cx_Maps, .slice Ax_Away nx_Away cx_Away, .int .i64 x.Bought, .int .i64 x.Dropped, .int .i64 x.Mended]) ∧ (SlR w11 Bx_Maps encLMap 3 Ax_Maps nx_Maps cx_Maps x.Maps) ∧ (SlR w11 Bx_Away encAway 2 Ax_Away nx_Away cx_Away x.Away) ∧ (k ≤ nx_Maps ∧ MTo x.Maps k) := hP13
    refine (?_ : W _ _ _ _ _ (act _ (sets f10 [(1, .pointer (some ((⟨g1, 0, none⟩ : Addr)))), (10, .slice Ax_Maps nx_Maps cx_Maps), (11, .int .i64 (nx_Maps : Int)), (12, .int .i64 (k : Int))])) _)
    have hzw11 := hB12.size
    have hl18 := hm14.lt
    refine W.seq ?_
    refine W.regS (SR.q' (r_lt rfl rfl) <| SR.nil ?_)
    refine W.seq ?_
    refine W.cond_d rfl (fun h19 => ?_) (fun h19 => ?_)
    · refine W.skip ?_
      refine W.seq ?_
      refine W.block ?_
      refine W.seq ?_
      refine W.regS (SR.q' (r_mv (v := .int .i64 _) rfl) <| ?_)
      have hx21 := (hm15).elem (i := k) (by omega)
      refine SR.q' (r_ixR tsl32 (hm15) rfl rfl (by omega)) <| SR.q' (r_lda (l := encLMap (gt x.Maps k)) agg54 rfl (fun _ _ hu => (hm15).cell hx21 hu) ((hm15).esz _)) <| SR.alloc (l := [.int .i64 0, .int .i64 0, .int .i64 0]) tz54 rfl ?_
      intro g22 w23 hg24 hk25 hs26 hb27
      have hz28 := hk25.size
      have hB29 := hB12.lo hk25
      refine SR.q' (r_as (v := .int .i64 _) rfl) <| SR.store (o := 0) (vs := [.int .i64 ((gt x.Maps k).Id), .int .i64 ((gt x.Maps k).Copies), .int .i64 ((gt x.Maps k).Torn)]) agg54.2 rfl rfl rfl rfl (hb27) (Nat.le_of_ble_eq_true rfl) rfl ?_
      intro w30 hk31 hs32 hb33
      have hz34 := hk31.size
      have hB35 := hB29.new hk31 (by omega)
      refine SR.nil ?_
      refine W.seq ?_
      refine W.regJD mo (by kernel_rfl) (fun f' w' => At f' [(1, .pointer (some ((⟨g1, 0, none⟩ : Addr)))), (10, .slice Ax_Maps nx_Maps cx_Maps), (11, .int .i64 (nx_Maps : Int)), (12, .int .i64 (k : Int)), (50, .bool (decide ((¬ (1 ≤ ((gt x.Maps k).Id) ∧ ((gt x.Maps k).Id) ≤ 99)) ∨ ((¬ (0 ≤ ((gt x.Maps k).Copies) ∧ ((gt x.Maps k).Copies) ≤ 99)) ∨ ((¬ (0 ≤ ((gt x.Maps k).Torn) ∧ ((gt x.Maps k).Torn) ≤ ((gt x.Maps k).Copies))) ∨ ((0 < (k : Int)) ∧ (((gt x.Maps k).Id) ≤ ((gt x.Maps (k - 1)).Id))))))))] ∧ Lo w30 w') ?_ ?_
      · refine QR.q' (fun w' hw' => r_fa fa54_0 rfl) <| QR.q' (fun w' hw' => r_ld (v := .int .i64 ((gt x.Maps k).Id)) sca3 rfl (((hb33).lo hw').cell rfl)) <| QR.call ent31 (fun w' hw' => (c_impl_isMapId w' ((gt x.Maps k).Id)).mono fun _ _ h => ⟨h.1, hw'.trans h.2⟩) rfl <| QR.q' (fun w' hw' => r_not rfl) <| QR.q' (fun w' hw' => r_mv (v := .bool _) rfl) <| QR.splitN (fun h36 => ?_) (fun h36 => ?_)
        · refine QR.s' rfl <| QR.s' rfl <| QR.s' rfl <| QR.s' rfl <| QR.q' (fun w' hw' => r_pick true rfl (v := .bool true) rfl) <| QR.q' (fun w' hw' => r_mv (v := .bool _) rfl) <| QR.s' rfl <| QR.s' rfl <| QR.s' rfl <| QR.s' rfl <| QR.s' rfl <| QR.s' rfl <| QR.q' (fun w' hw' => r_pick true rfl (v := .bool true) rfl) <| QR.q' (fun w' hw' => r_mv (v := .bool _) rfl) <| QR.s' rfl <| QR.s' rfl <| QR.s' rfl <| QR.u' rfl <| QR.u' rfl <| QR.u' rfl <| QR.u' rfl <| QR.u' rfl <| QR.u' rfl <| QR.u' rfl <| QR.u' rfl <| QR.u' rfl <| QR.u' rfl <| QR.s' rfl <| QR.q' (fun w' hw' => r_pick true rfl (v := .bool true) rfl) <| QR.nil ?_
          intro w37 hk38
          exact ⟨⟨rfl, rfl, rfl, rfl, (eDT ((jmf h36).1 trivial)), trivial⟩, hk38⟩
        · refine QR.g' rfl (fun w' hw' => r_fa fa54_1 rfl) <| QR.g' rfl (fun w' hw' => r_ld (v := .int .i64 ((gt x.Maps k).Copies)) sca3 rfl (((hb33).lo hw').cell rfl)) <| QR.gcall rfl ent32 (fun w' hw' => (c_impl_within w' ((gt x.Maps k).Copies) 0 99).mono fun _ _ h => ⟨h.1, hw'.trans h.2⟩) rfl <| QR.g' rfl (fun w' hw' => r_not rfl) <| QR.q' (fun w' hw' => r_pick false rfl (v := .bool _) rfl) <| QR.q' (fun w' hw' => r_mv (v := .bool _) rfl) <| QR.splitN (fun h39 => ?_) (fun h39 => ?_)
          · refine QR.s' rfl <| QR.s' rfl <| QR.s' rfl <| QR.s' rfl <| QR.s' rfl <| QR.s' rfl <| QR.q' (fun w' hw' => r_pick true rfl (v := .bool true) rfl) <| QR.q' (fun w' hw' => r_mv (v := .bool _) rfl) <| QR.s' rfl <| QR.s' rfl <| QR.s' rfl <| QR.u' rfl <| QR.u' rfl <| QR.u' rfl <| QR.u' rfl <| QR.u' rfl <| QR.u' rfl <| QR.u' rfl <| QR.u' rfl <| QR.u' rfl <| QR.u' rfl <| QR.s' rfl <| QR.q' (fun w' hw' => r_pick true rfl (v := .bool true) rfl) <| QR.nil ?_
            intro w40 hk41
            exact ⟨⟨rfl, rfl, rfl, rfl, (eDT (((jmf h39).trans (jmt h36)).1 trivial)), trivial⟩, hk41⟩
          · refine QR.g' rfl (fun w' hw' => r_fa fa54_2 rfl) <| QR.g' rfl (fun w' hw' => r_ld (v := .int .i64 ((gt x.Maps k).Torn)) sca3 rfl (((hb33).lo hw').cell rfl)) <| QR.g' rfl (fun w' hw' => r_fa fa54_1 rfl) <| QR.g' rfl (fun w' hw' => r_ld (v := .int .i64 ((gt x.Maps k).Copies)) sca3 rfl (((hb33).lo hw').cell rfl)) <| QR.gcall rfl ent32 (fun w' hw' => (c_impl_within w' ((gt x.Maps k).Torn) 0 ((gt x.Maps k).Copies)).mono fun _ _ h => ⟨h.1, hw'.trans h.2⟩) rfl <| QR.g' rfl (fun w' hw' => r_not rfl) <| QR.q' (fun w' hw' => r_pick false rfl (v := .bool _) rfl) <| QR.q' (fun w' hw' => r_mv (v := .bool _) rfl) <| QR.splitN (fun h42 => ?_) (fun h42 => ?_)
            · refine QR.s' rfl <| QR.s' rfl <| QR.s' rfl <| QR.u' rfl <| QR.u' rfl <| QR.u' rfl <| QR.u' rfl <| QR.u' rfl <| QR.u' rfl <| QR.u' rfl <| QR.u' rfl <| QR.u' rfl <| QR.u' rfl <| QR.s' rfl <| QR.q' (fun w' hw' => r_pick true rfl (v := .bool true) rfl) <| QR.nil ?_
              intro w43 hk44
              exact ⟨⟨rfl, rfl, rfl, rfl, (eDT ((((jmf h42).trans (jmt h39)).trans (jmt h36)).1 trivial)), trivial⟩, hk44⟩
            · refine QR.g' rfl (fun w' hw' => r_mv (v := .int .i64 _) rfl) <| QR.g' rfl (fun w' hw' => r_gt rfl rfl) <| QR.g' rfl (fun w' hw' => r_mv (v := .bool _) rfl) <| QR.splitD (fun h45 => ?_) (fun h45 => ?_)
              · refine QR.g' rfl (fun w' hw' => r_fa fa54_0 rfl) <| QR.g' rfl (fun w' hw' => r_ld (v := .int .i64 ((gt x.Maps k).Id)) sca3 rfl (((hb33).lo hw').cell rfl)) <| QR.g' rfl (fun w' hw' => r_fa fa35_0 rfl) <| QR.g' rfl (fun w' hw' => r_ld (v := .slice Ax_Maps nx_Maps cx_Maps) sca32 rfl (((((hm14).lo hk25).kp hk31 (fun e' => by have e'' : g1 = g22 := e'; omega)).lo hw').cell rfl)) <| QR.g' rfl (fun w' hw' => r_mv (v := .int .i64 _) rfl) <| QR.g' rfl (fun w' hw' => r_sub rfl rfl (by omega)) <| ?_
                have hx47 := (((hm15).lo hk25).kp hk31 (fun b_ hb e' => by have e'' : b_ = g22 := e'; omega)).elem (i := ((k : Int) - 1).toNat) (by omega)
                rw [show ((k : Int) - 1).toNat = k - 1 from by omega] at hx47
                have hx48 : x.Maps[((k : Int) - 1).toNat]? = some (gt x.Maps (k - 1)) := (show ((k : Int) - 1).toNat = k - 1 from by omega) ▸ hx47
                refine QR.g' rfl (fun w' hw' => r_ixR tsl32 (((((hm15).lo hk25).kp hk31 (fun b_ hb e' => by have e'' : b_ = g22 := e'; omega)).lo hw')) rfl rfl (by omega)) <| QR.g' rfl (fun w' hw' => r_fa fa54_0 rfl) <| QR.g' rfl (fun w' hw' => r_ld (v := .int .i64 ((gt x.Maps (k - 1)).Id)) sca3 rfl ((((((hm15).lo hk25).kp hk31 (fun b_ hb e' => by have e'' : b_ = g22 := e'; omega)).lo hw')).cell hx48 rfl)) <| QR.g' rfl (fun w' hw' => r_le rfl rfl) <| QR.g' rfl (fun w' hw' => r_pick true rfl (v := .bool _) rfl) <| QR.q' (fun w' hw' => r_pick false rfl (v := .bool _) rfl) <| QR.nil ?_
                intro w49 hk50
                exact ⟨⟨rfl, rfl, rfl, rfl, (eDD ((((jat h45).trans (jmt h42)).trans (jmt h39)).trans (jmt h36))), trivial⟩, hk50⟩
              · refine QR.s' rfl <| QR.s' rfl <| QR.s' rfl <| QR.s' rfl <| QR.s' rfl <| QR.s' rfl <| QR.s' rfl <| QR.s' rfl <| QR.s' rfl <| QR.s' rfl <| QR.g' rfl (fun w' hw' => r_pick false rfl (v := .bool false) rfl) <| QR.q' (fun w' hw' => r_pick false rfl (v := .bool _) rfl) <| QR.nil ?_
                intro w51 hk52
                exact ⟨⟨rfl, rfl, rfl, rfl, (eDF ((((jaf h45).trans (jmt h42)).trans (jmt h39)).trans (jmt h36)).2), trivial⟩, hk52⟩
      rintro f53 w54 ⟨hat55, hk56⟩
      rw [← sets_of_at hat55]
      have hz57 := hk56.size
      have hB58 := hB35.lo hk56
      refine W.cond_d rfl (fun h59 => ?_) (fun h59 => ?_)
      · refine W.seq ?_
        refine W.regS (SR.q' (r_as (v := .bool false) rfl) <| SR.nil ?_)
        refine W.ret ?_
        refine ret1 rfl (v := .bool _) rfl ?_
        exact ⟨eR (eDF (z_c_impl_IsLibrary_60 x nx_Maps hbdx_Maps hlex_Maps nx_Away hbdx_Away hlex_Away hp0 k hi17 h19 hx21 h59)), hB58⟩
      · have hq61 : 1 ≤ ((gt x.Maps k).Id) ∧ ((gt x.Maps k).Id) ≤ 99 := (Classical.not_not.1 (not_or.1 h59).1)
        have hq62 : 0 ≤ ((gt x.Maps k).Copies) ∧ ((gt x.Maps k).Copies) ≤ 99 := (Classical.not_not.1 (not_or.1 (not_or.1 h59).2).1)
        have hq63 : 0 ≤ ((gt x.Maps k).Torn) ∧ ((gt x.Maps k).Torn) ≤ ((gt x.Maps k).Copies) := (Classical.not_not.1 (not_or.1 (not_or.1 (not_or.1 h59).2).2).1)
        have hq64 : ¬ ((0 < (k : Int)) ∧ (((gt x.Maps k).Id) ≤ ((gt x.Maps (k - 1)).Id))) := (not_or.1 (not_or.1 (not_or.1 h59).2).2).2
        refine W.skip ?_
        refine W.regS (SR.q' (r_add rfl rfl (by omega)) <| SR.q' (r_mv (v := .int .i64 _) rfl) <| SR.nil ?_)
        refine ⟨k + 1, _, rfl, ⟨rfl, rfl, rfl, rfl, trivial⟩, ⟨hB58, (((hm14).lo hk25).kp hk31 (fun e' => by have e'' : g1 = g22 := e'; omega)).lo hk56, (((hm15).lo hk25).kp hk31 (fun b_ hb e' => by have e'' : b_ = g22 := e'; omega)).lo hk56, (((hm16).lo hk25).kp hk31 (fun b_ hb e' => by have e'' : b_ = g22 := e'; omega)).lo hk56, ?_⟩, ?_⟩
        · exact (z_c_impl_IsLibrary_65 x nx_Maps hbdx_Maps hlex_Maps nx_Away hbdx_Away hlex_Away hp0 k hi17 h19 hx21 h59 hq61 hq62 hq63 hq64)
        · exact (z_c_impl_IsLibrary_66 x nx_Maps hbdx_Maps hlex_Maps nx_Away hbdx_Away hlex_Away hp0 k hi17 h19 hx21 h59 hq61 hq62 hq63 hq64)
    · refine W.exit (xin_here ?_)
      refine W.seq ?_
      refine W.seq ?_
      refine W.regS (SR.q' (r_fa fa35_1 rfl) <| SR.q' (r_ld (v := .slice Ax_Away nx_Away cx_Away) sca33 rfl ((hm14).cell rfl)) <| SR.q' (r_len und33 rfl) <| SR.q' (r_mv (v := .int .i64 0) rfl) <| SR.nil ?_)
      refine W.block ?_
      refine W.loop (σ := Nat) (fun g => [(1, .pointer (some ((⟨g1, 0, none⟩ : Addr)))), (53, .slice Ax_Away nx_Away cx_Away), (54, .int .i64 (nx_Away : Int)), (55, .int .i64 (g : Int))]) (fun g w' => (Lo w w') ∧ (Blk w' g1 35 [.slice Ax_Maps nx_Maps cx_Maps, .slice Ax_Away nx_Away cx_Away, .int .i64 x.Bought, .int .i64 x.Dropped, .int .i64 x.Mended]) ∧ (SlR w' Bx_Maps encLMap 3 Ax_Maps nx_Maps cx_Maps x.Maps) ∧ (SlR w' Bx_Away encAway 2 Ax_Away nx_Away cx_Away x.Away) ∧ (g ≤ nx_Away ∧ ATo x.Maps x.Away g)) (fun g => nx_Away - g) 0 ?_ ?_ ?_
      · exact ⟨rfl, rfl, rfl, rfl, trivial⟩
      · exact ⟨hB12, hm14, hm15, hm16, (z_c_impl_IsLibrary_67 x nx_Maps hbdx_Maps hlex_Maps nx_Away hbdx_Away hlex_Away hp0 k hi17 h19)⟩
      · rintro j f68 w69 hP71
        obtain ⟨hB70, hm72, hm73, hm74, hi75⟩ : (Lo w w69) ∧ (Blk w69 g1 35 [.slice Ax_Maps nx_Maps cx_Maps, .slice Ax_Away nx_Away cx_Away, .int .i64 x.Bought, .int .i64 x.Dropped, .int .i64 x.Mended]) ∧ (SlR w69 Bx_Maps encLMap 3 Ax_Maps nx_Maps cx_Maps x.Maps) ∧ (SlR w69 Bx_Away encAway 2 Ax_Away nx_Away cx_Away x.Away) ∧ (j ≤ nx_Away ∧ ATo x.Maps x.Away j) := hP71
        refine (?_ : W _ _ _ _ _ (act _ (sets f68 [(1, .pointer (some ((⟨g1, 0, none⟩ : Addr)))), (53, .slice Ax_Away nx_Away cx_Away), (54, .int .i64 (nx_Away : Int)), (55, .int .i64 (j : Int))])) _)
        have hzw69 := hB70.size
        have hl76 := hm72.lt
        refine W.seq ?_
        refine W.regS (SR.q' (r_lt rfl rfl) <| SR.nil ?_)
        refine W.seq ?_
        refine W.cond_d rfl (fun h77 => ?_) (fun h77 => ?_)
        · refine W.skip ?_
          refine W.seq ?_
          refine W.block ?_
          refine W.seq ?_
          refine W.regS (SR.q' (r_mv (v := .int .i64 _) rfl) <| ?_)
          have hx79 := (hm74).elem (i := j) (by omega)
          refine SR.q' (r_ixR tsl33 (hm74) rfl rfl (by omega)) <| SR.q' (r_lda (l := encAway (gt x.Away j)) agg64 rfl (fun _ _ hu => (hm74).cell hx79 hu) ((hm74).esz _)) <| SR.alloc (l := [.int .i64 0, .int .i64 0]) tz64 rfl ?_
          intro g80 w81 hg82 hk83 hs84 hb85
          have hz86 := hk83.size
          have hB87 := hB70.lo hk83
          refine SR.q' (r_as (v := .int .i64 _) rfl) <| SR.store (o := 0) (vs := [.int .i64 ((gt x.Away j).Map), .int .i64 ((gt x.Away j).Reader)]) agg64.2 rfl rfl rfl rfl (hb85) (Nat.le_of_ble_eq_true rfl) rfl ?_
          intro w88 hk89 hs90 hb91
          have hz92 := hk89.size
          have hB93 := hB87.new hk89 (by omega)
          refine SR.nil ?_
          refine W.seq ?_
          refine W.regS (SR.q' (r_lda (l := [.slice Ax_Maps nx_Maps cx_Maps, .slice Ax_Away nx_Away cx_Away, .int .i64 x.Bought, .int .i64 x.Dropped, .int .i64 x.Mended]) agg35 rfl (fun _ _ hu => (((hm72).lo hk83).kp hk89 (fun e' => by have e'' : g1 = g80 := e'; omega)).cell hu) rfl) <| SR.q' (r_fa fa64_0 rfl) <| SR.q' (r_ld (v := .int .i64 ((gt x.Away j).Map)) sca3 rfl ((hb91).cell rfl)) <| SR.call ent33 (c__impl_Library__mapAt w88 x ((((hm73).lo hk83).kp hk89 (fun b_ hb e' => by have e'' : b_ = g80 := e'; omega))) ((((hm74).lo hk83).kp hk89 (fun b_ hb e' => by have e'' : b_ = g80 := e'; omega))) ((gt x.Away j).Map) (by omega)) rfl ?_)
          rintro e w94 ⟨rfl, hk95⟩
          refine ⟨_, rfl, ?_⟩
          have hz96 := hk95.size
          have hB97 := hB93.lo hk95
          have hq98 : bsP cmpM ((gt x.Away j).Map) x.Maps ≤ x.Maps.length := bsP_le
          refine SR.q' (r_mv (v := .tuple (List.toArray _)) rfl) <| SR.q' (r_ext (v := .int .i64 _) rfl rfl) <| SR.q' (r_ext (v := .bool _) rfl rfl) <| SR.q' (r_as (v := .int .i64 _) rfl) <| SR.q' (r_as (v := .bool _) rfl) <| SR.nil ?_
          refine W.seq ?_
          refine W.regJD mo (by kernel_rfl) (fun f' w' => At f' [(1, .pointer (some ((⟨g1, 0, none⟩ : Addr)))), (53, .slice Ax_Away nx_Away cx_Away), (54, .int .i64 (nx_Away : Int)), (55, .int .i64 (j : Int)), (89, .bool (decide ((¬ (bsF cmpM ((gt x.Away j).Map) x.Maps)) ∨ ((¬ (1 ≤ ((gt x.Away j).Reader) ∧ ((gt x.Away j).Reader) ≤ 999)) ∨ ((0 < (j : Int)) ∧ (0 ≤ (cmpA (gt x.Away (j - 1)) (gt x.Away j))))))))] ∧ Lo w94 w') ?_ ?_
          · refine QR.q' (fun w' hw' => r_mv (v := .bool _) rfl) <| QR.q' (fun w' hw' => r_not rfl) <| QR.q' (fun w' hw' => r_mv (v := .bool _) rfl) <| QR.splitN (fun h99 => ?_) (fun h99 => ?_)
            · refine QR.s' rfl <| QR.s' rfl <| QR.s' rfl <| QR.s' rfl <| QR.q' (fun w' hw' => r_pick true rfl (v := .bool true) rfl) <| QR.q' (fun w' hw' => r_mv (v := .bool _) rfl) <| QR.s' rfl <| QR.s' rfl <| QR.s' rfl <| QR.u' rfl <| QR.u' rfl <| QR.u' rfl <| QR.u' rfl <| QR.u' rfl <| QR.u' rfl <| QR.u' rfl <| QR.u' rfl <| QR.u' rfl <| QR.s' rfl <| QR.q' (fun w' hw' => r_pick true rfl (v := .bool true) rfl) <| QR.nil ?_
              intro w100 hk101
              exact ⟨⟨rfl, rfl, rfl, rfl, (eDT ((jmf h99).1 trivial)), trivial⟩, hk101⟩
            · refine QR.g' rfl (fun w' hw' => r_fa fa64_1 rfl) <| QR.g' rfl (fun w' hw' => r_ld (v := .int .i64 ((gt x.Away j).Reader)) sca3 rfl ((((hb91).lo hk95).lo hw').cell rfl)) <| QR.gcall rfl ent34 (fun w' hw' => (c_impl_isId w' ((gt x.Away j).Reader)).mono fun _ _ h => ⟨h.1, hw'.trans h.2⟩) rfl <| QR.g' rfl (fun w' hw' => r_not rfl) <| QR.q' (fun w' hw' => r_pick false rfl (v := .bool _) rfl) <| QR.q' (fun w' hw' => r_mv (v := .bool _) rfl) <| QR.splitN (fun h102 => ?_) (fun h102 => ?_)
              · refine QR.s' rfl <| QR.s' rfl <| QR.s' rfl <| QR.u' rfl <| QR.u' rfl <| QR.u' rfl <| QR.u' rfl <| QR.u' rfl <| QR.u' rfl <| QR.u' rfl <| QR.u' rfl <| QR.u' rfl <| QR.s' rfl <| QR.q' (fun w' hw' => r_pick true rfl (v := .bool true) rfl) <| QR.nil ?_
                intro w103 hk104
                exact ⟨⟨rfl, rfl, rfl, rfl, (eDT (((jmf h102).trans (jmt h99)).1 trivial)), trivial⟩, hk104⟩
              · refine QR.g' rfl (fun w' hw' => r_mv (v := .int .i64 _) rfl) <| QR.g' rfl (fun w' hw' => r_gt rfl rfl) <| QR.g' rfl (fun w' hw' => r_mv (v := .bool _) rfl) <| QR.splitD (fun h105 => ?_) (fun h105 => ?_)
                · refine QR.g' rfl (fun w' hw' => r_fa fa35_1 rfl) <| QR.g' rfl (fun w' hw' => r_ld (v := .slice Ax_Away nx_Away cx_Away) sca33 rfl ((((((hm72).lo hk83).kp hk89 (fun e' => by have e'' : g1 = g80 := e'; omega)).lo hk95).lo hw').cell rfl)) <| QR.g' rfl (fun w' hw' => r_mv (v := .int .i64 _) rfl) <| QR.g' rfl (fun w' hw' => r_sub rfl rfl (by omega)) <| ?_
                  have hx107 := ((((hm74).lo hk83).kp hk89 (fun b_ hb e' => by have e'' : b_ = g80 := e'; omega)).lo hk95).elem (i := ((j : Int) - 1).toNat) (by omega)
                  rw [show ((j : Int) - 1).toNat = j - 1 from by omega] at hx107
                  have hx108 : x.Away[((j : Int) - 1).toNat]? = some (gt x.Away (j - 1)) := (show ((j : Int) - 1).toNat = j - 1 from by omega) ▸ hx107
                  refine QR.g' rfl (fun w' hw' => r_ixR tsl33 ((((((hm74).lo hk83).kp hk89 (fun b_ hb e' => by have e'' : b_ = g80 := e'; omega)).lo hk95).lo hw')) rfl rfl (by omega)) <| QR.g' rfl (fun w' hw' => r_lda (l := encAway (gt x.Away (j - 1))) agg64 rfl (fun _ _ hu => ((((((hm74).lo hk83).kp hk89 (fun b_ hb e' => by have e'' : b_ = g80 := e'; omega)).lo hk95).lo hw')).cell hx108 hu) (((((((hm74).lo hk83).kp hk89 (fun b_ hb e' => by have e'' : b_ = g80 := e'; omega)).lo hk95).lo hw')).esz _)) <| QR.g' rfl (fun w' hw' => r_lda (l := [.int .i64 ((gt x.Away j).Map), .int .i64 ((gt x.Away j).Reader)]) agg64 rfl (fun _ _ hu => (((hb91).lo hk95).lo hw').cell hu) rfl) <| QR.gcall rfl ent35 (fun w' hw' => (c_impl_compareAway w' (gt x.Away (j - 1)) (gt x.Away j)).mono fun _ _ h => ⟨h.1, hw'.trans h.2⟩) rfl <| QR.g' rfl (fun w' hw' => r_ge rfl rfl) <| QR.g' rfl (fun w' hw' => r_pick true rfl (v := .bool _) rfl) <| QR.q' (fun w' hw' => r_pick false rfl (v := .bool _) rfl) <| QR.nil ?_
                  intro w109 hk110
                  exact ⟨⟨rfl, rfl, rfl, rfl, (eDD (((jat h105).trans (jmt h102)).trans (jmt h99))), trivial⟩, hk110⟩
                · refine QR.s' rfl <| QR.s' rfl <| QR.s' rfl <| QR.s' rfl <| QR.s' rfl <| QR.s' rfl <| QR.s' rfl <| QR.s' rfl <| QR.s' rfl <| QR.g' rfl (fun w' hw' => r_pick false rfl (v := .bool false) rfl) <| QR.q' (fun w' hw' => r_pick false rfl (v := .bool _) rfl) <| QR.nil ?_
                  intro w111 hk112
                  exact ⟨⟨rfl, rfl, rfl, rfl, (eDF (((jaf h105).trans (jmt h102)).trans (jmt h99)).2), trivial⟩, hk112⟩
          rintro f113 w114 ⟨hat115, hk116⟩
          rw [← sets_of_at hat115]
          have hz117 := hk116.size
          have hB118 := hB97.lo hk116
          refine W.cond_d rfl (fun h119 => ?_) (fun h119 => ?_)
          · refine W.seq ?_
            refine W.regS (SR.q' (r_as (v := .bool false) rfl) <| SR.nil ?_)
            refine W.ret ?_
            refine ret1 rfl (v := .bool _) rfl ?_
            exact ⟨eR (eDF (z_c_impl_IsLibrary_120 x nx_Maps hbdx_Maps hlex_Maps nx_Away hbdx_Away hlex_Away hp0 k hi17 h19 j hi75 h77 hx79 hq98 h119)), hB118⟩
          · have hq121 : bsF cmpM ((gt x.Away j).Map) x.Maps := (Classical.not_not.1 (not_or.1 h119).1)
            have hq122 : 1 ≤ ((gt x.Away j).Reader) ∧ ((gt x.Away j).Reader) ≤ 999 := (Classical.not_not.1 (not_or.1 (not_or.1 h119).2).1)
            have hq123 : ¬ ((0 < (j : Int)) ∧ (0 ≤ (cmpA (gt x.Away (j - 1)) (gt x.Away j)))) := (not_or.1 (not_or.1 h119).2).2
            refine W.skip ?_
            refine W.regS (SR.q' (r_add rfl rfl (by omega)) <| SR.q' (r_mv (v := .int .i64 _) rfl) <| SR.nil ?_)
            refine ⟨j + 1, _, rfl, ⟨rfl, rfl, rfl, rfl, trivial⟩, ⟨hB118, ((((hm72).lo hk83).kp hk89 (fun e' => by have e'' : g1 = g80 := e'; omega)).lo hk95).lo hk116, ((((hm73).lo hk83).kp hk89 (fun b_ hb e' => by have e'' : b_ = g80 := e'; omega)).lo hk95).lo hk116, ((((hm74).lo hk83).kp hk89 (fun b_ hb e' => by have e'' : b_ = g80 := e'; omega)).lo hk95).lo hk116, ?_⟩, ?_⟩
            · exact (z_c_impl_IsLibrary_124 x nx_Maps hbdx_Maps hlex_Maps nx_Away hbdx_Away hlex_Away hp0 k hi17 h19 j hi75 h77 hx79 hq98 h119 hq121 hq122 hq123)
            · exact (z_c_impl_IsLibrary_125 x nx_Maps hbdx_Maps hlex_Maps nx_Away hbdx_Away hlex_Away hp0 k hi17 h19 j hi75 h77 hx79 hq98 h119 hq121 hq122 hq123)
        · refine W.exit (xin_here ?_)
          refine W.seq ?_
          refine W.regJD mo (by kernel_rfl) (fun f' w' => At f' [(2, .bool (decide (((nx_Maps : Int) ≤ 8) ∧ (((nx_Away : Int) ≤ 8) ∧ ((0 ≤ x.Bought ∧ x.Bought ≤ 9999) ∧ ((0 ≤ x.Dropped ∧ x.Dropped ≤ 9999) ∧ ((0 ≤ x.Mended ∧ x.Mended ≤ 9999) ∧ (x.Bought = (((sumC x.Maps) + (nx_Away : Int)) + x.Dropped)))))))))] ∧ Lo w69 w') ?_ ?_
          · refine QR.q' (fun w' hw' => r_fa fa35_0 rfl) <| QR.q' (fun w' hw' => r_ld (v := .slice Ax_Maps nx_Maps cx_Maps) sca32 rfl (((hm72).lo hw').cell rfl)) <| QR.q' (fun w' hw' => r_len und32 rfl) <| QR.q' (fun w' hw' => r_le rfl rfl) <| QR.q' (fun w' hw' => r_mv (v := .bool _) rfl) <| QR.splitD (fun h126 => ?_) (fun h126 => ?_)
            · refine QR.g' rfl (fun w' hw' => r_fa fa35_1 rfl) <| QR.g' rfl (fun w' hw' => r_ld (v := .slice Ax_Away nx_Away cx_Away) sca33 rfl (((hm72).lo hw').cell rfl)) <| QR.g' rfl (fun w' hw' => r_len und33 rfl) <| QR.g' rfl (fun w' hw' => r_le rfl rfl) <| QR.q' (fun w' hw' => r_pick true rfl (v := .bool _) rfl) <| QR.q' (fun w' hw' => r_mv (v := .bool _) rfl) <| QR.splitD (fun h127 => ?_) (fun h127 => ?_)
              · refine QR.g' rfl (fun w' hw' => r_fa fa35_2 rfl) <| QR.g' rfl (fun w' hw' => r_ld (v := .int .i64 x.Bought) sca3 rfl (((hm72).lo hw').cell rfl)) <| QR.gcall rfl ent36 (fun w' hw' => (c_impl_isSum w' x.Bought).mono fun _ _ h => ⟨h.1, hw'.trans h.2⟩) rfl <| QR.q' (fun w' hw' => r_pick true rfl (v := .bool _) rfl) <| QR.q' (fun w' hw' => r_mv (v := .bool _) rfl) <| QR.splitD (fun h128 => ?_) (fun h128 => ?_)
                · refine QR.g' rfl (fun w' hw' => r_fa fa35_3 rfl) <| QR.g' rfl (fun w' hw' => r_ld (v := .int .i64 x.Dropped) sca3 rfl (((hm72).lo hw').cell rfl)) <| QR.gcall rfl ent36 (fun w' hw' => (c_impl_isSum w' x.Dropped).mono fun _ _ h => ⟨h.1, hw'.trans h.2⟩) rfl <| QR.q' (fun w' hw' => r_pick true rfl (v := .bool _) rfl) <| QR.q' (fun w' hw' => r_mv (v := .bool _) rfl) <| QR.splitD (fun h129 => ?_) (fun h129 => ?_)
                  · refine QR.g' rfl (fun w' hw' => r_fa fa35_4 rfl) <| QR.g' rfl (fun w' hw' => r_ld (v := .int .i64 x.Mended) sca3 rfl (((hm72).lo hw').cell rfl)) <| QR.gcall rfl ent36 (fun w' hw' => (c_impl_isSum w' x.Mended).mono fun _ _ h => ⟨h.1, hw'.trans h.2⟩) rfl <| QR.q' (fun w' hw' => r_pick true rfl (v := .bool _) rfl) <| QR.q' (fun w' hw' => r_mv (v := .bool _) rfl) <| QR.splitD (fun h130 => ?_) (fun h130 => ?_)
                    · refine QR.g' rfl (fun w' hw' => r_fa fa35_2 rfl) <| QR.g' rfl (fun w' hw' => r_ld (v := .int .i64 x.Bought) sca3 rfl (((hm72).lo hw').cell rfl)) <| QR.g' rfl (fun w' hw' => r_lda (l := [.slice Ax_Maps nx_Maps cx_Maps, .slice Ax_Away nx_Away cx_Away, .int .i64 x.Bought, .int .i64 x.Dropped, .int .i64 x.Mended]) agg35 rfl (fun _ _ hu => ((hm72).lo hw').cell hu) rfl) <| QR.gcall rfl ent37 (fun w' hw' => (c__impl_Library__copies w' x ((((hm73).lo hw'))) ((((hm74).lo hw'))) (by first | assumption | exact MTo.end_ (And.right ‹_ ∧ MTo _ _›) (by omega)) (by omega)).mono fun _ _ h => ⟨h.1, hw'.trans h.2⟩) rfl <| ?_
                      have hq131 : 0 ≤ sumC x.Maps ∧ sumC x.Maps ≤ 792 := sumC_rng (by first | assumption | exact MTo.end_ (And.right ‹_ ∧ MTo _ _›) (by omega)) (by omega)
                      refine QR.g' rfl (fun w' hw' => r_fa fa35_1 rfl) <| QR.g' rfl (fun w' hw' => r_ld (v := .slice Ax_Away nx_Away cx_Away) sca33 rfl (((hm72).lo hw').cell rfl)) <| QR.g' rfl (fun w' hw' => r_len und33 rfl) <| QR.g' rfl (fun w' hw' => r_add rfl rfl (by omega)) <| QR.g' rfl (fun w' hw' => r_fa fa35_3 rfl) <| QR.g' rfl (fun w' hw' => r_ld (v := .int .i64 x.Dropped) sca3 rfl (((hm72).lo hw').cell rfl)) <| QR.g' rfl (fun w' hw' => r_add rfl rfl (by omega)) <| QR.g' rfl (fun w' hw' => r_eq rfl rfl) <| QR.q' (fun w' hw' => r_pick true rfl (v := .bool _) rfl) <| QR.q' (fun w' hw' => r_as (v := .bool _) rfl) <| QR.nil ?_
                      intro w132 hk133
                      exact ⟨⟨(eDD (((((jat h130).trans (jat h129)).trans (jat h128)).trans (jat h127)).trans (jat h126))), trivial⟩, hk133⟩
                    · refine QR.s' rfl <| QR.s' rfl <| QR.s' rfl <| QR.s' rfl <| QR.s' rfl <| QR.s' rfl <| QR.s' rfl <| QR.s' rfl <| QR.s' rfl <| QR.s' rfl <| QR.s' rfl <| QR.s' rfl <| QR.q' (fun w' hw' => r_pick false rfl (v := .bool false) rfl) <| QR.q' (fun w' hw' => r_as (v := .bool _) rfl) <| QR.nil ?_
                      intro w134 hk135
                      exact ⟨⟨(eDF (((((jaf h130).trans (jat h129)).trans (jat h128)).trans (jat h127)).trans (jat h126)).2), trivial⟩, hk135⟩
                  · refine QR.s' rfl <| QR.s' rfl <| QR.s' rfl <| QR.q' (fun w' hw' => r_pick false rfl (v := .bool false) rfl) <| QR.q' (fun w' hw' => r_mv (v := .bool _) rfl) <| QR.s' rfl <| QR.s' rfl <| QR.s' rfl <| QR.s' rfl <| QR.s' rfl <| QR.s' rfl <| QR.s' rfl <| QR.s' rfl <| QR.s' rfl <| QR.s' rfl <| QR.s' rfl <| QR.s' rfl <| QR.q' (fun w' hw' => r_pick false rfl (v := .bool false) rfl) <| QR.q' (fun w' hw' => r_as (v := .bool _) rfl) <| QR.nil ?_
                    intro w136 hk137
                    exact ⟨⟨(eDF ((((jaf h129).trans (jat h128)).trans (jat h127)).trans (jat h126)).2), trivial⟩, hk137⟩
                · refine QR.s' rfl <| QR.s' rfl <| QR.s' rfl <| QR.q' (fun w' hw' => r_pick false rfl (v := .bool false) rfl) <| QR.q' (fun w' hw' => r_mv (v := .bool _) rfl) <| QR.s' rfl <| QR.s' rfl <| QR.s' rfl <| QR.q' (fun w' hw' => r_pick false rfl (v := .bool false) rfl) <| QR.q' (fun w' hw' => r_mv (v := .bool _) rfl) <| QR.s' rfl <| QR.s' rfl <| QR.s' rfl <| QR.s' rfl <| QR.s' rfl <| QR.s' rfl <| QR.s' rfl <| QR.s' rfl <| QR.s' rfl <| QR.s' rfl <| QR.s' rfl <| QR.s' rfl <| QR.q' (fun w' hw' => r_pick false rfl (v := .bool false) rfl) <| QR.q' (fun w' hw' => r_as (v := .bool _) rfl) <| QR.nil ?_
                  intro w138 hk139
                  exact ⟨⟨(eDF (((jaf h128).trans (jat h127)).trans (jat h126)).2), trivial⟩, hk139⟩
              · refine QR.s' rfl <| QR.s' rfl <| QR.s' rfl <| QR.q' (fun w' hw' => r_pick false rfl (v := .bool false) rfl) <| QR.q' (fun w' hw' => r_mv (v := .bool _) rfl) <| QR.s' rfl <| QR.s' rfl <| QR.s' rfl <| QR.q' (fun w' hw' => r_pick false rfl (v := .bool false) rfl) <| QR.q' (fun w' hw' => r_mv (v := .bool _) rfl) <| QR.s' rfl <| QR.s' rfl <| QR.s' rfl <| QR.q' (fun w' hw' => r_pick false rfl (v := .bool false) rfl) <| QR.q' (fun w' hw' => r_mv (v := .bool _) rfl) <| QR.s' rfl <| QR.s' rfl <| QR.s' rfl <| QR.s' rfl <| QR.s' rfl <| QR.s' rfl <| QR.s' rfl <| QR.s' rfl <| QR.s' rfl <| QR.s' rfl <| QR.s' rfl <| QR.s' rfl <| QR.q' (fun w' hw' => r_pick false rfl (v := .bool false) rfl) <| QR.q' (fun w' hw' => r_as (v := .bool _) rfl) <| QR.nil ?_
                intro w140 hk141
                exact ⟨⟨(eDF ((jaf h127).trans (jat h126)).2), trivial⟩, hk141⟩
            · refine QR.s' rfl <| QR.s' rfl <| QR.s' rfl <| QR.s' rfl <| QR.q' (fun w' hw' => r_pick false rfl (v := .bool false) rfl) <| QR.q' (fun w' hw' => r_mv (v := .bool _) rfl) <| QR.s' rfl <| QR.s' rfl <| QR.s' rfl <| QR.q' (fun w' hw' => r_pick false rfl (v := .bool false) rfl) <| QR.q' (fun w' hw' => r_mv (v := .bool _) rfl) <| QR.s' rfl <| QR.s' rfl <| QR.s' rfl <| QR.q' (fun w' hw' => r_pick false rfl (v := .bool false) rfl) <| QR.q' (fun w' hw' => r_mv (v := .bool _) rfl) <| QR.s' rfl <| QR.s' rfl <| QR.s' rfl <| QR.q' (fun w' hw' => r_pick false rfl (v := .bool false) rfl) <| QR.q' (fun w' hw' => r_mv (v := .bool _) rfl) <| QR.s' rfl <| QR.s' rfl <| QR.s' rfl <| QR.s' rfl <| QR.s' rfl <| QR.s' rfl <| QR.s' rfl <| QR.s' rfl <| QR.s' rfl <| QR.s' rfl <| QR.s' rfl <| QR.s' rfl <| QR.q' (fun w' hw' => r_pick false rfl (v := .bool false) rfl) <| QR.q' (fun w' hw' => r_as (v := .bool _) rfl) <| QR.nil ?_
              intro w142 hk143
              exact ⟨⟨(eDF (jaf h126).2), trivial⟩, hk143⟩
          rintro f144 w145 ⟨hat146, hk147⟩
          rw [← sets_of_at hat146]
          have hz148 := hk147.size
          have hB149 := hB70.lo hk147
          refine W.ret ?_
          refine ret1 rfl (v := .bool _) rfl ?_
          exact ⟨eR (eDD (z_c_impl_IsLibrary_150 x nx_Maps hbdx_Maps hlex_Maps nx_Away hbdx_Away hlex_Away hp0 k hi17 h19 j hi75 h77)), hB149⟩
end Go.Proofs.YtocpdkhahmbaiaaDoor
