/- Walks, printed by a program of this claim's author. -/
import Derived.Test.YtocpdkhahmbaiaaChecked
import Derived.Test.YtocpdkhahmbaiaaUb
import Derived.Test.YtocpdkhahmbaiaaFs
import Derived.Test.YtocpdkhahmbaiaaFq
import Derived.Test.YtocpdkhahmbaiaaYl
import Derived.Test.YtocpdkhahmbaiaaG34n
namespace Go.Proofs.Ytocpdkhahmbaiaa
open Go Go.RowKit Fw
set_option maxRecDepth 10000
set_option linter.unusedVariables false
theorem agg25 : TAgg Try.prog 25 5 := ⟨fun _ => by kernel_rfl, fun _ => by kernel_rfl⟩
theorem bld25_0_1_2_3_4 (a0 : Option Addr) (b0 c0 : Nat) (a1 : Option Addr) (b1 c1 : Nat) (a2 : Int) (a3 : Int) (a4 : Int) : Try.prog.built 25 [(0, .slice a0 b0 c0), (1, .slice a1 b1 c1), (2, .int .i64 a2), (3, .int .i64 a3), (4, .int .i64 a4)] = some (List.toArray [.slice a0 b0 c0, .slice a1 b1 c1, .int .i64 a2, .int .i64 a3, .int .i64 a4]) := by kernel_rfl
theorem ent24 : Ent Try.prog 24 := ent_of Try.func24 (by decide +kernel) rfl
theorem ent25 : Ent Try.prog 25 := ent_of Try.func25 (by decide +kernel) rfl
theorem ent26 : Ent Try.prog 26 := ent_of Try.func26 (by decide +kernel) rfl
theorem ent27 : Ent Try.prog 27 := ent_of Try.func27 (by decide +kernel) rfl
theorem ent28 : Ent Try.prog 28 := ent_of Try.func28 (by decide +kernel) rfl
theorem tel22 : TEl Try.prog 22 41 (.agg (List.toArray [.int .i64 0, .int .i64 0, .int .i64 0])) 3 24 := ⟨by kernel_rfl, by kernel_rfl, rfl, by decide⟩
theorem tel23 : TEl Try.prog 23 59 (.agg (List.toArray [.int .i64 0, .int .i64 0])) 2 16 := ⟨by kernel_rfl, by kernel_rfl, rfl, by decide⟩
theorem tz25 : TZ Try.prog 25 (.agg (List.toArray [.slice none 0 0, .slice none 0 0, .int .i64 0, .int .i64 0, .int .i64 0])) := fun _ => by kernel_rfl
theorem tz41 : TZ Try.prog 41 (.agg (List.toArray [.int .i64 0, .int .i64 0, .int .i64 0])) := fun _ => by kernel_rfl
theorem tz59 : TZ Try.prog 59 (.agg (List.toArray [.int .i64 0, .int .i64 0])) := fun _ => by kernel_rfl

theorem z_c_spec_l32Map_9 (x : Library) (nx_Maps : Nat) (hbdx_Maps : (nx_Maps : Int) ≤ 9223372036854775807) (hlex_Maps : nx_Maps = x.Maps.length) (nx_Away : Nat) (hbdx_Away : (nx_Away : Int) ≤ 9223372036854775807) (hlex_Away : nx_Away = x.Away.length) (id : Int) : 0 ≤ nx_Maps ∧ NoneTo (hasId id) x.Maps 0 := by
  exact ⟨Nat.zero_le _, NoneTo.zero⟩
theorem z_c_spec_l32Map_23 (x : Library) (nx_Maps : Nat) (hbdx_Maps : (nx_Maps : Int) ≤ 9223372036854775807) (hlex_Maps : nx_Maps = x.Maps.length) (nx_Away : Nat) (hbdx_Away : (nx_Away : Int) ≤ 9223372036854775807) (hlex_Away : nx_Away = x.Away.length) (id : Int) (k : Nat) (hi17 : k ≤ nx_Maps ∧ NoneTo (hasId id) x.Maps k) (h19 : (k : Int) < (nx_Maps : Int)) (hx21 : x.Maps[k]? = some (gt x.Maps k)) (h22 : ((gt x.Maps k).Id) = id) : (k : Int) = idxF (hasId id) x.Maps := by
  first | exact idx_at (And.right ‹_ ∧ NoneTo _ _ _›) ‹x.Maps[k]? = some _› (by simpa [hasId] using ‹_›) | exact idx_no (And.right ‹_ ∧ NoneTo _ _ _›) hlex_Maps ‹_›
theorem z_c_spec_l32Map_24 (x : Library) (nx_Maps : Nat) (hbdx_Maps : (nx_Maps : Int) ≤ 9223372036854775807) (hlex_Maps : nx_Maps = x.Maps.length) (nx_Away : Nat) (hbdx_Away : (nx_Away : Int) ≤ 9223372036854775807) (hlex_Away : nx_Away = x.Away.length) (id : Int) (k : Nat) (hi17 : k ≤ nx_Maps ∧ NoneTo (hasId id) x.Maps k) (h19 : (k : Int) < (nx_Maps : Int)) (hx21 : x.Maps[k]? = some (gt x.Maps k)) (h22 : ¬ (((gt x.Maps k).Id) = id)) : k + 1 ≤ nx_Maps ∧ NoneTo (hasId id) x.Maps (k + 1) := by
  exact ⟨by omega, NoneTo.next (And.right ‹_ ∧ NoneTo _ _ _›) ‹x.Maps[k]? = some _› (by simpa [hasId] using ‹_›)⟩
theorem z_c_spec_l32Map_25 (x : Library) (nx_Maps : Nat) (hbdx_Maps : (nx_Maps : Int) ≤ 9223372036854775807) (hlex_Maps : nx_Maps = x.Maps.length) (nx_Away : Nat) (hbdx_Away : (nx_Away : Int) ≤ 9223372036854775807) (hlex_Away : nx_Away = x.Away.length) (id : Int) (k : Nat) (hi17 : k ≤ nx_Maps ∧ NoneTo (hasId id) x.Maps k) (h19 : (k : Int) < (nx_Maps : Int)) (hx21 : x.Maps[k]? = some (gt x.Maps k)) (h22 : ¬ (((gt x.Maps k).Id) = id)) : nx_Maps - (k + 1) < nx_Maps - k := by
  omega
theorem z_c_spec_l32Map_26 (x : Library) (nx_Maps : Nat) (hbdx_Maps : (nx_Maps : Int) ≤ 9223372036854775807) (hlex_Maps : nx_Maps = x.Maps.length) (nx_Away : Nat) (hbdx_Away : (nx_Away : Int) ≤ 9223372036854775807) (hlex_Away : nx_Away = x.Away.length) (id : Int) (k : Nat) (hi17 : k ≤ nx_Maps ∧ NoneTo (hasId id) x.Maps k) (h19 : ¬ ((k : Int) < (nx_Maps : Int))) : (-1) = idxF (hasId id) x.Maps := by
  first | exact idx_at (And.right ‹_ ∧ NoneTo _ _ _›) ‹x.Maps[k]? = some _› (by simpa [hasId] using ‹_›) | exact idx_no (And.right ‹_ ∧ NoneTo _ _ _›) hlex_Maps ‹_›
theorem c_spec_l32Map (w : World) (x : Library) {Ax_Maps : Option Addr} {nx_Maps cx_Maps Bx_Maps : Nat} (hx_Maps : SlR w Bx_Maps encLMap 3 Ax_Maps nx_Maps cx_Maps x.Maps) {Ax_Away : Option Addr} {nx_Away cx_Away Bx_Away : Nat} (hx_Away : SlR w Bx_Away encAway 2 Ax_Away nx_Away cx_Away x.Away) (id : Int) : Calls Try.prog 28 #[.agg (List.toArray [.slice Ax_Maps nx_Maps cx_Maps, .slice Ax_Away nx_Away cx_Away, .int .i64 x.Bought, .int .i64 x.Dropped, .int .i64 x.Mended]), .int .i64 id] w fun e w' => e = .returned (.int .i64 (idxF (hasId id) x.Maps)) ∧ Lo w w' := by
  refine calls_W 22 Try.func28 rfl rfl rfl ?_
  have hbdx_Maps := hx_Maps.bound
  have hlex_Maps := hx_Maps.len
  have hBbx_Maps := hx_Maps.bd
  have hbdx_Away := hx_Away.bound
  have hlex_Away := hx_Away.len
  have hBbx_Away := hx_Away.bd
  refine W.seq ?_
  refine W.regS (SR.box (v := .agg (List.toArray _)) (l := [.slice Ax_Maps nx_Maps cx_Maps, .slice Ax_Away nx_Away cx_Away, .int .i64 x.Bought, .int .i64 x.Dropped, .int .i64 x.Mended]) rfl rfl ?_)
  intro g1 w2 hg3 hk4 hs5 hb6
  have hz7 := hk4.size
  have hB8 := (Lo.refl w).lo hk4
  refine SR.q' (r_as (v := .int .i64 0) rfl) <| SR.nil ?_
  refine W.seq ?_
  refine W.seq ?_
  refine W.regS (SR.q' (r_as (v := .int .i64 0) rfl) <| SR.nil ?_)
  refine W.block ?_
  refine W.loop (σ := Nat) (fun g => [(1, .int .i64 id), (2, .pointer (some ((⟨g1, 0, none⟩ : Addr)))), (5, .int .i64 (g : Int))]) (fun g w' => (Lo w w') ∧ (Blk w' g1 25 [.slice Ax_Maps nx_Maps cx_Maps, .slice Ax_Away nx_Away cx_Away, .int .i64 x.Bought, .int .i64 x.Dropped, .int .i64 x.Mended]) ∧ (SlR w' Bx_Maps encLMap 3 Ax_Maps nx_Maps cx_Maps x.Maps) ∧ (SlR w' Bx_Away encAway 2 Ax_Away nx_Away cx_Away x.Away) ∧ (g ≤ nx_Maps ∧ NoneTo (hasId id) x.Maps g)) (fun g => nx_Maps - g) 0 ?_ ?_ ?_
  · exact ⟨rfl, rfl, rfl, trivial⟩
  · exact ⟨hB8, hb6, (hx_Maps).lo hk4, (hx_Away).lo hk4, (z_c_spec_l32Map_9 x nx_Maps hbdx_Maps hlex_Maps nx_Away hbdx_Away hlex_Away id)⟩
  · rintro k f10 w11 hP13
    obtain ⟨hB12, hm14, hm15, hm16, hi17⟩ : (Lo w w11) ∧ (Blk w11 g1 25 [.slice Ax_Maps nx_Maps cx_Maps, .slice Ax_Away nx_Away cx_Away, .int .i64 x.Bought, .int .i64 x.Dropped, .int .i64 x.Mended]) ∧ (SlR w11 Bx_Maps encLMap 3 Ax_Maps nx_Maps cx_Maps x.Maps) ∧ (SlR w11 Bx_Away encAway 2 Ax_Away nx_Away cx_Away x.Away) ∧ (k ≤ nx_Maps ∧ NoneTo (hasId id) x.Maps k) := hP13
    refine (?_ : W _ _ _ _ _ (act _ (sets f10 [(1, .int .i64 id), (2, .pointer (some ((⟨g1, 0, none⟩ : Addr)))), (5, .int .i64 (k : Int))])) _)
    have hzw11 := hB12.size
    have hl18 := hm14.lt
    refine W.seq ?_
    refine W.seq ?_
    refine W.regS (SR.q' (r_mv (v := .int .i64 _) rfl) <| SR.q' (r_fa fa25_0 rfl) <| SR.q' (r_ld (v := .slice Ax_Maps nx_Maps cx_Maps) sca22 rfl ((hm14).cell rfl)) <| SR.q' (r_len und22 rfl) <| SR.q' (r_lt rfl rfl) <| SR.nil ?_)
    refine W.cond_d rfl (fun h19 => ?_) (fun h19 => ?_)
    · refine W.skip ?_
      refine W.seq ?_
      refine W.block ?_
      refine W.seq ?_
      refine W.regS (SR.q' (r_fa fa25_0 rfl) <| SR.q' (r_ld (v := .slice Ax_Maps nx_Maps cx_Maps) sca22 rfl ((hm14).cell rfl)) <| SR.q' (r_mv (v := .int .i64 _) rfl) <| ?_)
      have hx21 := (hm15).elem (i := k) (by omega)
      refine SR.q' (r_ixR tsl22 (hm15) rfl rfl (by omega)) <| SR.q' (r_fa fa41_0 rfl) <| SR.q' (r_ld (v := .int .i64 ((gt x.Maps k).Id)) sca3 rfl ((hm15).cell hx21 rfl)) <| SR.q' (r_mv (v := .int .i64 _) rfl) <| SR.q' (r_eq rfl rfl) <| SR.nil ?_
      refine W.cond_d rfl (fun h22 => ?_) (fun h22 => ?_)
      · refine W.seq ?_
        refine W.regS (SR.q' (r_mv (v := .int .i64 _) rfl) <| SR.q' (r_as (v := .int .i64 _) rfl) <| SR.nil ?_)
        refine W.ret ?_
        refine ret1 rfl (v := .int .i64 _) rfl ?_
        exact ⟨eR (eI (z_c_spec_l32Map_23 x nx_Maps hbdx_Maps hlex_Maps nx_Away hbdx_Away hlex_Away id k hi17 h19 hx21 h22)), hB12⟩
      · refine W.skip ?_
        refine W.regS (SR.q' (r_mv (v := .int .i64 _) rfl) <| SR.q' (r_add rfl rfl (by omega)) <| SR.q' (r_as (v := .int .i64 _) rfl) <| SR.nil ?_)
        refine ⟨k + 1, _, rfl, ⟨rfl, rfl, rfl, trivial⟩, ⟨hB12, hm14, hm15, hm16, ?_⟩, ?_⟩
        · exact (z_c_spec_l32Map_24 x nx_Maps hbdx_Maps hlex_Maps nx_Away hbdx_Away hlex_Away id k hi17 h19 hx21 h22)
        · exact (z_c_spec_l32Map_25 x nx_Maps hbdx_Maps hlex_Maps nx_Away hbdx_Away hlex_Away id k hi17 h19 hx21 h22)
    · refine W.exit (xin_here ?_)
      refine W.seq ?_
      refine W.regS (SR.q' (r_as (v := .int .i64 (-1)) rfl) <| SR.nil ?_)
      refine W.ret ?_
      refine ret1 rfl (v := .int .i64 _) rfl ?_
      exact ⟨eR (eI (z_c_spec_l32Map_26 x nx_Maps hbdx_Maps hlex_Maps nx_Away hbdx_Away hlex_Away id k hi17 h19)), hB12⟩

theorem z_c_spec_l32Maps_9 (x : Library) (nx_Maps : Nat) (hbdx_Maps : (nx_Maps : Int) ≤ 9223372036854775807) (hlex_Maps : nx_Maps = x.Maps.length) (nx_Away : Nat) (hbdx_Away : (nx_Away : Int) ≤ 9223372036854775807) (hlex_Away : nx_Away = x.Away.length) : 0 ≤ nx_Maps ∧ MTo x.Maps 0 := by
  exact ⟨Nat.zero_le _, MTo.zero⟩
theorem z_c_spec_l32Maps_60 (x : Library) (nx_Maps : Nat) (hbdx_Maps : (nx_Maps : Int) ≤ 9223372036854775807) (hlex_Maps : nx_Maps = x.Maps.length) (nx_Away : Nat) (hbdx_Away : (nx_Away : Int) ≤ 9223372036854775807) (hlex_Away : nx_Away = x.Away.length) (k : Nat) (hi17 : k ≤ nx_Maps ∧ MTo x.Maps k) (h19 : (k : Int) < (nx_Maps : Int)) (hx21 : x.Maps[k]? = some (gt x.Maps k)) (h59 : (¬ (1 ≤ ((gt x.Maps k).Id) ∧ ((gt x.Maps k).Id) ≤ 99)) ∨ ((¬ (0 ≤ ((gt x.Maps k).Copies) ∧ ((gt x.Maps k).Copies) ≤ 99)) ∨ ((¬ (0 ≤ ((gt x.Maps k).Torn) ∧ ((gt x.Maps k).Torn) ≤ ((gt x.Maps k).Copies))) ∨ ((0 < (k : Int)) ∧ (((gt x.Maps k).Id) ≤ ((gt x.Maps (k - 1)).Id)))))) : ¬ (MapsOK x.Maps ∧ x.Maps.length ≤ 8) := by
  subst hlex_Maps
  first | exact (fun hh => hh.1 k (by omega) ‹_›) | (have h1 := MTo.end_ (And.right ‹_ ∧ MTo _ _›) (by omega); exact ⟨fun h => ⟨h1, by omega⟩, fun h => by omega⟩)
theorem z_c_spec_l32Maps_65 (x : Library) (nx_Maps : Nat) (hbdx_Maps : (nx_Maps : Int) ≤ 9223372036854775807) (hlex_Maps : nx_Maps = x.Maps.length) (nx_Away : Nat) (hbdx_Away : (nx_Away : Int) ≤ 9223372036854775807) (hlex_Away : nx_Away = x.Away.length) (k : Nat) (hi17 : k ≤ nx_Maps ∧ MTo x.Maps k) (h19 : (k : Int) < (nx_Maps : Int)) (hx21 : x.Maps[k]? = some (gt x.Maps k)) (h59 : ¬ ((¬ (1 ≤ ((gt x.Maps k).Id) ∧ ((gt x.Maps k).Id) ≤ 99)) ∨ ((¬ (0 ≤ ((gt x.Maps k).Copies) ∧ ((gt x.Maps k).Copies) ≤ 99)) ∨ ((¬ (0 ≤ ((gt x.Maps k).Torn) ∧ ((gt x.Maps k).Torn) ≤ ((gt x.Maps k).Copies))) ∨ ((0 < (k : Int)) ∧ (((gt x.Maps k).Id) ≤ ((gt x.Maps (k - 1)).Id))))))) (hq61 : 1 ≤ ((gt x.Maps k).Id) ∧ ((gt x.Maps k).Id) ≤ 99) (hq62 : 0 ≤ ((gt x.Maps k).Copies) ∧ ((gt x.Maps k).Copies) ≤ 99) (hq63 : 0 ≤ ((gt x.Maps k).Torn) ∧ ((gt x.Maps k).Torn) ≤ ((gt x.Maps k).Copies)) (hq64 : ¬ ((0 < (k : Int)) ∧ (((gt x.Maps k).Id) ≤ ((gt x.Maps (k - 1)).Id)))) : k + 1 ≤ nx_Maps ∧ MTo x.Maps (k + 1) := by
  exact ⟨by omega, MTo.next (And.right ‹_ ∧ MTo _ _›) ‹_›⟩
theorem z_c_spec_l32Maps_66 (x : Library) (nx_Maps : Nat) (hbdx_Maps : (nx_Maps : Int) ≤ 9223372036854775807) (hlex_Maps : nx_Maps = x.Maps.length) (nx_Away : Nat) (hbdx_Away : (nx_Away : Int) ≤ 9223372036854775807) (hlex_Away : nx_Away = x.Away.length) (k : Nat) (hi17 : k ≤ nx_Maps ∧ MTo x.Maps k) (h19 : (k : Int) < (nx_Maps : Int)) (hx21 : x.Maps[k]? = some (gt x.Maps k)) (h59 : ¬ ((¬ (1 ≤ ((gt x.Maps k).Id) ∧ ((gt x.Maps k).Id) ≤ 99)) ∨ ((¬ (0 ≤ ((gt x.Maps k).Copies) ∧ ((gt x.Maps k).Copies) ≤ 99)) ∨ ((¬ (0 ≤ ((gt x.Maps k).Torn) ∧ ((gt x.Maps k).Torn) ≤ ((gt x.Maps k).Copies))) ∨ ((0 < (k : Int)) ∧ (((gt x.Maps k).Id) ≤ ((gt x.Maps (k - 1)).Id))))))) (hq61 : 1 ≤ ((gt x.Maps k).Id) ∧ ((gt x.Maps k).Id) ≤ 99) (hq62 : 0 ≤ ((gt x.Maps k).Copies) ∧ ((gt x.Maps k).Copies) ≤ 99) (hq63 : 0 ≤ ((gt x.Maps k).Torn) ∧ ((gt x.Maps k).Torn) ≤ ((gt x.Maps k).Copies)) (hq64 : ¬ ((0 < (k : Int)) ∧ (((gt x.Maps k).Id) ≤ ((gt x.Maps (k - 1)).Id)))) : nx_Maps - (k + 1) < nx_Maps - k := by
  omega
theorem z_c_spec_l32Maps_67 (x : Library) (nx_Maps : Nat) (hbdx_Maps : (nx_Maps : Int) ≤ 9223372036854775807) (hlex_Maps : nx_Maps = x.Maps.length) (nx_Away : Nat) (hbdx_Away : (nx_Away : Int) ≤ 9223372036854775807) (hlex_Away : nx_Away = x.Away.length) (k : Nat) (hi17 : k ≤ nx_Maps ∧ MTo x.Maps k) (h19 : ¬ ((k : Int) < (nx_Maps : Int))) : ((nx_Maps : Int) ≤ 8) ↔ (MapsOK x.Maps ∧ x.Maps.length ≤ 8) := by
  subst hlex_Maps
  first | exact (fun hh => hh.1 k (by omega) ‹_›) | (have h1 := MTo.end_ (And.right ‹_ ∧ MTo _ _›) (by omega); exact ⟨fun h => ⟨h1, by omega⟩, fun h => by omega⟩)
theorem c_spec_l32Maps (w : World) (x : Library) {Ax_Maps : Option Addr} {nx_Maps cx_Maps Bx_Maps : Nat} (hx_Maps : SlR w Bx_Maps encLMap 3 Ax_Maps nx_Maps cx_Maps x.Maps) {Ax_Away : Option Addr} {nx_Away cx_Away Bx_Away : Nat} (hx_Away : SlR w Bx_Away encAway 2 Ax_Away nx_Away cx_Away x.Away) : Calls Try.prog 24 #[.agg (List.toArray [.slice Ax_Maps nx_Maps cx_Maps, .slice Ax_Away nx_Away cx_Away, .int .i64 x.Bought, .int .i64 x.Dropped, .int .i64 x.Mended])] w fun e w' => e = .returned (.bool (decide (MapsOK x.Maps ∧ x.Maps.length ≤ 8))) ∧ Lo w w' := by
  refine calls_W 55 Try.func24 rfl rfl rfl ?_
  have hbdx_Maps := hx_Maps.bound
  have hlex_Maps := hx_Maps.len
  have hBbx_Maps := hx_Maps.bd
  have hbdx_Away := hx_Away.bound
  have hlex_Away := hx_Away.len
  have hBbx_Away := hx_Away.bd
  refine W.seq ?_
  refine W.regS (SR.box (v := .agg (List.toArray _)) (l := [.slice Ax_Maps nx_Maps cx_Maps, .slice Ax_Away nx_Away cx_Away, .int .i64 x.Bought, .int .i64 x.Dropped, .int .i64 x.Mended]) rfl rfl ?_)
  intro g1 w2 hg3 hk4 hs5 hb6
  have hz7 := hk4.size
  have hB8 := (Lo.refl w).lo hk4
  refine SR.q' (r_as (v := .bool false) rfl) <| SR.nil ?_
  refine W.seq ?_
  refine W.seq ?_
  refine W.regS (SR.q' (r_as (v := .int .i64 0) rfl) <| SR.nil ?_)
  refine W.block ?_
  refine W.loop (σ := Nat) (fun g => [(1, .pointer (some ((⟨g1, 0, none⟩ : Addr)))), (3, .int .i64 (g : Int))]) (fun g w' => (Lo w w') ∧ (Blk w' g1 25 [.slice Ax_Maps nx_Maps cx_Maps, .slice Ax_Away nx_Away cx_Away, .int .i64 x.Bought, .int .i64 x.Dropped, .int .i64 x.Mended]) ∧ (SlR w' Bx_Maps encLMap 3 Ax_Maps nx_Maps cx_Maps x.Maps) ∧ (SlR w' Bx_Away encAway 2 Ax_Away nx_Away cx_Away x.Away) ∧ (g ≤ nx_Maps ∧ MTo x.Maps g)) (fun g => nx_Maps - g) 0 ?_ ?_ ?_
  · exact ⟨rfl, rfl, trivial⟩
  · exact ⟨hB8, hb6, (hx_Maps).lo hk4, (hx_Away).lo hk4, (z_c_spec_l32Maps_9 x nx_Maps hbdx_Maps hlex_Maps nx_Away hbdx_Away hlex_Away)⟩
  · rintro k f10 w11 hP13
    obtain ⟨hB12, hm14, hm15, hm16, hi17⟩ : (Lo w w11) ∧ (Blk w11 g1 25 [.slice Ax_Maps nx_Maps cx_Maps, .slice Ax_Away nx_Away cx_Away, .int .i64 x.Bought, .int .i64 x.Dropped, .int .i64 x.Mended]) ∧ (SlR w11 Bx_Maps encLMap 3 Ax_Maps nx_Maps cx_Maps x.Maps) ∧ (SlR w11 Bx_Away encAway 2 Ax_Away nx_Away cx_Away x.Away) ∧ (k ≤ nx_Maps ∧ MTo x.Maps k) := hP13
    refine (?_ : W _ _ _ _ _ (act _ (sets f10 [(1, .pointer (some ((⟨g1, 0, none⟩ : Addr)))), (3, .int .i64 (k : Int))])) _)
    have hzw11 := hB12.size
    have hl18 := hm14.lt
    refine W.seq ?_
    refine W.seq ?_
    refine W.regS (SR.q' (r_mv (v := .int .i64 _) rfl) <| SR.q' (r_fa fa25_0 rfl) <| SR.q' (r_ld (v := .slice Ax_Maps nx_Maps cx_Maps) sca22 rfl ((hm14).cell rfl)) <| SR.q' (r_len und22 rfl) <| SR.q' (r_lt rfl rfl) <| SR.nil ?_)
    refine W.cond_d rfl (fun h19 => ?_) (fun h19 => ?_)
    · refine W.skip ?_
      refine W.seq ?_
      refine W.block ?_
      refine W.seq ?_
      refine W.regS (SR.q' (r_fa fa25_0 rfl) <| SR.q' (r_ld (v := .slice Ax_Maps nx_Maps cx_Maps) sca22 rfl ((hm14).cell rfl)) <| SR.q' (r_mv (v := .int .i64 _) rfl) <| ?_)
      have hx21 := (hm15).elem (i := k) (by omega)
      refine SR.q' (r_ixR tsl22 (hm15) rfl rfl (by omega)) <| SR.q' (r_lda (l := encLMap (gt x.Maps k)) agg41 rfl (fun _ _ hu => (hm15).cell hx21 hu) ((hm15).esz _)) <| SR.alloc (l := [.int .i64 0, .int .i64 0, .int .i64 0]) tz41 rfl ?_
      intro g22 w23 hg24 hk25 hs26 hb27
      have hz28 := hk25.size
      have hB29 := hB12.lo hk25
      refine SR.store (o := 0) (vs := [.int .i64 ((gt x.Maps k).Id), .int .i64 ((gt x.Maps k).Copies), .int .i64 ((gt x.Maps k).Torn)]) agg41.2 rfl rfl rfl rfl (hb27) (Nat.le_of_ble_eq_true rfl) rfl ?_
      intro w30 hk31 hs32 hb33
      have hz34 := hk31.size
      have hB35 := hB29.new hk31 (by omega)
      refine SR.nil ?_
      refine W.seq ?_
      refine W.regJD mo (by kernel_rfl) (fun f' w' => At f' [(1, .pointer (some ((⟨g1, 0, none⟩ : Addr)))), (3, .int .i64 (k : Int)), (50, .bool (decide ((¬ (1 ≤ ((gt x.Maps k).Id) ∧ ((gt x.Maps k).Id) ≤ 99)) ∨ ((¬ (0 ≤ ((gt x.Maps k).Copies) ∧ ((gt x.Maps k).Copies) ≤ 99)) ∨ ((¬ (0 ≤ ((gt x.Maps k).Torn) ∧ ((gt x.Maps k).Torn) ≤ ((gt x.Maps k).Copies))) ∨ ((0 < (k : Int)) ∧ (((gt x.Maps k).Id) ≤ ((gt x.Maps (k - 1)).Id))))))))] ∧ Lo w30 w') ?_ ?_
      · refine QR.q' (fun w' hw' => r_fa fa41_0 rfl) <| QR.q' (fun w' hw' => r_ld (v := .int .i64 ((gt x.Maps k).Id)) sca3 rfl (((hb33).lo hw').cell rfl)) <| QR.call ent29 (fun w' hw' => (c_spec_l1In w' ((gt x.Maps k).Id) 1 99).mono fun _ _ h => ⟨h.1, hw'.trans h.2⟩) rfl <| QR.q' (fun w' hw' => r_not rfl) <| QR.q' (fun w' hw' => r_mv (v := .bool _) rfl) <| QR.splitN (fun h36 => ?_) (fun h36 => ?_)
        · refine QR.s' rfl <| QR.s' rfl <| QR.s' rfl <| QR.s' rfl <| QR.q' (fun w' hw' => r_pick true rfl (v := .bool true) rfl) <| QR.q' (fun w' hw' => r_mv (v := .bool _) rfl) <| QR.s' rfl <| QR.s' rfl <| QR.s' rfl <| QR.s' rfl <| QR.s' rfl <| QR.s' rfl <| QR.q' (fun w' hw' => r_pick true rfl (v := .bool true) rfl) <| QR.q' (fun w' hw' => r_mv (v := .bool _) rfl) <| QR.s' rfl <| QR.s' rfl <| QR.s' rfl <| QR.u' rfl <| QR.u' rfl <| QR.u' rfl <| QR.u' rfl <| QR.u' rfl <| QR.u' rfl <| QR.u' rfl <| QR.u' rfl <| QR.u' rfl <| QR.u' rfl <| QR.s' rfl <| QR.q' (fun w' hw' => r_pick true rfl (v := .bool true) rfl) <| QR.nil ?_
          intro w37 hk38
          exact ⟨⟨rfl, rfl, (eDT ((jmf h36).1 trivial)), trivial⟩, hk38⟩
        · refine QR.g' rfl (fun w' hw' => r_fa fa41_1 rfl) <| QR.g' rfl (fun w' hw' => r_ld (v := .int .i64 ((gt x.Maps k).Copies)) sca3 rfl (((hb33).lo hw').cell rfl)) <| QR.gcall rfl ent29 (fun w' hw' => (c_spec_l1In w' ((gt x.Maps k).Copies) 0 99).mono fun _ _ h => ⟨h.1, hw'.trans h.2⟩) rfl <| QR.g' rfl (fun w' hw' => r_not rfl) <| QR.q' (fun w' hw' => r_pick false rfl (v := .bool _) rfl) <| QR.q' (fun w' hw' => r_mv (v := .bool _) rfl) <| QR.splitN (fun h39 => ?_) (fun h39 => ?_)
          · refine QR.s' rfl <| QR.s' rfl <| QR.s' rfl <| QR.s' rfl <| QR.s' rfl <| QR.s' rfl <| QR.q' (fun w' hw' => r_pick true rfl (v := .bool true) rfl) <| QR.q' (fun w' hw' => r_mv (v := .bool _) rfl) <| QR.s' rfl <| QR.s' rfl <| QR.s' rfl <| QR.u' rfl <| QR.u' rfl <| QR.u' rfl <| QR.u' rfl <| QR.u' rfl <| QR.u' rfl <| QR.u' rfl <| QR.u' rfl <| QR.u' rfl <| QR.u' rfl <| QR.s' rfl <| QR.q' (fun w' hw' => r_pick true rfl (v := .bool true) rfl) <| QR.nil ?_
            intro w40 hk41
            exact ⟨⟨rfl, rfl, (eDT (((jmf h39).trans (jmt h36)).1 trivial)), trivial⟩, hk41⟩
          · refine QR.g' rfl (fun w' hw' => r_fa fa41_2 rfl) <| QR.g' rfl (fun w' hw' => r_ld (v := .int .i64 ((gt x.Maps k).Torn)) sca3 rfl (((hb33).lo hw').cell rfl)) <| QR.g' rfl (fun w' hw' => r_fa fa41_1 rfl) <| QR.g' rfl (fun w' hw' => r_ld (v := .int .i64 ((gt x.Maps k).Copies)) sca3 rfl (((hb33).lo hw').cell rfl)) <| QR.gcall rfl ent29 (fun w' hw' => (c_spec_l1In w' ((gt x.Maps k).Torn) 0 ((gt x.Maps k).Copies)).mono fun _ _ h => ⟨h.1, hw'.trans h.2⟩) rfl <| QR.g' rfl (fun w' hw' => r_not rfl) <| QR.q' (fun w' hw' => r_pick false rfl (v := .bool _) rfl) <| QR.q' (fun w' hw' => r_mv (v := .bool _) rfl) <| QR.splitN (fun h42 => ?_) (fun h42 => ?_)
            · refine QR.s' rfl <| QR.s' rfl <| QR.s' rfl <| QR.u' rfl <| QR.u' rfl <| QR.u' rfl <| QR.u' rfl <| QR.u' rfl <| QR.u' rfl <| QR.u' rfl <| QR.u' rfl <| QR.u' rfl <| QR.u' rfl <| QR.s' rfl <| QR.q' (fun w' hw' => r_pick true rfl (v := .bool true) rfl) <| QR.nil ?_
              intro w43 hk44
              exact ⟨⟨rfl, rfl, (eDT ((((jmf h42).trans (jmt h39)).trans (jmt h36)).1 trivial)), trivial⟩, hk44⟩
            · refine QR.g' rfl (fun w' hw' => r_mv (v := .int .i64 _) rfl) <| QR.g' rfl (fun w' hw' => r_gt rfl rfl) <| QR.g' rfl (fun w' hw' => r_mv (v := .bool _) rfl) <| QR.splitD (fun h45 => ?_) (fun h45 => ?_)
              · refine QR.g' rfl (fun w' hw' => r_fa fa25_0 rfl) <| QR.g' rfl (fun w' hw' => r_ld (v := .slice Ax_Maps nx_Maps cx_Maps) sca22 rfl (((((hm14).lo hk25).kp hk31 (fun e' => by have e'' : g1 = g22 := e'; omega)).lo hw').cell rfl)) <| QR.g' rfl (fun w' hw' => r_mv (v := .int .i64 _) rfl) <| QR.g' rfl (fun w' hw' => r_sub rfl rfl (by omega)) <| ?_
                have hx47 := (((hm15).lo hk25).kp hk31 (fun b_ hb e' => by have e'' : b_ = g22 := e'; omega)).elem (i := ((k : Int) - 1).toNat) (by omega)
                rw [show ((k : Int) - 1).toNat = k - 1 from by omega] at hx47
                have hx48 : x.Maps[((k : Int) - 1).toNat]? = some (gt x.Maps (k - 1)) := (show ((k : Int) - 1).toNat = k - 1 from by omega) ▸ hx47
                refine QR.g' rfl (fun w' hw' => r_ixR tsl22 (((((hm15).lo hk25).kp hk31 (fun b_ hb e' => by have e'' : b_ = g22 := e'; omega)).lo hw')) rfl rfl (by omega)) <| QR.g' rfl (fun w' hw' => r_fa fa41_0 rfl) <| QR.g' rfl (fun w' hw' => r_ld (v := .int .i64 ((gt x.Maps (k - 1)).Id)) sca3 rfl ((((((hm15).lo hk25).kp hk31 (fun b_ hb e' => by have e'' : b_ = g22 := e'; omega)).lo hw')).cell hx48 rfl)) <| QR.g' rfl (fun w' hw' => r_fa fa41_0 rfl) <| QR.g' rfl (fun w' hw' => r_ld (v := .int .i64 ((gt x.Maps k).Id)) sca3 rfl (((hb33).lo hw').cell rfl)) <| QR.g' rfl (fun w' hw' => r_ge rfl rfl) <| QR.g' rfl (fun w' hw' => r_pick true rfl (v := .bool _) rfl) <| QR.q' (fun w' hw' => r_pick false rfl (v := .bool _) rfl) <| QR.nil ?_
                intro w49 hk50
                exact ⟨⟨rfl, rfl, (eDD ((((jat h45).trans (jmt h42)).trans (jmt h39)).trans (jmt h36))), trivial⟩, hk50⟩
              · refine QR.s' rfl <| QR.s' rfl <| QR.s' rfl <| QR.s' rfl <| QR.s' rfl <| QR.s' rfl <| QR.s' rfl <| QR.s' rfl <| QR.s' rfl <| QR.s' rfl <| QR.g' rfl (fun w' hw' => r_pick false rfl (v := .bool false) rfl) <| QR.q' (fun w' hw' => r_pick false rfl (v := .bool _) rfl) <| QR.nil ?_
                intro w51 hk52
                exact ⟨⟨rfl, rfl, (eDF ((((jaf h45).trans (jmt h42)).trans (jmt h39)).trans (jmt h36)).2), trivial⟩, hk52⟩
      rintro f53 w54 ⟨hat55, hk56⟩
      rw [← sets_of_at hat55]
      have hz57 := hk56.size
      have hB58 := hB35.lo hk56
      refine W.cond_d rfl (fun h59 => ?_) (fun h59 => ?_)
      · refine W.seq ?_
        refine W.regS (SR.q' (r_as (v := .bool false) rfl) <| SR.nil ?_)
        refine W.ret ?_
        refine ret1 rfl (v := .bool _) rfl ?_
        exact ⟨eR (eDF (z_c_spec_l32Maps_60 x nx_Maps hbdx_Maps hlex_Maps nx_Away hbdx_Away hlex_Away k hi17 h19 hx21 h59)), hB58⟩
      · have hq61 : 1 ≤ ((gt x.Maps k).Id) ∧ ((gt x.Maps k).Id) ≤ 99 := (Classical.not_not.1 (not_or.1 h59).1)
        have hq62 : 0 ≤ ((gt x.Maps k).Copies) ∧ ((gt x.Maps k).Copies) ≤ 99 := (Classical.not_not.1 (not_or.1 (not_or.1 h59).2).1)
        have hq63 : 0 ≤ ((gt x.Maps k).Torn) ∧ ((gt x.Maps k).Torn) ≤ ((gt x.Maps k).Copies) := (Classical.not_not.1 (not_or.1 (not_or.1 (not_or.1 h59).2).2).1)
        have hq64 : ¬ ((0 < (k : Int)) ∧ (((gt x.Maps k).Id) ≤ ((gt x.Maps (k - 1)).Id))) := (not_or.1 (not_or.1 (not_or.1 h59).2).2).2
        refine W.skip ?_
        refine W.regS (SR.q' (r_mv (v := .int .i64 _) rfl) <| SR.q' (r_add rfl rfl (by omega)) <| SR.q' (r_as (v := .int .i64 _) rfl) <| SR.nil ?_)
        refine ⟨k + 1, _, rfl, ⟨rfl, rfl, trivial⟩, ⟨hB58, (((hm14).lo hk25).kp hk31 (fun e' => by have e'' : g1 = g22 := e'; omega)).lo hk56, (((hm15).lo hk25).kp hk31 (fun b_ hb e' => by have e'' : b_ = g22 := e'; omega)).lo hk56, (((hm16).lo hk25).kp hk31 (fun b_ hb e' => by have e'' : b_ = g22 := e'; omega)).lo hk56, ?_⟩, ?_⟩
        · exact (z_c_spec_l32Maps_65 x nx_Maps hbdx_Maps hlex_Maps nx_Away hbdx_Away hlex_Away k hi17 h19 hx21 h59 hq61 hq62 hq63 hq64)
        · exact (z_c_spec_l32Maps_66 x nx_Maps hbdx_Maps hlex_Maps nx_Away hbdx_Away hlex_Away k hi17 h19 hx21 h59 hq61 hq62 hq63 hq64)
    · refine W.exit (xin_here ?_)
      refine W.seq ?_
      refine W.regS (SR.q' (r_fa fa25_0 rfl) <| SR.q' (r_ld (v := .slice Ax_Maps nx_Maps cx_Maps) sca22 rfl ((hm14).cell rfl)) <| SR.q' (r_len und22 rfl) <| SR.q' (r_le rfl rfl) <| SR.q' (r_as (v := .bool _) rfl) <| SR.nil ?_)
      refine W.ret ?_
      refine ret1 rfl (v := .bool _) rfl ?_
      exact ⟨eR (eDD (z_c_spec_l32Maps_67 x nx_Maps hbdx_Maps hlex_Maps nx_Away hbdx_Away hlex_Away k hi17 h19)), hB12⟩

theorem z_c_spec_l32Lent_9 (x : Library) (nx_Maps : Nat) (hbdx_Maps : (nx_Maps : Int) ≤ 9223372036854775807) (hlex_Maps : nx_Maps = x.Maps.length) (nx_Away : Nat) (hbdx_Away : (nx_Away : Int) ≤ 9223372036854775807) (hlex_Away : nx_Away = x.Away.length) : 0 ≤ nx_Away ∧ ATo x.Maps x.Away 0 := by
  exact ⟨Nat.zero_le _, ATo.zero⟩
theorem z_c_spec_l32Lent_55 (x : Library) (nx_Maps : Nat) (hbdx_Maps : (nx_Maps : Int) ≤ 9223372036854775807) (hlex_Maps : nx_Maps = x.Maps.length) (nx_Away : Nat) (hbdx_Away : (nx_Away : Int) ≤ 9223372036854775807) (hlex_Away : nx_Away = x.Away.length) (k : Nat) (hi17 : k ≤ nx_Away ∧ ATo x.Maps x.Away k) (h19 : (k : Int) < (nx_Away : Int)) (hx21 : x.Away[k]? = some (gt x.Away k)) (hq51 : idxF (hasId ((gt x.Away k).Map)) x.Maps < (x.Maps.length : Int) ∧ -1 ≤ idxF (hasId ((gt x.Away k).Map)) x.Maps) (h54 : ((idxF (hasId ((gt x.Away k).Map)) x.Maps) < 0) ∨ (¬ (1 ≤ ((gt x.Away k).Reader) ∧ ((gt x.Away k).Reader) ≤ 999))) : ¬ (AwayOK x.Maps x.Away ∧ x.Away.length ≤ 8) := by
  subst hlex_Away
  first | exact (fun hh => hh.1 k (by omega) (a_bad1 ‹_›)) | exact (fun hh => hh.1 k (by omega) (a_bad2 ‹_›)) | (have h1 := ATo.end_ (And.right ‹_ ∧ ATo _ _ _›) (by omega); exact ⟨fun h => ⟨h1, by omega⟩, fun h => by omega⟩)
theorem z_c_spec_l32Lent_82 (x : Library) (nx_Maps : Nat) (hbdx_Maps : (nx_Maps : Int) ≤ 9223372036854775807) (hlex_Maps : nx_Maps = x.Maps.length) (nx_Away : Nat) (hbdx_Away : (nx_Away : Int) ≤ 9223372036854775807) (hlex_Away : nx_Away = x.Away.length) (k : Nat) (hi17 : k ≤ nx_Away ∧ ATo x.Maps x.Away k) (h19 : (k : Int) < (nx_Away : Int)) (hx21 : x.Away[k]? = some (gt x.Away k)) (hq51 : idxF (hasId ((gt x.Away k).Map)) x.Maps < (x.Maps.length : Int) ∧ -1 ≤ idxF (hasId ((gt x.Away k).Map)) x.Maps) (h54 : ¬ (((idxF (hasId ((gt x.Away k).Map)) x.Maps) < 0) ∨ (¬ (1 ≤ ((gt x.Away k).Reader) ∧ ((gt x.Away k).Reader) ≤ 999)))) (hq56 : ¬ ((idxF (hasId ((gt x.Away k).Map)) x.Maps) < 0)) (hq57 : 1 ≤ ((gt x.Away k).Reader) ∧ ((gt x.Away k).Reader) ≤ 999) (hq58 : 0 ≤ (idxF (hasId ((gt x.Away k).Map)) x.Maps)) (h79 : (0 < (k : Int)) ∧ ((((gt x.Away k).Map) < ((gt x.Away (k - 1)).Map)) ∨ ((((gt x.Away (k - 1)).Map) = ((gt x.Away k).Map)) ∧ (((gt x.Away k).Reader) ≤ ((gt x.Away (k - 1)).Reader))))) (hq80 : 0 < (k : Int)) (hq81 : (((gt x.Away k).Map) < ((gt x.Away (k - 1)).Map)) ∨ ((((gt x.Away (k - 1)).Map) = ((gt x.Away k).Map)) ∧ (((gt x.Away k).Reader) ≤ ((gt x.Away (k - 1)).Reader)))) : ¬ (AwayOK x.Maps x.Away ∧ x.Away.length ≤ 8) := by
  subst hlex_Away
  first | exact (fun hh => hh.1 k (by omega) (a_bad1 ‹_›)) | exact (fun hh => hh.1 k (by omega) (a_bad2 ‹_›)) | (have h1 := ATo.end_ (And.right ‹_ ∧ ATo _ _ _›) (by omega); exact ⟨fun h => ⟨h1, by omega⟩, fun h => by omega⟩)
theorem z_c_spec_l32Lent_83 (x : Library) (nx_Maps : Nat) (hbdx_Maps : (nx_Maps : Int) ≤ 9223372036854775807) (hlex_Maps : nx_Maps = x.Maps.length) (nx_Away : Nat) (hbdx_Away : (nx_Away : Int) ≤ 9223372036854775807) (hlex_Away : nx_Away = x.Away.length) (k : Nat) (hi17 : k ≤ nx_Away ∧ ATo x.Maps x.Away k) (h19 : (k : Int) < (nx_Away : Int)) (hx21 : x.Away[k]? = some (gt x.Away k)) (hq51 : idxF (hasId ((gt x.Away k).Map)) x.Maps < (x.Maps.length : Int) ∧ -1 ≤ idxF (hasId ((gt x.Away k).Map)) x.Maps) (h54 : ¬ (((idxF (hasId ((gt x.Away k).Map)) x.Maps) < 0) ∨ (¬ (1 ≤ ((gt x.Away k).Reader) ∧ ((gt x.Away k).Reader) ≤ 999)))) (hq56 : ¬ ((idxF (hasId ((gt x.Away k).Map)) x.Maps) < 0)) (hq57 : 1 ≤ ((gt x.Away k).Reader) ∧ ((gt x.Away k).Reader) ≤ 999) (hq58 : 0 ≤ (idxF (hasId ((gt x.Away k).Map)) x.Maps)) (h79 : ¬ ((0 < (k : Int)) ∧ ((((gt x.Away k).Map) < ((gt x.Away (k - 1)).Map)) ∨ ((((gt x.Away (k - 1)).Map) = ((gt x.Away k).Map)) ∧ (((gt x.Away k).Reader) ≤ ((gt x.Away (k - 1)).Reader)))))) : k + 1 ≤ nx_Away ∧ ATo x.Maps x.Away (k + 1) := by
  exact ⟨by omega, ATo.next (And.right ‹_ ∧ ATo _ _ _›) (a_good ‹_› ‹_›)⟩
theorem z_c_spec_l32Lent_84 (x : Library) (nx_Maps : Nat) (hbdx_Maps : (nx_Maps : Int) ≤ 9223372036854775807) (hlex_Maps : nx_Maps = x.Maps.length) (nx_Away : Nat) (hbdx_Away : (nx_Away : Int) ≤ 9223372036854775807) (hlex_Away : nx_Away = x.Away.length) (k : Nat) (hi17 : k ≤ nx_Away ∧ ATo x.Maps x.Away k) (h19 : (k : Int) < (nx_Away : Int)) (hx21 : x.Away[k]? = some (gt x.Away k)) (hq51 : idxF (hasId ((gt x.Away k).Map)) x.Maps < (x.Maps.length : Int) ∧ -1 ≤ idxF (hasId ((gt x.Away k).Map)) x.Maps) (h54 : ¬ (((idxF (hasId ((gt x.Away k).Map)) x.Maps) < 0) ∨ (¬ (1 ≤ ((gt x.Away k).Reader) ∧ ((gt x.Away k).Reader) ≤ 999)))) (hq56 : ¬ ((idxF (hasId ((gt x.Away k).Map)) x.Maps) < 0)) (hq57 : 1 ≤ ((gt x.Away k).Reader) ∧ ((gt x.Away k).Reader) ≤ 999) (hq58 : 0 ≤ (idxF (hasId ((gt x.Away k).Map)) x.Maps)) (h79 : ¬ ((0 < (k : Int)) ∧ ((((gt x.Away k).Map) < ((gt x.Away (k - 1)).Map)) ∨ ((((gt x.Away (k - 1)).Map) = ((gt x.Away k).Map)) ∧ (((gt x.Away k).Reader) ≤ ((gt x.Away (k - 1)).Reader)))))) : nx_Away - (k + 1) < nx_Away - k := by
  omega
theorem z_c_spec_l32Lent_85 (x : Library) (nx_Maps : Nat) (hbdx_Maps : (nx_Maps : Int) ≤ 9223372036854775807) (hlex_Maps : nx_Maps = x.Maps.length) (nx_Away : Nat) (hbdx_Away : (nx_Away : Int) ≤ 9223372036854775807) (hlex_Away : nx_Away = x.Away.length) (k : Nat) (hi17 : k ≤ nx_Away ∧ ATo x.Maps x.Away k) (h19 : ¬ ((k : Int) < (nx_Away : Int))) : ((nx_Away : Int) ≤ 8) ↔ (AwayOK x.Maps x.Away ∧ x.Away.length ≤ 8) := by
  subst hlex_Away
  first | exact (fun hh => hh.1 k (by omega) (a_bad1 ‹_›)) | exact (fun hh => hh.1 k (by omega) (a_bad2 ‹_›)) | (have h1 := ATo.end_ (And.right ‹_ ∧ ATo _ _ _›) (by omega); exact ⟨fun h => ⟨h1, by omega⟩, fun h => by omega⟩)
theorem c_spec_l32Lent (w : World) (x : Library) {Ax_Maps : Option Addr} {nx_Maps cx_Maps Bx_Maps : Nat} (hx_Maps : SlR w Bx_Maps encLMap 3 Ax_Maps nx_Maps cx_Maps x.Maps) {Ax_Away : Option Addr} {nx_Away cx_Away Bx_Away : Nat} (hx_Away : SlR w Bx_Away encAway 2 Ax_Away nx_Away cx_Away x.Away) : Calls Try.prog 25 #[.agg (List.toArray [.slice Ax_Maps nx_Maps cx_Maps, .slice Ax_Away nx_Away cx_Away, .int .i64 x.Bought, .int .i64 x.Dropped, .int .i64 x.Mended])] w fun e w' => e = .returned (.bool (decide (AwayOK x.Maps x.Away ∧ x.Away.length ≤ 8))) ∧ Lo w w' := by
  refine calls_W 70 Try.func25 rfl rfl rfl ?_
  have hbdx_Maps := hx_Maps.bound
  have hlex_Maps := hx_Maps.len
  have hBbx_Maps := hx_Maps.bd
  have hbdx_Away := hx_Away.bound
  have hlex_Away := hx_Away.len
  have hBbx_Away := hx_Away.bd
  refine W.seq ?_
  refine W.regS (SR.box (v := .agg (List.toArray _)) (l := [.slice Ax_Maps nx_Maps cx_Maps, .slice Ax_Away nx_Away cx_Away, .int .i64 x.Bought, .int .i64 x.Dropped, .int .i64 x.Mended]) rfl rfl ?_)
  intro g1 w2 hg3 hk4 hs5 hb6
  have hz7 := hk4.size
  have hB8 := (Lo.refl w).lo hk4
  refine SR.q' (r_as (v := .bool false) rfl) <| SR.nil ?_
  refine W.seq ?_
  refine W.seq ?_
  refine W.regS (SR.q' (r_as (v := .int .i64 0) rfl) <| SR.nil ?_)
  refine W.block ?_
  refine W.loop (σ := Nat) (fun g => [(1, .pointer (some ((⟨g1, 0, none⟩ : Addr)))), (3, .int .i64 (g : Int))]) (fun g w' => (Lo w w') ∧ (Blk w' g1 25 [.slice Ax_Maps nx_Maps cx_Maps, .slice Ax_Away nx_Away cx_Away, .int .i64 x.Bought, .int .i64 x.Dropped, .int .i64 x.Mended]) ∧ (SlR w' Bx_Maps encLMap 3 Ax_Maps nx_Maps cx_Maps x.Maps) ∧ (SlR w' Bx_Away encAway 2 Ax_Away nx_Away cx_Away x.Away) ∧ (g ≤ nx_Away ∧ ATo x.Maps x.Away g)) (fun g => nx_Away - g) 0 ?_ ?_ ?_
  · exact ⟨rfl, rfl, trivial⟩
  · exact ⟨hB8, hb6, (hx_Maps).lo hk4, (hx_Away).lo hk4, (z_c_spec_l32Lent_9 x nx_Maps hbdx_Maps hlex_Maps nx_Away hbdx_Away hlex_Away)⟩
  · rintro k f10 w11 hP13
    obtain ⟨hB12, hm14, hm15, hm16, hi17⟩ : (Lo w w11) ∧ (Blk w11 g1 25 [.slice Ax_Maps nx_Maps cx_Maps, .slice Ax_Away nx_Away cx_Away, .int .i64 x.Bought, .int .i64 x.Dropped, .int .i64 x.Mended]) ∧ (SlR w11 Bx_Maps encLMap 3 Ax_Maps nx_Maps cx_Maps x.Maps) ∧ (SlR w11 Bx_Away encAway 2 Ax_Away nx_Away cx_Away x.Away) ∧ (k ≤ nx_Away ∧ ATo x.Maps x.Away k) := hP13
    refine (?_ : W _ _ _ _ _ (act _ (sets f10 [(1, .pointer (some ((⟨g1, 0, none⟩ : Addr)))), (3, .int .i64 (k : Int))])) _)
    have hzw11 := hB12.size
    have hl18 := hm14.lt
    refine W.seq ?_
    refine W.seq ?_
    refine W.regS (SR.q' (r_mv (v := .int .i64 _) rfl) <| SR.q' (r_fa fa25_1 rfl) <| SR.q' (r_ld (v := .slice Ax_Away nx_Away cx_Away) sca23 rfl ((hm14).cell rfl)) <| SR.q' (r_len und23 rfl) <| SR.q' (r_lt rfl rfl) <| SR.nil ?_)
    refine W.cond_d rfl (fun h19 => ?_) (fun h19 => ?_)
    · refine W.skip ?_
      refine W.seq ?_
      refine W.block ?_
      refine W.seq ?_
      refine W.regS (SR.q' (r_fa fa25_1 rfl) <| SR.q' (r_ld (v := .slice Ax_Away nx_Away cx_Away) sca23 rfl ((hm14).cell rfl)) <| SR.q' (r_mv (v := .int .i64 _) rfl) <| ?_)
      have hx21 := (hm16).elem (i := k) (by omega)
      refine SR.q' (r_ixR tsl23 (hm16) rfl rfl (by omega)) <| SR.q' (r_lda (l := encAway (gt x.Away k)) agg59 rfl (fun _ _ hu => (hm16).cell hx21 hu) ((hm16).esz _)) <| SR.alloc (l := [.int .i64 0, .int .i64 0]) tz59 rfl ?_
      intro g22 w23 hg24 hk25 hs26 hb27
      have hz28 := hk25.size
      have hB29 := hB12.lo hk25
      refine SR.store (o := 0) (vs := [.int .i64 ((gt x.Away k).Map), .int .i64 ((gt x.Away k).Reader)]) agg59.2 rfl rfl rfl rfl (hb27) (Nat.le_of_ble_eq_true rfl) rfl ?_
      intro w30 hk31 hs32 hb33
      have hz34 := hk31.size
      have hB35 := hB29.new hk31 (by omega)
      refine SR.nil ?_
      refine W.seq ?_
      refine W.seq ?_
      refine W.regJS (fun f' w' => At f' [(1, .pointer (some ((⟨g1, 0, none⟩ : Addr)))), (3, .int .i64 (k : Int)), (4, .pointer (some ((⟨g22, 0, none⟩ : Addr)))), (27, .bool (decide (((idxF (hasId ((gt x.Away k).Map)) x.Maps) < 0) ∨ (¬ (1 ≤ ((gt x.Away k).Reader) ∧ ((gt x.Away k).Reader) ≤ 999)))))] ∧ Lo w30 w' ∧ (idxF (hasId ((gt x.Away k).Map)) x.Maps < (x.Maps.length : Int) ∧ -1 ≤ idxF (hasId ((gt x.Away k).Map)) x.Maps)) ?_ ?_
      · refine SR.q' (r_lda (l := [.slice Ax_Maps nx_Maps cx_Maps, .slice Ax_Away nx_Away cx_Away, .int .i64 x.Bought, .int .i64 x.Dropped, .int .i64 x.Mended]) agg25 rfl (fun _ _ hu => (((hm14).lo hk25).kp hk31 (fun e' => by have e'' : g1 = g22 := e'; omega)).cell hu) rfl) <| SR.q' (r_fa fa59_0 rfl) <| SR.q' (r_ld (v := .int .i64 ((gt x.Away k).Map)) sca3 rfl ((hb33).cell rfl)) <| SR.call ent28 (c_spec_l32Map w30 x ((((hm15).lo hk25).kp hk31 (fun b_ hb e' => by have e'' : b_ = g22 := e'; omega))) ((((hm16).lo hk25).kp hk31 (fun b_ hb e' => by have e'' : b_ = g22 := e'; omega))) ((gt x.Away k).Map)) rfl ?_
        rintro e w36 ⟨rfl, hk37⟩
        refine ⟨_, rfl, ?_⟩
        have hz38 := hk37.size
        have hB39 := hB35.lo hk37
        have hq40 : idxF (hasId ((gt x.Away k).Map)) x.Maps < (x.Maps.length : Int) ∧ -1 ≤ idxF (hasId ((gt x.Away k).Map)) x.Maps := idx_lt
        refine SR.q' (r_lt rfl rfl) <| SR.q' (r_mv (v := .bool _) rfl) <| SR.splitD (fun h41 => ?_) (fun h41 => ?_)
        · refine SR.s' rfl <| SR.s' rfl <| SR.s' rfl <| SR.s' rfl <| SR.q' (r_pick true rfl (v := .bool true) rfl) <| SR.nil ?_
          exact ⟨_, rfl, ⟨⟨rfl, rfl, rfl, (eDT ((jot h41).1 trivial)), trivial⟩, (hk37), hq40⟩⟩
        · have hq42 := Int.not_lt.1 h41
          refine SR.g' rfl (r_fa fa59_1 rfl) <| SR.g' rfl (r_ld (v := .int .i64 ((gt x.Away k).Reader)) sca3 rfl (((hb33).lo hk37).cell rfl)) <| SR.gcall rfl ent29 (c_spec_l1In w36 ((gt x.Away k).Reader) 1 999) rfl ?_
          rintro e w43 ⟨rfl, hk44⟩
          refine ⟨_, rfl, ?_⟩
          have hz45 := hk44.size
          have hB46 := hB39.lo hk44
          refine SR.g' rfl (r_not rfl) <| SR.q' (r_pick false rfl (v := .bool _) rfl) <| SR.nil ?_
          exact ⟨_, rfl, ⟨⟨rfl, rfl, rfl, (eND (jof h41)), trivial⟩, ((hk37).trans hk44), hq40⟩⟩
      rintro f47 w48 ⟨hat49, hk50, hq51⟩
      rw [← sets_of_at hat49]
      have hz52 := hk50.size
      have hB53 := hB35.lo hk50
      refine W.cond_d rfl (fun h54 => ?_) (fun h54 => ?_)
      · refine W.seq ?_
        refine W.regS (SR.q' (r_as (v := .bool false) rfl) <| SR.nil ?_)
        refine W.ret ?_
        refine ret1 rfl (v := .bool _) rfl ?_
        exact ⟨eR (eDF (z_c_spec_l32Lent_55 x nx_Maps hbdx_Maps hlex_Maps nx_Away hbdx_Away hlex_Away k hi17 h19 hx21 hq51 h54)), hB53⟩
      · have hq56 : ¬ ((idxF (hasId ((gt x.Away k).Map)) x.Maps) < 0) := (not_or.1 h54).1
        have hq57 : 1 ≤ ((gt x.Away k).Reader) ∧ ((gt x.Away k).Reader) ≤ 999 := (Classical.not_not.1 (not_or.1 h54).2)
        have hq58 := Int.not_lt.1 hq56
        refine W.skip ?_
        refine W.seq ?_
        refine W.regJD mo (by kernel_rfl) (fun f' w' => At f' [(1, .pointer (some ((⟨g1, 0, none⟩ : Addr)))), (3, .int .i64 (k : Int)), (65, .bool (decide ((0 < (k : Int)) ∧ ((((gt x.Away k).Map) < ((gt x.Away (k - 1)).Map)) ∨ ((((gt x.Away (k - 1)).Map) = ((gt x.Away k).Map)) ∧ (((gt x.Away k).Reader) ≤ ((gt x.Away (k - 1)).Reader)))))))] ∧ Lo w48 w') ?_ ?_
        · refine QR.q' (fun w' hw' => r_mv (v := .int .i64 _) rfl) <| QR.q' (fun w' hw' => r_gt rfl rfl) <| QR.q' (fun w' hw' => r_mv (v := .bool _) rfl) <| QR.splitD (fun h59 => ?_) (fun h59 => ?_)
          · refine QR.g' rfl (fun w' hw' => r_fa fa25_1 rfl) <| QR.g' rfl (fun w' hw' => r_ld (v := .slice Ax_Away nx_Away cx_Away) sca23 rfl ((((((hm14).lo hk25).kp hk31 (fun e' => by have e'' : g1 = g22 := e'; omega)).lo hk50).lo hw').cell rfl)) <| QR.g' rfl (fun w' hw' => r_mv (v := .int .i64 _) rfl) <| QR.g' rfl (fun w' hw' => r_sub rfl rfl (by omega)) <| ?_
            have hx61 := ((((hm16).lo hk25).kp hk31 (fun b_ hb e' => by have e'' : b_ = g22 := e'; omega)).lo hk50).elem (i := ((k : Int) - 1).toNat) (by omega)
            rw [show ((k : Int) - 1).toNat = k - 1 from by omega] at hx61
            have hx62 : x.Away[((k : Int) - 1).toNat]? = some (gt x.Away (k - 1)) := (show ((k : Int) - 1).toNat = k - 1 from by omega) ▸ hx61
            refine QR.g' rfl (fun w' hw' => r_ixR tsl23 ((((((hm16).lo hk25).kp hk31 (fun b_ hb e' => by have e'' : b_ = g22 := e'; omega)).lo hk50).lo hw')) rfl rfl (by omega)) <| QR.g' rfl (fun w' hw' => r_fa fa59_0 rfl) <| QR.g' rfl (fun w' hw' => r_ld (v := .int .i64 ((gt x.Away (k - 1)).Map)) sca3 rfl (((((((hm16).lo hk25).kp hk31 (fun b_ hb e' => by have e'' : b_ = g22 := e'; omega)).lo hk50).lo hw')).cell hx62 rfl)) <| QR.g' rfl (fun w' hw' => r_fa fa59_0 rfl) <| QR.g' rfl (fun w' hw' => r_ld (v := .int .i64 ((gt x.Away k).Map)) sca3 rfl ((((hb33).lo hk50).lo hw').cell rfl)) <| QR.g' rfl (fun w' hw' => r_gt rfl rfl) <| QR.g' rfl (fun w' hw' => r_mv (v := .bool _) rfl) <| QR.splitD (fun h63 => ?_) (fun h63 => ?_)
            · refine QR.s' rfl <| QR.s' rfl <| QR.s' rfl <| QR.s' rfl <| QR.s' rfl <| QR.s' rfl <| QR.s' rfl <| QR.s' rfl <| QR.s' rfl <| QR.s' rfl <| QR.s' rfl <| QR.u' rfl <| QR.u' rfl <| QR.u' rfl <| QR.u' rfl <| QR.u' rfl <| QR.u' rfl <| QR.u' rfl <| QR.u' rfl <| QR.u' rfl <| QR.u' rfl <| QR.s' rfl <| QR.g' rfl (fun w' hw' => r_pick true rfl (v := .bool true) rfl) <| QR.q' (fun w' hw' => r_pick true rfl (v := .bool _) rfl) <| QR.nil ?_
              intro w64 hk65
              exact ⟨⟨rfl, rfl, (eDT (((jot h63).trans (jat h59)).1 trivial)), trivial⟩, hk65⟩
            · refine QR.g' rfl (fun w' hw' => r_fa fa25_1 rfl) <| QR.g' rfl (fun w' hw' => r_ld (v := .slice Ax_Away nx_Away cx_Away) sca23 rfl ((((((hm14).lo hk25).kp hk31 (fun e' => by have e'' : g1 = g22 := e'; omega)).lo hk50).lo hw').cell rfl)) <| QR.g' rfl (fun w' hw' => r_mv (v := .int .i64 _) rfl) <| QR.g' rfl (fun w' hw' => r_sub rfl rfl (by omega)) <| QR.g' rfl (fun w' hw' => r_ixR tsl23 ((((((hm16).lo hk25).kp hk31 (fun b_ hb e' => by have e'' : b_ = g22 := e'; omega)).lo hk50).lo hw')) rfl rfl (by omega)) <| QR.g' rfl (fun w' hw' => r_fa fa59_0 rfl) <| QR.g' rfl (fun w' hw' => r_ld (v := .int .i64 ((gt x.Away (k - 1)).Map)) sca3 rfl (((((((hm16).lo hk25).kp hk31 (fun b_ hb e' => by have e'' : b_ = g22 := e'; omega)).lo hk50).lo hw')).cell hx62 rfl)) <| QR.g' rfl (fun w' hw' => r_fa fa59_0 rfl) <| QR.g' rfl (fun w' hw' => r_ld (v := .int .i64 ((gt x.Away k).Map)) sca3 rfl ((((hb33).lo hk50).lo hw').cell rfl)) <| QR.g' rfl (fun w' hw' => r_eq rfl rfl) <| QR.g' rfl (fun w' hw' => r_mv (v := .bool _) rfl) <| QR.splitD (fun h66 => ?_) (fun h66 => ?_)
              · refine QR.g' rfl (fun w' hw' => r_fa fa25_1 rfl) <| QR.g' rfl (fun w' hw' => r_ld (v := .slice Ax_Away nx_Away cx_Away) sca23 rfl ((((((hm14).lo hk25).kp hk31 (fun e' => by have e'' : g1 = g22 := e'; omega)).lo hk50).lo hw').cell rfl)) <| QR.g' rfl (fun w' hw' => r_mv (v := .int .i64 _) rfl) <| QR.g' rfl (fun w' hw' => r_sub rfl rfl (by omega)) <| QR.g' rfl (fun w' hw' => r_ixR tsl23 ((((((hm16).lo hk25).kp hk31 (fun b_ hb e' => by have e'' : b_ = g22 := e'; omega)).lo hk50).lo hw')) rfl rfl (by omega)) <| QR.g' rfl (fun w' hw' => r_fa fa59_1 rfl) <| QR.g' rfl (fun w' hw' => r_ld (v := .int .i64 ((gt x.Away (k - 1)).Reader)) sca3 rfl (((((((hm16).lo hk25).kp hk31 (fun b_ hb e' => by have e'' : b_ = g22 := e'; omega)).lo hk50).lo hw')).cell hx62 rfl)) <| QR.g' rfl (fun w' hw' => r_fa fa59_1 rfl) <| QR.g' rfl (fun w' hw' => r_ld (v := .int .i64 ((gt x.Away k).Reader)) sca3 rfl ((((hb33).lo hk50).lo hw').cell rfl)) <| QR.g' rfl (fun w' hw' => r_ge rfl rfl) <| QR.g' rfl (fun w' hw' => r_pick true rfl (v := .bool _) rfl) <| QR.g' rfl (fun w' hw' => r_pick false rfl (v := .bool _) rfl) <| QR.q' (fun w' hw' => r_pick true rfl (v := .bool _) rfl) <| QR.nil ?_
                intro w67 hk68
                exact ⟨⟨rfl, rfl, (eDD (((jat h66).trans (jof h63)).trans (jat h59))), trivial⟩, hk68⟩
              · refine QR.s' rfl <| QR.s' rfl <| QR.s' rfl <| QR.s' rfl <| QR.s' rfl <| QR.s' rfl <| QR.s' rfl <| QR.s' rfl <| QR.s' rfl <| QR.s' rfl <| QR.g' rfl (fun w' hw' => r_pick false rfl (v := .bool false) rfl) <| QR.g' rfl (fun w' hw' => r_pick false rfl (v := .bool _) rfl) <| QR.q' (fun w' hw' => r_pick true rfl (v := .bool _) rfl) <| QR.nil ?_
                intro w69 hk70
                exact ⟨⟨rfl, rfl, (eDF (((jaf h66).trans (jof h63)).trans (jat h59)).2), trivial⟩, hk70⟩
          · refine QR.s' rfl <| QR.s' rfl <| QR.s' rfl <| QR.s' rfl <| QR.s' rfl <| QR.s' rfl <| QR.s' rfl <| QR.s' rfl <| QR.s' rfl <| QR.s' rfl <| QR.s' rfl <| QR.u' rfl <| QR.u' rfl <| QR.u' rfl <| QR.u' rfl <| QR.u' rfl <| QR.u' rfl <| QR.u' rfl <| QR.u' rfl <| QR.u' rfl <| QR.u' rfl <| QR.u' rfl <| QR.u' rfl <| QR.u' rfl <| QR.u' rfl <| QR.u' rfl <| QR.u' rfl <| QR.u' rfl <| QR.u' rfl <| QR.u' rfl <| QR.u' rfl <| QR.u' rfl <| QR.u' rfl <| QR.s' rfl <| QR.q' (fun w' hw' => r_pick false rfl (v := .bool false) rfl) <| QR.nil ?_
            intro w71 hk72
            exact ⟨⟨rfl, rfl, (eDF (jaf h59).2), trivial⟩, hk72⟩
        rintro f73 w74 ⟨hat75, hk76⟩
        rw [← sets_of_at hat75]
        have hz77 := hk76.size
        have hB78 := hB53.lo hk76
        refine W.cond_d rfl (fun h79 => ?_) (fun h79 => ?_)
        · have hq80 : 0 < (k : Int) := h79.1
          have hq81 : (((gt x.Away k).Map) < ((gt x.Away (k - 1)).Map)) ∨ ((((gt x.Away (k - 1)).Map) = ((gt x.Away k).Map)) ∧ (((gt x.Away k).Reader) ≤ ((gt x.Away (k - 1)).Reader))) := h79.2
          refine W.seq ?_
          refine W.regS (SR.q' (r_as (v := .bool false) rfl) <| SR.nil ?_)
          refine W.ret ?_
          refine ret1 rfl (v := .bool _) rfl ?_
          exact ⟨eR (eDF (z_c_spec_l32Lent_82 x nx_Maps hbdx_Maps hlex_Maps nx_Away hbdx_Away hlex_Away k hi17 h19 hx21 hq51 h54 hq56 hq57 hq58 h79 hq80 hq81)), hB78⟩
        · refine W.skip ?_
          refine W.regS (SR.q' (r_mv (v := .int .i64 _) rfl) <| SR.q' (r_add rfl rfl (by omega)) <| SR.q' (r_as (v := .int .i64 _) rfl) <| SR.nil ?_)
          refine ⟨k + 1, _, rfl, ⟨rfl, rfl, trivial⟩, ⟨hB78, ((((hm14).lo hk25).kp hk31 (fun e' => by have e'' : g1 = g22 := e'; omega)).lo hk50).lo hk76, ((((hm15).lo hk25).kp hk31 (fun b_ hb e' => by have e'' : b_ = g22 := e'; omega)).lo hk50).lo hk76, ((((hm16).lo hk25).kp hk31 (fun b_ hb e' => by have e'' : b_ = g22 := e'; omega)).lo hk50).lo hk76, ?_⟩, ?_⟩
          · exact (z_c_spec_l32Lent_83 x nx_Maps hbdx_Maps hlex_Maps nx_Away hbdx_Away hlex_Away k hi17 h19 hx21 hq51 h54 hq56 hq57 hq58 h79)
          · exact (z_c_spec_l32Lent_84 x nx_Maps hbdx_Maps hlex_Maps nx_Away hbdx_Away hlex_Away k hi17 h19 hx21 hq51 h54 hq56 hq57 hq58 h79)
    · refine W.exit (xin_here ?_)
      refine W.seq ?_
      refine W.regS (SR.q' (r_fa fa25_1 rfl) <| SR.q' (r_ld (v := .slice Ax_Away nx_Away cx_Away) sca23 rfl ((hm14).cell rfl)) <| SR.q' (r_len und23 rfl) <| SR.q' (r_le rfl rfl) <| SR.q' (r_as (v := .bool _) rfl) <| SR.nil ?_)
      refine W.ret ?_
      refine ret1 rfl (v := .bool _) rfl ?_
      exact ⟨eR (eDD (z_c_spec_l32Lent_85 x nx_Maps hbdx_Maps hlex_Maps nx_Away hbdx_Away hlex_Away k hi17 h19)), hB12⟩

theorem z_c_spec_l32Good_36 (x : Library) (nx_Maps : Nat) (hbdx_Maps : (nx_Maps : Int) ≤ 9223372036854775807) (hlex_Maps : nx_Maps = x.Maps.length) (nx_Away : Nat) (hbdx_Away : (nx_Away : Int) ≤ 9223372036854775807) (hlex_Away : nx_Away = x.Away.length) : ((MapsOK x.Maps ∧ x.Maps.length ≤ 8) ∧ ((AwayOK x.Maps x.Away ∧ x.Away.length ≤ 8) ∧ ((0 ≤ x.Bought ∧ x.Bought ≤ 9999) ∧ ((0 ≤ x.Dropped ∧ x.Dropped ≤ 9999) ∧ ((0 ≤ x.Mended ∧ x.Mended ≤ 9999) ∧ (x.Bought = (((if false = true then sumT x.Maps else sumC x.Maps) + (nx_Away : Int)) + x.Dropped))))))) ↔ (LibOK x) := by
  subst hlex_Maps hlex_Away
  unfold LibOK
  constructor <;> (intro h; obtain ⟨h1, h2, h⟩ := h; refine ⟨h1, h2, ?_⟩; simpa using h)
theorem c_spec_l32Good (w : World) (x : Library) {Ax_Maps : Option Addr} {nx_Maps cx_Maps Bx_Maps : Nat} (hx_Maps : SlR w Bx_Maps encLMap 3 Ax_Maps nx_Maps cx_Maps x.Maps) {Ax_Away : Option Addr} {nx_Away cx_Away Bx_Away : Nat} (hx_Away : SlR w Bx_Away encAway 2 Ax_Away nx_Away cx_Away x.Away) : Calls Try.prog 15 #[.agg (List.toArray [.slice Ax_Maps nx_Maps cx_Maps, .slice Ax_Away nx_Away cx_Away, .int .i64 x.Bought, .int .i64 x.Dropped, .int .i64 x.Mended])] w fun e w' => e = .returned (.bool (decide (LibOK x))) ∧ Lo w w' := by
  refine calls_W 38 Try.func15 rfl rfl rfl ?_
  have hbdx_Maps := hx_Maps.bound
  have hlex_Maps := hx_Maps.len
  have hBbx_Maps := hx_Maps.bd
  have hbdx_Away := hx_Away.bound
  have hlex_Away := hx_Away.len
  have hBbx_Away := hx_Away.bd
  refine W.seq ?_
  refine W.regS (SR.box (v := .agg (List.toArray _)) (l := [.slice Ax_Maps nx_Maps cx_Maps, .slice Ax_Away nx_Away cx_Away, .int .i64 x.Bought, .int .i64 x.Dropped, .int .i64 x.Mended]) rfl rfl ?_)
  intro g1 w2 hg3 hk4 hs5 hb6
  have hz7 := hk4.size
  have hB8 := (Lo.refl w).lo hk4
  refine SR.q' (r_as (v := .bool false) rfl) <| SR.nil ?_
  refine W.seq ?_
  refine W.regJD mo (by kernel_rfl) (fun f' w' => At f' [(2, .bool (decide ((MapsOK x.Maps ∧ x.Maps.length ≤ 8) ∧ ((AwayOK x.Maps x.Away ∧ x.Away.length ≤ 8) ∧ ((0 ≤ x.Bought ∧ x.Bought ≤ 9999) ∧ ((0 ≤ x.Dropped ∧ x.Dropped ≤ 9999) ∧ ((0 ≤ x.Mended ∧ x.Mended ≤ 9999) ∧ (x.Bought = (((if false = true then sumT x.Maps else sumC x.Maps) + (nx_Away : Int)) + x.Dropped)))))))))] ∧ Lo w2 w') ?_ ?_
  · refine QR.q' (fun w' hw' => r_lda (l := [.slice Ax_Maps nx_Maps cx_Maps, .slice Ax_Away nx_Away cx_Away, .int .i64 x.Bought, .int .i64 x.Dropped, .int .i64 x.Mended]) agg25 rfl (fun _ _ hu => ((hb6).lo hw').cell hu) rfl) <| QR.call ent24 (fun w' hw' => (c_spec_l32Maps w' x (((((hx_Maps).lo hk4).lo hw'))) (((((hx_Away).lo hk4).lo hw')))).mono fun _ _ h => ⟨h.1, hw'.trans h.2⟩) rfl <| QR.q' (fun w' hw' => r_mv (v := .bool _) rfl) <| QR.splitD (fun h9 => ?_) (fun h9 => ?_)
    · have hq10 := And.left h9
      have hq11 := And.left h9
      have hq12 := And.right h9
      refine QR.g' rfl (fun w' hw' => r_lda (l := [.slice Ax_Maps nx_Maps cx_Maps, .slice Ax_Away nx_Away cx_Away, .int .i64 x.Bought, .int .i64 x.Dropped, .int .i64 x.Mended]) agg25 rfl (fun _ _ hu => ((hb6).lo hw').cell hu) rfl) <| QR.gcall rfl ent25 (fun w' hw' => (c_spec_l32Lent w' x (((((hx_Maps).lo hk4).lo hw'))) (((((hx_Away).lo hk4).lo hw')))).mono fun _ _ h => ⟨h.1, hw'.trans h.2⟩) rfl <| QR.q' (fun w' hw' => r_pick true rfl (v := .bool _) rfl) <| QR.q' (fun w' hw' => r_mv (v := .bool _) rfl) <| QR.splitD (fun h13 => ?_) (fun h13 => ?_)
      · refine QR.g' rfl (fun w' hw' => r_fa fa25_2 rfl) <| QR.g' rfl (fun w' hw' => r_ld (v := .int .i64 x.Bought) sca3 rfl (((hb6).lo hw').cell rfl)) <| QR.gcall rfl ent26 (fun w' hw' => (c_spec_l32Count w' x.Bought).mono fun _ _ h => ⟨h.1, hw'.trans h.2⟩) rfl <| QR.q' (fun w' hw' => r_pick true rfl (v := .bool _) rfl) <| QR.q' (fun w' hw' => r_mv (v := .bool _) rfl) <| QR.splitD (fun h14 => ?_) (fun h14 => ?_)
        · refine QR.g' rfl (fun w' hw' => r_fa fa25_3 rfl) <| QR.g' rfl (fun w' hw' => r_ld (v := .int .i64 x.Dropped) sca3 rfl (((hb6).lo hw').cell rfl)) <| QR.gcall rfl ent26 (fun w' hw' => (c_spec_l32Count w' x.Dropped).mono fun _ _ h => ⟨h.1, hw'.trans h.2⟩) rfl <| QR.q' (fun w' hw' => r_pick true rfl (v := .bool _) rfl) <| QR.q' (fun w' hw' => r_mv (v := .bool _) rfl) <| QR.splitD (fun h15 => ?_) (fun h15 => ?_)
          · refine QR.g' rfl (fun w' hw' => r_fa fa25_4 rfl) <| QR.g' rfl (fun w' hw' => r_ld (v := .int .i64 x.Mended) sca3 rfl (((hb6).lo hw').cell rfl)) <| QR.gcall rfl ent26 (fun w' hw' => (c_spec_l32Count w' x.Mended).mono fun _ _ h => ⟨h.1, hw'.trans h.2⟩) rfl <| QR.q' (fun w' hw' => r_pick true rfl (v := .bool _) rfl) <| QR.q' (fun w' hw' => r_mv (v := .bool _) rfl) <| QR.splitD (fun h16 => ?_) (fun h16 => ?_)
            · refine QR.g' rfl (fun w' hw' => r_fa fa25_2 rfl) <| QR.g' rfl (fun w' hw' => r_ld (v := .int .i64 x.Bought) sca3 rfl (((hb6).lo hw').cell rfl)) <| QR.g' rfl (fun w' hw' => r_lda (l := [.slice Ax_Maps nx_Maps cx_Maps, .slice Ax_Away nx_Away cx_Away, .int .i64 x.Bought, .int .i64 x.Dropped, .int .i64 x.Mended]) agg25 rfl (fun _ _ hu => ((hb6).lo hw').cell hu) rfl) <| QR.gcall rfl ent27 (fun w' hw' => (c_spec_l32There w' x (((((hx_Maps).lo hk4).lo hw'))) (((((hx_Away).lo hk4).lo hw'))) false (by first | assumption | exact MTo.end_ (And.right ‹_ ∧ MTo _ _›) (by omega)) (by omega)).mono fun _ _ h => ⟨h.1, hw'.trans h.2⟩) rfl <| ?_
              have hq17 : 0 ≤ (if false = true then sumT x.Maps else sumC x.Maps) ∧ (if false = true then sumT x.Maps else sumC x.Maps) ≤ 792 := there_rng false ‹MapsOK _› (by omega)
              refine QR.g' rfl (fun w' hw' => r_fa fa25_1 rfl) <| QR.g' rfl (fun w' hw' => r_ld (v := .slice Ax_Away nx_Away cx_Away) sca23 rfl (((hb6).lo hw').cell rfl)) <| QR.g' rfl (fun w' hw' => r_len und23 rfl) <| QR.g' rfl (fun w' hw' => r_add rfl rfl (by omega)) <| QR.g' rfl (fun w' hw' => r_fa fa25_3 rfl) <| QR.g' rfl (fun w' hw' => r_ld (v := .int .i64 x.Dropped) sca3 rfl (((hb6).lo hw').cell rfl)) <| QR.g' rfl (fun w' hw' => r_add rfl rfl (by omega)) <| QR.g' rfl (fun w' hw' => r_eq rfl rfl) <| QR.q' (fun w' hw' => r_pick true rfl (v := .bool _) rfl) <| QR.q' (fun w' hw' => r_as (v := .bool _) rfl) <| QR.nil ?_
              intro w18 hk19
              exact ⟨⟨(eDD (((((jat h16).trans (jat h15)).trans (jat h14)).trans (jat h13)).trans (jat h9))), trivial⟩, hk19⟩
            · refine QR.s' rfl <| QR.s' rfl <| QR.s' rfl <| QR.s' rfl <| QR.s' rfl <| QR.s' rfl <| QR.s' rfl <| QR.s' rfl <| QR.s' rfl <| QR.s' rfl <| QR.s' rfl <| QR.s' rfl <| QR.q' (fun w' hw' => r_pick false rfl (v := .bool false) rfl) <| QR.q' (fun w' hw' => r_as (v := .bool _) rfl) <| QR.nil ?_
              intro w20 hk21
              exact ⟨⟨(eDF (((((jaf h16).trans (jat h15)).trans (jat h14)).trans (jat h13)).trans (jat h9)).2), trivial⟩, hk21⟩
          · refine QR.s' rfl <| QR.s' rfl <| QR.s' rfl <| QR.q' (fun w' hw' => r_pick false rfl (v := .bool false) rfl) <| QR.q' (fun w' hw' => r_mv (v := .bool _) rfl) <| QR.s' rfl <| QR.s' rfl <| QR.s' rfl <| QR.s' rfl <| QR.s' rfl <| QR.s' rfl <| QR.s' rfl <| QR.s' rfl <| QR.s' rfl <| QR.s' rfl <| QR.s' rfl <| QR.s' rfl <| QR.q' (fun w' hw' => r_pick false rfl (v := .bool false) rfl) <| QR.q' (fun w' hw' => r_as (v := .bool _) rfl) <| QR.nil ?_
            intro w22 hk23
            exact ⟨⟨(eDF ((((jaf h15).trans (jat h14)).trans (jat h13)).trans (jat h9)).2), trivial⟩, hk23⟩
        · refine QR.s' rfl <| QR.s' rfl <| QR.s' rfl <| QR.q' (fun w' hw' => r_pick false rfl (v := .bool false) rfl) <| QR.q' (fun w' hw' => r_mv (v := .bool _) rfl) <| QR.s' rfl <| QR.s' rfl <| QR.s' rfl <| QR.q' (fun w' hw' => r_pick false rfl (v := .bool false) rfl) <| QR.q' (fun w' hw' => r_mv (v := .bool _) rfl) <| QR.s' rfl <| QR.s' rfl <| QR.s' rfl <| QR.s' rfl <| QR.s' rfl <| QR.s' rfl <| QR.s' rfl <| QR.s' rfl <| QR.s' rfl <| QR.s' rfl <| QR.s' rfl <| QR.s' rfl <| QR.q' (fun w' hw' => r_pick false rfl (v := .bool false) rfl) <| QR.q' (fun w' hw' => r_as (v := .bool _) rfl) <| QR.nil ?_
          intro w24 hk25
          exact ⟨⟨(eDF (((jaf h14).trans (jat h13)).trans (jat h9)).2), trivial⟩, hk25⟩
      · refine QR.s' rfl <| QR.s' rfl <| QR.s' rfl <| QR.q' (fun w' hw' => r_pick false rfl (v := .bool false) rfl) <| QR.q' (fun w' hw' => r_mv (v := .bool _) rfl) <| QR.s' rfl <| QR.s' rfl <| QR.s' rfl <| QR.q' (fun w' hw' => r_pick false rfl (v := .bool false) rfl) <| QR.q' (fun w' hw' => r_mv (v := .bool _) rfl) <| QR.s' rfl <| QR.s' rfl <| QR.s' rfl <| QR.q' (fun w' hw' => r_pick false rfl (v := .bool false) rfl) <| QR.q' (fun w' hw' => r_mv (v := .bool _) rfl) <| QR.s' rfl <| QR.s' rfl <| QR.s' rfl <| QR.s' rfl <| QR.s' rfl <| QR.s' rfl <| QR.s' rfl <| QR.s' rfl <| QR.s' rfl <| QR.s' rfl <| QR.s' rfl <| QR.s' rfl <| QR.q' (fun w' hw' => r_pick false rfl (v := .bool false) rfl) <| QR.q' (fun w' hw' => r_as (v := .bool _) rfl) <| QR.nil ?_
        intro w26 hk27
        exact ⟨⟨(eDF ((jaf h13).trans (jat h9)).2), trivial⟩, hk27⟩
    · refine QR.s' rfl <| QR.s' rfl <| QR.q' (fun w' hw' => r_pick false rfl (v := .bool false) rfl) <| QR.q' (fun w' hw' => r_mv (v := .bool _) rfl) <| QR.s' rfl <| QR.s' rfl <| QR.s' rfl <| QR.q' (fun w' hw' => r_pick false rfl (v := .bool false) rfl) <| QR.q' (fun w' hw' => r_mv (v := .bool _) rfl) <| QR.s' rfl <| QR.s' rfl <| QR.s' rfl <| QR.q' (fun w' hw' => r_pick false rfl (v := .bool false) rfl) <| QR.q' (fun w' hw' => r_mv (v := .bool _) rfl) <| QR.s' rfl <| QR.s' rfl <| QR.s' rfl <| QR.q' (fun w' hw' => r_pick false rfl (v := .bool false) rfl) <| QR.q' (fun w' hw' => r_mv (v := .bool _) rfl) <| QR.s' rfl <| QR.s' rfl <| QR.s' rfl <| QR.s' rfl <| QR.s' rfl <| QR.s' rfl <| QR.s' rfl <| QR.s' rfl <| QR.s' rfl <| QR.s' rfl <| QR.s' rfl <| QR.s' rfl <| QR.q' (fun w' hw' => r_pick false rfl (v := .bool false) rfl) <| QR.q' (fun w' hw' => r_as (v := .bool _) rfl) <| QR.nil ?_
      intro w28 hk29
      exact ⟨⟨(eDF (jaf h9).2), trivial⟩, hk29⟩
  rintro f30 w31 ⟨hat32, hk33⟩
  rw [← sets_of_at hat32]
  have hz34 := hk33.size
  have hB35 := hB8.lo hk33
  refine W.ret ?_
  refine ret1 rfl (v := .bool _) rfl ?_
  exact ⟨eR (eDD (z_c_spec_l32Good_36 x nx_Maps hbdx_Maps hlex_Maps nx_Away hbdx_Away hlex_Away)), hB35⟩

theorem c_spec_l32Own (w : World) (x : Library) {Ax_Maps : Option Addr} {nx_Maps cx_Maps Bx_Maps : Nat} (hx_Maps : SlR w Bx_Maps encLMap 3 Ax_Maps nx_Maps cx_Maps x.Maps) {Ax_Away : Option Addr} {nx_Away cx_Away Bx_Away : Nat} (hx_Away : SlR w Bx_Away encAway 2 Ax_Away nx_Away cx_Away x.Away) (hp0 : (nx_Maps : Int) ≤ 1048576) (hp1 : (nx_Away : Int) ≤ 1048576) : Calls Try.prog 31 #[.agg (List.toArray [.slice Ax_Maps nx_Maps cx_Maps, .slice Ax_Away nx_Away cx_Away, .int .i64 x.Bought, .int .i64 x.Dropped, .int .i64 x.Mended])] w fun e w' => ∃ (A1' : Option Addr) (n1' c1' : Nat) (A2' : Option Addr) (n2' c2' : Nat), e = .returned (.agg (List.toArray [.slice A1' n1' c1', .slice A2' n2' c2', .int .i64 x.Bought, .int .i64 x.Dropped, .int .i64 x.Mended])) ∧ SlO w' w.heap.size encLMap 3 41 A1' n1' c1' x.Maps ∧ SlO w' w.heap.size encAway 2 59 A2' n2' c2' x.Away ∧ (∀ b_, A1' = some ⟨b_, 0, none⟩ → ¬ A2' = some ⟨b_, 0, none⟩) ∧ Lo w w' := by
  refine calls_W 18 Try.func31 rfl rfl rfl ?_
  have hbdx_Maps := hx_Maps.bound
  have hlex_Maps := hx_Maps.len
  have hBbx_Maps := hx_Maps.bd
  have hbdx_Away := hx_Away.bound
  have hlex_Away := hx_Away.len
  have hBbx_Away := hx_Away.bd
  refine W.seq ?_
  refine W.regS (SR.box (v := .agg (List.toArray _)) (l := [.slice Ax_Maps nx_Maps cx_Maps, .slice Ax_Away nx_Away cx_Away, .int .i64 x.Bought, .int .i64 x.Dropped, .int .i64 x.Mended]) rfl rfl ?_)
  intro g1 w2 hg3 hk4 hs5 hb6
  have hz7 := hk4.size
  have hB8 := (Lo.refl w).lo hk4
  refine SR.alloc (l := [.slice none 0 0, .slice none 0 0, .int .i64 0, .int .i64 0, .int .i64 0]) tz25 rfl ?_
  intro g9 w10 hg11 hk12 hs13 hb14
  have hz15 := hk12.size
  have hB16 := hB8.lo hk12
  refine SR.nil ?_
  refine W.seq ?_
  have hm17 := ((hx_Maps).lo hk4).lo hk12
  have hm18 := ((hx_Away).lo hk4).lo hk12
  refine W.regA (Kp (fun b_ => b_ = g9) w10) (fun f' w' => ∃ (g70 : Nat), ∃ (A78 : Option Addr), ∃ (c79 : Nat), ∃ (g87 : Nat), ∃ (A96 : Option Addr), ∃ (c97 : Nat), At f' [(2, .pointer (some ((⟨g9, 0, none⟩ : Addr))))] ∧ (Kp (fun b_ => b_ = g9) w10 w') ∧ (SlO w' w10.heap.size encLMap 3 41 A78 (0 + nx_Maps) c79 x.Maps) ∧ (SlO w' w10.heap.size encAway 2 59 A96 (0 + nx_Away) c97 x.Away) ∧ (Blk w' g9 25 [.slice A78 (0 + nx_Maps) c79, .slice A96 (0 + nx_Away) c97, .int .i64 x.Bought, .int .i64 x.Dropped, .int .i64 x.Mended]) ∧ (∀ b_, A78 = some ⟨b_, 0, none⟩ → ¬ A96 = some ⟨b_, 0, none⟩)) mo ?_ ?_
  · intro w66 hk67
    have hz68 := hk67.size
    have hB69 := hB16.lo hk67
    refine AH.take 1 rfl (by kernel_rfl) trivial ((Kp.refl w10 : Kp (fun b_ => b_ = g9) w10 w10).lo hk67) (fun w' hw' => r_fa fa25_0 rfl) <| AH.take 2 rfl (by kernel_rfl) trivial ((Kp.refl w10 : Kp (fun b_ => b_ = g9) w10 w10).lo hk67) (fun w' hw' => r_ld (v := .slice Ax_Maps nx_Maps cx_Maps) sca22 rfl ((((hb6).lo hk12).kp hw' (fun e' => by have e'' : g1 = g9 := e'; omega)).cell rfl)) <| AH.take 5 rfl (by kernel_rfl) trivial ((Kp.refl w10 : Kp (fun b_ => b_ = g9) w10 w10).lo hk67) (fun w' hw' => r_fa fa25_1 rfl) <| AH.take 6 rfl (by kernel_rfl) trivial ((Kp.refl w10 : Kp (fun b_ => b_ = g9) w10 w10).lo hk67) (fun w' hw' => r_ld (v := .slice Ax_Away nx_Away cx_Away) sca23 rfl ((((hb6).lo hk12).kp hw' (fun e' => by have e'' : g1 = g9 := e'; omega)).cell rfl)) <| AH.take 8 rfl (by kernel_rfl) trivial ((Kp.refl w10 : Kp (fun b_ => b_ = g9) w10 w10).lo hk67) (fun w' hw' => r_fa fa25_2 rfl) <| AH.take 9 rfl (by kernel_rfl) trivial ((Kp.refl w10 : Kp (fun b_ => b_ = g9) w10 w10).lo hk67) (fun w' hw' => r_ld (v := .int .i64 x.Bought) sca3 rfl ((((hb6).lo hk12).kp hw' (fun e' => by have e'' : g1 = g9 := e'; omega)).cell rfl)) <| AH.take 10 rfl (by kernel_rfl) trivial ((Kp.refl w10 : Kp (fun b_ => b_ = g9) w10 w10).lo hk67) (fun w' hw' => r_fa fa25_3 rfl) <| AH.take 11 rfl (by kernel_rfl) trivial ((Kp.refl w10 : Kp (fun b_ => b_ = g9) w10 w10).lo hk67) (fun w' hw' => r_ld (v := .int .i64 x.Dropped) sca3 rfl ((((hb6).lo hk12).kp hw' (fun e' => by have e'' : g1 = g9 := e'; omega)).cell rfl)) <| AH.take 12 rfl (by kernel_rfl) trivial ((Kp.refl w10 : Kp (fun b_ => b_ = g9) w10 w10).lo hk67) (fun w' hw' => r_fa fa25_4 rfl) <| AH.take 13 rfl (by kernel_rfl) trivial ((Kp.refl w10 : Kp (fun b_ => b_ = g9) w10 w10).lo hk67) (fun w' hw' => r_ld (v := .int .i64 x.Mended) sca3 rfl ((((hb6).lo hk12).kp hw' (fun e' => by have e'' : g1 = g9 := e'; omega)).cell rfl)) <| AH.br [0, 4] (by kernel_rfl) rfl ⟨Br.mk' rfl trivial ?_, Br.mk' rfl trivial ?_, trivial⟩
    · refine SR.lit (vs := []) (L := ([] : List LMap)) (enc := encLMap) tel22 (fun _ => rfl) rfl rfl rfl (by decide) ?_
      intro g70 w71 hg72 hk73 hO74
      have hz75 := hk73.size
      have hB76 := hB69.lo hk73
      have hS77 := ((Kp.refl w10 : Kp (fun b_ => b_ = g9) w10 w10).lo hk67).lo hk73
      refine SR.nil ⟨hS77, _, rfl, ?_⟩
      refine AH.br [3, 4] (by kernel_rfl) rfl ⟨Br.mk' rfl trivial ?_, Br.mk' rfl trivial ?_, trivial⟩
      · refine SR.app tel22 rfl rfl (hO74) (((hm17).lo hk67).lo hk73) (fun _ => rfl) (by omega) (by omega) ?_
        intro A78 c79 w80 hk81 hO82 hN83
        have hz84 := hk81.size
        have hB85 := hB76.step hk81 (fun i_ hi_ e' => by have := ((hO74)).base_le e'; first | omega | (exfalso; omega) | exact e' | exact .inl e' | exact .inr e')
        have hS86 := (hS77).step hk81 (fun i_ hi_ e' => by have := ((hO74)).base_le e'; exfalso; omega)
        rw [List.nil_append] at hO82
        refine SR.nil ⟨hS86, _, rfl, ?_⟩
        refine AH.br [4] (by kernel_rfl) rfl ⟨Br.mk' rfl trivial ?_, trivial⟩
        refine SR.lit (vs := []) (L := ([] : List Away)) (enc := encAway) tel23 (fun _ => rfl) rfl rfl rfl (by decide) ?_
        intro g87 w88 hg89 hk90 hO91
        have hz92 := hk90.size
        have hB93 := hB85.lo hk90
        have hS94 := (hS86).lo hk90
        have hd95 : ¬ A78 = some ⟨g87, 0, none⟩ := fun e' => by have := (hO82).base_le e'; omega
        refine SR.nil ⟨hS94, _, rfl, ?_⟩
        refine AH.br [7] (by kernel_rfl) rfl ⟨Br.mk' rfl trivial ?_, trivial⟩
        refine SR.app tel23 rfl rfl (hO91) (((((hm18).lo hk67).lo hk73).kp hk81 (fun b_ hb e' => by have := ((hO74)).base_le e'; omega)).lo hk90) (fun _ => rfl) (by omega) (by omega) ?_
        intro A96 c97 w98 hk99 hO100 hN101
        have hz102 := hk99.size
        have hB103 := hB93.step hk99 (fun i_ hi_ e' => by have := ((hO91)).base_le e'; first | omega | (exfalso; omega) | exact e' | exact .inl e' | exact .inr e')
        have hS104 := (hS94).step hk99 (fun i_ hi_ e' => by have := ((hO91)).base_le e'; exfalso; omega)
        rw [List.nil_append] at hO100
        have hd105 : ∀ b_, A96 = some ⟨b_, 0, none⟩ → ¬ A78 = some ⟨b_, 0, none⟩ := fun b_ e' h' => (hN101 b_ e').elim (fun h => (fun b_ h h' => hd95 (h'.trans h.symm)) b_ (h.trans e') h') (fun h => by have := ((hO82).lo hk90).base_le h'; omega)
        refine SR.nil ⟨hS104, _, rfl, ?_⟩
        refine AH.take 14 rfl (by kernel_rfl) trivial (hS104) (fun w' hw' => r_build (vs := [(0, .slice A78 (0 + nx_Maps) c79), (1, .slice A96 (0 + nx_Away) c97), (2, .int .i64 x.Bought), (3, .int .i64 x.Dropped), (4, .int .i64 x.Mended)]) rfl (bld25_0_1_2_3_4 _ _ _ _ _ _ _ _ _)) <| AH.br [15] (by kernel_rfl) rfl ⟨Br.mk' rfl trivial ?_, trivial⟩
        refine SR.store (o := 0) (vs := [.slice A78 (0 + nx_Maps) c79, .slice A96 (0 + nx_Away) c97, .int .i64 x.Bought, .int .i64 x.Dropped, .int .i64 x.Mended]) agg25.2 rfl rfl rfl rfl ((((((hb14).lo hk67).lo hk73).kp hk81 (fun e' => by have := ((hO74)).base_le e'; omega)).lo hk90).kp hk99 (fun e' => by have := ((hO91)).base_le e'; omega)) (Nat.le_of_ble_eq_true rfl) rfl ?_
        intro w106 hk107 hs108 hb109
        have hz110 := hk107.size
        have hB111 := hB103.new hk107 (by omega)
        have hS112 := (hS104).step hk107 (fun _ _ e => e)
        refine SR.nil ⟨hS112, _, rfl, ?_⟩
        refine AH.done (by kernel_rfl) ?_
        exact ⟨g70, A78, c79, g87, A96, c97, ⟨rfl, trivial⟩, hS112, (((((hO82).lo hk90).kp hk99 (fun b_ hb e' => by have h1 := ((hO91)).base_le e'; have h2 := ((hO82).lo hk90).base_le hb; have h3 := (hO82).base_le hb; omega)).kp hk107 (fun b_ hb e' => by have e'' : b_ = g9 := e'; have := (((hO82).lo hk90).kp hk99 (fun b_ hb e' => by have h1 := ((hO91)).base_le e'; have h2 := ((hO82).lo hk90).base_le hb; have h3 := (hO82).base_le hb; omega)).base_le hb; omega)).down (by omega)), (((hO100).kp hk107 (fun b_ hb e' => by have e'' : b_ = g9 := e'; have := (hO100).base_le hb; omega)).down (by omega)), (hb109), (fun b_ h h' => hd105 b_ h' h)⟩
      · refine SR.lit (vs := []) (L := ([] : List Away)) (enc := encAway) tel23 (fun _ => rfl) rfl rfl rfl (by decide) ?_
        intro g117 w118 hg119 hk120 hO121
        have hz122 := hk120.size
        have hB123 := hB76.lo hk120
        have hS124 := (hS77).lo hk120
        have hd125 : ¬ (some (⟨g70, 0, none⟩ : Addr)) = some ⟨g117, 0, none⟩ := fun e' => by have := (hO74).base_le e'; omega
        refine SR.nil ⟨hS124, _, rfl, ?_⟩
        refine AH.br [3] (by kernel_rfl) rfl ⟨Br.mk' rfl trivial ?_, trivial⟩
        refine SR.app tel22 rfl rfl ((hO74).lo hk120) ((((hm17).lo hk67).lo hk73).lo hk120) (fun _ => rfl) (by omega) (by omega) ?_
        intro A126 c127 w128 hk129 hO130 hN131
        have hz132 := hk129.size
        have hB133 := hB123.step hk129 (fun i_ hi_ e' => by have := (((hO74).lo hk120)).base_le e'; first | omega | (exfalso; omega) | exact e' | exact .inl e' | exact .inr e')
        have hS134 := (hS124).step hk129 (fun i_ hi_ e' => by have := (((hO74).lo hk120)).base_le e'; exfalso; omega)
        rw [List.nil_append] at hO130
        have hd135 : ∀ b_, A126 = some ⟨b_, 0, none⟩ → ¬ (some (⟨g117, 0, none⟩ : Addr)) = some ⟨b_, 0, none⟩ := fun b_ e' h' => (hN131 b_ e').elim (fun h => (fun b_ h h' => hd125 (h.trans h'.symm)) b_ (h.trans e') h') (fun h => by have := (hO121).base_le h'; omega)
        refine SR.nil ⟨hS134, _, rfl, ?_⟩
        refine AH.br [7] (by kernel_rfl) rfl ⟨Br.mk' rfl trivial ?_, trivial⟩
        refine SR.app tel23 rfl rfl ((hO121).kp hk129 (fun b_ hb e' => hd125 (hb ▸ e'))) (((((hm18).lo hk67).lo hk73).lo hk120).kp hk129 (fun b_ hb e' => by have := (((hO74).lo hk120)).base_le e'; omega)) (fun _ => rfl) (by omega) (by omega) ?_
        intro A136 c137 w138 hk139 hO140 hN141
        have hz142 := hk139.size
        have hB143 := hB133.step hk139 (fun i_ hi_ e' => by have := (((hO121).kp hk129 (fun b_ hb e' => hd125 (hb ▸ e')))).base_le e'; first | omega | (exfalso; omega) | exact e' | exact .inl e' | exact .inr e')
        have hS144 := (hS134).step hk139 (fun i_ hi_ e' => by have := (((hO121).kp hk129 (fun b_ hb e' => hd125 (hb ▸ e')))).base_le e'; exfalso; omega)
        rw [List.nil_append] at hO140
        have hd145 : ∀ b_, A136 = some ⟨b_, 0, none⟩ → ¬ A126 = some ⟨b_, 0, none⟩ := fun b_ e' h' => (hN141 b_ e').elim (fun h => (fun b_ h h' => hd135 b_ h' h) b_ (h.trans e') h') (fun h => by have := (hO130).base_le h'; omega)
        refine SR.nil ⟨hS144, _, rfl, ?_⟩
        refine AH.take 14 rfl (by kernel_rfl) trivial (hS144) (fun w' hw' => r_build (vs := [(0, .slice A126 (0 + nx_Maps) c127), (1, .slice A136 (0 + nx_Away) c137), (2, .int .i64 x.Bought), (3, .int .i64 x.Dropped), (4, .int .i64 x.Mended)]) rfl (bld25_0_1_2_3_4 _ _ _ _ _ _ _ _ _)) <| AH.br [15] (by kernel_rfl) rfl ⟨Br.mk' rfl trivial ?_, trivial⟩
        refine SR.store (o := 0) (vs := [.slice A126 (0 + nx_Maps) c127, .slice A136 (0 + nx_Away) c137, .int .i64 x.Bought, .int .i64 x.Dropped, .int .i64 x.Mended]) agg25.2 rfl rfl rfl rfl ((((((hb14).lo hk67).lo hk73).lo hk120).kp hk129 (fun e' => by have := (((hO74).lo hk120)).base_le e'; omega)).kp hk139 (fun e' => by have := (((hO121).kp hk129 (fun b_ hb e' => hd125 (hb ▸ e')))).base_le e'; omega)) (Nat.le_of_ble_eq_true rfl) rfl ?_
        intro w146 hk147 hs148 hb149
        have hz150 := hk147.size
        have hB151 := hB143.new hk147 (by omega)
        have hS152 := (hS144).step hk147 (fun _ _ e => e)
        refine SR.nil ⟨hS152, _, rfl, ?_⟩
        refine AH.done (by kernel_rfl) ?_
        exact ⟨g70, A126, c127, g117, A136, c137, ⟨rfl, trivial⟩, hS152, ((((hO130).kp hk139 (fun b_ hb e' => hd135 b_ hb e')).kp hk147 (fun b_ hb e' => by have e'' : b_ = g9 := e'; have := ((hO130).kp hk139 (fun b_ hb e' => hd135 b_ hb e')).base_le hb; omega)).down (by omega)), (((hO140).kp hk147 (fun b_ hb e' => by have e'' : b_ = g9 := e'; have := (hO140).base_le hb; omega)).down (by omega)), (hb149), (fun b_ h h' => hd145 b_ h' h)⟩
    · refine SR.lit (vs := []) (L := ([] : List Away)) (enc := encAway) tel23 (fun _ => rfl) rfl rfl rfl (by decide) ?_
      intro g154 w155 hg156 hk157 hO158
      have hz159 := hk157.size
      have hB160 := hB69.lo hk157
      have hS161 := ((Kp.refl w10 : Kp (fun b_ => b_ = g9) w10 w10).lo hk67).lo hk157
      refine SR.nil ⟨hS161, _, rfl, ?_⟩
      refine AH.br [0] (by kernel_rfl) rfl ⟨Br.mk' rfl trivial ?_, trivial⟩
      refine SR.lit (vs := []) (L := ([] : List LMap)) (enc := encLMap) tel22 (fun _ => rfl) rfl rfl rfl (by decide) ?_
      intro g162 w163 hg164 hk165 hO166
      have hz167 := hk165.size
      have hB168 := hB160.lo hk165
      have hS169 := (hS161).lo hk165
      have hd170 : ¬ (some (⟨g154, 0, none⟩ : Addr)) = some ⟨g162, 0, none⟩ := fun e' => by have := (hO158).base_le e'; omega
      refine SR.nil ⟨hS169, _, rfl, ?_⟩
      refine AH.br [3] (by kernel_rfl) rfl ⟨Br.mk' rfl trivial ?_, trivial⟩
      refine SR.app tel22 rfl rfl (hO166) ((((hm17).lo hk67).lo hk157).lo hk165) (fun _ => rfl) (by omega) (by omega) ?_
      intro A171 c172 w173 hk174 hO175 hN176
      have hz177 := hk174.size
      have hB178 := hB168.step hk174 (fun i_ hi_ e' => by have := ((hO166)).base_le e'; first | omega | (exfalso; omega) | exact e' | exact .inl e' | exact .inr e')
      have hS179 := (hS169).step hk174 (fun i_ hi_ e' => by have := ((hO166)).base_le e'; exfalso; omega)
      rw [List.nil_append] at hO175
      have hd180 : ∀ b_, A171 = some ⟨b_, 0, none⟩ → ¬ (some (⟨g154, 0, none⟩ : Addr)) = some ⟨b_, 0, none⟩ := fun b_ e' h' => (hN176 b_ e').elim (fun h => (fun b_ h h' => hd170 (h'.trans h.symm)) b_ (h.trans e') h') (fun h => by have := ((hO158).lo hk165).base_le h'; omega)
      refine SR.nil ⟨hS179, _, rfl, ?_⟩
      refine AH.br [7] (by kernel_rfl) rfl ⟨Br.mk' rfl trivial ?_, trivial⟩
      refine SR.app tel23 rfl rfl (((hO158).lo hk165).kp hk174 (fun b_ hb e' => by have h1 := ((hO166)).base_le e'; have h2 := ((hO158).lo hk165).base_le hb; have h3 := (hO158).base_le hb; omega)) (((((hm18).lo hk67).lo hk157).lo hk165).kp hk174 (fun b_ hb e' => by have := ((hO166)).base_le e'; omega)) (fun _ => rfl) (by omega) (by omega) ?_
      intro A181 c182 w183 hk184 hO185 hN186
      have hz187 := hk184.size
      have hB188 := hB178.step hk184 (fun i_ hi_ e' => by have := ((((hO158).lo hk165).kp hk174 (fun b_ hb e' => by have h1 := ((hO166)).base_le e'; have h2 := ((hO158).lo hk165).base_le hb; have h3 := (hO158).base_le hb; omega))).base_le e'; first | omega | (exfalso; omega) | exact e' | exact .inl e' | exact .inr e')
      have hS189 := (hS179).step hk184 (fun i_ hi_ e' => by have := ((((hO158).lo hk165).kp hk174 (fun b_ hb e' => by have h1 := ((hO166)).base_le e'; have h2 := ((hO158).lo hk165).base_le hb; have h3 := (hO158).base_le hb; omega))).base_le e'; exfalso; omega)
      rw [List.nil_append] at hO185
      have hd190 : ∀ b_, A181 = some ⟨b_, 0, none⟩ → ¬ A171 = some ⟨b_, 0, none⟩ := fun b_ e' h' => (hN186 b_ e').elim (fun h => (fun b_ h h' => hd180 b_ h' h) b_ (h.trans e') h') (fun h => by have := (hO175).base_le h'; omega)
      refine SR.nil ⟨hS189, _, rfl, ?_⟩
      refine AH.take 14 rfl (by kernel_rfl) trivial (hS189) (fun w' hw' => r_build (vs := [(0, .slice A171 (0 + nx_Maps) c172), (1, .slice A181 (0 + nx_Away) c182), (2, .int .i64 x.Bought), (3, .int .i64 x.Dropped), (4, .int .i64 x.Mended)]) rfl (bld25_0_1_2_3_4 _ _ _ _ _ _ _ _ _)) <| AH.br [15] (by kernel_rfl) rfl ⟨Br.mk' rfl trivial ?_, trivial⟩
      refine SR.store (o := 0) (vs := [.slice A171 (0 + nx_Maps) c172, .slice A181 (0 + nx_Away) c182, .int .i64 x.Bought, .int .i64 x.Dropped, .int .i64 x.Mended]) agg25.2 rfl rfl rfl rfl ((((((hb14).lo hk67).lo hk157).lo hk165).kp hk174 (fun e' => by have := ((hO166)).base_le e'; omega)).kp hk184 (fun e' => by have := ((((hO158).lo hk165).kp hk174 (fun b_ hb e' => by have h1 := ((hO166)).base_le e'; have h2 := ((hO158).lo hk165).base_le hb; have h3 := (hO158).base_le hb; omega))).base_le e'; omega)) (Nat.le_of_ble_eq_true rfl) rfl ?_
      intro w191 hk192 hs193 hb194
      have hz195 := hk192.size
      have hB196 := hB188.new hk192 (by omega)
      have hS197 := (hS189).step hk192 (fun _ _ e => e)
      refine SR.nil ⟨hS197, _, rfl, ?_⟩
      refine AH.done (by kernel_rfl) ?_
      exact ⟨g162, A171, c172, g154, A181, c182, ⟨rfl, trivial⟩, hS197, ((((hO175).kp hk184 (fun b_ hb e' => hd180 b_ hb e')).kp hk192 (fun b_ hb e' => by have e'' : b_ = g9 := e'; have := ((hO175).kp hk184 (fun b_ hb e' => hd180 b_ hb e')).base_le hb; omega)).down (by omega)), (((hO185).kp hk192 (fun b_ hb e' => by have e'' : b_ = g9 := e'; have := (hO185).base_le hb; omega)).down (by omega)), (hb194), (fun b_ h h' => hd190 b_ h' h)⟩
  rintro f199 w200 ⟨g70, A78, c79, g87, A96, c97, hat202, hR201, hm113, hm114, hm115, hd116⟩
  rw [← sets_of_at hat202]
  have hz203 := hR201.size
  have hB204 := hB16.new hR201 (by omega)
  refine W.ret ?_
  refine retC rfl rfl agg25 (hm115) rfl ?_
  exact ⟨A78, 0 + nx_Maps, c79, A96, 0 + nx_Away, c97, eR rfl, ((hm113).down (by omega)), ((hm114).down (by omega)), hd116, hB204⟩
end Go.Proofs.Ytocpdkhahmbaiaa
