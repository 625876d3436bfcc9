/- Walks, printed by a program of this claim's author. -/
import Derived.Test.YtgobbcilgcbkaaaChecked
import Derived.Test.YtgobbcilgcbkaaaUa
import Derived.Test.YtgobbcilgcbkaaaFu
import Derived.Test.YtgobbcilgcbkaaaFs
import Derived.Test.YtgobbcilgcbkaaaFq
import Derived.Test.YtgobbcilgcbkaaaFo
import Derived.Test.YtgobbcilgcbkaaaDa
import Derived.Test.YtgobbcilgcbkaaaG32j
namespace Go.Proofs.Ytgobbcilgcbkaaa
open Go Go.RowKit Fw
set_option maxRecDepth 10000
set_option maxHeartbeats 2000000
set_option linter.unusedVariables false


theorem c_spec_l32Away (w : World) (x : Library) {Ax_Maps : Option Addr} {nx_Maps cx_Maps Bx_Maps : Nat} (hx_Maps : SlR w Bx_Maps encLMap 3 Ax_Maps nx_Maps cx_Maps x.Maps) {Ax_Away : Option Addr} {nx_Away cx_Away Bx_Away : Nat} (hx_Away : SlR w Bx_Away encAway 2 Ax_Away nx_Away cx_Away x.Away) (id : Int) (r : Int) : Calls Try.prog 65 #[.agg (List.toArray [.slice Ax_Maps nx_Maps cx_Maps, .slice Ax_Away nx_Away cx_Away, .int .i64 x.Bought, .int .i64 x.Dropped, .int .i64 x.Mended]), .int .i64 id, .int .i64 r] w fun e w' => e = .returned (.int .i64 (idxF (isA id r) x.Away)) ∧ Lo w w' := by
  refine calls_W 34 Try.func65 rfl rfl rfl ?_
  have hbdx_Maps := hx_Maps.bound
  have hlex_Maps := hx_Maps.len
  have hBbx_Maps := hx_Maps.bd
  have hbdx_Away := hx_Away.bound
  have hlex_Away := hx_Away.len
  have hBbx_Away := hx_Away.bd
  refine W.seq ?_
  refine W.regS (SR.box (v := .agg (List.toArray _)) (l := [.slice Ax_Maps nx_Maps cx_Maps, .slice Ax_Away nx_Away cx_Away, .int .i64 x.Bought, .int .i64 x.Dropped, .int .i64 x.Mended]) rfl rfl ?_)
  intro g1 w2 hg3 hk4 hs5 hb6
  have hz7 := hk4.size
  have hB8 := (Lo.refl w).lo hk4
  refine SR.q' (r_as (v := .int .i64 0) rfl) <| SR.nil ?_
  refine W.seq ?_
  refine W.seq ?_
  refine W.regS (SR.q' (r_as (v := .int .i64 0) rfl) <| SR.nil ?_)
  refine W.block ?_
  refine W.loop (σ := Nat) (fun g => [(1, .int .i64 id), (2, .int .i64 r), (3, .pointer (pA g1)), (7, .int .i64 (g : Int))]) (fun g w' => (Lo w w') ∧ (Blk w' g1 27 [.slice Ax_Maps nx_Maps cx_Maps, .slice Ax_Away nx_Away cx_Away, .int .i64 x.Bought, .int .i64 x.Dropped, .int .i64 x.Mended]) ∧ (SlR w' Bx_Maps encLMap 3 Ax_Maps nx_Maps cx_Maps x.Maps) ∧ (SlR w' Bx_Away encAway 2 Ax_Away nx_Away cx_Away x.Away) ∧ (g ≤ nx_Away ∧ NoneTo (isA id r) x.Away g)) (fun g => nx_Away - g) 0 ?_ ?_ ?_
  · exact ⟨rfl, rfl, rfl, rfl, trivial⟩
  · exact ⟨hB8, hb6, (hx_Maps).lo hk4, (hx_Away).lo hk4, (by exact ⟨Nat.zero_le _, NoneTo.zero⟩)⟩
  · rintro k f9 w10 hP12
    obtain ⟨hB11, hm13, hm14, hm15, hi16⟩ : (Lo w w10) ∧ (Blk w10 g1 27 [.slice Ax_Maps nx_Maps cx_Maps, .slice Ax_Away nx_Away cx_Away, .int .i64 x.Bought, .int .i64 x.Dropped, .int .i64 x.Mended]) ∧ (SlR w10 Bx_Maps encLMap 3 Ax_Maps nx_Maps cx_Maps x.Maps) ∧ (SlR w10 Bx_Away encAway 2 Ax_Away nx_Away cx_Away x.Away) ∧ (k ≤ nx_Away ∧ NoneTo (isA id r) x.Away k) := hP12
    refine (?_ : W _ _ _ _ _ (act _ (sets f9 [(1, .int .i64 id), (2, .int .i64 r), (3, .pointer (pA g1)), (7, .int .i64 (k : Int))])) _)
    have hzw10 := hB11.size
    have hl17 := hm13.lt
    refine W.seq ?_
    refine W.seq ?_
    refine W.regS (SR.q' (r_mv (v := .int .i64 _) rfl) <| SR.q' (r_fa fa27_1 rfl) <| SR.q' (r_ld (v := .slice Ax_Away nx_Away cx_Away) sca25 rfl ((hm13).cell rfl)) <| SR.q' (r_len und25 rfl) <| SR.q' (r_lt rfl rfl) <| SR.nil ?_)
    refine W.cond_d rfl (fun h18 => ?_) (fun h18 => ?_)
    · refine W.skip ?_
      refine W.seq ?_
      refine W.block ?_
      refine W.seq ?_
      refine W.regJS (fun f' w' => At f' [(1, .int .i64 id), (2, .int .i64 r), (3, .pointer (pA g1)), (7, .int .i64 (k : Int)), (32, .bool (decide ((((gt x.Away k).Map) = id) ∧ (((gt x.Away k).Reader) = r))))] ∧ Lo w10 w' ∧ (x.Away[k]? = some (gt x.Away k))) ?_ ?_
      · refine SR.q' (r_fa fa27_1 rfl) <| SR.q' (r_ld (v := .slice Ax_Away nx_Away cx_Away) sca25 rfl ((hm13).cell rfl)) <| SR.q' (r_mv (v := .int .i64 _) rfl) <| ?_
        have hx20 := (hm15).elem (i := k) (by omega)
        refine SR.q' (r_ixR tsl25 (hm15) rfl rfl (by omega)) <| SR.q' (r_fa fa63_0 rfl) <| SR.q' (r_ld (v := .int .i64 ((gt x.Away k).Map)) sca3 rfl ((hm15).cell hx20 rfl)) <| SR.q' (r_mv (v := .int .i64 _) rfl) <| SR.q' (r_eq rfl rfl) <| SR.q' (r_mv (v := .bool _) rfl) <| SR.splitD (fun h21 => ?_) (fun h21 => ?_)
        · refine SR.g' rfl (r_fa fa27_1 rfl) <| SR.g' rfl (r_ld (v := .slice Ax_Away nx_Away cx_Away) sca25 rfl ((hm13).cell rfl)) <| SR.g' rfl (r_mv (v := .int .i64 _) rfl) <| SR.g' rfl (r_ixR tsl25 (hm15) rfl rfl (by omega)) <| SR.g' rfl (r_fa fa63_1 rfl) <| SR.g' rfl (r_ld (v := .int .i64 ((gt x.Away k).Reader)) sca3 rfl ((hm15).cell hx20 rfl)) <| SR.g' rfl (r_mv (v := .int .i64 _) rfl) <| SR.g' rfl (r_eq rfl rfl) <| SR.q' (r_pick true rfl (v := .bool _) rfl) <| SR.nil ?_
          exact ⟨_, rfl, ⟨⟨rfl, rfl, rfl, rfl, (eDD (jat h21)), trivial⟩, (Lo.refl _), hx20⟩⟩
        · refine SR.s' rfl <| SR.s' rfl <| SR.s' rfl <| SR.s' rfl <| SR.s' rfl <| SR.s' rfl <| SR.s' rfl <| SR.s' rfl <| SR.q' (r_pick false rfl (v := .bool false) rfl) <| SR.nil ?_
          exact ⟨_, rfl, ⟨⟨rfl, rfl, rfl, rfl, (eDF (jaf h21).2), trivial⟩, (Lo.refl _), hx20⟩⟩
      rintro f22 w23 ⟨hat24, hk25, hq26⟩
      rw [← sets_of_at hat24]
      have hz27 := hk25.size
      have hB28 := hB11.lo hk25
      refine W.cond_d rfl (fun h29 => ?_) (fun h29 => ?_)
      · have hq30 : ((gt x.Away k).Map) = id := h29.1
        have hq31 : ((gt x.Away k).Reader) = r := h29.2
        refine W.seq ?_
        refine W.regS (SR.q' (r_mv (v := .int .i64 _) rfl) <| SR.q' (r_as (v := .int .i64 _) rfl) <| SR.nil ?_)
        refine W.ret ?_
        refine ret1 rfl (v := .int .i64 _) rfl ?_
        exact ⟨eR (eI (by first | exact idx_at (And.right ‹_ ∧ NoneTo _ _ _›) ‹x.Away[k]? = some _› (by unfold isA; exact decide_eq_true ‹_›) | exact idx_no (And.right ‹_ ∧ NoneTo _ _ _›) hlex_Away ‹_›)), hB28⟩
      · refine W.skip ?_
        refine W.regS (SR.q' (r_mv (v := .int .i64 _) rfl) <| SR.q' (r_add rfl rfl (by omega)) <| SR.q' (r_as (v := .int .i64 _) rfl) <| SR.nil ?_)
        refine ⟨k + 1, _, rfl, ⟨rfl, rfl, rfl, rfl, trivial⟩, ⟨hB28, (hm13).lo hk25, (hm14).lo hk25, (hm15).lo hk25, ?_⟩, ?_⟩
        · exact (by exact ⟨by omega, NoneTo.next (And.right ‹_ ∧ NoneTo _ _ _›) ‹x.Away[k]? = some _› (by unfold isA; exact decide_eq_false ‹_›)⟩)
        · exact (by omega)
    · refine W.exit (xin_here ?_)
      refine W.seq ?_
      refine W.regS (SR.q' (r_as (v := .int .i64 (-1)) rfl) <| SR.nil ?_)
      refine W.ret ?_
      refine ret1 rfl (v := .int .i64 _) rfl ?_
      exact ⟨eR (eI (by first | exact idx_at (And.right ‹_ ∧ NoneTo _ _ _›) ‹x.Away[k]? = some _› (by unfold isA; exact decide_eq_true ‹_›) | exact idx_no (And.right ‹_ ∧ NoneTo _ _ _›) hlex_Away ‹_›)), hB11⟩

open Classical in
noncomputable def spec_l32Step (x : Library) (s : LibraryStep) : Bool :=
  if s.Kind = 1 then decide ((1 ≤ s.Id ∧ s.Id ≤ 99) ∧ ((s.Reader = 0) ∧ (1 ≤ s.Value ∧ s.Value ≤ 50))) else if s.Kind = 2 then decide ((0 ≤ (idxF (hasId s.Id) x.Maps)) ∧ ((1 ≤ s.Reader ∧ s.Reader ≤ 999) ∧ (s.Value = 0))) else if s.Kind = 3 then decide ((0 ≤ (idxF (hasId s.Id) x.Maps)) ∧ ((1 ≤ s.Reader ∧ s.Reader ≤ 999) ∧ (0 ≤ s.Value ∧ s.Value ≤ 1))) else if s.Kind = 5 then decide ((0 ≤ (idxF (hasId s.Id) x.Maps)) ∧ ((1 ≤ s.Reader ∧ s.Reader ≤ 999) ∧ (1 ≤ s.Value ∧ s.Value ≤ 999))) else decide (((s.Kind = 4) ∧ ((0 ≤ (idxF (hasId s.Id) x.Maps)) ∧ ((s.Reader = 0) ∧ (1 ≤ s.Value)))) ∨ ((¬ (s.Kind = 4)) ∧ (((s.Kind = 6) ∧ ((0 ≤ (idxF (hasId s.Id) x.Maps)) ∧ ((s.Reader = 0) ∧ (1 ≤ s.Value)))) ∨ ((¬ (s.Kind = 6)) ∧ ((s.Kind = 7) ∧ ((0 ≤ (idxF (hasId s.Id) x.Maps)) ∧ ((s.Reader = 0) ∧ (1 ≤ s.Value))))))))
theorem c_spec_l32Step (w : World) (x : Library) {Ax_Maps : Option Addr} {nx_Maps cx_Maps Bx_Maps : Nat} (hx_Maps : SlR w Bx_Maps encLMap 3 Ax_Maps nx_Maps cx_Maps x.Maps) {Ax_Away : Option Addr} {nx_Away cx_Away Bx_Away : Nat} (hx_Away : SlR w Bx_Away encAway 2 Ax_Away nx_Away cx_Away x.Away) (s : LibraryStep) : Calls Try.prog 24 #[.agg (List.toArray [.slice Ax_Maps nx_Maps cx_Maps, .slice Ax_Away nx_Away cx_Away, .int .i64 x.Bought, .int .i64 x.Dropped, .int .i64 x.Mended]), .agg (List.toArray (encLibraryStep s))] w fun e w' => e = .returned (.bool (spec_l32Step x s)) ∧ Lo w w' := by
  refine calls_W 91 Try.func24 rfl rfl rfl ?_
  have hbdx_Maps := hx_Maps.bound
  have hlex_Maps := hx_Maps.len
  have hBbx_Maps := hx_Maps.bd
  have hbdx_Away := hx_Away.bound
  have hlex_Away := hx_Away.len
  have hBbx_Away := hx_Away.bd
  have hbdx_Maps := hx_Maps.bound
  have hlex_Maps := hx_Maps.len
  have hBbx_Maps := hx_Maps.bd
  have hbdx_Away := hx_Away.bound
  have hlex_Away := hx_Away.len
  have hBbx_Away := hx_Away.bd
  refine W.seq ?_
  refine W.regS (SR.box (v := .agg (List.toArray _)) (l := [.slice Ax_Maps nx_Maps cx_Maps, .slice Ax_Away nx_Away cx_Away, .int .i64 x.Bought, .int .i64 x.Dropped, .int .i64 x.Mended]) rfl rfl ?_)
  intro g1 w2 hg3 hk4 hs5 hb6
  have hz7 := hk4.size
  have hB8 := (Lo.refl w).lo hk4
  refine SR.box (v := .agg (List.toArray _)) (l := [.int .i64 s.Kind, .int .i64 s.Id, .int .i64 s.Reader, .int .i64 s.Value]) rfl rfl ?_
  intro g9 w10 hg11 hk12 hs13 hb14
  have hz15 := hk12.size
  have hB16 := hB8.lo hk12
  refine SR.q' (r_as (v := .bool false) rfl) <| SR.nil ?_
  refine W.seq ?_
  have hm17 := ((hx_Maps).lo hk4).lo hk12
  have hm18 := ((hx_Away).lo hk4).lo hk12
  refine W.regD mo (by kernel_rfl) (QR.q' (fun w' hw' => r_lda (l := [.slice Ax_Maps nx_Maps cx_Maps, .slice Ax_Away nx_Away cx_Away, .int .i64 x.Bought, .int .i64 x.Dropped, .int .i64 x.Mended]) agg27 rfl (fun _ _ hu => (((hb6).lo hk12).lo hw').cell hu) rfl) <| QR.q' (fun w' hw' => r_fa fa29_1 rfl) <| QR.q' (fun w' hw' => r_ld (v := .int .i64 s.Id) sca3 rfl (((hb14).lo hw').cell rfl)) <| QR.call ent49 (fun w' hw' => (c_spec_l32Map w' x ((((hm17).lo hw'))) ((((hm18).lo hw'))) s.Id).mono fun _ _ h => ⟨h.1, hw'.trans h.2⟩) rfl <| ?_)
  have hq19 : idxF (hasId s.Id) x.Maps < (x.Maps.length : Int) ∧ -1 ≤ idxF (hasId s.Id) x.Maps := idx_lt
  refine QR.q' (fun w' hw' => r_ge rfl rfl) <| QR.q' (fun w' hw' => r_fa fa29_2 rfl) <| QR.q' (fun w' hw' => r_ld (v := .int .i64 s.Reader) sca3 rfl (((hb14).lo hw').cell rfl)) <| QR.call ent50 (fun w' hw' => (c_spec_l1In w' s.Reader 1 999).mono fun _ _ h => ⟨h.1, hw'.trans h.2⟩) rfl <| QR.q' (fun w' hw' => r_as (v := .bool _) rfl) <| QR.q' (fun w' hw' => r_as (v := .bool _) rfl) <| QR.nil ?_
  intro w20 hk21
  have hz22 := hk21.size
  have hB23 := hB16.lo hk21
  refine W.seq ?_
  refine W.seq ?_
  refine W.regS (SR.q' (r_fa fa29_0 rfl) <| SR.q' (r_ld (v := .int .i64 s.Kind) sca3 rfl (((hb14).lo hk21).cell rfl)) <| SR.nil ?_)
  refine W.block ?_
  refine W.seq ?_
  refine W.regS (SR.q' (r_eq rfl rfl) <| SR.q' (r_as (v := .bool _) rfl) <| SR.nil ?_)
  refine W.cond_d rfl (fun h24 => ?_) (fun h24 => ?_)
  · refine W.seq ?_
    refine W.regJS (fun f' w' => At f' [(3, .pointer (pA g9)), (4, .bool (decide ((1 ≤ s.Id ∧ s.Id ≤ 99) ∧ ((s.Reader = 0) ∧ (1 ≤ s.Value ∧ s.Value ≤ 50))))), (5, .bool (decide (0 ≤ (idxF (hasId s.Id) x.Maps))))] ∧ Lo w20 w') ?_ ?_
    · refine SR.q' (r_fa fa29_1 rfl) <| SR.q' (r_ld (v := .int .i64 s.Id) sca3 rfl (((hb14).lo hk21).cell rfl)) <| SR.call ent50 (c_spec_l1In w20 s.Id 1 99) rfl ?_
      rintro e w25 ⟨rfl, hk26⟩
      refine ⟨_, rfl, ?_⟩
      have hz27 := hk26.size
      have hB28 := hB23.lo hk26
      refine SR.q' (r_mv (v := .bool _) rfl) <| SR.splitD (fun h29 => ?_) (fun h29 => ?_)
      · refine SR.g' rfl (r_fa fa29_2 rfl) <| SR.g' rfl (r_ld (v := .int .i64 s.Reader) sca3 rfl ((((hb14).lo hk21).lo hk26).cell rfl)) <| SR.g' rfl (r_eq rfl rfl) <| SR.q' (r_pick true rfl (v := .bool _) rfl) <| SR.q' (r_mv (v := .bool _) rfl) <| SR.splitD (fun h30 => ?_) (fun h30 => ?_)
        · refine SR.g' rfl (r_fa fa29_3 rfl) <| SR.g' rfl (r_ld (v := .int .i64 s.Value) sca3 rfl ((((hb14).lo hk21).lo hk26).cell rfl)) <| SR.gcall rfl ent50 (c_spec_l1In w25 s.Value 1 50) rfl ?_
          rintro e w31 ⟨rfl, hk32⟩
          refine ⟨_, rfl, ?_⟩
          have hz33 := hk32.size
          have hB34 := hB28.lo hk32
          refine SR.q' (r_pick true rfl (v := .bool _) rfl) <| SR.q' (r_as (v := .bool _) rfl) <| SR.nil ?_
          exact ⟨_, rfl, ⟨⟨rfl, (eDD ((jat h30).trans (jat h29))), rfl, trivial⟩, ((hk26).trans hk32)⟩⟩
        · refine SR.s' rfl <| SR.s' rfl <| SR.s' rfl <| SR.q' (r_pick false rfl (v := .bool false) rfl) <| SR.q' (r_as (v := .bool _) rfl) <| SR.nil ?_
          exact ⟨_, rfl, ⟨⟨rfl, (eDF ((jaf h30).trans (jat h29)).2), rfl, trivial⟩, (hk26)⟩⟩
      · refine SR.s' rfl <| SR.s' rfl <| SR.s' rfl <| SR.q' (r_pick false rfl (v := .bool false) rfl) <| SR.q' (r_mv (v := .bool _) rfl) <| SR.s' rfl <| SR.s' rfl <| SR.s' rfl <| SR.q' (r_pick false rfl (v := .bool false) rfl) <| SR.q' (r_as (v := .bool _) rfl) <| SR.nil ?_
        exact ⟨_, rfl, ⟨⟨rfl, (eDF (jaf h29).2), rfl, trivial⟩, (hk26)⟩⟩
    rintro f35 w36 ⟨hat37, hk38⟩
    rw [← sets_of_at hat37]
    have hz39 := hk38.size
    have hB40 := hB23.lo hk38
    refine W.ret ?_
    refine ret1 rfl (v := .bool _) rfl ?_
    exact ⟨eR (eB (by unfold spec_l32Step; rw [if_pos h24] <;> rfl)), hB40⟩
  · refine W.seq ?_
    refine W.regS (SR.q' (r_eq rfl rfl) <| SR.q' (r_as (v := .bool _) rfl) <| SR.nil ?_)
    refine W.cond_d rfl (fun h41 => ?_) (fun h41 => ?_)
    · refine W.seq ?_
      refine W.regJS (fun f' w' => At f' [(3, .pointer (pA g9)), (4, .bool (decide ((0 ≤ (idxF (hasId s.Id) x.Maps)) ∧ ((1 ≤ s.Reader ∧ s.Reader ≤ 999) ∧ (s.Value = 0))))), (5, .bool (decide (0 ≤ (idxF (hasId s.Id) x.Maps))))] ∧ Lo w20 w') ?_ ?_
      · refine SR.q' (r_mv (v := .bool _) rfl) <| SR.q' (r_mv (v := .bool _) rfl) <| SR.splitD (fun h42 => ?_) (fun h42 => ?_)
        · refine SR.g' rfl (r_mv (v := .bool _) rfl) <| SR.q' (r_pick true rfl (v := .bool _) rfl) <| SR.q' (r_mv (v := .bool _) rfl) <| SR.splitD (fun h43 => ?_) (fun h43 => ?_)
          · refine SR.g' rfl (r_fa fa29_3 rfl) <| SR.g' rfl (r_ld (v := .int .i64 s.Value) sca3 rfl (((hb14).lo hk21).cell rfl)) <| SR.g' rfl (r_eq rfl rfl) <| SR.q' (r_pick true rfl (v := .bool _) rfl) <| SR.q' (r_as (v := .bool _) rfl) <| SR.nil ?_
            exact ⟨_, rfl, ⟨⟨rfl, (eDD ((jat h43).trans (jat h42))), rfl, trivial⟩, (Lo.refl _)⟩⟩
          · refine SR.s' rfl <| SR.s' rfl <| SR.s' rfl <| SR.q' (r_pick false rfl (v := .bool false) rfl) <| SR.q' (r_as (v := .bool _) rfl) <| SR.nil ?_
            exact ⟨_, rfl, ⟨⟨rfl, (eDF ((jaf h43).trans (jat h42)).2), rfl, trivial⟩, (Lo.refl _)⟩⟩
        · refine SR.s' rfl <| SR.q' (r_pick false rfl (v := .bool false) rfl) <| SR.q' (r_mv (v := .bool _) rfl) <| SR.s' rfl <| SR.s' rfl <| SR.s' rfl <| SR.q' (r_pick false rfl (v := .bool false) rfl) <| SR.q' (r_as (v := .bool _) rfl) <| SR.nil ?_
          exact ⟨_, rfl, ⟨⟨rfl, (eDF (jaf h42).2), rfl, trivial⟩, (Lo.refl _)⟩⟩
      rintro f44 w45 ⟨hat46, hk47⟩
      rw [← sets_of_at hat46]
      have hz48 := hk47.size
      have hB49 := hB23.lo hk47
      refine W.ret ?_
      refine ret1 rfl (v := .bool _) rfl ?_
      exact ⟨eR (eB (by unfold spec_l32Step; rw [if_neg h24, if_pos h41] <;> rfl)), hB49⟩
    · refine W.seq ?_
      refine W.regS (SR.q' (r_eq rfl rfl) <| SR.q' (r_as (v := .bool _) rfl) <| SR.nil ?_)
      refine W.cond_d rfl (fun h50 => ?_) (fun h50 => ?_)
      · refine W.seq ?_
        refine W.regJS (fun f' w' => At f' [(3, .pointer (pA g9)), (4, .bool (decide ((0 ≤ (idxF (hasId s.Id) x.Maps)) ∧ ((1 ≤ s.Reader ∧ s.Reader ≤ 999) ∧ (0 ≤ s.Value ∧ s.Value ≤ 1))))), (5, .bool (decide (0 ≤ (idxF (hasId s.Id) x.Maps))))] ∧ Lo w20 w') ?_ ?_
        · refine SR.q' (r_mv (v := .bool _) rfl) <| SR.q' (r_mv (v := .bool _) rfl) <| SR.splitD (fun h51 => ?_) (fun h51 => ?_)
          · refine SR.g' rfl (r_mv (v := .bool _) rfl) <| SR.q' (r_pick true rfl (v := .bool _) rfl) <| SR.q' (r_mv (v := .bool _) rfl) <| SR.splitD (fun h52 => ?_) (fun h52 => ?_)
            · refine SR.g' rfl (r_fa fa29_3 rfl) <| SR.g' rfl (r_ld (v := .int .i64 s.Value) sca3 rfl (((hb14).lo hk21).cell rfl)) <| SR.gcall rfl ent50 (c_spec_l1In w20 s.Value 0 1) rfl ?_
              rintro e w53 ⟨rfl, hk54⟩
              refine ⟨_, rfl, ?_⟩
              have hz55 := hk54.size
              have hB56 := hB23.lo hk54
              refine SR.q' (r_pick true rfl (v := .bool _) rfl) <| SR.q' (r_as (v := .bool _) rfl) <| SR.nil ?_
              exact ⟨_, rfl, ⟨⟨rfl, (eDD ((jat h52).trans (jat h51))), rfl, trivial⟩, (hk54)⟩⟩
            · refine SR.s' rfl <| SR.s' rfl <| SR.s' rfl <| SR.q' (r_pick false rfl (v := .bool false) rfl) <| SR.q' (r_as (v := .bool _) rfl) <| SR.nil ?_
              exact ⟨_, rfl, ⟨⟨rfl, (eDF ((jaf h52).trans (jat h51)).2), rfl, trivial⟩, (Lo.refl _)⟩⟩
          · refine SR.s' rfl <| SR.q' (r_pick false rfl (v := .bool false) rfl) <| SR.q' (r_mv (v := .bool _) rfl) <| SR.s' rfl <| SR.s' rfl <| SR.s' rfl <| SR.q' (r_pick false rfl (v := .bool false) rfl) <| SR.q' (r_as (v := .bool _) rfl) <| SR.nil ?_
            exact ⟨_, rfl, ⟨⟨rfl, (eDF (jaf h51).2), rfl, trivial⟩, (Lo.refl _)⟩⟩
        rintro f57 w58 ⟨hat59, hk60⟩
        rw [← sets_of_at hat59]
        have hz61 := hk60.size
        have hB62 := hB23.lo hk60
        refine W.ret ?_
        refine ret1 rfl (v := .bool _) rfl ?_
        exact ⟨eR (eB (by unfold spec_l32Step; rw [if_neg h24, if_neg h41, if_pos h50] <;> rfl)), hB62⟩
      · refine W.seq ?_
        refine W.regS (SR.q' (r_eq rfl rfl) <| SR.q' (r_as (v := .bool _) rfl) <| SR.nil ?_)
        refine W.cond_d rfl (fun h63 => ?_) (fun h63 => ?_)
        · refine W.seq ?_
          refine W.regJS (fun f' w' => At f' [(3, .pointer (pA g9)), (4, .bool (decide ((0 ≤ (idxF (hasId s.Id) x.Maps)) ∧ ((1 ≤ s.Reader ∧ s.Reader ≤ 999) ∧ (1 ≤ s.Value ∧ s.Value ≤ 999))))), (5, .bool (decide (0 ≤ (idxF (hasId s.Id) x.Maps))))] ∧ Lo w20 w') ?_ ?_
          · refine SR.q' (r_mv (v := .bool _) rfl) <| SR.q' (r_mv (v := .bool _) rfl) <| SR.splitD (fun h64 => ?_) (fun h64 => ?_)
            · refine SR.g' rfl (r_mv (v := .bool _) rfl) <| SR.q' (r_pick true rfl (v := .bool _) rfl) <| SR.q' (r_mv (v := .bool _) rfl) <| SR.splitD (fun h65 => ?_) (fun h65 => ?_)
              · refine SR.g' rfl (r_fa fa29_3 rfl) <| SR.g' rfl (r_ld (v := .int .i64 s.Value) sca3 rfl (((hb14).lo hk21).cell rfl)) <| SR.gcall rfl ent50 (c_spec_l1In w20 s.Value 1 999) rfl ?_
                rintro e w66 ⟨rfl, hk67⟩
                refine ⟨_, rfl, ?_⟩
                have hz68 := hk67.size
                have hB69 := hB23.lo hk67
                refine SR.q' (r_pick true rfl (v := .bool _) rfl) <| SR.q' (r_as (v := .bool _) rfl) <| SR.nil ?_
                exact ⟨_, rfl, ⟨⟨rfl, (eDD ((jat h65).trans (jat h64))), rfl, trivial⟩, (hk67)⟩⟩
              · refine SR.s' rfl <| SR.s' rfl <| SR.s' rfl <| SR.q' (r_pick false rfl (v := .bool false) rfl) <| SR.q' (r_as (v := .bool _) rfl) <| SR.nil ?_
                exact ⟨_, rfl, ⟨⟨rfl, (eDF ((jaf h65).trans (jat h64)).2), rfl, trivial⟩, (Lo.refl _)⟩⟩
            · refine SR.s' rfl <| SR.q' (r_pick false rfl (v := .bool false) rfl) <| SR.q' (r_mv (v := .bool _) rfl) <| SR.s' rfl <| SR.s' rfl <| SR.s' rfl <| SR.q' (r_pick false rfl (v := .bool false) rfl) <| SR.q' (r_as (v := .bool _) rfl) <| SR.nil ?_
              exact ⟨_, rfl, ⟨⟨rfl, (eDF (jaf h64).2), rfl, trivial⟩, (Lo.refl _)⟩⟩
          rintro f70 w71 ⟨hat72, hk73⟩
          rw [← sets_of_at hat72]
          have hz74 := hk73.size
          have hB75 := hB23.lo hk73
          refine W.ret ?_
          refine ret1 rfl (v := .bool _) rfl ?_
          exact ⟨eR (eB (by unfold spec_l32Step; rw [if_neg h24, if_neg h41, if_neg h50, if_pos h63] <;> rfl)), hB75⟩
        · refine W.skip ?_
          refine W.seq ?_
          refine W.regJS (fun f' w' => At f' [(4, .bool (decide (((s.Kind = 4) ∧ ((0 ≤ (idxF (hasId s.Id) x.Maps)) ∧ ((s.Reader = 0) ∧ (1 ≤ s.Value)))) ∨ ((¬ (s.Kind = 4)) ∧ (((s.Kind = 6) ∧ ((0 ≤ (idxF (hasId s.Id) x.Maps)) ∧ ((s.Reader = 0) ∧ (1 ≤ s.Value)))) ∨ ((¬ (s.Kind = 6)) ∧ ((s.Kind = 7) ∧ ((0 ≤ (idxF (hasId s.Id) x.Maps)) ∧ ((s.Reader = 0) ∧ (1 ≤ s.Value))))))))))] ∧ Lo w20 w') ?_ ?_
          · refine SR.q' (r_fa fa29_0 rfl) <| SR.q' (r_ld (v := .int .i64 s.Kind) sca3 rfl (((hb14).lo hk21).cell rfl)) <| SR.q' (r_eq rfl rfl) <| SR.q' (r_mv (v := .bool _) rfl) <| SR.splitD (fun h76 => ?_) (fun h76 => ?_)
            · refine SR.s' rfl <| SR.s' rfl <| SR.s' rfl <| SR.q' (r_pick true rfl (v := .bool true) rfl) <| SR.q' (r_mv (v := .bool _) rfl) <| SR.s' rfl <| SR.s' rfl <| SR.s' rfl <| SR.q' (r_pick true rfl (v := .bool true) rfl) <| SR.q' (r_mv (v := .bool _) rfl) <| SR.g' rfl (r_mv (v := .bool _) rfl) <| SR.q' (r_pick true rfl (v := .bool _) rfl) <| SR.q' (r_mv (v := .bool _) rfl) <| SR.splitD (fun h77 => ?_) (fun h77 => ?_)
              · refine SR.g' rfl (r_fa fa29_2 rfl) <| SR.g' rfl (r_ld (v := .int .i64 s.Reader) sca3 rfl (((hb14).lo hk21).cell rfl)) <| SR.g' rfl (r_eq rfl rfl) <| SR.q' (r_pick true rfl (v := .bool _) rfl) <| SR.q' (r_mv (v := .bool _) rfl) <| SR.splitD (fun h78 => ?_) (fun h78 => ?_)
                · refine SR.g' rfl (r_fa fa29_3 rfl) <| SR.g' rfl (r_ld (v := .int .i64 s.Value) sca3 rfl (((hb14).lo hk21).cell rfl)) <| SR.g' rfl (r_ge rfl rfl) <| SR.q' (r_pick true rfl (v := .bool _) rfl) <| SR.q' (r_as (v := .bool _) rfl) <| SR.nil ?_
                  exact ⟨_, rfl, ⟨⟨(eDD (((jat h78).trans (jat h77)).trans (jgt h76))), trivial⟩, (Lo.refl _)⟩⟩
                · refine SR.s' rfl <| SR.s' rfl <| SR.s' rfl <| SR.q' (r_pick false rfl (v := .bool false) rfl) <| SR.q' (r_as (v := .bool _) rfl) <| SR.nil ?_
                  exact ⟨_, rfl, ⟨⟨(eDF (((jaf h78).trans (jat h77)).trans (jgt h76)).2), trivial⟩, (Lo.refl _)⟩⟩
              · refine SR.s' rfl <| SR.s' rfl <| SR.s' rfl <| SR.q' (r_pick false rfl (v := .bool false) rfl) <| SR.q' (r_mv (v := .bool _) rfl) <| SR.s' rfl <| SR.s' rfl <| SR.s' rfl <| SR.q' (r_pick false rfl (v := .bool false) rfl) <| SR.q' (r_as (v := .bool _) rfl) <| SR.nil ?_
                exact ⟨_, rfl, ⟨⟨(eDF ((jaf h77).trans (jgt h76)).2), trivial⟩, (Lo.refl _)⟩⟩
            · refine SR.g' rfl (r_fa fa29_0 rfl) <| SR.g' rfl (r_ld (v := .int .i64 s.Kind) sca3 rfl (((hb14).lo hk21).cell rfl)) <| SR.g' rfl (r_eq rfl rfl) <| SR.q' (r_pick false rfl (v := .bool _) rfl) <| SR.q' (r_mv (v := .bool _) rfl) <| SR.splitD (fun h79 => ?_) (fun h79 => ?_)
              · refine SR.s' rfl <| SR.s' rfl <| SR.s' rfl <| SR.q' (r_pick true rfl (v := .bool true) rfl) <| SR.q' (r_mv (v := .bool _) rfl) <| SR.g' rfl (r_mv (v := .bool _) rfl) <| SR.q' (r_pick true rfl (v := .bool _) rfl) <| SR.q' (r_mv (v := .bool _) rfl) <| SR.splitD (fun h80 => ?_) (fun h80 => ?_)
                · refine SR.g' rfl (r_fa fa29_2 rfl) <| SR.g' rfl (r_ld (v := .int .i64 s.Reader) sca3 rfl (((hb14).lo hk21).cell rfl)) <| SR.g' rfl (r_eq rfl rfl) <| SR.q' (r_pick true rfl (v := .bool _) rfl) <| SR.q' (r_mv (v := .bool _) rfl) <| SR.splitD (fun h81 => ?_) (fun h81 => ?_)
                  · refine SR.g' rfl (r_fa fa29_3 rfl) <| SR.g' rfl (r_ld (v := .int .i64 s.Value) sca3 rfl (((hb14).lo hk21).cell rfl)) <| SR.g' rfl (r_ge rfl rfl) <| SR.q' (r_pick true rfl (v := .bool _) rfl) <| SR.q' (r_as (v := .bool _) rfl) <| SR.nil ?_
                    exact ⟨_, rfl, ⟨⟨(eDD ((((jat h81).trans (jat h80)).trans (jgt h79)).trans (jgf h76))), trivial⟩, (Lo.refl _)⟩⟩
                  · refine SR.s' rfl <| SR.s' rfl <| SR.s' rfl <| SR.q' (r_pick false rfl (v := .bool false) rfl) <| SR.q' (r_as (v := .bool _) rfl) <| SR.nil ?_
                    exact ⟨_, rfl, ⟨⟨(eDF ((((jaf h81).trans (jat h80)).trans (jgt h79)).trans (jgf h76)).2), trivial⟩, (Lo.refl _)⟩⟩
                · refine SR.s' rfl <| SR.s' rfl <| SR.s' rfl <| SR.q' (r_pick false rfl (v := .bool false) rfl) <| SR.q' (r_mv (v := .bool _) rfl) <| SR.s' rfl <| SR.s' rfl <| SR.s' rfl <| SR.q' (r_pick false rfl (v := .bool false) rfl) <| SR.q' (r_as (v := .bool _) rfl) <| SR.nil ?_
                  exact ⟨_, rfl, ⟨⟨(eDF (((jaf h80).trans (jgt h79)).trans (jgf h76)).2), trivial⟩, (Lo.refl _)⟩⟩
              · refine SR.g' rfl (r_fa fa29_0 rfl) <| SR.g' rfl (r_ld (v := .int .i64 s.Kind) sca3 rfl (((hb14).lo hk21).cell rfl)) <| SR.g' rfl (r_eq rfl rfl) <| SR.q' (r_pick false rfl (v := .bool _) rfl) <| SR.q' (r_mv (v := .bool _) rfl) <| SR.splitD (fun h82 => ?_) (fun h82 => ?_)
                · refine SR.g' rfl (r_mv (v := .bool _) rfl) <| SR.q' (r_pick true rfl (v := .bool _) rfl) <| SR.q' (r_mv (v := .bool _) rfl) <| SR.splitD (fun h83 => ?_) (fun h83 => ?_)
                  · refine SR.g' rfl (r_fa fa29_2 rfl) <| SR.g' rfl (r_ld (v := .int .i64 s.Reader) sca3 rfl (((hb14).lo hk21).cell rfl)) <| SR.g' rfl (r_eq rfl rfl) <| SR.q' (r_pick true rfl (v := .bool _) rfl) <| SR.q' (r_mv (v := .bool _) rfl) <| SR.splitD (fun h84 => ?_) (fun h84 => ?_)
                    · refine SR.g' rfl (r_fa fa29_3 rfl) <| SR.g' rfl (r_ld (v := .int .i64 s.Value) sca3 rfl (((hb14).lo hk21).cell rfl)) <| SR.g' rfl (r_ge rfl rfl) <| SR.q' (r_pick true rfl (v := .bool _) rfl) <| SR.q' (r_as (v := .bool _) rfl) <| SR.nil ?_
                      exact ⟨_, rfl, ⟨⟨(eDD (((((jat h84).trans (jat h83)).trans (jat h82)).trans (jgf h79)).trans (jgf h76))), trivial⟩, (Lo.refl _)⟩⟩
                    · refine SR.s' rfl <| SR.s' rfl <| SR.s' rfl <| SR.q' (r_pick false rfl (v := .bool false) rfl) <| SR.q' (r_as (v := .bool _) rfl) <| SR.nil ?_
                      exact ⟨_, rfl, ⟨⟨(eDF (((((jaf h84).trans (jat h83)).trans (jat h82)).trans (jgf h79)).trans (jgf h76)).2), trivial⟩, (Lo.refl _)⟩⟩
                  · refine SR.s' rfl <| SR.s' rfl <| SR.s' rfl <| SR.q' (r_pick false rfl (v := .bool false) rfl) <| SR.q' (r_mv (v := .bool _) rfl) <| SR.s' rfl <| SR.s' rfl <| SR.s' rfl <| SR.q' (r_pick false rfl (v := .bool false) rfl) <| SR.q' (r_as (v := .bool _) rfl) <| SR.nil ?_
                    exact ⟨_, rfl, ⟨⟨(eDF ((((jaf h83).trans (jat h82)).trans (jgf h79)).trans (jgf h76)).2), trivial⟩, (Lo.refl _)⟩⟩
                · refine SR.s' rfl <| SR.q' (r_pick false rfl (v := .bool false) rfl) <| SR.q' (r_mv (v := .bool _) rfl) <| SR.s' rfl <| SR.s' rfl <| SR.s' rfl <| SR.q' (r_pick false rfl (v := .bool false) rfl) <| SR.q' (r_mv (v := .bool _) rfl) <| SR.s' rfl <| SR.s' rfl <| SR.s' rfl <| SR.q' (r_pick false rfl (v := .bool false) rfl) <| SR.q' (r_as (v := .bool _) rfl) <| SR.nil ?_
                  exact ⟨_, rfl, ⟨⟨(eDF (((jaf h82).trans (jgf h79)).trans (jgf h76)).2), trivial⟩, (Lo.refl _)⟩⟩
          rintro f85 w86 ⟨hat87, hk88⟩
          rw [← sets_of_at hat87]
          have hz89 := hk88.size
          have hB90 := hB23.lo hk88
          refine W.ret ?_
          refine ret1 rfl (v := .bool _) rfl ?_
          exact ⟨eR (eB (by unfold spec_l32Step; rw [if_neg h24, if_neg h41, if_neg h50, if_neg h63] <;> rfl)), hB90⟩
end Go.Proofs.Ytgobbcilgcbkaaa
