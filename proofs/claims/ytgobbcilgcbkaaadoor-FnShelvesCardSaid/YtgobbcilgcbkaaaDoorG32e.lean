/- Walks, printed by a program of this claim's author. -/
import Derived.Test.YtgobbcilgcbkaaaDoorChecked
import Derived.Test.YtgobbcilgcbkaaaDoorUa
import Derived.Test.YtgobbcilgcbkaaaDoorFu
import Derived.Test.YtgobbcilgcbkaaaDoorFs
import Derived.Test.YtgobbcilgcbkaaaDoorFq
import Derived.Test.YtgobbcilgcbkaaaDoorFo
import Derived.Test.YtgobbcilgcbkaaaDoorDa
import Derived.Test.YtgobbcilgcbkaaaDoorG32c
namespace Go.Proofs.YtgobbcilgcbkaaaDoor
open Go Go.RowKit Fw
set_option maxRecDepth 10000
set_option maxHeartbeats 2000000
set_option linter.unusedVariables false
theorem ent28 : Ent Tryd.prog 28 := ent_of Tryd.func28 (by decide +kernel) rfl
theorem ent29 : Ent Tryd.prog 29 := ent_of Tryd.func29 (by decide +kernel) rfl
theorem ent30 : Ent Tryd.prog 30 := ent_of Tryd.func30 (by decide +kernel) rfl
theorem ent32 : Ent Tryd.prog 32 := ent_of Tryd.func32 (by decide +kernel) rfl

theorem c_impl_CopiesThere (w : World) (x : Library) {Ax_Maps : Option Addr} {nx_Maps cx_Maps Bx_Maps : Nat} (hx_Maps : SlR w Bx_Maps encLMap 3 Ax_Maps nx_Maps cx_Maps x.Maps) {Ax_Away : Option Addr} {nx_Away cx_Away Bx_Away : Nat} (hx_Away : SlR w Bx_Away encAway 2 Ax_Away nx_Away cx_Away x.Away) (hp0 : (nx_Maps : Int) ≤ 1048576) : Calls Tryd.prog 14 #[.agg (List.toArray [.slice Ax_Maps nx_Maps cx_Maps, .slice Ax_Away nx_Away cx_Away, .int .i64 x.Bought, .int .i64 x.Dropped, .int .i64 x.Mended])] w fun e w' => e = .returned (.tuple (List.toArray [.int .i64 (if LibOK x then sumC x.Maps else 0), .bool (decide (LibOK x))])) ∧ Lo w w' := by
  refine calls_W 9 Tryd.func14 rfl rfl rfl ?_
  have hbdx_Maps := hx_Maps.bound
  have hlex_Maps := hx_Maps.len
  have hBbx_Maps := hx_Maps.bd
  have hbdx_Away := hx_Away.bound
  have hlex_Away := hx_Away.len
  have hBbx_Away := hx_Away.bd
  refine W.seq ?_
  refine W.regS (SR.box (v := .agg (List.toArray _)) (l := [.slice Ax_Maps nx_Maps cx_Maps, .slice Ax_Away nx_Away cx_Away, .int .i64 x.Bought, .int .i64 x.Dropped, .int .i64 x.Mended]) rfl rfl ?_)
  intro g1 w2 hg3 hk4 hs5 hb6
  have hz7 := hk4.size
  have hB8 := (Lo.refl w).lo hk4
  refine SR.q' (r_as (v := .int .i64 0) rfl) <| SR.q' (r_as (v := .bool false) rfl) <| SR.nil ?_
  refine W.seq ?_
  refine W.seq ?_
  refine W.regS (SR.q' (r_lda (l := [.slice Ax_Maps nx_Maps cx_Maps, .slice Ax_Away nx_Away cx_Away, .int .i64 x.Bought, .int .i64 x.Dropped, .int .i64 x.Mended]) agg27 rfl (fun _ _ hu => (hb6).cell hu) rfl) <| SR.call ent28 (c_impl_IsLibrary w2 x (((hx_Maps).lo hk4)) (((hx_Away).lo hk4)) (by omega)) rfl ?_)
  rintro e w9 ⟨rfl, hk10⟩
  refine ⟨_, rfl, ?_⟩
  have hz11 := hk10.size
  have hB12 := hB8.lo hk10
  refine SR.q' (r_not rfl) <| SR.nil ?_
  refine W.cond_n rfl (fun h13 => ?_) (fun h13 => ?_)
  · refine W.seq ?_
    refine W.regS (SR.q' (r_as (v := .int .i64 0) rfl) <| SR.q' (r_as (v := .bool false) rfl) <| SR.nil ?_)
    refine W.ret ?_
    refine ret2 rfl (v := .int .i64 _) (v' := .bool _) rfl rfl ?_
    exact ⟨eR (eT2 (eI (by first | assumption | simp [*])) (eDF h13)), hB12⟩
  · have hq16 := And.left h13
    have hq17 := lib_len h13
    have hq18 := And.left hq16
    have hq19 := And.right hq16
    refine W.skip ?_
    refine W.seq ?_
    have hm20 := ((hx_Maps).lo hk4).lo hk10
    have hm21 := ((hx_Away).lo hk4).lo hk10
    refine W.regS (SR.q' (r_lda (l := [.slice Ax_Maps nx_Maps cx_Maps, .slice Ax_Away nx_Away cx_Away, .int .i64 x.Bought, .int .i64 x.Dropped, .int .i64 x.Mended]) agg27 rfl (fun _ _ hu => ((hb6).lo hk10).cell hu) rfl) <| SR.call ent36 (c__impl_Library__copies w9 x ((hm20)) ((hm21)) (by first | assumption | exact MTo.end_ (And.right ‹_ ∧ MTo _ _›) (by omega)) (by omega)) rfl ?_)
    rintro e w22 ⟨rfl, hk23⟩
    refine ⟨_, rfl, ?_⟩
    have hz24 := hk23.size
    have hB25 := hB12.lo hk23
    have hq26 : 0 ≤ sumC x.Maps ∧ sumC x.Maps ≤ 792 := sumC_rng (by first | assumption | exact MTo.end_ (And.right ‹_ ∧ MTo _ _›) (by omega)) (by omega)
    refine SR.q' (r_as (v := .int .i64 _) rfl) <| SR.q' (r_as (v := .bool true) rfl) <| SR.nil ?_
    refine W.ret ?_
    refine ret2 rfl (v := .int .i64 _) (v' := .bool _) rfl rfl ?_
    exact ⟨eR (eT2 (eI (by first | assumption | simp [*])) (eDT h13)), hB25⟩

theorem c_spec_CopiesThere (w : World) (x : Library) {Ax_Maps : Option Addr} {nx_Maps cx_Maps Bx_Maps : Nat} (hx_Maps : SlR w Bx_Maps encLMap 3 Ax_Maps nx_Maps cx_Maps x.Maps) {Ax_Away : Option Addr} {nx_Away cx_Away Bx_Away : Nat} (hx_Away : SlR w Bx_Away encAway 2 Ax_Away nx_Away cx_Away x.Away) (hp0 : (nx_Maps : Int) ≤ 1048576) : Calls Tryd.prog 15 #[.agg (List.toArray [.slice Ax_Maps nx_Maps cx_Maps, .slice Ax_Away nx_Away cx_Away, .int .i64 x.Bought, .int .i64 x.Dropped, .int .i64 x.Mended])] w fun e w' => e = .returned (.tuple (List.toArray [.int .i64 (if LibOK x then sumC x.Maps else 0), .bool (decide (LibOK x))])) ∧ Lo w w' := by
  refine calls_W 9 Tryd.func15 rfl rfl rfl ?_
  have hbdx_Maps := hx_Maps.bound
  have hlex_Maps := hx_Maps.len
  have hBbx_Maps := hx_Maps.bd
  have hbdx_Away := hx_Away.bound
  have hlex_Away := hx_Away.len
  have hBbx_Away := hx_Away.bd
  refine W.seq ?_
  refine W.regS (SR.box (v := .agg (List.toArray _)) (l := [.slice Ax_Maps nx_Maps cx_Maps, .slice Ax_Away nx_Away cx_Away, .int .i64 x.Bought, .int .i64 x.Dropped, .int .i64 x.Mended]) rfl rfl ?_)
  intro g1 w2 hg3 hk4 hs5 hb6
  have hz7 := hk4.size
  have hB8 := (Lo.refl w).lo hk4
  refine SR.q' (r_as (v := .int .i64 0) rfl) <| SR.q' (r_as (v := .bool false) rfl) <| SR.nil ?_
  refine W.seq ?_
  refine W.seq ?_
  refine W.regS (SR.q' (r_lda (l := [.slice Ax_Maps nx_Maps cx_Maps, .slice Ax_Away nx_Away cx_Away, .int .i64 x.Bought, .int .i64 x.Dropped, .int .i64 x.Mended]) agg27 rfl (fun _ _ hu => (hb6).cell hu) rfl) <| SR.call ent30 (c_spec_l32Good w2 x (((hx_Maps).lo hk4)) (((hx_Away).lo hk4))) rfl ?_)
  rintro e w9 ⟨rfl, hk10⟩
  refine ⟨_, rfl, ?_⟩
  have hz11 := hk10.size
  have hB12 := hB8.lo hk10
  refine SR.q' (r_not rfl) <| SR.nil ?_
  refine W.cond_n rfl (fun h13 => ?_) (fun h13 => ?_)
  · refine W.seq ?_
    refine W.regS (SR.q' (r_as (v := .int .i64 0) rfl) <| SR.q' (r_as (v := .bool false) rfl) <| SR.nil ?_)
    refine W.ret ?_
    refine ret2 rfl (v := .int .i64 _) (v' := .bool _) rfl rfl ?_
    exact ⟨eR (eT2 (eI (by first | assumption | simp [*])) (eDF h13)), hB12⟩
  · have hq16 := And.left h13
    have hq17 := lib_len h13
    have hq18 := And.left hq16
    have hq19 := And.right hq16
    refine W.skip ?_
    refine W.seq ?_
    have hm20 := ((hx_Maps).lo hk4).lo hk10
    have hm21 := ((hx_Away).lo hk4).lo hk10
    refine W.regS (SR.q' (r_lda (l := [.slice Ax_Maps nx_Maps cx_Maps, .slice Ax_Away nx_Away cx_Away, .int .i64 x.Bought, .int .i64 x.Dropped, .int .i64 x.Mended]) agg27 rfl (fun _ _ hu => ((hb6).lo hk10).cell hu) rfl) <| SR.call ent35 (c_spec_l32There w9 x ((hm20)) ((hm21)) false (by first | assumption | exact MTo.end_ (And.right ‹_ ∧ MTo _ _›) (by omega)) (by omega)) rfl ?_)
    rintro e w22 ⟨rfl, hk23⟩
    refine ⟨_, rfl, ?_⟩
    have hz24 := hk23.size
    have hB25 := hB12.lo hk23
    have hq26 : 0 ≤ (if false = true then sumT x.Maps else sumC x.Maps) ∧ (if false = true then sumT x.Maps else sumC x.Maps) ≤ 792 := there_rng false ‹MapsOK _› (by omega)
    refine SR.q' (r_as (v := .int .i64 _) rfl) <| SR.q' (r_as (v := .bool true) rfl) <| SR.nil ?_
    refine W.ret ?_
    refine ret2 rfl (v := .int .i64 _) (v' := .bool _) rfl rfl ?_
    exact ⟨eR (eT2 (eI (by first | assumption | simp [*])) (eDT h13)), hB25⟩

theorem c_impl_MapsAt (w : World) (x : Library) {Ax_Maps : Option Addr} {nx_Maps cx_Maps Bx_Maps : Nat} (hx_Maps : SlR w Bx_Maps encLMap 3 Ax_Maps nx_Maps cx_Maps x.Maps) {Ax_Away : Option Addr} {nx_Away cx_Away Bx_Away : Nat} (hx_Away : SlR w Bx_Away encAway 2 Ax_Away nx_Away cx_Away x.Away) (r : Int) (hp0 : (nx_Maps : Int) ≤ 1048576) : Calls Tryd.prog 9 #[.agg (List.toArray [.slice Ax_Maps nx_Maps cx_Maps, .slice Ax_Away nx_Away cx_Away, .int .i64 x.Bought, .int .i64 x.Dropped, .int .i64 x.Mended]), .int .i64 r] w fun e w' => ∃ (A1' : Option Addr) (n1' c1' : Nat), e = .returned (.tuple (List.toArray [.slice A1' n1' c1', .bool (decide (LibOK x ∧ (1 ≤ r ∧ r ≤ 999)))])) ∧ SlO w' w.heap.size encI 1 3 A1' n1' c1' (if LibOK x ∧ (1 ≤ r ∧ r ≤ 999) then selL (atR r) Away.Map x.Away else []) ∧ Lo w w' := by
  refine calls_W 35 Tryd.func9 rfl rfl rfl ?_
  have hbdx_Maps := hx_Maps.bound
  have hlex_Maps := hx_Maps.len
  have hBbx_Maps := hx_Maps.bd
  have hbdx_Away := hx_Away.bound
  have hlex_Away := hx_Away.len
  have hBbx_Away := hx_Away.bd
  refine W.seq ?_
  refine W.regS (SR.box (v := .agg (List.toArray _)) (l := [.slice Ax_Maps nx_Maps cx_Maps, .slice Ax_Away nx_Away cx_Away, .int .i64 x.Bought, .int .i64 x.Dropped, .int .i64 x.Mended]) rfl rfl ?_)
  intro g1 w2 hg3 hk4 hs5 hb6
  have hz7 := hk4.size
  have hB8 := (Lo.refl w).lo hk4
  refine SR.q' (r_as (v := .slice none 0 0) rfl) <| SR.q' (r_as (v := .bool false) rfl) <| SR.nil ?_
  refine W.seq ?_
  refine W.seq ?_
  refine W.regJS (fun f' w' => At f' [(1, .int .i64 r), (2, .pointer (pA g1)), (4, .slice none 0 0), (5, .bool false), (16, .bool (decide ((¬ (LibOK x)) ∨ (¬ (1 ≤ r ∧ r ≤ 999)))))] ∧ Lo w2 w') ?_ ?_
  · refine SR.q' (r_lda (l := [.slice Ax_Maps nx_Maps cx_Maps, .slice Ax_Away nx_Away cx_Away, .int .i64 x.Bought, .int .i64 x.Dropped, .int .i64 x.Mended]) agg27 rfl (fun _ _ hu => (hb6).cell hu) rfl) <| SR.call ent28 (c_impl_IsLibrary w2 x (((hx_Maps).lo hk4)) (((hx_Away).lo hk4)) (by omega)) rfl ?_
    rintro e w9 ⟨rfl, hk10⟩
    refine ⟨_, rfl, ?_⟩
    have hz11 := hk10.size
    have hB12 := hB8.lo hk10
    refine SR.q' (r_not rfl) <| SR.q' (r_mv (v := .bool _) rfl) <| SR.splitN (fun h13 => ?_) (fun h13 => ?_)
    · refine SR.s' rfl <| SR.s' rfl <| SR.s' rfl <| SR.q' (r_pick true rfl (v := .bool true) rfl) <| SR.nil ?_
      exact ⟨_, rfl, ⟨⟨rfl, rfl, rfl, rfl, (eDT ((jmf h13).1 trivial)), trivial⟩, (hk10)⟩⟩
    · have hq14 := And.left h13
      have hq15 := lib_len h13
      have hq16 := And.left hq14
      have hq17 := And.right hq14
      refine SR.g' rfl (r_mv (v := .int .i64 _) rfl) <| SR.gcall rfl ent33 (c_impl_isId w9 r) rfl ?_
      rintro e w18 ⟨rfl, hk19⟩
      refine ⟨_, rfl, ?_⟩
      have hz20 := hk19.size
      have hB21 := hB12.lo hk19
      refine SR.g' rfl (r_not rfl) <| SR.q' (r_pick false rfl (v := .bool _) rfl) <| SR.nil ?_
      exact ⟨_, rfl, ⟨⟨rfl, rfl, rfl, rfl, (eND (jmt h13)), trivial⟩, ((hk10).trans hk19)⟩⟩
  rintro f22 w23 ⟨hat24, hk25⟩
  rw [← sets_of_at hat24]
  have hz26 := hk25.size
  have hB27 := hB8.lo hk25
  refine W.cond_d rfl (fun h28 => ?_) (fun h28 => ?_)
  · refine W.seq ?_
    refine W.regS (SR.q' (r_as (v := .slice none 0 0) rfl) <| SR.q' (r_as (v := .bool false) rfl) <| SR.nil ?_)
    refine W.ret ?_
    refine ret2 rfl (v := .slice none 0 0) (v' := .bool _) rfl rfl ?_
    exact ⟨none, 0, 0, eR (eT2 rfl (eDF (by first | assumption | exact ⟨‹_›, ‹_›⟩ | exact not_and_of_not_or_not ‹_›))), (SlO.eqv (SlO.nil (e := 3) (enc := encI) (fun _ => rfl) (by omega)) (by first | (rw [if_pos (by first | assumption | exact ⟨‹_›, ‹_›⟩)]; exact sel_end (by omega)) | (rw [if_neg (by first | assumption | exact not_and_of_not_or_not ‹_›)]))), hB27⟩
  · have hq31 : LibOK x := (Classical.not_not.1 (not_or.1 h28).1)
    have hq32 : 1 ≤ r ∧ r ≤ 999 := (Classical.not_not.1 (not_or.1 h28).2)
    have hq33 := And.left hq31
    have hq34 := lib_len hq31
    have hq35 := And.left hq33
    have hq36 := And.right hq33
    refine W.skip ?_
    refine W.seq ?_
    have hm38 := ((hx_Away).lo hk4).lo hk25
    refine W.regS (SR.q' (r_as (v := .slice none 0 0) rfl) <| SR.nil ?_)
    refine W.seq ?_
    refine W.seq ?_
    refine W.regS (SR.q' (r_fa fa27_1 rfl) <| SR.q' (r_ld (v := .slice Ax_Away nx_Away cx_Away) sca25 rfl (((hb6).lo hk25).cell rfl)) <| SR.q' (r_len und25 rfl) <| SR.q' (r_mv (v := .int .i64 0) rfl) <| SR.nil ?_)
    refine W.block ?_
    refine W.loop (σ := Nat × (Option Addr) × Nat × Nat) (fun g => [(1, .int .i64 r), (4, .slice none 0 0), (5, .bool false), (6, .slice g.2.1 g.2.2.1 g.2.2.2), (18, .slice Ax_Away nx_Away cx_Away), (19, .int .i64 (nx_Away : Int)), (20, .int .i64 (g.1 : Int))]) (fun g w' => (Lo w w') ∧ (SlR w' Bx_Away encAway 2 Ax_Away nx_Away cx_Away x.Away) ∧ (SlO w' w.heap.size encI 1 3 g.2.1 g.2.2.1 g.2.2.2 (selL (atR r) Away.Map (x.Away.take g.1))) ∧ (g.1 ≤ nx_Away)) (fun g => nx_Away - g.1) (0, (none : Option Addr), 0, 0) ?_ ?_ ?_
    · exact ⟨rfl, rfl, rfl, rfl, rfl, rfl, rfl, trivial⟩
    · exact ⟨hB27, hm38, (SlO.eqv (SlO.nil (base := w.heap.size) (e := 3) (enc := encI) (fun _ => rfl) (by omega)) (by rfl)), (by omega)⟩
    · rintro ⟨k, A39, n39, c39⟩ f40 w41 hP43
      obtain ⟨hB42, hm44, hO45, hi46⟩ : (Lo w w41) ∧ (SlR w41 Bx_Away encAway 2 Ax_Away nx_Away cx_Away x.Away) ∧ (SlO w41 w.heap.size encI 1 3 A39 n39 c39 (selL (atR r) Away.Map (x.Away.take k))) ∧ (k ≤ nx_Away) := hP43
      refine (?_ : W _ _ _ _ _ (act _ (sets f40 [(1, .int .i64 r), (4, .slice none 0 0), (5, .bool false), (6, .slice A39 n39 c39), (18, .slice Ax_Away nx_Away cx_Away), (19, .int .i64 (nx_Away : Int)), (20, .int .i64 (k : Int))])) _)
      have hzw41 := hB42.size
      have hl47 := hO45.len
      have hl48 := hO45.rd.bound
      have hq49 := sel_lenT x.Away k (atR r) Away.Map
      refine W.seq ?_
      refine W.regS (SR.q' (r_lt rfl rfl) <| SR.nil ?_)
      refine W.seq ?_
      refine W.cond_d rfl (fun h50 => ?_) (fun h50 => ?_)
      · refine W.skip ?_
        refine W.seq ?_
        refine W.block ?_
        refine W.seq ?_
        have hx52 := (hm44).elem (i := k) (by omega)
        refine W.regS (SR.q' (r_ixR tsl25 (hm44) rfl rfl (by omega)) <| SR.q' (r_lda (l := encAway (gt x.Away k)) agg57 rfl (fun _ _ hu => (hm44).cell hx52 hu) ((hm44).esz _)) <| SR.alloc (l := [.int .i64 0, .int .i64 0]) tz57 rfl ?_)
        intro g53 w54 hg55 hk56 hs57 hb58
        have hz59 := hk56.size
        have hB60 := hB42.lo hk56
        have hd61 : ¬ A39 = some ⟨g53, 0, none⟩ := fun e' => by have := (hO45).base_le e'; omega
        refine SR.store (o := 0) (vs := [.int .i64 ((gt x.Away k).Map), .int .i64 ((gt x.Away k).Reader)]) agg57.2 rfl rfl rfl rfl (hb58) (Nat.le_of_ble_eq_true rfl) rfl ?_
        intro w62 hk63 hs64 hb65
        have hz66 := hk63.size
        have hB67 := hB60.new hk63 (by omega)
        refine SR.nil ?_
        refine W.seq ?_
        have hm68 := ((hO45).lo hk56).kd hk63 hd61
        have hm69 := ((hm44).lo hk56).kn hk63 (by omega)
        refine W.regS (SR.q' (r_fa fa57_1 rfl) <| SR.q' (r_ld (v := .int .i64 ((gt x.Away k).Reader)) sca3 rfl ((hb65).cell rfl)) <| SR.q' (r_mv (v := .int .i64 _) rfl) <| SR.q' (r_eq rfl rfl) <| SR.nil ?_)
        refine W.cond_d rfl (fun h70 => ?_) (fun h70 => ?_)
        · refine W.regS (SR.q' (r_mv (v := .slice _ _ _) rfl) <| SR.q' (r_fa fa57_0 rfl) <| SR.q' (r_ld (v := .int .i64 ((gt x.Away k).Map)) sca3 rfl ((hb65).cell rfl)) <| SR.lit (vs := [.int .i64 ((gt x.Away k).Map)]) (L := ([(gt x.Away k).Map] : List Int)) (enc := encI) tel30 (fun _ => rfl) rfl rfl rfl (by decide) ?_)
          intro g71 w72 hg73 hk74 hO75
          have hz76 := hk74.size
          have hB77 := hB67.lo hk74
          refine SR.app tel30 rfl rfl ((hm68).lo hk74) ((hO75).rd) (fun _ => rfl) (by omega) (by omega) ?_
          intro A79 c80 w81 hk82 hO83 hN84
          have hz85 := hk82.size
          have hB86 := hB77.step hk82 (fun i_ hi_ e' => by have := (((hm68).lo hk74)).base_le e'; first | omega | (exfalso; omega) | exact e' | exact .inl e' | exact .inr e')
          refine SR.q' (r_as (v := .slice _ _ _) rfl) <| SR.nil ?_
          have hm89 := ((hm69).lo hk74).kp hk82 (fun b_ hb e' => by have := (((hm68).lo hk74)).base_le e'; omega)
          refine W.regS (SR.q' (r_add rfl rfl (by omega)) <| SR.q' (r_mv (v := .int .i64 _) rfl) <| SR.nil ?_)
          refine ⟨(k + 1, A79, n39 + 1, c80), _, rfl, ⟨rfl, rfl, rfl, rfl, rfl, rfl, rfl, trivial⟩, ⟨hB86, hm89, (SlO.eqv (hO83) (by first | exact sel_yes (by omega) (decide_eq_true ‹_›) | exact sel_no (by omega) (decide_eq_false ‹_›))), ?_⟩, ?_⟩
          · exact (by omega)
          · exact (by omega)
        · refine W.skip ?_
          refine W.regS (SR.q' (r_add rfl rfl (by omega)) <| SR.q' (r_mv (v := .int .i64 _) rfl) <| SR.nil ?_)
          refine ⟨(k + 1, A39, n39, c39), _, rfl, ⟨rfl, rfl, rfl, rfl, rfl, rfl, rfl, trivial⟩, ⟨hB67, hm69, (SlO.eqv (hm68) (by first | exact sel_yes (by omega) (decide_eq_true ‹_›) | exact sel_no (by omega) (decide_eq_false ‹_›))), ?_⟩, ?_⟩
          · exact (by omega)
          · exact (by omega)
      · refine W.exit (xin_here ?_)
        refine W.seq ?_
        refine W.regS (SR.q' (r_mv (v := .slice _ _ _) rfl) <| SR.q' (r_as (v := .slice _ _ _) rfl) <| SR.q' (r_as (v := .bool true) rfl) <| SR.nil ?_)
        refine W.ret ?_
        refine ret2 rfl (v := .slice _ _ _) (v' := .bool _) rfl rfl ?_
        exact ⟨A39, n39, c39, eR (eT2 rfl (eDT (by first | assumption | exact ⟨‹_›, ‹_›⟩ | exact not_and_of_not_or_not ‹_›))), (SlO.eqv ((hO45).down (by omega)) (by first | (rw [if_pos (by first | assumption | exact ⟨‹_›, ‹_›⟩)]; exact sel_end (by omega)) | (rw [if_neg (by first | assumption | exact not_and_of_not_or_not ‹_›)]))), hB42⟩

theorem c_spec_MapsAt (w : World) (x : Library) {Ax_Maps : Option Addr} {nx_Maps cx_Maps Bx_Maps : Nat} (hx_Maps : SlR w Bx_Maps encLMap 3 Ax_Maps nx_Maps cx_Maps x.Maps) {Ax_Away : Option Addr} {nx_Away cx_Away Bx_Away : Nat} (hx_Away : SlR w Bx_Away encAway 2 Ax_Away nx_Away cx_Away x.Away) (r : Int) (hp0 : (nx_Maps : Int) ≤ 1048576) : Calls Tryd.prog 19 #[.agg (List.toArray [.slice Ax_Maps nx_Maps cx_Maps, .slice Ax_Away nx_Away cx_Away, .int .i64 x.Bought, .int .i64 x.Dropped, .int .i64 x.Mended]), .int .i64 r] w fun e w' => ∃ (A1' : Option Addr) (n1' c1' : Nat), e = .returned (.tuple (List.toArray [.slice A1' n1' c1', .bool (decide (LibOK x ∧ (1 ≤ r ∧ r ≤ 999)))])) ∧ SlO w' w.heap.size encI 1 3 A1' n1' c1' (if LibOK x ∧ (1 ≤ r ∧ r ≤ 999) then selL (atR r) Away.Map x.Away else []) ∧ Lo w w' := by
  refine calls_W 43 Tryd.func19 rfl rfl rfl ?_
  have hbdx_Maps := hx_Maps.bound
  have hlex_Maps := hx_Maps.len
  have hBbx_Maps := hx_Maps.bd
  have hbdx_Away := hx_Away.bound
  have hlex_Away := hx_Away.len
  have hBbx_Away := hx_Away.bd
  refine W.seq ?_
  refine W.regS (SR.box (v := .agg (List.toArray _)) (l := [.slice Ax_Maps nx_Maps cx_Maps, .slice Ax_Away nx_Away cx_Away, .int .i64 x.Bought, .int .i64 x.Dropped, .int .i64 x.Mended]) rfl rfl ?_)
  intro g1 w2 hg3 hk4 hs5 hb6
  have hz7 := hk4.size
  have hB8 := (Lo.refl w).lo hk4
  refine SR.q' (r_as (v := .slice none 0 0) rfl) <| SR.q' (r_as (v := .bool false) rfl) <| SR.nil ?_
  refine W.seq ?_
  refine W.regS (SR.lit (vs := []) (L := ([] : List Int)) (enc := encI) tel30 (fun _ => rfl) rfl rfl rfl (by decide) ?_)
  intro g9 w10 hg11 hk12 hO13
  have hz14 := hk12.size
  have hB15 := hB8.lo hk12
  refine SR.q' (r_as (v := .slice _ _ _) rfl) <| SR.nil ?_
  refine W.seq ?_
  refine W.seq ?_
  have hm16 := ((hx_Maps).lo hk4).lo hk12
  have hm17 := ((hx_Away).lo hk4).lo hk12
  refine W.regJS (fun f' w' => At f' [(1, .int .i64 r), (2, .pointer (pA g1)), (4, .slice none 0 0), (5, .bool false), (6, .slice (pA g9) 0 0), (16, .bool (decide ((¬ (LibOK x)) ∨ (¬ (1 ≤ r ∧ r ≤ 999)))))] ∧ Lo w10 w') ?_ ?_
  · refine SR.q' (r_lda (l := [.slice Ax_Maps nx_Maps cx_Maps, .slice Ax_Away nx_Away cx_Away, .int .i64 x.Bought, .int .i64 x.Dropped, .int .i64 x.Mended]) agg27 rfl (fun _ _ hu => ((hb6).lo hk12).cell hu) rfl) <| SR.call ent30 (c_spec_l32Good w10 x ((hm16)) ((hm17))) rfl ?_
    rintro e w18 ⟨rfl, hk19⟩
    refine ⟨_, rfl, ?_⟩
    have hz20 := hk19.size
    have hB21 := hB15.lo hk19
    refine SR.q' (r_not rfl) <| SR.q' (r_mv (v := .bool _) rfl) <| SR.splitN (fun h22 => ?_) (fun h22 => ?_)
    · refine SR.s' rfl <| SR.s' rfl <| SR.s' rfl <| SR.q' (r_pick true rfl (v := .bool true) rfl) <| SR.nil ?_
      exact ⟨_, rfl, ⟨⟨rfl, rfl, rfl, rfl, rfl, (eDT ((jmf h22).1 trivial)), trivial⟩, (hk19)⟩⟩
    · have hq23 := And.left h22
      have hq24 := lib_len h22
      have hq25 := And.left hq23
      have hq26 := And.right hq23
      refine SR.g' rfl (r_mv (v := .int .i64 _) rfl) <| SR.gcall rfl ent37 (c_spec_l1In w18 r 1 999) rfl ?_
      rintro e w27 ⟨rfl, hk28⟩
      refine ⟨_, rfl, ?_⟩
      have hz29 := hk28.size
      have hB30 := hB21.lo hk28
      refine SR.g' rfl (r_not rfl) <| SR.q' (r_pick false rfl (v := .bool _) rfl) <| SR.nil ?_
      exact ⟨_, rfl, ⟨⟨rfl, rfl, rfl, rfl, rfl, (eND (jmt h22)), trivial⟩, ((hk19).trans hk28)⟩⟩
  rintro f31 w32 ⟨hat33, hk34⟩
  rw [← sets_of_at hat33]
  have hz35 := hk34.size
  have hB36 := hB15.lo hk34
  refine W.cond_d rfl (fun h37 => ?_) (fun h37 => ?_)
  · refine W.seq ?_
    refine W.regS (SR.q' (r_mv (v := .slice _ _ _) rfl) <| SR.q' (r_as (v := .slice _ _ _) rfl) <| SR.q' (r_as (v := .bool false) rfl) <| SR.nil ?_)
    refine W.ret ?_
    refine ret2 rfl (v := .slice _ _ _) (v' := .bool _) rfl rfl ?_
    exact ⟨(pA g9), 0, 0, eR (eT2 rfl (eDF (by first | assumption | exact ⟨‹_›, ‹_›⟩ | exact not_and_of_not_or_not ‹_›))), (SlO.eqv (((hO13).lo hk34).down (by omega)) (by first | (rw [if_pos (by first | assumption | exact ⟨‹_›, ‹_›⟩)]; exact sel_end (by omega)) | (rw [if_neg (by first | assumption | exact not_and_of_not_or_not ‹_›)]))), hB36⟩
  · have hq39 : LibOK x := (Classical.not_not.1 (not_or.1 h37).1)
    have hq40 : 1 ≤ r ∧ r ≤ 999 := (Classical.not_not.1 (not_or.1 h37).2)
    have hq41 := And.left hq39
    have hq42 := lib_len hq39
    have hq43 := And.left hq41
    have hq44 := And.right hq41
    refine W.skip ?_
    refine W.seq ?_
    refine W.seq ?_
    have hm45 := ((hb6).lo hk12).lo hk34
    refine W.regS (SR.q' (r_as (v := .int .i64 0) rfl) <| SR.nil ?_)
    refine W.block ?_
    refine W.loop (σ := Nat × (Option Addr) × Nat × Nat) (fun g => [(1, .int .i64 r), (2, .pointer (pA g1)), (4, .slice none 0 0), (5, .bool false), (6, .slice g.2.1 g.2.2.1 g.2.2.2), (7, .int .i64 (g.1 : Int))]) (fun g w' => (Lo w w') ∧ (Blk w' g1 27 [.slice Ax_Maps nx_Maps cx_Maps, .slice Ax_Away nx_Away cx_Away, .int .i64 x.Bought, .int .i64 x.Dropped, .int .i64 x.Mended]) ∧ (SlR w' Bx_Maps encLMap 3 Ax_Maps nx_Maps cx_Maps x.Maps) ∧ (SlR w' Bx_Away encAway 2 Ax_Away nx_Away cx_Away x.Away) ∧ (SlO w' w.heap.size encI 1 3 g.2.1 g.2.2.1 g.2.2.2 (selL (atR r) Away.Map (x.Away.take g.1))) ∧ (¬ g.2.1 = some ⟨g1, 0, none⟩) ∧ (g.1 ≤ nx_Away)) (fun g => nx_Away - g.1) (0, (pA g9), 0, 0) ?_ ?_ ?_
    · exact ⟨rfl, rfl, rfl, rfl, rfl, rfl, trivial⟩
    · show (Lo w w32) ∧ (Blk w32 g1 27 [.slice Ax_Maps nx_Maps cx_Maps, .slice Ax_Away nx_Away cx_Away, .int .i64 x.Bought, .int .i64 x.Dropped, .int .i64 x.Mended]) ∧ (SlR w32 Bx_Maps encLMap 3 Ax_Maps nx_Maps cx_Maps x.Maps) ∧ (SlR w32 Bx_Away encAway 2 Ax_Away nx_Away cx_Away x.Away) ∧ (SlO w32 w.heap.size encI 1 3 (pA g9) 0 0 (selL (atR r) Away.Map (x.Away.take 0))) ∧ (¬ (pA g9) = some ⟨g1, 0, none⟩) ∧ (0 ≤ nx_Away)
      exact ⟨hB36, hm45, (hm16).lo hk34, (hm17).lo hk34, (SlO.eqv (((hO13).lo hk34).down (by omega)) (by rfl)), (fun e' => by have := ((hO13).lo hk34).base_le e'; omega), (by omega)⟩
    · rintro ⟨k, A46, n46, c46⟩ f47 w48 hP50
      obtain ⟨hB49, hm51, hm52, hm53, hO54, hd56, hi55⟩ : (Lo w w48) ∧ (Blk w48 g1 27 [.slice Ax_Maps nx_Maps cx_Maps, .slice Ax_Away nx_Away cx_Away, .int .i64 x.Bought, .int .i64 x.Dropped, .int .i64 x.Mended]) ∧ (SlR w48 Bx_Maps encLMap 3 Ax_Maps nx_Maps cx_Maps x.Maps) ∧ (SlR w48 Bx_Away encAway 2 Ax_Away nx_Away cx_Away x.Away) ∧ (SlO w48 w.heap.size encI 1 3 A46 n46 c46 (selL (atR r) Away.Map (x.Away.take k))) ∧ (¬ A46 = some ⟨g1, 0, none⟩) ∧ (k ≤ nx_Away) := hP50
      refine (?_ : W _ _ _ _ _ (act _ (sets f47 [(1, .int .i64 r), (2, .pointer (pA g1)), (4, .slice none 0 0), (5, .bool false), (6, .slice A46 n46 c46), (7, .int .i64 (k : Int))])) _)
      have hzw48 := hB49.size
      have hl57 := hm51.lt
      have hl58 := hO54.len
      have hl59 := hO54.rd.bound
      have hq60 := sel_lenT x.Away k (atR r) Away.Map
      refine W.seq ?_
      refine W.seq ?_
      refine W.regS (SR.q' (r_mv (v := .int .i64 _) rfl) <| SR.q' (r_fa fa27_1 rfl) <| SR.q' (r_ld (v := .slice Ax_Away nx_Away cx_Away) sca25 rfl ((hm51).cell rfl)) <| SR.q' (r_len und25 rfl) <| SR.q' (r_lt rfl rfl) <| SR.nil ?_)
      refine W.cond_d rfl (fun h61 => ?_) (fun h61 => ?_)
      · refine W.skip ?_
        refine W.seq ?_
        refine W.block ?_
        refine W.seq ?_
        refine W.regS (SR.q' (r_fa fa27_1 rfl) <| SR.q' (r_ld (v := .slice Ax_Away nx_Away cx_Away) sca25 rfl ((hm51).cell rfl)) <| SR.q' (r_mv (v := .int .i64 _) rfl) <| ?_)
        have hx63 := (hm53).elem (i := k) (by omega)
        refine SR.q' (r_ixR tsl25 (hm53) rfl rfl (by omega)) <| SR.q' (r_fa fa57_1 rfl) <| SR.q' (r_ld (v := .int .i64 ((gt x.Away k).Reader)) sca3 rfl ((hm53).cell hx63 rfl)) <| SR.q' (r_mv (v := .int .i64 _) rfl) <| SR.q' (r_eq rfl rfl) <| SR.nil ?_
        refine W.cond_d rfl (fun h64 => ?_) (fun h64 => ?_)
        · refine W.regS (SR.q' (r_mv (v := .slice _ _ _) rfl) <| SR.q' (r_fa fa27_1 rfl) <| SR.q' (r_ld (v := .slice Ax_Away nx_Away cx_Away) sca25 rfl ((hm51).cell rfl)) <| SR.q' (r_mv (v := .int .i64 _) rfl) <| SR.q' (r_ixR tsl25 (hm53) rfl rfl (by omega)) <| SR.q' (r_fa fa57_0 rfl) <| SR.q' (r_ld (v := .int .i64 ((gt x.Away k).Map)) sca3 rfl ((hm53).cell hx63 rfl)) <| SR.lit (vs := [.int .i64 ((gt x.Away k).Map)]) (L := ([(gt x.Away k).Map] : List Int)) (enc := encI) tel30 (fun _ => rfl) rfl rfl rfl (by decide) ?_)
          intro g65 w66 hg67 hk68 hO69
          have hz70 := hk68.size
          have hB71 := hB49.lo hk68
          refine SR.app tel30 rfl rfl ((hO54).lo hk68) ((hO69).rd) (fun _ => rfl) (by omega) (by omega) ?_
          intro A73 c74 w75 hk76 hO77 hN78
          have hz79 := hk76.size
          have hB80 := hB71.step hk76 (fun i_ hi_ e' => by have := (((hO54).lo hk68)).base_le e'; first | omega | (exfalso; omega) | exact e' | exact .inl e' | exact .inr e')
          have hd81 : ¬ A73 = some ⟨g1, 0, none⟩ := fun e' => (hN78 g1 e').elim (fun h => hd56 (h.trans e')) (fun h => by have := ((hm51).lo hk68).lt; omega)
          refine SR.q' (r_as (v := .slice _ _ _) rfl) <| SR.nil ?_
          have hm83 := ((hm51).lo hk68).kp hk76 (fun e' => hd56 e')
          have hm84 := ((hm52).lo hk68).kp hk76 (fun b_ hb e' => by have := (((hO54).lo hk68)).base_le e'; omega)
          have hm85 := ((hm53).lo hk68).kp hk76 (fun b_ hb e' => by have := (((hO54).lo hk68)).base_le e'; omega)
          refine W.regS (SR.q' (r_mv (v := .int .i64 _) rfl) <| SR.q' (r_add rfl rfl (by omega)) <| SR.q' (r_as (v := .int .i64 _) rfl) <| SR.nil ?_)
          refine ⟨(k + 1, A73, n46 + 1, c74), _, rfl, ⟨rfl, rfl, rfl, rfl, rfl, rfl, trivial⟩, (show (Lo w w75) ∧ (Blk w75 g1 27 [.slice Ax_Maps nx_Maps cx_Maps, .slice Ax_Away nx_Away cx_Away, .int .i64 x.Bought, .int .i64 x.Dropped, .int .i64 x.Mended]) ∧ (SlR w75 Bx_Maps encLMap 3 Ax_Maps nx_Maps cx_Maps x.Maps) ∧ (SlR w75 Bx_Away encAway 2 Ax_Away nx_Away cx_Away x.Away) ∧ (SlO w75 w.heap.size encI 1 3 A73 (n46 + 1) c74 (selL (atR r) Away.Map (x.Away.take (k + 1)))) ∧ (¬ A73 = some ⟨g1, 0, none⟩) ∧ (k + 1 ≤ nx_Away) from ⟨hB80, hm83, hm84, hm85, (SlO.eqv (hO77) (by first | exact sel_yes (by omega) (decide_eq_true ‹_›) | exact sel_no (by omega) (decide_eq_false ‹_›))), hd81, ?_⟩), ?_⟩
          · exact (by omega)
          · exact (by omega)
        · refine W.skip ?_
          refine W.regS (SR.q' (r_mv (v := .int .i64 _) rfl) <| SR.q' (r_add rfl rfl (by omega)) <| SR.q' (r_as (v := .int .i64 _) rfl) <| SR.nil ?_)
          refine ⟨(k + 1, A46, n46, c46), _, rfl, ⟨rfl, rfl, rfl, rfl, rfl, rfl, trivial⟩, (show (Lo w w48) ∧ (Blk w48 g1 27 [.slice Ax_Maps nx_Maps cx_Maps, .slice Ax_Away nx_Away cx_Away, .int .i64 x.Bought, .int .i64 x.Dropped, .int .i64 x.Mended]) ∧ (SlR w48 Bx_Maps encLMap 3 Ax_Maps nx_Maps cx_Maps x.Maps) ∧ (SlR w48 Bx_Away encAway 2 Ax_Away nx_Away cx_Away x.Away) ∧ (SlO w48 w.heap.size encI 1 3 A46 n46 c46 (selL (atR r) Away.Map (x.Away.take (k + 1)))) ∧ (¬ A46 = some ⟨g1, 0, none⟩) ∧ (k + 1 ≤ nx_Away) from ⟨hB49, hm51, hm52, hm53, (SlO.eqv (hO54) (by first | exact sel_yes (by omega) (decide_eq_true ‹_›) | exact sel_no (by omega) (decide_eq_false ‹_›))), hd56, ?_⟩), ?_⟩
          · exact (by omega)
          · exact (by omega)
      · refine W.exit (xin_here ?_)
        refine W.seq ?_
        refine W.regS (SR.q' (r_mv (v := .slice _ _ _) rfl) <| SR.q' (r_as (v := .slice _ _ _) rfl) <| SR.q' (r_as (v := .bool true) rfl) <| SR.nil ?_)
        refine W.ret ?_
        refine ret2 rfl (v := .slice _ _ _) (v' := .bool _) rfl rfl ?_
        exact ⟨A46, n46, c46, eR (eT2 rfl (eDT (by first | assumption | exact ⟨‹_›, ‹_›⟩ | exact not_and_of_not_or_not ‹_›))), (SlO.eqv ((hO54).down (by omega)) (by first | (rw [if_pos (by first | assumption | exact ⟨‹_›, ‹_›⟩)]; exact sel_end (by omega)) | (rw [if_neg (by first | assumption | exact not_and_of_not_or_not ‹_›)]))), hB49⟩

theorem c_impl_MayLend (w : World) (x : Library) {Ax_Maps : Option Addr} {nx_Maps cx_Maps Bx_Maps : Nat} (hx_Maps : SlR w Bx_Maps encLMap 3 Ax_Maps nx_Maps cx_Maps x.Maps) {Ax_Away : Option Addr} {nx_Away cx_Away Bx_Away : Nat} (hx_Away : SlR w Bx_Away encAway 2 Ax_Away nx_Away cx_Away x.Away) (hp0 : (nx_Maps : Int) ≤ 1048576) : Calls Tryd.prog 16 #[.agg (List.toArray [.slice Ax_Maps nx_Maps cx_Maps, .slice Ax_Away nx_Away cx_Away, .int .i64 x.Bought, .int .i64 x.Dropped, .int .i64 x.Mended])] w fun e w' => ∃ (A1' : Option Addr) (n1' c1' : Nat), e = .returned (.tuple (List.toArray [.slice A1' n1' c1', .bool (decide (LibOK x))])) ∧ SlO w' w.heap.size encI 1 3 A1' n1' c1' (if LibOK x then selL mayM LMap.Id x.Maps else []) ∧ Lo w w' := by
  refine calls_W 29 Tryd.func16 rfl rfl rfl ?_
  have hbdx_Maps := hx_Maps.bound
  have hlex_Maps := hx_Maps.len
  have hBbx_Maps := hx_Maps.bd
  have hbdx_Away := hx_Away.bound
  have hlex_Away := hx_Away.len
  have hBbx_Away := hx_Away.bd
  refine W.seq ?_
  refine W.regS (SR.box (v := .agg (List.toArray _)) (l := [.slice Ax_Maps nx_Maps cx_Maps, .slice Ax_Away nx_Away cx_Away, .int .i64 x.Bought, .int .i64 x.Dropped, .int .i64 x.Mended]) rfl rfl ?_)
  intro g1 w2 hg3 hk4 hs5 hb6
  have hz7 := hk4.size
  have hB8 := (Lo.refl w).lo hk4
  refine SR.q' (r_as (v := .slice none 0 0) rfl) <| SR.q' (r_as (v := .bool false) rfl) <| SR.nil ?_
  refine W.seq ?_
  refine W.seq ?_
  refine W.regS (SR.q' (r_lda (l := [.slice Ax_Maps nx_Maps cx_Maps, .slice Ax_Away nx_Away cx_Away, .int .i64 x.Bought, .int .i64 x.Dropped, .int .i64 x.Mended]) agg27 rfl (fun _ _ hu => (hb6).cell hu) rfl) <| SR.call ent28 (c_impl_IsLibrary w2 x (((hx_Maps).lo hk4)) (((hx_Away).lo hk4)) (by omega)) rfl ?_)
  rintro e w9 ⟨rfl, hk10⟩
  refine ⟨_, rfl, ?_⟩
  have hz11 := hk10.size
  have hB12 := hB8.lo hk10
  refine SR.q' (r_not rfl) <| SR.nil ?_
  refine W.cond_n rfl (fun h13 => ?_) (fun h13 => ?_)
  · refine W.seq ?_
    refine W.regS (SR.q' (r_as (v := .slice none 0 0) rfl) <| SR.q' (r_as (v := .bool false) rfl) <| SR.nil ?_)
    refine W.ret ?_
    refine ret2 rfl (v := .slice none 0 0) (v' := .bool _) rfl rfl ?_
    exact ⟨none, 0, 0, eR (eT2 rfl (eDF h13)), (SlO.eqv (SlO.nil (e := 3) (enc := encI) (fun _ => rfl) (by omega)) (by first | (rw [if_pos (by first | assumption | exact ⟨‹_›, ‹_›⟩)]; exact sel_end (by omega)) | (rw [if_neg (by first | assumption | exact not_and_of_not_or_not ‹_›)]))), hB12⟩
  · have hq16 := And.left h13
    have hq17 := lib_len h13
    have hq18 := And.left hq16
    have hq19 := And.right hq16
    refine W.skip ?_
    refine W.seq ?_
    have hm20 := ((hx_Maps).lo hk4).lo hk10
    refine W.regS (SR.q' (r_as (v := .slice none 0 0) rfl) <| SR.nil ?_)
    refine W.seq ?_
    refine W.seq ?_
    refine W.regS (SR.q' (r_fa fa27_0 rfl) <| SR.q' (r_ld (v := .slice Ax_Maps nx_Maps cx_Maps) sca24 rfl (((hb6).lo hk10).cell rfl)) <| SR.q' (r_len und24 rfl) <| SR.q' (r_mv (v := .int .i64 0) rfl) <| SR.nil ?_)
    refine W.block ?_
    refine W.loop (σ := Nat × (Option Addr) × Nat × Nat) (fun g => [(2, .slice none 0 0), (3, .bool false), (4, .slice g.2.1 g.2.2.1 g.2.2.2), (11, .slice Ax_Maps nx_Maps cx_Maps), (12, .int .i64 (nx_Maps : Int)), (13, .int .i64 (g.1 : Int))]) (fun g w' => (Lo w w') ∧ (SlR w' Bx_Maps encLMap 3 Ax_Maps nx_Maps cx_Maps x.Maps) ∧ (SlO w' w.heap.size encI 1 3 g.2.1 g.2.2.1 g.2.2.2 (selL mayM LMap.Id (x.Maps.take g.1))) ∧ (g.1 ≤ nx_Maps)) (fun g => nx_Maps - g.1) (0, (none : Option Addr), 0, 0) ?_ ?_ ?_
    · exact ⟨rfl, rfl, rfl, rfl, rfl, rfl, trivial⟩
    · exact ⟨hB12, hm20, (SlO.eqv (SlO.nil (base := w.heap.size) (e := 3) (enc := encI) (fun _ => rfl) (by omega)) (by rfl)), (by omega)⟩
    · rintro ⟨k, A22, n22, c22⟩ f23 w24 hP26
      obtain ⟨hB25, hm27, hO28, hi29⟩ : (Lo w w24) ∧ (SlR w24 Bx_Maps encLMap 3 Ax_Maps nx_Maps cx_Maps x.Maps) ∧ (SlO w24 w.heap.size encI 1 3 A22 n22 c22 (selL mayM LMap.Id (x.Maps.take k))) ∧ (k ≤ nx_Maps) := hP26
      refine (?_ : W _ _ _ _ _ (act _ (sets f23 [(2, .slice none 0 0), (3, .bool false), (4, .slice A22 n22 c22), (11, .slice Ax_Maps nx_Maps cx_Maps), (12, .int .i64 (nx_Maps : Int)), (13, .int .i64 (k : Int))])) _)
      have hzw24 := hB25.size
      have hl30 := hO28.len
      have hl31 := hO28.rd.bound
      have hq32 := sel_lenT x.Maps k mayM LMap.Id
      refine W.seq ?_
      refine W.regS (SR.q' (r_lt rfl rfl) <| SR.nil ?_)
      refine W.seq ?_
      refine W.cond_d rfl (fun h33 => ?_) (fun h33 => ?_)
      · refine W.skip ?_
        refine W.seq ?_
        refine W.block ?_
        refine W.seq ?_
        have hx35 := (hm27).elem (i := k) (by omega)
        refine W.regS (SR.q' (r_ixR tsl24 (hm27) rfl rfl (by omega)) <| SR.q' (r_lda (l := encLMap (gt x.Maps k)) agg48 rfl (fun _ _ hu => (hm27).cell hx35 hu) ((hm27).esz _)) <| SR.alloc (l := [.int .i64 0, .int .i64 0, .int .i64 0]) tz48 rfl ?_)
        intro g36 w37 hg38 hk39 hs40 hb41
        have hz42 := hk39.size
        have hB43 := hB25.lo hk39
        have hd44 : ¬ A22 = some ⟨g36, 0, none⟩ := fun e' => by have := (hO28).base_le e'; omega
        refine SR.store (o := 0) (vs := [.int .i64 ((gt x.Maps k).Id), .int .i64 ((gt x.Maps k).Copies), .int .i64 ((gt x.Maps k).Torn)]) agg48.2 rfl rfl rfl rfl (hb41) (Nat.le_of_ble_eq_true rfl) rfl ?_
        intro w45 hk46 hs47 hb48
        have hz49 := hk46.size
        have hB50 := hB43.new hk46 (by omega)
        refine SR.nil ?_
        refine W.seq ?_
        have hm51 := ((hO28).lo hk39).kd hk46 hd44
        have hm52 := ((hm27).lo hk39).kn hk46 (by omega)
        refine W.regS (SR.q' (r_fa fa48_1 rfl) <| SR.q' (r_ld (v := .int .i64 ((gt x.Maps k).Copies)) sca3 rfl ((hb48).cell rfl)) <| SR.q' (r_fa fa48_2 rfl) <| SR.q' (r_ld (v := .int .i64 ((gt x.Maps k).Torn)) sca3 rfl ((hb48).cell rfl)) <| SR.q' (r_gt rfl rfl) <| SR.nil ?_)
        refine W.cond_d rfl (fun h53 => ?_) (fun h53 => ?_)
        · refine W.regS (SR.q' (r_mv (v := .slice _ _ _) rfl) <| SR.q' (r_fa fa48_0 rfl) <| SR.q' (r_ld (v := .int .i64 ((gt x.Maps k).Id)) sca3 rfl ((hb48).cell rfl)) <| SR.lit (vs := [.int .i64 ((gt x.Maps k).Id)]) (L := ([(gt x.Maps k).Id] : List Int)) (enc := encI) tel30 (fun _ => rfl) rfl rfl rfl (by decide) ?_)
          intro g54 w55 hg56 hk57 hO58
          have hz59 := hk57.size
          have hB60 := hB50.lo hk57
          refine SR.app tel30 rfl rfl ((hm51).lo hk57) ((hO58).rd) (fun _ => rfl) (by omega) (by omega) ?_
          intro A62 c63 w64 hk65 hO66 hN67
          have hz68 := hk65.size
          have hB69 := hB60.step hk65 (fun i_ hi_ e' => by have := (((hm51).lo hk57)).base_le e'; first | omega | (exfalso; omega) | exact e' | exact .inl e' | exact .inr e')
          refine SR.q' (r_as (v := .slice _ _ _) rfl) <| SR.nil ?_
          have hm72 := ((hm52).lo hk57).kp hk65 (fun b_ hb e' => by have := (((hm51).lo hk57)).base_le e'; omega)
          refine W.regS (SR.q' (r_add rfl rfl (by omega)) <| SR.q' (r_mv (v := .int .i64 _) rfl) <| SR.nil ?_)
          refine ⟨(k + 1, A62, n22 + 1, c63), _, rfl, ⟨rfl, rfl, rfl, rfl, rfl, rfl, trivial⟩, ⟨hB69, hm72, (SlO.eqv (hO66) (by first | exact sel_yes (by omega) (decide_eq_true ‹_›) | exact sel_no (by omega) (decide_eq_false ‹_›))), ?_⟩, ?_⟩
          · exact (by omega)
          · exact (by omega)
        · refine W.skip ?_
          refine W.regS (SR.q' (r_add rfl rfl (by omega)) <| SR.q' (r_mv (v := .int .i64 _) rfl) <| SR.nil ?_)
          refine ⟨(k + 1, A22, n22, c22), _, rfl, ⟨rfl, rfl, rfl, rfl, rfl, rfl, trivial⟩, ⟨hB50, hm52, (SlO.eqv (hm51) (by first | exact sel_yes (by omega) (decide_eq_true ‹_›) | exact sel_no (by omega) (decide_eq_false ‹_›))), ?_⟩, ?_⟩
          · exact (by omega)
          · exact (by omega)
      · refine W.exit (xin_here ?_)
        refine W.seq ?_
        refine W.regS (SR.q' (r_mv (v := .slice _ _ _) rfl) <| SR.q' (r_as (v := .slice _ _ _) rfl) <| SR.q' (r_as (v := .bool true) rfl) <| SR.nil ?_)
        refine W.ret ?_
        refine ret2 rfl (v := .slice _ _ _) (v' := .bool _) rfl rfl ?_
        exact ⟨A22, n22, c22, eR (eT2 rfl (eDT h13)), (SlO.eqv ((hO28).down (by omega)) (by first | (rw [if_pos (by first | assumption | exact ⟨‹_›, ‹_›⟩)]; exact sel_end (by omega)) | (rw [if_neg (by first | assumption | exact not_and_of_not_or_not ‹_›)]))), hB25⟩

theorem c_spec_MayLend (w : World) (x : Library) {Ax_Maps : Option Addr} {nx_Maps cx_Maps Bx_Maps : Nat} (hx_Maps : SlR w Bx_Maps encLMap 3 Ax_Maps nx_Maps cx_Maps x.Maps) {Ax_Away : Option Addr} {nx_Away cx_Away Bx_Away : Nat} (hx_Away : SlR w Bx_Away encAway 2 Ax_Away nx_Away cx_Away x.Away) (hp0 : (nx_Maps : Int) ≤ 1048576) : Calls Tryd.prog 17 #[.agg (List.toArray [.slice Ax_Maps nx_Maps cx_Maps, .slice Ax_Away nx_Away cx_Away, .int .i64 x.Bought, .int .i64 x.Dropped, .int .i64 x.Mended])] w fun e w' => ∃ (A1' : Option Addr) (n1' c1' : Nat), e = .returned (.tuple (List.toArray [.slice A1' n1' c1', .bool (decide (LibOK x))])) ∧ SlO w' w.heap.size encI 1 3 A1' n1' c1' (if LibOK x then selL mayM LMap.Id x.Maps else []) ∧ Lo w w' := by
  refine calls_W 41 Tryd.func17 rfl rfl rfl ?_
  have hbdx_Maps := hx_Maps.bound
  have hlex_Maps := hx_Maps.len
  have hBbx_Maps := hx_Maps.bd
  have hbdx_Away := hx_Away.bound
  have hlex_Away := hx_Away.len
  have hBbx_Away := hx_Away.bd
  refine W.seq ?_
  refine W.regS (SR.box (v := .agg (List.toArray _)) (l := [.slice Ax_Maps nx_Maps cx_Maps, .slice Ax_Away nx_Away cx_Away, .int .i64 x.Bought, .int .i64 x.Dropped, .int .i64 x.Mended]) rfl rfl ?_)
  intro g1 w2 hg3 hk4 hs5 hb6
  have hz7 := hk4.size
  have hB8 := (Lo.refl w).lo hk4
  refine SR.q' (r_as (v := .slice none 0 0) rfl) <| SR.q' (r_as (v := .bool false) rfl) <| SR.nil ?_
  refine W.seq ?_
  refine W.regS (SR.lit (vs := []) (L := ([] : List Int)) (enc := encI) tel30 (fun _ => rfl) rfl rfl rfl (by decide) ?_)
  intro g9 w10 hg11 hk12 hO13
  have hz14 := hk12.size
  have hB15 := hB8.lo hk12
  refine SR.q' (r_as (v := .slice _ _ _) rfl) <| SR.nil ?_
  refine W.seq ?_
  refine W.seq ?_
  have hm16 := ((hx_Maps).lo hk4).lo hk12
  have hm17 := ((hx_Away).lo hk4).lo hk12
  refine W.regS (SR.q' (r_lda (l := [.slice Ax_Maps nx_Maps cx_Maps, .slice Ax_Away nx_Away cx_Away, .int .i64 x.Bought, .int .i64 x.Dropped, .int .i64 x.Mended]) agg27 rfl (fun _ _ hu => ((hb6).lo hk12).cell hu) rfl) <| SR.call ent30 (c_spec_l32Good w10 x ((hm16)) ((hm17))) rfl ?_)
  rintro e w18 ⟨rfl, hk19⟩
  refine ⟨_, rfl, ?_⟩
  have hz20 := hk19.size
  have hB21 := hB15.lo hk19
  refine SR.q' (r_not rfl) <| SR.nil ?_
  refine W.cond_n rfl (fun h22 => ?_) (fun h22 => ?_)
  · refine W.seq ?_
    refine W.regS (SR.q' (r_mv (v := .slice _ _ _) rfl) <| SR.q' (r_as (v := .slice _ _ _) rfl) <| SR.q' (r_as (v := .bool false) rfl) <| SR.nil ?_)
    refine W.ret ?_
    refine ret2 rfl (v := .slice _ _ _) (v' := .bool _) rfl rfl ?_
    exact ⟨(pA g9), 0, 0, eR (eT2 rfl (eDF h22)), (SlO.eqv (((hO13).lo hk19).down (by omega)) (by first | (rw [if_pos (by first | assumption | exact ⟨‹_›, ‹_›⟩)]; exact sel_end (by omega)) | (rw [if_neg (by first | assumption | exact not_and_of_not_or_not ‹_›)]))), hB21⟩
  · have hq24 := And.left h22
    have hq25 := lib_len h22
    have hq26 := And.left hq24
    have hq27 := And.right hq24
    refine W.skip ?_
    refine W.seq ?_
    refine W.seq ?_
    have hm28 := ((hb6).lo hk12).lo hk19
    refine W.regS (SR.q' (r_as (v := .int .i64 0) rfl) <| SR.nil ?_)
    refine W.block ?_
    refine W.loop (σ := Nat × (Option Addr) × Nat × Nat) (fun g => [(1, .pointer (pA g1)), (2, .slice none 0 0), (3, .bool false), (4, .slice g.2.1 g.2.2.1 g.2.2.2), (5, .int .i64 (g.1 : Int))]) (fun g w' => (Lo w w') ∧ (Blk w' g1 27 [.slice Ax_Maps nx_Maps cx_Maps, .slice Ax_Away nx_Away cx_Away, .int .i64 x.Bought, .int .i64 x.Dropped, .int .i64 x.Mended]) ∧ (SlR w' Bx_Maps encLMap 3 Ax_Maps nx_Maps cx_Maps x.Maps) ∧ (SlR w' Bx_Away encAway 2 Ax_Away nx_Away cx_Away x.Away) ∧ (SlO w' w.heap.size encI 1 3 g.2.1 g.2.2.1 g.2.2.2 (selL mayM LMap.Id (x.Maps.take g.1))) ∧ (¬ g.2.1 = some ⟨g1, 0, none⟩) ∧ (g.1 ≤ nx_Maps)) (fun g => nx_Maps - g.1) (0, (pA g9), 0, 0) ?_ ?_ ?_
    · exact ⟨rfl, rfl, rfl, rfl, rfl, trivial⟩
    · show (Lo w w18) ∧ (Blk w18 g1 27 [.slice Ax_Maps nx_Maps cx_Maps, .slice Ax_Away nx_Away cx_Away, .int .i64 x.Bought, .int .i64 x.Dropped, .int .i64 x.Mended]) ∧ (SlR w18 Bx_Maps encLMap 3 Ax_Maps nx_Maps cx_Maps x.Maps) ∧ (SlR w18 Bx_Away encAway 2 Ax_Away nx_Away cx_Away x.Away) ∧ (SlO w18 w.heap.size encI 1 3 (pA g9) 0 0 (selL mayM LMap.Id (x.Maps.take 0))) ∧ (¬ (pA g9) = some ⟨g1, 0, none⟩) ∧ (0 ≤ nx_Maps)
      exact ⟨hB21, hm28, (hm16).lo hk19, (hm17).lo hk19, (SlO.eqv (((hO13).lo hk19).down (by omega)) (by rfl)), (fun e' => by have := ((hO13).lo hk19).base_le e'; omega), (by omega)⟩
    · rintro ⟨k, A29, n29, c29⟩ f30 w31 hP33
      obtain ⟨hB32, hm34, hm35, hm36, hO37, hd39, hi38⟩ : (Lo w w31) ∧ (Blk w31 g1 27 [.slice Ax_Maps nx_Maps cx_Maps, .slice Ax_Away nx_Away cx_Away, .int .i64 x.Bought, .int .i64 x.Dropped, .int .i64 x.Mended]) ∧ (SlR w31 Bx_Maps encLMap 3 Ax_Maps nx_Maps cx_Maps x.Maps) ∧ (SlR w31 Bx_Away encAway 2 Ax_Away nx_Away cx_Away x.Away) ∧ (SlO w31 w.heap.size encI 1 3 A29 n29 c29 (selL mayM LMap.Id (x.Maps.take k))) ∧ (¬ A29 = some ⟨g1, 0, none⟩) ∧ (k ≤ nx_Maps) := hP33
      refine (?_ : W _ _ _ _ _ (act _ (sets f30 [(1, .pointer (pA g1)), (2, .slice none 0 0), (3, .bool false), (4, .slice A29 n29 c29), (5, .int .i64 (k : Int))])) _)
      have hzw31 := hB32.size
      have hl40 := hm34.lt
      have hl41 := hO37.len
      have hl42 := hO37.rd.bound
      have hq43 := sel_lenT x.Maps k mayM LMap.Id
      refine W.seq ?_
      refine W.seq ?_
      refine W.regS (SR.q' (r_mv (v := .int .i64 _) rfl) <| SR.q' (r_fa fa27_0 rfl) <| SR.q' (r_ld (v := .slice Ax_Maps nx_Maps cx_Maps) sca24 rfl ((hm34).cell rfl)) <| SR.q' (r_len und24 rfl) <| SR.q' (r_lt rfl rfl) <| SR.nil ?_)
      refine W.cond_d rfl (fun h44 => ?_) (fun h44 => ?_)
      · refine W.skip ?_
        refine W.seq ?_
        refine W.block ?_
        refine W.seq ?_
        refine W.regD mo (by kernel_rfl) (QR.q' (fun w' hw' => r_fa fa27_0 rfl) <| QR.q' (fun w' hw' => r_ld (v := .slice Ax_Maps nx_Maps cx_Maps) sca24 rfl (((hm34).lo hw').cell rfl)) <| QR.q' (fun w' hw' => r_mv (v := .int .i64 _) rfl) <| ?_)
        have hx46 := (hm35).elem (i := k) (by omega)
        refine QR.q' (fun w' hw' => r_ixR tsl24 (((hm35).lo hw')) rfl rfl (by omega)) <| QR.q' (fun w' hw' => r_fa fa48_1 rfl) <| QR.q' (fun w' hw' => r_ld (v := .int .i64 ((gt x.Maps k).Copies)) sca3 rfl ((((hm35).lo hw')).cell hx46 rfl)) <| QR.q' (fun w' hw' => r_fa fa27_0 rfl) <| QR.q' (fun w' hw' => r_ld (v := .slice Ax_Maps nx_Maps cx_Maps) sca24 rfl (((hm34).lo hw').cell rfl)) <| QR.q' (fun w' hw' => r_mv (v := .int .i64 _) rfl) <| QR.q' (fun w' hw' => r_ixR tsl24 (((hm35).lo hw')) rfl rfl (by omega)) <| QR.q' (fun w' hw' => r_fa fa48_2 rfl) <| QR.q' (fun w' hw' => r_ld (v := .int .i64 ((gt x.Maps k).Torn)) sca3 rfl ((((hm35).lo hw')).cell hx46 rfl)) <| QR.q' (fun w' hw' => r_gt rfl rfl) <| QR.nil ?_
        intro w47 hk48
        have hz49 := hk48.size
        have hB50 := hB32.lo hk48
        refine W.cond_d rfl (fun h51 => ?_) (fun h51 => ?_)
        · refine W.regS (SR.q' (r_mv (v := .slice _ _ _) rfl) <| SR.q' (r_fa fa27_0 rfl) <| SR.q' (r_ld (v := .slice Ax_Maps nx_Maps cx_Maps) sca24 rfl (((hm34).lo hk48).cell rfl)) <| SR.q' (r_mv (v := .int .i64 _) rfl) <| SR.q' (r_ixR tsl24 ((hm35).lo hk48) rfl rfl (by omega)) <| SR.q' (r_fa fa48_0 rfl) <| SR.q' (r_ld (v := .int .i64 ((gt x.Maps k).Id)) sca3 rfl (((hm35).lo hk48).cell hx46 rfl)) <| SR.lit (vs := [.int .i64 ((gt x.Maps k).Id)]) (L := ([(gt x.Maps k).Id] : List Int)) (enc := encI) tel30 (fun _ => rfl) rfl rfl rfl (by decide) ?_)
          intro g52 w53 hg54 hk55 hO56
          have hz57 := hk55.size
          have hB58 := hB50.lo hk55
          refine SR.app tel30 rfl rfl (((hO37).lo hk48).lo hk55) ((hO56).rd) (fun _ => rfl) (by omega) (by omega) ?_
          intro A60 c61 w62 hk63 hO64 hN65
          have hz66 := hk63.size
          have hB67 := hB58.step hk63 (fun i_ hi_ e' => by have := ((((hO37).lo hk48).lo hk55)).base_le e'; first | omega | (exfalso; omega) | exact e' | exact .inl e' | exact .inr e')
          have hd68 : ¬ A60 = some ⟨g1, 0, none⟩ := fun e' => (hN65 g1 e').elim (fun h => hd39 (h.trans e')) (fun h => by have := (((hm34).lo hk48).lo hk55).lt; omega)
          refine SR.q' (r_as (v := .slice _ _ _) rfl) <| SR.nil ?_
          have hm70 := (((hm34).lo hk48).lo hk55).kp hk63 (fun e' => hd39 e')
          have hm71 := (((hm35).lo hk48).lo hk55).kp hk63 (fun b_ hb e' => by have := ((((hO37).lo hk48).lo hk55)).base_le e'; omega)
          have hm72 := (((hm36).lo hk48).lo hk55).kp hk63 (fun b_ hb e' => by have := ((((hO37).lo hk48).lo hk55)).base_le e'; omega)
          refine W.regS (SR.q' (r_mv (v := .int .i64 _) rfl) <| SR.q' (r_add rfl rfl (by omega)) <| SR.q' (r_as (v := .int .i64 _) rfl) <| SR.nil ?_)
          refine ⟨(k + 1, A60, n29 + 1, c61), _, rfl, ⟨rfl, rfl, rfl, rfl, rfl, trivial⟩, (show (Lo w w62) ∧ (Blk w62 g1 27 [.slice Ax_Maps nx_Maps cx_Maps, .slice Ax_Away nx_Away cx_Away, .int .i64 x.Bought, .int .i64 x.Dropped, .int .i64 x.Mended]) ∧ (SlR w62 Bx_Maps encLMap 3 Ax_Maps nx_Maps cx_Maps x.Maps) ∧ (SlR w62 Bx_Away encAway 2 Ax_Away nx_Away cx_Away x.Away) ∧ (SlO w62 w.heap.size encI 1 3 A60 (n29 + 1) c61 (selL mayM LMap.Id (x.Maps.take (k + 1)))) ∧ (¬ A60 = some ⟨g1, 0, none⟩) ∧ (k + 1 ≤ nx_Maps) from ⟨hB67, hm70, hm71, hm72, (SlO.eqv (hO64) (by first | exact sel_yes (by omega) (decide_eq_true ‹_›) | exact sel_no (by omega) (decide_eq_false ‹_›))), hd68, ?_⟩), ?_⟩
          · exact (by omega)
          · exact (by omega)
        · refine W.skip ?_
          refine W.regS (SR.q' (r_mv (v := .int .i64 _) rfl) <| SR.q' (r_add rfl rfl (by omega)) <| SR.q' (r_as (v := .int .i64 _) rfl) <| SR.nil ?_)
          refine ⟨(k + 1, A29, n29, c29), _, rfl, ⟨rfl, rfl, rfl, rfl, rfl, trivial⟩, (show (Lo w w47) ∧ (Blk w47 g1 27 [.slice Ax_Maps nx_Maps cx_Maps, .slice Ax_Away nx_Away cx_Away, .int .i64 x.Bought, .int .i64 x.Dropped, .int .i64 x.Mended]) ∧ (SlR w47 Bx_Maps encLMap 3 Ax_Maps nx_Maps cx_Maps x.Maps) ∧ (SlR w47 Bx_Away encAway 2 Ax_Away nx_Away cx_Away x.Away) ∧ (SlO w47 w.heap.size encI 1 3 A29 n29 c29 (selL mayM LMap.Id (x.Maps.take (k + 1)))) ∧ (¬ A29 = some ⟨g1, 0, none⟩) ∧ (k + 1 ≤ nx_Maps) from ⟨hB50, (hm34).lo hk48, (hm35).lo hk48, (hm36).lo hk48, (SlO.eqv ((hO37).lo hk48) (by first | exact sel_yes (by omega) (decide_eq_true ‹_›) | exact sel_no (by omega) (decide_eq_false ‹_›))), hd39, ?_⟩), ?_⟩
          · exact (by omega)
          · exact (by omega)
      · refine W.exit (xin_here ?_)
        refine W.seq ?_
        refine W.regS (SR.q' (r_mv (v := .slice _ _ _) rfl) <| SR.q' (r_as (v := .slice _ _ _) rfl) <| SR.q' (r_as (v := .bool true) rfl) <| SR.nil ?_)
        refine W.ret ?_
        refine ret2 rfl (v := .slice _ _ _) (v' := .bool _) rfl rfl ?_
        exact ⟨A29, n29, c29, eR (eT2 rfl (eDT h22)), (SlO.eqv ((hO37).down (by omega)) (by first | (rw [if_pos (by first | assumption | exact ⟨‹_›, ‹_›⟩)]; exact sel_end (by omega)) | (rw [if_neg (by first | assumption | exact not_and_of_not_or_not ‹_›)]))), hB32⟩

theorem c_impl_TornCopies (w : World) (x : Library) {Ax_Maps : Option Addr} {nx_Maps cx_Maps Bx_Maps : Nat} (hx_Maps : SlR w Bx_Maps encLMap 3 Ax_Maps nx_Maps cx_Maps x.Maps) {Ax_Away : Option Addr} {nx_Away cx_Away Bx_Away : Nat} (hx_Away : SlR w Bx_Away encAway 2 Ax_Away nx_Away cx_Away x.Away) (hp0 : (nx_Maps : Int) ≤ 1048576) : Calls Tryd.prog 12 #[.agg (List.toArray [.slice Ax_Maps nx_Maps cx_Maps, .slice Ax_Away nx_Away cx_Away, .int .i64 x.Bought, .int .i64 x.Dropped, .int .i64 x.Mended])] w fun e w' => e = .returned (.tuple (List.toArray [.int .i64 (if LibOK x then sumT x.Maps else 0), .bool (decide (LibOK x))])) ∧ Lo w w' := by
  refine calls_W 23 Tryd.func12 rfl rfl rfl ?_
  have hbdx_Maps := hx_Maps.bound
  have hlex_Maps := hx_Maps.len
  have hBbx_Maps := hx_Maps.bd
  have hbdx_Away := hx_Away.bound
  have hlex_Away := hx_Away.len
  have hBbx_Away := hx_Away.bd
  refine W.seq ?_
  refine W.regS (SR.box (v := .agg (List.toArray _)) (l := [.slice Ax_Maps nx_Maps cx_Maps, .slice Ax_Away nx_Away cx_Away, .int .i64 x.Bought, .int .i64 x.Dropped, .int .i64 x.Mended]) rfl rfl ?_)
  intro g1 w2 hg3 hk4 hs5 hb6
  have hz7 := hk4.size
  have hB8 := (Lo.refl w).lo hk4
  refine SR.q' (r_as (v := .int .i64 0) rfl) <| SR.q' (r_as (v := .bool false) rfl) <| SR.nil ?_
  refine W.seq ?_
  refine W.seq ?_
  refine W.regS (SR.q' (r_lda (l := [.slice Ax_Maps nx_Maps cx_Maps, .slice Ax_Away nx_Away cx_Away, .int .i64 x.Bought, .int .i64 x.Dropped, .int .i64 x.Mended]) agg27 rfl (fun _ _ hu => (hb6).cell hu) rfl) <| SR.call ent28 (c_impl_IsLibrary w2 x (((hx_Maps).lo hk4)) (((hx_Away).lo hk4)) (by omega)) rfl ?_)
  rintro e w9 ⟨rfl, hk10⟩
  refine ⟨_, rfl, ?_⟩
  have hz11 := hk10.size
  have hB12 := hB8.lo hk10
  refine SR.q' (r_not rfl) <| SR.nil ?_
  refine W.cond_n rfl (fun h13 => ?_) (fun h13 => ?_)
  · refine W.seq ?_
    refine W.regS (SR.q' (r_as (v := .int .i64 0) rfl) <| SR.q' (r_as (v := .bool false) rfl) <| SR.nil ?_)
    refine W.ret ?_
    refine ret2 rfl (v := .int .i64 _) (v' := .bool _) rfl rfl ?_
    exact ⟨eR (eT2 (eI (by first | assumption | simp [*])) (eDF h13)), hB12⟩
  · have hq16 := And.left h13
    have hq17 := lib_len h13
    have hq18 := And.left hq16
    have hq19 := And.right hq16
    refine W.skip ?_
    refine W.seq ?_
    have hm20 := ((hx_Maps).lo hk4).lo hk10
    refine W.regS (SR.q' (r_as (v := .int .i64 0) rfl) <| SR.nil ?_)
    refine W.seq ?_
    refine W.seq ?_
    refine W.regS (SR.q' (r_fa fa27_0 rfl) <| SR.q' (r_ld (v := .slice Ax_Maps nx_Maps cx_Maps) sca24 rfl (((hb6).lo hk10).cell rfl)) <| SR.q' (r_len und24 rfl) <| SR.q' (r_mv (v := .int .i64 0) rfl) <| SR.nil ?_)
    refine W.block ?_
    refine W.loop (σ := Nat × Int) (fun g => [(2, .int .i64 0), (3, .bool false), (4, .int .i64 g.2), (11, .slice Ax_Maps nx_Maps cx_Maps), (12, .int .i64 (nx_Maps : Int)), (13, .int .i64 (g.1 : Int))]) (fun g w' => (Lo w w') ∧ (SlR w' Bx_Maps encLMap 3 Ax_Maps nx_Maps cx_Maps x.Maps) ∧ (g.1 ≤ nx_Maps ∧ sumT (x.Maps.take g.1) = g.2 ∧ 0 ≤ g.2 ∧ g.2 ≤ 99 * (g.1 : Int))) (fun g => nx_Maps - g.1) (0, (0 : Int)) ?_ ?_ ?_
    · exact ⟨rfl, rfl, rfl, rfl, rfl, rfl, trivial⟩
    · exact ⟨hB12, hm20, (by simp [sumT])⟩
    · rintro ⟨k, t⟩ f22 w23 hP25
      obtain ⟨hB24, hm26, hi27⟩ : (Lo w w23) ∧ (SlR w23 Bx_Maps encLMap 3 Ax_Maps nx_Maps cx_Maps x.Maps) ∧ (k ≤ nx_Maps ∧ sumT (x.Maps.take k) = t ∧ 0 ≤ t ∧ t ≤ 99 * (k : Int)) := hP25
      refine (?_ : W _ _ _ _ _ (act _ (sets f22 [(2, .int .i64 0), (3, .bool false), (4, .int .i64 t), (11, .slice Ax_Maps nx_Maps cx_Maps), (12, .int .i64 (nx_Maps : Int)), (13, .int .i64 (k : Int))])) _)
      have hzw23 := hB24.size
      refine W.seq ?_
      refine W.regS (SR.q' (r_lt rfl rfl) <| SR.nil ?_)
      refine W.seq ?_
      refine W.cond_d rfl (fun h28 => ?_) (fun h28 => ?_)
      · refine W.skip ?_
        refine W.seq ?_
        refine W.block ?_
        refine W.seq ?_
        have hx30 := (hm26).elem (i := k) (by omega)
        have hq31 := maps_rng ‹MapsOK x.Maps› hx30
        refine W.regS (SR.q' (r_ixR tsl24 (hm26) rfl rfl (by omega)) <| SR.q' (r_lda (l := encLMap (gt x.Maps k)) agg48 rfl (fun _ _ hu => (hm26).cell hx30 hu) ((hm26).esz _)) <| SR.alloc (l := [.int .i64 0, .int .i64 0, .int .i64 0]) tz48 rfl ?_)
        intro g32 w33 hg34 hk35 hs36 hb37
        have hz38 := hk35.size
        have hB39 := hB24.lo hk35
        refine SR.store (o := 0) (vs := [.int .i64 ((gt x.Maps k).Id), .int .i64 ((gt x.Maps k).Copies), .int .i64 ((gt x.Maps k).Torn)]) agg48.2 rfl rfl rfl rfl (hb37) (Nat.le_of_ble_eq_true rfl) rfl ?_
        intro w40 hk41 hs42 hb43
        have hz44 := hk41.size
        have hB45 := hB39.new hk41 (by omega)
        refine SR.nil ?_
        have hm46 := ((hm26).lo hk35).kn hk41 (by omega)
        refine W.regS (SR.q' (r_mv (v := .int .i64 _) rfl) <| SR.q' (r_fa fa48_2 rfl) <| SR.q' (r_ld (v := .int .i64 ((gt x.Maps k).Torn)) sca3 rfl ((hb43).cell rfl)) <| SR.q' (r_add rfl rfl (by omega)) <| SR.q' (r_as (v := .int .i64 _) rfl) <| SR.nil ?_)
        refine W.regS (SR.q' (r_add rfl rfl (by omega)) <| SR.q' (r_mv (v := .int .i64 _) rfl) <| SR.nil ?_)
        refine ⟨(k + 1, t + ((gt x.Maps k).Torn)), _, rfl, ⟨rfl, rfl, rfl, rfl, rfl, rfl, trivial⟩, ⟨hB45, hm46, ?_⟩, ?_⟩
        · exact (by have hh := ‹_ ∧ sumT _ = _ ∧ _›; have hq := maps_rng ‹MapsOK _› ‹x.Maps[k]? = some _›; exact ⟨by omega, by rw [sumT_snoc (by omega), hh.2.1], by omega, by omega⟩)
        · exact (by omega)
      · refine W.exit (xin_here ?_)
        refine W.seq ?_
        refine W.regS (SR.q' (r_mv (v := .int .i64 _) rfl) <| SR.q' (r_as (v := .int .i64 _) rfl) <| SR.q' (r_as (v := .bool true) rfl) <| SR.nil ?_)
        refine W.ret ?_
        refine ret2 rfl (v := .int .i64 _) (v' := .bool _) rfl rfl ?_
        exact ⟨eR (eT2 (eI (by rw [if_pos ‹_›]; have hh := ‹_ ∧ sumT _ = _ ∧ _›; rw [← hh.2.1, List.take_of_length_le (by omega)])) (eDT h13)), hB24⟩

theorem c_spec_TornCopies (w : World) (x : Library) {Ax_Maps : Option Addr} {nx_Maps cx_Maps Bx_Maps : Nat} (hx_Maps : SlR w Bx_Maps encLMap 3 Ax_Maps nx_Maps cx_Maps x.Maps) {Ax_Away : Option Addr} {nx_Away cx_Away Bx_Away : Nat} (hx_Away : SlR w Bx_Away encAway 2 Ax_Away nx_Away cx_Away x.Away) : Calls Tryd.prog 13 #[.agg (List.toArray [.slice Ax_Maps nx_Maps cx_Maps, .slice Ax_Away nx_Away cx_Away, .int .i64 x.Bought, .int .i64 x.Dropped, .int .i64 x.Mended])] w fun e w' => e = .returned (.tuple (List.toArray [.int .i64 (if LibOK x then sumT x.Maps else 0), .bool (decide (LibOK x))])) ∧ Lo w w' := by
  refine calls_W 9 Tryd.func13 rfl rfl rfl ?_
  have hbdx_Maps := hx_Maps.bound
  have hlex_Maps := hx_Maps.len
  have hBbx_Maps := hx_Maps.bd
  have hbdx_Away := hx_Away.bound
  have hlex_Away := hx_Away.len
  have hBbx_Away := hx_Away.bd
  refine W.seq ?_
  refine W.regS (SR.box (v := .agg (List.toArray _)) (l := [.slice Ax_Maps nx_Maps cx_Maps, .slice Ax_Away nx_Away cx_Away, .int .i64 x.Bought, .int .i64 x.Dropped, .int .i64 x.Mended]) rfl rfl ?_)
  intro g1 w2 hg3 hk4 hs5 hb6
  have hz7 := hk4.size
  have hB8 := (Lo.refl w).lo hk4
  refine SR.q' (r_as (v := .int .i64 0) rfl) <| SR.q' (r_as (v := .bool false) rfl) <| SR.nil ?_
  refine W.seq ?_
  refine W.seq ?_
  refine W.regS (SR.q' (r_lda (l := [.slice Ax_Maps nx_Maps cx_Maps, .slice Ax_Away nx_Away cx_Away, .int .i64 x.Bought, .int .i64 x.Dropped, .int .i64 x.Mended]) agg27 rfl (fun _ _ hu => (hb6).cell hu) rfl) <| SR.call ent30 (c_spec_l32Good w2 x (((hx_Maps).lo hk4)) (((hx_Away).lo hk4))) rfl ?_)
  rintro e w9 ⟨rfl, hk10⟩
  refine ⟨_, rfl, ?_⟩
  have hz11 := hk10.size
  have hB12 := hB8.lo hk10
  refine SR.q' (r_not rfl) <| SR.nil ?_
  refine W.cond_n rfl (fun h13 => ?_) (fun h13 => ?_)
  · refine W.seq ?_
    refine W.regS (SR.q' (r_as (v := .int .i64 0) rfl) <| SR.q' (r_as (v := .bool false) rfl) <| SR.nil ?_)
    refine W.ret ?_
    refine ret2 rfl (v := .int .i64 _) (v' := .bool _) rfl rfl ?_
    exact ⟨eR (eT2 (eI (by first | assumption | simp [*])) (eDF h13)), hB12⟩
  · have hq16 := And.left h13
    have hq17 := lib_len h13
    have hq18 := And.left hq16
    have hq19 := And.right hq16
    refine W.skip ?_
    refine W.seq ?_
    have hm20 := ((hx_Maps).lo hk4).lo hk10
    have hm21 := ((hx_Away).lo hk4).lo hk10
    refine W.regS (SR.q' (r_lda (l := [.slice Ax_Maps nx_Maps cx_Maps, .slice Ax_Away nx_Away cx_Away, .int .i64 x.Bought, .int .i64 x.Dropped, .int .i64 x.Mended]) agg27 rfl (fun _ _ hu => ((hb6).lo hk10).cell hu) rfl) <| SR.call ent35 (c_spec_l32There w9 x ((hm20)) ((hm21)) true (by first | assumption | exact MTo.end_ (And.right ‹_ ∧ MTo _ _›) (by omega)) (by omega)) rfl ?_)
    rintro e w22 ⟨rfl, hk23⟩
    refine ⟨_, rfl, ?_⟩
    have hz24 := hk23.size
    have hB25 := hB12.lo hk23
    have hq26 : 0 ≤ (if true = true then sumT x.Maps else sumC x.Maps) ∧ (if true = true then sumT x.Maps else sumC x.Maps) ≤ 792 := there_rng true ‹MapsOK _› (by omega)
    refine SR.q' (r_as (v := .int .i64 _) rfl) <| SR.q' (r_as (v := .bool true) rfl) <| SR.nil ?_
    refine W.ret ?_
    refine ret2 rfl (v := .int .i64 _) (v' := .bool _) rfl rfl ?_
    exact ⟨eR (eT2 (eI (by first | assumption | simp [*])) (eDT h13)), hB25⟩

theorem c__impl_Library__readersOf (w : World) (x : Library) {Ax_Maps : Option Addr} {nx_Maps cx_Maps Bx_Maps : Nat} (hx_Maps : SlR w Bx_Maps encLMap 3 Ax_Maps nx_Maps cx_Maps x.Maps) {Ax_Away : Option Addr} {nx_Away cx_Away Bx_Away : Nat} (hx_Away : SlR w Bx_Away encAway 2 Ax_Away nx_Away cx_Away x.Away) (r : Int) (hp0 : nx_Away ≤ 8) : Calls Tryd.prog 29 #[.agg (List.toArray [.slice Ax_Maps nx_Maps cx_Maps, .slice Ax_Away nx_Away cx_Away, .int .i64 x.Bought, .int .i64 x.Dropped, .int .i64 x.Mended]), .int .i64 r] w fun e w' => ∃ (A1' : Option Addr) (n1' c1' : Nat), e = .returned (.slice A1' n1' c1') ∧ SlO w' w.heap.size encI 1 3 A1' n1' c1' (selL (ofM r) Away.Reader x.Away) ∧ Lo w w' := by
  refine calls_W 26 Tryd.func29 rfl rfl rfl ?_
  have hbdx_Maps := hx_Maps.bound
  have hlex_Maps := hx_Maps.len
  have hBbx_Maps := hx_Maps.bd
  have hbdx_Away := hx_Away.bound
  have hlex_Away := hx_Away.len
  have hBbx_Away := hx_Away.bd
  refine W.seq ?_
  refine W.regS (SR.box (v := .agg (List.toArray _)) (l := [.slice Ax_Maps nx_Maps cx_Maps, .slice Ax_Away nx_Away cx_Away, .int .i64 x.Bought, .int .i64 x.Dropped, .int .i64 x.Mended]) rfl rfl ?_)
  intro g1 w2 hg3 hk4 hs5 hb6
  have hz7 := hk4.size
  have hB8 := (Lo.refl w).lo hk4
  refine SR.q' (r_as (v := .slice none 0 0) rfl) <| SR.nil ?_
  refine W.seq ?_
  refine W.regS (SR.q' (r_as (v := .slice none 0 0) rfl) <| SR.nil ?_)
  refine W.seq ?_
  refine W.seq ?_
  refine W.regS (SR.q' (r_fa fa27_1 rfl) <| SR.q' (r_ld (v := .slice Ax_Away nx_Away cx_Away) sca25 rfl ((hb6).cell rfl)) <| SR.q' (r_len und25 rfl) <| SR.q' (r_mv (v := .int .i64 0) rfl) <| SR.nil ?_)
  refine W.block ?_
  refine W.loop (σ := Nat × (Option Addr) × Nat × Nat) (fun g => [(1, .int .i64 r), (4, .slice none 0 0), (5, .slice g.2.1 g.2.2.1 g.2.2.2), (9, .slice Ax_Away nx_Away cx_Away), (10, .int .i64 (nx_Away : Int)), (11, .int .i64 (g.1 : Int))]) (fun g w' => (Lo w w') ∧ (SlR w' Bx_Away encAway 2 Ax_Away nx_Away cx_Away x.Away) ∧ (SlO w' w.heap.size encI 1 3 g.2.1 g.2.2.1 g.2.2.2 (selL (ofM r) Away.Reader (x.Away.take g.1))) ∧ (g.1 ≤ nx_Away)) (fun g => nx_Away - g.1) (0, (none : Option Addr), 0, 0) ?_ ?_ ?_
  · exact ⟨rfl, rfl, rfl, rfl, rfl, rfl, trivial⟩
  · exact ⟨hB8, (hx_Away).lo hk4, (SlO.eqv (SlO.nil (base := w.heap.size) (e := 3) (enc := encI) (fun _ => rfl) (by omega)) (by rfl)), (by omega)⟩
  · rintro ⟨k, A9, n9, c9⟩ f10 w11 hP13
    obtain ⟨hB12, hm14, hO15, hi16⟩ : (Lo w w11) ∧ (SlR w11 Bx_Away encAway 2 Ax_Away nx_Away cx_Away x.Away) ∧ (SlO w11 w.heap.size encI 1 3 A9 n9 c9 (selL (ofM r) Away.Reader (x.Away.take k))) ∧ (k ≤ nx_Away) := hP13
    refine (?_ : W _ _ _ _ _ (act _ (sets f10 [(1, .int .i64 r), (4, .slice none 0 0), (5, .slice A9 n9 c9), (9, .slice Ax_Away nx_Away cx_Away), (10, .int .i64 (nx_Away : Int)), (11, .int .i64 (k : Int))])) _)
    have hzw11 := hB12.size
    have hl17 := hO15.len
    have hl18 := hO15.rd.bound
    have hq19 := sel_lenT x.Away k (ofM r) Away.Reader
    refine W.seq ?_
    refine W.regS (SR.q' (r_lt rfl rfl) <| SR.nil ?_)
    refine W.seq ?_
    refine W.cond_d rfl (fun h20 => ?_) (fun h20 => ?_)
    · refine W.skip ?_
      refine W.seq ?_
      refine W.block ?_
      refine W.seq ?_
      have hx22 := (hm14).elem (i := k) (by omega)
      refine W.regS (SR.q' (r_ixR tsl25 (hm14) rfl rfl (by omega)) <| SR.q' (r_lda (l := encAway (gt x.Away k)) agg57 rfl (fun _ _ hu => (hm14).cell hx22 hu) ((hm14).esz _)) <| SR.alloc (l := [.int .i64 0, .int .i64 0]) tz57 rfl ?_)
      intro g23 w24 hg25 hk26 hs27 hb28
      have hz29 := hk26.size
      have hB30 := hB12.lo hk26
      have hd31 : ¬ A9 = some ⟨g23, 0, none⟩ := fun e' => by have := (hO15).base_le e'; omega
      refine SR.store (o := 0) (vs := [.int .i64 ((gt x.Away k).Map), .int .i64 ((gt x.Away k).Reader)]) agg57.2 rfl rfl rfl rfl (hb28) (Nat.le_of_ble_eq_true rfl) rfl ?_
      intro w32 hk33 hs34 hb35
      have hz36 := hk33.size
      have hB37 := hB30.new hk33 (by omega)
      refine SR.nil ?_
      refine W.seq ?_
      have hm38 := ((hO15).lo hk26).kd hk33 hd31
      have hm39 := ((hm14).lo hk26).kn hk33 (by omega)
      refine W.regS (SR.q' (r_fa fa57_0 rfl) <| SR.q' (r_ld (v := .int .i64 ((gt x.Away k).Map)) sca3 rfl ((hb35).cell rfl)) <| SR.q' (r_mv (v := .int .i64 _) rfl) <| SR.q' (r_eq rfl rfl) <| SR.nil ?_)
      refine W.cond_d rfl (fun h40 => ?_) (fun h40 => ?_)
      · refine W.regS (SR.q' (r_mv (v := .slice _ _ _) rfl) <| SR.q' (r_fa fa57_1 rfl) <| SR.q' (r_ld (v := .int .i64 ((gt x.Away k).Reader)) sca3 rfl ((hb35).cell rfl)) <| SR.lit (vs := [.int .i64 ((gt x.Away k).Reader)]) (L := ([(gt x.Away k).Reader] : List Int)) (enc := encI) tel30 (fun _ => rfl) rfl rfl rfl (by decide) ?_)
        intro g41 w42 hg43 hk44 hO45
        have hz46 := hk44.size
        have hB47 := hB37.lo hk44
        refine SR.app tel30 rfl rfl ((hm38).lo hk44) ((hO45).rd) (fun _ => rfl) (by omega) (by omega) ?_
        intro A49 c50 w51 hk52 hO53 hN54
        have hz55 := hk52.size
        have hB56 := hB47.step hk52 (fun i_ hi_ e' => by have := (((hm38).lo hk44)).base_le e'; first | omega | (exfalso; omega) | exact e' | exact .inl e' | exact .inr e')
        refine SR.q' (r_as (v := .slice _ _ _) rfl) <| SR.nil ?_
        have hm59 := ((hm39).lo hk44).kp hk52 (fun b_ hb e' => by have := (((hm38).lo hk44)).base_le e'; omega)
        refine W.regS (SR.q' (r_add rfl rfl (by omega)) <| SR.q' (r_mv (v := .int .i64 _) rfl) <| SR.nil ?_)
        refine ⟨(k + 1, A49, n9 + 1, c50), _, rfl, ⟨rfl, rfl, rfl, rfl, rfl, rfl, trivial⟩, ⟨hB56, hm59, (SlO.eqv (hO53) (by first | exact sel_yes (by omega) (decide_eq_true ‹_›) | exact sel_no (by omega) (decide_eq_false ‹_›))), ?_⟩, ?_⟩
        · exact (by omega)
        · exact (by omega)
      · refine W.skip ?_
        refine W.regS (SR.q' (r_add rfl rfl (by omega)) <| SR.q' (r_mv (v := .int .i64 _) rfl) <| SR.nil ?_)
        refine ⟨(k + 1, A9, n9, c9), _, rfl, ⟨rfl, rfl, rfl, rfl, rfl, rfl, trivial⟩, ⟨hB37, hm39, (SlO.eqv (hm38) (by first | exact sel_yes (by omega) (decide_eq_true ‹_›) | exact sel_no (by omega) (decide_eq_false ‹_›))), ?_⟩, ?_⟩
        · exact (by omega)
        · exact (by omega)
    · refine W.exit (xin_here ?_)
      refine W.seq ?_
      refine W.regS (SR.q' (r_mv (v := .slice _ _ _) rfl) <| SR.q' (r_as (v := .slice _ _ _) rfl) <| SR.nil ?_)
      refine W.ret ?_
      refine ret1 rfl (v := .slice _ _ _) rfl ?_
      exact ⟨A9, n9, c9, eR rfl, (SlO.eqv ((hO15).down (by omega)) (by exact sel_end (by omega))), hB12⟩

theorem c_spec_l32At (w : World) (x : Library) {Ax_Maps : Option Addr} {nx_Maps cx_Maps Bx_Maps : Nat} (hx_Maps : SlR w Bx_Maps encLMap 3 Ax_Maps nx_Maps cx_Maps x.Maps) {Ax_Away : Option Addr} {nx_Away cx_Away Bx_Away : Nat} (hx_Away : SlR w Bx_Away encAway 2 Ax_Away nx_Away cx_Away x.Away) (r : Int) (hp0 : nx_Away ≤ 8) : Calls Tryd.prog 32 #[.agg (List.toArray [.slice Ax_Maps nx_Maps cx_Maps, .slice Ax_Away nx_Away cx_Away, .int .i64 x.Bought, .int .i64 x.Dropped, .int .i64 x.Mended]), .int .i64 r] w fun e w' => ∃ (A1' : Option Addr) (n1' c1' : Nat), e = .returned (.slice A1' n1' c1') ∧ SlO w' w.heap.size encI 1 3 A1' n1' c1' (selL (ofM r) Away.Reader x.Away) ∧ Lo w w' := by
  refine calls_W 33 Tryd.func32 rfl rfl rfl ?_
  have hbdx_Maps := hx_Maps.bound
  have hlex_Maps := hx_Maps.len
  have hBbx_Maps := hx_Maps.bd
  have hbdx_Away := hx_Away.bound
  have hlex_Away := hx_Away.len
  have hBbx_Away := hx_Away.bd
  refine W.seq ?_
  refine W.regS (SR.box (v := .agg (List.toArray _)) (l := [.slice Ax_Maps nx_Maps cx_Maps, .slice Ax_Away nx_Away cx_Away, .int .i64 x.Bought, .int .i64 x.Dropped, .int .i64 x.Mended]) rfl rfl ?_)
  intro g1 w2 hg3 hk4 hs5 hb6
  have hz7 := hk4.size
  have hB8 := (Lo.refl w).lo hk4
  refine SR.q' (r_as (v := .slice none 0 0) rfl) <| SR.nil ?_
  refine W.seq ?_
  refine W.regS (SR.lit (vs := []) (L := ([] : List Int)) (enc := encI) tel30 (fun _ => rfl) rfl rfl rfl (by decide) ?_)
  intro g9 w10 hg11 hk12 hO13
  have hz14 := hk12.size
  have hB15 := hB8.lo hk12
  refine SR.q' (r_as (v := .slice _ _ _) rfl) <| SR.nil ?_
  refine W.seq ?_
  refine W.seq ?_
  have hm16 := ((hx_Maps).lo hk4).lo hk12
  have hm17 := ((hx_Away).lo hk4).lo hk12
  refine W.regS (SR.q' (r_as (v := .int .i64 0) rfl) <| SR.nil ?_)
  refine W.block ?_
  refine W.loop (σ := Nat × (Option Addr) × Nat × Nat) (fun g => [(1, .int .i64 r), (2, .pointer (pA g1)), (4, .slice none 0 0), (5, .slice g.2.1 g.2.2.1 g.2.2.2), (6, .int .i64 (g.1 : Int))]) (fun g w' => (Lo w w') ∧ (Blk w' g1 27 [.slice Ax_Maps nx_Maps cx_Maps, .slice Ax_Away nx_Away cx_Away, .int .i64 x.Bought, .int .i64 x.Dropped, .int .i64 x.Mended]) ∧ (SlR w' Bx_Maps encLMap 3 Ax_Maps nx_Maps cx_Maps x.Maps) ∧ (SlR w' Bx_Away encAway 2 Ax_Away nx_Away cx_Away x.Away) ∧ (SlO w' w.heap.size encI 1 3 g.2.1 g.2.2.1 g.2.2.2 (selL (ofM r) Away.Reader (x.Away.take g.1))) ∧ (¬ g.2.1 = some ⟨g1, 0, none⟩) ∧ (g.1 ≤ nx_Away)) (fun g => nx_Away - g.1) (0, (pA g9), 0, 0) ?_ ?_ ?_
  · exact ⟨rfl, rfl, rfl, rfl, rfl, trivial⟩
  · show (Lo w w10) ∧ (Blk w10 g1 27 [.slice Ax_Maps nx_Maps cx_Maps, .slice Ax_Away nx_Away cx_Away, .int .i64 x.Bought, .int .i64 x.Dropped, .int .i64 x.Mended]) ∧ (SlR w10 Bx_Maps encLMap 3 Ax_Maps nx_Maps cx_Maps x.Maps) ∧ (SlR w10 Bx_Away encAway 2 Ax_Away nx_Away cx_Away x.Away) ∧ (SlO w10 w.heap.size encI 1 3 (pA g9) 0 0 (selL (ofM r) Away.Reader (x.Away.take 0))) ∧ (¬ (pA g9) = some ⟨g1, 0, none⟩) ∧ (0 ≤ nx_Away)
    exact ⟨hB15, (hb6).lo hk12, hm16, hm17, (SlO.eqv ((hO13).down (by omega)) (by rfl)), (fun e' => by have := (hO13).base_le e'; omega), (by omega)⟩
  · rintro ⟨k, A18, n18, c18⟩ f19 w20 hP22
    obtain ⟨hB21, hm23, hm24, hm25, hO26, hd28, hi27⟩ : (Lo w w20) ∧ (Blk w20 g1 27 [.slice Ax_Maps nx_Maps cx_Maps, .slice Ax_Away nx_Away cx_Away, .int .i64 x.Bought, .int .i64 x.Dropped, .int .i64 x.Mended]) ∧ (SlR w20 Bx_Maps encLMap 3 Ax_Maps nx_Maps cx_Maps x.Maps) ∧ (SlR w20 Bx_Away encAway 2 Ax_Away nx_Away cx_Away x.Away) ∧ (SlO w20 w.heap.size encI 1 3 A18 n18 c18 (selL (ofM r) Away.Reader (x.Away.take k))) ∧ (¬ A18 = some ⟨g1, 0, none⟩) ∧ (k ≤ nx_Away) := hP22
    refine (?_ : W _ _ _ _ _ (act _ (sets f19 [(1, .int .i64 r), (2, .pointer (pA g1)), (4, .slice none 0 0), (5, .slice A18 n18 c18), (6, .int .i64 (k : Int))])) _)
    have hzw20 := hB21.size
    have hl29 := hm23.lt
    have hl30 := hO26.len
    have hl31 := hO26.rd.bound
    have hq32 := sel_lenT x.Away k (ofM r) Away.Reader
    refine W.seq ?_
    refine W.seq ?_
    refine W.regS (SR.q' (r_mv (v := .int .i64 _) rfl) <| SR.q' (r_fa fa27_1 rfl) <| SR.q' (r_ld (v := .slice Ax_Away nx_Away cx_Away) sca25 rfl ((hm23).cell rfl)) <| SR.q' (r_len und25 rfl) <| SR.q' (r_lt rfl rfl) <| SR.nil ?_)
    refine W.cond_d rfl (fun h33 => ?_) (fun h33 => ?_)
    · refine W.skip ?_
      refine W.seq ?_
      refine W.block ?_
      refine W.seq ?_
      refine W.regS (SR.q' (r_fa fa27_1 rfl) <| SR.q' (r_ld (v := .slice Ax_Away nx_Away cx_Away) sca25 rfl ((hm23).cell rfl)) <| SR.q' (r_mv (v := .int .i64 _) rfl) <| ?_)
      have hx35 := (hm25).elem (i := k) (by omega)
      refine SR.q' (r_ixR tsl25 (hm25) rfl rfl (by omega)) <| SR.q' (r_fa fa57_0 rfl) <| SR.q' (r_ld (v := .int .i64 ((gt x.Away k).Map)) sca3 rfl ((hm25).cell hx35 rfl)) <| SR.q' (r_mv (v := .int .i64 _) rfl) <| SR.q' (r_eq rfl rfl) <| SR.nil ?_
      refine W.cond_d rfl (fun h36 => ?_) (fun h36 => ?_)
      · refine W.regS (SR.q' (r_mv (v := .slice _ _ _) rfl) <| SR.q' (r_fa fa27_1 rfl) <| SR.q' (r_ld (v := .slice Ax_Away nx_Away cx_Away) sca25 rfl ((hm23).cell rfl)) <| SR.q' (r_mv (v := .int .i64 _) rfl) <| SR.q' (r_ixR tsl25 (hm25) rfl rfl (by omega)) <| SR.q' (r_fa fa57_1 rfl) <| SR.q' (r_ld (v := .int .i64 ((gt x.Away k).Reader)) sca3 rfl ((hm25).cell hx35 rfl)) <| SR.lit (vs := [.int .i64 ((gt x.Away k).Reader)]) (L := ([(gt x.Away k).Reader] : List Int)) (enc := encI) tel30 (fun _ => rfl) rfl rfl rfl (by decide) ?_)
        intro g37 w38 hg39 hk40 hO41
        have hz42 := hk40.size
        have hB43 := hB21.lo hk40
        refine SR.app tel30 rfl rfl ((hO26).lo hk40) ((hO41).rd) (fun _ => rfl) (by omega) (by omega) ?_
        intro A45 c46 w47 hk48 hO49 hN50
        have hz51 := hk48.size
        have hB52 := hB43.step hk48 (fun i_ hi_ e' => by have := (((hO26).lo hk40)).base_le e'; first | omega | (exfalso; omega) | exact e' | exact .inl e' | exact .inr e')
        have hd53 : ¬ A45 = some ⟨g1, 0, none⟩ := fun e' => (hN50 g1 e').elim (fun h => hd28 (h.trans e')) (fun h => by have := ((hm23).lo hk40).lt; omega)
        refine SR.q' (r_as (v := .slice _ _ _) rfl) <| SR.nil ?_
        have hm55 := ((hm23).lo hk40).kp hk48 (fun e' => hd28 e')
        have hm56 := ((hm24).lo hk40).kp hk48 (fun b_ hb e' => by have := (((hO26).lo hk40)).base_le e'; omega)
        have hm57 := ((hm25).lo hk40).kp hk48 (fun b_ hb e' => by have := (((hO26).lo hk40)).base_le e'; omega)
        refine W.regS (SR.q' (r_mv (v := .int .i64 _) rfl) <| SR.q' (r_add rfl rfl (by omega)) <| SR.q' (r_as (v := .int .i64 _) rfl) <| SR.nil ?_)
        refine ⟨(k + 1, A45, n18 + 1, c46), _, rfl, ⟨rfl, rfl, rfl, rfl, rfl, trivial⟩, (show (Lo w w47) ∧ (Blk w47 g1 27 [.slice Ax_Maps nx_Maps cx_Maps, .slice Ax_Away nx_Away cx_Away, .int .i64 x.Bought, .int .i64 x.Dropped, .int .i64 x.Mended]) ∧ (SlR w47 Bx_Maps encLMap 3 Ax_Maps nx_Maps cx_Maps x.Maps) ∧ (SlR w47 Bx_Away encAway 2 Ax_Away nx_Away cx_Away x.Away) ∧ (SlO w47 w.heap.size encI 1 3 A45 (n18 + 1) c46 (selL (ofM r) Away.Reader (x.Away.take (k + 1)))) ∧ (¬ A45 = some ⟨g1, 0, none⟩) ∧ (k + 1 ≤ nx_Away) from ⟨hB52, hm55, hm56, hm57, (SlO.eqv (hO49) (by first | exact sel_yes (by omega) (decide_eq_true ‹_›) | exact sel_no (by omega) (decide_eq_false ‹_›))), hd53, ?_⟩), ?_⟩
        · exact (by omega)
        · exact (by omega)
      · refine W.skip ?_
        refine W.regS (SR.q' (r_mv (v := .int .i64 _) rfl) <| SR.q' (r_add rfl rfl (by omega)) <| SR.q' (r_as (v := .int .i64 _) rfl) <| SR.nil ?_)
        refine ⟨(k + 1, A18, n18, c18), _, rfl, ⟨rfl, rfl, rfl, rfl, rfl, trivial⟩, (show (Lo w w20) ∧ (Blk w20 g1 27 [.slice Ax_Maps nx_Maps cx_Maps, .slice Ax_Away nx_Away cx_Away, .int .i64 x.Bought, .int .i64 x.Dropped, .int .i64 x.Mended]) ∧ (SlR w20 Bx_Maps encLMap 3 Ax_Maps nx_Maps cx_Maps x.Maps) ∧ (SlR w20 Bx_Away encAway 2 Ax_Away nx_Away cx_Away x.Away) ∧ (SlO w20 w.heap.size encI 1 3 A18 n18 c18 (selL (ofM r) Away.Reader (x.Away.take (k + 1)))) ∧ (¬ A18 = some ⟨g1, 0, none⟩) ∧ (k + 1 ≤ nx_Away) from ⟨hB21, hm23, hm24, hm25, (SlO.eqv (hO26) (by first | exact sel_yes (by omega) (decide_eq_true ‹_›) | exact sel_no (by omega) (decide_eq_false ‹_›))), hd28, ?_⟩), ?_⟩
        · exact (by omega)
        · exact (by omega)
    · refine W.exit (xin_here ?_)
      refine W.seq ?_
      refine W.regS (SR.q' (r_mv (v := .slice _ _ _) rfl) <| SR.q' (r_as (v := .slice _ _ _) rfl) <| SR.nil ?_)
      refine W.ret ?_
      refine ret1 rfl (v := .slice _ _ _) rfl ?_
      exact ⟨A18, n18, c18, eR rfl, (SlO.eqv ((hO26).down (by omega)) (by exact sel_end (by omega))), hB21⟩

theorem c_impl_ReadersOf (w : World) (x : Library) {Ax_Maps : Option Addr} {nx_Maps cx_Maps Bx_Maps : Nat} (hx_Maps : SlR w Bx_Maps encLMap 3 Ax_Maps nx_Maps cx_Maps x.Maps) {Ax_Away : Option Addr} {nx_Away cx_Away Bx_Away : Nat} (hx_Away : SlR w Bx_Away encAway 2 Ax_Away nx_Away cx_Away x.Away) (id : Int) (hp0 : (nx_Maps : Int) ≤ 1048576) : Calls Tryd.prog 6 #[.agg (List.toArray [.slice Ax_Maps nx_Maps cx_Maps, .slice Ax_Away nx_Away cx_Away, .int .i64 x.Bought, .int .i64 x.Dropped, .int .i64 x.Mended]), .int .i64 id] w fun e w' => ∃ (A1' : Option Addr) (n1' c1' : Nat), e = .returned (.tuple (List.toArray [.slice A1' n1' c1', .bool (decide (LibOK x ∧ 0 ≤ idxF (hasId id) x.Maps))])) ∧ SlO w' w.heap.size encI 1 3 A1' n1' c1' (if LibOK x ∧ 0 ≤ idxF (hasId id) x.Maps then selL (ofM id) Away.Reader x.Away else []) ∧ Lo w w' := by
  refine calls_W 24 Tryd.func6 rfl rfl rfl ?_
  have hbdx_Maps := hx_Maps.bound
  have hlex_Maps := hx_Maps.len
  have hBbx_Maps := hx_Maps.bd
  have hbdx_Away := hx_Away.bound
  have hlex_Away := hx_Away.len
  have hBbx_Away := hx_Away.bd
  refine W.seq ?_
  refine W.regS (SR.box (v := .agg (List.toArray _)) (l := [.slice Ax_Maps nx_Maps cx_Maps, .slice Ax_Away nx_Away cx_Away, .int .i64 x.Bought, .int .i64 x.Dropped, .int .i64 x.Mended]) rfl rfl ?_)
  intro g1 w2 hg3 hk4 hs5 hb6
  have hz7 := hk4.size
  have hB8 := (Lo.refl w).lo hk4
  refine SR.q' (r_as (v := .slice none 0 0) rfl) <| SR.q' (r_as (v := .bool false) rfl) <| SR.nil ?_
  refine W.seq ?_
  refine W.seq ?_
  refine W.regS (SR.q' (r_lda (l := [.slice Ax_Maps nx_Maps cx_Maps, .slice Ax_Away nx_Away cx_Away, .int .i64 x.Bought, .int .i64 x.Dropped, .int .i64 x.Mended]) agg27 rfl (fun _ _ hu => (hb6).cell hu) rfl) <| SR.q' (r_mv (v := .int .i64 _) rfl) <| SR.call ent27 (c__impl_Library__mapAt w2 x (((hx_Maps).lo hk4)) (((hx_Away).lo hk4)) id (by omega)) rfl ?_)
  rintro e w9 ⟨rfl, hk10⟩
  refine ⟨_, rfl, ?_⟩
  have hz11 := hk10.size
  have hB12 := hB8.lo hk10
  have hq13 : bsP cmpM id x.Maps ≤ x.Maps.length := bsP_le
  refine SR.q' (r_mv (v := .tuple (List.toArray _)) rfl) <| SR.q' (r_ext (v := .int .i64 _) rfl rfl) <| SR.q' (r_ext (v := .bool _) rfl rfl) <| SR.q' (r_as (v := .int .i64 _) rfl) <| SR.q' (r_as (v := .bool _) rfl) <| SR.nil ?_
  refine W.seq ?_
  have hm14 := ((hx_Maps).lo hk4).lo hk10
  have hm15 := ((hx_Away).lo hk4).lo hk10
  refine W.regJS (fun f' w' => At f' [(1, .int .i64 id), (2, .pointer (pA g1)), (4, .slice none 0 0), (5, .bool false), (20, .bool (decide ((¬ (bsF cmpM id x.Maps)) ∨ (¬ (LibOK x)))))] ∧ Lo w9 w') ?_ ?_
  · refine SR.q' (r_mv (v := .bool _) rfl) <| SR.q' (r_not rfl) <| SR.q' (r_mv (v := .bool _) rfl) <| SR.splitN (fun h16 => ?_) (fun h16 => ?_)
    · refine SR.s' rfl <| SR.s' rfl <| SR.s' rfl <| SR.q' (r_pick true rfl (v := .bool true) rfl) <| SR.nil ?_
      exact ⟨_, rfl, ⟨⟨rfl, rfl, rfl, rfl, (eDT ((jmf h16).1 trivial)), trivial⟩, (Lo.refl _)⟩⟩
    · have hq17 := And.left h16
      have hq18 := And.left h16
      refine SR.g' rfl (r_lda (l := [.slice Ax_Maps nx_Maps cx_Maps, .slice Ax_Away nx_Away cx_Away, .int .i64 x.Bought, .int .i64 x.Dropped, .int .i64 x.Mended]) agg27 rfl (fun _ _ hu => ((hb6).lo hk10).cell hu) rfl) <| SR.gcall rfl ent28 (c_impl_IsLibrary w9 x ((hm14)) ((hm15)) (by omega)) rfl ?_
      rintro e w19 ⟨rfl, hk20⟩
      refine ⟨_, rfl, ?_⟩
      have hz21 := hk20.size
      have hB22 := hB12.lo hk20
      refine SR.g' rfl (r_not rfl) <| SR.q' (r_pick false rfl (v := .bool _) rfl) <| SR.nil ?_
      exact ⟨_, rfl, ⟨⟨rfl, rfl, rfl, rfl, (eND (jmt h16)), trivial⟩, (hk20)⟩⟩
  rintro f23 w24 ⟨hat25, hk26⟩
  rw [← sets_of_at hat25]
  have hz27 := hk26.size
  have hB28 := hB12.lo hk26
  refine W.cond_d rfl (fun h29 => ?_) (fun h29 => ?_)
  · refine W.seq ?_
    refine W.regS (SR.q' (r_as (v := .slice none 0 0) rfl) <| SR.q' (r_as (v := .bool false) rfl) <| SR.nil ?_)
    refine W.ret ?_
    refine ret2 rfl (v := .slice none 0 0) (v' := .bool _) rfl rfl ?_
    exact ⟨none, 0, 0, eR (eT2 rfl (eDF (by first | exact ro_yes ‹_› ‹_› | exact ro_no ‹_›))), (SlO.eqv (SlO.nil (e := 3) (enc := encI) (fun _ => rfl) (by omega)) (by first | (rw [if_pos (ro_yes ‹_› ‹_›)]) | (rw [if_neg (ro_no ‹_›)]))), hB28⟩
  · have hq31 : bsF cmpM id x.Maps := (Classical.not_not.1 (not_or.1 h29).1)
    have hq32 : LibOK x := (Classical.not_not.1 (not_or.1 h29).2)
    have hq33 := And.left hq31
    have hq34 := And.left hq31
    have hq35 := And.left hq32
    have hq36 := lib_len hq32
    have hq37 := And.left hq35
    have hq38 := And.right hq35
    refine W.skip ?_
    refine W.seq ?_
    have hm39 := ((hb6).lo hk10).lo hk26
    refine W.regS (SR.q' (r_lda (l := [.slice Ax_Maps nx_Maps cx_Maps, .slice Ax_Away nx_Away cx_Away, .int .i64 x.Bought, .int .i64 x.Dropped, .int .i64 x.Mended]) agg27 rfl (fun _ _ hu => (hm39).cell hu) rfl) <| SR.q' (r_mv (v := .int .i64 _) rfl) <| SR.call ent29 (c__impl_Library__readersOf w24 x (((hm14).lo hk26)) (((hm15).lo hk26)) id (by omega)) rfl ?_)
    rintro e w40 ⟨A42, n43, c44, rfl, hO45, hk41⟩
    refine ⟨_, rfl, ?_⟩
    have hz46 := hk41.size
    have hB47 := hB28.lo hk41
    have hl48 := hO45.len
    have hl49 := hO45.rd.bound
    have hq50 := sel_len x.Away (ofM id) Away.Reader
    refine SR.q' (r_as (v := .slice _ _ _) rfl) <| SR.q' (r_as (v := .bool true) rfl) <| SR.nil ?_
    refine W.ret ?_
    refine ret2 rfl (v := .slice _ _ _) (v' := .bool _) rfl rfl ?_
    exact ⟨A42, n43, c44, eR (eT2 rfl (eDT (by first | exact ro_yes ‹_› ‹_› | exact ro_no ‹_›))), (SlO.eqv ((hO45).down (by omega)) (by first | (rw [if_pos (ro_yes ‹_› ‹_›)]) | (rw [if_neg (ro_no ‹_›)]))), hB47⟩

theorem c_spec_ReadersOf (w : World) (x : Library) {Ax_Maps : Option Addr} {nx_Maps cx_Maps Bx_Maps : Nat} (hx_Maps : SlR w Bx_Maps encLMap 3 Ax_Maps nx_Maps cx_Maps x.Maps) {Ax_Away : Option Addr} {nx_Away cx_Away Bx_Away : Nat} (hx_Away : SlR w Bx_Away encAway 2 Ax_Away nx_Away cx_Away x.Away) (id : Int) : Calls Tryd.prog 7 #[.agg (List.toArray [.slice Ax_Maps nx_Maps cx_Maps, .slice Ax_Away nx_Away cx_Away, .int .i64 x.Bought, .int .i64 x.Dropped, .int .i64 x.Mended]), .int .i64 id] w fun e w' => ∃ (A1' : Option Addr) (n1' c1' : Nat), e = .returned (.tuple (List.toArray [.slice A1' n1' c1', .bool (decide (LibOK x ∧ 0 ≤ idxF (hasId id) x.Maps))])) ∧ SlO w' w.heap.size encI 1 3 A1' n1' c1' (if LibOK x ∧ 0 ≤ idxF (hasId id) x.Maps then selL (ofM id) Away.Reader x.Away else []) ∧ Lo w w' := by
  refine calls_W 19 Tryd.func7 rfl rfl rfl ?_
  have hbdx_Maps := hx_Maps.bound
  have hlex_Maps := hx_Maps.len
  have hBbx_Maps := hx_Maps.bd
  have hbdx_Away := hx_Away.bound
  have hlex_Away := hx_Away.len
  have hBbx_Away := hx_Away.bd
  refine W.seq ?_
  refine W.regS (SR.box (v := .agg (List.toArray _)) (l := [.slice Ax_Maps nx_Maps cx_Maps, .slice Ax_Away nx_Away cx_Away, .int .i64 x.Bought, .int .i64 x.Dropped, .int .i64 x.Mended]) rfl rfl ?_)
  intro g1 w2 hg3 hk4 hs5 hb6
  have hz7 := hk4.size
  have hB8 := (Lo.refl w).lo hk4
  refine SR.q' (r_as (v := .slice none 0 0) rfl) <| SR.q' (r_as (v := .bool false) rfl) <| SR.nil ?_
  refine W.seq ?_
  refine W.seq ?_
  refine W.regJS (fun f' w' => At f' [(1, .int .i64 id), (2, .pointer (pA g1)), (4, .slice none 0 0), (5, .bool false), (14, .bool (decide ((¬ (LibOK x)) ∨ ((idxF (hasId id) x.Maps) < 0))))] ∧ Lo w2 w') ?_ ?_
  · refine SR.q' (r_lda (l := [.slice Ax_Maps nx_Maps cx_Maps, .slice Ax_Away nx_Away cx_Away, .int .i64 x.Bought, .int .i64 x.Dropped, .int .i64 x.Mended]) agg27 rfl (fun _ _ hu => (hb6).cell hu) rfl) <| SR.call ent30 (c_spec_l32Good w2 x (((hx_Maps).lo hk4)) (((hx_Away).lo hk4))) rfl ?_
    rintro e w9 ⟨rfl, hk10⟩
    refine ⟨_, rfl, ?_⟩
    have hz11 := hk10.size
    have hB12 := hB8.lo hk10
    refine SR.q' (r_not rfl) <| SR.q' (r_mv (v := .bool _) rfl) <| SR.splitN (fun h13 => ?_) (fun h13 => ?_)
    · refine SR.s' rfl <| SR.s' rfl <| SR.s' rfl <| SR.s' rfl <| SR.q' (r_pick true rfl (v := .bool true) rfl) <| SR.nil ?_
      exact ⟨_, rfl, ⟨⟨rfl, rfl, rfl, rfl, (eDT ((jmf h13).1 trivial)), trivial⟩, (hk10)⟩⟩
    · have hq14 := And.left h13
      have hq15 := lib_len h13
      have hq16 := And.left hq14
      have hq17 := And.right hq14
      refine SR.g' rfl (r_lda (l := [.slice Ax_Maps nx_Maps cx_Maps, .slice Ax_Away nx_Away cx_Away, .int .i64 x.Bought, .int .i64 x.Dropped, .int .i64 x.Mended]) agg27 rfl (fun _ _ hu => ((hb6).lo hk10).cell hu) rfl) <| SR.g' rfl (r_mv (v := .int .i64 _) rfl) <| SR.gcall rfl ent31 (c_spec_l32Map w9 x ((((hx_Maps).lo hk4).lo hk10)) ((((hx_Away).lo hk4).lo hk10)) id) rfl ?_
      rintro e w18 ⟨rfl, hk19⟩
      refine ⟨_, rfl, ?_⟩
      have hz20 := hk19.size
      have hB21 := hB12.lo hk19
      have hq22 : idxF (hasId id) x.Maps < (x.Maps.length : Int) ∧ -1 ≤ idxF (hasId id) x.Maps := idx_lt
      refine SR.g' rfl (r_lt rfl rfl) <| SR.q' (r_pick false rfl (v := .bool _) rfl) <| SR.nil ?_
      exact ⟨_, rfl, ⟨⟨rfl, rfl, rfl, rfl, (eDD (jmt h13)), trivial⟩, ((hk10).trans hk19)⟩⟩
  rintro f23 w24 ⟨hat25, hk26⟩
  rw [← sets_of_at hat25]
  have hz27 := hk26.size
  have hB28 := hB8.lo hk26
  refine W.cond_d rfl (fun h29 => ?_) (fun h29 => ?_)
  · refine W.seq ?_
    refine W.regS (SR.lit (vs := []) (L := ([] : List Int)) (enc := encI) tel30 (fun _ => rfl) rfl rfl rfl (by decide) ?_)
    intro g32 w33 hg34 hk35 hO36
    have hz37 := hk35.size
    have hB38 := hB28.lo hk35
    refine SR.q' (r_as (v := .slice _ _ _) rfl) <| SR.q' (r_as (v := .bool false) rfl) <| SR.nil ?_
    refine W.ret ?_
    refine ret2 rfl (v := .slice _ _ _) (v' := .bool _) rfl rfl ?_
    exact ⟨(pA g32), 0, 0, eR (eT2 rfl (eDF (by first | exact ⟨‹LibOK x›, by omega⟩ | exact ro_noS ‹_›))), (SlO.eqv ((hO36).down (by omega)) (by first | (rw [if_pos ⟨‹LibOK x›, by omega⟩]) | (rw [if_neg (ro_noS ‹_›)]))), hB38⟩
  · have hq39 : LibOK x := (Classical.not_not.1 (not_or.1 h29).1)
    have hq40 : ¬ ((idxF (hasId id) x.Maps) < 0) := (not_or.1 h29).2
    have hq41 := And.left hq39
    have hq42 := lib_len hq39
    have hq43 := Int.not_lt.1 hq40
    have hq44 := And.left hq41
    have hq45 := And.right hq41
    refine W.skip ?_
    refine W.seq ?_
    have hm46 := ((hx_Maps).lo hk4).lo hk26
    have hm47 := ((hx_Away).lo hk4).lo hk26
    refine W.regS (SR.q' (r_lda (l := [.slice Ax_Maps nx_Maps cx_Maps, .slice Ax_Away nx_Away cx_Away, .int .i64 x.Bought, .int .i64 x.Dropped, .int .i64 x.Mended]) agg27 rfl (fun _ _ hu => ((hb6).lo hk26).cell hu) rfl) <| SR.q' (r_mv (v := .int .i64 _) rfl) <| SR.call ent32 (c_spec_l32At w24 x ((hm46)) ((hm47)) id (by omega)) rfl ?_)
    rintro e w48 ⟨A50, n51, c52, rfl, hO53, hk49⟩
    refine ⟨_, rfl, ?_⟩
    have hz54 := hk49.size
    have hB55 := hB28.lo hk49
    have hl56 := hO53.len
    have hl57 := hO53.rd.bound
    have hq58 := sel_len x.Away (ofM id) Away.Reader
    refine SR.q' (r_as (v := .slice _ _ _) rfl) <| SR.q' (r_as (v := .bool true) rfl) <| SR.nil ?_
    refine W.ret ?_
    refine ret2 rfl (v := .slice _ _ _) (v' := .bool _) rfl rfl ?_
    exact ⟨A50, n51, c52, eR (eT2 rfl (eDT (by first | exact ⟨‹LibOK x›, by omega⟩ | exact ro_noS ‹_›))), (SlO.eqv ((hO53).down (by omega)) (by first | (rw [if_pos ⟨‹LibOK x›, by omega⟩]) | (rw [if_neg (ro_noS ‹_›)]))), hB55⟩
end Go.Proofs.YtgobbcilgcbkaaaDoor
