/- Walks, printed by a program of this claim's author. -/
import Derived.Test.YtgobbcilgcbkaaaChecked
import Derived.Test.YtgobbcilgcbkaaaUa
import Derived.Test.YtgobbcilgcbkaaaFu
import Derived.Test.YtgobbcilgcbkaaaFs
import Derived.Test.YtgobbcilgcbkaaaFq
import Derived.Test.YtgobbcilgcbkaaaFo
import Derived.Test.YtgobbcilgcbkaaaDa
import Derived.Test.YtgobbcilgcbkaaaG32o
namespace Go.Proofs.Ytgobbcilgcbkaaa
open Go Go.RowKit Fw
set_option maxRecDepth 10000
set_option maxHeartbeats 2000000
set_option linter.unusedVariables false
theorem ent35 : Ent Try.prog 35 := ent_of Try.func35 (by decide +kernel) rfl

theorem c_impl_CopiesThere (w : World) (x : Library) {Ax_Maps : Option Addr} {nx_Maps cx_Maps Bx_Maps : Nat} (hx_Maps : SlR w Bx_Maps encLMap 3 Ax_Maps nx_Maps cx_Maps x.Maps) {Ax_Away : Option Addr} {nx_Away cx_Away Bx_Away : Nat} (hx_Away : SlR w Bx_Away encAway 2 Ax_Away nx_Away cx_Away x.Away) (hp0 : (nx_Maps : Int) ≤ 1048576) : Calls Try.prog 11 #[.agg (List.toArray [.slice Ax_Maps nx_Maps cx_Maps, .slice Ax_Away nx_Away cx_Away, .int .i64 x.Bought, .int .i64 x.Dropped, .int .i64 x.Mended])] w fun e w' => e = .returned (.tuple (List.toArray [.int .i64 (if LibOK x then sumC x.Maps else 0), .bool (decide (LibOK x))])) ∧ Lo w w' := by
  refine calls_W 9 Try.func11 rfl rfl rfl ?_
  have hbdx_Maps := hx_Maps.bound
  have hlex_Maps := hx_Maps.len
  have hBbx_Maps := hx_Maps.bd
  have hbdx_Away := hx_Away.bound
  have hlex_Away := hx_Away.len
  have hBbx_Away := hx_Away.bd
  refine W.seq ?_
  refine W.regS (SR.box (v := .agg (List.toArray _)) (l := [.slice Ax_Maps nx_Maps cx_Maps, .slice Ax_Away nx_Away cx_Away, .int .i64 x.Bought, .int .i64 x.Dropped, .int .i64 x.Mended]) rfl rfl ?_)
  intro g1 w2 hg3 hk4 hs5 hb6
  have hz7 := hk4.size
  have hB8 := (Lo.refl w).lo hk4
  refine SR.q' (r_as (v := .int .i64 0) rfl) <| SR.q' (r_as (v := .bool false) rfl) <| SR.nil ?_
  refine W.seq ?_
  refine W.seq ?_
  refine W.regS (SR.q' (r_lda (l := [.slice Ax_Maps nx_Maps cx_Maps, .slice Ax_Away nx_Away cx_Away, .int .i64 x.Bought, .int .i64 x.Dropped, .int .i64 x.Mended]) agg27 rfl (fun _ _ hu => (hb6).cell hu) rfl) <| SR.call ent9 (c_impl_IsLibrary w2 x (((hx_Maps).lo hk4)) (((hx_Away).lo hk4)) (by omega)) rfl ?_)
  rintro e w9 ⟨rfl, hk10⟩
  refine ⟨_, rfl, ?_⟩
  have hz11 := hk10.size
  have hB12 := hB8.lo hk10
  refine SR.q' (r_not rfl) <| SR.nil ?_
  refine W.cond_n rfl (fun h13 => ?_) (fun h13 => ?_)
  · refine W.seq ?_
    refine W.regS (SR.q' (r_as (v := .int .i64 0) rfl) <| SR.q' (r_as (v := .bool false) rfl) <| SR.nil ?_)
    refine W.ret ?_
    refine ret2 rfl (v := .int .i64 _) (v' := .bool _) rfl rfl ?_
    exact ⟨eR (eT2 (eI (by first | assumption | simp [*])) (eDF h13)), hB12⟩
  · have hq14 := And.left h13
    have hq15 := lib_len h13
    have hq16 := And.left hq14
    have hq17 := And.right hq14
    refine W.skip ?_
    refine W.seq ?_
    refine W.regS (SR.q' (r_lda (l := [.slice Ax_Maps nx_Maps cx_Maps, .slice Ax_Away nx_Away cx_Away, .int .i64 x.Bought, .int .i64 x.Dropped, .int .i64 x.Mended]) agg27 rfl (fun _ _ hu => ((hb6).lo hk10).cell hu) rfl) <| SR.call ent34 (c__impl_Library__copies w9 x ((((hx_Maps).lo hk4).lo hk10)) ((((hx_Away).lo hk4).lo hk10)) (by first | assumption | exact MTo.end_ (And.right ‹_ ∧ MTo _ _›) (by omega)) (by omega)) rfl ?_)
    rintro e w18 ⟨rfl, hk19⟩
    refine ⟨_, rfl, ?_⟩
    have hz20 := hk19.size
    have hB21 := hB12.lo hk19
    have hq22 : 0 ≤ sumC x.Maps ∧ sumC x.Maps ≤ 792 := sumC_rng (by first | assumption | exact MTo.end_ (And.right ‹_ ∧ MTo _ _›) (by omega)) (by omega)
    refine SR.q' (r_as (v := .int .i64 _) rfl) <| SR.q' (r_as (v := .bool true) rfl) <| SR.nil ?_
    refine W.ret ?_
    refine ret2 rfl (v := .int .i64 _) (v' := .bool _) rfl rfl ?_
    exact ⟨eR (eT2 (eI (by first | assumption | simp [*])) (eDT h13)), hB21⟩

theorem c_impl_MapsAt (w : World) (x : Library) {Ax_Maps : Option Addr} {nx_Maps cx_Maps Bx_Maps : Nat} (hx_Maps : SlR w Bx_Maps encLMap 3 Ax_Maps nx_Maps cx_Maps x.Maps) {Ax_Away : Option Addr} {nx_Away cx_Away Bx_Away : Nat} (hx_Away : SlR w Bx_Away encAway 2 Ax_Away nx_Away cx_Away x.Away) (r : Int) (hp0 : (nx_Maps : Int) ≤ 1048576) : Calls Try.prog 13 #[.agg (List.toArray [.slice Ax_Maps nx_Maps cx_Maps, .slice Ax_Away nx_Away cx_Away, .int .i64 x.Bought, .int .i64 x.Dropped, .int .i64 x.Mended]), .int .i64 r] w fun e w' => ∃ (A1' : Option Addr) (n1' c1' : Nat), e = .returned (.tuple (List.toArray [.slice A1' n1' c1', .bool (decide (LibOK x ∧ (1 ≤ r ∧ r ≤ 999)))])) ∧ SlO w' w.heap.size encI 1 3 A1' n1' c1' (if LibOK x ∧ (1 ≤ r ∧ r ≤ 999) then selL (atR r) Away.Map x.Away else []) ∧ Lo w w' := by
  refine calls_W 35 Try.func13 rfl rfl rfl ?_
  have hbdx_Maps := hx_Maps.bound
  have hlex_Maps := hx_Maps.len
  have hBbx_Maps := hx_Maps.bd
  have hbdx_Away := hx_Away.bound
  have hlex_Away := hx_Away.len
  have hBbx_Away := hx_Away.bd
  refine W.seq ?_
  refine W.regS (SR.box (v := .agg (List.toArray _)) (l := [.slice Ax_Maps nx_Maps cx_Maps, .slice Ax_Away nx_Away cx_Away, .int .i64 x.Bought, .int .i64 x.Dropped, .int .i64 x.Mended]) rfl rfl ?_)
  intro g1 w2 hg3 hk4 hs5 hb6
  have hz7 := hk4.size
  have hB8 := (Lo.refl w).lo hk4
  refine SR.q' (r_as (v := .slice none 0 0) rfl) <| SR.q' (r_as (v := .bool false) rfl) <| SR.nil ?_
  refine W.seq ?_
  refine W.seq ?_
  refine W.regJS (fun f' w' => At f' [(1, .int .i64 r), (2, .pointer (pA g1)), (4, .slice none 0 0), (5, .bool false), (16, .bool (decide ((¬ (LibOK x)) ∨ (¬ (1 ≤ r ∧ r ≤ 999)))))] ∧ Lo w2 w') ?_ ?_
  · refine SR.q' (r_lda (l := [.slice Ax_Maps nx_Maps cx_Maps, .slice Ax_Away nx_Away cx_Away, .int .i64 x.Bought, .int .i64 x.Dropped, .int .i64 x.Mended]) agg27 rfl (fun _ _ hu => (hb6).cell hu) rfl) <| SR.call ent9 (c_impl_IsLibrary w2 x (((hx_Maps).lo hk4)) (((hx_Away).lo hk4)) (by omega)) rfl ?_
    rintro e w9 ⟨rfl, hk10⟩
    refine ⟨_, rfl, ?_⟩
    have hz11 := hk10.size
    have hB12 := hB8.lo hk10
    refine SR.q' (r_not rfl) <| SR.q' (r_mv (v := .bool _) rfl) <| SR.splitN (fun h13 => ?_) (fun h13 => ?_)
    · refine SR.s' rfl <| SR.s' rfl <| SR.s' rfl <| SR.q' (r_pick true rfl (v := .bool true) rfl) <| SR.nil ?_
      exact ⟨_, rfl, ⟨⟨rfl, rfl, rfl, rfl, (eDT ((jmf h13).1 trivial)), trivial⟩, (hk10)⟩⟩
    · have hq14 := And.left h13
      have hq15 := lib_len h13
      have hq16 := And.left hq14
      have hq17 := And.right hq14
      refine SR.g' rfl (r_mv (v := .int .i64 _) rfl) <| SR.gcall rfl ent31 (c_impl_isId w9 r) rfl ?_
      rintro e w18 ⟨rfl, hk19⟩
      refine ⟨_, rfl, ?_⟩
      have hz20 := hk19.size
      have hB21 := hB12.lo hk19
      refine SR.g' rfl (r_not rfl) <| SR.q' (r_pick false rfl (v := .bool _) rfl) <| SR.nil ?_
      exact ⟨_, rfl, ⟨⟨rfl, rfl, rfl, rfl, (eND (jmt h13)), trivial⟩, ((hk10).trans hk19)⟩⟩
  rintro f22 w23 ⟨hat24, hk25⟩
  rw [← sets_of_at hat24]
  have hz26 := hk25.size
  have hB27 := hB8.lo hk25
  refine W.cond_d rfl (fun h28 => ?_) (fun h28 => ?_)
  · refine W.seq ?_
    refine W.regS (SR.q' (r_as (v := .slice none 0 0) rfl) <| SR.q' (r_as (v := .bool false) rfl) <| SR.nil ?_)
    refine W.ret ?_
    refine ret2 rfl (v := .slice none 0 0) (v' := .bool _) rfl rfl ?_
    exact ⟨none, 0, 0, eR (eT2 rfl (eDF (by first | assumption | exact ⟨‹_›, ‹_›⟩ | exact not_and_of_not_or_not ‹_›))), (SlO.eqv (SlO.nil (e := 3) (enc := encI) (fun _ => rfl) (by omega)) (by first | (rw [if_pos (by first | assumption | exact ⟨‹_›, ‹_›⟩)]; exact sel_end (by omega)) | (rw [if_neg (by first | assumption | exact not_and_of_not_or_not ‹_›)]))), hB27⟩
  · have hq29 : LibOK x := (Classical.not_not.1 (not_or.1 h28).1)
    have hq30 : 1 ≤ r ∧ r ≤ 999 := (Classical.not_not.1 (not_or.1 h28).2)
    have hq31 := And.left hq29
    have hq32 := lib_len hq29
    have hq33 := And.left hq31
    have hq34 := And.right hq31
    refine W.skip ?_
    refine W.seq ?_
    refine W.regS (SR.q' (r_as (v := .slice none 0 0) rfl) <| SR.nil ?_)
    refine W.seq ?_
    refine W.seq ?_
    refine W.regS (SR.q' (r_fa fa27_1 rfl) <| SR.q' (r_ld (v := .slice Ax_Away nx_Away cx_Away) sca25 rfl (((hb6).lo hk25).cell rfl)) <| SR.q' (r_len und25 rfl) <| SR.q' (r_mv (v := .int .i64 0) rfl) <| SR.nil ?_)
    refine W.block ?_
    refine W.loop (σ := Nat × (Option Addr) × Nat × Nat) (fun g => [(1, .int .i64 r), (4, .slice none 0 0), (5, .bool false), (6, .slice g.2.1 g.2.2.1 g.2.2.2), (18, .slice Ax_Away nx_Away cx_Away), (19, .int .i64 (nx_Away : Int)), (20, .int .i64 (g.1 : Int))]) (fun g w' => (Lo w w') ∧ (SlR w' Bx_Away encAway 2 Ax_Away nx_Away cx_Away x.Away) ∧ (SlO w' w.heap.size encI 1 3 g.2.1 g.2.2.1 g.2.2.2 (selL (atR r) Away.Map (x.Away.take g.1))) ∧ (g.1 ≤ nx_Away)) (fun g => nx_Away - g.1) (0, (none : Option Addr), 0, 0) ?_ ?_ ?_
    · exact ⟨rfl, rfl, rfl, rfl, rfl, rfl, rfl, trivial⟩
    · exact ⟨hB27, ((hx_Away).lo hk4).lo hk25, (SlO.eqv (SlO.nil (base := w.heap.size) (e := 3) (enc := encI) (fun _ => rfl) (by omega)) (by rfl)), (by omega)⟩
    · rintro ⟨k, A35, n35, c35⟩ f36 w37 hP39
      obtain ⟨hB38, hm40, hO41, hi42⟩ : (Lo w w37) ∧ (SlR w37 Bx_Away encAway 2 Ax_Away nx_Away cx_Away x.Away) ∧ (SlO w37 w.heap.size encI 1 3 A35 n35 c35 (selL (atR r) Away.Map (x.Away.take k))) ∧ (k ≤ nx_Away) := hP39
      refine (?_ : W _ _ _ _ _ (act _ (sets f36 [(1, .int .i64 r), (4, .slice none 0 0), (5, .bool false), (6, .slice A35 n35 c35), (18, .slice Ax_Away nx_Away cx_Away), (19, .int .i64 (nx_Away : Int)), (20, .int .i64 (k : Int))])) _)
      have hzw37 := hB38.size
      have hl43 := hO41.len
      have hl44 := hO41.rd.bound
      have hq45 := sel_lenT x.Away k (atR r) Away.Map
      refine W.seq ?_
      refine W.regS (SR.q' (r_lt rfl rfl) <| SR.nil ?_)
      refine W.seq ?_
      refine W.cond_d rfl (fun h46 => ?_) (fun h46 => ?_)
      · refine W.skip ?_
        refine W.seq ?_
        refine W.block ?_
        refine W.seq ?_
        have hx48 := (hm40).elem (i := k) (by omega)
        refine W.regS (SR.q' (r_ixR tsl25 (hm40) rfl rfl (by omega)) <| SR.q' (r_lda (l := encAway (gt x.Away k)) agg63 rfl (fun _ _ hu => (hm40).cell hx48 hu) ((hm40).esz _)) <| SR.alloc (l := [.int .i64 0, .int .i64 0]) tz63 rfl ?_)
        intro g49 w50 hg51 hk52 hs53 hb54
        have hz55 := hk52.size
        have hB56 := hB38.lo hk52
        have hd57 : ¬ A35 = some ⟨g49, 0, none⟩ := fun e' => by have := (hO41).base_le e'; omega
        refine SR.store (o := 0) (vs := [.int .i64 ((gt x.Away k).Map), .int .i64 ((gt x.Away k).Reader)]) agg63.2 rfl rfl rfl rfl (hb54) (Nat.le_of_ble_eq_true rfl) rfl ?_
        intro w58 hk59 hs60 hb61
        have hz62 := hk59.size
        have hB63 := hB56.new hk59 (by omega)
        refine SR.nil ?_
        refine W.seq ?_
        refine W.regS (SR.q' (r_fa fa63_1 rfl) <| SR.q' (r_ld (v := .int .i64 ((gt x.Away k).Reader)) sca3 rfl ((hb61).cell rfl)) <| SR.q' (r_mv (v := .int .i64 _) rfl) <| SR.q' (r_eq rfl rfl) <| SR.nil ?_)
        refine W.cond_d rfl (fun h64 => ?_) (fun h64 => ?_)
        · refine W.regS (SR.q' (r_mv (v := .slice _ _ _) rfl) <| SR.q' (r_fa fa63_0 rfl) <| SR.q' (r_ld (v := .int .i64 ((gt x.Away k).Map)) sca3 rfl ((hb61).cell rfl)) <| SR.lit (vs := [.int .i64 ((gt x.Away k).Map)]) (L := ([(gt x.Away k).Map] : List Int)) (enc := encI) tel38 (fun _ => rfl) rfl rfl rfl (by decide) ?_)
          intro g65 w66 hg67 hk68 hO69
          have hz70 := hk68.size
          have hB71 := hB63.lo hk68
          refine SR.app tel38 rfl rfl ((((hO41).lo hk52).kd hk59 hd57).lo hk68) ((hO69).rd) (fun _ => rfl) (by omega) (by omega) ?_
          intro A73 c74 w75 hk76 hO77 hN78
          have hz79 := hk76.size
          have hB80 := hB71.step hk76 (fun i_ hi_ e' => by have := (((((hO41).lo hk52).kd hk59 hd57).lo hk68)).base_le e'; first | omega | (exfalso; omega) | exact e' | exact .inl e' | exact .inr e')
          refine SR.q' (r_as (v := .slice _ _ _) rfl) <| SR.nil ?_
          refine W.regS (SR.q' (r_add rfl rfl (by omega)) <| SR.q' (r_mv (v := .int .i64 _) rfl) <| SR.nil ?_)
          refine ⟨(k + 1, A73, n35 + 1, c74), _, rfl, ⟨rfl, rfl, rfl, rfl, rfl, rfl, rfl, trivial⟩, ⟨hB80, ((((hm40).lo hk52).kn hk59 (by omega)).lo hk68).kp hk76 (fun b_ hb e' => by have := (((((hO41).lo hk52).kd hk59 hd57).lo hk68)).base_le e'; omega), (SlO.eqv (hO77) (by first | exact sel_yes (by omega) (decide_eq_true ‹_›) | exact sel_no (by omega) (decide_eq_false ‹_›))), ?_⟩, ?_⟩
          · exact (by omega)
          · exact (by omega)
        · refine W.skip ?_
          refine W.regS (SR.q' (r_add rfl rfl (by omega)) <| SR.q' (r_mv (v := .int .i64 _) rfl) <| SR.nil ?_)
          refine ⟨(k + 1, A35, n35, c35), _, rfl, ⟨rfl, rfl, rfl, rfl, rfl, rfl, rfl, trivial⟩, ⟨hB63, ((hm40).lo hk52).kn hk59 (by omega), (SlO.eqv (((hO41).lo hk52).kd hk59 hd57) (by first | exact sel_yes (by omega) (decide_eq_true ‹_›) | exact sel_no (by omega) (decide_eq_false ‹_›))), ?_⟩, ?_⟩
          · exact (by omega)
          · exact (by omega)
      · refine W.exit (xin_here ?_)
        refine W.seq ?_
        refine W.regS (SR.q' (r_mv (v := .slice _ _ _) rfl) <| SR.q' (r_as (v := .slice _ _ _) rfl) <| SR.q' (r_as (v := .bool true) rfl) <| SR.nil ?_)
        refine W.ret ?_
        refine ret2 rfl (v := .slice _ _ _) (v' := .bool _) rfl rfl ?_
        exact ⟨A35, n35, c35, eR (eT2 rfl (eDT (by first | assumption | exact ⟨‹_›, ‹_›⟩ | exact not_and_of_not_or_not ‹_›))), (SlO.eqv ((hO41).down (by omega)) (by first | (rw [if_pos (by first | assumption | exact ⟨‹_›, ‹_›⟩)]; exact sel_end (by omega)) | (rw [if_neg (by first | assumption | exact not_and_of_not_or_not ‹_›)]))), hB38⟩

theorem c_impl_MayLend (w : World) (x : Library) {Ax_Maps : Option Addr} {nx_Maps cx_Maps Bx_Maps : Nat} (hx_Maps : SlR w Bx_Maps encLMap 3 Ax_Maps nx_Maps cx_Maps x.Maps) {Ax_Away : Option Addr} {nx_Away cx_Away Bx_Away : Nat} (hx_Away : SlR w Bx_Away encAway 2 Ax_Away nx_Away cx_Away x.Away) (hp0 : (nx_Maps : Int) ≤ 1048576) : Calls Try.prog 12 #[.agg (List.toArray [.slice Ax_Maps nx_Maps cx_Maps, .slice Ax_Away nx_Away cx_Away, .int .i64 x.Bought, .int .i64 x.Dropped, .int .i64 x.Mended])] w fun e w' => ∃ (A1' : Option Addr) (n1' c1' : Nat), e = .returned (.tuple (List.toArray [.slice A1' n1' c1', .bool (decide (LibOK x))])) ∧ SlO w' w.heap.size encI 1 3 A1' n1' c1' (if LibOK x then selL mayM LMap.Id x.Maps else []) ∧ Lo w w' := by
  refine calls_W 29 Try.func12 rfl rfl rfl ?_
  have hbdx_Maps := hx_Maps.bound
  have hlex_Maps := hx_Maps.len
  have hBbx_Maps := hx_Maps.bd
  have hbdx_Away := hx_Away.bound
  have hlex_Away := hx_Away.len
  have hBbx_Away := hx_Away.bd
  refine W.seq ?_
  refine W.regS (SR.box (v := .agg (List.toArray _)) (l := [.slice Ax_Maps nx_Maps cx_Maps, .slice Ax_Away nx_Away cx_Away, .int .i64 x.Bought, .int .i64 x.Dropped, .int .i64 x.Mended]) rfl rfl ?_)
  intro g1 w2 hg3 hk4 hs5 hb6
  have hz7 := hk4.size
  have hB8 := (Lo.refl w).lo hk4
  refine SR.q' (r_as (v := .slice none 0 0) rfl) <| SR.q' (r_as (v := .bool false) rfl) <| SR.nil ?_
  refine W.seq ?_
  refine W.seq ?_
  refine W.regS (SR.q' (r_lda (l := [.slice Ax_Maps nx_Maps cx_Maps, .slice Ax_Away nx_Away cx_Away, .int .i64 x.Bought, .int .i64 x.Dropped, .int .i64 x.Mended]) agg27 rfl (fun _ _ hu => (hb6).cell hu) rfl) <| SR.call ent9 (c_impl_IsLibrary w2 x (((hx_Maps).lo hk4)) (((hx_Away).lo hk4)) (by omega)) rfl ?_)
  rintro e w9 ⟨rfl, hk10⟩
  refine ⟨_, rfl, ?_⟩
  have hz11 := hk10.size
  have hB12 := hB8.lo hk10
  refine SR.q' (r_not rfl) <| SR.nil ?_
  refine W.cond_n rfl (fun h13 => ?_) (fun h13 => ?_)
  · refine W.seq ?_
    refine W.regS (SR.q' (r_as (v := .slice none 0 0) rfl) <| SR.q' (r_as (v := .bool false) rfl) <| SR.nil ?_)
    refine W.ret ?_
    refine ret2 rfl (v := .slice none 0 0) (v' := .bool _) rfl rfl ?_
    exact ⟨none, 0, 0, eR (eT2 rfl (eDF h13)), (SlO.eqv (SlO.nil (e := 3) (enc := encI) (fun _ => rfl) (by omega)) (by first | (rw [if_pos (by first | assumption | exact ⟨‹_›, ‹_›⟩)]; exact sel_end (by omega)) | (rw [if_neg (by first | assumption | exact not_and_of_not_or_not ‹_›)]))), hB12⟩
  · have hq14 := And.left h13
    have hq15 := lib_len h13
    have hq16 := And.left hq14
    have hq17 := And.right hq14
    refine W.skip ?_
    refine W.seq ?_
    refine W.regS (SR.q' (r_as (v := .slice none 0 0) rfl) <| SR.nil ?_)
    refine W.seq ?_
    refine W.seq ?_
    refine W.regS (SR.q' (r_fa fa27_0 rfl) <| SR.q' (r_ld (v := .slice Ax_Maps nx_Maps cx_Maps) sca24 rfl (((hb6).lo hk10).cell rfl)) <| SR.q' (r_len und24 rfl) <| SR.q' (r_mv (v := .int .i64 0) rfl) <| SR.nil ?_)
    refine W.block ?_
    refine W.loop (σ := Nat × (Option Addr) × Nat × Nat) (fun g => [(2, .slice none 0 0), (3, .bool false), (4, .slice g.2.1 g.2.2.1 g.2.2.2), (11, .slice Ax_Maps nx_Maps cx_Maps), (12, .int .i64 (nx_Maps : Int)), (13, .int .i64 (g.1 : Int))]) (fun g w' => (Lo w w') ∧ (SlR w' Bx_Maps encLMap 3 Ax_Maps nx_Maps cx_Maps x.Maps) ∧ (SlO w' w.heap.size encI 1 3 g.2.1 g.2.2.1 g.2.2.2 (selL mayM LMap.Id (x.Maps.take g.1))) ∧ (g.1 ≤ nx_Maps)) (fun g => nx_Maps - g.1) (0, (none : Option Addr), 0, 0) ?_ ?_ ?_
    · exact ⟨rfl, rfl, rfl, rfl, rfl, rfl, trivial⟩
    · exact ⟨hB12, ((hx_Maps).lo hk4).lo hk10, (SlO.eqv (SlO.nil (base := w.heap.size) (e := 3) (enc := encI) (fun _ => rfl) (by omega)) (by rfl)), (by omega)⟩
    · rintro ⟨k, A18, n18, c18⟩ f19 w20 hP22
      obtain ⟨hB21, hm23, hO24, hi25⟩ : (Lo w w20) ∧ (SlR w20 Bx_Maps encLMap 3 Ax_Maps nx_Maps cx_Maps x.Maps) ∧ (SlO w20 w.heap.size encI 1 3 A18 n18 c18 (selL mayM LMap.Id (x.Maps.take k))) ∧ (k ≤ nx_Maps) := hP22
      refine (?_ : W _ _ _ _ _ (act _ (sets f19 [(2, .slice none 0 0), (3, .bool false), (4, .slice A18 n18 c18), (11, .slice Ax_Maps nx_Maps cx_Maps), (12, .int .i64 (nx_Maps : Int)), (13, .int .i64 (k : Int))])) _)
      have hzw20 := hB21.size
      have hl26 := hO24.len
      have hl27 := hO24.rd.bound
      have hq28 := sel_lenT x.Maps k mayM LMap.Id
      refine W.seq ?_
      refine W.regS (SR.q' (r_lt rfl rfl) <| SR.nil ?_)
      refine W.seq ?_
      refine W.cond_d rfl (fun h29 => ?_) (fun h29 => ?_)
      · refine W.skip ?_
        refine W.seq ?_
        refine W.block ?_
        refine W.seq ?_
        have hx31 := (hm23).elem (i := k) (by omega)
        refine W.regS (SR.q' (r_ixR tsl24 (hm23) rfl rfl (by omega)) <| SR.q' (r_lda (l := encLMap (gt x.Maps k)) agg59 rfl (fun _ _ hu => (hm23).cell hx31 hu) ((hm23).esz _)) <| SR.alloc (l := [.int .i64 0, .int .i64 0, .int .i64 0]) tz59 rfl ?_)
        intro g32 w33 hg34 hk35 hs36 hb37
        have hz38 := hk35.size
        have hB39 := hB21.lo hk35
        have hd40 : ¬ A18 = some ⟨g32, 0, none⟩ := fun e' => by have := (hO24).base_le e'; omega
        refine SR.store (o := 0) (vs := [.int .i64 ((gt x.Maps k).Id), .int .i64 ((gt x.Maps k).Copies), .int .i64 ((gt x.Maps k).Torn)]) agg59.2 rfl rfl rfl rfl (hb37) (Nat.le_of_ble_eq_true rfl) rfl ?_
        intro w41 hk42 hs43 hb44
        have hz45 := hk42.size
        have hB46 := hB39.new hk42 (by omega)
        refine SR.nil ?_
        refine W.seq ?_
        refine W.regS (SR.q' (r_fa fa59_1 rfl) <| SR.q' (r_ld (v := .int .i64 ((gt x.Maps k).Copies)) sca3 rfl ((hb44).cell rfl)) <| SR.q' (r_fa fa59_2 rfl) <| SR.q' (r_ld (v := .int .i64 ((gt x.Maps k).Torn)) sca3 rfl ((hb44).cell rfl)) <| SR.q' (r_gt rfl rfl) <| SR.nil ?_)
        refine W.cond_d rfl (fun h47 => ?_) (fun h47 => ?_)
        · refine W.regS (SR.q' (r_mv (v := .slice _ _ _) rfl) <| SR.q' (r_fa fa59_0 rfl) <| SR.q' (r_ld (v := .int .i64 ((gt x.Maps k).Id)) sca3 rfl ((hb44).cell rfl)) <| SR.lit (vs := [.int .i64 ((gt x.Maps k).Id)]) (L := ([(gt x.Maps k).Id] : List Int)) (enc := encI) tel38 (fun _ => rfl) rfl rfl rfl (by decide) ?_)
          intro g48 w49 hg50 hk51 hO52
          have hz53 := hk51.size
          have hB54 := hB46.lo hk51
          refine SR.app tel38 rfl rfl ((((hO24).lo hk35).kd hk42 hd40).lo hk51) ((hO52).rd) (fun _ => rfl) (by omega) (by omega) ?_
          intro A56 c57 w58 hk59 hO60 hN61
          have hz62 := hk59.size
          have hB63 := hB54.step hk59 (fun i_ hi_ e' => by have := (((((hO24).lo hk35).kd hk42 hd40).lo hk51)).base_le e'; first | omega | (exfalso; omega) | exact e' | exact .inl e' | exact .inr e')
          refine SR.q' (r_as (v := .slice _ _ _) rfl) <| SR.nil ?_
          refine W.regS (SR.q' (r_add rfl rfl (by omega)) <| SR.q' (r_mv (v := .int .i64 _) rfl) <| SR.nil ?_)
          refine ⟨(k + 1, A56, n18 + 1, c57), _, rfl, ⟨rfl, rfl, rfl, rfl, rfl, rfl, trivial⟩, ⟨hB63, ((((hm23).lo hk35).kn hk42 (by omega)).lo hk51).kp hk59 (fun b_ hb e' => by have := (((((hO24).lo hk35).kd hk42 hd40).lo hk51)).base_le e'; omega), (SlO.eqv (hO60) (by first | exact sel_yes (by omega) (decide_eq_true ‹_›) | exact sel_no (by omega) (decide_eq_false ‹_›))), ?_⟩, ?_⟩
          · exact (by omega)
          · exact (by omega)
        · refine W.skip ?_
          refine W.regS (SR.q' (r_add rfl rfl (by omega)) <| SR.q' (r_mv (v := .int .i64 _) rfl) <| SR.nil ?_)
          refine ⟨(k + 1, A18, n18, c18), _, rfl, ⟨rfl, rfl, rfl, rfl, rfl, rfl, trivial⟩, ⟨hB46, ((hm23).lo hk35).kn hk42 (by omega), (SlO.eqv (((hO24).lo hk35).kd hk42 hd40) (by first | exact sel_yes (by omega) (decide_eq_true ‹_›) | exact sel_no (by omega) (decide_eq_false ‹_›))), ?_⟩, ?_⟩
          · exact (by omega)
          · exact (by omega)
      · refine W.exit (xin_here ?_)
        refine W.seq ?_
        refine W.regS (SR.q' (r_mv (v := .slice _ _ _) rfl) <| SR.q' (r_as (v := .slice _ _ _) rfl) <| SR.q' (r_as (v := .bool true) rfl) <| SR.nil ?_)
        refine W.ret ?_
        refine ret2 rfl (v := .slice _ _ _) (v' := .bool _) rfl rfl ?_
        exact ⟨A18, n18, c18, eR (eT2 rfl (eDT h13)), (SlO.eqv ((hO24).down (by omega)) (by first | (rw [if_pos (by first | assumption | exact ⟨‹_›, ‹_›⟩)]; exact sel_end (by omega)) | (rw [if_neg (by first | assumption | exact not_and_of_not_or_not ‹_›)]))), hB21⟩

theorem c_impl_TornCopies (w : World) (x : Library) {Ax_Maps : Option Addr} {nx_Maps cx_Maps Bx_Maps : Nat} (hx_Maps : SlR w Bx_Maps encLMap 3 Ax_Maps nx_Maps cx_Maps x.Maps) {Ax_Away : Option Addr} {nx_Away cx_Away Bx_Away : Nat} (hx_Away : SlR w Bx_Away encAway 2 Ax_Away nx_Away cx_Away x.Away) (hp0 : (nx_Maps : Int) ≤ 1048576) : Calls Try.prog 15 #[.agg (List.toArray [.slice Ax_Maps nx_Maps cx_Maps, .slice Ax_Away nx_Away cx_Away, .int .i64 x.Bought, .int .i64 x.Dropped, .int .i64 x.Mended])] w fun e w' => e = .returned (.tuple (List.toArray [.int .i64 (if LibOK x then sumT x.Maps else 0), .bool (decide (LibOK x))])) ∧ Lo w w' := by
  refine calls_W 23 Try.func15 rfl rfl rfl ?_
  have hbdx_Maps := hx_Maps.bound
  have hlex_Maps := hx_Maps.len
  have hBbx_Maps := hx_Maps.bd
  have hbdx_Away := hx_Away.bound
  have hlex_Away := hx_Away.len
  have hBbx_Away := hx_Away.bd
  refine W.seq ?_
  refine W.regS (SR.box (v := .agg (List.toArray _)) (l := [.slice Ax_Maps nx_Maps cx_Maps, .slice Ax_Away nx_Away cx_Away, .int .i64 x.Bought, .int .i64 x.Dropped, .int .i64 x.Mended]) rfl rfl ?_)
  intro g1 w2 hg3 hk4 hs5 hb6
  have hz7 := hk4.size
  have hB8 := (Lo.refl w).lo hk4
  refine SR.q' (r_as (v := .int .i64 0) rfl) <| SR.q' (r_as (v := .bool false) rfl) <| SR.nil ?_
  refine W.seq ?_
  refine W.seq ?_
  refine W.regS (SR.q' (r_lda (l := [.slice Ax_Maps nx_Maps cx_Maps, .slice Ax_Away nx_Away cx_Away, .int .i64 x.Bought, .int .i64 x.Dropped, .int .i64 x.Mended]) agg27 rfl (fun _ _ hu => (hb6).cell hu) rfl) <| SR.call ent9 (c_impl_IsLibrary w2 x (((hx_Maps).lo hk4)) (((hx_Away).lo hk4)) (by omega)) rfl ?_)
  rintro e w9 ⟨rfl, hk10⟩
  refine ⟨_, rfl, ?_⟩
  have hz11 := hk10.size
  have hB12 := hB8.lo hk10
  refine SR.q' (r_not rfl) <| SR.nil ?_
  refine W.cond_n rfl (fun h13 => ?_) (fun h13 => ?_)
  · refine W.seq ?_
    refine W.regS (SR.q' (r_as (v := .int .i64 0) rfl) <| SR.q' (r_as (v := .bool false) rfl) <| SR.nil ?_)
    refine W.ret ?_
    refine ret2 rfl (v := .int .i64 _) (v' := .bool _) rfl rfl ?_
    exact ⟨eR (eT2 (eI (by first | assumption | simp [*])) (eDF h13)), hB12⟩
  · have hq14 := And.left h13
    have hq15 := lib_len h13
    have hq16 := And.left hq14
    have hq17 := And.right hq14
    refine W.skip ?_
    refine W.seq ?_
    refine W.regS (SR.q' (r_as (v := .int .i64 0) rfl) <| SR.nil ?_)
    refine W.seq ?_
    refine W.seq ?_
    refine W.regS (SR.q' (r_fa fa27_0 rfl) <| SR.q' (r_ld (v := .slice Ax_Maps nx_Maps cx_Maps) sca24 rfl (((hb6).lo hk10).cell rfl)) <| SR.q' (r_len und24 rfl) <| SR.q' (r_mv (v := .int .i64 0) rfl) <| SR.nil ?_)
    refine W.block ?_
    refine W.loop (σ := Nat × Int) (fun g => [(2, .int .i64 0), (3, .bool false), (4, .int .i64 g.2), (11, .slice Ax_Maps nx_Maps cx_Maps), (12, .int .i64 (nx_Maps : Int)), (13, .int .i64 (g.1 : Int))]) (fun g w' => (Lo w w') ∧ (SlR w' Bx_Maps encLMap 3 Ax_Maps nx_Maps cx_Maps x.Maps) ∧ (g.1 ≤ nx_Maps ∧ sumT (x.Maps.take g.1) = g.2 ∧ 0 ≤ g.2 ∧ g.2 ≤ 99 * (g.1 : Int))) (fun g => nx_Maps - g.1) (0, (0 : Int)) ?_ ?_ ?_
    · exact ⟨rfl, rfl, rfl, rfl, rfl, rfl, trivial⟩
    · exact ⟨hB12, ((hx_Maps).lo hk4).lo hk10, (by simp [sumT])⟩
    · rintro ⟨k, t⟩ f18 w19 hP21
      obtain ⟨hB20, hm22, hi23⟩ : (Lo w w19) ∧ (SlR w19 Bx_Maps encLMap 3 Ax_Maps nx_Maps cx_Maps x.Maps) ∧ (k ≤ nx_Maps ∧ sumT (x.Maps.take k) = t ∧ 0 ≤ t ∧ t ≤ 99 * (k : Int)) := hP21
      refine (?_ : W _ _ _ _ _ (act _ (sets f18 [(2, .int .i64 0), (3, .bool false), (4, .int .i64 t), (11, .slice Ax_Maps nx_Maps cx_Maps), (12, .int .i64 (nx_Maps : Int)), (13, .int .i64 (k : Int))])) _)
      have hzw19 := hB20.size
      refine W.seq ?_
      refine W.regS (SR.q' (r_lt rfl rfl) <| SR.nil ?_)
      refine W.seq ?_
      refine W.cond_d rfl (fun h24 => ?_) (fun h24 => ?_)
      · refine W.skip ?_
        refine W.seq ?_
        refine W.block ?_
        refine W.seq ?_
        have hx26 := (hm22).elem (i := k) (by omega)
        have hq27 := maps_rng ‹MapsOK x.Maps› hx26
        refine W.regS (SR.q' (r_ixR tsl24 (hm22) rfl rfl (by omega)) <| SR.q' (r_lda (l := encLMap (gt x.Maps k)) agg59 rfl (fun _ _ hu => (hm22).cell hx26 hu) ((hm22).esz _)) <| SR.alloc (l := [.int .i64 0, .int .i64 0, .int .i64 0]) tz59 rfl ?_)
        intro g28 w29 hg30 hk31 hs32 hb33
        have hz34 := hk31.size
        have hB35 := hB20.lo hk31
        refine SR.store (o := 0) (vs := [.int .i64 ((gt x.Maps k).Id), .int .i64 ((gt x.Maps k).Copies), .int .i64 ((gt x.Maps k).Torn)]) agg59.2 rfl rfl rfl rfl (hb33) (Nat.le_of_ble_eq_true rfl) rfl ?_
        intro w36 hk37 hs38 hb39
        have hz40 := hk37.size
        have hB41 := hB35.new hk37 (by omega)
        refine SR.nil ?_
        refine W.regS (SR.q' (r_mv (v := .int .i64 _) rfl) <| SR.q' (r_fa fa59_2 rfl) <| SR.q' (r_ld (v := .int .i64 ((gt x.Maps k).Torn)) sca3 rfl ((hb39).cell rfl)) <| SR.q' (r_add rfl rfl (by omega)) <| SR.q' (r_as (v := .int .i64 _) rfl) <| SR.nil ?_)
        refine W.regS (SR.q' (r_add rfl rfl (by omega)) <| SR.q' (r_mv (v := .int .i64 _) rfl) <| SR.nil ?_)
        refine ⟨(k + 1, t + ((gt x.Maps k).Torn)), _, rfl, ⟨rfl, rfl, rfl, rfl, rfl, rfl, trivial⟩, ⟨hB41, ((hm22).lo hk31).kn hk37 (by omega), ?_⟩, ?_⟩
        · exact (by have hh := ‹_ ∧ sumT _ = _ ∧ _›; have hq := maps_rng ‹MapsOK _› ‹x.Maps[k]? = some _›; exact ⟨by omega, by rw [sumT_snoc (by omega), hh.2.1], by omega, by omega⟩)
        · exact (by omega)
      · refine W.exit (xin_here ?_)
        refine W.seq ?_
        refine W.regS (SR.q' (r_mv (v := .int .i64 _) rfl) <| SR.q' (r_as (v := .int .i64 _) rfl) <| SR.q' (r_as (v := .bool true) rfl) <| SR.nil ?_)
        refine W.ret ?_
        refine ret2 rfl (v := .int .i64 _) (v' := .bool _) rfl rfl ?_
        exact ⟨eR (eT2 (eI (by rw [if_pos ‹_›]; have hh := ‹_ ∧ sumT _ = _ ∧ _›; rw [← hh.2.1, List.take_of_length_le (by omega)])) (eDT h13)), hB20⟩

theorem c__impl_Library__readersOf (w : World) (x : Library) {Ax_Maps : Option Addr} {nx_Maps cx_Maps Bx_Maps : Nat} (hx_Maps : SlR w Bx_Maps encLMap 3 Ax_Maps nx_Maps cx_Maps x.Maps) {Ax_Away : Option Addr} {nx_Away cx_Away Bx_Away : Nat} (hx_Away : SlR w Bx_Away encAway 2 Ax_Away nx_Away cx_Away x.Away) (r : Int) (hp0 : nx_Away ≤ 8) : Calls Try.prog 35 #[.agg (List.toArray [.slice Ax_Maps nx_Maps cx_Maps, .slice Ax_Away nx_Away cx_Away, .int .i64 x.Bought, .int .i64 x.Dropped, .int .i64 x.Mended]), .int .i64 r] w fun e w' => ∃ (A1' : Option Addr) (n1' c1' : Nat), e = .returned (.slice A1' n1' c1') ∧ SlO w' w.heap.size encI 1 3 A1' n1' c1' (selL (ofM r) Away.Reader x.Away) ∧ Lo w w' := by
  refine calls_W 26 Try.func35 rfl rfl rfl ?_
  have hbdx_Maps := hx_Maps.bound
  have hlex_Maps := hx_Maps.len
  have hBbx_Maps := hx_Maps.bd
  have hbdx_Away := hx_Away.bound
  have hlex_Away := hx_Away.len
  have hBbx_Away := hx_Away.bd
  refine W.seq ?_
  refine W.regS (SR.box (v := .agg (List.toArray _)) (l := [.slice Ax_Maps nx_Maps cx_Maps, .slice Ax_Away nx_Away cx_Away, .int .i64 x.Bought, .int .i64 x.Dropped, .int .i64 x.Mended]) rfl rfl ?_)
  intro g1 w2 hg3 hk4 hs5 hb6
  have hz7 := hk4.size
  have hB8 := (Lo.refl w).lo hk4
  refine SR.q' (r_as (v := .slice none 0 0) rfl) <| SR.nil ?_
  refine W.seq ?_
  refine W.regS (SR.q' (r_as (v := .slice none 0 0) rfl) <| SR.nil ?_)
  refine W.seq ?_
  refine W.seq ?_
  refine W.regS (SR.q' (r_fa fa27_1 rfl) <| SR.q' (r_ld (v := .slice Ax_Away nx_Away cx_Away) sca25 rfl ((hb6).cell rfl)) <| SR.q' (r_len und25 rfl) <| SR.q' (r_mv (v := .int .i64 0) rfl) <| SR.nil ?_)
  refine W.block ?_
  refine W.loop (σ := Nat × (Option Addr) × Nat × Nat) (fun g => [(1, .int .i64 r), (4, .slice none 0 0), (5, .slice g.2.1 g.2.2.1 g.2.2.2), (9, .slice Ax_Away nx_Away cx_Away), (10, .int .i64 (nx_Away : Int)), (11, .int .i64 (g.1 : Int))]) (fun g w' => (Lo w w') ∧ (SlR w' Bx_Away encAway 2 Ax_Away nx_Away cx_Away x.Away) ∧ (SlO w' w.heap.size encI 1 3 g.2.1 g.2.2.1 g.2.2.2 (selL (ofM r) Away.Reader (x.Away.take g.1))) ∧ (g.1 ≤ nx_Away)) (fun g => nx_Away - g.1) (0, (none : Option Addr), 0, 0) ?_ ?_ ?_
  · exact ⟨rfl, rfl, rfl, rfl, rfl, rfl, trivial⟩
  · exact ⟨hB8, (hx_Away).lo hk4, (SlO.eqv (SlO.nil (base := w.heap.size) (e := 3) (enc := encI) (fun _ => rfl) (by omega)) (by rfl)), (by omega)⟩
  · rintro ⟨k, A9, n9, c9⟩ f10 w11 hP13
    obtain ⟨hB12, hm14, hO15, hi16⟩ : (Lo w w11) ∧ (SlR w11 Bx_Away encAway 2 Ax_Away nx_Away cx_Away x.Away) ∧ (SlO w11 w.heap.size encI 1 3 A9 n9 c9 (selL (ofM r) Away.Reader (x.Away.take k))) ∧ (k ≤ nx_Away) := hP13
    refine (?_ : W _ _ _ _ _ (act _ (sets f10 [(1, .int .i64 r), (4, .slice none 0 0), (5, .slice A9 n9 c9), (9, .slice Ax_Away nx_Away cx_Away), (10, .int .i64 (nx_Away : Int)), (11, .int .i64 (k : Int))])) _)
    have hzw11 := hB12.size
    have hl17 := hO15.len
    have hl18 := hO15.rd.bound
    have hq19 := sel_lenT x.Away k (ofM r) Away.Reader
    refine W.seq ?_
    refine W.regS (SR.q' (r_lt rfl rfl) <| SR.nil ?_)
    refine W.seq ?_
    refine W.cond_d rfl (fun h20 => ?_) (fun h20 => ?_)
    · refine W.skip ?_
      refine W.seq ?_
      refine W.block ?_
      refine W.seq ?_
      have hx22 := (hm14).elem (i := k) (by omega)
      refine W.regS (SR.q' (r_ixR tsl25 (hm14) rfl rfl (by omega)) <| SR.q' (r_lda (l := encAway (gt x.Away k)) agg63 rfl (fun _ _ hu => (hm14).cell hx22 hu) ((hm14).esz _)) <| SR.alloc (l := [.int .i64 0, .int .i64 0]) tz63 rfl ?_)
      intro g23 w24 hg25 hk26 hs27 hb28
      have hz29 := hk26.size
      have hB30 := hB12.lo hk26
      have hd31 : ¬ A9 = some ⟨g23, 0, none⟩ := fun e' => by have := (hO15).base_le e'; omega
      refine SR.store (o := 0) (vs := [.int .i64 ((gt x.Away k).Map), .int .i64 ((gt x.Away k).Reader)]) agg63.2 rfl rfl rfl rfl (hb28) (Nat.le_of_ble_eq_true rfl) rfl ?_
      intro w32 hk33 hs34 hb35
      have hz36 := hk33.size
      have hB37 := hB30.new hk33 (by omega)
      refine SR.nil ?_
      refine W.seq ?_
      refine W.regS (SR.q' (r_fa fa63_0 rfl) <| SR.q' (r_ld (v := .int .i64 ((gt x.Away k).Map)) sca3 rfl ((hb35).cell rfl)) <| SR.q' (r_mv (v := .int .i64 _) rfl) <| SR.q' (r_eq rfl rfl) <| SR.nil ?_)
      refine W.cond_d rfl (fun h38 => ?_) (fun h38 => ?_)
      · refine W.regS (SR.q' (r_mv (v := .slice _ _ _) rfl) <| SR.q' (r_fa fa63_1 rfl) <| SR.q' (r_ld (v := .int .i64 ((gt x.Away k).Reader)) sca3 rfl ((hb35).cell rfl)) <| SR.lit (vs := [.int .i64 ((gt x.Away k).Reader)]) (L := ([(gt x.Away k).Reader] : List Int)) (enc := encI) tel38 (fun _ => rfl) rfl rfl rfl (by decide) ?_)
        intro g39 w40 hg41 hk42 hO43
        have hz44 := hk42.size
        have hB45 := hB37.lo hk42
        refine SR.app tel38 rfl rfl ((((hO15).lo hk26).kd hk33 hd31).lo hk42) ((hO43).rd) (fun _ => rfl) (by omega) (by omega) ?_
        intro A47 c48 w49 hk50 hO51 hN52
        have hz53 := hk50.size
        have hB54 := hB45.step hk50 (fun i_ hi_ e' => by have := (((((hO15).lo hk26).kd hk33 hd31).lo hk42)).base_le e'; first | omega | (exfalso; omega) | exact e' | exact .inl e' | exact .inr e')
        refine SR.q' (r_as (v := .slice _ _ _) rfl) <| SR.nil ?_
        refine W.regS (SR.q' (r_add rfl rfl (by omega)) <| SR.q' (r_mv (v := .int .i64 _) rfl) <| SR.nil ?_)
        refine ⟨(k + 1, A47, n9 + 1, c48), _, rfl, ⟨rfl, rfl, rfl, rfl, rfl, rfl, trivial⟩, ⟨hB54, ((((hm14).lo hk26).kn hk33 (by omega)).lo hk42).kp hk50 (fun b_ hb e' => by have := (((((hO15).lo hk26).kd hk33 hd31).lo hk42)).base_le e'; omega), (SlO.eqv (hO51) (by first | exact sel_yes (by omega) (decide_eq_true ‹_›) | exact sel_no (by omega) (decide_eq_false ‹_›))), ?_⟩, ?_⟩
        · exact (by omega)
        · exact (by omega)
      · refine W.skip ?_
        refine W.regS (SR.q' (r_add rfl rfl (by omega)) <| SR.q' (r_mv (v := .int .i64 _) rfl) <| SR.nil ?_)
        refine ⟨(k + 1, A9, n9, c9), _, rfl, ⟨rfl, rfl, rfl, rfl, rfl, rfl, trivial⟩, ⟨hB37, ((hm14).lo hk26).kn hk33 (by omega), (SlO.eqv (((hO15).lo hk26).kd hk33 hd31) (by first | exact sel_yes (by omega) (decide_eq_true ‹_›) | exact sel_no (by omega) (decide_eq_false ‹_›))), ?_⟩, ?_⟩
        · exact (by omega)
        · exact (by omega)
    · refine W.exit (xin_here ?_)
      refine W.seq ?_
      refine W.regS (SR.q' (r_mv (v := .slice _ _ _) rfl) <| SR.q' (r_as (v := .slice _ _ _) rfl) <| SR.nil ?_)
      refine W.ret ?_
      refine ret1 rfl (v := .slice _ _ _) rfl ?_
      exact ⟨A9, n9, c9, eR rfl, (SlO.eqv ((hO15).down (by omega)) (by exact sel_end (by omega))), hB12⟩

theorem c_impl_ReadersOf (w : World) (x : Library) {Ax_Maps : Option Addr} {nx_Maps cx_Maps Bx_Maps : Nat} (hx_Maps : SlR w Bx_Maps encLMap 3 Ax_Maps nx_Maps cx_Maps x.Maps) {Ax_Away : Option Addr} {nx_Away cx_Away Bx_Away : Nat} (hx_Away : SlR w Bx_Away encAway 2 Ax_Away nx_Away cx_Away x.Away) (id : Int) (hp0 : (nx_Maps : Int) ≤ 1048576) : Calls Try.prog 14 #[.agg (List.toArray [.slice Ax_Maps nx_Maps cx_Maps, .slice Ax_Away nx_Away cx_Away, .int .i64 x.Bought, .int .i64 x.Dropped, .int .i64 x.Mended]), .int .i64 id] w fun e w' => ∃ (A1' : Option Addr) (n1' c1' : Nat), e = .returned (.tuple (List.toArray [.slice A1' n1' c1', .bool (decide (LibOK x ∧ 0 ≤ idxF (hasId id) x.Maps))])) ∧ SlO w' w.heap.size encI 1 3 A1' n1' c1' (if LibOK x ∧ 0 ≤ idxF (hasId id) x.Maps then selL (ofM id) Away.Reader x.Away else []) ∧ Lo w w' := by
  refine calls_W 24 Try.func14 rfl rfl rfl ?_
  have hbdx_Maps := hx_Maps.bound
  have hlex_Maps := hx_Maps.len
  have hBbx_Maps := hx_Maps.bd
  have hbdx_Away := hx_Away.bound
  have hlex_Away := hx_Away.len
  have hBbx_Away := hx_Away.bd
  refine W.seq ?_
  refine W.regS (SR.box (v := .agg (List.toArray _)) (l := [.slice Ax_Maps nx_Maps cx_Maps, .slice Ax_Away nx_Away cx_Away, .int .i64 x.Bought, .int .i64 x.Dropped, .int .i64 x.Mended]) rfl rfl ?_)
  intro g1 w2 hg3 hk4 hs5 hb6
  have hz7 := hk4.size
  have hB8 := (Lo.refl w).lo hk4
  refine SR.q' (r_as (v := .slice none 0 0) rfl) <| SR.q' (r_as (v := .bool false) rfl) <| SR.nil ?_
  refine W.seq ?_
  refine W.seq ?_
  refine W.regS (SR.q' (r_lda (l := [.slice Ax_Maps nx_Maps cx_Maps, .slice Ax_Away nx_Away cx_Away, .int .i64 x.Bought, .int .i64 x.Dropped, .int .i64 x.Mended]) agg27 rfl (fun _ _ hu => (hb6).cell hu) rfl) <| SR.q' (r_mv (v := .int .i64 _) rfl) <| SR.call ent30 (c__impl_Library__mapAt w2 x (((hx_Maps).lo hk4)) (((hx_Away).lo hk4)) id (by omega)) rfl ?_)
  rintro e w9 ⟨rfl, hk10⟩
  refine ⟨_, rfl, ?_⟩
  have hz11 := hk10.size
  have hB12 := hB8.lo hk10
  have hq13 : bsP cmpM id x.Maps ≤ x.Maps.length := bsP_le
  refine SR.q' (r_mv (v := .tuple (List.toArray _)) rfl) <| SR.q' (r_ext (v := .int .i64 _) rfl rfl) <| SR.q' (r_ext (v := .bool _) rfl rfl) <| SR.q' (r_as (v := .int .i64 _) rfl) <| SR.q' (r_as (v := .bool _) rfl) <| SR.nil ?_
  refine W.seq ?_
  refine W.regJS (fun f' w' => At f' [(1, .int .i64 id), (2, .pointer (pA g1)), (4, .slice none 0 0), (5, .bool false), (20, .bool (decide ((¬ (bsF cmpM id x.Maps)) ∨ (¬ (LibOK x)))))] ∧ Lo w9 w') ?_ ?_
  · refine SR.q' (r_mv (v := .bool _) rfl) <| SR.q' (r_not rfl) <| SR.q' (r_mv (v := .bool _) rfl) <| SR.splitN (fun h14 => ?_) (fun h14 => ?_)
    · refine SR.s' rfl <| SR.s' rfl <| SR.s' rfl <| SR.q' (r_pick true rfl (v := .bool true) rfl) <| SR.nil ?_
      exact ⟨_, rfl, ⟨⟨rfl, rfl, rfl, rfl, (eDT ((jmf h14).1 trivial)), trivial⟩, (Lo.refl _)⟩⟩
    · have hq15 := And.left h14
      refine SR.g' rfl (r_lda (l := [.slice Ax_Maps nx_Maps cx_Maps, .slice Ax_Away nx_Away cx_Away, .int .i64 x.Bought, .int .i64 x.Dropped, .int .i64 x.Mended]) agg27 rfl (fun _ _ hu => ((hb6).lo hk10).cell hu) rfl) <| SR.gcall rfl ent9 (c_impl_IsLibrary w9 x ((((hx_Maps).lo hk4).lo hk10)) ((((hx_Away).lo hk4).lo hk10)) (by omega)) rfl ?_
      rintro e w16 ⟨rfl, hk17⟩
      refine ⟨_, rfl, ?_⟩
      have hz18 := hk17.size
      have hB19 := hB12.lo hk17
      refine SR.g' rfl (r_not rfl) <| SR.q' (r_pick false rfl (v := .bool _) rfl) <| SR.nil ?_
      exact ⟨_, rfl, ⟨⟨rfl, rfl, rfl, rfl, (eND (jmt h14)), trivial⟩, (hk17)⟩⟩
  rintro f20 w21 ⟨hat22, hk23⟩
  rw [← sets_of_at hat22]
  have hz24 := hk23.size
  have hB25 := hB12.lo hk23
  refine W.cond_d rfl (fun h26 => ?_) (fun h26 => ?_)
  · refine W.seq ?_
    refine W.regS (SR.q' (r_as (v := .slice none 0 0) rfl) <| SR.q' (r_as (v := .bool false) rfl) <| SR.nil ?_)
    refine W.ret ?_
    refine ret2 rfl (v := .slice none 0 0) (v' := .bool _) rfl rfl ?_
    exact ⟨none, 0, 0, eR (eT2 rfl (eDF (by first | exact ro_yes ‹_› ‹_› | exact ro_no ‹_›))), (SlO.eqv (SlO.nil (e := 3) (enc := encI) (fun _ => rfl) (by omega)) (by first | (rw [if_pos (ro_yes ‹_› ‹_›)]) | (rw [if_neg (ro_no ‹_›)]))), hB25⟩
  · have hq27 : bsF cmpM id x.Maps := (Classical.not_not.1 (not_or.1 h26).1)
    have hq28 : LibOK x := (Classical.not_not.1 (not_or.1 h26).2)
    have hq29 := And.left hq27
    have hq30 := And.left hq28
    have hq31 := lib_len hq28
    have hq32 := And.left hq30
    have hq33 := And.right hq30
    refine W.skip ?_
    refine W.seq ?_
    refine W.regS (SR.q' (r_lda (l := [.slice Ax_Maps nx_Maps cx_Maps, .slice Ax_Away nx_Away cx_Away, .int .i64 x.Bought, .int .i64 x.Dropped, .int .i64 x.Mended]) agg27 rfl (fun _ _ hu => (((hb6).lo hk10).lo hk23).cell hu) rfl) <| SR.q' (r_mv (v := .int .i64 _) rfl) <| SR.call ent35 (c__impl_Library__readersOf w21 x (((((hx_Maps).lo hk4).lo hk10).lo hk23)) (((((hx_Away).lo hk4).lo hk10).lo hk23)) id (by omega)) rfl ?_)
    rintro e w34 ⟨A36, n37, c38, rfl, hO39, hk35⟩
    refine ⟨_, rfl, ?_⟩
    have hz40 := hk35.size
    have hB41 := hB25.lo hk35
    have hl42 := hO39.len
    have hl43 := hO39.rd.bound
    refine SR.q' (r_as (v := .slice _ _ _) rfl) <| SR.q' (r_as (v := .bool true) rfl) <| SR.nil ?_
    refine W.ret ?_
    refine ret2 rfl (v := .slice _ _ _) (v' := .bool _) rfl rfl ?_
    exact ⟨A36, n37, c38, eR (eT2 rfl (eDT (by first | exact ro_yes ‹_› ‹_› | exact ro_no ‹_›))), (SlO.eqv ((hO39).down (by omega)) (by first | (rw [if_pos (ro_yes ‹_› ‹_›)]) | (rw [if_neg (ro_no ‹_›)]))), hB41⟩
end Go.Proofs.Ytgobbcilgcbkaaa
