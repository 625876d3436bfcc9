/- Walks, printed by a program of this claim's author. -/
import Derived.Test.YtgobbcilgcbkaaaChecked
import Derived.Test.YtgobbcilgcbkaaaUa
import Derived.Test.YtgobbcilgcbkaaaFu
import Derived.Test.YtgobbcilgcbkaaaFs
import Derived.Test.YtgobbcilgcbkaaaFq
import Derived.Test.YtgobbcilgcbkaaaFo
import Derived.Test.YtgobbcilgcbkaaaDa
import Derived.Test.YtgobbcilgcbkaaaUg
import Derived.Test.YtgobbcilgcbkaaaG32m
namespace Go.Proofs.Ytgobbcilgcbkaaa
open Go Go.RowKit Fw
set_option maxRecDepth 10000
set_option maxHeartbeats 2000000
set_option linter.unusedVariables false
theorem tsl43 : TSl Try.prog 43 29 4 := ⟨by kernel_rfl, fun _ => by kernel_rfl⟩
theorem tz29 : TZ Try.prog 29 (.agg (List.toArray [.int .i64 0, .int .i64 0, .int .i64 0, .int .i64 0])) := fun _ => by kernel_rfl
theorem und43 : Try.prog.underlying 43 = some (.slice 29) := by kernel_rfl

theorem c_impl_RunLibrary (w : World) (x : Library) {Ax_Maps : Option Addr} {nx_Maps cx_Maps Bx_Maps : Nat} (hx_Maps : SlR w Bx_Maps encLMap 3 Ax_Maps nx_Maps cx_Maps x.Maps) {Ax_Away : Option Addr} {nx_Away cx_Away Bx_Away : Nat} (hx_Away : SlR w Bx_Away encAway 2 Ax_Away nx_Away cx_Away x.Away) {AS : Option Addr} {nS cS BS : Nat}  (S : List LibraryStep) (hS : SlR w BS encLibraryStep 4 AS nS cS S) (hp0 : (nx_Maps : Int) ≤ 1048576) : Calls Try.prog 18 #[.agg (List.toArray [.slice Ax_Maps nx_Maps cx_Maps, .slice Ax_Away nx_Away cx_Away, .int .i64 x.Bought, .int .i64 x.Dropped, .int .i64 x.Mended]), .slice AS nS cS] w fun e w' => ∃ (A1' : Option Addr) (n1' c1' : Nat) (A2' : Option Addr) (n2' c2' : Nat), e = .returned (.tuple (List.toArray [.agg (List.toArray [.slice A1' n1' c1', .slice A2' n2' c2', .int .i64 (((runFL x S).1).Bought), .int .i64 (((runFL x S).1).Dropped), .int .i64 (((runFL x S).1).Mended)]), .int .i64 ((runFL x S).2.1), .bool ((runFL x S).2.2)])) ∧ SlO w' w.heap.size encLMap 3 59 A1' n1' c1' (((runFL x S).1).Maps) ∧ SlO w' w.heap.size encAway 2 63 A2' n2' c2' (((runFL x S).1).Away) ∧ (∀ b_, A1' = some ⟨b_, 0, none⟩ → ¬ A2' = some ⟨b_, 0, none⟩) ∧ Lo w w' := by
  refine calls_W 43 Try.func18 rfl rfl rfl ?_
  have hbdx_Maps := hx_Maps.bound
  have hlex_Maps := hx_Maps.len
  have hBbx_Maps := hx_Maps.bd
  have hbdx_Away := hx_Away.bound
  have hlex_Away := hx_Away.len
  have hBbx_Away := hx_Away.bd
  have hbdS := hS.bound
  have hleS := hS.len
  have hBbS := hS.bd
  refine W.seq ?_
  refine W.regS (SR.box (v := .agg (List.toArray _)) (l := [.slice Ax_Maps nx_Maps cx_Maps, .slice Ax_Away nx_Away cx_Away, .int .i64 x.Bought, .int .i64 x.Dropped, .int .i64 x.Mended]) rfl rfl ?_)
  intro g1 w2 hg3 hk4 hs5 hb6
  have hz7 := hk4.size
  have hB8 := (Lo.refl w).lo hk4
  refine SR.alloc (l := [.slice none 0 0, .slice none 0 0, .int .i64 0, .int .i64 0, .int .i64 0]) tz27 rfl ?_
  intro g9 w10 hg11 hk12 hs13 hb14
  have hz15 := hk12.size
  have hB16 := hB8.lo hk12
  refine SR.q' (r_as (v := .int .i64 0) rfl) <| SR.q' (r_as (v := .bool false) rfl) <| SR.nil ?_
  refine W.seq ?_
  refine W.seq ?_
  have hm17 := ((hS).lo hk4).lo hk12
  have hm18 := ((hx_Maps).lo hk4).lo hk12
  have hm19 := ((hx_Away).lo hk4).lo hk12
  refine W.regJS (fun f' w' => At f' [(1, .slice AS nS cS), (2, .pointer (pA g1)), (4, .pointer (pA g9)), (5, .int .i64 0), (6, .bool false), (20, .bool (decide ((¬ (LibOK x)) ∨ (40 < (nS : Int)))))] ∧ Lo w10 w') ?_ ?_
  · refine SR.q' (r_lda (l := [.slice Ax_Maps nx_Maps cx_Maps, .slice Ax_Away nx_Away cx_Away, .int .i64 x.Bought, .int .i64 x.Dropped, .int .i64 x.Mended]) agg27 rfl (fun _ _ hu => ((hb6).lo hk12).cell hu) rfl) <| SR.call ent9 (c_impl_IsLibrary w10 x ((hm18)) ((hm19)) (by omega)) rfl ?_
    rintro e w20 ⟨rfl, hk21⟩
    refine ⟨_, rfl, ?_⟩
    have hz22 := hk21.size
    have hB23 := hB16.lo hk21
    refine SR.q' (r_not rfl) <| SR.q' (r_mv (v := .bool _) rfl) <| SR.splitN (fun h24 => ?_) (fun h24 => ?_)
    · refine SR.s' rfl <| SR.s' rfl <| SR.s' rfl <| SR.q' (r_pick true rfl (v := .bool true) rfl) <| SR.nil ?_
      exact ⟨_, rfl, ⟨⟨rfl, rfl, rfl, rfl, rfl, (eDT ((jmf h24).1 trivial)), trivial⟩, (hk21)⟩⟩
    · have hq25 := And.left h24
      have hq26 := lib_len h24
      have hq27 := And.left hq25
      have hq28 := And.right hq25
      refine SR.g' rfl (r_mv (v := .slice _ _ _) rfl) <| SR.g' rfl (r_len und43 rfl) <| SR.g' rfl (r_gt rfl rfl) <| SR.q' (r_pick false rfl (v := .bool _) rfl) <| SR.nil ?_
      exact ⟨_, rfl, ⟨⟨rfl, rfl, rfl, rfl, rfl, (eDD (jmt h24)), trivial⟩, (hk21)⟩⟩
  rintro f29 w30 ⟨hat31, hk32⟩
  rw [← sets_of_at hat31]
  have hz33 := hk32.size
  have hB34 := hB16.lo hk32
  refine W.cond_d rfl (fun h35 => ?_) (fun h35 => ?_)
  · refine W.seq ?_
    refine W.regS (SR.q' (r_build (vs := []) rfl (bld27_)) <| SR.store (o := 0) (vs := [.slice none 0 0, .slice none 0 0, .int .i64 0, .int .i64 0, .int .i64 0]) agg27.2 rfl rfl rfl rfl ((hb14).lo hk32) (Nat.le_of_ble_eq_true rfl) rfl ?_)
    intro w37 hk38 hs39 hb40
    have hz41 := hk38.size
    have hB42 := hB34.new hk38 (by omega)
    refine SR.q' (r_as (v := .int .i64 0) rfl) <| SR.q' (r_as (v := .bool false) rfl) <| SR.nil ?_
    refine W.ret ?_
    refine retCTT rfl rfl agg27 (hb40) rfl (v := .int .i64 _) rfl (v' := .bool _) rfl ?_
    exact ⟨none, 0, 0, none, 0, 0, eR (eT3 (eA (eC rfl (eC rfl (eC (eI (by subst hleS; first | (rw [runFL_no ‹_›]; done) | (rw [runFL_no ‹_›]; rfl) | (rw [runFL_yes ‹_› (And.left (And.right ‹_ ∧ runToL _ _ _ = _ ∧ _›)) (by omega)]; done) | (rw [runFL_yes ‹_› (And.left (And.right ‹_ ∧ runToL _ _ _ = _ ∧ _›)) (by omega)]; rfl))) (eC (eI (by subst hleS; first | (rw [runFL_no ‹_›]; done) | (rw [runFL_no ‹_›]; rfl) | (rw [runFL_yes ‹_› (And.left (And.right ‹_ ∧ runToL _ _ _ = _ ∧ _›)) (by omega)]; done) | (rw [runFL_yes ‹_› (And.left (And.right ‹_ ∧ runToL _ _ _ = _ ∧ _›)) (by omega)]; rfl))) (eC (eI (by subst hleS; first | (rw [runFL_no ‹_›]; done) | (rw [runFL_no ‹_›]; rfl) | (rw [runFL_yes ‹_› (And.left (And.right ‹_ ∧ runToL _ _ _ = _ ∧ _›)) (by omega)]; done) | (rw [runFL_yes ‹_› (And.left (And.right ‹_ ∧ runToL _ _ _ = _ ∧ _›)) (by omega)]; rfl))) rfl)))))) (eI (by subst hleS; first | (rw [runFL_no ‹_›]; done) | (rw [runFL_no ‹_›]; rfl) | (rw [runFL_yes ‹_› (And.left (And.right ‹_ ∧ runToL _ _ _ = _ ∧ _›)) (by omega)]; done) | (rw [runFL_yes ‹_› (And.left (And.right ‹_ ∧ runToL _ _ _ = _ ∧ _›)) (by omega)]; rfl))) (eB (by subst hleS; first | (rw [runFL_no ‹_›]; done) | (rw [runFL_no ‹_›]; rfl) | (rw [runFL_yes ‹_› (And.left (And.right ‹_ ∧ runToL _ _ _ = _ ∧ _›)) (by omega)]; done) | (rw [runFL_yes ‹_› (And.left (And.right ‹_ ∧ runToL _ _ _ = _ ∧ _›)) (by omega)]; rfl)))), (SlO.eqv (SlO.nil (e := 59) (enc := encLMap) (fun _ => rfl) (by omega)) (by subst hleS; first | (rw [runFL_no ‹_›]; done) | (rw [runFL_no ‹_›]; rfl) | (rw [runFL_yes ‹_› (And.left (And.right ‹_ ∧ runToL _ _ _ = _ ∧ _›)) (by omega)]; done) | (rw [runFL_yes ‹_› (And.left (And.right ‹_ ∧ runToL _ _ _ = _ ∧ _›)) (by omega)]; rfl))), (SlO.eqv (SlO.nil (e := 63) (enc := encAway) (fun _ => rfl) (by omega)) (by subst hleS; first | (rw [runFL_no ‹_›]; done) | (rw [runFL_no ‹_›]; rfl) | (rw [runFL_yes ‹_› (And.left (And.right ‹_ ∧ runToL _ _ _ = _ ∧ _›)) (by omega)]; done) | (rw [runFL_yes ‹_› (And.left (And.right ‹_ ∧ runToL _ _ _ = _ ∧ _›)) (by omega)]; rfl))), (fun b_ h => by cases h), hB42⟩
  · have hq43 : LibOK x := (Classical.not_not.1 (not_or.1 h35).1)
    have hq44 : ¬ (40 < (nS : Int)) := (not_or.1 h35).2
    have hq45 := And.left hq43
    have hq46 := lib_len hq43
    have hq47 := And.left hq45
    have hq48 := And.right hq45
    refine W.skip ?_
    refine W.seq ?_
    have hm49 := ((hb6).lo hk12).lo hk32
    refine W.regS (SR.q' (r_lda (l := [.slice Ax_Maps nx_Maps cx_Maps, .slice Ax_Away nx_Away cx_Away, .int .i64 x.Bought, .int .i64 x.Dropped, .int .i64 x.Mended]) agg27 rfl (fun _ _ hu => (hm49).cell hu) rfl) <| SR.call ent38 (c__impl_Library__own w30 x (((hm18).lo hk32)) (((hm19).lo hk32)) (by omega) (by omega)) rfl ?_)
    rintro e w50 ⟨A52, n53, c54, A56, n57, c58, rfl, hO55, hO59, hd60, hk51⟩
    refine ⟨_, rfl, ?_⟩
    have hz61 := hk51.size
    have hB62 := hB34.lo hk51
    have hl63 := hO55.len
    have hl64 := hO55.rd.bound
    have hl65 := hO59.len
    have hl66 := hO59.rd.bound
    refine SR.alloc (l := [.slice none 0 0, .slice none 0 0, .int .i64 0, .int .i64 0, .int .i64 0]) tz27 rfl ?_
    intro g67 w68 hg69 hk70 hs71 hb72
    have hz73 := hk70.size
    have hB74 := hB62.lo hk70
    have hd75 : ¬ A52 = some ⟨g67, 0, none⟩ := fun e' => by have := (hO55).base_le e'; omega
    have hd76 : ¬ A56 = some ⟨g67, 0, none⟩ := fun e' => by have := (hO59).base_le e'; omega
    refine SR.store (o := 0) (vs := [.slice A52 n53 c54, .slice A56 n57 c58, .int .i64 x.Bought, .int .i64 x.Dropped, .int .i64 x.Mended]) agg27.2 rfl rfl rfl rfl (hb72) (Nat.le_of_ble_eq_true rfl) rfl ?_
    intro w77 hk78 hs79 hb80
    have hz81 := hk78.size
    have hB82 := hB74.new hk78 (by omega)
    refine SR.q' (r_as (v := .int .i64 0) rfl) <| SR.nil ?_
    refine W.seq ?_
    refine W.seq ?_
    have hm83 := ((((hm17).lo hk32).lo hk51).lo hk70).kn hk78 (by omega)
    have hm84 := ((((hb14).lo hk32).lo hk51).lo hk70).kn hk78 (by omega)
    have hm85 := ((hO55).lo hk70).kd hk78 hd75
    have hm86 := ((hO59).lo hk70).kd hk78 hd76
    refine W.regS (SR.q' (r_mv (v := .slice _ _ _) rfl) <| SR.q' (r_len und43 rfl) <| SR.q' (r_mv (v := .int .i64 0) rfl) <| SR.nil ?_)
    refine W.block ?_
    refine W.loop (σ := Nat × Library × Int × (Option Addr) × Nat × Nat × (Option Addr) × Nat × Nat) (fun g => [(4, .pointer (pA g9)), (5, .int .i64 0), (6, .bool false), (7, .pointer (pA g67)), (8, .int .i64 g.2.2.1), (24, .slice AS nS cS), (25, .int .i64 (nS : Int)), (26, .int .i64 (g.1 : Int))]) (fun g w' => (Lo w w') ∧ (Blk w' g9 27 [.slice none 0 0, .slice none 0 0, .int .i64 0, .int .i64 0, .int .i64 0]) ∧ (Blk w' g67 27 [.slice g.2.2.2.1 g.2.2.2.2.1 g.2.2.2.2.2.1, .slice g.2.2.2.2.2.2.1 g.2.2.2.2.2.2.2.1 g.2.2.2.2.2.2.2.2, .int .i64 g.2.1.Bought, .int .i64 g.2.1.Dropped, .int .i64 g.2.1.Mended]) ∧ (SlR w' BS encLibraryStep 4 AS nS cS S) ∧ (SlO w' w.heap.size encLMap 3 59 g.2.2.2.1 g.2.2.2.2.1 g.2.2.2.2.2.1 g.2.1.Maps) ∧ (SlO w' w.heap.size encAway 2 63 g.2.2.2.2.2.2.1 g.2.2.2.2.2.2.2.1 g.2.2.2.2.2.2.2.2 g.2.1.Away) ∧ (¬ g.2.2.2.1 = some ⟨g9, 0, none⟩) ∧ (¬ g.2.2.2.1 = some ⟨g67, 0, none⟩) ∧ (∀ b_, g.2.2.2.1 = some ⟨b_, 0, none⟩ → ¬ g.2.2.2.2.2.2.1 = some ⟨b_, 0, none⟩) ∧ (¬ g.2.2.2.2.2.2.1 = some ⟨g9, 0, none⟩) ∧ (¬ g.2.2.2.2.2.2.1 = some ⟨g67, 0, none⟩) ∧ (g.1 ≤ nS ∧ runToL x S g.1 = (g.2.1, g.2.2.1) ∧ LibOK g.2.1 ∧ 0 ≤ g.2.2.1 ∧ g.2.2.1 ≤ (g.1 : Int))) (fun g => nS - g.1) (0, x, (0 : Int), A52, n53, c54, A56, n57, c58) ?_ ?_ ?_
    · exact ⟨rfl, rfl, rfl, rfl, rfl, rfl, rfl, rfl, trivial⟩
    · show (Lo w w77) ∧ (Blk w77 g9 27 [.slice none 0 0, .slice none 0 0, .int .i64 0, .int .i64 0, .int .i64 0]) ∧ (Blk w77 g67 27 [.slice A52 n53 c54, .slice A56 n57 c58, .int .i64 x.Bought, .int .i64 x.Dropped, .int .i64 x.Mended]) ∧ (SlR w77 BS encLibraryStep 4 AS nS cS S) ∧ (SlO w77 w.heap.size encLMap 3 59 A52 n53 c54 x.Maps) ∧ (SlO w77 w.heap.size encAway 2 63 A56 n57 c58 x.Away) ∧ (¬ A52 = some ⟨g9, 0, none⟩) ∧ (¬ A52 = some ⟨g67, 0, none⟩) ∧ (∀ b_, A52 = some ⟨b_, 0, none⟩ → ¬ A56 = some ⟨b_, 0, none⟩) ∧ (¬ A56 = some ⟨g9, 0, none⟩) ∧ (¬ A56 = some ⟨g67, 0, none⟩) ∧ (0 ≤ nS ∧ runToL x S 0 = (x, (0 : Int)) ∧ LibOK x ∧ 0 ≤ (0 : Int) ∧ (0 : Int) ≤ (0 : Int))
      exact ⟨hB82, hm84, (hb80), hm83, ((hm85).down (by omega)), ((hm86).down (by omega)), (fun e' => by have := (hm85).base_le e'; omega), hd75, hd60, (fun e' => by have := (hm86).base_le e'; omega), hd76, (by exact ⟨Nat.zero_le _, rfl, ‹LibOK x›, by omega, by omega⟩)⟩
    · rintro ⟨k, o, m, A87, n87, c87, A88, n88, c88⟩ f89 w90 hP92
      obtain ⟨hB91, hm93, hm94, hm95, hO96, hO97, hd99, hd100, hd101, hd102, hd103, hi98⟩ : (Lo w w90) ∧ (Blk w90 g9 27 [.slice none 0 0, .slice none 0 0, .int .i64 0, .int .i64 0, .int .i64 0]) ∧ (Blk w90 g67 27 [.slice A87 n87 c87, .slice A88 n88 c88, .int .i64 o.Bought, .int .i64 o.Dropped, .int .i64 o.Mended]) ∧ (SlR w90 BS encLibraryStep 4 AS nS cS S) ∧ (SlO w90 w.heap.size encLMap 3 59 A87 n87 c87 o.Maps) ∧ (SlO w90 w.heap.size encAway 2 63 A88 n88 c88 o.Away) ∧ (¬ A87 = some ⟨g9, 0, none⟩) ∧ (¬ A87 = some ⟨g67, 0, none⟩) ∧ (∀ b_, A87 = some ⟨b_, 0, none⟩ → ¬ A88 = some ⟨b_, 0, none⟩) ∧ (¬ A88 = some ⟨g9, 0, none⟩) ∧ (¬ A88 = some ⟨g67, 0, none⟩) ∧ (k ≤ nS ∧ runToL x S k = (o, m) ∧ LibOK o ∧ 0 ≤ m ∧ m ≤ (k : Int)) := hP92
      refine (?_ : W _ _ _ _ _ (act _ (sets f89 [(4, .pointer (pA g9)), (5, .int .i64 0), (6, .bool false), (7, .pointer (pA g67)), (8, .int .i64 m), (24, .slice AS nS cS), (25, .int .i64 (nS : Int)), (26, .int .i64 (k : Int))])) _)
      have hzw90 := hB91.size
      have hl104 := hm93.lt
      have hl105 := hm94.lt
      have hl106 := hO96.len
      have hl107 := hO96.rd.bound
      have hl108 := hO97.len
      have hl109 := hO97.rd.bound
      have hq110 : LibOK o := hi98.2.2.1
      have hq111 : o.Maps.length ≤ 8 ∧ o.Away.length ≤ 8 := And.intro (lib_rng hi98.2.2.1).1 (lib_rng hi98.2.2.1).2.1
      have hq112 : 0 ≤ m ∧ m ≤ (k : Int) := hi98.2.2.2
      refine W.seq ?_
      refine W.regS (SR.q' (r_lt rfl rfl) <| SR.nil ?_)
      refine W.seq ?_
      refine W.cond_d rfl (fun h113 => ?_) (fun h113 => ?_)
      · refine W.skip ?_
        refine W.seq ?_
        refine W.block ?_
        refine W.seq ?_
        have hx115 := (hm95).elem (i := k) (by omega)
        refine W.regS (SR.q' (r_ixR tsl43 (hm95) rfl rfl (by omega)) <| SR.q' (r_lda (l := encLibraryStep (gt S k)) agg29 rfl (fun _ _ hu => (hm95).cell hx115 hu) ((hm95).esz _)) <| SR.alloc (l := [.int .i64 0, .int .i64 0, .int .i64 0, .int .i64 0]) tz29 rfl ?_)
        intro g116 w117 hg118 hk119 hs120 hb121
        have hz122 := hk119.size
        have hB123 := hB91.lo hk119
        have hd124 : ¬ A87 = some ⟨g116, 0, none⟩ := fun e' => by have := (hO96).base_le e'; omega
        have hd125 : ¬ A88 = some ⟨g116, 0, none⟩ := fun e' => by have := (hO97).base_le e'; omega
        refine SR.store (o := 0) (vs := [.int .i64 ((gt S k).Kind), .int .i64 ((gt S k).Id), .int .i64 ((gt S k).Reader), .int .i64 ((gt S k).Value)]) agg29.2 rfl rfl rfl rfl (hb121) (Nat.le_of_ble_eq_true rfl) rfl ?_
        intro w126 hk127 hs128 hb129
        have hz130 := hk127.size
        have hB131 := hB123.new hk127 (by omega)
        refine SR.nil ?_
        refine W.seq ?_
        have hm132 := ((hm93).lo hk119).kn hk127 (by omega)
        have hm133 := ((hm94).lo hk119).kn hk127 (by omega)
        have hm134 := ((hO96).lo hk119).kd hk127 hd124
        have hm135 := ((hO97).lo hk119).kd hk127 hd125
        have hm136 := ((hm95).lo hk119).kn hk127 (by omega)
        refine W.regS (SR.q' (r_lda (l := [.slice A87 n87 c87, .slice A88 n88 c88, .int .i64 o.Bought, .int .i64 o.Dropped, .int .i64 o.Mended]) agg27 rfl (fun _ _ hu => (hm133).cell hu) rfl) <| SR.q' (r_lda (l := [.int .i64 ((gt S k).Kind), .int .i64 ((gt S k).Id), .int .i64 ((gt S k).Reader), .int .i64 ((gt S k).Value)]) agg29 rfl (fun _ _ hu => (hb129).cell hu) rfl) <| SR.call ent22 (c__impl_Library__stepped w126 o (((hm134).rd)) (((hm135).rd)) (gt S k) (by omega) (by omega)) rfl ?_)
        rintro e w137 ⟨A139, n140, c141, A143, n144, c145, rfl, hO142, hO146, hd147, hk138⟩
        refine ⟨_, rfl, ?_⟩
        have hz148 := hk138.size
        have hB149 := hB131.lo hk138
        have hl150 := hO142.len
        have hl151 := hO142.rd.bound
        have hl152 := hO146.len
        have hl153 := hO146.rd.bound
        refine SR.q' (r_mv (v := .tuple (List.toArray _)) rfl) <| SR.q' (r_ext (v := .agg (List.toArray _)) rfl rfl) <| SR.q' (r_ext (v := .bool _) rfl rfl) <| SR.alloc (l := [.slice none 0 0, .slice none 0 0, .int .i64 0, .int .i64 0, .int .i64 0]) tz27 rfl ?_
        intro g154 w155 hg156 hk157 hs158 hb159
        have hz160 := hk157.size
        have hB161 := hB149.lo hk157
        have hd162 : ¬ A87 = some ⟨g154, 0, none⟩ := fun e' => by have := ((hm134).lo hk138).base_le e'; omega
        have hd163 : ¬ A88 = some ⟨g154, 0, none⟩ := fun e' => by have := ((hm135).lo hk138).base_le e'; omega
        have hd164 : ¬ A139 = some ⟨g154, 0, none⟩ := fun e' => by have := (hO142).base_le e'; omega
        have hd165 : ¬ A143 = some ⟨g154, 0, none⟩ := fun e' => by have := (hO146).base_le e'; omega
        refine SR.store (o := 0) (vs := [.slice A139 n140 c141, .slice A143 n144 c145, .int .i64 (((impl_Library_stepped o (gt S k)).1).Bought), .int .i64 (((impl_Library_stepped o (gt S k)).1).Dropped), .int .i64 (((impl_Library_stepped o (gt S k)).1).Mended)]) agg27.2 rfl rfl rfl rfl (hb159) (Nat.le_of_ble_eq_true rfl) rfl ?_
        intro w166 hk167 hs168 hb169
        have hz170 := hk167.size
        have hB171 := hB161.new hk167 (by omega)
        refine SR.q' (r_as (v := .bool _) rfl) <| SR.nil ?_
        refine W.seq ?_
        have hm172 := (((hm132).lo hk138).lo hk157).kn hk167 (by omega)
        have hm173 := (((hm133).lo hk138).lo hk157).kn hk167 (by omega)
        have hm174 := (((hm134).lo hk138).lo hk157).kd hk167 hd162
        have hm175 := (((hm135).lo hk138).lo hk157).kd hk167 hd163
        have hm176 := ((hO142).lo hk157).kd hk167 hd164
        have hm177 := ((hO146).lo hk157).kd hk167 hd165
        have hm178 := (((hm136).lo hk138).lo hk157).kn hk167 (by omega)
        refine W.regS (SR.q' (r_mv (v := .bool _) rfl) <| SR.nil ?_)
        refine W.cond_b rfl (fun h179 => ?_) (fun h179 => ?_)
        · refine W.seq ?_
          refine W.regS (SR.q' (r_lda (l := [.slice A139 n140 c141, .slice A143 n144 c145, .int .i64 (((impl_Library_stepped o (gt S k)).1).Bought), .int .i64 (((impl_Library_stepped o (gt S k)).1).Dropped), .int .i64 (((impl_Library_stepped o (gt S k)).1).Mended)]) agg27 rfl (fun _ _ hu => (hb169).cell hu) rfl) <| SR.store (o := 0) (vs := [.slice A139 n140 c141, .slice A143 n144 c145, .int .i64 (((impl_Library_stepped o (gt S k)).1).Bought), .int .i64 (((impl_Library_stepped o (gt S k)).1).Dropped), .int .i64 (((impl_Library_stepped o (gt S k)).1).Mended)]) agg27.2 rfl rfl rfl rfl (hm173) (Nat.le_of_ble_eq_true rfl) rfl ?_)
          intro w180 hk181 hs182 hb183
          have hz184 := hk181.size
          have hB185 := hB171.new hk181 (by omega)
          refine SR.nil ?_
          refine W.regS (SR.q' (r_mv (v := .int .i64 _) rfl) <| SR.q' (r_add rfl rfl (by omega)) <| SR.q' (r_as (v := .int .i64 _) rfl) <| SR.nil ?_)
          refine W.regS (SR.q' (r_add rfl rfl (by omega)) <| SR.q' (r_mv (v := .int .i64 _) rfl) <| SR.nil ?_)
          refine ⟨(k + 1, ((impl_Library_stepped o (gt S k)).1), m + 1, A139, n140, c141, A143, n144, c145), _, rfl, ⟨rfl, rfl, rfl, rfl, rfl, rfl, rfl, rfl, trivial⟩, (show (Lo w w180) ∧ (Blk w180 g9 27 [.slice none 0 0, .slice none 0 0, .int .i64 0, .int .i64 0, .int .i64 0]) ∧ (Blk w180 g67 27 [.slice A139 n140 c141, .slice A143 n144 c145, .int .i64 (((impl_Library_stepped o (gt S k)).1).Bought), .int .i64 (((impl_Library_stepped o (gt S k)).1).Dropped), .int .i64 (((impl_Library_stepped o (gt S k)).1).Mended)]) ∧ (SlR w180 BS encLibraryStep 4 AS nS cS S) ∧ (SlO w180 w.heap.size encLMap 3 59 A139 n140 c141 (((impl_Library_stepped o (gt S k)).1).Maps)) ∧ (SlO w180 w.heap.size encAway 2 63 A143 n144 c145 (((impl_Library_stepped o (gt S k)).1).Away)) ∧ (¬ A139 = some ⟨g9, 0, none⟩) ∧ (¬ A139 = some ⟨g67, 0, none⟩) ∧ (∀ b_, A139 = some ⟨b_, 0, none⟩ → ¬ A143 = some ⟨b_, 0, none⟩) ∧ (¬ A143 = some ⟨g9, 0, none⟩) ∧ (¬ A143 = some ⟨g67, 0, none⟩) ∧ (k + 1 ≤ nS ∧ runToL x S (k + 1) = (((impl_Library_stepped o (gt S k)).1), m + 1) ∧ LibOK ((impl_Library_stepped o (gt S k)).1) ∧ 0 ≤ m + 1 ∧ m + 1 ≤ (k + 1 : Int)) from ⟨hB185, (hm172).kn hk181 (by omega), (hb183), (hm178).kn hk181 (by omega), (((hm176).kn hk181 (by omega)).down (by omega)), (((hm177).kn hk181 (by omega)).down (by omega)), (fun e' => by have := ((hm176).kn hk181 (by omega)).base_le e'; omega), (fun e' => by have := ((hm176).kn hk181 (by omega)).base_le e'; omega), hd147, (fun e' => by have := ((hm177).kn hk181 (by omega)).base_le e'; omega), (fun e' => by have := ((hm177).kn hk181 (by omega)).base_le e'; omega), ?_⟩), ?_⟩
          · exact (by have hh := ‹_ ∧ runToL _ _ _ = _ ∧ _›; first | exact ⟨by omega, (runL_yes hh.2.1 ‹S[k]? = some _› ‹_›).1, (runL_yes hh.2.1 ‹S[k]? = some _› ‹_›).2, by omega, by omega⟩ | exact ⟨by omega, runL_no hh.2.1 ‹S[k]? = some _› ‹_›, hh.2.2.1, by omega, by omega⟩)
          · exact (by omega)
        · refine W.skip ?_
          refine W.regS (SR.q' (r_add rfl rfl (by omega)) <| SR.q' (r_mv (v := .int .i64 _) rfl) <| SR.nil ?_)
          refine ⟨(k + 1, o, m, A87, n87, c87, A88, n88, c88), _, rfl, ⟨rfl, rfl, rfl, rfl, rfl, rfl, rfl, rfl, trivial⟩, (show (Lo w w166) ∧ (Blk w166 g9 27 [.slice none 0 0, .slice none 0 0, .int .i64 0, .int .i64 0, .int .i64 0]) ∧ (Blk w166 g67 27 [.slice A87 n87 c87, .slice A88 n88 c88, .int .i64 o.Bought, .int .i64 o.Dropped, .int .i64 o.Mended]) ∧ (SlR w166 BS encLibraryStep 4 AS nS cS S) ∧ (SlO w166 w.heap.size encLMap 3 59 A87 n87 c87 o.Maps) ∧ (SlO w166 w.heap.size encAway 2 63 A88 n88 c88 o.Away) ∧ (¬ A87 = some ⟨g9, 0, none⟩) ∧ (¬ A87 = some ⟨g67, 0, none⟩) ∧ (∀ b_, A87 = some ⟨b_, 0, none⟩ → ¬ A88 = some ⟨b_, 0, none⟩) ∧ (¬ A88 = some ⟨g9, 0, none⟩) ∧ (¬ A88 = some ⟨g67, 0, none⟩) ∧ (k + 1 ≤ nS ∧ runToL x S (k + 1) = (o, m) ∧ LibOK o ∧ 0 ≤ m ∧ m ≤ (k + 1 : Int)) from ⟨hB171, hm172, (hm173), hm178, (hm174), (hm175), hd99, hd100, hd101, hd102, hd103, ?_⟩), ?_⟩
          · exact (by have hh := ‹_ ∧ runToL _ _ _ = _ ∧ _›; first | exact ⟨by omega, (runL_yes hh.2.1 ‹S[k]? = some _› ‹_›).1, (runL_yes hh.2.1 ‹S[k]? = some _› ‹_›).2, by omega, by omega⟩ | exact ⟨by omega, runL_no hh.2.1 ‹S[k]? = some _› ‹_›, hh.2.2.1, by omega, by omega⟩)
          · exact (by omega)
      · refine W.exit (xin_here ?_)
        refine W.seq ?_
        refine W.regS (SR.q' (r_lda (l := [.slice A87 n87 c87, .slice A88 n88 c88, .int .i64 o.Bought, .int .i64 o.Dropped, .int .i64 o.Mended]) agg27 rfl (fun _ _ hu => (hm94).cell hu) rfl) <| SR.q' (r_mv (v := .int .i64 _) rfl) <| SR.store (o := 0) (vs := [.slice A87 n87 c87, .slice A88 n88 c88, .int .i64 o.Bought, .int .i64 o.Dropped, .int .i64 o.Mended]) agg27.2 rfl rfl rfl rfl (hm93) (Nat.le_of_ble_eq_true rfl) rfl ?_)
        intro w186 hk187 hs188 hb189
        have hz190 := hk187.size
        have hB191 := hB91.new hk187 (by omega)
        refine SR.q' (r_as (v := .int .i64 _) rfl) <| SR.q' (r_as (v := .bool true) rfl) <| SR.nil ?_
        refine W.ret ?_
        refine retCTT rfl rfl agg27 (hb189) rfl (v := .int .i64 _) rfl (v' := .bool _) rfl ?_
        exact ⟨A87, n87, c87, A88, n88, c88, eR (eT3 (eA (eC rfl (eC rfl (eC (eI (by subst hleS; first | (rw [runFL_no ‹_›]; done) | (rw [runFL_no ‹_›]; rfl) | (rw [runFL_yes ‹_› (And.left (And.right ‹_ ∧ runToL _ _ _ = _ ∧ _›)) (by omega)]; done) | (rw [runFL_yes ‹_› (And.left (And.right ‹_ ∧ runToL _ _ _ = _ ∧ _›)) (by omega)]; rfl))) (eC (eI (by subst hleS; first | (rw [runFL_no ‹_›]; done) | (rw [runFL_no ‹_›]; rfl) | (rw [runFL_yes ‹_› (And.left (And.right ‹_ ∧ runToL _ _ _ = _ ∧ _›)) (by omega)]; done) | (rw [runFL_yes ‹_› (And.left (And.right ‹_ ∧ runToL _ _ _ = _ ∧ _›)) (by omega)]; rfl))) (eC (eI (by subst hleS; first | (rw [runFL_no ‹_›]; done) | (rw [runFL_no ‹_›]; rfl) | (rw [runFL_yes ‹_› (And.left (And.right ‹_ ∧ runToL _ _ _ = _ ∧ _›)) (by omega)]; done) | (rw [runFL_yes ‹_› (And.left (And.right ‹_ ∧ runToL _ _ _ = _ ∧ _›)) (by omega)]; rfl))) rfl)))))) (eI (by subst hleS; first | (rw [runFL_no ‹_›]; done) | (rw [runFL_no ‹_›]; rfl) | (rw [runFL_yes ‹_› (And.left (And.right ‹_ ∧ runToL _ _ _ = _ ∧ _›)) (by omega)]; done) | (rw [runFL_yes ‹_› (And.left (And.right ‹_ ∧ runToL _ _ _ = _ ∧ _›)) (by omega)]; rfl))) (eB (by subst hleS; first | (rw [runFL_no ‹_›]; done) | (rw [runFL_no ‹_›]; rfl) | (rw [runFL_yes ‹_› (And.left (And.right ‹_ ∧ runToL _ _ _ = _ ∧ _›)) (by omega)]; done) | (rw [runFL_yes ‹_› (And.left (And.right ‹_ ∧ runToL _ _ _ = _ ∧ _›)) (by omega)]; rfl)))), (SlO.eqv (((hO96).kd hk187 hd99).down (by omega)) (by subst hleS; first | (rw [runFL_no ‹_›]; done) | (rw [runFL_no ‹_›]; rfl) | (rw [runFL_yes ‹_› (And.left (And.right ‹_ ∧ runToL _ _ _ = _ ∧ _›)) (by omega)]; done) | (rw [runFL_yes ‹_› (And.left (And.right ‹_ ∧ runToL _ _ _ = _ ∧ _›)) (by omega)]; rfl))), (SlO.eqv (((hO97).kd hk187 hd102).down (by omega)) (by subst hleS; first | (rw [runFL_no ‹_›]; done) | (rw [runFL_no ‹_›]; rfl) | (rw [runFL_yes ‹_› (And.left (And.right ‹_ ∧ runToL _ _ _ = _ ∧ _›)) (by omega)]; done) | (rw [runFL_yes ‹_› (And.left (And.right ‹_ ∧ runToL _ _ _ = _ ∧ _›)) (by omega)]; rfl))), hd101, hB191⟩

theorem c_spec_RunLibrary (w : World) (x : Library) {Ax_Maps : Option Addr} {nx_Maps cx_Maps Bx_Maps : Nat} (hx_Maps : SlR w Bx_Maps encLMap 3 Ax_Maps nx_Maps cx_Maps x.Maps) {Ax_Away : Option Addr} {nx_Away cx_Away Bx_Away : Nat} (hx_Away : SlR w Bx_Away encAway 2 Ax_Away nx_Away cx_Away x.Away) {AS : Option Addr} {nS cS BS : Nat}  (S : List LibraryStep) (hS : SlR w BS encLibraryStep 4 AS nS cS S) (hp0 : StepsIn S) : Calls Try.prog 19 #[.agg (List.toArray [.slice Ax_Maps nx_Maps cx_Maps, .slice Ax_Away nx_Away cx_Away, .int .i64 x.Bought, .int .i64 x.Dropped, .int .i64 x.Mended]), .slice AS nS cS] w fun e w' => ∃ (A1' : Option Addr) (n1' c1' : Nat) (A2' : Option Addr) (n2' c2' : Nat), e = .returned (.tuple (List.toArray [.agg (List.toArray [.slice A1' n1' c1', .slice A2' n2' c2', .int .i64 (((runFL x S).1).Bought), .int .i64 (((runFL x S).1).Dropped), .int .i64 (((runFL x S).1).Mended)]), .int .i64 ((runFL x S).2.1), .bool ((runFL x S).2.2)])) ∧ SlO w' w.heap.size encLMap 3 59 A1' n1' c1' (((runFL x S).1).Maps) ∧ SlO w' w.heap.size encAway 2 63 A2' n2' c2' (((runFL x S).1).Away) ∧ (∀ b_, A1' = some ⟨b_, 0, none⟩ → ¬ A2' = some ⟨b_, 0, none⟩) ∧ Lo w w' := by
  refine calls_W 51 Try.func19 rfl rfl rfl ?_
  have hbdx_Maps := hx_Maps.bound
  have hlex_Maps := hx_Maps.len
  have hBbx_Maps := hx_Maps.bd
  have hbdx_Away := hx_Away.bound
  have hlex_Away := hx_Away.len
  have hBbx_Away := hx_Away.bd
  have hbdS := hS.bound
  have hleS := hS.len
  have hBbS := hS.bd
  refine W.seq ?_
  refine W.regS (SR.box (v := .agg (List.toArray _)) (l := [.slice Ax_Maps nx_Maps cx_Maps, .slice Ax_Away nx_Away cx_Away, .int .i64 x.Bought, .int .i64 x.Dropped, .int .i64 x.Mended]) rfl rfl ?_)
  intro g1 w2 hg3 hk4 hs5 hb6
  have hz7 := hk4.size
  have hB8 := (Lo.refl w).lo hk4
  refine SR.alloc (l := [.slice none 0 0, .slice none 0 0, .int .i64 0, .int .i64 0, .int .i64 0]) tz27 rfl ?_
  intro g9 w10 hg11 hk12 hs13 hb14
  have hz15 := hk12.size
  have hB16 := hB8.lo hk12
  refine SR.q' (r_as (v := .int .i64 0) rfl) <| SR.q' (r_as (v := .bool false) rfl) <| SR.nil ?_
  refine W.seq ?_
  refine W.seq ?_
  have hm17 := ((hS).lo hk4).lo hk12
  have hm18 := ((hx_Maps).lo hk4).lo hk12
  have hm19 := ((hx_Away).lo hk4).lo hk12
  refine W.regJS (fun f' w' => At f' [(1, .slice AS nS cS), (2, .pointer (pA g1)), (4, .pointer (pA g9)), (5, .int .i64 0), (6, .bool false), (19, .bool (decide ((¬ (LibOK x)) ∨ (40 < (nS : Int)))))] ∧ Lo w10 w') ?_ ?_
  · refine SR.q' (r_lda (l := [.slice Ax_Maps nx_Maps cx_Maps, .slice Ax_Away nx_Away cx_Away, .int .i64 x.Bought, .int .i64 x.Dropped, .int .i64 x.Mended]) agg27 rfl (fun _ _ hu => ((hb6).lo hk12).cell hu) rfl) <| SR.call ent23 (c_spec_l32Good w10 x ((hm18)) ((hm19))) rfl ?_
    rintro e w20 ⟨rfl, hk21⟩
    refine ⟨_, rfl, ?_⟩
    have hz22 := hk21.size
    have hB23 := hB16.lo hk21
    refine SR.q' (r_not rfl) <| SR.q' (r_mv (v := .bool _) rfl) <| SR.splitN (fun h24 => ?_) (fun h24 => ?_)
    · refine SR.s' rfl <| SR.s' rfl <| SR.s' rfl <| SR.q' (r_pick true rfl (v := .bool true) rfl) <| SR.nil ?_
      exact ⟨_, rfl, ⟨⟨rfl, rfl, rfl, rfl, rfl, (eDT ((jmf h24).1 trivial)), trivial⟩, (hk21)⟩⟩
    · have hq25 := And.left h24
      have hq26 := lib_len h24
      have hq27 := And.left hq25
      have hq28 := And.right hq25
      refine SR.g' rfl (r_mv (v := .slice _ _ _) rfl) <| SR.g' rfl (r_len und43 rfl) <| SR.g' rfl (r_gt rfl rfl) <| SR.q' (r_pick false rfl (v := .bool _) rfl) <| SR.nil ?_
      exact ⟨_, rfl, ⟨⟨rfl, rfl, rfl, rfl, rfl, (eDD (jmt h24)), trivial⟩, (hk21)⟩⟩
  rintro f29 w30 ⟨hat31, hk32⟩
  rw [← sets_of_at hat31]
  have hz33 := hk32.size
  have hB34 := hB16.lo hk32
  refine W.cond_d rfl (fun h35 => ?_) (fun h35 => ?_)
  · refine W.seq ?_
    refine W.regS (SR.q' (r_build (vs := []) rfl (bld27_)) <| SR.store (o := 0) (vs := [.slice none 0 0, .slice none 0 0, .int .i64 0, .int .i64 0, .int .i64 0]) agg27.2 rfl rfl rfl rfl ((hb14).lo hk32) (Nat.le_of_ble_eq_true rfl) rfl ?_)
    intro w37 hk38 hs39 hb40
    have hz41 := hk38.size
    have hB42 := hB34.new hk38 (by omega)
    refine SR.q' (r_as (v := .int .i64 0) rfl) <| SR.q' (r_as (v := .bool false) rfl) <| SR.nil ?_
    refine W.ret ?_
    refine retCTT rfl rfl agg27 (hb40) rfl (v := .int .i64 _) rfl (v' := .bool _) rfl ?_
    exact ⟨none, 0, 0, none, 0, 0, eR (eT3 (eA (eC rfl (eC rfl (eC (eI (by subst hleS; first | (rw [runFL_no ‹_›]; done) | (rw [runFL_no ‹_›]; rfl) | (rw [runFL_yes ‹_› (And.left (And.right ‹_ ∧ runToL _ _ _ = _ ∧ _›)) (by omega)]; done) | (rw [runFL_yes ‹_› (And.left (And.right ‹_ ∧ runToL _ _ _ = _ ∧ _›)) (by omega)]; rfl))) (eC (eI (by subst hleS; first | (rw [runFL_no ‹_›]; done) | (rw [runFL_no ‹_›]; rfl) | (rw [runFL_yes ‹_› (And.left (And.right ‹_ ∧ runToL _ _ _ = _ ∧ _›)) (by omega)]; done) | (rw [runFL_yes ‹_› (And.left (And.right ‹_ ∧ runToL _ _ _ = _ ∧ _›)) (by omega)]; rfl))) (eC (eI (by subst hleS; first | (rw [runFL_no ‹_›]; done) | (rw [runFL_no ‹_›]; rfl) | (rw [runFL_yes ‹_› (And.left (And.right ‹_ ∧ runToL _ _ _ = _ ∧ _›)) (by omega)]; done) | (rw [runFL_yes ‹_› (And.left (And.right ‹_ ∧ runToL _ _ _ = _ ∧ _›)) (by omega)]; rfl))) rfl)))))) (eI (by subst hleS; first | (rw [runFL_no ‹_›]; done) | (rw [runFL_no ‹_›]; rfl) | (rw [runFL_yes ‹_› (And.left (And.right ‹_ ∧ runToL _ _ _ = _ ∧ _›)) (by omega)]; done) | (rw [runFL_yes ‹_› (And.left (And.right ‹_ ∧ runToL _ _ _ = _ ∧ _›)) (by omega)]; rfl))) (eB (by subst hleS; first | (rw [runFL_no ‹_›]; done) | (rw [runFL_no ‹_›]; rfl) | (rw [runFL_yes ‹_› (And.left (And.right ‹_ ∧ runToL _ _ _ = _ ∧ _›)) (by omega)]; done) | (rw [runFL_yes ‹_› (And.left (And.right ‹_ ∧ runToL _ _ _ = _ ∧ _›)) (by omega)]; rfl)))), (SlO.eqv (SlO.nil (e := 59) (enc := encLMap) (fun _ => rfl) (by omega)) (by subst hleS; first | (rw [runFL_no ‹_›]; done) | (rw [runFL_no ‹_›]; rfl) | (rw [runFL_yes ‹_› (And.left (And.right ‹_ ∧ runToL _ _ _ = _ ∧ _›)) (by omega)]; done) | (rw [runFL_yes ‹_› (And.left (And.right ‹_ ∧ runToL _ _ _ = _ ∧ _›)) (by omega)]; rfl))), (SlO.eqv (SlO.nil (e := 63) (enc := encAway) (fun _ => rfl) (by omega)) (by subst hleS; first | (rw [runFL_no ‹_›]; done) | (rw [runFL_no ‹_›]; rfl) | (rw [runFL_yes ‹_› (And.left (And.right ‹_ ∧ runToL _ _ _ = _ ∧ _›)) (by omega)]; done) | (rw [runFL_yes ‹_› (And.left (And.right ‹_ ∧ runToL _ _ _ = _ ∧ _›)) (by omega)]; rfl))), (fun b_ h => by cases h), hB42⟩
  · have hq43 : LibOK x := (Classical.not_not.1 (not_or.1 h35).1)
    have hq44 : ¬ (40 < (nS : Int)) := (not_or.1 h35).2
    have hq45 := And.left hq43
    have hq46 := lib_len hq43
    have hq47 := And.left hq45
    have hq48 := And.right hq45
    refine W.skip ?_
    refine W.seq ?_
    have hm49 := ((hb6).lo hk12).lo hk32
    refine W.regS (SR.q' (r_lda (l := [.slice Ax_Maps nx_Maps cx_Maps, .slice Ax_Away nx_Away cx_Away, .int .i64 x.Bought, .int .i64 x.Dropped, .int .i64 x.Mended]) agg27 rfl (fun _ _ hu => (hm49).cell hu) rfl) <| SR.call ent39 (c_spec_l32Own w30 x (((hm18).lo hk32)) (((hm19).lo hk32)) (by omega) (by omega)) rfl ?_)
    rintro e w50 ⟨A52, n53, c54, A56, n57, c58, rfl, hO55, hO59, hd60, hk51⟩
    refine ⟨_, rfl, ?_⟩
    have hz61 := hk51.size
    have hB62 := hB34.lo hk51
    have hl63 := hO55.len
    have hl64 := hO55.rd.bound
    have hl65 := hO59.len
    have hl66 := hO59.rd.bound
    refine SR.alloc (l := [.slice none 0 0, .slice none 0 0, .int .i64 0, .int .i64 0, .int .i64 0]) tz27 rfl ?_
    intro g67 w68 hg69 hk70 hs71 hb72
    have hz73 := hk70.size
    have hB74 := hB62.lo hk70
    have hd75 : ¬ A52 = some ⟨g67, 0, none⟩ := fun e' => by have := (hO55).base_le e'; omega
    have hd76 : ¬ A56 = some ⟨g67, 0, none⟩ := fun e' => by have := (hO59).base_le e'; omega
    refine SR.store (o := 0) (vs := [.slice A52 n53 c54, .slice A56 n57 c58, .int .i64 x.Bought, .int .i64 x.Dropped, .int .i64 x.Mended]) agg27.2 rfl rfl rfl rfl (hb72) (Nat.le_of_ble_eq_true rfl) rfl ?_
    intro w77 hk78 hs79 hb80
    have hz81 := hk78.size
    have hB82 := hB74.new hk78 (by omega)
    refine SR.q' (r_as (v := .int .i64 0) rfl) <| SR.nil ?_
    refine W.seq ?_
    refine W.seq ?_
    have hm83 := ((((hm17).lo hk32).lo hk51).lo hk70).kn hk78 (by omega)
    have hm84 := ((((hb14).lo hk32).lo hk51).lo hk70).kn hk78 (by omega)
    have hm85 := ((hO55).lo hk70).kd hk78 hd75
    have hm86 := ((hO59).lo hk70).kd hk78 hd76
    refine W.regS (SR.q' (r_as (v := .int .i64 0) rfl) <| SR.nil ?_)
    refine W.block ?_
    refine W.loop (σ := Nat × Library × Int × (Option Addr) × Nat × Nat × (Option Addr) × Nat × Nat) (fun g => [(1, .slice AS nS cS), (4, .pointer (pA g9)), (5, .int .i64 0), (6, .bool false), (7, .pointer (pA g67)), (8, .int .i64 g.2.2.1), (9, .int .i64 (g.1 : Int))]) (fun g w' => (Lo w w') ∧ (SlR w' BS encLibraryStep 4 AS nS cS S) ∧ (Blk w' g9 27 [.slice none 0 0, .slice none 0 0, .int .i64 0, .int .i64 0, .int .i64 0]) ∧ (Blk w' g67 27 [.slice g.2.2.2.1 g.2.2.2.2.1 g.2.2.2.2.2.1, .slice g.2.2.2.2.2.2.1 g.2.2.2.2.2.2.2.1 g.2.2.2.2.2.2.2.2, .int .i64 g.2.1.Bought, .int .i64 g.2.1.Dropped, .int .i64 g.2.1.Mended]) ∧ (SlO w' w.heap.size encLMap 3 59 g.2.2.2.1 g.2.2.2.2.1 g.2.2.2.2.2.1 g.2.1.Maps) ∧ (SlO w' w.heap.size encAway 2 63 g.2.2.2.2.2.2.1 g.2.2.2.2.2.2.2.1 g.2.2.2.2.2.2.2.2 g.2.1.Away) ∧ (¬ g.2.2.2.1 = some ⟨g9, 0, none⟩) ∧ (¬ g.2.2.2.1 = some ⟨g67, 0, none⟩) ∧ (∀ b_, g.2.2.2.1 = some ⟨b_, 0, none⟩ → ¬ g.2.2.2.2.2.2.1 = some ⟨b_, 0, none⟩) ∧ (¬ g.2.2.2.2.2.2.1 = some ⟨g9, 0, none⟩) ∧ (¬ g.2.2.2.2.2.2.1 = some ⟨g67, 0, none⟩) ∧ (g.1 ≤ nS ∧ runToL x S g.1 = (g.2.1, g.2.2.1) ∧ LibOK g.2.1 ∧ 0 ≤ g.2.2.1 ∧ g.2.2.1 ≤ (g.1 : Int))) (fun g => nS - g.1) (0, x, (0 : Int), A52, n53, c54, A56, n57, c58) ?_ ?_ ?_
    · exact ⟨rfl, rfl, rfl, rfl, rfl, rfl, rfl, trivial⟩
    · show (Lo w w77) ∧ (SlR w77 BS encLibraryStep 4 AS nS cS S) ∧ (Blk w77 g9 27 [.slice none 0 0, .slice none 0 0, .int .i64 0, .int .i64 0, .int .i64 0]) ∧ (Blk w77 g67 27 [.slice A52 n53 c54, .slice A56 n57 c58, .int .i64 x.Bought, .int .i64 x.Dropped, .int .i64 x.Mended]) ∧ (SlO w77 w.heap.size encLMap 3 59 A52 n53 c54 x.Maps) ∧ (SlO w77 w.heap.size encAway 2 63 A56 n57 c58 x.Away) ∧ (¬ A52 = some ⟨g9, 0, none⟩) ∧ (¬ A52 = some ⟨g67, 0, none⟩) ∧ (∀ b_, A52 = some ⟨b_, 0, none⟩ → ¬ A56 = some ⟨b_, 0, none⟩) ∧ (¬ A56 = some ⟨g9, 0, none⟩) ∧ (¬ A56 = some ⟨g67, 0, none⟩) ∧ (0 ≤ nS ∧ runToL x S 0 = (x, (0 : Int)) ∧ LibOK x ∧ 0 ≤ (0 : Int) ∧ (0 : Int) ≤ (0 : Int))
      exact ⟨hB82, hm83, hm84, (hb80), ((hm85).down (by omega)), ((hm86).down (by omega)), (fun e' => by have := (hm85).base_le e'; omega), hd75, hd60, (fun e' => by have := (hm86).base_le e'; omega), hd76, (by exact ⟨Nat.zero_le _, rfl, ‹LibOK x›, by omega, by omega⟩)⟩
    · rintro ⟨k, o, m, A87, n87, c87, A88, n88, c88⟩ f89 w90 hP92
      obtain ⟨hB91, hm93, hm94, hm95, hO96, hO97, hd99, hd100, hd101, hd102, hd103, hi98⟩ : (Lo w w90) ∧ (SlR w90 BS encLibraryStep 4 AS nS cS S) ∧ (Blk w90 g9 27 [.slice none 0 0, .slice none 0 0, .int .i64 0, .int .i64 0, .int .i64 0]) ∧ (Blk w90 g67 27 [.slice A87 n87 c87, .slice A88 n88 c88, .int .i64 o.Bought, .int .i64 o.Dropped, .int .i64 o.Mended]) ∧ (SlO w90 w.heap.size encLMap 3 59 A87 n87 c87 o.Maps) ∧ (SlO w90 w.heap.size encAway 2 63 A88 n88 c88 o.Away) ∧ (¬ A87 = some ⟨g9, 0, none⟩) ∧ (¬ A87 = some ⟨g67, 0, none⟩) ∧ (∀ b_, A87 = some ⟨b_, 0, none⟩ → ¬ A88 = some ⟨b_, 0, none⟩) ∧ (¬ A88 = some ⟨g9, 0, none⟩) ∧ (¬ A88 = some ⟨g67, 0, none⟩) ∧ (k ≤ nS ∧ runToL x S k = (o, m) ∧ LibOK o ∧ 0 ≤ m ∧ m ≤ (k : Int)) := hP92
      refine (?_ : W _ _ _ _ _ (act _ (sets f89 [(1, .slice AS nS cS), (4, .pointer (pA g9)), (5, .int .i64 0), (6, .bool false), (7, .pointer (pA g67)), (8, .int .i64 m), (9, .int .i64 (k : Int))])) _)
      have hzw90 := hB91.size
      have hl104 := hm94.lt
      have hl105 := hm95.lt
      have hl106 := hO96.len
      have hl107 := hO96.rd.bound
      have hl108 := hO97.len
      have hl109 := hO97.rd.bound
      have hq110 : LibOK o := hi98.2.2.1
      have hq111 : o.Maps.length ≤ 8 ∧ o.Away.length ≤ 8 := And.intro (lib_rng hi98.2.2.1).1 (lib_rng hi98.2.2.1).2.1
      have hq112 : 0 ≤ m ∧ m ≤ (k : Int) := hi98.2.2.2
      refine W.seq ?_
      refine W.seq ?_
      refine W.regS (SR.q' (r_mv (v := .int .i64 _) rfl) <| SR.q' (r_mv (v := .slice _ _ _) rfl) <| SR.q' (r_len und43 rfl) <| SR.q' (r_lt rfl rfl) <| SR.nil ?_)
      refine W.cond_d rfl (fun h113 => ?_) (fun h113 => ?_)
      · refine W.skip ?_
        refine W.seq ?_
        refine W.block ?_
        refine W.seq ?_
        refine W.seq ?_
        refine W.regD mo (by kernel_rfl) (QR.q' (fun w' hw' => r_lda (l := [.slice A87 n87 c87, .slice A88 n88 c88, .int .i64 o.Bought, .int .i64 o.Dropped, .int .i64 o.Mended]) agg27 rfl (fun _ _ hu => ((hm95).lo hw').cell hu) rfl) <| QR.q' (fun w' hw' => r_mv (v := .slice _ _ _) rfl) <| QR.q' (fun w' hw' => r_mv (v := .int .i64 _) rfl) <| ?_)
        have hx115 := (hm93).elem (i := k) (by omega)
        refine QR.q' (fun w' hw' => r_ixR tsl43 (((hm93).lo hw')) rfl rfl (by omega)) <| QR.q' (fun w' hw' => r_lda (l := encLibraryStep (gt S k)) agg29 rfl (fun _ _ hu => (((hm93).lo hw')).cell hx115 hu) ((((hm93).lo hw')).esz _)) <| QR.call ent24 (fun w' hw' => (c_spec_l32Step w' o ((((hO96).lo hw').rd)) ((((hO97).lo hw').rd)) (gt S k)).mono fun _ _ h => ⟨h.1, hw'.trans h.2⟩) rfl <| QR.q' (fun w' hw' => r_not rfl) <| QR.nil ?_
        intro w116 hk117
        have hz118 := hk117.size
        have hB119 := hB91.lo hk117
        refine W.cond_b rfl (fun h120 => ?_) (fun h120 => ?_)
        · have hq121 := bnot_t h120
          refine W.exit (xin_here ?_)
          refine W.regS (SR.q' (r_mv (v := .int .i64 _) rfl) <| SR.q' (r_add rfl rfl (by omega)) <| SR.q' (r_as (v := .int .i64 _) rfl) <| SR.nil ?_)
          refine ⟨(k + 1, o, m, A87, n87, c87, A88, n88, c88), _, rfl, ⟨rfl, rfl, rfl, rfl, rfl, rfl, rfl, trivial⟩, (show (Lo w w116) ∧ (SlR w116 BS encLibraryStep 4 AS nS cS S) ∧ (Blk w116 g9 27 [.slice none 0 0, .slice none 0 0, .int .i64 0, .int .i64 0, .int .i64 0]) ∧ (Blk w116 g67 27 [.slice A87 n87 c87, .slice A88 n88 c88, .int .i64 o.Bought, .int .i64 o.Dropped, .int .i64 o.Mended]) ∧ (SlO w116 w.heap.size encLMap 3 59 A87 n87 c87 o.Maps) ∧ (SlO w116 w.heap.size encAway 2 63 A88 n88 c88 o.Away) ∧ (¬ A87 = some ⟨g9, 0, none⟩) ∧ (¬ A87 = some ⟨g67, 0, none⟩) ∧ (∀ b_, A87 = some ⟨b_, 0, none⟩ → ¬ A88 = some ⟨b_, 0, none⟩) ∧ (¬ A88 = some ⟨g9, 0, none⟩) ∧ (¬ A88 = some ⟨g67, 0, none⟩) ∧ (k + 1 ≤ nS ∧ runToL x S (k + 1) = (o, m) ∧ LibOK o ∧ 0 ≤ m ∧ m ≤ (k + 1 : Int)) from ⟨hB119, (hm93).lo hk117, (hm94).lo hk117, ((hm95).lo hk117), ((hO96).lo hk117), ((hO97).lo hk117), hd99, hd100, hd101, hd102, hd103, ?_⟩), ?_⟩
          · exact (by have hh := ‹_ ∧ runToL _ _ _ = _ ∧ _›; first | exact ⟨by omega, (runL_yesS hp0 hh.2.1 hh.2.2.1 ‹S[k]? = some _› ‹_› ‹_›).1, (runL_yesS hp0 hh.2.1 hh.2.2.1 ‹S[k]? = some _› ‹_› ‹_›).2, by omega, by omega⟩ | exact ⟨by omega, runL_noS3 hh.2.1 hh.2.2.1 ‹S[k]? = some _› ‹(!_) = true›, hh.2.2.1, by omega, by omega⟩ | exact ⟨by omega, runL_noS2 hp0 hh.2.1 hh.2.2.1 ‹S[k]? = some _› ‹_› ‹_›, hh.2.2.1, by omega, by omega⟩)
          · exact (by omega)
        · have hq122 := bnot_f h120
          refine W.skip ?_
          refine W.seq ?_
          refine W.regA (Lo w116) (fun f' w' => ∃ (A129 : Option Addr) (n130 : Nat) (c131 : Nat) (A133 : Option Addr) (n134 : Nat) (c135 : Nat) (g152 : Nat), At f' [(1, .slice AS nS cS), (4, .pointer (pA g9)), (5, .int .i64 0), (6, .bool false), (7, .pointer (pA g67)), (8, .int .i64 m), (9, .int .i64 (k : Int)), (10, .pointer (pA g152)), (11, .bool ((spec_l32Make o (gt S k)).2))] ∧ (Lo w116 w') ∧ (SlO w' w116.heap.size encLMap 3 59 A129 n130 c131 (((spec_l32Make o (gt S k)).1).Maps)) ∧ (SlO w' w116.heap.size encAway 2 63 A133 n134 c135 (((spec_l32Make o (gt S k)).1).Away)) ∧ (Blk w' g152 27 [.slice A129 n130 c131, .slice A133 n134 c135, .int .i64 (((spec_l32Make o (gt S k)).1).Bought), .int .i64 (((spec_l32Make o (gt S k)).1).Dropped), .int .i64 (((spec_l32Make o (gt S k)).1).Mended)]) ∧ (w116.heap.size ≤ g152 ∧ g152 < w'.heap.size) ∧ (¬ A87 = some ⟨g152, 0, none⟩) ∧ (¬ A88 = some ⟨g152, 0, none⟩) ∧ (¬ A129 = some ⟨g152, 0, none⟩) ∧ (¬ A133 = some ⟨g152, 0, none⟩) ∧ (∀ b_, A129 = some ⟨b_, 0, none⟩ → ¬ A87 = some ⟨b_, 0, none⟩) ∧ (∀ b_, A129 = some ⟨b_, 0, none⟩ → ¬ A88 = some ⟨b_, 0, none⟩) ∧ (∀ b_, A129 = some ⟨b_, 0, none⟩ → ¬ A133 = some ⟨b_, 0, none⟩) ∧ (∀ b_, A133 = some ⟨b_, 0, none⟩ → ¬ A87 = some ⟨b_, 0, none⟩) ∧ (∀ b_, A133 = some ⟨b_, 0, none⟩ → ¬ A88 = some ⟨b_, 0, none⟩) ∧ (n130 = (((spec_l32Make o (gt S k)).1).Maps).length) ∧ ((n130 : Int) ≤ 9223372036854775807) ∧ (n134 = (((spec_l32Make o (gt S k)).1).Away).length) ∧ ((n134 : Int) ≤ 9223372036854775807)) mo ?_ ?_
          · intro w231 hk232
            have hz233 := hk232.size
            have hB234 := hB119.lo hk232
            refine AH.via #[true, true, true, true, true, true, true, true, true, true, false, false] 2 (fun f' w' => ∃ (A129 : Option Addr) (n130 : Nat) (c131 : Nat) (A133 : Option Addr) (n134 : Nat) (c135 : Nat) (g152 : Nat), At f' [(1, .slice AS nS cS), (4, .pointer (pA g9)), (5, .int .i64 0), (6, .bool false), (7, .pointer (pA g67)), (8, .int .i64 m), (9, .int .i64 (k : Int)), (10, .pointer (pA g152)), (43, .agg (List.toArray [.slice A129 n130 c131, .slice A133 n134 c135, .int .i64 (((spec_l32Make o (gt S k)).1).Bought), .int .i64 (((spec_l32Make o (gt S k)).1).Dropped), .int .i64 (((spec_l32Make o (gt S k)).1).Mended)])), (44, .bool ((spec_l32Make o (gt S k)).2))] ∧ (Lo w116 w') ∧ (SlO w' w116.heap.size encLMap 3 59 A129 n130 c131 (((spec_l32Make o (gt S k)).1).Maps)) ∧ (SlO w' w116.heap.size encAway 2 63 A133 n134 c135 (((spec_l32Make o (gt S k)).1).Away)) ∧ (Blk w' g152 27 [.slice none 0 0, .slice none 0 0, .int .i64 0, .int .i64 0, .int .i64 0]) ∧ (w116.heap.size ≤ g152 ∧ g152 < w'.heap.size) ∧ (¬ A87 = some ⟨g152, 0, none⟩) ∧ (¬ A88 = some ⟨g152, 0, none⟩) ∧ (¬ A129 = some ⟨g152, 0, none⟩) ∧ (¬ A133 = some ⟨g152, 0, none⟩) ∧ (∀ b_, A129 = some ⟨b_, 0, none⟩ → ¬ A87 = some ⟨b_, 0, none⟩) ∧ (∀ b_, A129 = some ⟨b_, 0, none⟩ → ¬ A88 = some ⟨b_, 0, none⟩) ∧ (∀ b_, A129 = some ⟨b_, 0, none⟩ → ¬ A133 = some ⟨b_, 0, none⟩) ∧ (∀ b_, A133 = some ⟨b_, 0, none⟩ → ¬ A87 = some ⟨b_, 0, none⟩) ∧ (∀ b_, A133 = some ⟨b_, 0, none⟩ → ¬ A88 = some ⟨b_, 0, none⟩) ∧ (n130 = (((spec_l32Make o (gt S k)).1).Maps).length) ∧ ((n130 : Int) ≤ 9223372036854775807) ∧ (n134 = (((spec_l32Make o (gt S k)).1).Away).length) ∧ ((n134 : Int) ≤ 9223372036854775807)) ?_ (fun hn235 => ?_)
            · rintro f236 w237 ⟨A129, n130, c131, A133, n134, c135, g152, hat239, hR238, hm165, hm166, hm167, hg168, hd169, hd170, hd171, hd172, hd173, hd174, hd175, hd176, hd177, hl141, hl142, hl143, hl144⟩
              rw [← sets_of_at hat239]
              have hz240 := hR238.size
              have hB241 := hB119.lo hR238
              refine AH.br [10] (by kernel_rfl) rfl ⟨Br.mk' rfl trivial ?_, trivial⟩
              refine SR.store (o := 0) (vs := [.slice A129 n130 c131, .slice A133 n134 c135, .int .i64 (((spec_l32Make o (gt S k)).1).Bought), .int .i64 (((spec_l32Make o (gt S k)).1).Dropped), .int .i64 (((spec_l32Make o (gt S k)).1).Mended)]) agg27.2 rfl rfl rfl rfl (hm167) (Nat.le_of_ble_eq_true rfl) rfl ?_
              intro w242 hk243 hs244 hb245
              have hz246 := hk243.size
              have hB247 := hB241.new hk243 (by omega)
              have hS248 := (hR238).new hk243 (by omega)
              refine SR.nil ⟨hS248, _, rfl, ?_⟩
              refine AH.take 11 rfl (by kernel_rfl) trivial (hS248) (fun w' hw' => r_as (v := .bool _) rfl) <| AH.done (by kernel_rfl) ?_
              exact ⟨A129, n130, c131, A133, n134, c135, g152, ⟨rfl, rfl, rfl, rfl, rfl, rfl, rfl, rfl, rfl, trivial⟩, hS248, (((hm165).kd hk243 hd171).down (by omega)), (((hm166).kd hk243 hd172).down (by omega)), (hb245), ⟨by omega, (hb245).lt⟩, hd169, hd170, hd171, hd172, hd173, hd174, hd175, hd176, hd177, hl141, hl142, hl143, hl144⟩
            refine AH.take 0 rfl (by kernel_rfl) trivial (hk232) (fun w' hw' => r_lda (l := [.slice A87 n87 c87, .slice A88 n88 c88, .int .i64 o.Bought, .int .i64 o.Dropped, .int .i64 o.Mended]) agg27 rfl (fun _ _ hu => (((hm95).lo hk117).lo hw').cell hu) rfl) <| AH.take 1 rfl (by kernel_rfl) trivial (hk232) (fun w' hw' => r_mv (v := .slice _ _ _) rfl) <| AH.take 2 rfl (by kernel_rfl) trivial (hk232) (fun w' hw' => r_mv (v := .int .i64 _) rfl) <| AH.take 3 rfl (by kernel_rfl) trivial (hk232) (fun w' hw' => r_ixR tsl43 ((((hm93).lo hk117).lo hw')) rfl rfl (by omega)) <| AH.take 4 rfl (by kernel_rfl) trivial (hk232) (fun w' hw' => r_lda (l := encLibraryStep (gt S k)) agg29 rfl (fun _ _ hu => ((((hm93).lo hk117).lo hw')).cell hx115 hu) (((((hm93).lo hk117).lo hw')).esz _)) <| AH.br [5, 9] (by kernel_rfl) rfl ⟨Br.mk' rfl trivial ?_, Br.mk' rfl trivial ?_, trivial⟩
            · refine SR.call ent25 (c_spec_l32Make w231 o (((((hO96).lo hk117).lo hk232).rd)) (((((hO97).lo hk117).lo hk232).rd)) (gt S k) (by assumption) (by assumption)) rfl ?_
              rintro e w259 ⟨A261, n262, c263, A265, n266, c267, rfl, hO264, hO268, hd269, hk260⟩
              refine ⟨_, rfl, ?_⟩
              have hz270 := hk260.size
              have hB271 := hB234.lo hk260
              have hS272 := (hk232).lo hk260
              have hl273 := hO264.len
              have hl274 := hO264.rd.bound
              have hl275 := hO268.len
              have hl276 := hO268.rd.bound
              refine SR.nil ⟨hS272, _, rfl, ?_⟩
              refine AH.take 6 rfl (by kernel_rfl) trivial (hS272) (fun w' hw' => r_mv (v := .tuple (List.toArray _)) rfl) <| AH.take 7 rfl (by kernel_rfl) trivial (hS272) (fun w' hw' => r_ext (v := .agg (List.toArray _)) rfl rfl) <| AH.take 8 rfl (by kernel_rfl) trivial (hS272) (fun w' hw' => r_ext (v := .bool _) rfl rfl) <| AH.br [9] (by kernel_rfl) rfl ⟨Br.mk' rfl trivial ?_, trivial⟩
              refine SR.alloc (l := [.slice none 0 0, .slice none 0 0, .int .i64 0, .int .i64 0, .int .i64 0]) tz27 rfl ?_
              intro g277 w278 hg279 hk280 hs281 hb282
              have hz283 := hk280.size
              have hB284 := hB271.lo hk280
              have hS285 := (hS272).lo hk280
              have hd286 : ¬ A87 = some ⟨g277, 0, none⟩ := fun e' => by have := ((((hO96).lo hk117).lo hk232).lo hk260).base_le e'; omega
              have hd287 : ¬ A88 = some ⟨g277, 0, none⟩ := fun e' => by have := ((((hO97).lo hk117).lo hk232).lo hk260).base_le e'; omega
              have hd288 : ¬ A261 = some ⟨g277, 0, none⟩ := fun e' => by have := (hO264).base_le e'; omega
              have hd289 : ¬ A265 = some ⟨g277, 0, none⟩ := fun e' => by have := (hO268).base_le e'; omega
              refine SR.nil ⟨hS285, _, rfl, ?_⟩
              refine AH.goto (by kernel_rfl) rfl (hn235 _ _ ?_)
              exact ⟨A261, n262, c263, A265, n266, c267, g277, ⟨rfl, rfl, rfl, rfl, rfl, rfl, rfl, rfl, rfl, rfl, trivial⟩, hS285, (((hO264).lo hk280).down (by omega)), (((hO268).lo hk280).down (by omega)), (hb282), ⟨by omega, (hb282).lt⟩, hd286, hd287, hd288, hd289, (fun b_ h h' => by have h1 := ((hO264).lo hk280).base_le h; have h2 := (((hO96).lo hk117).lo hk232).base_le h'; omega), (fun b_ h h' => by have h1 := ((hO264).lo hk280).base_le h; have h2 := (((hO97).lo hk117).lo hk232).base_le h'; omega), hd269, (fun b_ h h' => by have h1 := ((hO268).lo hk280).base_le h; have h2 := (((hO96).lo hk117).lo hk232).base_le h'; omega), (fun b_ h h' => by have h1 := ((hO268).lo hk280).base_le h; have h2 := (((hO97).lo hk117).lo hk232).base_le h'; omega), hl273, hl274, hl275, hl276⟩
            · refine SR.alloc (l := [.slice none 0 0, .slice none 0 0, .int .i64 0, .int .i64 0, .int .i64 0]) tz27 rfl ?_
              intro g300 w301 hg302 hk303 hs304 hb305
              have hz306 := hk303.size
              have hB307 := hB234.lo hk303
              have hS308 := (hk232).lo hk303
              have hd309 : ¬ A87 = some ⟨g300, 0, none⟩ := fun e' => by have := (((hO96).lo hk117).lo hk232).base_le e'; omega
              have hd310 : ¬ A88 = some ⟨g300, 0, none⟩ := fun e' => by have := (((hO97).lo hk117).lo hk232).base_le e'; omega
              refine SR.nil ⟨hS308, _, rfl, ?_⟩
              refine AH.br [5] (by kernel_rfl) rfl ⟨Br.mk' rfl trivial ?_, trivial⟩
              refine SR.call ent25 (c_spec_l32Make w301 o ((((((hO96).lo hk117).lo hk232).lo hk303).rd)) ((((((hO97).lo hk117).lo hk232).lo hk303).rd)) (gt S k) (by assumption) (by assumption)) rfl ?_
              rintro e w311 ⟨A313, n314, c315, A317, n318, c319, rfl, hO316, hO320, hd321, hk312⟩
              refine ⟨_, rfl, ?_⟩
              have hz322 := hk312.size
              have hB323 := hB307.lo hk312
              have hS324 := (hS308).lo hk312
              have hl325 := hO316.len
              have hl326 := hO316.rd.bound
              have hl327 := hO320.len
              have hl328 := hO320.rd.bound
              refine SR.nil ⟨hS324, _, rfl, ?_⟩
              refine AH.take 6 rfl (by kernel_rfl) trivial (hS324) (fun w' hw' => r_mv (v := .tuple (List.toArray _)) rfl) <| AH.take 7 rfl (by kernel_rfl) trivial (hS324) (fun w' hw' => r_ext (v := .agg (List.toArray _)) rfl rfl) <| AH.take 8 rfl (by kernel_rfl) trivial (hS324) (fun w' hw' => r_ext (v := .bool _) rfl rfl) <| AH.goto (by kernel_rfl) rfl (hn235 _ _ ?_)
              exact ⟨A313, n314, c315, A317, n318, c319, g300, ⟨rfl, rfl, rfl, rfl, rfl, rfl, rfl, rfl, rfl, rfl, trivial⟩, hS324, ((hO316).down (by omega)), ((hO320).down (by omega)), ((hb305).lo hk312), ⟨by omega, ((hb305).lo hk312).lt⟩, hd309, hd310, (fun e' => by have := (hO316).base_le e'; omega), (fun e' => by have := (hO320).base_le e'; omega), (fun b_ h h' => by have h1 := (hO316).base_le h; have h2 := ((((hO96).lo hk117).lo hk232).lo hk303).base_le h'; omega), (fun b_ h h' => by have h1 := (hO316).base_le h; have h2 := ((((hO97).lo hk117).lo hk232).lo hk303).base_le h'; omega), hd321, (fun b_ h h' => by have h1 := (hO320).base_le h; have h2 := ((((hO96).lo hk117).lo hk232).lo hk303).base_le h'; omega), (fun b_ h h' => by have h1 := (hO320).base_le h; have h2 := ((((hO97).lo hk117).lo hk232).lo hk303).base_le h'; omega), hl325, hl326, hl327, hl328⟩
          rintro f339 w340 ⟨A129, n130, c131, A133, n134, c135, g152, hat342, hR341, hm185, hm186, hm187, hg188, hd189, hd190, hd191, hd192, hd193, hd194, hd195, hd196, hd197, hl141, hl142, hl143, hl144⟩
          rw [← sets_of_at hat342]
          have hz343 := hR341.size
          have hB344 := hB119.lo hR341
          refine W.seq ?_
          have hm345 := ((hm93).lo hk117).lo hR341
          have hm346 := ((hm94).lo hk117).lo hR341
          have hm347 := ((hm95).lo hk117).lo hR341
          have hm348 := ((hO96).lo hk117).lo hR341
          have hm349 := ((hO97).lo hk117).lo hR341
          refine W.regS (SR.q' (r_mv (v := .bool _) rfl) <| SR.nil ?_)
          refine W.cond_b rfl (fun h350 => ?_) (fun h350 => ?_)
          · refine W.seq ?_
            refine W.regS (SR.q' (r_lda (l := [.slice A129 n130 c131, .slice A133 n134 c135, .int .i64 (((spec_l32Make o (gt S k)).1).Bought), .int .i64 (((spec_l32Make o (gt S k)).1).Dropped), .int .i64 (((spec_l32Make o (gt S k)).1).Mended)]) agg27 rfl (fun _ _ hu => (hm187).cell hu) rfl) <| SR.store (o := 0) (vs := [.slice A129 n130 c131, .slice A133 n134 c135, .int .i64 (((spec_l32Make o (gt S k)).1).Bought), .int .i64 (((spec_l32Make o (gt S k)).1).Dropped), .int .i64 (((spec_l32Make o (gt S k)).1).Mended)]) agg27.2 rfl rfl rfl rfl (hm347) (Nat.le_of_ble_eq_true rfl) rfl ?_)
            intro w351 hk352 hs353 hb354
            have hz355 := hk352.size
            have hB356 := hB344.new hk352 (by omega)
            refine SR.nil ?_
            refine W.regS (SR.q' (r_mv (v := .int .i64 _) rfl) <| SR.q' (r_add rfl rfl (by omega)) <| SR.q' (r_as (v := .int .i64 _) rfl) <| SR.nil ?_)
            refine W.regS (SR.q' (r_mv (v := .int .i64 _) rfl) <| SR.q' (r_add rfl rfl (by omega)) <| SR.q' (r_as (v := .int .i64 _) rfl) <| SR.nil ?_)
            refine ⟨(k + 1, ((spec_l32Make o (gt S k)).1), m + 1, A129, n130, c131, A133, n134, c135), _, rfl, ⟨rfl, rfl, rfl, rfl, rfl, rfl, rfl, trivial⟩, (show (Lo w w351) ∧ (SlR w351 BS encLibraryStep 4 AS nS cS S) ∧ (Blk w351 g9 27 [.slice none 0 0, .slice none 0 0, .int .i64 0, .int .i64 0, .int .i64 0]) ∧ (Blk w351 g67 27 [.slice A129 n130 c131, .slice A133 n134 c135, .int .i64 (((spec_l32Make o (gt S k)).1).Bought), .int .i64 (((spec_l32Make o (gt S k)).1).Dropped), .int .i64 (((spec_l32Make o (gt S k)).1).Mended)]) ∧ (SlO w351 w.heap.size encLMap 3 59 A129 n130 c131 (((spec_l32Make o (gt S k)).1).Maps)) ∧ (SlO w351 w.heap.size encAway 2 63 A133 n134 c135 (((spec_l32Make o (gt S k)).1).Away)) ∧ (¬ A129 = some ⟨g9, 0, none⟩) ∧ (¬ A129 = some ⟨g67, 0, none⟩) ∧ (∀ b_, A129 = some ⟨b_, 0, none⟩ → ¬ A133 = some ⟨b_, 0, none⟩) ∧ (¬ A133 = some ⟨g9, 0, none⟩) ∧ (¬ A133 = some ⟨g67, 0, none⟩) ∧ (k + 1 ≤ nS ∧ runToL x S (k + 1) = (((spec_l32Make o (gt S k)).1), m + 1) ∧ LibOK ((spec_l32Make o (gt S k)).1) ∧ 0 ≤ m + 1 ∧ m + 1 ≤ (k + 1 : Int)) from ⟨hB356, (hm345).kn hk352 (by omega), (hm346).kn hk352 (by omega), (hb354), (((hm185).kn hk352 (by omega)).down (by omega)), (((hm186).kn hk352 (by omega)).down (by omega)), (fun e' => by have := ((hm185).kn hk352 (by omega)).base_le e'; omega), (fun e' => by have := ((hm185).kn hk352 (by omega)).base_le e'; omega), hd195, (fun e' => by have := ((hm186).kn hk352 (by omega)).base_le e'; omega), (fun e' => by have := ((hm186).kn hk352 (by omega)).base_le e'; omega), ?_⟩), ?_⟩
            · exact (by have hh := ‹_ ∧ runToL _ _ _ = _ ∧ _›; first | exact ⟨by omega, (runL_yesS hp0 hh.2.1 hh.2.2.1 ‹S[k]? = some _› ‹_› ‹_›).1, (runL_yesS hp0 hh.2.1 hh.2.2.1 ‹S[k]? = some _› ‹_› ‹_›).2, by omega, by omega⟩ | exact ⟨by omega, runL_noS3 hh.2.1 hh.2.2.1 ‹S[k]? = some _› ‹(!_) = true›, hh.2.2.1, by omega, by omega⟩ | exact ⟨by omega, runL_noS2 hp0 hh.2.1 hh.2.2.1 ‹S[k]? = some _› ‹_› ‹_›, hh.2.2.1, by omega, by omega⟩)
            · exact (by omega)
          · refine W.skip ?_
            refine W.regS (SR.q' (r_mv (v := .int .i64 _) rfl) <| SR.q' (r_add rfl rfl (by omega)) <| SR.q' (r_as (v := .int .i64 _) rfl) <| SR.nil ?_)
            refine ⟨(k + 1, o, m, A87, n87, c87, A88, n88, c88), _, rfl, ⟨rfl, rfl, rfl, rfl, rfl, rfl, rfl, trivial⟩, (show (Lo w w340) ∧ (SlR w340 BS encLibraryStep 4 AS nS cS S) ∧ (Blk w340 g9 27 [.slice none 0 0, .slice none 0 0, .int .i64 0, .int .i64 0, .int .i64 0]) ∧ (Blk w340 g67 27 [.slice A87 n87 c87, .slice A88 n88 c88, .int .i64 o.Bought, .int .i64 o.Dropped, .int .i64 o.Mended]) ∧ (SlO w340 w.heap.size encLMap 3 59 A87 n87 c87 o.Maps) ∧ (SlO w340 w.heap.size encAway 2 63 A88 n88 c88 o.Away) ∧ (¬ A87 = some ⟨g9, 0, none⟩) ∧ (¬ A87 = some ⟨g67, 0, none⟩) ∧ (∀ b_, A87 = some ⟨b_, 0, none⟩ → ¬ A88 = some ⟨b_, 0, none⟩) ∧ (¬ A88 = some ⟨g9, 0, none⟩) ∧ (¬ A88 = some ⟨g67, 0, none⟩) ∧ (k + 1 ≤ nS ∧ runToL x S (k + 1) = (o, m) ∧ LibOK o ∧ 0 ≤ m ∧ m ≤ (k + 1 : Int)) from ⟨hB344, hm345, hm346, (hm347), (hm348), (hm349), hd99, hd100, hd101, hd102, hd103, ?_⟩), ?_⟩
            · exact (by have hh := ‹_ ∧ runToL _ _ _ = _ ∧ _›; first | exact ⟨by omega, (runL_yesS hp0 hh.2.1 hh.2.2.1 ‹S[k]? = some _› ‹_› ‹_›).1, (runL_yesS hp0 hh.2.1 hh.2.2.1 ‹S[k]? = some _› ‹_› ‹_›).2, by omega, by omega⟩ | exact ⟨by omega, runL_noS3 hh.2.1 hh.2.2.1 ‹S[k]? = some _› ‹(!_) = true›, hh.2.2.1, by omega, by omega⟩ | exact ⟨by omega, runL_noS2 hp0 hh.2.1 hh.2.2.1 ‹S[k]? = some _› ‹_› ‹_›, hh.2.2.1, by omega, by omega⟩)
            · exact (by omega)
      · refine W.exit (xin_here ?_)
        refine W.seq ?_
        refine W.regS (SR.q' (r_lda (l := [.slice A87 n87 c87, .slice A88 n88 c88, .int .i64 o.Bought, .int .i64 o.Dropped, .int .i64 o.Mended]) agg27 rfl (fun _ _ hu => (hm95).cell hu) rfl) <| SR.q' (r_mv (v := .int .i64 _) rfl) <| SR.store (o := 0) (vs := [.slice A87 n87 c87, .slice A88 n88 c88, .int .i64 o.Bought, .int .i64 o.Dropped, .int .i64 o.Mended]) agg27.2 rfl rfl rfl rfl (hm94) (Nat.le_of_ble_eq_true rfl) rfl ?_)
        intro w357 hk358 hs359 hb360
        have hz361 := hk358.size
        have hB362 := hB91.new hk358 (by omega)
        refine SR.q' (r_as (v := .int .i64 _) rfl) <| SR.q' (r_as (v := .bool true) rfl) <| SR.nil ?_
        refine W.ret ?_
        refine retCTT rfl rfl agg27 (hb360) rfl (v := .int .i64 _) rfl (v' := .bool _) rfl ?_
        exact ⟨A87, n87, c87, A88, n88, c88, eR (eT3 (eA (eC rfl (eC rfl (eC (eI (by subst hleS; first | (rw [runFL_no ‹_›]; done) | (rw [runFL_no ‹_›]; rfl) | (rw [runFL_yes ‹_› (And.left (And.right ‹_ ∧ runToL _ _ _ = _ ∧ _›)) (by omega)]; done) | (rw [runFL_yes ‹_› (And.left (And.right ‹_ ∧ runToL _ _ _ = _ ∧ _›)) (by omega)]; rfl))) (eC (eI (by subst hleS; first | (rw [runFL_no ‹_›]; done) | (rw [runFL_no ‹_›]; rfl) | (rw [runFL_yes ‹_› (And.left (And.right ‹_ ∧ runToL _ _ _ = _ ∧ _›)) (by omega)]; done) | (rw [runFL_yes ‹_› (And.left (And.right ‹_ ∧ runToL _ _ _ = _ ∧ _›)) (by omega)]; rfl))) (eC (eI (by subst hleS; first | (rw [runFL_no ‹_›]; done) | (rw [runFL_no ‹_›]; rfl) | (rw [runFL_yes ‹_› (And.left (And.right ‹_ ∧ runToL _ _ _ = _ ∧ _›)) (by omega)]; done) | (rw [runFL_yes ‹_› (And.left (And.right ‹_ ∧ runToL _ _ _ = _ ∧ _›)) (by omega)]; rfl))) rfl)))))) (eI (by subst hleS; first | (rw [runFL_no ‹_›]; done) | (rw [runFL_no ‹_›]; rfl) | (rw [runFL_yes ‹_› (And.left (And.right ‹_ ∧ runToL _ _ _ = _ ∧ _›)) (by omega)]; done) | (rw [runFL_yes ‹_› (And.left (And.right ‹_ ∧ runToL _ _ _ = _ ∧ _›)) (by omega)]; rfl))) (eB (by subst hleS; first | (rw [runFL_no ‹_›]; done) | (rw [runFL_no ‹_›]; rfl) | (rw [runFL_yes ‹_› (And.left (And.right ‹_ ∧ runToL _ _ _ = _ ∧ _›)) (by omega)]; done) | (rw [runFL_yes ‹_› (And.left (And.right ‹_ ∧ runToL _ _ _ = _ ∧ _›)) (by omega)]; rfl)))), (SlO.eqv (((hO96).kd hk358 hd99).down (by omega)) (by subst hleS; first | (rw [runFL_no ‹_›]; done) | (rw [runFL_no ‹_›]; rfl) | (rw [runFL_yes ‹_› (And.left (And.right ‹_ ∧ runToL _ _ _ = _ ∧ _›)) (by omega)]; done) | (rw [runFL_yes ‹_› (And.left (And.right ‹_ ∧ runToL _ _ _ = _ ∧ _›)) (by omega)]; rfl))), (SlO.eqv (((hO97).kd hk358 hd102).down (by omega)) (by subst hleS; first | (rw [runFL_no ‹_›]; done) | (rw [runFL_no ‹_›]; rfl) | (rw [runFL_yes ‹_› (And.left (And.right ‹_ ∧ runToL _ _ _ = _ ∧ _›)) (by omega)]; done) | (rw [runFL_yes ‹_› (And.left (And.right ‹_ ∧ runToL _ _ _ = _ ∧ _›)) (by omega)]; rfl))), hd101, hB362⟩
end Go.Proofs.Ytgobbcilgcbkaaa
