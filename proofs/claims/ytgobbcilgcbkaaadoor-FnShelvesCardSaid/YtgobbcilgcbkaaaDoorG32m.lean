/- Walks, printed by a program of this claim's author. -/
import Derived.Test.YtgobbcilgcbkaaaDoorChecked
import Derived.Test.YtgobbcilgcbkaaaDoorUa
import Derived.Test.YtgobbcilgcbkaaaDoorFu
import Derived.Test.YtgobbcilgcbkaaaDoorFs
import Derived.Test.YtgobbcilgcbkaaaDoorFq
import Derived.Test.YtgobbcilgcbkaaaDoorFo
import Derived.Test.YtgobbcilgcbkaaaDoorDa
import Derived.Test.YtgobbcilgcbkaaaDoorG32l
namespace Go.Proofs.YtgobbcilgcbkaaaDoor
open Go Go.RowKit Fw
set_option maxRecDepth 10000
set_option maxHeartbeats 2000000
set_option linter.unusedVariables false
theorem agg66 : TAgg Tryd.prog 66 4 := ⟨fun _ => by kernel_rfl, fun _ => by kernel_rfl⟩
theorem bld27_ : Tryd.prog.built 27 [] = some (List.toArray [.slice none 0 0, .slice none 0 0, .int .i64 0, .int .i64 0, .int .i64 0]) := by kernel_rfl
theorem bld48_0_1_2 (a0 : Int) (a1 : Int) (a2 : Int) : Tryd.prog.built 48 [(0, .int .i64 a0), (1, .int .i64 a1), (2, .int .i64 a2)] = some (List.toArray [.int .i64 a0, .int .i64 a1, .int .i64 a2]) := by kernel_rfl
theorem ent55 : Ent Tryd.prog 55 := ent_of Tryd.func55 (by decide +kernel) rfl
theorem ent56 : Ent Tryd.prog 56 := ent_of Tryd.func56 (by decide +kernel) rfl
theorem ent61 : Ent Tryd.prog 61 := ent_of Tryd.func61 (by decide +kernel) rfl
theorem ent63 : Ent Tryd.prog 63 := ent_of Tryd.func63 (by decide +kernel) rfl
theorem ent64 : Ent Tryd.prog 64 := ent_of Tryd.func64 (by decide +kernel) rfl
theorem ent66 : Ent Tryd.prog 66 := ent_of Tryd.func66 (by decide +kernel) rfl
theorem ent67 : Ent Tryd.prog 67 := ent_of Tryd.func67 (by decide +kernel) rfl
theorem ent68 : Ent Tryd.prog 68 := ent_of Tryd.func68 (by decide +kernel) rfl

open Classical in
noncomputable def spec_l32Readers (x : Library) (s : LibraryStep) (i : Int) : Library × Bool :=
  if s.Kind = 2 then ((⟨((goneN x s.Id s.Reader).Maps).set i.toNat ({ (gt ((goneN x s.Id s.Reader).Maps) i.toNat) with Copies := ((gt x.Maps i.toNat).Copies) - 1 }), (goneN x s.Id s.Reader).Away, (goneN x s.Id s.Reader).Bought, (goneN x s.Id s.Reader).Dropped, (goneN x s.Id s.Reader).Mended⟩ : Library), decide (((idxF (isA s.Id s.Reader) x.Away) < 0) ∧ (((gt x.Maps i.toNat).Torn) < ((gt x.Maps i.toNat).Copies)))) else if (idxF (isA s.Id s.Reader) x.Away) < 0 then (x, false) else if s.Kind = 5 then ((goneN (backN x (idxF (isA s.Id s.Reader) x.Away)) s.Id s.Value), decide ((idxF (isA s.Id s.Value) x.Away) < 0)) else ((⟨((backN x (idxF (isA s.Id s.Reader) x.Away)).Maps).set i.toNat ({ ({ (gt ((backN x (idxF (isA s.Id s.Reader) x.Away)).Maps) i.toNat) with Copies := ((gt x.Maps i.toNat).Copies) + 1 }) with Torn := ((gt x.Maps i.toNat).Torn) + s.Value }), (backN x (idxF (isA s.Id s.Reader) x.Away)).Away, (backN x (idxF (isA s.Id s.Reader) x.Away)).Bought, (backN x (idxF (isA s.Id s.Reader) x.Away)).Dropped, (backN x (idxF (isA s.Id s.Reader) x.Away)).Mended⟩ : Library), true)
theorem c_spec_l32Readers (w : World) (x : Library) {Ax_Maps : Option Addr} {nx_Maps cx_Maps Bx_Maps : Nat} (hx_Maps : SlR w Bx_Maps encLMap 3 Ax_Maps nx_Maps cx_Maps x.Maps) {Ax_Away : Option Addr} {nx_Away cx_Away Bx_Away : Nat} (hx_Away : SlR w Bx_Away encAway 2 Ax_Away nx_Away cx_Away x.Away) (s : LibraryStep) (i : Int) (hp0 : LibOK x) (hp1 : 0 ≤ i ∧ i < (nx_Maps : Int)) (hp2 : 0 ≤ s.Value ∧ s.Value ≤ 999) : Calls Tryd.prog 64 #[.agg (List.toArray [.slice Ax_Maps nx_Maps cx_Maps, .slice Ax_Away nx_Away cx_Away, .int .i64 x.Bought, .int .i64 x.Dropped, .int .i64 x.Mended]), .agg (List.toArray (encLibraryStep s)), .int .i64 i] w fun e w' => ∃ (A1' : Option Addr) (n1' c1' : Nat) (A2' : Option Addr) (n2' c2' : Nat), e = .returned (.tuple (List.toArray [.agg (List.toArray [.slice A1' n1' c1', .slice A2' n2' c2', .int .i64 (((spec_l32Readers x s i).1).Bought), .int .i64 (((spec_l32Readers x s i).1).Dropped), .int .i64 (((spec_l32Readers x s i).1).Mended)]), .bool ((spec_l32Readers x s i).2)])) ∧ SlO w' w.heap.size encLMap 3 48 A1' n1' c1' (((spec_l32Readers x s i).1).Maps) ∧ SlO w' w.heap.size encAway 2 57 A2' n2' c2' (((spec_l32Readers x s i).1).Away) ∧ (∀ b_, A1' = some ⟨b_, 0, none⟩ → ¬ A2' = some ⟨b_, 0, none⟩) ∧ Lo w w' := by
  refine calls_W 92 Tryd.func64 rfl rfl rfl ?_
  have hbdx_Maps := hx_Maps.bound
  have hlex_Maps := hx_Maps.len
  have hBbx_Maps := hx_Maps.bd
  have hbdx_Away := hx_Away.bound
  have hlex_Away := hx_Away.len
  have hBbx_Away := hx_Away.bd
  have hbdx_Maps := hx_Maps.bound
  have hlex_Maps := hx_Maps.len
  have hBbx_Maps := hx_Maps.bd
  have hbdx_Away := hx_Away.bound
  have hlex_Away := hx_Away.len
  have hBbx_Away := hx_Away.bd
  have hlb := lib_rng hp0
  refine W.seq ?_
  refine W.regS (SR.box (v := .agg (List.toArray _)) (l := [.slice Ax_Maps nx_Maps cx_Maps, .slice Ax_Away nx_Away cx_Away, .int .i64 x.Bought, .int .i64 x.Dropped, .int .i64 x.Mended]) rfl rfl ?_)
  intro g1 w2 hg3 hk4 hs5 hb6
  have hz7 := hk4.size
  have hB8 := (Lo.refl w).lo hk4
  refine SR.box (v := .agg (List.toArray _)) (l := [.int .i64 s.Kind, .int .i64 s.Id, .int .i64 s.Reader, .int .i64 s.Value]) rfl rfl ?_
  intro g9 w10 hg11 hk12 hs13 hb14
  have hz15 := hk12.size
  have hB16 := hB8.lo hk12
  refine SR.alloc (l := [.slice none 0 0, .slice none 0 0, .int .i64 0, .int .i64 0, .int .i64 0]) tz27 rfl ?_
  intro g17 w18 hg19 hk20 hs21 hb22
  have hz23 := hk20.size
  have hB24 := hB16.lo hk20
  refine SR.q' (r_as (v := .bool false) rfl) <| SR.nil ?_
  refine W.seq ?_
  have hm25 := ((hb6).lo hk12).lo hk20
  have hm26 := (((hx_Maps).lo hk4).lo hk12).lo hk20
  have hm27 := (((hx_Away).lo hk4).lo hk12).lo hk20
  refine W.regA (Lo w18) (fun f' w' => ∃ (g41 : Nat), At f' [(2, .int .i64 i), (3, .pointer (pA g1)), (4, .pointer (pA g9)), (6, .pointer (pA g17)), (7, .bool false), (8, .int .i64 (idxF (isA s.Id s.Reader) x.Away)), (9, .pointer (pA g41))] ∧ (Lo w18 w') ∧ (Blk w' g41 48 [.int .i64 ((gt x.Maps i.toNat).Id), .int .i64 ((gt x.Maps i.toNat).Copies), .int .i64 ((gt x.Maps i.toNat).Torn)]) ∧ (w18.heap.size ≤ g41 ∧ g41 < w'.heap.size) ∧ (x.Maps[i.toNat]? = some (gt x.Maps i.toNat)) ∧ (((1 : Int) ≤ (gt x.Maps i.toNat).Id ∧ (gt x.Maps i.toNat).Id ≤ 99) ∧ ((0 : Int) ≤ (gt x.Maps i.toNat).Copies ∧ (gt x.Maps i.toNat).Copies ≤ 99) ∧ ((0 : Int) ≤ (gt x.Maps i.toNat).Torn ∧ (gt x.Maps i.toNat).Torn ≤ (gt x.Maps i.toNat).Copies)) ∧ (idxF (isA s.Id s.Reader) x.Away < (x.Away.length : Int) ∧ -1 ≤ idxF (isA s.Id s.Reader) x.Away)) mo ?_ ?_
  · intro w78 hk79
    have hz80 := hk79.size
    have hB81 := hB24.lo hk79
    refine AH.via #[true, true, true, true, true, true, true, true, true, true, true, true, true, false] 1 (fun f' w' => ∃ (g41 : Nat), At f' [(2, .int .i64 i), (3, .pointer (pA g1)), (4, .pointer (pA g9)), (6, .pointer (pA g17)), (7, .bool false), (8, .int .i64 (idxF (isA s.Id s.Reader) x.Away)), (9, .pointer (pA g41)), (22, .agg (List.toArray (encLMap (gt x.Maps i.toNat))))] ∧ (Lo w18 w') ∧ (Blk w' g41 48 [.int .i64 0, .int .i64 0, .int .i64 0]) ∧ (w18.heap.size ≤ g41 ∧ g41 < w'.heap.size) ∧ (x.Maps[i.toNat]? = some (gt x.Maps i.toNat)) ∧ (((1 : Int) ≤ (gt x.Maps i.toNat).Id ∧ (gt x.Maps i.toNat).Id ≤ 99) ∧ ((0 : Int) ≤ (gt x.Maps i.toNat).Copies ∧ (gt x.Maps i.toNat).Copies ≤ 99) ∧ ((0 : Int) ≤ (gt x.Maps i.toNat).Torn ∧ (gt x.Maps i.toNat).Torn ≤ (gt x.Maps i.toNat).Copies)) ∧ (idxF (isA s.Id s.Reader) x.Away < (x.Away.length : Int) ∧ -1 ≤ idxF (isA s.Id s.Reader) x.Away)) ?_ (fun hn82 => ?_)
    · rintro f83 w84 ⟨g41, hat86, hR85, hm50, hg51, hx33, hq34, hq40⟩
      rw [← sets_of_at hat86]
      have hz87 := hR85.size
      have hB88 := hB24.lo hR85
      refine AH.br [13] (by kernel_rfl) rfl ⟨Br.mk' rfl trivial ?_, trivial⟩
      refine SR.store (o := 0) (vs := [.int .i64 ((gt x.Maps i.toNat).Id), .int .i64 ((gt x.Maps i.toNat).Copies), .int .i64 ((gt x.Maps i.toNat).Torn)]) agg48.2 rfl rfl rfl rfl (hm50) (Nat.le_of_ble_eq_true rfl) rfl ?_
      intro w89 hk90 hs91 hb92
      have hz93 := hk90.size
      have hB94 := hB88.new hk90 (by omega)
      have hS95 := (hR85).new hk90 (by omega)
      refine SR.nil ⟨hS95, _, rfl, ?_⟩
      refine AH.done (by kernel_rfl) ?_
      exact ⟨g41, ⟨rfl, rfl, rfl, rfl, rfl, rfl, rfl, trivial⟩, hS95, (hb92), ⟨by omega, (hb92).lt⟩, hx33, hq34, hq40⟩
    refine AH.take 0 rfl (by kernel_rfl) trivial (hk79) (fun w' hw' => r_lda (l := [.slice Ax_Maps nx_Maps cx_Maps, .slice Ax_Away nx_Away cx_Away, .int .i64 x.Bought, .int .i64 x.Dropped, .int .i64 x.Mended]) agg27 rfl (fun _ _ hu => ((hm25).lo hw').cell hu) rfl) <| AH.take 1 rfl (by kernel_rfl) trivial (hk79) (fun w' hw' => r_fa fa66_1 rfl) <| AH.take 2 rfl (by kernel_rfl) trivial (hk79) (fun w' hw' => r_ld (v := .int .i64 s.Id) sca3 rfl ((((hb14).lo hk20).lo hw').cell rfl)) <| AH.take 3 rfl (by kernel_rfl) trivial (hk79) (fun w' hw' => r_fa fa66_2 rfl) <| AH.take 4 rfl (by kernel_rfl) trivial (hk79) (fun w' hw' => r_ld (v := .int .i64 s.Reader) sca3 rfl ((((hb14).lo hk20).lo hw').cell rfl)) <| AH.take 6 rfl (by kernel_rfl) trivial (hk79) (fun w' hw' => r_fa fa27_0 rfl) <| AH.take 7 rfl (by kernel_rfl) trivial (hk79) (fun w' hw' => r_ld (v := .slice Ax_Maps nx_Maps cx_Maps) sca24 rfl (((hm25).lo hw').cell rfl)) <| AH.take 8 rfl (by kernel_rfl) trivial (hk79) (fun w' hw' => r_mv (v := .int .i64 _) rfl) <| ?_
    have hx98 := ((hm26).lo hk79).elem (i := i.toNat) (by omega)
    have hq99 := maps_rng hp0.1.1 hx98
    refine AH.take 9 rfl (by kernel_rfl) trivial (hk79) (fun w' hw' => r_ixR tsl24 (((hm26).lo hw')) rfl rfl (by omega)) <| AH.take 10 rfl (by kernel_rfl) trivial (hk79) (fun w' hw' => r_lda (l := encLMap (gt x.Maps i.toNat)) agg48 rfl (fun _ _ hu => (((hm26).lo hw')).cell hx98 hu) ((((hm26).lo hw')).esz _)) <| AH.br [5, 11] (by kernel_rfl) rfl ⟨Br.mk' rfl trivial ?_, Br.mk' rfl trivial ?_, trivial⟩
    · refine SR.call ent66 (c_spec_l32Away w78 x (((hm26).lo hk79)) (((hm27).lo hk79)) s.Id s.Reader) rfl ?_
      rintro e w100 ⟨rfl, hk101⟩
      refine ⟨_, rfl, ?_⟩
      have hz102 := hk101.size
      have hB103 := hB81.lo hk101
      have hS104 := (hk79).lo hk101
      have hq105 : idxF (isA s.Id s.Reader) x.Away < (x.Away.length : Int) ∧ -1 ≤ idxF (isA s.Id s.Reader) x.Away := idx_lt
      refine SR.nil ⟨hS104, _, rfl, ?_⟩
      refine AH.br [11] (by kernel_rfl) rfl ⟨Br.mk' rfl trivial ?_, trivial⟩
      refine SR.alloc (l := [.int .i64 0, .int .i64 0, .int .i64 0]) tz48 rfl ?_
      intro g106 w107 hg108 hk109 hs110 hb111
      have hz112 := hk109.size
      have hB113 := hB103.lo hk109
      have hS114 := (hS104).lo hk109
      refine SR.nil ⟨hS114, _, rfl, ?_⟩
      refine AH.take 12 rfl (by kernel_rfl) trivial (hS114) (fun w' hw' => r_as (v := .int .i64 _) rfl) <| AH.goto (by kernel_rfl) rfl (hn82 _ _ ?_)
      exact ⟨g106, ⟨rfl, rfl, rfl, rfl, rfl, rfl, rfl, rfl, trivial⟩, hS114, (hb111), ⟨by omega, (hb111).lt⟩, hx98, hq99, hq105⟩
    · refine SR.alloc (l := [.int .i64 0, .int .i64 0, .int .i64 0]) tz48 rfl ?_
      intro g116 w117 hg118 hk119 hs120 hb121
      have hz122 := hk119.size
      have hB123 := hB81.lo hk119
      have hS124 := (hk79).lo hk119
      refine SR.nil ⟨hS124, _, rfl, ?_⟩
      refine AH.br [5] (by kernel_rfl) rfl ⟨Br.mk' rfl trivial ?_, trivial⟩
      refine SR.call ent66 (c_spec_l32Away w117 x ((((hm26).lo hk79).lo hk119)) ((((hm27).lo hk79).lo hk119)) s.Id s.Reader) rfl ?_
      rintro e w125 ⟨rfl, hk126⟩
      refine ⟨_, rfl, ?_⟩
      have hz127 := hk126.size
      have hB128 := hB123.lo hk126
      have hS129 := (hS124).lo hk126
      have hq130 : idxF (isA s.Id s.Reader) x.Away < (x.Away.length : Int) ∧ -1 ≤ idxF (isA s.Id s.Reader) x.Away := idx_lt
      refine SR.nil ⟨hS129, _, rfl, ?_⟩
      refine AH.take 12 rfl (by kernel_rfl) trivial (hS129) (fun w' hw' => r_as (v := .int .i64 _) rfl) <| AH.goto (by kernel_rfl) rfl (hn82 _ _ ?_)
      exact ⟨g116, ⟨rfl, rfl, rfl, rfl, rfl, rfl, rfl, rfl, trivial⟩, hS129, ((hb121).lo hk126), ⟨by omega, ((hb121).lo hk126).lt⟩, hx98, hq99, hq130⟩
  rintro f132 w133 ⟨g41, hat135, hR134, hm59, hg60, hx33, hq34, hq40⟩
  rw [← sets_of_at hat135]
  have hz136 := hR134.size
  have hB137 := hB24.lo hR134
  refine W.seq ?_
  refine W.seq ?_
  have hm138 := ((hb14).lo hk20).lo hR134
  refine W.regS (SR.q' (r_fa fa66_0 rfl) <| SR.q' (r_ld (v := .int .i64 s.Kind) sca3 rfl ((hm138).cell rfl)) <| SR.q' (r_eq rfl rfl) <| SR.nil ?_)
  refine W.cond_d rfl (fun h139 => ?_) (fun h139 => ?_)
  · refine W.seq ?_
    refine W.regS (SR.q' (r_lda (l := [.slice Ax_Maps nx_Maps cx_Maps, .slice Ax_Away nx_Away cx_Away, .int .i64 x.Bought, .int .i64 x.Dropped, .int .i64 x.Mended]) agg27 rfl (fun _ _ hu => ((hm25).lo hR134).cell hu) rfl) <| SR.q' (r_fa fa66_1 rfl) <| SR.q' (r_ld (v := .int .i64 s.Id) sca3 rfl ((hm138).cell rfl)) <| SR.q' (r_fa fa66_2 rfl) <| SR.q' (r_ld (v := .int .i64 s.Reader) sca3 rfl ((hm138).cell rfl)) <| SR.call ent67 (c_spec_l32Gone w133 x (((hm26).lo hR134)) (((hm27).lo hR134)) s.Id s.Reader (by omega) (by omega)) rfl ?_)
    rintro e w140 ⟨A142, n143, c144, A146, n147, c148, rfl, hO145, hO149, hd150, hk141⟩
    refine ⟨_, rfl, ?_⟩
    have hz151 := hk141.size
    have hB152 := hB137.lo hk141
    have hl153 := hO145.len
    have hl154 := hO145.rd.bound
    have hq155 := gone_lenMaps x s.Id s.Reader
    have hl156 := hO149.len
    have hl157 := hO149.rd.bound
    have hq158 := gone_lenAway x s.Id s.Reader
    refine SR.alloc (l := [.slice none 0 0, .slice none 0 0, .int .i64 0, .int .i64 0, .int .i64 0]) tz27 rfl ?_
    intro g159 w160 hg161 hk162 hs163 hb164
    have hz165 := hk162.size
    have hB166 := hB152.lo hk162
    have hd167 : ¬ A142 = some ⟨g159, 0, none⟩ := fun e' => by have := (hO145).base_le e'; omega
    have hd168 : ¬ A146 = some ⟨g159, 0, none⟩ := fun e' => by have := (hO149).base_le e'; omega
    refine SR.store (o := 0) (vs := [.slice A142 n143 c144, .slice A146 n147 c148, .int .i64 ((goneN x s.Id s.Reader).Bought), .int .i64 ((goneN x s.Id s.Reader).Dropped), .int .i64 ((goneN x s.Id s.Reader).Mended)]) agg27.2 rfl rfl rfl rfl (hb164) (Nat.le_of_ble_eq_true rfl) rfl ?_
    intro w169 hk170 hs171 hb172
    have hz173 := hk170.size
    have hB174 := hB166.new hk170 (by omega)
    refine SR.nil ?_
    refine W.seq ?_
    have hm179 := ((((hb22).lo hR134).lo hk141).lo hk162).kn hk170 (by omega)
    have hm180 := (((hm59).lo hk141).lo hk162).kn hk170 (by omega)
    have hm181 := ((hO145).lo hk162).kd hk170 hd167
    have hm182 := ((hO149).lo hk162).kd hk170 hd168
    refine W.regS (SR.q' (r_fa fa27_0 rfl) <| SR.q' (r_ld (v := .slice A142 n143 c144) sca24 rfl ((hb172).cell rfl)) <| SR.q' (r_mv (v := .int .i64 _) rfl) <| SR.q' (r_fa fa48_1 rfl) <| SR.q' (r_ld (v := .int .i64 ((gt x.Maps i.toNat).Copies)) sca3 rfl ((hm180).cell rfl)) <| SR.q' (r_sub rfl rfl (by omega)) <| ?_)
    have hx184 := ((hm181).rd).elem (i := i.toNat) (by omega)
    have hq185 := maps_rng hp0.1.1 hx184
    refine SR.q' (r_ixR tsl24 ((hm181).rd) rfl rfl (by omega)) <| SR.q' (r_fa fa48_1 rfl) <| SR.storeO (o := 1) (vs := [.int .i64 (((gt x.Maps i.toNat).Copies) - 1)]) (x1 := { (gt ((goneN x s.Id s.Reader).Maps) i.toNat) with Copies := ((gt x.Maps i.toNat).Copies) - 1 }) sca3.2 rfl (add_add _ _ _) rfl rfl (hm181) hx184 rfl (Nat.le_of_ble_eq_true rfl) rfl ?_
    intro w186 hk187 hs188 hO189
    have hz190 := hk187.size
    have hB191 := hB174.step hk187 (fun i_ hi_ e' => by have := ((hm181)).base_le e'; first | omega | (exfalso; omega) | exact e' | exact .inl e' | exact .inr e')
    have hx192 : (((goneN x s.Id s.Reader).Maps).set i.toNat ({ (gt ((goneN x s.Id s.Reader).Maps) i.toNat) with Copies := ((gt x.Maps i.toNat).Copies) - 1 }))[i.toNat]? = some ({ (gt ((goneN x s.Id s.Reader).Maps) i.toNat) with Copies := ((gt x.Maps i.toNat).Copies) - 1 }) := List.getElem?_set_self (List.getElem?_eq_some_iff.1 hx184).1
    refine SR.nil ?_
    refine W.seq ?_
    refine W.regA (Kp (fun b_ => b_ = g17) w186) (fun f' w' => At f' [(2, .int .i64 i), (3, .pointer (pA g1)), (4, .pointer (pA g9)), (6, .pointer (pA g17)), (7, .bool (decide (((idxF (isA s.Id s.Reader) x.Away) < 0) ∧ (((gt x.Maps i.toNat).Torn) < ((gt x.Maps i.toNat).Copies))))), (8, .int .i64 (idxF (isA s.Id s.Reader) x.Away)), (9, .pointer (pA g41))] ∧ (Kp (fun b_ => b_ = g17) w186 w') ∧ (Blk w' g17 27 [.slice A142 n143 c144, .slice A146 n147 c148, .int .i64 ((goneN x s.Id s.Reader).Bought), .int .i64 ((goneN x s.Id s.Reader).Dropped), .int .i64 ((goneN x s.Id s.Reader).Mended)])) mo ?_ ?_
    · intro w203 hk204
      have hz205 := hk204.size
      have hB206 := hB191.lo hk204
      refine AH.take 0 rfl (by kernel_rfl) trivial ((Kp.refl w186 : Kp (fun b_ => b_ = g17) w186 w186).lo hk204) (fun w' hw' => r_lda (l := [.slice A142 n143 c144, .slice A146 n147 c148, .int .i64 ((goneN x s.Id s.Reader).Bought), .int .i64 ((goneN x s.Id s.Reader).Dropped), .int .i64 ((goneN x s.Id s.Reader).Mended)]) agg27 rfl (fun _ _ hu => (((hb172).kp hk187 (fun e' => hd167 e')).kn hw' (by omega)).cell hu) rfl) <| AH.take 1 rfl (by kernel_rfl) trivial ((Kp.refl w186 : Kp (fun b_ => b_ = g17) w186 w186).lo hk204) (fun w' hw' => r_mv (v := .int .i64 _) rfl) <| AH.take 2 rfl (by kernel_rfl) trivial ((Kp.refl w186 : Kp (fun b_ => b_ = g17) w186 w186).lo hk204) (fun w' hw' => r_lt rfl rfl) <| AH.take 3 rfl (by kernel_rfl) trivial ((Kp.refl w186 : Kp (fun b_ => b_ = g17) w186 w186).lo hk204) (fun w' hw' => r_mv (v := .bool _) rfl) <| AH.splitD (fun h207 => ?_) (fun h207 => ?_)
      · refine AH.take 4 rfl (by kernel_rfl) rfl ((Kp.refl w186 : Kp (fun b_ => b_ = g17) w186 w186).lo hk204) (fun w' hw' => r_fa fa48_1 rfl) <| AH.take 5 rfl (by kernel_rfl) rfl ((Kp.refl w186 : Kp (fun b_ => b_ = g17) w186 w186).lo hk204) (fun w' hw' => r_ld (v := .int .i64 ((gt x.Maps i.toNat).Copies)) sca3 rfl ((((hm180).kp hk187 (fun e' => by have := ((hm181)).base_le e'; omega)).kn hw' (by omega)).cell rfl)) <| AH.take 6 rfl (by kernel_rfl) rfl ((Kp.refl w186 : Kp (fun b_ => b_ = g17) w186 w186).lo hk204) (fun w' hw' => r_fa fa48_2 rfl) <| AH.take 7 rfl (by kernel_rfl) rfl ((Kp.refl w186 : Kp (fun b_ => b_ = g17) w186 w186).lo hk204) (fun w' hw' => r_ld (v := .int .i64 ((gt x.Maps i.toNat).Torn)) sca3 rfl ((((hm180).kp hk187 (fun e' => by have := ((hm181)).base_le e'; omega)).kn hw' (by omega)).cell rfl)) <| AH.take 8 rfl (by kernel_rfl) rfl ((Kp.refl w186 : Kp (fun b_ => b_ = g17) w186 w186).lo hk204) (fun w' hw' => r_gt rfl rfl) <| AH.take 9 rfl (by kernel_rfl) trivial ((Kp.refl w186 : Kp (fun b_ => b_ = g17) w186 w186).lo hk204) (fun w' hw' => r_pick true rfl (v := .bool _) rfl) <| AH.br [10] (by kernel_rfl) rfl ⟨Br.mk' rfl trivial ?_, trivial⟩
        refine SR.store (o := 0) (vs := [.slice A142 n143 c144, .slice A146 n147 c148, .int .i64 ((goneN x s.Id s.Reader).Bought), .int .i64 ((goneN x s.Id s.Reader).Dropped), .int .i64 ((goneN x s.Id s.Reader).Mended)]) agg27.2 rfl rfl rfl rfl (((hm179).kp hk187 (fun e' => by have := ((hm181)).base_le e'; omega)).lo hk204) (Nat.le_of_ble_eq_true rfl) rfl ?_
        intro w208 hk209 hs210 hb211
        have hz212 := hk209.size
        have hB213 := hB206.new hk209 (by omega)
        have hS214 := ((Kp.refl w186 : Kp (fun b_ => b_ = g17) w186 w186).lo hk204).step hk209 (fun _ _ e => e)
        refine SR.nil ⟨hS214, _, rfl, ?_⟩
        refine AH.take 11 rfl (by kernel_rfl) trivial (hS214) (fun w' hw' => r_as (v := .bool _) rfl) <| AH.done (by kernel_rfl) ?_
        exact ⟨⟨rfl, rfl, rfl, rfl, (eDD (jat h207)), rfl, rfl, trivial⟩, hS214, (hb211)⟩
      · have hq216 := Int.not_lt.1 h207
        refine AH.s' 4 rfl (by kernel_rfl) rfl ((Kp.refl w186 : Kp (fun b_ => b_ = g17) w186 w186).lo hk204) <| AH.s' 5 rfl (by kernel_rfl) rfl ((Kp.refl w186 : Kp (fun b_ => b_ = g17) w186 w186).lo hk204) <| AH.s' 6 rfl (by kernel_rfl) rfl ((Kp.refl w186 : Kp (fun b_ => b_ = g17) w186 w186).lo hk204) <| AH.s' 7 rfl (by kernel_rfl) rfl ((Kp.refl w186 : Kp (fun b_ => b_ = g17) w186 w186).lo hk204) <| AH.s' 8 rfl (by kernel_rfl) rfl ((Kp.refl w186 : Kp (fun b_ => b_ = g17) w186 w186).lo hk204) <| AH.take 9 rfl (by kernel_rfl) trivial ((Kp.refl w186 : Kp (fun b_ => b_ = g17) w186 w186).lo hk204) (fun w' hw' => r_pick false rfl (v := .bool false) rfl) <| AH.br [10] (by kernel_rfl) rfl ⟨Br.mk' rfl trivial ?_, trivial⟩
        refine SR.store (o := 0) (vs := [.slice A142 n143 c144, .slice A146 n147 c148, .int .i64 ((goneN x s.Id s.Reader).Bought), .int .i64 ((goneN x s.Id s.Reader).Dropped), .int .i64 ((goneN x s.Id s.Reader).Mended)]) agg27.2 rfl rfl rfl rfl (((hm179).kp hk187 (fun e' => by have := ((hm181)).base_le e'; omega)).lo hk204) (Nat.le_of_ble_eq_true rfl) rfl ?_
        intro w217 hk218 hs219 hb220
        have hz221 := hk218.size
        have hB222 := hB206.new hk218 (by omega)
        have hS223 := ((Kp.refl w186 : Kp (fun b_ => b_ = g17) w186 w186).lo hk204).step hk218 (fun _ _ e => e)
        refine SR.nil ⟨hS223, _, rfl, ?_⟩
        refine AH.take 11 rfl (by kernel_rfl) trivial (hS223) (fun w' hw' => r_as (v := .bool _) rfl) <| AH.done (by kernel_rfl) ?_
        exact ⟨⟨rfl, rfl, rfl, rfl, (eDF (jaf h207).2), rfl, rfl, trivial⟩, hS223, (hb220)⟩
    rintro f224 w225 ⟨hat227, hR226, hm215⟩
    rw [← sets_of_at hat227]
    have hz228 := hR226.size
    have hB229 := hB191.new hR226 (by omega)
    refine W.ret ?_
    refine retCT rfl rfl agg27 (hm215) rfl (v := .bool _) rfl ?_
    exact ⟨A142, n143, c144, A146, n147, c148, eR (eT2 (eA (eC rfl (eC rfl (eC (eI (by subst hl153 hl156; unfold spec_l32Readers; rw [if_pos h139] <;> rfl)) (eC (eI (by subst hl153 hl156; unfold spec_l32Readers; rw [if_pos h139] <;> rfl)) (eC (eI (by subst hl153 hl156; unfold spec_l32Readers; rw [if_pos h139] <;> rfl)) rfl)))))) (eB (by subst hl153 hl156; unfold spec_l32Readers; rw [if_pos h139] <;> rfl))), (SlO.eqv (((hO189).kn hR226 (by omega)).down (by omega)) (by subst hl153 hl156; unfold spec_l32Readers; rw [if_pos h139] <;> rfl)), (SlO.eqv ((((hm182).kp hk187 (fun b_ hb e' => hd150 b_ e' hb)).kn hR226 (by omega)).down (by omega)) (by subst hl153 hl156; unfold spec_l32Readers; rw [if_pos h139] <;> rfl)), hd150, hB229⟩
  · refine W.skip ?_
    refine W.seq ?_
    refine W.seq ?_
    refine W.regS (SR.q' (r_mv (v := .int .i64 _) rfl) <| SR.q' (r_lt rfl rfl) <| SR.nil ?_)
    refine W.cond_d rfl (fun h230 => ?_) (fun h230 => ?_)
    · refine W.seq ?_
      refine W.regS (SR.q' (r_lda (l := [.slice Ax_Maps nx_Maps cx_Maps, .slice Ax_Away nx_Away cx_Away, .int .i64 x.Bought, .int .i64 x.Dropped, .int .i64 x.Mended]) agg27 rfl (fun _ _ hu => ((hm25).lo hR134).cell hu) rfl) <| SR.call ent62 (c_spec_l32Own w133 x (((hm26).lo hR134)) (((hm27).lo hR134)) (by omega) (by omega)) rfl ?_)
      rintro e w231 ⟨A233, n234, c235, A237, n238, c239, rfl, hO236, hO240, hd241, hk232⟩
      refine ⟨_, rfl, ?_⟩
      have hz242 := hk232.size
      have hB243 := hB137.lo hk232
      have hl244 := hO236.len
      have hl245 := hO236.rd.bound
      have hl246 := hO240.len
      have hl247 := hO240.rd.bound
      refine SR.store (o := 0) (vs := [.slice A233 n234 c235, .slice A237 n238 c239, .int .i64 x.Bought, .int .i64 x.Dropped, .int .i64 x.Mended]) agg27.2 rfl rfl rfl rfl (((hb22).lo hR134).lo hk232) (Nat.le_of_ble_eq_true rfl) rfl ?_
      intro w248 hk249 hs250 hb251
      have hz252 := hk249.size
      have hB253 := hB243.new hk249 (by omega)
      refine SR.q' (r_as (v := .bool false) rfl) <| SR.nil ?_
      refine W.ret ?_
      refine retCT rfl rfl agg27 (hb251) rfl (v := .bool _) rfl ?_
      exact ⟨A233, n234, c235, A237, n238, c239, eR (eT2 (eA (eC rfl (eC rfl (eC (eI (by subst hl244 hl246; unfold spec_l32Readers; rw [if_neg h139, if_pos h230] <;> rfl)) (eC (eI (by subst hl244 hl246; unfold spec_l32Readers; rw [if_neg h139, if_pos h230] <;> rfl)) (eC (eI (by subst hl244 hl246; unfold spec_l32Readers; rw [if_neg h139, if_pos h230] <;> rfl)) rfl)))))) (eB (by subst hl244 hl246; unfold spec_l32Readers; rw [if_neg h139, if_pos h230] <;> rfl))), (SlO.eqv (((hO236).kn hk249 (by omega)).down (by omega)) (by subst hl244 hl246; unfold spec_l32Readers; rw [if_neg h139, if_pos h230] <;> rfl)), (SlO.eqv (((hO240).kn hk249 (by omega)).down (by omega)) (by subst hl244 hl246; unfold spec_l32Readers; rw [if_neg h139, if_pos h230] <;> rfl)), hd241, hB253⟩
    · have hq254 := Int.not_lt.1 h230
      refine W.skip ?_
      refine W.seq ?_
      refine W.regS (SR.q' (r_lda (l := [.slice Ax_Maps nx_Maps cx_Maps, .slice Ax_Away nx_Away cx_Away, .int .i64 x.Bought, .int .i64 x.Dropped, .int .i64 x.Mended]) agg27 rfl (fun _ _ hu => ((hm25).lo hR134).cell hu) rfl) <| SR.q' (r_mv (v := .int .i64 _) rfl) <| SR.call ent68 (c_spec_l32Back w133 x (((hm26).lo hR134)) (((hm27).lo hR134)) (idxF (isA s.Id s.Reader) x.Away) (by omega) (by omega) (by omega)) rfl ?_)
      rintro e w255 ⟨A257, n258, c259, A261, n262, c263, rfl, hO260, hO264, hd265, hk256⟩
      refine ⟨_, rfl, ?_⟩
      have hz266 := hk256.size
      have hB267 := hB137.lo hk256
      have hl268 := hO260.len
      have hl269 := hO260.rd.bound
      have hq270 := back_lenMaps x (idxF (isA s.Id s.Reader) x.Away)
      have hl271 := hO264.len
      have hl272 := hO264.rd.bound
      have hq273 := back_lenAway x (idxF (isA s.Id s.Reader) x.Away)
      refine SR.alloc (l := [.slice none 0 0, .slice none 0 0, .int .i64 0, .int .i64 0, .int .i64 0]) tz27 rfl ?_
      intro g274 w275 hg276 hk277 hs278 hb279
      have hz280 := hk277.size
      have hB281 := hB267.lo hk277
      have hd282 : ¬ A257 = some ⟨g274, 0, none⟩ := fun e' => by have := (hO260).base_le e'; omega
      have hd283 : ¬ A261 = some ⟨g274, 0, none⟩ := fun e' => by have := (hO264).base_le e'; omega
      refine SR.store (o := 0) (vs := [.slice A257 n258 c259, .slice A261 n262 c263, .int .i64 ((backN x (idxF (isA s.Id s.Reader) x.Away)).Bought), .int .i64 ((backN x (idxF (isA s.Id s.Reader) x.Away)).Dropped), .int .i64 ((backN x (idxF (isA s.Id s.Reader) x.Away)).Mended)]) agg27.2 rfl rfl rfl rfl (hb279) (Nat.le_of_ble_eq_true rfl) rfl ?_
      intro w284 hk285 hs286 hb287
      have hz288 := hk285.size
      have hB289 := hB281.new hk285 (by omega)
      refine SR.nil ?_
      refine W.seq ?_
      refine W.seq ?_
      have hm290 := ((((hm25).lo hR134).lo hk256).lo hk277).kn hk285 (by omega)
      have hm291 := ((((hm26).lo hR134).lo hk256).lo hk277).kn hk285 (by omega)
      have hm292 := ((((hm27).lo hR134).lo hk256).lo hk277).kn hk285 (by omega)
      have hm293 := (((hm138).lo hk256).lo hk277).kn hk285 (by omega)
      have hm294 := ((((hb22).lo hR134).lo hk256).lo hk277).kn hk285 (by omega)
      have hm295 := (((hm59).lo hk256).lo hk277).kn hk285 (by omega)
      have hm296 := ((hO260).lo hk277).kd hk285 hd282
      have hm297 := ((hO264).lo hk277).kd hk285 hd283
      refine W.regS (SR.q' (r_fa fa66_0 rfl) <| SR.q' (r_ld (v := .int .i64 s.Kind) sca3 rfl ((hm293).cell rfl)) <| SR.q' (r_eq rfl rfl) <| SR.nil ?_)
      refine W.cond_d rfl (fun h298 => ?_) (fun h298 => ?_)
      · refine W.seq ?_
        refine W.regA (Kp (fun b_ => b_ = g17) w284) (fun f' w' => ∃ (A357 : Option Addr) (n358 : Nat) (c359 : Nat) (A361 : Option Addr) (n362 : Nat) (c363 : Nat), At f' [(2, .int .i64 i), (4, .pointer (pA g9)), (6, .pointer (pA g17)), (7, .bool (decide ((idxF (isA s.Id s.Value) x.Away) < 0))), (9, .pointer (pA g41)), (11, .pointer (pA g274))] ∧ (Kp (fun b_ => b_ = g17) w284 w') ∧ (SlO w' w284.heap.size encLMap 3 48 A357 n358 c359 ((goneN (backN x (idxF (isA s.Id s.Reader) x.Away)) s.Id s.Value).Maps)) ∧ (SlO w' w284.heap.size encAway 2 57 A361 n362 c363 ((goneN (backN x (idxF (isA s.Id s.Reader) x.Away)) s.Id s.Value).Away)) ∧ (Blk w' g17 27 [.slice A357 n358 c359, .slice A361 n362 c363, .int .i64 ((goneN (backN x (idxF (isA s.Id s.Reader) x.Away)) s.Id s.Value).Bought), .int .i64 ((goneN (backN x (idxF (isA s.Id s.Reader) x.Away)) s.Id s.Value).Dropped), .int .i64 ((goneN (backN x (idxF (isA s.Id s.Reader) x.Away)) s.Id s.Value).Mended)]) ∧ (∀ b_, A357 = some ⟨b_, 0, none⟩ → ¬ A257 = some ⟨b_, 0, none⟩) ∧ (∀ b_, A357 = some ⟨b_, 0, none⟩ → ¬ A261 = some ⟨b_, 0, none⟩) ∧ (∀ b_, A357 = some ⟨b_, 0, none⟩ → ¬ A361 = some ⟨b_, 0, none⟩) ∧ (∀ b_, A361 = some ⟨b_, 0, none⟩ → ¬ A257 = some ⟨b_, 0, none⟩) ∧ (∀ b_, A361 = some ⟨b_, 0, none⟩ → ¬ A261 = some ⟨b_, 0, none⟩) ∧ (n358 = ((goneN (backN x (idxF (isA s.Id s.Reader) x.Away)) s.Id s.Value).Maps).length) ∧ ((n358 : Int) ≤ 9223372036854775807) ∧ (((goneN (backN x (idxF (isA s.Id s.Reader) x.Away)) s.Id s.Value).Maps).length = (backN x (idxF (isA s.Id s.Reader) x.Away)).Maps.length) ∧ (n362 = ((goneN (backN x (idxF (isA s.Id s.Reader) x.Away)) s.Id s.Value).Away).length) ∧ ((n362 : Int) ≤ 9223372036854775807) ∧ (((goneN (backN x (idxF (isA s.Id s.Reader) x.Away)) s.Id s.Value).Away).length = (backN x (idxF (isA s.Id s.Reader) x.Away)).Away.length + 1) ∧ (idxF (isA s.Id s.Value) x.Away < (x.Away.length : Int) ∧ -1 ≤ idxF (isA s.Id s.Value) x.Away)) mo ?_ ?_
        · intro w412 hk413
          have hz414 := hk413.size
          have hB415 := hB289.lo hk413
          refine AH.take 0 rfl (by kernel_rfl) trivial ((Kp.refl w284 : Kp (fun b_ => b_ = g17) w284 w284).lo hk413) (fun w' hw' => r_lda (l := [.slice A257 n258 c259, .slice A261 n262 c263, .int .i64 ((backN x (idxF (isA s.Id s.Reader) x.Away)).Bought), .int .i64 ((backN x (idxF (isA s.Id s.Reader) x.Away)).Dropped), .int .i64 ((backN x (idxF (isA s.Id s.Reader) x.Away)).Mended)]) agg27 rfl (fun _ _ hu => ((hb287).kn hw' (by omega)).cell hu) rfl) <| AH.take 1 rfl (by kernel_rfl) trivial ((Kp.refl w284 : Kp (fun b_ => b_ = g17) w284 w284).lo hk413) (fun w' hw' => r_fa fa66_1 rfl) <| AH.take 2 rfl (by kernel_rfl) trivial ((Kp.refl w284 : Kp (fun b_ => b_ = g17) w284 w284).lo hk413) (fun w' hw' => r_ld (v := .int .i64 s.Id) sca3 rfl (((hm293).kn hw' (by omega)).cell rfl)) <| AH.take 3 rfl (by kernel_rfl) trivial ((Kp.refl w284 : Kp (fun b_ => b_ = g17) w284 w284).lo hk413) (fun w' hw' => r_fa fa66_3 rfl) <| AH.take 4 rfl (by kernel_rfl) trivial ((Kp.refl w284 : Kp (fun b_ => b_ = g17) w284 w284).lo hk413) (fun w' hw' => r_ld (v := .int .i64 s.Value) sca3 rfl (((hm293).kn hw' (by omega)).cell rfl)) <| AH.take 6 rfl (by kernel_rfl) trivial ((Kp.refl w284 : Kp (fun b_ => b_ = g17) w284 w284).lo hk413) (fun w' hw' => r_lda (l := [.slice Ax_Maps nx_Maps cx_Maps, .slice Ax_Away nx_Away cx_Away, .int .i64 x.Bought, .int .i64 x.Dropped, .int .i64 x.Mended]) agg27 rfl (fun _ _ hu => ((hm290).kn hw' (by omega)).cell hu) rfl) <| AH.take 7 rfl (by kernel_rfl) trivial ((Kp.refl w284 : Kp (fun b_ => b_ = g17) w284 w284).lo hk413) (fun w' hw' => r_fa fa66_1 rfl) <| AH.take 8 rfl (by kernel_rfl) trivial ((Kp.refl w284 : Kp (fun b_ => b_ = g17) w284 w284).lo hk413) (fun w' hw' => r_ld (v := .int .i64 s.Id) sca3 rfl (((hm293).kn hw' (by omega)).cell rfl)) <| AH.take 9 rfl (by kernel_rfl) trivial ((Kp.refl w284 : Kp (fun b_ => b_ = g17) w284 w284).lo hk413) (fun w' hw' => r_fa fa66_3 rfl) <| AH.take 10 rfl (by kernel_rfl) trivial ((Kp.refl w284 : Kp (fun b_ => b_ = g17) w284 w284).lo hk413) (fun w' hw' => r_ld (v := .int .i64 s.Value) sca3 rfl (((hm293).kn hw' (by omega)).cell rfl)) <| AH.br [5] (by kernel_rfl) rfl ⟨Br.mk' rfl trivial ?_, trivial⟩
          refine SR.call ent67 (c_spec_l32Gone w412 (backN x (idxF (isA s.Id s.Reader) x.Away)) ((((hm296).lo hk413).rd)) ((((hm297).lo hk413).rd)) s.Id s.Value (by omega) (by omega)) rfl ?_
          rintro e w416 ⟨A418, n419, c420, A422, n423, c424, rfl, hO421, hO425, hd426, hk417⟩
          refine ⟨_, rfl, ?_⟩
          have hz427 := hk417.size
          have hB428 := hB415.lo hk417
          have hS429 := ((Kp.refl w284 : Kp (fun b_ => b_ = g17) w284 w284).lo hk413).lo hk417
          have hl430 := hO421.len
          have hl431 := hO421.rd.bound
          have hq432 := gone_lenMaps (backN x (idxF (isA s.Id s.Reader) x.Away)) s.Id s.Value
          have hl433 := hO425.len
          have hl434 := hO425.rd.bound
          have hq435 := gone_lenAway (backN x (idxF (isA s.Id s.Reader) x.Away)) s.Id s.Value
          refine SR.nil ⟨hS429, _, rfl, ?_⟩
          refine AH.br [11] (by kernel_rfl) rfl ⟨Br.mk' rfl trivial ?_, trivial⟩
          refine SR.call ent66 (c_spec_l32Away w416 x ((((hm291).lo hk413).lo hk417)) ((((hm292).lo hk413).lo hk417)) s.Id s.Value) rfl ?_
          rintro e w436 ⟨rfl, hk437⟩
          refine ⟨_, rfl, ?_⟩
          have hz438 := hk437.size
          have hB439 := hB428.lo hk437
          have hS440 := (hS429).lo hk437
          have hq441 : idxF (isA s.Id s.Value) x.Away < (x.Away.length : Int) ∧ -1 ≤ idxF (isA s.Id s.Value) x.Away := idx_lt
          refine SR.nil ⟨hS440, _, rfl, ?_⟩
          refine AH.take 12 rfl (by kernel_rfl) trivial (hS440) (fun w' hw' => r_lt rfl rfl) <| AH.br [13] (by kernel_rfl) rfl ⟨Br.mk' rfl trivial ?_, trivial⟩
          refine SR.store (o := 0) (vs := [.slice A418 n419 c420, .slice A422 n423 c424, .int .i64 ((goneN (backN x (idxF (isA s.Id s.Reader) x.Away)) s.Id s.Value).Bought), .int .i64 ((goneN (backN x (idxF (isA s.Id s.Reader) x.Away)) s.Id s.Value).Dropped), .int .i64 ((goneN (backN x (idxF (isA s.Id s.Reader) x.Away)) s.Id s.Value).Mended)]) agg27.2 rfl rfl rfl rfl ((((hm294).lo hk413).lo hk417).lo hk437) (Nat.le_of_ble_eq_true rfl) rfl ?_
          intro w442 hk443 hs444 hb445
          have hz446 := hk443.size
          have hB447 := hB439.new hk443 (by omega)
          have hS448 := (hS440).step hk443 (fun _ _ e => e)
          refine SR.nil ⟨hS448, _, rfl, ?_⟩
          refine AH.take 14 rfl (by kernel_rfl) trivial (hS448) (fun w' hw' => r_as (v := .bool _) rfl) <| AH.done (by kernel_rfl) ?_
          exact ⟨A418, n419, c420, A422, n423, c424, ⟨rfl, rfl, rfl, rfl, rfl, rfl, trivial⟩, hS448, ((((hO421).lo hk437).kn hk443 (by omega)).down (by omega)), ((((hO425).lo hk437).kn hk443 (by omega)).down (by omega)), (hb445), (fun b_ h h' => by have h1 := (((hO421).lo hk437).kn hk443 (by omega)).base_le h; have h2 := ((hm296).lo hk413).base_le h'; omega), (fun b_ h h' => by have h1 := (((hO421).lo hk437).kn hk443 (by omega)).base_le h; have h2 := ((hm297).lo hk413).base_le h'; omega), hd426, (fun b_ h h' => by have h1 := (((hO425).lo hk437).kn hk443 (by omega)).base_le h; have h2 := ((hm296).lo hk413).base_le h'; omega), (fun b_ h h' => by have h1 := (((hO425).lo hk437).kn hk443 (by omega)).base_le h; have h2 := ((hm297).lo hk413).base_le h'; omega), hl430, hl431, hq432, hl433, hl434, hq435, hq441⟩
        rintro f454 w455 ⟨A357, n358, c359, A361, n362, c363, hat457, hR456, hm404, hm405, hm406, hd407, hd408, hd409, hd410, hd411, hl369, hl370, hq371, hl372, hl373, hq374, hq388⟩
        rw [← sets_of_at hat457]
        have hz458 := hR456.size
        have hB459 := hB289.new hR456 (by omega)
        refine W.ret ?_
        refine retCT rfl rfl agg27 (hm406) rfl (v := .bool _) rfl ?_
        exact ⟨A357, n358, c359, A361, n362, c363, eR (eT2 (eA (eC rfl (eC rfl (eC (eI (by subst hl369 hl372; unfold spec_l32Readers; rw [if_neg h139, if_neg h230, if_pos h298] <;> rfl)) (eC (eI (by subst hl369 hl372; unfold spec_l32Readers; rw [if_neg h139, if_neg h230, if_pos h298] <;> rfl)) (eC (eI (by subst hl369 hl372; unfold spec_l32Readers; rw [if_neg h139, if_neg h230, if_pos h298] <;> rfl)) rfl)))))) (eB (by subst hl369 hl372; unfold spec_l32Readers; rw [if_neg h139, if_neg h230, if_pos h298] <;> rfl))), (SlO.eqv ((hm404).down (by omega)) (by subst hl369 hl372; unfold spec_l32Readers; rw [if_neg h139, if_neg h230, if_pos h298] <;> rfl)), (SlO.eqv ((hm405).down (by omega)) (by subst hl369 hl372; unfold spec_l32Readers; rw [if_neg h139, if_neg h230, if_pos h298] <;> rfl)), hd409, hB459⟩
      · refine W.skip ?_
        refine W.seq ?_
        refine W.regS (SR.q' (r_fa fa27_0 rfl) <| SR.q' (r_ld (v := .slice A257 n258 c259) sca24 rfl ((hb287).cell rfl)) <| SR.q' (r_mv (v := .int .i64 _) rfl) <| SR.q' (r_fa fa48_1 rfl) <| SR.q' (r_ld (v := .int .i64 ((gt x.Maps i.toNat).Copies)) sca3 rfl ((hm295).cell rfl)) <| SR.q' (r_add rfl rfl (by omega)) <| ?_)
        have hx461 := ((hm296).rd).elem (i := i.toNat) (by omega)
        have hq462 := maps_rng hp0.1.1 hx461
        refine SR.q' (r_ixR tsl24 ((hm296).rd) rfl rfl (by omega)) <| SR.q' (r_fa fa48_1 rfl) <| SR.storeO (o := 1) (vs := [.int .i64 (((gt x.Maps i.toNat).Copies) + 1)]) (x1 := { (gt ((backN x (idxF (isA s.Id s.Reader) x.Away)).Maps) i.toNat) with Copies := ((gt x.Maps i.toNat).Copies) + 1 }) sca3.2 rfl (add_add _ _ _) rfl rfl (hm296) hx461 rfl (Nat.le_of_ble_eq_true rfl) rfl ?_
        intro w463 hk464 hs465 hO466
        have hz467 := hk464.size
        have hB468 := hB289.step hk464 (fun i_ hi_ e' => by have := ((hm296)).base_le e'; first | omega | (exfalso; omega) | exact e' | exact .inl e' | exact .inr e')
        have hx469 : (((backN x (idxF (isA s.Id s.Reader) x.Away)).Maps).set i.toNat ({ (gt ((backN x (idxF (isA s.Id s.Reader) x.Away)).Maps) i.toNat) with Copies := ((gt x.Maps i.toNat).Copies) + 1 }))[i.toNat]? = some ({ (gt ((backN x (idxF (isA s.Id s.Reader) x.Away)).Maps) i.toNat) with Copies := ((gt x.Maps i.toNat).Copies) + 1 }) := List.getElem?_set_self (List.getElem?_eq_some_iff.1 hx461).1
        refine SR.nil ?_
        refine W.seq ?_
        refine W.regS (SR.q' (r_fa fa27_0 rfl) <| SR.q' (r_ld (v := .slice A257 n258 c259) sca24 rfl (((hb287).kp hk464 (fun e' => hd282 e')).cell rfl)) <| SR.q' (r_mv (v := .int .i64 _) rfl) <| SR.q' (r_fa fa48_2 rfl) <| SR.q' (r_ld (v := .int .i64 ((gt x.Maps i.toNat).Torn)) sca3 rfl (((hm295).kp hk464 (fun e' => by have := ((hm296)).base_le e'; omega)).cell rfl)) <| SR.q' (r_fa fa66_3 rfl) <| SR.q' (r_ld (v := .int .i64 s.Value) sca3 rfl (((hm293).kp hk464 (fun e' => by have := ((hm296)).base_le e'; omega)).cell rfl)) <| SR.q' (r_add rfl rfl (by omega)) <| SR.q' (r_ixR tsl24 ((hO466).rd) rfl rfl (by omega)) <| SR.q' (r_fa fa48_2 rfl) <| SR.storeO (o := 2) (vs := [.int .i64 (((gt x.Maps i.toNat).Torn) + s.Value)]) (x1 := { ({ (gt ((backN x (idxF (isA s.Id s.Reader) x.Away)).Maps) i.toNat) with Copies := ((gt x.Maps i.toNat).Copies) + 1 }) with Torn := ((gt x.Maps i.toNat).Torn) + s.Value }) sca3.2 rfl (add_add _ _ _) rfl rfl (hO466) hx469 rfl (Nat.le_of_ble_eq_true rfl) rfl ?_)
        intro w470 hk471 hs472 hO473
        have hz474 := hk471.size
        have hB475 := hB468.step hk471 (fun i_ hi_ e' => by have := ((hO466)).base_le e'; first | omega | (exfalso; omega) | exact e' | exact .inl e' | exact .inr e')
        rw [List.set_set] at hO473
        have hx476 : (((backN x (idxF (isA s.Id s.Reader) x.Away)).Maps).set i.toNat ({ ({ (gt ((backN x (idxF (isA s.Id s.Reader) x.Away)).Maps) i.toNat) with Copies := ((gt x.Maps i.toNat).Copies) + 1 }) with Torn := ((gt x.Maps i.toNat).Torn) + s.Value }))[i.toNat]? = some ({ ({ (gt ((backN x (idxF (isA s.Id s.Reader) x.Away)).Maps) i.toNat) with Copies := ((gt x.Maps i.toNat).Copies) + 1 }) with Torn := ((gt x.Maps i.toNat).Torn) + s.Value }) := List.getElem?_set_self (List.getElem?_eq_some_iff.1 hx461).1
        refine SR.nil ?_
        refine W.seq ?_
        have hm477 := ((hm294).kp hk464 (fun e' => by have := ((hm296)).base_le e'; omega)).kp hk471 (fun e' => by have := ((hO466)).base_le e'; omega)
        have hm478 := ((hb287).kp hk464 (fun e' => hd282 e')).kp hk471 (fun e' => hd282 e')
        have hm479 := ((hm297).kp hk464 (fun b_ hb e' => hd265 b_ e' hb)).kp hk471 (fun b_ hb e' => hd265 b_ e' hb)
        refine W.regS (SR.q' (r_lda (l := [.slice A257 n258 c259, .slice A261 n262 c263, .int .i64 ((backN x (idxF (isA s.Id s.Reader) x.Away)).Bought), .int .i64 ((backN x (idxF (isA s.Id s.Reader) x.Away)).Dropped), .int .i64 ((backN x (idxF (isA s.Id s.Reader) x.Away)).Mended)]) agg27 rfl (fun _ _ hu => (hm478).cell hu) rfl) <| SR.store (o := 0) (vs := [.slice A257 n258 c259, .slice A261 n262 c263, .int .i64 ((backN x (idxF (isA s.Id s.Reader) x.Away)).Bought), .int .i64 ((backN x (idxF (isA s.Id s.Reader) x.Away)).Dropped), .int .i64 ((backN x (idxF (isA s.Id s.Reader) x.Away)).Mended)]) agg27.2 rfl rfl rfl rfl (hm477) (Nat.le_of_ble_eq_true rfl) rfl ?_)
        intro w480 hk481 hs482 hb483
        have hz484 := hk481.size
        have hB485 := hB475.new hk481 (by omega)
        refine SR.q' (r_as (v := .bool true) rfl) <| SR.nil ?_
        refine W.ret ?_
        refine retCT rfl rfl agg27 (hb483) rfl (v := .bool _) rfl ?_
        exact ⟨A257, n258, c259, A261, n262, c263, eR (eT2 (eA (eC rfl (eC rfl (eC (eI (by subst hl268 hl271; unfold spec_l32Readers; rw [if_neg h139, if_neg h230, if_neg h298] <;> rfl)) (eC (eI (by subst hl268 hl271; unfold spec_l32Readers; rw [if_neg h139, if_neg h230, if_neg h298] <;> rfl)) (eC (eI (by subst hl268 hl271; unfold spec_l32Readers; rw [if_neg h139, if_neg h230, if_neg h298] <;> rfl)) rfl)))))) (eB (by subst hl268 hl271; unfold spec_l32Readers; rw [if_neg h139, if_neg h230, if_neg h298] <;> rfl))), (SlO.eqv (((hO473).kn hk481 (by omega)).down (by omega)) (by subst hl268 hl271; unfold spec_l32Readers; rw [if_neg h139, if_neg h230, if_neg h298] <;> rfl)), (SlO.eqv (((hm479).kn hk481 (by omega)).down (by omega)) (by subst hl268 hl271; unfold spec_l32Readers; rw [if_neg h139, if_neg h230, if_neg h298] <;> rfl)), hd265, hB485⟩

open Classical in
noncomputable def spec_l32Make (x : Library) (s : LibraryStep) : Library × Bool :=
  if s.Kind = 1 then ((boughtN x s.Id s.Value), decide (LibOK (boughtN x s.Id s.Value))) else if s.Kind = 4 then ((⟨x.Maps.set ((idxF (hasId s.Id) x.Maps).toNat) ({ (gt x.Maps ((idxF (hasId s.Id) x.Maps).toNat)) with Torn := ((gt x.Maps ((idxF (hasId s.Id) x.Maps).toNat)).Torn) - (min s.Value ((gt x.Maps ((idxF (hasId s.Id) x.Maps).toNat)).Torn)) }), x.Away, x.Bought, x.Dropped, x.Mended + (min s.Value ((gt x.Maps ((idxF (hasId s.Id) x.Maps).toNat)).Torn))⟩ : Library), decide ((s.Value ≤ ((gt x.Maps ((idxF (hasId s.Id) x.Maps).toNat)).Torn)) ∧ (LibOK (⟨x.Maps.set ((idxF (hasId s.Id) x.Maps).toNat) ({ (gt x.Maps ((idxF (hasId s.Id) x.Maps).toNat)) with Torn := ((gt x.Maps ((idxF (hasId s.Id) x.Maps).toNat)).Torn) - (min s.Value ((gt x.Maps ((idxF (hasId s.Id) x.Maps).toNat)).Torn)) }), x.Away, x.Bought, x.Dropped, x.Mended + (min s.Value ((gt x.Maps ((idxF (hasId s.Id) x.Maps).toNat)).Torn))⟩ : Library)))) else if s.Kind = 6 then ((⟨x.Maps.set ((idxF (hasId s.Id) x.Maps).toNat) (⟨(gt x.Maps ((idxF (hasId s.Id) x.Maps).toNat)).Id, ((gt x.Maps ((idxF (hasId s.Id) x.Maps).toNat)).Copies) - (min s.Value ((gt x.Maps ((idxF (hasId s.Id) x.Maps).toNat)).Torn)), ((gt x.Maps ((idxF (hasId s.Id) x.Maps).toNat)).Torn) - (min s.Value ((gt x.Maps ((idxF (hasId s.Id) x.Maps).toNat)).Torn))⟩ : LMap), x.Away, x.Bought, x.Dropped + (min s.Value ((gt x.Maps ((idxF (hasId s.Id) x.Maps).toNat)).Torn)), x.Mended⟩ : Library), decide ((s.Value ≤ ((gt x.Maps ((idxF (hasId s.Id) x.Maps).toNat)).Torn)) ∧ (LibOK (⟨x.Maps.set ((idxF (hasId s.Id) x.Maps).toNat) (⟨(gt x.Maps ((idxF (hasId s.Id) x.Maps).toNat)).Id, ((gt x.Maps ((idxF (hasId s.Id) x.Maps).toNat)).Copies) - (min s.Value ((gt x.Maps ((idxF (hasId s.Id) x.Maps).toNat)).Torn)), ((gt x.Maps ((idxF (hasId s.Id) x.Maps).toNat)).Torn) - (min s.Value ((gt x.Maps ((idxF (hasId s.Id) x.Maps).toNat)).Torn))⟩ : LMap), x.Away, x.Bought, x.Dropped + (min s.Value ((gt x.Maps ((idxF (hasId s.Id) x.Maps).toNat)).Torn)), x.Mended⟩ : Library)))) else if s.Kind = 7 then ((⟨x.Maps.set ((idxF (hasId s.Id) x.Maps).toNat) ({ (gt x.Maps ((idxF (hasId s.Id) x.Maps).toNat)) with Torn := ((gt x.Maps ((idxF (hasId s.Id) x.Maps).toNat)).Torn) + (min s.Value 100) }), x.Away, x.Bought, x.Dropped, x.Mended⟩ : Library), decide ((s.Value ≤ (((gt x.Maps ((idxF (hasId s.Id) x.Maps).toNat)).Copies) - ((gt x.Maps ((idxF (hasId s.Id) x.Maps).toNat)).Torn))) ∧ (LibOK (⟨x.Maps.set ((idxF (hasId s.Id) x.Maps).toNat) ({ (gt x.Maps ((idxF (hasId s.Id) x.Maps).toNat)) with Torn := ((gt x.Maps ((idxF (hasId s.Id) x.Maps).toNat)).Torn) + (min s.Value 100) }), x.Away, x.Bought, x.Dropped, x.Mended⟩ : Library)))) else (((spec_l32Readers x s (idxF (hasId s.Id) x.Maps)).1), decide ((((spec_l32Readers x s (idxF (hasId s.Id) x.Maps)).2) = true) ∧ (LibOK ((spec_l32Readers x s (idxF (hasId s.Id) x.Maps)).1))))
theorem c_spec_l32Make (w : World) (x : Library) {Ax_Maps : Option Addr} {nx_Maps cx_Maps Bx_Maps : Nat} (hx_Maps : SlR w Bx_Maps encLMap 3 Ax_Maps nx_Maps cx_Maps x.Maps) {Ax_Away : Option Addr} {nx_Away cx_Away Bx_Away : Nat} (hx_Away : SlR w Bx_Away encAway 2 Ax_Away nx_Away cx_Away x.Away) (s : LibraryStep) (hp0 : LibOK x) (hp1 : spec_l32Step x s = true) : Calls Tryd.prog 56 #[.agg (List.toArray [.slice Ax_Maps nx_Maps cx_Maps, .slice Ax_Away nx_Away cx_Away, .int .i64 x.Bought, .int .i64 x.Dropped, .int .i64 x.Mended]), .agg (List.toArray (encLibraryStep s))] w fun e w' => ∃ (A1' : Option Addr) (n1' c1' : Nat) (A2' : Option Addr) (n2' c2' : Nat), e = .returned (.tuple (List.toArray [.agg (List.toArray [.slice A1' n1' c1', .slice A2' n2' c2', .int .i64 (((spec_l32Make x s).1).Bought), .int .i64 (((spec_l32Make x s).1).Dropped), .int .i64 (((spec_l32Make x s).1).Mended)]), .bool ((spec_l32Make x s).2)])) ∧ SlO w' w.heap.size encLMap 3 48 A1' n1' c1' (((spec_l32Make x s).1).Maps) ∧ SlO w' w.heap.size encAway 2 57 A2' n2' c2' (((spec_l32Make x s).1).Away) ∧ (∀ b_, A1' = some ⟨b_, 0, none⟩ → ¬ A2' = some ⟨b_, 0, none⟩) ∧ Lo w w' := by
  refine calls_W 138 Tryd.func56 rfl rfl rfl ?_
  have hbdx_Maps := hx_Maps.bound
  have hlex_Maps := hx_Maps.len
  have hBbx_Maps := hx_Maps.bd
  have hbdx_Away := hx_Away.bound
  have hlex_Away := hx_Away.len
  have hBbx_Away := hx_Away.bd
  have hbdx_Maps := hx_Maps.bound
  have hlex_Maps := hx_Maps.len
  have hBbx_Maps := hx_Maps.bd
  have hbdx_Away := hx_Away.bound
  have hlex_Away := hx_Away.len
  have hBbx_Away := hx_Away.bd
  have hlb := lib_rng hp0
  have hsr := stepL_rng hp1
  refine W.seq ?_
  refine W.regS (SR.box (v := .agg (List.toArray _)) (l := [.slice Ax_Maps nx_Maps cx_Maps, .slice Ax_Away nx_Away cx_Away, .int .i64 x.Bought, .int .i64 x.Dropped, .int .i64 x.Mended]) rfl rfl ?_)
  intro g1 w2 hg3 hk4 hs5 hb6
  have hz7 := hk4.size
  have hB8 := (Lo.refl w).lo hk4
  refine SR.box (v := .agg (List.toArray _)) (l := [.int .i64 s.Kind, .int .i64 s.Id, .int .i64 s.Reader, .int .i64 s.Value]) rfl rfl ?_
  intro g9 w10 hg11 hk12 hs13 hb14
  have hz15 := hk12.size
  have hB16 := hB8.lo hk12
  refine SR.alloc (l := [.slice none 0 0, .slice none 0 0, .int .i64 0, .int .i64 0, .int .i64 0]) tz27 rfl ?_
  intro g17 w18 hg19 hk20 hs21 hb22
  have hz23 := hk20.size
  have hB24 := hB16.lo hk20
  refine SR.q' (r_as (v := .bool false) rfl) <| SR.nil ?_
  refine W.seq ?_
  refine W.seq ?_
  have hm25 := ((hb6).lo hk12).lo hk20
  have hm26 := (((hx_Maps).lo hk4).lo hk12).lo hk20
  have hm27 := (((hx_Away).lo hk4).lo hk12).lo hk20
  refine W.regS (SR.q' (r_fa fa66_0 rfl) <| SR.q' (r_ld (v := .int .i64 s.Kind) sca3 rfl (((hb14).lo hk20).cell rfl)) <| SR.q' (r_eq rfl rfl) <| SR.nil ?_)
  refine W.cond_d rfl (fun h28 => ?_) (fun h28 => ?_)
  · refine W.seq ?_
    refine W.regS (SR.q' (r_lda (l := [.slice Ax_Maps nx_Maps cx_Maps, .slice Ax_Away nx_Away cx_Away, .int .i64 x.Bought, .int .i64 x.Dropped, .int .i64 x.Mended]) agg27 rfl (fun _ _ hu => (hm25).cell hu) rfl) <| SR.q' (r_fa fa66_1 rfl) <| SR.q' (r_ld (v := .int .i64 s.Id) sca3 rfl (((hb14).lo hk20).cell rfl)) <| SR.q' (r_fa fa66_3 rfl) <| SR.q' (r_ld (v := .int .i64 s.Value) sca3 rfl (((hb14).lo hk20).cell rfl)) <| SR.call ent61 (c_spec_l32Bought w18 x ((hm26)) ((hm27)) s.Id s.Value (by assumption) (by omega)) rfl ?_)
    rintro e w29 ⟨A31, n32, c33, A35, n36, c37, rfl, hO34, hO38, hd39, hk30⟩
    refine ⟨_, rfl, ?_⟩
    have hz40 := hk30.size
    have hB41 := hB24.lo hk30
    have hl42 := hO34.len
    have hl43 := hO34.rd.bound
    have hq44 := bought_lenMaps x s.Id s.Value
    have hl45 := hO38.len
    have hl46 := hO38.rd.bound
    have hq47 := bought_lenAway x s.Id s.Value
    refine SR.alloc (l := [.slice none 0 0, .slice none 0 0, .int .i64 0, .int .i64 0, .int .i64 0]) tz27 rfl ?_
    intro g48 w49 hg50 hk51 hs52 hb53
    have hz54 := hk51.size
    have hB55 := hB41.lo hk51
    have hd56 : ¬ A31 = some ⟨g48, 0, none⟩ := fun e' => by have := (hO34).base_le e'; omega
    have hd57 : ¬ A35 = some ⟨g48, 0, none⟩ := fun e' => by have := (hO38).base_le e'; omega
    refine SR.store (o := 0) (vs := [.slice A31 n32 c33, .slice A35 n36 c37, .int .i64 ((boughtN x s.Id s.Value).Bought), .int .i64 ((boughtN x s.Id s.Value).Dropped), .int .i64 ((boughtN x s.Id s.Value).Mended)]) agg27.2 rfl rfl rfl rfl (hb53) (Nat.le_of_ble_eq_true rfl) rfl ?_
    intro w58 hk59 hs60 hb61
    have hz62 := hk59.size
    have hB63 := hB55.new hk59 (by omega)
    refine SR.nil ?_
    refine W.seq ?_
    have hm68 := (((hb22).lo hk30).lo hk51).kn hk59 (by omega)
    have hm69 := ((hO34).lo hk51).kd hk59 hd56
    have hm70 := ((hO38).lo hk51).kd hk59 hd57
    refine W.regA (Kp (fun b_ => b_ = g17) w58) (fun f' w' => At f' [(2, .pointer (pA g1)), (3, .pointer (pA g9)), (4, .pointer (pA g17)), (5, .bool (decide (LibOK (boughtN x s.Id s.Value))))] ∧ (Kp (fun b_ => b_ = g17) w58 w') ∧ (Blk w' g17 27 [.slice A31 n32 c33, .slice A35 n36 c37, .int .i64 ((boughtN x s.Id s.Value).Bought), .int .i64 ((boughtN x s.Id s.Value).Dropped), .int .i64 ((boughtN x s.Id s.Value).Mended)])) mo ?_ ?_
    · intro w106 hk107
      have hz108 := hk107.size
      have hB109 := hB63.lo hk107
      refine AH.take 0 rfl (by kernel_rfl) trivial ((Kp.refl w58 : Kp (fun b_ => b_ = g17) w58 w58).lo hk107) (fun w' hw' => r_lda (l := [.slice A31 n32 c33, .slice A35 n36 c37, .int .i64 ((boughtN x s.Id s.Value).Bought), .int .i64 ((boughtN x s.Id s.Value).Dropped), .int .i64 ((boughtN x s.Id s.Value).Mended)]) agg27 rfl (fun _ _ hu => ((hb61).kn hw' (by omega)).cell hu) rfl) <| AH.take 1 rfl (by kernel_rfl) trivial ((Kp.refl w58 : Kp (fun b_ => b_ = g17) w58 w58).lo hk107) (fun w' hw' => r_lda (l := [.slice A31 n32 c33, .slice A35 n36 c37, .int .i64 ((boughtN x s.Id s.Value).Bought), .int .i64 ((boughtN x s.Id s.Value).Dropped), .int .i64 ((boughtN x s.Id s.Value).Mended)]) agg27 rfl (fun _ _ hu => ((hb61).kn hw' (by omega)).cell hu) rfl) <| AH.br [2] (by kernel_rfl) rfl ⟨Br.mk' rfl trivial ?_, trivial⟩
      refine SR.call ent30 (c_spec_l32Good w106 (boughtN x s.Id s.Value) ((((hm69).lo hk107).rd)) ((((hm70).lo hk107).rd))) rfl ?_
      rintro e w110 ⟨rfl, hk111⟩
      refine ⟨_, rfl, ?_⟩
      have hz112 := hk111.size
      have hB113 := hB109.lo hk111
      have hS114 := ((Kp.refl w58 : Kp (fun b_ => b_ = g17) w58 w58).lo hk107).lo hk111
      refine SR.nil ⟨hS114, _, rfl, ?_⟩
      refine AH.br [3] (by kernel_rfl) rfl ⟨Br.mk' rfl trivial ?_, trivial⟩
      refine SR.store (o := 0) (vs := [.slice A31 n32 c33, .slice A35 n36 c37, .int .i64 ((boughtN x s.Id s.Value).Bought), .int .i64 ((boughtN x s.Id s.Value).Dropped), .int .i64 ((boughtN x s.Id s.Value).Mended)]) agg27.2 rfl rfl rfl rfl (((hm68).lo hk107).lo hk111) (Nat.le_of_ble_eq_true rfl) rfl ?_
      intro w115 hk116 hs117 hb118
      have hz119 := hk116.size
      have hB120 := hB113.new hk116 (by omega)
      have hS121 := (hS114).step hk116 (fun _ _ e => e)
      refine SR.nil ⟨hS121, _, rfl, ?_⟩
      refine AH.take 4 rfl (by kernel_rfl) trivial (hS121) (fun w' hw' => r_as (v := .bool _) rfl) <| AH.done (by kernel_rfl) ?_
      exact ⟨⟨rfl, rfl, rfl, rfl, trivial⟩, hS121, (hb118)⟩
    rintro f122 w123 ⟨hat125, hR124, hm105⟩
    rw [← sets_of_at hat125]
    have hz126 := hR124.size
    have hB127 := hB63.new hR124 (by omega)
    refine W.ret ?_
    refine retCT rfl rfl agg27 (hm105) rfl (v := .bool _) rfl ?_
    exact ⟨A31, n32, c33, A35, n36, c37, eR (eT2 (eA (eC rfl (eC rfl (eC (eI (by subst hl42 hl45; unfold spec_l32Make; rw [if_pos h28] <;> rfl)) (eC (eI (by subst hl42 hl45; unfold spec_l32Make; rw [if_pos h28] <;> rfl)) (eC (eI (by subst hl42 hl45; unfold spec_l32Make; rw [if_pos h28] <;> rfl)) rfl)))))) (eB (by subst hl42 hl45; unfold spec_l32Make; rw [if_pos h28] <;> rfl))), (SlO.eqv (((hm69).kn hR124 (by omega)).down (by omega)) (by subst hl42 hl45; unfold spec_l32Make; rw [if_pos h28] <;> rfl)), (SlO.eqv (((hm70).kn hR124 (by omega)).down (by omega)) (by subst hl42 hl45; unfold spec_l32Make; rw [if_pos h28] <;> rfl)), hd39, hB127⟩
  · refine W.skip ?_
    refine W.seq ?_
    refine W.regA (Lo w18) (fun f' w' => ∃ (A134 : Option Addr) (n135 : Nat) (c136 : Nat) (A138 : Option Addr) (n139 : Nat) (c140 : Nat) (g162 : Nat), At f' [(2, .pointer (pA g1)), (3, .pointer (pA g9)), (4, .pointer (pA g17)), (5, .bool false), (7, .pointer (pA g162)), (8, .int .i64 (idxF (hasId s.Id) x.Maps))] ∧ (Lo w18 w') ∧ (SlO w' w18.heap.size encLMap 3 48 A134 n135 c136 x.Maps) ∧ (SlO w' w18.heap.size encAway 2 57 A138 n139 c140 x.Away) ∧ (Blk w' g162 27 [.slice A134 n135 c136, .slice A138 n139 c140, .int .i64 x.Bought, .int .i64 x.Dropped, .int .i64 x.Mended]) ∧ (w18.heap.size ≤ g162 ∧ g162 < w'.heap.size) ∧ (¬ A134 = some ⟨g162, 0, none⟩) ∧ (¬ A138 = some ⟨g162, 0, none⟩) ∧ (∀ b_, A134 = some ⟨b_, 0, none⟩ → ¬ A138 = some ⟨b_, 0, none⟩) ∧ (n135 = (x.Maps).length) ∧ ((n135 : Int) ≤ 9223372036854775807) ∧ (n139 = (x.Away).length) ∧ ((n139 : Int) ≤ 9223372036854775807) ∧ (idxF (hasId s.Id) x.Maps < (x.Maps.length : Int) ∧ -1 ≤ idxF (hasId s.Id) x.Maps)) mo ?_ ?_
    · intro w247 hk248
      have hz249 := hk248.size
      have hB250 := hB24.lo hk248
      refine AH.via #[true, true, true, true, true, true, true, false, false] 2 (fun f' w' => ∃ (A134 : Option Addr) (n135 : Nat) (c136 : Nat) (A138 : Option Addr) (n139 : Nat) (c140 : Nat) (g162 : Nat), At f' [(2, .pointer (pA g1)), (3, .pointer (pA g9)), (4, .pointer (pA g17)), (5, .bool false), (7, .pointer (pA g162)), (24, .agg (List.toArray [.slice A134 n135 c136, .slice A138 n139 c140, .int .i64 x.Bought, .int .i64 x.Dropped, .int .i64 x.Mended])), (28, .int .i64 (idxF (hasId s.Id) x.Maps))] ∧ (Lo w18 w') ∧ (SlO w' w18.heap.size encLMap 3 48 A134 n135 c136 x.Maps) ∧ (SlO w' w18.heap.size encAway 2 57 A138 n139 c140 x.Away) ∧ (Blk w' g162 27 [.slice none 0 0, .slice none 0 0, .int .i64 0, .int .i64 0, .int .i64 0]) ∧ (w18.heap.size ≤ g162 ∧ g162 < w'.heap.size) ∧ (¬ A134 = some ⟨g162, 0, none⟩) ∧ (¬ A138 = some ⟨g162, 0, none⟩) ∧ (∀ b_, A134 = some ⟨b_, 0, none⟩ → ¬ A138 = some ⟨b_, 0, none⟩) ∧ (n135 = (x.Maps).length) ∧ ((n135 : Int) ≤ 9223372036854775807) ∧ (n139 = (x.Away).length) ∧ ((n139 : Int) ≤ 9223372036854775807) ∧ (idxF (hasId s.Id) x.Maps < (x.Maps.length : Int) ∧ -1 ≤ idxF (hasId s.Id) x.Maps)) ?_ (fun hn251 => ?_)
      · rintro f252 w253 ⟨A134, n135, c136, A138, n139, c140, g162, hat255, hR254, hm173, hm174, hm175, hg176, hd177, hd178, hd179, hl146, hl147, hl148, hl149, hq158⟩
        rw [← sets_of_at hat255]
        have hz256 := hR254.size
        have hB257 := hB24.lo hR254
        refine AH.br [7] (by kernel_rfl) rfl ⟨Br.mk' rfl trivial ?_, trivial⟩
        refine SR.store (o := 0) (vs := [.slice A134 n135 c136, .slice A138 n139 c140, .int .i64 x.Bought, .int .i64 x.Dropped, .int .i64 x.Mended]) agg27.2 rfl rfl rfl rfl (hm175) (Nat.le_of_ble_eq_true rfl) rfl ?_
        intro w258 hk259 hs260 hb261
        have hz262 := hk259.size
        have hB263 := hB257.new hk259 (by omega)
        have hS264 := (hR254).new hk259 (by omega)
        refine SR.nil ⟨hS264, _, rfl, ?_⟩
        refine AH.take 8 rfl (by kernel_rfl) trivial (hS264) (fun w' hw' => r_as (v := .int .i64 _) rfl) <| AH.done (by kernel_rfl) ?_
        exact ⟨A134, n135, c136, A138, n139, c140, g162, ⟨rfl, rfl, rfl, rfl, rfl, rfl, trivial⟩, hS264, (((hm173).kd hk259 hd177).down (by omega)), (((hm174).kd hk259 hd178).down (by omega)), (hb261), ⟨by omega, (hb261).lt⟩, hd177, hd178, hd179, hl146, hl147, hl148, hl149, hq158⟩
      refine AH.via #[true, true, true, true, true, false, true, false, false] 3 (fun f' w' => ∃ (A134 : Option Addr) (n135 : Nat) (c136 : Nat) (A138 : Option Addr) (n139 : Nat) (c140 : Nat) (g194 : Nat), At f' [(2, .pointer (pA g1)), (3, .pointer (pA g9)), (4, .pointer (pA g17)), (5, .bool false), (7, .pointer (pA g194)), (24, .agg (List.toArray [.slice A134 n135 c136, .slice A138 n139 c140, .int .i64 x.Bought, .int .i64 x.Dropped, .int .i64 x.Mended])), (25, .agg (List.toArray [.slice Ax_Maps nx_Maps cx_Maps, .slice Ax_Away nx_Away cx_Away, .int .i64 x.Bought, .int .i64 x.Dropped, .int .i64 x.Mended])), (27, .int .i64 s.Id)] ∧ (Lo w18 w') ∧ (SlO w' w18.heap.size encLMap 3 48 A134 n135 c136 x.Maps) ∧ (SlO w' w18.heap.size encAway 2 57 A138 n139 c140 x.Away) ∧ (Blk w' g194 27 [.slice none 0 0, .slice none 0 0, .int .i64 0, .int .i64 0, .int .i64 0]) ∧ (w18.heap.size ≤ g194 ∧ g194 < w'.heap.size) ∧ (¬ A134 = some ⟨g194, 0, none⟩) ∧ (¬ A138 = some ⟨g194, 0, none⟩) ∧ (∀ b_, A134 = some ⟨b_, 0, none⟩ → ¬ A138 = some ⟨b_, 0, none⟩) ∧ (n135 = (x.Maps).length) ∧ ((n135 : Int) ≤ 9223372036854775807) ∧ (n139 = (x.Away).length) ∧ ((n139 : Int) ≤ 9223372036854775807)) ?_ (fun hn269 => ?_)
      · rintro f270 w271 ⟨A134, n135, c136, A138, n139, c140, g194, hat273, hR272, hm205, hm206, hm207, hg208, hd209, hd210, hd211, hl146, hl147, hl148, hl149⟩
        rw [← sets_of_at hat273]
        have hz274 := hR272.size
        have hB275 := hB24.lo hR272
        refine AH.br [5] (by kernel_rfl) rfl ⟨Br.mk' rfl trivial ?_, trivial⟩
        refine SR.call ent31 (c_spec_l32Map w271 x (((hm26).lo hR272)) (((hm27).lo hR272)) s.Id) rfl ?_
        rintro e w276 ⟨rfl, hk277⟩
        refine ⟨_, rfl, ?_⟩
        have hz278 := hk277.size
        have hB279 := hB275.lo hk277
        have hS280 := (hR272).lo hk277
        have hq281 : idxF (hasId s.Id) x.Maps < (x.Maps.length : Int) ∧ -1 ≤ idxF (hasId s.Id) x.Maps := idx_lt
        refine SR.nil ⟨hS280, _, rfl, ?_⟩
        refine AH.goto (by kernel_rfl) rfl (hn251 _ _ ?_)
        exact ⟨A134, n135, c136, A138, n139, c140, g194, ⟨rfl, rfl, rfl, rfl, rfl, rfl, rfl, trivial⟩, hS280, (((hm205).lo hk277).down (by omega)), (((hm206).lo hk277).down (by omega)), ((hm207).lo hk277), ⟨by omega, ((hm207).lo hk277).lt⟩, hd209, hd210, hd211, hl146, hl147, hl148, hl149, hq281⟩
      refine AH.take 0 rfl (by kernel_rfl) trivial (hk248) (fun w' hw' => r_lda (l := [.slice Ax_Maps nx_Maps cx_Maps, .slice Ax_Away nx_Away cx_Away, .int .i64 x.Bought, .int .i64 x.Dropped, .int .i64 x.Mended]) agg27 rfl (fun _ _ hu => ((hm25).lo hw').cell hu) rfl) <| AH.take 2 rfl (by kernel_rfl) trivial (hk248) (fun w' hw' => r_lda (l := [.slice Ax_Maps nx_Maps cx_Maps, .slice Ax_Away nx_Away cx_Away, .int .i64 x.Bought, .int .i64 x.Dropped, .int .i64 x.Mended]) agg27 rfl (fun _ _ hu => ((hm25).lo hw').cell hu) rfl) <| AH.take 3 rfl (by kernel_rfl) trivial (hk248) (fun w' hw' => r_fa fa66_1 rfl) <| AH.take 4 rfl (by kernel_rfl) trivial (hk248) (fun w' hw' => r_ld (v := .int .i64 s.Id) sca3 rfl ((((hb14).lo hk20).lo hw').cell rfl)) <| AH.br [1, 6] (by kernel_rfl) rfl ⟨Br.mk' rfl trivial ?_, Br.mk' rfl trivial ?_, trivial⟩
      · refine SR.call ent62 (c_spec_l32Own w247 x (((hm26).lo hk248)) (((hm27).lo hk248)) (by omega) (by omega)) rfl ?_
        rintro e w286 ⟨A288, n289, c290, A292, n293, c294, rfl, hO291, hO295, hd296, hk287⟩
        refine ⟨_, rfl, ?_⟩
        have hz297 := hk287.size
        have hB298 := hB250.lo hk287
        have hS299 := (hk248).lo hk287
        have hl300 := hO291.len
        have hl301 := hO291.rd.bound
        have hl302 := hO295.len
        have hl303 := hO295.rd.bound
        refine SR.nil ⟨hS299, _, rfl, ?_⟩
        refine AH.br [5, 6] (by kernel_rfl) rfl ⟨Br.mk' rfl trivial ?_, Br.mk' rfl trivial ?_, trivial⟩
        · refine SR.call ent31 (c_spec_l32Map w286 x ((((hm26).lo hk248).lo hk287)) ((((hm27).lo hk248).lo hk287)) s.Id) rfl ?_
          rintro e w304 ⟨rfl, hk305⟩
          refine ⟨_, rfl, ?_⟩
          have hz306 := hk305.size
          have hB307 := hB298.lo hk305
          have hS308 := (hS299).lo hk305
          have hq309 : idxF (hasId s.Id) x.Maps < (x.Maps.length : Int) ∧ -1 ≤ idxF (hasId s.Id) x.Maps := idx_lt
          refine SR.nil ⟨hS308, _, rfl, ?_⟩
          refine AH.br [6] (by kernel_rfl) rfl ⟨Br.mk' rfl trivial ?_, trivial⟩
          refine SR.alloc (l := [.slice none 0 0, .slice none 0 0, .int .i64 0, .int .i64 0, .int .i64 0]) tz27 rfl ?_
          intro g310 w311 hg312 hk313 hs314 hb315
          have hz316 := hk313.size
          have hB317 := hB307.lo hk313
          have hS318 := (hS308).lo hk313
          have hd319 : ¬ A288 = some ⟨g310, 0, none⟩ := fun e' => by have := ((hO291).lo hk305).base_le e'; omega
          have hd320 : ¬ A292 = some ⟨g310, 0, none⟩ := fun e' => by have := ((hO295).lo hk305).base_le e'; omega
          refine SR.nil ⟨hS318, _, rfl, ?_⟩
          refine AH.goto (by kernel_rfl) rfl (hn251 _ _ ?_)
          exact ⟨A288, n289, c290, A292, n293, c294, g310, ⟨rfl, rfl, rfl, rfl, rfl, rfl, rfl, trivial⟩, hS318, ((((hO291).lo hk305).lo hk313).down (by omega)), ((((hO295).lo hk305).lo hk313).down (by omega)), (hb315), ⟨by omega, (hb315).lt⟩, hd319, hd320, hd296, hl300, hl301, hl302, hl303, hq309⟩
        · refine SR.alloc (l := [.slice none 0 0, .slice none 0 0, .int .i64 0, .int .i64 0, .int .i64 0]) tz27 rfl ?_
          intro g325 w326 hg327 hk328 hs329 hb330
          have hz331 := hk328.size
          have hB332 := hB298.lo hk328
          have hS333 := (hS299).lo hk328
          have hd334 : ¬ A288 = some ⟨g325, 0, none⟩ := fun e' => by have := (hO291).base_le e'; omega
          have hd335 : ¬ A292 = some ⟨g325, 0, none⟩ := fun e' => by have := (hO295).base_le e'; omega
          refine SR.nil ⟨hS333, _, rfl, ?_⟩
          refine AH.goto (by kernel_rfl) rfl (hn269 _ _ ?_)
          exact ⟨A288, n289, c290, A292, n293, c294, g325, ⟨rfl, rfl, rfl, rfl, rfl, rfl, rfl, rfl, trivial⟩, hS333, (((hO291).lo hk328).down (by omega)), (((hO295).lo hk328).down (by omega)), (hb330), ⟨by omega, (hb330).lt⟩, hd334, hd335, hd296, hl300, hl301, hl302, hl303⟩
      · refine SR.alloc (l := [.slice none 0 0, .slice none 0 0, .int .i64 0, .int .i64 0, .int .i64 0]) tz27 rfl ?_
        intro g340 w341 hg342 hk343 hs344 hb345
        have hz346 := hk343.size
        have hB347 := hB250.lo hk343
        have hS348 := (hk248).lo hk343
        refine SR.nil ⟨hS348, _, rfl, ?_⟩
        refine AH.br [1] (by kernel_rfl) rfl ⟨Br.mk' rfl trivial ?_, trivial⟩
        refine SR.call ent62 (c_spec_l32Own w341 x ((((hm26).lo hk248).lo hk343)) ((((hm27).lo hk248).lo hk343)) (by omega) (by omega)) rfl ?_
        rintro e w349 ⟨A351, n352, c353, A355, n356, c357, rfl, hO354, hO358, hd359, hk350⟩
        refine ⟨_, rfl, ?_⟩
        have hz360 := hk350.size
        have hB361 := hB347.lo hk350
        have hS362 := (hS348).lo hk350
        have hl363 := hO354.len
        have hl364 := hO354.rd.bound
        have hl365 := hO358.len
        have hl366 := hO358.rd.bound
        refine SR.nil ⟨hS362, _, rfl, ?_⟩
        refine AH.goto (by kernel_rfl) rfl (hn269 _ _ ?_)
        exact ⟨A351, n352, c353, A355, n356, c357, g340, ⟨rfl, rfl, rfl, rfl, rfl, rfl, rfl, rfl, trivial⟩, hS362, ((hO354).down (by omega)), ((hO358).down (by omega)), ((hb345).lo hk350), ⟨by omega, ((hb345).lo hk350).lt⟩, (fun e' => by have := (hO354).base_le e'; omega), (fun e' => by have := (hO358).base_le e'; omega), hd359, hl363, hl364, hl365, hl366⟩
    rintro f371 w372 ⟨A134, n135, c136, A138, n139, c140, g162, hat374, hR373, hm187, hm188, hm189, hg190, hd191, hd192, hd193, hl146, hl147, hl148, hl149, hq158⟩
    rw [← sets_of_at hat374]
    have hz375 := hR373.size
    have hB376 := hB24.lo hR373
    refine W.seq ?_
    have hm377 := ((hb14).lo hk20).lo hR373
    refine W.regS (SR.q' (r_fa fa27_0 rfl) <| SR.q' (r_ld (v := .slice Ax_Maps nx_Maps cx_Maps) sca24 rfl (((hm25).lo hR373).cell rfl)) <| SR.q' (r_mv (v := .int .i64 _) rfl) <| ?_)
    have hx379 := ((hm26).lo hR373).elem (i := (idxF (hasId s.Id) x.Maps).toNat) (by omega)
    have hq380 := maps_rng hp0.1.1 hx379
    refine SR.q' (r_ixR tsl24 ((hm26).lo hR373) rfl rfl (by omega)) <| SR.q' (r_lda (l := encLMap (gt x.Maps ((idxF (hasId s.Id) x.Maps).toNat))) agg48 rfl (fun _ _ hu => ((hm26).lo hR373).cell hx379 hu) (((hm26).lo hR373).esz _)) <| SR.alloc (l := [.int .i64 0, .int .i64 0, .int .i64 0]) tz48 rfl ?_
    intro g381 w382 hg383 hk384 hs385 hb386
    have hz387 := hk384.size
    have hB388 := hB376.lo hk384
    have hd389 : ¬ A134 = some ⟨g381, 0, none⟩ := fun e' => by have := (hm187).base_le e'; omega
    have hd390 : ¬ A138 = some ⟨g381, 0, none⟩ := fun e' => by have := (hm188).base_le e'; omega
    refine SR.store (o := 0) (vs := [.int .i64 ((gt x.Maps ((idxF (hasId s.Id) x.Maps).toNat)).Id), .int .i64 ((gt x.Maps ((idxF (hasId s.Id) x.Maps).toNat)).Copies), .int .i64 ((gt x.Maps ((idxF (hasId s.Id) x.Maps).toNat)).Torn)]) agg48.2 rfl rfl rfl rfl (hb386) (Nat.le_of_ble_eq_true rfl) rfl ?_
    intro w391 hk392 hs393 hb394
    have hz395 := hk392.size
    have hB396 := hB388.new hk392 (by omega)
    refine SR.q' (r_as (v := .bool true) rfl) <| SR.nil ?_
    refine W.seq ?_
    refine W.seq ?_
    have hm397 := (((hm25).lo hR373).lo hk384).kn hk392 (by omega)
    have hm398 := (((hm26).lo hR373).lo hk384).kn hk392 (by omega)
    have hm399 := (((hm27).lo hR373).lo hk384).kn hk392 (by omega)
    have hm400 := ((hm377).lo hk384).kn hk392 (by omega)
    have hm401 := (((hb22).lo hR373).lo hk384).kn hk392 (by omega)
    have hm402 := ((hm189).lo hk384).kn hk392 (by omega)
    have hm403 := ((hm187).lo hk384).kd hk392 hd389
    have hm404 := ((hm188).lo hk384).kd hk392 hd390
    refine W.regS (SR.q' (r_fa fa66_0 rfl) <| SR.q' (r_ld (v := .int .i64 s.Kind) sca3 rfl ((hm400).cell rfl)) <| SR.nil ?_)
    refine W.block ?_
    refine W.seq ?_
    refine W.regS (SR.q' (r_eq rfl rfl) <| SR.q' (r_as (v := .bool _) rfl) <| SR.nil ?_)
    refine W.cond_d rfl (fun h405 => ?_) (fun h405 => ?_)
    · refine W.seq ?_
      refine W.regS (SR.q' (r_fa fa66_3 rfl) <| SR.q' (r_ld (v := .int .i64 s.Value) sca3 rfl ((hm400).cell rfl)) <| SR.q' (r_fa fa48_2 rfl) <| SR.q' (r_ld (v := .int .i64 ((gt x.Maps ((idxF (hasId s.Id) x.Maps).toNat)).Torn)) sca3 rfl ((hb394).cell rfl)) <| SR.q' (r_le rfl rfl) <| SR.q' (r_as (v := .bool _) rfl) <| SR.nil ?_)
      refine W.seq ?_
      refine W.regA (Kp (fun b_ => A134 = some ⟨b_, 0, none⟩) w391) (fun f' w' => At f' [(2, .pointer (pA g1)), (3, .pointer (pA g9)), (4, .pointer (pA g17)), (5, .bool false), (7, .pointer (pA g162)), (9, .pointer (pA g381)), (10, .bool (decide (s.Value ≤ ((gt x.Maps ((idxF (hasId s.Id) x.Maps).toNat)).Torn))))] ∧ (Kp (fun b_ => A134 = some ⟨b_, 0, none⟩) w391 w') ∧ (SlO w' w18.heap.size encLMap 3 48 A134 n135 c136 (x.Maps.set ((idxF (hasId s.Id) x.Maps).toNat) ({ (gt x.Maps ((idxF (hasId s.Id) x.Maps).toNat)) with Torn := ((gt x.Maps ((idxF (hasId s.Id) x.Maps).toNat)).Torn) - (min s.Value ((gt x.Maps ((idxF (hasId s.Id) x.Maps).toNat)).Torn)) }))) ∧ ((x.Maps.set ((idxF (hasId s.Id) x.Maps).toNat) ({ (gt x.Maps ((idxF (hasId s.Id) x.Maps).toNat)) with Torn := ((gt x.Maps ((idxF (hasId s.Id) x.Maps).toNat)).Torn) - (min s.Value ((gt x.Maps ((idxF (hasId s.Id) x.Maps).toNat)).Torn)) }))[(idxF (hasId s.Id) x.Maps).toNat]? = some ({ (gt x.Maps ((idxF (hasId s.Id) x.Maps).toNat)) with Torn := ((gt x.Maps ((idxF (hasId s.Id) x.Maps).toNat)).Torn) - (min s.Value ((gt x.Maps ((idxF (hasId s.Id) x.Maps).toNat)).Torn)) }))) mo ?_ ?_
      · intro w443 hk444
        have hz445 := hk444.size
        have hB446 := hB396.lo hk444
        refine AH.take 0 rfl (by kernel_rfl) trivial ((Kp.refl w391 : Kp (fun b_ => A134 = some ⟨b_, 0, none⟩) w391 w391).lo hk444) (fun w' hw' => r_fa fa27_0 rfl) <| AH.take 1 rfl (by kernel_rfl) trivial ((Kp.refl w391 : Kp (fun b_ => A134 = some ⟨b_, 0, none⟩) w391 w391).lo hk444) (fun w' hw' => r_ld (v := .slice A134 n135 c136) sca24 rfl (((hm402).kp hw' (fun e' => hd191 e')).cell rfl)) <| AH.take 2 rfl (by kernel_rfl) trivial ((Kp.refl w391 : Kp (fun b_ => A134 = some ⟨b_, 0, none⟩) w391 w391).lo hk444) (fun w' hw' => r_mv (v := .int .i64 _) rfl) <| AH.take 3 rfl (by kernel_rfl) trivial ((Kp.refl w391 : Kp (fun b_ => A134 = some ⟨b_, 0, none⟩) w391 w391).lo hk444) (fun w' hw' => r_fa fa48_2 rfl) <| AH.take 4 rfl (by kernel_rfl) trivial ((Kp.refl w391 : Kp (fun b_ => A134 = some ⟨b_, 0, none⟩) w391 w391).lo hk444) (fun w' hw' => r_ld (v := .int .i64 ((gt x.Maps ((idxF (hasId s.Id) x.Maps).toNat)).Torn)) sca3 rfl (((hb394).kp hw' (fun e' => hd389 e')).cell rfl)) <| AH.take 5 rfl (by kernel_rfl) trivial ((Kp.refl w391 : Kp (fun b_ => A134 = some ⟨b_, 0, none⟩) w391 w391).lo hk444) (fun w' hw' => r_fa fa66_3 rfl) <| AH.take 6 rfl (by kernel_rfl) trivial ((Kp.refl w391 : Kp (fun b_ => A134 = some ⟨b_, 0, none⟩) w391 w391).lo hk444) (fun w' hw' => r_ld (v := .int .i64 s.Value) sca3 rfl (((hm400).kp hw' (fun e' => by have := ((hm403)).base_le e'; omega)).cell rfl)) <| AH.take 7 rfl (by kernel_rfl) trivial ((Kp.refl w391 : Kp (fun b_ => A134 = some ⟨b_, 0, none⟩) w391 w391).lo hk444) (fun w' hw' => r_fa fa48_2 rfl) <| AH.take 8 rfl (by kernel_rfl) trivial ((Kp.refl w391 : Kp (fun b_ => A134 = some ⟨b_, 0, none⟩) w391 w391).lo hk444) (fun w' hw' => r_ld (v := .int .i64 ((gt x.Maps ((idxF (hasId s.Id) x.Maps).toNat)).Torn)) sca3 rfl (((hb394).kp hw' (fun e' => hd389 e')).cell rfl)) <| AH.br [9] (by kernel_rfl) rfl ⟨Br.mk' rfl trivial ?_, trivial⟩
        refine SR.call ent63 (c_spec_l1Least w443 s.Value ((gt x.Maps ((idxF (hasId s.Id) x.Maps).toNat)).Torn)) rfl ?_
        rintro e w447 ⟨rfl, hk448⟩
        refine ⟨_, rfl, ?_⟩
        have hz449 := hk448.size
        have hB450 := hB446.lo hk448
        have hS451 := ((Kp.refl w391 : Kp (fun b_ => A134 = some ⟨b_, 0, none⟩) w391 w391).lo hk444).lo hk448
        refine SR.nil ⟨hS451, _, rfl, ?_⟩
        refine AH.take 10 rfl (by kernel_rfl) trivial (hS451) (fun w' hw' => r_sub rfl rfl (by omega)) <| AH.br [11] (by kernel_rfl) rfl ⟨Br.mk' rfl trivial ?_, trivial⟩
        refine SR.q' (r_ixR tsl24 ((((hm403).lo hk444).lo hk448).rd) rfl rfl (by omega)) ?_
        refine SR.nil ⟨hS451, _, rfl, ?_⟩
        refine AH.take 12 rfl (by kernel_rfl) trivial (hS451) (fun w' hw' => r_fa fa48_2 rfl) <| AH.br [13] (by kernel_rfl) rfl ⟨Br.mk' rfl trivial ?_, trivial⟩
        refine SR.storeO (o := 2) (vs := [.int .i64 (((gt x.Maps ((idxF (hasId s.Id) x.Maps).toNat)).Torn) - (min s.Value ((gt x.Maps ((idxF (hasId s.Id) x.Maps).toNat)).Torn)))]) (x1 := { (gt x.Maps ((idxF (hasId s.Id) x.Maps).toNat)) with Torn := ((gt x.Maps ((idxF (hasId s.Id) x.Maps).toNat)).Torn) - (min s.Value ((gt x.Maps ((idxF (hasId s.Id) x.Maps).toNat)).Torn)) }) sca3.2 rfl (add_add _ _ _) rfl rfl (((hm403).lo hk444).lo hk448) hx379 rfl (Nat.le_of_ble_eq_true rfl) rfl ?_
        intro w452 hk453 hs454 hO455
        have hz456 := hk453.size
        have hB457 := hB450.step hk453 (fun i_ hi_ e' => by have := ((((hm403).lo hk444).lo hk448)).base_le e'; first | omega | (exfalso; omega) | exact e' | exact .inl e' | exact .inr e')
        have hS458 := (hS451).step hk453 (fun _ _ e => e)
        have hx459 : (x.Maps.set ((idxF (hasId s.Id) x.Maps).toNat) ({ (gt x.Maps ((idxF (hasId s.Id) x.Maps).toNat)) with Torn := ((gt x.Maps ((idxF (hasId s.Id) x.Maps).toNat)).Torn) - (min s.Value ((gt x.Maps ((idxF (hasId s.Id) x.Maps).toNat)).Torn)) }))[(idxF (hasId s.Id) x.Maps).toNat]? = some ({ (gt x.Maps ((idxF (hasId s.Id) x.Maps).toNat)) with Torn := ((gt x.Maps ((idxF (hasId s.Id) x.Maps).toNat)).Torn) - (min s.Value ((gt x.Maps ((idxF (hasId s.Id) x.Maps).toNat)).Torn)) }) := List.getElem?_set_self (List.getElem?_eq_some_iff.1 hx379).1
        refine SR.nil ⟨hS458, _, rfl, ?_⟩
        refine AH.done (by kernel_rfl) ?_
        exact ⟨⟨rfl, rfl, rfl, rfl, rfl, rfl, rfl, trivial⟩, hS458, (hO455), hx459⟩
      rintro f460 w461 ⟨hat463, hR462, hm442, hx441⟩
      rw [← sets_of_at hat463]
      have hz464 := hR462.size
      have hB465 := hB396.step hR462 (fun i_ hi_ e' => by have := ((hm403)).base_le e'; first | omega | (exfalso; omega) | exact e' | exact .inl e' | exact .inr e')
      refine W.regA (Kp (fun b_ => b_ = g162) w461) (fun f' w' => At f' [(4, .pointer (pA g17)), (5, .bool false), (7, .pointer (pA g162)), (10, .bool (decide (s.Value ≤ ((gt x.Maps ((idxF (hasId s.Id) x.Maps).toNat)).Torn))))] ∧ (Kp (fun b_ => b_ = g162) w461 w') ∧ (Blk w' g162 27 [.slice A134 n135 c136, .slice A138 n139 c140, .int .i64 x.Bought, .int .i64 x.Dropped, .int .i64 (x.Mended + (min s.Value ((gt x.Maps ((idxF (hasId s.Id) x.Maps).toNat)).Torn)))])) mo ?_ ?_
      · intro w501 hk502
        have hz503 := hk502.size
        have hB504 := hB465.lo hk502
        refine AH.take 0 rfl (by kernel_rfl) trivial ((Kp.refl w461 : Kp (fun b_ => b_ = g162) w461 w461).lo hk502) (fun w' hw' => r_fa fa27_4 rfl) <| AH.take 1 rfl (by kernel_rfl) trivial ((Kp.refl w461 : Kp (fun b_ => b_ = g162) w461 w461).lo hk502) (fun w' hw' => r_ld (v := .int .i64 x.Mended) sca3 rfl ((((hm397).kp hR462 (fun e' => by have := ((hm403)).base_le e'; omega)).kn hw' (by omega)).cell rfl)) <| AH.take 2 rfl (by kernel_rfl) trivial ((Kp.refl w461 : Kp (fun b_ => b_ = g162) w461 w461).lo hk502) (fun w' hw' => r_fa fa66_3 rfl) <| AH.take 3 rfl (by kernel_rfl) trivial ((Kp.refl w461 : Kp (fun b_ => b_ = g162) w461 w461).lo hk502) (fun w' hw' => r_ld (v := .int .i64 s.Value) sca3 rfl ((((hm400).kp hR462 (fun e' => by have := ((hm403)).base_le e'; omega)).kn hw' (by omega)).cell rfl)) <| AH.take 4 rfl (by kernel_rfl) trivial ((Kp.refl w461 : Kp (fun b_ => b_ = g162) w461 w461).lo hk502) (fun w' hw' => r_fa fa48_2 rfl) <| AH.take 5 rfl (by kernel_rfl) trivial ((Kp.refl w461 : Kp (fun b_ => b_ = g162) w461 w461).lo hk502) (fun w' hw' => r_ld (v := .int .i64 ((gt x.Maps ((idxF (hasId s.Id) x.Maps).toNat)).Torn)) sca3 rfl ((((hb394).kp hR462 (fun e' => hd389 e')).kn hw' (by omega)).cell rfl)) <| AH.br [6] (by kernel_rfl) rfl ⟨Br.mk' rfl trivial ?_, trivial⟩
        refine SR.call ent63 (c_spec_l1Least w501 s.Value ((gt x.Maps ((idxF (hasId s.Id) x.Maps).toNat)).Torn)) rfl ?_
        rintro e w505 ⟨rfl, hk506⟩
        refine ⟨_, rfl, ?_⟩
        have hz507 := hk506.size
        have hB508 := hB504.lo hk506
        have hS509 := ((Kp.refl w461 : Kp (fun b_ => b_ = g162) w461 w461).lo hk502).lo hk506
        refine SR.nil ⟨hS509, _, rfl, ?_⟩
        refine AH.take 7 rfl (by kernel_rfl) trivial (hS509) (fun w' hw' => r_add rfl rfl (by omega)) <| AH.take 8 rfl (by kernel_rfl) trivial (hS509) (fun w' hw' => r_fa fa27_4 rfl) <| AH.br [9] (by kernel_rfl) rfl ⟨Br.mk' rfl trivial ?_, trivial⟩
        refine SR.store (o := 4) (vs := [.int .i64 (x.Mended + (min s.Value ((gt x.Maps ((idxF (hasId s.Id) x.Maps).toNat)).Torn)))]) sca3.2 rfl rfl rfl rfl ((((hm402).kp hR462 (fun e' => hd191 e')).lo hk502).lo hk506) (Nat.le_of_ble_eq_true rfl) rfl ?_
        intro w510 hk511 hs512 hb513
        have hz514 := hk511.size
        have hB515 := hB508.new hk511 (by omega)
        have hS516 := (hS509).step hk511 (fun _ _ e => e)
        refine SR.nil ⟨hS516, _, rfl, ?_⟩
        refine AH.done (by kernel_rfl) ?_
        exact ⟨⟨rfl, rfl, rfl, rfl, trivial⟩, hS516, (hb513)⟩
      rintro f517 w518 ⟨hat520, hR519, hm500⟩
      rw [← sets_of_at hat520]
      have hz521 := hR519.size
      have hB522 := hB465.new hR519 (by omega)
      refine W.seq ?_
      have hm523 := ((hm401).kp hR462 (fun e' => by have := ((hm403)).base_le e'; omega)).kn hR519 (by omega)
      have hm524 := ((hm404).kp hR462 (fun b_ hb e' => hd193 b_ e' hb)).kd hR519 hd192
      refine W.regA (Kp (fun b_ => b_ = g17) w518) (fun f' w' => At f' [(4, .pointer (pA g17)), (5, .bool (decide ((s.Value ≤ ((gt x.Maps ((idxF (hasId s.Id) x.Maps).toNat)).Torn)) ∧ (LibOK (⟨x.Maps.set ((idxF (hasId s.Id) x.Maps).toNat) ({ (gt x.Maps ((idxF (hasId s.Id) x.Maps).toNat)) with Torn := ((gt x.Maps ((idxF (hasId s.Id) x.Maps).toNat)).Torn) - (min s.Value ((gt x.Maps ((idxF (hasId s.Id) x.Maps).toNat)).Torn)) }), x.Away, x.Bought, x.Dropped, x.Mended + (min s.Value ((gt x.Maps ((idxF (hasId s.Id) x.Maps).toNat)).Torn))⟩ : Library)))))] ∧ (Kp (fun b_ => b_ = g17) w518 w') ∧ (Blk w' g17 27 [.slice A134 n135 c136, .slice A138 n139 c140, .int .i64 x.Bought, .int .i64 x.Dropped, .int .i64 (x.Mended + (min s.Value ((gt x.Maps ((idxF (hasId s.Id) x.Maps).toNat)).Torn)))])) mo ?_ ?_
      · intro w540 hk541
        have hz542 := hk541.size
        have hB543 := hB522.lo hk541
        refine AH.take 0 rfl (by kernel_rfl) trivial ((Kp.refl w518 : Kp (fun b_ => b_ = g17) w518 w518).lo hk541) (fun w' hw' => r_lda (l := [.slice A134 n135 c136, .slice A138 n139 c140, .int .i64 x.Bought, .int .i64 x.Dropped, .int .i64 (x.Mended + (min s.Value ((gt x.Maps ((idxF (hasId s.Id) x.Maps).toNat)).Torn)))]) agg27 rfl (fun _ _ hu => ((hm500).kn hw' (by omega)).cell hu) rfl) <| AH.take 1 rfl (by kernel_rfl) trivial ((Kp.refl w518 : Kp (fun b_ => b_ = g17) w518 w518).lo hk541) (fun w' hw' => r_mv (v := .bool _) rfl) <| AH.take 2 rfl (by kernel_rfl) trivial ((Kp.refl w518 : Kp (fun b_ => b_ = g17) w518 w518).lo hk541) (fun w' hw' => r_mv (v := .bool _) rfl) <| AH.splitD (fun h544 => ?_) (fun h544 => ?_)
        · refine AH.take 3 rfl (by kernel_rfl) rfl ((Kp.refl w518 : Kp (fun b_ => b_ = g17) w518 w518).lo hk541) (fun w' hw' => r_lda (l := [.slice A134 n135 c136, .slice A138 n139 c140, .int .i64 x.Bought, .int .i64 x.Dropped, .int .i64 (x.Mended + (min s.Value ((gt x.Maps ((idxF (hasId s.Id) x.Maps).toNat)).Torn)))]) agg27 rfl (fun _ _ hu => ((hm500).kn hw' (by omega)).cell hu) rfl) <| AH.br [4] (by kernel_rfl) rfl ⟨Br.mk' rfl rfl ?_, trivial⟩
          refine SR.gcall rfl ent30 (c_spec_l32Good w540 (⟨x.Maps.set ((idxF (hasId s.Id) x.Maps).toNat) ({ (gt x.Maps ((idxF (hasId s.Id) x.Maps).toNat)) with Torn := ((gt x.Maps ((idxF (hasId s.Id) x.Maps).toNat)).Torn) - (min s.Value ((gt x.Maps ((idxF (hasId s.Id) x.Maps).toNat)).Torn)) }), x.Away, x.Bought, x.Dropped, x.Mended + (min s.Value ((gt x.Maps ((idxF (hasId s.Id) x.Maps).toNat)).Torn))⟩ : Library) (((((hm442).kd hR519 hd191).lo hk541).rd)) ((((hm524).lo hk541).rd))) rfl ?_
          rintro e w545 ⟨rfl, hk546⟩
          refine ⟨_, rfl, ?_⟩
          have hz547 := hk546.size
          have hB548 := hB543.lo hk546
          have hS549 := ((Kp.refl w518 : Kp (fun b_ => b_ = g17) w518 w518).lo hk541).lo hk546
          refine SR.nil ⟨hS549, _, rfl, ?_⟩
          refine AH.take 5 rfl (by kernel_rfl) trivial (hS549) (fun w' hw' => r_pick true rfl (v := .bool _) rfl) <| AH.br [6] (by kernel_rfl) rfl ⟨Br.mk' rfl trivial ?_, trivial⟩
          refine SR.store (o := 0) (vs := [.slice A134 n135 c136, .slice A138 n139 c140, .int .i64 x.Bought, .int .i64 x.Dropped, .int .i64 (x.Mended + (min s.Value ((gt x.Maps ((idxF (hasId s.Id) x.Maps).toNat)).Torn)))]) agg27.2 rfl rfl rfl rfl (((hm523).lo hk541).lo hk546) (Nat.le_of_ble_eq_true rfl) rfl ?_
          intro w550 hk551 hs552 hb553
          have hz554 := hk551.size
          have hB555 := hB548.new hk551 (by omega)
          have hS556 := (hS549).step hk551 (fun _ _ e => e)
          refine SR.nil ⟨hS556, _, rfl, ?_⟩
          refine AH.take 7 rfl (by kernel_rfl) trivial (hS556) (fun w' hw' => r_as (v := .bool _) rfl) <| AH.done (by kernel_rfl) ?_
          exact ⟨⟨rfl, (eDD (jat h544)), trivial⟩, hS556, (hb553)⟩
        · refine AH.s' 3 rfl (by kernel_rfl) rfl ((Kp.refl w518 : Kp (fun b_ => b_ = g17) w518 w518).lo hk541) <| AH.s' 4 rfl (by kernel_rfl) rfl ((Kp.refl w518 : Kp (fun b_ => b_ = g17) w518 w518).lo hk541) <| AH.take 5 rfl (by kernel_rfl) trivial ((Kp.refl w518 : Kp (fun b_ => b_ = g17) w518 w518).lo hk541) (fun w' hw' => r_pick false rfl (v := .bool false) rfl) <| AH.br [6] (by kernel_rfl) rfl ⟨Br.mk' rfl trivial ?_, trivial⟩
          refine SR.store (o := 0) (vs := [.slice A134 n135 c136, .slice A138 n139 c140, .int .i64 x.Bought, .int .i64 x.Dropped, .int .i64 (x.Mended + (min s.Value ((gt x.Maps ((idxF (hasId s.Id) x.Maps).toNat)).Torn)))]) agg27.2 rfl rfl rfl rfl ((hm523).lo hk541) (Nat.le_of_ble_eq_true rfl) rfl ?_
          intro w558 hk559 hs560 hb561
          have hz562 := hk559.size
          have hB563 := hB543.new hk559 (by omega)
          have hS564 := ((Kp.refl w518 : Kp (fun b_ => b_ = g17) w518 w518).lo hk541).step hk559 (fun _ _ e => e)
          refine SR.nil ⟨hS564, _, rfl, ?_⟩
          refine AH.take 7 rfl (by kernel_rfl) trivial (hS564) (fun w' hw' => r_as (v := .bool _) rfl) <| AH.done (by kernel_rfl) ?_
          exact ⟨⟨rfl, (eDF (jaf h544).2), trivial⟩, hS564, (hb561)⟩
      rintro f565 w566 ⟨hat568, hR567, hm557⟩
      rw [← sets_of_at hat568]
      have hz569 := hR567.size
      have hB570 := hB522.new hR567 (by omega)
      refine W.ret ?_
      refine retCT rfl rfl agg27 (hm557) rfl (v := .bool _) rfl ?_
      exact ⟨A134, n135, c136, A138, n139, c140, eR (eT2 (eA (eC rfl (eC rfl (eC (eI (by subst hl146 hl148; unfold spec_l32Make; rw [if_neg h28, if_pos h405] <;> rfl)) (eC (eI (by subst hl146 hl148; unfold spec_l32Make; rw [if_neg h28, if_pos h405] <;> rfl)) (eC (eI (by subst hl146 hl148; unfold spec_l32Make; rw [if_neg h28, if_pos h405] <;> rfl)) rfl)))))) (eB (by subst hl146 hl148; unfold spec_l32Make; rw [if_neg h28, if_pos h405] <;> rfl))), (SlO.eqv ((((hm442).kd hR519 hd191).kn hR567 (by omega)).down (by omega)) (by subst hl146 hl148; unfold spec_l32Make; rw [if_neg h28, if_pos h405] <;> rfl)), (SlO.eqv (((hm524).kn hR567 (by omega)).down (by omega)) (by subst hl146 hl148; unfold spec_l32Make; rw [if_neg h28, if_pos h405] <;> rfl)), hd193, hB570⟩
    · refine W.seq ?_
      refine W.regS (SR.q' (r_eq rfl rfl) <| SR.q' (r_as (v := .bool _) rfl) <| SR.nil ?_)
      refine W.cond_d rfl (fun h571 => ?_) (fun h571 => ?_)
      · refine W.seq ?_
        refine W.regS (SR.q' (r_fa fa66_3 rfl) <| SR.q' (r_ld (v := .int .i64 s.Value) sca3 rfl ((hm400).cell rfl)) <| SR.q' (r_fa fa48_2 rfl) <| SR.q' (r_ld (v := .int .i64 ((gt x.Maps ((idxF (hasId s.Id) x.Maps).toNat)).Torn)) sca3 rfl ((hb394).cell rfl)) <| SR.q' (r_le rfl rfl) <| SR.q' (r_as (v := .bool _) rfl) <| SR.nil ?_)
        refine W.seq ?_
        refine W.regA (Kp (fun b_ => A134 = some ⟨b_, 0, none⟩) w391) (fun f' w' => At f' [(2, .pointer (pA g1)), (3, .pointer (pA g9)), (4, .pointer (pA g17)), (5, .bool false), (7, .pointer (pA g162)), (9, .pointer (pA g381)), (10, .bool (decide (s.Value ≤ ((gt x.Maps ((idxF (hasId s.Id) x.Maps).toNat)).Torn))))] ∧ (Kp (fun b_ => A134 = some ⟨b_, 0, none⟩) w391 w') ∧ (SlO w' w18.heap.size encLMap 3 48 A134 n135 c136 (x.Maps.set ((idxF (hasId s.Id) x.Maps).toNat) (⟨(gt x.Maps ((idxF (hasId s.Id) x.Maps).toNat)).Id, ((gt x.Maps ((idxF (hasId s.Id) x.Maps).toNat)).Copies) - (min s.Value ((gt x.Maps ((idxF (hasId s.Id) x.Maps).toNat)).Torn)), ((gt x.Maps ((idxF (hasId s.Id) x.Maps).toNat)).Torn) - (min s.Value ((gt x.Maps ((idxF (hasId s.Id) x.Maps).toNat)).Torn))⟩ : LMap))) ∧ ((x.Maps.set ((idxF (hasId s.Id) x.Maps).toNat) (⟨(gt x.Maps ((idxF (hasId s.Id) x.Maps).toNat)).Id, ((gt x.Maps ((idxF (hasId s.Id) x.Maps).toNat)).Copies) - (min s.Value ((gt x.Maps ((idxF (hasId s.Id) x.Maps).toNat)).Torn)), ((gt x.Maps ((idxF (hasId s.Id) x.Maps).toNat)).Torn) - (min s.Value ((gt x.Maps ((idxF (hasId s.Id) x.Maps).toNat)).Torn))⟩ : LMap))[(idxF (hasId s.Id) x.Maps).toNat]? = some ((⟨(gt x.Maps ((idxF (hasId s.Id) x.Maps).toNat)).Id, ((gt x.Maps ((idxF (hasId s.Id) x.Maps).toNat)).Copies) - (min s.Value ((gt x.Maps ((idxF (hasId s.Id) x.Maps).toNat)).Torn)), ((gt x.Maps ((idxF (hasId s.Id) x.Maps).toNat)).Torn) - (min s.Value ((gt x.Maps ((idxF (hasId s.Id) x.Maps).toNat)).Torn))⟩ : LMap)))) mo ?_ ?_
        · intro w620 hk621
          have hz622 := hk621.size
          have hB623 := hB396.lo hk621
          refine AH.take 0 rfl (by kernel_rfl) trivial ((Kp.refl w391 : Kp (fun b_ => A134 = some ⟨b_, 0, none⟩) w391 w391).lo hk621) (fun w' hw' => r_fa fa27_0 rfl) <| AH.take 1 rfl (by kernel_rfl) trivial ((Kp.refl w391 : Kp (fun b_ => A134 = some ⟨b_, 0, none⟩) w391 w391).lo hk621) (fun w' hw' => r_ld (v := .slice A134 n135 c136) sca24 rfl (((hm402).kp hw' (fun e' => hd191 e')).cell rfl)) <| AH.take 2 rfl (by kernel_rfl) trivial ((Kp.refl w391 : Kp (fun b_ => A134 = some ⟨b_, 0, none⟩) w391 w391).lo hk621) (fun w' hw' => r_mv (v := .int .i64 _) rfl) <| AH.take 3 rfl (by kernel_rfl) trivial ((Kp.refl w391 : Kp (fun b_ => A134 = some ⟨b_, 0, none⟩) w391 w391).lo hk621) (fun w' hw' => r_fa fa48_0 rfl) <| AH.take 4 rfl (by kernel_rfl) trivial ((Kp.refl w391 : Kp (fun b_ => A134 = some ⟨b_, 0, none⟩) w391 w391).lo hk621) (fun w' hw' => r_ld (v := .int .i64 ((gt x.Maps ((idxF (hasId s.Id) x.Maps).toNat)).Id)) sca3 rfl (((hb394).kp hw' (fun e' => hd389 e')).cell rfl)) <| AH.take 5 rfl (by kernel_rfl) trivial ((Kp.refl w391 : Kp (fun b_ => A134 = some ⟨b_, 0, none⟩) w391 w391).lo hk621) (fun w' hw' => r_fa fa48_1 rfl) <| AH.take 6 rfl (by kernel_rfl) trivial ((Kp.refl w391 : Kp (fun b_ => A134 = some ⟨b_, 0, none⟩) w391 w391).lo hk621) (fun w' hw' => r_ld (v := .int .i64 ((gt x.Maps ((idxF (hasId s.Id) x.Maps).toNat)).Copies)) sca3 rfl (((hb394).kp hw' (fun e' => hd389 e')).cell rfl)) <| AH.take 7 rfl (by kernel_rfl) trivial ((Kp.refl w391 : Kp (fun b_ => A134 = some ⟨b_, 0, none⟩) w391 w391).lo hk621) (fun w' hw' => r_fa fa66_3 rfl) <| AH.take 8 rfl (by kernel_rfl) trivial ((Kp.refl w391 : Kp (fun b_ => A134 = some ⟨b_, 0, none⟩) w391 w391).lo hk621) (fun w' hw' => r_ld (v := .int .i64 s.Value) sca3 rfl (((hm400).kp hw' (fun e' => by have := ((hm403)).base_le e'; omega)).cell rfl)) <| AH.take 9 rfl (by kernel_rfl) trivial ((Kp.refl w391 : Kp (fun b_ => A134 = some ⟨b_, 0, none⟩) w391 w391).lo hk621) (fun w' hw' => r_fa fa48_2 rfl) <| AH.take 10 rfl (by kernel_rfl) trivial ((Kp.refl w391 : Kp (fun b_ => A134 = some ⟨b_, 0, none⟩) w391 w391).lo hk621) (fun w' hw' => r_ld (v := .int .i64 ((gt x.Maps ((idxF (hasId s.Id) x.Maps).toNat)).Torn)) sca3 rfl (((hb394).kp hw' (fun e' => hd389 e')).cell rfl)) <| AH.take 13 rfl (by kernel_rfl) trivial ((Kp.refl w391 : Kp (fun b_ => A134 = some ⟨b_, 0, none⟩) w391 w391).lo hk621) (fun w' hw' => r_fa fa48_2 rfl) <| AH.take 14 rfl (by kernel_rfl) trivial ((Kp.refl w391 : Kp (fun b_ => A134 = some ⟨b_, 0, none⟩) w391 w391).lo hk621) (fun w' hw' => r_ld (v := .int .i64 ((gt x.Maps ((idxF (hasId s.Id) x.Maps).toNat)).Torn)) sca3 rfl (((hb394).kp hw' (fun e' => hd389 e')).cell rfl)) <| AH.take 15 rfl (by kernel_rfl) trivial ((Kp.refl w391 : Kp (fun b_ => A134 = some ⟨b_, 0, none⟩) w391 w391).lo hk621) (fun w' hw' => r_fa fa66_3 rfl) <| AH.take 16 rfl (by kernel_rfl) trivial ((Kp.refl w391 : Kp (fun b_ => A134 = some ⟨b_, 0, none⟩) w391 w391).lo hk621) (fun w' hw' => r_ld (v := .int .i64 s.Value) sca3 rfl (((hm400).kp hw' (fun e' => by have := ((hm403)).base_le e'; omega)).cell rfl)) <| AH.take 17 rfl (by kernel_rfl) trivial ((Kp.refl w391 : Kp (fun b_ => A134 = some ⟨b_, 0, none⟩) w391 w391).lo hk621) (fun w' hw' => r_fa fa48_2 rfl) <| AH.take 18 rfl (by kernel_rfl) trivial ((Kp.refl w391 : Kp (fun b_ => A134 = some ⟨b_, 0, none⟩) w391 w391).lo hk621) (fun w' hw' => r_ld (v := .int .i64 ((gt x.Maps ((idxF (hasId s.Id) x.Maps).toNat)).Torn)) sca3 rfl (((hb394).kp hw' (fun e' => hd389 e')).cell rfl)) <| AH.br [11] (by kernel_rfl) rfl ⟨Br.mk' rfl trivial ?_, trivial⟩
          refine SR.call ent63 (c_spec_l1Least w620 s.Value ((gt x.Maps ((idxF (hasId s.Id) x.Maps).toNat)).Torn)) rfl ?_
          rintro e w624 ⟨rfl, hk625⟩
          refine ⟨_, rfl, ?_⟩
          have hz626 := hk625.size
          have hB627 := hB623.lo hk625
          have hS628 := ((Kp.refl w391 : Kp (fun b_ => A134 = some ⟨b_, 0, none⟩) w391 w391).lo hk621).lo hk625
          refine SR.nil ⟨hS628, _, rfl, ?_⟩
          refine AH.take 12 rfl (by kernel_rfl) trivial (hS628) (fun w' hw' => r_sub rfl rfl (by omega)) <| AH.br [19] (by kernel_rfl) rfl ⟨Br.mk' rfl trivial ?_, trivial⟩
          refine SR.call ent63 (c_spec_l1Least w624 s.Value ((gt x.Maps ((idxF (hasId s.Id) x.Maps).toNat)).Torn)) rfl ?_
          rintro e w629 ⟨rfl, hk630⟩
          refine ⟨_, rfl, ?_⟩
          have hz631 := hk630.size
          have hB632 := hB627.lo hk630
          have hS633 := (hS628).lo hk630
          refine SR.nil ⟨hS633, _, rfl, ?_⟩
          refine AH.take 20 rfl (by kernel_rfl) trivial (hS633) (fun w' hw' => r_sub rfl rfl (by omega)) <| AH.take 21 rfl (by kernel_rfl) trivial (hS633) (fun w' hw' => r_build (vs := [(0, .int .i64 ((gt x.Maps ((idxF (hasId s.Id) x.Maps).toNat)).Id)), (1, .int .i64 (((gt x.Maps ((idxF (hasId s.Id) x.Maps).toNat)).Copies) - (min s.Value ((gt x.Maps ((idxF (hasId s.Id) x.Maps).toNat)).Torn)))), (2, .int .i64 (((gt x.Maps ((idxF (hasId s.Id) x.Maps).toNat)).Torn) - (min s.Value ((gt x.Maps ((idxF (hasId s.Id) x.Maps).toNat)).Torn))))]) rfl (bld48_0_1_2 _ _ _)) <| AH.br [22] (by kernel_rfl) rfl ⟨Br.mk' rfl trivial ?_, trivial⟩
          refine SR.q' (r_ixR tsl24 (((((hm403).lo hk621).lo hk625).lo hk630).rd) rfl rfl (by omega)) ?_
          refine SR.nil ⟨hS633, _, rfl, ?_⟩
          refine AH.br [23] (by kernel_rfl) rfl ⟨Br.mk' rfl trivial ?_, trivial⟩
          refine SR.storeO (o := 0) (vs := [.int .i64 ((gt x.Maps ((idxF (hasId s.Id) x.Maps).toNat)).Id), .int .i64 (((gt x.Maps ((idxF (hasId s.Id) x.Maps).toNat)).Copies) - (min s.Value ((gt x.Maps ((idxF (hasId s.Id) x.Maps).toNat)).Torn))), .int .i64 (((gt x.Maps ((idxF (hasId s.Id) x.Maps).toNat)).Torn) - (min s.Value ((gt x.Maps ((idxF (hasId s.Id) x.Maps).toNat)).Torn)))]) (x1 := (⟨(gt x.Maps ((idxF (hasId s.Id) x.Maps).toNat)).Id, ((gt x.Maps ((idxF (hasId s.Id) x.Maps).toNat)).Copies) - (min s.Value ((gt x.Maps ((idxF (hasId s.Id) x.Maps).toNat)).Torn)), ((gt x.Maps ((idxF (hasId s.Id) x.Maps).toNat)).Torn) - (min s.Value ((gt x.Maps ((idxF (hasId s.Id) x.Maps).toNat)).Torn))⟩ : LMap)) agg48.2 rfl rfl rfl rfl ((((hm403).lo hk621).lo hk625).lo hk630) hx379 rfl (Nat.le_of_ble_eq_true rfl) rfl ?_
          intro w634 hk635 hs636 hO637
          have hz638 := hk635.size
          have hB639 := hB632.step hk635 (fun i_ hi_ e' => by have := (((((hm403).lo hk621).lo hk625).lo hk630)).base_le e'; first | omega | (exfalso; omega) | exact e' | exact .inl e' | exact .inr e')
          have hS640 := (hS633).step hk635 (fun _ _ e => e)
          have hx641 : (x.Maps.set ((idxF (hasId s.Id) x.Maps).toNat) (⟨(gt x.Maps ((idxF (hasId s.Id) x.Maps).toNat)).Id, ((gt x.Maps ((idxF (hasId s.Id) x.Maps).toNat)).Copies) - (min s.Value ((gt x.Maps ((idxF (hasId s.Id) x.Maps).toNat)).Torn)), ((gt x.Maps ((idxF (hasId s.Id) x.Maps).toNat)).Torn) - (min s.Value ((gt x.Maps ((idxF (hasId s.Id) x.Maps).toNat)).Torn))⟩ : LMap))[(idxF (hasId s.Id) x.Maps).toNat]? = some ((⟨(gt x.Maps ((idxF (hasId s.Id) x.Maps).toNat)).Id, ((gt x.Maps ((idxF (hasId s.Id) x.Maps).toNat)).Copies) - (min s.Value ((gt x.Maps ((idxF (hasId s.Id) x.Maps).toNat)).Torn)), ((gt x.Maps ((idxF (hasId s.Id) x.Maps).toNat)).Torn) - (min s.Value ((gt x.Maps ((idxF (hasId s.Id) x.Maps).toNat)).Torn))⟩ : LMap)) := List.getElem?_set_self (List.getElem?_eq_some_iff.1 hx379).1
          refine SR.nil ⟨hS640, _, rfl, ?_⟩
          refine AH.done (by kernel_rfl) ?_
          exact ⟨⟨rfl, rfl, rfl, rfl, rfl, rfl, rfl, trivial⟩, hS640, (hO637), hx641⟩
        rintro f642 w643 ⟨hat645, hR644, hm619, hx618⟩
        rw [← sets_of_at hat645]
        have hz646 := hR644.size
        have hB647 := hB396.step hR644 (fun i_ hi_ e' => by have := ((hm403)).base_le e'; first | omega | (exfalso; omega) | exact e' | exact .inl e' | exact .inr e')
        refine W.regA (Kp (fun b_ => b_ = g162) w643) (fun f' w' => At f' [(4, .pointer (pA g17)), (5, .bool false), (7, .pointer (pA g162)), (10, .bool (decide (s.Value ≤ ((gt x.Maps ((idxF (hasId s.Id) x.Maps).toNat)).Torn))))] ∧ (Kp (fun b_ => b_ = g162) w643 w') ∧ (Blk w' g162 27 [.slice A134 n135 c136, .slice A138 n139 c140, .int .i64 x.Bought, .int .i64 (x.Dropped + (min s.Value ((gt x.Maps ((idxF (hasId s.Id) x.Maps).toNat)).Torn))), .int .i64 x.Mended])) mo ?_ ?_
        · intro w683 hk684
          have hz685 := hk684.size
          have hB686 := hB647.lo hk684
          refine AH.take 0 rfl (by kernel_rfl) trivial ((Kp.refl w643 : Kp (fun b_ => b_ = g162) w643 w643).lo hk684) (fun w' hw' => r_fa fa27_3 rfl) <| AH.take 1 rfl (by kernel_rfl) trivial ((Kp.refl w643 : Kp (fun b_ => b_ = g162) w643 w643).lo hk684) (fun w' hw' => r_ld (v := .int .i64 x.Dropped) sca3 rfl ((((hm397).kp hR644 (fun e' => by have := ((hm403)).base_le e'; omega)).kn hw' (by omega)).cell rfl)) <| AH.take 2 rfl (by kernel_rfl) trivial ((Kp.refl w643 : Kp (fun b_ => b_ = g162) w643 w643).lo hk684) (fun w' hw' => r_fa fa66_3 rfl) <| AH.take 3 rfl (by kernel_rfl) trivial ((Kp.refl w643 : Kp (fun b_ => b_ = g162) w643 w643).lo hk684) (fun w' hw' => r_ld (v := .int .i64 s.Value) sca3 rfl ((((hm400).kp hR644 (fun e' => by have := ((hm403)).base_le e'; omega)).kn hw' (by omega)).cell rfl)) <| AH.take 4 rfl (by kernel_rfl) trivial ((Kp.refl w643 : Kp (fun b_ => b_ = g162) w643 w643).lo hk684) (fun w' hw' => r_fa fa48_2 rfl) <| AH.take 5 rfl (by kernel_rfl) trivial ((Kp.refl w643 : Kp (fun b_ => b_ = g162) w643 w643).lo hk684) (fun w' hw' => r_ld (v := .int .i64 ((gt x.Maps ((idxF (hasId s.Id) x.Maps).toNat)).Torn)) sca3 rfl ((((hb394).kp hR644 (fun e' => hd389 e')).kn hw' (by omega)).cell rfl)) <| AH.br [6] (by kernel_rfl) rfl ⟨Br.mk' rfl trivial ?_, trivial⟩
          refine SR.call ent63 (c_spec_l1Least w683 s.Value ((gt x.Maps ((idxF (hasId s.Id) x.Maps).toNat)).Torn)) rfl ?_
          rintro e w687 ⟨rfl, hk688⟩
          refine ⟨_, rfl, ?_⟩
          have hz689 := hk688.size
          have hB690 := hB686.lo hk688
          have hS691 := ((Kp.refl w643 : Kp (fun b_ => b_ = g162) w643 w643).lo hk684).lo hk688
          refine SR.nil ⟨hS691, _, rfl, ?_⟩
          refine AH.take 7 rfl (by kernel_rfl) trivial (hS691) (fun w' hw' => r_add rfl rfl (by omega)) <| AH.take 8 rfl (by kernel_rfl) trivial (hS691) (fun w' hw' => r_fa fa27_3 rfl) <| AH.br [9] (by kernel_rfl) rfl ⟨Br.mk' rfl trivial ?_, trivial⟩
          refine SR.store (o := 3) (vs := [.int .i64 (x.Dropped + (min s.Value ((gt x.Maps ((idxF (hasId s.Id) x.Maps).toNat)).Torn)))]) sca3.2 rfl rfl rfl rfl ((((hm402).kp hR644 (fun e' => hd191 e')).lo hk684).lo hk688) (Nat.le_of_ble_eq_true rfl) rfl ?_
          intro w692 hk693 hs694 hb695
          have hz696 := hk693.size
          have hB697 := hB690.new hk693 (by omega)
          have hS698 := (hS691).step hk693 (fun _ _ e => e)
          refine SR.nil ⟨hS698, _, rfl, ?_⟩
          refine AH.done (by kernel_rfl) ?_
          exact ⟨⟨rfl, rfl, rfl, rfl, trivial⟩, hS698, (hb695)⟩
        rintro f699 w700 ⟨hat702, hR701, hm682⟩
        rw [← sets_of_at hat702]
        have hz703 := hR701.size
        have hB704 := hB647.new hR701 (by omega)
        refine W.seq ?_
        have hm705 := ((hm401).kp hR644 (fun e' => by have := ((hm403)).base_le e'; omega)).kn hR701 (by omega)
        have hm706 := ((hm404).kp hR644 (fun b_ hb e' => hd193 b_ e' hb)).kd hR701 hd192
        refine W.regA (Kp (fun b_ => b_ = g17) w700) (fun f' w' => At f' [(4, .pointer (pA g17)), (5, .bool (decide ((s.Value ≤ ((gt x.Maps ((idxF (hasId s.Id) x.Maps).toNat)).Torn)) ∧ (LibOK (⟨x.Maps.set ((idxF (hasId s.Id) x.Maps).toNat) (⟨(gt x.Maps ((idxF (hasId s.Id) x.Maps).toNat)).Id, ((gt x.Maps ((idxF (hasId s.Id) x.Maps).toNat)).Copies) - (min s.Value ((gt x.Maps ((idxF (hasId s.Id) x.Maps).toNat)).Torn)), ((gt x.Maps ((idxF (hasId s.Id) x.Maps).toNat)).Torn) - (min s.Value ((gt x.Maps ((idxF (hasId s.Id) x.Maps).toNat)).Torn))⟩ : LMap), x.Away, x.Bought, x.Dropped + (min s.Value ((gt x.Maps ((idxF (hasId s.Id) x.Maps).toNat)).Torn)), x.Mended⟩ : Library)))))] ∧ (Kp (fun b_ => b_ = g17) w700 w') ∧ (Blk w' g17 27 [.slice A134 n135 c136, .slice A138 n139 c140, .int .i64 x.Bought, .int .i64 (x.Dropped + (min s.Value ((gt x.Maps ((idxF (hasId s.Id) x.Maps).toNat)).Torn))), .int .i64 x.Mended])) mo ?_ ?_
        · intro w722 hk723
          have hz724 := hk723.size
          have hB725 := hB704.lo hk723
          refine AH.take 0 rfl (by kernel_rfl) trivial ((Kp.refl w700 : Kp (fun b_ => b_ = g17) w700 w700).lo hk723) (fun w' hw' => r_lda (l := [.slice A134 n135 c136, .slice A138 n139 c140, .int .i64 x.Bought, .int .i64 (x.Dropped + (min s.Value ((gt x.Maps ((idxF (hasId s.Id) x.Maps).toNat)).Torn))), .int .i64 x.Mended]) agg27 rfl (fun _ _ hu => ((hm682).kn hw' (by omega)).cell hu) rfl) <| AH.take 1 rfl (by kernel_rfl) trivial ((Kp.refl w700 : Kp (fun b_ => b_ = g17) w700 w700).lo hk723) (fun w' hw' => r_mv (v := .bool _) rfl) <| AH.take 2 rfl (by kernel_rfl) trivial ((Kp.refl w700 : Kp (fun b_ => b_ = g17) w700 w700).lo hk723) (fun w' hw' => r_mv (v := .bool _) rfl) <| AH.splitD (fun h726 => ?_) (fun h726 => ?_)
          · refine AH.take 3 rfl (by kernel_rfl) rfl ((Kp.refl w700 : Kp (fun b_ => b_ = g17) w700 w700).lo hk723) (fun w' hw' => r_lda (l := [.slice A134 n135 c136, .slice A138 n139 c140, .int .i64 x.Bought, .int .i64 (x.Dropped + (min s.Value ((gt x.Maps ((idxF (hasId s.Id) x.Maps).toNat)).Torn))), .int .i64 x.Mended]) agg27 rfl (fun _ _ hu => ((hm682).kn hw' (by omega)).cell hu) rfl) <| AH.br [4] (by kernel_rfl) rfl ⟨Br.mk' rfl rfl ?_, trivial⟩
            refine SR.gcall rfl ent30 (c_spec_l32Good w722 (⟨x.Maps.set ((idxF (hasId s.Id) x.Maps).toNat) (⟨(gt x.Maps ((idxF (hasId s.Id) x.Maps).toNat)).Id, ((gt x.Maps ((idxF (hasId s.Id) x.Maps).toNat)).Copies) - (min s.Value ((gt x.Maps ((idxF (hasId s.Id) x.Maps).toNat)).Torn)), ((gt x.Maps ((idxF (hasId s.Id) x.Maps).toNat)).Torn) - (min s.Value ((gt x.Maps ((idxF (hasId s.Id) x.Maps).toNat)).Torn))⟩ : LMap), x.Away, x.Bought, x.Dropped + (min s.Value ((gt x.Maps ((idxF (hasId s.Id) x.Maps).toNat)).Torn)), x.Mended⟩ : Library) (((((hm619).kd hR701 hd191).lo hk723).rd)) ((((hm706).lo hk723).rd))) rfl ?_
            rintro e w727 ⟨rfl, hk728⟩
            refine ⟨_, rfl, ?_⟩
            have hz729 := hk728.size
            have hB730 := hB725.lo hk728
            have hS731 := ((Kp.refl w700 : Kp (fun b_ => b_ = g17) w700 w700).lo hk723).lo hk728
            refine SR.nil ⟨hS731, _, rfl, ?_⟩
            refine AH.take 5 rfl (by kernel_rfl) trivial (hS731) (fun w' hw' => r_pick true rfl (v := .bool _) rfl) <| AH.br [6] (by kernel_rfl) rfl ⟨Br.mk' rfl trivial ?_, trivial⟩
            refine SR.store (o := 0) (vs := [.slice A134 n135 c136, .slice A138 n139 c140, .int .i64 x.Bought, .int .i64 (x.Dropped + (min s.Value ((gt x.Maps ((idxF (hasId s.Id) x.Maps).toNat)).Torn))), .int .i64 x.Mended]) agg27.2 rfl rfl rfl rfl (((hm705).lo hk723).lo hk728) (Nat.le_of_ble_eq_true rfl) rfl ?_
            intro w732 hk733 hs734 hb735
            have hz736 := hk733.size
            have hB737 := hB730.new hk733 (by omega)
            have hS738 := (hS731).step hk733 (fun _ _ e => e)
            refine SR.nil ⟨hS738, _, rfl, ?_⟩
            refine AH.take 7 rfl (by kernel_rfl) trivial (hS738) (fun w' hw' => r_as (v := .bool _) rfl) <| AH.done (by kernel_rfl) ?_
            exact ⟨⟨rfl, (eDD (jat h726)), trivial⟩, hS738, (hb735)⟩
          · refine AH.s' 3 rfl (by kernel_rfl) rfl ((Kp.refl w700 : Kp (fun b_ => b_ = g17) w700 w700).lo hk723) <| AH.s' 4 rfl (by kernel_rfl) rfl ((Kp.refl w700 : Kp (fun b_ => b_ = g17) w700 w700).lo hk723) <| AH.take 5 rfl (by kernel_rfl) trivial ((Kp.refl w700 : Kp (fun b_ => b_ = g17) w700 w700).lo hk723) (fun w' hw' => r_pick false rfl (v := .bool false) rfl) <| AH.br [6] (by kernel_rfl) rfl ⟨Br.mk' rfl trivial ?_, trivial⟩
            refine SR.store (o := 0) (vs := [.slice A134 n135 c136, .slice A138 n139 c140, .int .i64 x.Bought, .int .i64 (x.Dropped + (min s.Value ((gt x.Maps ((idxF (hasId s.Id) x.Maps).toNat)).Torn))), .int .i64 x.Mended]) agg27.2 rfl rfl rfl rfl ((hm705).lo hk723) (Nat.le_of_ble_eq_true rfl) rfl ?_
            intro w740 hk741 hs742 hb743
            have hz744 := hk741.size
            have hB745 := hB725.new hk741 (by omega)
            have hS746 := ((Kp.refl w700 : Kp (fun b_ => b_ = g17) w700 w700).lo hk723).step hk741 (fun _ _ e => e)
            refine SR.nil ⟨hS746, _, rfl, ?_⟩
            refine AH.take 7 rfl (by kernel_rfl) trivial (hS746) (fun w' hw' => r_as (v := .bool _) rfl) <| AH.done (by kernel_rfl) ?_
            exact ⟨⟨rfl, (eDF (jaf h726).2), trivial⟩, hS746, (hb743)⟩
        rintro f747 w748 ⟨hat750, hR749, hm739⟩
        rw [← sets_of_at hat750]
        have hz751 := hR749.size
        have hB752 := hB704.new hR749 (by omega)
        refine W.ret ?_
        refine retCT rfl rfl agg27 (hm739) rfl (v := .bool _) rfl ?_
        exact ⟨A134, n135, c136, A138, n139, c140, eR (eT2 (eA (eC rfl (eC rfl (eC (eI (by subst hl146 hl148; unfold spec_l32Make; rw [if_neg h28, if_neg h405, if_pos h571] <;> rfl)) (eC (eI (by subst hl146 hl148; unfold spec_l32Make; rw [if_neg h28, if_neg h405, if_pos h571] <;> rfl)) (eC (eI (by subst hl146 hl148; unfold spec_l32Make; rw [if_neg h28, if_neg h405, if_pos h571] <;> rfl)) rfl)))))) (eB (by subst hl146 hl148; unfold spec_l32Make; rw [if_neg h28, if_neg h405, if_pos h571] <;> rfl))), (SlO.eqv ((((hm619).kd hR701 hd191).kn hR749 (by omega)).down (by omega)) (by subst hl146 hl148; unfold spec_l32Make; rw [if_neg h28, if_neg h405, if_pos h571] <;> rfl)), (SlO.eqv (((hm706).kn hR749 (by omega)).down (by omega)) (by subst hl146 hl148; unfold spec_l32Make; rw [if_neg h28, if_neg h405, if_pos h571] <;> rfl)), hd193, hB752⟩
      · refine W.seq ?_
        refine W.regS (SR.q' (r_eq rfl rfl) <| SR.q' (r_as (v := .bool _) rfl) <| SR.nil ?_)
        refine W.cond_d rfl (fun h753 => ?_) (fun h753 => ?_)
        · refine W.seq ?_
          refine W.regS (SR.q' (r_fa fa66_3 rfl) <| SR.q' (r_ld (v := .int .i64 s.Value) sca3 rfl ((hm400).cell rfl)) <| SR.q' (r_fa fa48_1 rfl) <| SR.q' (r_ld (v := .int .i64 ((gt x.Maps ((idxF (hasId s.Id) x.Maps).toNat)).Copies)) sca3 rfl ((hb394).cell rfl)) <| SR.q' (r_fa fa48_2 rfl) <| SR.q' (r_ld (v := .int .i64 ((gt x.Maps ((idxF (hasId s.Id) x.Maps).toNat)).Torn)) sca3 rfl ((hb394).cell rfl)) <| SR.q' (r_sub rfl rfl (by omega)) <| SR.q' (r_le rfl rfl) <| SR.q' (r_as (v := .bool _) rfl) <| SR.nil ?_)
          refine W.regA (Kp (fun b_ => A134 = some ⟨b_, 0, none⟩) w391) (fun f' w' => At f' [(4, .pointer (pA g17)), (5, .bool false), (7, .pointer (pA g162)), (10, .bool (decide (s.Value ≤ (((gt x.Maps ((idxF (hasId s.Id) x.Maps).toNat)).Copies) - ((gt x.Maps ((idxF (hasId s.Id) x.Maps).toNat)).Torn)))))] ∧ (Kp (fun b_ => A134 = some ⟨b_, 0, none⟩) w391 w') ∧ (SlO w' w18.heap.size encLMap 3 48 A134 n135 c136 (x.Maps.set ((idxF (hasId s.Id) x.Maps).toNat) ({ (gt x.Maps ((idxF (hasId s.Id) x.Maps).toNat)) with Torn := ((gt x.Maps ((idxF (hasId s.Id) x.Maps).toNat)).Torn) + (min s.Value 100) }))) ∧ ((x.Maps.set ((idxF (hasId s.Id) x.Maps).toNat) ({ (gt x.Maps ((idxF (hasId s.Id) x.Maps).toNat)) with Torn := ((gt x.Maps ((idxF (hasId s.Id) x.Maps).toNat)).Torn) + (min s.Value 100) }))[(idxF (hasId s.Id) x.Maps).toNat]? = some ({ (gt x.Maps ((idxF (hasId s.Id) x.Maps).toNat)) with Torn := ((gt x.Maps ((idxF (hasId s.Id) x.Maps).toNat)).Torn) + (min s.Value 100) }))) mo ?_ ?_
          · intro w791 hk792
            have hz793 := hk792.size
            have hB794 := hB396.lo hk792
            refine AH.take 0 rfl (by kernel_rfl) trivial ((Kp.refl w391 : Kp (fun b_ => A134 = some ⟨b_, 0, none⟩) w391 w391).lo hk792) (fun w' hw' => r_fa fa27_0 rfl) <| AH.take 1 rfl (by kernel_rfl) trivial ((Kp.refl w391 : Kp (fun b_ => A134 = some ⟨b_, 0, none⟩) w391 w391).lo hk792) (fun w' hw' => r_ld (v := .slice A134 n135 c136) sca24 rfl (((hm402).kp hw' (fun e' => hd191 e')).cell rfl)) <| AH.take 2 rfl (by kernel_rfl) trivial ((Kp.refl w391 : Kp (fun b_ => A134 = some ⟨b_, 0, none⟩) w391 w391).lo hk792) (fun w' hw' => r_mv (v := .int .i64 _) rfl) <| AH.take 3 rfl (by kernel_rfl) trivial ((Kp.refl w391 : Kp (fun b_ => A134 = some ⟨b_, 0, none⟩) w391 w391).lo hk792) (fun w' hw' => r_fa fa48_2 rfl) <| AH.take 4 rfl (by kernel_rfl) trivial ((Kp.refl w391 : Kp (fun b_ => A134 = some ⟨b_, 0, none⟩) w391 w391).lo hk792) (fun w' hw' => r_ld (v := .int .i64 ((gt x.Maps ((idxF (hasId s.Id) x.Maps).toNat)).Torn)) sca3 rfl (((hb394).kp hw' (fun e' => hd389 e')).cell rfl)) <| AH.take 5 rfl (by kernel_rfl) trivial ((Kp.refl w391 : Kp (fun b_ => A134 = some ⟨b_, 0, none⟩) w391 w391).lo hk792) (fun w' hw' => r_fa fa66_3 rfl) <| AH.take 6 rfl (by kernel_rfl) trivial ((Kp.refl w391 : Kp (fun b_ => A134 = some ⟨b_, 0, none⟩) w391 w391).lo hk792) (fun w' hw' => r_ld (v := .int .i64 s.Value) sca3 rfl (((hm400).kp hw' (fun e' => by have := ((hm403)).base_le e'; omega)).cell rfl)) <| AH.br [7] (by kernel_rfl) rfl ⟨Br.mk' rfl trivial ?_, trivial⟩
            refine SR.call ent63 (c_spec_l1Least w791 s.Value 100) rfl ?_
            rintro e w795 ⟨rfl, hk796⟩
            refine ⟨_, rfl, ?_⟩
            have hz797 := hk796.size
            have hB798 := hB794.lo hk796
            have hS799 := ((Kp.refl w391 : Kp (fun b_ => A134 = some ⟨b_, 0, none⟩) w391 w391).lo hk792).lo hk796
            refine SR.nil ⟨hS799, _, rfl, ?_⟩
            refine AH.take 8 rfl (by kernel_rfl) trivial (hS799) (fun w' hw' => r_add rfl rfl (by omega)) <| AH.br [9] (by kernel_rfl) rfl ⟨Br.mk' rfl trivial ?_, trivial⟩
            refine SR.q' (r_ixR tsl24 ((((hm403).lo hk792).lo hk796).rd) rfl rfl (by omega)) ?_
            refine SR.nil ⟨hS799, _, rfl, ?_⟩
            refine AH.take 10 rfl (by kernel_rfl) trivial (hS799) (fun w' hw' => r_fa fa48_2 rfl) <| AH.br [11] (by kernel_rfl) rfl ⟨Br.mk' rfl trivial ?_, trivial⟩
            refine SR.storeO (o := 2) (vs := [.int .i64 (((gt x.Maps ((idxF (hasId s.Id) x.Maps).toNat)).Torn) + (min s.Value 100))]) (x1 := { (gt x.Maps ((idxF (hasId s.Id) x.Maps).toNat)) with Torn := ((gt x.Maps ((idxF (hasId s.Id) x.Maps).toNat)).Torn) + (min s.Value 100) }) sca3.2 rfl (add_add _ _ _) rfl rfl (((hm403).lo hk792).lo hk796) hx379 rfl (Nat.le_of_ble_eq_true rfl) rfl ?_
            intro w800 hk801 hs802 hO803
            have hz804 := hk801.size
            have hB805 := hB798.step hk801 (fun i_ hi_ e' => by have := ((((hm403).lo hk792).lo hk796)).base_le e'; first | omega | (exfalso; omega) | exact e' | exact .inl e' | exact .inr e')
            have hS806 := (hS799).step hk801 (fun _ _ e => e)
            have hx807 : (x.Maps.set ((idxF (hasId s.Id) x.Maps).toNat) ({ (gt x.Maps ((idxF (hasId s.Id) x.Maps).toNat)) with Torn := ((gt x.Maps ((idxF (hasId s.Id) x.Maps).toNat)).Torn) + (min s.Value 100) }))[(idxF (hasId s.Id) x.Maps).toNat]? = some ({ (gt x.Maps ((idxF (hasId s.Id) x.Maps).toNat)) with Torn := ((gt x.Maps ((idxF (hasId s.Id) x.Maps).toNat)).Torn) + (min s.Value 100) }) := List.getElem?_set_self (List.getElem?_eq_some_iff.1 hx379).1
            refine SR.nil ⟨hS806, _, rfl, ?_⟩
            refine AH.done (by kernel_rfl) ?_
            exact ⟨⟨rfl, rfl, rfl, rfl, trivial⟩, hS806, (hO803), hx807⟩
          rintro f808 w809 ⟨hat811, hR810, hm790, hx789⟩
          rw [← sets_of_at hat811]
          have hz812 := hR810.size
          have hB813 := hB396.step hR810 (fun i_ hi_ e' => by have := ((hm403)).base_le e'; first | omega | (exfalso; omega) | exact e' | exact .inl e' | exact .inr e')
          refine W.seq ?_
          refine W.regA (Kp (fun b_ => b_ = g17) w809) (fun f' w' => At f' [(4, .pointer (pA g17)), (5, .bool (decide ((s.Value ≤ (((gt x.Maps ((idxF (hasId s.Id) x.Maps).toNat)).Copies) - ((gt x.Maps ((idxF (hasId s.Id) x.Maps).toNat)).Torn))) ∧ (LibOK (⟨x.Maps.set ((idxF (hasId s.Id) x.Maps).toNat) ({ (gt x.Maps ((idxF (hasId s.Id) x.Maps).toNat)) with Torn := ((gt x.Maps ((idxF (hasId s.Id) x.Maps).toNat)).Torn) + (min s.Value 100) }), x.Away, x.Bought, x.Dropped, x.Mended⟩ : Library)))))] ∧ (Kp (fun b_ => b_ = g17) w809 w') ∧ (Blk w' g17 27 [.slice A134 n135 c136, .slice A138 n139 c140, .int .i64 x.Bought, .int .i64 x.Dropped, .int .i64 x.Mended])) mo ?_ ?_
          · intro w829 hk830
            have hz831 := hk830.size
            have hB832 := hB813.lo hk830
            refine AH.take 0 rfl (by kernel_rfl) trivial ((Kp.refl w809 : Kp (fun b_ => b_ = g17) w809 w809).lo hk830) (fun w' hw' => r_lda (l := [.slice A134 n135 c136, .slice A138 n139 c140, .int .i64 x.Bought, .int .i64 x.Dropped, .int .i64 x.Mended]) agg27 rfl (fun _ _ hu => (((hm402).kp hR810 (fun e' => hd191 e')).kn hw' (by omega)).cell hu) rfl) <| AH.take 1 rfl (by kernel_rfl) trivial ((Kp.refl w809 : Kp (fun b_ => b_ = g17) w809 w809).lo hk830) (fun w' hw' => r_mv (v := .bool _) rfl) <| AH.take 2 rfl (by kernel_rfl) trivial ((Kp.refl w809 : Kp (fun b_ => b_ = g17) w809 w809).lo hk830) (fun w' hw' => r_mv (v := .bool _) rfl) <| AH.splitD (fun h833 => ?_) (fun h833 => ?_)
            · refine AH.take 3 rfl (by kernel_rfl) rfl ((Kp.refl w809 : Kp (fun b_ => b_ = g17) w809 w809).lo hk830) (fun w' hw' => r_lda (l := [.slice A134 n135 c136, .slice A138 n139 c140, .int .i64 x.Bought, .int .i64 x.Dropped, .int .i64 x.Mended]) agg27 rfl (fun _ _ hu => (((hm402).kp hR810 (fun e' => hd191 e')).kn hw' (by omega)).cell hu) rfl) <| AH.br [4] (by kernel_rfl) rfl ⟨Br.mk' rfl rfl ?_, trivial⟩
              refine SR.gcall rfl ent30 (c_spec_l32Good w829 (⟨x.Maps.set ((idxF (hasId s.Id) x.Maps).toNat) ({ (gt x.Maps ((idxF (hasId s.Id) x.Maps).toNat)) with Torn := ((gt x.Maps ((idxF (hasId s.Id) x.Maps).toNat)).Torn) + (min s.Value 100) }), x.Away, x.Bought, x.Dropped, x.Mended⟩ : Library) ((((hm790).lo hk830).rd)) (((((hm404).kp hR810 (fun b_ hb e' => hd193 b_ e' hb)).lo hk830).rd))) rfl ?_
              rintro e w834 ⟨rfl, hk835⟩
              refine ⟨_, rfl, ?_⟩
              have hz836 := hk835.size
              have hB837 := hB832.lo hk835
              have hS838 := ((Kp.refl w809 : Kp (fun b_ => b_ = g17) w809 w809).lo hk830).lo hk835
              refine SR.nil ⟨hS838, _, rfl, ?_⟩
              refine AH.take 5 rfl (by kernel_rfl) trivial (hS838) (fun w' hw' => r_pick true rfl (v := .bool _) rfl) <| AH.br [6] (by kernel_rfl) rfl ⟨Br.mk' rfl trivial ?_, trivial⟩
              refine SR.store (o := 0) (vs := [.slice A134 n135 c136, .slice A138 n139 c140, .int .i64 x.Bought, .int .i64 x.Dropped, .int .i64 x.Mended]) agg27.2 rfl rfl rfl rfl ((((hm401).kp hR810 (fun e' => by have := ((hm403)).base_le e'; omega)).lo hk830).lo hk835) (Nat.le_of_ble_eq_true rfl) rfl ?_
              intro w839 hk840 hs841 hb842
              have hz843 := hk840.size
              have hB844 := hB837.new hk840 (by omega)
              have hS845 := (hS838).step hk840 (fun _ _ e => e)
              refine SR.nil ⟨hS845, _, rfl, ?_⟩
              refine AH.take 7 rfl (by kernel_rfl) trivial (hS845) (fun w' hw' => r_as (v := .bool _) rfl) <| AH.done (by kernel_rfl) ?_
              exact ⟨⟨rfl, (eDD (jat h833)), trivial⟩, hS845, (hb842)⟩
            · refine AH.s' 3 rfl (by kernel_rfl) rfl ((Kp.refl w809 : Kp (fun b_ => b_ = g17) w809 w809).lo hk830) <| AH.s' 4 rfl (by kernel_rfl) rfl ((Kp.refl w809 : Kp (fun b_ => b_ = g17) w809 w809).lo hk830) <| AH.take 5 rfl (by kernel_rfl) trivial ((Kp.refl w809 : Kp (fun b_ => b_ = g17) w809 w809).lo hk830) (fun w' hw' => r_pick false rfl (v := .bool false) rfl) <| AH.br [6] (by kernel_rfl) rfl ⟨Br.mk' rfl trivial ?_, trivial⟩
              refine SR.store (o := 0) (vs := [.slice A134 n135 c136, .slice A138 n139 c140, .int .i64 x.Bought, .int .i64 x.Dropped, .int .i64 x.Mended]) agg27.2 rfl rfl rfl rfl (((hm401).kp hR810 (fun e' => by have := ((hm403)).base_le e'; omega)).lo hk830) (Nat.le_of_ble_eq_true rfl) rfl ?_
              intro w847 hk848 hs849 hb850
              have hz851 := hk848.size
              have hB852 := hB832.new hk848 (by omega)
              have hS853 := ((Kp.refl w809 : Kp (fun b_ => b_ = g17) w809 w809).lo hk830).step hk848 (fun _ _ e => e)
              refine SR.nil ⟨hS853, _, rfl, ?_⟩
              refine AH.take 7 rfl (by kernel_rfl) trivial (hS853) (fun w' hw' => r_as (v := .bool _) rfl) <| AH.done (by kernel_rfl) ?_
              exact ⟨⟨rfl, (eDF (jaf h833).2), trivial⟩, hS853, (hb850)⟩
          rintro f854 w855 ⟨hat857, hR856, hm846⟩
          rw [← sets_of_at hat857]
          have hz858 := hR856.size
          have hB859 := hB813.new hR856 (by omega)
          refine W.ret ?_
          refine retCT rfl rfl agg27 (hm846) rfl (v := .bool _) rfl ?_
          exact ⟨A134, n135, c136, A138, n139, c140, eR (eT2 (eA (eC rfl (eC rfl (eC (eI (by subst hl146 hl148; unfold spec_l32Make; rw [if_neg h28, if_neg h405, if_neg h571, if_pos h753] <;> rfl)) (eC (eI (by subst hl146 hl148; unfold spec_l32Make; rw [if_neg h28, if_neg h405, if_neg h571, if_pos h753] <;> rfl)) (eC (eI (by subst hl146 hl148; unfold spec_l32Make; rw [if_neg h28, if_neg h405, if_neg h571, if_pos h753] <;> rfl)) rfl)))))) (eB (by subst hl146 hl148; unfold spec_l32Make; rw [if_neg h28, if_neg h405, if_neg h571, if_pos h753] <;> rfl))), (SlO.eqv (((hm790).kn hR856 (by omega)).down (by omega)) (by subst hl146 hl148; unfold spec_l32Make; rw [if_neg h28, if_neg h405, if_neg h571, if_pos h753] <;> rfl)), (SlO.eqv ((((hm404).kp hR810 (fun b_ hb e' => hd193 b_ e' hb)).kn hR856 (by omega)).down (by omega)) (by subst hl146 hl148; unfold spec_l32Make; rw [if_neg h28, if_neg h405, if_neg h571, if_pos h753] <;> rfl)), hd193, hB859⟩
        · refine W.regS (SR.q' (r_lda (l := [.slice Ax_Maps nx_Maps cx_Maps, .slice Ax_Away nx_Away cx_Away, .int .i64 x.Bought, .int .i64 x.Dropped, .int .i64 x.Mended]) agg27 rfl (fun _ _ hu => (hm397).cell hu) rfl) <| SR.q' (r_lda (l := [.int .i64 s.Kind, .int .i64 s.Id, .int .i64 s.Reader, .int .i64 s.Value]) agg66 rfl (fun _ _ hu => (hm400).cell hu) rfl) <| SR.q' (r_mv (v := .int .i64 _) rfl) <| SR.call ent64 (c_spec_l32Readers w391 x ((hm398)) ((hm399)) s (idxF (hasId s.Id) x.Maps) (by assumption) (by omega) (by omega)) rfl ?_)
          rintro e w860 ⟨A862, n863, c864, A866, n867, c868, rfl, hO865, hO869, hd870, hk861⟩
          refine ⟨_, rfl, ?_⟩
          have hz871 := hk861.size
          have hB872 := hB396.lo hk861
          have hl873 := hO865.len
          have hl874 := hO865.rd.bound
          have hl875 := hO869.len
          have hl876 := hO869.rd.bound
          refine SR.q' (r_mv (v := .tuple (List.toArray _)) rfl) <| SR.q' (r_ext (v := .agg (List.toArray _)) rfl rfl) <| SR.q' (r_ext (v := .bool _) rfl rfl) <| SR.store (o := 0) (vs := [.slice A862 n863 c864, .slice A866 n867 c868, .int .i64 (((spec_l32Readers x s (idxF (hasId s.Id) x.Maps)).1).Bought), .int .i64 (((spec_l32Readers x s (idxF (hasId s.Id) x.Maps)).1).Dropped), .int .i64 (((spec_l32Readers x s (idxF (hasId s.Id) x.Maps)).1).Mended)]) agg27.2 rfl rfl rfl rfl ((hm402).lo hk861) (Nat.le_of_ble_eq_true rfl) rfl ?_
          intro w877 hk878 hs879 hb880
          have hz881 := hk878.size
          have hB882 := hB872.new hk878 (by omega)
          refine SR.q' (r_as (v := .bool _) rfl) <| SR.nil ?_
          refine W.seq ?_
          have hm883 := ((hm401).lo hk861).kn hk878 (by omega)
          refine W.regA (Kp (fun b_ => b_ = g17) w877) (fun f' w' => At f' [(4, .pointer (pA g17)), (5, .bool (decide ((((spec_l32Readers x s (idxF (hasId s.Id) x.Maps)).2) = true) ∧ (LibOK ((spec_l32Readers x s (idxF (hasId s.Id) x.Maps)).1)))))] ∧ (Kp (fun b_ => b_ = g17) w877 w') ∧ (Blk w' g17 27 [.slice A862 n863 c864, .slice A866 n867 c868, .int .i64 (((spec_l32Readers x s (idxF (hasId s.Id) x.Maps)).1).Bought), .int .i64 (((spec_l32Readers x s (idxF (hasId s.Id) x.Maps)).1).Dropped), .int .i64 (((spec_l32Readers x s (idxF (hasId s.Id) x.Maps)).1).Mended)])) mo ?_ ?_
          · intro w899 hk900
            have hz901 := hk900.size
            have hB902 := hB882.lo hk900
            refine AH.take 0 rfl (by kernel_rfl) trivial ((Kp.refl w877 : Kp (fun b_ => b_ = g17) w877 w877).lo hk900) (fun w' hw' => r_lda (l := [.slice A862 n863 c864, .slice A866 n867 c868, .int .i64 (((spec_l32Readers x s (idxF (hasId s.Id) x.Maps)).1).Bought), .int .i64 (((spec_l32Readers x s (idxF (hasId s.Id) x.Maps)).1).Dropped), .int .i64 (((spec_l32Readers x s (idxF (hasId s.Id) x.Maps)).1).Mended)]) agg27 rfl (fun _ _ hu => ((hb880).kn hw' (by omega)).cell hu) rfl) <| AH.take 1 rfl (by kernel_rfl) trivial ((Kp.refl w877 : Kp (fun b_ => b_ = g17) w877 w877).lo hk900) (fun w' hw' => r_mv (v := .bool _) rfl) <| AH.take 2 rfl (by kernel_rfl) trivial ((Kp.refl w877 : Kp (fun b_ => b_ = g17) w877 w877).lo hk900) (fun w' hw' => r_mv (v := .bool _) rfl) <| AH.split (fun h903 => ?_) (fun h903 => ?_)
            · refine AH.take 3 rfl (by kernel_rfl) rfl ((Kp.refl w877 : Kp (fun b_ => b_ = g17) w877 w877).lo hk900) (fun w' hw' => r_lda (l := [.slice A862 n863 c864, .slice A866 n867 c868, .int .i64 (((spec_l32Readers x s (idxF (hasId s.Id) x.Maps)).1).Bought), .int .i64 (((spec_l32Readers x s (idxF (hasId s.Id) x.Maps)).1).Dropped), .int .i64 (((spec_l32Readers x s (idxF (hasId s.Id) x.Maps)).1).Mended)]) agg27 rfl (fun _ _ hu => ((hb880).kn hw' (by omega)).cell hu) rfl) <| AH.br [4] (by kernel_rfl) rfl ⟨Br.mk' rfl rfl ?_, trivial⟩
              refine SR.gcall rfl ent30 (c_spec_l32Good w899 ((spec_l32Readers x s (idxF (hasId s.Id) x.Maps)).1) (((((hO865).kn hk878 (by omega)).lo hk900).rd)) (((((hO869).kn hk878 (by omega)).lo hk900).rd))) rfl ?_
              rintro e w904 ⟨rfl, hk905⟩
              refine ⟨_, rfl, ?_⟩
              have hz906 := hk905.size
              have hB907 := hB902.lo hk905
              have hS908 := ((Kp.refl w877 : Kp (fun b_ => b_ = g17) w877 w877).lo hk900).lo hk905
              refine SR.nil ⟨hS908, _, rfl, ?_⟩
              refine AH.take 5 rfl (by kernel_rfl) trivial (hS908) (fun w' hw' => r_pick true rfl (v := .bool _) rfl) <| AH.br [6] (by kernel_rfl) rfl ⟨Br.mk' rfl trivial ?_, trivial⟩
              refine SR.store (o := 0) (vs := [.slice A862 n863 c864, .slice A866 n867 c868, .int .i64 (((spec_l32Readers x s (idxF (hasId s.Id) x.Maps)).1).Bought), .int .i64 (((spec_l32Readers x s (idxF (hasId s.Id) x.Maps)).1).Dropped), .int .i64 (((spec_l32Readers x s (idxF (hasId s.Id) x.Maps)).1).Mended)]) agg27.2 rfl rfl rfl rfl (((hm883).lo hk900).lo hk905) (Nat.le_of_ble_eq_true rfl) rfl ?_
              intro w909 hk910 hs911 hb912
              have hz913 := hk910.size
              have hB914 := hB907.new hk910 (by omega)
              have hS915 := (hS908).step hk910 (fun _ _ e => e)
              refine SR.nil ⟨hS915, _, rfl, ?_⟩
              refine AH.take 7 rfl (by kernel_rfl) trivial (hS915) (fun w' hw' => r_as (v := .bool _) rfl) <| AH.done (by kernel_rfl) ?_
              exact ⟨⟨rfl, (eDD (jat h903)), trivial⟩, hS915, (hb912)⟩
            · refine AH.s' 3 rfl (by kernel_rfl) rfl ((Kp.refl w877 : Kp (fun b_ => b_ = g17) w877 w877).lo hk900) <| AH.s' 4 rfl (by kernel_rfl) rfl ((Kp.refl w877 : Kp (fun b_ => b_ = g17) w877 w877).lo hk900) <| AH.take 5 rfl (by kernel_rfl) trivial ((Kp.refl w877 : Kp (fun b_ => b_ = g17) w877 w877).lo hk900) (fun w' hw' => r_pick false rfl (v := .bool false) rfl) <| AH.br [6] (by kernel_rfl) rfl ⟨Br.mk' rfl trivial ?_, trivial⟩
              refine SR.store (o := 0) (vs := [.slice A862 n863 c864, .slice A866 n867 c868, .int .i64 (((spec_l32Readers x s (idxF (hasId s.Id) x.Maps)).1).Bought), .int .i64 (((spec_l32Readers x s (idxF (hasId s.Id) x.Maps)).1).Dropped), .int .i64 (((spec_l32Readers x s (idxF (hasId s.Id) x.Maps)).1).Mended)]) agg27.2 rfl rfl rfl rfl ((hm883).lo hk900) (Nat.le_of_ble_eq_true rfl) rfl ?_
              intro w917 hk918 hs919 hb920
              have hz921 := hk918.size
              have hB922 := hB902.new hk918 (by omega)
              have hS923 := ((Kp.refl w877 : Kp (fun b_ => b_ = g17) w877 w877).lo hk900).step hk918 (fun _ _ e => e)
              refine SR.nil ⟨hS923, _, rfl, ?_⟩
              refine AH.take 7 rfl (by kernel_rfl) trivial (hS923) (fun w' hw' => r_as (v := .bool _) rfl) <| AH.done (by kernel_rfl) ?_
              exact ⟨⟨rfl, (eDF (jaf (ne_true_of_eq_false h903)).2), trivial⟩, hS923, (hb920)⟩
          rintro f924 w925 ⟨hat927, hR926, hm916⟩
          rw [← sets_of_at hat927]
          have hz928 := hR926.size
          have hB929 := hB882.new hR926 (by omega)
          refine W.ret ?_
          refine retCT rfl rfl agg27 (hm916) rfl (v := .bool _) rfl ?_
          exact ⟨A862, n863, c864, A866, n867, c868, eR (eT2 (eA (eC rfl (eC rfl (eC (eI (by subst hl873 hl875; unfold spec_l32Make; rw [if_neg h28, if_neg h405, if_neg h571, if_neg h753] <;> rfl)) (eC (eI (by subst hl873 hl875; unfold spec_l32Make; rw [if_neg h28, if_neg h405, if_neg h571, if_neg h753] <;> rfl)) (eC (eI (by subst hl873 hl875; unfold spec_l32Make; rw [if_neg h28, if_neg h405, if_neg h571, if_neg h753] <;> rfl)) rfl)))))) (eB (by subst hl873 hl875; unfold spec_l32Make; rw [if_neg h28, if_neg h405, if_neg h571, if_neg h753] <;> rfl))), (SlO.eqv ((((hO865).kn hk878 (by omega)).kn hR926 (by omega)).down (by omega)) (by subst hl873 hl875; unfold spec_l32Make; rw [if_neg h28, if_neg h405, if_neg h571, if_neg h753] <;> rfl)), (SlO.eqv ((((hO869).kn hk878 (by omega)).kn hR926 (by omega)).down (by omega)) (by subst hl873 hl875; unfold spec_l32Make; rw [if_neg h28, if_neg h405, if_neg h571, if_neg h753] <;> rfl)), hd870, hB929⟩

open Classical in
noncomputable def spec_StepLibrary (x : Library) (s : LibraryStep) : Library × Bool :=
  if (¬ (LibOK x)) ∨ ((!(spec_l32Step x s)) = true) then ((⟨([] : List LMap), ([] : List Away), 0, 0, 0⟩ : Library), false) else if (!((spec_l32Make x s).2)) = true then ((⟨([] : List LMap), ([] : List Away), 0, 0, 0⟩ : Library), false) else (((spec_l32Make x s).1), true)
theorem c_spec_StepLibrary (w : World) (x : Library) {Ax_Maps : Option Addr} {nx_Maps cx_Maps Bx_Maps : Nat} (hx_Maps : SlR w Bx_Maps encLMap 3 Ax_Maps nx_Maps cx_Maps x.Maps) {Ax_Away : Option Addr} {nx_Away cx_Away Bx_Away : Nat} (hx_Away : SlR w Bx_Away encAway 2 Ax_Away nx_Away cx_Away x.Away) (s : LibraryStep) : Calls Tryd.prog 40 #[.agg (List.toArray [.slice Ax_Maps nx_Maps cx_Maps, .slice Ax_Away nx_Away cx_Away, .int .i64 x.Bought, .int .i64 x.Dropped, .int .i64 x.Mended]), .agg (List.toArray (encLibraryStep s))] w fun e w' => ∃ (A1' : Option Addr) (n1' c1' : Nat) (A2' : Option Addr) (n2' c2' : Nat), e = .returned (.tuple (List.toArray [.agg (List.toArray [.slice A1' n1' c1', .slice A2' n2' c2', .int .i64 (((spec_StepLibrary x s).1).Bought), .int .i64 (((spec_StepLibrary x s).1).Dropped), .int .i64 (((spec_StepLibrary x s).1).Mended)]), .bool ((spec_StepLibrary x s).2)])) ∧ SlO w' w.heap.size encLMap 3 48 A1' n1' c1' (((spec_StepLibrary x s).1).Maps) ∧ SlO w' w.heap.size encAway 2 57 A2' n2' c2' (((spec_StepLibrary x s).1).Away) ∧ (∀ b_, A1' = some ⟨b_, 0, none⟩ → ¬ A2' = some ⟨b_, 0, none⟩) ∧ Lo w w' := by
  refine calls_W 28 Tryd.func40 rfl rfl rfl ?_
  have hbdx_Maps := hx_Maps.bound
  have hlex_Maps := hx_Maps.len
  have hBbx_Maps := hx_Maps.bd
  have hbdx_Away := hx_Away.bound
  have hlex_Away := hx_Away.len
  have hBbx_Away := hx_Away.bd
  have hbdx_Maps := hx_Maps.bound
  have hlex_Maps := hx_Maps.len
  have hBbx_Maps := hx_Maps.bd
  have hbdx_Away := hx_Away.bound
  have hlex_Away := hx_Away.len
  have hBbx_Away := hx_Away.bd
  refine W.seq ?_
  refine W.regS (SR.box (v := .agg (List.toArray _)) (l := [.slice Ax_Maps nx_Maps cx_Maps, .slice Ax_Away nx_Away cx_Away, .int .i64 x.Bought, .int .i64 x.Dropped, .int .i64 x.Mended]) rfl rfl ?_)
  intro g1 w2 hg3 hk4 hs5 hb6
  have hz7 := hk4.size
  have hB8 := (Lo.refl w).lo hk4
  refine SR.box (v := .agg (List.toArray _)) (l := [.int .i64 s.Kind, .int .i64 s.Id, .int .i64 s.Reader, .int .i64 s.Value]) rfl rfl ?_
  intro g9 w10 hg11 hk12 hs13 hb14
  have hz15 := hk12.size
  have hB16 := hB8.lo hk12
  refine SR.alloc (l := [.slice none 0 0, .slice none 0 0, .int .i64 0, .int .i64 0, .int .i64 0]) tz27 rfl ?_
  intro g17 w18 hg19 hk20 hs21 hb22
  have hz23 := hk20.size
  have hB24 := hB16.lo hk20
  refine SR.q' (r_as (v := .bool false) rfl) <| SR.nil ?_
  refine W.seq ?_
  refine W.seq ?_
  have hm25 := ((hb6).lo hk12).lo hk20
  have hm26 := (((hx_Maps).lo hk4).lo hk12).lo hk20
  have hm27 := (((hx_Away).lo hk4).lo hk12).lo hk20
  refine W.regJS (fun f' w' => At f' [(2, .pointer (pA g1)), (3, .pointer (pA g9)), (4, .pointer (pA g17)), (5, .bool false), (16, .bool (decide ((¬ (LibOK x)) ∨ ((!(spec_l32Step x s)) = true))))] ∧ Lo w18 w') ?_ ?_
  · refine SR.q' (r_lda (l := [.slice Ax_Maps nx_Maps cx_Maps, .slice Ax_Away nx_Away cx_Away, .int .i64 x.Bought, .int .i64 x.Dropped, .int .i64 x.Mended]) agg27 rfl (fun _ _ hu => (hm25).cell hu) rfl) <| SR.call ent30 (c_spec_l32Good w18 x ((hm26)) ((hm27))) rfl ?_
    rintro e w28 ⟨rfl, hk29⟩
    refine ⟨_, rfl, ?_⟩
    have hz30 := hk29.size
    have hB31 := hB24.lo hk29
    refine SR.q' (r_not rfl) <| SR.q' (r_mv (v := .bool _) rfl) <| SR.splitN (fun h32 => ?_) (fun h32 => ?_)
    · refine SR.s' rfl <| SR.s' rfl <| SR.s' rfl <| SR.s' rfl <| SR.q' (r_pick true rfl (v := .bool true) rfl) <| SR.nil ?_
      exact ⟨_, rfl, ⟨⟨rfl, rfl, rfl, rfl, (eDT ((jmf h32).1 trivial)), trivial⟩, (hk29)⟩⟩
    · have hq33 := And.left h32
      have hq34 := lib_len h32
      have hq35 := And.left hq33
      have hq36 := And.right hq33
      refine SR.g' rfl (r_lda (l := [.slice Ax_Maps nx_Maps cx_Maps, .slice Ax_Away nx_Away cx_Away, .int .i64 x.Bought, .int .i64 x.Dropped, .int .i64 x.Mended]) agg27 rfl (fun _ _ hu => ((hm25).lo hk29).cell hu) rfl) <| SR.g' rfl (r_lda (l := [.int .i64 s.Kind, .int .i64 s.Id, .int .i64 s.Reader, .int .i64 s.Value]) agg66 rfl (fun _ _ hu => (((hb14).lo hk20).lo hk29).cell hu) rfl) <| SR.gcall rfl ent55 (c_spec_l32Step w28 x (((hm26).lo hk29)) (((hm27).lo hk29)) s) rfl ?_
      rintro e w37 ⟨rfl, hk38⟩
      refine ⟨_, rfl, ?_⟩
      have hz39 := hk38.size
      have hB40 := hB31.lo hk38
      refine SR.g' rfl (r_not rfl) <| SR.q' (r_pick false rfl (v := .bool _) rfl) <| SR.nil ?_
      exact ⟨_, rfl, ⟨⟨rfl, rfl, rfl, rfl, (eBD (jmt h32)), trivial⟩, ((hk29).trans hk38)⟩⟩
  rintro f41 w42 ⟨hat43, hk44⟩
  rw [← sets_of_at hat43]
  have hz45 := hk44.size
  have hB46 := hB24.lo hk44
  refine W.cond_d rfl (fun h47 => ?_) (fun h47 => ?_)
  · refine W.seq ?_
    refine W.regS (SR.q' (r_build (vs := []) rfl (bld27_)) <| SR.store (o := 0) (vs := [.slice none 0 0, .slice none 0 0, .int .i64 0, .int .i64 0, .int .i64 0]) agg27.2 rfl rfl rfl rfl ((hb22).lo hk44) (Nat.le_of_ble_eq_true rfl) rfl ?_)
    intro w49 hk50 hs51 hb52
    have hz53 := hk50.size
    have hB54 := hB46.new hk50 (by omega)
    refine SR.q' (r_as (v := .bool false) rfl) <| SR.nil ?_
    refine W.ret ?_
    refine retCT rfl rfl agg27 (hb52) rfl (v := .bool _) rfl ?_
    exact ⟨none, 0, 0, none, 0, 0, eR (eT2 (eA (eC rfl (eC rfl (eC (eI (by unfold spec_StepLibrary; rw [if_pos h47] <;> rfl)) (eC (eI (by unfold spec_StepLibrary; rw [if_pos h47] <;> rfl)) (eC (eI (by unfold spec_StepLibrary; rw [if_pos h47] <;> rfl)) rfl)))))) (eB (by unfold spec_StepLibrary; rw [if_pos h47] <;> rfl))), (SlO.eqv (SlO.nil (e := 48) (enc := encLMap) (fun _ => rfl) (by omega)) (by unfold spec_StepLibrary; rw [if_pos h47] <;> rfl)), (SlO.eqv (SlO.nil (e := 57) (enc := encAway) (fun _ => rfl) (by omega)) (by unfold spec_StepLibrary; rw [if_pos h47] <;> rfl)), (fun b_ h => by cases h), hB54⟩
  · have hq55 : LibOK x := (Classical.not_not.1 (not_or.1 h47).1)
    have hq56 : ¬ ((!(spec_l32Step x s)) = true) := (not_or.1 h47).2
    have hq57 := And.left hq55
    have hq58 := lib_len hq55
    have hq59 := bnot_n hq56
    have hq60 := And.left hq57
    have hq61 := And.right hq57
    refine W.skip ?_
    refine W.seq ?_
    have hm62 := ((hb14).lo hk20).lo hk44
    refine W.regS (SR.q' (r_lda (l := [.slice Ax_Maps nx_Maps cx_Maps, .slice Ax_Away nx_Away cx_Away, .int .i64 x.Bought, .int .i64 x.Dropped, .int .i64 x.Mended]) agg27 rfl (fun _ _ hu => ((hm25).lo hk44).cell hu) rfl) <| SR.q' (r_lda (l := [.int .i64 s.Kind, .int .i64 s.Id, .int .i64 s.Reader, .int .i64 s.Value]) agg66 rfl (fun _ _ hu => (hm62).cell hu) rfl) <| SR.call ent56 (c_spec_l32Make w42 x (((hm26).lo hk44)) (((hm27).lo hk44)) s (by assumption) (by assumption)) rfl ?_)
    rintro e w63 ⟨A65, n66, c67, A69, n70, c71, rfl, hO68, hO72, hd73, hk64⟩
    refine ⟨_, rfl, ?_⟩
    have hz74 := hk64.size
    have hB75 := hB46.lo hk64
    have hl76 := hO68.len
    have hl77 := hO68.rd.bound
    have hl78 := hO72.len
    have hl79 := hO72.rd.bound
    refine SR.q' (r_mv (v := .tuple (List.toArray _)) rfl) <| SR.q' (r_ext (v := .agg (List.toArray _)) rfl rfl) <| SR.q' (r_ext (v := .bool _) rfl rfl) <| SR.alloc (l := [.slice none 0 0, .slice none 0 0, .int .i64 0, .int .i64 0, .int .i64 0]) tz27 rfl ?_
    intro g80 w81 hg82 hk83 hs84 hb85
    have hz86 := hk83.size
    have hB87 := hB75.lo hk83
    have hd88 : ¬ A65 = some ⟨g80, 0, none⟩ := fun e' => by have := (hO68).base_le e'; omega
    have hd89 : ¬ A69 = some ⟨g80, 0, none⟩ := fun e' => by have := (hO72).base_le e'; omega
    refine SR.store (o := 0) (vs := [.slice A65 n66 c67, .slice A69 n70 c71, .int .i64 (((spec_l32Make x s).1).Bought), .int .i64 (((spec_l32Make x s).1).Dropped), .int .i64 (((spec_l32Make x s).1).Mended)]) agg27.2 rfl rfl rfl rfl (hb85) (Nat.le_of_ble_eq_true rfl) rfl ?_
    intro w90 hk91 hs92 hb93
    have hz94 := hk91.size
    have hB95 := hB87.new hk91 (by omega)
    refine SR.q' (r_as (v := .bool _) rfl) <| SR.nil ?_
    refine W.seq ?_
    refine W.seq ?_
    have hm96 := ((((hb22).lo hk44).lo hk64).lo hk83).kn hk91 (by omega)
    have hm97 := ((hO68).lo hk83).kd hk91 hd88
    have hm98 := ((hO72).lo hk83).kd hk91 hd89
    refine W.regS (SR.q' (r_mv (v := .bool _) rfl) <| SR.q' (r_not rfl) <| SR.nil ?_)
    refine W.cond_b rfl (fun h99 => ?_) (fun h99 => ?_)
    · have hq100 := bnot_t h99
      refine W.seq ?_
      refine W.regS (SR.q' (r_build (vs := []) rfl (bld27_)) <| SR.store (o := 0) (vs := [.slice none 0 0, .slice none 0 0, .int .i64 0, .int .i64 0, .int .i64 0]) agg27.2 rfl rfl rfl rfl (hm96) (Nat.le_of_ble_eq_true rfl) rfl ?_)
      intro w101 hk102 hs103 hb104
      have hz105 := hk102.size
      have hB106 := hB95.new hk102 (by omega)
      refine SR.q' (r_as (v := .bool false) rfl) <| SR.nil ?_
      refine W.ret ?_
      refine retCT rfl rfl agg27 (hb104) rfl (v := .bool _) rfl ?_
      exact ⟨none, 0, 0, none, 0, 0, eR (eT2 (eA (eC rfl (eC rfl (eC (eI (by unfold spec_StepLibrary; rw [if_neg h47, if_pos h99] <;> rfl)) (eC (eI (by unfold spec_StepLibrary; rw [if_neg h47, if_pos h99] <;> rfl)) (eC (eI (by unfold spec_StepLibrary; rw [if_neg h47, if_pos h99] <;> rfl)) rfl)))))) (eB (by unfold spec_StepLibrary; rw [if_neg h47, if_pos h99] <;> rfl))), (SlO.eqv (SlO.nil (e := 48) (enc := encLMap) (fun _ => rfl) (by omega)) (by unfold spec_StepLibrary; rw [if_neg h47, if_pos h99] <;> rfl)), (SlO.eqv (SlO.nil (e := 57) (enc := encAway) (fun _ => rfl) (by omega)) (by unfold spec_StepLibrary; rw [if_neg h47, if_pos h99] <;> rfl)), (fun b_ h => by cases h), hB106⟩
    · have hq107 := bnot_f h99
      refine W.skip ?_
      refine W.seq ?_
      refine W.regS (SR.q' (r_lda (l := [.slice A65 n66 c67, .slice A69 n70 c71, .int .i64 (((spec_l32Make x s).1).Bought), .int .i64 (((spec_l32Make x s).1).Dropped), .int .i64 (((spec_l32Make x s).1).Mended)]) agg27 rfl (fun _ _ hu => (hb93).cell hu) rfl) <| SR.store (o := 0) (vs := [.slice A65 n66 c67, .slice A69 n70 c71, .int .i64 (((spec_l32Make x s).1).Bought), .int .i64 (((spec_l32Make x s).1).Dropped), .int .i64 (((spec_l32Make x s).1).Mended)]) agg27.2 rfl rfl rfl rfl (hm96) (Nat.le_of_ble_eq_true rfl) rfl ?_)
      intro w108 hk109 hs110 hb111
      have hz112 := hk109.size
      have hB113 := hB95.new hk109 (by omega)
      refine SR.q' (r_as (v := .bool true) rfl) <| SR.nil ?_
      refine W.ret ?_
      refine retCT rfl rfl agg27 (hb111) rfl (v := .bool _) rfl ?_
      exact ⟨A65, n66, c67, A69, n70, c71, eR (eT2 (eA (eC rfl (eC rfl (eC (eI (by subst hl76 hl78; unfold spec_StepLibrary; rw [if_neg h47, if_neg (ne_true_of_eq_false h99)] <;> rfl)) (eC (eI (by subst hl76 hl78; unfold spec_StepLibrary; rw [if_neg h47, if_neg (ne_true_of_eq_false h99)] <;> rfl)) (eC (eI (by subst hl76 hl78; unfold spec_StepLibrary; rw [if_neg h47, if_neg (ne_true_of_eq_false h99)] <;> rfl)) rfl)))))) (eB (by subst hl76 hl78; unfold spec_StepLibrary; rw [if_neg h47, if_neg (ne_true_of_eq_false h99)] <;> rfl))), (SlO.eqv (((hm97).kn hk109 (by omega)).down (by omega)) (by subst hl76 hl78; unfold spec_StepLibrary; rw [if_neg h47, if_neg (ne_true_of_eq_false h99)] <;> rfl)), (SlO.eqv (((hm98).kn hk109 (by omega)).down (by omega)) (by subst hl76 hl78; unfold spec_StepLibrary; rw [if_neg h47, if_neg (ne_true_of_eq_false h99)] <;> rfl)), hd73, hB113⟩
end Go.Proofs.YtgobbcilgcbkaaaDoor
