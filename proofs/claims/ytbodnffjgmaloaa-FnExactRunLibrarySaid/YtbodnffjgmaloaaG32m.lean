/- Walks, printed by a program of this claim's author. -/
import Derived.Test.YtbodnffjgmaloaaChecked
import Derived.Test.YtbodnffjgmaloaaUa
import Derived.Test.YtbodnffjgmaloaaFs
import Derived.Test.YtbodnffjgmaloaaFq
import Derived.Test.YtbodnffjgmaloaaG32l
namespace Go.Proofs.Ytbodnffjgmaloaa
open Go Go.RowKit Fw
set_option maxRecDepth 10000
set_option linter.unusedVariables false
theorem bld73_0_1_2 (a0 : Int) (a1 : Int) (a2 : Int) : Try.prog.built 73 [(0, .int .i64 a0), (1, .int .i64 a1), (2, .int .i64 a2)] = some (List.toArray [.int .i64 a0, .int .i64 a1, .int .i64 a2]) := by kernel_rfl
theorem ent104 : Ent Try.prog 104 := ent_of Try.func104 (by decide +kernel) rfl
theorem ent105 : Ent Try.prog 105 := ent_of Try.func105 (by decide +kernel) rfl
theorem ent106 : Ent Try.prog 106 := ent_of Try.func106 (by decide +kernel) rfl
theorem ent67 : Ent Try.prog 67 := ent_of Try.func67 (by decide +kernel) rfl
theorem ent68 : Ent Try.prog 68 := ent_of Try.func68 (by decide +kernel) rfl
theorem ent92 : Ent Try.prog 92 := ent_of Try.func92 (by decide +kernel) rfl
theorem ent93 : Ent Try.prog 93 := ent_of Try.func93 (by decide +kernel) rfl
theorem ent94 : Ent Try.prog 94 := ent_of Try.func94 (by decide +kernel) rfl

open Classical in
noncomputable def spec_l32Readers (x : Library) (s : LibraryStep) (i : Int) : Library × Bool :=
  if s.Kind = 2 then ((⟨((goneN x s.Id s.Reader).Maps).set i.toNat ({ (gt ((goneN x s.Id s.Reader).Maps) i.toNat) with Copies := ((gt x.Maps i.toNat).Copies) - 1 }), (goneN x s.Id s.Reader).Away, (goneN x s.Id s.Reader).Bought, (goneN x s.Id s.Reader).Dropped, (goneN x s.Id s.Reader).Mended⟩ : Library), decide (((idxF (isA s.Id s.Reader) x.Away) < 0) ∧ (((gt x.Maps i.toNat).Torn) < ((gt x.Maps i.toNat).Copies)))) else if (idxF (isA s.Id s.Reader) x.Away) < 0 then (x, false) else if s.Kind = 5 then ((goneN (backN x (idxF (isA s.Id s.Reader) x.Away)) s.Id s.Value), decide ((idxF (isA s.Id s.Value) x.Away) < 0)) else ((⟨((backN x (idxF (isA s.Id s.Reader) x.Away)).Maps).set i.toNat ({ ({ (gt ((backN x (idxF (isA s.Id s.Reader) x.Away)).Maps) i.toNat) with Copies := ((gt x.Maps i.toNat).Copies) + 1 }) with Torn := ((gt x.Maps i.toNat).Torn) + s.Value }), (backN x (idxF (isA s.Id s.Reader) x.Away)).Away, (backN x (idxF (isA s.Id s.Reader) x.Away)).Bought, (backN x (idxF (isA s.Id s.Reader) x.Away)).Dropped, (backN x (idxF (isA s.Id s.Reader) x.Away)).Mended⟩ : Library), true)
theorem c_spec_l32Readers (w : World) (x : Library) {Ax_Maps : Option Addr} {nx_Maps cx_Maps Bx_Maps : Nat} (hx_Maps : SlR w Bx_Maps encLMap 3 Ax_Maps nx_Maps cx_Maps x.Maps) {Ax_Away : Option Addr} {nx_Away cx_Away Bx_Away : Nat} (hx_Away : SlR w Bx_Away encAway 2 Ax_Away nx_Away cx_Away x.Away) (s : LibraryStep) (i : Int) (hp0 : LibOK x) (hp1 : 0 ≤ i ∧ i < (nx_Maps : Int)) (hp2 : 0 ≤ s.Value ∧ s.Value ≤ 999) : Calls Try.prog 94 #[.agg (List.toArray [.slice Ax_Maps nx_Maps cx_Maps, .slice Ax_Away nx_Away cx_Away, .int .i64 x.Bought, .int .i64 x.Dropped, .int .i64 x.Mended]), .agg (List.toArray (encLibraryStep s)), .int .i64 i] w fun e w' => ∃ (A1' : Option Addr) (n1' c1' : Nat) (A2' : Option Addr) (n2' c2' : Nat), e = .returned (.tuple (List.toArray [.agg (List.toArray [.slice A1' n1' c1', .slice A2' n2' c2', .int .i64 (((spec_l32Readers x s i).1).Bought), .int .i64 (((spec_l32Readers x s i).1).Dropped), .int .i64 (((spec_l32Readers x s i).1).Mended)]), .bool ((spec_l32Readers x s i).2)])) ∧ SlO w' w.heap.size encLMap 3 73 A1' n1' c1' (((spec_l32Readers x s i).1).Maps) ∧ SlO w' w.heap.size encAway 2 77 A2' n2' c2' (((spec_l32Readers x s i).1).Away) ∧ (∀ b_, A1' = some ⟨b_, 0, none⟩ → ¬ A2' = some ⟨b_, 0, none⟩) ∧ Lo w w' := by
  refine calls_W 92 Try.func94 rfl rfl rfl ?_
  have hbdx_Maps := hx_Maps.bound
  have hlex_Maps := hx_Maps.len
  have hBbx_Maps := hx_Maps.bd
  have hbdx_Away := hx_Away.bound
  have hlex_Away := hx_Away.len
  have hBbx_Away := hx_Away.bd
  have hbdx_Maps := hx_Maps.bound
  have hlex_Maps := hx_Maps.len
  have hBbx_Maps := hx_Maps.bd
  have hbdx_Away := hx_Away.bound
  have hlex_Away := hx_Away.len
  have hBbx_Away := hx_Away.bd
  have hlb := lib_rng hp0
  refine W.seq ?_
  refine W.regS (SR.box (v := .agg (List.toArray _)) (l := [.slice Ax_Maps nx_Maps cx_Maps, .slice Ax_Away nx_Away cx_Away, .int .i64 x.Bought, .int .i64 x.Dropped, .int .i64 x.Mended]) rfl rfl ?_)
  intro g1 w2 hg3 hk4 hs5 hb6
  have hz7 := hk4.size
  have hB8 := (Lo.refl w).lo hk4
  refine SR.box (v := .agg (List.toArray _)) (l := [.int .i64 s.Kind, .int .i64 s.Id, .int .i64 s.Reader, .int .i64 s.Value]) rfl rfl ?_
  intro g9 w10 hg11 hk12 hs13 hb14
  have hz15 := hk12.size
  have hB16 := hB8.lo hk12
  refine SR.alloc (l := [.slice none 0 0, .slice none 0 0, .int .i64 0, .int .i64 0, .int .i64 0]) tz31 rfl ?_
  intro g17 w18 hg19 hk20 hs21 hb22
  have hz23 := hk20.size
  have hB24 := hB16.lo hk20
  refine SR.q' (r_as (v := .bool false) rfl) <| SR.nil ?_
  refine W.seq ?_
  have hm25 := ((hb6).lo hk12).lo hk20
  have hm26 := (((hx_Maps).lo hk4).lo hk12).lo hk20
  have hm27 := (((hx_Away).lo hk4).lo hk12).lo hk20
  refine W.regA (Lo w18) (fun f' w' => ∃ (g41 : Nat), At f' [(2, .int .i64 i), (3, .pointer (some ((⟨g1, 0, none⟩ : Addr)))), (4, .pointer (some ((⟨g9, 0, none⟩ : Addr)))), (6, .pointer (some ((⟨g17, 0, none⟩ : Addr)))), (7, .bool false), (8, .int .i64 (idxF (isA s.Id s.Reader) x.Away)), (9, .pointer (some ((⟨g41, 0, none⟩ : Addr))))] ∧ (Lo w18 w') ∧ (Blk w' g41 73 [.int .i64 ((gt x.Maps i.toNat).Id), .int .i64 ((gt x.Maps i.toNat).Copies), .int .i64 ((gt x.Maps i.toNat).Torn)]) ∧ (w18.heap.size ≤ g41 ∧ g41 < w'.heap.size) ∧ (x.Maps[i.toNat]? = some (gt x.Maps i.toNat)) ∧ (((1 : Int) ≤ (gt x.Maps i.toNat).Id ∧ (gt x.Maps i.toNat).Id ≤ 99) ∧ ((0 : Int) ≤ (gt x.Maps i.toNat).Copies ∧ (gt x.Maps i.toNat).Copies ≤ 99) ∧ ((0 : Int) ≤ (gt x.Maps i.toNat).Torn ∧ (gt x.Maps i.toNat).Torn ≤ (gt x.Maps i.toNat).Copies)) ∧ (idxF (isA s.Id s.Reader) x.Away < (x.Away.length : Int) ∧ -1 ≤ idxF (isA s.Id s.Reader) x.Away)) mo ?_ ?_
  · intro w28 hk29
    have hz30 := hk29.size
    have hB31 := hB24.lo hk29
    refine AH.take 0 rfl (by kernel_rfl) trivial (hk29) (fun w' hw' => r_lda (l := [.slice Ax_Maps nx_Maps cx_Maps, .slice Ax_Away nx_Away cx_Away, .int .i64 x.Bought, .int .i64 x.Dropped, .int .i64 x.Mended]) agg31 rfl (fun _ _ hu => ((hm25).lo hw').cell hu) rfl) <| AH.take 1 rfl (by kernel_rfl) trivial (hk29) (fun w' hw' => r_fa fa49_1 rfl) <| AH.take 2 rfl (by kernel_rfl) trivial (hk29) (fun w' hw' => r_ld (v := .int .i64 s.Id) sca3 rfl ((((hb14).lo hk20).lo hw').cell rfl)) <| AH.take 3 rfl (by kernel_rfl) trivial (hk29) (fun w' hw' => r_fa fa49_2 rfl) <| AH.take 4 rfl (by kernel_rfl) trivial (hk29) (fun w' hw' => r_ld (v := .int .i64 s.Reader) sca3 rfl ((((hb14).lo hk20).lo hw').cell rfl)) <| AH.take 6 rfl (by kernel_rfl) trivial (hk29) (fun w' hw' => r_fa fa31_0 rfl) <| AH.take 7 rfl (by kernel_rfl) trivial (hk29) (fun w' hw' => r_ld (v := .slice Ax_Maps nx_Maps cx_Maps) sca28 rfl (((hm25).lo hw').cell rfl)) <| AH.take 8 rfl (by kernel_rfl) trivial (hk29) (fun w' hw' => r_mv (v := .int .i64 _) rfl) <| ?_
    have hx33 := ((hm26).lo hk29).elem (i := i.toNat) (by omega)
    have hq34 := maps_rng hp0.1.1 hx33
    refine AH.take 9 rfl (by kernel_rfl) trivial (hk29) (fun w' hw' => r_ixR tsl28 (((hm26).lo hw')) rfl rfl (by omega)) <| AH.take 10 rfl (by kernel_rfl) trivial (hk29) (fun w' hw' => r_lda (l := encLMap (gt x.Maps i.toNat)) agg73 rfl (fun _ _ hu => (((hm26).lo hw')).cell hx33 hu) ((((hm26).lo hw')).esz _)) <| AH.br [5, 11] (by kernel_rfl) rfl ⟨Br.mk' rfl trivial ?_, Br.mk' rfl trivial ?_, trivial⟩
    · refine SR.call ent104 (c_spec_l32Away w28 x (((hm26).lo hk29)) (((hm27).lo hk29)) s.Id s.Reader) rfl ?_
      rintro e w35 ⟨rfl, hk36⟩
      refine ⟨_, rfl, ?_⟩
      have hz37 := hk36.size
      have hB38 := hB31.lo hk36
      have hS39 := (hk29).lo hk36
      have hq40 : idxF (isA s.Id s.Reader) x.Away < (x.Away.length : Int) ∧ -1 ≤ idxF (isA s.Id s.Reader) x.Away := idx_lt
      refine SR.nil ⟨hS39, _, rfl, ?_⟩
      refine AH.br [11] (by kernel_rfl) rfl ⟨Br.mk' rfl trivial ?_, trivial⟩
      refine SR.alloc (l := [.int .i64 0, .int .i64 0, .int .i64 0]) tz73 rfl ?_
      intro g41 w42 hg43 hk44 hs45 hb46
      have hz47 := hk44.size
      have hB48 := hB38.lo hk44
      have hS49 := (hS39).lo hk44
      refine SR.nil ⟨hS49, _, rfl, ?_⟩
      refine AH.take 12 rfl (by kernel_rfl) trivial (hS49) (fun w' hw' => r_as (v := .int .i64 _) rfl) <| AH.br [13] (by kernel_rfl) rfl ⟨Br.mk' rfl trivial ?_, trivial⟩
      refine SR.store (o := 0) (vs := [.int .i64 ((gt x.Maps i.toNat).Id), .int .i64 ((gt x.Maps i.toNat).Copies), .int .i64 ((gt x.Maps i.toNat).Torn)]) agg73.2 rfl rfl rfl rfl (hb46) (Nat.le_of_ble_eq_true rfl) rfl ?_
      intro w50 hk51 hs52 hb53
      have hz54 := hk51.size
      have hB55 := hB48.new hk51 (by omega)
      have hS56 := (hS49).new hk51 (by omega)
      refine SR.nil ⟨hS56, _, rfl, ?_⟩
      refine AH.done (by kernel_rfl) ?_
      exact ⟨g41, ⟨rfl, rfl, rfl, rfl, rfl, rfl, rfl, trivial⟩, hS56, (hb53), ⟨by omega, (hb53).lt⟩, hx33, hq34, hq40⟩
    · refine SR.alloc (l := [.int .i64 0, .int .i64 0, .int .i64 0]) tz73 rfl ?_
      intro g59 w60 hg61 hk62 hs63 hb64
      have hz65 := hk62.size
      have hB66 := hB31.lo hk62
      have hS67 := (hk29).lo hk62
      refine SR.nil ⟨hS67, _, rfl, ?_⟩
      refine AH.br [5] (by kernel_rfl) rfl ⟨Br.mk' rfl trivial ?_, trivial⟩
      refine SR.call ent104 (c_spec_l32Away w60 x ((((hm26).lo hk29).lo hk62)) ((((hm27).lo hk29).lo hk62)) s.Id s.Reader) rfl ?_
      rintro e w68 ⟨rfl, hk69⟩
      refine ⟨_, rfl, ?_⟩
      have hz70 := hk69.size
      have hB71 := hB66.lo hk69
      have hS72 := (hS67).lo hk69
      have hq73 : idxF (isA s.Id s.Reader) x.Away < (x.Away.length : Int) ∧ -1 ≤ idxF (isA s.Id s.Reader) x.Away := idx_lt
      refine SR.nil ⟨hS72, _, rfl, ?_⟩
      refine AH.take 12 rfl (by kernel_rfl) trivial (hS72) (fun w' hw' => r_as (v := .int .i64 _) rfl) <| AH.br [13] (by kernel_rfl) rfl ⟨Br.mk' rfl trivial ?_, trivial⟩
      refine SR.store (o := 0) (vs := [.int .i64 ((gt x.Maps i.toNat).Id), .int .i64 ((gt x.Maps i.toNat).Copies), .int .i64 ((gt x.Maps i.toNat).Torn)]) agg73.2 rfl rfl rfl rfl ((hb64).lo hk69) (Nat.le_of_ble_eq_true rfl) rfl ?_
      intro w74 hk75 hs76 hb77
      have hz78 := hk75.size
      have hB79 := hB71.new hk75 (by omega)
      have hS80 := (hS72).new hk75 (by omega)
      refine SR.nil ⟨hS80, _, rfl, ?_⟩
      refine AH.done (by kernel_rfl) ?_
      exact ⟨g59, ⟨rfl, rfl, rfl, rfl, rfl, rfl, rfl, trivial⟩, hS80, (hb77), ⟨by omega, (hb77).lt⟩, hx33, hq34, hq73⟩
  rintro f82 w83 ⟨g41, hat85, hR84, hm57, hg58, hx33, hq34, hq40⟩
  rw [← sets_of_at hat85]
  have hz86 := hR84.size
  have hB87 := hB24.lo hR84
  refine W.seq ?_
  refine W.seq ?_
  have hm88 := ((hb14).lo hk20).lo hR84
  refine W.regS (SR.q' (r_fa fa49_0 rfl) <| SR.q' (r_ld (v := .int .i64 s.Kind) sca3 rfl ((hm88).cell rfl)) <| SR.q' (r_eq rfl rfl) <| SR.nil ?_)
  refine W.cond_d rfl (fun h89 => ?_) (fun h89 => ?_)
  · refine W.seq ?_
    refine W.regS (SR.q' (r_lda (l := [.slice Ax_Maps nx_Maps cx_Maps, .slice Ax_Away nx_Away cx_Away, .int .i64 x.Bought, .int .i64 x.Dropped, .int .i64 x.Mended]) agg31 rfl (fun _ _ hu => ((hm25).lo hR84).cell hu) rfl) <| SR.q' (r_fa fa49_1 rfl) <| SR.q' (r_ld (v := .int .i64 s.Id) sca3 rfl ((hm88).cell rfl)) <| SR.q' (r_fa fa49_2 rfl) <| SR.q' (r_ld (v := .int .i64 s.Reader) sca3 rfl ((hm88).cell rfl)) <| SR.call ent105 (c_spec_l32Gone w83 x (((hm26).lo hR84)) (((hm27).lo hR84)) s.Id s.Reader (by omega) (by omega)) rfl ?_)
    rintro e w90 ⟨A92, n93, c94, A96, n97, c98, rfl, hO95, hO99, hd100, hk91⟩
    refine ⟨_, rfl, ?_⟩
    have hz101 := hk91.size
    have hB102 := hB87.lo hk91
    have hl103 := hO95.len
    have hl104 := hO95.rd.bound
    have hq105 := gone_lenMaps x s.Id s.Reader
    have hl106 := hO99.len
    have hl107 := hO99.rd.bound
    have hq108 := gone_lenAway x s.Id s.Reader
    refine SR.alloc (l := [.slice none 0 0, .slice none 0 0, .int .i64 0, .int .i64 0, .int .i64 0]) tz31 rfl ?_
    intro g109 w110 hg111 hk112 hs113 hb114
    have hz115 := hk112.size
    have hB116 := hB102.lo hk112
    have hd117 : ¬ A92 = some ⟨g109, 0, none⟩ := fun e' => by have := (hO95).base_le e'; omega
    have hd118 : ¬ A96 = some ⟨g109, 0, none⟩ := fun e' => by have := (hO99).base_le e'; omega
    refine SR.store (o := 0) (vs := [.slice A92 n93 c94, .slice A96 n97 c98, .int .i64 ((goneN x s.Id s.Reader).Bought), .int .i64 ((goneN x s.Id s.Reader).Dropped), .int .i64 ((goneN x s.Id s.Reader).Mended)]) agg31.2 rfl rfl rfl rfl (hb114) (Nat.le_of_ble_eq_true rfl) rfl ?_
    intro w119 hk120 hs121 hb122
    have hz123 := hk120.size
    have hB124 := hB116.new hk120 (by omega)
    refine SR.nil ?_
    refine W.seq ?_
    have hm125 := ((((hm25).lo hR84).lo hk91).lo hk112).kp hk120 (fun e' => by have e'' : g1 = g109 := e'; omega)
    have hm126 := ((((hm26).lo hR84).lo hk91).lo hk112).kp hk120 (fun b_ hb e' => by have e'' : b_ = g109 := e'; omega)
    have hm127 := ((((hm27).lo hR84).lo hk91).lo hk112).kp hk120 (fun b_ hb e' => by have e'' : b_ = g109 := e'; omega)
    have hm128 := (((hm88).lo hk91).lo hk112).kp hk120 (fun e' => by have e'' : g9 = g109 := e'; omega)
    have hm129 := ((((hb22).lo hR84).lo hk91).lo hk112).kp hk120 (fun e' => by have e'' : g17 = g109 := e'; omega)
    have hm130 := (((hm57).lo hk91).lo hk112).kp hk120 (fun e' => by have e'' : g41 = g109 := e'; omega)
    have hm131 := ((hO95).lo hk112).kp hk120 (fun b_ hb e' => hd117 (by have e'' : b_ = g109 := e'; rw [← e'']; exact hb))
    have hm132 := ((hO99).lo hk112).kp hk120 (fun b_ hb e' => hd118 (by have e'' : b_ = g109 := e'; rw [← e'']; exact hb))
    refine W.regS (SR.q' (r_fa fa31_0 rfl) <| SR.q' (r_ld (v := .slice A92 n93 c94) sca28 rfl ((hb122).cell rfl)) <| SR.q' (r_mv (v := .int .i64 _) rfl) <| SR.q' (r_fa fa73_1 rfl) <| SR.q' (r_ld (v := .int .i64 ((gt x.Maps i.toNat).Copies)) sca3 rfl ((hm130).cell rfl)) <| SR.q' (r_sub rfl rfl (by omega)) <| ?_)
    have hx134 := ((hm131).rd).elem (i := i.toNat) (by omega)
    have hq135 := maps_rng hp0.1.1 hx134
    refine SR.q' (r_ixR tsl28 ((hm131).rd) rfl rfl (by omega)) <| SR.q' (r_fa fa73_1 rfl) <| SR.storeO (o := 1) (vs := [.int .i64 (((gt x.Maps i.toNat).Copies) - 1)]) (x1 := { (gt ((goneN x s.Id s.Reader).Maps) i.toNat) with Copies := ((gt x.Maps i.toNat).Copies) - 1 }) sca3.2 rfl (add_add _ _ _) rfl rfl (hm131) hx134 rfl (Nat.le_of_ble_eq_true rfl) rfl ?_
    intro w136 hk137 hs138 hO139
    have hz140 := hk137.size
    have hB141 := hB124.step hk137 (fun i_ hi_ e' => by have := ((hm131)).base_le e'; first | omega | (exfalso; omega) | exact e' | exact .inl e' | exact .inr e')
    have hx142 : (((goneN x s.Id s.Reader).Maps).set i.toNat ({ (gt ((goneN x s.Id s.Reader).Maps) i.toNat) with Copies := ((gt x.Maps i.toNat).Copies) - 1 }))[i.toNat]? = some ({ (gt ((goneN x s.Id s.Reader).Maps) i.toNat) with Copies := ((gt x.Maps i.toNat).Copies) - 1 }) := List.getElem?_set_self (List.getElem?_eq_some_iff.1 hx134).1
    refine SR.nil ?_
    refine W.seq ?_
    refine W.regA (Kp (fun b_ => b_ = g17) w136) (fun f' w' => At f' [(2, .int .i64 i), (3, .pointer (some ((⟨g1, 0, none⟩ : Addr)))), (4, .pointer (some ((⟨g9, 0, none⟩ : Addr)))), (6, .pointer (some ((⟨g17, 0, none⟩ : Addr)))), (7, .bool (decide (((idxF (isA s.Id s.Reader) x.Away) < 0) ∧ (((gt x.Maps i.toNat).Torn) < ((gt x.Maps i.toNat).Copies))))), (8, .int .i64 (idxF (isA s.Id s.Reader) x.Away)), (9, .pointer (some ((⟨g41, 0, none⟩ : Addr))))] ∧ (Kp (fun b_ => b_ = g17) w136 w') ∧ (Blk w' g17 31 [.slice A92 n93 c94, .slice A96 n97 c98, .int .i64 ((goneN x s.Id s.Reader).Bought), .int .i64 ((goneN x s.Id s.Reader).Dropped), .int .i64 ((goneN x s.Id s.Reader).Mended)])) mo ?_ ?_
    · intro w153 hk154
      have hz155 := hk154.size
      have hB156 := hB141.lo hk154
      refine AH.take 0 rfl (by kernel_rfl) trivial ((Kp.refl w136 : Kp (fun b_ => b_ = g17) w136 w136).lo hk154) (fun w' hw' => r_lda (l := [.slice A92 n93 c94, .slice A96 n97 c98, .int .i64 ((goneN x s.Id s.Reader).Bought), .int .i64 ((goneN x s.Id s.Reader).Dropped), .int .i64 ((goneN x s.Id s.Reader).Mended)]) agg31 rfl (fun _ _ hu => (((hb122).kp hk137 (fun e' => hd117 e')).kp hw' (fun e' => by have e'' : g109 = g17 := e'; omega)).cell hu) rfl) <| AH.take 1 rfl (by kernel_rfl) trivial ((Kp.refl w136 : Kp (fun b_ => b_ = g17) w136 w136).lo hk154) (fun w' hw' => r_mv (v := .int .i64 _) rfl) <| AH.take 2 rfl (by kernel_rfl) trivial ((Kp.refl w136 : Kp (fun b_ => b_ = g17) w136 w136).lo hk154) (fun w' hw' => r_lt rfl rfl) <| AH.take 3 rfl (by kernel_rfl) trivial ((Kp.refl w136 : Kp (fun b_ => b_ = g17) w136 w136).lo hk154) (fun w' hw' => r_mv (v := .bool _) rfl) <| AH.splitD (fun h157 => ?_) (fun h157 => ?_)
      · refine AH.take 4 rfl (by kernel_rfl) rfl ((Kp.refl w136 : Kp (fun b_ => b_ = g17) w136 w136).lo hk154) (fun w' hw' => r_fa fa73_1 rfl) <| AH.take 5 rfl (by kernel_rfl) rfl ((Kp.refl w136 : Kp (fun b_ => b_ = g17) w136 w136).lo hk154) (fun w' hw' => r_ld (v := .int .i64 ((gt x.Maps i.toNat).Copies)) sca3 rfl ((((hm130).kp hk137 (fun e' => by have := ((hm131)).base_le e'; omega)).kp hw' (fun e' => by have e'' : g41 = g17 := e'; omega)).cell rfl)) <| AH.take 6 rfl (by kernel_rfl) rfl ((Kp.refl w136 : Kp (fun b_ => b_ = g17) w136 w136).lo hk154) (fun w' hw' => r_fa fa73_2 rfl) <| AH.take 7 rfl (by kernel_rfl) rfl ((Kp.refl w136 : Kp (fun b_ => b_ = g17) w136 w136).lo hk154) (fun w' hw' => r_ld (v := .int .i64 ((gt x.Maps i.toNat).Torn)) sca3 rfl ((((hm130).kp hk137 (fun e' => by have := ((hm131)).base_le e'; omega)).kp hw' (fun e' => by have e'' : g41 = g17 := e'; omega)).cell rfl)) <| AH.take 8 rfl (by kernel_rfl) rfl ((Kp.refl w136 : Kp (fun b_ => b_ = g17) w136 w136).lo hk154) (fun w' hw' => r_gt rfl rfl) <| AH.take 9 rfl (by kernel_rfl) trivial ((Kp.refl w136 : Kp (fun b_ => b_ = g17) w136 w136).lo hk154) (fun w' hw' => r_pick true rfl (v := .bool _) rfl) <| AH.br [10] (by kernel_rfl) rfl ⟨Br.mk' rfl trivial ?_, trivial⟩
        refine SR.store (o := 0) (vs := [.slice A92 n93 c94, .slice A96 n97 c98, .int .i64 ((goneN x s.Id s.Reader).Bought), .int .i64 ((goneN x s.Id s.Reader).Dropped), .int .i64 ((goneN x s.Id s.Reader).Mended)]) agg31.2 rfl rfl rfl rfl (((hm129).kp hk137 (fun e' => by have := ((hm131)).base_le e'; omega)).lo hk154) (Nat.le_of_ble_eq_true rfl) rfl ?_
        intro w158 hk159 hs160 hb161
        have hz162 := hk159.size
        have hB163 := hB156.new hk159 (by omega)
        have hS164 := ((Kp.refl w136 : Kp (fun b_ => b_ = g17) w136 w136).lo hk154).step hk159 (fun _ _ e => e)
        refine SR.nil ⟨hS164, _, rfl, ?_⟩
        refine AH.take 11 rfl (by kernel_rfl) trivial (hS164) (fun w' hw' => r_as (v := .bool _) rfl) <| AH.done (by kernel_rfl) ?_
        exact ⟨⟨rfl, rfl, rfl, rfl, (eDD (jat h157)), rfl, rfl, trivial⟩, hS164, (hb161)⟩
      · have hq166 := Int.not_lt.1 h157
        refine AH.s' 4 rfl (by kernel_rfl) rfl ((Kp.refl w136 : Kp (fun b_ => b_ = g17) w136 w136).lo hk154) <| AH.s' 5 rfl (by kernel_rfl) rfl ((Kp.refl w136 : Kp (fun b_ => b_ = g17) w136 w136).lo hk154) <| AH.s' 6 rfl (by kernel_rfl) rfl ((Kp.refl w136 : Kp (fun b_ => b_ = g17) w136 w136).lo hk154) <| AH.s' 7 rfl (by kernel_rfl) rfl ((Kp.refl w136 : Kp (fun b_ => b_ = g17) w136 w136).lo hk154) <| AH.s' 8 rfl (by kernel_rfl) rfl ((Kp.refl w136 : Kp (fun b_ => b_ = g17) w136 w136).lo hk154) <| AH.take 9 rfl (by kernel_rfl) trivial ((Kp.refl w136 : Kp (fun b_ => b_ = g17) w136 w136).lo hk154) (fun w' hw' => r_pick false rfl (v := .bool false) rfl) <| AH.br [10] (by kernel_rfl) rfl ⟨Br.mk' rfl trivial ?_, trivial⟩
        refine SR.store (o := 0) (vs := [.slice A92 n93 c94, .slice A96 n97 c98, .int .i64 ((goneN x s.Id s.Reader).Bought), .int .i64 ((goneN x s.Id s.Reader).Dropped), .int .i64 ((goneN x s.Id s.Reader).Mended)]) agg31.2 rfl rfl rfl rfl (((hm129).kp hk137 (fun e' => by have := ((hm131)).base_le e'; omega)).lo hk154) (Nat.le_of_ble_eq_true rfl) rfl ?_
        intro w167 hk168 hs169 hb170
        have hz171 := hk168.size
        have hB172 := hB156.new hk168 (by omega)
        have hS173 := ((Kp.refl w136 : Kp (fun b_ => b_ = g17) w136 w136).lo hk154).step hk168 (fun _ _ e => e)
        refine SR.nil ⟨hS173, _, rfl, ?_⟩
        refine AH.take 11 rfl (by kernel_rfl) trivial (hS173) (fun w' hw' => r_as (v := .bool _) rfl) <| AH.done (by kernel_rfl) ?_
        exact ⟨⟨rfl, rfl, rfl, rfl, (eDF (jaf h157).2), rfl, rfl, trivial⟩, hS173, (hb170)⟩
    rintro f174 w175 ⟨hat177, hR176, hm165⟩
    rw [← sets_of_at hat177]
    have hz178 := hR176.size
    have hB179 := hB141.new hR176 (by omega)
    refine W.ret ?_
    refine retCT rfl rfl agg31 (hm165) rfl (v := .bool _) rfl ?_
    exact ⟨A92, n93, c94, A96, n97, c98, eR (eT2 (eA (eC rfl (eC rfl (eC (eI (by subst hl103 hl106; unfold spec_l32Readers; rw [if_pos h89] <;> rfl)) (eC (eI (by subst hl103 hl106; unfold spec_l32Readers; rw [if_pos h89] <;> rfl)) (eC (eI (by subst hl103 hl106; unfold spec_l32Readers; rw [if_pos h89] <;> rfl)) rfl)))))) (eB (by subst hl103 hl106; unfold spec_l32Readers; rw [if_pos h89] <;> rfl))), (SlO.eqv (((hO139).kp hR176 (fun b_ hb e' => by have e'' : b_ = g17 := e'; have := (hO139).base_le hb; omega)).down (by omega)) (by subst hl103 hl106; unfold spec_l32Readers; rw [if_pos h89] <;> rfl)), (SlO.eqv ((((hm132).kp hk137 (fun b_ hb e' => hd100 b_ e' hb)).kp hR176 (fun b_ hb e' => by have e'' : b_ = g17 := e'; have := ((hm132).kp hk137 (fun b_ hb e' => hd100 b_ e' hb)).base_le hb; omega)).down (by omega)) (by subst hl103 hl106; unfold spec_l32Readers; rw [if_pos h89] <;> rfl)), hd100, hB179⟩
  · refine W.skip ?_
    refine W.seq ?_
    refine W.seq ?_
    refine W.regS (SR.q' (r_mv (v := .int .i64 _) rfl) <| SR.q' (r_lt rfl rfl) <| SR.nil ?_)
    refine W.cond_d rfl (fun h180 => ?_) (fun h180 => ?_)
    · refine W.seq ?_
      refine W.regS (SR.q' (r_lda (l := [.slice Ax_Maps nx_Maps cx_Maps, .slice Ax_Away nx_Away cx_Away, .int .i64 x.Bought, .int .i64 x.Dropped, .int .i64 x.Mended]) agg31 rfl (fun _ _ hu => ((hm25).lo hR84).cell hu) rfl) <| SR.call ent79 (c_spec_l32Own w83 x (((hm26).lo hR84)) (((hm27).lo hR84)) (by omega) (by omega)) rfl ?_)
      rintro e w181 ⟨A183, n184, c185, A187, n188, c189, rfl, hO186, hO190, hd191, hk182⟩
      refine ⟨_, rfl, ?_⟩
      have hz192 := hk182.size
      have hB193 := hB87.lo hk182
      have hl194 := hO186.len
      have hl195 := hO186.rd.bound
      have hl196 := hO190.len
      have hl197 := hO190.rd.bound
      refine SR.store (o := 0) (vs := [.slice A183 n184 c185, .slice A187 n188 c189, .int .i64 x.Bought, .int .i64 x.Dropped, .int .i64 x.Mended]) agg31.2 rfl rfl rfl rfl (((hb22).lo hR84).lo hk182) (Nat.le_of_ble_eq_true rfl) rfl ?_
      intro w198 hk199 hs200 hb201
      have hz202 := hk199.size
      have hB203 := hB193.new hk199 (by omega)
      refine SR.q' (r_as (v := .bool false) rfl) <| SR.nil ?_
      refine W.ret ?_
      refine retCT rfl rfl agg31 (hb201) rfl (v := .bool _) rfl ?_
      exact ⟨A183, n184, c185, A187, n188, c189, eR (eT2 (eA (eC rfl (eC rfl (eC (eI (by subst hl194 hl196; unfold spec_l32Readers; rw [if_neg h89, if_pos h180] <;> rfl)) (eC (eI (by subst hl194 hl196; unfold spec_l32Readers; rw [if_neg h89, if_pos h180] <;> rfl)) (eC (eI (by subst hl194 hl196; unfold spec_l32Readers; rw [if_neg h89, if_pos h180] <;> rfl)) rfl)))))) (eB (by subst hl194 hl196; unfold spec_l32Readers; rw [if_neg h89, if_pos h180] <;> rfl))), (SlO.eqv (((hO186).kp hk199 (fun b_ hb e' => by have e'' : b_ = g17 := e'; have := (hO186).base_le hb; omega)).down (by omega)) (by subst hl194 hl196; unfold spec_l32Readers; rw [if_neg h89, if_pos h180] <;> rfl)), (SlO.eqv (((hO190).kp hk199 (fun b_ hb e' => by have e'' : b_ = g17 := e'; have := (hO190).base_le hb; omega)).down (by omega)) (by subst hl194 hl196; unfold spec_l32Readers; rw [if_neg h89, if_pos h180] <;> rfl)), hd191, hB203⟩
    · have hq204 := Int.not_lt.1 h180
      refine W.skip ?_
      refine W.seq ?_
      refine W.regS (SR.q' (r_lda (l := [.slice Ax_Maps nx_Maps cx_Maps, .slice Ax_Away nx_Away cx_Away, .int .i64 x.Bought, .int .i64 x.Dropped, .int .i64 x.Mended]) agg31 rfl (fun _ _ hu => ((hm25).lo hR84).cell hu) rfl) <| SR.q' (r_mv (v := .int .i64 _) rfl) <| SR.call ent106 (c_spec_l32Back w83 x (((hm26).lo hR84)) (((hm27).lo hR84)) (idxF (isA s.Id s.Reader) x.Away) (by omega) (by omega) (by omega)) rfl ?_)
      rintro e w205 ⟨A207, n208, c209, A211, n212, c213, rfl, hO210, hO214, hd215, hk206⟩
      refine ⟨_, rfl, ?_⟩
      have hz216 := hk206.size
      have hB217 := hB87.lo hk206
      have hl218 := hO210.len
      have hl219 := hO210.rd.bound
      have hq220 := back_lenMaps x (idxF (isA s.Id s.Reader) x.Away)
      have hl221 := hO214.len
      have hl222 := hO214.rd.bound
      have hq223 := back_lenAway x (idxF (isA s.Id s.Reader) x.Away)
      refine SR.alloc (l := [.slice none 0 0, .slice none 0 0, .int .i64 0, .int .i64 0, .int .i64 0]) tz31 rfl ?_
      intro g224 w225 hg226 hk227 hs228 hb229
      have hz230 := hk227.size
      have hB231 := hB217.lo hk227
      have hd232 : ¬ A207 = some ⟨g224, 0, none⟩ := fun e' => by have := (hO210).base_le e'; omega
      have hd233 : ¬ A211 = some ⟨g224, 0, none⟩ := fun e' => by have := (hO214).base_le e'; omega
      refine SR.store (o := 0) (vs := [.slice A207 n208 c209, .slice A211 n212 c213, .int .i64 ((backN x (idxF (isA s.Id s.Reader) x.Away)).Bought), .int .i64 ((backN x (idxF (isA s.Id s.Reader) x.Away)).Dropped), .int .i64 ((backN x (idxF (isA s.Id s.Reader) x.Away)).Mended)]) agg31.2 rfl rfl rfl rfl (hb229) (Nat.le_of_ble_eq_true rfl) rfl ?_
      intro w234 hk235 hs236 hb237
      have hz238 := hk235.size
      have hB239 := hB231.new hk235 (by omega)
      refine SR.nil ?_
      refine W.seq ?_
      refine W.seq ?_
      have hm240 := ((((hm25).lo hR84).lo hk206).lo hk227).kp hk235 (fun e' => by have e'' : g1 = g224 := e'; omega)
      have hm241 := ((((hm26).lo hR84).lo hk206).lo hk227).kp hk235 (fun b_ hb e' => by have e'' : b_ = g224 := e'; omega)
      have hm242 := ((((hm27).lo hR84).lo hk206).lo hk227).kp hk235 (fun b_ hb e' => by have e'' : b_ = g224 := e'; omega)
      have hm243 := (((hm88).lo hk206).lo hk227).kp hk235 (fun e' => by have e'' : g9 = g224 := e'; omega)
      have hm244 := ((((hb22).lo hR84).lo hk206).lo hk227).kp hk235 (fun e' => by have e'' : g17 = g224 := e'; omega)
      have hm245 := (((hm57).lo hk206).lo hk227).kp hk235 (fun e' => by have e'' : g41 = g224 := e'; omega)
      have hm246 := ((hO210).lo hk227).kp hk235 (fun b_ hb e' => hd232 (by have e'' : b_ = g224 := e'; rw [← e'']; exact hb))
      have hm247 := ((hO214).lo hk227).kp hk235 (fun b_ hb e' => hd233 (by have e'' : b_ = g224 := e'; rw [← e'']; exact hb))
      refine W.regS (SR.q' (r_fa fa49_0 rfl) <| SR.q' (r_ld (v := .int .i64 s.Kind) sca3 rfl ((hm243).cell rfl)) <| SR.q' (r_eq rfl rfl) <| SR.nil ?_)
      refine W.cond_d rfl (fun h248 => ?_) (fun h248 => ?_)
      · refine W.seq ?_
        refine W.regA (Kp (fun b_ => b_ = g17) w234) (fun f' w' => ∃ (A292 : Option Addr), ∃ (n293 : Nat), ∃ (c294 : Nat), ∃ (A296 : Option Addr), ∃ (n297 : Nat), ∃ (c298 : Nat), At f' [(2, .int .i64 i), (4, .pointer (some ((⟨g9, 0, none⟩ : Addr)))), (6, .pointer (some ((⟨g17, 0, none⟩ : Addr)))), (7, .bool (decide ((idxF (isA s.Id s.Value) x.Away) < 0))), (9, .pointer (some ((⟨g41, 0, none⟩ : Addr)))), (11, .pointer (some ((⟨g224, 0, none⟩ : Addr))))] ∧ (Kp (fun b_ => b_ = g17) w234 w') ∧ (SlO w' w234.heap.size encLMap 3 73 A292 n293 c294 ((goneN (backN x (idxF (isA s.Id s.Reader) x.Away)) s.Id s.Value).Maps)) ∧ (SlO w' w234.heap.size encAway 2 77 A296 n297 c298 ((goneN (backN x (idxF (isA s.Id s.Reader) x.Away)) s.Id s.Value).Away)) ∧ (Blk w' g17 31 [.slice A292 n293 c294, .slice A296 n297 c298, .int .i64 ((goneN (backN x (idxF (isA s.Id s.Reader) x.Away)) s.Id s.Value).Bought), .int .i64 ((goneN (backN x (idxF (isA s.Id s.Reader) x.Away)) s.Id s.Value).Dropped), .int .i64 ((goneN (backN x (idxF (isA s.Id s.Reader) x.Away)) s.Id s.Value).Mended)]) ∧ (∀ b_, A292 = some ⟨b_, 0, none⟩ → ¬ A207 = some ⟨b_, 0, none⟩) ∧ (∀ b_, A292 = some ⟨b_, 0, none⟩ → ¬ A211 = some ⟨b_, 0, none⟩) ∧ (∀ b_, A292 = some ⟨b_, 0, none⟩ → ¬ A296 = some ⟨b_, 0, none⟩) ∧ (∀ b_, A296 = some ⟨b_, 0, none⟩ → ¬ A207 = some ⟨b_, 0, none⟩) ∧ (∀ b_, A296 = some ⟨b_, 0, none⟩ → ¬ A211 = some ⟨b_, 0, none⟩) ∧ (n293 = ((goneN (backN x (idxF (isA s.Id s.Reader) x.Away)) s.Id s.Value).Maps).length) ∧ ((n293 : Int) ≤ 9223372036854775807) ∧ (((goneN (backN x (idxF (isA s.Id s.Reader) x.Away)) s.Id s.Value).Maps).length = (backN x (idxF (isA s.Id s.Reader) x.Away)).Maps.length) ∧ (n297 = ((goneN (backN x (idxF (isA s.Id s.Reader) x.Away)) s.Id s.Value).Away).length) ∧ ((n297 : Int) ≤ 9223372036854775807) ∧ (((goneN (backN x (idxF (isA s.Id s.Reader) x.Away)) s.Id s.Value).Away).length = (backN x (idxF (isA s.Id s.Reader) x.Away)).Away.length + 1) ∧ (idxF (isA s.Id s.Value) x.Away < (x.Away.length : Int) ∧ -1 ≤ idxF (isA s.Id s.Value) x.Away)) mo ?_ ?_
        · intro w286 hk287
          have hz288 := hk287.size
          have hB289 := hB239.lo hk287
          refine AH.take 0 rfl (by kernel_rfl) trivial ((Kp.refl w234 : Kp (fun b_ => b_ = g17) w234 w234).lo hk287) (fun w' hw' => r_lda (l := [.slice A207 n208 c209, .slice A211 n212 c213, .int .i64 ((backN x (idxF (isA s.Id s.Reader) x.Away)).Bought), .int .i64 ((backN x (idxF (isA s.Id s.Reader) x.Away)).Dropped), .int .i64 ((backN x (idxF (isA s.Id s.Reader) x.Away)).Mended)]) agg31 rfl (fun _ _ hu => ((hb237).kp hw' (fun e' => by have e'' : g224 = g17 := e'; omega)).cell hu) rfl) <| AH.take 1 rfl (by kernel_rfl) trivial ((Kp.refl w234 : Kp (fun b_ => b_ = g17) w234 w234).lo hk287) (fun w' hw' => r_fa fa49_1 rfl) <| AH.take 2 rfl (by kernel_rfl) trivial ((Kp.refl w234 : Kp (fun b_ => b_ = g17) w234 w234).lo hk287) (fun w' hw' => r_ld (v := .int .i64 s.Id) sca3 rfl (((hm243).kp hw' (fun e' => by have e'' : g9 = g17 := e'; omega)).cell rfl)) <| AH.take 3 rfl (by kernel_rfl) trivial ((Kp.refl w234 : Kp (fun b_ => b_ = g17) w234 w234).lo hk287) (fun w' hw' => r_fa fa49_3 rfl) <| AH.take 4 rfl (by kernel_rfl) trivial ((Kp.refl w234 : Kp (fun b_ => b_ = g17) w234 w234).lo hk287) (fun w' hw' => r_ld (v := .int .i64 s.Value) sca3 rfl (((hm243).kp hw' (fun e' => by have e'' : g9 = g17 := e'; omega)).cell rfl)) <| AH.take 6 rfl (by kernel_rfl) trivial ((Kp.refl w234 : Kp (fun b_ => b_ = g17) w234 w234).lo hk287) (fun w' hw' => r_lda (l := [.slice Ax_Maps nx_Maps cx_Maps, .slice Ax_Away nx_Away cx_Away, .int .i64 x.Bought, .int .i64 x.Dropped, .int .i64 x.Mended]) agg31 rfl (fun _ _ hu => ((hm240).kp hw' (fun e' => by have e'' : g1 = g17 := e'; omega)).cell hu) rfl) <| AH.take 7 rfl (by kernel_rfl) trivial ((Kp.refl w234 : Kp (fun b_ => b_ = g17) w234 w234).lo hk287) (fun w' hw' => r_fa fa49_1 rfl) <| AH.take 8 rfl (by kernel_rfl) trivial ((Kp.refl w234 : Kp (fun b_ => b_ = g17) w234 w234).lo hk287) (fun w' hw' => r_ld (v := .int .i64 s.Id) sca3 rfl (((hm243).kp hw' (fun e' => by have e'' : g9 = g17 := e'; omega)).cell rfl)) <| AH.take 9 rfl (by kernel_rfl) trivial ((Kp.refl w234 : Kp (fun b_ => b_ = g17) w234 w234).lo hk287) (fun w' hw' => r_fa fa49_3 rfl) <| AH.take 10 rfl (by kernel_rfl) trivial ((Kp.refl w234 : Kp (fun b_ => b_ = g17) w234 w234).lo hk287) (fun w' hw' => r_ld (v := .int .i64 s.Value) sca3 rfl (((hm243).kp hw' (fun e' => by have e'' : g9 = g17 := e'; omega)).cell rfl)) <| AH.br [5] (by kernel_rfl) rfl ⟨Br.mk' rfl trivial ?_, trivial⟩
          refine SR.call ent105 (c_spec_l32Gone w286 (backN x (idxF (isA s.Id s.Reader) x.Away)) ((((hm246).lo hk287).rd)) ((((hm247).lo hk287).rd)) s.Id s.Value (by omega) (by omega)) rfl ?_
          rintro e w290 ⟨A292, n293, c294, A296, n297, c298, rfl, hO295, hO299, hd300, hk291⟩
          refine ⟨_, rfl, ?_⟩
          have hz301 := hk291.size
          have hB302 := hB289.lo hk291
          have hS303 := ((Kp.refl w234 : Kp (fun b_ => b_ = g17) w234 w234).lo hk287).lo hk291
          have hl304 := hO295.len
          have hl305 := hO295.rd.bound
          have hq306 := gone_lenMaps (backN x (idxF (isA s.Id s.Reader) x.Away)) s.Id s.Value
          have hl307 := hO299.len
          have hl308 := hO299.rd.bound
          have hq309 := gone_lenAway (backN x (idxF (isA s.Id s.Reader) x.Away)) s.Id s.Value
          refine SR.nil ⟨hS303, _, rfl, ?_⟩
          refine AH.br [11] (by kernel_rfl) rfl ⟨Br.mk' rfl trivial ?_, trivial⟩
          refine SR.call ent104 (c_spec_l32Away w290 x ((((hm241).lo hk287).lo hk291)) ((((hm242).lo hk287).lo hk291)) s.Id s.Value) rfl ?_
          rintro e w310 ⟨rfl, hk311⟩
          refine ⟨_, rfl, ?_⟩
          have hz312 := hk311.size
          have hB313 := hB302.lo hk311
          have hS314 := (hS303).lo hk311
          have hq315 : idxF (isA s.Id s.Value) x.Away < (x.Away.length : Int) ∧ -1 ≤ idxF (isA s.Id s.Value) x.Away := idx_lt
          refine SR.nil ⟨hS314, _, rfl, ?_⟩
          refine AH.take 12 rfl (by kernel_rfl) trivial (hS314) (fun w' hw' => r_lt rfl rfl) <| AH.br [13] (by kernel_rfl) rfl ⟨Br.mk' rfl trivial ?_, trivial⟩
          refine SR.store (o := 0) (vs := [.slice A292 n293 c294, .slice A296 n297 c298, .int .i64 ((goneN (backN x (idxF (isA s.Id s.Reader) x.Away)) s.Id s.Value).Bought), .int .i64 ((goneN (backN x (idxF (isA s.Id s.Reader) x.Away)) s.Id s.Value).Dropped), .int .i64 ((goneN (backN x (idxF (isA s.Id s.Reader) x.Away)) s.Id s.Value).Mended)]) agg31.2 rfl rfl rfl rfl ((((hm244).lo hk287).lo hk291).lo hk311) (Nat.le_of_ble_eq_true rfl) rfl ?_
          intro w316 hk317 hs318 hb319
          have hz320 := hk317.size
          have hB321 := hB313.new hk317 (by omega)
          have hS322 := (hS314).step hk317 (fun _ _ e => e)
          refine SR.nil ⟨hS322, _, rfl, ?_⟩
          refine AH.take 14 rfl (by kernel_rfl) trivial (hS322) (fun w' hw' => r_as (v := .bool _) rfl) <| AH.done (by kernel_rfl) ?_
          exact ⟨A292, n293, c294, A296, n297, c298, ⟨rfl, rfl, rfl, rfl, rfl, rfl, trivial⟩, hS322, ((((hO295).lo hk311).kp hk317 (fun b_ hb e' => by have e'' : b_ = g17 := e'; have := ((hO295).lo hk311).base_le hb; omega)).down (by omega)), ((((hO299).lo hk311).kp hk317 (fun b_ hb e' => by have e'' : b_ = g17 := e'; have := ((hO299).lo hk311).base_le hb; omega)).down (by omega)), (hb319), (fun b_ h h' => by have h1 := (((hO295).lo hk311).kp hk317 (fun b_ hb e' => by have e'' : b_ = g17 := e'; have := ((hO295).lo hk311).base_le hb; omega)).base_le h; have h2 := ((hm246).lo hk287).base_le h'; omega), (fun b_ h h' => by have h1 := (((hO295).lo hk311).kp hk317 (fun b_ hb e' => by have e'' : b_ = g17 := e'; have := ((hO295).lo hk311).base_le hb; omega)).base_le h; have h2 := ((hm247).lo hk287).base_le h'; omega), hd300, (fun b_ h h' => by have h1 := (((hO299).lo hk311).kp hk317 (fun b_ hb e' => by have e'' : b_ = g17 := e'; have := ((hO299).lo hk311).base_le hb; omega)).base_le h; have h2 := ((hm246).lo hk287).base_le h'; omega), (fun b_ h h' => by have h1 := (((hO299).lo hk311).kp hk317 (fun b_ hb e' => by have e'' : b_ = g17 := e'; have := ((hO299).lo hk311).base_le hb; omega)).base_le h; have h2 := ((hm247).lo hk287).base_le h'; omega), hl304, hl305, hq306, hl307, hl308, hq309, hq315⟩
        rintro f331 w332 ⟨A292, n293, c294, A296, n297, c298, hat334, hR333, hm323, hm324, hm325, hd326, hd327, hd328, hd329, hd330, hl304, hl305, hq306, hl307, hl308, hq309, hq315⟩
        rw [← sets_of_at hat334]
        have hz335 := hR333.size
        have hB336 := hB239.new hR333 (by omega)
        refine W.ret ?_
        refine retCT rfl rfl agg31 (hm325) rfl (v := .bool _) rfl ?_
        exact ⟨A292, n293, c294, A296, n297, c298, eR (eT2 (eA (eC rfl (eC rfl (eC (eI (by subst hl304 hl307; unfold spec_l32Readers; rw [if_neg h89, if_neg h180, if_pos h248] <;> rfl)) (eC (eI (by subst hl304 hl307; unfold spec_l32Readers; rw [if_neg h89, if_neg h180, if_pos h248] <;> rfl)) (eC (eI (by subst hl304 hl307; unfold spec_l32Readers; rw [if_neg h89, if_neg h180, if_pos h248] <;> rfl)) rfl)))))) (eB (by subst hl304 hl307; unfold spec_l32Readers; rw [if_neg h89, if_neg h180, if_pos h248] <;> rfl))), (SlO.eqv ((hm323).down (by omega)) (by subst hl304 hl307; unfold spec_l32Readers; rw [if_neg h89, if_neg h180, if_pos h248] <;> rfl)), (SlO.eqv ((hm324).down (by omega)) (by subst hl304 hl307; unfold spec_l32Readers; rw [if_neg h89, if_neg h180, if_pos h248] <;> rfl)), hd328, hB336⟩
      · refine W.skip ?_
        refine W.seq ?_
        refine W.regS (SR.q' (r_fa fa31_0 rfl) <| SR.q' (r_ld (v := .slice A207 n208 c209) sca28 rfl ((hb237).cell rfl)) <| SR.q' (r_mv (v := .int .i64 _) rfl) <| SR.q' (r_fa fa73_1 rfl) <| SR.q' (r_ld (v := .int .i64 ((gt x.Maps i.toNat).Copies)) sca3 rfl ((hm245).cell rfl)) <| SR.q' (r_add rfl rfl (by omega)) <| ?_)
        have hx338 := ((hm246).rd).elem (i := i.toNat) (by omega)
        have hq339 := maps_rng hp0.1.1 hx338
        refine SR.q' (r_ixR tsl28 ((hm246).rd) rfl rfl (by omega)) <| SR.q' (r_fa fa73_1 rfl) <| SR.storeO (o := 1) (vs := [.int .i64 (((gt x.Maps i.toNat).Copies) + 1)]) (x1 := { (gt ((backN x (idxF (isA s.Id s.Reader) x.Away)).Maps) i.toNat) with Copies := ((gt x.Maps i.toNat).Copies) + 1 }) sca3.2 rfl (add_add _ _ _) rfl rfl (hm246) hx338 rfl (Nat.le_of_ble_eq_true rfl) rfl ?_
        intro w340 hk341 hs342 hO343
        have hz344 := hk341.size
        have hB345 := hB239.step hk341 (fun i_ hi_ e' => by have := ((hm246)).base_le e'; first | omega | (exfalso; omega) | exact e' | exact .inl e' | exact .inr e')
        have hx346 : (((backN x (idxF (isA s.Id s.Reader) x.Away)).Maps).set i.toNat ({ (gt ((backN x (idxF (isA s.Id s.Reader) x.Away)).Maps) i.toNat) with Copies := ((gt x.Maps i.toNat).Copies) + 1 }))[i.toNat]? = some ({ (gt ((backN x (idxF (isA s.Id s.Reader) x.Away)).Maps) i.toNat) with Copies := ((gt x.Maps i.toNat).Copies) + 1 }) := List.getElem?_set_self (List.getElem?_eq_some_iff.1 hx338).1
        refine SR.nil ?_
        refine W.seq ?_
        refine W.regS (SR.q' (r_fa fa31_0 rfl) <| SR.q' (r_ld (v := .slice A207 n208 c209) sca28 rfl (((hb237).kp hk341 (fun e' => hd232 e')).cell rfl)) <| SR.q' (r_mv (v := .int .i64 _) rfl) <| SR.q' (r_fa fa73_2 rfl) <| SR.q' (r_ld (v := .int .i64 ((gt x.Maps i.toNat).Torn)) sca3 rfl (((hm245).kp hk341 (fun e' => by have := ((hm246)).base_le e'; omega)).cell rfl)) <| SR.q' (r_fa fa49_3 rfl) <| SR.q' (r_ld (v := .int .i64 s.Value) sca3 rfl (((hm243).kp hk341 (fun e' => by have := ((hm246)).base_le e'; omega)).cell rfl)) <| SR.q' (r_add rfl rfl (by omega)) <| SR.q' (r_ixR tsl28 ((hO343).rd) rfl rfl (by omega)) <| SR.q' (r_fa fa73_2 rfl) <| SR.storeO (o := 2) (vs := [.int .i64 (((gt x.Maps i.toNat).Torn) + s.Value)]) (x1 := { ({ (gt ((backN x (idxF (isA s.Id s.Reader) x.Away)).Maps) i.toNat) with Copies := ((gt x.Maps i.toNat).Copies) + 1 }) with Torn := ((gt x.Maps i.toNat).Torn) + s.Value }) sca3.2 rfl (add_add _ _ _) rfl rfl (hO343) hx346 rfl (Nat.le_of_ble_eq_true rfl) rfl ?_)
        intro w347 hk348 hs349 hO350
        have hz351 := hk348.size
        have hB352 := hB345.step hk348 (fun i_ hi_ e' => by have := ((hO343)).base_le e'; first | omega | (exfalso; omega) | exact e' | exact .inl e' | exact .inr e')
        rw [List.set_set] at hO350
        have hx353 : (((backN x (idxF (isA s.Id s.Reader) x.Away)).Maps).set i.toNat ({ ({ (gt ((backN x (idxF (isA s.Id s.Reader) x.Away)).Maps) i.toNat) with Copies := ((gt x.Maps i.toNat).Copies) + 1 }) with Torn := ((gt x.Maps i.toNat).Torn) + s.Value }))[i.toNat]? = some ({ ({ (gt ((backN x (idxF (isA s.Id s.Reader) x.Away)).Maps) i.toNat) with Copies := ((gt x.Maps i.toNat).Copies) + 1 }) with Torn := ((gt x.Maps i.toNat).Torn) + s.Value }) := List.getElem?_set_self (List.getElem?_eq_some_iff.1 hx338).1
        refine SR.nil ?_
        refine W.seq ?_
        have hm354 := ((hm244).kp hk341 (fun e' => by have := ((hm246)).base_le e'; omega)).kp hk348 (fun e' => by have := ((hO343)).base_le e'; omega)
        have hm355 := ((hb237).kp hk341 (fun e' => hd232 e')).kp hk348 (fun e' => hd232 e')
        have hm356 := ((hm247).kp hk341 (fun b_ hb e' => hd215 b_ e' hb)).kp hk348 (fun b_ hb e' => hd215 b_ e' hb)
        refine W.regS (SR.q' (r_lda (l := [.slice A207 n208 c209, .slice A211 n212 c213, .int .i64 ((backN x (idxF (isA s.Id s.Reader) x.Away)).Bought), .int .i64 ((backN x (idxF (isA s.Id s.Reader) x.Away)).Dropped), .int .i64 ((backN x (idxF (isA s.Id s.Reader) x.Away)).Mended)]) agg31 rfl (fun _ _ hu => (hm355).cell hu) rfl) <| SR.store (o := 0) (vs := [.slice A207 n208 c209, .slice A211 n212 c213, .int .i64 ((backN x (idxF (isA s.Id s.Reader) x.Away)).Bought), .int .i64 ((backN x (idxF (isA s.Id s.Reader) x.Away)).Dropped), .int .i64 ((backN x (idxF (isA s.Id s.Reader) x.Away)).Mended)]) agg31.2 rfl rfl rfl rfl (hm354) (Nat.le_of_ble_eq_true rfl) rfl ?_)
        intro w357 hk358 hs359 hb360
        have hz361 := hk358.size
        have hB362 := hB352.new hk358 (by omega)
        refine SR.q' (r_as (v := .bool true) rfl) <| SR.nil ?_
        refine W.ret ?_
        refine retCT rfl rfl agg31 (hb360) rfl (v := .bool _) rfl ?_
        exact ⟨A207, n208, c209, A211, n212, c213, eR (eT2 (eA (eC rfl (eC rfl (eC (eI (by subst hl218 hl221; unfold spec_l32Readers; rw [if_neg h89, if_neg h180, if_neg h248] <;> rfl)) (eC (eI (by subst hl218 hl221; unfold spec_l32Readers; rw [if_neg h89, if_neg h180, if_neg h248] <;> rfl)) (eC (eI (by subst hl218 hl221; unfold spec_l32Readers; rw [if_neg h89, if_neg h180, if_neg h248] <;> rfl)) rfl)))))) (eB (by subst hl218 hl221; unfold spec_l32Readers; rw [if_neg h89, if_neg h180, if_neg h248] <;> rfl))), (SlO.eqv (((hO350).kp hk358 (fun b_ hb e' => by have e'' : b_ = g17 := e'; have := (hO350).base_le hb; omega)).down (by omega)) (by subst hl218 hl221; unfold spec_l32Readers; rw [if_neg h89, if_neg h180, if_neg h248] <;> rfl)), (SlO.eqv (((hm356).kp hk358 (fun b_ hb e' => by have e'' : b_ = g17 := e'; have := (hm356).base_le hb; omega)).down (by omega)) (by subst hl218 hl221; unfold spec_l32Readers; rw [if_neg h89, if_neg h180, if_neg h248] <;> rfl)), hd215, hB362⟩

open Classical in
noncomputable def spec_l32Make (x : Library) (s : LibraryStep) : Library × Bool :=
  if s.Kind = 1 then ((boughtN x s.Id s.Value), decide (LibOK (boughtN x s.Id s.Value))) else if s.Kind = 4 then ((⟨x.Maps.set ((idxF (hasId s.Id) x.Maps).toNat) ({ (gt x.Maps ((idxF (hasId s.Id) x.Maps).toNat)) with Torn := ((gt x.Maps ((idxF (hasId s.Id) x.Maps).toNat)).Torn) - (min s.Value ((gt x.Maps ((idxF (hasId s.Id) x.Maps).toNat)).Torn)) }), x.Away, x.Bought, x.Dropped, x.Mended + (min s.Value ((gt x.Maps ((idxF (hasId s.Id) x.Maps).toNat)).Torn))⟩ : Library), decide ((s.Value ≤ ((gt x.Maps ((idxF (hasId s.Id) x.Maps).toNat)).Torn)) ∧ (LibOK (⟨x.Maps.set ((idxF (hasId s.Id) x.Maps).toNat) ({ (gt x.Maps ((idxF (hasId s.Id) x.Maps).toNat)) with Torn := ((gt x.Maps ((idxF (hasId s.Id) x.Maps).toNat)).Torn) - (min s.Value ((gt x.Maps ((idxF (hasId s.Id) x.Maps).toNat)).Torn)) }), x.Away, x.Bought, x.Dropped, x.Mended + (min s.Value ((gt x.Maps ((idxF (hasId s.Id) x.Maps).toNat)).Torn))⟩ : Library)))) else if s.Kind = 6 then ((⟨x.Maps.set ((idxF (hasId s.Id) x.Maps).toNat) (⟨(gt x.Maps ((idxF (hasId s.Id) x.Maps).toNat)).Id, ((gt x.Maps ((idxF (hasId s.Id) x.Maps).toNat)).Copies) - (min s.Value ((gt x.Maps ((idxF (hasId s.Id) x.Maps).toNat)).Torn)), ((gt x.Maps ((idxF (hasId s.Id) x.Maps).toNat)).Torn) - (min s.Value ((gt x.Maps ((idxF (hasId s.Id) x.Maps).toNat)).Torn))⟩ : LMap), x.Away, x.Bought, x.Dropped + (min s.Value ((gt x.Maps ((idxF (hasId s.Id) x.Maps).toNat)).Torn)), x.Mended⟩ : Library), decide ((s.Value ≤ ((gt x.Maps ((idxF (hasId s.Id) x.Maps).toNat)).Torn)) ∧ (LibOK (⟨x.Maps.set ((idxF (hasId s.Id) x.Maps).toNat) (⟨(gt x.Maps ((idxF (hasId s.Id) x.Maps).toNat)).Id, ((gt x.Maps ((idxF (hasId s.Id) x.Maps).toNat)).Copies) - (min s.Value ((gt x.Maps ((idxF (hasId s.Id) x.Maps).toNat)).Torn)), ((gt x.Maps ((idxF (hasId s.Id) x.Maps).toNat)).Torn) - (min s.Value ((gt x.Maps ((idxF (hasId s.Id) x.Maps).toNat)).Torn))⟩ : LMap), x.Away, x.Bought, x.Dropped + (min s.Value ((gt x.Maps ((idxF (hasId s.Id) x.Maps).toNat)).Torn)), x.Mended⟩ : Library)))) else if s.Kind = 7 then ((⟨x.Maps.set ((idxF (hasId s.Id) x.Maps).toNat) ({ (gt x.Maps ((idxF (hasId s.Id) x.Maps).toNat)) with Torn := ((gt x.Maps ((idxF (hasId s.Id) x.Maps).toNat)).Torn) + (min s.Value 100) }), x.Away, x.Bought, x.Dropped, x.Mended⟩ : Library), decide ((s.Value ≤ (((gt x.Maps ((idxF (hasId s.Id) x.Maps).toNat)).Copies) - ((gt x.Maps ((idxF (hasId s.Id) x.Maps).toNat)).Torn))) ∧ (LibOK (⟨x.Maps.set ((idxF (hasId s.Id) x.Maps).toNat) ({ (gt x.Maps ((idxF (hasId s.Id) x.Maps).toNat)) with Torn := ((gt x.Maps ((idxF (hasId s.Id) x.Maps).toNat)).Torn) + (min s.Value 100) }), x.Away, x.Bought, x.Dropped, x.Mended⟩ : Library)))) else (((spec_l32Readers x s (idxF (hasId s.Id) x.Maps)).1), decide ((((spec_l32Readers x s (idxF (hasId s.Id) x.Maps)).2) = true) ∧ (LibOK ((spec_l32Readers x s (idxF (hasId s.Id) x.Maps)).1))))
theorem c_spec_l32Make (w : World) (x : Library) {Ax_Maps : Option Addr} {nx_Maps cx_Maps Bx_Maps : Nat} (hx_Maps : SlR w Bx_Maps encLMap 3 Ax_Maps nx_Maps cx_Maps x.Maps) {Ax_Away : Option Addr} {nx_Away cx_Away Bx_Away : Nat} (hx_Away : SlR w Bx_Away encAway 2 Ax_Away nx_Away cx_Away x.Away) (s : LibraryStep) (hp0 : LibOK x) (hp1 : spec_l32Step x s = true) : Calls Try.prog 68 #[.agg (List.toArray [.slice Ax_Maps nx_Maps cx_Maps, .slice Ax_Away nx_Away cx_Away, .int .i64 x.Bought, .int .i64 x.Dropped, .int .i64 x.Mended]), .agg (List.toArray (encLibraryStep s))] w fun e w' => ∃ (A1' : Option Addr) (n1' c1' : Nat) (A2' : Option Addr) (n2' c2' : Nat), e = .returned (.tuple (List.toArray [.agg (List.toArray [.slice A1' n1' c1', .slice A2' n2' c2', .int .i64 (((spec_l32Make x s).1).Bought), .int .i64 (((spec_l32Make x s).1).Dropped), .int .i64 (((spec_l32Make x s).1).Mended)]), .bool ((spec_l32Make x s).2)])) ∧ SlO w' w.heap.size encLMap 3 73 A1' n1' c1' (((spec_l32Make x s).1).Maps) ∧ SlO w' w.heap.size encAway 2 77 A2' n2' c2' (((spec_l32Make x s).1).Away) ∧ (∀ b_, A1' = some ⟨b_, 0, none⟩ → ¬ A2' = some ⟨b_, 0, none⟩) ∧ Lo w w' := by
  refine calls_W 138 Try.func68 rfl rfl rfl ?_
  have hbdx_Maps := hx_Maps.bound
  have hlex_Maps := hx_Maps.len
  have hBbx_Maps := hx_Maps.bd
  have hbdx_Away := hx_Away.bound
  have hlex_Away := hx_Away.len
  have hBbx_Away := hx_Away.bd
  have hbdx_Maps := hx_Maps.bound
  have hlex_Maps := hx_Maps.len
  have hBbx_Maps := hx_Maps.bd
  have hbdx_Away := hx_Away.bound
  have hlex_Away := hx_Away.len
  have hBbx_Away := hx_Away.bd
  have hlb := lib_rng hp0
  have hsr := stepL_rng hp1
  refine W.seq ?_
  refine W.regS (SR.box (v := .agg (List.toArray _)) (l := [.slice Ax_Maps nx_Maps cx_Maps, .slice Ax_Away nx_Away cx_Away, .int .i64 x.Bought, .int .i64 x.Dropped, .int .i64 x.Mended]) rfl rfl ?_)
  intro g1 w2 hg3 hk4 hs5 hb6
  have hz7 := hk4.size
  have hB8 := (Lo.refl w).lo hk4
  refine SR.box (v := .agg (List.toArray _)) (l := [.int .i64 s.Kind, .int .i64 s.Id, .int .i64 s.Reader, .int .i64 s.Value]) rfl rfl ?_
  intro g9 w10 hg11 hk12 hs13 hb14
  have hz15 := hk12.size
  have hB16 := hB8.lo hk12
  refine SR.alloc (l := [.slice none 0 0, .slice none 0 0, .int .i64 0, .int .i64 0, .int .i64 0]) tz31 rfl ?_
  intro g17 w18 hg19 hk20 hs21 hb22
  have hz23 := hk20.size
  have hB24 := hB16.lo hk20
  refine SR.q' (r_as (v := .bool false) rfl) <| SR.nil ?_
  refine W.seq ?_
  refine W.seq ?_
  have hm25 := ((hb6).lo hk12).lo hk20
  have hm26 := (((hx_Maps).lo hk4).lo hk12).lo hk20
  have hm27 := (((hx_Away).lo hk4).lo hk12).lo hk20
  refine W.regS (SR.q' (r_fa fa49_0 rfl) <| SR.q' (r_ld (v := .int .i64 s.Kind) sca3 rfl (((hb14).lo hk20).cell rfl)) <| SR.q' (r_eq rfl rfl) <| SR.nil ?_)
  refine W.cond_d rfl (fun h28 => ?_) (fun h28 => ?_)
  · refine W.seq ?_
    refine W.regS (SR.q' (r_lda (l := [.slice Ax_Maps nx_Maps cx_Maps, .slice Ax_Away nx_Away cx_Away, .int .i64 x.Bought, .int .i64 x.Dropped, .int .i64 x.Mended]) agg31 rfl (fun _ _ hu => (hm25).cell hu) rfl) <| SR.q' (r_fa fa49_1 rfl) <| SR.q' (r_ld (v := .int .i64 s.Id) sca3 rfl (((hb14).lo hk20).cell rfl)) <| SR.q' (r_fa fa49_3 rfl) <| SR.q' (r_ld (v := .int .i64 s.Value) sca3 rfl (((hb14).lo hk20).cell rfl)) <| SR.call ent92 (c_spec_l32Bought w18 x ((hm26)) ((hm27)) s.Id s.Value (by assumption) (by omega)) rfl ?_)
    rintro e w29 ⟨A31, n32, c33, A35, n36, c37, rfl, hO34, hO38, hd39, hk30⟩
    refine ⟨_, rfl, ?_⟩
    have hz40 := hk30.size
    have hB41 := hB24.lo hk30
    have hl42 := hO34.len
    have hl43 := hO34.rd.bound
    have hq44 := bought_lenMaps x s.Id s.Value
    have hl45 := hO38.len
    have hl46 := hO38.rd.bound
    have hq47 := bought_lenAway x s.Id s.Value
    refine SR.alloc (l := [.slice none 0 0, .slice none 0 0, .int .i64 0, .int .i64 0, .int .i64 0]) tz31 rfl ?_
    intro g48 w49 hg50 hk51 hs52 hb53
    have hz54 := hk51.size
    have hB55 := hB41.lo hk51
    have hd56 : ¬ A31 = some ⟨g48, 0, none⟩ := fun e' => by have := (hO34).base_le e'; omega
    have hd57 : ¬ A35 = some ⟨g48, 0, none⟩ := fun e' => by have := (hO38).base_le e'; omega
    refine SR.store (o := 0) (vs := [.slice A31 n32 c33, .slice A35 n36 c37, .int .i64 ((boughtN x s.Id s.Value).Bought), .int .i64 ((boughtN x s.Id s.Value).Dropped), .int .i64 ((boughtN x s.Id s.Value).Mended)]) agg31.2 rfl rfl rfl rfl (hb53) (Nat.le_of_ble_eq_true rfl) rfl ?_
    intro w58 hk59 hs60 hb61
    have hz62 := hk59.size
    have hB63 := hB55.new hk59 (by omega)
    refine SR.nil ?_
    refine W.seq ?_
    have hm64 := (((hm25).lo hk30).lo hk51).kp hk59 (fun e' => by have e'' : g1 = g48 := e'; omega)
    have hm65 := (((hm26).lo hk30).lo hk51).kp hk59 (fun b_ hb e' => by have e'' : b_ = g48 := e'; omega)
    have hm66 := (((hm27).lo hk30).lo hk51).kp hk59 (fun b_ hb e' => by have e'' : b_ = g48 := e'; omega)
    have hm67 := ((((hb14).lo hk20).lo hk30).lo hk51).kp hk59 (fun e' => by have e'' : g9 = g48 := e'; omega)
    have hm68 := (((hb22).lo hk30).lo hk51).kp hk59 (fun e' => by have e'' : g17 = g48 := e'; omega)
    have hm69 := ((hO34).lo hk51).kp hk59 (fun b_ hb e' => hd56 (by have e'' : b_ = g48 := e'; rw [← e'']; exact hb))
    have hm70 := ((hO38).lo hk51).kp hk59 (fun b_ hb e' => hd57 (by have e'' : b_ = g48 := e'; rw [← e'']; exact hb))
    refine W.regA (Kp (fun b_ => b_ = g17) w58) (fun f' w' => At f' [(2, .pointer (some ((⟨g1, 0, none⟩ : Addr)))), (3, .pointer (some ((⟨g9, 0, none⟩ : Addr)))), (4, .pointer (some ((⟨g17, 0, none⟩ : Addr)))), (5, .bool (decide (LibOK (boughtN x s.Id s.Value))))] ∧ (Kp (fun b_ => b_ = g17) w58 w') ∧ (Blk w' g17 31 [.slice A31 n32 c33, .slice A35 n36 c37, .int .i64 ((boughtN x s.Id s.Value).Bought), .int .i64 ((boughtN x s.Id s.Value).Dropped), .int .i64 ((boughtN x s.Id s.Value).Mended)])) mo ?_ ?_
    · intro w87 hk88
      have hz89 := hk88.size
      have hB90 := hB63.lo hk88
      refine AH.take 0 rfl (by kernel_rfl) trivial ((Kp.refl w58 : Kp (fun b_ => b_ = g17) w58 w58).lo hk88) (fun w' hw' => r_lda (l := [.slice A31 n32 c33, .slice A35 n36 c37, .int .i64 ((boughtN x s.Id s.Value).Bought), .int .i64 ((boughtN x s.Id s.Value).Dropped), .int .i64 ((boughtN x s.Id s.Value).Mended)]) agg31 rfl (fun _ _ hu => ((hb61).kp hw' (fun e' => by have e'' : g48 = g17 := e'; omega)).cell hu) rfl) <| AH.take 1 rfl (by kernel_rfl) trivial ((Kp.refl w58 : Kp (fun b_ => b_ = g17) w58 w58).lo hk88) (fun w' hw' => r_lda (l := [.slice A31 n32 c33, .slice A35 n36 c37, .int .i64 ((boughtN x s.Id s.Value).Bought), .int .i64 ((boughtN x s.Id s.Value).Dropped), .int .i64 ((boughtN x s.Id s.Value).Mended)]) agg31 rfl (fun _ _ hu => ((hb61).kp hw' (fun e' => by have e'' : g48 = g17 := e'; omega)).cell hu) rfl) <| AH.br [2] (by kernel_rfl) rfl ⟨Br.mk' rfl trivial ?_, trivial⟩
      refine SR.call ent48 (c_spec_l32Good w87 (boughtN x s.Id s.Value) ((((hm69).lo hk88).rd)) ((((hm70).lo hk88).rd))) rfl ?_
      rintro e w91 ⟨rfl, hk92⟩
      refine ⟨_, rfl, ?_⟩
      have hz93 := hk92.size
      have hB94 := hB90.lo hk92
      have hS95 := ((Kp.refl w58 : Kp (fun b_ => b_ = g17) w58 w58).lo hk88).lo hk92
      refine SR.nil ⟨hS95, _, rfl, ?_⟩
      refine AH.br [3] (by kernel_rfl) rfl ⟨Br.mk' rfl trivial ?_, trivial⟩
      refine SR.store (o := 0) (vs := [.slice A31 n32 c33, .slice A35 n36 c37, .int .i64 ((boughtN x s.Id s.Value).Bought), .int .i64 ((boughtN x s.Id s.Value).Dropped), .int .i64 ((boughtN x s.Id s.Value).Mended)]) agg31.2 rfl rfl rfl rfl (((hm68).lo hk88).lo hk92) (Nat.le_of_ble_eq_true rfl) rfl ?_
      intro w96 hk97 hs98 hb99
      have hz100 := hk97.size
      have hB101 := hB94.new hk97 (by omega)
      have hS102 := (hS95).step hk97 (fun _ _ e => e)
      refine SR.nil ⟨hS102, _, rfl, ?_⟩
      refine AH.take 4 rfl (by kernel_rfl) trivial (hS102) (fun w' hw' => r_as (v := .bool _) rfl) <| AH.done (by kernel_rfl) ?_
      exact ⟨⟨rfl, rfl, rfl, rfl, trivial⟩, hS102, (hb99)⟩
    rintro f104 w105 ⟨hat107, hR106, hm103⟩
    rw [← sets_of_at hat107]
    have hz108 := hR106.size
    have hB109 := hB63.new hR106 (by omega)
    refine W.ret ?_
    refine retCT rfl rfl agg31 (hm103) rfl (v := .bool _) rfl ?_
    exact ⟨A31, n32, c33, A35, n36, c37, eR (eT2 (eA (eC rfl (eC rfl (eC (eI (by subst hl42 hl45; unfold spec_l32Make; rw [if_pos h28] <;> rfl)) (eC (eI (by subst hl42 hl45; unfold spec_l32Make; rw [if_pos h28] <;> rfl)) (eC (eI (by subst hl42 hl45; unfold spec_l32Make; rw [if_pos h28] <;> rfl)) rfl)))))) (eB (by subst hl42 hl45; unfold spec_l32Make; rw [if_pos h28] <;> rfl))), (SlO.eqv (((hm69).kp hR106 (fun b_ hb e' => by have e'' : b_ = g17 := e'; have := (hm69).base_le hb; omega)).down (by omega)) (by subst hl42 hl45; unfold spec_l32Make; rw [if_pos h28] <;> rfl)), (SlO.eqv (((hm70).kp hR106 (fun b_ hb e' => by have e'' : b_ = g17 := e'; have := (hm70).base_le hb; omega)).down (by omega)) (by subst hl42 hl45; unfold spec_l32Make; rw [if_pos h28] <;> rfl)), hd39, hB109⟩
  · refine W.skip ?_
    refine W.seq ?_
    refine W.regA (Lo w18) (fun f' w' => ∃ (A116 : Option Addr), ∃ (n117 : Nat), ∃ (c118 : Nat), ∃ (A120 : Option Addr), ∃ (n121 : Nat), ∃ (c122 : Nat), ∃ (g138 : Nat), At f' [(2, .pointer (some ((⟨g1, 0, none⟩ : Addr)))), (3, .pointer (some ((⟨g9, 0, none⟩ : Addr)))), (4, .pointer (some ((⟨g17, 0, none⟩ : Addr)))), (5, .bool false), (7, .pointer (some ((⟨g138, 0, none⟩ : Addr)))), (8, .int .i64 (idxF (hasId s.Id) x.Maps))] ∧ (Lo w18 w') ∧ (SlO w' w18.heap.size encLMap 3 73 A116 n117 c118 x.Maps) ∧ (SlO w' w18.heap.size encAway 2 77 A120 n121 c122 x.Away) ∧ (Blk w' g138 31 [.slice A116 n117 c118, .slice A120 n121 c122, .int .i64 x.Bought, .int .i64 x.Dropped, .int .i64 x.Mended]) ∧ (w18.heap.size ≤ g138 ∧ g138 < w'.heap.size) ∧ (¬ A116 = some ⟨g138, 0, none⟩) ∧ (¬ A120 = some ⟨g138, 0, none⟩) ∧ (∀ b_, A116 = some ⟨b_, 0, none⟩ → ¬ A120 = some ⟨b_, 0, none⟩) ∧ (n117 = (x.Maps).length) ∧ ((n117 : Int) ≤ 9223372036854775807) ∧ (n121 = (x.Away).length) ∧ ((n121 : Int) ≤ 9223372036854775807) ∧ (idxF (hasId s.Id) x.Maps < (x.Maps.length : Int) ∧ -1 ≤ idxF (hasId s.Id) x.Maps)) mo ?_ ?_
    · intro w110 hk111
      have hz112 := hk111.size
      have hB113 := hB24.lo hk111
      refine AH.take 0 rfl (by kernel_rfl) trivial (hk111) (fun w' hw' => r_lda (l := [.slice Ax_Maps nx_Maps cx_Maps, .slice Ax_Away nx_Away cx_Away, .int .i64 x.Bought, .int .i64 x.Dropped, .int .i64 x.Mended]) agg31 rfl (fun _ _ hu => ((hm25).lo hw').cell hu) rfl) <| AH.take 2 rfl (by kernel_rfl) trivial (hk111) (fun w' hw' => r_lda (l := [.slice Ax_Maps nx_Maps cx_Maps, .slice Ax_Away nx_Away cx_Away, .int .i64 x.Bought, .int .i64 x.Dropped, .int .i64 x.Mended]) agg31 rfl (fun _ _ hu => ((hm25).lo hw').cell hu) rfl) <| AH.take 3 rfl (by kernel_rfl) trivial (hk111) (fun w' hw' => r_fa fa49_1 rfl) <| AH.take 4 rfl (by kernel_rfl) trivial (hk111) (fun w' hw' => r_ld (v := .int .i64 s.Id) sca3 rfl ((((hb14).lo hk20).lo hw').cell rfl)) <| AH.br [1, 6] (by kernel_rfl) rfl ⟨Br.mk' rfl trivial ?_, Br.mk' rfl trivial ?_, trivial⟩
      · refine SR.call ent79 (c_spec_l32Own w110 x (((hm26).lo hk111)) (((hm27).lo hk111)) (by omega) (by omega)) rfl ?_
        rintro e w114 ⟨A116, n117, c118, A120, n121, c122, rfl, hO119, hO123, hd124, hk115⟩
        refine ⟨_, rfl, ?_⟩
        have hz125 := hk115.size
        have hB126 := hB113.lo hk115
        have hS127 := (hk111).lo hk115
        have hl128 := hO119.len
        have hl129 := hO119.rd.bound
        have hl130 := hO123.len
        have hl131 := hO123.rd.bound
        refine SR.nil ⟨hS127, _, rfl, ?_⟩
        refine AH.br [5, 6] (by kernel_rfl) rfl ⟨Br.mk' rfl trivial ?_, Br.mk' rfl trivial ?_, trivial⟩
        · refine SR.call ent64 (c_spec_l32Map w114 x ((((hm26).lo hk111).lo hk115)) ((((hm27).lo hk111).lo hk115)) s.Id) rfl ?_
          rintro e w132 ⟨rfl, hk133⟩
          refine ⟨_, rfl, ?_⟩
          have hz134 := hk133.size
          have hB135 := hB126.lo hk133
          have hS136 := (hS127).lo hk133
          have hq137 : idxF (hasId s.Id) x.Maps < (x.Maps.length : Int) ∧ -1 ≤ idxF (hasId s.Id) x.Maps := idx_lt
          refine SR.nil ⟨hS136, _, rfl, ?_⟩
          refine AH.br [6] (by kernel_rfl) rfl ⟨Br.mk' rfl trivial ?_, trivial⟩
          refine SR.alloc (l := [.slice none 0 0, .slice none 0 0, .int .i64 0, .int .i64 0, .int .i64 0]) tz31 rfl ?_
          intro g138 w139 hg140 hk141 hs142 hb143
          have hz144 := hk141.size
          have hB145 := hB135.lo hk141
          have hS146 := (hS136).lo hk141
          have hd147 : ¬ A116 = some ⟨g138, 0, none⟩ := fun e' => by have := ((hO119).lo hk133).base_le e'; omega
          have hd148 : ¬ A120 = some ⟨g138, 0, none⟩ := fun e' => by have := ((hO123).lo hk133).base_le e'; omega
          refine SR.nil ⟨hS146, _, rfl, ?_⟩
          refine AH.br [7] (by kernel_rfl) rfl ⟨Br.mk' rfl trivial ?_, trivial⟩
          refine SR.store (o := 0) (vs := [.slice A116 n117 c118, .slice A120 n121 c122, .int .i64 x.Bought, .int .i64 x.Dropped, .int .i64 x.Mended]) agg31.2 rfl rfl rfl rfl (hb143) (Nat.le_of_ble_eq_true rfl) rfl ?_
          intro w149 hk150 hs151 hb152
          have hz153 := hk150.size
          have hB154 := hB145.new hk150 (by omega)
          have hS155 := (hS146).new hk150 (by omega)
          refine SR.nil ⟨hS155, _, rfl, ?_⟩
          refine AH.take 8 rfl (by kernel_rfl) trivial (hS155) (fun w' hw' => r_as (v := .int .i64 _) rfl) <| AH.done (by kernel_rfl) ?_
          exact ⟨A116, n117, c118, A120, n121, c122, g138, ⟨rfl, rfl, rfl, rfl, rfl, rfl, trivial⟩, hS155, (((((hO119).lo hk133).lo hk141).kp hk150 (fun b_ hb e' => hd147 (by have e'' : b_ = g138 := e'; rw [← e'']; exact hb))).down (by omega)), (((((hO123).lo hk133).lo hk141).kp hk150 (fun b_ hb e' => hd148 (by have e'' : b_ = g138 := e'; rw [← e'']; exact hb))).down (by omega)), (hb152), ⟨by omega, (hb152).lt⟩, hd147, hd148, hd124, hl128, hl129, hl130, hl131, hq137⟩
        · refine SR.alloc (l := [.slice none 0 0, .slice none 0 0, .int .i64 0, .int .i64 0, .int .i64 0]) tz31 rfl ?_
          intro g163 w164 hg165 hk166 hs167 hb168
          have hz169 := hk166.size
          have hB170 := hB126.lo hk166
          have hS171 := (hS127).lo hk166
          have hd172 : ¬ A116 = some ⟨g163, 0, none⟩ := fun e' => by have := (hO119).base_le e'; omega
          have hd173 : ¬ A120 = some ⟨g163, 0, none⟩ := fun e' => by have := (hO123).base_le e'; omega
          refine SR.nil ⟨hS171, _, rfl, ?_⟩
          refine AH.br [5] (by kernel_rfl) rfl ⟨Br.mk' rfl trivial ?_, trivial⟩
          refine SR.call ent64 (c_spec_l32Map w164 x (((((hm26).lo hk111).lo hk115).lo hk166)) (((((hm27).lo hk111).lo hk115).lo hk166)) s.Id) rfl ?_
          rintro e w174 ⟨rfl, hk175⟩
          refine ⟨_, rfl, ?_⟩
          have hz176 := hk175.size
          have hB177 := hB170.lo hk175
          have hS178 := (hS171).lo hk175
          have hq179 : idxF (hasId s.Id) x.Maps < (x.Maps.length : Int) ∧ -1 ≤ idxF (hasId s.Id) x.Maps := idx_lt
          refine SR.nil ⟨hS178, _, rfl, ?_⟩
          refine AH.br [7] (by kernel_rfl) rfl ⟨Br.mk' rfl trivial ?_, trivial⟩
          refine SR.store (o := 0) (vs := [.slice A116 n117 c118, .slice A120 n121 c122, .int .i64 x.Bought, .int .i64 x.Dropped, .int .i64 x.Mended]) agg31.2 rfl rfl rfl rfl ((hb168).lo hk175) (Nat.le_of_ble_eq_true rfl) rfl ?_
          intro w180 hk181 hs182 hb183
          have hz184 := hk181.size
          have hB185 := hB177.new hk181 (by omega)
          have hS186 := (hS178).new hk181 (by omega)
          refine SR.nil ⟨hS186, _, rfl, ?_⟩
          refine AH.take 8 rfl (by kernel_rfl) trivial (hS186) (fun w' hw' => r_as (v := .int .i64 _) rfl) <| AH.done (by kernel_rfl) ?_
          exact ⟨A116, n117, c118, A120, n121, c122, g163, ⟨rfl, rfl, rfl, rfl, rfl, rfl, trivial⟩, hS186, (((((hO119).lo hk166).lo hk175).kp hk181 (fun b_ hb e' => hd172 (by have e'' : b_ = g163 := e'; rw [← e'']; exact hb))).down (by omega)), (((((hO123).lo hk166).lo hk175).kp hk181 (fun b_ hb e' => hd173 (by have e'' : b_ = g163 := e'; rw [← e'']; exact hb))).down (by omega)), (hb183), ⟨by omega, (hb183).lt⟩, hd172, hd173, hd124, hl128, hl129, hl130, hl131, hq179⟩
      · refine SR.alloc (l := [.slice none 0 0, .slice none 0 0, .int .i64 0, .int .i64 0, .int .i64 0]) tz31 rfl ?_
        intro g191 w192 hg193 hk194 hs195 hb196
        have hz197 := hk194.size
        have hB198 := hB113.lo hk194
        have hS199 := (hk111).lo hk194
        refine SR.nil ⟨hS199, _, rfl, ?_⟩
        refine AH.br [1] (by kernel_rfl) rfl ⟨Br.mk' rfl trivial ?_, trivial⟩
        refine SR.call ent79 (c_spec_l32Own w192 x ((((hm26).lo hk111).lo hk194)) ((((hm27).lo hk111).lo hk194)) (by omega) (by omega)) rfl ?_
        rintro e w200 ⟨A202, n203, c204, A206, n207, c208, rfl, hO205, hO209, hd210, hk201⟩
        refine ⟨_, rfl, ?_⟩
        have hz211 := hk201.size
        have hB212 := hB198.lo hk201
        have hS213 := (hS199).lo hk201
        have hl214 := hO205.len
        have hl215 := hO205.rd.bound
        have hl216 := hO209.len
        have hl217 := hO209.rd.bound
        refine SR.nil ⟨hS213, _, rfl, ?_⟩
        refine AH.br [5] (by kernel_rfl) rfl ⟨Br.mk' rfl trivial ?_, trivial⟩
        refine SR.call ent64 (c_spec_l32Map w200 x (((((hm26).lo hk111).lo hk194).lo hk201)) (((((hm27).lo hk111).lo hk194).lo hk201)) s.Id) rfl ?_
        rintro e w218 ⟨rfl, hk219⟩
        refine ⟨_, rfl, ?_⟩
        have hz220 := hk219.size
        have hB221 := hB212.lo hk219
        have hS222 := (hS213).lo hk219
        have hq223 : idxF (hasId s.Id) x.Maps < (x.Maps.length : Int) ∧ -1 ≤ idxF (hasId s.Id) x.Maps := idx_lt
        refine SR.nil ⟨hS222, _, rfl, ?_⟩
        refine AH.br [7] (by kernel_rfl) rfl ⟨Br.mk' rfl trivial ?_, trivial⟩
        refine SR.store (o := 0) (vs := [.slice A202 n203 c204, .slice A206 n207 c208, .int .i64 x.Bought, .int .i64 x.Dropped, .int .i64 x.Mended]) agg31.2 rfl rfl rfl rfl (((hb196).lo hk201).lo hk219) (Nat.le_of_ble_eq_true rfl) rfl ?_
        intro w224 hk225 hs226 hb227
        have hz228 := hk225.size
        have hB229 := hB221.new hk225 (by omega)
        have hS230 := (hS222).new hk225 (by omega)
        refine SR.nil ⟨hS230, _, rfl, ?_⟩
        refine AH.take 8 rfl (by kernel_rfl) trivial (hS230) (fun w' hw' => r_as (v := .int .i64 _) rfl) <| AH.done (by kernel_rfl) ?_
        exact ⟨A202, n203, c204, A206, n207, c208, g191, ⟨rfl, rfl, rfl, rfl, rfl, rfl, trivial⟩, hS230, ((((hO205).lo hk219).kp hk225 (fun b_ hb e' => by have e'' : b_ = g191 := e'; have := ((hO205).lo hk219).base_le hb; omega)).down (by omega)), ((((hO209).lo hk219).kp hk225 (fun b_ hb e' => by have e'' : b_ = g191 := e'; have := ((hO209).lo hk219).base_le hb; omega)).down (by omega)), (hb227), ⟨by omega, (hb227).lt⟩, (fun e' => by have := (((hO205).lo hk219).kp hk225 (fun b_ hb e' => by have e'' : b_ = g191 := e'; have := ((hO205).lo hk219).base_le hb; omega)).base_le e'; omega), (fun e' => by have := (((hO209).lo hk219).kp hk225 (fun b_ hb e' => by have e'' : b_ = g191 := e'; have := ((hO209).lo hk219).base_le hb; omega)).base_le e'; omega), hd210, hl214, hl215, hl216, hl217, hq223⟩
    rintro f235 w236 ⟨A116, n117, c118, A120, n121, c122, g138, hat238, hR237, hm156, hm157, hm158, hg159, hd160, hd161, hd162, hl128, hl129, hl130, hl131, hq137⟩
    rw [← sets_of_at hat238]
    have hz239 := hR237.size
    have hB240 := hB24.lo hR237
    refine W.seq ?_
    have hm241 := ((hb14).lo hk20).lo hR237
    refine W.regS (SR.q' (r_fa fa31_0 rfl) <| SR.q' (r_ld (v := .slice Ax_Maps nx_Maps cx_Maps) sca28 rfl (((hm25).lo hR237).cell rfl)) <| SR.q' (r_mv (v := .int .i64 _) rfl) <| ?_)
    have hx243 := ((hm26).lo hR237).elem (i := (idxF (hasId s.Id) x.Maps).toNat) (by omega)
    have hq244 := maps_rng hp0.1.1 hx243
    refine SR.q' (r_ixR tsl28 ((hm26).lo hR237) rfl rfl (by omega)) <| SR.q' (r_lda (l := encLMap (gt x.Maps ((idxF (hasId s.Id) x.Maps).toNat))) agg73 rfl (fun _ _ hu => ((hm26).lo hR237).cell hx243 hu) (((hm26).lo hR237).esz _)) <| SR.alloc (l := [.int .i64 0, .int .i64 0, .int .i64 0]) tz73 rfl ?_
    intro g245 w246 hg247 hk248 hs249 hb250
    have hz251 := hk248.size
    have hB252 := hB240.lo hk248
    have hd253 : ¬ A116 = some ⟨g245, 0, none⟩ := fun e' => by have := (hm156).base_le e'; omega
    have hd254 : ¬ A120 = some ⟨g245, 0, none⟩ := fun e' => by have := (hm157).base_le e'; omega
    refine SR.store (o := 0) (vs := [.int .i64 ((gt x.Maps ((idxF (hasId s.Id) x.Maps).toNat)).Id), .int .i64 ((gt x.Maps ((idxF (hasId s.Id) x.Maps).toNat)).Copies), .int .i64 ((gt x.Maps ((idxF (hasId s.Id) x.Maps).toNat)).Torn)]) agg73.2 rfl rfl rfl rfl (hb250) (Nat.le_of_ble_eq_true rfl) rfl ?_
    intro w255 hk256 hs257 hb258
    have hz259 := hk256.size
    have hB260 := hB252.new hk256 (by omega)
    refine SR.q' (r_as (v := .bool true) rfl) <| SR.nil ?_
    refine W.seq ?_
    refine W.seq ?_
    have hm261 := (((hm25).lo hR237).lo hk248).kp hk256 (fun e' => by have e'' : g1 = g245 := e'; omega)
    have hm262 := (((hm26).lo hR237).lo hk248).kp hk256 (fun b_ hb e' => by have e'' : b_ = g245 := e'; omega)
    have hm263 := (((hm27).lo hR237).lo hk248).kp hk256 (fun b_ hb e' => by have e'' : b_ = g245 := e'; omega)
    have hm264 := ((hm241).lo hk248).kp hk256 (fun e' => by have e'' : g9 = g245 := e'; omega)
    have hm265 := (((hb22).lo hR237).lo hk248).kp hk256 (fun e' => by have e'' : g17 = g245 := e'; omega)
    have hm266 := ((hm158).lo hk248).kp hk256 (fun e' => by have e'' : g138 = g245 := e'; omega)
    have hm267 := ((hm156).lo hk248).kp hk256 (fun b_ hb e' => hd253 (by have e'' : b_ = g245 := e'; rw [← e'']; exact hb))
    have hm268 := ((hm157).lo hk248).kp hk256 (fun b_ hb e' => hd254 (by have e'' : b_ = g245 := e'; rw [← e'']; exact hb))
    refine W.regS (SR.q' (r_fa fa49_0 rfl) <| SR.q' (r_ld (v := .int .i64 s.Kind) sca3 rfl ((hm264).cell rfl)) <| SR.nil ?_)
    refine W.block ?_
    refine W.seq ?_
    refine W.regS (SR.q' (r_eq rfl rfl) <| SR.q' (r_as (v := .bool _) rfl) <| SR.nil ?_)
    refine W.cond_d rfl (fun h269 => ?_) (fun h269 => ?_)
    · refine W.seq ?_
      refine W.regS (SR.q' (r_fa fa49_3 rfl) <| SR.q' (r_ld (v := .int .i64 s.Value) sca3 rfl ((hm264).cell rfl)) <| SR.q' (r_fa fa73_2 rfl) <| SR.q' (r_ld (v := .int .i64 ((gt x.Maps ((idxF (hasId s.Id) x.Maps).toNat)).Torn)) sca3 rfl ((hb258).cell rfl)) <| SR.q' (r_le rfl rfl) <| SR.q' (r_as (v := .bool _) rfl) <| SR.nil ?_)
      refine W.seq ?_
      refine W.regA (Kp (fun b_ => A116 = some ⟨b_, 0, none⟩) w255) (fun f' w' => At f' [(2, .pointer (some ((⟨g1, 0, none⟩ : Addr)))), (3, .pointer (some ((⟨g9, 0, none⟩ : Addr)))), (4, .pointer (some ((⟨g17, 0, none⟩ : Addr)))), (5, .bool false), (7, .pointer (some ((⟨g138, 0, none⟩ : Addr)))), (9, .pointer (some ((⟨g245, 0, none⟩ : Addr)))), (10, .bool (decide (s.Value ≤ ((gt x.Maps ((idxF (hasId s.Id) x.Maps).toNat)).Torn))))] ∧ (Kp (fun b_ => A116 = some ⟨b_, 0, none⟩) w255 w') ∧ (SlO w' w18.heap.size encLMap 3 73 A116 n117 c118 (x.Maps.set ((idxF (hasId s.Id) x.Maps).toNat) ({ (gt x.Maps ((idxF (hasId s.Id) x.Maps).toNat)) with Torn := ((gt x.Maps ((idxF (hasId s.Id) x.Maps).toNat)).Torn) - (min s.Value ((gt x.Maps ((idxF (hasId s.Id) x.Maps).toNat)).Torn)) }))) ∧ ((x.Maps.set ((idxF (hasId s.Id) x.Maps).toNat) ({ (gt x.Maps ((idxF (hasId s.Id) x.Maps).toNat)) with Torn := ((gt x.Maps ((idxF (hasId s.Id) x.Maps).toNat)).Torn) - (min s.Value ((gt x.Maps ((idxF (hasId s.Id) x.Maps).toNat)).Torn)) }))[(idxF (hasId s.Id) x.Maps).toNat]? = some ({ (gt x.Maps ((idxF (hasId s.Id) x.Maps).toNat)) with Torn := ((gt x.Maps ((idxF (hasId s.Id) x.Maps).toNat)).Torn) - (min s.Value ((gt x.Maps ((idxF (hasId s.Id) x.Maps).toNat)).Torn)) }))) mo ?_ ?_
      · intro w286 hk287
        have hz288 := hk287.size
        have hB289 := hB260.lo hk287
        refine AH.take 0 rfl (by kernel_rfl) trivial ((Kp.refl w255 : Kp (fun b_ => A116 = some ⟨b_, 0, none⟩) w255 w255).lo hk287) (fun w' hw' => r_fa fa31_0 rfl) <| AH.take 1 rfl (by kernel_rfl) trivial ((Kp.refl w255 : Kp (fun b_ => A116 = some ⟨b_, 0, none⟩) w255 w255).lo hk287) (fun w' hw' => r_ld (v := .slice A116 n117 c118) sca28 rfl (((hm266).kp hw' (fun e' => hd160 e')).cell rfl)) <| AH.take 2 rfl (by kernel_rfl) trivial ((Kp.refl w255 : Kp (fun b_ => A116 = some ⟨b_, 0, none⟩) w255 w255).lo hk287) (fun w' hw' => r_mv (v := .int .i64 _) rfl) <| AH.take 3 rfl (by kernel_rfl) trivial ((Kp.refl w255 : Kp (fun b_ => A116 = some ⟨b_, 0, none⟩) w255 w255).lo hk287) (fun w' hw' => r_fa fa73_2 rfl) <| AH.take 4 rfl (by kernel_rfl) trivial ((Kp.refl w255 : Kp (fun b_ => A116 = some ⟨b_, 0, none⟩) w255 w255).lo hk287) (fun w' hw' => r_ld (v := .int .i64 ((gt x.Maps ((idxF (hasId s.Id) x.Maps).toNat)).Torn)) sca3 rfl (((hb258).kp hw' (fun e' => hd253 e')).cell rfl)) <| AH.take 5 rfl (by kernel_rfl) trivial ((Kp.refl w255 : Kp (fun b_ => A116 = some ⟨b_, 0, none⟩) w255 w255).lo hk287) (fun w' hw' => r_fa fa49_3 rfl) <| AH.take 6 rfl (by kernel_rfl) trivial ((Kp.refl w255 : Kp (fun b_ => A116 = some ⟨b_, 0, none⟩) w255 w255).lo hk287) (fun w' hw' => r_ld (v := .int .i64 s.Value) sca3 rfl (((hm264).kp hw' (fun e' => by have := ((hm267)).base_le e'; omega)).cell rfl)) <| AH.take 7 rfl (by kernel_rfl) trivial ((Kp.refl w255 : Kp (fun b_ => A116 = some ⟨b_, 0, none⟩) w255 w255).lo hk287) (fun w' hw' => r_fa fa73_2 rfl) <| AH.take 8 rfl (by kernel_rfl) trivial ((Kp.refl w255 : Kp (fun b_ => A116 = some ⟨b_, 0, none⟩) w255 w255).lo hk287) (fun w' hw' => r_ld (v := .int .i64 ((gt x.Maps ((idxF (hasId s.Id) x.Maps).toNat)).Torn)) sca3 rfl (((hb258).kp hw' (fun e' => hd253 e')).cell rfl)) <| AH.br [9] (by kernel_rfl) rfl ⟨Br.mk' rfl trivial ?_, trivial⟩
        refine SR.call ent93 (c_spec_l1Least w286 s.Value ((gt x.Maps ((idxF (hasId s.Id) x.Maps).toNat)).Torn)) rfl ?_
        rintro e w290 ⟨rfl, hk291⟩
        refine ⟨_, rfl, ?_⟩
        have hz292 := hk291.size
        have hB293 := hB289.lo hk291
        have hS294 := ((Kp.refl w255 : Kp (fun b_ => A116 = some ⟨b_, 0, none⟩) w255 w255).lo hk287).lo hk291
        refine SR.nil ⟨hS294, _, rfl, ?_⟩
        refine AH.take 10 rfl (by kernel_rfl) trivial (hS294) (fun w' hw' => r_sub rfl rfl (by omega)) <| AH.br [11] (by kernel_rfl) rfl ⟨Br.mk' rfl trivial ?_, trivial⟩
        refine SR.q' (r_ixR tsl28 ((((hm267).lo hk287).lo hk291).rd) rfl rfl (by omega)) ?_
        refine SR.nil ⟨hS294, _, rfl, ?_⟩
        refine AH.take 12 rfl (by kernel_rfl) trivial (hS294) (fun w' hw' => r_fa fa73_2 rfl) <| AH.br [13] (by kernel_rfl) rfl ⟨Br.mk' rfl trivial ?_, trivial⟩
        refine SR.storeO (o := 2) (vs := [.int .i64 (((gt x.Maps ((idxF (hasId s.Id) x.Maps).toNat)).Torn) - (min s.Value ((gt x.Maps ((idxF (hasId s.Id) x.Maps).toNat)).Torn)))]) (x1 := { (gt x.Maps ((idxF (hasId s.Id) x.Maps).toNat)) with Torn := ((gt x.Maps ((idxF (hasId s.Id) x.Maps).toNat)).Torn) - (min s.Value ((gt x.Maps ((idxF (hasId s.Id) x.Maps).toNat)).Torn)) }) sca3.2 rfl (add_add _ _ _) rfl rfl (((hm267).lo hk287).lo hk291) hx243 rfl (Nat.le_of_ble_eq_true rfl) rfl ?_
        intro w295 hk296 hs297 hO298
        have hz299 := hk296.size
        have hB300 := hB293.step hk296 (fun i_ hi_ e' => by have := ((((hm267).lo hk287).lo hk291)).base_le e'; first | omega | (exfalso; omega) | exact e' | exact .inl e' | exact .inr e')
        have hS301 := (hS294).step hk296 (fun _ _ e => e)
        have hx302 : (x.Maps.set ((idxF (hasId s.Id) x.Maps).toNat) ({ (gt x.Maps ((idxF (hasId s.Id) x.Maps).toNat)) with Torn := ((gt x.Maps ((idxF (hasId s.Id) x.Maps).toNat)).Torn) - (min s.Value ((gt x.Maps ((idxF (hasId s.Id) x.Maps).toNat)).Torn)) }))[(idxF (hasId s.Id) x.Maps).toNat]? = some ({ (gt x.Maps ((idxF (hasId s.Id) x.Maps).toNat)) with Torn := ((gt x.Maps ((idxF (hasId s.Id) x.Maps).toNat)).Torn) - (min s.Value ((gt x.Maps ((idxF (hasId s.Id) x.Maps).toNat)).Torn)) }) := List.getElem?_set_self (List.getElem?_eq_some_iff.1 hx243).1
        refine SR.nil ⟨hS301, _, rfl, ?_⟩
        refine AH.done (by kernel_rfl) ?_
        exact ⟨⟨rfl, rfl, rfl, rfl, rfl, rfl, rfl, trivial⟩, hS301, (hO298), hx302⟩
      rintro f304 w305 ⟨hat307, hR306, hm303, hx302⟩
      rw [← sets_of_at hat307]
      have hz308 := hR306.size
      have hB309 := hB260.step hR306 (fun i_ hi_ e' => by have := ((hm267)).base_le e'; first | omega | (exfalso; omega) | exact e' | exact .inl e' | exact .inr e')
      refine W.regA (Kp (fun b_ => b_ = g138) w305) (fun f' w' => At f' [(4, .pointer (some ((⟨g17, 0, none⟩ : Addr)))), (5, .bool false), (7, .pointer (some ((⟨g138, 0, none⟩ : Addr)))), (10, .bool (decide (s.Value ≤ ((gt x.Maps ((idxF (hasId s.Id) x.Maps).toNat)).Torn))))] ∧ (Kp (fun b_ => b_ = g138) w305 w') ∧ (Blk w' g138 31 [.slice A116 n117 c118, .slice A120 n121 c122, .int .i64 x.Bought, .int .i64 x.Dropped, .int .i64 (x.Mended + (min s.Value ((gt x.Maps ((idxF (hasId s.Id) x.Maps).toNat)).Torn)))])) mo ?_ ?_
      · intro w326 hk327
        have hz328 := hk327.size
        have hB329 := hB309.lo hk327
        refine AH.take 0 rfl (by kernel_rfl) trivial ((Kp.refl w305 : Kp (fun b_ => b_ = g138) w305 w305).lo hk327) (fun w' hw' => r_fa fa31_4 rfl) <| AH.take 1 rfl (by kernel_rfl) trivial ((Kp.refl w305 : Kp (fun b_ => b_ = g138) w305 w305).lo hk327) (fun w' hw' => r_ld (v := .int .i64 x.Mended) sca3 rfl ((((hm261).kp hR306 (fun e' => by have := ((hm267)).base_le e'; omega)).kp hw' (fun e' => by have e'' : g1 = g138 := e'; omega)).cell rfl)) <| AH.take 2 rfl (by kernel_rfl) trivial ((Kp.refl w305 : Kp (fun b_ => b_ = g138) w305 w305).lo hk327) (fun w' hw' => r_fa fa49_3 rfl) <| AH.take 3 rfl (by kernel_rfl) trivial ((Kp.refl w305 : Kp (fun b_ => b_ = g138) w305 w305).lo hk327) (fun w' hw' => r_ld (v := .int .i64 s.Value) sca3 rfl ((((hm264).kp hR306 (fun e' => by have := ((hm267)).base_le e'; omega)).kp hw' (fun e' => by have e'' : g9 = g138 := e'; omega)).cell rfl)) <| AH.take 4 rfl (by kernel_rfl) trivial ((Kp.refl w305 : Kp (fun b_ => b_ = g138) w305 w305).lo hk327) (fun w' hw' => r_fa fa73_2 rfl) <| AH.take 5 rfl (by kernel_rfl) trivial ((Kp.refl w305 : Kp (fun b_ => b_ = g138) w305 w305).lo hk327) (fun w' hw' => r_ld (v := .int .i64 ((gt x.Maps ((idxF (hasId s.Id) x.Maps).toNat)).Torn)) sca3 rfl ((((hb258).kp hR306 (fun e' => hd253 e')).kp hw' (fun e' => by have e'' : g245 = g138 := e'; omega)).cell rfl)) <| AH.br [6] (by kernel_rfl) rfl ⟨Br.mk' rfl trivial ?_, trivial⟩
        refine SR.call ent93 (c_spec_l1Least w326 s.Value ((gt x.Maps ((idxF (hasId s.Id) x.Maps).toNat)).Torn)) rfl ?_
        rintro e w330 ⟨rfl, hk331⟩
        refine ⟨_, rfl, ?_⟩
        have hz332 := hk331.size
        have hB333 := hB329.lo hk331
        have hS334 := ((Kp.refl w305 : Kp (fun b_ => b_ = g138) w305 w305).lo hk327).lo hk331
        refine SR.nil ⟨hS334, _, rfl, ?_⟩
        refine AH.take 7 rfl (by kernel_rfl) trivial (hS334) (fun w' hw' => r_add rfl rfl (by omega)) <| AH.take 8 rfl (by kernel_rfl) trivial (hS334) (fun w' hw' => r_fa fa31_4 rfl) <| AH.br [9] (by kernel_rfl) rfl ⟨Br.mk' rfl trivial ?_, trivial⟩
        refine SR.store (o := 4) (vs := [.int .i64 (x.Mended + (min s.Value ((gt x.Maps ((idxF (hasId s.Id) x.Maps).toNat)).Torn)))]) sca3.2 rfl rfl rfl rfl ((((hm266).kp hR306 (fun e' => hd160 e')).lo hk327).lo hk331) (Nat.le_of_ble_eq_true rfl) rfl ?_
        intro w335 hk336 hs337 hb338
        have hz339 := hk336.size
        have hB340 := hB333.new hk336 (by omega)
        have hS341 := (hS334).step hk336 (fun _ _ e => e)
        refine SR.nil ⟨hS341, _, rfl, ?_⟩
        refine AH.done (by kernel_rfl) ?_
        exact ⟨⟨rfl, rfl, rfl, rfl, trivial⟩, hS341, (hb338)⟩
      rintro f343 w344 ⟨hat346, hR345, hm342⟩
      rw [← sets_of_at hat346]
      have hz347 := hR345.size
      have hB348 := hB309.new hR345 (by omega)
      refine W.seq ?_
      have hm349 := ((hm265).kp hR306 (fun e' => by have := ((hm267)).base_le e'; omega)).kp hR345 (fun e' => by have e'' : g17 = g138 := e'; omega)
      have hm350 := ((hm268).kp hR306 (fun b_ hb e' => hd162 b_ e' hb)).kp hR345 (fun b_ hb e' => hd161 (by have e'' : b_ = g138 := e'; rw [← e'']; exact hb))
      refine W.regA (Kp (fun b_ => b_ = g17) w344) (fun f' w' => At f' [(4, .pointer (some ((⟨g17, 0, none⟩ : Addr)))), (5, .bool (decide ((s.Value ≤ ((gt x.Maps ((idxF (hasId s.Id) x.Maps).toNat)).Torn)) ∧ (LibOK (⟨x.Maps.set ((idxF (hasId s.Id) x.Maps).toNat) ({ (gt x.Maps ((idxF (hasId s.Id) x.Maps).toNat)) with Torn := ((gt x.Maps ((idxF (hasId s.Id) x.Maps).toNat)).Torn) - (min s.Value ((gt x.Maps ((idxF (hasId s.Id) x.Maps).toNat)).Torn)) }), x.Away, x.Bought, x.Dropped, x.Mended + (min s.Value ((gt x.Maps ((idxF (hasId s.Id) x.Maps).toNat)).Torn))⟩ : Library)))))] ∧ (Kp (fun b_ => b_ = g17) w344 w') ∧ (Blk w' g17 31 [.slice A116 n117 c118, .slice A120 n121 c122, .int .i64 x.Bought, .int .i64 x.Dropped, .int .i64 (x.Mended + (min s.Value ((gt x.Maps ((idxF (hasId s.Id) x.Maps).toNat)).Torn)))])) mo ?_ ?_
      · intro w366 hk367
        have hz368 := hk367.size
        have hB369 := hB348.lo hk367
        refine AH.take 0 rfl (by kernel_rfl) trivial ((Kp.refl w344 : Kp (fun b_ => b_ = g17) w344 w344).lo hk367) (fun w' hw' => r_lda (l := [.slice A116 n117 c118, .slice A120 n121 c122, .int .i64 x.Bought, .int .i64 x.Dropped, .int .i64 (x.Mended + (min s.Value ((gt x.Maps ((idxF (hasId s.Id) x.Maps).toNat)).Torn)))]) agg31 rfl (fun _ _ hu => ((hm342).kp hw' (fun e' => by have e'' : g138 = g17 := e'; omega)).cell hu) rfl) <| AH.take 1 rfl (by kernel_rfl) trivial ((Kp.refl w344 : Kp (fun b_ => b_ = g17) w344 w344).lo hk367) (fun w' hw' => r_mv (v := .bool _) rfl) <| AH.take 2 rfl (by kernel_rfl) trivial ((Kp.refl w344 : Kp (fun b_ => b_ = g17) w344 w344).lo hk367) (fun w' hw' => r_mv (v := .bool _) rfl) <| AH.splitD (fun h370 => ?_) (fun h370 => ?_)
        · refine AH.take 3 rfl (by kernel_rfl) rfl ((Kp.refl w344 : Kp (fun b_ => b_ = g17) w344 w344).lo hk367) (fun w' hw' => r_lda (l := [.slice A116 n117 c118, .slice A120 n121 c122, .int .i64 x.Bought, .int .i64 x.Dropped, .int .i64 (x.Mended + (min s.Value ((gt x.Maps ((idxF (hasId s.Id) x.Maps).toNat)).Torn)))]) agg31 rfl (fun _ _ hu => ((hm342).kp hw' (fun e' => by have e'' : g138 = g17 := e'; omega)).cell hu) rfl) <| AH.br [4] (by kernel_rfl) rfl ⟨Br.mk' rfl rfl ?_, trivial⟩
          refine SR.gcall rfl ent48 (c_spec_l32Good w366 (⟨x.Maps.set ((idxF (hasId s.Id) x.Maps).toNat) ({ (gt x.Maps ((idxF (hasId s.Id) x.Maps).toNat)) with Torn := ((gt x.Maps ((idxF (hasId s.Id) x.Maps).toNat)).Torn) - (min s.Value ((gt x.Maps ((idxF (hasId s.Id) x.Maps).toNat)).Torn)) }), x.Away, x.Bought, x.Dropped, x.Mended + (min s.Value ((gt x.Maps ((idxF (hasId s.Id) x.Maps).toNat)).Torn))⟩ : Library) (((((hm303).kp hR345 (fun b_ hb e' => hd160 (by have e'' : b_ = g138 := e'; rw [← e'']; exact hb))).lo hk367).rd)) ((((hm350).lo hk367).rd))) rfl ?_
          rintro e w371 ⟨rfl, hk372⟩
          refine ⟨_, rfl, ?_⟩
          have hz373 := hk372.size
          have hB374 := hB369.lo hk372
          have hS375 := ((Kp.refl w344 : Kp (fun b_ => b_ = g17) w344 w344).lo hk367).lo hk372
          refine SR.nil ⟨hS375, _, rfl, ?_⟩
          refine AH.take 5 rfl (by kernel_rfl) trivial (hS375) (fun w' hw' => r_pick true rfl (v := .bool _) rfl) <| AH.br [6] (by kernel_rfl) rfl ⟨Br.mk' rfl trivial ?_, trivial⟩
          refine SR.store (o := 0) (vs := [.slice A116 n117 c118, .slice A120 n121 c122, .int .i64 x.Bought, .int .i64 x.Dropped, .int .i64 (x.Mended + (min s.Value ((gt x.Maps ((idxF (hasId s.Id) x.Maps).toNat)).Torn)))]) agg31.2 rfl rfl rfl rfl (((hm349).lo hk367).lo hk372) (Nat.le_of_ble_eq_true rfl) rfl ?_
          intro w376 hk377 hs378 hb379
          have hz380 := hk377.size
          have hB381 := hB374.new hk377 (by omega)
          have hS382 := (hS375).step hk377 (fun _ _ e => e)
          refine SR.nil ⟨hS382, _, rfl, ?_⟩
          refine AH.take 7 rfl (by kernel_rfl) trivial (hS382) (fun w' hw' => r_as (v := .bool _) rfl) <| AH.done (by kernel_rfl) ?_
          exact ⟨⟨rfl, (eDD (jat h370)), trivial⟩, hS382, (hb379)⟩
        · refine AH.s' 3 rfl (by kernel_rfl) rfl ((Kp.refl w344 : Kp (fun b_ => b_ = g17) w344 w344).lo hk367) <| AH.s' 4 rfl (by kernel_rfl) rfl ((Kp.refl w344 : Kp (fun b_ => b_ = g17) w344 w344).lo hk367) <| AH.take 5 rfl (by kernel_rfl) trivial ((Kp.refl w344 : Kp (fun b_ => b_ = g17) w344 w344).lo hk367) (fun w' hw' => r_pick false rfl (v := .bool false) rfl) <| AH.br [6] (by kernel_rfl) rfl ⟨Br.mk' rfl trivial ?_, trivial⟩
          refine SR.store (o := 0) (vs := [.slice A116 n117 c118, .slice A120 n121 c122, .int .i64 x.Bought, .int .i64 x.Dropped, .int .i64 (x.Mended + (min s.Value ((gt x.Maps ((idxF (hasId s.Id) x.Maps).toNat)).Torn)))]) agg31.2 rfl rfl rfl rfl ((hm349).lo hk367) (Nat.le_of_ble_eq_true rfl) rfl ?_
          intro w384 hk385 hs386 hb387
          have hz388 := hk385.size
          have hB389 := hB369.new hk385 (by omega)
          have hS390 := ((Kp.refl w344 : Kp (fun b_ => b_ = g17) w344 w344).lo hk367).step hk385 (fun _ _ e => e)
          refine SR.nil ⟨hS390, _, rfl, ?_⟩
          refine AH.take 7 rfl (by kernel_rfl) trivial (hS390) (fun w' hw' => r_as (v := .bool _) rfl) <| AH.done (by kernel_rfl) ?_
          exact ⟨⟨rfl, (eDF (jaf h370).2), trivial⟩, hS390, (hb387)⟩
      rintro f391 w392 ⟨hat394, hR393, hm383⟩
      rw [← sets_of_at hat394]
      have hz395 := hR393.size
      have hB396 := hB348.new hR393 (by omega)
      refine W.ret ?_
      refine retCT rfl rfl agg31 (hm383) rfl (v := .bool _) rfl ?_
      exact ⟨A116, n117, c118, A120, n121, c122, eR (eT2 (eA (eC rfl (eC rfl (eC (eI (by subst hl128 hl130; unfold spec_l32Make; rw [if_neg h28, if_pos h269] <;> rfl)) (eC (eI (by subst hl128 hl130; unfold spec_l32Make; rw [if_neg h28, if_pos h269] <;> rfl)) (eC (eI (by subst hl128 hl130; unfold spec_l32Make; rw [if_neg h28, if_pos h269] <;> rfl)) rfl)))))) (eB (by subst hl128 hl130; unfold spec_l32Make; rw [if_neg h28, if_pos h269] <;> rfl))), (SlO.eqv ((((hm303).kp hR345 (fun b_ hb e' => hd160 (by have e'' : b_ = g138 := e'; rw [← e'']; exact hb))).kp hR393 (fun b_ hb e' => by have e'' : b_ = g17 := e'; have := ((hm303).kp hR345 (fun b_ hb e' => hd160 (by have e'' : b_ = g138 := e'; rw [← e'']; exact hb))).base_le hb; omega)).down (by omega)) (by subst hl128 hl130; unfold spec_l32Make; rw [if_neg h28, if_pos h269] <;> rfl)), (SlO.eqv (((hm350).kp hR393 (fun b_ hb e' => by have e'' : b_ = g17 := e'; have := (hm350).base_le hb; omega)).down (by omega)) (by subst hl128 hl130; unfold spec_l32Make; rw [if_neg h28, if_pos h269] <;> rfl)), hd162, hB396⟩
    · refine W.seq ?_
      refine W.regS (SR.q' (r_eq rfl rfl) <| SR.q' (r_as (v := .bool _) rfl) <| SR.nil ?_)
      refine W.cond_d rfl (fun h397 => ?_) (fun h397 => ?_)
      · refine W.seq ?_
        refine W.regS (SR.q' (r_fa fa49_3 rfl) <| SR.q' (r_ld (v := .int .i64 s.Value) sca3 rfl ((hm264).cell rfl)) <| SR.q' (r_fa fa73_2 rfl) <| SR.q' (r_ld (v := .int .i64 ((gt x.Maps ((idxF (hasId s.Id) x.Maps).toNat)).Torn)) sca3 rfl ((hb258).cell rfl)) <| SR.q' (r_le rfl rfl) <| SR.q' (r_as (v := .bool _) rfl) <| SR.nil ?_)
        refine W.seq ?_
        refine W.regA (Kp (fun b_ => A116 = some ⟨b_, 0, none⟩) w255) (fun f' w' => At f' [(2, .pointer (some ((⟨g1, 0, none⟩ : Addr)))), (3, .pointer (some ((⟨g9, 0, none⟩ : Addr)))), (4, .pointer (some ((⟨g17, 0, none⟩ : Addr)))), (5, .bool false), (7, .pointer (some ((⟨g138, 0, none⟩ : Addr)))), (9, .pointer (some ((⟨g245, 0, none⟩ : Addr)))), (10, .bool (decide (s.Value ≤ ((gt x.Maps ((idxF (hasId s.Id) x.Maps).toNat)).Torn))))] ∧ (Kp (fun b_ => A116 = some ⟨b_, 0, none⟩) w255 w') ∧ (SlO w' w18.heap.size encLMap 3 73 A116 n117 c118 (x.Maps.set ((idxF (hasId s.Id) x.Maps).toNat) (⟨(gt x.Maps ((idxF (hasId s.Id) x.Maps).toNat)).Id, ((gt x.Maps ((idxF (hasId s.Id) x.Maps).toNat)).Copies) - (min s.Value ((gt x.Maps ((idxF (hasId s.Id) x.Maps).toNat)).Torn)), ((gt x.Maps ((idxF (hasId s.Id) x.Maps).toNat)).Torn) - (min s.Value ((gt x.Maps ((idxF (hasId s.Id) x.Maps).toNat)).Torn))⟩ : LMap))) ∧ ((x.Maps.set ((idxF (hasId s.Id) x.Maps).toNat) (⟨(gt x.Maps ((idxF (hasId s.Id) x.Maps).toNat)).Id, ((gt x.Maps ((idxF (hasId s.Id) x.Maps).toNat)).Copies) - (min s.Value ((gt x.Maps ((idxF (hasId s.Id) x.Maps).toNat)).Torn)), ((gt x.Maps ((idxF (hasId s.Id) x.Maps).toNat)).Torn) - (min s.Value ((gt x.Maps ((idxF (hasId s.Id) x.Maps).toNat)).Torn))⟩ : LMap))[(idxF (hasId s.Id) x.Maps).toNat]? = some ((⟨(gt x.Maps ((idxF (hasId s.Id) x.Maps).toNat)).Id, ((gt x.Maps ((idxF (hasId s.Id) x.Maps).toNat)).Copies) - (min s.Value ((gt x.Maps ((idxF (hasId s.Id) x.Maps).toNat)).Torn)), ((gt x.Maps ((idxF (hasId s.Id) x.Maps).toNat)).Torn) - (min s.Value ((gt x.Maps ((idxF (hasId s.Id) x.Maps).toNat)).Torn))⟩ : LMap)))) mo ?_ ?_
        · intro w419 hk420
          have hz421 := hk420.size
          have hB422 := hB260.lo hk420
          refine AH.take 0 rfl (by kernel_rfl) trivial ((Kp.refl w255 : Kp (fun b_ => A116 = some ⟨b_, 0, none⟩) w255 w255).lo hk420) (fun w' hw' => r_fa fa31_0 rfl) <| AH.take 1 rfl (by kernel_rfl) trivial ((Kp.refl w255 : Kp (fun b_ => A116 = some ⟨b_, 0, none⟩) w255 w255).lo hk420) (fun w' hw' => r_ld (v := .slice A116 n117 c118) sca28 rfl (((hm266).kp hw' (fun e' => hd160 e')).cell rfl)) <| AH.take 2 rfl (by kernel_rfl) trivial ((Kp.refl w255 : Kp (fun b_ => A116 = some ⟨b_, 0, none⟩) w255 w255).lo hk420) (fun w' hw' => r_mv (v := .int .i64 _) rfl) <| AH.take 3 rfl (by kernel_rfl) trivial ((Kp.refl w255 : Kp (fun b_ => A116 = some ⟨b_, 0, none⟩) w255 w255).lo hk420) (fun w' hw' => r_fa fa73_0 rfl) <| AH.take 4 rfl (by kernel_rfl) trivial ((Kp.refl w255 : Kp (fun b_ => A116 = some ⟨b_, 0, none⟩) w255 w255).lo hk420) (fun w' hw' => r_ld (v := .int .i64 ((gt x.Maps ((idxF (hasId s.Id) x.Maps).toNat)).Id)) sca3 rfl (((hb258).kp hw' (fun e' => hd253 e')).cell rfl)) <| AH.take 5 rfl (by kernel_rfl) trivial ((Kp.refl w255 : Kp (fun b_ => A116 = some ⟨b_, 0, none⟩) w255 w255).lo hk420) (fun w' hw' => r_fa fa73_1 rfl) <| AH.take 6 rfl (by kernel_rfl) trivial ((Kp.refl w255 : Kp (fun b_ => A116 = some ⟨b_, 0, none⟩) w255 w255).lo hk420) (fun w' hw' => r_ld (v := .int .i64 ((gt x.Maps ((idxF (hasId s.Id) x.Maps).toNat)).Copies)) sca3 rfl (((hb258).kp hw' (fun e' => hd253 e')).cell rfl)) <| AH.take 7 rfl (by kernel_rfl) trivial ((Kp.refl w255 : Kp (fun b_ => A116 = some ⟨b_, 0, none⟩) w255 w255).lo hk420) (fun w' hw' => r_fa fa49_3 rfl) <| AH.take 8 rfl (by kernel_rfl) trivial ((Kp.refl w255 : Kp (fun b_ => A116 = some ⟨b_, 0, none⟩) w255 w255).lo hk420) (fun w' hw' => r_ld (v := .int .i64 s.Value) sca3 rfl (((hm264).kp hw' (fun e' => by have := ((hm267)).base_le e'; omega)).cell rfl)) <| AH.take 9 rfl (by kernel_rfl) trivial ((Kp.refl w255 : Kp (fun b_ => A116 = some ⟨b_, 0, none⟩) w255 w255).lo hk420) (fun w' hw' => r_fa fa73_2 rfl) <| AH.take 10 rfl (by kernel_rfl) trivial ((Kp.refl w255 : Kp (fun b_ => A116 = some ⟨b_, 0, none⟩) w255 w255).lo hk420) (fun w' hw' => r_ld (v := .int .i64 ((gt x.Maps ((idxF (hasId s.Id) x.Maps).toNat)).Torn)) sca3 rfl (((hb258).kp hw' (fun e' => hd253 e')).cell rfl)) <| AH.take 13 rfl (by kernel_rfl) trivial ((Kp.refl w255 : Kp (fun b_ => A116 = some ⟨b_, 0, none⟩) w255 w255).lo hk420) (fun w' hw' => r_fa fa73_2 rfl) <| AH.take 14 rfl (by kernel_rfl) trivial ((Kp.refl w255 : Kp (fun b_ => A116 = some ⟨b_, 0, none⟩) w255 w255).lo hk420) (fun w' hw' => r_ld (v := .int .i64 ((gt x.Maps ((idxF (hasId s.Id) x.Maps).toNat)).Torn)) sca3 rfl (((hb258).kp hw' (fun e' => hd253 e')).cell rfl)) <| AH.take 15 rfl (by kernel_rfl) trivial ((Kp.refl w255 : Kp (fun b_ => A116 = some ⟨b_, 0, none⟩) w255 w255).lo hk420) (fun w' hw' => r_fa fa49_3 rfl) <| AH.take 16 rfl (by kernel_rfl) trivial ((Kp.refl w255 : Kp (fun b_ => A116 = some ⟨b_, 0, none⟩) w255 w255).lo hk420) (fun w' hw' => r_ld (v := .int .i64 s.Value) sca3 rfl (((hm264).kp hw' (fun e' => by have := ((hm267)).base_le e'; omega)).cell rfl)) <| AH.take 17 rfl (by kernel_rfl) trivial ((Kp.refl w255 : Kp (fun b_ => A116 = some ⟨b_, 0, none⟩) w255 w255).lo hk420) (fun w' hw' => r_fa fa73_2 rfl) <| AH.take 18 rfl (by kernel_rfl) trivial ((Kp.refl w255 : Kp (fun b_ => A116 = some ⟨b_, 0, none⟩) w255 w255).lo hk420) (fun w' hw' => r_ld (v := .int .i64 ((gt x.Maps ((idxF (hasId s.Id) x.Maps).toNat)).Torn)) sca3 rfl (((hb258).kp hw' (fun e' => hd253 e')).cell rfl)) <| AH.br [11] (by kernel_rfl) rfl ⟨Br.mk' rfl trivial ?_, trivial⟩
          refine SR.call ent93 (c_spec_l1Least w419 s.Value ((gt x.Maps ((idxF (hasId s.Id) x.Maps).toNat)).Torn)) rfl ?_
          rintro e w423 ⟨rfl, hk424⟩
          refine ⟨_, rfl, ?_⟩
          have hz425 := hk424.size
          have hB426 := hB422.lo hk424
          have hS427 := ((Kp.refl w255 : Kp (fun b_ => A116 = some ⟨b_, 0, none⟩) w255 w255).lo hk420).lo hk424
          refine SR.nil ⟨hS427, _, rfl, ?_⟩
          refine AH.take 12 rfl (by kernel_rfl) trivial (hS427) (fun w' hw' => r_sub rfl rfl (by omega)) <| AH.br [19] (by kernel_rfl) rfl ⟨Br.mk' rfl trivial ?_, trivial⟩
          refine SR.call ent93 (c_spec_l1Least w423 s.Value ((gt x.Maps ((idxF (hasId s.Id) x.Maps).toNat)).Torn)) rfl ?_
          rintro e w428 ⟨rfl, hk429⟩
          refine ⟨_, rfl, ?_⟩
          have hz430 := hk429.size
          have hB431 := hB426.lo hk429
          have hS432 := (hS427).lo hk429
          refine SR.nil ⟨hS432, _, rfl, ?_⟩
          refine AH.take 20 rfl (by kernel_rfl) trivial (hS432) (fun w' hw' => r_sub rfl rfl (by omega)) <| AH.take 21 rfl (by kernel_rfl) trivial (hS432) (fun w' hw' => r_build (vs := [(0, .int .i64 ((gt x.Maps ((idxF (hasId s.Id) x.Maps).toNat)).Id)), (1, .int .i64 (((gt x.Maps ((idxF (hasId s.Id) x.Maps).toNat)).Copies) - (min s.Value ((gt x.Maps ((idxF (hasId s.Id) x.Maps).toNat)).Torn)))), (2, .int .i64 (((gt x.Maps ((idxF (hasId s.Id) x.Maps).toNat)).Torn) - (min s.Value ((gt x.Maps ((idxF (hasId s.Id) x.Maps).toNat)).Torn))))]) rfl (bld73_0_1_2 _ _ _)) <| AH.br [22] (by kernel_rfl) rfl ⟨Br.mk' rfl trivial ?_, trivial⟩
          refine SR.q' (r_ixR tsl28 (((((hm267).lo hk420).lo hk424).lo hk429).rd) rfl rfl (by omega)) ?_
          refine SR.nil ⟨hS432, _, rfl, ?_⟩
          refine AH.br [23] (by kernel_rfl) rfl ⟨Br.mk' rfl trivial ?_, trivial⟩
          refine SR.storeO (o := 0) (vs := [.int .i64 ((gt x.Maps ((idxF (hasId s.Id) x.Maps).toNat)).Id), .int .i64 (((gt x.Maps ((idxF (hasId s.Id) x.Maps).toNat)).Copies) - (min s.Value ((gt x.Maps ((idxF (hasId s.Id) x.Maps).toNat)).Torn))), .int .i64 (((gt x.Maps ((idxF (hasId s.Id) x.Maps).toNat)).Torn) - (min s.Value ((gt x.Maps ((idxF (hasId s.Id) x.Maps).toNat)).Torn)))]) (x1 := (⟨(gt x.Maps ((idxF (hasId s.Id) x.Maps).toNat)).Id, ((gt x.Maps ((idxF (hasId s.Id) x.Maps).toNat)).Copies) - (min s.Value ((gt x.Maps ((idxF (hasId s.Id) x.Maps).toNat)).Torn)), ((gt x.Maps ((idxF (hasId s.Id) x.Maps).toNat)).Torn) - (min s.Value ((gt x.Maps ((idxF (hasId s.Id) x.Maps).toNat)).Torn))⟩ : LMap)) agg73.2 rfl rfl rfl rfl ((((hm267).lo hk420).lo hk424).lo hk429) hx243 rfl (Nat.le_of_ble_eq_true rfl) rfl ?_
          intro w433 hk434 hs435 hO436
          have hz437 := hk434.size
          have hB438 := hB431.step hk434 (fun i_ hi_ e' => by have := (((((hm267).lo hk420).lo hk424).lo hk429)).base_le e'; first | omega | (exfalso; omega) | exact e' | exact .inl e' | exact .inr e')
          have hS439 := (hS432).step hk434 (fun _ _ e => e)
          have hx440 : (x.Maps.set ((idxF (hasId s.Id) x.Maps).toNat) (⟨(gt x.Maps ((idxF (hasId s.Id) x.Maps).toNat)).Id, ((gt x.Maps ((idxF (hasId s.Id) x.Maps).toNat)).Copies) - (min s.Value ((gt x.Maps ((idxF (hasId s.Id) x.Maps).toNat)).Torn)), ((gt x.Maps ((idxF (hasId s.Id) x.Maps).toNat)).Torn) - (min s.Value ((gt x.Maps ((idxF (hasId s.Id) x.Maps).toNat)).Torn))⟩ : LMap))[(idxF (hasId s.Id) x.Maps).toNat]? = some ((⟨(gt x.Maps ((idxF (hasId s.Id) x.Maps).toNat)).Id, ((gt x.Maps ((idxF (hasId s.Id) x.Maps).toNat)).Copies) - (min s.Value ((gt x.Maps ((idxF (hasId s.Id) x.Maps).toNat)).Torn)), ((gt x.Maps ((idxF (hasId s.Id) x.Maps).toNat)).Torn) - (min s.Value ((gt x.Maps ((idxF (hasId s.Id) x.Maps).toNat)).Torn))⟩ : LMap)) := List.getElem?_set_self (List.getElem?_eq_some_iff.1 hx243).1
          refine SR.nil ⟨hS439, _, rfl, ?_⟩
          refine AH.done (by kernel_rfl) ?_
          exact ⟨⟨rfl, rfl, rfl, rfl, rfl, rfl, rfl, trivial⟩, hS439, (hO436), hx440⟩
        rintro f442 w443 ⟨hat445, hR444, hm441, hx440⟩
        rw [← sets_of_at hat445]
        have hz446 := hR444.size
        have hB447 := hB260.step hR444 (fun i_ hi_ e' => by have := ((hm267)).base_le e'; first | omega | (exfalso; omega) | exact e' | exact .inl e' | exact .inr e')
        refine W.regA (Kp (fun b_ => b_ = g138) w443) (fun f' w' => At f' [(4, .pointer (some ((⟨g17, 0, none⟩ : Addr)))), (5, .bool false), (7, .pointer (some ((⟨g138, 0, none⟩ : Addr)))), (10, .bool (decide (s.Value ≤ ((gt x.Maps ((idxF (hasId s.Id) x.Maps).toNat)).Torn))))] ∧ (Kp (fun b_ => b_ = g138) w443 w') ∧ (Blk w' g138 31 [.slice A116 n117 c118, .slice A120 n121 c122, .int .i64 x.Bought, .int .i64 (x.Dropped + (min s.Value ((gt x.Maps ((idxF (hasId s.Id) x.Maps).toNat)).Torn))), .int .i64 x.Mended])) mo ?_ ?_
        · intro w464 hk465
          have hz466 := hk465.size
          have hB467 := hB447.lo hk465
          refine AH.take 0 rfl (by kernel_rfl) trivial ((Kp.refl w443 : Kp (fun b_ => b_ = g138) w443 w443).lo hk465) (fun w' hw' => r_fa fa31_3 rfl) <| AH.take 1 rfl (by kernel_rfl) trivial ((Kp.refl w443 : Kp (fun b_ => b_ = g138) w443 w443).lo hk465) (fun w' hw' => r_ld (v := .int .i64 x.Dropped) sca3 rfl ((((hm261).kp hR444 (fun e' => by have := ((hm267)).base_le e'; omega)).kp hw' (fun e' => by have e'' : g1 = g138 := e'; omega)).cell rfl)) <| AH.take 2 rfl (by kernel_rfl) trivial ((Kp.refl w443 : Kp (fun b_ => b_ = g138) w443 w443).lo hk465) (fun w' hw' => r_fa fa49_3 rfl) <| AH.take 3 rfl (by kernel_rfl) trivial ((Kp.refl w443 : Kp (fun b_ => b_ = g138) w443 w443).lo hk465) (fun w' hw' => r_ld (v := .int .i64 s.Value) sca3 rfl ((((hm264).kp hR444 (fun e' => by have := ((hm267)).base_le e'; omega)).kp hw' (fun e' => by have e'' : g9 = g138 := e'; omega)).cell rfl)) <| AH.take 4 rfl (by kernel_rfl) trivial ((Kp.refl w443 : Kp (fun b_ => b_ = g138) w443 w443).lo hk465) (fun w' hw' => r_fa fa73_2 rfl) <| AH.take 5 rfl (by kernel_rfl) trivial ((Kp.refl w443 : Kp (fun b_ => b_ = g138) w443 w443).lo hk465) (fun w' hw' => r_ld (v := .int .i64 ((gt x.Maps ((idxF (hasId s.Id) x.Maps).toNat)).Torn)) sca3 rfl ((((hb258).kp hR444 (fun e' => hd253 e')).kp hw' (fun e' => by have e'' : g245 = g138 := e'; omega)).cell rfl)) <| AH.br [6] (by kernel_rfl) rfl ⟨Br.mk' rfl trivial ?_, trivial⟩
          refine SR.call ent93 (c_spec_l1Least w464 s.Value ((gt x.Maps ((idxF (hasId s.Id) x.Maps).toNat)).Torn)) rfl ?_
          rintro e w468 ⟨rfl, hk469⟩
          refine ⟨_, rfl, ?_⟩
          have hz470 := hk469.size
          have hB471 := hB467.lo hk469
          have hS472 := ((Kp.refl w443 : Kp (fun b_ => b_ = g138) w443 w443).lo hk465).lo hk469
          refine SR.nil ⟨hS472, _, rfl, ?_⟩
          refine AH.take 7 rfl (by kernel_rfl) trivial (hS472) (fun w' hw' => r_add rfl rfl (by omega)) <| AH.take 8 rfl (by kernel_rfl) trivial (hS472) (fun w' hw' => r_fa fa31_3 rfl) <| AH.br [9] (by kernel_rfl) rfl ⟨Br.mk' rfl trivial ?_, trivial⟩
          refine SR.store (o := 3) (vs := [.int .i64 (x.Dropped + (min s.Value ((gt x.Maps ((idxF (hasId s.Id) x.Maps).toNat)).Torn)))]) sca3.2 rfl rfl rfl rfl ((((hm266).kp hR444 (fun e' => hd160 e')).lo hk465).lo hk469) (Nat.le_of_ble_eq_true rfl) rfl ?_
          intro w473 hk474 hs475 hb476
          have hz477 := hk474.size
          have hB478 := hB471.new hk474 (by omega)
          have hS479 := (hS472).step hk474 (fun _ _ e => e)
          refine SR.nil ⟨hS479, _, rfl, ?_⟩
          refine AH.done (by kernel_rfl) ?_
          exact ⟨⟨rfl, rfl, rfl, rfl, trivial⟩, hS479, (hb476)⟩
        rintro f481 w482 ⟨hat484, hR483, hm480⟩
        rw [← sets_of_at hat484]
        have hz485 := hR483.size
        have hB486 := hB447.new hR483 (by omega)
        refine W.seq ?_
        have hm487 := ((hm265).kp hR444 (fun e' => by have := ((hm267)).base_le e'; omega)).kp hR483 (fun e' => by have e'' : g17 = g138 := e'; omega)
        have hm488 := ((hm268).kp hR444 (fun b_ hb e' => hd162 b_ e' hb)).kp hR483 (fun b_ hb e' => hd161 (by have e'' : b_ = g138 := e'; rw [← e'']; exact hb))
        refine W.regA (Kp (fun b_ => b_ = g17) w482) (fun f' w' => At f' [(4, .pointer (some ((⟨g17, 0, none⟩ : Addr)))), (5, .bool (decide ((s.Value ≤ ((gt x.Maps ((idxF (hasId s.Id) x.Maps).toNat)).Torn)) ∧ (LibOK (⟨x.Maps.set ((idxF (hasId s.Id) x.Maps).toNat) (⟨(gt x.Maps ((idxF (hasId s.Id) x.Maps).toNat)).Id, ((gt x.Maps ((idxF (hasId s.Id) x.Maps).toNat)).Copies) - (min s.Value ((gt x.Maps ((idxF (hasId s.Id) x.Maps).toNat)).Torn)), ((gt x.Maps ((idxF (hasId s.Id) x.Maps).toNat)).Torn) - (min s.Value ((gt x.Maps ((idxF (hasId s.Id) x.Maps).toNat)).Torn))⟩ : LMap), x.Away, x.Bought, x.Dropped + (min s.Value ((gt x.Maps ((idxF (hasId s.Id) x.Maps).toNat)).Torn)), x.Mended⟩ : Library)))))] ∧ (Kp (fun b_ => b_ = g17) w482 w') ∧ (Blk w' g17 31 [.slice A116 n117 c118, .slice A120 n121 c122, .int .i64 x.Bought, .int .i64 (x.Dropped + (min s.Value ((gt x.Maps ((idxF (hasId s.Id) x.Maps).toNat)).Torn))), .int .i64 x.Mended])) mo ?_ ?_
        · intro w504 hk505
          have hz506 := hk505.size
          have hB507 := hB486.lo hk505
          refine AH.take 0 rfl (by kernel_rfl) trivial ((Kp.refl w482 : Kp (fun b_ => b_ = g17) w482 w482).lo hk505) (fun w' hw' => r_lda (l := [.slice A116 n117 c118, .slice A120 n121 c122, .int .i64 x.Bought, .int .i64 (x.Dropped + (min s.Value ((gt x.Maps ((idxF (hasId s.Id) x.Maps).toNat)).Torn))), .int .i64 x.Mended]) agg31 rfl (fun _ _ hu => ((hm480).kp hw' (fun e' => by have e'' : g138 = g17 := e'; omega)).cell hu) rfl) <| AH.take 1 rfl (by kernel_rfl) trivial ((Kp.refl w482 : Kp (fun b_ => b_ = g17) w482 w482).lo hk505) (fun w' hw' => r_mv (v := .bool _) rfl) <| AH.take 2 rfl (by kernel_rfl) trivial ((Kp.refl w482 : Kp (fun b_ => b_ = g17) w482 w482).lo hk505) (fun w' hw' => r_mv (v := .bool _) rfl) <| AH.splitD (fun h508 => ?_) (fun h508 => ?_)
          · refine AH.take 3 rfl (by kernel_rfl) rfl ((Kp.refl w482 : Kp (fun b_ => b_ = g17) w482 w482).lo hk505) (fun w' hw' => r_lda (l := [.slice A116 n117 c118, .slice A120 n121 c122, .int .i64 x.Bought, .int .i64 (x.Dropped + (min s.Value ((gt x.Maps ((idxF (hasId s.Id) x.Maps).toNat)).Torn))), .int .i64 x.Mended]) agg31 rfl (fun _ _ hu => ((hm480).kp hw' (fun e' => by have e'' : g138 = g17 := e'; omega)).cell hu) rfl) <| AH.br [4] (by kernel_rfl) rfl ⟨Br.mk' rfl rfl ?_, trivial⟩
            refine SR.gcall rfl ent48 (c_spec_l32Good w504 (⟨x.Maps.set ((idxF (hasId s.Id) x.Maps).toNat) (⟨(gt x.Maps ((idxF (hasId s.Id) x.Maps).toNat)).Id, ((gt x.Maps ((idxF (hasId s.Id) x.Maps).toNat)).Copies) - (min s.Value ((gt x.Maps ((idxF (hasId s.Id) x.Maps).toNat)).Torn)), ((gt x.Maps ((idxF (hasId s.Id) x.Maps).toNat)).Torn) - (min s.Value ((gt x.Maps ((idxF (hasId s.Id) x.Maps).toNat)).Torn))⟩ : LMap), x.Away, x.Bought, x.Dropped + (min s.Value ((gt x.Maps ((idxF (hasId s.Id) x.Maps).toNat)).Torn)), x.Mended⟩ : Library) (((((hm441).kp hR483 (fun b_ hb e' => hd160 (by have e'' : b_ = g138 := e'; rw [← e'']; exact hb))).lo hk505).rd)) ((((hm488).lo hk505).rd))) rfl ?_
            rintro e w509 ⟨rfl, hk510⟩
            refine ⟨_, rfl, ?_⟩
            have hz511 := hk510.size
            have hB512 := hB507.lo hk510
            have hS513 := ((Kp.refl w482 : Kp (fun b_ => b_ = g17) w482 w482).lo hk505).lo hk510
            refine SR.nil ⟨hS513, _, rfl, ?_⟩
            refine AH.take 5 rfl (by kernel_rfl) trivial (hS513) (fun w' hw' => r_pick true rfl (v := .bool _) rfl) <| AH.br [6] (by kernel_rfl) rfl ⟨Br.mk' rfl trivial ?_, trivial⟩
            refine SR.store (o := 0) (vs := [.slice A116 n117 c118, .slice A120 n121 c122, .int .i64 x.Bought, .int .i64 (x.Dropped + (min s.Value ((gt x.Maps ((idxF (hasId s.Id) x.Maps).toNat)).Torn))), .int .i64 x.Mended]) agg31.2 rfl rfl rfl rfl (((hm487).lo hk505).lo hk510) (Nat.le_of_ble_eq_true rfl) rfl ?_
            intro w514 hk515 hs516 hb517
            have hz518 := hk515.size
            have hB519 := hB512.new hk515 (by omega)
            have hS520 := (hS513).step hk515 (fun _ _ e => e)
            refine SR.nil ⟨hS520, _, rfl, ?_⟩
            refine AH.take 7 rfl (by kernel_rfl) trivial (hS520) (fun w' hw' => r_as (v := .bool _) rfl) <| AH.done (by kernel_rfl) ?_
            exact ⟨⟨rfl, (eDD (jat h508)), trivial⟩, hS520, (hb517)⟩
          · refine AH.s' 3 rfl (by kernel_rfl) rfl ((Kp.refl w482 : Kp (fun b_ => b_ = g17) w482 w482).lo hk505) <| AH.s' 4 rfl (by kernel_rfl) rfl ((Kp.refl w482 : Kp (fun b_ => b_ = g17) w482 w482).lo hk505) <| AH.take 5 rfl (by kernel_rfl) trivial ((Kp.refl w482 : Kp (fun b_ => b_ = g17) w482 w482).lo hk505) (fun w' hw' => r_pick false rfl (v := .bool false) rfl) <| AH.br [6] (by kernel_rfl) rfl ⟨Br.mk' rfl trivial ?_, trivial⟩
            refine SR.store (o := 0) (vs := [.slice A116 n117 c118, .slice A120 n121 c122, .int .i64 x.Bought, .int .i64 (x.Dropped + (min s.Value ((gt x.Maps ((idxF (hasId s.Id) x.Maps).toNat)).Torn))), .int .i64 x.Mended]) agg31.2 rfl rfl rfl rfl ((hm487).lo hk505) (Nat.le_of_ble_eq_true rfl) rfl ?_
            intro w522 hk523 hs524 hb525
            have hz526 := hk523.size
            have hB527 := hB507.new hk523 (by omega)
            have hS528 := ((Kp.refl w482 : Kp (fun b_ => b_ = g17) w482 w482).lo hk505).step hk523 (fun _ _ e => e)
            refine SR.nil ⟨hS528, _, rfl, ?_⟩
            refine AH.take 7 rfl (by kernel_rfl) trivial (hS528) (fun w' hw' => r_as (v := .bool _) rfl) <| AH.done (by kernel_rfl) ?_
            exact ⟨⟨rfl, (eDF (jaf h508).2), trivial⟩, hS528, (hb525)⟩
        rintro f529 w530 ⟨hat532, hR531, hm521⟩
        rw [← sets_of_at hat532]
        have hz533 := hR531.size
        have hB534 := hB486.new hR531 (by omega)
        refine W.ret ?_
        refine retCT rfl rfl agg31 (hm521) rfl (v := .bool _) rfl ?_
        exact ⟨A116, n117, c118, A120, n121, c122, eR (eT2 (eA (eC rfl (eC rfl (eC (eI (by subst hl128 hl130; unfold spec_l32Make; rw [if_neg h28, if_neg h269, if_pos h397] <;> rfl)) (eC (eI (by subst hl128 hl130; unfold spec_l32Make; rw [if_neg h28, if_neg h269, if_pos h397] <;> rfl)) (eC (eI (by subst hl128 hl130; unfold spec_l32Make; rw [if_neg h28, if_neg h269, if_pos h397] <;> rfl)) rfl)))))) (eB (by subst hl128 hl130; unfold spec_l32Make; rw [if_neg h28, if_neg h269, if_pos h397] <;> rfl))), (SlO.eqv ((((hm441).kp hR483 (fun b_ hb e' => hd160 (by have e'' : b_ = g138 := e'; rw [← e'']; exact hb))).kp hR531 (fun b_ hb e' => by have e'' : b_ = g17 := e'; have := ((hm441).kp hR483 (fun b_ hb e' => hd160 (by have e'' : b_ = g138 := e'; rw [← e'']; exact hb))).base_le hb; omega)).down (by omega)) (by subst hl128 hl130; unfold spec_l32Make; rw [if_neg h28, if_neg h269, if_pos h397] <;> rfl)), (SlO.eqv (((hm488).kp hR531 (fun b_ hb e' => by have e'' : b_ = g17 := e'; have := (hm488).base_le hb; omega)).down (by omega)) (by subst hl128 hl130; unfold spec_l32Make; rw [if_neg h28, if_neg h269, if_pos h397] <;> rfl)), hd162, hB534⟩
      · refine W.seq ?_
        refine W.regS (SR.q' (r_eq rfl rfl) <| SR.q' (r_as (v := .bool _) rfl) <| SR.nil ?_)
        refine W.cond_d rfl (fun h535 => ?_) (fun h535 => ?_)
        · refine W.seq ?_
          refine W.regS (SR.q' (r_fa fa49_3 rfl) <| SR.q' (r_ld (v := .int .i64 s.Value) sca3 rfl ((hm264).cell rfl)) <| SR.q' (r_fa fa73_1 rfl) <| SR.q' (r_ld (v := .int .i64 ((gt x.Maps ((idxF (hasId s.Id) x.Maps).toNat)).Copies)) sca3 rfl ((hb258).cell rfl)) <| SR.q' (r_fa fa73_2 rfl) <| SR.q' (r_ld (v := .int .i64 ((gt x.Maps ((idxF (hasId s.Id) x.Maps).toNat)).Torn)) sca3 rfl ((hb258).cell rfl)) <| SR.q' (r_sub rfl rfl (by omega)) <| SR.q' (r_le rfl rfl) <| SR.q' (r_as (v := .bool _) rfl) <| SR.nil ?_)
          refine W.regA (Kp (fun b_ => A116 = some ⟨b_, 0, none⟩) w255) (fun f' w' => At f' [(4, .pointer (some ((⟨g17, 0, none⟩ : Addr)))), (5, .bool false), (7, .pointer (some ((⟨g138, 0, none⟩ : Addr)))), (10, .bool (decide (s.Value ≤ (((gt x.Maps ((idxF (hasId s.Id) x.Maps).toNat)).Copies) - ((gt x.Maps ((idxF (hasId s.Id) x.Maps).toNat)).Torn)))))] ∧ (Kp (fun b_ => A116 = some ⟨b_, 0, none⟩) w255 w') ∧ (SlO w' w18.heap.size encLMap 3 73 A116 n117 c118 (x.Maps.set ((idxF (hasId s.Id) x.Maps).toNat) ({ (gt x.Maps ((idxF (hasId s.Id) x.Maps).toNat)) with Torn := ((gt x.Maps ((idxF (hasId s.Id) x.Maps).toNat)).Torn) + (min s.Value 100) }))) ∧ ((x.Maps.set ((idxF (hasId s.Id) x.Maps).toNat) ({ (gt x.Maps ((idxF (hasId s.Id) x.Maps).toNat)) with Torn := ((gt x.Maps ((idxF (hasId s.Id) x.Maps).toNat)).Torn) + (min s.Value 100) }))[(idxF (hasId s.Id) x.Maps).toNat]? = some ({ (gt x.Maps ((idxF (hasId s.Id) x.Maps).toNat)) with Torn := ((gt x.Maps ((idxF (hasId s.Id) x.Maps).toNat)).Torn) + (min s.Value 100) }))) mo ?_ ?_
          · intro w552 hk553
            have hz554 := hk553.size
            have hB555 := hB260.lo hk553
            refine AH.take 0 rfl (by kernel_rfl) trivial ((Kp.refl w255 : Kp (fun b_ => A116 = some ⟨b_, 0, none⟩) w255 w255).lo hk553) (fun w' hw' => r_fa fa31_0 rfl) <| AH.take 1 rfl (by kernel_rfl) trivial ((Kp.refl w255 : Kp (fun b_ => A116 = some ⟨b_, 0, none⟩) w255 w255).lo hk553) (fun w' hw' => r_ld (v := .slice A116 n117 c118) sca28 rfl (((hm266).kp hw' (fun e' => hd160 e')).cell rfl)) <| AH.take 2 rfl (by kernel_rfl) trivial ((Kp.refl w255 : Kp (fun b_ => A116 = some ⟨b_, 0, none⟩) w255 w255).lo hk553) (fun w' hw' => r_mv (v := .int .i64 _) rfl) <| AH.take 3 rfl (by kernel_rfl) trivial ((Kp.refl w255 : Kp (fun b_ => A116 = some ⟨b_, 0, none⟩) w255 w255).lo hk553) (fun w' hw' => r_fa fa73_2 rfl) <| AH.take 4 rfl (by kernel_rfl) trivial ((Kp.refl w255 : Kp (fun b_ => A116 = some ⟨b_, 0, none⟩) w255 w255).lo hk553) (fun w' hw' => r_ld (v := .int .i64 ((gt x.Maps ((idxF (hasId s.Id) x.Maps).toNat)).Torn)) sca3 rfl (((hb258).kp hw' (fun e' => hd253 e')).cell rfl)) <| AH.take 5 rfl (by kernel_rfl) trivial ((Kp.refl w255 : Kp (fun b_ => A116 = some ⟨b_, 0, none⟩) w255 w255).lo hk553) (fun w' hw' => r_fa fa49_3 rfl) <| AH.take 6 rfl (by kernel_rfl) trivial ((Kp.refl w255 : Kp (fun b_ => A116 = some ⟨b_, 0, none⟩) w255 w255).lo hk553) (fun w' hw' => r_ld (v := .int .i64 s.Value) sca3 rfl (((hm264).kp hw' (fun e' => by have := ((hm267)).base_le e'; omega)).cell rfl)) <| AH.br [7] (by kernel_rfl) rfl ⟨Br.mk' rfl trivial ?_, trivial⟩
            refine SR.call ent93 (c_spec_l1Least w552 s.Value 100) rfl ?_
            rintro e w556 ⟨rfl, hk557⟩
            refine ⟨_, rfl, ?_⟩
            have hz558 := hk557.size
            have hB559 := hB555.lo hk557
            have hS560 := ((Kp.refl w255 : Kp (fun b_ => A116 = some ⟨b_, 0, none⟩) w255 w255).lo hk553).lo hk557
            refine SR.nil ⟨hS560, _, rfl, ?_⟩
            refine AH.take 8 rfl (by kernel_rfl) trivial (hS560) (fun w' hw' => r_add rfl rfl (by omega)) <| AH.br [9] (by kernel_rfl) rfl ⟨Br.mk' rfl trivial ?_, trivial⟩
            refine SR.q' (r_ixR tsl28 ((((hm267).lo hk553).lo hk557).rd) rfl rfl (by omega)) ?_
            refine SR.nil ⟨hS560, _, rfl, ?_⟩
            refine AH.take 10 rfl (by kernel_rfl) trivial (hS560) (fun w' hw' => r_fa fa73_2 rfl) <| AH.br [11] (by kernel_rfl) rfl ⟨Br.mk' rfl trivial ?_, trivial⟩
            refine SR.storeO (o := 2) (vs := [.int .i64 (((gt x.Maps ((idxF (hasId s.Id) x.Maps).toNat)).Torn) + (min s.Value 100))]) (x1 := { (gt x.Maps ((idxF (hasId s.Id) x.Maps).toNat)) with Torn := ((gt x.Maps ((idxF (hasId s.Id) x.Maps).toNat)).Torn) + (min s.Value 100) }) sca3.2 rfl (add_add _ _ _) rfl rfl (((hm267).lo hk553).lo hk557) hx243 rfl (Nat.le_of_ble_eq_true rfl) rfl ?_
            intro w561 hk562 hs563 hO564
            have hz565 := hk562.size
            have hB566 := hB559.step hk562 (fun i_ hi_ e' => by have := ((((hm267).lo hk553).lo hk557)).base_le e'; first | omega | (exfalso; omega) | exact e' | exact .inl e' | exact .inr e')
            have hS567 := (hS560).step hk562 (fun _ _ e => e)
            have hx568 : (x.Maps.set ((idxF (hasId s.Id) x.Maps).toNat) ({ (gt x.Maps ((idxF (hasId s.Id) x.Maps).toNat)) with Torn := ((gt x.Maps ((idxF (hasId s.Id) x.Maps).toNat)).Torn) + (min s.Value 100) }))[(idxF (hasId s.Id) x.Maps).toNat]? = some ({ (gt x.Maps ((idxF (hasId s.Id) x.Maps).toNat)) with Torn := ((gt x.Maps ((idxF (hasId s.Id) x.Maps).toNat)).Torn) + (min s.Value 100) }) := List.getElem?_set_self (List.getElem?_eq_some_iff.1 hx243).1
            refine SR.nil ⟨hS567, _, rfl, ?_⟩
            refine AH.done (by kernel_rfl) ?_
            exact ⟨⟨rfl, rfl, rfl, rfl, trivial⟩, hS567, (hO564), hx568⟩
          rintro f570 w571 ⟨hat573, hR572, hm569, hx568⟩
          rw [← sets_of_at hat573]
          have hz574 := hR572.size
          have hB575 := hB260.step hR572 (fun i_ hi_ e' => by have := ((hm267)).base_le e'; first | omega | (exfalso; omega) | exact e' | exact .inl e' | exact .inr e')
          refine W.seq ?_
          refine W.regA (Kp (fun b_ => b_ = g17) w571) (fun f' w' => At f' [(4, .pointer (some ((⟨g17, 0, none⟩ : Addr)))), (5, .bool (decide ((s.Value ≤ (((gt x.Maps ((idxF (hasId s.Id) x.Maps).toNat)).Copies) - ((gt x.Maps ((idxF (hasId s.Id) x.Maps).toNat)).Torn))) ∧ (LibOK (⟨x.Maps.set ((idxF (hasId s.Id) x.Maps).toNat) ({ (gt x.Maps ((idxF (hasId s.Id) x.Maps).toNat)) with Torn := ((gt x.Maps ((idxF (hasId s.Id) x.Maps).toNat)).Torn) + (min s.Value 100) }), x.Away, x.Bought, x.Dropped, x.Mended⟩ : Library)))))] ∧ (Kp (fun b_ => b_ = g17) w571 w') ∧ (Blk w' g17 31 [.slice A116 n117 c118, .slice A120 n121 c122, .int .i64 x.Bought, .int .i64 x.Dropped, .int .i64 x.Mended])) mo ?_ ?_
          · intro w591 hk592
            have hz593 := hk592.size
            have hB594 := hB575.lo hk592
            refine AH.take 0 rfl (by kernel_rfl) trivial ((Kp.refl w571 : Kp (fun b_ => b_ = g17) w571 w571).lo hk592) (fun w' hw' => r_lda (l := [.slice A116 n117 c118, .slice A120 n121 c122, .int .i64 x.Bought, .int .i64 x.Dropped, .int .i64 x.Mended]) agg31 rfl (fun _ _ hu => (((hm266).kp hR572 (fun e' => hd160 e')).kp hw' (fun e' => by have e'' : g138 = g17 := e'; omega)).cell hu) rfl) <| AH.take 1 rfl (by kernel_rfl) trivial ((Kp.refl w571 : Kp (fun b_ => b_ = g17) w571 w571).lo hk592) (fun w' hw' => r_mv (v := .bool _) rfl) <| AH.take 2 rfl (by kernel_rfl) trivial ((Kp.refl w571 : Kp (fun b_ => b_ = g17) w571 w571).lo hk592) (fun w' hw' => r_mv (v := .bool _) rfl) <| AH.splitD (fun h595 => ?_) (fun h595 => ?_)
            · refine AH.take 3 rfl (by kernel_rfl) rfl ((Kp.refl w571 : Kp (fun b_ => b_ = g17) w571 w571).lo hk592) (fun w' hw' => r_lda (l := [.slice A116 n117 c118, .slice A120 n121 c122, .int .i64 x.Bought, .int .i64 x.Dropped, .int .i64 x.Mended]) agg31 rfl (fun _ _ hu => (((hm266).kp hR572 (fun e' => hd160 e')).kp hw' (fun e' => by have e'' : g138 = g17 := e'; omega)).cell hu) rfl) <| AH.br [4] (by kernel_rfl) rfl ⟨Br.mk' rfl rfl ?_, trivial⟩
              refine SR.gcall rfl ent48 (c_spec_l32Good w591 (⟨x.Maps.set ((idxF (hasId s.Id) x.Maps).toNat) ({ (gt x.Maps ((idxF (hasId s.Id) x.Maps).toNat)) with Torn := ((gt x.Maps ((idxF (hasId s.Id) x.Maps).toNat)).Torn) + (min s.Value 100) }), x.Away, x.Bought, x.Dropped, x.Mended⟩ : Library) ((((hm569).lo hk592).rd)) (((((hm268).kp hR572 (fun b_ hb e' => hd162 b_ e' hb)).lo hk592).rd))) rfl ?_
              rintro e w596 ⟨rfl, hk597⟩
              refine ⟨_, rfl, ?_⟩
              have hz598 := hk597.size
              have hB599 := hB594.lo hk597
              have hS600 := ((Kp.refl w571 : Kp (fun b_ => b_ = g17) w571 w571).lo hk592).lo hk597
              refine SR.nil ⟨hS600, _, rfl, ?_⟩
              refine AH.take 5 rfl (by kernel_rfl) trivial (hS600) (fun w' hw' => r_pick true rfl (v := .bool _) rfl) <| AH.br [6] (by kernel_rfl) rfl ⟨Br.mk' rfl trivial ?_, trivial⟩
              refine SR.store (o := 0) (vs := [.slice A116 n117 c118, .slice A120 n121 c122, .int .i64 x.Bought, .int .i64 x.Dropped, .int .i64 x.Mended]) agg31.2 rfl rfl rfl rfl ((((hm265).kp hR572 (fun e' => by have := ((hm267)).base_le e'; omega)).lo hk592).lo hk597) (Nat.le_of_ble_eq_true rfl) rfl ?_
              intro w601 hk602 hs603 hb604
              have hz605 := hk602.size
              have hB606 := hB599.new hk602 (by omega)
              have hS607 := (hS600).step hk602 (fun _ _ e => e)
              refine SR.nil ⟨hS607, _, rfl, ?_⟩
              refine AH.take 7 rfl (by kernel_rfl) trivial (hS607) (fun w' hw' => r_as (v := .bool _) rfl) <| AH.done (by kernel_rfl) ?_
              exact ⟨⟨rfl, (eDD (jat h595)), trivial⟩, hS607, (hb604)⟩
            · refine AH.s' 3 rfl (by kernel_rfl) rfl ((Kp.refl w571 : Kp (fun b_ => b_ = g17) w571 w571).lo hk592) <| AH.s' 4 rfl (by kernel_rfl) rfl ((Kp.refl w571 : Kp (fun b_ => b_ = g17) w571 w571).lo hk592) <| AH.take 5 rfl (by kernel_rfl) trivial ((Kp.refl w571 : Kp (fun b_ => b_ = g17) w571 w571).lo hk592) (fun w' hw' => r_pick false rfl (v := .bool false) rfl) <| AH.br [6] (by kernel_rfl) rfl ⟨Br.mk' rfl trivial ?_, trivial⟩
              refine SR.store (o := 0) (vs := [.slice A116 n117 c118, .slice A120 n121 c122, .int .i64 x.Bought, .int .i64 x.Dropped, .int .i64 x.Mended]) agg31.2 rfl rfl rfl rfl (((hm265).kp hR572 (fun e' => by have := ((hm267)).base_le e'; omega)).lo hk592) (Nat.le_of_ble_eq_true rfl) rfl ?_
              intro w609 hk610 hs611 hb612
              have hz613 := hk610.size
              have hB614 := hB594.new hk610 (by omega)
              have hS615 := ((Kp.refl w571 : Kp (fun b_ => b_ = g17) w571 w571).lo hk592).step hk610 (fun _ _ e => e)
              refine SR.nil ⟨hS615, _, rfl, ?_⟩
              refine AH.take 7 rfl (by kernel_rfl) trivial (hS615) (fun w' hw' => r_as (v := .bool _) rfl) <| AH.done (by kernel_rfl) ?_
              exact ⟨⟨rfl, (eDF (jaf h595).2), trivial⟩, hS615, (hb612)⟩
          rintro f616 w617 ⟨hat619, hR618, hm608⟩
          rw [← sets_of_at hat619]
          have hz620 := hR618.size
          have hB621 := hB575.new hR618 (by omega)
          refine W.ret ?_
          refine retCT rfl rfl agg31 (hm608) rfl (v := .bool _) rfl ?_
          exact ⟨A116, n117, c118, A120, n121, c122, eR (eT2 (eA (eC rfl (eC rfl (eC (eI (by subst hl128 hl130; unfold spec_l32Make; rw [if_neg h28, if_neg h269, if_neg h397, if_pos h535] <;> rfl)) (eC (eI (by subst hl128 hl130; unfold spec_l32Make; rw [if_neg h28, if_neg h269, if_neg h397, if_pos h535] <;> rfl)) (eC (eI (by subst hl128 hl130; unfold spec_l32Make; rw [if_neg h28, if_neg h269, if_neg h397, if_pos h535] <;> rfl)) rfl)))))) (eB (by subst hl128 hl130; unfold spec_l32Make; rw [if_neg h28, if_neg h269, if_neg h397, if_pos h535] <;> rfl))), (SlO.eqv (((hm569).kp hR618 (fun b_ hb e' => by have e'' : b_ = g17 := e'; have := (hm569).base_le hb; omega)).down (by omega)) (by subst hl128 hl130; unfold spec_l32Make; rw [if_neg h28, if_neg h269, if_neg h397, if_pos h535] <;> rfl)), (SlO.eqv ((((hm268).kp hR572 (fun b_ hb e' => hd162 b_ e' hb)).kp hR618 (fun b_ hb e' => by have e'' : b_ = g17 := e'; have := ((hm268).kp hR572 (fun b_ hb e' => hd162 b_ e' hb)).base_le hb; omega)).down (by omega)) (by subst hl128 hl130; unfold spec_l32Make; rw [if_neg h28, if_neg h269, if_neg h397, if_pos h535] <;> rfl)), hd162, hB621⟩
        · refine W.regS (SR.q' (r_lda (l := [.slice Ax_Maps nx_Maps cx_Maps, .slice Ax_Away nx_Away cx_Away, .int .i64 x.Bought, .int .i64 x.Dropped, .int .i64 x.Mended]) agg31 rfl (fun _ _ hu => (hm261).cell hu) rfl) <| SR.q' (r_lda (l := [.int .i64 s.Kind, .int .i64 s.Id, .int .i64 s.Reader, .int .i64 s.Value]) agg49 rfl (fun _ _ hu => (hm264).cell hu) rfl) <| SR.q' (r_mv (v := .int .i64 _) rfl) <| SR.call ent94 (c_spec_l32Readers w255 x ((hm262)) ((hm263)) s (idxF (hasId s.Id) x.Maps) (by assumption) (by omega) (by omega)) rfl ?_)
          rintro e w622 ⟨A624, n625, c626, A628, n629, c630, rfl, hO627, hO631, hd632, hk623⟩
          refine ⟨_, rfl, ?_⟩
          have hz633 := hk623.size
          have hB634 := hB260.lo hk623
          have hl635 := hO627.len
          have hl636 := hO627.rd.bound
          have hl637 := hO631.len
          have hl638 := hO631.rd.bound
          refine SR.q' (r_mv (v := .tuple (List.toArray _)) rfl) <| SR.q' (r_ext (v := .agg (List.toArray _)) rfl rfl) <| SR.q' (r_ext (v := .bool _) rfl rfl) <| SR.store (o := 0) (vs := [.slice A624 n625 c626, .slice A628 n629 c630, .int .i64 (((spec_l32Readers x s (idxF (hasId s.Id) x.Maps)).1).Bought), .int .i64 (((spec_l32Readers x s (idxF (hasId s.Id) x.Maps)).1).Dropped), .int .i64 (((spec_l32Readers x s (idxF (hasId s.Id) x.Maps)).1).Mended)]) agg31.2 rfl rfl rfl rfl ((hm266).lo hk623) (Nat.le_of_ble_eq_true rfl) rfl ?_
          intro w639 hk640 hs641 hb642
          have hz643 := hk640.size
          have hB644 := hB634.new hk640 (by omega)
          refine SR.q' (r_as (v := .bool _) rfl) <| SR.nil ?_
          refine W.seq ?_
          have hm645 := ((hm265).lo hk623).kp hk640 (fun e' => by have e'' : g17 = g138 := e'; omega)
          refine W.regA (Kp (fun b_ => b_ = g17) w639) (fun f' w' => At f' [(4, .pointer (some ((⟨g17, 0, none⟩ : Addr)))), (5, .bool (decide ((((spec_l32Readers x s (idxF (hasId s.Id) x.Maps)).2) = true) ∧ (LibOK ((spec_l32Readers x s (idxF (hasId s.Id) x.Maps)).1)))))] ∧ (Kp (fun b_ => b_ = g17) w639 w') ∧ (Blk w' g17 31 [.slice A624 n625 c626, .slice A628 n629 c630, .int .i64 (((spec_l32Readers x s (idxF (hasId s.Id) x.Maps)).1).Bought), .int .i64 (((spec_l32Readers x s (idxF (hasId s.Id) x.Maps)).1).Dropped), .int .i64 (((spec_l32Readers x s (idxF (hasId s.Id) x.Maps)).1).Mended)])) mo ?_ ?_
          · intro w661 hk662
            have hz663 := hk662.size
            have hB664 := hB644.lo hk662
            refine AH.take 0 rfl (by kernel_rfl) trivial ((Kp.refl w639 : Kp (fun b_ => b_ = g17) w639 w639).lo hk662) (fun w' hw' => r_lda (l := [.slice A624 n625 c626, .slice A628 n629 c630, .int .i64 (((spec_l32Readers x s (idxF (hasId s.Id) x.Maps)).1).Bought), .int .i64 (((spec_l32Readers x s (idxF (hasId s.Id) x.Maps)).1).Dropped), .int .i64 (((spec_l32Readers x s (idxF (hasId s.Id) x.Maps)).1).Mended)]) agg31 rfl (fun _ _ hu => ((hb642).kp hw' (fun e' => by have e'' : g138 = g17 := e'; omega)).cell hu) rfl) <| AH.take 1 rfl (by kernel_rfl) trivial ((Kp.refl w639 : Kp (fun b_ => b_ = g17) w639 w639).lo hk662) (fun w' hw' => r_mv (v := .bool _) rfl) <| AH.take 2 rfl (by kernel_rfl) trivial ((Kp.refl w639 : Kp (fun b_ => b_ = g17) w639 w639).lo hk662) (fun w' hw' => r_mv (v := .bool _) rfl) <| AH.split (fun h665 => ?_) (fun h665 => ?_)
            · refine AH.take 3 rfl (by kernel_rfl) rfl ((Kp.refl w639 : Kp (fun b_ => b_ = g17) w639 w639).lo hk662) (fun w' hw' => r_lda (l := [.slice A624 n625 c626, .slice A628 n629 c630, .int .i64 (((spec_l32Readers x s (idxF (hasId s.Id) x.Maps)).1).Bought), .int .i64 (((spec_l32Readers x s (idxF (hasId s.Id) x.Maps)).1).Dropped), .int .i64 (((spec_l32Readers x s (idxF (hasId s.Id) x.Maps)).1).Mended)]) agg31 rfl (fun _ _ hu => ((hb642).kp hw' (fun e' => by have e'' : g138 = g17 := e'; omega)).cell hu) rfl) <| AH.br [4] (by kernel_rfl) rfl ⟨Br.mk' rfl rfl ?_, trivial⟩
              refine SR.gcall rfl ent48 (c_spec_l32Good w661 ((spec_l32Readers x s (idxF (hasId s.Id) x.Maps)).1) (((((hO627).kp hk640 (fun b_ hb e' => by have e'' : b_ = g138 := e'; have := (hO627).base_le hb; omega)).lo hk662).rd)) (((((hO631).kp hk640 (fun b_ hb e' => by have e'' : b_ = g138 := e'; have := (hO631).base_le hb; omega)).lo hk662).rd))) rfl ?_
              rintro e w666 ⟨rfl, hk667⟩
              refine ⟨_, rfl, ?_⟩
              have hz668 := hk667.size
              have hB669 := hB664.lo hk667
              have hS670 := ((Kp.refl w639 : Kp (fun b_ => b_ = g17) w639 w639).lo hk662).lo hk667
              refine SR.nil ⟨hS670, _, rfl, ?_⟩
              refine AH.take 5 rfl (by kernel_rfl) trivial (hS670) (fun w' hw' => r_pick true rfl (v := .bool _) rfl) <| AH.br [6] (by kernel_rfl) rfl ⟨Br.mk' rfl trivial ?_, trivial⟩
              refine SR.store (o := 0) (vs := [.slice A624 n625 c626, .slice A628 n629 c630, .int .i64 (((spec_l32Readers x s (idxF (hasId s.Id) x.Maps)).1).Bought), .int .i64 (((spec_l32Readers x s (idxF (hasId s.Id) x.Maps)).1).Dropped), .int .i64 (((spec_l32Readers x s (idxF (hasId s.Id) x.Maps)).1).Mended)]) agg31.2 rfl rfl rfl rfl (((hm645).lo hk662).lo hk667) (Nat.le_of_ble_eq_true rfl) rfl ?_
              intro w671 hk672 hs673 hb674
              have hz675 := hk672.size
              have hB676 := hB669.new hk672 (by omega)
              have hS677 := (hS670).step hk672 (fun _ _ e => e)
              refine SR.nil ⟨hS677, _, rfl, ?_⟩
              refine AH.take 7 rfl (by kernel_rfl) trivial (hS677) (fun w' hw' => r_as (v := .bool _) rfl) <| AH.done (by kernel_rfl) ?_
              exact ⟨⟨rfl, (eDD (jat h665)), trivial⟩, hS677, (hb674)⟩
            · refine AH.s' 3 rfl (by kernel_rfl) rfl ((Kp.refl w639 : Kp (fun b_ => b_ = g17) w639 w639).lo hk662) <| AH.s' 4 rfl (by kernel_rfl) rfl ((Kp.refl w639 : Kp (fun b_ => b_ = g17) w639 w639).lo hk662) <| AH.take 5 rfl (by kernel_rfl) trivial ((Kp.refl w639 : Kp (fun b_ => b_ = g17) w639 w639).lo hk662) (fun w' hw' => r_pick false rfl (v := .bool false) rfl) <| AH.br [6] (by kernel_rfl) rfl ⟨Br.mk' rfl trivial ?_, trivial⟩
              refine SR.store (o := 0) (vs := [.slice A624 n625 c626, .slice A628 n629 c630, .int .i64 (((spec_l32Readers x s (idxF (hasId s.Id) x.Maps)).1).Bought), .int .i64 (((spec_l32Readers x s (idxF (hasId s.Id) x.Maps)).1).Dropped), .int .i64 (((spec_l32Readers x s (idxF (hasId s.Id) x.Maps)).1).Mended)]) agg31.2 rfl rfl rfl rfl ((hm645).lo hk662) (Nat.le_of_ble_eq_true rfl) rfl ?_
              intro w679 hk680 hs681 hb682
              have hz683 := hk680.size
              have hB684 := hB664.new hk680 (by omega)
              have hS685 := ((Kp.refl w639 : Kp (fun b_ => b_ = g17) w639 w639).lo hk662).step hk680 (fun _ _ e => e)
              refine SR.nil ⟨hS685, _, rfl, ?_⟩
              refine AH.take 7 rfl (by kernel_rfl) trivial (hS685) (fun w' hw' => r_as (v := .bool _) rfl) <| AH.done (by kernel_rfl) ?_
              exact ⟨⟨rfl, (eDF (jaf (ne_true_of_eq_false h665)).2), trivial⟩, hS685, (hb682)⟩
          rintro f686 w687 ⟨hat689, hR688, hm678⟩
          rw [← sets_of_at hat689]
          have hz690 := hR688.size
          have hB691 := hB644.new hR688 (by omega)
          refine W.ret ?_
          refine retCT rfl rfl agg31 (hm678) rfl (v := .bool _) rfl ?_
          exact ⟨A624, n625, c626, A628, n629, c630, eR (eT2 (eA (eC rfl (eC rfl (eC (eI (by subst hl635 hl637; unfold spec_l32Make; rw [if_neg h28, if_neg h269, if_neg h397, if_neg h535] <;> rfl)) (eC (eI (by subst hl635 hl637; unfold spec_l32Make; rw [if_neg h28, if_neg h269, if_neg h397, if_neg h535] <;> rfl)) (eC (eI (by subst hl635 hl637; unfold spec_l32Make; rw [if_neg h28, if_neg h269, if_neg h397, if_neg h535] <;> rfl)) rfl)))))) (eB (by subst hl635 hl637; unfold spec_l32Make; rw [if_neg h28, if_neg h269, if_neg h397, if_neg h535] <;> rfl))), (SlO.eqv ((((hO627).kp hk640 (fun b_ hb e' => by have e'' : b_ = g138 := e'; have := (hO627).base_le hb; omega)).kp hR688 (fun b_ hb e' => by have e'' : b_ = g17 := e'; have := ((hO627).kp hk640 (fun b_ hb e' => by have e'' : b_ = g138 := e'; have := (hO627).base_le hb; omega)).base_le hb; omega)).down (by omega)) (by subst hl635 hl637; unfold spec_l32Make; rw [if_neg h28, if_neg h269, if_neg h397, if_neg h535] <;> rfl)), (SlO.eqv ((((hO631).kp hk640 (fun b_ hb e' => by have e'' : b_ = g138 := e'; have := (hO631).base_le hb; omega)).kp hR688 (fun b_ hb e' => by have e'' : b_ = g17 := e'; have := ((hO631).kp hk640 (fun b_ hb e' => by have e'' : b_ = g138 := e'; have := (hO631).base_le hb; omega)).base_le hb; omega)).down (by omega)) (by subst hl635 hl637; unfold spec_l32Make; rw [if_neg h28, if_neg h269, if_neg h397, if_neg h535] <;> rfl)), hd632, hB691⟩

open Classical in
noncomputable def spec_StepLibrary (x : Library) (s : LibraryStep) : Library × Bool :=
  if (¬ (LibOK x)) ∨ ((!(spec_l32Step x s)) = true) then ((⟨([] : List LMap), ([] : List Away), 0, 0, 0⟩ : Library), false) else if (!((spec_l32Make x s).2)) = true then ((⟨([] : List LMap), ([] : List Away), 0, 0, 0⟩ : Library), false) else (((spec_l32Make x s).1), true)
theorem c_spec_StepLibrary (w : World) (x : Library) {Ax_Maps : Option Addr} {nx_Maps cx_Maps Bx_Maps : Nat} (hx_Maps : SlR w Bx_Maps encLMap 3 Ax_Maps nx_Maps cx_Maps x.Maps) {Ax_Away : Option Addr} {nx_Away cx_Away Bx_Away : Nat} (hx_Away : SlR w Bx_Away encAway 2 Ax_Away nx_Away cx_Away x.Away) (s : LibraryStep) : Calls Try.prog 31 #[.agg (List.toArray [.slice Ax_Maps nx_Maps cx_Maps, .slice Ax_Away nx_Away cx_Away, .int .i64 x.Bought, .int .i64 x.Dropped, .int .i64 x.Mended]), .agg (List.toArray (encLibraryStep s))] w fun e w' => ∃ (A1' : Option Addr) (n1' c1' : Nat) (A2' : Option Addr) (n2' c2' : Nat), e = .returned (.tuple (List.toArray [.agg (List.toArray [.slice A1' n1' c1', .slice A2' n2' c2', .int .i64 (((spec_StepLibrary x s).1).Bought), .int .i64 (((spec_StepLibrary x s).1).Dropped), .int .i64 (((spec_StepLibrary x s).1).Mended)]), .bool ((spec_StepLibrary x s).2)])) ∧ SlO w' w.heap.size encLMap 3 73 A1' n1' c1' (((spec_StepLibrary x s).1).Maps) ∧ SlO w' w.heap.size encAway 2 77 A2' n2' c2' (((spec_StepLibrary x s).1).Away) ∧ (∀ b_, A1' = some ⟨b_, 0, none⟩ → ¬ A2' = some ⟨b_, 0, none⟩) ∧ Lo w w' := by
  refine calls_W 28 Try.func31 rfl rfl rfl ?_
  have hbdx_Maps := hx_Maps.bound
  have hlex_Maps := hx_Maps.len
  have hBbx_Maps := hx_Maps.bd
  have hbdx_Away := hx_Away.bound
  have hlex_Away := hx_Away.len
  have hBbx_Away := hx_Away.bd
  have hbdx_Maps := hx_Maps.bound
  have hlex_Maps := hx_Maps.len
  have hBbx_Maps := hx_Maps.bd
  have hbdx_Away := hx_Away.bound
  have hlex_Away := hx_Away.len
  have hBbx_Away := hx_Away.bd
  refine W.seq ?_
  refine W.regS (SR.box (v := .agg (List.toArray _)) (l := [.slice Ax_Maps nx_Maps cx_Maps, .slice Ax_Away nx_Away cx_Away, .int .i64 x.Bought, .int .i64 x.Dropped, .int .i64 x.Mended]) rfl rfl ?_)
  intro g1 w2 hg3 hk4 hs5 hb6
  have hz7 := hk4.size
  have hB8 := (Lo.refl w).lo hk4
  refine SR.box (v := .agg (List.toArray _)) (l := [.int .i64 s.Kind, .int .i64 s.Id, .int .i64 s.Reader, .int .i64 s.Value]) rfl rfl ?_
  intro g9 w10 hg11 hk12 hs13 hb14
  have hz15 := hk12.size
  have hB16 := hB8.lo hk12
  refine SR.alloc (l := [.slice none 0 0, .slice none 0 0, .int .i64 0, .int .i64 0, .int .i64 0]) tz31 rfl ?_
  intro g17 w18 hg19 hk20 hs21 hb22
  have hz23 := hk20.size
  have hB24 := hB16.lo hk20
  refine SR.q' (r_as (v := .bool false) rfl) <| SR.nil ?_
  refine W.seq ?_
  refine W.seq ?_
  have hm25 := ((hb6).lo hk12).lo hk20
  have hm26 := (((hx_Maps).lo hk4).lo hk12).lo hk20
  have hm27 := (((hx_Away).lo hk4).lo hk12).lo hk20
  refine W.regJS (fun f' w' => At f' [(2, .pointer (some ((⟨g1, 0, none⟩ : Addr)))), (3, .pointer (some ((⟨g9, 0, none⟩ : Addr)))), (4, .pointer (some ((⟨g17, 0, none⟩ : Addr)))), (5, .bool false), (16, .bool (decide ((¬ (LibOK x)) ∨ ((!(spec_l32Step x s)) = true))))] ∧ Lo w18 w') ?_ ?_
  · refine SR.q' (r_lda (l := [.slice Ax_Maps nx_Maps cx_Maps, .slice Ax_Away nx_Away cx_Away, .int .i64 x.Bought, .int .i64 x.Dropped, .int .i64 x.Mended]) agg31 rfl (fun _ _ hu => (hm25).cell hu) rfl) <| SR.call ent48 (c_spec_l32Good w18 x ((hm26)) ((hm27))) rfl ?_
    rintro e w28 ⟨rfl, hk29⟩
    refine ⟨_, rfl, ?_⟩
    have hz30 := hk29.size
    have hB31 := hB24.lo hk29
    refine SR.q' (r_not rfl) <| SR.q' (r_mv (v := .bool _) rfl) <| SR.splitN (fun h32 => ?_) (fun h32 => ?_)
    · refine SR.s' rfl <| SR.s' rfl <| SR.s' rfl <| SR.s' rfl <| SR.q' (r_pick true rfl (v := .bool true) rfl) <| SR.nil ?_
      exact ⟨_, rfl, ⟨⟨rfl, rfl, rfl, rfl, (eDT ((jmf h32).1 trivial)), trivial⟩, (hk29)⟩⟩
    · have hq33 := And.left h32
      have hq34 := lib_len h32
      have hq35 := And.left hq33
      have hq36 := And.right hq33
      refine SR.g' rfl (r_lda (l := [.slice Ax_Maps nx_Maps cx_Maps, .slice Ax_Away nx_Away cx_Away, .int .i64 x.Bought, .int .i64 x.Dropped, .int .i64 x.Mended]) agg31 rfl (fun _ _ hu => ((hm25).lo hk29).cell hu) rfl) <| SR.g' rfl (r_lda (l := [.int .i64 s.Kind, .int .i64 s.Id, .int .i64 s.Reader, .int .i64 s.Value]) agg49 rfl (fun _ _ hu => (((hb14).lo hk20).lo hk29).cell hu) rfl) <| SR.gcall rfl ent67 (c_spec_l32Step w28 x (((hm26).lo hk29)) (((hm27).lo hk29)) s) rfl ?_
      rintro e w37 ⟨rfl, hk38⟩
      refine ⟨_, rfl, ?_⟩
      have hz39 := hk38.size
      have hB40 := hB31.lo hk38
      refine SR.g' rfl (r_not rfl) <| SR.q' (r_pick false rfl (v := .bool _) rfl) <| SR.nil ?_
      exact ⟨_, rfl, ⟨⟨rfl, rfl, rfl, rfl, (eBD (jmt h32)), trivial⟩, ((hk29).trans hk38)⟩⟩
  rintro f41 w42 ⟨hat43, hk44⟩
  rw [← sets_of_at hat43]
  have hz45 := hk44.size
  have hB46 := hB24.lo hk44
  refine W.cond_d rfl (fun h47 => ?_) (fun h47 => ?_)
  · refine W.seq ?_
    have hm48 := ((hb14).lo hk20).lo hk44
    refine W.regS (SR.q' (r_build (vs := []) rfl (bld31_)) <| SR.store (o := 0) (vs := [.slice none 0 0, .slice none 0 0, .int .i64 0, .int .i64 0, .int .i64 0]) agg31.2 rfl rfl rfl rfl ((hb22).lo hk44) (Nat.le_of_ble_eq_true rfl) rfl ?_)
    intro w49 hk50 hs51 hb52
    have hz53 := hk50.size
    have hB54 := hB46.new hk50 (by omega)
    refine SR.q' (r_as (v := .bool false) rfl) <| SR.nil ?_
    refine W.ret ?_
    refine retCT rfl rfl agg31 (hb52) rfl (v := .bool _) rfl ?_
    exact ⟨none, 0, 0, none, 0, 0, eR (eT2 (eA (eC rfl (eC rfl (eC (eI (by unfold spec_StepLibrary; rw [if_pos h47] <;> rfl)) (eC (eI (by unfold spec_StepLibrary; rw [if_pos h47] <;> rfl)) (eC (eI (by unfold spec_StepLibrary; rw [if_pos h47] <;> rfl)) rfl)))))) (eB (by unfold spec_StepLibrary; rw [if_pos h47] <;> rfl))), (SlO.eqv (SlO.nil (e := 73) (enc := encLMap) (fun _ => rfl) (by omega)) (by unfold spec_StepLibrary; rw [if_pos h47] <;> rfl)), (SlO.eqv (SlO.nil (e := 77) (enc := encAway) (fun _ => rfl) (by omega)) (by unfold spec_StepLibrary; rw [if_pos h47] <;> rfl)), (fun b_ h => by cases h), hB54⟩
  · have hq55 : LibOK x := (Classical.not_not.1 (not_or.1 h47).1)
    have hq56 : ¬ ((!(spec_l32Step x s)) = true) := (not_or.1 h47).2
    have hq57 := And.left hq55
    have hq58 := lib_len hq55
    have hq59 := bnot_n hq56
    have hq60 := And.left hq57
    have hq61 := And.right hq57
    refine W.skip ?_
    refine W.seq ?_
    have hm62 := ((hb14).lo hk20).lo hk44
    refine W.regS (SR.q' (r_lda (l := [.slice Ax_Maps nx_Maps cx_Maps, .slice Ax_Away nx_Away cx_Away, .int .i64 x.Bought, .int .i64 x.Dropped, .int .i64 x.Mended]) agg31 rfl (fun _ _ hu => ((hm25).lo hk44).cell hu) rfl) <| SR.q' (r_lda (l := [.int .i64 s.Kind, .int .i64 s.Id, .int .i64 s.Reader, .int .i64 s.Value]) agg49 rfl (fun _ _ hu => (hm62).cell hu) rfl) <| SR.call ent68 (c_spec_l32Make w42 x (((hm26).lo hk44)) (((hm27).lo hk44)) s (by assumption) (by assumption)) rfl ?_)
    rintro e w63 ⟨A65, n66, c67, A69, n70, c71, rfl, hO68, hO72, hd73, hk64⟩
    refine ⟨_, rfl, ?_⟩
    have hz74 := hk64.size
    have hB75 := hB46.lo hk64
    have hl76 := hO68.len
    have hl77 := hO68.rd.bound
    have hl78 := hO72.len
    have hl79 := hO72.rd.bound
    refine SR.q' (r_mv (v := .tuple (List.toArray _)) rfl) <| SR.q' (r_ext (v := .agg (List.toArray _)) rfl rfl) <| SR.q' (r_ext (v := .bool _) rfl rfl) <| SR.alloc (l := [.slice none 0 0, .slice none 0 0, .int .i64 0, .int .i64 0, .int .i64 0]) tz31 rfl ?_
    intro g80 w81 hg82 hk83 hs84 hb85
    have hz86 := hk83.size
    have hB87 := hB75.lo hk83
    have hd88 : ¬ A65 = some ⟨g80, 0, none⟩ := fun e' => by have := (hO68).base_le e'; omega
    have hd89 : ¬ A69 = some ⟨g80, 0, none⟩ := fun e' => by have := (hO72).base_le e'; omega
    refine SR.store (o := 0) (vs := [.slice A65 n66 c67, .slice A69 n70 c71, .int .i64 (((spec_l32Make x s).1).Bought), .int .i64 (((spec_l32Make x s).1).Dropped), .int .i64 (((spec_l32Make x s).1).Mended)]) agg31.2 rfl rfl rfl rfl (hb85) (Nat.le_of_ble_eq_true rfl) rfl ?_
    intro w90 hk91 hs92 hb93
    have hz94 := hk91.size
    have hB95 := hB87.new hk91 (by omega)
    refine SR.q' (r_as (v := .bool _) rfl) <| SR.nil ?_
    refine W.seq ?_
    refine W.seq ?_
    have hm96 := ((((hb22).lo hk44).lo hk64).lo hk83).kp hk91 (fun e' => by have e'' : g17 = g80 := e'; omega)
    have hm97 := ((hO68).lo hk83).kp hk91 (fun b_ hb e' => hd88 (by have e'' : b_ = g80 := e'; rw [← e'']; exact hb))
    have hm98 := ((hO72).lo hk83).kp hk91 (fun b_ hb e' => hd89 (by have e'' : b_ = g80 := e'; rw [← e'']; exact hb))
    refine W.regS (SR.q' (r_mv (v := .bool _) rfl) <| SR.q' (r_not rfl) <| SR.nil ?_)
    refine W.cond_b rfl (fun h99 => ?_) (fun h99 => ?_)
    · have hq100 := bnot_t h99
      refine W.seq ?_
      refine W.regS (SR.q' (r_build (vs := []) rfl (bld31_)) <| SR.store (o := 0) (vs := [.slice none 0 0, .slice none 0 0, .int .i64 0, .int .i64 0, .int .i64 0]) agg31.2 rfl rfl rfl rfl (hm96) (Nat.le_of_ble_eq_true rfl) rfl ?_)
      intro w101 hk102 hs103 hb104
      have hz105 := hk102.size
      have hB106 := hB95.new hk102 (by omega)
      refine SR.q' (r_as (v := .bool false) rfl) <| SR.nil ?_
      refine W.ret ?_
      refine retCT rfl rfl agg31 (hb104) rfl (v := .bool _) rfl ?_
      exact ⟨none, 0, 0, none, 0, 0, eR (eT2 (eA (eC rfl (eC rfl (eC (eI (by unfold spec_StepLibrary; rw [if_neg h47, if_pos h99] <;> rfl)) (eC (eI (by unfold spec_StepLibrary; rw [if_neg h47, if_pos h99] <;> rfl)) (eC (eI (by unfold spec_StepLibrary; rw [if_neg h47, if_pos h99] <;> rfl)) rfl)))))) (eB (by unfold spec_StepLibrary; rw [if_neg h47, if_pos h99] <;> rfl))), (SlO.eqv (SlO.nil (e := 73) (enc := encLMap) (fun _ => rfl) (by omega)) (by unfold spec_StepLibrary; rw [if_neg h47, if_pos h99] <;> rfl)), (SlO.eqv (SlO.nil (e := 77) (enc := encAway) (fun _ => rfl) (by omega)) (by unfold spec_StepLibrary; rw [if_neg h47, if_pos h99] <;> rfl)), (fun b_ h => by cases h), hB106⟩
    · have hq107 := bnot_f h99
      refine W.skip ?_
      refine W.seq ?_
      refine W.regS (SR.q' (r_lda (l := [.slice A65 n66 c67, .slice A69 n70 c71, .int .i64 (((spec_l32Make x s).1).Bought), .int .i64 (((spec_l32Make x s).1).Dropped), .int .i64 (((spec_l32Make x s).1).Mended)]) agg31 rfl (fun _ _ hu => (hb93).cell hu) rfl) <| SR.store (o := 0) (vs := [.slice A65 n66 c67, .slice A69 n70 c71, .int .i64 (((spec_l32Make x s).1).Bought), .int .i64 (((spec_l32Make x s).1).Dropped), .int .i64 (((spec_l32Make x s).1).Mended)]) agg31.2 rfl rfl rfl rfl (hm96) (Nat.le_of_ble_eq_true rfl) rfl ?_)
      intro w108 hk109 hs110 hb111
      have hz112 := hk109.size
      have hB113 := hB95.new hk109 (by omega)
      refine SR.q' (r_as (v := .bool true) rfl) <| SR.nil ?_
      refine W.ret ?_
      refine retCT rfl rfl agg31 (hb111) rfl (v := .bool _) rfl ?_
      exact ⟨A65, n66, c67, A69, n70, c71, eR (eT2 (eA (eC rfl (eC rfl (eC (eI (by subst hl76 hl78; unfold spec_StepLibrary; rw [if_neg h47, if_neg (ne_true_of_eq_false h99)] <;> rfl)) (eC (eI (by subst hl76 hl78; unfold spec_StepLibrary; rw [if_neg h47, if_neg (ne_true_of_eq_false h99)] <;> rfl)) (eC (eI (by subst hl76 hl78; unfold spec_StepLibrary; rw [if_neg h47, if_neg (ne_true_of_eq_false h99)] <;> rfl)) rfl)))))) (eB (by subst hl76 hl78; unfold spec_StepLibrary; rw [if_neg h47, if_neg (ne_true_of_eq_false h99)] <;> rfl))), (SlO.eqv (((hm97).kp hk109 (fun b_ hb e' => by have e'' : b_ = g17 := e'; have := (hm97).base_le hb; omega)).down (by omega)) (by subst hl76 hl78; unfold spec_StepLibrary; rw [if_neg h47, if_neg (ne_true_of_eq_false h99)] <;> rfl)), (SlO.eqv (((hm98).kp hk109 (fun b_ hb e' => by have e'' : b_ = g17 := e'; have := (hm98).base_le hb; omega)).down (by omega)) (by subst hl76 hl78; unfold spec_StepLibrary; rw [if_neg h47, if_neg (ne_true_of_eq_false h99)] <;> rfl)), hd73, hB113⟩
end Go.Proofs.Ytbodnffjgmaloaa
