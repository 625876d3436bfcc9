/- Walks, printed by a program of this claim's author. -/
import Derived.Test.YtbodnffjgmaloaaChecked
import Derived.Test.YtbodnffjgmaloaaUa
import Derived.Test.YtbodnffjgmaloaaFs
import Derived.Test.YtbodnffjgmaloaaFq
import Derived.Test.YtbodnffjgmaloaaUg
import Derived.Test.YtbodnffjgmaloaaG32m
namespace Go.Proofs.Ytbodnffjgmaloaa
open Go Go.RowKit Fw
set_option maxRecDepth 10000
set_option linter.unusedVariables false
theorem agg25 : TAgg Try.prog 25 5 := ⟨fun _ => by kernel_rfl, fun _ => by kernel_rfl⟩
theorem agg46 : TAgg Try.prog 46 4 := ⟨fun _ => by kernel_rfl, fun _ => by kernel_rfl⟩
theorem ent12 : Ent Try.prog 12 := ent_of Try.func12 (by decide +kernel) rfl
theorem ent14 : Ent Try.prog 14 := ent_of Try.func14 (by decide +kernel) rfl
theorem ent16 : Ent Try.prog 16 := ent_of Try.func16 (by decide +kernel) rfl
theorem ent24 : Ent Try.prog 24 := ent_of Try.func24 (by decide +kernel) rfl
theorem ent31 : Ent Try.prog 31 := ent_of Try.func31 (by decide +kernel) rfl
theorem ent32 : Ent Try.prog 32 := ent_of Try.func32 (by decide +kernel) rfl
theorem ent33 : Ent Try.prog 33 := ent_of Try.func33 (by decide +kernel) rfl
theorem ent34 : Ent Try.prog 34 := ent_of Try.func34 (by decide +kernel) rfl
theorem ent80 : Ent Try.prog 80 := ent_of Try.func80 (by decide +kernel) rfl
theorem fa46_0 : FA Try.prog 46 0 0 := fun _ _ => by kernel_rfl
theorem fa46_1 : FA Try.prog 46 1 1 := fun _ _ => by kernel_rfl
theorem fa46_2 : FA Try.prog 46 2 2 := fun _ _ => by kernel_rfl
theorem fa46_3 : FA Try.prog 46 3 3 := fun _ _ => by kernel_rfl
theorem tel57 : TEl Try.prog 57 49 (.agg (List.toArray [.int .i64 0, .int .i64 0, .int .i64 0, .int .i64 0])) 4 32 := ⟨by kernel_rfl, by kernel_rfl, rfl, by decide⟩
theorem tsl57 : TSl Try.prog 57 49 4 := ⟨by kernel_rfl, fun _ => by kernel_rfl⟩
theorem tsl62 : TSl Try.prog 62 46 4 := ⟨by kernel_rfl, fun _ => by kernel_rfl⟩
theorem tz49 : TZ Try.prog 49 (.agg (List.toArray [.int .i64 0, .int .i64 0, .int .i64 0, .int .i64 0])) := fun _ => by kernel_rfl
theorem und4 : Try.prog.underlying 4 = some (.bool) := by kernel_rfl
theorem und57 : Try.prog.underlying 57 = some (.slice 49) := by kernel_rfl
theorem und62 : Try.prog.underlying 62 = some (.slice 46) := by kernel_rfl

theorem z_c_laws_toLibraryStep_59 (r : LibraryStep) : ([.int .i64 r.Kind, .int .i64 r.Id, .int .i64 r.Reader, .int .i64 r.Value] : List Value) = encLibraryStep r := by
  first | rfl | (first | rfl | omega | grind)
theorem c_laws_toLibraryStep (w : World) (r : LibraryStep) : Calls Try.prog 32 #[.agg (List.toArray (encLibraryStep r))] w fun e w' => e = .returned (.agg (List.toArray (encLibraryStep r))) ∧ Lo w w' := by
  refine calls_W 17 Try.func32 rfl rfl rfl ?_
  refine W.seq ?_
  refine W.regS (SR.box (v := .agg (List.toArray _)) (l := [.int .i64 r.Kind, .int .i64 r.Id, .int .i64 r.Reader, .int .i64 r.Value]) rfl rfl ?_)
  intro g1 w2 hg3 hk4 hs5 hb6
  have hz7 := hk4.size
  have hB8 := (Lo.refl w).lo hk4
  refine SR.alloc (l := [.int .i64 0, .int .i64 0, .int .i64 0, .int .i64 0]) tz49 rfl ?_
  intro g9 w10 hg11 hk12 hs13 hb14
  have hz15 := hk12.size
  have hB16 := hB8.lo hk12
  refine SR.nil ?_
  refine W.seq ?_
  refine W.regS (SR.alloc (l := [.int .i64 0, .int .i64 0, .int .i64 0, .int .i64 0]) tz49 rfl ?_)
  intro g17 w18 hg19 hk20 hs21 hb22
  have hz23 := hk20.size
  have hB24 := hB16.lo hk20
  refine SR.nil ?_
  refine W.seq ?_
  have hm25 := ((hb6).lo hk12).lo hk20
  refine W.regS (SR.q' (r_fa fa46_0 rfl) <| SR.q' (r_ld (v := .int .i64 r.Kind) sca3 rfl ((hm25).cell rfl)) <| SR.q' (r_fa fa49_0 rfl) <| SR.store (o := 0) (vs := [.int .i64 r.Kind]) sca3.2 rfl rfl rfl rfl (hb22) (Nat.le_of_ble_eq_true rfl) rfl ?_)
  intro w26 hk27 hs28 hb29
  have hz30 := hk27.size
  have hB31 := hB24.new hk27 (by omega)
  refine SR.nil ?_
  refine W.seq ?_
  have hm32 := ((hb14).lo hk20).kp hk27 (fun e' => by have e'' : g9 = g17 := e'; omega)
  refine W.regS (SR.q' (r_fa fa46_1 rfl) <| SR.q' (r_ld (v := .int .i64 r.Id) sca3 rfl (((hm25).kp hk27 (fun e' => by have e'' : g1 = g17 := e'; omega)).cell rfl)) <| SR.q' (r_fa fa49_1 rfl) <| SR.store (o := 1) (vs := [.int .i64 r.Id]) sca3.2 rfl rfl rfl rfl (hb29) (Nat.le_of_ble_eq_true rfl) rfl ?_)
  intro w33 hk34 hs35 hb36
  have hz37 := hk34.size
  have hB38 := hB31.new hk34 (by omega)
  refine SR.nil ?_
  refine W.seq ?_
  have hm39 := ((hm25).kp hk27 (fun e' => by have e'' : g1 = g17 := e'; omega)).kp hk34 (fun e' => by have e'' : g1 = g17 := e'; omega)
  refine W.regS (SR.q' (r_fa fa46_2 rfl) <| SR.q' (r_ld (v := .int .i64 r.Reader) sca3 rfl ((hm39).cell rfl)) <| SR.q' (r_fa fa49_2 rfl) <| SR.store (o := 2) (vs := [.int .i64 r.Reader]) sca3.2 rfl rfl rfl rfl (hb36) (Nat.le_of_ble_eq_true rfl) rfl ?_)
  intro w40 hk41 hs42 hb43
  have hz44 := hk41.size
  have hB45 := hB38.new hk41 (by omega)
  refine SR.nil ?_
  refine W.seq ?_
  have hm46 := ((hm32).kp hk34 (fun e' => by have e'' : g9 = g17 := e'; omega)).kp hk41 (fun e' => by have e'' : g9 = g17 := e'; omega)
  refine W.regS (SR.q' (r_fa fa46_3 rfl) <| SR.q' (r_ld (v := .int .i64 r.Value) sca3 rfl (((hm39).kp hk41 (fun e' => by have e'' : g1 = g17 := e'; omega)).cell rfl)) <| SR.q' (r_fa fa49_3 rfl) <| SR.store (o := 3) (vs := [.int .i64 r.Value]) sca3.2 rfl rfl rfl rfl (hb43) (Nat.le_of_ble_eq_true rfl) rfl ?_)
  intro w47 hk48 hs49 hb50
  have hz51 := hk48.size
  have hB52 := hB45.new hk48 (by omega)
  refine SR.nil ?_
  refine W.seq ?_
  refine W.regS (SR.q' (r_lda (l := [.int .i64 r.Kind, .int .i64 r.Id, .int .i64 r.Reader, .int .i64 r.Value]) agg49 rfl (fun _ _ hu => (hb50).cell hu) rfl) <| SR.store (o := 0) (vs := [.int .i64 r.Kind, .int .i64 r.Id, .int .i64 r.Reader, .int .i64 r.Value]) agg49.2 rfl rfl rfl rfl ((hm46).kp hk48 (fun e' => by have e'' : g9 = g17 := e'; omega)) (Nat.le_of_ble_eq_true rfl) rfl ?_)
  intro w53 hk54 hs55 hb56
  have hz57 := hk54.size
  have hB58 := hB52.new hk54 (by omega)
  refine SR.nil ?_
  refine W.ret ?_
  refine retC rfl rfl agg49 (hb56) rfl ?_
  exact ⟨eR (eA (z_c_laws_toLibraryStep_59 r)), hB58⟩

theorem z_c_laws_szLibraryStepS_2 (L : List LibraryStep) (nL : Nat) (hbdL : (nL : Int) ≤ 9223372036854775807) (hleL : nL = L.length) (left : Int) (hp0 : 0 ≤ left) (hp1 : left ≤ 1048576) (h1 : (left - (nL : Int)) < 0) : (-1) = szN L.length left := by
  unfold szN; split <;> omega
theorem z_c_laws_szLibraryStepS_3 (L : List LibraryStep) (nL : Nat) (hbdL : (nL : Int) ≤ 9223372036854775807) (hleL : nL = L.length) (left : Int) (hp0 : 0 ≤ left) (hp1 : left ≤ 1048576) (h1 : ¬ ((left - (nL : Int)) < 0)) : left - (nL : Int) = szN L.length left := by
  unfold szN; split <;> omega
theorem c_laws_szLibraryStepS (w : World) {AL : Option Addr} {nL cL BL : Nat}  (L : List LibraryStep) (hL : SlR w BL encLibraryStep 4 AL nL cL L) (left : Int) (hp0 : 0 ≤ left) (hp1 : left ≤ 1048576) : Calls Try.prog 42 #[.slice AL nL cL, .int .i64 left] w fun e w' => e = .returned (.int .i64 (szN L.length left)) ∧ Lo w w' := by
  refine calls_W 12 Try.func42 rfl rfl rfl ?_
  have hbdL := hL.bound
  have hleL := hL.len
  have hBbL := hL.bd
  refine W.seq ?_
  refine W.regS (SR.q' (r_as (v := .int .i64 0) rfl) <| SR.nil ?_)
  refine W.seq ?_
  refine W.regS (SR.q' (r_mv (v := .int .i64 _) rfl) <| SR.q' (r_mv (v := .slice _ _ _) rfl) <| SR.q' (r_len und62 rfl) <| SR.q' (r_sub rfl rfl (by omega)) <| SR.q' (r_as (v := .int .i64 _) rfl) <| SR.nil ?_)
  refine W.seq ?_
  refine W.seq ?_
  refine W.regS (SR.q' (r_mv (v := .int .i64 _) rfl) <| SR.q' (r_lt rfl rfl) <| SR.nil ?_)
  refine W.cond_d rfl (fun h1 => ?_) (fun h1 => ?_)
  · refine W.seq ?_
    refine W.regS (SR.q' (r_as (v := .int .i64 (-1)) rfl) <| SR.nil ?_)
    refine W.ret ?_
    refine ret1 rfl (v := .int .i64 _) rfl ?_
    exact ⟨eR (eI (z_c_laws_szLibraryStepS_2 L nL hbdL hleL left hp0 hp1 h1)), (Lo.refl w)⟩
  · refine W.skip ?_
    refine W.seq ?_
    refine W.regS (SR.q' (r_mv (v := .int .i64 _) rfl) <| SR.q' (r_as (v := .int .i64 _) rfl) <| SR.nil ?_)
    refine W.ret ?_
    refine ret1 rfl (v := .int .i64 _) rfl ?_
    exact ⟨eR (eI (z_c_laws_szLibraryStepS_3 L nL hbdL hleL left hp0 hp1 h1)), (Lo.refl w)⟩

theorem z_c_laws_toLibraryStepS_8 (L : List LibraryStep) (nL : Nat) (hbdL : (nL : Int) ≤ 9223372036854775807) (hleL : nL = L.length) (hp0 : (nL : Int) ≤ 1048576) : 0 ≤ nL := by
  omega
theorem z_c_laws_toLibraryStepS_9 (L : List LibraryStep) (nL : Nat) (hbdL : (nL : Int) ≤ 9223372036854775807) (hleL : nL = L.length) (hp0 : (nL : Int) ≤ 1048576) : List.replicate nL (⟨0, 0, 0, 0⟩ : LibraryStep) = L.take 0 ++ List.replicate (nL - 0) (⟨0, 0, 0, 0⟩ : LibraryStep) := by
  exact tk_init
theorem z_c_laws_toLibraryStepS_34 (L : List LibraryStep) (nL : Nat) (hbdL : (nL : Int) ≤ 9223372036854775807) (hleL : nL = L.length) (hp0 : (nL : Int) ≤ 1048576) (k : Nat) (hi16 : k ≤ nL) (h17 : (k : Int) < (nL : Int)) (x18 : LibraryStep) (hx19 : L[k]? = some x18) (x24 : LibraryStep) (hx25 : (L.take k ++ List.replicate (nL - k) (⟨0, 0, 0, 0⟩ : LibraryStep))[k]? = some x24) : (L.take k ++ List.replicate (nL - k) (⟨0, 0, 0, 0⟩ : LibraryStep)).set ((k : Int).toNat) x18 = L.take (k + 1) ++ List.replicate (nL - (k + 1)) (⟨0, 0, 0, 0⟩ : LibraryStep) := by
  exact tk_set (by assumption) hleL
theorem z_c_laws_toLibraryStepS_35 (L : List LibraryStep) (nL : Nat) (hbdL : (nL : Int) ≤ 9223372036854775807) (hleL : nL = L.length) (hp0 : (nL : Int) ≤ 1048576) (k : Nat) (hi16 : k ≤ nL) (h17 : (k : Int) < (nL : Int)) (x18 : LibraryStep) (hx19 : L[k]? = some x18) (x24 : LibraryStep) (hx25 : (L.take k ++ List.replicate (nL - k) (⟨0, 0, 0, 0⟩ : LibraryStep))[k]? = some x24) : k + 1 ≤ nL := by
  omega
theorem z_c_laws_toLibraryStepS_36 (L : List LibraryStep) (nL : Nat) (hbdL : (nL : Int) ≤ 9223372036854775807) (hleL : nL = L.length) (hp0 : (nL : Int) ≤ 1048576) (k : Nat) (hi16 : k ≤ nL) (h17 : (k : Int) < (nL : Int)) (x18 : LibraryStep) (hx19 : L[k]? = some x18) (x24 : LibraryStep) (hx25 : (L.take k ++ List.replicate (nL - k) (⟨0, 0, 0, 0⟩ : LibraryStep))[k]? = some x24) : nL - (k + 1) < nL - k := by
  omega
theorem z_c_laws_toLibraryStepS_37 (L : List LibraryStep) (nL : Nat) (hbdL : (nL : Int) ≤ 9223372036854775807) (hleL : nL = L.length) (hp0 : (nL : Int) ≤ 1048576) (k : Nat) (hi16 : k ≤ nL) (h17 : ¬ ((k : Int) < (nL : Int))) : L.take k ++ List.replicate (nL - k) (⟨0, 0, 0, 0⟩ : LibraryStep) = L := by
  exact tk_end hleL (by assumption) (by omega)
theorem c_laws_toLibraryStepS (w : World) {AL : Option Addr} {nL cL BL : Nat}  (L : List LibraryStep) (hL : SlR w BL encLibraryStep 4 AL nL cL L) (hp0 : (nL : Int) ≤ 1048576) : Calls Try.prog 43 #[.slice AL nL cL] w fun e w' => ∃ (A1' : Option Addr) (n1' c1' : Nat), e = .returned (.slice A1' n1' c1') ∧ SlO w' w.heap.size encLibraryStep 4 49 A1' n1' c1' L ∧ Lo w w' := by
  refine calls_W 23 Try.func43 rfl rfl rfl ?_
  have hbdL := hL.bound
  have hleL := hL.len
  have hBbL := hL.bd
  refine W.seq ?_
  refine W.regS (SR.q' (r_as (v := .slice none 0 0) rfl) <| SR.nil ?_)
  refine W.seq ?_
  refine W.regS (SR.q' (r_mv (v := .slice _ _ _) rfl) <| SR.q' (r_len und62 rfl) <| SR.make (m := nL) (zx := (⟨0, 0, 0, 0⟩ : LibraryStep)) (enc := encLibraryStep) tel57 rfl (fun _ => rfl) rfl rfl (by omega) (by omega) ?_)
  intro g1 w2 hg3 hk4 hO5
  have hz6 := hk4.size
  have hB7 := (Lo.refl w).lo hk4
  refine SR.q' (r_as (v := .slice _ _ _) rfl) <| SR.nil ?_
  refine W.seq ?_
  refine W.seq ?_
  refine W.regS (SR.q' (r_as (v := .int .i64 0) rfl) <| SR.nil ?_)
  refine W.block ?_
  refine W.loop (σ := Nat) (fun g => [(0, .slice AL nL cL), (2, .slice none 0 0), (3, .slice (some (⟨g1, 0, none⟩ : Addr)) nL nL), (4, .int .i64 (g : Int))]) (fun g w' => (Lo w w') ∧ (SlR w' BL encLibraryStep 4 AL nL cL L) ∧ (SlO w' w.heap.size encLibraryStep 4 49 (some (⟨g1, 0, none⟩ : Addr)) nL nL (L.take g ++ List.replicate (nL - g) (⟨0, 0, 0, 0⟩ : LibraryStep))) ∧ (g ≤ nL)) (fun g => nL - g) 0 ?_ ?_ ?_
  · exact ⟨rfl, rfl, rfl, rfl, trivial⟩
  · exact ⟨hB7, (hL).lo hk4, (SlO.eqv (hO5) (z_c_laws_toLibraryStepS_9 L nL hbdL hleL hp0)), (z_c_laws_toLibraryStepS_8 L nL hbdL hleL hp0)⟩
  · rintro k f10 w11 hP13
    obtain ⟨hB12, hm14, hm15, hi16⟩ : (Lo w w11) ∧ (SlR w11 BL encLibraryStep 4 AL nL cL L) ∧ (SlO w11 w.heap.size encLibraryStep 4 49 (some (⟨g1, 0, none⟩ : Addr)) nL nL (L.take k ++ List.replicate (nL - k) (⟨0, 0, 0, 0⟩ : LibraryStep))) ∧ (k ≤ nL) := hP13
    refine (?_ : W _ _ _ _ _ (act _ (sets f10 [(0, .slice AL nL cL), (2, .slice none 0 0), (3, .slice (some (⟨g1, 0, none⟩ : Addr)) nL nL), (4, .int .i64 (k : Int))])) _)
    have hzw11 := hB12.size
    refine W.seq ?_
    refine W.seq ?_
    refine W.regS (SR.q' (r_mv (v := .int .i64 _) rfl) <| SR.q' (r_mv (v := .slice _ _ _) rfl) <| SR.q' (r_len und62 rfl) <| SR.q' (r_lt rfl rfl) <| SR.nil ?_)
    refine W.cond_d rfl (fun h17 => ?_) (fun h17 => ?_)
    · refine W.skip ?_
      refine W.seq ?_
      refine W.block ?_
      refine W.regS (SR.q' (r_mv (v := .slice _ _ _) rfl) <| SR.q' (r_mv (v := .int .i64 _) rfl) <| SR.q' (r_mv (v := .slice _ _ _) rfl) <| SR.q' (r_mv (v := .int .i64 _) rfl) <| ?_)
      obtain ⟨x18, hx19⟩ := (hm14).get (i := k) (by omega)
      refine SR.q' (r_ixR tsl62 (hm14) rfl rfl (by omega)) <| SR.q' (r_lda (l := encLibraryStep x18) agg46 rfl (fun _ _ hu => (hm14).cell hx19 hu) ((hm14).esz _)) <| SR.call ent32 (c_laws_toLibraryStep w11 x18) rfl ?_
      rintro e w20 ⟨rfl, hk21⟩
      refine ⟨_, rfl, ?_⟩
      have hz22 := hk21.size
      have hB23 := hB12.lo hk21
      obtain ⟨x24, hx25⟩ := (((hm15).lo hk21).rd).get (i := k) (by omega)
      refine SR.q' (r_ixR tsl57 (((hm15).lo hk21).rd) rfl rfl (by omega)) <| SR.storeO (o := 0) (vs := [.int .i64 x18.Kind, .int .i64 x18.Id, .int .i64 x18.Reader, .int .i64 x18.Value]) (x1 := x18) agg49.2 rfl rfl rfl rfl ((hm15).lo hk21) hx25 rfl (Nat.le_of_ble_eq_true rfl) rfl ?_
      intro w26 hk27 hs28 hO29
      have hz30 := hk27.size
      have hB31 := hB23.step hk27 (fun i_ hi_ e' => by have := (((hm15).lo hk21)).base_le e'; first | omega | (exfalso; omega) | exact e' | exact .inl e' | exact .inr e')
      have hx32 : ((L.take k ++ List.replicate (nL - k) (⟨0, 0, 0, 0⟩ : LibraryStep)).set ((k : Int).toNat) x18)[(k : Int).toNat]? = some (x18) := List.getElem?_set_self (List.getElem?_eq_some_iff.1 hx25).1
      refine SR.nil ?_
      have hm33 := ((hm14).lo hk21).kp hk27 (fun b_ hb e' => by have := (((hm15).lo hk21)).base_le e'; omega)
      refine W.regS (SR.q' (r_mv (v := .int .i64 _) rfl) <| SR.q' (r_add rfl rfl (by omega)) <| SR.q' (r_as (v := .int .i64 _) rfl) <| SR.nil ?_)
      refine ⟨k + 1, _, rfl, ⟨rfl, rfl, rfl, rfl, trivial⟩, ⟨hB31, hm33, (SlO.eqv (hO29) (z_c_laws_toLibraryStepS_34 L nL hbdL hleL hp0 k hi16 h17 x18 hx19 x24 hx25)), ?_⟩, ?_⟩
      · exact (z_c_laws_toLibraryStepS_35 L nL hbdL hleL hp0 k hi16 h17 x18 hx19 x24 hx25)
      · exact (z_c_laws_toLibraryStepS_36 L nL hbdL hleL hp0 k hi16 h17 x18 hx19 x24 hx25)
    · refine W.exit (xin_here ?_)
      refine W.seq ?_
      refine W.regS (SR.q' (r_mv (v := .slice _ _ _) rfl) <| SR.q' (r_as (v := .slice _ _ _) rfl) <| SR.nil ?_)
      refine W.ret ?_
      refine ret1 rfl (v := .slice _ _ _) rfl ?_
      exact ⟨(some (⟨g1, 0, none⟩ : Addr)), nL, nL, eR rfl, (SlO.eqv ((hm15).down (by omega)) (z_c_laws_toLibraryStepS_37 L nL hbdL hleL hp0 k hi16 h17)), hB12⟩

theorem z_c_laws_eqLibraryStep_18 (a : LibraryStep) (b : LibraryStep) (h17 : ¬ (a.Kind = b.Kind)) : ¬ (a = b) := by
  cases a; cases b; simp_all
theorem z_c_laws_eqLibraryStep_20 (a : LibraryStep) (b : LibraryStep) (h17 : a.Kind = b.Kind) (h19 : ¬ (a.Id = b.Id)) : ¬ (a = b) := by
  cases a; cases b; simp_all
theorem z_c_laws_eqLibraryStep_22 (a : LibraryStep) (b : LibraryStep) (h17 : a.Kind = b.Kind) (h19 : a.Id = b.Id) (h21 : ¬ (a.Reader = b.Reader)) : ¬ (a = b) := by
  cases a; cases b; simp_all
theorem z_c_laws_eqLibraryStep_24 (a : LibraryStep) (b : LibraryStep) (h17 : a.Kind = b.Kind) (h19 : a.Id = b.Id) (h21 : a.Reader = b.Reader) (h23 : ¬ (a.Value = b.Value)) : ¬ (a = b) := by
  cases a; cases b; simp_all
theorem z_c_laws_eqLibraryStep_25 (a : LibraryStep) (b : LibraryStep) (h17 : a.Kind = b.Kind) (h19 : a.Id = b.Id) (h21 : a.Reader = b.Reader) (h23 : a.Value = b.Value) : a = b := by
  cases a; cases b; simp_all
theorem c_laws_eqLibraryStep (w : World) (a : LibraryStep) (b : LibraryStep) : Calls Try.prog 80 #[.agg (List.toArray (encLibraryStep a)), .agg (List.toArray (encLibraryStep b))] w fun e w' => e = .returned (.bool (decide (a = b))) ∧ Lo w w' := by
  refine calls_W 25 Try.func80 rfl rfl rfl ?_
  refine W.seq ?_
  refine W.regS (SR.box (v := .agg (List.toArray _)) (l := [.int .i64 a.Kind, .int .i64 a.Id, .int .i64 a.Reader, .int .i64 a.Value]) rfl rfl ?_)
  intro g1 w2 hg3 hk4 hs5 hb6
  have hz7 := hk4.size
  have hB8 := (Lo.refl w).lo hk4
  refine SR.box (v := .agg (List.toArray _)) (l := [.int .i64 b.Kind, .int .i64 b.Id, .int .i64 b.Reader, .int .i64 b.Value]) rfl rfl ?_
  intro g9 w10 hg11 hk12 hs13 hb14
  have hz15 := hk12.size
  have hB16 := hB8.lo hk12
  refine SR.q' (r_as (v := .bool false) rfl) <| SR.nil ?_
  refine W.seq ?_
  refine W.seq ?_
  refine W.regS (SR.q' (r_fa fa49_0 rfl) <| SR.q' (r_ld (v := .int .i64 a.Kind) sca3 rfl (((hb6).lo hk12).cell rfl)) <| SR.q' (r_fa fa49_0 rfl) <| SR.q' (r_ld (v := .int .i64 b.Kind) sca3 rfl ((hb14).cell rfl)) <| SR.q' (r_ne rfl rfl) <| SR.nil ?_)
  refine W.cond_n rfl (fun h17 => ?_) (fun h17 => ?_)
  · refine W.seq ?_
    refine W.regS (SR.q' (r_as (v := .bool false) rfl) <| SR.nil ?_)
    refine W.ret ?_
    refine ret1 rfl (v := .bool _) rfl ?_
    exact ⟨eR (eDF (z_c_laws_eqLibraryStep_18 a b h17)), hB16⟩
  · refine W.skip ?_
    refine W.seq ?_
    refine W.seq ?_
    refine W.regS (SR.q' (r_fa fa49_1 rfl) <| SR.q' (r_ld (v := .int .i64 a.Id) sca3 rfl (((hb6).lo hk12).cell rfl)) <| SR.q' (r_fa fa49_1 rfl) <| SR.q' (r_ld (v := .int .i64 b.Id) sca3 rfl ((hb14).cell rfl)) <| SR.q' (r_ne rfl rfl) <| SR.nil ?_)
    refine W.cond_n rfl (fun h19 => ?_) (fun h19 => ?_)
    · refine W.seq ?_
      refine W.regS (SR.q' (r_as (v := .bool false) rfl) <| SR.nil ?_)
      refine W.ret ?_
      refine ret1 rfl (v := .bool _) rfl ?_
      exact ⟨eR (eDF (z_c_laws_eqLibraryStep_20 a b h17 h19)), hB16⟩
    · refine W.skip ?_
      refine W.seq ?_
      refine W.seq ?_
      refine W.regS (SR.q' (r_fa fa49_2 rfl) <| SR.q' (r_ld (v := .int .i64 a.Reader) sca3 rfl (((hb6).lo hk12).cell rfl)) <| SR.q' (r_fa fa49_2 rfl) <| SR.q' (r_ld (v := .int .i64 b.Reader) sca3 rfl ((hb14).cell rfl)) <| SR.q' (r_ne rfl rfl) <| SR.nil ?_)
      refine W.cond_n rfl (fun h21 => ?_) (fun h21 => ?_)
      · refine W.seq ?_
        refine W.regS (SR.q' (r_as (v := .bool false) rfl) <| SR.nil ?_)
        refine W.ret ?_
        refine ret1 rfl (v := .bool _) rfl ?_
        exact ⟨eR (eDF (z_c_laws_eqLibraryStep_22 a b h17 h19 h21)), hB16⟩
      · refine W.skip ?_
        refine W.seq ?_
        refine W.seq ?_
        refine W.regS (SR.q' (r_fa fa49_3 rfl) <| SR.q' (r_ld (v := .int .i64 a.Value) sca3 rfl (((hb6).lo hk12).cell rfl)) <| SR.q' (r_fa fa49_3 rfl) <| SR.q' (r_ld (v := .int .i64 b.Value) sca3 rfl ((hb14).cell rfl)) <| SR.q' (r_ne rfl rfl) <| SR.nil ?_)
        refine W.cond_n rfl (fun h23 => ?_) (fun h23 => ?_)
        · refine W.seq ?_
          refine W.regS (SR.q' (r_as (v := .bool false) rfl) <| SR.nil ?_)
          refine W.ret ?_
          refine ret1 rfl (v := .bool _) rfl ?_
          exact ⟨eR (eDF (z_c_laws_eqLibraryStep_24 a b h17 h19 h21 h23)), hB16⟩
        · refine W.skip ?_
          refine W.seq ?_
          refine W.regS (SR.q' (r_as (v := .bool true) rfl) <| SR.nil ?_)
          refine W.ret ?_
          refine ret1 rfl (v := .bool _) rfl ?_
          exact ⟨eR (eDT (z_c_laws_eqLibraryStep_25 a b h17 h19 h21 h23)), hB16⟩

theorem z_c_laws_eqLibraryStepS_2 (L : List LibraryStep) (nL : Nat) (hbdL : (nL : Int) ≤ 9223372036854775807) (hleL : nL = L.length) (M : List LibraryStep) (nM : Nat) (hbdM : (nM : Int) ≤ 9223372036854775807) (hleM : nM = M.length) (h1 : ¬ ((nL : Int) = (nM : Int))) : ¬ (L = M) := by
  first | (intro e; subst e; omega) | exact ne_at ‹L[_]? = some _› ‹M[_]? = some _› ‹_› | exact take_end (And.right ‹_ ∧ L.take _ = M.take _›) hleL hleM (by omega) ‹_›
theorem z_c_laws_eqLibraryStepS_3 (L : List LibraryStep) (nL : Nat) (hbdL : (nL : Int) ≤ 9223372036854775807) (hleL : nL = L.length) (M : List LibraryStep) (nM : Nat) (hbdM : (nM : Int) ≤ 9223372036854775807) (hleM : nM = M.length) (h1 : (nL : Int) = (nM : Int)) : 0 ≤ nL ∧ L.take 0 = M.take 0 := by
  simp
theorem z_c_laws_eqLibraryStepS_21 (L : List LibraryStep) (nL : Nat) (hbdL : (nL : Int) ≤ 9223372036854775807) (hleL : nL = L.length) (M : List LibraryStep) (nM : Nat) (hbdM : (nM : Int) ≤ 9223372036854775807) (hleM : nM = M.length) (h1 : (nL : Int) = (nM : Int)) (k : Nat) (hi10 : k ≤ nL ∧ L.take k = M.take k) (h11 : (k : Int) < (nL : Int)) (x12 : LibraryStep) (hx13 : L[k]? = some x12) (x14 : LibraryStep) (hx15 : M[k]? = some x14) (h20 : ¬ (x12 = x14)) : ¬ (L = M) := by
  first | (intro e; subst e; omega) | exact ne_at ‹L[_]? = some _› ‹M[_]? = some _› ‹_› | exact take_end (And.right ‹_ ∧ L.take _ = M.take _›) hleL hleM (by omega) ‹_›
theorem z_c_laws_eqLibraryStepS_22 (L : List LibraryStep) (nL : Nat) (hbdL : (nL : Int) ≤ 9223372036854775807) (hleL : nL = L.length) (M : List LibraryStep) (nM : Nat) (hbdM : (nM : Int) ≤ 9223372036854775807) (hleM : nM = M.length) (h1 : (nL : Int) = (nM : Int)) (k : Nat) (hi10 : k ≤ nL ∧ L.take k = M.take k) (h11 : (k : Int) < (nL : Int)) (x12 : LibraryStep) (hx13 : L[k]? = some x12) (x14 : LibraryStep) (hx15 : M[k]? = some x14) (h20 : x12 = x14) : k + 1 ≤ nL ∧ L.take (k + 1) = M.take (k + 1) := by
  exact ⟨by omega, take_next (And.right ‹_ ∧ L.take _ = M.take _›) ‹L[_]? = some _› ‹M[_]? = some _› ‹_›⟩
theorem z_c_laws_eqLibraryStepS_23 (L : List LibraryStep) (nL : Nat) (hbdL : (nL : Int) ≤ 9223372036854775807) (hleL : nL = L.length) (M : List LibraryStep) (nM : Nat) (hbdM : (nM : Int) ≤ 9223372036854775807) (hleM : nM = M.length) (h1 : (nL : Int) = (nM : Int)) (k : Nat) (hi10 : k ≤ nL ∧ L.take k = M.take k) (h11 : (k : Int) < (nL : Int)) (x12 : LibraryStep) (hx13 : L[k]? = some x12) (x14 : LibraryStep) (hx15 : M[k]? = some x14) (h20 : x12 = x14) : nL - (k + 1) < nL - k := by
  omega
theorem z_c_laws_eqLibraryStepS_24 (L : List LibraryStep) (nL : Nat) (hbdL : (nL : Int) ≤ 9223372036854775807) (hleL : nL = L.length) (M : List LibraryStep) (nM : Nat) (hbdM : (nM : Int) ≤ 9223372036854775807) (hleM : nM = M.length) (h1 : (nL : Int) = (nM : Int)) (k : Nat) (hi10 : k ≤ nL ∧ L.take k = M.take k) (h11 : ¬ ((k : Int) < (nL : Int))) : L = M := by
  first | (intro e; subst e; omega) | exact ne_at ‹L[_]? = some _› ‹M[_]? = some _› ‹_› | exact take_end (And.right ‹_ ∧ L.take _ = M.take _›) hleL hleM (by omega) ‹_›
theorem c_laws_eqLibraryStepS (w : World) {AL : Option Addr} {nL cL BL : Nat}  (L : List LibraryStep) (hL : SlR w BL encLibraryStep 4 AL nL cL L) {AM : Option Addr} {nM cM BM : Nat}  (M : List LibraryStep) (hM : SlR w BM encLibraryStep 4 AM nM cM M) : Calls Try.prog 44 #[.slice AL nL cL, .slice AM nM cM] w fun e w' => e = .returned (.bool (decide (L = M))) ∧ Lo w w' := by
  refine calls_W 27 Try.func44 rfl rfl rfl ?_
  have hbdL := hL.bound
  have hleL := hL.len
  have hBbL := hL.bd
  have hbdM := hM.bound
  have hleM := hM.len
  have hBbM := hM.bd
  refine W.seq ?_
  refine W.regS (SR.q' (r_as (v := .bool false) rfl) <| SR.nil ?_)
  refine W.seq ?_
  refine W.seq ?_
  refine W.regS (SR.q' (r_mv (v := .slice _ _ _) rfl) <| SR.q' (r_len und57 rfl) <| SR.q' (r_mv (v := .slice _ _ _) rfl) <| SR.q' (r_len und57 rfl) <| SR.q' (r_ne rfl rfl) <| SR.nil ?_)
  refine W.cond_n rfl (fun h1 => ?_) (fun h1 => ?_)
  · refine W.seq ?_
    refine W.regS (SR.q' (r_as (v := .bool false) rfl) <| SR.nil ?_)
    refine W.ret ?_
    refine ret1 rfl (v := .bool _) rfl ?_
    exact ⟨eR (eDF (z_c_laws_eqLibraryStepS_2 L nL hbdL hleL M nM hbdM hleM h1)), (Lo.refl w)⟩
  · refine W.skip ?_
    refine W.seq ?_
    refine W.seq ?_
    refine W.regS (SR.q' (r_as (v := .int .i64 0) rfl) <| SR.nil ?_)
    refine W.block ?_
    refine W.loop (σ := Nat) (fun g => [(0, .slice AL nL cL), (1, .slice AM nM cM), (5, .int .i64 (g : Int))]) (fun g w' => (Lo w w') ∧ (SlR w' BL encLibraryStep 4 AL nL cL L) ∧ (SlR w' BM encLibraryStep 4 AM nM cM M) ∧ (g ≤ nL ∧ L.take g = M.take g)) (fun g => nL - g) 0 ?_ ?_ ?_
    · exact ⟨rfl, rfl, rfl, trivial⟩
    · exact ⟨(Lo.refl w), hL, hM, (z_c_laws_eqLibraryStepS_3 L nL hbdL hleL M nM hbdM hleM h1)⟩
    · rintro k f4 w5 hP7
      obtain ⟨hB6, hm8, hm9, hi10⟩ : (Lo w w5) ∧ (SlR w5 BL encLibraryStep 4 AL nL cL L) ∧ (SlR w5 BM encLibraryStep 4 AM nM cM M) ∧ (k ≤ nL ∧ L.take k = M.take k) := hP7
      refine (?_ : W _ _ _ _ _ (act _ (sets f4 [(0, .slice AL nL cL), (1, .slice AM nM cM), (5, .int .i64 (k : Int))])) _)
      have hzw5 := hB6.size
      refine W.seq ?_
      refine W.seq ?_
      refine W.regS (SR.q' (r_mv (v := .int .i64 _) rfl) <| SR.q' (r_mv (v := .slice _ _ _) rfl) <| SR.q' (r_len und57 rfl) <| SR.q' (r_lt rfl rfl) <| SR.nil ?_)
      refine W.cond_d rfl (fun h11 => ?_) (fun h11 => ?_)
      · refine W.skip ?_
        refine W.seq ?_
        refine W.block ?_
        refine W.seq ?_
        refine W.regD mo (by kernel_rfl) (QR.q' (fun w' hw' => r_mv (v := .slice _ _ _) rfl) <| QR.q' (fun w' hw' => r_mv (v := .int .i64 _) rfl) <| ?_)
        obtain ⟨x12, hx13⟩ := (hm8).get (i := k) (by omega)
        refine QR.q' (fun w' hw' => r_ixR tsl57 (((hm8).lo hw')) rfl rfl (by omega)) <| QR.q' (fun w' hw' => r_lda (l := encLibraryStep x12) agg49 rfl (fun _ _ hu => (((hm8).lo hw')).cell hx13 hu) ((((hm8).lo hw')).esz _)) <| QR.q' (fun w' hw' => r_mv (v := .slice _ _ _) rfl) <| QR.q' (fun w' hw' => r_mv (v := .int .i64 _) rfl) <| ?_
        obtain ⟨x14, hx15⟩ := (hm9).get (i := k) (by omega)
        refine QR.q' (fun w' hw' => r_ixR tsl57 (((hm9).lo hw')) rfl rfl (by omega)) <| QR.q' (fun w' hw' => r_lda (l := encLibraryStep x14) agg49 rfl (fun _ _ hu => (((hm9).lo hw')).cell hx15 hu) ((((hm9).lo hw')).esz _)) <| QR.call ent80 (fun w' hw' => (c_laws_eqLibraryStep w' x12 x14).mono fun _ _ h => ⟨h.1, hw'.trans h.2⟩) rfl <| QR.q' (fun w' hw' => r_not rfl) <| QR.nil ?_
        intro w16 hk17
        have hz18 := hk17.size
        have hB19 := hB6.lo hk17
        refine W.cond_n rfl (fun h20 => ?_) (fun h20 => ?_)
        · refine W.seq ?_
          refine W.regS (SR.q' (r_as (v := .bool false) rfl) <| SR.nil ?_)
          refine W.ret ?_
          refine ret1 rfl (v := .bool _) rfl ?_
          exact ⟨eR (eDF (z_c_laws_eqLibraryStepS_21 L nL hbdL hleL M nM hbdM hleM h1 k hi10 h11 x12 hx13 x14 hx15 h20)), hB19⟩
        · refine W.skip ?_
          refine W.regS (SR.q' (r_mv (v := .int .i64 _) rfl) <| SR.q' (r_add rfl rfl (by omega)) <| SR.q' (r_as (v := .int .i64 _) rfl) <| SR.nil ?_)
          refine ⟨k + 1, _, rfl, ⟨rfl, rfl, rfl, trivial⟩, ⟨hB19, (hm8).lo hk17, (hm9).lo hk17, ?_⟩, ?_⟩
          · exact (z_c_laws_eqLibraryStepS_22 L nL hbdL hleL M nM hbdM hleM h1 k hi10 h11 x12 hx13 x14 hx15 h20)
          · exact (z_c_laws_eqLibraryStepS_23 L nL hbdL hleL M nM hbdM hleM h1 k hi10 h11 x12 hx13 x14 hx15 h20)
      · refine W.exit (xin_here ?_)
        refine W.seq ?_
        refine W.regS (SR.q' (r_as (v := .bool true) rfl) <| SR.nil ?_)
        refine W.ret ?_
        refine ret1 rfl (v := .bool _) rfl ?_
        exact ⟨eR (eDT (z_c_laws_eqLibraryStepS_24 L nL hbdL hleL M nM hbdM hleM h1 k hi10 h11)), hB6⟩

theorem z_c_laws_markLibraryStepS_1 (L : List LibraryStep) (nL : Nat) (hbdL : (nL : Int) ≤ 9223372036854775807) (hleL : nL = L.length) (k : Int) (hp0 : 0 ≤ k) (hp1 : k ≤ 1000000000) (hp2 : (nL : Int) ≤ 1048576) : 0 ≤ nL := by
  omega
theorem z_c_laws_markLibraryStepS_2 (L : List LibraryStep) (nL : Nat) (hbdL : (nL : Int) ≤ 9223372036854775807) (hleL : nL = L.length) (k : Int) (hp0 : 0 ≤ k) (hp1 : k ≤ 1000000000) (hp2 : (nL : Int) ≤ 1048576) : L = mkL mkLibraryStep 4 0 k ++ L.drop 0 := by
  exact mkL_init
theorem z_c_laws_markLibraryStepS_40 (L : List LibraryStep) (nL : Nat) (hbdL : (nL : Int) ≤ 9223372036854775807) (hleL : nL = L.length) (k : Int) (hp0 : 0 ≤ k) (hp1 : k ≤ 1000000000) (hp2 : (nL : Int) ≤ 1048576) (i : Nat) (hi8 : i ≤ nL) (h9 : (i : Int) < (nL : Int)) (x10 : LibraryStep) (hx11 : (mkL mkLibraryStep 4 i k ++ L.drop i)[i]? = some x10) : (mkL mkLibraryStep 4 i k ++ L.drop i).set ((i : Int).toNat) ({ ({ ({ ({ x10 with Kind := k + 4 * (i : Int) }) with Id := (k + 4 * (i : Int)) + 1 }) with Reader := ((k + 4 * (i : Int)) + 1) + 1 }) with Value := (((k + 4 * (i : Int)) + 1) + 1) + 1 }) = mkL mkLibraryStep 4 (i + 1) k ++ L.drop (i + 1) := by
  exact mkL_set (by omega) (by first | (simp [mkLibraryStep]; done) | (simp [mkLibraryStep]; omega))
theorem z_c_laws_markLibraryStepS_41 (L : List LibraryStep) (nL : Nat) (hbdL : (nL : Int) ≤ 9223372036854775807) (hleL : nL = L.length) (k : Int) (hp0 : 0 ≤ k) (hp1 : k ≤ 1000000000) (hp2 : (nL : Int) ≤ 1048576) (i : Nat) (hi8 : i ≤ nL) (h9 : (i : Int) < (nL : Int)) (x10 : LibraryStep) (hx11 : (mkL mkLibraryStep 4 i k ++ L.drop i)[i]? = some x10) : i + 1 ≤ nL := by
  omega
theorem z_c_laws_markLibraryStepS_42 (L : List LibraryStep) (nL : Nat) (hbdL : (nL : Int) ≤ 9223372036854775807) (hleL : nL = L.length) (k : Int) (hp0 : 0 ≤ k) (hp1 : k ≤ 1000000000) (hp2 : (nL : Int) ≤ 1048576) (i : Nat) (hi8 : i ≤ nL) (h9 : (i : Int) < (nL : Int)) (x10 : LibraryStep) (hx11 : (mkL mkLibraryStep 4 i k ++ L.drop i)[i]? = some x10) : nL - (i + 1) < nL - i := by
  omega
theorem z_c_laws_markLibraryStepS_43 (L : List LibraryStep) (nL : Nat) (hbdL : (nL : Int) ≤ 9223372036854775807) (hleL : nL = L.length) (k : Int) (hp0 : 0 ≤ k) (hp1 : k ≤ 1000000000) (hp2 : (nL : Int) ≤ 1048576) (i : Nat) (hi8 : i ≤ nL) (h9 : ¬ ((i : Int) < (nL : Int))) : k + 4 * (i : Int) = k + 4 * (L.length : Int) := by
  first | omega | exact mkL_end hleL (by assumption) (by omega)
theorem z_c_laws_markLibraryStepS_44 (L : List LibraryStep) (nL : Nat) (hbdL : (nL : Int) ≤ 9223372036854775807) (hleL : nL = L.length) (k : Int) (hp0 : 0 ≤ k) (hp1 : k ≤ 1000000000) (hp2 : (nL : Int) ≤ 1048576) (i : Nat) (hi8 : i ≤ nL) (h9 : ¬ ((i : Int) < (nL : Int))) : mkL mkLibraryStep 4 i k ++ L.drop i = mkL mkLibraryStep 4 L.length k := by
  first | omega | exact mkL_end hleL (by assumption) (by omega)
theorem c_laws_markLibraryStepS (w : World) {AL : Option Addr} {nL cL BL : Nat}  (L : List LibraryStep) (hL : SlO w BL encLibraryStep 4 49 AL nL cL L) (k : Int) (hp0 : 0 ≤ k) (hp1 : k ≤ 1000000000) (hp2 : (nL : Int) ≤ 1048576) : Calls Try.prog 45 #[.slice AL nL cL, .int .i64 k] w fun e w' => e = .returned (.int .i64 (k + 4 * (L.length : Int))) ∧ SlO w' BL encLibraryStep 4 49 AL nL cL (mkL mkLibraryStep 4 L.length k) ∧ Kp (fun b_ => AL = some ⟨b_, 0, none⟩) w w' := by
  refine calls_W 41 Try.func45 rfl rfl rfl ?_
  have hbdL := hL.rd.bound
  have hleL := hL.len
  have hBbL := hL.bd
  refine W.seq ?_
  refine W.regS (SR.q' (r_as (v := .int .i64 0) rfl) <| SR.nil ?_)
  refine W.seq ?_
  refine W.seq ?_
  refine W.regS (SR.q' (r_as (v := .int .i64 0) rfl) <| SR.nil ?_)
  refine W.block ?_
  refine W.loop (σ := Nat) (fun g => [(0, .slice AL nL cL), (1, .int .i64 (k + 4 * (g : Int))), (4, .int .i64 0), (5, .int .i64 (g : Int))]) (fun g w' => (Kp (fun b_ => AL = some ⟨b_, 0, none⟩) w w') ∧ (SlO w' BL encLibraryStep 4 49 AL nL cL (mkL mkLibraryStep 4 g k ++ L.drop g)) ∧ (g ≤ nL)) (fun g => nL - g) 0 ?_ ?_ ?_
  · exact ⟨rfl, (eI (by first | omega | (dsimp only; omega))), rfl, (eI (by first | omega | (dsimp only; omega))), trivial⟩
  · exact ⟨(Kp.refl w : Kp (fun b_ => AL = some ⟨b_, 0, none⟩) w w), (SlO.eqv (hL) (z_c_laws_markLibraryStepS_2 L nL hbdL hleL k hp0 hp1 hp2)), (z_c_laws_markLibraryStepS_1 L nL hbdL hleL k hp0 hp1 hp2)⟩
  · rintro i f3 w4 hP6
    obtain ⟨hB5, hm7, hi8⟩ : (Kp (fun b_ => AL = some ⟨b_, 0, none⟩) w w4) ∧ (SlO w4 BL encLibraryStep 4 49 AL nL cL (mkL mkLibraryStep 4 i k ++ L.drop i)) ∧ (i ≤ nL) := hP6
    refine (?_ : W _ _ _ _ _ (act _ (sets f3 [(0, .slice AL nL cL), (1, .int .i64 (k + 4 * (i : Int))), (4, .int .i64 0), (5, .int .i64 (i : Int))])) _)
    have hzw4 := hB5.size
    refine W.seq ?_
    refine W.seq ?_
    refine W.regS (SR.q' (r_mv (v := .int .i64 _) rfl) <| SR.q' (r_mv (v := .slice _ _ _) rfl) <| SR.q' (r_len und57 rfl) <| SR.q' (r_lt rfl rfl) <| SR.nil ?_)
    refine W.cond_d rfl (fun h9 => ?_) (fun h9 => ?_)
    · refine W.skip ?_
      refine W.seq ?_
      refine W.block ?_
      refine W.seq ?_
      refine W.regS (SR.q' (r_mv (v := .slice _ _ _) rfl) <| SR.q' (r_mv (v := .int .i64 _) rfl) <| SR.q' (r_mv (v := .int .i64 _) rfl) <| ?_)
      obtain ⟨x10, hx11⟩ := ((hm7).rd).get (i := i) (by omega)
      refine SR.q' (r_ixR tsl57 ((hm7).rd) rfl rfl (by omega)) <| SR.q' (r_fa fa49_0 rfl) <| SR.storeO (o := 0) (vs := [.int .i64 (k + 4 * (i : Int))]) (x1 := { x10 with Kind := k + 4 * (i : Int) }) sca3.2 rfl (add_add _ _ _) rfl rfl (hm7) hx11 rfl (Nat.le_of_ble_eq_true rfl) rfl ?_
      intro w12 hk13 hs14 hO15
      have hz16 := hk13.size
      have hB17 := hB5.step hk13 (fun i_ hi_ e' => by have := ((hm7)).base_le e'; first | omega | (exfalso; omega) | exact e' | exact .inl e' | exact .inr e')
      have hx18 : ((mkL mkLibraryStep 4 i k ++ L.drop i).set ((i : Int).toNat) ({ x10 with Kind := k + 4 * (i : Int) }))[(i : Int).toNat]? = some ({ x10 with Kind := k + 4 * (i : Int) }) := List.getElem?_set_self (List.getElem?_eq_some_iff.1 hx11).1
      refine SR.nil ?_
      refine W.seq ?_
      refine W.regS (SR.q' (r_mv (v := .int .i64 _) rfl) <| SR.q' (r_add rfl rfl (by omega)) <| SR.q' (r_as (v := .int .i64 _) rfl) <| SR.nil ?_)
      refine W.seq ?_
      refine W.regS (SR.q' (r_mv (v := .slice _ _ _) rfl) <| SR.q' (r_mv (v := .int .i64 _) rfl) <| SR.q' (r_mv (v := .int .i64 _) rfl) <| SR.q' (r_ixR tsl57 ((hO15).rd) rfl rfl (by omega)) <| SR.q' (r_fa fa49_1 rfl) <| SR.storeO (o := 1) (vs := [.int .i64 ((k + 4 * (i : Int)) + 1)]) (x1 := { ({ x10 with Kind := k + 4 * (i : Int) }) with Id := (k + 4 * (i : Int)) + 1 }) sca3.2 rfl (add_add _ _ _) rfl rfl (hO15) hx18 rfl (Nat.le_of_ble_eq_true rfl) rfl ?_)
      intro w19 hk20 hs21 hO22
      have hz23 := hk20.size
      have hB24 := hB17.step hk20 (fun i_ hi_ e' => by have := ((hO15)).base_le e'; first | omega | (exfalso; omega) | exact e' | exact .inl e' | exact .inr e')
      rw [List.set_set] at hO22
      have hx25 : ((mkL mkLibraryStep 4 i k ++ L.drop i).set ((i : Int).toNat) ({ ({ x10 with Kind := k + 4 * (i : Int) }) with Id := (k + 4 * (i : Int)) + 1 }))[(i : Int).toNat]? = some ({ ({ x10 with Kind := k + 4 * (i : Int) }) with Id := (k + 4 * (i : Int)) + 1 }) := List.getElem?_set_self (List.getElem?_eq_some_iff.1 hx11).1
      refine SR.nil ?_
      refine W.seq ?_
      refine W.regS (SR.q' (r_mv (v := .int .i64 _) rfl) <| SR.q' (r_add rfl rfl (by omega)) <| SR.q' (r_as (v := .int .i64 _) rfl) <| SR.nil ?_)
      refine W.seq ?_
      refine W.regS (SR.q' (r_mv (v := .slice _ _ _) rfl) <| SR.q' (r_mv (v := .int .i64 _) rfl) <| SR.q' (r_mv (v := .int .i64 _) rfl) <| SR.q' (r_ixR tsl57 ((hO22).rd) rfl rfl (by omega)) <| SR.q' (r_fa fa49_2 rfl) <| SR.storeO (o := 2) (vs := [.int .i64 (((k + 4 * (i : Int)) + 1) + 1)]) (x1 := { ({ ({ x10 with Kind := k + 4 * (i : Int) }) with Id := (k + 4 * (i : Int)) + 1 }) with Reader := ((k + 4 * (i : Int)) + 1) + 1 }) sca3.2 rfl (add_add _ _ _) rfl rfl (hO22) hx25 rfl (Nat.le_of_ble_eq_true rfl) rfl ?_)
      intro w26 hk27 hs28 hO29
      have hz30 := hk27.size
      have hB31 := hB24.step hk27 (fun i_ hi_ e' => by have := ((hO22)).base_le e'; first | omega | (exfalso; omega) | exact e' | exact .inl e' | exact .inr e')
      rw [List.set_set] at hO29
      have hx32 : ((mkL mkLibraryStep 4 i k ++ L.drop i).set ((i : Int).toNat) ({ ({ ({ x10 with Kind := k + 4 * (i : Int) }) with Id := (k + 4 * (i : Int)) + 1 }) with Reader := ((k + 4 * (i : Int)) + 1) + 1 }))[(i : Int).toNat]? = some ({ ({ ({ x10 with Kind := k + 4 * (i : Int) }) with Id := (k + 4 * (i : Int)) + 1 }) with Reader := ((k + 4 * (i : Int)) + 1) + 1 }) := List.getElem?_set_self (List.getElem?_eq_some_iff.1 hx11).1
      refine SR.nil ?_
      refine W.seq ?_
      refine W.regS (SR.q' (r_mv (v := .int .i64 _) rfl) <| SR.q' (r_add rfl rfl (by omega)) <| SR.q' (r_as (v := .int .i64 _) rfl) <| SR.nil ?_)
      refine W.seq ?_
      refine W.regS (SR.q' (r_mv (v := .slice _ _ _) rfl) <| SR.q' (r_mv (v := .int .i64 _) rfl) <| SR.q' (r_mv (v := .int .i64 _) rfl) <| SR.q' (r_ixR tsl57 ((hO29).rd) rfl rfl (by omega)) <| SR.q' (r_fa fa49_3 rfl) <| SR.storeO (o := 3) (vs := [.int .i64 ((((k + 4 * (i : Int)) + 1) + 1) + 1)]) (x1 := { ({ ({ ({ x10 with Kind := k + 4 * (i : Int) }) with Id := (k + 4 * (i : Int)) + 1 }) with Reader := ((k + 4 * (i : Int)) + 1) + 1 }) with Value := (((k + 4 * (i : Int)) + 1) + 1) + 1 }) sca3.2 rfl (add_add _ _ _) rfl rfl (hO29) hx32 rfl (Nat.le_of_ble_eq_true rfl) rfl ?_)
      intro w33 hk34 hs35 hO36
      have hz37 := hk34.size
      have hB38 := hB31.step hk34 (fun i_ hi_ e' => by have := ((hO29)).base_le e'; first | omega | (exfalso; omega) | exact e' | exact .inl e' | exact .inr e')
      rw [List.set_set] at hO36
      have hx39 : ((mkL mkLibraryStep 4 i k ++ L.drop i).set ((i : Int).toNat) ({ ({ ({ ({ x10 with Kind := k + 4 * (i : Int) }) with Id := (k + 4 * (i : Int)) + 1 }) with Reader := ((k + 4 * (i : Int)) + 1) + 1 }) with Value := (((k + 4 * (i : Int)) + 1) + 1) + 1 }))[(i : Int).toNat]? = some ({ ({ ({ ({ x10 with Kind := k + 4 * (i : Int) }) with Id := (k + 4 * (i : Int)) + 1 }) with Reader := ((k + 4 * (i : Int)) + 1) + 1 }) with Value := (((k + 4 * (i : Int)) + 1) + 1) + 1 }) := List.getElem?_set_self (List.getElem?_eq_some_iff.1 hx11).1
      refine SR.nil ?_
      refine W.regS (SR.q' (r_mv (v := .int .i64 _) rfl) <| SR.q' (r_add rfl rfl (by omega)) <| SR.q' (r_as (v := .int .i64 _) rfl) <| SR.nil ?_)
      refine W.regS (SR.q' (r_mv (v := .int .i64 _) rfl) <| SR.q' (r_add rfl rfl (by omega)) <| SR.q' (r_as (v := .int .i64 _) rfl) <| SR.nil ?_)
      refine ⟨i + 1, _, rfl, ⟨rfl, (eI (by first | omega | (dsimp only; omega))), rfl, (eI (by first | omega | (dsimp only; omega))), trivial⟩, ⟨hB38, (SlO.eqv (hO36) (z_c_laws_markLibraryStepS_40 L nL hbdL hleL k hp0 hp1 hp2 i hi8 h9 x10 hx11)), ?_⟩, ?_⟩
      · exact (z_c_laws_markLibraryStepS_41 L nL hbdL hleL k hp0 hp1 hp2 i hi8 h9 x10 hx11)
      · exact (z_c_laws_markLibraryStepS_42 L nL hbdL hleL k hp0 hp1 hp2 i hi8 h9 x10 hx11)
    · refine W.exit (xin_here ?_)
      refine W.seq ?_
      refine W.regS (SR.q' (r_mv (v := .int .i64 _) rfl) <| SR.q' (r_as (v := .int .i64 _) rfl) <| SR.nil ?_)
      refine W.ret ?_
      refine ret1 rfl (v := .int .i64 _) rfl ?_
      exact ⟨eR (eI (z_c_laws_markLibraryStepS_43 L nL hbdL hleL k hp0 hp1 hp2 i hi8 h9)), (SlO.eqv (hm7) (z_c_laws_markLibraryStepS_44 L nL hbdL hleL k hp0 hp1 hp2 i hi8 h9)), hB5⟩

theorem z_c_laws_FnExactStepLibrary_520 (x : Library) (nx_Maps : Nat) (hbdx_Maps : (nx_Maps : Int) ≤ 9223372036854775807) (hlex_Maps : nx_Maps = x.Maps.length) (nx_Away : Nat) (hbdx_Away : (nx_Away : Int) ≤ 9223372036854775807) (hlex_Away : nx_Away = x.Away.length) (s : LibraryStep) (hp0 : s.Value ≤ 9223372036854775807) (h24 : ¬ ((szN (x.Maps.length + x.Away.length) 1048576) < 0)) (hq25 : ((x.Maps.length + x.Away.length : Nat) : Int) ≤ 1048576 ∧ szN (x.Maps.length + x.Away.length) 1048576 = 1048576 - ((x.Maps.length + x.Away.length : Nat) : Int)) (n33 : Nat) (n37 : Nat) (n56 : Nat) (n60 : Nat) (hl44 : n33 = (x.Maps).length) (hl45 : (n33 : Int) ≤ 9223372036854775807) (hl46 : n37 = (x.Away).length) (hl47 : (n37 : Int) ≤ 9223372036854775807) (hl67 : n56 = (((spec_StepLibrary x s).1).Maps).length) (hl68 : (n56 : Int) ≤ 9223372036854775807) (hq69 : (((spec_StepLibrary x s).1).Maps).length ≤ 8) (hl70 : n60 = (((spec_StepLibrary x s).1).Away).length) (hl71 : (n60 : Int) ≤ 9223372036854775807) (hq72 : (((spec_StepLibrary x s).1).Away).length ≤ 8) (n264 : Nat) (hl274 : n264 = (x.Maps).length) (hl275 : (n264 : Int) ≤ 9223372036854775807) (n268 : Nat) (hl276 : n268 = (x.Away).length) (hl277 : (n268 : Int) ≤ 9223372036854775807) (n317 : Nat) (n321 : Nat) (hl328 : n317 = (((impl_StepLibrary x s).1).Maps).length) (hl329 : (n317 : Int) ≤ 9223372036854775807) (hq330 : (((impl_StepLibrary x s).1).Maps).length ≤ 8) (hl331 : n321 = (((impl_StepLibrary x s).1).Away).length) (hl332 : (n321 : Int) ≤ 9223372036854775807) (hq333 : (((impl_StepLibrary x s).1).Away).length ≤ 8) (h509 : (¬ (((impl_StepLibrary x s).1) = ((spec_StepLibrary x s).1))) ∨ ((!(((impl_StepLibrary x s).2) == ((spec_StepLibrary x s).2))) = true)) : false = true := by
  have hsv := step_eqL (x := x) (s := s) (by omega); first | (simp only [hsv] at *; simp_all; done) | (simp_all; done) | (simp only [hsv] at *; omega) | omega | (simp [hsv] at *; omega)
theorem z_c_laws_FnExactStepLibrary_570 (x : Library) (nx_Maps : Nat) (hbdx_Maps : (nx_Maps : Int) ≤ 9223372036854775807) (hlex_Maps : nx_Maps = x.Maps.length) (nx_Away : Nat) (hbdx_Away : (nx_Away : Int) ≤ 9223372036854775807) (hlex_Away : nx_Away = x.Away.length) (s : LibraryStep) (hp0 : s.Value ≤ 9223372036854775807) (h24 : ¬ ((szN (x.Maps.length + x.Away.length) 1048576) < 0)) (hq25 : ((x.Maps.length + x.Away.length : Nat) : Int) ≤ 1048576 ∧ szN (x.Maps.length + x.Away.length) 1048576 = 1048576 - ((x.Maps.length + x.Away.length : Nat) : Int)) (n33 : Nat) (n37 : Nat) (n56 : Nat) (n60 : Nat) (hl44 : n33 = (x.Maps).length) (hl45 : (n33 : Int) ≤ 9223372036854775807) (hl46 : n37 = (x.Away).length) (hl47 : (n37 : Int) ≤ 9223372036854775807) (hl67 : n56 = (((spec_StepLibrary x s).1).Maps).length) (hl68 : (n56 : Int) ≤ 9223372036854775807) (hq69 : (((spec_StepLibrary x s).1).Maps).length ≤ 8) (hl70 : n60 = (((spec_StepLibrary x s).1).Away).length) (hl71 : (n60 : Int) ≤ 9223372036854775807) (hq72 : (((spec_StepLibrary x s).1).Away).length ≤ 8) (n264 : Nat) (hl274 : n264 = (x.Maps).length) (hl275 : (n264 : Int) ≤ 9223372036854775807) (n268 : Nat) (hl276 : n268 = (x.Away).length) (hl277 : (n268 : Int) ≤ 9223372036854775807) (n317 : Nat) (n321 : Nat) (hl328 : n317 = (((impl_StepLibrary x s).1).Maps).length) (hl329 : (n317 : Int) ≤ 9223372036854775807) (hq330 : (((impl_StepLibrary x s).1).Maps).length ≤ 8) (hl331 : n321 = (((impl_StepLibrary x s).1).Away).length) (hl332 : (n321 : Int) ≤ 9223372036854775807) (hq333 : (((impl_StepLibrary x s).1).Away).length ≤ 8) (h509 : ¬ ((¬ (((impl_StepLibrary x s).1) = ((spec_StepLibrary x s).1))) ∨ ((!(((impl_StepLibrary x s).2) == ((spec_StepLibrary x s).2))) = true))) (hq521 : ((impl_StepLibrary x s).1) = ((spec_StepLibrary x s).1)) (hq522 : ¬ ((!(((impl_StepLibrary x s).2) == ((spec_StepLibrary x s).2))) = true)) (n540 : Nat) (n544 : Nat) (hl551 : n540 = (x.Maps).length) (hl552 : (n540 : Int) ≤ 9223372036854775807) (hl553 : n544 = (x.Away).length) (hl554 : (n544 : Int) ≤ 9223372036854775807) (h566 : ¬ (x = x)) : false = true := by
  have hsv := step_eqL (x := x) (s := s) (by omega); first | (simp only [hsv] at *; simp_all; done) | (simp_all; done) | (simp only [hsv] at *; omega) | omega | (simp [hsv] at *; omega)
theorem z_c_laws_FnExactStepLibrary_603 (x : Library) (nx_Maps : Nat) (hbdx_Maps : (nx_Maps : Int) ≤ 9223372036854775807) (hlex_Maps : nx_Maps = x.Maps.length) (nx_Away : Nat) (hbdx_Away : (nx_Away : Int) ≤ 9223372036854775807) (hlex_Away : nx_Away = x.Away.length) (s : LibraryStep) (hp0 : s.Value ≤ 9223372036854775807) (h24 : ¬ ((szN (x.Maps.length + x.Away.length) 1048576) < 0)) (hq25 : ((x.Maps.length + x.Away.length : Nat) : Int) ≤ 1048576 ∧ szN (x.Maps.length + x.Away.length) 1048576 = 1048576 - ((x.Maps.length + x.Away.length : Nat) : Int)) (n33 : Nat) (n37 : Nat) (n56 : Nat) (n60 : Nat) (hl44 : n33 = (x.Maps).length) (hl45 : (n33 : Int) ≤ 9223372036854775807) (hl46 : n37 = (x.Away).length) (hl47 : (n37 : Int) ≤ 9223372036854775807) (hl67 : n56 = (((spec_StepLibrary x s).1).Maps).length) (hl68 : (n56 : Int) ≤ 9223372036854775807) (hq69 : (((spec_StepLibrary x s).1).Maps).length ≤ 8) (hl70 : n60 = (((spec_StepLibrary x s).1).Away).length) (hl71 : (n60 : Int) ≤ 9223372036854775807) (hq72 : (((spec_StepLibrary x s).1).Away).length ≤ 8) (n264 : Nat) (hl274 : n264 = (x.Maps).length) (hl275 : (n264 : Int) ≤ 9223372036854775807) (n268 : Nat) (hl276 : n268 = (x.Away).length) (hl277 : (n268 : Int) ≤ 9223372036854775807) (n317 : Nat) (n321 : Nat) (hl328 : n317 = (((impl_StepLibrary x s).1).Maps).length) (hl329 : (n317 : Int) ≤ 9223372036854775807) (hq330 : (((impl_StepLibrary x s).1).Maps).length ≤ 8) (hl331 : n321 = (((impl_StepLibrary x s).1).Away).length) (hl332 : (n321 : Int) ≤ 9223372036854775807) (hq333 : (((impl_StepLibrary x s).1).Away).length ≤ 8) (h509 : ¬ ((¬ (((impl_StepLibrary x s).1) = ((spec_StepLibrary x s).1))) ∨ ((!(((impl_StepLibrary x s).2) == ((spec_StepLibrary x s).2))) = true))) (hq521 : ((impl_StepLibrary x s).1) = ((spec_StepLibrary x s).1)) (hq522 : ¬ ((!(((impl_StepLibrary x s).2) == ((spec_StepLibrary x s).2))) = true)) (n540 : Nat) (n544 : Nat) (hl551 : n540 = (x.Maps).length) (hl552 : (n540 : Int) ≤ 9223372036854775807) (hl553 : n544 = (x.Away).length) (hl554 : (n544 : Int) ≤ 9223372036854775807) (h566 : x = x) (h599 : ((1 + 3 * (x.Maps.length : Int) + 2 * (x.Away.length : Int)) < 0) ∨ ((¬ (((impl_StepLibrary x s).1) = ((spec_StepLibrary x s).1))) ∨ ((!(((impl_StepLibrary x s).2) == ((spec_StepLibrary x s).2))) = true))) : false = true := by
  have hsv := step_eqL (x := x) (s := s) (by omega); first | (simp only [hsv] at *; simp_all; done) | (simp_all; done) | (simp only [hsv] at *; omega) | omega | (simp [hsv] at *; omega)
theorem z_c_laws_FnExactStepLibrary_629 (x : Library) (nx_Maps : Nat) (hbdx_Maps : (nx_Maps : Int) ≤ 9223372036854775807) (hlex_Maps : nx_Maps = x.Maps.length) (nx_Away : Nat) (hbdx_Away : (nx_Away : Int) ≤ 9223372036854775807) (hlex_Away : nx_Away = x.Away.length) (s : LibraryStep) (hp0 : s.Value ≤ 9223372036854775807) (h24 : ¬ ((szN (x.Maps.length + x.Away.length) 1048576) < 0)) (hq25 : ((x.Maps.length + x.Away.length : Nat) : Int) ≤ 1048576 ∧ szN (x.Maps.length + x.Away.length) 1048576 = 1048576 - ((x.Maps.length + x.Away.length : Nat) : Int)) (n33 : Nat) (n37 : Nat) (n56 : Nat) (n60 : Nat) (hl44 : n33 = (x.Maps).length) (hl45 : (n33 : Int) ≤ 9223372036854775807) (hl46 : n37 = (x.Away).length) (hl47 : (n37 : Int) ≤ 9223372036854775807) (hl67 : n56 = (((spec_StepLibrary x s).1).Maps).length) (hl68 : (n56 : Int) ≤ 9223372036854775807) (hq69 : (((spec_StepLibrary x s).1).Maps).length ≤ 8) (hl70 : n60 = (((spec_StepLibrary x s).1).Away).length) (hl71 : (n60 : Int) ≤ 9223372036854775807) (hq72 : (((spec_StepLibrary x s).1).Away).length ≤ 8) (n264 : Nat) (hl274 : n264 = (x.Maps).length) (hl275 : (n264 : Int) ≤ 9223372036854775807) (n268 : Nat) (hl276 : n268 = (x.Away).length) (hl277 : (n268 : Int) ≤ 9223372036854775807) (n317 : Nat) (n321 : Nat) (hl328 : n317 = (((impl_StepLibrary x s).1).Maps).length) (hl329 : (n317 : Int) ≤ 9223372036854775807) (hq330 : (((impl_StepLibrary x s).1).Maps).length ≤ 8) (hl331 : n321 = (((impl_StepLibrary x s).1).Away).length) (hl332 : (n321 : Int) ≤ 9223372036854775807) (hq333 : (((impl_StepLibrary x s).1).Away).length ≤ 8) (h509 : ¬ ((¬ (((impl_StepLibrary x s).1) = ((spec_StepLibrary x s).1))) ∨ ((!(((impl_StepLibrary x s).2) == ((spec_StepLibrary x s).2))) = true))) (hq521 : ((impl_StepLibrary x s).1) = ((spec_StepLibrary x s).1)) (hq522 : ¬ ((!(((impl_StepLibrary x s).2) == ((spec_StepLibrary x s).2))) = true)) (n540 : Nat) (n544 : Nat) (hl551 : n540 = (x.Maps).length) (hl552 : (n540 : Int) ≤ 9223372036854775807) (hl553 : n544 = (x.Away).length) (hl554 : (n544 : Int) ≤ 9223372036854775807) (h566 : x = x) (h599 : ¬ (((1 + 3 * (x.Maps.length : Int) + 2 * (x.Away.length : Int)) < 0) ∨ ((¬ (((impl_StepLibrary x s).1) = ((spec_StepLibrary x s).1))) ∨ ((!(((impl_StepLibrary x s).2) == ((spec_StepLibrary x s).2))) = true)))) (hq604 : ¬ ((1 + 3 * (x.Maps.length : Int) + 2 * (x.Away.length : Int)) < 0)) (hq605 : ((impl_StepLibrary x s).1) = ((spec_StepLibrary x s).1)) (hq606 : ¬ ((!(((impl_StepLibrary x s).2) == ((spec_StepLibrary x s).2))) = true)) (h628 : (1 + 3 * ((((impl_StepLibrary x s).1).Maps.length : Nat) : Int) + 2 * ((((impl_StepLibrary x s).1).Away.length : Nat) : Int)) < 0) : false = true := by
  have hsv := step_eqL (x := x) (s := s) (by omega); first | (simp only [hsv] at *; simp_all; done) | (simp_all; done) | (simp only [hsv] at *; omega) | omega | (simp [hsv] at *; omega)
theorem z_c_laws_FnExactStepLibrary_631 (x : Library) (nx_Maps : Nat) (hbdx_Maps : (nx_Maps : Int) ≤ 9223372036854775807) (hlex_Maps : nx_Maps = x.Maps.length) (nx_Away : Nat) (hbdx_Away : (nx_Away : Int) ≤ 9223372036854775807) (hlex_Away : nx_Away = x.Away.length) (s : LibraryStep) (hp0 : s.Value ≤ 9223372036854775807) (h24 : ¬ ((szN (x.Maps.length + x.Away.length) 1048576) < 0)) (hq25 : ((x.Maps.length + x.Away.length : Nat) : Int) ≤ 1048576 ∧ szN (x.Maps.length + x.Away.length) 1048576 = 1048576 - ((x.Maps.length + x.Away.length : Nat) : Int)) (n33 : Nat) (n37 : Nat) (n56 : Nat) (n60 : Nat) (hl44 : n33 = (x.Maps).length) (hl45 : (n33 : Int) ≤ 9223372036854775807) (hl46 : n37 = (x.Away).length) (hl47 : (n37 : Int) ≤ 9223372036854775807) (hl67 : n56 = (((spec_StepLibrary x s).1).Maps).length) (hl68 : (n56 : Int) ≤ 9223372036854775807) (hq69 : (((spec_StepLibrary x s).1).Maps).length ≤ 8) (hl70 : n60 = (((spec_StepLibrary x s).1).Away).length) (hl71 : (n60 : Int) ≤ 9223372036854775807) (hq72 : (((spec_StepLibrary x s).1).Away).length ≤ 8) (n264 : Nat) (hl274 : n264 = (x.Maps).length) (hl275 : (n264 : Int) ≤ 9223372036854775807) (n268 : Nat) (hl276 : n268 = (x.Away).length) (hl277 : (n268 : Int) ≤ 9223372036854775807) (n317 : Nat) (n321 : Nat) (hl328 : n317 = (((impl_StepLibrary x s).1).Maps).length) (hl329 : (n317 : Int) ≤ 9223372036854775807) (hq330 : (((impl_StepLibrary x s).1).Maps).length ≤ 8) (hl331 : n321 = (((impl_StepLibrary x s).1).Away).length) (hl332 : (n321 : Int) ≤ 9223372036854775807) (hq333 : (((impl_StepLibrary x s).1).Away).length ≤ 8) (h509 : ¬ ((¬ (((impl_StepLibrary x s).1) = ((spec_StepLibrary x s).1))) ∨ ((!(((impl_StepLibrary x s).2) == ((spec_StepLibrary x s).2))) = true))) (hq521 : ((impl_StepLibrary x s).1) = ((spec_StepLibrary x s).1)) (hq522 : ¬ ((!(((impl_StepLibrary x s).2) == ((spec_StepLibrary x s).2))) = true)) (n540 : Nat) (n544 : Nat) (hl551 : n540 = (x.Maps).length) (hl552 : (n540 : Int) ≤ 9223372036854775807) (hl553 : n544 = (x.Away).length) (hl554 : (n544 : Int) ≤ 9223372036854775807) (h566 : x = x) (h599 : ¬ (((1 + 3 * (x.Maps.length : Int) + 2 * (x.Away.length : Int)) < 0) ∨ ((¬ (((impl_StepLibrary x s).1) = ((spec_StepLibrary x s).1))) ∨ ((!(((impl_StepLibrary x s).2) == ((spec_StepLibrary x s).2))) = true)))) (hq604 : ¬ ((1 + 3 * (x.Maps.length : Int) + 2 * (x.Away.length : Int)) < 0)) (hq605 : ((impl_StepLibrary x s).1) = ((spec_StepLibrary x s).1)) (hq606 : ¬ ((!(((impl_StepLibrary x s).2) == ((spec_StepLibrary x s).2))) = true)) (h628 : ¬ ((1 + 3 * ((((impl_StepLibrary x s).1).Maps.length : Nat) : Int) + 2 * ((((impl_StepLibrary x s).1).Away.length : Nat) : Int)) < 0)) (h630 : ¬ ((1 + 3 * ((((impl_StepLibrary x s).1).Maps.length : Nat) : Int) + 2 * ((((impl_StepLibrary x s).1).Away.length : Nat) : Int)) = (1 + 3 * (((impl_StepLibrary x s).1).Maps.length : Int) + 2 * (((impl_StepLibrary x s).1).Away.length : Int)))) : false = true := by
  have hsv := step_eqL (x := x) (s := s) (by omega); first | (simp only [hsv] at *; simp_all; done) | (simp_all; done) | (simp only [hsv] at *; omega) | omega | (simp [hsv] at *; omega)
theorem c_laws_FnExactStepLibrary (w : World) (x : Library) {Ax_Maps : Option Addr} {nx_Maps cx_Maps Bx_Maps : Nat} (hx_Maps : SlR w Bx_Maps encLMap 3 Ax_Maps nx_Maps cx_Maps x.Maps) {Ax_Away : Option Addr} {nx_Away cx_Away Bx_Away : Nat} (hx_Away : SlR w Bx_Away encAway 2 Ax_Away nx_Away cx_Away x.Away) (s : LibraryStep) (hp0 : s.Value ≤ 9223372036854775807) : Calls Try.prog 9 #[.agg (List.toArray [.slice Ax_Maps nx_Maps cx_Maps, .slice Ax_Away nx_Away cx_Away, .int .i64 x.Bought, .int .i64 x.Dropped, .int .i64 x.Mended]), .agg (List.toArray (encLibraryStep s))] w fun e w' => e = .returned (.bool true) ∧ Lo w w' := by
  refine calls_W 104 Try.func9 rfl rfl rfl ?_
  have hbdx_Maps := hx_Maps.bound
  have hlex_Maps := hx_Maps.len
  have hBbx_Maps := hx_Maps.bd
  have hbdx_Away := hx_Away.bound
  have hlex_Away := hx_Away.len
  have hBbx_Away := hx_Away.bd
  refine W.seq ?_
  refine W.regS (SR.box (v := .agg (List.toArray _)) (l := [.slice Ax_Maps nx_Maps cx_Maps, .slice Ax_Away nx_Away cx_Away, .int .i64 x.Bought, .int .i64 x.Dropped, .int .i64 x.Mended]) rfl rfl ?_)
  intro g1 w2 hg3 hk4 hs5 hb6
  have hz7 := hk4.size
  have hB8 := (Lo.refl w).lo hk4
  refine SR.box (v := .agg (List.toArray _)) (l := [.int .i64 s.Kind, .int .i64 s.Id, .int .i64 s.Reader, .int .i64 s.Value]) rfl rfl ?_
  intro g9 w10 hg11 hk12 hs13 hb14
  have hz15 := hk12.size
  have hB16 := hB8.lo hk12
  refine SR.q' (r_as (v := .bool false) rfl) <| SR.nil ?_
  refine W.seq ?_
  have hm17 := ((hx_Maps).lo hk4).lo hk12
  have hm18 := ((hx_Away).lo hk4).lo hk12
  refine W.regS (SR.q' (r_as (v := .int .i64 1048576) rfl) <| SR.nil ?_)
  refine W.seq ?_
  refine W.regS (SR.q' (r_lda (l := [.slice Ax_Maps nx_Maps cx_Maps, .slice Ax_Away nx_Away cx_Away, .int .i64 x.Bought, .int .i64 x.Dropped, .int .i64 x.Mended]) agg25 rfl (fun _ _ hu => ((hb6).lo hk12).cell hu) rfl) <| SR.q' (r_mv (v := .int .i64 _) rfl) <| SR.call ent12 (c_laws_szLibrary w10 x ((hm17)) ((hm18)) 1048576 (by omega) (by omega)) rfl ?_)
  rintro e w19 ⟨rfl, hk20⟩
  refine ⟨_, rfl, ?_⟩
  have hz21 := hk20.size
  have hB22 := hB16.lo hk20
  refine SR.q' (r_as (v := .int .i64 _) rfl) <| SR.nil ?_
  refine W.seq ?_
  refine W.seq ?_
  have hm23 := ((hb6).lo hk12).lo hk20
  refine W.regS (SR.q' (r_mv (v := .int .i64 _) rfl) <| SR.q' (r_lt rfl rfl) <| SR.nil ?_)
  refine W.cond_d rfl (fun h24 => ?_) (fun h24 => ?_)
  · refine W.seq ?_
    refine W.regS (SR.q' (r_as (v := .bool true) rfl) <| SR.nil ?_)
    refine W.ret ?_
    refine ret1 rfl (v := .bool _) rfl ?_
    exact ⟨eR rfl, hB22⟩
  · have hq25 := szN_ok h24
    refine W.skip ?_
    refine W.seq ?_
    refine W.regA (Lo w19) (fun f' w' => ∃ (A32 : Option Addr), ∃ (n33 : Nat), ∃ (c34 : Nat), ∃ (A36 : Option Addr), ∃ (n37 : Nat), ∃ (c38 : Nat), ∃ (A55 : Option Addr), ∃ (n56 : Nat), ∃ (c57 : Nat), ∃ (A59 : Option Addr), ∃ (n60 : Nat), ∃ (c61 : Nat), ∃ (g73 : Nat), At f' [(2, .pointer (some ((⟨g1, 0, none⟩ : Addr)))), (3, .pointer (some ((⟨g9, 0, none⟩ : Addr)))), (4, .bool false), (6, .pointer (some ((⟨g73, 0, none⟩ : Addr)))), (7, .bool ((spec_StepLibrary x s).2))] ∧ (Lo w19 w') ∧ (SlO w' w19.heap.size encLMap 3 73 A55 n56 c57 (((spec_StepLibrary x s).1).Maps)) ∧ (SlO w' w19.heap.size encAway 2 77 A59 n60 c61 (((spec_StepLibrary x s).1).Away)) ∧ (Blk w' g73 31 [.slice A55 n56 c57, .slice A59 n60 c61, .int .i64 (((spec_StepLibrary x s).1).Bought), .int .i64 (((spec_StepLibrary x s).1).Dropped), .int .i64 (((spec_StepLibrary x s).1).Mended)]) ∧ (w19.heap.size ≤ g73 ∧ g73 < w'.heap.size) ∧ (¬ A55 = some ⟨g73, 0, none⟩) ∧ (¬ A59 = some ⟨g73, 0, none⟩) ∧ (∀ b_, A55 = some ⟨b_, 0, none⟩ → ¬ A59 = some ⟨b_, 0, none⟩) ∧ (n33 = (x.Maps).length) ∧ ((n33 : Int) ≤ 9223372036854775807) ∧ (n37 = (x.Away).length) ∧ ((n37 : Int) ≤ 9223372036854775807) ∧ (n56 = (((spec_StepLibrary x s).1).Maps).length) ∧ ((n56 : Int) ≤ 9223372036854775807) ∧ ((((spec_StepLibrary x s).1).Maps).length ≤ 8) ∧ (n60 = (((spec_StepLibrary x s).1).Away).length) ∧ ((n60 : Int) ≤ 9223372036854775807) ∧ ((((spec_StepLibrary x s).1).Away).length ≤ 8)) mo ?_ ?_
    · intro w26 hk27
      have hz28 := hk27.size
      have hB29 := hB22.lo hk27
      refine AH.take 0 rfl (by kernel_rfl) trivial (hk27) (fun w' hw' => r_lda (l := [.slice Ax_Maps nx_Maps cx_Maps, .slice Ax_Away nx_Away cx_Away, .int .i64 x.Bought, .int .i64 x.Dropped, .int .i64 x.Mended]) agg25 rfl (fun _ _ hu => ((hm23).lo hw').cell hu) rfl) <| AH.take 2 rfl (by kernel_rfl) trivial (hk27) (fun w' hw' => r_lda (l := [.int .i64 s.Kind, .int .i64 s.Id, .int .i64 s.Reader, .int .i64 s.Value]) agg46 rfl (fun _ _ hu => (((hb14).lo hk20).lo hw').cell hu) rfl) <| AH.br [1, 8] (by kernel_rfl) rfl ⟨Br.mk' rfl trivial ?_, Br.mk' rfl trivial ?_, trivial⟩
      · refine SR.call ent14 (c_laws_toLibrary w26 x ((((hm17).lo hk20).lo hk27)) ((((hm18).lo hk20).lo hk27)) (by omega) (by omega)) rfl ?_
        rintro e w30 ⟨A32, n33, c34, A36, n37, c38, rfl, hO35, hO39, hd40, hk31⟩
        refine ⟨_, rfl, ?_⟩
        have hz41 := hk31.size
        have hB42 := hB29.lo hk31
        have hS43 := (hk27).lo hk31
        have hl44 := hO35.len
        have hl45 := hO35.rd.bound
        have hl46 := hO39.len
        have hl47 := hO39.rd.bound
        refine SR.nil ⟨hS43, _, rfl, ?_⟩
        refine AH.br [3, 8] (by kernel_rfl) rfl ⟨Br.mk' rfl trivial ?_, Br.mk' rfl trivial ?_, trivial⟩
        · refine SR.call ent32 (c_laws_toLibraryStep w30 s) rfl ?_
          rintro e w48 ⟨rfl, hk49⟩
          refine ⟨_, rfl, ?_⟩
          have hz50 := hk49.size
          have hB51 := hB42.lo hk49
          have hS52 := (hS43).lo hk49
          refine SR.nil ⟨hS52, _, rfl, ?_⟩
          refine AH.br [4, 8] (by kernel_rfl) rfl ⟨Br.mk' rfl trivial ?_, Br.mk' rfl trivial ?_, trivial⟩
          · refine SR.call ent31 (c_spec_StepLibrary w48 x ((((hO35).lo hk49).rd)) ((((hO39).lo hk49).rd)) s) rfl ?_
            rintro e w53 ⟨A55, n56, c57, A59, n60, c61, rfl, hO58, hO62, hd63, hk54⟩
            refine ⟨_, rfl, ?_⟩
            have hz64 := hk54.size
            have hB65 := hB51.lo hk54
            have hS66 := (hS52).lo hk54
            have hl67 := hO58.len
            have hl68 := hO58.rd.bound
            have hq69 := step_lenMS x s
            have hl70 := hO62.len
            have hl71 := hO62.rd.bound
            have hq72 := step_lenAS x s
            refine SR.nil ⟨hS66, _, rfl, ?_⟩
            refine AH.take 5 rfl (by kernel_rfl) trivial (hS66) (fun w' hw' => r_mv (v := .tuple (List.toArray _)) rfl) <| AH.take 6 rfl (by kernel_rfl) trivial (hS66) (fun w' hw' => r_ext (v := .agg (List.toArray _)) rfl rfl) <| AH.take 7 rfl (by kernel_rfl) trivial (hS66) (fun w' hw' => r_ext (v := .bool _) rfl rfl) <| AH.br [8] (by kernel_rfl) rfl ⟨Br.mk' rfl trivial ?_, trivial⟩
            refine SR.alloc (l := [.slice none 0 0, .slice none 0 0, .int .i64 0, .int .i64 0, .int .i64 0]) tz31 rfl ?_
            intro g73 w74 hg75 hk76 hs77 hb78
            have hz79 := hk76.size
            have hB80 := hB65.lo hk76
            have hS81 := (hS66).lo hk76
            have hd82 : ¬ A32 = some ⟨g73, 0, none⟩ := fun e' => by have := (((hO35).lo hk49).lo hk54).base_le e'; omega
            have hd83 : ¬ A36 = some ⟨g73, 0, none⟩ := fun e' => by have := (((hO39).lo hk49).lo hk54).base_le e'; omega
            have hd84 : ¬ A55 = some ⟨g73, 0, none⟩ := fun e' => by have := (hO58).base_le e'; omega
            have hd85 : ¬ A59 = some ⟨g73, 0, none⟩ := fun e' => by have := (hO62).base_le e'; omega
            refine SR.nil ⟨hS81, _, rfl, ?_⟩
            refine AH.br [9] (by kernel_rfl) rfl ⟨Br.mk' rfl trivial ?_, trivial⟩
            refine SR.store (o := 0) (vs := [.slice A55 n56 c57, .slice A59 n60 c61, .int .i64 (((spec_StepLibrary x s).1).Bought), .int .i64 (((spec_StepLibrary x s).1).Dropped), .int .i64 (((spec_StepLibrary x s).1).Mended)]) agg31.2 rfl rfl rfl rfl (hb78) (Nat.le_of_ble_eq_true rfl) rfl ?_
            intro w86 hk87 hs88 hb89
            have hz90 := hk87.size
            have hB91 := hB80.new hk87 (by omega)
            have hS92 := (hS81).new hk87 (by omega)
            refine SR.nil ⟨hS92, _, rfl, ?_⟩
            refine AH.take 10 rfl (by kernel_rfl) trivial (hS92) (fun w' hw' => r_as (v := .bool _) rfl) <| AH.done (by kernel_rfl) ?_
            exact ⟨A32, n33, c34, A36, n37, c38, A55, n56, c57, A59, n60, c61, g73, ⟨rfl, rfl, rfl, rfl, rfl, trivial⟩, hS92, ((((hO58).lo hk76).kp hk87 (fun b_ hb e' => hd84 (by have e'' : b_ = g73 := e'; rw [← e'']; exact hb))).down (by omega)), ((((hO62).lo hk76).kp hk87 (fun b_ hb e' => hd85 (by have e'' : b_ = g73 := e'; rw [← e'']; exact hb))).down (by omega)), (hb89), ⟨by omega, (hb89).lt⟩, hd84, hd85, hd63, hl44, hl45, hl46, hl47, hl67, hl68, hq69, hl70, hl71, hq72⟩
          · refine SR.alloc (l := [.slice none 0 0, .slice none 0 0, .int .i64 0, .int .i64 0, .int .i64 0]) tz31 rfl ?_
            intro g100 w101 hg102 hk103 hs104 hb105
            have hz106 := hk103.size
            have hB107 := hB51.lo hk103
            have hS108 := (hS52).lo hk103
            have hd109 : ¬ A32 = some ⟨g100, 0, none⟩ := fun e' => by have := ((hO35).lo hk49).base_le e'; omega
            have hd110 : ¬ A36 = some ⟨g100, 0, none⟩ := fun e' => by have := ((hO39).lo hk49).base_le e'; omega
            refine SR.nil ⟨hS108, _, rfl, ?_⟩
            refine AH.br [4] (by kernel_rfl) rfl ⟨Br.mk' rfl trivial ?_, trivial⟩
            refine SR.call ent31 (c_spec_StepLibrary w101 x (((((hO35).lo hk49).lo hk103).rd)) (((((hO39).lo hk49).lo hk103).rd)) s) rfl ?_
            rintro e w111 ⟨A113, n114, c115, A117, n118, c119, rfl, hO116, hO120, hd121, hk112⟩
            refine ⟨_, rfl, ?_⟩
            have hz122 := hk112.size
            have hB123 := hB107.lo hk112
            have hS124 := (hS108).lo hk112
            have hl125 := hO116.len
            have hl126 := hO116.rd.bound
            have hq127 := step_lenMS x s
            have hl128 := hO120.len
            have hl129 := hO120.rd.bound
            have hq130 := step_lenAS x s
            refine SR.nil ⟨hS124, _, rfl, ?_⟩
            refine AH.take 5 rfl (by kernel_rfl) trivial (hS124) (fun w' hw' => r_mv (v := .tuple (List.toArray _)) rfl) <| AH.take 6 rfl (by kernel_rfl) trivial (hS124) (fun w' hw' => r_ext (v := .agg (List.toArray _)) rfl rfl) <| AH.take 7 rfl (by kernel_rfl) trivial (hS124) (fun w' hw' => r_ext (v := .bool _) rfl rfl) <| AH.br [9] (by kernel_rfl) rfl ⟨Br.mk' rfl trivial ?_, trivial⟩
            refine SR.store (o := 0) (vs := [.slice A113 n114 c115, .slice A117 n118 c119, .int .i64 (((spec_StepLibrary x s).1).Bought), .int .i64 (((spec_StepLibrary x s).1).Dropped), .int .i64 (((spec_StepLibrary x s).1).Mended)]) agg31.2 rfl rfl rfl rfl ((hb105).lo hk112) (Nat.le_of_ble_eq_true rfl) rfl ?_
            intro w131 hk132 hs133 hb134
            have hz135 := hk132.size
            have hB136 := hB123.new hk132 (by omega)
            have hS137 := (hS124).new hk132 (by omega)
            refine SR.nil ⟨hS137, _, rfl, ?_⟩
            refine AH.take 10 rfl (by kernel_rfl) trivial (hS137) (fun w' hw' => r_as (v := .bool _) rfl) <| AH.done (by kernel_rfl) ?_
            exact ⟨A32, n33, c34, A36, n37, c38, A113, n114, c115, A117, n118, c119, g100, ⟨rfl, rfl, rfl, rfl, rfl, trivial⟩, hS137, (((hO116).kp hk132 (fun b_ hb e' => by have e'' : b_ = g100 := e'; have := (hO116).base_le hb; omega)).down (by omega)), (((hO120).kp hk132 (fun b_ hb e' => by have e'' : b_ = g100 := e'; have := (hO120).base_le hb; omega)).down (by omega)), (hb134), ⟨by omega, (hb134).lt⟩, (fun e' => by have := ((hO116).kp hk132 (fun b_ hb e' => by have e'' : b_ = g100 := e'; have := (hO116).base_le hb; omega)).base_le e'; omega), (fun e' => by have := ((hO120).kp hk132 (fun b_ hb e' => by have e'' : b_ = g100 := e'; have := (hO120).base_le hb; omega)).base_le e'; omega), hd121, hl44, hl45, hl46, hl47, hl125, hl126, hq127, hl128, hl129, hq130⟩
        · refine SR.alloc (l := [.slice none 0 0, .slice none 0 0, .int .i64 0, .int .i64 0, .int .i64 0]) tz31 rfl ?_
          intro g142 w143 hg144 hk145 hs146 hb147
          have hz148 := hk145.size
          have hB149 := hB42.lo hk145
          have hS150 := (hS43).lo hk145
          have hd151 : ¬ A32 = some ⟨g142, 0, none⟩ := fun e' => by have := (hO35).base_le e'; omega
          have hd152 : ¬ A36 = some ⟨g142, 0, none⟩ := fun e' => by have := (hO39).base_le e'; omega
          refine SR.nil ⟨hS150, _, rfl, ?_⟩
          refine AH.br [3] (by kernel_rfl) rfl ⟨Br.mk' rfl trivial ?_, trivial⟩
          refine SR.call ent32 (c_laws_toLibraryStep w143 s) rfl ?_
          rintro e w153 ⟨rfl, hk154⟩
          refine ⟨_, rfl, ?_⟩
          have hz155 := hk154.size
          have hB156 := hB149.lo hk154
          have hS157 := (hS150).lo hk154
          refine SR.nil ⟨hS157, _, rfl, ?_⟩
          refine AH.br [4] (by kernel_rfl) rfl ⟨Br.mk' rfl trivial ?_, trivial⟩
          refine SR.call ent31 (c_spec_StepLibrary w153 x (((((hO35).lo hk145).lo hk154).rd)) (((((hO39).lo hk145).lo hk154).rd)) s) rfl ?_
          rintro e w158 ⟨A160, n161, c162, A164, n165, c166, rfl, hO163, hO167, hd168, hk159⟩
          refine ⟨_, rfl, ?_⟩
          have hz169 := hk159.size
          have hB170 := hB156.lo hk159
          have hS171 := (hS157).lo hk159
          have hl172 := hO163.len
          have hl173 := hO163.rd.bound
          have hq174 := step_lenMS x s
          have hl175 := hO167.len
          have hl176 := hO167.rd.bound
          have hq177 := step_lenAS x s
          refine SR.nil ⟨hS171, _, rfl, ?_⟩
          refine AH.take 5 rfl (by kernel_rfl) trivial (hS171) (fun w' hw' => r_mv (v := .tuple (List.toArray _)) rfl) <| AH.take 6 rfl (by kernel_rfl) trivial (hS171) (fun w' hw' => r_ext (v := .agg (List.toArray _)) rfl rfl) <| AH.take 7 rfl (by kernel_rfl) trivial (hS171) (fun w' hw' => r_ext (v := .bool _) rfl rfl) <| AH.br [9] (by kernel_rfl) rfl ⟨Br.mk' rfl trivial ?_, trivial⟩
          refine SR.store (o := 0) (vs := [.slice A160 n161 c162, .slice A164 n165 c166, .int .i64 (((spec_StepLibrary x s).1).Bought), .int .i64 (((spec_StepLibrary x s).1).Dropped), .int .i64 (((spec_StepLibrary x s).1).Mended)]) agg31.2 rfl rfl rfl rfl (((hb147).lo hk154).lo hk159) (Nat.le_of_ble_eq_true rfl) rfl ?_
          intro w178 hk179 hs180 hb181
          have hz182 := hk179.size
          have hB183 := hB170.new hk179 (by omega)
          have hS184 := (hS171).new hk179 (by omega)
          refine SR.nil ⟨hS184, _, rfl, ?_⟩
          refine AH.take 10 rfl (by kernel_rfl) trivial (hS184) (fun w' hw' => r_as (v := .bool _) rfl) <| AH.done (by kernel_rfl) ?_
          exact ⟨A32, n33, c34, A36, n37, c38, A160, n161, c162, A164, n165, c166, g142, ⟨rfl, rfl, rfl, rfl, rfl, trivial⟩, hS184, (((hO163).kp hk179 (fun b_ hb e' => by have e'' : b_ = g142 := e'; have := (hO163).base_le hb; omega)).down (by omega)), (((hO167).kp hk179 (fun b_ hb e' => by have e'' : b_ = g142 := e'; have := (hO167).base_le hb; omega)).down (by omega)), (hb181), ⟨by omega, (hb181).lt⟩, (fun e' => by have := ((hO163).kp hk179 (fun b_ hb e' => by have e'' : b_ = g142 := e'; have := (hO163).base_le hb; omega)).base_le e'; omega), (fun e' => by have := ((hO167).kp hk179 (fun b_ hb e' => by have e'' : b_ = g142 := e'; have := (hO167).base_le hb; omega)).base_le e'; omega), hd168, hl44, hl45, hl46, hl47, hl172, hl173, hq174, hl175, hl176, hq177⟩
      · refine SR.alloc (l := [.slice none 0 0, .slice none 0 0, .int .i64 0, .int .i64 0, .int .i64 0]) tz31 rfl ?_
        intro g189 w190 hg191 hk192 hs193 hb194
        have hz195 := hk192.size
        have hB196 := hB29.lo hk192
        have hS197 := (hk27).lo hk192
        refine SR.nil ⟨hS197, _, rfl, ?_⟩
        refine AH.br [1] (by kernel_rfl) rfl ⟨Br.mk' rfl trivial ?_, trivial⟩
        refine SR.call ent14 (c_laws_toLibrary w190 x (((((hm17).lo hk20).lo hk27).lo hk192)) (((((hm18).lo hk20).lo hk27).lo hk192)) (by omega) (by omega)) rfl ?_
        rintro e w198 ⟨A200, n201, c202, A204, n205, c206, rfl, hO203, hO207, hd208, hk199⟩
        refine ⟨_, rfl, ?_⟩
        have hz209 := hk199.size
        have hB210 := hB196.lo hk199
        have hS211 := (hS197).lo hk199
        have hl212 := hO203.len
        have hl213 := hO203.rd.bound
        have hl214 := hO207.len
        have hl215 := hO207.rd.bound
        refine SR.nil ⟨hS211, _, rfl, ?_⟩
        refine AH.br [3] (by kernel_rfl) rfl ⟨Br.mk' rfl trivial ?_, trivial⟩
        refine SR.call ent32 (c_laws_toLibraryStep w198 s) rfl ?_
        rintro e w216 ⟨rfl, hk217⟩
        refine ⟨_, rfl, ?_⟩
        have hz218 := hk217.size
        have hB219 := hB210.lo hk217
        have hS220 := (hS211).lo hk217
        refine SR.nil ⟨hS220, _, rfl, ?_⟩
        refine AH.br [4] (by kernel_rfl) rfl ⟨Br.mk' rfl trivial ?_, trivial⟩
        refine SR.call ent31 (c_spec_StepLibrary w216 x ((((hO203).lo hk217).rd)) ((((hO207).lo hk217).rd)) s) rfl ?_
        rintro e w221 ⟨A223, n224, c225, A227, n228, c229, rfl, hO226, hO230, hd231, hk222⟩
        refine ⟨_, rfl, ?_⟩
        have hz232 := hk222.size
        have hB233 := hB219.lo hk222
        have hS234 := (hS220).lo hk222
        have hl235 := hO226.len
        have hl236 := hO226.rd.bound
        have hq237 := step_lenMS x s
        have hl238 := hO230.len
        have hl239 := hO230.rd.bound
        have hq240 := step_lenAS x s
        refine SR.nil ⟨hS234, _, rfl, ?_⟩
        refine AH.take 5 rfl (by kernel_rfl) trivial (hS234) (fun w' hw' => r_mv (v := .tuple (List.toArray _)) rfl) <| AH.take 6 rfl (by kernel_rfl) trivial (hS234) (fun w' hw' => r_ext (v := .agg (List.toArray _)) rfl rfl) <| AH.take 7 rfl (by kernel_rfl) trivial (hS234) (fun w' hw' => r_ext (v := .bool _) rfl rfl) <| AH.br [9] (by kernel_rfl) rfl ⟨Br.mk' rfl trivial ?_, trivial⟩
        refine SR.store (o := 0) (vs := [.slice A223 n224 c225, .slice A227 n228 c229, .int .i64 (((spec_StepLibrary x s).1).Bought), .int .i64 (((spec_StepLibrary x s).1).Dropped), .int .i64 (((spec_StepLibrary x s).1).Mended)]) agg31.2 rfl rfl rfl rfl ((((hb194).lo hk199).lo hk217).lo hk222) (Nat.le_of_ble_eq_true rfl) rfl ?_
        intro w241 hk242 hs243 hb244
        have hz245 := hk242.size
        have hB246 := hB233.new hk242 (by omega)
        have hS247 := (hS234).new hk242 (by omega)
        refine SR.nil ⟨hS247, _, rfl, ?_⟩
        refine AH.take 10 rfl (by kernel_rfl) trivial (hS247) (fun w' hw' => r_as (v := .bool _) rfl) <| AH.done (by kernel_rfl) ?_
        exact ⟨A200, n201, c202, A204, n205, c206, A223, n224, c225, A227, n228, c229, g189, ⟨rfl, rfl, rfl, rfl, rfl, trivial⟩, hS247, (((hO226).kp hk242 (fun b_ hb e' => by have e'' : b_ = g189 := e'; have := (hO226).base_le hb; omega)).down (by omega)), (((hO230).kp hk242 (fun b_ hb e' => by have e'' : b_ = g189 := e'; have := (hO230).base_le hb; omega)).down (by omega)), (hb244), ⟨by omega, (hb244).lt⟩, (fun e' => by have := ((hO226).kp hk242 (fun b_ hb e' => by have e'' : b_ = g189 := e'; have := (hO226).base_le hb; omega)).base_le e'; omega), (fun e' => by have := ((hO230).kp hk242 (fun b_ hb e' => by have e'' : b_ = g189 := e'; have := (hO230).base_le hb; omega)).base_le e'; omega), hd231, hl212, hl213, hl214, hl215, hl235, hl236, hq237, hl238, hl239, hq240⟩
    rintro f252 w253 ⟨A32, n33, c34, A36, n37, c38, A55, n56, c57, A59, n60, c61, g73, hat255, hR254, hm93, hm94, hm95, hg96, hd97, hd98, hd99, hl44, hl45, hl46, hl47, hl67, hl68, hq69, hl70, hl71, hq72⟩
    rw [← sets_of_at hat255]
    have hz256 := hR254.size
    have hB257 := hB22.lo hR254
    refine W.seq ?_
    have hm258 := ((hm17).lo hk20).lo hR254
    have hm259 := ((hm18).lo hk20).lo hR254
    have hm260 := ((hb14).lo hk20).lo hR254
    refine W.regS (SR.q' (r_lda (l := [.slice Ax_Maps nx_Maps cx_Maps, .slice Ax_Away nx_Away cx_Away, .int .i64 x.Bought, .int .i64 x.Dropped, .int .i64 x.Mended]) agg25 rfl (fun _ _ hu => ((hm23).lo hR254).cell hu) rfl) <| SR.call ent14 (c_laws_toLibrary w253 x ((hm258)) ((hm259)) (by omega) (by omega)) rfl ?_)
    rintro e w261 ⟨A263, n264, c265, A267, n268, c269, rfl, hO266, hO270, hd271, hk262⟩
    refine ⟨_, rfl, ?_⟩
    have hz272 := hk262.size
    have hB273 := hB257.lo hk262
    have hl274 := hO266.len
    have hl275 := hO266.rd.bound
    have hl276 := hO270.len
    have hl277 := hO270.rd.bound
    refine SR.alloc (l := [.slice none 0 0, .slice none 0 0, .int .i64 0, .int .i64 0, .int .i64 0]) tz31 rfl ?_
    intro g278 w279 hg280 hk281 hs282 hb283
    have hz284 := hk281.size
    have hB285 := hB273.lo hk281
    have hd286 : ¬ A55 = some ⟨g278, 0, none⟩ := fun e' => by have := ((hm93).lo hk262).base_le e'; omega
    have hd287 : ¬ A59 = some ⟨g278, 0, none⟩ := fun e' => by have := ((hm94).lo hk262).base_le e'; omega
    have hd288 : ¬ A263 = some ⟨g278, 0, none⟩ := fun e' => by have := (hO266).base_le e'; omega
    have hd289 : ¬ A267 = some ⟨g278, 0, none⟩ := fun e' => by have := (hO270).base_le e'; omega
    refine SR.store (o := 0) (vs := [.slice A263 n264 c265, .slice A267 n268 c269, .int .i64 x.Bought, .int .i64 x.Dropped, .int .i64 x.Mended]) agg31.2 rfl rfl rfl rfl (hb283) (Nat.le_of_ble_eq_true rfl) rfl ?_
    intro w290 hk291 hs292 hb293
    have hz294 := hk291.size
    have hB295 := hB285.new hk291 (by omega)
    refine SR.nil ?_
    refine W.seq ?_
    have hm296 := ((((hm23).lo hR254).lo hk262).lo hk281).kp hk291 (fun e' => by have e'' : g1 = g278 := e'; omega)
    have hm297 := (((hm258).lo hk262).lo hk281).kp hk291 (fun b_ hb e' => by have e'' : b_ = g278 := e'; omega)
    have hm298 := (((hm259).lo hk262).lo hk281).kp hk291 (fun b_ hb e' => by have e'' : b_ = g278 := e'; omega)
    have hm299 := (((hm260).lo hk262).lo hk281).kp hk291 (fun e' => by have e'' : g9 = g278 := e'; omega)
    have hm300 := (((hm95).lo hk262).lo hk281).kp hk291 (fun e' => by have e'' : g73 = g278 := e'; omega)
    have hm301 := (((hm93).lo hk262).lo hk281).kp hk291 (fun b_ hb e' => hd286 (by have e'' : b_ = g278 := e'; rw [← e'']; exact hb))
    have hm302 := (((hm94).lo hk262).lo hk281).kp hk291 (fun b_ hb e' => hd287 (by have e'' : b_ = g278 := e'; rw [← e'']; exact hb))
    have hm303 := ((hO266).lo hk281).kp hk291 (fun b_ hb e' => hd288 (by have e'' : b_ = g278 := e'; rw [← e'']; exact hb))
    have hm304 := ((hO270).lo hk281).kp hk291 (fun b_ hb e' => hd289 (by have e'' : b_ = g278 := e'; rw [← e'']; exact hb))
    refine W.regA (Lo w290) (fun f' w' => ∃ (A316 : Option Addr), ∃ (n317 : Nat), ∃ (c318 : Nat), ∃ (A320 : Option Addr), ∃ (n321 : Nat), ∃ (c322 : Nat), ∃ (g334 : Nat), At f' [(2, .pointer (some ((⟨g1, 0, none⟩ : Addr)))), (3, .pointer (some ((⟨g9, 0, none⟩ : Addr)))), (4, .bool false), (6, .pointer (some ((⟨g73, 0, none⟩ : Addr)))), (7, .bool ((spec_StepLibrary x s).2)), (8, .pointer (some ((⟨g278, 0, none⟩ : Addr)))), (9, .pointer (some ((⟨g334, 0, none⟩ : Addr)))), (10, .bool ((impl_StepLibrary x s).2))] ∧ (Lo w290 w') ∧ (SlO w' w290.heap.size encLMap 3 73 A316 n317 c318 (((impl_StepLibrary x s).1).Maps)) ∧ (SlO w' w290.heap.size encAway 2 77 A320 n321 c322 (((impl_StepLibrary x s).1).Away)) ∧ (Blk w' g334 31 [.slice A316 n317 c318, .slice A320 n321 c322, .int .i64 (((impl_StepLibrary x s).1).Bought), .int .i64 (((impl_StepLibrary x s).1).Dropped), .int .i64 (((impl_StepLibrary x s).1).Mended)]) ∧ (w290.heap.size ≤ g334 ∧ g334 < w'.heap.size) ∧ (¬ A55 = some ⟨g334, 0, none⟩) ∧ (¬ A59 = some ⟨g334, 0, none⟩) ∧ (¬ A263 = some ⟨g334, 0, none⟩) ∧ (¬ A267 = some ⟨g334, 0, none⟩) ∧ (¬ A316 = some ⟨g334, 0, none⟩) ∧ (¬ A320 = some ⟨g334, 0, none⟩) ∧ (∀ b_, A316 = some ⟨b_, 0, none⟩ → ¬ A55 = some ⟨b_, 0, none⟩) ∧ (∀ b_, A316 = some ⟨b_, 0, none⟩ → ¬ A59 = some ⟨b_, 0, none⟩) ∧ (∀ b_, A316 = some ⟨b_, 0, none⟩ → ¬ A263 = some ⟨b_, 0, none⟩) ∧ (∀ b_, A316 = some ⟨b_, 0, none⟩ → ¬ A267 = some ⟨b_, 0, none⟩) ∧ (∀ b_, A316 = some ⟨b_, 0, none⟩ → ¬ A320 = some ⟨b_, 0, none⟩) ∧ (∀ b_, A320 = some ⟨b_, 0, none⟩ → ¬ A55 = some ⟨b_, 0, none⟩) ∧ (∀ b_, A320 = some ⟨b_, 0, none⟩ → ¬ A59 = some ⟨b_, 0, none⟩) ∧ (∀ b_, A320 = some ⟨b_, 0, none⟩ → ¬ A263 = some ⟨b_, 0, none⟩) ∧ (∀ b_, A320 = some ⟨b_, 0, none⟩ → ¬ A267 = some ⟨b_, 0, none⟩) ∧ (n317 = (((impl_StepLibrary x s).1).Maps).length) ∧ ((n317 : Int) ≤ 9223372036854775807) ∧ ((((impl_StepLibrary x s).1).Maps).length ≤ 8) ∧ (n321 = (((impl_StepLibrary x s).1).Away).length) ∧ ((n321 : Int) ≤ 9223372036854775807) ∧ ((((impl_StepLibrary x s).1).Away).length ≤ 8)) mo ?_ ?_
    · intro w305 hk306
      have hz307 := hk306.size
      have hB308 := hB295.lo hk306
      refine AH.take 0 rfl (by kernel_rfl) trivial (hk306) (fun w' hw' => r_lda (l := [.slice A263 n264 c265, .slice A267 n268 c269, .int .i64 x.Bought, .int .i64 x.Dropped, .int .i64 x.Mended]) agg31 rfl (fun _ _ hu => ((hb293).lo hw').cell hu) rfl) <| AH.take 1 rfl (by kernel_rfl) trivial (hk306) (fun w' hw' => r_lda (l := [.int .i64 s.Kind, .int .i64 s.Id, .int .i64 s.Reader, .int .i64 s.Value]) agg46 rfl (fun _ _ hu => ((hm299).lo hw').cell hu) rfl) <| AH.br [2, 7] (by kernel_rfl) rfl ⟨Br.mk' rfl trivial ?_, Br.mk' rfl trivial ?_, trivial⟩
      · refine SR.call ent32 (c_laws_toLibraryStep w305 s) rfl ?_
        rintro e w309 ⟨rfl, hk310⟩
        refine ⟨_, rfl, ?_⟩
        have hz311 := hk310.size
        have hB312 := hB308.lo hk310
        have hS313 := (hk306).lo hk310
        refine SR.nil ⟨hS313, _, rfl, ?_⟩
        refine AH.br [3, 7] (by kernel_rfl) rfl ⟨Br.mk' rfl trivial ?_, Br.mk' rfl trivial ?_, trivial⟩
        · refine SR.call ent33 (c_impl_StepLibrary w309 x (((((hm303).lo hk306).lo hk310).rd)) (((((hm304).lo hk306).lo hk310).rd)) s (by omega)) rfl ?_
          rintro e w314 ⟨A316, n317, c318, A320, n321, c322, rfl, hO319, hO323, hd324, hk315⟩
          refine ⟨_, rfl, ?_⟩
          have hz325 := hk315.size
          have hB326 := hB312.lo hk315
          have hS327 := (hS313).lo hk315
          have hl328 := hO319.len
          have hl329 := hO319.rd.bound
          have hq330 := step_lenM x s
          have hl331 := hO323.len
          have hl332 := hO323.rd.bound
          have hq333 := step_lenA x s
          refine SR.nil ⟨hS327, _, rfl, ?_⟩
          refine AH.take 4 rfl (by kernel_rfl) trivial (hS327) (fun w' hw' => r_mv (v := .tuple (List.toArray _)) rfl) <| AH.take 5 rfl (by kernel_rfl) trivial (hS327) (fun w' hw' => r_ext (v := .agg (List.toArray _)) rfl rfl) <| AH.take 6 rfl (by kernel_rfl) trivial (hS327) (fun w' hw' => r_ext (v := .bool _) rfl rfl) <| AH.br [7] (by kernel_rfl) rfl ⟨Br.mk' rfl trivial ?_, trivial⟩
          refine SR.alloc (l := [.slice none 0 0, .slice none 0 0, .int .i64 0, .int .i64 0, .int .i64 0]) tz31 rfl ?_
          intro g334 w335 hg336 hk337 hs338 hb339
          have hz340 := hk337.size
          have hB341 := hB326.lo hk337
          have hS342 := (hS327).lo hk337
          have hd343 : ¬ A55 = some ⟨g334, 0, none⟩ := fun e' => by have := ((((hm301).lo hk306).lo hk310).lo hk315).base_le e'; omega
          have hd344 : ¬ A59 = some ⟨g334, 0, none⟩ := fun e' => by have := ((((hm302).lo hk306).lo hk310).lo hk315).base_le e'; omega
          have hd345 : ¬ A263 = some ⟨g334, 0, none⟩ := fun e' => by have := ((((hm303).lo hk306).lo hk310).lo hk315).base_le e'; omega
          have hd346 : ¬ A267 = some ⟨g334, 0, none⟩ := fun e' => by have := ((((hm304).lo hk306).lo hk310).lo hk315).base_le e'; omega
          have hd347 : ¬ A316 = some ⟨g334, 0, none⟩ := fun e' => by have := (hO319).base_le e'; omega
          have hd348 : ¬ A320 = some ⟨g334, 0, none⟩ := fun e' => by have := (hO323).base_le e'; omega
          refine SR.nil ⟨hS342, _, rfl, ?_⟩
          refine AH.br [8] (by kernel_rfl) rfl ⟨Br.mk' rfl trivial ?_, trivial⟩
          refine SR.store (o := 0) (vs := [.slice A316 n317 c318, .slice A320 n321 c322, .int .i64 (((impl_StepLibrary x s).1).Bought), .int .i64 (((impl_StepLibrary x s).1).Dropped), .int .i64 (((impl_StepLibrary x s).1).Mended)]) agg31.2 rfl rfl rfl rfl (hb339) (Nat.le_of_ble_eq_true rfl) rfl ?_
          intro w349 hk350 hs351 hb352
          have hz353 := hk350.size
          have hB354 := hB341.new hk350 (by omega)
          have hS355 := (hS342).new hk350 (by omega)
          refine SR.nil ⟨hS355, _, rfl, ?_⟩
          refine AH.take 9 rfl (by kernel_rfl) trivial (hS355) (fun w' hw' => r_as (v := .bool _) rfl) <| AH.done (by kernel_rfl) ?_
          exact ⟨A316, n317, c318, A320, n321, c322, g334, ⟨rfl, rfl, rfl, rfl, rfl, rfl, rfl, rfl, trivial⟩, hS355, ((((hO319).lo hk337).kp hk350 (fun b_ hb e' => hd347 (by have e'' : b_ = g334 := e'; rw [← e'']; exact hb))).down (by omega)), ((((hO323).lo hk337).kp hk350 (fun b_ hb e' => hd348 (by have e'' : b_ = g334 := e'; rw [← e'']; exact hb))).down (by omega)), (hb352), ⟨by omega, (hb352).lt⟩, hd343, hd344, hd345, hd346, hd347, hd348, (fun b_ h h' => by have h1 := (((hO319).lo hk337).kp hk350 (fun b_ hb e' => hd347 (by have e'' : b_ = g334 := e'; rw [← e'']; exact hb))).base_le h; have h2 := (((hm301).lo hk306).lo hk310).base_le h'; omega), (fun b_ h h' => by have h1 := (((hO319).lo hk337).kp hk350 (fun b_ hb e' => hd347 (by have e'' : b_ = g334 := e'; rw [← e'']; exact hb))).base_le h; have h2 := (((hm302).lo hk306).lo hk310).base_le h'; omega), (fun b_ h h' => by have h1 := (((hO319).lo hk337).kp hk350 (fun b_ hb e' => hd347 (by have e'' : b_ = g334 := e'; rw [← e'']; exact hb))).base_le h; have h2 := (((hm303).lo hk306).lo hk310).base_le h'; omega), (fun b_ h h' => by have h1 := (((hO319).lo hk337).kp hk350 (fun b_ hb e' => hd347 (by have e'' : b_ = g334 := e'; rw [← e'']; exact hb))).base_le h; have h2 := (((hm304).lo hk306).lo hk310).base_le h'; omega), hd324, (fun b_ h h' => by have h1 := (((hO323).lo hk337).kp hk350 (fun b_ hb e' => hd348 (by have e'' : b_ = g334 := e'; rw [← e'']; exact hb))).base_le h; have h2 := (((hm301).lo hk306).lo hk310).base_le h'; omega), (fun b_ h h' => by have h1 := (((hO323).lo hk337).kp hk350 (fun b_ hb e' => hd348 (by have e'' : b_ = g334 := e'; rw [← e'']; exact hb))).base_le h; have h2 := (((hm302).lo hk306).lo hk310).base_le h'; omega), (fun b_ h h' => by have h1 := (((hO323).lo hk337).kp hk350 (fun b_ hb e' => hd348 (by have e'' : b_ = g334 := e'; rw [← e'']; exact hb))).base_le h; have h2 := (((hm303).lo hk306).lo hk310).base_le h'; omega), (fun b_ h h' => by have h1 := (((hO323).lo hk337).kp hk350 (fun b_ hb e' => hd348 (by have e'' : b_ = g334 := e'; rw [← e'']; exact hb))).base_le h; have h2 := (((hm304).lo hk306).lo hk310).base_le h'; omega), hl328, hl329, hq330, hl331, hl332, hq333⟩
        · refine SR.alloc (l := [.slice none 0 0, .slice none 0 0, .int .i64 0, .int .i64 0, .int .i64 0]) tz31 rfl ?_
          intro g375 w376 hg377 hk378 hs379 hb380
          have hz381 := hk378.size
          have hB382 := hB312.lo hk378
          have hS383 := (hS313).lo hk378
          have hd384 : ¬ A55 = some ⟨g375, 0, none⟩ := fun e' => by have := (((hm301).lo hk306).lo hk310).base_le e'; omega
          have hd385 : ¬ A59 = some ⟨g375, 0, none⟩ := fun e' => by have := (((hm302).lo hk306).lo hk310).base_le e'; omega
          have hd386 : ¬ A263 = some ⟨g375, 0, none⟩ := fun e' => by have := (((hm303).lo hk306).lo hk310).base_le e'; omega
          have hd387 : ¬ A267 = some ⟨g375, 0, none⟩ := fun e' => by have := (((hm304).lo hk306).lo hk310).base_le e'; omega
          refine SR.nil ⟨hS383, _, rfl, ?_⟩
          refine AH.br [3] (by kernel_rfl) rfl ⟨Br.mk' rfl trivial ?_, trivial⟩
          refine SR.call ent33 (c_impl_StepLibrary w376 x ((((((hm303).lo hk306).lo hk310).lo hk378).rd)) ((((((hm304).lo hk306).lo hk310).lo hk378).rd)) s (by omega)) rfl ?_
          rintro e w388 ⟨A390, n391, c392, A394, n395, c396, rfl, hO393, hO397, hd398, hk389⟩
          refine ⟨_, rfl, ?_⟩
          have hz399 := hk389.size
          have hB400 := hB382.lo hk389
          have hS401 := (hS383).lo hk389
          have hl402 := hO393.len
          have hl403 := hO393.rd.bound
          have hq404 := step_lenM x s
          have hl405 := hO397.len
          have hl406 := hO397.rd.bound
          have hq407 := step_lenA x s
          refine SR.nil ⟨hS401, _, rfl, ?_⟩
          refine AH.take 4 rfl (by kernel_rfl) trivial (hS401) (fun w' hw' => r_mv (v := .tuple (List.toArray _)) rfl) <| AH.take 5 rfl (by kernel_rfl) trivial (hS401) (fun w' hw' => r_ext (v := .agg (List.toArray _)) rfl rfl) <| AH.take 6 rfl (by kernel_rfl) trivial (hS401) (fun w' hw' => r_ext (v := .bool _) rfl rfl) <| AH.br [8] (by kernel_rfl) rfl ⟨Br.mk' rfl trivial ?_, trivial⟩
          refine SR.store (o := 0) (vs := [.slice A390 n391 c392, .slice A394 n395 c396, .int .i64 (((impl_StepLibrary x s).1).Bought), .int .i64 (((impl_StepLibrary x s).1).Dropped), .int .i64 (((impl_StepLibrary x s).1).Mended)]) agg31.2 rfl rfl rfl rfl ((hb380).lo hk389) (Nat.le_of_ble_eq_true rfl) rfl ?_
          intro w408 hk409 hs410 hb411
          have hz412 := hk409.size
          have hB413 := hB400.new hk409 (by omega)
          have hS414 := (hS401).new hk409 (by omega)
          refine SR.nil ⟨hS414, _, rfl, ?_⟩
          refine AH.take 9 rfl (by kernel_rfl) trivial (hS414) (fun w' hw' => r_as (v := .bool _) rfl) <| AH.done (by kernel_rfl) ?_
          exact ⟨A390, n391, c392, A394, n395, c396, g375, ⟨rfl, rfl, rfl, rfl, rfl, rfl, rfl, rfl, trivial⟩, hS414, (((hO393).kp hk409 (fun b_ hb e' => by have e'' : b_ = g375 := e'; have := (hO393).base_le hb; omega)).down (by omega)), (((hO397).kp hk409 (fun b_ hb e' => by have e'' : b_ = g375 := e'; have := (hO397).base_le hb; omega)).down (by omega)), (hb411), ⟨by omega, (hb411).lt⟩, hd384, hd385, hd386, hd387, (fun e' => by have := ((hO393).kp hk409 (fun b_ hb e' => by have e'' : b_ = g375 := e'; have := (hO393).base_le hb; omega)).base_le e'; omega), (fun e' => by have := ((hO397).kp hk409 (fun b_ hb e' => by have e'' : b_ = g375 := e'; have := (hO397).base_le hb; omega)).base_le e'; omega), (fun b_ h h' => by have h1 := ((hO393).kp hk409 (fun b_ hb e' => by have e'' : b_ = g375 := e'; have := (hO393).base_le hb; omega)).base_le h; have h2 := ((((hm301).lo hk306).lo hk310).lo hk378).base_le h'; omega), (fun b_ h h' => by have h1 := ((hO393).kp hk409 (fun b_ hb e' => by have e'' : b_ = g375 := e'; have := (hO393).base_le hb; omega)).base_le h; have h2 := ((((hm302).lo hk306).lo hk310).lo hk378).base_le h'; omega), (fun b_ h h' => by have h1 := ((hO393).kp hk409 (fun b_ hb e' => by have e'' : b_ = g375 := e'; have := (hO393).base_le hb; omega)).base_le h; have h2 := ((((hm303).lo hk306).lo hk310).lo hk378).base_le h'; omega), (fun b_ h h' => by have h1 := ((hO393).kp hk409 (fun b_ hb e' => by have e'' : b_ = g375 := e'; have := (hO393).base_le hb; omega)).base_le h; have h2 := ((((hm304).lo hk306).lo hk310).lo hk378).base_le h'; omega), hd398, (fun b_ h h' => by have h1 := ((hO397).kp hk409 (fun b_ hb e' => by have e'' : b_ = g375 := e'; have := (hO397).base_le hb; omega)).base_le h; have h2 := ((((hm301).lo hk306).lo hk310).lo hk378).base_le h'; omega), (fun b_ h h' => by have h1 := ((hO397).kp hk409 (fun b_ hb e' => by have e'' : b_ = g375 := e'; have := (hO397).base_le hb; omega)).base_le h; have h2 := ((((hm302).lo hk306).lo hk310).lo hk378).base_le h'; omega), (fun b_ h h' => by have h1 := ((hO397).kp hk409 (fun b_ hb e' => by have e'' : b_ = g375 := e'; have := (hO397).base_le hb; omega)).base_le h; have h2 := ((((hm303).lo hk306).lo hk310).lo hk378).base_le h'; omega), (fun b_ h h' => by have h1 := ((hO397).kp hk409 (fun b_ hb e' => by have e'' : b_ = g375 := e'; have := (hO397).base_le hb; omega)).base_le h; have h2 := ((((hm304).lo hk306).lo hk310).lo hk378).base_le h'; omega), hl402, hl403, hq404, hl405, hl406, hq407⟩
      · refine SR.alloc (l := [.slice none 0 0, .slice none 0 0, .int .i64 0, .int .i64 0, .int .i64 0]) tz31 rfl ?_
        intro g431 w432 hg433 hk434 hs435 hb436
        have hz437 := hk434.size
        have hB438 := hB308.lo hk434
        have hS439 := (hk306).lo hk434
        have hd440 : ¬ A55 = some ⟨g431, 0, none⟩ := fun e' => by have := ((hm301).lo hk306).base_le e'; omega
        have hd441 : ¬ A59 = some ⟨g431, 0, none⟩ := fun e' => by have := ((hm302).lo hk306).base_le e'; omega
        have hd442 : ¬ A263 = some ⟨g431, 0, none⟩ := fun e' => by have := ((hm303).lo hk306).base_le e'; omega
        have hd443 : ¬ A267 = some ⟨g431, 0, none⟩ := fun e' => by have := ((hm304).lo hk306).base_le e'; omega
        refine SR.nil ⟨hS439, _, rfl, ?_⟩
        refine AH.br [2] (by kernel_rfl) rfl ⟨Br.mk' rfl trivial ?_, trivial⟩
        refine SR.call ent32 (c_laws_toLibraryStep w432 s) rfl ?_
        rintro e w444 ⟨rfl, hk445⟩
        refine ⟨_, rfl, ?_⟩
        have hz446 := hk445.size
        have hB447 := hB438.lo hk445
        have hS448 := (hS439).lo hk445
        refine SR.nil ⟨hS448, _, rfl, ?_⟩
        refine AH.br [3] (by kernel_rfl) rfl ⟨Br.mk' rfl trivial ?_, trivial⟩
        refine SR.call ent33 (c_impl_StepLibrary w444 x ((((((hm303).lo hk306).lo hk434).lo hk445).rd)) ((((((hm304).lo hk306).lo hk434).lo hk445).rd)) s (by omega)) rfl ?_
        rintro e w449 ⟨A451, n452, c453, A455, n456, c457, rfl, hO454, hO458, hd459, hk450⟩
        refine ⟨_, rfl, ?_⟩
        have hz460 := hk450.size
        have hB461 := hB447.lo hk450
        have hS462 := (hS448).lo hk450
        have hl463 := hO454.len
        have hl464 := hO454.rd.bound
        have hq465 := step_lenM x s
        have hl466 := hO458.len
        have hl467 := hO458.rd.bound
        have hq468 := step_lenA x s
        refine SR.nil ⟨hS462, _, rfl, ?_⟩
        refine AH.take 4 rfl (by kernel_rfl) trivial (hS462) (fun w' hw' => r_mv (v := .tuple (List.toArray _)) rfl) <| AH.take 5 rfl (by kernel_rfl) trivial (hS462) (fun w' hw' => r_ext (v := .agg (List.toArray _)) rfl rfl) <| AH.take 6 rfl (by kernel_rfl) trivial (hS462) (fun w' hw' => r_ext (v := .bool _) rfl rfl) <| AH.br [8] (by kernel_rfl) rfl ⟨Br.mk' rfl trivial ?_, trivial⟩
        refine SR.store (o := 0) (vs := [.slice A451 n452 c453, .slice A455 n456 c457, .int .i64 (((impl_StepLibrary x s).1).Bought), .int .i64 (((impl_StepLibrary x s).1).Dropped), .int .i64 (((impl_StepLibrary x s).1).Mended)]) agg31.2 rfl rfl rfl rfl (((hb436).lo hk445).lo hk450) (Nat.le_of_ble_eq_true rfl) rfl ?_
        intro w469 hk470 hs471 hb472
        have hz473 := hk470.size
        have hB474 := hB461.new hk470 (by omega)
        have hS475 := (hS462).new hk470 (by omega)
        refine SR.nil ⟨hS475, _, rfl, ?_⟩
        refine AH.take 9 rfl (by kernel_rfl) trivial (hS475) (fun w' hw' => r_as (v := .bool _) rfl) <| AH.done (by kernel_rfl) ?_
        exact ⟨A451, n452, c453, A455, n456, c457, g431, ⟨rfl, rfl, rfl, rfl, rfl, rfl, rfl, rfl, trivial⟩, hS475, (((hO454).kp hk470 (fun b_ hb e' => by have e'' : b_ = g431 := e'; have := (hO454).base_le hb; omega)).down (by omega)), (((hO458).kp hk470 (fun b_ hb e' => by have e'' : b_ = g431 := e'; have := (hO458).base_le hb; omega)).down (by omega)), (hb472), ⟨by omega, (hb472).lt⟩, hd440, hd441, hd442, hd443, (fun e' => by have := ((hO454).kp hk470 (fun b_ hb e' => by have e'' : b_ = g431 := e'; have := (hO454).base_le hb; omega)).base_le e'; omega), (fun e' => by have := ((hO458).kp hk470 (fun b_ hb e' => by have e'' : b_ = g431 := e'; have := (hO458).base_le hb; omega)).base_le e'; omega), (fun b_ h h' => by have h1 := ((hO454).kp hk470 (fun b_ hb e' => by have e'' : b_ = g431 := e'; have := (hO454).base_le hb; omega)).base_le h; have h2 := ((((hm301).lo hk306).lo hk434).lo hk445).base_le h'; omega), (fun b_ h h' => by have h1 := ((hO454).kp hk470 (fun b_ hb e' => by have e'' : b_ = g431 := e'; have := (hO454).base_le hb; omega)).base_le h; have h2 := ((((hm302).lo hk306).lo hk434).lo hk445).base_le h'; omega), (fun b_ h h' => by have h1 := ((hO454).kp hk470 (fun b_ hb e' => by have e'' : b_ = g431 := e'; have := (hO454).base_le hb; omega)).base_le h; have h2 := ((((hm303).lo hk306).lo hk434).lo hk445).base_le h'; omega), (fun b_ h h' => by have h1 := ((hO454).kp hk470 (fun b_ hb e' => by have e'' : b_ = g431 := e'; have := (hO454).base_le hb; omega)).base_le h; have h2 := ((((hm304).lo hk306).lo hk434).lo hk445).base_le h'; omega), hd459, (fun b_ h h' => by have h1 := ((hO458).kp hk470 (fun b_ hb e' => by have e'' : b_ = g431 := e'; have := (hO458).base_le hb; omega)).base_le h; have h2 := ((((hm301).lo hk306).lo hk434).lo hk445).base_le h'; omega), (fun b_ h h' => by have h1 := ((hO458).kp hk470 (fun b_ hb e' => by have e'' : b_ = g431 := e'; have := (hO458).base_le hb; omega)).base_le h; have h2 := ((((hm302).lo hk306).lo hk434).lo hk445).base_le h'; omega), (fun b_ h h' => by have h1 := ((hO458).kp hk470 (fun b_ hb e' => by have e'' : b_ = g431 := e'; have := (hO458).base_le hb; omega)).base_le h; have h2 := ((((hm303).lo hk306).lo hk434).lo hk445).base_le h'; omega), (fun b_ h h' => by have h1 := ((hO458).kp hk470 (fun b_ hb e' => by have e'' : b_ = g431 := e'; have := (hO458).base_le hb; omega)).base_le h; have h2 := ((((hm304).lo hk306).lo hk434).lo hk445).base_le h'; omega), hl463, hl464, hq465, hl466, hl467, hq468⟩
    rintro f492 w493 ⟨A316, n317, c318, A320, n321, c322, g334, hat495, hR494, hm356, hm357, hm358, hg359, hd360, hd361, hd362, hd363, hd364, hd365, hd366, hd367, hd368, hd369, hd370, hd371, hd372, hd373, hd374, hl328, hl329, hq330, hl331, hl332, hq333⟩
    rw [← sets_of_at hat495]
    have hz496 := hR494.size
    have hB497 := hB295.lo hR494
    refine W.seq ?_
    refine W.seq ?_
    refine W.regJS (fun f' w' => At f' [(2, .pointer (some ((⟨g1, 0, none⟩ : Addr)))), (3, .pointer (some ((⟨g9, 0, none⟩ : Addr)))), (4, .bool false), (6, .pointer (some ((⟨g73, 0, none⟩ : Addr)))), (7, .bool ((spec_StepLibrary x s).2)), (8, .pointer (some ((⟨g278, 0, none⟩ : Addr)))), (9, .pointer (some ((⟨g334, 0, none⟩ : Addr)))), (10, .bool ((impl_StepLibrary x s).2)), (46, .bool (decide ((¬ (((impl_StepLibrary x s).1) = ((spec_StepLibrary x s).1))) ∨ ((!(((impl_StepLibrary x s).2) == ((spec_StepLibrary x s).2))) = true))))] ∧ Lo w493 w') ?_ ?_
    · refine SR.q' (r_lda (l := [.slice A316 n317 c318, .slice A320 n321 c322, .int .i64 (((impl_StepLibrary x s).1).Bought), .int .i64 (((impl_StepLibrary x s).1).Dropped), .int .i64 (((impl_StepLibrary x s).1).Mended)]) agg31 rfl (fun _ _ hu => (hm358).cell hu) rfl) <| SR.q' (r_lda (l := [.slice A55 n56 c57, .slice A59 n60 c61, .int .i64 (((spec_StepLibrary x s).1).Bought), .int .i64 (((spec_StepLibrary x s).1).Dropped), .int .i64 (((spec_StepLibrary x s).1).Mended)]) agg31 rfl (fun _ _ hu => ((hm300).lo hR494).cell hu) rfl) <| SR.call ent16 (c_laws_eqLibrary w493 ((impl_StepLibrary x s).1) (((hm356).rd)) (((hm357).rd)) ((spec_StepLibrary x s).1) ((((hm301).lo hR494).rd)) ((((hm302).lo hR494).rd))) rfl ?_
      rintro e w498 ⟨rfl, hk499⟩
      refine ⟨_, rfl, ?_⟩
      have hz500 := hk499.size
      have hB501 := hB497.lo hk499
      refine SR.q' (r_not rfl) <| SR.q' (r_mv (v := .bool _) rfl) <| SR.splitN (fun h502 => ?_) (fun h502 => ?_)
      · refine SR.s' rfl <| SR.s' rfl <| SR.s' rfl <| SR.q' (r_pick true rfl (v := .bool true) rfl) <| SR.nil ?_
        exact ⟨_, rfl, ⟨⟨rfl, rfl, rfl, rfl, rfl, rfl, rfl, rfl, (eDT ((jmf h502).1 trivial)), trivial⟩, (hk499)⟩⟩
      · refine SR.g' rfl (r_mv (v := .bool _) rfl) <| SR.g' rfl (r_mv (v := .bool _) rfl) <| SR.g' rfl (r_neb und4 rfl rfl) <| SR.q' (r_pick false rfl (v := .bool _) rfl) <| SR.nil ?_
        exact ⟨_, rfl, ⟨⟨rfl, rfl, rfl, rfl, rfl, rfl, rfl, rfl, (eBD (jmt h502)), trivial⟩, (hk499)⟩⟩
    rintro f503 w504 ⟨hat505, hk506⟩
    rw [← sets_of_at hat505]
    have hz507 := hk506.size
    have hB508 := hB497.lo hk506
    refine W.cond_d rfl (fun h509 => ?_) (fun h509 => ?_)
    · refine W.seq ?_
      have hm510 := ((hm296).lo hR494).lo hk506
      have hm511 := ((hm297).lo hR494).lo hk506
      have hm512 := ((hm298).lo hR494).lo hk506
      have hm513 := ((hm299).lo hR494).lo hk506
      have hm514 := ((hm300).lo hR494).lo hk506
      have hm515 := ((hm301).lo hR494).lo hk506
      have hm516 := ((hm302).lo hR494).lo hk506
      have hm517 := ((hb293).lo hR494).lo hk506
      have hm518 := ((hm303).lo hR494).lo hk506
      have hm519 := ((hm304).lo hR494).lo hk506
      refine W.regS (SR.q' (r_as (v := .bool false) rfl) <| SR.nil ?_)
      refine W.ret ?_
      refine ret1 rfl (v := .bool _) rfl ?_
      exact ⟨eR (eB (z_c_laws_FnExactStepLibrary_520 x nx_Maps hbdx_Maps hlex_Maps nx_Away hbdx_Away hlex_Away s hp0 h24 hq25 n33 n37 n56 n60 hl44 hl45 hl46 hl47 hl67 hl68 hq69 hl70 hl71 hq72 n264 hl274 hl275 n268 hl276 hl277 n317 n321 hl328 hl329 hq330 hl331 hl332 hq333 h509)), hB508⟩
    · have hq521 : ((impl_StepLibrary x s).1) = ((spec_StepLibrary x s).1) := (Classical.not_not.1 (not_or.1 h509).1)
      have hq522 : ¬ ((!(((impl_StepLibrary x s).2) == ((spec_StepLibrary x s).2))) = true) := (not_or.1 h509).2
      refine W.skip ?_
      refine W.seq ?_
      refine W.seq ?_
      have hm523 := ((hm296).lo hR494).lo hk506
      have hm524 := ((hm297).lo hR494).lo hk506
      have hm525 := ((hm298).lo hR494).lo hk506
      have hm526 := ((hm299).lo hR494).lo hk506
      have hm527 := ((hm300).lo hR494).lo hk506
      have hm528 := ((hm301).lo hR494).lo hk506
      have hm529 := ((hm302).lo hR494).lo hk506
      have hm530 := ((hb293).lo hR494).lo hk506
      have hm531 := ((hm303).lo hR494).lo hk506
      have hm532 := ((hm304).lo hR494).lo hk506
      refine W.regA (Lo w504) (fun f' w' => ∃ (A539 : Option Addr), ∃ (n540 : Nat), ∃ (c541 : Nat), ∃ (A543 : Option Addr), ∃ (n544 : Nat), ∃ (c545 : Nat), At f' [(2, .pointer (some ((⟨g1, 0, none⟩ : Addr)))), (3, .pointer (some ((⟨g9, 0, none⟩ : Addr)))), (4, .bool false), (6, .pointer (some ((⟨g73, 0, none⟩ : Addr)))), (7, .bool ((spec_StepLibrary x s).2)), (8, .pointer (some ((⟨g278, 0, none⟩ : Addr)))), (9, .pointer (some ((⟨g334, 0, none⟩ : Addr)))), (10, .bool ((impl_StepLibrary x s).2)), (51, .bool (!decide (x = x)))] ∧ (Lo w504 w') ∧ (n540 = (x.Maps).length) ∧ ((n540 : Int) ≤ 9223372036854775807) ∧ (n544 = (x.Away).length) ∧ ((n544 : Int) ≤ 9223372036854775807)) mo ?_ ?_
      · intro w533 hk534
        have hz535 := hk534.size
        have hB536 := hB508.lo hk534
        refine AH.take 0 rfl (by kernel_rfl) trivial (hk534) (fun w' hw' => r_lda (l := [.slice A263 n264 c265, .slice A267 n268 c269, .int .i64 x.Bought, .int .i64 x.Dropped, .int .i64 x.Mended]) agg31 rfl (fun _ _ hu => ((hm530).lo hw').cell hu) rfl) <| AH.take 1 rfl (by kernel_rfl) trivial (hk534) (fun w' hw' => r_lda (l := [.slice Ax_Maps nx_Maps cx_Maps, .slice Ax_Away nx_Away cx_Away, .int .i64 x.Bought, .int .i64 x.Dropped, .int .i64 x.Mended]) agg25 rfl (fun _ _ hu => ((hm523).lo hw').cell hu) rfl) <| AH.br [2] (by kernel_rfl) rfl ⟨Br.mk' rfl trivial ?_, trivial⟩
        refine SR.call ent14 (c_laws_toLibrary w533 x (((hm524).lo hk534)) (((hm525).lo hk534)) (by omega) (by omega)) rfl ?_
        rintro e w537 ⟨A539, n540, c541, A543, n544, c545, rfl, hO542, hO546, hd547, hk538⟩
        refine ⟨_, rfl, ?_⟩
        have hz548 := hk538.size
        have hB549 := hB536.lo hk538
        have hS550 := (hk534).lo hk538
        have hl551 := hO542.len
        have hl552 := hO542.rd.bound
        have hl553 := hO546.len
        have hl554 := hO546.rd.bound
        refine SR.nil ⟨hS550, _, rfl, ?_⟩
        refine AH.br [3] (by kernel_rfl) rfl ⟨Br.mk' rfl trivial ?_, trivial⟩
        refine SR.call ent16 (c_laws_eqLibrary w537 x (((((hm531).lo hk534).lo hk538).rd)) (((((hm532).lo hk534).lo hk538).rd)) x (((hO542).rd)) (((hO546).rd))) rfl ?_
        rintro e w555 ⟨rfl, hk556⟩
        refine ⟨_, rfl, ?_⟩
        have hz557 := hk556.size
        have hB558 := hB549.lo hk556
        have hS559 := (hS550).lo hk556
        refine SR.nil ⟨hS559, _, rfl, ?_⟩
        refine AH.take 4 rfl (by kernel_rfl) trivial (hS559) (fun w' hw' => r_not rfl) <| AH.done (by kernel_rfl) ?_
        exact ⟨A539, n540, c541, A543, n544, c545, ⟨rfl, rfl, rfl, rfl, rfl, rfl, rfl, rfl, rfl, trivial⟩, hS559, hl551, hl552, hl553, hl554⟩
      rintro f560 w561 ⟨A539, n540, c541, A543, n544, c545, hat563, hR562, hl551, hl552, hl553, hl554⟩
      rw [← sets_of_at hat563]
      have hz564 := hR562.size
      have hB565 := hB508.lo hR562
      refine W.cond_n rfl (fun h566 => ?_) (fun h566 => ?_)
      · refine W.seq ?_
        have hm567 := ((hm358).lo hk506).lo hR562
        have hm568 := ((hm356).lo hk506).lo hR562
        have hm569 := ((hm357).lo hk506).lo hR562
        refine W.regS (SR.q' (r_as (v := .bool false) rfl) <| SR.nil ?_)
        refine W.ret ?_
        refine ret1 rfl (v := .bool _) rfl ?_
        exact ⟨eR (eB (z_c_laws_FnExactStepLibrary_570 x nx_Maps hbdx_Maps hlex_Maps nx_Away hbdx_Away hlex_Away s hp0 h24 hq25 n33 n37 n56 n60 hl44 hl45 hl46 hl47 hl67 hl68 hq69 hl70 hl71 hq72 n264 hl274 hl275 n268 hl276 hl277 n317 n321 hl328 hl329 hq330 hl331 hl332 hq333 h509 hq521 hq522 n540 n544 hl551 hl552 hl553 hl554 h566)), hB565⟩
      · refine W.skip ?_
        refine W.seq ?_
        have hm571 := ((hm358).lo hk506).lo hR562
        have hm572 := ((hm356).lo hk506).lo hR562
        have hm573 := ((hm357).lo hk506).lo hR562
        refine W.regS (SR.q' (r_as (v := .int .i64 1) rfl) <| SR.nil ?_)
        refine W.seq ?_
        refine W.regS (SR.q' (r_lda (l := [.slice A263 n264 c265, .slice A267 n268 c269, .int .i64 x.Bought, .int .i64 x.Dropped, .int .i64 x.Mended]) agg31 rfl (fun _ _ hu => ((hm530).lo hR562).cell hu) rfl) <| SR.q' (r_mv (v := .int .i64 _) rfl) <| SR.call ent24 (c_laws_markLibrary w561 x ((hm531).lo hR562) ((hm532).lo hR562) 1 hd271 (by omega) (by omega) (by omega) (by omega)) rfl ?_)
        rintro e w574 ⟨rfl, hO576, hO577, hk575⟩
        refine ⟨_, rfl, ?_⟩
        have hz578 := hk575.size
        have hB579 := hB565.step hk575 (fun i_ hi_ e' => e'.elim (fun e' => by have := (((hm531).lo hR562)).base_le e'; first | omega | (exfalso; omega) | exact e' | exact .inl e' | exact .inr e') (fun e' => by have := (((hm532).lo hR562)).base_le e'; first | omega | (exfalso; omega) | exact e' | exact .inl e' | exact .inr e'))
        refine SR.q' (r_as (v := .int .i64 _) rfl) <| SR.nil ?_
        refine W.seq ?_
        refine W.seq ?_
        have hm580 := ((hm523).lo hR562).kp hk575 (fun e' => e'.elim (fun e' => by have := (((hm531).lo hR562)).base_le e'; omega) (fun e' => by have := (((hm532).lo hR562)).base_le e'; omega))
        have hm581 := ((hm524).lo hR562).kp hk575 (fun b_ hb e' => e'.elim (fun e' => by have := (((hm531).lo hR562)).base_le e'; omega) (fun e' => by have := (((hm532).lo hR562)).base_le e'; omega))
        have hm582 := ((hm525).lo hR562).kp hk575 (fun b_ hb e' => e'.elim (fun e' => by have := (((hm531).lo hR562)).base_le e'; omega) (fun e' => by have := (((hm532).lo hR562)).base_le e'; omega))
        have hm583 := ((hm526).lo hR562).kp hk575 (fun e' => e'.elim (fun e' => by have := (((hm531).lo hR562)).base_le e'; omega) (fun e' => by have := (((hm532).lo hR562)).base_le e'; omega))
        have hm584 := ((hm527).lo hR562).kp hk575 (fun e' => e'.elim (fun e' => by have := (((hm531).lo hR562)).base_le e'; omega) (fun e' => by have := (((hm532).lo hR562)).base_le e'; omega))
        have hm585 := ((hm528).lo hR562).kp hk575 (fun b_ hb e' => e'.elim (fun e' => by have h1 := (((hm531).lo hR562)).base_le e'; have h2 := ((hm528).lo hR562).base_le hb; have h3 := (hm93).base_le hb; omega) (fun e' => by have h1 := (((hm532).lo hR562)).base_le e'; have h2 := ((hm528).lo hR562).base_le hb; have h3 := (hm93).base_le hb; omega))
        have hm586 := ((hm529).lo hR562).kp hk575 (fun b_ hb e' => e'.elim (fun e' => by have h1 := (((hm531).lo hR562)).base_le e'; have h2 := ((hm529).lo hR562).base_le hb; have h3 := (hm94).base_le hb; omega) (fun e' => by have h1 := (((hm532).lo hR562)).base_le e'; have h2 := ((hm529).lo hR562).base_le hb; have h3 := (hm94).base_le hb; omega))
        refine W.regJS (fun f' w' => At f' [(2, .pointer (some ((⟨g1, 0, none⟩ : Addr)))), (3, .pointer (some ((⟨g9, 0, none⟩ : Addr)))), (4, .bool false), (6, .pointer (some ((⟨g73, 0, none⟩ : Addr)))), (7, .bool ((spec_StepLibrary x s).2)), (9, .pointer (some ((⟨g334, 0, none⟩ : Addr)))), (67, .bool (decide (((1 + 3 * (x.Maps.length : Int) + 2 * (x.Away.length : Int)) < 0) ∨ ((¬ (((impl_StepLibrary x s).1) = ((spec_StepLibrary x s).1))) ∨ ((!(((impl_StepLibrary x s).2) == ((spec_StepLibrary x s).2))) = true)))))] ∧ Lo w574 w') ?_ ?_
        · refine SR.q' (r_mv (v := .int .i64 _) rfl) <| SR.q' (r_lt rfl rfl) <| SR.q' (r_mv (v := .bool _) rfl) <| SR.splitD (fun h587 => ?_) (fun h587 => ?_)
          · refine SR.s' rfl <| SR.s' rfl <| SR.s' rfl <| SR.s' rfl <| SR.q' (r_pick true rfl (v := .bool true) rfl) <| SR.q' (r_mv (v := .bool _) rfl) <| SR.s' rfl <| SR.s' rfl <| SR.s' rfl <| SR.q' (r_pick true rfl (v := .bool true) rfl) <| SR.nil ?_
            exact ⟨_, rfl, ⟨⟨rfl, rfl, rfl, rfl, rfl, rfl, (eDT ((jot h587).1 trivial)), trivial⟩, (Lo.refl _)⟩⟩
          · refine SR.g' rfl (r_lda (l := [.slice A316 n317 c318, .slice A320 n321 c322, .int .i64 (((impl_StepLibrary x s).1).Bought), .int .i64 (((impl_StepLibrary x s).1).Dropped), .int .i64 (((impl_StepLibrary x s).1).Mended)]) agg31 rfl (fun _ _ hu => ((hm571).kp hk575 (fun e' => e'.elim (fun e' => hd362 e') (fun e' => hd363 e'))).cell hu) rfl) <| SR.g' rfl (r_lda (l := [.slice A55 n56 c57, .slice A59 n60 c61, .int .i64 (((spec_StepLibrary x s).1).Bought), .int .i64 (((spec_StepLibrary x s).1).Dropped), .int .i64 (((spec_StepLibrary x s).1).Mended)]) agg31 rfl (fun _ _ hu => (hm584).cell hu) rfl) <| SR.gcall rfl ent16 (c_laws_eqLibrary w574 ((impl_StepLibrary x s).1) ((((hm572).kp hk575 (fun b_ hb e' => e'.elim (fun e' => hd368 b_ hb e') (fun e' => hd369 b_ hb e'))).rd)) ((((hm573).kp hk575 (fun b_ hb e' => e'.elim (fun e' => hd373 b_ hb e') (fun e' => hd374 b_ hb e'))).rd)) ((spec_StepLibrary x s).1) (((hm585).rd)) (((hm586).rd))) rfl ?_
            rintro e w588 ⟨rfl, hk589⟩
            refine ⟨_, rfl, ?_⟩
            have hz590 := hk589.size
            have hB591 := hB579.lo hk589
            refine SR.g' rfl (r_not rfl) <| SR.q' (r_pick false rfl (v := .bool _) rfl) <| SR.q' (r_mv (v := .bool _) rfl) <| SR.splitN (fun h592 => ?_) (fun h592 => ?_)
            · refine SR.s' rfl <| SR.s' rfl <| SR.s' rfl <| SR.q' (r_pick true rfl (v := .bool true) rfl) <| SR.nil ?_
              exact ⟨_, rfl, ⟨⟨rfl, rfl, rfl, rfl, rfl, rfl, (eDT (((jmf h592).trans (jof h587)).1 trivial)), trivial⟩, (hk589)⟩⟩
            · refine SR.g' rfl (r_mv (v := .bool _) rfl) <| SR.g' rfl (r_mv (v := .bool _) rfl) <| SR.g' rfl (r_neb und4 rfl rfl) <| SR.q' (r_pick false rfl (v := .bool _) rfl) <| SR.nil ?_
              exact ⟨_, rfl, ⟨⟨rfl, rfl, rfl, rfl, rfl, rfl, (eBD ((jmt h592).trans (jof h587))), trivial⟩, (hk589)⟩⟩
        rintro f593 w594 ⟨hat595, hk596⟩
        rw [← sets_of_at hat595]
        have hz597 := hk596.size
        have hB598 := hB579.lo hk596
        refine W.cond_d rfl (fun h599 => ?_) (fun h599 => ?_)
        · refine W.seq ?_
          have hm600 := ((hm571).kp hk575 (fun e' => e'.elim (fun e' => hd362 e') (fun e' => hd363 e'))).lo hk596
          have hm601 := ((hm572).kp hk575 (fun b_ hb e' => e'.elim (fun e' => hd368 b_ hb e') (fun e' => hd369 b_ hb e'))).lo hk596
          have hm602 := ((hm573).kp hk575 (fun b_ hb e' => e'.elim (fun e' => hd373 b_ hb e') (fun e' => hd374 b_ hb e'))).lo hk596
          refine W.regS (SR.q' (r_as (v := .bool false) rfl) <| SR.nil ?_)
          refine W.ret ?_
          refine ret1 rfl (v := .bool _) rfl ?_
          exact ⟨eR (eB (z_c_laws_FnExactStepLibrary_603 x nx_Maps hbdx_Maps hlex_Maps nx_Away hbdx_Away hlex_Away s hp0 h24 hq25 n33 n37 n56 n60 hl44 hl45 hl46 hl47 hl67 hl68 hq69 hl70 hl71 hq72 n264 hl274 hl275 n268 hl276 hl277 n317 n321 hl328 hl329 hq330 hl331 hl332 hq333 h509 hq521 hq522 n540 n544 hl551 hl552 hl553 hl554 h566 h599)), hB598⟩
        · have hq604 : ¬ ((1 + 3 * (x.Maps.length : Int) + 2 * (x.Away.length : Int)) < 0) := (not_or.1 h599).1
          have hq605 : ((impl_StepLibrary x s).1) = ((spec_StepLibrary x s).1) := (Classical.not_not.1 (not_or.1 (not_or.1 h599).2).1)
          have hq606 : ¬ ((!(((impl_StepLibrary x s).2) == ((spec_StepLibrary x s).2))) = true) := (not_or.1 (not_or.1 h599).2).2
          refine W.skip ?_
          refine W.seq ?_
          have hm607 := ((hm571).kp hk575 (fun e' => e'.elim (fun e' => hd362 e') (fun e' => hd363 e'))).lo hk596
          have hm608 := ((hm572).kp hk575 (fun b_ hb e' => e'.elim (fun e' => hd368 b_ hb e') (fun e' => hd369 b_ hb e'))).lo hk596
          have hm609 := ((hm573).kp hk575 (fun b_ hb e' => e'.elim (fun e' => hd373 b_ hb e') (fun e' => hd374 b_ hb e'))).lo hk596
          refine W.regS (SR.q' (r_as (v := .int .i64 1) rfl) <| SR.nil ?_)
          refine W.seq ?_
          refine W.regS (SR.q' (r_lda (l := [.slice A316 n317 c318, .slice A320 n321 c322, .int .i64 (((impl_StepLibrary x s).1).Bought), .int .i64 (((impl_StepLibrary x s).1).Dropped), .int .i64 (((impl_StepLibrary x s).1).Mended)]) agg31 rfl (fun _ _ hu => (hm607).cell hu) rfl) <| SR.q' (r_mv (v := .int .i64 _) rfl) <| SR.call ent24 (c_laws_markLibrary w594 ((impl_StepLibrary x s).1) (hm608) (hm609) 1 hd370 (by omega) (by omega) (by omega) (by omega)) rfl ?_)
          rintro e w610 ⟨rfl, hO612, hO613, hk611⟩
          refine ⟨_, rfl, ?_⟩
          have hz614 := hk611.size
          have hB615 := hB598.step hk611 (fun i_ hi_ e' => e'.elim (fun e' => by have := ((hm608)).base_le e'; first | omega | (exfalso; omega) | exact e' | exact .inl e' | exact .inr e') (fun e' => by have := ((hm609)).base_le e'; first | omega | (exfalso; omega) | exact e' | exact .inl e' | exact .inr e'))
          refine SR.q' (r_as (v := .int .i64 _) rfl) <| SR.nil ?_
          refine W.seq ?_
          have hm616 := ((hm580).lo hk596).kp hk611 (fun e' => e'.elim (fun e' => by have := ((hm608)).base_le e'; omega) (fun e' => by have := ((hm609)).base_le e'; omega))
          have hm617 := ((hm581).lo hk596).kp hk611 (fun b_ hb e' => e'.elim (fun e' => by have := ((hm608)).base_le e'; omega) (fun e' => by have := ((hm609)).base_le e'; omega))
          have hm618 := ((hm582).lo hk596).kp hk611 (fun b_ hb e' => e'.elim (fun e' => by have := ((hm608)).base_le e'; omega) (fun e' => by have := ((hm609)).base_le e'; omega))
          have hm619 := ((hm583).lo hk596).kp hk611 (fun e' => e'.elim (fun e' => by have := ((hm608)).base_le e'; omega) (fun e' => by have := ((hm609)).base_le e'; omega))
          have hm620 := ((hm584).lo hk596).kp hk611 (fun e' => e'.elim (fun e' => by have := ((hm608)).base_le e'; omega) (fun e' => by have := ((hm609)).base_le e'; omega))
          have hm621 := ((hm585).lo hk596).kp hk611 (fun b_ hb e' => e'.elim (fun e' => hd366 b_ e' hb) (fun e' => hd371 b_ e' hb))
          have hm622 := ((hm586).lo hk596).kp hk611 (fun b_ hb e' => e'.elim (fun e' => hd367 b_ e' hb) (fun e' => hd372 b_ e' hb))
          refine W.regS (SR.q' (r_as (v := .int .i64 1) rfl) <| SR.nil ?_)
          refine W.seq ?_
          refine W.regS (SR.q' (r_lda (l := [.slice A316 n317 c318, .slice A320 n321 c322, .int .i64 (((impl_StepLibrary x s).1).Bought), .int .i64 (((impl_StepLibrary x s).1).Dropped), .int .i64 (((impl_StepLibrary x s).1).Mended)]) agg31 rfl (fun _ _ hu => ((hm607).kp hk611 (fun e' => e'.elim (fun e' => hd364 e') (fun e' => hd365 e'))).cell hu) rfl) <| SR.q' (r_mv (v := .int .i64 _) rfl) <| SR.call ent34 (c_laws_heldLibrary w610 (⟨mkL mkLMap 3 ((impl_StepLibrary x s).1).Maps.length 1, mkL mkAway 2 ((impl_StepLibrary x s).1).Away.length (1 + 3 * (((impl_StepLibrary x s).1).Maps.length : Int)), ((impl_StepLibrary x s).1).Bought, ((impl_StepLibrary x s).1).Dropped, ((impl_StepLibrary x s).1).Mended⟩ : Library) (((hO612).rd)) (((hO613).rd)) 1 (((impl_StepLibrary x s).1).Maps.length) (((impl_StepLibrary x s).1).Away.length) (by omega) (by omega) (by omega) (by omega) (by rfl) (by rfl) (by omega) (by omega)) rfl ?_)
          rintro e w623 ⟨rfl, hk624⟩
          refine ⟨_, rfl, ?_⟩
          have hz625 := hk624.size
          have hB626 := hB615.lo hk624
          refine SR.q' (r_as (v := .int .i64 _) rfl) <| SR.nil ?_
          refine W.seq ?_
          refine W.seq ?_
          have hm627 := ((hm607).kp hk611 (fun e' => e'.elim (fun e' => hd364 e') (fun e' => hd365 e'))).lo hk624
          refine W.regS (SR.q' (r_mv (v := .int .i64 _) rfl) <| SR.q' (r_lt rfl rfl) <| SR.nil ?_)
          refine W.cond_d rfl (fun h628 => ?_) (fun h628 => ?_)
          · refine W.seq ?_
            refine W.regS (SR.q' (r_as (v := .bool false) rfl) <| SR.nil ?_)
            refine W.ret ?_
            refine ret1 rfl (v := .bool _) rfl ?_
            exact ⟨eR (eB (z_c_laws_FnExactStepLibrary_629 x nx_Maps hbdx_Maps hlex_Maps nx_Away hbdx_Away hlex_Away s hp0 h24 hq25 n33 n37 n56 n60 hl44 hl45 hl46 hl47 hl67 hl68 hq69 hl70 hl71 hq72 n264 hl274 hl275 n268 hl276 hl277 n317 n321 hl328 hl329 hq330 hl331 hl332 hq333 h509 hq521 hq522 n540 n544 hl551 hl552 hl553 hl554 h566 h599 hq604 hq605 hq606 h628)), hB626⟩
          · refine W.skip ?_
            refine W.seq ?_
            refine W.seq ?_
            refine W.regS (SR.q' (r_mv (v := .int .i64 _) rfl) <| SR.q' (r_mv (v := .int .i64 _) rfl) <| SR.q' (r_ne rfl rfl) <| SR.nil ?_)
            refine W.cond_n rfl (fun h630 => ?_) (fun h630 => ?_)
            · refine W.seq ?_
              refine W.regS (SR.q' (r_as (v := .bool false) rfl) <| SR.nil ?_)
              refine W.ret ?_
              refine ret1 rfl (v := .bool _) rfl ?_
              exact ⟨eR (eB (z_c_laws_FnExactStepLibrary_631 x nx_Maps hbdx_Maps hlex_Maps nx_Away hbdx_Away hlex_Away s hp0 h24 hq25 n33 n37 n56 n60 hl44 hl45 hl46 hl47 hl67 hl68 hq69 hl70 hl71 hq72 n264 hl274 hl275 n268 hl276 hl277 n317 n321 hl328 hl329 hq330 hl331 hl332 hq333 h509 hq521 hq522 n540 n544 hl551 hl552 hl553 hl554 h566 h599 hq604 hq605 hq606 h628 h630)), hB626⟩
            · refine W.skip ?_
              refine W.seq ?_
              refine W.regA (Lo w623) (fun f' w' => ∃ (A638 : Option Addr), ∃ (n639 : Nat), ∃ (c640 : Nat), ∃ (A642 : Option Addr), ∃ (n643 : Nat), ∃ (c644 : Nat), ∃ (A661 : Option Addr), ∃ (n662 : Nat), ∃ (c663 : Nat), ∃ (A665 : Option Addr), ∃ (n666 : Nat), ∃ (c667 : Nat), ∃ (g679 : Nat), At f' [(4, .bool false), (6, .pointer (some ((⟨g73, 0, none⟩ : Addr)))), (7, .bool ((spec_StepLibrary x s).2)), (9, .pointer (some ((⟨g334, 0, none⟩ : Addr)))), (12, .int .i64 (1 + 3 * (((impl_StepLibrary x s).1).Maps.length : Int) + 2 * (((impl_StepLibrary x s).1).Away.length : Int))), (13, .int .i64 (1 + 3 * ((((impl_StepLibrary x s).1).Maps.length : Nat) : Int) + 2 * ((((impl_StepLibrary x s).1).Away.length : Nat) : Int))), (14, .pointer (some ((⟨g679, 0, none⟩ : Addr)))), (15, .bool ((impl_StepLibrary x s).2))] ∧ (Lo w623 w') ∧ (SlO w' w623.heap.size encLMap 3 73 A661 n662 c663 (((impl_StepLibrary x s).1).Maps)) ∧ (SlO w' w623.heap.size encAway 2 77 A665 n666 c667 (((impl_StepLibrary x s).1).Away)) ∧ (Blk w' g679 31 [.slice A661 n662 c663, .slice A665 n666 c667, .int .i64 (((impl_StepLibrary x s).1).Bought), .int .i64 (((impl_StepLibrary x s).1).Dropped), .int .i64 (((impl_StepLibrary x s).1).Mended)]) ∧ (w623.heap.size ≤ g679 ∧ g679 < w'.heap.size) ∧ (¬ A55 = some ⟨g679, 0, none⟩) ∧ (¬ A59 = some ⟨g679, 0, none⟩) ∧ (¬ A263 = some ⟨g679, 0, none⟩) ∧ (¬ A267 = some ⟨g679, 0, none⟩) ∧ (¬ A316 = some ⟨g679, 0, none⟩) ∧ (¬ A320 = some ⟨g679, 0, none⟩) ∧ (¬ A661 = some ⟨g679, 0, none⟩) ∧ (¬ A665 = some ⟨g679, 0, none⟩) ∧ (∀ b_, A661 = some ⟨b_, 0, none⟩ → ¬ A55 = some ⟨b_, 0, none⟩) ∧ (∀ b_, A661 = some ⟨b_, 0, none⟩ → ¬ A59 = some ⟨b_, 0, none⟩) ∧ (∀ b_, A661 = some ⟨b_, 0, none⟩ → ¬ A263 = some ⟨b_, 0, none⟩) ∧ (∀ b_, A661 = some ⟨b_, 0, none⟩ → ¬ A267 = some ⟨b_, 0, none⟩) ∧ (∀ b_, A661 = some ⟨b_, 0, none⟩ → ¬ A316 = some ⟨b_, 0, none⟩) ∧ (∀ b_, A661 = some ⟨b_, 0, none⟩ → ¬ A320 = some ⟨b_, 0, none⟩) ∧ (∀ b_, A661 = some ⟨b_, 0, none⟩ → ¬ A665 = some ⟨b_, 0, none⟩) ∧ (∀ b_, A665 = some ⟨b_, 0, none⟩ → ¬ A55 = some ⟨b_, 0, none⟩) ∧ (∀ b_, A665 = some ⟨b_, 0, none⟩ → ¬ A59 = some ⟨b_, 0, none⟩) ∧ (∀ b_, A665 = some ⟨b_, 0, none⟩ → ¬ A263 = some ⟨b_, 0, none⟩) ∧ (∀ b_, A665 = some ⟨b_, 0, none⟩ → ¬ A267 = some ⟨b_, 0, none⟩) ∧ (∀ b_, A665 = some ⟨b_, 0, none⟩ → ¬ A316 = some ⟨b_, 0, none⟩) ∧ (∀ b_, A665 = some ⟨b_, 0, none⟩ → ¬ A320 = some ⟨b_, 0, none⟩) ∧ (n639 = (x.Maps).length) ∧ ((n639 : Int) ≤ 9223372036854775807) ∧ (n643 = (x.Away).length) ∧ ((n643 : Int) ≤ 9223372036854775807) ∧ (n662 = (((impl_StepLibrary x s).1).Maps).length) ∧ ((n662 : Int) ≤ 9223372036854775807) ∧ ((((impl_StepLibrary x s).1).Maps).length ≤ 8) ∧ (n666 = (((impl_StepLibrary x s).1).Away).length) ∧ ((n666 : Int) ≤ 9223372036854775807) ∧ ((((impl_StepLibrary x s).1).Away).length ≤ 8)) mo ?_ ?_
              · intro w632 hk633
                have hz634 := hk633.size
                have hB635 := hB626.lo hk633
                refine AH.take 0 rfl (by kernel_rfl) trivial (hk633) (fun w' hw' => r_lda (l := [.slice Ax_Maps nx_Maps cx_Maps, .slice Ax_Away nx_Away cx_Away, .int .i64 x.Bought, .int .i64 x.Dropped, .int .i64 x.Mended]) agg25 rfl (fun _ _ hu => (((hm616).lo hk624).lo hw').cell hu) rfl) <| AH.take 2 rfl (by kernel_rfl) trivial (hk633) (fun w' hw' => r_lda (l := [.int .i64 s.Kind, .int .i64 s.Id, .int .i64 s.Reader, .int .i64 s.Value]) agg46 rfl (fun _ _ hu => (((hm619).lo hk624).lo hw').cell hu) rfl) <| AH.br [1, 8] (by kernel_rfl) rfl ⟨Br.mk' rfl trivial ?_, Br.mk' rfl trivial ?_, trivial⟩
                · refine SR.call ent14 (c_laws_toLibrary w632 x ((((hm617).lo hk624).lo hk633)) ((((hm618).lo hk624).lo hk633)) (by omega) (by omega)) rfl ?_
                  rintro e w636 ⟨A638, n639, c640, A642, n643, c644, rfl, hO641, hO645, hd646, hk637⟩
                  refine ⟨_, rfl, ?_⟩
                  have hz647 := hk637.size
                  have hB648 := hB635.lo hk637
                  have hS649 := (hk633).lo hk637
                  have hl650 := hO641.len
                  have hl651 := hO641.rd.bound
                  have hl652 := hO645.len
                  have hl653 := hO645.rd.bound
                  refine SR.nil ⟨hS649, _, rfl, ?_⟩
                  refine AH.br [3, 8] (by kernel_rfl) rfl ⟨Br.mk' rfl trivial ?_, Br.mk' rfl trivial ?_, trivial⟩
                  · refine SR.call ent32 (c_laws_toLibraryStep w636 s) rfl ?_
                    rintro e w654 ⟨rfl, hk655⟩
                    refine ⟨_, rfl, ?_⟩
                    have hz656 := hk655.size
                    have hB657 := hB648.lo hk655
                    have hS658 := (hS649).lo hk655
                    refine SR.nil ⟨hS658, _, rfl, ?_⟩
                    refine AH.br [4, 8] (by kernel_rfl) rfl ⟨Br.mk' rfl trivial ?_, Br.mk' rfl trivial ?_, trivial⟩
                    · refine SR.call ent33 (c_impl_StepLibrary w654 x ((((hO641).lo hk655).rd)) ((((hO645).lo hk655).rd)) s (by omega)) rfl ?_
                      rintro e w659 ⟨A661, n662, c663, A665, n666, c667, rfl, hO664, hO668, hd669, hk660⟩
                      refine ⟨_, rfl, ?_⟩
                      have hz670 := hk660.size
                      have hB671 := hB657.lo hk660
                      have hS672 := (hS658).lo hk660
                      have hl673 := hO664.len
                      have hl674 := hO664.rd.bound
                      have hq675 := step_lenM x s
                      have hl676 := hO668.len
                      have hl677 := hO668.rd.bound
                      have hq678 := step_lenA x s
                      refine SR.nil ⟨hS672, _, rfl, ?_⟩
                      refine AH.take 5 rfl (by kernel_rfl) trivial (hS672) (fun w' hw' => r_mv (v := .tuple (List.toArray _)) rfl) <| AH.take 6 rfl (by kernel_rfl) trivial (hS672) (fun w' hw' => r_ext (v := .agg (List.toArray _)) rfl rfl) <| AH.take 7 rfl (by kernel_rfl) trivial (hS672) (fun w' hw' => r_ext (v := .bool _) rfl rfl) <| AH.br [8] (by kernel_rfl) rfl ⟨Br.mk' rfl trivial ?_, trivial⟩
                      refine SR.alloc (l := [.slice none 0 0, .slice none 0 0, .int .i64 0, .int .i64 0, .int .i64 0]) tz31 rfl ?_
                      intro g679 w680 hg681 hk682 hs683 hb684
                      have hz685 := hk682.size
                      have hB686 := hB671.lo hk682
                      have hS687 := (hS672).lo hk682
                      have hd688 : ¬ A55 = some ⟨g679, 0, none⟩ := fun e' => by have := ((((((hm621).lo hk624).lo hk633).lo hk637).lo hk655).lo hk660).base_le e'; omega
                      have hd689 : ¬ A59 = some ⟨g679, 0, none⟩ := fun e' => by have := ((((((hm622).lo hk624).lo hk633).lo hk637).lo hk655).lo hk660).base_le e'; omega
                      have hd690 : ¬ A263 = some ⟨g679, 0, none⟩ := fun e' => by have := ((((((((hO576).lo hk596).kp hk611 (fun b_ hb e' => e'.elim (fun e' => hd368 b_ e' hb) (fun e' => hd373 b_ e' hb))).lo hk624).lo hk633).lo hk637).lo hk655).lo hk660).base_le e'; omega
                      have hd691 : ¬ A267 = some ⟨g679, 0, none⟩ := fun e' => by have := ((((((((hO577).lo hk596).kp hk611 (fun b_ hb e' => e'.elim (fun e' => hd369 b_ e' hb) (fun e' => hd374 b_ e' hb))).lo hk624).lo hk633).lo hk637).lo hk655).lo hk660).base_le e'; omega
                      have hd692 : ¬ A316 = some ⟨g679, 0, none⟩ := fun e' => by have := ((((((hO612).lo hk624).lo hk633).lo hk637).lo hk655).lo hk660).base_le e'; omega
                      have hd693 : ¬ A320 = some ⟨g679, 0, none⟩ := fun e' => by have := ((((((hO613).lo hk624).lo hk633).lo hk637).lo hk655).lo hk660).base_le e'; omega
                      have hd694 : ¬ A638 = some ⟨g679, 0, none⟩ := fun e' => by have := (((hO641).lo hk655).lo hk660).base_le e'; omega
                      have hd695 : ¬ A642 = some ⟨g679, 0, none⟩ := fun e' => by have := (((hO645).lo hk655).lo hk660).base_le e'; omega
                      have hd696 : ¬ A661 = some ⟨g679, 0, none⟩ := fun e' => by have := (hO664).base_le e'; omega
                      have hd697 : ¬ A665 = some ⟨g679, 0, none⟩ := fun e' => by have := (hO668).base_le e'; omega
                      refine SR.nil ⟨hS687, _, rfl, ?_⟩
                      refine AH.br [9] (by kernel_rfl) rfl ⟨Br.mk' rfl trivial ?_, trivial⟩
                      refine SR.store (o := 0) (vs := [.slice A661 n662 c663, .slice A665 n666 c667, .int .i64 (((impl_StepLibrary x s).1).Bought), .int .i64 (((impl_StepLibrary x s).1).Dropped), .int .i64 (((impl_StepLibrary x s).1).Mended)]) agg31.2 rfl rfl rfl rfl (hb684) (Nat.le_of_ble_eq_true rfl) rfl ?_
                      intro w698 hk699 hs700 hb701
                      have hz702 := hk699.size
                      have hB703 := hB686.new hk699 (by omega)
                      have hS704 := (hS687).new hk699 (by omega)
                      refine SR.nil ⟨hS704, _, rfl, ?_⟩
                      refine AH.take 10 rfl (by kernel_rfl) trivial (hS704) (fun w' hw' => r_as (v := .bool _) rfl) <| AH.done (by kernel_rfl) ?_
                      exact ⟨A638, n639, c640, A642, n643, c644, A661, n662, c663, A665, n666, c667, g679, ⟨rfl, rfl, rfl, rfl, rfl, rfl, rfl, rfl, trivial⟩, hS704, ((((hO664).lo hk682).kp hk699 (fun b_ hb e' => hd696 (by have e'' : b_ = g679 := e'; rw [← e'']; exact hb))).down (by omega)), ((((hO668).lo hk682).kp hk699 (fun b_ hb e' => hd697 (by have e'' : b_ = g679 := e'; rw [← e'']; exact hb))).down (by omega)), (hb701), ⟨by omega, (hb701).lt⟩, hd688, hd689, hd690, hd691, hd692, hd693, hd696, hd697, (fun b_ h h' => by have h1 := (((hO664).lo hk682).kp hk699 (fun b_ hb e' => hd696 (by have e'' : b_ = g679 := e'; rw [← e'']; exact hb))).base_le h; have h2 := (((((hm621).lo hk624).lo hk633).lo hk637).lo hk655).base_le h'; omega), (fun b_ h h' => by have h1 := (((hO664).lo hk682).kp hk699 (fun b_ hb e' => hd696 (by have e'' : b_ = g679 := e'; rw [← e'']; exact hb))).base_le h; have h2 := (((((hm622).lo hk624).lo hk633).lo hk637).lo hk655).base_le h'; omega), (fun b_ h h' => by have h1 := (((hO664).lo hk682).kp hk699 (fun b_ hb e' => hd696 (by have e'' : b_ = g679 := e'; rw [← e'']; exact hb))).base_le h; have h2 := (((((((hO576).lo hk596).kp hk611 (fun b_ hb e' => e'.elim (fun e' => hd368 b_ e' hb) (fun e' => hd373 b_ e' hb))).lo hk624).lo hk633).lo hk637).lo hk655).base_le h'; omega), (fun b_ h h' => by have h1 := (((hO664).lo hk682).kp hk699 (fun b_ hb e' => hd696 (by have e'' : b_ = g679 := e'; rw [← e'']; exact hb))).base_le h; have h2 := (((((((hO577).lo hk596).kp hk611 (fun b_ hb e' => e'.elim (fun e' => hd369 b_ e' hb) (fun e' => hd374 b_ e' hb))).lo hk624).lo hk633).lo hk637).lo hk655).base_le h'; omega), (fun b_ h h' => by have h1 := (((hO664).lo hk682).kp hk699 (fun b_ hb e' => hd696 (by have e'' : b_ = g679 := e'; rw [← e'']; exact hb))).base_le h; have h2 := (((((hO612).lo hk624).lo hk633).lo hk637).lo hk655).base_le h'; omega), (fun b_ h h' => by have h1 := (((hO664).lo hk682).kp hk699 (fun b_ hb e' => hd696 (by have e'' : b_ = g679 := e'; rw [← e'']; exact hb))).base_le h; have h2 := (((((hO613).lo hk624).lo hk633).lo hk637).lo hk655).base_le h'; omega), hd669, (fun b_ h h' => by have h1 := (((hO668).lo hk682).kp hk699 (fun b_ hb e' => hd697 (by have e'' : b_ = g679 := e'; rw [← e'']; exact hb))).base_le h; have h2 := (((((hm621).lo hk624).lo hk633).lo hk637).lo hk655).base_le h'; omega), (fun b_ h h' => by have h1 := (((hO668).lo hk682).kp hk699 (fun b_ hb e' => hd697 (by have e'' : b_ = g679 := e'; rw [← e'']; exact hb))).base_le h; have h2 := (((((hm622).lo hk624).lo hk633).lo hk637).lo hk655).base_le h'; omega), (fun b_ h h' => by have h1 := (((hO668).lo hk682).kp hk699 (fun b_ hb e' => hd697 (by have e'' : b_ = g679 := e'; rw [← e'']; exact hb))).base_le h; have h2 := (((((((hO576).lo hk596).kp hk611 (fun b_ hb e' => e'.elim (fun e' => hd368 b_ e' hb) (fun e' => hd373 b_ e' hb))).lo hk624).lo hk633).lo hk637).lo hk655).base_le h'; omega), (fun b_ h h' => by have h1 := (((hO668).lo hk682).kp hk699 (fun b_ hb e' => hd697 (by have e'' : b_ = g679 := e'; rw [← e'']; exact hb))).base_le h; have h2 := (((((((hO577).lo hk596).kp hk611 (fun b_ hb e' => e'.elim (fun e' => hd369 b_ e' hb) (fun e' => hd374 b_ e' hb))).lo hk624).lo hk633).lo hk637).lo hk655).base_le h'; omega), (fun b_ h h' => by have h1 := (((hO668).lo hk682).kp hk699 (fun b_ hb e' => hd697 (by have e'' : b_ = g679 := e'; rw [← e'']; exact hb))).base_le h; have h2 := (((((hO612).lo hk624).lo hk633).lo hk637).lo hk655).base_le h'; omega), (fun b_ h h' => by have h1 := (((hO668).lo hk682).kp hk699 (fun b_ hb e' => hd697 (by have e'' : b_ = g679 := e'; rw [← e'']; exact hb))).base_le h; have h2 := (((((hO613).lo hk624).lo hk633).lo hk637).lo hk655).base_le h'; omega), hl650, hl651, hl652, hl653, hl673, hl674, hq675, hl676, hl677, hq678⟩
                    · refine SR.alloc (l := [.slice none 0 0, .slice none 0 0, .int .i64 0, .int .i64 0, .int .i64 0]) tz31 rfl ?_
                      intro g730 w731 hg732 hk733 hs734 hb735
                      have hz736 := hk733.size
                      have hB737 := hB657.lo hk733
                      have hS738 := (hS658).lo hk733
                      have hd739 : ¬ A55 = some ⟨g730, 0, none⟩ := fun e' => by have := (((((hm621).lo hk624).lo hk633).lo hk637).lo hk655).base_le e'; omega
                      have hd740 : ¬ A59 = some ⟨g730, 0, none⟩ := fun e' => by have := (((((hm622).lo hk624).lo hk633).lo hk637).lo hk655).base_le e'; omega
                      have hd741 : ¬ A263 = some ⟨g730, 0, none⟩ := fun e' => by have := (((((((hO576).lo hk596).kp hk611 (fun b_ hb e' => e'.elim (fun e' => hd368 b_ e' hb) (fun e' => hd373 b_ e' hb))).lo hk624).lo hk633).lo hk637).lo hk655).base_le e'; omega
                      have hd742 : ¬ A267 = some ⟨g730, 0, none⟩ := fun e' => by have := (((((((hO577).lo hk596).kp hk611 (fun b_ hb e' => e'.elim (fun e' => hd369 b_ e' hb) (fun e' => hd374 b_ e' hb))).lo hk624).lo hk633).lo hk637).lo hk655).base_le e'; omega
                      have hd743 : ¬ A316 = some ⟨g730, 0, none⟩ := fun e' => by have := (((((hO612).lo hk624).lo hk633).lo hk637).lo hk655).base_le e'; omega
                      have hd744 : ¬ A320 = some ⟨g730, 0, none⟩ := fun e' => by have := (((((hO613).lo hk624).lo hk633).lo hk637).lo hk655).base_le e'; omega
                      have hd745 : ¬ A638 = some ⟨g730, 0, none⟩ := fun e' => by have := ((hO641).lo hk655).base_le e'; omega
                      have hd746 : ¬ A642 = some ⟨g730, 0, none⟩ := fun e' => by have := ((hO645).lo hk655).base_le e'; omega
                      refine SR.nil ⟨hS738, _, rfl, ?_⟩
                      refine AH.br [4] (by kernel_rfl) rfl ⟨Br.mk' rfl trivial ?_, trivial⟩
                      refine SR.call ent33 (c_impl_StepLibrary w731 x (((((hO641).lo hk655).lo hk733).rd)) (((((hO645).lo hk655).lo hk733).rd)) s (by omega)) rfl ?_
                      rintro e w747 ⟨A749, n750, c751, A753, n754, c755, rfl, hO752, hO756, hd757, hk748⟩
                      refine ⟨_, rfl, ?_⟩
                      have hz758 := hk748.size
                      have hB759 := hB737.lo hk748
                      have hS760 := (hS738).lo hk748
                      have hl761 := hO752.len
                      have hl762 := hO752.rd.bound
                      have hq763 := step_lenM x s
                      have hl764 := hO756.len
                      have hl765 := hO756.rd.bound
                      have hq766 := step_lenA x s
                      refine SR.nil ⟨hS760, _, rfl, ?_⟩
                      refine AH.take 5 rfl (by kernel_rfl) trivial (hS760) (fun w' hw' => r_mv (v := .tuple (List.toArray _)) rfl) <| AH.take 6 rfl (by kernel_rfl) trivial (hS760) (fun w' hw' => r_ext (v := .agg (List.toArray _)) rfl rfl) <| AH.take 7 rfl (by kernel_rfl) trivial (hS760) (fun w' hw' => r_ext (v := .bool _) rfl rfl) <| AH.br [9] (by kernel_rfl) rfl ⟨Br.mk' rfl trivial ?_, trivial⟩
                      refine SR.store (o := 0) (vs := [.slice A749 n750 c751, .slice A753 n754 c755, .int .i64 (((impl_StepLibrary x s).1).Bought), .int .i64 (((impl_StepLibrary x s).1).Dropped), .int .i64 (((impl_StepLibrary x s).1).Mended)]) agg31.2 rfl rfl rfl rfl ((hb735).lo hk748) (Nat.le_of_ble_eq_true rfl) rfl ?_
                      intro w767 hk768 hs769 hb770
                      have hz771 := hk768.size
                      have hB772 := hB759.new hk768 (by omega)
                      have hS773 := (hS760).new hk768 (by omega)
                      refine SR.nil ⟨hS773, _, rfl, ?_⟩
                      refine AH.take 10 rfl (by kernel_rfl) trivial (hS773) (fun w' hw' => r_as (v := .bool _) rfl) <| AH.done (by kernel_rfl) ?_
                      exact ⟨A638, n639, c640, A642, n643, c644, A749, n750, c751, A753, n754, c755, g730, ⟨rfl, rfl, rfl, rfl, rfl, rfl, rfl, rfl, trivial⟩, hS773, (((hO752).kp hk768 (fun b_ hb e' => by have e'' : b_ = g730 := e'; have := (hO752).base_le hb; omega)).down (by omega)), (((hO756).kp hk768 (fun b_ hb e' => by have e'' : b_ = g730 := e'; have := (hO756).base_le hb; omega)).down (by omega)), (hb770), ⟨by omega, (hb770).lt⟩, hd739, hd740, hd741, hd742, hd743, hd744, (fun e' => by have := ((hO752).kp hk768 (fun b_ hb e' => by have e'' : b_ = g730 := e'; have := (hO752).base_le hb; omega)).base_le e'; omega), (fun e' => by have := ((hO756).kp hk768 (fun b_ hb e' => by have e'' : b_ = g730 := e'; have := (hO756).base_le hb; omega)).base_le e'; omega), (fun b_ h h' => by have h1 := ((hO752).kp hk768 (fun b_ hb e' => by have e'' : b_ = g730 := e'; have := (hO752).base_le hb; omega)).base_le h; have h2 := ((((((hm621).lo hk624).lo hk633).lo hk637).lo hk655).lo hk733).base_le h'; omega), (fun b_ h h' => by have h1 := ((hO752).kp hk768 (fun b_ hb e' => by have e'' : b_ = g730 := e'; have := (hO752).base_le hb; omega)).base_le h; have h2 := ((((((hm622).lo hk624).lo hk633).lo hk637).lo hk655).lo hk733).base_le h'; omega), (fun b_ h h' => by have h1 := ((hO752).kp hk768 (fun b_ hb e' => by have e'' : b_ = g730 := e'; have := (hO752).base_le hb; omega)).base_le h; have h2 := ((((((((hO576).lo hk596).kp hk611 (fun b_ hb e' => e'.elim (fun e' => hd368 b_ e' hb) (fun e' => hd373 b_ e' hb))).lo hk624).lo hk633).lo hk637).lo hk655).lo hk733).base_le h'; omega), (fun b_ h h' => by have h1 := ((hO752).kp hk768 (fun b_ hb e' => by have e'' : b_ = g730 := e'; have := (hO752).base_le hb; omega)).base_le h; have h2 := ((((((((hO577).lo hk596).kp hk611 (fun b_ hb e' => e'.elim (fun e' => hd369 b_ e' hb) (fun e' => hd374 b_ e' hb))).lo hk624).lo hk633).lo hk637).lo hk655).lo hk733).base_le h'; omega), (fun b_ h h' => by have h1 := ((hO752).kp hk768 (fun b_ hb e' => by have e'' : b_ = g730 := e'; have := (hO752).base_le hb; omega)).base_le h; have h2 := ((((((hO612).lo hk624).lo hk633).lo hk637).lo hk655).lo hk733).base_le h'; omega), (fun b_ h h' => by have h1 := ((hO752).kp hk768 (fun b_ hb e' => by have e'' : b_ = g730 := e'; have := (hO752).base_le hb; omega)).base_le h; have h2 := ((((((hO613).lo hk624).lo hk633).lo hk637).lo hk655).lo hk733).base_le h'; omega), hd757, (fun b_ h h' => by have h1 := ((hO756).kp hk768 (fun b_ hb e' => by have e'' : b_ = g730 := e'; have := (hO756).base_le hb; omega)).base_le h; have h2 := ((((((hm621).lo hk624).lo hk633).lo hk637).lo hk655).lo hk733).base_le h'; omega), (fun b_ h h' => by have h1 := ((hO756).kp hk768 (fun b_ hb e' => by have e'' : b_ = g730 := e'; have := (hO756).base_le hb; omega)).base_le h; have h2 := ((((((hm622).lo hk624).lo hk633).lo hk637).lo hk655).lo hk733).base_le h'; omega), (fun b_ h h' => by have h1 := ((hO756).kp hk768 (fun b_ hb e' => by have e'' : b_ = g730 := e'; have := (hO756).base_le hb; omega)).base_le h; have h2 := ((((((((hO576).lo hk596).kp hk611 (fun b_ hb e' => e'.elim (fun e' => hd368 b_ e' hb) (fun e' => hd373 b_ e' hb))).lo hk624).lo hk633).lo hk637).lo hk655).lo hk733).base_le h'; omega), (fun b_ h h' => by have h1 := ((hO756).kp hk768 (fun b_ hb e' => by have e'' : b_ = g730 := e'; have := (hO756).base_le hb; omega)).base_le h; have h2 := ((((((((hO577).lo hk596).kp hk611 (fun b_ hb e' => e'.elim (fun e' => hd369 b_ e' hb) (fun e' => hd374 b_ e' hb))).lo hk624).lo hk633).lo hk637).lo hk655).lo hk733).base_le h'; omega), (fun b_ h h' => by have h1 := ((hO756).kp hk768 (fun b_ hb e' => by have e'' : b_ = g730 := e'; have := (hO756).base_le hb; omega)).base_le h; have h2 := ((((((hO612).lo hk624).lo hk633).lo hk637).lo hk655).lo hk733).base_le h'; omega), (fun b_ h h' => by have h1 := ((hO756).kp hk768 (fun b_ hb e' => by have e'' : b_ = g730 := e'; have := (hO756).base_le hb; omega)).base_le h; have h2 := ((((((hO613).lo hk624).lo hk633).lo hk637).lo hk655).lo hk733).base_le h'; omega), hl650, hl651, hl652, hl653, hl761, hl762, hq763, hl764, hl765, hq766⟩
                  · refine SR.alloc (l := [.slice none 0 0, .slice none 0 0, .int .i64 0, .int .i64 0, .int .i64 0]) tz31 rfl ?_
                    intro g796 w797 hg798 hk799 hs800 hb801
                    have hz802 := hk799.size
                    have hB803 := hB648.lo hk799
                    have hS804 := (hS649).lo hk799
                    have hd805 : ¬ A55 = some ⟨g796, 0, none⟩ := fun e' => by have := ((((hm621).lo hk624).lo hk633).lo hk637).base_le e'; omega
                    have hd806 : ¬ A59 = some ⟨g796, 0, none⟩ := fun e' => by have := ((((hm622).lo hk624).lo hk633).lo hk637).base_le e'; omega
                    have hd807 : ¬ A263 = some ⟨g796, 0, none⟩ := fun e' => by have := ((((((hO576).lo hk596).kp hk611 (fun b_ hb e' => e'.elim (fun e' => hd368 b_ e' hb) (fun e' => hd373 b_ e' hb))).lo hk624).lo hk633).lo hk637).base_le e'; omega
                    have hd808 : ¬ A267 = some ⟨g796, 0, none⟩ := fun e' => by have := ((((((hO577).lo hk596).kp hk611 (fun b_ hb e' => e'.elim (fun e' => hd369 b_ e' hb) (fun e' => hd374 b_ e' hb))).lo hk624).lo hk633).lo hk637).base_le e'; omega
                    have hd809 : ¬ A316 = some ⟨g796, 0, none⟩ := fun e' => by have := ((((hO612).lo hk624).lo hk633).lo hk637).base_le e'; omega
                    have hd810 : ¬ A320 = some ⟨g796, 0, none⟩ := fun e' => by have := ((((hO613).lo hk624).lo hk633).lo hk637).base_le e'; omega
                    have hd811 : ¬ A638 = some ⟨g796, 0, none⟩ := fun e' => by have := (hO641).base_le e'; omega
                    have hd812 : ¬ A642 = some ⟨g796, 0, none⟩ := fun e' => by have := (hO645).base_le e'; omega
                    refine SR.nil ⟨hS804, _, rfl, ?_⟩
                    refine AH.br [3] (by kernel_rfl) rfl ⟨Br.mk' rfl trivial ?_, trivial⟩
                    refine SR.call ent32 (c_laws_toLibraryStep w797 s) rfl ?_
                    rintro e w813 ⟨rfl, hk814⟩
                    refine ⟨_, rfl, ?_⟩
                    have hz815 := hk814.size
                    have hB816 := hB803.lo hk814
                    have hS817 := (hS804).lo hk814
                    refine SR.nil ⟨hS817, _, rfl, ?_⟩
                    refine AH.br [4] (by kernel_rfl) rfl ⟨Br.mk' rfl trivial ?_, trivial⟩
                    refine SR.call ent33 (c_impl_StepLibrary w813 x (((((hO641).lo hk799).lo hk814).rd)) (((((hO645).lo hk799).lo hk814).rd)) s (by omega)) rfl ?_
                    rintro e w818 ⟨A820, n821, c822, A824, n825, c826, rfl, hO823, hO827, hd828, hk819⟩
                    refine ⟨_, rfl, ?_⟩
                    have hz829 := hk819.size
                    have hB830 := hB816.lo hk819
                    have hS831 := (hS817).lo hk819
                    have hl832 := hO823.len
                    have hl833 := hO823.rd.bound
                    have hq834 := step_lenM x s
                    have hl835 := hO827.len
                    have hl836 := hO827.rd.bound
                    have hq837 := step_lenA x s
                    refine SR.nil ⟨hS831, _, rfl, ?_⟩
                    refine AH.take 5 rfl (by kernel_rfl) trivial (hS831) (fun w' hw' => r_mv (v := .tuple (List.toArray _)) rfl) <| AH.take 6 rfl (by kernel_rfl) trivial (hS831) (fun w' hw' => r_ext (v := .agg (List.toArray _)) rfl rfl) <| AH.take 7 rfl (by kernel_rfl) trivial (hS831) (fun w' hw' => r_ext (v := .bool _) rfl rfl) <| AH.br [9] (by kernel_rfl) rfl ⟨Br.mk' rfl trivial ?_, trivial⟩
                    refine SR.store (o := 0) (vs := [.slice A820 n821 c822, .slice A824 n825 c826, .int .i64 (((impl_StepLibrary x s).1).Bought), .int .i64 (((impl_StepLibrary x s).1).Dropped), .int .i64 (((impl_StepLibrary x s).1).Mended)]) agg31.2 rfl rfl rfl rfl (((hb801).lo hk814).lo hk819) (Nat.le_of_ble_eq_true rfl) rfl ?_
                    intro w838 hk839 hs840 hb841
                    have hz842 := hk839.size
                    have hB843 := hB830.new hk839 (by omega)
                    have hS844 := (hS831).new hk839 (by omega)
                    refine SR.nil ⟨hS844, _, rfl, ?_⟩
                    refine AH.take 10 rfl (by kernel_rfl) trivial (hS844) (fun w' hw' => r_as (v := .bool _) rfl) <| AH.done (by kernel_rfl) ?_
                    exact ⟨A638, n639, c640, A642, n643, c644, A820, n821, c822, A824, n825, c826, g796, ⟨rfl, rfl, rfl, rfl, rfl, rfl, rfl, rfl, trivial⟩, hS844, (((hO823).kp hk839 (fun b_ hb e' => by have e'' : b_ = g796 := e'; have := (hO823).base_le hb; omega)).down (by omega)), (((hO827).kp hk839 (fun b_ hb e' => by have e'' : b_ = g796 := e'; have := (hO827).base_le hb; omega)).down (by omega)), (hb841), ⟨by omega, (hb841).lt⟩, hd805, hd806, hd807, hd808, hd809, hd810, (fun e' => by have := ((hO823).kp hk839 (fun b_ hb e' => by have e'' : b_ = g796 := e'; have := (hO823).base_le hb; omega)).base_le e'; omega), (fun e' => by have := ((hO827).kp hk839 (fun b_ hb e' => by have e'' : b_ = g796 := e'; have := (hO827).base_le hb; omega)).base_le e'; omega), (fun b_ h h' => by have h1 := ((hO823).kp hk839 (fun b_ hb e' => by have e'' : b_ = g796 := e'; have := (hO823).base_le hb; omega)).base_le h; have h2 := ((((((hm621).lo hk624).lo hk633).lo hk637).lo hk799).lo hk814).base_le h'; omega), (fun b_ h h' => by have h1 := ((hO823).kp hk839 (fun b_ hb e' => by have e'' : b_ = g796 := e'; have := (hO823).base_le hb; omega)).base_le h; have h2 := ((((((hm622).lo hk624).lo hk633).lo hk637).lo hk799).lo hk814).base_le h'; omega), (fun b_ h h' => by have h1 := ((hO823).kp hk839 (fun b_ hb e' => by have e'' : b_ = g796 := e'; have := (hO823).base_le hb; omega)).base_le h; have h2 := ((((((((hO576).lo hk596).kp hk611 (fun b_ hb e' => e'.elim (fun e' => hd368 b_ e' hb) (fun e' => hd373 b_ e' hb))).lo hk624).lo hk633).lo hk637).lo hk799).lo hk814).base_le h'; omega), (fun b_ h h' => by have h1 := ((hO823).kp hk839 (fun b_ hb e' => by have e'' : b_ = g796 := e'; have := (hO823).base_le hb; omega)).base_le h; have h2 := ((((((((hO577).lo hk596).kp hk611 (fun b_ hb e' => e'.elim (fun e' => hd369 b_ e' hb) (fun e' => hd374 b_ e' hb))).lo hk624).lo hk633).lo hk637).lo hk799).lo hk814).base_le h'; omega), (fun b_ h h' => by have h1 := ((hO823).kp hk839 (fun b_ hb e' => by have e'' : b_ = g796 := e'; have := (hO823).base_le hb; omega)).base_le h; have h2 := ((((((hO612).lo hk624).lo hk633).lo hk637).lo hk799).lo hk814).base_le h'; omega), (fun b_ h h' => by have h1 := ((hO823).kp hk839 (fun b_ hb e' => by have e'' : b_ = g796 := e'; have := (hO823).base_le hb; omega)).base_le h; have h2 := ((((((hO613).lo hk624).lo hk633).lo hk637).lo hk799).lo hk814).base_le h'; omega), hd828, (fun b_ h h' => by have h1 := ((hO827).kp hk839 (fun b_ hb e' => by have e'' : b_ = g796 := e'; have := (hO827).base_le hb; omega)).base_le h; have h2 := ((((((hm621).lo hk624).lo hk633).lo hk637).lo hk799).lo hk814).base_le h'; omega), (fun b_ h h' => by have h1 := ((hO827).kp hk839 (fun b_ hb e' => by have e'' : b_ = g796 := e'; have := (hO827).base_le hb; omega)).base_le h; have h2 := ((((((hm622).lo hk624).lo hk633).lo hk637).lo hk799).lo hk814).base_le h'; omega), (fun b_ h h' => by have h1 := ((hO827).kp hk839 (fun b_ hb e' => by have e'' : b_ = g796 := e'; have := (hO827).base_le hb; omega)).base_le h; have h2 := ((((((((hO576).lo hk596).kp hk611 (fun b_ hb e' => e'.elim (fun e' => hd368 b_ e' hb) (fun e' => hd373 b_ e' hb))).lo hk624).lo hk633).lo hk637).lo hk799).lo hk814).base_le h'; omega), (fun b_ h h' => by have h1 := ((hO827).kp hk839 (fun b_ hb e' => by have e'' : b_ = g796 := e'; have := (hO827).base_le hb; omega)).base_le h; have h2 := ((((((((hO577).lo hk596).kp hk611 (fun b_ hb e' => e'.elim (fun e' => hd369 b_ e' hb) (fun e' => hd374 b_ e' hb))).lo hk624).lo hk633).lo hk637).lo hk799).lo hk814).base_le h'; omega), (fun b_ h h' => by have h1 := ((hO827).kp hk839 (fun b_ hb e' => by have e'' : b_ = g796 := e'; have := (hO827).base_le hb; omega)).base_le h; have h2 := ((((((hO612).lo hk624).lo hk633).lo hk637).lo hk799).lo hk814).base_le h'; omega), (fun b_ h h' => by have h1 := ((hO827).kp hk839 (fun b_ hb e' => by have e'' : b_ = g796 := e'; have := (hO827).base_le hb; omega)).base_le h; have h2 := ((((((hO613).lo hk624).lo hk633).lo hk637).lo hk799).lo hk814).base_le h'; omega), hl650, hl651, hl652, hl653, hl832, hl833, hq834, hl835, hl836, hq837⟩
                · refine SR.alloc (l := [.slice none 0 0, .slice none 0 0, .int .i64 0, .int .i64 0, .int .i64 0]) tz31 rfl ?_
                  intro g867 w868 hg869 hk870 hs871 hb872
                  have hz873 := hk870.size
                  have hB874 := hB635.lo hk870
                  have hS875 := (hk633).lo hk870
                  have hd876 : ¬ A55 = some ⟨g867, 0, none⟩ := fun e' => by have := (((hm621).lo hk624).lo hk633).base_le e'; omega
                  have hd877 : ¬ A59 = some ⟨g867, 0, none⟩ := fun e' => by have := (((hm622).lo hk624).lo hk633).base_le e'; omega
                  have hd878 : ¬ A263 = some ⟨g867, 0, none⟩ := fun e' => by have := (((((hO576).lo hk596).kp hk611 (fun b_ hb e' => e'.elim (fun e' => hd368 b_ e' hb) (fun e' => hd373 b_ e' hb))).lo hk624).lo hk633).base_le e'; omega
                  have hd879 : ¬ A267 = some ⟨g867, 0, none⟩ := fun e' => by have := (((((hO577).lo hk596).kp hk611 (fun b_ hb e' => e'.elim (fun e' => hd369 b_ e' hb) (fun e' => hd374 b_ e' hb))).lo hk624).lo hk633).base_le e'; omega
                  have hd880 : ¬ A316 = some ⟨g867, 0, none⟩ := fun e' => by have := (((hO612).lo hk624).lo hk633).base_le e'; omega
                  have hd881 : ¬ A320 = some ⟨g867, 0, none⟩ := fun e' => by have := (((hO613).lo hk624).lo hk633).base_le e'; omega
                  refine SR.nil ⟨hS875, _, rfl, ?_⟩
                  refine AH.br [1] (by kernel_rfl) rfl ⟨Br.mk' rfl trivial ?_, trivial⟩
                  refine SR.call ent14 (c_laws_toLibrary w868 x (((((hm617).lo hk624).lo hk633).lo hk870)) (((((hm618).lo hk624).lo hk633).lo hk870)) (by omega) (by omega)) rfl ?_
                  rintro e w882 ⟨A884, n885, c886, A888, n889, c890, rfl, hO887, hO891, hd892, hk883⟩
                  refine ⟨_, rfl, ?_⟩
                  have hz893 := hk883.size
                  have hB894 := hB874.lo hk883
                  have hS895 := (hS875).lo hk883
                  have hl896 := hO887.len
                  have hl897 := hO887.rd.bound
                  have hl898 := hO891.len
                  have hl899 := hO891.rd.bound
                  refine SR.nil ⟨hS895, _, rfl, ?_⟩
                  refine AH.br [3] (by kernel_rfl) rfl ⟨Br.mk' rfl trivial ?_, trivial⟩
                  refine SR.call ent32 (c_laws_toLibraryStep w882 s) rfl ?_
                  rintro e w900 ⟨rfl, hk901⟩
                  refine ⟨_, rfl, ?_⟩
                  have hz902 := hk901.size
                  have hB903 := hB894.lo hk901
                  have hS904 := (hS895).lo hk901
                  refine SR.nil ⟨hS904, _, rfl, ?_⟩
                  refine AH.br [4] (by kernel_rfl) rfl ⟨Br.mk' rfl trivial ?_, trivial⟩
                  refine SR.call ent33 (c_impl_StepLibrary w900 x ((((hO887).lo hk901).rd)) ((((hO891).lo hk901).rd)) s (by omega)) rfl ?_
                  rintro e w905 ⟨A907, n908, c909, A911, n912, c913, rfl, hO910, hO914, hd915, hk906⟩
                  refine ⟨_, rfl, ?_⟩
                  have hz916 := hk906.size
                  have hB917 := hB903.lo hk906
                  have hS918 := (hS904).lo hk906
                  have hl919 := hO910.len
                  have hl920 := hO910.rd.bound
                  have hq921 := step_lenM x s
                  have hl922 := hO914.len
                  have hl923 := hO914.rd.bound
                  have hq924 := step_lenA x s
                  refine SR.nil ⟨hS918, _, rfl, ?_⟩
                  refine AH.take 5 rfl (by kernel_rfl) trivial (hS918) (fun w' hw' => r_mv (v := .tuple (List.toArray _)) rfl) <| AH.take 6 rfl (by kernel_rfl) trivial (hS918) (fun w' hw' => r_ext (v := .agg (List.toArray _)) rfl rfl) <| AH.take 7 rfl (by kernel_rfl) trivial (hS918) (fun w' hw' => r_ext (v := .bool _) rfl rfl) <| AH.br [9] (by kernel_rfl) rfl ⟨Br.mk' rfl trivial ?_, trivial⟩
                  refine SR.store (o := 0) (vs := [.slice A907 n908 c909, .slice A911 n912 c913, .int .i64 (((impl_StepLibrary x s).1).Bought), .int .i64 (((impl_StepLibrary x s).1).Dropped), .int .i64 (((impl_StepLibrary x s).1).Mended)]) agg31.2 rfl rfl rfl rfl ((((hb872).lo hk883).lo hk901).lo hk906) (Nat.le_of_ble_eq_true rfl) rfl ?_
                  intro w925 hk926 hs927 hb928
                  have hz929 := hk926.size
                  have hB930 := hB917.new hk926 (by omega)
                  have hS931 := (hS918).new hk926 (by omega)
                  refine SR.nil ⟨hS931, _, rfl, ?_⟩
                  refine AH.take 10 rfl (by kernel_rfl) trivial (hS931) (fun w' hw' => r_as (v := .bool _) rfl) <| AH.done (by kernel_rfl) ?_
                  exact ⟨A884, n885, c886, A888, n889, c890, A907, n908, c909, A911, n912, c913, g867, ⟨rfl, rfl, rfl, rfl, rfl, rfl, rfl, rfl, trivial⟩, hS931, (((hO910).kp hk926 (fun b_ hb e' => by have e'' : b_ = g867 := e'; have := (hO910).base_le hb; omega)).down (by omega)), (((hO914).kp hk926 (fun b_ hb e' => by have e'' : b_ = g867 := e'; have := (hO914).base_le hb; omega)).down (by omega)), (hb928), ⟨by omega, (hb928).lt⟩, hd876, hd877, hd878, hd879, hd880, hd881, (fun e' => by have := ((hO910).kp hk926 (fun b_ hb e' => by have e'' : b_ = g867 := e'; have := (hO910).base_le hb; omega)).base_le e'; omega), (fun e' => by have := ((hO914).kp hk926 (fun b_ hb e' => by have e'' : b_ = g867 := e'; have := (hO914).base_le hb; omega)).base_le e'; omega), (fun b_ h h' => by have h1 := ((hO910).kp hk926 (fun b_ hb e' => by have e'' : b_ = g867 := e'; have := (hO910).base_le hb; omega)).base_le h; have h2 := ((((((hm621).lo hk624).lo hk633).lo hk870).lo hk883).lo hk901).base_le h'; omega), (fun b_ h h' => by have h1 := ((hO910).kp hk926 (fun b_ hb e' => by have e'' : b_ = g867 := e'; have := (hO910).base_le hb; omega)).base_le h; have h2 := ((((((hm622).lo hk624).lo hk633).lo hk870).lo hk883).lo hk901).base_le h'; omega), (fun b_ h h' => by have h1 := ((hO910).kp hk926 (fun b_ hb e' => by have e'' : b_ = g867 := e'; have := (hO910).base_le hb; omega)).base_le h; have h2 := ((((((((hO576).lo hk596).kp hk611 (fun b_ hb e' => e'.elim (fun e' => hd368 b_ e' hb) (fun e' => hd373 b_ e' hb))).lo hk624).lo hk633).lo hk870).lo hk883).lo hk901).base_le h'; omega), (fun b_ h h' => by have h1 := ((hO910).kp hk926 (fun b_ hb e' => by have e'' : b_ = g867 := e'; have := (hO910).base_le hb; omega)).base_le h; have h2 := ((((((((hO577).lo hk596).kp hk611 (fun b_ hb e' => e'.elim (fun e' => hd369 b_ e' hb) (fun e' => hd374 b_ e' hb))).lo hk624).lo hk633).lo hk870).lo hk883).lo hk901).base_le h'; omega), (fun b_ h h' => by have h1 := ((hO910).kp hk926 (fun b_ hb e' => by have e'' : b_ = g867 := e'; have := (hO910).base_le hb; omega)).base_le h; have h2 := ((((((hO612).lo hk624).lo hk633).lo hk870).lo hk883).lo hk901).base_le h'; omega), (fun b_ h h' => by have h1 := ((hO910).kp hk926 (fun b_ hb e' => by have e'' : b_ = g867 := e'; have := (hO910).base_le hb; omega)).base_le h; have h2 := ((((((hO613).lo hk624).lo hk633).lo hk870).lo hk883).lo hk901).base_le h'; omega), hd915, (fun b_ h h' => by have h1 := ((hO914).kp hk926 (fun b_ hb e' => by have e'' : b_ = g867 := e'; have := (hO914).base_le hb; omega)).base_le h; have h2 := ((((((hm621).lo hk624).lo hk633).lo hk870).lo hk883).lo hk901).base_le h'; omega), (fun b_ h h' => by have h1 := ((hO914).kp hk926 (fun b_ hb e' => by have e'' : b_ = g867 := e'; have := (hO914).base_le hb; omega)).base_le h; have h2 := ((((((hm622).lo hk624).lo hk633).lo hk870).lo hk883).lo hk901).base_le h'; omega), (fun b_ h h' => by have h1 := ((hO914).kp hk926 (fun b_ hb e' => by have e'' : b_ = g867 := e'; have := (hO914).base_le hb; omega)).base_le h; have h2 := ((((((((hO576).lo hk596).kp hk611 (fun b_ hb e' => e'.elim (fun e' => hd368 b_ e' hb) (fun e' => hd373 b_ e' hb))).lo hk624).lo hk633).lo hk870).lo hk883).lo hk901).base_le h'; omega), (fun b_ h h' => by have h1 := ((hO914).kp hk926 (fun b_ hb e' => by have e'' : b_ = g867 := e'; have := (hO914).base_le hb; omega)).base_le h; have h2 := ((((((((hO577).lo hk596).kp hk611 (fun b_ hb e' => e'.elim (fun e' => hd369 b_ e' hb) (fun e' => hd374 b_ e' hb))).lo hk624).lo hk633).lo hk870).lo hk883).lo hk901).base_le h'; omega), (fun b_ h h' => by have h1 := ((hO914).kp hk926 (fun b_ hb e' => by have e'' : b_ = g867 := e'; have := (hO914).base_le hb; omega)).base_le h; have h2 := ((((((hO612).lo hk624).lo hk633).lo hk870).lo hk883).lo hk901).base_le h'; omega), (fun b_ h h' => by have h1 := ((hO914).kp hk926 (fun b_ hb e' => by have e'' : b_ = g867 := e'; have := (hO914).base_le hb; omega)).base_le h; have h2 := ((((((hO613).lo hk624).lo hk633).lo hk870).lo hk883).lo hk901).base_le h'; omega), hl896, hl897, hl898, hl899, hl919, hl920, hq921, hl922, hl923, hq924⟩
              rintro f954 w955 ⟨A638, n639, c640, A642, n643, c644, A661, n662, c663, A665, n666, c667, g679, hat957, hR956, hm705, hm706, hm707, hg708, hd709, hd710, hd711, hd712, hd713, hd714, hd715, hd716, hd717, hd718, hd719, hd720, hd721, hd722, hd723, hd724, hd725, hd726, hd727, hd728, hd729, hl650, hl651, hl652, hl653, hl673, hl674, hq675, hl676, hl677, hq678⟩
              rw [← sets_of_at hat957]
              have hz958 := hR956.size
              have hB959 := hB626.lo hR956
              refine W.seq ?_
              refine W.seq ?_
              have hm960 := ((hm620).lo hk624).lo hR956
              have hm961 := ((hm621).lo hk624).lo hR956
              have hm962 := ((hm622).lo hk624).lo hR956
              have hm963 := ((hO612).lo hk624).lo hR956
              have hm964 := ((hO613).lo hk624).lo hR956
              refine W.regJS (fun f' w' => At f' [(4, .bool false), (9, .pointer (some ((⟨g334, 0, none⟩ : Addr)))), (12, .int .i64 (1 + 3 * (((impl_StepLibrary x s).1).Maps.length : Int) + 2 * (((impl_StepLibrary x s).1).Away.length : Int))), (13, .int .i64 (1 + 3 * ((((impl_StepLibrary x s).1).Maps.length : Nat) : Int) + 2 * ((((impl_StepLibrary x s).1).Away.length : Nat) : Int))), (95, .bool (decide ((¬ (((impl_StepLibrary x s).1) = ((spec_StepLibrary x s).1))) ∨ ((!(((impl_StepLibrary x s).2) == ((spec_StepLibrary x s).2))) = true))))] ∧ Lo w955 w') ?_ ?_
              · refine SR.q' (r_lda (l := [.slice A661 n662 c663, .slice A665 n666 c667, .int .i64 (((impl_StepLibrary x s).1).Bought), .int .i64 (((impl_StepLibrary x s).1).Dropped), .int .i64 (((impl_StepLibrary x s).1).Mended)]) agg31 rfl (fun _ _ hu => (hm707).cell hu) rfl) <| SR.q' (r_lda (l := [.slice A55 n56 c57, .slice A59 n60 c61, .int .i64 (((spec_StepLibrary x s).1).Bought), .int .i64 (((spec_StepLibrary x s).1).Dropped), .int .i64 (((spec_StepLibrary x s).1).Mended)]) agg31 rfl (fun _ _ hu => (hm960).cell hu) rfl) <| SR.call ent16 (c_laws_eqLibrary w955 ((impl_StepLibrary x s).1) (((hm705).rd)) (((hm706).rd)) ((spec_StepLibrary x s).1) (((hm961).rd)) (((hm962).rd))) rfl ?_
                rintro e w965 ⟨rfl, hk966⟩
                refine ⟨_, rfl, ?_⟩
                have hz967 := hk966.size
                have hB968 := hB959.lo hk966
                refine SR.q' (r_not rfl) <| SR.q' (r_mv (v := .bool _) rfl) <| SR.splitN (fun h969 => ?_) (fun h969 => ?_)
                · refine SR.s' rfl <| SR.s' rfl <| SR.s' rfl <| SR.q' (r_pick true rfl (v := .bool true) rfl) <| SR.nil ?_
                  exact ⟨_, rfl, ⟨⟨rfl, rfl, rfl, rfl, (eDT ((jmf h969).1 trivial)), trivial⟩, (hk966)⟩⟩
                · refine SR.g' rfl (r_mv (v := .bool _) rfl) <| SR.g' rfl (r_mv (v := .bool _) rfl) <| SR.g' rfl (r_neb und4 rfl rfl) <| SR.q' (r_pick false rfl (v := .bool _) rfl) <| SR.nil ?_
                  exact ⟨_, rfl, ⟨⟨rfl, rfl, rfl, rfl, (eBD (jmt h969)), trivial⟩, (hk966)⟩⟩
              rintro f970 w971 ⟨hat972, hk973⟩
              rw [← sets_of_at hat972]
              have hz974 := hk973.size
              have hB975 := hB959.lo hk973
              refine W.cond_f (congrArg Value.bool (decide_eq_false h509)) ?_
              refine W.skip ?_
              refine W.seq ?_
              have hm976 := ((hm627).lo hR956).lo hk973
              refine W.regS (SR.q' (r_as (v := .int .i64 1) rfl) <| SR.nil ?_)
              refine W.seq ?_
              refine W.regS (SR.q' (r_lda (l := [.slice A316 n317 c318, .slice A320 n321 c322, .int .i64 (((impl_StepLibrary x s).1).Bought), .int .i64 (((impl_StepLibrary x s).1).Dropped), .int .i64 (((impl_StepLibrary x s).1).Mended)]) agg31 rfl (fun _ _ hu => (hm976).cell hu) rfl) <| SR.q' (r_mv (v := .int .i64 _) rfl) <| SR.call ent34 (c_laws_heldLibrary w971 (⟨mkL mkLMap 3 ((impl_StepLibrary x s).1).Maps.length 1, mkL mkAway 2 ((impl_StepLibrary x s).1).Away.length (1 + 3 * (((impl_StepLibrary x s).1).Maps.length : Int)), ((impl_StepLibrary x s).1).Bought, ((impl_StepLibrary x s).1).Dropped, ((impl_StepLibrary x s).1).Mended⟩ : Library) ((((hm963).lo hk973).rd)) ((((hm964).lo hk973).rd)) 1 (((impl_StepLibrary x s).1).Maps.length) (((impl_StepLibrary x s).1).Away.length) (by omega) (by omega) (by omega) (by omega) (by rfl) (by rfl) (by omega) (by omega)) rfl ?_)
              rintro e w977 ⟨rfl, hk978⟩
              refine ⟨_, rfl, ?_⟩
              have hz979 := hk978.size
              have hB980 := hB975.lo hk978
              refine SR.q' (r_as (v := .int .i64 _) rfl) <| SR.nil ?_
              refine W.seq ?_
              refine W.seq ?_
              refine W.regS (SR.q' (r_mv (v := .int .i64 _) rfl) <| SR.q' (r_lt rfl rfl) <| SR.nil ?_)
              refine W.cond_f (congrArg Value.bool (decide_eq_false h628)) ?_
              refine W.skip ?_
              refine W.seq ?_
              refine W.seq ?_
              refine W.regS (SR.q' (r_mv (v := .int .i64 _) rfl) <| SR.q' (r_mv (v := .int .i64 _) rfl) <| SR.q' (r_ne rfl rfl) <| SR.nil ?_)
              refine W.cond_f (congrArg Value.bool (not_decide_t h630)) ?_
              refine W.skip ?_
              refine W.seq ?_
              refine W.regS (SR.q' (r_as (v := .bool true) rfl) <| SR.nil ?_)
              refine W.ret ?_
              refine ret1 rfl (v := .bool _) rfl ?_
              exact ⟨eR rfl, hB980⟩
end Go.Proofs.Ytbodnffjgmaloaa
