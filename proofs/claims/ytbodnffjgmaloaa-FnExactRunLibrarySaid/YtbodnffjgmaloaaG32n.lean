/- Walks, printed by a program of this claim's author. -/
import Derived.Test.YtbodnffjgmaloaaChecked
import Derived.Test.YtbodnffjgmaloaaUa
import Derived.Test.YtbodnffjgmaloaaFs
import Derived.Test.YtbodnffjgmaloaaFq
import Derived.Test.YtbodnffjgmaloaaUg
import Derived.Test.YtbodnffjgmaloaaG32m
namespace Go.Proofs.Ytbodnffjgmaloaa
open Go Go.RowKit Fw
set_option maxRecDepth 10000
set_option linter.unusedVariables false
theorem agg46 : TAgg Try.prog 46 4 := ⟨fun _ => by kernel_rfl, fun _ => by kernel_rfl⟩
theorem ent32 : Ent Try.prog 32 := ent_of Try.func32 (by decide +kernel) rfl
theorem ent80 : Ent Try.prog 80 := ent_of Try.func80 (by decide +kernel) rfl
theorem fa46_0 : FA Try.prog 46 0 0 := fun _ _ => by kernel_rfl
theorem fa46_1 : FA Try.prog 46 1 1 := fun _ _ => by kernel_rfl
theorem fa46_2 : FA Try.prog 46 2 2 := fun _ _ => by kernel_rfl
theorem fa46_3 : FA Try.prog 46 3 3 := fun _ _ => by kernel_rfl
theorem tel57 : TEl Try.prog 57 49 (.agg (List.toArray [.int .i64 0, .int .i64 0, .int .i64 0, .int .i64 0])) 4 32 := ⟨by kernel_rfl, by kernel_rfl, rfl, by decide⟩
theorem tsl57 : TSl Try.prog 57 49 4 := ⟨by kernel_rfl, fun _ => by kernel_rfl⟩
theorem tsl62 : TSl Try.prog 62 46 4 := ⟨by kernel_rfl, fun _ => by kernel_rfl⟩
theorem tz49 : TZ Try.prog 49 (.agg (List.toArray [.int .i64 0, .int .i64 0, .int .i64 0, .int .i64 0])) := fun _ => by kernel_rfl
theorem und57 : Try.prog.underlying 57 = some (.slice 49) := by kernel_rfl
theorem und62 : Try.prog.underlying 62 = some (.slice 46) := by kernel_rfl

theorem z_c_laws_toLibraryStep_59 (r : LibraryStep) : ([.int .i64 r.Kind, .int .i64 r.Id, .int .i64 r.Reader, .int .i64 r.Value] : List Value) = encLibraryStep r := by
  first | rfl | (first | rfl | omega | grind)
theorem c_laws_toLibraryStep (w : World) (r : LibraryStep) : Calls Try.prog 32 #[.agg (List.toArray (encLibraryStep r))] w fun e w' => e = .returned (.agg (List.toArray (encLibraryStep r))) ∧ Lo w w' := by
  refine calls_W 17 Try.func32 rfl rfl rfl ?_
  refine W.seq ?_
  refine W.regS (SR.box (v := .agg (List.toArray _)) (l := [.int .i64 r.Kind, .int .i64 r.Id, .int .i64 r.Reader, .int .i64 r.Value]) rfl rfl ?_)
  intro g1 w2 hg3 hk4 hs5 hb6
  have hz7 := hk4.size
  have hB8 := (Lo.refl w).lo hk4
  refine SR.alloc (l := [.int .i64 0, .int .i64 0, .int .i64 0, .int .i64 0]) tz49 rfl ?_
  intro g9 w10 hg11 hk12 hs13 hb14
  have hz15 := hk12.size
  have hB16 := hB8.lo hk12
  refine SR.nil ?_
  refine W.seq ?_
  refine W.regS (SR.alloc (l := [.int .i64 0, .int .i64 0, .int .i64 0, .int .i64 0]) tz49 rfl ?_)
  intro g17 w18 hg19 hk20 hs21 hb22
  have hz23 := hk20.size
  have hB24 := hB16.lo hk20
  refine SR.nil ?_
  refine W.seq ?_
  have hm25 := ((hb6).lo hk12).lo hk20
  refine W.regS (SR.q' (r_fa fa46_0 rfl) <| SR.q' (r_ld (v := .int .i64 r.Kind) sca3 rfl ((hm25).cell rfl)) <| SR.q' (r_fa fa49_0 rfl) <| SR.store (o := 0) (vs := [.int .i64 r.Kind]) sca3.2 rfl rfl rfl rfl (hb22) (Nat.le_of_ble_eq_true rfl) rfl ?_)
  intro w26 hk27 hs28 hb29
  have hz30 := hk27.size
  have hB31 := hB24.new hk27 (by omega)
  refine SR.nil ?_
  refine W.seq ?_
  have hm32 := ((hb14).lo hk20).kp hk27 (fun e' => by have e'' : g9 = g17 := e'; omega)
  refine W.regS (SR.q' (r_fa fa46_1 rfl) <| SR.q' (r_ld (v := .int .i64 r.Id) sca3 rfl (((hm25).kp hk27 (fun e' => by have e'' : g1 = g17 := e'; omega)).cell rfl)) <| SR.q' (r_fa fa49_1 rfl) <| SR.store (o := 1) (vs := [.int .i64 r.Id]) sca3.2 rfl rfl rfl rfl (hb29) (Nat.le_of_ble_eq_true rfl) rfl ?_)
  intro w33 hk34 hs35 hb36
  have hz37 := hk34.size
  have hB38 := hB31.new hk34 (by omega)
  refine SR.nil ?_
  refine W.seq ?_
  have hm39 := ((hm25).kp hk27 (fun e' => by have e'' : g1 = g17 := e'; omega)).kp hk34 (fun e' => by have e'' : g1 = g17 := e'; omega)
  refine W.regS (SR.q' (r_fa fa46_2 rfl) <| SR.q' (r_ld (v := .int .i64 r.Reader) sca3 rfl ((hm39).cell rfl)) <| SR.q' (r_fa fa49_2 rfl) <| SR.store (o := 2) (vs := [.int .i64 r.Reader]) sca3.2 rfl rfl rfl rfl (hb36) (Nat.le_of_ble_eq_true rfl) rfl ?_)
  intro w40 hk41 hs42 hb43
  have hz44 := hk41.size
  have hB45 := hB38.new hk41 (by omega)
  refine SR.nil ?_
  refine W.seq ?_
  have hm46 := ((hm32).kp hk34 (fun e' => by have e'' : g9 = g17 := e'; omega)).kp hk41 (fun e' => by have e'' : g9 = g17 := e'; omega)
  refine W.regS (SR.q' (r_fa fa46_3 rfl) <| SR.q' (r_ld (v := .int .i64 r.Value) sca3 rfl (((hm39).kp hk41 (fun e' => by have e'' : g1 = g17 := e'; omega)).cell rfl)) <| SR.q' (r_fa fa49_3 rfl) <| SR.store (o := 3) (vs := [.int .i64 r.Value]) sca3.2 rfl rfl rfl rfl (hb43) (Nat.le_of_ble_eq_true rfl) rfl ?_)
  intro w47 hk48 hs49 hb50
  have hz51 := hk48.size
  have hB52 := hB45.new hk48 (by omega)
  refine SR.nil ?_
  refine W.seq ?_
  refine W.regS (SR.q' (r_lda (l := [.int .i64 r.Kind, .int .i64 r.Id, .int .i64 r.Reader, .int .i64 r.Value]) agg49 rfl (fun _ _ hu => (hb50).cell hu) rfl) <| SR.store (o := 0) (vs := [.int .i64 r.Kind, .int .i64 r.Id, .int .i64 r.Reader, .int .i64 r.Value]) agg49.2 rfl rfl rfl rfl ((hm46).kp hk48 (fun e' => by have e'' : g9 = g17 := e'; omega)) (Nat.le_of_ble_eq_true rfl) rfl ?_)
  intro w53 hk54 hs55 hb56
  have hz57 := hk54.size
  have hB58 := hB52.new hk54 (by omega)
  refine SR.nil ?_
  refine W.ret ?_
  refine retC rfl rfl agg49 (hb56) rfl ?_
  exact ⟨eR (eA (z_c_laws_toLibraryStep_59 r)), hB58⟩

theorem z_c_laws_szLibraryStepS_2 (L : List LibraryStep) (nL : Nat) (hbdL : (nL : Int) ≤ 9223372036854775807) (hleL : nL = L.length) (left : Int) (hp0 : 0 ≤ left) (hp1 : left ≤ 1048576) (h1 : (left - (nL : Int)) < 0) : (-1) = szN L.length left := by
  unfold szN; split <;> omega
theorem z_c_laws_szLibraryStepS_3 (L : List LibraryStep) (nL : Nat) (hbdL : (nL : Int) ≤ 9223372036854775807) (hleL : nL = L.length) (left : Int) (hp0 : 0 ≤ left) (hp1 : left ≤ 1048576) (h1 : ¬ ((left - (nL : Int)) < 0)) : left - (nL : Int) = szN L.length left := by
  unfold szN; split <;> omega
theorem c_laws_szLibraryStepS (w : World) {AL : Option Addr} {nL cL BL : Nat}  (L : List LibraryStep) (hL : SlR w BL encLibraryStep 4 AL nL cL L) (left : Int) (hp0 : 0 ≤ left) (hp1 : left ≤ 1048576) : Calls Try.prog 42 #[.slice AL nL cL, .int .i64 left] w fun e w' => e = .returned (.int .i64 (szN L.length left)) ∧ Lo w w' := by
  refine calls_W 12 Try.func42 rfl rfl rfl ?_
  have hbdL := hL.bound
  have hleL := hL.len
  have hBbL := hL.bd
  refine W.seq ?_
  refine W.regS (SR.q' (r_as (v := .int .i64 0) rfl) <| SR.nil ?_)
  refine W.seq ?_
  refine W.regS (SR.q' (r_mv (v := .int .i64 _) rfl) <| SR.q' (r_mv (v := .slice _ _ _) rfl) <| SR.q' (r_len und62 rfl) <| SR.q' (r_sub rfl rfl (by omega)) <| SR.q' (r_as (v := .int .i64 _) rfl) <| SR.nil ?_)
  refine W.seq ?_
  refine W.seq ?_
  refine W.regS (SR.q' (r_mv (v := .int .i64 _) rfl) <| SR.q' (r_lt rfl rfl) <| SR.nil ?_)
  refine W.cond_d rfl (fun h1 => ?_) (fun h1 => ?_)
  · refine W.seq ?_
    refine W.regS (SR.q' (r_as (v := .int .i64 (-1)) rfl) <| SR.nil ?_)
    refine W.ret ?_
    refine ret1 rfl (v := .int .i64 _) rfl ?_
    exact ⟨eR (eI (z_c_laws_szLibraryStepS_2 L nL hbdL hleL left hp0 hp1 h1)), (Lo.refl w)⟩
  · refine W.skip ?_
    refine W.seq ?_
    refine W.regS (SR.q' (r_mv (v := .int .i64 _) rfl) <| SR.q' (r_as (v := .int .i64 _) rfl) <| SR.nil ?_)
    refine W.ret ?_
    refine ret1 rfl (v := .int .i64 _) rfl ?_
    exact ⟨eR (eI (z_c_laws_szLibraryStepS_3 L nL hbdL hleL left hp0 hp1 h1)), (Lo.refl w)⟩

theorem z_c_laws_toLibraryStepS_8 (L : List LibraryStep) (nL : Nat) (hbdL : (nL : Int) ≤ 9223372036854775807) (hleL : nL = L.length) (hp0 : (nL : Int) ≤ 1048576) : 0 ≤ nL := by
  omega
theorem z_c_laws_toLibraryStepS_9 (L : List LibraryStep) (nL : Nat) (hbdL : (nL : Int) ≤ 9223372036854775807) (hleL : nL = L.length) (hp0 : (nL : Int) ≤ 1048576) : List.replicate nL (⟨0, 0, 0, 0⟩ : LibraryStep) = L.take 0 ++ List.replicate (nL - 0) (⟨0, 0, 0, 0⟩ : LibraryStep) := by
  exact tk_init
theorem z_c_laws_toLibraryStepS_34 (L : List LibraryStep) (nL : Nat) (hbdL : (nL : Int) ≤ 9223372036854775807) (hleL : nL = L.length) (hp0 : (nL : Int) ≤ 1048576) (k : Nat) (hi16 : k ≤ nL) (h17 : (k : Int) < (nL : Int)) (x18 : LibraryStep) (hx19 : L[k]? = some x18) (x24 : LibraryStep) (hx25 : (L.take k ++ List.replicate (nL - k) (⟨0, 0, 0, 0⟩ : LibraryStep))[k]? = some x24) : (L.take k ++ List.replicate (nL - k) (⟨0, 0, 0, 0⟩ : LibraryStep)).set ((k : Int).toNat) x18 = L.take (k + 1) ++ List.replicate (nL - (k + 1)) (⟨0, 0, 0, 0⟩ : LibraryStep) := by
  exact tk_set (by assumption) hleL
theorem z_c_laws_toLibraryStepS_35 (L : List LibraryStep) (nL : Nat) (hbdL : (nL : Int) ≤ 9223372036854775807) (hleL : nL = L.length) (hp0 : (nL : Int) ≤ 1048576) (k : Nat) (hi16 : k ≤ nL) (h17 : (k : Int) < (nL : Int)) (x18 : LibraryStep) (hx19 : L[k]? = some x18) (x24 : LibraryStep) (hx25 : (L.take k ++ List.replicate (nL - k) (⟨0, 0, 0, 0⟩ : LibraryStep))[k]? = some x24) : k + 1 ≤ nL := by
  omega
theorem z_c_laws_toLibraryStepS_36 (L : List LibraryStep) (nL : Nat) (hbdL : (nL : Int) ≤ 9223372036854775807) (hleL : nL = L.length) (hp0 : (nL : Int) ≤ 1048576) (k : Nat) (hi16 : k ≤ nL) (h17 : (k : Int) < (nL : Int)) (x18 : LibraryStep) (hx19 : L[k]? = some x18) (x24 : LibraryStep) (hx25 : (L.take k ++ List.replicate (nL - k) (⟨0, 0, 0, 0⟩ : LibraryStep))[k]? = some x24) : nL - (k + 1) < nL - k := by
  omega
theorem z_c_laws_toLibraryStepS_37 (L : List LibraryStep) (nL : Nat) (hbdL : (nL : Int) ≤ 9223372036854775807) (hleL : nL = L.length) (hp0 : (nL : Int) ≤ 1048576) (k : Nat) (hi16 : k ≤ nL) (h17 : ¬ ((k : Int) < (nL : Int))) : L.take k ++ List.replicate (nL - k) (⟨0, 0, 0, 0⟩ : LibraryStep) = L := by
  exact tk_end hleL (by assumption) (by omega)
theorem c_laws_toLibraryStepS (w : World) {AL : Option Addr} {nL cL BL : Nat}  (L : List LibraryStep) (hL : SlR w BL encLibraryStep 4 AL nL cL L) (hp0 : (nL : Int) ≤ 1048576) : Calls Try.prog 43 #[.slice AL nL cL] w fun e w' => ∃ (A1' : Option Addr) (n1' c1' : Nat), e = .returned (.slice A1' n1' c1') ∧ SlO w' w.heap.size encLibraryStep 4 49 A1' n1' c1' L ∧ Lo w w' := by
  refine calls_W 23 Try.func43 rfl rfl rfl ?_
  have hbdL := hL.bound
  have hleL := hL.len
  have hBbL := hL.bd
  refine W.seq ?_
  refine W.regS (SR.q' (r_as (v := .slice none 0 0) rfl) <| SR.nil ?_)
  refine W.seq ?_
  refine W.regS (SR.q' (r_mv (v := .slice _ _ _) rfl) <| SR.q' (r_len und62 rfl) <| SR.make (m := nL) (zx := (⟨0, 0, 0, 0⟩ : LibraryStep)) (enc := encLibraryStep) tel57 rfl (fun _ => rfl) rfl rfl (by omega) (by omega) ?_)
  intro g1 w2 hg3 hk4 hO5
  have hz6 := hk4.size
  have hB7 := (Lo.refl w).lo hk4
  refine SR.q' (r_as (v := .slice _ _ _) rfl) <| SR.nil ?_
  refine W.seq ?_
  refine W.seq ?_
  refine W.regS (SR.q' (r_as (v := .int .i64 0) rfl) <| SR.nil ?_)
  refine W.block ?_
  refine W.loop (σ := Nat) (fun g => [(0, .slice AL nL cL), (2, .slice none 0 0), (3, .slice (some (⟨g1, 0, none⟩ : Addr)) nL nL), (4, .int .i64 (g : Int))]) (fun g w' => (Lo w w') ∧ (SlR w' BL encLibraryStep 4 AL nL cL L) ∧ (SlO w' w.heap.size encLibraryStep 4 49 (some (⟨g1, 0, none⟩ : Addr)) nL nL (L.take g ++ List.replicate (nL - g) (⟨0, 0, 0, 0⟩ : LibraryStep))) ∧ (g ≤ nL)) (fun g => nL - g) 0 ?_ ?_ ?_
  · exact ⟨rfl, rfl, rfl, rfl, trivial⟩
  · exact ⟨hB7, (hL).lo hk4, (SlO.eqv (hO5) (z_c_laws_toLibraryStepS_9 L nL hbdL hleL hp0)), (z_c_laws_toLibraryStepS_8 L nL hbdL hleL hp0)⟩
  · rintro k f10 w11 hP13
    obtain ⟨hB12, hm14, hm15, hi16⟩ : (Lo w w11) ∧ (SlR w11 BL encLibraryStep 4 AL nL cL L) ∧ (SlO w11 w.heap.size encLibraryStep 4 49 (some (⟨g1, 0, none⟩ : Addr)) nL nL (L.take k ++ List.replicate (nL - k) (⟨0, 0, 0, 0⟩ : LibraryStep))) ∧ (k ≤ nL) := hP13
    refine (?_ : W _ _ _ _ _ (act _ (sets f10 [(0, .slice AL nL cL), (2, .slice none 0 0), (3, .slice (some (⟨g1, 0, none⟩ : Addr)) nL nL), (4, .int .i64 (k : Int))])) _)
    have hzw11 := hB12.size
    refine W.seq ?_
    refine W.seq ?_
    refine W.regS (SR.q' (r_mv (v := .int .i64 _) rfl) <| SR.q' (r_mv (v := .slice _ _ _) rfl) <| SR.q' (r_len und62 rfl) <| SR.q' (r_lt rfl rfl) <| SR.nil ?_)
    refine W.cond_d rfl (fun h17 => ?_) (fun h17 => ?_)
    · refine W.skip ?_
      refine W.seq ?_
      refine W.block ?_
      refine W.regS (SR.q' (r_mv (v := .slice _ _ _) rfl) <| SR.q' (r_mv (v := .int .i64 _) rfl) <| SR.q' (r_mv (v := .slice _ _ _) rfl) <| SR.q' (r_mv (v := .int .i64 _) rfl) <| ?_)
      obtain ⟨x18, hx19⟩ := (hm14).get (i := k) (by omega)
      refine SR.q' (r_ixR tsl62 (hm14) rfl rfl (by omega)) <| SR.q' (r_lda (l := encLibraryStep x18) agg46 rfl (fun _ _ hu => (hm14).cell hx19 hu) ((hm14).esz _)) <| SR.call ent32 (c_laws_toLibraryStep w11 x18) rfl ?_
      rintro e w20 ⟨rfl, hk21⟩
      refine ⟨_, rfl, ?_⟩
      have hz22 := hk21.size
      have hB23 := hB12.lo hk21
      obtain ⟨x24, hx25⟩ := (((hm15).lo hk21).rd).get (i := k) (by omega)
      refine SR.q' (r_ixR tsl57 (((hm15).lo hk21).rd) rfl rfl (by omega)) <| SR.storeO (o := 0) (vs := [.int .i64 x18.Kind, .int .i64 x18.Id, .int .i64 x18.Reader, .int .i64 x18.Value]) (x1 := x18) agg49.2 rfl rfl rfl rfl ((hm15).lo hk21) hx25 rfl (Nat.le_of_ble_eq_true rfl) rfl ?_
      intro w26 hk27 hs28 hO29
      have hz30 := hk27.size
      have hB31 := hB23.step hk27 (fun i_ hi_ e' => by have := (((hm15).lo hk21)).base_le e'; first | omega | (exfalso; omega) | exact e' | exact .inl e' | exact .inr e')
      have hx32 : ((L.take k ++ List.replicate (nL - k) (⟨0, 0, 0, 0⟩ : LibraryStep)).set ((k : Int).toNat) x18)[(k : Int).toNat]? = some (x18) := List.getElem?_set_self (List.getElem?_eq_some_iff.1 hx25).1
      refine SR.nil ?_
      have hm33 := ((hm14).lo hk21).kp hk27 (fun b_ hb e' => by have := (((hm15).lo hk21)).base_le e'; omega)
      refine W.regS (SR.q' (r_mv (v := .int .i64 _) rfl) <| SR.q' (r_add rfl rfl (by omega)) <| SR.q' (r_as (v := .int .i64 _) rfl) <| SR.nil ?_)
      refine ⟨k + 1, _, rfl, ⟨rfl, rfl, rfl, rfl, trivial⟩, ⟨hB31, hm33, (SlO.eqv (hO29) (z_c_laws_toLibraryStepS_34 L nL hbdL hleL hp0 k hi16 h17 x18 hx19 x24 hx25)), ?_⟩, ?_⟩
      · exact (z_c_laws_toLibraryStepS_35 L nL hbdL hleL hp0 k hi16 h17 x18 hx19 x24 hx25)
      · exact (z_c_laws_toLibraryStepS_36 L nL hbdL hleL hp0 k hi16 h17 x18 hx19 x24 hx25)
    · refine W.exit (xin_here ?_)
      refine W.seq ?_
      refine W.regS (SR.q' (r_mv (v := .slice _ _ _) rfl) <| SR.q' (r_as (v := .slice _ _ _) rfl) <| SR.nil ?_)
      refine W.ret ?_
      refine ret1 rfl (v := .slice _ _ _) rfl ?_
      exact ⟨(some (⟨g1, 0, none⟩ : Addr)), nL, nL, eR rfl, (SlO.eqv ((hm15).down (by omega)) (z_c_laws_toLibraryStepS_37 L nL hbdL hleL hp0 k hi16 h17)), hB12⟩

theorem z_c_laws_eqLibraryStep_18 (a : LibraryStep) (b : LibraryStep) (h17 : ¬ (a.Kind = b.Kind)) : ¬ (a = b) := by
  cases a; cases b; simp_all
theorem z_c_laws_eqLibraryStep_20 (a : LibraryStep) (b : LibraryStep) (h17 : a.Kind = b.Kind) (h19 : ¬ (a.Id = b.Id)) : ¬ (a = b) := by
  cases a; cases b; simp_all
theorem z_c_laws_eqLibraryStep_22 (a : LibraryStep) (b : LibraryStep) (h17 : a.Kind = b.Kind) (h19 : a.Id = b.Id) (h21 : ¬ (a.Reader = b.Reader)) : ¬ (a = b) := by
  cases a; cases b; simp_all
theorem z_c_laws_eqLibraryStep_24 (a : LibraryStep) (b : LibraryStep) (h17 : a.Kind = b.Kind) (h19 : a.Id = b.Id) (h21 : a.Reader = b.Reader) (h23 : ¬ (a.Value = b.Value)) : ¬ (a = b) := by
  cases a; cases b; simp_all
theorem z_c_laws_eqLibraryStep_25 (a : LibraryStep) (b : LibraryStep) (h17 : a.Kind = b.Kind) (h19 : a.Id = b.Id) (h21 : a.Reader = b.Reader) (h23 : a.Value = b.Value) : a = b := by
  cases a; cases b; simp_all
theorem c_laws_eqLibraryStep (w : World) (a : LibraryStep) (b : LibraryStep) : Calls Try.prog 80 #[.agg (List.toArray (encLibraryStep a)), .agg (List.toArray (encLibraryStep b))] w fun e w' => e = .returned (.bool (decide (a = b))) ∧ Lo w w' := by
  refine calls_W 25 Try.func80 rfl rfl rfl ?_
  refine W.seq ?_
  refine W.regS (SR.box (v := .agg (List.toArray _)) (l := [.int .i64 a.Kind, .int .i64 a.Id, .int .i64 a.Reader, .int .i64 a.Value]) rfl rfl ?_)
  intro g1 w2 hg3 hk4 hs5 hb6
  have hz7 := hk4.size
  have hB8 := (Lo.refl w).lo hk4
  refine SR.box (v := .agg (List.toArray _)) (l := [.int .i64 b.Kind, .int .i64 b.Id, .int .i64 b.Reader, .int .i64 b.Value]) rfl rfl ?_
  intro g9 w10 hg11 hk12 hs13 hb14
  have hz15 := hk12.size
  have hB16 := hB8.lo hk12
  refine SR.q' (r_as (v := .bool false) rfl) <| SR.nil ?_
  refine W.seq ?_
  refine W.seq ?_
  refine W.regS (SR.q' (r_fa fa49_0 rfl) <| SR.q' (r_ld (v := .int .i64 a.Kind) sca3 rfl (((hb6).lo hk12).cell rfl)) <| SR.q' (r_fa fa49_0 rfl) <| SR.q' (r_ld (v := .int .i64 b.Kind) sca3 rfl ((hb14).cell rfl)) <| SR.q' (r_ne rfl rfl) <| SR.nil ?_)
  refine W.cond_n rfl (fun h17 => ?_) (fun h17 => ?_)
  · refine W.seq ?_
    refine W.regS (SR.q' (r_as (v := .bool false) rfl) <| SR.nil ?_)
    refine W.ret ?_
    refine ret1 rfl (v := .bool _) rfl ?_
    exact ⟨eR (eDF (z_c_laws_eqLibraryStep_18 a b h17)), hB16⟩
  · refine W.skip ?_
    refine W.seq ?_
    refine W.seq ?_
    refine W.regS (SR.q' (r_fa fa49_1 rfl) <| SR.q' (r_ld (v := .int .i64 a.Id) sca3 rfl (((hb6).lo hk12).cell rfl)) <| SR.q' (r_fa fa49_1 rfl) <| SR.q' (r_ld (v := .int .i64 b.Id) sca3 rfl ((hb14).cell rfl)) <| SR.q' (r_ne rfl rfl) <| SR.nil ?_)
    refine W.cond_n rfl (fun h19 => ?_) (fun h19 => ?_)
    · refine W.seq ?_
      refine W.regS (SR.q' (r_as (v := .bool false) rfl) <| SR.nil ?_)
      refine W.ret ?_
      refine ret1 rfl (v := .bool _) rfl ?_
      exact ⟨eR (eDF (z_c_laws_eqLibraryStep_20 a b h17 h19)), hB16⟩
    · refine W.skip ?_
      refine W.seq ?_
      refine W.seq ?_
      refine W.regS (SR.q' (r_fa fa49_2 rfl) <| SR.q' (r_ld (v := .int .i64 a.Reader) sca3 rfl (((hb6).lo hk12).cell rfl)) <| SR.q' (r_fa fa49_2 rfl) <| SR.q' (r_ld (v := .int .i64 b.Reader) sca3 rfl ((hb14).cell rfl)) <| SR.q' (r_ne rfl rfl) <| SR.nil ?_)
      refine W.cond_n rfl (fun h21 => ?_) (fun h21 => ?_)
      · refine W.seq ?_
        refine W.regS (SR.q' (r_as (v := .bool false) rfl) <| SR.nil ?_)
        refine W.ret ?_
        refine ret1 rfl (v := .bool _) rfl ?_
        exact ⟨eR (eDF (z_c_laws_eqLibraryStep_22 a b h17 h19 h21)), hB16⟩
      · refine W.skip ?_
        refine W.seq ?_
        refine W.seq ?_
        refine W.regS (SR.q' (r_fa fa49_3 rfl) <| SR.q' (r_ld (v := .int .i64 a.Value) sca3 rfl (((hb6).lo hk12).cell rfl)) <| SR.q' (r_fa fa49_3 rfl) <| SR.q' (r_ld (v := .int .i64 b.Value) sca3 rfl ((hb14).cell rfl)) <| SR.q' (r_ne rfl rfl) <| SR.nil ?_)
        refine W.cond_n rfl (fun h23 => ?_) (fun h23 => ?_)
        · refine W.seq ?_
          refine W.regS (SR.q' (r_as (v := .bool false) rfl) <| SR.nil ?_)
          refine W.ret ?_
          refine ret1 rfl (v := .bool _) rfl ?_
          exact ⟨eR (eDF (z_c_laws_eqLibraryStep_24 a b h17 h19 h21 h23)), hB16⟩
        · refine W.skip ?_
          refine W.seq ?_
          refine W.regS (SR.q' (r_as (v := .bool true) rfl) <| SR.nil ?_)
          refine W.ret ?_
          refine ret1 rfl (v := .bool _) rfl ?_
          exact ⟨eR (eDT (z_c_laws_eqLibraryStep_25 a b h17 h19 h21 h23)), hB16⟩

theorem z_c_laws_eqLibraryStepS_2 (L : List LibraryStep) (nL : Nat) (hbdL : (nL : Int) ≤ 9223372036854775807) (hleL : nL = L.length) (M : List LibraryStep) (nM : Nat) (hbdM : (nM : Int) ≤ 9223372036854775807) (hleM : nM = M.length) (h1 : ¬ ((nL : Int) = (nM : Int))) : ¬ (L = M) := by
  first | (intro e; subst e; omega) | exact ne_at ‹L[_]? = some _› ‹M[_]? = some _› ‹_› | exact take_end (And.right ‹_ ∧ L.take _ = M.take _›) hleL hleM (by omega) ‹_›
theorem z_c_laws_eqLibraryStepS_3 (L : List LibraryStep) (nL : Nat) (hbdL : (nL : Int) ≤ 9223372036854775807) (hleL : nL = L.length) (M : List LibraryStep) (nM : Nat) (hbdM : (nM : Int) ≤ 9223372036854775807) (hleM : nM = M.length) (h1 : (nL : Int) = (nM : Int)) : 0 ≤ nL ∧ L.take 0 = M.take 0 := by
  simp
theorem z_c_laws_eqLibraryStepS_21 (L : List LibraryStep) (nL : Nat) (hbdL : (nL : Int) ≤ 9223372036854775807) (hleL : nL = L.length) (M : List LibraryStep) (nM : Nat) (hbdM : (nM : Int) ≤ 9223372036854775807) (hleM : nM = M.length) (h1 : (nL : Int) = (nM : Int)) (k : Nat) (hi10 : k ≤ nL ∧ L.take k = M.take k) (h11 : (k : Int) < (nL : Int)) (x12 : LibraryStep) (hx13 : L[k]? = some x12) (x14 : LibraryStep) (hx15 : M[k]? = some x14) (h20 : ¬ (x12 = x14)) : ¬ (L = M) := by
  first | (intro e; subst e; omega) | exact ne_at ‹L[_]? = some _› ‹M[_]? = some _› ‹_› | exact take_end (And.right ‹_ ∧ L.take _ = M.take _›) hleL hleM (by omega) ‹_›
theorem z_c_laws_eqLibraryStepS_22 (L : List LibraryStep) (nL : Nat) (hbdL : (nL : Int) ≤ 9223372036854775807) (hleL : nL = L.length) (M : List LibraryStep) (nM : Nat) (hbdM : (nM : Int) ≤ 9223372036854775807) (hleM : nM = M.length) (h1 : (nL : Int) = (nM : Int)) (k : Nat) (hi10 : k ≤ nL ∧ L.take k = M.take k) (h11 : (k : Int) < (nL : Int)) (x12 : LibraryStep) (hx13 : L[k]? = some x12) (x14 : LibraryStep) (hx15 : M[k]? = some x14) (h20 : x12 = x14) : k + 1 ≤ nL ∧ L.take (k + 1) = M.take (k + 1) := by
  exact ⟨by omega, take_next (And.right ‹_ ∧ L.take _ = M.take _›) ‹L[_]? = some _› ‹M[_]? = some _› ‹_›⟩
theorem z_c_laws_eqLibraryStepS_23 (L : List LibraryStep) (nL : Nat) (hbdL : (nL : Int) ≤ 9223372036854775807) (hleL : nL = L.length) (M : List LibraryStep) (nM : Nat) (hbdM : (nM : Int) ≤ 9223372036854775807) (hleM : nM = M.length) (h1 : (nL : Int) = (nM : Int)) (k : Nat) (hi10 : k ≤ nL ∧ L.take k = M.take k) (h11 : (k : Int) < (nL : Int)) (x12 : LibraryStep) (hx13 : L[k]? = some x12) (x14 : LibraryStep) (hx15 : M[k]? = some x14) (h20 : x12 = x14) : nL - (k + 1) < nL - k := by
  omega
theorem z_c_laws_eqLibraryStepS_24 (L : List LibraryStep) (nL : Nat) (hbdL : (nL : Int) ≤ 9223372036854775807) (hleL : nL = L.length) (M : List LibraryStep) (nM : Nat) (hbdM : (nM : Int) ≤ 9223372036854775807) (hleM : nM = M.length) (h1 : (nL : Int) = (nM : Int)) (k : Nat) (hi10 : k ≤ nL ∧ L.take k = M.take k) (h11 : ¬ ((k : Int) < (nL : Int))) : L = M := by
  first | (intro e; subst e; omega) | exact ne_at ‹L[_]? = some _› ‹M[_]? = some _› ‹_› | exact take_end (And.right ‹_ ∧ L.take _ = M.take _›) hleL hleM (by omega) ‹_›
theorem c_laws_eqLibraryStepS (w : World) {AL : Option Addr} {nL cL BL : Nat}  (L : List LibraryStep) (hL : SlR w BL encLibraryStep 4 AL nL cL L) {AM : Option Addr} {nM cM BM : Nat}  (M : List LibraryStep) (hM : SlR w BM encLibraryStep 4 AM nM cM M) : Calls Try.prog 44 #[.slice AL nL cL, .slice AM nM cM] w fun e w' => e = .returned (.bool (decide (L = M))) ∧ Lo w w' := by
  refine calls_W 27 Try.func44 rfl rfl rfl ?_
  have hbdL := hL.bound
  have hleL := hL.len
  have hBbL := hL.bd
  have hbdM := hM.bound
  have hleM := hM.len
  have hBbM := hM.bd
  refine W.seq ?_
  refine W.regS (SR.q' (r_as (v := .bool false) rfl) <| SR.nil ?_)
  refine W.seq ?_
  refine W.seq ?_
  refine W.regS (SR.q' (r_mv (v := .slice _ _ _) rfl) <| SR.q' (r_len und57 rfl) <| SR.q' (r_mv (v := .slice _ _ _) rfl) <| SR.q' (r_len und57 rfl) <| SR.q' (r_ne rfl rfl) <| SR.nil ?_)
  refine W.cond_n rfl (fun h1 => ?_) (fun h1 => ?_)
  · refine W.seq ?_
    refine W.regS (SR.q' (r_as (v := .bool false) rfl) <| SR.nil ?_)
    refine W.ret ?_
    refine ret1 rfl (v := .bool _) rfl ?_
    exact ⟨eR (eDF (z_c_laws_eqLibraryStepS_2 L nL hbdL hleL M nM hbdM hleM h1)), (Lo.refl w)⟩
  · refine W.skip ?_
    refine W.seq ?_
    refine W.seq ?_
    refine W.regS (SR.q' (r_as (v := .int .i64 0) rfl) <| SR.nil ?_)
    refine W.block ?_
    refine W.loop (σ := Nat) (fun g => [(0, .slice AL nL cL), (1, .slice AM nM cM), (5, .int .i64 (g : Int))]) (fun g w' => (Lo w w') ∧ (SlR w' BL encLibraryStep 4 AL nL cL L) ∧ (SlR w' BM encLibraryStep 4 AM nM cM M) ∧ (g ≤ nL ∧ L.take g = M.take g)) (fun g => nL - g) 0 ?_ ?_ ?_
    · exact ⟨rfl, rfl, rfl, trivial⟩
    · exact ⟨(Lo.refl w), hL, hM, (z_c_laws_eqLibraryStepS_3 L nL hbdL hleL M nM hbdM hleM h1)⟩
    · rintro k f4 w5 hP7
      obtain ⟨hB6, hm8, hm9, hi10⟩ : (Lo w w5) ∧ (SlR w5 BL encLibraryStep 4 AL nL cL L) ∧ (SlR w5 BM encLibraryStep 4 AM nM cM M) ∧ (k ≤ nL ∧ L.take k = M.take k) := hP7
      refine (?_ : W _ _ _ _ _ (act _ (sets f4 [(0, .slice AL nL cL), (1, .slice AM nM cM), (5, .int .i64 (k : Int))])) _)
      have hzw5 := hB6.size
      refine W.seq ?_
      refine W.seq ?_
      refine W.regS (SR.q' (r_mv (v := .int .i64 _) rfl) <| SR.q' (r_mv (v := .slice _ _ _) rfl) <| SR.q' (r_len und57 rfl) <| SR.q' (r_lt rfl rfl) <| SR.nil ?_)
      refine W.cond_d rfl (fun h11 => ?_) (fun h11 => ?_)
      · refine W.skip ?_
        refine W.seq ?_
        refine W.block ?_
        refine W.seq ?_
        refine W.regD mo (by kernel_rfl) (QR.q' (fun w' hw' => r_mv (v := .slice _ _ _) rfl) <| QR.q' (fun w' hw' => r_mv (v := .int .i64 _) rfl) <| ?_)
        obtain ⟨x12, hx13⟩ := (hm8).get (i := k) (by omega)
        refine QR.q' (fun w' hw' => r_ixR tsl57 (((hm8).lo hw')) rfl rfl (by omega)) <| QR.q' (fun w' hw' => r_lda (l := encLibraryStep x12) agg49 rfl (fun _ _ hu => (((hm8).lo hw')).cell hx13 hu) ((((hm8).lo hw')).esz _)) <| QR.q' (fun w' hw' => r_mv (v := .slice _ _ _) rfl) <| QR.q' (fun w' hw' => r_mv (v := .int .i64 _) rfl) <| ?_
        obtain ⟨x14, hx15⟩ := (hm9).get (i := k) (by omega)
        refine QR.q' (fun w' hw' => r_ixR tsl57 (((hm9).lo hw')) rfl rfl (by omega)) <| QR.q' (fun w' hw' => r_lda (l := encLibraryStep x14) agg49 rfl (fun _ _ hu => (((hm9).lo hw')).cell hx15 hu) ((((hm9).lo hw')).esz _)) <| QR.call ent80 (fun w' hw' => (c_laws_eqLibraryStep w' x12 x14).mono fun _ _ h => ⟨h.1, hw'.trans h.2⟩) rfl <| QR.q' (fun w' hw' => r_not rfl) <| QR.nil ?_
        intro w16 hk17
        have hz18 := hk17.size
        have hB19 := hB6.lo hk17
        refine W.cond_n rfl (fun h20 => ?_) (fun h20 => ?_)
        · refine W.seq ?_
          refine W.regS (SR.q' (r_as (v := .bool false) rfl) <| SR.nil ?_)
          refine W.ret ?_
          refine ret1 rfl (v := .bool _) rfl ?_
          exact ⟨eR (eDF (z_c_laws_eqLibraryStepS_21 L nL hbdL hleL M nM hbdM hleM h1 k hi10 h11 x12 hx13 x14 hx15 h20)), hB19⟩
        · refine W.skip ?_
          refine W.regS (SR.q' (r_mv (v := .int .i64 _) rfl) <| SR.q' (r_add rfl rfl (by omega)) <| SR.q' (r_as (v := .int .i64 _) rfl) <| SR.nil ?_)
          refine ⟨k + 1, _, rfl, ⟨rfl, rfl, rfl, trivial⟩, ⟨hB19, (hm8).lo hk17, (hm9).lo hk17, ?_⟩, ?_⟩
          · exact (z_c_laws_eqLibraryStepS_22 L nL hbdL hleL M nM hbdM hleM h1 k hi10 h11 x12 hx13 x14 hx15 h20)
          · exact (z_c_laws_eqLibraryStepS_23 L nL hbdL hleL M nM hbdM hleM h1 k hi10 h11 x12 hx13 x14 hx15 h20)
      · refine W.exit (xin_here ?_)
        refine W.seq ?_
        refine W.regS (SR.q' (r_as (v := .bool true) rfl) <| SR.nil ?_)
        refine W.ret ?_
        refine ret1 rfl (v := .bool _) rfl ?_
        exact ⟨eR (eDT (z_c_laws_eqLibraryStepS_24 L nL hbdL hleL M nM hbdM hleM h1 k hi10 h11)), hB6⟩

theorem z_c_laws_markLibraryStepS_1 (L : List LibraryStep) (nL : Nat) (hbdL : (nL : Int) ≤ 9223372036854775807) (hleL : nL = L.length) (k : Int) (hp0 : 0 ≤ k) (hp1 : k ≤ 1000000000) (hp2 : (nL : Int) ≤ 1048576) : 0 ≤ nL := by
  omega
theorem z_c_laws_markLibraryStepS_2 (L : List LibraryStep) (nL : Nat) (hbdL : (nL : Int) ≤ 9223372036854775807) (hleL : nL = L.length) (k : Int) (hp0 : 0 ≤ k) (hp1 : k ≤ 1000000000) (hp2 : (nL : Int) ≤ 1048576) : L = mkL mkLibraryStep 4 0 k ++ L.drop 0 := by
  exact mkL_init
theorem z_c_laws_markLibraryStepS_40 (L : List LibraryStep) (nL : Nat) (hbdL : (nL : Int) ≤ 9223372036854775807) (hleL : nL = L.length) (k : Int) (hp0 : 0 ≤ k) (hp1 : k ≤ 1000000000) (hp2 : (nL : Int) ≤ 1048576) (i : Nat) (hi8 : i ≤ nL) (h9 : (i : Int) < (nL : Int)) (x10 : LibraryStep) (hx11 : (mkL mkLibraryStep 4 i k ++ L.drop i)[i]? = some x10) : (mkL mkLibraryStep 4 i k ++ L.drop i).set ((i : Int).toNat) ({ ({ ({ ({ x10 with Kind := k + 4 * (i : Int) }) with Id := (k + 4 * (i : Int)) + 1 }) with Reader := ((k + 4 * (i : Int)) + 1) + 1 }) with Value := (((k + 4 * (i : Int)) + 1) + 1) + 1 }) = mkL mkLibraryStep 4 (i + 1) k ++ L.drop (i + 1) := by
  exact mkL_set (by omega) (by first | (simp [mkLibraryStep]; done) | (simp [mkLibraryStep]; omega))
theorem z_c_laws_markLibraryStepS_41 (L : List LibraryStep) (nL : Nat) (hbdL : (nL : Int) ≤ 9223372036854775807) (hleL : nL = L.length) (k : Int) (hp0 : 0 ≤ k) (hp1 : k ≤ 1000000000) (hp2 : (nL : Int) ≤ 1048576) (i : Nat) (hi8 : i ≤ nL) (h9 : (i : Int) < (nL : Int)) (x10 : LibraryStep) (hx11 : (mkL mkLibraryStep 4 i k ++ L.drop i)[i]? = some x10) : i + 1 ≤ nL := by
  omega
theorem z_c_laws_markLibraryStepS_42 (L : List LibraryStep) (nL : Nat) (hbdL : (nL : Int) ≤ 9223372036854775807) (hleL : nL = L.length) (k : Int) (hp0 : 0 ≤ k) (hp1 : k ≤ 1000000000) (hp2 : (nL : Int) ≤ 1048576) (i : Nat) (hi8 : i ≤ nL) (h9 : (i : Int) < (nL : Int)) (x10 : LibraryStep) (hx11 : (mkL mkLibraryStep 4 i k ++ L.drop i)[i]? = some x10) : nL - (i + 1) < nL - i := by
  omega
theorem z_c_laws_markLibraryStepS_43 (L : List LibraryStep) (nL : Nat) (hbdL : (nL : Int) ≤ 9223372036854775807) (hleL : nL = L.length) (k : Int) (hp0 : 0 ≤ k) (hp1 : k ≤ 1000000000) (hp2 : (nL : Int) ≤ 1048576) (i : Nat) (hi8 : i ≤ nL) (h9 : ¬ ((i : Int) < (nL : Int))) : k + 4 * (i : Int) = k + 4 * (L.length : Int) := by
  first | omega | exact mkL_end hleL (by assumption) (by omega)
theorem z_c_laws_markLibraryStepS_44 (L : List LibraryStep) (nL : Nat) (hbdL : (nL : Int) ≤ 9223372036854775807) (hleL : nL = L.length) (k : Int) (hp0 : 0 ≤ k) (hp1 : k ≤ 1000000000) (hp2 : (nL : Int) ≤ 1048576) (i : Nat) (hi8 : i ≤ nL) (h9 : ¬ ((i : Int) < (nL : Int))) : mkL mkLibraryStep 4 i k ++ L.drop i = mkL mkLibraryStep 4 L.length k := by
  first | omega | exact mkL_end hleL (by assumption) (by omega)
theorem c_laws_markLibraryStepS (w : World) {AL : Option Addr} {nL cL BL : Nat}  (L : List LibraryStep) (hL : SlO w BL encLibraryStep 4 49 AL nL cL L) (k : Int) (hp0 : 0 ≤ k) (hp1 : k ≤ 1000000000) (hp2 : (nL : Int) ≤ 1048576) : Calls Try.prog 45 #[.slice AL nL cL, .int .i64 k] w fun e w' => e = .returned (.int .i64 (k + 4 * (L.length : Int))) ∧ SlO w' BL encLibraryStep 4 49 AL nL cL (mkL mkLibraryStep 4 L.length k) ∧ Kp (fun b_ => AL = some ⟨b_, 0, none⟩) w w' := by
  refine calls_W 41 Try.func45 rfl rfl rfl ?_
  have hbdL := hL.rd.bound
  have hleL := hL.len
  have hBbL := hL.bd
  refine W.seq ?_
  refine W.regS (SR.q' (r_as (v := .int .i64 0) rfl) <| SR.nil ?_)
  refine W.seq ?_
  refine W.seq ?_
  refine W.regS (SR.q' (r_as (v := .int .i64 0) rfl) <| SR.nil ?_)
  refine W.block ?_
  refine W.loop (σ := Nat) (fun g => [(0, .slice AL nL cL), (1, .int .i64 (k + 4 * (g : Int))), (4, .int .i64 0), (5, .int .i64 (g : Int))]) (fun g w' => (Kp (fun b_ => AL = some ⟨b_, 0, none⟩) w w') ∧ (SlO w' BL encLibraryStep 4 49 AL nL cL (mkL mkLibraryStep 4 g k ++ L.drop g)) ∧ (g ≤ nL)) (fun g => nL - g) 0 ?_ ?_ ?_
  · exact ⟨rfl, (eI (by first | omega | (dsimp only; omega))), rfl, (eI (by first | omega | (dsimp only; omega))), trivial⟩
  · exact ⟨(Kp.refl w : Kp (fun b_ => AL = some ⟨b_, 0, none⟩) w w), (SlO.eqv (hL) (z_c_laws_markLibraryStepS_2 L nL hbdL hleL k hp0 hp1 hp2)), (z_c_laws_markLibraryStepS_1 L nL hbdL hleL k hp0 hp1 hp2)⟩
  · rintro i f3 w4 hP6
    obtain ⟨hB5, hm7, hi8⟩ : (Kp (fun b_ => AL = some ⟨b_, 0, none⟩) w w4) ∧ (SlO w4 BL encLibraryStep 4 49 AL nL cL (mkL mkLibraryStep 4 i k ++ L.drop i)) ∧ (i ≤ nL) := hP6
    refine (?_ : W _ _ _ _ _ (act _ (sets f3 [(0, .slice AL nL cL), (1, .int .i64 (k + 4 * (i : Int))), (4, .int .i64 0), (5, .int .i64 (i : Int))])) _)
    have hzw4 := hB5.size
    refine W.seq ?_
    refine W.seq ?_
    refine W.regS (SR.q' (r_mv (v := .int .i64 _) rfl) <| SR.q' (r_mv (v := .slice _ _ _) rfl) <| SR.q' (r_len und57 rfl) <| SR.q' (r_lt rfl rfl) <| SR.nil ?_)
    refine W.cond_d rfl (fun h9 => ?_) (fun h9 => ?_)
    · refine W.skip ?_
      refine W.seq ?_
      refine W.block ?_
      refine W.seq ?_
      refine W.regS (SR.q' (r_mv (v := .slice _ _ _) rfl) <| SR.q' (r_mv (v := .int .i64 _) rfl) <| SR.q' (r_mv (v := .int .i64 _) rfl) <| ?_)
      obtain ⟨x10, hx11⟩ := ((hm7).rd).get (i := i) (by omega)
      refine SR.q' (r_ixR tsl57 ((hm7).rd) rfl rfl (by omega)) <| SR.q' (r_fa fa49_0 rfl) <| SR.storeO (o := 0) (vs := [.int .i64 (k + 4 * (i : Int))]) (x1 := { x10 with Kind := k + 4 * (i : Int) }) sca3.2 rfl (add_add _ _ _) rfl rfl (hm7) hx11 rfl (Nat.le_of_ble_eq_true rfl) rfl ?_
      intro w12 hk13 hs14 hO15
      have hz16 := hk13.size
      have hB17 := hB5.step hk13 (fun i_ hi_ e' => by have := ((hm7)).base_le e'; first | omega | (exfalso; omega) | exact e' | exact .inl e' | exact .inr e')
      have hx18 : ((mkL mkLibraryStep 4 i k ++ L.drop i).set ((i : Int).toNat) ({ x10 with Kind := k + 4 * (i : Int) }))[(i : Int).toNat]? = some ({ x10 with Kind := k + 4 * (i : Int) }) := List.getElem?_set_self (List.getElem?_eq_some_iff.1 hx11).1
      refine SR.nil ?_
      refine W.seq ?_
      refine W.regS (SR.q' (r_mv (v := .int .i64 _) rfl) <| SR.q' (r_add rfl rfl (by omega)) <| SR.q' (r_as (v := .int .i64 _) rfl) <| SR.nil ?_)
      refine W.seq ?_
      refine W.regS (SR.q' (r_mv (v := .slice _ _ _) rfl) <| SR.q' (r_mv (v := .int .i64 _) rfl) <| SR.q' (r_mv (v := .int .i64 _) rfl) <| SR.q' (r_ixR tsl57 ((hO15).rd) rfl rfl (by omega)) <| SR.q' (r_fa fa49_1 rfl) <| SR.storeO (o := 1) (vs := [.int .i64 ((k + 4 * (i : Int)) + 1)]) (x1 := { ({ x10 with Kind := k + 4 * (i : Int) }) with Id := (k + 4 * (i : Int)) + 1 }) sca3.2 rfl (add_add _ _ _) rfl rfl (hO15) hx18 rfl (Nat.le_of_ble_eq_true rfl) rfl ?_)
      intro w19 hk20 hs21 hO22
      have hz23 := hk20.size
      have hB24 := hB17.step hk20 (fun i_ hi_ e' => by have := ((hO15)).base_le e'; first | omega | (exfalso; omega) | exact e' | exact .inl e' | exact .inr e')
      rw [List.set_set] at hO22
      have hx25 : ((mkL mkLibraryStep 4 i k ++ L.drop i).set ((i : Int).toNat) ({ ({ x10 with Kind := k + 4 * (i : Int) }) with Id := (k + 4 * (i : Int)) + 1 }))[(i : Int).toNat]? = some ({ ({ x10 with Kind := k + 4 * (i : Int) }) with Id := (k + 4 * (i : Int)) + 1 }) := List.getElem?_set_self (List.getElem?_eq_some_iff.1 hx11).1
      refine SR.nil ?_
      refine W.seq ?_
      refine W.regS (SR.q' (r_mv (v := .int .i64 _) rfl) <| SR.q' (r_add rfl rfl (by omega)) <| SR.q' (r_as (v := .int .i64 _) rfl) <| SR.nil ?_)
      refine W.seq ?_
      refine W.regS (SR.q' (r_mv (v := .slice _ _ _) rfl) <| SR.q' (r_mv (v := .int .i64 _) rfl) <| SR.q' (r_mv (v := .int .i64 _) rfl) <| SR.q' (r_ixR tsl57 ((hO22).rd) rfl rfl (by omega)) <| SR.q' (r_fa fa49_2 rfl) <| SR.storeO (o := 2) (vs := [.int .i64 (((k + 4 * (i : Int)) + 1) + 1)]) (x1 := { ({ ({ x10 with Kind := k + 4 * (i : Int) }) with Id := (k + 4 * (i : Int)) + 1 }) with Reader := ((k + 4 * (i : Int)) + 1) + 1 }) sca3.2 rfl (add_add _ _ _) rfl rfl (hO22) hx25 rfl (Nat.le_of_ble_eq_true rfl) rfl ?_)
      intro w26 hk27 hs28 hO29
      have hz30 := hk27.size
      have hB31 := hB24.step hk27 (fun i_ hi_ e' => by have := ((hO22)).base_le e'; first | omega | (exfalso; omega) | exact e' | exact .inl e' | exact .inr e')
      rw [List.set_set] at hO29
      have hx32 : ((mkL mkLibraryStep 4 i k ++ L.drop i).set ((i : Int).toNat) ({ ({ ({ x10 with Kind := k + 4 * (i : Int) }) with Id := (k + 4 * (i : Int)) + 1 }) with Reader := ((k + 4 * (i : Int)) + 1) + 1 }))[(i : Int).toNat]? = some ({ ({ ({ x10 with Kind := k + 4 * (i : Int) }) with Id := (k + 4 * (i : Int)) + 1 }) with Reader := ((k + 4 * (i : Int)) + 1) + 1 }) := List.getElem?_set_self (List.getElem?_eq_some_iff.1 hx11).1
      refine SR.nil ?_
      refine W.seq ?_
      refine W.regS (SR.q' (r_mv (v := .int .i64 _) rfl) <| SR.q' (r_add rfl rfl (by omega)) <| SR.q' (r_as (v := .int .i64 _) rfl) <| SR.nil ?_)
      refine W.seq ?_
      refine W.regS (SR.q' (r_mv (v := .slice _ _ _) rfl) <| SR.q' (r_mv (v := .int .i64 _) rfl) <| SR.q' (r_mv (v := .int .i64 _) rfl) <| SR.q' (r_ixR tsl57 ((hO29).rd) rfl rfl (by omega)) <| SR.q' (r_fa fa49_3 rfl) <| SR.storeO (o := 3) (vs := [.int .i64 ((((k + 4 * (i : Int)) + 1) + 1) + 1)]) (x1 := { ({ ({ ({ x10 with Kind := k + 4 * (i : Int) }) with Id := (k + 4 * (i : Int)) + 1 }) with Reader := ((k + 4 * (i : Int)) + 1) + 1 }) with Value := (((k + 4 * (i : Int)) + 1) + 1) + 1 }) sca3.2 rfl (add_add _ _ _) rfl rfl (hO29) hx32 rfl (Nat.le_of_ble_eq_true rfl) rfl ?_)
      intro w33 hk34 hs35 hO36
      have hz37 := hk34.size
      have hB38 := hB31.step hk34 (fun i_ hi_ e' => by have := ((hO29)).base_le e'; first | omega | (exfalso; omega) | exact e' | exact .inl e' | exact .inr e')
      rw [List.set_set] at hO36
      have hx39 : ((mkL mkLibraryStep 4 i k ++ L.drop i).set ((i : Int).toNat) ({ ({ ({ ({ x10 with Kind := k + 4 * (i : Int) }) with Id := (k + 4 * (i : Int)) + 1 }) with Reader := ((k + 4 * (i : Int)) + 1) + 1 }) with Value := (((k + 4 * (i : Int)) + 1) + 1) + 1 }))[(i : Int).toNat]? = some ({ ({ ({ ({ x10 with Kind := k + 4 * (i : Int) }) with Id := (k + 4 * (i : Int)) + 1 }) with Reader := ((k + 4 * (i : Int)) + 1) + 1 }) with Value := (((k + 4 * (i : Int)) + 1) + 1) + 1 }) := List.getElem?_set_self (List.getElem?_eq_some_iff.1 hx11).1
      refine SR.nil ?_
      refine W.regS (SR.q' (r_mv (v := .int .i64 _) rfl) <| SR.q' (r_add rfl rfl (by omega)) <| SR.q' (r_as (v := .int .i64 _) rfl) <| SR.nil ?_)
      refine W.regS (SR.q' (r_mv (v := .int .i64 _) rfl) <| SR.q' (r_add rfl rfl (by omega)) <| SR.q' (r_as (v := .int .i64 _) rfl) <| SR.nil ?_)
      refine ⟨i + 1, _, rfl, ⟨rfl, (eI (by first | omega | (dsimp only; omega))), rfl, (eI (by first | omega | (dsimp only; omega))), trivial⟩, ⟨hB38, (SlO.eqv (hO36) (z_c_laws_markLibraryStepS_40 L nL hbdL hleL k hp0 hp1 hp2 i hi8 h9 x10 hx11)), ?_⟩, ?_⟩
      · exact (z_c_laws_markLibraryStepS_41 L nL hbdL hleL k hp0 hp1 hp2 i hi8 h9 x10 hx11)
      · exact (z_c_laws_markLibraryStepS_42 L nL hbdL hleL k hp0 hp1 hp2 i hi8 h9 x10 hx11)
    · refine W.exit (xin_here ?_)
      refine W.seq ?_
      refine W.regS (SR.q' (r_mv (v := .int .i64 _) rfl) <| SR.q' (r_as (v := .int .i64 _) rfl) <| SR.nil ?_)
      refine W.ret ?_
      refine ret1 rfl (v := .int .i64 _) rfl ?_
      exact ⟨eR (eI (z_c_laws_markLibraryStepS_43 L nL hbdL hleL k hp0 hp1 hp2 i hi8 h9)), (SlO.eqv (hm7) (z_c_laws_markLibraryStepS_44 L nL hbdL hleL k hp0 hp1 hp2 i hi8 h9)), hB5⟩
end Go.Proofs.Ytbodnffjgmaloaa
