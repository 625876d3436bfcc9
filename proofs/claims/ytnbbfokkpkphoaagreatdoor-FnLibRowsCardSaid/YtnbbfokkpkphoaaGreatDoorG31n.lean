/- Walks, printed by a program of this claim's author. -/
import Derived.Test.YtnbbfokkpkphoaaGreatDoorChecked
import Derived.Test.YtnbbfokkpkphoaaGreatDoorLa
import Derived.Test.YtnbbfokkpkphoaaGreatDoorFo
import Derived.Test.YtnbbfokkpkphoaaGreatDoorFs
import Derived.Test.YtnbbfokkpkphoaaGreatDoorFq
import Derived.Test.YtnbbfokkpkphoaaGreatDoorFp
import Derived.Test.YtnbbfokkpkphoaaGreatDoorFu
import Derived.Test.YtnbbfokkpkphoaaGreatDoorFt
import Derived.Test.YtnbbfokkpkphoaaGreatDoorFs
import Derived.Test.YtnbbfokkpkphoaaGreatDoorFp
import Derived.Test.YtnbbfokkpkphoaaGreatDoorG31t
namespace Go.Proofs.YtnbbfokkpkphoaaGreatDoor
open Go Go.RowKit Fw
set_option maxRecDepth 10000
set_option linter.unusedVariables false
theorem ovl55 : Ovl Tryz.prog 55 33 4 := fun args w => run_callFunc_extern Tryz.func55 (by kernel_rfl) (by kernel_rfl) (by kernel_rfl) (by kernel_rfl) args w
theorem tel33 : TEl Tryz.prog 33 25 (.agg (List.toArray [.int .i64 0, .int .i64 0, .int .i64 0, .int .i64 0, .int .i64 0])) 5 40 := ⟨by kernel_rfl, by kernel_rfl, rfl, by decide⟩

theorem z_c_slices_Clone___impl_LibRow_impl_LibRow__3 (L : List LibRow) (nL : Nat) (hbdL : (nL : Int) ≤ 9223372036854775807) (hleL : nL = L.length) (hp0 : (nL : Int) ≤ 1048576) (hq2 : nL = 0) : ([] : List LibRow) = L := by
  first | rfl | (exact (List.eq_nil_of_length_eq_zero (by omega)).symm)
theorem c_slices_Clone___impl_LibRow_impl_LibRow_ (w : World) {AL : Option Addr} {nL cL BL : Nat}  (L : List LibRow) (hL : SlR w BL encLibRow 5 AL nL cL L) (hp0 : (nL : Int) ≤ 1048576) : Calls Tryz.prog 38 #[.slice AL nL cL] w fun e w' => ∃ (A1' : Option Addr) (n1' c1' : Nat), e = .returned (.slice A1' n1' c1') ∧ SlO w' w.heap.size encLibRow 5 25 A1' n1' c1' L ∧ Lo w w' := by
  refine calls_W 8 Tryz.func38 rfl rfl rfl ?_
  have hbdL := hL.bound
  have hleL := hL.len
  have hBbL := hL.bd
  refine W.seq ?_
  refine W.regS (SR.q' (r_as (v := .slice none 0 0) rfl) <| SR.nil ?_)
  refine W.seq ?_
  refine W.seq ?_
  refine W.regS (SR.q' (r_mv (v := .slice _ _ _) rfl) <| SR.q' (r_eqlnil und33 rfl rfl) <| SR.nil ?_)
  refine W.cond_b rfl (fun h1 => ?_) (fun h1 => ?_)
  · have hq2 := slR_nil hL h1
    refine W.seq ?_
    refine W.regS (SR.q' (r_as (v := .slice none 0 0) rfl) <| SR.nil ?_)
    refine W.ret ?_
    refine ret1 rfl (v := .slice none 0 0) rfl ?_
    exact ⟨none, 0, 0, eR rfl, (SlO.eqv (SlO.nil (e := 25) (enc := encLibRow) (fun _ => rfl) (Nat.le_refl _)) (z_c_slices_Clone___impl_LibRow_impl_LibRow__3 L nL hbdL hleL hp0 hq2)), (Lo.refl w)⟩
  · refine W.skip ?_
    refine W.seq ?_
    refine W.regS (SR.lit (vs := []) (L := ([] : List LibRow)) (enc := encLibRow) tel33 (fun _ => rfl) rfl rfl rfl (by decide) ?_)
    intro g4 w5 hg6 hk7 hO8
    have hz9 := hk7.size
    have hB10 := (Lo.refl w).lo hk7
    refine SR.q' (r_mv (v := .slice _ _ _) rfl) <| SR.app tel33 rfl rfl (hO8) ((hL).lo hk7) (fun _ => rfl) (by omega) (by omega) ?_
    intro A11 c12 w13 hk14 hO15 hN16
    have hz17 := hk14.size
    have hB18 := hB10.step hk14 (fun i_ hi_ e' => by have := ((hO8)).base_le e'; first | omega | (exfalso; omega) | exact e' | exact .inl e' | exact .inr e')
    rw [List.nil_append] at hO15
    refine SR.q' (r_as (v := .slice _ _ _) rfl) <| SR.nil ?_
    refine W.ret ?_
    refine ret1 rfl (v := .slice _ _ _) rfl ?_
    exact ⟨A11, 0 + nL, c12, eR rfl, ((hO15).down (by omega)), hB18⟩

theorem z_c_slices_Insert___impl_LibRow_impl_LibRow__2 (L : List LibRow) (cL : Nat) (nL : Nat) (hbdL : (nL : Int) ≤ 9223372036854775807) (hleL : nL = L.length) (i_ : Nat) (V : List LibRow) (nV : Nat) (hbdV : (nV : Int) ≤ 9223372036854775807) (hleV : nV = V.length) (hp0 : 0 ≤ (i_ : Int)) (hp1 : (i_ : Int) ≤ (nL : Int)) (hp2 : ((nL + nV : Nat) : Int) ≤ 1048576) (h1 : (nV : Int) = 0) : L = L.take (i_ : Int).toNat ++ V ++ L.drop (i_ : Int).toNat := by
  first | (have hV0 : V = [] := List.eq_nil_of_length_eq_zero (by omega); subst hV0; simp; done) | (exact ins_end hleL (show nL ≤ i_ by omega)) | (exact ins_grow hleL hleV (by omega) (by omega))
theorem z_c_slices_Insert___impl_LibRow_impl_LibRow__12 (L : List LibRow) (cL : Nat) (nL : Nat) (hbdL : (nL : Int) ≤ 9223372036854775807) (hleL : nL = L.length) (i_ : Nat) (V : List LibRow) (nV : Nat) (hbdV : (nV : Int) ≤ 9223372036854775807) (hleV : nV = V.length) (hp0 : 0 ≤ (i_ : Int)) (hp1 : (i_ : Int) ≤ (nL : Int)) (hp2 : ((nL + nV : Nat) : Int) ≤ 1048576) (h1 : ¬ ((nV : Int) = 0)) (h3 : (i_ : Int) = (nL : Int)) : L ++ V = L.take (i_ : Int).toNat ++ V ++ L.drop (i_ : Int).toNat := by
  first | (have hV0 : V = [] := List.eq_nil_of_length_eq_zero (by omega); subst hV0; simp; done) | (exact ins_end hleL (show nL ≤ i_ by omega)) | (exact ins_grow hleL hleV (by omega) (by omega))
theorem z_c_slices_Insert___impl_LibRow_impl_LibRow__56 (L : List LibRow) (cL : Nat) (nL : Nat) (hbdL : (nL : Int) ≤ 9223372036854775807) (hleL : nL = L.length) (i_ : Nat) (V : List LibRow) (nV : Nat) (hbdV : (nV : Int) ≤ 9223372036854775807) (hleV : nV = V.length) (hp0 : 0 ≤ (i_ : Int)) (hp1 : (i_ : Int) ≤ (nL : Int)) (hp2 : ((nL + nV : Nat) : Int) ≤ 1048576) (h1 : ¬ ((nV : Int) = 0)) (h3 : ¬ ((i_ : Int) = (nL : Int))) (h13 : (cL : Int) < ((nL : Int) + (nV : Int))) : (((L.take i_) ++ List.replicate ((nL + nV) - i_) (⟨0, 0, 0, 0, 0⟩ : LibRow)).take i_ ++ V.take nV ++ ((L.take i_) ++ List.replicate ((nL + nV) - i_) (⟨0, 0, 0, 0, 0⟩ : LibRow)).drop (i_ + nV)).take (i_ + nV) ++ (L.drop i_).take (nL - i_) ++ (((L.take i_) ++ List.replicate ((nL + nV) - i_) (⟨0, 0, 0, 0, 0⟩ : LibRow)).take i_ ++ V.take nV ++ ((L.take i_) ++ List.replicate ((nL + nV) - i_) (⟨0, 0, 0, 0, 0⟩ : LibRow)).drop (i_ + nV)).drop ((i_ + nV) + (nL - i_)) = L.take (i_ : Int).toNat ++ V ++ L.drop (i_ : Int).toNat := by
  first | (have hV0 : V = [] := List.eq_nil_of_length_eq_zero (by omega); subst hV0; simp; done) | (exact ins_end hleL (show nL ≤ i_ by omega)) | (exact ins_grow hleL hleV (by omega) (by omega))
theorem c_slices_Insert___impl_LibRow_impl_LibRow_ (w : World) {AL : Option Addr} {nL cL BL : Nat}  (L : List LibRow) (hL : SlO w BL encLibRow 5 25 AL nL cL L) (i : Int) {AV : Option Addr} {nV cV BV : Nat}  (V : List LibRow) (hV : SlO w BV encLibRow 5 25 AV nV cV V) (hp0 : 0 ≤ i) (hp1 : i ≤ (nL : Int)) (hp2 : ((nL + nV : Nat) : Int) ≤ 1048576) (hp3 : ∀ b_, AV = some ⟨b_, 0, none⟩ → ¬ AL = some ⟨b_, 0, none⟩) : Calls Tryz.prog 39 #[.slice AL nL cL, .int .i64 i, .slice AV nV cV] w fun e w' => ∃ (A1' : Option Addr) (n1' c1' : Nat), e = .returned (.slice A1' n1' c1') ∧ SlO w' BL encLibRow 5 25 A1' n1' c1' (L.take i.toNat ++ V ++ L.drop i.toNat) ∧ (∀ b_, A1' = some ⟨b_, 0, none⟩ → (AL = some ⟨b_, 0, none⟩) ∨ w.heap.size ≤ b_) ∧ Kp (fun b_ => AL = some ⟨b_, 0, none⟩) w w' := by
  refine calls_W 95 Tryz.func39 rfl rfl rfl ?_
  have hcpL := hL.rd.cap
  have hbbL := hL.rd.bd
  have hbdL := hL.rd.bound
  have hleL := hL.len
  have hBbL := hL.bd
  have hcpV := hV.rd.cap
  have hbbV := hV.rd.bd
  have hbdV := hV.rd.bound
  have hleV := hV.len
  have hBbV := hV.bd
  obtain ⟨i_, rfl⟩ := Int.eq_ofNat_of_zero_le hp0
  refine W.seq ?_
  refine W.regS (SR.q' (r_as (v := .slice none 0 0) rfl) <| SR.nil ?_)
  refine W.seq ?_
  refine W.regS (SR.q' (r_mv (v := .slice _ _ _) rfl) <| SR.q' (r_mv (v := .int .i64 _) rfl) <| SR.q' (r_cutl (l := i_) tsl33 rfl rfl rfl (by omega)) <| SR.nil ?_)
  refine W.seq ?_
  refine W.regS (SR.q' (r_mv (v := .slice _ _ _) rfl) <| SR.q' (r_len und33 rfl) <| SR.q' (r_as (v := .int .i64 _) rfl) <| SR.nil ?_)
  refine W.seq ?_
  refine W.seq ?_
  refine W.regS (SR.q' (r_mv (v := .int .i64 _) rfl) <| SR.q' (r_eq rfl rfl) <| SR.nil ?_)
  refine W.cond_d rfl (fun h1 => ?_) (fun h1 => ?_)
  · refine W.seq ?_
    refine W.regS (SR.q' (r_mv (v := .slice _ _ _) rfl) <| SR.q' (r_as (v := .slice _ _ _) rfl) <| SR.nil ?_)
    refine W.ret ?_
    refine ret1 rfl (v := .slice _ _ _) rfl ?_
    exact ⟨AL, nL, cL, eR rfl, (SlO.eqv (hL) (z_c_slices_Insert___impl_LibRow_impl_LibRow__2 L cL nL hbdL hleL i_ V nV hbdV hleV hp0 hp1 hp2 h1)), (fun b_ h_ => .inl (h_)), (Kp.refl w : Kp (fun b_ => AL = some ⟨b_, 0, none⟩) w w)⟩
  · refine W.skip ?_
    refine W.seq ?_
    refine W.regS (SR.q' (r_mv (v := .slice _ _ _) rfl) <| SR.q' (r_len und33 rfl) <| SR.q' (r_as (v := .int .i64 _) rfl) <| SR.nil ?_)
    refine W.seq ?_
    refine W.seq ?_
    refine W.regS (SR.q' (r_mv (v := .int .i64 _) rfl) <| SR.q' (r_mv (v := .int .i64 _) rfl) <| SR.q' (r_eq rfl rfl) <| SR.nil ?_)
    refine W.cond_d rfl (fun h3 => ?_) (fun h3 => ?_)
    · refine W.seq ?_
      refine W.regS (SR.q' (r_mv (v := .slice _ _ _) rfl) <| SR.q' (r_mv (v := .slice _ _ _) rfl) <| SR.app tel33 rfl rfl (hL) ((hV).rd) (fun _ => rfl) (by omega) (by omega) ?_)
      intro A4 c5 w6 hk7 hO8 hN9
      have hz10 := hk7.size
      have hB11 := (Kp.refl w : Kp (fun b_ => AL = some ⟨b_, 0, none⟩) w w).step hk7 (fun i_ hi_ e' => by have := ((hL)).base_le e'; first | omega | (exfalso; omega) | exact e' | exact .inl e' | exact .inr e')
      refine SR.q' (r_as (v := .slice _ _ _) rfl) <| SR.nil ?_
      refine W.ret ?_
      refine ret1 rfl (v := .slice _ _ _) rfl ?_
      exact ⟨A4, nL + nV, c5, eR rfl, (SlO.eqv (hO8) (z_c_slices_Insert___impl_LibRow_impl_LibRow__12 L cL nL hbdL hleL i_ V nV hbdV hleV hp0 hp1 hp2 h1 h3)), (fun b_ h_ => (hN9 b_ h_).elim (fun h => (fun b_ h_ => .inl (h_)) b_ (h.trans h_)) (fun h => .inr (by omega))), hB11⟩
    · refine W.skip ?_
      refine W.seq ?_
      refine W.seq ?_
      refine W.regS (SR.q' (r_mv (v := .int .i64 _) rfl) <| SR.q' (r_mv (v := .int .i64 _) rfl) <| SR.q' (r_add rfl rfl (by omega)) <| SR.q' (r_mv (v := .slice _ _ _) rfl) <| SR.q' (r_cap und33 rfl) <| SR.q' (r_gt rfl rfl) <| SR.nil ?_)
      refine W.cond_d rfl (fun h13 => ?_) (fun h13 => ?_)
      · refine W.seq ?_
        refine W.regS (SR.q' (r_mv (v := .slice _ _ _) rfl) <| SR.q' (r_mv (v := .int .i64 _) rfl) <| SR.q' (r_cuth (h := i_) tsl33 rfl rfl rfl (Nat.le_trans (by omega : i_ ≤ nL) (hL).rd.cap)) <| SR.q' (r_mv (v := .int .i64 _) rfl) <| SR.q' (r_mv (v := .int .i64 _) rfl) <| SR.q' (r_add rfl rfl (by omega)) <| SR.q' (r_mv (v := .int .i64 _) rfl) <| SR.q' (r_sub rfl rfl (by omega)) <| SR.appZ (k := ((nL + nV) - i_)) (zx := (⟨0, 0, 0, 0, 0⟩ : LibRow)) tel33 und3 rfl rfl (by first | rfl | (rw [show (((nL : Int) + (nV : Int)) - (i_ : Int) : Int) = ((((nL + nV) - i_) : Nat) : Int) from by omega]; rfl)) ((hL).head (h := i_) (by omega)) (by omega) (by omega) (by omega) (by omega) ?_)
        intro g14 c15 w16 hg17 hk18 hO19
        have hz20 := hk18.size
        have hB21 := (Kp.refl w : Kp (fun b_ => AL = some ⟨b_, 0, none⟩) w w).lo hk18
        have hd22 : ¬ AL = some ⟨g14, 0, none⟩ := fun e' => by have := (hL).base_le e'; omega
        have hd23 : ¬ AV = some ⟨g14, 0, none⟩ := fun e' => by have := (hV).base_le e'; omega
        refine SR.q' (r_as (v := .slice _ _ _) rfl) <| SR.nil ?_
        refine W.seq ?_
        refine W.regS (SR.q' (r_mv (v := .slice _ _ _) rfl) <| SR.q' (r_mv (v := .int .i64 _) rfl) <| SR.q' (r_cutl (l := i_) tsl33 rfl rfl rfl (by omega)) <| SR.q' (r_mv (v := .slice _ _ _) rfl) <| SR.copyO (l := i_) (q := nV) tel33 rfl rfl (hO19) (((hV).lo hk18).rd) (by simp only [Nat.min_def]; split <;> omega) (by omega) (fun _ => rfl) ?_)
        intro w24 hk25 hO26
        have hz27 := hk25.size
        have hB28 := hB21.step hk25 (fun i_ hi_ e' => by have := ((hO19)).base_le e'; first | omega | (exfalso; omega) | exact e' | exact .inl e' | exact .inr e')
        refine SR.nil ?_
        refine W.seq ?_
        refine W.regA (Kp (fun b_ => (some (⟨g14, 0, none⟩ : Addr)) = some ⟨b_, 0, none⟩) w24) (fun f' w' => At f' [(0, .slice AL nL cL), (1, .int .i64 (i_ : Int)), (2, .slice AV nV cV), (6, .slice none 0 0), (7, .int .i64 (nV : Int)), (8, .int .i64 (nL : Int)), (9, .slice (some (⟨g14, 0, none⟩ : Addr)) (i_ + ((nL + nV) - i_)) c15)] ∧ (Kp (fun b_ => (some (⟨g14, 0, none⟩ : Addr)) = some ⟨b_, 0, none⟩) w24 w') ∧ (SlO w' w.heap.size encLibRow 5 25 (some (⟨g14, 0, none⟩ : Addr)) (i_ + ((nL + nV) - i_)) c15 ((((L.take i_) ++ List.replicate ((nL + nV) - i_) (⟨0, 0, 0, 0, 0⟩ : LibRow)).take i_ ++ V.take nV ++ ((L.take i_) ++ List.replicate ((nL + nV) - i_) (⟨0, 0, 0, 0, 0⟩ : LibRow)).drop (i_ + nV)).take (i_ + nV) ++ (L.drop i_).take (nL - i_) ++ (((L.take i_) ++ List.replicate ((nL + nV) - i_) (⟨0, 0, 0, 0, 0⟩ : LibRow)).take i_ ++ V.take nV ++ ((L.take i_) ++ List.replicate ((nL + nV) - i_) (⟨0, 0, 0, 0, 0⟩ : LibRow)).drop (i_ + nV)).drop ((i_ + nV) + (nL - i_))))) mo ?_ ?_
        · intro w39 hk40
          have hz41 := hk40.size
          have hB42 := hB28.lo hk40
          refine AH.take 0 rfl (by kernel_rfl) trivial ((Kp.refl w24 : Kp (fun b_ => (some (⟨g14, 0, none⟩ : Addr)) = some ⟨b_, 0, none⟩) w24 w24).lo hk40) (fun w' hw' => r_mv (v := .slice _ _ _) rfl) <| AH.take 1 rfl (by kernel_rfl) trivial ((Kp.refl w24 : Kp (fun b_ => (some (⟨g14, 0, none⟩ : Addr)) = some ⟨b_, 0, none⟩) w24 w24).lo hk40) (fun w' hw' => r_mv (v := .int .i64 _) rfl) <| AH.take 2 rfl (by kernel_rfl) trivial ((Kp.refl w24 : Kp (fun b_ => (some (⟨g14, 0, none⟩ : Addr)) = some ⟨b_, 0, none⟩) w24 w24).lo hk40) (fun w' hw' => r_mv (v := .int .i64 _) rfl) <| AH.take 3 rfl (by kernel_rfl) trivial ((Kp.refl w24 : Kp (fun b_ => (some (⟨g14, 0, none⟩ : Addr)) = some ⟨b_, 0, none⟩) w24 w24).lo hk40) (fun w' hw' => r_add rfl rfl (by omega)) <| AH.take 4 rfl (by kernel_rfl) trivial ((Kp.refl w24 : Kp (fun b_ => (some (⟨g14, 0, none⟩ : Addr)) = some ⟨b_, 0, none⟩) w24 w24).lo hk40) (fun w' hw' => r_cutl (l := (i_ + nV)) tsl33 rfl rfl (by omega) (by omega)) <| AH.take 5 rfl (by kernel_rfl) trivial ((Kp.refl w24 : Kp (fun b_ => (some (⟨g14, 0, none⟩ : Addr)) = some ⟨b_, 0, none⟩) w24 w24).lo hk40) (fun w' hw' => r_mv (v := .slice _ _ _) rfl) <| AH.take 6 rfl (by kernel_rfl) trivial ((Kp.refl w24 : Kp (fun b_ => (some (⟨g14, 0, none⟩ : Addr)) = some ⟨b_, 0, none⟩) w24 w24).lo hk40) (fun w' hw' => r_mv (v := .int .i64 _) rfl) <| AH.take 7 rfl (by kernel_rfl) trivial ((Kp.refl w24 : Kp (fun b_ => (some (⟨g14, 0, none⟩ : Addr)) = some ⟨b_, 0, none⟩) w24 w24).lo hk40) (fun w' hw' => r_cutl (l := i_) tsl33 rfl rfl rfl (by omega)) <| AH.br [8] (by kernel_rfl) rfl ⟨Br.mk' rfl trivial ?_, trivial⟩
          refine SR.copyO (l := (i_ + nV)) (q := nL - i_) tel33 rfl rfl ((hO26).lo hk40) (((((hL).lo hk18).kp hk25 (fun b_ hb e' => by have h1 := ((hO19)).base_le e'; have h2 := ((hL).lo hk18).base_le hb; have h3 := (hL).base_le hb; omega)).rd.cutl (l := i_) (by omega)).lo hk40) (by simp only [Nat.min_def]; split <;> omega) (by omega) (fun _ => rfl) ?_
          intro w43 hk44 hO45
          have hz46 := hk44.size
          have hB47 := hB42.step hk44 (fun i_ hi_ e' => by have := (((hO26).lo hk40)).base_le e'; first | omega | (exfalso; omega) | exact e' | exact .inl e' | exact .inr e')
          have hS48 := ((Kp.refl w24 : Kp (fun b_ => (some (⟨g14, 0, none⟩ : Addr)) = some ⟨b_, 0, none⟩) w24 w24).lo hk40).step hk44 (fun _ _ e => e)
          refine SR.nil ⟨hS48, _, rfl, ?_⟩
          refine AH.done (by kernel_rfl) ?_
          exact ⟨⟨rfl, rfl, rfl, rfl, rfl, rfl, rfl, trivial⟩, hS48, (hO45)⟩
        rintro f50 w51 ⟨hat53, hR52, hm49⟩
        rw [← sets_of_at hat53]
        have hz54 := hR52.size
        have hB55 := hB28.step hR52 (fun i_ hi_ e' => by have := ((hO26)).base_le e'; first | omega | (exfalso; omega) | exact e' | exact .inl e' | exact .inr e')
        refine W.seq ?_
        refine W.regS (SR.q' (r_mv (v := .slice _ _ _) rfl) <| SR.q' (r_as (v := .slice _ _ _) rfl) <| SR.nil ?_)
        refine W.ret ?_
        refine ret1 rfl (v := .slice _ _ _) rfl ?_
        exact ⟨(some (⟨g14, 0, none⟩ : Addr)), i_ + ((nL + nV) - i_), c15, eR rfl, (SlO.eqv ((hm49).down (by omega)) (z_c_slices_Insert___impl_LibRow_impl_LibRow__56 L cL nL hbdL hleL i_ V nV hbdV hleV hp0 hp1 hp2 h1 h3 h13)), (fun b_ h => .inr (by have := (hm49).base_le h; omega)), hB55⟩
      · refine W.skip ?_
        refine W.seq ?_
        have hrL := hL.rd
        have hrV := hV.rd
        obtain ⟨gL, cs, rfl, hRw, htk, hcc⟩ := hL.raw (hrL.some (by omega))
        obtain ⟨gV, cv, rfl, hRv, _, _⟩ := hV.raw (hrV.some (by omega))
        have hne : gV ≠ gL := fun e => hp3 gV rfl (by rw [e])
        refine W.regS (SR.q' (r_mv (v := .slice _ _ _) rfl) <| SR.q' (r_mv (v := .int .i64 _) rfl) <| SR.q' (r_mv (v := .int .i64 _) rfl) <| SR.q' (r_add rfl rfl (by omega)) <| SR.q' (r_cuth (h := nL + nV) tsl33 rfl rfl (by omega) (by omega)) <| SR.q' (r_as (v := .slice _ _ _) rfl) <| SR.nil ?_)
        refine W.seq ?_
        refine W.seq ?_
        refine W.regS (SR.q' (r_mv (v := .slice _ _ _) rfl) <| SR.q' (r_mv (v := .slice _ _ _) rfl) <| SR.q' (r_mv (v := .int .i64 _) rfl) <| SR.q' (r_mv (v := .int .i64 _) rfl) <| SR.q' (r_add rfl rfl (by omega)) <| SR.q' (r_cutl (l := i_ + nV) tsl33 rfl rfl (by omega) (by omega)) <| SR.over ovl55 tel33 rfl rfl hne hRv.heap hRw (by omega) <| SR.q' (r_not rfl) <| SR.nil ?_)
        refine W.cond_t rfl ?_
        refine W.seq ?_
        refine W.regT 8 mo (by kernel_rfl) ?_
        intro wd hkd
        refine TR.q' (r_mv (v := .slice _ _ _) rfl) <| TR.q' (r_mv (v := .int .i64 _) rfl) <| TR.q' (r_mv (v := .int .i64 _) rfl) <| TR.q' (r_add rfl rfl (by omega)) <| TR.q' (r_cutl (l := i_ + nV) tsl33 rfl rfl (by omega) (by omega)) <| TR.q' (r_mv (v := .slice _ _ _) rfl) <| TR.q' (r_mv (v := .int .i64 _) rfl) <| TR.q' (r_cutl (l := i_) tsl33 rfl rfl (by omega) (by omega)) <| TR.nil ?_
        refine SR.copyR (l := i_ + nV) (m := nL - i_) (vs := (L.drop i_).flatMap encLibRow) tel33 rfl rfl (hRw.lo hkd) (by simp only [Nat.min_def]; split <;> omega) (by omega) (by rw [flat_len (sz := 5) (fun _ => rfl), List.length_drop, ← hleL]) (fun _ => ((hrL.lo hkd).cutl (l := i_) (by omega)).flat) (fun h => (hrL.cutl (l := i_) (by omega)).some (by omega)) (fun u hu => by obtain ⟨q, _, hu⟩ := List.mem_flatMap.1 hu; exact List.all_eq_true.1 (show (encLibRow q).all (·.oneCell') = true from rfl) u hu) ?_
        intro we hke hRe
        refine SR.nil ?_
        refine W.seq ?_
        refine W.regS (SR.q' (r_mv (v := .slice _ _ _) rfl) <| SR.q' (r_mv (v := .int .i64 _) rfl) <| SR.q' (r_cutl (l := i_) tsl33 rfl rfl (by omega) (by omega)) <| SR.q' (r_mv (v := .slice _ _ _) rfl) <| SR.copyR (l := i_) (m := nV) (vs := V.flatMap encLibRow) tel33 rfl rfl hRe (by simp only [Nat.min_def]; split <;> omega) (by omega) (by rw [flat_len (sz := 5) (fun _ => rfl), ← hleV]) (fun _ => ((((hV).lo hkd).kp hke (fun b hb e' => hne (by injection hb with hb; injection hb with hb; rw [hb, e'])))).rd.flat) (fun h => hrV.some h) (fun u hu => by obtain ⟨q, _, hu⟩ := List.mem_flatMap.1 hu; exact List.all_eq_true.1 (show (encLibRow q).all (·.oneCell') = true from rfl) u hu) ?_)
        intro wf hkf hRf
        refine SR.nil ?_
        have hBf := ((((Kp.refl w : Kp (fun b_ => (some (⟨gL, 0, none⟩ : Addr)) = some ⟨b_, 0, none⟩) w w)).lo hkd).step hke (fun _ _ e' => by rw [e'])).step hkf (fun _ _ e' => by rw [e'])
        refine W.seq ?_
        refine W.regS (SR.q' (r_mv (v := .slice _ _ _) rfl) <| SR.q' (r_as (v := .slice _ _ _) rfl) <| SR.nil ?_)
        refine W.ret ?_
        refine ret1 rfl (v := .slice _ _ _) rfl ?_
        exact ⟨(some (⟨gL, 0, none⟩ : Addr)), nL + nV, cL, eR rfl, hRf.own (by omega) (by rw [List.length_append, List.length_append, List.length_take, List.length_drop]; omega) (fun _ => rfl) (ins_flat (enc := encLibRow) (sz := 5) (i := i_) (cs := cs) (fun _ => rfl) hleL hleV (by omega) (by rw [hRw.len]; exact Nat.mul_le_mul_right 5 (show nL + nV ≤ cL by omega)) htk), (fun b_ h_ => .inl h_), hBf⟩
end Go.Proofs.YtnbbfokkpkphoaaGreatDoor
