/- Walks, printed by a program of this claim's author. -/
import Derived.Test.YthgbcadgnihdiaaChecked
import Derived.Test.YthgbcadgnihdiaaRa
import Derived.Test.YthgbcadgnihdiaaRb
import Derived.Test.YthgbcadgnihdiaaFu
import Derived.Test.YthgbcadgnihdiaaFs
import Derived.Test.YthgbcadgnihdiaaFq
import Derived.Test.YthgbcadgnihdiaaFo
import Derived.Test.YthgbcadgnihdiaaFp
import Derived.Test.YthgbcadgnihdiaaFq
import Derived.Test.YthgbcadgnihdiaaG30b
namespace Go.Proofs.Ythgbcadgnihdiaa
open Go Go.RowKit Fw
set_option maxRecDepth 10000
set_option linter.unusedVariables false
theorem ent42 : Ent Try.prog 42 := ent_of Try.func42 (by decide +kernel) rfl
theorem ent44 : Ent Try.prog 44 := ent_of Try.func44 (by decide +kernel) rfl
theorem ent46 : Ent Try.prog 46 := ent_of Try.func46 (by decide +kernel) rfl
theorem ent47 : Ent Try.prog 47 := ent_of Try.func47 (by decide +kernel) rfl
theorem ent49 : Ent Try.prog 49 := ent_of Try.func49 (by decide +kernel) rfl

theorem z_c_slices_Delete___impl_Visit_impl_Visit__2 (L : List Visit) (cL : Nat) (nL : Nat) (hbdL : (nL : Int) ≤ 9223372036854775807) (hleL : nL = L.length) (i : Int) (j : Int) (hp0 : 0 ≤ i) (hp1 : i ≤ j) (hp2 : j ≤ (nL : Int)) (h1 : i = j) : L = L.take i.toNat ++ L.drop j.toNat := by
  first | rfl | (obtain rfl : i = j := (by omega); exact (List.take_append_drop ..).symm)
theorem z_c_slices_Delete___impl_Visit_impl_Visit__35 (L : List Visit) (cL : Nat) (nL : Nat) (hbdL : (nL : Int) ≤ 9223372036854775807) (hleL : nL = L.length) (i : Int) (j : Int) (hp0 : 0 ≤ i) (hp1 : i ≤ j) (hp2 : j ≤ (nL : Int)) (h1 : ¬ (i = j)) : (L.take i.toNat) ++ (L.drop j.toNat) = L.take i.toNat ++ L.drop j.toNat := by
  first | rfl | (obtain rfl : i = j := (by omega); exact (List.take_append_drop ..).symm)
theorem c_slices_Delete___impl_Visit_impl_Visit_ (w : World) {AL : Option Addr} {nL cL BL : Nat}  (L : List Visit) (hL : SlO w BL encVisit 4 59 AL nL cL L) (i : Int) (j : Int) (hp0 : 0 ≤ i) (hp1 : i ≤ j) (hp2 : j ≤ (nL : Int)) : Calls Try.prog 49 #[.slice AL nL cL, .int .i64 i, .int .i64 j] w fun e w' => ∃ (A1' : Option Addr) (n1' c1' : Nat), e = .returned (.slice A1' n1' c1') ∧ SlO w' BL encVisit 4 59 A1' n1' c1' (L.take i.toNat ++ L.drop j.toNat) ∧ (∀ b_, A1' = some ⟨b_, 0, none⟩ → (AL = some ⟨b_, 0, none⟩) ∨ w.heap.size ≤ b_) ∧ Kp (fun b_ => AL = some ⟨b_, 0, none⟩) w w' := by
  refine calls_W 33 Try.func49 rfl rfl rfl ?_
  have hcpL := hL.rd.cap
  have hbbL := hL.rd.bd
  have hbdL := hL.rd.bound
  have hleL := hL.len
  have hBbL := hL.bd
  refine W.seq ?_
  refine W.regS (SR.q' (r_as (v := .slice none 0 0) rfl) <| SR.nil ?_)
  refine W.seq ?_
  refine W.regS (SR.q' (r_mv (v := .slice _ _ _) rfl) <| SR.q' (r_mv (v := .int .i64 _) rfl) <| SR.q' (r_mv (v := .int .i64 _) rfl) <| SR.q' (r_mv (v := .slice _ _ _) rfl) <| SR.q' (r_len und24 rfl) <| SR.q' (r_cut3 (l := i.toNat) (h' := j.toNat) (m' := nL) tsl24 rfl rfl rfl rfl (by omega) (by omega) rfl (by omega) (by omega) (Nat.le_trans (by omega : nL ≤ nL) (hL).rd.cap)) <| SR.nil ?_)
  refine W.seq ?_
  refine W.seq ?_
  refine W.regS (SR.q' (r_mv (v := .int .i64 _) rfl) <| SR.q' (r_mv (v := .int .i64 _) rfl) <| SR.q' (r_eq rfl rfl) <| SR.nil ?_)
  refine W.cond_d rfl (fun h1 => ?_) (fun h1 => ?_)
  · refine W.seq ?_
    refine W.regS (SR.q' (r_mv (v := .slice _ _ _) rfl) <| SR.q' (r_as (v := .slice _ _ _) rfl) <| SR.nil ?_)
    refine W.ret ?_
    refine ret1 rfl (v := .slice _ _ _) rfl ?_
    exact ⟨AL, nL, cL, eR rfl, (SlO.eqv (hL) (z_c_slices_Delete___impl_Visit_impl_Visit__2 L cL nL hbdL hleL i j hp0 hp1 hp2 h1)), (fun b_ h_ => .inl (h_)), (Kp.refl w : Kp (fun b_ => AL = some ⟨b_, 0, none⟩) w w)⟩
  · refine W.skip ?_
    refine W.seq ?_
    refine W.regS (SR.q' (r_mv (v := .slice _ _ _) rfl) <| SR.q' (r_len und24 rfl) <| SR.q' (r_as (v := .int .i64 _) rfl) <| SR.nil ?_)
    refine W.seq ?_
    refine W.regA (Kp (fun b_ => AL = some ⟨b_, 0, none⟩) w) (fun f' w' => At f' [(0, .slice AL (i.toNat + (nL - j.toNat)) cL), (6, .slice none 0 0), (7, .int .i64 (nL : Int))] ∧ (Kp (fun b_ => AL = some ⟨b_, 0, none⟩) w w') ∧ (SlO w' BL encVisit 4 59 AL (i.toNat + (nL - j.toNat)) cL ((L.take i.toNat) ++ (L.drop j.toNat)))) mo ?_ ?_
    · intro w13 hk14
      have hz15 := hk14.size
      have hB16 := (Kp.refl w : Kp (fun b_ => AL = some ⟨b_, 0, none⟩) w w).lo hk14
      refine AH.take 0 rfl (by kernel_rfl) trivial ((Kp.refl w : Kp (fun b_ => AL = some ⟨b_, 0, none⟩) w w).lo hk14) (fun w' hw' => r_mv (v := .slice _ _ _) rfl) <| AH.take 1 rfl (by kernel_rfl) trivial ((Kp.refl w : Kp (fun b_ => AL = some ⟨b_, 0, none⟩) w w).lo hk14) (fun w' hw' => r_mv (v := .int .i64 _) rfl) <| AH.take 2 rfl (by kernel_rfl) trivial ((Kp.refl w : Kp (fun b_ => AL = some ⟨b_, 0, none⟩) w w).lo hk14) (fun w' hw' => r_cuth (h := i.toNat) tsl24 rfl rfl (by omega) (Nat.le_trans (by omega : i.toNat ≤ nL) (hL).rd.cap)) <| AH.take 3 rfl (by kernel_rfl) trivial ((Kp.refl w : Kp (fun b_ => AL = some ⟨b_, 0, none⟩) w w).lo hk14) (fun w' hw' => r_mv (v := .slice _ _ _) rfl) <| AH.take 4 rfl (by kernel_rfl) trivial ((Kp.refl w : Kp (fun b_ => AL = some ⟨b_, 0, none⟩) w w).lo hk14) (fun w' hw' => r_mv (v := .int .i64 _) rfl) <| AH.take 5 rfl (by kernel_rfl) trivial ((Kp.refl w : Kp (fun b_ => AL = some ⟨b_, 0, none⟩) w w).lo hk14) (fun w' hw' => r_cutl (l := j.toNat) tsl24 rfl rfl (by omega) (by omega)) <| AH.br [6] (by kernel_rfl) rfl ⟨Br.mk' rfl trivial ?_, trivial⟩
      refine SR.appI tel24 rfl rfl (((hL).head (h := i.toNat) (by omega)).lo hk14) (((hL).rd.cutl (l := j.toNat) (by omega)).lo hk14) (fun _ => rfl) (by omega) ?_
      intro w17 hk18 hO19
      have hz20 := hk18.size
      have hB21 := hB16.step hk18 (fun i_ hi_ e' => by have := ((((hL).head (h := i.toNat) (by omega)).lo hk14)).base_le e'; first | omega | (exfalso; omega) | exact e' | exact .inl e' | exact .inr e')
      have hS22 := ((Kp.refl w : Kp (fun b_ => AL = some ⟨b_, 0, none⟩) w w).lo hk14).step hk18 (fun _ _ e => e)
      refine SR.nil ⟨hS22, _, rfl, ?_⟩
      refine AH.take 7 rfl (by kernel_rfl) trivial (hS22) (fun w' hw' => r_as (v := .slice _ _ _) rfl) <| AH.done (by kernel_rfl) ?_
      exact ⟨⟨rfl, rfl, rfl, trivial⟩, hS22, (hO19)⟩
    rintro f24 w25 ⟨hat27, hR26, hm23⟩
    rw [← sets_of_at hat27]
    have hz28 := hR26.size
    have hB29 := (Kp.refl w : Kp (fun b_ => AL = some ⟨b_, 0, none⟩) w w).step hR26 (fun i_ hi_ e' => by have := ((hL)).base_le e'; first | omega | (exfalso; omega) | exact e' | exact .inl e' | exact .inr e')
    refine W.seq ?_
    refine W.regS (SR.q' (r_mv (v := .slice _ _ _) rfl) <| SR.q' (r_mv (v := .slice _ _ _) rfl) <| SR.q' (r_len und24 rfl) <| SR.q' (r_mv (v := .int .i64 _) rfl) <| SR.q' (r_cut (l := (i.toNat + (nL - j.toNat))) (h := nL) tsl24 rfl rfl rfl rfl rfl (by omega) (by omega)) <| SR.clearO (l := (i.toNat + (nL - j.toNat))) (k := nL - (i.toNat + (nL - j.toNat))) tel24 rfl (hm23) (by omega) (by omega) (by kernel_rfl) ?_)
    intro w30 hk31 hO32
    have hz33 := hk31.size
    have hB34 := hB29.step hk31 (fun i_ hi_ e' => by have := ((hm23)).base_le e'; first | omega | (exfalso; omega) | exact e' | exact .inl e' | exact .inr e')
    refine SR.nil ?_
    refine W.seq ?_
    refine W.regS (SR.q' (r_mv (v := .slice _ _ _) rfl) <| SR.q' (r_as (v := .slice _ _ _) rfl) <| SR.nil ?_)
    refine W.ret ?_
    refine ret1 rfl (v := .slice _ _ _) rfl ?_
    exact ⟨AL, i.toNat + (nL - j.toNat), cL, eR rfl, (SlO.eqv (hO32) (z_c_slices_Delete___impl_Visit_impl_Visit__35 L cL nL hbdL hleL i j hp0 hp1 hp2 h1)), (fun b_ h_ => .inl (h_)), hB34⟩

theorem z_c_spec_LeaveSeat_13 (L : List Visit) (nL : Nat) (hbdL : (nL : Int) ≤ 9223372036854775807) (hleL : nL = L.length) (r : Int) (m : Int) (h5 : ¬ (VsOK L)) : ([] : List Visit) = (lvs L r m).getD [] := by
  first | (rw [show lvs L r m = none from by first | exact lvs_no (fun h => absurd h.1 ‹_›) | exact lvs_noW ‹_› | exact lvs_no (by omega)]; rfl) | (rw [lvs_set ‹_› (by first | rfl | exact atW_eq ‹_› _ _) ⟨‹_›, by omega, by omega, by omega⟩ ‹_›]; rfl) | (rw [lvs_del ‹_› (by first | rfl | exact atW_eq ‹_› _ _) ⟨‹_›, by omega, by omega, by omega⟩ ‹_›]; rfl)
theorem z_c_spec_LeaveSeat_14 (L : List Visit) (nL : Nat) (hbdL : (nL : Int) ≤ 9223372036854775807) (hleL : nL = L.length) (r : Int) (m : Int) (h5 : ¬ (VsOK L)) : false = (lvs L r m).isSome := by
  first | (rw [show lvs L r m = none from by first | exact lvs_no (fun h => absurd h.1 ‹_›) | exact lvs_noW ‹_› | exact lvs_no (by omega)]; rfl) | (rw [lvs_set ‹_› (by first | rfl | exact atW_eq ‹_› _ _) ⟨‹_›, by omega, by omega, by omega⟩ ‹_›]; rfl) | (rw [lvs_del ‹_› (by first | rfl | exact atW_eq ‹_› _ _) ⟨‹_›, by omega, by omega, by omega⟩ ‹_›]; rfl)
theorem z_c_spec_LeaveSeat_28 (L : List Visit) (nL : Nat) (hbdL : (nL : Int) ≤ 9223372036854775807) (hleL : nL = L.length) (r : Int) (m : Int) (h5 : VsOK L) (hq15 : L.length ≤ 15) (h20 : ¬ (480 ≤ m ∧ m ≤ 1200)) : ([] : List Visit) = (lvs L r m).getD [] := by
  first | (rw [show lvs L r m = none from by first | exact lvs_no (fun h => absurd h.1 ‹_›) | exact lvs_noW ‹_› | exact lvs_no (by omega)]; rfl) | (rw [lvs_set ‹_› (by first | rfl | exact atW_eq ‹_› _ _) ⟨‹_›, by omega, by omega, by omega⟩ ‹_›]; rfl) | (rw [lvs_del ‹_› (by first | rfl | exact atW_eq ‹_› _ _) ⟨‹_›, by omega, by omega, by omega⟩ ‹_›]; rfl)
theorem z_c_spec_LeaveSeat_29 (L : List Visit) (nL : Nat) (hbdL : (nL : Int) ≤ 9223372036854775807) (hleL : nL = L.length) (r : Int) (m : Int) (h5 : VsOK L) (hq15 : L.length ≤ 15) (h20 : ¬ (480 ≤ m ∧ m ≤ 1200)) : false = (lvs L r m).isSome := by
  first | (rw [show lvs L r m = none from by first | exact lvs_no (fun h => absurd h.1 ‹_›) | exact lvs_noW ‹_› | exact lvs_no (by omega)]; rfl) | (rw [lvs_set ‹_› (by first | rfl | exact atW_eq ‹_› _ _) ⟨‹_›, by omega, by omega, by omega⟩ ‹_›]; rfl) | (rw [lvs_del ‹_› (by first | rfl | exact atW_eq ‹_› _ _) ⟨‹_›, by omega, by omega, by omega⟩ ‹_›]; rfl)
theorem z_c_spec_LeaveSeat_43 (L : List Visit) (nL : Nat) (hbdL : (nL : Int) ≤ 9223372036854775807) (hleL : nL = L.length) (r : Int) (m : Int) (h5 : VsOK L) (hq15 : L.length ≤ 15) (h20 : 480 ≤ m ∧ m ≤ 1200) (hq34 : idxF (atV r m) L < (L.length : Int) ∧ -1 ≤ idxF (atV r m) L) (h35 : (idxF (atV r m) L) < 0) : ([] : List Visit) = (lvs L r m).getD [] := by
  first | (rw [show lvs L r m = none from by first | exact lvs_no (fun h => absurd h.1 ‹_›) | exact lvs_noW ‹_› | exact lvs_no (by omega)]; rfl) | (rw [lvs_set ‹_› (by first | rfl | exact atW_eq ‹_› _ _) ⟨‹_›, by omega, by omega, by omega⟩ ‹_›]; rfl) | (rw [lvs_del ‹_› (by first | rfl | exact atW_eq ‹_› _ _) ⟨‹_›, by omega, by omega, by omega⟩ ‹_›]; rfl)
theorem z_c_spec_LeaveSeat_44 (L : List Visit) (nL : Nat) (hbdL : (nL : Int) ≤ 9223372036854775807) (hleL : nL = L.length) (r : Int) (m : Int) (h5 : VsOK L) (hq15 : L.length ≤ 15) (h20 : 480 ≤ m ∧ m ≤ 1200) (hq34 : idxF (atV r m) L < (L.length : Int) ∧ -1 ≤ idxF (atV r m) L) (h35 : (idxF (atV r m) L) < 0) : false = (lvs L r m).isSome := by
  first | (rw [show lvs L r m = none from by first | exact lvs_no (fun h => absurd h.1 ‹_›) | exact lvs_noW ‹_› | exact lvs_no (by omega)]; rfl) | (rw [lvs_set ‹_› (by first | rfl | exact atW_eq ‹_› _ _) ⟨‹_›, by omega, by omega, by omega⟩ ‹_›]; rfl) | (rw [lvs_del ‹_› (by first | rfl | exact atW_eq ‹_› _ _) ⟨‹_›, by omega, by omega, by omega⟩ ‹_›]; rfl)
theorem z_c_spec_LeaveSeat_86 (L : List Visit) (nL : Nat) (hbdL : (nL : Int) ≤ 9223372036854775807) (hleL : nL = L.length) (r : Int) (m : Int) (h5 : VsOK L) (hq15 : L.length ≤ 15) (h20 : 480 ≤ m ∧ m ≤ 1200) (hq34 : idxF (atV r m) L < (L.length : Int) ∧ -1 ≤ idxF (atV r m) L) (h35 : ¬ ((idxF (atV r m) L) < 0)) (x45 : Visit) (hx46 : L[(idxF (atV r m) L).toNat]? = some x45) (hq47 : ((1 : Int) ≤ x45.Reader ∧ x45.Reader ≤ 999) ∧ ((1 : Int) ≤ x45.Seat ∧ x45.Seat ≤ 6) ∧ ((480 : Int) ≤ x45.From ∧ x45.From ≤ 1200) ∧ ((480 : Int) ≤ x45.Until ∧ x45.Until ≤ 1200) ∧ x45.From < x45.Until) (h48 : x45.From = m) : (L.take ((idxF (atV r m) L).toNat)) ++ (L.drop (((idxF (atV r m) L) + 1).toNat)) = (lvs L r m).getD [] := by
  first | (rw [show lvs L r m = none from by first | exact lvs_no (fun h => absurd h.1 ‹_›) | exact lvs_noW ‹_› | exact lvs_no (by omega)]; rfl) | (rw [lvs_set ‹_› (by first | rfl | exact atW_eq ‹_› _ _) ⟨‹_›, by omega, by omega, by omega⟩ ‹_›]; rfl) | (rw [lvs_del ‹_› (by first | rfl | exact atW_eq ‹_› _ _) ⟨‹_›, by omega, by omega, by omega⟩ ‹_›]; rfl)
theorem z_c_spec_LeaveSeat_87 (L : List Visit) (nL : Nat) (hbdL : (nL : Int) ≤ 9223372036854775807) (hleL : nL = L.length) (r : Int) (m : Int) (h5 : VsOK L) (hq15 : L.length ≤ 15) (h20 : 480 ≤ m ∧ m ≤ 1200) (hq34 : idxF (atV r m) L < (L.length : Int) ∧ -1 ≤ idxF (atV r m) L) (h35 : ¬ ((idxF (atV r m) L) < 0)) (x45 : Visit) (hx46 : L[(idxF (atV r m) L).toNat]? = some x45) (hq47 : ((1 : Int) ≤ x45.Reader ∧ x45.Reader ≤ 999) ∧ ((1 : Int) ≤ x45.Seat ∧ x45.Seat ≤ 6) ∧ ((480 : Int) ≤ x45.From ∧ x45.From ≤ 1200) ∧ ((480 : Int) ≤ x45.Until ∧ x45.Until ≤ 1200) ∧ x45.From < x45.Until) (h48 : x45.From = m) : true = (lvs L r m).isSome := by
  first | (rw [show lvs L r m = none from by first | exact lvs_no (fun h => absurd h.1 ‹_›) | exact lvs_noW ‹_› | exact lvs_no (by omega)]; rfl) | (rw [lvs_set ‹_› (by first | rfl | exact atW_eq ‹_› _ _) ⟨‹_›, by omega, by omega, by omega⟩ ‹_›]; rfl) | (rw [lvs_del ‹_› (by first | rfl | exact atW_eq ‹_› _ _) ⟨‹_›, by omega, by omega, by omega⟩ ‹_›]; rfl)
theorem z_c_spec_LeaveSeat_131 (L : List Visit) (nL : Nat) (hbdL : (nL : Int) ≤ 9223372036854775807) (hleL : nL = L.length) (r : Int) (m : Int) (h5 : VsOK L) (hq15 : L.length ≤ 15) (h20 : 480 ≤ m ∧ m ≤ 1200) (hq34 : idxF (atV r m) L < (L.length : Int) ∧ -1 ≤ idxF (atV r m) L) (h35 : ¬ ((idxF (atV r m) L) < 0)) (x45 : Visit) (hx46 : L[(idxF (atV r m) L).toNat]? = some x45) (hq47 : ((1 : Int) ≤ x45.Reader ∧ x45.Reader ≤ 999) ∧ ((1 : Int) ≤ x45.Seat ∧ x45.Seat ≤ 6) ∧ ((480 : Int) ≤ x45.From ∧ x45.From ≤ 1200) ∧ ((480 : Int) ≤ x45.Until ∧ x45.Until ≤ 1200) ∧ x45.From < x45.Until) (h48 : ¬ (x45.From = m)) : L.set ((idxF (atV r m) L).toNat) (⟨x45.Reader, x45.Seat, x45.From, m⟩ : Visit) = (lvs L r m).getD [] := by
  first | (rw [show lvs L r m = none from by first | exact lvs_no (fun h => absurd h.1 ‹_›) | exact lvs_noW ‹_› | exact lvs_no (by omega)]; rfl) | (rw [lvs_set ‹_› (by first | rfl | exact atW_eq ‹_› _ _) ⟨‹_›, by omega, by omega, by omega⟩ ‹_›]; rfl) | (rw [lvs_del ‹_› (by first | rfl | exact atW_eq ‹_› _ _) ⟨‹_›, by omega, by omega, by omega⟩ ‹_›]; rfl)
theorem z_c_spec_LeaveSeat_132 (L : List Visit) (nL : Nat) (hbdL : (nL : Int) ≤ 9223372036854775807) (hleL : nL = L.length) (r : Int) (m : Int) (h5 : VsOK L) (hq15 : L.length ≤ 15) (h20 : 480 ≤ m ∧ m ≤ 1200) (hq34 : idxF (atV r m) L < (L.length : Int) ∧ -1 ≤ idxF (atV r m) L) (h35 : ¬ ((idxF (atV r m) L) < 0)) (x45 : Visit) (hx46 : L[(idxF (atV r m) L).toNat]? = some x45) (hq47 : ((1 : Int) ≤ x45.Reader ∧ x45.Reader ≤ 999) ∧ ((1 : Int) ≤ x45.Seat ∧ x45.Seat ≤ 6) ∧ ((480 : Int) ≤ x45.From ∧ x45.From ≤ 1200) ∧ ((480 : Int) ≤ x45.Until ∧ x45.Until ≤ 1200) ∧ x45.From < x45.Until) (h48 : ¬ (x45.From = m)) : true = (lvs L r m).isSome := by
  first | (rw [show lvs L r m = none from by first | exact lvs_no (fun h => absurd h.1 ‹_›) | exact lvs_noW ‹_› | exact lvs_no (by omega)]; rfl) | (rw [lvs_set ‹_› (by first | rfl | exact atW_eq ‹_› _ _) ⟨‹_›, by omega, by omega, by omega⟩ ‹_›]; rfl) | (rw [lvs_del ‹_› (by first | rfl | exact atW_eq ‹_› _ _) ⟨‹_›, by omega, by omega, by omega⟩ ‹_›]; rfl)
theorem c_spec_LeaveSeat (w : World) {AL : Option Addr} {nL cL BL : Nat}  (L : List Visit) (hL : SlR w BL encVisit 4 AL nL cL L) (r : Int) (m : Int) : Calls Try.prog 16 #[.slice AL nL cL, .int .i64 r, .int .i64 m] w fun e w' => ∃ (A1' : Option Addr) (n1' c1' : Nat), e = .returned (.tuple (List.toArray [.slice A1' n1' c1', .bool ((lvs L r m).isSome)])) ∧ SlO w' w.heap.size encVisit 4 59 A1' n1' c1' ((lvs L r m).getD []) ∧ Lo w w' := by
  refine calls_W 58 Try.func16 rfl rfl rfl ?_
  have hbdL := hL.bound
  have hleL := hL.len
  have hBbL := hL.bd
  refine W.seq ?_
  refine W.regS (SR.q' (r_as (v := .slice none 0 0) rfl) <| SR.q' (r_as (v := .bool false) rfl) <| SR.nil ?_)
  refine W.seq ?_
  refine W.seq ?_
  refine W.regS (SR.q' (r_mv (v := .slice _ _ _) rfl) <| SR.call ent42 (c_spec_l30Good w L ((hL))) rfl ?_)
  rintro e w1 ⟨rfl, hk2⟩
  refine ⟨_, rfl, ?_⟩
  have hz3 := hk2.size
  have hB4 := (Lo.refl w).lo hk2
  refine SR.q' (r_not rfl) <| SR.q' (r_mv (v := .bool _) rfl) <| SR.splitN (fun h5 => ?_) (fun h5 => ?_)
  · refine SR.s' rfl <| SR.s' rfl <| SR.s' rfl <| SR.q' (r_pick true rfl (v := .bool true) rfl) <| SR.nil ?_
    refine W.cond_t rfl ?_
    refine W.seq ?_
    refine W.regS (SR.lit (vs := []) (L := ([] : List Visit)) (enc := encVisit) tel24 (fun _ => rfl) rfl rfl rfl (by decide) ?_)
    intro g6 w7 hg8 hk9 hO10
    have hz11 := hk9.size
    have hB12 := hB4.lo hk9
    refine SR.q' (r_as (v := .slice _ _ _) rfl) <| SR.q' (r_as (v := .bool false) rfl) <| SR.nil ?_
    refine W.ret ?_
    refine ret2 rfl (v := .slice _ _ _) (v' := .bool _) rfl rfl ?_
    exact ⟨(some (⟨g6, 0, none⟩ : Addr)), 0, 0, eR (eT2 rfl (eB (z_c_spec_LeaveSeat_14 L nL hbdL hleL r m h5))), (SlO.eqv ((hO10).down (by omega)) (z_c_spec_LeaveSeat_13 L nL hbdL hleL r m h5)), hB12⟩
  · have hq15 := vs_len h5
    refine SR.g' rfl (r_mv (v := .int .i64 _) rfl) <| SR.gcall rfl ent43 (c_spec_l30Minute w1 m) rfl ?_
    rintro e w16 ⟨rfl, hk17⟩
    refine ⟨_, rfl, ?_⟩
    have hz18 := hk17.size
    have hB19 := hB4.lo hk17
    refine SR.g' rfl (r_not rfl) <| SR.q' (r_pick false rfl (v := .bool _) rfl) <| SR.nil ?_
    refine W.cond_n rfl (fun h20 => ?_) (fun h20 => ?_)
    · refine W.seq ?_
      refine W.regS (SR.lit (vs := []) (L := ([] : List Visit)) (enc := encVisit) tel24 (fun _ => rfl) rfl rfl rfl (by decide) ?_)
      intro g21 w22 hg23 hk24 hO25
      have hz26 := hk24.size
      have hB27 := hB19.lo hk24
      refine SR.q' (r_as (v := .slice _ _ _) rfl) <| SR.q' (r_as (v := .bool false) rfl) <| SR.nil ?_
      refine W.ret ?_
      refine ret2 rfl (v := .slice _ _ _) (v' := .bool _) rfl rfl ?_
      exact ⟨(some (⟨g21, 0, none⟩ : Addr)), 0, 0, eR (eT2 rfl (eB (z_c_spec_LeaveSeat_29 L nL hbdL hleL r m h5 hq15 h20))), (SlO.eqv ((hO25).down (by omega)) (z_c_spec_LeaveSeat_28 L nL hbdL hleL r m h5 hq15 h20)), hB27⟩
    · refine W.skip ?_
      refine W.seq ?_
      refine W.regS (SR.q' (r_mv (v := .slice _ _ _) rfl) <| SR.q' (r_mv (v := .int .i64 _) rfl) <| SR.q' (r_mv (v := .int .i64 _) rfl) <| SR.call ent44 (c_spec_l30At w16 L ((((hL).lo hk2).lo hk17)) r m (by assumption)) rfl ?_)
      rintro e w30 ⟨rfl, hk31⟩
      refine ⟨_, rfl, ?_⟩
      have hz32 := hk31.size
      have hB33 := hB19.lo hk31
      have hq34 : idxF (atV r m) L < (L.length : Int) ∧ -1 ≤ idxF (atV r m) L := idx_lt
      refine SR.q' (r_as (v := .int .i64 _) rfl) <| SR.nil ?_
      refine W.seq ?_
      refine W.seq ?_
      refine W.regS (SR.q' (r_mv (v := .int .i64 _) rfl) <| SR.q' (r_lt rfl rfl) <| SR.nil ?_)
      refine W.cond_d rfl (fun h35 => ?_) (fun h35 => ?_)
      · refine W.seq ?_
        refine W.regS (SR.lit (vs := []) (L := ([] : List Visit)) (enc := encVisit) tel24 (fun _ => rfl) rfl rfl rfl (by decide) ?_)
        intro g36 w37 hg38 hk39 hO40
        have hz41 := hk39.size
        have hB42 := hB33.lo hk39
        refine SR.q' (r_as (v := .slice _ _ _) rfl) <| SR.q' (r_as (v := .bool false) rfl) <| SR.nil ?_
        refine W.ret ?_
        refine ret2 rfl (v := .slice _ _ _) (v' := .bool _) rfl rfl ?_
        exact ⟨(some (⟨g36, 0, none⟩ : Addr)), 0, 0, eR (eT2 rfl (eB (z_c_spec_LeaveSeat_44 L nL hbdL hleL r m h5 hq15 h20 hq34 h35))), (SlO.eqv ((hO40).down (by omega)) (z_c_spec_LeaveSeat_43 L nL hbdL hleL r m h5 hq15 h20 hq34 h35)), hB42⟩
      · refine W.skip ?_
        refine W.seq ?_
        refine W.seq ?_
        refine W.regS (SR.q' (r_mv (v := .slice _ _ _) rfl) <| SR.q' (r_mv (v := .int .i64 _) rfl) <| ?_)
        obtain ⟨x45, hx46⟩ := ((((hL).lo hk2).lo hk17).lo hk31).get (i := (idxF (atV r m) L).toNat) (by omega)
        have hq47 := vs_rng h5 hx46
        refine SR.q' (r_ixR tsl24 ((((hL).lo hk2).lo hk17).lo hk31) rfl rfl (by omega)) <| SR.q' (r_fa fa59_2 rfl) <| SR.q' (r_ld (v := .int .i64 x45.From) sca3 rfl (((((hL).lo hk2).lo hk17).lo hk31).cell hx46 rfl)) <| SR.q' (r_mv (v := .int .i64 _) rfl) <| SR.q' (r_eq rfl rfl) <| SR.nil ?_
        refine W.cond_d rfl (fun h48 => ?_) (fun h48 => ?_)
        · refine W.seq ?_
          refine W.regA (Lo w30) (fun f' w' => ∃ (g53 : Nat), ∃ (A61 : Option Addr), ∃ (c62 : Nat), ∃ (A70 : Option Addr), ∃ (c71 : Nat), At f' [(0, .slice AL nL cL), (2, .int .i64 m), (6, .slice A70 ((0 + ((idxF (atV r m) L).toNat)) + (nL - (((idxF (atV r m) L) + 1).toNat))) c71), (7, .bool true), (8, .int .i64 (idxF (atV r m) L))] ∧ (Lo w30 w') ∧ (SlO w' w30.heap.size encVisit 4 59 A70 ((0 + ((idxF (atV r m) L).toNat)) + (nL - (((idxF (atV r m) L) + 1).toNat))) c71 ((L.take ((idxF (atV r m) L).toNat)) ++ (L.drop (((idxF (atV r m) L) + 1).toNat))))) mo ?_ ?_
          · intro w49 hk50
            have hz51 := hk50.size
            have hB52 := hB33.lo hk50
            refine AH.take 1 rfl (by kernel_rfl) trivial (hk50) (fun w' hw' => r_mv (v := .slice _ _ _) rfl) <| AH.take 2 rfl (by kernel_rfl) trivial (hk50) (fun w' hw' => r_mv (v := .int .i64 _) rfl) <| AH.take 3 rfl (by kernel_rfl) trivial (hk50) (fun w' hw' => r_cuth (h := (idxF (atV r m) L).toNat) tsl24 rfl rfl (by omega) (Nat.le_trans (by omega : (idxF (atV r m) L).toNat ≤ nL) ((((hL).lo hk2).lo hk17).lo hk31).cap)) <| AH.take 5 rfl (by kernel_rfl) trivial (hk50) (fun w' hw' => r_mv (v := .slice _ _ _) rfl) <| AH.take 6 rfl (by kernel_rfl) trivial (hk50) (fun w' hw' => r_mv (v := .int .i64 _) rfl) <| AH.take 7 rfl (by kernel_rfl) trivial (hk50) (fun w' hw' => r_add rfl rfl (by omega)) <| AH.take 8 rfl (by kernel_rfl) trivial (hk50) (fun w' hw' => r_cutl (l := ((idxF (atV r m) L) + 1).toNat) tsl24 rfl rfl (by omega) (by omega)) <| AH.br [0] (by kernel_rfl) rfl ⟨Br.mk' rfl trivial ?_, trivial⟩
            refine SR.lit (vs := []) (L := ([] : List Visit)) (enc := encVisit) tel24 (fun _ => rfl) rfl rfl rfl (by decide) ?_
            intro g53 w54 hg55 hk56 hO57
            have hz58 := hk56.size
            have hB59 := hB52.lo hk56
            have hS60 := (hk50).lo hk56
            refine SR.nil ⟨hS60, _, rfl, ?_⟩
            refine AH.br [4] (by kernel_rfl) rfl ⟨Br.mk' rfl trivial ?_, trivial⟩
            refine SR.app tel24 rfl rfl (hO57) (((((((hL).lo hk2).lo hk17).lo hk31).head (h := (idxF (atV r m) L).toNat) (by omega)).lo hk50).lo hk56) (fun _ => rfl) (by omega) (by omega) ?_
            intro A61 c62 w63 hk64 hO65 hN66
            have hz67 := hk64.size
            have hB68 := hB59.step hk64 (fun i_ hi_ e' => by have := ((hO57)).base_le e'; first | omega | (exfalso; omega) | exact e' | exact .inl e' | exact .inr e')
            have hS69 := (hS60).step hk64 (fun i_ hi_ e' => by have := ((hO57)).base_le e'; exfalso; omega)
            rw [List.nil_append] at hO65
            refine SR.nil ⟨hS69, _, rfl, ?_⟩
            refine AH.br [9] (by kernel_rfl) rfl ⟨Br.mk' rfl trivial ?_, trivial⟩
            refine SR.app tel24 rfl rfl (hO65) ((((((((hL).lo hk2).lo hk17).lo hk31).cutl (l := ((idxF (atV r m) L) + 1).toNat) (by omega)).lo hk50).lo hk56).kp hk64 (fun b_ hb e' => by have := ((hO57)).base_le e'; omega)) (fun _ => rfl) (by omega) (by omega) ?_
            intro A70 c71 w72 hk73 hO74 hN75
            have hz76 := hk73.size
            have hB77 := hB68.step hk73 (fun i_ hi_ e' => by have := ((hO65)).base_le e'; first | omega | (exfalso; omega) | exact e' | exact .inl e' | exact .inr e')
            have hS78 := (hS69).step hk73 (fun i_ hi_ e' => by have := ((hO65)).base_le e'; exfalso; omega)
            refine SR.nil ⟨hS78, _, rfl, ?_⟩
            refine AH.take 10 rfl (by kernel_rfl) trivial (hS78) (fun w' hw' => r_as (v := .slice _ _ _) rfl) <| AH.take 11 rfl (by kernel_rfl) trivial (hS78) (fun w' hw' => r_as (v := .bool true) rfl) <| AH.done (by kernel_rfl) ?_
            exact ⟨g53, A61, c62, A70, c71, ⟨rfl, rfl, rfl, rfl, rfl, trivial⟩, hS78, ((hO74).down (by omega))⟩
          rintro f80 w81 ⟨g53, A61, c62, A70, c71, hat83, hR82, hm79⟩
          rw [← sets_of_at hat83]
          have hz84 := hR82.size
          have hB85 := hB33.lo hR82
          refine W.ret ?_
          refine ret2 rfl (v := .slice _ _ _) (v' := .bool _) rfl rfl ?_
          exact ⟨A70, (0 + ((idxF (atV r m) L).toNat)) + (nL - (((idxF (atV r m) L) + 1).toNat)), c71, eR (eT2 rfl (eB (z_c_spec_LeaveSeat_87 L nL hbdL hleL r m h5 hq15 h20 hq34 h35 x45 hx46 hq47 h48))), (SlO.eqv ((hm79).down (by omega)) (z_c_spec_LeaveSeat_86 L nL hbdL hleL r m h5 hq15 h20 hq34 h35 x45 hx46 hq47 h48)), hB85⟩
        · refine W.skip ?_
          refine W.seq ?_
          refine W.regS (SR.lit (vs := []) (L := ([] : List Visit)) (enc := encVisit) tel24 (fun _ => rfl) rfl rfl rfl (by decide) ?_)
          intro g88 w89 hg90 hk91 hO92
          have hz93 := hk91.size
          have hB94 := hB33.lo hk91
          refine SR.q' (r_mv (v := .slice _ _ _) rfl) <| SR.app tel24 rfl rfl (hO92) (((((hL).lo hk2).lo hk17).lo hk31).lo hk91) (fun _ => rfl) (by omega) (by omega) ?_
          intro A95 c96 w97 hk98 hO99 hN100
          have hz101 := hk98.size
          have hB102 := hB94.step hk98 (fun i_ hi_ e' => by have := ((hO92)).base_le e'; first | omega | (exfalso; omega) | exact e' | exact .inl e' | exact .inr e')
          rw [List.nil_append] at hO99
          refine SR.q' (r_as (v := .slice _ _ _) rfl) <| SR.nil ?_
          refine W.seq ?_
          refine W.regS (SR.q' (r_mv (v := .slice _ _ _) rfl) <| SR.q' (r_mv (v := .int .i64 _) rfl) <| SR.q' (r_ixR tsl24 ((hO99).rd) rfl rfl (by omega)) <| SR.q' (r_lda (l := encVisit x45) agg59 rfl (fun _ _ hu => ((hO99).rd).cell hx46 hu) (((hO99).rd).esz _)) <| SR.alloc (l := [.int .i64 0, .int .i64 0, .int .i64 0, .int .i64 0]) tz59 rfl ?_)
          intro g103 w104 hg105 hk106 hs107 hb108
          have hz109 := hk106.size
          have hB110 := hB102.lo hk106
          have hd111 : ¬ A95 = some ⟨g103, 0, none⟩ := fun e' => by have := (hO99).base_le e'; omega
          refine SR.store (o := 0) (vs := [.int .i64 x45.Reader, .int .i64 x45.Seat, .int .i64 x45.From, .int .i64 x45.Until]) agg59.2 rfl rfl rfl rfl (hb108) (Nat.le_of_ble_eq_true rfl) rfl ?_
          intro w112 hk113 hs114 hb115
          have hz116 := hk113.size
          have hB117 := hB110.new hk113 (by omega)
          refine SR.nil ?_
          refine W.seq ?_
          refine W.regS (SR.q' (r_mv (v := .int .i64 _) rfl) <| SR.q' (r_fa fa59_3 rfl) <| SR.store (o := 3) (vs := [.int .i64 m]) sca3.2 rfl rfl rfl rfl (hb115) (Nat.le_of_ble_eq_true rfl) rfl ?_)
          intro w118 hk119 hs120 hb121
          have hz122 := hk119.size
          have hB123 := hB117.new hk119 (by omega)
          refine SR.nil ?_
          refine W.seq ?_
          refine W.regS (SR.q' (r_mv (v := .slice _ _ _) rfl) <| SR.q' (r_mv (v := .int .i64 _) rfl) <| SR.q' (r_lda (l := [.int .i64 x45.Reader, .int .i64 x45.Seat, .int .i64 x45.From, .int .i64 m]) agg59 rfl (fun _ _ hu => (hb121).cell hu) rfl) <| SR.q' (r_ixR tsl24 (((((hO99).lo hk106).kp hk113 (fun b_ hb e' => hd111 (by have e'' : b_ = g103 := e'; rw [← e'']; exact hb))).kp hk119 (fun b_ hb e' => hd111 (by have e'' : b_ = g103 := e'; rw [← e'']; exact hb))).rd) rfl rfl (by omega)) <| SR.storeO (o := 0) (vs := [.int .i64 x45.Reader, .int .i64 x45.Seat, .int .i64 x45.From, .int .i64 m]) (x1 := (⟨x45.Reader, x45.Seat, x45.From, m⟩ : Visit)) agg59.2 rfl rfl rfl rfl ((((hO99).lo hk106).kp hk113 (fun b_ hb e' => hd111 (by have e'' : b_ = g103 := e'; rw [← e'']; exact hb))).kp hk119 (fun b_ hb e' => hd111 (by have e'' : b_ = g103 := e'; rw [← e'']; exact hb))) hx46 rfl (Nat.le_of_ble_eq_true rfl) rfl ?_)
          intro w124 hk125 hs126 hO127
          have hz128 := hk125.size
          have hB129 := hB123.step hk125 (fun i_ hi_ e' => by have := (((((hO99).lo hk106).kp hk113 (fun b_ hb e' => hd111 (by have e'' : b_ = g103 := e'; rw [← e'']; exact hb))).kp hk119 (fun b_ hb e' => hd111 (by have e'' : b_ = g103 := e'; rw [← e'']; exact hb)))).base_le e'; first | omega | (exfalso; omega) | exact e' | exact .inl e' | exact .inr e')
          have hx130 : (L.set ((idxF (atV r m) L).toNat) (⟨x45.Reader, x45.Seat, x45.From, m⟩ : Visit))[(idxF (atV r m) L).toNat]? = some ((⟨x45.Reader, x45.Seat, x45.From, m⟩ : Visit)) := List.getElem?_set_self (List.getElem?_eq_some_iff.1 hx46).1
          refine SR.nil ?_
          refine W.seq ?_
          refine W.regS (SR.q' (r_mv (v := .slice _ _ _) rfl) <| SR.q' (r_as (v := .slice _ _ _) rfl) <| SR.q' (r_as (v := .bool true) rfl) <| SR.nil ?_)
          refine W.ret ?_
          refine ret2 rfl (v := .slice _ _ _) (v' := .bool _) rfl rfl ?_
          exact ⟨A95, 0 + nL, c96, eR (eT2 rfl (eB (z_c_spec_LeaveSeat_132 L nL hbdL hleL r m h5 hq15 h20 hq34 h35 x45 hx46 hq47 h48))), (SlO.eqv ((hO127).down (by omega)) (z_c_spec_LeaveSeat_131 L nL hbdL hleL r m h5 hq15 h20 hq34 h35 x45 hx46 hq47 h48)), hB129⟩

theorem z_c_impl_LeaveSeat_9 (L : List Visit) (nL : Nat) (hbdL : (nL : Int) ≤ 9223372036854775807) (hleL : nL = L.length) (r : Int) (m : Int) (hq5 : idxF (atW r m) L < (L.length : Int) ∧ -1 ≤ idxF (atW r m) L) (hq6 : VsOK L → idxF (atW r m) L = idxF (atV r m) L) (hq7 : VsOK L → 0 ≤ idxF (atV r m) L → 1 ≤ r ∧ r ≤ 999) (h8 : ¬ (VsOK L ∧ (1 ≤ r ∧ r ≤ 999) ∧ (480 ≤ m ∧ m ≤ 1200) ∧ 0 ≤ idxF (atW r m) L)) : ([] : List Visit) = (lvs L r m).getD [] := by
  first | (rw [show lvs L r m = none from by first | exact lvs_no (fun h => absurd h.1 ‹_›) | exact lvs_noW ‹_› | exact lvs_no (by omega)]; rfl) | (rw [lvs_set ‹_› (by first | rfl | exact atW_eq ‹_› _ _) ⟨‹_›, by omega, by omega, by omega⟩ ‹_›]; rfl) | (rw [lvs_del ‹_› (by first | rfl | exact atW_eq ‹_› _ _) ⟨‹_›, by omega, by omega, by omega⟩ ‹_›]; rfl)
theorem z_c_impl_LeaveSeat_10 (L : List Visit) (nL : Nat) (hbdL : (nL : Int) ≤ 9223372036854775807) (hleL : nL = L.length) (r : Int) (m : Int) (hq5 : idxF (atW r m) L < (L.length : Int) ∧ -1 ≤ idxF (atW r m) L) (hq6 : VsOK L → idxF (atW r m) L = idxF (atV r m) L) (hq7 : VsOK L → 0 ≤ idxF (atV r m) L → 1 ≤ r ∧ r ≤ 999) (h8 : ¬ (VsOK L ∧ (1 ≤ r ∧ r ≤ 999) ∧ (480 ≤ m ∧ m ≤ 1200) ∧ 0 ≤ idxF (atW r m) L)) : false = (lvs L r m).isSome := by
  first | (rw [show lvs L r m = none from by first | exact lvs_no (fun h => absurd h.1 ‹_›) | exact lvs_noW ‹_› | exact lvs_no (by omega)]; rfl) | (rw [lvs_set ‹_› (by first | rfl | exact atW_eq ‹_› _ _) ⟨‹_›, by omega, by omega, by omega⟩ ‹_›]; rfl) | (rw [lvs_del ‹_› (by first | rfl | exact atW_eq ‹_› _ _) ⟨‹_›, by omega, by omega, by omega⟩ ‹_›]; rfl)
theorem z_c_impl_LeaveSeat_38 (L : List Visit) (nL : Nat) (hbdL : (nL : Int) ≤ 9223372036854775807) (hleL : nL = L.length) (r : Int) (m : Int) (hq5 : idxF (atW r m) L < (L.length : Int) ∧ -1 ≤ idxF (atW r m) L) (hq6 : VsOK L → idxF (atW r m) L = idxF (atV r m) L) (hq7 : VsOK L → 0 ≤ idxF (atV r m) L → 1 ≤ r ∧ r ≤ 999) (h8 : VsOK L ∧ (1 ≤ r ∧ r ≤ 999) ∧ (480 ≤ m ∧ m ≤ 1200) ∧ 0 ≤ idxF (atW r m) L) (hq11 : VsOK L) (hq12 : L.length ≤ 15) (n16 : Nat) (hl21 : n16 = (L).length) (hl22 : (n16 : Int) ≤ 9223372036854775807) (x23 : Visit) (hx24 : L[(idxF (atW r m) L).toNat]? = some x23) (hq25 : ((1 : Int) ≤ x23.Reader ∧ x23.Reader ≤ 999) ∧ ((1 : Int) ≤ x23.Seat ∧ x23.Seat ≤ 6) ∧ ((480 : Int) ≤ x23.From ∧ x23.From ≤ 1200) ∧ ((480 : Int) ≤ x23.Until ∧ x23.Until ≤ 1200) ∧ x23.From < x23.Until) (h26 : x23.From = m) (n30 : Nat) (hl36 : n30 = (L.take (idxF (atW r m) L).toNat ++ L.drop ((idxF (atW r m) L) + 1).toNat).length) (hl37 : (n30 : Int) ≤ 9223372036854775807) : L.take (idxF (atW r m) L).toNat ++ L.drop ((idxF (atW r m) L) + 1).toNat = (lvs L r m).getD [] := by
  first | (rw [show lvs L r m = none from by first | exact lvs_no (fun h => absurd h.1 ‹_›) | exact lvs_noW ‹_› | exact lvs_no (by omega)]; rfl) | (rw [lvs_set ‹_› (by first | rfl | exact atW_eq ‹_› _ _) ⟨‹_›, by omega, by omega, by omega⟩ ‹_›]; rfl) | (rw [lvs_del ‹_› (by first | rfl | exact atW_eq ‹_› _ _) ⟨‹_›, by omega, by omega, by omega⟩ ‹_›]; rfl)
theorem z_c_impl_LeaveSeat_39 (L : List Visit) (nL : Nat) (hbdL : (nL : Int) ≤ 9223372036854775807) (hleL : nL = L.length) (r : Int) (m : Int) (hq5 : idxF (atW r m) L < (L.length : Int) ∧ -1 ≤ idxF (atW r m) L) (hq6 : VsOK L → idxF (atW r m) L = idxF (atV r m) L) (hq7 : VsOK L → 0 ≤ idxF (atV r m) L → 1 ≤ r ∧ r ≤ 999) (h8 : VsOK L ∧ (1 ≤ r ∧ r ≤ 999) ∧ (480 ≤ m ∧ m ≤ 1200) ∧ 0 ≤ idxF (atW r m) L) (hq11 : VsOK L) (hq12 : L.length ≤ 15) (n16 : Nat) (hl21 : n16 = (L).length) (hl22 : (n16 : Int) ≤ 9223372036854775807) (x23 : Visit) (hx24 : L[(idxF (atW r m) L).toNat]? = some x23) (hq25 : ((1 : Int) ≤ x23.Reader ∧ x23.Reader ≤ 999) ∧ ((1 : Int) ≤ x23.Seat ∧ x23.Seat ≤ 6) ∧ ((480 : Int) ≤ x23.From ∧ x23.From ≤ 1200) ∧ ((480 : Int) ≤ x23.Until ∧ x23.Until ≤ 1200) ∧ x23.From < x23.Until) (h26 : x23.From = m) (n30 : Nat) (hl36 : n30 = (L.take (idxF (atW r m) L).toNat ++ L.drop ((idxF (atW r m) L) + 1).toNat).length) (hl37 : (n30 : Int) ≤ 9223372036854775807) : true = (lvs L r m).isSome := by
  first | (rw [show lvs L r m = none from by first | exact lvs_no (fun h => absurd h.1 ‹_›) | exact lvs_noW ‹_› | exact lvs_no (by omega)]; rfl) | (rw [lvs_set ‹_› (by first | rfl | exact atW_eq ‹_› _ _) ⟨‹_›, by omega, by omega, by omega⟩ ‹_›]; rfl) | (rw [lvs_del ‹_› (by first | rfl | exact atW_eq ‹_› _ _) ⟨‹_›, by omega, by omega, by omega⟩ ‹_›]; rfl)
theorem z_c_impl_LeaveSeat_47 (L : List Visit) (nL : Nat) (hbdL : (nL : Int) ≤ 9223372036854775807) (hleL : nL = L.length) (r : Int) (m : Int) (hq5 : idxF (atW r m) L < (L.length : Int) ∧ -1 ≤ idxF (atW r m) L) (hq6 : VsOK L → idxF (atW r m) L = idxF (atV r m) L) (hq7 : VsOK L → 0 ≤ idxF (atV r m) L → 1 ≤ r ∧ r ≤ 999) (h8 : VsOK L ∧ (1 ≤ r ∧ r ≤ 999) ∧ (480 ≤ m ∧ m ≤ 1200) ∧ 0 ≤ idxF (atW r m) L) (hq11 : VsOK L) (hq12 : L.length ≤ 15) (n16 : Nat) (hl21 : n16 = (L).length) (hl22 : (n16 : Int) ≤ 9223372036854775807) (x23 : Visit) (hx24 : L[(idxF (atW r m) L).toNat]? = some x23) (hq25 : ((1 : Int) ≤ x23.Reader ∧ x23.Reader ≤ 999) ∧ ((1 : Int) ≤ x23.Seat ∧ x23.Seat ≤ 6) ∧ ((480 : Int) ≤ x23.From ∧ x23.From ≤ 1200) ∧ ((480 : Int) ≤ x23.Until ∧ x23.Until ≤ 1200) ∧ x23.From < x23.Until) (h26 : ¬ (x23.From = m)) : L.set ((idxF (atW r m) L).toNat) ({ x23 with Until := m }) = (lvs L r m).getD [] := by
  first | (rw [show lvs L r m = none from by first | exact lvs_no (fun h => absurd h.1 ‹_›) | exact lvs_noW ‹_› | exact lvs_no (by omega)]; rfl) | (rw [lvs_set ‹_› (by first | rfl | exact atW_eq ‹_› _ _) ⟨‹_›, by omega, by omega, by omega⟩ ‹_›]; rfl) | (rw [lvs_del ‹_› (by first | rfl | exact atW_eq ‹_› _ _) ⟨‹_›, by omega, by omega, by omega⟩ ‹_›]; rfl)
theorem z_c_impl_LeaveSeat_48 (L : List Visit) (nL : Nat) (hbdL : (nL : Int) ≤ 9223372036854775807) (hleL : nL = L.length) (r : Int) (m : Int) (hq5 : idxF (atW r m) L < (L.length : Int) ∧ -1 ≤ idxF (atW r m) L) (hq6 : VsOK L → idxF (atW r m) L = idxF (atV r m) L) (hq7 : VsOK L → 0 ≤ idxF (atV r m) L → 1 ≤ r ∧ r ≤ 999) (h8 : VsOK L ∧ (1 ≤ r ∧ r ≤ 999) ∧ (480 ≤ m ∧ m ≤ 1200) ∧ 0 ≤ idxF (atW r m) L) (hq11 : VsOK L) (hq12 : L.length ≤ 15) (n16 : Nat) (hl21 : n16 = (L).length) (hl22 : (n16 : Int) ≤ 9223372036854775807) (x23 : Visit) (hx24 : L[(idxF (atW r m) L).toNat]? = some x23) (hq25 : ((1 : Int) ≤ x23.Reader ∧ x23.Reader ≤ 999) ∧ ((1 : Int) ≤ x23.Seat ∧ x23.Seat ≤ 6) ∧ ((480 : Int) ≤ x23.From ∧ x23.From ≤ 1200) ∧ ((480 : Int) ≤ x23.Until ∧ x23.Until ≤ 1200) ∧ x23.From < x23.Until) (h26 : ¬ (x23.From = m)) : true = (lvs L r m).isSome := by
  first | (rw [show lvs L r m = none from by first | exact lvs_no (fun h => absurd h.1 ‹_›) | exact lvs_noW ‹_› | exact lvs_no (by omega)]; rfl) | (rw [lvs_set ‹_› (by first | rfl | exact atW_eq ‹_› _ _) ⟨‹_›, by omega, by omega, by omega⟩ ‹_›]; rfl) | (rw [lvs_del ‹_› (by first | rfl | exact atW_eq ‹_› _ _) ⟨‹_›, by omega, by omega, by omega⟩ ‹_›]; rfl)
theorem c_impl_LeaveSeat (w : World) {AL : Option Addr} {nL cL BL : Nat}  (L : List Visit) (hL : SlR w BL encVisit 4 AL nL cL L) (r : Int) (m : Int) : Calls Try.prog 17 #[.slice AL nL cL, .int .i64 r, .int .i64 m] w fun e w' => ∃ (A1' : Option Addr) (n1' c1' : Nat), e = .returned (.tuple (List.toArray [.slice A1' n1' c1', .bool ((lvs L r m).isSome)])) ∧ SlO w' w.heap.size encVisit 4 59 A1' n1' c1' ((lvs L r m).getD []) ∧ Lo w w' := by
  refine calls_W 40 Try.func17 rfl rfl rfl ?_
  have hbdL := hL.bound
  have hleL := hL.len
  have hBbL := hL.bd
  refine W.seq ?_
  refine W.regS (SR.q' (r_as (v := .slice none 0 0) rfl) <| SR.q' (r_as (v := .bool false) rfl) <| SR.nil ?_)
  refine W.seq ?_
  refine W.regS (SR.q' (r_mv (v := .slice _ _ _) rfl) <| SR.q' (r_mv (v := .int .i64 _) rfl) <| SR.q' (r_mv (v := .int .i64 _) rfl) <| SR.call ent46 (c_impl_visitOf w L ((hL)) r m) rfl ?_)
  rintro e w1 ⟨rfl, hk2⟩
  refine ⟨_, rfl, ?_⟩
  have hz3 := hk2.size
  have hB4 := (Lo.refl w).lo hk2
  have hq5 : idxF (atW r m) L < (L.length : Int) ∧ -1 ≤ idxF (atW r m) L := idx_lt
  have hq6 : VsOK L → idxF (atW r m) L = idxF (atV r m) L := fun h => atW_eq h r m
  have hq7 : VsOK L → 0 ≤ idxF (atV r m) L → 1 ≤ r ∧ r ≤ 999 := fun h h' => at_rdr h h'
  refine SR.q' (r_mv (v := .tuple (List.toArray _)) rfl) <| SR.q' (r_ext (v := .int .i64 _) rfl rfl) <| SR.q' (r_ext (v := .bool _) rfl rfl) <| SR.q' (r_as (v := .int .i64 _) rfl) <| SR.q' (r_as (v := .bool _) rfl) <| SR.nil ?_
  refine W.seq ?_
  refine W.seq ?_
  refine W.regS (SR.q' (r_mv (v := .bool _) rfl) <| SR.q' (r_not rfl) <| SR.nil ?_)
  refine W.cond_n rfl (fun h8 => ?_) (fun h8 => ?_)
  · refine W.seq ?_
    refine W.regS (SR.q' (r_as (v := .slice none 0 0) rfl) <| SR.q' (r_as (v := .bool false) rfl) <| SR.nil ?_)
    refine W.ret ?_
    refine ret2 rfl (v := .slice none 0 0) (v' := .bool _) rfl rfl ?_
    exact ⟨none, 0, 0, eR (eT2 rfl (eB (z_c_impl_LeaveSeat_10 L nL hbdL hleL r m hq5 hq6 hq7 h8))), (SlO.eqv (SlO.nil (e := 59) (enc := encVisit) (fun _ => rfl) (by omega)) (z_c_impl_LeaveSeat_9 L nL hbdL hleL r m hq5 hq6 hq7 h8)), hB4⟩
  · have hq11 := And.left h8
    have hq12 := vs_len hq11
    refine W.skip ?_
    refine W.seq ?_
    refine W.regS (SR.q' (r_mv (v := .slice _ _ _) rfl) <| SR.call ent47 (c_slices_Clone___impl_Visit_impl_Visit_ w1 L (((hL).lo hk2)) (by omega)) rfl ?_)
    rintro e w13 ⟨A15, n16, c17, rfl, hO18, hk14⟩
    refine ⟨_, rfl, ?_⟩
    have hz19 := hk14.size
    have hB20 := hB4.lo hk14
    have hl21 := hO18.len
    have hl22 := hO18.rd.bound
    refine SR.q' (r_as (v := .slice _ _ _) rfl) <| SR.nil ?_
    refine W.seq ?_
    refine W.seq ?_
    refine W.regS (SR.q' (r_mv (v := .slice _ _ _) rfl) <| SR.q' (r_mv (v := .int .i64 _) rfl) <| ?_)
    obtain ⟨x23, hx24⟩ := ((hO18).rd).get (i := (idxF (atW r m) L).toNat) (by omega)
    have hq25 := vs_rng hq11 hx24
    refine SR.q' (r_ixR tsl24 ((hO18).rd) rfl rfl (by omega)) <| SR.q' (r_fa fa59_2 rfl) <| SR.q' (r_ld (v := .int .i64 x23.From) sca3 rfl (((hO18).rd).cell hx24 rfl)) <| SR.q' (r_mv (v := .int .i64 _) rfl) <| SR.q' (r_eq rfl rfl) <| SR.nil ?_
    refine W.cond_d rfl (fun h26 => ?_) (fun h26 => ?_)
    · refine W.seq ?_
      refine W.regS (SR.q' (r_mv (v := .slice _ _ _) rfl) <| SR.q' (r_mv (v := .int .i64 _) rfl) <| SR.q' (r_mv (v := .int .i64 _) rfl) <| SR.q' (r_add rfl rfl (by omega)) <| SR.call ent49 (c_slices_Delete___impl_Visit_impl_Visit_ w13 L (hO18) (idxF (atW r m) L) ((idxF (atW r m) L) + 1) (by omega) (by omega) (by omega)) rfl ?_)
      rintro e w27 ⟨A29, n30, c31, rfl, hO32, hN33, hk28⟩
      refine ⟨_, rfl, ?_⟩
      have hz34 := hk28.size
      have hB35 := hB20.step hk28 (fun i_ hi_ e' => by have := ((hO18)).base_le e'; first | omega | (exfalso; omega) | exact e' | exact .inl e' | exact .inr e')
      have hl36 := hO32.len
      have hl37 := hO32.rd.bound
      refine SR.q' (r_as (v := .slice _ _ _) rfl) <| SR.q' (r_as (v := .bool true) rfl) <| SR.nil ?_
      refine W.ret ?_
      refine ret2 rfl (v := .slice _ _ _) (v' := .bool _) rfl rfl ?_
      exact ⟨A29, n30, c31, eR (eT2 rfl (eB (z_c_impl_LeaveSeat_39 L nL hbdL hleL r m hq5 hq6 hq7 h8 hq11 hq12 n16 hl21 hl22 x23 hx24 hq25 h26 n30 hl36 hl37))), (SlO.eqv ((hO32).down (by omega)) (z_c_impl_LeaveSeat_38 L nL hbdL hleL r m hq5 hq6 hq7 h8 hq11 hq12 n16 hl21 hl22 x23 hx24 hq25 h26 n30 hl36 hl37)), hB35⟩
    · refine W.skip ?_
      refine W.seq ?_
      refine W.regS (SR.q' (r_mv (v := .slice _ _ _) rfl) <| SR.q' (r_mv (v := .int .i64 _) rfl) <| SR.q' (r_mv (v := .int .i64 _) rfl) <| SR.q' (r_ixR tsl24 ((hO18).rd) rfl rfl (by omega)) <| SR.q' (r_fa fa59_3 rfl) <| SR.storeO (o := 3) (vs := [.int .i64 m]) (x1 := { x23 with Until := m }) sca3.2 rfl (add_add _ _ _) rfl rfl (hO18) hx24 rfl (Nat.le_of_ble_eq_true rfl) rfl ?_)
      intro w40 hk41 hs42 hO43
      have hz44 := hk41.size
      have hB45 := hB20.step hk41 (fun i_ hi_ e' => by have := ((hO18)).base_le e'; first | omega | (exfalso; omega) | exact e' | exact .inl e' | exact .inr e')
      have hx46 : (L.set ((idxF (atW r m) L).toNat) ({ x23 with Until := m }))[(idxF (atW r m) L).toNat]? = some ({ x23 with Until := m }) := List.getElem?_set_self (List.getElem?_eq_some_iff.1 hx24).1
      refine SR.nil ?_
      refine W.seq ?_
      refine W.regS (SR.q' (r_mv (v := .slice _ _ _) rfl) <| SR.q' (r_as (v := .slice _ _ _) rfl) <| SR.q' (r_as (v := .bool true) rfl) <| SR.nil ?_)
      refine W.ret ?_
      refine ret2 rfl (v := .slice _ _ _) (v' := .bool _) rfl rfl ?_
      exact ⟨A15, n16, c17, eR (eT2 rfl (eB (z_c_impl_LeaveSeat_48 L nL hbdL hleL r m hq5 hq6 hq7 h8 hq11 hq12 n16 hl21 hl22 x23 hx24 hq25 h26))), (SlO.eqv ((hO43).down (by omega)) (z_c_impl_LeaveSeat_47 L nL hbdL hleL r m hq5 hq6 hq7 h8 hq11 hq12 n16 hl21 hl22 x23 hx24 hq25 h26)), hB45⟩
end Go.Proofs.Ythgbcadgnihdiaa
