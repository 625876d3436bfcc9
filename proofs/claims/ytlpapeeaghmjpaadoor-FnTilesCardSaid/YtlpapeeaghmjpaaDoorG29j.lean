/- Walks, printed by a program of this claim's author. -/
import Derived.Test.YtlpapeeaghmjpaaDoorChecked
import Derived.Test.YtlpapeeaghmjpaaDoorSd
import Derived.Test.YtlpapeeaghmjpaaDoorFu
import Derived.Test.YtlpapeeaghmjpaaDoorFs
import Derived.Test.YtlpapeeaghmjpaaDoorFq
import Derived.Test.YtlpapeeaghmjpaaDoorFo
namespace Go.Proofs.YtlpapeeaghmjpaaDoor
open Go Go.RowKit Fw
set_option maxRecDepth 10000
set_option linter.unusedVariables false
theorem mo : Tryd.prog.follows .mixedOrders = true := by kernel_rfl
theorem ent110 : Ent Tryd.prog 110 := ent_of Tryd.func110 (by decide +kernel) rfl
theorem ent111 : Ent Tryd.prog 111 := ent_of Tryd.func111 (by decide +kernel) rfl
theorem ent55 : Ent Tryd.prog 55 := ent_of Tryd.func55 (by decide +kernel) rfl
theorem ent73 : Ent Tryd.prog 73 := ent_of Tryd.func73 (by decide +kernel) rfl
theorem ent76 : Ent Tryd.prog 76 := ent_of Tryd.func76 (by decide +kernel) rfl
theorem sca3 : TSca Tryd.prog 3 := ⟨fun _ => by kernel_rfl, fun _ => by kernel_rfl⟩
theorem tel38 : TEl Tryd.prog 38 3 (.int .i64 0) 1 8 := ⟨by kernel_rfl, by kernel_rfl, rfl, by decide⟩
theorem tsl38 : TSl Tryd.prog 38 3 1 := ⟨by kernel_rfl, fun _ => by kernel_rfl⟩
theorem und38 : Tryd.prog.underlying 38 = some (.slice 3) := by kernel_rfl

theorem z_c_spec_l1In_8 (n : Int) (a : Int) (b : Int) : ((a ≤ n) ∧ (n ≤ b)) ↔ (a ≤ n ∧ n ≤ b) := by
  omega
theorem c_spec_l1In (w : World) (n : Int) (a : Int) (b : Int) : Calls Tryd.prog 58 #[.int .i64 n, .int .i64 a, .int .i64 b] w fun e w' => e = .returned (.bool (decide (a ≤ n ∧ n ≤ b))) ∧ Lo w w' := by
  refine calls_W 15 Tryd.func58 rfl rfl rfl ?_
  refine W.seq ?_
  refine W.regS (SR.q' (r_as (v := .bool false) rfl) <| SR.nil ?_)
  refine W.seq ?_
  refine W.regJS (fun f' w' => At f' [(6, .bool (decide ((a ≤ n) ∧ (n ≤ b))))] ∧ Lo w w') ?_ ?_
  · refine SR.q' (r_mv (v := .int .i64 _) rfl) <| SR.q' (r_mv (v := .int .i64 _) rfl) <| SR.q' (r_ge rfl rfl) <| SR.q' (r_mv (v := .bool _) rfl) <| SR.splitD (fun h1 => ?_) (fun h1 => ?_)
    · refine SR.g' rfl (r_mv (v := .int .i64 _) rfl) <| SR.g' rfl (r_mv (v := .int .i64 _) rfl) <| SR.g' rfl (r_le rfl rfl) <| SR.q' (r_pick true rfl (v := .bool _) rfl) <| SR.q' (r_as (v := .bool _) rfl) <| SR.nil ?_
      exact ⟨_, rfl, ⟨⟨(eDD (jat h1)), trivial⟩, (Lo.refl _)⟩⟩
    · refine SR.s' rfl <| SR.s' rfl <| SR.s' rfl <| SR.q' (r_pick false rfl (v := .bool false) rfl) <| SR.q' (r_as (v := .bool _) rfl) <| SR.nil ?_
      exact ⟨_, rfl, ⟨⟨(eDF (jaf h1).2), trivial⟩, (Lo.refl _)⟩⟩
  rintro f2 w3 ⟨hat4, hk5⟩
  rw [← sets_of_at hat4]
  have hz6 := hk5.size
  have hB7 := (Lo.refl w).lo hk5
  refine W.ret ?_
  refine ret1 rfl (v := .bool _) rfl ?_
  exact ⟨eR (eDD (z_c_spec_l1In_8 n a b)), hB7⟩

theorem z_c_impl_within_8 (n : Int) (a : Int) (b : Int) : ((a ≤ n) ∧ (n ≤ b)) ↔ (a ≤ n ∧ n ≤ b) := by
  omega
theorem c_impl_within (w : World) (n : Int) (a : Int) (b : Int) : Calls Tryd.prog 55 #[.int .i64 n, .int .i64 a, .int .i64 b] w fun e w' => e = .returned (.bool (decide (a ≤ n ∧ n ≤ b))) ∧ Lo w w' := by
  refine calls_W 15 Tryd.func55 rfl rfl rfl ?_
  refine W.seq ?_
  refine W.regS (SR.q' (r_as (v := .bool false) rfl) <| SR.nil ?_)
  refine W.seq ?_
  refine W.regJS (fun f' w' => At f' [(6, .bool (decide ((a ≤ n) ∧ (n ≤ b))))] ∧ Lo w w') ?_ ?_
  · refine SR.q' (r_mv (v := .int .i64 _) rfl) <| SR.q' (r_mv (v := .int .i64 _) rfl) <| SR.q' (r_ge rfl rfl) <| SR.q' (r_mv (v := .bool _) rfl) <| SR.splitD (fun h1 => ?_) (fun h1 => ?_)
    · refine SR.g' rfl (r_mv (v := .int .i64 _) rfl) <| SR.g' rfl (r_mv (v := .int .i64 _) rfl) <| SR.g' rfl (r_le rfl rfl) <| SR.q' (r_pick true rfl (v := .bool _) rfl) <| SR.q' (r_as (v := .bool _) rfl) <| SR.nil ?_
      exact ⟨_, rfl, ⟨⟨(eDD (jat h1)), trivial⟩, (Lo.refl _)⟩⟩
    · refine SR.s' rfl <| SR.s' rfl <| SR.s' rfl <| SR.q' (r_pick false rfl (v := .bool false) rfl) <| SR.q' (r_as (v := .bool _) rfl) <| SR.nil ?_
      exact ⟨_, rfl, ⟨⟨(eDF (jaf h1).2), trivial⟩, (Lo.refl _)⟩⟩
  rintro f2 w3 ⟨hat4, hk5⟩
  rw [← sets_of_at hat4]
  have hz6 := hk5.size
  have hB7 := (Lo.refl w).lo hk5
  refine W.ret ?_
  refine ret1 rfl (v := .bool _) rfl ?_
  exact ⟨eR (eDD (z_c_impl_within_8 n a b)), hB7⟩

theorem z_c_spec_l1Most_2 (a : Int) (b : Int) (h1 : b < a) : a = max a b := by
  omega
theorem z_c_spec_l1Most_3 (a : Int) (b : Int) (h1 : ¬ (b < a)) : b = max a b := by
  omega
theorem c_spec_l1Most (w : World) (a : Int) (b : Int) : Calls Tryd.prog 142 #[.int .i64 a, .int .i64 b] w fun e w' => e = .returned (.int .i64 (max a b)) ∧ Lo w w' := by
  refine calls_W 10 Tryd.func142 rfl rfl rfl ?_
  refine W.seq ?_
  refine W.regS (SR.q' (r_as (v := .int .i64 0) rfl) <| SR.nil ?_)
  refine W.seq ?_
  refine W.seq ?_
  refine W.regS (SR.q' (r_mv (v := .int .i64 _) rfl) <| SR.q' (r_mv (v := .int .i64 _) rfl) <| SR.q' (r_gt rfl rfl) <| SR.nil ?_)
  refine W.cond_d rfl (fun h1 => ?_) (fun h1 => ?_)
  · refine W.seq ?_
    refine W.regS (SR.q' (r_mv (v := .int .i64 _) rfl) <| SR.q' (r_as (v := .int .i64 _) rfl) <| SR.nil ?_)
    refine W.ret ?_
    refine ret1 rfl (v := .int .i64 _) rfl ?_
    exact ⟨eR (eI (z_c_spec_l1Most_2 a b h1)), (Lo.refl w)⟩
  · refine W.skip ?_
    refine W.seq ?_
    refine W.regS (SR.q' (r_mv (v := .int .i64 _) rfl) <| SR.q' (r_as (v := .int .i64 _) rfl) <| SR.nil ?_)
    refine W.ret ?_
    refine ret1 rfl (v := .int .i64 _) rfl ?_
    exact ⟨eR (eI (z_c_spec_l1Most_3 a b h1)), (Lo.refl w)⟩

theorem z_c_slices_Index___int_int__1 (L : List Int) (nL : Nat) (hbdL : (nL : Int) ≤ 9223372036854775807) (hleL : nL = L.length) (v : Int) : 0 ≤ nL ∧ NoneTo (eqI v) L 0 := by
  exact ⟨Nat.zero_le _, NoneTo.zero⟩
theorem z_c_slices_Index___int_int__12 (L : List Int) (nL : Nat) (hbdL : (nL : Int) ≤ 9223372036854775807) (hleL : nL = L.length) (v : Int) (k : Nat) (hi7 : k ≤ nL ∧ NoneTo (eqI v) L k) (h8 : (k : Int) < (nL : Int)) (x9 : Int) (hx10 : L[k]? = some x9) (h11 : v = x9) : (k : Int) = idxF (eqI v) L := by
  first | exact idx_at (And.right ‹_ ∧ NoneTo _ L _›) ‹L[_]? = some _› (by simp_all [eqI]) | exact idx_no (And.right ‹_ ∧ NoneTo _ L _›) hleL ‹_›
theorem z_c_slices_Index___int_int__13 (L : List Int) (nL : Nat) (hbdL : (nL : Int) ≤ 9223372036854775807) (hleL : nL = L.length) (v : Int) (k : Nat) (hi7 : k ≤ nL ∧ NoneTo (eqI v) L k) (h8 : (k : Int) < (nL : Int)) (x9 : Int) (hx10 : L[k]? = some x9) (h11 : ¬ (v = x9)) : k + 1 ≤ nL ∧ NoneTo (eqI v) L (k + 1) := by
  exact ⟨by omega, NoneTo.next (And.right ‹_ ∧ NoneTo _ L _›) ‹L[k]? = some _› (by simp only [eqI, decide_eq_false_iff_not]; omega)⟩
theorem z_c_slices_Index___int_int__14 (L : List Int) (nL : Nat) (hbdL : (nL : Int) ≤ 9223372036854775807) (hleL : nL = L.length) (v : Int) (k : Nat) (hi7 : k ≤ nL ∧ NoneTo (eqI v) L k) (h8 : (k : Int) < (nL : Int)) (x9 : Int) (hx10 : L[k]? = some x9) (h11 : ¬ (v = x9)) : nL - (k + 1) < nL - k := by
  omega
theorem z_c_slices_Index___int_int__15 (L : List Int) (nL : Nat) (hbdL : (nL : Int) ≤ 9223372036854775807) (hleL : nL = L.length) (v : Int) (k : Nat) (hi7 : k ≤ nL ∧ NoneTo (eqI v) L k) (h8 : ¬ ((k : Int) < (nL : Int))) : (-1) = idxF (eqI v) L := by
  first | exact idx_at (And.right ‹_ ∧ NoneTo _ L _›) ‹L[_]? = some _› (by simp_all [eqI]) | exact idx_no (And.right ‹_ ∧ NoneTo _ L _›) hleL ‹_›
theorem c_slices_Index___int_int_ (w : World) {AL : Option Addr} {nL cL BL : Nat}  (L : List Int) (hL : SlR w BL encI 1 AL nL cL L) (v : Int) : Calls Tryd.prog 73 #[.slice AL nL cL, .int .i64 v] w fun e w' => e = .returned (.int .i64 (idxF (eqI v) L)) ∧ Lo w w' := by
  refine calls_W 19 Tryd.func73 rfl rfl rfl ?_
  have hbdL := hL.bound
  have hleL := hL.len
  have hBbL := hL.bd
  refine W.seq ?_
  refine W.regS (SR.q' (r_as (v := .int .i64 0) rfl) <| SR.nil ?_)
  refine W.seq ?_
  refine W.seq ?_
  refine W.regS (SR.q' (r_mv (v := .slice _ _ _) rfl) <| SR.q' (r_len und38 rfl) <| SR.q' (r_mv (v := .int .i64 0) rfl) <| SR.nil ?_)
  refine W.block ?_
  refine W.loop (σ := Nat) (fun g => [(0, .slice AL nL cL), (1, .int .i64 v), (7, .int .i64 (nL : Int)), (8, .int .i64 (g : Int))]) (fun g w' => (Lo w w') ∧ (SlR w' BL encI 1 AL nL cL L) ∧ (g ≤ nL ∧ NoneTo (eqI v) L g)) (fun g => nL - g) 0 ?_ ?_ ?_
  · exact ⟨rfl, rfl, rfl, rfl, trivial⟩
  · exact ⟨(Lo.refl w), hL, (z_c_slices_Index___int_int__1 L nL hbdL hleL v)⟩
  · rintro k f2 w3 hP5
    obtain ⟨hB4, hm6, hi7⟩ : (Lo w w3) ∧ (SlR w3 BL encI 1 AL nL cL L) ∧ (k ≤ nL ∧ NoneTo (eqI v) L k) := hP5
    refine (?_ : W _ _ _ _ _ (act _ (sets f2 [(0, .slice AL nL cL), (1, .int .i64 v), (7, .int .i64 (nL : Int)), (8, .int .i64 (k : Int))])) _)
    have hzw3 := hB4.size
    refine W.seq ?_
    refine W.regS (SR.q' (r_lt rfl rfl) <| SR.nil ?_)
    refine W.seq ?_
    refine W.cond_d rfl (fun h8 => ?_) (fun h8 => ?_)
    · refine W.skip ?_
      refine W.seq ?_
      refine W.block ?_
      refine W.seq ?_
      refine W.regS (SR.q' (r_mv (v := .int .i64 _) rfl) <| SR.q' (r_as (v := .int .i64 _) rfl) <| SR.nil ?_)
      refine W.seq ?_
      refine W.regS (SR.q' (r_mv (v := .int .i64 _) rfl) <| SR.q' (r_mv (v := .slice _ _ _) rfl) <| SR.q' (r_mv (v := .int .i64 _) rfl) <| ?_)
      obtain ⟨x9, hx10⟩ := (hm6).get (i := k) (by omega)
      refine SR.q' (r_ixR tsl38 (hm6) rfl rfl (by omega)) <| SR.q' (r_ld (v := .int .i64 x9) sca3 rfl ((hm6).cell0 hx10 rfl)) <| SR.q' (r_eq rfl rfl) <| SR.nil ?_
      refine W.cond_d rfl (fun h11 => ?_) (fun h11 => ?_)
      · refine W.seq ?_
        refine W.regS (SR.q' (r_mv (v := .int .i64 _) rfl) <| SR.q' (r_as (v := .int .i64 _) rfl) <| SR.nil ?_)
        refine W.ret ?_
        refine ret1 rfl (v := .int .i64 _) rfl ?_
        exact ⟨eR (eI (z_c_slices_Index___int_int__12 L nL hbdL hleL v k hi7 h8 x9 hx10 h11)), hB4⟩
      · refine W.skip ?_
        refine W.regS (SR.q' (r_add rfl rfl (by omega)) <| SR.q' (r_mv (v := .int .i64 _) rfl) <| SR.nil ?_)
        refine ⟨k + 1, _, rfl, ⟨rfl, rfl, rfl, rfl, trivial⟩, ⟨hB4, hm6, ?_⟩, ?_⟩
        · exact (z_c_slices_Index___int_int__13 L nL hbdL hleL v k hi7 h8 x9 hx10 h11)
        · exact (z_c_slices_Index___int_int__14 L nL hbdL hleL v k hi7 h8 x9 hx10 h11)
    · refine W.exit (xin_here ?_)
      refine W.seq ?_
      refine W.regS (SR.q' (r_as (v := .int .i64 (-1)) rfl) <| SR.nil ?_)
      refine W.ret ?_
      refine ret1 rfl (v := .int .i64 _) rfl ?_
      exact ⟨eR (eI (z_c_slices_Index___int_int__15 L nL hbdL hleL v k hi7 h8)), hB4⟩

theorem z_c_slices_Clone___int_int__3 (L : List Int) (nL : Nat) (hbdL : (nL : Int) ≤ 9223372036854775807) (hleL : nL = L.length) (hp0 : (nL : Int) ≤ 1048576) (hq2 : nL = 0) : ([] : List Int) = L := by
  first | rfl | (exact (List.eq_nil_of_length_eq_zero (by omega)).symm)
theorem c_slices_Clone___int_int_ (w : World) {AL : Option Addr} {nL cL BL : Nat}  (L : List Int) (hL : SlR w BL encI 1 AL nL cL L) (hp0 : (nL : Int) ≤ 1048576) : Calls Tryd.prog 104 #[.slice AL nL cL] w fun e w' => ∃ (A1' : Option Addr) (n1' c1' : Nat), e = .returned (.slice A1' n1' c1') ∧ SlO w' w.heap.size encI 1 3 A1' n1' c1' L ∧ Lo w w' := by
  refine calls_W 8 Tryd.func104 rfl rfl rfl ?_
  have hbdL := hL.bound
  have hleL := hL.len
  have hBbL := hL.bd
  refine W.seq ?_
  refine W.regS (SR.q' (r_as (v := .slice none 0 0) rfl) <| SR.nil ?_)
  refine W.seq ?_
  refine W.seq ?_
  refine W.regS (SR.q' (r_mv (v := .slice _ _ _) rfl) <| SR.q' (r_eqlnil und38 rfl rfl) <| SR.nil ?_)
  refine W.cond_b rfl (fun h1 => ?_) (fun h1 => ?_)
  · have hq2 := slR_nil hL h1
    refine W.seq ?_
    refine W.regS (SR.q' (r_as (v := .slice none 0 0) rfl) <| SR.nil ?_)
    refine W.ret ?_
    refine ret1 rfl (v := .slice none 0 0) rfl ?_
    exact ⟨none, 0, 0, eR rfl, (SlO.eqv (SlO.nil (e := 3) (enc := encI) (fun _ => rfl) (Nat.le_refl _)) (z_c_slices_Clone___int_int__3 L nL hbdL hleL hp0 hq2)), (Lo.refl w)⟩
  · refine W.skip ?_
    refine W.seq ?_
    refine W.regS (SR.lit (vs := []) (L := ([] : List Int)) (enc := encI) tel38 (fun _ => rfl) rfl rfl rfl (by decide) ?_)
    intro g4 w5 hg6 hk7 hO8
    have hz9 := hk7.size
    have hB10 := (Lo.refl w).lo hk7
    refine SR.q' (r_mv (v := .slice _ _ _) rfl) <| SR.app tel38 rfl rfl (hO8) ((hL).lo hk7) (fun _ => rfl) (by omega) (by omega) ?_
    intro A11 c12 w13 hk14 hO15 hN16
    have hz17 := hk14.size
    have hB18 := hB10.step hk14 (fun i_ hi_ e' => by have := ((hO8)).base_le e'; first | omega | (exfalso; omega) | exact e' | exact .inl e' | exact .inr e')
    rw [List.nil_append] at hO15
    refine SR.q' (r_as (v := .slice _ _ _) rfl) <| SR.nil ?_
    refine W.ret ?_
    refine ret1 rfl (v := .slice _ _ _) rfl ?_
    exact ⟨A11, 0 + nL, c12, eR rfl, ((hO15).down (by omega)), hB18⟩

theorem c_spec_l1Own (w : World) {AL : Option Addr} {nL cL BL : Nat}  (L : List Int) (hL : SlR w BL encI 1 AL nL cL L) (hp0 : (nL : Int) ≤ 1048576) : Calls Tryd.prog 119 #[.slice AL nL cL] w fun e w' => ∃ (A1' : Option Addr) (n1' c1' : Nat), e = .returned (.slice A1' n1' c1') ∧ SlO w' w.heap.size encI 1 3 A1' n1' c1' L ∧ Lo w w' := by
  refine calls_W 6 Tryd.func119 rfl rfl rfl ?_
  have hbdL := hL.bound
  have hleL := hL.len
  have hBbL := hL.bd
  refine W.seq ?_
  refine W.regS (SR.q' (r_as (v := .slice none 0 0) rfl) <| SR.nil ?_)
  refine W.seq ?_
  refine W.regS (SR.lit (vs := []) (L := ([] : List Int)) (enc := encI) tel38 (fun _ => rfl) rfl rfl rfl (by decide) ?_)
  intro g1 w2 hg3 hk4 hO5
  have hz6 := hk4.size
  have hB7 := (Lo.refl w).lo hk4
  refine SR.q' (r_mv (v := .slice _ _ _) rfl) <| SR.app tel38 rfl rfl (hO5) ((hL).lo hk4) (fun _ => rfl) (by omega) (by omega) ?_
  intro A8 c9 w10 hk11 hO12 hN13
  have hz14 := hk11.size
  have hB15 := hB7.step hk11 (fun i_ hi_ e' => by have := ((hO5)).base_le e'; first | omega | (exfalso; omega) | exact e' | exact .inl e' | exact .inr e')
  rw [List.nil_append] at hO12
  refine SR.q' (r_as (v := .slice _ _ _) rfl) <| SR.nil ?_
  refine W.ret ?_
  refine ret1 rfl (v := .slice _ _ _) rfl ?_
  exact ⟨A8, 0 + nL, c9, eR rfl, ((hO12).down (by omega)), hB15⟩

theorem z_c_slices_IndexFunc___int_int__1 (L : List Int) (nL : Nat) (hbdL : (nL : Int) ≤ 9223372036854775807) (hleL : nL = L.length) (p : Int → Bool) : 0 ≤ nL ∧ NoneTo p L 0 := by
  exact ⟨Nat.zero_le _, NoneTo.zero⟩
theorem z_c_slices_IndexFunc___int_int__16 (L : List Int) (nL : Nat) (hbdL : (nL : Int) ≤ 9223372036854775807) (hleL : nL = L.length) (p : Int → Bool) (k : Nat) (hi7 : k ≤ nL ∧ NoneTo p L k) (h8 : (k : Int) < (nL : Int)) (hx10 : L[k]? = some (gt L k)) (h15 : (p (gt L k)) = true) : (k : Int) = idxF p L := by
  first | exact idx_at (And.right ‹_ ∧ NoneTo p L _›) ‹L[_]? = some _› ‹_› | exact idx_no (And.right ‹_ ∧ NoneTo p L _›) hleL ‹_›
theorem z_c_slices_IndexFunc___int_int__17 (L : List Int) (nL : Nat) (hbdL : (nL : Int) ≤ 9223372036854775807) (hleL : nL = L.length) (p : Int → Bool) (k : Nat) (hi7 : k ≤ nL ∧ NoneTo p L k) (h8 : (k : Int) < (nL : Int)) (hx10 : L[k]? = some (gt L k)) (h15 : (p (gt L k)) = false) : k + 1 ≤ nL ∧ NoneTo p L (k + 1) := by
  exact ⟨by omega, NoneTo.next (And.right ‹_ ∧ NoneTo p L _›) ‹L[k]? = some _› ‹_›⟩
theorem z_c_slices_IndexFunc___int_int__18 (L : List Int) (nL : Nat) (hbdL : (nL : Int) ≤ 9223372036854775807) (hleL : nL = L.length) (p : Int → Bool) (k : Nat) (hi7 : k ≤ nL ∧ NoneTo p L k) (h8 : (k : Int) < (nL : Int)) (hx10 : L[k]? = some (gt L k)) (h15 : (p (gt L k)) = false) : nL - (k + 1) < nL - k := by
  omega
theorem z_c_slices_IndexFunc___int_int__19 (L : List Int) (nL : Nat) (hbdL : (nL : Int) ≤ 9223372036854775807) (hleL : nL = L.length) (p : Int → Bool) (k : Nat) (hi7 : k ≤ nL ∧ NoneTo p L k) (h8 : ¬ ((k : Int) < (nL : Int))) : (-1) = idxF p L := by
  first | exact idx_at (And.right ‹_ ∧ NoneTo p L _›) ‹L[_]? = some _› ‹_› | exact idx_no (And.right ‹_ ∧ NoneTo p L _›) hleL ‹_›
theorem c_slices_IndexFunc___int_int_ (w : World) {AL : Option Addr} {nL cL BL : Nat}  (L : List Int) (hL : SlR w BL encI 1 AL nL cL L) {kp : Nat} {capp : List Value} (p : Int → Bool) (hp : Fnc Tryd.prog w kp capp (fun x => .int .i64 x) p) : Calls Tryd.prog 111 #[.slice AL nL cL, .func (.func kp) #[] (List.toArray capp)] w fun e w' => e = .returned (.int .i64 (idxF p L)) ∧ Lo w w' := by
  refine calls_W 19 Tryd.func111 rfl rfl rfl ?_
  have hbdL := hL.bound
  have hleL := hL.len
  have hBbL := hL.bd
  refine W.seq ?_
  refine W.regS (SR.q' (r_as (v := .int .i64 0) rfl) <| SR.nil ?_)
  refine W.seq ?_
  refine W.seq ?_
  refine W.regS (SR.q' (r_mv (v := .slice _ _ _) rfl) <| SR.q' (r_len und38 rfl) <| SR.q' (r_mv (v := .int .i64 0) rfl) <| SR.nil ?_)
  refine W.block ?_
  refine W.loop (σ := Nat) (fun g => [(0, .slice AL nL cL), (1, .func (.func kp) #[] (List.toArray capp)), (7, .int .i64 (nL : Int)), (8, .int .i64 (g : Int))]) (fun g w' => (Lo w w') ∧ (SlR w' BL encI 1 AL nL cL L) ∧ (g ≤ nL ∧ NoneTo p L g)) (fun g => nL - g) 0 ?_ ?_ ?_
  · exact ⟨rfl, rfl, rfl, rfl, trivial⟩
  · exact ⟨(Lo.refl w), hL, (z_c_slices_IndexFunc___int_int__1 L nL hbdL hleL p)⟩
  · rintro k f2 w3 hP5
    obtain ⟨hB4, hm6, hi7⟩ : (Lo w w3) ∧ (SlR w3 BL encI 1 AL nL cL L) ∧ (k ≤ nL ∧ NoneTo p L k) := hP5
    refine (?_ : W _ _ _ _ _ (act _ (sets f2 [(0, .slice AL nL cL), (1, .func (.func kp) #[] (List.toArray capp)), (7, .int .i64 (nL : Int)), (8, .int .i64 (k : Int))])) _)
    have hzw3 := hB4.size
    refine W.seq ?_
    refine W.regS (SR.q' (r_lt rfl rfl) <| SR.nil ?_)
    refine W.seq ?_
    refine W.cond_d rfl (fun h8 => ?_) (fun h8 => ?_)
    · refine W.skip ?_
      refine W.seq ?_
      refine W.block ?_
      refine W.seq ?_
      refine W.regS (SR.q' (r_mv (v := .int .i64 _) rfl) <| SR.q' (r_as (v := .int .i64 _) rfl) <| SR.nil ?_)
      refine W.seq ?_
      refine W.regS (SR.q' (r_mv (v := .func _ #[] (List.toArray _)) rfl) <| SR.q' (r_mv (v := .slice _ _ _) rfl) <| SR.q' (r_mv (v := .int .i64 _) rfl) <| ?_)
      have hx10 := (hm6).elem (i := k) (by omega)
      refine SR.q' (r_ixR tsl38 (hm6) rfl rfl (by omega)) <| SR.q' (r_ld (v := .int .i64 (gt L k)) sca3 rfl ((hm6).cell0 hx10 rfl)) <| SR.callv (hp).1 rfl ((hp).2 _ hB4 (gt L k)) rfl ?_
      rintro e w11 ⟨rfl, hk12⟩
      refine ⟨_, rfl, ?_⟩
      have hz13 := hk12.size
      have hB14 := hB4.lo hk12
      refine SR.nil ?_
      refine W.cond_b rfl (fun h15 => ?_) (fun h15 => ?_)
      · refine W.seq ?_
        refine W.regS (SR.q' (r_mv (v := .int .i64 _) rfl) <| SR.q' (r_as (v := .int .i64 _) rfl) <| SR.nil ?_)
        refine W.ret ?_
        refine ret1 rfl (v := .int .i64 _) rfl ?_
        exact ⟨eR (eI (z_c_slices_IndexFunc___int_int__16 L nL hbdL hleL p k hi7 h8 hx10 h15)), hB14⟩
      · refine W.skip ?_
        refine W.regS (SR.q' (r_add rfl rfl (by omega)) <| SR.q' (r_mv (v := .int .i64 _) rfl) <| SR.nil ?_)
        refine ⟨k + 1, _, rfl, ⟨rfl, rfl, rfl, rfl, trivial⟩, ⟨hB14, (hm6).lo hk12, ?_⟩, ?_⟩
        · exact (z_c_slices_IndexFunc___int_int__17 L nL hbdL hleL p k hi7 h8 hx10 h15)
        · exact (z_c_slices_IndexFunc___int_int__18 L nL hbdL hleL p k hi7 h8 hx10 h15)
    · refine W.exit (xin_here ?_)
      refine W.seq ?_
      refine W.regS (SR.q' (r_as (v := .int .i64 (-1)) rfl) <| SR.nil ?_)
      refine W.ret ?_
      refine ret1 rfl (v := .int .i64 _) rfl ?_
      exact ⟨eR (eI (z_c_slices_IndexFunc___int_int__19 L nL hbdL hleL p k hi7 h8)), hB4⟩

theorem z_c_slices_ContainsFunc___int_int__6 (L : List Int) (nL : Nat) (hbdL : (nL : Int) ≤ 9223372036854775807) (hleL : nL = L.length) (p : Int → Bool) (hq5 : idxF p L < (L.length : Int) ∧ -1 ≤ idxF p L) : decide (0 ≤ (idxF p L)) = L.any p := by
  rw [Bool.eq_iff_iff, decide_eq_true_eq]; exact any_idx
theorem c_slices_ContainsFunc___int_int_ (w : World) {AL : Option Addr} {nL cL BL : Nat}  (L : List Int) (hL : SlR w BL encI 1 AL nL cL L) {kp : Nat} {capp : List Value} (p : Int → Bool) (hp : Fnc Tryd.prog w kp capp (fun x => .int .i64 x) p) : Calls Tryd.prog 76 #[.slice AL nL cL, .func (.func kp) #[] (List.toArray capp)] w fun e w' => e = .returned (.bool (L.any p)) ∧ Lo w w' := by
  refine calls_W 9 Tryd.func76 rfl rfl rfl ?_
  have hbdL := hL.bound
  have hleL := hL.len
  have hBbL := hL.bd
  refine W.seq ?_
  refine W.regS (SR.q' (r_as (v := .bool false) rfl) <| SR.nil ?_)
  refine W.seq ?_
  refine W.regS (SR.q' (r_mv (v := .slice _ _ _) rfl) <| SR.q' (r_mv (v := .func _ #[] (List.toArray _)) rfl) <| SR.call ent111 (c_slices_IndexFunc___int_int_ w L ((hL)) p (hp.lo (Lo.refl w))) rfl ?_)
  rintro e w1 ⟨rfl, hk2⟩
  refine ⟨_, rfl, ?_⟩
  have hz3 := hk2.size
  have hB4 := (Lo.refl w).lo hk2
  have hq5 : idxF p L < (L.length : Int) ∧ -1 ≤ idxF p L := idx_lt
  refine SR.q' (r_ge rfl rfl) <| SR.q' (r_as (v := .bool _) rfl) <| SR.nil ?_
  refine W.ret ?_
  refine ret1 rfl (v := .bool _) rfl ?_
  exact ⟨eR (eB (z_c_slices_ContainsFunc___int_int__6 L nL hbdL hleL p hq5)), hB4⟩

theorem z_c_impl_taken_1_1 (x : Int) : (!decide (x = 0)) = (!decide (x = 0)) := by
  rfl
theorem c_impl_taken_1 (w : World) (x : Int) : Calls Tryd.prog 110 #[.int .i64 x] w fun e w' => e = .returned (.bool (!decide (x = 0))) ∧ Lo w w' := by
  refine calls_W 5 Tryd.func110 rfl rfl rfl ?_
  refine W.seq ?_
  refine W.regS (SR.q' (r_as (v := .bool false) rfl) <| SR.nil ?_)
  refine W.seq ?_
  refine W.regS (SR.q' (r_mv (v := .int .i64 _) rfl) <| SR.q' (r_ne rfl rfl) <| SR.q' (r_as (v := .bool _) rfl) <| SR.nil ?_)
  refine W.ret ?_
  refine ret1 rfl (v := .bool _) rfl ?_
  exact ⟨eR (eB (z_c_impl_taken_1_1 x)), (Lo.refl w)⟩

theorem z_c_impl_IsScanJob_1_5 (x : Int) : (!decide (0 ≤ x ∧ x ≤ 100)) = (!decide (0 ≤ x ∧ x ≤ 100)) := by
  rfl
theorem c_impl_IsScanJob_1 (w : World) (x : Int) : Calls Tryd.prog 77 #[.int .i64 x] w fun e w' => e = .returned (.bool (!decide (0 ≤ x ∧ x ≤ 100))) ∧ Lo w w' := by
  refine calls_W 6 Tryd.func77 rfl rfl rfl ?_
  refine W.seq ?_
  refine W.regS (SR.q' (r_as (v := .bool false) rfl) <| SR.nil ?_)
  refine W.seq ?_
  refine W.regS (SR.q' (r_mv (v := .int .i64 _) rfl) <| SR.call ent55 (c_impl_within w x 0 100) rfl ?_)
  rintro e w1 ⟨rfl, hk2⟩
  refine ⟨_, rfl, ?_⟩
  have hz3 := hk2.size
  have hB4 := (Lo.refl w).lo hk2
  refine SR.q' (r_not rfl) <| SR.q' (r_as (v := .bool _) rfl) <| SR.nil ?_
  refine W.ret ?_
  refine ret1 rfl (v := .bool _) rfl ?_
  exact ⟨eR (eB (z_c_impl_IsScanJob_1_5 x)), hB4⟩

theorem z_c_impl_sum_1 (L : List Int) (nL : Nat) (hbdL : (nL : Int) ≤ 9223372036854775807) (hleL : nL = L.length) : 0 ≤ nL := by
  omega
theorem z_c_impl_sum_11 (L : List Int) (nL : Nat) (hbdL : (nL : Int) ≤ 9223372036854775807) (hleL : nL = L.length) (k : Nat) (hi7 : k ≤ nL) (h8 : (k : Int) < (nL : Int)) (hx10 : L[k]? = some (gt L k)) : k + 1 ≤ nL := by
  omega
theorem z_c_impl_sum_12 (L : List Int) (nL : Nat) (hbdL : (nL : Int) ≤ 9223372036854775807) (hleL : nL = L.length) (k : Nat) (hi7 : k ≤ nL) (h8 : (k : Int) < (nL : Int)) (hx10 : L[k]? = some (gt L k)) : nL - (k + 1) < nL - k := by
  omega
theorem z_c_impl_sum_13 (L : List Int) (nL : Nat) (hbdL : (nL : Int) ≤ 9223372036854775807) (hleL : nL = L.length) (k : Nat) (hi7 : k ≤ nL) (h8 : ¬ ((k : Int) < (nL : Int))) : wsum (L.take k) = wsum L := by
  subst hleL
  rw [List.take_of_length_le (by omega)]
theorem c_impl_sum (w : World) {AL : Option Addr} {nL cL BL : Nat}  (L : List Int) (hL : SlR w BL encI 1 AL nL cL L) : Calls Tryd.prog 75 #[.slice AL nL cL] w fun e w' => e = .returned (.int .i64 (wsum L)) ∧ Lo w w' := by
  refine calls_W 17 Tryd.func75 rfl rfl rfl ?_
  have hbdL := hL.bound
  have hleL := hL.len
  have hBbL := hL.bd
  refine W.seq ?_
  refine W.regS (SR.q' (r_as (v := .int .i64 0) rfl) <| SR.nil ?_)
  refine W.seq ?_
  refine W.regS (SR.q' (r_as (v := .int .i64 0) rfl) <| SR.nil ?_)
  refine W.seq ?_
  refine W.seq ?_
  refine W.regS (SR.q' (r_mv (v := .slice _ _ _) rfl) <| SR.q' (r_len und38 rfl) <| SR.q' (r_mv (v := .int .i64 0) rfl) <| SR.nil ?_)
  refine W.block ?_
  refine W.loop (σ := Nat) (fun g => [(2, .int .i64 0), (3, .int .i64 (wsum (L.take g))), (6, .slice AL nL cL), (7, .int .i64 (nL : Int)), (8, .int .i64 (g : Int))]) (fun g w' => (Lo w w') ∧ (SlR w' BL encI 1 AL nL cL L) ∧ (g ≤ nL)) (fun g => nL - g) 0 ?_ ?_ ?_
  · exact ⟨rfl, (eI (by first | (first | omega | rfl | (subst hleL; rw [wsum_snoc (by omega)])) | (dsimp only; (first | omega | rfl | (subst hleL; rw [wsum_snoc (by omega)]))))), rfl, rfl, (eI (by first | (first | omega | rfl | (subst hleL; rw [wsum_snoc (by omega)])) | (dsimp only; (first | omega | rfl | (subst hleL; rw [wsum_snoc (by omega)]))))), trivial⟩
  · exact ⟨(Lo.refl w), hL, (z_c_impl_sum_1 L nL hbdL hleL)⟩
  · rintro k f2 w3 hP5
    obtain ⟨hB4, hm6, hi7⟩ : (Lo w w3) ∧ (SlR w3 BL encI 1 AL nL cL L) ∧ (k ≤ nL) := hP5
    refine (?_ : W _ _ _ _ _ (act _ (sets f2 [(2, .int .i64 0), (3, .int .i64 (wsum (L.take k))), (6, .slice AL nL cL), (7, .int .i64 (nL : Int)), (8, .int .i64 (k : Int))])) _)
    have hzw3 := hB4.size
    refine W.seq ?_
    refine W.regS (SR.q' (r_lt rfl rfl) <| SR.nil ?_)
    refine W.seq ?_
    refine W.cond_d rfl (fun h8 => ?_) (fun h8 => ?_)
    · refine W.skip ?_
      refine W.seq ?_
      refine W.block ?_
      refine W.seq ?_
      have hx10 := (hm6).elem (i := k) (by omega)
      refine W.regS (SR.q' (r_ixR tsl38 (hm6) rfl rfl (by omega)) <| SR.q' (r_ld (v := .int .i64 (gt L k)) sca3 rfl ((hm6).cell0 hx10 rfl)) <| SR.q' (r_as (v := .int .i64 _) rfl) <| SR.nil ?_)
      refine W.regS (SR.q' (r_mv (v := .int .i64 _) rfl) <| SR.q' (r_mv (v := .int .i64 _) rfl) <| SR.q' (r_addW rfl rfl) <| SR.q' (r_as (v := .int .i64 _) rfl) <| SR.nil ?_)
      refine W.regS (SR.q' (r_add rfl rfl (by omega)) <| SR.q' (r_mv (v := .int .i64 _) rfl) <| SR.nil ?_)
      refine ⟨k + 1, _, rfl, ⟨rfl, (eI (by first | (first | omega | rfl | (subst hleL; rw [wsum_snoc (by omega)])) | (dsimp only; (first | omega | rfl | (subst hleL; rw [wsum_snoc (by omega)]))))), rfl, rfl, (eI (by first | (first | omega | rfl | (subst hleL; rw [wsum_snoc (by omega)])) | (dsimp only; (first | omega | rfl | (subst hleL; rw [wsum_snoc (by omega)]))))), trivial⟩, ⟨hB4, hm6, ?_⟩, ?_⟩
      · exact (z_c_impl_sum_11 L nL hbdL hleL k hi7 h8 hx10)
      · exact (z_c_impl_sum_12 L nL hbdL hleL k hi7 h8 hx10)
    · refine W.exit (xin_here ?_)
      refine W.seq ?_
      refine W.regS (SR.q' (r_mv (v := .int .i64 _) rfl) <| SR.q' (r_as (v := .int .i64 _) rfl) <| SR.nil ?_)
      refine W.ret ?_
      refine ret1 rfl (v := .int .i64 _) rfl ?_
      exact ⟨eR (eI (z_c_impl_sum_13 L nL hbdL hleL k hi7 h8)), hB4⟩

theorem z_c_impl_taken_7 (L : List Int) (nL : Nat) (hbdL : (nL : Int) ≤ 9223372036854775807) (hleL : nL = L.length) (hq5 : idxF (eqI 0) L < (L.length : Int) ∧ -1 ≤ idxF (eqI 0) L) (h6 : (idxF (eqI 0) L) < 0) : (nL : Int) = (takenN L : Int) := by
  first | (have := idx_tk_no (L := L) (by omega); omega) | (have := idx_tk (L := L) (by omega); omega)
theorem z_c_impl_taken_8 (L : List Int) (nL : Nat) (hbdL : (nL : Int) ≤ 9223372036854775807) (hleL : nL = L.length) (hq5 : idxF (eqI 0) L < (L.length : Int) ∧ -1 ≤ idxF (eqI 0) L) (h6 : (idxF (eqI 0) L) < 0) : Trail L := by
  first | exact tz_no (by omega) | exact tz_any (by have := idx_tk (L := L) (by omega); omega)
theorem z_c_impl_taken_13 (L : List Int) (nL : Nat) (hbdL : (nL : Int) ≤ 9223372036854775807) (hleL : nL = L.length) (hq5 : idxF (eqI 0) L < (L.length : Int) ∧ -1 ≤ idxF (eqI 0) L) (h6 : ¬ ((idxF (eqI 0) L) < 0)) : idxF (eqI 0) L = (takenN L : Int) := by
  first | (have := idx_tk_no (L := L) (by omega); omega) | (have := idx_tk (L := L) (by omega); omega)
theorem z_c_impl_taken_14 (L : List Int) (nL : Nat) (hbdL : (nL : Int) ≤ 9223372036854775807) (hleL : nL = L.length) (hq5 : idxF (eqI 0) L < (L.length : Int) ∧ -1 ≤ idxF (eqI 0) L) (h6 : ¬ ((idxF (eqI 0) L) < 0)) : (!((L.drop ((idxF (eqI 0) L).toNat)).any (fun u_ : Int => (!decide (u_ = 0))))) = true ↔ (Trail L) := by
  first | exact tz_no (by omega) | exact tz_any (by have := idx_tk (L := L) (by omega); omega)
theorem c_impl_taken (w : World) {AL : Option Addr} {nL cL BL : Nat}  (L : List Int) (hL : SlR w BL encI 1 AL nL cL L) : Calls Tryd.prog 74 #[.slice AL nL cL] w fun e w' => e = .returned (.tuple (List.toArray [.int .i64 (takenN L : Int), .bool (decide (Trail L))])) ∧ Lo w w' := by
  refine calls_W 17 Tryd.func74 rfl rfl rfl ?_
  have hbdL := hL.bound
  have hleL := hL.len
  have hBbL := hL.bd
  refine W.seq ?_
  refine W.regS (SR.q' (r_as (v := .int .i64 0) rfl) <| SR.q' (r_as (v := .bool false) rfl) <| SR.nil ?_)
  refine W.seq ?_
  refine W.regS (SR.q' (r_mv (v := .slice _ _ _) rfl) <| SR.call ent73 (c_slices_Index___int_int_ w L ((hL)) 0) rfl ?_)
  rintro e w1 ⟨rfl, hk2⟩
  refine ⟨_, rfl, ?_⟩
  have hz3 := hk2.size
  have hB4 := (Lo.refl w).lo hk2
  have hq5 : idxF (eqI 0) L < (L.length : Int) ∧ -1 ≤ idxF (eqI 0) L := idx_lt
  refine SR.q' (r_as (v := .int .i64 _) rfl) <| SR.nil ?_
  refine W.seq ?_
  refine W.seq ?_
  refine W.regS (SR.q' (r_mv (v := .int .i64 _) rfl) <| SR.q' (r_lt rfl rfl) <| SR.nil ?_)
  refine W.cond_d rfl (fun h6 => ?_) (fun h6 => ?_)
  · refine W.seq ?_
    refine W.regS (SR.q' (r_mv (v := .slice _ _ _) rfl) <| SR.q' (r_len und38 rfl) <| SR.q' (r_as (v := .int .i64 _) rfl) <| SR.q' (r_as (v := .bool true) rfl) <| SR.nil ?_)
    refine W.ret ?_
    refine ret2 rfl (v := .int .i64 _) (v' := .bool _) rfl rfl ?_
    exact ⟨eR (eT2 (eI (z_c_impl_taken_7 L nL hbdL hleL hq5 h6)) (eDT (z_c_impl_taken_8 L nL hbdL hleL hq5 h6))), hB4⟩
  · refine W.skip ?_
    refine W.seq ?_
    refine W.regS (SR.q' (r_mv (v := .int .i64 _) rfl) <| SR.q' (r_mv (v := .slice _ _ _) rfl) <| SR.q' (r_mv (v := .int .i64 _) rfl) <| SR.q' (r_cutl (l := (idxF (eqI 0) L).toNat) tsl38 rfl rfl (by omega) (by omega)) <| SR.call ent76 (c_slices_ContainsFunc___int_int_ w1 (L.drop ((idxF (eqI 0) L).toNat)) ((((hL).lo hk2).cutl (l := (idxF (eqI 0) L).toNat) (by omega))) (fun u_ : Int => (!decide (u_ = 0))) ⟨ent110, fun w'' hw'' x => (c_impl_taken_1 w'' x).mono fun _ _ h => ⟨h.1, h.2⟩⟩) rfl ?_)
    rintro e w9 ⟨rfl, hk10⟩
    refine ⟨_, rfl, ?_⟩
    have hz11 := hk10.size
    have hB12 := hB4.lo hk10
    refine SR.q' (r_not rfl) <| SR.q' (r_as (v := .int .i64 _) rfl) <| SR.q' (r_as (v := .bool _) rfl) <| SR.nil ?_
    refine W.ret ?_
    refine ret2 rfl (v := .int .i64 _) (v' := .bool _) rfl rfl ?_
    exact ⟨eR (eT2 (eI (z_c_impl_taken_13 L nL hbdL hleL hq5 h6)) (eBD (z_c_impl_taken_14 L nL hbdL hleL hq5 h6))), hB12⟩

theorem z_c_spec_l29Taken_1 (L : List Int) (nL : Nat) (hbdL : (nL : Int) ≤ 9223372036854775807) (hleL : nL = L.length) : 0 ≤ nL ∧ ∀ j, j < 0 → gt L j ≠ 0 := by
  exact ⟨Nat.zero_le _, fun _ h => absurd h (by omega)⟩
theorem z_c_spec_l29Taken_22 (L : List Int) (nL : Nat) (hbdL : (nL : Int) ≤ 9223372036854775807) (hleL : nL = L.length) (k : Nat) (hi7 : k ≤ nL ∧ ∀ j, j < k → gt L j ≠ 0) (h17 : ((k : Int) < (nL : Int)) ∧ (¬ ((gt L k) = 0))) (hq18 : (k : Int) < (nL : Int)) (hq19 : ¬ ((gt L k) = 0)) (hx21 : L[k]? = some (gt L k)) : k + 1 ≤ nL ∧ ∀ j, j < (k + 1) → gt L j ≠ 0 := by
  have hh := ‹_ ∧ ∀ j, j < _ → gt L j ≠ 0›
  refine ⟨by omega, fun j hj => ?_⟩
  rcases Nat.lt_or_ge j k with h1 | h1
  · exact hh.2 j h1
  · have e : j = k := by omega
    rw [e]; first | assumption | omega
theorem z_c_spec_l29Taken_23 (L : List Int) (nL : Nat) (hbdL : (nL : Int) ≤ 9223372036854775807) (hleL : nL = L.length) (k : Nat) (hi7 : k ≤ nL ∧ ∀ j, j < k → gt L j ≠ 0) (h17 : ((k : Int) < (nL : Int)) ∧ (¬ ((gt L k) = 0))) (hq18 : (k : Int) < (nL : Int)) (hq19 : ¬ ((gt L k) = 0)) (hx21 : L[k]? = some (gt L k)) : nL - (k + 1) < nL - k := by
  omega
theorem z_c_spec_l29Taken_24 (L : List Int) (nL : Nat) (hbdL : (nL : Int) ≤ 9223372036854775807) (hleL : nL = L.length) (k : Nat) (hi7 : k ≤ nL ∧ ∀ j, j < k → gt L j ≠ 0) (h17 : ¬ (((k : Int) < (nL : Int)) ∧ (¬ ((gt L k) = 0)))) : (k : Int) = (takenN L : Int) := by
  subst hleL
  have hh := ‹_ ∧ ∀ j, j < _ → gt L j ≠ 0›
  have e : takenN L = k := taken_eq hh.2 (by omega)
  rw [e]
theorem z_c_spec_l29Taken_25 (L : List Int) (nL : Nat) (hbdL : (nL : Int) ≤ 9223372036854775807) (hleL : nL = L.length) (k : Nat) (hi7 : k ≤ nL ∧ ∀ j, j < k → gt L j ≠ 0) (h17 : ¬ (((k : Int) < (nL : Int)) ∧ (¬ ((gt L k) = 0)))) : wsum (L.take k) = wsum (L.take (takenN L)) := by
  subst hleL
  have hh := ‹_ ∧ ∀ j, j < _ → gt L j ≠ 0›
  have e : takenN L = k := taken_eq hh.2 (by omega)
  rw [e]
theorem c_spec_l29Taken (w : World) {AL : Option Addr} {nL cL BL : Nat}  (L : List Int) (hL : SlR w BL encI 1 AL nL cL L) : Calls Tryd.prog 106 #[.slice AL nL cL] w fun e w' => e = .returned (.tuple (List.toArray [.int .i64 (takenN L : Int), .int .i64 (wsum (L.take (takenN L)))])) ∧ Lo w w' := by
  refine calls_W 27 Tryd.func106 rfl rfl rfl ?_
  have hbdL := hL.bound
  have hleL := hL.len
  have hBbL := hL.bd
  refine W.seq ?_
  refine W.regS (SR.q' (r_as (v := .int .i64 0) rfl) <| SR.q' (r_as (v := .int .i64 0) rfl) <| SR.nil ?_)
  refine W.seq ?_
  refine W.regS (SR.q' (r_as (v := .int .i64 0) rfl) <| SR.q' (r_as (v := .int .i64 0) rfl) <| SR.nil ?_)
  refine W.seq ?_
  refine W.block ?_
  refine W.loop (σ := Nat) (fun g => [(0, .slice AL nL cL), (2, .int .i64 0), (3, .int .i64 0), (4, .int .i64 (g : Int)), (5, .int .i64 (wsum (L.take g)))]) (fun g w' => (Lo w w') ∧ (SlR w' BL encI 1 AL nL cL L) ∧ (g ≤ nL ∧ ∀ j, j < g → gt L j ≠ 0)) (fun g => nL - g) 0 ?_ ?_ ?_
  · exact ⟨rfl, rfl, rfl, (eI (by first | (first | omega | rfl | (subst hleL; rw [wsum_snoc (by omega)])) | (dsimp only; (first | omega | rfl | (subst hleL; rw [wsum_snoc (by omega)]))))), (eI (by first | (first | omega | rfl | (subst hleL; rw [wsum_snoc (by omega)])) | (dsimp only; (first | omega | rfl | (subst hleL; rw [wsum_snoc (by omega)]))))), trivial⟩
  · exact ⟨(Lo.refl w), hL, (z_c_spec_l29Taken_1 L nL hbdL hleL)⟩
  · rintro k f2 w3 hP5
    obtain ⟨hB4, hm6, hi7⟩ : (Lo w w3) ∧ (SlR w3 BL encI 1 AL nL cL L) ∧ (k ≤ nL ∧ ∀ j, j < k → gt L j ≠ 0) := hP5
    refine (?_ : W _ _ _ _ _ (act _ (sets f2 [(0, .slice AL nL cL), (2, .int .i64 0), (3, .int .i64 0), (4, .int .i64 (k : Int)), (5, .int .i64 (wsum (L.take k)))])) _)
    have hzw3 := hB4.size
    refine W.seq ?_
    refine W.seq ?_
    refine W.regJS (fun f' w' => At f' [(0, .slice AL nL cL), (2, .int .i64 0), (3, .int .i64 0), (4, .int .i64 (k : Int)), (5, .int .i64 (wsum (L.take k))), (16, .bool (decide (((k : Int) < (nL : Int)) ∧ (¬ ((gt L k) = 0)))))] ∧ Lo w3 w') ?_ ?_
    · refine SR.q' (r_mv (v := .int .i64 _) rfl) <| SR.q' (r_mv (v := .slice _ _ _) rfl) <| SR.q' (r_len und38 rfl) <| SR.q' (r_lt rfl rfl) <| SR.q' (r_mv (v := .bool _) rfl) <| SR.splitD (fun h8 => ?_) (fun h8 => ?_)
      · refine SR.g' rfl (r_mv (v := .slice _ _ _) rfl) <| SR.g' rfl (r_mv (v := .int .i64 _) rfl) <| ?_
        have hx10 := (hm6).elem (i := k) (by omega)
        refine SR.g' rfl (r_ixR tsl38 (hm6) rfl rfl (by omega)) <| SR.g' rfl (r_ld (v := .int .i64 (gt L k)) sca3 rfl ((hm6).cell0 hx10 rfl)) <| SR.g' rfl (r_ne rfl rfl) <| SR.q' (r_pick true rfl (v := .bool _) rfl) <| SR.nil ?_
        exact ⟨_, rfl, ⟨⟨rfl, rfl, rfl, rfl, rfl, (eND (jat h8)), trivial⟩, (Lo.refl _)⟩⟩
      · refine SR.s' rfl <| SR.s' rfl <| SR.s' rfl <| SR.s' rfl <| SR.s' rfl <| SR.q' (r_pick false rfl (v := .bool false) rfl) <| SR.nil ?_
        exact ⟨_, rfl, ⟨⟨rfl, rfl, rfl, rfl, rfl, (eDF (jaf h8).2), trivial⟩, (Lo.refl _)⟩⟩
    rintro f11 w12 ⟨hat13, hk14⟩
    rw [← sets_of_at hat13]
    have hz15 := hk14.size
    have hB16 := hB4.lo hk14
    refine W.cond_d rfl (fun h17 => ?_) (fun h17 => ?_)
    · have hq18 : (k : Int) < (nL : Int) := h17.1
      have hq19 : ¬ ((gt L k) = 0) := h17.2
      refine W.skip ?_
      refine W.block ?_
      refine W.seq ?_
      refine W.regS (SR.q' (r_mv (v := .int .i64 _) rfl) <| SR.q' (r_mv (v := .slice _ _ _) rfl) <| SR.q' (r_mv (v := .int .i64 _) rfl) <| ?_)
      have hx21 := ((hm6).lo hk14).elem (i := k) (by omega)
      refine SR.q' (r_ixR tsl38 ((hm6).lo hk14) rfl rfl (by omega)) <| SR.q' (r_ld (v := .int .i64 (gt L k)) sca3 rfl (((hm6).lo hk14).cell0 hx21 rfl)) <| SR.q' (r_addW rfl rfl) <| SR.q' (r_as (v := .int .i64 _) rfl) <| SR.nil ?_
      refine W.regS (SR.q' (r_mv (v := .int .i64 _) rfl) <| SR.q' (r_add rfl rfl (by omega)) <| SR.q' (r_as (v := .int .i64 _) rfl) <| SR.nil ?_)
      refine ⟨k + 1, _, rfl, ⟨rfl, rfl, rfl, (eI (by first | (first | omega | rfl | (subst hleL; rw [wsum_snoc (by omega)])) | (dsimp only; (first | omega | rfl | (subst hleL; rw [wsum_snoc (by omega)]))))), (eI (by first | (first | omega | rfl | (subst hleL; rw [wsum_snoc (by omega)])) | (dsimp only; (first | omega | rfl | (subst hleL; rw [wsum_snoc (by omega)]))))), trivial⟩, ⟨hB16, (hm6).lo hk14, ?_⟩, ?_⟩
      · exact (z_c_spec_l29Taken_22 L nL hbdL hleL k hi7 h17 hq18 hq19 hx21)
      · exact (z_c_spec_l29Taken_23 L nL hbdL hleL k hi7 h17 hq18 hq19 hx21)
    · refine W.exit (xin_here ?_)
      refine W.seq ?_
      refine W.regS (SR.q' (r_mv (v := .int .i64 _) rfl) <| SR.q' (r_mv (v := .int .i64 _) rfl) <| SR.q' (r_as (v := .int .i64 _) rfl) <| SR.q' (r_as (v := .int .i64 _) rfl) <| SR.nil ?_)
      refine W.ret ?_
      refine ret2 rfl (v := .int .i64 _) (v' := .int .i64 _) rfl rfl ?_
      exact ⟨eR (eT2 (eI (z_c_spec_l29Taken_24 L nL hbdL hleL k hi7 h17)) (eI (z_c_spec_l29Taken_25 L nL hbdL hleL k hi7 h17))), hB16⟩
end Go.Proofs.YtlpapeeaghmjpaaDoor
