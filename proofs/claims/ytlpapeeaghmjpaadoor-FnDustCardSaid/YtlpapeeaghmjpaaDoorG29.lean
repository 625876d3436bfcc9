/- Walks, printed by a program of this claim's author. -/
import Derived.Test.YtlpapeeaghmjpaaDoorChecked
import Derived.Test.YtlpapeeaghmjpaaDoorSa
import Derived.Test.YtlpapeeaghmjpaaDoorFu
import Derived.Test.YtlpapeeaghmjpaaDoorFs
import Derived.Test.YtlpapeeaghmjpaaDoorFq
import Derived.Test.YtlpapeeaghmjpaaDoorFo
namespace Go.Proofs.YtlpapeeaghmjpaaDoor
open Go Go.RowKit Fw
set_option maxRecDepth 10000
set_option linter.unusedVariables false
theorem mo : Tryd.prog.follows .mixedOrders = true := by kernel_rfl
theorem ent111 : Ent Tryd.prog 111 := ent_of Tryd.func111 (by decide +kernel) rfl
theorem ent55 : Ent Tryd.prog 55 := ent_of Tryd.func55 (by decide +kernel) rfl
theorem ent73 : Ent Tryd.prog 73 := ent_of Tryd.func73 (by decide +kernel) rfl
theorem sca3 : TSca Tryd.prog 3 := ⟨fun _ => by kernel_rfl, fun _ => by kernel_rfl⟩
theorem tel38 : TEl Tryd.prog 38 3 (.int .i64 0) 1 8 := ⟨by kernel_rfl, by kernel_rfl, rfl, by decide⟩
theorem tsl38 : TSl Tryd.prog 38 3 1 := ⟨by kernel_rfl, fun _ => by kernel_rfl⟩
theorem und38 : Tryd.prog.underlying 38 = some (.slice 3) := by kernel_rfl

theorem z_c_spec_l1In_8 (n : Int) (a : Int) (b : Int) : ((a ≤ n) ∧ (n ≤ b)) ↔ (a ≤ n ∧ n ≤ b) := by
  omega
theorem c_spec_l1In (w : World) (n : Int) (a : Int) (b : Int) : Calls Tryd.prog 58 #[.int .i64 n, .int .i64 a, .int .i64 b] w fun e w' => e = .returned (.bool (decide (a ≤ n ∧ n ≤ b))) ∧ Lo w w' := by
  refine calls_W 15 Tryd.func58 rfl rfl rfl ?_
  refine W.seq ?_
  refine W.regS (SR.q' (r_as (v := .bool false) rfl) <| SR.nil ?_)
  refine W.seq ?_
  refine W.regJS (fun f' w' => At f' [(6, .bool (decide ((a ≤ n) ∧ (n ≤ b))))] ∧ Lo w w') ?_ ?_
  · refine SR.q' (r_mv (v := .int .i64 _) rfl) <| SR.q' (r_mv (v := .int .i64 _) rfl) <| SR.q' (r_ge rfl rfl) <| SR.q' (r_mv (v := .bool _) rfl) <| SR.splitD (fun h1 => ?_) (fun h1 => ?_)
    · refine SR.g' rfl (r_mv (v := .int .i64 _) rfl) <| SR.g' rfl (r_mv (v := .int .i64 _) rfl) <| SR.g' rfl (r_le rfl rfl) <| SR.q' (r_pick true rfl (v := .bool _) rfl) <| SR.q' (r_as (v := .bool _) rfl) <| SR.nil ?_
      exact ⟨_, rfl, ⟨⟨(eDD (jat h1)), trivial⟩, (Lo.refl _)⟩⟩
    · refine SR.s' rfl <| SR.s' rfl <| SR.s' rfl <| SR.q' (r_pick false rfl (v := .bool false) rfl) <| SR.q' (r_as (v := .bool _) rfl) <| SR.nil ?_
      exact ⟨_, rfl, ⟨⟨(eDF (jaf h1).2), trivial⟩, (Lo.refl _)⟩⟩
  rintro f2 w3 ⟨hat4, hk5⟩
  rw [← sets_of_at hat4]
  have hz6 := hk5.size
  have hB7 := (Lo.refl w).lo hk5
  refine W.ret ?_
  refine ret1 rfl (v := .bool _) rfl ?_
  exact ⟨eR (eDD (z_c_spec_l1In_8 n a b)), hB7⟩

theorem z_c_impl_within_8 (n : Int) (a : Int) (b : Int) : ((a ≤ n) ∧ (n ≤ b)) ↔ (a ≤ n ∧ n ≤ b) := by
  omega
theorem c_impl_within (w : World) (n : Int) (a : Int) (b : Int) : Calls Tryd.prog 55 #[.int .i64 n, .int .i64 a, .int .i64 b] w fun e w' => e = .returned (.bool (decide (a ≤ n ∧ n ≤ b))) ∧ Lo w w' := by
  refine calls_W 15 Tryd.func55 rfl rfl rfl ?_
  refine W.seq ?_
  refine W.regS (SR.q' (r_as (v := .bool false) rfl) <| SR.nil ?_)
  refine W.seq ?_
  refine W.regJS (fun f' w' => At f' [(6, .bool (decide ((a ≤ n) ∧ (n ≤ b))))] ∧ Lo w w') ?_ ?_
  · refine SR.q' (r_mv (v := .int .i64 _) rfl) <| SR.q' (r_mv (v := .int .i64 _) rfl) <| SR.q' (r_ge rfl rfl) <| SR.q' (r_mv (v := .bool _) rfl) <| SR.splitD (fun h1 => ?_) (fun h1 => ?_)
    · refine SR.g' rfl (r_mv (v := .int .i64 _) rfl) <| SR.g' rfl (r_mv (v := .int .i64 _) rfl) <| SR.g' rfl (r_le rfl rfl) <| SR.q' (r_pick true rfl (v := .bool _) rfl) <| SR.q' (r_as (v := .bool _) rfl) <| SR.nil ?_
      exact ⟨_, rfl, ⟨⟨(eDD (jat h1)), trivial⟩, (Lo.refl _)⟩⟩
    · refine SR.s' rfl <| SR.s' rfl <| SR.s' rfl <| SR.q' (r_pick false rfl (v := .bool false) rfl) <| SR.q' (r_as (v := .bool _) rfl) <| SR.nil ?_
      exact ⟨_, rfl, ⟨⟨(eDF (jaf h1).2), trivial⟩, (Lo.refl _)⟩⟩
  rintro f2 w3 ⟨hat4, hk5⟩
  rw [← sets_of_at hat4]
  have hz6 := hk5.size
  have hB7 := (Lo.refl w).lo hk5
  refine W.ret ?_
  refine ret1 rfl (v := .bool _) rfl ?_
  exact ⟨eR (eDD (z_c_impl_within_8 n a b)), hB7⟩

theorem c_impl_isId (w : World) (n : Int) : Calls Tryd.prog 64 #[.int .i64 n] w fun e w' => e = .returned (.bool (decide (1 ≤ n ∧ n ≤ 999))) ∧ Lo w w' := by
  refine calls_W 5 Tryd.func64 rfl rfl rfl ?_
  refine W.seq ?_
  refine W.regS (SR.q' (r_as (v := .bool false) rfl) <| SR.nil ?_)
  refine W.seq ?_
  refine W.regS (SR.q' (r_mv (v := .int .i64 _) rfl) <| SR.call ent55 (c_impl_within w n 1 999) rfl ?_)
  rintro e w1 ⟨rfl, hk2⟩
  refine ⟨_, rfl, ?_⟩
  have hz3 := hk2.size
  have hB4 := (Lo.refl w).lo hk2
  refine SR.q' (r_as (v := .bool _) rfl) <| SR.nil ?_
  refine W.ret ?_
  refine ret1 rfl (v := .bool _) rfl ?_
  exact ⟨eR rfl, hB4⟩

theorem c_impl_isKey (w : World) (n : Int) : Calls Tryd.prog 66 #[.int .i64 n] w fun e w' => e = .returned (.bool (decide (1 ≤ n ∧ n ≤ 9999))) ∧ Lo w w' := by
  refine calls_W 5 Tryd.func66 rfl rfl rfl ?_
  refine W.seq ?_
  refine W.regS (SR.q' (r_as (v := .bool false) rfl) <| SR.nil ?_)
  refine W.seq ?_
  refine W.regS (SR.q' (r_mv (v := .int .i64 _) rfl) <| SR.call ent55 (c_impl_within w n 1 9999) rfl ?_)
  rintro e w1 ⟨rfl, hk2⟩
  refine ⟨_, rfl, ?_⟩
  have hz3 := hk2.size
  have hB4 := (Lo.refl w).lo hk2
  refine SR.q' (r_as (v := .bool _) rfl) <| SR.nil ?_
  refine W.ret ?_
  refine ret1 rfl (v := .bool _) rfl ?_
  exact ⟨eR rfl, hB4⟩

theorem c_impl_isCounted (w : World) (n : Int) : Calls Tryd.prog 67 #[.int .i64 n] w fun e w' => e = .returned (.bool (decide (0 ≤ n ∧ n ≤ 9999))) ∧ Lo w w' := by
  refine calls_W 5 Tryd.func67 rfl rfl rfl ?_
  refine W.seq ?_
  refine W.regS (SR.q' (r_as (v := .bool false) rfl) <| SR.nil ?_)
  refine W.seq ?_
  refine W.regS (SR.q' (r_mv (v := .int .i64 _) rfl) <| SR.call ent55 (c_impl_within w n 0 9999) rfl ?_)
  rintro e w1 ⟨rfl, hk2⟩
  refine ⟨_, rfl, ?_⟩
  have hz3 := hk2.size
  have hB4 := (Lo.refl w).lo hk2
  refine SR.q' (r_as (v := .bool _) rfl) <| SR.nil ?_
  refine W.ret ?_
  refine ret1 rfl (v := .bool _) rfl ?_
  exact ⟨eR rfl, hB4⟩

theorem z_c_spec_l1Least_2 (a : Int) (b : Int) (h1 : a < b) : a = min a b := by
  omega
theorem z_c_spec_l1Least_3 (a : Int) (b : Int) (h1 : ¬ (a < b)) : b = min a b := by
  omega
theorem c_spec_l1Least (w : World) (a : Int) (b : Int) : Calls Tryd.prog 100 #[.int .i64 a, .int .i64 b] w fun e w' => e = .returned (.int .i64 (min a b)) ∧ Lo w w' := by
  refine calls_W 10 Tryd.func100 rfl rfl rfl ?_
  refine W.seq ?_
  refine W.regS (SR.q' (r_as (v := .int .i64 0) rfl) <| SR.nil ?_)
  refine W.seq ?_
  refine W.seq ?_
  refine W.regS (SR.q' (r_mv (v := .int .i64 _) rfl) <| SR.q' (r_mv (v := .int .i64 _) rfl) <| SR.q' (r_lt rfl rfl) <| SR.nil ?_)
  refine W.cond_d rfl (fun h1 => ?_) (fun h1 => ?_)
  · refine W.seq ?_
    refine W.regS (SR.q' (r_mv (v := .int .i64 _) rfl) <| SR.q' (r_as (v := .int .i64 _) rfl) <| SR.nil ?_)
    refine W.ret ?_
    refine ret1 rfl (v := .int .i64 _) rfl ?_
    exact ⟨eR (eI (z_c_spec_l1Least_2 a b h1)), (Lo.refl w)⟩
  · refine W.skip ?_
    refine W.seq ?_
    refine W.regS (SR.q' (r_mv (v := .int .i64 _) rfl) <| SR.q' (r_as (v := .int .i64 _) rfl) <| SR.nil ?_)
    refine W.ret ?_
    refine ret1 rfl (v := .int .i64 _) rfl ?_
    exact ⟨eR (eI (z_c_spec_l1Least_3 a b h1)), (Lo.refl w)⟩

theorem z_c_spec_l1Most_2 (a : Int) (b : Int) (h1 : b < a) : a = max a b := by
  omega
theorem z_c_spec_l1Most_3 (a : Int) (b : Int) (h1 : ¬ (b < a)) : b = max a b := by
  omega
theorem c_spec_l1Most (w : World) (a : Int) (b : Int) : Calls Tryd.prog 142 #[.int .i64 a, .int .i64 b] w fun e w' => e = .returned (.int .i64 (max a b)) ∧ Lo w w' := by
  refine calls_W 10 Tryd.func142 rfl rfl rfl ?_
  refine W.seq ?_
  refine W.regS (SR.q' (r_as (v := .int .i64 0) rfl) <| SR.nil ?_)
  refine W.seq ?_
  refine W.seq ?_
  refine W.regS (SR.q' (r_mv (v := .int .i64 _) rfl) <| SR.q' (r_mv (v := .int .i64 _) rfl) <| SR.q' (r_gt rfl rfl) <| SR.nil ?_)
  refine W.cond_d rfl (fun h1 => ?_) (fun h1 => ?_)
  · refine W.seq ?_
    refine W.regS (SR.q' (r_mv (v := .int .i64 _) rfl) <| SR.q' (r_as (v := .int .i64 _) rfl) <| SR.nil ?_)
    refine W.ret ?_
    refine ret1 rfl (v := .int .i64 _) rfl ?_
    exact ⟨eR (eI (z_c_spec_l1Most_2 a b h1)), (Lo.refl w)⟩
  · refine W.skip ?_
    refine W.seq ?_
    refine W.regS (SR.q' (r_mv (v := .int .i64 _) rfl) <| SR.q' (r_as (v := .int .i64 _) rfl) <| SR.nil ?_)
    refine W.ret ?_
    refine ret1 rfl (v := .int .i64 _) rfl ?_
    exact ⟨eR (eI (z_c_spec_l1Most_3 a b h1)), (Lo.refl w)⟩

theorem z_c_slices_Index___int_int__1 (L : List Int) (nL : Nat) (hbdL : (nL : Int) ≤ 9223372036854775807) (hleL : nL = L.length) (v : Int) : 0 ≤ nL ∧ NoneTo (eqI v) L 0 := by
  exact ⟨Nat.zero_le _, NoneTo.zero⟩
theorem z_c_slices_Index___int_int__12 (L : List Int) (nL : Nat) (hbdL : (nL : Int) ≤ 9223372036854775807) (hleL : nL = L.length) (v : Int) (k : Nat) (hi7 : k ≤ nL ∧ NoneTo (eqI v) L k) (h8 : (k : Int) < (nL : Int)) (x9 : Int) (hx10 : L[k]? = some x9) (h11 : v = x9) : (k : Int) = idxF (eqI v) L := by
  first | exact idx_at (And.right ‹_ ∧ NoneTo _ L _›) ‹L[_]? = some _› (by simp_all [eqI]) | exact idx_no (And.right ‹_ ∧ NoneTo _ L _›) hleL ‹_›
theorem z_c_slices_Index___int_int__13 (L : List Int) (nL : Nat) (hbdL : (nL : Int) ≤ 9223372036854775807) (hleL : nL = L.length) (v : Int) (k : Nat) (hi7 : k ≤ nL ∧ NoneTo (eqI v) L k) (h8 : (k : Int) < (nL : Int)) (x9 : Int) (hx10 : L[k]? = some x9) (h11 : ¬ (v = x9)) : k + 1 ≤ nL ∧ NoneTo (eqI v) L (k + 1) := by
  exact ⟨by omega, NoneTo.next (And.right ‹_ ∧ NoneTo _ L _›) ‹L[k]? = some _› (by simp only [eqI, decide_eq_false_iff_not]; omega)⟩
theorem z_c_slices_Index___int_int__14 (L : List Int) (nL : Nat) (hbdL : (nL : Int) ≤ 9223372036854775807) (hleL : nL = L.length) (v : Int) (k : Nat) (hi7 : k ≤ nL ∧ NoneTo (eqI v) L k) (h8 : (k : Int) < (nL : Int)) (x9 : Int) (hx10 : L[k]? = some x9) (h11 : ¬ (v = x9)) : nL - (k + 1) < nL - k := by
  omega
theorem z_c_slices_Index___int_int__15 (L : List Int) (nL : Nat) (hbdL : (nL : Int) ≤ 9223372036854775807) (hleL : nL = L.length) (v : Int) (k : Nat) (hi7 : k ≤ nL ∧ NoneTo (eqI v) L k) (h8 : ¬ ((k : Int) < (nL : Int))) : (-1) = idxF (eqI v) L := by
  first | exact idx_at (And.right ‹_ ∧ NoneTo _ L _›) ‹L[_]? = some _› (by simp_all [eqI]) | exact idx_no (And.right ‹_ ∧ NoneTo _ L _›) hleL ‹_›
theorem c_slices_Index___int_int_ (w : World) {AL : Option Addr} {nL cL BL : Nat}  (L : List Int) (hL : SlR w BL encI 1 AL nL cL L) (v : Int) : Calls Tryd.prog 73 #[.slice AL nL cL, .int .i64 v] w fun e w' => e = .returned (.int .i64 (idxF (eqI v) L)) ∧ Lo w w' := by
  refine calls_W 19 Tryd.func73 rfl rfl rfl ?_
  have hbdL := hL.bound
  have hleL := hL.len
  have hBbL := hL.bd
  refine W.seq ?_
  refine W.regS (SR.q' (r_as (v := .int .i64 0) rfl) <| SR.nil ?_)
  refine W.seq ?_
  refine W.seq ?_
  refine W.regS (SR.q' (r_mv (v := .slice _ _ _) rfl) <| SR.q' (r_len und38 rfl) <| SR.q' (r_mv (v := .int .i64 0) rfl) <| SR.nil ?_)
  refine W.block ?_
  refine W.loop (σ := Nat) (fun g => [(0, .slice AL nL cL), (1, .int .i64 v), (7, .int .i64 (nL : Int)), (8, .int .i64 (g : Int))]) (fun g w' => (Lo w w') ∧ (SlR w' BL encI 1 AL nL cL L) ∧ (g ≤ nL ∧ NoneTo (eqI v) L g)) (fun g => nL - g) 0 ?_ ?_ ?_
  · exact ⟨rfl, rfl, rfl, rfl, trivial⟩
  · exact ⟨(Lo.refl w), hL, (z_c_slices_Index___int_int__1 L nL hbdL hleL v)⟩
  · rintro k f2 w3 hP5
    obtain ⟨hB4, hm6, hi7⟩ : (Lo w w3) ∧ (SlR w3 BL encI 1 AL nL cL L) ∧ (k ≤ nL ∧ NoneTo (eqI v) L k) := hP5
    refine (?_ : W _ _ _ _ _ (act _ (sets f2 [(0, .slice AL nL cL), (1, .int .i64 v), (7, .int .i64 (nL : Int)), (8, .int .i64 (k : Int))])) _)
    have hzw3 := hB4.size
    refine W.seq ?_
    refine W.regS (SR.q' (r_lt rfl rfl) <| SR.nil ?_)
    refine W.seq ?_
    refine W.cond_d rfl (fun h8 => ?_) (fun h8 => ?_)
    · refine W.skip ?_
      refine W.seq ?_
      refine W.block ?_
      refine W.seq ?_
      refine W.regS (SR.q' (r_mv (v := .int .i64 _) rfl) <| SR.q' (r_as (v := .int .i64 _) rfl) <| SR.nil ?_)
      refine W.seq ?_
      refine W.regS (SR.q' (r_mv (v := .int .i64 _) rfl) <| SR.q' (r_mv (v := .slice _ _ _) rfl) <| SR.q' (r_mv (v := .int .i64 _) rfl) <| ?_)
      obtain ⟨x9, hx10⟩ := (hm6).get (i := k) (by omega)
      refine SR.q' (r_ixR tsl38 (hm6) rfl rfl (by omega)) <| SR.q' (r_ld (v := .int .i64 x9) sca3 rfl ((hm6).cell0 hx10 rfl)) <| SR.q' (r_eq rfl rfl) <| SR.nil ?_
      refine W.cond_d rfl (fun h11 => ?_) (fun h11 => ?_)
      · refine W.seq ?_
        refine W.regS (SR.q' (r_mv (v := .int .i64 _) rfl) <| SR.q' (r_as (v := .int .i64 _) rfl) <| SR.nil ?_)
        refine W.ret ?_
        refine ret1 rfl (v := .int .i64 _) rfl ?_
        exact ⟨eR (eI (z_c_slices_Index___int_int__12 L nL hbdL hleL v k hi7 h8 x9 hx10 h11)), hB4⟩
      · refine W.skip ?_
        refine W.regS (SR.q' (r_add rfl rfl (by omega)) <| SR.q' (r_mv (v := .int .i64 _) rfl) <| SR.nil ?_)
        refine ⟨k + 1, _, rfl, ⟨rfl, rfl, rfl, rfl, trivial⟩, ⟨hB4, hm6, ?_⟩, ?_⟩
        · exact (z_c_slices_Index___int_int__13 L nL hbdL hleL v k hi7 h8 x9 hx10 h11)
        · exact (z_c_slices_Index___int_int__14 L nL hbdL hleL v k hi7 h8 x9 hx10 h11)
    · refine W.exit (xin_here ?_)
      refine W.seq ?_
      refine W.regS (SR.q' (r_as (v := .int .i64 (-1)) rfl) <| SR.nil ?_)
      refine W.ret ?_
      refine ret1 rfl (v := .int .i64 _) rfl ?_
      exact ⟨eR (eI (z_c_slices_Index___int_int__15 L nL hbdL hleL v k hi7 h8)), hB4⟩

theorem z_c_spec_l21Find_1 (L : List Int) (nL : Nat) (hbdL : (nL : Int) ≤ 9223372036854775807) (hleL : nL = L.length) (v : Int) : 0 ≤ nL ∧ NoneTo (eqI v) L 0 := by
  exact ⟨Nat.zero_le _, NoneTo.zero⟩
theorem z_c_spec_l21Find_12 (L : List Int) (nL : Nat) (hbdL : (nL : Int) ≤ 9223372036854775807) (hleL : nL = L.length) (v : Int) (k : Nat) (hi7 : k ≤ nL ∧ NoneTo (eqI v) L k) (h8 : (k : Int) < (nL : Int)) (x9 : Int) (hx10 : L[k]? = some x9) (h11 : x9 = v) : (k : Int) = idxF (eqI v) L := by
  first | exact idx_at (And.right ‹_ ∧ NoneTo _ L _›) ‹L[_]? = some _› (by simp_all [eqI]) | exact idx_no (And.right ‹_ ∧ NoneTo _ L _›) hleL ‹_›
theorem z_c_spec_l21Find_13 (L : List Int) (nL : Nat) (hbdL : (nL : Int) ≤ 9223372036854775807) (hleL : nL = L.length) (v : Int) (k : Nat) (hi7 : k ≤ nL ∧ NoneTo (eqI v) L k) (h8 : (k : Int) < (nL : Int)) (x9 : Int) (hx10 : L[k]? = some x9) (h11 : ¬ (x9 = v)) : k + 1 ≤ nL ∧ NoneTo (eqI v) L (k + 1) := by
  exact ⟨by omega, NoneTo.next (And.right ‹_ ∧ NoneTo _ L _›) ‹L[k]? = some _› (by simp only [eqI, decide_eq_false_iff_not]; omega)⟩
theorem z_c_spec_l21Find_14 (L : List Int) (nL : Nat) (hbdL : (nL : Int) ≤ 9223372036854775807) (hleL : nL = L.length) (v : Int) (k : Nat) (hi7 : k ≤ nL ∧ NoneTo (eqI v) L k) (h8 : (k : Int) < (nL : Int)) (x9 : Int) (hx10 : L[k]? = some x9) (h11 : ¬ (x9 = v)) : nL - (k + 1) < nL - k := by
  omega
theorem z_c_spec_l21Find_15 (L : List Int) (nL : Nat) (hbdL : (nL : Int) ≤ 9223372036854775807) (hleL : nL = L.length) (v : Int) (k : Nat) (hi7 : k ≤ nL ∧ NoneTo (eqI v) L k) (h8 : ¬ ((k : Int) < (nL : Int))) : (-1) = idxF (eqI v) L := by
  first | exact idx_at (And.right ‹_ ∧ NoneTo _ L _›) ‹L[_]? = some _› (by simp_all [eqI]) | exact idx_no (And.right ‹_ ∧ NoneTo _ L _›) hleL ‹_›
theorem c_spec_l21Find (w : World) {AL : Option Addr} {nL cL BL : Nat}  (L : List Int) (hL : SlR w BL encI 1 AL nL cL L) (v : Int) : Calls Tryd.prog 98 #[.slice AL nL cL, .int .i64 v] w fun e w' => e = .returned (.int .i64 (idxF (eqI v) L)) ∧ Lo w w' := by
  refine calls_W 19 Tryd.func98 rfl rfl rfl ?_
  have hbdL := hL.bound
  have hleL := hL.len
  have hBbL := hL.bd
  refine W.seq ?_
  refine W.regS (SR.q' (r_as (v := .int .i64 0) rfl) <| SR.nil ?_)
  refine W.seq ?_
  refine W.seq ?_
  refine W.regS (SR.q' (r_as (v := .int .i64 0) rfl) <| SR.nil ?_)
  refine W.block ?_
  refine W.loop (σ := Nat) (fun g => [(0, .slice AL nL cL), (1, .int .i64 v), (5, .int .i64 (g : Int))]) (fun g w' => (Lo w w') ∧ (SlR w' BL encI 1 AL nL cL L) ∧ (g ≤ nL ∧ NoneTo (eqI v) L g)) (fun g => nL - g) 0 ?_ ?_ ?_
  · exact ⟨rfl, rfl, rfl, trivial⟩
  · exact ⟨(Lo.refl w), hL, (z_c_spec_l21Find_1 L nL hbdL hleL v)⟩
  · rintro k f2 w3 hP5
    obtain ⟨hB4, hm6, hi7⟩ : (Lo w w3) ∧ (SlR w3 BL encI 1 AL nL cL L) ∧ (k ≤ nL ∧ NoneTo (eqI v) L k) := hP5
    refine (?_ : W _ _ _ _ _ (act _ (sets f2 [(0, .slice AL nL cL), (1, .int .i64 v), (5, .int .i64 (k : Int))])) _)
    have hzw3 := hB4.size
    refine W.seq ?_
    refine W.seq ?_
    refine W.regS (SR.q' (r_mv (v := .int .i64 _) rfl) <| SR.q' (r_mv (v := .slice _ _ _) rfl) <| SR.q' (r_len und38 rfl) <| SR.q' (r_lt rfl rfl) <| SR.nil ?_)
    refine W.cond_d rfl (fun h8 => ?_) (fun h8 => ?_)
    · refine W.skip ?_
      refine W.seq ?_
      refine W.block ?_
      refine W.seq ?_
      refine W.regS (SR.q' (r_mv (v := .slice _ _ _) rfl) <| SR.q' (r_mv (v := .int .i64 _) rfl) <| ?_)
      obtain ⟨x9, hx10⟩ := (hm6).get (i := k) (by omega)
      refine SR.q' (r_ixR tsl38 (hm6) rfl rfl (by omega)) <| SR.q' (r_ld (v := .int .i64 x9) sca3 rfl ((hm6).cell0 hx10 rfl)) <| SR.q' (r_mv (v := .int .i64 _) rfl) <| SR.q' (r_eq rfl rfl) <| SR.nil ?_
      refine W.cond_d rfl (fun h11 => ?_) (fun h11 => ?_)
      · refine W.seq ?_
        refine W.regS (SR.q' (r_mv (v := .int .i64 _) rfl) <| SR.q' (r_as (v := .int .i64 _) rfl) <| SR.nil ?_)
        refine W.ret ?_
        refine ret1 rfl (v := .int .i64 _) rfl ?_
        exact ⟨eR (eI (z_c_spec_l21Find_12 L nL hbdL hleL v k hi7 h8 x9 hx10 h11)), hB4⟩
      · refine W.skip ?_
        refine W.regS (SR.q' (r_mv (v := .int .i64 _) rfl) <| SR.q' (r_add rfl rfl (by omega)) <| SR.q' (r_as (v := .int .i64 _) rfl) <| SR.nil ?_)
        refine ⟨k + 1, _, rfl, ⟨rfl, rfl, rfl, trivial⟩, ⟨hB4, hm6, ?_⟩, ?_⟩
        · exact (z_c_spec_l21Find_13 L nL hbdL hleL v k hi7 h8 x9 hx10 h11)
        · exact (z_c_spec_l21Find_14 L nL hbdL hleL v k hi7 h8 x9 hx10 h11)
    · refine W.exit (xin_here ?_)
      refine W.seq ?_
      refine W.regS (SR.q' (r_as (v := .int .i64 (-1)) rfl) <| SR.nil ?_)
      refine W.ret ?_
      refine ret1 rfl (v := .int .i64 _) rfl ?_
      exact ⟨eR (eI (z_c_spec_l21Find_15 L nL hbdL hleL v k hi7 h8)), hB4⟩

theorem z_c_slices_Contains___int_int__6 (L : List Int) (nL : Nat) (hbdL : (nL : Int) ≤ 9223372036854775807) (hleL : nL = L.length) (v : Int) (hq5 : idxF (eqI v) L < (L.length : Int) ∧ -1 ≤ idxF (eqI v) L) : (0 ≤ (idxF (eqI v) L)) ↔ (v ∈ L) := by
  exact mem_idx.symm
theorem c_slices_Contains___int_int_ (w : World) {AL : Option Addr} {nL cL BL : Nat}  (L : List Int) (hL : SlR w BL encI 1 AL nL cL L) (v : Int) : Calls Tryd.prog 65 #[.slice AL nL cL, .int .i64 v] w fun e w' => e = .returned (.bool (decide (v ∈ L))) ∧ Lo w w' := by
  refine calls_W 9 Tryd.func65 rfl rfl rfl ?_
  have hbdL := hL.bound
  have hleL := hL.len
  have hBbL := hL.bd
  refine W.seq ?_
  refine W.regS (SR.q' (r_as (v := .bool false) rfl) <| SR.nil ?_)
  refine W.seq ?_
  refine W.regS (SR.q' (r_mv (v := .slice _ _ _) rfl) <| SR.q' (r_mv (v := .int .i64 _) rfl) <| SR.call ent73 (c_slices_Index___int_int_ w L ((hL)) v) rfl ?_)
  rintro e w1 ⟨rfl, hk2⟩
  refine ⟨_, rfl, ?_⟩
  have hz3 := hk2.size
  have hB4 := (Lo.refl w).lo hk2
  have hq5 : idxF (eqI v) L < (L.length : Int) ∧ -1 ≤ idxF (eqI v) L := idx_lt
  refine SR.q' (r_ge rfl rfl) <| SR.q' (r_as (v := .bool _) rfl) <| SR.nil ?_
  refine W.ret ?_
  refine ret1 rfl (v := .bool _) rfl ?_
  exact ⟨eR (eDD (z_c_slices_Contains___int_int__6 L nL hbdL hleL v hq5)), hB4⟩

theorem z_c_slices_Clone___int_int__3 (L : List Int) (nL : Nat) (hbdL : (nL : Int) ≤ 9223372036854775807) (hleL : nL = L.length) (hp0 : (nL : Int) ≤ 1048576) (hq2 : nL = 0) : ([] : List Int) = L := by
  first | rfl | (exact (List.eq_nil_of_length_eq_zero (by omega)).symm)
theorem c_slices_Clone___int_int_ (w : World) {AL : Option Addr} {nL cL BL : Nat}  (L : List Int) (hL : SlR w BL encI 1 AL nL cL L) (hp0 : (nL : Int) ≤ 1048576) : Calls Tryd.prog 104 #[.slice AL nL cL] w fun e w' => ∃ (A1' : Option Addr) (n1' c1' : Nat), e = .returned (.slice A1' n1' c1') ∧ SlO w' w.heap.size encI 1 3 A1' n1' c1' L ∧ Lo w w' := by
  refine calls_W 8 Tryd.func104 rfl rfl rfl ?_
  have hbdL := hL.bound
  have hleL := hL.len
  have hBbL := hL.bd
  refine W.seq ?_
  refine W.regS (SR.q' (r_as (v := .slice none 0 0) rfl) <| SR.nil ?_)
  refine W.seq ?_
  refine W.seq ?_
  refine W.regS (SR.q' (r_mv (v := .slice _ _ _) rfl) <| SR.q' (r_eqlnil und38 rfl rfl) <| SR.nil ?_)
  refine W.cond_b rfl (fun h1 => ?_) (fun h1 => ?_)
  · have hq2 := slR_nil hL h1
    refine W.seq ?_
    refine W.regS (SR.q' (r_as (v := .slice none 0 0) rfl) <| SR.nil ?_)
    refine W.ret ?_
    refine ret1 rfl (v := .slice none 0 0) rfl ?_
    exact ⟨none, 0, 0, eR rfl, (SlO.eqv (SlO.nil (e := 3) (enc := encI) (fun _ => rfl) (Nat.le_refl _)) (z_c_slices_Clone___int_int__3 L nL hbdL hleL hp0 hq2)), (Lo.refl w)⟩
  · refine W.skip ?_
    refine W.seq ?_
    refine W.regS (SR.lit (vs := []) (L := ([] : List Int)) (enc := encI) tel38 (fun _ => rfl) rfl rfl rfl (by decide) ?_)
    intro g4 w5 hg6 hk7 hO8
    have hz9 := hk7.size
    have hB10 := (Lo.refl w).lo hk7
    refine SR.q' (r_mv (v := .slice _ _ _) rfl) <| SR.app tel38 rfl rfl (hO8) ((hL).lo hk7) (fun _ => rfl) (by omega) (by omega) ?_
    intro A11 c12 w13 hk14 hO15 hN16
    have hz17 := hk14.size
    have hB18 := hB10.step hk14 (fun i_ hi_ e' => by have := ((hO8)).base_le e'; first | omega | (exfalso; omega) | exact e' | exact .inl e' | exact .inr e')
    rw [List.nil_append] at hO15
    refine SR.q' (r_as (v := .slice _ _ _) rfl) <| SR.nil ?_
    refine W.ret ?_
    refine ret1 rfl (v := .slice _ _ _) rfl ?_
    exact ⟨A11, 0 + nL, c12, eR rfl, ((hO15).down (by omega)), hB18⟩

theorem c_spec_l1Own (w : World) {AL : Option Addr} {nL cL BL : Nat}  (L : List Int) (hL : SlR w BL encI 1 AL nL cL L) (hp0 : (nL : Int) ≤ 1048576) : Calls Tryd.prog 119 #[.slice AL nL cL] w fun e w' => ∃ (A1' : Option Addr) (n1' c1' : Nat), e = .returned (.slice A1' n1' c1') ∧ SlO w' w.heap.size encI 1 3 A1' n1' c1' L ∧ Lo w w' := by
  refine calls_W 6 Tryd.func119 rfl rfl rfl ?_
  have hbdL := hL.bound
  have hleL := hL.len
  have hBbL := hL.bd
  refine W.seq ?_
  refine W.regS (SR.q' (r_as (v := .slice none 0 0) rfl) <| SR.nil ?_)
  refine W.seq ?_
  refine W.regS (SR.lit (vs := []) (L := ([] : List Int)) (enc := encI) tel38 (fun _ => rfl) rfl rfl rfl (by decide) ?_)
  intro g1 w2 hg3 hk4 hO5
  have hz6 := hk4.size
  have hB7 := (Lo.refl w).lo hk4
  refine SR.q' (r_mv (v := .slice _ _ _) rfl) <| SR.app tel38 rfl rfl (hO5) ((hL).lo hk4) (fun _ => rfl) (by omega) (by omega) ?_
  intro A8 c9 w10 hk11 hO12 hN13
  have hz14 := hk11.size
  have hB15 := hB7.step hk11 (fun i_ hi_ e' => by have := ((hO5)).base_le e'; first | omega | (exfalso; omega) | exact e' | exact .inl e' | exact .inr e')
  rw [List.nil_append] at hO12
  refine SR.q' (r_as (v := .slice _ _ _) rfl) <| SR.nil ?_
  refine W.ret ?_
  refine ret1 rfl (v := .slice _ _ _) rfl ?_
  exact ⟨A8, 0 + nL, c9, eR rfl, ((hO12).down (by omega)), hB15⟩

theorem z_c_slices_IndexFunc___int_int__1 (L : List Int) (nL : Nat) (hbdL : (nL : Int) ≤ 9223372036854775807) (hleL : nL = L.length) (p : Int → Bool) : 0 ≤ nL ∧ NoneTo p L 0 := by
  exact ⟨Nat.zero_le _, NoneTo.zero⟩
theorem z_c_slices_IndexFunc___int_int__16 (L : List Int) (nL : Nat) (hbdL : (nL : Int) ≤ 9223372036854775807) (hleL : nL = L.length) (p : Int → Bool) (k : Nat) (hi7 : k ≤ nL ∧ NoneTo p L k) (h8 : (k : Int) < (nL : Int)) (hx10 : L[k]? = some (gt L k)) (h15 : (p (gt L k)) = true) : (k : Int) = idxF p L := by
  first | exact idx_at (And.right ‹_ ∧ NoneTo p L _›) ‹L[_]? = some _› ‹_› | exact idx_no (And.right ‹_ ∧ NoneTo p L _›) hleL ‹_›
theorem z_c_slices_IndexFunc___int_int__17 (L : List Int) (nL : Nat) (hbdL : (nL : Int) ≤ 9223372036854775807) (hleL : nL = L.length) (p : Int → Bool) (k : Nat) (hi7 : k ≤ nL ∧ NoneTo p L k) (h8 : (k : Int) < (nL : Int)) (hx10 : L[k]? = some (gt L k)) (h15 : (p (gt L k)) = false) : k + 1 ≤ nL ∧ NoneTo p L (k + 1) := by
  exact ⟨by omega, NoneTo.next (And.right ‹_ ∧ NoneTo p L _›) ‹L[k]? = some _› ‹_›⟩
theorem z_c_slices_IndexFunc___int_int__18 (L : List Int) (nL : Nat) (hbdL : (nL : Int) ≤ 9223372036854775807) (hleL : nL = L.length) (p : Int → Bool) (k : Nat) (hi7 : k ≤ nL ∧ NoneTo p L k) (h8 : (k : Int) < (nL : Int)) (hx10 : L[k]? = some (gt L k)) (h15 : (p (gt L k)) = false) : nL - (k + 1) < nL - k := by
  omega
theorem z_c_slices_IndexFunc___int_int__19 (L : List Int) (nL : Nat) (hbdL : (nL : Int) ≤ 9223372036854775807) (hleL : nL = L.length) (p : Int → Bool) (k : Nat) (hi7 : k ≤ nL ∧ NoneTo p L k) (h8 : ¬ ((k : Int) < (nL : Int))) : (-1) = idxF p L := by
  first | exact idx_at (And.right ‹_ ∧ NoneTo p L _›) ‹L[_]? = some _› ‹_› | exact idx_no (And.right ‹_ ∧ NoneTo p L _›) hleL ‹_›
theorem c_slices_IndexFunc___int_int_ (w : World) {AL : Option Addr} {nL cL BL : Nat}  (L : List Int) (hL : SlR w BL encI 1 AL nL cL L) {kp : Nat} {capp : List Value} (p : Int → Bool) (hp : Fnc Tryd.prog w kp capp (fun x => .int .i64 x) p) : Calls Tryd.prog 111 #[.slice AL nL cL, .func (.func kp) #[] (List.toArray capp)] w fun e w' => e = .returned (.int .i64 (idxF p L)) ∧ Lo w w' := by
  refine calls_W 19 Tryd.func111 rfl rfl rfl ?_
  have hbdL := hL.bound
  have hleL := hL.len
  have hBbL := hL.bd
  refine W.seq ?_
  refine W.regS (SR.q' (r_as (v := .int .i64 0) rfl) <| SR.nil ?_)
  refine W.seq ?_
  refine W.seq ?_
  refine W.regS (SR.q' (r_mv (v := .slice _ _ _) rfl) <| SR.q' (r_len und38 rfl) <| SR.q' (r_mv (v := .int .i64 0) rfl) <| SR.nil ?_)
  refine W.block ?_
  refine W.loop (σ := Nat) (fun g => [(0, .slice AL nL cL), (1, .func (.func kp) #[] (List.toArray capp)), (7, .int .i64 (nL : Int)), (8, .int .i64 (g : Int))]) (fun g w' => (Lo w w') ∧ (SlR w' BL encI 1 AL nL cL L) ∧ (g ≤ nL ∧ NoneTo p L g)) (fun g => nL - g) 0 ?_ ?_ ?_
  · exact ⟨rfl, rfl, rfl, rfl, trivial⟩
  · exact ⟨(Lo.refl w), hL, (z_c_slices_IndexFunc___int_int__1 L nL hbdL hleL p)⟩
  · rintro k f2 w3 hP5
    obtain ⟨hB4, hm6, hi7⟩ : (Lo w w3) ∧ (SlR w3 BL encI 1 AL nL cL L) ∧ (k ≤ nL ∧ NoneTo p L k) := hP5
    refine (?_ : W _ _ _ _ _ (act _ (sets f2 [(0, .slice AL nL cL), (1, .func (.func kp) #[] (List.toArray capp)), (7, .int .i64 (nL : Int)), (8, .int .i64 (k : Int))])) _)
    have hzw3 := hB4.size
    refine W.seq ?_
    refine W.regS (SR.q' (r_lt rfl rfl) <| SR.nil ?_)
    refine W.seq ?_
    refine W.cond_d rfl (fun h8 => ?_) (fun h8 => ?_)
    · refine W.skip ?_
      refine W.seq ?_
      refine W.block ?_
      refine W.seq ?_
      refine W.regS (SR.q' (r_mv (v := .int .i64 _) rfl) <| SR.q' (r_as (v := .int .i64 _) rfl) <| SR.nil ?_)
      refine W.seq ?_
      refine W.regS (SR.q' (r_mv (v := .func _ #[] (List.toArray _)) rfl) <| SR.q' (r_mv (v := .slice _ _ _) rfl) <| SR.q' (r_mv (v := .int .i64 _) rfl) <| ?_)
      have hx10 := (hm6).elem (i := k) (by omega)
      refine SR.q' (r_ixR tsl38 (hm6) rfl rfl (by omega)) <| SR.q' (r_ld (v := .int .i64 (gt L k)) sca3 rfl ((hm6).cell0 hx10 rfl)) <| SR.callv (hp).1 rfl ((hp).2 _ hB4 (gt L k)) rfl ?_
      rintro e w11 ⟨rfl, hk12⟩
      refine ⟨_, rfl, ?_⟩
      have hz13 := hk12.size
      have hB14 := hB4.lo hk12
      refine SR.nil ?_
      refine W.cond_b rfl (fun h15 => ?_) (fun h15 => ?_)
      · refine W.seq ?_
        refine W.regS (SR.q' (r_mv (v := .int .i64 _) rfl) <| SR.q' (r_as (v := .int .i64 _) rfl) <| SR.nil ?_)
        refine W.ret ?_
        refine ret1 rfl (v := .int .i64 _) rfl ?_
        exact ⟨eR (eI (z_c_slices_IndexFunc___int_int__16 L nL hbdL hleL p k hi7 h8 hx10 h15)), hB14⟩
      · refine W.skip ?_
        refine W.regS (SR.q' (r_add rfl rfl (by omega)) <| SR.q' (r_mv (v := .int .i64 _) rfl) <| SR.nil ?_)
        refine ⟨k + 1, _, rfl, ⟨rfl, rfl, rfl, rfl, trivial⟩, ⟨hB14, (hm6).lo hk12, ?_⟩, ?_⟩
        · exact (z_c_slices_IndexFunc___int_int__17 L nL hbdL hleL p k hi7 h8 hx10 h15)
        · exact (z_c_slices_IndexFunc___int_int__18 L nL hbdL hleL p k hi7 h8 hx10 h15)
    · refine W.exit (xin_here ?_)
      refine W.seq ?_
      refine W.regS (SR.q' (r_as (v := .int .i64 (-1)) rfl) <| SR.nil ?_)
      refine W.ret ?_
      refine ret1 rfl (v := .int .i64 _) rfl ?_
      exact ⟨eR (eI (z_c_slices_IndexFunc___int_int__19 L nL hbdL hleL p k hi7 h8)), hB4⟩

theorem z_c_slices_ContainsFunc___int_int__6 (L : List Int) (nL : Nat) (hbdL : (nL : Int) ≤ 9223372036854775807) (hleL : nL = L.length) (p : Int → Bool) (hq5 : idxF p L < (L.length : Int) ∧ -1 ≤ idxF p L) : decide (0 ≤ (idxF p L)) = L.any p := by
  rw [Bool.eq_iff_iff, decide_eq_true_eq]; exact any_idx
theorem c_slices_ContainsFunc___int_int_ (w : World) {AL : Option Addr} {nL cL BL : Nat}  (L : List Int) (hL : SlR w BL encI 1 AL nL cL L) {kp : Nat} {capp : List Value} (p : Int → Bool) (hp : Fnc Tryd.prog w kp capp (fun x => .int .i64 x) p) : Calls Tryd.prog 76 #[.slice AL nL cL, .func (.func kp) #[] (List.toArray capp)] w fun e w' => e = .returned (.bool (L.any p)) ∧ Lo w w' := by
  refine calls_W 9 Tryd.func76 rfl rfl rfl ?_
  have hbdL := hL.bound
  have hleL := hL.len
  have hBbL := hL.bd
  refine W.seq ?_
  refine W.regS (SR.q' (r_as (v := .bool false) rfl) <| SR.nil ?_)
  refine W.seq ?_
  refine W.regS (SR.q' (r_mv (v := .slice _ _ _) rfl) <| SR.q' (r_mv (v := .func _ #[] (List.toArray _)) rfl) <| SR.call ent111 (c_slices_IndexFunc___int_int_ w L ((hL)) p (hp.lo (Lo.refl w))) rfl ?_)
  rintro e w1 ⟨rfl, hk2⟩
  refine ⟨_, rfl, ?_⟩
  have hz3 := hk2.size
  have hB4 := (Lo.refl w).lo hk2
  have hq5 : idxF p L < (L.length : Int) ∧ -1 ≤ idxF p L := idx_lt
  refine SR.q' (r_ge rfl rfl) <| SR.q' (r_as (v := .bool _) rfl) <| SR.nil ?_
  refine W.ret ?_
  refine ret1 rfl (v := .bool _) rfl ?_
  exact ⟨eR (eB (z_c_slices_ContainsFunc___int_int__6 L nL hbdL hleL p hq5)), hB4⟩
end Go.Proofs.YtlpapeeaghmjpaaDoor
