/- Walks, printed by a program of this claim's author. -/
import Derived.Test.YtocpdkhahmbaiaaDoorChecked
import Derived.Test.YtocpdkhahmbaiaaDoorUt
import Derived.Test.YtocpdkhahmbaiaaDoorWb
import Derived.Test.YtocpdkhahmbaiaaDoorFt
import Derived.Test.YtocpdkhahmbaiaaDoorSi
import Derived.Test.YtocpdkhahmbaiaaDoorG33u
namespace Go.Proofs.YtocpdkhahmbaiaaDoor
open Go Go.RowKit Fw
set_option maxRecDepth 10000
set_option linter.unusedVariables false
theorem ent51 : Ent Tryd.prog 51 := ent_of Tryd.func51 (by decide +kernel) rfl
theorem ent52 : Ent Tryd.prog 52 := ent_of Tryd.func52 (by decide +kernel) rfl
theorem ent53 : Ent Tryd.prog 53 := ent_of Tryd.func53 (by decide +kernel) rfl
theorem ent54 : Ent Tryd.prog 54 := ent_of Tryd.func54 (by decide +kernel) rfl
theorem ent64 : Ent Tryd.prog 64 := ent_of Tryd.func64 (by decide +kernel) rfl
theorem tel74 : TEl Tryd.prog 74 3 (.int .i64 0) 1 8 := ⟨by kernel_rfl, by kernel_rfl, rfl, by decide⟩
theorem tsl74 : TSl Tryd.prog 74 3 1 := ⟨by kernel_rfl, fun _ => by kernel_rfl⟩
theorem und74 : Tryd.prog.underlying 74 = some (.slice 3) := by kernel_rfl
theorem und98 : Tryd.prog.underlying 98 = some (.int .u64) := by kernel_rfl

theorem c_cmp_isNaN_int_ (w : World) (a : Int) : Calls Tryd.prog 64 #[.int .i64 a] w fun e w' => e = .returned (.bool false) ∧ Lo w w' := by
  refine calls_W 6 Tryd.func64 rfl rfl rfl ?_
  refine W.seq ?_
  refine W.regS (SR.q' (r_as (v := .bool false) rfl) <| SR.nil ?_)
  refine W.seq ?_
  refine W.regS (SR.q' (r_mv (v := .int .i64 _) rfl) <| SR.q' (r_mv (v := .int .i64 _) rfl) <| SR.q' (r_ne_s rfl rfl) <| SR.q' (r_as (v := .bool _) rfl) <| SR.nil ?_)
  refine W.ret ?_
  refine ret1 rfl (v := .bool _) rfl ?_
  exact ⟨eR rfl, (Lo.refl w)⟩

theorem z_c_cmp_Compare_int__10 (a : Int) (b : Int) (h9 : a < b) : (-1) = cmpI a b := by
  unfold cmpI; split <;> (try split) <;> omega
theorem z_c_cmp_Compare_int__12 (a : Int) (b : Int) (h9 : ¬ (a < b)) (h11 : b < a) : 1 = cmpI a b := by
  unfold cmpI; split <;> (try split) <;> omega
theorem z_c_cmp_Compare_int__13 (a : Int) (b : Int) (h9 : ¬ (a < b)) (h11 : ¬ (b < a)) : 0 = cmpI a b := by
  unfold cmpI; split <;> (try split) <;> omega
theorem c_cmp_Compare_int_ (w : World) (a : Int) (b : Int) : Calls Tryd.prog 53 #[.int .i64 a, .int .i64 b] w fun e w' => e = .returned (.int .i64 (cmpI a b)) ∧ Lo w w' := by
  refine calls_W 20 Tryd.func53 rfl rfl rfl ?_
  refine W.seq ?_
  refine W.regS (SR.q' (r_as (v := .int .i64 0) rfl) <| SR.nil ?_)
  refine W.seq ?_
  refine W.regS (SR.q' (r_mv (v := .int .i64 _) rfl) <| SR.call ent64 (c_cmp_isNaN_int_ w a) rfl ?_)
  rintro e w1 ⟨rfl, hk2⟩
  refine ⟨_, rfl, ?_⟩
  have hz3 := hk2.size
  have hB4 := (Lo.refl w).lo hk2
  refine SR.q' (r_as (v := .bool _) rfl) <| SR.nil ?_
  refine W.seq ?_
  refine W.regS (SR.q' (r_mv (v := .int .i64 _) rfl) <| SR.call ent64 (c_cmp_isNaN_int_ w1 b) rfl ?_)
  rintro e w5 ⟨rfl, hk6⟩
  refine ⟨_, rfl, ?_⟩
  have hz7 := hk6.size
  have hB8 := hB4.lo hk6
  refine SR.q' (r_as (v := .bool _) rfl) <| SR.nil ?_
  refine W.seq ?_
  refine W.seq ?_
  refine W.regS (SR.q' (r_mv (v := .bool _) rfl) <| SR.nil ?_)
  refine W.cond_f rfl ?_
  refine W.skip ?_
  refine W.seq ?_
  refine W.seq ?_
  refine W.regS (SR.q' (r_mv (v := .bool _) rfl) <| SR.nil ?_)
  refine W.cond_f rfl ?_
  refine W.skip ?_
  refine W.seq ?_
  refine W.seq ?_
  refine W.regS (SR.q' (r_mv (v := .int .i64 _) rfl) <| SR.q' (r_mv (v := .int .i64 _) rfl) <| SR.q' (r_lt rfl rfl) <| SR.nil ?_)
  refine W.cond_d rfl (fun h9 => ?_) (fun h9 => ?_)
  · refine W.seq ?_
    refine W.regS (SR.q' (r_as (v := .int .i64 (-1)) rfl) <| SR.nil ?_)
    refine W.ret ?_
    refine ret1 rfl (v := .int .i64 _) rfl ?_
    exact ⟨eR (eI (z_c_cmp_Compare_int__10 a b h9)), hB8⟩
  · refine W.skip ?_
    refine W.seq ?_
    refine W.seq ?_
    refine W.regS (SR.q' (r_mv (v := .int .i64 _) rfl) <| SR.q' (r_mv (v := .int .i64 _) rfl) <| SR.q' (r_gt rfl rfl) <| SR.nil ?_)
    refine W.cond_d rfl (fun h11 => ?_) (fun h11 => ?_)
    · refine W.seq ?_
      refine W.regS (SR.q' (r_as (v := .int .i64 1) rfl) <| SR.nil ?_)
      refine W.ret ?_
      refine ret1 rfl (v := .int .i64 _) rfl ?_
      exact ⟨eR (eI (z_c_cmp_Compare_int__12 a b h9 h11)), hB8⟩
    · refine W.skip ?_
      refine W.seq ?_
      refine W.regS (SR.q' (r_as (v := .int .i64 0) rfl) <| SR.nil ?_)
      refine W.ret ?_
      refine ret1 rfl (v := .int .i64 _) rfl ?_
      exact ⟨eR (eI (z_c_cmp_Compare_int__13 a b h9 h11)), hB8⟩

theorem z_c_cmp_Or_int__1 (L : List Int) (nL : Nat) (hbdL : (nL : Int) ≤ 9223372036854775807) (hleL : nL = L.length) : 0 ≤ nL ∧ ∀ j, j < 0 → gt L j = 0 := by
  exact ⟨Nat.zero_le _, fun _ h => absurd h (by omega)⟩
theorem z_c_cmp_Or_int__12 (L : List Int) (nL : Nat) (hbdL : (nL : Int) ≤ 9223372036854775807) (hleL : nL = L.length) (k : Nat) (hi7 : k ≤ nL ∧ ∀ j, j < k → gt L j = 0) (h8 : (k : Int) < (nL : Int)) (hx10 : L[k]? = some (gt L k)) (h11 : ¬ ((gt L k) = 0)) : (gt L k) = orI L := by
  subst hleL
  have hh := ‹k ≤ L.length ∧ ∀ j, j < k → gt L j = 0›
  first | exact (orI_at hh.2 (by omega) ‹_›).symm | exact (orI_none fun j hj => hh.2 j (by omega)).symm
theorem z_c_cmp_Or_int__13 (L : List Int) (nL : Nat) (hbdL : (nL : Int) ≤ 9223372036854775807) (hleL : nL = L.length) (k : Nat) (hi7 : k ≤ nL ∧ ∀ j, j < k → gt L j = 0) (h8 : (k : Int) < (nL : Int)) (hx10 : L[k]? = some (gt L k)) (h11 : (gt L k) = 0) : k + 1 ≤ nL ∧ ∀ j, j < k + 1 → gt L j = 0 := by
  subst hleL
  have hh := ‹k ≤ L.length ∧ ∀ j, j < k → gt L j = 0›
  refine ⟨by omega, fun j hj => ?_⟩
  rcases Nat.lt_or_ge j k with h1 | h1
  · exact hh.2 j h1
  · have e : j = k := by omega
    rw [e]; first | assumption | exact Classical.not_not.1 ‹_›
theorem z_c_cmp_Or_int__14 (L : List Int) (nL : Nat) (hbdL : (nL : Int) ≤ 9223372036854775807) (hleL : nL = L.length) (k : Nat) (hi7 : k ≤ nL ∧ ∀ j, j < k → gt L j = 0) (h8 : (k : Int) < (nL : Int)) (hx10 : L[k]? = some (gt L k)) (h11 : (gt L k) = 0) : nL - (k + 1) < nL - k := by
  omega
theorem z_c_cmp_Or_int__15 (L : List Int) (nL : Nat) (hbdL : (nL : Int) ≤ 9223372036854775807) (hleL : nL = L.length) (k : Nat) (hi7 : k ≤ nL ∧ ∀ j, j < k → gt L j = 0) (h8 : ¬ ((k : Int) < (nL : Int))) : 0 = orI L := by
  subst hleL
  have hh := ‹k ≤ L.length ∧ ∀ j, j < k → gt L j = 0›
  first | exact (orI_at hh.2 (by omega) ‹_›).symm | exact (orI_none fun j hj => hh.2 j (by omega)).symm
theorem c_cmp_Or_int_ (w : World) {AL : Option Addr} {nL cL BL : Nat}  (L : List Int) (hL : SlR w BL encI 1 AL nL cL L) : Calls Tryd.prog 54 #[.slice AL nL cL] w fun e w' => e = .returned (.int .i64 (orI L)) ∧ Lo w w' := by
  refine calls_W 18 Tryd.func54 rfl rfl rfl ?_
  have hbdL := hL.bound
  have hleL := hL.len
  have hBbL := hL.bd
  refine W.seq ?_
  refine W.regS (SR.q' (r_as (v := .int .i64 0) rfl) <| SR.nil ?_)
  refine W.seq ?_
  refine W.regS (SR.q' (r_as (v := .int .i64 0) rfl) <| SR.nil ?_)
  refine W.seq ?_
  refine W.seq ?_
  refine W.regS (SR.q' (r_mv (v := .slice _ _ _) rfl) <| SR.q' (r_len und74 rfl) <| SR.q' (r_mv (v := .int .i64 0) rfl) <| SR.nil ?_)
  refine W.block ?_
  refine W.loop (σ := Nat) (fun g => [(3, .int .i64 0), (6, .slice AL nL cL), (7, .int .i64 (nL : Int)), (8, .int .i64 (g : Int))]) (fun g w' => (Lo w w') ∧ (SlR w' BL encI 1 AL nL cL L) ∧ (g ≤ nL ∧ ∀ j, j < g → gt L j = 0)) (fun g => nL - g) 0 ?_ ?_ ?_
  · exact ⟨rfl, rfl, rfl, rfl, trivial⟩
  · exact ⟨(Lo.refl w), hL, (z_c_cmp_Or_int__1 L nL hbdL hleL)⟩
  · rintro k f2 w3 hP5
    obtain ⟨hB4, hm6, hi7⟩ : (Lo w w3) ∧ (SlR w3 BL encI 1 AL nL cL L) ∧ (k ≤ nL ∧ ∀ j, j < k → gt L j = 0) := hP5
    refine (?_ : W _ _ _ _ _ (act _ (sets f2 [(3, .int .i64 0), (6, .slice AL nL cL), (7, .int .i64 (nL : Int)), (8, .int .i64 (k : Int))])) _)
    have hzw3 := hB4.size
    refine W.seq ?_
    refine W.regS (SR.q' (r_lt rfl rfl) <| SR.nil ?_)
    refine W.seq ?_
    refine W.cond_d rfl (fun h8 => ?_) (fun h8 => ?_)
    · refine W.skip ?_
      refine W.seq ?_
      refine W.block ?_
      refine W.seq ?_
      have hx10 := (hm6).elem (i := k) (by omega)
      refine W.regS (SR.q' (r_ixR tsl74 (hm6) rfl rfl (by omega)) <| SR.q' (r_ld (v := .int .i64 (gt L k)) sca3 rfl ((hm6).cell0 hx10 rfl)) <| SR.q' (r_as (v := .int .i64 _) rfl) <| SR.nil ?_)
      refine W.seq ?_
      refine W.regS (SR.q' (r_mv (v := .int .i64 _) rfl) <| SR.q' (r_mv (v := .int .i64 _) rfl) <| SR.q' (r_ne rfl rfl) <| SR.nil ?_)
      refine W.cond_n rfl (fun h11 => ?_) (fun h11 => ?_)
      · refine W.seq ?_
        refine W.regS (SR.q' (r_mv (v := .int .i64 _) rfl) <| SR.q' (r_as (v := .int .i64 _) rfl) <| SR.nil ?_)
        refine W.ret ?_
        refine ret1 rfl (v := .int .i64 _) rfl ?_
        exact ⟨eR (eI (z_c_cmp_Or_int__12 L nL hbdL hleL k hi7 h8 hx10 h11)), hB4⟩
      · refine W.skip ?_
        refine W.regS (SR.q' (r_add rfl rfl (by omega)) <| SR.q' (r_mv (v := .int .i64 _) rfl) <| SR.nil ?_)
        refine ⟨k + 1, _, rfl, ⟨rfl, rfl, rfl, rfl, trivial⟩, ⟨hB4, hm6, ?_⟩, ?_⟩
        · exact (z_c_cmp_Or_int__13 L nL hbdL hleL k hi7 h8 hx10 h11)
        · exact (z_c_cmp_Or_int__14 L nL hbdL hleL k hi7 h8 hx10 h11)
    · refine W.exit (xin_here ?_)
      refine W.seq ?_
      refine W.regS (SR.q' (r_mv (v := .int .i64 _) rfl) <| SR.q' (r_as (v := .int .i64 _) rfl) <| SR.nil ?_)
      refine W.ret ?_
      refine ret1 rfl (v := .int .i64 _) rfl ?_
      exact ⟨eR (eI (z_c_cmp_Or_int__15 L nL hbdL hleL k hi7 h8)), hB4⟩

theorem z_c_impl_compareAway_50 (p : Away) (q : Away) : orI ([cmpI p.Map q.Map, cmpI p.Reader q.Reader] : List Int) = cmpA p q := by
  rfl
theorem c_impl_compareAway (w : World) (p : Away) (q : Away) : Calls Tryd.prog 35 #[.agg (List.toArray (encAway p)), .agg (List.toArray (encAway q))] w fun e w' => e = .returned (.int .i64 (cmpA p q)) ∧ Lo w w' := by
  refine calls_W 17 Tryd.func35 rfl rfl rfl ?_
  refine W.seq ?_
  refine W.regS (SR.box (v := .agg (List.toArray _)) (l := [.int .i64 p.Map, .int .i64 p.Reader]) rfl rfl ?_)
  intro g1 w2 hg3 hk4 hs5 hb6
  have hz7 := hk4.size
  have hB8 := (Lo.refl w).lo hk4
  refine SR.box (v := .agg (List.toArray _)) (l := [.int .i64 q.Map, .int .i64 q.Reader]) rfl rfl ?_
  intro g9 w10 hg11 hk12 hs13 hb14
  have hz15 := hk12.size
  have hB16 := hB8.lo hk12
  refine SR.q' (r_as (v := .int .i64 0) rfl) <| SR.nil ?_
  refine W.seq ?_
  refine W.regA (Lo w10) (fun f' w' => ∃ (g31 : Nat), At f' [(4, .int .i64 (orI ([cmpI p.Map q.Map, cmpI p.Reader q.Reader] : List Int)))] ∧ (Lo w10 w')) mo ?_ ?_
  · intro w17 hk18
    have hz19 := hk18.size
    have hB20 := hB16.lo hk18
    refine AH.take 0 rfl (by kernel_rfl) trivial (hk18) (fun w' hw' => r_fa fa64_0 rfl) <| AH.take 1 rfl (by kernel_rfl) trivial (hk18) (fun w' hw' => r_ld (v := .int .i64 p.Map) sca3 rfl ((((hb6).lo hk12).lo hw').cell rfl)) <| AH.take 2 rfl (by kernel_rfl) trivial (hk18) (fun w' hw' => r_fa fa64_0 rfl) <| AH.take 3 rfl (by kernel_rfl) trivial (hk18) (fun w' hw' => r_ld (v := .int .i64 q.Map) sca3 rfl (((hb14).lo hw').cell rfl)) <| AH.take 5 rfl (by kernel_rfl) trivial (hk18) (fun w' hw' => r_fa fa64_1 rfl) <| AH.take 6 rfl (by kernel_rfl) trivial (hk18) (fun w' hw' => r_ld (v := .int .i64 p.Reader) sca3 rfl ((((hb6).lo hk12).lo hw').cell rfl)) <| AH.take 7 rfl (by kernel_rfl) trivial (hk18) (fun w' hw' => r_fa fa64_1 rfl) <| AH.take 8 rfl (by kernel_rfl) trivial (hk18) (fun w' hw' => r_ld (v := .int .i64 q.Reader) sca3 rfl (((hb14).lo hw').cell rfl)) <| AH.br [4] (by kernel_rfl) rfl ⟨Br.mk' rfl trivial ?_, trivial⟩
    refine SR.call ent53 (c_cmp_Compare_int_ w17 p.Map q.Map) rfl ?_
    rintro e w21 ⟨rfl, hk22⟩
    refine ⟨_, rfl, ?_⟩
    have hz23 := hk22.size
    have hB24 := hB20.lo hk22
    have hS25 := (hk18).lo hk22
    refine SR.nil ⟨hS25, _, rfl, ?_⟩
    refine AH.br [9] (by kernel_rfl) rfl ⟨Br.mk' rfl trivial ?_, trivial⟩
    refine SR.call ent53 (c_cmp_Compare_int_ w21 p.Reader q.Reader) rfl ?_
    rintro e w26 ⟨rfl, hk27⟩
    refine ⟨_, rfl, ?_⟩
    have hz28 := hk27.size
    have hB29 := hB24.lo hk27
    have hS30 := (hS25).lo hk27
    refine SR.nil ⟨hS30, _, rfl, ?_⟩
    refine AH.br [10] (by kernel_rfl) rfl ⟨Br.mk' rfl trivial ?_, trivial⟩
    refine SR.lit (vs := [.int .i64 (cmpI p.Map q.Map), .int .i64 (cmpI p.Reader q.Reader)]) (L := ([cmpI p.Map q.Map, cmpI p.Reader q.Reader] : List Int)) (enc := encI) tel74 (fun _ => rfl) rfl rfl rfl (by decide) ?_
    intro g31 w32 hg33 hk34 hO35
    have hz36 := hk34.size
    have hB37 := hB29.lo hk34
    have hS38 := (hS30).lo hk34
    refine SR.nil ⟨hS38, _, rfl, ?_⟩
    refine AH.br [11] (by kernel_rfl) rfl ⟨Br.mk' rfl trivial ?_, trivial⟩
    refine SR.call ent54 (c_cmp_Or_int_ w32 ([cmpI p.Map q.Map, cmpI p.Reader q.Reader] : List Int) (((hO35).rd))) rfl ?_
    rintro e w39 ⟨rfl, hk40⟩
    refine ⟨_, rfl, ?_⟩
    have hz41 := hk40.size
    have hB42 := hB37.lo hk40
    have hS43 := (hS38).lo hk40
    refine SR.nil ⟨hS43, _, rfl, ?_⟩
    refine AH.take 12 rfl (by kernel_rfl) trivial (hS43) (fun w' hw' => r_as (v := .int .i64 _) rfl) <| AH.done (by kernel_rfl) ?_
    exact ⟨g31, ⟨rfl, trivial⟩, hS43⟩
  rintro f44 w45 ⟨g31, hat47, hR46⟩
  rw [← sets_of_at hat47]
  have hz48 := hR46.size
  have hB49 := hB16.lo hR46
  refine W.ret ?_
  refine ret1 rfl (v := .int .i64 _) rfl ?_
  exact ⟨eR (eI (z_c_impl_compareAway_50 p q)), hB49⟩

theorem z_c_slices_BinarySearchFunc___impl_Map_impl_Map_int__1 (L : List LMap) (nL : Nat) (hbdL : (nL : Int) ≤ 9223372036854775807) (hleL : nL = L.length) (t : Int) (c : LMap → Int → Int) (hp0 : (nL : Int) ≤ 1048576) : 0 ≤ nL ∧ nL ≤ nL ∧ bsr (fun x => decide (c x t < 0)) L 0 nL = bsr (fun x => decide (c x t < 0)) L 0 L.length := by
  subst hleL
  exact ⟨by omega, by omega, rfl⟩
theorem z_c_slices_BinarySearchFunc___impl_Map_impl_Map_int__16 (L : List LMap) (nL : Nat) (hbdL : (nL : Int) ≤ 9223372036854775807) (hleL : nL = L.length) (t : Int) (c : LMap → Int → Int) (hp0 : (nL : Int) ≤ 1048576) (i : Nat) (j : Nat) (hi7 : i ≤ j ∧ j ≤ nL ∧ bsr (fun x => decide (c x t < 0)) L i j = bsr (fun x => decide (c x t < 0)) L 0 L.length) (h8 : (i : Int) < (j : Int)) (hx10 : L[(((i : Int) + (j : Int)) / 2).toNat]? = some (gt L ((((i : Int) + (j : Int)) / 2).toNat))) (h15 : (c (gt L ((((i : Int) + (j : Int)) / 2).toNat)) t) < 0) : (i + j) / 2 + 1 ≤ j ∧ j ≤ nL ∧ bsr (fun x => decide (c x t < 0)) L ((i + j) / 2 + 1) j = bsr (fun x => decide (c x t < 0)) L 0 L.length := by
  subst hleL
  have hh := ‹_ ∧ _ ∧ bsr _ _ _ _ = _›
  have hd : (((i : Int) + (j : Int)) / 2).toNat = (i + j) / 2 := by omega
  simp only [hd] at *
  first | exact ⟨by omega, by omega, (bsr_lo (p := fun x => decide (c x t < 0)) (by omega) (decide_eq_true ‹c _ t < 0›)).trans hh.2.2⟩ | exact ⟨by omega, by omega, (bsr_hi (p := fun x => decide (c x t < 0)) (by omega) (decide_eq_false ‹¬ c _ t < 0›)).trans hh.2.2⟩
theorem z_c_slices_BinarySearchFunc___impl_Map_impl_Map_int__17 (L : List LMap) (nL : Nat) (hbdL : (nL : Int) ≤ 9223372036854775807) (hleL : nL = L.length) (t : Int) (c : LMap → Int → Int) (hp0 : (nL : Int) ≤ 1048576) (i : Nat) (j : Nat) (hi7 : i ≤ j ∧ j ≤ nL ∧ bsr (fun x => decide (c x t < 0)) L i j = bsr (fun x => decide (c x t < 0)) L 0 L.length) (h8 : (i : Int) < (j : Int)) (hx10 : L[(((i : Int) + (j : Int)) / 2).toNat]? = some (gt L ((((i : Int) + (j : Int)) / 2).toNat))) (h15 : (c (gt L ((((i : Int) + (j : Int)) / 2).toNat)) t) < 0) : j - ((i + j) / 2 + 1) < j - i := by
  omega
theorem z_c_slices_BinarySearchFunc___impl_Map_impl_Map_int__18 (L : List LMap) (nL : Nat) (hbdL : (nL : Int) ≤ 9223372036854775807) (hleL : nL = L.length) (t : Int) (c : LMap → Int → Int) (hp0 : (nL : Int) ≤ 1048576) (i : Nat) (j : Nat) (hi7 : i ≤ j ∧ j ≤ nL ∧ bsr (fun x => decide (c x t < 0)) L i j = bsr (fun x => decide (c x t < 0)) L 0 L.length) (h8 : (i : Int) < (j : Int)) (hx10 : L[(((i : Int) + (j : Int)) / 2).toNat]? = some (gt L ((((i : Int) + (j : Int)) / 2).toNat))) (h15 : ¬ ((c (gt L ((((i : Int) + (j : Int)) / 2).toNat)) t) < 0)) : i ≤ (i + j) / 2 ∧ (i + j) / 2 ≤ nL ∧ bsr (fun x => decide (c x t < 0)) L i ((i + j) / 2) = bsr (fun x => decide (c x t < 0)) L 0 L.length := by
  subst hleL
  have hh := ‹_ ∧ _ ∧ bsr _ _ _ _ = _›
  have hd : (((i : Int) + (j : Int)) / 2).toNat = (i + j) / 2 := by omega
  simp only [hd] at *
  first | exact ⟨by omega, by omega, (bsr_lo (p := fun x => decide (c x t < 0)) (by omega) (decide_eq_true ‹c _ t < 0›)).trans hh.2.2⟩ | exact ⟨by omega, by omega, (bsr_hi (p := fun x => decide (c x t < 0)) (by omega) (decide_eq_false ‹¬ c _ t < 0›)).trans hh.2.2⟩
theorem z_c_slices_BinarySearchFunc___impl_Map_impl_Map_int__19 (L : List LMap) (nL : Nat) (hbdL : (nL : Int) ≤ 9223372036854775807) (hleL : nL = L.length) (t : Int) (c : LMap → Int → Int) (hp0 : (nL : Int) ≤ 1048576) (i : Nat) (j : Nat) (hi7 : i ≤ j ∧ j ≤ nL ∧ bsr (fun x => decide (c x t < 0)) L i j = bsr (fun x => decide (c x t < 0)) L 0 L.length) (h8 : (i : Int) < (j : Int)) (hx10 : L[(((i : Int) + (j : Int)) / 2).toNat]? = some (gt L ((((i : Int) + (j : Int)) / 2).toNat))) (h15 : ¬ ((c (gt L ((((i : Int) + (j : Int)) / 2).toNat)) t) < 0)) : ((i + j) / 2) - i < j - i := by
  omega
theorem z_c_slices_BinarySearchFunc___impl_Map_impl_Map_int__33 (L : List LMap) (nL : Nat) (hbdL : (nL : Int) ≤ 9223372036854775807) (hleL : nL = L.length) (t : Int) (c : LMap → Int → Int) (hp0 : (nL : Int) ≤ 1048576) (i : Nat) (j : Nat) (hi7 : i ≤ j ∧ j ≤ nL ∧ bsr (fun x => decide (c x t < 0)) L i j = bsr (fun x => decide (c x t < 0)) L 0 L.length) (h8 : ¬ ((i : Int) < (j : Int))) : (i : Int) = (bsP c t L : Int) := by
  subst hleL
  have hh := ‹_ ∧ _ ∧ bsr _ _ _ _ = _›
  unfold bsP; rw [← hh.2.2, bsr_end (by omega)]
theorem z_c_slices_BinarySearchFunc___impl_Map_impl_Map_int__34 (L : List LMap) (nL : Nat) (hbdL : (nL : Int) ≤ 9223372036854775807) (hleL : nL = L.length) (t : Int) (c : LMap → Int → Int) (hp0 : (nL : Int) ≤ 1048576) (i : Nat) (j : Nat) (hi7 : i ≤ j ∧ j ≤ nL ∧ bsr (fun x => decide (c x t < 0)) L i j = bsr (fun x => decide (c x t < 0)) L 0 L.length) (h8 : ¬ ((i : Int) < (j : Int))) : (((i : Int) < (nL : Int)) ∧ ((c (gt L i) t) = 0)) ↔ (bsF c t L) := by
  subst hleL
  have hh := ‹_ ∧ _ ∧ bsr _ _ _ _ = _›
  have e : bsP c t L = i := by unfold bsP; rw [← hh.2.2, bsr_end (by omega)]
  unfold bsF; rw [e]
theorem c_slices_BinarySearchFunc___impl_Map_impl_Map_int_ (w : World) {AL : Option Addr} {nL cL BL : Nat}  (L : List LMap) (hL : SlR w BL encLMap 3 AL nL cL L) (t : Int) {kc : Nat} {capc : List Value} (c : LMap → Int → Int) (hc : Fnc2 Tryd.prog w kc capc (fun x => .agg (List.toArray (encLMap x))) (fun x => .int .i64 x) c) (hp0 : (nL : Int) ≤ 1048576) : Calls Tryd.prog 51 #[.slice AL nL cL, .int .i64 t, .func (.func kc) #[] (List.toArray capc)] w fun e w' => e = .returned (.tuple (List.toArray [.int .i64 (bsP c t L : Int), .bool (decide (bsF c t L))])) ∧ Lo w w' := by
  refine calls_W 49 Tryd.func51 rfl rfl rfl ?_
  have hbdL := hL.bound
  have hleL := hL.len
  have hBbL := hL.bd
  refine W.seq ?_
  refine W.regS (SR.q' (r_as (v := .int .i64 0) rfl) <| SR.q' (r_as (v := .bool false) rfl) <| SR.nil ?_)
  refine W.seq ?_
  refine W.regS (SR.q' (r_mv (v := .slice _ _ _) rfl) <| SR.q' (r_len und32 rfl) <| SR.q' (r_as (v := .int .i64 _) rfl) <| SR.nil ?_)
  refine W.seq ?_
  refine W.regS (SR.q' (r_mv (v := .int .i64 _) rfl) <| SR.q' (r_as (v := .int .i64 0) rfl) <| SR.q' (r_as (v := .int .i64 _) rfl) <| SR.nil ?_)
  refine W.seq ?_
  refine W.block ?_
  refine W.loop (σ := Nat × Nat) (fun g => [(0, .slice AL nL cL), (1, .int .i64 t), (2, .func (.func kc) #[] (List.toArray capc)), (6, .int .i64 0), (7, .bool false), (8, .int .i64 (nL : Int)), (9, .int .i64 (g.1 : Int)), (10, .int .i64 (g.2 : Int))]) (fun g w' => (Lo w w') ∧ (SlR w' BL encLMap 3 AL nL cL L) ∧ (g.1 ≤ g.2 ∧ g.2 ≤ nL ∧ bsr (fun x => decide (c x t < 0)) L g.1 g.2 = bsr (fun x => decide (c x t < 0)) L 0 L.length)) (fun g => g.2 - g.1) (0, nL) ?_ ?_ ?_
  · exact ⟨rfl, rfl, rfl, rfl, rfl, rfl, (eI (by first | omega | (dsimp only; omega))), rfl, trivial⟩
  · exact ⟨(Lo.refl w), hL, (z_c_slices_BinarySearchFunc___impl_Map_impl_Map_int__1 L nL hbdL hleL t c hp0)⟩
  · rintro ⟨i, j⟩ f2 w3 hP5
    obtain ⟨hB4, hm6, hi7⟩ : (Lo w w3) ∧ (SlR w3 BL encLMap 3 AL nL cL L) ∧ (i ≤ j ∧ j ≤ nL ∧ bsr (fun x => decide (c x t < 0)) L i j = bsr (fun x => decide (c x t < 0)) L 0 L.length) := hP5
    refine (?_ : W _ _ _ _ _ (act _ (sets f2 [(0, .slice AL nL cL), (1, .int .i64 t), (2, .func (.func kc) #[] (List.toArray capc)), (6, .int .i64 0), (7, .bool false), (8, .int .i64 (nL : Int)), (9, .int .i64 (i : Int)), (10, .int .i64 (j : Int))])) _)
    have hzw3 := hB4.size
    refine W.seq ?_
    refine W.seq ?_
    refine W.regS (SR.q' (r_mv (v := .int .i64 _) rfl) <| SR.q' (r_mv (v := .int .i64 _) rfl) <| SR.q' (r_lt rfl rfl) <| SR.nil ?_)
    refine W.cond_d rfl (fun h8 => ?_) (fun h8 => ?_)
    · refine W.skip ?_
      refine W.block ?_
      refine W.seq ?_
      refine W.regS (SR.q' (r_mv (v := .int .i64 _) rfl) <| SR.q' (r_mv (v := .int .i64 _) rfl) <| SR.q' (r_add rfl rfl (by omega)) <| SR.q' (r_convU und98 und3 rfl (by omega)) <| SR.q' (r_half rfl rfl (by omega)) <| SR.q' (r_convI und3 und98 rfl (by omega)) <| SR.q' (r_as (v := .int .i64 _) rfl) <| SR.nil ?_)
      refine W.seq ?_
      refine W.regS (SR.q' (r_mv (v := .func _ #[] (List.toArray _)) rfl) <| SR.q' (r_mv (v := .slice _ _ _) rfl) <| SR.q' (r_mv (v := .int .i64 _) rfl) <| ?_)
      have hx10 := (hm6).elem (i := (((i : Int) + (j : Int)) / 2).toNat) (by omega)
      refine SR.q' (r_ixR tsl32 (hm6) rfl rfl (by omega)) <| SR.q' (r_lda (l := encLMap (gt L ((((i : Int) + (j : Int)) / 2).toNat))) agg54 rfl (fun _ _ hu => (hm6).cell hx10 hu) ((hm6).esz _)) <| SR.q' (r_mv (v := .int .i64 _) rfl) <| SR.callv (hc).1 rfl ((hc).2 _ hB4 (gt L ((((i : Int) + (j : Int)) / 2).toNat)) t) rfl ?_
      rintro e w11 ⟨rfl, hk12⟩
      refine ⟨_, rfl, ?_⟩
      have hz13 := hk12.size
      have hB14 := hB4.lo hk12
      refine SR.q' (r_lt rfl rfl) <| SR.nil ?_
      refine W.cond_d rfl (fun h15 => ?_) (fun h15 => ?_)
      · refine W.regS (SR.q' (r_mv (v := .int .i64 _) rfl) <| SR.q' (r_add rfl rfl (by omega)) <| SR.q' (r_as (v := .int .i64 _) rfl) <| SR.nil ?_)
        refine ⟨((i + j) / 2 + 1, j), _, rfl, ⟨rfl, rfl, rfl, rfl, rfl, rfl, (eI (by first | omega | (dsimp only; omega))), rfl, trivial⟩, ⟨hB14, (hm6).lo hk12, ?_⟩, ?_⟩
        · exact (z_c_slices_BinarySearchFunc___impl_Map_impl_Map_int__16 L nL hbdL hleL t c hp0 i j hi7 h8 hx10 h15)
        · exact (z_c_slices_BinarySearchFunc___impl_Map_impl_Map_int__17 L nL hbdL hleL t c hp0 i j hi7 h8 hx10 h15)
      · refine W.regS (SR.q' (r_mv (v := .int .i64 _) rfl) <| SR.q' (r_as (v := .int .i64 _) rfl) <| SR.nil ?_)
        refine ⟨(i, (i + j) / 2), _, rfl, ⟨rfl, rfl, rfl, rfl, rfl, rfl, rfl, (eI (by first | omega | (dsimp only; omega))), trivial⟩, ⟨hB14, (hm6).lo hk12, ?_⟩, ?_⟩
        · exact (z_c_slices_BinarySearchFunc___impl_Map_impl_Map_int__18 L nL hbdL hleL t c hp0 i j hi7 h8 hx10 h15)
        · exact (z_c_slices_BinarySearchFunc___impl_Map_impl_Map_int__19 L nL hbdL hleL t c hp0 i j hi7 h8 hx10 h15)
    · refine W.exit (xin_here ?_)
      refine W.seq ?_
      refine W.regJS (fun f' w' => At f' [(6, .int .i64 (i : Int)), (7, .bool (decide (((i : Int) < (nL : Int)) ∧ ((c (gt L i) t) = 0))))] ∧ Lo w3 w') ?_ ?_
      · refine SR.q' (r_mv (v := .int .i64 _) rfl) <| SR.q' (r_mv (v := .int .i64 _) rfl) <| SR.q' (r_mv (v := .int .i64 _) rfl) <| SR.q' (r_lt rfl rfl) <| SR.q' (r_mv (v := .bool _) rfl) <| SR.splitD (fun h20 => ?_) (fun h20 => ?_)
        · refine SR.g' rfl (r_mv (v := .func _ #[] (List.toArray _)) rfl) <| SR.g' rfl (r_mv (v := .slice _ _ _) rfl) <| SR.g' rfl (r_mv (v := .int .i64 _) rfl) <| ?_
          have hx22 := (hm6).elem (i := i) (by omega)
          refine SR.g' rfl (r_ixR tsl32 (hm6) rfl rfl (by omega)) <| SR.g' rfl (r_lda (l := encLMap (gt L i)) agg54 rfl (fun _ _ hu => (hm6).cell hx22 hu) ((hm6).esz _)) <| SR.g' rfl (r_mv (v := .int .i64 _) rfl) <| SR.gcallv rfl (hc).1 rfl ((hc).2 _ hB4 (gt L i) t) rfl ?_
          rintro e w23 ⟨rfl, hk24⟩
          refine ⟨_, rfl, ?_⟩
          have hz25 := hk24.size
          have hB26 := hB4.lo hk24
          refine SR.g' rfl (r_eq rfl rfl) <| SR.q' (r_pick true rfl (v := .bool _) rfl) <| SR.q' (r_as (v := .int .i64 _) rfl) <| SR.q' (r_as (v := .bool _) rfl) <| SR.nil ?_
          exact ⟨_, rfl, ⟨⟨rfl, (eDD (jat h20)), trivial⟩, (hk24)⟩⟩
        · refine SR.s' rfl <| SR.s' rfl <| SR.s' rfl <| SR.s' rfl <| SR.s' rfl <| SR.s' rfl <| SR.s' rfl <| SR.s' rfl <| SR.q' (r_pick false rfl (v := .bool false) rfl) <| SR.q' (r_as (v := .int .i64 _) rfl) <| SR.q' (r_as (v := .bool _) rfl) <| SR.nil ?_
          exact ⟨_, rfl, ⟨⟨rfl, (eDF (jaf h20).2), trivial⟩, (Lo.refl _)⟩⟩
      rintro f27 w28 ⟨hat29, hk30⟩
      rw [← sets_of_at hat29]
      have hz31 := hk30.size
      have hB32 := hB4.lo hk30
      refine W.ret ?_
      refine ret2 rfl (v := .int .i64 _) (v' := .bool _) rfl rfl ?_
      exact ⟨eR (eT2 (eI (z_c_slices_BinarySearchFunc___impl_Map_impl_Map_int__33 L nL hbdL hleL t c hp0 i j hi7 h8)) (eDD (z_c_slices_BinarySearchFunc___impl_Map_impl_Map_int__34 L nL hbdL hleL t c hp0 i j hi7 h8))), hB32⟩

theorem z_c__impl_Library__mapAt_1_13 (m : LMap) (i : Int) : cmpI m.Id i = cmpM m i := by
  rfl
theorem c__impl_Library__mapAt_1 (w : World) (m : LMap) (i : Int) : Calls Tryd.prog 52 #[.agg (List.toArray (encLMap m)), .int .i64 i] w fun e w' => e = .returned (.int .i64 (cmpM m i)) ∧ Lo w w' := by
  refine calls_W 9 Tryd.func52 rfl rfl rfl ?_
  refine W.seq ?_
  refine W.regS (SR.box (v := .agg (List.toArray _)) (l := [.int .i64 m.Id, .int .i64 m.Copies, .int .i64 m.Torn]) rfl rfl ?_)
  intro g1 w2 hg3 hk4 hs5 hb6
  have hz7 := hk4.size
  have hB8 := (Lo.refl w).lo hk4
  refine SR.q' (r_as (v := .int .i64 0) rfl) <| SR.nil ?_
  refine W.seq ?_
  refine W.regS (SR.q' (r_fa fa54_0 rfl) <| SR.q' (r_ld (v := .int .i64 m.Id) sca3 rfl ((hb6).cell rfl)) <| SR.q' (r_mv (v := .int .i64 _) rfl) <| SR.call ent53 (c_cmp_Compare_int_ w2 m.Id i) rfl ?_)
  rintro e w9 ⟨rfl, hk10⟩
  refine ⟨_, rfl, ?_⟩
  have hz11 := hk10.size
  have hB12 := hB8.lo hk10
  refine SR.q' (r_as (v := .int .i64 _) rfl) <| SR.nil ?_
  refine W.ret ?_
  refine ret1 rfl (v := .int .i64 _) rfl ?_
  exact ⟨eR (eI (z_c__impl_Library__mapAt_1_13 m i)), hB12⟩

theorem z_c__impl_Library__mapAt_14 (x : Library) (nx_Maps : Nat) (hbdx_Maps : (nx_Maps : Int) ≤ 9223372036854775807) (hlex_Maps : nx_Maps = x.Maps.length) (nx_Away : Nat) (hbdx_Away : (nx_Away : Int) ≤ 9223372036854775807) (hlex_Away : nx_Away = x.Away.length) (id : Int) (hp0 : (nx_Maps : Int) ≤ 1048576) (hq13 : bsP (fun (u_ : LMap) (v_ : Int) => cmpM u_ v_) id x.Maps ≤ x.Maps.length) : (bsP (fun (u_ : LMap) (v_ : Int) => cmpM u_ v_) id x.Maps : Int) = (bsP cmpM id x.Maps : Int) := by
  rfl
theorem z_c__impl_Library__mapAt_15 (x : Library) (nx_Maps : Nat) (hbdx_Maps : (nx_Maps : Int) ≤ 9223372036854775807) (hlex_Maps : nx_Maps = x.Maps.length) (nx_Away : Nat) (hbdx_Away : (nx_Away : Int) ≤ 9223372036854775807) (hlex_Away : nx_Away = x.Away.length) (id : Int) (hp0 : (nx_Maps : Int) ≤ 1048576) (hq13 : bsP (fun (u_ : LMap) (v_ : Int) => cmpM u_ v_) id x.Maps ≤ x.Maps.length) : (bsF (fun (u_ : LMap) (v_ : Int) => cmpM u_ v_) id x.Maps) ↔ (bsF cmpM id x.Maps) := by
  exact Iff.rfl
theorem c__impl_Library__mapAt (w : World) (x : Library) {Ax_Maps : Option Addr} {nx_Maps cx_Maps Bx_Maps : Nat} (hx_Maps : SlR w Bx_Maps encLMap 3 Ax_Maps nx_Maps cx_Maps x.Maps) {Ax_Away : Option Addr} {nx_Away cx_Away Bx_Away : Nat} (hx_Away : SlR w Bx_Away encAway 2 Ax_Away nx_Away cx_Away x.Away) (id : Int) (hp0 : (nx_Maps : Int) ≤ 1048576) : Calls Tryd.prog 33 #[.agg (List.toArray [.slice Ax_Maps nx_Maps cx_Maps, .slice Ax_Away nx_Away cx_Away, .int .i64 x.Bought, .int .i64 x.Dropped, .int .i64 x.Mended]), .int .i64 id] w fun e w' => e = .returned (.tuple (List.toArray [.int .i64 (bsP cmpM id x.Maps : Int), .bool (decide (bsF cmpM id x.Maps))])) ∧ Lo w w' := by
  refine calls_W 12 Tryd.func33 rfl rfl rfl ?_
  have hbdx_Maps := hx_Maps.bound
  have hlex_Maps := hx_Maps.len
  have hBbx_Maps := hx_Maps.bd
  have hbdx_Away := hx_Away.bound
  have hlex_Away := hx_Away.len
  have hBbx_Away := hx_Away.bd
  refine W.seq ?_
  refine W.regS (SR.box (v := .agg (List.toArray _)) (l := [.slice Ax_Maps nx_Maps cx_Maps, .slice Ax_Away nx_Away cx_Away, .int .i64 x.Bought, .int .i64 x.Dropped, .int .i64 x.Mended]) rfl rfl ?_)
  intro g1 w2 hg3 hk4 hs5 hb6
  have hz7 := hk4.size
  have hB8 := (Lo.refl w).lo hk4
  refine SR.q' (r_as (v := .int .i64 0) rfl) <| SR.q' (r_as (v := .bool false) rfl) <| SR.nil ?_
  refine W.seq ?_
  refine W.regS (SR.q' (r_fa fa35_0 rfl) <| SR.q' (r_ld (v := .slice Ax_Maps nx_Maps cx_Maps) sca32 rfl ((hb6).cell rfl)) <| SR.q' (r_mv (v := .int .i64 _) rfl) <| SR.call ent51 (c_slices_BinarySearchFunc___impl_Map_impl_Map_int_ w2 x.Maps (((hx_Maps).lo hk4)) id (fun (u_ : LMap) (v_ : Int) => cmpM u_ v_) ⟨ent52, fun w'' hw'' x y => (c__impl_Library__mapAt_1 w'' x y).mono fun _ _ h => ⟨h.1, h.2⟩⟩ (by omega)) rfl ?_)
  rintro e w9 ⟨rfl, hk10⟩
  refine ⟨_, rfl, ?_⟩
  have hz11 := hk10.size
  have hB12 := hB8.lo hk10
  have hq13 : bsP (fun (u_ : LMap) (v_ : Int) => cmpM u_ v_) id x.Maps ≤ x.Maps.length := bsP_le
  refine SR.q' (r_ext (v := .int .i64 _) rfl rfl) <| SR.q' (r_ext (v := .bool _) rfl rfl) <| SR.q' (r_as (v := .int .i64 _) rfl) <| SR.q' (r_as (v := .bool _) rfl) <| SR.nil ?_
  refine W.ret ?_
  refine ret2 rfl (v := .int .i64 _) (v' := .bool _) rfl rfl ?_
  exact ⟨eR (eT2 (eI (z_c__impl_Library__mapAt_14 x nx_Maps hbdx_Maps hlex_Maps nx_Away hbdx_Away hlex_Away id hp0 hq13)) (eDD (z_c__impl_Library__mapAt_15 x nx_Maps hbdx_Maps hlex_Maps nx_Away hbdx_Away hlex_Away id hp0 hq13))), hB12⟩

theorem z_c__impl_Library__copies_9 (x : Library) (nx_Maps : Nat) (hbdx_Maps : (nx_Maps : Int) ≤ 9223372036854775807) (hlex_Maps : nx_Maps = x.Maps.length) (nx_Away : Nat) (hbdx_Away : (nx_Away : Int) ≤ 9223372036854775807) (hlex_Away : nx_Away = x.Away.length) (hp0 : MapsOK x.Maps) (hp1 : nx_Maps ≤ 8) : 0 ≤ nx_Maps ∧ sumC (x.Maps.take 0) = (0 : Int) ∧ 0 ≤ (0 : Int) ∧ (0 : Int) ≤ 99 * (0 : Int) := by
  simp [sumC]
theorem z_c__impl_Library__copies_34 (x : Library) (nx_Maps : Nat) (hbdx_Maps : (nx_Maps : Int) ≤ 9223372036854775807) (hlex_Maps : nx_Maps = x.Maps.length) (nx_Away : Nat) (hbdx_Away : (nx_Away : Int) ≤ 9223372036854775807) (hlex_Away : nx_Away = x.Away.length) (hp0 : MapsOK x.Maps) (hp1 : nx_Maps ≤ 8) (k : Nat) (t : Int) (hi15 : k ≤ nx_Maps ∧ sumC (x.Maps.take k) = t ∧ 0 ≤ t ∧ t ≤ 99 * (k : Int)) (h16 : (k : Int) < (nx_Maps : Int)) (hx18 : x.Maps[k]? = some (gt x.Maps k)) : k + 1 ≤ nx_Maps ∧ sumC (x.Maps.take (k + 1)) = t + ((gt x.Maps k).Copies) ∧ 0 ≤ t + ((gt x.Maps k).Copies) ∧ t + ((gt x.Maps k).Copies) ≤ 99 * (k + 1 : Int) := by
  have hh := ‹_ ∧ sumC _ = _ ∧ _›
  have hq := maps_rng hp0 ‹x.Maps[k]? = some _›
  exact ⟨by omega, by rw [sumC_snoc (by omega), hh.2.1], by omega, by omega⟩
theorem z_c__impl_Library__copies_35 (x : Library) (nx_Maps : Nat) (hbdx_Maps : (nx_Maps : Int) ≤ 9223372036854775807) (hlex_Maps : nx_Maps = x.Maps.length) (nx_Away : Nat) (hbdx_Away : (nx_Away : Int) ≤ 9223372036854775807) (hlex_Away : nx_Away = x.Away.length) (hp0 : MapsOK x.Maps) (hp1 : nx_Maps ≤ 8) (k : Nat) (t : Int) (hi15 : k ≤ nx_Maps ∧ sumC (x.Maps.take k) = t ∧ 0 ≤ t ∧ t ≤ 99 * (k : Int)) (h16 : (k : Int) < (nx_Maps : Int)) (hx18 : x.Maps[k]? = some (gt x.Maps k)) : nx_Maps - (k + 1) < nx_Maps - k := by
  omega
theorem z_c__impl_Library__copies_36 (x : Library) (nx_Maps : Nat) (hbdx_Maps : (nx_Maps : Int) ≤ 9223372036854775807) (hlex_Maps : nx_Maps = x.Maps.length) (nx_Away : Nat) (hbdx_Away : (nx_Away : Int) ≤ 9223372036854775807) (hlex_Away : nx_Away = x.Away.length) (hp0 : MapsOK x.Maps) (hp1 : nx_Maps ≤ 8) (k : Nat) (t : Int) (hi15 : k ≤ nx_Maps ∧ sumC (x.Maps.take k) = t ∧ 0 ≤ t ∧ t ≤ 99 * (k : Int)) (h16 : ¬ ((k : Int) < (nx_Maps : Int))) : t = sumC x.Maps := by
  have hh := ‹_ ∧ sumC _ = _ ∧ _›
  rw [← hh.2.1, List.take_of_length_le (by omega)]
theorem c__impl_Library__copies (w : World) (x : Library) {Ax_Maps : Option Addr} {nx_Maps cx_Maps Bx_Maps : Nat} (hx_Maps : SlR w Bx_Maps encLMap 3 Ax_Maps nx_Maps cx_Maps x.Maps) {Ax_Away : Option Addr} {nx_Away cx_Away Bx_Away : Nat} (hx_Away : SlR w Bx_Away encAway 2 Ax_Away nx_Away cx_Away x.Away) (hp0 : MapsOK x.Maps) (hp1 : nx_Maps ≤ 8) : Calls Tryd.prog 37 #[.agg (List.toArray [.slice Ax_Maps nx_Maps cx_Maps, .slice Ax_Away nx_Away cx_Away, .int .i64 x.Bought, .int .i64 x.Dropped, .int .i64 x.Mended])] w fun e w' => e = .returned (.int .i64 (sumC x.Maps)) ∧ Lo w w' := by
  refine calls_W 19 Tryd.func37 rfl rfl rfl ?_
  have hbdx_Maps := hx_Maps.bound
  have hlex_Maps := hx_Maps.len
  have hBbx_Maps := hx_Maps.bd
  have hbdx_Away := hx_Away.bound
  have hlex_Away := hx_Away.len
  have hBbx_Away := hx_Away.bd
  refine W.seq ?_
  refine W.regS (SR.box (v := .agg (List.toArray _)) (l := [.slice Ax_Maps nx_Maps cx_Maps, .slice Ax_Away nx_Away cx_Away, .int .i64 x.Bought, .int .i64 x.Dropped, .int .i64 x.Mended]) rfl rfl ?_)
  intro g1 w2 hg3 hk4 hs5 hb6
  have hz7 := hk4.size
  have hB8 := (Lo.refl w).lo hk4
  refine SR.q' (r_as (v := .int .i64 0) rfl) <| SR.nil ?_
  refine W.seq ?_
  refine W.regS (SR.q' (r_as (v := .int .i64 0) rfl) <| SR.nil ?_)
  refine W.seq ?_
  refine W.seq ?_
  refine W.regS (SR.q' (r_fa fa35_0 rfl) <| SR.q' (r_ld (v := .slice Ax_Maps nx_Maps cx_Maps) sca32 rfl ((hb6).cell rfl)) <| SR.q' (r_len und32 rfl) <| SR.q' (r_mv (v := .int .i64 0) rfl) <| SR.nil ?_)
  refine W.block ?_
  refine W.loop (σ := Nat × Int) (fun g => [(2, .int .i64 0), (3, .int .i64 g.2), (7, .slice Ax_Maps nx_Maps cx_Maps), (8, .int .i64 (nx_Maps : Int)), (9, .int .i64 (g.1 : Int))]) (fun g w' => (Lo w w') ∧ (SlR w' Bx_Maps encLMap 3 Ax_Maps nx_Maps cx_Maps x.Maps) ∧ (g.1 ≤ nx_Maps ∧ sumC (x.Maps.take g.1) = g.2 ∧ 0 ≤ g.2 ∧ g.2 ≤ 99 * (g.1 : Int))) (fun g => nx_Maps - g.1) (0, (0 : Int)) ?_ ?_ ?_
  · exact ⟨rfl, rfl, rfl, rfl, rfl, trivial⟩
  · exact ⟨hB8, (hx_Maps).lo hk4, (z_c__impl_Library__copies_9 x nx_Maps hbdx_Maps hlex_Maps nx_Away hbdx_Away hlex_Away hp0 hp1)⟩
  · rintro ⟨k, t⟩ f10 w11 hP13
    obtain ⟨hB12, hm14, hi15⟩ : (Lo w w11) ∧ (SlR w11 Bx_Maps encLMap 3 Ax_Maps nx_Maps cx_Maps x.Maps) ∧ (k ≤ nx_Maps ∧ sumC (x.Maps.take k) = t ∧ 0 ≤ t ∧ t ≤ 99 * (k : Int)) := hP13
    refine (?_ : W _ _ _ _ _ (act _ (sets f10 [(2, .int .i64 0), (3, .int .i64 t), (7, .slice Ax_Maps nx_Maps cx_Maps), (8, .int .i64 (nx_Maps : Int)), (9, .int .i64 (k : Int))])) _)
    have hzw11 := hB12.size
    refine W.seq ?_
    refine W.regS (SR.q' (r_lt rfl rfl) <| SR.nil ?_)
    refine W.seq ?_
    refine W.cond_d rfl (fun h16 => ?_) (fun h16 => ?_)
    · refine W.skip ?_
      refine W.seq ?_
      refine W.block ?_
      refine W.seq ?_
      have hx18 := (hm14).elem (i := k) (by omega)
      have hq19 := maps_rng ‹MapsOK x.Maps› hx18
      refine W.regS (SR.q' (r_ixR tsl32 (hm14) rfl rfl (by omega)) <| SR.q' (r_lda (l := encLMap (gt x.Maps k)) agg54 rfl (fun _ _ hu => (hm14).cell hx18 hu) ((hm14).esz _)) <| SR.alloc (l := [.int .i64 0, .int .i64 0, .int .i64 0]) tz54 rfl ?_)
      intro g20 w21 hg22 hk23 hs24 hb25
      have hz26 := hk23.size
      have hB27 := hB12.lo hk23
      refine SR.store (o := 0) (vs := [.int .i64 ((gt x.Maps k).Id), .int .i64 ((gt x.Maps k).Copies), .int .i64 ((gt x.Maps k).Torn)]) agg54.2 rfl rfl rfl rfl (hb25) (Nat.le_of_ble_eq_true rfl) rfl ?_
      intro w28 hk29 hs30 hb31
      have hz32 := hk29.size
      have hB33 := hB27.new hk29 (by omega)
      refine SR.nil ?_
      refine W.regS (SR.q' (r_mv (v := .int .i64 _) rfl) <| SR.q' (r_fa fa54_1 rfl) <| SR.q' (r_ld (v := .int .i64 ((gt x.Maps k).Copies)) sca3 rfl ((hb31).cell rfl)) <| SR.q' (r_add rfl rfl (by omega)) <| SR.q' (r_as (v := .int .i64 _) rfl) <| SR.nil ?_)
      refine W.regS (SR.q' (r_add rfl rfl (by omega)) <| SR.q' (r_mv (v := .int .i64 _) rfl) <| SR.nil ?_)
      refine ⟨(k + 1, t + ((gt x.Maps k).Copies)), _, rfl, ⟨rfl, rfl, rfl, rfl, rfl, trivial⟩, ⟨hB33, ((hm14).lo hk23).kp hk29 (fun b_ hb e' => by have e'' : b_ = g20 := e'; omega), ?_⟩, ?_⟩
      · exact (z_c__impl_Library__copies_34 x nx_Maps hbdx_Maps hlex_Maps nx_Away hbdx_Away hlex_Away hp0 hp1 k t hi15 h16 hx18)
      · exact (z_c__impl_Library__copies_35 x nx_Maps hbdx_Maps hlex_Maps nx_Away hbdx_Away hlex_Away hp0 hp1 k t hi15 h16 hx18)
    · refine W.exit (xin_here ?_)
      refine W.seq ?_
      refine W.regS (SR.q' (r_mv (v := .int .i64 _) rfl) <| SR.q' (r_as (v := .int .i64 _) rfl) <| SR.nil ?_)
      refine W.ret ?_
      refine ret1 rfl (v := .int .i64 _) rfl ?_
      exact ⟨eR (eI (z_c__impl_Library__copies_36 x nx_Maps hbdx_Maps hlex_Maps nx_Away hbdx_Away hlex_Away hp0 hp1 k t hi15 h16)), hB12⟩

theorem z_c_spec_l32There_9 (x : Library) (nx_Maps : Nat) (hbdx_Maps : (nx_Maps : Int) ≤ 9223372036854775807) (hlex_Maps : nx_Maps = x.Maps.length) (nx_Away : Nat) (hbdx_Away : (nx_Away : Int) ≤ 9223372036854775807) (hlex_Away : nx_Away = x.Away.length) (b : Bool) (hp0 : MapsOK x.Maps) (hp1 : nx_Maps ≤ 8) : 0 ≤ nx_Maps ∧ thereS b (x.Maps.take 0) = (0 : Int) ∧ 0 ≤ (0 : Int) ∧ (0 : Int) ≤ 99 * (0 : Int) := by
  cases b <;> simp [thereS, sumC, sumT]
theorem z_c_spec_l32There_24 (x : Library) (nx_Maps : Nat) (hbdx_Maps : (nx_Maps : Int) ≤ 9223372036854775807) (hlex_Maps : nx_Maps = x.Maps.length) (nx_Away : Nat) (hbdx_Away : (nx_Away : Int) ≤ 9223372036854775807) (hlex_Away : nx_Away = x.Away.length) (b : Bool) (hp0 : MapsOK x.Maps) (hp1 : nx_Maps ≤ 8) (k : Nat) (t : Int) (hi17 : k ≤ nx_Maps ∧ thereS b (x.Maps.take k) = t ∧ 0 ≤ t ∧ t ≤ 99 * (k : Int)) (h19 : (k : Int) < (nx_Maps : Int)) (h20 : b = true) (hx22 : x.Maps[k]? = some (gt x.Maps k)) : k + 1 ≤ nx_Maps ∧ thereS b (x.Maps.take (k + 1)) = t + ((gt x.Maps k).Torn) ∧ 0 ≤ t + ((gt x.Maps k).Torn) ∧ t + ((gt x.Maps k).Torn) ≤ 99 * (k + 1 : Int) := by
  have hh := ‹_ ∧ thereS b _ = _ ∧ _›
  have hq := maps_rng hp0 ‹x.Maps[k]? = some _›
  first | exact ⟨by omega, thereS_t ‹_› (by omega) hh.2.1, by omega, by omega⟩ | exact ⟨by omega, thereS_f ‹_› (by omega) hh.2.1, by omega, by omega⟩
theorem z_c_spec_l32There_25 (x : Library) (nx_Maps : Nat) (hbdx_Maps : (nx_Maps : Int) ≤ 9223372036854775807) (hlex_Maps : nx_Maps = x.Maps.length) (nx_Away : Nat) (hbdx_Away : (nx_Away : Int) ≤ 9223372036854775807) (hlex_Away : nx_Away = x.Away.length) (b : Bool) (hp0 : MapsOK x.Maps) (hp1 : nx_Maps ≤ 8) (k : Nat) (t : Int) (hi17 : k ≤ nx_Maps ∧ thereS b (x.Maps.take k) = t ∧ 0 ≤ t ∧ t ≤ 99 * (k : Int)) (h19 : (k : Int) < (nx_Maps : Int)) (h20 : b = true) (hx22 : x.Maps[k]? = some (gt x.Maps k)) : nx_Maps - (k + 1) < nx_Maps - k := by
  omega
theorem z_c_spec_l32There_29 (x : Library) (nx_Maps : Nat) (hbdx_Maps : (nx_Maps : Int) ≤ 9223372036854775807) (hlex_Maps : nx_Maps = x.Maps.length) (nx_Away : Nat) (hbdx_Away : (nx_Away : Int) ≤ 9223372036854775807) (hlex_Away : nx_Away = x.Away.length) (b : Bool) (hp0 : MapsOK x.Maps) (hp1 : nx_Maps ≤ 8) (k : Nat) (t : Int) (hi17 : k ≤ nx_Maps ∧ thereS b (x.Maps.take k) = t ∧ 0 ≤ t ∧ t ≤ 99 * (k : Int)) (h19 : (k : Int) < (nx_Maps : Int)) (h20 : b = false) (hx27 : x.Maps[k]? = some (gt x.Maps k)) : k + 1 ≤ nx_Maps ∧ thereS b (x.Maps.take (k + 1)) = t + ((gt x.Maps k).Copies) ∧ 0 ≤ t + ((gt x.Maps k).Copies) ∧ t + ((gt x.Maps k).Copies) ≤ 99 * (k + 1 : Int) := by
  have hh := ‹_ ∧ thereS b _ = _ ∧ _›
  have hq := maps_rng hp0 ‹x.Maps[k]? = some _›
  first | exact ⟨by omega, thereS_t ‹_› (by omega) hh.2.1, by omega, by omega⟩ | exact ⟨by omega, thereS_f ‹_› (by omega) hh.2.1, by omega, by omega⟩
theorem z_c_spec_l32There_30 (x : Library) (nx_Maps : Nat) (hbdx_Maps : (nx_Maps : Int) ≤ 9223372036854775807) (hlex_Maps : nx_Maps = x.Maps.length) (nx_Away : Nat) (hbdx_Away : (nx_Away : Int) ≤ 9223372036854775807) (hlex_Away : nx_Away = x.Away.length) (b : Bool) (hp0 : MapsOK x.Maps) (hp1 : nx_Maps ≤ 8) (k : Nat) (t : Int) (hi17 : k ≤ nx_Maps ∧ thereS b (x.Maps.take k) = t ∧ 0 ≤ t ∧ t ≤ 99 * (k : Int)) (h19 : (k : Int) < (nx_Maps : Int)) (h20 : b = false) (hx27 : x.Maps[k]? = some (gt x.Maps k)) : nx_Maps - (k + 1) < nx_Maps - k := by
  omega
theorem z_c_spec_l32There_31 (x : Library) (nx_Maps : Nat) (hbdx_Maps : (nx_Maps : Int) ≤ 9223372036854775807) (hlex_Maps : nx_Maps = x.Maps.length) (nx_Away : Nat) (hbdx_Away : (nx_Away : Int) ≤ 9223372036854775807) (hlex_Away : nx_Away = x.Away.length) (b : Bool) (hp0 : MapsOK x.Maps) (hp1 : nx_Maps ≤ 8) (k : Nat) (t : Int) (hi17 : k ≤ nx_Maps ∧ thereS b (x.Maps.take k) = t ∧ 0 ≤ t ∧ t ≤ 99 * (k : Int)) (h19 : ¬ ((k : Int) < (nx_Maps : Int))) : t = (if b = true then sumT x.Maps else sumC x.Maps) := by
  have hh := ‹_ ∧ thereS b _ = _ ∧ _›
  rw [← hh.2.1, List.take_of_length_le (by omega)]; rfl
theorem c_spec_l32There (w : World) (x : Library) {Ax_Maps : Option Addr} {nx_Maps cx_Maps Bx_Maps : Nat} (hx_Maps : SlR w Bx_Maps encLMap 3 Ax_Maps nx_Maps cx_Maps x.Maps) {Ax_Away : Option Addr} {nx_Away cx_Away Bx_Away : Nat} (hx_Away : SlR w Bx_Away encAway 2 Ax_Away nx_Away cx_Away x.Away) (b : Bool) (hp0 : MapsOK x.Maps) (hp1 : nx_Maps ≤ 8) : Calls Tryd.prog 47 #[.agg (List.toArray [.slice Ax_Maps nx_Maps cx_Maps, .slice Ax_Away nx_Away cx_Away, .int .i64 x.Bought, .int .i64 x.Dropped, .int .i64 x.Mended]), .bool b] w fun e w' => e = .returned (.int .i64 (if b = true then sumT x.Maps else sumC x.Maps)) ∧ Lo w w' := by
  refine calls_W 32 Tryd.func47 rfl rfl rfl ?_
  have hbdx_Maps := hx_Maps.bound
  have hlex_Maps := hx_Maps.len
  have hBbx_Maps := hx_Maps.bd
  have hbdx_Away := hx_Away.bound
  have hlex_Away := hx_Away.len
  have hBbx_Away := hx_Away.bd
  refine W.seq ?_
  refine W.regS (SR.box (v := .agg (List.toArray _)) (l := [.slice Ax_Maps nx_Maps cx_Maps, .slice Ax_Away nx_Away cx_Away, .int .i64 x.Bought, .int .i64 x.Dropped, .int .i64 x.Mended]) rfl rfl ?_)
  intro g1 w2 hg3 hk4 hs5 hb6
  have hz7 := hk4.size
  have hB8 := (Lo.refl w).lo hk4
  refine SR.q' (r_as (v := .int .i64 0) rfl) <| SR.nil ?_
  refine W.seq ?_
  refine W.regS (SR.q' (r_as (v := .int .i64 0) rfl) <| SR.nil ?_)
  refine W.seq ?_
  refine W.seq ?_
  refine W.regS (SR.q' (r_as (v := .int .i64 0) rfl) <| SR.nil ?_)
  refine W.block ?_
  refine W.loop (σ := Nat × Int) (fun g => [(1, .bool b), (2, .pointer (some ((⟨g1, 0, none⟩ : Addr)))), (4, .int .i64 0), (5, .int .i64 g.2), (6, .int .i64 (g.1 : Int))]) (fun g w' => (Lo w w') ∧ (Blk w' g1 35 [.slice Ax_Maps nx_Maps cx_Maps, .slice Ax_Away nx_Away cx_Away, .int .i64 x.Bought, .int .i64 x.Dropped, .int .i64 x.Mended]) ∧ (SlR w' Bx_Maps encLMap 3 Ax_Maps nx_Maps cx_Maps x.Maps) ∧ (SlR w' Bx_Away encAway 2 Ax_Away nx_Away cx_Away x.Away) ∧ (g.1 ≤ nx_Maps ∧ thereS b (x.Maps.take g.1) = g.2 ∧ 0 ≤ g.2 ∧ g.2 ≤ 99 * (g.1 : Int))) (fun g => nx_Maps - g.1) (0, (0 : Int)) ?_ ?_ ?_
  · exact ⟨rfl, rfl, rfl, rfl, rfl, trivial⟩
  · exact ⟨hB8, hb6, (hx_Maps).lo hk4, (hx_Away).lo hk4, (z_c_spec_l32There_9 x nx_Maps hbdx_Maps hlex_Maps nx_Away hbdx_Away hlex_Away b hp0 hp1)⟩
  · rintro ⟨k, t⟩ f10 w11 hP13
    obtain ⟨hB12, hm14, hm15, hm16, hi17⟩ : (Lo w w11) ∧ (Blk w11 g1 35 [.slice Ax_Maps nx_Maps cx_Maps, .slice Ax_Away nx_Away cx_Away, .int .i64 x.Bought, .int .i64 x.Dropped, .int .i64 x.Mended]) ∧ (SlR w11 Bx_Maps encLMap 3 Ax_Maps nx_Maps cx_Maps x.Maps) ∧ (SlR w11 Bx_Away encAway 2 Ax_Away nx_Away cx_Away x.Away) ∧ (k ≤ nx_Maps ∧ thereS b (x.Maps.take k) = t ∧ 0 ≤ t ∧ t ≤ 99 * (k : Int)) := hP13
    refine (?_ : W _ _ _ _ _ (act _ (sets f10 [(1, .bool b), (2, .pointer (some ((⟨g1, 0, none⟩ : Addr)))), (4, .int .i64 0), (5, .int .i64 t), (6, .int .i64 (k : Int))])) _)
    have hzw11 := hB12.size
    have hl18 := hm14.lt
    refine W.seq ?_
    refine W.seq ?_
    refine W.regS (SR.q' (r_mv (v := .int .i64 _) rfl) <| SR.q' (r_fa fa35_0 rfl) <| SR.q' (r_ld (v := .slice Ax_Maps nx_Maps cx_Maps) sca32 rfl ((hm14).cell rfl)) <| SR.q' (r_len und32 rfl) <| SR.q' (r_lt rfl rfl) <| SR.nil ?_)
    refine W.cond_d rfl (fun h19 => ?_) (fun h19 => ?_)
    · refine W.skip ?_
      refine W.seq ?_
      refine W.block ?_
      refine W.seq ?_
      refine W.regS (SR.q' (r_mv (v := .bool _) rfl) <| SR.nil ?_)
      refine W.cond_b rfl (fun h20 => ?_) (fun h20 => ?_)
      · refine W.regS (SR.q' (r_mv (v := .int .i64 _) rfl) <| SR.q' (r_fa fa35_0 rfl) <| SR.q' (r_ld (v := .slice Ax_Maps nx_Maps cx_Maps) sca32 rfl ((hm14).cell rfl)) <| SR.q' (r_mv (v := .int .i64 _) rfl) <| ?_)
        have hx22 := (hm15).elem (i := k) (by omega)
        have hq23 := maps_rng ‹MapsOK x.Maps› hx22
        refine SR.q' (r_ixR tsl32 (hm15) rfl rfl (by omega)) <| SR.q' (r_fa fa54_2 rfl) <| SR.q' (r_ld (v := .int .i64 ((gt x.Maps k).Torn)) sca3 rfl ((hm15).cell hx22 rfl)) <| SR.q' (r_add rfl rfl (by omega)) <| SR.q' (r_as (v := .int .i64 _) rfl) <| SR.nil ?_
        refine W.regS (SR.q' (r_mv (v := .int .i64 _) rfl) <| SR.q' (r_add rfl rfl (by omega)) <| SR.q' (r_as (v := .int .i64 _) rfl) <| SR.nil ?_)
        refine ⟨(k + 1, t + ((gt x.Maps k).Torn)), _, rfl, ⟨rfl, rfl, rfl, rfl, rfl, trivial⟩, ⟨hB12, hm14, hm15, hm16, ?_⟩, ?_⟩
        · exact (z_c_spec_l32There_24 x nx_Maps hbdx_Maps hlex_Maps nx_Away hbdx_Away hlex_Away b hp0 hp1 k t hi17 h19 h20 hx22)
        · exact (z_c_spec_l32There_25 x nx_Maps hbdx_Maps hlex_Maps nx_Away hbdx_Away hlex_Away b hp0 hp1 k t hi17 h19 h20 hx22)
      · refine W.regS (SR.q' (r_mv (v := .int .i64 _) rfl) <| SR.q' (r_fa fa35_0 rfl) <| SR.q' (r_ld (v := .slice Ax_Maps nx_Maps cx_Maps) sca32 rfl ((hm14).cell rfl)) <| SR.q' (r_mv (v := .int .i64 _) rfl) <| ?_)
        have hx27 := (hm15).elem (i := k) (by omega)
        have hq28 := maps_rng ‹MapsOK x.Maps› hx27
        refine SR.q' (r_ixR tsl32 (hm15) rfl rfl (by omega)) <| SR.q' (r_fa fa54_1 rfl) <| SR.q' (r_ld (v := .int .i64 ((gt x.Maps k).Copies)) sca3 rfl ((hm15).cell hx27 rfl)) <| SR.q' (r_add rfl rfl (by omega)) <| SR.q' (r_as (v := .int .i64 _) rfl) <| SR.nil ?_
        refine W.regS (SR.q' (r_mv (v := .int .i64 _) rfl) <| SR.q' (r_add rfl rfl (by omega)) <| SR.q' (r_as (v := .int .i64 _) rfl) <| SR.nil ?_)
        refine ⟨(k + 1, t + ((gt x.Maps k).Copies)), _, rfl, ⟨rfl, rfl, rfl, rfl, rfl, trivial⟩, ⟨hB12, hm14, hm15, hm16, ?_⟩, ?_⟩
        · exact (z_c_spec_l32There_29 x nx_Maps hbdx_Maps hlex_Maps nx_Away hbdx_Away hlex_Away b hp0 hp1 k t hi17 h19 h20 hx27)
        · exact (z_c_spec_l32There_30 x nx_Maps hbdx_Maps hlex_Maps nx_Away hbdx_Away hlex_Away b hp0 hp1 k t hi17 h19 h20 hx27)
    · refine W.exit (xin_here ?_)
      refine W.seq ?_
      refine W.regS (SR.q' (r_mv (v := .int .i64 _) rfl) <| SR.q' (r_as (v := .int .i64 _) rfl) <| SR.nil ?_)
      refine W.ret ?_
      refine ret1 rfl (v := .int .i64 _) rfl ?_
      exact ⟨eR (eI (z_c_spec_l32There_31 x nx_Maps hbdx_Maps hlex_Maps nx_Away hbdx_Away hlex_Away b hp0 hp1 k t hi17 h19)), hB12⟩
end Go.Proofs.YtocpdkhahmbaiaaDoor
