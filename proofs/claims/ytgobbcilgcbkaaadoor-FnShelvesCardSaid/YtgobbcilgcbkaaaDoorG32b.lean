/- Walks, printed by a program of this claim's author. -/
import Derived.Test.YtgobbcilgcbkaaaDoorChecked
import Derived.Test.YtgobbcilgcbkaaaDoorUa
import Derived.Test.YtgobbcilgcbkaaaDoorFu
import Derived.Test.YtgobbcilgcbkaaaDoorFs
import Derived.Test.YtgobbcilgcbkaaaDoorFq
import Derived.Test.YtgobbcilgcbkaaaDoorFo
import Derived.Test.YtgobbcilgcbkaaaDoorDa
import Derived.Test.YtgobbcilgcbkaaaDoorG32d
namespace Go.Proofs.YtgobbcilgcbkaaaDoor
open Go Go.RowKit Fw
set_option maxRecDepth 10000
set_option maxHeartbeats 2000000
set_option linter.unusedVariables false
theorem agg48 : TAgg Tryd.prog 48 3 := ⟨fun _ => by kernel_rfl, fun _ => by kernel_rfl⟩
theorem ent43 : Ent Tryd.prog 43 := ent_of Tryd.func43 (by decide +kernel) rfl
theorem ent44 : Ent Tryd.prog 44 := ent_of Tryd.func44 (by decide +kernel) rfl
theorem ent45 : Ent Tryd.prog 45 := ent_of Tryd.func45 (by decide +kernel) rfl
theorem ent58 : Ent Tryd.prog 58 := ent_of Tryd.func58 (by decide +kernel) rfl
theorem ent59 : Ent Tryd.prog 59 := ent_of Tryd.func59 (by decide +kernel) rfl
theorem fa27_0 : FA Tryd.prog 27 0 0 := fun _ _ => by kernel_rfl
theorem fa48_0 : FA Tryd.prog 48 0 0 := fun _ _ => by kernel_rfl
theorem fa48_1 : FA Tryd.prog 48 1 1 := fun _ _ => by kernel_rfl
theorem fa48_2 : FA Tryd.prog 48 2 2 := fun _ _ => by kernel_rfl
theorem fa57_0 : FA Tryd.prog 57 0 0 := fun _ _ => by kernel_rfl
theorem fa57_1 : FA Tryd.prog 57 1 1 := fun _ _ => by kernel_rfl
theorem sca24 : TSca Tryd.prog 24 := ⟨fun _ => by kernel_rfl, fun _ => by kernel_rfl⟩
theorem sca3 : TSca Tryd.prog 3 := ⟨fun _ => by kernel_rfl, fun _ => by kernel_rfl⟩
theorem tel30 : TEl Tryd.prog 30 3 (.int .i64 0) 1 8 := ⟨by kernel_rfl, by kernel_rfl, rfl, by decide⟩
theorem tsl24 : TSl Tryd.prog 24 48 3 := ⟨by kernel_rfl, fun _ => by kernel_rfl⟩
theorem tsl30 : TSl Tryd.prog 30 3 1 := ⟨by kernel_rfl, fun _ => by kernel_rfl⟩
theorem tz48 : TZ Tryd.prog 48 (.agg (List.toArray [.int .i64 0, .int .i64 0, .int .i64 0])) := fun _ => by kernel_rfl
theorem und24 : Tryd.prog.underlying 24 = some (.slice 48) := by kernel_rfl
theorem und3 : Tryd.prog.underlying 3 = some (.int .i64) := by kernel_rfl
theorem und30 : Tryd.prog.underlying 30 = some (.slice 3) := by kernel_rfl
theorem und73 : Tryd.prog.underlying 73 = some (.int .u64) := by kernel_rfl

theorem c_cmp_isNaN_int_ (w : World) (a : Int) : Calls Tryd.prog 58 #[.int .i64 a] w fun e w' => e = .returned (.bool false) ∧ Lo w w' := by
  refine calls_W 6 Tryd.func58 rfl rfl rfl ?_
  refine W.seq ?_
  refine W.regS (SR.q' (r_as (v := .bool false) rfl) <| SR.nil ?_)
  refine W.seq ?_
  refine W.regS (SR.q' (r_mv (v := .int .i64 _) rfl) <| SR.q' (r_mv (v := .int .i64 _) rfl) <| SR.q' (r_ne_s rfl rfl) <| SR.q' (r_as (v := .bool _) rfl) <| SR.nil ?_)
  refine W.ret ?_
  refine ret1 rfl (v := .bool _) rfl ?_
  exact ⟨eR rfl, (Lo.refl w)⟩

theorem z_c_cmp_Compare_int__10 (a : Int) (b : Int) (h9 : a < b) : (-1) = cmpI a b := by
  unfold cmpI; split <;> (try split) <;> omega
theorem z_c_cmp_Compare_int__12 (a : Int) (b : Int) (h9 : ¬ (a < b)) (h11 : b < a) : 1 = cmpI a b := by
  unfold cmpI; split <;> (try split) <;> omega
theorem z_c_cmp_Compare_int__13 (a : Int) (b : Int) (h9 : ¬ (a < b)) (h11 : ¬ (b < a)) : 0 = cmpI a b := by
  unfold cmpI; split <;> (try split) <;> omega
theorem c_cmp_Compare_int_ (w : World) (a : Int) (b : Int) : Calls Tryd.prog 45 #[.int .i64 a, .int .i64 b] w fun e w' => e = .returned (.int .i64 (cmpI a b)) ∧ Lo w w' := by
  refine calls_W 20 Tryd.func45 rfl rfl rfl ?_
  refine W.seq ?_
  refine W.regS (SR.q' (r_as (v := .int .i64 0) rfl) <| SR.nil ?_)
  refine W.seq ?_
  refine W.regS (SR.q' (r_mv (v := .int .i64 _) rfl) <| SR.call ent58 (c_cmp_isNaN_int_ w a) rfl ?_)
  rintro e w1 ⟨rfl, hk2⟩
  refine ⟨_, rfl, ?_⟩
  have hz3 := hk2.size
  have hB4 := (Lo.refl w).lo hk2
  refine SR.q' (r_as (v := .bool _) rfl) <| SR.nil ?_
  refine W.seq ?_
  refine W.regS (SR.q' (r_mv (v := .int .i64 _) rfl) <| SR.call ent58 (c_cmp_isNaN_int_ w1 b) rfl ?_)
  rintro e w5 ⟨rfl, hk6⟩
  refine ⟨_, rfl, ?_⟩
  have hz7 := hk6.size
  have hB8 := hB4.lo hk6
  refine SR.q' (r_as (v := .bool _) rfl) <| SR.nil ?_
  refine W.seq ?_
  refine W.seq ?_
  refine W.regS (SR.q' (r_mv (v := .bool _) rfl) <| SR.nil ?_)
  refine W.cond_f rfl ?_
  refine W.skip ?_
  refine W.seq ?_
  refine W.seq ?_
  refine W.regS (SR.q' (r_mv (v := .bool _) rfl) <| SR.nil ?_)
  refine W.cond_f rfl ?_
  refine W.skip ?_
  refine W.seq ?_
  refine W.seq ?_
  refine W.regS (SR.q' (r_mv (v := .int .i64 _) rfl) <| SR.q' (r_mv (v := .int .i64 _) rfl) <| SR.q' (r_lt rfl rfl) <| SR.nil ?_)
  refine W.cond_d rfl (fun h9 => ?_) (fun h9 => ?_)
  · refine W.seq ?_
    refine W.regS (SR.q' (r_as (v := .int .i64 (-1)) rfl) <| SR.nil ?_)
    refine W.ret ?_
    refine ret1 rfl (v := .int .i64 _) rfl ?_
    exact ⟨eR (eI (z_c_cmp_Compare_int__10 a b h9)), hB8⟩
  · refine W.skip ?_
    refine W.seq ?_
    refine W.seq ?_
    refine W.regS (SR.q' (r_mv (v := .int .i64 _) rfl) <| SR.q' (r_mv (v := .int .i64 _) rfl) <| SR.q' (r_gt rfl rfl) <| SR.nil ?_)
    refine W.cond_d rfl (fun h11 => ?_) (fun h11 => ?_)
    · refine W.seq ?_
      refine W.regS (SR.q' (r_as (v := .int .i64 1) rfl) <| SR.nil ?_)
      refine W.ret ?_
      refine ret1 rfl (v := .int .i64 _) rfl ?_
      exact ⟨eR (eI (z_c_cmp_Compare_int__12 a b h9 h11)), hB8⟩
    · refine W.skip ?_
      refine W.seq ?_
      refine W.regS (SR.q' (r_as (v := .int .i64 0) rfl) <| SR.nil ?_)
      refine W.ret ?_
      refine ret1 rfl (v := .int .i64 _) rfl ?_
      exact ⟨eR (eI (z_c_cmp_Compare_int__13 a b h9 h11)), hB8⟩

theorem z_c_cmp_Or_int__11 (L : List Int) (nL : Nat) (hbdL : (nL : Int) ≤ 9223372036854775807) (hleL : nL = L.length) (k : Nat) (hi6 : k ≤ nL ∧ ∀ j, j < k → gt L j = 0) (h7 : (k : Int) < (nL : Int)) (hx9 : L[k]? = some (gt L k)) (h10 : (gt L k) = 0) : k + 1 ≤ nL ∧ ∀ j, j < k + 1 → gt L j = 0 := by
  subst hleL
  have hh := ‹k ≤ L.length ∧ ∀ j, j < k → gt L j = 0›
  refine ⟨by omega, fun j hj => ?_⟩
  rcases Nat.lt_or_ge j k with h1 | h1
  · exact hh.2 j h1
  · have e : j = k := by omega
    rw [e]; first | assumption | exact Classical.not_not.1 ‹_›
theorem c_cmp_Or_int_ (w : World) {AL : Option Addr} {nL cL BL : Nat}  (L : List Int) (hL : SlR w BL encI 1 AL nL cL L) : Calls Tryd.prog 59 #[.slice AL nL cL] w fun e w' => e = .returned (.int .i64 (orI L)) ∧ Lo w w' := by
  refine calls_W 18 Tryd.func59 rfl rfl rfl ?_
  have hbdL := hL.bound
  have hleL := hL.len
  have hBbL := hL.bd
  refine W.seq ?_
  refine W.regS (SR.q' (r_as (v := .int .i64 0) rfl) <| SR.nil ?_)
  refine W.seq ?_
  refine W.regS (SR.q' (r_as (v := .int .i64 0) rfl) <| SR.nil ?_)
  refine W.seq ?_
  refine W.seq ?_
  refine W.regS (SR.q' (r_mv (v := .slice _ _ _) rfl) <| SR.q' (r_len und30 rfl) <| SR.q' (r_mv (v := .int .i64 0) rfl) <| SR.nil ?_)
  refine W.block ?_
  refine W.loop (σ := Nat) (fun g => [(3, .int .i64 0), (6, .slice AL nL cL), (7, .int .i64 (nL : Int)), (8, .int .i64 (g : Int))]) (fun g w' => (Lo w w') ∧ (SlR w' BL encI 1 AL nL cL L) ∧ (g ≤ nL ∧ ∀ j, j < g → gt L j = 0)) (fun g => nL - g) 0 ?_ ?_ ?_
  · exact ⟨rfl, rfl, rfl, rfl, trivial⟩
  · exact ⟨(Lo.refl w), hL, (by exact ⟨Nat.zero_le _, fun _ h => absurd h (by omega)⟩)⟩
  · rintro k f1 w2 hP4
    obtain ⟨hB3, hm5, hi6⟩ : (Lo w w2) ∧ (SlR w2 BL encI 1 AL nL cL L) ∧ (k ≤ nL ∧ ∀ j, j < k → gt L j = 0) := hP4
    refine (?_ : W _ _ _ _ _ (act _ (sets f1 [(3, .int .i64 0), (6, .slice AL nL cL), (7, .int .i64 (nL : Int)), (8, .int .i64 (k : Int))])) _)
    have hzw2 := hB3.size
    refine W.seq ?_
    refine W.regS (SR.q' (r_lt rfl rfl) <| SR.nil ?_)
    refine W.seq ?_
    refine W.cond_d rfl (fun h7 => ?_) (fun h7 => ?_)
    · refine W.skip ?_
      refine W.seq ?_
      refine W.block ?_
      refine W.seq ?_
      have hx9 := (hm5).elem (i := k) (by omega)
      refine W.regS (SR.q' (r_ixR tsl30 (hm5) rfl rfl (by omega)) <| SR.q' (r_ld (v := .int .i64 (gt L k)) sca3 rfl ((hm5).cell0 hx9 rfl)) <| SR.q' (r_as (v := .int .i64 _) rfl) <| SR.nil ?_)
      refine W.seq ?_
      refine W.regS (SR.q' (r_mv (v := .int .i64 _) rfl) <| SR.q' (r_mv (v := .int .i64 _) rfl) <| SR.q' (r_ne rfl rfl) <| SR.nil ?_)
      refine W.cond_n rfl (fun h10 => ?_) (fun h10 => ?_)
      · refine W.seq ?_
        refine W.regS (SR.q' (r_mv (v := .int .i64 _) rfl) <| SR.q' (r_as (v := .int .i64 _) rfl) <| SR.nil ?_)
        refine W.ret ?_
        refine ret1 rfl (v := .int .i64 _) rfl ?_
        exact ⟨eR (eI (by subst hleL; have hh := ‹k ≤ L.length ∧ ∀ j, j < k → gt L j = 0›; first | exact (orI_at hh.2 (by omega) ‹_›).symm | exact (orI_none fun j hj => hh.2 j (by omega)).symm)), hB3⟩
      · refine W.skip ?_
        refine W.regS (SR.q' (r_add rfl rfl (by omega)) <| SR.q' (r_mv (v := .int .i64 _) rfl) <| SR.nil ?_)
        refine ⟨k + 1, _, rfl, ⟨rfl, rfl, rfl, rfl, trivial⟩, ⟨hB3, hm5, ?_⟩, ?_⟩
        · exact (z_c_cmp_Or_int__11 L nL hbdL hleL k hi6 h7 hx9 h10)
        · exact (by omega)
    · refine W.exit (xin_here ?_)
      refine W.seq ?_
      refine W.regS (SR.q' (r_mv (v := .int .i64 _) rfl) <| SR.q' (r_as (v := .int .i64 _) rfl) <| SR.nil ?_)
      refine W.ret ?_
      refine ret1 rfl (v := .int .i64 _) rfl ?_
      exact ⟨eR (eI (by subst hleL; have hh := ‹k ≤ L.length ∧ ∀ j, j < k → gt L j = 0›; first | exact (orI_at hh.2 (by omega) ‹_›).symm | exact (orI_none fun j hj => hh.2 j (by omega)).symm)), hB3⟩

theorem c_impl_compareAway (w : World) (p : Away) (q : Away) : Calls Tryd.prog 48 #[.agg (List.toArray (encAway p)), .agg (List.toArray (encAway q))] w fun e w' => e = .returned (.int .i64 (cmpA p q)) ∧ Lo w w' := by
  refine calls_W 17 Tryd.func48 rfl rfl rfl ?_
  refine W.seq ?_
  refine W.regS (SR.box (v := .agg (List.toArray _)) (l := [.int .i64 p.Map, .int .i64 p.Reader]) rfl rfl ?_)
  intro g1 w2 hg3 hk4 hs5 hb6
  have hz7 := hk4.size
  have hB8 := (Lo.refl w).lo hk4
  refine SR.box (v := .agg (List.toArray _)) (l := [.int .i64 q.Map, .int .i64 q.Reader]) rfl rfl ?_
  intro g9 w10 hg11 hk12 hs13 hb14
  have hz15 := hk12.size
  have hB16 := hB8.lo hk12
  refine SR.q' (r_as (v := .int .i64 0) rfl) <| SR.nil ?_
  refine W.seq ?_
  refine W.regA (Lo w10) (fun f' w' => ∃ (g31 : Nat), At f' [(4, .int .i64 (orI ([cmpI p.Map q.Map, cmpI p.Reader q.Reader] : List Int)))] ∧ (Lo w10 w')) mo ?_ ?_
  · intro w45 hk46
    have hz47 := hk46.size
    have hB48 := hB16.lo hk46
    refine AH.take 0 rfl (by kernel_rfl) trivial (hk46) (fun w' hw' => r_fa fa57_0 rfl) <| AH.take 1 rfl (by kernel_rfl) trivial (hk46) (fun w' hw' => r_ld (v := .int .i64 p.Map) sca3 rfl ((((hb6).lo hk12).lo hw').cell rfl)) <| AH.take 2 rfl (by kernel_rfl) trivial (hk46) (fun w' hw' => r_fa fa57_0 rfl) <| AH.take 3 rfl (by kernel_rfl) trivial (hk46) (fun w' hw' => r_ld (v := .int .i64 q.Map) sca3 rfl (((hb14).lo hw').cell rfl)) <| AH.take 5 rfl (by kernel_rfl) trivial (hk46) (fun w' hw' => r_fa fa57_1 rfl) <| AH.take 6 rfl (by kernel_rfl) trivial (hk46) (fun w' hw' => r_ld (v := .int .i64 p.Reader) sca3 rfl ((((hb6).lo hk12).lo hw').cell rfl)) <| AH.take 7 rfl (by kernel_rfl) trivial (hk46) (fun w' hw' => r_fa fa57_1 rfl) <| AH.take 8 rfl (by kernel_rfl) trivial (hk46) (fun w' hw' => r_ld (v := .int .i64 q.Reader) sca3 rfl (((hb14).lo hw').cell rfl)) <| AH.br [4] (by kernel_rfl) rfl ⟨Br.mk' rfl trivial ?_, trivial⟩
    refine SR.call ent45 (c_cmp_Compare_int_ w45 p.Map q.Map) rfl ?_
    rintro e w49 ⟨rfl, hk50⟩
    refine ⟨_, rfl, ?_⟩
    have hz51 := hk50.size
    have hB52 := hB48.lo hk50
    have hS53 := (hk46).lo hk50
    refine SR.nil ⟨hS53, _, rfl, ?_⟩
    refine AH.br [9] (by kernel_rfl) rfl ⟨Br.mk' rfl trivial ?_, trivial⟩
    refine SR.call ent45 (c_cmp_Compare_int_ w49 p.Reader q.Reader) rfl ?_
    rintro e w54 ⟨rfl, hk55⟩
    refine ⟨_, rfl, ?_⟩
    have hz56 := hk55.size
    have hB57 := hB52.lo hk55
    have hS58 := (hS53).lo hk55
    refine SR.nil ⟨hS58, _, rfl, ?_⟩
    refine AH.br [10] (by kernel_rfl) rfl ⟨Br.mk' rfl trivial ?_, trivial⟩
    refine SR.lit (vs := [.int .i64 (cmpI p.Map q.Map), .int .i64 (cmpI p.Reader q.Reader)]) (L := ([cmpI p.Map q.Map, cmpI p.Reader q.Reader] : List Int)) (enc := encI) tel30 (fun _ => rfl) rfl rfl rfl (by decide) ?_
    intro g59 w60 hg61 hk62 hO63
    have hz64 := hk62.size
    have hB65 := hB57.lo hk62
    have hS66 := (hS58).lo hk62
    refine SR.nil ⟨hS66, _, rfl, ?_⟩
    refine AH.br [11] (by kernel_rfl) rfl ⟨Br.mk' rfl trivial ?_, trivial⟩
    refine SR.call ent59 (c_cmp_Or_int_ w60 ([cmpI p.Map q.Map, cmpI p.Reader q.Reader] : List Int) (((hO63).rd))) rfl ?_
    rintro e w67 ⟨rfl, hk68⟩
    refine ⟨_, rfl, ?_⟩
    have hz69 := hk68.size
    have hB70 := hB65.lo hk68
    have hS71 := (hS66).lo hk68
    refine SR.nil ⟨hS71, _, rfl, ?_⟩
    refine AH.take 12 rfl (by kernel_rfl) trivial (hS71) (fun w' hw' => r_as (v := .int .i64 _) rfl) <| AH.done (by kernel_rfl) ?_
    exact ⟨g59, ⟨rfl, trivial⟩, hS71⟩
  rintro f72 w73 ⟨g31, hat75, hR74⟩
  rw [← sets_of_at hat75]
  have hz76 := hR74.size
  have hB77 := hB16.lo hR74
  refine W.ret ?_
  refine ret1 rfl (v := .int .i64 _) rfl ?_
  exact ⟨eR (eI (by rfl)), hB77⟩

theorem z_c_slices_BinarySearchFunc___impl_Map_impl_Map_int__15 (L : List LMap) (nL : Nat) (hbdL : (nL : Int) ≤ 9223372036854775807) (hleL : nL = L.length) (t : Int) (c : LMap → Int → Int) (hp0 : (nL : Int) ≤ 1048576) (i : Nat) (j : Nat) (hi6 : i ≤ j ∧ j ≤ nL ∧ bsr (fun x => decide (c x t < 0)) L i j = bsr (fun x => decide (c x t < 0)) L 0 L.length) (h7 : (i : Int) < (j : Int)) (hx9 : L[(((i : Int) + (j : Int)) / 2).toNat]? = some (gt L ((((i : Int) + (j : Int)) / 2).toNat))) (h14 : (c (gt L ((((i : Int) + (j : Int)) / 2).toNat)) t) < 0) : (i + j) / 2 + 1 ≤ j ∧ j ≤ nL ∧ bsr (fun x => decide (c x t < 0)) L ((i + j) / 2 + 1) j = bsr (fun x => decide (c x t < 0)) L 0 L.length := by
  subst hleL
  have hh := ‹_ ∧ _ ∧ bsr _ _ _ _ = _›
  have hd : (((i : Int) + (j : Int)) / 2).toNat = (i + j) / 2 := by omega
  simp only [hd] at *
  first | exact ⟨by omega, by omega, (bsr_lo (p := fun x => decide (c x t < 0)) (by omega) (decide_eq_true ‹c _ t < 0›)).trans hh.2.2⟩ | exact ⟨by omega, by omega, (bsr_hi (p := fun x => decide (c x t < 0)) (by omega) (decide_eq_false ‹¬ c _ t < 0›)).trans hh.2.2⟩
theorem z_c_slices_BinarySearchFunc___impl_Map_impl_Map_int__16 (L : List LMap) (nL : Nat) (hbdL : (nL : Int) ≤ 9223372036854775807) (hleL : nL = L.length) (t : Int) (c : LMap → Int → Int) (hp0 : (nL : Int) ≤ 1048576) (i : Nat) (j : Nat) (hi6 : i ≤ j ∧ j ≤ nL ∧ bsr (fun x => decide (c x t < 0)) L i j = bsr (fun x => decide (c x t < 0)) L 0 L.length) (h7 : (i : Int) < (j : Int)) (hx9 : L[(((i : Int) + (j : Int)) / 2).toNat]? = some (gt L ((((i : Int) + (j : Int)) / 2).toNat))) (h14 : ¬ ((c (gt L ((((i : Int) + (j : Int)) / 2).toNat)) t) < 0)) : i ≤ (i + j) / 2 ∧ (i + j) / 2 ≤ nL ∧ bsr (fun x => decide (c x t < 0)) L i ((i + j) / 2) = bsr (fun x => decide (c x t < 0)) L 0 L.length := by
  subst hleL
  have hh := ‹_ ∧ _ ∧ bsr _ _ _ _ = _›
  have hd : (((i : Int) + (j : Int)) / 2).toNat = (i + j) / 2 := by omega
  simp only [hd] at *
  first | exact ⟨by omega, by omega, (bsr_lo (p := fun x => decide (c x t < 0)) (by omega) (decide_eq_true ‹c _ t < 0›)).trans hh.2.2⟩ | exact ⟨by omega, by omega, (bsr_hi (p := fun x => decide (c x t < 0)) (by omega) (decide_eq_false ‹¬ c _ t < 0›)).trans hh.2.2⟩
theorem c_slices_BinarySearchFunc___impl_Map_impl_Map_int_ (w : World) {AL : Option Addr} {nL cL BL : Nat}  (L : List LMap) (hL : SlR w BL encLMap 3 AL nL cL L) (t : Int) {kc : Nat} {capc : List Value} (c : LMap → Int → Int) (hc : Fnc2 Tryd.prog w kc capc (fun x => .agg (List.toArray (encLMap x))) (fun x => .int .i64 x) c) (hp0 : (nL : Int) ≤ 1048576) : Calls Tryd.prog 43 #[.slice AL nL cL, .int .i64 t, .func (.func kc) #[] (List.toArray capc)] w fun e w' => e = .returned (.tuple (List.toArray [.int .i64 (bsP c t L : Int), .bool (decide (bsF c t L))])) ∧ Lo w w' := by
  refine calls_W 49 Tryd.func43 rfl rfl rfl ?_
  have hbdL := hL.bound
  have hleL := hL.len
  have hBbL := hL.bd
  refine W.seq ?_
  refine W.regS (SR.q' (r_as (v := .int .i64 0) rfl) <| SR.q' (r_as (v := .bool false) rfl) <| SR.nil ?_)
  refine W.seq ?_
  refine W.regS (SR.q' (r_mv (v := .slice _ _ _) rfl) <| SR.q' (r_len und24 rfl) <| SR.q' (r_as (v := .int .i64 _) rfl) <| SR.nil ?_)
  refine W.seq ?_
  refine W.regS (SR.q' (r_mv (v := .int .i64 _) rfl) <| SR.q' (r_as (v := .int .i64 0) rfl) <| SR.q' (r_as (v := .int .i64 _) rfl) <| SR.nil ?_)
  refine W.seq ?_
  refine W.block ?_
  refine W.loop (σ := Nat × Nat) (fun g => [(0, .slice AL nL cL), (1, .int .i64 t), (2, .func (.func kc) #[] (List.toArray capc)), (6, .int .i64 0), (7, .bool false), (8, .int .i64 (nL : Int)), (9, .int .i64 (g.1 : Int)), (10, .int .i64 (g.2 : Int))]) (fun g w' => (Lo w w') ∧ (SlR w' BL encLMap 3 AL nL cL L) ∧ (g.1 ≤ g.2 ∧ g.2 ≤ nL ∧ bsr (fun x => decide (c x t < 0)) L g.1 g.2 = bsr (fun x => decide (c x t < 0)) L 0 L.length)) (fun g => g.2 - g.1) (0, nL) ?_ ?_ ?_
  · exact ⟨rfl, rfl, rfl, rfl, rfl, rfl, (eI (by first | omega | (dsimp only; omega))), rfl, trivial⟩
  · exact ⟨(Lo.refl w), hL, (by subst hleL; exact ⟨by omega, by omega, rfl⟩)⟩
  · rintro ⟨i, j⟩ f1 w2 hP4
    obtain ⟨hB3, hm5, hi6⟩ : (Lo w w2) ∧ (SlR w2 BL encLMap 3 AL nL cL L) ∧ (i ≤ j ∧ j ≤ nL ∧ bsr (fun x => decide (c x t < 0)) L i j = bsr (fun x => decide (c x t < 0)) L 0 L.length) := hP4
    refine (?_ : W _ _ _ _ _ (act _ (sets f1 [(0, .slice AL nL cL), (1, .int .i64 t), (2, .func (.func kc) #[] (List.toArray capc)), (6, .int .i64 0), (7, .bool false), (8, .int .i64 (nL : Int)), (9, .int .i64 (i : Int)), (10, .int .i64 (j : Int))])) _)
    have hzw2 := hB3.size
    refine W.seq ?_
    refine W.seq ?_
    refine W.regS (SR.q' (r_mv (v := .int .i64 _) rfl) <| SR.q' (r_mv (v := .int .i64 _) rfl) <| SR.q' (r_lt rfl rfl) <| SR.nil ?_)
    refine W.cond_d rfl (fun h7 => ?_) (fun h7 => ?_)
    · refine W.skip ?_
      refine W.block ?_
      refine W.seq ?_
      refine W.regS (SR.q' (r_mv (v := .int .i64 _) rfl) <| SR.q' (r_mv (v := .int .i64 _) rfl) <| SR.q' (r_add rfl rfl (by omega)) <| SR.q' (r_convU und73 und3 rfl (by omega)) <| SR.q' (r_half rfl rfl (by omega)) <| SR.q' (r_convI und3 und73 rfl (by omega)) <| SR.q' (r_as (v := .int .i64 _) rfl) <| SR.nil ?_)
      refine W.seq ?_
      refine W.regS (SR.q' (r_mv (v := .func _ #[] (List.toArray _)) rfl) <| SR.q' (r_mv (v := .slice _ _ _) rfl) <| SR.q' (r_mv (v := .int .i64 _) rfl) <| ?_)
      have hx9 := (hm5).elem (i := (((i : Int) + (j : Int)) / 2).toNat) (by omega)
      refine SR.q' (r_ixR tsl24 (hm5) rfl rfl (by omega)) <| SR.q' (r_lda (l := encLMap (gt L ((((i : Int) + (j : Int)) / 2).toNat))) agg48 rfl (fun _ _ hu => (hm5).cell hx9 hu) ((hm5).esz _)) <| SR.q' (r_mv (v := .int .i64 _) rfl) <| SR.callv (hc).1 rfl ((hc).2 _ hB3 (gt L ((((i : Int) + (j : Int)) / 2).toNat)) t) rfl ?_
      rintro e w10 ⟨rfl, hk11⟩
      refine ⟨_, rfl, ?_⟩
      have hz12 := hk11.size
      have hB13 := hB3.lo hk11
      refine SR.q' (r_lt rfl rfl) <| SR.nil ?_
      refine W.cond_d rfl (fun h14 => ?_) (fun h14 => ?_)
      · refine W.regS (SR.q' (r_mv (v := .int .i64 _) rfl) <| SR.q' (r_add rfl rfl (by omega)) <| SR.q' (r_as (v := .int .i64 _) rfl) <| SR.nil ?_)
        refine ⟨((i + j) / 2 + 1, j), _, rfl, ⟨rfl, rfl, rfl, rfl, rfl, rfl, (eI (by first | omega | (dsimp only; omega))), rfl, trivial⟩, ⟨hB13, (hm5).lo hk11, ?_⟩, ?_⟩
        · exact (z_c_slices_BinarySearchFunc___impl_Map_impl_Map_int__15 L nL hbdL hleL t c hp0 i j hi6 h7 hx9 h14)
        · exact (by omega)
      · refine W.regS (SR.q' (r_mv (v := .int .i64 _) rfl) <| SR.q' (r_as (v := .int .i64 _) rfl) <| SR.nil ?_)
        refine ⟨(i, (i + j) / 2), _, rfl, ⟨rfl, rfl, rfl, rfl, rfl, rfl, rfl, (eI (by first | omega | (dsimp only; omega))), trivial⟩, ⟨hB13, (hm5).lo hk11, ?_⟩, ?_⟩
        · exact (z_c_slices_BinarySearchFunc___impl_Map_impl_Map_int__16 L nL hbdL hleL t c hp0 i j hi6 h7 hx9 h14)
        · exact (by omega)
    · refine W.exit (xin_here ?_)
      refine W.seq ?_
      refine W.regJS (fun f' w' => At f' [(6, .int .i64 (i : Int)), (7, .bool (decide (((i : Int) < (nL : Int)) ∧ ((c (gt L i) t) = 0))))] ∧ Lo w2 w') ?_ ?_
      · refine SR.q' (r_mv (v := .int .i64 _) rfl) <| SR.q' (r_mv (v := .int .i64 _) rfl) <| SR.q' (r_mv (v := .int .i64 _) rfl) <| SR.q' (r_lt rfl rfl) <| SR.q' (r_mv (v := .bool _) rfl) <| SR.splitD (fun h17 => ?_) (fun h17 => ?_)
        · refine SR.g' rfl (r_mv (v := .func _ #[] (List.toArray _)) rfl) <| SR.g' rfl (r_mv (v := .slice _ _ _) rfl) <| SR.g' rfl (r_mv (v := .int .i64 _) rfl) <| ?_
          have hx19 := (hm5).elem (i := i) (by omega)
          refine SR.g' rfl (r_ixR tsl24 (hm5) rfl rfl (by omega)) <| SR.g' rfl (r_lda (l := encLMap (gt L i)) agg48 rfl (fun _ _ hu => (hm5).cell hx19 hu) ((hm5).esz _)) <| SR.g' rfl (r_mv (v := .int .i64 _) rfl) <| SR.gcallv rfl (hc).1 rfl ((hc).2 _ hB3 (gt L i) t) rfl ?_
          rintro e w20 ⟨rfl, hk21⟩
          refine ⟨_, rfl, ?_⟩
          have hz22 := hk21.size
          have hB23 := hB3.lo hk21
          refine SR.g' rfl (r_eq rfl rfl) <| SR.q' (r_pick true rfl (v := .bool _) rfl) <| SR.q' (r_as (v := .int .i64 _) rfl) <| SR.q' (r_as (v := .bool _) rfl) <| SR.nil ?_
          exact ⟨_, rfl, ⟨⟨rfl, (eDD (jat h17)), trivial⟩, (hk21)⟩⟩
        · refine SR.s' rfl <| SR.s' rfl <| SR.s' rfl <| SR.s' rfl <| SR.s' rfl <| SR.s' rfl <| SR.s' rfl <| SR.s' rfl <| SR.q' (r_pick false rfl (v := .bool false) rfl) <| SR.q' (r_as (v := .int .i64 _) rfl) <| SR.q' (r_as (v := .bool _) rfl) <| SR.nil ?_
          exact ⟨_, rfl, ⟨⟨rfl, (eDF (jaf h17).2), trivial⟩, (Lo.refl _)⟩⟩
      rintro f24 w25 ⟨hat26, hk27⟩
      rw [← sets_of_at hat26]
      have hz28 := hk27.size
      have hB29 := hB3.lo hk27
      refine W.ret ?_
      refine ret2 rfl (v := .int .i64 _) (v' := .bool _) rfl rfl ?_
      exact ⟨eR (eT2 (eI (by subst hleL; have hh := ‹_ ∧ _ ∧ bsr _ _ _ _ = _›; unfold bsP; rw [← hh.2.2, bsr_end (by omega)])) (eDD (by subst hleL; have hh := ‹_ ∧ _ ∧ bsr _ _ _ _ = _›; have e : bsP c t L = i := (by unfold bsP; rw [← hh.2.2, bsr_end (by omega)]); unfold bsF; rw [e]))), hB29⟩

theorem c__impl_Library__mapAt_1 (w : World) (m : LMap) (i : Int) : Calls Tryd.prog 44 #[.agg (List.toArray (encLMap m)), .int .i64 i] w fun e w' => e = .returned (.int .i64 (cmpM m i)) ∧ Lo w w' := by
  refine calls_W 9 Tryd.func44 rfl rfl rfl ?_
  refine W.seq ?_
  refine W.regS (SR.box (v := .agg (List.toArray _)) (l := [.int .i64 m.Id, .int .i64 m.Copies, .int .i64 m.Torn]) rfl rfl ?_)
  intro g1 w2 hg3 hk4 hs5 hb6
  have hz7 := hk4.size
  have hB8 := (Lo.refl w).lo hk4
  refine SR.q' (r_as (v := .int .i64 0) rfl) <| SR.nil ?_
  refine W.seq ?_
  refine W.regS (SR.q' (r_fa fa48_0 rfl) <| SR.q' (r_ld (v := .int .i64 m.Id) sca3 rfl ((hb6).cell rfl)) <| SR.q' (r_mv (v := .int .i64 _) rfl) <| SR.call ent45 (c_cmp_Compare_int_ w2 m.Id i) rfl ?_)
  rintro e w9 ⟨rfl, hk10⟩
  refine ⟨_, rfl, ?_⟩
  have hz11 := hk10.size
  have hB12 := hB8.lo hk10
  refine SR.q' (r_as (v := .int .i64 _) rfl) <| SR.nil ?_
  refine W.ret ?_
  refine ret1 rfl (v := .int .i64 _) rfl ?_
  exact ⟨eR (eI (by rfl)), hB12⟩

theorem c__impl_Library__mapAt (w : World) (x : Library) {Ax_Maps : Option Addr} {nx_Maps cx_Maps Bx_Maps : Nat} (hx_Maps : SlR w Bx_Maps encLMap 3 Ax_Maps nx_Maps cx_Maps x.Maps) {Ax_Away : Option Addr} {nx_Away cx_Away Bx_Away : Nat} (hx_Away : SlR w Bx_Away encAway 2 Ax_Away nx_Away cx_Away x.Away) (id : Int) (hp0 : (nx_Maps : Int) ≤ 1048576) : Calls Tryd.prog 27 #[.agg (List.toArray [.slice Ax_Maps nx_Maps cx_Maps, .slice Ax_Away nx_Away cx_Away, .int .i64 x.Bought, .int .i64 x.Dropped, .int .i64 x.Mended]), .int .i64 id] w fun e w' => e = .returned (.tuple (List.toArray [.int .i64 (bsP cmpM id x.Maps : Int), .bool (decide (bsF cmpM id x.Maps))])) ∧ Lo w w' := by
  refine calls_W 12 Tryd.func27 rfl rfl rfl ?_
  have hbdx_Maps := hx_Maps.bound
  have hlex_Maps := hx_Maps.len
  have hBbx_Maps := hx_Maps.bd
  have hbdx_Away := hx_Away.bound
  have hlex_Away := hx_Away.len
  have hBbx_Away := hx_Away.bd
  refine W.seq ?_
  refine W.regS (SR.box (v := .agg (List.toArray _)) (l := [.slice Ax_Maps nx_Maps cx_Maps, .slice Ax_Away nx_Away cx_Away, .int .i64 x.Bought, .int .i64 x.Dropped, .int .i64 x.Mended]) rfl rfl ?_)
  intro g1 w2 hg3 hk4 hs5 hb6
  have hz7 := hk4.size
  have hB8 := (Lo.refl w).lo hk4
  refine SR.q' (r_as (v := .int .i64 0) rfl) <| SR.q' (r_as (v := .bool false) rfl) <| SR.nil ?_
  refine W.seq ?_
  refine W.regS (SR.q' (r_fa fa27_0 rfl) <| SR.q' (r_ld (v := .slice Ax_Maps nx_Maps cx_Maps) sca24 rfl ((hb6).cell rfl)) <| SR.q' (r_mv (v := .int .i64 _) rfl) <| SR.call ent43 (c_slices_BinarySearchFunc___impl_Map_impl_Map_int_ w2 x.Maps (((hx_Maps).lo hk4)) id (fun (u_ : LMap) (v_ : Int) => cmpM u_ v_) ⟨ent44, fun w'' hw'' x y => (c__impl_Library__mapAt_1 w'' x y).mono fun _ _ h => ⟨h.1, h.2⟩⟩ (by omega)) rfl ?_)
  rintro e w9 ⟨rfl, hk10⟩
  refine ⟨_, rfl, ?_⟩
  have hz11 := hk10.size
  have hB12 := hB8.lo hk10
  have hq13 : bsP (fun (u_ : LMap) (v_ : Int) => cmpM u_ v_) id x.Maps ≤ x.Maps.length := bsP_le
  refine SR.q' (r_ext (v := .int .i64 _) rfl rfl) <| SR.q' (r_ext (v := .bool _) rfl rfl) <| SR.q' (r_as (v := .int .i64 _) rfl) <| SR.q' (r_as (v := .bool _) rfl) <| SR.nil ?_
  refine W.ret ?_
  refine ret2 rfl (v := .int .i64 _) (v' := .bool _) rfl rfl ?_
  exact ⟨eR (eT2 (eI (by rfl)) (eDD (by exact Iff.rfl))), hB12⟩

theorem c__impl_Library__copies (w : World) (x : Library) {Ax_Maps : Option Addr} {nx_Maps cx_Maps Bx_Maps : Nat} (hx_Maps : SlR w Bx_Maps encLMap 3 Ax_Maps nx_Maps cx_Maps x.Maps) {Ax_Away : Option Addr} {nx_Away cx_Away Bx_Away : Nat} (hx_Away : SlR w Bx_Away encAway 2 Ax_Away nx_Away cx_Away x.Away) (hp0 : MapsOK x.Maps) (hp1 : nx_Maps ≤ 8) : Calls Tryd.prog 36 #[.agg (List.toArray [.slice Ax_Maps nx_Maps cx_Maps, .slice Ax_Away nx_Away cx_Away, .int .i64 x.Bought, .int .i64 x.Dropped, .int .i64 x.Mended])] w fun e w' => e = .returned (.int .i64 (sumC x.Maps)) ∧ Lo w w' := by
  refine calls_W 19 Tryd.func36 rfl rfl rfl ?_
  have hbdx_Maps := hx_Maps.bound
  have hlex_Maps := hx_Maps.len
  have hBbx_Maps := hx_Maps.bd
  have hbdx_Away := hx_Away.bound
  have hlex_Away := hx_Away.len
  have hBbx_Away := hx_Away.bd
  refine W.seq ?_
  refine W.regS (SR.box (v := .agg (List.toArray _)) (l := [.slice Ax_Maps nx_Maps cx_Maps, .slice Ax_Away nx_Away cx_Away, .int .i64 x.Bought, .int .i64 x.Dropped, .int .i64 x.Mended]) rfl rfl ?_)
  intro g1 w2 hg3 hk4 hs5 hb6
  have hz7 := hk4.size
  have hB8 := (Lo.refl w).lo hk4
  refine SR.q' (r_as (v := .int .i64 0) rfl) <| SR.nil ?_
  refine W.seq ?_
  refine W.regS (SR.q' (r_as (v := .int .i64 0) rfl) <| SR.nil ?_)
  refine W.seq ?_
  refine W.seq ?_
  refine W.regS (SR.q' (r_fa fa27_0 rfl) <| SR.q' (r_ld (v := .slice Ax_Maps nx_Maps cx_Maps) sca24 rfl ((hb6).cell rfl)) <| SR.q' (r_len und24 rfl) <| SR.q' (r_mv (v := .int .i64 0) rfl) <| SR.nil ?_)
  refine W.block ?_
  refine W.loop (σ := Nat × Int) (fun g => [(2, .int .i64 0), (3, .int .i64 g.2), (7, .slice Ax_Maps nx_Maps cx_Maps), (8, .int .i64 (nx_Maps : Int)), (9, .int .i64 (g.1 : Int))]) (fun g w' => (Lo w w') ∧ (SlR w' Bx_Maps encLMap 3 Ax_Maps nx_Maps cx_Maps x.Maps) ∧ (g.1 ≤ nx_Maps ∧ sumC (x.Maps.take g.1) = g.2 ∧ 0 ≤ g.2 ∧ g.2 ≤ 99 * (g.1 : Int))) (fun g => nx_Maps - g.1) (0, (0 : Int)) ?_ ?_ ?_
  · exact ⟨rfl, rfl, rfl, rfl, rfl, trivial⟩
  · exact ⟨hB8, (hx_Maps).lo hk4, (by simp [sumC])⟩
  · rintro ⟨k, t⟩ f9 w10 hP12
    obtain ⟨hB11, hm13, hi14⟩ : (Lo w w10) ∧ (SlR w10 Bx_Maps encLMap 3 Ax_Maps nx_Maps cx_Maps x.Maps) ∧ (k ≤ nx_Maps ∧ sumC (x.Maps.take k) = t ∧ 0 ≤ t ∧ t ≤ 99 * (k : Int)) := hP12
    refine (?_ : W _ _ _ _ _ (act _ (sets f9 [(2, .int .i64 0), (3, .int .i64 t), (7, .slice Ax_Maps nx_Maps cx_Maps), (8, .int .i64 (nx_Maps : Int)), (9, .int .i64 (k : Int))])) _)
    have hzw10 := hB11.size
    refine W.seq ?_
    refine W.regS (SR.q' (r_lt rfl rfl) <| SR.nil ?_)
    refine W.seq ?_
    refine W.cond_d rfl (fun h15 => ?_) (fun h15 => ?_)
    · refine W.skip ?_
      refine W.seq ?_
      refine W.block ?_
      refine W.seq ?_
      have hx17 := (hm13).elem (i := k) (by omega)
      have hq18 := maps_rng ‹MapsOK x.Maps› hx17
      refine W.regS (SR.q' (r_ixR tsl24 (hm13) rfl rfl (by omega)) <| SR.q' (r_lda (l := encLMap (gt x.Maps k)) agg48 rfl (fun _ _ hu => (hm13).cell hx17 hu) ((hm13).esz _)) <| SR.alloc (l := [.int .i64 0, .int .i64 0, .int .i64 0]) tz48 rfl ?_)
      intro g19 w20 hg21 hk22 hs23 hb24
      have hz25 := hk22.size
      have hB26 := hB11.lo hk22
      refine SR.store (o := 0) (vs := [.int .i64 ((gt x.Maps k).Id), .int .i64 ((gt x.Maps k).Copies), .int .i64 ((gt x.Maps k).Torn)]) agg48.2 rfl rfl rfl rfl (hb24) (Nat.le_of_ble_eq_true rfl) rfl ?_
      intro w27 hk28 hs29 hb30
      have hz31 := hk28.size
      have hB32 := hB26.new hk28 (by omega)
      refine SR.nil ?_
      have hm33 := ((hm13).lo hk22).kn hk28 (by omega)
      refine W.regS (SR.q' (r_mv (v := .int .i64 _) rfl) <| SR.q' (r_fa fa48_1 rfl) <| SR.q' (r_ld (v := .int .i64 ((gt x.Maps k).Copies)) sca3 rfl ((hb30).cell rfl)) <| SR.q' (r_add rfl rfl (by omega)) <| SR.q' (r_as (v := .int .i64 _) rfl) <| SR.nil ?_)
      refine W.regS (SR.q' (r_add rfl rfl (by omega)) <| SR.q' (r_mv (v := .int .i64 _) rfl) <| SR.nil ?_)
      refine ⟨(k + 1, t + ((gt x.Maps k).Copies)), _, rfl, ⟨rfl, rfl, rfl, rfl, rfl, trivial⟩, ⟨hB32, hm33, ?_⟩, ?_⟩
      · exact (by have hh := ‹_ ∧ sumC _ = _ ∧ _›; have hq := maps_rng hp0 ‹x.Maps[k]? = some _›; exact ⟨by omega, by rw [sumC_snoc (by omega), hh.2.1], by omega, by omega⟩)
      · exact (by omega)
    · refine W.exit (xin_here ?_)
      refine W.seq ?_
      refine W.regS (SR.q' (r_mv (v := .int .i64 _) rfl) <| SR.q' (r_as (v := .int .i64 _) rfl) <| SR.nil ?_)
      refine W.ret ?_
      refine ret1 rfl (v := .int .i64 _) rfl ?_
      exact ⟨eR (eI (by have hh := ‹_ ∧ sumC _ = _ ∧ _›; rw [← hh.2.1, List.take_of_length_le (by omega)])), hB11⟩

theorem z_c_spec_l32There_9 (x : Library) (nx_Maps : Nat) (hbdx_Maps : (nx_Maps : Int) ≤ 9223372036854775807) (hlex_Maps : nx_Maps = x.Maps.length) (nx_Away : Nat) (hbdx_Away : (nx_Away : Int) ≤ 9223372036854775807) (hlex_Away : nx_Away = x.Away.length) (b : Bool) (hp0 : MapsOK x.Maps) (hp1 : nx_Maps ≤ 8) : 0 ≤ nx_Maps ∧ thereS b (x.Maps.take 0) = (0 : Int) ∧ 0 ≤ (0 : Int) ∧ (0 : Int) ≤ 99 * (0 : Int) := by
  cases b <;> simp [thereS, sumC, sumT]
theorem c_spec_l32There (w : World) (x : Library) {Ax_Maps : Option Addr} {nx_Maps cx_Maps Bx_Maps : Nat} (hx_Maps : SlR w Bx_Maps encLMap 3 Ax_Maps nx_Maps cx_Maps x.Maps) {Ax_Away : Option Addr} {nx_Away cx_Away Bx_Away : Nat} (hx_Away : SlR w Bx_Away encAway 2 Ax_Away nx_Away cx_Away x.Away) (b : Bool) (hp0 : MapsOK x.Maps) (hp1 : nx_Maps ≤ 8) : Calls Tryd.prog 35 #[.agg (List.toArray [.slice Ax_Maps nx_Maps cx_Maps, .slice Ax_Away nx_Away cx_Away, .int .i64 x.Bought, .int .i64 x.Dropped, .int .i64 x.Mended]), .bool b] w fun e w' => e = .returned (.int .i64 (if b = true then sumT x.Maps else sumC x.Maps)) ∧ Lo w w' := by
  refine calls_W 32 Tryd.func35 rfl rfl rfl ?_
  have hbdx_Maps := hx_Maps.bound
  have hlex_Maps := hx_Maps.len
  have hBbx_Maps := hx_Maps.bd
  have hbdx_Away := hx_Away.bound
  have hlex_Away := hx_Away.len
  have hBbx_Away := hx_Away.bd
  refine W.seq ?_
  refine W.regS (SR.box (v := .agg (List.toArray _)) (l := [.slice Ax_Maps nx_Maps cx_Maps, .slice Ax_Away nx_Away cx_Away, .int .i64 x.Bought, .int .i64 x.Dropped, .int .i64 x.Mended]) rfl rfl ?_)
  intro g1 w2 hg3 hk4 hs5 hb6
  have hz7 := hk4.size
  have hB8 := (Lo.refl w).lo hk4
  refine SR.q' (r_as (v := .int .i64 0) rfl) <| SR.nil ?_
  refine W.seq ?_
  refine W.regS (SR.q' (r_as (v := .int .i64 0) rfl) <| SR.nil ?_)
  refine W.seq ?_
  refine W.seq ?_
  refine W.regS (SR.q' (r_as (v := .int .i64 0) rfl) <| SR.nil ?_)
  refine W.block ?_
  refine W.loop (σ := Nat × Int) (fun g => [(1, .bool b), (2, .pointer (pA g1)), (4, .int .i64 0), (5, .int .i64 g.2), (6, .int .i64 (g.1 : Int))]) (fun g w' => (Lo w w') ∧ (Blk w' g1 27 [.slice Ax_Maps nx_Maps cx_Maps, .slice Ax_Away nx_Away cx_Away, .int .i64 x.Bought, .int .i64 x.Dropped, .int .i64 x.Mended]) ∧ (SlR w' Bx_Maps encLMap 3 Ax_Maps nx_Maps cx_Maps x.Maps) ∧ (SlR w' Bx_Away encAway 2 Ax_Away nx_Away cx_Away x.Away) ∧ (g.1 ≤ nx_Maps ∧ thereS b (x.Maps.take g.1) = g.2 ∧ 0 ≤ g.2 ∧ g.2 ≤ 99 * (g.1 : Int))) (fun g => nx_Maps - g.1) (0, (0 : Int)) ?_ ?_ ?_
  · exact ⟨rfl, rfl, rfl, rfl, rfl, trivial⟩
  · exact ⟨hB8, hb6, (hx_Maps).lo hk4, (hx_Away).lo hk4, (z_c_spec_l32There_9 x nx_Maps hbdx_Maps hlex_Maps nx_Away hbdx_Away hlex_Away b hp0 hp1)⟩
  · rintro ⟨k, t⟩ f10 w11 hP13
    obtain ⟨hB12, hm14, hm15, hm16, hi17⟩ : (Lo w w11) ∧ (Blk w11 g1 27 [.slice Ax_Maps nx_Maps cx_Maps, .slice Ax_Away nx_Away cx_Away, .int .i64 x.Bought, .int .i64 x.Dropped, .int .i64 x.Mended]) ∧ (SlR w11 Bx_Maps encLMap 3 Ax_Maps nx_Maps cx_Maps x.Maps) ∧ (SlR w11 Bx_Away encAway 2 Ax_Away nx_Away cx_Away x.Away) ∧ (k ≤ nx_Maps ∧ thereS b (x.Maps.take k) = t ∧ 0 ≤ t ∧ t ≤ 99 * (k : Int)) := hP13
    refine (?_ : W _ _ _ _ _ (act _ (sets f10 [(1, .bool b), (2, .pointer (pA g1)), (4, .int .i64 0), (5, .int .i64 t), (6, .int .i64 (k : Int))])) _)
    have hzw11 := hB12.size
    have hl18 := hm14.lt
    refine W.seq ?_
    refine W.seq ?_
    refine W.regS (SR.q' (r_mv (v := .int .i64 _) rfl) <| SR.q' (r_fa fa27_0 rfl) <| SR.q' (r_ld (v := .slice Ax_Maps nx_Maps cx_Maps) sca24 rfl ((hm14).cell rfl)) <| SR.q' (r_len und24 rfl) <| SR.q' (r_lt rfl rfl) <| SR.nil ?_)
    refine W.cond_d rfl (fun h19 => ?_) (fun h19 => ?_)
    · refine W.skip ?_
      refine W.seq ?_
      refine W.block ?_
      refine W.seq ?_
      refine W.regS (SR.q' (r_mv (v := .bool _) rfl) <| SR.nil ?_)
      refine W.cond_b rfl (fun h20 => ?_) (fun h20 => ?_)
      · refine W.regS (SR.q' (r_mv (v := .int .i64 _) rfl) <| SR.q' (r_fa fa27_0 rfl) <| SR.q' (r_ld (v := .slice Ax_Maps nx_Maps cx_Maps) sca24 rfl ((hm14).cell rfl)) <| SR.q' (r_mv (v := .int .i64 _) rfl) <| ?_)
        have hx22 := (hm15).elem (i := k) (by omega)
        have hq23 := maps_rng ‹MapsOK x.Maps› hx22
        refine SR.q' (r_ixR tsl24 (hm15) rfl rfl (by omega)) <| SR.q' (r_fa fa48_2 rfl) <| SR.q' (r_ld (v := .int .i64 ((gt x.Maps k).Torn)) sca3 rfl ((hm15).cell hx22 rfl)) <| SR.q' (r_add rfl rfl (by omega)) <| SR.q' (r_as (v := .int .i64 _) rfl) <| SR.nil ?_
        refine W.regS (SR.q' (r_mv (v := .int .i64 _) rfl) <| SR.q' (r_add rfl rfl (by omega)) <| SR.q' (r_as (v := .int .i64 _) rfl) <| SR.nil ?_)
        refine ⟨(k + 1, t + ((gt x.Maps k).Torn)), _, rfl, ⟨rfl, rfl, rfl, rfl, rfl, trivial⟩, ⟨hB12, hm14, hm15, hm16, ?_⟩, ?_⟩
        · exact (by have hh := ‹_ ∧ thereS b _ = _ ∧ _›; have hq := maps_rng hp0 ‹x.Maps[k]? = some _›; first | exact ⟨by omega, thereS_t ‹_› (by omega) hh.2.1, by omega, by omega⟩ | exact ⟨by omega, thereS_f ‹_› (by omega) hh.2.1, by omega, by omega⟩)
        · exact (by omega)
      · refine W.regS (SR.q' (r_mv (v := .int .i64 _) rfl) <| SR.q' (r_fa fa27_0 rfl) <| SR.q' (r_ld (v := .slice Ax_Maps nx_Maps cx_Maps) sca24 rfl ((hm14).cell rfl)) <| SR.q' (r_mv (v := .int .i64 _) rfl) <| ?_)
        have hx25 := (hm15).elem (i := k) (by omega)
        have hq26 := maps_rng ‹MapsOK x.Maps› hx25
        refine SR.q' (r_ixR tsl24 (hm15) rfl rfl (by omega)) <| SR.q' (r_fa fa48_1 rfl) <| SR.q' (r_ld (v := .int .i64 ((gt x.Maps k).Copies)) sca3 rfl ((hm15).cell hx25 rfl)) <| SR.q' (r_add rfl rfl (by omega)) <| SR.q' (r_as (v := .int .i64 _) rfl) <| SR.nil ?_
        refine W.regS (SR.q' (r_mv (v := .int .i64 _) rfl) <| SR.q' (r_add rfl rfl (by omega)) <| SR.q' (r_as (v := .int .i64 _) rfl) <| SR.nil ?_)
        refine ⟨(k + 1, t + ((gt x.Maps k).Copies)), _, rfl, ⟨rfl, rfl, rfl, rfl, rfl, trivial⟩, ⟨hB12, hm14, hm15, hm16, ?_⟩, ?_⟩
        · exact (by have hh := ‹_ ∧ thereS b _ = _ ∧ _›; have hq := maps_rng hp0 ‹x.Maps[k]? = some _›; first | exact ⟨by omega, thereS_t ‹_› (by omega) hh.2.1, by omega, by omega⟩ | exact ⟨by omega, thereS_f ‹_› (by omega) hh.2.1, by omega, by omega⟩)
        · exact (by omega)
    · refine W.exit (xin_here ?_)
      refine W.seq ?_
      refine W.regS (SR.q' (r_mv (v := .int .i64 _) rfl) <| SR.q' (r_as (v := .int .i64 _) rfl) <| SR.nil ?_)
      refine W.ret ?_
      refine ret1 rfl (v := .int .i64 _) rfl ?_
      exact ⟨eR (eI (by have hh := ‹_ ∧ thereS b _ = _ ∧ _›; rw [← hh.2.1, List.take_of_length_le (by omega)]; rfl)), hB12⟩
end Go.Proofs.YtgobbcilgcbkaaaDoor
