/- Walks, printed by a program of this claim's author. -/
import Derived.Test.YtlpapeeaghmjpaaChecked
import Derived.Test.YtlpapeeaghmjpaaSd
namespace Go.Proofs.Ytlpapeeaghmjpaa
open Go Go.RowKit Fw
set_option maxRecDepth 10000
set_option linter.unusedVariables false
theorem mo : Try.prog.follows .mixedOrders = true := by kernel_rfl
theorem agg39 : TAgg Try.prog 39 2 := ⟨fun _ => by kernel_rfl, fun _ => by kernel_rfl⟩
theorem agg41 : TAgg Try.prog 41 5 := ⟨fun _ => by kernel_rfl, fun _ => by kernel_rfl⟩
theorem agg45 : TAgg Try.prog 45 2 := ⟨fun _ => by kernel_rfl, fun _ => by kernel_rfl⟩
theorem ent108 : Ent Try.prog 108 := ent_of Try.func108 (by decide +kernel) rfl
theorem ent109 : Ent Try.prog 109 := ent_of Try.func109 (by decide +kernel) rfl
theorem ent20 : Ent Try.prog 20 := ent_of Try.func20 (by decide +kernel) rfl
theorem ent57 : Ent Try.prog 57 := ent_of Try.func57 (by decide +kernel) rfl
theorem ent61 : Ent Try.prog 61 := ent_of Try.func61 (by decide +kernel) rfl
theorem ent63 : Ent Try.prog 63 := ent_of Try.func63 (by decide +kernel) rfl
theorem ent64 : Ent Try.prog 64 := ent_of Try.func64 (by decide +kernel) rfl
theorem ent65 : Ent Try.prog 65 := ent_of Try.func65 (by decide +kernel) rfl
theorem ent75 : Ent Try.prog 75 := ent_of Try.func75 (by decide +kernel) rfl
theorem ent80 : Ent Try.prog 80 := ent_of Try.func80 (by decide +kernel) rfl
theorem ent82 : Ent Try.prog 82 := ent_of Try.func82 (by decide +kernel) rfl
theorem ent94 : Ent Try.prog 94 := ent_of Try.func94 (by decide +kernel) rfl
theorem fa38_0 : FA Try.prog 38 0 0 := fun _ _ => by kernel_rfl
theorem fa38_1 : FA Try.prog 38 1 1 := fun _ _ => by kernel_rfl
theorem fa38_2 : FA Try.prog 38 2 2 := fun _ _ => by kernel_rfl
theorem fa38_3 : FA Try.prog 38 3 3 := fun _ _ => by kernel_rfl
theorem fa38_4 : FA Try.prog 38 4 4 := fun _ _ => by kernel_rfl
theorem fa39_0 : FA Try.prog 39 0 0 := fun _ _ => by kernel_rfl
theorem fa39_1 : FA Try.prog 39 1 1 := fun _ _ => by kernel_rfl
theorem fa41_0 : FA Try.prog 41 0 0 := fun _ _ => by kernel_rfl
theorem fa41_1 : FA Try.prog 41 1 1 := fun _ _ => by kernel_rfl
theorem fa41_2 : FA Try.prog 41 2 2 := fun _ _ => by kernel_rfl
theorem fa41_3 : FA Try.prog 41 3 3 := fun _ _ => by kernel_rfl
theorem fa41_4 : FA Try.prog 41 4 4 := fun _ _ => by kernel_rfl
theorem fa45_0 : FA Try.prog 45 0 0 := fun _ _ => by kernel_rfl
theorem fa45_1 : FA Try.prog 45 1 1 := fun _ _ => by kernel_rfl
theorem sca22 : TSca Try.prog 22 := ⟨fun _ => by kernel_rfl, fun _ => by kernel_rfl⟩
theorem sca3 : TSca Try.prog 3 := ⟨fun _ => by kernel_rfl, fun _ => by kernel_rfl⟩
theorem tel22 : TEl Try.prog 22 3 (.int .i64 0) 1 8 := ⟨by kernel_rfl, by kernel_rfl, rfl, by decide⟩
theorem tel63 : TEl Try.prog 63 45 (.agg (List.toArray [.int .i64 0, .int .i64 0])) 2 16 := ⟨by kernel_rfl, by kernel_rfl, rfl, by decide⟩
theorem tsl22 : TSl Try.prog 22 3 1 := ⟨by kernel_rfl, fun _ => by kernel_rfl⟩
theorem tsl59 : TSl Try.prog 59 39 2 := ⟨by kernel_rfl, fun _ => by kernel_rfl⟩
theorem tsl63 : TSl Try.prog 63 45 2 := ⟨by kernel_rfl, fun _ => by kernel_rfl⟩
theorem tz41 : TZ Try.prog 41 (.agg (List.toArray [.int .i64 0, .slice none 0 0, .int .i64 0, .int .i64 0, .int .i64 0])) := fun _ => by kernel_rfl
theorem tz45 : TZ Try.prog 45 (.agg (List.toArray [.int .i64 0, .int .i64 0])) := fun _ => by kernel_rfl
theorem und22 : Try.prog.underlying 22 = some (.slice 3) := by kernel_rfl
theorem und59 : Try.prog.underlying 59 = some (.slice 39) := by kernel_rfl
theorem und63 : Try.prog.underlying 63 = some (.slice 45) := by kernel_rfl

theorem z_c_spec_l1In_8 (n : Int) (a : Int) (b : Int) : ((a ≤ n) ∧ (n ≤ b)) ↔ (a ≤ n ∧ n ≤ b) := by
  omega
theorem c_spec_l1In (w : World) (n : Int) (a : Int) (b : Int) : Calls Try.prog 87 #[.int .i64 n, .int .i64 a, .int .i64 b] w fun e w' => e = .returned (.bool (decide (a ≤ n ∧ n ≤ b))) ∧ Lo w w' := by
  refine calls_W 15 Try.func87 rfl rfl rfl ?_
  refine W.seq ?_
  refine W.regS (SR.q' (r_as (v := .bool false) rfl) <| SR.nil ?_)
  refine W.seq ?_
  refine W.regJS (fun f' w' => At f' [(6, .bool (decide ((a ≤ n) ∧ (n ≤ b))))] ∧ Lo w w') ?_ ?_
  · refine SR.q' (r_mv (v := .int .i64 _) rfl) <| SR.q' (r_mv (v := .int .i64 _) rfl) <| SR.q' (r_ge rfl rfl) <| SR.q' (r_mv (v := .bool _) rfl) <| SR.splitD (fun h1 => ?_) (fun h1 => ?_)
    · refine SR.g' rfl (r_mv (v := .int .i64 _) rfl) <| SR.g' rfl (r_mv (v := .int .i64 _) rfl) <| SR.g' rfl (r_le rfl rfl) <| SR.q' (r_pick true rfl (v := .bool _) rfl) <| SR.q' (r_as (v := .bool _) rfl) <| SR.nil ?_
      exact ⟨_, rfl, ⟨⟨(eDD (jat h1)), trivial⟩, (Lo.refl _)⟩⟩
    · refine SR.s' rfl <| SR.s' rfl <| SR.s' rfl <| SR.q' (r_pick false rfl (v := .bool false) rfl) <| SR.q' (r_as (v := .bool _) rfl) <| SR.nil ?_
      exact ⟨_, rfl, ⟨⟨(eDF (jaf h1).2), trivial⟩, (Lo.refl _)⟩⟩
  rintro f2 w3 ⟨hat4, hk5⟩
  rw [← sets_of_at hat4]
  have hz6 := hk5.size
  have hB7 := (Lo.refl w).lo hk5
  refine W.ret ?_
  refine ret1 rfl (v := .bool _) rfl ?_
  exact ⟨eR (eDD (z_c_spec_l1In_8 n a b)), hB7⟩

theorem z_c_impl_within_8 (n : Int) (a : Int) (b : Int) : ((a ≤ n) ∧ (n ≤ b)) ↔ (a ≤ n ∧ n ≤ b) := by
  omega
theorem c_impl_within (w : World) (n : Int) (a : Int) (b : Int) : Calls Try.prog 80 #[.int .i64 n, .int .i64 a, .int .i64 b] w fun e w' => e = .returned (.bool (decide (a ≤ n ∧ n ≤ b))) ∧ Lo w w' := by
  refine calls_W 15 Try.func80 rfl rfl rfl ?_
  refine W.seq ?_
  refine W.regS (SR.q' (r_as (v := .bool false) rfl) <| SR.nil ?_)
  refine W.seq ?_
  refine W.regJS (fun f' w' => At f' [(6, .bool (decide ((a ≤ n) ∧ (n ≤ b))))] ∧ Lo w w') ?_ ?_
  · refine SR.q' (r_mv (v := .int .i64 _) rfl) <| SR.q' (r_mv (v := .int .i64 _) rfl) <| SR.q' (r_ge rfl rfl) <| SR.q' (r_mv (v := .bool _) rfl) <| SR.splitD (fun h1 => ?_) (fun h1 => ?_)
    · refine SR.g' rfl (r_mv (v := .int .i64 _) rfl) <| SR.g' rfl (r_mv (v := .int .i64 _) rfl) <| SR.g' rfl (r_le rfl rfl) <| SR.q' (r_pick true rfl (v := .bool _) rfl) <| SR.q' (r_as (v := .bool _) rfl) <| SR.nil ?_
      exact ⟨_, rfl, ⟨⟨(eDD (jat h1)), trivial⟩, (Lo.refl _)⟩⟩
    · refine SR.s' rfl <| SR.s' rfl <| SR.s' rfl <| SR.q' (r_pick false rfl (v := .bool false) rfl) <| SR.q' (r_as (v := .bool _) rfl) <| SR.nil ?_
      exact ⟨_, rfl, ⟨⟨(eDF (jaf h1).2), trivial⟩, (Lo.refl _)⟩⟩
  rintro f2 w3 ⟨hat4, hk5⟩
  rw [← sets_of_at hat4]
  have hz6 := hk5.size
  have hB7 := (Lo.refl w).lo hk5
  refine W.ret ?_
  refine ret1 rfl (v := .bool _) rfl ?_
  exact ⟨eR (eDD (z_c_impl_within_8 n a b)), hB7⟩

theorem z_c_spec_l1Most_2 (a : Int) (b : Int) (h1 : b < a) : a = max a b := by
  omega
theorem z_c_spec_l1Most_3 (a : Int) (b : Int) (h1 : ¬ (b < a)) : b = max a b := by
  omega
theorem c_spec_l1Most (w : World) (a : Int) (b : Int) : Calls Try.prog 115 #[.int .i64 a, .int .i64 b] w fun e w' => e = .returned (.int .i64 (max a b)) ∧ Lo w w' := by
  refine calls_W 10 Try.func115 rfl rfl rfl ?_
  refine W.seq ?_
  refine W.regS (SR.q' (r_as (v := .int .i64 0) rfl) <| SR.nil ?_)
  refine W.seq ?_
  refine W.seq ?_
  refine W.regS (SR.q' (r_mv (v := .int .i64 _) rfl) <| SR.q' (r_mv (v := .int .i64 _) rfl) <| SR.q' (r_gt rfl rfl) <| SR.nil ?_)
  refine W.cond_d rfl (fun h1 => ?_) (fun h1 => ?_)
  · refine W.seq ?_
    refine W.regS (SR.q' (r_mv (v := .int .i64 _) rfl) <| SR.q' (r_as (v := .int .i64 _) rfl) <| SR.nil ?_)
    refine W.ret ?_
    refine ret1 rfl (v := .int .i64 _) rfl ?_
    exact ⟨eR (eI (z_c_spec_l1Most_2 a b h1)), (Lo.refl w)⟩
  · refine W.skip ?_
    refine W.seq ?_
    refine W.regS (SR.q' (r_mv (v := .int .i64 _) rfl) <| SR.q' (r_as (v := .int .i64 _) rfl) <| SR.nil ?_)
    refine W.ret ?_
    refine ret1 rfl (v := .int .i64 _) rfl ?_
    exact ⟨eR (eI (z_c_spec_l1Most_3 a b h1)), (Lo.refl w)⟩

theorem z_c_laws_szIntS_2 (L : List Int) (nL : Nat) (hbdL : (nL : Int) ≤ 9223372036854775807) (hleL : nL = L.length) (left : Int) (hp0 : 0 ≤ left) (hp1 : left ≤ 1048576) (h1 : (left - (nL : Int)) < 0) : (-1) = szN L.length left := by
  unfold szN; split <;> omega
theorem z_c_laws_szIntS_3 (L : List Int) (nL : Nat) (hbdL : (nL : Int) ≤ 9223372036854775807) (hleL : nL = L.length) (left : Int) (hp0 : 0 ≤ left) (hp1 : left ≤ 1048576) (h1 : ¬ ((left - (nL : Int)) < 0)) : left - (nL : Int) = szN L.length left := by
  unfold szN; split <;> omega
theorem c_laws_szIntS (w : World) {AL : Option Addr} {nL cL BL : Nat}  (L : List Int) (hL : SlR w BL encI 1 AL nL cL L) (left : Int) (hp0 : 0 ≤ left) (hp1 : left ≤ 1048576) : Calls Try.prog 57 #[.slice AL nL cL, .int .i64 left] w fun e w' => e = .returned (.int .i64 (szN L.length left)) ∧ Lo w w' := by
  refine calls_W 12 Try.func57 rfl rfl rfl ?_
  have hbdL := hL.bound
  have hleL := hL.len
  have hBbL := hL.bd
  refine W.seq ?_
  refine W.regS (SR.q' (r_as (v := .int .i64 0) rfl) <| SR.nil ?_)
  refine W.seq ?_
  refine W.regS (SR.q' (r_mv (v := .int .i64 _) rfl) <| SR.q' (r_mv (v := .slice _ _ _) rfl) <| SR.q' (r_len und22 rfl) <| SR.q' (r_sub rfl rfl (by omega)) <| SR.q' (r_as (v := .int .i64 _) rfl) <| SR.nil ?_)
  refine W.seq ?_
  refine W.seq ?_
  refine W.regS (SR.q' (r_mv (v := .int .i64 _) rfl) <| SR.q' (r_lt rfl rfl) <| SR.nil ?_)
  refine W.cond_d rfl (fun h1 => ?_) (fun h1 => ?_)
  · refine W.seq ?_
    refine W.regS (SR.q' (r_as (v := .int .i64 (-1)) rfl) <| SR.nil ?_)
    refine W.ret ?_
    refine ret1 rfl (v := .int .i64 _) rfl ?_
    exact ⟨eR (eI (z_c_laws_szIntS_2 L nL hbdL hleL left hp0 hp1 h1)), (Lo.refl w)⟩
  · refine W.skip ?_
    refine W.seq ?_
    refine W.regS (SR.q' (r_mv (v := .int .i64 _) rfl) <| SR.q' (r_as (v := .int .i64 _) rfl) <| SR.nil ?_)
    refine W.ret ?_
    refine ret1 rfl (v := .int .i64 _) rfl ?_
    exact ⟨eR (eI (z_c_laws_szIntS_3 L nL hbdL hleL left hp0 hp1 h1)), (Lo.refl w)⟩

theorem z_c_laws_toIntS_8 (L : List Int) (nL : Nat) (hbdL : (nL : Int) ≤ 9223372036854775807) (hleL : nL = L.length) (hp0 : (nL : Int) ≤ 1048576) : 0 ≤ nL := by
  omega
theorem z_c_laws_toIntS_9 (L : List Int) (nL : Nat) (hbdL : (nL : Int) ≤ 9223372036854775807) (hleL : nL = L.length) (hp0 : (nL : Int) ≤ 1048576) : List.replicate nL (0 : Int) = L.take 0 ++ List.replicate (nL - 0) (0 : Int) := by
  exact tk_init
theorem z_c_laws_toIntS_29 (L : List Int) (nL : Nat) (hbdL : (nL : Int) ≤ 9223372036854775807) (hleL : nL = L.length) (hp0 : (nL : Int) ≤ 1048576) (k : Nat) (hi16 : k ≤ nL) (h17 : (k : Int) < (nL : Int)) (x18 : Int) (hx19 : L[k]? = some x18) (x20 : Int) (hx21 : (L.take k ++ List.replicate (nL - k) (0 : Int))[k]? = some x20) : (L.take k ++ List.replicate (nL - k) (0 : Int)).set ((k : Int).toNat) x18 = L.take (k + 1) ++ List.replicate (nL - (k + 1)) (0 : Int) := by
  exact tk_set (by assumption) hleL
theorem z_c_laws_toIntS_30 (L : List Int) (nL : Nat) (hbdL : (nL : Int) ≤ 9223372036854775807) (hleL : nL = L.length) (hp0 : (nL : Int) ≤ 1048576) (k : Nat) (hi16 : k ≤ nL) (h17 : (k : Int) < (nL : Int)) (x18 : Int) (hx19 : L[k]? = some x18) (x20 : Int) (hx21 : (L.take k ++ List.replicate (nL - k) (0 : Int))[k]? = some x20) : k + 1 ≤ nL := by
  omega
theorem z_c_laws_toIntS_31 (L : List Int) (nL : Nat) (hbdL : (nL : Int) ≤ 9223372036854775807) (hleL : nL = L.length) (hp0 : (nL : Int) ≤ 1048576) (k : Nat) (hi16 : k ≤ nL) (h17 : (k : Int) < (nL : Int)) (x18 : Int) (hx19 : L[k]? = some x18) (x20 : Int) (hx21 : (L.take k ++ List.replicate (nL - k) (0 : Int))[k]? = some x20) : nL - (k + 1) < nL - k := by
  omega
theorem z_c_laws_toIntS_32 (L : List Int) (nL : Nat) (hbdL : (nL : Int) ≤ 9223372036854775807) (hleL : nL = L.length) (hp0 : (nL : Int) ≤ 1048576) (k : Nat) (hi16 : k ≤ nL) (h17 : ¬ ((k : Int) < (nL : Int))) : L.take k ++ List.replicate (nL - k) (0 : Int) = L := by
  exact tk_end hleL (by assumption) (by omega)
theorem c_laws_toIntS (w : World) {AL : Option Addr} {nL cL BL : Nat}  (L : List Int) (hL : SlR w BL encI 1 AL nL cL L) (hp0 : (nL : Int) ≤ 1048576) : Calls Try.prog 61 #[.slice AL nL cL] w fun e w' => ∃ (A1' : Option Addr) (n1' c1' : Nat), e = .returned (.slice A1' n1' c1') ∧ SlO w' w.heap.size encI 1 3 A1' n1' c1' L ∧ Lo w w' := by
  refine calls_W 22 Try.func61 rfl rfl rfl ?_
  have hbdL := hL.bound
  have hleL := hL.len
  have hBbL := hL.bd
  refine W.seq ?_
  refine W.regS (SR.q' (r_as (v := .slice none 0 0) rfl) <| SR.nil ?_)
  refine W.seq ?_
  refine W.regS (SR.q' (r_mv (v := .slice _ _ _) rfl) <| SR.q' (r_len und22 rfl) <| SR.make (m := nL) (zx := (0 : Int)) (enc := encI) tel22 rfl (fun _ => rfl) rfl rfl (by omega) (by omega) ?_)
  intro g1 w2 hg3 hk4 hO5
  have hz6 := hk4.size
  have hB7 := (Lo.refl w).lo hk4
  refine SR.q' (r_as (v := .slice _ _ _) rfl) <| SR.nil ?_
  refine W.seq ?_
  refine W.seq ?_
  refine W.regS (SR.q' (r_as (v := .int .i64 0) rfl) <| SR.nil ?_)
  refine W.block ?_
  refine W.loop (σ := Nat) (fun g => [(0, .slice AL nL cL), (2, .slice none 0 0), (3, .slice (some (⟨g1, 0, none⟩ : Addr)) nL nL), (4, .int .i64 (g : Int))]) (fun g w' => (Lo w w') ∧ (SlR w' BL encI 1 AL nL cL L) ∧ (SlO w' w.heap.size encI 1 3 (some (⟨g1, 0, none⟩ : Addr)) nL nL (L.take g ++ List.replicate (nL - g) (0 : Int))) ∧ (g ≤ nL)) (fun g => nL - g) 0 ?_ ?_ ?_
  · exact ⟨rfl, rfl, rfl, rfl, trivial⟩
  · exact ⟨hB7, (hL).lo hk4, (SlO.eqv (hO5) (z_c_laws_toIntS_9 L nL hbdL hleL hp0)), (z_c_laws_toIntS_8 L nL hbdL hleL hp0)⟩
  · rintro k f10 w11 hP13
    obtain ⟨hB12, hm14, hm15, hi16⟩ : (Lo w w11) ∧ (SlR w11 BL encI 1 AL nL cL L) ∧ (SlO w11 w.heap.size encI 1 3 (some (⟨g1, 0, none⟩ : Addr)) nL nL (L.take k ++ List.replicate (nL - k) (0 : Int))) ∧ (k ≤ nL) := hP13
    refine (?_ : W _ _ _ _ _ (act _ (sets f10 [(0, .slice AL nL cL), (2, .slice none 0 0), (3, .slice (some (⟨g1, 0, none⟩ : Addr)) nL nL), (4, .int .i64 (k : Int))])) _)
    have hzw11 := hB12.size
    refine W.seq ?_
    refine W.seq ?_
    refine W.regS (SR.q' (r_mv (v := .int .i64 _) rfl) <| SR.q' (r_mv (v := .slice _ _ _) rfl) <| SR.q' (r_len und22 rfl) <| SR.q' (r_lt rfl rfl) <| SR.nil ?_)
    refine W.cond_d rfl (fun h17 => ?_) (fun h17 => ?_)
    · refine W.skip ?_
      refine W.seq ?_
      refine W.block ?_
      refine W.regS (SR.q' (r_mv (v := .slice _ _ _) rfl) <| SR.q' (r_mv (v := .int .i64 _) rfl) <| SR.q' (r_mv (v := .slice _ _ _) rfl) <| SR.q' (r_mv (v := .int .i64 _) rfl) <| ?_)
      obtain ⟨x18, hx19⟩ := (hm14).get (i := k) (by omega)
      refine SR.q' (r_ixR tsl22 (hm14) rfl rfl (by omega)) <| SR.q' (r_ld (v := .int .i64 x18) sca3 rfl ((hm14).cell0 hx19 rfl)) <| ?_
      obtain ⟨x20, hx21⟩ := ((hm15).rd).get (i := k) (by omega)
      refine SR.q' (r_ixR tsl22 ((hm15).rd) rfl rfl (by omega)) <| SR.storeO (o := 0) (vs := [.int .i64 x18]) (x1 := x18) sca3.2 rfl rfl rfl rfl (hm15) hx21 rfl (Nat.le_of_ble_eq_true rfl) rfl ?_
      intro w22 hk23 hs24 hO25
      have hz26 := hk23.size
      have hB27 := hB12.step hk23 (fun i_ hi_ e' => by have := ((hm15)).base_le e'; first | omega | (exfalso; omega) | exact e' | exact .inl e' | exact .inr e')
      have hx28 : ((L.take k ++ List.replicate (nL - k) (0 : Int)).set ((k : Int).toNat) x18)[(k : Int).toNat]? = some (x18) := List.getElem?_set_self (List.getElem?_eq_some_iff.1 hx21).1
      refine SR.nil ?_
      refine W.regS (SR.q' (r_mv (v := .int .i64 _) rfl) <| SR.q' (r_add rfl rfl (by omega)) <| SR.q' (r_as (v := .int .i64 _) rfl) <| SR.nil ?_)
      refine ⟨k + 1, _, rfl, ⟨rfl, rfl, rfl, rfl, trivial⟩, ⟨hB27, (hm14).kp hk23 (fun b_ hb e' => by have := ((hm15)).base_le e'; omega), (SlO.eqv (hO25) (z_c_laws_toIntS_29 L nL hbdL hleL hp0 k hi16 h17 x18 hx19 x20 hx21)), ?_⟩, ?_⟩
      · exact (z_c_laws_toIntS_30 L nL hbdL hleL hp0 k hi16 h17 x18 hx19 x20 hx21)
      · exact (z_c_laws_toIntS_31 L nL hbdL hleL hp0 k hi16 h17 x18 hx19 x20 hx21)
    · refine W.exit (xin_here ?_)
      refine W.seq ?_
      refine W.regS (SR.q' (r_mv (v := .slice _ _ _) rfl) <| SR.q' (r_as (v := .slice _ _ _) rfl) <| SR.nil ?_)
      refine W.ret ?_
      refine ret1 rfl (v := .slice _ _ _) rfl ?_
      exact ⟨(some (⟨g1, 0, none⟩ : Addr)), nL, nL, eR rfl, (SlO.eqv ((hm15).down (by omega)) (z_c_laws_toIntS_32 L nL hbdL hleL hp0 k hi16 h17)), hB12⟩

theorem z_c_laws_eqIntS_2 (L : List Int) (nL : Nat) (hbdL : (nL : Int) ≤ 9223372036854775807) (hleL : nL = L.length) (M : List Int) (nM : Nat) (hbdM : (nM : Int) ≤ 9223372036854775807) (hleM : nM = M.length) (h1 : ¬ ((nL : Int) = (nM : Int))) : ¬ (L = M) := by
  first | (intro e; subst e; omega) | exact ne_at ‹L[_]? = some _› ‹M[_]? = some _› ‹_› | exact take_end (And.right ‹_ ∧ L.take _ = M.take _›) hleL hleM (by omega) ‹_›
theorem z_c_laws_eqIntS_3 (L : List Int) (nL : Nat) (hbdL : (nL : Int) ≤ 9223372036854775807) (hleL : nL = L.length) (M : List Int) (nM : Nat) (hbdM : (nM : Int) ≤ 9223372036854775807) (hleM : nM = M.length) (h1 : (nL : Int) = (nM : Int)) : 0 ≤ nL ∧ L.take 0 = M.take 0 := by
  simp
theorem z_c_laws_eqIntS_21 (L : List Int) (nL : Nat) (hbdL : (nL : Int) ≤ 9223372036854775807) (hleL : nL = L.length) (M : List Int) (nM : Nat) (hbdM : (nM : Int) ≤ 9223372036854775807) (hleM : nM = M.length) (h1 : (nL : Int) = (nM : Int)) (k : Nat) (hi10 : k ≤ nL ∧ L.take k = M.take k) (h11 : (k : Int) < (nL : Int)) (x12 : Int) (hx13 : L[k]? = some x12) (x14 : Int) (hx15 : M[k]? = some x14) (h20 : ¬ (x12 = x14)) : ¬ (L = M) := by
  first | (intro e; subst e; omega) | exact ne_at ‹L[_]? = some _› ‹M[_]? = some _› ‹_› | exact take_end (And.right ‹_ ∧ L.take _ = M.take _›) hleL hleM (by omega) ‹_›
theorem z_c_laws_eqIntS_22 (L : List Int) (nL : Nat) (hbdL : (nL : Int) ≤ 9223372036854775807) (hleL : nL = L.length) (M : List Int) (nM : Nat) (hbdM : (nM : Int) ≤ 9223372036854775807) (hleM : nM = M.length) (h1 : (nL : Int) = (nM : Int)) (k : Nat) (hi10 : k ≤ nL ∧ L.take k = M.take k) (h11 : (k : Int) < (nL : Int)) (x12 : Int) (hx13 : L[k]? = some x12) (x14 : Int) (hx15 : M[k]? = some x14) (h20 : x12 = x14) : k + 1 ≤ nL ∧ L.take (k + 1) = M.take (k + 1) := by
  exact ⟨by omega, take_next (And.right ‹_ ∧ L.take _ = M.take _›) ‹L[_]? = some _› ‹M[_]? = some _› ‹_›⟩
theorem z_c_laws_eqIntS_23 (L : List Int) (nL : Nat) (hbdL : (nL : Int) ≤ 9223372036854775807) (hleL : nL = L.length) (M : List Int) (nM : Nat) (hbdM : (nM : Int) ≤ 9223372036854775807) (hleM : nM = M.length) (h1 : (nL : Int) = (nM : Int)) (k : Nat) (hi10 : k ≤ nL ∧ L.take k = M.take k) (h11 : (k : Int) < (nL : Int)) (x12 : Int) (hx13 : L[k]? = some x12) (x14 : Int) (hx15 : M[k]? = some x14) (h20 : x12 = x14) : nL - (k + 1) < nL - k := by
  omega
theorem z_c_laws_eqIntS_24 (L : List Int) (nL : Nat) (hbdL : (nL : Int) ≤ 9223372036854775807) (hleL : nL = L.length) (M : List Int) (nM : Nat) (hbdM : (nM : Int) ≤ 9223372036854775807) (hleM : nM = M.length) (h1 : (nL : Int) = (nM : Int)) (k : Nat) (hi10 : k ≤ nL ∧ L.take k = M.take k) (h11 : ¬ ((k : Int) < (nL : Int))) : L = M := by
  first | (intro e; subst e; omega) | exact ne_at ‹L[_]? = some _› ‹M[_]? = some _› ‹_› | exact take_end (And.right ‹_ ∧ L.take _ = M.take _›) hleL hleM (by omega) ‹_›
theorem c_laws_eqIntS (w : World) {AL : Option Addr} {nL cL BL : Nat}  (L : List Int) (hL : SlR w BL encI 1 AL nL cL L) {AM : Option Addr} {nM cM BM : Nat}  (M : List Int) (hM : SlR w BM encI 1 AM nM cM M) : Calls Try.prog 63 #[.slice AL nL cL, .slice AM nM cM] w fun e w' => e = .returned (.bool (decide (L = M))) ∧ Lo w w' := by
  refine calls_W 26 Try.func63 rfl rfl rfl ?_
  have hbdL := hL.bound
  have hleL := hL.len
  have hBbL := hL.bd
  have hbdM := hM.bound
  have hleM := hM.len
  have hBbM := hM.bd
  refine W.seq ?_
  refine W.regS (SR.q' (r_as (v := .bool false) rfl) <| SR.nil ?_)
  refine W.seq ?_
  refine W.seq ?_
  refine W.regS (SR.q' (r_mv (v := .slice _ _ _) rfl) <| SR.q' (r_len und22 rfl) <| SR.q' (r_mv (v := .slice _ _ _) rfl) <| SR.q' (r_len und22 rfl) <| SR.q' (r_ne rfl rfl) <| SR.nil ?_)
  refine W.cond_n rfl (fun h1 => ?_) (fun h1 => ?_)
  · refine W.seq ?_
    refine W.regS (SR.q' (r_as (v := .bool false) rfl) <| SR.nil ?_)
    refine W.ret ?_
    refine ret1 rfl (v := .bool _) rfl ?_
    exact ⟨eR (eDF (z_c_laws_eqIntS_2 L nL hbdL hleL M nM hbdM hleM h1)), (Lo.refl w)⟩
  · refine W.skip ?_
    refine W.seq ?_
    refine W.seq ?_
    refine W.regS (SR.q' (r_as (v := .int .i64 0) rfl) <| SR.nil ?_)
    refine W.block ?_
    refine W.loop (σ := Nat) (fun g => [(0, .slice AL nL cL), (1, .slice AM nM cM), (5, .int .i64 (g : Int))]) (fun g w' => (Lo w w') ∧ (SlR w' BL encI 1 AL nL cL L) ∧ (SlR w' BM encI 1 AM nM cM M) ∧ (g ≤ nL ∧ L.take g = M.take g)) (fun g => nL - g) 0 ?_ ?_ ?_
    · exact ⟨rfl, rfl, rfl, trivial⟩
    · exact ⟨(Lo.refl w), hL, hM, (z_c_laws_eqIntS_3 L nL hbdL hleL M nM hbdM hleM h1)⟩
    · rintro k f4 w5 hP7
      obtain ⟨hB6, hm8, hm9, hi10⟩ : (Lo w w5) ∧ (SlR w5 BL encI 1 AL nL cL L) ∧ (SlR w5 BM encI 1 AM nM cM M) ∧ (k ≤ nL ∧ L.take k = M.take k) := hP7
      refine (?_ : W _ _ _ _ _ (act _ (sets f4 [(0, .slice AL nL cL), (1, .slice AM nM cM), (5, .int .i64 (k : Int))])) _)
      have hzw5 := hB6.size
      refine W.seq ?_
      refine W.seq ?_
      refine W.regS (SR.q' (r_mv (v := .int .i64 _) rfl) <| SR.q' (r_mv (v := .slice _ _ _) rfl) <| SR.q' (r_len und22 rfl) <| SR.q' (r_lt rfl rfl) <| SR.nil ?_)
      refine W.cond_d rfl (fun h11 => ?_) (fun h11 => ?_)
      · refine W.skip ?_
        refine W.seq ?_
        refine W.block ?_
        refine W.seq ?_
        refine W.regD mo (by kernel_rfl) (QR.q' (fun w' hw' => r_mv (v := .slice _ _ _) rfl) <| QR.q' (fun w' hw' => r_mv (v := .int .i64 _) rfl) <| ?_)
        obtain ⟨x12, hx13⟩ := (hm8).get (i := k) (by omega)
        refine QR.q' (fun w' hw' => r_ixR tsl22 (((hm8).lo hw')) rfl rfl (by omega)) <| QR.q' (fun w' hw' => r_ld (v := .int .i64 x12) sca3 rfl ((((hm8).lo hw')).cell0 hx13 rfl)) <| QR.q' (fun w' hw' => r_mv (v := .slice _ _ _) rfl) <| QR.q' (fun w' hw' => r_mv (v := .int .i64 _) rfl) <| ?_
        obtain ⟨x14, hx15⟩ := (hm9).get (i := k) (by omega)
        refine QR.q' (fun w' hw' => r_ixR tsl22 (((hm9).lo hw')) rfl rfl (by omega)) <| QR.q' (fun w' hw' => r_ld (v := .int .i64 x14) sca3 rfl ((((hm9).lo hw')).cell0 hx15 rfl)) <| QR.q' (fun w' hw' => r_ne rfl rfl) <| QR.nil ?_
        intro w16 hk17
        have hz18 := hk17.size
        have hB19 := hB6.lo hk17
        refine W.cond_n rfl (fun h20 => ?_) (fun h20 => ?_)
        · refine W.seq ?_
          refine W.regS (SR.q' (r_as (v := .bool false) rfl) <| SR.nil ?_)
          refine W.ret ?_
          refine ret1 rfl (v := .bool _) rfl ?_
          exact ⟨eR (eDF (z_c_laws_eqIntS_21 L nL hbdL hleL M nM hbdM hleM h1 k hi10 h11 x12 hx13 x14 hx15 h20)), hB19⟩
        · refine W.skip ?_
          refine W.regS (SR.q' (r_mv (v := .int .i64 _) rfl) <| SR.q' (r_add rfl rfl (by omega)) <| SR.q' (r_as (v := .int .i64 _) rfl) <| SR.nil ?_)
          refine ⟨k + 1, _, rfl, ⟨rfl, rfl, rfl, trivial⟩, ⟨hB19, (hm8).lo hk17, (hm9).lo hk17, ?_⟩, ?_⟩
          · exact (z_c_laws_eqIntS_22 L nL hbdL hleL M nM hbdM hleM h1 k hi10 h11 x12 hx13 x14 hx15 h20)
          · exact (z_c_laws_eqIntS_23 L nL hbdL hleL M nM hbdM hleM h1 k hi10 h11 x12 hx13 x14 hx15 h20)
      · refine W.exit (xin_here ?_)
        refine W.seq ?_
        refine W.regS (SR.q' (r_as (v := .bool true) rfl) <| SR.nil ?_)
        refine W.ret ?_
        refine ret1 rfl (v := .bool _) rfl ?_
        exact ⟨eR (eDT (z_c_laws_eqIntS_24 L nL hbdL hleL M nM hbdM hleM h1 k hi10 h11)), hB6⟩

theorem z_c_laws_markIntS_1 (L : List Int) (nL : Nat) (hbdL : (nL : Int) ≤ 9223372036854775807) (hleL : nL = L.length) (k : Int) (hp0 : 0 ≤ k) (hp1 : k ≤ 1000000000) (hp2 : (nL : Int) ≤ 1048576) : 0 ≤ nL := by
  omega
theorem z_c_laws_markIntS_2 (L : List Int) (nL : Nat) (hbdL : (nL : Int) ≤ 9223372036854775807) (hleL : nL = L.length) (k : Int) (hp0 : 0 ≤ k) (hp1 : k ≤ 1000000000) (hp2 : (nL : Int) ≤ 1048576) : L = mkL mkInt 1 0 k ++ L.drop 0 := by
  exact mkL_init
theorem z_c_laws_markIntS_19 (L : List Int) (nL : Nat) (hbdL : (nL : Int) ≤ 9223372036854775807) (hleL : nL = L.length) (k : Int) (hp0 : 0 ≤ k) (hp1 : k ≤ 1000000000) (hp2 : (nL : Int) ≤ 1048576) (i : Nat) (hi8 : i ≤ nL) (h9 : (i : Int) < (nL : Int)) (x10 : Int) (hx11 : (mkL mkInt 1 i k ++ L.drop i)[i]? = some x10) : (mkL mkInt 1 i k ++ L.drop i).set ((i : Int).toNat) (k + 1 * (i : Int)) = mkL mkInt 1 (i + 1) k ++ L.drop (i + 1) := by
  exact mkL_set (by omega) (by first | (simp [mkInt]; done) | (simp [mkInt]; omega))
theorem z_c_laws_markIntS_20 (L : List Int) (nL : Nat) (hbdL : (nL : Int) ≤ 9223372036854775807) (hleL : nL = L.length) (k : Int) (hp0 : 0 ≤ k) (hp1 : k ≤ 1000000000) (hp2 : (nL : Int) ≤ 1048576) (i : Nat) (hi8 : i ≤ nL) (h9 : (i : Int) < (nL : Int)) (x10 : Int) (hx11 : (mkL mkInt 1 i k ++ L.drop i)[i]? = some x10) : i + 1 ≤ nL := by
  omega
theorem z_c_laws_markIntS_21 (L : List Int) (nL : Nat) (hbdL : (nL : Int) ≤ 9223372036854775807) (hleL : nL = L.length) (k : Int) (hp0 : 0 ≤ k) (hp1 : k ≤ 1000000000) (hp2 : (nL : Int) ≤ 1048576) (i : Nat) (hi8 : i ≤ nL) (h9 : (i : Int) < (nL : Int)) (x10 : Int) (hx11 : (mkL mkInt 1 i k ++ L.drop i)[i]? = some x10) : nL - (i + 1) < nL - i := by
  omega
theorem z_c_laws_markIntS_22 (L : List Int) (nL : Nat) (hbdL : (nL : Int) ≤ 9223372036854775807) (hleL : nL = L.length) (k : Int) (hp0 : 0 ≤ k) (hp1 : k ≤ 1000000000) (hp2 : (nL : Int) ≤ 1048576) (i : Nat) (hi8 : i ≤ nL) (h9 : ¬ ((i : Int) < (nL : Int))) : k + 1 * (i : Int) = k + 1 * (L.length : Int) := by
  first | omega | exact mkL_end hleL (by assumption) (by omega)
theorem z_c_laws_markIntS_23 (L : List Int) (nL : Nat) (hbdL : (nL : Int) ≤ 9223372036854775807) (hleL : nL = L.length) (k : Int) (hp0 : 0 ≤ k) (hp1 : k ≤ 1000000000) (hp2 : (nL : Int) ≤ 1048576) (i : Nat) (hi8 : i ≤ nL) (h9 : ¬ ((i : Int) < (nL : Int))) : mkL mkInt 1 i k ++ L.drop i = mkL mkInt 1 L.length k := by
  first | omega | exact mkL_end hleL (by assumption) (by omega)
theorem c_laws_markIntS (w : World) {AL : Option Addr} {nL cL BL : Nat}  (L : List Int) (hL : SlO w BL encI 1 3 AL nL cL L) (k : Int) (hp0 : 0 ≤ k) (hp1 : k ≤ 1000000000) (hp2 : (nL : Int) ≤ 1048576) : Calls Try.prog 64 #[.slice AL nL cL, .int .i64 k] w fun e w' => e = .returned (.int .i64 (k + 1 * (L.length : Int))) ∧ SlO w' BL encI 1 3 AL nL cL (mkL mkInt 1 L.length k) ∧ Kp (fun b_ => AL = some ⟨b_, 0, none⟩) w w' := by
  refine calls_W 19 Try.func64 rfl rfl rfl ?_
  have hbdL := hL.rd.bound
  have hleL := hL.len
  have hBbL := hL.bd
  refine W.seq ?_
  refine W.regS (SR.q' (r_as (v := .int .i64 0) rfl) <| SR.nil ?_)
  refine W.seq ?_
  refine W.seq ?_
  refine W.regS (SR.q' (r_as (v := .int .i64 0) rfl) <| SR.nil ?_)
  refine W.block ?_
  refine W.loop (σ := Nat) (fun g => [(0, .slice AL nL cL), (1, .int .i64 (k + 1 * (g : Int))), (4, .int .i64 0), (5, .int .i64 (g : Int))]) (fun g w' => (Kp (fun b_ => AL = some ⟨b_, 0, none⟩) w w') ∧ (SlO w' BL encI 1 3 AL nL cL (mkL mkInt 1 g k ++ L.drop g)) ∧ (g ≤ nL)) (fun g => nL - g) 0 ?_ ?_ ?_
  · exact ⟨rfl, (eI (by first | omega | (dsimp only; omega))), rfl, (eI (by first | omega | (dsimp only; omega))), trivial⟩
  · exact ⟨(Kp.refl w : Kp (fun b_ => AL = some ⟨b_, 0, none⟩) w w), (SlO.eqv (hL) (z_c_laws_markIntS_2 L nL hbdL hleL k hp0 hp1 hp2)), (z_c_laws_markIntS_1 L nL hbdL hleL k hp0 hp1 hp2)⟩
  · rintro i f3 w4 hP6
    obtain ⟨hB5, hm7, hi8⟩ : (Kp (fun b_ => AL = some ⟨b_, 0, none⟩) w w4) ∧ (SlO w4 BL encI 1 3 AL nL cL (mkL mkInt 1 i k ++ L.drop i)) ∧ (i ≤ nL) := hP6
    refine (?_ : W _ _ _ _ _ (act _ (sets f3 [(0, .slice AL nL cL), (1, .int .i64 (k + 1 * (i : Int))), (4, .int .i64 0), (5, .int .i64 (i : Int))])) _)
    have hzw4 := hB5.size
    refine W.seq ?_
    refine W.seq ?_
    refine W.regS (SR.q' (r_mv (v := .int .i64 _) rfl) <| SR.q' (r_mv (v := .slice _ _ _) rfl) <| SR.q' (r_len und22 rfl) <| SR.q' (r_lt rfl rfl) <| SR.nil ?_)
    refine W.cond_d rfl (fun h9 => ?_) (fun h9 => ?_)
    · refine W.skip ?_
      refine W.seq ?_
      refine W.block ?_
      refine W.seq ?_
      refine W.regS (SR.q' (r_mv (v := .slice _ _ _) rfl) <| SR.q' (r_mv (v := .int .i64 _) rfl) <| SR.q' (r_mv (v := .int .i64 _) rfl) <| ?_)
      obtain ⟨x10, hx11⟩ := ((hm7).rd).get (i := i) (by omega)
      refine SR.q' (r_ixR tsl22 ((hm7).rd) rfl rfl (by omega)) <| SR.storeO (o := 0) (vs := [.int .i64 (k + 1 * (i : Int))]) (x1 := k + 1 * (i : Int)) sca3.2 rfl rfl rfl rfl (hm7) hx11 rfl (Nat.le_of_ble_eq_true rfl) rfl ?_
      intro w12 hk13 hs14 hO15
      have hz16 := hk13.size
      have hB17 := hB5.step hk13 (fun i_ hi_ e' => by have := ((hm7)).base_le e'; first | omega | (exfalso; omega) | exact e' | exact .inl e' | exact .inr e')
      have hx18 : ((mkL mkInt 1 i k ++ L.drop i).set ((i : Int).toNat) (k + 1 * (i : Int)))[(i : Int).toNat]? = some (k + 1 * (i : Int)) := List.getElem?_set_self (List.getElem?_eq_some_iff.1 hx11).1
      refine SR.nil ?_
      refine W.regS (SR.q' (r_mv (v := .int .i64 _) rfl) <| SR.q' (r_add rfl rfl (by omega)) <| SR.q' (r_as (v := .int .i64 _) rfl) <| SR.nil ?_)
      refine W.regS (SR.q' (r_mv (v := .int .i64 _) rfl) <| SR.q' (r_add rfl rfl (by omega)) <| SR.q' (r_as (v := .int .i64 _) rfl) <| SR.nil ?_)
      refine ⟨i + 1, _, rfl, ⟨rfl, (eI (by first | omega | (dsimp only; omega))), rfl, (eI (by first | omega | (dsimp only; omega))), trivial⟩, ⟨hB17, (SlO.eqv (hO15) (z_c_laws_markIntS_19 L nL hbdL hleL k hp0 hp1 hp2 i hi8 h9 x10 hx11)), ?_⟩, ?_⟩
      · exact (z_c_laws_markIntS_20 L nL hbdL hleL k hp0 hp1 hp2 i hi8 h9 x10 hx11)
      · exact (z_c_laws_markIntS_21 L nL hbdL hleL k hp0 hp1 hp2 i hi8 h9 x10 hx11)
    · refine W.exit (xin_here ?_)
      refine W.seq ?_
      refine W.regS (SR.q' (r_mv (v := .int .i64 _) rfl) <| SR.q' (r_as (v := .int .i64 _) rfl) <| SR.nil ?_)
      refine W.ret ?_
      refine ret1 rfl (v := .int .i64 _) rfl ?_
      exact ⟨eR (eI (z_c_laws_markIntS_22 L nL hbdL hleL k hp0 hp1 hp2 i hi8 h9)), (SlO.eqv (hm7) (z_c_laws_markIntS_23 L nL hbdL hleL k hp0 hp1 hp2 i hi8 h9)), hB5⟩

theorem z_c_laws_heldIntS_1 (L : List Int) (nL : Nat) (hbdL : (nL : Int) ≤ 9223372036854775807) (hleL : nL = L.length) (k : Int) (m : Nat) (hp0 : 0 ≤ k) (hp1 : k ≤ 1000000000) (hp2 : (nL : Int) ≤ 1048576) (hp3 : L = mkL mkInt 1 m k) : 0 ≤ nL := by
  omega
theorem z_c_laws_heldIntS_12 (L : List Int) (nL : Nat) (hbdL : (nL : Int) ≤ 9223372036854775807) (hleL : nL = L.length) (k : Int) (m : Nat) (hp0 : 0 ≤ k) (hp1 : k ≤ 1000000000) (hp2 : (nL : Int) ≤ 1048576) (hp3 : L = mkL mkInt 1 m k) (i : Nat) (hi7 : i ≤ nL) (h8 : (i : Int) < (nL : Int)) (x9 : Int) (hx10 : L[i]? = some x9) (h11 : ¬ (x9 = (k + 1 * (i : Int)))) : (-1) = k + 1 * (m : Int) := by
  first | omega | (rw [hp3, mkL_len] at hleL; omega) | (exfalso; subst hp3; obtain rfl := mkL_get ‹_[_]? = some _›; first | (simp_all [mkInt]; done) | (simp only [mkInt] at *; omega))
theorem z_c_laws_heldIntS_13 (L : List Int) (nL : Nat) (hbdL : (nL : Int) ≤ 9223372036854775807) (hleL : nL = L.length) (k : Int) (m : Nat) (hp0 : 0 ≤ k) (hp1 : k ≤ 1000000000) (hp2 : (nL : Int) ≤ 1048576) (hp3 : L = mkL mkInt 1 m k) (i : Nat) (hi7 : i ≤ nL) (h8 : (i : Int) < (nL : Int)) (x9 : Int) (hx10 : L[i]? = some x9) (h11 : x9 = (k + 1 * (i : Int))) : i + 1 ≤ nL := by
  omega
theorem z_c_laws_heldIntS_14 (L : List Int) (nL : Nat) (hbdL : (nL : Int) ≤ 9223372036854775807) (hleL : nL = L.length) (k : Int) (m : Nat) (hp0 : 0 ≤ k) (hp1 : k ≤ 1000000000) (hp2 : (nL : Int) ≤ 1048576) (hp3 : L = mkL mkInt 1 m k) (i : Nat) (hi7 : i ≤ nL) (h8 : (i : Int) < (nL : Int)) (x9 : Int) (hx10 : L[i]? = some x9) (h11 : x9 = (k + 1 * (i : Int))) : nL - (i + 1) < nL - i := by
  omega
theorem z_c_laws_heldIntS_15 (L : List Int) (nL : Nat) (hbdL : (nL : Int) ≤ 9223372036854775807) (hleL : nL = L.length) (k : Int) (m : Nat) (hp0 : 0 ≤ k) (hp1 : k ≤ 1000000000) (hp2 : (nL : Int) ≤ 1048576) (hp3 : L = mkL mkInt 1 m k) (i : Nat) (hi7 : i ≤ nL) (h8 : ¬ ((i : Int) < (nL : Int))) : k + 1 * (i : Int) = k + 1 * (m : Int) := by
  first | omega | (rw [hp3, mkL_len] at hleL; omega) | (exfalso; subst hp3; obtain rfl := mkL_get ‹_[_]? = some _›; first | (simp_all [mkInt]; done) | (simp only [mkInt] at *; omega))
theorem c_laws_heldIntS (w : World) {AL : Option Addr} {nL cL BL : Nat}  (L : List Int) (hL : SlR w BL encI 1 AL nL cL L) (k : Int) (m : Nat) (hp0 : 0 ≤ k) (hp1 : k ≤ 1000000000) (hp2 : (nL : Int) ≤ 1048576) (hp3 : L = mkL mkInt 1 m k) : Calls Try.prog 65 #[.slice AL nL cL, .int .i64 k] w fun e w' => e = .returned (.int .i64 (k + 1 * (m : Int))) ∧ Lo w w' := by
  refine calls_W 21 Try.func65 rfl rfl rfl ?_
  have hbdL := hL.bound
  have hleL := hL.len
  have hBbL := hL.bd
  refine W.seq ?_
  refine W.regS (SR.q' (r_as (v := .int .i64 0) rfl) <| SR.nil ?_)
  refine W.seq ?_
  refine W.seq ?_
  refine W.regS (SR.q' (r_as (v := .int .i64 0) rfl) <| SR.nil ?_)
  refine W.block ?_
  refine W.loop (σ := Nat) (fun g => [(0, .slice AL nL cL), (1, .int .i64 (k + 1 * (g : Int))), (5, .int .i64 (g : Int))]) (fun g w' => (Lo w w') ∧ (SlR w' BL encI 1 AL nL cL L) ∧ (g ≤ nL)) (fun g => nL - g) 0 ?_ ?_ ?_
  · exact ⟨rfl, (eI (by first | omega | (dsimp only; omega))), (eI (by first | omega | (dsimp only; omega))), trivial⟩
  · exact ⟨(Lo.refl w), hL, (z_c_laws_heldIntS_1 L nL hbdL hleL k m hp0 hp1 hp2 hp3)⟩
  · rintro i f2 w3 hP5
    obtain ⟨hB4, hm6, hi7⟩ : (Lo w w3) ∧ (SlR w3 BL encI 1 AL nL cL L) ∧ (i ≤ nL) := hP5
    refine (?_ : W _ _ _ _ _ (act _ (sets f2 [(0, .slice AL nL cL), (1, .int .i64 (k + 1 * (i : Int))), (5, .int .i64 (i : Int))])) _)
    have hzw3 := hB4.size
    refine W.seq ?_
    refine W.seq ?_
    refine W.regS (SR.q' (r_mv (v := .int .i64 _) rfl) <| SR.q' (r_mv (v := .slice _ _ _) rfl) <| SR.q' (r_len und22 rfl) <| SR.q' (r_lt rfl rfl) <| SR.nil ?_)
    refine W.cond_d rfl (fun h8 => ?_) (fun h8 => ?_)
    · refine W.skip ?_
      refine W.seq ?_
      refine W.block ?_
      refine W.seq ?_
      refine W.seq ?_
      refine W.regS (SR.q' (r_mv (v := .slice _ _ _) rfl) <| SR.q' (r_mv (v := .int .i64 _) rfl) <| ?_)
      obtain ⟨x9, hx10⟩ := (hm6).get (i := i) (by omega)
      refine SR.q' (r_ixR tsl22 (hm6) rfl rfl (by omega)) <| SR.q' (r_ld (v := .int .i64 x9) sca3 rfl ((hm6).cell0 hx10 rfl)) <| SR.q' (r_mv (v := .int .i64 _) rfl) <| SR.q' (r_ne rfl rfl) <| SR.nil ?_
      refine W.cond_n rfl (fun h11 => ?_) (fun h11 => ?_)
      · refine W.seq ?_
        refine W.regS (SR.q' (r_as (v := .int .i64 (-1)) rfl) <| SR.nil ?_)
        refine W.ret ?_
        refine ret1 rfl (v := .int .i64 _) rfl ?_
        exact ⟨eR (eI (z_c_laws_heldIntS_12 L nL hbdL hleL k m hp0 hp1 hp2 hp3 i hi7 h8 x9 hx10 h11)), hB4⟩
      · refine W.skip ?_
        refine W.regS (SR.q' (r_mv (v := .int .i64 _) rfl) <| SR.q' (r_add rfl rfl (by omega)) <| SR.q' (r_as (v := .int .i64 _) rfl) <| SR.nil ?_)
        refine W.regS (SR.q' (r_mv (v := .int .i64 _) rfl) <| SR.q' (r_add rfl rfl (by omega)) <| SR.q' (r_as (v := .int .i64 _) rfl) <| SR.nil ?_)
        refine ⟨i + 1, _, rfl, ⟨rfl, (eI (by first | omega | (dsimp only; omega))), (eI (by first | omega | (dsimp only; omega))), trivial⟩, ⟨hB4, hm6, ?_⟩, ?_⟩
        · exact (z_c_laws_heldIntS_13 L nL hbdL hleL k m hp0 hp1 hp2 hp3 i hi7 h8 x9 hx10 h11)
        · exact (z_c_laws_heldIntS_14 L nL hbdL hleL k m hp0 hp1 hp2 hp3 i hi7 h8 x9 hx10 h11)
    · refine W.exit (xin_here ?_)
      refine W.seq ?_
      refine W.regS (SR.q' (r_mv (v := .int .i64 _) rfl) <| SR.q' (r_as (v := .int .i64 _) rfl) <| SR.nil ?_)
      refine W.ret ?_
      refine ret1 rfl (v := .int .i64 _) rfl ?_
      exact ⟨eR (eI (z_c_laws_heldIntS_15 L nL hbdL hleL k m hp0 hp1 hp2 hp3 i hi7 h8)), hB4⟩

theorem z_c_slices_Index___int_int__1 (L : List Int) (nL : Nat) (hbdL : (nL : Int) ≤ 9223372036854775807) (hleL : nL = L.length) (v : Int) : 0 ≤ nL ∧ NoneTo (eqI v) L 0 := by
  exact ⟨Nat.zero_le _, NoneTo.zero⟩
theorem z_c_slices_Index___int_int__12 (L : List Int) (nL : Nat) (hbdL : (nL : Int) ≤ 9223372036854775807) (hleL : nL = L.length) (v : Int) (k : Nat) (hi7 : k ≤ nL ∧ NoneTo (eqI v) L k) (h8 : (k : Int) < (nL : Int)) (x9 : Int) (hx10 : L[k]? = some x9) (h11 : v = x9) : (k : Int) = idxF (eqI v) L := by
  first | exact idx_at (And.right ‹_ ∧ NoneTo _ L _›) ‹L[_]? = some _› (by simp_all [eqI]) | exact idx_no (And.right ‹_ ∧ NoneTo _ L _›) hleL ‹_›
theorem z_c_slices_Index___int_int__13 (L : List Int) (nL : Nat) (hbdL : (nL : Int) ≤ 9223372036854775807) (hleL : nL = L.length) (v : Int) (k : Nat) (hi7 : k ≤ nL ∧ NoneTo (eqI v) L k) (h8 : (k : Int) < (nL : Int)) (x9 : Int) (hx10 : L[k]? = some x9) (h11 : ¬ (v = x9)) : k + 1 ≤ nL ∧ NoneTo (eqI v) L (k + 1) := by
  exact ⟨by omega, NoneTo.next (And.right ‹_ ∧ NoneTo _ L _›) ‹L[k]? = some _› (by simp only [eqI, decide_eq_false_iff_not]; omega)⟩
theorem z_c_slices_Index___int_int__14 (L : List Int) (nL : Nat) (hbdL : (nL : Int) ≤ 9223372036854775807) (hleL : nL = L.length) (v : Int) (k : Nat) (hi7 : k ≤ nL ∧ NoneTo (eqI v) L k) (h8 : (k : Int) < (nL : Int)) (x9 : Int) (hx10 : L[k]? = some x9) (h11 : ¬ (v = x9)) : nL - (k + 1) < nL - k := by
  omega
theorem z_c_slices_Index___int_int__15 (L : List Int) (nL : Nat) (hbdL : (nL : Int) ≤ 9223372036854775807) (hleL : nL = L.length) (v : Int) (k : Nat) (hi7 : k ≤ nL ∧ NoneTo (eqI v) L k) (h8 : ¬ ((k : Int) < (nL : Int))) : (-1) = idxF (eqI v) L := by
  first | exact idx_at (And.right ‹_ ∧ NoneTo _ L _›) ‹L[_]? = some _› (by simp_all [eqI]) | exact idx_no (And.right ‹_ ∧ NoneTo _ L _›) hleL ‹_›
theorem c_slices_Index___int_int_ (w : World) {AL : Option Addr} {nL cL BL : Nat}  (L : List Int) (hL : SlR w BL encI 1 AL nL cL L) (v : Int) : Calls Try.prog 94 #[.slice AL nL cL, .int .i64 v] w fun e w' => e = .returned (.int .i64 (idxF (eqI v) L)) ∧ Lo w w' := by
  refine calls_W 19 Try.func94 rfl rfl rfl ?_
  have hbdL := hL.bound
  have hleL := hL.len
  have hBbL := hL.bd
  refine W.seq ?_
  refine W.regS (SR.q' (r_as (v := .int .i64 0) rfl) <| SR.nil ?_)
  refine W.seq ?_
  refine W.seq ?_
  refine W.regS (SR.q' (r_mv (v := .slice _ _ _) rfl) <| SR.q' (r_len und22 rfl) <| SR.q' (r_mv (v := .int .i64 0) rfl) <| SR.nil ?_)
  refine W.block ?_
  refine W.loop (σ := Nat) (fun g => [(0, .slice AL nL cL), (1, .int .i64 v), (7, .int .i64 (nL : Int)), (8, .int .i64 (g : Int))]) (fun g w' => (Lo w w') ∧ (SlR w' BL encI 1 AL nL cL L) ∧ (g ≤ nL ∧ NoneTo (eqI v) L g)) (fun g => nL - g) 0 ?_ ?_ ?_
  · exact ⟨rfl, rfl, rfl, rfl, trivial⟩
  · exact ⟨(Lo.refl w), hL, (z_c_slices_Index___int_int__1 L nL hbdL hleL v)⟩
  · rintro k f2 w3 hP5
    obtain ⟨hB4, hm6, hi7⟩ : (Lo w w3) ∧ (SlR w3 BL encI 1 AL nL cL L) ∧ (k ≤ nL ∧ NoneTo (eqI v) L k) := hP5
    refine (?_ : W _ _ _ _ _ (act _ (sets f2 [(0, .slice AL nL cL), (1, .int .i64 v), (7, .int .i64 (nL : Int)), (8, .int .i64 (k : Int))])) _)
    have hzw3 := hB4.size
    refine W.seq ?_
    refine W.regS (SR.q' (r_lt rfl rfl) <| SR.nil ?_)
    refine W.seq ?_
    refine W.cond_d rfl (fun h8 => ?_) (fun h8 => ?_)
    · refine W.skip ?_
      refine W.seq ?_
      refine W.block ?_
      refine W.seq ?_
      refine W.regS (SR.q' (r_mv (v := .int .i64 _) rfl) <| SR.q' (r_as (v := .int .i64 _) rfl) <| SR.nil ?_)
      refine W.seq ?_
      refine W.regS (SR.q' (r_mv (v := .int .i64 _) rfl) <| SR.q' (r_mv (v := .slice _ _ _) rfl) <| SR.q' (r_mv (v := .int .i64 _) rfl) <| ?_)
      obtain ⟨x9, hx10⟩ := (hm6).get (i := k) (by omega)
      refine SR.q' (r_ixR tsl22 (hm6) rfl rfl (by omega)) <| SR.q' (r_ld (v := .int .i64 x9) sca3 rfl ((hm6).cell0 hx10 rfl)) <| SR.q' (r_eq rfl rfl) <| SR.nil ?_
      refine W.cond_d rfl (fun h11 => ?_) (fun h11 => ?_)
      · refine W.seq ?_
        refine W.regS (SR.q' (r_mv (v := .int .i64 _) rfl) <| SR.q' (r_as (v := .int .i64 _) rfl) <| SR.nil ?_)
        refine W.ret ?_
        refine ret1 rfl (v := .int .i64 _) rfl ?_
        exact ⟨eR (eI (z_c_slices_Index___int_int__12 L nL hbdL hleL v k hi7 h8 x9 hx10 h11)), hB4⟩
      · refine W.skip ?_
        refine W.regS (SR.q' (r_add rfl rfl (by omega)) <| SR.q' (r_mv (v := .int .i64 _) rfl) <| SR.nil ?_)
        refine ⟨k + 1, _, rfl, ⟨rfl, rfl, rfl, rfl, trivial⟩, ⟨hB4, hm6, ?_⟩, ?_⟩
        · exact (z_c_slices_Index___int_int__13 L nL hbdL hleL v k hi7 h8 x9 hx10 h11)
        · exact (z_c_slices_Index___int_int__14 L nL hbdL hleL v k hi7 h8 x9 hx10 h11)
    · refine W.exit (xin_here ?_)
      refine W.seq ?_
      refine W.regS (SR.q' (r_as (v := .int .i64 (-1)) rfl) <| SR.nil ?_)
      refine W.ret ?_
      refine ret1 rfl (v := .int .i64 _) rfl ?_
      exact ⟨eR (eI (z_c_slices_Index___int_int__15 L nL hbdL hleL v k hi7 h8)), hB4⟩

theorem z_c_slices_Clone___int_int__3 (L : List Int) (nL : Nat) (hbdL : (nL : Int) ≤ 9223372036854775807) (hleL : nL = L.length) (hp0 : (nL : Int) ≤ 1048576) (hq2 : nL = 0) : ([] : List Int) = L := by
  first | rfl | (exact (List.eq_nil_of_length_eq_zero (by omega)).symm)
theorem c_slices_Clone___int_int_ (w : World) {AL : Option Addr} {nL cL BL : Nat}  (L : List Int) (hL : SlR w BL encI 1 AL nL cL L) (hp0 : (nL : Int) ≤ 1048576) : Calls Try.prog 107 #[.slice AL nL cL] w fun e w' => ∃ (A1' : Option Addr) (n1' c1' : Nat), e = .returned (.slice A1' n1' c1') ∧ SlO w' w.heap.size encI 1 3 A1' n1' c1' L ∧ Lo w w' := by
  refine calls_W 8 Try.func107 rfl rfl rfl ?_
  have hbdL := hL.bound
  have hleL := hL.len
  have hBbL := hL.bd
  refine W.seq ?_
  refine W.regS (SR.q' (r_as (v := .slice none 0 0) rfl) <| SR.nil ?_)
  refine W.seq ?_
  refine W.seq ?_
  refine W.regS (SR.q' (r_mv (v := .slice _ _ _) rfl) <| SR.q' (r_eqlnil und22 rfl rfl) <| SR.nil ?_)
  refine W.cond_b rfl (fun h1 => ?_) (fun h1 => ?_)
  · have hq2 := slR_nil hL h1
    refine W.seq ?_
    refine W.regS (SR.q' (r_as (v := .slice none 0 0) rfl) <| SR.nil ?_)
    refine W.ret ?_
    refine ret1 rfl (v := .slice none 0 0) rfl ?_
    exact ⟨none, 0, 0, eR rfl, (SlO.eqv (SlO.nil (e := 3) (enc := encI) (fun _ => rfl) (Nat.le_refl _)) (z_c_slices_Clone___int_int__3 L nL hbdL hleL hp0 hq2)), (Lo.refl w)⟩
  · refine W.skip ?_
    refine W.seq ?_
    refine W.regS (SR.lit (vs := []) (L := ([] : List Int)) (enc := encI) tel22 (fun _ => rfl) rfl rfl rfl (by decide) ?_)
    intro g4 w5 hg6 hk7 hO8
    have hz9 := hk7.size
    have hB10 := (Lo.refl w).lo hk7
    refine SR.q' (r_mv (v := .slice _ _ _) rfl) <| SR.app tel22 rfl rfl (hO8) ((hL).lo hk7) (fun _ => rfl) (by omega) (by omega) ?_
    intro A11 c12 w13 hk14 hO15 hN16
    have hz17 := hk14.size
    have hB18 := hB10.step hk14 (fun i_ hi_ e' => by have := ((hO8)).base_le e'; first | omega | (exfalso; omega) | exact e' | exact .inl e' | exact .inr e')
    rw [List.nil_append] at hO15
    refine SR.q' (r_as (v := .slice _ _ _) rfl) <| SR.nil ?_
    refine W.ret ?_
    refine ret1 rfl (v := .slice _ _ _) rfl ?_
    exact ⟨A11, 0 + nL, c12, eR rfl, ((hO15).down (by omega)), hB18⟩

theorem c_spec_l1Own (w : World) {AL : Option Addr} {nL cL BL : Nat}  (L : List Int) (hL : SlR w BL encI 1 AL nL cL L) (hp0 : (nL : Int) ≤ 1048576) : Calls Try.prog 106 #[.slice AL nL cL] w fun e w' => ∃ (A1' : Option Addr) (n1' c1' : Nat), e = .returned (.slice A1' n1' c1') ∧ SlO w' w.heap.size encI 1 3 A1' n1' c1' L ∧ Lo w w' := by
  refine calls_W 6 Try.func106 rfl rfl rfl ?_
  have hbdL := hL.bound
  have hleL := hL.len
  have hBbL := hL.bd
  refine W.seq ?_
  refine W.regS (SR.q' (r_as (v := .slice none 0 0) rfl) <| SR.nil ?_)
  refine W.seq ?_
  refine W.regS (SR.lit (vs := []) (L := ([] : List Int)) (enc := encI) tel22 (fun _ => rfl) rfl rfl rfl (by decide) ?_)
  intro g1 w2 hg3 hk4 hO5
  have hz6 := hk4.size
  have hB7 := (Lo.refl w).lo hk4
  refine SR.q' (r_mv (v := .slice _ _ _) rfl) <| SR.app tel22 rfl rfl (hO5) ((hL).lo hk4) (fun _ => rfl) (by omega) (by omega) ?_
  intro A8 c9 w10 hk11 hO12 hN13
  have hz14 := hk11.size
  have hB15 := hB7.step hk11 (fun i_ hi_ e' => by have := ((hO5)).base_le e'; first | omega | (exfalso; omega) | exact e' | exact .inl e' | exact .inr e')
  rw [List.nil_append] at hO12
  refine SR.q' (r_as (v := .slice _ _ _) rfl) <| SR.nil ?_
  refine W.ret ?_
  refine ret1 rfl (v := .slice _ _ _) rfl ?_
  exact ⟨A8, 0 + nL, c9, eR rfl, ((hO12).down (by omega)), hB15⟩

theorem z_c_slices_IndexFunc___int_int__1 (L : List Int) (nL : Nat) (hbdL : (nL : Int) ≤ 9223372036854775807) (hleL : nL = L.length) (p : Int → Bool) : 0 ≤ nL ∧ NoneTo p L 0 := by
  exact ⟨Nat.zero_le _, NoneTo.zero⟩
theorem z_c_slices_IndexFunc___int_int__16 (L : List Int) (nL : Nat) (hbdL : (nL : Int) ≤ 9223372036854775807) (hleL : nL = L.length) (p : Int → Bool) (k : Nat) (hi7 : k ≤ nL ∧ NoneTo p L k) (h8 : (k : Int) < (nL : Int)) (hx10 : L[k]? = some (gt L k)) (h15 : (p (gt L k)) = true) : (k : Int) = idxF p L := by
  first | exact idx_at (And.right ‹_ ∧ NoneTo p L _›) ‹L[_]? = some _› ‹_› | exact idx_no (And.right ‹_ ∧ NoneTo p L _›) hleL ‹_›
theorem z_c_slices_IndexFunc___int_int__17 (L : List Int) (nL : Nat) (hbdL : (nL : Int) ≤ 9223372036854775807) (hleL : nL = L.length) (p : Int → Bool) (k : Nat) (hi7 : k ≤ nL ∧ NoneTo p L k) (h8 : (k : Int) < (nL : Int)) (hx10 : L[k]? = some (gt L k)) (h15 : (p (gt L k)) = false) : k + 1 ≤ nL ∧ NoneTo p L (k + 1) := by
  exact ⟨by omega, NoneTo.next (And.right ‹_ ∧ NoneTo p L _›) ‹L[k]? = some _› ‹_›⟩
theorem z_c_slices_IndexFunc___int_int__18 (L : List Int) (nL : Nat) (hbdL : (nL : Int) ≤ 9223372036854775807) (hleL : nL = L.length) (p : Int → Bool) (k : Nat) (hi7 : k ≤ nL ∧ NoneTo p L k) (h8 : (k : Int) < (nL : Int)) (hx10 : L[k]? = some (gt L k)) (h15 : (p (gt L k)) = false) : nL - (k + 1) < nL - k := by
  omega
theorem z_c_slices_IndexFunc___int_int__19 (L : List Int) (nL : Nat) (hbdL : (nL : Int) ≤ 9223372036854775807) (hleL : nL = L.length) (p : Int → Bool) (k : Nat) (hi7 : k ≤ nL ∧ NoneTo p L k) (h8 : ¬ ((k : Int) < (nL : Int))) : (-1) = idxF p L := by
  first | exact idx_at (And.right ‹_ ∧ NoneTo p L _›) ‹L[_]? = some _› ‹_› | exact idx_no (And.right ‹_ ∧ NoneTo p L _›) hleL ‹_›
theorem c_slices_IndexFunc___int_int_ (w : World) {AL : Option Addr} {nL cL BL : Nat}  (L : List Int) (hL : SlR w BL encI 1 AL nL cL L) {kp : Nat} {capp : List Value} (p : Int → Bool) (hp : Fnc Try.prog w kp capp (fun x => .int .i64 x) p) : Calls Try.prog 109 #[.slice AL nL cL, .func (.func kp) #[] (List.toArray capp)] w fun e w' => e = .returned (.int .i64 (idxF p L)) ∧ Lo w w' := by
  refine calls_W 19 Try.func109 rfl rfl rfl ?_
  have hbdL := hL.bound
  have hleL := hL.len
  have hBbL := hL.bd
  refine W.seq ?_
  refine W.regS (SR.q' (r_as (v := .int .i64 0) rfl) <| SR.nil ?_)
  refine W.seq ?_
  refine W.seq ?_
  refine W.regS (SR.q' (r_mv (v := .slice _ _ _) rfl) <| SR.q' (r_len und22 rfl) <| SR.q' (r_mv (v := .int .i64 0) rfl) <| SR.nil ?_)
  refine W.block ?_
  refine W.loop (σ := Nat) (fun g => [(0, .slice AL nL cL), (1, .func (.func kp) #[] (List.toArray capp)), (7, .int .i64 (nL : Int)), (8, .int .i64 (g : Int))]) (fun g w' => (Lo w w') ∧ (SlR w' BL encI 1 AL nL cL L) ∧ (g ≤ nL ∧ NoneTo p L g)) (fun g => nL - g) 0 ?_ ?_ ?_
  · exact ⟨rfl, rfl, rfl, rfl, trivial⟩
  · exact ⟨(Lo.refl w), hL, (z_c_slices_IndexFunc___int_int__1 L nL hbdL hleL p)⟩
  · rintro k f2 w3 hP5
    obtain ⟨hB4, hm6, hi7⟩ : (Lo w w3) ∧ (SlR w3 BL encI 1 AL nL cL L) ∧ (k ≤ nL ∧ NoneTo p L k) := hP5
    refine (?_ : W _ _ _ _ _ (act _ (sets f2 [(0, .slice AL nL cL), (1, .func (.func kp) #[] (List.toArray capp)), (7, .int .i64 (nL : Int)), (8, .int .i64 (k : Int))])) _)
    have hzw3 := hB4.size
    refine W.seq ?_
    refine W.regS (SR.q' (r_lt rfl rfl) <| SR.nil ?_)
    refine W.seq ?_
    refine W.cond_d rfl (fun h8 => ?_) (fun h8 => ?_)
    · refine W.skip ?_
      refine W.seq ?_
      refine W.block ?_
      refine W.seq ?_
      refine W.regS (SR.q' (r_mv (v := .int .i64 _) rfl) <| SR.q' (r_as (v := .int .i64 _) rfl) <| SR.nil ?_)
      refine W.seq ?_
      refine W.regS (SR.q' (r_mv (v := .func _ #[] (List.toArray _)) rfl) <| SR.q' (r_mv (v := .slice _ _ _) rfl) <| SR.q' (r_mv (v := .int .i64 _) rfl) <| ?_)
      have hx10 := (hm6).elem (i := k) (by omega)
      refine SR.q' (r_ixR tsl22 (hm6) rfl rfl (by omega)) <| SR.q' (r_ld (v := .int .i64 (gt L k)) sca3 rfl ((hm6).cell0 hx10 rfl)) <| SR.callv (hp).1 rfl ((hp).2 _ hB4 (gt L k)) rfl ?_
      rintro e w11 ⟨rfl, hk12⟩
      refine ⟨_, rfl, ?_⟩
      have hz13 := hk12.size
      have hB14 := hB4.lo hk12
      refine SR.nil ?_
      refine W.cond_b rfl (fun h15 => ?_) (fun h15 => ?_)
      · refine W.seq ?_
        refine W.regS (SR.q' (r_mv (v := .int .i64 _) rfl) <| SR.q' (r_as (v := .int .i64 _) rfl) <| SR.nil ?_)
        refine W.ret ?_
        refine ret1 rfl (v := .int .i64 _) rfl ?_
        exact ⟨eR (eI (z_c_slices_IndexFunc___int_int__16 L nL hbdL hleL p k hi7 h8 hx10 h15)), hB14⟩
      · refine W.skip ?_
        refine W.regS (SR.q' (r_add rfl rfl (by omega)) <| SR.q' (r_mv (v := .int .i64 _) rfl) <| SR.nil ?_)
        refine ⟨k + 1, _, rfl, ⟨rfl, rfl, rfl, rfl, trivial⟩, ⟨hB14, (hm6).lo hk12, ?_⟩, ?_⟩
        · exact (z_c_slices_IndexFunc___int_int__17 L nL hbdL hleL p k hi7 h8 hx10 h15)
        · exact (z_c_slices_IndexFunc___int_int__18 L nL hbdL hleL p k hi7 h8 hx10 h15)
    · refine W.exit (xin_here ?_)
      refine W.seq ?_
      refine W.regS (SR.q' (r_as (v := .int .i64 (-1)) rfl) <| SR.nil ?_)
      refine W.ret ?_
      refine ret1 rfl (v := .int .i64 _) rfl ?_
      exact ⟨eR (eI (z_c_slices_IndexFunc___int_int__19 L nL hbdL hleL p k hi7 h8)), hB4⟩

theorem z_c_slices_ContainsFunc___int_int__6 (L : List Int) (nL : Nat) (hbdL : (nL : Int) ≤ 9223372036854775807) (hleL : nL = L.length) (p : Int → Bool) (hq5 : idxF p L < (L.length : Int) ∧ -1 ≤ idxF p L) : decide (0 ≤ (idxF p L)) = L.any p := by
  rw [Bool.eq_iff_iff, decide_eq_true_eq]; exact any_idx
theorem c_slices_ContainsFunc___int_int_ (w : World) {AL : Option Addr} {nL cL BL : Nat}  (L : List Int) (hL : SlR w BL encI 1 AL nL cL L) {kp : Nat} {capp : List Value} (p : Int → Bool) (hp : Fnc Try.prog w kp capp (fun x => .int .i64 x) p) : Calls Try.prog 82 #[.slice AL nL cL, .func (.func kp) #[] (List.toArray capp)] w fun e w' => e = .returned (.bool (L.any p)) ∧ Lo w w' := by
  refine calls_W 9 Try.func82 rfl rfl rfl ?_
  have hbdL := hL.bound
  have hleL := hL.len
  have hBbL := hL.bd
  refine W.seq ?_
  refine W.regS (SR.q' (r_as (v := .bool false) rfl) <| SR.nil ?_)
  refine W.seq ?_
  refine W.regS (SR.q' (r_mv (v := .slice _ _ _) rfl) <| SR.q' (r_mv (v := .func _ #[] (List.toArray _)) rfl) <| SR.call ent109 (c_slices_IndexFunc___int_int_ w L ((hL)) p (hp.lo (Lo.refl w))) rfl ?_)
  rintro e w1 ⟨rfl, hk2⟩
  refine ⟨_, rfl, ?_⟩
  have hz3 := hk2.size
  have hB4 := (Lo.refl w).lo hk2
  have hq5 : idxF p L < (L.length : Int) ∧ -1 ≤ idxF p L := idx_lt
  refine SR.q' (r_ge rfl rfl) <| SR.q' (r_as (v := .bool _) rfl) <| SR.nil ?_
  refine W.ret ?_
  refine ret1 rfl (v := .bool _) rfl ?_
  exact ⟨eR (eB (z_c_slices_ContainsFunc___int_int__6 L nL hbdL hleL p hq5)), hB4⟩

theorem c_laws_toScanJob (w : World) (r : ScanJob) {Ar_Tiles : Option Addr} {nr_Tiles cr_Tiles Br_Tiles : Nat} (hr_Tiles : SlR w Br_Tiles encI 1 Ar_Tiles nr_Tiles cr_Tiles r.Tiles) (hp0 : (nr_Tiles : Int) ≤ 1048576) : Calls Try.prog 19 #[.agg (List.toArray [.int .i64 r.State, .slice Ar_Tiles nr_Tiles cr_Tiles, .int .i64 r.Next, .int .i64 r.Fails, .int .i64 r.Size])] w fun e w' => ∃ (A1' : Option Addr) (n1' c1' : Nat), e = .returned (.agg (List.toArray [.int .i64 r.State, .slice A1' n1' c1', .int .i64 r.Next, .int .i64 r.Fails, .int .i64 r.Size])) ∧ SlO w' w.heap.size encI 1 3 A1' n1' c1' r.Tiles ∧ Lo w w' := by
  refine calls_W 21 Try.func19 rfl rfl rfl ?_
  have hbdr_Tiles := hr_Tiles.bound
  have hler_Tiles := hr_Tiles.len
  have hBbr_Tiles := hr_Tiles.bd
  refine W.seq ?_
  refine W.regS (SR.box (v := .agg (List.toArray _)) (l := [.int .i64 r.State, .slice Ar_Tiles nr_Tiles cr_Tiles, .int .i64 r.Next, .int .i64 r.Fails, .int .i64 r.Size]) rfl rfl ?_)
  intro g1 w2 hg3 hk4 hs5 hb6
  have hz7 := hk4.size
  have hB8 := (Lo.refl w).lo hk4
  refine SR.alloc (l := [.int .i64 0, .slice none 0 0, .int .i64 0, .int .i64 0, .int .i64 0]) tz41 rfl ?_
  intro g9 w10 hg11 hk12 hs13 hb14
  have hz15 := hk12.size
  have hB16 := hB8.lo hk12
  refine SR.nil ?_
  refine W.seq ?_
  refine W.regS (SR.alloc (l := [.int .i64 0, .slice none 0 0, .int .i64 0, .int .i64 0, .int .i64 0]) tz41 rfl ?_)
  intro g17 w18 hg19 hk20 hs21 hb22
  have hz23 := hk20.size
  have hB24 := hB16.lo hk20
  refine SR.nil ?_
  refine W.seq ?_
  refine W.regS (SR.q' (r_fa fa38_0 rfl) <| SR.q' (r_ld (v := .int .i64 r.State) sca3 rfl ((((hb6).lo hk12).lo hk20).cell rfl)) <| SR.q' (r_fa fa41_0 rfl) <| SR.store (o := 0) (vs := [.int .i64 r.State]) sca3.2 rfl rfl rfl rfl (hb22) (Nat.le_of_ble_eq_true rfl) rfl ?_)
  intro w25 hk26 hs27 hb28
  have hz29 := hk26.size
  have hB30 := hB24.new hk26 (by omega)
  refine SR.nil ?_
  refine W.seq ?_
  refine W.regS (SR.q' (r_fa fa38_1 rfl) <| SR.q' (r_ld (v := .slice Ar_Tiles nr_Tiles cr_Tiles) sca22 rfl (((((hb6).lo hk12).lo hk20).kp hk26 (fun e' => by have e'' : g1 = g17 := e'; omega)).cell rfl)) <| SR.call ent61 (c_laws_toIntS w25 r.Tiles ((((((hr_Tiles).lo hk4).lo hk12).lo hk20).kp hk26 (fun b_ hb e' => by have e'' : b_ = g17 := e'; omega))) (by omega)) rfl ?_)
  rintro e w31 ⟨A33, n34, c35, rfl, hO36, hk32⟩
  refine ⟨_, rfl, ?_⟩
  have hz37 := hk32.size
  have hB38 := hB30.lo hk32
  have hl39 := hO36.len
  have hl40 := hO36.rd.bound
  refine SR.q' (r_fa fa41_1 rfl) <| SR.store (o := 1) (vs := [.slice A33 n34 c35]) sca22.2 rfl rfl rfl rfl ((hb28).lo hk32) (Nat.le_of_ble_eq_true rfl) rfl ?_
  intro w41 hk42 hs43 hb44
  have hz45 := hk42.size
  have hB46 := hB38.new hk42 (by omega)
  refine SR.nil ?_
  refine W.seq ?_
  refine W.regS (SR.q' (r_fa fa38_2 rfl) <| SR.q' (r_ld (v := .int .i64 r.Next) sca3 rfl (((((((hb6).lo hk12).lo hk20).kp hk26 (fun e' => by have e'' : g1 = g17 := e'; omega)).lo hk32).kp hk42 (fun e' => by have e'' : g1 = g17 := e'; omega)).cell rfl)) <| SR.q' (r_fa fa41_2 rfl) <| SR.store (o := 2) (vs := [.int .i64 r.Next]) sca3.2 rfl rfl rfl rfl (hb44) (Nat.le_of_ble_eq_true rfl) rfl ?_)
  intro w47 hk48 hs49 hb50
  have hz51 := hk48.size
  have hB52 := hB46.new hk48 (by omega)
  refine SR.nil ?_
  refine W.seq ?_
  refine W.regS (SR.q' (r_fa fa38_3 rfl) <| SR.q' (r_ld (v := .int .i64 r.Fails) sca3 rfl ((((((((hb6).lo hk12).lo hk20).kp hk26 (fun e' => by have e'' : g1 = g17 := e'; omega)).lo hk32).kp hk42 (fun e' => by have e'' : g1 = g17 := e'; omega)).kp hk48 (fun e' => by have e'' : g1 = g17 := e'; omega)).cell rfl)) <| SR.q' (r_fa fa41_3 rfl) <| SR.store (o := 3) (vs := [.int .i64 r.Fails]) sca3.2 rfl rfl rfl rfl (hb50) (Nat.le_of_ble_eq_true rfl) rfl ?_)
  intro w53 hk54 hs55 hb56
  have hz57 := hk54.size
  have hB58 := hB52.new hk54 (by omega)
  refine SR.nil ?_
  refine W.seq ?_
  refine W.regS (SR.q' (r_fa fa38_4 rfl) <| SR.q' (r_ld (v := .int .i64 r.Size) sca3 rfl (((((((((hb6).lo hk12).lo hk20).kp hk26 (fun e' => by have e'' : g1 = g17 := e'; omega)).lo hk32).kp hk42 (fun e' => by have e'' : g1 = g17 := e'; omega)).kp hk48 (fun e' => by have e'' : g1 = g17 := e'; omega)).kp hk54 (fun e' => by have e'' : g1 = g17 := e'; omega)).cell rfl)) <| SR.q' (r_fa fa41_4 rfl) <| SR.store (o := 4) (vs := [.int .i64 r.Size]) sca3.2 rfl rfl rfl rfl (hb56) (Nat.le_of_ble_eq_true rfl) rfl ?_)
  intro w59 hk60 hs61 hb62
  have hz63 := hk60.size
  have hB64 := hB58.new hk60 (by omega)
  refine SR.nil ?_
  refine W.seq ?_
  refine W.regS (SR.q' (r_lda (l := [.int .i64 r.State, .slice A33 n34 c35, .int .i64 r.Next, .int .i64 r.Fails, .int .i64 r.Size]) agg41 rfl (fun _ _ hu => (hb62).cell hu) rfl) <| SR.store (o := 0) (vs := [.int .i64 r.State, .slice A33 n34 c35, .int .i64 r.Next, .int .i64 r.Fails, .int .i64 r.Size]) agg41.2 rfl rfl rfl rfl ((((((((hb14).lo hk20).kp hk26 (fun e' => by have e'' : g9 = g17 := e'; omega)).lo hk32).kp hk42 (fun e' => by have e'' : g9 = g17 := e'; omega)).kp hk48 (fun e' => by have e'' : g9 = g17 := e'; omega)).kp hk54 (fun e' => by have e'' : g9 = g17 := e'; omega)).kp hk60 (fun e' => by have e'' : g9 = g17 := e'; omega)) (Nat.le_of_ble_eq_true rfl) rfl ?_)
  intro w65 hk66 hs67 hb68
  have hz69 := hk66.size
  have hB70 := hB64.new hk66 (by omega)
  refine SR.nil ?_
  refine W.ret ?_
  refine retC rfl rfl agg41 (hb68) rfl ?_
  exact ⟨A33, n34, c35, eR rfl, (((((((hO36).kp hk42 (fun b_ hb e' => by have e'' : b_ = g17 := e'; have := (hO36).base_le hb; omega)).kp hk48 (fun b_ hb e' => by have e'' : b_ = g17 := e'; have := ((hO36).kp hk42 (fun b_ hb e' => by have e'' : b_ = g17 := e'; have := (hO36).base_le hb; omega)).base_le hb; omega)).kp hk54 (fun b_ hb e' => by have e'' : b_ = g17 := e'; have := (((hO36).kp hk42 (fun b_ hb e' => by have e'' : b_ = g17 := e'; have := (hO36).base_le hb; omega)).kp hk48 (fun b_ hb e' => by have e'' : b_ = g17 := e'; have := ((hO36).kp hk42 (fun b_ hb e' => by have e'' : b_ = g17 := e'; have := (hO36).base_le hb; omega)).base_le hb; omega)).base_le hb; omega)).kp hk60 (fun b_ hb e' => by have e'' : b_ = g17 := e'; have := ((((hO36).kp hk42 (fun b_ hb e' => by have e'' : b_ = g17 := e'; have := (hO36).base_le hb; omega)).kp hk48 (fun b_ hb e' => by have e'' : b_ = g17 := e'; have := ((hO36).kp hk42 (fun b_ hb e' => by have e'' : b_ = g17 := e'; have := (hO36).base_le hb; omega)).base_le hb; omega)).kp hk54 (fun b_ hb e' => by have e'' : b_ = g17 := e'; have := (((hO36).kp hk42 (fun b_ hb e' => by have e'' : b_ = g17 := e'; have := (hO36).base_le hb; omega)).kp hk48 (fun b_ hb e' => by have e'' : b_ = g17 := e'; have := ((hO36).kp hk42 (fun b_ hb e' => by have e'' : b_ = g17 := e'; have := (hO36).base_le hb; omega)).base_le hb; omega)).base_le hb; omega)).base_le hb; omega)).kp hk66 (fun b_ hb e' => by have e'' : b_ = g9 := e'; have := (((((hO36).kp hk42 (fun b_ hb e' => by have e'' : b_ = g17 := e'; have := (hO36).base_le hb; omega)).kp hk48 (fun b_ hb e' => by have e'' : b_ = g17 := e'; have := ((hO36).kp hk42 (fun b_ hb e' => by have e'' : b_ = g17 := e'; have := (hO36).base_le hb; omega)).base_le hb; omega)).kp hk54 (fun b_ hb e' => by have e'' : b_ = g17 := e'; have := (((hO36).kp hk42 (fun b_ hb e' => by have e'' : b_ = g17 := e'; have := (hO36).base_le hb; omega)).kp hk48 (fun b_ hb e' => by have e'' : b_ = g17 := e'; have := ((hO36).kp hk42 (fun b_ hb e' => by have e'' : b_ = g17 := e'; have := (hO36).base_le hb; omega)).base_le hb; omega)).base_le hb; omega)).kp hk60 (fun b_ hb e' => by have e'' : b_ = g17 := e'; have := ((((hO36).kp hk42 (fun b_ hb e' => by have e'' : b_ = g17 := e'; have := (hO36).base_le hb; omega)).kp hk48 (fun b_ hb e' => by have e'' : b_ = g17 := e'; have := ((hO36).kp hk42 (fun b_ hb e' => by have e'' : b_ = g17 := e'; have := (hO36).base_le hb; omega)).base_le hb; omega)).kp hk54 (fun b_ hb e' => by have e'' : b_ = g17 := e'; have := (((hO36).kp hk42 (fun b_ hb e' => by have e'' : b_ = g17 := e'; have := (hO36).base_le hb; omega)).kp hk48 (fun b_ hb e' => by have e'' : b_ = g17 := e'; have := ((hO36).kp hk42 (fun b_ hb e' => by have e'' : b_ = g17 := e'; have := (hO36).base_le hb; omega)).base_le hb; omega)).base_le hb; omega)).base_le hb; omega)).base_le hb; omega)).down (by omega)), hB70⟩

theorem z_c_laws_szScanJob_14 (r : ScanJob) (nr_Tiles : Nat) (hbdr_Tiles : (nr_Tiles : Int) ≤ 9223372036854775807) (hler_Tiles : nr_Tiles = r.Tiles.length) (left : Int) (hp0 : 0 ≤ left) (hp1 : left ≤ 1048576) (h13 : (szN r.Tiles.length left) < 0) : (-1) = szN r.Tiles.length left := by
  first | exact szN_neg ‹_› | exact szN_neg1 ‹_› | exact szN_neg2 ‹_› ‹_› | exact szN_add ‹_› ‹_› | (unfold szN at *; repeat (split at *)) <;> omega
theorem c_laws_szScanJob (w : World) (r : ScanJob) {Ar_Tiles : Option Addr} {nr_Tiles cr_Tiles Br_Tiles : Nat} (hr_Tiles : SlR w Br_Tiles encI 1 Ar_Tiles nr_Tiles cr_Tiles r.Tiles) (left : Int) (hp0 : 0 ≤ left) (hp1 : left ≤ 1048576) : Calls Try.prog 17 #[.agg (List.toArray [.int .i64 r.State, .slice Ar_Tiles nr_Tiles cr_Tiles, .int .i64 r.Next, .int .i64 r.Fails, .int .i64 r.Size]), .int .i64 left] w fun e w' => e = .returned (.int .i64 (szN r.Tiles.length left)) ∧ Lo w w' := by
  refine calls_W 12 Try.func17 rfl rfl rfl ?_
  have hbdr_Tiles := hr_Tiles.bound
  have hler_Tiles := hr_Tiles.len
  have hBbr_Tiles := hr_Tiles.bd
  refine W.seq ?_
  refine W.regS (SR.box (v := .agg (List.toArray _)) (l := [.int .i64 r.State, .slice Ar_Tiles nr_Tiles cr_Tiles, .int .i64 r.Next, .int .i64 r.Fails, .int .i64 r.Size]) rfl rfl ?_)
  intro g1 w2 hg3 hk4 hs5 hb6
  have hz7 := hk4.size
  have hB8 := (Lo.refl w).lo hk4
  refine SR.q' (r_as (v := .int .i64 0) rfl) <| SR.nil ?_
  refine W.seq ?_
  refine W.regS (SR.q' (r_fa fa38_1 rfl) <| SR.q' (r_ld (v := .slice Ar_Tiles nr_Tiles cr_Tiles) sca22 rfl ((hb6).cell rfl)) <| SR.q' (r_mv (v := .int .i64 _) rfl) <| SR.call ent57 (c_laws_szIntS w2 r.Tiles (((hr_Tiles).lo hk4)) left (by omega) (by omega)) rfl ?_)
  rintro e w9 ⟨rfl, hk10⟩
  refine ⟨_, rfl, ?_⟩
  have hz11 := hk10.size
  have hB12 := hB8.lo hk10
  refine SR.q' (r_as (v := .int .i64 _) rfl) <| SR.nil ?_
  refine W.seq ?_
  refine W.seq ?_
  refine W.regS (SR.q' (r_mv (v := .int .i64 _) rfl) <| SR.q' (r_lt rfl rfl) <| SR.nil ?_)
  refine W.cond_d rfl (fun h13 => ?_) (fun h13 => ?_)
  · refine W.seq ?_
    refine W.regS (SR.q' (r_as (v := .int .i64 (-1)) rfl) <| SR.nil ?_)
    refine W.ret ?_
    refine ret1 rfl (v := .int .i64 _) rfl ?_
    exact ⟨eR (eI (z_c_laws_szScanJob_14 r nr_Tiles hbdr_Tiles hler_Tiles left hp0 hp1 h13)), hB12⟩
  · have hq15 := szN_ok h13
    refine W.skip ?_
    refine W.seq ?_
    refine W.regS (SR.q' (r_mv (v := .int .i64 _) rfl) <| SR.q' (r_as (v := .int .i64 _) rfl) <| SR.nil ?_)
    refine W.ret ?_
    refine ret1 rfl (v := .int .i64 _) rfl ?_
    exact ⟨eR rfl, hB12⟩

theorem z_c_laws_eqScanJob_18 (a : ScanJob) (na_Tiles : Nat) (hbda_Tiles : (na_Tiles : Int) ≤ 9223372036854775807) (hlea_Tiles : na_Tiles = a.Tiles.length) (b : ScanJob) (nb_Tiles : Nat) (hbdb_Tiles : (nb_Tiles : Int) ≤ 9223372036854775807) (hleb_Tiles : nb_Tiles = b.Tiles.length) (h17 : ¬ (a.State = b.State)) : ¬ (a = b) := by
  cases a; cases b; simp_all
theorem z_c_laws_eqScanJob_24 (a : ScanJob) (na_Tiles : Nat) (hbda_Tiles : (na_Tiles : Int) ≤ 9223372036854775807) (hlea_Tiles : na_Tiles = a.Tiles.length) (b : ScanJob) (nb_Tiles : Nat) (hbdb_Tiles : (nb_Tiles : Int) ≤ 9223372036854775807) (hleb_Tiles : nb_Tiles = b.Tiles.length) (h17 : a.State = b.State) (h23 : ¬ (a.Tiles = b.Tiles)) : ¬ (a = b) := by
  cases a; cases b; simp_all
theorem z_c_laws_eqScanJob_26 (a : ScanJob) (na_Tiles : Nat) (hbda_Tiles : (na_Tiles : Int) ≤ 9223372036854775807) (hlea_Tiles : na_Tiles = a.Tiles.length) (b : ScanJob) (nb_Tiles : Nat) (hbdb_Tiles : (nb_Tiles : Int) ≤ 9223372036854775807) (hleb_Tiles : nb_Tiles = b.Tiles.length) (h17 : a.State = b.State) (h23 : a.Tiles = b.Tiles) (h25 : ¬ (a.Next = b.Next)) : ¬ (a = b) := by
  cases a; cases b; simp_all
theorem z_c_laws_eqScanJob_28 (a : ScanJob) (na_Tiles : Nat) (hbda_Tiles : (na_Tiles : Int) ≤ 9223372036854775807) (hlea_Tiles : na_Tiles = a.Tiles.length) (b : ScanJob) (nb_Tiles : Nat) (hbdb_Tiles : (nb_Tiles : Int) ≤ 9223372036854775807) (hleb_Tiles : nb_Tiles = b.Tiles.length) (h17 : a.State = b.State) (h23 : a.Tiles = b.Tiles) (h25 : a.Next = b.Next) (h27 : ¬ (a.Fails = b.Fails)) : ¬ (a = b) := by
  cases a; cases b; simp_all
theorem z_c_laws_eqScanJob_30 (a : ScanJob) (na_Tiles : Nat) (hbda_Tiles : (na_Tiles : Int) ≤ 9223372036854775807) (hlea_Tiles : na_Tiles = a.Tiles.length) (b : ScanJob) (nb_Tiles : Nat) (hbdb_Tiles : (nb_Tiles : Int) ≤ 9223372036854775807) (hleb_Tiles : nb_Tiles = b.Tiles.length) (h17 : a.State = b.State) (h23 : a.Tiles = b.Tiles) (h25 : a.Next = b.Next) (h27 : a.Fails = b.Fails) (h29 : ¬ (a.Size = b.Size)) : ¬ (a = b) := by
  cases a; cases b; simp_all
theorem z_c_laws_eqScanJob_31 (a : ScanJob) (na_Tiles : Nat) (hbda_Tiles : (na_Tiles : Int) ≤ 9223372036854775807) (hlea_Tiles : na_Tiles = a.Tiles.length) (b : ScanJob) (nb_Tiles : Nat) (hbdb_Tiles : (nb_Tiles : Int) ≤ 9223372036854775807) (hleb_Tiles : nb_Tiles = b.Tiles.length) (h17 : a.State = b.State) (h23 : a.Tiles = b.Tiles) (h25 : a.Next = b.Next) (h27 : a.Fails = b.Fails) (h29 : a.Size = b.Size) : a = b := by
  cases a; cases b; simp_all
theorem c_laws_eqScanJob (w : World) (a : ScanJob) {Aa_Tiles : Option Addr} {na_Tiles ca_Tiles Ba_Tiles : Nat} (ha_Tiles : SlR w Ba_Tiles encI 1 Aa_Tiles na_Tiles ca_Tiles a.Tiles) (b : ScanJob) {Ab_Tiles : Option Addr} {nb_Tiles cb_Tiles Bb_Tiles : Nat} (hb_Tiles : SlR w Bb_Tiles encI 1 Ab_Tiles nb_Tiles cb_Tiles b.Tiles) : Calls Try.prog 22 #[.agg (List.toArray [.int .i64 a.State, .slice Aa_Tiles na_Tiles ca_Tiles, .int .i64 a.Next, .int .i64 a.Fails, .int .i64 a.Size]), .agg (List.toArray [.int .i64 b.State, .slice Ab_Tiles nb_Tiles cb_Tiles, .int .i64 b.Next, .int .i64 b.Fails, .int .i64 b.Size])] w fun e w' => e = .returned (.bool (decide (a = b))) ∧ Lo w w' := by
  refine calls_W 31 Try.func22 rfl rfl rfl ?_
  have hbda_Tiles := ha_Tiles.bound
  have hlea_Tiles := ha_Tiles.len
  have hBba_Tiles := ha_Tiles.bd
  have hbdb_Tiles := hb_Tiles.bound
  have hleb_Tiles := hb_Tiles.len
  have hBbb_Tiles := hb_Tiles.bd
  refine W.seq ?_
  refine W.regS (SR.box (v := .agg (List.toArray _)) (l := [.int .i64 a.State, .slice Aa_Tiles na_Tiles ca_Tiles, .int .i64 a.Next, .int .i64 a.Fails, .int .i64 a.Size]) rfl rfl ?_)
  intro g1 w2 hg3 hk4 hs5 hb6
  have hz7 := hk4.size
  have hB8 := (Lo.refl w).lo hk4
  refine SR.box (v := .agg (List.toArray _)) (l := [.int .i64 b.State, .slice Ab_Tiles nb_Tiles cb_Tiles, .int .i64 b.Next, .int .i64 b.Fails, .int .i64 b.Size]) rfl rfl ?_
  intro g9 w10 hg11 hk12 hs13 hb14
  have hz15 := hk12.size
  have hB16 := hB8.lo hk12
  refine SR.q' (r_as (v := .bool false) rfl) <| SR.nil ?_
  refine W.seq ?_
  refine W.seq ?_
  refine W.regS (SR.q' (r_fa fa41_0 rfl) <| SR.q' (r_ld (v := .int .i64 a.State) sca3 rfl (((hb6).lo hk12).cell rfl)) <| SR.q' (r_fa fa41_0 rfl) <| SR.q' (r_ld (v := .int .i64 b.State) sca3 rfl ((hb14).cell rfl)) <| SR.q' (r_ne rfl rfl) <| SR.nil ?_)
  refine W.cond_n rfl (fun h17 => ?_) (fun h17 => ?_)
  · refine W.seq ?_
    refine W.regS (SR.q' (r_as (v := .bool false) rfl) <| SR.nil ?_)
    refine W.ret ?_
    refine ret1 rfl (v := .bool _) rfl ?_
    exact ⟨eR (eDF (z_c_laws_eqScanJob_18 a na_Tiles hbda_Tiles hlea_Tiles b nb_Tiles hbdb_Tiles hleb_Tiles h17)), hB16⟩
  · refine W.skip ?_
    refine W.seq ?_
    refine W.seq ?_
    refine W.regS (SR.q' (r_fa fa41_1 rfl) <| SR.q' (r_ld (v := .slice Aa_Tiles na_Tiles ca_Tiles) sca22 rfl (((hb6).lo hk12).cell rfl)) <| SR.q' (r_fa fa41_1 rfl) <| SR.q' (r_ld (v := .slice Ab_Tiles nb_Tiles cb_Tiles) sca22 rfl ((hb14).cell rfl)) <| SR.call ent63 (c_laws_eqIntS w10 a.Tiles ((((ha_Tiles).lo hk4).lo hk12)) b.Tiles ((((hb_Tiles).lo hk4).lo hk12))) rfl ?_)
    rintro e w19 ⟨rfl, hk20⟩
    refine ⟨_, rfl, ?_⟩
    have hz21 := hk20.size
    have hB22 := hB16.lo hk20
    refine SR.q' (r_not rfl) <| SR.nil ?_
    refine W.cond_n rfl (fun h23 => ?_) (fun h23 => ?_)
    · refine W.seq ?_
      refine W.regS (SR.q' (r_as (v := .bool false) rfl) <| SR.nil ?_)
      refine W.ret ?_
      refine ret1 rfl (v := .bool _) rfl ?_
      exact ⟨eR (eDF (z_c_laws_eqScanJob_24 a na_Tiles hbda_Tiles hlea_Tiles b nb_Tiles hbdb_Tiles hleb_Tiles h17 h23)), hB22⟩
    · refine W.skip ?_
      refine W.seq ?_
      refine W.seq ?_
      refine W.regS (SR.q' (r_fa fa41_2 rfl) <| SR.q' (r_ld (v := .int .i64 a.Next) sca3 rfl ((((hb6).lo hk12).lo hk20).cell rfl)) <| SR.q' (r_fa fa41_2 rfl) <| SR.q' (r_ld (v := .int .i64 b.Next) sca3 rfl (((hb14).lo hk20).cell rfl)) <| SR.q' (r_ne rfl rfl) <| SR.nil ?_)
      refine W.cond_n rfl (fun h25 => ?_) (fun h25 => ?_)
      · refine W.seq ?_
        refine W.regS (SR.q' (r_as (v := .bool false) rfl) <| SR.nil ?_)
        refine W.ret ?_
        refine ret1 rfl (v := .bool _) rfl ?_
        exact ⟨eR (eDF (z_c_laws_eqScanJob_26 a na_Tiles hbda_Tiles hlea_Tiles b nb_Tiles hbdb_Tiles hleb_Tiles h17 h23 h25)), hB22⟩
      · refine W.skip ?_
        refine W.seq ?_
        refine W.seq ?_
        refine W.regS (SR.q' (r_fa fa41_3 rfl) <| SR.q' (r_ld (v := .int .i64 a.Fails) sca3 rfl ((((hb6).lo hk12).lo hk20).cell rfl)) <| SR.q' (r_fa fa41_3 rfl) <| SR.q' (r_ld (v := .int .i64 b.Fails) sca3 rfl (((hb14).lo hk20).cell rfl)) <| SR.q' (r_ne rfl rfl) <| SR.nil ?_)
        refine W.cond_n rfl (fun h27 => ?_) (fun h27 => ?_)
        · refine W.seq ?_
          refine W.regS (SR.q' (r_as (v := .bool false) rfl) <| SR.nil ?_)
          refine W.ret ?_
          refine ret1 rfl (v := .bool _) rfl ?_
          exact ⟨eR (eDF (z_c_laws_eqScanJob_28 a na_Tiles hbda_Tiles hlea_Tiles b nb_Tiles hbdb_Tiles hleb_Tiles h17 h23 h25 h27)), hB22⟩
        · refine W.skip ?_
          refine W.seq ?_
          refine W.seq ?_
          refine W.regS (SR.q' (r_fa fa41_4 rfl) <| SR.q' (r_ld (v := .int .i64 a.Size) sca3 rfl ((((hb6).lo hk12).lo hk20).cell rfl)) <| SR.q' (r_fa fa41_4 rfl) <| SR.q' (r_ld (v := .int .i64 b.Size) sca3 rfl (((hb14).lo hk20).cell rfl)) <| SR.q' (r_ne rfl rfl) <| SR.nil ?_)
          refine W.cond_n rfl (fun h29 => ?_) (fun h29 => ?_)
          · refine W.seq ?_
            refine W.regS (SR.q' (r_as (v := .bool false) rfl) <| SR.nil ?_)
            refine W.ret ?_
            refine ret1 rfl (v := .bool _) rfl ?_
            exact ⟨eR (eDF (z_c_laws_eqScanJob_30 a na_Tiles hbda_Tiles hlea_Tiles b nb_Tiles hbdb_Tiles hleb_Tiles h17 h23 h25 h27 h29)), hB22⟩
          · refine W.skip ?_
            refine W.seq ?_
            refine W.regS (SR.q' (r_as (v := .bool true) rfl) <| SR.nil ?_)
            refine W.ret ?_
            refine ret1 rfl (v := .bool _) rfl ?_
            exact ⟨eR (eDT (z_c_laws_eqScanJob_31 a na_Tiles hbda_Tiles hlea_Tiles b nb_Tiles hbdb_Tiles hleb_Tiles h17 h23 h25 h27 h29)), hB22⟩

theorem c_laws_markScanJob (w : World) (r : ScanJob) {Ar_Tiles : Option Addr} {nr_Tiles cr_Tiles Br_Tiles : Nat} (hr_Tiles : SlO w Br_Tiles encI 1 3 Ar_Tiles nr_Tiles cr_Tiles r.Tiles) (k : Int) (hp0 : 0 ≤ k) (hp1 : k ≤ 1000) (hp2 : (nr_Tiles : Int) ≤ 1048576) : Calls Try.prog 23 #[.agg (List.toArray [.int .i64 r.State, .slice Ar_Tiles nr_Tiles cr_Tiles, .int .i64 r.Next, .int .i64 r.Fails, .int .i64 r.Size]), .int .i64 k] w fun e w' => e = .returned (.int .i64 (k + 1 * (r.Tiles.length : Int))) ∧ SlO w' Br_Tiles encI 1 3 Ar_Tiles nr_Tiles cr_Tiles (mkL mkInt 1 r.Tiles.length k) ∧ Kp (fun b_ => Ar_Tiles = some ⟨b_, 0, none⟩) w w' := by
  refine calls_W 10 Try.func23 rfl rfl rfl ?_
  have hbdr_Tiles := hr_Tiles.rd.bound
  have hler_Tiles := hr_Tiles.len
  have hBbr_Tiles := hr_Tiles.bd
  refine W.seq ?_
  refine W.regS (SR.box (v := .agg (List.toArray _)) (l := [.int .i64 r.State, .slice Ar_Tiles nr_Tiles cr_Tiles, .int .i64 r.Next, .int .i64 r.Fails, .int .i64 r.Size]) rfl rfl ?_)
  intro g1 w2 hg3 hk4 hs5 hb6
  have hz7 := hk4.size
  have hB8 := (Kp.refl w : Kp (fun b_ => Ar_Tiles = some ⟨b_, 0, none⟩) w w).lo hk4
  have hd9 : ¬ Ar_Tiles = some ⟨g1, 0, none⟩ := fun e' => by have := (hr_Tiles).base_le e'; omega
  refine SR.q' (r_as (v := .int .i64 0) rfl) <| SR.nil ?_
  refine W.seq ?_
  refine W.regS (SR.q' (r_fa fa41_1 rfl) <| SR.q' (r_ld (v := .slice Ar_Tiles nr_Tiles cr_Tiles) sca22 rfl ((hb6).cell rfl)) <| SR.q' (r_mv (v := .int .i64 _) rfl) <| SR.call ent64 (c_laws_markIntS w2 r.Tiles ((hr_Tiles).lo hk4) k (by omega) (by omega) (by omega)) rfl ?_)
  rintro e w10 ⟨rfl, hO12, hk11⟩
  refine ⟨_, rfl, ?_⟩
  have hz13 := hk11.size
  have hB14 := hB8.step hk11 (fun i_ hi_ e' => by have := (((hr_Tiles).lo hk4)).base_le e'; first | omega | (exfalso; omega) | exact e' | exact .inl e' | exact .inr e')
  refine SR.q' (r_as (v := .int .i64 _) rfl) <| SR.nil ?_
  refine W.seq ?_
  refine W.regS (SR.q' (r_mv (v := .int .i64 _) rfl) <| SR.q' (r_as (v := .int .i64 _) rfl) <| SR.nil ?_)
  refine W.ret ?_
  refine ret1 rfl (v := .int .i64 _) rfl ?_
  exact ⟨eR rfl, (hO12), hB14⟩

theorem z_c_laws_heldScanJob_14 (r : ScanJob) (nr_Tiles : Nat) (hbdr_Tiles : (nr_Tiles : Int) ≤ 9223372036854775807) (hler_Tiles : nr_Tiles = r.Tiles.length) (k : Int) (m_Tiles : Nat) (hp0 : 0 ≤ k) (hp1 : k ≤ 1000) (hp2 : (nr_Tiles : Int) ≤ 1048576) (hp3 : r.Tiles = mkL mkInt 1 m_Tiles k) (hp4 : (m_Tiles : Int) ≤ 1048576) (h13 : (k + 1 * (m_Tiles : Int)) < 0) : (-1) = k + 1 * (m_Tiles : Int) := by
  first | rfl | omega
theorem c_laws_heldScanJob (w : World) (r : ScanJob) {Ar_Tiles : Option Addr} {nr_Tiles cr_Tiles Br_Tiles : Nat} (hr_Tiles : SlR w Br_Tiles encI 1 Ar_Tiles nr_Tiles cr_Tiles r.Tiles) (k : Int) (m_Tiles : Nat) (hp0 : 0 ≤ k) (hp1 : k ≤ 1000) (hp2 : (nr_Tiles : Int) ≤ 1048576) (hp3 : r.Tiles = mkL mkInt 1 m_Tiles k) (hp4 : (m_Tiles : Int) ≤ 1048576) : Calls Try.prog 24 #[.agg (List.toArray [.int .i64 r.State, .slice Ar_Tiles nr_Tiles cr_Tiles, .int .i64 r.Next, .int .i64 r.Fails, .int .i64 r.Size]), .int .i64 k] w fun e w' => e = .returned (.int .i64 (k + 1 * (m_Tiles : Int))) ∧ Lo w w' := by
  refine calls_W 12 Try.func24 rfl rfl rfl ?_
  have hbdr_Tiles := hr_Tiles.bound
  have hler_Tiles := hr_Tiles.len
  have hBbr_Tiles := hr_Tiles.bd
  refine W.seq ?_
  refine W.regS (SR.box (v := .agg (List.toArray _)) (l := [.int .i64 r.State, .slice Ar_Tiles nr_Tiles cr_Tiles, .int .i64 r.Next, .int .i64 r.Fails, .int .i64 r.Size]) rfl rfl ?_)
  intro g1 w2 hg3 hk4 hs5 hb6
  have hz7 := hk4.size
  have hB8 := (Lo.refl w).lo hk4
  refine SR.q' (r_as (v := .int .i64 0) rfl) <| SR.nil ?_
  refine W.seq ?_
  refine W.regS (SR.q' (r_fa fa41_1 rfl) <| SR.q' (r_ld (v := .slice Ar_Tiles nr_Tiles cr_Tiles) sca22 rfl ((hb6).cell rfl)) <| SR.q' (r_mv (v := .int .i64 _) rfl) <| SR.call ent65 (c_laws_heldIntS w2 r.Tiles (((hr_Tiles).lo hk4)) k m_Tiles (by omega) (by omega) (by omega) (by first | rfl | assumption)) rfl ?_)
  rintro e w9 ⟨rfl, hk10⟩
  refine ⟨_, rfl, ?_⟩
  have hz11 := hk10.size
  have hB12 := hB8.lo hk10
  refine SR.q' (r_as (v := .int .i64 _) rfl) <| SR.nil ?_
  refine W.seq ?_
  refine W.seq ?_
  refine W.regS (SR.q' (r_mv (v := .int .i64 _) rfl) <| SR.q' (r_lt rfl rfl) <| SR.nil ?_)
  refine W.cond_d rfl (fun h13 => ?_) (fun h13 => ?_)
  · refine W.seq ?_
    refine W.regS (SR.q' (r_as (v := .int .i64 (-1)) rfl) <| SR.nil ?_)
    refine W.ret ?_
    refine ret1 rfl (v := .int .i64 _) rfl ?_
    exact ⟨eR (eI (z_c_laws_heldScanJob_14 r nr_Tiles hbdr_Tiles hler_Tiles k m_Tiles hp0 hp1 hp2 hp3 hp4 h13)), hB12⟩
  · refine W.skip ?_
    refine W.seq ?_
    refine W.regS (SR.q' (r_mv (v := .int .i64 _) rfl) <| SR.q' (r_as (v := .int .i64 _) rfl) <| SR.nil ?_)
    refine W.ret ?_
    refine ret1 rfl (v := .int .i64 _) rfl ?_
    exact ⟨eR rfl, hB12⟩

theorem z_c_laws_toScanStep_43 (r : ScanStep) : ([.int .i64 r.Kind, .int .i64 r.Value] : List Value) = encScanStep r := by
  first | rfl | (first | rfl | omega | grind)
theorem c_laws_toScanStep (w : World) (r : ScanStep) : Calls Try.prog 20 #[.agg (List.toArray (encScanStep r))] w fun e w' => e = .returned (.agg (List.toArray (encScanStep r))) ∧ Lo w w' := by
  refine calls_W 11 Try.func20 rfl rfl rfl ?_
  refine W.seq ?_
  refine W.regS (SR.box (v := .agg (List.toArray _)) (l := [.int .i64 r.Kind, .int .i64 r.Value]) rfl rfl ?_)
  intro g1 w2 hg3 hk4 hs5 hb6
  have hz7 := hk4.size
  have hB8 := (Lo.refl w).lo hk4
  refine SR.alloc (l := [.int .i64 0, .int .i64 0]) tz45 rfl ?_
  intro g9 w10 hg11 hk12 hs13 hb14
  have hz15 := hk12.size
  have hB16 := hB8.lo hk12
  refine SR.nil ?_
  refine W.seq ?_
  refine W.regS (SR.alloc (l := [.int .i64 0, .int .i64 0]) tz45 rfl ?_)
  intro g17 w18 hg19 hk20 hs21 hb22
  have hz23 := hk20.size
  have hB24 := hB16.lo hk20
  refine SR.nil ?_
  refine W.seq ?_
  refine W.regS (SR.q' (r_fa fa39_0 rfl) <| SR.q' (r_ld (v := .int .i64 r.Kind) sca3 rfl ((((hb6).lo hk12).lo hk20).cell rfl)) <| SR.q' (r_fa fa45_0 rfl) <| SR.store (o := 0) (vs := [.int .i64 r.Kind]) sca3.2 rfl rfl rfl rfl (hb22) (Nat.le_of_ble_eq_true rfl) rfl ?_)
  intro w25 hk26 hs27 hb28
  have hz29 := hk26.size
  have hB30 := hB24.new hk26 (by omega)
  refine SR.nil ?_
  refine W.seq ?_
  refine W.regS (SR.q' (r_fa fa39_1 rfl) <| SR.q' (r_ld (v := .int .i64 r.Value) sca3 rfl (((((hb6).lo hk12).lo hk20).kp hk26 (fun e' => by have e'' : g1 = g17 := e'; omega)).cell rfl)) <| SR.q' (r_fa fa45_1 rfl) <| SR.store (o := 1) (vs := [.int .i64 r.Value]) sca3.2 rfl rfl rfl rfl (hb28) (Nat.le_of_ble_eq_true rfl) rfl ?_)
  intro w31 hk32 hs33 hb34
  have hz35 := hk32.size
  have hB36 := hB30.new hk32 (by omega)
  refine SR.nil ?_
  refine W.seq ?_
  refine W.regS (SR.q' (r_lda (l := [.int .i64 r.Kind, .int .i64 r.Value]) agg45 rfl (fun _ _ hu => (hb34).cell hu) rfl) <| SR.store (o := 0) (vs := [.int .i64 r.Kind, .int .i64 r.Value]) agg45.2 rfl rfl rfl rfl ((((hb14).lo hk20).kp hk26 (fun e' => by have e'' : g9 = g17 := e'; omega)).kp hk32 (fun e' => by have e'' : g9 = g17 := e'; omega)) (Nat.le_of_ble_eq_true rfl) rfl ?_)
  intro w37 hk38 hs39 hb40
  have hz41 := hk38.size
  have hB42 := hB36.new hk38 (by omega)
  refine SR.nil ?_
  refine W.ret ?_
  refine retC rfl rfl agg45 (hb40) rfl ?_
  exact ⟨eR (eA (z_c_laws_toScanStep_43 r)), hB42⟩

theorem z_c_laws_szScanStepS_2 (L : List ScanStep) (nL : Nat) (hbdL : (nL : Int) ≤ 9223372036854775807) (hleL : nL = L.length) (left : Int) (hp0 : 0 ≤ left) (hp1 : left ≤ 1048576) (h1 : (left - (nL : Int)) < 0) : (-1) = szN L.length left := by
  unfold szN; split <;> omega
theorem z_c_laws_szScanStepS_3 (L : List ScanStep) (nL : Nat) (hbdL : (nL : Int) ≤ 9223372036854775807) (hleL : nL = L.length) (left : Int) (hp0 : 0 ≤ left) (hp1 : left ≤ 1048576) (h1 : ¬ ((left - (nL : Int)) < 0)) : left - (nL : Int) = szN L.length left := by
  unfold szN; split <;> omega
theorem c_laws_szScanStepS (w : World) {AL : Option Addr} {nL cL BL : Nat}  (L : List ScanStep) (hL : SlR w BL encScanStep 2 AL nL cL L) (left : Int) (hp0 : 0 ≤ left) (hp1 : left ≤ 1048576) : Calls Try.prog 31 #[.slice AL nL cL, .int .i64 left] w fun e w' => e = .returned (.int .i64 (szN L.length left)) ∧ Lo w w' := by
  refine calls_W 12 Try.func31 rfl rfl rfl ?_
  have hbdL := hL.bound
  have hleL := hL.len
  have hBbL := hL.bd
  refine W.seq ?_
  refine W.regS (SR.q' (r_as (v := .int .i64 0) rfl) <| SR.nil ?_)
  refine W.seq ?_
  refine W.regS (SR.q' (r_mv (v := .int .i64 _) rfl) <| SR.q' (r_mv (v := .slice _ _ _) rfl) <| SR.q' (r_len und59 rfl) <| SR.q' (r_sub rfl rfl (by omega)) <| SR.q' (r_as (v := .int .i64 _) rfl) <| SR.nil ?_)
  refine W.seq ?_
  refine W.seq ?_
  refine W.regS (SR.q' (r_mv (v := .int .i64 _) rfl) <| SR.q' (r_lt rfl rfl) <| SR.nil ?_)
  refine W.cond_d rfl (fun h1 => ?_) (fun h1 => ?_)
  · refine W.seq ?_
    refine W.regS (SR.q' (r_as (v := .int .i64 (-1)) rfl) <| SR.nil ?_)
    refine W.ret ?_
    refine ret1 rfl (v := .int .i64 _) rfl ?_
    exact ⟨eR (eI (z_c_laws_szScanStepS_2 L nL hbdL hleL left hp0 hp1 h1)), (Lo.refl w)⟩
  · refine W.skip ?_
    refine W.seq ?_
    refine W.regS (SR.q' (r_mv (v := .int .i64 _) rfl) <| SR.q' (r_as (v := .int .i64 _) rfl) <| SR.nil ?_)
    refine W.ret ?_
    refine ret1 rfl (v := .int .i64 _) rfl ?_
    exact ⟨eR (eI (z_c_laws_szScanStepS_3 L nL hbdL hleL left hp0 hp1 h1)), (Lo.refl w)⟩

theorem z_c_laws_toScanStepS_8 (L : List ScanStep) (nL : Nat) (hbdL : (nL : Int) ≤ 9223372036854775807) (hleL : nL = L.length) (hp0 : (nL : Int) ≤ 1048576) : 0 ≤ nL := by
  omega
theorem z_c_laws_toScanStepS_9 (L : List ScanStep) (nL : Nat) (hbdL : (nL : Int) ≤ 9223372036854775807) (hleL : nL = L.length) (hp0 : (nL : Int) ≤ 1048576) : List.replicate nL (⟨0, 0⟩ : ScanStep) = L.take 0 ++ List.replicate (nL - 0) (⟨0, 0⟩ : ScanStep) := by
  exact tk_init
theorem z_c_laws_toScanStepS_33 (L : List ScanStep) (nL : Nat) (hbdL : (nL : Int) ≤ 9223372036854775807) (hleL : nL = L.length) (hp0 : (nL : Int) ≤ 1048576) (k : Nat) (hi16 : k ≤ nL) (h17 : (k : Int) < (nL : Int)) (x18 : ScanStep) (hx19 : L[k]? = some x18) (x24 : ScanStep) (hx25 : (L.take k ++ List.replicate (nL - k) (⟨0, 0⟩ : ScanStep))[k]? = some x24) : (L.take k ++ List.replicate (nL - k) (⟨0, 0⟩ : ScanStep)).set ((k : Int).toNat) x18 = L.take (k + 1) ++ List.replicate (nL - (k + 1)) (⟨0, 0⟩ : ScanStep) := by
  exact tk_set (by assumption) hleL
theorem z_c_laws_toScanStepS_34 (L : List ScanStep) (nL : Nat) (hbdL : (nL : Int) ≤ 9223372036854775807) (hleL : nL = L.length) (hp0 : (nL : Int) ≤ 1048576) (k : Nat) (hi16 : k ≤ nL) (h17 : (k : Int) < (nL : Int)) (x18 : ScanStep) (hx19 : L[k]? = some x18) (x24 : ScanStep) (hx25 : (L.take k ++ List.replicate (nL - k) (⟨0, 0⟩ : ScanStep))[k]? = some x24) : k + 1 ≤ nL := by
  omega
theorem z_c_laws_toScanStepS_35 (L : List ScanStep) (nL : Nat) (hbdL : (nL : Int) ≤ 9223372036854775807) (hleL : nL = L.length) (hp0 : (nL : Int) ≤ 1048576) (k : Nat) (hi16 : k ≤ nL) (h17 : (k : Int) < (nL : Int)) (x18 : ScanStep) (hx19 : L[k]? = some x18) (x24 : ScanStep) (hx25 : (L.take k ++ List.replicate (nL - k) (⟨0, 0⟩ : ScanStep))[k]? = some x24) : nL - (k + 1) < nL - k := by
  omega
theorem z_c_laws_toScanStepS_36 (L : List ScanStep) (nL : Nat) (hbdL : (nL : Int) ≤ 9223372036854775807) (hleL : nL = L.length) (hp0 : (nL : Int) ≤ 1048576) (k : Nat) (hi16 : k ≤ nL) (h17 : ¬ ((k : Int) < (nL : Int))) : L.take k ++ List.replicate (nL - k) (⟨0, 0⟩ : ScanStep) = L := by
  exact tk_end hleL (by assumption) (by omega)
theorem c_laws_toScanStepS (w : World) {AL : Option Addr} {nL cL BL : Nat}  (L : List ScanStep) (hL : SlR w BL encScanStep 2 AL nL cL L) (hp0 : (nL : Int) ≤ 1048576) : Calls Try.prog 33 #[.slice AL nL cL] w fun e w' => ∃ (A1' : Option Addr) (n1' c1' : Nat), e = .returned (.slice A1' n1' c1') ∧ SlO w' w.heap.size encScanStep 2 45 A1' n1' c1' L ∧ Lo w w' := by
  refine calls_W 23 Try.func33 rfl rfl rfl ?_
  have hbdL := hL.bound
  have hleL := hL.len
  have hBbL := hL.bd
  refine W.seq ?_
  refine W.regS (SR.q' (r_as (v := .slice none 0 0) rfl) <| SR.nil ?_)
  refine W.seq ?_
  refine W.regS (SR.q' (r_mv (v := .slice _ _ _) rfl) <| SR.q' (r_len und59 rfl) <| SR.make (m := nL) (zx := (⟨0, 0⟩ : ScanStep)) (enc := encScanStep) tel63 rfl (fun _ => rfl) rfl rfl (by omega) (by omega) ?_)
  intro g1 w2 hg3 hk4 hO5
  have hz6 := hk4.size
  have hB7 := (Lo.refl w).lo hk4
  refine SR.q' (r_as (v := .slice _ _ _) rfl) <| SR.nil ?_
  refine W.seq ?_
  refine W.seq ?_
  refine W.regS (SR.q' (r_as (v := .int .i64 0) rfl) <| SR.nil ?_)
  refine W.block ?_
  refine W.loop (σ := Nat) (fun g => [(0, .slice AL nL cL), (2, .slice none 0 0), (3, .slice (some (⟨g1, 0, none⟩ : Addr)) nL nL), (4, .int .i64 (g : Int))]) (fun g w' => (Lo w w') ∧ (SlR w' BL encScanStep 2 AL nL cL L) ∧ (SlO w' w.heap.size encScanStep 2 45 (some (⟨g1, 0, none⟩ : Addr)) nL nL (L.take g ++ List.replicate (nL - g) (⟨0, 0⟩ : ScanStep))) ∧ (g ≤ nL)) (fun g => nL - g) 0 ?_ ?_ ?_
  · exact ⟨rfl, rfl, rfl, rfl, trivial⟩
  · exact ⟨hB7, (hL).lo hk4, (SlO.eqv (hO5) (z_c_laws_toScanStepS_9 L nL hbdL hleL hp0)), (z_c_laws_toScanStepS_8 L nL hbdL hleL hp0)⟩
  · rintro k f10 w11 hP13
    obtain ⟨hB12, hm14, hm15, hi16⟩ : (Lo w w11) ∧ (SlR w11 BL encScanStep 2 AL nL cL L) ∧ (SlO w11 w.heap.size encScanStep 2 45 (some (⟨g1, 0, none⟩ : Addr)) nL nL (L.take k ++ List.replicate (nL - k) (⟨0, 0⟩ : ScanStep))) ∧ (k ≤ nL) := hP13
    refine (?_ : W _ _ _ _ _ (act _ (sets f10 [(0, .slice AL nL cL), (2, .slice none 0 0), (3, .slice (some (⟨g1, 0, none⟩ : Addr)) nL nL), (4, .int .i64 (k : Int))])) _)
    have hzw11 := hB12.size
    refine W.seq ?_
    refine W.seq ?_
    refine W.regS (SR.q' (r_mv (v := .int .i64 _) rfl) <| SR.q' (r_mv (v := .slice _ _ _) rfl) <| SR.q' (r_len und59 rfl) <| SR.q' (r_lt rfl rfl) <| SR.nil ?_)
    refine W.cond_d rfl (fun h17 => ?_) (fun h17 => ?_)
    · refine W.skip ?_
      refine W.seq ?_
      refine W.block ?_
      refine W.regS (SR.q' (r_mv (v := .slice _ _ _) rfl) <| SR.q' (r_mv (v := .int .i64 _) rfl) <| SR.q' (r_mv (v := .slice _ _ _) rfl) <| SR.q' (r_mv (v := .int .i64 _) rfl) <| ?_)
      obtain ⟨x18, hx19⟩ := (hm14).get (i := k) (by omega)
      refine SR.q' (r_ixR tsl59 (hm14) rfl rfl (by omega)) <| SR.q' (r_lda (l := encScanStep x18) agg39 rfl (fun _ _ hu => (hm14).cell hx19 hu) ((hm14).esz _)) <| SR.call ent20 (c_laws_toScanStep w11 x18) rfl ?_
      rintro e w20 ⟨rfl, hk21⟩
      refine ⟨_, rfl, ?_⟩
      have hz22 := hk21.size
      have hB23 := hB12.lo hk21
      obtain ⟨x24, hx25⟩ := (((hm15).lo hk21).rd).get (i := k) (by omega)
      refine SR.q' (r_ixR tsl63 (((hm15).lo hk21).rd) rfl rfl (by omega)) <| SR.storeO (o := 0) (vs := [.int .i64 x18.Kind, .int .i64 x18.Value]) (x1 := x18) agg45.2 rfl rfl rfl rfl ((hm15).lo hk21) hx25 rfl (Nat.le_of_ble_eq_true rfl) rfl ?_
      intro w26 hk27 hs28 hO29
      have hz30 := hk27.size
      have hB31 := hB23.step hk27 (fun i_ hi_ e' => by have := (((hm15).lo hk21)).base_le e'; first | omega | (exfalso; omega) | exact e' | exact .inl e' | exact .inr e')
      have hx32 : ((L.take k ++ List.replicate (nL - k) (⟨0, 0⟩ : ScanStep)).set ((k : Int).toNat) x18)[(k : Int).toNat]? = some (x18) := List.getElem?_set_self (List.getElem?_eq_some_iff.1 hx25).1
      refine SR.nil ?_
      refine W.regS (SR.q' (r_mv (v := .int .i64 _) rfl) <| SR.q' (r_add rfl rfl (by omega)) <| SR.q' (r_as (v := .int .i64 _) rfl) <| SR.nil ?_)
      refine ⟨k + 1, _, rfl, ⟨rfl, rfl, rfl, rfl, trivial⟩, ⟨hB31, ((hm14).lo hk21).kp hk27 (fun b_ hb e' => by have := (((hm15).lo hk21)).base_le e'; omega), (SlO.eqv (hO29) (z_c_laws_toScanStepS_33 L nL hbdL hleL hp0 k hi16 h17 x18 hx19 x24 hx25)), ?_⟩, ?_⟩
      · exact (z_c_laws_toScanStepS_34 L nL hbdL hleL hp0 k hi16 h17 x18 hx19 x24 hx25)
      · exact (z_c_laws_toScanStepS_35 L nL hbdL hleL hp0 k hi16 h17 x18 hx19 x24 hx25)
    · refine W.exit (xin_here ?_)
      refine W.seq ?_
      refine W.regS (SR.q' (r_mv (v := .slice _ _ _) rfl) <| SR.q' (r_as (v := .slice _ _ _) rfl) <| SR.nil ?_)
      refine W.ret ?_
      refine ret1 rfl (v := .slice _ _ _) rfl ?_
      exact ⟨(some (⟨g1, 0, none⟩ : Addr)), nL, nL, eR rfl, (SlO.eqv ((hm15).down (by omega)) (z_c_laws_toScanStepS_36 L nL hbdL hleL hp0 k hi16 h17)), hB12⟩

theorem z_c_laws_eqScanStep_18 (a : ScanStep) (b : ScanStep) (h17 : ¬ (a.Kind = b.Kind)) : ¬ (a = b) := by
  cases a; cases b; simp_all
theorem z_c_laws_eqScanStep_20 (a : ScanStep) (b : ScanStep) (h17 : a.Kind = b.Kind) (h19 : ¬ (a.Value = b.Value)) : ¬ (a = b) := by
  cases a; cases b; simp_all
theorem z_c_laws_eqScanStep_21 (a : ScanStep) (b : ScanStep) (h17 : a.Kind = b.Kind) (h19 : a.Value = b.Value) : a = b := by
  cases a; cases b; simp_all
theorem c_laws_eqScanStep (w : World) (a : ScanStep) (b : ScanStep) : Calls Try.prog 75 #[.agg (List.toArray (encScanStep a)), .agg (List.toArray (encScanStep b))] w fun e w' => e = .returned (.bool (decide (a = b))) ∧ Lo w w' := by
  refine calls_W 15 Try.func75 rfl rfl rfl ?_
  refine W.seq ?_
  refine W.regS (SR.box (v := .agg (List.toArray _)) (l := [.int .i64 a.Kind, .int .i64 a.Value]) rfl rfl ?_)
  intro g1 w2 hg3 hk4 hs5 hb6
  have hz7 := hk4.size
  have hB8 := (Lo.refl w).lo hk4
  refine SR.box (v := .agg (List.toArray _)) (l := [.int .i64 b.Kind, .int .i64 b.Value]) rfl rfl ?_
  intro g9 w10 hg11 hk12 hs13 hb14
  have hz15 := hk12.size
  have hB16 := hB8.lo hk12
  refine SR.q' (r_as (v := .bool false) rfl) <| SR.nil ?_
  refine W.seq ?_
  refine W.seq ?_
  refine W.regS (SR.q' (r_fa fa45_0 rfl) <| SR.q' (r_ld (v := .int .i64 a.Kind) sca3 rfl (((hb6).lo hk12).cell rfl)) <| SR.q' (r_fa fa45_0 rfl) <| SR.q' (r_ld (v := .int .i64 b.Kind) sca3 rfl ((hb14).cell rfl)) <| SR.q' (r_ne rfl rfl) <| SR.nil ?_)
  refine W.cond_n rfl (fun h17 => ?_) (fun h17 => ?_)
  · refine W.seq ?_
    refine W.regS (SR.q' (r_as (v := .bool false) rfl) <| SR.nil ?_)
    refine W.ret ?_
    refine ret1 rfl (v := .bool _) rfl ?_
    exact ⟨eR (eDF (z_c_laws_eqScanStep_18 a b h17)), hB16⟩
  · refine W.skip ?_
    refine W.seq ?_
    refine W.seq ?_
    refine W.regS (SR.q' (r_fa fa45_1 rfl) <| SR.q' (r_ld (v := .int .i64 a.Value) sca3 rfl (((hb6).lo hk12).cell rfl)) <| SR.q' (r_fa fa45_1 rfl) <| SR.q' (r_ld (v := .int .i64 b.Value) sca3 rfl ((hb14).cell rfl)) <| SR.q' (r_ne rfl rfl) <| SR.nil ?_)
    refine W.cond_n rfl (fun h19 => ?_) (fun h19 => ?_)
    · refine W.seq ?_
      refine W.regS (SR.q' (r_as (v := .bool false) rfl) <| SR.nil ?_)
      refine W.ret ?_
      refine ret1 rfl (v := .bool _) rfl ?_
      exact ⟨eR (eDF (z_c_laws_eqScanStep_20 a b h17 h19)), hB16⟩
    · refine W.skip ?_
      refine W.seq ?_
      refine W.regS (SR.q' (r_as (v := .bool true) rfl) <| SR.nil ?_)
      refine W.ret ?_
      refine ret1 rfl (v := .bool _) rfl ?_
      exact ⟨eR (eDT (z_c_laws_eqScanStep_21 a b h17 h19)), hB16⟩

theorem z_c_laws_eqScanStepS_2 (L : List ScanStep) (nL : Nat) (hbdL : (nL : Int) ≤ 9223372036854775807) (hleL : nL = L.length) (M : List ScanStep) (nM : Nat) (hbdM : (nM : Int) ≤ 9223372036854775807) (hleM : nM = M.length) (h1 : ¬ ((nL : Int) = (nM : Int))) : ¬ (L = M) := by
  first | (intro e; subst e; omega) | exact ne_at ‹L[_]? = some _› ‹M[_]? = some _› ‹_› | exact take_end (And.right ‹_ ∧ L.take _ = M.take _›) hleL hleM (by omega) ‹_›
theorem z_c_laws_eqScanStepS_3 (L : List ScanStep) (nL : Nat) (hbdL : (nL : Int) ≤ 9223372036854775807) (hleL : nL = L.length) (M : List ScanStep) (nM : Nat) (hbdM : (nM : Int) ≤ 9223372036854775807) (hleM : nM = M.length) (h1 : (nL : Int) = (nM : Int)) : 0 ≤ nL ∧ L.take 0 = M.take 0 := by
  simp
theorem z_c_laws_eqScanStepS_21 (L : List ScanStep) (nL : Nat) (hbdL : (nL : Int) ≤ 9223372036854775807) (hleL : nL = L.length) (M : List ScanStep) (nM : Nat) (hbdM : (nM : Int) ≤ 9223372036854775807) (hleM : nM = M.length) (h1 : (nL : Int) = (nM : Int)) (k : Nat) (hi10 : k ≤ nL ∧ L.take k = M.take k) (h11 : (k : Int) < (nL : Int)) (x12 : ScanStep) (hx13 : L[k]? = some x12) (x14 : ScanStep) (hx15 : M[k]? = some x14) (h20 : ¬ (x12 = x14)) : ¬ (L = M) := by
  first | (intro e; subst e; omega) | exact ne_at ‹L[_]? = some _› ‹M[_]? = some _› ‹_› | exact take_end (And.right ‹_ ∧ L.take _ = M.take _›) hleL hleM (by omega) ‹_›
theorem z_c_laws_eqScanStepS_22 (L : List ScanStep) (nL : Nat) (hbdL : (nL : Int) ≤ 9223372036854775807) (hleL : nL = L.length) (M : List ScanStep) (nM : Nat) (hbdM : (nM : Int) ≤ 9223372036854775807) (hleM : nM = M.length) (h1 : (nL : Int) = (nM : Int)) (k : Nat) (hi10 : k ≤ nL ∧ L.take k = M.take k) (h11 : (k : Int) < (nL : Int)) (x12 : ScanStep) (hx13 : L[k]? = some x12) (x14 : ScanStep) (hx15 : M[k]? = some x14) (h20 : x12 = x14) : k + 1 ≤ nL ∧ L.take (k + 1) = M.take (k + 1) := by
  exact ⟨by omega, take_next (And.right ‹_ ∧ L.take _ = M.take _›) ‹L[_]? = some _› ‹M[_]? = some _› ‹_›⟩
theorem z_c_laws_eqScanStepS_23 (L : List ScanStep) (nL : Nat) (hbdL : (nL : Int) ≤ 9223372036854775807) (hleL : nL = L.length) (M : List ScanStep) (nM : Nat) (hbdM : (nM : Int) ≤ 9223372036854775807) (hleM : nM = M.length) (h1 : (nL : Int) = (nM : Int)) (k : Nat) (hi10 : k ≤ nL ∧ L.take k = M.take k) (h11 : (k : Int) < (nL : Int)) (x12 : ScanStep) (hx13 : L[k]? = some x12) (x14 : ScanStep) (hx15 : M[k]? = some x14) (h20 : x12 = x14) : nL - (k + 1) < nL - k := by
  omega
theorem z_c_laws_eqScanStepS_24 (L : List ScanStep) (nL : Nat) (hbdL : (nL : Int) ≤ 9223372036854775807) (hleL : nL = L.length) (M : List ScanStep) (nM : Nat) (hbdM : (nM : Int) ≤ 9223372036854775807) (hleM : nM = M.length) (h1 : (nL : Int) = (nM : Int)) (k : Nat) (hi10 : k ≤ nL ∧ L.take k = M.take k) (h11 : ¬ ((k : Int) < (nL : Int))) : L = M := by
  first | (intro e; subst e; omega) | exact ne_at ‹L[_]? = some _› ‹M[_]? = some _› ‹_› | exact take_end (And.right ‹_ ∧ L.take _ = M.take _›) hleL hleM (by omega) ‹_›
theorem c_laws_eqScanStepS (w : World) {AL : Option Addr} {nL cL BL : Nat}  (L : List ScanStep) (hL : SlR w BL encScanStep 2 AL nL cL L) {AM : Option Addr} {nM cM BM : Nat}  (M : List ScanStep) (hM : SlR w BM encScanStep 2 AM nM cM M) : Calls Try.prog 35 #[.slice AL nL cL, .slice AM nM cM] w fun e w' => e = .returned (.bool (decide (L = M))) ∧ Lo w w' := by
  refine calls_W 27 Try.func35 rfl rfl rfl ?_
  have hbdL := hL.bound
  have hleL := hL.len
  have hBbL := hL.bd
  have hbdM := hM.bound
  have hleM := hM.len
  have hBbM := hM.bd
  refine W.seq ?_
  refine W.regS (SR.q' (r_as (v := .bool false) rfl) <| SR.nil ?_)
  refine W.seq ?_
  refine W.seq ?_
  refine W.regS (SR.q' (r_mv (v := .slice _ _ _) rfl) <| SR.q' (r_len und63 rfl) <| SR.q' (r_mv (v := .slice _ _ _) rfl) <| SR.q' (r_len und63 rfl) <| SR.q' (r_ne rfl rfl) <| SR.nil ?_)
  refine W.cond_n rfl (fun h1 => ?_) (fun h1 => ?_)
  · refine W.seq ?_
    refine W.regS (SR.q' (r_as (v := .bool false) rfl) <| SR.nil ?_)
    refine W.ret ?_
    refine ret1 rfl (v := .bool _) rfl ?_
    exact ⟨eR (eDF (z_c_laws_eqScanStepS_2 L nL hbdL hleL M nM hbdM hleM h1)), (Lo.refl w)⟩
  · refine W.skip ?_
    refine W.seq ?_
    refine W.seq ?_
    refine W.regS (SR.q' (r_as (v := .int .i64 0) rfl) <| SR.nil ?_)
    refine W.block ?_
    refine W.loop (σ := Nat) (fun g => [(0, .slice AL nL cL), (1, .slice AM nM cM), (5, .int .i64 (g : Int))]) (fun g w' => (Lo w w') ∧ (SlR w' BL encScanStep 2 AL nL cL L) ∧ (SlR w' BM encScanStep 2 AM nM cM M) ∧ (g ≤ nL ∧ L.take g = M.take g)) (fun g => nL - g) 0 ?_ ?_ ?_
    · exact ⟨rfl, rfl, rfl, trivial⟩
    · exact ⟨(Lo.refl w), hL, hM, (z_c_laws_eqScanStepS_3 L nL hbdL hleL M nM hbdM hleM h1)⟩
    · rintro k f4 w5 hP7
      obtain ⟨hB6, hm8, hm9, hi10⟩ : (Lo w w5) ∧ (SlR w5 BL encScanStep 2 AL nL cL L) ∧ (SlR w5 BM encScanStep 2 AM nM cM M) ∧ (k ≤ nL ∧ L.take k = M.take k) := hP7
      refine (?_ : W _ _ _ _ _ (act _ (sets f4 [(0, .slice AL nL cL), (1, .slice AM nM cM), (5, .int .i64 (k : Int))])) _)
      have hzw5 := hB6.size
      refine W.seq ?_
      refine W.seq ?_
      refine W.regS (SR.q' (r_mv (v := .int .i64 _) rfl) <| SR.q' (r_mv (v := .slice _ _ _) rfl) <| SR.q' (r_len und63 rfl) <| SR.q' (r_lt rfl rfl) <| SR.nil ?_)
      refine W.cond_d rfl (fun h11 => ?_) (fun h11 => ?_)
      · refine W.skip ?_
        refine W.seq ?_
        refine W.block ?_
        refine W.seq ?_
        refine W.regD mo (by kernel_rfl) (QR.q' (fun w' hw' => r_mv (v := .slice _ _ _) rfl) <| QR.q' (fun w' hw' => r_mv (v := .int .i64 _) rfl) <| ?_)
        obtain ⟨x12, hx13⟩ := (hm8).get (i := k) (by omega)
        refine QR.q' (fun w' hw' => r_ixR tsl63 (((hm8).lo hw')) rfl rfl (by omega)) <| QR.q' (fun w' hw' => r_lda (l := encScanStep x12) agg45 rfl (fun _ _ hu => (((hm8).lo hw')).cell hx13 hu) ((((hm8).lo hw')).esz _)) <| QR.q' (fun w' hw' => r_mv (v := .slice _ _ _) rfl) <| QR.q' (fun w' hw' => r_mv (v := .int .i64 _) rfl) <| ?_
        obtain ⟨x14, hx15⟩ := (hm9).get (i := k) (by omega)
        refine QR.q' (fun w' hw' => r_ixR tsl63 (((hm9).lo hw')) rfl rfl (by omega)) <| QR.q' (fun w' hw' => r_lda (l := encScanStep x14) agg45 rfl (fun _ _ hu => (((hm9).lo hw')).cell hx15 hu) ((((hm9).lo hw')).esz _)) <| QR.call ent75 (fun w' hw' => (c_laws_eqScanStep w' x12 x14).mono fun _ _ h => ⟨h.1, hw'.trans h.2⟩) rfl <| QR.q' (fun w' hw' => r_not rfl) <| QR.nil ?_
        intro w16 hk17
        have hz18 := hk17.size
        have hB19 := hB6.lo hk17
        refine W.cond_n rfl (fun h20 => ?_) (fun h20 => ?_)
        · refine W.seq ?_
          refine W.regS (SR.q' (r_as (v := .bool false) rfl) <| SR.nil ?_)
          refine W.ret ?_
          refine ret1 rfl (v := .bool _) rfl ?_
          exact ⟨eR (eDF (z_c_laws_eqScanStepS_21 L nL hbdL hleL M nM hbdM hleM h1 k hi10 h11 x12 hx13 x14 hx15 h20)), hB19⟩
        · refine W.skip ?_
          refine W.regS (SR.q' (r_mv (v := .int .i64 _) rfl) <| SR.q' (r_add rfl rfl (by omega)) <| SR.q' (r_as (v := .int .i64 _) rfl) <| SR.nil ?_)
          refine ⟨k + 1, _, rfl, ⟨rfl, rfl, rfl, trivial⟩, ⟨hB19, (hm8).lo hk17, (hm9).lo hk17, ?_⟩, ?_⟩
          · exact (z_c_laws_eqScanStepS_22 L nL hbdL hleL M nM hbdM hleM h1 k hi10 h11 x12 hx13 x14 hx15 h20)
          · exact (z_c_laws_eqScanStepS_23 L nL hbdL hleL M nM hbdM hleM h1 k hi10 h11 x12 hx13 x14 hx15 h20)
      · refine W.exit (xin_here ?_)
        refine W.seq ?_
        refine W.regS (SR.q' (r_as (v := .bool true) rfl) <| SR.nil ?_)
        refine W.ret ?_
        refine ret1 rfl (v := .bool _) rfl ?_
        exact ⟨eR (eDT (z_c_laws_eqScanStepS_24 L nL hbdL hleL M nM hbdM hleM h1 k hi10 h11)), hB6⟩

theorem z_c_laws_markScanStepS_1 (L : List ScanStep) (nL : Nat) (hbdL : (nL : Int) ≤ 9223372036854775807) (hleL : nL = L.length) (k : Int) (hp0 : 0 ≤ k) (hp1 : k ≤ 1000000000) (hp2 : (nL : Int) ≤ 1048576) : 0 ≤ nL := by
  omega
theorem z_c_laws_markScanStepS_2 (L : List ScanStep) (nL : Nat) (hbdL : (nL : Int) ≤ 9223372036854775807) (hleL : nL = L.length) (k : Int) (hp0 : 0 ≤ k) (hp1 : k ≤ 1000000000) (hp2 : (nL : Int) ≤ 1048576) : L = mkL mkScanStep 2 0 k ++ L.drop 0 := by
  exact mkL_init
theorem z_c_laws_markScanStepS_26 (L : List ScanStep) (nL : Nat) (hbdL : (nL : Int) ≤ 9223372036854775807) (hleL : nL = L.length) (k : Int) (hp0 : 0 ≤ k) (hp1 : k ≤ 1000000000) (hp2 : (nL : Int) ≤ 1048576) (i : Nat) (hi8 : i ≤ nL) (h9 : (i : Int) < (nL : Int)) (x10 : ScanStep) (hx11 : (mkL mkScanStep 2 i k ++ L.drop i)[i]? = some x10) : (mkL mkScanStep 2 i k ++ L.drop i).set ((i : Int).toNat) ({ ({ x10 with Kind := k + 2 * (i : Int) }) with Value := (k + 2 * (i : Int)) + 1 }) = mkL mkScanStep 2 (i + 1) k ++ L.drop (i + 1) := by
  exact mkL_set (by omega) (by first | (simp [mkScanStep]; done) | (simp [mkScanStep]; omega))
theorem z_c_laws_markScanStepS_27 (L : List ScanStep) (nL : Nat) (hbdL : (nL : Int) ≤ 9223372036854775807) (hleL : nL = L.length) (k : Int) (hp0 : 0 ≤ k) (hp1 : k ≤ 1000000000) (hp2 : (nL : Int) ≤ 1048576) (i : Nat) (hi8 : i ≤ nL) (h9 : (i : Int) < (nL : Int)) (x10 : ScanStep) (hx11 : (mkL mkScanStep 2 i k ++ L.drop i)[i]? = some x10) : i + 1 ≤ nL := by
  omega
theorem z_c_laws_markScanStepS_28 (L : List ScanStep) (nL : Nat) (hbdL : (nL : Int) ≤ 9223372036854775807) (hleL : nL = L.length) (k : Int) (hp0 : 0 ≤ k) (hp1 : k ≤ 1000000000) (hp2 : (nL : Int) ≤ 1048576) (i : Nat) (hi8 : i ≤ nL) (h9 : (i : Int) < (nL : Int)) (x10 : ScanStep) (hx11 : (mkL mkScanStep 2 i k ++ L.drop i)[i]? = some x10) : nL - (i + 1) < nL - i := by
  omega
theorem z_c_laws_markScanStepS_29 (L : List ScanStep) (nL : Nat) (hbdL : (nL : Int) ≤ 9223372036854775807) (hleL : nL = L.length) (k : Int) (hp0 : 0 ≤ k) (hp1 : k ≤ 1000000000) (hp2 : (nL : Int) ≤ 1048576) (i : Nat) (hi8 : i ≤ nL) (h9 : ¬ ((i : Int) < (nL : Int))) : k + 2 * (i : Int) = k + 2 * (L.length : Int) := by
  first | omega | exact mkL_end hleL (by assumption) (by omega)
theorem z_c_laws_markScanStepS_30 (L : List ScanStep) (nL : Nat) (hbdL : (nL : Int) ≤ 9223372036854775807) (hleL : nL = L.length) (k : Int) (hp0 : 0 ≤ k) (hp1 : k ≤ 1000000000) (hp2 : (nL : Int) ≤ 1048576) (i : Nat) (hi8 : i ≤ nL) (h9 : ¬ ((i : Int) < (nL : Int))) : mkL mkScanStep 2 i k ++ L.drop i = mkL mkScanStep 2 L.length k := by
  first | omega | exact mkL_end hleL (by assumption) (by omega)
theorem c_laws_markScanStepS (w : World) {AL : Option Addr} {nL cL BL : Nat}  (L : List ScanStep) (hL : SlO w BL encScanStep 2 45 AL nL cL L) (k : Int) (hp0 : 0 ≤ k) (hp1 : k ≤ 1000000000) (hp2 : (nL : Int) ≤ 1048576) : Calls Try.prog 36 #[.slice AL nL cL, .int .i64 k] w fun e w' => e = .returned (.int .i64 (k + 2 * (L.length : Int))) ∧ SlO w' BL encScanStep 2 45 AL nL cL (mkL mkScanStep 2 L.length k) ∧ Kp (fun b_ => AL = some ⟨b_, 0, none⟩) w w' := by
  refine calls_W 27 Try.func36 rfl rfl rfl ?_
  have hbdL := hL.rd.bound
  have hleL := hL.len
  have hBbL := hL.bd
  refine W.seq ?_
  refine W.regS (SR.q' (r_as (v := .int .i64 0) rfl) <| SR.nil ?_)
  refine W.seq ?_
  refine W.seq ?_
  refine W.regS (SR.q' (r_as (v := .int .i64 0) rfl) <| SR.nil ?_)
  refine W.block ?_
  refine W.loop (σ := Nat) (fun g => [(0, .slice AL nL cL), (1, .int .i64 (k + 2 * (g : Int))), (4, .int .i64 0), (5, .int .i64 (g : Int))]) (fun g w' => (Kp (fun b_ => AL = some ⟨b_, 0, none⟩) w w') ∧ (SlO w' BL encScanStep 2 45 AL nL cL (mkL mkScanStep 2 g k ++ L.drop g)) ∧ (g ≤ nL)) (fun g => nL - g) 0 ?_ ?_ ?_
  · exact ⟨rfl, (eI (by first | omega | (dsimp only; omega))), rfl, (eI (by first | omega | (dsimp only; omega))), trivial⟩
  · exact ⟨(Kp.refl w : Kp (fun b_ => AL = some ⟨b_, 0, none⟩) w w), (SlO.eqv (hL) (z_c_laws_markScanStepS_2 L nL hbdL hleL k hp0 hp1 hp2)), (z_c_laws_markScanStepS_1 L nL hbdL hleL k hp0 hp1 hp2)⟩
  · rintro i f3 w4 hP6
    obtain ⟨hB5, hm7, hi8⟩ : (Kp (fun b_ => AL = some ⟨b_, 0, none⟩) w w4) ∧ (SlO w4 BL encScanStep 2 45 AL nL cL (mkL mkScanStep 2 i k ++ L.drop i)) ∧ (i ≤ nL) := hP6
    refine (?_ : W _ _ _ _ _ (act _ (sets f3 [(0, .slice AL nL cL), (1, .int .i64 (k + 2 * (i : Int))), (4, .int .i64 0), (5, .int .i64 (i : Int))])) _)
    have hzw4 := hB5.size
    refine W.seq ?_
    refine W.seq ?_
    refine W.regS (SR.q' (r_mv (v := .int .i64 _) rfl) <| SR.q' (r_mv (v := .slice _ _ _) rfl) <| SR.q' (r_len und63 rfl) <| SR.q' (r_lt rfl rfl) <| SR.nil ?_)
    refine W.cond_d rfl (fun h9 => ?_) (fun h9 => ?_)
    · refine W.skip ?_
      refine W.seq ?_
      refine W.block ?_
      refine W.seq ?_
      refine W.regS (SR.q' (r_mv (v := .slice _ _ _) rfl) <| SR.q' (r_mv (v := .int .i64 _) rfl) <| SR.q' (r_mv (v := .int .i64 _) rfl) <| ?_)
      obtain ⟨x10, hx11⟩ := ((hm7).rd).get (i := i) (by omega)
      refine SR.q' (r_ixR tsl63 ((hm7).rd) rfl rfl (by omega)) <| SR.q' (r_fa fa45_0 rfl) <| SR.storeO (o := 0) (vs := [.int .i64 (k + 2 * (i : Int))]) (x1 := { x10 with Kind := k + 2 * (i : Int) }) sca3.2 rfl (add_add _ _ _) rfl rfl (hm7) hx11 rfl (Nat.le_of_ble_eq_true rfl) rfl ?_
      intro w12 hk13 hs14 hO15
      have hz16 := hk13.size
      have hB17 := hB5.step hk13 (fun i_ hi_ e' => by have := ((hm7)).base_le e'; first | omega | (exfalso; omega) | exact e' | exact .inl e' | exact .inr e')
      have hx18 : ((mkL mkScanStep 2 i k ++ L.drop i).set ((i : Int).toNat) ({ x10 with Kind := k + 2 * (i : Int) }))[(i : Int).toNat]? = some ({ x10 with Kind := k + 2 * (i : Int) }) := List.getElem?_set_self (List.getElem?_eq_some_iff.1 hx11).1
      refine SR.nil ?_
      refine W.seq ?_
      refine W.regS (SR.q' (r_mv (v := .int .i64 _) rfl) <| SR.q' (r_add rfl rfl (by omega)) <| SR.q' (r_as (v := .int .i64 _) rfl) <| SR.nil ?_)
      refine W.seq ?_
      refine W.regS (SR.q' (r_mv (v := .slice _ _ _) rfl) <| SR.q' (r_mv (v := .int .i64 _) rfl) <| SR.q' (r_mv (v := .int .i64 _) rfl) <| SR.q' (r_ixR tsl63 ((hO15).rd) rfl rfl (by omega)) <| SR.q' (r_fa fa45_1 rfl) <| SR.storeO (o := 1) (vs := [.int .i64 ((k + 2 * (i : Int)) + 1)]) (x1 := { ({ x10 with Kind := k + 2 * (i : Int) }) with Value := (k + 2 * (i : Int)) + 1 }) sca3.2 rfl (add_add _ _ _) rfl rfl (hO15) hx18 rfl (Nat.le_of_ble_eq_true rfl) rfl ?_)
      intro w19 hk20 hs21 hO22
      have hz23 := hk20.size
      have hB24 := hB17.step hk20 (fun i_ hi_ e' => by have := ((hO15)).base_le e'; first | omega | (exfalso; omega) | exact e' | exact .inl e' | exact .inr e')
      rw [List.set_set] at hO22
      have hx25 : ((mkL mkScanStep 2 i k ++ L.drop i).set ((i : Int).toNat) ({ ({ x10 with Kind := k + 2 * (i : Int) }) with Value := (k + 2 * (i : Int)) + 1 }))[(i : Int).toNat]? = some ({ ({ x10 with Kind := k + 2 * (i : Int) }) with Value := (k + 2 * (i : Int)) + 1 }) := List.getElem?_set_self (List.getElem?_eq_some_iff.1 hx11).1
      refine SR.nil ?_
      refine W.regS (SR.q' (r_mv (v := .int .i64 _) rfl) <| SR.q' (r_add rfl rfl (by omega)) <| SR.q' (r_as (v := .int .i64 _) rfl) <| SR.nil ?_)
      refine W.regS (SR.q' (r_mv (v := .int .i64 _) rfl) <| SR.q' (r_add rfl rfl (by omega)) <| SR.q' (r_as (v := .int .i64 _) rfl) <| SR.nil ?_)
      refine ⟨i + 1, _, rfl, ⟨rfl, (eI (by first | omega | (dsimp only; omega))), rfl, (eI (by first | omega | (dsimp only; omega))), trivial⟩, ⟨hB24, (SlO.eqv (hO22) (z_c_laws_markScanStepS_26 L nL hbdL hleL k hp0 hp1 hp2 i hi8 h9 x10 hx11)), ?_⟩, ?_⟩
      · exact (z_c_laws_markScanStepS_27 L nL hbdL hleL k hp0 hp1 hp2 i hi8 h9 x10 hx11)
      · exact (z_c_laws_markScanStepS_28 L nL hbdL hleL k hp0 hp1 hp2 i hi8 h9 x10 hx11)
    · refine W.exit (xin_here ?_)
      refine W.seq ?_
      refine W.regS (SR.q' (r_mv (v := .int .i64 _) rfl) <| SR.q' (r_as (v := .int .i64 _) rfl) <| SR.nil ?_)
      refine W.ret ?_
      refine ret1 rfl (v := .int .i64 _) rfl ?_
      exact ⟨eR (eI (z_c_laws_markScanStepS_29 L nL hbdL hleL k hp0 hp1 hp2 i hi8 h9)), (SlO.eqv (hm7) (z_c_laws_markScanStepS_30 L nL hbdL hleL k hp0 hp1 hp2 i hi8 h9)), hB5⟩

theorem z_c_impl_taken_1_1 (x : Int) : (!decide (x = 0)) = (!decide (x = 0)) := by
  rfl
theorem c_impl_taken_1 (w : World) (x : Int) : Calls Try.prog 108 #[.int .i64 x] w fun e w' => e = .returned (.bool (!decide (x = 0))) ∧ Lo w w' := by
  refine calls_W 5 Try.func108 rfl rfl rfl ?_
  refine W.seq ?_
  refine W.regS (SR.q' (r_as (v := .bool false) rfl) <| SR.nil ?_)
  refine W.seq ?_
  refine W.regS (SR.q' (r_mv (v := .int .i64 _) rfl) <| SR.q' (r_ne rfl rfl) <| SR.q' (r_as (v := .bool _) rfl) <| SR.nil ?_)
  refine W.ret ?_
  refine ret1 rfl (v := .bool _) rfl ?_
  exact ⟨eR (eB (z_c_impl_taken_1_1 x)), (Lo.refl w)⟩

theorem z_c_impl_IsScanJob_1_5 (x : Int) : (!decide (0 ≤ x ∧ x ≤ 100)) = (!decide (0 ≤ x ∧ x ≤ 100)) := by
  rfl
theorem c_impl_IsScanJob_1 (w : World) (x : Int) : Calls Try.prog 83 #[.int .i64 x] w fun e w' => e = .returned (.bool (!decide (0 ≤ x ∧ x ≤ 100))) ∧ Lo w w' := by
  refine calls_W 6 Try.func83 rfl rfl rfl ?_
  refine W.seq ?_
  refine W.regS (SR.q' (r_as (v := .bool false) rfl) <| SR.nil ?_)
  refine W.seq ?_
  refine W.regS (SR.q' (r_mv (v := .int .i64 _) rfl) <| SR.call ent80 (c_impl_within w x 0 100) rfl ?_)
  rintro e w1 ⟨rfl, hk2⟩
  refine ⟨_, rfl, ?_⟩
  have hz3 := hk2.size
  have hB4 := (Lo.refl w).lo hk2
  refine SR.q' (r_not rfl) <| SR.q' (r_as (v := .bool _) rfl) <| SR.nil ?_
  refine W.ret ?_
  refine ret1 rfl (v := .bool _) rfl ?_
  exact ⟨eR (eB (z_c_impl_IsScanJob_1_5 x)), hB4⟩

theorem z_c_impl_sum_1 (L : List Int) (nL : Nat) (hbdL : (nL : Int) ≤ 9223372036854775807) (hleL : nL = L.length) : 0 ≤ nL := by
  omega
theorem z_c_impl_sum_11 (L : List Int) (nL : Nat) (hbdL : (nL : Int) ≤ 9223372036854775807) (hleL : nL = L.length) (k : Nat) (hi7 : k ≤ nL) (h8 : (k : Int) < (nL : Int)) (hx10 : L[k]? = some (gt L k)) : k + 1 ≤ nL := by
  omega
theorem z_c_impl_sum_12 (L : List Int) (nL : Nat) (hbdL : (nL : Int) ≤ 9223372036854775807) (hleL : nL = L.length) (k : Nat) (hi7 : k ≤ nL) (h8 : (k : Int) < (nL : Int)) (hx10 : L[k]? = some (gt L k)) : nL - (k + 1) < nL - k := by
  omega
theorem z_c_impl_sum_13 (L : List Int) (nL : Nat) (hbdL : (nL : Int) ≤ 9223372036854775807) (hleL : nL = L.length) (k : Nat) (hi7 : k ≤ nL) (h8 : ¬ ((k : Int) < (nL : Int))) : wsum (L.take k) = wsum L := by
  subst hleL
  rw [List.take_of_length_le (by omega)]
theorem c_impl_sum (w : World) {AL : Option Addr} {nL cL BL : Nat}  (L : List Int) (hL : SlR w BL encI 1 AL nL cL L) : Calls Try.prog 81 #[.slice AL nL cL] w fun e w' => e = .returned (.int .i64 (wsum L)) ∧ Lo w w' := by
  refine calls_W 17 Try.func81 rfl rfl rfl ?_
  have hbdL := hL.bound
  have hleL := hL.len
  have hBbL := hL.bd
  refine W.seq ?_
  refine W.regS (SR.q' (r_as (v := .int .i64 0) rfl) <| SR.nil ?_)
  refine W.seq ?_
  refine W.regS (SR.q' (r_as (v := .int .i64 0) rfl) <| SR.nil ?_)
  refine W.seq ?_
  refine W.seq ?_
  refine W.regS (SR.q' (r_mv (v := .slice _ _ _) rfl) <| SR.q' (r_len und22 rfl) <| SR.q' (r_mv (v := .int .i64 0) rfl) <| SR.nil ?_)
  refine W.block ?_
  refine W.loop (σ := Nat) (fun g => [(2, .int .i64 0), (3, .int .i64 (wsum (L.take g))), (6, .slice AL nL cL), (7, .int .i64 (nL : Int)), (8, .int .i64 (g : Int))]) (fun g w' => (Lo w w') ∧ (SlR w' BL encI 1 AL nL cL L) ∧ (g ≤ nL)) (fun g => nL - g) 0 ?_ ?_ ?_
  · exact ⟨rfl, (eI (by first | (first | omega | rfl | (subst hleL; rw [wsum_snoc (by omega)])) | (dsimp only; (first | omega | rfl | (subst hleL; rw [wsum_snoc (by omega)]))))), rfl, rfl, (eI (by first | (first | omega | rfl | (subst hleL; rw [wsum_snoc (by omega)])) | (dsimp only; (first | omega | rfl | (subst hleL; rw [wsum_snoc (by omega)]))))), trivial⟩
  · exact ⟨(Lo.refl w), hL, (z_c_impl_sum_1 L nL hbdL hleL)⟩
  · rintro k f2 w3 hP5
    obtain ⟨hB4, hm6, hi7⟩ : (Lo w w3) ∧ (SlR w3 BL encI 1 AL nL cL L) ∧ (k ≤ nL) := hP5
    refine (?_ : W _ _ _ _ _ (act _ (sets f2 [(2, .int .i64 0), (3, .int .i64 (wsum (L.take k))), (6, .slice AL nL cL), (7, .int .i64 (nL : Int)), (8, .int .i64 (k : Int))])) _)
    have hzw3 := hB4.size
    refine W.seq ?_
    refine W.regS (SR.q' (r_lt rfl rfl) <| SR.nil ?_)
    refine W.seq ?_
    refine W.cond_d rfl (fun h8 => ?_) (fun h8 => ?_)
    · refine W.skip ?_
      refine W.seq ?_
      refine W.block ?_
      refine W.seq ?_
      have hx10 := (hm6).elem (i := k) (by omega)
      refine W.regS (SR.q' (r_ixR tsl22 (hm6) rfl rfl (by omega)) <| SR.q' (r_ld (v := .int .i64 (gt L k)) sca3 rfl ((hm6).cell0 hx10 rfl)) <| SR.q' (r_as (v := .int .i64 _) rfl) <| SR.nil ?_)
      refine W.regS (SR.q' (r_mv (v := .int .i64 _) rfl) <| SR.q' (r_mv (v := .int .i64 _) rfl) <| SR.q' (r_addW rfl rfl) <| SR.q' (r_as (v := .int .i64 _) rfl) <| SR.nil ?_)
      refine W.regS (SR.q' (r_add rfl rfl (by omega)) <| SR.q' (r_mv (v := .int .i64 _) rfl) <| SR.nil ?_)
      refine ⟨k + 1, _, rfl, ⟨rfl, (eI (by first | (first | omega | rfl | (subst hleL; rw [wsum_snoc (by omega)])) | (dsimp only; (first | omega | rfl | (subst hleL; rw [wsum_snoc (by omega)]))))), rfl, rfl, (eI (by first | (first | omega | rfl | (subst hleL; rw [wsum_snoc (by omega)])) | (dsimp only; (first | omega | rfl | (subst hleL; rw [wsum_snoc (by omega)]))))), trivial⟩, ⟨hB4, hm6, ?_⟩, ?_⟩
      · exact (z_c_impl_sum_11 L nL hbdL hleL k hi7 h8 hx10)
      · exact (z_c_impl_sum_12 L nL hbdL hleL k hi7 h8 hx10)
    · refine W.exit (xin_here ?_)
      refine W.seq ?_
      refine W.regS (SR.q' (r_mv (v := .int .i64 _) rfl) <| SR.q' (r_as (v := .int .i64 _) rfl) <| SR.nil ?_)
      refine W.ret ?_
      refine ret1 rfl (v := .int .i64 _) rfl ?_
      exact ⟨eR (eI (z_c_impl_sum_13 L nL hbdL hleL k hi7 h8)), hB4⟩

theorem z_c_impl_taken_7 (L : List Int) (nL : Nat) (hbdL : (nL : Int) ≤ 9223372036854775807) (hleL : nL = L.length) (hq5 : idxF (eqI 0) L < (L.length : Int) ∧ -1 ≤ idxF (eqI 0) L) (h6 : (idxF (eqI 0) L) < 0) : (nL : Int) = (takenN L : Int) := by
  first | (have := idx_tk_no (L := L) (by omega); omega) | (have := idx_tk (L := L) (by omega); omega)
theorem z_c_impl_taken_8 (L : List Int) (nL : Nat) (hbdL : (nL : Int) ≤ 9223372036854775807) (hleL : nL = L.length) (hq5 : idxF (eqI 0) L < (L.length : Int) ∧ -1 ≤ idxF (eqI 0) L) (h6 : (idxF (eqI 0) L) < 0) : Trail L := by
  first | exact tz_no (by omega) | exact tz_any (by have := idx_tk (L := L) (by omega); omega)
theorem z_c_impl_taken_13 (L : List Int) (nL : Nat) (hbdL : (nL : Int) ≤ 9223372036854775807) (hleL : nL = L.length) (hq5 : idxF (eqI 0) L < (L.length : Int) ∧ -1 ≤ idxF (eqI 0) L) (h6 : ¬ ((idxF (eqI 0) L) < 0)) : idxF (eqI 0) L = (takenN L : Int) := by
  first | (have := idx_tk_no (L := L) (by omega); omega) | (have := idx_tk (L := L) (by omega); omega)
theorem z_c_impl_taken_14 (L : List Int) (nL : Nat) (hbdL : (nL : Int) ≤ 9223372036854775807) (hleL : nL = L.length) (hq5 : idxF (eqI 0) L < (L.length : Int) ∧ -1 ≤ idxF (eqI 0) L) (h6 : ¬ ((idxF (eqI 0) L) < 0)) : (!((L.drop ((idxF (eqI 0) L).toNat)).any (fun u_ : Int => (!decide (u_ = 0))))) = true ↔ (Trail L) := by
  first | exact tz_no (by omega) | exact tz_any (by have := idx_tk (L := L) (by omega); omega)
theorem c_impl_taken (w : World) {AL : Option Addr} {nL cL BL : Nat}  (L : List Int) (hL : SlR w BL encI 1 AL nL cL L) : Calls Try.prog 79 #[.slice AL nL cL] w fun e w' => e = .returned (.tuple (List.toArray [.int .i64 (takenN L : Int), .bool (decide (Trail L))])) ∧ Lo w w' := by
  refine calls_W 17 Try.func79 rfl rfl rfl ?_
  have hbdL := hL.bound
  have hleL := hL.len
  have hBbL := hL.bd
  refine W.seq ?_
  refine W.regS (SR.q' (r_as (v := .int .i64 0) rfl) <| SR.q' (r_as (v := .bool false) rfl) <| SR.nil ?_)
  refine W.seq ?_
  refine W.regS (SR.q' (r_mv (v := .slice _ _ _) rfl) <| SR.call ent94 (c_slices_Index___int_int_ w L ((hL)) 0) rfl ?_)
  rintro e w1 ⟨rfl, hk2⟩
  refine ⟨_, rfl, ?_⟩
  have hz3 := hk2.size
  have hB4 := (Lo.refl w).lo hk2
  have hq5 : idxF (eqI 0) L < (L.length : Int) ∧ -1 ≤ idxF (eqI 0) L := idx_lt
  refine SR.q' (r_as (v := .int .i64 _) rfl) <| SR.nil ?_
  refine W.seq ?_
  refine W.seq ?_
  refine W.regS (SR.q' (r_mv (v := .int .i64 _) rfl) <| SR.q' (r_lt rfl rfl) <| SR.nil ?_)
  refine W.cond_d rfl (fun h6 => ?_) (fun h6 => ?_)
  · refine W.seq ?_
    refine W.regS (SR.q' (r_mv (v := .slice _ _ _) rfl) <| SR.q' (r_len und22 rfl) <| SR.q' (r_as (v := .int .i64 _) rfl) <| SR.q' (r_as (v := .bool true) rfl) <| SR.nil ?_)
    refine W.ret ?_
    refine ret2 rfl (v := .int .i64 _) (v' := .bool _) rfl rfl ?_
    exact ⟨eR (eT2 (eI (z_c_impl_taken_7 L nL hbdL hleL hq5 h6)) (eDT (z_c_impl_taken_8 L nL hbdL hleL hq5 h6))), hB4⟩
  · refine W.skip ?_
    refine W.seq ?_
    refine W.regS (SR.q' (r_mv (v := .int .i64 _) rfl) <| SR.q' (r_mv (v := .slice _ _ _) rfl) <| SR.q' (r_mv (v := .int .i64 _) rfl) <| SR.q' (r_cutl (l := (idxF (eqI 0) L).toNat) tsl22 rfl rfl (by omega) (by omega)) <| SR.call ent82 (c_slices_ContainsFunc___int_int_ w1 (L.drop ((idxF (eqI 0) L).toNat)) ((((hL).lo hk2).cutl (l := (idxF (eqI 0) L).toNat) (by omega))) (fun u_ : Int => (!decide (u_ = 0))) ⟨ent108, fun w'' hw'' x => (c_impl_taken_1 w'' x).mono fun _ _ h => ⟨h.1, h.2⟩⟩) rfl ?_)
    rintro e w9 ⟨rfl, hk10⟩
    refine ⟨_, rfl, ?_⟩
    have hz11 := hk10.size
    have hB12 := hB4.lo hk10
    refine SR.q' (r_not rfl) <| SR.q' (r_as (v := .int .i64 _) rfl) <| SR.q' (r_as (v := .bool _) rfl) <| SR.nil ?_
    refine W.ret ?_
    refine ret2 rfl (v := .int .i64 _) (v' := .bool _) rfl rfl ?_
    exact ⟨eR (eT2 (eI (z_c_impl_taken_13 L nL hbdL hleL hq5 h6)) (eBD (z_c_impl_taken_14 L nL hbdL hleL hq5 h6))), hB12⟩

theorem z_c_spec_l29Taken_1 (L : List Int) (nL : Nat) (hbdL : (nL : Int) ≤ 9223372036854775807) (hleL : nL = L.length) : 0 ≤ nL ∧ ∀ j, j < 0 → gt L j ≠ 0 := by
  exact ⟨Nat.zero_le _, fun _ h => absurd h (by omega)⟩
theorem z_c_spec_l29Taken_22 (L : List Int) (nL : Nat) (hbdL : (nL : Int) ≤ 9223372036854775807) (hleL : nL = L.length) (k : Nat) (hi7 : k ≤ nL ∧ ∀ j, j < k → gt L j ≠ 0) (h17 : ((k : Int) < (nL : Int)) ∧ (¬ ((gt L k) = 0))) (hq18 : (k : Int) < (nL : Int)) (hq19 : ¬ ((gt L k) = 0)) (hx21 : L[k]? = some (gt L k)) : k + 1 ≤ nL ∧ ∀ j, j < (k + 1) → gt L j ≠ 0 := by
  have hh := ‹_ ∧ ∀ j, j < _ → gt L j ≠ 0›
  refine ⟨by omega, fun j hj => ?_⟩
  rcases Nat.lt_or_ge j k with h1 | h1
  · exact hh.2 j h1
  · have e : j = k := by omega
    rw [e]; first | assumption | omega
theorem z_c_spec_l29Taken_23 (L : List Int) (nL : Nat) (hbdL : (nL : Int) ≤ 9223372036854775807) (hleL : nL = L.length) (k : Nat) (hi7 : k ≤ nL ∧ ∀ j, j < k → gt L j ≠ 0) (h17 : ((k : Int) < (nL : Int)) ∧ (¬ ((gt L k) = 0))) (hq18 : (k : Int) < (nL : Int)) (hq19 : ¬ ((gt L k) = 0)) (hx21 : L[k]? = some (gt L k)) : nL - (k + 1) < nL - k := by
  omega
theorem z_c_spec_l29Taken_24 (L : List Int) (nL : Nat) (hbdL : (nL : Int) ≤ 9223372036854775807) (hleL : nL = L.length) (k : Nat) (hi7 : k ≤ nL ∧ ∀ j, j < k → gt L j ≠ 0) (h17 : ¬ (((k : Int) < (nL : Int)) ∧ (¬ ((gt L k) = 0)))) : (k : Int) = (takenN L : Int) := by
  subst hleL
  have hh := ‹_ ∧ ∀ j, j < _ → gt L j ≠ 0›
  have e : takenN L = k := taken_eq hh.2 (by omega)
  rw [e]
theorem z_c_spec_l29Taken_25 (L : List Int) (nL : Nat) (hbdL : (nL : Int) ≤ 9223372036854775807) (hleL : nL = L.length) (k : Nat) (hi7 : k ≤ nL ∧ ∀ j, j < k → gt L j ≠ 0) (h17 : ¬ (((k : Int) < (nL : Int)) ∧ (¬ ((gt L k) = 0)))) : wsum (L.take k) = wsum (L.take (takenN L)) := by
  subst hleL
  have hh := ‹_ ∧ ∀ j, j < _ → gt L j ≠ 0›
  have e : takenN L = k := taken_eq hh.2 (by omega)
  rw [e]
theorem c_spec_l29Taken (w : World) {AL : Option Addr} {nL cL BL : Nat}  (L : List Int) (hL : SlR w BL encI 1 AL nL cL L) : Calls Try.prog 101 #[.slice AL nL cL] w fun e w' => e = .returned (.tuple (List.toArray [.int .i64 (takenN L : Int), .int .i64 (wsum (L.take (takenN L)))])) ∧ Lo w w' := by
  refine calls_W 27 Try.func101 rfl rfl rfl ?_
  have hbdL := hL.bound
  have hleL := hL.len
  have hBbL := hL.bd
  refine W.seq ?_
  refine W.regS (SR.q' (r_as (v := .int .i64 0) rfl) <| SR.q' (r_as (v := .int .i64 0) rfl) <| SR.nil ?_)
  refine W.seq ?_
  refine W.regS (SR.q' (r_as (v := .int .i64 0) rfl) <| SR.q' (r_as (v := .int .i64 0) rfl) <| SR.nil ?_)
  refine W.seq ?_
  refine W.block ?_
  refine W.loop (σ := Nat) (fun g => [(0, .slice AL nL cL), (2, .int .i64 0), (3, .int .i64 0), (4, .int .i64 (g : Int)), (5, .int .i64 (wsum (L.take g)))]) (fun g w' => (Lo w w') ∧ (SlR w' BL encI 1 AL nL cL L) ∧ (g ≤ nL ∧ ∀ j, j < g → gt L j ≠ 0)) (fun g => nL - g) 0 ?_ ?_ ?_
  · exact ⟨rfl, rfl, rfl, (eI (by first | (first | omega | rfl | (subst hleL; rw [wsum_snoc (by omega)])) | (dsimp only; (first | omega | rfl | (subst hleL; rw [wsum_snoc (by omega)]))))), (eI (by first | (first | omega | rfl | (subst hleL; rw [wsum_snoc (by omega)])) | (dsimp only; (first | omega | rfl | (subst hleL; rw [wsum_snoc (by omega)]))))), trivial⟩
  · exact ⟨(Lo.refl w), hL, (z_c_spec_l29Taken_1 L nL hbdL hleL)⟩
  · rintro k f2 w3 hP5
    obtain ⟨hB4, hm6, hi7⟩ : (Lo w w3) ∧ (SlR w3 BL encI 1 AL nL cL L) ∧ (k ≤ nL ∧ ∀ j, j < k → gt L j ≠ 0) := hP5
    refine (?_ : W _ _ _ _ _ (act _ (sets f2 [(0, .slice AL nL cL), (2, .int .i64 0), (3, .int .i64 0), (4, .int .i64 (k : Int)), (5, .int .i64 (wsum (L.take k)))])) _)
    have hzw3 := hB4.size
    refine W.seq ?_
    refine W.seq ?_
    refine W.regJS (fun f' w' => At f' [(0, .slice AL nL cL), (2, .int .i64 0), (3, .int .i64 0), (4, .int .i64 (k : Int)), (5, .int .i64 (wsum (L.take k))), (16, .bool (decide (((k : Int) < (nL : Int)) ∧ (¬ ((gt L k) = 0)))))] ∧ Lo w3 w') ?_ ?_
    · refine SR.q' (r_mv (v := .int .i64 _) rfl) <| SR.q' (r_mv (v := .slice _ _ _) rfl) <| SR.q' (r_len und22 rfl) <| SR.q' (r_lt rfl rfl) <| SR.q' (r_mv (v := .bool _) rfl) <| SR.splitD (fun h8 => ?_) (fun h8 => ?_)
      · refine SR.g' rfl (r_mv (v := .slice _ _ _) rfl) <| SR.g' rfl (r_mv (v := .int .i64 _) rfl) <| ?_
        have hx10 := (hm6).elem (i := k) (by omega)
        refine SR.g' rfl (r_ixR tsl22 (hm6) rfl rfl (by omega)) <| SR.g' rfl (r_ld (v := .int .i64 (gt L k)) sca3 rfl ((hm6).cell0 hx10 rfl)) <| SR.g' rfl (r_ne rfl rfl) <| SR.q' (r_pick true rfl (v := .bool _) rfl) <| SR.nil ?_
        exact ⟨_, rfl, ⟨⟨rfl, rfl, rfl, rfl, rfl, (eND (jat h8)), trivial⟩, (Lo.refl _)⟩⟩
      · refine SR.s' rfl <| SR.s' rfl <| SR.s' rfl <| SR.s' rfl <| SR.s' rfl <| SR.q' (r_pick false rfl (v := .bool false) rfl) <| SR.nil ?_
        exact ⟨_, rfl, ⟨⟨rfl, rfl, rfl, rfl, rfl, (eDF (jaf h8).2), trivial⟩, (Lo.refl _)⟩⟩
    rintro f11 w12 ⟨hat13, hk14⟩
    rw [← sets_of_at hat13]
    have hz15 := hk14.size
    have hB16 := hB4.lo hk14
    refine W.cond_d rfl (fun h17 => ?_) (fun h17 => ?_)
    · have hq18 : (k : Int) < (nL : Int) := h17.1
      have hq19 : ¬ ((gt L k) = 0) := h17.2
      refine W.skip ?_
      refine W.block ?_
      refine W.seq ?_
      refine W.regS (SR.q' (r_mv (v := .int .i64 _) rfl) <| SR.q' (r_mv (v := .slice _ _ _) rfl) <| SR.q' (r_mv (v := .int .i64 _) rfl) <| ?_)
      have hx21 := ((hm6).lo hk14).elem (i := k) (by omega)
      refine SR.q' (r_ixR tsl22 ((hm6).lo hk14) rfl rfl (by omega)) <| SR.q' (r_ld (v := .int .i64 (gt L k)) sca3 rfl (((hm6).lo hk14).cell0 hx21 rfl)) <| SR.q' (r_addW rfl rfl) <| SR.q' (r_as (v := .int .i64 _) rfl) <| SR.nil ?_
      refine W.regS (SR.q' (r_mv (v := .int .i64 _) rfl) <| SR.q' (r_add rfl rfl (by omega)) <| SR.q' (r_as (v := .int .i64 _) rfl) <| SR.nil ?_)
      refine ⟨k + 1, _, rfl, ⟨rfl, rfl, rfl, (eI (by first | (first | omega | rfl | (subst hleL; rw [wsum_snoc (by omega)])) | (dsimp only; (first | omega | rfl | (subst hleL; rw [wsum_snoc (by omega)]))))), (eI (by first | (first | omega | rfl | (subst hleL; rw [wsum_snoc (by omega)])) | (dsimp only; (first | omega | rfl | (subst hleL; rw [wsum_snoc (by omega)]))))), trivial⟩, ⟨hB16, (hm6).lo hk14, ?_⟩, ?_⟩
      · exact (z_c_spec_l29Taken_22 L nL hbdL hleL k hi7 h17 hq18 hq19 hx21)
      · exact (z_c_spec_l29Taken_23 L nL hbdL hleL k hi7 h17 hq18 hq19 hx21)
    · refine W.exit (xin_here ?_)
      refine W.seq ?_
      refine W.regS (SR.q' (r_mv (v := .int .i64 _) rfl) <| SR.q' (r_mv (v := .int .i64 _) rfl) <| SR.q' (r_as (v := .int .i64 _) rfl) <| SR.q' (r_as (v := .int .i64 _) rfl) <| SR.nil ?_)
      refine W.ret ?_
      refine ret2 rfl (v := .int .i64 _) (v' := .int .i64 _) rfl rfl ?_
      exact ⟨eR (eT2 (eI (z_c_spec_l29Taken_24 L nL hbdL hleL k hi7 h17)) (eI (z_c_spec_l29Taken_25 L nL hbdL hleL k hi7 h17))), hB16⟩
end Go.Proofs.Ytlpapeeaghmjpaa
