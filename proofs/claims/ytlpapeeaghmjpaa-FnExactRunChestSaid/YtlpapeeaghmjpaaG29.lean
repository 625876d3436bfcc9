/- Walks, printed by a program of this claim's author. -/
import Derived.Test.YtlpapeeaghmjpaaChecked
import Derived.Test.YtlpapeeaghmjpaaSa
namespace Go.Proofs.Ytlpapeeaghmjpaa
open Go Go.RowKit Fw
set_option maxRecDepth 10000
set_option linter.unusedVariables false
theorem mo : Try.prog.follows .mixedOrders = true := by kernel_rfl
theorem agg26 : TAgg Try.prog 26 2 := ⟨fun _ => by kernel_rfl, fun _ => by kernel_rfl⟩
theorem agg28 : TAgg Try.prog 28 6 := ⟨fun _ => by kernel_rfl, fun _ => by kernel_rfl⟩
theorem agg32 : TAgg Try.prog 32 2 := ⟨fun _ => by kernel_rfl, fun _ => by kernel_rfl⟩
theorem ent109 : Ent Try.prog 109 := ent_of Try.func109 (by decide +kernel) rfl
theorem ent12 : Ent Try.prog 12 := ent_of Try.func12 (by decide +kernel) rfl
theorem ent57 : Ent Try.prog 57 := ent_of Try.func57 (by decide +kernel) rfl
theorem ent61 : Ent Try.prog 61 := ent_of Try.func61 (by decide +kernel) rfl
theorem ent63 : Ent Try.prog 63 := ent_of Try.func63 (by decide +kernel) rfl
theorem ent64 : Ent Try.prog 64 := ent_of Try.func64 (by decide +kernel) rfl
theorem ent65 : Ent Try.prog 65 := ent_of Try.func65 (by decide +kernel) rfl
theorem ent72 : Ent Try.prog 72 := ent_of Try.func72 (by decide +kernel) rfl
theorem ent80 : Ent Try.prog 80 := ent_of Try.func80 (by decide +kernel) rfl
theorem ent94 : Ent Try.prog 94 := ent_of Try.func94 (by decide +kernel) rfl
theorem fa24_0 : FA Try.prog 24 0 0 := fun _ _ => by kernel_rfl
theorem fa24_1 : FA Try.prog 24 1 1 := fun _ _ => by kernel_rfl
theorem fa24_2 : FA Try.prog 24 2 2 := fun _ _ => by kernel_rfl
theorem fa24_3 : FA Try.prog 24 3 3 := fun _ _ => by kernel_rfl
theorem fa24_4 : FA Try.prog 24 4 4 := fun _ _ => by kernel_rfl
theorem fa24_5 : FA Try.prog 24 5 5 := fun _ _ => by kernel_rfl
theorem fa26_0 : FA Try.prog 26 0 0 := fun _ _ => by kernel_rfl
theorem fa26_1 : FA Try.prog 26 1 1 := fun _ _ => by kernel_rfl
theorem fa28_0 : FA Try.prog 28 0 0 := fun _ _ => by kernel_rfl
theorem fa28_1 : FA Try.prog 28 1 1 := fun _ _ => by kernel_rfl
theorem fa28_2 : FA Try.prog 28 2 2 := fun _ _ => by kernel_rfl
theorem fa28_3 : FA Try.prog 28 3 3 := fun _ _ => by kernel_rfl
theorem fa28_4 : FA Try.prog 28 4 4 := fun _ _ => by kernel_rfl
theorem fa28_5 : FA Try.prog 28 5 5 := fun _ _ => by kernel_rfl
theorem fa32_0 : FA Try.prog 32 0 0 := fun _ _ => by kernel_rfl
theorem fa32_1 : FA Try.prog 32 1 1 := fun _ _ => by kernel_rfl
theorem sca22 : TSca Try.prog 22 := ⟨fun _ => by kernel_rfl, fun _ => by kernel_rfl⟩
theorem sca3 : TSca Try.prog 3 := ⟨fun _ => by kernel_rfl, fun _ => by kernel_rfl⟩
theorem tel22 : TEl Try.prog 22 3 (.int .i64 0) 1 8 := ⟨by kernel_rfl, by kernel_rfl, rfl, by decide⟩
theorem tel54 : TEl Try.prog 54 32 (.agg (List.toArray [.int .i64 0, .int .i64 0])) 2 16 := ⟨by kernel_rfl, by kernel_rfl, rfl, by decide⟩
theorem tsl22 : TSl Try.prog 22 3 1 := ⟨by kernel_rfl, fun _ => by kernel_rfl⟩
theorem tsl50 : TSl Try.prog 50 26 2 := ⟨by kernel_rfl, fun _ => by kernel_rfl⟩
theorem tsl54 : TSl Try.prog 54 32 2 := ⟨by kernel_rfl, fun _ => by kernel_rfl⟩
theorem tz28 : TZ Try.prog 28 (.agg (List.toArray [.int .i64 0, .int .i64 0, .slice none 0 0, .int .i64 0, .int .i64 0, .int .i64 0])) := fun _ => by kernel_rfl
theorem tz32 : TZ Try.prog 32 (.agg (List.toArray [.int .i64 0, .int .i64 0])) := fun _ => by kernel_rfl
theorem und22 : Try.prog.underlying 22 = some (.slice 3) := by kernel_rfl
theorem und50 : Try.prog.underlying 50 = some (.slice 26) := by kernel_rfl
theorem und54 : Try.prog.underlying 54 = some (.slice 32) := by kernel_rfl

theorem z_c_spec_l1In_8 (n : Int) (a : Int) (b : Int) : ((a ≤ n) ∧ (n ≤ b)) ↔ (a ≤ n ∧ n ≤ b) := by
  omega
theorem c_spec_l1In (w : World) (n : Int) (a : Int) (b : Int) : Calls Try.prog 87 #[.int .i64 n, .int .i64 a, .int .i64 b] w fun e w' => e = .returned (.bool (decide (a ≤ n ∧ n ≤ b))) ∧ Lo w w' := by
  refine calls_W 15 Try.func87 rfl rfl rfl ?_
  refine W.seq ?_
  refine W.regS (SR.q' (r_as (v := .bool false) rfl) <| SR.nil ?_)
  refine W.seq ?_
  refine W.regJS (fun f' w' => At f' [(6, .bool (decide ((a ≤ n) ∧ (n ≤ b))))] ∧ Lo w w') ?_ ?_
  · refine SR.q' (r_mv (v := .int .i64 _) rfl) <| SR.q' (r_mv (v := .int .i64 _) rfl) <| SR.q' (r_ge rfl rfl) <| SR.q' (r_mv (v := .bool _) rfl) <| SR.splitD (fun h1 => ?_) (fun h1 => ?_)
    · refine SR.g' rfl (r_mv (v := .int .i64 _) rfl) <| SR.g' rfl (r_mv (v := .int .i64 _) rfl) <| SR.g' rfl (r_le rfl rfl) <| SR.q' (r_pick true rfl (v := .bool _) rfl) <| SR.q' (r_as (v := .bool _) rfl) <| SR.nil ?_
      exact ⟨_, rfl, ⟨⟨(eDD (jat h1)), trivial⟩, (Lo.refl _)⟩⟩
    · refine SR.s' rfl <| SR.s' rfl <| SR.s' rfl <| SR.q' (r_pick false rfl (v := .bool false) rfl) <| SR.q' (r_as (v := .bool _) rfl) <| SR.nil ?_
      exact ⟨_, rfl, ⟨⟨(eDF (jaf h1).2), trivial⟩, (Lo.refl _)⟩⟩
  rintro f2 w3 ⟨hat4, hk5⟩
  rw [← sets_of_at hat4]
  have hz6 := hk5.size
  have hB7 := (Lo.refl w).lo hk5
  refine W.ret ?_
  refine ret1 rfl (v := .bool _) rfl ?_
  exact ⟨eR (eDD (z_c_spec_l1In_8 n a b)), hB7⟩

theorem z_c_impl_within_8 (n : Int) (a : Int) (b : Int) : ((a ≤ n) ∧ (n ≤ b)) ↔ (a ≤ n ∧ n ≤ b) := by
  omega
theorem c_impl_within (w : World) (n : Int) (a : Int) (b : Int) : Calls Try.prog 80 #[.int .i64 n, .int .i64 a, .int .i64 b] w fun e w' => e = .returned (.bool (decide (a ≤ n ∧ n ≤ b))) ∧ Lo w w' := by
  refine calls_W 15 Try.func80 rfl rfl rfl ?_
  refine W.seq ?_
  refine W.regS (SR.q' (r_as (v := .bool false) rfl) <| SR.nil ?_)
  refine W.seq ?_
  refine W.regJS (fun f' w' => At f' [(6, .bool (decide ((a ≤ n) ∧ (n ≤ b))))] ∧ Lo w w') ?_ ?_
  · refine SR.q' (r_mv (v := .int .i64 _) rfl) <| SR.q' (r_mv (v := .int .i64 _) rfl) <| SR.q' (r_ge rfl rfl) <| SR.q' (r_mv (v := .bool _) rfl) <| SR.splitD (fun h1 => ?_) (fun h1 => ?_)
    · refine SR.g' rfl (r_mv (v := .int .i64 _) rfl) <| SR.g' rfl (r_mv (v := .int .i64 _) rfl) <| SR.g' rfl (r_le rfl rfl) <| SR.q' (r_pick true rfl (v := .bool _) rfl) <| SR.q' (r_as (v := .bool _) rfl) <| SR.nil ?_
      exact ⟨_, rfl, ⟨⟨(eDD (jat h1)), trivial⟩, (Lo.refl _)⟩⟩
    · refine SR.s' rfl <| SR.s' rfl <| SR.s' rfl <| SR.q' (r_pick false rfl (v := .bool false) rfl) <| SR.q' (r_as (v := .bool _) rfl) <| SR.nil ?_
      exact ⟨_, rfl, ⟨⟨(eDF (jaf h1).2), trivial⟩, (Lo.refl _)⟩⟩
  rintro f2 w3 ⟨hat4, hk5⟩
  rw [← sets_of_at hat4]
  have hz6 := hk5.size
  have hB7 := (Lo.refl w).lo hk5
  refine W.ret ?_
  refine ret1 rfl (v := .bool _) rfl ?_
  exact ⟨eR (eDD (z_c_impl_within_8 n a b)), hB7⟩

theorem c_impl_isId (w : World) (n : Int) : Calls Try.prog 90 #[.int .i64 n] w fun e w' => e = .returned (.bool (decide (1 ≤ n ∧ n ≤ 999))) ∧ Lo w w' := by
  refine calls_W 5 Try.func90 rfl rfl rfl ?_
  refine W.seq ?_
  refine W.regS (SR.q' (r_as (v := .bool false) rfl) <| SR.nil ?_)
  refine W.seq ?_
  refine W.regS (SR.q' (r_mv (v := .int .i64 _) rfl) <| SR.call ent80 (c_impl_within w n 1 999) rfl ?_)
  rintro e w1 ⟨rfl, hk2⟩
  refine ⟨_, rfl, ?_⟩
  have hz3 := hk2.size
  have hB4 := (Lo.refl w).lo hk2
  refine SR.q' (r_as (v := .bool _) rfl) <| SR.nil ?_
  refine W.ret ?_
  refine ret1 rfl (v := .bool _) rfl ?_
  exact ⟨eR rfl, hB4⟩

theorem c_impl_isKey (w : World) (n : Int) : Calls Try.prog 92 #[.int .i64 n] w fun e w' => e = .returned (.bool (decide (1 ≤ n ∧ n ≤ 9999))) ∧ Lo w w' := by
  refine calls_W 5 Try.func92 rfl rfl rfl ?_
  refine W.seq ?_
  refine W.regS (SR.q' (r_as (v := .bool false) rfl) <| SR.nil ?_)
  refine W.seq ?_
  refine W.regS (SR.q' (r_mv (v := .int .i64 _) rfl) <| SR.call ent80 (c_impl_within w n 1 9999) rfl ?_)
  rintro e w1 ⟨rfl, hk2⟩
  refine ⟨_, rfl, ?_⟩
  have hz3 := hk2.size
  have hB4 := (Lo.refl w).lo hk2
  refine SR.q' (r_as (v := .bool _) rfl) <| SR.nil ?_
  refine W.ret ?_
  refine ret1 rfl (v := .bool _) rfl ?_
  exact ⟨eR rfl, hB4⟩

theorem c_impl_isCounted (w : World) (n : Int) : Calls Try.prog 93 #[.int .i64 n] w fun e w' => e = .returned (.bool (decide (0 ≤ n ∧ n ≤ 9999))) ∧ Lo w w' := by
  refine calls_W 5 Try.func93 rfl rfl rfl ?_
  refine W.seq ?_
  refine W.regS (SR.q' (r_as (v := .bool false) rfl) <| SR.nil ?_)
  refine W.seq ?_
  refine W.regS (SR.q' (r_mv (v := .int .i64 _) rfl) <| SR.call ent80 (c_impl_within w n 0 9999) rfl ?_)
  rintro e w1 ⟨rfl, hk2⟩
  refine ⟨_, rfl, ?_⟩
  have hz3 := hk2.size
  have hB4 := (Lo.refl w).lo hk2
  refine SR.q' (r_as (v := .bool _) rfl) <| SR.nil ?_
  refine W.ret ?_
  refine ret1 rfl (v := .bool _) rfl ?_
  exact ⟨eR rfl, hB4⟩

theorem z_c_spec_l1Least_2 (a : Int) (b : Int) (h1 : a < b) : a = min a b := by
  omega
theorem z_c_spec_l1Least_3 (a : Int) (b : Int) (h1 : ¬ (a < b)) : b = min a b := by
  omega
theorem c_spec_l1Least (w : World) (a : Int) (b : Int) : Calls Try.prog 111 #[.int .i64 a, .int .i64 b] w fun e w' => e = .returned (.int .i64 (min a b)) ∧ Lo w w' := by
  refine calls_W 10 Try.func111 rfl rfl rfl ?_
  refine W.seq ?_
  refine W.regS (SR.q' (r_as (v := .int .i64 0) rfl) <| SR.nil ?_)
  refine W.seq ?_
  refine W.seq ?_
  refine W.regS (SR.q' (r_mv (v := .int .i64 _) rfl) <| SR.q' (r_mv (v := .int .i64 _) rfl) <| SR.q' (r_lt rfl rfl) <| SR.nil ?_)
  refine W.cond_d rfl (fun h1 => ?_) (fun h1 => ?_)
  · refine W.seq ?_
    refine W.regS (SR.q' (r_mv (v := .int .i64 _) rfl) <| SR.q' (r_as (v := .int .i64 _) rfl) <| SR.nil ?_)
    refine W.ret ?_
    refine ret1 rfl (v := .int .i64 _) rfl ?_
    exact ⟨eR (eI (z_c_spec_l1Least_2 a b h1)), (Lo.refl w)⟩
  · refine W.skip ?_
    refine W.seq ?_
    refine W.regS (SR.q' (r_mv (v := .int .i64 _) rfl) <| SR.q' (r_as (v := .int .i64 _) rfl) <| SR.nil ?_)
    refine W.ret ?_
    refine ret1 rfl (v := .int .i64 _) rfl ?_
    exact ⟨eR (eI (z_c_spec_l1Least_3 a b h1)), (Lo.refl w)⟩

theorem z_c_spec_l1Most_2 (a : Int) (b : Int) (h1 : b < a) : a = max a b := by
  omega
theorem z_c_spec_l1Most_3 (a : Int) (b : Int) (h1 : ¬ (b < a)) : b = max a b := by
  omega
theorem c_spec_l1Most (w : World) (a : Int) (b : Int) : Calls Try.prog 115 #[.int .i64 a, .int .i64 b] w fun e w' => e = .returned (.int .i64 (max a b)) ∧ Lo w w' := by
  refine calls_W 10 Try.func115 rfl rfl rfl ?_
  refine W.seq ?_
  refine W.regS (SR.q' (r_as (v := .int .i64 0) rfl) <| SR.nil ?_)
  refine W.seq ?_
  refine W.seq ?_
  refine W.regS (SR.q' (r_mv (v := .int .i64 _) rfl) <| SR.q' (r_mv (v := .int .i64 _) rfl) <| SR.q' (r_gt rfl rfl) <| SR.nil ?_)
  refine W.cond_d rfl (fun h1 => ?_) (fun h1 => ?_)
  · refine W.seq ?_
    refine W.regS (SR.q' (r_mv (v := .int .i64 _) rfl) <| SR.q' (r_as (v := .int .i64 _) rfl) <| SR.nil ?_)
    refine W.ret ?_
    refine ret1 rfl (v := .int .i64 _) rfl ?_
    exact ⟨eR (eI (z_c_spec_l1Most_2 a b h1)), (Lo.refl w)⟩
  · refine W.skip ?_
    refine W.seq ?_
    refine W.regS (SR.q' (r_mv (v := .int .i64 _) rfl) <| SR.q' (r_as (v := .int .i64 _) rfl) <| SR.nil ?_)
    refine W.ret ?_
    refine ret1 rfl (v := .int .i64 _) rfl ?_
    exact ⟨eR (eI (z_c_spec_l1Most_3 a b h1)), (Lo.refl w)⟩

theorem z_c_laws_szIntS_2 (L : List Int) (nL : Nat) (hbdL : (nL : Int) ≤ 9223372036854775807) (hleL : nL = L.length) (left : Int) (hp0 : 0 ≤ left) (hp1 : left ≤ 1048576) (h1 : (left - (nL : Int)) < 0) : (-1) = szN L.length left := by
  unfold szN; split <;> omega
theorem z_c_laws_szIntS_3 (L : List Int) (nL : Nat) (hbdL : (nL : Int) ≤ 9223372036854775807) (hleL : nL = L.length) (left : Int) (hp0 : 0 ≤ left) (hp1 : left ≤ 1048576) (h1 : ¬ ((left - (nL : Int)) < 0)) : left - (nL : Int) = szN L.length left := by
  unfold szN; split <;> omega
theorem c_laws_szIntS (w : World) {AL : Option Addr} {nL cL BL : Nat}  (L : List Int) (hL : SlR w BL encI 1 AL nL cL L) (left : Int) (hp0 : 0 ≤ left) (hp1 : left ≤ 1048576) : Calls Try.prog 57 #[.slice AL nL cL, .int .i64 left] w fun e w' => e = .returned (.int .i64 (szN L.length left)) ∧ Lo w w' := by
  refine calls_W 12 Try.func57 rfl rfl rfl ?_
  have hbdL := hL.bound
  have hleL := hL.len
  have hBbL := hL.bd
  refine W.seq ?_
  refine W.regS (SR.q' (r_as (v := .int .i64 0) rfl) <| SR.nil ?_)
  refine W.seq ?_
  refine W.regS (SR.q' (r_mv (v := .int .i64 _) rfl) <| SR.q' (r_mv (v := .slice _ _ _) rfl) <| SR.q' (r_len und22 rfl) <| SR.q' (r_sub rfl rfl (by omega)) <| SR.q' (r_as (v := .int .i64 _) rfl) <| SR.nil ?_)
  refine W.seq ?_
  refine W.seq ?_
  refine W.regS (SR.q' (r_mv (v := .int .i64 _) rfl) <| SR.q' (r_lt rfl rfl) <| SR.nil ?_)
  refine W.cond_d rfl (fun h1 => ?_) (fun h1 => ?_)
  · refine W.seq ?_
    refine W.regS (SR.q' (r_as (v := .int .i64 (-1)) rfl) <| SR.nil ?_)
    refine W.ret ?_
    refine ret1 rfl (v := .int .i64 _) rfl ?_
    exact ⟨eR (eI (z_c_laws_szIntS_2 L nL hbdL hleL left hp0 hp1 h1)), (Lo.refl w)⟩
  · refine W.skip ?_
    refine W.seq ?_
    refine W.regS (SR.q' (r_mv (v := .int .i64 _) rfl) <| SR.q' (r_as (v := .int .i64 _) rfl) <| SR.nil ?_)
    refine W.ret ?_
    refine ret1 rfl (v := .int .i64 _) rfl ?_
    exact ⟨eR (eI (z_c_laws_szIntS_3 L nL hbdL hleL left hp0 hp1 h1)), (Lo.refl w)⟩

theorem z_c_laws_toIntS_8 (L : List Int) (nL : Nat) (hbdL : (nL : Int) ≤ 9223372036854775807) (hleL : nL = L.length) (hp0 : (nL : Int) ≤ 1048576) : 0 ≤ nL := by
  omega
theorem z_c_laws_toIntS_9 (L : List Int) (nL : Nat) (hbdL : (nL : Int) ≤ 9223372036854775807) (hleL : nL = L.length) (hp0 : (nL : Int) ≤ 1048576) : List.replicate nL (0 : Int) = L.take 0 ++ List.replicate (nL - 0) (0 : Int) := by
  exact tk_init
theorem z_c_laws_toIntS_29 (L : List Int) (nL : Nat) (hbdL : (nL : Int) ≤ 9223372036854775807) (hleL : nL = L.length) (hp0 : (nL : Int) ≤ 1048576) (k : Nat) (hi16 : k ≤ nL) (h17 : (k : Int) < (nL : Int)) (x18 : Int) (hx19 : L[k]? = some x18) (x20 : Int) (hx21 : (L.take k ++ List.replicate (nL - k) (0 : Int))[k]? = some x20) : (L.take k ++ List.replicate (nL - k) (0 : Int)).set ((k : Int).toNat) x18 = L.take (k + 1) ++ List.replicate (nL - (k + 1)) (0 : Int) := by
  exact tk_set (by assumption) hleL
theorem z_c_laws_toIntS_30 (L : List Int) (nL : Nat) (hbdL : (nL : Int) ≤ 9223372036854775807) (hleL : nL = L.length) (hp0 : (nL : Int) ≤ 1048576) (k : Nat) (hi16 : k ≤ nL) (h17 : (k : Int) < (nL : Int)) (x18 : Int) (hx19 : L[k]? = some x18) (x20 : Int) (hx21 : (L.take k ++ List.replicate (nL - k) (0 : Int))[k]? = some x20) : k + 1 ≤ nL := by
  omega
theorem z_c_laws_toIntS_31 (L : List Int) (nL : Nat) (hbdL : (nL : Int) ≤ 9223372036854775807) (hleL : nL = L.length) (hp0 : (nL : Int) ≤ 1048576) (k : Nat) (hi16 : k ≤ nL) (h17 : (k : Int) < (nL : Int)) (x18 : Int) (hx19 : L[k]? = some x18) (x20 : Int) (hx21 : (L.take k ++ List.replicate (nL - k) (0 : Int))[k]? = some x20) : nL - (k + 1) < nL - k := by
  omega
theorem z_c_laws_toIntS_32 (L : List Int) (nL : Nat) (hbdL : (nL : Int) ≤ 9223372036854775807) (hleL : nL = L.length) (hp0 : (nL : Int) ≤ 1048576) (k : Nat) (hi16 : k ≤ nL) (h17 : ¬ ((k : Int) < (nL : Int))) : L.take k ++ List.replicate (nL - k) (0 : Int) = L := by
  exact tk_end hleL (by assumption) (by omega)
theorem c_laws_toIntS (w : World) {AL : Option Addr} {nL cL BL : Nat}  (L : List Int) (hL : SlR w BL encI 1 AL nL cL L) (hp0 : (nL : Int) ≤ 1048576) : Calls Try.prog 61 #[.slice AL nL cL] w fun e w' => ∃ (A1' : Option Addr) (n1' c1' : Nat), e = .returned (.slice A1' n1' c1') ∧ SlO w' w.heap.size encI 1 3 A1' n1' c1' L ∧ Lo w w' := by
  refine calls_W 22 Try.func61 rfl rfl rfl ?_
  have hbdL := hL.bound
  have hleL := hL.len
  have hBbL := hL.bd
  refine W.seq ?_
  refine W.regS (SR.q' (r_as (v := .slice none 0 0) rfl) <| SR.nil ?_)
  refine W.seq ?_
  refine W.regS (SR.q' (r_mv (v := .slice _ _ _) rfl) <| SR.q' (r_len und22 rfl) <| SR.make (m := nL) (zx := (0 : Int)) (enc := encI) tel22 rfl (fun _ => rfl) rfl rfl (by omega) (by omega) ?_)
  intro g1 w2 hg3 hk4 hO5
  have hz6 := hk4.size
  have hB7 := (Lo.refl w).lo hk4
  refine SR.q' (r_as (v := .slice _ _ _) rfl) <| SR.nil ?_
  refine W.seq ?_
  refine W.seq ?_
  refine W.regS (SR.q' (r_as (v := .int .i64 0) rfl) <| SR.nil ?_)
  refine W.block ?_
  refine W.loop (σ := Nat) (fun g => [(0, .slice AL nL cL), (2, .slice none 0 0), (3, .slice (some (⟨g1, 0, none⟩ : Addr)) nL nL), (4, .int .i64 (g : Int))]) (fun g w' => (Lo w w') ∧ (SlR w' BL encI 1 AL nL cL L) ∧ (SlO w' w.heap.size encI 1 3 (some (⟨g1, 0, none⟩ : Addr)) nL nL (L.take g ++ List.replicate (nL - g) (0 : Int))) ∧ (g ≤ nL)) (fun g => nL - g) 0 ?_ ?_ ?_
  · exact ⟨rfl, rfl, rfl, rfl, trivial⟩
  · exact ⟨hB7, (hL).lo hk4, (SlO.eqv (hO5) (z_c_laws_toIntS_9 L nL hbdL hleL hp0)), (z_c_laws_toIntS_8 L nL hbdL hleL hp0)⟩
  · rintro k f10 w11 hP13
    obtain ⟨hB12, hm14, hm15, hi16⟩ : (Lo w w11) ∧ (SlR w11 BL encI 1 AL nL cL L) ∧ (SlO w11 w.heap.size encI 1 3 (some (⟨g1, 0, none⟩ : Addr)) nL nL (L.take k ++ List.replicate (nL - k) (0 : Int))) ∧ (k ≤ nL) := hP13
    refine (?_ : W _ _ _ _ _ (act _ (sets f10 [(0, .slice AL nL cL), (2, .slice none 0 0), (3, .slice (some (⟨g1, 0, none⟩ : Addr)) nL nL), (4, .int .i64 (k : Int))])) _)
    have hzw11 := hB12.size
    refine W.seq ?_
    refine W.seq ?_
    refine W.regS (SR.q' (r_mv (v := .int .i64 _) rfl) <| SR.q' (r_mv (v := .slice _ _ _) rfl) <| SR.q' (r_len und22 rfl) <| SR.q' (r_lt rfl rfl) <| SR.nil ?_)
    refine W.cond_d rfl (fun h17 => ?_) (fun h17 => ?_)
    · refine W.skip ?_
      refine W.seq ?_
      refine W.block ?_
      refine W.regS (SR.q' (r_mv (v := .slice _ _ _) rfl) <| SR.q' (r_mv (v := .int .i64 _) rfl) <| SR.q' (r_mv (v := .slice _ _ _) rfl) <| SR.q' (r_mv (v := .int .i64 _) rfl) <| ?_)
      obtain ⟨x18, hx19⟩ := (hm14).get (i := k) (by omega)
      refine SR.q' (r_ixR tsl22 (hm14) rfl rfl (by omega)) <| SR.q' (r_ld (v := .int .i64 x18) sca3 rfl ((hm14).cell0 hx19 rfl)) <| ?_
      obtain ⟨x20, hx21⟩ := ((hm15).rd).get (i := k) (by omega)
      refine SR.q' (r_ixR tsl22 ((hm15).rd) rfl rfl (by omega)) <| SR.storeO (o := 0) (vs := [.int .i64 x18]) (x1 := x18) sca3.2 rfl rfl rfl rfl (hm15) hx21 rfl (Nat.le_of_ble_eq_true rfl) rfl ?_
      intro w22 hk23 hs24 hO25
      have hz26 := hk23.size
      have hB27 := hB12.step hk23 (fun i_ hi_ e' => by have := ((hm15)).base_le e'; first | omega | (exfalso; omega) | exact e' | exact .inl e' | exact .inr e')
      have hx28 : ((L.take k ++ List.replicate (nL - k) (0 : Int)).set ((k : Int).toNat) x18)[(k : Int).toNat]? = some (x18) := List.getElem?_set_self (List.getElem?_eq_some_iff.1 hx21).1
      refine SR.nil ?_
      refine W.regS (SR.q' (r_mv (v := .int .i64 _) rfl) <| SR.q' (r_add rfl rfl (by omega)) <| SR.q' (r_as (v := .int .i64 _) rfl) <| SR.nil ?_)
      refine ⟨k + 1, _, rfl, ⟨rfl, rfl, rfl, rfl, trivial⟩, ⟨hB27, (hm14).kp hk23 (fun b_ hb e' => by have := ((hm15)).base_le e'; omega), (SlO.eqv (hO25) (z_c_laws_toIntS_29 L nL hbdL hleL hp0 k hi16 h17 x18 hx19 x20 hx21)), ?_⟩, ?_⟩
      · exact (z_c_laws_toIntS_30 L nL hbdL hleL hp0 k hi16 h17 x18 hx19 x20 hx21)
      · exact (z_c_laws_toIntS_31 L nL hbdL hleL hp0 k hi16 h17 x18 hx19 x20 hx21)
    · refine W.exit (xin_here ?_)
      refine W.seq ?_
      refine W.regS (SR.q' (r_mv (v := .slice _ _ _) rfl) <| SR.q' (r_as (v := .slice _ _ _) rfl) <| SR.nil ?_)
      refine W.ret ?_
      refine ret1 rfl (v := .slice _ _ _) rfl ?_
      exact ⟨(some (⟨g1, 0, none⟩ : Addr)), nL, nL, eR rfl, (SlO.eqv ((hm15).down (by omega)) (z_c_laws_toIntS_32 L nL hbdL hleL hp0 k hi16 h17)), hB12⟩

theorem z_c_laws_eqIntS_2 (L : List Int) (nL : Nat) (hbdL : (nL : Int) ≤ 9223372036854775807) (hleL : nL = L.length) (M : List Int) (nM : Nat) (hbdM : (nM : Int) ≤ 9223372036854775807) (hleM : nM = M.length) (h1 : ¬ ((nL : Int) = (nM : Int))) : ¬ (L = M) := by
  first | (intro e; subst e; omega) | exact ne_at ‹L[_]? = some _› ‹M[_]? = some _› ‹_› | exact take_end (And.right ‹_ ∧ L.take _ = M.take _›) hleL hleM (by omega) ‹_›
theorem z_c_laws_eqIntS_3 (L : List Int) (nL : Nat) (hbdL : (nL : Int) ≤ 9223372036854775807) (hleL : nL = L.length) (M : List Int) (nM : Nat) (hbdM : (nM : Int) ≤ 9223372036854775807) (hleM : nM = M.length) (h1 : (nL : Int) = (nM : Int)) : 0 ≤ nL ∧ L.take 0 = M.take 0 := by
  simp
theorem z_c_laws_eqIntS_21 (L : List Int) (nL : Nat) (hbdL : (nL : Int) ≤ 9223372036854775807) (hleL : nL = L.length) (M : List Int) (nM : Nat) (hbdM : (nM : Int) ≤ 9223372036854775807) (hleM : nM = M.length) (h1 : (nL : Int) = (nM : Int)) (k : Nat) (hi10 : k ≤ nL ∧ L.take k = M.take k) (h11 : (k : Int) < (nL : Int)) (x12 : Int) (hx13 : L[k]? = some x12) (x14 : Int) (hx15 : M[k]? = some x14) (h20 : ¬ (x12 = x14)) : ¬ (L = M) := by
  first | (intro e; subst e; omega) | exact ne_at ‹L[_]? = some _› ‹M[_]? = some _› ‹_› | exact take_end (And.right ‹_ ∧ L.take _ = M.take _›) hleL hleM (by omega) ‹_›
theorem z_c_laws_eqIntS_22 (L : List Int) (nL : Nat) (hbdL : (nL : Int) ≤ 9223372036854775807) (hleL : nL = L.length) (M : List Int) (nM : Nat) (hbdM : (nM : Int) ≤ 9223372036854775807) (hleM : nM = M.length) (h1 : (nL : Int) = (nM : Int)) (k : Nat) (hi10 : k ≤ nL ∧ L.take k = M.take k) (h11 : (k : Int) < (nL : Int)) (x12 : Int) (hx13 : L[k]? = some x12) (x14 : Int) (hx15 : M[k]? = some x14) (h20 : x12 = x14) : k + 1 ≤ nL ∧ L.take (k + 1) = M.take (k + 1) := by
  exact ⟨by omega, take_next (And.right ‹_ ∧ L.take _ = M.take _›) ‹L[_]? = some _› ‹M[_]? = some _› ‹_›⟩
theorem z_c_laws_eqIntS_23 (L : List Int) (nL : Nat) (hbdL : (nL : Int) ≤ 9223372036854775807) (hleL : nL = L.length) (M : List Int) (nM : Nat) (hbdM : (nM : Int) ≤ 9223372036854775807) (hleM : nM = M.length) (h1 : (nL : Int) = (nM : Int)) (k : Nat) (hi10 : k ≤ nL ∧ L.take k = M.take k) (h11 : (k : Int) < (nL : Int)) (x12 : Int) (hx13 : L[k]? = some x12) (x14 : Int) (hx15 : M[k]? = some x14) (h20 : x12 = x14) : nL - (k + 1) < nL - k := by
  omega
theorem z_c_laws_eqIntS_24 (L : List Int) (nL : Nat) (hbdL : (nL : Int) ≤ 9223372036854775807) (hleL : nL = L.length) (M : List Int) (nM : Nat) (hbdM : (nM : Int) ≤ 9223372036854775807) (hleM : nM = M.length) (h1 : (nL : Int) = (nM : Int)) (k : Nat) (hi10 : k ≤ nL ∧ L.take k = M.take k) (h11 : ¬ ((k : Int) < (nL : Int))) : L = M := by
  first | (intro e; subst e; omega) | exact ne_at ‹L[_]? = some _› ‹M[_]? = some _› ‹_› | exact take_end (And.right ‹_ ∧ L.take _ = M.take _›) hleL hleM (by omega) ‹_›
theorem c_laws_eqIntS (w : World) {AL : Option Addr} {nL cL BL : Nat}  (L : List Int) (hL : SlR w BL encI 1 AL nL cL L) {AM : Option Addr} {nM cM BM : Nat}  (M : List Int) (hM : SlR w BM encI 1 AM nM cM M) : Calls Try.prog 63 #[.slice AL nL cL, .slice AM nM cM] w fun e w' => e = .returned (.bool (decide (L = M))) ∧ Lo w w' := by
  refine calls_W 26 Try.func63 rfl rfl rfl ?_
  have hbdL := hL.bound
  have hleL := hL.len
  have hBbL := hL.bd
  have hbdM := hM.bound
  have hleM := hM.len
  have hBbM := hM.bd
  refine W.seq ?_
  refine W.regS (SR.q' (r_as (v := .bool false) rfl) <| SR.nil ?_)
  refine W.seq ?_
  refine W.seq ?_
  refine W.regS (SR.q' (r_mv (v := .slice _ _ _) rfl) <| SR.q' (r_len und22 rfl) <| SR.q' (r_mv (v := .slice _ _ _) rfl) <| SR.q' (r_len und22 rfl) <| SR.q' (r_ne rfl rfl) <| SR.nil ?_)
  refine W.cond_n rfl (fun h1 => ?_) (fun h1 => ?_)
  · refine W.seq ?_
    refine W.regS (SR.q' (r_as (v := .bool false) rfl) <| SR.nil ?_)
    refine W.ret ?_
    refine ret1 rfl (v := .bool _) rfl ?_
    exact ⟨eR (eDF (z_c_laws_eqIntS_2 L nL hbdL hleL M nM hbdM hleM h1)), (Lo.refl w)⟩
  · refine W.skip ?_
    refine W.seq ?_
    refine W.seq ?_
    refine W.regS (SR.q' (r_as (v := .int .i64 0) rfl) <| SR.nil ?_)
    refine W.block ?_
    refine W.loop (σ := Nat) (fun g => [(0, .slice AL nL cL), (1, .slice AM nM cM), (5, .int .i64 (g : Int))]) (fun g w' => (Lo w w') ∧ (SlR w' BL encI 1 AL nL cL L) ∧ (SlR w' BM encI 1 AM nM cM M) ∧ (g ≤ nL ∧ L.take g = M.take g)) (fun g => nL - g) 0 ?_ ?_ ?_
    · exact ⟨rfl, rfl, rfl, trivial⟩
    · exact ⟨(Lo.refl w), hL, hM, (z_c_laws_eqIntS_3 L nL hbdL hleL M nM hbdM hleM h1)⟩
    · rintro k f4 w5 hP7
      obtain ⟨hB6, hm8, hm9, hi10⟩ : (Lo w w5) ∧ (SlR w5 BL encI 1 AL nL cL L) ∧ (SlR w5 BM encI 1 AM nM cM M) ∧ (k ≤ nL ∧ L.take k = M.take k) := hP7
      refine (?_ : W _ _ _ _ _ (act _ (sets f4 [(0, .slice AL nL cL), (1, .slice AM nM cM), (5, .int .i64 (k : Int))])) _)
      have hzw5 := hB6.size
      refine W.seq ?_
      refine W.seq ?_
      refine W.regS (SR.q' (r_mv (v := .int .i64 _) rfl) <| SR.q' (r_mv (v := .slice _ _ _) rfl) <| SR.q' (r_len und22 rfl) <| SR.q' (r_lt rfl rfl) <| SR.nil ?_)
      refine W.cond_d rfl (fun h11 => ?_) (fun h11 => ?_)
      · refine W.skip ?_
        refine W.seq ?_
        refine W.block ?_
        refine W.seq ?_
        refine W.regD mo (by kernel_rfl) (QR.q' (fun w' hw' => r_mv (v := .slice _ _ _) rfl) <| QR.q' (fun w' hw' => r_mv (v := .int .i64 _) rfl) <| ?_)
        obtain ⟨x12, hx13⟩ := (hm8).get (i := k) (by omega)
        refine QR.q' (fun w' hw' => r_ixR tsl22 (((hm8).lo hw')) rfl rfl (by omega)) <| QR.q' (fun w' hw' => r_ld (v := .int .i64 x12) sca3 rfl ((((hm8).lo hw')).cell0 hx13 rfl)) <| QR.q' (fun w' hw' => r_mv (v := .slice _ _ _) rfl) <| QR.q' (fun w' hw' => r_mv (v := .int .i64 _) rfl) <| ?_
        obtain ⟨x14, hx15⟩ := (hm9).get (i := k) (by omega)
        refine QR.q' (fun w' hw' => r_ixR tsl22 (((hm9).lo hw')) rfl rfl (by omega)) <| QR.q' (fun w' hw' => r_ld (v := .int .i64 x14) sca3 rfl ((((hm9).lo hw')).cell0 hx15 rfl)) <| QR.q' (fun w' hw' => r_ne rfl rfl) <| QR.nil ?_
        intro w16 hk17
        have hz18 := hk17.size
        have hB19 := hB6.lo hk17
        refine W.cond_n rfl (fun h20 => ?_) (fun h20 => ?_)
        · refine W.seq ?_
          refine W.regS (SR.q' (r_as (v := .bool false) rfl) <| SR.nil ?_)
          refine W.ret ?_
          refine ret1 rfl (v := .bool _) rfl ?_
          exact ⟨eR (eDF (z_c_laws_eqIntS_21 L nL hbdL hleL M nM hbdM hleM h1 k hi10 h11 x12 hx13 x14 hx15 h20)), hB19⟩
        · refine W.skip ?_
          refine W.regS (SR.q' (r_mv (v := .int .i64 _) rfl) <| SR.q' (r_add rfl rfl (by omega)) <| SR.q' (r_as (v := .int .i64 _) rfl) <| SR.nil ?_)
          refine ⟨k + 1, _, rfl, ⟨rfl, rfl, rfl, trivial⟩, ⟨hB19, (hm8).lo hk17, (hm9).lo hk17, ?_⟩, ?_⟩
          · exact (z_c_laws_eqIntS_22 L nL hbdL hleL M nM hbdM hleM h1 k hi10 h11 x12 hx13 x14 hx15 h20)
          · exact (z_c_laws_eqIntS_23 L nL hbdL hleL M nM hbdM hleM h1 k hi10 h11 x12 hx13 x14 hx15 h20)
      · refine W.exit (xin_here ?_)
        refine W.seq ?_
        refine W.regS (SR.q' (r_as (v := .bool true) rfl) <| SR.nil ?_)
        refine W.ret ?_
        refine ret1 rfl (v := .bool _) rfl ?_
        exact ⟨eR (eDT (z_c_laws_eqIntS_24 L nL hbdL hleL M nM hbdM hleM h1 k hi10 h11)), hB6⟩

theorem z_c_laws_markIntS_1 (L : List Int) (nL : Nat) (hbdL : (nL : Int) ≤ 9223372036854775807) (hleL : nL = L.length) (k : Int) (hp0 : 0 ≤ k) (hp1 : k ≤ 1000000000) (hp2 : (nL : Int) ≤ 1048576) : 0 ≤ nL := by
  omega
theorem z_c_laws_markIntS_2 (L : List Int) (nL : Nat) (hbdL : (nL : Int) ≤ 9223372036854775807) (hleL : nL = L.length) (k : Int) (hp0 : 0 ≤ k) (hp1 : k ≤ 1000000000) (hp2 : (nL : Int) ≤ 1048576) : L = mkL mkInt 1 0 k ++ L.drop 0 := by
  exact mkL_init
theorem z_c_laws_markIntS_19 (L : List Int) (nL : Nat) (hbdL : (nL : Int) ≤ 9223372036854775807) (hleL : nL = L.length) (k : Int) (hp0 : 0 ≤ k) (hp1 : k ≤ 1000000000) (hp2 : (nL : Int) ≤ 1048576) (i : Nat) (hi8 : i ≤ nL) (h9 : (i : Int) < (nL : Int)) (x10 : Int) (hx11 : (mkL mkInt 1 i k ++ L.drop i)[i]? = some x10) : (mkL mkInt 1 i k ++ L.drop i).set ((i : Int).toNat) (k + 1 * (i : Int)) = mkL mkInt 1 (i + 1) k ++ L.drop (i + 1) := by
  exact mkL_set (by omega) (by first | (simp [mkInt]; done) | (simp [mkInt]; omega))
theorem z_c_laws_markIntS_20 (L : List Int) (nL : Nat) (hbdL : (nL : Int) ≤ 9223372036854775807) (hleL : nL = L.length) (k : Int) (hp0 : 0 ≤ k) (hp1 : k ≤ 1000000000) (hp2 : (nL : Int) ≤ 1048576) (i : Nat) (hi8 : i ≤ nL) (h9 : (i : Int) < (nL : Int)) (x10 : Int) (hx11 : (mkL mkInt 1 i k ++ L.drop i)[i]? = some x10) : i + 1 ≤ nL := by
  omega
theorem z_c_laws_markIntS_21 (L : List Int) (nL : Nat) (hbdL : (nL : Int) ≤ 9223372036854775807) (hleL : nL = L.length) (k : Int) (hp0 : 0 ≤ k) (hp1 : k ≤ 1000000000) (hp2 : (nL : Int) ≤ 1048576) (i : Nat) (hi8 : i ≤ nL) (h9 : (i : Int) < (nL : Int)) (x10 : Int) (hx11 : (mkL mkInt 1 i k ++ L.drop i)[i]? = some x10) : nL - (i + 1) < nL - i := by
  omega
theorem z_c_laws_markIntS_22 (L : List Int) (nL : Nat) (hbdL : (nL : Int) ≤ 9223372036854775807) (hleL : nL = L.length) (k : Int) (hp0 : 0 ≤ k) (hp1 : k ≤ 1000000000) (hp2 : (nL : Int) ≤ 1048576) (i : Nat) (hi8 : i ≤ nL) (h9 : ¬ ((i : Int) < (nL : Int))) : k + 1 * (i : Int) = k + 1 * (L.length : Int) := by
  first | omega | exact mkL_end hleL (by assumption) (by omega)
theorem z_c_laws_markIntS_23 (L : List Int) (nL : Nat) (hbdL : (nL : Int) ≤ 9223372036854775807) (hleL : nL = L.length) (k : Int) (hp0 : 0 ≤ k) (hp1 : k ≤ 1000000000) (hp2 : (nL : Int) ≤ 1048576) (i : Nat) (hi8 : i ≤ nL) (h9 : ¬ ((i : Int) < (nL : Int))) : mkL mkInt 1 i k ++ L.drop i = mkL mkInt 1 L.length k := by
  first | omega | exact mkL_end hleL (by assumption) (by omega)
theorem c_laws_markIntS (w : World) {AL : Option Addr} {nL cL BL : Nat}  (L : List Int) (hL : SlO w BL encI 1 3 AL nL cL L) (k : Int) (hp0 : 0 ≤ k) (hp1 : k ≤ 1000000000) (hp2 : (nL : Int) ≤ 1048576) : Calls Try.prog 64 #[.slice AL nL cL, .int .i64 k] w fun e w' => e = .returned (.int .i64 (k + 1 * (L.length : Int))) ∧ SlO w' BL encI 1 3 AL nL cL (mkL mkInt 1 L.length k) ∧ Kp (fun b_ => AL = some ⟨b_, 0, none⟩) w w' := by
  refine calls_W 19 Try.func64 rfl rfl rfl ?_
  have hbdL := hL.rd.bound
  have hleL := hL.len
  have hBbL := hL.bd
  refine W.seq ?_
  refine W.regS (SR.q' (r_as (v := .int .i64 0) rfl) <| SR.nil ?_)
  refine W.seq ?_
  refine W.seq ?_
  refine W.regS (SR.q' (r_as (v := .int .i64 0) rfl) <| SR.nil ?_)
  refine W.block ?_
  refine W.loop (σ := Nat) (fun g => [(0, .slice AL nL cL), (1, .int .i64 (k + 1 * (g : Int))), (4, .int .i64 0), (5, .int .i64 (g : Int))]) (fun g w' => (Kp (fun b_ => AL = some ⟨b_, 0, none⟩) w w') ∧ (SlO w' BL encI 1 3 AL nL cL (mkL mkInt 1 g k ++ L.drop g)) ∧ (g ≤ nL)) (fun g => nL - g) 0 ?_ ?_ ?_
  · exact ⟨rfl, (eI (by first | omega | (dsimp only; omega))), rfl, (eI (by first | omega | (dsimp only; omega))), trivial⟩
  · exact ⟨(Kp.refl w : Kp (fun b_ => AL = some ⟨b_, 0, none⟩) w w), (SlO.eqv (hL) (z_c_laws_markIntS_2 L nL hbdL hleL k hp0 hp1 hp2)), (z_c_laws_markIntS_1 L nL hbdL hleL k hp0 hp1 hp2)⟩
  · rintro i f3 w4 hP6
    obtain ⟨hB5, hm7, hi8⟩ : (Kp (fun b_ => AL = some ⟨b_, 0, none⟩) w w4) ∧ (SlO w4 BL encI 1 3 AL nL cL (mkL mkInt 1 i k ++ L.drop i)) ∧ (i ≤ nL) := hP6
    refine (?_ : W _ _ _ _ _ (act _ (sets f3 [(0, .slice AL nL cL), (1, .int .i64 (k + 1 * (i : Int))), (4, .int .i64 0), (5, .int .i64 (i : Int))])) _)
    have hzw4 := hB5.size
    refine W.seq ?_
    refine W.seq ?_
    refine W.regS (SR.q' (r_mv (v := .int .i64 _) rfl) <| SR.q' (r_mv (v := .slice _ _ _) rfl) <| SR.q' (r_len und22 rfl) <| SR.q' (r_lt rfl rfl) <| SR.nil ?_)
    refine W.cond_d rfl (fun h9 => ?_) (fun h9 => ?_)
    · refine W.skip ?_
      refine W.seq ?_
      refine W.block ?_
      refine W.seq ?_
      refine W.regS (SR.q' (r_mv (v := .slice _ _ _) rfl) <| SR.q' (r_mv (v := .int .i64 _) rfl) <| SR.q' (r_mv (v := .int .i64 _) rfl) <| ?_)
      obtain ⟨x10, hx11⟩ := ((hm7).rd).get (i := i) (by omega)
      refine SR.q' (r_ixR tsl22 ((hm7).rd) rfl rfl (by omega)) <| SR.storeO (o := 0) (vs := [.int .i64 (k + 1 * (i : Int))]) (x1 := k + 1 * (i : Int)) sca3.2 rfl rfl rfl rfl (hm7) hx11 rfl (Nat.le_of_ble_eq_true rfl) rfl ?_
      intro w12 hk13 hs14 hO15
      have hz16 := hk13.size
      have hB17 := hB5.step hk13 (fun i_ hi_ e' => by have := ((hm7)).base_le e'; first | omega | (exfalso; omega) | exact e' | exact .inl e' | exact .inr e')
      have hx18 : ((mkL mkInt 1 i k ++ L.drop i).set ((i : Int).toNat) (k + 1 * (i : Int)))[(i : Int).toNat]? = some (k + 1 * (i : Int)) := List.getElem?_set_self (List.getElem?_eq_some_iff.1 hx11).1
      refine SR.nil ?_
      refine W.regS (SR.q' (r_mv (v := .int .i64 _) rfl) <| SR.q' (r_add rfl rfl (by omega)) <| SR.q' (r_as (v := .int .i64 _) rfl) <| SR.nil ?_)
      refine W.regS (SR.q' (r_mv (v := .int .i64 _) rfl) <| SR.q' (r_add rfl rfl (by omega)) <| SR.q' (r_as (v := .int .i64 _) rfl) <| SR.nil ?_)
      refine ⟨i + 1, _, rfl, ⟨rfl, (eI (by first | omega | (dsimp only; omega))), rfl, (eI (by first | omega | (dsimp only; omega))), trivial⟩, ⟨hB17, (SlO.eqv (hO15) (z_c_laws_markIntS_19 L nL hbdL hleL k hp0 hp1 hp2 i hi8 h9 x10 hx11)), ?_⟩, ?_⟩
      · exact (z_c_laws_markIntS_20 L nL hbdL hleL k hp0 hp1 hp2 i hi8 h9 x10 hx11)
      · exact (z_c_laws_markIntS_21 L nL hbdL hleL k hp0 hp1 hp2 i hi8 h9 x10 hx11)
    · refine W.exit (xin_here ?_)
      refine W.seq ?_
      refine W.regS (SR.q' (r_mv (v := .int .i64 _) rfl) <| SR.q' (r_as (v := .int .i64 _) rfl) <| SR.nil ?_)
      refine W.ret ?_
      refine ret1 rfl (v := .int .i64 _) rfl ?_
      exact ⟨eR (eI (z_c_laws_markIntS_22 L nL hbdL hleL k hp0 hp1 hp2 i hi8 h9)), (SlO.eqv (hm7) (z_c_laws_markIntS_23 L nL hbdL hleL k hp0 hp1 hp2 i hi8 h9)), hB5⟩

theorem z_c_laws_heldIntS_1 (L : List Int) (nL : Nat) (hbdL : (nL : Int) ≤ 9223372036854775807) (hleL : nL = L.length) (k : Int) (m : Nat) (hp0 : 0 ≤ k) (hp1 : k ≤ 1000000000) (hp2 : (nL : Int) ≤ 1048576) (hp3 : L = mkL mkInt 1 m k) : 0 ≤ nL := by
  omega
theorem z_c_laws_heldIntS_12 (L : List Int) (nL : Nat) (hbdL : (nL : Int) ≤ 9223372036854775807) (hleL : nL = L.length) (k : Int) (m : Nat) (hp0 : 0 ≤ k) (hp1 : k ≤ 1000000000) (hp2 : (nL : Int) ≤ 1048576) (hp3 : L = mkL mkInt 1 m k) (i : Nat) (hi7 : i ≤ nL) (h8 : (i : Int) < (nL : Int)) (x9 : Int) (hx10 : L[i]? = some x9) (h11 : ¬ (x9 = (k + 1 * (i : Int)))) : (-1) = k + 1 * (m : Int) := by
  first | omega | (rw [hp3, mkL_len] at hleL; omega) | (exfalso; subst hp3; obtain rfl := mkL_get ‹_[_]? = some _›; first | (simp_all [mkInt]; done) | (simp only [mkInt] at *; omega))
theorem z_c_laws_heldIntS_13 (L : List Int) (nL : Nat) (hbdL : (nL : Int) ≤ 9223372036854775807) (hleL : nL = L.length) (k : Int) (m : Nat) (hp0 : 0 ≤ k) (hp1 : k ≤ 1000000000) (hp2 : (nL : Int) ≤ 1048576) (hp3 : L = mkL mkInt 1 m k) (i : Nat) (hi7 : i ≤ nL) (h8 : (i : Int) < (nL : Int)) (x9 : Int) (hx10 : L[i]? = some x9) (h11 : x9 = (k + 1 * (i : Int))) : i + 1 ≤ nL := by
  omega
theorem z_c_laws_heldIntS_14 (L : List Int) (nL : Nat) (hbdL : (nL : Int) ≤ 9223372036854775807) (hleL : nL = L.length) (k : Int) (m : Nat) (hp0 : 0 ≤ k) (hp1 : k ≤ 1000000000) (hp2 : (nL : Int) ≤ 1048576) (hp3 : L = mkL mkInt 1 m k) (i : Nat) (hi7 : i ≤ nL) (h8 : (i : Int) < (nL : Int)) (x9 : Int) (hx10 : L[i]? = some x9) (h11 : x9 = (k + 1 * (i : Int))) : nL - (i + 1) < nL - i := by
  omega
theorem z_c_laws_heldIntS_15 (L : List Int) (nL : Nat) (hbdL : (nL : Int) ≤ 9223372036854775807) (hleL : nL = L.length) (k : Int) (m : Nat) (hp0 : 0 ≤ k) (hp1 : k ≤ 1000000000) (hp2 : (nL : Int) ≤ 1048576) (hp3 : L = mkL mkInt 1 m k) (i : Nat) (hi7 : i ≤ nL) (h8 : ¬ ((i : Int) < (nL : Int))) : k + 1 * (i : Int) = k + 1 * (m : Int) := by
  first | omega | (rw [hp3, mkL_len] at hleL; omega) | (exfalso; subst hp3; obtain rfl := mkL_get ‹_[_]? = some _›; first | (simp_all [mkInt]; done) | (simp only [mkInt] at *; omega))
theorem c_laws_heldIntS (w : World) {AL : Option Addr} {nL cL BL : Nat}  (L : List Int) (hL : SlR w BL encI 1 AL nL cL L) (k : Int) (m : Nat) (hp0 : 0 ≤ k) (hp1 : k ≤ 1000000000) (hp2 : (nL : Int) ≤ 1048576) (hp3 : L = mkL mkInt 1 m k) : Calls Try.prog 65 #[.slice AL nL cL, .int .i64 k] w fun e w' => e = .returned (.int .i64 (k + 1 * (m : Int))) ∧ Lo w w' := by
  refine calls_W 21 Try.func65 rfl rfl rfl ?_
  have hbdL := hL.bound
  have hleL := hL.len
  have hBbL := hL.bd
  refine W.seq ?_
  refine W.regS (SR.q' (r_as (v := .int .i64 0) rfl) <| SR.nil ?_)
  refine W.seq ?_
  refine W.seq ?_
  refine W.regS (SR.q' (r_as (v := .int .i64 0) rfl) <| SR.nil ?_)
  refine W.block ?_
  refine W.loop (σ := Nat) (fun g => [(0, .slice AL nL cL), (1, .int .i64 (k + 1 * (g : Int))), (5, .int .i64 (g : Int))]) (fun g w' => (Lo w w') ∧ (SlR w' BL encI 1 AL nL cL L) ∧ (g ≤ nL)) (fun g => nL - g) 0 ?_ ?_ ?_
  · exact ⟨rfl, (eI (by first | omega | (dsimp only; omega))), (eI (by first | omega | (dsimp only; omega))), trivial⟩
  · exact ⟨(Lo.refl w), hL, (z_c_laws_heldIntS_1 L nL hbdL hleL k m hp0 hp1 hp2 hp3)⟩
  · rintro i f2 w3 hP5
    obtain ⟨hB4, hm6, hi7⟩ : (Lo w w3) ∧ (SlR w3 BL encI 1 AL nL cL L) ∧ (i ≤ nL) := hP5
    refine (?_ : W _ _ _ _ _ (act _ (sets f2 [(0, .slice AL nL cL), (1, .int .i64 (k + 1 * (i : Int))), (5, .int .i64 (i : Int))])) _)
    have hzw3 := hB4.size
    refine W.seq ?_
    refine W.seq ?_
    refine W.regS (SR.q' (r_mv (v := .int .i64 _) rfl) <| SR.q' (r_mv (v := .slice _ _ _) rfl) <| SR.q' (r_len und22 rfl) <| SR.q' (r_lt rfl rfl) <| SR.nil ?_)
    refine W.cond_d rfl (fun h8 => ?_) (fun h8 => ?_)
    · refine W.skip ?_
      refine W.seq ?_
      refine W.block ?_
      refine W.seq ?_
      refine W.seq ?_
      refine W.regS (SR.q' (r_mv (v := .slice _ _ _) rfl) <| SR.q' (r_mv (v := .int .i64 _) rfl) <| ?_)
      obtain ⟨x9, hx10⟩ := (hm6).get (i := i) (by omega)
      refine SR.q' (r_ixR tsl22 (hm6) rfl rfl (by omega)) <| SR.q' (r_ld (v := .int .i64 x9) sca3 rfl ((hm6).cell0 hx10 rfl)) <| SR.q' (r_mv (v := .int .i64 _) rfl) <| SR.q' (r_ne rfl rfl) <| SR.nil ?_
      refine W.cond_n rfl (fun h11 => ?_) (fun h11 => ?_)
      · refine W.seq ?_
        refine W.regS (SR.q' (r_as (v := .int .i64 (-1)) rfl) <| SR.nil ?_)
        refine W.ret ?_
        refine ret1 rfl (v := .int .i64 _) rfl ?_
        exact ⟨eR (eI (z_c_laws_heldIntS_12 L nL hbdL hleL k m hp0 hp1 hp2 hp3 i hi7 h8 x9 hx10 h11)), hB4⟩
      · refine W.skip ?_
        refine W.regS (SR.q' (r_mv (v := .int .i64 _) rfl) <| SR.q' (r_add rfl rfl (by omega)) <| SR.q' (r_as (v := .int .i64 _) rfl) <| SR.nil ?_)
        refine W.regS (SR.q' (r_mv (v := .int .i64 _) rfl) <| SR.q' (r_add rfl rfl (by omega)) <| SR.q' (r_as (v := .int .i64 _) rfl) <| SR.nil ?_)
        refine ⟨i + 1, _, rfl, ⟨rfl, (eI (by first | omega | (dsimp only; omega))), (eI (by first | omega | (dsimp only; omega))), trivial⟩, ⟨hB4, hm6, ?_⟩, ?_⟩
        · exact (z_c_laws_heldIntS_13 L nL hbdL hleL k m hp0 hp1 hp2 hp3 i hi7 h8 x9 hx10 h11)
        · exact (z_c_laws_heldIntS_14 L nL hbdL hleL k m hp0 hp1 hp2 hp3 i hi7 h8 x9 hx10 h11)
    · refine W.exit (xin_here ?_)
      refine W.seq ?_
      refine W.regS (SR.q' (r_mv (v := .int .i64 _) rfl) <| SR.q' (r_as (v := .int .i64 _) rfl) <| SR.nil ?_)
      refine W.ret ?_
      refine ret1 rfl (v := .int .i64 _) rfl ?_
      exact ⟨eR (eI (z_c_laws_heldIntS_15 L nL hbdL hleL k m hp0 hp1 hp2 hp3 i hi7 h8)), hB4⟩

theorem c_laws_toChest (w : World) (r : Chest) {Ar_Stack : Option Addr} {nr_Stack cr_Stack Br_Stack : Nat} (hr_Stack : SlR w Br_Stack encI 1 Ar_Stack nr_Stack cr_Stack r.Stack) (hp0 : (nr_Stack : Int) ≤ 1048576) : Calls Try.prog 11 #[.agg (List.toArray [.int .i64 r.State, .int .i64 r.Key, .slice Ar_Stack nr_Stack cr_Stack, .int .i64 r.Dust, .int .i64 r.Laid, .int .i64 r.Given])] w fun e w' => ∃ (A1' : Option Addr) (n1' c1' : Nat), e = .returned (.agg (List.toArray [.int .i64 r.State, .int .i64 r.Key, .slice A1' n1' c1', .int .i64 r.Dust, .int .i64 r.Laid, .int .i64 r.Given])) ∧ SlO w' w.heap.size encI 1 3 A1' n1' c1' r.Stack ∧ Lo w w' := by
  refine calls_W 24 Try.func11 rfl rfl rfl ?_
  have hbdr_Stack := hr_Stack.bound
  have hler_Stack := hr_Stack.len
  have hBbr_Stack := hr_Stack.bd
  refine W.seq ?_
  refine W.regS (SR.box (v := .agg (List.toArray _)) (l := [.int .i64 r.State, .int .i64 r.Key, .slice Ar_Stack nr_Stack cr_Stack, .int .i64 r.Dust, .int .i64 r.Laid, .int .i64 r.Given]) rfl rfl ?_)
  intro g1 w2 hg3 hk4 hs5 hb6
  have hz7 := hk4.size
  have hB8 := (Lo.refl w).lo hk4
  refine SR.alloc (l := [.int .i64 0, .int .i64 0, .slice none 0 0, .int .i64 0, .int .i64 0, .int .i64 0]) tz28 rfl ?_
  intro g9 w10 hg11 hk12 hs13 hb14
  have hz15 := hk12.size
  have hB16 := hB8.lo hk12
  refine SR.nil ?_
  refine W.seq ?_
  refine W.regS (SR.alloc (l := [.int .i64 0, .int .i64 0, .slice none 0 0, .int .i64 0, .int .i64 0, .int .i64 0]) tz28 rfl ?_)
  intro g17 w18 hg19 hk20 hs21 hb22
  have hz23 := hk20.size
  have hB24 := hB16.lo hk20
  refine SR.nil ?_
  refine W.seq ?_
  refine W.regS (SR.q' (r_fa fa24_0 rfl) <| SR.q' (r_ld (v := .int .i64 r.State) sca3 rfl ((((hb6).lo hk12).lo hk20).cell rfl)) <| SR.q' (r_fa fa28_0 rfl) <| SR.store (o := 0) (vs := [.int .i64 r.State]) sca3.2 rfl rfl rfl rfl (hb22) (Nat.le_of_ble_eq_true rfl) rfl ?_)
  intro w25 hk26 hs27 hb28
  have hz29 := hk26.size
  have hB30 := hB24.new hk26 (by omega)
  refine SR.nil ?_
  refine W.seq ?_
  refine W.regS (SR.q' (r_fa fa24_1 rfl) <| SR.q' (r_ld (v := .int .i64 r.Key) sca3 rfl (((((hb6).lo hk12).lo hk20).kp hk26 (fun e' => by have e'' : g1 = g17 := e'; omega)).cell rfl)) <| SR.q' (r_fa fa28_1 rfl) <| SR.store (o := 1) (vs := [.int .i64 r.Key]) sca3.2 rfl rfl rfl rfl (hb28) (Nat.le_of_ble_eq_true rfl) rfl ?_)
  intro w31 hk32 hs33 hb34
  have hz35 := hk32.size
  have hB36 := hB30.new hk32 (by omega)
  refine SR.nil ?_
  refine W.seq ?_
  refine W.regS (SR.q' (r_fa fa24_2 rfl) <| SR.q' (r_ld (v := .slice Ar_Stack nr_Stack cr_Stack) sca22 rfl ((((((hb6).lo hk12).lo hk20).kp hk26 (fun e' => by have e'' : g1 = g17 := e'; omega)).kp hk32 (fun e' => by have e'' : g1 = g17 := e'; omega)).cell rfl)) <| SR.call ent61 (c_laws_toIntS w31 r.Stack (((((((hr_Stack).lo hk4).lo hk12).lo hk20).kp hk26 (fun b_ hb e' => by have e'' : b_ = g17 := e'; omega)).kp hk32 (fun b_ hb e' => by have e'' : b_ = g17 := e'; omega))) (by omega)) rfl ?_)
  rintro e w37 ⟨A39, n40, c41, rfl, hO42, hk38⟩
  refine ⟨_, rfl, ?_⟩
  have hz43 := hk38.size
  have hB44 := hB36.lo hk38
  have hl45 := hO42.len
  have hl46 := hO42.rd.bound
  refine SR.q' (r_fa fa28_2 rfl) <| SR.store (o := 2) (vs := [.slice A39 n40 c41]) sca22.2 rfl rfl rfl rfl ((hb34).lo hk38) (Nat.le_of_ble_eq_true rfl) rfl ?_
  intro w47 hk48 hs49 hb50
  have hz51 := hk48.size
  have hB52 := hB44.new hk48 (by omega)
  refine SR.nil ?_
  refine W.seq ?_
  refine W.regS (SR.q' (r_fa fa24_3 rfl) <| SR.q' (r_ld (v := .int .i64 r.Dust) sca3 rfl ((((((((hb6).lo hk12).lo hk20).kp hk26 (fun e' => by have e'' : g1 = g17 := e'; omega)).kp hk32 (fun e' => by have e'' : g1 = g17 := e'; omega)).lo hk38).kp hk48 (fun e' => by have e'' : g1 = g17 := e'; omega)).cell rfl)) <| SR.q' (r_fa fa28_3 rfl) <| SR.store (o := 3) (vs := [.int .i64 r.Dust]) sca3.2 rfl rfl rfl rfl (hb50) (Nat.le_of_ble_eq_true rfl) rfl ?_)
  intro w53 hk54 hs55 hb56
  have hz57 := hk54.size
  have hB58 := hB52.new hk54 (by omega)
  refine SR.nil ?_
  refine W.seq ?_
  refine W.regS (SR.q' (r_fa fa24_4 rfl) <| SR.q' (r_ld (v := .int .i64 r.Laid) sca3 rfl (((((((((hb6).lo hk12).lo hk20).kp hk26 (fun e' => by have e'' : g1 = g17 := e'; omega)).kp hk32 (fun e' => by have e'' : g1 = g17 := e'; omega)).lo hk38).kp hk48 (fun e' => by have e'' : g1 = g17 := e'; omega)).kp hk54 (fun e' => by have e'' : g1 = g17 := e'; omega)).cell rfl)) <| SR.q' (r_fa fa28_4 rfl) <| SR.store (o := 4) (vs := [.int .i64 r.Laid]) sca3.2 rfl rfl rfl rfl (hb56) (Nat.le_of_ble_eq_true rfl) rfl ?_)
  intro w59 hk60 hs61 hb62
  have hz63 := hk60.size
  have hB64 := hB58.new hk60 (by omega)
  refine SR.nil ?_
  refine W.seq ?_
  refine W.regS (SR.q' (r_fa fa24_5 rfl) <| SR.q' (r_ld (v := .int .i64 r.Given) sca3 rfl ((((((((((hb6).lo hk12).lo hk20).kp hk26 (fun e' => by have e'' : g1 = g17 := e'; omega)).kp hk32 (fun e' => by have e'' : g1 = g17 := e'; omega)).lo hk38).kp hk48 (fun e' => by have e'' : g1 = g17 := e'; omega)).kp hk54 (fun e' => by have e'' : g1 = g17 := e'; omega)).kp hk60 (fun e' => by have e'' : g1 = g17 := e'; omega)).cell rfl)) <| SR.q' (r_fa fa28_5 rfl) <| SR.store (o := 5) (vs := [.int .i64 r.Given]) sca3.2 rfl rfl rfl rfl (hb62) (Nat.le_of_ble_eq_true rfl) rfl ?_)
  intro w65 hk66 hs67 hb68
  have hz69 := hk66.size
  have hB70 := hB64.new hk66 (by omega)
  refine SR.nil ?_
  refine W.seq ?_
  refine W.regS (SR.q' (r_lda (l := [.int .i64 r.State, .int .i64 r.Key, .slice A39 n40 c41, .int .i64 r.Dust, .int .i64 r.Laid, .int .i64 r.Given]) agg28 rfl (fun _ _ hu => (hb68).cell hu) rfl) <| SR.store (o := 0) (vs := [.int .i64 r.State, .int .i64 r.Key, .slice A39 n40 c41, .int .i64 r.Dust, .int .i64 r.Laid, .int .i64 r.Given]) agg28.2 rfl rfl rfl rfl (((((((((hb14).lo hk20).kp hk26 (fun e' => by have e'' : g9 = g17 := e'; omega)).kp hk32 (fun e' => by have e'' : g9 = g17 := e'; omega)).lo hk38).kp hk48 (fun e' => by have e'' : g9 = g17 := e'; omega)).kp hk54 (fun e' => by have e'' : g9 = g17 := e'; omega)).kp hk60 (fun e' => by have e'' : g9 = g17 := e'; omega)).kp hk66 (fun e' => by have e'' : g9 = g17 := e'; omega)) (Nat.le_of_ble_eq_true rfl) rfl ?_)
  intro w71 hk72 hs73 hb74
  have hz75 := hk72.size
  have hB76 := hB70.new hk72 (by omega)
  refine SR.nil ?_
  refine W.ret ?_
  refine retC rfl rfl agg28 (hb74) rfl ?_
  exact ⟨A39, n40, c41, eR rfl, (((((((hO42).kp hk48 (fun b_ hb e' => by have e'' : b_ = g17 := e'; have := (hO42).base_le hb; omega)).kp hk54 (fun b_ hb e' => by have e'' : b_ = g17 := e'; have := ((hO42).kp hk48 (fun b_ hb e' => by have e'' : b_ = g17 := e'; have := (hO42).base_le hb; omega)).base_le hb; omega)).kp hk60 (fun b_ hb e' => by have e'' : b_ = g17 := e'; have := (((hO42).kp hk48 (fun b_ hb e' => by have e'' : b_ = g17 := e'; have := (hO42).base_le hb; omega)).kp hk54 (fun b_ hb e' => by have e'' : b_ = g17 := e'; have := ((hO42).kp hk48 (fun b_ hb e' => by have e'' : b_ = g17 := e'; have := (hO42).base_le hb; omega)).base_le hb; omega)).base_le hb; omega)).kp hk66 (fun b_ hb e' => by have e'' : b_ = g17 := e'; have := ((((hO42).kp hk48 (fun b_ hb e' => by have e'' : b_ = g17 := e'; have := (hO42).base_le hb; omega)).kp hk54 (fun b_ hb e' => by have e'' : b_ = g17 := e'; have := ((hO42).kp hk48 (fun b_ hb e' => by have e'' : b_ = g17 := e'; have := (hO42).base_le hb; omega)).base_le hb; omega)).kp hk60 (fun b_ hb e' => by have e'' : b_ = g17 := e'; have := (((hO42).kp hk48 (fun b_ hb e' => by have e'' : b_ = g17 := e'; have := (hO42).base_le hb; omega)).kp hk54 (fun b_ hb e' => by have e'' : b_ = g17 := e'; have := ((hO42).kp hk48 (fun b_ hb e' => by have e'' : b_ = g17 := e'; have := (hO42).base_le hb; omega)).base_le hb; omega)).base_le hb; omega)).base_le hb; omega)).kp hk72 (fun b_ hb e' => by have e'' : b_ = g9 := e'; have := (((((hO42).kp hk48 (fun b_ hb e' => by have e'' : b_ = g17 := e'; have := (hO42).base_le hb; omega)).kp hk54 (fun b_ hb e' => by have e'' : b_ = g17 := e'; have := ((hO42).kp hk48 (fun b_ hb e' => by have e'' : b_ = g17 := e'; have := (hO42).base_le hb; omega)).base_le hb; omega)).kp hk60 (fun b_ hb e' => by have e'' : b_ = g17 := e'; have := (((hO42).kp hk48 (fun b_ hb e' => by have e'' : b_ = g17 := e'; have := (hO42).base_le hb; omega)).kp hk54 (fun b_ hb e' => by have e'' : b_ = g17 := e'; have := ((hO42).kp hk48 (fun b_ hb e' => by have e'' : b_ = g17 := e'; have := (hO42).base_le hb; omega)).base_le hb; omega)).base_le hb; omega)).kp hk66 (fun b_ hb e' => by have e'' : b_ = g17 := e'; have := ((((hO42).kp hk48 (fun b_ hb e' => by have e'' : b_ = g17 := e'; have := (hO42).base_le hb; omega)).kp hk54 (fun b_ hb e' => by have e'' : b_ = g17 := e'; have := ((hO42).kp hk48 (fun b_ hb e' => by have e'' : b_ = g17 := e'; have := (hO42).base_le hb; omega)).base_le hb; omega)).kp hk60 (fun b_ hb e' => by have e'' : b_ = g17 := e'; have := (((hO42).kp hk48 (fun b_ hb e' => by have e'' : b_ = g17 := e'; have := (hO42).base_le hb; omega)).kp hk54 (fun b_ hb e' => by have e'' : b_ = g17 := e'; have := ((hO42).kp hk48 (fun b_ hb e' => by have e'' : b_ = g17 := e'; have := (hO42).base_le hb; omega)).base_le hb; omega)).base_le hb; omega)).base_le hb; omega)).base_le hb; omega)).down (by omega)), hB76⟩

theorem z_c_laws_szChest_14 (r : Chest) (nr_Stack : Nat) (hbdr_Stack : (nr_Stack : Int) ≤ 9223372036854775807) (hler_Stack : nr_Stack = r.Stack.length) (left : Int) (hp0 : 0 ≤ left) (hp1 : left ≤ 1048576) (h13 : (szN r.Stack.length left) < 0) : (-1) = szN r.Stack.length left := by
  first | exact szN_neg ‹_› | exact szN_neg1 ‹_› | exact szN_neg2 ‹_› ‹_› | exact szN_add ‹_› ‹_› | (unfold szN at *; repeat (split at *)) <;> omega
theorem c_laws_szChest (w : World) (r : Chest) {Ar_Stack : Option Addr} {nr_Stack cr_Stack Br_Stack : Nat} (hr_Stack : SlR w Br_Stack encI 1 Ar_Stack nr_Stack cr_Stack r.Stack) (left : Int) (hp0 : 0 ≤ left) (hp1 : left ≤ 1048576) : Calls Try.prog 9 #[.agg (List.toArray [.int .i64 r.State, .int .i64 r.Key, .slice Ar_Stack nr_Stack cr_Stack, .int .i64 r.Dust, .int .i64 r.Laid, .int .i64 r.Given]), .int .i64 left] w fun e w' => e = .returned (.int .i64 (szN r.Stack.length left)) ∧ Lo w w' := by
  refine calls_W 12 Try.func9 rfl rfl rfl ?_
  have hbdr_Stack := hr_Stack.bound
  have hler_Stack := hr_Stack.len
  have hBbr_Stack := hr_Stack.bd
  refine W.seq ?_
  refine W.regS (SR.box (v := .agg (List.toArray _)) (l := [.int .i64 r.State, .int .i64 r.Key, .slice Ar_Stack nr_Stack cr_Stack, .int .i64 r.Dust, .int .i64 r.Laid, .int .i64 r.Given]) rfl rfl ?_)
  intro g1 w2 hg3 hk4 hs5 hb6
  have hz7 := hk4.size
  have hB8 := (Lo.refl w).lo hk4
  refine SR.q' (r_as (v := .int .i64 0) rfl) <| SR.nil ?_
  refine W.seq ?_
  refine W.regS (SR.q' (r_fa fa24_2 rfl) <| SR.q' (r_ld (v := .slice Ar_Stack nr_Stack cr_Stack) sca22 rfl ((hb6).cell rfl)) <| SR.q' (r_mv (v := .int .i64 _) rfl) <| SR.call ent57 (c_laws_szIntS w2 r.Stack (((hr_Stack).lo hk4)) left (by omega) (by omega)) rfl ?_)
  rintro e w9 ⟨rfl, hk10⟩
  refine ⟨_, rfl, ?_⟩
  have hz11 := hk10.size
  have hB12 := hB8.lo hk10
  refine SR.q' (r_as (v := .int .i64 _) rfl) <| SR.nil ?_
  refine W.seq ?_
  refine W.seq ?_
  refine W.regS (SR.q' (r_mv (v := .int .i64 _) rfl) <| SR.q' (r_lt rfl rfl) <| SR.nil ?_)
  refine W.cond_d rfl (fun h13 => ?_) (fun h13 => ?_)
  · refine W.seq ?_
    refine W.regS (SR.q' (r_as (v := .int .i64 (-1)) rfl) <| SR.nil ?_)
    refine W.ret ?_
    refine ret1 rfl (v := .int .i64 _) rfl ?_
    exact ⟨eR (eI (z_c_laws_szChest_14 r nr_Stack hbdr_Stack hler_Stack left hp0 hp1 h13)), hB12⟩
  · have hq15 := szN_ok h13
    refine W.skip ?_
    refine W.seq ?_
    refine W.regS (SR.q' (r_mv (v := .int .i64 _) rfl) <| SR.q' (r_as (v := .int .i64 _) rfl) <| SR.nil ?_)
    refine W.ret ?_
    refine ret1 rfl (v := .int .i64 _) rfl ?_
    exact ⟨eR rfl, hB12⟩

theorem z_c_laws_eqChest_18 (a : Chest) (na_Stack : Nat) (hbda_Stack : (na_Stack : Int) ≤ 9223372036854775807) (hlea_Stack : na_Stack = a.Stack.length) (b : Chest) (nb_Stack : Nat) (hbdb_Stack : (nb_Stack : Int) ≤ 9223372036854775807) (hleb_Stack : nb_Stack = b.Stack.length) (h17 : ¬ (a.State = b.State)) : ¬ (a = b) := by
  cases a; cases b; simp_all
theorem z_c_laws_eqChest_20 (a : Chest) (na_Stack : Nat) (hbda_Stack : (na_Stack : Int) ≤ 9223372036854775807) (hlea_Stack : na_Stack = a.Stack.length) (b : Chest) (nb_Stack : Nat) (hbdb_Stack : (nb_Stack : Int) ≤ 9223372036854775807) (hleb_Stack : nb_Stack = b.Stack.length) (h17 : a.State = b.State) (h19 : ¬ (a.Key = b.Key)) : ¬ (a = b) := by
  cases a; cases b; simp_all
theorem z_c_laws_eqChest_26 (a : Chest) (na_Stack : Nat) (hbda_Stack : (na_Stack : Int) ≤ 9223372036854775807) (hlea_Stack : na_Stack = a.Stack.length) (b : Chest) (nb_Stack : Nat) (hbdb_Stack : (nb_Stack : Int) ≤ 9223372036854775807) (hleb_Stack : nb_Stack = b.Stack.length) (h17 : a.State = b.State) (h19 : a.Key = b.Key) (h25 : ¬ (a.Stack = b.Stack)) : ¬ (a = b) := by
  cases a; cases b; simp_all
theorem z_c_laws_eqChest_28 (a : Chest) (na_Stack : Nat) (hbda_Stack : (na_Stack : Int) ≤ 9223372036854775807) (hlea_Stack : na_Stack = a.Stack.length) (b : Chest) (nb_Stack : Nat) (hbdb_Stack : (nb_Stack : Int) ≤ 9223372036854775807) (hleb_Stack : nb_Stack = b.Stack.length) (h17 : a.State = b.State) (h19 : a.Key = b.Key) (h25 : a.Stack = b.Stack) (h27 : ¬ (a.Dust = b.Dust)) : ¬ (a = b) := by
  cases a; cases b; simp_all
theorem z_c_laws_eqChest_30 (a : Chest) (na_Stack : Nat) (hbda_Stack : (na_Stack : Int) ≤ 9223372036854775807) (hlea_Stack : na_Stack = a.Stack.length) (b : Chest) (nb_Stack : Nat) (hbdb_Stack : (nb_Stack : Int) ≤ 9223372036854775807) (hleb_Stack : nb_Stack = b.Stack.length) (h17 : a.State = b.State) (h19 : a.Key = b.Key) (h25 : a.Stack = b.Stack) (h27 : a.Dust = b.Dust) (h29 : ¬ (a.Laid = b.Laid)) : ¬ (a = b) := by
  cases a; cases b; simp_all
theorem z_c_laws_eqChest_32 (a : Chest) (na_Stack : Nat) (hbda_Stack : (na_Stack : Int) ≤ 9223372036854775807) (hlea_Stack : na_Stack = a.Stack.length) (b : Chest) (nb_Stack : Nat) (hbdb_Stack : (nb_Stack : Int) ≤ 9223372036854775807) (hleb_Stack : nb_Stack = b.Stack.length) (h17 : a.State = b.State) (h19 : a.Key = b.Key) (h25 : a.Stack = b.Stack) (h27 : a.Dust = b.Dust) (h29 : a.Laid = b.Laid) (h31 : ¬ (a.Given = b.Given)) : ¬ (a = b) := by
  cases a; cases b; simp_all
theorem z_c_laws_eqChest_33 (a : Chest) (na_Stack : Nat) (hbda_Stack : (na_Stack : Int) ≤ 9223372036854775807) (hlea_Stack : na_Stack = a.Stack.length) (b : Chest) (nb_Stack : Nat) (hbdb_Stack : (nb_Stack : Int) ≤ 9223372036854775807) (hleb_Stack : nb_Stack = b.Stack.length) (h17 : a.State = b.State) (h19 : a.Key = b.Key) (h25 : a.Stack = b.Stack) (h27 : a.Dust = b.Dust) (h29 : a.Laid = b.Laid) (h31 : a.Given = b.Given) : a = b := by
  cases a; cases b; simp_all
theorem c_laws_eqChest (w : World) (a : Chest) {Aa_Stack : Option Addr} {na_Stack ca_Stack Ba_Stack : Nat} (ha_Stack : SlR w Ba_Stack encI 1 Aa_Stack na_Stack ca_Stack a.Stack) (b : Chest) {Ab_Stack : Option Addr} {nb_Stack cb_Stack Bb_Stack : Nat} (hb_Stack : SlR w Bb_Stack encI 1 Ab_Stack nb_Stack cb_Stack b.Stack) : Calls Try.prog 14 #[.agg (List.toArray [.int .i64 a.State, .int .i64 a.Key, .slice Aa_Stack na_Stack ca_Stack, .int .i64 a.Dust, .int .i64 a.Laid, .int .i64 a.Given]), .agg (List.toArray [.int .i64 b.State, .int .i64 b.Key, .slice Ab_Stack nb_Stack cb_Stack, .int .i64 b.Dust, .int .i64 b.Laid, .int .i64 b.Given])] w fun e w' => e = .returned (.bool (decide (a = b))) ∧ Lo w w' := by
  refine calls_W 36 Try.func14 rfl rfl rfl ?_
  have hbda_Stack := ha_Stack.bound
  have hlea_Stack := ha_Stack.len
  have hBba_Stack := ha_Stack.bd
  have hbdb_Stack := hb_Stack.bound
  have hleb_Stack := hb_Stack.len
  have hBbb_Stack := hb_Stack.bd
  refine W.seq ?_
  refine W.regS (SR.box (v := .agg (List.toArray _)) (l := [.int .i64 a.State, .int .i64 a.Key, .slice Aa_Stack na_Stack ca_Stack, .int .i64 a.Dust, .int .i64 a.Laid, .int .i64 a.Given]) rfl rfl ?_)
  intro g1 w2 hg3 hk4 hs5 hb6
  have hz7 := hk4.size
  have hB8 := (Lo.refl w).lo hk4
  refine SR.box (v := .agg (List.toArray _)) (l := [.int .i64 b.State, .int .i64 b.Key, .slice Ab_Stack nb_Stack cb_Stack, .int .i64 b.Dust, .int .i64 b.Laid, .int .i64 b.Given]) rfl rfl ?_
  intro g9 w10 hg11 hk12 hs13 hb14
  have hz15 := hk12.size
  have hB16 := hB8.lo hk12
  refine SR.q' (r_as (v := .bool false) rfl) <| SR.nil ?_
  refine W.seq ?_
  refine W.seq ?_
  refine W.regS (SR.q' (r_fa fa28_0 rfl) <| SR.q' (r_ld (v := .int .i64 a.State) sca3 rfl (((hb6).lo hk12).cell rfl)) <| SR.q' (r_fa fa28_0 rfl) <| SR.q' (r_ld (v := .int .i64 b.State) sca3 rfl ((hb14).cell rfl)) <| SR.q' (r_ne rfl rfl) <| SR.nil ?_)
  refine W.cond_n rfl (fun h17 => ?_) (fun h17 => ?_)
  · refine W.seq ?_
    refine W.regS (SR.q' (r_as (v := .bool false) rfl) <| SR.nil ?_)
    refine W.ret ?_
    refine ret1 rfl (v := .bool _) rfl ?_
    exact ⟨eR (eDF (z_c_laws_eqChest_18 a na_Stack hbda_Stack hlea_Stack b nb_Stack hbdb_Stack hleb_Stack h17)), hB16⟩
  · refine W.skip ?_
    refine W.seq ?_
    refine W.seq ?_
    refine W.regS (SR.q' (r_fa fa28_1 rfl) <| SR.q' (r_ld (v := .int .i64 a.Key) sca3 rfl (((hb6).lo hk12).cell rfl)) <| SR.q' (r_fa fa28_1 rfl) <| SR.q' (r_ld (v := .int .i64 b.Key) sca3 rfl ((hb14).cell rfl)) <| SR.q' (r_ne rfl rfl) <| SR.nil ?_)
    refine W.cond_n rfl (fun h19 => ?_) (fun h19 => ?_)
    · refine W.seq ?_
      refine W.regS (SR.q' (r_as (v := .bool false) rfl) <| SR.nil ?_)
      refine W.ret ?_
      refine ret1 rfl (v := .bool _) rfl ?_
      exact ⟨eR (eDF (z_c_laws_eqChest_20 a na_Stack hbda_Stack hlea_Stack b nb_Stack hbdb_Stack hleb_Stack h17 h19)), hB16⟩
    · refine W.skip ?_
      refine W.seq ?_
      refine W.seq ?_
      refine W.regS (SR.q' (r_fa fa28_2 rfl) <| SR.q' (r_ld (v := .slice Aa_Stack na_Stack ca_Stack) sca22 rfl (((hb6).lo hk12).cell rfl)) <| SR.q' (r_fa fa28_2 rfl) <| SR.q' (r_ld (v := .slice Ab_Stack nb_Stack cb_Stack) sca22 rfl ((hb14).cell rfl)) <| SR.call ent63 (c_laws_eqIntS w10 a.Stack ((((ha_Stack).lo hk4).lo hk12)) b.Stack ((((hb_Stack).lo hk4).lo hk12))) rfl ?_)
      rintro e w21 ⟨rfl, hk22⟩
      refine ⟨_, rfl, ?_⟩
      have hz23 := hk22.size
      have hB24 := hB16.lo hk22
      refine SR.q' (r_not rfl) <| SR.nil ?_
      refine W.cond_n rfl (fun h25 => ?_) (fun h25 => ?_)
      · refine W.seq ?_
        refine W.regS (SR.q' (r_as (v := .bool false) rfl) <| SR.nil ?_)
        refine W.ret ?_
        refine ret1 rfl (v := .bool _) rfl ?_
        exact ⟨eR (eDF (z_c_laws_eqChest_26 a na_Stack hbda_Stack hlea_Stack b nb_Stack hbdb_Stack hleb_Stack h17 h19 h25)), hB24⟩
      · refine W.skip ?_
        refine W.seq ?_
        refine W.seq ?_
        refine W.regS (SR.q' (r_fa fa28_3 rfl) <| SR.q' (r_ld (v := .int .i64 a.Dust) sca3 rfl ((((hb6).lo hk12).lo hk22).cell rfl)) <| SR.q' (r_fa fa28_3 rfl) <| SR.q' (r_ld (v := .int .i64 b.Dust) sca3 rfl (((hb14).lo hk22).cell rfl)) <| SR.q' (r_ne rfl rfl) <| SR.nil ?_)
        refine W.cond_n rfl (fun h27 => ?_) (fun h27 => ?_)
        · refine W.seq ?_
          refine W.regS (SR.q' (r_as (v := .bool false) rfl) <| SR.nil ?_)
          refine W.ret ?_
          refine ret1 rfl (v := .bool _) rfl ?_
          exact ⟨eR (eDF (z_c_laws_eqChest_28 a na_Stack hbda_Stack hlea_Stack b nb_Stack hbdb_Stack hleb_Stack h17 h19 h25 h27)), hB24⟩
        · refine W.skip ?_
          refine W.seq ?_
          refine W.seq ?_
          refine W.regS (SR.q' (r_fa fa28_4 rfl) <| SR.q' (r_ld (v := .int .i64 a.Laid) sca3 rfl ((((hb6).lo hk12).lo hk22).cell rfl)) <| SR.q' (r_fa fa28_4 rfl) <| SR.q' (r_ld (v := .int .i64 b.Laid) sca3 rfl (((hb14).lo hk22).cell rfl)) <| SR.q' (r_ne rfl rfl) <| SR.nil ?_)
          refine W.cond_n rfl (fun h29 => ?_) (fun h29 => ?_)
          · refine W.seq ?_
            refine W.regS (SR.q' (r_as (v := .bool false) rfl) <| SR.nil ?_)
            refine W.ret ?_
            refine ret1 rfl (v := .bool _) rfl ?_
            exact ⟨eR (eDF (z_c_laws_eqChest_30 a na_Stack hbda_Stack hlea_Stack b nb_Stack hbdb_Stack hleb_Stack h17 h19 h25 h27 h29)), hB24⟩
          · refine W.skip ?_
            refine W.seq ?_
            refine W.seq ?_
            refine W.regS (SR.q' (r_fa fa28_5 rfl) <| SR.q' (r_ld (v := .int .i64 a.Given) sca3 rfl ((((hb6).lo hk12).lo hk22).cell rfl)) <| SR.q' (r_fa fa28_5 rfl) <| SR.q' (r_ld (v := .int .i64 b.Given) sca3 rfl (((hb14).lo hk22).cell rfl)) <| SR.q' (r_ne rfl rfl) <| SR.nil ?_)
            refine W.cond_n rfl (fun h31 => ?_) (fun h31 => ?_)
            · refine W.seq ?_
              refine W.regS (SR.q' (r_as (v := .bool false) rfl) <| SR.nil ?_)
              refine W.ret ?_
              refine ret1 rfl (v := .bool _) rfl ?_
              exact ⟨eR (eDF (z_c_laws_eqChest_32 a na_Stack hbda_Stack hlea_Stack b nb_Stack hbdb_Stack hleb_Stack h17 h19 h25 h27 h29 h31)), hB24⟩
            · refine W.skip ?_
              refine W.seq ?_
              refine W.regS (SR.q' (r_as (v := .bool true) rfl) <| SR.nil ?_)
              refine W.ret ?_
              refine ret1 rfl (v := .bool _) rfl ?_
              exact ⟨eR (eDT (z_c_laws_eqChest_33 a na_Stack hbda_Stack hlea_Stack b nb_Stack hbdb_Stack hleb_Stack h17 h19 h25 h27 h29 h31)), hB24⟩

theorem c_laws_markChest (w : World) (r : Chest) {Ar_Stack : Option Addr} {nr_Stack cr_Stack Br_Stack : Nat} (hr_Stack : SlO w Br_Stack encI 1 3 Ar_Stack nr_Stack cr_Stack r.Stack) (k : Int) (hp0 : 0 ≤ k) (hp1 : k ≤ 1000) (hp2 : (nr_Stack : Int) ≤ 1048576) : Calls Try.prog 15 #[.agg (List.toArray [.int .i64 r.State, .int .i64 r.Key, .slice Ar_Stack nr_Stack cr_Stack, .int .i64 r.Dust, .int .i64 r.Laid, .int .i64 r.Given]), .int .i64 k] w fun e w' => e = .returned (.int .i64 (k + 1 * (r.Stack.length : Int))) ∧ SlO w' Br_Stack encI 1 3 Ar_Stack nr_Stack cr_Stack (mkL mkInt 1 r.Stack.length k) ∧ Kp (fun b_ => Ar_Stack = some ⟨b_, 0, none⟩) w w' := by
  refine calls_W 10 Try.func15 rfl rfl rfl ?_
  have hbdr_Stack := hr_Stack.rd.bound
  have hler_Stack := hr_Stack.len
  have hBbr_Stack := hr_Stack.bd
  refine W.seq ?_
  refine W.regS (SR.box (v := .agg (List.toArray _)) (l := [.int .i64 r.State, .int .i64 r.Key, .slice Ar_Stack nr_Stack cr_Stack, .int .i64 r.Dust, .int .i64 r.Laid, .int .i64 r.Given]) rfl rfl ?_)
  intro g1 w2 hg3 hk4 hs5 hb6
  have hz7 := hk4.size
  have hB8 := (Kp.refl w : Kp (fun b_ => Ar_Stack = some ⟨b_, 0, none⟩) w w).lo hk4
  have hd9 : ¬ Ar_Stack = some ⟨g1, 0, none⟩ := fun e' => by have := (hr_Stack).base_le e'; omega
  refine SR.q' (r_as (v := .int .i64 0) rfl) <| SR.nil ?_
  refine W.seq ?_
  refine W.regS (SR.q' (r_fa fa28_2 rfl) <| SR.q' (r_ld (v := .slice Ar_Stack nr_Stack cr_Stack) sca22 rfl ((hb6).cell rfl)) <| SR.q' (r_mv (v := .int .i64 _) rfl) <| SR.call ent64 (c_laws_markIntS w2 r.Stack ((hr_Stack).lo hk4) k (by omega) (by omega) (by omega)) rfl ?_)
  rintro e w10 ⟨rfl, hO12, hk11⟩
  refine ⟨_, rfl, ?_⟩
  have hz13 := hk11.size
  have hB14 := hB8.step hk11 (fun i_ hi_ e' => by have := (((hr_Stack).lo hk4)).base_le e'; first | omega | (exfalso; omega) | exact e' | exact .inl e' | exact .inr e')
  refine SR.q' (r_as (v := .int .i64 _) rfl) <| SR.nil ?_
  refine W.seq ?_
  refine W.regS (SR.q' (r_mv (v := .int .i64 _) rfl) <| SR.q' (r_as (v := .int .i64 _) rfl) <| SR.nil ?_)
  refine W.ret ?_
  refine ret1 rfl (v := .int .i64 _) rfl ?_
  exact ⟨eR rfl, (hO12), hB14⟩

theorem z_c_laws_heldChest_14 (r : Chest) (nr_Stack : Nat) (hbdr_Stack : (nr_Stack : Int) ≤ 9223372036854775807) (hler_Stack : nr_Stack = r.Stack.length) (k : Int) (m_Stack : Nat) (hp0 : 0 ≤ k) (hp1 : k ≤ 1000) (hp2 : (nr_Stack : Int) ≤ 1048576) (hp3 : r.Stack = mkL mkInt 1 m_Stack k) (h13 : (k + 1 * (m_Stack : Int)) < 0) : (-1) = k + 1 * (m_Stack : Int) := by
  first | rfl | omega
theorem c_laws_heldChest (w : World) (r : Chest) {Ar_Stack : Option Addr} {nr_Stack cr_Stack Br_Stack : Nat} (hr_Stack : SlR w Br_Stack encI 1 Ar_Stack nr_Stack cr_Stack r.Stack) (k : Int) (m_Stack : Nat) (hp0 : 0 ≤ k) (hp1 : k ≤ 1000) (hp2 : (nr_Stack : Int) ≤ 1048576) (hp3 : r.Stack = mkL mkInt 1 m_Stack k) : Calls Try.prog 16 #[.agg (List.toArray [.int .i64 r.State, .int .i64 r.Key, .slice Ar_Stack nr_Stack cr_Stack, .int .i64 r.Dust, .int .i64 r.Laid, .int .i64 r.Given]), .int .i64 k] w fun e w' => e = .returned (.int .i64 (k + 1 * (m_Stack : Int))) ∧ Lo w w' := by
  refine calls_W 12 Try.func16 rfl rfl rfl ?_
  have hbdr_Stack := hr_Stack.bound
  have hler_Stack := hr_Stack.len
  have hBbr_Stack := hr_Stack.bd
  refine W.seq ?_
  refine W.regS (SR.box (v := .agg (List.toArray _)) (l := [.int .i64 r.State, .int .i64 r.Key, .slice Ar_Stack nr_Stack cr_Stack, .int .i64 r.Dust, .int .i64 r.Laid, .int .i64 r.Given]) rfl rfl ?_)
  intro g1 w2 hg3 hk4 hs5 hb6
  have hz7 := hk4.size
  have hB8 := (Lo.refl w).lo hk4
  refine SR.q' (r_as (v := .int .i64 0) rfl) <| SR.nil ?_
  refine W.seq ?_
  refine W.regS (SR.q' (r_fa fa28_2 rfl) <| SR.q' (r_ld (v := .slice Ar_Stack nr_Stack cr_Stack) sca22 rfl ((hb6).cell rfl)) <| SR.q' (r_mv (v := .int .i64 _) rfl) <| SR.call ent65 (c_laws_heldIntS w2 r.Stack (((hr_Stack).lo hk4)) k m_Stack (by omega) (by omega) (by omega) (by first | rfl | assumption)) rfl ?_)
  rintro e w9 ⟨rfl, hk10⟩
  refine ⟨_, rfl, ?_⟩
  have hz11 := hk10.size
  have hB12 := hB8.lo hk10
  refine SR.q' (r_as (v := .int .i64 _) rfl) <| SR.nil ?_
  refine W.seq ?_
  refine W.seq ?_
  refine W.regS (SR.q' (r_mv (v := .int .i64 _) rfl) <| SR.q' (r_lt rfl rfl) <| SR.nil ?_)
  refine W.cond_d rfl (fun h13 => ?_) (fun h13 => ?_)
  · refine W.seq ?_
    refine W.regS (SR.q' (r_as (v := .int .i64 (-1)) rfl) <| SR.nil ?_)
    refine W.ret ?_
    refine ret1 rfl (v := .int .i64 _) rfl ?_
    exact ⟨eR (eI (z_c_laws_heldChest_14 r nr_Stack hbdr_Stack hler_Stack k m_Stack hp0 hp1 hp2 hp3 h13)), hB12⟩
  · refine W.skip ?_
    refine W.seq ?_
    refine W.regS (SR.q' (r_mv (v := .int .i64 _) rfl) <| SR.q' (r_as (v := .int .i64 _) rfl) <| SR.nil ?_)
    refine W.ret ?_
    refine ret1 rfl (v := .int .i64 _) rfl ?_
    exact ⟨eR rfl, hB12⟩

theorem z_c_laws_toChestStep_43 (r : ChestStep) : ([.int .i64 r.Kind, .int .i64 r.Value] : List Value) = encChestStep r := by
  first | rfl | (first | rfl | omega | grind)
theorem c_laws_toChestStep (w : World) (r : ChestStep) : Calls Try.prog 12 #[.agg (List.toArray (encChestStep r))] w fun e w' => e = .returned (.agg (List.toArray (encChestStep r))) ∧ Lo w w' := by
  refine calls_W 11 Try.func12 rfl rfl rfl ?_
  refine W.seq ?_
  refine W.regS (SR.box (v := .agg (List.toArray _)) (l := [.int .i64 r.Kind, .int .i64 r.Value]) rfl rfl ?_)
  intro g1 w2 hg3 hk4 hs5 hb6
  have hz7 := hk4.size
  have hB8 := (Lo.refl w).lo hk4
  refine SR.alloc (l := [.int .i64 0, .int .i64 0]) tz32 rfl ?_
  intro g9 w10 hg11 hk12 hs13 hb14
  have hz15 := hk12.size
  have hB16 := hB8.lo hk12
  refine SR.nil ?_
  refine W.seq ?_
  refine W.regS (SR.alloc (l := [.int .i64 0, .int .i64 0]) tz32 rfl ?_)
  intro g17 w18 hg19 hk20 hs21 hb22
  have hz23 := hk20.size
  have hB24 := hB16.lo hk20
  refine SR.nil ?_
  refine W.seq ?_
  refine W.regS (SR.q' (r_fa fa26_0 rfl) <| SR.q' (r_ld (v := .int .i64 r.Kind) sca3 rfl ((((hb6).lo hk12).lo hk20).cell rfl)) <| SR.q' (r_fa fa32_0 rfl) <| SR.store (o := 0) (vs := [.int .i64 r.Kind]) sca3.2 rfl rfl rfl rfl (hb22) (Nat.le_of_ble_eq_true rfl) rfl ?_)
  intro w25 hk26 hs27 hb28
  have hz29 := hk26.size
  have hB30 := hB24.new hk26 (by omega)
  refine SR.nil ?_
  refine W.seq ?_
  refine W.regS (SR.q' (r_fa fa26_1 rfl) <| SR.q' (r_ld (v := .int .i64 r.Value) sca3 rfl (((((hb6).lo hk12).lo hk20).kp hk26 (fun e' => by have e'' : g1 = g17 := e'; omega)).cell rfl)) <| SR.q' (r_fa fa32_1 rfl) <| SR.store (o := 1) (vs := [.int .i64 r.Value]) sca3.2 rfl rfl rfl rfl (hb28) (Nat.le_of_ble_eq_true rfl) rfl ?_)
  intro w31 hk32 hs33 hb34
  have hz35 := hk32.size
  have hB36 := hB30.new hk32 (by omega)
  refine SR.nil ?_
  refine W.seq ?_
  refine W.regS (SR.q' (r_lda (l := [.int .i64 r.Kind, .int .i64 r.Value]) agg32 rfl (fun _ _ hu => (hb34).cell hu) rfl) <| SR.store (o := 0) (vs := [.int .i64 r.Kind, .int .i64 r.Value]) agg32.2 rfl rfl rfl rfl ((((hb14).lo hk20).kp hk26 (fun e' => by have e'' : g9 = g17 := e'; omega)).kp hk32 (fun e' => by have e'' : g9 = g17 := e'; omega)) (Nat.le_of_ble_eq_true rfl) rfl ?_)
  intro w37 hk38 hs39 hb40
  have hz41 := hk38.size
  have hB42 := hB36.new hk38 (by omega)
  refine SR.nil ?_
  refine W.ret ?_
  refine retC rfl rfl agg32 (hb40) rfl ?_
  exact ⟨eR (eA (z_c_laws_toChestStep_43 r)), hB42⟩

theorem z_c_laws_szChestStepS_2 (L : List ChestStep) (nL : Nat) (hbdL : (nL : Int) ≤ 9223372036854775807) (hleL : nL = L.length) (left : Int) (hp0 : 0 ≤ left) (hp1 : left ≤ 1048576) (h1 : (left - (nL : Int)) < 0) : (-1) = szN L.length left := by
  unfold szN; split <;> omega
theorem z_c_laws_szChestStepS_3 (L : List ChestStep) (nL : Nat) (hbdL : (nL : Int) ≤ 9223372036854775807) (hleL : nL = L.length) (left : Int) (hp0 : 0 ≤ left) (hp1 : left ≤ 1048576) (h1 : ¬ ((left - (nL : Int)) < 0)) : left - (nL : Int) = szN L.length left := by
  unfold szN; split <;> omega
theorem c_laws_szChestStepS (w : World) {AL : Option Addr} {nL cL BL : Nat}  (L : List ChestStep) (hL : SlR w BL encChestStep 2 AL nL cL L) (left : Int) (hp0 : 0 ≤ left) (hp1 : left ≤ 1048576) : Calls Try.prog 25 #[.slice AL nL cL, .int .i64 left] w fun e w' => e = .returned (.int .i64 (szN L.length left)) ∧ Lo w w' := by
  refine calls_W 12 Try.func25 rfl rfl rfl ?_
  have hbdL := hL.bound
  have hleL := hL.len
  have hBbL := hL.bd
  refine W.seq ?_
  refine W.regS (SR.q' (r_as (v := .int .i64 0) rfl) <| SR.nil ?_)
  refine W.seq ?_
  refine W.regS (SR.q' (r_mv (v := .int .i64 _) rfl) <| SR.q' (r_mv (v := .slice _ _ _) rfl) <| SR.q' (r_len und50 rfl) <| SR.q' (r_sub rfl rfl (by omega)) <| SR.q' (r_as (v := .int .i64 _) rfl) <| SR.nil ?_)
  refine W.seq ?_
  refine W.seq ?_
  refine W.regS (SR.q' (r_mv (v := .int .i64 _) rfl) <| SR.q' (r_lt rfl rfl) <| SR.nil ?_)
  refine W.cond_d rfl (fun h1 => ?_) (fun h1 => ?_)
  · refine W.seq ?_
    refine W.regS (SR.q' (r_as (v := .int .i64 (-1)) rfl) <| SR.nil ?_)
    refine W.ret ?_
    refine ret1 rfl (v := .int .i64 _) rfl ?_
    exact ⟨eR (eI (z_c_laws_szChestStepS_2 L nL hbdL hleL left hp0 hp1 h1)), (Lo.refl w)⟩
  · refine W.skip ?_
    refine W.seq ?_
    refine W.regS (SR.q' (r_mv (v := .int .i64 _) rfl) <| SR.q' (r_as (v := .int .i64 _) rfl) <| SR.nil ?_)
    refine W.ret ?_
    refine ret1 rfl (v := .int .i64 _) rfl ?_
    exact ⟨eR (eI (z_c_laws_szChestStepS_3 L nL hbdL hleL left hp0 hp1 h1)), (Lo.refl w)⟩

theorem z_c_laws_toChestStepS_8 (L : List ChestStep) (nL : Nat) (hbdL : (nL : Int) ≤ 9223372036854775807) (hleL : nL = L.length) (hp0 : (nL : Int) ≤ 1048576) : 0 ≤ nL := by
  omega
theorem z_c_laws_toChestStepS_9 (L : List ChestStep) (nL : Nat) (hbdL : (nL : Int) ≤ 9223372036854775807) (hleL : nL = L.length) (hp0 : (nL : Int) ≤ 1048576) : List.replicate nL (⟨0, 0⟩ : ChestStep) = L.take 0 ++ List.replicate (nL - 0) (⟨0, 0⟩ : ChestStep) := by
  exact tk_init
theorem z_c_laws_toChestStepS_33 (L : List ChestStep) (nL : Nat) (hbdL : (nL : Int) ≤ 9223372036854775807) (hleL : nL = L.length) (hp0 : (nL : Int) ≤ 1048576) (k : Nat) (hi16 : k ≤ nL) (h17 : (k : Int) < (nL : Int)) (x18 : ChestStep) (hx19 : L[k]? = some x18) (x24 : ChestStep) (hx25 : (L.take k ++ List.replicate (nL - k) (⟨0, 0⟩ : ChestStep))[k]? = some x24) : (L.take k ++ List.replicate (nL - k) (⟨0, 0⟩ : ChestStep)).set ((k : Int).toNat) x18 = L.take (k + 1) ++ List.replicate (nL - (k + 1)) (⟨0, 0⟩ : ChestStep) := by
  exact tk_set (by assumption) hleL
theorem z_c_laws_toChestStepS_34 (L : List ChestStep) (nL : Nat) (hbdL : (nL : Int) ≤ 9223372036854775807) (hleL : nL = L.length) (hp0 : (nL : Int) ≤ 1048576) (k : Nat) (hi16 : k ≤ nL) (h17 : (k : Int) < (nL : Int)) (x18 : ChestStep) (hx19 : L[k]? = some x18) (x24 : ChestStep) (hx25 : (L.take k ++ List.replicate (nL - k) (⟨0, 0⟩ : ChestStep))[k]? = some x24) : k + 1 ≤ nL := by
  omega
theorem z_c_laws_toChestStepS_35 (L : List ChestStep) (nL : Nat) (hbdL : (nL : Int) ≤ 9223372036854775807) (hleL : nL = L.length) (hp0 : (nL : Int) ≤ 1048576) (k : Nat) (hi16 : k ≤ nL) (h17 : (k : Int) < (nL : Int)) (x18 : ChestStep) (hx19 : L[k]? = some x18) (x24 : ChestStep) (hx25 : (L.take k ++ List.replicate (nL - k) (⟨0, 0⟩ : ChestStep))[k]? = some x24) : nL - (k + 1) < nL - k := by
  omega
theorem z_c_laws_toChestStepS_36 (L : List ChestStep) (nL : Nat) (hbdL : (nL : Int) ≤ 9223372036854775807) (hleL : nL = L.length) (hp0 : (nL : Int) ≤ 1048576) (k : Nat) (hi16 : k ≤ nL) (h17 : ¬ ((k : Int) < (nL : Int))) : L.take k ++ List.replicate (nL - k) (⟨0, 0⟩ : ChestStep) = L := by
  exact tk_end hleL (by assumption) (by omega)
theorem c_laws_toChestStepS (w : World) {AL : Option Addr} {nL cL BL : Nat}  (L : List ChestStep) (hL : SlR w BL encChestStep 2 AL nL cL L) (hp0 : (nL : Int) ≤ 1048576) : Calls Try.prog 27 #[.slice AL nL cL] w fun e w' => ∃ (A1' : Option Addr) (n1' c1' : Nat), e = .returned (.slice A1' n1' c1') ∧ SlO w' w.heap.size encChestStep 2 32 A1' n1' c1' L ∧ Lo w w' := by
  refine calls_W 23 Try.func27 rfl rfl rfl ?_
  have hbdL := hL.bound
  have hleL := hL.len
  have hBbL := hL.bd
  refine W.seq ?_
  refine W.regS (SR.q' (r_as (v := .slice none 0 0) rfl) <| SR.nil ?_)
  refine W.seq ?_
  refine W.regS (SR.q' (r_mv (v := .slice _ _ _) rfl) <| SR.q' (r_len und50 rfl) <| SR.make (m := nL) (zx := (⟨0, 0⟩ : ChestStep)) (enc := encChestStep) tel54 rfl (fun _ => rfl) rfl rfl (by omega) (by omega) ?_)
  intro g1 w2 hg3 hk4 hO5
  have hz6 := hk4.size
  have hB7 := (Lo.refl w).lo hk4
  refine SR.q' (r_as (v := .slice _ _ _) rfl) <| SR.nil ?_
  refine W.seq ?_
  refine W.seq ?_
  refine W.regS (SR.q' (r_as (v := .int .i64 0) rfl) <| SR.nil ?_)
  refine W.block ?_
  refine W.loop (σ := Nat) (fun g => [(0, .slice AL nL cL), (2, .slice none 0 0), (3, .slice (some (⟨g1, 0, none⟩ : Addr)) nL nL), (4, .int .i64 (g : Int))]) (fun g w' => (Lo w w') ∧ (SlR w' BL encChestStep 2 AL nL cL L) ∧ (SlO w' w.heap.size encChestStep 2 32 (some (⟨g1, 0, none⟩ : Addr)) nL nL (L.take g ++ List.replicate (nL - g) (⟨0, 0⟩ : ChestStep))) ∧ (g ≤ nL)) (fun g => nL - g) 0 ?_ ?_ ?_
  · exact ⟨rfl, rfl, rfl, rfl, trivial⟩
  · exact ⟨hB7, (hL).lo hk4, (SlO.eqv (hO5) (z_c_laws_toChestStepS_9 L nL hbdL hleL hp0)), (z_c_laws_toChestStepS_8 L nL hbdL hleL hp0)⟩
  · rintro k f10 w11 hP13
    obtain ⟨hB12, hm14, hm15, hi16⟩ : (Lo w w11) ∧ (SlR w11 BL encChestStep 2 AL nL cL L) ∧ (SlO w11 w.heap.size encChestStep 2 32 (some (⟨g1, 0, none⟩ : Addr)) nL nL (L.take k ++ List.replicate (nL - k) (⟨0, 0⟩ : ChestStep))) ∧ (k ≤ nL) := hP13
    refine (?_ : W _ _ _ _ _ (act _ (sets f10 [(0, .slice AL nL cL), (2, .slice none 0 0), (3, .slice (some (⟨g1, 0, none⟩ : Addr)) nL nL), (4, .int .i64 (k : Int))])) _)
    have hzw11 := hB12.size
    refine W.seq ?_
    refine W.seq ?_
    refine W.regS (SR.q' (r_mv (v := .int .i64 _) rfl) <| SR.q' (r_mv (v := .slice _ _ _) rfl) <| SR.q' (r_len und50 rfl) <| SR.q' (r_lt rfl rfl) <| SR.nil ?_)
    refine W.cond_d rfl (fun h17 => ?_) (fun h17 => ?_)
    · refine W.skip ?_
      refine W.seq ?_
      refine W.block ?_
      refine W.regS (SR.q' (r_mv (v := .slice _ _ _) rfl) <| SR.q' (r_mv (v := .int .i64 _) rfl) <| SR.q' (r_mv (v := .slice _ _ _) rfl) <| SR.q' (r_mv (v := .int .i64 _) rfl) <| ?_)
      obtain ⟨x18, hx19⟩ := (hm14).get (i := k) (by omega)
      refine SR.q' (r_ixR tsl50 (hm14) rfl rfl (by omega)) <| SR.q' (r_lda (l := encChestStep x18) agg26 rfl (fun _ _ hu => (hm14).cell hx19 hu) ((hm14).esz _)) <| SR.call ent12 (c_laws_toChestStep w11 x18) rfl ?_
      rintro e w20 ⟨rfl, hk21⟩
      refine ⟨_, rfl, ?_⟩
      have hz22 := hk21.size
      have hB23 := hB12.lo hk21
      obtain ⟨x24, hx25⟩ := (((hm15).lo hk21).rd).get (i := k) (by omega)
      refine SR.q' (r_ixR tsl54 (((hm15).lo hk21).rd) rfl rfl (by omega)) <| SR.storeO (o := 0) (vs := [.int .i64 x18.Kind, .int .i64 x18.Value]) (x1 := x18) agg32.2 rfl rfl rfl rfl ((hm15).lo hk21) hx25 rfl (Nat.le_of_ble_eq_true rfl) rfl ?_
      intro w26 hk27 hs28 hO29
      have hz30 := hk27.size
      have hB31 := hB23.step hk27 (fun i_ hi_ e' => by have := (((hm15).lo hk21)).base_le e'; first | omega | (exfalso; omega) | exact e' | exact .inl e' | exact .inr e')
      have hx32 : ((L.take k ++ List.replicate (nL - k) (⟨0, 0⟩ : ChestStep)).set ((k : Int).toNat) x18)[(k : Int).toNat]? = some (x18) := List.getElem?_set_self (List.getElem?_eq_some_iff.1 hx25).1
      refine SR.nil ?_
      refine W.regS (SR.q' (r_mv (v := .int .i64 _) rfl) <| SR.q' (r_add rfl rfl (by omega)) <| SR.q' (r_as (v := .int .i64 _) rfl) <| SR.nil ?_)
      refine ⟨k + 1, _, rfl, ⟨rfl, rfl, rfl, rfl, trivial⟩, ⟨hB31, ((hm14).lo hk21).kp hk27 (fun b_ hb e' => by have := (((hm15).lo hk21)).base_le e'; omega), (SlO.eqv (hO29) (z_c_laws_toChestStepS_33 L nL hbdL hleL hp0 k hi16 h17 x18 hx19 x24 hx25)), ?_⟩, ?_⟩
      · exact (z_c_laws_toChestStepS_34 L nL hbdL hleL hp0 k hi16 h17 x18 hx19 x24 hx25)
      · exact (z_c_laws_toChestStepS_35 L nL hbdL hleL hp0 k hi16 h17 x18 hx19 x24 hx25)
    · refine W.exit (xin_here ?_)
      refine W.seq ?_
      refine W.regS (SR.q' (r_mv (v := .slice _ _ _) rfl) <| SR.q' (r_as (v := .slice _ _ _) rfl) <| SR.nil ?_)
      refine W.ret ?_
      refine ret1 rfl (v := .slice _ _ _) rfl ?_
      exact ⟨(some (⟨g1, 0, none⟩ : Addr)), nL, nL, eR rfl, (SlO.eqv ((hm15).down (by omega)) (z_c_laws_toChestStepS_36 L nL hbdL hleL hp0 k hi16 h17)), hB12⟩

theorem z_c_laws_eqChestStep_18 (a : ChestStep) (b : ChestStep) (h17 : ¬ (a.Kind = b.Kind)) : ¬ (a = b) := by
  cases a; cases b; simp_all
theorem z_c_laws_eqChestStep_20 (a : ChestStep) (b : ChestStep) (h17 : a.Kind = b.Kind) (h19 : ¬ (a.Value = b.Value)) : ¬ (a = b) := by
  cases a; cases b; simp_all
theorem z_c_laws_eqChestStep_21 (a : ChestStep) (b : ChestStep) (h17 : a.Kind = b.Kind) (h19 : a.Value = b.Value) : a = b := by
  cases a; cases b; simp_all
theorem c_laws_eqChestStep (w : World) (a : ChestStep) (b : ChestStep) : Calls Try.prog 72 #[.agg (List.toArray (encChestStep a)), .agg (List.toArray (encChestStep b))] w fun e w' => e = .returned (.bool (decide (a = b))) ∧ Lo w w' := by
  refine calls_W 15 Try.func72 rfl rfl rfl ?_
  refine W.seq ?_
  refine W.regS (SR.box (v := .agg (List.toArray _)) (l := [.int .i64 a.Kind, .int .i64 a.Value]) rfl rfl ?_)
  intro g1 w2 hg3 hk4 hs5 hb6
  have hz7 := hk4.size
  have hB8 := (Lo.refl w).lo hk4
  refine SR.box (v := .agg (List.toArray _)) (l := [.int .i64 b.Kind, .int .i64 b.Value]) rfl rfl ?_
  intro g9 w10 hg11 hk12 hs13 hb14
  have hz15 := hk12.size
  have hB16 := hB8.lo hk12
  refine SR.q' (r_as (v := .bool false) rfl) <| SR.nil ?_
  refine W.seq ?_
  refine W.seq ?_
  refine W.regS (SR.q' (r_fa fa32_0 rfl) <| SR.q' (r_ld (v := .int .i64 a.Kind) sca3 rfl (((hb6).lo hk12).cell rfl)) <| SR.q' (r_fa fa32_0 rfl) <| SR.q' (r_ld (v := .int .i64 b.Kind) sca3 rfl ((hb14).cell rfl)) <| SR.q' (r_ne rfl rfl) <| SR.nil ?_)
  refine W.cond_n rfl (fun h17 => ?_) (fun h17 => ?_)
  · refine W.seq ?_
    refine W.regS (SR.q' (r_as (v := .bool false) rfl) <| SR.nil ?_)
    refine W.ret ?_
    refine ret1 rfl (v := .bool _) rfl ?_
    exact ⟨eR (eDF (z_c_laws_eqChestStep_18 a b h17)), hB16⟩
  · refine W.skip ?_
    refine W.seq ?_
    refine W.seq ?_
    refine W.regS (SR.q' (r_fa fa32_1 rfl) <| SR.q' (r_ld (v := .int .i64 a.Value) sca3 rfl (((hb6).lo hk12).cell rfl)) <| SR.q' (r_fa fa32_1 rfl) <| SR.q' (r_ld (v := .int .i64 b.Value) sca3 rfl ((hb14).cell rfl)) <| SR.q' (r_ne rfl rfl) <| SR.nil ?_)
    refine W.cond_n rfl (fun h19 => ?_) (fun h19 => ?_)
    · refine W.seq ?_
      refine W.regS (SR.q' (r_as (v := .bool false) rfl) <| SR.nil ?_)
      refine W.ret ?_
      refine ret1 rfl (v := .bool _) rfl ?_
      exact ⟨eR (eDF (z_c_laws_eqChestStep_20 a b h17 h19)), hB16⟩
    · refine W.skip ?_
      refine W.seq ?_
      refine W.regS (SR.q' (r_as (v := .bool true) rfl) <| SR.nil ?_)
      refine W.ret ?_
      refine ret1 rfl (v := .bool _) rfl ?_
      exact ⟨eR (eDT (z_c_laws_eqChestStep_21 a b h17 h19)), hB16⟩

theorem z_c_laws_eqChestStepS_2 (L : List ChestStep) (nL : Nat) (hbdL : (nL : Int) ≤ 9223372036854775807) (hleL : nL = L.length) (M : List ChestStep) (nM : Nat) (hbdM : (nM : Int) ≤ 9223372036854775807) (hleM : nM = M.length) (h1 : ¬ ((nL : Int) = (nM : Int))) : ¬ (L = M) := by
  first | (intro e; subst e; omega) | exact ne_at ‹L[_]? = some _› ‹M[_]? = some _› ‹_› | exact take_end (And.right ‹_ ∧ L.take _ = M.take _›) hleL hleM (by omega) ‹_›
theorem z_c_laws_eqChestStepS_3 (L : List ChestStep) (nL : Nat) (hbdL : (nL : Int) ≤ 9223372036854775807) (hleL : nL = L.length) (M : List ChestStep) (nM : Nat) (hbdM : (nM : Int) ≤ 9223372036854775807) (hleM : nM = M.length) (h1 : (nL : Int) = (nM : Int)) : 0 ≤ nL ∧ L.take 0 = M.take 0 := by
  simp
theorem z_c_laws_eqChestStepS_21 (L : List ChestStep) (nL : Nat) (hbdL : (nL : Int) ≤ 9223372036854775807) (hleL : nL = L.length) (M : List ChestStep) (nM : Nat) (hbdM : (nM : Int) ≤ 9223372036854775807) (hleM : nM = M.length) (h1 : (nL : Int) = (nM : Int)) (k : Nat) (hi10 : k ≤ nL ∧ L.take k = M.take k) (h11 : (k : Int) < (nL : Int)) (x12 : ChestStep) (hx13 : L[k]? = some x12) (x14 : ChestStep) (hx15 : M[k]? = some x14) (h20 : ¬ (x12 = x14)) : ¬ (L = M) := by
  first | (intro e; subst e; omega) | exact ne_at ‹L[_]? = some _› ‹M[_]? = some _› ‹_› | exact take_end (And.right ‹_ ∧ L.take _ = M.take _›) hleL hleM (by omega) ‹_›
theorem z_c_laws_eqChestStepS_22 (L : List ChestStep) (nL : Nat) (hbdL : (nL : Int) ≤ 9223372036854775807) (hleL : nL = L.length) (M : List ChestStep) (nM : Nat) (hbdM : (nM : Int) ≤ 9223372036854775807) (hleM : nM = M.length) (h1 : (nL : Int) = (nM : Int)) (k : Nat) (hi10 : k ≤ nL ∧ L.take k = M.take k) (h11 : (k : Int) < (nL : Int)) (x12 : ChestStep) (hx13 : L[k]? = some x12) (x14 : ChestStep) (hx15 : M[k]? = some x14) (h20 : x12 = x14) : k + 1 ≤ nL ∧ L.take (k + 1) = M.take (k + 1) := by
  exact ⟨by omega, take_next (And.right ‹_ ∧ L.take _ = M.take _›) ‹L[_]? = some _› ‹M[_]? = some _› ‹_›⟩
theorem z_c_laws_eqChestStepS_23 (L : List ChestStep) (nL : Nat) (hbdL : (nL : Int) ≤ 9223372036854775807) (hleL : nL = L.length) (M : List ChestStep) (nM : Nat) (hbdM : (nM : Int) ≤ 9223372036854775807) (hleM : nM = M.length) (h1 : (nL : Int) = (nM : Int)) (k : Nat) (hi10 : k ≤ nL ∧ L.take k = M.take k) (h11 : (k : Int) < (nL : Int)) (x12 : ChestStep) (hx13 : L[k]? = some x12) (x14 : ChestStep) (hx15 : M[k]? = some x14) (h20 : x12 = x14) : nL - (k + 1) < nL - k := by
  omega
theorem z_c_laws_eqChestStepS_24 (L : List ChestStep) (nL : Nat) (hbdL : (nL : Int) ≤ 9223372036854775807) (hleL : nL = L.length) (M : List ChestStep) (nM : Nat) (hbdM : (nM : Int) ≤ 9223372036854775807) (hleM : nM = M.length) (h1 : (nL : Int) = (nM : Int)) (k : Nat) (hi10 : k ≤ nL ∧ L.take k = M.take k) (h11 : ¬ ((k : Int) < (nL : Int))) : L = M := by
  first | (intro e; subst e; omega) | exact ne_at ‹L[_]? = some _› ‹M[_]? = some _› ‹_› | exact take_end (And.right ‹_ ∧ L.take _ = M.take _›) hleL hleM (by omega) ‹_›
theorem c_laws_eqChestStepS (w : World) {AL : Option Addr} {nL cL BL : Nat}  (L : List ChestStep) (hL : SlR w BL encChestStep 2 AL nL cL L) {AM : Option Addr} {nM cM BM : Nat}  (M : List ChestStep) (hM : SlR w BM encChestStep 2 AM nM cM M) : Calls Try.prog 29 #[.slice AL nL cL, .slice AM nM cM] w fun e w' => e = .returned (.bool (decide (L = M))) ∧ Lo w w' := by
  refine calls_W 27 Try.func29 rfl rfl rfl ?_
  have hbdL := hL.bound
  have hleL := hL.len
  have hBbL := hL.bd
  have hbdM := hM.bound
  have hleM := hM.len
  have hBbM := hM.bd
  refine W.seq ?_
  refine W.regS (SR.q' (r_as (v := .bool false) rfl) <| SR.nil ?_)
  refine W.seq ?_
  refine W.seq ?_
  refine W.regS (SR.q' (r_mv (v := .slice _ _ _) rfl) <| SR.q' (r_len und54 rfl) <| SR.q' (r_mv (v := .slice _ _ _) rfl) <| SR.q' (r_len und54 rfl) <| SR.q' (r_ne rfl rfl) <| SR.nil ?_)
  refine W.cond_n rfl (fun h1 => ?_) (fun h1 => ?_)
  · refine W.seq ?_
    refine W.regS (SR.q' (r_as (v := .bool false) rfl) <| SR.nil ?_)
    refine W.ret ?_
    refine ret1 rfl (v := .bool _) rfl ?_
    exact ⟨eR (eDF (z_c_laws_eqChestStepS_2 L nL hbdL hleL M nM hbdM hleM h1)), (Lo.refl w)⟩
  · refine W.skip ?_
    refine W.seq ?_
    refine W.seq ?_
    refine W.regS (SR.q' (r_as (v := .int .i64 0) rfl) <| SR.nil ?_)
    refine W.block ?_
    refine W.loop (σ := Nat) (fun g => [(0, .slice AL nL cL), (1, .slice AM nM cM), (5, .int .i64 (g : Int))]) (fun g w' => (Lo w w') ∧ (SlR w' BL encChestStep 2 AL nL cL L) ∧ (SlR w' BM encChestStep 2 AM nM cM M) ∧ (g ≤ nL ∧ L.take g = M.take g)) (fun g => nL - g) 0 ?_ ?_ ?_
    · exact ⟨rfl, rfl, rfl, trivial⟩
    · exact ⟨(Lo.refl w), hL, hM, (z_c_laws_eqChestStepS_3 L nL hbdL hleL M nM hbdM hleM h1)⟩
    · rintro k f4 w5 hP7
      obtain ⟨hB6, hm8, hm9, hi10⟩ : (Lo w w5) ∧ (SlR w5 BL encChestStep 2 AL nL cL L) ∧ (SlR w5 BM encChestStep 2 AM nM cM M) ∧ (k ≤ nL ∧ L.take k = M.take k) := hP7
      refine (?_ : W _ _ _ _ _ (act _ (sets f4 [(0, .slice AL nL cL), (1, .slice AM nM cM), (5, .int .i64 (k : Int))])) _)
      have hzw5 := hB6.size
      refine W.seq ?_
      refine W.seq ?_
      refine W.regS (SR.q' (r_mv (v := .int .i64 _) rfl) <| SR.q' (r_mv (v := .slice _ _ _) rfl) <| SR.q' (r_len und54 rfl) <| SR.q' (r_lt rfl rfl) <| SR.nil ?_)
      refine W.cond_d rfl (fun h11 => ?_) (fun h11 => ?_)
      · refine W.skip ?_
        refine W.seq ?_
        refine W.block ?_
        refine W.seq ?_
        refine W.regD mo (by kernel_rfl) (QR.q' (fun w' hw' => r_mv (v := .slice _ _ _) rfl) <| QR.q' (fun w' hw' => r_mv (v := .int .i64 _) rfl) <| ?_)
        obtain ⟨x12, hx13⟩ := (hm8).get (i := k) (by omega)
        refine QR.q' (fun w' hw' => r_ixR tsl54 (((hm8).lo hw')) rfl rfl (by omega)) <| QR.q' (fun w' hw' => r_lda (l := encChestStep x12) agg32 rfl (fun _ _ hu => (((hm8).lo hw')).cell hx13 hu) ((((hm8).lo hw')).esz _)) <| QR.q' (fun w' hw' => r_mv (v := .slice _ _ _) rfl) <| QR.q' (fun w' hw' => r_mv (v := .int .i64 _) rfl) <| ?_
        obtain ⟨x14, hx15⟩ := (hm9).get (i := k) (by omega)
        refine QR.q' (fun w' hw' => r_ixR tsl54 (((hm9).lo hw')) rfl rfl (by omega)) <| QR.q' (fun w' hw' => r_lda (l := encChestStep x14) agg32 rfl (fun _ _ hu => (((hm9).lo hw')).cell hx15 hu) ((((hm9).lo hw')).esz _)) <| QR.call ent72 (fun w' hw' => (c_laws_eqChestStep w' x12 x14).mono fun _ _ h => ⟨h.1, hw'.trans h.2⟩) rfl <| QR.q' (fun w' hw' => r_not rfl) <| QR.nil ?_
        intro w16 hk17
        have hz18 := hk17.size
        have hB19 := hB6.lo hk17
        refine W.cond_n rfl (fun h20 => ?_) (fun h20 => ?_)
        · refine W.seq ?_
          refine W.regS (SR.q' (r_as (v := .bool false) rfl) <| SR.nil ?_)
          refine W.ret ?_
          refine ret1 rfl (v := .bool _) rfl ?_
          exact ⟨eR (eDF (z_c_laws_eqChestStepS_21 L nL hbdL hleL M nM hbdM hleM h1 k hi10 h11 x12 hx13 x14 hx15 h20)), hB19⟩
        · refine W.skip ?_
          refine W.regS (SR.q' (r_mv (v := .int .i64 _) rfl) <| SR.q' (r_add rfl rfl (by omega)) <| SR.q' (r_as (v := .int .i64 _) rfl) <| SR.nil ?_)
          refine ⟨k + 1, _, rfl, ⟨rfl, rfl, rfl, trivial⟩, ⟨hB19, (hm8).lo hk17, (hm9).lo hk17, ?_⟩, ?_⟩
          · exact (z_c_laws_eqChestStepS_22 L nL hbdL hleL M nM hbdM hleM h1 k hi10 h11 x12 hx13 x14 hx15 h20)
          · exact (z_c_laws_eqChestStepS_23 L nL hbdL hleL M nM hbdM hleM h1 k hi10 h11 x12 hx13 x14 hx15 h20)
      · refine W.exit (xin_here ?_)
        refine W.seq ?_
        refine W.regS (SR.q' (r_as (v := .bool true) rfl) <| SR.nil ?_)
        refine W.ret ?_
        refine ret1 rfl (v := .bool _) rfl ?_
        exact ⟨eR (eDT (z_c_laws_eqChestStepS_24 L nL hbdL hleL M nM hbdM hleM h1 k hi10 h11)), hB6⟩

theorem z_c_laws_markChestStepS_1 (L : List ChestStep) (nL : Nat) (hbdL : (nL : Int) ≤ 9223372036854775807) (hleL : nL = L.length) (k : Int) (hp0 : 0 ≤ k) (hp1 : k ≤ 1000000000) (hp2 : (nL : Int) ≤ 1048576) : 0 ≤ nL := by
  omega
theorem z_c_laws_markChestStepS_2 (L : List ChestStep) (nL : Nat) (hbdL : (nL : Int) ≤ 9223372036854775807) (hleL : nL = L.length) (k : Int) (hp0 : 0 ≤ k) (hp1 : k ≤ 1000000000) (hp2 : (nL : Int) ≤ 1048576) : L = mkL mkChestStep 2 0 k ++ L.drop 0 := by
  exact mkL_init
theorem z_c_laws_markChestStepS_26 (L : List ChestStep) (nL : Nat) (hbdL : (nL : Int) ≤ 9223372036854775807) (hleL : nL = L.length) (k : Int) (hp0 : 0 ≤ k) (hp1 : k ≤ 1000000000) (hp2 : (nL : Int) ≤ 1048576) (i : Nat) (hi8 : i ≤ nL) (h9 : (i : Int) < (nL : Int)) (x10 : ChestStep) (hx11 : (mkL mkChestStep 2 i k ++ L.drop i)[i]? = some x10) : (mkL mkChestStep 2 i k ++ L.drop i).set ((i : Int).toNat) ({ ({ x10 with Kind := k + 2 * (i : Int) }) with Value := (k + 2 * (i : Int)) + 1 }) = mkL mkChestStep 2 (i + 1) k ++ L.drop (i + 1) := by
  exact mkL_set (by omega) (by first | (simp [mkChestStep]; done) | (simp [mkChestStep]; omega))
theorem z_c_laws_markChestStepS_27 (L : List ChestStep) (nL : Nat) (hbdL : (nL : Int) ≤ 9223372036854775807) (hleL : nL = L.length) (k : Int) (hp0 : 0 ≤ k) (hp1 : k ≤ 1000000000) (hp2 : (nL : Int) ≤ 1048576) (i : Nat) (hi8 : i ≤ nL) (h9 : (i : Int) < (nL : Int)) (x10 : ChestStep) (hx11 : (mkL mkChestStep 2 i k ++ L.drop i)[i]? = some x10) : i + 1 ≤ nL := by
  omega
theorem z_c_laws_markChestStepS_28 (L : List ChestStep) (nL : Nat) (hbdL : (nL : Int) ≤ 9223372036854775807) (hleL : nL = L.length) (k : Int) (hp0 : 0 ≤ k) (hp1 : k ≤ 1000000000) (hp2 : (nL : Int) ≤ 1048576) (i : Nat) (hi8 : i ≤ nL) (h9 : (i : Int) < (nL : Int)) (x10 : ChestStep) (hx11 : (mkL mkChestStep 2 i k ++ L.drop i)[i]? = some x10) : nL - (i + 1) < nL - i := by
  omega
theorem z_c_laws_markChestStepS_29 (L : List ChestStep) (nL : Nat) (hbdL : (nL : Int) ≤ 9223372036854775807) (hleL : nL = L.length) (k : Int) (hp0 : 0 ≤ k) (hp1 : k ≤ 1000000000) (hp2 : (nL : Int) ≤ 1048576) (i : Nat) (hi8 : i ≤ nL) (h9 : ¬ ((i : Int) < (nL : Int))) : k + 2 * (i : Int) = k + 2 * (L.length : Int) := by
  first | omega | exact mkL_end hleL (by assumption) (by omega)
theorem z_c_laws_markChestStepS_30 (L : List ChestStep) (nL : Nat) (hbdL : (nL : Int) ≤ 9223372036854775807) (hleL : nL = L.length) (k : Int) (hp0 : 0 ≤ k) (hp1 : k ≤ 1000000000) (hp2 : (nL : Int) ≤ 1048576) (i : Nat) (hi8 : i ≤ nL) (h9 : ¬ ((i : Int) < (nL : Int))) : mkL mkChestStep 2 i k ++ L.drop i = mkL mkChestStep 2 L.length k := by
  first | omega | exact mkL_end hleL (by assumption) (by omega)
theorem c_laws_markChestStepS (w : World) {AL : Option Addr} {nL cL BL : Nat}  (L : List ChestStep) (hL : SlO w BL encChestStep 2 32 AL nL cL L) (k : Int) (hp0 : 0 ≤ k) (hp1 : k ≤ 1000000000) (hp2 : (nL : Int) ≤ 1048576) : Calls Try.prog 30 #[.slice AL nL cL, .int .i64 k] w fun e w' => e = .returned (.int .i64 (k + 2 * (L.length : Int))) ∧ SlO w' BL encChestStep 2 32 AL nL cL (mkL mkChestStep 2 L.length k) ∧ Kp (fun b_ => AL = some ⟨b_, 0, none⟩) w w' := by
  refine calls_W 27 Try.func30 rfl rfl rfl ?_
  have hbdL := hL.rd.bound
  have hleL := hL.len
  have hBbL := hL.bd
  refine W.seq ?_
  refine W.regS (SR.q' (r_as (v := .int .i64 0) rfl) <| SR.nil ?_)
  refine W.seq ?_
  refine W.seq ?_
  refine W.regS (SR.q' (r_as (v := .int .i64 0) rfl) <| SR.nil ?_)
  refine W.block ?_
  refine W.loop (σ := Nat) (fun g => [(0, .slice AL nL cL), (1, .int .i64 (k + 2 * (g : Int))), (4, .int .i64 0), (5, .int .i64 (g : Int))]) (fun g w' => (Kp (fun b_ => AL = some ⟨b_, 0, none⟩) w w') ∧ (SlO w' BL encChestStep 2 32 AL nL cL (mkL mkChestStep 2 g k ++ L.drop g)) ∧ (g ≤ nL)) (fun g => nL - g) 0 ?_ ?_ ?_
  · exact ⟨rfl, (eI (by first | omega | (dsimp only; omega))), rfl, (eI (by first | omega | (dsimp only; omega))), trivial⟩
  · exact ⟨(Kp.refl w : Kp (fun b_ => AL = some ⟨b_, 0, none⟩) w w), (SlO.eqv (hL) (z_c_laws_markChestStepS_2 L nL hbdL hleL k hp0 hp1 hp2)), (z_c_laws_markChestStepS_1 L nL hbdL hleL k hp0 hp1 hp2)⟩
  · rintro i f3 w4 hP6
    obtain ⟨hB5, hm7, hi8⟩ : (Kp (fun b_ => AL = some ⟨b_, 0, none⟩) w w4) ∧ (SlO w4 BL encChestStep 2 32 AL nL cL (mkL mkChestStep 2 i k ++ L.drop i)) ∧ (i ≤ nL) := hP6
    refine (?_ : W _ _ _ _ _ (act _ (sets f3 [(0, .slice AL nL cL), (1, .int .i64 (k + 2 * (i : Int))), (4, .int .i64 0), (5, .int .i64 (i : Int))])) _)
    have hzw4 := hB5.size
    refine W.seq ?_
    refine W.seq ?_
    refine W.regS (SR.q' (r_mv (v := .int .i64 _) rfl) <| SR.q' (r_mv (v := .slice _ _ _) rfl) <| SR.q' (r_len und54 rfl) <| SR.q' (r_lt rfl rfl) <| SR.nil ?_)
    refine W.cond_d rfl (fun h9 => ?_) (fun h9 => ?_)
    · refine W.skip ?_
      refine W.seq ?_
      refine W.block ?_
      refine W.seq ?_
      refine W.regS (SR.q' (r_mv (v := .slice _ _ _) rfl) <| SR.q' (r_mv (v := .int .i64 _) rfl) <| SR.q' (r_mv (v := .int .i64 _) rfl) <| ?_)
      obtain ⟨x10, hx11⟩ := ((hm7).rd).get (i := i) (by omega)
      refine SR.q' (r_ixR tsl54 ((hm7).rd) rfl rfl (by omega)) <| SR.q' (r_fa fa32_0 rfl) <| SR.storeO (o := 0) (vs := [.int .i64 (k + 2 * (i : Int))]) (x1 := { x10 with Kind := k + 2 * (i : Int) }) sca3.2 rfl (add_add _ _ _) rfl rfl (hm7) hx11 rfl (Nat.le_of_ble_eq_true rfl) rfl ?_
      intro w12 hk13 hs14 hO15
      have hz16 := hk13.size
      have hB17 := hB5.step hk13 (fun i_ hi_ e' => by have := ((hm7)).base_le e'; first | omega | (exfalso; omega) | exact e' | exact .inl e' | exact .inr e')
      have hx18 : ((mkL mkChestStep 2 i k ++ L.drop i).set ((i : Int).toNat) ({ x10 with Kind := k + 2 * (i : Int) }))[(i : Int).toNat]? = some ({ x10 with Kind := k + 2 * (i : Int) }) := List.getElem?_set_self (List.getElem?_eq_some_iff.1 hx11).1
      refine SR.nil ?_
      refine W.seq ?_
      refine W.regS (SR.q' (r_mv (v := .int .i64 _) rfl) <| SR.q' (r_add rfl rfl (by omega)) <| SR.q' (r_as (v := .int .i64 _) rfl) <| SR.nil ?_)
      refine W.seq ?_
      refine W.regS (SR.q' (r_mv (v := .slice _ _ _) rfl) <| SR.q' (r_mv (v := .int .i64 _) rfl) <| SR.q' (r_mv (v := .int .i64 _) rfl) <| SR.q' (r_ixR tsl54 ((hO15).rd) rfl rfl (by omega)) <| SR.q' (r_fa fa32_1 rfl) <| SR.storeO (o := 1) (vs := [.int .i64 ((k + 2 * (i : Int)) + 1)]) (x1 := { ({ x10 with Kind := k + 2 * (i : Int) }) with Value := (k + 2 * (i : Int)) + 1 }) sca3.2 rfl (add_add _ _ _) rfl rfl (hO15) hx18 rfl (Nat.le_of_ble_eq_true rfl) rfl ?_)
      intro w19 hk20 hs21 hO22
      have hz23 := hk20.size
      have hB24 := hB17.step hk20 (fun i_ hi_ e' => by have := ((hO15)).base_le e'; first | omega | (exfalso; omega) | exact e' | exact .inl e' | exact .inr e')
      rw [List.set_set] at hO22
      have hx25 : ((mkL mkChestStep 2 i k ++ L.drop i).set ((i : Int).toNat) ({ ({ x10 with Kind := k + 2 * (i : Int) }) with Value := (k + 2 * (i : Int)) + 1 }))[(i : Int).toNat]? = some ({ ({ x10 with Kind := k + 2 * (i : Int) }) with Value := (k + 2 * (i : Int)) + 1 }) := List.getElem?_set_self (List.getElem?_eq_some_iff.1 hx11).1
      refine SR.nil ?_
      refine W.regS (SR.q' (r_mv (v := .int .i64 _) rfl) <| SR.q' (r_add rfl rfl (by omega)) <| SR.q' (r_as (v := .int .i64 _) rfl) <| SR.nil ?_)
      refine W.regS (SR.q' (r_mv (v := .int .i64 _) rfl) <| SR.q' (r_add rfl rfl (by omega)) <| SR.q' (r_as (v := .int .i64 _) rfl) <| SR.nil ?_)
      refine ⟨i + 1, _, rfl, ⟨rfl, (eI (by first | omega | (dsimp only; omega))), rfl, (eI (by first | omega | (dsimp only; omega))), trivial⟩, ⟨hB24, (SlO.eqv (hO22) (z_c_laws_markChestStepS_26 L nL hbdL hleL k hp0 hp1 hp2 i hi8 h9 x10 hx11)), ?_⟩, ?_⟩
      · exact (z_c_laws_markChestStepS_27 L nL hbdL hleL k hp0 hp1 hp2 i hi8 h9 x10 hx11)
      · exact (z_c_laws_markChestStepS_28 L nL hbdL hleL k hp0 hp1 hp2 i hi8 h9 x10 hx11)
    · refine W.exit (xin_here ?_)
      refine W.seq ?_
      refine W.regS (SR.q' (r_mv (v := .int .i64 _) rfl) <| SR.q' (r_as (v := .int .i64 _) rfl) <| SR.nil ?_)
      refine W.ret ?_
      refine ret1 rfl (v := .int .i64 _) rfl ?_
      exact ⟨eR (eI (z_c_laws_markChestStepS_29 L nL hbdL hleL k hp0 hp1 hp2 i hi8 h9)), (SlO.eqv (hm7) (z_c_laws_markChestStepS_30 L nL hbdL hleL k hp0 hp1 hp2 i hi8 h9)), hB5⟩

theorem z_c_slices_Index___int_int__1 (L : List Int) (nL : Nat) (hbdL : (nL : Int) ≤ 9223372036854775807) (hleL : nL = L.length) (v : Int) : 0 ≤ nL ∧ NoneTo (eqI v) L 0 := by
  exact ⟨Nat.zero_le _, NoneTo.zero⟩
theorem z_c_slices_Index___int_int__12 (L : List Int) (nL : Nat) (hbdL : (nL : Int) ≤ 9223372036854775807) (hleL : nL = L.length) (v : Int) (k : Nat) (hi7 : k ≤ nL ∧ NoneTo (eqI v) L k) (h8 : (k : Int) < (nL : Int)) (x9 : Int) (hx10 : L[k]? = some x9) (h11 : v = x9) : (k : Int) = idxF (eqI v) L := by
  first | exact idx_at (And.right ‹_ ∧ NoneTo _ L _›) ‹L[_]? = some _› (by simp_all [eqI]) | exact idx_no (And.right ‹_ ∧ NoneTo _ L _›) hleL ‹_›
theorem z_c_slices_Index___int_int__13 (L : List Int) (nL : Nat) (hbdL : (nL : Int) ≤ 9223372036854775807) (hleL : nL = L.length) (v : Int) (k : Nat) (hi7 : k ≤ nL ∧ NoneTo (eqI v) L k) (h8 : (k : Int) < (nL : Int)) (x9 : Int) (hx10 : L[k]? = some x9) (h11 : ¬ (v = x9)) : k + 1 ≤ nL ∧ NoneTo (eqI v) L (k + 1) := by
  exact ⟨by omega, NoneTo.next (And.right ‹_ ∧ NoneTo _ L _›) ‹L[k]? = some _› (by simp only [eqI, decide_eq_false_iff_not]; omega)⟩
theorem z_c_slices_Index___int_int__14 (L : List Int) (nL : Nat) (hbdL : (nL : Int) ≤ 9223372036854775807) (hleL : nL = L.length) (v : Int) (k : Nat) (hi7 : k ≤ nL ∧ NoneTo (eqI v) L k) (h8 : (k : Int) < (nL : Int)) (x9 : Int) (hx10 : L[k]? = some x9) (h11 : ¬ (v = x9)) : nL - (k + 1) < nL - k := by
  omega
theorem z_c_slices_Index___int_int__15 (L : List Int) (nL : Nat) (hbdL : (nL : Int) ≤ 9223372036854775807) (hleL : nL = L.length) (v : Int) (k : Nat) (hi7 : k ≤ nL ∧ NoneTo (eqI v) L k) (h8 : ¬ ((k : Int) < (nL : Int))) : (-1) = idxF (eqI v) L := by
  first | exact idx_at (And.right ‹_ ∧ NoneTo _ L _›) ‹L[_]? = some _› (by simp_all [eqI]) | exact idx_no (And.right ‹_ ∧ NoneTo _ L _›) hleL ‹_›
theorem c_slices_Index___int_int_ (w : World) {AL : Option Addr} {nL cL BL : Nat}  (L : List Int) (hL : SlR w BL encI 1 AL nL cL L) (v : Int) : Calls Try.prog 94 #[.slice AL nL cL, .int .i64 v] w fun e w' => e = .returned (.int .i64 (idxF (eqI v) L)) ∧ Lo w w' := by
  refine calls_W 19 Try.func94 rfl rfl rfl ?_
  have hbdL := hL.bound
  have hleL := hL.len
  have hBbL := hL.bd
  refine W.seq ?_
  refine W.regS (SR.q' (r_as (v := .int .i64 0) rfl) <| SR.nil ?_)
  refine W.seq ?_
  refine W.seq ?_
  refine W.regS (SR.q' (r_mv (v := .slice _ _ _) rfl) <| SR.q' (r_len und22 rfl) <| SR.q' (r_mv (v := .int .i64 0) rfl) <| SR.nil ?_)
  refine W.block ?_
  refine W.loop (σ := Nat) (fun g => [(0, .slice AL nL cL), (1, .int .i64 v), (7, .int .i64 (nL : Int)), (8, .int .i64 (g : Int))]) (fun g w' => (Lo w w') ∧ (SlR w' BL encI 1 AL nL cL L) ∧ (g ≤ nL ∧ NoneTo (eqI v) L g)) (fun g => nL - g) 0 ?_ ?_ ?_
  · exact ⟨rfl, rfl, rfl, rfl, trivial⟩
  · exact ⟨(Lo.refl w), hL, (z_c_slices_Index___int_int__1 L nL hbdL hleL v)⟩
  · rintro k f2 w3 hP5
    obtain ⟨hB4, hm6, hi7⟩ : (Lo w w3) ∧ (SlR w3 BL encI 1 AL nL cL L) ∧ (k ≤ nL ∧ NoneTo (eqI v) L k) := hP5
    refine (?_ : W _ _ _ _ _ (act _ (sets f2 [(0, .slice AL nL cL), (1, .int .i64 v), (7, .int .i64 (nL : Int)), (8, .int .i64 (k : Int))])) _)
    have hzw3 := hB4.size
    refine W.seq ?_
    refine W.regS (SR.q' (r_lt rfl rfl) <| SR.nil ?_)
    refine W.seq ?_
    refine W.cond_d rfl (fun h8 => ?_) (fun h8 => ?_)
    · refine W.skip ?_
      refine W.seq ?_
      refine W.block ?_
      refine W.seq ?_
      refine W.regS (SR.q' (r_mv (v := .int .i64 _) rfl) <| SR.q' (r_as (v := .int .i64 _) rfl) <| SR.nil ?_)
      refine W.seq ?_
      refine W.regS (SR.q' (r_mv (v := .int .i64 _) rfl) <| SR.q' (r_mv (v := .slice _ _ _) rfl) <| SR.q' (r_mv (v := .int .i64 _) rfl) <| ?_)
      obtain ⟨x9, hx10⟩ := (hm6).get (i := k) (by omega)
      refine SR.q' (r_ixR tsl22 (hm6) rfl rfl (by omega)) <| SR.q' (r_ld (v := .int .i64 x9) sca3 rfl ((hm6).cell0 hx10 rfl)) <| SR.q' (r_eq rfl rfl) <| SR.nil ?_
      refine W.cond_d rfl (fun h11 => ?_) (fun h11 => ?_)
      · refine W.seq ?_
        refine W.regS (SR.q' (r_mv (v := .int .i64 _) rfl) <| SR.q' (r_as (v := .int .i64 _) rfl) <| SR.nil ?_)
        refine W.ret ?_
        refine ret1 rfl (v := .int .i64 _) rfl ?_
        exact ⟨eR (eI (z_c_slices_Index___int_int__12 L nL hbdL hleL v k hi7 h8 x9 hx10 h11)), hB4⟩
      · refine W.skip ?_
        refine W.regS (SR.q' (r_add rfl rfl (by omega)) <| SR.q' (r_mv (v := .int .i64 _) rfl) <| SR.nil ?_)
        refine ⟨k + 1, _, rfl, ⟨rfl, rfl, rfl, rfl, trivial⟩, ⟨hB4, hm6, ?_⟩, ?_⟩
        · exact (z_c_slices_Index___int_int__13 L nL hbdL hleL v k hi7 h8 x9 hx10 h11)
        · exact (z_c_slices_Index___int_int__14 L nL hbdL hleL v k hi7 h8 x9 hx10 h11)
    · refine W.exit (xin_here ?_)
      refine W.seq ?_
      refine W.regS (SR.q' (r_as (v := .int .i64 (-1)) rfl) <| SR.nil ?_)
      refine W.ret ?_
      refine ret1 rfl (v := .int .i64 _) rfl ?_
      exact ⟨eR (eI (z_c_slices_Index___int_int__15 L nL hbdL hleL v k hi7 h8)), hB4⟩

theorem z_c_spec_l21Find_1 (L : List Int) (nL : Nat) (hbdL : (nL : Int) ≤ 9223372036854775807) (hleL : nL = L.length) (v : Int) : 0 ≤ nL ∧ NoneTo (eqI v) L 0 := by
  exact ⟨Nat.zero_le _, NoneTo.zero⟩
theorem z_c_spec_l21Find_12 (L : List Int) (nL : Nat) (hbdL : (nL : Int) ≤ 9223372036854775807) (hleL : nL = L.length) (v : Int) (k : Nat) (hi7 : k ≤ nL ∧ NoneTo (eqI v) L k) (h8 : (k : Int) < (nL : Int)) (x9 : Int) (hx10 : L[k]? = some x9) (h11 : x9 = v) : (k : Int) = idxF (eqI v) L := by
  first | exact idx_at (And.right ‹_ ∧ NoneTo _ L _›) ‹L[_]? = some _› (by simp_all [eqI]) | exact idx_no (And.right ‹_ ∧ NoneTo _ L _›) hleL ‹_›
theorem z_c_spec_l21Find_13 (L : List Int) (nL : Nat) (hbdL : (nL : Int) ≤ 9223372036854775807) (hleL : nL = L.length) (v : Int) (k : Nat) (hi7 : k ≤ nL ∧ NoneTo (eqI v) L k) (h8 : (k : Int) < (nL : Int)) (x9 : Int) (hx10 : L[k]? = some x9) (h11 : ¬ (x9 = v)) : k + 1 ≤ nL ∧ NoneTo (eqI v) L (k + 1) := by
  exact ⟨by omega, NoneTo.next (And.right ‹_ ∧ NoneTo _ L _›) ‹L[k]? = some _› (by simp only [eqI, decide_eq_false_iff_not]; omega)⟩
theorem z_c_spec_l21Find_14 (L : List Int) (nL : Nat) (hbdL : (nL : Int) ≤ 9223372036854775807) (hleL : nL = L.length) (v : Int) (k : Nat) (hi7 : k ≤ nL ∧ NoneTo (eqI v) L k) (h8 : (k : Int) < (nL : Int)) (x9 : Int) (hx10 : L[k]? = some x9) (h11 : ¬ (x9 = v)) : nL - (k + 1) < nL - k := by
  omega
theorem z_c_spec_l21Find_15 (L : List Int) (nL : Nat) (hbdL : (nL : Int) ≤ 9223372036854775807) (hleL : nL = L.length) (v : Int) (k : Nat) (hi7 : k ≤ nL ∧ NoneTo (eqI v) L k) (h8 : ¬ ((k : Int) < (nL : Int))) : (-1) = idxF (eqI v) L := by
  first | exact idx_at (And.right ‹_ ∧ NoneTo _ L _›) ‹L[_]? = some _› (by simp_all [eqI]) | exact idx_no (And.right ‹_ ∧ NoneTo _ L _›) hleL ‹_›
theorem c_spec_l21Find (w : World) {AL : Option Addr} {nL cL BL : Nat}  (L : List Int) (hL : SlR w BL encI 1 AL nL cL L) (v : Int) : Calls Try.prog 95 #[.slice AL nL cL, .int .i64 v] w fun e w' => e = .returned (.int .i64 (idxF (eqI v) L)) ∧ Lo w w' := by
  refine calls_W 19 Try.func95 rfl rfl rfl ?_
  have hbdL := hL.bound
  have hleL := hL.len
  have hBbL := hL.bd
  refine W.seq ?_
  refine W.regS (SR.q' (r_as (v := .int .i64 0) rfl) <| SR.nil ?_)
  refine W.seq ?_
  refine W.seq ?_
  refine W.regS (SR.q' (r_as (v := .int .i64 0) rfl) <| SR.nil ?_)
  refine W.block ?_
  refine W.loop (σ := Nat) (fun g => [(0, .slice AL nL cL), (1, .int .i64 v), (5, .int .i64 (g : Int))]) (fun g w' => (Lo w w') ∧ (SlR w' BL encI 1 AL nL cL L) ∧ (g ≤ nL ∧ NoneTo (eqI v) L g)) (fun g => nL - g) 0 ?_ ?_ ?_
  · exact ⟨rfl, rfl, rfl, trivial⟩
  · exact ⟨(Lo.refl w), hL, (z_c_spec_l21Find_1 L nL hbdL hleL v)⟩
  · rintro k f2 w3 hP5
    obtain ⟨hB4, hm6, hi7⟩ : (Lo w w3) ∧ (SlR w3 BL encI 1 AL nL cL L) ∧ (k ≤ nL ∧ NoneTo (eqI v) L k) := hP5
    refine (?_ : W _ _ _ _ _ (act _ (sets f2 [(0, .slice AL nL cL), (1, .int .i64 v), (5, .int .i64 (k : Int))])) _)
    have hzw3 := hB4.size
    refine W.seq ?_
    refine W.seq ?_
    refine W.regS (SR.q' (r_mv (v := .int .i64 _) rfl) <| SR.q' (r_mv (v := .slice _ _ _) rfl) <| SR.q' (r_len und22 rfl) <| SR.q' (r_lt rfl rfl) <| SR.nil ?_)
    refine W.cond_d rfl (fun h8 => ?_) (fun h8 => ?_)
    · refine W.skip ?_
      refine W.seq ?_
      refine W.block ?_
      refine W.seq ?_
      refine W.regS (SR.q' (r_mv (v := .slice _ _ _) rfl) <| SR.q' (r_mv (v := .int .i64 _) rfl) <| ?_)
      obtain ⟨x9, hx10⟩ := (hm6).get (i := k) (by omega)
      refine SR.q' (r_ixR tsl22 (hm6) rfl rfl (by omega)) <| SR.q' (r_ld (v := .int .i64 x9) sca3 rfl ((hm6).cell0 hx10 rfl)) <| SR.q' (r_mv (v := .int .i64 _) rfl) <| SR.q' (r_eq rfl rfl) <| SR.nil ?_
      refine W.cond_d rfl (fun h11 => ?_) (fun h11 => ?_)
      · refine W.seq ?_
        refine W.regS (SR.q' (r_mv (v := .int .i64 _) rfl) <| SR.q' (r_as (v := .int .i64 _) rfl) <| SR.nil ?_)
        refine W.ret ?_
        refine ret1 rfl (v := .int .i64 _) rfl ?_
        exact ⟨eR (eI (z_c_spec_l21Find_12 L nL hbdL hleL v k hi7 h8 x9 hx10 h11)), hB4⟩
      · refine W.skip ?_
        refine W.regS (SR.q' (r_mv (v := .int .i64 _) rfl) <| SR.q' (r_add rfl rfl (by omega)) <| SR.q' (r_as (v := .int .i64 _) rfl) <| SR.nil ?_)
        refine ⟨k + 1, _, rfl, ⟨rfl, rfl, rfl, trivial⟩, ⟨hB4, hm6, ?_⟩, ?_⟩
        · exact (z_c_spec_l21Find_13 L nL hbdL hleL v k hi7 h8 x9 hx10 h11)
        · exact (z_c_spec_l21Find_14 L nL hbdL hleL v k hi7 h8 x9 hx10 h11)
    · refine W.exit (xin_here ?_)
      refine W.seq ?_
      refine W.regS (SR.q' (r_as (v := .int .i64 (-1)) rfl) <| SR.nil ?_)
      refine W.ret ?_
      refine ret1 rfl (v := .int .i64 _) rfl ?_
      exact ⟨eR (eI (z_c_spec_l21Find_15 L nL hbdL hleL v k hi7 h8)), hB4⟩

theorem z_c_slices_Contains___int_int__6 (L : List Int) (nL : Nat) (hbdL : (nL : Int) ≤ 9223372036854775807) (hleL : nL = L.length) (v : Int) (hq5 : idxF (eqI v) L < (L.length : Int) ∧ -1 ≤ idxF (eqI v) L) : (0 ≤ (idxF (eqI v) L)) ↔ (v ∈ L) := by
  exact mem_idx.symm
theorem c_slices_Contains___int_int_ (w : World) {AL : Option Addr} {nL cL BL : Nat}  (L : List Int) (hL : SlR w BL encI 1 AL nL cL L) (v : Int) : Calls Try.prog 91 #[.slice AL nL cL, .int .i64 v] w fun e w' => e = .returned (.bool (decide (v ∈ L))) ∧ Lo w w' := by
  refine calls_W 9 Try.func91 rfl rfl rfl ?_
  have hbdL := hL.bound
  have hleL := hL.len
  have hBbL := hL.bd
  refine W.seq ?_
  refine W.regS (SR.q' (r_as (v := .bool false) rfl) <| SR.nil ?_)
  refine W.seq ?_
  refine W.regS (SR.q' (r_mv (v := .slice _ _ _) rfl) <| SR.q' (r_mv (v := .int .i64 _) rfl) <| SR.call ent94 (c_slices_Index___int_int_ w L ((hL)) v) rfl ?_)
  rintro e w1 ⟨rfl, hk2⟩
  refine ⟨_, rfl, ?_⟩
  have hz3 := hk2.size
  have hB4 := (Lo.refl w).lo hk2
  have hq5 : idxF (eqI v) L < (L.length : Int) ∧ -1 ≤ idxF (eqI v) L := idx_lt
  refine SR.q' (r_ge rfl rfl) <| SR.q' (r_as (v := .bool _) rfl) <| SR.nil ?_
  refine W.ret ?_
  refine ret1 rfl (v := .bool _) rfl ?_
  exact ⟨eR (eDD (z_c_slices_Contains___int_int__6 L nL hbdL hleL v hq5)), hB4⟩

theorem z_c_slices_Clone___int_int__3 (L : List Int) (nL : Nat) (hbdL : (nL : Int) ≤ 9223372036854775807) (hleL : nL = L.length) (hp0 : (nL : Int) ≤ 1048576) (hq2 : nL = 0) : ([] : List Int) = L := by
  first | rfl | (exact (List.eq_nil_of_length_eq_zero (by omega)).symm)
theorem c_slices_Clone___int_int_ (w : World) {AL : Option Addr} {nL cL BL : Nat}  (L : List Int) (hL : SlR w BL encI 1 AL nL cL L) (hp0 : (nL : Int) ≤ 1048576) : Calls Try.prog 107 #[.slice AL nL cL] w fun e w' => ∃ (A1' : Option Addr) (n1' c1' : Nat), e = .returned (.slice A1' n1' c1') ∧ SlO w' w.heap.size encI 1 3 A1' n1' c1' L ∧ Lo w w' := by
  refine calls_W 8 Try.func107 rfl rfl rfl ?_
  have hbdL := hL.bound
  have hleL := hL.len
  have hBbL := hL.bd
  refine W.seq ?_
  refine W.regS (SR.q' (r_as (v := .slice none 0 0) rfl) <| SR.nil ?_)
  refine W.seq ?_
  refine W.seq ?_
  refine W.regS (SR.q' (r_mv (v := .slice _ _ _) rfl) <| SR.q' (r_eqlnil und22 rfl rfl) <| SR.nil ?_)
  refine W.cond_b rfl (fun h1 => ?_) (fun h1 => ?_)
  · have hq2 := slR_nil hL h1
    refine W.seq ?_
    refine W.regS (SR.q' (r_as (v := .slice none 0 0) rfl) <| SR.nil ?_)
    refine W.ret ?_
    refine ret1 rfl (v := .slice none 0 0) rfl ?_
    exact ⟨none, 0, 0, eR rfl, (SlO.eqv (SlO.nil (e := 3) (enc := encI) (fun _ => rfl) (Nat.le_refl _)) (z_c_slices_Clone___int_int__3 L nL hbdL hleL hp0 hq2)), (Lo.refl w)⟩
  · refine W.skip ?_
    refine W.seq ?_
    refine W.regS (SR.lit (vs := []) (L := ([] : List Int)) (enc := encI) tel22 (fun _ => rfl) rfl rfl rfl (by decide) ?_)
    intro g4 w5 hg6 hk7 hO8
    have hz9 := hk7.size
    have hB10 := (Lo.refl w).lo hk7
    refine SR.q' (r_mv (v := .slice _ _ _) rfl) <| SR.app tel22 rfl rfl (hO8) ((hL).lo hk7) (fun _ => rfl) (by omega) (by omega) ?_
    intro A11 c12 w13 hk14 hO15 hN16
    have hz17 := hk14.size
    have hB18 := hB10.step hk14 (fun i_ hi_ e' => by have := ((hO8)).base_le e'; first | omega | (exfalso; omega) | exact e' | exact .inl e' | exact .inr e')
    rw [List.nil_append] at hO15
    refine SR.q' (r_as (v := .slice _ _ _) rfl) <| SR.nil ?_
    refine W.ret ?_
    refine ret1 rfl (v := .slice _ _ _) rfl ?_
    exact ⟨A11, 0 + nL, c12, eR rfl, ((hO15).down (by omega)), hB18⟩

theorem c_spec_l1Own (w : World) {AL : Option Addr} {nL cL BL : Nat}  (L : List Int) (hL : SlR w BL encI 1 AL nL cL L) (hp0 : (nL : Int) ≤ 1048576) : Calls Try.prog 106 #[.slice AL nL cL] w fun e w' => ∃ (A1' : Option Addr) (n1' c1' : Nat), e = .returned (.slice A1' n1' c1') ∧ SlO w' w.heap.size encI 1 3 A1' n1' c1' L ∧ Lo w w' := by
  refine calls_W 6 Try.func106 rfl rfl rfl ?_
  have hbdL := hL.bound
  have hleL := hL.len
  have hBbL := hL.bd
  refine W.seq ?_
  refine W.regS (SR.q' (r_as (v := .slice none 0 0) rfl) <| SR.nil ?_)
  refine W.seq ?_
  refine W.regS (SR.lit (vs := []) (L := ([] : List Int)) (enc := encI) tel22 (fun _ => rfl) rfl rfl rfl (by decide) ?_)
  intro g1 w2 hg3 hk4 hO5
  have hz6 := hk4.size
  have hB7 := (Lo.refl w).lo hk4
  refine SR.q' (r_mv (v := .slice _ _ _) rfl) <| SR.app tel22 rfl rfl (hO5) ((hL).lo hk4) (fun _ => rfl) (by omega) (by omega) ?_
  intro A8 c9 w10 hk11 hO12 hN13
  have hz14 := hk11.size
  have hB15 := hB7.step hk11 (fun i_ hi_ e' => by have := ((hO5)).base_le e'; first | omega | (exfalso; omega) | exact e' | exact .inl e' | exact .inr e')
  rw [List.nil_append] at hO12
  refine SR.q' (r_as (v := .slice _ _ _) rfl) <| SR.nil ?_
  refine W.ret ?_
  refine ret1 rfl (v := .slice _ _ _) rfl ?_
  exact ⟨A8, 0 + nL, c9, eR rfl, ((hO12).down (by omega)), hB15⟩

theorem z_c_slices_IndexFunc___int_int__1 (L : List Int) (nL : Nat) (hbdL : (nL : Int) ≤ 9223372036854775807) (hleL : nL = L.length) (p : Int → Bool) : 0 ≤ nL ∧ NoneTo p L 0 := by
  exact ⟨Nat.zero_le _, NoneTo.zero⟩
theorem z_c_slices_IndexFunc___int_int__16 (L : List Int) (nL : Nat) (hbdL : (nL : Int) ≤ 9223372036854775807) (hleL : nL = L.length) (p : Int → Bool) (k : Nat) (hi7 : k ≤ nL ∧ NoneTo p L k) (h8 : (k : Int) < (nL : Int)) (hx10 : L[k]? = some (gt L k)) (h15 : (p (gt L k)) = true) : (k : Int) = idxF p L := by
  first | exact idx_at (And.right ‹_ ∧ NoneTo p L _›) ‹L[_]? = some _› ‹_› | exact idx_no (And.right ‹_ ∧ NoneTo p L _›) hleL ‹_›
theorem z_c_slices_IndexFunc___int_int__17 (L : List Int) (nL : Nat) (hbdL : (nL : Int) ≤ 9223372036854775807) (hleL : nL = L.length) (p : Int → Bool) (k : Nat) (hi7 : k ≤ nL ∧ NoneTo p L k) (h8 : (k : Int) < (nL : Int)) (hx10 : L[k]? = some (gt L k)) (h15 : (p (gt L k)) = false) : k + 1 ≤ nL ∧ NoneTo p L (k + 1) := by
  exact ⟨by omega, NoneTo.next (And.right ‹_ ∧ NoneTo p L _›) ‹L[k]? = some _› ‹_›⟩
theorem z_c_slices_IndexFunc___int_int__18 (L : List Int) (nL : Nat) (hbdL : (nL : Int) ≤ 9223372036854775807) (hleL : nL = L.length) (p : Int → Bool) (k : Nat) (hi7 : k ≤ nL ∧ NoneTo p L k) (h8 : (k : Int) < (nL : Int)) (hx10 : L[k]? = some (gt L k)) (h15 : (p (gt L k)) = false) : nL - (k + 1) < nL - k := by
  omega
theorem z_c_slices_IndexFunc___int_int__19 (L : List Int) (nL : Nat) (hbdL : (nL : Int) ≤ 9223372036854775807) (hleL : nL = L.length) (p : Int → Bool) (k : Nat) (hi7 : k ≤ nL ∧ NoneTo p L k) (h8 : ¬ ((k : Int) < (nL : Int))) : (-1) = idxF p L := by
  first | exact idx_at (And.right ‹_ ∧ NoneTo p L _›) ‹L[_]? = some _› ‹_› | exact idx_no (And.right ‹_ ∧ NoneTo p L _›) hleL ‹_›
theorem c_slices_IndexFunc___int_int_ (w : World) {AL : Option Addr} {nL cL BL : Nat}  (L : List Int) (hL : SlR w BL encI 1 AL nL cL L) {kp : Nat} {capp : List Value} (p : Int → Bool) (hp : Fnc Try.prog w kp capp (fun x => .int .i64 x) p) : Calls Try.prog 109 #[.slice AL nL cL, .func (.func kp) #[] (List.toArray capp)] w fun e w' => e = .returned (.int .i64 (idxF p L)) ∧ Lo w w' := by
  refine calls_W 19 Try.func109 rfl rfl rfl ?_
  have hbdL := hL.bound
  have hleL := hL.len
  have hBbL := hL.bd
  refine W.seq ?_
  refine W.regS (SR.q' (r_as (v := .int .i64 0) rfl) <| SR.nil ?_)
  refine W.seq ?_
  refine W.seq ?_
  refine W.regS (SR.q' (r_mv (v := .slice _ _ _) rfl) <| SR.q' (r_len und22 rfl) <| SR.q' (r_mv (v := .int .i64 0) rfl) <| SR.nil ?_)
  refine W.block ?_
  refine W.loop (σ := Nat) (fun g => [(0, .slice AL nL cL), (1, .func (.func kp) #[] (List.toArray capp)), (7, .int .i64 (nL : Int)), (8, .int .i64 (g : Int))]) (fun g w' => (Lo w w') ∧ (SlR w' BL encI 1 AL nL cL L) ∧ (g ≤ nL ∧ NoneTo p L g)) (fun g => nL - g) 0 ?_ ?_ ?_
  · exact ⟨rfl, rfl, rfl, rfl, trivial⟩
  · exact ⟨(Lo.refl w), hL, (z_c_slices_IndexFunc___int_int__1 L nL hbdL hleL p)⟩
  · rintro k f2 w3 hP5
    obtain ⟨hB4, hm6, hi7⟩ : (Lo w w3) ∧ (SlR w3 BL encI 1 AL nL cL L) ∧ (k ≤ nL ∧ NoneTo p L k) := hP5
    refine (?_ : W _ _ _ _ _ (act _ (sets f2 [(0, .slice AL nL cL), (1, .func (.func kp) #[] (List.toArray capp)), (7, .int .i64 (nL : Int)), (8, .int .i64 (k : Int))])) _)
    have hzw3 := hB4.size
    refine W.seq ?_
    refine W.regS (SR.q' (r_lt rfl rfl) <| SR.nil ?_)
    refine W.seq ?_
    refine W.cond_d rfl (fun h8 => ?_) (fun h8 => ?_)
    · refine W.skip ?_
      refine W.seq ?_
      refine W.block ?_
      refine W.seq ?_
      refine W.regS (SR.q' (r_mv (v := .int .i64 _) rfl) <| SR.q' (r_as (v := .int .i64 _) rfl) <| SR.nil ?_)
      refine W.seq ?_
      refine W.regS (SR.q' (r_mv (v := .func _ #[] (List.toArray _)) rfl) <| SR.q' (r_mv (v := .slice _ _ _) rfl) <| SR.q' (r_mv (v := .int .i64 _) rfl) <| ?_)
      have hx10 := (hm6).elem (i := k) (by omega)
      refine SR.q' (r_ixR tsl22 (hm6) rfl rfl (by omega)) <| SR.q' (r_ld (v := .int .i64 (gt L k)) sca3 rfl ((hm6).cell0 hx10 rfl)) <| SR.callv (hp).1 rfl ((hp).2 _ hB4 (gt L k)) rfl ?_
      rintro e w11 ⟨rfl, hk12⟩
      refine ⟨_, rfl, ?_⟩
      have hz13 := hk12.size
      have hB14 := hB4.lo hk12
      refine SR.nil ?_
      refine W.cond_b rfl (fun h15 => ?_) (fun h15 => ?_)
      · refine W.seq ?_
        refine W.regS (SR.q' (r_mv (v := .int .i64 _) rfl) <| SR.q' (r_as (v := .int .i64 _) rfl) <| SR.nil ?_)
        refine W.ret ?_
        refine ret1 rfl (v := .int .i64 _) rfl ?_
        exact ⟨eR (eI (z_c_slices_IndexFunc___int_int__16 L nL hbdL hleL p k hi7 h8 hx10 h15)), hB14⟩
      · refine W.skip ?_
        refine W.regS (SR.q' (r_add rfl rfl (by omega)) <| SR.q' (r_mv (v := .int .i64 _) rfl) <| SR.nil ?_)
        refine ⟨k + 1, _, rfl, ⟨rfl, rfl, rfl, rfl, trivial⟩, ⟨hB14, (hm6).lo hk12, ?_⟩, ?_⟩
        · exact (z_c_slices_IndexFunc___int_int__17 L nL hbdL hleL p k hi7 h8 hx10 h15)
        · exact (z_c_slices_IndexFunc___int_int__18 L nL hbdL hleL p k hi7 h8 hx10 h15)
    · refine W.exit (xin_here ?_)
      refine W.seq ?_
      refine W.regS (SR.q' (r_as (v := .int .i64 (-1)) rfl) <| SR.nil ?_)
      refine W.ret ?_
      refine ret1 rfl (v := .int .i64 _) rfl ?_
      exact ⟨eR (eI (z_c_slices_IndexFunc___int_int__19 L nL hbdL hleL p k hi7 h8)), hB4⟩

theorem z_c_slices_ContainsFunc___int_int__6 (L : List Int) (nL : Nat) (hbdL : (nL : Int) ≤ 9223372036854775807) (hleL : nL = L.length) (p : Int → Bool) (hq5 : idxF p L < (L.length : Int) ∧ -1 ≤ idxF p L) : decide (0 ≤ (idxF p L)) = L.any p := by
  rw [Bool.eq_iff_iff, decide_eq_true_eq]; exact any_idx
theorem c_slices_ContainsFunc___int_int_ (w : World) {AL : Option Addr} {nL cL BL : Nat}  (L : List Int) (hL : SlR w BL encI 1 AL nL cL L) {kp : Nat} {capp : List Value} (p : Int → Bool) (hp : Fnc Try.prog w kp capp (fun x => .int .i64 x) p) : Calls Try.prog 82 #[.slice AL nL cL, .func (.func kp) #[] (List.toArray capp)] w fun e w' => e = .returned (.bool (L.any p)) ∧ Lo w w' := by
  refine calls_W 9 Try.func82 rfl rfl rfl ?_
  have hbdL := hL.bound
  have hleL := hL.len
  have hBbL := hL.bd
  refine W.seq ?_
  refine W.regS (SR.q' (r_as (v := .bool false) rfl) <| SR.nil ?_)
  refine W.seq ?_
  refine W.regS (SR.q' (r_mv (v := .slice _ _ _) rfl) <| SR.q' (r_mv (v := .func _ #[] (List.toArray _)) rfl) <| SR.call ent109 (c_slices_IndexFunc___int_int_ w L ((hL)) p (hp.lo (Lo.refl w))) rfl ?_)
  rintro e w1 ⟨rfl, hk2⟩
  refine ⟨_, rfl, ?_⟩
  have hz3 := hk2.size
  have hB4 := (Lo.refl w).lo hk2
  have hq5 : idxF p L < (L.length : Int) ∧ -1 ≤ idxF p L := idx_lt
  refine SR.q' (r_ge rfl rfl) <| SR.q' (r_as (v := .bool _) rfl) <| SR.nil ?_
  refine W.ret ?_
  refine ret1 rfl (v := .bool _) rfl ?_
  exact ⟨eR (eB (z_c_slices_ContainsFunc___int_int__6 L nL hbdL hleL p hq5)), hB4⟩
end Go.Proofs.Ytlpapeeaghmjpaa
