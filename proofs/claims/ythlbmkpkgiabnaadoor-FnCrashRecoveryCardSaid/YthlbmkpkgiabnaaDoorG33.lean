/- Walks, printed by a program of this claim's author. -/
import Derived.Test.YthlbmkpkgiabnaaDoorChecked
import Derived.Test.YthlbmkpkgiabnaaDoorWb
import Derived.Test.YthlbmkpkgiabnaaDoorFt
import Derived.Test.YthlbmkpkgiabnaaDoorSi
namespace Go.Proofs.YthlbmkpkgiabnaaDoor
open Go Go.RowKit Fw
set_option maxRecDepth 10000
set_option linter.unusedVariables false
theorem mo : Tryd.prog.follows .mixedOrders = true := by kernel_rfl
theorem ent42 : Ent Tryd.prog 42 := ent_of Tryd.func42 (by decide +kernel) rfl
theorem ent45 : Ent Tryd.prog 45 := ent_of Tryd.func45 (by decide +kernel) rfl
theorem ent47 : Ent Tryd.prog 47 := ent_of Tryd.func47 (by decide +kernel) rfl
theorem ent60 : Ent Tryd.prog 60 := ent_of Tryd.func60 (by decide +kernel) rfl
theorem ent61 : Ent Tryd.prog 61 := ent_of Tryd.func61 (by decide +kernel) rfl
theorem ent62 : Ent Tryd.prog 62 := ent_of Tryd.func62 (by decide +kernel) rfl
theorem ent63 : Ent Tryd.prog 63 := ent_of Tryd.func63 (by decide +kernel) rfl
theorem ent65 : Ent Tryd.prog 65 := ent_of Tryd.func65 (by decide +kernel) rfl
theorem ent66 : Ent Tryd.prog 66 := ent_of Tryd.func66 (by decide +kernel) rfl
theorem ent67 : Ent Tryd.prog 67 := ent_of Tryd.func67 (by decide +kernel) rfl
theorem ent74 : Ent Tryd.prog 74 := ent_of Tryd.func74 (by decide +kernel) rfl
theorem ent75 : Ent Tryd.prog 75 := ent_of Tryd.func75 (by decide +kernel) rfl
theorem ent77 : Ent Tryd.prog 77 := ent_of Tryd.func77 (by decide +kernel) rfl
theorem ent81 : Ent Tryd.prog 81 := ent_of Tryd.func81 (by decide +kernel) rfl
theorem fa27_0 : FA Tryd.prog 27 0 0 := fun _ _ => by kernel_rfl
theorem fa27_1 : FA Tryd.prog 27 1 1 := fun _ _ => by kernel_rfl
theorem sca5 : TSca Tryd.prog 5 := ⟨fun _ => by kernel_rfl, fun _ => by kernel_rfl⟩
theorem sca9 : TSca Tryd.prog 9 := ⟨fun _ => by kernel_rfl, fun _ => by kernel_rfl⟩
theorem tsl53 : TSl Tryd.prog 53 5 1 := ⟨by kernel_rfl, fun _ => by kernel_rfl⟩
theorem und3 : Tryd.prog.underlying 3 = some (.int .i64) := by kernel_rfl
theorem und5 : Tryd.prog.underlying 5 = some (.int .u8) := by kernel_rfl
theorem und53 : Tryd.prog.underlying 53 = some (.slice 5) := by kernel_rfl
theorem und9 : Tryd.prog.underlying 9 = some (.string) := by kernel_rfl

theorem z_c_spec_l1In_8 (n : Int) (a : Int) (b : Int) : ((a ≤ n) ∧ (n ≤ b)) ↔ (a ≤ n ∧ n ≤ b) := by
  omega
theorem c_spec_l1In (w : World) (n : Int) (a : Int) (b : Int) : Calls Tryd.prog 42 #[.int .i64 n, .int .i64 a, .int .i64 b] w fun e w' => e = .returned (.bool (decide (a ≤ n ∧ n ≤ b))) ∧ Lo w w' := by
  refine calls_W 15 Tryd.func42 rfl rfl rfl ?_
  refine W.seq ?_
  refine W.regS (SR.q' (r_as (v := .bool false) rfl) <| SR.nil ?_)
  refine W.seq ?_
  refine W.regJS (fun f' w' => At f' [(6, .bool (decide ((a ≤ n) ∧ (n ≤ b))))] ∧ Lo w w') ?_ ?_
  · refine SR.q' (r_mv (v := .int .i64 _) rfl) <| SR.q' (r_mv (v := .int .i64 _) rfl) <| SR.q' (r_ge rfl rfl) <| SR.q' (r_mv (v := .bool _) rfl) <| SR.splitD (fun h1 => ?_) (fun h1 => ?_)
    · refine SR.g' rfl (r_mv (v := .int .i64 _) rfl) <| SR.g' rfl (r_mv (v := .int .i64 _) rfl) <| SR.g' rfl (r_le rfl rfl) <| SR.q' (r_pick true rfl (v := .bool _) rfl) <| SR.q' (r_as (v := .bool _) rfl) <| SR.nil ?_
      exact ⟨_, rfl, ⟨⟨(eDD (jat h1)), trivial⟩, (Lo.refl _)⟩⟩
    · refine SR.s' rfl <| SR.s' rfl <| SR.s' rfl <| SR.q' (r_pick false rfl (v := .bool false) rfl) <| SR.q' (r_as (v := .bool _) rfl) <| SR.nil ?_
      exact ⟨_, rfl, ⟨⟨(eDF (jaf h1).2), trivial⟩, (Lo.refl _)⟩⟩
  rintro f2 w3 ⟨hat4, hk5⟩
  rw [← sets_of_at hat4]
  have hz6 := hk5.size
  have hB7 := (Lo.refl w).lo hk5
  refine W.ret ?_
  refine ret1 rfl (v := .bool _) rfl ?_
  exact ⟨eR (eDD (z_c_spec_l1In_8 n a b)), hB7⟩

theorem z_c_impl_within_8 (n : Int) (a : Int) (b : Int) : ((a ≤ n) ∧ (n ≤ b)) ↔ (a ≤ n ∧ n ≤ b) := by
  omega
theorem c_impl_within (w : World) (n : Int) (a : Int) (b : Int) : Calls Tryd.prog 45 #[.int .i64 n, .int .i64 a, .int .i64 b] w fun e w' => e = .returned (.bool (decide (a ≤ n ∧ n ≤ b))) ∧ Lo w w' := by
  refine calls_W 15 Tryd.func45 rfl rfl rfl ?_
  refine W.seq ?_
  refine W.regS (SR.q' (r_as (v := .bool false) rfl) <| SR.nil ?_)
  refine W.seq ?_
  refine W.regJS (fun f' w' => At f' [(6, .bool (decide ((a ≤ n) ∧ (n ≤ b))))] ∧ Lo w w') ?_ ?_
  · refine SR.q' (r_mv (v := .int .i64 _) rfl) <| SR.q' (r_mv (v := .int .i64 _) rfl) <| SR.q' (r_ge rfl rfl) <| SR.q' (r_mv (v := .bool _) rfl) <| SR.splitD (fun h1 => ?_) (fun h1 => ?_)
    · refine SR.g' rfl (r_mv (v := .int .i64 _) rfl) <| SR.g' rfl (r_mv (v := .int .i64 _) rfl) <| SR.g' rfl (r_le rfl rfl) <| SR.q' (r_pick true rfl (v := .bool _) rfl) <| SR.q' (r_as (v := .bool _) rfl) <| SR.nil ?_
      exact ⟨_, rfl, ⟨⟨(eDD (jat h1)), trivial⟩, (Lo.refl _)⟩⟩
    · refine SR.s' rfl <| SR.s' rfl <| SR.s' rfl <| SR.q' (r_pick false rfl (v := .bool false) rfl) <| SR.q' (r_as (v := .bool _) rfl) <| SR.nil ?_
      exact ⟨_, rfl, ⟨⟨(eDF (jaf h1).2), trivial⟩, (Lo.refl _)⟩⟩
  rintro f2 w3 ⟨hat4, hk5⟩
  rw [← sets_of_at hat4]
  have hz6 := hk5.size
  have hB7 := (Lo.refl w).lo hk5
  refine W.ret ?_
  refine ret1 rfl (v := .bool _) rfl ?_
  exact ⟨eR (eDD (z_c_impl_within_8 n a b)), hB7⟩

theorem c_impl_text (w : World) (n : Int) (hp0 : -9223372036854775808 ≤ n ∧ n ≤ 9223372036854775807) (hE : EnvW w) : Calls Tryd.prog 47 #[.int .i64 n] w fun e w' => e = .returned (str (Lib.itoa n)) ∧ Lo w w' := by
  refine calls_W 5 Tryd.func47 rfl rfl rfl ?_
  refine W.seq ?_
  refine W.regS (SR.q' (r_as (v := str ([] : List UInt8)) rfl) <| SR.nil ?_)
  refine W.seq ?_
  refine W.regS (SR.q' (r_mv (v := .int .i64 _) rfl) <| SR.call ent67 (c_strconv_Itoa w n (by omega) (hE.lo ((Lo.refl w)))) rfl ?_)
  rintro e w1 ⟨rfl, hk2⟩
  refine ⟨_, rfl, ?_⟩
  have hz3 := hk2.size
  have hB4 := (Lo.refl w).lo hk2
  have hq5 : (Lib.itoa n).length ≤ 21 := itoa_len (n := n) (by omega) (by omega)
  refine SR.q' (r_as (v := str _) rfl) <| SR.nil ?_
  refine W.ret ?_
  refine ret1 rfl (v := str _) rfl ?_
  exact ⟨eR rfl, hB4⟩

theorem z_c_spec_l1Num_7 (n : Int) (hp0 : -9223372036854775807 ≤ n ∧ n ≤ 9223372036854775807) (h1 : n < 0) (hq6 : (Lib.itoa (-n)).length ≤ 21) : ([45] : List UInt8) ++ (Lib.itoa (-n)) = Lib.itoa n := by
  first | exact itoa_m ‹_› | exact itoa_d (by omega) ‹_› | exact itoa_b (by omega)
theorem z_c_spec_l1Num_9 (n : Int) (hp0 : -9223372036854775807 ≤ n ∧ n ≤ 9223372036854775807) (h1 : ¬ (n < 0)) (h8 : n < 10) : (([48, 49, 50, 51, 52, 53, 54, 55, 56, 57] : List UInt8).drop n.toNat).take (((n + 1).toNat) - n.toNat) = Lib.itoa n := by
  first | exact itoa_m ‹_› | exact itoa_d (by omega) ‹_› | exact itoa_b (by omega)
theorem z_c_spec_l1Num_15 (n : Int) (hp0 : -9223372036854775807 ≤ n ∧ n ≤ 9223372036854775807) (h1 : ¬ (n < 0)) (h8 : ¬ (n < 10)) (hq10 : (Lib.itoa (n / 10)).length ≤ 21) : (Lib.itoa (n / 10)) ++ ((([48, 49, 50, 51, 52, 53, 54, 55, 56, 57] : List UInt8).drop ((n % 10).toNat)).take ((((n % 10) + 1).toNat) - ((n % 10).toNat))) = Lib.itoa n := by
  first | exact itoa_m ‹_› | exact itoa_d (by omega) ‹_› | exact itoa_b (by omega)
theorem c_spec_l1Num (w : World) (n : Int) (hp0 : -9223372036854775807 ≤ n ∧ n ≤ 9223372036854775807) : Calls Tryd.prog 65 #[.int .i64 n] w fun e w' => e = .returned (str (Lib.itoa n)) ∧ Lo w w' := by
  refine calls_W 25 Tryd.func65 rfl rfl rfl ?_
  refine W.seq ?_
  refine W.regS (SR.q' (r_as (v := str ([] : List UInt8)) rfl) <| SR.nil ?_)
  refine W.seq ?_
  refine W.seq ?_
  refine W.regS (SR.q' (r_mv (v := .int .i64 _) rfl) <| SR.q' (r_lt rfl rfl) <| SR.nil ?_)
  refine W.cond_d rfl (fun h1 => ?_) (fun h1 => ?_)
  · refine W.seq ?_
    refine W.regS (SR.q' (r_mv (v := .int .i64 _) rfl) <| SR.q' (r_neg rfl (by omega)) <| SR.call ent65 (c_spec_l1Num w (-n) (by omega)) rfl ?_)
    rintro e w2 ⟨rfl, hk3⟩
    refine ⟨_, rfl, ?_⟩
    have hz4 := hk3.size
    have hB5 := (Lo.refl w).lo hk3
    have hq6 : (Lib.itoa (-n)).length ≤ 21 := itoa_len (n := -n) (by omega) (by omega)
    refine SR.q' (r_cat rfl rfl (by first | omega | (simp only [List.length_append, List.length_cons, List.length_nil, List.length_take, List.length_drop]; omega) | (simp only [List.length_append, List.length_cons, List.length_nil, List.length_take, List.length_drop] at *; omega))) <| SR.q' (r_as (v := str _) rfl) <| SR.nil ?_
    refine W.ret ?_
    refine ret1 rfl (v := str _) rfl ?_
    exact ⟨eR (eS (z_c_spec_l1Num_7 n hp0 h1 hq6)), hB5⟩
  · refine W.skip ?_
    refine W.seq ?_
    refine W.seq ?_
    refine W.regS (SR.q' (r_mv (v := .int .i64 _) rfl) <| SR.q' (r_lt rfl rfl) <| SR.nil ?_)
    refine W.cond_d rfl (fun h8 => ?_) (fun h8 => ?_)
    · refine W.seq ?_
      refine W.regS (SR.q' (r_mv (v := .int .i64 _) rfl) <| SR.q' (r_mv (v := .int .i64 _) rfl) <| SR.q' (r_add rfl rfl (by omega)) <| SR.q' (r_cutS (l := n.toNat) (h := (n + 1).toNat) und9 rfl rfl rfl (by omega) (by omega) (by omega) (by first | omega | (simp only [List.length_append, List.length_cons, List.length_nil, List.length_take, List.length_drop]; omega) | (simp only [List.length_append, List.length_cons, List.length_nil, List.length_take, List.length_drop] at *; omega))) <| SR.q' (r_as (v := str _) rfl) <| SR.nil ?_)
      refine W.ret ?_
      refine ret1 rfl (v := str _) rfl ?_
      exact ⟨eR (eS (z_c_spec_l1Num_9 n hp0 h1 h8)), (Lo.refl w)⟩
    · refine W.skip ?_
      refine W.seq ?_
      refine W.regD mo (by kernel_rfl) (QR.q' (fun w' hw' => r_mv (v := .int .i64 _) rfl) <| QR.q' (fun w' hw' => r_quo rfl rfl (by omega)) <| QR.call ent65 (fun w' hw' => (c_spec_l1Num w' (n / 10) (by omega)).mono fun _ _ h => ⟨h.1, hw'.trans h.2⟩) rfl <| ?_)
      have hq10 : (Lib.itoa (n / 10)).length ≤ 21 := itoa_len (n := n / 10) (by omega) (by omega)
      refine QR.q' (fun w' hw' => r_mv (v := .int .i64 _) rfl) <| QR.q' (fun w' hw' => r_rem rfl rfl (by omega)) <| QR.q' (fun w' hw' => r_mv (v := .int .i64 _) rfl) <| QR.q' (fun w' hw' => r_rem rfl rfl (by omega)) <| QR.q' (fun w' hw' => r_add rfl rfl (by omega)) <| QR.q' (fun w' hw' => r_cutS (l := (n % 10).toNat) (h := ((n % 10) + 1).toNat) und9 rfl rfl rfl (by omega) (by omega) (by omega) (by first | omega | (simp only [List.length_append, List.length_cons, List.length_nil, List.length_take, List.length_drop]; omega) | (simp only [List.length_append, List.length_cons, List.length_nil, List.length_take, List.length_drop] at *; omega))) <| QR.q' (fun w' hw' => r_cat rfl rfl (by first | omega | (simp only [List.length_append, List.length_cons, List.length_nil, List.length_take, List.length_drop]; omega) | (simp only [List.length_append, List.length_cons, List.length_nil, List.length_take, List.length_drop] at *; omega))) <| QR.q' (fun w' hw' => r_as (v := str _) rfl) <| QR.nil ?_
      intro w11 hk12
      have hz13 := hk12.size
      have hB14 := (Lo.refl w).lo hk12
      refine W.ret ?_
      refine ret1 rfl (v := str _) rfl ?_
      exact ⟨eR (eS (z_c_spec_l1Num_15 n hp0 h1 h8 hq10)), hB14⟩
termination_by n.toNat + 2 * (-n).toNat
decreasing_by all_goals omega

theorem z_c_slices_IndexFunc___byte_byte__1 (L : List UInt8) (nL : Nat) (hbdL : (nL : Int) ≤ 9223372036854775807) (hleL : nL = L.length) (p : UInt8 → Bool) : 0 ≤ nL ∧ NoneTo p L 0 := by
  exact ⟨Nat.zero_le _, NoneTo.zero⟩
theorem z_c_slices_IndexFunc___byte_byte__17 (L : List UInt8) (nL : Nat) (hbdL : (nL : Int) ≤ 9223372036854775807) (hleL : nL = L.length) (p : UInt8 → Bool) (k : Nat) (hi7 : k ≤ nL ∧ NoneTo p L k) (h8 : (k : Int) < (nL : Int)) (hx10 : L[k]? = some (gt L k)) (hq11 : ((gt L k).toNat : Int) ≤ 255) (h16 : (p (gt L k)) = true) : (k : Int) = idxF p L := by
  first | exact idx_at (And.right ‹_ ∧ NoneTo p L _›) ‹L[_]? = some _› ‹_› | exact idx_no (And.right ‹_ ∧ NoneTo p L _›) hleL ‹_›
theorem z_c_slices_IndexFunc___byte_byte__18 (L : List UInt8) (nL : Nat) (hbdL : (nL : Int) ≤ 9223372036854775807) (hleL : nL = L.length) (p : UInt8 → Bool) (k : Nat) (hi7 : k ≤ nL ∧ NoneTo p L k) (h8 : (k : Int) < (nL : Int)) (hx10 : L[k]? = some (gt L k)) (hq11 : ((gt L k).toNat : Int) ≤ 255) (h16 : (p (gt L k)) = false) : k + 1 ≤ nL ∧ NoneTo p L (k + 1) := by
  exact ⟨by omega, NoneTo.next (And.right ‹_ ∧ NoneTo p L _›) ‹L[k]? = some _› ‹_›⟩
theorem z_c_slices_IndexFunc___byte_byte__19 (L : List UInt8) (nL : Nat) (hbdL : (nL : Int) ≤ 9223372036854775807) (hleL : nL = L.length) (p : UInt8 → Bool) (k : Nat) (hi7 : k ≤ nL ∧ NoneTo p L k) (h8 : (k : Int) < (nL : Int)) (hx10 : L[k]? = some (gt L k)) (hq11 : ((gt L k).toNat : Int) ≤ 255) (h16 : (p (gt L k)) = false) : nL - (k + 1) < nL - k := by
  omega
theorem z_c_slices_IndexFunc___byte_byte__20 (L : List UInt8) (nL : Nat) (hbdL : (nL : Int) ≤ 9223372036854775807) (hleL : nL = L.length) (p : UInt8 → Bool) (k : Nat) (hi7 : k ≤ nL ∧ NoneTo p L k) (h8 : ¬ ((k : Int) < (nL : Int))) : (-1) = idxF p L := by
  first | exact idx_at (And.right ‹_ ∧ NoneTo p L _›) ‹L[_]? = some _› ‹_› | exact idx_no (And.right ‹_ ∧ NoneTo p L _›) hleL ‹_›
theorem c_slices_IndexFunc___byte_byte_ (w : World) {AL : Option Addr} {nL cL BL : Nat}  (L : List UInt8) (hL : SlR w BL encB 1 AL nL cL L) {kp : Nat} {capp : List Value} (p : UInt8 → Bool) (hp : Fnc Tryd.prog w kp capp (fun x => .int .u8 (x.toNat : Int)) p) : Calls Tryd.prog 81 #[.slice AL nL cL, .func (.func kp) #[] (List.toArray capp)] w fun e w' => e = .returned (.int .i64 (idxF p L)) ∧ Lo w w' := by
  refine calls_W 19 Tryd.func81 rfl rfl rfl ?_
  have hbdL := hL.bound
  have hleL := hL.len
  have hBbL := hL.bd
  refine W.seq ?_
  refine W.regS (SR.q' (r_as (v := .int .i64 0) rfl) <| SR.nil ?_)
  refine W.seq ?_
  refine W.seq ?_
  refine W.regS (SR.q' (r_mv (v := .slice _ _ _) rfl) <| SR.q' (r_len und53 rfl) <| SR.q' (r_mv (v := .int .i64 0) rfl) <| SR.nil ?_)
  refine W.block ?_
  refine W.loop (σ := Nat) (fun g => [(0, .slice AL nL cL), (1, .func (.func kp) #[] (List.toArray capp)), (7, .int .i64 (nL : Int)), (8, .int .i64 (g : Int))]) (fun g w' => (Lo w w') ∧ (SlR w' BL encB 1 AL nL cL L) ∧ (g ≤ nL ∧ NoneTo p L g)) (fun g => nL - g) 0 ?_ ?_ ?_
  · exact ⟨rfl, rfl, rfl, rfl, trivial⟩
  · exact ⟨(Lo.refl w), hL, (z_c_slices_IndexFunc___byte_byte__1 L nL hbdL hleL p)⟩
  · rintro k f2 w3 hP5
    obtain ⟨hB4, hm6, hi7⟩ : (Lo w w3) ∧ (SlR w3 BL encB 1 AL nL cL L) ∧ (k ≤ nL ∧ NoneTo p L k) := hP5
    refine (?_ : W _ _ _ _ _ (act _ (sets f2 [(0, .slice AL nL cL), (1, .func (.func kp) #[] (List.toArray capp)), (7, .int .i64 (nL : Int)), (8, .int .i64 (k : Int))])) _)
    have hzw3 := hB4.size
    refine W.seq ?_
    refine W.regS (SR.q' (r_lt rfl rfl) <| SR.nil ?_)
    refine W.seq ?_
    refine W.cond_d rfl (fun h8 => ?_) (fun h8 => ?_)
    · refine W.skip ?_
      refine W.seq ?_
      refine W.block ?_
      refine W.seq ?_
      refine W.regS (SR.q' (r_mv (v := .int .i64 _) rfl) <| SR.q' (r_as (v := .int .i64 _) rfl) <| SR.nil ?_)
      refine W.seq ?_
      refine W.regS (SR.q' (r_mv (v := .func _ #[] (List.toArray _)) rfl) <| SR.q' (r_mv (v := .slice _ _ _) rfl) <| SR.q' (r_mv (v := .int .i64 _) rfl) <| ?_)
      have hx10 := (hm6).elem (i := k) (by omega)
      have hq11 := u8_le (gt L k)
      refine SR.q' (r_ixR tsl53 (hm6) rfl rfl (by omega)) <| SR.q' (r_ld (v := .int .u8 ((gt L k).toNat : Int)) sca5 rfl ((hm6).cell0 hx10 rfl)) <| SR.callv (hp).1 rfl ((hp).2 _ hB4 (gt L k)) rfl ?_
      rintro e w12 ⟨rfl, hk13⟩
      refine ⟨_, rfl, ?_⟩
      have hz14 := hk13.size
      have hB15 := hB4.lo hk13
      refine SR.nil ?_
      refine W.cond_b rfl (fun h16 => ?_) (fun h16 => ?_)
      · refine W.seq ?_
        refine W.regS (SR.q' (r_mv (v := .int .i64 _) rfl) <| SR.q' (r_as (v := .int .i64 _) rfl) <| SR.nil ?_)
        refine W.ret ?_
        refine ret1 rfl (v := .int .i64 _) rfl ?_
        exact ⟨eR (eI (z_c_slices_IndexFunc___byte_byte__17 L nL hbdL hleL p k hi7 h8 hx10 hq11 h16)), hB15⟩
      · refine W.skip ?_
        refine W.regS (SR.q' (r_add rfl rfl (by omega)) <| SR.q' (r_mv (v := .int .i64 _) rfl) <| SR.nil ?_)
        refine ⟨k + 1, _, rfl, ⟨rfl, rfl, rfl, rfl, trivial⟩, ⟨hB15, (hm6).lo hk13, ?_⟩, ?_⟩
        · exact (z_c_slices_IndexFunc___byte_byte__18 L nL hbdL hleL p k hi7 h8 hx10 hq11 h16)
        · exact (z_c_slices_IndexFunc___byte_byte__19 L nL hbdL hleL p k hi7 h8 hx10 hq11 h16)
    · refine W.exit (xin_here ?_)
      refine W.seq ?_
      refine W.regS (SR.q' (r_as (v := .int .i64 (-1)) rfl) <| SR.nil ?_)
      refine W.ret ?_
      refine ret1 rfl (v := .int .i64 _) rfl ?_
      exact ⟨eR (eI (z_c_slices_IndexFunc___byte_byte__20 L nL hbdL hleL p k hi7 h8)), hB4⟩

theorem z_c_slices_ContainsFunc___byte_byte__6 (L : List UInt8) (nL : Nat) (hbdL : (nL : Int) ≤ 9223372036854775807) (hleL : nL = L.length) (p : UInt8 → Bool) (hq5 : idxF p L < (L.length : Int) ∧ -1 ≤ idxF p L) : decide (0 ≤ (idxF p L)) = L.any p := by
  rw [Bool.eq_iff_iff, decide_eq_true_eq]; exact any_idx
theorem c_slices_ContainsFunc___byte_byte_ (w : World) {AL : Option Addr} {nL cL BL : Nat}  (L : List UInt8) (hL : SlR w BL encB 1 AL nL cL L) {kp : Nat} {capp : List Value} (p : UInt8 → Bool) (hp : Fnc Tryd.prog w kp capp (fun x => .int .u8 (x.toNat : Int)) p) : Calls Tryd.prog 74 #[.slice AL nL cL, .func (.func kp) #[] (List.toArray capp)] w fun e w' => e = .returned (.bool (L.any p)) ∧ Lo w w' := by
  refine calls_W 9 Tryd.func74 rfl rfl rfl ?_
  have hbdL := hL.bound
  have hleL := hL.len
  have hBbL := hL.bd
  refine W.seq ?_
  refine W.regS (SR.q' (r_as (v := .bool false) rfl) <| SR.nil ?_)
  refine W.seq ?_
  refine W.regS (SR.q' (r_mv (v := .slice _ _ _) rfl) <| SR.q' (r_mv (v := .func _ #[] (List.toArray _)) rfl) <| SR.call ent81 (c_slices_IndexFunc___byte_byte_ w L ((hL)) p (hp.lo (Lo.refl w))) rfl ?_)
  rintro e w1 ⟨rfl, hk2⟩
  refine ⟨_, rfl, ?_⟩
  have hz3 := hk2.size
  have hB4 := (Lo.refl w).lo hk2
  have hq5 : idxF p L < (L.length : Int) ∧ -1 ≤ idxF p L := idx_lt
  refine SR.q' (r_ge rfl rfl) <| SR.q' (r_as (v := .bool _) rfl) <| SR.nil ?_
  refine W.ret ?_
  refine ret1 rfl (v := .bool _) rfl ?_
  exact ⟨eR (eB (z_c_slices_ContainsFunc___byte_byte__6 L nL hbdL hleL p hq5)), hB4⟩

theorem z_c_impl_isPrinted_1_9 (x : UInt8) : decide (((x.toNat : Int) < 32) ∨ ((126 < (x.toNat : Int)) ∨ ((x.toNat : Int) = 35))) = (!decide (PlB x)) := by
  exact pl_not x
theorem c_impl_isPrinted_1 (w : World) (x : UInt8) : Calls Tryd.prog 75 #[.int .u8 (x.toNat : Int)] w fun e w' => e = .returned (.bool (!decide (PlB x))) ∧ Lo w w' := by
  refine calls_W 13 Tryd.func75 rfl rfl rfl ?_
  refine W.seq ?_
  refine W.regS (SR.q' (r_as (v := .bool false) rfl) <| SR.nil ?_)
  refine W.seq ?_
  refine W.regJS (fun f' w' => At f' [(2, .bool (decide (((x.toNat : Int) < 32) ∨ ((126 < (x.toNat : Int)) ∨ ((x.toNat : Int) = 35)))))] ∧ Lo w w') ?_ ?_
  · refine SR.q' (r_mv (v := .int .u8 _) rfl) <| SR.q' (r_lt rfl rfl) <| SR.q' (r_mv (v := .bool _) rfl) <| SR.splitD (fun h1 => ?_) (fun h1 => ?_)
    · refine SR.s' rfl <| SR.s' rfl <| SR.q' (r_pick true rfl (v := .bool true) rfl) <| SR.q' (r_mv (v := .bool _) rfl) <| SR.s' rfl <| SR.s' rfl <| SR.q' (r_pick true rfl (v := .bool true) rfl) <| SR.q' (r_as (v := .bool _) rfl) <| SR.nil ?_
      exact ⟨_, rfl, ⟨⟨(eDT ((jot h1).1 trivial)), trivial⟩, (Lo.refl _)⟩⟩
    · refine SR.g' rfl (r_mv (v := .int .u8 _) rfl) <| SR.g' rfl (r_gt rfl rfl) <| SR.q' (r_pick false rfl (v := .bool _) rfl) <| SR.q' (r_mv (v := .bool _) rfl) <| SR.splitD (fun h2 => ?_) (fun h2 => ?_)
      · refine SR.s' rfl <| SR.s' rfl <| SR.q' (r_pick true rfl (v := .bool true) rfl) <| SR.q' (r_as (v := .bool _) rfl) <| SR.nil ?_
        exact ⟨_, rfl, ⟨⟨(eDT (((jot h2).trans (jof h1)).1 trivial)), trivial⟩, (Lo.refl _)⟩⟩
      · refine SR.g' rfl (r_mv (v := .int .u8 _) rfl) <| SR.g' rfl (r_eq rfl rfl) <| SR.q' (r_pick false rfl (v := .bool _) rfl) <| SR.q' (r_as (v := .bool _) rfl) <| SR.nil ?_
        exact ⟨_, rfl, ⟨⟨(eDD ((jof h2).trans (jof h1))), trivial⟩, (Lo.refl _)⟩⟩
  rintro f3 w4 ⟨hat5, hk6⟩
  rw [← sets_of_at hat5]
  have hz7 := hk6.size
  have hB8 := (Lo.refl w).lo hk6
  refine W.ret ?_
  refine ret1 rfl (v := .bool _) rfl ?_
  exact ⟨eR (eB (z_c_impl_isPrinted_1_9 x)), hB8⟩

theorem z_c_impl_isPrinted_13 (s : List UInt8) (hp0 : (s.length : Int) ≤ 281474976710656) : (!(s.any (fun u_ : UInt8 => (!decide (PlB u_))))) = true ↔ (Plain s) := by
  exact plain_any s
theorem c_impl_isPrinted (w : World) (s : List UInt8) (hp0 : (s.length : Int) ≤ 281474976710656) : Calls Tryd.prog 60 #[str s] w fun e w' => e = .returned (.bool (decide (Plain s))) ∧ Lo w w' := by
  refine calls_W 7 Tryd.func60 rfl rfl rfl ?_
  refine W.seq ?_
  refine W.regS (SR.q' (r_as (v := .bool false) rfl) <| SR.nil ?_)
  refine W.seq ?_
  refine W.regS (SR.q' (r_mv (v := str _) rfl) <| SR.bytes (s := s) und9 und53 und5 rfl (by first | omega | (simp only [List.length_append, List.length_cons, List.length_nil, List.length_take, List.length_drop]; omega) | (simp only [List.length_append, List.length_cons, List.length_nil, List.length_take, List.length_drop] at *; omega)) ?_)
  intro g1 c2 w3 hg4 hk5 hR6 
  have hz7 := hk5.size
  have hB8 := (Lo.refl w).lo hk5
  refine SR.call ent74 (c_slices_ContainsFunc___byte_byte_ w3 s ((hR6)) (fun u_ : UInt8 => (!decide (PlB u_))) ⟨ent75, fun w'' hw'' x => (c_impl_isPrinted_1 w'' x).mono fun _ _ h => ⟨h.1, h.2⟩⟩) rfl ?_
  rintro e w9 ⟨rfl, hk10⟩
  refine ⟨_, rfl, ?_⟩
  have hz11 := hk10.size
  have hB12 := hB8.lo hk10
  refine SR.q' (r_not rfl) <| SR.q' (r_as (v := .bool _) rfl) <| SR.nil ?_
  refine W.ret ?_
  refine ret1 rfl (v := .bool _) rfl ?_
  exact ⟨eR (eBD (z_c_impl_isPrinted_13 s hp0)), hB12⟩

theorem z_c_impl_IsValidRecord_35 (r : LogRecord) : ((1 ≤ (r.Command.length : Int) ∧ (r.Command.length : Int) ≤ 160) ∧ (((r.Reply.length : Int) ≤ 200) ∧ ((Plain r.Command) ∧ ((Plain r.Reply) ∧ ((!(Lib.contains r.Command ([64] : List UInt8))) = true))))) ↔ (RecOK r) := by
  simp only [contains1, RecOK]; simp
theorem c_impl_IsValidRecord (w : World) (r : LogRecord) (hE : EnvW w) : Calls Tryd.prog 39 #[.agg (List.toArray (encLogRecord r))] w fun e w' => e = .returned (.bool (decide (RecOK r))) ∧ Lo w w' := by
  refine calls_W 29 Tryd.func39 rfl rfl rfl ?_
  refine W.seq ?_
  refine W.regS (SR.box (v := .agg (List.toArray _)) (l := [str r.Command, str r.Reply]) rfl rfl ?_)
  intro g1 w2 hg3 hk4 hs5 hb6
  have hz7 := hk4.size
  have hB8 := (Lo.refl w).lo hk4
  refine SR.q' (r_as (v := .bool false) rfl) <| SR.nil ?_
  refine W.seq ?_
  refine W.regJS (fun f' w' => At f' [(2, .bool (decide ((1 ≤ (r.Command.length : Int) ∧ (r.Command.length : Int) ≤ 160) ∧ (((r.Reply.length : Int) ≤ 200) ∧ ((Plain r.Command) ∧ ((Plain r.Reply) ∧ ((!(Lib.contains r.Command ([64] : List UInt8))) = true)))))))] ∧ Lo w2 w') ?_ ?_
  · refine SR.q' (r_fa fa27_0 rfl) <| SR.q' (r_ld (v := str r.Command) sca9 rfl ((hb6).cell rfl)) <| SR.q' (r_len_s und9 rfl) <| SR.call ent45 (c_impl_within w2 (r.Command.length : Int) 1 160) rfl ?_
    rintro e w9 ⟨rfl, hk10⟩
    refine ⟨_, rfl, ?_⟩
    have hz11 := hk10.size
    have hB12 := hB8.lo hk10
    refine SR.q' (r_mv (v := .bool _) rfl) <| SR.splitD (fun h13 => ?_) (fun h13 => ?_)
    · refine SR.g' rfl (r_fa fa27_1 rfl) <| SR.g' rfl (r_ld (v := str r.Reply) sca9 rfl (((hb6).lo hk10).cell rfl)) <| SR.g' rfl (r_len_s und9 rfl) <| SR.g' rfl (r_le rfl rfl) <| SR.q' (r_pick true rfl (v := .bool _) rfl) <| SR.q' (r_mv (v := .bool _) rfl) <| SR.splitD (fun h14 => ?_) (fun h14 => ?_)
      · refine SR.g' rfl (r_fa fa27_0 rfl) <| SR.g' rfl (r_ld (v := str r.Command) sca9 rfl (((hb6).lo hk10).cell rfl)) <| SR.gcall rfl ent60 (c_impl_isPrinted w9 r.Command (by first | omega | (simp only [List.length_append, List.length_cons, List.length_nil, List.length_take, List.length_drop]; omega))) rfl ?_
        rintro e w15 ⟨rfl, hk16⟩
        refine ⟨_, rfl, ?_⟩
        have hz17 := hk16.size
        have hB18 := hB12.lo hk16
        refine SR.q' (r_pick true rfl (v := .bool _) rfl) <| SR.q' (r_mv (v := .bool _) rfl) <| SR.splitD (fun h19 => ?_) (fun h19 => ?_)
        · refine SR.g' rfl (r_fa fa27_1 rfl) <| SR.g' rfl (r_ld (v := str r.Reply) sca9 rfl ((((hb6).lo hk10).lo hk16).cell rfl)) <| SR.gcall rfl ent60 (c_impl_isPrinted w15 r.Reply (by first | omega | (simp only [List.length_append, List.length_cons, List.length_nil, List.length_take, List.length_drop]; omega))) rfl ?_
          rintro e w20 ⟨rfl, hk21⟩
          refine ⟨_, rfl, ?_⟩
          have hz22 := hk21.size
          have hB23 := hB18.lo hk21
          refine SR.q' (r_pick true rfl (v := .bool _) rfl) <| SR.q' (r_mv (v := .bool _) rfl) <| SR.splitD (fun h24 => ?_) (fun h24 => ?_)
          · refine SR.g' rfl (r_fa fa27_0 rfl) <| SR.g' rfl (r_ld (v := str r.Command) sca9 rfl (((((hb6).lo hk10).lo hk16).lo hk21).cell rfl)) <| SR.gcall rfl ent61 (c_strings_Contains w20 r.Command ([64] : List UInt8) (by omega) (hE.lo (hB23))) rfl ?_
            rintro e w25 ⟨rfl, hk26⟩
            refine ⟨_, rfl, ?_⟩
            have hz27 := hk26.size
            have hB28 := hB23.lo hk26
            refine SR.g' rfl (r_not rfl) <| SR.q' (r_pick true rfl (v := .bool _) rfl) <| SR.q' (r_as (v := .bool _) rfl) <| SR.nil ?_
            exact ⟨_, rfl, ⟨⟨(eBD ((((jat h24).trans (jat h19)).trans (jat h14)).trans (jat h13))), trivial⟩, ((((hk10).trans hk16).trans hk21).trans hk26)⟩⟩
          · refine SR.s' rfl <| SR.s' rfl <| SR.s' rfl <| SR.s' rfl <| SR.q' (r_pick false rfl (v := .bool false) rfl) <| SR.q' (r_as (v := .bool _) rfl) <| SR.nil ?_
            exact ⟨_, rfl, ⟨⟨(eDF ((((jaf h24).trans (jat h19)).trans (jat h14)).trans (jat h13)).2), trivial⟩, (((hk10).trans hk16).trans hk21)⟩⟩
        · refine SR.s' rfl <| SR.s' rfl <| SR.s' rfl <| SR.q' (r_pick false rfl (v := .bool false) rfl) <| SR.q' (r_mv (v := .bool _) rfl) <| SR.s' rfl <| SR.s' rfl <| SR.s' rfl <| SR.s' rfl <| SR.q' (r_pick false rfl (v := .bool false) rfl) <| SR.q' (r_as (v := .bool _) rfl) <| SR.nil ?_
          exact ⟨_, rfl, ⟨⟨(eDF (((jaf h19).trans (jat h14)).trans (jat h13)).2), trivial⟩, ((hk10).trans hk16)⟩⟩
      · refine SR.s' rfl <| SR.s' rfl <| SR.s' rfl <| SR.q' (r_pick false rfl (v := .bool false) rfl) <| SR.q' (r_mv (v := .bool _) rfl) <| SR.s' rfl <| SR.s' rfl <| SR.s' rfl <| SR.q' (r_pick false rfl (v := .bool false) rfl) <| SR.q' (r_mv (v := .bool _) rfl) <| SR.s' rfl <| SR.s' rfl <| SR.s' rfl <| SR.s' rfl <| SR.q' (r_pick false rfl (v := .bool false) rfl) <| SR.q' (r_as (v := .bool _) rfl) <| SR.nil ?_
        exact ⟨_, rfl, ⟨⟨(eDF ((jaf h14).trans (jat h13)).2), trivial⟩, (hk10)⟩⟩
    · refine SR.s' rfl <| SR.s' rfl <| SR.s' rfl <| SR.s' rfl <| SR.q' (r_pick false rfl (v := .bool false) rfl) <| SR.q' (r_mv (v := .bool _) rfl) <| SR.s' rfl <| SR.s' rfl <| SR.s' rfl <| SR.q' (r_pick false rfl (v := .bool false) rfl) <| SR.q' (r_mv (v := .bool _) rfl) <| SR.s' rfl <| SR.s' rfl <| SR.s' rfl <| SR.q' (r_pick false rfl (v := .bool false) rfl) <| SR.q' (r_mv (v := .bool _) rfl) <| SR.s' rfl <| SR.s' rfl <| SR.s' rfl <| SR.s' rfl <| SR.q' (r_pick false rfl (v := .bool false) rfl) <| SR.q' (r_as (v := .bool _) rfl) <| SR.nil ?_
      exact ⟨_, rfl, ⟨⟨(eDF (jaf h13).2), trivial⟩, (hk10)⟩⟩
  rintro f29 w30 ⟨hat31, hk32⟩
  rw [← sets_of_at hat31]
  have hz33 := hk32.size
  have hB34 := hB8.lo hk32
  refine W.ret ?_
  refine ret1 rfl (v := .bool _) rfl ?_
  exact ⟨eR (eDD (z_c_impl_IsValidRecord_35 r)), hB34⟩

theorem z_c_spec_l33Plain_1 (s : List UInt8) (m : Int) (hp0 : (s.length : Int) ≤ 281474976710656) : 0 ≤ s.length ∧ ∀ j, j < 0 → PlB (gt s j) := by
  exact ⟨Nat.zero_le _, fun _ h => absurd h (by omega)⟩
theorem z_c_spec_l33Plain_22 (s : List UInt8) (m : Int) (hp0 : (s.length : Int) ≤ 281474976710656) (k : Nat) (hi6 : k ≤ s.length ∧ ∀ j, j < k → PlB (gt s j)) (h7 : (k : Int) < (s.length : Int)) (hq18 : ((gt s k).toNat : Int) ≤ 255) (h21 : (¬ (32 ≤ ((gt s k).toNat : Int) ∧ ((gt s k).toNat : Int) ≤ 126)) ∨ (((gt s k).toNat : Int) = 35)) : ¬ (Plain s ∧ (s.length : Int) ≤ m) := by
  first | exact fun hp => plain_no (k := k) (by omega) (by unfold PlB; omega) hp.1 | (have hp := plain_at (And.right ‹_ ∧ ∀ _, _›) (by omega); exact ⟨fun h => ⟨hp, h⟩, fun h => h.2⟩)
theorem z_c_spec_l33Plain_25 (s : List UInt8) (m : Int) (hp0 : (s.length : Int) ≤ 281474976710656) (k : Nat) (hi6 : k ≤ s.length ∧ ∀ j, j < k → PlB (gt s j)) (h7 : (k : Int) < (s.length : Int)) (hq18 : ((gt s k).toNat : Int) ≤ 255) (h21 : ¬ ((¬ (32 ≤ ((gt s k).toNat : Int) ∧ ((gt s k).toNat : Int) ≤ 126)) ∨ (((gt s k).toNat : Int) = 35))) (hq23 : 32 ≤ ((gt s k).toNat : Int) ∧ ((gt s k).toNat : Int) ≤ 126) (hq24 : ¬ (((gt s k).toNat : Int) = 35)) : k + 1 ≤ s.length ∧ ∀ j, j < (k + 1) → PlB (gt s j) := by
  exact ⟨by omega, all_next (And.right ‹_ ∧ ∀ _, _›) (by unfold PlB; omega)⟩
theorem z_c_spec_l33Plain_26 (s : List UInt8) (m : Int) (hp0 : (s.length : Int) ≤ 281474976710656) (k : Nat) (hi6 : k ≤ s.length ∧ ∀ j, j < k → PlB (gt s j)) (h7 : (k : Int) < (s.length : Int)) (hq18 : ((gt s k).toNat : Int) ≤ 255) (h21 : ¬ ((¬ (32 ≤ ((gt s k).toNat : Int) ∧ ((gt s k).toNat : Int) ≤ 126)) ∨ (((gt s k).toNat : Int) = 35))) (hq23 : 32 ≤ ((gt s k).toNat : Int) ∧ ((gt s k).toNat : Int) ≤ 126) (hq24 : ¬ (((gt s k).toNat : Int) = 35)) : s.length - (k + 1) < s.length - k := by
  omega
theorem z_c_spec_l33Plain_27 (s : List UInt8) (m : Int) (hp0 : (s.length : Int) ≤ 281474976710656) (k : Nat) (hi6 : k ≤ s.length ∧ ∀ j, j < k → PlB (gt s j)) (h7 : ¬ ((k : Int) < (s.length : Int))) : ((s.length : Int) ≤ m) ↔ (Plain s ∧ (s.length : Int) ≤ m) := by
  first | exact fun hp => plain_no (k := k) (by omega) (by unfold PlB; omega) hp.1 | (have hp := plain_at (And.right ‹_ ∧ ∀ _, _›) (by omega); exact ⟨fun h => ⟨hp, h⟩, fun h => h.2⟩)
theorem c_spec_l33Plain (w : World) (s : List UInt8) (m : Int) (hp0 : (s.length : Int) ≤ 281474976710656) : Calls Tryd.prog 62 #[str s, .int .i64 m] w fun e w' => e = .returned (.bool (decide (Plain s ∧ (s.length : Int) ≤ m))) ∧ Lo w w' := by
  refine calls_W 28 Tryd.func62 rfl rfl rfl ?_
  refine W.seq ?_
  refine W.regS (SR.q' (r_as (v := .bool false) rfl) <| SR.nil ?_)
  refine W.seq ?_
  refine W.seq ?_
  refine W.regS (SR.q' (r_as (v := .int .i64 0) rfl) <| SR.nil ?_)
  refine W.block ?_
  refine W.loop (σ := Nat) (fun g => [(0, str s), (1, .int .i64 m), (5, .int .i64 (g : Int))]) (fun g w' => (Lo w w') ∧ (g ≤ s.length ∧ ∀ j, j < g → PlB (gt s j))) (fun g => s.length - g) 0 ?_ ?_ ?_
  · exact ⟨rfl, rfl, rfl, trivial⟩
  · exact ⟨(Lo.refl w), (z_c_spec_l33Plain_1 s m hp0)⟩
  · rintro k f2 w3 hP5
    obtain ⟨hB4, hi6⟩ : (Lo w w3) ∧ (k ≤ s.length ∧ ∀ j, j < k → PlB (gt s j)) := hP5
    refine (?_ : W _ _ _ _ _ (act _ (sets f2 [(0, str s), (1, .int .i64 m), (5, .int .i64 (k : Int))])) _)
    have hzw3 := hB4.size
    refine W.seq ?_
    refine W.seq ?_
    refine W.regS (SR.q' (r_mv (v := .int .i64 _) rfl) <| SR.q' (r_mv (v := str _) rfl) <| SR.q' (r_len_s und9 rfl) <| SR.q' (r_lt rfl rfl) <| SR.nil ?_)
    refine W.cond_d rfl (fun h7 => ?_) (fun h7 => ?_)
    · refine W.skip ?_
      refine W.seq ?_
      refine W.block ?_
      refine W.seq ?_
      refine W.regJS (fun f' w' => At f' [(0, str s), (1, .int .i64 m), (5, .int .i64 (k : Int)), (23, .bool (decide ((¬ (32 ≤ ((gt s k).toNat : Int) ∧ ((gt s k).toNat : Int) ≤ 126)) ∨ (((gt s k).toNat : Int) = 35))))] ∧ Lo w3 w' ∧ (((gt s k).toNat : Int) ≤ 255)) ?_ ?_
      · refine SR.q' (r_mv (v := str _) rfl) <| SR.q' (r_mv (v := .int .i64 _) rfl) <| ?_
        have hq8 := u8_le (gt s k)
        refine SR.q' (r_idxS (i := k) und9 rfl rfl rfl (by first | omega | (simp only [List.length_append, List.length_cons, List.length_nil, List.length_take, List.length_drop]; omega) | (simp only [List.length_append, List.length_cons, List.length_nil, List.length_take, List.length_drop] at *; omega))) <| SR.q' (r_convI und3 und5 rfl (by omega)) <| SR.call ent42 (c_spec_l1In w3 ((gt s k).toNat : Int) 32 126) rfl ?_
        rintro e w9 ⟨rfl, hk10⟩
        refine ⟨_, rfl, ?_⟩
        have hz11 := hk10.size
        have hB12 := hB4.lo hk10
        refine SR.q' (r_not rfl) <| SR.q' (r_mv (v := .bool _) rfl) <| SR.splitN (fun h13 => ?_) (fun h13 => ?_)
        · refine SR.s' rfl <| SR.s' rfl <| SR.s' rfl <| SR.s' rfl <| SR.q' (r_pick true rfl (v := .bool true) rfl) <| SR.nil ?_
          exact ⟨_, rfl, ⟨⟨rfl, rfl, rfl, (eDT ((jmf h13).1 trivial)), trivial⟩, (hk10), hq8⟩⟩
        · refine SR.g' rfl (r_mv (v := str _) rfl) <| SR.g' rfl (r_mv (v := .int .i64 _) rfl) <| SR.g' rfl (r_idxS (i := k) und9 rfl rfl rfl (by first | omega | (simp only [List.length_append, List.length_cons, List.length_nil, List.length_take, List.length_drop]; omega) | (simp only [List.length_append, List.length_cons, List.length_nil, List.length_take, List.length_drop] at *; omega))) <| SR.g' rfl (r_eq rfl rfl) <| SR.q' (r_pick false rfl (v := .bool _) rfl) <| SR.nil ?_
          exact ⟨_, rfl, ⟨⟨rfl, rfl, rfl, (eDD (jmt h13)), trivial⟩, (hk10), hq8⟩⟩
      rintro f14 w15 ⟨hat16, hk17, hq18⟩
      rw [← sets_of_at hat16]
      have hz19 := hk17.size
      have hB20 := hB4.lo hk17
      refine W.cond_d rfl (fun h21 => ?_) (fun h21 => ?_)
      · refine W.seq ?_
        refine W.regS (SR.q' (r_as (v := .bool false) rfl) <| SR.nil ?_)
        refine W.ret ?_
        refine ret1 rfl (v := .bool _) rfl ?_
        exact ⟨eR (eDF (z_c_spec_l33Plain_22 s m hp0 k hi6 h7 hq18 h21)), hB20⟩
      · have hq23 : 32 ≤ ((gt s k).toNat : Int) ∧ ((gt s k).toNat : Int) ≤ 126 := (Classical.not_not.1 (not_or.1 h21).1)
        have hq24 : ¬ (((gt s k).toNat : Int) = 35) := (not_or.1 h21).2
        refine W.skip ?_
        refine W.regS (SR.q' (r_mv (v := .int .i64 _) rfl) <| SR.q' (r_add rfl rfl (by omega)) <| SR.q' (r_as (v := .int .i64 _) rfl) <| SR.nil ?_)
        refine ⟨k + 1, _, rfl, ⟨rfl, rfl, rfl, trivial⟩, ⟨hB20, ?_⟩, ?_⟩
        · exact (z_c_spec_l33Plain_25 s m hp0 k hi6 h7 hq18 h21 hq23 hq24)
        · exact (z_c_spec_l33Plain_26 s m hp0 k hi6 h7 hq18 h21 hq23 hq24)
    · refine W.exit (xin_here ?_)
      refine W.seq ?_
      refine W.regS (SR.q' (r_mv (v := str _) rfl) <| SR.q' (r_len_s und9 rfl) <| SR.q' (r_mv (v := .int .i64 _) rfl) <| SR.q' (r_le rfl rfl) <| SR.q' (r_as (v := .bool _) rfl) <| SR.nil ?_)
      refine W.ret ?_
      refine ret1 rfl (v := .bool _) rfl ?_
      exact ⟨eR (eDD (z_c_spec_l33Plain_27 s m hp0 k hi6 h7)), hB4⟩

theorem z_c_spec_l1Stands_1 (s : List UInt8) (c : UInt8) (hp0 : (s.length : Int) ≤ 281474976710656) : 0 ≤ s.length ∧ ∀ j, j < 0 → ¬ gt s j = c := by
  exact ⟨Nat.zero_le _, fun _ h => absurd h (by omega)⟩
theorem z_c_spec_l1Stands_10 (s : List UInt8) (c : UInt8) (hp0 : (s.length : Int) ≤ 281474976710656) (k : Nat) (hi6 : k ≤ s.length ∧ ∀ j, j < k → ¬ gt s j = c) (h7 : (k : Int) < (s.length : Int)) (hq8 : ((gt s k).toNat : Int) ≤ 255) (h9 : ((gt s k).toNat : Int) = (c.toNat : Int)) : c ∈ s := by
  first | exact stands_yes (k := k) (by omega) (u8_eq.1 ‹_›) | exact stands_no (And.right ‹_ ∧ ∀ _, _›) (by omega)
theorem z_c_spec_l1Stands_11 (s : List UInt8) (c : UInt8) (hp0 : (s.length : Int) ≤ 281474976710656) (k : Nat) (hi6 : k ≤ s.length ∧ ∀ j, j < k → ¬ gt s j = c) (h7 : (k : Int) < (s.length : Int)) (hq8 : ((gt s k).toNat : Int) ≤ 255) (h9 : ¬ (((gt s k).toNat : Int) = (c.toNat : Int))) : k + 1 ≤ s.length ∧ ∀ j, j < (k + 1) → ¬ gt s j = c := by
  exact ⟨by omega, none_next (And.right ‹_ ∧ ∀ _, _›) (fun e => ‹¬ _› (u8_eq.2 e))⟩
theorem z_c_spec_l1Stands_12 (s : List UInt8) (c : UInt8) (hp0 : (s.length : Int) ≤ 281474976710656) (k : Nat) (hi6 : k ≤ s.length ∧ ∀ j, j < k → ¬ gt s j = c) (h7 : (k : Int) < (s.length : Int)) (hq8 : ((gt s k).toNat : Int) ≤ 255) (h9 : ¬ (((gt s k).toNat : Int) = (c.toNat : Int))) : s.length - (k + 1) < s.length - k := by
  omega
theorem z_c_spec_l1Stands_13 (s : List UInt8) (c : UInt8) (hp0 : (s.length : Int) ≤ 281474976710656) (k : Nat) (hi6 : k ≤ s.length ∧ ∀ j, j < k → ¬ gt s j = c) (h7 : ¬ ((k : Int) < (s.length : Int))) : ¬ (c ∈ s) := by
  first | exact stands_yes (k := k) (by omega) (u8_eq.1 ‹_›) | exact stands_no (And.right ‹_ ∧ ∀ _, _›) (by omega)
theorem c_spec_l1Stands (w : World) (s : List UInt8) (c : UInt8) (hp0 : (s.length : Int) ≤ 281474976710656) : Calls Tryd.prog 63 #[str s, .int .u8 (c.toNat : Int)] w fun e w' => e = .returned (.bool (decide (c ∈ s))) ∧ Lo w w' := by
  refine calls_W 17 Tryd.func63 rfl rfl rfl ?_
  refine W.seq ?_
  refine W.regS (SR.q' (r_as (v := .bool false) rfl) <| SR.nil ?_)
  refine W.seq ?_
  refine W.seq ?_
  refine W.regS (SR.q' (r_as (v := .int .i64 0) rfl) <| SR.nil ?_)
  refine W.block ?_
  refine W.loop (σ := Nat) (fun g => [(0, str s), (1, .int .u8 (c.toNat : Int)), (5, .int .i64 (g : Int))]) (fun g w' => (Lo w w') ∧ (g ≤ s.length ∧ ∀ j, j < g → ¬ gt s j = c)) (fun g => s.length - g) 0 ?_ ?_ ?_
  · exact ⟨rfl, rfl, rfl, trivial⟩
  · exact ⟨(Lo.refl w), (z_c_spec_l1Stands_1 s c hp0)⟩
  · rintro k f2 w3 hP5
    obtain ⟨hB4, hi6⟩ : (Lo w w3) ∧ (k ≤ s.length ∧ ∀ j, j < k → ¬ gt s j = c) := hP5
    refine (?_ : W _ _ _ _ _ (act _ (sets f2 [(0, str s), (1, .int .u8 (c.toNat : Int)), (5, .int .i64 (k : Int))])) _)
    have hzw3 := hB4.size
    refine W.seq ?_
    refine W.seq ?_
    refine W.regS (SR.q' (r_mv (v := .int .i64 _) rfl) <| SR.q' (r_mv (v := str _) rfl) <| SR.q' (r_len_s und9 rfl) <| SR.q' (r_lt rfl rfl) <| SR.nil ?_)
    refine W.cond_d rfl (fun h7 => ?_) (fun h7 => ?_)
    · refine W.skip ?_
      refine W.seq ?_
      refine W.block ?_
      refine W.seq ?_
      refine W.regS (SR.q' (r_mv (v := str _) rfl) <| SR.q' (r_mv (v := .int .i64 _) rfl) <| ?_)
      have hq8 := u8_le (gt s k)
      refine SR.q' (r_idxS (i := k) und9 rfl rfl rfl (by first | omega | (simp only [List.length_append, List.length_cons, List.length_nil, List.length_take, List.length_drop]; omega) | (simp only [List.length_append, List.length_cons, List.length_nil, List.length_take, List.length_drop] at *; omega))) <| SR.q' (r_mv (v := .int .u8 _) rfl) <| SR.q' (r_eq rfl rfl) <| SR.nil ?_
      refine W.cond_d rfl (fun h9 => ?_) (fun h9 => ?_)
      · refine W.seq ?_
        refine W.regS (SR.q' (r_as (v := .bool true) rfl) <| SR.nil ?_)
        refine W.ret ?_
        refine ret1 rfl (v := .bool _) rfl ?_
        exact ⟨eR (eDT (z_c_spec_l1Stands_10 s c hp0 k hi6 h7 hq8 h9)), hB4⟩
      · refine W.skip ?_
        refine W.regS (SR.q' (r_mv (v := .int .i64 _) rfl) <| SR.q' (r_add rfl rfl (by omega)) <| SR.q' (r_as (v := .int .i64 _) rfl) <| SR.nil ?_)
        refine ⟨k + 1, _, rfl, ⟨rfl, rfl, rfl, trivial⟩, ⟨hB4, ?_⟩, ?_⟩
        · exact (z_c_spec_l1Stands_11 s c hp0 k hi6 h7 hq8 h9)
        · exact (z_c_spec_l1Stands_12 s c hp0 k hi6 h7 hq8 h9)
    · refine W.exit (xin_here ?_)
      refine W.seq ?_
      refine W.regS (SR.q' (r_as (v := .bool false) rfl) <| SR.nil ?_)
      refine W.ret ?_
      refine ret1 rfl (v := .bool _) rfl ?_
      exact ⟨eR (eDF (z_c_spec_l1Stands_13 s c hp0 k hi6 h7)), hB4⟩

theorem z_c_spec_l33Good_30 (r : LogRecord) (hp0 : (r.Command.length : Int) ≤ 281474976710656 ∧ (r.Reply.length : Int) ≤ 281474976710656) : ((¬ (r.Command = ([] : List UInt8))) ∧ ((Plain r.Command ∧ (r.Command.length : Int) ≤ 160) ∧ ((¬ ((64 : UInt8) ∈ r.Command)) ∧ (Plain r.Reply ∧ (r.Reply.length : Int) ≤ 200)))) ↔ (RecOK r) := by
  exact good_iff r
theorem c_spec_l33Good (w : World) (r : LogRecord) (hp0 : (r.Command.length : Int) ≤ 281474976710656 ∧ (r.Reply.length : Int) ≤ 281474976710656) : Calls Tryd.prog 43 #[.agg (List.toArray (encLogRecord r))] w fun e w' => e = .returned (.bool (decide (RecOK r))) ∧ Lo w w' := by
  refine calls_W 22 Tryd.func43 rfl rfl rfl ?_
  refine W.seq ?_
  refine W.regS (SR.box (v := .agg (List.toArray _)) (l := [str r.Command, str r.Reply]) rfl rfl ?_)
  intro g1 w2 hg3 hk4 hs5 hb6
  have hz7 := hk4.size
  have hB8 := (Lo.refl w).lo hk4
  refine SR.q' (r_as (v := .bool false) rfl) <| SR.nil ?_
  refine W.seq ?_
  refine W.regJS (fun f' w' => At f' [(2, .bool (decide ((¬ (r.Command = ([] : List UInt8))) ∧ ((Plain r.Command ∧ (r.Command.length : Int) ≤ 160) ∧ ((¬ ((64 : UInt8) ∈ r.Command)) ∧ (Plain r.Reply ∧ (r.Reply.length : Int) ≤ 200))))))] ∧ Lo w2 w') ?_ ?_
  · refine SR.q' (r_fa fa27_0 rfl) <| SR.q' (r_ld (v := str r.Command) sca9 rfl ((hb6).cell rfl)) <| SR.q' (r_nes (s := r.Command) (r := ([] : List UInt8)) rfl rfl) <| SR.q' (r_mv (v := .bool _) rfl) <| SR.splitN (fun h9 => ?_) (fun h9 => ?_)
    · refine SR.g' rfl (r_fa fa27_0 rfl) <| SR.g' rfl (r_ld (v := str r.Command) sca9 rfl ((hb6).cell rfl)) <| SR.gcall rfl ent62 (c_spec_l33Plain w2 r.Command 160 (by first | omega | (simp only [List.length_append, List.length_cons, List.length_nil, List.length_take, List.length_drop]; omega))) rfl ?_
      rintro e w10 ⟨rfl, hk11⟩
      refine ⟨_, rfl, ?_⟩
      have hz12 := hk11.size
      have hB13 := hB8.lo hk11
      refine SR.q' (r_pick true rfl (v := .bool _) rfl) <| SR.q' (r_mv (v := .bool _) rfl) <| SR.splitD (fun h14 => ?_) (fun h14 => ?_)
      · refine SR.g' rfl (r_fa fa27_0 rfl) <| SR.g' rfl (r_ld (v := str r.Command) sca9 rfl (((hb6).lo hk11).cell rfl)) <| SR.gcall rfl ent63 (c_spec_l1Stands w10 r.Command (64 : UInt8) (by first | omega | (simp only [List.length_append, List.length_cons, List.length_nil, List.length_take, List.length_drop]; omega))) rfl ?_
        rintro e w15 ⟨rfl, hk16⟩
        refine ⟨_, rfl, ?_⟩
        have hz17 := hk16.size
        have hB18 := hB13.lo hk16
        refine SR.g' rfl (r_not rfl) <| SR.q' (r_pick true rfl (v := .bool _) rfl) <| SR.q' (r_mv (v := .bool _) rfl) <| SR.splitN (fun h19 => ?_) (fun h19 => ?_)
        · refine SR.g' rfl (r_fa fa27_1 rfl) <| SR.g' rfl (r_ld (v := str r.Reply) sca9 rfl ((((hb6).lo hk11).lo hk16).cell rfl)) <| SR.gcall rfl ent62 (c_spec_l33Plain w15 r.Reply 200 (by first | omega | (simp only [List.length_append, List.length_cons, List.length_nil, List.length_take, List.length_drop]; omega))) rfl ?_
          rintro e w20 ⟨rfl, hk21⟩
          refine ⟨_, rfl, ?_⟩
          have hz22 := hk21.size
          have hB23 := hB18.lo hk21
          refine SR.q' (r_pick true rfl (v := .bool _) rfl) <| SR.q' (r_as (v := .bool _) rfl) <| SR.nil ?_
          exact ⟨_, rfl, ⟨⟨(eDD (((jnf h19).trans (jat h14)).trans (jnf h9))), trivial⟩, (((hk11).trans hk16).trans hk21)⟩⟩
        · refine SR.s' rfl <| SR.s' rfl <| SR.s' rfl <| SR.q' (r_pick false rfl (v := .bool false) rfl) <| SR.q' (r_as (v := .bool _) rfl) <| SR.nil ?_
          exact ⟨_, rfl, ⟨⟨(eDF (((jnt h19).trans (jat h14)).trans (jnf h9)).2), trivial⟩, ((hk11).trans hk16)⟩⟩
      · refine SR.s' rfl <| SR.s' rfl <| SR.s' rfl <| SR.s' rfl <| SR.q' (r_pick false rfl (v := .bool false) rfl) <| SR.q' (r_mv (v := .bool _) rfl) <| SR.s' rfl <| SR.s' rfl <| SR.s' rfl <| SR.q' (r_pick false rfl (v := .bool false) rfl) <| SR.q' (r_as (v := .bool _) rfl) <| SR.nil ?_
        exact ⟨_, rfl, ⟨⟨(eDF ((jaf h14).trans (jnf h9)).2), trivial⟩, (hk11)⟩⟩
    · refine SR.s' rfl <| SR.s' rfl <| SR.s' rfl <| SR.q' (r_pick false rfl (v := .bool false) rfl) <| SR.q' (r_mv (v := .bool _) rfl) <| SR.s' rfl <| SR.s' rfl <| SR.s' rfl <| SR.s' rfl <| SR.q' (r_pick false rfl (v := .bool false) rfl) <| SR.q' (r_mv (v := .bool _) rfl) <| SR.s' rfl <| SR.s' rfl <| SR.s' rfl <| SR.q' (r_pick false rfl (v := .bool false) rfl) <| SR.q' (r_as (v := .bool _) rfl) <| SR.nil ?_
      exact ⟨_, rfl, ⟨⟨(eDF (jnt h9).2), trivial⟩, (Lo.refl _)⟩⟩
  rintro f24 w25 ⟨hat26, hk27⟩
  rw [← sets_of_at hat26]
  have hz28 := hk27.size
  have hB29 := hB8.lo hk27
  refine W.ret ?_
  refine ret1 rfl (v := .bool _) rfl ?_
  exact ⟨eR (eDD (z_c_spec_l33Good_30 r hp0)), hB29⟩

theorem z_c_impl_checksum_9 (s : List UInt8) (hp0 : (s.length : Int) ≤ 281474976710656) : 0 ≤ s.length := by
  omega
theorem z_c_impl_checksum_21 (s : List UInt8) (hp0 : (s.length : Int) ≤ 281474976710656) (k : Nat) (hi15 : k ≤ s.length) (hq16 : 0 ≤ csum (s.take k) ∧ csum (s.take k) ≤ 999978) (h17 : (k : Int) < (s.length : Int)) (hx19 : s[k]? = some (gt s k)) (hq20 : ((gt s k).toNat : Int) ≤ 255) : k + 1 ≤ s.length := by
  omega
theorem z_c_impl_checksum_22 (s : List UInt8) (hp0 : (s.length : Int) ≤ 281474976710656) (k : Nat) (hi15 : k ≤ s.length) (hq16 : 0 ≤ csum (s.take k) ∧ csum (s.take k) ≤ 999978) (h17 : (k : Int) < (s.length : Int)) (hx19 : s[k]? = some (gt s k)) (hq20 : ((gt s k).toNat : Int) ≤ 255) : s.length - (k + 1) < s.length - k := by
  omega
theorem z_c_impl_checksum_23 (s : List UInt8) (hp0 : (s.length : Int) ≤ 281474976710656) (k : Nat) (hi15 : k ≤ s.length) (hq16 : 0 ≤ csum (s.take k) ∧ csum (s.take k) ≤ 999978) (h17 : ¬ ((k : Int) < (s.length : Int))) : csum (s.take k) = csum s := by
  rw [csum_all (by omega)]
theorem c_impl_checksum (w : World) (s : List UInt8) (hp0 : (s.length : Int) ≤ 281474976710656) : Calls Tryd.prog 66 #[str s] w fun e w' => e = .returned (.int .i64 (csum s)) ∧ Lo w w' := by
  refine calls_W 22 Tryd.func66 rfl rfl rfl ?_
  refine W.seq ?_
  refine W.regS (SR.q' (r_as (v := .int .i64 0) rfl) <| SR.nil ?_)
  refine W.seq ?_
  refine W.regS (SR.q' (r_as (v := .int .i64 7) rfl) <| SR.nil ?_)
  refine W.seq ?_
  refine W.seq ?_
  refine W.regS (SR.q' (r_mv (v := str _) rfl) <| SR.bytes (s := s) und9 und53 und5 rfl (by first | omega | (simp only [List.length_append, List.length_cons, List.length_nil, List.length_take, List.length_drop]; omega) | (simp only [List.length_append, List.length_cons, List.length_nil, List.length_take, List.length_drop] at *; omega)) ?_)
  intro g1 c2 w3 hg4 hk5 hR6 
  have hz7 := hk5.size
  have hB8 := (Lo.refl w).lo hk5
  refine SR.q' (r_len und53 rfl) <| SR.q' (r_mv (v := .int .i64 0) rfl) <| SR.nil ?_
  refine W.block ?_
  refine W.loop (σ := Nat) (fun g => [(2, .int .i64 0), (3, .int .i64 (csum (s.take g))), (7, .slice (some (⟨g1, 0, none⟩ : Addr)) s.length c2), (8, .int .i64 (s.length : Int)), (9, .int .i64 (g : Int))]) (fun g w' => (Lo w w') ∧ (SlR w' w3.heap.size encB 1 (some (⟨g1, 0, none⟩ : Addr)) s.length c2 s) ∧ (g ≤ s.length)) (fun g => s.length - g) 0 ?_ ?_ ?_
  · exact ⟨rfl, (eI (by first | (first | omega | rfl | (rw [csum_snoc (by omega)])) | (dsimp only; (first | omega | rfl | (rw [csum_snoc (by omega)]))))), rfl, rfl, (eI (by first | (first | omega | rfl | (rw [csum_snoc (by omega)])) | (dsimp only; (first | omega | rfl | (rw [csum_snoc (by omega)]))))), trivial⟩
  · exact ⟨hB8, hR6, (z_c_impl_checksum_9 s hp0)⟩
  · rintro k f10 w11 hP13
    obtain ⟨hB12, hm14, hi15⟩ : (Lo w w11) ∧ (SlR w11 w3.heap.size encB 1 (some (⟨g1, 0, none⟩ : Addr)) s.length c2 s) ∧ (k ≤ s.length) := hP13
    refine (?_ : W _ _ _ _ _ (act _ (sets f10 [(2, .int .i64 0), (3, .int .i64 (csum (s.take k))), (7, .slice (some (⟨g1, 0, none⟩ : Addr)) s.length c2), (8, .int .i64 (s.length : Int)), (9, .int .i64 (k : Int))])) _)
    have hzw11 := hB12.size
    have hq16 : 0 ≤ csum (s.take k) ∧ csum (s.take k) ≤ 999978 := csum_rng (s.take k)
    refine W.seq ?_
    refine W.regS (SR.q' (r_lt rfl rfl) <| SR.nil ?_)
    refine W.seq ?_
    refine W.cond_d rfl (fun h17 => ?_) (fun h17 => ?_)
    · refine W.skip ?_
      refine W.seq ?_
      refine W.block ?_
      refine W.seq ?_
      have hx19 := (hm14).elem (i := k) (by omega)
      have hq20 := u8_le (gt s k)
      refine W.regS (SR.q' (r_ixR tsl53 (hm14) rfl rfl (by omega)) <| SR.q' (r_ld (v := .int .u8 ((gt s k).toNat : Int)) sca5 rfl ((hm14).cell0 hx19 rfl)) <| SR.q' (r_as (v := .int .u8 _) rfl) <| SR.nil ?_)
      refine W.regS (SR.q' (r_mv (v := .int .i64 _) rfl) <| SR.q' (r_mul rfl rfl (by omega)) <| SR.q' (r_mv (v := .int .u8 _) rfl) <| SR.q' (r_convI und3 und5 rfl (by omega)) <| SR.q' (r_add rfl rfl (by omega)) <| SR.q' (r_add rfl rfl (by omega)) <| SR.q' (r_rem rfl rfl (by omega)) <| SR.q' (r_as (v := .int .i64 _) rfl) <| SR.nil ?_)
      refine W.regS (SR.q' (r_add rfl rfl (by omega)) <| SR.q' (r_mv (v := .int .i64 _) rfl) <| SR.nil ?_)
      refine ⟨k + 1, _, rfl, ⟨rfl, (eI (by first | (first | omega | rfl | (rw [csum_snoc (by omega)])) | (dsimp only; (first | omega | rfl | (rw [csum_snoc (by omega)]))))), rfl, rfl, (eI (by first | (first | omega | rfl | (rw [csum_snoc (by omega)])) | (dsimp only; (first | omega | rfl | (rw [csum_snoc (by omega)]))))), trivial⟩, ⟨hB12, hm14, ?_⟩, ?_⟩
      · exact (z_c_impl_checksum_21 s hp0 k hi15 hq16 h17 hx19 hq20)
      · exact (z_c_impl_checksum_22 s hp0 k hi15 hq16 h17 hx19 hq20)
    · refine W.exit (xin_here ?_)
      refine W.seq ?_
      refine W.regS (SR.q' (r_mv (v := .int .i64 _) rfl) <| SR.q' (r_as (v := .int .i64 _) rfl) <| SR.nil ?_)
      refine W.ret ?_
      refine ret1 rfl (v := .int .i64 _) rfl ?_
      exact ⟨eR (eI (z_c_impl_checksum_23 s hp0 k hi15 hq16 h17)), hB12⟩

theorem z_c_spec_l1Sum_1 (s : List UInt8) (hp0 : (s.length : Int) ≤ 281474976710656) : 0 ≤ s.length := by
  omega
theorem z_c_spec_l1Sum_10 (s : List UInt8) (hp0 : (s.length : Int) ≤ 281474976710656) (k : Nat) (hi6 : k ≤ s.length) (hq7 : 0 ≤ csum (s.take k) ∧ csum (s.take k) ≤ 999978) (h8 : (k : Int) < (s.length : Int)) (hq9 : ((gt s k).toNat : Int) ≤ 255) : k + 1 ≤ s.length := by
  omega
theorem z_c_spec_l1Sum_11 (s : List UInt8) (hp0 : (s.length : Int) ≤ 281474976710656) (k : Nat) (hi6 : k ≤ s.length) (hq7 : 0 ≤ csum (s.take k) ∧ csum (s.take k) ≤ 999978) (h8 : (k : Int) < (s.length : Int)) (hq9 : ((gt s k).toNat : Int) ≤ 255) : s.length - (k + 1) < s.length - k := by
  omega
theorem z_c_spec_l1Sum_12 (s : List UInt8) (hp0 : (s.length : Int) ≤ 281474976710656) (k : Nat) (hi6 : k ≤ s.length) (hq7 : 0 ≤ csum (s.take k) ∧ csum (s.take k) ≤ 999978) (h8 : ¬ ((k : Int) < (s.length : Int))) : csum (s.take k) = csum s := by
  rw [csum_all (by omega)]
theorem c_spec_l1Sum (w : World) (s : List UInt8) (hp0 : (s.length : Int) ≤ 281474976710656) : Calls Tryd.prog 77 #[str s] w fun e w' => e = .returned (.int .i64 (csum s)) ∧ Lo w w' := by
  refine calls_W 21 Tryd.func77 rfl rfl rfl ?_
  refine W.seq ?_
  refine W.regS (SR.q' (r_as (v := .int .i64 0) rfl) <| SR.nil ?_)
  refine W.seq ?_
  refine W.regS (SR.q' (r_as (v := .int .i64 7) rfl) <| SR.nil ?_)
  refine W.seq ?_
  refine W.seq ?_
  refine W.regS (SR.q' (r_as (v := .int .i64 0) rfl) <| SR.nil ?_)
  refine W.block ?_
  refine W.loop (σ := Nat) (fun g => [(0, str s), (2, .int .i64 0), (3, .int .i64 (csum (s.take g))), (4, .int .i64 (g : Int))]) (fun g w' => (Lo w w') ∧ (g ≤ s.length)) (fun g => s.length - g) 0 ?_ ?_ ?_
  · exact ⟨rfl, rfl, (eI (by first | (first | omega | rfl | (rw [csum_snoc (by omega)])) | (dsimp only; (first | omega | rfl | (rw [csum_snoc (by omega)]))))), (eI (by first | (first | omega | rfl | (rw [csum_snoc (by omega)])) | (dsimp only; (first | omega | rfl | (rw [csum_snoc (by omega)]))))), trivial⟩
  · exact ⟨(Lo.refl w), (z_c_spec_l1Sum_1 s hp0)⟩
  · rintro k f2 w3 hP5
    obtain ⟨hB4, hi6⟩ : (Lo w w3) ∧ (k ≤ s.length) := hP5
    refine (?_ : W _ _ _ _ _ (act _ (sets f2 [(0, str s), (2, .int .i64 0), (3, .int .i64 (csum (s.take k))), (4, .int .i64 (k : Int))])) _)
    have hzw3 := hB4.size
    have hq7 : 0 ≤ csum (s.take k) ∧ csum (s.take k) ≤ 999978 := csum_rng (s.take k)
    refine W.seq ?_
    refine W.seq ?_
    refine W.regS (SR.q' (r_mv (v := .int .i64 _) rfl) <| SR.q' (r_mv (v := str _) rfl) <| SR.q' (r_len_s und9 rfl) <| SR.q' (r_lt rfl rfl) <| SR.nil ?_)
    refine W.cond_d rfl (fun h8 => ?_) (fun h8 => ?_)
    · refine W.skip ?_
      refine W.seq ?_
      refine W.block ?_
      refine W.regS (SR.q' (r_mv (v := .int .i64 _) rfl) <| SR.q' (r_mul rfl rfl (by omega)) <| SR.q' (r_mv (v := str _) rfl) <| SR.q' (r_mv (v := .int .i64 _) rfl) <| ?_)
      have hq9 := u8_le (gt s k)
      refine SR.q' (r_idxS (i := k) und9 rfl rfl rfl (by first | omega | (simp only [List.length_append, List.length_cons, List.length_nil, List.length_take, List.length_drop]; omega) | (simp only [List.length_append, List.length_cons, List.length_nil, List.length_take, List.length_drop] at *; omega))) <| SR.q' (r_convI und3 und5 rfl (by omega)) <| SR.q' (r_add rfl rfl (by omega)) <| SR.q' (r_add rfl rfl (by omega)) <| SR.q' (r_rem rfl rfl (by omega)) <| SR.q' (r_as (v := .int .i64 _) rfl) <| SR.nil ?_
      refine W.regS (SR.q' (r_mv (v := .int .i64 _) rfl) <| SR.q' (r_add rfl rfl (by omega)) <| SR.q' (r_as (v := .int .i64 _) rfl) <| SR.nil ?_)
      refine ⟨k + 1, _, rfl, ⟨rfl, rfl, (eI (by first | (first | omega | rfl | (rw [csum_snoc (by omega)])) | (dsimp only; (first | omega | rfl | (rw [csum_snoc (by omega)]))))), (eI (by first | (first | omega | rfl | (rw [csum_snoc (by omega)])) | (dsimp only; (first | omega | rfl | (rw [csum_snoc (by omega)]))))), trivial⟩, ⟨hB4, ?_⟩, ?_⟩
      · exact (z_c_spec_l1Sum_10 s hp0 k hi6 hq7 h8 hq9)
      · exact (z_c_spec_l1Sum_11 s hp0 k hi6 hq7 h8 hq9)
    · refine W.exit (xin_here ?_)
      refine W.seq ?_
      refine W.regS (SR.q' (r_mv (v := .int .i64 _) rfl) <| SR.q' (r_as (v := .int .i64 _) rfl) <| SR.nil ?_)
      refine W.ret ?_
      refine ret1 rfl (v := .int .i64 _) rfl ?_
      exact ⟨eR (eI (z_c_spec_l1Sum_12 s hp0 k hi6 hq7 h8)), hB4⟩

open Classical in
noncomputable def impl_AppendChecksum (s : List UInt8) : List UInt8 × Bool :=
  if ((Lib.contains s ([35] : List UInt8)) = true) ∨ (4000 < (((s ++ ([35] : List UInt8)) ++ (Lib.itoa (csum s))).length : Int)) then (([] : List UInt8), false) else ((s ++ ([35] : List UInt8)) ++ (Lib.itoa (csum s)), true)
theorem c_impl_AppendChecksum (w : World) (s : List UInt8) (hp0 : (s.length : Int) ≤ 1000000) (hE : EnvW w) : Calls Tryd.prog 46 #[str s] w fun e w' => e = .returned (.tuple (List.toArray [str ((impl_AppendChecksum s).1), .bool ((impl_AppendChecksum s).2)])) ∧ Lo w w' := by
  refine calls_W 19 Tryd.func46 rfl rfl rfl ?_
  refine W.seq ?_
  refine W.regS (SR.q' (r_as (v := str ([] : List UInt8)) rfl) <| SR.q' (r_as (v := .bool false) rfl) <| SR.nil ?_)
  refine W.seq ?_
  refine W.regS (SR.q' (r_mv (v := str _) rfl) <| SR.q' (r_cat rfl rfl (by first | omega | (simp only [List.length_append, List.length_cons, List.length_nil, List.length_take, List.length_drop]; omega) | (simp only [List.length_append, List.length_cons, List.length_nil, List.length_take, List.length_drop] at *; omega))) <| SR.q' (r_mv (v := str _) rfl) <| SR.call ent66 (c_impl_checksum w s (by first | omega | (simp only [List.length_append, List.length_cons, List.length_nil, List.length_take, List.length_drop]; omega))) rfl ?_)
  rintro e w1 ⟨rfl, hk2⟩
  refine ⟨_, rfl, ?_⟩
  have hz3 := hk2.size
  have hB4 := (Lo.refl w).lo hk2
  have hq5 : 0 ≤ csum s ∧ csum s ≤ 999978 := csum_rng s
  refine SR.call ent47 (c_impl_text w1 (csum s) (by omega) (hE.lo (hB4))) rfl ?_
  rintro e w6 ⟨rfl, hk7⟩
  refine ⟨_, rfl, ?_⟩
  have hz8 := hk7.size
  have hB9 := hB4.lo hk7
  have hq10 : (Lib.itoa (csum s)).length ≤ 21 := itoa_len (n := csum s) (by omega) (by omega)
  refine SR.q' (r_cat rfl rfl (by first | omega | (simp only [List.length_append, List.length_cons, List.length_nil, List.length_take, List.length_drop]; omega) | (simp only [List.length_append, List.length_cons, List.length_nil, List.length_take, List.length_drop] at *; omega))) <| SR.q' (r_as (v := str _) rfl) <| SR.nil ?_
  refine W.seq ?_
  refine W.seq ?_
  refine W.regJS (fun f' w' => At f' [(2, str ([] : List UInt8)), (3, .bool false), (4, str ((s ++ ([35] : List UInt8)) ++ (Lib.itoa (csum s)))), (17, .bool (decide (((Lib.contains s ([35] : List UInt8)) = true) ∨ (4000 < (((s ++ ([35] : List UInt8)) ++ (Lib.itoa (csum s))).length : Int)))))] ∧ Lo w6 w') ?_ ?_
  · refine SR.q' (r_mv (v := str _) rfl) <| SR.call ent61 (c_strings_Contains w6 s ([35] : List UInt8) (by omega) (hE.lo (hB9))) rfl ?_
    rintro e w11 ⟨rfl, hk12⟩
    refine ⟨_, rfl, ?_⟩
    have hz13 := hk12.size
    have hB14 := hB9.lo hk12
    refine SR.q' (r_mv (v := .bool _) rfl) <| SR.split (fun h15 => ?_) (fun h15 => ?_)
    · refine SR.s' rfl <| SR.s' rfl <| SR.s' rfl <| SR.q' (r_pick true rfl (v := .bool true) rfl) <| SR.nil ?_
      exact ⟨_, rfl, ⟨⟨rfl, rfl, rfl, (eDT ((jot h15).1 trivial)), trivial⟩, (hk12)⟩⟩
    · refine SR.g' rfl (r_mv (v := str _) rfl) <| SR.g' rfl (r_len_s und9 rfl) <| SR.g' rfl (r_gt rfl rfl) <| SR.q' (r_pick false rfl (v := .bool _) rfl) <| SR.nil ?_
      exact ⟨_, rfl, ⟨⟨rfl, rfl, rfl, (eDD (jof (ne_true_of_eq_false h15))), trivial⟩, (hk12)⟩⟩
  rintro f16 w17 ⟨hat18, hk19⟩
  rw [← sets_of_at hat18]
  have hz20 := hk19.size
  have hB21 := hB9.lo hk19
  refine W.cond_d rfl (fun h22 => ?_) (fun h22 => ?_)
  · refine W.seq ?_
    refine W.regS (SR.q' (r_as (v := str ([] : List UInt8)) rfl) <| SR.q' (r_as (v := .bool false) rfl) <| SR.nil ?_)
    refine W.ret ?_
    refine ret2 rfl (v := str _) (v' := .bool _) rfl rfl ?_
    exact ⟨eR (eT2 (eS (by unfold impl_AppendChecksum; rw [if_pos h22] <;> rfl)) (eB (by unfold impl_AppendChecksum; rw [if_pos h22] <;> rfl))), hB21⟩
  · have hq23 : ¬ ((Lib.contains s ([35] : List UInt8)) = true) := (not_or.1 h22).1
    have hq24 : ¬ (4000 < (((s ++ ([35] : List UInt8)) ++ (Lib.itoa (csum s))).length : Int)) := (not_or.1 h22).2
    refine W.skip ?_
    refine W.seq ?_
    refine W.regS (SR.q' (r_mv (v := str _) rfl) <| SR.q' (r_as (v := str _) rfl) <| SR.q' (r_as (v := .bool true) rfl) <| SR.nil ?_)
    refine W.ret ?_
    refine ret2 rfl (v := str _) (v' := .bool _) rfl rfl ?_
    exact ⟨eR (eT2 (eS (by unfold impl_AppendChecksum; rw [if_neg h22] <;> rfl)) (eB (by unfold impl_AppendChecksum; rw [if_neg h22] <;> rfl))), hB21⟩

theorem z_c_spec_l1Seal_11 (s : List UInt8) (hp0 : (s.length : Int) ≤ 100000000) (hq5 : 0 ≤ csum s ∧ csum s ≤ 999978) (hq10 : (Lib.itoa (csum s)).length ≤ 21) : (s ++ ([35] : List UInt8)) ++ (Lib.itoa (csum s)) = sealB s := by
  rfl
theorem c_spec_l1Seal (w : World) (s : List UInt8) (hp0 : (s.length : Int) ≤ 100000000) : Calls Tryd.prog 64 #[str s] w fun e w' => e = .returned (str (sealB s)) ∧ Lo w w' := by
  refine calls_W 9 Tryd.func64 rfl rfl rfl ?_
  refine W.seq ?_
  refine W.regS (SR.q' (r_as (v := str ([] : List UInt8)) rfl) <| SR.nil ?_)
  refine W.seq ?_
  refine W.regS (SR.q' (r_mv (v := str _) rfl) <| SR.q' (r_cat rfl rfl (by first | omega | (simp only [List.length_append, List.length_cons, List.length_nil, List.length_take, List.length_drop]; omega) | (simp only [List.length_append, List.length_cons, List.length_nil, List.length_take, List.length_drop] at *; omega))) <| SR.q' (r_mv (v := str _) rfl) <| SR.call ent77 (c_spec_l1Sum w s (by first | omega | (simp only [List.length_append, List.length_cons, List.length_nil, List.length_take, List.length_drop]; omega))) rfl ?_)
  rintro e w1 ⟨rfl, hk2⟩
  refine ⟨_, rfl, ?_⟩
  have hz3 := hk2.size
  have hB4 := (Lo.refl w).lo hk2
  have hq5 : 0 ≤ csum s ∧ csum s ≤ 999978 := csum_rng s
  refine SR.call ent65 (c_spec_l1Num w1 (csum s) (by omega)) rfl ?_
  rintro e w6 ⟨rfl, hk7⟩
  refine ⟨_, rfl, ?_⟩
  have hz8 := hk7.size
  have hB9 := hB4.lo hk7
  have hq10 : (Lib.itoa (csum s)).length ≤ 21 := itoa_len (n := csum s) (by omega) (by omega)
  refine SR.q' (r_cat rfl rfl (by first | omega | (simp only [List.length_append, List.length_cons, List.length_nil, List.length_take, List.length_drop]; omega) | (simp only [List.length_append, List.length_cons, List.length_nil, List.length_take, List.length_drop] at *; omega))) <| SR.q' (r_as (v := str _) rfl) <| SR.nil ?_
  refine W.ret ?_
  refine ret1 rfl (v := str _) rfl ?_
  exact ⟨eR (eS (z_c_spec_l1Seal_11 s hp0 hq5 hq10)), hB9⟩
end Go.Proofs.YthlbmkpkgiabnaaDoor
