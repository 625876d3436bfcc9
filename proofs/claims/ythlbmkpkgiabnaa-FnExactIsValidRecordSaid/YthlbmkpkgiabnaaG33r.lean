/- Walks, printed by a program of this claim's author. -/
import Derived.Test.YthlbmkpkgiabnaaChecked
import Derived.Test.YthlbmkpkgiabnaaWb
import Derived.Test.YthlbmkpkgiabnaaFt
import Derived.Test.YthlbmkpkgiabnaaSi
namespace Go.Proofs.Ythlbmkpkgiabnaa
open Go Go.RowKit Fw
set_option maxRecDepth 10000
set_option linter.unusedVariables false
theorem mo : Try.prog.follows .mixedOrders = true := by kernel_rfl
theorem agg23 : TAgg Try.prog 23 2 := ⟨fun _ => by kernel_rfl, fun _ => by kernel_rfl⟩
theorem agg26 : TAgg Try.prog 26 2 := ⟨fun _ => by kernel_rfl, fun _ => by kernel_rfl⟩
theorem ent10 : Ent Try.prog 10 := ent_of Try.func10 (by decide +kernel) rfl
theorem ent11 : Ent Try.prog 11 := ent_of Try.func11 (by decide +kernel) rfl
theorem ent12 : Ent Try.prog 12 := ent_of Try.func12 (by decide +kernel) rfl
theorem ent13 : Ent Try.prog 13 := ent_of Try.func13 (by decide +kernel) rfl
theorem ent14 : Ent Try.prog 14 := ent_of Try.func14 (by decide +kernel) rfl
theorem ent15 : Ent Try.prog 15 := ent_of Try.func15 (by decide +kernel) rfl
theorem ent17 : Ent Try.prog 17 := ent_of Try.func17 (by decide +kernel) rfl
theorem ent18 : Ent Try.prog 18 := ent_of Try.func18 (by decide +kernel) rfl
theorem ent4 : Ent Try.prog 4 := ent_of Try.func4 (by decide +kernel) rfl
theorem ent5 : Ent Try.prog 5 := ent_of Try.func5 (by decide +kernel) rfl
theorem ent6 : Ent Try.prog 6 := ent_of Try.func6 (by decide +kernel) rfl
theorem ent7 : Ent Try.prog 7 := ent_of Try.func7 (by decide +kernel) rfl
theorem ent8 : Ent Try.prog 8 := ent_of Try.func8 (by decide +kernel) rfl
theorem ent9 : Ent Try.prog 9 := ent_of Try.func9 (by decide +kernel) rfl
theorem fa23_0 : FA Try.prog 23 0 0 := fun _ _ => by kernel_rfl
theorem fa23_1 : FA Try.prog 23 1 1 := fun _ _ => by kernel_rfl
theorem fa26_0 : FA Try.prog 26 0 0 := fun _ _ => by kernel_rfl
theorem fa26_1 : FA Try.prog 26 1 1 := fun _ _ => by kernel_rfl
theorem sca5 : TSca Try.prog 5 := ⟨fun _ => by kernel_rfl, fun _ => by kernel_rfl⟩
theorem sca9 : TSca Try.prog 9 := ⟨fun _ => by kernel_rfl, fun _ => by kernel_rfl⟩
theorem tsl35 : TSl Try.prog 35 5 1 := ⟨by kernel_rfl, fun _ => by kernel_rfl⟩
theorem tz26 : TZ Try.prog 26 (.agg (List.toArray [str ([] : List UInt8), str ([] : List UInt8)])) := fun _ => by kernel_rfl
theorem und3 : Try.prog.underlying 3 = some (.int .i64) := by kernel_rfl
theorem und35 : Try.prog.underlying 35 = some (.slice 5) := by kernel_rfl
theorem und4 : Try.prog.underlying 4 = some (.bool) := by kernel_rfl
theorem und5 : Try.prog.underlying 5 = some (.int .u8) := by kernel_rfl
theorem und9 : Try.prog.underlying 9 = some (.string) := by kernel_rfl

theorem z_c_spec_l1In_8 (n : Int) (a : Int) (b : Int) : ((a ≤ n) ∧ (n ≤ b)) ↔ (a ≤ n ∧ n ≤ b) := by
  omega
theorem c_spec_l1In (w : World) (n : Int) (a : Int) (b : Int) : Calls Try.prog 17 #[.int .i64 n, .int .i64 a, .int .i64 b] w fun e w' => e = .returned (.bool (decide (a ≤ n ∧ n ≤ b))) ∧ Lo w w' := by
  refine calls_W 15 Try.func17 rfl rfl rfl ?_
  refine W.seq ?_
  refine W.regS (SR.q' (r_as (v := .bool false) rfl) <| SR.nil ?_)
  refine W.seq ?_
  refine W.regJS (fun f' w' => At f' [(6, .bool (decide ((a ≤ n) ∧ (n ≤ b))))] ∧ Lo w w') ?_ ?_
  · refine SR.q' (r_mv (v := .int .i64 _) rfl) <| SR.q' (r_mv (v := .int .i64 _) rfl) <| SR.q' (r_ge rfl rfl) <| SR.q' (r_mv (v := .bool _) rfl) <| SR.splitD (fun h1 => ?_) (fun h1 => ?_)
    · refine SR.g' rfl (r_mv (v := .int .i64 _) rfl) <| SR.g' rfl (r_mv (v := .int .i64 _) rfl) <| SR.g' rfl (r_le rfl rfl) <| SR.q' (r_pick true rfl (v := .bool _) rfl) <| SR.q' (r_as (v := .bool _) rfl) <| SR.nil ?_
      exact ⟨_, rfl, ⟨⟨(eDD (jat h1)), trivial⟩, (Lo.refl _)⟩⟩
    · refine SR.s' rfl <| SR.s' rfl <| SR.s' rfl <| SR.q' (r_pick false rfl (v := .bool false) rfl) <| SR.q' (r_as (v := .bool _) rfl) <| SR.nil ?_
      exact ⟨_, rfl, ⟨⟨(eDF (jaf h1).2), trivial⟩, (Lo.refl _)⟩⟩
  rintro f2 w3 ⟨hat4, hk5⟩
  rw [← sets_of_at hat4]
  have hz6 := hk5.size
  have hB7 := (Lo.refl w).lo hk5
  refine W.ret ?_
  refine ret1 rfl (v := .bool _) rfl ?_
  exact ⟨eR (eDD (z_c_spec_l1In_8 n a b)), hB7⟩

theorem z_c_impl_within_8 (n : Int) (a : Int) (b : Int) : ((a ≤ n) ∧ (n ≤ b)) ↔ (a ≤ n ∧ n ≤ b) := by
  omega
theorem c_impl_within (w : World) (n : Int) (a : Int) (b : Int) : Calls Try.prog 9 #[.int .i64 n, .int .i64 a, .int .i64 b] w fun e w' => e = .returned (.bool (decide (a ≤ n ∧ n ≤ b))) ∧ Lo w w' := by
  refine calls_W 15 Try.func9 rfl rfl rfl ?_
  refine W.seq ?_
  refine W.regS (SR.q' (r_as (v := .bool false) rfl) <| SR.nil ?_)
  refine W.seq ?_
  refine W.regJS (fun f' w' => At f' [(6, .bool (decide ((a ≤ n) ∧ (n ≤ b))))] ∧ Lo w w') ?_ ?_
  · refine SR.q' (r_mv (v := .int .i64 _) rfl) <| SR.q' (r_mv (v := .int .i64 _) rfl) <| SR.q' (r_ge rfl rfl) <| SR.q' (r_mv (v := .bool _) rfl) <| SR.splitD (fun h1 => ?_) (fun h1 => ?_)
    · refine SR.g' rfl (r_mv (v := .int .i64 _) rfl) <| SR.g' rfl (r_mv (v := .int .i64 _) rfl) <| SR.g' rfl (r_le rfl rfl) <| SR.q' (r_pick true rfl (v := .bool _) rfl) <| SR.q' (r_as (v := .bool _) rfl) <| SR.nil ?_
      exact ⟨_, rfl, ⟨⟨(eDD (jat h1)), trivial⟩, (Lo.refl _)⟩⟩
    · refine SR.s' rfl <| SR.s' rfl <| SR.s' rfl <| SR.q' (r_pick false rfl (v := .bool false) rfl) <| SR.q' (r_as (v := .bool _) rfl) <| SR.nil ?_
      exact ⟨_, rfl, ⟨⟨(eDF (jaf h1).2), trivial⟩, (Lo.refl _)⟩⟩
  rintro f2 w3 ⟨hat4, hk5⟩
  rw [← sets_of_at hat4]
  have hz6 := hk5.size
  have hB7 := (Lo.refl w).lo hk5
  refine W.ret ?_
  refine ret1 rfl (v := .bool _) rfl ?_
  exact ⟨eR (eDD (z_c_impl_within_8 n a b)), hB7⟩

theorem z_c_slices_IndexFunc___byte_byte__1 (L : List UInt8) (nL : Nat) (hbdL : (nL : Int) ≤ 9223372036854775807) (hleL : nL = L.length) (p : UInt8 → Bool) : 0 ≤ nL ∧ NoneTo p L 0 := by
  exact ⟨Nat.zero_le _, NoneTo.zero⟩
theorem z_c_slices_IndexFunc___byte_byte__17 (L : List UInt8) (nL : Nat) (hbdL : (nL : Int) ≤ 9223372036854775807) (hleL : nL = L.length) (p : UInt8 → Bool) (k : Nat) (hi7 : k ≤ nL ∧ NoneTo p L k) (h8 : (k : Int) < (nL : Int)) (hx10 : L[k]? = some (gt L k)) (hq11 : ((gt L k).toNat : Int) ≤ 255) (h16 : (p (gt L k)) = true) : (k : Int) = idxF p L := by
  first | exact idx_at (And.right ‹_ ∧ NoneTo p L _›) ‹L[_]? = some _› ‹_› | exact idx_no (And.right ‹_ ∧ NoneTo p L _›) hleL ‹_›
theorem z_c_slices_IndexFunc___byte_byte__18 (L : List UInt8) (nL : Nat) (hbdL : (nL : Int) ≤ 9223372036854775807) (hleL : nL = L.length) (p : UInt8 → Bool) (k : Nat) (hi7 : k ≤ nL ∧ NoneTo p L k) (h8 : (k : Int) < (nL : Int)) (hx10 : L[k]? = some (gt L k)) (hq11 : ((gt L k).toNat : Int) ≤ 255) (h16 : (p (gt L k)) = false) : k + 1 ≤ nL ∧ NoneTo p L (k + 1) := by
  exact ⟨by omega, NoneTo.next (And.right ‹_ ∧ NoneTo p L _›) ‹L[k]? = some _› ‹_›⟩
theorem z_c_slices_IndexFunc___byte_byte__19 (L : List UInt8) (nL : Nat) (hbdL : (nL : Int) ≤ 9223372036854775807) (hleL : nL = L.length) (p : UInt8 → Bool) (k : Nat) (hi7 : k ≤ nL ∧ NoneTo p L k) (h8 : (k : Int) < (nL : Int)) (hx10 : L[k]? = some (gt L k)) (hq11 : ((gt L k).toNat : Int) ≤ 255) (h16 : (p (gt L k)) = false) : nL - (k + 1) < nL - k := by
  omega
theorem z_c_slices_IndexFunc___byte_byte__20 (L : List UInt8) (nL : Nat) (hbdL : (nL : Int) ≤ 9223372036854775807) (hleL : nL = L.length) (p : UInt8 → Bool) (k : Nat) (hi7 : k ≤ nL ∧ NoneTo p L k) (h8 : ¬ ((k : Int) < (nL : Int))) : (-1) = idxF p L := by
  first | exact idx_at (And.right ‹_ ∧ NoneTo p L _›) ‹L[_]? = some _› ‹_› | exact idx_no (And.right ‹_ ∧ NoneTo p L _›) hleL ‹_›
theorem c_slices_IndexFunc___byte_byte_ (w : World) {AL : Option Addr} {nL cL BL : Nat}  (L : List UInt8) (hL : SlR w BL encB 1 AL nL cL L) {kp : Nat} {capp : List Value} (p : UInt8 → Bool) (hp : Fnc Try.prog w kp capp (fun x => .int .u8 (x.toNat : Int)) p) : Calls Try.prog 18 #[.slice AL nL cL, .func (.func kp) #[] (List.toArray capp)] w fun e w' => e = .returned (.int .i64 (idxF p L)) ∧ Lo w w' := by
  refine calls_W 19 Try.func18 rfl rfl rfl ?_
  have hbdL := hL.bound
  have hleL := hL.len
  have hBbL := hL.bd
  refine W.seq ?_
  refine W.regS (SR.q' (r_as (v := .int .i64 0) rfl) <| SR.nil ?_)
  refine W.seq ?_
  refine W.seq ?_
  refine W.regS (SR.q' (r_mv (v := .slice _ _ _) rfl) <| SR.q' (r_len und35 rfl) <| SR.q' (r_mv (v := .int .i64 0) rfl) <| SR.nil ?_)
  refine W.block ?_
  refine W.loop (σ := Nat) (fun g => [(0, .slice AL nL cL), (1, .func (.func kp) #[] (List.toArray capp)), (7, .int .i64 (nL : Int)), (8, .int .i64 (g : Int))]) (fun g w' => (Lo w w') ∧ (SlR w' BL encB 1 AL nL cL L) ∧ (g ≤ nL ∧ NoneTo p L g)) (fun g => nL - g) 0 ?_ ?_ ?_
  · exact ⟨rfl, rfl, rfl, rfl, trivial⟩
  · exact ⟨(Lo.refl w), hL, (z_c_slices_IndexFunc___byte_byte__1 L nL hbdL hleL p)⟩
  · rintro k f2 w3 hP5
    obtain ⟨hB4, hm6, hi7⟩ : (Lo w w3) ∧ (SlR w3 BL encB 1 AL nL cL L) ∧ (k ≤ nL ∧ NoneTo p L k) := hP5
    refine (?_ : W _ _ _ _ _ (act _ (sets f2 [(0, .slice AL nL cL), (1, .func (.func kp) #[] (List.toArray capp)), (7, .int .i64 (nL : Int)), (8, .int .i64 (k : Int))])) _)
    have hzw3 := hB4.size
    refine W.seq ?_
    refine W.regS (SR.q' (r_lt rfl rfl) <| SR.nil ?_)
    refine W.seq ?_
    refine W.cond_d rfl (fun h8 => ?_) (fun h8 => ?_)
    · refine W.skip ?_
      refine W.seq ?_
      refine W.block ?_
      refine W.seq ?_
      refine W.regS (SR.q' (r_mv (v := .int .i64 _) rfl) <| SR.q' (r_as (v := .int .i64 _) rfl) <| SR.nil ?_)
      refine W.seq ?_
      refine W.regS (SR.q' (r_mv (v := .func _ #[] (List.toArray _)) rfl) <| SR.q' (r_mv (v := .slice _ _ _) rfl) <| SR.q' (r_mv (v := .int .i64 _) rfl) <| ?_)
      have hx10 := (hm6).elem (i := k) (by omega)
      have hq11 := u8_le (gt L k)
      refine SR.q' (r_ixR tsl35 (hm6) rfl rfl (by omega)) <| SR.q' (r_ld (v := .int .u8 ((gt L k).toNat : Int)) sca5 rfl ((hm6).cell0 hx10 rfl)) <| SR.callv (hp).1 rfl ((hp).2 _ hB4 (gt L k)) rfl ?_
      rintro e w12 ⟨rfl, hk13⟩
      refine ⟨_, rfl, ?_⟩
      have hz14 := hk13.size
      have hB15 := hB4.lo hk13
      refine SR.nil ?_
      refine W.cond_b rfl (fun h16 => ?_) (fun h16 => ?_)
      · refine W.seq ?_
        refine W.regS (SR.q' (r_mv (v := .int .i64 _) rfl) <| SR.q' (r_as (v := .int .i64 _) rfl) <| SR.nil ?_)
        refine W.ret ?_
        refine ret1 rfl (v := .int .i64 _) rfl ?_
        exact ⟨eR (eI (z_c_slices_IndexFunc___byte_byte__17 L nL hbdL hleL p k hi7 h8 hx10 hq11 h16)), hB15⟩
      · refine W.skip ?_
        refine W.regS (SR.q' (r_add rfl rfl (by omega)) <| SR.q' (r_mv (v := .int .i64 _) rfl) <| SR.nil ?_)
        refine ⟨k + 1, _, rfl, ⟨rfl, rfl, rfl, rfl, trivial⟩, ⟨hB15, (hm6).lo hk13, ?_⟩, ?_⟩
        · exact (z_c_slices_IndexFunc___byte_byte__18 L nL hbdL hleL p k hi7 h8 hx10 hq11 h16)
        · exact (z_c_slices_IndexFunc___byte_byte__19 L nL hbdL hleL p k hi7 h8 hx10 hq11 h16)
    · refine W.exit (xin_here ?_)
      refine W.seq ?_
      refine W.regS (SR.q' (r_as (v := .int .i64 (-1)) rfl) <| SR.nil ?_)
      refine W.ret ?_
      refine ret1 rfl (v := .int .i64 _) rfl ?_
      exact ⟨eR (eI (z_c_slices_IndexFunc___byte_byte__20 L nL hbdL hleL p k hi7 h8)), hB4⟩

theorem z_c_slices_ContainsFunc___byte_byte__6 (L : List UInt8) (nL : Nat) (hbdL : (nL : Int) ≤ 9223372036854775807) (hleL : nL = L.length) (p : UInt8 → Bool) (hq5 : idxF p L < (L.length : Int) ∧ -1 ≤ idxF p L) : decide (0 ≤ (idxF p L)) = L.any p := by
  rw [Bool.eq_iff_iff, decide_eq_true_eq]; exact any_idx
theorem c_slices_ContainsFunc___byte_byte_ (w : World) {AL : Option Addr} {nL cL BL : Nat}  (L : List UInt8) (hL : SlR w BL encB 1 AL nL cL L) {kp : Nat} {capp : List Value} (p : UInt8 → Bool) (hp : Fnc Try.prog w kp capp (fun x => .int .u8 (x.toNat : Int)) p) : Calls Try.prog 14 #[.slice AL nL cL, .func (.func kp) #[] (List.toArray capp)] w fun e w' => e = .returned (.bool (L.any p)) ∧ Lo w w' := by
  refine calls_W 9 Try.func14 rfl rfl rfl ?_
  have hbdL := hL.bound
  have hleL := hL.len
  have hBbL := hL.bd
  refine W.seq ?_
  refine W.regS (SR.q' (r_as (v := .bool false) rfl) <| SR.nil ?_)
  refine W.seq ?_
  refine W.regS (SR.q' (r_mv (v := .slice _ _ _) rfl) <| SR.q' (r_mv (v := .func _ #[] (List.toArray _)) rfl) <| SR.call ent18 (c_slices_IndexFunc___byte_byte_ w L ((hL)) p (hp.lo (Lo.refl w))) rfl ?_)
  rintro e w1 ⟨rfl, hk2⟩
  refine ⟨_, rfl, ?_⟩
  have hz3 := hk2.size
  have hB4 := (Lo.refl w).lo hk2
  have hq5 : idxF p L < (L.length : Int) ∧ -1 ≤ idxF p L := idx_lt
  refine SR.q' (r_ge rfl rfl) <| SR.q' (r_as (v := .bool _) rfl) <| SR.nil ?_
  refine W.ret ?_
  refine ret1 rfl (v := .bool _) rfl ?_
  exact ⟨eR (eB (z_c_slices_ContainsFunc___byte_byte__6 L nL hbdL hleL p hq5)), hB4⟩

theorem z_c_impl_isPrinted_1_9 (x : UInt8) : decide (((x.toNat : Int) < 32) ∨ ((126 < (x.toNat : Int)) ∨ ((x.toNat : Int) = 35))) = (!decide (PlB x)) := by
  exact pl_not x
theorem c_impl_isPrinted_1 (w : World) (x : UInt8) : Calls Try.prog 15 #[.int .u8 (x.toNat : Int)] w fun e w' => e = .returned (.bool (!decide (PlB x))) ∧ Lo w w' := by
  refine calls_W 13 Try.func15 rfl rfl rfl ?_
  refine W.seq ?_
  refine W.regS (SR.q' (r_as (v := .bool false) rfl) <| SR.nil ?_)
  refine W.seq ?_
  refine W.regJS (fun f' w' => At f' [(2, .bool (decide (((x.toNat : Int) < 32) ∨ ((126 < (x.toNat : Int)) ∨ ((x.toNat : Int) = 35)))))] ∧ Lo w w') ?_ ?_
  · refine SR.q' (r_mv (v := .int .u8 _) rfl) <| SR.q' (r_lt rfl rfl) <| SR.q' (r_mv (v := .bool _) rfl) <| SR.splitD (fun h1 => ?_) (fun h1 => ?_)
    · refine SR.s' rfl <| SR.s' rfl <| SR.q' (r_pick true rfl (v := .bool true) rfl) <| SR.q' (r_mv (v := .bool _) rfl) <| SR.s' rfl <| SR.s' rfl <| SR.q' (r_pick true rfl (v := .bool true) rfl) <| SR.q' (r_as (v := .bool _) rfl) <| SR.nil ?_
      exact ⟨_, rfl, ⟨⟨(eDT ((jot h1).1 trivial)), trivial⟩, (Lo.refl _)⟩⟩
    · refine SR.g' rfl (r_mv (v := .int .u8 _) rfl) <| SR.g' rfl (r_gt rfl rfl) <| SR.q' (r_pick false rfl (v := .bool _) rfl) <| SR.q' (r_mv (v := .bool _) rfl) <| SR.splitD (fun h2 => ?_) (fun h2 => ?_)
      · refine SR.s' rfl <| SR.s' rfl <| SR.q' (r_pick true rfl (v := .bool true) rfl) <| SR.q' (r_as (v := .bool _) rfl) <| SR.nil ?_
        exact ⟨_, rfl, ⟨⟨(eDT (((jot h2).trans (jof h1)).1 trivial)), trivial⟩, (Lo.refl _)⟩⟩
      · refine SR.g' rfl (r_mv (v := .int .u8 _) rfl) <| SR.g' rfl (r_eq rfl rfl) <| SR.q' (r_pick false rfl (v := .bool _) rfl) <| SR.q' (r_as (v := .bool _) rfl) <| SR.nil ?_
        exact ⟨_, rfl, ⟨⟨(eDD ((jof h2).trans (jof h1))), trivial⟩, (Lo.refl _)⟩⟩
  rintro f3 w4 ⟨hat5, hk6⟩
  rw [← sets_of_at hat5]
  have hz7 := hk6.size
  have hB8 := (Lo.refl w).lo hk6
  refine W.ret ?_
  refine ret1 rfl (v := .bool _) rfl ?_
  exact ⟨eR (eB (z_c_impl_isPrinted_1_9 x)), hB8⟩

theorem z_c_impl_isPrinted_13 (s : List UInt8) (hp0 : (s.length : Int) ≤ 281474976710656) : (!(s.any (fun u_ : UInt8 => (!decide (PlB u_))))) = true ↔ (Plain s) := by
  exact plain_any s
theorem c_impl_isPrinted (w : World) (s : List UInt8) (hp0 : (s.length : Int) ≤ 281474976710656) : Calls Try.prog 10 #[str s] w fun e w' => e = .returned (.bool (decide (Plain s))) ∧ Lo w w' := by
  refine calls_W 7 Try.func10 rfl rfl rfl ?_
  refine W.seq ?_
  refine W.regS (SR.q' (r_as (v := .bool false) rfl) <| SR.nil ?_)
  refine W.seq ?_
  refine W.regS (SR.q' (r_mv (v := str _) rfl) <| SR.bytes (s := s) und9 und35 und5 rfl (by first | omega | (simp only [List.length_append, List.length_cons, List.length_nil, List.length_take, List.length_drop]; omega) | (simp only [List.length_append, List.length_cons, List.length_nil, List.length_take, List.length_drop] at *; omega)) ?_)
  intro g1 c2 w3 hg4 hk5 hR6 
  have hz7 := hk5.size
  have hB8 := (Lo.refl w).lo hk5
  refine SR.call ent14 (c_slices_ContainsFunc___byte_byte_ w3 s ((hR6)) (fun u_ : UInt8 => (!decide (PlB u_))) ⟨ent15, fun w'' hw'' x => (c_impl_isPrinted_1 w'' x).mono fun _ _ h => ⟨h.1, h.2⟩⟩) rfl ?_
  rintro e w9 ⟨rfl, hk10⟩
  refine ⟨_, rfl, ?_⟩
  have hz11 := hk10.size
  have hB12 := hB8.lo hk10
  refine SR.q' (r_not rfl) <| SR.q' (r_as (v := .bool _) rfl) <| SR.nil ?_
  refine W.ret ?_
  refine ret1 rfl (v := .bool _) rfl ?_
  exact ⟨eR (eBD (z_c_impl_isPrinted_13 s hp0)), hB12⟩

theorem z_c_spec_l33Plain_1 (s : List UInt8) (m : Int) (hp0 : (s.length : Int) ≤ 281474976710656) : 0 ≤ s.length ∧ ∀ j, j < 0 → PlB (gt s j) := by
  exact ⟨Nat.zero_le _, fun _ h => absurd h (by omega)⟩
theorem z_c_spec_l33Plain_22 (s : List UInt8) (m : Int) (hp0 : (s.length : Int) ≤ 281474976710656) (k : Nat) (hi6 : k ≤ s.length ∧ ∀ j, j < k → PlB (gt s j)) (h7 : (k : Int) < (s.length : Int)) (hq18 : ((gt s k).toNat : Int) ≤ 255) (h21 : (¬ (32 ≤ ((gt s k).toNat : Int) ∧ ((gt s k).toNat : Int) ≤ 126)) ∨ (((gt s k).toNat : Int) = 35)) : ¬ (Plain s ∧ (s.length : Int) ≤ m) := by
  first | exact fun hp => plain_no (k := k) (by omega) (by unfold PlB; omega) hp.1 | (have hp := plain_at (And.right ‹_ ∧ ∀ _, _›) (by omega); exact ⟨fun h => ⟨hp, h⟩, fun h => h.2⟩)
theorem z_c_spec_l33Plain_25 (s : List UInt8) (m : Int) (hp0 : (s.length : Int) ≤ 281474976710656) (k : Nat) (hi6 : k ≤ s.length ∧ ∀ j, j < k → PlB (gt s j)) (h7 : (k : Int) < (s.length : Int)) (hq18 : ((gt s k).toNat : Int) ≤ 255) (h21 : ¬ ((¬ (32 ≤ ((gt s k).toNat : Int) ∧ ((gt s k).toNat : Int) ≤ 126)) ∨ (((gt s k).toNat : Int) = 35))) (hq23 : 32 ≤ ((gt s k).toNat : Int) ∧ ((gt s k).toNat : Int) ≤ 126) (hq24 : ¬ (((gt s k).toNat : Int) = 35)) : k + 1 ≤ s.length ∧ ∀ j, j < (k + 1) → PlB (gt s j) := by
  exact ⟨by omega, all_next (And.right ‹_ ∧ ∀ _, _›) (by unfold PlB; omega)⟩
theorem z_c_spec_l33Plain_26 (s : List UInt8) (m : Int) (hp0 : (s.length : Int) ≤ 281474976710656) (k : Nat) (hi6 : k ≤ s.length ∧ ∀ j, j < k → PlB (gt s j)) (h7 : (k : Int) < (s.length : Int)) (hq18 : ((gt s k).toNat : Int) ≤ 255) (h21 : ¬ ((¬ (32 ≤ ((gt s k).toNat : Int) ∧ ((gt s k).toNat : Int) ≤ 126)) ∨ (((gt s k).toNat : Int) = 35))) (hq23 : 32 ≤ ((gt s k).toNat : Int) ∧ ((gt s k).toNat : Int) ≤ 126) (hq24 : ¬ (((gt s k).toNat : Int) = 35)) : s.length - (k + 1) < s.length - k := by
  omega
theorem z_c_spec_l33Plain_27 (s : List UInt8) (m : Int) (hp0 : (s.length : Int) ≤ 281474976710656) (k : Nat) (hi6 : k ≤ s.length ∧ ∀ j, j < k → PlB (gt s j)) (h7 : ¬ ((k : Int) < (s.length : Int))) : ((s.length : Int) ≤ m) ↔ (Plain s ∧ (s.length : Int) ≤ m) := by
  first | exact fun hp => plain_no (k := k) (by omega) (by unfold PlB; omega) hp.1 | (have hp := plain_at (And.right ‹_ ∧ ∀ _, _›) (by omega); exact ⟨fun h => ⟨hp, h⟩, fun h => h.2⟩)
theorem c_spec_l33Plain (w : World) (s : List UInt8) (m : Int) (hp0 : (s.length : Int) ≤ 281474976710656) : Calls Try.prog 12 #[str s, .int .i64 m] w fun e w' => e = .returned (.bool (decide (Plain s ∧ (s.length : Int) ≤ m))) ∧ Lo w w' := by
  refine calls_W 28 Try.func12 rfl rfl rfl ?_
  refine W.seq ?_
  refine W.regS (SR.q' (r_as (v := .bool false) rfl) <| SR.nil ?_)
  refine W.seq ?_
  refine W.seq ?_
  refine W.regS (SR.q' (r_as (v := .int .i64 0) rfl) <| SR.nil ?_)
  refine W.block ?_
  refine W.loop (σ := Nat) (fun g => [(0, str s), (1, .int .i64 m), (5, .int .i64 (g : Int))]) (fun g w' => (Lo w w') ∧ (g ≤ s.length ∧ ∀ j, j < g → PlB (gt s j))) (fun g => s.length - g) 0 ?_ ?_ ?_
  · exact ⟨rfl, rfl, rfl, trivial⟩
  · exact ⟨(Lo.refl w), (z_c_spec_l33Plain_1 s m hp0)⟩
  · rintro k f2 w3 hP5
    obtain ⟨hB4, hi6⟩ : (Lo w w3) ∧ (k ≤ s.length ∧ ∀ j, j < k → PlB (gt s j)) := hP5
    refine (?_ : W _ _ _ _ _ (act _ (sets f2 [(0, str s), (1, .int .i64 m), (5, .int .i64 (k : Int))])) _)
    have hzw3 := hB4.size
    refine W.seq ?_
    refine W.seq ?_
    refine W.regS (SR.q' (r_mv (v := .int .i64 _) rfl) <| SR.q' (r_mv (v := str _) rfl) <| SR.q' (r_len_s und9 rfl) <| SR.q' (r_lt rfl rfl) <| SR.nil ?_)
    refine W.cond_d rfl (fun h7 => ?_) (fun h7 => ?_)
    · refine W.skip ?_
      refine W.seq ?_
      refine W.block ?_
      refine W.seq ?_
      refine W.regJS (fun f' w' => At f' [(0, str s), (1, .int .i64 m), (5, .int .i64 (k : Int)), (23, .bool (decide ((¬ (32 ≤ ((gt s k).toNat : Int) ∧ ((gt s k).toNat : Int) ≤ 126)) ∨ (((gt s k).toNat : Int) = 35))))] ∧ Lo w3 w' ∧ (((gt s k).toNat : Int) ≤ 255)) ?_ ?_
      · refine SR.q' (r_mv (v := str _) rfl) <| SR.q' (r_mv (v := .int .i64 _) rfl) <| ?_
        have hq8 := u8_le (gt s k)
        refine SR.q' (r_idxS (i := k) und9 rfl rfl rfl (by first | omega | (simp only [List.length_append, List.length_cons, List.length_nil, List.length_take, List.length_drop]; omega) | (simp only [List.length_append, List.length_cons, List.length_nil, List.length_take, List.length_drop] at *; omega))) <| SR.q' (r_convI und3 und5 rfl (by omega)) <| SR.call ent17 (c_spec_l1In w3 ((gt s k).toNat : Int) 32 126) rfl ?_
        rintro e w9 ⟨rfl, hk10⟩
        refine ⟨_, rfl, ?_⟩
        have hz11 := hk10.size
        have hB12 := hB4.lo hk10
        refine SR.q' (r_not rfl) <| SR.q' (r_mv (v := .bool _) rfl) <| SR.splitN (fun h13 => ?_) (fun h13 => ?_)
        · refine SR.s' rfl <| SR.s' rfl <| SR.s' rfl <| SR.s' rfl <| SR.q' (r_pick true rfl (v := .bool true) rfl) <| SR.nil ?_
          exact ⟨_, rfl, ⟨⟨rfl, rfl, rfl, (eDT ((jmf h13).1 trivial)), trivial⟩, (hk10), hq8⟩⟩
        · refine SR.g' rfl (r_mv (v := str _) rfl) <| SR.g' rfl (r_mv (v := .int .i64 _) rfl) <| SR.g' rfl (r_idxS (i := k) und9 rfl rfl rfl (by first | omega | (simp only [List.length_append, List.length_cons, List.length_nil, List.length_take, List.length_drop]; omega) | (simp only [List.length_append, List.length_cons, List.length_nil, List.length_take, List.length_drop] at *; omega))) <| SR.g' rfl (r_eq rfl rfl) <| SR.q' (r_pick false rfl (v := .bool _) rfl) <| SR.nil ?_
          exact ⟨_, rfl, ⟨⟨rfl, rfl, rfl, (eDD (jmt h13)), trivial⟩, (hk10), hq8⟩⟩
      rintro f14 w15 ⟨hat16, hk17, hq18⟩
      rw [← sets_of_at hat16]
      have hz19 := hk17.size
      have hB20 := hB4.lo hk17
      refine W.cond_d rfl (fun h21 => ?_) (fun h21 => ?_)
      · refine W.seq ?_
        refine W.regS (SR.q' (r_as (v := .bool false) rfl) <| SR.nil ?_)
        refine W.ret ?_
        refine ret1 rfl (v := .bool _) rfl ?_
        exact ⟨eR (eDF (z_c_spec_l33Plain_22 s m hp0 k hi6 h7 hq18 h21)), hB20⟩
      · have hq23 : 32 ≤ ((gt s k).toNat : Int) ∧ ((gt s k).toNat : Int) ≤ 126 := (Classical.not_not.1 (not_or.1 h21).1)
        have hq24 : ¬ (((gt s k).toNat : Int) = 35) := (not_or.1 h21).2
        refine W.skip ?_
        refine W.regS (SR.q' (r_mv (v := .int .i64 _) rfl) <| SR.q' (r_add rfl rfl (by omega)) <| SR.q' (r_as (v := .int .i64 _) rfl) <| SR.nil ?_)
        refine ⟨k + 1, _, rfl, ⟨rfl, rfl, rfl, trivial⟩, ⟨hB20, ?_⟩, ?_⟩
        · exact (z_c_spec_l33Plain_25 s m hp0 k hi6 h7 hq18 h21 hq23 hq24)
        · exact (z_c_spec_l33Plain_26 s m hp0 k hi6 h7 hq18 h21 hq23 hq24)
    · refine W.exit (xin_here ?_)
      refine W.seq ?_
      refine W.regS (SR.q' (r_mv (v := str _) rfl) <| SR.q' (r_len_s und9 rfl) <| SR.q' (r_mv (v := .int .i64 _) rfl) <| SR.q' (r_le rfl rfl) <| SR.q' (r_as (v := .bool _) rfl) <| SR.nil ?_)
      refine W.ret ?_
      refine ret1 rfl (v := .bool _) rfl ?_
      exact ⟨eR (eDD (z_c_spec_l33Plain_27 s m hp0 k hi6 h7)), hB4⟩

theorem z_c_spec_l1Stands_1 (s : List UInt8) (c : UInt8) (hp0 : (s.length : Int) ≤ 281474976710656) : 0 ≤ s.length ∧ ∀ j, j < 0 → ¬ gt s j = c := by
  exact ⟨Nat.zero_le _, fun _ h => absurd h (by omega)⟩
theorem z_c_spec_l1Stands_10 (s : List UInt8) (c : UInt8) (hp0 : (s.length : Int) ≤ 281474976710656) (k : Nat) (hi6 : k ≤ s.length ∧ ∀ j, j < k → ¬ gt s j = c) (h7 : (k : Int) < (s.length : Int)) (hq8 : ((gt s k).toNat : Int) ≤ 255) (h9 : ((gt s k).toNat : Int) = (c.toNat : Int)) : c ∈ s := by
  first | exact stands_yes (k := k) (by omega) (u8_eq.1 ‹_›) | exact stands_no (And.right ‹_ ∧ ∀ _, _›) (by omega)
theorem z_c_spec_l1Stands_11 (s : List UInt8) (c : UInt8) (hp0 : (s.length : Int) ≤ 281474976710656) (k : Nat) (hi6 : k ≤ s.length ∧ ∀ j, j < k → ¬ gt s j = c) (h7 : (k : Int) < (s.length : Int)) (hq8 : ((gt s k).toNat : Int) ≤ 255) (h9 : ¬ (((gt s k).toNat : Int) = (c.toNat : Int))) : k + 1 ≤ s.length ∧ ∀ j, j < (k + 1) → ¬ gt s j = c := by
  exact ⟨by omega, none_next (And.right ‹_ ∧ ∀ _, _›) (fun e => ‹¬ _› (u8_eq.2 e))⟩
theorem z_c_spec_l1Stands_12 (s : List UInt8) (c : UInt8) (hp0 : (s.length : Int) ≤ 281474976710656) (k : Nat) (hi6 : k ≤ s.length ∧ ∀ j, j < k → ¬ gt s j = c) (h7 : (k : Int) < (s.length : Int)) (hq8 : ((gt s k).toNat : Int) ≤ 255) (h9 : ¬ (((gt s k).toNat : Int) = (c.toNat : Int))) : s.length - (k + 1) < s.length - k := by
  omega
theorem z_c_spec_l1Stands_13 (s : List UInt8) (c : UInt8) (hp0 : (s.length : Int) ≤ 281474976710656) (k : Nat) (hi6 : k ≤ s.length ∧ ∀ j, j < k → ¬ gt s j = c) (h7 : ¬ ((k : Int) < (s.length : Int))) : ¬ (c ∈ s) := by
  first | exact stands_yes (k := k) (by omega) (u8_eq.1 ‹_›) | exact stands_no (And.right ‹_ ∧ ∀ _, _›) (by omega)
theorem c_spec_l1Stands (w : World) (s : List UInt8) (c : UInt8) (hp0 : (s.length : Int) ≤ 281474976710656) : Calls Try.prog 13 #[str s, .int .u8 (c.toNat : Int)] w fun e w' => e = .returned (.bool (decide (c ∈ s))) ∧ Lo w w' := by
  refine calls_W 17 Try.func13 rfl rfl rfl ?_
  refine W.seq ?_
  refine W.regS (SR.q' (r_as (v := .bool false) rfl) <| SR.nil ?_)
  refine W.seq ?_
  refine W.seq ?_
  refine W.regS (SR.q' (r_as (v := .int .i64 0) rfl) <| SR.nil ?_)
  refine W.block ?_
  refine W.loop (σ := Nat) (fun g => [(0, str s), (1, .int .u8 (c.toNat : Int)), (5, .int .i64 (g : Int))]) (fun g w' => (Lo w w') ∧ (g ≤ s.length ∧ ∀ j, j < g → ¬ gt s j = c)) (fun g => s.length - g) 0 ?_ ?_ ?_
  · exact ⟨rfl, rfl, rfl, trivial⟩
  · exact ⟨(Lo.refl w), (z_c_spec_l1Stands_1 s c hp0)⟩
  · rintro k f2 w3 hP5
    obtain ⟨hB4, hi6⟩ : (Lo w w3) ∧ (k ≤ s.length ∧ ∀ j, j < k → ¬ gt s j = c) := hP5
    refine (?_ : W _ _ _ _ _ (act _ (sets f2 [(0, str s), (1, .int .u8 (c.toNat : Int)), (5, .int .i64 (k : Int))])) _)
    have hzw3 := hB4.size
    refine W.seq ?_
    refine W.seq ?_
    refine W.regS (SR.q' (r_mv (v := .int .i64 _) rfl) <| SR.q' (r_mv (v := str _) rfl) <| SR.q' (r_len_s und9 rfl) <| SR.q' (r_lt rfl rfl) <| SR.nil ?_)
    refine W.cond_d rfl (fun h7 => ?_) (fun h7 => ?_)
    · refine W.skip ?_
      refine W.seq ?_
      refine W.block ?_
      refine W.seq ?_
      refine W.regS (SR.q' (r_mv (v := str _) rfl) <| SR.q' (r_mv (v := .int .i64 _) rfl) <| ?_)
      have hq8 := u8_le (gt s k)
      refine SR.q' (r_idxS (i := k) und9 rfl rfl rfl (by first | omega | (simp only [List.length_append, List.length_cons, List.length_nil, List.length_take, List.length_drop]; omega) | (simp only [List.length_append, List.length_cons, List.length_nil, List.length_take, List.length_drop] at *; omega))) <| SR.q' (r_mv (v := .int .u8 _) rfl) <| SR.q' (r_eq rfl rfl) <| SR.nil ?_
      refine W.cond_d rfl (fun h9 => ?_) (fun h9 => ?_)
      · refine W.seq ?_
        refine W.regS (SR.q' (r_as (v := .bool true) rfl) <| SR.nil ?_)
        refine W.ret ?_
        refine ret1 rfl (v := .bool _) rfl ?_
        exact ⟨eR (eDT (z_c_spec_l1Stands_10 s c hp0 k hi6 h7 hq8 h9)), hB4⟩
      · refine W.skip ?_
        refine W.regS (SR.q' (r_mv (v := .int .i64 _) rfl) <| SR.q' (r_add rfl rfl (by omega)) <| SR.q' (r_as (v := .int .i64 _) rfl) <| SR.nil ?_)
        refine ⟨k + 1, _, rfl, ⟨rfl, rfl, rfl, trivial⟩, ⟨hB4, ?_⟩, ?_⟩
        · exact (z_c_spec_l1Stands_11 s c hp0 k hi6 h7 hq8 h9)
        · exact (z_c_spec_l1Stands_12 s c hp0 k hi6 h7 hq8 h9)
    · refine W.exit (xin_here ?_)
      refine W.seq ?_
      refine W.regS (SR.q' (r_as (v := .bool false) rfl) <| SR.nil ?_)
      refine W.ret ?_
      refine ret1 rfl (v := .bool _) rfl ?_
      exact ⟨eR (eDF (z_c_spec_l1Stands_13 s c hp0 k hi6 h7)), hB4⟩

theorem z_c_spec_l33Good_30 (r : LogRecord) (hp0 : (r.Command.length : Int) ≤ 281474976710656 ∧ (r.Reply.length : Int) ≤ 281474976710656) : ((¬ (r.Command = ([] : List UInt8))) ∧ ((Plain r.Command ∧ (r.Command.length : Int) ≤ 160) ∧ ((¬ ((64 : UInt8) ∈ r.Command)) ∧ (Plain r.Reply ∧ (r.Reply.length : Int) ≤ 200)))) ↔ (RecOK r) := by
  exact good_iff r
theorem c_spec_l33Good (w : World) (r : LogRecord) (hp0 : (r.Command.length : Int) ≤ 281474976710656 ∧ (r.Reply.length : Int) ≤ 281474976710656) : Calls Try.prog 8 #[.agg (List.toArray (encLogRecord r))] w fun e w' => e = .returned (.bool (decide (RecOK r))) ∧ Lo w w' := by
  refine calls_W 22 Try.func8 rfl rfl rfl ?_
  refine W.seq ?_
  refine W.regS (SR.box (v := .agg (List.toArray _)) (l := [str r.Command, str r.Reply]) rfl rfl ?_)
  intro g1 w2 hg3 hk4 hs5 hb6
  have hz7 := hk4.size
  have hB8 := (Lo.refl w).lo hk4
  refine SR.q' (r_as (v := .bool false) rfl) <| SR.nil ?_
  refine W.seq ?_
  refine W.regJS (fun f' w' => At f' [(2, .bool (decide ((¬ (r.Command = ([] : List UInt8))) ∧ ((Plain r.Command ∧ (r.Command.length : Int) ≤ 160) ∧ ((¬ ((64 : UInt8) ∈ r.Command)) ∧ (Plain r.Reply ∧ (r.Reply.length : Int) ≤ 200))))))] ∧ Lo w2 w') ?_ ?_
  · refine SR.q' (r_fa fa26_0 rfl) <| SR.q' (r_ld (v := str r.Command) sca9 rfl ((hb6).cell rfl)) <| SR.q' (r_nes (s := r.Command) (r := ([] : List UInt8)) rfl rfl) <| SR.q' (r_mv (v := .bool _) rfl) <| SR.splitN (fun h9 => ?_) (fun h9 => ?_)
    · refine SR.g' rfl (r_fa fa26_0 rfl) <| SR.g' rfl (r_ld (v := str r.Command) sca9 rfl ((hb6).cell rfl)) <| SR.gcall rfl ent12 (c_spec_l33Plain w2 r.Command 160 (by first | omega | (simp only [List.length_append, List.length_cons, List.length_nil, List.length_take, List.length_drop]; omega))) rfl ?_
      rintro e w10 ⟨rfl, hk11⟩
      refine ⟨_, rfl, ?_⟩
      have hz12 := hk11.size
      have hB13 := hB8.lo hk11
      refine SR.q' (r_pick true rfl (v := .bool _) rfl) <| SR.q' (r_mv (v := .bool _) rfl) <| SR.splitD (fun h14 => ?_) (fun h14 => ?_)
      · refine SR.g' rfl (r_fa fa26_0 rfl) <| SR.g' rfl (r_ld (v := str r.Command) sca9 rfl (((hb6).lo hk11).cell rfl)) <| SR.gcall rfl ent13 (c_spec_l1Stands w10 r.Command (64 : UInt8) (by first | omega | (simp only [List.length_append, List.length_cons, List.length_nil, List.length_take, List.length_drop]; omega))) rfl ?_
        rintro e w15 ⟨rfl, hk16⟩
        refine ⟨_, rfl, ?_⟩
        have hz17 := hk16.size
        have hB18 := hB13.lo hk16
        refine SR.g' rfl (r_not rfl) <| SR.q' (r_pick true rfl (v := .bool _) rfl) <| SR.q' (r_mv (v := .bool _) rfl) <| SR.splitN (fun h19 => ?_) (fun h19 => ?_)
        · refine SR.g' rfl (r_fa fa26_1 rfl) <| SR.g' rfl (r_ld (v := str r.Reply) sca9 rfl ((((hb6).lo hk11).lo hk16).cell rfl)) <| SR.gcall rfl ent12 (c_spec_l33Plain w15 r.Reply 200 (by first | omega | (simp only [List.length_append, List.length_cons, List.length_nil, List.length_take, List.length_drop]; omega))) rfl ?_
          rintro e w20 ⟨rfl, hk21⟩
          refine ⟨_, rfl, ?_⟩
          have hz22 := hk21.size
          have hB23 := hB18.lo hk21
          refine SR.q' (r_pick true rfl (v := .bool _) rfl) <| SR.q' (r_as (v := .bool _) rfl) <| SR.nil ?_
          exact ⟨_, rfl, ⟨⟨(eDD (((jnf h19).trans (jat h14)).trans (jnf h9))), trivial⟩, (((hk11).trans hk16).trans hk21)⟩⟩
        · refine SR.s' rfl <| SR.s' rfl <| SR.s' rfl <| SR.q' (r_pick false rfl (v := .bool false) rfl) <| SR.q' (r_as (v := .bool _) rfl) <| SR.nil ?_
          exact ⟨_, rfl, ⟨⟨(eDF (((jnt h19).trans (jat h14)).trans (jnf h9)).2), trivial⟩, ((hk11).trans hk16)⟩⟩
      · refine SR.s' rfl <| SR.s' rfl <| SR.s' rfl <| SR.s' rfl <| SR.q' (r_pick false rfl (v := .bool false) rfl) <| SR.q' (r_mv (v := .bool _) rfl) <| SR.s' rfl <| SR.s' rfl <| SR.s' rfl <| SR.q' (r_pick false rfl (v := .bool false) rfl) <| SR.q' (r_as (v := .bool _) rfl) <| SR.nil ?_
        exact ⟨_, rfl, ⟨⟨(eDF ((jaf h14).trans (jnf h9)).2), trivial⟩, (hk11)⟩⟩
    · refine SR.s' rfl <| SR.s' rfl <| SR.s' rfl <| SR.q' (r_pick false rfl (v := .bool false) rfl) <| SR.q' (r_mv (v := .bool _) rfl) <| SR.s' rfl <| SR.s' rfl <| SR.s' rfl <| SR.s' rfl <| SR.q' (r_pick false rfl (v := .bool false) rfl) <| SR.q' (r_mv (v := .bool _) rfl) <| SR.s' rfl <| SR.s' rfl <| SR.s' rfl <| SR.q' (r_pick false rfl (v := .bool false) rfl) <| SR.q' (r_as (v := .bool _) rfl) <| SR.nil ?_
      exact ⟨_, rfl, ⟨⟨(eDF (jnt h9).2), trivial⟩, (Lo.refl _)⟩⟩
  rintro f24 w25 ⟨hat26, hk27⟩
  rw [← sets_of_at hat26]
  have hz28 := hk27.size
  have hB29 := hB8.lo hk27
  refine W.ret ?_
  refine ret1 rfl (v := .bool _) rfl ?_
  exact ⟨eR (eDD (z_c_spec_l33Good_30 r hp0)), hB29⟩

theorem z_c_laws_szLogRecord_10 (r : LogRecord) (left : Int) (hp0 : 0 ≤ left) (hp1 : left ≤ 1048576) (hp2 : (r.Command.length : Int) ≤ 9223372036854775807) (hp3 : (r.Reply.length : Int) ≤ 9223372036854775807) (h9 : (left - (r.Command.length : Int)) < 0) : (-1) = szN (r.Command.length + r.Reply.length) left := by
  first | exact szN_neg ‹_› | exact szN_neg1 ‹_› | exact szN_neg2 ‹_› ‹_› | exact szN_add ‹_› ‹_› | (unfold szN at *; repeat (split at *)) <;> omega
theorem z_c_laws_szLogRecord_12 (r : LogRecord) (left : Int) (hp0 : 0 ≤ left) (hp1 : left ≤ 1048576) (hp2 : (r.Command.length : Int) ≤ 9223372036854775807) (hp3 : (r.Reply.length : Int) ≤ 9223372036854775807) (h9 : ¬ ((left - (r.Command.length : Int)) < 0)) (h11 : ((left - (r.Command.length : Int)) - (r.Reply.length : Int)) < 0) : (-1) = szN (r.Command.length + r.Reply.length) left := by
  first | exact szN_neg ‹_› | exact szN_neg1 ‹_› | exact szN_neg2 ‹_› ‹_› | exact szN_add ‹_› ‹_› | (unfold szN at *; repeat (split at *)) <;> omega
theorem z_c_laws_szLogRecord_13 (r : LogRecord) (left : Int) (hp0 : 0 ≤ left) (hp1 : left ≤ 1048576) (hp2 : (r.Command.length : Int) ≤ 9223372036854775807) (hp3 : (r.Reply.length : Int) ≤ 9223372036854775807) (h9 : ¬ ((left - (r.Command.length : Int)) < 0)) (h11 : ¬ (((left - (r.Command.length : Int)) - (r.Reply.length : Int)) < 0)) : (left - (r.Command.length : Int)) - (r.Reply.length : Int) = szN (r.Command.length + r.Reply.length) left := by
  first | exact szN_neg ‹_› | exact szN_neg1 ‹_› | exact szN_neg2 ‹_› ‹_› | exact szN_add ‹_› ‹_› | (unfold szN at *; repeat (split at *)) <;> omega
theorem c_laws_szLogRecord (w : World) (r : LogRecord) (left : Int) (hp0 : 0 ≤ left) (hp1 : left ≤ 1048576) (hp2 : (r.Command.length : Int) ≤ 9223372036854775807) (hp3 : (r.Reply.length : Int) ≤ 9223372036854775807) : Calls Try.prog 4 #[.agg (List.toArray (encLogRecord r)), .int .i64 left] w fun e w' => e = .returned (.int .i64 (szN (r.Command.length + r.Reply.length) left)) ∧ Lo w w' := by
  refine calls_W 20 Try.func4 rfl rfl rfl ?_
  refine W.seq ?_
  refine W.regS (SR.box (v := .agg (List.toArray _)) (l := [str r.Command, str r.Reply]) rfl rfl ?_)
  intro g1 w2 hg3 hk4 hs5 hb6
  have hz7 := hk4.size
  have hB8 := (Lo.refl w).lo hk4
  refine SR.q' (r_as (v := .int .i64 0) rfl) <| SR.nil ?_
  refine W.seq ?_
  refine W.regS (SR.q' (r_mv (v := .int .i64 _) rfl) <| SR.q' (r_fa fa23_0 rfl) <| SR.q' (r_ld (v := str r.Command) sca9 rfl ((hb6).cell rfl)) <| SR.q' (r_len_s und9 rfl) <| SR.q' (r_sub rfl rfl (by omega)) <| SR.q' (r_as (v := .int .i64 _) rfl) <| SR.nil ?_)
  refine W.seq ?_
  refine W.seq ?_
  refine W.regS (SR.q' (r_mv (v := .int .i64 _) rfl) <| SR.q' (r_lt rfl rfl) <| SR.nil ?_)
  refine W.cond_d rfl (fun h9 => ?_) (fun h9 => ?_)
  · refine W.seq ?_
    refine W.regS (SR.q' (r_as (v := .int .i64 (-1)) rfl) <| SR.nil ?_)
    refine W.ret ?_
    refine ret1 rfl (v := .int .i64 _) rfl ?_
    exact ⟨eR (eI (z_c_laws_szLogRecord_10 r left hp0 hp1 hp2 hp3 h9)), hB8⟩
  · refine W.skip ?_
    refine W.seq ?_
    refine W.regS (SR.q' (r_mv (v := .int .i64 _) rfl) <| SR.q' (r_fa fa23_1 rfl) <| SR.q' (r_ld (v := str r.Reply) sca9 rfl ((hb6).cell rfl)) <| SR.q' (r_len_s und9 rfl) <| SR.q' (r_sub rfl rfl (by omega)) <| SR.q' (r_as (v := .int .i64 _) rfl) <| SR.nil ?_)
    refine W.seq ?_
    refine W.seq ?_
    refine W.regS (SR.q' (r_mv (v := .int .i64 _) rfl) <| SR.q' (r_lt rfl rfl) <| SR.nil ?_)
    refine W.cond_d rfl (fun h11 => ?_) (fun h11 => ?_)
    · refine W.seq ?_
      refine W.regS (SR.q' (r_as (v := .int .i64 (-1)) rfl) <| SR.nil ?_)
      refine W.ret ?_
      refine ret1 rfl (v := .int .i64 _) rfl ?_
      exact ⟨eR (eI (z_c_laws_szLogRecord_12 r left hp0 hp1 hp2 hp3 h9 h11)), hB8⟩
    · refine W.skip ?_
      refine W.seq ?_
      refine W.regS (SR.q' (r_mv (v := .int .i64 _) rfl) <| SR.q' (r_as (v := .int .i64 _) rfl) <| SR.nil ?_)
      refine W.ret ?_
      refine ret1 rfl (v := .int .i64 _) rfl ?_
      exact ⟨eR (eI (z_c_laws_szLogRecord_13 r left hp0 hp1 hp2 hp3 h9 h11)), hB8⟩

theorem z_c_laws_toLogRecord_43 (r : LogRecord) : ([str r.Command, str r.Reply] : List Value) = encLogRecord r := by
  first | rfl | (first | rfl | omega | grind)
theorem c_laws_toLogRecord (w : World) (r : LogRecord) : Calls Try.prog 6 #[.agg (List.toArray (encLogRecord r))] w fun e w' => e = .returned (.agg (List.toArray (encLogRecord r))) ∧ Lo w w' := by
  refine calls_W 11 Try.func6 rfl rfl rfl ?_
  refine W.seq ?_
  refine W.regS (SR.box (v := .agg (List.toArray _)) (l := [str r.Command, str r.Reply]) rfl rfl ?_)
  intro g1 w2 hg3 hk4 hs5 hb6
  have hz7 := hk4.size
  have hB8 := (Lo.refl w).lo hk4
  refine SR.alloc (l := [str ([] : List UInt8), str ([] : List UInt8)]) tz26 rfl ?_
  intro g9 w10 hg11 hk12 hs13 hb14
  have hz15 := hk12.size
  have hB16 := hB8.lo hk12
  refine SR.nil ?_
  refine W.seq ?_
  refine W.regS (SR.alloc (l := [str ([] : List UInt8), str ([] : List UInt8)]) tz26 rfl ?_)
  intro g17 w18 hg19 hk20 hs21 hb22
  have hz23 := hk20.size
  have hB24 := hB16.lo hk20
  refine SR.nil ?_
  refine W.seq ?_
  refine W.regS (SR.q' (r_fa fa23_0 rfl) <| SR.q' (r_ld (v := str r.Command) sca9 rfl ((((hb6).lo hk12).lo hk20).cell rfl)) <| SR.q' (r_fa fa26_0 rfl) <| SR.store (o := 0) (vs := [str r.Command]) sca9.2 rfl rfl rfl rfl (hb22) (Nat.le_of_ble_eq_true rfl) rfl ?_)
  intro w25 hk26 hs27 hb28
  have hz29 := hk26.size
  have hB30 := hB24.new hk26 (by omega)
  refine SR.nil ?_
  refine W.seq ?_
  refine W.regS (SR.q' (r_fa fa23_1 rfl) <| SR.q' (r_ld (v := str r.Reply) sca9 rfl (((((hb6).lo hk12).lo hk20).kp hk26 (fun e' => by have e'' : g1 = g17 := e'; omega)).cell rfl)) <| SR.q' (r_fa fa26_1 rfl) <| SR.store (o := 1) (vs := [str r.Reply]) sca9.2 rfl rfl rfl rfl (hb28) (Nat.le_of_ble_eq_true rfl) rfl ?_)
  intro w31 hk32 hs33 hb34
  have hz35 := hk32.size
  have hB36 := hB30.new hk32 (by omega)
  refine SR.nil ?_
  refine W.seq ?_
  refine W.regS (SR.q' (r_lda (l := [str r.Command, str r.Reply]) agg26 rfl (fun _ _ hu => (hb34).cell hu) rfl) <| SR.store (o := 0) (vs := [str r.Command, str r.Reply]) agg26.2 rfl rfl rfl rfl ((((hb14).lo hk20).kp hk26 (fun e' => by have e'' : g9 = g17 := e'; omega)).kp hk32 (fun e' => by have e'' : g9 = g17 := e'; omega)) (Nat.le_of_ble_eq_true rfl) rfl ?_)
  intro w37 hk38 hs39 hb40
  have hz41 := hk38.size
  have hB42 := hB36.new hk38 (by omega)
  refine SR.nil ?_
  refine W.ret ?_
  refine retC rfl rfl agg26 (hb40) rfl ?_
  exact ⟨eR (eA (z_c_laws_toLogRecord_43 r)), hB42⟩

theorem z_c_impl_IsValidRecord_35 (r : LogRecord) (hp0 : (r.Command.length : Int) ≤ 281474976710656 ∧ (r.Reply.length : Int) ≤ 281474976710656) : ((1 ≤ (r.Command.length : Int) ∧ (r.Command.length : Int) ≤ 160) ∧ (((r.Reply.length : Int) ≤ 200) ∧ ((Plain r.Command) ∧ ((Plain r.Reply) ∧ ((!(Lib.contains r.Command ([64] : List UInt8))) = true))))) ↔ (RecOK r) := by
  simp only [contains1, RecOK]; simp
theorem c_impl_IsValidRecord (w : World) (r : LogRecord) (hp0 : (r.Command.length : Int) ≤ 281474976710656 ∧ (r.Reply.length : Int) ≤ 281474976710656) : Calls Try.prog 7 #[.agg (List.toArray (encLogRecord r))] w fun e w' => e = .returned (.bool (decide (RecOK r))) ∧ Lo w w' := by
  refine calls_W 29 Try.func7 rfl rfl rfl ?_
  refine W.seq ?_
  refine W.regS (SR.box (v := .agg (List.toArray _)) (l := [str r.Command, str r.Reply]) rfl rfl ?_)
  intro g1 w2 hg3 hk4 hs5 hb6
  have hz7 := hk4.size
  have hB8 := (Lo.refl w).lo hk4
  refine SR.q' (r_as (v := .bool false) rfl) <| SR.nil ?_
  refine W.seq ?_
  refine W.regJS (fun f' w' => At f' [(2, .bool (decide ((1 ≤ (r.Command.length : Int) ∧ (r.Command.length : Int) ≤ 160) ∧ (((r.Reply.length : Int) ≤ 200) ∧ ((Plain r.Command) ∧ ((Plain r.Reply) ∧ ((!(Lib.contains r.Command ([64] : List UInt8))) = true)))))))] ∧ Lo w2 w') ?_ ?_
  · refine SR.q' (r_fa fa26_0 rfl) <| SR.q' (r_ld (v := str r.Command) sca9 rfl ((hb6).cell rfl)) <| SR.q' (r_len_s und9 rfl) <| SR.call ent9 (c_impl_within w2 (r.Command.length : Int) 1 160) rfl ?_
    rintro e w9 ⟨rfl, hk10⟩
    refine ⟨_, rfl, ?_⟩
    have hz11 := hk10.size
    have hB12 := hB8.lo hk10
    refine SR.q' (r_mv (v := .bool _) rfl) <| SR.splitD (fun h13 => ?_) (fun h13 => ?_)
    · refine SR.g' rfl (r_fa fa26_1 rfl) <| SR.g' rfl (r_ld (v := str r.Reply) sca9 rfl (((hb6).lo hk10).cell rfl)) <| SR.g' rfl (r_len_s und9 rfl) <| SR.g' rfl (r_le rfl rfl) <| SR.q' (r_pick true rfl (v := .bool _) rfl) <| SR.q' (r_mv (v := .bool _) rfl) <| SR.splitD (fun h14 => ?_) (fun h14 => ?_)
      · refine SR.g' rfl (r_fa fa26_0 rfl) <| SR.g' rfl (r_ld (v := str r.Command) sca9 rfl (((hb6).lo hk10).cell rfl)) <| SR.gcall rfl ent10 (c_impl_isPrinted w9 r.Command (by first | omega | (simp only [List.length_append, List.length_cons, List.length_nil, List.length_take, List.length_drop]; omega))) rfl ?_
        rintro e w15 ⟨rfl, hk16⟩
        refine ⟨_, rfl, ?_⟩
        have hz17 := hk16.size
        have hB18 := hB12.lo hk16
        refine SR.q' (r_pick true rfl (v := .bool _) rfl) <| SR.q' (r_mv (v := .bool _) rfl) <| SR.splitD (fun h19 => ?_) (fun h19 => ?_)
        · refine SR.g' rfl (r_fa fa26_1 rfl) <| SR.g' rfl (r_ld (v := str r.Reply) sca9 rfl ((((hb6).lo hk10).lo hk16).cell rfl)) <| SR.gcall rfl ent10 (c_impl_isPrinted w15 r.Reply (by first | omega | (simp only [List.length_append, List.length_cons, List.length_nil, List.length_take, List.length_drop]; omega))) rfl ?_
          rintro e w20 ⟨rfl, hk21⟩
          refine ⟨_, rfl, ?_⟩
          have hz22 := hk21.size
          have hB23 := hB18.lo hk21
          refine SR.q' (r_pick true rfl (v := .bool _) rfl) <| SR.q' (r_mv (v := .bool _) rfl) <| SR.splitD (fun h24 => ?_) (fun h24 => ?_)
          · refine SR.g' rfl (r_fa fa26_0 rfl) <| SR.g' rfl (r_ld (v := str r.Command) sca9 rfl (((((hb6).lo hk10).lo hk16).lo hk21).cell rfl)) <| SR.gcall rfl ent11 (c_strings_Contains w20 r.Command ([64] : List UInt8) (by rfl)) rfl ?_
            rintro e w25 ⟨rfl, hk26⟩
            refine ⟨_, rfl, ?_⟩
            have hz27 := hk26.size
            have hB28 := hB23.lo hk26
            refine SR.g' rfl (r_not rfl) <| SR.q' (r_pick true rfl (v := .bool _) rfl) <| SR.q' (r_as (v := .bool _) rfl) <| SR.nil ?_
            exact ⟨_, rfl, ⟨⟨(eBD ((((jat h24).trans (jat h19)).trans (jat h14)).trans (jat h13))), trivial⟩, ((((hk10).trans hk16).trans hk21).trans hk26)⟩⟩
          · refine SR.s' rfl <| SR.s' rfl <| SR.s' rfl <| SR.s' rfl <| SR.q' (r_pick false rfl (v := .bool false) rfl) <| SR.q' (r_as (v := .bool _) rfl) <| SR.nil ?_
            exact ⟨_, rfl, ⟨⟨(eDF ((((jaf h24).trans (jat h19)).trans (jat h14)).trans (jat h13)).2), trivial⟩, (((hk10).trans hk16).trans hk21)⟩⟩
        · refine SR.s' rfl <| SR.s' rfl <| SR.s' rfl <| SR.q' (r_pick false rfl (v := .bool false) rfl) <| SR.q' (r_mv (v := .bool _) rfl) <| SR.s' rfl <| SR.s' rfl <| SR.s' rfl <| SR.s' rfl <| SR.q' (r_pick false rfl (v := .bool false) rfl) <| SR.q' (r_as (v := .bool _) rfl) <| SR.nil ?_
          exact ⟨_, rfl, ⟨⟨(eDF (((jaf h19).trans (jat h14)).trans (jat h13)).2), trivial⟩, ((hk10).trans hk16)⟩⟩
      · refine SR.s' rfl <| SR.s' rfl <| SR.s' rfl <| SR.q' (r_pick false rfl (v := .bool false) rfl) <| SR.q' (r_mv (v := .bool _) rfl) <| SR.s' rfl <| SR.s' rfl <| SR.s' rfl <| SR.q' (r_pick false rfl (v := .bool false) rfl) <| SR.q' (r_mv (v := .bool _) rfl) <| SR.s' rfl <| SR.s' rfl <| SR.s' rfl <| SR.s' rfl <| SR.q' (r_pick false rfl (v := .bool false) rfl) <| SR.q' (r_as (v := .bool _) rfl) <| SR.nil ?_
        exact ⟨_, rfl, ⟨⟨(eDF ((jaf h14).trans (jat h13)).2), trivial⟩, (hk10)⟩⟩
    · refine SR.s' rfl <| SR.s' rfl <| SR.s' rfl <| SR.s' rfl <| SR.q' (r_pick false rfl (v := .bool false) rfl) <| SR.q' (r_mv (v := .bool _) rfl) <| SR.s' rfl <| SR.s' rfl <| SR.s' rfl <| SR.q' (r_pick false rfl (v := .bool false) rfl) <| SR.q' (r_mv (v := .bool _) rfl) <| SR.s' rfl <| SR.s' rfl <| SR.s' rfl <| SR.q' (r_pick false rfl (v := .bool false) rfl) <| SR.q' (r_mv (v := .bool _) rfl) <| SR.s' rfl <| SR.s' rfl <| SR.s' rfl <| SR.s' rfl <| SR.q' (r_pick false rfl (v := .bool false) rfl) <| SR.q' (r_as (v := .bool _) rfl) <| SR.nil ?_
      exact ⟨_, rfl, ⟨⟨(eDF (jaf h13).2), trivial⟩, (hk10)⟩⟩
  rintro f29 w30 ⟨hat31, hk32⟩
  rw [← sets_of_at hat31]
  have hz33 := hk32.size
  have hB34 := hB8.lo hk32
  refine W.ret ?_
  refine ret1 rfl (v := .bool _) rfl ?_
  exact ⟨eR (eDD (z_c_impl_IsValidRecord_35 r hp0)), hB34⟩

theorem c_spec_IsValidRecord (w : World) (r : LogRecord) (hp0 : (r.Command.length : Int) ≤ 281474976710656 ∧ (r.Reply.length : Int) ≤ 281474976710656) : Calls Try.prog 5 #[.agg (List.toArray (encLogRecord r))] w fun e w' => e = .returned (.bool (decide (RecOK r))) ∧ Lo w w' := by
  refine calls_W 5 Try.func5 rfl rfl rfl ?_
  refine W.seq ?_
  refine W.regS (SR.box (v := .agg (List.toArray _)) (l := [str r.Command, str r.Reply]) rfl rfl ?_)
  intro g1 w2 hg3 hk4 hs5 hb6
  have hz7 := hk4.size
  have hB8 := (Lo.refl w).lo hk4
  refine SR.q' (r_as (v := .bool false) rfl) <| SR.nil ?_
  refine W.seq ?_
  refine W.regS (SR.q' (r_lda (l := [str r.Command, str r.Reply]) agg26 rfl (fun _ _ hu => (hb6).cell hu) rfl) <| SR.call ent8 (c_spec_l33Good w2 r (by first | omega | (dsimp only; omega) | (dsimp only; simp only [List.length_drop]; omega))) rfl ?_)
  rintro e w9 ⟨rfl, hk10⟩
  refine ⟨_, rfl, ?_⟩
  have hz11 := hk10.size
  have hB12 := hB8.lo hk10
  refine SR.q' (r_as (v := .bool _) rfl) <| SR.nil ?_
  refine W.ret ?_
  refine ret1 rfl (v := .bool _) rfl ?_
  exact ⟨eR rfl, hB12⟩

theorem c_laws_FnExactIsValidRecord (w : World) (r : LogRecord) (hp0 : (r.Command.length : Int) ≤ 9223372036854775807 ∧ (r.Reply.length : Int) ≤ 9223372036854775807) : Calls Try.prog 3 #[.agg (List.toArray (encLogRecord r))] w fun e w' => e = .returned (.bool true) ∧ Lo w w' := by
  refine calls_W 20 Try.func3 rfl rfl rfl ?_
  refine W.seq ?_
  refine W.regS (SR.box (v := .agg (List.toArray _)) (l := [str r.Command, str r.Reply]) rfl rfl ?_)
  intro g1 w2 hg3 hk4 hs5 hb6
  have hz7 := hk4.size
  have hB8 := (Lo.refl w).lo hk4
  refine SR.q' (r_as (v := .bool false) rfl) <| SR.nil ?_
  refine W.seq ?_
  refine W.regS (SR.q' (r_as (v := .int .i64 1048576) rfl) <| SR.nil ?_)
  refine W.seq ?_
  refine W.regS (SR.q' (r_lda (l := [str r.Command, str r.Reply]) agg23 rfl (fun _ _ hu => (hb6).cell hu) rfl) <| SR.q' (r_mv (v := .int .i64 _) rfl) <| SR.call ent4 (c_laws_szLogRecord w2 r 1048576 (by omega) (by omega) (by omega) (by omega)) rfl ?_)
  rintro e w9 ⟨rfl, hk10⟩
  refine ⟨_, rfl, ?_⟩
  have hz11 := hk10.size
  have hB12 := hB8.lo hk10
  refine SR.q' (r_as (v := .int .i64 _) rfl) <| SR.nil ?_
  refine W.seq ?_
  refine W.seq ?_
  refine W.regS (SR.q' (r_mv (v := .int .i64 _) rfl) <| SR.q' (r_lt rfl rfl) <| SR.nil ?_)
  refine W.cond_d rfl (fun h13 => ?_) (fun h13 => ?_)
  · refine W.seq ?_
    refine W.regS (SR.q' (r_as (v := .bool true) rfl) <| SR.nil ?_)
    refine W.ret ?_
    refine ret1 rfl (v := .bool _) rfl ?_
    exact ⟨eR rfl, hB12⟩
  · have hq14 := szN_ok h13
    refine W.skip ?_
    refine W.seq ?_
    refine W.regS (SR.q' (r_lda (l := [str r.Command, str r.Reply]) agg23 rfl (fun _ _ hu => ((hb6).lo hk10).cell hu) rfl) <| SR.call ent6 (c_laws_toLogRecord w9 r) rfl ?_)
    rintro e w15 ⟨rfl, hk16⟩
    refine ⟨_, rfl, ?_⟩
    have hz17 := hk16.size
    have hB18 := hB12.lo hk16
    refine SR.call ent5 (c_spec_IsValidRecord w15 r (by omega)) rfl ?_
    rintro e w19 ⟨rfl, hk20⟩
    refine ⟨_, rfl, ?_⟩
    have hz21 := hk20.size
    have hB22 := hB18.lo hk20
    refine SR.q' (r_as (v := .bool _) rfl) <| SR.nil ?_
    refine W.seq ?_
    refine W.regS (SR.q' (r_lda (l := [str r.Command, str r.Reply]) agg23 rfl (fun _ _ hu => ((((hb6).lo hk10).lo hk16).lo hk20).cell hu) rfl) <| SR.call ent6 (c_laws_toLogRecord w19 r) rfl ?_)
    rintro e w23 ⟨rfl, hk24⟩
    refine ⟨_, rfl, ?_⟩
    have hz25 := hk24.size
    have hB26 := hB22.lo hk24
    refine SR.call ent7 (c_impl_IsValidRecord w23 r (by omega)) rfl ?_
    rintro e w27 ⟨rfl, hk28⟩
    refine ⟨_, rfl, ?_⟩
    have hz29 := hk28.size
    have hB30 := hB26.lo hk28
    refine SR.q' (r_as (v := .bool _) rfl) <| SR.nil ?_
    refine W.seq ?_
    refine W.seq ?_
    refine W.regS (SR.q' (r_mv (v := .bool _) rfl) <| SR.q' (r_mv (v := .bool _) rfl) <| SR.q' (r_neb_s und4 rfl rfl) <| SR.nil ?_)
    refine W.cond_f rfl ?_
    refine W.skip ?_
    refine W.seq ?_
    refine W.regS (SR.q' (r_as (v := .bool true) rfl) <| SR.nil ?_)
    refine W.ret ?_
    refine ret1 rfl (v := .bool _) rfl ?_
    exact ⟨eR rfl, hB30⟩
end Go.Proofs.Ythlbmkpkgiabnaa
