/- Walks, printed by a program of this claim's author. -/
import Derived.Test.YthgbcadgnihdiaaGreatDoorChecked
import Derived.Test.YthgbcadgnihdiaaGreatDoorRa
import Derived.Test.YthgbcadgnihdiaaGreatDoorFu
import Derived.Test.YthgbcadgnihdiaaGreatDoorFo
import Derived.Test.YthgbcadgnihdiaaGreatDoorFp
import Derived.Test.YthgbcadgnihdiaaGreatDoorFt
import Derived.Test.YthgbcadgnihdiaaGreatDoorFs
import Derived.Test.YthgbcadgnihdiaaGreatDoorFq
import Derived.Test.YthgbcadgnihdiaaGreatDoorRb
import Derived.Test.YthgbcadgnihdiaaGreatDoorG30
namespace Go.Proofs.YthgbcadgnihdiaaGreatDoor
open Go Go.RowKit Fw
set_option maxRecDepth 10000
set_option linter.unusedVariables false
theorem ent29 : Ent Tryz.prog 29 := ent_of Tryz.func29 (by decide +kernel) rfl
theorem ent32 : Ent Tryz.prog 32 := ent_of Tryz.func32 (by decide +kernel) rfl
theorem ent39 : Ent Tryz.prog 39 := ent_of Tryz.func39 (by decide +kernel) rfl
theorem ent44 : Ent Tryz.prog 44 := ent_of Tryz.func44 (by decide +kernel) rfl
theorem ent45 : Ent Tryz.prog 45 := ent_of Tryz.func45 (by decide +kernel) rfl
theorem ent63 : Ent Tryz.prog 63 := ent_of Tryz.func63 (by decide +kernel) rfl
theorem ent69 : Ent Tryz.prog 69 := ent_of Tryz.func69 (by decide +kernel) rfl

theorem z_c_spec_l30At_1 (L : List Visit) (nL : Nat) (hbdL : (nL : Int) ≤ 9223372036854775807) (hleL : nL = L.length) (r : Int) (m : Int) (hp0 : VsOK L) : 0 ≤ nL ∧ NoneTo (atV r m) L 0 := by
  exact ⟨Nat.zero_le _, NoneTo.zero⟩
theorem z_c_spec_l30At_18 (L : List Visit) (nL : Nat) (hbdL : (nL : Int) ≤ 9223372036854775807) (hleL : nL = L.length) (r : Int) (m : Int) (hp0 : VsOK L) (k : Nat) (hi7 : k ≤ nL ∧ NoneTo (atV r m) L k) (h8 : (k : Int) < (nL : Int)) (x9 : Visit) (hx10 : L[k]? = some x9) (hq11 : ((1 : Int) ≤ x9.Reader ∧ x9.Reader ≤ 999) ∧ ((1 : Int) ≤ x9.Seat ∧ x9.Seat ≤ 6) ∧ ((480 : Int) ≤ x9.From ∧ x9.From ≤ 1200) ∧ ((480 : Int) ≤ x9.Until ∧ x9.Until ≤ 1200) ∧ x9.From < x9.Until) (h12 : x9.Reader = r) (h17 : x9.From ≤ m ∧ m ≤ (x9.Until - 1)) : (k : Int) = idxF (atV r m) L := by
  first | exact idx_at (And.right ‹_ ∧ NoneTo _ L _›) ‹L[k]? = some _› (by unfold atV; simp_all; done) | exact idx_no (And.right ‹_ ∧ NoneTo _ L _›) hleL ‹_›
theorem z_c_spec_l30At_19 (L : List Visit) (nL : Nat) (hbdL : (nL : Int) ≤ 9223372036854775807) (hleL : nL = L.length) (r : Int) (m : Int) (hp0 : VsOK L) (k : Nat) (hi7 : k ≤ nL ∧ NoneTo (atV r m) L k) (h8 : (k : Int) < (nL : Int)) (x9 : Visit) (hx10 : L[k]? = some x9) (hq11 : ((1 : Int) ≤ x9.Reader ∧ x9.Reader ≤ 999) ∧ ((1 : Int) ≤ x9.Seat ∧ x9.Seat ≤ 6) ∧ ((480 : Int) ≤ x9.From ∧ x9.From ≤ 1200) ∧ ((480 : Int) ≤ x9.Until ∧ x9.Until ≤ 1200) ∧ x9.From < x9.Until) (h12 : x9.Reader = r) (h17 : ¬ (x9.From ≤ m ∧ m ≤ (x9.Until - 1))) : k + 1 ≤ nL ∧ NoneTo (atV r m) L (k + 1) := by
  exact ⟨by omega, NoneTo.next (And.right ‹_ ∧ NoneTo _ L _›) ‹L[k]? = some _› (by unfold atV; simp_all)⟩
theorem z_c_spec_l30At_20 (L : List Visit) (nL : Nat) (hbdL : (nL : Int) ≤ 9223372036854775807) (hleL : nL = L.length) (r : Int) (m : Int) (hp0 : VsOK L) (k : Nat) (hi7 : k ≤ nL ∧ NoneTo (atV r m) L k) (h8 : (k : Int) < (nL : Int)) (x9 : Visit) (hx10 : L[k]? = some x9) (hq11 : ((1 : Int) ≤ x9.Reader ∧ x9.Reader ≤ 999) ∧ ((1 : Int) ≤ x9.Seat ∧ x9.Seat ≤ 6) ∧ ((480 : Int) ≤ x9.From ∧ x9.From ≤ 1200) ∧ ((480 : Int) ≤ x9.Until ∧ x9.Until ≤ 1200) ∧ x9.From < x9.Until) (h12 : x9.Reader = r) (h17 : ¬ (x9.From ≤ m ∧ m ≤ (x9.Until - 1))) : nL - (k + 1) < nL - k := by
  omega
theorem z_c_spec_l30At_25 (L : List Visit) (nL : Nat) (hbdL : (nL : Int) ≤ 9223372036854775807) (hleL : nL = L.length) (r : Int) (m : Int) (hp0 : VsOK L) (k : Nat) (hi7 : k ≤ nL ∧ NoneTo (atV r m) L k) (h8 : (k : Int) < (nL : Int)) (x9 : Visit) (hx10 : L[k]? = some x9) (hq11 : ((1 : Int) ≤ x9.Reader ∧ x9.Reader ≤ 999) ∧ ((1 : Int) ≤ x9.Seat ∧ x9.Seat ≤ 6) ∧ ((480 : Int) ≤ x9.From ∧ x9.From ≤ 1200) ∧ ((480 : Int) ≤ x9.Until ∧ x9.Until ≤ 1200) ∧ x9.From < x9.Until) (h12 : ¬ (x9.Reader = r)) : k + 1 ≤ nL ∧ NoneTo (atV r m) L (k + 1) := by
  exact ⟨by omega, NoneTo.next (And.right ‹_ ∧ NoneTo _ L _›) ‹L[k]? = some _› (by unfold atV; simp_all)⟩
theorem z_c_spec_l30At_26 (L : List Visit) (nL : Nat) (hbdL : (nL : Int) ≤ 9223372036854775807) (hleL : nL = L.length) (r : Int) (m : Int) (hp0 : VsOK L) (k : Nat) (hi7 : k ≤ nL ∧ NoneTo (atV r m) L k) (h8 : (k : Int) < (nL : Int)) (x9 : Visit) (hx10 : L[k]? = some x9) (hq11 : ((1 : Int) ≤ x9.Reader ∧ x9.Reader ≤ 999) ∧ ((1 : Int) ≤ x9.Seat ∧ x9.Seat ≤ 6) ∧ ((480 : Int) ≤ x9.From ∧ x9.From ≤ 1200) ∧ ((480 : Int) ≤ x9.Until ∧ x9.Until ≤ 1200) ∧ x9.From < x9.Until) (h12 : ¬ (x9.Reader = r)) : nL - (k + 1) < nL - k := by
  omega
theorem z_c_spec_l30At_27 (L : List Visit) (nL : Nat) (hbdL : (nL : Int) ≤ 9223372036854775807) (hleL : nL = L.length) (r : Int) (m : Int) (hp0 : VsOK L) (k : Nat) (hi7 : k ≤ nL ∧ NoneTo (atV r m) L k) (h8 : ¬ ((k : Int) < (nL : Int))) : (-1) = idxF (atV r m) L := by
  first | exact idx_at (And.right ‹_ ∧ NoneTo _ L _›) ‹L[k]? = some _› (by unfold atV; simp_all; done) | exact idx_no (And.right ‹_ ∧ NoneTo _ L _›) hleL ‹_›
theorem c_spec_l30At (w : World) {AL : Option Addr} {nL cL BL : Nat}  (L : List Visit) (hL : SlR w BL encVisit 4 AL nL cL L) (r : Int) (m : Int) (hp0 : VsOK L) : Calls Tryz.prog 45 #[.slice AL nL cL, .int .i64 r, .int .i64 m] w fun e w' => e = .returned (.int .i64 (idxF (atV r m) L)) ∧ Lo w w' := by
  refine calls_W 37 Tryz.func45 rfl rfl rfl ?_
  have hbdL := hL.bound
  have hleL := hL.len
  have hBbL := hL.bd
  refine W.seq ?_
  refine W.regS (SR.q' (r_as (v := .int .i64 0) rfl) <| SR.nil ?_)
  refine W.seq ?_
  refine W.seq ?_
  refine W.regS (SR.q' (r_as (v := .int .i64 0) rfl) <| SR.nil ?_)
  refine W.block ?_
  refine W.loop (σ := Nat) (fun g => [(0, .slice AL nL cL), (1, .int .i64 r), (2, .int .i64 m), (7, .int .i64 (g : Int))]) (fun g w' => (Lo w w') ∧ (SlR w' BL encVisit 4 AL nL cL L) ∧ (g ≤ nL ∧ NoneTo (atV r m) L g)) (fun g => nL - g) 0 ?_ ?_ ?_
  · exact ⟨rfl, rfl, rfl, rfl, trivial⟩
  · exact ⟨(Lo.refl w), hL, (z_c_spec_l30At_1 L nL hbdL hleL r m hp0)⟩
  · rintro k f2 w3 hP5
    obtain ⟨hB4, hm6, hi7⟩ : (Lo w w3) ∧ (SlR w3 BL encVisit 4 AL nL cL L) ∧ (k ≤ nL ∧ NoneTo (atV r m) L k) := hP5
    refine (?_ : W _ _ _ _ _ (act _ (sets f2 [(0, .slice AL nL cL), (1, .int .i64 r), (2, .int .i64 m), (7, .int .i64 (k : Int))])) _)
    have hzw3 := hB4.size
    refine W.seq ?_
    refine W.seq ?_
    refine W.regS (SR.q' (r_mv (v := .int .i64 _) rfl) <| SR.q' (r_mv (v := .slice _ _ _) rfl) <| SR.q' (r_len und24 rfl) <| SR.q' (r_lt rfl rfl) <| SR.nil ?_)
    refine W.cond_d rfl (fun h8 => ?_) (fun h8 => ?_)
    · refine W.skip ?_
      refine W.seq ?_
      refine W.block ?_
      refine W.seq ?_
      refine W.regD mo (by kernel_rfl) (QR.q' (fun w' hw' => r_mv (v := .slice _ _ _) rfl) <| QR.q' (fun w' hw' => r_mv (v := .int .i64 _) rfl) <| ?_)
      obtain ⟨x9, hx10⟩ := (hm6).get (i := k) (by omega)
      have hq11 := vs_rng hp0 hx10
      refine QR.q' (fun w' hw' => r_ixR tsl24 (((hm6).lo hw')) rfl rfl (by omega)) <| QR.q' (fun w' hw' => r_fa fa45_0 rfl) <| QR.q' (fun w' hw' => r_ld (v := .int .i64 x9.Reader) sca3 rfl ((((hm6).lo hw')).cell hx10 rfl)) <| QR.q' (fun w' hw' => r_mv (v := .int .i64 _) rfl) <| QR.q' (fun w' hw' => r_eq rfl rfl) <| QR.q' (fun w' hw' => r_mv (v := .bool _) rfl) <| QR.splitD (fun h12 => ?_) (fun h12 => ?_)
      · refine QR.g' rfl (fun w' hw' => r_mv (v := .int .i64 _) rfl) <| QR.g' rfl (fun w' hw' => r_mv (v := .slice _ _ _) rfl) <| QR.g' rfl (fun w' hw' => r_mv (v := .int .i64 _) rfl) <| QR.g' rfl (fun w' hw' => r_ixR tsl24 (((hm6).lo hw')) rfl rfl (by omega)) <| QR.g' rfl (fun w' hw' => r_fa fa45_2 rfl) <| QR.g' rfl (fun w' hw' => r_ld (v := .int .i64 x9.From) sca3 rfl ((((hm6).lo hw')).cell hx10 rfl)) <| QR.g' rfl (fun w' hw' => r_mv (v := .slice _ _ _) rfl) <| QR.g' rfl (fun w' hw' => r_mv (v := .int .i64 _) rfl) <| QR.g' rfl (fun w' hw' => r_ixR tsl24 (((hm6).lo hw')) rfl rfl (by omega)) <| QR.g' rfl (fun w' hw' => r_fa fa45_3 rfl) <| QR.g' rfl (fun w' hw' => r_ld (v := .int .i64 x9.Until) sca3 rfl ((((hm6).lo hw')).cell hx10 rfl)) <| QR.g' rfl (fun w' hw' => r_sub rfl rfl (by omega)) <| QR.gcall rfl ent34 (fun w' hw' => (c_spec_l1In w' m x9.From (x9.Until - 1)).mono fun _ _ h => ⟨h.1, hw'.trans h.2⟩) rfl <| QR.q' (fun w' hw' => r_pick true rfl (v := .bool _) rfl) <| QR.nil ?_
        intro w13 hk14
        have hz15 := hk14.size
        have hB16 := hB4.lo hk14
        refine W.cond_d rfl (fun h17 => ?_) (fun h17 => ?_)
        · refine W.seq ?_
          refine W.regS (SR.q' (r_mv (v := .int .i64 _) rfl) <| SR.q' (r_as (v := .int .i64 _) rfl) <| SR.nil ?_)
          refine W.ret ?_
          refine ret1 rfl (v := .int .i64 _) rfl ?_
          exact ⟨eR (eI (z_c_spec_l30At_18 L nL hbdL hleL r m hp0 k hi7 h8 x9 hx10 hq11 h12 h17)), hB16⟩
        · refine W.skip ?_
          refine W.regS (SR.q' (r_mv (v := .int .i64 _) rfl) <| SR.q' (r_add rfl rfl (by omega)) <| SR.q' (r_as (v := .int .i64 _) rfl) <| SR.nil ?_)
          refine ⟨k + 1, _, rfl, ⟨rfl, rfl, rfl, rfl, trivial⟩, ⟨hB16, (hm6).lo hk14, ?_⟩, ?_⟩
          · exact (z_c_spec_l30At_19 L nL hbdL hleL r m hp0 k hi7 h8 x9 hx10 hq11 h12 h17)
          · exact (z_c_spec_l30At_20 L nL hbdL hleL r m hp0 k hi7 h8 x9 hx10 hq11 h12 h17)
      · refine QR.s' rfl <| QR.s' rfl <| QR.s' rfl <| QR.s' rfl <| QR.s' rfl <| QR.s' rfl <| QR.s' rfl <| QR.s' rfl <| QR.s' rfl <| QR.s' rfl <| QR.s' rfl <| QR.s' rfl <| QR.s' rfl <| QR.q' (fun w' hw' => r_pick false rfl (v := .bool false) rfl) <| QR.nil ?_
        intro w21 hk22
        have hz23 := hk22.size
        have hB24 := hB4.lo hk22
        refine W.cond_f rfl ?_
        refine W.skip ?_
        refine W.regS (SR.q' (r_mv (v := .int .i64 _) rfl) <| SR.q' (r_add rfl rfl (by omega)) <| SR.q' (r_as (v := .int .i64 _) rfl) <| SR.nil ?_)
        refine ⟨k + 1, _, rfl, ⟨rfl, rfl, rfl, rfl, trivial⟩, ⟨hB24, (hm6).lo hk22, ?_⟩, ?_⟩
        · exact (z_c_spec_l30At_25 L nL hbdL hleL r m hp0 k hi7 h8 x9 hx10 hq11 h12)
        · exact (z_c_spec_l30At_26 L nL hbdL hleL r m hp0 k hi7 h8 x9 hx10 hq11 h12)
    · refine W.exit (xin_here ?_)
      refine W.seq ?_
      refine W.regS (SR.q' (r_as (v := .int .i64 (-1)) rfl) <| SR.nil ?_)
      refine W.ret ?_
      refine ret1 rfl (v := .int .i64 _) rfl ?_
      exact ⟨eR (eI (z_c_spec_l30At_27 L nL hbdL hleL r m hp0 k hi7 h8)), hB4⟩

theorem z_c__impl_Visit__isIn_13 (v : Visit) (m : Int) : (v.From ≤ m ∧ m ≤ (IntKind.i64.wrap (v.Until - 1))) ↔ (v.From ≤ m ∧ m ≤ IntKind.i64.wrap (v.Until - 1)) := by
  first | rfl | omega | grind
theorem c__impl_Visit__isIn (w : World) (v : Visit) (m : Int) : Calls Tryz.prog 63 #[.agg (List.toArray (encVisit v)), .int .i64 m] w fun e w' => e = .returned (.bool (decide (v.From ≤ m ∧ m ≤ IntKind.i64.wrap (v.Until - 1)))) ∧ Lo w w' := by
  refine calls_W 12 Tryz.func63 rfl rfl rfl ?_
  refine W.seq ?_
  refine W.regS (SR.box (v := .agg (List.toArray _)) (l := [.int .i64 v.Reader, .int .i64 v.Seat, .int .i64 v.From, .int .i64 v.Until]) rfl rfl ?_)
  intro g1 w2 hg3 hk4 hs5 hb6
  have hz7 := hk4.size
  have hB8 := (Lo.refl w).lo hk4
  refine SR.q' (r_as (v := .bool false) rfl) <| SR.nil ?_
  refine W.seq ?_
  refine W.regS (SR.q' (r_mv (v := .int .i64 _) rfl) <| SR.q' (r_fa fa45_2 rfl) <| SR.q' (r_ld (v := .int .i64 v.From) sca3 rfl ((hb6).cell rfl)) <| SR.q' (r_fa fa45_3 rfl) <| SR.q' (r_ld (v := .int .i64 v.Until) sca3 rfl ((hb6).cell rfl)) <| SR.q' (r_subW rfl rfl) <| SR.call ent62 (c_impl_within w2 m v.From (IntKind.i64.wrap (v.Until - 1))) rfl ?_)
  rintro e w9 ⟨rfl, hk10⟩
  refine ⟨_, rfl, ?_⟩
  have hz11 := hk10.size
  have hB12 := hB8.lo hk10
  refine SR.q' (r_as (v := .bool _) rfl) <| SR.nil ?_
  refine W.ret ?_
  refine ret1 rfl (v := .bool _) rfl ?_
  exact ⟨eR (eDD (z_c__impl_Visit__isIn_13 v m)), hB12⟩

theorem z_c_impl_visitOf_1_14 (v : Visit) (r : Int) (m : Int) (h9 : v.Reader = r) : decide (v.From ≤ m ∧ m ≤ IntKind.i64.wrap (v.Until - 1)) = atW r m v := by
  unfold atW; simp_all
theorem z_c_impl_visitOf_1_15 (v : Visit) (r : Int) (m : Int) (h9 : ¬ (v.Reader = r)) : false = atW r m v := by
  unfold atW; simp_all
theorem c_impl_visitOf_1 (w : World) (v : Visit) {gr er : Nat} (r : Int) (hr : Blk w gr er [.int .i64 r]) {gm em : Nat} (m : Int) (hm : Blk w gm em [.int .i64 m]) : Calls Tryz.prog 69 #[.agg (List.toArray (encVisit v)), .pointer (some ⟨gr, 0, none⟩), .pointer (some ⟨gm, 0, none⟩)] w fun e w' => e = .returned (.bool (atW r m v)) ∧ Lo w w' := by
  refine calls_W 14 Tryz.func69 rfl rfl rfl ?_
  have hBlr := hr.lt
  have hBlm := hm.lt
  refine W.seq ?_
  refine W.regS (SR.box (v := .agg (List.toArray _)) (l := [.int .i64 v.Reader, .int .i64 v.Seat, .int .i64 v.From, .int .i64 v.Until]) rfl rfl ?_)
  intro g1 w2 hg3 hk4 hs5 hb6
  have hz7 := hk4.size
  have hB8 := (Lo.refl w).lo hk4
  refine SR.q' (r_as (v := .bool false) rfl) <| SR.nil ?_
  refine W.seq ?_
  refine W.regS (SR.q' (r_fa fa45_0 rfl) <| SR.q' (r_ld (v := .int .i64 v.Reader) sca3 rfl ((hb6).cell rfl)) <| SR.q' (r_ld (v := .int .i64 r) sca3 rfl (((hr).lo hk4).cell0.trans rfl)) <| SR.q' (r_eq rfl rfl) <| SR.q' (r_mv (v := .bool _) rfl) <| SR.splitD (fun h9 => ?_) (fun h9 => ?_))
  · refine SR.g' rfl (r_lda (l := [.int .i64 v.Reader, .int .i64 v.Seat, .int .i64 v.From, .int .i64 v.Until]) agg45 rfl (fun _ _ hu => (hb6).cell hu) rfl) <| SR.g' rfl (r_ld (v := .int .i64 m) sca3 rfl (((hm).lo hk4).cell0.trans rfl)) <| SR.gcall rfl ent63 (c__impl_Visit__isIn w2 v m) rfl ?_
    rintro e w10 ⟨rfl, hk11⟩
    refine ⟨_, rfl, ?_⟩
    have hz12 := hk11.size
    have hB13 := hB8.lo hk11
    refine SR.q' (r_pick true rfl (v := .bool _) rfl) <| SR.q' (r_as (v := .bool _) rfl) <| SR.nil ?_
    refine W.ret ?_
    refine ret1 rfl (v := .bool _) rfl ?_
    exact ⟨eR (eB (z_c_impl_visitOf_1_14 v r m h9)), hB13⟩
  · refine SR.s' rfl <| SR.s' rfl <| SR.s' rfl <| SR.q' (r_pick false rfl (v := .bool false) rfl) <| SR.q' (r_as (v := .bool _) rfl) <| SR.nil ?_
    refine W.ret ?_
    refine ret1 rfl (v := .bool _) rfl ?_
    exact ⟨eR (eB (z_c_impl_visitOf_1_15 v r m h9)), hB8⟩

theorem z_c_impl_visitOf_38 (L : List Visit) (nL : Nat) (hbdL : (nL : Int) ≤ 9223372036854775807) (hleL : nL = L.length) (r : Int) (m : Int) (hq21 : idxF (fun u_ : Visit => atW r m u_) L < (L.length : Int) ∧ -1 ≤ idxF (fun u_ : Visit => atW r m u_) L) (h26 : VsOK L) (hq27 : L.length ≤ 15) (h32 : 1 ≤ r ∧ r ≤ 999) (h37 : 480 ≤ m ∧ m ≤ 1200) : idxF (fun u_ : Visit => atW r m u_) L = idxF (atW r m) L := by
  rfl
theorem z_c_impl_visitOf_39 (L : List Visit) (nL : Nat) (hbdL : (nL : Int) ≤ 9223372036854775807) (hleL : nL = L.length) (r : Int) (m : Int) (hq21 : idxF (fun u_ : Visit => atW r m u_) L < (L.length : Int) ∧ -1 ≤ idxF (fun u_ : Visit => atW r m u_) L) (h26 : VsOK L) (hq27 : L.length ≤ 15) (h32 : 1 ≤ r ∧ r ≤ 999) (h37 : 480 ≤ m ∧ m ≤ 1200) : (0 ≤ (idxF (fun u_ : Visit => atW r m u_) L)) ↔ (VsOK L ∧ (1 ≤ r ∧ r ≤ 999) ∧ (480 ≤ m ∧ m ≤ 1200) ∧ 0 ≤ idxF (atW r m) L) := by
  first | (simp_all; done) | (simp_all; omega)
theorem z_c_impl_visitOf_40 (L : List Visit) (nL : Nat) (hbdL : (nL : Int) ≤ 9223372036854775807) (hleL : nL = L.length) (r : Int) (m : Int) (hq21 : idxF (fun u_ : Visit => atW r m u_) L < (L.length : Int) ∧ -1 ≤ idxF (fun u_ : Visit => atW r m u_) L) (h26 : VsOK L) (hq27 : L.length ≤ 15) (h32 : 1 ≤ r ∧ r ≤ 999) (h37 : ¬ (480 ≤ m ∧ m ≤ 1200)) : idxF (fun u_ : Visit => atW r m u_) L = idxF (atW r m) L := by
  rfl
theorem z_c_impl_visitOf_41 (L : List Visit) (nL : Nat) (hbdL : (nL : Int) ≤ 9223372036854775807) (hleL : nL = L.length) (r : Int) (m : Int) (hq21 : idxF (fun u_ : Visit => atW r m u_) L < (L.length : Int) ∧ -1 ≤ idxF (fun u_ : Visit => atW r m u_) L) (h26 : VsOK L) (hq27 : L.length ≤ 15) (h32 : 1 ≤ r ∧ r ≤ 999) (h37 : ¬ (480 ≤ m ∧ m ≤ 1200)) : ¬ (VsOK L ∧ (1 ≤ r ∧ r ≤ 999) ∧ (480 ≤ m ∧ m ≤ 1200) ∧ 0 ≤ idxF (atW r m) L) := by
  first | (simp_all; done) | (simp_all; omega)
theorem z_c_impl_visitOf_42 (L : List Visit) (nL : Nat) (hbdL : (nL : Int) ≤ 9223372036854775807) (hleL : nL = L.length) (r : Int) (m : Int) (hq21 : idxF (fun u_ : Visit => atW r m u_) L < (L.length : Int) ∧ -1 ≤ idxF (fun u_ : Visit => atW r m u_) L) (h26 : VsOK L) (hq27 : L.length ≤ 15) (h32 : ¬ (1 ≤ r ∧ r ≤ 999)) : idxF (fun u_ : Visit => atW r m u_) L = idxF (atW r m) L := by
  rfl
theorem z_c_impl_visitOf_43 (L : List Visit) (nL : Nat) (hbdL : (nL : Int) ≤ 9223372036854775807) (hleL : nL = L.length) (r : Int) (m : Int) (hq21 : idxF (fun u_ : Visit => atW r m u_) L < (L.length : Int) ∧ -1 ≤ idxF (fun u_ : Visit => atW r m u_) L) (h26 : VsOK L) (hq27 : L.length ≤ 15) (h32 : ¬ (1 ≤ r ∧ r ≤ 999)) : ¬ (VsOK L ∧ (1 ≤ r ∧ r ≤ 999) ∧ (480 ≤ m ∧ m ≤ 1200) ∧ 0 ≤ idxF (atW r m) L) := by
  first | (simp_all; done) | (simp_all; omega)
theorem z_c_impl_visitOf_44 (L : List Visit) (nL : Nat) (hbdL : (nL : Int) ≤ 9223372036854775807) (hleL : nL = L.length) (r : Int) (m : Int) (hq21 : idxF (fun u_ : Visit => atW r m u_) L < (L.length : Int) ∧ -1 ≤ idxF (fun u_ : Visit => atW r m u_) L) (h26 : ¬ (VsOK L)) : idxF (fun u_ : Visit => atW r m u_) L = idxF (atW r m) L := by
  rfl
theorem z_c_impl_visitOf_45 (L : List Visit) (nL : Nat) (hbdL : (nL : Int) ≤ 9223372036854775807) (hleL : nL = L.length) (r : Int) (m : Int) (hq21 : idxF (fun u_ : Visit => atW r m u_) L < (L.length : Int) ∧ -1 ≤ idxF (fun u_ : Visit => atW r m u_) L) (h26 : ¬ (VsOK L)) : ¬ (VsOK L ∧ (1 ≤ r ∧ r ≤ 999) ∧ (480 ≤ m ∧ m ≤ 1200) ∧ 0 ≤ idxF (atW r m) L) := by
  first | (simp_all; done) | (simp_all; omega)
theorem c_impl_visitOf (w : World) {AL : Option Addr} {nL cL BL : Nat}  (L : List Visit) (hL : SlR w BL encVisit 4 AL nL cL L) (r : Int) (m : Int) : Calls Tryz.prog 44 #[.slice AL nL cL, .int .i64 r, .int .i64 m] w fun e w' => e = .returned (.tuple (List.toArray [.int .i64 (idxF (atW r m) L), .bool (decide (VsOK L ∧ (1 ≤ r ∧ r ≤ 999) ∧ (480 ≤ m ∧ m ≤ 1200) ∧ 0 ≤ idxF (atW r m) L))])) ∧ Lo w w' := by
  refine calls_W 27 Tryz.func44 rfl rfl rfl ?_
  have hbdL := hL.bound
  have hleL := hL.len
  have hBbL := hL.bd
  refine W.seq ?_
  refine W.regS (SR.box (v := .int .i64 _) (l := [.int .i64 r]) rfl rfl ?_)
  intro g1 w2 hg3 hk4 hs5 hb6
  have hz7 := hk4.size
  have hB8 := (Lo.refl w).lo hk4
  refine SR.box (v := .int .i64 _) (l := [.int .i64 m]) rfl rfl ?_
  intro g9 w10 hg11 hk12 hs13 hb14
  have hz15 := hk12.size
  have hB16 := hB8.lo hk12
  refine SR.q' (r_as (v := .int .i64 0) rfl) <| SR.q' (r_as (v := .bool false) rfl) <| SR.nil ?_
  refine W.seq ?_
  refine W.regS (SR.q' (r_mv (v := .slice _ _ _) rfl) <| SR.q' (r_mkf rfl rfl) <| SR.call ent68 (c_slices_IndexFunc___impl_Visit_impl_Visit_ w10 L ((((hL).lo hk4).lo hk12)) (fun u_ : Visit => atW r m u_) ⟨ent69, fun w'' hw'' x => (c_impl_visitOf_1 w'' x r ((((hb6).lo hk12)).lo hw'') m (((hb14)).lo hw'')).mono fun _ _ h => ⟨h.1, h.2⟩⟩) rfl ?_)
  rintro e w17 ⟨rfl, hk18⟩
  refine ⟨_, rfl, ?_⟩
  have hz19 := hk18.size
  have hB20 := hB16.lo hk18
  have hq21 : idxF (fun u_ : Visit => atW r m u_) L < (L.length : Int) ∧ -1 ≤ idxF (fun u_ : Visit => atW r m u_) L := idx_lt
  refine SR.q' (r_as (v := .int .i64 _) rfl) <| SR.nil ?_
  refine W.seq ?_
  refine W.regS (SR.q' (r_mv (v := .int .i64 _) rfl) <| SR.q' (r_mv (v := .slice _ _ _) rfl) <| SR.call ent29 (c_impl_AreVisits w17 L (((((hL).lo hk4).lo hk12).lo hk18))) rfl ?_)
  rintro e w22 ⟨rfl, hk23⟩
  refine ⟨_, rfl, ?_⟩
  have hz24 := hk23.size
  have hB25 := hB20.lo hk23
  refine SR.q' (r_mv (v := .bool _) rfl) <| SR.splitD (fun h26 => ?_) (fun h26 => ?_)
  · have hq27 := vs_len h26
    refine SR.g' rfl (r_ld (v := .int .i64 r) sca3 rfl (((((hb6).lo hk12).lo hk18).lo hk23).cell0.trans rfl)) <| SR.gcall rfl ent46 (c_impl_isId w22 r) rfl ?_
    rintro e w28 ⟨rfl, hk29⟩
    refine ⟨_, rfl, ?_⟩
    have hz30 := hk29.size
    have hB31 := hB25.lo hk29
    refine SR.q' (r_pick true rfl (v := .bool _) rfl) <| SR.q' (r_mv (v := .bool _) rfl) <| SR.splitD (fun h32 => ?_) (fun h32 => ?_)
    · refine SR.g' rfl (r_ld (v := .int .i64 m) sca3 rfl (((((hb14).lo hk18).lo hk23).lo hk29).cell0.trans rfl)) <| SR.gcall rfl ent30 (c_impl_isMinute w28 m) rfl ?_
      rintro e w33 ⟨rfl, hk34⟩
      refine ⟨_, rfl, ?_⟩
      have hz35 := hk34.size
      have hB36 := hB31.lo hk34
      refine SR.q' (r_pick true rfl (v := .bool _) rfl) <| SR.q' (r_mv (v := .bool _) rfl) <| SR.splitD (fun h37 => ?_) (fun h37 => ?_)
      · refine SR.g' rfl (r_mv (v := .int .i64 _) rfl) <| SR.g' rfl (r_ge rfl rfl) <| SR.q' (r_pick true rfl (v := .bool _) rfl) <| SR.q' (r_as (v := .int .i64 _) rfl) <| SR.q' (r_as (v := .bool _) rfl) <| SR.nil ?_
        refine W.ret ?_
        refine ret2 rfl (v := .int .i64 _) (v' := .bool _) rfl rfl ?_
        exact ⟨eR (eT2 (eI (z_c_impl_visitOf_38 L nL hbdL hleL r m hq21 h26 hq27 h32 h37)) (eDD (z_c_impl_visitOf_39 L nL hbdL hleL r m hq21 h26 hq27 h32 h37))), hB36⟩
      · refine SR.s' rfl <| SR.s' rfl <| SR.q' (r_pick false rfl (v := .bool false) rfl) <| SR.q' (r_as (v := .int .i64 _) rfl) <| SR.q' (r_as (v := .bool _) rfl) <| SR.nil ?_
        refine W.ret ?_
        refine ret2 rfl (v := .int .i64 _) (v' := .bool _) rfl rfl ?_
        exact ⟨eR (eT2 (eI (z_c_impl_visitOf_40 L nL hbdL hleL r m hq21 h26 hq27 h32 h37)) (eDF (z_c_impl_visitOf_41 L nL hbdL hleL r m hq21 h26 hq27 h32 h37))), hB36⟩
    · refine SR.s' rfl <| SR.s' rfl <| SR.q' (r_pick false rfl (v := .bool false) rfl) <| SR.q' (r_mv (v := .bool _) rfl) <| SR.s' rfl <| SR.s' rfl <| SR.q' (r_pick false rfl (v := .bool false) rfl) <| SR.q' (r_as (v := .int .i64 _) rfl) <| SR.q' (r_as (v := .bool _) rfl) <| SR.nil ?_
      refine W.ret ?_
      refine ret2 rfl (v := .int .i64 _) (v' := .bool _) rfl rfl ?_
      exact ⟨eR (eT2 (eI (z_c_impl_visitOf_42 L nL hbdL hleL r m hq21 h26 hq27 h32)) (eDF (z_c_impl_visitOf_43 L nL hbdL hleL r m hq21 h26 hq27 h32))), hB31⟩
  · refine SR.s' rfl <| SR.s' rfl <| SR.q' (r_pick false rfl (v := .bool false) rfl) <| SR.q' (r_mv (v := .bool _) rfl) <| SR.s' rfl <| SR.s' rfl <| SR.q' (r_pick false rfl (v := .bool false) rfl) <| SR.q' (r_mv (v := .bool _) rfl) <| SR.s' rfl <| SR.s' rfl <| SR.q' (r_pick false rfl (v := .bool false) rfl) <| SR.q' (r_as (v := .int .i64 _) rfl) <| SR.q' (r_as (v := .bool _) rfl) <| SR.nil ?_
    refine W.ret ?_
    refine ret2 rfl (v := .int .i64 _) (v' := .bool _) rfl rfl ?_
    exact ⟨eR (eT2 (eI (z_c_impl_visitOf_44 L nL hbdL hleL r m hq21 h26)) (eDF (z_c_impl_visitOf_45 L nL hbdL hleL r m hq21 h26))), hB25⟩

theorem z_c_spec_ChangeSeat_13 (L : List Visit) (nL : Nat) (hbdL : (nL : Int) ≤ 9223372036854775807) (hleL : nL = L.length) (r : Int) (m : Int) (s : Int) (h5 : ¬ (VsOK L)) : ([] : List Visit) = (chg L r m s).getD [] := by
  first | (rw [show chg L r m s = none from by first | exact chg_no (fun h => absurd h.1 ‹_›) | exact chg_noW ‹_› at_rdr | exact chg_no (by omega) | exact chg_same ‹_› (by first | rfl | exact atW_eq ‹_› _ _) ‹_› | exact chg_bad ‹_› (by first | rfl | exact atW_eq ‹_› _ _) ‹_›]; rfl) | (rw [chg_yes ‹_› (by first | rfl | exact atW_eq ‹_› _ _) ⟨‹_›, by omega, by omega, by omega⟩ ‹_› ‹_›]; rfl)
theorem z_c_spec_ChangeSeat_14 (L : List Visit) (nL : Nat) (hbdL : (nL : Int) ≤ 9223372036854775807) (hleL : nL = L.length) (r : Int) (m : Int) (s : Int) (h5 : ¬ (VsOK L)) : false = (chg L r m s).isSome := by
  first | (rw [show chg L r m s = none from by first | exact chg_no (fun h => absurd h.1 ‹_›) | exact chg_noW ‹_› at_rdr | exact chg_no (by omega) | exact chg_same ‹_› (by first | rfl | exact atW_eq ‹_› _ _) ‹_› | exact chg_bad ‹_› (by first | rfl | exact atW_eq ‹_› _ _) ‹_›]; rfl) | (rw [chg_yes ‹_› (by first | rfl | exact atW_eq ‹_› _ _) ⟨‹_›, by omega, by omega, by omega⟩ ‹_› ‹_›]; rfl)
theorem z_c_spec_ChangeSeat_28 (L : List Visit) (nL : Nat) (hbdL : (nL : Int) ≤ 9223372036854775807) (hleL : nL = L.length) (r : Int) (m : Int) (s : Int) (h5 : VsOK L) (hq15 : L.length ≤ 15) (h20 : ¬ (480 ≤ m ∧ m ≤ 1200)) : ([] : List Visit) = (chg L r m s).getD [] := by
  first | (rw [show chg L r m s = none from by first | exact chg_no (fun h => absurd h.1 ‹_›) | exact chg_noW ‹_› at_rdr | exact chg_no (by omega) | exact chg_same ‹_› (by first | rfl | exact atW_eq ‹_› _ _) ‹_› | exact chg_bad ‹_› (by first | rfl | exact atW_eq ‹_› _ _) ‹_›]; rfl) | (rw [chg_yes ‹_› (by first | rfl | exact atW_eq ‹_› _ _) ⟨‹_›, by omega, by omega, by omega⟩ ‹_› ‹_›]; rfl)
theorem z_c_spec_ChangeSeat_29 (L : List Visit) (nL : Nat) (hbdL : (nL : Int) ≤ 9223372036854775807) (hleL : nL = L.length) (r : Int) (m : Int) (s : Int) (h5 : VsOK L) (hq15 : L.length ≤ 15) (h20 : ¬ (480 ≤ m ∧ m ≤ 1200)) : false = (chg L r m s).isSome := by
  first | (rw [show chg L r m s = none from by first | exact chg_no (fun h => absurd h.1 ‹_›) | exact chg_noW ‹_› at_rdr | exact chg_no (by omega) | exact chg_same ‹_› (by first | rfl | exact atW_eq ‹_› _ _) ‹_› | exact chg_bad ‹_› (by first | rfl | exact atW_eq ‹_› _ _) ‹_›]; rfl) | (rw [chg_yes ‹_› (by first | rfl | exact atW_eq ‹_› _ _) ⟨‹_›, by omega, by omega, by omega⟩ ‹_› ‹_›]; rfl)
theorem z_c_spec_ChangeSeat_43 (L : List Visit) (nL : Nat) (hbdL : (nL : Int) ≤ 9223372036854775807) (hleL : nL = L.length) (r : Int) (m : Int) (s : Int) (h5 : VsOK L) (hq15 : L.length ≤ 15) (h20 : 480 ≤ m ∧ m ≤ 1200) (hq34 : idxF (atV r m) L < (L.length : Int) ∧ -1 ≤ idxF (atV r m) L) (h35 : (idxF (atV r m) L) < 0) : ([] : List Visit) = (chg L r m s).getD [] := by
  first | (rw [show chg L r m s = none from by first | exact chg_no (fun h => absurd h.1 ‹_›) | exact chg_noW ‹_› at_rdr | exact chg_no (by omega) | exact chg_same ‹_› (by first | rfl | exact atW_eq ‹_› _ _) ‹_› | exact chg_bad ‹_› (by first | rfl | exact atW_eq ‹_› _ _) ‹_›]; rfl) | (rw [chg_yes ‹_› (by first | rfl | exact atW_eq ‹_› _ _) ⟨‹_›, by omega, by omega, by omega⟩ ‹_› ‹_›]; rfl)
theorem z_c_spec_ChangeSeat_44 (L : List Visit) (nL : Nat) (hbdL : (nL : Int) ≤ 9223372036854775807) (hleL : nL = L.length) (r : Int) (m : Int) (s : Int) (h5 : VsOK L) (hq15 : L.length ≤ 15) (h20 : 480 ≤ m ∧ m ≤ 1200) (hq34 : idxF (atV r m) L < (L.length : Int) ∧ -1 ≤ idxF (atV r m) L) (h35 : (idxF (atV r m) L) < 0) : false = (chg L r m s).isSome := by
  first | (rw [show chg L r m s = none from by first | exact chg_no (fun h => absurd h.1 ‹_›) | exact chg_noW ‹_› at_rdr | exact chg_no (by omega) | exact chg_same ‹_› (by first | rfl | exact atW_eq ‹_› _ _) ‹_› | exact chg_bad ‹_› (by first | rfl | exact atW_eq ‹_› _ _) ‹_›]; rfl) | (rw [chg_yes ‹_› (by first | rfl | exact atW_eq ‹_› _ _) ⟨‹_›, by omega, by omega, by omega⟩ ‹_› ‹_›]; rfl)
theorem z_c_spec_ChangeSeat_56 (L : List Visit) (nL : Nat) (hbdL : (nL : Int) ≤ 9223372036854775807) (hleL : nL = L.length) (r : Int) (m : Int) (s : Int) (h5 : VsOK L) (hq15 : L.length ≤ 15) (h20 : 480 ≤ m ∧ m ≤ 1200) (hq34 : idxF (atV r m) L < (L.length : Int) ∧ -1 ≤ idxF (atV r m) L) (h35 : ¬ ((idxF (atV r m) L) < 0)) (x45 : Visit) (hx46 : L[(idxF (atV r m) L).toNat]? = some x45) (hq47 : ((1 : Int) ≤ x45.Reader ∧ x45.Reader ≤ 999) ∧ ((1 : Int) ≤ x45.Seat ∧ x45.Seat ≤ 6) ∧ ((480 : Int) ≤ x45.From ∧ x45.From ≤ 1200) ∧ ((480 : Int) ≤ x45.Until ∧ x45.Until ≤ 1200) ∧ x45.From < x45.Until) (h48 : x45.Seat = s) : ([] : List Visit) = (chg L r m s).getD [] := by
  first | (rw [show chg L r m s = none from by first | exact chg_no (fun h => absurd h.1 ‹_›) | exact chg_noW ‹_› at_rdr | exact chg_no (by omega) | exact chg_same ‹_› (by first | rfl | exact atW_eq ‹_› _ _) ‹_› | exact chg_bad ‹_› (by first | rfl | exact atW_eq ‹_› _ _) ‹_›]; rfl) | (rw [chg_yes ‹_› (by first | rfl | exact atW_eq ‹_› _ _) ⟨‹_›, by omega, by omega, by omega⟩ ‹_› ‹_›]; rfl)
theorem z_c_spec_ChangeSeat_57 (L : List Visit) (nL : Nat) (hbdL : (nL : Int) ≤ 9223372036854775807) (hleL : nL = L.length) (r : Int) (m : Int) (s : Int) (h5 : VsOK L) (hq15 : L.length ≤ 15) (h20 : 480 ≤ m ∧ m ≤ 1200) (hq34 : idxF (atV r m) L < (L.length : Int) ∧ -1 ≤ idxF (atV r m) L) (h35 : ¬ ((idxF (atV r m) L) < 0)) (x45 : Visit) (hx46 : L[(idxF (atV r m) L).toNat]? = some x45) (hq47 : ((1 : Int) ≤ x45.Reader ∧ x45.Reader ≤ 999) ∧ ((1 : Int) ≤ x45.Seat ∧ x45.Seat ≤ 6) ∧ ((480 : Int) ≤ x45.From ∧ x45.From ≤ 1200) ∧ ((480 : Int) ≤ x45.Until ∧ x45.Until ≤ 1200) ∧ x45.From < x45.Until) (h48 : x45.Seat = s) : false = (chg L r m s).isSome := by
  first | (rw [show chg L r m s = none from by first | exact chg_no (fun h => absurd h.1 ‹_›) | exact chg_noW ‹_› at_rdr | exact chg_no (by omega) | exact chg_same ‹_› (by first | rfl | exact atW_eq ‹_› _ _) ‹_› | exact chg_bad ‹_› (by first | rfl | exact atW_eq ‹_› _ _) ‹_›]; rfl) | (rw [chg_yes ‹_› (by first | rfl | exact atW_eq ‹_› _ _) ⟨‹_›, by omega, by omega, by omega⟩ ‹_› ‹_›]; rfl)
theorem z_c_spec_ChangeSeat_114 (L : List Visit) (nL : Nat) (hbdL : (nL : Int) ≤ 9223372036854775807) (hleL : nL = L.length) (r : Int) (m : Int) (s : Int) (h5 : VsOK L) (hq15 : L.length ≤ 15) (h20 : 480 ≤ m ∧ m ≤ 1200) (hq34 : idxF (atV r m) L < (L.length : Int) ∧ -1 ≤ idxF (atV r m) L) (h35 : ¬ ((idxF (atV r m) L) < 0)) (x45 : Visit) (hx46 : L[(idxF (atV r m) L).toNat]? = some x45) (hq47 : ((1 : Int) ≤ x45.Reader ∧ x45.Reader ≤ 999) ∧ ((1 : Int) ≤ x45.Seat ∧ x45.Seat ≤ 6) ∧ ((480 : Int) ≤ x45.From ∧ x45.From ≤ 1200) ∧ ((480 : Int) ≤ x45.Until ∧ x45.Until ≤ 1200) ∧ x45.From < x45.Until) (h48 : ¬ (x45.Seat = s)) (h105 : ¬ (VsOK (L.set ((idxF (atV r m) L).toNat) (⟨x45.Reader, s, x45.From, x45.Until⟩ : Visit)))) : ([] : List Visit) = (chg L r m s).getD [] := by
  first | (rw [show chg L r m s = none from by first | exact chg_no (fun h => absurd h.1 ‹_›) | exact chg_noW ‹_› at_rdr | exact chg_no (by omega) | exact chg_same ‹_› (by first | rfl | exact atW_eq ‹_› _ _) ‹_› | exact chg_bad ‹_› (by first | rfl | exact atW_eq ‹_› _ _) ‹_›]; rfl) | (rw [chg_yes ‹_› (by first | rfl | exact atW_eq ‹_› _ _) ⟨‹_›, by omega, by omega, by omega⟩ ‹_› ‹_›]; rfl)
theorem z_c_spec_ChangeSeat_115 (L : List Visit) (nL : Nat) (hbdL : (nL : Int) ≤ 9223372036854775807) (hleL : nL = L.length) (r : Int) (m : Int) (s : Int) (h5 : VsOK L) (hq15 : L.length ≤ 15) (h20 : 480 ≤ m ∧ m ≤ 1200) (hq34 : idxF (atV r m) L < (L.length : Int) ∧ -1 ≤ idxF (atV r m) L) (h35 : ¬ ((idxF (atV r m) L) < 0)) (x45 : Visit) (hx46 : L[(idxF (atV r m) L).toNat]? = some x45) (hq47 : ((1 : Int) ≤ x45.Reader ∧ x45.Reader ≤ 999) ∧ ((1 : Int) ≤ x45.Seat ∧ x45.Seat ≤ 6) ∧ ((480 : Int) ≤ x45.From ∧ x45.From ≤ 1200) ∧ ((480 : Int) ≤ x45.Until ∧ x45.Until ≤ 1200) ∧ x45.From < x45.Until) (h48 : ¬ (x45.Seat = s)) (h105 : ¬ (VsOK (L.set ((idxF (atV r m) L).toNat) (⟨x45.Reader, s, x45.From, x45.Until⟩ : Visit)))) : false = (chg L r m s).isSome := by
  first | (rw [show chg L r m s = none from by first | exact chg_no (fun h => absurd h.1 ‹_›) | exact chg_noW ‹_› at_rdr | exact chg_no (by omega) | exact chg_same ‹_› (by first | rfl | exact atW_eq ‹_› _ _) ‹_› | exact chg_bad ‹_› (by first | rfl | exact atW_eq ‹_› _ _) ‹_›]; rfl) | (rw [chg_yes ‹_› (by first | rfl | exact atW_eq ‹_› _ _) ⟨‹_›, by omega, by omega, by omega⟩ ‹_› ‹_›]; rfl)
theorem z_c_spec_ChangeSeat_116 (L : List Visit) (nL : Nat) (hbdL : (nL : Int) ≤ 9223372036854775807) (hleL : nL = L.length) (r : Int) (m : Int) (s : Int) (h5 : VsOK L) (hq15 : L.length ≤ 15) (h20 : 480 ≤ m ∧ m ≤ 1200) (hq34 : idxF (atV r m) L < (L.length : Int) ∧ -1 ≤ idxF (atV r m) L) (h35 : ¬ ((idxF (atV r m) L) < 0)) (x45 : Visit) (hx46 : L[(idxF (atV r m) L).toNat]? = some x45) (hq47 : ((1 : Int) ≤ x45.Reader ∧ x45.Reader ≤ 999) ∧ ((1 : Int) ≤ x45.Seat ∧ x45.Seat ≤ 6) ∧ ((480 : Int) ≤ x45.From ∧ x45.From ≤ 1200) ∧ ((480 : Int) ≤ x45.Until ∧ x45.Until ≤ 1200) ∧ x45.From < x45.Until) (h48 : ¬ (x45.Seat = s)) (h105 : VsOK (L.set ((idxF (atV r m) L).toNat) (⟨x45.Reader, s, x45.From, x45.Until⟩ : Visit))) : L.set ((idxF (atV r m) L).toNat) (⟨x45.Reader, s, x45.From, x45.Until⟩ : Visit) = (chg L r m s).getD [] := by
  first | (rw [show chg L r m s = none from by first | exact chg_no (fun h => absurd h.1 ‹_›) | exact chg_noW ‹_› at_rdr | exact chg_no (by omega) | exact chg_same ‹_› (by first | rfl | exact atW_eq ‹_› _ _) ‹_› | exact chg_bad ‹_› (by first | rfl | exact atW_eq ‹_› _ _) ‹_›]; rfl) | (rw [chg_yes ‹_› (by first | rfl | exact atW_eq ‹_› _ _) ⟨‹_›, by omega, by omega, by omega⟩ ‹_› ‹_›]; rfl)
theorem z_c_spec_ChangeSeat_117 (L : List Visit) (nL : Nat) (hbdL : (nL : Int) ≤ 9223372036854775807) (hleL : nL = L.length) (r : Int) (m : Int) (s : Int) (h5 : VsOK L) (hq15 : L.length ≤ 15) (h20 : 480 ≤ m ∧ m ≤ 1200) (hq34 : idxF (atV r m) L < (L.length : Int) ∧ -1 ≤ idxF (atV r m) L) (h35 : ¬ ((idxF (atV r m) L) < 0)) (x45 : Visit) (hx46 : L[(idxF (atV r m) L).toNat]? = some x45) (hq47 : ((1 : Int) ≤ x45.Reader ∧ x45.Reader ≤ 999) ∧ ((1 : Int) ≤ x45.Seat ∧ x45.Seat ≤ 6) ∧ ((480 : Int) ≤ x45.From ∧ x45.From ≤ 1200) ∧ ((480 : Int) ≤ x45.Until ∧ x45.Until ≤ 1200) ∧ x45.From < x45.Until) (h48 : ¬ (x45.Seat = s)) (h105 : VsOK (L.set ((idxF (atV r m) L).toNat) (⟨x45.Reader, s, x45.From, x45.Until⟩ : Visit))) : true = (chg L r m s).isSome := by
  first | (rw [show chg L r m s = none from by first | exact chg_no (fun h => absurd h.1 ‹_›) | exact chg_noW ‹_› at_rdr | exact chg_no (by omega) | exact chg_same ‹_› (by first | rfl | exact atW_eq ‹_› _ _) ‹_› | exact chg_bad ‹_› (by first | rfl | exact atW_eq ‹_› _ _) ‹_›]; rfl) | (rw [chg_yes ‹_› (by first | rfl | exact atW_eq ‹_› _ _) ⟨‹_›, by omega, by omega, by omega⟩ ‹_› ‹_›]; rfl)
theorem c_spec_ChangeSeat (w : World) {AL : Option Addr} {nL cL BL : Nat}  (L : List Visit) (hL : SlR w BL encVisit 4 AL nL cL L) (r : Int) (m : Int) (s : Int) : Calls Tryz.prog 18 #[.slice AL nL cL, .int .i64 r, .int .i64 m, .int .i64 s] w fun e w' => ∃ (A1' : Option Addr) (n1' c1' : Nat), e = .returned (.tuple (List.toArray [.slice A1' n1' c1', .bool ((chg L r m s).isSome)])) ∧ SlO w' w.heap.size encVisit 4 45 A1' n1' c1' ((chg L r m s).getD []) ∧ Lo w w' := by
  refine calls_W 56 Tryz.func18 rfl rfl rfl ?_
  have hbdL := hL.bound
  have hleL := hL.len
  have hBbL := hL.bd
  refine W.seq ?_
  refine W.regS (SR.q' (r_as (v := .slice none 0 0) rfl) <| SR.q' (r_as (v := .bool false) rfl) <| SR.nil ?_)
  refine W.seq ?_
  refine W.seq ?_
  refine W.regS (SR.q' (r_mv (v := .slice _ _ _) rfl) <| SR.call ent32 (c_spec_l30Good w L ((hL))) rfl ?_)
  rintro e w1 ⟨rfl, hk2⟩
  refine ⟨_, rfl, ?_⟩
  have hz3 := hk2.size
  have hB4 := (Lo.refl w).lo hk2
  refine SR.q' (r_not rfl) <| SR.q' (r_mv (v := .bool _) rfl) <| SR.splitN (fun h5 => ?_) (fun h5 => ?_)
  · refine SR.s' rfl <| SR.s' rfl <| SR.s' rfl <| SR.q' (r_pick true rfl (v := .bool true) rfl) <| SR.nil ?_
    refine W.cond_t rfl ?_
    refine W.seq ?_
    refine W.regS (SR.lit (vs := []) (L := ([] : List Visit)) (enc := encVisit) tel24 (fun _ => rfl) rfl rfl rfl (by decide) ?_)
    intro g6 w7 hg8 hk9 hO10
    have hz11 := hk9.size
    have hB12 := hB4.lo hk9
    refine SR.q' (r_as (v := .slice _ _ _) rfl) <| SR.q' (r_as (v := .bool false) rfl) <| SR.nil ?_
    refine W.ret ?_
    refine ret2 rfl (v := .slice _ _ _) (v' := .bool _) rfl rfl ?_
    exact ⟨(some (⟨g6, 0, none⟩ : Addr)), 0, 0, eR (eT2 rfl (eB (z_c_spec_ChangeSeat_14 L nL hbdL hleL r m s h5))), (SlO.eqv ((hO10).down (by omega)) (z_c_spec_ChangeSeat_13 L nL hbdL hleL r m s h5)), hB12⟩
  · have hq15 := vs_len h5
    refine SR.g' rfl (r_mv (v := .int .i64 _) rfl) <| SR.gcall rfl ent33 (c_spec_l30Minute w1 m) rfl ?_
    rintro e w16 ⟨rfl, hk17⟩
    refine ⟨_, rfl, ?_⟩
    have hz18 := hk17.size
    have hB19 := hB4.lo hk17
    refine SR.g' rfl (r_not rfl) <| SR.q' (r_pick false rfl (v := .bool _) rfl) <| SR.nil ?_
    refine W.cond_n rfl (fun h20 => ?_) (fun h20 => ?_)
    · refine W.seq ?_
      refine W.regS (SR.lit (vs := []) (L := ([] : List Visit)) (enc := encVisit) tel24 (fun _ => rfl) rfl rfl rfl (by decide) ?_)
      intro g21 w22 hg23 hk24 hO25
      have hz26 := hk24.size
      have hB27 := hB19.lo hk24
      refine SR.q' (r_as (v := .slice _ _ _) rfl) <| SR.q' (r_as (v := .bool false) rfl) <| SR.nil ?_
      refine W.ret ?_
      refine ret2 rfl (v := .slice _ _ _) (v' := .bool _) rfl rfl ?_
      exact ⟨(some (⟨g21, 0, none⟩ : Addr)), 0, 0, eR (eT2 rfl (eB (z_c_spec_ChangeSeat_29 L nL hbdL hleL r m s h5 hq15 h20))), (SlO.eqv ((hO25).down (by omega)) (z_c_spec_ChangeSeat_28 L nL hbdL hleL r m s h5 hq15 h20)), hB27⟩
    · refine W.skip ?_
      refine W.seq ?_
      refine W.regS (SR.q' (r_mv (v := .slice _ _ _) rfl) <| SR.q' (r_mv (v := .int .i64 _) rfl) <| SR.q' (r_mv (v := .int .i64 _) rfl) <| SR.call ent45 (c_spec_l30At w16 L ((((hL).lo hk2).lo hk17)) r m (by assumption)) rfl ?_)
      rintro e w30 ⟨rfl, hk31⟩
      refine ⟨_, rfl, ?_⟩
      have hz32 := hk31.size
      have hB33 := hB19.lo hk31
      have hq34 : idxF (atV r m) L < (L.length : Int) ∧ -1 ≤ idxF (atV r m) L := idx_lt
      refine SR.q' (r_as (v := .int .i64 _) rfl) <| SR.nil ?_
      refine W.seq ?_
      refine W.seq ?_
      refine W.regS (SR.q' (r_mv (v := .int .i64 _) rfl) <| SR.q' (r_lt rfl rfl) <| SR.q' (r_mv (v := .bool _) rfl) <| SR.splitD (fun h35 => ?_) (fun h35 => ?_))
      · refine SR.s' rfl <| SR.s' rfl <| SR.s' rfl <| SR.s' rfl <| SR.s' rfl <| SR.s' rfl <| SR.s' rfl <| SR.q' (r_pick true rfl (v := .bool true) rfl) <| SR.nil ?_
        refine W.cond_t rfl ?_
        refine W.seq ?_
        refine W.regS (SR.lit (vs := []) (L := ([] : List Visit)) (enc := encVisit) tel24 (fun _ => rfl) rfl rfl rfl (by decide) ?_)
        intro g36 w37 hg38 hk39 hO40
        have hz41 := hk39.size
        have hB42 := hB33.lo hk39
        refine SR.q' (r_as (v := .slice _ _ _) rfl) <| SR.q' (r_as (v := .bool false) rfl) <| SR.nil ?_
        refine W.ret ?_
        refine ret2 rfl (v := .slice _ _ _) (v' := .bool _) rfl rfl ?_
        exact ⟨(some (⟨g36, 0, none⟩ : Addr)), 0, 0, eR (eT2 rfl (eB (z_c_spec_ChangeSeat_44 L nL hbdL hleL r m s h5 hq15 h20 hq34 h35))), (SlO.eqv ((hO40).down (by omega)) (z_c_spec_ChangeSeat_43 L nL hbdL hleL r m s h5 hq15 h20 hq34 h35)), hB42⟩
      · refine SR.g' rfl (r_mv (v := .slice _ _ _) rfl) <| SR.g' rfl (r_mv (v := .int .i64 _) rfl) <| ?_
        obtain ⟨x45, hx46⟩ := ((((hL).lo hk2).lo hk17).lo hk31).get (i := (idxF (atV r m) L).toNat) (by omega)
        have hq47 := vs_rng h5 hx46
        refine SR.g' rfl (r_ixR tsl24 ((((hL).lo hk2).lo hk17).lo hk31) rfl rfl (by omega)) <| SR.g' rfl (r_fa fa45_1 rfl) <| SR.g' rfl (r_ld (v := .int .i64 x45.Seat) sca3 rfl (((((hL).lo hk2).lo hk17).lo hk31).cell hx46 rfl)) <| SR.g' rfl (r_mv (v := .int .i64 _) rfl) <| SR.g' rfl (r_eq rfl rfl) <| SR.q' (r_pick false rfl (v := .bool _) rfl) <| SR.nil ?_
        refine W.cond_d rfl (fun h48 => ?_) (fun h48 => ?_)
        · refine W.seq ?_
          refine W.regS (SR.lit (vs := []) (L := ([] : List Visit)) (enc := encVisit) tel24 (fun _ => rfl) rfl rfl rfl (by decide) ?_)
          intro g49 w50 hg51 hk52 hO53
          have hz54 := hk52.size
          have hB55 := hB33.lo hk52
          refine SR.q' (r_as (v := .slice _ _ _) rfl) <| SR.q' (r_as (v := .bool false) rfl) <| SR.nil ?_
          refine W.ret ?_
          refine ret2 rfl (v := .slice _ _ _) (v' := .bool _) rfl rfl ?_
          exact ⟨(some (⟨g49, 0, none⟩ : Addr)), 0, 0, eR (eT2 rfl (eB (z_c_spec_ChangeSeat_57 L nL hbdL hleL r m s h5 hq15 h20 hq34 h35 x45 hx46 hq47 h48))), (SlO.eqv ((hO53).down (by omega)) (z_c_spec_ChangeSeat_56 L nL hbdL hleL r m s h5 hq15 h20 hq34 h35 x45 hx46 hq47 h48)), hB55⟩
        · refine W.skip ?_
          refine W.seq ?_
          refine W.regS (SR.lit (vs := []) (L := ([] : List Visit)) (enc := encVisit) tel24 (fun _ => rfl) rfl rfl rfl (by decide) ?_)
          intro g58 w59 hg60 hk61 hO62
          have hz63 := hk61.size
          have hB64 := hB33.lo hk61
          refine SR.q' (r_mv (v := .slice _ _ _) rfl) <| SR.app tel24 rfl rfl (hO62) (((((hL).lo hk2).lo hk17).lo hk31).lo hk61) (fun _ => rfl) (by omega) (by omega) ?_
          intro A65 c66 w67 hk68 hO69 hN70
          have hz71 := hk68.size
          have hB72 := hB64.step hk68 (fun i_ hi_ e' => by have := ((hO62)).base_le e'; first | omega | (exfalso; omega) | exact e' | exact .inl e' | exact .inr e')
          rw [List.nil_append] at hO69
          refine SR.q' (r_as (v := .slice _ _ _) rfl) <| SR.nil ?_
          refine W.seq ?_
          refine W.regS (SR.q' (r_mv (v := .slice _ _ _) rfl) <| SR.q' (r_mv (v := .int .i64 _) rfl) <| SR.q' (r_ixR tsl24 ((hO69).rd) rfl rfl (by omega)) <| SR.q' (r_lda (l := encVisit x45) agg45 rfl (fun _ _ hu => ((hO69).rd).cell hx46 hu) (((hO69).rd).esz _)) <| SR.alloc (l := [.int .i64 0, .int .i64 0, .int .i64 0, .int .i64 0]) tz45 rfl ?_)
          intro g73 w74 hg75 hk76 hs77 hb78
          have hz79 := hk76.size
          have hB80 := hB72.lo hk76
          have hd81 : ¬ A65 = some ⟨g73, 0, none⟩ := fun e' => by have := (hO69).base_le e'; omega
          refine SR.store (o := 0) (vs := [.int .i64 x45.Reader, .int .i64 x45.Seat, .int .i64 x45.From, .int .i64 x45.Until]) agg45.2 rfl rfl rfl rfl (hb78) (Nat.le_of_ble_eq_true rfl) rfl ?_
          intro w82 hk83 hs84 hb85
          have hz86 := hk83.size
          have hB87 := hB80.new hk83 (by omega)
          refine SR.nil ?_
          refine W.seq ?_
          refine W.regS (SR.q' (r_mv (v := .int .i64 _) rfl) <| SR.q' (r_fa fa45_1 rfl) <| SR.store (o := 1) (vs := [.int .i64 s]) sca3.2 rfl rfl rfl rfl (hb85) (Nat.le_of_ble_eq_true rfl) rfl ?_)
          intro w88 hk89 hs90 hb91
          have hz92 := hk89.size
          have hB93 := hB87.new hk89 (by omega)
          refine SR.nil ?_
          refine W.seq ?_
          refine W.regS (SR.q' (r_mv (v := .slice _ _ _) rfl) <| SR.q' (r_mv (v := .int .i64 _) rfl) <| SR.q' (r_lda (l := [.int .i64 x45.Reader, .int .i64 s, .int .i64 x45.From, .int .i64 x45.Until]) agg45 rfl (fun _ _ hu => (hb91).cell hu) rfl) <| SR.q' (r_ixR tsl24 (((((hO69).lo hk76).kd hk83 hd81).kd hk89 hd81).rd) rfl rfl (by omega)) <| SR.storeO (o := 0) (vs := [.int .i64 x45.Reader, .int .i64 s, .int .i64 x45.From, .int .i64 x45.Until]) (x1 := (⟨x45.Reader, s, x45.From, x45.Until⟩ : Visit)) agg45.2 rfl rfl rfl rfl ((((hO69).lo hk76).kd hk83 hd81).kd hk89 hd81) hx46 rfl (Nat.le_of_ble_eq_true rfl) rfl ?_)
          intro w94 hk95 hs96 hO97
          have hz98 := hk95.size
          have hB99 := hB93.step hk95 (fun i_ hi_ e' => by have := (((((hO69).lo hk76).kd hk83 hd81).kd hk89 hd81)).base_le e'; first | omega | (exfalso; omega) | exact e' | exact .inl e' | exact .inr e')
          have hx100 : (L.set ((idxF (atV r m) L).toNat) (⟨x45.Reader, s, x45.From, x45.Until⟩ : Visit))[(idxF (atV r m) L).toNat]? = some ((⟨x45.Reader, s, x45.From, x45.Until⟩ : Visit)) := List.getElem?_set_self (List.getElem?_eq_some_iff.1 hx46).1
          refine SR.nil ?_
          refine W.seq ?_
          refine W.seq ?_
          refine W.regS (SR.q' (r_mv (v := .slice _ _ _) rfl) <| SR.call ent32 (c_spec_l30Good w94 (L.set ((idxF (atV r m) L).toNat) (⟨x45.Reader, s, x45.From, x45.Until⟩ : Visit)) (((hO97).rd))) rfl ?_)
          rintro e w101 ⟨rfl, hk102⟩
          refine ⟨_, rfl, ?_⟩
          have hz103 := hk102.size
          have hB104 := hB99.lo hk102
          refine SR.q' (r_not rfl) <| SR.nil ?_
          refine W.cond_n rfl (fun h105 => ?_) (fun h105 => ?_)
          · refine W.seq ?_
            refine W.regS (SR.lit (vs := []) (L := ([] : List Visit)) (enc := encVisit) tel24 (fun _ => rfl) rfl rfl rfl (by decide) ?_)
            intro g106 w107 hg108 hk109 hO110
            have hz111 := hk109.size
            have hB112 := hB104.lo hk109
            have hd113 : ¬ A65 = some ⟨g106, 0, none⟩ := fun e' => by have := ((hO97).lo hk102).base_le e'; omega
            refine SR.q' (r_as (v := .slice _ _ _) rfl) <| SR.q' (r_as (v := .bool false) rfl) <| SR.nil ?_
            refine W.ret ?_
            refine ret2 rfl (v := .slice _ _ _) (v' := .bool _) rfl rfl ?_
            exact ⟨(some (⟨g106, 0, none⟩ : Addr)), 0, 0, eR (eT2 rfl (eB (z_c_spec_ChangeSeat_115 L nL hbdL hleL r m s h5 hq15 h20 hq34 h35 x45 hx46 hq47 h48 h105))), (SlO.eqv ((hO110).down (by omega)) (z_c_spec_ChangeSeat_114 L nL hbdL hleL r m s h5 hq15 h20 hq34 h35 x45 hx46 hq47 h48 h105)), hB112⟩
          · refine W.skip ?_
            refine W.seq ?_
            refine W.regS (SR.q' (r_mv (v := .slice _ _ _) rfl) <| SR.q' (r_as (v := .slice _ _ _) rfl) <| SR.q' (r_as (v := .bool true) rfl) <| SR.nil ?_)
            refine W.ret ?_
            refine ret2 rfl (v := .slice _ _ _) (v' := .bool _) rfl rfl ?_
            exact ⟨A65, 0 + nL, c66, eR (eT2 rfl (eB (z_c_spec_ChangeSeat_117 L nL hbdL hleL r m s h5 hq15 h20 hq34 h35 x45 hx46 hq47 h48 h105))), (SlO.eqv (((hO97).lo hk102).down (by omega)) (z_c_spec_ChangeSeat_116 L nL hbdL hleL r m s h5 hq15 h20 hq34 h35 x45 hx46 hq47 h48 h105)), hB104⟩

theorem z_c_impl_ChangeSeat_9 (L : List Visit) (nL : Nat) (hbdL : (nL : Int) ≤ 9223372036854775807) (hleL : nL = L.length) (r : Int) (m : Int) (s : Int) (hq5 : idxF (atW r m) L < (L.length : Int) ∧ -1 ≤ idxF (atW r m) L) (hq6 : VsOK L → idxF (atW r m) L = idxF (atV r m) L) (hq7 : VsOK L → 0 ≤ idxF (atV r m) L → 1 ≤ r ∧ r ≤ 999) (h8 : ¬ (VsOK L ∧ (1 ≤ r ∧ r ≤ 999) ∧ (480 ≤ m ∧ m ≤ 1200) ∧ 0 ≤ idxF (atW r m) L)) : ([] : List Visit) = (chg L r m s).getD [] := by
  first | (rw [show chg L r m s = none from by first | exact chg_no (fun h => absurd h.1 ‹_›) | exact chg_noW ‹_› at_rdr | exact chg_no (by omega) | exact chg_same ‹_› (by first | rfl | exact atW_eq ‹_› _ _) ‹_› | exact chg_bad ‹_› (by first | rfl | exact atW_eq ‹_› _ _) ‹_›]; rfl) | (rw [chg_yes ‹_› (by first | rfl | exact atW_eq ‹_› _ _) ⟨‹_›, by omega, by omega, by omega⟩ ‹_› ‹_›]; rfl)
theorem z_c_impl_ChangeSeat_10 (L : List Visit) (nL : Nat) (hbdL : (nL : Int) ≤ 9223372036854775807) (hleL : nL = L.length) (r : Int) (m : Int) (s : Int) (hq5 : idxF (atW r m) L < (L.length : Int) ∧ -1 ≤ idxF (atW r m) L) (hq6 : VsOK L → idxF (atW r m) L = idxF (atV r m) L) (hq7 : VsOK L → 0 ≤ idxF (atV r m) L → 1 ≤ r ∧ r ≤ 999) (h8 : ¬ (VsOK L ∧ (1 ≤ r ∧ r ≤ 999) ∧ (480 ≤ m ∧ m ≤ 1200) ∧ 0 ≤ idxF (atW r m) L)) : false = (chg L r m s).isSome := by
  first | (rw [show chg L r m s = none from by first | exact chg_no (fun h => absurd h.1 ‹_›) | exact chg_noW ‹_› at_rdr | exact chg_no (by omega) | exact chg_same ‹_› (by first | rfl | exact atW_eq ‹_› _ _) ‹_› | exact chg_bad ‹_› (by first | rfl | exact atW_eq ‹_› _ _) ‹_›]; rfl) | (rw [chg_yes ‹_› (by first | rfl | exact atW_eq ‹_› _ _) ⟨‹_›, by omega, by omega, by omega⟩ ‹_› ‹_›]; rfl)
theorem z_c_impl_ChangeSeat_17 (L : List Visit) (nL : Nat) (hbdL : (nL : Int) ≤ 9223372036854775807) (hleL : nL = L.length) (r : Int) (m : Int) (s : Int) (hq5 : idxF (atW r m) L < (L.length : Int) ∧ -1 ≤ idxF (atW r m) L) (hq6 : VsOK L → idxF (atW r m) L = idxF (atV r m) L) (hq7 : VsOK L → 0 ≤ idxF (atV r m) L → 1 ≤ r ∧ r ≤ 999) (h8 : VsOK L ∧ (1 ≤ r ∧ r ≤ 999) ∧ (480 ≤ m ∧ m ≤ 1200) ∧ 0 ≤ idxF (atW r m) L) (hq11 : VsOK L) (hq12 : L.length ≤ 15) (x13 : Visit) (hx14 : L[(idxF (atW r m) L).toNat]? = some x13) (hq15 : ((1 : Int) ≤ x13.Reader ∧ x13.Reader ≤ 999) ∧ ((1 : Int) ≤ x13.Seat ∧ x13.Seat ≤ 6) ∧ ((480 : Int) ≤ x13.From ∧ x13.From ≤ 1200) ∧ ((480 : Int) ≤ x13.Until ∧ x13.Until ≤ 1200) ∧ x13.From < x13.Until) (h16 : x13.Seat = s) : ([] : List Visit) = (chg L r m s).getD [] := by
  first | (rw [show chg L r m s = none from by first | exact chg_no (fun h => absurd h.1 ‹_›) | exact chg_noW ‹_› at_rdr | exact chg_no (by omega) | exact chg_same ‹_› (by first | rfl | exact atW_eq ‹_› _ _) ‹_› | exact chg_bad ‹_› (by first | rfl | exact atW_eq ‹_› _ _) ‹_›]; rfl) | (rw [chg_yes ‹_› (by first | rfl | exact atW_eq ‹_› _ _) ⟨‹_›, by omega, by omega, by omega⟩ ‹_› ‹_›]; rfl)
theorem z_c_impl_ChangeSeat_18 (L : List Visit) (nL : Nat) (hbdL : (nL : Int) ≤ 9223372036854775807) (hleL : nL = L.length) (r : Int) (m : Int) (s : Int) (hq5 : idxF (atW r m) L < (L.length : Int) ∧ -1 ≤ idxF (atW r m) L) (hq6 : VsOK L → idxF (atW r m) L = idxF (atV r m) L) (hq7 : VsOK L → 0 ≤ idxF (atV r m) L → 1 ≤ r ∧ r ≤ 999) (h8 : VsOK L ∧ (1 ≤ r ∧ r ≤ 999) ∧ (480 ≤ m ∧ m ≤ 1200) ∧ 0 ≤ idxF (atW r m) L) (hq11 : VsOK L) (hq12 : L.length ≤ 15) (x13 : Visit) (hx14 : L[(idxF (atW r m) L).toNat]? = some x13) (hq15 : ((1 : Int) ≤ x13.Reader ∧ x13.Reader ≤ 999) ∧ ((1 : Int) ≤ x13.Seat ∧ x13.Seat ≤ 6) ∧ ((480 : Int) ≤ x13.From ∧ x13.From ≤ 1200) ∧ ((480 : Int) ≤ x13.Until ∧ x13.Until ≤ 1200) ∧ x13.From < x13.Until) (h16 : x13.Seat = s) : false = (chg L r m s).isSome := by
  first | (rw [show chg L r m s = none from by first | exact chg_no (fun h => absurd h.1 ‹_›) | exact chg_noW ‹_› at_rdr | exact chg_no (by omega) | exact chg_same ‹_› (by first | rfl | exact atW_eq ‹_› _ _) ‹_› | exact chg_bad ‹_› (by first | rfl | exact atW_eq ‹_› _ _) ‹_›]; rfl) | (rw [chg_yes ‹_› (by first | rfl | exact atW_eq ‹_› _ _) ⟨‹_›, by omega, by omega, by omega⟩ ‹_› ‹_›]; rfl)
theorem z_c_impl_ChangeSeat_41 (L : List Visit) (nL : Nat) (hbdL : (nL : Int) ≤ 9223372036854775807) (hleL : nL = L.length) (r : Int) (m : Int) (s : Int) (hq5 : idxF (atW r m) L < (L.length : Int) ∧ -1 ≤ idxF (atW r m) L) (hq6 : VsOK L → idxF (atW r m) L = idxF (atV r m) L) (hq7 : VsOK L → 0 ≤ idxF (atV r m) L → 1 ≤ r ∧ r ≤ 999) (h8 : VsOK L ∧ (1 ≤ r ∧ r ≤ 999) ∧ (480 ≤ m ∧ m ≤ 1200) ∧ 0 ≤ idxF (atW r m) L) (hq11 : VsOK L) (hq12 : L.length ≤ 15) (x13 : Visit) (hx14 : L[(idxF (atW r m) L).toNat]? = some x13) (hq15 : ((1 : Int) ≤ x13.Reader ∧ x13.Reader ≤ 999) ∧ ((1 : Int) ≤ x13.Seat ∧ x13.Seat ≤ 6) ∧ ((480 : Int) ≤ x13.From ∧ x13.From ≤ 1200) ∧ ((480 : Int) ≤ x13.Until ∧ x13.Until ≤ 1200) ∧ x13.From < x13.Until) (h16 : ¬ (x13.Seat = s)) (n22 : Nat) (hl27 : n22 = (L).length) (hl28 : (n22 : Int) ≤ 9223372036854775807) (h40 : ¬ (VsOK (L.set ((idxF (atW r m) L).toNat) ({ x13 with Seat := s })))) : ([] : List Visit) = (chg L r m s).getD [] := by
  first | (rw [show chg L r m s = none from by first | exact chg_no (fun h => absurd h.1 ‹_›) | exact chg_noW ‹_› at_rdr | exact chg_no (by omega) | exact chg_same ‹_› (by first | rfl | exact atW_eq ‹_› _ _) ‹_› | exact chg_bad ‹_› (by first | rfl | exact atW_eq ‹_› _ _) ‹_›]; rfl) | (rw [chg_yes ‹_› (by first | rfl | exact atW_eq ‹_› _ _) ⟨‹_›, by omega, by omega, by omega⟩ ‹_› ‹_›]; rfl)
theorem z_c_impl_ChangeSeat_42 (L : List Visit) (nL : Nat) (hbdL : (nL : Int) ≤ 9223372036854775807) (hleL : nL = L.length) (r : Int) (m : Int) (s : Int) (hq5 : idxF (atW r m) L < (L.length : Int) ∧ -1 ≤ idxF (atW r m) L) (hq6 : VsOK L → idxF (atW r m) L = idxF (atV r m) L) (hq7 : VsOK L → 0 ≤ idxF (atV r m) L → 1 ≤ r ∧ r ≤ 999) (h8 : VsOK L ∧ (1 ≤ r ∧ r ≤ 999) ∧ (480 ≤ m ∧ m ≤ 1200) ∧ 0 ≤ idxF (atW r m) L) (hq11 : VsOK L) (hq12 : L.length ≤ 15) (x13 : Visit) (hx14 : L[(idxF (atW r m) L).toNat]? = some x13) (hq15 : ((1 : Int) ≤ x13.Reader ∧ x13.Reader ≤ 999) ∧ ((1 : Int) ≤ x13.Seat ∧ x13.Seat ≤ 6) ∧ ((480 : Int) ≤ x13.From ∧ x13.From ≤ 1200) ∧ ((480 : Int) ≤ x13.Until ∧ x13.Until ≤ 1200) ∧ x13.From < x13.Until) (h16 : ¬ (x13.Seat = s)) (n22 : Nat) (hl27 : n22 = (L).length) (hl28 : (n22 : Int) ≤ 9223372036854775807) (h40 : ¬ (VsOK (L.set ((idxF (atW r m) L).toNat) ({ x13 with Seat := s })))) : false = (chg L r m s).isSome := by
  first | (rw [show chg L r m s = none from by first | exact chg_no (fun h => absurd h.1 ‹_›) | exact chg_noW ‹_› at_rdr | exact chg_no (by omega) | exact chg_same ‹_› (by first | rfl | exact atW_eq ‹_› _ _) ‹_› | exact chg_bad ‹_› (by first | rfl | exact atW_eq ‹_› _ _) ‹_›]; rfl) | (rw [chg_yes ‹_› (by first | rfl | exact atW_eq ‹_› _ _) ⟨‹_›, by omega, by omega, by omega⟩ ‹_› ‹_›]; rfl)
theorem z_c_impl_ChangeSeat_43 (L : List Visit) (nL : Nat) (hbdL : (nL : Int) ≤ 9223372036854775807) (hleL : nL = L.length) (r : Int) (m : Int) (s : Int) (hq5 : idxF (atW r m) L < (L.length : Int) ∧ -1 ≤ idxF (atW r m) L) (hq6 : VsOK L → idxF (atW r m) L = idxF (atV r m) L) (hq7 : VsOK L → 0 ≤ idxF (atV r m) L → 1 ≤ r ∧ r ≤ 999) (h8 : VsOK L ∧ (1 ≤ r ∧ r ≤ 999) ∧ (480 ≤ m ∧ m ≤ 1200) ∧ 0 ≤ idxF (atW r m) L) (hq11 : VsOK L) (hq12 : L.length ≤ 15) (x13 : Visit) (hx14 : L[(idxF (atW r m) L).toNat]? = some x13) (hq15 : ((1 : Int) ≤ x13.Reader ∧ x13.Reader ≤ 999) ∧ ((1 : Int) ≤ x13.Seat ∧ x13.Seat ≤ 6) ∧ ((480 : Int) ≤ x13.From ∧ x13.From ≤ 1200) ∧ ((480 : Int) ≤ x13.Until ∧ x13.Until ≤ 1200) ∧ x13.From < x13.Until) (h16 : ¬ (x13.Seat = s)) (n22 : Nat) (hl27 : n22 = (L).length) (hl28 : (n22 : Int) ≤ 9223372036854775807) (h40 : VsOK (L.set ((idxF (atW r m) L).toNat) ({ x13 with Seat := s }))) : L.set ((idxF (atW r m) L).toNat) ({ x13 with Seat := s }) = (chg L r m s).getD [] := by
  first | (rw [show chg L r m s = none from by first | exact chg_no (fun h => absurd h.1 ‹_›) | exact chg_noW ‹_› at_rdr | exact chg_no (by omega) | exact chg_same ‹_› (by first | rfl | exact atW_eq ‹_› _ _) ‹_› | exact chg_bad ‹_› (by first | rfl | exact atW_eq ‹_› _ _) ‹_›]; rfl) | (rw [chg_yes ‹_› (by first | rfl | exact atW_eq ‹_› _ _) ⟨‹_›, by omega, by omega, by omega⟩ ‹_› ‹_›]; rfl)
theorem z_c_impl_ChangeSeat_44 (L : List Visit) (nL : Nat) (hbdL : (nL : Int) ≤ 9223372036854775807) (hleL : nL = L.length) (r : Int) (m : Int) (s : Int) (hq5 : idxF (atW r m) L < (L.length : Int) ∧ -1 ≤ idxF (atW r m) L) (hq6 : VsOK L → idxF (atW r m) L = idxF (atV r m) L) (hq7 : VsOK L → 0 ≤ idxF (atV r m) L → 1 ≤ r ∧ r ≤ 999) (h8 : VsOK L ∧ (1 ≤ r ∧ r ≤ 999) ∧ (480 ≤ m ∧ m ≤ 1200) ∧ 0 ≤ idxF (atW r m) L) (hq11 : VsOK L) (hq12 : L.length ≤ 15) (x13 : Visit) (hx14 : L[(idxF (atW r m) L).toNat]? = some x13) (hq15 : ((1 : Int) ≤ x13.Reader ∧ x13.Reader ≤ 999) ∧ ((1 : Int) ≤ x13.Seat ∧ x13.Seat ≤ 6) ∧ ((480 : Int) ≤ x13.From ∧ x13.From ≤ 1200) ∧ ((480 : Int) ≤ x13.Until ∧ x13.Until ≤ 1200) ∧ x13.From < x13.Until) (h16 : ¬ (x13.Seat = s)) (n22 : Nat) (hl27 : n22 = (L).length) (hl28 : (n22 : Int) ≤ 9223372036854775807) (h40 : VsOK (L.set ((idxF (atW r m) L).toNat) ({ x13 with Seat := s }))) : true = (chg L r m s).isSome := by
  first | (rw [show chg L r m s = none from by first | exact chg_no (fun h => absurd h.1 ‹_›) | exact chg_noW ‹_› at_rdr | exact chg_no (by omega) | exact chg_same ‹_› (by first | rfl | exact atW_eq ‹_› _ _) ‹_› | exact chg_bad ‹_› (by first | rfl | exact atW_eq ‹_› _ _) ‹_›]; rfl) | (rw [chg_yes ‹_› (by first | rfl | exact atW_eq ‹_› _ _) ⟨‹_›, by omega, by omega, by omega⟩ ‹_› ‹_›]; rfl)
theorem c_impl_ChangeSeat (w : World) {AL : Option Addr} {nL cL BL : Nat}  (L : List Visit) (hL : SlR w BL encVisit 4 AL nL cL L) (r : Int) (m : Int) (s : Int) : Calls Tryz.prog 17 #[.slice AL nL cL, .int .i64 r, .int .i64 m, .int .i64 s] w fun e w' => ∃ (A1' : Option Addr) (n1' c1' : Nat), e = .returned (.tuple (List.toArray [.slice A1' n1' c1', .bool ((chg L r m s).isSome)])) ∧ SlO w' w.heap.size encVisit 4 45 A1' n1' c1' ((chg L r m s).getD []) ∧ Lo w w' := by
  refine calls_W 42 Tryz.func17 rfl rfl rfl ?_
  have hbdL := hL.bound
  have hleL := hL.len
  have hBbL := hL.bd
  refine W.seq ?_
  refine W.regS (SR.q' (r_as (v := .slice none 0 0) rfl) <| SR.q' (r_as (v := .bool false) rfl) <| SR.nil ?_)
  refine W.seq ?_
  refine W.regS (SR.q' (r_mv (v := .slice _ _ _) rfl) <| SR.q' (r_mv (v := .int .i64 _) rfl) <| SR.q' (r_mv (v := .int .i64 _) rfl) <| SR.call ent44 (c_impl_visitOf w L ((hL)) r m) rfl ?_)
  rintro e w1 ⟨rfl, hk2⟩
  refine ⟨_, rfl, ?_⟩
  have hz3 := hk2.size
  have hB4 := (Lo.refl w).lo hk2
  have hq5 : idxF (atW r m) L < (L.length : Int) ∧ -1 ≤ idxF (atW r m) L := idx_lt
  have hq6 : VsOK L → idxF (atW r m) L = idxF (atV r m) L := fun h => atW_eq h r m
  have hq7 : VsOK L → 0 ≤ idxF (atV r m) L → 1 ≤ r ∧ r ≤ 999 := fun h h' => at_rdr h h'
  refine SR.q' (r_mv (v := .tuple (List.toArray _)) rfl) <| SR.q' (r_ext (v := .int .i64 _) rfl rfl) <| SR.q' (r_ext (v := .bool _) rfl rfl) <| SR.q' (r_as (v := .int .i64 _) rfl) <| SR.q' (r_as (v := .bool _) rfl) <| SR.nil ?_
  refine W.seq ?_
  refine W.seq ?_
  refine W.regS (SR.q' (r_mv (v := .bool _) rfl) <| SR.q' (r_not rfl) <| SR.q' (r_mv (v := .bool _) rfl) <| SR.splitN (fun h8 => ?_) (fun h8 => ?_))
  · refine SR.s' rfl <| SR.s' rfl <| SR.s' rfl <| SR.s' rfl <| SR.s' rfl <| SR.s' rfl <| SR.s' rfl <| SR.q' (r_pick true rfl (v := .bool true) rfl) <| SR.nil ?_
    refine W.cond_t rfl ?_
    refine W.seq ?_
    refine W.regS (SR.q' (r_as (v := .slice none 0 0) rfl) <| SR.q' (r_as (v := .bool false) rfl) <| SR.nil ?_)
    refine W.ret ?_
    refine ret2 rfl (v := .slice none 0 0) (v' := .bool _) rfl rfl ?_
    exact ⟨none, 0, 0, eR (eT2 rfl (eB (z_c_impl_ChangeSeat_10 L nL hbdL hleL r m s hq5 hq6 hq7 h8))), (SlO.eqv (SlO.nil (e := 45) (enc := encVisit) (fun _ => rfl) (by omega)) (z_c_impl_ChangeSeat_9 L nL hbdL hleL r m s hq5 hq6 hq7 h8)), hB4⟩
  · have hq11 := And.left h8
    have hq12 := vs_len hq11
    refine SR.g' rfl (r_mv (v := .slice _ _ _) rfl) <| SR.g' rfl (r_mv (v := .int .i64 _) rfl) <| ?_
    obtain ⟨x13, hx14⟩ := ((hL).lo hk2).get (i := (idxF (atW r m) L).toNat) (by omega)
    have hq15 := vs_rng hq11 hx14
    refine SR.g' rfl (r_ixR tsl24 ((hL).lo hk2) rfl rfl (by omega)) <| SR.g' rfl (r_fa fa45_1 rfl) <| SR.g' rfl (r_ld (v := .int .i64 x13.Seat) sca3 rfl (((hL).lo hk2).cell hx14 rfl)) <| SR.g' rfl (r_mv (v := .int .i64 _) rfl) <| SR.g' rfl (r_eq rfl rfl) <| SR.q' (r_pick false rfl (v := .bool _) rfl) <| SR.nil ?_
    refine W.cond_d rfl (fun h16 => ?_) (fun h16 => ?_)
    · refine W.seq ?_
      refine W.regS (SR.q' (r_as (v := .slice none 0 0) rfl) <| SR.q' (r_as (v := .bool false) rfl) <| SR.nil ?_)
      refine W.ret ?_
      refine ret2 rfl (v := .slice none 0 0) (v' := .bool _) rfl rfl ?_
      exact ⟨none, 0, 0, eR (eT2 rfl (eB (z_c_impl_ChangeSeat_18 L nL hbdL hleL r m s hq5 hq6 hq7 h8 hq11 hq12 x13 hx14 hq15 h16))), (SlO.eqv (SlO.nil (e := 45) (enc := encVisit) (fun _ => rfl) (by omega)) (z_c_impl_ChangeSeat_17 L nL hbdL hleL r m s hq5 hq6 hq7 h8 hq11 hq12 x13 hx14 hq15 h16)), hB4⟩
    · refine W.skip ?_
      refine W.seq ?_
      refine W.regS (SR.q' (r_mv (v := .slice _ _ _) rfl) <| SR.call ent39 (c_slices_Clone___impl_Visit_impl_Visit_ w1 L (((hL).lo hk2)) (by omega)) rfl ?_)
      rintro e w19 ⟨A21, n22, c23, rfl, hO24, hk20⟩
      refine ⟨_, rfl, ?_⟩
      have hz25 := hk20.size
      have hB26 := hB4.lo hk20
      have hl27 := hO24.len
      have hl28 := hO24.rd.bound
      refine SR.q' (r_as (v := .slice _ _ _) rfl) <| SR.nil ?_
      refine W.seq ?_
      refine W.regS (SR.q' (r_mv (v := .slice _ _ _) rfl) <| SR.q' (r_mv (v := .int .i64 _) rfl) <| SR.q' (r_mv (v := .int .i64 _) rfl) <| SR.q' (r_ixR tsl24 ((hO24).rd) rfl rfl (by omega)) <| SR.q' (r_fa fa45_1 rfl) <| SR.storeO (o := 1) (vs := [.int .i64 s]) (x1 := { x13 with Seat := s }) sca3.2 rfl (add_add _ _ _) rfl rfl (hO24) hx14 rfl (Nat.le_of_ble_eq_true rfl) rfl ?_)
      intro w29 hk30 hs31 hO32
      have hz33 := hk30.size
      have hB34 := hB26.step hk30 (fun i_ hi_ e' => by have := ((hO24)).base_le e'; first | omega | (exfalso; omega) | exact e' | exact .inl e' | exact .inr e')
      have hx35 : (L.set ((idxF (atW r m) L).toNat) ({ x13 with Seat := s }))[(idxF (atW r m) L).toNat]? = some ({ x13 with Seat := s }) := List.getElem?_set_self (List.getElem?_eq_some_iff.1 hx14).1
      refine SR.nil ?_
      refine W.seq ?_
      refine W.seq ?_
      refine W.regS (SR.q' (r_mv (v := .slice _ _ _) rfl) <| SR.call ent29 (c_impl_AreVisits w29 (L.set ((idxF (atW r m) L).toNat) ({ x13 with Seat := s })) (((hO32).rd))) rfl ?_)
      rintro e w36 ⟨rfl, hk37⟩
      refine ⟨_, rfl, ?_⟩
      have hz38 := hk37.size
      have hB39 := hB34.lo hk37
      refine SR.q' (r_not rfl) <| SR.nil ?_
      refine W.cond_n rfl (fun h40 => ?_) (fun h40 => ?_)
      · refine W.seq ?_
        refine W.regS (SR.q' (r_as (v := .slice none 0 0) rfl) <| SR.q' (r_as (v := .bool false) rfl) <| SR.nil ?_)
        refine W.ret ?_
        refine ret2 rfl (v := .slice none 0 0) (v' := .bool _) rfl rfl ?_
        exact ⟨none, 0, 0, eR (eT2 rfl (eB (z_c_impl_ChangeSeat_42 L nL hbdL hleL r m s hq5 hq6 hq7 h8 hq11 hq12 x13 hx14 hq15 h16 n22 hl27 hl28 h40))), (SlO.eqv (SlO.nil (e := 45) (enc := encVisit) (fun _ => rfl) (by omega)) (z_c_impl_ChangeSeat_41 L nL hbdL hleL r m s hq5 hq6 hq7 h8 hq11 hq12 x13 hx14 hq15 h16 n22 hl27 hl28 h40)), hB39⟩
      · refine W.skip ?_
        refine W.seq ?_
        refine W.regS (SR.q' (r_mv (v := .slice _ _ _) rfl) <| SR.q' (r_as (v := .slice _ _ _) rfl) <| SR.q' (r_as (v := .bool true) rfl) <| SR.nil ?_)
        refine W.ret ?_
        refine ret2 rfl (v := .slice _ _ _) (v' := .bool _) rfl rfl ?_
        exact ⟨A21, n22, c23, eR (eT2 rfl (eB (z_c_impl_ChangeSeat_44 L nL hbdL hleL r m s hq5 hq6 hq7 h8 hq11 hq12 x13 hx14 hq15 h16 n22 hl27 hl28 h40))), (SlO.eqv (((hO32).lo hk37).down (by omega)) (z_c_impl_ChangeSeat_43 L nL hbdL hleL r m s hq5 hq6 hq7 h8 hq11 hq12 x13 hx14 hq15 h16 n22 hl27 hl28 h40)), hB39⟩
end Go.Proofs.YthgbcadgnihdiaaGreatDoor
