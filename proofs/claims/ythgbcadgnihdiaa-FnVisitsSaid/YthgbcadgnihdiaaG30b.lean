/- Walks, printed by a program of this claim's author. -/
import Derived.Test.YthgbcadgnihdiaaChecked
import Derived.Test.YthgbcadgnihdiaaRa
import Derived.Test.YthgbcadgnihdiaaRb
import Derived.Test.YthgbcadgnihdiaaFu
import Derived.Test.YthgbcadgnihdiaaFs
import Derived.Test.YthgbcadgnihdiaaFq
import Derived.Test.YthgbcadgnihdiaaFo
import Derived.Test.YthgbcadgnihdiaaFp
import Derived.Test.YthgbcadgnihdiaaG30
namespace Go.Proofs.Ythgbcadgnihdiaa
open Go Go.RowKit Fw
set_option maxRecDepth 10000
set_option linter.unusedVariables false
theorem ent33 : Ent Try.prog 33 := ent_of Try.func33 (by decide +kernel) rfl
theorem ent74 : Ent Try.prog 74 := ent_of Try.func74 (by decide +kernel) rfl
theorem ent75 : Ent Try.prog 75 := ent_of Try.func75 (by decide +kernel) rfl

theorem z_c_spec_l30At_1 (L : List Visit) (nL : Nat) (hbdL : (nL : Int) ≤ 9223372036854775807) (hleL : nL = L.length) (r : Int) (m : Int) (hp0 : VsOK L) : 0 ≤ nL ∧ NoneTo (atV r m) L 0 := by
  exact ⟨Nat.zero_le _, NoneTo.zero⟩
theorem z_c_spec_l30At_18 (L : List Visit) (nL : Nat) (hbdL : (nL : Int) ≤ 9223372036854775807) (hleL : nL = L.length) (r : Int) (m : Int) (hp0 : VsOK L) (k : Nat) (hi7 : k ≤ nL ∧ NoneTo (atV r m) L k) (h8 : (k : Int) < (nL : Int)) (x9 : Visit) (hx10 : L[k]? = some x9) (hq11 : ((1 : Int) ≤ x9.Reader ∧ x9.Reader ≤ 999) ∧ ((1 : Int) ≤ x9.Seat ∧ x9.Seat ≤ 6) ∧ ((480 : Int) ≤ x9.From ∧ x9.From ≤ 1200) ∧ ((480 : Int) ≤ x9.Until ∧ x9.Until ≤ 1200) ∧ x9.From < x9.Until) (h12 : x9.Reader = r) (h17 : x9.From ≤ m ∧ m ≤ (x9.Until - 1)) : (k : Int) = idxF (atV r m) L := by
  first | exact idx_at (And.right ‹_ ∧ NoneTo _ L _›) ‹L[k]? = some _› (by unfold atV; simp_all; done) | exact idx_no (And.right ‹_ ∧ NoneTo _ L _›) hleL ‹_›
theorem z_c_spec_l30At_19 (L : List Visit) (nL : Nat) (hbdL : (nL : Int) ≤ 9223372036854775807) (hleL : nL = L.length) (r : Int) (m : Int) (hp0 : VsOK L) (k : Nat) (hi7 : k ≤ nL ∧ NoneTo (atV r m) L k) (h8 : (k : Int) < (nL : Int)) (x9 : Visit) (hx10 : L[k]? = some x9) (hq11 : ((1 : Int) ≤ x9.Reader ∧ x9.Reader ≤ 999) ∧ ((1 : Int) ≤ x9.Seat ∧ x9.Seat ≤ 6) ∧ ((480 : Int) ≤ x9.From ∧ x9.From ≤ 1200) ∧ ((480 : Int) ≤ x9.Until ∧ x9.Until ≤ 1200) ∧ x9.From < x9.Until) (h12 : x9.Reader = r) (h17 : ¬ (x9.From ≤ m ∧ m ≤ (x9.Until - 1))) : k + 1 ≤ nL ∧ NoneTo (atV r m) L (k + 1) := by
  exact ⟨by omega, NoneTo.next (And.right ‹_ ∧ NoneTo _ L _›) ‹L[k]? = some _› (by unfold atV; simp_all)⟩
theorem z_c_spec_l30At_20 (L : List Visit) (nL : Nat) (hbdL : (nL : Int) ≤ 9223372036854775807) (hleL : nL = L.length) (r : Int) (m : Int) (hp0 : VsOK L) (k : Nat) (hi7 : k ≤ nL ∧ NoneTo (atV r m) L k) (h8 : (k : Int) < (nL : Int)) (x9 : Visit) (hx10 : L[k]? = some x9) (hq11 : ((1 : Int) ≤ x9.Reader ∧ x9.Reader ≤ 999) ∧ ((1 : Int) ≤ x9.Seat ∧ x9.Seat ≤ 6) ∧ ((480 : Int) ≤ x9.From ∧ x9.From ≤ 1200) ∧ ((480 : Int) ≤ x9.Until ∧ x9.Until ≤ 1200) ∧ x9.From < x9.Until) (h12 : x9.Reader = r) (h17 : ¬ (x9.From ≤ m ∧ m ≤ (x9.Until - 1))) : nL - (k + 1) < nL - k := by
  omega
theorem z_c_spec_l30At_25 (L : List Visit) (nL : Nat) (hbdL : (nL : Int) ≤ 9223372036854775807) (hleL : nL = L.length) (r : Int) (m : Int) (hp0 : VsOK L) (k : Nat) (hi7 : k ≤ nL ∧ NoneTo (atV r m) L k) (h8 : (k : Int) < (nL : Int)) (x9 : Visit) (hx10 : L[k]? = some x9) (hq11 : ((1 : Int) ≤ x9.Reader ∧ x9.Reader ≤ 999) ∧ ((1 : Int) ≤ x9.Seat ∧ x9.Seat ≤ 6) ∧ ((480 : Int) ≤ x9.From ∧ x9.From ≤ 1200) ∧ ((480 : Int) ≤ x9.Until ∧ x9.Until ≤ 1200) ∧ x9.From < x9.Until) (h12 : ¬ (x9.Reader = r)) : k + 1 ≤ nL ∧ NoneTo (atV r m) L (k + 1) := by
  exact ⟨by omega, NoneTo.next (And.right ‹_ ∧ NoneTo _ L _›) ‹L[k]? = some _› (by unfold atV; simp_all)⟩
theorem z_c_spec_l30At_26 (L : List Visit) (nL : Nat) (hbdL : (nL : Int) ≤ 9223372036854775807) (hleL : nL = L.length) (r : Int) (m : Int) (hp0 : VsOK L) (k : Nat) (hi7 : k ≤ nL ∧ NoneTo (atV r m) L k) (h8 : (k : Int) < (nL : Int)) (x9 : Visit) (hx10 : L[k]? = some x9) (hq11 : ((1 : Int) ≤ x9.Reader ∧ x9.Reader ≤ 999) ∧ ((1 : Int) ≤ x9.Seat ∧ x9.Seat ≤ 6) ∧ ((480 : Int) ≤ x9.From ∧ x9.From ≤ 1200) ∧ ((480 : Int) ≤ x9.Until ∧ x9.Until ≤ 1200) ∧ x9.From < x9.Until) (h12 : ¬ (x9.Reader = r)) : nL - (k + 1) < nL - k := by
  omega
theorem z_c_spec_l30At_27 (L : List Visit) (nL : Nat) (hbdL : (nL : Int) ≤ 9223372036854775807) (hleL : nL = L.length) (r : Int) (m : Int) (hp0 : VsOK L) (k : Nat) (hi7 : k ≤ nL ∧ NoneTo (atV r m) L k) (h8 : ¬ ((k : Int) < (nL : Int))) : (-1) = idxF (atV r m) L := by
  first | exact idx_at (And.right ‹_ ∧ NoneTo _ L _›) ‹L[k]? = some _› (by unfold atV; simp_all; done) | exact idx_no (And.right ‹_ ∧ NoneTo _ L _›) hleL ‹_›
theorem c_spec_l30At (w : World) {AL : Option Addr} {nL cL BL : Nat}  (L : List Visit) (hL : SlR w BL encVisit 4 AL nL cL L) (r : Int) (m : Int) (hp0 : VsOK L) : Calls Try.prog 44 #[.slice AL nL cL, .int .i64 r, .int .i64 m] w fun e w' => e = .returned (.int .i64 (idxF (atV r m) L)) ∧ Lo w w' := by
  refine calls_W 37 Try.func44 rfl rfl rfl ?_
  have hbdL := hL.bound
  have hleL := hL.len
  have hBbL := hL.bd
  refine W.seq ?_
  refine W.regS (SR.q' (r_as (v := .int .i64 0) rfl) <| SR.nil ?_)
  refine W.seq ?_
  refine W.seq ?_
  refine W.regS (SR.q' (r_as (v := .int .i64 0) rfl) <| SR.nil ?_)
  refine W.block ?_
  refine W.loop (σ := Nat) (fun g => [(0, .slice AL nL cL), (1, .int .i64 r), (2, .int .i64 m), (7, .int .i64 (g : Int))]) (fun g w' => (Lo w w') ∧ (SlR w' BL encVisit 4 AL nL cL L) ∧ (g ≤ nL ∧ NoneTo (atV r m) L g)) (fun g => nL - g) 0 ?_ ?_ ?_
  · exact ⟨rfl, rfl, rfl, rfl, trivial⟩
  · exact ⟨(Lo.refl w), hL, (z_c_spec_l30At_1 L nL hbdL hleL r m hp0)⟩
  · rintro k f2 w3 hP5
    obtain ⟨hB4, hm6, hi7⟩ : (Lo w w3) ∧ (SlR w3 BL encVisit 4 AL nL cL L) ∧ (k ≤ nL ∧ NoneTo (atV r m) L k) := hP5
    refine (?_ : W _ _ _ _ _ (act _ (sets f2 [(0, .slice AL nL cL), (1, .int .i64 r), (2, .int .i64 m), (7, .int .i64 (k : Int))])) _)
    have hzw3 := hB4.size
    refine W.seq ?_
    refine W.seq ?_
    refine W.regS (SR.q' (r_mv (v := .int .i64 _) rfl) <| SR.q' (r_mv (v := .slice _ _ _) rfl) <| SR.q' (r_len und24 rfl) <| SR.q' (r_lt rfl rfl) <| SR.nil ?_)
    refine W.cond_d rfl (fun h8 => ?_) (fun h8 => ?_)
    · refine W.skip ?_
      refine W.seq ?_
      refine W.block ?_
      refine W.seq ?_
      refine W.regD mo (by kernel_rfl) (QR.q' (fun w' hw' => r_mv (v := .slice _ _ _) rfl) <| QR.q' (fun w' hw' => r_mv (v := .int .i64 _) rfl) <| ?_)
      obtain ⟨x9, hx10⟩ := (hm6).get (i := k) (by omega)
      have hq11 := vs_rng hp0 hx10
      refine QR.q' (fun w' hw' => r_ixR tsl24 (((hm6).lo hw')) rfl rfl (by omega)) <| QR.q' (fun w' hw' => r_fa fa59_0 rfl) <| QR.q' (fun w' hw' => r_ld (v := .int .i64 x9.Reader) sca3 rfl ((((hm6).lo hw')).cell hx10 rfl)) <| QR.q' (fun w' hw' => r_mv (v := .int .i64 _) rfl) <| QR.q' (fun w' hw' => r_eq rfl rfl) <| QR.q' (fun w' hw' => r_mv (v := .bool _) rfl) <| QR.splitD (fun h12 => ?_) (fun h12 => ?_)
      · refine QR.g' rfl (fun w' hw' => r_mv (v := .int .i64 _) rfl) <| QR.g' rfl (fun w' hw' => r_mv (v := .slice _ _ _) rfl) <| QR.g' rfl (fun w' hw' => r_mv (v := .int .i64 _) rfl) <| QR.g' rfl (fun w' hw' => r_ixR tsl24 (((hm6).lo hw')) rfl rfl (by omega)) <| QR.g' rfl (fun w' hw' => r_fa fa59_2 rfl) <| QR.g' rfl (fun w' hw' => r_ld (v := .int .i64 x9.From) sca3 rfl ((((hm6).lo hw')).cell hx10 rfl)) <| QR.g' rfl (fun w' hw' => r_mv (v := .slice _ _ _) rfl) <| QR.g' rfl (fun w' hw' => r_mv (v := .int .i64 _) rfl) <| QR.g' rfl (fun w' hw' => r_ixR tsl24 (((hm6).lo hw')) rfl rfl (by omega)) <| QR.g' rfl (fun w' hw' => r_fa fa59_3 rfl) <| QR.g' rfl (fun w' hw' => r_ld (v := .int .i64 x9.Until) sca3 rfl ((((hm6).lo hw')).cell hx10 rfl)) <| QR.g' rfl (fun w' hw' => r_sub rfl rfl (by omega)) <| QR.gcall rfl ent69 (fun w' hw' => (c_spec_l1In w' m x9.From (x9.Until - 1)).mono fun _ _ h => ⟨h.1, hw'.trans h.2⟩) rfl <| QR.q' (fun w' hw' => r_pick true rfl (v := .bool _) rfl) <| QR.nil ?_
        intro w13 hk14
        have hz15 := hk14.size
        have hB16 := hB4.lo hk14
        refine W.cond_d rfl (fun h17 => ?_) (fun h17 => ?_)
        · refine W.seq ?_
          refine W.regS (SR.q' (r_mv (v := .int .i64 _) rfl) <| SR.q' (r_as (v := .int .i64 _) rfl) <| SR.nil ?_)
          refine W.ret ?_
          refine ret1 rfl (v := .int .i64 _) rfl ?_
          exact ⟨eR (eI (z_c_spec_l30At_18 L nL hbdL hleL r m hp0 k hi7 h8 x9 hx10 hq11 h12 h17)), hB16⟩
        · refine W.skip ?_
          refine W.regS (SR.q' (r_mv (v := .int .i64 _) rfl) <| SR.q' (r_add rfl rfl (by omega)) <| SR.q' (r_as (v := .int .i64 _) rfl) <| SR.nil ?_)
          refine ⟨k + 1, _, rfl, ⟨rfl, rfl, rfl, rfl, trivial⟩, ⟨hB16, (hm6).lo hk14, ?_⟩, ?_⟩
          · exact (z_c_spec_l30At_19 L nL hbdL hleL r m hp0 k hi7 h8 x9 hx10 hq11 h12 h17)
          · exact (z_c_spec_l30At_20 L nL hbdL hleL r m hp0 k hi7 h8 x9 hx10 hq11 h12 h17)
      · refine QR.s' rfl <| QR.s' rfl <| QR.s' rfl <| QR.s' rfl <| QR.s' rfl <| QR.s' rfl <| QR.s' rfl <| QR.s' rfl <| QR.s' rfl <| QR.s' rfl <| QR.s' rfl <| QR.s' rfl <| QR.s' rfl <| QR.q' (fun w' hw' => r_pick false rfl (v := .bool false) rfl) <| QR.nil ?_
        intro w21 hk22
        have hz23 := hk22.size
        have hB24 := hB4.lo hk22
        refine W.cond_f rfl ?_
        refine W.skip ?_
        refine W.regS (SR.q' (r_mv (v := .int .i64 _) rfl) <| SR.q' (r_add rfl rfl (by omega)) <| SR.q' (r_as (v := .int .i64 _) rfl) <| SR.nil ?_)
        refine ⟨k + 1, _, rfl, ⟨rfl, rfl, rfl, rfl, trivial⟩, ⟨hB24, (hm6).lo hk22, ?_⟩, ?_⟩
        · exact (z_c_spec_l30At_25 L nL hbdL hleL r m hp0 k hi7 h8 x9 hx10 hq11 h12)
        · exact (z_c_spec_l30At_26 L nL hbdL hleL r m hp0 k hi7 h8 x9 hx10 hq11 h12)
    · refine W.exit (xin_here ?_)
      refine W.seq ?_
      refine W.regS (SR.q' (r_as (v := .int .i64 (-1)) rfl) <| SR.nil ?_)
      refine W.ret ?_
      refine ret1 rfl (v := .int .i64 _) rfl ?_
      exact ⟨eR (eI (z_c_spec_l30At_27 L nL hbdL hleL r m hp0 k hi7 h8)), hB4⟩

theorem z_c__impl_Visit__isIn_13 (v : Visit) (m : Int) : (v.From ≤ m ∧ m ≤ (IntKind.i64.wrap (v.Until - 1))) ↔ (v.From ≤ m ∧ m ≤ IntKind.i64.wrap (v.Until - 1)) := by
  first | rfl | omega | grind
theorem c__impl_Visit__isIn (w : World) (v : Visit) (m : Int) : Calls Try.prog 75 #[.agg (List.toArray (encVisit v)), .int .i64 m] w fun e w' => e = .returned (.bool (decide (v.From ≤ m ∧ m ≤ IntKind.i64.wrap (v.Until - 1)))) ∧ Lo w w' := by
  refine calls_W 12 Try.func75 rfl rfl rfl ?_
  refine W.seq ?_
  refine W.regS (SR.box (v := .agg (List.toArray _)) (l := [.int .i64 v.Reader, .int .i64 v.Seat, .int .i64 v.From, .int .i64 v.Until]) rfl rfl ?_)
  intro g1 w2 hg3 hk4 hs5 hb6
  have hz7 := hk4.size
  have hB8 := (Lo.refl w).lo hk4
  refine SR.q' (r_as (v := .bool false) rfl) <| SR.nil ?_
  refine W.seq ?_
  refine W.regS (SR.q' (r_mv (v := .int .i64 _) rfl) <| SR.q' (r_fa fa59_2 rfl) <| SR.q' (r_ld (v := .int .i64 v.From) sca3 rfl ((hb6).cell rfl)) <| SR.q' (r_fa fa59_3 rfl) <| SR.q' (r_ld (v := .int .i64 v.Until) sca3 rfl ((hb6).cell rfl)) <| SR.q' (r_subW rfl rfl) <| SR.call ent83 (c_impl_within w2 m v.From (IntKind.i64.wrap (v.Until - 1))) rfl ?_)
  rintro e w9 ⟨rfl, hk10⟩
  refine ⟨_, rfl, ?_⟩
  have hz11 := hk10.size
  have hB12 := hB8.lo hk10
  refine SR.q' (r_as (v := .bool _) rfl) <| SR.nil ?_
  refine W.ret ?_
  refine ret1 rfl (v := .bool _) rfl ?_
  exact ⟨eR (eDD (z_c__impl_Visit__isIn_13 v m)), hB12⟩

theorem z_c_impl_visitOf_1_14 (v : Visit) (r : Int) (m : Int) (h9 : v.Reader = r) : decide (v.From ≤ m ∧ m ≤ IntKind.i64.wrap (v.Until - 1)) = atW r m v := by
  unfold atW; simp_all
theorem z_c_impl_visitOf_1_15 (v : Visit) (r : Int) (m : Int) (h9 : ¬ (v.Reader = r)) : false = atW r m v := by
  unfold atW; simp_all
theorem c_impl_visitOf_1 (w : World) (v : Visit) {gr er : Nat} (r : Int) (hr : Blk w gr er [.int .i64 r]) {gm em : Nat} (m : Int) (hm : Blk w gm em [.int .i64 m]) : Calls Try.prog 74 #[.agg (List.toArray (encVisit v)), .pointer (some ⟨gr, 0, none⟩), .pointer (some ⟨gm, 0, none⟩)] w fun e w' => e = .returned (.bool (atW r m v)) ∧ Lo w w' := by
  refine calls_W 14 Try.func74 rfl rfl rfl ?_
  have hBlr := hr.lt
  have hBlm := hm.lt
  refine W.seq ?_
  refine W.regS (SR.box (v := .agg (List.toArray _)) (l := [.int .i64 v.Reader, .int .i64 v.Seat, .int .i64 v.From, .int .i64 v.Until]) rfl rfl ?_)
  intro g1 w2 hg3 hk4 hs5 hb6
  have hz7 := hk4.size
  have hB8 := (Lo.refl w).lo hk4
  refine SR.q' (r_as (v := .bool false) rfl) <| SR.nil ?_
  refine W.seq ?_
  refine W.regS (SR.q' (r_fa fa59_0 rfl) <| SR.q' (r_ld (v := .int .i64 v.Reader) sca3 rfl ((hb6).cell rfl)) <| SR.q' (r_ld (v := .int .i64 r) sca3 rfl (((hr).lo hk4).cell0.trans rfl)) <| SR.q' (r_eq rfl rfl) <| SR.q' (r_mv (v := .bool _) rfl) <| SR.splitD (fun h9 => ?_) (fun h9 => ?_))
  · refine SR.g' rfl (r_lda (l := [.int .i64 v.Reader, .int .i64 v.Seat, .int .i64 v.From, .int .i64 v.Until]) agg59 rfl (fun _ _ hu => (hb6).cell hu) rfl) <| SR.g' rfl (r_ld (v := .int .i64 m) sca3 rfl (((hm).lo hk4).cell0.trans rfl)) <| SR.gcall rfl ent75 (c__impl_Visit__isIn w2 v m) rfl ?_
    rintro e w10 ⟨rfl, hk11⟩
    refine ⟨_, rfl, ?_⟩
    have hz12 := hk11.size
    have hB13 := hB8.lo hk11
    refine SR.q' (r_pick true rfl (v := .bool _) rfl) <| SR.q' (r_as (v := .bool _) rfl) <| SR.nil ?_
    refine W.ret ?_
    refine ret1 rfl (v := .bool _) rfl ?_
    exact ⟨eR (eB (z_c_impl_visitOf_1_14 v r m h9)), hB13⟩
  · refine SR.s' rfl <| SR.s' rfl <| SR.s' rfl <| SR.q' (r_pick false rfl (v := .bool false) rfl) <| SR.q' (r_as (v := .bool _) rfl) <| SR.nil ?_
    refine W.ret ?_
    refine ret1 rfl (v := .bool _) rfl ?_
    exact ⟨eR (eB (z_c_impl_visitOf_1_15 v r m h9)), hB8⟩

theorem z_c_impl_visitOf_38 (L : List Visit) (nL : Nat) (hbdL : (nL : Int) ≤ 9223372036854775807) (hleL : nL = L.length) (r : Int) (m : Int) (hq21 : idxF (fun u_ : Visit => atW r m u_) L < (L.length : Int) ∧ -1 ≤ idxF (fun u_ : Visit => atW r m u_) L) (h26 : VsOK L) (hq27 : L.length ≤ 15) (h32 : 1 ≤ r ∧ r ≤ 999) (h37 : 480 ≤ m ∧ m ≤ 1200) : idxF (fun u_ : Visit => atW r m u_) L = idxF (atW r m) L := by
  rfl
theorem z_c_impl_visitOf_39 (L : List Visit) (nL : Nat) (hbdL : (nL : Int) ≤ 9223372036854775807) (hleL : nL = L.length) (r : Int) (m : Int) (hq21 : idxF (fun u_ : Visit => atW r m u_) L < (L.length : Int) ∧ -1 ≤ idxF (fun u_ : Visit => atW r m u_) L) (h26 : VsOK L) (hq27 : L.length ≤ 15) (h32 : 1 ≤ r ∧ r ≤ 999) (h37 : 480 ≤ m ∧ m ≤ 1200) : (0 ≤ (idxF (fun u_ : Visit => atW r m u_) L)) ↔ (VsOK L ∧ (1 ≤ r ∧ r ≤ 999) ∧ (480 ≤ m ∧ m ≤ 1200) ∧ 0 ≤ idxF (atW r m) L) := by
  first | (simp_all; done) | (simp_all; omega)
theorem z_c_impl_visitOf_40 (L : List Visit) (nL : Nat) (hbdL : (nL : Int) ≤ 9223372036854775807) (hleL : nL = L.length) (r : Int) (m : Int) (hq21 : idxF (fun u_ : Visit => atW r m u_) L < (L.length : Int) ∧ -1 ≤ idxF (fun u_ : Visit => atW r m u_) L) (h26 : VsOK L) (hq27 : L.length ≤ 15) (h32 : 1 ≤ r ∧ r ≤ 999) (h37 : ¬ (480 ≤ m ∧ m ≤ 1200)) : idxF (fun u_ : Visit => atW r m u_) L = idxF (atW r m) L := by
  rfl
theorem z_c_impl_visitOf_41 (L : List Visit) (nL : Nat) (hbdL : (nL : Int) ≤ 9223372036854775807) (hleL : nL = L.length) (r : Int) (m : Int) (hq21 : idxF (fun u_ : Visit => atW r m u_) L < (L.length : Int) ∧ -1 ≤ idxF (fun u_ : Visit => atW r m u_) L) (h26 : VsOK L) (hq27 : L.length ≤ 15) (h32 : 1 ≤ r ∧ r ≤ 999) (h37 : ¬ (480 ≤ m ∧ m ≤ 1200)) : ¬ (VsOK L ∧ (1 ≤ r ∧ r ≤ 999) ∧ (480 ≤ m ∧ m ≤ 1200) ∧ 0 ≤ idxF (atW r m) L) := by
  first | (simp_all; done) | (simp_all; omega)
theorem z_c_impl_visitOf_42 (L : List Visit) (nL : Nat) (hbdL : (nL : Int) ≤ 9223372036854775807) (hleL : nL = L.length) (r : Int) (m : Int) (hq21 : idxF (fun u_ : Visit => atW r m u_) L < (L.length : Int) ∧ -1 ≤ idxF (fun u_ : Visit => atW r m u_) L) (h26 : VsOK L) (hq27 : L.length ≤ 15) (h32 : ¬ (1 ≤ r ∧ r ≤ 999)) : idxF (fun u_ : Visit => atW r m u_) L = idxF (atW r m) L := by
  rfl
theorem z_c_impl_visitOf_43 (L : List Visit) (nL : Nat) (hbdL : (nL : Int) ≤ 9223372036854775807) (hleL : nL = L.length) (r : Int) (m : Int) (hq21 : idxF (fun u_ : Visit => atW r m u_) L < (L.length : Int) ∧ -1 ≤ idxF (fun u_ : Visit => atW r m u_) L) (h26 : VsOK L) (hq27 : L.length ≤ 15) (h32 : ¬ (1 ≤ r ∧ r ≤ 999)) : ¬ (VsOK L ∧ (1 ≤ r ∧ r ≤ 999) ∧ (480 ≤ m ∧ m ≤ 1200) ∧ 0 ≤ idxF (atW r m) L) := by
  first | (simp_all; done) | (simp_all; omega)
theorem z_c_impl_visitOf_44 (L : List Visit) (nL : Nat) (hbdL : (nL : Int) ≤ 9223372036854775807) (hleL : nL = L.length) (r : Int) (m : Int) (hq21 : idxF (fun u_ : Visit => atW r m u_) L < (L.length : Int) ∧ -1 ≤ idxF (fun u_ : Visit => atW r m u_) L) (h26 : ¬ (VsOK L)) : idxF (fun u_ : Visit => atW r m u_) L = idxF (atW r m) L := by
  rfl
theorem z_c_impl_visitOf_45 (L : List Visit) (nL : Nat) (hbdL : (nL : Int) ≤ 9223372036854775807) (hleL : nL = L.length) (r : Int) (m : Int) (hq21 : idxF (fun u_ : Visit => atW r m u_) L < (L.length : Int) ∧ -1 ≤ idxF (fun u_ : Visit => atW r m u_) L) (h26 : ¬ (VsOK L)) : ¬ (VsOK L ∧ (1 ≤ r ∧ r ≤ 999) ∧ (480 ≤ m ∧ m ≤ 1200) ∧ 0 ≤ idxF (atW r m) L) := by
  first | (simp_all; done) | (simp_all; omega)
theorem c_impl_visitOf (w : World) {AL : Option Addr} {nL cL BL : Nat}  (L : List Visit) (hL : SlR w BL encVisit 4 AL nL cL L) (r : Int) (m : Int) : Calls Try.prog 46 #[.slice AL nL cL, .int .i64 r, .int .i64 m] w fun e w' => e = .returned (.tuple (List.toArray [.int .i64 (idxF (atW r m) L), .bool (decide (VsOK L ∧ (1 ≤ r ∧ r ≤ 999) ∧ (480 ≤ m ∧ m ≤ 1200) ∧ 0 ≤ idxF (atW r m) L))])) ∧ Lo w w' := by
  refine calls_W 27 Try.func46 rfl rfl rfl ?_
  have hbdL := hL.bound
  have hleL := hL.len
  have hBbL := hL.bd
  refine W.seq ?_
  refine W.regS (SR.box (v := .int .i64 _) (l := [.int .i64 r]) rfl rfl ?_)
  intro g1 w2 hg3 hk4 hs5 hb6
  have hz7 := hk4.size
  have hB8 := (Lo.refl w).lo hk4
  refine SR.box (v := .int .i64 _) (l := [.int .i64 m]) rfl rfl ?_
  intro g9 w10 hg11 hk12 hs13 hb14
  have hz15 := hk12.size
  have hB16 := hB8.lo hk12
  refine SR.q' (r_as (v := .int .i64 0) rfl) <| SR.q' (r_as (v := .bool false) rfl) <| SR.nil ?_
  refine W.seq ?_
  refine W.regS (SR.q' (r_mv (v := .slice _ _ _) rfl) <| SR.q' (r_mkf rfl rfl) <| SR.call ent73 (c_slices_IndexFunc___impl_Visit_impl_Visit_ w10 L ((((hL).lo hk4).lo hk12)) (fun u_ : Visit => atW r m u_) ⟨ent74, fun w'' hw'' x => (c_impl_visitOf_1 w'' x r ((((hb6).lo hk12)).lo hw'') m (((hb14)).lo hw'')).mono fun _ _ h => ⟨h.1, h.2⟩⟩) rfl ?_)
  rintro e w17 ⟨rfl, hk18⟩
  refine ⟨_, rfl, ?_⟩
  have hz19 := hk18.size
  have hB20 := hB16.lo hk18
  have hq21 : idxF (fun u_ : Visit => atW r m u_) L < (L.length : Int) ∧ -1 ≤ idxF (fun u_ : Visit => atW r m u_) L := idx_lt
  refine SR.q' (r_as (v := .int .i64 _) rfl) <| SR.nil ?_
  refine W.seq ?_
  refine W.regS (SR.q' (r_mv (v := .int .i64 _) rfl) <| SR.q' (r_mv (v := .slice _ _ _) rfl) <| SR.call ent33 (c_impl_AreVisits w17 L (((((hL).lo hk4).lo hk12).lo hk18))) rfl ?_)
  rintro e w22 ⟨rfl, hk23⟩
  refine ⟨_, rfl, ?_⟩
  have hz24 := hk23.size
  have hB25 := hB20.lo hk23
  refine SR.q' (r_mv (v := .bool _) rfl) <| SR.splitD (fun h26 => ?_) (fun h26 => ?_)
  · have hq27 := vs_len h26
    refine SR.g' rfl (r_ld (v := .int .i64 r) sca3 rfl (((((hb6).lo hk12).lo hk18).lo hk23).cell0.trans rfl)) <| SR.gcall rfl ent60 (c_impl_isId w22 r) rfl ?_
    rintro e w28 ⟨rfl, hk29⟩
    refine ⟨_, rfl, ?_⟩
    have hz30 := hk29.size
    have hB31 := hB25.lo hk29
    refine SR.q' (r_pick true rfl (v := .bool _) rfl) <| SR.q' (r_mv (v := .bool _) rfl) <| SR.splitD (fun h32 => ?_) (fun h32 => ?_)
    · refine SR.g' rfl (r_ld (v := .int .i64 m) sca3 rfl (((((hb14).lo hk18).lo hk23).lo hk29).cell0.trans rfl)) <| SR.gcall rfl ent61 (c_impl_isMinute w28 m) rfl ?_
      rintro e w33 ⟨rfl, hk34⟩
      refine ⟨_, rfl, ?_⟩
      have hz35 := hk34.size
      have hB36 := hB31.lo hk34
      refine SR.q' (r_pick true rfl (v := .bool _) rfl) <| SR.q' (r_mv (v := .bool _) rfl) <| SR.splitD (fun h37 => ?_) (fun h37 => ?_)
      · refine SR.g' rfl (r_mv (v := .int .i64 _) rfl) <| SR.g' rfl (r_ge rfl rfl) <| SR.q' (r_pick true rfl (v := .bool _) rfl) <| SR.q' (r_as (v := .int .i64 _) rfl) <| SR.q' (r_as (v := .bool _) rfl) <| SR.nil ?_
        refine W.ret ?_
        refine ret2 rfl (v := .int .i64 _) (v' := .bool _) rfl rfl ?_
        exact ⟨eR (eT2 (eI (z_c_impl_visitOf_38 L nL hbdL hleL r m hq21 h26 hq27 h32 h37)) (eDD (z_c_impl_visitOf_39 L nL hbdL hleL r m hq21 h26 hq27 h32 h37))), hB36⟩
      · refine SR.s' rfl <| SR.s' rfl <| SR.q' (r_pick false rfl (v := .bool false) rfl) <| SR.q' (r_as (v := .int .i64 _) rfl) <| SR.q' (r_as (v := .bool _) rfl) <| SR.nil ?_
        refine W.ret ?_
        refine ret2 rfl (v := .int .i64 _) (v' := .bool _) rfl rfl ?_
        exact ⟨eR (eT2 (eI (z_c_impl_visitOf_40 L nL hbdL hleL r m hq21 h26 hq27 h32 h37)) (eDF (z_c_impl_visitOf_41 L nL hbdL hleL r m hq21 h26 hq27 h32 h37))), hB36⟩
    · refine SR.s' rfl <| SR.s' rfl <| SR.q' (r_pick false rfl (v := .bool false) rfl) <| SR.q' (r_mv (v := .bool _) rfl) <| SR.s' rfl <| SR.s' rfl <| SR.q' (r_pick false rfl (v := .bool false) rfl) <| SR.q' (r_as (v := .int .i64 _) rfl) <| SR.q' (r_as (v := .bool _) rfl) <| SR.nil ?_
      refine W.ret ?_
      refine ret2 rfl (v := .int .i64 _) (v' := .bool _) rfl rfl ?_
      exact ⟨eR (eT2 (eI (z_c_impl_visitOf_42 L nL hbdL hleL r m hq21 h26 hq27 h32)) (eDF (z_c_impl_visitOf_43 L nL hbdL hleL r m hq21 h26 hq27 h32))), hB31⟩
  · refine SR.s' rfl <| SR.s' rfl <| SR.q' (r_pick false rfl (v := .bool false) rfl) <| SR.q' (r_mv (v := .bool _) rfl) <| SR.s' rfl <| SR.s' rfl <| SR.q' (r_pick false rfl (v := .bool false) rfl) <| SR.q' (r_mv (v := .bool _) rfl) <| SR.s' rfl <| SR.s' rfl <| SR.q' (r_pick false rfl (v := .bool false) rfl) <| SR.q' (r_as (v := .int .i64 _) rfl) <| SR.q' (r_as (v := .bool _) rfl) <| SR.nil ?_
    refine W.ret ?_
    refine ret2 rfl (v := .int .i64 _) (v' := .bool _) rfl rfl ?_
    exact ⟨eR (eT2 (eI (z_c_impl_visitOf_44 L nL hbdL hleL r m hq21 h26)) (eDF (z_c_impl_visitOf_45 L nL hbdL hleL r m hq21 h26))), hB25⟩
end Go.Proofs.Ythgbcadgnihdiaa
