/- Words and walks of this claim. -/
import Derived.Test.YtndcchndcghmoaaGreatDoorChecked
import Derived.Test.YtndcchndcghmoaaGreatDoorMExactReplayLogd
set_option linter.unusedVariables false
namespace Go.Proofs.YtndcchndcghmoaaGreatDoor
open Go Go.RowKit Fw
set_option maxRecDepth 10000
set_option maxHeartbeats 2000000
set_option linter.unusedVariables false
theorem ent135 : Ent Tryz.prog 135 := en Tryz.func135
theorem ent136 : Ent Tryz.prog 136 := en Tryz.func136
theorem ent137 : Ent Tryz.prog 137 := en Tryz.func137
theorem ent138 : Ent Tryz.prog 138 := en Tryz.func138
theorem ent139 : Ent Tryz.prog 139 := en Tryz.func139
theorem ent153 : Ent Tryz.prog 153 := en Tryz.func153
theorem ent154 : Ent Tryz.prog 154 := en Tryz.func154
theorem ent155 : Ent Tryz.prog 155 := en Tryz.func155
theorem ent156 : Ent Tryz.prog 156 := en Tryz.func156
theorem ent157 : Ent Tryz.prog 157 := en Tryz.func157
theorem ent176 : Ent Tryz.prog 176 := en Tryz.func176
theorem ent73 : Ent Tryz.prog 73 := en Tryz.func73
open Classical in
noncomputable def impl_tell (x : Library) (s : List UInt8) (L : List Int) : List UInt8 × Bool :=
 if (s = ([116, 101, 120, 116] : List UInt8)) ∧ ((L.length : Int) = 1) then ((mapT x (gt L 0)).1, (mapT x (gt L 0)).2) else if (s = ([97, 116] : List UInt8)) ∧ ((L.length : Int) = 1) then (listN (if LibOK x ∧ (1 ≤ (gt L 0) ∧ (gt L 0) ≤ 999) then selL (atR (gt L 0)) Away.Map x.Away else []), decide (LibOK x ∧ (1 ≤ (gt L 0) ∧ (gt L 0) ≤ 999))) else if (s = ([114, 101, 97, 100, 101, 114, 115] : List UInt8)) ∧ ((L.length : Int) = 1) then (listN (if LibOK x ∧ 0 ≤ idxF (hasId (gt L 0)) x.Maps then selL (ofM (gt L 0)) Away.Reader x.Away else []), decide (LibOK x ∧ 0 ≤ idxF (hasId (gt L 0)) x.Maps)) else if 0 < (L.length : Int) then (([] : List UInt8), false) else if s = ([109, 97, 121] : List UInt8) then (listN (if LibOK x then selL mayM LMap.Id x.Maps else []), decide (LibOK x)) else if s = ([116, 104, 101, 114, 101] : List UInt8) then (Lib.itoa (sumC x.Maps), true) else if s = ([116, 111, 114, 110] : List UInt8) then (Lib.itoa (if LibOK x then sumT x.Maps else 0), decide (LibOK x)) else if s = ([98, 111, 117, 103, 104, 116] : List UInt8) then (Lib.itoa x.Bought, true) else if s = ([109, 101, 110, 100, 101, 100] : List UInt8) then (Lib.itoa x.Mended, true) else (([] : List UInt8), false)
theorem c_impl_tell (w : World) (x : Library) {Ax1 : Option Addr} {nx1 cx1 Bx1 : Nat} (hx1 : SlR w Bx1 encLMap 3 Ax1 nx1 cx1 x.Maps) {Ax2 : Option Addr} {nx2 cx2 Bx2 : Nat} (hx2 : SlR w Bx2 encAway 2 Ax2 nx2 cx2 x.Away) (s : List UInt8) {AL : Option Addr} {nL cL BL : Nat}  (L : List Int) (hL : SlR w BL encI 1 AL nL cL L) (hp0 : (nx1 : Int) ≤ 8) (hp1 : (nx2 : Int) ≤ 8) (hp2 : nL ≤ 1000) (hp3 : LibOK x) (hp4 : MapsOK x.Maps) (hE : EnvW w) : Calls Tryz.prog 98 #[.agg (List.toArray (cLb Ax1 nx1 cx1 Ax2 nx2 cx2 x)), str s, .slice AL nL cL] w fun e w' => e = .returned (.tuple (List.toArray [str ((impl_tell x s L).1), .bool ((impl_tell x s L).2)])) ∧ Lo w w' := by
 refine calls_W 105 Tryz.func98 rfl rfl rfl ?_
 have hbdx1 := hx1.bound
 have hlex1 := hx1.len
 have hBbx1 := hx1.bd
 have hbdx2 := hx2.bound
 have hlex2 := hx2.len
 have hBbx2 := hx2.bd
 have hbdL := hL.bound
 have hleL := hL.len
 have hBbL := hL.bd
 have hlb := lib_rng hp3
 refine Ws (Wr (SR.box (v := .agg (List.toArray _)) (l := (cLb Ax1 nx1 cx1 Ax2 nx2 cx2 x)) rfl rfl ?_))
 intro g1 w2 hg3 hk4 hs5 hb6
 refine Q (r_as (v := str ([] : List UInt8)) rfl) <| Q (aB rfl) <| Qn (Ws (Wr (Q (r_as (v := .slice none 0 0) rfl) <| Qn (Ws (Wr (Q (aI rfl) <| Q (aB rfl) <| Qn (Ws (W.block (Ws (W.regJS (fun f' w' => At f' [(1, str s), (2, .slice AL nL cL), (3, .pointer (pA g1)), (6, str ([] : List UInt8)), (7, .bool false), (8, .slice none 0 0), (9, .int .i64 0), (10, .bool true), (11, .bool (decide ((s = ([116, 101, 120, 116] : List UInt8)) ∧ ((nL : Int) = 1))))] ∧ Lo w2 w') ?_ ?_))))))))))
 ·refine Q (mS rfl) <| Q (r_eqs (s := s) (r := ([116, 101, 120, 116] : List UInt8)) rfl rfl) <| Q (mB rfl) <| SR.splitD (fun h9 => ?_) (fun h9 => ?_)
  ·refine Qg rfl (mL rfl) <| Qg rfl (r_len und93 rfl) <| Qg rfl (r_eq rfl rfl) <| Q (r_pick true rfl (v := .bool _) rfl) <| Q (aB rfl) <| Qn (⟨_, rfl, ⟨⟨rfl, rfl, rfl, rfl, rfl, rfl, rfl, rfl, (eDD (jat h9)), trivial⟩, (Lo.refl _)⟩⟩)
  ·refine Qs rfl <| Qs rfl <| Qs rfl <| Q (r_pick false rfl (v := .bool false) rfl) <| Q (aB rfl) <| Qn (⟨_, rfl, ⟨⟨rfl, rfl, rfl, rfl, rfl, rfl, rfl, rfl, (eDF (jaf h9).2), trivial⟩, (Lo.refl _)⟩⟩)
 rintro f10 w11 ⟨hat12, hk13⟩
 rw [← sets_of_at hat12]
 have hz14 := hk13.size
 have hB15 := ((Lo.refl w).lo hk4).lo hk13
 refine W.cond_d rfl (fun h16 => ?_) (fun h16 => ?_)
 ·have hq17 : s = ([116, 101, 120, 116] : List UInt8) := h16.1
  have hq18 : (nL : Int) = 1 := h16.2
  refine Ws ?_
  have hm19 := (hL.lo hk4).lo hk13
  refine W.regD mo (by kernel_rfl) (QR.q' (fun w' hw' => r_lda (l := (cLb Ax1 nx1 cx1 Ax2 nx2 cx2 x)) agg34 rfl (fun _ _ hu => ((hb6.lo hk13).lo hw').cell hu) rfl) <| QR.q' (fun w' hw' => r_mv (v := .slice _ _ _) rfl) <| ?_)
  have hx23 := hm19.elem (i := 0) (by omega)
  refine QR.q' (fun w' hw' => r_ixR tsl93 (hm19.lo hw') rfl rfl (by omega)) <| QR.q' (fun w' hw' => r_ld (v := .int .i64 (gt L 0)) sca3 rfl ((hm19.lo hw').cell0 hx23 rfl)) <| QR.call ent73 (fun w' hw' => (c_impl_MapText w' x (((hx1.lo hk4).lo hk13).lo hw') (((hx2.lo hk4).lo hk13).lo hw') (gt L 0) (by omega) (hE.lo (hB15.trans hw'))).mono fun _ _ h => ⟨h.1, hw'.trans h.2⟩) rfl <| ?_
  have hq24 : (mapT x (gt L 0)).1.length ≤ 75 := mapT_len x (gt L 0)
  refine QR.q' (fun w' hw' => r_ext (v := str _) rfl rfl) <| QR.q' (fun w' hw' => r_ext (v := .bool _) rfl rfl) <| QR.q' (fun w' hw' => r_as (v := str _) rfl) <| QR.q' (fun w' hw' => r_as (v := .bool _) rfl) <| QR.nil ?_
  intro w25 hk26
  have hz27 := hk26.size
  refine W.ret (ret2 rfl (v := str _) (v' := .bool _) rfl rfl ?_)
  refine ⟨eR (eT2 (eS ?_) (eB ?_)), (hB15.lo hk26)⟩ <;> (subst hleL; unfold impl_tell; rw [if_pos h16] <;> rfl)
 ·refine Ws ?_
  have hm29 := (hL.lo hk4).lo hk13
  have hm30 := (hx1.lo hk4).lo hk13
  have hm31 := (hx2.lo hk4).lo hk13
  refine W.regJS (fun f' w' => At f' [(1, str s), (2, .slice AL nL cL), (3, .pointer (pA g1)), (6, str ([] : List UInt8)), (7, .bool false), (8, .slice none 0 0), (9, .int .i64 0), (10, .bool true), (26, .bool (decide ((s = ([97, 116] : List UInt8)) ∧ ((nL : Int) = 1))))] ∧ Lo w11 w') ?_ ?_
  ·refine Q (mS rfl) <| Q (r_eqs (s := s) (r := ([97, 116] : List UInt8)) rfl rfl) <| Q (mB rfl) <| SR.splitD (fun h32 => ?_) (fun h32 => ?_)
   ·refine Qg rfl (mL rfl) <| Qg rfl (r_len und93 rfl) <| Qg rfl (r_eq rfl rfl) <| Q (r_pick true rfl (v := .bool _) rfl) <| Q (aB rfl) <| Qn (⟨_, rfl, ⟨⟨rfl, rfl, rfl, rfl, rfl, rfl, rfl, rfl, (eDD (jat h32)), trivial⟩, (Lo.refl _)⟩⟩)
   ·refine Qs rfl <| Qs rfl <| Qs rfl <| Q (r_pick false rfl (v := .bool false) rfl) <| Q (aB rfl) <| Qn (⟨_, rfl, ⟨⟨rfl, rfl, rfl, rfl, rfl, rfl, rfl, rfl, (eDF (jaf h32).2), trivial⟩, (Lo.refl _)⟩⟩)
  rintro f33 w34 ⟨hat35, hk36⟩
  rw [← sets_of_at hat35]
  have hz37 := hk36.size
  have hB38 := hB15.lo hk36
  refine W.cond_d rfl (fun h39 => ?_) (fun h39 => ?_)
  ·have hq40 : s = ([97, 116] : List UInt8) := h39.1
   have hq41 : (nL : Int) = 1 := h39.2
   refine Ws (W.regA (Lo w34) (fun f' w' => ∃ (A51 : Option Addr) (n52 : Nat) (c53 : Nat), At f' [(6, str ([] : List UInt8)), (7, .bool false), (8, .slice A51 n52 c53), (9, .int .i64 0), (10, .bool (decide (LibOK x ∧ (1 ≤ (gt L 0) ∧ (gt L 0) ≤ 999))))] ∧ (Lo w34 w') ∧ (SlO w' w34.heap.size encI 1 3 A51 n52 c53 (if LibOK x ∧ (1 ≤ (gt L 0) ∧ (gt L 0) ≤ 999) then selL (atR (gt L 0)) Away.Map x.Away else [])) ∧ (L[0]? = some (gt L 0)) ∧ (n52 = (if LibOK x ∧ (1 ≤ (gt L 0) ∧ (gt L 0) ≤ 999) then selL (atR (gt L 0)) Away.Map x.Away else []).length) ∧ ((n52 : Int) ≤ 9223372036854775807) ∧ ((if LibOK x ∧ (1 ≤ (gt L 0) ∧ (gt L 0) ≤ 999) then selL (atR (gt L 0)) Away.Map x.Away else []).length ≤ x.Away.length) ∧ (IntsIn (if LibOK x ∧ (1 ≤ (gt L 0) ∧ (gt L 0) ≤ 999) then selL (atR (gt L 0)) Away.Map x.Away else []))) mo ?_ ?_)
   ·intro w63 hk64
    have hz65 := hk64.size
    refine Ak 0 rfl hk64 (fun w' hw' => r_lda (l := (cLb Ax1 nx1 cx1 Ax2 nx2 cx2 x)) agg34 rfl (fun _ _ hu => (((hb6.lo hk13).lo hk36).lo hw').cell hu) rfl) <| Ak 1 rfl hk64 (fun w' hw' => r_mv (v := .slice _ _ _) rfl) <| ?_
    have hx68 := ((hm29.lo hk36).lo hk64).elem (i := 0) (by omega)
    refine Ak 2 rfl hk64 (fun w' hw' => r_ixR tsl93 ((hm29.lo hk36).lo hw') rfl rfl (by omega)) <| Ak 3 rfl hk64 (fun w' hw' => r_ld (v := .int .i64 (gt L 0)) sca3 rfl (((hm29.lo hk36).lo hw').cell0 hx68 rfl)) <| Ab 4 rfl (SR.call ent153 (c_impl_MapsAt w63 x ((hm30.lo hk36).lo hk64) ((hm31.lo hk36).lo hk64) (gt L 0) (by omega)) rfl ?_)
    rintro e w69 ⟨A71, n72, c73, rfl, hO74, hk70⟩
    refine ⟨_, rfl, ?_⟩
    have hz75 := hk70.size
    have hS77 := hk64.lo hk70
    have hl78 := hO74.len
    have hl79 := hO74.rd.bound
    have hq80 := (selif_len _ _ _ _ : (if LibOK x ∧ (1 ≤ (gt L 0) ∧ (gt L 0) ≤ 999) then selL (atR (gt L 0)) Away.Map x.Away else []).length ≤ x.Away.length)
    have hq81 : IntsIn (if LibOK x ∧ (1 ≤ (gt L 0) ∧ (gt L 0) ≤ 999) then selL (atR (gt L 0)) Away.Map x.Away else []) := ints_at x (gt L 0)
    refine Qn ⟨hS77, _, rfl, (Ak 5 rfl hS77 (fun w' hw' => r_mv (v := .tuple (List.toArray _)) rfl) <| Ak 6 rfl hS77 (fun w' hw' => r_ext (v := .slice _ _ _) rfl rfl) <| Ak 7 rfl hS77 (fun w' hw' => r_ext (v := .bool _) rfl rfl) <| Ak 8 rfl hS77 (fun w' hw' => r_as (v := .slice _ _ _) rfl) <| Ak 9 rfl hS77 (fun w' hw' => r_as (v := .bool _) rfl) <| AH.done (by kernel_rfl) (⟨A71, n72, c73, (At.r rfl), hS77, (hO74.down), hx68, hl78, hl79, hq80, hq81⟩))⟩
   rintro f82 w83 ⟨A51, n52, c53, hat85, hR84, hm62, hx48, hl58, hl59, hq60, hq61⟩
   rw [← sets_of_at hat85]
   have hz86 := hR84.size
   have hB87 := hB38.lo hR84
   refine Ws (Wr (Q (mL rfl) <| Qv ent154 (c_impl_listed w83 (if LibOK x ∧ (1 ≤ (gt L 0) ∧ (gt L 0) ≤ 999) then selL (atR (gt L 0)) Away.Map x.Away else []) (hm62.rd) (by omega) (by assumption) (hE.lo hB87)) rfl fun w88 hk89 hz90 => ?_))
   have hq92 : (listN (if LibOK x ∧ (1 ≤ (gt L 0) ∧ (gt L 0) ≤ 999) then selL (atR (gt L 0)) Away.Map x.Away else [])).length ≤ 22 * (if LibOK x ∧ (1 ≤ (gt L 0) ∧ (gt L 0) ≤ 999) then selL (atR (gt L 0)) Away.Map x.Away else []).length + 4 := listN_len (if LibOK x ∧ (1 ≤ (gt L 0) ∧ (gt L 0) ≤ 999) then selL (atR (gt L 0)) Away.Map x.Away else []) (by assumption) (by omega)
   refine Q (mB rfl) <| Q (aS rfl) <| Q (aB rfl) <| Qn (W.ret (ret2 rfl (v := str _) (v' := .bool _) rfl rfl ?_))
   refine ⟨eR (eT2 (eS ?_) (eB ?_)), (hB87.lo hk89)⟩ <;> (subst hleL; unfold impl_tell; rw [if_neg h16, if_pos h39] <;> rfl)
  ·refine Ws ?_
   have hm93 := (hb6.lo hk13).lo hk36
   refine W.regJS (fun f' w' => At f' [(1, str s), (2, .slice AL nL cL), (3, .pointer (pA g1)), (6, str ([] : List UInt8)), (7, .bool false), (8, .slice none 0 0), (9, .int .i64 0), (10, .bool true), (45, .bool (decide ((s = ([114, 101, 97, 100, 101, 114, 115] : List UInt8)) ∧ ((nL : Int) = 1))))] ∧ Lo w34 w') ?_ ?_
   ·refine Q (mS rfl) <| Q (r_eqs (s := s) (r := ([114, 101, 97, 100, 101, 114, 115] : List UInt8)) rfl rfl) <| Q (mB rfl) <| SR.splitD (fun h94 => ?_) (fun h94 => ?_)
    ·refine Qg rfl (mL rfl) <| Qg rfl (r_len und93 rfl) <| Qg rfl (r_eq rfl rfl) <| Q (r_pick true rfl (v := .bool _) rfl) <| Q (aB rfl) <| Qn (⟨_, rfl, ⟨⟨rfl, rfl, rfl, rfl, rfl, rfl, rfl, rfl, (eDD (jat h94)), trivial⟩, (Lo.refl _)⟩⟩)
    ·refine Qs rfl <| Qs rfl <| Qs rfl <| Q (r_pick false rfl (v := .bool false) rfl) <| Q (aB rfl) <| Qn (⟨_, rfl, ⟨⟨rfl, rfl, rfl, rfl, rfl, rfl, rfl, rfl, (eDF (jaf h94).2), trivial⟩, (Lo.refl _)⟩⟩)
   rintro f95 w96 ⟨hat97, hk98⟩
   rw [← sets_of_at hat97]
   have hz99 := hk98.size
   have hB100 := hB38.lo hk98
   refine W.cond_d rfl (fun h101 => ?_) (fun h101 => ?_)
   ·have hq102 : s = ([114, 101, 97, 100, 101, 114, 115] : List UInt8) := h101.1
    have hq103 : (nL : Int) = 1 := h101.2
    refine Ws ?_
    have hm104 := (hm29.lo hk36).lo hk98
    refine W.regA (Lo w96) (fun f' w' => ∃ (A115 : Option Addr) (n116 : Nat) (c117 : Nat), At f' [(6, str ([] : List UInt8)), (7, .bool false), (8, .slice A115 n116 c117), (9, .int .i64 0), (10, .bool (decide (LibOK x ∧ 0 ≤ idxF (hasId (gt L 0)) x.Maps)))] ∧ (Lo w96 w') ∧ (SlO w' w96.heap.size encI 1 3 A115 n116 c117 (if LibOK x ∧ 0 ≤ idxF (hasId (gt L 0)) x.Maps then selL (ofM (gt L 0)) Away.Reader x.Away else [])) ∧ (L[0]? = some (gt L 0)) ∧ (n116 = (if LibOK x ∧ 0 ≤ idxF (hasId (gt L 0)) x.Maps then selL (ofM (gt L 0)) Away.Reader x.Away else []).length) ∧ ((n116 : Int) ≤ 9223372036854775807) ∧ ((if LibOK x ∧ 0 ≤ idxF (hasId (gt L 0)) x.Maps then selL (ofM (gt L 0)) Away.Reader x.Away else []).length ≤ x.Away.length) ∧ (IntsIn (if LibOK x ∧ 0 ≤ idxF (hasId (gt L 0)) x.Maps then selL (ofM (gt L 0)) Away.Reader x.Away else []))) mo ?_ ?_
    ·intro w127 hk128
     have hz129 := hk128.size
     refine Ak 0 rfl hk128 (fun w' hw' => r_lda (l := (cLb Ax1 nx1 cx1 Ax2 nx2 cx2 x)) agg34 rfl (fun _ _ hu => ((hm93.lo hk98).lo hw').cell hu) rfl) <| Ak 1 rfl hk128 (fun w' hw' => r_mv (v := .slice _ _ _) rfl) <| ?_
     have hx132 := (hm104.lo hk128).elem (i := 0) (by omega)
     refine Ak 2 rfl hk128 (fun w' hw' => r_ixR tsl93 (hm104.lo hw') rfl rfl (by omega)) <| Ak 3 rfl hk128 (fun w' hw' => r_ld (v := .int .i64 (gt L 0)) sca3 rfl ((hm104.lo hw').cell0 hx132 rfl)) <| Ab 4 rfl (SR.call ent155 (c_impl_ReadersOf w127 x (((hm30.lo hk36).lo hk98).lo hk128) (((hm31.lo hk36).lo hk98).lo hk128) (gt L 0) (by omega)) rfl ?_)
     rintro e w133 ⟨A135, n136, c137, rfl, hO138, hk134⟩
     refine ⟨_, rfl, ?_⟩
     have hz139 := hk134.size
     have hS141 := hk128.lo hk134
     have hl142 := hO138.len
     have hl143 := hO138.rd.bound
     have hq144 := (selif_len _ _ _ _ : (if LibOK x ∧ 0 ≤ idxF (hasId (gt L 0)) x.Maps then selL (ofM (gt L 0)) Away.Reader x.Away else []).length ≤ x.Away.length)
     have hq145 : IntsIn (if LibOK x ∧ 0 ≤ idxF (hasId (gt L 0)) x.Maps then selL (ofM (gt L 0)) Away.Reader x.Away else []) := ints_rd x (gt L 0)
     refine Qn ⟨hS141, _, rfl, (Ak 5 rfl hS141 (fun w' hw' => r_mv (v := .tuple (List.toArray _)) rfl) <| Ak 6 rfl hS141 (fun w' hw' => r_ext (v := .slice _ _ _) rfl rfl) <| Ak 7 rfl hS141 (fun w' hw' => r_ext (v := .bool _) rfl rfl) <| Ak 8 rfl hS141 (fun w' hw' => r_as (v := .slice _ _ _) rfl) <| Ak 9 rfl hS141 (fun w' hw' => r_as (v := .bool _) rfl) <| AH.done (by kernel_rfl) (⟨A135, n136, c137, (At.r rfl), hS141, (hO138.down), hx132, hl142, hl143, hq144, hq145⟩))⟩
    rintro f146 w147 ⟨A115, n116, c117, hat149, hR148, hm126, hx112, hl122, hl123, hq124, hq125⟩
    rw [← sets_of_at hat149]
    have hz150 := hR148.size
    have hB151 := hB100.lo hR148
    refine Ws (Wr (Q (mL rfl) <| Qv ent154 (c_impl_listed w147 (if LibOK x ∧ 0 ≤ idxF (hasId (gt L 0)) x.Maps then selL (ofM (gt L 0)) Away.Reader x.Away else []) (hm126.rd) (by omega) (by assumption) (hE.lo hB151)) rfl fun w152 hk153 hz154 => ?_))
    have hq156 : (listN (if LibOK x ∧ 0 ≤ idxF (hasId (gt L 0)) x.Maps then selL (ofM (gt L 0)) Away.Reader x.Away else [])).length ≤ 22 * (if LibOK x ∧ 0 ≤ idxF (hasId (gt L 0)) x.Maps then selL (ofM (gt L 0)) Away.Reader x.Away else []).length + 4 := listN_len (if LibOK x ∧ 0 ≤ idxF (hasId (gt L 0)) x.Maps then selL (ofM (gt L 0)) Away.Reader x.Away else []) (by assumption) (by omega)
    refine Q (mB rfl) <| Q (aS rfl) <| Q (aB rfl) <| Qn (W.ret (ret2 rfl (v := str _) (v' := .bool _) rfl rfl ?_))
    refine ⟨eR (eT2 (eS ?_) (eB ?_)), (hB151.lo hk153)⟩ <;> (subst hleL; unfold impl_tell; rw [if_neg h16, if_neg h39, if_pos h101] <;> rfl)
   ·refine Ws ?_
    have hm158 := (hm30.lo hk36).lo hk98
    have hm159 := (hm31.lo hk36).lo hk98
    refine Wr (Q (mL rfl) <| Q (r_len und93 rfl) <| Q (r_gt rfl rfl) <| Q (aB rfl) <| Qn (W.cond_d rfl (fun h160 => ?_) (fun h160 => ?_)))
    ·refine Ws (Wr (Q (r_as (v := str ([] : List UInt8)) rfl) <| Q (aB rfl) <| Qn (W.ret (ret2 rfl (v := str _) (v' := .bool _) rfl rfl ?_))))
     refine ⟨eR (eT2 (eS ?_) (eB ?_)), hB100⟩ <;> (subst hleL; unfold impl_tell; rw [if_neg h16, if_neg h39, if_neg h101, if_pos h160] <;> rfl)
    ·refine Ws (Wr (Q (mS rfl) <| Q (r_eqs (s := s) (r := ([109, 97, 121] : List UInt8)) rfl rfl) <| Q (aB rfl) <| Qn (W.cond_d rfl (fun h161 => ?_) (fun h161 => ?_))))
     ·refine Ws (Wr (Q (lG agg34 rfl (hm93.lo hk98) rfl) <| SR.call ent156 (c_impl_MayLend w96 x hm158 hm159 (by omega)) rfl ?_))
      rintro e w162 ⟨A164, n165, c166, rfl, hO167, hk163⟩
      refine ⟨_, rfl, ?_⟩
      have hz168 := hk163.size
      have hB169 := hB100.lo hk163
      have hl170 := hO167.len
      have hl171 := hO167.rd.bound
      have hq172 := (selif_len _ _ _ _ : (if LibOK x then selL mayM LMap.Id x.Maps else []).length ≤ x.Maps.length)
      have hq173 : IntsIn (if LibOK x then selL mayM LMap.Id x.Maps else []) := ints_may x
      refine Q (mT rfl) <| Q (xL rfl rfl) <| Q (xB rfl rfl) <| Q (aL rfl) <| Q (aB rfl) <| Qn (Ws (Wr (Q (mL rfl) <| Qv ent154 (c_impl_listed w162 (if LibOK x then selL mayM LMap.Id x.Maps else []) (hO167.rd) (by omega) (by assumption) (hE.lo hB169)) rfl fun w174 hk175 hz176 => ?_)))
      have hq178 : (listN (if LibOK x then selL mayM LMap.Id x.Maps else [])).length ≤ 22 * (if LibOK x then selL mayM LMap.Id x.Maps else []).length + 4 := listN_len (if LibOK x then selL mayM LMap.Id x.Maps else []) (by assumption) (by omega)
      refine Q (mB rfl) <| Q (aS rfl) <| Q (aB rfl) <| Qn (W.ret (ret2 rfl (v := str _) (v' := .bool _) rfl rfl ?_))
      refine ⟨eR (eT2 (eS ?_) (eB ?_)), (hB169.lo hk175)⟩ <;> (subst hleL; unfold impl_tell; rw [if_neg h16, if_neg h39, if_neg h101, if_neg h160, if_pos h161] <;> rfl)
     ·refine Ws (Wr (Q (mS rfl) <| Q (r_eqs (s := s) (r := ([116, 104, 101, 114, 101] : List UInt8)) rfl rfl) <| Q (aB rfl) <| Qn (W.cond_d rfl (fun h179 => ?_) (fun h179 => ?_))))
      ·refine Wr (Q (lG agg34 rfl (hm93.lo hk98) rfl) <| Qv ent125 (c__impl_Library__copies w96 x hm158 hm159 (by first | assumption | exact MTo.end_ (And.right ‹_ ∧ MTo _ _›) (by omega)) (by omega)) rfl fun w180 hk181 hz182 => ?_)
       have hB183 := hB100.lo hk181
       have hq184 : 0 ≤ sumC x.Maps ∧ sumC x.Maps ≤ 792 := sumC_rng (by first | assumption | exact MTo.end_ (And.right ‹_ ∧ MTo _ _›) (by omega)) (by omega)
       refine Q (aI rfl) <| Qn (Ws (Wr (Q (mI rfl) <| Qv ent74 (c_impl_text w180 (sumC x.Maps) (by omega) (hE.lo hB183)) rfl fun w185 hk186 hz187 => ?_)))
       have hq189 : (Lib.itoa (sumC x.Maps)).length ≤ 21 := itoa_len (n := sumC x.Maps) (by omega) (by omega)
       refine Q (mB rfl) <| Q (aS rfl) <| Q (aB rfl) <| Qn (W.ret (ret2 rfl (v := str _) (v' := .bool _) rfl rfl ?_))
       refine ⟨eR (eT2 (eS ?_) (eB ?_)), (hB183.lo hk186)⟩ <;> (subst hleL; unfold impl_tell; rw [if_neg h16, if_neg h39, if_neg h101, if_neg h160, if_neg h161, if_pos h179] <;> rfl)
      ·refine Ws (Wr (Q (mS rfl) <| Q (r_eqs (s := s) (r := ([116, 111, 114, 110] : List UInt8)) rfl rfl) <| Q (aB rfl) <| Qn (W.cond_d rfl (fun h190 => ?_) (fun h190 => ?_))))
       ·refine Wr (Q (lG agg34 rfl (hm93.lo hk98) rfl) <| Qv ent157 (c_impl_TornCopies w96 x hm158 hm159 (by omega)) rfl fun w191 hk192 hz193 => ?_)
        have hB194 := hB100.lo hk192
        have hq195 : 0 ≤ (if LibOK x then sumT x.Maps else 0) ∧ (if LibOK x then sumT x.Maps else 0) ≤ 9999 := torn_rng x
        refine Q (mT rfl) <| Q (xI rfl rfl) <| Q (xB rfl rfl) <| Q (aI rfl) <| Q (aB rfl) <| Qn (Ws (Wr (Q (mI rfl) <| Qv ent74 (c_impl_text w191 (if LibOK x then sumT x.Maps else 0) (by omega) (hE.lo hB194)) rfl fun w196 hk197 hz198 => ?_)))
        have hq200 : (Lib.itoa (if LibOK x then sumT x.Maps else 0)).length ≤ 21 := itoa_len (n := (if LibOK x then sumT x.Maps else 0)) (by omega) (by omega)
        refine Q (mB rfl) <| Q (aS rfl) <| Q (aB rfl) <| Qn (W.ret (ret2 rfl (v := str _) (v' := .bool _) rfl rfl ?_))
        refine ⟨eR (eT2 (eS ?_) (eB ?_)), (hB194.lo hk197)⟩ <;> (subst hleL; unfold impl_tell; rw [if_neg h16, if_neg h39, if_neg h101, if_neg h160, if_neg h161, if_neg h179, if_pos h190] <;> rfl)
       ·refine Ws (Wr (Q (mS rfl) <| Q (r_eqs (s := s) (r := ([98, 111, 117, 103, 104, 116] : List UInt8)) rfl rfl) <| Q (aB rfl) <| Qn (W.cond_d rfl (fun h201 => ?_) (fun h201 => ?_))))
        ·refine Wr (Q (fA fa34_2 rfl) <| Q (lB sca3 rfl (hm93.lo hk98) rfl) <| Q (aI rfl) <| Qn (Ws (Wr (Q (mI rfl) <| Qv ent74 (c_impl_text w96 x.Bought (by omega) (hE.lo hB100)) rfl fun w202 hk203 hz204 => ?_))))
         have hq206 : (Lib.itoa x.Bought).length ≤ 21 := itoa_len (n := x.Bought) (by omega) (by omega)
         refine Q (mB rfl) <| Q (aS rfl) <| Q (aB rfl) <| Qn (W.ret (ret2 rfl (v := str _) (v' := .bool _) rfl rfl ?_))
         refine ⟨eR (eT2 (eS ?_) (eB ?_)), (hB100.lo hk203)⟩ <;> (subst hleL; unfold impl_tell; rw [if_neg h16, if_neg h39, if_neg h101, if_neg h160, if_neg h161, if_neg h179, if_neg h190, if_pos h201] <;> rfl)
        ·refine Ws (Wr (Q (mS rfl) <| Q (r_eqs (s := s) (r := ([109, 101, 110, 100, 101, 100] : List UInt8)) rfl rfl) <| Q (aB rfl) <| Qn (W.cond_d rfl (fun h207 => ?_) (fun h207 => ?_))))
         ·refine Wr (Q (fA fa34_4 rfl) <| Q (lB sca3 rfl (hm93.lo hk98) rfl) <| Q (aI rfl) <| Qn (Ws (Wr (Q (mI rfl) <| Qv ent74 (c_impl_text w96 x.Mended (by omega) (hE.lo hB100)) rfl fun w208 hk209 hz210 => ?_))))
          have hq212 : (Lib.itoa x.Mended).length ≤ 21 := itoa_len (n := x.Mended) (by omega) (by omega)
          refine Q (mB rfl) <| Q (aS rfl) <| Q (aB rfl) <| Qn (W.ret (ret2 rfl (v := str _) (v' := .bool _) rfl rfl ?_))
          refine ⟨eR (eT2 (eS ?_) (eB ?_)), (hB100.lo hk209)⟩ <;> (subst hleL; unfold impl_tell; rw [if_neg h16, if_neg h39, if_neg h101, if_neg h160, if_neg h161, if_neg h179, if_neg h190, if_neg h201, if_pos h207] <;> rfl)
         ·refine Ws (Wr (Q (r_as (v := str ([] : List UInt8)) rfl) <| Q (aB rfl) <| Qn (W.ret (ret2 rfl (v := str _) (v' := .bool _) rfl rfl ?_))))
          refine ⟨eR (eT2 (eS ?_) (eB ?_)), hB100⟩ <;> (subst hleL; unfold impl_tell; rw [if_neg h16, if_neg h39, if_neg h101, if_neg h160, if_neg h161, if_neg h179, if_neg h190, if_neg h201, if_neg h207] <;> rfl)
open Classical in
noncomputable def spec_l34Map (x : Library) (id : Int) : List UInt8 :=
 if (!((mapT x id).2)) = true then ([63] : List UInt8) else (mapT x id).1
theorem c_spec_l34Map (w : World) (x : Library) {Ax1 : Option Addr} {nx1 cx1 Bx1 : Nat} (hx1 : SlR w Bx1 encLMap 3 Ax1 nx1 cx1 x.Maps) {Ax2 : Option Addr} {nx2 cx2 Bx2 : Nat} (hx2 : SlR w Bx2 encAway 2 Ax2 nx2 cx2 x.Away) (id : Int) : Calls Tryz.prog 142 #[.agg (List.toArray (cLb Ax1 nx1 cx1 Ax2 nx2 cx2 x)), .int .i64 id] w fun e w' => e = .returned (str (spec_l34Map x id)) ∧ Lo w w' := by
 refine calls_W 16 Tryz.func142 rfl rfl rfl ?_
 have hbdx1 := hx1.bound
 have hlex1 := hx1.len
 have hBbx1 := hx1.bd
 have hbdx2 := hx2.bound
 have hlex2 := hx2.len
 have hBbx2 := hx2.bd
 refine Ws (Wr (SR.box (v := .agg (List.toArray _)) (l := (cLb Ax1 nx1 cx1 Ax2 nx2 cx2 x)) rfl rfl ?_))
 intro g1 w2 hg3 hk4 hs5 hb6
 refine Q (r_as (v := str ([] : List UInt8)) rfl) <| Qn (Ws (Wr (Q (lG agg34 rfl hb6 rfl) <| Q (mI rfl) <| Qv ent176 (c_spec_MapText w2 x (hx1.lo hk4) (hx2.lo hk4) id) rfl fun w9 hk10 hz11 => ?_)))
 have hB12 := ((Lo.refl w).lo hk4).lo hk10
 have hq13 : (mapT x id).1.length ≤ 75 := mapT_len x id
 refine Q (mT rfl) <| Q (xS rfl rfl) <| Q (xB rfl rfl) <| Q (aS rfl) <| Q (aB rfl) <| Qn (Ws (Ws (Wr (Q (mB rfl) <| Q (r_not rfl) <| Qn (W.cond_b rfl (fun h14 => ?_) (fun h14 => ?_))))))
 ·have hq15 := bnot_t h14
  refine Ws (Wr (Q (r_as (v := str ([63] : List UInt8)) rfl) <| Qn (W.ret (ret1 rfl (v := str _) rfl ?_))))
  exact ⟨eR (eS (by unfold spec_l34Map; rw [if_pos h14] <;> rfl)), hB12⟩
 ·have hq16 := bnot_f h14
  refine W.skip (Ws (Wr (Q (mS rfl) <| Q (aS rfl) <| Qn (W.ret (ret1 rfl (v := str _) rfl ?_)))))
  exact ⟨eR (eS (by unfold spec_l34Map; rw [if_neg (ne_true_of_eq_false h14)] <;> rfl)), hB12⟩
open Classical in
noncomputable def spec_l34Word (x : Library) (s : List UInt8) : List UInt8 :=
 if s = ([116, 104, 101, 114, 101] : List UInt8) then (spec_l34Number (if LibOK x then sumC x.Maps else 0) (decide (LibOK x))) else if s = ([116, 111, 114, 110] : List UInt8) then (spec_l34Number (if LibOK x then sumT x.Maps else 0) (decide (LibOK x))) else if s = ([98, 111, 117, 103, 104, 116] : List UInt8) then Lib.itoa x.Bought else if s = ([109, 101, 110, 100, 101, 100] : List UInt8) then Lib.itoa x.Mended else if s = ([109, 97, 121] : List UInt8) then (if (decide (LibOK x)) = true then listN (if LibOK x then selL mayM LMap.Id x.Maps else []) else [63]) else ([63] : List UInt8)
theorem c_spec_l34Word (w : World) (x : Library) {Ax1 : Option Addr} {nx1 cx1 Bx1 : Nat} (hx1 : SlR w Bx1 encLMap 3 Ax1 nx1 cx1 x.Maps) {Ax2 : Option Addr} {nx2 cx2 Bx2 : Nat} (hx2 : SlR w Bx2 encAway 2 Ax2 nx2 cx2 x.Away) (s : List UInt8) (hp0 : (nx1 : Int) ≤ 8) (hp1 : (nx2 : Int) ≤ 8) (hp2 : LibOK x) : Calls Tryz.prog 84 #[.agg (List.toArray (cLb Ax1 nx1 cx1 Ax2 nx2 cx2 x)), str s] w fun e w' => e = .returned (str (spec_l34Word x s)) ∧ Lo w w' := by
 refine calls_W 52 Tryz.func84 rfl rfl rfl ?_
 have hbdx1 := hx1.bound
 have hlex1 := hx1.len
 have hBbx1 := hx1.bd
 have hbdx2 := hx2.bound
 have hlex2 := hx2.len
 have hBbx2 := hx2.bd
 have hlb := lib_rng hp2
 refine Ws (Wr (SR.box (v := .agg (List.toArray _)) (l := (cLb Ax1 nx1 cx1 Ax2 nx2 cx2 x)) rfl rfl ?_))
 intro g1 w2 hg3 hk4 hs5 hb6
 have hB8 := (Lo.refl w).lo hk4
 refine Q (r_as (v := str ([] : List UInt8)) rfl) <| Qn (Ws (Ws (Wr (Q (mS rfl) <| Qn (W.block (Ws (Wr (Q (r_eqs (s := s) (r := ([116, 104, 101, 114, 101] : List UInt8)) rfl rfl) <| Q (aB rfl) <| Qn (W.cond_d rfl (fun h9 => ?_) (fun h9 => ?_))))))))))
 ·refine Ws (Wr (Q (lG agg34 rfl hb6 rfl) <| Qv ent135 (c_spec_CopiesThere w2 x (hx1.lo hk4) (hx2.lo hk4) (by omega)) rfl fun w10 hk11 hz12 => ?_))
  have hq14 : 0 ≤ (if LibOK x then sumC x.Maps else 0) ∧ (if LibOK x then sumC x.Maps else 0) ≤ 9999 := there_rngN x
  refine Q (mT rfl) <| Q (xI rfl rfl) <| Q (xB rfl rfl) <| Q (aI rfl) <| Q (aB rfl) <| Qn (Ws (Wr (Q (mI rfl) <| Q (mB rfl) <| Qv ent136 (c_spec_l34Number w10 (if LibOK x then sumC x.Maps else 0) (decide (LibOK x)) (by omega)) rfl fun w15 hk16 hz17 => (Q (aS rfl) <| Qn (W.ret (ret1 rfl (v := str _) rfl ?_))))))
  exact ⟨eR (eS (by unfold spec_l34Word; rw [if_pos h9] <;> rfl)), ((hB8.lo hk11).lo hk16)⟩
 ·refine Ws (Wr (Q (r_eqs (s := s) (r := ([116, 111, 114, 110] : List UInt8)) rfl rfl) <| Q (aB rfl) <| Qn (W.cond_d rfl (fun h19 => ?_) (fun h19 => ?_))))
  ·refine Ws (Wr (Q (lG agg34 rfl hb6 rfl) <| Qv ent137 (c_spec_TornCopies w2 x (hx1.lo hk4) (hx2.lo hk4)) rfl fun w20 hk21 hz22 => ?_))
   have hq24 : 0 ≤ (if LibOK x then sumT x.Maps else 0) ∧ (if LibOK x then sumT x.Maps else 0) ≤ 9999 := torn_rng x
   refine Q (mT rfl) <| Q (xI rfl rfl) <| Q (xB rfl rfl) <| Q (aI rfl) <| Q (aB rfl) <| Qn (Ws (Wr (Q (mI rfl) <| Q (mB rfl) <| Qv ent136 (c_spec_l34Number w20 (if LibOK x then sumT x.Maps else 0) (decide (LibOK x)) (by omega)) rfl fun w25 hk26 hz27 => (Q (aS rfl) <| Qn (W.ret (ret1 rfl (v := str _) rfl ?_))))))
   exact ⟨eR (eS (by unfold spec_l34Word; rw [if_neg h9, if_pos h19] <;> rfl)), ((hB8.lo hk21).lo hk26)⟩
  ·refine Ws (Wr (Q (r_eqs (s := s) (r := ([98, 111, 117, 103, 104, 116] : List UInt8)) rfl rfl) <| Q (aB rfl) <| Qn (W.cond_d rfl (fun h29 => ?_) (fun h29 => ?_))))
   ·refine Ws (Wr (Q (fA fa34_2 rfl) <| Q (lB sca3 rfl hb6 rfl) <| Qv ent75 (c_spec_l1Num w2 x.Bought (by omega)) rfl fun w30 hk31 hz32 => ?_))
    have hq34 : (Lib.itoa x.Bought).length ≤ 21 := itoa_len (n := x.Bought) (by omega) (by omega)
    refine Q (aS rfl) <| Qn (W.ret (ret1 rfl (v := str _) rfl ?_))
    exact ⟨eR (eS (by unfold spec_l34Word; rw [if_neg h9, if_neg h19, if_pos h29] <;> rfl)), (hB8.lo hk31)⟩
   ·refine Ws (Wr (Q (r_eqs (s := s) (r := ([109, 101, 110, 100, 101, 100] : List UInt8)) rfl rfl) <| Q (aB rfl) <| Qn (W.cond_d rfl (fun h35 => ?_) (fun h35 => ?_))))
    ·refine Ws (Wr (Q (fA fa34_4 rfl) <| Q (lB sca3 rfl hb6 rfl) <| Qv ent75 (c_spec_l1Num w2 x.Mended (by omega)) rfl fun w36 hk37 hz38 => ?_))
     have hq40 : (Lib.itoa x.Mended).length ≤ 21 := itoa_len (n := x.Mended) (by omega) (by omega)
     refine Q (aS rfl) <| Qn (W.ret (ret1 rfl (v := str _) rfl ?_))
     exact ⟨eR (eS (by unfold spec_l34Word; rw [if_neg h9, if_neg h19, if_neg h29, if_pos h35] <;> rfl)), (hB8.lo hk37)⟩
    ·refine Ws (Wr (Q (r_eqs (s := s) (r := ([109, 97, 121] : List UInt8)) rfl rfl) <| Q (aB rfl) <| Qn (W.cond_d rfl (fun h41 => ?_) (fun h41 => ?_))))
     ·refine Ws (Wr (Q (lG agg34 rfl hb6 rfl) <| SR.call ent138 (c_spec_MayLend w2 x (hx1.lo hk4) (hx2.lo hk4) (by omega)) rfl ?_))
      rintro e w42 ⟨A44, n45, c46, rfl, hO47, hk43⟩
      refine ⟨_, rfl, ?_⟩
      have hz48 := hk43.size
      have hl50 := hO47.len
      have hl51 := hO47.rd.bound
      have hq52 := (selif_len _ _ _ _ : (if LibOK x then selL mayM LMap.Id x.Maps else []).length ≤ x.Maps.length)
      have hq53 : IntsIn (if LibOK x then selL mayM LMap.Id x.Maps else []) := ints_may x
      refine Q (mT rfl) <| Q (xL rfl rfl) <| Q (xB rfl rfl) <| Q (aL rfl) <| Q (aB rfl) <| Qn (Ws (Wr (Q (mL rfl) <| Q (mB rfl) <| Qv ent139 (c_spec_l34List w42 (if LibOK x then selL mayM LMap.Id x.Maps else []) (hO47.rd) (decide (LibOK x)) (by omega) (by assumption)) rfl fun w54 hk55 hz56 => ?_)))
      have hq58 : (listN (if LibOK x then selL mayM LMap.Id x.Maps else [])).length ≤ 22 * (if LibOK x then selL mayM LMap.Id x.Maps else []).length + 4 := listN_len (if LibOK x then selL mayM LMap.Id x.Maps else []) (by assumption) (by omega)
      refine Q (aS rfl) <| Qn (W.ret (ret1 rfl (v := str _) rfl ?_))
      exact ⟨eR (eS (by unfold spec_l34Word; rw [if_neg h9, if_neg h19, if_neg h29, if_neg h35, if_pos h41] <;> rfl)), ((hB8.lo hk43).lo hk55)⟩
     ·refine W.skip (Ws (Wr (Q (r_as (v := str ([63] : List UInt8)) rfl) <| Qn (W.ret (ret1 rfl (v := str _) rfl ?_)))))
      exact ⟨eR (eS (by unfold spec_l34Word; rw [if_neg h9, if_neg h19, if_neg h29, if_neg h35, if_neg h41] <;> rfl)), hB8⟩
end Go.Proofs.YtndcchndcghmoaaGreatDoor
namespace Go.Proofs.YtndcchndcghmoaaGreatDoor
open Go Go.RowKit Fw
set_option maxRecDepth 10000
set_option maxHeartbeats 2000000
set_option linter.unusedVariables false
theorem ent140 : Ent Tryz.prog 140 := en Tryz.func140
theorem ent141 : Ent Tryz.prog 141 := en Tryz.func141
theorem ent142 : Ent Tryz.prog 142 := en Tryz.func142
theorem ent67 : Ent Tryz.prog 67 := en Tryz.func67
theorem ent87 : Ent Tryz.prog 87 := en Tryz.func87
theorem tz37 : TZ Tryz.prog 37 (.agg (List.toArray [.slice none 0 0, .slice none 0 0, .int .i64 0, .int .i64 0, .int .i64 0, str ([] : List UInt8), str ([] : List UInt8), .int .i64 0])) := fun _ => by kernel_rfl
open Classical in
noncomputable def spec_l34Make (c : Console) (s : LibraryStep) : Console × List UInt8 :=
 if (!((spec_StepLibrary c.Library s).2)) = true then (c, ([63] : List UInt8)) else ((⟨((spec_StepLibrary c.Library s).1), c.Log⟩ : Console), (spec_l34Map ((spec_StepLibrary c.Library s).1) s.Id))
theorem c_spec_l34Make (w : World) (c : Console) {Ac1 : Option Addr} {nc1 cc1 Bc1 : Nat} (hc1 : SlO w Bc1 encLMap 3 102 Ac1 nc1 cc1 c.Library.Maps) {Ac2 : Option Addr} {nc2 cc2 Bc2 : Nat} (hc2 : SlO w Bc2 encAway 2 129 Ac2 nc2 cc2 c.Library.Away) (s : LibraryStep) (hdc_Library_Maps_c2 : Dj Ac1 Ac2) (hp0 : (nc1 : Int) ≤ 8) (hp1 : (nc2 : Int) ≤ 8) : Calls Tryz.prog 87 #[.agg (List.toArray [.slice Ac1 nc1 cc1, .slice Ac2 nc2 cc2, .int .i64 c.Library.Bought, .int .i64 c.Library.Dropped, .int .i64 c.Library.Mended, str c.Log.Durable, str c.Log.Pending, .int .i64 c.Log.Count]), .agg (List.toArray (encLibraryStep s))] w fun e w' => ∃ (A1' : Option Addr) (n1' c1' : Nat) (A2' : Option Addr) (n2' c2' : Nat), e = .returned (.tuple (List.toArray [.agg (List.toArray [.slice A1' n1' c1', .slice A2' n2' c2', .int .i64 (((spec_l34Make c s).1).Library.Bought), .int .i64 (((spec_l34Make c s).1).Library.Dropped), .int .i64 (((spec_l34Make c s).1).Library.Mended), str (((spec_l34Make c s).1).Log.Durable), str (((spec_l34Make c s).1).Log.Pending), .int .i64 (((spec_l34Make c s).1).Log.Count)]), str ((spec_l34Make c s).2)])) ∧ SlO w' Bc1 encLMap 3 102 A1' n1' c1' (((spec_l34Make c s).1).Library.Maps) ∧ SlO w' Bc2 encAway 2 129 A2' n2' c2' (((spec_l34Make c s).1).Library.Away) ∧ Dj A1' A2' ∧ (∀ b_, A1' = some ⟨b_, 0, none⟩ → (Ac1 = some ⟨b_, 0, none⟩ ∨ Ac2 = some ⟨b_, 0, none⟩) ∨ w.heap.size ≤ b_) ∧ (∀ b_, A2' = some ⟨b_, 0, none⟩ → (Ac1 = some ⟨b_, 0, none⟩ ∨ Ac2 = some ⟨b_, 0, none⟩) ∨ w.heap.size ≤ b_) ∧ Lo w w' := by
 refine calls_W 27 Tryz.func87 rfl rfl rfl ?_
 have hcpc1 := hc1.rd.cap
 have hbbc1 := hc1.rd.bd
 have hbdc1 := hc1.rd.bound
 have hlec1 := hc1.len
 have hBbc1 := hc1.bd
 have hcpc2 := hc2.rd.cap
 have hbbc2 := hc2.rd.bd
 have hbdc2 := hc2.rd.bound
 have hlec2 := hc2.len
 have hBbc2 := hc2.bd
 refine Ws (Wr (SR.box (v := .agg (List.toArray _)) (l := [.slice Ac1 nc1 cc1, .slice Ac2 nc2 cc2, .int .i64 c.Library.Bought, .int .i64 c.Library.Dropped, .int .i64 c.Library.Mended, str c.Log.Durable, str c.Log.Pending, .int .i64 c.Log.Count]) rfl rfl ?_))
 intro g1 w2 hg3 hk4 hs5 hb6
 refine SR.box (v := .agg (List.toArray _)) (l := [.int .i64 s.Kind, .int .i64 s.Id, .int .i64 s.Reader, .int .i64 s.Value]) rfl rfl ?_
 intro g11 w12 hg13 hk14 hs15 hb16
 refine SR.alloc (l := [.slice none 0 0, .slice none 0 0, .int .i64 0, .int .i64 0, .int .i64 0, str ([] : List UInt8), str ([] : List UInt8), .int .i64 0]) tz37 rfl ?_
 intro g21 w22 hg23 hk24 hs25 hb26
 refine Q (r_as (v := str ([] : List UInt8)) rfl) <| Qn (Ws ?_)
 have hm31 := (hb6.lo hk14).lo hk24
 have hm32 := ((hc1.lo hk4).lo hk14).lo hk24
 have hm33 := ((hc2.lo hk4).lo hk14).lo hk24
 refine Wr (Q (fA fa37_0 rfl) <| Q (r_lda (l := (cLb Ac1 nc1 cc1 Ac2 nc2 cc2 c.Library)) agg34 rfl (fun _ _ hu => hm31.cells (vs := (cLb Ac1 nc1 cc1 Ac2 nc2 cc2 c.Library)) rfl hu) rfl) <| Q (lG agg106 rfl (hb16.lo hk24) rfl) <| SR.call ent67 (c_spec_StepLibrary w22 c.Library (hm32.rd) (hm33.rd) s) rfl ?_)
 rintro e w34 ⟨A36, n37, c38, A40, n41, c42, rfl, hO39, hO43, hd44, hk35⟩
 refine ⟨_, rfl, ?_⟩
 have hz45 := hk35.size
 have hl47 := hO39.len
 have hl48 := hO39.rd.bound
 have hq49 := step_lenMS c.Library s
 have hl50 := hO43.len
 have hl51 := hO43.rd.bound
 have hq52 := step_lenAS c.Library s
 refine Q (mT rfl) <| Q (xG rfl rfl) <| Q (xB rfl rfl) <| SR.alloc (l := [.slice none 0 0, .slice none 0 0, .int .i64 0, .int .i64 0, .int .i64 0]) tz34 rfl ?_
 intro g53 w54 hg55 hk56 hs57 hb58
 refine Qw (o := 0) (vs := [.slice A36 n37 c38, .slice A40 n41 c42, .int .i64 (((spec_StepLibrary c.Library s).1).Bought), .int .i64 (((spec_StepLibrary c.Library s).1).Dropped), .int .i64 (((spec_StepLibrary c.Library s).1).Mended)]) agg34.2 rfl rfl rfl rfl hb58 ler rfl ?_
 intro w65 hk66 hs67 hb68
 have hB70 := ((((((Lo.refl w).lo hk4).lo hk14).lo hk24).lo hk35).lo hk56).new hk66
 refine Q (aB rfl) <| Qn (Ws (Ws ?_))
 have hm71 := ((hm31.lo hk35).lo hk56).kn hk66
 have hm75 := ((hb26.lo hk35).lo hk56).kn hk66
 have hm76 := (hO39.lo hk56).kd hk66 (SlO.ne (g := g53) hO39)
 have hm77 := (hO43.lo hk56).kd hk66 (SlO.ne (g := g53) hO43)
 refine Wr (Q (mB rfl) <| Q (r_not rfl) <| Qn (W.cond_b rfl (fun h78 => ?_) (fun h78 => ?_)))
 ·have hq79 := bnot_t h78
  refine Ws (Wr (Q (lG agg37 rfl hm71 rfl) <| Qw (o := 0) (vs := [.slice Ac1 nc1 cc1, .slice Ac2 nc2 cc2, .int .i64 c.Library.Bought, .int .i64 c.Library.Dropped, .int .i64 c.Library.Mended, str c.Log.Durable, str c.Log.Pending, .int .i64 c.Log.Count]) agg37.2 rfl rfl rfl rfl hm75 ler rfl ?_))
  intro w80 hk81 hs82 hb83
  refine Q (r_as (v := str ([63] : List UInt8)) rfl) <| Qn (W.ret (retCT rfl rfl agg37 hb83 rfl (v := str _) rfl ?_))
  refine ⟨Ac1, nc1, cc1, Ac2, nc2, cc2, eR (eT2 (eA (eC rfl (eC rfl (eC (eI ?_) (eC (eI ?_) (eC (eI ?_) (eC (eS ?_) (eC (eS ?_) (eC (eI ?_) rfl))))))))) (eS ?_)), (SlO.eqv ((((hm32.lo hk35).lo hk56).kd hk66 (SlO.ne (g := g53) (hm32.lo hk35))).kd hk81 (SlO.ne (g := g21) ((hc1.lo hk4).lo hk14))) ?_), (SlO.eqv ((((hm33.lo hk35).lo hk56).kd hk66 (SlO.ne (g := g53) (hm33.lo hk35))).kd hk81 (SlO.ne (g := g21) ((hc2.lo hk4).lo hk14))) ?_), hdc_Library_Maps_c2, (fun b_ h_ => .inl (.inl h_)), (fun b_ h_ => .inl (.inr h_)), (hB70.new hk81)⟩ <;> (subst hlec1 hlec2; unfold spec_l34Make; rw [if_pos h78] <;> rfl)
 ·have hq86 := bnot_f h78
  refine W.skip (Ws (Wr (Q (lG agg37 rfl hm71 rfl) <| SR.alloc (l := [.slice none 0 0, .slice none 0 0, .int .i64 0, .int .i64 0, .int .i64 0, str ([] : List UInt8), str ([] : List UInt8), .int .i64 0]) tz37 rfl ?_)))
  intro g87 w88 hg89 hk90 hs91 hb92
  have hd97 := SlO.ne (g := g87) hm76
  have hd98 := SlO.ne (g := g87) hm77
  refine Qw (o := 0) (vs := [.slice Ac1 nc1 cc1, .slice Ac2 nc2 cc2, .int .i64 c.Library.Bought, .int .i64 c.Library.Dropped, .int .i64 c.Library.Mended, str c.Log.Durable, str c.Log.Pending, .int .i64 c.Log.Count]) agg37.2 rfl rfl rfl rfl hb92 ler rfl ?_
  intro w99 hk100 hs101 hb102
  refine Qn (Ws ?_)
  have hm107 := (hb68.lo hk90).kn hk100
  have hm108 := (hm76.lo hk90).kd hk100 hd97
  have hm109 := (hm77.lo hk90).kd hk100 hd98
  refine Wr (Q (lG agg34 rfl hm107 rfl) <| Q (fA fa37_0 rfl) <| Qw (o := 0) (vs := [.slice A36 n37 c38, .slice A40 n41 c42, .int .i64 (((spec_StepLibrary c.Library s).1).Bought), .int .i64 (((spec_StepLibrary c.Library s).1).Dropped), .int .i64 (((spec_StepLibrary c.Library s).1).Mended)]) agg34.2 rfl rfl rfl rfl hb102 ler rfl ?_)
  intro w112 hk113 hs114 hb115
  refine Qn (Ws (W.regA (Kp (fun b_ => b_ = g21) w112) (fun f' w' => At f' [(4, .pointer (pA g21)), (5, str (spec_l34Map ((spec_StepLibrary c.Library s).1) s.Id))] ∧ (Kp (fun b_ => b_ = g21) w112 w') ∧ (Blk w' g21 37 [.slice A36 n37 c38, .slice A40 n41 c42, .int .i64 (((spec_StepLibrary c.Library s).1).Bought), .int .i64 (((spec_StepLibrary c.Library s).1).Dropped), .int .i64 (((spec_StepLibrary c.Library s).1).Mended), str c.Log.Durable, str c.Log.Pending, .int .i64 c.Log.Count])) mo ?_ ?_))
  ·intro w153 hk154
   have hz155 := hk154.size
   refine Ak 0 rfl (kr hk154) (fun w' hw' => r_lda (l := [.slice A36 n37 c38, .slice A40 n41 c42, .int .i64 (((spec_StepLibrary c.Library s).1).Bought), .int .i64 (((spec_StepLibrary c.Library s).1).Dropped), .int .i64 (((spec_StepLibrary c.Library s).1).Mended), str c.Log.Durable, str c.Log.Pending, .int .i64 c.Log.Count]) agg37 rfl (fun _ _ hu => (hb115.kn hw' (by omega)).cell hu) rfl) <| Ak 1 rfl (kr hk154) (fun w' hw' => r_lda (l := [.slice A36 n37 c38, .slice A40 n41 c42, .int .i64 (((spec_StepLibrary c.Library s).1).Bought), .int .i64 (((spec_StepLibrary c.Library s).1).Dropped), .int .i64 (((spec_StepLibrary c.Library s).1).Mended)]) agg34 rfl (fun _ _ hu => ((hm107.kn hk113).kn hw' (by omega)).cell hu) rfl) <| Ak 2 rfl (kr hk154) (fun w' hw' => fA fa106_1 rfl) <| Ak 3 rfl (kr hk154) (fun w' hw' => r_ld (v := .int .i64 s.Id) sca3 rfl (((((((((hb16.lo hk24).lo hk35).lo hk56).kn hk66).lo hk90).kn hk100).kn hk113).kn hw' (by omega)).cell rfl)) <| Ab 4 rfl (Qv ent142 (c_spec_l34Map w153 ((spec_StepLibrary c.Library s).1) (((hm108.kd hk113 hd97).lo hk154).rd) (((hm109.kd hk113 hd98).lo hk154).rd) s.Id) rfl fun w157 hk158 hz159 => ?_)
   have hS161 := ((Kp.refl w112 : Kp (fun b_ => b_ = g21) w112 w112).lo hk154).lo hk158
   refine Qn ⟨hS161, _, rfl, (Ab 5 rfl (Qw (o := 0) (vs := [.slice A36 n37 c38, .slice A40 n41 c42, .int .i64 (((spec_StepLibrary c.Library s).1).Bought), .int .i64 (((spec_StepLibrary c.Library s).1).Dropped), .int .i64 (((spec_StepLibrary c.Library s).1).Mended), str c.Log.Durable, str c.Log.Pending, .int .i64 c.Log.Count]) agg37.2 rfl rfl rfl rfl (((((hm75.lo hk90).kn hk100).kn hk113).lo hk154).lo hk158) ler rfl ?_))⟩
   intro w162 hk163 hs164 hb165
   have hS168 := hS161.step hk163 (fun _ _ e => e)
   refine Qn ⟨hS168, _, rfl, (Ak 6 rfl hS168 (fun w' hw' => r_as (v := str _) rfl) <| AH.done (by kernel_rfl) (⟨⟨rfl, rfl, trivial⟩, hS168, hb165⟩))⟩
  rintro f169 w170 ⟨hat172, hR171, hm152⟩
  rw [← sets_of_at hat172]
  have hz173 := hR171.size
  refine W.ret (retCT rfl rfl agg37 hm152 rfl (v := str _) rfl ?_)
  refine ⟨A36, n37, c38, A40, n41, c42, eR (eT2 (eA (eC rfl (eC rfl (eC (eI ?_) (eC (eI ?_) (eC (eI ?_) (eC (eS ?_) (eC (eS ?_) (eC (eI ?_) rfl))))))))) (eS ?_)), (SlO.eqv (((hm108.kd hk113 hd97).kn hR171 (by omega)).down) ?_), (SlO.eqv (((hm109.kd hk113 hd98).kn hR171 (by omega)).down) ?_), hd44, (fun b_ h => .inr (by have := ((hm108.kd hk113 hd97).kn hR171 (by omega)).base_le h; omega)), (fun b_ h => .inr (by have := ((hm109.kd hk113 hd98).kn hR171 (by omega)).base_le h; omega)), ((((hB70.lo hk90).new hk100).new hk113).new hR171 (by omega))⟩ <;> (subst hl47 hl50; unfold spec_l34Make; rw [if_neg (ne_true_of_eq_false h78)] <;> rfl)
open Classical in
noncomputable def spec_l34One (c : Console) (s : List UInt8) (n : Int) : Console × List UInt8 :=
 if s = ([97, 116] : List UInt8) then (c, (if (decide (LibOK c.Library ∧ (1 ≤ n ∧ n ≤ 999))) = true then listN (if LibOK c.Library ∧ (1 ≤ n ∧ n ≤ 999) then selL (atR n) Away.Map c.Library.Away else []) else [63])) else if s = ([114, 101, 97, 100, 101, 114, 115] : List UInt8) then (c, (if (decide (LibOK c.Library ∧ 0 ≤ idxF (hasId n) c.Library.Maps)) = true then listN (if LibOK c.Library ∧ 0 ≤ idxF (hasId n) c.Library.Maps then selL (ofM n) Away.Reader c.Library.Away else []) else [63])) else if s = ([116, 101, 120, 116] : List UInt8) then (c, (spec_l34Map c.Library n)) else (c, ([63] : List UInt8))
theorem c_spec_l34One (w : World) (c : Console) {Ac1 : Option Addr} {nc1 cc1 Bc1 : Nat} (hc1 : SlO w Bc1 encLMap 3 102 Ac1 nc1 cc1 c.Library.Maps) {Ac2 : Option Addr} {nc2 cc2 Bc2 : Nat} (hc2 : SlO w Bc2 encAway 2 129 Ac2 nc2 cc2 c.Library.Away) (s : List UInt8) (n : Int) (hdc_Library_Maps_c2 : Dj Ac1 Ac2) (hp0 : (nc1 : Int) ≤ 8) (hp1 : (nc2 : Int) ≤ 8) : Calls Tryz.prog 85 #[.agg (List.toArray [.slice Ac1 nc1 cc1, .slice Ac2 nc2 cc2, .int .i64 c.Library.Bought, .int .i64 c.Library.Dropped, .int .i64 c.Library.Mended, str c.Log.Durable, str c.Log.Pending, .int .i64 c.Log.Count]), str s, .int .i64 n] w fun e w' => ∃ (A1' : Option Addr) (n1' c1' : Nat) (A2' : Option Addr) (n2' c2' : Nat), e = .returned (.tuple (List.toArray [.agg (List.toArray [.slice A1' n1' c1', .slice A2' n2' c2', .int .i64 (((spec_l34One c s n).1).Library.Bought), .int .i64 (((spec_l34One c s n).1).Library.Dropped), .int .i64 (((spec_l34One c s n).1).Library.Mended), str (((spec_l34One c s n).1).Log.Durable), str (((spec_l34One c s n).1).Log.Pending), .int .i64 (((spec_l34One c s n).1).Log.Count)]), str ((spec_l34One c s n).2)])) ∧ SlO w' Bc1 encLMap 3 102 A1' n1' c1' (((spec_l34One c s n).1).Library.Maps) ∧ SlO w' Bc2 encAway 2 129 A2' n2' c2' (((spec_l34One c s n).1).Library.Away) ∧ Dj A1' A2' ∧ (∀ b_, A1' = some ⟨b_, 0, none⟩ → (Ac1 = some ⟨b_, 0, none⟩ ∨ Ac2 = some ⟨b_, 0, none⟩) ∨ w.heap.size ≤ b_) ∧ (∀ b_, A2' = some ⟨b_, 0, none⟩ → (Ac1 = some ⟨b_, 0, none⟩ ∨ Ac2 = some ⟨b_, 0, none⟩) ∨ w.heap.size ≤ b_) ∧ Lo w w' := by
 refine calls_W 47 Tryz.func85 rfl rfl rfl ?_
 have hcpc1 := hc1.rd.cap
 have hbbc1 := hc1.rd.bd
 have hbdc1 := hc1.rd.bound
 have hlec1 := hc1.len
 have hBbc1 := hc1.bd
 have hcpc2 := hc2.rd.cap
 have hbbc2 := hc2.rd.bd
 have hbdc2 := hc2.rd.bound
 have hlec2 := hc2.len
 have hBbc2 := hc2.bd
 refine Ws (Wr (SR.box (v := .agg (List.toArray _)) (l := [.slice Ac1 nc1 cc1, .slice Ac2 nc2 cc2, .int .i64 c.Library.Bought, .int .i64 c.Library.Dropped, .int .i64 c.Library.Mended, str c.Log.Durable, str c.Log.Pending, .int .i64 c.Log.Count]) rfl rfl ?_))
 intro g1 w2 hg3 hk4 hs5 hb6
 refine SR.alloc (l := [.slice none 0 0, .slice none 0 0, .int .i64 0, .int .i64 0, .int .i64 0, str ([] : List UInt8), str ([] : List UInt8), .int .i64 0]) tz37 rfl ?_
 intro g11 w12 hg13 hk14 hs15 hb16
 have hB18 := ((Lo.refl w).lo hk4).lo hk14
 have hd19 := SlO.ne (g := g11) (hc1.lo hk4)
 have hd20 := SlO.ne (g := g11) (hc2.lo hk4)
 refine Q (r_as (v := str ([] : List UInt8)) rfl) <| Qn (Ws (Ws ?_))
 have hm21 := (hc1.lo hk4).lo hk14
 have hm22 := (hc2.lo hk4).lo hk14
 refine Wr (Q (mS rfl) <| Qn (W.block (Ws (Wr (Q (r_eqs (s := s) (r := ([97, 116] : List UInt8)) rfl rfl) <| Q (aB rfl) <| Qn (W.cond_d rfl (fun h23 => ?_) (fun h23 => ?_)))))))
 ·refine Ws (Wr (Q (fA fa37_0 rfl) <| Q (r_lda (l := (cLb Ac1 nc1 cc1 Ac2 nc2 cc2 c.Library)) agg34 rfl (fun _ _ hu => (hb6.lo hk14).cells (vs := (cLb Ac1 nc1 cc1 Ac2 nc2 cc2 c.Library)) rfl hu) rfl) <| Q (mI rfl) <| SR.call ent140 (c_spec_MapsAt w12 c.Library (hm21.rd) (hm22.rd) n (by omega)) rfl ?_))
  rintro e w24 ⟨A26, n27, c28, rfl, hO29, hk25⟩
  refine ⟨_, rfl, ?_⟩
  have hz30 := hk25.size
  have hl32 := hO29.len
  have hl33 := hO29.rd.bound
  have hq34 := (selif_len _ _ _ _ : (if LibOK c.Library ∧ (1 ≤ n ∧ n ≤ 999) then selL (atR n) Away.Map c.Library.Away else []).length ≤ c.Library.Away.length)
  have hq35 : IntsIn (if LibOK c.Library ∧ (1 ≤ n ∧ n ≤ 999) then selL (atR n) Away.Map c.Library.Away else []) := ints_at c.Library n
  refine Q (mT rfl) <| Q (xL rfl rfl) <| Q (xB rfl rfl) <| Q (aL rfl) <| Q (aB rfl) <| Qn (Ws (W.regA (Kp (fun b_ => b_ = g11) w24) (fun f' w' => At f' [(3, .pointer (pA g1)), (6, .pointer (pA g11)), (7, str (if (decide (LibOK c.Library ∧ (1 ≤ n ∧ n ≤ 999))) = true then listN (if LibOK c.Library ∧ (1 ≤ n ∧ n ≤ 999) then selL (atR n) Away.Map c.Library.Away else []) else [63]))] ∧ (Kp (fun b_ => b_ = g11) w24 w') ∧ (Blk w' g11 37 [.slice Ac1 nc1 cc1, .slice Ac2 nc2 cc2, .int .i64 c.Library.Bought, .int .i64 c.Library.Dropped, .int .i64 c.Library.Mended, str c.Log.Durable, str c.Log.Pending, .int .i64 c.Log.Count]) ∧ ((listN (if LibOK c.Library ∧ (1 ≤ n ∧ n ≤ 999) then selL (atR n) Away.Map c.Library.Away else [])).length ≤ 22 * (if LibOK c.Library ∧ (1 ≤ n ∧ n ≤ 999) then selL (atR n) Away.Map c.Library.Away else []).length + 4)) mo ?_ ?_))
  ·intro w74 hk75
   have hz76 := hk75.size
   refine Ak 0 rfl (kr hk75) (fun w' hw' => r_lda (l := [.slice Ac1 nc1 cc1, .slice Ac2 nc2 cc2, .int .i64 c.Library.Bought, .int .i64 c.Library.Dropped, .int .i64 c.Library.Mended, str c.Log.Durable, str c.Log.Pending, .int .i64 c.Log.Count]) agg37 rfl (fun _ _ hu => (((hb6.lo hk14).lo hk25).kn hw' (by omega)).cell hu) rfl) <| Ak 1 rfl (kr hk75) (fun w' hw' => r_mv (v := .slice _ _ _) rfl) <| Ak 2 rfl (kr hk75) (fun w' hw' => r_mv (v := .bool _) rfl) <| Ab 3 rfl (Qv ent139 (c_spec_l34List w74 (if LibOK c.Library ∧ (1 ≤ n ∧ n ≤ 999) then selL (atR n) Away.Map c.Library.Away else []) ((hO29.lo hk75).rd) (decide (LibOK c.Library ∧ (1 ≤ n ∧ n ≤ 999))) (by omega) (by assumption)) rfl fun w78 hk79 hz80 => ?_)
   have hS82 := ((Kp.refl w24 : Kp (fun b_ => b_ = g11) w24 w24).lo hk75).lo hk79
   have hq83 : (listN (if LibOK c.Library ∧ (1 ≤ n ∧ n ≤ 999) then selL (atR n) Away.Map c.Library.Away else [])).length ≤ 22 * (if LibOK c.Library ∧ (1 ≤ n ∧ n ≤ 999) then selL (atR n) Away.Map c.Library.Away else []).length + 4 := listN_len (if LibOK c.Library ∧ (1 ≤ n ∧ n ≤ 999) then selL (atR n) Away.Map c.Library.Away else []) (by assumption) (by omega)
   refine Qn ⟨hS82, _, rfl, (Ab 4 rfl (Qw (o := 0) (vs := [.slice Ac1 nc1 cc1, .slice Ac2 nc2 cc2, .int .i64 c.Library.Bought, .int .i64 c.Library.Dropped, .int .i64 c.Library.Mended, str c.Log.Durable, str c.Log.Pending, .int .i64 c.Log.Count]) agg37.2 rfl rfl rfl rfl (((hb16.lo hk25).lo hk75).lo hk79) ler rfl ?_))⟩
   intro w84 hk85 hs86 hb87
   have hS90 := hS82.step hk85 (fun _ _ e => e)
   refine Qn ⟨hS90, _, rfl, (Ak 5 rfl hS90 (fun w' hw' => r_as (v := str _) rfl) <| AH.done (by kernel_rfl) (⟨(At.r rfl), hS90, hb87, hq83⟩))⟩
  rintro f91 w92 ⟨hat94, hR93, hm73, hq64⟩
  rw [← sets_of_at hat94]
  have hz95 := hR93.size
  refine W.ret (retCT rfl rfl agg37 hm73 rfl (v := str _) rfl ?_)
  refine ⟨Ac1, nc1, cc1, Ac2, nc2, cc2, eR (eT2 (eA (eC rfl (eC rfl (eC (eI ?_) (eC (eI ?_) (eC (eI ?_) (eC (eS ?_) (eC (eS ?_) (eC (eI ?_) rfl))))))))) (eS ?_)), (SlO.eqv ((hm21.lo hk25).kd hR93 hd19) ?_), (SlO.eqv ((hm22.lo hk25).kd hR93 hd20) ?_), hdc_Library_Maps_c2, (fun b_ h_ => .inl (.inl h_)), (fun b_ h_ => .inl (.inr h_)), ((hB18.lo hk25).new hR93 (by omega))⟩ <;> (subst hlec1 hlec2; unfold spec_l34One; rw [if_pos h23] <;> rfl)
 ·refine Ws (Wr (Q (r_eqs (s := s) (r := ([114, 101, 97, 100, 101, 114, 115] : List UInt8)) rfl rfl) <| Q (aB rfl) <| Qn (W.cond_d rfl (fun h97 => ?_) (fun h97 => ?_))))
  ·refine Ws (Wr (Q (fA fa37_0 rfl) <| Q (r_lda (l := (cLb Ac1 nc1 cc1 Ac2 nc2 cc2 c.Library)) agg34 rfl (fun _ _ hu => (hb6.lo hk14).cells (vs := (cLb Ac1 nc1 cc1 Ac2 nc2 cc2 c.Library)) rfl hu) rfl) <| Q (mI rfl) <| SR.call ent141 (c_spec_ReadersOf w12 c.Library (hm21.rd) (hm22.rd) n) rfl ?_))
   rintro e w98 ⟨A100, n101, c102, rfl, hO103, hk99⟩
   refine ⟨_, rfl, ?_⟩
   have hz104 := hk99.size
   have hl106 := hO103.len
   have hl107 := hO103.rd.bound
   have hq108 := (selif_len _ _ _ _ : (if LibOK c.Library ∧ 0 ≤ idxF (hasId n) c.Library.Maps then selL (ofM n) Away.Reader c.Library.Away else []).length ≤ c.Library.Away.length)
   have hq109 : IntsIn (if LibOK c.Library ∧ 0 ≤ idxF (hasId n) c.Library.Maps then selL (ofM n) Away.Reader c.Library.Away else []) := ints_rd c.Library n
   refine Q (mT rfl) <| Q (xL rfl rfl) <| Q (xB rfl rfl) <| Q (aL rfl) <| Q (aB rfl) <| Qn (Ws (W.regA (Kp (fun b_ => b_ = g11) w98) (fun f' w' => At f' [(3, .pointer (pA g1)), (6, .pointer (pA g11)), (7, str (if (decide (LibOK c.Library ∧ 0 ≤ idxF (hasId n) c.Library.Maps)) = true then listN (if LibOK c.Library ∧ 0 ≤ idxF (hasId n) c.Library.Maps then selL (ofM n) Away.Reader c.Library.Away else []) else [63]))] ∧ (Kp (fun b_ => b_ = g11) w98 w') ∧ (Blk w' g11 37 [.slice Ac1 nc1 cc1, .slice Ac2 nc2 cc2, .int .i64 c.Library.Bought, .int .i64 c.Library.Dropped, .int .i64 c.Library.Mended, str c.Log.Durable, str c.Log.Pending, .int .i64 c.Log.Count]) ∧ ((listN (if LibOK c.Library ∧ 0 ≤ idxF (hasId n) c.Library.Maps then selL (ofM n) Away.Reader c.Library.Away else [])).length ≤ 22 * (if LibOK c.Library ∧ 0 ≤ idxF (hasId n) c.Library.Maps then selL (ofM n) Away.Reader c.Library.Away else []).length + 4)) mo ?_ ?_))
   ·intro w148 hk149
    have hz150 := hk149.size
    refine Ak 0 rfl (kr hk149) (fun w' hw' => r_lda (l := [.slice Ac1 nc1 cc1, .slice Ac2 nc2 cc2, .int .i64 c.Library.Bought, .int .i64 c.Library.Dropped, .int .i64 c.Library.Mended, str c.Log.Durable, str c.Log.Pending, .int .i64 c.Log.Count]) agg37 rfl (fun _ _ hu => (((hb6.lo hk14).lo hk99).kn hw' (by omega)).cell hu) rfl) <| Ak 1 rfl (kr hk149) (fun w' hw' => r_mv (v := .slice _ _ _) rfl) <| Ak 2 rfl (kr hk149) (fun w' hw' => r_mv (v := .bool _) rfl) <| Ab 3 rfl (Qv ent139 (c_spec_l34List w148 (if LibOK c.Library ∧ 0 ≤ idxF (hasId n) c.Library.Maps then selL (ofM n) Away.Reader c.Library.Away else []) ((hO103.lo hk149).rd) (decide (LibOK c.Library ∧ 0 ≤ idxF (hasId n) c.Library.Maps)) (by omega) (by assumption)) rfl fun w152 hk153 hz154 => ?_)
    have hS156 := ((Kp.refl w98 : Kp (fun b_ => b_ = g11) w98 w98).lo hk149).lo hk153
    have hq157 : (listN (if LibOK c.Library ∧ 0 ≤ idxF (hasId n) c.Library.Maps then selL (ofM n) Away.Reader c.Library.Away else [])).length ≤ 22 * (if LibOK c.Library ∧ 0 ≤ idxF (hasId n) c.Library.Maps then selL (ofM n) Away.Reader c.Library.Away else []).length + 4 := listN_len (if LibOK c.Library ∧ 0 ≤ idxF (hasId n) c.Library.Maps then selL (ofM n) Away.Reader c.Library.Away else []) (by assumption) (by omega)
    refine Qn ⟨hS156, _, rfl, (Ab 4 rfl (Qw (o := 0) (vs := [.slice Ac1 nc1 cc1, .slice Ac2 nc2 cc2, .int .i64 c.Library.Bought, .int .i64 c.Library.Dropped, .int .i64 c.Library.Mended, str c.Log.Durable, str c.Log.Pending, .int .i64 c.Log.Count]) agg37.2 rfl rfl rfl rfl (((hb16.lo hk99).lo hk149).lo hk153) ler rfl ?_))⟩
    intro w158 hk159 hs160 hb161
    have hS164 := hS156.step hk159 (fun _ _ e => e)
    refine Qn ⟨hS164, _, rfl, (Ak 5 rfl hS164 (fun w' hw' => r_as (v := str _) rfl) <| AH.done (by kernel_rfl) (⟨(At.r rfl), hS164, hb161, hq157⟩))⟩
   rintro f165 w166 ⟨hat168, hR167, hm147, hq138⟩
   rw [← sets_of_at hat168]
   have hz169 := hR167.size
   refine W.ret (retCT rfl rfl agg37 hm147 rfl (v := str _) rfl ?_)
   refine ⟨Ac1, nc1, cc1, Ac2, nc2, cc2, eR (eT2 (eA (eC rfl (eC rfl (eC (eI ?_) (eC (eI ?_) (eC (eI ?_) (eC (eS ?_) (eC (eS ?_) (eC (eI ?_) rfl))))))))) (eS ?_)), (SlO.eqv ((hm21.lo hk99).kd hR167 hd19) ?_), (SlO.eqv ((hm22.lo hk99).kd hR167 hd20) ?_), hdc_Library_Maps_c2, (fun b_ h_ => .inl (.inl h_)), (fun b_ h_ => .inl (.inr h_)), ((hB18.lo hk99).new hR167 (by omega))⟩ <;> (subst hlec1 hlec2; unfold spec_l34One; rw [if_neg h23, if_pos h97] <;> rfl)
  ·refine Ws (Wr (Q (r_eqs (s := s) (r := ([116, 101, 120, 116] : List UInt8)) rfl rfl) <| Q (aB rfl) <| Qn (W.cond_d rfl (fun h171 => ?_) (fun h171 => ?_))))
   ·refine Ws (W.regA (Kp (fun b_ => b_ = g11) w12) (fun f' w' => At f' [(3, .pointer (pA g1)), (6, .pointer (pA g11)), (7, str (spec_l34Map c.Library n))] ∧ (Kp (fun b_ => b_ = g11) w12 w') ∧ (Blk w' g11 37 [.slice Ac1 nc1 cc1, .slice Ac2 nc2 cc2, .int .i64 c.Library.Bought, .int .i64 c.Library.Dropped, .int .i64 c.Library.Mended, str c.Log.Durable, str c.Log.Pending, .int .i64 c.Log.Count])) mo ?_ ?_)
    ·intro w207 hk208
     have hz209 := hk208.size
     refine Ak 0 rfl (kr hk208) (fun w' hw' => r_lda (l := [.slice Ac1 nc1 cc1, .slice Ac2 nc2 cc2, .int .i64 c.Library.Bought, .int .i64 c.Library.Dropped, .int .i64 c.Library.Mended, str c.Log.Durable, str c.Log.Pending, .int .i64 c.Log.Count]) agg37 rfl (fun _ _ hu => ((hb6.lo hk14).kn hw' (by omega)).cell hu) rfl) <| Ak 1 rfl (kr hk208) (fun w' hw' => fA fa37_0 rfl) <| Ak 2 rfl (kr hk208) (fun w' hw' => r_lda (l := (cLb Ac1 nc1 cc1 Ac2 nc2 cc2 c.Library)) agg34 rfl (fun _ _ hu => ((hb6.lo hk14).kn hw' (by omega)).cells (vs := (cLb Ac1 nc1 cc1 Ac2 nc2 cc2 c.Library)) rfl hu) rfl) <| Ak 3 rfl (kr hk208) (fun w' hw' => r_mv (v := .int .i64 _) rfl) <| Ab 4 rfl (Qv ent142 (c_spec_l34Map w207 c.Library ((hm21.lo hk208).rd) ((hm22.lo hk208).rd) n) rfl fun w211 hk212 hz213 => ?_)
     have hS215 := ((Kp.refl w12 : Kp (fun b_ => b_ = g11) w12 w12).lo hk208).lo hk212
     refine Qn ⟨hS215, _, rfl, (Ab 5 rfl (Qw (o := 0) (vs := [.slice Ac1 nc1 cc1, .slice Ac2 nc2 cc2, .int .i64 c.Library.Bought, .int .i64 c.Library.Dropped, .int .i64 c.Library.Mended, str c.Log.Durable, str c.Log.Pending, .int .i64 c.Log.Count]) agg37.2 rfl rfl rfl rfl ((hb16.lo hk208).lo hk212) ler rfl ?_))⟩
     intro w216 hk217 hs218 hb219
     have hS222 := hS215.step hk217 (fun _ _ e => e)
     refine Qn ⟨hS222, _, rfl, (Ak 6 rfl hS222 (fun w' hw' => r_as (v := str _) rfl) <| AH.done (by kernel_rfl) (⟨(At.r rfl), hS222, hb219⟩))⟩
    rintro f223 w224 ⟨hat226, hR225, hm206⟩
    rw [← sets_of_at hat226]
    have hz227 := hR225.size
    refine W.ret (retCT rfl rfl agg37 hm206 rfl (v := str _) rfl ?_)
    refine ⟨Ac1, nc1, cc1, Ac2, nc2, cc2, eR (eT2 (eA (eC rfl (eC rfl (eC (eI ?_) (eC (eI ?_) (eC (eI ?_) (eC (eS ?_) (eC (eS ?_) (eC (eI ?_) rfl))))))))) (eS ?_)), (SlO.eqv (hm21.kd hR225 hd19) ?_), (SlO.eqv (hm22.kd hR225 hd20) ?_), hdc_Library_Maps_c2, (fun b_ h_ => .inl (.inl h_)), (fun b_ h_ => .inl (.inr h_)), (hB18.new hR225 (by omega))⟩ <;> (subst hlec1 hlec2; unfold spec_l34One; rw [if_neg h23, if_neg h97, if_pos h171] <;> rfl)
   ·refine W.skip (Ws (Wr (Q (lG agg37 rfl (hb6.lo hk14) rfl) <| Qw (o := 0) (vs := [.slice Ac1 nc1 cc1, .slice Ac2 nc2 cc2, .int .i64 c.Library.Bought, .int .i64 c.Library.Dropped, .int .i64 c.Library.Mended, str c.Log.Durable, str c.Log.Pending, .int .i64 c.Log.Count]) agg37.2 rfl rfl rfl rfl hb16 ler rfl ?_)))
    intro w229 hk230 hs231 hb232
    refine Q (r_as (v := str ([63] : List UInt8)) rfl) <| Qn (W.ret (retCT rfl rfl agg37 hb232 rfl (v := str _) rfl ?_))
    refine ⟨Ac1, nc1, cc1, Ac2, nc2, cc2, eR (eT2 (eA (eC rfl (eC rfl (eC (eI ?_) (eC (eI ?_) (eC (eI ?_) (eC (eS ?_) (eC (eS ?_) (eC (eI ?_) rfl))))))))) (eS ?_)), (SlO.eqv (hm21.kd hk230 hd19) ?_), (SlO.eqv (hm22.kd hk230 hd20) ?_), hdc_Library_Maps_c2, (fun b_ h_ => .inl (.inl h_)), (fun b_ h_ => .inl (.inr h_)), (hB18.new hk230)⟩ <;> (subst hlec1 hlec2; unfold spec_l34One; rw [if_neg h23, if_neg h97, if_neg h171] <;> rfl)
open Classical in
noncomputable def spec_l34Two (c : Console) (s : List UInt8) (n : Int) (v : Int) : Console × List UInt8 :=
 if s = ([98, 117, 121] : List UInt8) then (((spec_l34Make c (⟨1, n, 0, v⟩ : LibraryStep)).1), (spec_l34Make c (⟨1, n, 0, v⟩ : LibraryStep)).2) else if s = ([108, 101, 110, 100] : List UInt8) then (((spec_l34Make c (⟨2, n, v, 0⟩ : LibraryStep)).1), (spec_l34Make c (⟨2, n, v, 0⟩ : LibraryStep)).2) else if s = ([109, 101, 110, 100] : List UInt8) then (((spec_l34Make c (⟨4, n, 0, v⟩ : LibraryStep)).1), (spec_l34Make c (⟨4, n, 0, v⟩ : LibraryStep)).2) else if s = ([100, 114, 111, 112] : List UInt8) then (((spec_l34Make c (⟨6, n, 0, v⟩ : LibraryStep)).1), (spec_l34Make c (⟨6, n, 0, v⟩ : LibraryStep)).2) else if s = ([119, 101, 97, 114] : List UInt8) then (((spec_l34Make c (⟨7, n, 0, v⟩ : LibraryStep)).1), (spec_l34Make c (⟨7, n, 0, v⟩ : LibraryStep)).2) else (c, ([63] : List UInt8))
theorem c_spec_l34Two (w : World) (c : Console) {Ac1 : Option Addr} {nc1 cc1 Bc1 : Nat} (hc1 : SlO w Bc1 encLMap 3 102 Ac1 nc1 cc1 c.Library.Maps) {Ac2 : Option Addr} {nc2 cc2 Bc2 : Nat} (hc2 : SlO w Bc2 encAway 2 129 Ac2 nc2 cc2 c.Library.Away) (s : List UInt8) (n : Int) (v : Int) (hdc_Library_Maps_c2 : Dj Ac1 Ac2) (hp0 : (nc1 : Int) ≤ 8) (hp1 : (nc2 : Int) ≤ 8) : Calls Tryz.prog 86 #[.agg (List.toArray [.slice Ac1 nc1 cc1, .slice Ac2 nc2 cc2, .int .i64 c.Library.Bought, .int .i64 c.Library.Dropped, .int .i64 c.Library.Mended, str c.Log.Durable, str c.Log.Pending, .int .i64 c.Log.Count]), str s, .int .i64 n, .int .i64 v] w fun e w' => ∃ (A1' : Option Addr) (n1' c1' : Nat) (A2' : Option Addr) (n2' c2' : Nat), e = .returned (.tuple (List.toArray [.agg (List.toArray [.slice A1' n1' c1', .slice A2' n2' c2', .int .i64 (((spec_l34Two c s n v).1).Library.Bought), .int .i64 (((spec_l34Two c s n v).1).Library.Dropped), .int .i64 (((spec_l34Two c s n v).1).Library.Mended), str (((spec_l34Two c s n v).1).Log.Durable), str (((spec_l34Two c s n v).1).Log.Pending), .int .i64 (((spec_l34Two c s n v).1).Log.Count)]), str ((spec_l34Two c s n v).2)])) ∧ SlO w' Bc1 encLMap 3 102 A1' n1' c1' (((spec_l34Two c s n v).1).Library.Maps) ∧ SlO w' Bc2 encAway 2 129 A2' n2' c2' (((spec_l34Two c s n v).1).Library.Away) ∧ Dj A1' A2' ∧ (∀ b_, A1' = some ⟨b_, 0, none⟩ → (Ac1 = some ⟨b_, 0, none⟩ ∨ Ac2 = some ⟨b_, 0, none⟩) ∨ w.heap.size ≤ b_) ∧ (∀ b_, A2' = some ⟨b_, 0, none⟩ → (Ac1 = some ⟨b_, 0, none⟩ ∨ Ac2 = some ⟨b_, 0, none⟩) ∨ w.heap.size ≤ b_) ∧ Lo w w' := by
 refine calls_W 57 Tryz.func86 rfl rfl rfl ?_
 have hcpc1 := hc1.rd.cap
 have hbbc1 := hc1.rd.bd
 have hbdc1 := hc1.rd.bound
 have hlec1 := hc1.len
 have hBbc1 := hc1.bd
 have hcpc2 := hc2.rd.cap
 have hbbc2 := hc2.rd.bd
 have hbdc2 := hc2.rd.bound
 have hlec2 := hc2.len
 have hBbc2 := hc2.bd
 refine Ws (Wr (SR.box (v := .agg (List.toArray _)) (l := [.slice Ac1 nc1 cc1, .slice Ac2 nc2 cc2, .int .i64 c.Library.Bought, .int .i64 c.Library.Dropped, .int .i64 c.Library.Mended, str c.Log.Durable, str c.Log.Pending, .int .i64 c.Log.Count]) rfl rfl ?_))
 intro g1 w2 hg3 hk4 hs5 hb6
 refine SR.alloc (l := [.slice none 0 0, .slice none 0 0, .int .i64 0, .int .i64 0, .int .i64 0, str ([] : List UInt8), str ([] : List UInt8), .int .i64 0]) tz37 rfl ?_
 intro g11 w12 hg13 hk14 hs15 hb16
 have hB18 := ((Lo.refl w).lo hk4).lo hk14
 have hd19 := SlO.ne (g := g11) (hc1.lo hk4)
 have hd20 := SlO.ne (g := g11) (hc2.lo hk4)
 refine Q (r_as (v := str ([] : List UInt8)) rfl) <| Qn (Ws (Ws ?_))
 have hm21 := (hc1.lo hk4).lo hk14
 have hm22 := (hc2.lo hk4).lo hk14
 refine Wr (Q (mS rfl) <| Qn (W.block (Ws (Wr (Q (r_eqs (s := s) (r := ([98, 117, 121] : List UInt8)) rfl rfl) <| Q (aB rfl) <| Qn (W.cond_d rfl (fun h23 => ?_) (fun h23 => ?_)))))))
 ·refine Ws (Wr (Q (lG agg37 rfl (hb6.lo hk14) rfl) <| Q (mI rfl) <| Q (mI rfl) <| Q (r_build (vs := [(0, .int .i64 1), (1, .int .i64 n), (3, .int .i64 v)]) rfl (bld106_0_1_3 _ _ _)) <| SR.call ent87 (c_spec_l34Make w12 c hm21 hm22 (⟨1, n, 0, v⟩ : LibraryStep) hdc_Library_Maps_c2 (by omega) (by omega)) rfl ?_))
  rintro e w24 ⟨A26, n27, c28, A30, n31, c32, rfl, hO29, hO33, hd34, hN35, hN36, hk25⟩
  refine ⟨_, rfl, ?_⟩
  have hz37 := hk25.size
  have hd40 : ¬ A26 = some ⟨g11, 0, none⟩ := fun e' => (hN35 g11 e').elim (fun h => h.elim (fun h => hd19 h) (fun h => hd20 h)) (fun h => by have := hb16.lt; omega)
  have hd42 : ¬ A30 = some ⟨g11, 0, none⟩ := fun e' => (hN36 g11 e').elim (fun h => h.elim (fun h => hd19 h) (fun h => hd20 h)) (fun h => by have := hb16.lt; omega)
  have hl43 := hO29.len
  have hl44 := hO29.rd.bound
  have hl45 := hO33.len
  have hl46 := hO33.rd.bound
  refine Q (xG rfl rfl) <| Q (xS rfl rfl) <| Qw (o := 0) (vs := [.slice A26 n27 c28, .slice A30 n31 c32, .int .i64 (((spec_l34Make c (⟨1, n, 0, v⟩ : LibraryStep)).1).Library.Bought), .int .i64 (((spec_l34Make c (⟨1, n, 0, v⟩ : LibraryStep)).1).Library.Dropped), .int .i64 (((spec_l34Make c (⟨1, n, 0, v⟩ : LibraryStep)).1).Library.Mended), str (((spec_l34Make c (⟨1, n, 0, v⟩ : LibraryStep)).1).Log.Durable), str (((spec_l34Make c (⟨1, n, 0, v⟩ : LibraryStep)).1).Log.Pending), .int .i64 (((spec_l34Make c (⟨1, n, 0, v⟩ : LibraryStep)).1).Log.Count)]) agg37.2 rfl rfl rfl rfl (hb16.lo hk25) ler rfl ?_
  intro w47 hk48 hs49 hb50
  refine Q (aS rfl) <| Qn (W.ret (retCT rfl rfl agg37 hb50 rfl (v := str _) rfl ?_))
  refine ⟨A26, n27, c28, A30, n31, c32, eR (eT2 (eA (eC rfl (eC rfl (eC (eI ?_) (eC (eI ?_) (eC (eI ?_) (eC (eS ?_) (eC (eS ?_) (eC (eI ?_) rfl))))))))) (eS ?_)), (SlO.eqv (hO29.kd hk48 hd40) ?_), (SlO.eqv (hO33.kd hk48 hd42) ?_), hd34, (fun b_ h_ => (hN35 b_ h_).elim (fun h => h.elim (fun h => ((show ∀ b_, Ac1 = some ⟨b_, 0, none⟩ → (Ac1 = some ⟨b_, 0, none⟩ ∨ Ac2 = some ⟨b_, 0, none⟩) ∨ w.heap.size ≤ b_ from (fun b_ h_ => .inl (.inl h_))) b_ h)) (fun h => ((show ∀ b_, Ac2 = some ⟨b_, 0, none⟩ → (Ac1 = some ⟨b_, 0, none⟩ ∨ Ac2 = some ⟨b_, 0, none⟩) ∨ w.heap.size ≤ b_ from (fun b_ h_ => .inl (.inr h_))) b_ h))) (fun h => .inr (by omega))), (fun b_ h_ => (hN36 b_ h_).elim (fun h => h.elim (fun h => ((show ∀ b_, Ac1 = some ⟨b_, 0, none⟩ → (Ac1 = some ⟨b_, 0, none⟩ ∨ Ac2 = some ⟨b_, 0, none⟩) ∨ w.heap.size ≤ b_ from (fun b_ h_ => .inl (.inl h_))) b_ h)) (fun h => ((show ∀ b_, Ac2 = some ⟨b_, 0, none⟩ → (Ac1 = some ⟨b_, 0, none⟩ ∨ Ac2 = some ⟨b_, 0, none⟩) ∨ w.heap.size ≤ b_ from (fun b_ h_ => .inl (.inr h_))) b_ h))) (fun h => .inr (by omega))), ((hB18.lo hk25).new hk48)⟩ <;> (subst hl43 hl45; unfold spec_l34Two; rw [if_pos h23] <;> rfl)
 ·refine Ws (Wr (Q (r_eqs (s := s) (r := ([108, 101, 110, 100] : List UInt8)) rfl rfl) <| Q (aB rfl) <| Qn (W.cond_d rfl (fun h53 => ?_) (fun h53 => ?_))))
  ·refine Ws (Wr (Q (lG agg37 rfl (hb6.lo hk14) rfl) <| Q (mI rfl) <| Q (mI rfl) <| Q (r_build (vs := [(0, .int .i64 2), (1, .int .i64 n), (2, .int .i64 v)]) rfl (bld106_0_1_2 _ _ _)) <| SR.call ent87 (c_spec_l34Make w12 c hm21 hm22 (⟨2, n, v, 0⟩ : LibraryStep) hdc_Library_Maps_c2 (by omega) (by omega)) rfl ?_))
   rintro e w54 ⟨A56, n57, c58, A60, n61, c62, rfl, hO59, hO63, hd64, hN65, hN66, hk55⟩
   refine ⟨_, rfl, ?_⟩
   have hz67 := hk55.size
   have hd70 : ¬ A56 = some ⟨g11, 0, none⟩ := fun e' => (hN65 g11 e').elim (fun h => h.elim (fun h => hd19 h) (fun h => hd20 h)) (fun h => by have := hb16.lt; omega)
   have hd72 : ¬ A60 = some ⟨g11, 0, none⟩ := fun e' => (hN66 g11 e').elim (fun h => h.elim (fun h => hd19 h) (fun h => hd20 h)) (fun h => by have := hb16.lt; omega)
   have hl73 := hO59.len
   have hl74 := hO59.rd.bound
   have hl75 := hO63.len
   have hl76 := hO63.rd.bound
   refine Q (xG rfl rfl) <| Q (xS rfl rfl) <| Qw (o := 0) (vs := [.slice A56 n57 c58, .slice A60 n61 c62, .int .i64 (((spec_l34Make c (⟨2, n, v, 0⟩ : LibraryStep)).1).Library.Bought), .int .i64 (((spec_l34Make c (⟨2, n, v, 0⟩ : LibraryStep)).1).Library.Dropped), .int .i64 (((spec_l34Make c (⟨2, n, v, 0⟩ : LibraryStep)).1).Library.Mended), str (((spec_l34Make c (⟨2, n, v, 0⟩ : LibraryStep)).1).Log.Durable), str (((spec_l34Make c (⟨2, n, v, 0⟩ : LibraryStep)).1).Log.Pending), .int .i64 (((spec_l34Make c (⟨2, n, v, 0⟩ : LibraryStep)).1).Log.Count)]) agg37.2 rfl rfl rfl rfl (hb16.lo hk55) ler rfl ?_
   intro w77 hk78 hs79 hb80
   refine Q (aS rfl) <| Qn (W.ret (retCT rfl rfl agg37 hb80 rfl (v := str _) rfl ?_))
   refine ⟨A56, n57, c58, A60, n61, c62, eR (eT2 (eA (eC rfl (eC rfl (eC (eI ?_) (eC (eI ?_) (eC (eI ?_) (eC (eS ?_) (eC (eS ?_) (eC (eI ?_) rfl))))))))) (eS ?_)), (SlO.eqv (hO59.kd hk78 hd70) ?_), (SlO.eqv (hO63.kd hk78 hd72) ?_), hd64, (fun b_ h_ => (hN65 b_ h_).elim (fun h => h.elim (fun h => ((show ∀ b_, Ac1 = some ⟨b_, 0, none⟩ → (Ac1 = some ⟨b_, 0, none⟩ ∨ Ac2 = some ⟨b_, 0, none⟩) ∨ w.heap.size ≤ b_ from (fun b_ h_ => .inl (.inl h_))) b_ h)) (fun h => ((show ∀ b_, Ac2 = some ⟨b_, 0, none⟩ → (Ac1 = some ⟨b_, 0, none⟩ ∨ Ac2 = some ⟨b_, 0, none⟩) ∨ w.heap.size ≤ b_ from (fun b_ h_ => .inl (.inr h_))) b_ h))) (fun h => .inr (by omega))), (fun b_ h_ => (hN66 b_ h_).elim (fun h => h.elim (fun h => ((show ∀ b_, Ac1 = some ⟨b_, 0, none⟩ → (Ac1 = some ⟨b_, 0, none⟩ ∨ Ac2 = some ⟨b_, 0, none⟩) ∨ w.heap.size ≤ b_ from (fun b_ h_ => .inl (.inl h_))) b_ h)) (fun h => ((show ∀ b_, Ac2 = some ⟨b_, 0, none⟩ → (Ac1 = some ⟨b_, 0, none⟩ ∨ Ac2 = some ⟨b_, 0, none⟩) ∨ w.heap.size ≤ b_ from (fun b_ h_ => .inl (.inr h_))) b_ h))) (fun h => .inr (by omega))), ((hB18.lo hk55).new hk78)⟩ <;> (subst hl73 hl75; unfold spec_l34Two; rw [if_neg h23, if_pos h53] <;> rfl)
  ·refine Ws (Wr (Q (r_eqs (s := s) (r := ([109, 101, 110, 100] : List UInt8)) rfl rfl) <| Q (aB rfl) <| Qn (W.cond_d rfl (fun h83 => ?_) (fun h83 => ?_))))
   ·refine Ws (Wr (Q (lG agg37 rfl (hb6.lo hk14) rfl) <| Q (mI rfl) <| Q (mI rfl) <| Q (r_build (vs := [(0, .int .i64 4), (1, .int .i64 n), (3, .int .i64 v)]) rfl (bld106_0_1_3 _ _ _)) <| SR.call ent87 (c_spec_l34Make w12 c hm21 hm22 (⟨4, n, 0, v⟩ : LibraryStep) hdc_Library_Maps_c2 (by omega) (by omega)) rfl ?_))
    rintro e w84 ⟨A86, n87, c88, A90, n91, c92, rfl, hO89, hO93, hd94, hN95, hN96, hk85⟩
    refine ⟨_, rfl, ?_⟩
    have hz97 := hk85.size
    have hd100 : ¬ A86 = some ⟨g11, 0, none⟩ := fun e' => (hN95 g11 e').elim (fun h => h.elim (fun h => hd19 h) (fun h => hd20 h)) (fun h => by have := hb16.lt; omega)
    have hd102 : ¬ A90 = some ⟨g11, 0, none⟩ := fun e' => (hN96 g11 e').elim (fun h => h.elim (fun h => hd19 h) (fun h => hd20 h)) (fun h => by have := hb16.lt; omega)
    have hl103 := hO89.len
    have hl104 := hO89.rd.bound
    have hl105 := hO93.len
    have hl106 := hO93.rd.bound
    refine Q (xG rfl rfl) <| Q (xS rfl rfl) <| Qw (o := 0) (vs := [.slice A86 n87 c88, .slice A90 n91 c92, .int .i64 (((spec_l34Make c (⟨4, n, 0, v⟩ : LibraryStep)).1).Library.Bought), .int .i64 (((spec_l34Make c (⟨4, n, 0, v⟩ : LibraryStep)).1).Library.Dropped), .int .i64 (((spec_l34Make c (⟨4, n, 0, v⟩ : LibraryStep)).1).Library.Mended), str (((spec_l34Make c (⟨4, n, 0, v⟩ : LibraryStep)).1).Log.Durable), str (((spec_l34Make c (⟨4, n, 0, v⟩ : LibraryStep)).1).Log.Pending), .int .i64 (((spec_l34Make c (⟨4, n, 0, v⟩ : LibraryStep)).1).Log.Count)]) agg37.2 rfl rfl rfl rfl (hb16.lo hk85) ler rfl ?_
    intro w107 hk108 hs109 hb110
    refine Q (aS rfl) <| Qn (W.ret (retCT rfl rfl agg37 hb110 rfl (v := str _) rfl ?_))
    refine ⟨A86, n87, c88, A90, n91, c92, eR (eT2 (eA (eC rfl (eC rfl (eC (eI ?_) (eC (eI ?_) (eC (eI ?_) (eC (eS ?_) (eC (eS ?_) (eC (eI ?_) rfl))))))))) (eS ?_)), (SlO.eqv (hO89.kd hk108 hd100) ?_), (SlO.eqv (hO93.kd hk108 hd102) ?_), hd94, (fun b_ h_ => (hN95 b_ h_).elim (fun h => h.elim (fun h => ((show ∀ b_, Ac1 = some ⟨b_, 0, none⟩ → (Ac1 = some ⟨b_, 0, none⟩ ∨ Ac2 = some ⟨b_, 0, none⟩) ∨ w.heap.size ≤ b_ from (fun b_ h_ => .inl (.inl h_))) b_ h)) (fun h => ((show ∀ b_, Ac2 = some ⟨b_, 0, none⟩ → (Ac1 = some ⟨b_, 0, none⟩ ∨ Ac2 = some ⟨b_, 0, none⟩) ∨ w.heap.size ≤ b_ from (fun b_ h_ => .inl (.inr h_))) b_ h))) (fun h => .inr (by omega))), (fun b_ h_ => (hN96 b_ h_).elim (fun h => h.elim (fun h => ((show ∀ b_, Ac1 = some ⟨b_, 0, none⟩ → (Ac1 = some ⟨b_, 0, none⟩ ∨ Ac2 = some ⟨b_, 0, none⟩) ∨ w.heap.size ≤ b_ from (fun b_ h_ => .inl (.inl h_))) b_ h)) (fun h => ((show ∀ b_, Ac2 = some ⟨b_, 0, none⟩ → (Ac1 = some ⟨b_, 0, none⟩ ∨ Ac2 = some ⟨b_, 0, none⟩) ∨ w.heap.size ≤ b_ from (fun b_ h_ => .inl (.inr h_))) b_ h))) (fun h => .inr (by omega))), ((hB18.lo hk85).new hk108)⟩ <;> (subst hl103 hl105; unfold spec_l34Two; rw [if_neg h23, if_neg h53, if_pos h83] <;> rfl)
   ·refine Ws (Wr (Q (r_eqs (s := s) (r := ([100, 114, 111, 112] : List UInt8)) rfl rfl) <| Q (aB rfl) <| Qn (W.cond_d rfl (fun h113 => ?_) (fun h113 => ?_))))
    ·refine Ws (Wr (Q (lG agg37 rfl (hb6.lo hk14) rfl) <| Q (mI rfl) <| Q (mI rfl) <| Q (r_build (vs := [(0, .int .i64 6), (1, .int .i64 n), (3, .int .i64 v)]) rfl (bld106_0_1_3 _ _ _)) <| SR.call ent87 (c_spec_l34Make w12 c hm21 hm22 (⟨6, n, 0, v⟩ : LibraryStep) hdc_Library_Maps_c2 (by omega) (by omega)) rfl ?_))
     rintro e w114 ⟨A116, n117, c118, A120, n121, c122, rfl, hO119, hO123, hd124, hN125, hN126, hk115⟩
     refine ⟨_, rfl, ?_⟩
     have hz127 := hk115.size
     have hd130 : ¬ A116 = some ⟨g11, 0, none⟩ := fun e' => (hN125 g11 e').elim (fun h => h.elim (fun h => hd19 h) (fun h => hd20 h)) (fun h => by have := hb16.lt; omega)
     have hd132 : ¬ A120 = some ⟨g11, 0, none⟩ := fun e' => (hN126 g11 e').elim (fun h => h.elim (fun h => hd19 h) (fun h => hd20 h)) (fun h => by have := hb16.lt; omega)
     have hl133 := hO119.len
     have hl134 := hO119.rd.bound
     have hl135 := hO123.len
     have hl136 := hO123.rd.bound
     refine Q (xG rfl rfl) <| Q (xS rfl rfl) <| Qw (o := 0) (vs := [.slice A116 n117 c118, .slice A120 n121 c122, .int .i64 (((spec_l34Make c (⟨6, n, 0, v⟩ : LibraryStep)).1).Library.Bought), .int .i64 (((spec_l34Make c (⟨6, n, 0, v⟩ : LibraryStep)).1).Library.Dropped), .int .i64 (((spec_l34Make c (⟨6, n, 0, v⟩ : LibraryStep)).1).Library.Mended), str (((spec_l34Make c (⟨6, n, 0, v⟩ : LibraryStep)).1).Log.Durable), str (((spec_l34Make c (⟨6, n, 0, v⟩ : LibraryStep)).1).Log.Pending), .int .i64 (((spec_l34Make c (⟨6, n, 0, v⟩ : LibraryStep)).1).Log.Count)]) agg37.2 rfl rfl rfl rfl (hb16.lo hk115) ler rfl ?_
     intro w137 hk138 hs139 hb140
     refine Q (aS rfl) <| Qn (W.ret (retCT rfl rfl agg37 hb140 rfl (v := str _) rfl ?_))
     refine ⟨A116, n117, c118, A120, n121, c122, eR (eT2 (eA (eC rfl (eC rfl (eC (eI ?_) (eC (eI ?_) (eC (eI ?_) (eC (eS ?_) (eC (eS ?_) (eC (eI ?_) rfl))))))))) (eS ?_)), (SlO.eqv (hO119.kd hk138 hd130) ?_), (SlO.eqv (hO123.kd hk138 hd132) ?_), hd124, (fun b_ h_ => (hN125 b_ h_).elim (fun h => h.elim (fun h => ((show ∀ b_, Ac1 = some ⟨b_, 0, none⟩ → (Ac1 = some ⟨b_, 0, none⟩ ∨ Ac2 = some ⟨b_, 0, none⟩) ∨ w.heap.size ≤ b_ from (fun b_ h_ => .inl (.inl h_))) b_ h)) (fun h => ((show ∀ b_, Ac2 = some ⟨b_, 0, none⟩ → (Ac1 = some ⟨b_, 0, none⟩ ∨ Ac2 = some ⟨b_, 0, none⟩) ∨ w.heap.size ≤ b_ from (fun b_ h_ => .inl (.inr h_))) b_ h))) (fun h => .inr (by omega))), (fun b_ h_ => (hN126 b_ h_).elim (fun h => h.elim (fun h => ((show ∀ b_, Ac1 = some ⟨b_, 0, none⟩ → (Ac1 = some ⟨b_, 0, none⟩ ∨ Ac2 = some ⟨b_, 0, none⟩) ∨ w.heap.size ≤ b_ from (fun b_ h_ => .inl (.inl h_))) b_ h)) (fun h => ((show ∀ b_, Ac2 = some ⟨b_, 0, none⟩ → (Ac1 = some ⟨b_, 0, none⟩ ∨ Ac2 = some ⟨b_, 0, none⟩) ∨ w.heap.size ≤ b_ from (fun b_ h_ => .inl (.inr h_))) b_ h))) (fun h => .inr (by omega))), ((hB18.lo hk115).new hk138)⟩ <;> (subst hl133 hl135; unfold spec_l34Two; rw [if_neg h23, if_neg h53, if_neg h83, if_pos h113] <;> rfl)
    ·refine Ws (Wr (Q (r_eqs (s := s) (r := ([119, 101, 97, 114] : List UInt8)) rfl rfl) <| Q (aB rfl) <| Qn (W.cond_d rfl (fun h143 => ?_) (fun h143 => ?_))))
     ·refine Ws (Wr (Q (lG agg37 rfl (hb6.lo hk14) rfl) <| Q (mI rfl) <| Q (mI rfl) <| Q (r_build (vs := [(0, .int .i64 7), (1, .int .i64 n), (3, .int .i64 v)]) rfl (bld106_0_1_3 _ _ _)) <| SR.call ent87 (c_spec_l34Make w12 c hm21 hm22 (⟨7, n, 0, v⟩ : LibraryStep) hdc_Library_Maps_c2 (by omega) (by omega)) rfl ?_))
      rintro e w144 ⟨A146, n147, c148, A150, n151, c152, rfl, hO149, hO153, hd154, hN155, hN156, hk145⟩
      refine ⟨_, rfl, ?_⟩
      have hz157 := hk145.size
      have hd160 : ¬ A146 = some ⟨g11, 0, none⟩ := fun e' => (hN155 g11 e').elim (fun h => h.elim (fun h => hd19 h) (fun h => hd20 h)) (fun h => by have := hb16.lt; omega)
      have hd162 : ¬ A150 = some ⟨g11, 0, none⟩ := fun e' => (hN156 g11 e').elim (fun h => h.elim (fun h => hd19 h) (fun h => hd20 h)) (fun h => by have := hb16.lt; omega)
      have hl163 := hO149.len
      have hl164 := hO149.rd.bound
      have hl165 := hO153.len
      have hl166 := hO153.rd.bound
      refine Q (xG rfl rfl) <| Q (xS rfl rfl) <| Qw (o := 0) (vs := [.slice A146 n147 c148, .slice A150 n151 c152, .int .i64 (((spec_l34Make c (⟨7, n, 0, v⟩ : LibraryStep)).1).Library.Bought), .int .i64 (((spec_l34Make c (⟨7, n, 0, v⟩ : LibraryStep)).1).Library.Dropped), .int .i64 (((spec_l34Make c (⟨7, n, 0, v⟩ : LibraryStep)).1).Library.Mended), str (((spec_l34Make c (⟨7, n, 0, v⟩ : LibraryStep)).1).Log.Durable), str (((spec_l34Make c (⟨7, n, 0, v⟩ : LibraryStep)).1).Log.Pending), .int .i64 (((spec_l34Make c (⟨7, n, 0, v⟩ : LibraryStep)).1).Log.Count)]) agg37.2 rfl rfl rfl rfl (hb16.lo hk145) ler rfl ?_
      intro w167 hk168 hs169 hb170
      refine Q (aS rfl) <| Qn (W.ret (retCT rfl rfl agg37 hb170 rfl (v := str _) rfl ?_))
      refine ⟨A146, n147, c148, A150, n151, c152, eR (eT2 (eA (eC rfl (eC rfl (eC (eI ?_) (eC (eI ?_) (eC (eI ?_) (eC (eS ?_) (eC (eS ?_) (eC (eI ?_) rfl))))))))) (eS ?_)), (SlO.eqv (hO149.kd hk168 hd160) ?_), (SlO.eqv (hO153.kd hk168 hd162) ?_), hd154, (fun b_ h_ => (hN155 b_ h_).elim (fun h => h.elim (fun h => ((show ∀ b_, Ac1 = some ⟨b_, 0, none⟩ → (Ac1 = some ⟨b_, 0, none⟩ ∨ Ac2 = some ⟨b_, 0, none⟩) ∨ w.heap.size ≤ b_ from (fun b_ h_ => .inl (.inl h_))) b_ h)) (fun h => ((show ∀ b_, Ac2 = some ⟨b_, 0, none⟩ → (Ac1 = some ⟨b_, 0, none⟩ ∨ Ac2 = some ⟨b_, 0, none⟩) ∨ w.heap.size ≤ b_ from (fun b_ h_ => .inl (.inr h_))) b_ h))) (fun h => .inr (by omega))), (fun b_ h_ => (hN156 b_ h_).elim (fun h => h.elim (fun h => ((show ∀ b_, Ac1 = some ⟨b_, 0, none⟩ → (Ac1 = some ⟨b_, 0, none⟩ ∨ Ac2 = some ⟨b_, 0, none⟩) ∨ w.heap.size ≤ b_ from (fun b_ h_ => .inl (.inl h_))) b_ h)) (fun h => ((show ∀ b_, Ac2 = some ⟨b_, 0, none⟩ → (Ac1 = some ⟨b_, 0, none⟩ ∨ Ac2 = some ⟨b_, 0, none⟩) ∨ w.heap.size ≤ b_ from (fun b_ h_ => .inl (.inr h_))) b_ h))) (fun h => .inr (by omega))), ((hB18.lo hk145).new hk168)⟩ <;> (subst hl163 hl165; unfold spec_l34Two; rw [if_neg h23, if_neg h53, if_neg h83, if_neg h113, if_pos h143] <;> rfl)
     ·refine W.skip (Ws (Wr (Q (lG agg37 rfl (hb6.lo hk14) rfl) <| Qw (o := 0) (vs := [.slice Ac1 nc1 cc1, .slice Ac2 nc2 cc2, .int .i64 c.Library.Bought, .int .i64 c.Library.Dropped, .int .i64 c.Library.Mended, str c.Log.Durable, str c.Log.Pending, .int .i64 c.Log.Count]) agg37.2 rfl rfl rfl rfl hb16 ler rfl ?_)))
      intro w173 hk174 hs175 hb176
      refine Q (r_as (v := str ([63] : List UInt8)) rfl) <| Qn (W.ret (retCT rfl rfl agg37 hb176 rfl (v := str _) rfl ?_))
      refine ⟨Ac1, nc1, cc1, Ac2, nc2, cc2, eR (eT2 (eA (eC rfl (eC rfl (eC (eI ?_) (eC (eI ?_) (eC (eI ?_) (eC (eS ?_) (eC (eS ?_) (eC (eI ?_) rfl))))))))) (eS ?_)), (SlO.eqv (hm21.kd hk174 hd19) ?_), (SlO.eqv (hm22.kd hk174 hd20) ?_), hdc_Library_Maps_c2, (fun b_ h_ => .inl (.inl h_)), (fun b_ h_ => .inl (.inr h_)), (hB18.new hk174)⟩ <;> (subst hlec1 hlec2; unfold spec_l34Two; rw [if_neg h23, if_neg h53, if_neg h83, if_neg h113, if_neg h143] <;> rfl)
end Go.Proofs.YtndcchndcghmoaaGreatDoor
namespace Go.Proofs.YtndcchndcghmoaaGreatDoor
open Go Go.RowKit Fw
noncomputable def runS (c : Console) (s : List UInt8) : Console × List UInt8 :=
  if AllNum ((splitB 32 s).drop 1) then
    if (numsW ((splitB 32 s).drop 1)).length = 0 then (c, spec_l34Word c.Library s)
    else if (numsW ((splitB 32 s).drop 1)).length = 1 then spec_l34One c (gt (splitB 32 s) 0) (gt (numsW ((splitB 32 s).drop 1)) 0)
    else if (numsW ((splitB 32 s).drop 1)).length = 2 then spec_l34Two c (gt (splitB 32 s) 0) (gt (numsW ((splitB 32 s).drop 1)) 0) (gt (numsW ((splitB 32 s).drop 1)) 1)
    else if (numsW ((splitB 32 s).drop 1)).length = 3 then
      if gt (splitB 32 s) 0 = [98, 97, 99, 107] then spec_l34Make c ⟨3, gt (numsW ((splitB 32 s).drop 1)) 0, gt (numsW ((splitB 32 s).drop 1)) 1, gt (numsW ((splitB 32 s).drop 1)) 2⟩
      else if gt (splitB 32 s) 0 = [104, 97, 110, 100] then spec_l34Make c ⟨5, gt (numsW ((splitB 32 s).drop 1)) 0, gt (numsW ((splitB 32 s).drop 1)) 1, gt (numsW ((splitB 32 s).drop 1)) 2⟩
      else (c, [63])
    else (c, [63])
  else (c, [63])
noncomputable def repN (x : Library) (s : List UInt8) : Library × List UInt8 × Bool :=
  if AllNum ((splitB 32 s).drop 1) then
    if (impl_stepFor (gt (splitB 32 s) 0) (numsW ((splitB 32 s).drop 1))).2 = true then
      if (impl_Library_stepped x (impl_stepFor (gt (splitB 32 s) 0) (numsW ((splitB 32 s).drop 1))).1).2 = true then
        ((impl_Library_stepped x (impl_stepFor (gt (splitB 32 s) 0) (numsW ((splitB 32 s).drop 1))).1).1, mapT (impl_Library_stepped x (impl_stepFor (gt (splitB 32 s) 0) (numsW ((splitB 32 s).drop 1))).1).1 (impl_stepFor (gt (splitB 32 s) 0) (numsW ((splitB 32 s).drop 1))).1.Id)
      else (x, [], false)
    else (x, impl_tell x (gt (splitB 32 s) 0) (numsW ((splitB 32 s).drop 1)))
  else (x, [], false)
noncomputable def ansN (x : Library) (s : List UInt8) : List UInt8 := if (repN x s).2.2 = true then (if 200 < (repN x s).2.1.length then [108, 111, 110, 103] else (repN x s).2.1) else [63]
noncomputable def libN (x : Library) (s : List UInt8) : Library := if (repN x s).2.2 = true then (repN x s).1 else x
noncomputable def execN (c : Console) (s : List UInt8) : Console × List UInt8 :=
  if ¬ ConOK c then (c, [110, 111])
  else if ¬ RecOK ⟨s, []⟩ then (c, [98, 97, 100])
  else if c.Log.Count = 60 then (c, [102, 117, 108, 108])
  else (⟨libN c.Library s, (appN c.Log ⟨s, ansN c.Library s⟩).1⟩, ansN c.Library s)
section
variable {x : Library} {s y : List UInt8} {k : Nat}
theorem notD {D : List (List UInt8)} (hx : D[k]? = some y) (hb : (!(readN y).2) = true) : ¬ AllNum D := fun h => by
  rw [h y (List.mem_of_getElem? hx)] at hb; cases hb
theorem rep_bad (hx : ((splitB 32 s).drop 1)[k]? = some y) (hb : (!(readN y).2) = true) : repN x s = (x, [], false) := if_neg (notD hx hb)
theorem rep_no (hk : ((splitB 32 s).drop 1).length ≤ k) (hA : AllNum (((splitB 32 s).drop 1).take k)) (h : (impl_stepFor (gt (splitB 32 s) 0) (numsW (((splitB 32 s).drop 1).take k))).2 = true)
    (h2 : (!(impl_Library_stepped x (impl_stepFor (gt (splitB 32 s) 0) (numsW (((splitB 32 s).drop 1).take k))).1).2) = true) : repN x s = (x, [], false) := by
  rw [List.take_of_length_le hk] at *
  unfold repN; rw [if_pos hA, if_pos h, if_neg (by simpa using h2)]
theorem rep_yes (hk : ((splitB 32 s).drop 1).length ≤ k) (hA : AllNum (((splitB 32 s).drop 1).take k)) (h : (impl_stepFor (gt (splitB 32 s) 0) (numsW (((splitB 32 s).drop 1).take k))).2 = true)
    (h2 : (!(impl_Library_stepped x (impl_stepFor (gt (splitB 32 s) 0) (numsW (((splitB 32 s).drop 1).take k))).1).2) = false) : repN x s = ((impl_Library_stepped x (impl_stepFor (gt (splitB 32 s) 0) (numsW (((splitB 32 s).drop 1).take k))).1).1, mapT (impl_Library_stepped x (impl_stepFor (gt (splitB 32 s) 0) (numsW (((splitB 32 s).drop 1).take k))).1).1 (impl_stepFor (gt (splitB 32 s) 0) (numsW (((splitB 32 s).drop 1).take k))).1.Id) := by
  rw [List.take_of_length_le hk] at *
  unfold repN; rw [if_pos hA, if_pos h, if_pos (by simpa using h2)]
theorem rep_tell (hk : ((splitB 32 s).drop 1).length ≤ k) (hA : AllNum (((splitB 32 s).drop 1).take k)) (h : (impl_stepFor (gt (splitB 32 s) 0) (numsW (((splitB 32 s).drop 1).take k))).2 = false) :
    repN x s = (x, impl_tell x (gt (splitB 32 s) 0) (numsW (((splitB 32 s).drop 1).take k))) := by
  rw [List.take_of_length_le hk] at *
  unfold repN; rw [if_pos hA, if_neg (by rw [h]; simp)]
end
section
variable {c : Console} {s y : List UInt8} {k : Nat}
theorem splitB_max (c : UInt8) : ∀ s : List UInt8, (splitB c s).length ≤ s.length + 1
  | [] => by simp [splitB]
  | b :: r => by
    have h := splitB_max c r
    unfold splitB
    split
    · simp; omega
    · simp; omega
theorem nm_one (s : List UInt8) : [] = nmW s 1 := by
  unfold nmW; cases splitB 32 s <;> rfl
theorem nm_all (hk : (splitB 32 s).length ≤ k) : nmW s k = numsW ((splitB 32 s).drop 1) := by unfold nmW; rw [List.take_of_length_le hk]
theorem not_all (h1 : 1 ≤ k) (hx : (splitB 32 s)[k]? = some y) (hb : (readN y).2 = false) : ¬ AllNum ((splitB 32 s).drop 1) := fun h => by
  have : y ∈ (splitB 32 s).drop 1 := by
    refine List.mem_of_getElem? (i := k - 1) ?_
    rw [List.getElem?_drop, show 1 + (k - 1) = k by omega]; exact hx
  rw [h y this] at hb; cases hb
theorem run_bad (h1 : 1 ≤ k) (hx : (splitB 32 s)[k]? = some y) (hb : (!(readN y).2) = true) : runS c s = (c, [63]) := if_neg (not_all h1 hx (by simpa using hb))
theorem all_of (hk : (splitB 32 s).length ≤ k) (hA : AllNum (((splitB 32 s).take k).drop 1)) : AllNum ((splitB 32 s).drop 1) := by rwa [List.take_of_length_le hk] at hA
theorem run_0 (hk : (splitB 32 s).length ≤ k) (hA : AllNum (((splitB 32 s).take k).drop 1)) (hn : (nmW s k).length = 0) : runS c s = (c, spec_l34Word c.Library s) := by
  unfold runS; rw [if_pos (all_of hk hA), ← nm_all hk, if_pos hn]
theorem run_1 (hk : (splitB 32 s).length ≤ k) (hA : AllNum (((splitB 32 s).take k).drop 1)) (hn : (nmW s k).length = 1) : runS c s = spec_l34One c (gt (splitB 32 s) 0) (gt (nmW s k) 0) := by
  unfold runS; rw [if_pos (all_of hk hA), ← nm_all hk, if_neg (by omega), if_pos hn]
theorem run_2 (hk : (splitB 32 s).length ≤ k) (hA : AllNum (((splitB 32 s).take k).drop 1)) (hn : (nmW s k).length = 2) : runS c s = spec_l34Two c (gt (splitB 32 s) 0) (gt (nmW s k) 0) (gt (nmW s k) 1) := by
  unfold runS; rw [if_pos (all_of hk hA), ← nm_all hk, if_neg (by omega), if_neg (by omega), if_pos hn]
theorem run_3 (hk : (splitB 32 s).length ≤ k) (hA : AllNum (((splitB 32 s).take k).drop 1)) (hn : (nmW s k).length = 3) (hw : gt (splitB 32 s) 0 = [98, 97, 99, 107]) : runS c s = spec_l34Make c ⟨3, gt (nmW s k) 0, gt (nmW s k) 1, gt (nmW s k) 2⟩ := by
  unfold runS; rw [if_pos (all_of hk hA), ← nm_all hk, if_neg (by omega), if_neg (by omega), if_neg (by omega), if_pos hn, if_pos hw]
theorem run_3h (hk : (splitB 32 s).length ≤ k) (hA : AllNum (((splitB 32 s).take k).drop 1)) (hn : (nmW s k).length = 3) (h1 : ¬ gt (splitB 32 s) 0 = [98, 97, 99, 107]) (hw : gt (splitB 32 s) 0 = [104, 97, 110, 100]) : runS c s = spec_l34Make c ⟨5, gt (nmW s k) 0, gt (nmW s k) 1, gt (nmW s k) 2⟩ := by
  unfold runS; rw [if_pos (all_of hk hA), ← nm_all hk, if_neg (by omega), if_neg (by omega), if_neg (by omega), if_pos hn, if_neg h1, if_pos hw]
theorem run_3n (hk : (splitB 32 s).length ≤ k) (hA : AllNum (((splitB 32 s).take k).drop 1)) (hn : (nmW s k).length = 3) (h1 : ¬ gt (splitB 32 s) 0 = [98, 97, 99, 107]) (hw : ¬ gt (splitB 32 s) 0 = [104, 97, 110, 100]) : runS c s = (c, [63]) := by
  unfold runS; rw [if_pos (all_of hk hA), ← nm_all hk, if_neg (by omega), if_neg (by omega), if_neg (by omega), if_pos hn, if_neg h1, if_neg hw]
theorem run_n (hk : (splitB 32 s).length ≤ k) (hA : AllNum (((splitB 32 s).take k).drop 1)) (hn : (nmW s k).length ≠ 0 ∧ (nmW s k).length ≠ 1 ∧ (nmW s k).length ≠ 2 ∧ (nmW s k).length ≠ 3) : runS c s = (c, [63]) := by
  unfold runS; rw [if_pos (all_of hk hA), ← nm_all hk, if_neg (by omega), if_neg (by omega), if_neg (by omega), if_neg (by omega)]
end
end Go.Proofs.YtndcchndcghmoaaGreatDoor
namespace Go.Proofs.YtndcchndcghmoaaGreatDoor
open Go Go.RowKit Fw
section
variable {x : Library} {c : Console} {s w : List UInt8} {t : LibraryStep} {n : List Int} {m : LMap} {M : List LMap} {id : Int}
theorem set_has (h : 0 ≤ idxF (hasId id) M) (hm : m.Id = (gt M (idxF (hasId id) M).toNat).Id) : 0 ≤ idxF (hasId id) (M.set (idxF (hasId id) M).toNat m) := by
  have hlt := (idx_lt (p := hasId id) (L := M)).1
  have hi : (gt M (idxF (hasId id) M).toNat).Id = id := map_at_id (x := ⟨M, [], 0, 0, 0⟩) h
  exact ex_idx.1 ⟨m, List.mem_iff_getElem?.2 ⟨(idxF (hasId id) M).toNat, by rw [List.getElem?_set_self (by omega)]⟩, hm.trans hi⟩
theorem make_has (hx : LibOK x) (hs : spec_l32Step x t = true) : 0 ≤ idxF (hasId t.Id) (spec_l32Make x t).1.Maps := by
  have hr := stepL_rng hs
  unfold spec_l32Make
  by_cases h1 : t.Kind = 1
  · rw [if_pos h1]
    by_cases h : 0 ≤ idxF (hasId t.Id) x.Maps
    · rw [bought_yes h]; exact set_has h rfl
    · rw [bought_no h]; exact ex_idx.1 ⟨⟨t.Id, t.Value, 0⟩, by simp, rfl⟩
  have hi := hr.2.1 h1
  rw [if_neg h1]
  split
  · exact set_has hi rfl
  split
  · exact set_has hi rfl
  split
  · exact set_has hi rfl
  show 0 ≤ idxF (hasId t.Id) (spec_l32Readers x t (idxF (hasId t.Id) x.Maps)).1.Maps
  unfold spec_l32Readers
  split
  · exact set_has hi rfl
  split
  · exact hi
  split
  · exact hi
  · exact set_has hi rfl
theorem stepped_has (hx : LibOK x) (hv : t.Value ≤ 9223372036854775807) (h : (impl_Library_stepped x t).2 = true) : 0 ≤ idxF (hasId t.Id) (impl_Library_stepped x t).1.Maps := by
  by_cases hs : spec_l32Step x t = true
  · rw [stepped_yesL hx hs hv] at h ⊢
    split at h
    · rw [if_pos ‹_›]; exact make_has hx hs
    · cases h
  · rw [stepped_noL hx hs] at h; cases h
theorem text_ok (hx : LibOK x) (hv : t.Value ≤ 9223372036854775807) (h : (impl_Library_stepped x t).2 = true) : (mapT (impl_Library_stepped x t).1 t.Id).2 = true := by
  rw [mapT_yes ⟨stepped_okL h, stepped_has hx hv h⟩]
theorem make_rep (hx : LibOK c.Library) (hv : t.Value ≤ 9223372036854775807) : spec_l34Make c t = if (impl_Library_stepped c.Library t).2 = true then (⟨(impl_Library_stepped c.Library t).1, c.Log⟩, (mapT (impl_Library_stepped c.Library t).1 t.Id).1) else (c, [63]) := by
  unfold spec_l34Make
  rw [step_eqL hv]
  unfold impl_StepLibrary
  rw [if_pos hx]
  by_cases h : (impl_Library_stepped c.Library t).2 = true
  · rw [if_pos h, if_neg (by simpa using h)]
    unfold spec_l34Map
    rw [if_neg (by rw [text_ok hx hv h]; simp)]
  · rw [if_neg h, if_pos (by simpa using h)]
def ofR (x : Library) (r : Library × List UInt8 × Bool) : Library × List UInt8 := if r.2.2 = true then (r.1, r.2.1) else (x, [63])
noncomputable def repW (x : Library) (w : List UInt8) (n : List Int) : Library × List UInt8 × Bool :=
  if (impl_stepFor w n).2 = true then
    if (impl_Library_stepped x (impl_stepFor w n).1).2 = true then ((impl_Library_stepped x (impl_stepFor w n).1).1, mapT (impl_Library_stepped x (impl_stepFor w n).1).1 (impl_stepFor w n).1.Id) else (x, [], false)
  else (x, impl_tell x w n)
theorem repN_all (hA : AllNum ((splitB 32 s).drop 1)) : repN x s = repW x (gt (splitB 32 s) 0) (numsW ((splitB 32 s).drop 1)) := if_pos hA
theorem repW_step (hx : LibOK c.Library) (h : impl_stepFor w n = (t, true)) (hv : t.Value ≤ 9223372036854775807) : spec_l34Make c t = (⟨(ofR c.Library (repW c.Library w n)).1, c.Log⟩, (ofR c.Library (repW c.Library w n)).2) := by
  rw [make_rep hx hv]
  unfold repW ofR
  rw [h]
  simp only [if_true]
  by_cases hs : (impl_Library_stepped c.Library t).2 = true
  · simp only [if_pos hs, text_ok hx hv hs, if_true]
  · simp only [if_neg hs]; rfl
theorem repW_tell (h : (impl_stepFor w n).2 = false) : repW x w n = (x, impl_tell x w n) := if_neg (by rw [h]; simp)
theorem ofR_tell (h : (impl_stepFor w n).2 = false) : ofR x (repW x w n) = (x, if (impl_tell x w n).2 = true then (impl_tell x w n).1 else [63]) := by
  rw [repW_tell h]; unfold ofR; split <;> simp_all
theorem for_no (h : n.length ≠ 2 ∧ n.length ≠ 3) : (impl_stepFor w n).2 = false := by
  have h2 : ¬ (n.length : Int) = 2 := by omega
  have h3 : ¬ (n.length : Int) = 3 := by omega
  unfold impl_stepFor
  simp [h2, h3]
theorem tell_no (h : 2 ≤ n.length) : impl_tell x w n = ([], false) := by
  have h1 : ¬ (n.length : Int) = 1 := by omega
  have h0 : (0 : Int) < n.length := by omega
  unfold impl_tell
  simp only [h1, and_false, if_false, if_pos h0]
theorem word_rep (hx : LibOK x) (h : n.length = 0) : spec_l34Word x w = (ofR x (repW x w n)).2 := by
  rw [ofR_tell (for_no (by omega))]
  have h1 : ¬ (n.length : Int) = 1 := by omega
  have h0 : ¬ (0 : Int) < n.length := by omega
  unfold spec_l34Word impl_tell spec_l34Number
  simp only [h1, h0, and_false, if_false, if_pos hx]
  by_cases e1 : w = [109, 97, 121]
  · subst e1; simp [hx]
  by_cases e2 : w = [116, 104, 101, 114, 101]
  · subst e2; simp [hx]
  by_cases e3 : w = [116, 111, 114, 110]
  · subst e3; simp [hx]
  by_cases e4 : w = [98, 111, 117, 103, 104, 116]
  · subst e4; simp
  by_cases e5 : w = [109, 101, 110, 100, 101, 100]
  · subst e5; simp
  simp [e1, e2, e3, e4, e5]
theorem one_rep (h : n.length = 1) : spec_l34One c w (gt n 0) = (c, (ofR c.Library (repW c.Library w n)).2) := by
  rw [ofR_tell (for_no (by omega))]
  have h1 : (n.length : Int) = 1 := by omega
  have h0 : (0 : Int) < n.length := by omega
  unfold spec_l34One impl_tell spec_l34Map
  simp only [h1, h0, and_true, if_true]
  by_cases e1 : w = [97, 116]
  · subst e1; simp
  by_cases e2 : w = [114, 101, 97, 100, 101, 114, 115]
  · subst e2; simp
  by_cases e3 : w = [116, 101, 120, 116]
  · subst e3; cases hb : (mapT c.Library (gt n 0)).2 <;> simp [hb]
  simp [e1, e2, e3]
theorem num_rng {W : List (List UInt8)} (k : Nat) : gt (numsW W) k ≤ 999999 := by
  unfold gt numsW
  rw [List.getD_eq_getElem?_getD, List.getElem?_map]
  cases W[k]? with
  | none => simp
  | some y => exact (readN_rng y).2
theorem ofR_no (h : (impl_stepFor w n).2 = false) (h2 : 2 ≤ n.length) : ofR x (repW x w n) = (x, [63]) := by
  rw [ofR_tell h, tell_no h2]; rfl
theorem two_rep (hx : LibOK c.Library) (h : n.length = 2) (h0 : gt n 0 ≤ 999999) (h1 : gt n 1 ≤ 999999) : spec_l34Two c w (gt n 0) (gt n 1) = (⟨(ofR c.Library (repW c.Library w n)).1, c.Log⟩, (ofR c.Library (repW c.Library w n)).2) := by
  have h2 : (n.length : Int) = 2 := by omega
  unfold spec_l34Two
  by_cases e1 : w = [98, 117, 121]
  · rw [if_pos e1]; exact repW_step hx (by subst e1; unfold impl_stepFor; simp [h2]) (by dsimp only; omega)
  by_cases e2 : w = [108, 101, 110, 100]
  · rw [if_neg e1, if_pos e2]; exact repW_step hx (by subst e2; unfold impl_stepFor; simp [h2]) (by dsimp only; omega)
  by_cases e3 : w = [109, 101, 110, 100]
  · rw [if_neg e1, if_neg e2, if_pos e3]; exact repW_step hx (by subst e3; unfold impl_stepFor; simp [h2]) (by dsimp only; omega)
  by_cases e4 : w = [100, 114, 111, 112]
  · rw [if_neg e1, if_neg e2, if_neg e3, if_pos e4]; exact repW_step hx (by subst e4; unfold impl_stepFor; simp [h2]) (by dsimp only; omega)
  by_cases e5 : w = [119, 101, 97, 114]
  · rw [if_neg e1, if_neg e2, if_neg e3, if_neg e4, if_pos e5]; exact repW_step hx (by subst e5; unfold impl_stepFor; simp [h2]) (by dsimp only; omega)
  rw [if_neg e1, if_neg e2, if_neg e3, if_neg e4, if_neg e5, ofR_no (by unfold impl_stepFor; simp [h2, e1, e2, e3, e4, e5]) (by omega)]
theorem three_rep (hx : LibOK c.Library) (h : n.length = 3) (h0 : gt n 2 ≤ 999999) : (if w = [98, 97, 99, 107] then spec_l34Make c ⟨3, gt n 0, gt n 1, gt n 2⟩ else if w = [104, 97, 110, 100] then spec_l34Make c ⟨5, gt n 0, gt n 1, gt n 2⟩ else (c, [63]))
    = (⟨(ofR c.Library (repW c.Library w n)).1, c.Log⟩, (ofR c.Library (repW c.Library w n)).2) := by
  have h2 : (n.length : Int) = 3 := by omega
  by_cases e1 : w = [98, 97, 99, 107]
  · rw [if_pos e1]; exact repW_step hx (by subst e1; unfold impl_stepFor; simp [h2]) (by dsimp only; omega)
  by_cases e2 : w = [104, 97, 110, 100]
  · rw [if_neg e1, if_pos e2]; exact repW_step hx (by subst e2; unfold impl_stepFor; simp [h2]) (by dsimp only; omega)
  rw [if_neg e1, if_neg e2, ofR_no (by unfold impl_stepFor; simp [h2, e1, e2]) (by omega)]
theorem one_word (h : (splitB 32 s).length = 1) : gt (splitB 32 s) 0 = s := by
  have h2 := splitB_two 32 s
  rw [splitB_none (fun hm => by have := h2.2 hm; omega)]; rfl
theorem run_lib (hx : LibOK c.Library) : runS c s = (⟨(ofR c.Library (repN c.Library s)).1, c.Log⟩, (ofR c.Library (repN c.Library s)).2) := by
  unfold runS
  by_cases hA : AllNum ((splitB 32 s).drop 1)
  · rw [if_pos hA, repN_all hA]
    have hl : (numsW ((splitB 32 s).drop 1)).length + 1 = (splitB 32 s).length := by
      have := splitB_len 32 s; unfold numsW; rw [List.length_map, List.length_drop]; omega
    have hr := fun k => num_rng (W := (splitB 32 s).drop 1) k
    have ht : ∀ {w : List UInt8} {n : List Int}, (impl_stepFor w n).2 = false → (ofR c.Library (repW c.Library w n)).1 = c.Library := fun h => by rw [ofR_tell h]
    by_cases h0 : (numsW ((splitB 32 s).drop 1)).length = 0
    · rw [if_pos h0, one_word (by omega), word_rep hx h0, ht (for_no (by omega))]
    rw [if_neg h0]
    by_cases h1 : (numsW ((splitB 32 s).drop 1)).length = 1
    · rw [if_pos h1, one_rep h1, ht (for_no (by omega))]
    rw [if_neg h1]
    by_cases h2 : (numsW ((splitB 32 s).drop 1)).length = 2
    · rw [if_pos h2]; exact two_rep hx h2 (hr 0) (hr 1)
    rw [if_neg h2]
    by_cases h3 : (numsW ((splitB 32 s).drop 1)).length = 3
    · rw [if_pos h3]; exact three_rep hx h3 (hr 2)
    rw [if_neg h3, ofR_no (for_no (by omega)) (by omega)]
  · rw [if_neg hA]; unfold repN ofR; rw [if_neg hA]; rfl
theorem rec_rngS (h : RecOK ⟨s, []⟩) : 1 ≤ (s.length : Int) ∧ (s.length : Int) ≤ 160 := (rec_rng h).1
theorem lib_of : (ofR x (repN x s)).1 = libN x s := by unfold ofR libN; split <;> rfl
theorem rep_len (hx : LibOK x) : (repN x s).1.Maps.length ≤ 8 ∧ (repN x s).1.Away.length ≤ 8 := by
  have h := lib_rng hx
  unfold repN
  split
  · split
    · split
      · exact stepped_lenL _ _
      · exact ⟨h.1, h.2.1⟩
    · exact ⟨h.1, h.2.1⟩
  · exact ⟨h.1, h.2.1⟩
theorem lib_len8 (hx : LibOK x) : (libN x s).Maps.length ≤ 8 ∧ (libN x s).Away.length ≤ 8 := by
  unfold libN; split
  · exact rep_len hx
  · have h := lib_rng hx; exact ⟨h.1, h.2.1⟩
theorem run_len (hx : LibOK c.Library) : (runS c s).1.Library.Maps.length ≤ 8 ∧ (runS c s).1.Library.Away.length ≤ 8 := by
  rw [run_lib hx, lib_of]; exact lib_len8 hx
theorem exec_no (h : ¬ ConOK c) : execN c s = (c, [110, 111]) := if_pos h
theorem exec_bad (h : ConOK c) (h2 : ¬ RecOK ⟨s, []⟩) : execN c s = (c, [98, 97, 100]) := by unfold execN; rw [if_neg (fun q => q h), if_pos h2]
theorem exec_full (h : ConOK c) (h2 : RecOK ⟨s, []⟩) (h3 : c.Log.Count = 60) : execN c s = (c, [102, 117, 108, 108]) := by unfold execN; rw [if_neg (fun q => q h), if_neg (fun q => q h2), if_pos h3]
theorem exec_yes (h : ConOK c) (h2 : RecOK ⟨s, []⟩) (h3 : ¬ c.Log.Count = 60) : execN c s = (⟨libN c.Library s, (appN c.Log ⟨s, ansN c.Library s⟩).1⟩, ansN c.Library s) := by unfold execN; rw [if_neg (fun q => q h), if_neg (fun q => q h2), if_neg h3]
theorem exec_q (h : ConOK c) (h2 : RecOK ⟨s, []⟩) (h3 : ¬ c.Log.Count = 60) (hq : (!(repN c.Library s).2.2) = true) : execN c s = (⟨c.Library, (appN c.Log ⟨s, [63]⟩).1⟩, [63]) := by
  have hn : ¬ (repN c.Library s).2.2 = true := by simpa using hq
  rw [exec_yes h h2 h3]; unfold libN ansN; rw [if_neg hn, if_neg hn]
theorem exec_l (h : ConOK c) (h2 : RecOK ⟨s, []⟩) (h3 : ¬ c.Log.Count = 60) (hq : (!(repN c.Library s).2.2) = false) (hl : 200 < (repN c.Library s).2.1.length) : execN c s = (⟨(repN c.Library s).1, (appN c.Log ⟨s, [108, 111, 110, 103]⟩).1⟩, [108, 111, 110, 103]) := by
  have hn : (repN c.Library s).2.2 = true := by simpa using hq
  rw [exec_yes h h2 h3]; unfold libN ansN; rw [if_pos hn, if_pos hn, if_pos hl]
theorem exec_y (h : ConOK c) (h2 : RecOK ⟨s, []⟩) (h3 : ¬ c.Log.Count = 60) (hq : (!(repN c.Library s).2.2) = false) (hl : ¬ 200 < (repN c.Library s).2.1.length) : execN c s = (⟨(repN c.Library s).1, (appN c.Log ⟨s, (repN c.Library s).2.1⟩).1⟩, (repN c.Library s).2.1) := by
  have hn : (repN c.Library s).2.2 = true := by simpa using hq
  rw [exec_yes h h2 h3]; unfold libN ansN; rw [if_pos hn, if_pos hn, if_neg hl]
theorem ans_run (h : ConOK c) : (if 200 < (runS c s).2.length then [108, 111, 110, 103] else (runS c s).2) = ansN c.Library s := by
  rw [run_lib h.1]; unfold ofR ansN
  split <;> simp_all
theorem exec_Sl (h : ConOK c) (h2 : RecOK ⟨s, []⟩) (h3 : ¬ c.Log.Count = 60) (hl : 200 < (runS c s).2.length) : execN c s = (⟨(runS c s).1.Library, (appN c.Log ⟨s, [108, 111, 110, 103]⟩).1⟩, [108, 111, 110, 103]) := by
  have e := ans_run (s := s) h
  rw [if_pos hl] at e
  rw [exec_yes h h2 h3, ← e, run_lib h.1, lib_of]
theorem exec_Sy (h : ConOK c) (h2 : RecOK ⟨s, []⟩) (h3 : ¬ c.Log.Count = 60) (hl : ¬ 200 < (runS c s).2.length) : execN c s = (⟨(runS c s).1.Library, (appN c.Log ⟨s, (runS c s).2⟩).1⟩, (runS c s).2) := by
  have e := ans_run (s := s) h
  rw [if_neg hl] at e
  rw [exec_yes h h2 h3, ← e]
  congr 2
  rw [run_lib h.1, lib_of]
end
end Go.Proofs.YtndcchndcghmoaaGreatDoor
namespace Go.Proofs.YtndcchndcghmoaaGreatDoor
open Go Go.RowKit Fw
section
variable {c : Console} {s : List UInt8}
theorem exec_lens (hM : c.Library.Maps.length ≤ 1048576) (hA : c.Library.Away.length ≤ 1048576) : (execN c s).1.Library.Maps.length ≤ 1048576 ∧ (execN c s).1.Library.Away.length ≤ 1048576 := by
  unfold execN
  split
  · exact ⟨hM, hA⟩
  split
  · exact ⟨hM, hA⟩
  split
  · exact ⟨hM, hA⟩
  have h : ConOK c := Classical.not_not.1 ‹_›
  have := lib_len8 (s := s) h.1
  dsimp only; omega
end
end Go.Proofs.YtndcchndcghmoaaGreatDoor
namespace Go.Proofs.YtndcchndcghmoaaGreatDoor
open Go Go.RowKit Fw
def newL (n : Int) : Library := ⟨[⟨1, n, 0⟩], [], n, 0, 0⟩
def noCon : Console := ⟨⟨[], [], 0, 0, 0⟩, ⟨[], [], 0⟩⟩
def newC (n : Int) : Console × Bool := if 1 ≤ n ∧ n ≤ 50 then (⟨newL n, ⟨[], [], 0⟩⟩, true) else (noCon, false)
section
variable {n : Int}
theorem newC_yes (h : 1 ≤ n ∧ n ≤ 50) : newC n = (⟨newL n, ⟨[], [], 0⟩⟩, true) := if_pos h
theorem newC_no (h : ¬ (1 ≤ n ∧ n ≤ 50)) : newC n = (noCon, false) := if_neg h
theorem nil_ok : LibOK ⟨[], [], 0, 0, 0⟩ := ⟨⟨fun j hj => absurd hj (by simp), by simp⟩, ⟨fun j hj => absurd hj (by simp), by simp⟩, by simp, by simp, by simp, by simp [sumC]⟩
theorem new_ok (h : 1 ≤ n ∧ n ≤ 50) : LibOK (newL n) := by
  refine ⟨⟨fun j hj => ?_, by simp [newL]⟩, ⟨fun j hj => absurd hj (by simp [newL]), by simp [newL]⟩, ?_, by simp [newL], by simp [newL], by simp [newL, sumC]⟩
  · obtain rfl : j = 0 := by simp [newL] at hj; omega
    unfold MBad
    show ¬ ((¬ ((1 : Int) ≤ 1 ∧ (1 : Int) ≤ 99)) ∨ ((¬ (0 ≤ n ∧ n ≤ 99)) ∨ ((¬ ((0 : Int) ≤ 0 ∧ 0 ≤ n)) ∨ ((0 < ((0 : Nat) : Int)) ∧ _))))
    omega
  · show 0 ≤ n ∧ n ≤ 9999; omega
theorem new_step (h : 1 ≤ n ∧ n ≤ 50) : spec_StepLibrary ⟨[], [], 0, 0, 0⟩ ⟨1, 1, 0, n⟩ = (newL n, true) := by
  have e : boughtN ⟨[], [], 0, 0, 0⟩ 1 n = newL n := by
    unfold boughtN newL
    rw [if_neg (by simp [idxF])]
    simp [insAt, bdM]
  have hs : spec_l32Step ⟨[], [], 0, 0, 0⟩ ⟨1, 1, 0, n⟩ = true := by unfold spec_l32Step; simp; omega
  have hm : spec_l32Make ⟨[], [], 0, 0, 0⟩ ⟨1, 1, 0, n⟩ = (newL n, true) := by
    unfold spec_l32Make
    rw [if_pos rfl, e, decide_eq_true (new_ok h)]
  unfold spec_StepLibrary
  rw [if_neg (by rintro (q | q); exact q nil_ok; rw [hs] at q; cases q), hm, if_neg (by simp)]
theorem new_stepN (h : ¬ (1 ≤ n ∧ n ≤ 50)) : (spec_StepLibrary ⟨[], [], 0, 0, 0⟩ ⟨1, 1, 0, n⟩).2 = false := by
  have hs : spec_l32Step ⟨[], [], 0, 0, 0⟩ ⟨1, 1, 0, n⟩ = false := by
    unfold spec_l32Step; rw [if_pos rfl, decide_eq_false_iff_not]
    intro q; exact h q.2.2
  unfold spec_StepLibrary
  rw [if_pos (.inr (by rw [hs]; rfl))]
theorem newS_ok (h : (!(spec_StepLibrary ⟨[], [], 0, 0, 0⟩ ⟨1, 1, 0, n⟩).2) = false) : newC n = (⟨(spec_StepLibrary ⟨[], [], 0, 0, 0⟩ ⟨1, 1, 0, n⟩).1, ⟨[], [], 0⟩⟩, true) := by
  by_cases hn : 1 ≤ n ∧ n ≤ 50
  · rw [newC_yes hn, new_step hn]
  · rw [new_stepN hn] at h; cases h
theorem newS_no (h : (!(spec_StepLibrary ⟨[], [], 0, 0, 0⟩ ⟨1, 1, 0, n⟩).2) = true) : newC n = (noCon, false) := by
  by_cases hn : 1 ≤ n ∧ n ≤ 50
  · rw [new_step hn] at h; cases h
  · exact newC_no hn
theorem new_lenM (n : Int) : (newC n).1.Library.Maps.length ≤ 8 := by unfold newC; split <;> simp [newL, noCon]
theorem new_lenA (n : Int) : (newC n).1.Library.Away.length ≤ 8 := by unfold newC; split <;> simp [newL, noCon]
end
end Go.Proofs.YtndcchndcghmoaaGreatDoor
namespace Go.Proofs.YtndcchndcghmoaaGreatDoor
open Go Go.RowKit Fw
noncomputable def scrF (c : Console) : List (List UInt8) → List (List UInt8)
  | [] => []
  | l :: r => (execN c l).2 :: scrF (execN c l).1 r
def ScrOK (c : Console) (s : List UInt8) : Prop := ConOK c ∧ (splitB 10 s).length ≤ 30 ∧ s.length ≤ 4000
noncomputable instance (c : Console) (s : List UInt8) : Decidable (ScrOK c s) := Classical.propDecidable _
noncomputable def scrN (c : Console) (s : List UInt8) : List (List UInt8) × Bool := if ScrOK c s then (scrF c (splitB 10 s), true) else ([], false)
noncomputable def repF (c : Console) : List LogRecord → Nat
  | [] => 0
  | e :: r => if (execN c e.Command).2 = e.Reply then repF (execN c e.Command).1 r + 1 else 0
noncomputable def rplN (n : Int) (l : Log) : Int × Bool := if (newC n).2 = true ∧ LogOK l then ((repF (newC n).1 (recsN l).1 : Int), true) else (0, false)
def Sml (c : Console) (b : Nat) : Prop := (c.Library.Maps.length ≤ 1048576 ∧ c.Library.Away.length ≤ 1048576) ∧ c.Log.Durable.length + c.Log.Pending.length ≤ b
section
variable {c o : Console} {s x : List UInt8} {L R : List (List UInt8)} {k n b : Nat} {E : List LogRecord} {e : LogRecord}
theorem exec_sml (h : Sml c b) : Sml (execN c s).1 (b + 406) := by
  refine ⟨exec_lens h.1.1 h.1.2, ?_⟩
  have hb := h.2
  unfold execN
  split
  · dsimp only; omega
  split
  · dsimp only; omega
  split
  · dsimp only; omega
  have := appN_len c.Log ⟨s, ansN c.Library s⟩
  dsimp only; omega
theorem sml_of (h : ConOK c) : Sml c 24360 := by
  have h1 := con_rng h; have h2 := log_rng h.2
  exact ⟨⟨by omega, by omega⟩, h2.1⟩
def STo (c : Console) (L : List (List UInt8)) (o : Console) (R : List (List UInt8)) (k : Nat) : Prop := R.length = k ∧ scrF c L = R ++ scrF o (L.drop k) ∧ Sml o (24360 + 406 * k)
theorem STo.zero (h : ConOK c) : STo c L c [] 0 := ⟨rfl, rfl, sml_of h⟩
theorem STo.next (h : STo c L o R k) (hx : L[k]? = some x) : STo c L (execN o x).1 (R ++ [(execN o x).2]) (k + 1) := by
  obtain ⟨h1, h2, h3⟩ := h
  refine ⟨by simp [h1], ?_, by have := exec_sml (s := x) h3; rwa [Nat.mul_succ, ← Nat.add_assoc]⟩
  rw [h2, List.drop_eq_getElem_cons (List.getElem?_eq_some_iff.1 hx).1, (List.getElem?_eq_some_iff.1 hx).2]
  show R ++ ((execN o x).2 :: scrF (execN o x).1 (L.drop (k + 1))) = _
  simp
theorem STo.all (h : STo c (splitB 10 s) o R k) (hk : (splitB 10 s).length ≤ k) (hs : ScrOK c s) : scrN c s = (R, true) := by
  unfold scrN
  rw [if_pos hs, h.2.1, List.drop_of_length_le hk]
  show (R ++ [], true) = _
  rw [List.append_nil]
def RTo (c : Console) (E : List LogRecord) (o : Console) (k : Nat) : Prop := repF c E = k + repF o (E.drop k) ∧ Sml o (24360 + 406 * k)
theorem RTo.zero (h : Sml c 24360) : RTo c E c 0 := ⟨by simp, h⟩
theorem rep_drop (he : E[k]? = some e) : E.drop k = e :: E.drop (k + 1) := by
  rw [List.drop_eq_getElem_cons (List.getElem?_eq_some_iff.1 he).1, (List.getElem?_eq_some_iff.1 he).2]
theorem RTo.next (h : RTo c E o k) (he : E[k]? = some e) (hr : (execN o e.Command).2 = e.Reply) : RTo c E (execN o e.Command).1 (k + 1) := by
  refine ⟨?_, by have := exec_sml (s := e.Command) h.2; rwa [Nat.mul_succ, ← Nat.add_assoc]⟩
  rw [h.1, rep_drop he]
  show k + (if (execN o e.Command).2 = e.Reply then _ else _) = _
  rw [if_pos hr]; omega
theorem RTo.stop (h : RTo c E o k) (he : E[k]? = some e) (hr : ¬ (execN o e.Command).2 = e.Reply) : repF c E = k := by
  rw [h.1, rep_drop he]
  show k + (if (execN o e.Command).2 = e.Reply then _ else _) = _
  rw [if_neg hr]; omega
theorem RTo.all (h : RTo c E o k) (hk : E.length ≤ k) (hk2 : k ≤ E.length) : repF c E = E.length := by
  rw [h.1, List.drop_of_length_le hk]
  show k + 0 = _
  omega
theorem new_sml (n : Int) : Sml (newC n).1 24360 := by
  refine ⟨⟨Nat.le_trans (new_lenM n) (by omega), Nat.le_trans (new_lenA n) (by omega)⟩, ?_⟩
  unfold newC; split <;> simp [noCon]
end
theorem opF_rec : ∀ (m k : Nat) (s : List UInt8), ∀ e ∈ (opF m k s).1, RecOK e
  | 0, _, _ => fun _ h => by simp [opF] at h
  | m + 1, k, s => fun e h => by
    unfold opF at h
    by_cases hr : Rec1 k s
    · rw [if_pos hr] at h
      rcases List.mem_cons.1 h with h | h
      · rw [h]; exact (rec1_line hr).2.1
      · exact opF_rec m (k + 1) _ e h
    · rw [if_neg hr] at h; simp at h
section
variable {n : Int} {l : Log} {k m : Nat} {o : Console}
theorem recs_ok {e : LogRecord} (h : (recsN l).1[k]? = some e) : RecOK e := by
  unfold recsN at h
  split at h
  · exact opF_rec _ _ _ e (List.mem_of_getElem? h)
  · simp at h
theorem recs_cmd {e : LogRecord} (h : (recsN l).1[k]? = some e) : (1 ≤ (e.Command.length : Int) ∧ (e.Command.length : Int) ≤ 160) ∧ (e.Reply.length : Int) ≤ 200 := rec_rng (recs_ok h)
theorem rpl_no (h : (!(newC n).2) = true ∨ (!(recsN l).2) = true) : rplN n l = (0, false) := if_neg fun q => by
  rcases h with h | h
  · rw [q.1] at h; cases h
  · rw [recs_yes q.2] at h; cases h
theorem rpl_noS (h : (!(newC n).2) = true ∨ ¬ LogOK l) : rplN n l = (0, false) := if_neg fun q => by
  rcases h with h | h
  · rw [q.1] at h; cases h
  · exact h q.2
theorem rpl_ok (h : ¬ ((!(newC n).2) = true ∨ (!(recsN l).2) = true)) : (newC n).2 = true ∧ LogOK l := by
  refine ⟨Classical.byContradiction fun q => h (.inl (by simpa using q)), Classical.byContradiction fun q => h (.inr ?_)⟩
  rw [recs_no q]; rfl
theorem rpl_okS (h : ¬ ((!(newC n).2) = true ∨ ¬ LogOK l)) : (newC n).2 = true ∧ LogOK l :=
  ⟨Classical.byContradiction fun q => h (.inl (by simpa using q)), Classical.not_not.1 fun q => h (.inr q)⟩
theorem rpl_stop (h0 : (newC n).2 = true ∧ LogOK l) (h : RTo (newC n).1 (recsN l).1 o k) {e : LogRecord} (he : (recsN l).1[k]? = some e) (hr : ¬ (execN o e.Command).2 = e.Reply) : rplN n l = ((k : Int), true) := by
  unfold rplN; rw [if_pos h0, h.stop he hr]
theorem rpl_all (h0 : (newC n).2 = true ∧ LogOK l) (h : RTo (newC n).1 (recsN l).1 o k) (hm : m = (recsN l).1.length) (hk : (recsN l).1.length ≤ k) (hk2 : k ≤ (recsN l).1.length) : rplN n l = ((m : Int), true) := by
  unfold rplN; rw [if_pos h0, h.all hk hk2, hm]
end
end Go.Proofs.YtndcchndcghmoaaGreatDoor
namespace Go.Proofs.YtndcchndcghmoaaGreatDoor
open Go Go.RowKit Fw
theorem c_strings_Split1 (w : World) (s : List UInt8) (p : List UInt8) (hp0 : (s.length : Int) < 4294967281) {c : UInt8} (hp1 : p = [c]) (hE : EnvW w) : Calls Tryz.prog 56 #[str s, str p] w fun e w' => ∃ (A1' : Option Addr) (n1' c1' : Nat), e = .returned (.slice A1' n1' c1') ∧ SlO w' w.heap.size encS 1 9 A1' n1' c1' (splitB c s) ∧ Lo w w' := by
  subst hp1
  have h := c_strings_Split w s [c] hp0 (by simp) hE
  rw [split_eqB] at h
  exact h
end Go.Proofs.YtndcchndcghmoaaGreatDoor
namespace Go.Proofs.YtndcchndcghmoaaGreatDoor
open Go Go.RowKit Fw
set_option maxRecDepth 10000
set_option maxHeartbeats 2000000
set_option linter.unusedVariables false
theorem bld37_0_1 (a0_0 : Value) (a0_1 : Value) (a0_2 : Value) (a0_3 : Value) (a0_4 : Value) (a1_0 : Value) (a1_1 : Value) (a1_2 : Value) : Tryz.prog.built 37 [(0, .agg (List.toArray [a0_0, a0_1, a0_2, a0_3, a0_4])), (1, .agg (List.toArray [a1_0, a1_1, a1_2]))] = some (List.toArray [a0_0, a0_1, a0_2, a0_3, a0_4, a1_0, a1_1, a1_2]) := by kernel_rfl
theorem ent83 : Ent Tryz.prog 83 := en Tryz.func83
theorem ent84 : Ent Tryz.prog 84 := en Tryz.func84
theorem ent85 : Ent Tryz.prog 85 := en Tryz.func85
theorem ent86 : Ent Tryz.prog 86 := en Tryz.func86
theorem c_spec_l34Own (w : World) (c : Console) {Ac1 : Option Addr} {nc1 cc1 Bc1 : Nat} (hc1 : SlR w Bc1 encLMap 3 Ac1 nc1 cc1 c.Library.Maps) {Ac2 : Option Addr} {nc2 cc2 Bc2 : Nat} (hc2 : SlR w Bc2 encAway 2 Ac2 nc2 cc2 c.Library.Away) (hp0 : (nc1 : Int) ≤ 1048576) (hp1 : (nc2 : Int) ≤ 1048576) : Calls Tryz.prog 41 #[.agg (List.toArray [.slice Ac1 nc1 cc1, .slice Ac2 nc2 cc2, .int .i64 c.Library.Bought, .int .i64 c.Library.Dropped, .int .i64 c.Library.Mended, str c.Log.Durable, str c.Log.Pending, .int .i64 c.Log.Count])] w fun e w' => ∃ (A1' : Option Addr) (n1' c1' : Nat) (A2' : Option Addr) (n2' c2' : Nat), e = .returned (.agg (List.toArray [.slice A1' n1' c1', .slice A2' n2' c2', .int .i64 c.Library.Bought, .int .i64 c.Library.Dropped, .int .i64 c.Library.Mended, str c.Log.Durable, str c.Log.Pending, .int .i64 c.Log.Count])) ∧ SlO w' w.heap.size encLMap 3 102 A1' n1' c1' c.Library.Maps ∧ SlO w' w.heap.size encAway 2 129 A2' n2' c2' c.Library.Away ∧ Dj A1' A2' ∧ Lo w w' := by
 refine calls_W 9 Tryz.func41 rfl rfl rfl ?_
 have hbdc1 := hc1.bound
 have hlec1 := hc1.len
 have hBbc1 := hc1.bd
 have hbdc2 := hc2.bound
 have hlec2 := hc2.len
 have hBbc2 := hc2.bd
 refine Ws (Wr (SR.box (v := .agg (List.toArray _)) (l := [.slice Ac1 nc1 cc1, .slice Ac2 nc2 cc2, .int .i64 c.Library.Bought, .int .i64 c.Library.Dropped, .int .i64 c.Library.Mended, str c.Log.Durable, str c.Log.Pending, .int .i64 c.Log.Count]) rfl rfl ?_))
 intro g1 w2 hg3 hk4 hs5 hb6
 refine SR.alloc (l := [.slice none 0 0, .slice none 0 0, .int .i64 0, .int .i64 0, .int .i64 0, str ([] : List UInt8), str ([] : List UInt8), .int .i64 0]) tz37 rfl ?_
 intro g9 w10 hg11 hk12 hs13 hb14
 refine Qn (Ws (W.regA (Kp (fun b_ => b_ = g9) w10) (fun f' w' => ∃ (A58 : Option Addr) (n59 : Nat) (c60 : Nat) (A62 : Option Addr) (n63 : Nat) (c64 : Nat), At f' [(2, .pointer (pA g9))] ∧ (Kp (fun b_ => b_ = g9) w10 w') ∧ (SlO w' w10.heap.size encLMap 3 102 A58 n59 c60 c.Library.Maps) ∧ (SlO w' w10.heap.size encAway 2 129 A62 n63 c64 c.Library.Away) ∧ (Blk w' g9 37 [.slice A58 n59 c60, .slice A62 n63 c64, .int .i64 c.Library.Bought, .int .i64 c.Library.Dropped, .int .i64 c.Library.Mended, str c.Log.Durable, str c.Log.Pending, .int .i64 c.Log.Count]) ∧ Dj A58 A62 ∧ (n59 = (c.Library.Maps).length) ∧ ((n59 : Int) ≤ 9223372036854775807) ∧ (n63 = (c.Library.Away).length) ∧ ((n63 : Int) ≤ 9223372036854775807)) mo ?_ ?_))
 ·intro w89 hk90
  have hz91 := hk90.size
  refine Ak 0 rfl (kr hk90) (fun w' hw' => fA fa37_0 rfl) <| Ak 1 rfl (kr hk90) (fun w' hw' => r_lda (l := (cLb Ac1 nc1 cc1 Ac2 nc2 cc2 c.Library)) agg34 rfl (fun _ _ hu => ((hb6.lo hk12).kn hw' (by omega)).cells (vs := (cLb Ac1 nc1 cc1 Ac2 nc2 cc2 c.Library)) rfl hu) rfl) <| Ak 3 rfl (kr hk90) (fun w' hw' => fA fa37_1 rfl) <| Ak 4 rfl (kr hk90) (fun w' hw' => r_lda (l := [str c.Log.Durable, str c.Log.Pending, .int .i64 c.Log.Count]) agg35 rfl (fun _ _ hu => ((hb6.lo hk12).kn hw' (by omega)).cells (vs := [str c.Log.Durable, str c.Log.Pending, .int .i64 c.Log.Count]) rfl hu) rfl) <| Ab 2 rfl (SR.call ent79 (c_spec_l32Own w89 c.Library (((hc1.lo hk4).lo hk12).lo hk90) (((hc2.lo hk4).lo hk12).lo hk90) (by omega) (by omega)) rfl ?_)
  rintro e w93 ⟨A95, n96, c97, A99, n100, c101, rfl, hO98, hO102, hd103, hk94⟩
  refine ⟨_, rfl, ?_⟩
  have hz104 := hk94.size
  have hS106 := ((Kp.refl w10 : Kp (fun b_ => b_ = g9) w10 w10).lo hk90).lo hk94
  have hl107 := hO98.len
  have hl108 := hO98.rd.bound
  have hl109 := hO102.len
  have hl110 := hO102.rd.bound
  refine Qn ⟨hS106, _, rfl, (Ak 5 rfl hS106 (fun w' hw' => r_build (vs := [(0, .agg (List.toArray (cLb A95 n96 c97 A99 n100 c101 c.Library))), (1, .agg (List.toArray [str c.Log.Durable, str c.Log.Pending, .int .i64 c.Log.Count]))]) rfl (bld37_0_1 _ _ _ _ _ _ _ _)) <| Ab 6 rfl (Qw (o := 0) (vs := [.slice A95 n96 c97, .slice A99 n100 c101, .int .i64 c.Library.Bought, .int .i64 c.Library.Dropped, .int .i64 c.Library.Mended, str c.Log.Durable, str c.Log.Pending, .int .i64 c.Log.Count]) agg37.2 rfl rfl rfl rfl ((hb14.lo hk90).lo hk94) ler rfl ?_))⟩
  intro w111 hk112 hs113 hb114
  have hS117 := hS106.step hk112 (fun _ _ e => e)
  refine Qn ⟨hS117, _, rfl, (AH.done (by kernel_rfl) (⟨A95, n96, c97, A99, n100, c101, ⟨rfl, trivial⟩, hS117, ((hO98.kn hk112).down), ((hO102.kn hk112).down), hb114, hd103, hl107, hl108, hl109, hl110⟩))⟩
 rintro f119 w120 ⟨A58, n59, c60, A62, n63, c64, hat122, hR121, hm85, hm86, hm87, hd88, hl70, hl71, hl72, hl73⟩
 rw [← sets_of_at hat122]
 have hz123 := hR121.size
 refine W.ret (retC rfl rfl agg37 hm87 rfl (⟨A58, n59, c60, A62, n63, c64, eR rfl, (hm85.down), (hm86.down), hd88, ((((Lo.refl w).lo hk4).lo hk12).new hR121 (by omega))⟩))
theorem c_spec_l34Run (w : World) (c : Console) {Ac1 : Option Addr} {nc1 cc1 Bc1 : Nat} (hc1 : SlO w Bc1 encLMap 3 102 Ac1 nc1 cc1 c.Library.Maps) {Ac2 : Option Addr} {nc2 cc2 Bc2 : Nat} (hc2 : SlO w Bc2 encAway 2 129 Ac2 nc2 cc2 c.Library.Away) (s : List UInt8) (hdc_Library_Maps_c2 : Dj Ac1 Ac2) (hp0 : (nc1 : Int) ≤ 8) (hp1 : (nc2 : Int) ≤ 8) (hp2 : LibOK c.Library) (hp3 : (s.length : Int) ≤ 200) : Calls Tryz.prog 44 #[.agg (List.toArray [.slice Ac1 nc1 cc1, .slice Ac2 nc2 cc2, .int .i64 c.Library.Bought, .int .i64 c.Library.Dropped, .int .i64 c.Library.Mended, str c.Log.Durable, str c.Log.Pending, .int .i64 c.Log.Count]), str s] w fun e w' => ∃ (A1' : Option Addr) (n1' c1' : Nat) (A2' : Option Addr) (n2' c2' : Nat), e = .returned (.tuple (List.toArray [.agg (List.toArray [.slice A1' n1' c1', .slice A2' n2' c2', .int .i64 (((runS c s).1).Library.Bought), .int .i64 (((runS c s).1).Library.Dropped), .int .i64 (((runS c s).1).Library.Mended), str (((runS c s).1).Log.Durable), str (((runS c s).1).Log.Pending), .int .i64 (((runS c s).1).Log.Count)]), str ((runS c s).2)])) ∧ SlO w' Bc1 encLMap 3 102 A1' n1' c1' (((runS c s).1).Library.Maps) ∧ SlO w' Bc2 encAway 2 129 A2' n2' c2' (((runS c s).1).Library.Away) ∧ Dj A1' A2' ∧ (∀ b_, A1' = some ⟨b_, 0, none⟩ → (Ac1 = some ⟨b_, 0, none⟩ ∨ Ac2 = some ⟨b_, 0, none⟩) ∨ w.heap.size ≤ b_) ∧ (∀ b_, A2' = some ⟨b_, 0, none⟩ → (Ac1 = some ⟨b_, 0, none⟩ ∨ Ac2 = some ⟨b_, 0, none⟩) ∨ w.heap.size ≤ b_) ∧ Lo w w' := by
 refine calls_W 109 Tryz.func44 rfl rfl rfl ?_
 have hcpc1 := hc1.rd.cap
 have hbbc1 := hc1.rd.bd
 have hbdc1 := hc1.rd.bound
 have hlec1 := hc1.len
 have hBbc1 := hc1.bd
 have hcpc2 := hc2.rd.cap
 have hbbc2 := hc2.rd.bd
 have hbdc2 := hc2.rd.bound
 have hlec2 := hc2.len
 have hBbc2 := hc2.bd
 refine Ws (Wr (SR.box (v := .agg (List.toArray _)) (l := [.slice Ac1 nc1 cc1, .slice Ac2 nc2 cc2, .int .i64 c.Library.Bought, .int .i64 c.Library.Dropped, .int .i64 c.Library.Mended, str c.Log.Durable, str c.Log.Pending, .int .i64 c.Log.Count]) rfl rfl ?_))
 intro g1 w2 hg3 hk4 hs5 hb6
 have hd9 := SlO.ne (g := g1) hc1
 have hd10 := SlO.ne (g := g1) hc2
 refine SR.alloc (l := [.slice none 0 0, .slice none 0 0, .int .i64 0, .int .i64 0, .int .i64 0, str ([] : List UInt8), str ([] : List UInt8), .int .i64 0]) tz37 rfl ?_
 intro g11 w12 hg13 hk14 hs15 hb16
 have hd19 := SlO.ne (g := g11) (hc1.lo hk4)
 have hd20 := SlO.ne (g := g11) (hc2.lo hk4)
 refine Q (r_as (v := str ([] : List UInt8)) rfl) <| Qn (Ws ?_)
 have hm21 := (hc1.lo hk4).lo hk14
 have hm22 := (hc2.lo hk4).lo hk14
 refine Wr (Q (mS rfl) <| SR.call ent55 (c_spec_l1Split w12 s (32 : UInt8) (by first | omega | (simp only [List.length_append, List.length_cons, List.length_nil, List.length_take, List.length_drop]; omega))) rfl ?_)
 rintro e w23 ⟨A25, n26, c27, rfl, hO28, hk24⟩
 refine ⟨_, rfl, ?_⟩
 have hz29 := hk24.size
 have hl31 := hO28.len
 have hl32 := hO28.rd.bound
 have hq33 := splitB_len (32 : UInt8) s
 refine Q (aL rfl) <| Qn (Ws (Wr (SR.lit (vs := []) (L := ([] : List Int)) (enc := encI) tel93 (fun _ => rfl) rfl rfl rfl (by decide) ?_)))
 intro g35 w36 hg37 hk38 hO39
 have hz40 := hk38.size
 refine Q (aL rfl) <| Qn (Ws (Ws (Wr (Q (aI rfl) <| Qn (W.block (W.loop (σ := Nat × (Option Addr) × Nat × Nat) (fun g => [(1, str s), (2, .pointer (pA g1)), (4, .pointer (pA g11)), (6, .slice A25 n26 c27), (7, .slice g.2.1 g.2.2.1 g.2.2.2), (8, .int .i64 (g.1 : Int))]) (fun g w' => (Lo w w') ∧ (Blk w' g1 37 [.slice Ac1 nc1 cc1, .slice Ac2 nc2 cc2, .int .i64 c.Library.Bought, .int .i64 c.Library.Dropped, .int .i64 c.Library.Mended, str c.Log.Durable, str c.Log.Pending, .int .i64 c.Log.Count]) ∧ (SlO w' Bc1 encLMap 3 102 Ac1 nc1 cc1 c.Library.Maps) ∧ (SlO w' Bc2 encAway 2 129 Ac2 nc2 cc2 c.Library.Away) ∧ (Blk w' g11 37 [.slice none 0 0, .slice none 0 0, .int .i64 0, .int .i64 0, .int .i64 0, str ([] : List UInt8), str ([] : List UInt8), .int .i64 0]) ∧ (SlO w' w12.heap.size encS 1 9 A25 n26 c27 (splitB (32 : UInt8) s)) ∧ (SlO w' w.heap.size encI 1 3 g.2.1 g.2.2.1 g.2.2.2 (nmW s g.1)) ∧ (¬ g.2.1 = some ⟨g1, 0, none⟩) ∧ (∀ b_, g.2.1 = some ⟨b_, 0, none⟩ → ¬ Ac1 = some ⟨b_, 0, none⟩) ∧ (∀ b_, g.2.1 = some ⟨b_, 0, none⟩ → ¬ Ac2 = some ⟨b_, 0, none⟩) ∧ (¬ g.2.1 = some ⟨g11, 0, none⟩) ∧ (∀ b_, g.2.1 = some ⟨b_, 0, none⟩ → ¬ A25 = some ⟨b_, 0, none⟩) ∧ ((1 ≤ g.1 ∧ g.1 ≤ (splitB (32 : UInt8) s).length) ∧ AllNum (((splitB (32 : UInt8) s).take g.1).drop 1))) (fun g => (splitB (32 : UInt8) s).length - g.1) (1, (pA g35), 0, 0) ?_ ?_ ?_))))))
 ·exact (At.r rfl)
 ·show (Lo w w36) ∧ (Blk w36 g1 37 [.slice Ac1 nc1 cc1, .slice Ac2 nc2 cc2, .int .i64 c.Library.Bought, .int .i64 c.Library.Dropped, .int .i64 c.Library.Mended, str c.Log.Durable, str c.Log.Pending, .int .i64 c.Log.Count]) ∧ (SlO w36 Bc1 encLMap 3 102 Ac1 nc1 cc1 c.Library.Maps) ∧ (SlO w36 Bc2 encAway 2 129 Ac2 nc2 cc2 c.Library.Away) ∧ (Blk w36 g11 37 [.slice none 0 0, .slice none 0 0, .int .i64 0, .int .i64 0, .int .i64 0, str ([] : List UInt8), str ([] : List UInt8), .int .i64 0]) ∧ (SlO w36 w12.heap.size encS 1 9 A25 n26 c27 (splitB (32 : UInt8) s)) ∧ (SlO w36 w.heap.size encI 1 3 (pA g35) 0 0 (nmW s 1)) ∧ (¬ (pA g35) = some ⟨g1, 0, none⟩) ∧ (∀ b_, (pA g35) = some ⟨b_, 0, none⟩ → ¬ Ac1 = some ⟨b_, 0, none⟩) ∧ (∀ b_, (pA g35) = some ⟨b_, 0, none⟩ → ¬ Ac2 = some ⟨b_, 0, none⟩) ∧ (¬ (pA g35) = some ⟨g11, 0, none⟩) ∧ (∀ b_, (pA g35) = some ⟨b_, 0, none⟩ → ¬ A25 = some ⟨b_, 0, none⟩) ∧ ((1 ≤ 1 ∧ 1 ≤ (splitB (32 : UInt8) s).length) ∧ AllNum (((splitB (32 : UInt8) s).take 1).drop 1))
  exact ⟨(((((Lo.refl w).lo hk4).lo hk14).lo hk24).lo hk38), ((hb6.lo hk14).lo hk24).lo hk38, ((hm21.lo hk24).lo hk38), ((hm22.lo hk24).lo hk38), ((hb16.lo hk24).lo hk38), hO28.lo hk38, (SlO.eqv (hO39.down) (by exact nm_one s)), (fun e' => by have := hO39.base_le e'; omega), (fun b_ h h' => (SlO.ne (g := g35) (hm21.lo hk24)) (h'.trans h.symm)), (fun b_ h h' => (SlO.ne (g := g35) (hm22.lo hk24)) (h'.trans h.symm)), (fun e' => by have := hO39.base_le e'; omega), (fun b_ h h' => (SlO.ne (g := g35) hO28) (h'.trans h.symm)), (by (try dsimp only); exact ⟨by omega, allN_zero _⟩)⟩
 ·rintro ⟨k, A48, n48, c48⟩ f49 w50 hP52
  obtain ⟨hB51, hm53, hm54, hm55, hm56, hm57, hO58, hd60, hd61, hd62, hd63, hd64, hi59⟩ : (Lo w w50) ∧ (Blk w50 g1 37 [.slice Ac1 nc1 cc1, .slice Ac2 nc2 cc2, .int .i64 c.Library.Bought, .int .i64 c.Library.Dropped, .int .i64 c.Library.Mended, str c.Log.Durable, str c.Log.Pending, .int .i64 c.Log.Count]) ∧ (SlO w50 Bc1 encLMap 3 102 Ac1 nc1 cc1 c.Library.Maps) ∧ (SlO w50 Bc2 encAway 2 129 Ac2 nc2 cc2 c.Library.Away) ∧ (Blk w50 g11 37 [.slice none 0 0, .slice none 0 0, .int .i64 0, .int .i64 0, .int .i64 0, str ([] : List UInt8), str ([] : List UInt8), .int .i64 0]) ∧ (SlO w50 w12.heap.size encS 1 9 A25 n26 c27 (splitB (32 : UInt8) s)) ∧ (SlO w50 w.heap.size encI 1 3 A48 n48 c48 (nmW s k)) ∧ (¬ A48 = some ⟨g1, 0, none⟩) ∧ Dj A48 Ac1 ∧ Dj A48 Ac2 ∧ (¬ A48 = some ⟨g11, 0, none⟩) ∧ Dj A48 A25 ∧ ((1 ≤ k ∧ k ≤ (splitB (32 : UInt8) s).length) ∧ AllNum (((splitB (32 : UInt8) s).take k).drop 1)) := hP52
  refine (?_ : W _ _ _ _ _ (act _ (sets f49 [(1, str s), (2, .pointer (pA g1)), (4, .pointer (pA g11)), (6, .slice A25 n26 c27), (7, .slice A48 n48 c48), (8, .int .i64 (k : Int))])) _)
  have hzw50 := hB51.size
  have hl65 := hm53.lt
  have hl66 := hm56.lt
  have hl67 := hO58.len
  have hl68 := hO58.rd.bound
  have hq69 : 1 ≤ k ∧ k ≤ (splitB (32 : UInt8) s).length := hi59.1
  have hq70 : (nmW s k).length + 1 = k := nums_len (s := s) (k := k) (by omega)
  have hq71 : (splitB (32 : UInt8) s).length ≤ s.length + 1 := splitB_max (32 : UInt8) s
  refine Ws (Ws (Wr (Q (mI rfl) <| Q (mL rfl) <| Q (r_len und44 rfl) <| Q (r_lt rfl rfl) <| Qn (W.cond_d rfl (fun h72 => ?_) (fun h72 => ?_)))))
  ·refine W.skip (Ws (W.block (Ws (Wr (Q (mL rfl) <| Q (mI rfl) <| ?_)))))
   have hx74 := (hm57.rd).elem (i := k) (by omega)
   have hq75 := splitB_el hx74
   refine Q (r_ixR tsl44 (hm57.rd) rfl rfl (by omega)) <| Q (r_ld (v := str (gt (splitB (32 : UInt8) s) k)) sca9 rfl ((hm57.rd).cell0 hx74 rfl)) <| Qv ent83 (c_spec_ParseInt w50 (gt (splitB (32 : UInt8) s) k)) rfl fun w76 hk77 hz78 => ?_
   have hB79 := hB51.lo hk77
   have hq80 : -999999 ≤ (readN (gt (splitB (32 : UInt8) s) k)).1 ∧ (readN (gt (splitB (32 : UInt8) s) k)).1 ≤ 999999 := readN_rng (gt (splitB (32 : UInt8) s) k)
   refine Q (mT rfl) <| Q (xI rfl rfl) <| Q (xB rfl rfl) <| Q (aI rfl) <| Q (aB rfl) <| Qn (Ws (Ws (Wr (Q (mB rfl) <| Q (r_not rfl) <| Qn (W.cond_b rfl (fun h81 => ?_) (fun h81 => ?_))))))
   ·have hq82 := bnot_t h81
    refine Ws (Wr (Q (lG agg37 rfl (hm53.lo hk77) rfl) <| Qw (o := 0) (vs := [.slice Ac1 nc1 cc1, .slice Ac2 nc2 cc2, .int .i64 c.Library.Bought, .int .i64 c.Library.Dropped, .int .i64 c.Library.Mended, str c.Log.Durable, str c.Log.Pending, .int .i64 c.Log.Count]) agg37.2 rfl rfl rfl rfl (hm56.lo hk77) ler rfl ?_))
    intro w83 hk84 hs85 hb86
    refine Q (r_as (v := str ([63] : List UInt8)) rfl) <| Qn (W.ret (retCT rfl rfl agg37 hb86 rfl (v := str _) rfl ?_))
    refine ⟨Ac1, nc1, cc1, Ac2, nc2, cc2, eR (eT2 (eA (eC rfl (eC rfl (eC (eI ?_) (eC (eI ?_) (eC (eI ?_) (eC (eS ?_) (eC (eS ?_) (eC (eI ?_) rfl))))))))) (eS ?_)), (SlO.eqv ((hm54.lo hk77).kd hk84 hd19) ?_), (SlO.eqv ((hm55.lo hk77).kd hk84 hd20) ?_), hdc_Library_Maps_c2, (fun b_ h_ => .inl (.inl h_)), (fun b_ h_ => .inl (.inr h_)), (hB79.new hk84)⟩ <;> (rw [run_bad (k := k) (by omega) ‹_[_]? = some _› ‹(!_) = true›]; try rfl)
   ·have hq89 := bnot_f h81
    refine W.skip (Wr (Q (mL rfl) <| Q (mI rfl) <| SR.lit (vs := [.int .i64 ((readN (gt (splitB (32 : UInt8) s) k)).1)]) (L := ([(readN (gt (splitB (32 : UInt8) s) k)).1] : List Int)) (enc := encI) tel93 (fun _ => rfl) rfl rfl rfl (by decide) ?_))
    intro g90 w91 hg92 hk93 hO94
    have hz95 := hk93.size
    refine SR.app tel93 rfl rfl ((hO58.lo hk77).lo hk93) (hO94.rd) (fun _ => rfl) (by omega) (by omega) ?_
    intro A101 c102 w103 hk104 hO105 hN106
    have hz107 := hk104.size
    have hd109 : Dj A101 Ac1 := fun b_ e' h' => (hN106 b_ e').elim (fun h => hd61 b_ (h.trans e') h') (fun h => by have := ((hm54.lo hk77).lo hk93).base_le h'; omega)
    have hd110 : Dj A101 Ac2 := fun b_ e' h' => (hN106 b_ e').elim (fun h => hd62 b_ (h.trans e') h') (fun h => by have := ((hm55.lo hk77).lo hk93).base_le h'; omega)
    have hd111 : ¬ A101 = some ⟨g1, 0, none⟩ := fun e' => (hN106 g1 e').elim (fun h => hd60 (h.trans e')) (fun h => by have := ((hm53.lo hk77).lo hk93).lt; omega)
    have hd112 : ¬ A101 = some ⟨g11, 0, none⟩ := fun e' => (hN106 g11 e').elim (fun h => hd63 (h.trans e')) (fun h => by have := ((hm56.lo hk77).lo hk93).lt; omega)
    have hd113 : Dj A101 A25 := fun b_ e' h' => (hN106 b_ e').elim (fun h => hd64 b_ (h.trans e') h') (fun h => by have := ((hm57.lo hk77).lo hk93).base_le h'; omega)
    refine Q (aL rfl) <| Qn (Wr (Q (mI rfl) <| Q (r_add rfl rfl (by omega)) <| Q (aI rfl) <| Qn (⟨(k + 1, A101, n48 + 1, c102), _, rfl, (At.r rfl), (show (Lo w w103) ∧ (Blk w103 g1 37 [.slice Ac1 nc1 cc1, .slice Ac2 nc2 cc2, .int .i64 c.Library.Bought, .int .i64 c.Library.Dropped, .int .i64 c.Library.Mended, str c.Log.Durable, str c.Log.Pending, .int .i64 c.Log.Count]) ∧ (SlO w103 Bc1 encLMap 3 102 Ac1 nc1 cc1 c.Library.Maps) ∧ (SlO w103 Bc2 encAway 2 129 Ac2 nc2 cc2 c.Library.Away) ∧ (Blk w103 g11 37 [.slice none 0 0, .slice none 0 0, .int .i64 0, .int .i64 0, .int .i64 0, str ([] : List UInt8), str ([] : List UInt8), .int .i64 0]) ∧ (SlO w103 w12.heap.size encS 1 9 A25 n26 c27 (splitB (32 : UInt8) s)) ∧ (SlO w103 w.heap.size encI 1 3 A101 (n48 + 1) c102 (nmW s (k + 1))) ∧ (¬ A101 = some ⟨g1, 0, none⟩) ∧ Dj A101 Ac1 ∧ Dj A101 Ac2 ∧ (¬ A101 = some ⟨g11, 0, none⟩) ∧ Dj A101 A25 ∧ ((1 ≤ k + 1 ∧ k + 1 ≤ (splitB (32 : UInt8) s).length) ∧ AllNum (((splitB (32 : UInt8) s).take (k + 1)).drop 1)) from ⟨((hB79.lo hk93).step hk104 (fun i_ hi_ e' => by have := ((hO58.lo hk77).lo hk93).base_le e'; first | omega | exact e' | exact .inl e' | exact .inr e')), (((hm53.lo hk77).lo hk93).kp hk104 (fun e' => hd60 e')), (((hm54.lo hk77).lo hk93).kp hk104 (fun b_ hb e' => hd61 b_ e' hb)), (((hm55.lo hk77).lo hk93).kp hk104 (fun b_ hb e' => hd62 b_ e' hb)), (((hm56.lo hk77).lo hk93).kp hk104 (fun e' => hd63 e')), (((hm57.lo hk77).lo hk93).kp hk104 (fun b_ hb e' => hd64 b_ e' hb)), (SlO.eqv hO105 (by exact nums_next (by omega) ‹_[_]? = some _›)), hd111, hd109, hd110, hd112, hd113, ?_⟩), ?_⟩)))
    ·exact (by (try dsimp only); exact ⟨by omega, allN_next (by omega) (And.right ‹_ ∧ AllNum _›) ‹_[_]? = some _› (by simpa using ‹_›)⟩)
    ·exact (by (try dsimp only); omega)
  ·refine W.exit (xin_here (Ws (Ws (Wr (Q (mL rfl) <| Q (r_len und93 rfl) <| Qn (W.block (Ws (Wr (Q (r_eq rfl rfl) <| Q (aB rfl) <| Qn (W.cond_d rfl (fun h120 => ?_) (fun h120 => ?_)))))))))))
   ·refine Ws (W.regA (Kp (fun b_ => b_ = g11) w50) (fun f' w' => At f' [(2, .pointer (pA g1)), (4, .pointer (pA g11)), (5, str (spec_l34Word c.Library s))] ∧ (Kp (fun b_ => b_ = g11) w50 w') ∧ (Blk w' g11 37 [.slice Ac1 nc1 cc1, .slice Ac2 nc2 cc2, .int .i64 c.Library.Bought, .int .i64 c.Library.Dropped, .int .i64 c.Library.Mended, str c.Log.Durable, str c.Log.Pending, .int .i64 c.Log.Count])) mo ?_ ?_)
    ·intro w156 hk157
     have hz158 := hk157.size
     refine Ak 0 rfl (kr hk157) (fun w' hw' => r_lda (l := [.slice Ac1 nc1 cc1, .slice Ac2 nc2 cc2, .int .i64 c.Library.Bought, .int .i64 c.Library.Dropped, .int .i64 c.Library.Mended, str c.Log.Durable, str c.Log.Pending, .int .i64 c.Log.Count]) agg37 rfl (fun _ _ hu => (hm53.kn hw' (by omega)).cell hu) rfl) <| Ak 1 rfl (kr hk157) (fun w' hw' => fA fa37_0 rfl) <| Ak 2 rfl (kr hk157) (fun w' hw' => r_lda (l := (cLb Ac1 nc1 cc1 Ac2 nc2 cc2 c.Library)) agg34 rfl (fun _ _ hu => (hm53.kn hw' (by omega)).cells (vs := (cLb Ac1 nc1 cc1 Ac2 nc2 cc2 c.Library)) rfl hu) rfl) <| Ak 3 rfl (kr hk157) (fun w' hw' => r_mv (v := str _) rfl) <| Ab 4 rfl (Qv ent84 (c_spec_l34Word w156 c.Library ((hm54.lo hk157).rd) ((hm55.lo hk157).rd) s (by omega) (by omega) (by assumption)) rfl fun w160 hk161 hz162 => ?_)
     have hS164 := ((Kp.refl w50 : Kp (fun b_ => b_ = g11) w50 w50).lo hk157).lo hk161
     refine Qn ⟨hS164, _, rfl, (Ab 5 rfl (Qw (o := 0) (vs := [.slice Ac1 nc1 cc1, .slice Ac2 nc2 cc2, .int .i64 c.Library.Bought, .int .i64 c.Library.Dropped, .int .i64 c.Library.Mended, str c.Log.Durable, str c.Log.Pending, .int .i64 c.Log.Count]) agg37.2 rfl rfl rfl rfl ((hm56.lo hk157).lo hk161) ler rfl ?_))⟩
     intro w165 hk166 hs167 hb168
     have hS171 := hS164.step hk166 (fun _ _ e => e)
     refine Qn ⟨hS171, _, rfl, (Ak 6 rfl hS171 (fun w' hw' => r_as (v := str _) rfl) <| AH.done (by kernel_rfl) (⟨(At.r rfl), hS171, hb168⟩))⟩
    rintro f172 w173 ⟨hat175, hR174, hm155⟩
    rw [← sets_of_at hat175]
    have hz176 := hR174.size
    refine W.ret (retCT rfl rfl agg37 hm155 rfl (v := str _) rfl ?_)
    refine ⟨Ac1, nc1, cc1, Ac2, nc2, cc2, eR (eT2 (eA (eC rfl (eC rfl (eC (eI ?_) (eC (eI ?_) (eC (eI ?_) (eC (eS ?_) (eC (eS ?_) (eC (eI ?_) rfl))))))))) (eS ?_)), (SlO.eqv (hm54.kd hR174 hd19) ?_), (SlO.eqv (hm55.kd hR174 hd20) ?_), hdc_Library_Maps_c2, (fun b_ h_ => .inl (.inl h_)), (fun b_ h_ => .inl (.inr h_)), (hB51.new hR174 (by omega))⟩ <;> (rw [run_0 (k := k) (by omega) (And.right ‹_ ∧ AllNum _›) (by omega)]; try rfl)
   ·refine Ws (Wr (Q (r_eq rfl rfl) <| Q (aB rfl) <| Qn (W.cond_d rfl (fun h178 => ?_) (fun h178 => ?_))))
    ·refine Ws (W.regA (Kp (fun b_ => b_ = g11) w50) (fun f' w' => ∃ (A250 : Option Addr) (n251 : Nat) (c252 : Nat) (A254 : Option Addr) (n255 : Nat) (c256 : Nat), At f' [(2, .pointer (pA g1)), (4, .pointer (pA g11)), (5, str ((spec_l34One c (gt (splitB (32 : UInt8) s) 0) (gt (nmW s k) 0)).2))] ∧ (Kp (fun b_ => b_ = g11) w50 w') ∧ (SlO w' Bc1 encLMap 3 102 A250 n251 c252 (((spec_l34One c (gt (splitB (32 : UInt8) s) 0) (gt (nmW s k) 0)).1).Library.Maps)) ∧ (∀ b_, A250 = some ⟨b_, 0, none⟩ → (Ac1 = some ⟨b_, 0, none⟩ ∨ Ac2 = some ⟨b_, 0, none⟩) ∨ w.heap.size ≤ b_) ∧ (SlO w' Bc2 encAway 2 129 A254 n255 c256 (((spec_l34One c (gt (splitB (32 : UInt8) s) 0) (gt (nmW s k) 0)).1).Library.Away)) ∧ (∀ b_, A254 = some ⟨b_, 0, none⟩ → (Ac1 = some ⟨b_, 0, none⟩ ∨ Ac2 = some ⟨b_, 0, none⟩) ∨ w.heap.size ≤ b_) ∧ (Blk w' g11 37 [.slice A250 n251 c252, .slice A254 n255 c256, .int .i64 (((spec_l34One c (gt (splitB (32 : UInt8) s) 0) (gt (nmW s k) 0)).1).Library.Bought), .int .i64 (((spec_l34One c (gt (splitB (32 : UInt8) s) 0) (gt (nmW s k) 0)).1).Library.Dropped), .int .i64 (((spec_l34One c (gt (splitB (32 : UInt8) s) 0) (gt (nmW s k) 0)).1).Library.Mended), str (((spec_l34One c (gt (splitB (32 : UInt8) s) 0) (gt (nmW s k) 0)).1).Log.Durable), str (((spec_l34One c (gt (splitB (32 : UInt8) s) 0) (gt (nmW s k) 0)).1).Log.Pending), .int .i64 (((spec_l34One c (gt (splitB (32 : UInt8) s) 0) (gt (nmW s k) 0)).1).Log.Count)]) ∧ (¬ A250 = some ⟨g1, 0, none⟩) ∧ (¬ A250 = some ⟨g11, 0, none⟩) ∧ (¬ A254 = some ⟨g1, 0, none⟩) ∧ (¬ A254 = some ⟨g11, 0, none⟩) ∧ Dj A250 A25 ∧ Dj A250 A48 ∧ Dj A250 A254 ∧ Dj A254 A25 ∧ Dj A254 A48 ∧ ((splitB (32 : UInt8) s)[0]? = some (gt (splitB (32 : UInt8) s) 0)) ∧ ((gt (splitB (32 : UInt8) s) 0).length ≤ s.length) ∧ ((gt (splitB (32 : UInt8) s) 0).length ≤ s.length) ∧ ((nmW s k)[0]? = some (gt (nmW s k) 0)) ∧ (n251 = (((spec_l34One c (gt (splitB (32 : UInt8) s) 0) (gt (nmW s k) 0)).1).Library.Maps).length) ∧ ((n251 : Int) ≤ 9223372036854775807) ∧ (n255 = (((spec_l34One c (gt (splitB (32 : UInt8) s) 0) (gt (nmW s k) 0)).1).Library.Away).length) ∧ ((n255 : Int) ≤ 9223372036854775807)) mo ?_ ?_)
     ·intro w311 hk312
      have hz313 := hk312.size
      refine Ak 0 rfl (kr hk312) (fun w' hw' => r_lda (l := [.slice Ac1 nc1 cc1, .slice Ac2 nc2 cc2, .int .i64 c.Library.Bought, .int .i64 c.Library.Dropped, .int .i64 c.Library.Mended, str c.Log.Durable, str c.Log.Pending, .int .i64 c.Log.Count]) agg37 rfl (fun _ _ hu => (hm53.kn hw' (by omega)).cell hu) rfl) <| Ak 1 rfl (kr hk312) (fun w' hw' => r_mv (v := .slice _ _ _) rfl) <| ?_
      have hx316 := ((hm57.lo hk312).rd).elem (i := 0) (by omega)
      have hq317 := splitB_gt (32 : UInt8) s
      have hq318 := splitB_el hx316
      refine Ak 2 rfl (kr hk312) (fun w' hw' => r_ixR tsl44 ((hm57.kn hw' (by omega)).rd) rfl rfl (by omega)) <| Ak 3 rfl (kr hk312) (fun w' hw' => r_ld (v := str (gt (splitB (32 : UInt8) s) 0)) sca9 rfl (((hm57.kn hw' (by omega)).rd).cell0 hx316 rfl)) <| Ak 4 rfl (kr hk312) (fun w' hw' => r_mv (v := .slice _ _ _) rfl) <| ?_
      have hx320 := ((hO58.lo hk312).rd).elem (i := 0) (by omega)
      refine Ak 5 rfl (kr hk312) (fun w' hw' => r_ixR tsl93 ((hO58.kd hw' hd63).rd) rfl rfl (by omega)) <| Ak 6 rfl (kr hk312) (fun w' hw' => r_ld (v := .int .i64 (gt (nmW s k) 0)) sca3 rfl (((hO58.kd hw' hd63).rd).cell0 hx320 rfl)) <| Ab 7 rfl (SR.call ent85 (c_spec_l34One w311 c (hm54.lo hk312) (hm55.lo hk312) (gt (splitB (32 : UInt8) s) 0) (gt (nmW s k) 0) hdc_Library_Maps_c2 (by omega) (by omega)) rfl ?_)
      rintro e w321 ⟨A323, n324, c325, A327, n328, c329, rfl, hO326, hO330, hd331, hN332, hN333, hk322⟩
      refine ⟨_, rfl, ?_⟩
      have hz334 := hk322.size
      have hS336 := ((Kp.refl w50 : Kp (fun b_ => b_ = g11) w50 w50).lo hk312).lo hk322
      have hd337 : Dj A323 A25 := fun b_ e' h' => (hN332 b_ e').elim (fun h => h.elim (fun h => (fun b_ h h' => by have h1 := hm21.base_le h; have h2 := (hm57.lo hk312).base_le h'; omega) b_ h h') (fun h => (fun b_ h h' => by have h1 := hm22.base_le h; have h2 := (hm57.lo hk312).base_le h'; omega) b_ h h')) (fun h => by have := (hm57.lo hk312).base_le h'; omega)
      have hd338 : Dj A323 A48 := fun b_ e' h' => (hN332 b_ e').elim (fun h => h.elim (fun h => (fun b_ h h' => hd61 b_ h' h) b_ h h') (fun h => (fun b_ h h' => hd62 b_ h' h) b_ h h')) (fun h => by have := (hO58.lo hk312).base_le h'; omega)
      have hd339 : ¬ A323 = some ⟨g1, 0, none⟩ := fun e' => (hN332 g1 e').elim (fun h => h.elim (fun h => hd9 h) (fun h => hd10 h)) (fun h => by have := (hm53.lo hk312).lt; omega)
      have hd340 : ¬ A323 = some ⟨g11, 0, none⟩ := fun e' => (hN332 g11 e').elim (fun h => h.elim (fun h => hd19 h) (fun h => hd20 h)) (fun h => by have := (hm56.lo hk312).lt; omega)
      have hd341 : Dj A327 A25 := fun b_ e' h' => (hN333 b_ e').elim (fun h => h.elim (fun h => (fun b_ h h' => by have h1 := hm21.base_le h; have h2 := (hm57.lo hk312).base_le h'; omega) b_ h h') (fun h => (fun b_ h h' => by have h1 := hm22.base_le h; have h2 := (hm57.lo hk312).base_le h'; omega) b_ h h')) (fun h => by have := (hm57.lo hk312).base_le h'; omega)
      have hd342 : Dj A327 A48 := fun b_ e' h' => (hN333 b_ e').elim (fun h => h.elim (fun h => (fun b_ h h' => hd61 b_ h' h) b_ h h') (fun h => (fun b_ h h' => hd62 b_ h' h) b_ h h')) (fun h => by have := (hO58.lo hk312).base_le h'; omega)
      have hd343 : ¬ A327 = some ⟨g1, 0, none⟩ := fun e' => (hN333 g1 e').elim (fun h => h.elim (fun h => hd9 h) (fun h => hd10 h)) (fun h => by have := (hm53.lo hk312).lt; omega)
      have hd344 : ¬ A327 = some ⟨g11, 0, none⟩ := fun e' => (hN333 g11 e').elim (fun h => h.elim (fun h => hd19 h) (fun h => hd20 h)) (fun h => by have := (hm56.lo hk312).lt; omega)
      have hl345 := hO326.len
      have hl346 := hO326.rd.bound
      have hl347 := hO330.len
      have hl348 := hO330.rd.bound
      refine Qn ⟨hS336, _, rfl, (Ak 8 rfl hS336 (fun w' hw' => r_ext (v := .agg (List.toArray _)) rfl rfl) <| Ak 9 rfl hS336 (fun w' hw' => r_ext (v := str _) rfl rfl) <| Ab 10 rfl (Qw (o := 0) (vs := [.slice A323 n324 c325, .slice A327 n328 c329, .int .i64 (((spec_l34One c (gt (splitB (32 : UInt8) s) 0) (gt (nmW s k) 0)).1).Library.Bought), .int .i64 (((spec_l34One c (gt (splitB (32 : UInt8) s) 0) (gt (nmW s k) 0)).1).Library.Dropped), .int .i64 (((spec_l34One c (gt (splitB (32 : UInt8) s) 0) (gt (nmW s k) 0)).1).Library.Mended), str (((spec_l34One c (gt (splitB (32 : UInt8) s) 0) (gt (nmW s k) 0)).1).Log.Durable), str (((spec_l34One c (gt (splitB (32 : UInt8) s) 0) (gt (nmW s k) 0)).1).Log.Pending), .int .i64 (((spec_l34One c (gt (splitB (32 : UInt8) s) 0) (gt (nmW s k) 0)).1).Log.Count)]) agg37.2 rfl rfl rfl rfl ((hm56.lo hk312).lo hk322) ler rfl ?_))⟩
      intro w349 hk350 hs351 hb352
      have hS355 := hS336.step hk350 (fun _ _ e => e)
      refine Qn ⟨hS355, _, rfl, (Ak 11 rfl hS355 (fun w' hw' => r_as (v := str _) rfl) <| AH.done (by kernel_rfl) (⟨A323, n324, c325, A327, n328, c329, (At.r rfl), hS355, (hO326.kd hk350 hd340), (fun b_ h_ => (hN332 b_ h_).elim (fun h => h.elim (fun h => ((show ∀ b_, Ac1 = some ⟨b_, 0, none⟩ → (Ac1 = some ⟨b_, 0, none⟩ ∨ Ac2 = some ⟨b_, 0, none⟩) ∨ w.heap.size ≤ b_ from (fun b_ h_ => .inl (.inl h_))) b_ h)) (fun h => ((show ∀ b_, Ac2 = some ⟨b_, 0, none⟩ → (Ac1 = some ⟨b_, 0, none⟩ ∨ Ac2 = some ⟨b_, 0, none⟩) ∨ w.heap.size ≤ b_ from (fun b_ h_ => .inl (.inr h_))) b_ h))) (fun h => .inr (by omega))), (hO330.kd hk350 hd344), (fun b_ h_ => (hN333 b_ h_).elim (fun h => h.elim (fun h => ((show ∀ b_, Ac1 = some ⟨b_, 0, none⟩ → (Ac1 = some ⟨b_, 0, none⟩ ∨ Ac2 = some ⟨b_, 0, none⟩) ∨ w.heap.size ≤ b_ from (fun b_ h_ => .inl (.inl h_))) b_ h)) (fun h => ((show ∀ b_, Ac2 = some ⟨b_, 0, none⟩ → (Ac1 = some ⟨b_, 0, none⟩ ∨ Ac2 = some ⟨b_, 0, none⟩) ∨ w.heap.size ≤ b_ from (fun b_ h_ => .inl (.inr h_))) b_ h))) (fun h => .inr (by omega))), hb352, hd339, hd340, hd343, hd344, hd337, hd338, hd331, hd341, hd342, hx316, hq318, hq318, hx320, hl345, hl346, hl347, hl348⟩))⟩
     rintro f365 w366 ⟨A250, n251, c252, A254, n255, c256, hat368, hR367, hm297, hN298, hm299, hN300, hm301, hd302, hd303, hd304, hd305, hd306, hd307, hd308, hd309, hd310, hx242, hq243, hq244, hx246, hl272, hl273, hl274, hl275⟩
     rw [← sets_of_at hat368]
     have hz369 := hR367.size
     refine W.ret (retCT rfl rfl agg37 hm301 rfl (v := str _) rfl ?_)
     refine ⟨A250, n251, c252, A254, n255, c256, eR (eT2 (eA (eC rfl (eC rfl (eC (eI ?_) (eC (eI ?_) (eC (eI ?_) (eC (eS ?_) (eC (eS ?_) (eC (eI ?_) rfl))))))))) (eS ?_)), (SlO.eqv hm297 ?_), (SlO.eqv hm299 ?_), hd308, hN298, hN300, (hB51.new hR367 (by omega))⟩ <;> (rw [run_1 (k := k) (by omega) (And.right ‹_ ∧ AllNum _›) (by omega)]; try rfl)
    ·refine Ws (Wr (Q (r_eq rfl rfl) <| Q (aB rfl) <| Qn (W.cond_d rfl (fun h371 => ?_) (fun h371 => ?_))))
     ·refine Ws (W.regA (Kp (fun b_ => b_ = g11) w50) (fun f' w' => ∃ (A447 : Option Addr) (n448 : Nat) (c449 : Nat) (A451 : Option Addr) (n452 : Nat) (c453 : Nat), At f' [(2, .pointer (pA g1)), (4, .pointer (pA g11)), (5, str ((spec_l34Two c (gt (splitB (32 : UInt8) s) 0) (gt (nmW s k) 0) (gt (nmW s k) 1)).2))] ∧ (Kp (fun b_ => b_ = g11) w50 w') ∧ (SlO w' Bc1 encLMap 3 102 A447 n448 c449 (((spec_l34Two c (gt (splitB (32 : UInt8) s) 0) (gt (nmW s k) 0) (gt (nmW s k) 1)).1).Library.Maps)) ∧ (∀ b_, A447 = some ⟨b_, 0, none⟩ → (Ac1 = some ⟨b_, 0, none⟩ ∨ Ac2 = some ⟨b_, 0, none⟩) ∨ w.heap.size ≤ b_) ∧ (SlO w' Bc2 encAway 2 129 A451 n452 c453 (((spec_l34Two c (gt (splitB (32 : UInt8) s) 0) (gt (nmW s k) 0) (gt (nmW s k) 1)).1).Library.Away)) ∧ (∀ b_, A451 = some ⟨b_, 0, none⟩ → (Ac1 = some ⟨b_, 0, none⟩ ∨ Ac2 = some ⟨b_, 0, none⟩) ∨ w.heap.size ≤ b_) ∧ (Blk w' g11 37 [.slice A447 n448 c449, .slice A451 n452 c453, .int .i64 (((spec_l34Two c (gt (splitB (32 : UInt8) s) 0) (gt (nmW s k) 0) (gt (nmW s k) 1)).1).Library.Bought), .int .i64 (((spec_l34Two c (gt (splitB (32 : UInt8) s) 0) (gt (nmW s k) 0) (gt (nmW s k) 1)).1).Library.Dropped), .int .i64 (((spec_l34Two c (gt (splitB (32 : UInt8) s) 0) (gt (nmW s k) 0) (gt (nmW s k) 1)).1).Library.Mended), str (((spec_l34Two c (gt (splitB (32 : UInt8) s) 0) (gt (nmW s k) 0) (gt (nmW s k) 1)).1).Log.Durable), str (((spec_l34Two c (gt (splitB (32 : UInt8) s) 0) (gt (nmW s k) 0) (gt (nmW s k) 1)).1).Log.Pending), .int .i64 (((spec_l34Two c (gt (splitB (32 : UInt8) s) 0) (gt (nmW s k) 0) (gt (nmW s k) 1)).1).Log.Count)]) ∧ (¬ A447 = some ⟨g1, 0, none⟩) ∧ (¬ A447 = some ⟨g11, 0, none⟩) ∧ (¬ A451 = some ⟨g1, 0, none⟩) ∧ (¬ A451 = some ⟨g11, 0, none⟩) ∧ Dj A447 A25 ∧ Dj A447 A48 ∧ Dj A447 A451 ∧ Dj A451 A25 ∧ Dj A451 A48 ∧ ((splitB (32 : UInt8) s)[0]? = some (gt (splitB (32 : UInt8) s) 0)) ∧ ((gt (splitB (32 : UInt8) s) 0).length ≤ s.length) ∧ ((gt (splitB (32 : UInt8) s) 0).length ≤ s.length) ∧ ((nmW s k)[0]? = some (gt (nmW s k) 0)) ∧ ((nmW s k)[1]? = some (gt (nmW s k) 1)) ∧ (n448 = (((spec_l34Two c (gt (splitB (32 : UInt8) s) 0) (gt (nmW s k) 0) (gt (nmW s k) 1)).1).Library.Maps).length) ∧ ((n448 : Int) ≤ 9223372036854775807) ∧ (n452 = (((spec_l34Two c (gt (splitB (32 : UInt8) s) 0) (gt (nmW s k) 0) (gt (nmW s k) 1)).1).Library.Away).length) ∧ ((n452 : Int) ≤ 9223372036854775807)) mo ?_ ?_)
      ·intro w508 hk509
       have hz510 := hk509.size
       refine Ak 0 rfl (kr hk509) (fun w' hw' => r_lda (l := [.slice Ac1 nc1 cc1, .slice Ac2 nc2 cc2, .int .i64 c.Library.Bought, .int .i64 c.Library.Dropped, .int .i64 c.Library.Mended, str c.Log.Durable, str c.Log.Pending, .int .i64 c.Log.Count]) agg37 rfl (fun _ _ hu => (hm53.kn hw' (by omega)).cell hu) rfl) <| Ak 1 rfl (kr hk509) (fun w' hw' => r_mv (v := .slice _ _ _) rfl) <| ?_
       have hx513 := ((hm57.lo hk509).rd).elem (i := 0) (by omega)
       have hq514 := splitB_gt (32 : UInt8) s
       have hq515 := splitB_el hx513
       refine Ak 2 rfl (kr hk509) (fun w' hw' => r_ixR tsl44 ((hm57.kn hw' (by omega)).rd) rfl rfl (by omega)) <| Ak 3 rfl (kr hk509) (fun w' hw' => r_ld (v := str (gt (splitB (32 : UInt8) s) 0)) sca9 rfl (((hm57.kn hw' (by omega)).rd).cell0 hx513 rfl)) <| Ak 4 rfl (kr hk509) (fun w' hw' => r_mv (v := .slice _ _ _) rfl) <| ?_
       have hx517 := ((hO58.lo hk509).rd).elem (i := 0) (by omega)
       refine Ak 5 rfl (kr hk509) (fun w' hw' => r_ixR tsl93 ((hO58.kd hw' hd63).rd) rfl rfl (by omega)) <| Ak 6 rfl (kr hk509) (fun w' hw' => r_ld (v := .int .i64 (gt (nmW s k) 0)) sca3 rfl (((hO58.kd hw' hd63).rd).cell0 hx517 rfl)) <| Ak 7 rfl (kr hk509) (fun w' hw' => r_mv (v := .slice _ _ _) rfl) <| ?_
       have hx519 := ((hO58.lo hk509).rd).elem (i := 1) (by omega)
       refine Ak 8 rfl (kr hk509) (fun w' hw' => r_ixR tsl93 ((hO58.kd hw' hd63).rd) rfl rfl (by omega)) <| Ak 9 rfl (kr hk509) (fun w' hw' => r_ld (v := .int .i64 (gt (nmW s k) 1)) sca3 rfl (((hO58.kd hw' hd63).rd).cell0 hx519 rfl)) <| Ab 10 rfl (SR.call ent86 (c_spec_l34Two w508 c (hm54.lo hk509) (hm55.lo hk509) (gt (splitB (32 : UInt8) s) 0) (gt (nmW s k) 0) (gt (nmW s k) 1) hdc_Library_Maps_c2 (by omega) (by omega)) rfl ?_)
       rintro e w520 ⟨A522, n523, c524, A526, n527, c528, rfl, hO525, hO529, hd530, hN531, hN532, hk521⟩
       refine ⟨_, rfl, ?_⟩
       have hz533 := hk521.size
       have hS535 := ((Kp.refl w50 : Kp (fun b_ => b_ = g11) w50 w50).lo hk509).lo hk521
       have hd536 : Dj A522 A25 := fun b_ e' h' => (hN531 b_ e').elim (fun h => h.elim (fun h => (fun b_ h h' => by have h1 := hm21.base_le h; have h2 := (hm57.lo hk509).base_le h'; omega) b_ h h') (fun h => (fun b_ h h' => by have h1 := hm22.base_le h; have h2 := (hm57.lo hk509).base_le h'; omega) b_ h h')) (fun h => by have := (hm57.lo hk509).base_le h'; omega)
       have hd537 : Dj A522 A48 := fun b_ e' h' => (hN531 b_ e').elim (fun h => h.elim (fun h => (fun b_ h h' => hd61 b_ h' h) b_ h h') (fun h => (fun b_ h h' => hd62 b_ h' h) b_ h h')) (fun h => by have := (hO58.lo hk509).base_le h'; omega)
       have hd538 : ¬ A522 = some ⟨g1, 0, none⟩ := fun e' => (hN531 g1 e').elim (fun h => h.elim (fun h => hd9 h) (fun h => hd10 h)) (fun h => by have := (hm53.lo hk509).lt; omega)
       have hd539 : ¬ A522 = some ⟨g11, 0, none⟩ := fun e' => (hN531 g11 e').elim (fun h => h.elim (fun h => hd19 h) (fun h => hd20 h)) (fun h => by have := (hm56.lo hk509).lt; omega)
       have hd540 : Dj A526 A25 := fun b_ e' h' => (hN532 b_ e').elim (fun h => h.elim (fun h => (fun b_ h h' => by have h1 := hm21.base_le h; have h2 := (hm57.lo hk509).base_le h'; omega) b_ h h') (fun h => (fun b_ h h' => by have h1 := hm22.base_le h; have h2 := (hm57.lo hk509).base_le h'; omega) b_ h h')) (fun h => by have := (hm57.lo hk509).base_le h'; omega)
       have hd541 : Dj A526 A48 := fun b_ e' h' => (hN532 b_ e').elim (fun h => h.elim (fun h => (fun b_ h h' => hd61 b_ h' h) b_ h h') (fun h => (fun b_ h h' => hd62 b_ h' h) b_ h h')) (fun h => by have := (hO58.lo hk509).base_le h'; omega)
       have hd542 : ¬ A526 = some ⟨g1, 0, none⟩ := fun e' => (hN532 g1 e').elim (fun h => h.elim (fun h => hd9 h) (fun h => hd10 h)) (fun h => by have := (hm53.lo hk509).lt; omega)
       have hd543 : ¬ A526 = some ⟨g11, 0, none⟩ := fun e' => (hN532 g11 e').elim (fun h => h.elim (fun h => hd19 h) (fun h => hd20 h)) (fun h => by have := (hm56.lo hk509).lt; omega)
       have hl544 := hO525.len
       have hl545 := hO525.rd.bound
       have hl546 := hO529.len
       have hl547 := hO529.rd.bound
       refine Qn ⟨hS535, _, rfl, (Ak 11 rfl hS535 (fun w' hw' => r_ext (v := .agg (List.toArray _)) rfl rfl) <| Ak 12 rfl hS535 (fun w' hw' => r_ext (v := str _) rfl rfl) <| Ab 13 rfl (Qw (o := 0) (vs := [.slice A522 n523 c524, .slice A526 n527 c528, .int .i64 (((spec_l34Two c (gt (splitB (32 : UInt8) s) 0) (gt (nmW s k) 0) (gt (nmW s k) 1)).1).Library.Bought), .int .i64 (((spec_l34Two c (gt (splitB (32 : UInt8) s) 0) (gt (nmW s k) 0) (gt (nmW s k) 1)).1).Library.Dropped), .int .i64 (((spec_l34Two c (gt (splitB (32 : UInt8) s) 0) (gt (nmW s k) 0) (gt (nmW s k) 1)).1).Library.Mended), str (((spec_l34Two c (gt (splitB (32 : UInt8) s) 0) (gt (nmW s k) 0) (gt (nmW s k) 1)).1).Log.Durable), str (((spec_l34Two c (gt (splitB (32 : UInt8) s) 0) (gt (nmW s k) 0) (gt (nmW s k) 1)).1).Log.Pending), .int .i64 (((spec_l34Two c (gt (splitB (32 : UInt8) s) 0) (gt (nmW s k) 0) (gt (nmW s k) 1)).1).Log.Count)]) agg37.2 rfl rfl rfl rfl ((hm56.lo hk509).lo hk521) ler rfl ?_))⟩
       intro w548 hk549 hs550 hb551
       have hS554 := hS535.step hk549 (fun _ _ e => e)
       refine Qn ⟨hS554, _, rfl, (Ak 14 rfl hS554 (fun w' hw' => r_as (v := str _) rfl) <| AH.done (by kernel_rfl) (⟨A522, n523, c524, A526, n527, c528, (At.r rfl), hS554, (hO525.kd hk549 hd539), (fun b_ h_ => (hN531 b_ h_).elim (fun h => h.elim (fun h => ((show ∀ b_, Ac1 = some ⟨b_, 0, none⟩ → (Ac1 = some ⟨b_, 0, none⟩ ∨ Ac2 = some ⟨b_, 0, none⟩) ∨ w.heap.size ≤ b_ from (fun b_ h_ => .inl (.inl h_))) b_ h)) (fun h => ((show ∀ b_, Ac2 = some ⟨b_, 0, none⟩ → (Ac1 = some ⟨b_, 0, none⟩ ∨ Ac2 = some ⟨b_, 0, none⟩) ∨ w.heap.size ≤ b_ from (fun b_ h_ => .inl (.inr h_))) b_ h))) (fun h => .inr (by omega))), (hO529.kd hk549 hd543), (fun b_ h_ => (hN532 b_ h_).elim (fun h => h.elim (fun h => ((show ∀ b_, Ac1 = some ⟨b_, 0, none⟩ → (Ac1 = some ⟨b_, 0, none⟩ ∨ Ac2 = some ⟨b_, 0, none⟩) ∨ w.heap.size ≤ b_ from (fun b_ h_ => .inl (.inl h_))) b_ h)) (fun h => ((show ∀ b_, Ac2 = some ⟨b_, 0, none⟩ → (Ac1 = some ⟨b_, 0, none⟩ ∨ Ac2 = some ⟨b_, 0, none⟩) ∨ w.heap.size ≤ b_ from (fun b_ h_ => .inl (.inr h_))) b_ h))) (fun h => .inr (by omega))), hb551, hd538, hd539, hd542, hd543, hd536, hd537, hd530, hd540, hd541, hx513, hq515, hq515, hx517, hx519, hl544, hl545, hl546, hl547⟩))⟩
      rintro f564 w565 ⟨A447, n448, c449, A451, n452, c453, hat567, hR566, hm494, hN495, hm496, hN497, hm498, hd499, hd500, hd501, hd502, hd503, hd504, hd505, hd506, hd507, hx437, hq438, hq439, hx441, hx443, hl469, hl470, hl471, hl472⟩
      rw [← sets_of_at hat567]
      have hz568 := hR566.size
      refine W.ret (retCT rfl rfl agg37 hm498 rfl (v := str _) rfl ?_)
      refine ⟨A447, n448, c449, A451, n452, c453, eR (eT2 (eA (eC rfl (eC rfl (eC (eI ?_) (eC (eI ?_) (eC (eI ?_) (eC (eS ?_) (eC (eS ?_) (eC (eI ?_) rfl))))))))) (eS ?_)), (SlO.eqv hm494 ?_), (SlO.eqv hm496 ?_), hd505, hN495, hN497, (hB51.new hR566 (by omega))⟩ <;> (rw [run_2 (k := k) (by omega) (And.right ‹_ ∧ AllNum _›) (by omega)]; try rfl)
     ·refine Ws (Wr (Q (r_eq rfl rfl) <| Q (aB rfl) <| Qn (W.cond_d rfl (fun h570 => ?_) (fun h570 => ?_))))
      ·refine Ws (Wr (Q (mL rfl) <| ?_))
       have hx572 := (hm57.rd).elem (i := 0) (by omega)
       have hq573 := splitB_gt (32 : UInt8) s
       have hq574 := splitB_el hx572
       refine Q (r_ixR tsl44 (hm57.rd) rfl rfl (by omega)) <| Q (r_ld (v := str (gt (splitB (32 : UInt8) s) 0)) sca9 rfl ((hm57.rd).cell0 hx572 rfl)) <| Qn (W.block (Ws (Wr (Q (r_eqs (s := (gt (splitB (32 : UInt8) s) 0)) (r := ([98, 97, 99, 107] : List UInt8)) rfl rfl) <| Q (aB rfl) <| Qn (W.cond_d rfl (fun h575 => ?_) (fun h575 => ?_))))))
       ·refine Ws (W.regA (Kp (fun b_ => b_ = g11) w50) (fun f' w' => ∃ (A647 : Option Addr) (n648 : Nat) (c649 : Nat) (A651 : Option Addr) (n652 : Nat) (c653 : Nat), At f' [(2, .pointer (pA g1)), (4, .pointer (pA g11)), (5, str ((spec_l34Make c (⟨3, (gt (nmW s k) 0), (gt (nmW s k) 1), (gt (nmW s k) 2)⟩ : LibraryStep)).2))] ∧ (Kp (fun b_ => b_ = g11) w50 w') ∧ (SlO w' Bc1 encLMap 3 102 A647 n648 c649 (((spec_l34Make c (⟨3, (gt (nmW s k) 0), (gt (nmW s k) 1), (gt (nmW s k) 2)⟩ : LibraryStep)).1).Library.Maps)) ∧ (∀ b_, A647 = some ⟨b_, 0, none⟩ → (Ac1 = some ⟨b_, 0, none⟩ ∨ Ac2 = some ⟨b_, 0, none⟩) ∨ w.heap.size ≤ b_) ∧ (SlO w' Bc2 encAway 2 129 A651 n652 c653 (((spec_l34Make c (⟨3, (gt (nmW s k) 0), (gt (nmW s k) 1), (gt (nmW s k) 2)⟩ : LibraryStep)).1).Library.Away)) ∧ (∀ b_, A651 = some ⟨b_, 0, none⟩ → (Ac1 = some ⟨b_, 0, none⟩ ∨ Ac2 = some ⟨b_, 0, none⟩) ∨ w.heap.size ≤ b_) ∧ (Blk w' g11 37 [.slice A647 n648 c649, .slice A651 n652 c653, .int .i64 (((spec_l34Make c (⟨3, (gt (nmW s k) 0), (gt (nmW s k) 1), (gt (nmW s k) 2)⟩ : LibraryStep)).1).Library.Bought), .int .i64 (((spec_l34Make c (⟨3, (gt (nmW s k) 0), (gt (nmW s k) 1), (gt (nmW s k) 2)⟩ : LibraryStep)).1).Library.Dropped), .int .i64 (((spec_l34Make c (⟨3, (gt (nmW s k) 0), (gt (nmW s k) 1), (gt (nmW s k) 2)⟩ : LibraryStep)).1).Library.Mended), str (((spec_l34Make c (⟨3, (gt (nmW s k) 0), (gt (nmW s k) 1), (gt (nmW s k) 2)⟩ : LibraryStep)).1).Log.Durable), str (((spec_l34Make c (⟨3, (gt (nmW s k) 0), (gt (nmW s k) 1), (gt (nmW s k) 2)⟩ : LibraryStep)).1).Log.Pending), .int .i64 (((spec_l34Make c (⟨3, (gt (nmW s k) 0), (gt (nmW s k) 1), (gt (nmW s k) 2)⟩ : LibraryStep)).1).Log.Count)]) ∧ (¬ A647 = some ⟨g1, 0, none⟩) ∧ (¬ A647 = some ⟨g11, 0, none⟩) ∧ (¬ A651 = some ⟨g1, 0, none⟩) ∧ (¬ A651 = some ⟨g11, 0, none⟩) ∧ Dj A647 A25 ∧ Dj A647 A48 ∧ Dj A647 A651 ∧ Dj A651 A25 ∧ Dj A651 A48 ∧ ((nmW s k)[0]? = some (gt (nmW s k) 0)) ∧ ((nmW s k)[1]? = some (gt (nmW s k) 1)) ∧ ((nmW s k)[2]? = some (gt (nmW s k) 2)) ∧ (n648 = (((spec_l34Make c (⟨3, (gt (nmW s k) 0), (gt (nmW s k) 1), (gt (nmW s k) 2)⟩ : LibraryStep)).1).Library.Maps).length) ∧ ((n648 : Int) ≤ 9223372036854775807) ∧ (n652 = (((spec_l34Make c (⟨3, (gt (nmW s k) 0), (gt (nmW s k) 1), (gt (nmW s k) 2)⟩ : LibraryStep)).1).Library.Away).length) ∧ ((n652 : Int) ≤ 9223372036854775807)) mo ?_ ?_)
        ·intro w708 hk709
         have hz710 := hk709.size
         refine Ak 0 rfl (kr hk709) (fun w' hw' => r_lda (l := [.slice Ac1 nc1 cc1, .slice Ac2 nc2 cc2, .int .i64 c.Library.Bought, .int .i64 c.Library.Dropped, .int .i64 c.Library.Mended, str c.Log.Durable, str c.Log.Pending, .int .i64 c.Log.Count]) agg37 rfl (fun _ _ hu => (hm53.kn hw' (by omega)).cell hu) rfl) <| Ak 1 rfl (kr hk709) (fun w' hw' => r_mv (v := .slice _ _ _) rfl) <| ?_
         have hx713 := ((hO58.lo hk709).rd).elem (i := 0) (by omega)
         refine Ak 2 rfl (kr hk709) (fun w' hw' => r_ixR tsl93 ((hO58.kd hw' hd63).rd) rfl rfl (by omega)) <| Ak 3 rfl (kr hk709) (fun w' hw' => r_ld (v := .int .i64 (gt (nmW s k) 0)) sca3 rfl (((hO58.kd hw' hd63).rd).cell0 hx713 rfl)) <| Ak 4 rfl (kr hk709) (fun w' hw' => r_mv (v := .slice _ _ _) rfl) <| ?_
         have hx715 := ((hO58.lo hk709).rd).elem (i := 1) (by omega)
         refine Ak 5 rfl (kr hk709) (fun w' hw' => r_ixR tsl93 ((hO58.kd hw' hd63).rd) rfl rfl (by omega)) <| Ak 6 rfl (kr hk709) (fun w' hw' => r_ld (v := .int .i64 (gt (nmW s k) 1)) sca3 rfl (((hO58.kd hw' hd63).rd).cell0 hx715 rfl)) <| Ak 7 rfl (kr hk709) (fun w' hw' => r_mv (v := .slice _ _ _) rfl) <| ?_
         have hx717 := ((hO58.lo hk709).rd).elem (i := 2) (by omega)
         refine Ak 8 rfl (kr hk709) (fun w' hw' => r_ixR tsl93 ((hO58.kd hw' hd63).rd) rfl rfl (by omega)) <| Ak 9 rfl (kr hk709) (fun w' hw' => r_ld (v := .int .i64 (gt (nmW s k) 2)) sca3 rfl (((hO58.kd hw' hd63).rd).cell0 hx717 rfl)) <| Ak 10 rfl (kr hk709) (fun w' hw' => r_build (vs := [(0, .int .i64 3), (1, .int .i64 (gt (nmW s k) 0)), (2, .int .i64 (gt (nmW s k) 1)), (3, .int .i64 (gt (nmW s k) 2))]) rfl (bld106_0_1_2_3 _ _ _ _)) <| Ab 11 rfl (SR.call ent87 (c_spec_l34Make w708 c (hm54.lo hk709) (hm55.lo hk709) (⟨3, (gt (nmW s k) 0), (gt (nmW s k) 1), (gt (nmW s k) 2)⟩ : LibraryStep) hdc_Library_Maps_c2 (by omega) (by omega)) rfl ?_)
         rintro e w718 ⟨A720, n721, c722, A724, n725, c726, rfl, hO723, hO727, hd728, hN729, hN730, hk719⟩
         refine ⟨_, rfl, ?_⟩
         have hz731 := hk719.size
         have hS733 := ((Kp.refl w50 : Kp (fun b_ => b_ = g11) w50 w50).lo hk709).lo hk719
         have hd734 : Dj A720 A25 := fun b_ e' h' => (hN729 b_ e').elim (fun h => h.elim (fun h => (fun b_ h h' => by have h1 := hm21.base_le h; have h2 := (hm57.lo hk709).base_le h'; omega) b_ h h') (fun h => (fun b_ h h' => by have h1 := hm22.base_le h; have h2 := (hm57.lo hk709).base_le h'; omega) b_ h h')) (fun h => by have := (hm57.lo hk709).base_le h'; omega)
         have hd735 : Dj A720 A48 := fun b_ e' h' => (hN729 b_ e').elim (fun h => h.elim (fun h => (fun b_ h h' => hd61 b_ h' h) b_ h h') (fun h => (fun b_ h h' => hd62 b_ h' h) b_ h h')) (fun h => by have := (hO58.lo hk709).base_le h'; omega)
         have hd736 : ¬ A720 = some ⟨g1, 0, none⟩ := fun e' => (hN729 g1 e').elim (fun h => h.elim (fun h => hd9 h) (fun h => hd10 h)) (fun h => by have := (hm53.lo hk709).lt; omega)
         have hd737 : ¬ A720 = some ⟨g11, 0, none⟩ := fun e' => (hN729 g11 e').elim (fun h => h.elim (fun h => hd19 h) (fun h => hd20 h)) (fun h => by have := (hm56.lo hk709).lt; omega)
         have hd738 : Dj A724 A25 := fun b_ e' h' => (hN730 b_ e').elim (fun h => h.elim (fun h => (fun b_ h h' => by have h1 := hm21.base_le h; have h2 := (hm57.lo hk709).base_le h'; omega) b_ h h') (fun h => (fun b_ h h' => by have h1 := hm22.base_le h; have h2 := (hm57.lo hk709).base_le h'; omega) b_ h h')) (fun h => by have := (hm57.lo hk709).base_le h'; omega)
         have hd739 : Dj A724 A48 := fun b_ e' h' => (hN730 b_ e').elim (fun h => h.elim (fun h => (fun b_ h h' => hd61 b_ h' h) b_ h h') (fun h => (fun b_ h h' => hd62 b_ h' h) b_ h h')) (fun h => by have := (hO58.lo hk709).base_le h'; omega)
         have hd740 : ¬ A724 = some ⟨g1, 0, none⟩ := fun e' => (hN730 g1 e').elim (fun h => h.elim (fun h => hd9 h) (fun h => hd10 h)) (fun h => by have := (hm53.lo hk709).lt; omega)
         have hd741 : ¬ A724 = some ⟨g11, 0, none⟩ := fun e' => (hN730 g11 e').elim (fun h => h.elim (fun h => hd19 h) (fun h => hd20 h)) (fun h => by have := (hm56.lo hk709).lt; omega)
         have hl742 := hO723.len
         have hl743 := hO723.rd.bound
         have hl744 := hO727.len
         have hl745 := hO727.rd.bound
         refine Qn ⟨hS733, _, rfl, (Ak 12 rfl hS733 (fun w' hw' => r_ext (v := .agg (List.toArray _)) rfl rfl) <| Ak 13 rfl hS733 (fun w' hw' => r_ext (v := str _) rfl rfl) <| Ab 14 rfl (Qw (o := 0) (vs := [.slice A720 n721 c722, .slice A724 n725 c726, .int .i64 (((spec_l34Make c (⟨3, (gt (nmW s k) 0), (gt (nmW s k) 1), (gt (nmW s k) 2)⟩ : LibraryStep)).1).Library.Bought), .int .i64 (((spec_l34Make c (⟨3, (gt (nmW s k) 0), (gt (nmW s k) 1), (gt (nmW s k) 2)⟩ : LibraryStep)).1).Library.Dropped), .int .i64 (((spec_l34Make c (⟨3, (gt (nmW s k) 0), (gt (nmW s k) 1), (gt (nmW s k) 2)⟩ : LibraryStep)).1).Library.Mended), str (((spec_l34Make c (⟨3, (gt (nmW s k) 0), (gt (nmW s k) 1), (gt (nmW s k) 2)⟩ : LibraryStep)).1).Log.Durable), str (((spec_l34Make c (⟨3, (gt (nmW s k) 0), (gt (nmW s k) 1), (gt (nmW s k) 2)⟩ : LibraryStep)).1).Log.Pending), .int .i64 (((spec_l34Make c (⟨3, (gt (nmW s k) 0), (gt (nmW s k) 1), (gt (nmW s k) 2)⟩ : LibraryStep)).1).Log.Count)]) agg37.2 rfl rfl rfl rfl ((hm56.lo hk709).lo hk719) ler rfl ?_))⟩
         intro w746 hk747 hs748 hb749
         have hS752 := hS733.step hk747 (fun _ _ e => e)
         refine Qn ⟨hS752, _, rfl, (Ak 15 rfl hS752 (fun w' hw' => r_as (v := str _) rfl) <| AH.done (by kernel_rfl) (⟨A720, n721, c722, A724, n725, c726, (At.r rfl), hS752, (hO723.kd hk747 hd737), (fun b_ h_ => (hN729 b_ h_).elim (fun h => h.elim (fun h => ((show ∀ b_, Ac1 = some ⟨b_, 0, none⟩ → (Ac1 = some ⟨b_, 0, none⟩ ∨ Ac2 = some ⟨b_, 0, none⟩) ∨ w.heap.size ≤ b_ from (fun b_ h_ => .inl (.inl h_))) b_ h)) (fun h => ((show ∀ b_, Ac2 = some ⟨b_, 0, none⟩ → (Ac1 = some ⟨b_, 0, none⟩ ∨ Ac2 = some ⟨b_, 0, none⟩) ∨ w.heap.size ≤ b_ from (fun b_ h_ => .inl (.inr h_))) b_ h))) (fun h => .inr (by omega))), (hO727.kd hk747 hd741), (fun b_ h_ => (hN730 b_ h_).elim (fun h => h.elim (fun h => ((show ∀ b_, Ac1 = some ⟨b_, 0, none⟩ → (Ac1 = some ⟨b_, 0, none⟩ ∨ Ac2 = some ⟨b_, 0, none⟩) ∨ w.heap.size ≤ b_ from (fun b_ h_ => .inl (.inl h_))) b_ h)) (fun h => ((show ∀ b_, Ac2 = some ⟨b_, 0, none⟩ → (Ac1 = some ⟨b_, 0, none⟩ ∨ Ac2 = some ⟨b_, 0, none⟩) ∨ w.heap.size ≤ b_ from (fun b_ h_ => .inl (.inr h_))) b_ h))) (fun h => .inr (by omega))), hb749, hd736, hd737, hd740, hd741, hd734, hd735, hd728, hd738, hd739, hx713, hx715, hx717, hl742, hl743, hl744, hl745⟩))⟩
        rintro f762 w763 ⟨A647, n648, c649, A651, n652, c653, hat765, hR764, hm694, hN695, hm696, hN697, hm698, hd699, hd700, hd701, hd702, hd703, hd704, hd705, hd706, hd707, hx639, hx641, hx643, hl669, hl670, hl671, hl672⟩
        rw [← sets_of_at hat765]
        have hz766 := hR764.size
        refine W.ret (retCT rfl rfl agg37 hm698 rfl (v := str _) rfl ?_)
        refine ⟨A647, n648, c649, A651, n652, c653, eR (eT2 (eA (eC rfl (eC rfl (eC (eI ?_) (eC (eI ?_) (eC (eI ?_) (eC (eS ?_) (eC (eS ?_) (eC (eI ?_) rfl))))))))) (eS ?_)), (SlO.eqv hm694 ?_), (SlO.eqv hm696 ?_), hd705, hN695, hN697, (hB51.new hR764 (by omega))⟩ <;> (rw [run_3 (k := k) (by omega) (And.right ‹_ ∧ AllNum _›) (by omega) (by assumption)]; try rfl)
       ·refine Ws (Wr (Q (r_eqs (s := (gt (splitB (32 : UInt8) s) 0)) (r := ([104, 97, 110, 100] : List UInt8)) rfl rfl) <| Q (aB rfl) <| Qn (W.cond_d rfl (fun h768 => ?_) (fun h768 => ?_))))
        ·refine Ws (W.regA (Kp (fun b_ => b_ = g11) w50) (fun f' w' => ∃ (A840 : Option Addr) (n841 : Nat) (c842 : Nat) (A844 : Option Addr) (n845 : Nat) (c846 : Nat), At f' [(2, .pointer (pA g1)), (4, .pointer (pA g11)), (5, str ((spec_l34Make c (⟨5, (gt (nmW s k) 0), (gt (nmW s k) 1), (gt (nmW s k) 2)⟩ : LibraryStep)).2))] ∧ (Kp (fun b_ => b_ = g11) w50 w') ∧ (SlO w' Bc1 encLMap 3 102 A840 n841 c842 (((spec_l34Make c (⟨5, (gt (nmW s k) 0), (gt (nmW s k) 1), (gt (nmW s k) 2)⟩ : LibraryStep)).1).Library.Maps)) ∧ (∀ b_, A840 = some ⟨b_, 0, none⟩ → (Ac1 = some ⟨b_, 0, none⟩ ∨ Ac2 = some ⟨b_, 0, none⟩) ∨ w.heap.size ≤ b_) ∧ (SlO w' Bc2 encAway 2 129 A844 n845 c846 (((spec_l34Make c (⟨5, (gt (nmW s k) 0), (gt (nmW s k) 1), (gt (nmW s k) 2)⟩ : LibraryStep)).1).Library.Away)) ∧ (∀ b_, A844 = some ⟨b_, 0, none⟩ → (Ac1 = some ⟨b_, 0, none⟩ ∨ Ac2 = some ⟨b_, 0, none⟩) ∨ w.heap.size ≤ b_) ∧ (Blk w' g11 37 [.slice A840 n841 c842, .slice A844 n845 c846, .int .i64 (((spec_l34Make c (⟨5, (gt (nmW s k) 0), (gt (nmW s k) 1), (gt (nmW s k) 2)⟩ : LibraryStep)).1).Library.Bought), .int .i64 (((spec_l34Make c (⟨5, (gt (nmW s k) 0), (gt (nmW s k) 1), (gt (nmW s k) 2)⟩ : LibraryStep)).1).Library.Dropped), .int .i64 (((spec_l34Make c (⟨5, (gt (nmW s k) 0), (gt (nmW s k) 1), (gt (nmW s k) 2)⟩ : LibraryStep)).1).Library.Mended), str (((spec_l34Make c (⟨5, (gt (nmW s k) 0), (gt (nmW s k) 1), (gt (nmW s k) 2)⟩ : LibraryStep)).1).Log.Durable), str (((spec_l34Make c (⟨5, (gt (nmW s k) 0), (gt (nmW s k) 1), (gt (nmW s k) 2)⟩ : LibraryStep)).1).Log.Pending), .int .i64 (((spec_l34Make c (⟨5, (gt (nmW s k) 0), (gt (nmW s k) 1), (gt (nmW s k) 2)⟩ : LibraryStep)).1).Log.Count)]) ∧ (¬ A840 = some ⟨g1, 0, none⟩) ∧ (¬ A840 = some ⟨g11, 0, none⟩) ∧ (¬ A844 = some ⟨g1, 0, none⟩) ∧ (¬ A844 = some ⟨g11, 0, none⟩) ∧ Dj A840 A25 ∧ Dj A840 A48 ∧ Dj A840 A844 ∧ Dj A844 A25 ∧ Dj A844 A48 ∧ ((nmW s k)[0]? = some (gt (nmW s k) 0)) ∧ ((nmW s k)[1]? = some (gt (nmW s k) 1)) ∧ ((nmW s k)[2]? = some (gt (nmW s k) 2)) ∧ (n841 = (((spec_l34Make c (⟨5, (gt (nmW s k) 0), (gt (nmW s k) 1), (gt (nmW s k) 2)⟩ : LibraryStep)).1).Library.Maps).length) ∧ ((n841 : Int) ≤ 9223372036854775807) ∧ (n845 = (((spec_l34Make c (⟨5, (gt (nmW s k) 0), (gt (nmW s k) 1), (gt (nmW s k) 2)⟩ : LibraryStep)).1).Library.Away).length) ∧ ((n845 : Int) ≤ 9223372036854775807)) mo ?_ ?_)
         ·intro w901 hk902
          have hz903 := hk902.size
          refine Ak 0 rfl (kr hk902) (fun w' hw' => r_lda (l := [.slice Ac1 nc1 cc1, .slice Ac2 nc2 cc2, .int .i64 c.Library.Bought, .int .i64 c.Library.Dropped, .int .i64 c.Library.Mended, str c.Log.Durable, str c.Log.Pending, .int .i64 c.Log.Count]) agg37 rfl (fun _ _ hu => (hm53.kn hw' (by omega)).cell hu) rfl) <| Ak 1 rfl (kr hk902) (fun w' hw' => r_mv (v := .slice _ _ _) rfl) <| ?_
          have hx906 := ((hO58.lo hk902).rd).elem (i := 0) (by omega)
          refine Ak 2 rfl (kr hk902) (fun w' hw' => r_ixR tsl93 ((hO58.kd hw' hd63).rd) rfl rfl (by omega)) <| Ak 3 rfl (kr hk902) (fun w' hw' => r_ld (v := .int .i64 (gt (nmW s k) 0)) sca3 rfl (((hO58.kd hw' hd63).rd).cell0 hx906 rfl)) <| Ak 4 rfl (kr hk902) (fun w' hw' => r_mv (v := .slice _ _ _) rfl) <| ?_
          have hx908 := ((hO58.lo hk902).rd).elem (i := 1) (by omega)
          refine Ak 5 rfl (kr hk902) (fun w' hw' => r_ixR tsl93 ((hO58.kd hw' hd63).rd) rfl rfl (by omega)) <| Ak 6 rfl (kr hk902) (fun w' hw' => r_ld (v := .int .i64 (gt (nmW s k) 1)) sca3 rfl (((hO58.kd hw' hd63).rd).cell0 hx908 rfl)) <| Ak 7 rfl (kr hk902) (fun w' hw' => r_mv (v := .slice _ _ _) rfl) <| ?_
          have hx910 := ((hO58.lo hk902).rd).elem (i := 2) (by omega)
          refine Ak 8 rfl (kr hk902) (fun w' hw' => r_ixR tsl93 ((hO58.kd hw' hd63).rd) rfl rfl (by omega)) <| Ak 9 rfl (kr hk902) (fun w' hw' => r_ld (v := .int .i64 (gt (nmW s k) 2)) sca3 rfl (((hO58.kd hw' hd63).rd).cell0 hx910 rfl)) <| Ak 10 rfl (kr hk902) (fun w' hw' => r_build (vs := [(0, .int .i64 5), (1, .int .i64 (gt (nmW s k) 0)), (2, .int .i64 (gt (nmW s k) 1)), (3, .int .i64 (gt (nmW s k) 2))]) rfl (bld106_0_1_2_3 _ _ _ _)) <| Ab 11 rfl (SR.call ent87 (c_spec_l34Make w901 c (hm54.lo hk902) (hm55.lo hk902) (⟨5, (gt (nmW s k) 0), (gt (nmW s k) 1), (gt (nmW s k) 2)⟩ : LibraryStep) hdc_Library_Maps_c2 (by omega) (by omega)) rfl ?_)
          rintro e w911 ⟨A913, n914, c915, A917, n918, c919, rfl, hO916, hO920, hd921, hN922, hN923, hk912⟩
          refine ⟨_, rfl, ?_⟩
          have hz924 := hk912.size
          have hS926 := ((Kp.refl w50 : Kp (fun b_ => b_ = g11) w50 w50).lo hk902).lo hk912
          have hd927 : Dj A913 A25 := fun b_ e' h' => (hN922 b_ e').elim (fun h => h.elim (fun h => (fun b_ h h' => by have h1 := hm21.base_le h; have h2 := (hm57.lo hk902).base_le h'; omega) b_ h h') (fun h => (fun b_ h h' => by have h1 := hm22.base_le h; have h2 := (hm57.lo hk902).base_le h'; omega) b_ h h')) (fun h => by have := (hm57.lo hk902).base_le h'; omega)
          have hd928 : Dj A913 A48 := fun b_ e' h' => (hN922 b_ e').elim (fun h => h.elim (fun h => (fun b_ h h' => hd61 b_ h' h) b_ h h') (fun h => (fun b_ h h' => hd62 b_ h' h) b_ h h')) (fun h => by have := (hO58.lo hk902).base_le h'; omega)
          have hd929 : ¬ A913 = some ⟨g1, 0, none⟩ := fun e' => (hN922 g1 e').elim (fun h => h.elim (fun h => hd9 h) (fun h => hd10 h)) (fun h => by have := (hm53.lo hk902).lt; omega)
          have hd930 : ¬ A913 = some ⟨g11, 0, none⟩ := fun e' => (hN922 g11 e').elim (fun h => h.elim (fun h => hd19 h) (fun h => hd20 h)) (fun h => by have := (hm56.lo hk902).lt; omega)
          have hd931 : Dj A917 A25 := fun b_ e' h' => (hN923 b_ e').elim (fun h => h.elim (fun h => (fun b_ h h' => by have h1 := hm21.base_le h; have h2 := (hm57.lo hk902).base_le h'; omega) b_ h h') (fun h => (fun b_ h h' => by have h1 := hm22.base_le h; have h2 := (hm57.lo hk902).base_le h'; omega) b_ h h')) (fun h => by have := (hm57.lo hk902).base_le h'; omega)
          have hd932 : Dj A917 A48 := fun b_ e' h' => (hN923 b_ e').elim (fun h => h.elim (fun h => (fun b_ h h' => hd61 b_ h' h) b_ h h') (fun h => (fun b_ h h' => hd62 b_ h' h) b_ h h')) (fun h => by have := (hO58.lo hk902).base_le h'; omega)
          have hd933 : ¬ A917 = some ⟨g1, 0, none⟩ := fun e' => (hN923 g1 e').elim (fun h => h.elim (fun h => hd9 h) (fun h => hd10 h)) (fun h => by have := (hm53.lo hk902).lt; omega)
          have hd934 : ¬ A917 = some ⟨g11, 0, none⟩ := fun e' => (hN923 g11 e').elim (fun h => h.elim (fun h => hd19 h) (fun h => hd20 h)) (fun h => by have := (hm56.lo hk902).lt; omega)
          have hl935 := hO916.len
          have hl936 := hO916.rd.bound
          have hl937 := hO920.len
          have hl938 := hO920.rd.bound
          refine Qn ⟨hS926, _, rfl, (Ak 12 rfl hS926 (fun w' hw' => r_ext (v := .agg (List.toArray _)) rfl rfl) <| Ak 13 rfl hS926 (fun w' hw' => r_ext (v := str _) rfl rfl) <| Ab 14 rfl (Qw (o := 0) (vs := [.slice A913 n914 c915, .slice A917 n918 c919, .int .i64 (((spec_l34Make c (⟨5, (gt (nmW s k) 0), (gt (nmW s k) 1), (gt (nmW s k) 2)⟩ : LibraryStep)).1).Library.Bought), .int .i64 (((spec_l34Make c (⟨5, (gt (nmW s k) 0), (gt (nmW s k) 1), (gt (nmW s k) 2)⟩ : LibraryStep)).1).Library.Dropped), .int .i64 (((spec_l34Make c (⟨5, (gt (nmW s k) 0), (gt (nmW s k) 1), (gt (nmW s k) 2)⟩ : LibraryStep)).1).Library.Mended), str (((spec_l34Make c (⟨5, (gt (nmW s k) 0), (gt (nmW s k) 1), (gt (nmW s k) 2)⟩ : LibraryStep)).1).Log.Durable), str (((spec_l34Make c (⟨5, (gt (nmW s k) 0), (gt (nmW s k) 1), (gt (nmW s k) 2)⟩ : LibraryStep)).1).Log.Pending), .int .i64 (((spec_l34Make c (⟨5, (gt (nmW s k) 0), (gt (nmW s k) 1), (gt (nmW s k) 2)⟩ : LibraryStep)).1).Log.Count)]) agg37.2 rfl rfl rfl rfl ((hm56.lo hk902).lo hk912) ler rfl ?_))⟩
          intro w939 hk940 hs941 hb942
          have hS945 := hS926.step hk940 (fun _ _ e => e)
          refine Qn ⟨hS945, _, rfl, (Ak 15 rfl hS945 (fun w' hw' => r_as (v := str _) rfl) <| AH.done (by kernel_rfl) (⟨A913, n914, c915, A917, n918, c919, (At.r rfl), hS945, (hO916.kd hk940 hd930), (fun b_ h_ => (hN922 b_ h_).elim (fun h => h.elim (fun h => ((show ∀ b_, Ac1 = some ⟨b_, 0, none⟩ → (Ac1 = some ⟨b_, 0, none⟩ ∨ Ac2 = some ⟨b_, 0, none⟩) ∨ w.heap.size ≤ b_ from (fun b_ h_ => .inl (.inl h_))) b_ h)) (fun h => ((show ∀ b_, Ac2 = some ⟨b_, 0, none⟩ → (Ac1 = some ⟨b_, 0, none⟩ ∨ Ac2 = some ⟨b_, 0, none⟩) ∨ w.heap.size ≤ b_ from (fun b_ h_ => .inl (.inr h_))) b_ h))) (fun h => .inr (by omega))), (hO920.kd hk940 hd934), (fun b_ h_ => (hN923 b_ h_).elim (fun h => h.elim (fun h => ((show ∀ b_, Ac1 = some ⟨b_, 0, none⟩ → (Ac1 = some ⟨b_, 0, none⟩ ∨ Ac2 = some ⟨b_, 0, none⟩) ∨ w.heap.size ≤ b_ from (fun b_ h_ => .inl (.inl h_))) b_ h)) (fun h => ((show ∀ b_, Ac2 = some ⟨b_, 0, none⟩ → (Ac1 = some ⟨b_, 0, none⟩ ∨ Ac2 = some ⟨b_, 0, none⟩) ∨ w.heap.size ≤ b_ from (fun b_ h_ => .inl (.inr h_))) b_ h))) (fun h => .inr (by omega))), hb942, hd929, hd930, hd933, hd934, hd927, hd928, hd921, hd931, hd932, hx906, hx908, hx910, hl935, hl936, hl937, hl938⟩))⟩
         rintro f955 w956 ⟨A840, n841, c842, A844, n845, c846, hat958, hR957, hm887, hN888, hm889, hN890, hm891, hd892, hd893, hd894, hd895, hd896, hd897, hd898, hd899, hd900, hx832, hx834, hx836, hl862, hl863, hl864, hl865⟩
         rw [← sets_of_at hat958]
         have hz959 := hR957.size
         refine W.ret (retCT rfl rfl agg37 hm891 rfl (v := str _) rfl ?_)
         refine ⟨A840, n841, c842, A844, n845, c846, eR (eT2 (eA (eC rfl (eC rfl (eC (eI ?_) (eC (eI ?_) (eC (eI ?_) (eC (eS ?_) (eC (eS ?_) (eC (eI ?_) rfl))))))))) (eS ?_)), (SlO.eqv hm887 ?_), (SlO.eqv hm889 ?_), hd898, hN888, hN890, (hB51.new hR957 (by omega))⟩ <;> (rw [run_3h (k := k) (by omega) (And.right ‹_ ∧ AllNum _›) (by omega) (by assumption) (by assumption)]; try rfl)
        ·refine W.skip (Ws (Wr (Q (lG agg37 rfl hm53 rfl) <| Qw (o := 0) (vs := [.slice Ac1 nc1 cc1, .slice Ac2 nc2 cc2, .int .i64 c.Library.Bought, .int .i64 c.Library.Dropped, .int .i64 c.Library.Mended, str c.Log.Durable, str c.Log.Pending, .int .i64 c.Log.Count]) agg37.2 rfl rfl rfl rfl hm56 ler rfl ?_)))
         intro w961 hk962 hs963 hb964
         refine Q (r_as (v := str ([63] : List UInt8)) rfl) <| Qn (W.ret (retCT rfl rfl agg37 hb964 rfl (v := str _) rfl ?_))
         refine ⟨Ac1, nc1, cc1, Ac2, nc2, cc2, eR (eT2 (eA (eC rfl (eC rfl (eC (eI ?_) (eC (eI ?_) (eC (eI ?_) (eC (eS ?_) (eC (eS ?_) (eC (eI ?_) rfl))))))))) (eS ?_)), (SlO.eqv (hm54.kd hk962 hd19) ?_), (SlO.eqv (hm55.kd hk962 hd20) ?_), hdc_Library_Maps_c2, (fun b_ h_ => .inl (.inl h_)), (fun b_ h_ => .inl (.inr h_)), (hB51.new hk962)⟩ <;> (rw [run_3n (k := k) (by omega) (And.right ‹_ ∧ AllNum _›) (by omega) (by assumption) (by assumption)]; try rfl)
      ·refine W.skip (Ws (Wr (Q (lG agg37 rfl hm53 rfl) <| Qw (o := 0) (vs := [.slice Ac1 nc1 cc1, .slice Ac2 nc2 cc2, .int .i64 c.Library.Bought, .int .i64 c.Library.Dropped, .int .i64 c.Library.Mended, str c.Log.Durable, str c.Log.Pending, .int .i64 c.Log.Count]) agg37.2 rfl rfl rfl rfl hm56 ler rfl ?_)))
       intro w967 hk968 hs969 hb970
       refine Q (r_as (v := str ([63] : List UInt8)) rfl) <| Qn (W.ret (retCT rfl rfl agg37 hb970 rfl (v := str _) rfl ?_))
       refine ⟨Ac1, nc1, cc1, Ac2, nc2, cc2, eR (eT2 (eA (eC rfl (eC rfl (eC (eI ?_) (eC (eI ?_) (eC (eI ?_) (eC (eS ?_) (eC (eS ?_) (eC (eI ?_) rfl))))))))) (eS ?_)), (SlO.eqv (hm54.kd hk968 hd19) ?_), (SlO.eqv (hm55.kd hk968 hd20) ?_), hdc_Library_Maps_c2, (fun b_ h_ => .inl (.inl h_)), (fun b_ h_ => .inl (.inr h_)), (hB51.new hk968)⟩ <;> (rw [run_n (k := k) (by omega) (And.right ‹_ ∧ AllNum _›) (by omega)]; try rfl)
end Go.Proofs.YtndcchndcghmoaaGreatDoor
namespace Go.Proofs.YtndcchndcghmoaaGreatDoor
open Go Go.RowKit Fw
set_option maxRecDepth 10000
set_option maxHeartbeats 2000000
set_option linter.unusedVariables false
theorem ent56 : Ent Tryz.prog 56 := en Tryz.func56
theorem ent95 : Ent Tryz.prog 95 := en Tryz.func95
theorem ent96 : Ent Tryz.prog 96 := en Tryz.func96
theorem ent97 : Ent Tryz.prog 97 := en Tryz.func97
theorem ent98 : Ent Tryz.prog 98 := en Tryz.func98
theorem c_impl_reply (w : World) (x : Library) {Ax1 : Option Addr} {nx1 cx1 Bx1 : Nat} (hx1 : SlO w Bx1 encLMap 3 102 Ax1 nx1 cx1 x.Maps) {Ax2 : Option Addr} {nx2 cx2 Bx2 : Nat} (hx2 : SlO w Bx2 encAway 2 129 Ax2 nx2 cx2 x.Away) (s : List UInt8) (hdx_Maps_x2 : Dj Ax1 Ax2) (hp0 : (nx1 : Int) ≤ 8) (hp1 : (nx2 : Int) ≤ 8) (hp2 : LibOK x) (hp3 : (s.length : Int) ≤ 200) (hE : EnvW w) : Calls Tryz.prog 49 #[.agg (List.toArray (cLb Ax1 nx1 cx1 Ax2 nx2 cx2 x)), str s] w fun e w' => ∃ (A1' : Option Addr) (n1' c1' : Nat) (A2' : Option Addr) (n2' c2' : Nat), e = .returned (.tuple (List.toArray [.agg (List.toArray [.slice A1' n1' c1', .slice A2' n2' c2', .int .i64 (((repN x s).1).Bought), .int .i64 (((repN x s).1).Dropped), .int .i64 (((repN x s).1).Mended)]), str ((repN x s).2.1), .bool ((repN x s).2.2)])) ∧ SlO w' Bx1 encLMap 3 102 A1' n1' c1' (((repN x s).1).Maps) ∧ SlO w' Bx2 encAway 2 129 A2' n2' c2' (((repN x s).1).Away) ∧ Dj A1' A2' ∧ (∀ b_, A1' = some ⟨b_, 0, none⟩ → (Ax1 = some ⟨b_, 0, none⟩ ∨ Ax2 = some ⟨b_, 0, none⟩) ∨ w.heap.size ≤ b_) ∧ (∀ b_, A2' = some ⟨b_, 0, none⟩ → (Ax1 = some ⟨b_, 0, none⟩ ∨ Ax2 = some ⟨b_, 0, none⟩) ∨ w.heap.size ≤ b_) ∧ Lo w w' := by
 refine calls_W 82 Tryz.func49 rfl rfl rfl ?_
 have hcpx1 := hx1.rd.cap
 have hbbx1 := hx1.rd.bd
 have hbdx1 := hx1.rd.bound
 have hlex1 := hx1.len
 have hBbx1 := hx1.bd
 have hcpx2 := hx2.rd.cap
 have hbbx2 := hx2.rd.bd
 have hbdx2 := hx2.rd.bound
 have hlex2 := hx2.len
 have hBbx2 := hx2.bd
 refine Ws (Wr (SR.box (v := .agg (List.toArray _)) (l := (cLb Ax1 nx1 cx1 Ax2 nx2 cx2 x)) rfl rfl ?_))
 intro g1 w2 hg3 hk4 hs5 hb6
 refine SR.alloc (l := [.slice none 0 0, .slice none 0 0, .int .i64 0, .int .i64 0, .int .i64 0]) tz34 rfl ?_
 intro g11 w12 hg13 hk14 hs15 hb16
 have hB18 := ((Lo.refl w).lo hk4).lo hk14
 have hd19 := SlO.ne (g := g11) (hx1.lo hk4)
 have hd20 := SlO.ne (g := g11) (hx2.lo hk4)
 refine Q (r_as (v := str ([] : List UInt8)) rfl) <| Q (aB rfl) <| Qn (Ws (Wr (Q (mS rfl) <| SR.call ent56 (c_strings_Split1 w12 s ([32] : List UInt8) (by omega) rfl (hE.lo hB18)) rfl ?_)))
 rintro e w23 ⟨A25, n26, c27, rfl, hO28, hk24⟩
 refine ⟨_, rfl, ?_⟩
 have hz29 := hk24.size
 have hl31 := hO28.len
 have hl32 := hO28.rd.bound
 have hq33 := splitB_len (32 : UInt8) s
 refine Q (aL rfl) <| Qn (Ws (Wr (Q (r_as (v := .slice none 0 0) rfl) <| Qn (Ws (Ws (Wr (Q (mL rfl) <| Q (r_cutl (l := 1) tsl44 rfl rfl rfl (by omega)) <| Q (r_len und44 rfl) <| Q (r_mv (v := .int .i64 0) rfl) <| Qn (W.block (W.loop (σ := Nat × (Option Addr) × Nat × Nat) (fun g => [(2, .pointer (pA g1)), (4, .pointer (pA g11)), (7, .slice A25 n26 c27), (8, .slice g.2.1 g.2.2.1 g.2.2.2), (23, .slice (cutA A25 c27 1 1) (n26 - 1) (c27 - 1)), (24, .int .i64 ((n26 - 1 : Nat) : Int)), (25, .int .i64 (g.1 : Int))]) (fun g w' => (Lo w w') ∧ (Blk w' g1 34 (cLb Ax1 nx1 cx1 Ax2 nx2 cx2 x)) ∧ (SlO w' Bx1 encLMap 3 102 Ax1 nx1 cx1 x.Maps) ∧ (SlO w' Bx2 encAway 2 129 Ax2 nx2 cx2 x.Away) ∧ (Blk w' g11 34 [.slice none 0 0, .slice none 0 0, .int .i64 0, .int .i64 0, .int .i64 0]) ∧ (SlO w' w12.heap.size encS 1 9 A25 n26 c27 (splitB (32 : UInt8) s)) ∧ (SlR w' w23.heap.size encS 1 (cutA A25 c27 1 1) (n26 - 1) (c27 - 1) ((splitB (32 : UInt8) s).drop 1)) ∧ (SlO w' w.heap.size encI 1 3 g.2.1 g.2.2.1 g.2.2.2 (numsW (((splitB (32 : UInt8) s).drop 1).take g.1))) ∧ (¬ g.2.1 = some ⟨g1, 0, none⟩) ∧ (∀ b_, g.2.1 = some ⟨b_, 0, none⟩ → ¬ Ax1 = some ⟨b_, 0, none⟩) ∧ (∀ b_, g.2.1 = some ⟨b_, 0, none⟩ → ¬ Ax2 = some ⟨b_, 0, none⟩) ∧ (¬ g.2.1 = some ⟨g11, 0, none⟩) ∧ (∀ b_, g.2.1 = some ⟨b_, 0, none⟩ → ¬ A25 = some ⟨b_, 0, none⟩) ∧ (g.1 ≤ ((splitB (32 : UInt8) s).drop 1).length ∧ AllNum (((splitB (32 : UInt8) s).drop 1).take g.1))) (fun g => ((splitB (32 : UInt8) s).drop 1).length - g.1) (0, (none : Option Addr), 0, 0) ?_ ?_ ?_)))))))))
 ·exact (At.r rfl)
 ·show (Lo w w23) ∧ (Blk w23 g1 34 (cLb Ax1 nx1 cx1 Ax2 nx2 cx2 x)) ∧ (SlO w23 Bx1 encLMap 3 102 Ax1 nx1 cx1 x.Maps) ∧ (SlO w23 Bx2 encAway 2 129 Ax2 nx2 cx2 x.Away) ∧ (Blk w23 g11 34 [.slice none 0 0, .slice none 0 0, .int .i64 0, .int .i64 0, .int .i64 0]) ∧ (SlO w23 w12.heap.size encS 1 9 A25 n26 c27 (splitB (32 : UInt8) s)) ∧ (SlR w23 w23.heap.size encS 1 (cutA A25 c27 1 1) (n26 - 1) (c27 - 1) ((splitB (32 : UInt8) s).drop 1)) ∧ (SlO w23 w.heap.size encI 1 3 (none : Option Addr) 0 0 (numsW (((splitB (32 : UInt8) s).drop 1).take 0))) ∧ (¬ (none : Option Addr) = some ⟨g1, 0, none⟩) ∧ (∀ b_, (none : Option Addr) = some ⟨b_, 0, none⟩ → ¬ Ax1 = some ⟨b_, 0, none⟩) ∧ (∀ b_, (none : Option Addr) = some ⟨b_, 0, none⟩ → ¬ Ax2 = some ⟨b_, 0, none⟩) ∧ (¬ (none : Option Addr) = some ⟨g11, 0, none⟩) ∧ (∀ b_, (none : Option Addr) = some ⟨b_, 0, none⟩ → ¬ A25 = some ⟨b_, 0, none⟩) ∧ (0 ≤ ((splitB (32 : UInt8) s).drop 1).length ∧ AllNum (((splitB (32 : UInt8) s).drop 1).take 0))
  exact ⟨(hB18.lo hk24), ((hb6.lo hk14).lo hk24), ((hx1.lo hk4).lo hk14).lo hk24, ((hx2.lo hk4).lo hk14).lo hk24, hb16.lo hk24, hO28, hO28.rd.cutl (l := 1) (by omega), (SlO.eqv (SlO.nil (base := w.heap.size) (e := 3) (enc := encI) (fun _ => rfl) (by omega)) (by rfl)), (fun e => by cases e), (fun b_ h => by cases h), (fun b_ h => by cases h), (fun e => by cases e), (fun b_ h => by cases h), (by (try dsimp only); exact ⟨Nat.zero_le _, fun _ h => by simp at h⟩)⟩
 ·rintro ⟨k, A35, n35, c35⟩ f36 w37 hP39
  obtain ⟨hB38, hm40, hm41, hm42, hm43, hm44, hm45, hO46, hd48, hd49, hd50, hd51, hd52, hi47⟩ : (Lo w w37) ∧ (Blk w37 g1 34 (cLb Ax1 nx1 cx1 Ax2 nx2 cx2 x)) ∧ (SlO w37 Bx1 encLMap 3 102 Ax1 nx1 cx1 x.Maps) ∧ (SlO w37 Bx2 encAway 2 129 Ax2 nx2 cx2 x.Away) ∧ (Blk w37 g11 34 [.slice none 0 0, .slice none 0 0, .int .i64 0, .int .i64 0, .int .i64 0]) ∧ (SlO w37 w12.heap.size encS 1 9 A25 n26 c27 (splitB (32 : UInt8) s)) ∧ (SlR w37 w23.heap.size encS 1 (cutA A25 c27 1 1) (n26 - 1) (c27 - 1) ((splitB (32 : UInt8) s).drop 1)) ∧ (SlO w37 w.heap.size encI 1 3 A35 n35 c35 (numsW (((splitB (32 : UInt8) s).drop 1).take k))) ∧ (¬ A35 = some ⟨g1, 0, none⟩) ∧ Dj A35 Ax1 ∧ Dj A35 Ax2 ∧ (¬ A35 = some ⟨g11, 0, none⟩) ∧ Dj A35 A25 ∧ (k ≤ ((splitB (32 : UInt8) s).drop 1).length ∧ AllNum (((splitB (32 : UInt8) s).drop 1).take k)) := hP39
  refine (?_ : W _ _ _ _ _ (act _ (sets f36 [(2, .pointer (pA g1)), (4, .pointer (pA g11)), (7, .slice A25 n26 c27), (8, .slice A35 n35 c35), (23, .slice (cutA A25 c27 1 1) (n26 - 1) (c27 - 1)), (24, .int .i64 ((n26 - 1 : Nat) : Int)), (25, .int .i64 (k : Int))])) _)
  have hzw37 := hB38.size
  have hl53 := hm40.lt
  have hl54 := hm43.lt
  have hl55 := hO46.len
  have hl56 := hO46.rd.bound
  have hq57 : k ≤ ((splitB (32 : UInt8) s).drop 1).length := hi47.1
  have hq58 : (numsW (((splitB (32 : UInt8) s).drop 1).take k)).length = k := nmD_len (D := ((splitB (32 : UInt8) s).drop 1)) (k := k) (by omega)
  have hq59 : (splitB (32 : UInt8) s).length ≤ s.length + 1 := splitB_max (32 : UInt8) s
  have hq60 : ((splitB (32 : UInt8) s).drop 1).length + 1 = (splitB (32 : UInt8) s).length ∨ (splitB (32 : UInt8) s).length = 0 := drop_len (splitB (32 : UInt8) s)
  refine Ws (Wr (Q (r_lt rfl rfl) <| Qn (Ws (W.cond_d rfl (fun h61 => ?_) (fun h61 => ?_)))))
  ·refine W.skip (Ws (W.block (Ws ?_)))
   have hx63 := hm45.elem (i := k) (by omega)
   have hq64 := dropB_el hx63
   refine Wr (Q (r_ixR tsl44 hm45 rfl rfl (by omega)) <| Q (r_ld (v := str (gt ((splitB (32 : UInt8) s).drop 1) k)) sca9 rfl (hm45.cell0 hx63 rfl)) <| Q (aS rfl) <| Qn (Ws (Wr (Q (mS rfl) <| Qv ent95 (c_impl_ParseInt w37 (gt ((splitB (32 : UInt8) s).drop 1) k) (by omega) (hE.lo hB38)) rfl fun w65 hk66 hz67 => ?_))))
   have hB68 := hB38.lo hk66
   have hq69 : -999999 ≤ (readN (gt ((splitB (32 : UInt8) s).drop 1) k)).1 ∧ (readN (gt ((splitB (32 : UInt8) s).drop 1) k)).1 ≤ 999999 := readN_rng (gt ((splitB (32 : UInt8) s).drop 1) k)
   refine Q (mT rfl) <| Q (xI rfl rfl) <| Q (xB rfl rfl) <| Q (aI rfl) <| Q (aB rfl) <| Qn (Ws (Ws (Wr (Q (mB rfl) <| Q (r_not rfl) <| Qn (W.cond_b rfl (fun h70 => ?_) (fun h70 => ?_))))))
   ·have hq71 := bnot_t h70
    refine Ws (Wr (Q (lG agg34 rfl (hm40.lo hk66) rfl) <| Qw (o := 0) (vs := (cLb Ax1 nx1 cx1 Ax2 nx2 cx2 x)) agg34.2 rfl rfl rfl rfl (hm43.lo hk66) ler rfl ?_))
    intro w72 hk73 hs74 hb75
    refine Q (r_as (v := str ([] : List UInt8)) rfl) <| Q (aB rfl) <| Qn (W.ret (retCTT rfl rfl agg34 hb75 rfl (v := str _) rfl (v' := .bool _) rfl ?_))
    refine ⟨Ax1, nx1, cx1, Ax2, nx2, cx2, eR (eT3 (eA (eC rfl (eC rfl (eC (eI ?_) (eC (eI ?_) (eC (eI ?_) rfl)))))) (eS ?_) (eB ?_)), (SlO.eqv ((hm41.lo hk66).kd hk73 hd19) ?_), (SlO.eqv ((hm42.lo hk66).kd hk73 hd20) ?_), hdx_Maps_x2, (fun b_ h_ => .inl (.inl h_)), (fun b_ h_ => .inl (.inr h_)), (hB68.new hk73)⟩ <;> (rw [rep_bad ‹_[_]? = some _› ‹(!_) = true›]; try rfl)
   ·have hq78 := bnot_f h70
    refine W.skip (Wr (Q (mL rfl) <| Q (mI rfl) <| SR.lit (vs := [.int .i64 ((readN (gt ((splitB (32 : UInt8) s).drop 1) k)).1)]) (L := ([(readN (gt ((splitB (32 : UInt8) s).drop 1) k)).1] : List Int)) (enc := encI) tel93 (fun _ => rfl) rfl rfl rfl (by decide) ?_))
    intro g79 w80 hg81 hk82 hO83
    have hz84 := hk82.size
    refine SR.app tel93 rfl rfl ((hO46.lo hk66).lo hk82) (hO83.rd) (fun _ => rfl) (by omega) (by omega) ?_
    intro A90 c91 w92 hk93 hO94 hN95
    have hz96 := hk93.size
    have hd98 : Dj A90 Ax1 := fun b_ e' h' => (hN95 b_ e').elim (fun h => hd49 b_ (h.trans e') h') (fun h => by have := ((hm41.lo hk66).lo hk82).base_le h'; omega)
    have hd99 : Dj A90 Ax2 := fun b_ e' h' => (hN95 b_ e').elim (fun h => hd50 b_ (h.trans e') h') (fun h => by have := ((hm42.lo hk66).lo hk82).base_le h'; omega)
    have hd100 : ¬ A90 = some ⟨g1, 0, none⟩ := fun e' => (hN95 g1 e').elim (fun h => hd48 (h.trans e')) (fun h => by have := ((hm40.lo hk66).lo hk82).lt; omega)
    have hd101 : ¬ A90 = some ⟨g11, 0, none⟩ := fun e' => (hN95 g11 e').elim (fun h => hd51 (h.trans e')) (fun h => by have := ((hm43.lo hk66).lo hk82).lt; omega)
    have hd102 : Dj A90 A25 := fun b_ e' h' => (hN95 b_ e').elim (fun h => hd52 b_ (h.trans e') h') (fun h => by have := ((hm44.lo hk66).lo hk82).base_le h'; omega)
    refine Q (aL rfl) <| Qn ?_
    have hm109 := ((hm45.lo hk66).lo hk82).kpb hk93 (fun hn_ e' => hd52 _ e' (((hm44.lo hk66).lo hk82).cutb (by omega)))
    refine Wr (Q (r_add rfl rfl (by omega)) <| Q (mI rfl) <| Qn (⟨(k + 1, A90, n35 + 1, c91), _, rfl, (At.r rfl), (show (Lo w w92) ∧ (Blk w92 g1 34 (cLb Ax1 nx1 cx1 Ax2 nx2 cx2 x)) ∧ (SlO w92 Bx1 encLMap 3 102 Ax1 nx1 cx1 x.Maps) ∧ (SlO w92 Bx2 encAway 2 129 Ax2 nx2 cx2 x.Away) ∧ (Blk w92 g11 34 [.slice none 0 0, .slice none 0 0, .int .i64 0, .int .i64 0, .int .i64 0]) ∧ (SlO w92 w12.heap.size encS 1 9 A25 n26 c27 (splitB (32 : UInt8) s)) ∧ (SlR w92 w23.heap.size encS 1 (cutA A25 c27 1 1) (n26 - 1) (c27 - 1) ((splitB (32 : UInt8) s).drop 1)) ∧ (SlO w92 w.heap.size encI 1 3 A90 (n35 + 1) c91 (numsW (((splitB (32 : UInt8) s).drop 1).take (k + 1)))) ∧ (¬ A90 = some ⟨g1, 0, none⟩) ∧ Dj A90 Ax1 ∧ Dj A90 Ax2 ∧ (¬ A90 = some ⟨g11, 0, none⟩) ∧ Dj A90 A25 ∧ (k + 1 ≤ ((splitB (32 : UInt8) s).drop 1).length ∧ AllNum (((splitB (32 : UInt8) s).drop 1).take (k + 1))) from ⟨((hB68.lo hk82).step hk93 (fun i_ hi_ e' => by have := ((hO46.lo hk66).lo hk82).base_le e'; first | omega | exact e' | exact .inl e' | exact .inr e')), (((hm40.lo hk66).lo hk82).kp hk93 (fun e' => hd48 e')), (((hm41.lo hk66).lo hk82).kp hk93 (fun b_ hb e' => hd49 b_ e' hb)), (((hm42.lo hk66).lo hk82).kp hk93 (fun b_ hb e' => hd50 b_ e' hb)), (((hm43.lo hk66).lo hk82).kp hk93 (fun e' => hd51 e')), (((hm44.lo hk66).lo hk82).kp hk93 (fun b_ hb e' => hd52 b_ e' hb)), hm109, (SlO.eqv hO94 (by exact nmD_next ‹_[_]? = some _›)), hd100, hd98, hd99, hd101, hd102, ?_⟩), ?_⟩))
    ·exact (by (try dsimp only); exact ⟨by omega, allD_next (And.right ‹_ ∧ AllNum _›) ‹_[_]? = some _› ‹(!_) = false›⟩)
    ·exact (by (try dsimp only); omega)
  ·refine W.exit (xin_here (Ws (Ws (Wr (Q (mL rfl) <| ?_)))))
   have hx111 := (hm44.rd).elem (i := 0) (by omega)
   have hq112 := splitB_gt (32 : UInt8) s
   have hq113 := splitB_el hx111
   refine Q (r_ixR tsl44 (hm44.rd) rfl rfl (by omega)) <| Q (r_ld (v := str (gt (splitB (32 : UInt8) s) 0)) sca9 rfl ((hm44.rd).cell0 hx111 rfl)) <| Q (mL rfl) <| Qv ent96 (c_impl_stepFor w37 (gt (splitB (32 : UInt8) s) 0) (numsW (((splitB (32 : UInt8) s).drop 1).take k)) (hO46.rd)) rfl fun w114 hk115 hz116 => (Q (mT rfl) <| Q (xG rfl rfl) <| Q (xB rfl rfl) <| SR.alloc (l := [.int .i64 0, .int .i64 0, .int .i64 0, .int .i64 0]) tz106 rfl ?_)
   intro g118 w119 hg120 hk121 hs122 hb123
   refine Qw (o := 0) (vs := [.int .i64 (((impl_stepFor (gt (splitB (32 : UInt8) s) 0) (numsW (((splitB (32 : UInt8) s).drop 1).take k))).1).Kind), .int .i64 (((impl_stepFor (gt (splitB (32 : UInt8) s) 0) (numsW (((splitB (32 : UInt8) s).drop 1).take k))).1).Id), .int .i64 (((impl_stepFor (gt (splitB (32 : UInt8) s) 0) (numsW (((splitB (32 : UInt8) s).drop 1).take k))).1).Reader), .int .i64 (((impl_stepFor (gt (splitB (32 : UInt8) s) 0) (numsW (((splitB (32 : UInt8) s).drop 1).take k))).1).Value)]) agg106.2 rfl rfl rfl rfl hb123 ler rfl ?_
   intro w130 hk131 hs132 hb133
   have hB135 := ((hB38.lo hk115).lo hk121).new hk131
   refine Q (aB rfl) <| Qn (Ws ?_)
   have hm136 := ((hm40.lo hk115).lo hk121).kn hk131
   have hm137 := ((hm41.lo hk115).lo hk121).kd hk131 (SlO.ne (g := g118) (hm41.lo hk115))
   have hm138 := ((hm42.lo hk115).lo hk121).kd hk131 (SlO.ne (g := g118) (hm42.lo hk115))
   have hm139 := ((hm43.lo hk115).lo hk121).kn hk131
   have hm140 := ((hm44.lo hk115).lo hk121).kd hk131 (SlO.ne (g := g118) (hm44.lo hk115))
   refine Wr (Q (mB rfl) <| Qn (W.cond_b rfl (fun h142 => ?_) (fun h142 => ?_)))
   ·refine Ws (Wr (Q (lG agg34 rfl hm136 rfl) <| Q (lG agg106 rfl hb133 rfl) <| SR.call ent97 (c__impl_Library__stepped w130 x (hm137.rd) (hm138.rd) ((impl_stepFor (gt (splitB (32 : UInt8) s) 0) (numsW (((splitB (32 : UInt8) s).drop 1).take k))).1) (by omega) (by omega)) rfl ?_))
    rintro e w143 ⟨A145, n146, c147, A149, n150, c151, rfl, hO148, hO152, hd153, hk144⟩
    refine ⟨_, rfl, ?_⟩
    have hz154 := hk144.size
    have hl156 := hO148.len
    have hl157 := hO148.rd.bound
    have hq158 := (stepped_lenL x ((impl_stepFor (gt (splitB (32 : UInt8) s) 0) (numsW (((splitB (32 : UInt8) s).drop 1).take k))).1)).1
    have hl159 := hO152.len
    have hl160 := hO152.rd.bound
    have hq161 := (stepped_lenL x ((impl_stepFor (gt (splitB (32 : UInt8) s) 0) (numsW (((splitB (32 : UInt8) s).drop 1).take k))).1)).2
    refine Q (mT rfl) <| Q (xG rfl rfl) <| Q (xB rfl rfl) <| SR.alloc (l := [.slice none 0 0, .slice none 0 0, .int .i64 0, .int .i64 0, .int .i64 0]) tz34 rfl ?_
    intro g162 w163 hg164 hk165 hs166 hb167
    refine Qw (o := 0) (vs := [.slice A145 n146 c147, .slice A149 n150 c151, .int .i64 (((impl_Library_stepped x ((impl_stepFor (gt (splitB (32 : UInt8) s) 0) (numsW (((splitB (32 : UInt8) s).drop 1).take k))).1)).1).Bought), .int .i64 (((impl_Library_stepped x ((impl_stepFor (gt (splitB (32 : UInt8) s) 0) (numsW (((splitB (32 : UInt8) s).drop 1).take k))).1)).1).Dropped), .int .i64 (((impl_Library_stepped x ((impl_stepFor (gt (splitB (32 : UInt8) s) 0) (numsW (((splitB (32 : UInt8) s).drop 1).take k))).1)).1).Mended)]) agg34.2 rfl rfl rfl rfl hb167 ler rfl ?_
    intro w176 hk177 hs178 hb179
    have hB181 := ((hB135.lo hk144).lo hk165).new hk177
    refine Q (aB rfl) <| Qn (Ws (Ws ?_))
    have hm185 := ((hm139.lo hk144).lo hk165).kn hk177
    have hm189 := (hO148.lo hk165).kd hk177 (SlO.ne (g := g162) hO148)
    have hm190 := (hO152.lo hk165).kd hk177 (SlO.ne (g := g162) hO152)
    refine Wr (Q (mB rfl) <| Q (r_not rfl) <| Qn (W.cond_b rfl (fun h191 => ?_) (fun h191 => ?_)))
    ·have hq192 := bnot_t h191
     refine Ws (Wr (Q (lG agg34 rfl (((hm136.lo hk144).lo hk165).kn hk177) rfl) <| Qw (o := 0) (vs := (cLb Ax1 nx1 cx1 Ax2 nx2 cx2 x)) agg34.2 rfl rfl rfl rfl hm185 ler rfl ?_))
     intro w193 hk194 hs195 hb196
     refine Q (r_as (v := str ([] : List UInt8)) rfl) <| Q (aB rfl) <| Qn (W.ret (retCTT rfl rfl agg34 hb196 rfl (v := str _) rfl (v' := .bool _) rfl ?_))
     refine ⟨Ax1, nx1, cx1, Ax2, nx2, cx2, eR (eT3 (eA (eC rfl (eC rfl (eC (eI ?_) (eC (eI ?_) (eC (eI ?_) rfl)))))) (eS ?_) (eB ?_)), (SlO.eqv ((((hm137.lo hk144).lo hk165).kd hk177 (SlO.ne (g := g162) (hm137.lo hk144))).kd hk194 hd19) ?_), (SlO.eqv ((((hm138.lo hk144).lo hk165).kd hk177 (SlO.ne (g := g162) (hm138.lo hk144))).kd hk194 hd20) ?_), hdx_Maps_x2, (fun b_ h_ => .inl (.inl h_)), (fun b_ h_ => .inl (.inr h_)), (hB181.new hk194)⟩ <;> (rw [rep_no (k := k) (by omega) (And.right ‹_ ∧ AllNum _›) (by assumption) (by assumption)]; try rfl)
    ·have hq199 := bnot_f h191
     refine W.skip (Ws (Wr (Q (lG agg34 rfl hb179 rfl) <| Q (fA fa106_1 rfl) <| Q (lB sca3 rfl (((hb133.lo hk144).lo hk165).kn hk177) rfl) <| Qv ent73 (c_impl_MapText w176 ((impl_Library_stepped x ((impl_stepFor (gt (splitB (32 : UInt8) s) 0) (numsW (((splitB (32 : UInt8) s).drop 1).take k))).1)).1) (hm189.rd) (hm190.rd) (((impl_stepFor (gt (splitB (32 : UInt8) s) 0) (numsW (((splitB (32 : UInt8) s).drop 1).take k))).1).Id) (by omega) (hE.lo hB181)) rfl fun w200 hk201 hz202 => ?_)))
     have hq204 : (mapT ((impl_Library_stepped x ((impl_stepFor (gt (splitB (32 : UInt8) s) 0) (numsW (((splitB (32 : UInt8) s).drop 1).take k))).1)).1) (((impl_stepFor (gt (splitB (32 : UInt8) s) 0) (numsW (((splitB (32 : UInt8) s).drop 1).take k))).1).Id)).1.length ≤ 75 := mapT_len ((impl_Library_stepped x ((impl_stepFor (gt (splitB (32 : UInt8) s) 0) (numsW (((splitB (32 : UInt8) s).drop 1).take k))).1)).1) (((impl_stepFor (gt (splitB (32 : UInt8) s) 0) (numsW (((splitB (32 : UInt8) s).drop 1).take k))).1).Id)
     refine Q (mT rfl) <| Q (xS rfl rfl) <| Q (xB rfl rfl) <| Q (aS rfl) <| Q (aB rfl) <| Qn (Ws (Wr (Q (lG agg34 rfl (hb179.lo hk201) rfl) <| Q (mS rfl) <| Q (mB rfl) <| Qw (o := 0) (vs := [.slice A145 n146 c147, .slice A149 n150 c151, .int .i64 (((impl_Library_stepped x ((impl_stepFor (gt (splitB (32 : UInt8) s) 0) (numsW (((splitB (32 : UInt8) s).drop 1).take k))).1)).1).Bought), .int .i64 (((impl_Library_stepped x ((impl_stepFor (gt (splitB (32 : UInt8) s) 0) (numsW (((splitB (32 : UInt8) s).drop 1).take k))).1)).1).Dropped), .int .i64 (((impl_Library_stepped x ((impl_stepFor (gt (splitB (32 : UInt8) s) 0) (numsW (((splitB (32 : UInt8) s).drop 1).take k))).1)).1).Mended)]) agg34.2 rfl rfl rfl rfl (hm185.lo hk201) ler rfl ?_)))
     intro w205 hk206 hs207 hb208
     refine Q (aS rfl) <| Q (aB rfl) <| Qn (W.ret (retCTT rfl rfl agg34 hb208 rfl (v := str _) rfl (v' := .bool _) rfl ?_))
     refine ⟨A145, n146, c147, A149, n150, c151, eR (eT3 (eA (eC rfl (eC rfl (eC (eI ?_) (eC (eI ?_) (eC (eI ?_) rfl)))))) (eS ?_) (eB ?_)), (SlO.eqv (((hm189.lo hk201).kn hk206).down) ?_), (SlO.eqv (((hm190.lo hk201).kn hk206).down) ?_), hd153, (fun b_ h => .inr (by have := ((hm189.lo hk201).kn hk206).base_le h; omega)), (fun b_ h => .inr (by have := ((hm190.lo hk201).kn hk206).base_le h; omega)), ((hB181.lo hk201).new hk206)⟩ <;> (rw [rep_yes (k := k) (by omega) (And.right ‹_ ∧ AllNum _›) (by assumption) (by assumption)]; try rfl)
   ·refine W.skip (Ws (W.regD mo (by kernel_rfl) (QR.q' (fun w' hw' => r_lda (l := (cLb Ax1 nx1 cx1 Ax2 nx2 cx2 x)) agg34 rfl (fun _ _ hu => (hm136.lo hw').cell hu) rfl) <| QR.q' (fun w' hw' => r_mv (v := .slice _ _ _) rfl) <| QR.q' (fun w' hw' => r_ixR tsl44 ((hm140.lo hw').rd) rfl rfl (by omega)) <| QR.q' (fun w' hw' => r_ld (v := str (gt (splitB (32 : UInt8) s) 0)) sca9 rfl (((hm140.lo hw').rd).cell0 hx111 rfl)) <| QR.q' (fun w' hw' => r_mv (v := .slice _ _ _) rfl) <| QR.call ent98 (fun w' hw' => (c_impl_tell w' x ((hm137.lo hw').rd) ((hm138.lo hw').rd) (gt (splitB (32 : UInt8) s) 0) (numsW (((splitB (32 : UInt8) s).drop 1).take k)) (((((hO46.lo hk115).lo hk121).kd hk131 (SlO.ne (g := g118) (hO46.lo hk115))).lo hw').rd) (by omega) (by omega) (by omega) (by assumption) (by exact ‹LibOK _›.1.1) (hE.lo (hB135.trans hw'))).mono fun _ _ h => ⟨h.1, hw'.trans h.2⟩) rfl <| QR.q' (fun w' hw' => r_mv (v := .tuple (List.toArray _)) rfl) <| QR.q' (fun w' hw' => r_ext (v := str _) rfl rfl) <| QR.q' (fun w' hw' => r_ext (v := .bool _) rfl rfl) <| QR.q' (fun w' hw' => r_as (v := str _) rfl) <| QR.q' (fun w' hw' => r_as (v := .bool _) rfl) <| QR.nil ?_)))
    intro w211 hk212
    have hz213 := hk212.size
    refine Ws (Wr (Q (lG agg34 rfl (hm136.lo hk212) rfl) <| Q (mS rfl) <| Q (mB rfl) <| Qw (o := 0) (vs := (cLb Ax1 nx1 cx1 Ax2 nx2 cx2 x)) agg34.2 rfl rfl rfl rfl (hm139.lo hk212) ler rfl ?_))
    intro w215 hk216 hs217 hb218
    refine Q (aS rfl) <| Q (aB rfl) <| Qn (W.ret (retCTT rfl rfl agg34 hb218 rfl (v := str _) rfl (v' := .bool _) rfl ?_))
    refine ⟨Ax1, nx1, cx1, Ax2, nx2, cx2, eR (eT3 (eA (eC rfl (eC rfl (eC (eI ?_) (eC (eI ?_) (eC (eI ?_) rfl)))))) (eS ?_) (eB ?_)), (SlO.eqv ((hm137.lo hk212).kd hk216 hd19) ?_), (SlO.eqv ((hm138.lo hk212).kd hk216 hd20) ?_), hdx_Maps_x2, (fun b_ h_ => .inl (.inl h_)), (fun b_ h_ => .inl (.inr h_)), ((hB135.lo hk212).new hk216)⟩ <;> (rw [rep_tell (k := k) (by omega) (And.right ‹_ ∧ AllNum _›) (by assumption)]; try rfl)
end Go.Proofs.YtndcchndcghmoaaGreatDoor
namespace Go.Proofs.YtndcchndcghmoaaGreatDoor
open Go Go.RowKit Fw
set_option maxRecDepth 10000
set_option maxHeartbeats 2000000
set_option linter.unusedVariables false
theorem bld71_0 (a0 : List UInt8) : Tryz.prog.built 71 [(0, str a0)] = some (List.toArray [str a0, str ([] : List UInt8)]) := by kernel_rfl
theorem ent35 : Ent Tryz.prog 35 := en Tryz.func35
theorem ent49 : Ent Tryz.prog 49 := en Tryz.func49
theorem ent50 : Ent Tryz.prog 50 := en Tryz.func50
theorem c_impl_ExecuteCommand (w : World) (c : Console) {Ac1 : Option Addr} {nc1 cc1 Bc1 : Nat} (hc1 : SlR w Bc1 encLMap 3 Ac1 nc1 cc1 c.Library.Maps) {Ac2 : Option Addr} {nc2 cc2 Bc2 : Nat} (hc2 : SlR w Bc2 encAway 2 Ac2 nc2 cc2 c.Library.Away) (s : List UInt8) (hp0 : (c.Library.Maps.length : Int) ≤ 1048576 ∧ (c.Library.Away.length : Int) ≤ 1048576 ∧ (c.Log.Durable.length : Int) + (c.Log.Pending.length : Int) ≤ 1048576) (hp1 : (s.length : Int) ≤ 1048576) (hE : EnvW w) : Calls Tryz.prog 12 #[.agg (List.toArray [.slice Ac1 nc1 cc1, .slice Ac2 nc2 cc2, .int .i64 c.Library.Bought, .int .i64 c.Library.Dropped, .int .i64 c.Library.Mended, str c.Log.Durable, str c.Log.Pending, .int .i64 c.Log.Count]), str s] w fun e w' => ∃ (A1' : Option Addr) (n1' c1' : Nat) (A2' : Option Addr) (n2' c2' : Nat), e = .returned (.tuple (List.toArray [.agg (List.toArray [.slice A1' n1' c1', .slice A2' n2' c2', .int .i64 (((execN c s).1).Library.Bought), .int .i64 (((execN c s).1).Library.Dropped), .int .i64 (((execN c s).1).Library.Mended), str (((execN c s).1).Log.Durable), str (((execN c s).1).Log.Pending), .int .i64 (((execN c s).1).Log.Count)]), str ((execN c s).2)])) ∧ SlO w' w.heap.size encLMap 3 102 A1' n1' c1' (((execN c s).1).Library.Maps) ∧ SlO w' w.heap.size encAway 2 129 A2' n2' c2' (((execN c s).1).Library.Away) ∧ Dj A1' A2' ∧ Lo w w' := by
 refine calls_W 62 Tryz.func12 rfl rfl rfl ?_
 have hbdc1 := hc1.bound
 have hlec1 := hc1.len
 have hBbc1 := hc1.bd
 have hbdc2 := hc2.bound
 have hlec2 := hc2.len
 have hBbc2 := hc2.bd
 refine Ws (Wr (SR.box (v := .agg (List.toArray _)) (l := [.slice Ac1 nc1 cc1, .slice Ac2 nc2 cc2, .int .i64 c.Library.Bought, .int .i64 c.Library.Dropped, .int .i64 c.Library.Mended, str c.Log.Durable, str c.Log.Pending, .int .i64 c.Log.Count]) rfl rfl ?_))
 intro g1 w2 hg3 hk4 hs5 hb6
 refine SR.alloc (l := [.slice none 0 0, .slice none 0 0, .int .i64 0, .int .i64 0, .int .i64 0, str ([] : List UInt8), str ([] : List UInt8), .int .i64 0]) tz37 rfl ?_
 intro g9 w10 hg11 hk12 hs13 hb14
 refine Q (r_as (v := str ([] : List UInt8)) rfl) <| Qn (Ws (Wr (Q (fA fa37_0 rfl) <| Q (r_lda (l := (cLb Ac1 nc1 cc1 Ac2 nc2 cc2 c.Library)) agg34 rfl (fun _ _ hu => (hb6.lo hk12).cells (vs := (cLb Ac1 nc1 cc1 Ac2 nc2 cc2 c.Library)) rfl hu) rfl) <| SR.call ent47 (c__impl_Library__own w10 c.Library ((hc1.lo hk4).lo hk12) ((hc2.lo hk4).lo hk12) (by omega) (by omega)) rfl ?_)))
 rintro e w19 ⟨A21, n22, c23, A25, n26, c27, rfl, hO24, hO28, hd29, hk20⟩
 refine ⟨_, rfl, ?_⟩
 have hz30 := hk20.size
 have hl32 := hO24.len
 have hl33 := hO24.rd.bound
 have hl34 := hO28.len
 have hl35 := hO28.rd.bound
 refine Q (fA fa37_0 rfl) <| Qw (o := 0) (vs := (cLb A21 n22 c23 A25 n26 c27 c.Library)) agg34.2 rfl rfl rfl rfl ((hb6.lo hk12).lo hk20) ler rfl ?_
 intro w36 hk37 hs38 hb39
 have hB41 := ((((Lo.refl w).lo hk4).lo hk12).lo hk20).new hk37
 refine Qn (Ws (W.block (Ws ?_)))
 have hm42 := (hb14.lo hk20).kn hk37
 refine Wr (Q (lG agg37 rfl hb39 rfl) <| Qv ent35 (c_impl_IsValidConsole w36 c ((hO24.kn hk37).rd) ((hO28.kn hk37).rd) (by omega) (hE.lo hB41)) rfl fun w43 hk44 hz45 => ?_)
 have hB46 := hB41.lo hk44
 refine Q (r_not rfl) <| Q (aB rfl) <| Qn (W.cond_n rfl (fun h47 => ?_) (fun h47 => ?_))
 ·refine Ws (Wr (Q (lG agg37 rfl (hb39.lo hk44) rfl) <| Qw (o := 0) (vs := [.slice A21 n22 c23, .slice A25 n26 c27, .int .i64 c.Library.Bought, .int .i64 c.Library.Dropped, .int .i64 c.Library.Mended, str c.Log.Durable, str c.Log.Pending, .int .i64 c.Log.Count]) agg37.2 rfl rfl rfl rfl (hm42.lo hk44) ler rfl ?_))
  intro w50 hk51 hs52 hb53
  refine Q (r_as (v := str ([110, 111] : List UInt8)) rfl) <| Qn (W.ret (retCT rfl rfl agg37 hb53 rfl (v := str _) rfl ?_))
  refine ⟨A21, n22, c23, A25, n26, c27, eR (eT2 (eA (eC rfl (eC rfl (eC (eI ?_) (eC (eI ?_) (eC (eI ?_) (eC (eS ?_) (eC (eS ?_) (eC (eI ?_) rfl))))))))) (eS ?_)), (SlO.eqv ((((hO24.kn hk37).lo hk44).kn hk51).down) ?_), (SlO.eqv ((((hO28.kn hk37).lo hk44).kn hk51).down) ?_), hd29, (hB46.new hk51)⟩ <;> (rw [exec_no ‹¬ ConOK _›]; try rfl)
 ·have hq56 := con_rng h47
  have hq57 := And.left h47
  refine Ws ?_
  have hm58 := (hO24.kn hk37).lo hk44
  have hm59 := (hO28.kn hk37).lo hk44
  refine Wr (Q (mS rfl) <| Q (r_build (vs := [(0, str s)]) rfl (bld71_0 _)) <| Qv ent48 (c_impl_IsValidRecord w43 (⟨s, ([] : List UInt8)⟩ : LogRecord) (hE.lo hB46)) rfl fun w60 hk61 hz62 => ?_)
  have hB63 := hB46.lo hk61
  refine Q (r_not rfl) <| Q (aB rfl) <| Qn (W.cond_n rfl (fun h64 => ?_) (fun h64 => ?_))
  ·refine Ws (Wr (Q (lG agg37 rfl ((hb39.lo hk44).lo hk61) rfl) <| Qw (o := 0) (vs := [.slice A21 n22 c23, .slice A25 n26 c27, .int .i64 c.Library.Bought, .int .i64 c.Library.Dropped, .int .i64 c.Library.Mended, str c.Log.Durable, str c.Log.Pending, .int .i64 c.Log.Count]) agg37.2 rfl rfl rfl rfl ((hm42.lo hk44).lo hk61) ler rfl ?_))
   intro w67 hk68 hs69 hb70
   refine Q (r_as (v := str ([98, 97, 100] : List UInt8)) rfl) <| Qn (W.ret (retCT rfl rfl agg37 hb70 rfl (v := str _) rfl ?_))
   refine ⟨A21, n22, c23, A25, n26, c27, eR (eT2 (eA (eC rfl (eC rfl (eC (eI ?_) (eC (eI ?_) (eC (eI ?_) (eC (eS ?_) (eC (eS ?_) (eC (eI ?_) rfl))))))))) (eS ?_)), (SlO.eqv (((hm58.lo hk61).kn hk68).down) ?_), (SlO.eqv (((hm59.lo hk61).kn hk68).down) ?_), hd29, (hB63.new hk68)⟩ <;> (rw [exec_bad (c := c) (s := s) (by first | assumption | exact Classical.not_not.1 ‹_›) (by assumption)]; try rfl)
  ·have hq73 := rec_rngS h64
   refine Ws ?_
   have hm74 := (hb39.lo hk44).lo hk61
   have hm75 := (hm42.lo hk44).lo hk61
   refine Wr (Q (fA fa37_1 rfl) <| Q (fA fa35_2 rfl) <| Q (r_ld (v := .int .i64 c.Log.Count) sca3 rfl (hm74.cell2 rfl)) <| Q (r_ge rfl rfl) <| Q (aB rfl) <| Qn (W.cond_d rfl (fun h76 => ?_) (fun h76 => ?_)))
   ·refine Ws (Wr (Q (lG agg37 rfl hm74 rfl) <| Qw (o := 0) (vs := [.slice A21 n22 c23, .slice A25 n26 c27, .int .i64 c.Library.Bought, .int .i64 c.Library.Dropped, .int .i64 c.Library.Mended, str c.Log.Durable, str c.Log.Pending, .int .i64 c.Log.Count]) agg37.2 rfl rfl rfl rfl hm75 ler rfl ?_))
    intro w77 hk78 hs79 hb80
    refine Q (r_as (v := str ([102, 117, 108, 108] : List UInt8)) rfl) <| Qn (W.ret (retCT rfl rfl agg37 hb80 rfl (v := str _) rfl ?_))
    refine ⟨A21, n22, c23, A25, n26, c27, eR (eT2 (eA (eC rfl (eC rfl (eC (eI ?_) (eC (eI ?_) (eC (eI ?_) (eC (eS ?_) (eC (eS ?_) (eC (eI ?_) rfl))))))))) (eS ?_)), (SlO.eqv (((hm58.lo hk61).kn hk78).down) ?_), (SlO.eqv (((hm59.lo hk61).kn hk78).down) ?_), hd29, (hB63.new hk78)⟩ <;> (rw [exec_full (c := c) (s := s) (by first | assumption | exact Classical.not_not.1 ‹_›) (by first | assumption | exact Classical.not_not.1 ‹_›) (by omega)]; try rfl)
   ·refine W.skip (Ws (Wr (Q (fA fa37_0 rfl) <| Q (r_lda (l := (cLb A21 n22 c23 A25 n26 c27 c.Library)) agg34 rfl (fun _ _ hu => hm74.cells (vs := (cLb A21 n22 c23 A25 n26 c27 c.Library)) rfl hu) rfl) <| Q (mS rfl) <| SR.call ent49 (c_impl_reply w60 c.Library (hm58.lo hk61) (hm59.lo hk61) s hd29 (by omega) (by omega) (by assumption) (by omega) (hE.lo hB63)) rfl ?_)))
    rintro e w83 ⟨A85, n86, c87, A89, n90, c91, rfl, hO88, hO92, hd93, hN94, hN95, hk84⟩
    refine ⟨_, rfl, ?_⟩
    have hz96 := hk84.size
    have hd99 : ¬ A85 = some ⟨g9, 0, none⟩ := fun e' => (hN94 g9 e').elim (fun h => h.elim (fun h => (by have := (hm58.lo hk61).base_le h; omega)) (fun h => (by have := (hm59.lo hk61).base_le h; omega))) (fun h => by have := hm75.lt; omega)
    have hd101 : ¬ A89 = some ⟨g9, 0, none⟩ := fun e' => (hN95 g9 e').elim (fun h => h.elim (fun h => (by have := (hm58.lo hk61).base_le h; omega)) (fun h => (by have := (hm59.lo hk61).base_le h; omega))) (fun h => by have := hm75.lt; omega)
    have hl102 := hO88.len
    have hl103 := hO88.rd.bound
    have hl104 := hO92.len
    have hl105 := hO92.rd.bound
    refine Q (mT rfl) <| Q (xG rfl rfl) <| Q (xS rfl rfl) <| Q (xB rfl rfl) <| SR.alloc (l := [.slice none 0 0, .slice none 0 0, .int .i64 0, .int .i64 0, .int .i64 0]) tz34 rfl ?_
    intro g106 w107 hg108 hk109 hs110 hb111
    have hd114 := SlO.ne (g := g106) ((hm58.lo hk61).lo hk84)
    have hd115 := SlO.ne (g := g106) ((hm59.lo hk61).lo hk84)
    refine Qw (o := 0) (vs := [.slice A85 n86 c87, .slice A89 n90 c91, .int .i64 (((repN c.Library s).1).Bought), .int .i64 (((repN c.Library s).1).Dropped), .int .i64 (((repN c.Library s).1).Mended)]) agg34.2 rfl rfl rfl rfl hb111 ler rfl ?_
    intro w118 hk119 hs120 hb121
    have hB123 := ((hB63.lo hk84).lo hk109).new hk119
    refine Q (aS rfl) <| Q (aB rfl) <| Qn (Ws (W.block (Ws ?_)))
    have hm124 := ((hm74.lo hk84).lo hk109).kn hk119
    have hm125 := (((hm58.lo hk61).lo hk84).lo hk109).kd hk119 hd114
    have hm126 := (((hm59.lo hk61).lo hk84).lo hk109).kd hk119 hd115
    have hm127 := ((hm75.lo hk84).lo hk109).kn hk119
    have hm128 := (hO88.lo hk109).kd hk119 (SlO.ne (g := g106) hO88)
    have hm129 := (hO92.lo hk109).kd hk119 (SlO.ne (g := g106) hO92)
    refine Wr (Q (mB rfl) <| Q (r_not rfl) <| Q (aB rfl) <| Qn (W.cond_b rfl (fun h130 => ?_) (fun h130 => ?_)))
    ·have hq131 := bnot_t h130
     refine Wr (Q (fA fa37_0 rfl) <| Q (r_lda (l := (cLb A21 n22 c23 A25 n26 c27 c.Library)) agg34 rfl (fun _ _ hu => hm124.cells (vs := (cLb A21 n22 c23 A25 n26 c27 c.Library)) rfl hu) rfl) <| Qw (o := 0) (vs := (cLb A21 n22 c23 A25 n26 c27 c.Library)) agg34.2 rfl rfl rfl rfl hb121 ler rfl ?_)
     intro w132 hk133 hs134 hb135
     have hB137 := hB123.new hk133
     refine Q (r_as (v := str ([63] : List UInt8)) rfl) <| Qn (Ws (Wr (Q (fA fa37_1 rfl) <| Q (r_lda (l := [str c.Log.Durable, str c.Log.Pending, .int .i64 c.Log.Count]) agg35 rfl (fun _ _ hu => (hm124.kn hk133).cells (vs := [str c.Log.Durable, str c.Log.Pending, .int .i64 c.Log.Count]) rfl hu) rfl) <| Q (mS rfl) <| Q (mS rfl) <| Q (r_build (vs := [(0, str s), (1, str ([63] : List UInt8))]) rfl (bld71_0_1 _ _)) <| Qv ent50 (c_impl_AppendRecord w132 c.Log (⟨s, ([63] : List UInt8)⟩ : LogRecord) (by omega) (hE.lo hB137)) rfl fun w138 hk139 hz140 => ?_)))
     have hq142 : (appN c.Log (⟨s, ([63] : List UInt8)⟩ : LogRecord)).1.Durable.length + (appN c.Log (⟨s, ([63] : List UInt8)⟩ : LogRecord)).1.Pending.length ≤ c.Log.Durable.length + c.Log.Pending.length + 406 := appN_len c.Log (⟨s, ([63] : List UInt8)⟩ : LogRecord)
     refine Q (mT rfl) <| Q (xG rfl rfl) <| Q (xI rfl rfl) <| SR.alloc (l := [str ([] : List UInt8), str ([] : List UInt8), .int .i64 0]) tz35 rfl ?_
     intro g143 w144 hg145 hk146 hs147 hb148
     refine Qw (o := 0) (vs := [str (((appN c.Log (⟨s, ([63] : List UInt8)⟩ : LogRecord)).1).Durable), str (((appN c.Log (⟨s, ([63] : List UInt8)⟩ : LogRecord)).1).Pending), .int .i64 (((appN c.Log (⟨s, ([63] : List UInt8)⟩ : LogRecord)).1).Count)]) agg35.2 rfl rfl rfl rfl hb148 ler rfl ?_
     intro w155 hk156 hs157 hb158
     refine Q (aI rfl) <| Qn (Ws (Wr (Q (lG agg34 rfl (((hb135.lo hk139).lo hk146).kn hk156) rfl) <| Q (lG agg35 rfl hb158 rfl) <| Q (r_build (vs := [(0, .agg (List.toArray (cLb A21 n22 c23 A25 n26 c27 c.Library))), (1, .agg (List.toArray [str (((appN c.Log (⟨s, ([63] : List UInt8)⟩ : LogRecord)).1).Durable), str (((appN c.Log (⟨s, ([63] : List UInt8)⟩ : LogRecord)).1).Pending), .int .i64 (((appN c.Log (⟨s, ([63] : List UInt8)⟩ : LogRecord)).1).Count)]))]) rfl (bld37_0_1 _ _ _ _ _ _ _ _)) <| Q (mS rfl) <| Qw (o := 0) (vs := [.slice A21 n22 c23, .slice A25 n26 c27, .int .i64 c.Library.Bought, .int .i64 c.Library.Dropped, .int .i64 c.Library.Mended, str (((appN c.Log (⟨s, ([63] : List UInt8)⟩ : LogRecord)).1).Durable), str (((appN c.Log (⟨s, ([63] : List UInt8)⟩ : LogRecord)).1).Pending), .int .i64 (((appN c.Log (⟨s, ([63] : List UInt8)⟩ : LogRecord)).1).Count)]) agg37.2 rfl rfl rfl rfl ((((hm127.kn hk133).lo hk139).lo hk146).kn hk156) ler rfl ?_)))
     intro w165 hk166 hs167 hb168
     refine Q (aS rfl) <| Qn (W.ret (retCT rfl rfl agg37 hb168 rfl (v := str _) rfl ?_))
     refine ⟨A21, n22, c23, A25, n26, c27, eR (eT2 (eA (eC rfl (eC rfl (eC (eI ?_) (eC (eI ?_) (eC (eI ?_) (eC (eS ?_) (eC (eS ?_) (eC (eI ?_) rfl))))))))) (eS ?_)), (SlO.eqv ((((((hm125.kd hk133 hd114).lo hk139).lo hk146).kd hk156 (SlO.ne (g := g143) ((hm125.kd hk133 hd114).lo hk139))).kn hk166).down) ?_), (SlO.eqv ((((((hm126.kd hk133 hd115).lo hk139).lo hk146).kd hk156 (SlO.ne (g := g143) ((hm126.kd hk133 hd115).lo hk139))).kn hk166).down) ?_), hd29, ((((hB137.lo hk139).lo hk146).new hk156).new hk166)⟩ <;> (rw [exec_q (c := c) (s := s) (by first | assumption | exact Classical.not_not.1 ‹_›) (by first | assumption | exact Classical.not_not.1 ‹_›) (by omega) (by assumption)]; try rfl)
    ·have hq171 := bnot_f h130
     refine Ws (Wr (Q (mS rfl) <| Q (r_len_s und9 rfl) <| Q (r_gt rfl rfl) <| Q (aB rfl) <| Qn (W.cond_d rfl (fun h172 => ?_) (fun h172 => ?_))))
     ·refine Wr (Q (r_as (v := str ([108, 111, 110, 103] : List UInt8)) rfl) <| Qn (Ws (Wr (Q (fA fa37_1 rfl) <| Q (r_lda (l := [str c.Log.Durable, str c.Log.Pending, .int .i64 c.Log.Count]) agg35 rfl (fun _ _ hu => hm124.cells (vs := [str c.Log.Durable, str c.Log.Pending, .int .i64 c.Log.Count]) rfl hu) rfl) <| Q (mS rfl) <| Q (mS rfl) <| Q (r_build (vs := [(0, str s), (1, str ([108, 111, 110, 103] : List UInt8))]) rfl (bld71_0_1 _ _)) <| Qv ent50 (c_impl_AppendRecord w118 c.Log (⟨s, ([108, 111, 110, 103] : List UInt8)⟩ : LogRecord) (by omega) (hE.lo hB123)) rfl fun w173 hk174 hz175 => ?_))))
      have hq177 : (appN c.Log (⟨s, ([108, 111, 110, 103] : List UInt8)⟩ : LogRecord)).1.Durable.length + (appN c.Log (⟨s, ([108, 111, 110, 103] : List UInt8)⟩ : LogRecord)).1.Pending.length ≤ c.Log.Durable.length + c.Log.Pending.length + 406 := appN_len c.Log (⟨s, ([108, 111, 110, 103] : List UInt8)⟩ : LogRecord)
      refine Q (mT rfl) <| Q (xG rfl rfl) <| Q (xI rfl rfl) <| SR.alloc (l := [str ([] : List UInt8), str ([] : List UInt8), .int .i64 0]) tz35 rfl ?_
      intro g178 w179 hg180 hk181 hs182 hb183
      refine Qw (o := 0) (vs := [str (((appN c.Log (⟨s, ([108, 111, 110, 103] : List UInt8)⟩ : LogRecord)).1).Durable), str (((appN c.Log (⟨s, ([108, 111, 110, 103] : List UInt8)⟩ : LogRecord)).1).Pending), .int .i64 (((appN c.Log (⟨s, ([108, 111, 110, 103] : List UInt8)⟩ : LogRecord)).1).Count)]) agg35.2 rfl rfl rfl rfl hb183 ler rfl ?_
      intro w190 hk191 hs192 hb193
      refine Q (aI rfl) <| Qn (Ws (Wr (Q (lG agg34 rfl (((hb121.lo hk174).lo hk181).kn hk191) rfl) <| Q (lG agg35 rfl hb193 rfl) <| Q (r_build (vs := [(0, .agg (List.toArray [.slice A85 n86 c87, .slice A89 n90 c91, .int .i64 (((repN c.Library s).1).Bought), .int .i64 (((repN c.Library s).1).Dropped), .int .i64 (((repN c.Library s).1).Mended)])), (1, .agg (List.toArray [str (((appN c.Log (⟨s, ([108, 111, 110, 103] : List UInt8)⟩ : LogRecord)).1).Durable), str (((appN c.Log (⟨s, ([108, 111, 110, 103] : List UInt8)⟩ : LogRecord)).1).Pending), .int .i64 (((appN c.Log (⟨s, ([108, 111, 110, 103] : List UInt8)⟩ : LogRecord)).1).Count)]))]) rfl (bld37_0_1 _ _ _ _ _ _ _ _)) <| Q (mS rfl) <| Qw (o := 0) (vs := [.slice A85 n86 c87, .slice A89 n90 c91, .int .i64 (((repN c.Library s).1).Bought), .int .i64 (((repN c.Library s).1).Dropped), .int .i64 (((repN c.Library s).1).Mended), str (((appN c.Log (⟨s, ([108, 111, 110, 103] : List UInt8)⟩ : LogRecord)).1).Durable), str (((appN c.Log (⟨s, ([108, 111, 110, 103] : List UInt8)⟩ : LogRecord)).1).Pending), .int .i64 (((appN c.Log (⟨s, ([108, 111, 110, 103] : List UInt8)⟩ : LogRecord)).1).Count)]) agg37.2 rfl rfl rfl rfl (((hm127.lo hk174).lo hk181).kn hk191) ler rfl ?_)))
      intro w200 hk201 hs202 hb203
      refine Q (aS rfl) <| Qn (W.ret (retCT rfl rfl agg37 hb203 rfl (v := str _) rfl ?_))
      refine ⟨A85, n86, c87, A89, n90, c91, eR (eT2 (eA (eC rfl (eC rfl (eC (eI ?_) (eC (eI ?_) (eC (eI ?_) (eC (eS ?_) (eC (eS ?_) (eC (eI ?_) rfl))))))))) (eS ?_)), (SlO.eqv (((((hm128.lo hk174).lo hk181).kd hk191 (SlO.ne (g := g178) (hm128.lo hk174))).kd hk201 hd99).down) ?_), (SlO.eqv (((((hm129.lo hk174).lo hk181).kd hk191 (SlO.ne (g := g178) (hm129.lo hk174))).kd hk201 hd101).down) ?_), hd93, ((((hB123.lo hk174).lo hk181).new hk191).new hk201)⟩ <;> (rw [exec_l (c := c) (s := s) (by first | assumption | exact Classical.not_not.1 ‹_›) (by first | assumption | exact Classical.not_not.1 ‹_›) (by omega) (by assumption) (by omega)]; try rfl)
     ·refine W.skip (Ws (Wr (Q (fA fa37_1 rfl) <| Q (r_lda (l := [str c.Log.Durable, str c.Log.Pending, .int .i64 c.Log.Count]) agg35 rfl (fun _ _ hu => hm124.cells (vs := [str c.Log.Durable, str c.Log.Pending, .int .i64 c.Log.Count]) rfl hu) rfl) <| Q (mS rfl) <| Q (mS rfl) <| Q (r_build (vs := [(0, str s), (1, str ((repN c.Library s).2.1))]) rfl (bld71_0_1 _ _)) <| Qv ent50 (c_impl_AppendRecord w118 c.Log (⟨s, (repN c.Library s).2.1⟩ : LogRecord) (by omega) (hE.lo hB123)) rfl fun w206 hk207 hz208 => ?_)))
      have hq210 : (appN c.Log (⟨s, (repN c.Library s).2.1⟩ : LogRecord)).1.Durable.length + (appN c.Log (⟨s, (repN c.Library s).2.1⟩ : LogRecord)).1.Pending.length ≤ c.Log.Durable.length + c.Log.Pending.length + 406 := appN_len c.Log (⟨s, (repN c.Library s).2.1⟩ : LogRecord)
      refine Q (mT rfl) <| Q (xG rfl rfl) <| Q (xI rfl rfl) <| SR.alloc (l := [str ([] : List UInt8), str ([] : List UInt8), .int .i64 0]) tz35 rfl ?_
      intro g211 w212 hg213 hk214 hs215 hb216
      refine Qw (o := 0) (vs := [str (((appN c.Log (⟨s, (repN c.Library s).2.1⟩ : LogRecord)).1).Durable), str (((appN c.Log (⟨s, (repN c.Library s).2.1⟩ : LogRecord)).1).Pending), .int .i64 (((appN c.Log (⟨s, (repN c.Library s).2.1⟩ : LogRecord)).1).Count)]) agg35.2 rfl rfl rfl rfl hb216 ler rfl ?_
      intro w223 hk224 hs225 hb226
      refine Q (aI rfl) <| Qn (Ws (Wr (Q (lG agg34 rfl (((hb121.lo hk207).lo hk214).kn hk224) rfl) <| Q (lG agg35 rfl hb226 rfl) <| Q (r_build (vs := [(0, .agg (List.toArray [.slice A85 n86 c87, .slice A89 n90 c91, .int .i64 (((repN c.Library s).1).Bought), .int .i64 (((repN c.Library s).1).Dropped), .int .i64 (((repN c.Library s).1).Mended)])), (1, .agg (List.toArray [str (((appN c.Log (⟨s, (repN c.Library s).2.1⟩ : LogRecord)).1).Durable), str (((appN c.Log (⟨s, (repN c.Library s).2.1⟩ : LogRecord)).1).Pending), .int .i64 (((appN c.Log (⟨s, (repN c.Library s).2.1⟩ : LogRecord)).1).Count)]))]) rfl (bld37_0_1 _ _ _ _ _ _ _ _)) <| Q (mS rfl) <| Qw (o := 0) (vs := [.slice A85 n86 c87, .slice A89 n90 c91, .int .i64 (((repN c.Library s).1).Bought), .int .i64 (((repN c.Library s).1).Dropped), .int .i64 (((repN c.Library s).1).Mended), str (((appN c.Log (⟨s, (repN c.Library s).2.1⟩ : LogRecord)).1).Durable), str (((appN c.Log (⟨s, (repN c.Library s).2.1⟩ : LogRecord)).1).Pending), .int .i64 (((appN c.Log (⟨s, (repN c.Library s).2.1⟩ : LogRecord)).1).Count)]) agg37.2 rfl rfl rfl rfl (((hm127.lo hk207).lo hk214).kn hk224) ler rfl ?_)))
      intro w233 hk234 hs235 hb236
      refine Q (aS rfl) <| Qn (W.ret (retCT rfl rfl agg37 hb236 rfl (v := str _) rfl ?_))
      refine ⟨A85, n86, c87, A89, n90, c91, eR (eT2 (eA (eC rfl (eC rfl (eC (eI ?_) (eC (eI ?_) (eC (eI ?_) (eC (eS ?_) (eC (eS ?_) (eC (eI ?_) rfl))))))))) (eS ?_)), (SlO.eqv (((((hm128.lo hk207).lo hk214).kd hk224 (SlO.ne (g := g211) (hm128.lo hk207))).kd hk234 hd99).down) ?_), (SlO.eqv (((((hm129.lo hk207).lo hk214).kd hk224 (SlO.ne (g := g211) (hm129.lo hk207))).kd hk234 hd101).down) ?_), hd93, ((((hB123.lo hk207).lo hk214).new hk224).new hk234)⟩ <;> (rw [exec_y (c := c) (s := s) (by first | assumption | exact Classical.not_not.1 ‹_›) (by first | assumption | exact Classical.not_not.1 ‹_›) (by omega) (by assumption) (by omega)]; try rfl)
end Go.Proofs.YtndcchndcghmoaaGreatDoor
namespace Go.Proofs.YtndcchndcghmoaaGreatDoor
open Go Go.RowKit Fw
set_option maxRecDepth 10000
set_option maxHeartbeats 2000000
set_option linter.unusedVariables false
theorem ent41 : Ent Tryz.prog 41 := en Tryz.func41
theorem ent44 : Ent Tryz.prog 44 := en Tryz.func44
theorem ent45 : Ent Tryz.prog 45 := en Tryz.func45
theorem c_spec_ExecuteCommand (w : World) (c : Console) {Ac1 : Option Addr} {nc1 cc1 Bc1 : Nat} (hc1 : SlR w Bc1 encLMap 3 Ac1 nc1 cc1 c.Library.Maps) {Ac2 : Option Addr} {nc2 cc2 Bc2 : Nat} (hc2 : SlR w Bc2 encAway 2 Ac2 nc2 cc2 c.Library.Away) (s : List UInt8) (hp0 : (c.Library.Maps.length : Int) ≤ 1048576 ∧ (c.Library.Away.length : Int) ≤ 1048576 ∧ (c.Log.Durable.length : Int) + (c.Log.Pending.length : Int) ≤ 1048576) (hp1 : (s.length : Int) ≤ 1048576) : Calls Tryz.prog 10 #[.agg (List.toArray [.slice Ac1 nc1 cc1, .slice Ac2 nc2 cc2, .int .i64 c.Library.Bought, .int .i64 c.Library.Dropped, .int .i64 c.Library.Mended, str c.Log.Durable, str c.Log.Pending, .int .i64 c.Log.Count]), str s] w fun e w' => ∃ (A1' : Option Addr) (n1' c1' : Nat) (A2' : Option Addr) (n2' c2' : Nat), e = .returned (.tuple (List.toArray [.agg (List.toArray [.slice A1' n1' c1', .slice A2' n2' c2', .int .i64 (((execN c s).1).Library.Bought), .int .i64 (((execN c s).1).Library.Dropped), .int .i64 (((execN c s).1).Library.Mended), str (((execN c s).1).Log.Durable), str (((execN c s).1).Log.Pending), .int .i64 (((execN c s).1).Log.Count)]), str ((execN c s).2)])) ∧ SlO w' w.heap.size encLMap 3 102 A1' n1' c1' (((execN c s).1).Library.Maps) ∧ SlO w' w.heap.size encAway 2 129 A2' n2' c2' (((execN c s).1).Library.Away) ∧ Dj A1' A2' ∧ Lo w w' := by
 refine calls_W 51 Tryz.func10 rfl rfl rfl ?_
 have hbdc1 := hc1.bound
 have hlec1 := hc1.len
 have hBbc1 := hc1.bd
 have hbdc2 := hc2.bound
 have hlec2 := hc2.len
 have hBbc2 := hc2.bd
 refine Ws (Wr (SR.box (v := .agg (List.toArray _)) (l := [.slice Ac1 nc1 cc1, .slice Ac2 nc2 cc2, .int .i64 c.Library.Bought, .int .i64 c.Library.Dropped, .int .i64 c.Library.Mended, str c.Log.Durable, str c.Log.Pending, .int .i64 c.Log.Count]) rfl rfl ?_))
 intro g1 w2 hg3 hk4 hs5 hb6
 refine SR.alloc (l := [.slice none 0 0, .slice none 0 0, .int .i64 0, .int .i64 0, .int .i64 0, str ([] : List UInt8), str ([] : List UInt8), .int .i64 0]) tz37 rfl ?_
 intro g9 w10 hg11 hk12 hs13 hb14
 refine Q (r_as (v := str ([] : List UInt8)) rfl) <| Qn (Ws ?_)
 have hm17 := (hc1.lo hk4).lo hk12
 have hm18 := (hc2.lo hk4).lo hk12
 refine Wr (Q (lG agg37 rfl (hb6.lo hk12) rfl) <| SR.call ent41 (c_spec_l34Own w10 c hm17 hm18 (by omega) (by omega)) rfl ?_)
 rintro e w19 ⟨A21, n22, c23, A25, n26, c27, rfl, hO24, hO28, hd29, hk20⟩
 refine ⟨_, rfl, ?_⟩
 have hz30 := hk20.size
 have hl32 := hO24.len
 have hl33 := hO24.rd.bound
 have hl34 := hO28.len
 have hl35 := hO28.rd.bound
 refine SR.alloc (l := [.slice none 0 0, .slice none 0 0, .int .i64 0, .int .i64 0, .int .i64 0, str ([] : List UInt8), str ([] : List UInt8), .int .i64 0]) tz37 rfl ?_
 intro g36 w37 hg38 hk39 hs40 hb41
 refine Qw (o := 0) (vs := [.slice A21 n22 c23, .slice A25 n26 c27, .int .i64 c.Library.Bought, .int .i64 c.Library.Dropped, .int .i64 c.Library.Mended, str c.Log.Durable, str c.Log.Pending, .int .i64 c.Log.Count]) agg37.2 rfl rfl rfl rfl hb41 ler rfl ?_
 intro w46 hk47 hs48 hb49
 refine Qn (Ws (W.block (Ws ?_)))
 have hm52 := (((hb6.lo hk12).lo hk20).lo hk39).kn hk47
 have hm55 := ((hb14.lo hk20).lo hk39).kn hk47
 have hm56 := (hO24.lo hk39).kd hk47 (SlO.ne (g := g36) hO24)
 have hm57 := (hO28.lo hk39).kd hk47 (SlO.ne (g := g36) hO28)
 refine Wr (Q (lG agg37 rfl hm52 rfl) <| Qv ent42 (c_spec_l34Good w46 c (((hm17.lo hk20).lo hk39).kn hk47) (((hm18.lo hk20).lo hk39).kn hk47) (by omega)) rfl fun w58 hk59 hz60 => ?_)
 have hB61 := ((((((Lo.refl w).lo hk4).lo hk12).lo hk20).lo hk39).new hk47).lo hk59
 refine Q (r_not rfl) <| Q (aB rfl) <| Qn (W.cond_n rfl (fun h62 => ?_) (fun h62 => ?_))
 ·refine Ws (Wr (Q (lG agg37 rfl (hb49.lo hk59) rfl) <| Qw (o := 0) (vs := [.slice A21 n22 c23, .slice A25 n26 c27, .int .i64 c.Library.Bought, .int .i64 c.Library.Dropped, .int .i64 c.Library.Mended, str c.Log.Durable, str c.Log.Pending, .int .i64 c.Log.Count]) agg37.2 rfl rfl rfl rfl (hm55.lo hk59) ler rfl ?_))
  intro w63 hk64 hs65 hb66
  refine Q (r_as (v := str ([110, 111] : List UInt8)) rfl) <| Qn (W.ret (retCT rfl rfl agg37 hb66 rfl (v := str _) rfl ?_))
  refine ⟨A21, n22, c23, A25, n26, c27, eR (eT2 (eA (eC rfl (eC rfl (eC (eI ?_) (eC (eI ?_) (eC (eI ?_) (eC (eS ?_) (eC (eS ?_) (eC (eI ?_) rfl))))))))) (eS ?_)), (SlO.eqv (((hm56.lo hk59).kn hk64).down) ?_), (SlO.eqv (((hm57.lo hk59).kn hk64).down) ?_), hd29, (hB61.new hk64)⟩ <;> (rw [exec_no ‹¬ ConOK _›]; try rfl)
 ·have hq69 := con_rng h62
  have hq70 := And.left h62
  refine Ws (Wr (Q (mS rfl) <| Q (r_build (vs := [(0, str s)]) rfl (bld71_0 _)) <| Qv ent43 (c_spec_l33Good w58 (⟨s, ([] : List UInt8)⟩ : LogRecord) (by first | omega | (dsimp only; simp only [List.length_drop]; omega) | (dsimp only; omega) | (simp only [List.length_cons, List.length_nil]; omega))) rfl fun w71 hk72 hz73 => ?_))
  have hB74 := hB61.lo hk72
  refine Q (r_not rfl) <| Q (aB rfl) <| Qn (W.cond_n rfl (fun h75 => ?_) (fun h75 => ?_))
  ·refine Ws (Wr (Q (lG agg37 rfl ((hb49.lo hk59).lo hk72) rfl) <| Qw (o := 0) (vs := [.slice A21 n22 c23, .slice A25 n26 c27, .int .i64 c.Library.Bought, .int .i64 c.Library.Dropped, .int .i64 c.Library.Mended, str c.Log.Durable, str c.Log.Pending, .int .i64 c.Log.Count]) agg37.2 rfl rfl rfl rfl ((hm55.lo hk59).lo hk72) ler rfl ?_))
   intro w83 hk84 hs85 hb86
   refine Q (r_as (v := str ([98, 97, 100] : List UInt8)) rfl) <| Qn (W.ret (retCT rfl rfl agg37 hb86 rfl (v := str _) rfl ?_))
   refine ⟨A21, n22, c23, A25, n26, c27, eR (eT2 (eA (eC rfl (eC rfl (eC (eI ?_) (eC (eI ?_) (eC (eI ?_) (eC (eS ?_) (eC (eS ?_) (eC (eI ?_) rfl))))))))) (eS ?_)), (SlO.eqv ((((hm56.lo hk59).lo hk72).kn hk84).down) ?_), (SlO.eqv ((((hm57.lo hk59).lo hk72).kn hk84).down) ?_), hd29, (hB74.new hk84)⟩ <;> (rw [exec_bad (c := c) (s := s) (by first | assumption | exact Classical.not_not.1 ‹_›) (by assumption)]; try rfl)
  ·have hq89 := rec_rngS h75
   refine Ws ?_
   have hm90 := (hm52.lo hk59).lo hk72
   have hm93 := (hm55.lo hk59).lo hk72
   have hm94 := (hb49.lo hk59).lo hk72
   have hm95 := (hm56.lo hk59).lo hk72
   have hm96 := (hm57.lo hk59).lo hk72
   refine Wr (Q (fA fa37_1 rfl) <| Q (fA fa35_2 rfl) <| Q (r_ld (v := .int .i64 c.Log.Count) sca3 rfl (hm90.cell2 rfl)) <| Q (r_eq rfl rfl) <| Q (aB rfl) <| Qn (W.cond_d rfl (fun h97 => ?_) (fun h97 => ?_)))
   ·refine Ws (Wr (Q (lG agg37 rfl hm94 rfl) <| Qw (o := 0) (vs := [.slice A21 n22 c23, .slice A25 n26 c27, .int .i64 c.Library.Bought, .int .i64 c.Library.Dropped, .int .i64 c.Library.Mended, str c.Log.Durable, str c.Log.Pending, .int .i64 c.Log.Count]) agg37.2 rfl rfl rfl rfl hm93 ler rfl ?_))
    intro w98 hk99 hs100 hb101
    refine Q (r_as (v := str ([102, 117, 108, 108] : List UInt8)) rfl) <| Qn (W.ret (retCT rfl rfl agg37 hb101 rfl (v := str _) rfl ?_))
    refine ⟨A21, n22, c23, A25, n26, c27, eR (eT2 (eA (eC rfl (eC rfl (eC (eI ?_) (eC (eI ?_) (eC (eI ?_) (eC (eS ?_) (eC (eS ?_) (eC (eI ?_) rfl))))))))) (eS ?_)), (SlO.eqv ((hm95.kn hk99).down) ?_), (SlO.eqv ((hm96.kn hk99).down) ?_), hd29, (hB74.new hk99)⟩ <;> (rw [exec_full (c := c) (s := s) (by first | assumption | exact Classical.not_not.1 ‹_›) (by first | assumption | exact Classical.not_not.1 ‹_›) (by omega)]; try rfl)
   ·refine W.skip (Ws (Wr (Q (lG agg37 rfl hm94 rfl) <| Q (mS rfl) <| SR.call ent44 (c_spec_l34Run w71 c hm95 hm96 s hd29 (by omega) (by omega) (by assumption) (by omega)) rfl ?_)))
    rintro e w104 ⟨A106, n107, c108, A110, n111, c112, rfl, hO109, hO113, hd114, hN115, hN116, hk105⟩
    refine ⟨_, rfl, ?_⟩
    have hz117 := hk105.size
    have hl125 := hO109.len
    have hl126 := hO109.rd.bound
    have hq127 := (run_len (s := s) ‹LibOK c.Library›).1
    have hl128 := hO113.len
    have hl129 := hO113.rd.bound
    have hq130 := (run_len (s := s) ‹LibOK c.Library›).2
    refine Q (mT rfl) <| Q (xG rfl rfl) <| Q (xS rfl rfl) <| SR.alloc (l := [.slice none 0 0, .slice none 0 0, .int .i64 0, .int .i64 0, .int .i64 0, str ([] : List UInt8), str ([] : List UInt8), .int .i64 0]) tz37 rfl ?_
    intro g131 w132 hg133 hk134 hs135 hb136
    refine Qw (o := 0) (vs := [.slice A106 n107 c108, .slice A110 n111 c112, .int .i64 (((runS c s).1).Library.Bought), .int .i64 (((runS c s).1).Library.Dropped), .int .i64 (((runS c s).1).Library.Mended), str (((runS c s).1).Log.Durable), str (((runS c s).1).Log.Pending), .int .i64 (((runS c s).1).Log.Count)]) agg37.2 rfl rfl rfl rfl hb136 ler rfl ?_
    intro w143 hk144 hs145 hb146
    refine Q (aS rfl) <| Qn (Ws (Wr (Q (lG agg37 rfl hb146 rfl) <| SR.call ent41 (c_spec_l34Own w143 ((runS c s).1) (((hO109.lo hk134).kd hk144 (SlO.ne (g := g131) hO109)).rd) (((hO113.lo hk134).kd hk144 (SlO.ne (g := g131) hO113)).rd) (by omega) (by omega)) rfl ?_)))
    rintro e w158 ⟨A160, n161, c162, A164, n165, c166, rfl, hO163, hO167, hd168, hk159⟩
    refine ⟨_, rfl, ?_⟩
    have hz169 := hk159.size
    have hl171 := hO163.len
    have hl172 := hO163.rd.bound
    have hq173 := (run_len (s := s) ‹LibOK c.Library›).1
    have hl174 := hO167.len
    have hl175 := hO167.rd.bound
    have hq176 := (run_len (s := s) ‹LibOK c.Library›).2
    refine Qw (o := 0) (vs := [.slice A160 n161 c162, .slice A164 n165 c166, .int .i64 (((runS c s).1).Library.Bought), .int .i64 (((runS c s).1).Library.Dropped), .int .i64 (((runS c s).1).Library.Mended), str (((runS c s).1).Log.Durable), str (((runS c s).1).Log.Pending), .int .i64 (((runS c s).1).Log.Count)]) agg37.2 rfl rfl rfl rfl ((((hm94.lo hk105).lo hk134).kn hk144).lo hk159) ler rfl ?_
    intro w177 hk178 hs179 hb180
    have hB182 := ((((hB74.lo hk105).lo hk134).new hk144).lo hk159).new hk178
    refine Qn (Ws (Ws ?_))
    have hm183 := ((((hm90.lo hk105).lo hk134).kn hk144).lo hk159).kn hk178
    have hm186 := ((((hm93.lo hk105).lo hk134).kn hk144).lo hk159).kn hk178
    refine Wr (Q (mS rfl) <| Q (r_len_s und9 rfl) <| Q (r_gt rfl rfl) <| Qn (W.cond_d rfl (fun h187 => ?_) (fun h187 => ?_)))
    ·refine Wr (Q (r_as (v := str ([108, 111, 110, 103] : List UInt8)) rfl) <| Qn (Ws (Wr (Q (fA fa37_1 rfl) <| Q (r_lda (l := [str c.Log.Durable, str c.Log.Pending, .int .i64 c.Log.Count]) agg35 rfl (fun _ _ hu => hm183.cells (vs := [str c.Log.Durable, str c.Log.Pending, .int .i64 c.Log.Count]) rfl hu) rfl) <| Q (mS rfl) <| Q (mS rfl) <| Q (r_build (vs := [(0, str s), (1, str ([108, 111, 110, 103] : List UInt8))]) rfl (bld71_0_1 _ _)) <| Qv ent45 (c_spec_AppendRecord w177 c.Log (⟨s, ([108, 111, 110, 103] : List UInt8)⟩ : LogRecord) (by omega) (by first | omega | (dsimp only; omega) | (simp only [List.length_cons, List.length_nil]; omega))) rfl fun w188 hk189 hz190 => ?_))))
     have hq192 : (appN c.Log (⟨s, ([108, 111, 110, 103] : List UInt8)⟩ : LogRecord)).1.Durable.length + (appN c.Log (⟨s, ([108, 111, 110, 103] : List UInt8)⟩ : LogRecord)).1.Pending.length ≤ c.Log.Durable.length + c.Log.Pending.length + 406 := appN_len c.Log (⟨s, ([108, 111, 110, 103] : List UInt8)⟩ : LogRecord)
     refine Q (mT rfl) <| Q (xG rfl rfl) <| Q (xI rfl rfl) <| Q (fA fa37_1 rfl) <| Qw (o := 5) (vs := [str (((appN c.Log (⟨s, ([108, 111, 110, 103] : List UInt8)⟩ : LogRecord)).1).Durable), str (((appN c.Log (⟨s, ([108, 111, 110, 103] : List UInt8)⟩ : LogRecord)).1).Pending), .int .i64 (((appN c.Log (⟨s, ([108, 111, 110, 103] : List UInt8)⟩ : LogRecord)).1).Count)]) agg35.2 rfl rfl rfl rfl (hb180.lo hk189) ler rfl ?_
     intro w193 hk194 hs195 hb196
     refine Qn (Ws (Wr (Q (lG agg37 rfl hb196 rfl) <| Q (mS rfl) <| Qw (o := 0) (vs := [.slice A160 n161 c162, .slice A164 n165 c166, .int .i64 (((runS c s).1).Library.Bought), .int .i64 (((runS c s).1).Library.Dropped), .int .i64 (((runS c s).1).Library.Mended), str (((appN c.Log (⟨s, ([108, 111, 110, 103] : List UInt8)⟩ : LogRecord)).1).Durable), str (((appN c.Log (⟨s, ([108, 111, 110, 103] : List UInt8)⟩ : LogRecord)).1).Pending), .int .i64 (((appN c.Log (⟨s, ([108, 111, 110, 103] : List UInt8)⟩ : LogRecord)).1).Count)]) agg37.2 rfl rfl rfl rfl ((hm186.lo hk189).kn hk194) ler rfl ?_)))
     intro w202 hk203 hs204 hb205
     refine Q (aS rfl) <| Qn (W.ret (retCT rfl rfl agg37 hb205 rfl (v := str _) rfl ?_))
     refine ⟨A160, n161, c162, A164, n165, c166, eR (eT2 (eA (eC rfl (eC rfl (eC (eI ?_) (eC (eI ?_) (eC (eI ?_) (eC (eS ?_) (eC (eS ?_) (eC (eI ?_) rfl))))))))) (eS ?_)), (SlO.eqv (((((hO163.kn hk178).lo hk189).kn hk194).kn hk203).down) ?_), (SlO.eqv (((((hO167.kn hk178).lo hk189).kn hk194).kn hk203).down) ?_), hd168, (((hB182.lo hk189).new hk194).new hk203)⟩ <;> (rw [exec_Sl (c := c) (s := s) (by first | assumption | exact Classical.not_not.1 ‹_›) (by first | assumption | exact Classical.not_not.1 ‹_›) (by omega) (by omega)]; try rfl)
    ·refine W.skip (Ws (Wr (Q (fA fa37_1 rfl) <| Q (r_lda (l := [str c.Log.Durable, str c.Log.Pending, .int .i64 c.Log.Count]) agg35 rfl (fun _ _ hu => hm183.cells (vs := [str c.Log.Durable, str c.Log.Pending, .int .i64 c.Log.Count]) rfl hu) rfl) <| Q (mS rfl) <| Q (mS rfl) <| Q (r_build (vs := [(0, str s), (1, str ((runS c s).2))]) rfl (bld71_0_1 _ _)) <| Qv ent45 (c_spec_AppendRecord w177 c.Log (⟨s, (runS c s).2⟩ : LogRecord) (by omega) (by first | omega | (dsimp only; omega) | (simp only [List.length_cons, List.length_nil]; omega))) rfl fun w208 hk209 hz210 => ?_)))
     have hq212 : (appN c.Log (⟨s, (runS c s).2⟩ : LogRecord)).1.Durable.length + (appN c.Log (⟨s, (runS c s).2⟩ : LogRecord)).1.Pending.length ≤ c.Log.Durable.length + c.Log.Pending.length + 406 := appN_len c.Log (⟨s, (runS c s).2⟩ : LogRecord)
     refine Q (mT rfl) <| Q (xG rfl rfl) <| Q (xI rfl rfl) <| Q (fA fa37_1 rfl) <| Qw (o := 5) (vs := [str (((appN c.Log (⟨s, (runS c s).2⟩ : LogRecord)).1).Durable), str (((appN c.Log (⟨s, (runS c s).2⟩ : LogRecord)).1).Pending), .int .i64 (((appN c.Log (⟨s, (runS c s).2⟩ : LogRecord)).1).Count)]) agg35.2 rfl rfl rfl rfl (hb180.lo hk209) ler rfl ?_
     intro w213 hk214 hs215 hb216
     refine Qn (Ws (Wr (Q (lG agg37 rfl hb216 rfl) <| Q (mS rfl) <| Qw (o := 0) (vs := [.slice A160 n161 c162, .slice A164 n165 c166, .int .i64 (((runS c s).1).Library.Bought), .int .i64 (((runS c s).1).Library.Dropped), .int .i64 (((runS c s).1).Library.Mended), str (((appN c.Log (⟨s, (runS c s).2⟩ : LogRecord)).1).Durable), str (((appN c.Log (⟨s, (runS c s).2⟩ : LogRecord)).1).Pending), .int .i64 (((appN c.Log (⟨s, (runS c s).2⟩ : LogRecord)).1).Count)]) agg37.2 rfl rfl rfl rfl ((hm186.lo hk209).kn hk214) ler rfl ?_)))
     intro w222 hk223 hs224 hb225
     refine Q (aS rfl) <| Qn (W.ret (retCT rfl rfl agg37 hb225 rfl (v := str _) rfl ?_))
     refine ⟨A160, n161, c162, A164, n165, c166, eR (eT2 (eA (eC rfl (eC rfl (eC (eI ?_) (eC (eI ?_) (eC (eI ?_) (eC (eS ?_) (eC (eS ?_) (eC (eI ?_) rfl))))))))) (eS ?_)), (SlO.eqv (((((hO163.kn hk178).lo hk209).kn hk214).kn hk223).down) ?_), (SlO.eqv (((((hO167.kn hk178).lo hk209).kn hk214).kn hk223).down) ?_), hd168, (((hB182.lo hk209).new hk214).new hk223)⟩ <;> (rw [exec_Sy (c := c) (s := s) (by first | assumption | exact Classical.not_not.1 ‹_›) (by first | assumption | exact Classical.not_not.1 ‹_›) (by omega) (by omega)]; try rfl)
end Go.Proofs.YtndcchndcghmoaaGreatDoor
namespace Go.Proofs.YtndcchndcghmoaaGreatDoor
open Go Go.RowKit Fw
set_option maxRecDepth 10000
set_option maxHeartbeats 2000000
set_option linter.unusedVariables false
theorem ent10 : Ent Tryz.prog 10 := en Tryz.func10
theorem ent12 : Ent Tryz.prog 12 := en Tryz.func12
end Go.Proofs.YtndcchndcghmoaaGreatDoor
namespace Go.Proofs.YtndcchndcghmoaaGreatDoor
open Go Go.RowKit Fw
set_option maxRecDepth 10000
set_option maxHeartbeats 2000000
set_option linter.unusedVariables false
theorem bld34_0_2 (a0 : Option Addr) (b0 c0 : Nat) (a2 : Int) : Tryz.prog.built 34 [(0, .slice a0 b0 c0), (2, .int .i64 a2)] = some (List.toArray [.slice a0 b0 c0, .slice none 0 0, .int .i64 a2, .int .i64 0, .int .i64 0]) := by kernel_rfl
theorem bld37_ : Tryz.prog.built 37 [] = some (List.toArray [.slice none 0 0, .slice none 0 0, .int .i64 0, .int .i64 0, .int .i64 0, str ([] : List UInt8), str ([] : List UInt8), .int .i64 0]) := by kernel_rfl
theorem bld37_0 (a0_0 : Value) (a0_1 : Value) (a0_2 : Value) (a0_3 : Value) (a0_4 : Value) : Tryz.prog.built 37 [(0, .agg (List.toArray [a0_0, a0_1, a0_2, a0_3, a0_4]))] = some (List.toArray [a0_0, a0_1, a0_2, a0_3, a0_4, str ([] : List UInt8), str ([] : List UInt8), .int .i64 0]) := by kernel_rfl
theorem ent26 : Ent Tryz.prog 26 := en Tryz.func26
theorem ent27 : Ent Tryz.prog 27 := en Tryz.func27
theorem ent37 : Ent Tryz.prog 37 := en Tryz.func37
theorem ent64 : Ent Tryz.prog 64 := en Tryz.func64
theorem tsl67 : TSl Tryz.prog 67 71 2 := ⟨by kernel_rfl, fun _ => by kernel_rfl⟩
theorem c_impl_LogRecords (w : World) (l : Log) (hp0 : (l.Durable.length : Int) + (l.Pending.length : Int) ≤ 4000000) (hE : EnvW w) : Calls Tryz.prog 37 #[.agg (List.toArray (encLog l))] w fun e w' => ∃ (A1' : Option Addr) (n1' c1' : Nat), e = .returned (.tuple (List.toArray [.slice A1' n1' c1', .bool ((recsN l).2)])) ∧ SlO w' w.heap.size encLogRecord 2 71 A1' n1' c1' ((recsN l).1) ∧ Lo w w' := by
 refine calls_W 19 Tryz.func37 rfl rfl rfl (Ws (Wr (SR.box (v := .agg (List.toArray _)) (l := [str l.Durable, str l.Pending, .int .i64 l.Count]) rfl rfl ?_)))
 intro g1 w2 hg3 hk4 hs5 hb6
 have hB8 := (Lo.refl w).lo hk4
 refine Q (r_as (v := .slice none 0 0) rfl) <| Q (aB rfl) <| Qn (Ws (Ws (Wr (Q (lG agg35 rfl hb6 rfl) <| Qv ent69 (c_impl_IsValidLog w2 l (by omega) (hE.lo hB8)) rfl fun w9 hk10 hz11 => ?_))))
 have hB12 := hB8.lo hk10
 refine Q (r_not rfl) <| Qn (W.cond_n rfl (fun h13 => ?_) (fun h13 => ?_))
 ·refine Ws (Wr (Q (r_as (v := .slice none 0 0) rfl) <| Q (aB rfl) <| Qn (W.ret (ret2 rfl (v := .slice none 0 0) (v' := .bool _) rfl rfl ?_))))
  refine ⟨none, 0, 0, eR (eT2 rfl (eB ?_)), (SlO.eqv (SlO.nil (e := 71) (enc := encLogRecord) (fun _ => rfl) (by omega)) ?_), hB12⟩ <;> (first | (rw [recs_yes ‹LogOK _›]; first | done | rfl | (dsimp only; omega)) | (rw [recs_no ‹¬ LogOK _›]; first | done | rfl | (dsimp only; omega)))
 ·have hq14 := log_rng h13
  refine W.skip (Ws (Wr (Q (fA fa35_0 rfl) <| Q (lB sca9 rfl (hb6.lo hk10) rfl) <| Q (fA fa35_1 rfl) <| Q (lB sca9 rfl (hb6.lo hk10) rfl) <| Q (r_cat rfl rfl (by first | omega | (simp only [List.length_append, List.length_cons, List.length_nil, List.length_take, List.length_drop]; omega) | (simp only [List.length_append, List.length_cons, List.length_nil, List.length_take, List.length_drop] at *; omega))) <| SR.call ent70 (c_impl_recovered w9 (l.Durable ++ l.Pending) (by first | omega | (simp only [List.length_append, List.length_cons, List.length_nil, List.length_take, List.length_drop]; omega)) (hE.lo hB12)) rfl ?_)))
  rintro e w15 ⟨A17, n18, c19, rfl, hO20, hk16⟩
  refine ⟨_, rfl, ?_⟩
  have hz21 := hk16.size
  have hl23 := hO20.len
  have hl24 := hO20.rd.bound
  have hq25 : (opN (l.Durable ++ l.Pending)).1.length ≤ 60 ∧ (opN (l.Durable ++ l.Pending)).2 ≤ (l.Durable ++ l.Pending).length ∧ (opN (l.Durable ++ l.Pending)).2 ≤ 24360 := opN_len (l.Durable ++ l.Pending)
  refine Q (mT rfl) <| Q (xL rfl rfl) <| Q (xI rfl rfl) <| Q (aL rfl) <| Q (aI rfl) <| Qn (Ws (Wr (Q (mL rfl) <| Q (aL rfl) <| Q (aB rfl) <| Qn (W.ret (ret2 rfl (v := .slice _ _ _) (v' := .bool _) rfl rfl ?_)))))
  refine ⟨A17, n18, c19, eR (eT2 rfl (eB ?_)), (SlO.eqv (hO20.down) ?_), (hB12.lo hk16)⟩ <;> (first | (rw [recs_yes ‹LogOK _›]; first | done | rfl | (dsimp only; omega)) | (rw [recs_no ‹¬ LogOK _›]; first | done | rfl | (dsimp only; omega)))
theorem c_spec_LogRecords (w : World) (l : Log) (hp0 : (l.Durable.length : Int) + (l.Pending.length : Int) ≤ 4000000) : Calls Tryz.prog 64 #[.agg (List.toArray (encLog l))] w fun e w' => ∃ (A1' : Option Addr) (n1' c1' : Nat), e = .returned (.tuple (List.toArray [.slice A1' n1' c1', .bool ((recsN l).2)])) ∧ SlO w' w.heap.size encLogRecord 2 71 A1' n1' c1' ((recsN l).1) ∧ Lo w w' := by
 refine calls_W 20 Tryz.func64 rfl rfl rfl (Ws (Wr (SR.box (v := .agg (List.toArray _)) (l := [str l.Durable, str l.Pending, .int .i64 l.Count]) rfl rfl ?_)))
 intro g1 w2 hg3 hk4 hs5 hb6
 refine Q (r_as (v := .slice none 0 0) rfl) <| Q (aB rfl) <| Qn (Ws (Ws (Wr (Q (lG agg35 rfl hb6 rfl) <| Qv ent63 (c_spec_l33Log w2 l (by omega)) rfl fun w9 hk10 hz11 => ?_))))
 have hB12 := ((Lo.refl w).lo hk4).lo hk10
 refine Q (r_not rfl) <| Qn (W.cond_n rfl (fun h13 => ?_) (fun h13 => ?_))
 ·refine Ws (Wr (SR.lit (vs := []) (L := ([] : List LogRecord)) (enc := encLogRecord) tel67 (fun _ => rfl) rfl rfl rfl (by decide) ?_))
  intro g14 w15 hg16 hk17 hO18
  have hz19 := hk17.size
  refine Q (aL rfl) <| Q (aB rfl) <| Qn (W.ret (ret2 rfl (v := .slice _ _ _) (v' := .bool _) rfl rfl ?_))
  refine ⟨(pA g14), 0, 0, eR (eT2 rfl (eB ?_)), (SlO.eqv (hO18.down) ?_), (hB12.lo hk17)⟩ <;> (first | (rw [recs_yes ‹LogOK _›]; first | done | rfl | (dsimp only; omega)) | (rw [recs_no ‹¬ LogOK _›]; first | done | rfl | (dsimp only; omega)))
 ·have hq21 := log_rng h13
  refine W.skip (Ws (Wr (Q (fA fa35_0 rfl) <| Q (lB sca9 rfl (hb6.lo hk10) rfl) <| Q (fA fa35_1 rfl) <| Q (lB sca9 rfl (hb6.lo hk10) rfl) <| Q (r_cat rfl rfl (by first | omega | (simp only [List.length_append, List.length_cons, List.length_nil, List.length_take, List.length_drop]; omega) | (simp only [List.length_append, List.length_cons, List.length_nil, List.length_take, List.length_drop] at *; omega))) <| SR.call ent111 (c_spec_l33Open w9 (l.Durable ++ l.Pending) (by first | omega | (simp only [List.length_append, List.length_cons, List.length_nil, List.length_take, List.length_drop]; omega))) rfl ?_)))
  rintro e w22 ⟨A24, n25, c26, rfl, hO27, hk23⟩
  refine ⟨_, rfl, ?_⟩
  have hz28 := hk23.size
  have hl30 := hO27.len
  have hl31 := hO27.rd.bound
  have hq32 : (opN (l.Durable ++ l.Pending)).1.length ≤ 60 ∧ (opN (l.Durable ++ l.Pending)).2 ≤ (l.Durable ++ l.Pending).length ∧ (opN (l.Durable ++ l.Pending)).2 ≤ 24360 := opN_len (l.Durable ++ l.Pending)
  refine Q (mT rfl) <| Q (xL rfl rfl) <| Q (xI rfl rfl) <| Q (aL rfl) <| Q (aI rfl) <| Qn (Ws (Wr (Q (mL rfl) <| Q (aL rfl) <| Q (aB rfl) <| Qn (W.ret (ret2 rfl (v := .slice _ _ _) (v' := .bool _) rfl rfl ?_)))))
  refine ⟨A24, n25, c26, eR (eT2 rfl (eB ?_)), (SlO.eqv (hO27.down) ?_), (hB12.lo hk23)⟩ <;> (first | (rw [recs_yes ‹LogOK _›]; first | done | rfl | (dsimp only; omega)) | (rw [recs_no ‹¬ LogOK _›]; first | done | rfl | (dsimp only; omega)))
theorem c_impl_NewConsole (w : World) (n : Int) : Calls Tryz.prog 26 #[.int .i64 n] w fun e w' => ∃ (A1' : Option Addr) (n1' c1' : Nat) (A2' : Option Addr) (n2' c2' : Nat), e = .returned (.tuple (List.toArray [.agg (List.toArray [.slice A1' n1' c1', .slice A2' n2' c2', .int .i64 (((newC n).1).Library.Bought), .int .i64 (((newC n).1).Library.Dropped), .int .i64 (((newC n).1).Library.Mended), str (((newC n).1).Log.Durable), str (((newC n).1).Log.Pending), .int .i64 (((newC n).1).Log.Count)]), .bool ((newC n).2)])) ∧ SlO w' w.heap.size encLMap 3 102 A1' n1' c1' (((newC n).1).Library.Maps) ∧ SlO w' w.heap.size encAway 2 129 A2' n2' c2' (((newC n).1).Library.Away) ∧ Dj A1' A2' ∧ Lo w w' := by
 refine calls_W 14 Tryz.func26 rfl rfl rfl (Ws (Wr (SR.alloc (l := [.slice none 0 0, .slice none 0 0, .int .i64 0, .int .i64 0, .int .i64 0, str ([] : List UInt8), str ([] : List UInt8), .int .i64 0]) tz37 rfl ?_)))
 intro g1 w2 hg3 hk4 hs5 hb6
 refine Q (aB rfl) <| Qn (Ws (Ws (Wr (Q (mI rfl) <| Qv ent66 (c_impl_within w2 n 1 50) rfl fun w9 hk10 hz11 => ?_))))
 have hB12 := ((Lo.refl w).lo hk4).lo hk10
 refine Q (r_not rfl) <| Qn (W.cond_n rfl (fun h13 => ?_) (fun h13 => ?_))
 ·refine Ws (Wr (Q (r_build (vs := []) rfl bld37_) <| Qw (o := 0) (vs := [.slice none 0 0, .slice none 0 0, .int .i64 0, .int .i64 0, .int .i64 0, str ([] : List UInt8), str ([] : List UInt8), .int .i64 0]) agg37.2 rfl rfl rfl rfl (hb6.lo hk10) ler rfl ?_))
  intro w14 hk15 hs16 hb17
  refine Q (aB rfl) <| Qn (W.ret (retCT rfl rfl agg37 hb17 rfl (v := .bool _) rfl ?_))
  refine ⟨none, 0, 0, none, 0, 0, eR (eT2 (eA (eC rfl (eC rfl (eC (eI ?_) (eC (eI ?_) (eC (eI ?_) (eC (eS ?_) (eC (eS ?_) (eC (eI ?_) rfl))))))))) (eB ?_)), (SlO.eqv (SlO.nil (e := 102) (enc := encLMap) (fun _ => rfl) (by omega)) ?_), (SlO.eqv (SlO.nil (e := 129) (enc := encAway) (fun _ => rfl) (by omega)) ?_), (fun b_ h => by cases h), (hB12.new hk15)⟩ <;> (first | (rw [newC_yes (n := n) (by assumption)]; first | done | rfl) | (rw [newC_no (n := n) (by assumption)]; first | done | rfl))
 ·refine W.skip (Ws (Wr (Q (mI rfl) <| Q (r_build (vs := [(0, .int .i64 1), (1, .int .i64 n)]) rfl (bld102_0_1 _ _)) <| SR.lit (vs := [.agg (List.toArray [.int .i64 1, .int .i64 n, .int .i64 0])]) (L := ([(⟨1, n, 0⟩ : LMap)] : List LMap)) (enc := encLMap) tel31 (fun _ => rfl) rfl rfl rfl (by decide) ?_)))
  intro g20 w21 hg22 hk23 hO24
  have hz25 := hk23.size
  refine Q (mI rfl) <| Q (r_build (vs := [(0, .slice (pA g20) 1 1), (2, .int .i64 n)]) rfl (bld34_0_2 _ _ _ _)) <| Q (r_build (vs := [(0, .agg (List.toArray [.slice (pA g20) 1 1, .slice none 0 0, .int .i64 n, .int .i64 0, .int .i64 0]))]) rfl (bld37_0 _ _ _ _ _)) <| Qw (o := 0) (vs := [.slice (pA g20) 1 1, .slice none 0 0, .int .i64 n, .int .i64 0, .int .i64 0, str ([] : List UInt8), str ([] : List UInt8), .int .i64 0]) agg37.2 rfl rfl rfl rfl ((hb6.lo hk10).lo hk23) ler rfl ?_
  intro w27 hk28 hs29 hb30
  refine Q (aB rfl) <| Qn (W.ret (retCT rfl rfl agg37 hb30 rfl (v := .bool _) rfl ?_))
  refine ⟨(pA g20), 1, 1, none, 0, 0, eR (eT2 (eA (eC rfl (eC rfl (eC (eI ?_) (eC (eI ?_) (eC (eI ?_) (eC (eS ?_) (eC (eS ?_) (eC (eI ?_) rfl))))))))) (eB ?_)), (SlO.eqv ((hO24.kn hk28).down) ?_), (SlO.eqv (SlO.nil (e := 129) (enc := encAway) (fun _ => rfl) (by omega)) ?_), (fun b_ h h' => by cases h'), ((hB12.lo hk23).new hk28)⟩ <;> (first | (rw [newC_yes (n := n) (by assumption)]; first | done | rfl) | (rw [newC_no (n := n) (by assumption)]; first | done | rfl))
theorem c_spec_NewConsole (w : World) (n : Int) : Calls Tryz.prog 27 #[.int .i64 n] w fun e w' => ∃ (A1' : Option Addr) (n1' c1' : Nat) (A2' : Option Addr) (n2' c2' : Nat), e = .returned (.tuple (List.toArray [.agg (List.toArray [.slice A1' n1' c1', .slice A2' n2' c2', .int .i64 (((newC n).1).Library.Bought), .int .i64 (((newC n).1).Library.Dropped), .int .i64 (((newC n).1).Library.Mended), str (((newC n).1).Log.Durable), str (((newC n).1).Log.Pending), .int .i64 (((newC n).1).Log.Count)]), .bool ((newC n).2)])) ∧ SlO w' w.heap.size encLMap 3 102 A1' n1' c1' (((newC n).1).Library.Maps) ∧ SlO w' w.heap.size encAway 2 129 A2' n2' c2' (((newC n).1).Library.Away) ∧ Dj A1' A2' ∧ Lo w w' := by
 refine calls_W 18 Tryz.func27 rfl rfl rfl (Ws (Wr (SR.alloc (l := [.slice none 0 0, .slice none 0 0, .int .i64 0, .int .i64 0, .int .i64 0, str ([] : List UInt8), str ([] : List UInt8), .int .i64 0]) tz37 rfl ?_)))
 intro g1 w2 hg3 hk4 hs5 hb6
 refine Q (aB rfl) <| Qn (Ws (Wr (Q (r_build (vs := []) rfl bld34_) <| Q (mI rfl) <| Q (r_build (vs := [(0, .int .i64 1), (1, .int .i64 1), (3, .int .i64 n)]) rfl (bld106_0_1_3 _ _ _)) <| SR.call ent67 (c_spec_StepLibrary w2 (⟨([] : List LMap), ([] : List Away), 0, 0, 0⟩ : Library) (SlR.nil (enc := encLMap) w2 (fun _ => rfl)) (SlR.nil (enc := encAway) w2 (fun _ => rfl)) (⟨1, 1, 0, n⟩ : LibraryStep)) rfl ?_)))
 rintro e w9 ⟨A11, n12, c13, A15, n16, c17, rfl, hO14, hO18, hd19, hk10⟩
 refine ⟨_, rfl, ?_⟩
 have hz20 := hk10.size
 have hl22 := hO14.len
 have hl23 := hO14.rd.bound
 have hq24 := step_lenMS (⟨([] : List LMap), ([] : List Away), 0, 0, 0⟩ : Library) (⟨1, 1, 0, n⟩ : LibraryStep)
 have hl25 := hO18.len
 have hl26 := hO18.rd.bound
 have hq27 := step_lenAS (⟨([] : List LMap), ([] : List Away), 0, 0, 0⟩ : Library) (⟨1, 1, 0, n⟩ : LibraryStep)
 refine Q (mT rfl) <| Q (xG rfl rfl) <| Q (xB rfl rfl) <| SR.alloc (l := [.slice none 0 0, .slice none 0 0, .int .i64 0, .int .i64 0, .int .i64 0]) tz34 rfl ?_
 intro g28 w29 hg30 hk31 hs32 hb33
 refine Qw (o := 0) (vs := [.slice A11 n12 c13, .slice A15 n16 c17, .int .i64 (((spec_StepLibrary (⟨([] : List LMap), ([] : List Away), 0, 0, 0⟩ : Library) (⟨1, 1, 0, n⟩ : LibraryStep)).1).Bought), .int .i64 (((spec_StepLibrary (⟨([] : List LMap), ([] : List Away), 0, 0, 0⟩ : Library) (⟨1, 1, 0, n⟩ : LibraryStep)).1).Dropped), .int .i64 (((spec_StepLibrary (⟨([] : List LMap), ([] : List Away), 0, 0, 0⟩ : Library) (⟨1, 1, 0, n⟩ : LibraryStep)).1).Mended)]) agg34.2 rfl rfl rfl rfl hb33 ler rfl ?_
 intro w38 hk39 hs40 hb41
 have hB43 := ((((Lo.refl w).lo hk4).lo hk10).lo hk31).new hk39
 refine Q (aB rfl) <| Qn (Ws (Ws ?_))
 have hm44 := ((hb6.lo hk10).lo hk31).kn hk39
 refine Wr (Q (mB rfl) <| Q (r_not rfl) <| Qn (W.cond_b rfl (fun h47 => ?_) (fun h47 => ?_)))
 ·have hq48 := bnot_t h47
  refine Ws (Wr (Q (r_build (vs := []) rfl bld37_) <| Qw (o := 0) (vs := [.slice none 0 0, .slice none 0 0, .int .i64 0, .int .i64 0, .int .i64 0, str ([] : List UInt8), str ([] : List UInt8), .int .i64 0]) agg37.2 rfl rfl rfl rfl hm44 ler rfl ?_))
  intro w49 hk50 hs51 hb52
  refine Q (aB rfl) <| Qn (W.ret (retCT rfl rfl agg37 hb52 rfl (v := .bool _) rfl ?_))
  refine ⟨none, 0, 0, none, 0, 0, eR (eT2 (eA (eC rfl (eC rfl (eC (eI ?_) (eC (eI ?_) (eC (eI ?_) (eC (eS ?_) (eC (eS ?_) (eC (eI ?_) rfl))))))))) (eB ?_)), (SlO.eqv (SlO.nil (e := 102) (enc := encLMap) (fun _ => rfl) (by omega)) ?_), (SlO.eqv (SlO.nil (e := 129) (enc := encAway) (fun _ => rfl) (by omega)) ?_), (fun b_ h => by cases h), (hB43.new hk50)⟩ <;> (first | (rw [newS_ok (n := n) ‹(!_) = false›]; first | done | rfl) | (rw [newS_no (n := n) ‹(!_) = true›]; first | done | rfl))
 ·have hq55 := bnot_f h47
  refine W.skip (Ws (Wr (Q (lG agg34 rfl hb41 rfl) <| Q (r_build (vs := [(0, .agg (List.toArray [.slice A11 n12 c13, .slice A15 n16 c17, .int .i64 (((spec_StepLibrary (⟨([] : List LMap), ([] : List Away), 0, 0, 0⟩ : Library) (⟨1, 1, 0, n⟩ : LibraryStep)).1).Bought), .int .i64 (((spec_StepLibrary (⟨([] : List LMap), ([] : List Away), 0, 0, 0⟩ : Library) (⟨1, 1, 0, n⟩ : LibraryStep)).1).Dropped), .int .i64 (((spec_StepLibrary (⟨([] : List LMap), ([] : List Away), 0, 0, 0⟩ : Library) (⟨1, 1, 0, n⟩ : LibraryStep)).1).Mended)]))]) rfl (bld37_0 _ _ _ _ _)) <| Qw (o := 0) (vs := [.slice A11 n12 c13, .slice A15 n16 c17, .int .i64 (((spec_StepLibrary (⟨([] : List LMap), ([] : List Away), 0, 0, 0⟩ : Library) (⟨1, 1, 0, n⟩ : LibraryStep)).1).Bought), .int .i64 (((spec_StepLibrary (⟨([] : List LMap), ([] : List Away), 0, 0, 0⟩ : Library) (⟨1, 1, 0, n⟩ : LibraryStep)).1).Dropped), .int .i64 (((spec_StepLibrary (⟨([] : List LMap), ([] : List Away), 0, 0, 0⟩ : Library) (⟨1, 1, 0, n⟩ : LibraryStep)).1).Mended), str ([] : List UInt8), str ([] : List UInt8), .int .i64 0]) agg37.2 rfl rfl rfl rfl hm44 ler rfl ?_)))
  intro w56 hk57 hs58 hb59
  refine Q (aB rfl) <| Qn (W.ret (retCT rfl rfl agg37 hb59 rfl (v := .bool _) rfl ?_))
  refine ⟨A11, n12, c13, A15, n16, c17, eR (eT2 (eA (eC rfl (eC rfl (eC (eI ?_) (eC (eI ?_) (eC (eI ?_) (eC (eS ?_) (eC (eS ?_) (eC (eI ?_) rfl))))))))) (eB ?_)), (SlO.eqv ((((hO14.lo hk31).kd hk39 (SlO.ne (g := g28) hO14)).kn hk57).down) ?_), (SlO.eqv ((((hO18.lo hk31).kd hk39 (SlO.ne (g := g28) hO18)).kn hk57).down) ?_), hd19, (hB43.new hk57)⟩ <;> (first | (rw [newS_ok (n := n) ‹(!_) = false›]; first | done | rfl) | (rw [newS_no (n := n) ‹(!_) = true›]; first | done | rfl))
theorem c_impl_ReplayLog (w : World) (n : Int) (l : Log) (hp0 : (l.Durable.length : Int) + (l.Pending.length : Int) ≤ 4000000) (hE : EnvW w) : Calls Tryz.prog 23 #[.int .i64 n, .agg (List.toArray (encLog l))] w fun e w' => e = .returned (.tuple (List.toArray [.int .i64 ((rplN n l).1), .bool ((rplN n l).2)])) ∧ Lo w w' := by
 refine calls_W 53 Tryz.func23 rfl rfl rfl (Ws (Wr (SR.box (v := .agg (List.toArray _)) (l := [str l.Durable, str l.Pending, .int .i64 l.Count]) rfl rfl ?_)))
 intro g1 w2 hg3 hk4 hs5 hb6
 refine Q (aI rfl) <| Q (aB rfl) <| Qn (Ws (Wr (Q (mI rfl) <| SR.call ent26 (c_impl_NewConsole w2 n) rfl ?_)))
 rintro e w9 ⟨A11, n12, c13, A15, n16, c17, rfl, hO14, hO18, hd19, hk10⟩
 refine ⟨_, rfl, ?_⟩
 have hz20 := hk10.size
 have hl22 := hO14.len
 have hl23 := hO14.rd.bound
 have hq24 := new_lenM n
 have hl25 := hO18.len
 have hl26 := hO18.rd.bound
 have hq27 := new_lenA n
 refine Q (mT rfl) <| Q (xG rfl rfl) <| Q (xB rfl rfl) <| SR.alloc (l := [.slice none 0 0, .slice none 0 0, .int .i64 0, .int .i64 0, .int .i64 0, str ([] : List UInt8), str ([] : List UInt8), .int .i64 0]) tz37 rfl ?_
 intro g28 w29 hg30 hk31 hs32 hb33
 refine Qw (o := 0) (vs := [.slice A11 n12 c13, .slice A15 n16 c17, .int .i64 (((newC n).1).Library.Bought), .int .i64 (((newC n).1).Library.Dropped), .int .i64 (((newC n).1).Library.Mended), str (((newC n).1).Log.Durable), str (((newC n).1).Log.Pending), .int .i64 (((newC n).1).Log.Count)]) agg37.2 rfl rfl rfl rfl hb33 ler rfl ?_
 intro w38 hk39 hs40 hb41
 have hB43 := ((((Lo.refl w).lo hk4).lo hk10).lo hk31).new hk39
 refine Q (aB rfl) <| Qn (Ws (Wr (Q (lG agg35 rfl (((hb6.lo hk10).lo hk31).kn hk39) rfl) <| SR.call ent37 (c_impl_LogRecords w38 l (by omega) (hE.lo hB43)) rfl ?_)))
 rintro e w47 ⟨A49, n50, c51, rfl, hO52, hk48⟩
 refine ⟨_, rfl, ?_⟩
 have hz53 := hk48.size
 have hl55 := hO52.len
 have hl56 := hO52.rd.bound
 have hq57 := recs_len l
 refine Q (mT rfl) <| Q (xL rfl rfl) <| Q (xB rfl rfl) <| Q (aL rfl) <| Q (aB rfl) <| Qn (Ws (Ws (W.regJS (fun f' w' => At f' [(4, .int .i64 0), (5, .bool false), (6, .pointer (pA g28)), (8, .slice A49 n50 c51), (29, .bool (decide (((!((newC n).2)) = true) ∨ ((!((recsN l).2)) = true))))] ∧ Lo w47 w') ?_ ?_)))
 ·refine Q (mB rfl) <| Q (r_not rfl) <| Q (mB rfl) <| SR.split (fun h58 => ?_) (fun h58 => ?_)
  ·have hq59 := bnot_t h58
   refine Qs rfl <| Qs rfl <| Q (r_pick true rfl (v := .bool true) rfl) <| Qn (⟨_, rfl, ⟨⟨rfl, rfl, rfl, rfl, (eDT ((jot h58).1 trivial)), trivial⟩, (Lo.refl _)⟩⟩)
  ·have hq60 := bnot_f h58
   refine Qg rfl (mB rfl) <| Qg rfl (r_not rfl) <| Q (r_pick false rfl (v := .bool _) rfl) <| Qn (⟨_, rfl, ⟨⟨rfl, rfl, rfl, rfl, (eBD (jof (ne_true_of_eq_false h58))), trivial⟩, (Lo.refl _)⟩⟩)
 rintro f61 w62 ⟨hat63, hk64⟩
 rw [← sets_of_at hat63]
 have hz65 := hk64.size
 have hB66 := (hB43.lo hk48).lo hk64
 refine W.cond_d rfl (fun h67 => ?_) (fun h67 => ?_)
 ·refine Ws (Wr (Q (aI rfl) <| Q (aB rfl) <| Qn (W.ret (ret2 rfl (v := .int .i64 _) (v' := .bool _) rfl rfl ?_))))
  refine ⟨eR (eT2 (eI ?_) (eB ?_)), hB66⟩ <;> (rw [rpl_no (by assumption)]; try rfl)
 ·have hq71 : ¬ ((!((newC n).2)) = true) := (not_or.1 h67).1
  have hq72 : ¬ ((!((recsN l).2)) = true) := (not_or.1 h67).2
  refine W.skip (Ws (Ws (Wr (Q (mL rfl) <| Q (r_len und67 rfl) <| Q (r_mv (v := .int .i64 0) rfl) <| Qn (W.block (W.loop (σ := Nat × Console × (Option Addr) × Nat × Nat × (Option Addr) × Nat × Nat) (fun g => [(6, .pointer (pA g28)), (8, .slice A49 n50 c51), (30, .slice A49 n50 c51), (31, .int .i64 (n50 : Int)), (32, .int .i64 (g.1 : Int))]) (fun g w' => (Lo w w') ∧ (Blk w' g28 37 [.slice g.2.2.1 g.2.2.2.1 g.2.2.2.2.1, .slice g.2.2.2.2.2.1 g.2.2.2.2.2.2.1 g.2.2.2.2.2.2.2, .int .i64 g.2.1.Library.Bought, .int .i64 g.2.1.Library.Dropped, .int .i64 g.2.1.Library.Mended, str g.2.1.Log.Durable, str g.2.1.Log.Pending, .int .i64 g.2.1.Log.Count]) ∧ (SlO w' w38.heap.size encLogRecord 2 71 A49 n50 c51 ((recsN l).1)) ∧ (SlR w' w'.heap.size encLMap 3 g.2.2.1 g.2.2.2.1 g.2.2.2.2.1 g.2.1.Library.Maps) ∧ (SlR w' w'.heap.size encAway 2 g.2.2.2.2.2.1 g.2.2.2.2.2.2.1 g.2.2.2.2.2.2.2 g.2.1.Library.Away) ∧ (g.1 ≤ (recsN l).1.length ∧ RTo (newC n).1 (recsN l).1 g.2.1 g.1)) (fun g => (recsN l).1.length - g.1) (0, (newC n).1, A11, n12, c13, A15, n16, c17) ?_ ?_ ?_))))))
  ·exact (At.r rfl)
  ·exact ⟨hB66, ((hb41.lo hk48).lo hk64), hO52.lo hk64, (((((hO14.lo hk31).kd hk39 (SlO.ne (g := g28) hO14)).lo hk48).lo hk64).rd), (((((hO18.lo hk31).kd hk39 (SlO.ne (g := g28) hO18)).lo hk48).lo hk64).rd), (by (try dsimp only); exact ⟨Nat.zero_le _, RTo.zero (new_sml n)⟩)⟩
  ·rintro ⟨k, o, A76, n76, c76, A77, n77, c77⟩ f78 w79 hP81
   obtain ⟨hB80, hm82, hm83, hO84, hO85, hi86⟩ : (Lo w w79) ∧ (Blk w79 g28 37 [.slice A76 n76 c76, .slice A77 n77 c77, .int .i64 o.Library.Bought, .int .i64 o.Library.Dropped, .int .i64 o.Library.Mended, str o.Log.Durable, str o.Log.Pending, .int .i64 o.Log.Count]) ∧ (SlO w79 w38.heap.size encLogRecord 2 71 A49 n50 c51 ((recsN l).1)) ∧ (SlR w79 w79.heap.size encLMap 3 A76 n76 c76 o.Library.Maps) ∧ (SlR w79 w79.heap.size encAway 2 A77 n77 c77 o.Library.Away) ∧ (k ≤ (recsN l).1.length ∧ RTo (newC n).1 (recsN l).1 o k) := hP81
   refine (?_ : W _ _ _ _ _ (act _ (sets f78 [(6, .pointer (pA g28)), (8, .slice A49 n50 c51), (30, .slice A49 n50 c51), (31, .int .i64 (n50 : Int)), (32, .int .i64 (k : Int))])) _)
   have hzw79 := hB80.size
   have hl87 := hm82.lt
   have hl88 := hO84.len
   have hl89 := hO84.bound
   have hl90 := hO85.len
   have hl91 := hO85.bound
   have hq92 : k ≤ (recsN l).1.length := hi86.1
   have hq93 : (recsN l).1.length ≤ 60 := recs_len l
   have hq94 : (o.Library.Maps.length ≤ 1048576 ∧ o.Library.Away.length ≤ 1048576) ∧ o.Log.Durable.length + o.Log.Pending.length ≤ 24360 + 406 * k := hi86.2.2
   refine Ws (Wr (Q (r_lt rfl rfl) <| Qn (Ws (W.cond_d rfl (fun h95 => ?_) (fun h95 => ?_)))))
   ·refine W.skip (Ws (W.block (Ws (Wr (Q (mI rfl) <| ?_)))))
    have hx97 := (hm83.rd).elem (i := k) (by omega)
    have hq98 := recs_cmd hx97
    refine Q (r_ixR tsl67 (hm83.rd) rfl rfl (by omega)) <| Q (r_lda (l := encLogRecord (gt ((recsN l).1) k)) agg71 rfl (fun _ _ hu => (hm83.rd).cell hx97 hu) ((hm83.rd).esz _)) <| SR.alloc (l := [str ([] : List UInt8), str ([] : List UInt8)]) tz71 rfl ?_
    intro g99 w100 hg101 hk102 hs103 hb104
    refine Q (aI rfl) <| Qw (o := 0) (vs := [str ((gt ((recsN l).1) k).Command), str ((gt ((recsN l).1) k).Reply)]) agg71.2 rfl rfl rfl rfl hb104 ler rfl ?_
    intro w108 hk109 hs110 hb111
    have hB113 := (hB80.lo hk102).new hk109
    refine Qn (Ws ?_)
    have hm114 := (hm82.lo hk102).kn hk109
    have hm117 := (hm83.lo hk102).kd hk109 (SlO.ne (g := g99) hm83)
    refine Wr (Q (lG agg37 rfl hm114 rfl) <| Q (fA fa71_0 rfl) <| Q (lB sca9 rfl hb111 rfl) <| SR.call ent12 (c_impl_ExecuteCommand w108 o ((hO84.lo hk102).kn hk109) ((hO85.lo hk102).kn hk109) ((gt ((recsN l).1) k).Command) (by omega) (by omega) (hE.lo hB113)) rfl ?_)
    rintro e w118 ⟨A120, n121, c122, A124, n125, c126, rfl, hO123, hO127, hd128, hk119⟩
    refine ⟨_, rfl, ?_⟩
    have hz129 := hk119.size
    have hl131 := hO123.len
    have hl132 := hO123.rd.bound
    have hl133 := hO127.len
    have hl134 := hO127.rd.bound
    refine Q (mT rfl) <| Q (xG rfl rfl) <| Q (xS rfl rfl) <| SR.alloc (l := [.slice none 0 0, .slice none 0 0, .int .i64 0, .int .i64 0, .int .i64 0, str ([] : List UInt8), str ([] : List UInt8), .int .i64 0]) tz37 rfl ?_
    intro g135 w136 hg137 hk138 hs139 hb140
    refine Qw (o := 0) (vs := [.slice A120 n121 c122, .slice A124 n125 c126, .int .i64 (((execN o ((gt ((recsN l).1) k).Command)).1).Library.Bought), .int .i64 (((execN o ((gt ((recsN l).1) k).Command)).1).Library.Dropped), .int .i64 (((execN o ((gt ((recsN l).1) k).Command)).1).Library.Mended), str (((execN o ((gt ((recsN l).1) k).Command)).1).Log.Durable), str (((execN o ((gt ((recsN l).1) k).Command)).1).Log.Pending), .int .i64 (((execN o ((gt ((recsN l).1) k).Command)).1).Log.Count)]) agg37.2 rfl rfl rfl rfl hb140 ler rfl ?_
    intro w146 hk147 hs148 hb149
    have hB151 := ((hB113.lo hk119).lo hk138).new hk147
    refine Q (aS rfl) <| Qn (Ws (Ws (Wr (Q (mS rfl) <| Q (fA fa71_1 rfl) <| Q (lB sca9 rfl (((hb111.lo hk119).lo hk138).kn hk147) rfl) <| Q (r_nes (s := (execN o ((gt ((recsN l).1) k).Command)).2) (r := (gt ((recsN l).1) k).Reply) rfl rfl) <| Qn (W.cond_n rfl (fun h159 => ?_) (fun h159 => ?_))))))
    ·refine Ws (Wr (Q (mI rfl) <| Q (aI rfl) <| Q (aB rfl) <| Qn (W.ret (ret2 rfl (v := .int .i64 _) (v' := .bool _) rfl rfl ?_))))
     refine ⟨eR (eT2 (eI ?_) (eB ?_)), hB151⟩ <;> (rw [rpl_stop (k := k) (rpl_ok (by assumption)) (And.right ‹_ ∧ RTo _ _ _ _›) ‹_[_]? = some _› (by assumption)]; try rfl)
    ·refine W.skip (Wr (Q (lG agg37 rfl hb149 rfl) <| Qw (o := 0) (vs := [.slice A120 n121 c122, .slice A124 n125 c126, .int .i64 (((execN o ((gt ((recsN l).1) k).Command)).1).Library.Bought), .int .i64 (((execN o ((gt ((recsN l).1) k).Command)).1).Library.Dropped), .int .i64 (((execN o ((gt ((recsN l).1) k).Command)).1).Library.Mended), str (((execN o ((gt ((recsN l).1) k).Command)).1).Log.Durable), str (((execN o ((gt ((recsN l).1) k).Command)).1).Log.Pending), .int .i64 (((execN o ((gt ((recsN l).1) k).Command)).1).Log.Count)]) agg37.2 rfl rfl rfl rfl (((hm114.lo hk119).lo hk138).kn hk147) ler rfl ?_))
     intro w160 hk161 hs162 hb163
     refine Qn (Wr (Q (r_add rfl rfl (by omega)) <| Q (mI rfl) <| Qn (⟨(k + 1, ((execN o ((gt ((recsN l).1) k).Command)).1), A120, n121, c122, A124, n125, c126), _, rfl, (At.r rfl), ⟨(hB151.new hk161), hb163, (((hm117.lo hk119).lo hk138).kd hk147 (SlO.ne (g := g135) (hm117.lo hk119))).kn hk161, ((((hO123.lo hk138).kd hk147 (SlO.ne (g := g135) hO123)).kn hk161).rd), ((((hO127.lo hk138).kd hk147 (SlO.ne (g := g135) hO127)).kn hk161).rd), ?_⟩, ?_⟩)))
     ·exact (by (try dsimp only); exact ⟨by omega, (And.right ‹_ ∧ RTo _ _ _ _›).next ‹_[_]? = some _› (by first | assumption | exact Classical.not_not.1 ‹_›)⟩)
     ·exact (by (try dsimp only); omega)
   ·refine W.exit (xin_here (Ws (Wr (Q (mL rfl) <| Q (r_len und67 rfl) <| Q (aI rfl) <| Q (aB rfl) <| Qn (W.ret (ret2 rfl (v := .int .i64 _) (v' := .bool _) rfl rfl ?_))))))
    refine ⟨eR (eT2 (eI ?_) (eB ?_)), hB80⟩ <;> (rw [rpl_all (k := k) (rpl_ok (by assumption)) (And.right ‹_ ∧ RTo _ _ _ _›) (by assumption) (by omega) (by omega)]; try rfl)
theorem c_spec_ReplayLog (w : World) (n : Int) (l : Log) (hp0 : (l.Durable.length : Int) + (l.Pending.length : Int) ≤ 4000000) : Calls Tryz.prog 24 #[.int .i64 n, .agg (List.toArray (encLog l))] w fun e w' => e = .returned (.tuple (List.toArray [.int .i64 ((rplN n l).1), .bool ((rplN n l).2)])) ∧ Lo w w' := by
 refine calls_W 55 Tryz.func24 rfl rfl rfl (Ws (Wr (SR.box (v := .agg (List.toArray _)) (l := [str l.Durable, str l.Pending, .int .i64 l.Count]) rfl rfl ?_)))
 intro g1 w2 hg3 hk4 hs5 hb6
 refine Q (aI rfl) <| Q (aB rfl) <| Qn (Ws (Wr (Q (mI rfl) <| SR.call ent27 (c_spec_NewConsole w2 n) rfl ?_)))
 rintro e w9 ⟨A11, n12, c13, A15, n16, c17, rfl, hO14, hO18, hd19, hk10⟩
 refine ⟨_, rfl, ?_⟩
 have hz20 := hk10.size
 have hl22 := hO14.len
 have hl23 := hO14.rd.bound
 have hq24 := new_lenM n
 have hl25 := hO18.len
 have hl26 := hO18.rd.bound
 have hq27 := new_lenA n
 refine Q (mT rfl) <| Q (xG rfl rfl) <| Q (xB rfl rfl) <| SR.alloc (l := [.slice none 0 0, .slice none 0 0, .int .i64 0, .int .i64 0, .int .i64 0, str ([] : List UInt8), str ([] : List UInt8), .int .i64 0]) tz37 rfl ?_
 intro g28 w29 hg30 hk31 hs32 hb33
 refine Qw (o := 0) (vs := [.slice A11 n12 c13, .slice A15 n16 c17, .int .i64 (((newC n).1).Library.Bought), .int .i64 (((newC n).1).Library.Dropped), .int .i64 (((newC n).1).Library.Mended), str (((newC n).1).Log.Durable), str (((newC n).1).Log.Pending), .int .i64 (((newC n).1).Log.Count)]) agg37.2 rfl rfl rfl rfl hb33 ler rfl ?_
 intro w38 hk39 hs40 hb41
 refine Q (aB rfl) <| Qn (Ws (Ws ?_))
 have hm44 := ((hb6.lo hk10).lo hk31).kn hk39
 refine W.regJS (fun f' w' => At f' [(3, .pointer (pA g1)), (4, .int .i64 0), (5, .bool false), (6, .pointer (pA g28)), (23, .bool (decide (((!((newC n).2)) = true) ∨ (¬ (LogOK l)))))] ∧ Lo w38 w') ?_ ?_
 ·refine Q (mB rfl) <| Q (r_not rfl) <| Q (mB rfl) <| SR.split (fun h47 => ?_) (fun h47 => ?_)
  ·have hq48 := bnot_t h47
   refine Qs rfl <| Qs rfl <| Qs rfl <| Q (r_pick true rfl (v := .bool true) rfl) <| Qn (⟨_, rfl, ⟨⟨rfl, rfl, rfl, rfl, (eDT ((jot h47).1 trivial)), trivial⟩, (Lo.refl _)⟩⟩)
  ·have hq49 := bnot_f h47
   refine Qg rfl (lG agg35 rfl hm44 rfl) <| SR.gcall rfl ent63 (c_spec_l33Log w38 l (by omega)) rfl ?_
   rintro e w50 ⟨rfl, hk51⟩
   refine ⟨_, rfl, ?_⟩
   have hz52 := hk51.size
   refine Qg rfl (r_not rfl) <| Q (r_pick false rfl (v := .bool _) rfl) <| Qn (⟨_, rfl, ⟨⟨rfl, rfl, rfl, rfl, (eND (jof (ne_true_of_eq_false h47))), trivial⟩, hk51⟩⟩)
 rintro f54 w55 ⟨hat56, hk57⟩
 rw [← sets_of_at hat56]
 have hz58 := hk57.size
 have hB59 := (((((Lo.refl w).lo hk4).lo hk10).lo hk31).new hk39).lo hk57
 refine W.cond_d rfl (fun h60 => ?_) (fun h60 => ?_)
 ·refine Ws (Wr (Q (aI rfl) <| Q (aB rfl) <| Qn (W.ret (ret2 rfl (v := .int .i64 _) (v' := .bool _) rfl rfl ?_))))
  refine ⟨eR (eT2 (eI ?_) (eB ?_)), hB59⟩ <;> (rw [rpl_noS (by assumption)]; try rfl)
 ·have hq61 : ¬ ((!((newC n).2)) = true) := (not_or.1 h60).1
  have hq62 : LogOK l := (Classical.not_not.1 (not_or.1 h60).2)
  have hq63 := log_rng hq62
  refine W.skip (Ws (Wr (Q (lG agg35 rfl (hm44.lo hk57) rfl) <| SR.call ent64 (c_spec_LogRecords w55 l (by omega)) rfl ?_)))
  rintro e w64 ⟨A66, n67, c68, rfl, hO69, hk65⟩
  refine ⟨_, rfl, ?_⟩
  have hz70 := hk65.size
  have hl72 := hO69.len
  have hl73 := hO69.rd.bound
  have hq74 := recs_len l
  refine Q (mT rfl) <| Q (xL rfl rfl) <| Q (xB rfl rfl) <| Q (aL rfl) <| Q (aB rfl) <| Qn (Ws (Wr (Q (r_as (v := str ([] : List UInt8)) rfl) <| Qn (Ws (Ws (Wr (Q (aI rfl) <| Qn (W.block (W.loop (σ := Nat × Console × (Option Addr) × Nat × Nat × (Option Addr) × Nat × Nat) (fun g => [(6, .pointer (pA g28)), (8, .slice A66 n67 c68), (11, .int .i64 (g.1 : Int))]) (fun g w' => (Lo w w') ∧ (Blk w' g28 37 [.slice g.2.2.1 g.2.2.2.1 g.2.2.2.2.1, .slice g.2.2.2.2.2.1 g.2.2.2.2.2.2.1 g.2.2.2.2.2.2.2, .int .i64 g.2.1.Library.Bought, .int .i64 g.2.1.Library.Dropped, .int .i64 g.2.1.Library.Mended, str g.2.1.Log.Durable, str g.2.1.Log.Pending, .int .i64 g.2.1.Log.Count]) ∧ (SlO w' w55.heap.size encLogRecord 2 71 A66 n67 c68 ((recsN l).1)) ∧ (SlR w' w'.heap.size encLMap 3 g.2.2.1 g.2.2.2.1 g.2.2.2.2.1 g.2.1.Library.Maps) ∧ (SlR w' w'.heap.size encAway 2 g.2.2.2.2.2.1 g.2.2.2.2.2.2.1 g.2.2.2.2.2.2.2 g.2.1.Library.Away) ∧ (g.1 ≤ (recsN l).1.length ∧ RTo (newC n).1 (recsN l).1 g.2.1 g.1)) (fun g => (recsN l).1.length - g.1) (0, (newC n).1, A11, n12, c13, A15, n16, c17) ?_ ?_ ?_)))))))))
  ·exact (At.r rfl)
  ·exact ⟨(hB59.lo hk65), ((hb41.lo hk57).lo hk65), hO69, (((((hO14.lo hk31).kd hk39 (SlO.ne (g := g28) hO14)).lo hk57).lo hk65).rd), (((((hO18.lo hk31).kd hk39 (SlO.ne (g := g28) hO18)).lo hk57).lo hk65).rd), (by (try dsimp only); exact ⟨Nat.zero_le _, RTo.zero (new_sml n)⟩)⟩
  ·rintro ⟨k, o, A78, n78, c78, A79, n79, c79⟩ f80 w81 hP83
   obtain ⟨hB82, hm84, hm85, hO86, hO87, hi88⟩ : (Lo w w81) ∧ (Blk w81 g28 37 [.slice A78 n78 c78, .slice A79 n79 c79, .int .i64 o.Library.Bought, .int .i64 o.Library.Dropped, .int .i64 o.Library.Mended, str o.Log.Durable, str o.Log.Pending, .int .i64 o.Log.Count]) ∧ (SlO w81 w55.heap.size encLogRecord 2 71 A66 n67 c68 ((recsN l).1)) ∧ (SlR w81 w81.heap.size encLMap 3 A78 n78 c78 o.Library.Maps) ∧ (SlR w81 w81.heap.size encAway 2 A79 n79 c79 o.Library.Away) ∧ (k ≤ (recsN l).1.length ∧ RTo (newC n).1 (recsN l).1 o k) := hP83
   refine (?_ : W _ _ _ _ _ (act _ (sets f80 [(6, .pointer (pA g28)), (8, .slice A66 n67 c68), (11, .int .i64 (k : Int))])) _)
   have hzw81 := hB82.size
   have hl89 := hm84.lt
   have hl90 := hO86.len
   have hl91 := hO86.bound
   have hl92 := hO87.len
   have hl93 := hO87.bound
   have hq94 : k ≤ (recsN l).1.length := hi88.1
   have hq95 : (recsN l).1.length ≤ 60 := recs_len l
   have hq96 : (o.Library.Maps.length ≤ 1048576 ∧ o.Library.Away.length ≤ 1048576) ∧ o.Log.Durable.length + o.Log.Pending.length ≤ 24360 + 406 * k := hi88.2.2
   refine Ws (Ws (Wr (Q (mI rfl) <| Q (mL rfl) <| Q (r_len und67 rfl) <| Q (r_lt rfl rfl) <| Qn (W.cond_d rfl (fun h97 => ?_) (fun h97 => ?_)))))
   ·refine W.skip (Ws (W.block (Ws (W.regA (Kp (fun b_ => b_ = g28) w81) (fun f' w' => ∃ (A146 : Option Addr) (n147 : Nat) (c148 : Nat) (A150 : Option Addr) (n151 : Nat) (c152 : Nat), At f' [(6, .pointer (pA g28)), (8, .slice A66 n67 c68), (10, str ((execN o ((gt ((recsN l).1) k).Command)).2)), (11, .int .i64 (k : Int))] ∧ (Kp (fun b_ => b_ = g28) w81 w') ∧ (SlO w' w81.heap.size encLMap 3 102 A146 n147 c148 (((execN o ((gt ((recsN l).1) k).Command)).1).Library.Maps)) ∧ (SlO w' w81.heap.size encAway 2 129 A150 n151 c152 (((execN o ((gt ((recsN l).1) k).Command)).1).Library.Away)) ∧ (Blk w' g28 37 [.slice A146 n147 c148, .slice A150 n151 c152, .int .i64 (((execN o ((gt ((recsN l).1) k).Command)).1).Library.Bought), .int .i64 (((execN o ((gt ((recsN l).1) k).Command)).1).Library.Dropped), .int .i64 (((execN o ((gt ((recsN l).1) k).Command)).1).Library.Mended), str (((execN o ((gt ((recsN l).1) k).Command)).1).Log.Durable), str (((execN o ((gt ((recsN l).1) k).Command)).1).Log.Pending), .int .i64 (((execN o ((gt ((recsN l).1) k).Command)).1).Log.Count)]) ∧ Dj A146 A66 ∧ Dj A146 A150 ∧ Dj A150 A66 ∧ (((recsN l).1)[k]? = some (gt ((recsN l).1) k)) ∧ ((1 ≤ ((gt ((recsN l).1) k).Command.length : Int) ∧ ((gt ((recsN l).1) k).Command.length : Int) ≤ 160) ∧ ((gt ((recsN l).1) k).Reply.length : Int) ≤ 200) ∧ (n147 = (((execN o ((gt ((recsN l).1) k).Command)).1).Library.Maps).length) ∧ ((n147 : Int) ≤ 9223372036854775807) ∧ (n151 = (((execN o ((gt ((recsN l).1) k).Command)).1).Library.Away).length) ∧ ((n151 : Int) ≤ 9223372036854775807)) mo ?_ ?_))))
    ·intro w181 hk182
     have hz183 := hk182.size
     refine Ak 1 rfl (kr hk182) (fun w' hw' => r_mv (v := .slice _ _ _) rfl) <| Ak 2 rfl (kr hk182) (fun w' hw' => r_mv (v := .int .i64 _) rfl) <| ?_
     have hx186 := ((hm85.lo hk182).rd).elem (i := k) (by omega)
     have hq187 := recs_cmd hx186
     refine Ak 3 rfl (kr hk182) (fun w' hw' => r_ixR tsl67 ((hm85.kn hw' (by omega)).rd) rfl rfl (by omega)) <| Ak 4 rfl (kr hk182) (fun w' hw' => fA fa71_0 rfl) <| Ak 5 rfl (kr hk182) (fun w' hw' => r_ld (v := str ((gt ((recsN l).1) k).Command)) sca9 rfl (((hm85.kn hw' (by omega)).rd).cell hx186 rfl)) <| Ab 0 rfl (Q (lG agg37 rfl (hm84.lo hk182) rfl) (Qn ⟨(Kp.refl w81).lo hk182, _, rfl, (Ab 6 rfl (SR.call ent10 (c_spec_ExecuteCommand w181 o (hO86.lo hk182) (hO87.lo hk182) ((gt ((recsN l).1) k).Command) (by omega) (by omega)) rfl ?_))⟩))
     rintro e w188 ⟨A190, n191, c192, A194, n195, c196, rfl, hO193, hO197, hd198, hk189⟩
     refine ⟨_, rfl, ?_⟩
     have hz199 := hk189.size
     have hS201 := ((Kp.refl w81 : Kp (fun b_ => b_ = g28) w81 w81).lo hk182).lo hk189
     have hl202 := hO193.len
     have hl203 := hO193.rd.bound
     have hl204 := hO197.len
     have hl205 := hO197.rd.bound
     refine Qn ⟨hS201, _, rfl, (Ak 7 rfl hS201 (fun w' hw' => r_mv (v := .tuple (List.toArray _)) rfl) <| Ak 8 rfl hS201 (fun w' hw' => r_ext (v := .agg (List.toArray _)) rfl rfl) <| Ak 9 rfl hS201 (fun w' hw' => r_ext (v := str _) rfl rfl) <| Ab 10 rfl (Qw (o := 0) (vs := [.slice A190 n191 c192, .slice A194 n195 c196, .int .i64 (((execN o ((gt ((recsN l).1) k).Command)).1).Library.Bought), .int .i64 (((execN o ((gt ((recsN l).1) k).Command)).1).Library.Dropped), .int .i64 (((execN o ((gt ((recsN l).1) k).Command)).1).Library.Mended), str (((execN o ((gt ((recsN l).1) k).Command)).1).Log.Durable), str (((execN o ((gt ((recsN l).1) k).Command)).1).Log.Pending), .int .i64 (((execN o ((gt ((recsN l).1) k).Command)).1).Log.Count)]) agg37.2 rfl rfl rfl rfl ((hm84.lo hk182).lo hk189) ler rfl ?_))⟩
     intro w206 hk207 hs208 hb209
     have hS212 := hS201.step hk207 (fun _ _ e => e)
     refine Qn ⟨hS212, _, rfl, (Ak 11 rfl hS212 (fun w' hw' => r_as (v := str _) rfl) <| AH.done (by kernel_rfl) (⟨A190, n191, c192, A194, n195, c196, (At.r rfl), hS212, ((hO193.kn hk207).down), ((hO197.kn hk207).down), hb209, (fun b_ h h' => by have h1 := (hO193.kn hk207).base_le h; have h2 := (hm85.lo hk182).base_le h'; omega), hd198, (fun b_ h h' => by have h1 := (hO197.kn hk207).base_le h; have h2 := (hm85.lo hk182).base_le h'; omega), hx186, hq187, hl202, hl203, hl204, hl205⟩))⟩
    rintro f216 w217 ⟨A146, n147, c148, A150, n151, c152, hat219, hR218, hm175, hm176, hm177, hd178, hd179, hd180, hx140, hq141, hl158, hl159, hl160, hl161⟩
    rw [← sets_of_at hat219]
    have hz220 := hR218.size
    have hB221 := hB82.new hR218 (by omega)
    refine Ws (Wr (Q (mS rfl) <| Q (mL rfl) <| Q (mI rfl) <| Q (r_ixR tsl67 ((hm85.kn hR218 (by omega)).rd) rfl rfl (by omega)) <| Q (fA fa71_1 rfl) <| Q (r_ld (v := str ((gt ((recsN l).1) k).Reply)) sca9 rfl (((hm85.kn hR218 (by omega)).rd).cell hx140 rfl)) <| Q (r_nes (s := (execN o ((gt ((recsN l).1) k).Command)).2) (r := (gt ((recsN l).1) k).Reply) rfl rfl) <| Qn (W.cond_n rfl (fun h222 => ?_) (fun h222 => ?_))))
    ·refine Ws (Wr (Q (mI rfl) <| Q (aI rfl) <| Q (aB rfl) <| Qn (W.ret (ret2 rfl (v := .int .i64 _) (v' := .bool _) rfl rfl ?_))))
     refine ⟨eR (eT2 (eI ?_) (eB ?_)), hB221⟩ <;> (rw [rpl_stop (k := k) (rpl_okS (by assumption)) (And.right ‹_ ∧ RTo _ _ _ _›) ‹_[_]? = some _› (by assumption)]; try rfl)
    ·refine W.skip (Wr (Q (mI rfl) <| Q (r_add rfl rfl (by omega)) <| Q (aI rfl) <| Qn (⟨(k + 1, ((execN o ((gt ((recsN l).1) k).Command)).1), A146, n147, c148, A150, n151, c152), _, rfl, (At.r rfl), ⟨hB221, hm177, hm85.kn hR218 (by omega), (hm175.rd), (hm176.rd), ?_⟩, ?_⟩)))
     ·exact (by (try dsimp only); exact ⟨by omega, (And.right ‹_ ∧ RTo _ _ _ _›).next ‹_[_]? = some _› (by first | assumption | exact Classical.not_not.1 ‹_›)⟩)
     ·exact (by (try dsimp only); omega)
   ·refine W.exit (xin_here (Ws (Wr (Q (mL rfl) <| Q (r_len und67 rfl) <| Q (aI rfl) <| Q (aB rfl) <| Qn (W.ret (ret2 rfl (v := .int .i64 _) (v' := .bool _) rfl rfl ?_))))))
    refine ⟨eR (eT2 (eI ?_) (eB ?_)), hB82⟩ <;> (rw [rpl_all (k := k) (rpl_okS (by assumption)) (And.right ‹_ ∧ RTo _ _ _ _›) (by assumption) (by omega) (by omega)]; try rfl)
end Go.Proofs.YtndcchndcghmoaaGreatDoor
