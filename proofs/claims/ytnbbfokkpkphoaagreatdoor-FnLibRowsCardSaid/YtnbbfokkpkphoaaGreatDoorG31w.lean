/- Walks, printed by a program of this claim's author. -/
import Derived.Test.YtnbbfokkpkphoaaGreatDoorChecked
import Derived.Test.YtnbbfokkpkphoaaGreatDoorLa
import Derived.Test.YtnbbfokkpkphoaaGreatDoorFo
import Derived.Test.YtnbbfokkpkphoaaGreatDoorFs
import Derived.Test.YtnbbfokkpkphoaaGreatDoorFq
import Derived.Test.YtnbbfokkpkphoaaGreatDoorFp
import Derived.Test.YtnbbfokkpkphoaaGreatDoorFu
import Derived.Test.YtnbbfokkpkphoaaGreatDoorFt
import Derived.Test.YtnbbfokkpkphoaaGreatDoorG31v
namespace Go.Proofs.YtnbbfokkpkphoaaGreatDoor
open Go Go.RowKit Fw
set_option maxRecDepth 10000
set_option linter.unusedVariables false
theorem ent33 : Ent Tryz.prog 33 := ent_of Tryz.func33 (by decide +kernel) rfl
theorem ent42 : Ent Tryz.prog 42 := ent_of Tryz.func42 (by decide +kernel) rfl
theorem ent7 : Ent Tryz.prog 7 := ent_of Tryz.func7 (by decide +kernel) rfl
theorem eqg25 : Tryz.prog.eqGuardType Tryz.prog.depth 25 = false := by kernel_rfl
theorem eql25 (a b : LibRow) (w : World) : (binOp .eql 25 (.agg (List.toArray (encLibRow a))) (.agg (List.toArray (encLibRow b)))).run Tryz.prog w = .ok (.bool (decide (a = b))) w := by
  have u3 := Tryz.underlying3
  have a3 := Tryz.isAgg3
  have z3 := Tryz.sizeOf3
  have hS : Tryz.prog.underlying 25 = some (.struct (Tryz.prog.fieldsOf 25)) := by kernel_rfl
  have hp : Tryz.prog.stoodInHeld 25 = false := by kernel_rfl
  have hd : (a = b) ↔ a.Month = b.Month ∧ a.Lent = b.Lent ∧ a.Copied = b.Copied ∧ a.Given = b.Given ∧ a.Fines = b.Fines := by cases a; cases b; simp
  simp only [encLibRow, hd]
  rw [run_eql_struct, show (10000 : Nat) = 9999 + 1 from rfl, run_equalIn_agg w 9999 25 _ _ hS hp]
  simp only [Program.fieldsOf, Tryz.underlying25]
  go_simp
  skip
  by_cases h0 : a.Month = b.Month <;> by_cases h1 : a.Lent = b.Lent <;> by_cases h2 : a.Copied = b.Copied <;> by_cases h3 : a.Given = b.Given <;> by_cases h4 : a.Fines = b.Fines <;> simp [h0, h1, h2, h3, h4]

theorem z_c_spec_DrawParseLib_39 (L : List UInt8) (nL : Nat) (hbdL : (nL : Int) ≤ 9223372036854775807) (hleL : nL = L.length) (hp0 : (nL : Int) ≤ 65536) (v11 : LibRow) (hq18 : (if RowOK v11 then lineT v11 else []).length ≤ 300) (v21 : Bool) (t22 : Int) (s23 : Int) (ht25 : 0 ≤ t22 ∧ t22 ≤ 0 + 2) (h28 : v21 = true) (v31 : List UInt8) (t32 : Int) (s33 : Int) (ht35 : t22 ≤ t32 ∧ t32 ≤ t22 + 6) (hq36 : v31.length ≤ (if RowOK v11 then lineT v11 else []).length + 1) : v31.length ≤ 400 := by
  omega
theorem z_c_spec_DrawParseLib_40 (L : List UInt8) (nL : Nat) (hbdL : (nL : Int) ≤ 9223372036854775807) (hleL : nL = L.length) (hp0 : (nL : Int) ≤ 65536) (v11 : LibRow) (hq18 : (if RowOK v11 then lineT v11 else []).length ≤ 300) (v21 : Bool) (t22 : Int) (s23 : Int) (ht25 : 0 ≤ t22 ∧ t22 ≤ 0 + 2) (h28 : v21 = false) : (if RowOK v11 then lineT v11 else []).length ≤ 400 := by
  omega
theorem c_spec_DrawParseLib (w : World) {AL : Option Addr} {nL cL BL : Nat}  (L : List UInt8) (hL : SlR w BL encB 1 AL nL cL L) (hp0 : (nL : Int) ≤ 65536) : Calls Tryz.prog 10 #[.slice AL nL cL] w fun e w' => ∃ (v : List UInt8), e = .returned (str v) ∧ (v.length ≤ 400) ∧ Lo w w' := by
  refine calls_W 21 Tryz.func10 rfl rfl rfl ?_
  have hbdL := hL.bound
  have hleL := hL.len
  have hBbL := hL.bd
  refine W.seq ?_
  refine W.regS (SR.q' (r_as (v := str ([] : List UInt8)) rfl) <| SR.nil ?_)
  refine W.seq ?_
  refine W.regS (SR.q' (r_mv (v := .slice _ _ _) rfl) <| SR.q' (r_build (vs := [(0, .slice AL nL cL)]) rfl (bld56_0 _ _ _)) <| SR.box (v := .agg (List.toArray _)) (l := [.slice AL nL cL, .int .i64 0, .int .u64 0]) rfl rfl ?_)
  intro g1 w2 hg3 hk4 hs5 hb6
  have hz7 := hk4.size
  have hB8 := (Lo.refl w).lo hk4
  refine SR.q' (r_as (v := .pointer (some _)) rfl) <| SR.nil ?_
  refine W.seq ?_
  refine W.regS (SR.q' (r_mv (v := .slice _ _ _) rfl) <| SR.call ent22 (c_spec_DrawIsLibRow w2 L (((hL).lo hk4)) (by omega)) rfl ?_)
  rintro e w9 ⟨v11, rfl, hk10⟩
  refine ⟨_, rfl, ?_⟩
  have hz12 := hk10.size
  have hB13 := hB8.lo hk10
  refine SR.call ent7 (c_spec_LibLine w9 v11) rfl ?_
  rintro e w14 ⟨rfl, hk15⟩
  refine ⟨_, rfl, ?_⟩
  have hz16 := hk15.size
  have hB17 := hB13.lo hk15
  have hq18 : (if RowOK v11 then lineT v11 else []).length ≤ 300 := lineif_len v11
  refine SR.q' (r_mv (v := .tuple (List.toArray _)) rfl) <| SR.q' (r_ext (v := str _) rfl rfl) <| SR.q' (r_ext (v := .bool _) rfl rfl) <| SR.q' (r_as (v := str _) rfl) <| SR.q' (r_as (v := .bool _) rfl) <| SR.nil ?_
  refine W.seq ?_
  refine W.seq ?_
  refine W.regS (SR.q' (r_mv (v := .pointer (some _)) rfl) <| SR.call ent32 (c___spec_l1Cur__one w14 L 0 0 (((hb6).lo hk10).lo hk15) (((((hL).lo hk4).lo hk10).lo hk15)) (by omega) (by omega) 3 (by first | omega | (simp only [List.length_append, List.length_cons, List.length_nil, List.length_take, List.length_drop]; omega))) rfl ?_)
  rintro e w19 ⟨v21, t22, s23, rfl, hb24, ht25, hk20⟩
  refine ⟨_, rfl, ?_⟩
  have hz26 := hk20.size
  have hB27 := hB17.new hk20 (by omega)
  refine SR.nil ?_
  refine W.cond_b rfl (fun h28 => ?_) (fun h28 => ?_)
  · refine W.regS (SR.q' (r_mv (v := .pointer (some _)) rfl) <| SR.q' (r_mv (v := str _) rfl) <| SR.call ent33 (c___spec_l1Cur__spoilt w19 L t22 s23 (hb24) ((((((hL).lo hk4).lo hk10).lo hk15).kn hk20 (by omega))) (by omega) (by omega) (if RowOK v11 then lineT v11 else []) ([48, 32, 46, 44, 58, 49, 110, 103] : List UInt8) (by first | omega | (simp only [List.length_append, List.length_cons, List.length_nil, List.length_take, List.length_drop]; omega)) (by first | omega | decide | (simp; done))) rfl ?_)
    rintro e w29 ⟨v31, t32, s33, rfl, hb34, ht35, hq36, hk30⟩
    refine ⟨_, rfl, ?_⟩
    have hz37 := hk30.size
    have hB38 := hB27.new hk30 (by omega)
    refine SR.q' (r_as (v := str _) rfl) <| SR.nil ?_
    refine W.seq ?_
    refine W.regS (SR.q' (r_mv (v := str _) rfl) <| SR.q' (r_as (v := str _) rfl) <| SR.nil ?_)
    refine W.ret ?_
    refine ret1 rfl (v := str _) rfl ?_
    exact ⟨v31, eR rfl, (z_c_spec_DrawParseLib_39 L nL hbdL hleL hp0 v11 hq18 v21 t22 s23 ht25 h28 v31 t32 s33 ht35 hq36), hB38⟩
  · refine W.skip ?_
    refine W.seq ?_
    refine W.regS (SR.q' (r_mv (v := str _) rfl) <| SR.q' (r_as (v := str _) rfl) <| SR.nil ?_)
    refine W.ret ?_
    refine ret1 rfl (v := str _) rfl ?_
    exact ⟨(if RowOK v11 then lineT v11 else []), eR rfl, (z_c_spec_DrawParseLib_40 L nL hbdL hleL hp0 v11 hq18 v21 t22 s23 ht25 h28), hB27⟩

theorem z_c_spec_DrawMergeRows_41 (L : List UInt8) (nL : Nat) (hbdL : (nL : Int) ≤ 9223372036854775807) (hleL : nL = L.length) (hp0 : (nL : Int) ≤ 65536) (v15 : List LibRow) (t16 : Int) (s17 : Int) (ht19 : 0 ≤ t16 ∧ t16 ≤ 0 + 160) (hq20 : v15.length ≤ 60) (n12 : Nat) (hl23 : n12 = (v15).length) (hl24 : (n12 : Int) ≤ 9223372036854775807) (v31 : List LibRow) (t32 : Int) (s33 : Int) (ht35 : t16 ≤ t32 ∧ t32 ≤ t16 + 160) (hq36 : v31.length ≤ 60) (n28 : Nat) (hl39 : n28 = (v31).length) (hl40 : (n28 : Int) ≤ 9223372036854775807) : v15.length ≤ 60 ∧ v31.length ≤ 60 := by
  omega
theorem c_spec_DrawMergeRows (w : World) {AL : Option Addr} {nL cL BL : Nat}  (L : List UInt8) (hL : SlR w BL encB 1 AL nL cL L) (hp0 : (nL : Int) ≤ 65536) : Calls Tryz.prog 12 #[.slice AL nL cL] w fun e w' => ∃ (A1' : Option Addr) (n1' c1' : Nat) (A2' : Option Addr) (n2' c2' : Nat) (a : List LibRow) (b : List LibRow), e = .returned (.tuple (List.toArray [.slice A1' n1' c1', .slice A2' n2' c2'])) ∧ SlO w' w.heap.size encLibRow 5 25 A1' n1' c1' a ∧ SlO w' w.heap.size encLibRow 5 25 A2' n2' c2' b ∧ (∀ b_, A1' = some ⟨b_, 0, none⟩ → ¬ A2' = some ⟨b_, 0, none⟩) ∧ (a.length ≤ 60 ∧ b.length ≤ 60) ∧ Lo w w' := by
  refine calls_W 12 Tryz.func12 rfl rfl rfl ?_
  have hbdL := hL.bound
  have hleL := hL.len
  have hBbL := hL.bd
  refine W.seq ?_
  refine W.regS (SR.q' (r_as (v := .slice none 0 0) rfl) <| SR.q' (r_as (v := .slice none 0 0) rfl) <| SR.nil ?_)
  refine W.seq ?_
  refine W.regS (SR.q' (r_mv (v := .slice _ _ _) rfl) <| SR.q' (r_build (vs := [(0, .slice AL nL cL)]) rfl (bld56_0 _ _ _)) <| SR.box (v := .agg (List.toArray _)) (l := [.slice AL nL cL, .int .i64 0, .int .u64 0]) rfl rfl ?_)
  intro g1 w2 hg3 hk4 hs5 hb6
  have hz7 := hk4.size
  have hB8 := (Lo.refl w).lo hk4
  refine SR.q' (r_as (v := .pointer (some _)) rfl) <| SR.nil ?_
  refine W.seq ?_
  refine W.regS (SR.q' (r_mv (v := .pointer (some _)) rfl) <| SR.call ent37 (c___spec_l1Cur__libRows w2 L 0 0 (hb6) (((hL).lo hk4)) (by omega) (by omega)) rfl ?_)
  rintro e w9 ⟨A11, n12, c13, v15, t16, s17, rfl, hO14, hb18, ht19, hq20, hk10⟩
  refine ⟨_, rfl, ?_⟩
  have hz21 := hk10.size
  have hB22 := hB8.new hk10 (by omega)
  have hl23 := hO14.len
  have hl24 := hO14.rd.bound
  refine SR.q' (r_mv (v := .pointer (some _)) rfl) <| SR.call ent37 (c___spec_l1Cur__libRows w9 L t16 s17 (hb18) ((((hL).lo hk4).kn hk10 (by omega))) (by omega) (by omega)) rfl ?_
  rintro e w25 ⟨A27, n28, c29, v31, t32, s33, rfl, hO30, hb34, ht35, hq36, hk26⟩
  refine ⟨_, rfl, ?_⟩
  have hz37 := hk26.size
  have hB38 := hB22.new hk26 (by omega)
  have hl39 := hO30.len
  have hl40 := hO30.rd.bound
  refine SR.q' (r_as (v := .slice _ _ _) rfl) <| SR.q' (r_as (v := .slice _ _ _) rfl) <| SR.nil ?_
  refine W.ret ?_
  refine ret2 rfl (v := .slice _ _ _) (v' := .slice _ _ _) rfl rfl ?_
  exact ⟨A11, n12, c13, A27, n28, c29, v15, v31, eR (eT2 rfl rfl), (((hO14).kn hk26 (by omega)).down (by omega)), ((hO30).down (by omega)), (fun b_ h h' => by have h1 := (hO14).base_le h; have h2 := (hO30).base_le h'; omega), (z_c_spec_DrawMergeRows_41 L nL hbdL hleL hp0 v15 t16 s17 ht19 hq20 n12 hl23 hl24 v31 t32 s33 ht35 hq36 n28 hl39 hl40), hB38⟩

theorem c_spec_DrawLibReport (w : World) {AL : Option Addr} {nL cL BL : Nat}  (L : List UInt8) (hL : SlR w BL encB 1 AL nL cL L) (hp0 : (nL : Int) ≤ 65536) : Calls Tryz.prog 17 #[.slice AL nL cL] w fun e w' => ∃ (A1' : Option Addr) (n1' c1' : Nat) (R : List LibRow), e = .returned (.slice A1' n1' c1') ∧ SlO w' w.heap.size encLibRow 5 25 A1' n1' c1' R ∧ (R.length ≤ 60) ∧ Lo w w' := by
  refine calls_W 5 Tryz.func17 rfl rfl rfl ?_
  have hbdL := hL.bound
  have hleL := hL.len
  have hBbL := hL.bd
  refine W.seq ?_
  refine W.regS (SR.q' (r_as (v := .slice none 0 0) rfl) <| SR.nil ?_)
  refine W.seq ?_
  refine W.regS (SR.q' (r_mv (v := .slice _ _ _) rfl) <| SR.call ent42 (c_spec_DrawAreLibRows w L ((hL)) (by omega)) rfl ?_)
  rintro e w1 ⟨A3, n4, c5, v7, rfl, hO6, hq8, hk2⟩
  refine ⟨_, rfl, ?_⟩
  have hz9 := hk2.size
  have hB10 := (Lo.refl w).lo hk2
  have hl11 := hO6.len
  have hl12 := hO6.rd.bound
  refine SR.q' (r_as (v := .slice _ _ _) rfl) <| SR.nil ?_
  refine W.ret ?_
  refine ret1 rfl (v := .slice _ _ _) rfl ?_
  exact ⟨A3, n4, c5, v7, eR rfl, ((hO6).down (by omega)), hq8, hB10⟩

theorem z_c_laws_rLib_2 (L : List LibRow) (nL : Nat) (hbdL : (nL : Int) ≤ 9223372036854775807) (hleL : nL = L.length) (M : List LibRow) (nM : Nat) (hbdM : (nM : Int) ≤ 9223372036854775807) (hleM : nM = M.length) (h1 : ¬ ((nL : Int) = (nM : Int))) : ¬ (L = M) := by
  first | (intro e; subst e; omega) | exact ne_at ‹L[_]? = some _› ‹M[_]? = some _› ‹_› | exact take_end (And.right ‹_ ∧ L.take _ = M.take _›) hleL hleM (by omega) ‹_›
theorem z_c_laws_rLib_3 (L : List LibRow) (nL : Nat) (hbdL : (nL : Int) ≤ 9223372036854775807) (hleL : nL = L.length) (M : List LibRow) (nM : Nat) (hbdM : (nM : Int) ≤ 9223372036854775807) (hleM : nM = M.length) (h1 : (nL : Int) = (nM : Int)) : 0 ≤ nL ∧ L.take 0 = M.take 0 := by
  simp
theorem z_c_laws_rLib_21 (L : List LibRow) (nL : Nat) (hbdL : (nL : Int) ≤ 9223372036854775807) (hleL : nL = L.length) (M : List LibRow) (nM : Nat) (hbdM : (nM : Int) ≤ 9223372036854775807) (hleM : nM = M.length) (h1 : (nL : Int) = (nM : Int)) (k : Nat) (hi10 : k ≤ nL ∧ L.take k = M.take k) (h11 : (k : Int) < (nL : Int)) (hx13 : L[k]? = some (gt L k)) (hx15 : M[k]? = some (gt M k)) (h20 : ¬ ((gt L k) = (gt M k))) : ¬ (L = M) := by
  first | (intro e; subst e; omega) | exact ne_at ‹L[_]? = some _› ‹M[_]? = some _› ‹_› | exact take_end (And.right ‹_ ∧ L.take _ = M.take _›) hleL hleM (by omega) ‹_›
theorem z_c_laws_rLib_22 (L : List LibRow) (nL : Nat) (hbdL : (nL : Int) ≤ 9223372036854775807) (hleL : nL = L.length) (M : List LibRow) (nM : Nat) (hbdM : (nM : Int) ≤ 9223372036854775807) (hleM : nM = M.length) (h1 : (nL : Int) = (nM : Int)) (k : Nat) (hi10 : k ≤ nL ∧ L.take k = M.take k) (h11 : (k : Int) < (nL : Int)) (hx13 : L[k]? = some (gt L k)) (hx15 : M[k]? = some (gt M k)) (h20 : (gt L k) = (gt M k)) : k + 1 ≤ nL ∧ L.take (k + 1) = M.take (k + 1) := by
  exact ⟨by omega, take_next (And.right ‹_ ∧ L.take _ = M.take _›) ‹L[_]? = some _› ‹M[_]? = some _› (by assumption)⟩
theorem z_c_laws_rLib_23 (L : List LibRow) (nL : Nat) (hbdL : (nL : Int) ≤ 9223372036854775807) (hleL : nL = L.length) (M : List LibRow) (nM : Nat) (hbdM : (nM : Int) ≤ 9223372036854775807) (hleM : nM = M.length) (h1 : (nL : Int) = (nM : Int)) (k : Nat) (hi10 : k ≤ nL ∧ L.take k = M.take k) (h11 : (k : Int) < (nL : Int)) (hx13 : L[k]? = some (gt L k)) (hx15 : M[k]? = some (gt M k)) (h20 : (gt L k) = (gt M k)) : nL - (k + 1) < nL - k := by
  omega
theorem z_c_laws_rLib_24 (L : List LibRow) (nL : Nat) (hbdL : (nL : Int) ≤ 9223372036854775807) (hleL : nL = L.length) (M : List LibRow) (nM : Nat) (hbdM : (nM : Int) ≤ 9223372036854775807) (hleM : nM = M.length) (h1 : (nL : Int) = (nM : Int)) (k : Nat) (hi10 : k ≤ nL ∧ L.take k = M.take k) (h11 : ¬ ((k : Int) < (nL : Int))) : L = M := by
  first | (intro e; subst e; omega) | exact ne_at ‹L[_]? = some _› ‹M[_]? = some _› ‹_› | exact take_end (And.right ‹_ ∧ L.take _ = M.take _›) hleL hleM (by omega) ‹_›
theorem c_laws_rLib (w : World) {AL : Option Addr} {nL cL BL : Nat}  (L : List LibRow) (hL : SlR w BL encLibRow 5 AL nL cL L) {AM : Option Addr} {nM cM BM : Nat}  (M : List LibRow) (hM : SlR w BM encLibRow 5 AM nM cM M) : Calls Tryz.prog 15 #[.slice AL nL cL, .slice AM nM cM] w fun e w' => e = .returned (.bool (decide (L = M))) ∧ Lo w w' := by
  refine calls_W 26 Tryz.func15 rfl rfl rfl ?_
  have hbdL := hL.bound
  have hleL := hL.len
  have hBbL := hL.bd
  have hbdM := hM.bound
  have hleM := hM.len
  have hBbM := hM.bd
  refine W.seq ?_
  refine W.regS (SR.q' (r_as (v := .bool false) rfl) <| SR.nil ?_)
  refine W.seq ?_
  refine W.seq ?_
  refine W.regS (SR.q' (r_mv (v := .slice _ _ _) rfl) <| SR.q' (r_len und33 rfl) <| SR.q' (r_mv (v := .slice _ _ _) rfl) <| SR.q' (r_len und33 rfl) <| SR.q' (r_ne rfl rfl) <| SR.nil ?_)
  refine W.cond_n rfl (fun h1 => ?_) (fun h1 => ?_)
  · refine W.seq ?_
    refine W.regS (SR.q' (r_as (v := .bool false) rfl) <| SR.nil ?_)
    refine W.ret ?_
    refine ret1 rfl (v := .bool _) rfl ?_
    exact ⟨eR (eDF (z_c_laws_rLib_2 L nL hbdL hleL M nM hbdM hleM h1)), (Lo.refl w)⟩
  · refine W.skip ?_
    refine W.seq ?_
    refine W.seq ?_
    refine W.regS (SR.q' (r_as (v := .int .i64 0) rfl) <| SR.nil ?_)
    refine W.block ?_
    refine W.loop (σ := Nat) (fun g => [(0, .slice AL nL cL), (1, .slice AM nM cM), (5, .int .i64 (g : Int))]) (fun g w' => (Lo w w') ∧ (SlR w' BL encLibRow 5 AL nL cL L) ∧ (SlR w' BM encLibRow 5 AM nM cM M) ∧ (g ≤ nL ∧ L.take g = M.take g)) (fun g => nL - g) 0 ?_ ?_ ?_
    · exact ⟨rfl, rfl, rfl, trivial⟩
    · exact ⟨(Lo.refl w), hL, hM, (z_c_laws_rLib_3 L nL hbdL hleL M nM hbdM hleM h1)⟩
    · rintro k f4 w5 hP7
      obtain ⟨hB6, hm8, hm9, hi10⟩ : (Lo w w5) ∧ (SlR w5 BL encLibRow 5 AL nL cL L) ∧ (SlR w5 BM encLibRow 5 AM nM cM M) ∧ (k ≤ nL ∧ L.take k = M.take k) := hP7
      refine (?_ : W _ _ _ _ _ (act _ (sets f4 [(0, .slice AL nL cL), (1, .slice AM nM cM), (5, .int .i64 (k : Int))])) _)
      have hzw5 := hB6.size
      refine W.seq ?_
      refine W.seq ?_
      refine W.regS (SR.q' (r_mv (v := .int .i64 _) rfl) <| SR.q' (r_mv (v := .slice _ _ _) rfl) <| SR.q' (r_len und33 rfl) <| SR.q' (r_lt rfl rfl) <| SR.nil ?_)
      refine W.cond_d rfl (fun h11 => ?_) (fun h11 => ?_)
      · refine W.skip ?_
        refine W.seq ?_
        refine W.block ?_
        refine W.seq ?_
        refine W.regD mo (by kernel_rfl) (QR.q' (fun w' hw' => r_mv (v := .slice _ _ _) rfl) <| QR.q' (fun w' hw' => r_mv (v := .int .i64 _) rfl) <| ?_)
        have hx13 := (hm8).elem (i := k) (by omega)
        refine QR.q' (fun w' hw' => r_ixR tsl33 (((hm8).lo hw')) rfl rfl (by omega)) <| QR.q' (fun w' hw' => r_lda (l := encLibRow (gt L k)) agg25 rfl (fun _ _ hu => (((hm8).lo hw')).cell hx13 hu) ((((hm8).lo hw')).esz _)) <| QR.q' (fun w' hw' => r_mv (v := .slice _ _ _) rfl) <| QR.q' (fun w' hw' => r_mv (v := .int .i64 _) rfl) <| ?_
        have hx15 := (hm9).elem (i := k) (by omega)
        refine QR.q' (fun w' hw' => r_ixR tsl33 (((hm9).lo hw')) rfl rfl (by omega)) <| QR.q' (fun w' hw' => r_lda (l := encLibRow (gt M k)) agg25 rfl (fun _ _ hu => (((hm9).lo hw')).cell hx15 hu) ((((hm9).lo hw')).esz _)) <| QR.q' (fun w' hw' => r_neA (l := encLibRow (gt L k)) (r := encLibRow (gt M k)) rfl rfl eqg25 (eql25 (gt L k) (gt M k))) <| QR.nil ?_
        intro w16 hk17
        have hz18 := hk17.size
        have hB19 := hB6.lo hk17
        refine W.cond_n rfl (fun h20 => ?_) (fun h20 => ?_)
        · refine W.seq ?_
          refine W.regS (SR.q' (r_as (v := .bool false) rfl) <| SR.nil ?_)
          refine W.ret ?_
          refine ret1 rfl (v := .bool _) rfl ?_
          exact ⟨eR (eDF (z_c_laws_rLib_21 L nL hbdL hleL M nM hbdM hleM h1 k hi10 h11 hx13 hx15 h20)), hB19⟩
        · refine W.skip ?_
          refine W.regS (SR.q' (r_mv (v := .int .i64 _) rfl) <| SR.q' (r_add rfl rfl (by omega)) <| SR.q' (r_as (v := .int .i64 _) rfl) <| SR.nil ?_)
          refine ⟨k + 1, _, rfl, ⟨rfl, rfl, rfl, trivial⟩, ⟨hB19, (hm8).lo hk17, (hm9).lo hk17, ?_⟩, ?_⟩
          · exact (z_c_laws_rLib_22 L nL hbdL hleL M nM hbdM hleM h1 k hi10 h11 hx13 hx15 h20)
          · exact (z_c_laws_rLib_23 L nL hbdL hleL M nM hbdM hleM h1 k hi10 h11 hx13 hx15 h20)
      · refine W.exit (xin_here ?_)
        refine W.seq ?_
        refine W.regS (SR.q' (r_as (v := .bool true) rfl) <| SR.nil ?_)
        refine W.ret ?_
        refine ret1 rfl (v := .bool _) rfl ?_
        exact ⟨eR (eDT (z_c_laws_rLib_24 L nL hbdL hleL M nM hbdM hleM h1 k hi10 h11)), hB6⟩
end Go.Proofs.YtnbbfokkpkphoaaGreatDoor
