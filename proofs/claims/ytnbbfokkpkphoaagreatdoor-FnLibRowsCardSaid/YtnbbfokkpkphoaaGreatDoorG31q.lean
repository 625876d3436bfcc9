/- Walks, printed by a program of this claim's author. -/
import Derived.Test.YtnbbfokkpkphoaaGreatDoorChecked
import Derived.Test.YtnbbfokkpkphoaaGreatDoorLa
import Derived.Test.YtnbbfokkpkphoaaGreatDoorFo
import Derived.Test.YtnbbfokkpkphoaaGreatDoorFs
import Derived.Test.YtnbbfokkpkphoaaGreatDoorFq
import Derived.Test.YtnbbfokkpkphoaaGreatDoorFp
import Derived.Test.YtnbbfokkpkphoaaGreatDoorFu
import Derived.Test.YtnbbfokkpkphoaaGreatDoorFt
import Derived.Test.YtnbbfokkpkphoaaGreatDoorVd
import Derived.Test.YtnbbfokkpkphoaaGreatDoorVc
import Derived.Test.YtnbbfokkpkphoaaGreatDoorSi
import Derived.Test.YtnbbfokkpkphoaaGreatDoorG31p
namespace Go.Proofs.YtnbbfokkpkphoaaGreatDoor
open Go Go.RowKit Fw
set_option maxRecDepth 10000
set_option linter.unusedVariables false
theorem ent27 : Ent Tryz.prog 27 := ent_of Tryz.func27 (by decide +kernel) rfl
theorem ent29 : Ent Tryz.prog 29 := ent_of Tryz.func29 (by decide +kernel) rfl
theorem ent34 : Ent Tryz.prog 34 := ent_of Tryz.func34 (by decide +kernel) rfl
theorem ent35 : Ent Tryz.prog 35 := ent_of Tryz.func35 (by decide +kernel) rfl
theorem ent52 : Ent Tryz.prog 52 := ent_of Tryz.func52 (by decide +kernel) rfl
theorem ent60 : Ent Tryz.prog 60 := ent_of Tryz.func60 (by decide +kernel) rfl
theorem sca9 : TSca Tryz.prog 9 := ⟨fun _ => by kernel_rfl, fun _ => by kernel_rfl⟩
theorem tsl51 : TSl Tryz.prog 51 9 1 := ⟨by kernel_rfl, fun _ => by kernel_rfl⟩
theorem und3 : Tryz.prog.underlying 3 = some (.int .i64) := by kernel_rfl
theorem und5 : Tryz.prog.underlying 5 = some (.int .u8) := by kernel_rfl
theorem und51 : Tryz.prog.underlying 51 = some (.slice 9) := by kernel_rfl

theorem z_c_impl_ParseInt_28 (s : List UInt8) (hp0 : (s.length : Int) ≤ 281474976710656) (v3 : Int) (v4 : Value) (hq5 : AtIs s v3) (hq6 : ErrIs v4 (atB s = true)) (hq7 : -9223372036854775808 ≤ v3 ∧ v3 ≤ 9223372036854775807) (h27 : (¬ (atB s = true)) ∨ ((¬ ((-999999) ≤ v3 ∧ v3 ≤ 999999)) ∨ (¬ ((Lib.itoa v3) = s)))) : 0 = (readN s).1 := by
  first | (rw [par_not ‹AtIs _ _› ‹_ ∨ _›]; done) | (rw [par_ok ‹AtIs _ _› ‹¬ (_ ∨ _)›]; done)
theorem z_c_impl_ParseInt_29 (s : List UInt8) (hp0 : (s.length : Int) ≤ 281474976710656) (v3 : Int) (v4 : Value) (hq5 : AtIs s v3) (hq6 : ErrIs v4 (atB s = true)) (hq7 : -9223372036854775808 ≤ v3 ∧ v3 ≤ 9223372036854775807) (h27 : (¬ (atB s = true)) ∨ ((¬ ((-999999) ≤ v3 ∧ v3 ≤ 999999)) ∨ (¬ ((Lib.itoa v3) = s)))) : false = (readN s).2 := by
  first | (rw [par_not ‹AtIs _ _› ‹_ ∨ _›]; done) | (rw [par_ok ‹AtIs _ _› ‹¬ (_ ∨ _)›]; done)
theorem z_c_impl_ParseInt_33 (s : List UInt8) (hp0 : (s.length : Int) ≤ 281474976710656) (v3 : Int) (v4 : Value) (hq5 : AtIs s v3) (hq6 : ErrIs v4 (atB s = true)) (hq7 : -9223372036854775808 ≤ v3 ∧ v3 ≤ 9223372036854775807) (h27 : ¬ ((¬ (atB s = true)) ∨ ((¬ ((-999999) ≤ v3 ∧ v3 ≤ 999999)) ∨ (¬ ((Lib.itoa v3) = s))))) (hq30 : atB s = true) (hq31 : (-999999) ≤ v3 ∧ v3 ≤ 999999) (hq32 : (Lib.itoa v3) = s) : v3 = (readN s).1 := by
  first | (rw [par_not ‹AtIs _ _› ‹_ ∨ _›]; done) | (rw [par_ok ‹AtIs _ _› ‹¬ (_ ∨ _)›]; done)
theorem z_c_impl_ParseInt_34 (s : List UInt8) (hp0 : (s.length : Int) ≤ 281474976710656) (v3 : Int) (v4 : Value) (hq5 : AtIs s v3) (hq6 : ErrIs v4 (atB s = true)) (hq7 : -9223372036854775808 ≤ v3 ∧ v3 ≤ 9223372036854775807) (h27 : ¬ ((¬ (atB s = true)) ∨ ((¬ ((-999999) ≤ v3 ∧ v3 ≤ 999999)) ∨ (¬ ((Lib.itoa v3) = s))))) (hq30 : atB s = true) (hq31 : (-999999) ≤ v3 ∧ v3 ≤ 999999) (hq32 : (Lib.itoa v3) = s) : true = (readN s).2 := by
  first | (rw [par_not ‹AtIs _ _› ‹_ ∨ _›]; done) | (rw [par_ok ‹AtIs _ _› ‹¬ (_ ∨ _)›]; done)
theorem c_impl_ParseInt (w : World) (s : List UInt8) (hp0 : (s.length : Int) ≤ 281474976710656) (hE : EnvW w) : Calls Tryz.prog 52 #[str s] w fun e w' => e = .returned (.tuple (List.toArray [.int .i64 ((readN s).1), .bool ((readN s).2)])) ∧ Lo w w' := by
  refine calls_W 25 Tryz.func52 rfl rfl rfl ?_
  refine W.seq ?_
  refine W.regS (SR.q' (r_as (v := .int .i64 0) rfl) <| SR.q' (r_as (v := .bool false) rfl) <| SR.nil ?_)
  refine W.seq ?_
  refine W.regS (SR.q' (r_mv (v := str _) rfl) <| SR.call ent60 (c_strconv_Atoi w s (by omega) (hE.lo ((Lo.refl w)))) rfl ?_)
  rintro e w1 ⟨v3, v4, rfl, hq5, hq6, hk2⟩
  refine ⟨_, rfl, ?_⟩
  have hq7 := And.left hq5
  have hz8 := hk2.size
  have hB9 := (Lo.refl w).lo hk2
  refine SR.q' (r_mv (v := .tuple (List.toArray _)) rfl) <| SR.q' (r_ext (v := .int .i64 _) rfl rfl) <| SR.q' (r_ext (v := _) rfl rfl) <| SR.q' (r_as (v := .int .i64 _) rfl) <| SR.q' (r_as (v := _) rfl) <| SR.nil ?_
  refine W.seq ?_
  refine W.seq ?_
  refine W.regJS (fun f' w' => At f' [(2, .int .i64 0), (3, .bool false), (4, .int .i64 v3), (23, .bool (decide ((¬ (atB s = true)) ∨ ((¬ ((-999999) ≤ v3 ∧ v3 ≤ 999999)) ∨ (¬ ((Lib.itoa v3) = s))))))] ∧ Lo w1 w') ?_ ?_
  · refine SR.q' (r_mv (v := _) rfl) <| SR.q' (r_neqErr (p := atB s = true) (by kernel_rfl) rfl ‹ErrIs v4 _›) <| SR.q' (r_mv (v := .bool _) rfl) <| SR.splitN (fun h10 => ?_) (fun h10 => ?_)
    · refine SR.s' rfl <| SR.s' rfl <| SR.s' rfl <| SR.q' (r_pick true rfl (v := .bool true) rfl) <| SR.q' (r_mv (v := .bool _) rfl) <| SR.s' rfl <| SR.s' rfl <| SR.s' rfl <| SR.s' rfl <| SR.q' (r_pick true rfl (v := .bool true) rfl) <| SR.nil ?_
      exact ⟨_, rfl, ⟨⟨rfl, rfl, rfl, (eDT ((jmf h10).1 trivial)), trivial⟩, (Lo.refl _)⟩⟩
    · refine SR.g' rfl (r_mv (v := .int .i64 _) rfl) <| SR.gcall rfl ent26 (c_impl_within w1 v3 (-999999) 999999) rfl ?_
      rintro e w11 ⟨rfl, hk12⟩
      refine ⟨_, rfl, ?_⟩
      have hz13 := hk12.size
      have hB14 := hB9.lo hk12
      refine SR.g' rfl (r_not rfl) <| SR.q' (r_pick false rfl (v := .bool _) rfl) <| SR.q' (r_mv (v := .bool _) rfl) <| SR.splitN (fun h15 => ?_) (fun h15 => ?_)
      · refine SR.s' rfl <| SR.s' rfl <| SR.s' rfl <| SR.s' rfl <| SR.q' (r_pick true rfl (v := .bool true) rfl) <| SR.nil ?_
        exact ⟨_, rfl, ⟨⟨rfl, rfl, rfl, (eDT (((jmf h15).trans (jmt h10)).1 trivial)), trivial⟩, (hk12)⟩⟩
      · refine SR.g' rfl (r_mv (v := .int .i64 _) rfl) <| SR.gcall rfl ent43 (c_impl_text w11 v3 (by omega) (hE.lo (hB14))) rfl ?_
        rintro e w16 ⟨rfl, hk17⟩
        refine ⟨_, rfl, ?_⟩
        have hz18 := hk17.size
        have hB19 := hB14.lo hk17
        have hq20 : (Lib.itoa v3).length ≤ 21 := itoa_len (n := v3) (by omega) (by omega)
        refine SR.g' rfl (r_mv (v := str _) rfl) <| SR.g' rfl (r_nes (s := Lib.itoa v3) (r := s) rfl rfl) <| SR.q' (r_pick false rfl (v := .bool _) rfl) <| SR.nil ?_
        exact ⟨_, rfl, ⟨⟨rfl, rfl, rfl, (eND ((jmt h15).trans (jmt h10))), trivial⟩, ((hk12).trans hk17)⟩⟩
  rintro f21 w22 ⟨hat23, hk24⟩
  rw [← sets_of_at hat23]
  have hz25 := hk24.size
  have hB26 := hB9.lo hk24
  refine W.cond_d rfl (fun h27 => ?_) (fun h27 => ?_)
  · refine W.seq ?_
    refine W.regS (SR.q' (r_as (v := .int .i64 0) rfl) <| SR.q' (r_as (v := .bool false) rfl) <| SR.nil ?_)
    refine W.ret ?_
    refine ret2 rfl (v := .int .i64 _) (v' := .bool _) rfl rfl ?_
    exact ⟨eR (eT2 (eI (z_c_impl_ParseInt_28 s hp0 v3 v4 hq5 hq6 hq7 h27)) (eB (z_c_impl_ParseInt_29 s hp0 v3 v4 hq5 hq6 hq7 h27))), hB26⟩
  · have hq30 : atB s = true := (Classical.not_not.1 (not_or.1 h27).1)
    have hq31 : (-999999) ≤ v3 ∧ v3 ≤ 999999 := (Classical.not_not.1 (not_or.1 (not_or.1 h27).2).1)
    have hq32 : (Lib.itoa v3) = s := (Classical.not_not.1 (not_or.1 (not_or.1 h27).2).2)
    refine W.skip ?_
    refine W.seq ?_
    refine W.regS (SR.q' (r_mv (v := .int .i64 _) rfl) <| SR.q' (r_as (v := .int .i64 _) rfl) <| SR.q' (r_as (v := .bool true) rfl) <| SR.nil ?_)
    refine W.ret ?_
    refine ret2 rfl (v := .int .i64 _) (v' := .bool _) rfl rfl ?_
    exact ⟨eR (eT2 (eI (z_c_impl_ParseInt_33 s hp0 v3 v4 hq5 hq6 hq7 h27 hq30 hq31 hq32)) (eB (z_c_impl_ParseInt_34 s hp0 v3 v4 hq5 hq6 hq7 h27 hq30 hq31 hq32))), hB26⟩

theorem z_c_impl_number_7 (s : List UInt8) (hp0 : (s.length : Int) ≤ 281474976710656) (hq5 : -999999 ≤ (readN s).1 ∧ (readN s).1 ≤ 999999) (h6 : (!((readN s).2)) = true) : (-1000000) = numN s := by
  first | exact numN_no' ‹_› | exact numN_yes' ‹_›
theorem z_c_impl_number_8 (s : List UInt8) (hp0 : (s.length : Int) ≤ 281474976710656) (hq5 : -999999 ≤ (readN s).1 ∧ (readN s).1 ≤ 999999) (h6 : (!((readN s).2)) = false) : (readN s).1 = numN s := by
  first | exact numN_no' ‹_› | exact numN_yes' ‹_›
theorem c_impl_number (w : World) (s : List UInt8) (hp0 : (s.length : Int) ≤ 281474976710656) (hE : EnvW w) : Calls Tryz.prog 29 #[str s] w fun e w' => e = .returned (.int .i64 (numN s)) ∧ Lo w w' := by
  refine calls_W 13 Tryz.func29 rfl rfl rfl ?_
  refine W.seq ?_
  refine W.regS (SR.q' (r_as (v := .int .i64 0) rfl) <| SR.nil ?_)
  refine W.seq ?_
  refine W.regS (SR.q' (r_mv (v := str _) rfl) <| SR.call ent52 (c_impl_ParseInt w s (by omega) (hE.lo ((Lo.refl w)))) rfl ?_)
  rintro e w1 ⟨rfl, hk2⟩
  refine ⟨_, rfl, ?_⟩
  have hz3 := hk2.size
  have hB4 := (Lo.refl w).lo hk2
  have hq5 : -999999 ≤ (readN s).1 ∧ (readN s).1 ≤ 999999 := readN_rng s
  refine SR.q' (r_mv (v := .tuple (List.toArray _)) rfl) <| SR.q' (r_ext (v := .int .i64 _) rfl rfl) <| SR.q' (r_ext (v := .bool _) rfl rfl) <| SR.q' (r_as (v := .int .i64 _) rfl) <| SR.q' (r_as (v := .bool _) rfl) <| SR.nil ?_
  refine W.seq ?_
  refine W.seq ?_
  refine W.regS (SR.q' (r_mv (v := .bool _) rfl) <| SR.q' (r_not rfl) <| SR.nil ?_)
  refine W.cond_b rfl (fun h6 => ?_) (fun h6 => ?_)
  · refine W.seq ?_
    refine W.regS (SR.q' (r_as (v := .int .i64 (-1000000)) rfl) <| SR.nil ?_)
    refine W.ret ?_
    refine ret1 rfl (v := .int .i64 _) rfl ?_
    exact ⟨eR (eI (z_c_impl_number_7 s hp0 hq5 h6)), hB4⟩
  · refine W.skip ?_
    refine W.seq ?_
    refine W.regS (SR.q' (r_mv (v := .int .i64 _) rfl) <| SR.q' (r_as (v := .int .i64 _) rfl) <| SR.nil ?_)
    refine W.ret ?_
    refine ret1 rfl (v := .int .i64 _) rfl ?_
    exact ⟨eR (eI (z_c_impl_number_8 s hp0 hq5 h6)), hB4⟩

theorem z_c_spec_l1Read_17 (s : List UInt8) (h9 : (1 < (s.length : Int)) ∧ (((gt s 0).toNat : Int) = 45)) (hq10 : 1 < (s.length : Int)) (hq11 : ((gt s 0).toNat : Int) = 45) (h16 : ¬ (1 ≤ ((s.drop 1).length : Int) ∧ ((s.drop 1).length : Int) ≤ 6)) : 0 = (readN s).1 := by
  first | (rw [read_len (by first | exact strip_yes ‹_› | exact strip_no ‹_›) ‹_›]; done) | (have hh := ‹_ = stripS s ∧ _›; first | (rw [read_dig hh.1 (k := k) (by omega) ‹_›]; done) | (rw [read_neg hh.1 (k := k) (by omega) ‹_› ‹_›]; done) | (rw [read_pos hh.1 (k := k) (by omega) ‹_› ‹_›]; done) | (rw [read_ok ‹Lib.itoa _ = s› (by omega)]; done))
theorem z_c_spec_l1Read_18 (s : List UInt8) (h9 : (1 < (s.length : Int)) ∧ (((gt s 0).toNat : Int) = 45)) (hq10 : 1 < (s.length : Int)) (hq11 : ((gt s 0).toNat : Int) = 45) (h16 : ¬ (1 ≤ ((s.drop 1).length : Int) ∧ ((s.drop 1).length : Int) ≤ 6)) : false = (readN s).2 := by
  first | (rw [read_len (by first | exact strip_yes ‹_› | exact strip_no ‹_›) ‹_›]; done) | (have hh := ‹_ = stripS s ∧ _›; first | (rw [read_dig hh.1 (k := k) (by omega) ‹_›]; done) | (rw [read_neg hh.1 (k := k) (by omega) ‹_› ‹_›]; done) | (rw [read_pos hh.1 (k := k) (by omega) ‹_› ‹_›]; done) | (rw [read_ok ‹Lib.itoa _ = s› (by omega)]; done))
theorem z_c_spec_l1Read_19 (s : List UInt8) (h9 : (1 < (s.length : Int)) ∧ (((gt s 0).toNat : Int) = 45)) (hq10 : 1 < (s.length : Int)) (hq11 : ((gt s 0).toNat : Int) = 45) (h16 : 1 ≤ ((s.drop 1).length : Int) ∧ ((s.drop 1).length : Int) ≤ 6) : (s.drop 1) = stripS s ∧ (0 ≤ (s.drop 1).length ∧ (s.drop 1).length ≤ 6) ∧ ∀ j, j < 0 → 48 ≤ (gt (s.drop 1) j).toNat ∧ (gt (s.drop 1) j).toNat ≤ 57 := by
  exact ⟨by first | exact strip_yes ‹_› | exact strip_no ‹_›, by omega, fun _ h => absurd h (by omega)⟩
theorem z_c_spec_l1Read_38 (s : List UInt8) (h9 : (1 < (s.length : Int)) ∧ (((gt s 0).toNat : Int) = 45)) (hq10 : 1 < (s.length : Int)) (hq11 : ((gt s 0).toNat : Int) = 45) (h16 : 1 ≤ ((s.drop 1).length : Int) ∧ ((s.drop 1).length : Int) ≤ 6) (T : List UInt8) (k : Nat) (hi24 : T = stripS s ∧ (k ≤ T.length ∧ T.length ≤ 6) ∧ ∀ j, j < k → 48 ≤ (gt T j).toNat ∧ (gt T j).toNat ≤ 57) (hq25 : k ≤ T.length ∧ T.length ≤ 6) (hq26 : 0 ≤ decV (T.take k) ∧ decV (T.take k) ≤ 999999) (h27 : (k : Int) < (T.length : Int)) (hq34 : ((gt T k).toNat : Int) ≤ 255) (h37 : (((gt T k).toNat : Int) < 48) ∨ (57 < ((gt T k).toNat : Int))) : 0 = (readN s).1 := by
  first | (rw [read_len (by first | exact strip_yes ‹_› | exact strip_no ‹_›) ‹_›]; done) | (have hh := ‹_ = stripS s ∧ _›; first | (rw [read_dig hh.1 (k := k) (by omega) ‹_›]; done) | (rw [read_neg hh.1 (k := k) (by omega) ‹_› ‹_›]; done) | (rw [read_pos hh.1 (k := k) (by omega) ‹_› ‹_›]; done) | (rw [read_ok ‹Lib.itoa _ = s› (by omega)]; done))
theorem z_c_spec_l1Read_39 (s : List UInt8) (h9 : (1 < (s.length : Int)) ∧ (((gt s 0).toNat : Int) = 45)) (hq10 : 1 < (s.length : Int)) (hq11 : ((gt s 0).toNat : Int) = 45) (h16 : 1 ≤ ((s.drop 1).length : Int) ∧ ((s.drop 1).length : Int) ≤ 6) (T : List UInt8) (k : Nat) (hi24 : T = stripS s ∧ (k ≤ T.length ∧ T.length ≤ 6) ∧ ∀ j, j < k → 48 ≤ (gt T j).toNat ∧ (gt T j).toNat ≤ 57) (hq25 : k ≤ T.length ∧ T.length ≤ 6) (hq26 : 0 ≤ decV (T.take k) ∧ decV (T.take k) ≤ 999999) (h27 : (k : Int) < (T.length : Int)) (hq34 : ((gt T k).toNat : Int) ≤ 255) (h37 : (((gt T k).toNat : Int) < 48) ∨ (57 < ((gt T k).toNat : Int))) : false = (readN s).2 := by
  first | (rw [read_len (by first | exact strip_yes ‹_› | exact strip_no ‹_›) ‹_›]; done) | (have hh := ‹_ = stripS s ∧ _›; first | (rw [read_dig hh.1 (k := k) (by omega) ‹_›]; done) | (rw [read_neg hh.1 (k := k) (by omega) ‹_› ‹_›]; done) | (rw [read_pos hh.1 (k := k) (by omega) ‹_› ‹_›]; done) | (rw [read_ok ‹Lib.itoa _ = s› (by omega)]; done))
theorem z_c_spec_l1Read_43 (s : List UInt8) (h9 : (1 < (s.length : Int)) ∧ (((gt s 0).toNat : Int) = 45)) (hq10 : 1 < (s.length : Int)) (hq11 : ((gt s 0).toNat : Int) = 45) (h16 : 1 ≤ ((s.drop 1).length : Int) ∧ ((s.drop 1).length : Int) ≤ 6) (T : List UInt8) (k : Nat) (hi24 : T = stripS s ∧ (k ≤ T.length ∧ T.length ≤ 6) ∧ ∀ j, j < k → 48 ≤ (gt T j).toNat ∧ (gt T j).toNat ≤ 57) (hq25 : k ≤ T.length ∧ T.length ≤ 6) (hq26 : 0 ≤ decV (T.take k) ∧ decV (T.take k) ≤ 999999) (h27 : (k : Int) < (T.length : Int)) (hq34 : ((gt T k).toNat : Int) ≤ 255) (h37 : ¬ ((((gt T k).toNat : Int) < 48) ∨ (57 < ((gt T k).toNat : Int)))) (hq40 : ¬ (((gt T k).toNat : Int) < 48)) (hq41 : ¬ (57 < ((gt T k).toNat : Int))) (hq42 : ((gt T k).toNat : Int) ≤ 255) : T = stripS s ∧ (k + 1 ≤ T.length ∧ T.length ≤ 6) ∧ ∀ j, j < (k + 1) → 48 ≤ (gt T j).toNat ∧ (gt T j).toNat ≤ 57 := by
  have hh := ‹_ = stripS s ∧ _›
  exact ⟨hh.1, by omega, dig_next hh.2.2 ‹_›⟩
theorem z_c_spec_l1Read_44 (s : List UInt8) (h9 : (1 < (s.length : Int)) ∧ (((gt s 0).toNat : Int) = 45)) (hq10 : 1 < (s.length : Int)) (hq11 : ((gt s 0).toNat : Int) = 45) (h16 : 1 ≤ ((s.drop 1).length : Int) ∧ ((s.drop 1).length : Int) ≤ 6) (T : List UInt8) (k : Nat) (hi24 : T = stripS s ∧ (k ≤ T.length ∧ T.length ≤ 6) ∧ ∀ j, j < k → 48 ≤ (gt T j).toNat ∧ (gt T j).toNat ≤ 57) (hq25 : k ≤ T.length ∧ T.length ≤ 6) (hq26 : 0 ≤ decV (T.take k) ∧ decV (T.take k) ≤ 999999) (h27 : (k : Int) < (T.length : Int)) (hq34 : ((gt T k).toNat : Int) ≤ 255) (h37 : ¬ ((((gt T k).toNat : Int) < 48) ∨ (57 < ((gt T k).toNat : Int)))) (hq40 : ¬ (((gt T k).toNat : Int) < 48)) (hq41 : ¬ (57 < ((gt T k).toNat : Int))) (hq42 : ((gt T k).toNat : Int) ≤ 255) : T.length - (k + 1) < T.length - k := by
  omega
theorem z_c_spec_l1Read_52 (s : List UInt8) (h9 : (1 < (s.length : Int)) ∧ (((gt s 0).toNat : Int) = 45)) (hq10 : 1 < (s.length : Int)) (hq11 : ((gt s 0).toNat : Int) = 45) (h16 : 1 ≤ ((s.drop 1).length : Int) ∧ ((s.drop 1).length : Int) ≤ 6) (T : List UInt8) (k : Nat) (hi24 : T = stripS s ∧ (k ≤ T.length ∧ T.length ≤ 6) ∧ ∀ j, j < k → 48 ≤ (gt T j).toNat ∧ (gt T j).toNat ≤ 57) (hq25 : k ≤ T.length ∧ T.length ≤ 6) (hq26 : 0 ≤ decV (T.take k) ∧ decV (T.take k) ≤ 999999) (h27 : ¬ ((k : Int) < (T.length : Int))) (h45 : (T.length : Int) < (s.length : Int)) (hq50 : (Lib.itoa (-(decV (T.take k)))).length ≤ 21) (h51 : ¬ ((Lib.itoa (-(decV (T.take k)))) = s)) : 0 = (readN s).1 := by
  first | (rw [read_len (by first | exact strip_yes ‹_› | exact strip_no ‹_›) ‹_›]; done) | (have hh := ‹_ = stripS s ∧ _›; first | (rw [read_dig hh.1 (k := k) (by omega) ‹_›]; done) | (rw [read_neg hh.1 (k := k) (by omega) ‹_› ‹_›]; done) | (rw [read_pos hh.1 (k := k) (by omega) ‹_› ‹_›]; done) | (rw [read_ok ‹Lib.itoa _ = s› (by omega)]; done))
theorem z_c_spec_l1Read_53 (s : List UInt8) (h9 : (1 < (s.length : Int)) ∧ (((gt s 0).toNat : Int) = 45)) (hq10 : 1 < (s.length : Int)) (hq11 : ((gt s 0).toNat : Int) = 45) (h16 : 1 ≤ ((s.drop 1).length : Int) ∧ ((s.drop 1).length : Int) ≤ 6) (T : List UInt8) (k : Nat) (hi24 : T = stripS s ∧ (k ≤ T.length ∧ T.length ≤ 6) ∧ ∀ j, j < k → 48 ≤ (gt T j).toNat ∧ (gt T j).toNat ≤ 57) (hq25 : k ≤ T.length ∧ T.length ≤ 6) (hq26 : 0 ≤ decV (T.take k) ∧ decV (T.take k) ≤ 999999) (h27 : ¬ ((k : Int) < (T.length : Int))) (h45 : (T.length : Int) < (s.length : Int)) (hq50 : (Lib.itoa (-(decV (T.take k)))).length ≤ 21) (h51 : ¬ ((Lib.itoa (-(decV (T.take k)))) = s)) : false = (readN s).2 := by
  first | (rw [read_len (by first | exact strip_yes ‹_› | exact strip_no ‹_›) ‹_›]; done) | (have hh := ‹_ = stripS s ∧ _›; first | (rw [read_dig hh.1 (k := k) (by omega) ‹_›]; done) | (rw [read_neg hh.1 (k := k) (by omega) ‹_› ‹_›]; done) | (rw [read_pos hh.1 (k := k) (by omega) ‹_› ‹_›]; done) | (rw [read_ok ‹Lib.itoa _ = s› (by omega)]; done))
theorem z_c_spec_l1Read_54 (s : List UInt8) (h9 : (1 < (s.length : Int)) ∧ (((gt s 0).toNat : Int) = 45)) (hq10 : 1 < (s.length : Int)) (hq11 : ((gt s 0).toNat : Int) = 45) (h16 : 1 ≤ ((s.drop 1).length : Int) ∧ ((s.drop 1).length : Int) ≤ 6) (T : List UInt8) (k : Nat) (hi24 : T = stripS s ∧ (k ≤ T.length ∧ T.length ≤ 6) ∧ ∀ j, j < k → 48 ≤ (gt T j).toNat ∧ (gt T j).toNat ≤ 57) (hq25 : k ≤ T.length ∧ T.length ≤ 6) (hq26 : 0 ≤ decV (T.take k) ∧ decV (T.take k) ≤ 999999) (h27 : ¬ ((k : Int) < (T.length : Int))) (h45 : (T.length : Int) < (s.length : Int)) (hq50 : (Lib.itoa (-(decV (T.take k)))).length ≤ 21) (h51 : (Lib.itoa (-(decV (T.take k)))) = s) : -(decV (T.take k)) = (readN s).1 := by
  first | (rw [read_len (by first | exact strip_yes ‹_› | exact strip_no ‹_›) ‹_›]; done) | (have hh := ‹_ = stripS s ∧ _›; first | (rw [read_dig hh.1 (k := k) (by omega) ‹_›]; done) | (rw [read_neg hh.1 (k := k) (by omega) ‹_› ‹_›]; done) | (rw [read_pos hh.1 (k := k) (by omega) ‹_› ‹_›]; done) | (rw [read_ok ‹Lib.itoa _ = s› (by omega)]; done))
theorem z_c_spec_l1Read_55 (s : List UInt8) (h9 : (1 < (s.length : Int)) ∧ (((gt s 0).toNat : Int) = 45)) (hq10 : 1 < (s.length : Int)) (hq11 : ((gt s 0).toNat : Int) = 45) (h16 : 1 ≤ ((s.drop 1).length : Int) ∧ ((s.drop 1).length : Int) ≤ 6) (T : List UInt8) (k : Nat) (hi24 : T = stripS s ∧ (k ≤ T.length ∧ T.length ≤ 6) ∧ ∀ j, j < k → 48 ≤ (gt T j).toNat ∧ (gt T j).toNat ≤ 57) (hq25 : k ≤ T.length ∧ T.length ≤ 6) (hq26 : 0 ≤ decV (T.take k) ∧ decV (T.take k) ≤ 999999) (h27 : ¬ ((k : Int) < (T.length : Int))) (h45 : (T.length : Int) < (s.length : Int)) (hq50 : (Lib.itoa (-(decV (T.take k)))).length ≤ 21) (h51 : (Lib.itoa (-(decV (T.take k)))) = s) : true = (readN s).2 := by
  first | (rw [read_len (by first | exact strip_yes ‹_› | exact strip_no ‹_›) ‹_›]; done) | (have hh := ‹_ = stripS s ∧ _›; first | (rw [read_dig hh.1 (k := k) (by omega) ‹_›]; done) | (rw [read_neg hh.1 (k := k) (by omega) ‹_› ‹_›]; done) | (rw [read_pos hh.1 (k := k) (by omega) ‹_› ‹_›]; done) | (rw [read_ok ‹Lib.itoa _ = s› (by omega)]; done))
theorem z_c_spec_l1Read_62 (s : List UInt8) (h9 : (1 < (s.length : Int)) ∧ (((gt s 0).toNat : Int) = 45)) (hq10 : 1 < (s.length : Int)) (hq11 : ((gt s 0).toNat : Int) = 45) (h16 : 1 ≤ ((s.drop 1).length : Int) ∧ ((s.drop 1).length : Int) ≤ 6) (T : List UInt8) (k : Nat) (hi24 : T = stripS s ∧ (k ≤ T.length ∧ T.length ≤ 6) ∧ ∀ j, j < k → 48 ≤ (gt T j).toNat ∧ (gt T j).toNat ≤ 57) (hq25 : k ≤ T.length ∧ T.length ≤ 6) (hq26 : 0 ≤ decV (T.take k) ∧ decV (T.take k) ≤ 999999) (h27 : ¬ ((k : Int) < (T.length : Int))) (h45 : ¬ ((T.length : Int) < (s.length : Int))) (hq60 : (Lib.itoa (decV (T.take k))).length ≤ 21) (h61 : ¬ ((Lib.itoa (decV (T.take k))) = s)) : 0 = (readN s).1 := by
  first | (rw [read_len (by first | exact strip_yes ‹_› | exact strip_no ‹_›) ‹_›]; done) | (have hh := ‹_ = stripS s ∧ _›; first | (rw [read_dig hh.1 (k := k) (by omega) ‹_›]; done) | (rw [read_neg hh.1 (k := k) (by omega) ‹_› ‹_›]; done) | (rw [read_pos hh.1 (k := k) (by omega) ‹_› ‹_›]; done) | (rw [read_ok ‹Lib.itoa _ = s› (by omega)]; done))
theorem z_c_spec_l1Read_63 (s : List UInt8) (h9 : (1 < (s.length : Int)) ∧ (((gt s 0).toNat : Int) = 45)) (hq10 : 1 < (s.length : Int)) (hq11 : ((gt s 0).toNat : Int) = 45) (h16 : 1 ≤ ((s.drop 1).length : Int) ∧ ((s.drop 1).length : Int) ≤ 6) (T : List UInt8) (k : Nat) (hi24 : T = stripS s ∧ (k ≤ T.length ∧ T.length ≤ 6) ∧ ∀ j, j < k → 48 ≤ (gt T j).toNat ∧ (gt T j).toNat ≤ 57) (hq25 : k ≤ T.length ∧ T.length ≤ 6) (hq26 : 0 ≤ decV (T.take k) ∧ decV (T.take k) ≤ 999999) (h27 : ¬ ((k : Int) < (T.length : Int))) (h45 : ¬ ((T.length : Int) < (s.length : Int))) (hq60 : (Lib.itoa (decV (T.take k))).length ≤ 21) (h61 : ¬ ((Lib.itoa (decV (T.take k))) = s)) : false = (readN s).2 := by
  first | (rw [read_len (by first | exact strip_yes ‹_› | exact strip_no ‹_›) ‹_›]; done) | (have hh := ‹_ = stripS s ∧ _›; first | (rw [read_dig hh.1 (k := k) (by omega) ‹_›]; done) | (rw [read_neg hh.1 (k := k) (by omega) ‹_› ‹_›]; done) | (rw [read_pos hh.1 (k := k) (by omega) ‹_› ‹_›]; done) | (rw [read_ok ‹Lib.itoa _ = s› (by omega)]; done))
theorem z_c_spec_l1Read_64 (s : List UInt8) (h9 : (1 < (s.length : Int)) ∧ (((gt s 0).toNat : Int) = 45)) (hq10 : 1 < (s.length : Int)) (hq11 : ((gt s 0).toNat : Int) = 45) (h16 : 1 ≤ ((s.drop 1).length : Int) ∧ ((s.drop 1).length : Int) ≤ 6) (T : List UInt8) (k : Nat) (hi24 : T = stripS s ∧ (k ≤ T.length ∧ T.length ≤ 6) ∧ ∀ j, j < k → 48 ≤ (gt T j).toNat ∧ (gt T j).toNat ≤ 57) (hq25 : k ≤ T.length ∧ T.length ≤ 6) (hq26 : 0 ≤ decV (T.take k) ∧ decV (T.take k) ≤ 999999) (h27 : ¬ ((k : Int) < (T.length : Int))) (h45 : ¬ ((T.length : Int) < (s.length : Int))) (hq60 : (Lib.itoa (decV (T.take k))).length ≤ 21) (h61 : (Lib.itoa (decV (T.take k))) = s) : decV (T.take k) = (readN s).1 := by
  first | (rw [read_len (by first | exact strip_yes ‹_› | exact strip_no ‹_›) ‹_›]; done) | (have hh := ‹_ = stripS s ∧ _›; first | (rw [read_dig hh.1 (k := k) (by omega) ‹_›]; done) | (rw [read_neg hh.1 (k := k) (by omega) ‹_› ‹_›]; done) | (rw [read_pos hh.1 (k := k) (by omega) ‹_› ‹_›]; done) | (rw [read_ok ‹Lib.itoa _ = s› (by omega)]; done))
theorem z_c_spec_l1Read_65 (s : List UInt8) (h9 : (1 < (s.length : Int)) ∧ (((gt s 0).toNat : Int) = 45)) (hq10 : 1 < (s.length : Int)) (hq11 : ((gt s 0).toNat : Int) = 45) (h16 : 1 ≤ ((s.drop 1).length : Int) ∧ ((s.drop 1).length : Int) ≤ 6) (T : List UInt8) (k : Nat) (hi24 : T = stripS s ∧ (k ≤ T.length ∧ T.length ≤ 6) ∧ ∀ j, j < k → 48 ≤ (gt T j).toNat ∧ (gt T j).toNat ≤ 57) (hq25 : k ≤ T.length ∧ T.length ≤ 6) (hq26 : 0 ≤ decV (T.take k) ∧ decV (T.take k) ≤ 999999) (h27 : ¬ ((k : Int) < (T.length : Int))) (h45 : ¬ ((T.length : Int) < (s.length : Int))) (hq60 : (Lib.itoa (decV (T.take k))).length ≤ 21) (h61 : (Lib.itoa (decV (T.take k))) = s) : true = (readN s).2 := by
  first | (rw [read_len (by first | exact strip_yes ‹_› | exact strip_no ‹_›) ‹_›]; done) | (have hh := ‹_ = stripS s ∧ _›; first | (rw [read_dig hh.1 (k := k) (by omega) ‹_›]; done) | (rw [read_neg hh.1 (k := k) (by omega) ‹_› ‹_›]; done) | (rw [read_pos hh.1 (k := k) (by omega) ‹_› ‹_›]; done) | (rw [read_ok ‹Lib.itoa _ = s› (by omega)]; done))
theorem z_c_spec_l1Read_71 (s : List UInt8) (h9 : ¬ ((1 < (s.length : Int)) ∧ (((gt s 0).toNat : Int) = 45))) (h70 : ¬ (1 ≤ (s.length : Int) ∧ (s.length : Int) ≤ 6)) : 0 = (readN s).1 := by
  first | (rw [read_len (by first | exact strip_yes ‹_› | exact strip_no ‹_›) ‹_›]; done) | (have hh := ‹_ = stripS s ∧ _›; first | (rw [read_dig hh.1 (k := k) (by omega) ‹_›]; done) | (rw [read_neg hh.1 (k := k) (by omega) ‹_› ‹_›]; done) | (rw [read_pos hh.1 (k := k) (by omega) ‹_› ‹_›]; done) | (rw [read_ok ‹Lib.itoa _ = s› (by omega)]; done))
theorem z_c_spec_l1Read_72 (s : List UInt8) (h9 : ¬ ((1 < (s.length : Int)) ∧ (((gt s 0).toNat : Int) = 45))) (h70 : ¬ (1 ≤ (s.length : Int) ∧ (s.length : Int) ≤ 6)) : false = (readN s).2 := by
  first | (rw [read_len (by first | exact strip_yes ‹_› | exact strip_no ‹_›) ‹_›]; done) | (have hh := ‹_ = stripS s ∧ _›; first | (rw [read_dig hh.1 (k := k) (by omega) ‹_›]; done) | (rw [read_neg hh.1 (k := k) (by omega) ‹_› ‹_›]; done) | (rw [read_pos hh.1 (k := k) (by omega) ‹_› ‹_›]; done) | (rw [read_ok ‹Lib.itoa _ = s› (by omega)]; done))
theorem z_c_spec_l1Read_73 (s : List UInt8) (h9 : ¬ ((1 < (s.length : Int)) ∧ (((gt s 0).toNat : Int) = 45))) (h70 : 1 ≤ (s.length : Int) ∧ (s.length : Int) ≤ 6) : s = stripS s ∧ (0 ≤ s.length ∧ s.length ≤ 6) ∧ ∀ j, j < 0 → 48 ≤ (gt s j).toNat ∧ (gt s j).toNat ≤ 57 := by
  exact ⟨by first | exact strip_yes ‹_› | exact strip_no ‹_›, by omega, fun _ h => absurd h (by omega)⟩
theorem z_c_spec_l1Read_92 (s : List UInt8) (h9 : ¬ ((1 < (s.length : Int)) ∧ (((gt s 0).toNat : Int) = 45))) (h70 : 1 ≤ (s.length : Int) ∧ (s.length : Int) ≤ 6) (T : List UInt8) (k : Nat) (hi78 : T = stripS s ∧ (k ≤ T.length ∧ T.length ≤ 6) ∧ ∀ j, j < k → 48 ≤ (gt T j).toNat ∧ (gt T j).toNat ≤ 57) (hq79 : k ≤ T.length ∧ T.length ≤ 6) (hq80 : 0 ≤ decV (T.take k) ∧ decV (T.take k) ≤ 999999) (h81 : (k : Int) < (T.length : Int)) (hq88 : ((gt T k).toNat : Int) ≤ 255) (h91 : (((gt T k).toNat : Int) < 48) ∨ (57 < ((gt T k).toNat : Int))) : 0 = (readN s).1 := by
  first | (rw [read_len (by first | exact strip_yes ‹_› | exact strip_no ‹_›) ‹_›]; done) | (have hh := ‹_ = stripS s ∧ _›; first | (rw [read_dig hh.1 (k := k) (by omega) ‹_›]; done) | (rw [read_neg hh.1 (k := k) (by omega) ‹_› ‹_›]; done) | (rw [read_pos hh.1 (k := k) (by omega) ‹_› ‹_›]; done) | (rw [read_ok ‹Lib.itoa _ = s› (by omega)]; done))
theorem z_c_spec_l1Read_93 (s : List UInt8) (h9 : ¬ ((1 < (s.length : Int)) ∧ (((gt s 0).toNat : Int) = 45))) (h70 : 1 ≤ (s.length : Int) ∧ (s.length : Int) ≤ 6) (T : List UInt8) (k : Nat) (hi78 : T = stripS s ∧ (k ≤ T.length ∧ T.length ≤ 6) ∧ ∀ j, j < k → 48 ≤ (gt T j).toNat ∧ (gt T j).toNat ≤ 57) (hq79 : k ≤ T.length ∧ T.length ≤ 6) (hq80 : 0 ≤ decV (T.take k) ∧ decV (T.take k) ≤ 999999) (h81 : (k : Int) < (T.length : Int)) (hq88 : ((gt T k).toNat : Int) ≤ 255) (h91 : (((gt T k).toNat : Int) < 48) ∨ (57 < ((gt T k).toNat : Int))) : false = (readN s).2 := by
  first | (rw [read_len (by first | exact strip_yes ‹_› | exact strip_no ‹_›) ‹_›]; done) | (have hh := ‹_ = stripS s ∧ _›; first | (rw [read_dig hh.1 (k := k) (by omega) ‹_›]; done) | (rw [read_neg hh.1 (k := k) (by omega) ‹_› ‹_›]; done) | (rw [read_pos hh.1 (k := k) (by omega) ‹_› ‹_›]; done) | (rw [read_ok ‹Lib.itoa _ = s› (by omega)]; done))
theorem z_c_spec_l1Read_97 (s : List UInt8) (h9 : ¬ ((1 < (s.length : Int)) ∧ (((gt s 0).toNat : Int) = 45))) (h70 : 1 ≤ (s.length : Int) ∧ (s.length : Int) ≤ 6) (T : List UInt8) (k : Nat) (hi78 : T = stripS s ∧ (k ≤ T.length ∧ T.length ≤ 6) ∧ ∀ j, j < k → 48 ≤ (gt T j).toNat ∧ (gt T j).toNat ≤ 57) (hq79 : k ≤ T.length ∧ T.length ≤ 6) (hq80 : 0 ≤ decV (T.take k) ∧ decV (T.take k) ≤ 999999) (h81 : (k : Int) < (T.length : Int)) (hq88 : ((gt T k).toNat : Int) ≤ 255) (h91 : ¬ ((((gt T k).toNat : Int) < 48) ∨ (57 < ((gt T k).toNat : Int)))) (hq94 : ¬ (((gt T k).toNat : Int) < 48)) (hq95 : ¬ (57 < ((gt T k).toNat : Int))) (hq96 : ((gt T k).toNat : Int) ≤ 255) : T = stripS s ∧ (k + 1 ≤ T.length ∧ T.length ≤ 6) ∧ ∀ j, j < (k + 1) → 48 ≤ (gt T j).toNat ∧ (gt T j).toNat ≤ 57 := by
  have hh := ‹_ = stripS s ∧ _›
  exact ⟨hh.1, by omega, dig_next hh.2.2 ‹_›⟩
theorem z_c_spec_l1Read_98 (s : List UInt8) (h9 : ¬ ((1 < (s.length : Int)) ∧ (((gt s 0).toNat : Int) = 45))) (h70 : 1 ≤ (s.length : Int) ∧ (s.length : Int) ≤ 6) (T : List UInt8) (k : Nat) (hi78 : T = stripS s ∧ (k ≤ T.length ∧ T.length ≤ 6) ∧ ∀ j, j < k → 48 ≤ (gt T j).toNat ∧ (gt T j).toNat ≤ 57) (hq79 : k ≤ T.length ∧ T.length ≤ 6) (hq80 : 0 ≤ decV (T.take k) ∧ decV (T.take k) ≤ 999999) (h81 : (k : Int) < (T.length : Int)) (hq88 : ((gt T k).toNat : Int) ≤ 255) (h91 : ¬ ((((gt T k).toNat : Int) < 48) ∨ (57 < ((gt T k).toNat : Int)))) (hq94 : ¬ (((gt T k).toNat : Int) < 48)) (hq95 : ¬ (57 < ((gt T k).toNat : Int))) (hq96 : ((gt T k).toNat : Int) ≤ 255) : T.length - (k + 1) < T.length - k := by
  omega
theorem z_c_spec_l1Read_106 (s : List UInt8) (h9 : ¬ ((1 < (s.length : Int)) ∧ (((gt s 0).toNat : Int) = 45))) (h70 : 1 ≤ (s.length : Int) ∧ (s.length : Int) ≤ 6) (T : List UInt8) (k : Nat) (hi78 : T = stripS s ∧ (k ≤ T.length ∧ T.length ≤ 6) ∧ ∀ j, j < k → 48 ≤ (gt T j).toNat ∧ (gt T j).toNat ≤ 57) (hq79 : k ≤ T.length ∧ T.length ≤ 6) (hq80 : 0 ≤ decV (T.take k) ∧ decV (T.take k) ≤ 999999) (h81 : ¬ ((k : Int) < (T.length : Int))) (h99 : (T.length : Int) < (s.length : Int)) (hq104 : (Lib.itoa (-(decV (T.take k)))).length ≤ 21) (h105 : ¬ ((Lib.itoa (-(decV (T.take k)))) = s)) : 0 = (readN s).1 := by
  first | (rw [read_len (by first | exact strip_yes ‹_› | exact strip_no ‹_›) ‹_›]; done) | (have hh := ‹_ = stripS s ∧ _›; first | (rw [read_dig hh.1 (k := k) (by omega) ‹_›]; done) | (rw [read_neg hh.1 (k := k) (by omega) ‹_› ‹_›]; done) | (rw [read_pos hh.1 (k := k) (by omega) ‹_› ‹_›]; done) | (rw [read_ok ‹Lib.itoa _ = s› (by omega)]; done))
theorem z_c_spec_l1Read_107 (s : List UInt8) (h9 : ¬ ((1 < (s.length : Int)) ∧ (((gt s 0).toNat : Int) = 45))) (h70 : 1 ≤ (s.length : Int) ∧ (s.length : Int) ≤ 6) (T : List UInt8) (k : Nat) (hi78 : T = stripS s ∧ (k ≤ T.length ∧ T.length ≤ 6) ∧ ∀ j, j < k → 48 ≤ (gt T j).toNat ∧ (gt T j).toNat ≤ 57) (hq79 : k ≤ T.length ∧ T.length ≤ 6) (hq80 : 0 ≤ decV (T.take k) ∧ decV (T.take k) ≤ 999999) (h81 : ¬ ((k : Int) < (T.length : Int))) (h99 : (T.length : Int) < (s.length : Int)) (hq104 : (Lib.itoa (-(decV (T.take k)))).length ≤ 21) (h105 : ¬ ((Lib.itoa (-(decV (T.take k)))) = s)) : false = (readN s).2 := by
  first | (rw [read_len (by first | exact strip_yes ‹_› | exact strip_no ‹_›) ‹_›]; done) | (have hh := ‹_ = stripS s ∧ _›; first | (rw [read_dig hh.1 (k := k) (by omega) ‹_›]; done) | (rw [read_neg hh.1 (k := k) (by omega) ‹_› ‹_›]; done) | (rw [read_pos hh.1 (k := k) (by omega) ‹_› ‹_›]; done) | (rw [read_ok ‹Lib.itoa _ = s› (by omega)]; done))
theorem z_c_spec_l1Read_108 (s : List UInt8) (h9 : ¬ ((1 < (s.length : Int)) ∧ (((gt s 0).toNat : Int) = 45))) (h70 : 1 ≤ (s.length : Int) ∧ (s.length : Int) ≤ 6) (T : List UInt8) (k : Nat) (hi78 : T = stripS s ∧ (k ≤ T.length ∧ T.length ≤ 6) ∧ ∀ j, j < k → 48 ≤ (gt T j).toNat ∧ (gt T j).toNat ≤ 57) (hq79 : k ≤ T.length ∧ T.length ≤ 6) (hq80 : 0 ≤ decV (T.take k) ∧ decV (T.take k) ≤ 999999) (h81 : ¬ ((k : Int) < (T.length : Int))) (h99 : (T.length : Int) < (s.length : Int)) (hq104 : (Lib.itoa (-(decV (T.take k)))).length ≤ 21) (h105 : (Lib.itoa (-(decV (T.take k)))) = s) : -(decV (T.take k)) = (readN s).1 := by
  first | (rw [read_len (by first | exact strip_yes ‹_› | exact strip_no ‹_›) ‹_›]; done) | (have hh := ‹_ = stripS s ∧ _›; first | (rw [read_dig hh.1 (k := k) (by omega) ‹_›]; done) | (rw [read_neg hh.1 (k := k) (by omega) ‹_› ‹_›]; done) | (rw [read_pos hh.1 (k := k) (by omega) ‹_› ‹_›]; done) | (rw [read_ok ‹Lib.itoa _ = s› (by omega)]; done))
theorem z_c_spec_l1Read_109 (s : List UInt8) (h9 : ¬ ((1 < (s.length : Int)) ∧ (((gt s 0).toNat : Int) = 45))) (h70 : 1 ≤ (s.length : Int) ∧ (s.length : Int) ≤ 6) (T : List UInt8) (k : Nat) (hi78 : T = stripS s ∧ (k ≤ T.length ∧ T.length ≤ 6) ∧ ∀ j, j < k → 48 ≤ (gt T j).toNat ∧ (gt T j).toNat ≤ 57) (hq79 : k ≤ T.length ∧ T.length ≤ 6) (hq80 : 0 ≤ decV (T.take k) ∧ decV (T.take k) ≤ 999999) (h81 : ¬ ((k : Int) < (T.length : Int))) (h99 : (T.length : Int) < (s.length : Int)) (hq104 : (Lib.itoa (-(decV (T.take k)))).length ≤ 21) (h105 : (Lib.itoa (-(decV (T.take k)))) = s) : true = (readN s).2 := by
  first | (rw [read_len (by first | exact strip_yes ‹_› | exact strip_no ‹_›) ‹_›]; done) | (have hh := ‹_ = stripS s ∧ _›; first | (rw [read_dig hh.1 (k := k) (by omega) ‹_›]; done) | (rw [read_neg hh.1 (k := k) (by omega) ‹_› ‹_›]; done) | (rw [read_pos hh.1 (k := k) (by omega) ‹_› ‹_›]; done) | (rw [read_ok ‹Lib.itoa _ = s› (by omega)]; done))
theorem z_c_spec_l1Read_116 (s : List UInt8) (h9 : ¬ ((1 < (s.length : Int)) ∧ (((gt s 0).toNat : Int) = 45))) (h70 : 1 ≤ (s.length : Int) ∧ (s.length : Int) ≤ 6) (T : List UInt8) (k : Nat) (hi78 : T = stripS s ∧ (k ≤ T.length ∧ T.length ≤ 6) ∧ ∀ j, j < k → 48 ≤ (gt T j).toNat ∧ (gt T j).toNat ≤ 57) (hq79 : k ≤ T.length ∧ T.length ≤ 6) (hq80 : 0 ≤ decV (T.take k) ∧ decV (T.take k) ≤ 999999) (h81 : ¬ ((k : Int) < (T.length : Int))) (h99 : ¬ ((T.length : Int) < (s.length : Int))) (hq114 : (Lib.itoa (decV (T.take k))).length ≤ 21) (h115 : ¬ ((Lib.itoa (decV (T.take k))) = s)) : 0 = (readN s).1 := by
  first | (rw [read_len (by first | exact strip_yes ‹_› | exact strip_no ‹_›) ‹_›]; done) | (have hh := ‹_ = stripS s ∧ _›; first | (rw [read_dig hh.1 (k := k) (by omega) ‹_›]; done) | (rw [read_neg hh.1 (k := k) (by omega) ‹_› ‹_›]; done) | (rw [read_pos hh.1 (k := k) (by omega) ‹_› ‹_›]; done) | (rw [read_ok ‹Lib.itoa _ = s› (by omega)]; done))
theorem z_c_spec_l1Read_117 (s : List UInt8) (h9 : ¬ ((1 < (s.length : Int)) ∧ (((gt s 0).toNat : Int) = 45))) (h70 : 1 ≤ (s.length : Int) ∧ (s.length : Int) ≤ 6) (T : List UInt8) (k : Nat) (hi78 : T = stripS s ∧ (k ≤ T.length ∧ T.length ≤ 6) ∧ ∀ j, j < k → 48 ≤ (gt T j).toNat ∧ (gt T j).toNat ≤ 57) (hq79 : k ≤ T.length ∧ T.length ≤ 6) (hq80 : 0 ≤ decV (T.take k) ∧ decV (T.take k) ≤ 999999) (h81 : ¬ ((k : Int) < (T.length : Int))) (h99 : ¬ ((T.length : Int) < (s.length : Int))) (hq114 : (Lib.itoa (decV (T.take k))).length ≤ 21) (h115 : ¬ ((Lib.itoa (decV (T.take k))) = s)) : false = (readN s).2 := by
  first | (rw [read_len (by first | exact strip_yes ‹_› | exact strip_no ‹_›) ‹_›]; done) | (have hh := ‹_ = stripS s ∧ _›; first | (rw [read_dig hh.1 (k := k) (by omega) ‹_›]; done) | (rw [read_neg hh.1 (k := k) (by omega) ‹_› ‹_›]; done) | (rw [read_pos hh.1 (k := k) (by omega) ‹_› ‹_›]; done) | (rw [read_ok ‹Lib.itoa _ = s› (by omega)]; done))
theorem z_c_spec_l1Read_118 (s : List UInt8) (h9 : ¬ ((1 < (s.length : Int)) ∧ (((gt s 0).toNat : Int) = 45))) (h70 : 1 ≤ (s.length : Int) ∧ (s.length : Int) ≤ 6) (T : List UInt8) (k : Nat) (hi78 : T = stripS s ∧ (k ≤ T.length ∧ T.length ≤ 6) ∧ ∀ j, j < k → 48 ≤ (gt T j).toNat ∧ (gt T j).toNat ≤ 57) (hq79 : k ≤ T.length ∧ T.length ≤ 6) (hq80 : 0 ≤ decV (T.take k) ∧ decV (T.take k) ≤ 999999) (h81 : ¬ ((k : Int) < (T.length : Int))) (h99 : ¬ ((T.length : Int) < (s.length : Int))) (hq114 : (Lib.itoa (decV (T.take k))).length ≤ 21) (h115 : (Lib.itoa (decV (T.take k))) = s) : decV (T.take k) = (readN s).1 := by
  first | (rw [read_len (by first | exact strip_yes ‹_› | exact strip_no ‹_›) ‹_›]; done) | (have hh := ‹_ = stripS s ∧ _›; first | (rw [read_dig hh.1 (k := k) (by omega) ‹_›]; done) | (rw [read_neg hh.1 (k := k) (by omega) ‹_› ‹_›]; done) | (rw [read_pos hh.1 (k := k) (by omega) ‹_› ‹_›]; done) | (rw [read_ok ‹Lib.itoa _ = s› (by omega)]; done))
theorem z_c_spec_l1Read_119 (s : List UInt8) (h9 : ¬ ((1 < (s.length : Int)) ∧ (((gt s 0).toNat : Int) = 45))) (h70 : 1 ≤ (s.length : Int) ∧ (s.length : Int) ≤ 6) (T : List UInt8) (k : Nat) (hi78 : T = stripS s ∧ (k ≤ T.length ∧ T.length ≤ 6) ∧ ∀ j, j < k → 48 ≤ (gt T j).toNat ∧ (gt T j).toNat ≤ 57) (hq79 : k ≤ T.length ∧ T.length ≤ 6) (hq80 : 0 ≤ decV (T.take k) ∧ decV (T.take k) ≤ 999999) (h81 : ¬ ((k : Int) < (T.length : Int))) (h99 : ¬ ((T.length : Int) < (s.length : Int))) (hq114 : (Lib.itoa (decV (T.take k))).length ≤ 21) (h115 : (Lib.itoa (decV (T.take k))) = s) : true = (readN s).2 := by
  first | (rw [read_len (by first | exact strip_yes ‹_› | exact strip_no ‹_›) ‹_›]; done) | (have hh := ‹_ = stripS s ∧ _›; first | (rw [read_dig hh.1 (k := k) (by omega) ‹_›]; done) | (rw [read_neg hh.1 (k := k) (by omega) ‹_› ‹_›]; done) | (rw [read_pos hh.1 (k := k) (by omega) ‹_› ‹_›]; done) | (rw [read_ok ‹Lib.itoa _ = s› (by omega)]; done))
theorem c_spec_l1Read (w : World) (s : List UInt8) : Calls Tryz.prog 35 #[str s] w fun e w' => e = .returned (.tuple (List.toArray [.int .i64 ((readN s).1), .bool ((readN s).2)])) ∧ Lo w w' := by
  refine calls_W 58 Tryz.func35 rfl rfl rfl ?_
  refine W.seq ?_
  refine W.regS (SR.q' (r_as (v := .int .i64 0) rfl) <| SR.q' (r_as (v := .bool false) rfl) <| SR.nil ?_)
  refine W.seq ?_
  refine W.regS (SR.q' (r_mv (v := str _) rfl) <| SR.q' (r_as (v := str _) rfl) <| SR.nil ?_)
  refine W.seq ?_
  refine W.seq ?_
  refine W.regJS (fun f' w' => At f' [(0, str s), (2, .int .i64 0), (3, .bool false), (4, str s), (15, .bool (decide ((1 < (s.length : Int)) ∧ (((gt s 0).toNat : Int) = 45))))] ∧ Lo w w') ?_ ?_
  · refine SR.q' (r_mv (v := str _) rfl) <| SR.q' (r_len_s und9 rfl) <| SR.q' (r_gt rfl rfl) <| SR.q' (r_mv (v := .bool _) rfl) <| SR.splitD (fun h1 => ?_) (fun h1 => ?_)
    · refine SR.g' rfl (r_mv (v := str _) rfl) <| ?_
      have hq2 := u8_le (gt s 0)
      refine SR.g' rfl (r_idxS (i := 0) und9 rfl rfl rfl (by first | omega | (simp only [List.length_append, List.length_cons, List.length_nil, List.length_take, List.length_drop]; omega) | (simp only [List.length_append, List.length_cons, List.length_nil, List.length_take, List.length_drop] at *; omega))) <| SR.g' rfl (r_eq rfl rfl) <| SR.q' (r_pick true rfl (v := .bool _) rfl) <| SR.nil ?_
      exact ⟨_, rfl, ⟨⟨rfl, rfl, rfl, rfl, (eDD (jat h1)), trivial⟩, (Lo.refl _)⟩⟩
    · refine SR.s' rfl <| SR.s' rfl <| SR.s' rfl <| SR.q' (r_pick false rfl (v := .bool false) rfl) <| SR.nil ?_
      exact ⟨_, rfl, ⟨⟨rfl, rfl, rfl, rfl, (eDF (jaf h1).2), trivial⟩, (Lo.refl _)⟩⟩
  rintro f3 w4 ⟨hat5, hk6⟩
  rw [← sets_of_at hat5]
  have hz7 := hk6.size
  have hB8 := (Lo.refl w).lo hk6
  refine W.cond_d rfl (fun h9 => ?_) (fun h9 => ?_)
  · have hq10 : 1 < (s.length : Int) := h9.1
    have hq11 : ((gt s 0).toNat : Int) = 45 := h9.2
    refine W.regS (SR.q' (r_mv (v := str _) rfl) <| SR.q' (r_cutlS (l := 1) und9 rfl rfl rfl (by first | omega | (simp only [List.length_append, List.length_cons, List.length_nil, List.length_take, List.length_drop]; omega) | (simp only [List.length_append, List.length_cons, List.length_nil, List.length_take, List.length_drop] at *; omega))) <| SR.q' (r_as (v := str _) rfl) <| SR.nil ?_)
    refine W.seq ?_
    refine W.seq ?_
    refine W.regS (SR.q' (r_mv (v := str _) rfl) <| SR.q' (r_len_s und9 rfl) <| SR.call ent49 (c_spec_l1In w4 ((s.drop 1).length : Int) 1 6) rfl ?_)
    rintro e w12 ⟨rfl, hk13⟩
    refine ⟨_, rfl, ?_⟩
    have hz14 := hk13.size
    have hB15 := hB8.lo hk13
    refine SR.q' (r_not rfl) <| SR.nil ?_
    refine W.cond_n rfl (fun h16 => ?_) (fun h16 => ?_)
    · refine W.seq ?_
      refine W.regS (SR.q' (r_as (v := .int .i64 0) rfl) <| SR.q' (r_as (v := .bool false) rfl) <| SR.nil ?_)
      refine W.ret ?_
      refine ret2 rfl (v := .int .i64 _) (v' := .bool _) rfl rfl ?_
      exact ⟨eR (eT2 (eI (z_c_spec_l1Read_17 s h9 hq10 hq11 h16)) (eB (z_c_spec_l1Read_18 s h9 hq10 hq11 h16))), hB15⟩
    · refine W.skip ?_
      refine W.seq ?_
      refine W.regS (SR.q' (r_as (v := .int .i64 0) rfl) <| SR.nil ?_)
      refine W.seq ?_
      refine W.seq ?_
      refine W.regS (SR.q' (r_as (v := .int .i64 0) rfl) <| SR.nil ?_)
      refine W.block ?_
      refine W.loop (σ := (List UInt8) × Nat) (fun g => [(0, str s), (4, str g.1), (5, .int .i64 (decV (g.1.take g.2))), (6, .int .i64 (g.2 : Int))]) (fun g w' => (Lo w w') ∧ (g.1 = stripS s ∧ (g.2 ≤ g.1.length ∧ g.1.length ≤ 6) ∧ ∀ j, j < g.2 → 48 ≤ (gt g.1 j).toNat ∧ (gt g.1 j).toNat ≤ 57)) (fun g => g.1.length - g.2) (s.drop 1, 0) ?_ ?_ ?_
      · exact ⟨rfl, rfl, (eI (by first | (first | rfl | omega | (rw [decV_next (by omega)])) | (dsimp only; (first | rfl | omega | (rw [decV_next (by omega)]))))), (eI (by first | (first | rfl | omega | (rw [decV_next (by omega)])) | (dsimp only; (first | rfl | omega | (rw [decV_next (by omega)]))))), trivial⟩
      · exact ⟨hB15, (z_c_spec_l1Read_19 s h9 hq10 hq11 h16)⟩
      · rintro ⟨T, k⟩ f20 w21 hP23
        obtain ⟨hB22, hi24⟩ : (Lo w w21) ∧ (T = stripS s ∧ (k ≤ T.length ∧ T.length ≤ 6) ∧ ∀ j, j < k → 48 ≤ (gt T j).toNat ∧ (gt T j).toNat ≤ 57) := hP23
        refine (?_ : W _ _ _ _ _ (act _ (sets f20 [(0, str s), (4, str T), (5, .int .i64 (decV (T.take k))), (6, .int .i64 (k : Int))])) _)
        have hzw21 := hB22.size
        have hq25 : k ≤ T.length ∧ T.length ≤ 6 := hi24.2.1
        have hq26 : 0 ≤ decV (T.take k) ∧ decV (T.take k) ≤ 999999 := decV_rng hi24.2.2 hi24.2.1.1 (by omega)
        refine W.seq ?_
        refine W.seq ?_
        refine W.regS (SR.q' (r_mv (v := .int .i64 _) rfl) <| SR.q' (r_mv (v := str _) rfl) <| SR.q' (r_len_s und9 rfl) <| SR.q' (r_lt rfl rfl) <| SR.nil ?_)
        refine W.cond_d rfl (fun h27 => ?_) (fun h27 => ?_)
        · refine W.skip ?_
          refine W.seq ?_
          refine W.block ?_
          refine W.seq ?_
          refine W.seq ?_
          refine W.regJS (fun f' w' => At f' [(0, str s), (4, str T), (5, .int .i64 (decV (T.take k))), (6, .int .i64 (k : Int)), (37, .bool (decide ((((gt T k).toNat : Int) < 48) ∨ (57 < ((gt T k).toNat : Int)))))] ∧ Lo w21 w' ∧ (((gt T k).toNat : Int) ≤ 255)) ?_ ?_
          · refine SR.q' (r_mv (v := str _) rfl) <| SR.q' (r_mv (v := .int .i64 _) rfl) <| ?_
            have hq28 := u8_le (gt T k)
            refine SR.q' (r_idxS (i := k) und9 rfl rfl rfl (by first | omega | (simp only [List.length_append, List.length_cons, List.length_nil, List.length_take, List.length_drop]; omega) | (simp only [List.length_append, List.length_cons, List.length_nil, List.length_take, List.length_drop] at *; omega))) <| SR.q' (r_lt rfl rfl) <| SR.q' (r_mv (v := .bool _) rfl) <| SR.splitD (fun h29 => ?_) (fun h29 => ?_)
            · refine SR.s' rfl <| SR.s' rfl <| SR.s' rfl <| SR.s' rfl <| SR.q' (r_pick true rfl (v := .bool true) rfl) <| SR.nil ?_
              exact ⟨_, rfl, ⟨⟨rfl, rfl, rfl, rfl, (eDT ((jot h29).1 trivial)), trivial⟩, (Lo.refl _), hq28⟩⟩
            · refine SR.g' rfl (r_mv (v := str _) rfl) <| SR.g' rfl (r_mv (v := .int .i64 _) rfl) <| SR.g' rfl (r_idxS (i := k) und9 rfl rfl rfl (by first | omega | (simp only [List.length_append, List.length_cons, List.length_nil, List.length_take, List.length_drop]; omega) | (simp only [List.length_append, List.length_cons, List.length_nil, List.length_take, List.length_drop] at *; omega))) <| SR.g' rfl (r_gt rfl rfl) <| SR.q' (r_pick false rfl (v := .bool _) rfl) <| SR.nil ?_
              exact ⟨_, rfl, ⟨⟨rfl, rfl, rfl, rfl, (eDD (jof h29)), trivial⟩, (Lo.refl _), hq28⟩⟩
          rintro f30 w31 ⟨hat32, hk33, hq34⟩
          rw [← sets_of_at hat32]
          have hz35 := hk33.size
          have hB36 := hB22.lo hk33
          refine W.cond_d rfl (fun h37 => ?_) (fun h37 => ?_)
          · refine W.seq ?_
            refine W.regS (SR.q' (r_as (v := .int .i64 0) rfl) <| SR.q' (r_as (v := .bool false) rfl) <| SR.nil ?_)
            refine W.ret ?_
            refine ret2 rfl (v := .int .i64 _) (v' := .bool _) rfl rfl ?_
            exact ⟨eR (eT2 (eI (z_c_spec_l1Read_38 s h9 hq10 hq11 h16 T k hi24 hq25 hq26 h27 hq34 h37)) (eB (z_c_spec_l1Read_39 s h9 hq10 hq11 h16 T k hi24 hq25 hq26 h27 hq34 h37))), hB36⟩
          · have hq40 : ¬ (((gt T k).toNat : Int) < 48) := (not_or.1 h37).1
            have hq41 : ¬ (57 < ((gt T k).toNat : Int)) := (not_or.1 h37).2
            refine W.skip ?_
            refine W.regS (SR.q' (r_mv (v := .int .i64 _) rfl) <| SR.q' (r_mul rfl rfl (by omega)) <| SR.q' (r_mv (v := str _) rfl) <| SR.q' (r_mv (v := .int .i64 _) rfl) <| ?_)
            have hq42 := u8_le (gt T k)
            refine SR.q' (r_idxS (i := k) und9 rfl rfl rfl (by first | omega | (simp only [List.length_append, List.length_cons, List.length_nil, List.length_take, List.length_drop]; omega) | (simp only [List.length_append, List.length_cons, List.length_nil, List.length_take, List.length_drop] at *; omega))) <| SR.q' (r_sub8 rfl rfl (by omega)) <| SR.q' (r_convI und3 und5 rfl (by omega)) <| SR.q' (r_add rfl rfl (by omega)) <| SR.q' (r_as (v := .int .i64 _) rfl) <| SR.nil ?_
            refine W.regS (SR.q' (r_mv (v := .int .i64 _) rfl) <| SR.q' (r_add rfl rfl (by omega)) <| SR.q' (r_as (v := .int .i64 _) rfl) <| SR.nil ?_)
            refine ⟨(T, k + 1), _, rfl, ⟨rfl, rfl, (eI (by first | (first | rfl | omega | (rw [decV_next (by omega)])) | (dsimp only; (first | rfl | omega | (rw [decV_next (by omega)]))))), (eI (by first | (first | rfl | omega | (rw [decV_next (by omega)])) | (dsimp only; (first | rfl | omega | (rw [decV_next (by omega)]))))), trivial⟩, ⟨hB36, ?_⟩, ?_⟩
            · exact (z_c_spec_l1Read_43 s h9 hq10 hq11 h16 T k hi24 hq25 hq26 h27 hq34 h37 hq40 hq41 hq42)
            · exact (z_c_spec_l1Read_44 s h9 hq10 hq11 h16 T k hi24 hq25 hq26 h27 hq34 h37 hq40 hq41 hq42)
        · refine W.exit (xin_here ?_)
          refine W.seq ?_
          refine W.seq ?_
          refine W.regS (SR.q' (r_mv (v := str _) rfl) <| SR.q' (r_len_s und9 rfl) <| SR.q' (r_mv (v := str _) rfl) <| SR.q' (r_len_s und9 rfl) <| SR.q' (r_lt rfl rfl) <| SR.nil ?_)
          refine W.cond_d rfl (fun h45 => ?_) (fun h45 => ?_)
          · refine W.regS (SR.q' (r_mv (v := .int .i64 _) rfl) <| SR.q' (r_neg rfl (by omega)) <| SR.q' (r_as (v := .int .i64 _) rfl) <| SR.nil ?_)
            refine W.seq ?_
            refine W.seq ?_
            refine W.regS (SR.q' (r_mv (v := .int .i64 _) rfl) <| SR.call ent45 (c_spec_l1Num w21 (-(decV (T.take k))) (by omega)) rfl ?_)
            rintro e w46 ⟨rfl, hk47⟩
            refine ⟨_, rfl, ?_⟩
            have hz48 := hk47.size
            have hB49 := hB22.lo hk47
            have hq50 : (Lib.itoa (-(decV (T.take k)))).length ≤ 21 := itoa_len (n := -(decV (T.take k))) (by omega) (by omega)
            refine SR.q' (r_mv (v := str _) rfl) <| SR.q' (r_nes (s := Lib.itoa (-(decV (T.take k)))) (r := s) rfl rfl) <| SR.nil ?_
            refine W.cond_n rfl (fun h51 => ?_) (fun h51 => ?_)
            · refine W.seq ?_
              refine W.regS (SR.q' (r_as (v := .int .i64 0) rfl) <| SR.q' (r_as (v := .bool false) rfl) <| SR.nil ?_)
              refine W.ret ?_
              refine ret2 rfl (v := .int .i64 _) (v' := .bool _) rfl rfl ?_
              exact ⟨eR (eT2 (eI (z_c_spec_l1Read_52 s h9 hq10 hq11 h16 T k hi24 hq25 hq26 h27 h45 hq50 h51)) (eB (z_c_spec_l1Read_53 s h9 hq10 hq11 h16 T k hi24 hq25 hq26 h27 h45 hq50 h51))), hB49⟩
            · refine W.skip ?_
              refine W.seq ?_
              refine W.regS (SR.q' (r_mv (v := .int .i64 _) rfl) <| SR.q' (r_as (v := .int .i64 _) rfl) <| SR.q' (r_as (v := .bool true) rfl) <| SR.nil ?_)
              refine W.ret ?_
              refine ret2 rfl (v := .int .i64 _) (v' := .bool _) rfl rfl ?_
              exact ⟨eR (eT2 (eI (z_c_spec_l1Read_54 s h9 hq10 hq11 h16 T k hi24 hq25 hq26 h27 h45 hq50 h51)) (eB (z_c_spec_l1Read_55 s h9 hq10 hq11 h16 T k hi24 hq25 hq26 h27 h45 hq50 h51))), hB49⟩
          · refine W.skip ?_
            refine W.seq ?_
            refine W.seq ?_
            refine W.regS (SR.q' (r_mv (v := .int .i64 _) rfl) <| SR.call ent45 (c_spec_l1Num w21 (decV (T.take k)) (by omega)) rfl ?_)
            rintro e w56 ⟨rfl, hk57⟩
            refine ⟨_, rfl, ?_⟩
            have hz58 := hk57.size
            have hB59 := hB22.lo hk57
            have hq60 : (Lib.itoa (decV (T.take k))).length ≤ 21 := itoa_len (n := decV (T.take k)) (by omega) (by omega)
            refine SR.q' (r_mv (v := str _) rfl) <| SR.q' (r_nes (s := Lib.itoa (decV (T.take k))) (r := s) rfl rfl) <| SR.nil ?_
            refine W.cond_n rfl (fun h61 => ?_) (fun h61 => ?_)
            · refine W.seq ?_
              refine W.regS (SR.q' (r_as (v := .int .i64 0) rfl) <| SR.q' (r_as (v := .bool false) rfl) <| SR.nil ?_)
              refine W.ret ?_
              refine ret2 rfl (v := .int .i64 _) (v' := .bool _) rfl rfl ?_
              exact ⟨eR (eT2 (eI (z_c_spec_l1Read_62 s h9 hq10 hq11 h16 T k hi24 hq25 hq26 h27 h45 hq60 h61)) (eB (z_c_spec_l1Read_63 s h9 hq10 hq11 h16 T k hi24 hq25 hq26 h27 h45 hq60 h61))), hB59⟩
            · refine W.skip ?_
              refine W.seq ?_
              refine W.regS (SR.q' (r_mv (v := .int .i64 _) rfl) <| SR.q' (r_as (v := .int .i64 _) rfl) <| SR.q' (r_as (v := .bool true) rfl) <| SR.nil ?_)
              refine W.ret ?_
              refine ret2 rfl (v := .int .i64 _) (v' := .bool _) rfl rfl ?_
              exact ⟨eR (eT2 (eI (z_c_spec_l1Read_64 s h9 hq10 hq11 h16 T k hi24 hq25 hq26 h27 h45 hq60 h61)) (eB (z_c_spec_l1Read_65 s h9 hq10 hq11 h16 T k hi24 hq25 hq26 h27 h45 hq60 h61))), hB59⟩
  · refine W.skip ?_
    refine W.seq ?_
    refine W.seq ?_
    refine W.regS (SR.q' (r_mv (v := str _) rfl) <| SR.q' (r_len_s und9 rfl) <| SR.call ent49 (c_spec_l1In w4 (s.length : Int) 1 6) rfl ?_)
    rintro e w66 ⟨rfl, hk67⟩
    refine ⟨_, rfl, ?_⟩
    have hz68 := hk67.size
    have hB69 := hB8.lo hk67
    refine SR.q' (r_not rfl) <| SR.nil ?_
    refine W.cond_n rfl (fun h70 => ?_) (fun h70 => ?_)
    · refine W.seq ?_
      refine W.regS (SR.q' (r_as (v := .int .i64 0) rfl) <| SR.q' (r_as (v := .bool false) rfl) <| SR.nil ?_)
      refine W.ret ?_
      refine ret2 rfl (v := .int .i64 _) (v' := .bool _) rfl rfl ?_
      exact ⟨eR (eT2 (eI (z_c_spec_l1Read_71 s h9 h70)) (eB (z_c_spec_l1Read_72 s h9 h70))), hB69⟩
    · refine W.skip ?_
      refine W.seq ?_
      refine W.regS (SR.q' (r_as (v := .int .i64 0) rfl) <| SR.nil ?_)
      refine W.seq ?_
      refine W.seq ?_
      refine W.regS (SR.q' (r_as (v := .int .i64 0) rfl) <| SR.nil ?_)
      refine W.block ?_
      refine W.loop (σ := (List UInt8) × Nat) (fun g => [(0, str s), (4, str g.1), (5, .int .i64 (decV (g.1.take g.2))), (6, .int .i64 (g.2 : Int))]) (fun g w' => (Lo w w') ∧ (g.1 = stripS s ∧ (g.2 ≤ g.1.length ∧ g.1.length ≤ 6) ∧ ∀ j, j < g.2 → 48 ≤ (gt g.1 j).toNat ∧ (gt g.1 j).toNat ≤ 57)) (fun g => g.1.length - g.2) (s, 0) ?_ ?_ ?_
      · exact ⟨rfl, rfl, (eI (by first | (first | rfl | omega | (rw [decV_next (by omega)])) | (dsimp only; (first | rfl | omega | (rw [decV_next (by omega)]))))), (eI (by first | (first | rfl | omega | (rw [decV_next (by omega)])) | (dsimp only; (first | rfl | omega | (rw [decV_next (by omega)]))))), trivial⟩
      · exact ⟨hB69, (z_c_spec_l1Read_73 s h9 h70)⟩
      · rintro ⟨T, k⟩ f74 w75 hP77
        obtain ⟨hB76, hi78⟩ : (Lo w w75) ∧ (T = stripS s ∧ (k ≤ T.length ∧ T.length ≤ 6) ∧ ∀ j, j < k → 48 ≤ (gt T j).toNat ∧ (gt T j).toNat ≤ 57) := hP77
        refine (?_ : W _ _ _ _ _ (act _ (sets f74 [(0, str s), (4, str T), (5, .int .i64 (decV (T.take k))), (6, .int .i64 (k : Int))])) _)
        have hzw75 := hB76.size
        have hq79 : k ≤ T.length ∧ T.length ≤ 6 := hi78.2.1
        have hq80 : 0 ≤ decV (T.take k) ∧ decV (T.take k) ≤ 999999 := decV_rng hi78.2.2 hi78.2.1.1 (by omega)
        refine W.seq ?_
        refine W.seq ?_
        refine W.regS (SR.q' (r_mv (v := .int .i64 _) rfl) <| SR.q' (r_mv (v := str _) rfl) <| SR.q' (r_len_s und9 rfl) <| SR.q' (r_lt rfl rfl) <| SR.nil ?_)
        refine W.cond_d rfl (fun h81 => ?_) (fun h81 => ?_)
        · refine W.skip ?_
          refine W.seq ?_
          refine W.block ?_
          refine W.seq ?_
          refine W.seq ?_
          refine W.regJS (fun f' w' => At f' [(0, str s), (4, str T), (5, .int .i64 (decV (T.take k))), (6, .int .i64 (k : Int)), (37, .bool (decide ((((gt T k).toNat : Int) < 48) ∨ (57 < ((gt T k).toNat : Int)))))] ∧ Lo w75 w' ∧ (((gt T k).toNat : Int) ≤ 255)) ?_ ?_
          · refine SR.q' (r_mv (v := str _) rfl) <| SR.q' (r_mv (v := .int .i64 _) rfl) <| ?_
            have hq82 := u8_le (gt T k)
            refine SR.q' (r_idxS (i := k) und9 rfl rfl rfl (by first | omega | (simp only [List.length_append, List.length_cons, List.length_nil, List.length_take, List.length_drop]; omega) | (simp only [List.length_append, List.length_cons, List.length_nil, List.length_take, List.length_drop] at *; omega))) <| SR.q' (r_lt rfl rfl) <| SR.q' (r_mv (v := .bool _) rfl) <| SR.splitD (fun h83 => ?_) (fun h83 => ?_)
            · refine SR.s' rfl <| SR.s' rfl <| SR.s' rfl <| SR.s' rfl <| SR.q' (r_pick true rfl (v := .bool true) rfl) <| SR.nil ?_
              exact ⟨_, rfl, ⟨⟨rfl, rfl, rfl, rfl, (eDT ((jot h83).1 trivial)), trivial⟩, (Lo.refl _), hq82⟩⟩
            · refine SR.g' rfl (r_mv (v := str _) rfl) <| SR.g' rfl (r_mv (v := .int .i64 _) rfl) <| SR.g' rfl (r_idxS (i := k) und9 rfl rfl rfl (by first | omega | (simp only [List.length_append, List.length_cons, List.length_nil, List.length_take, List.length_drop]; omega) | (simp only [List.length_append, List.length_cons, List.length_nil, List.length_take, List.length_drop] at *; omega))) <| SR.g' rfl (r_gt rfl rfl) <| SR.q' (r_pick false rfl (v := .bool _) rfl) <| SR.nil ?_
              exact ⟨_, rfl, ⟨⟨rfl, rfl, rfl, rfl, (eDD (jof h83)), trivial⟩, (Lo.refl _), hq82⟩⟩
          rintro f84 w85 ⟨hat86, hk87, hq88⟩
          rw [← sets_of_at hat86]
          have hz89 := hk87.size
          have hB90 := hB76.lo hk87
          refine W.cond_d rfl (fun h91 => ?_) (fun h91 => ?_)
          · refine W.seq ?_
            refine W.regS (SR.q' (r_as (v := .int .i64 0) rfl) <| SR.q' (r_as (v := .bool false) rfl) <| SR.nil ?_)
            refine W.ret ?_
            refine ret2 rfl (v := .int .i64 _) (v' := .bool _) rfl rfl ?_
            exact ⟨eR (eT2 (eI (z_c_spec_l1Read_92 s h9 h70 T k hi78 hq79 hq80 h81 hq88 h91)) (eB (z_c_spec_l1Read_93 s h9 h70 T k hi78 hq79 hq80 h81 hq88 h91))), hB90⟩
          · have hq94 : ¬ (((gt T k).toNat : Int) < 48) := (not_or.1 h91).1
            have hq95 : ¬ (57 < ((gt T k).toNat : Int)) := (not_or.1 h91).2
            refine W.skip ?_
            refine W.regS (SR.q' (r_mv (v := .int .i64 _) rfl) <| SR.q' (r_mul rfl rfl (by omega)) <| SR.q' (r_mv (v := str _) rfl) <| SR.q' (r_mv (v := .int .i64 _) rfl) <| ?_)
            have hq96 := u8_le (gt T k)
            refine SR.q' (r_idxS (i := k) und9 rfl rfl rfl (by first | omega | (simp only [List.length_append, List.length_cons, List.length_nil, List.length_take, List.length_drop]; omega) | (simp only [List.length_append, List.length_cons, List.length_nil, List.length_take, List.length_drop] at *; omega))) <| SR.q' (r_sub8 rfl rfl (by omega)) <| SR.q' (r_convI und3 und5 rfl (by omega)) <| SR.q' (r_add rfl rfl (by omega)) <| SR.q' (r_as (v := .int .i64 _) rfl) <| SR.nil ?_
            refine W.regS (SR.q' (r_mv (v := .int .i64 _) rfl) <| SR.q' (r_add rfl rfl (by omega)) <| SR.q' (r_as (v := .int .i64 _) rfl) <| SR.nil ?_)
            refine ⟨(T, k + 1), _, rfl, ⟨rfl, rfl, (eI (by first | (first | rfl | omega | (rw [decV_next (by omega)])) | (dsimp only; (first | rfl | omega | (rw [decV_next (by omega)]))))), (eI (by first | (first | rfl | omega | (rw [decV_next (by omega)])) | (dsimp only; (first | rfl | omega | (rw [decV_next (by omega)]))))), trivial⟩, ⟨hB90, ?_⟩, ?_⟩
            · exact (z_c_spec_l1Read_97 s h9 h70 T k hi78 hq79 hq80 h81 hq88 h91 hq94 hq95 hq96)
            · exact (z_c_spec_l1Read_98 s h9 h70 T k hi78 hq79 hq80 h81 hq88 h91 hq94 hq95 hq96)
        · refine W.exit (xin_here ?_)
          refine W.seq ?_
          refine W.seq ?_
          refine W.regS (SR.q' (r_mv (v := str _) rfl) <| SR.q' (r_len_s und9 rfl) <| SR.q' (r_mv (v := str _) rfl) <| SR.q' (r_len_s und9 rfl) <| SR.q' (r_lt rfl rfl) <| SR.nil ?_)
          refine W.cond_d rfl (fun h99 => ?_) (fun h99 => ?_)
          · refine W.regS (SR.q' (r_mv (v := .int .i64 _) rfl) <| SR.q' (r_neg rfl (by omega)) <| SR.q' (r_as (v := .int .i64 _) rfl) <| SR.nil ?_)
            refine W.seq ?_
            refine W.seq ?_
            refine W.regS (SR.q' (r_mv (v := .int .i64 _) rfl) <| SR.call ent45 (c_spec_l1Num w75 (-(decV (T.take k))) (by omega)) rfl ?_)
            rintro e w100 ⟨rfl, hk101⟩
            refine ⟨_, rfl, ?_⟩
            have hz102 := hk101.size
            have hB103 := hB76.lo hk101
            have hq104 : (Lib.itoa (-(decV (T.take k)))).length ≤ 21 := itoa_len (n := -(decV (T.take k))) (by omega) (by omega)
            refine SR.q' (r_mv (v := str _) rfl) <| SR.q' (r_nes (s := Lib.itoa (-(decV (T.take k)))) (r := s) rfl rfl) <| SR.nil ?_
            refine W.cond_n rfl (fun h105 => ?_) (fun h105 => ?_)
            · refine W.seq ?_
              refine W.regS (SR.q' (r_as (v := .int .i64 0) rfl) <| SR.q' (r_as (v := .bool false) rfl) <| SR.nil ?_)
              refine W.ret ?_
              refine ret2 rfl (v := .int .i64 _) (v' := .bool _) rfl rfl ?_
              exact ⟨eR (eT2 (eI (z_c_spec_l1Read_106 s h9 h70 T k hi78 hq79 hq80 h81 h99 hq104 h105)) (eB (z_c_spec_l1Read_107 s h9 h70 T k hi78 hq79 hq80 h81 h99 hq104 h105))), hB103⟩
            · refine W.skip ?_
              refine W.seq ?_
              refine W.regS (SR.q' (r_mv (v := .int .i64 _) rfl) <| SR.q' (r_as (v := .int .i64 _) rfl) <| SR.q' (r_as (v := .bool true) rfl) <| SR.nil ?_)
              refine W.ret ?_
              refine ret2 rfl (v := .int .i64 _) (v' := .bool _) rfl rfl ?_
              exact ⟨eR (eT2 (eI (z_c_spec_l1Read_108 s h9 h70 T k hi78 hq79 hq80 h81 h99 hq104 h105)) (eB (z_c_spec_l1Read_109 s h9 h70 T k hi78 hq79 hq80 h81 h99 hq104 h105))), hB103⟩
          · refine W.skip ?_
            refine W.seq ?_
            refine W.seq ?_
            refine W.regS (SR.q' (r_mv (v := .int .i64 _) rfl) <| SR.call ent45 (c_spec_l1Num w75 (decV (T.take k)) (by omega)) rfl ?_)
            rintro e w110 ⟨rfl, hk111⟩
            refine ⟨_, rfl, ?_⟩
            have hz112 := hk111.size
            have hB113 := hB76.lo hk111
            have hq114 : (Lib.itoa (decV (T.take k))).length ≤ 21 := itoa_len (n := decV (T.take k)) (by omega) (by omega)
            refine SR.q' (r_mv (v := str _) rfl) <| SR.q' (r_nes (s := Lib.itoa (decV (T.take k))) (r := s) rfl rfl) <| SR.nil ?_
            refine W.cond_n rfl (fun h115 => ?_) (fun h115 => ?_)
            · refine W.seq ?_
              refine W.regS (SR.q' (r_as (v := .int .i64 0) rfl) <| SR.q' (r_as (v := .bool false) rfl) <| SR.nil ?_)
              refine W.ret ?_
              refine ret2 rfl (v := .int .i64 _) (v' := .bool _) rfl rfl ?_
              exact ⟨eR (eT2 (eI (z_c_spec_l1Read_116 s h9 h70 T k hi78 hq79 hq80 h81 h99 hq114 h115)) (eB (z_c_spec_l1Read_117 s h9 h70 T k hi78 hq79 hq80 h81 h99 hq114 h115))), hB113⟩
            · refine W.skip ?_
              refine W.seq ?_
              refine W.regS (SR.q' (r_mv (v := .int .i64 _) rfl) <| SR.q' (r_as (v := .int .i64 _) rfl) <| SR.q' (r_as (v := .bool true) rfl) <| SR.nil ?_)
              refine W.ret ?_
              refine ret2 rfl (v := .int .i64 _) (v' := .bool _) rfl rfl ?_
              exact ⟨eR (eT2 (eI (z_c_spec_l1Read_118 s h9 h70 T k hi78 hq79 hq80 h81 h99 hq114 h115)) (eB (z_c_spec_l1Read_119 s h9 h70 T k hi78 hq79 hq80 h81 h99 hq114 h115))), hB113⟩

theorem z_c_spec_l31Money_23 (s : List UInt8) (hp0 : (s.length : Int) ≤ 5000000) (n4 : Nat) (hl9 : n4 = (splitB (46 : UInt8) s).length) (hl10 : (n4 : Int) ≤ 9223372036854775807) (hq11 : 1 ≤ (splitB (46 : UInt8) s).length) (h22 : (¬ ((n4 : Int) = 2)) ∨ (¬ (((gt (splitB (46 : UInt8) s) 1).length : Int) = 2))) : (-1) = monN s := by
  first | exact mon_no1 (by assumption) ‹_› | exact mon_no2 ‹_› | exact mon_yes (by assumption) ‹¬ (¬ (_ : Int) = 2 ∨ _)› ‹_›
theorem z_c_spec_l31Money_57 (s : List UInt8) (hp0 : (s.length : Int) ≤ 5000000) (n4 : Nat) (hl9 : n4 = (splitB (46 : UInt8) s).length) (hl10 : (n4 : Int) ≤ 9223372036854775807) (hq11 : 1 ≤ (splitB (46 : UInt8) s).length) (h22 : ¬ ((¬ ((n4 : Int) = 2)) ∨ (¬ (((gt (splitB (46 : UInt8) s) 1).length : Int) = 2)))) (hq24 : (n4 : Int) = 2) (hq25 : ((gt (splitB (46 : UInt8) s) 1).length : Int) = 2) (hx27 : (splitB (46 : UInt8) s)[0]? = some (gt (splitB (46 : UInt8) s) 0)) (hq28 : (gt (splitB (46 : UInt8) s) 0).length ≤ s.length) (hq29 : (gt (splitB (46 : UInt8) s) 0).length ≤ s.length) (hq34 : -999999 ≤ (readN (gt (splitB (46 : UInt8) s) 0)).1 ∧ (readN (gt (splitB (46 : UInt8) s) 0)).1 ≤ 999999) (hx36 : (splitB (46 : UInt8) s)[1]? = some (gt (splitB (46 : UInt8) s) 1)) (hq37 : (gt (splitB (46 : UInt8) s) 1).length ≤ s.length) (hq42 : -999999 ≤ (readN ((gt (splitB (46 : UInt8) s) 1).take 1)).1 ∧ (readN ((gt (splitB (46 : UInt8) s) 1).take 1)).1 ≤ 999999) (hq47 : -999999 ≤ (readN ((gt (splitB (46 : UInt8) s) 1).drop 1)).1 ∧ (readN ((gt (splitB (46 : UInt8) s) 1).drop 1)).1 ≤ 999999) (h56 : ((!((readN (gt (splitB (46 : UInt8) s) 0)).2)) = true) ∨ (((!((readN ((gt (splitB (46 : UInt8) s) 1).take 1)).2)) = true) ∨ ((!((readN ((gt (splitB (46 : UInt8) s) 1).drop 1)).2)) = true))) : (-1) = monN s := by
  first | exact mon_no1 (by assumption) ‹_› | exact mon_no2 ‹_› | exact mon_yes (by assumption) ‹¬ (¬ (_ : Int) = 2 ∨ _)› ‹_›
theorem z_c_spec_l31Money_61 (s : List UInt8) (hp0 : (s.length : Int) ≤ 5000000) (n4 : Nat) (hl9 : n4 = (splitB (46 : UInt8) s).length) (hl10 : (n4 : Int) ≤ 9223372036854775807) (hq11 : 1 ≤ (splitB (46 : UInt8) s).length) (h22 : ¬ ((¬ ((n4 : Int) = 2)) ∨ (¬ (((gt (splitB (46 : UInt8) s) 1).length : Int) = 2)))) (hq24 : (n4 : Int) = 2) (hq25 : ((gt (splitB (46 : UInt8) s) 1).length : Int) = 2) (hx27 : (splitB (46 : UInt8) s)[0]? = some (gt (splitB (46 : UInt8) s) 0)) (hq28 : (gt (splitB (46 : UInt8) s) 0).length ≤ s.length) (hq29 : (gt (splitB (46 : UInt8) s) 0).length ≤ s.length) (hq34 : -999999 ≤ (readN (gt (splitB (46 : UInt8) s) 0)).1 ∧ (readN (gt (splitB (46 : UInt8) s) 0)).1 ≤ 999999) (hx36 : (splitB (46 : UInt8) s)[1]? = some (gt (splitB (46 : UInt8) s) 1)) (hq37 : (gt (splitB (46 : UInt8) s) 1).length ≤ s.length) (hq42 : -999999 ≤ (readN ((gt (splitB (46 : UInt8) s) 1).take 1)).1 ∧ (readN ((gt (splitB (46 : UInt8) s) 1).take 1)).1 ≤ 999999) (hq47 : -999999 ≤ (readN ((gt (splitB (46 : UInt8) s) 1).drop 1)).1 ∧ (readN ((gt (splitB (46 : UInt8) s) 1).drop 1)).1 ≤ 999999) (h56 : ¬ (((!((readN (gt (splitB (46 : UInt8) s) 0)).2)) = true) ∨ (((!((readN ((gt (splitB (46 : UInt8) s) 1).take 1)).2)) = true) ∨ ((!((readN ((gt (splitB (46 : UInt8) s) 1).drop 1)).2)) = true)))) (hq58 : ¬ ((!((readN (gt (splitB (46 : UInt8) s) 0)).2)) = true)) (hq59 : ¬ ((!((readN ((gt (splitB (46 : UInt8) s) 1).take 1)).2)) = true)) (hq60 : ¬ ((!((readN ((gt (splitB (46 : UInt8) s) 1).drop 1)).2)) = true)) : ((100 * ((readN (gt (splitB (46 : UInt8) s) 0)).1)) + (10 * ((readN ((gt (splitB (46 : UInt8) s) 1).take 1)).1))) + ((readN ((gt (splitB (46 : UInt8) s) 1).drop 1)).1) = monN s := by
  first | exact mon_no1 (by assumption) ‹_› | exact mon_no2 ‹_› | exact mon_yes (by assumption) ‹¬ (¬ (_ : Int) = 2 ∨ _)› ‹_›
theorem c_spec_l31Money (w : World) (s : List UInt8) (hp0 : (s.length : Int) ≤ 5000000) : Calls Tryz.prog 36 #[str s] w fun e w' => e = .returned (.int .i64 (monN s)) ∧ Lo w w' := by
  refine calls_W 62 Tryz.func36 rfl rfl rfl ?_
  refine W.seq ?_
  refine W.regS (SR.q' (r_as (v := .int .i64 0) rfl) <| SR.nil ?_)
  refine W.seq ?_
  refine W.regS (SR.q' (r_mv (v := str _) rfl) <| SR.call ent34 (c_spec_l1Split w s (46 : UInt8) (by first | omega | (simp only [List.length_append, List.length_cons, List.length_nil, List.length_take, List.length_drop]; omega))) rfl ?_)
  rintro e w1 ⟨A3, n4, c5, rfl, hO6, hk2⟩
  refine ⟨_, rfl, ?_⟩
  have hz7 := hk2.size
  have hB8 := (Lo.refl w).lo hk2
  have hl9 := hO6.len
  have hl10 := hO6.rd.bound
  have hq11 := splitB_len (46 : UInt8) s
  refine SR.q' (r_as (v := .slice _ _ _) rfl) <| SR.nil ?_
  refine W.seq ?_
  refine W.seq ?_
  refine W.regJS (fun f' w' => At f' [(2, .int .i64 0), (3, .slice A3 n4 c5), (21, .bool (decide ((¬ ((n4 : Int) = 2)) ∨ (¬ (((gt (splitB (46 : UInt8) s) 1).length : Int) = 2)))))] ∧ Lo w1 w') ?_ ?_
  · refine SR.q' (r_mv (v := .slice _ _ _) rfl) <| SR.q' (r_len und51 rfl) <| SR.q' (r_ne rfl rfl) <| SR.q' (r_mv (v := .bool _) rfl) <| SR.splitN (fun h12 => ?_) (fun h12 => ?_)
    · refine SR.s' rfl <| SR.s' rfl <| SR.s' rfl <| SR.s' rfl <| SR.s' rfl <| SR.q' (r_pick true rfl (v := .bool true) rfl) <| SR.nil ?_
      exact ⟨_, rfl, ⟨⟨rfl, rfl, (eDT ((jmf h12).1 trivial)), trivial⟩, (Lo.refl _)⟩⟩
    · refine SR.g' rfl (r_mv (v := .slice _ _ _) rfl) <| ?_
      have hx14 := ((hO6).rd).elem (i := 1) (by omega)
      have hq15 := splitB_el hx14
      refine SR.g' rfl (r_ixR tsl51 ((hO6).rd) rfl rfl (by omega)) <| SR.g' rfl (r_ld (v := str (gt (splitB (46 : UInt8) s) 1)) sca9 rfl (((hO6).rd).cell0 hx14 rfl)) <| SR.g' rfl (r_len_s und9 rfl) <| SR.g' rfl (r_ne rfl rfl) <| SR.q' (r_pick false rfl (v := .bool _) rfl) <| SR.nil ?_
      exact ⟨_, rfl, ⟨⟨rfl, rfl, (eND (jmt h12)), trivial⟩, (Lo.refl _)⟩⟩
  rintro f16 w17 ⟨hat18, hk19⟩
  rw [← sets_of_at hat18]
  have hz20 := hk19.size
  have hB21 := hB8.lo hk19
  refine W.cond_d rfl (fun h22 => ?_) (fun h22 => ?_)
  · refine W.seq ?_
    refine W.regS (SR.q' (r_as (v := .int .i64 (-1)) rfl) <| SR.nil ?_)
    refine W.ret ?_
    refine ret1 rfl (v := .int .i64 _) rfl ?_
    exact ⟨eR (eI (z_c_spec_l31Money_23 s hp0 n4 hl9 hl10 hq11 h22)), hB21⟩
  · have hq24 : (n4 : Int) = 2 := (Classical.not_not.1 (not_or.1 h22).1)
    have hq25 : ((gt (splitB (46 : UInt8) s) 1).length : Int) = 2 := (Classical.not_not.1 (not_or.1 h22).2)
    refine W.skip ?_
    refine W.seq ?_
    refine W.regS (SR.q' (r_mv (v := .slice _ _ _) rfl) <| ?_)
    have hx27 := (((hO6).lo hk19).rd).elem (i := 0) (by omega)
    have hq28 := splitB_gt (46 : UInt8) s
    have hq29 := splitB_el hx27
    refine SR.q' (r_ixR tsl51 (((hO6).lo hk19).rd) rfl rfl (by omega)) <| SR.q' (r_ld (v := str (gt (splitB (46 : UInt8) s) 0)) sca9 rfl ((((hO6).lo hk19).rd).cell0 hx27 rfl)) <| SR.call ent35 (c_spec_l1Read w17 (gt (splitB (46 : UInt8) s) 0)) rfl ?_
    rintro e w30 ⟨rfl, hk31⟩
    refine ⟨_, rfl, ?_⟩
    have hz32 := hk31.size
    have hB33 := hB21.lo hk31
    have hq34 : -999999 ≤ (readN (gt (splitB (46 : UInt8) s) 0)).1 ∧ (readN (gt (splitB (46 : UInt8) s) 0)).1 ≤ 999999 := readN_rng (gt (splitB (46 : UInt8) s) 0)
    refine SR.q' (r_mv (v := .tuple (List.toArray _)) rfl) <| SR.q' (r_ext (v := .int .i64 _) rfl rfl) <| SR.q' (r_ext (v := .bool _) rfl rfl) <| SR.q' (r_as (v := .int .i64 _) rfl) <| SR.q' (r_as (v := .bool _) rfl) <| SR.nil ?_
    refine W.seq ?_
    refine W.regS (SR.q' (r_mv (v := .slice _ _ _) rfl) <| ?_)
    have hx36 := ((((hO6).lo hk19).lo hk31).rd).elem (i := 1) (by omega)
    have hq37 := splitB_el hx36
    refine SR.q' (r_ixR tsl51 ((((hO6).lo hk19).lo hk31).rd) rfl rfl (by omega)) <| SR.q' (r_ld (v := str (gt (splitB (46 : UInt8) s) 1)) sca9 rfl (((((hO6).lo hk19).lo hk31).rd).cell0 hx36 rfl)) <| SR.q' (r_cuthS (h := 1) und9 rfl rfl rfl (by first | omega | (simp only [List.length_append, List.length_cons, List.length_nil, List.length_take, List.length_drop]; omega) | (simp only [List.length_append, List.length_cons, List.length_nil, List.length_take, List.length_drop] at *; omega))) <| SR.call ent35 (c_spec_l1Read w30 ((gt (splitB (46 : UInt8) s) 1).take 1)) rfl ?_
    rintro e w38 ⟨rfl, hk39⟩
    refine ⟨_, rfl, ?_⟩
    have hz40 := hk39.size
    have hB41 := hB33.lo hk39
    have hq42 : -999999 ≤ (readN ((gt (splitB (46 : UInt8) s) 1).take 1)).1 ∧ (readN ((gt (splitB (46 : UInt8) s) 1).take 1)).1 ≤ 999999 := readN_rng ((gt (splitB (46 : UInt8) s) 1).take 1)
    refine SR.q' (r_mv (v := .tuple (List.toArray _)) rfl) <| SR.q' (r_ext (v := .int .i64 _) rfl rfl) <| SR.q' (r_ext (v := .bool _) rfl rfl) <| SR.q' (r_as (v := .int .i64 _) rfl) <| SR.q' (r_as (v := .bool _) rfl) <| SR.nil ?_
    refine W.seq ?_
    refine W.regS (SR.q' (r_mv (v := .slice _ _ _) rfl) <| SR.q' (r_ixR tsl51 (((((hO6).lo hk19).lo hk31).lo hk39).rd) rfl rfl (by omega)) <| SR.q' (r_ld (v := str (gt (splitB (46 : UInt8) s) 1)) sca9 rfl ((((((hO6).lo hk19).lo hk31).lo hk39).rd).cell0 hx36 rfl)) <| SR.q' (r_cutlS (l := 1) und9 rfl rfl rfl (by first | omega | (simp only [List.length_append, List.length_cons, List.length_nil, List.length_take, List.length_drop]; omega) | (simp only [List.length_append, List.length_cons, List.length_nil, List.length_take, List.length_drop] at *; omega))) <| SR.call ent35 (c_spec_l1Read w38 ((gt (splitB (46 : UInt8) s) 1).drop 1)) rfl ?_)
    rintro e w43 ⟨rfl, hk44⟩
    refine ⟨_, rfl, ?_⟩
    have hz45 := hk44.size
    have hB46 := hB41.lo hk44
    have hq47 : -999999 ≤ (readN ((gt (splitB (46 : UInt8) s) 1).drop 1)).1 ∧ (readN ((gt (splitB (46 : UInt8) s) 1).drop 1)).1 ≤ 999999 := readN_rng ((gt (splitB (46 : UInt8) s) 1).drop 1)
    refine SR.q' (r_mv (v := .tuple (List.toArray _)) rfl) <| SR.q' (r_ext (v := .int .i64 _) rfl rfl) <| SR.q' (r_ext (v := .bool _) rfl rfl) <| SR.q' (r_as (v := .int .i64 _) rfl) <| SR.q' (r_as (v := .bool _) rfl) <| SR.nil ?_
    refine W.seq ?_
    refine W.seq ?_
    refine W.regJS (fun f' w' => At f' [(2, .int .i64 0), (4, .int .i64 ((readN (gt (splitB (46 : UInt8) s) 0)).1)), (6, .int .i64 ((readN ((gt (splitB (46 : UInt8) s) 1).take 1)).1)), (8, .int .i64 ((readN ((gt (splitB (46 : UInt8) s) 1).drop 1)).1)), (54, .bool (decide (((!((readN (gt (splitB (46 : UInt8) s) 0)).2)) = true) ∨ (((!((readN ((gt (splitB (46 : UInt8) s) 1).take 1)).2)) = true) ∨ ((!((readN ((gt (splitB (46 : UInt8) s) 1).drop 1)).2)) = true)))))] ∧ Lo w43 w') ?_ ?_
    · refine SR.q' (r_mv (v := .bool _) rfl) <| SR.q' (r_not rfl) <| SR.q' (r_mv (v := .bool _) rfl) <| SR.split (fun h48 => ?_) (fun h48 => ?_)
      · refine SR.s' rfl <| SR.s' rfl <| SR.q' (r_pick true rfl (v := .bool true) rfl) <| SR.q' (r_mv (v := .bool _) rfl) <| SR.s' rfl <| SR.s' rfl <| SR.q' (r_pick true rfl (v := .bool true) rfl) <| SR.nil ?_
        exact ⟨_, rfl, ⟨⟨rfl, rfl, rfl, rfl, (eDT ((jot h48).1 trivial)), trivial⟩, (Lo.refl _)⟩⟩
      · refine SR.g' rfl (r_mv (v := .bool _) rfl) <| SR.g' rfl (r_not rfl) <| SR.q' (r_pick false rfl (v := .bool _) rfl) <| SR.q' (r_mv (v := .bool _) rfl) <| SR.split (fun h49 => ?_) (fun h49 => ?_)
        · refine SR.s' rfl <| SR.s' rfl <| SR.q' (r_pick true rfl (v := .bool true) rfl) <| SR.nil ?_
          exact ⟨_, rfl, ⟨⟨rfl, rfl, rfl, rfl, (eDT (((jot h49).trans (jof (ne_true_of_eq_false h48))).1 trivial)), trivial⟩, (Lo.refl _)⟩⟩
        · refine SR.g' rfl (r_mv (v := .bool _) rfl) <| SR.g' rfl (r_not rfl) <| SR.q' (r_pick false rfl (v := .bool _) rfl) <| SR.nil ?_
          exact ⟨_, rfl, ⟨⟨rfl, rfl, rfl, rfl, (eBD ((jof (ne_true_of_eq_false h49)).trans (jof (ne_true_of_eq_false h48)))), trivial⟩, (Lo.refl _)⟩⟩
    rintro f50 w51 ⟨hat52, hk53⟩
    rw [← sets_of_at hat52]
    have hz54 := hk53.size
    have hB55 := hB46.lo hk53
    refine W.cond_d rfl (fun h56 => ?_) (fun h56 => ?_)
    · refine W.seq ?_
      refine W.regS (SR.q' (r_as (v := .int .i64 (-1)) rfl) <| SR.nil ?_)
      refine W.ret ?_
      refine ret1 rfl (v := .int .i64 _) rfl ?_
      exact ⟨eR (eI (z_c_spec_l31Money_57 s hp0 n4 hl9 hl10 hq11 h22 hq24 hq25 hx27 hq28 hq29 hq34 hx36 hq37 hq42 hq47 h56)), hB55⟩
    · have hq58 : ¬ ((!((readN (gt (splitB (46 : UInt8) s) 0)).2)) = true) := (not_or.1 h56).1
      have hq59 : ¬ ((!((readN ((gt (splitB (46 : UInt8) s) 1).take 1)).2)) = true) := (not_or.1 (not_or.1 h56).2).1
      have hq60 : ¬ ((!((readN ((gt (splitB (46 : UInt8) s) 1).drop 1)).2)) = true) := (not_or.1 (not_or.1 h56).2).2
      refine W.skip ?_
      refine W.seq ?_
      refine W.regS (SR.q' (r_mv (v := .int .i64 _) rfl) <| SR.q' (r_mul rfl rfl (by omega)) <| SR.q' (r_mv (v := .int .i64 _) rfl) <| SR.q' (r_mul rfl rfl (by omega)) <| SR.q' (r_add rfl rfl (by omega)) <| SR.q' (r_mv (v := .int .i64 _) rfl) <| SR.q' (r_add rfl rfl (by omega)) <| SR.q' (r_as (v := .int .i64 _) rfl) <| SR.nil ?_)
      refine W.ret ?_
      refine ret1 rfl (v := .int .i64 _) rfl ?_
      exact ⟨eR (eI (z_c_spec_l31Money_61 s hp0 n4 hl9 hl10 hq11 h22 hq24 hq25 hx27 hq28 hq29 hq34 hx36 hq37 hq42 hq47 h56 hq58 hq59 hq60)), hB55⟩

theorem z_c_impl_readFines_7 (s : List UInt8) (hp0 : (s.length : Int) < 4294967281) (hq5 : (Lib.cut s ([46] : List UInt8)).1.length ≤ s.length ∧ (Lib.cut s ([46] : List UInt8)).2.1.length ≤ s.length) (h6 : ¬ ((((Lib.cut s ([46] : List UInt8)).2.1).length : Int) = 2)) : (-1) = fineN s := by
  unfold fineN; first | (rw [if_neg (by omega)]; done) | (rw [if_pos (by omega)]; done)
theorem z_c_impl_readFines_15 (s : List UInt8) (hp0 : (s.length : Int) < 4294967281) (hq5 : (Lib.cut s ([46] : List UInt8)).1.length ≤ s.length ∧ (Lib.cut s ([46] : List UInt8)).2.1.length ≤ s.length) (h6 : (((Lib.cut s ([46] : List UInt8)).2.1).length : Int) = 2) (hq8 : -1000000 ≤ numN ((Lib.cut s ([46] : List UInt8)).1) ∧ numN ((Lib.cut s ([46] : List UInt8)).1) ≤ 999999) (hq9 : -1000000 ≤ numN (((Lib.cut s ([46] : List UInt8)).2.1).take 1) ∧ numN (((Lib.cut s ([46] : List UInt8)).2.1).take 1) ≤ 999999) (hq10 : -1000000 ≤ numN (((Lib.cut s ([46] : List UInt8)).2.1).drop 1) ∧ numN (((Lib.cut s ([46] : List UInt8)).2.1).drop 1) ≤ 999999) : ((100 * (numN ((Lib.cut s ([46] : List UInt8)).1))) + (10 * (numN (((Lib.cut s ([46] : List UInt8)).2.1).take 1)))) + (numN (((Lib.cut s ([46] : List UInt8)).2.1).drop 1)) = fineN s := by
  unfold fineN; first | (rw [if_neg (by omega)]; done) | (rw [if_pos (by omega)]; done)
theorem c_impl_readFines (w : World) (s : List UInt8) (hp0 : (s.length : Int) < 4294967281) (hE : EnvW w) : Calls Tryz.prog 31 #[str s] w fun e w' => e = .returned (.int .i64 (fineN s)) ∧ Lo w w' := by
  refine calls_W 27 Tryz.func31 rfl rfl rfl ?_
  refine W.seq ?_
  refine W.regS (SR.q' (r_as (v := .int .i64 0) rfl) <| SR.nil ?_)
  refine W.seq ?_
  refine W.regS (SR.q' (r_mv (v := str _) rfl) <| SR.call ent27 (c_strings_Cut w s ([46] : List UInt8) (by omega) (hE.lo ((Lo.refl w)))) rfl ?_)
  rintro e w1 ⟨rfl, hk2⟩
  refine ⟨_, rfl, ?_⟩
  have hz3 := hk2.size
  have hB4 := (Lo.refl w).lo hk2
  have hq5 : (Lib.cut s ([46] : List UInt8)).1.length ≤ s.length ∧ (Lib.cut s ([46] : List UInt8)).2.1.length ≤ s.length := cut_len s ([46] : List UInt8)
  refine SR.q' (r_mv (v := .tuple (List.toArray _)) rfl) <| SR.q' (r_ext (v := str _) rfl rfl) <| SR.q' (r_ext (v := str _) rfl rfl) <| SR.q' (r_ext (v := .bool _) rfl rfl) <| SR.q' (r_as (v := str _) rfl) <| SR.q' (r_as (v := str _) rfl) <| SR.q' (r_as (v := .bool _) rfl) <| SR.nil ?_
  refine W.seq ?_
  refine W.seq ?_
  refine W.regS (SR.q' (r_mv (v := str _) rfl) <| SR.q' (r_len_s und9 rfl) <| SR.q' (r_ne rfl rfl) <| SR.nil ?_)
  refine W.cond_n rfl (fun h6 => ?_) (fun h6 => ?_)
  · refine W.seq ?_
    refine W.regS (SR.q' (r_as (v := .int .i64 (-1)) rfl) <| SR.nil ?_)
    refine W.ret ?_
    refine ret1 rfl (v := .int .i64 _) rfl ?_
    exact ⟨eR (eI (z_c_impl_readFines_7 s hp0 hq5 h6)), hB4⟩
  · refine W.skip ?_
    refine W.seq ?_
    refine W.regD mo (by kernel_rfl) (QR.q' (fun w' hw' => r_mv (v := str _) rfl) <| QR.call ent29 (fun w' hw' => (c_impl_number w' ((Lib.cut s ([46] : List UInt8)).1) (by first | omega | (simp only [List.length_append, List.length_cons, List.length_nil, List.length_take, List.length_drop]; omega)) (hE.lo (hB4.trans hw'))).mono fun _ _ h => ⟨h.1, hw'.trans h.2⟩) rfl <| ?_)
    have hq8 : -1000000 ≤ numN ((Lib.cut s ([46] : List UInt8)).1) ∧ numN ((Lib.cut s ([46] : List UInt8)).1) ≤ 999999 := numN_rng ((Lib.cut s ([46] : List UInt8)).1)
    refine QR.q' (fun w' hw' => r_mul rfl rfl (by omega)) <| QR.q' (fun w' hw' => r_mv (v := str _) rfl) <| QR.q' (fun w' hw' => r_cuthS (h := 1) und9 rfl rfl rfl (by first | omega | (simp only [List.length_append, List.length_cons, List.length_nil, List.length_take, List.length_drop]; omega) | (simp only [List.length_append, List.length_cons, List.length_nil, List.length_take, List.length_drop] at *; omega))) <| QR.call ent29 (fun w' hw' => (c_impl_number w' (((Lib.cut s ([46] : List UInt8)).2.1).take 1) (by first | omega | (simp only [List.length_append, List.length_cons, List.length_nil, List.length_take, List.length_drop]; omega)) (hE.lo (hB4.trans hw'))).mono fun _ _ h => ⟨h.1, hw'.trans h.2⟩) rfl <| ?_
    have hq9 : -1000000 ≤ numN (((Lib.cut s ([46] : List UInt8)).2.1).take 1) ∧ numN (((Lib.cut s ([46] : List UInt8)).2.1).take 1) ≤ 999999 := numN_rng (((Lib.cut s ([46] : List UInt8)).2.1).take 1)
    refine QR.q' (fun w' hw' => r_mul rfl rfl (by omega)) <| QR.q' (fun w' hw' => r_add rfl rfl (by omega)) <| QR.q' (fun w' hw' => r_mv (v := str _) rfl) <| QR.q' (fun w' hw' => r_cutlS (l := 1) und9 rfl rfl rfl (by first | omega | (simp only [List.length_append, List.length_cons, List.length_nil, List.length_take, List.length_drop]; omega) | (simp only [List.length_append, List.length_cons, List.length_nil, List.length_take, List.length_drop] at *; omega))) <| QR.call ent29 (fun w' hw' => (c_impl_number w' (((Lib.cut s ([46] : List UInt8)).2.1).drop 1) (by first | omega | (simp only [List.length_append, List.length_cons, List.length_nil, List.length_take, List.length_drop]; omega)) (hE.lo (hB4.trans hw'))).mono fun _ _ h => ⟨h.1, hw'.trans h.2⟩) rfl <| ?_
    have hq10 : -1000000 ≤ numN (((Lib.cut s ([46] : List UInt8)).2.1).drop 1) ∧ numN (((Lib.cut s ([46] : List UInt8)).2.1).drop 1) ≤ 999999 := numN_rng (((Lib.cut s ([46] : List UInt8)).2.1).drop 1)
    refine QR.q' (fun w' hw' => r_add rfl rfl (by omega)) <| QR.q' (fun w' hw' => r_as (v := .int .i64 _) rfl) <| QR.nil ?_
    intro w11 hk12
    have hz13 := hk12.size
    have hB14 := hB4.lo hk12
    refine W.ret ?_
    refine ret1 rfl (v := .int .i64 _) rfl ?_
    exact ⟨eR (eI (z_c_impl_readFines_15 s hp0 hq5 h6 hq8 hq9 hq10)), hB14⟩
end Go.Proofs.YtnbbfokkpkphoaaGreatDoor
