/- Walks, printed by a program of this claim's author. -/
import Derived.Test.YthlbmkpkgiabnaaDoorChecked
import Derived.Test.YthlbmkpkgiabnaaDoorWb
import Derived.Test.YthlbmkpkgiabnaaDoorFt
import Derived.Test.YthlbmkpkgiabnaaDoorSi
import Derived.Test.YthlbmkpkgiabnaaDoorG33z
namespace Go.Proofs.YthlbmkpkgiabnaaDoor
open Go Go.RowKit Fw
set_option maxRecDepth 10000
set_option linter.unusedVariables false
theorem ent14 : Ent Tryd.prog 14 := ent_of Tryd.func14 (by decide +kernel) rfl
theorem ent17 : Ent Tryd.prog 17 := ent_of Tryd.func17 (by decide +kernel) rfl
theorem ent18 : Ent Tryd.prog 18 := ent_of Tryd.func18 (by decide +kernel) rfl
theorem ent27 : Ent Tryd.prog 27 := ent_of Tryd.func27 (by decide +kernel) rfl
theorem ent35 : Ent Tryd.prog 35 := ent_of Tryd.func35 (by decide +kernel) rfl
theorem ent36 : Ent Tryd.prog 36 := ent_of Tryd.func36 (by decide +kernel) rfl
theorem ent37 : Ent Tryd.prog 37 := ent_of Tryd.func37 (by decide +kernel) rfl
theorem eqg31 : Tryd.prog.eqGuardType Tryd.prog.depth 31 = false := by kernel_rfl
theorem eql31 (a b : Log) (w : World) : (binOp .eql 31 (.agg (List.toArray (encLog a))) (.agg (List.toArray (encLog b)))).run Tryd.prog w = .ok (.bool (decide (a = b))) w := by
  have u3 := Tryd.underlying3
  have a3 := Tryd.isAgg3
  have z3 := Tryd.sizeOf3
  have u9 := Tryd.underlying9
  have a9 := Tryd.isAgg9
  have z9 := Tryd.sizeOf9
  have q9 := eqin_str (P := Tryd.prog) u9
  have hS : Tryd.prog.underlying 31 = some (.struct (Tryd.prog.fieldsOf 31)) := by kernel_rfl
  have hp : Tryd.prog.stoodInHeld 31 = false := by kernel_rfl
  have hd : (a = b) ↔ a.Durable = b.Durable ∧ a.Pending = b.Pending ∧ a.Count = b.Count := by cases a; cases b; simp
  simp only [encLog, hd]
  rw [run_eql_struct, show (10000 : Nat) = 9999 + 1 from rfl, run_equalIn_agg w 9999 31 _ _ hS hp]
  simp only [Program.fieldsOf, Tryd.underlying31]
  go_simp
  try simp only [q9, Result.andThen_ok]
  by_cases h0 : a.Durable = b.Durable <;> by_cases h1 : a.Pending = b.Pending <;> by_cases h2 : a.Count = b.Count <;> simp [h0, h1, h2]
theorem und4 : Tryd.prog.underlying 4 = some (.bool) := by kernel_rfl

theorem z_c_laws_FnLogLines_118 (L : List UInt8) (nL : Nat) (hbdL : (nL : Int) ≤ 9223372036854775807) (hleL : nL = L.length) (h5 : ¬ (65536 < (L.length : Int))) (v8 : Int) (v9 : LogRecord) (hq10 : -1000000000 ≤ v8 ∧ v8 ≤ 1000000000) (hq11 : v9.Command.length ≤ 40 ∧ v9.Reply.length ≤ 40) (hq14 : EncLaw v8 v9) (hq34 : (encN v8 v9).1.length ≤ 406) (v42 : List UInt8) (hq43 : v42.length ≤ 60000) (hq46 : RecLaw v42) (hq51 : (recovN v42).1.Durable.length + (recovN v42).1.Pending.length ≤ 30000) (hq70 : (recovN v42).1.Durable.length + (recovN v42).1.Pending.length ≤ 30000) (hq90 : (recovN ((encN v8 v9).1)).1.Durable.length + (recovN ((encN v8 v9).1)).1.Pending.length ≤ 30000) (h115 : (((encN v8 v9).2) = true) ∧ (((!((decide (0 < ((recovN ((encN v8 v9).1)).2.1))) == (decide (v8 = 0)))) = true) ∨ ((v8 = 0) ∧ (¬ ((((recovN ((encN v8 v9).1)).1).Count) = 1))))) (hq116 : ((encN v8 v9).2) = true) (hq117 : ((!((decide (0 < ((recovN ((encN v8 v9).1)).2.1))) == (decide (v8 = 0)))) = true) ∨ ((v8 = 0) ∧ (¬ ((((recovN ((encN v8 v9).1)).1).Count) = 1)))) : false = true := by
  first | (exfalso; exact lines_no ‹EncLaw _ _› ‹(encN _ _).2 = true ∧ _›) | exact decide_eq_true (lines_yes ‹EncLaw _ _› ‹RecLaw _›)
theorem z_c_laws_FnLogLines_153 (L : List UInt8) (nL : Nat) (hbdL : (nL : Int) ≤ 9223372036854775807) (hleL : nL = L.length) (h5 : ¬ (65536 < (L.length : Int))) (v8 : Int) (v9 : LogRecord) (hq10 : -1000000000 ≤ v8 ∧ v8 ≤ 1000000000) (hq11 : v9.Command.length ≤ 40 ∧ v9.Reply.length ≤ 40) (hq14 : EncLaw v8 v9) (hq34 : (encN v8 v9).1.length ≤ 406) (v42 : List UInt8) (hq43 : v42.length ≤ 60000) (hq46 : RecLaw v42) (hq51 : (recovN v42).1.Durable.length + (recovN v42).1.Pending.length ≤ 30000) (hq70 : (recovN v42).1.Durable.length + (recovN v42).1.Pending.length ≤ 30000) (hq90 : (recovN ((encN v8 v9).1)).1.Durable.length + (recovN ((encN v8 v9).1)).1.Pending.length ≤ 30000) (h115 : ¬ ((((encN v8 v9).2) = true) ∧ (((!((decide (0 < ((recovN ((encN v8 v9).1)).2.1))) == (decide (v8 = 0)))) = true) ∨ ((v8 = 0) ∧ (¬ ((((recovN ((encN v8 v9).1)).1).Count) = 1)))))) : decide (((!((recovN v42).2.2)) = true) ∨ ((((syncN ((recovN v42).1)).2) = true) ∧ ((((syncN ((recovN v42).1)).1) = ((recovN v42).1)) ∧ ((LogOK ((recovN v42).1)) ∧ ((((encN v8 v9).2) = true) ∨ (((encN v8 v9).1) = ([] : List UInt8))))))) = true := by
  first | (exfalso; exact lines_no ‹EncLaw _ _› ‹(encN _ _).2 = true ∧ _›) | exact decide_eq_true (lines_yes ‹EncLaw _ _› ‹RecLaw _›)
theorem c_laws_FnLogLines (w : World) {AL : Option Addr} {nL cL BL : Nat}  (L : List UInt8) (hL : SlR w BL encB 1 AL nL cL L) (hE : EnvW w) : Calls Tryd.prog 10 #[.slice AL nL cL] w fun e w' => e = .returned (.bool true) ∧ Lo w w' := by
  refine calls_W 129 Tryd.func10 rfl rfl rfl ?_
  have hbdL := hL.bound
  have hleL := hL.len
  have hBbL := hL.bd
  refine W.seq ?_
  refine W.regS (SR.q' (r_as (v := .bool false) rfl) <| SR.nil ?_)
  refine W.seq ?_
  refine W.seq ?_
  refine W.regS (SR.q' (r_mv (v := .slice _ _ _) rfl) <| SR.call ent35 (c_laws_vBig w L ((hL))) rfl ?_)
  rintro e w1 ⟨rfl, hk2⟩
  refine ⟨_, rfl, ?_⟩
  have hz3 := hk2.size
  have hB4 := (Lo.refl w).lo hk2
  refine SR.nil ?_
  refine W.cond_d rfl (fun h5 => ?_) (fun h5 => ?_)
  · refine W.seq ?_
    refine W.regS (SR.q' (r_as (v := .bool true) rfl) <| SR.nil ?_)
    refine W.ret ?_
    refine ret1 rfl (v := .bool _) rfl ?_
    exact ⟨eR rfl, hB4⟩
  · refine W.skip ?_
    refine W.seq ?_
    refine W.regS (SR.q' (r_mv (v := .slice _ _ _) rfl) <| SR.call ent36 (c_spec_DrawEncodeRecord w1 L (((hL).lo hk2)) (by omega)) rfl ?_)
    rintro e w6 ⟨v8, v9, rfl, hq10, hq11, hk7⟩
    refine ⟨_, rfl, ?_⟩
    have hz12 := hk7.size
    have hB13 := hB4.lo hk7
    have hq14 : EncLaw v8 v9 := enc_law v8 v9
    refine SR.q' (r_mv (v := .tuple (List.toArray _)) rfl) <| SR.q' (r_ext (v := .int .i64 _) rfl rfl) <| SR.q' (r_ext (v := .agg (List.toArray _)) rfl rfl) <| SR.alloc (l := [str ([] : List UInt8), str ([] : List UInt8)]) tz27 rfl ?_
    intro g15 w16 hg17 hk18 hs19 hb20
    have hz21 := hk18.size
    have hB22 := hB13.lo hk18
    refine SR.q' (r_as (v := .int .i64 _) rfl) <| SR.store (o := 0) (vs := [str v9.Command, str v9.Reply]) agg27.2 rfl rfl rfl rfl (hb20) (Nat.le_of_ble_eq_true rfl) rfl ?_
    intro w23 hk24 hs25 hb26
    have hz27 := hk24.size
    have hB28 := hB22.new hk24 (by omega)
    refine SR.nil ?_
    refine W.seq ?_
    have hm29 := ((((hL).lo hk2).lo hk7).lo hk18).kp hk24 (fun b_ hb e' => by have e'' : b_ = g15 := e'; omega)
    refine W.regS (SR.q' (r_mv (v := .int .i64 _) rfl) <| SR.q' (r_lda (l := [str v9.Command, str v9.Reply]) agg27 rfl (fun _ _ hu => (hb26).cell hu) rfl) <| SR.call ent16 (c_impl_EncodeRecord w23 v8 v9 (hE.lo (hB28))) rfl ?_)
    rintro e w30 ⟨rfl, hk31⟩
    refine ⟨_, rfl, ?_⟩
    have hz32 := hk31.size
    have hB33 := hB28.lo hk31
    have hq34 : (encN v8 v9).1.length ≤ 406 := enc_len v8 v9
    refine SR.q' (r_mv (v := .tuple (List.toArray _)) rfl) <| SR.q' (r_ext (v := str _) rfl rfl) <| SR.q' (r_ext (v := .bool _) rfl rfl) <| SR.q' (r_as (v := str _) rfl) <| SR.q' (r_as (v := .bool _) rfl) <| SR.nil ?_
    refine W.seq ?_
    refine W.regS (SR.q' (r_mv (v := .int .i64 _) rfl) <| SR.q' (r_lda (l := [str v9.Command, str v9.Reply]) agg27 rfl (fun _ _ hu => ((hb26).lo hk31).cell hu) rfl) <| SR.call ent14 (c_spec_EncodeRecord w30 v8 v9 (by omega)) rfl ?_)
    rintro e w35 ⟨rfl, hk36⟩
    refine ⟨_, rfl, ?_⟩
    have hz37 := hk36.size
    have hB38 := hB33.lo hk36
    refine SR.q' (r_mv (v := .tuple (List.toArray _)) rfl) <| SR.q' (r_ext (v := str _) rfl rfl) <| SR.q' (r_ext (v := .bool _) rfl rfl) <| SR.q' (r_as (v := str _) rfl) <| SR.q' (r_as (v := .bool _) rfl) <| SR.nil ?_
    refine W.seq ?_
    have hm39 := ((hm29).lo hk31).lo hk36
    refine W.regS (SR.q' (r_mv (v := .slice _ _ _) rfl) <| SR.call ent37 (c_spec_DrawRecoverLog w35 L ((hm39)) (by omega)) rfl ?_)
    rintro e w40 ⟨v42, rfl, hq43, hk41⟩
    refine ⟨_, rfl, ?_⟩
    have hz44 := hk41.size
    have hB45 := hB38.lo hk41
    have hq46 : RecLaw v42 := rec_law v42
    refine SR.q' (r_as (v := str _) rfl) <| SR.nil ?_
    refine W.seq ?_
    refine W.regS (SR.q' (r_mv (v := str _) rfl) <| SR.call ent18 (c_impl_RecoverLog w40 v42 (hE.lo (hB45))) rfl ?_)
    rintro e w47 ⟨rfl, hk48⟩
    refine ⟨_, rfl, ?_⟩
    have hz49 := hk48.size
    have hB50 := hB45.lo hk48
    have hq51 : (recovN v42).1.Durable.length + (recovN v42).1.Pending.length ≤ 30000 := recov_len v42
    refine SR.q' (r_mv (v := .tuple (List.toArray _)) rfl) <| SR.q' (r_ext (v := .agg (List.toArray _)) rfl rfl) <| SR.q' (r_ext (v := .int .i64 _) rfl rfl) <| SR.q' (r_ext (v := .bool _) rfl rfl) <| SR.alloc (l := [str ([] : List UInt8), str ([] : List UInt8), .int .i64 0]) tz31 rfl ?_
    intro g52 w53 hg54 hk55 hs56 hb57
    have hz58 := hk55.size
    have hB59 := hB50.lo hk55
    refine SR.store (o := 0) (vs := [str (((recovN v42).1).Durable), str (((recovN v42).1).Pending), .int .i64 (((recovN v42).1).Count)]) agg31.2 rfl rfl rfl rfl (hb57) (Nat.le_of_ble_eq_true rfl) rfl ?_
    intro w60 hk61 hs62 hb63
    have hz64 := hk61.size
    have hB65 := hB59.new hk61 (by omega)
    refine SR.q' (r_as (v := .int .i64 _) rfl) <| SR.q' (r_as (v := .bool _) rfl) <| SR.nil ?_
    refine W.seq ?_
    refine W.regS (SR.q' (r_mv (v := str _) rfl) <| SR.call ent17 (c_spec_RecoverLog w60 v42) rfl ?_)
    rintro e w66 ⟨rfl, hk67⟩
    refine ⟨_, rfl, ?_⟩
    have hz68 := hk67.size
    have hB69 := hB65.lo hk67
    have hq70 : (recovN v42).1.Durable.length + (recovN v42).1.Pending.length ≤ 30000 := recov_len v42
    refine SR.q' (r_mv (v := .tuple (List.toArray _)) rfl) <| SR.q' (r_ext (v := .agg (List.toArray _)) rfl rfl) <| SR.q' (r_ext (v := .int .i64 _) rfl rfl) <| SR.q' (r_ext (v := .bool _) rfl rfl) <| SR.alloc (l := [str ([] : List UInt8), str ([] : List UInt8), .int .i64 0]) tz31 rfl ?_
    intro g71 w72 hg73 hk74 hs75 hb76
    have hz77 := hk74.size
    have hB78 := hB69.lo hk74
    refine SR.store (o := 0) (vs := [str (((recovN v42).1).Durable), str (((recovN v42).1).Pending), .int .i64 (((recovN v42).1).Count)]) agg31.2 rfl rfl rfl rfl (hb76) (Nat.le_of_ble_eq_true rfl) rfl ?_
    intro w79 hk80 hs81 hb82
    have hz83 := hk80.size
    have hB84 := hB78.new hk80 (by omega)
    refine SR.q' (r_as (v := .int .i64 _) rfl) <| SR.q' (r_as (v := .bool _) rfl) <| SR.nil ?_
    refine W.seq ?_
    refine W.seq ?_
    have hm85 := (((hb63).lo hk67).lo hk74).kp hk80 (fun e' => by have e'' : g52 = g71 := e'; omega)
    refine W.regS (SR.q' (r_mv (v := str _) rfl) <| SR.q' (r_mv (v := str _) rfl) <| SR.q' (r_nes_s (s := (encN v8 v9).1) rfl rfl) <| SR.q' (r_mv (v := .bool _) rfl) <| SR.g' rfl (r_mv (v := .bool _) rfl) <| SR.g' rfl (r_mv (v := .bool _) rfl) <| SR.g' rfl (r_neb_s und4 rfl rfl) <| SR.q' (r_pick false rfl (v := .bool _) rfl) <| SR.q' (r_mv (v := .bool _) rfl) <| SR.g' rfl (r_lda (l := [str (((recovN v42).1).Durable), str (((recovN v42).1).Pending), .int .i64 (((recovN v42).1).Count)]) agg31 rfl (fun _ _ hu => (hm85).cell hu) rfl) <| SR.g' rfl (r_lda (l := [str (((recovN v42).1).Durable), str (((recovN v42).1).Pending), .int .i64 (((recovN v42).1).Count)]) agg31 rfl (fun _ _ hu => (hb82).cell hu) rfl) <| SR.g' rfl (r_neA_s (l := encLog ((recovN v42).1)) (r := encLog ((recovN v42).1)) rfl rfl eqg31 (eql31 ((recovN v42).1) ((recovN v42).1))) <| SR.q' (r_pick false rfl (v := .bool _) rfl) <| SR.q' (r_mv (v := .bool _) rfl) <| SR.g' rfl (r_mv (v := .int .i64 _) rfl) <| SR.g' rfl (r_mv (v := .int .i64 _) rfl) <| SR.g' rfl (r_ne_s rfl rfl) <| SR.q' (r_pick false rfl (v := .bool _) rfl) <| SR.q' (r_mv (v := .bool _) rfl) <| SR.g' rfl (r_mv (v := .bool _) rfl) <| SR.g' rfl (r_mv (v := .bool _) rfl) <| SR.g' rfl (r_neb_s und4 rfl rfl) <| SR.q' (r_pick false rfl (v := .bool _) rfl) <| SR.nil ?_)
    refine W.cond_f rfl ?_
    refine W.skip ?_
    refine W.seq ?_
    refine W.regS (SR.q' (r_mv (v := str _) rfl) <| SR.call ent18 (c_impl_RecoverLog w79 ((encN v8 v9).1) (hE.lo (hB84))) rfl ?_)
    rintro e w86 ⟨rfl, hk87⟩
    refine ⟨_, rfl, ?_⟩
    have hz88 := hk87.size
    have hB89 := hB84.lo hk87
    have hq90 : (recovN ((encN v8 v9).1)).1.Durable.length + (recovN ((encN v8 v9).1)).1.Pending.length ≤ 30000 := recov_len ((encN v8 v9).1)
    refine SR.q' (r_mv (v := .tuple (List.toArray _)) rfl) <| SR.q' (r_ext (v := .agg (List.toArray _)) rfl rfl) <| SR.q' (r_ext (v := .int .i64 _) rfl rfl) <| SR.q' (r_ext (v := .bool _) rfl rfl) <| SR.alloc (l := [str ([] : List UInt8), str ([] : List UInt8), .int .i64 0]) tz31 rfl ?_
    intro g91 w92 hg93 hk94 hs95 hb96
    have hz97 := hk94.size
    have hB98 := hB89.lo hk94
    refine SR.store (o := 0) (vs := [str (((recovN ((encN v8 v9).1)).1).Durable), str (((recovN ((encN v8 v9).1)).1).Pending), .int .i64 (((recovN ((encN v8 v9).1)).1).Count)]) agg31.2 rfl rfl rfl rfl (hb96) (Nat.le_of_ble_eq_true rfl) rfl ?_
    intro w99 hk100 hs101 hb102
    have hz103 := hk100.size
    have hB104 := hB98.new hk100 (by omega)
    refine SR.q' (r_as (v := .int .i64 _) rfl) <| SR.q' (r_as (v := .bool _) rfl) <| SR.nil ?_
    refine W.seq ?_
    refine W.seq ?_
    have hm105 := (((hm85).lo hk87).lo hk94).kp hk100 (fun e' => by have e'' : g52 = g91 := e'; omega)
    refine W.regJS (fun f' w' => At f' [(2, .bool false), (5, str ((encN v8 v9).1)), (6, .bool ((encN v8 v9).2)), (10, .pointer (some ((⟨g52, 0, none⟩ : Addr)))), (12, .bool ((recovN v42).2.2)), (102, .bool (decide ((((encN v8 v9).2) = true) ∧ (((!((decide (0 < ((recovN ((encN v8 v9).1)).2.1))) == (decide (v8 = 0)))) = true) ∨ ((v8 = 0) ∧ (¬ ((((recovN ((encN v8 v9).1)).1).Count) = 1)))))))] ∧ Lo w99 w') ?_ ?_
    · refine SR.q' (r_mv (v := .bool _) rfl) <| SR.q' (r_mv (v := .bool _) rfl) <| SR.split (fun h106 => ?_) (fun h106 => ?_)
      · refine SR.g' rfl (r_mv (v := .int .i64 _) rfl) <| SR.g' rfl (r_gt rfl rfl) <| SR.g' rfl (r_mv (v := .int .i64 _) rfl) <| SR.g' rfl (r_eq rfl rfl) <| SR.g' rfl (r_neb und4 rfl rfl) <| SR.q' (r_pick true rfl (v := .bool _) rfl) <| SR.q' (r_mv (v := .bool _) rfl) <| SR.split (fun h107 => ?_) (fun h107 => ?_)
        · refine SR.s' rfl <| SR.s' rfl <| SR.u' rfl <| SR.u' rfl <| SR.s' rfl <| SR.s' rfl <| SR.u' rfl <| SR.u' rfl <| SR.u' rfl <| SR.s' rfl <| SR.q' (r_pick true rfl (v := .bool true) rfl) <| SR.nil ?_
          exact ⟨_, rfl, ⟨⟨rfl, rfl, rfl, rfl, rfl, (eDT (((jot h107).trans (jat h106)).1 trivial)), trivial⟩, (Lo.refl _)⟩⟩
        · refine SR.g' rfl (r_mv (v := .bool _) rfl) <| SR.g' rfl (r_mv (v := .bool _) rfl) <| SR.known (h106) <| SR.g' rfl (r_mv (v := .int .i64 _) rfl) <| SR.g' rfl (r_eq rfl rfl) <| SR.g' rfl (r_pick true rfl (v := .bool _) rfl) <| SR.g' rfl (r_mv (v := .bool _) rfl) <| SR.splitD (fun h108 => ?_) (fun h108 => ?_)
          · refine SR.g' rfl (r_fa fa31_2 rfl) <| SR.g' rfl (r_ld (v := .int .i64 (((recovN ((encN v8 v9).1)).1).Count)) sca3 rfl ((hb102).cell rfl)) <| SR.g' rfl (r_ne rfl rfl) <| SR.g' rfl (r_pick true rfl (v := .bool _) rfl) <| SR.q' (r_pick false rfl (v := .bool _) rfl) <| SR.nil ?_
            exact ⟨_, rfl, ⟨⟨rfl, rfl, rfl, rfl, rfl, (eND (((jat h108).trans (jof (ne_true_of_eq_false h107))).trans (jat h106))), trivial⟩, (Lo.refl _)⟩⟩
          · refine SR.s' rfl <| SR.s' rfl <| SR.s' rfl <| SR.g' rfl (r_pick false rfl (v := .bool false) rfl) <| SR.q' (r_pick false rfl (v := .bool _) rfl) <| SR.nil ?_
            exact ⟨_, rfl, ⟨⟨rfl, rfl, rfl, rfl, rfl, (eDF (((jaf h108).trans (jof (ne_true_of_eq_false h107))).trans (jat h106)).2), trivial⟩, (Lo.refl _)⟩⟩
      · refine SR.s' rfl <| SR.s' rfl <| SR.s' rfl <| SR.s' rfl <| SR.s' rfl <| SR.q' (r_pick false rfl (v := .bool false) rfl) <| SR.q' (r_mv (v := .bool _) rfl) <| SR.g' rfl (r_mv (v := .bool _) rfl) <| SR.g' rfl (r_mv (v := .bool _) rfl) <| SR.known (h106) <| SR.s' rfl <| SR.s' rfl <| SR.g' rfl (r_pick false rfl (v := .bool false) rfl) <| SR.g' rfl (r_mv (v := .bool _) rfl) <| SR.s' rfl <| SR.s' rfl <| SR.s' rfl <| SR.g' rfl (r_pick false rfl (v := .bool false) rfl) <| SR.q' (r_pick false rfl (v := .bool _) rfl) <| SR.nil ?_
        exact ⟨_, rfl, ⟨⟨rfl, rfl, rfl, rfl, rfl, (eDF (jaf (ne_true_of_eq_false h106)).2), trivial⟩, (Lo.refl _)⟩⟩
    rintro f109 w110 ⟨hat111, hk112⟩
    rw [← sets_of_at hat111]
    have hz113 := hk112.size
    have hB114 := hB104.lo hk112
    refine W.cond_d rfl (fun h115 => ?_) (fun h115 => ?_)
    · have hq116 : ((encN v8 v9).2) = true := h115.1
      have hq117 : ((!((decide (0 < ((recovN ((encN v8 v9).1)).2.1))) == (decide (v8 = 0)))) = true) ∨ ((v8 = 0) ∧ (¬ ((((recovN ((encN v8 v9).1)).1).Count) = 1))) := h115.2
      refine W.seq ?_
      refine W.regS (SR.q' (r_as (v := .bool false) rfl) <| SR.nil ?_)
      refine W.ret ?_
      refine ret1 rfl (v := .bool _) rfl ?_
      exact ⟨eR (eB (z_c_laws_FnLogLines_118 L nL hbdL hleL h5 v8 v9 hq10 hq11 hq14 hq34 v42 hq43 hq46 hq51 hq70 hq90 h115 hq116 hq117)), hB114⟩
    · refine W.skip ?_
      refine W.seq ?_
      refine W.regS (SR.q' (r_lda (l := [str (((recovN v42).1).Durable), str (((recovN v42).1).Pending), .int .i64 (((recovN v42).1).Count)]) agg31 rfl (fun _ _ hu => ((hm105).lo hk112).cell hu) rfl) <| SR.call ent27 (c_impl_SyncLog w110 ((recovN v42).1) (by omega) (hE.lo (hB114))) rfl ?_)
      rintro e w119 ⟨rfl, hk120⟩
      refine ⟨_, rfl, ?_⟩
      have hz121 := hk120.size
      have hB122 := hB114.lo hk120
      refine SR.q' (r_mv (v := .tuple (List.toArray _)) rfl) <| SR.q' (r_ext (v := .agg (List.toArray _)) rfl rfl) <| SR.q' (r_ext (v := .bool _) rfl rfl) <| SR.alloc (l := [str ([] : List UInt8), str ([] : List UInt8), .int .i64 0]) tz31 rfl ?_
      intro g123 w124 hg125 hk126 hs127 hb128
      have hz129 := hk126.size
      have hB130 := hB122.lo hk126
      refine SR.store (o := 0) (vs := [str (((syncN ((recovN v42).1)).1).Durable), str (((syncN ((recovN v42).1)).1).Pending), .int .i64 (((syncN ((recovN v42).1)).1).Count)]) agg31.2 rfl rfl rfl rfl (hb128) (Nat.le_of_ble_eq_true rfl) rfl ?_
      intro w131 hk132 hs133 hb134
      have hz135 := hk132.size
      have hB136 := hB130.new hk132 (by omega)
      refine SR.q' (r_as (v := .bool _) rfl) <| SR.nil ?_
      refine W.seq ?_
      have hm137 := ((((hm105).lo hk112).lo hk120).lo hk126).kp hk132 (fun e' => by have e'' : g52 = g123 := e'; omega)
      refine W.regJS (fun f' w' => At f' [(2, .bool (decide (((!((recovN v42).2.2)) = true) ∨ ((((syncN ((recovN v42).1)).2) = true) ∧ ((((syncN ((recovN v42).1)).1) = ((recovN v42).1)) ∧ ((LogOK ((recovN v42).1)) ∧ ((((encN v8 v9).2) = true) ∨ (((encN v8 v9).1) = ([] : List UInt8)))))))))] ∧ Lo w131 w') ?_ ?_
      · refine SR.q' (r_mv (v := .bool _) rfl) <| SR.q' (r_not rfl) <| SR.q' (r_mv (v := .bool _) rfl) <| SR.split (fun h138 => ?_) (fun h138 => ?_)
        · refine SR.s' rfl <| SR.s' rfl <| SR.u' rfl <| SR.u' rfl <| SR.u' rfl <| SR.s' rfl <| SR.s' rfl <| SR.u' rfl <| SR.u' rfl <| SR.s' rfl <| SR.s' rfl <| SR.u' rfl <| SR.u' rfl <| SR.u' rfl <| SR.u' rfl <| SR.u' rfl <| SR.s' rfl <| SR.q' (r_pick true rfl (v := .bool true) rfl) <| SR.q' (r_as (v := .bool _) rfl) <| SR.nil ?_
          exact ⟨_, rfl, ⟨⟨(eDT ((jot h138).1 trivial)), trivial⟩, (Lo.refl _)⟩⟩
        · refine SR.g' rfl (r_mv (v := .bool _) rfl) <| SR.g' rfl (r_mv (v := .bool _) rfl) <| SR.split (fun h139 => ?_) (fun h139 => ?_)
          · refine SR.g' rfl (r_lda (l := [str (((syncN ((recovN v42).1)).1).Durable), str (((syncN ((recovN v42).1)).1).Pending), .int .i64 (((syncN ((recovN v42).1)).1).Count)]) agg31 rfl (fun _ _ hu => (hb134).cell hu) rfl) <| SR.g' rfl (r_lda (l := [str (((recovN v42).1).Durable), str (((recovN v42).1).Pending), .int .i64 (((recovN v42).1).Count)]) agg31 rfl (fun _ _ hu => (hm137).cell hu) rfl) <| SR.g' rfl (r_eqA (l := encLog ((syncN ((recovN v42).1)).1)) (r := encLog ((recovN v42).1)) rfl rfl eqg31 (eql31 ((syncN ((recovN v42).1)).1) ((recovN v42).1))) <| SR.g' rfl (r_pick true rfl (v := .bool _) rfl) <| SR.g' rfl (r_mv (v := .bool _) rfl) <| SR.splitD (fun h140 => ?_) (fun h140 => ?_)
            · refine SR.g' rfl (r_lda (l := [str (((recovN v42).1).Durable), str (((recovN v42).1).Pending), .int .i64 (((recovN v42).1).Count)]) agg31 rfl (fun _ _ hu => (hm137).cell hu) rfl) <| SR.gcall rfl ent23 (c_impl_IsValidLog w131 ((recovN v42).1) (by omega) (hE.lo (hB136))) rfl ?_
              rintro e w141 ⟨rfl, hk142⟩
              refine ⟨_, rfl, ?_⟩
              have hz143 := hk142.size
              have hB144 := hB136.lo hk142
              refine SR.g' rfl (r_pick true rfl (v := .bool _) rfl) <| SR.g' rfl (r_mv (v := .bool _) rfl) <| SR.splitD (fun h145 => ?_) (fun h145 => ?_)
              · refine SR.g' rfl (r_mv (v := .bool _) rfl) <| SR.g' rfl (r_mv (v := .bool _) rfl) <| SR.split (fun h146 => ?_) (fun h146 => ?_)
                · refine SR.s' rfl <| SR.s' rfl <| SR.g' rfl (r_pick true rfl (v := .bool true) rfl) <| SR.g' rfl (r_pick true rfl (v := .bool _) rfl) <| SR.q' (r_pick false rfl (v := .bool _) rfl) <| SR.q' (r_as (v := .bool _) rfl) <| SR.nil ?_
                  exact ⟨_, rfl, ⟨⟨(eDT ((((((jot h146).trans (jat h145)).trans (jat h140)).trans (jat h139)).trans (jof (ne_true_of_eq_false h138))).1 trivial)), trivial⟩, (hk142)⟩⟩
                · refine SR.g' rfl (r_mv (v := str _) rfl) <| SR.g' rfl (r_eqs (s := (encN v8 v9).1) (r := ([] : List UInt8)) rfl rfl) <| SR.g' rfl (r_pick false rfl (v := .bool _) rfl) <| SR.g' rfl (r_pick true rfl (v := .bool _) rfl) <| SR.q' (r_pick false rfl (v := .bool _) rfl) <| SR.q' (r_as (v := .bool _) rfl) <| SR.nil ?_
                  exact ⟨_, rfl, ⟨⟨(eDD (((((jof (ne_true_of_eq_false h146)).trans (jat h145)).trans (jat h140)).trans (jat h139)).trans (jof (ne_true_of_eq_false h138)))), trivial⟩, (hk142)⟩⟩
              · refine SR.s' rfl <| SR.s' rfl <| SR.u' rfl <| SR.u' rfl <| SR.s' rfl <| SR.g' rfl (r_pick false rfl (v := .bool false) rfl) <| SR.q' (r_pick false rfl (v := .bool _) rfl) <| SR.q' (r_as (v := .bool _) rfl) <| SR.nil ?_
                exact ⟨_, rfl, ⟨⟨(eDF ((((jaf h145).trans (jat h140)).trans (jat h139)).trans (jof (ne_true_of_eq_false h138))).2), trivial⟩, (hk142)⟩⟩
            · refine SR.s' rfl <| SR.s' rfl <| SR.g' rfl (r_pick false rfl (v := .bool false) rfl) <| SR.g' rfl (r_mv (v := .bool _) rfl) <| SR.s' rfl <| SR.s' rfl <| SR.u' rfl <| SR.u' rfl <| SR.s' rfl <| SR.g' rfl (r_pick false rfl (v := .bool false) rfl) <| SR.q' (r_pick false rfl (v := .bool _) rfl) <| SR.q' (r_as (v := .bool _) rfl) <| SR.nil ?_
              exact ⟨_, rfl, ⟨⟨(eDF (((jaf h140).trans (jat h139)).trans (jof (ne_true_of_eq_false h138))).2), trivial⟩, (Lo.refl _)⟩⟩
          · refine SR.s' rfl <| SR.s' rfl <| SR.s' rfl <| SR.g' rfl (r_pick false rfl (v := .bool false) rfl) <| SR.g' rfl (r_mv (v := .bool _) rfl) <| SR.s' rfl <| SR.s' rfl <| SR.g' rfl (r_pick false rfl (v := .bool false) rfl) <| SR.g' rfl (r_mv (v := .bool _) rfl) <| SR.s' rfl <| SR.s' rfl <| SR.u' rfl <| SR.u' rfl <| SR.s' rfl <| SR.g' rfl (r_pick false rfl (v := .bool false) rfl) <| SR.q' (r_pick false rfl (v := .bool _) rfl) <| SR.q' (r_as (v := .bool _) rfl) <| SR.nil ?_
            exact ⟨_, rfl, ⟨⟨(eDF ((jaf (ne_true_of_eq_false h139)).trans (jof (ne_true_of_eq_false h138))).2), trivial⟩, (Lo.refl _)⟩⟩
      rintro f147 w148 ⟨hat149, hk150⟩
      rw [← sets_of_at hat149]
      have hz151 := hk150.size
      have hB152 := hB136.lo hk150
      refine W.ret ?_
      refine ret1 rfl (v := .bool _) rfl ?_
      exact ⟨eR (eB (z_c_laws_FnLogLines_153 L nL hbdL hleL h5 v8 v9 hq10 hq11 hq14 hq34 v42 hq43 hq46 hq51 hq70 hq90 h115)), hB152⟩
end Go.Proofs.YthlbmkpkgiabnaaDoor
