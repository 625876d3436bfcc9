/- Walks, printed by a program of this claim's author. -/
import Derived.Test.YthlbmkpkgiabnaaDoorChecked
import Derived.Test.YthlbmkpkgiabnaaDoorWb
import Derived.Test.YthlbmkpkgiabnaaDoorFt
import Derived.Test.YthlbmkpkgiabnaaDoorSi
import Derived.Test.YthlbmkpkgiabnaaDoorWc
import Derived.Test.YthlbmkpkgiabnaaDoorG33
namespace Go.Proofs.YthlbmkpkgiabnaaDoor
open Go Go.RowKit Fw
set_option maxRecDepth 10000
set_option linter.unusedVariables false
theorem agg27 : TAgg Tryd.prog 27 2 := ⟨fun _ => by kernel_rfl, fun _ => by kernel_rfl⟩
theorem ent39 : Ent Tryd.prog 39 := ent_of Tryd.func39 (by decide +kernel) rfl
theorem ent43 : Ent Tryd.prog 43 := ent_of Tryd.func43 (by decide +kernel) rfl
theorem ent44 : Ent Tryd.prog 44 := ent_of Tryd.func44 (by decide +kernel) rfl
theorem ent46 : Ent Tryd.prog 46 := ent_of Tryd.func46 (by decide +kernel) rfl
theorem ent64 : Ent Tryd.prog 64 := ent_of Tryd.func64 (by decide +kernel) rfl

theorem z_c_spec_l33Line_15 (k : Int) (r : LogRecord) (hp0 : 0 ≤ k ∧ k ≤ 1000000) (hp1 : (r.Command.length : Int) ≤ 10000000 ∧ (r.Reply.length : Int) ≤ 10000000) (hq9 : (Lib.itoa k).length ≤ 21) (hq10 : (sealB (((((Lib.itoa k) ++ ([32] : List UInt8)) ++ r.Command) ++ ([64] : List UInt8)) ++ r.Reply)).length ≤ (((((Lib.itoa k) ++ ([32] : List UInt8)) ++ r.Command) ++ ([64] : List UInt8)) ++ r.Reply).length + 22) : (sealB (((((Lib.itoa k) ++ ([32] : List UInt8)) ++ r.Command) ++ ([64] : List UInt8)) ++ r.Reply)) ++ ([10] : List UInt8) = lineB k r := by
  rfl
theorem c_spec_l33Line (w : World) (k : Int) (r : LogRecord) (hp0 : 0 ≤ k ∧ k ≤ 1000000) (hp1 : (r.Command.length : Int) ≤ 10000000 ∧ (r.Reply.length : Int) ≤ 10000000) : Calls Tryd.prog 44 #[.int .i64 k, .agg (List.toArray (encLogRecord r))] w fun e w' => e = .returned (str (lineB k r)) ∧ Lo w w' := by
  refine calls_W 17 Tryd.func44 rfl rfl rfl ?_
  refine W.seq ?_
  refine W.regS (SR.box (v := .agg (List.toArray _)) (l := [str r.Command, str r.Reply]) rfl rfl ?_)
  intro g1 w2 hg3 hk4 hs5 hb6
  have hz7 := hk4.size
  have hB8 := (Lo.refl w).lo hk4
  refine SR.q' (r_as (v := str ([] : List UInt8)) rfl) <| SR.nil ?_
  refine W.seq ?_
  refine W.regD mo (by kernel_rfl) (QR.q' (fun w' hw' => r_mv (v := .int .i64 _) rfl) <| QR.call ent65 (fun w' hw' => (c_spec_l1Num w' k (by omega)).mono fun _ _ h => ⟨h.1, hw'.trans h.2⟩) rfl <| ?_)
  have hq9 : (Lib.itoa k).length ≤ 21 := itoa_len (n := k) (by omega) (by omega)
  refine QR.q' (fun w' hw' => r_cat rfl rfl (by first | omega | (simp only [List.length_append, List.length_cons, List.length_nil, List.length_take, List.length_drop]; omega) | (simp only [List.length_append, List.length_cons, List.length_nil, List.length_take, List.length_drop] at *; omega))) <| QR.q' (fun w' hw' => r_fa fa27_0 rfl) <| QR.q' (fun w' hw' => r_ld (v := str r.Command) sca9 rfl (((hb6).lo hw').cell rfl)) <| QR.q' (fun w' hw' => r_cat rfl rfl (by first | omega | (simp only [List.length_append, List.length_cons, List.length_nil, List.length_take, List.length_drop]; omega) | (simp only [List.length_append, List.length_cons, List.length_nil, List.length_take, List.length_drop] at *; omega))) <| QR.q' (fun w' hw' => r_cat rfl rfl (by first | omega | (simp only [List.length_append, List.length_cons, List.length_nil, List.length_take, List.length_drop]; omega) | (simp only [List.length_append, List.length_cons, List.length_nil, List.length_take, List.length_drop] at *; omega))) <| QR.q' (fun w' hw' => r_fa fa27_1 rfl) <| QR.q' (fun w' hw' => r_ld (v := str r.Reply) sca9 rfl (((hb6).lo hw').cell rfl)) <| QR.q' (fun w' hw' => r_cat rfl rfl (by first | omega | (simp only [List.length_append, List.length_cons, List.length_nil, List.length_take, List.length_drop]; omega) | (simp only [List.length_append, List.length_cons, List.length_nil, List.length_take, List.length_drop] at *; omega))) <| QR.call ent64 (fun w' hw' => (c_spec_l1Seal w' (((((Lib.itoa k) ++ ([32] : List UInt8)) ++ r.Command) ++ ([64] : List UInt8)) ++ r.Reply) (by first | omega | (simp only [List.length_append, List.length_cons, List.length_nil, List.length_take, List.length_drop]; omega))).mono fun _ _ h => ⟨h.1, hw'.trans h.2⟩) rfl <| ?_
  have hq10 : (sealB (((((Lib.itoa k) ++ ([32] : List UInt8)) ++ r.Command) ++ ([64] : List UInt8)) ++ r.Reply)).length ≤ (((((Lib.itoa k) ++ ([32] : List UInt8)) ++ r.Command) ++ ([64] : List UInt8)) ++ r.Reply).length + 22 := seal_len (s := (((((Lib.itoa k) ++ ([32] : List UInt8)) ++ r.Command) ++ ([64] : List UInt8)) ++ r.Reply)) (Nat.le_refl _)
  refine QR.q' (fun w' hw' => r_cat rfl rfl (by first | omega | (simp only [List.length_append, List.length_cons, List.length_nil, List.length_take, List.length_drop]; omega) | (simp only [List.length_append, List.length_cons, List.length_nil, List.length_take, List.length_drop] at *; omega))) <| QR.q' (fun w' hw' => r_as (v := str _) rfl) <| QR.nil ?_
  intro w11 hk12
  have hz13 := hk12.size
  have hB14 := hB8.lo hk12
  refine W.ret ?_
  refine ret1 rfl (v := str _) rfl ?_
  exact ⟨eR (eS (z_c_spec_l33Line_15 k r hp0 hp1 hq9 hq10)), hB14⟩

theorem z_c_spec_EncodeRecord_25 (k : Int) (r : LogRecord) (hp0 : (r.Command.length : Int) ≤ 281474976710656 ∧ (r.Reply.length : Int) ≤ 281474976710656) (h24 : (¬ (0 ≤ k ∧ k ≤ 59)) ∨ (¬ (RecOK r))) : ([] : List UInt8) = (encN k r).1 := by
  first | exact enc_no1 ‹_› | exact enc_yes1 ‹_› | exact enc_ap1 ‹_›
theorem z_c_spec_EncodeRecord_26 (k : Int) (r : LogRecord) (hp0 : (r.Command.length : Int) ≤ 281474976710656 ∧ (r.Reply.length : Int) ≤ 281474976710656) (h24 : (¬ (0 ≤ k ∧ k ≤ 59)) ∨ (¬ (RecOK r))) : false = (encN k r).2 := by
  first | exact enc_no2 ‹_› | exact enc_yes2 ‹_› | exact enc_ap2 ‹_›
theorem z_c_spec_EncodeRecord_35 (k : Int) (r : LogRecord) (hp0 : (r.Command.length : Int) ≤ 281474976710656 ∧ (r.Reply.length : Int) ≤ 281474976710656) (h24 : ¬ ((¬ (0 ≤ k ∧ k ≤ 59)) ∨ (¬ (RecOK r)))) (hq27 : 0 ≤ k ∧ k ≤ 59) (hq28 : RecOK r) (hq29 : (1 ≤ (r.Command.length : Int) ∧ (r.Command.length : Int) ≤ 160) ∧ (r.Reply.length : Int) ≤ 200) (hq34 : (lineB k r).length ≤ r.Command.length + r.Reply.length + 46) : lineB k r = (encN k r).1 := by
  first | exact enc_no1 ‹_› | exact enc_yes1 ‹_› | exact enc_ap1 ‹_›
theorem z_c_spec_EncodeRecord_36 (k : Int) (r : LogRecord) (hp0 : (r.Command.length : Int) ≤ 281474976710656 ∧ (r.Reply.length : Int) ≤ 281474976710656) (h24 : ¬ ((¬ (0 ≤ k ∧ k ≤ 59)) ∨ (¬ (RecOK r)))) (hq27 : 0 ≤ k ∧ k ≤ 59) (hq28 : RecOK r) (hq29 : (1 ≤ (r.Command.length : Int) ∧ (r.Command.length : Int) ≤ 160) ∧ (r.Reply.length : Int) ≤ 200) (hq34 : (lineB k r).length ≤ r.Command.length + r.Reply.length + 46) : true = (encN k r).2 := by
  first | exact enc_no2 ‹_› | exact enc_yes2 ‹_› | exact enc_ap2 ‹_›
theorem c_spec_EncodeRecord (w : World) (k : Int) (r : LogRecord) (hp0 : (r.Command.length : Int) ≤ 281474976710656 ∧ (r.Reply.length : Int) ≤ 281474976710656) : Calls Tryd.prog 14 #[.int .i64 k, .agg (List.toArray (encLogRecord r))] w fun e w' => e = .returned (.tuple (List.toArray [str ((encN k r).1), .bool ((encN k r).2)])) ∧ Lo w w' := by
  refine calls_W 17 Tryd.func14 rfl rfl rfl ?_
  refine W.seq ?_
  refine W.regS (SR.box (v := .agg (List.toArray _)) (l := [str r.Command, str r.Reply]) rfl rfl ?_)
  intro g1 w2 hg3 hk4 hs5 hb6
  have hz7 := hk4.size
  have hB8 := (Lo.refl w).lo hk4
  refine SR.q' (r_as (v := str ([] : List UInt8)) rfl) <| SR.q' (r_as (v := .bool false) rfl) <| SR.nil ?_
  refine W.seq ?_
  refine W.seq ?_
  refine W.regJS (fun f' w' => At f' [(0, .int .i64 k), (3, .pointer (some ((⟨g1, 0, none⟩ : Addr)))), (4, str ([] : List UInt8)), (5, .bool false), (13, .bool (decide ((¬ (0 ≤ k ∧ k ≤ 59)) ∨ (¬ (RecOK r)))))] ∧ Lo w2 w') ?_ ?_
  · refine SR.q' (r_mv (v := .int .i64 _) rfl) <| SR.call ent42 (c_spec_l1In w2 k 0 59) rfl ?_
    rintro e w9 ⟨rfl, hk10⟩
    refine ⟨_, rfl, ?_⟩
    have hz11 := hk10.size
    have hB12 := hB8.lo hk10
    refine SR.q' (r_not rfl) <| SR.q' (r_mv (v := .bool _) rfl) <| SR.splitN (fun h13 => ?_) (fun h13 => ?_)
    · refine SR.s' rfl <| SR.s' rfl <| SR.s' rfl <| SR.q' (r_pick true rfl (v := .bool true) rfl) <| SR.nil ?_
      exact ⟨_, rfl, ⟨⟨rfl, rfl, rfl, rfl, (eDT ((jmf h13).1 trivial)), trivial⟩, (hk10)⟩⟩
    · refine SR.g' rfl (r_lda (l := [str r.Command, str r.Reply]) agg27 rfl (fun _ _ hu => ((hb6).lo hk10).cell hu) rfl) <| SR.gcall rfl ent43 (c_spec_l33Good w9 r (by first | omega | (dsimp only; omega) | (dsimp only; simp only [List.length_drop]; omega))) rfl ?_
      rintro e w14 ⟨rfl, hk15⟩
      refine ⟨_, rfl, ?_⟩
      have hz16 := hk15.size
      have hB17 := hB12.lo hk15
      refine SR.g' rfl (r_not rfl) <| SR.q' (r_pick false rfl (v := .bool _) rfl) <| SR.nil ?_
      exact ⟨_, rfl, ⟨⟨rfl, rfl, rfl, rfl, (eND (jmt h13)), trivial⟩, ((hk10).trans hk15)⟩⟩
  rintro f18 w19 ⟨hat20, hk21⟩
  rw [← sets_of_at hat20]
  have hz22 := hk21.size
  have hB23 := hB8.lo hk21
  refine W.cond_d rfl (fun h24 => ?_) (fun h24 => ?_)
  · refine W.seq ?_
    refine W.regS (SR.q' (r_as (v := str ([] : List UInt8)) rfl) <| SR.q' (r_as (v := .bool false) rfl) <| SR.nil ?_)
    refine W.ret ?_
    refine ret2 rfl (v := str _) (v' := .bool _) rfl rfl ?_
    exact ⟨eR (eT2 (eS (z_c_spec_EncodeRecord_25 k r hp0 h24)) (eB (z_c_spec_EncodeRecord_26 k r hp0 h24))), hB23⟩
  · have hq27 : 0 ≤ k ∧ k ≤ 59 := (Classical.not_not.1 (not_or.1 h24).1)
    have hq28 : RecOK r := (Classical.not_not.1 (not_or.1 h24).2)
    have hq29 := rec_rng hq28
    refine W.skip ?_
    refine W.seq ?_
    refine W.regS (SR.q' (r_mv (v := .int .i64 _) rfl) <| SR.q' (r_lda (l := [str r.Command, str r.Reply]) agg27 rfl (fun _ _ hu => ((hb6).lo hk21).cell hu) rfl) <| SR.call ent44 (c_spec_l33Line w19 k r (by omega) (by first | omega | (dsimp only; omega) | (dsimp only; simp only [List.length_drop]; omega))) rfl ?_)
    rintro e w30 ⟨rfl, hk31⟩
    refine ⟨_, rfl, ?_⟩
    have hz32 := hk31.size
    have hB33 := hB23.lo hk31
    have hq34 : (lineB k r).length ≤ r.Command.length + r.Reply.length + 46 := line_lenG (k := k) (e := r) (by omega)
    refine SR.q' (r_as (v := str _) rfl) <| SR.q' (r_as (v := .bool true) rfl) <| SR.nil ?_
    refine W.ret ?_
    refine ret2 rfl (v := str _) (v' := .bool _) rfl rfl ?_
    exact ⟨eR (eT2 (eS (z_c_spec_EncodeRecord_35 k r hp0 h24 hq27 hq28 hq29 hq34)) (eB (z_c_spec_EncodeRecord_36 k r hp0 h24 hq27 hq28 hq29 hq34))), hB33⟩

theorem z_c_impl_EncodeRecord_25 (k : Int) (r : LogRecord) (h24 : (¬ (0 ≤ k ∧ k ≤ 59)) ∨ (¬ (RecOK r))) : ([] : List UInt8) = (encN k r).1 := by
  first | exact enc_no1 ‹_› | exact enc_yes1 ‹_› | exact enc_ap1 ‹_›
theorem z_c_impl_EncodeRecord_26 (k : Int) (r : LogRecord) (h24 : (¬ (0 ≤ k ∧ k ≤ 59)) ∨ (¬ (RecOK r))) : false = (encN k r).2 := by
  first | exact enc_no2 ‹_› | exact enc_yes2 ‹_› | exact enc_ap2 ‹_›
theorem z_c_impl_EncodeRecord_36 (k : Int) (r : LogRecord) (h24 : ¬ ((¬ (0 ≤ k ∧ k ≤ 59)) ∨ (¬ (RecOK r)))) (hq27 : 0 ≤ k ∧ k ≤ 59) (hq28 : RecOK r) (hq29 : (1 ≤ (r.Command.length : Int) ∧ (r.Command.length : Int) ≤ 160) ∧ (r.Reply.length : Int) ≤ 200) (hq30 : (Lib.itoa k).length ≤ 21) (hq31 : (impl_AppendChecksum (((((Lib.itoa k) ++ ([32] : List UInt8)) ++ r.Command) ++ ([64] : List UInt8)) ++ r.Reply)).1.length ≤ (((((Lib.itoa k) ++ ([32] : List UInt8)) ++ r.Command) ++ ([64] : List UInt8)) ++ r.Reply).length + 22) : ((impl_AppendChecksum (((((Lib.itoa k) ++ ([32] : List UInt8)) ++ r.Command) ++ ([64] : List UInt8)) ++ r.Reply)).1) ++ ([10] : List UInt8) = (encN k r).1 := by
  first | exact enc_no1 ‹_› | exact enc_yes1 ‹_› | exact enc_ap1 ‹_›
theorem z_c_impl_EncodeRecord_37 (k : Int) (r : LogRecord) (h24 : ¬ ((¬ (0 ≤ k ∧ k ≤ 59)) ∨ (¬ (RecOK r)))) (hq27 : 0 ≤ k ∧ k ≤ 59) (hq28 : RecOK r) (hq29 : (1 ≤ (r.Command.length : Int) ∧ (r.Command.length : Int) ≤ 160) ∧ (r.Reply.length : Int) ≤ 200) (hq30 : (Lib.itoa k).length ≤ 21) (hq31 : (impl_AppendChecksum (((((Lib.itoa k) ++ ([32] : List UInt8)) ++ r.Command) ++ ([64] : List UInt8)) ++ r.Reply)).1.length ≤ (((((Lib.itoa k) ++ ([32] : List UInt8)) ++ r.Command) ++ ([64] : List UInt8)) ++ r.Reply).length + 22) : (impl_AppendChecksum (((((Lib.itoa k) ++ ([32] : List UInt8)) ++ r.Command) ++ ([64] : List UInt8)) ++ r.Reply)).2 = (encN k r).2 := by
  first | exact enc_no2 ‹_› | exact enc_yes2 ‹_› | exact enc_ap2 ‹_›
theorem c_impl_EncodeRecord (w : World) (k : Int) (r : LogRecord) (hE : EnvW w) : Calls Tryd.prog 16 #[.int .i64 k, .agg (List.toArray (encLogRecord r))] w fun e w' => e = .returned (.tuple (List.toArray [str ((encN k r).1), .bool ((encN k r).2)])) ∧ Lo w w' := by
  refine calls_W 33 Tryd.func16 rfl rfl rfl ?_
  refine W.seq ?_
  refine W.regS (SR.box (v := .agg (List.toArray _)) (l := [str r.Command, str r.Reply]) rfl rfl ?_)
  intro g1 w2 hg3 hk4 hs5 hb6
  have hz7 := hk4.size
  have hB8 := (Lo.refl w).lo hk4
  refine SR.q' (r_as (v := str ([] : List UInt8)) rfl) <| SR.q' (r_as (v := .bool false) rfl) <| SR.nil ?_
  refine W.seq ?_
  refine W.seq ?_
  refine W.regJS (fun f' w' => At f' [(0, .int .i64 k), (3, .pointer (some ((⟨g1, 0, none⟩ : Addr)))), (4, str ([] : List UInt8)), (5, .bool false), (15, .bool (decide ((¬ (0 ≤ k ∧ k ≤ 59)) ∨ (¬ (RecOK r)))))] ∧ Lo w2 w') ?_ ?_
  · refine SR.q' (r_mv (v := .int .i64 _) rfl) <| SR.call ent45 (c_impl_within w2 k 0 59) rfl ?_
    rintro e w9 ⟨rfl, hk10⟩
    refine ⟨_, rfl, ?_⟩
    have hz11 := hk10.size
    have hB12 := hB8.lo hk10
    refine SR.q' (r_not rfl) <| SR.q' (r_mv (v := .bool _) rfl) <| SR.splitN (fun h13 => ?_) (fun h13 => ?_)
    · refine SR.s' rfl <| SR.s' rfl <| SR.s' rfl <| SR.q' (r_pick true rfl (v := .bool true) rfl) <| SR.nil ?_
      exact ⟨_, rfl, ⟨⟨rfl, rfl, rfl, rfl, (eDT ((jmf h13).1 trivial)), trivial⟩, (hk10)⟩⟩
    · refine SR.g' rfl (r_lda (l := [str r.Command, str r.Reply]) agg27 rfl (fun _ _ hu => ((hb6).lo hk10).cell hu) rfl) <| SR.gcall rfl ent39 (c_impl_IsValidRecord w9 r (hE.lo (hB12))) rfl ?_
      rintro e w14 ⟨rfl, hk15⟩
      refine ⟨_, rfl, ?_⟩
      have hz16 := hk15.size
      have hB17 := hB12.lo hk15
      refine SR.g' rfl (r_not rfl) <| SR.q' (r_pick false rfl (v := .bool _) rfl) <| SR.nil ?_
      exact ⟨_, rfl, ⟨⟨rfl, rfl, rfl, rfl, (eND (jmt h13)), trivial⟩, ((hk10).trans hk15)⟩⟩
  rintro f18 w19 ⟨hat20, hk21⟩
  rw [← sets_of_at hat20]
  have hz22 := hk21.size
  have hB23 := hB8.lo hk21
  refine W.cond_d rfl (fun h24 => ?_) (fun h24 => ?_)
  · refine W.seq ?_
    refine W.regS (SR.q' (r_as (v := str ([] : List UInt8)) rfl) <| SR.q' (r_as (v := .bool false) rfl) <| SR.nil ?_)
    refine W.ret ?_
    refine ret2 rfl (v := str _) (v' := .bool _) rfl rfl ?_
    exact ⟨eR (eT2 (eS (z_c_impl_EncodeRecord_25 k r h24)) (eB (z_c_impl_EncodeRecord_26 k r h24))), hB23⟩
  · have hq27 : 0 ≤ k ∧ k ≤ 59 := (Classical.not_not.1 (not_or.1 h24).1)
    have hq28 : RecOK r := (Classical.not_not.1 (not_or.1 h24).2)
    have hq29 := rec_rng hq28
    refine W.skip ?_
    refine W.seq ?_
    refine W.regD mo (by kernel_rfl) (QR.q' (fun w' hw' => r_mv (v := .int .i64 _) rfl) <| QR.call ent47 (fun w' hw' => (c_impl_text w' k (by omega) (hE.lo (hB23.trans hw'))).mono fun _ _ h => ⟨h.1, hw'.trans h.2⟩) rfl <| ?_)
    have hq30 : (Lib.itoa k).length ≤ 21 := itoa_len (n := k) (by omega) (by omega)
    refine QR.q' (fun w' hw' => r_cat rfl rfl (by first | omega | (simp only [List.length_append, List.length_cons, List.length_nil, List.length_take, List.length_drop]; omega) | (simp only [List.length_append, List.length_cons, List.length_nil, List.length_take, List.length_drop] at *; omega))) <| QR.q' (fun w' hw' => r_fa fa27_0 rfl) <| QR.q' (fun w' hw' => r_ld (v := str r.Command) sca9 rfl ((((hb6).lo hk21).lo hw').cell rfl)) <| QR.q' (fun w' hw' => r_cat rfl rfl (by first | omega | (simp only [List.length_append, List.length_cons, List.length_nil, List.length_take, List.length_drop]; omega) | (simp only [List.length_append, List.length_cons, List.length_nil, List.length_take, List.length_drop] at *; omega))) <| QR.q' (fun w' hw' => r_cat rfl rfl (by first | omega | (simp only [List.length_append, List.length_cons, List.length_nil, List.length_take, List.length_drop]; omega) | (simp only [List.length_append, List.length_cons, List.length_nil, List.length_take, List.length_drop] at *; omega))) <| QR.q' (fun w' hw' => r_fa fa27_1 rfl) <| QR.q' (fun w' hw' => r_ld (v := str r.Reply) sca9 rfl ((((hb6).lo hk21).lo hw').cell rfl)) <| QR.q' (fun w' hw' => r_cat rfl rfl (by first | omega | (simp only [List.length_append, List.length_cons, List.length_nil, List.length_take, List.length_drop]; omega) | (simp only [List.length_append, List.length_cons, List.length_nil, List.length_take, List.length_drop] at *; omega))) <| QR.call ent46 (fun w' hw' => (c_impl_AppendChecksum w' (((((Lib.itoa k) ++ ([32] : List UInt8)) ++ r.Command) ++ ([64] : List UInt8)) ++ r.Reply) (by first | omega | (simp only [List.length_append, List.length_cons, List.length_nil, List.length_take, List.length_drop]; omega)) (hE.lo (hB23.trans hw'))).mono fun _ _ h => ⟨h.1, hw'.trans h.2⟩) rfl <| ?_
    have hq31 : (impl_AppendChecksum (((((Lib.itoa k) ++ ([32] : List UInt8)) ++ r.Command) ++ ([64] : List UInt8)) ++ r.Reply)).1.length ≤ (((((Lib.itoa k) ++ ([32] : List UInt8)) ++ r.Command) ++ ([64] : List UInt8)) ++ r.Reply).length + 22 := apc_len (((((Lib.itoa k) ++ ([32] : List UInt8)) ++ r.Command) ++ ([64] : List UInt8)) ++ r.Reply)
    refine QR.q' (fun w' hw' => r_mv (v := .tuple (List.toArray _)) rfl) <| QR.q' (fun w' hw' => r_ext (v := str _) rfl rfl) <| QR.q' (fun w' hw' => r_ext (v := .bool _) rfl rfl) <| QR.q' (fun w' hw' => r_as (v := str _) rfl) <| QR.q' (fun w' hw' => r_as (v := .bool _) rfl) <| QR.nil ?_
    intro w32 hk33
    have hz34 := hk33.size
    have hB35 := hB23.lo hk33
    refine W.seq ?_
    refine W.regS (SR.q' (r_mv (v := str _) rfl) <| SR.q' (r_cat rfl rfl (by first | omega | (simp only [List.length_append, List.length_cons, List.length_nil, List.length_take, List.length_drop]; omega) | (simp only [List.length_append, List.length_cons, List.length_nil, List.length_take, List.length_drop] at *; omega))) <| SR.q' (r_mv (v := .bool _) rfl) <| SR.q' (r_as (v := str _) rfl) <| SR.q' (r_as (v := .bool _) rfl) <| SR.nil ?_)
    refine W.ret ?_
    refine ret2 rfl (v := str _) (v' := .bool _) rfl rfl ?_
    exact ⟨eR (eT2 (eS (z_c_impl_EncodeRecord_36 k r h24 hq27 hq28 hq29 hq30 hq31)) (eB (z_c_impl_EncodeRecord_37 k r h24 hq27 hq28 hq29 hq30 hq31))), hB35⟩
end Go.Proofs.YthlbmkpkgiabnaaDoor
