/- Walks, printed by a program of this claim's author. -/
import Derived.Test.YtocpdkhahmbaiaaChecked
import Derived.Test.YtocpdkhahmbaiaaUb
import Derived.Test.YtocpdkhahmbaiaaFs
import Derived.Test.YtocpdkhahmbaiaaFq
import Derived.Test.YtocpdkhahmbaiaaYl
import Derived.Test.YtocpdkhahmbaiaaYn
import Derived.Test.YtocpdkhahmbaiaaG32m
namespace Go.Proofs.Ytocpdkhahmbaiaa
open Go Go.RowKit Fw
set_option maxRecDepth 10000
set_option linter.unusedVariables false
theorem agg27 : TAgg Try.prog 27 3 := ⟨fun _ => by kernel_rfl, fun _ => by kernel_rfl⟩
theorem agg29 : TAgg Try.prog 29 8 := ⟨fun _ => by kernel_rfl, fun _ => by kernel_rfl⟩
theorem bld25_0_2 (a0 : Option Addr) (b0 c0 : Nat) (a2 : Int) : Try.prog.built 25 [(0, .slice a0 b0 c0), (2, .int .i64 a2)] = some (List.toArray [.slice a0 b0 c0, .slice none 0 0, .int .i64 a2, .int .i64 0, .int .i64 0]) := by kernel_rfl
theorem bld29_ : Try.prog.built 29 [] = some (List.toArray [.slice none 0 0, .slice none 0 0, .int .i64 0, .int .i64 0, .int .i64 0, str ([] : List UInt8), str ([] : List UInt8), .int .i64 0]) := by kernel_rfl
theorem bld29_0 (a0_0 : Value) (a0_1 : Value) (a0_2 : Value) (a0_3 : Value) (a0_4 : Value) : Try.prog.built 29 [(0, .agg (List.toArray [a0_0, a0_1, a0_2, a0_3, a0_4]))] = some (List.toArray [a0_0, a0_1, a0_2, a0_3, a0_4, str ([] : List UInt8), str ([] : List UInt8), .int .i64 0]) := by kernel_rfl
theorem bld38_0_1_3 (a0 : Int) (a1 : Int) (a3 : Int) : Try.prog.built 38 [(0, .int .i64 a0), (1, .int .i64 a1), (3, .int .i64 a3)] = some (List.toArray [.int .i64 a0, .int .i64 a1, .int .i64 0, .int .i64 a3]) := by kernel_rfl
theorem ent10 : Ent Try.prog 10 := ent_of Try.func10 (by decide +kernel) rfl
theorem ent11 : Ent Try.prog 11 := ent_of Try.func11 (by decide +kernel) rfl
theorem ent12 : Ent Try.prog 12 := ent_of Try.func12 (by decide +kernel) rfl
theorem ent13 : Ent Try.prog 13 := ent_of Try.func13 (by decide +kernel) rfl
theorem ent14 : Ent Try.prog 14 := ent_of Try.func14 (by decide +kernel) rfl
theorem ent4 : Ent Try.prog 4 := ent_of Try.func4 (by decide +kernel) rfl
theorem ent5 : Ent Try.prog 5 := ent_of Try.func5 (by decide +kernel) rfl
theorem ent6 : Ent Try.prog 6 := ent_of Try.func6 (by decide +kernel) rfl
theorem ent7 : Ent Try.prog 7 := ent_of Try.func7 (by decide +kernel) rfl
theorem ent8 : Ent Try.prog 8 := ent_of Try.func8 (by decide +kernel) rfl
theorem ent9 : Ent Try.prog 9 := ent_of Try.func9 (by decide +kernel) rfl
theorem fa27_0 : FA Try.prog 27 0 0 := fun _ _ => by kernel_rfl
theorem fa27_1 : FA Try.prog 27 1 1 := fun _ _ => by kernel_rfl
theorem fa27_2 : FA Try.prog 27 2 2 := fun _ _ => by kernel_rfl
theorem fa29_0 : FA Try.prog 29 0 0 := fun _ _ => by kernel_rfl
theorem fa29_1 : FA Try.prog 29 1 5 := fun _ _ => by kernel_rfl
theorem sca9 : TSca Try.prog 9 := ⟨fun _ => by kernel_rfl, fun _ => by kernel_rfl⟩
theorem tz29 : TZ Try.prog 29 (.agg (List.toArray [.slice none 0 0, .slice none 0 0, .int .i64 0, .int .i64 0, .int .i64 0, str ([] : List UInt8), str ([] : List UInt8), .int .i64 0])) := fun _ => by kernel_rfl
theorem und4 : Try.prog.underlying 4 = some (.bool) := by kernel_rfl

theorem z_c_laws_eqLog_18 (a : Log) (b : Log) (h17 : ¬ (a.Durable = b.Durable)) : ¬ (a = b) := by
  cases a; cases b; simp_all
theorem z_c_laws_eqLog_20 (a : Log) (b : Log) (h17 : a.Durable = b.Durable) (h19 : ¬ (a.Pending = b.Pending)) : ¬ (a = b) := by
  cases a; cases b; simp_all
theorem z_c_laws_eqLog_22 (a : Log) (b : Log) (h17 : a.Durable = b.Durable) (h19 : a.Pending = b.Pending) (h21 : ¬ (a.Count = b.Count)) : ¬ (a = b) := by
  cases a; cases b; simp_all
theorem z_c_laws_eqLog_23 (a : Log) (b : Log) (h17 : a.Durable = b.Durable) (h19 : a.Pending = b.Pending) (h21 : a.Count = b.Count) : a = b := by
  cases a; cases b; simp_all
theorem c_laws_eqLog (w : World) (a : Log) (b : Log) : Calls Try.prog 12 #[.agg (List.toArray (encLog a)), .agg (List.toArray (encLog b))] w fun e w' => e = .returned (.bool (decide (a = b))) ∧ Lo w w' := by
  refine calls_W 20 Try.func12 rfl rfl rfl ?_
  refine W.seq ?_
  refine W.regS (SR.box (v := .agg (List.toArray _)) (l := [str a.Durable, str a.Pending, .int .i64 a.Count]) rfl rfl ?_)
  intro g1 w2 hg3 hk4 hs5 hb6
  have hz7 := hk4.size
  have hB8 := (Lo.refl w).lo hk4
  refine SR.box (v := .agg (List.toArray _)) (l := [str b.Durable, str b.Pending, .int .i64 b.Count]) rfl rfl ?_
  intro g9 w10 hg11 hk12 hs13 hb14
  have hz15 := hk12.size
  have hB16 := hB8.lo hk12
  refine SR.q' (r_as (v := .bool false) rfl) <| SR.nil ?_
  refine W.seq ?_
  refine W.seq ?_
  refine W.regS (SR.q' (r_fa fa27_0 rfl) <| SR.q' (r_ld (v := str a.Durable) sca9 rfl (((hb6).lo hk12).cell rfl)) <| SR.q' (r_fa fa27_0 rfl) <| SR.q' (r_ld (v := str b.Durable) sca9 rfl ((hb14).cell rfl)) <| SR.q' (r_nes (s := a.Durable) (r := b.Durable) rfl rfl) <| SR.nil ?_)
  refine W.cond_n rfl (fun h17 => ?_) (fun h17 => ?_)
  · refine W.seq ?_
    refine W.regS (SR.q' (r_as (v := .bool false) rfl) <| SR.nil ?_)
    refine W.ret ?_
    refine ret1 rfl (v := .bool _) rfl ?_
    exact ⟨eR (eDF (z_c_laws_eqLog_18 a b h17)), hB16⟩
  · refine W.skip ?_
    refine W.seq ?_
    refine W.seq ?_
    refine W.regS (SR.q' (r_fa fa27_1 rfl) <| SR.q' (r_ld (v := str a.Pending) sca9 rfl (((hb6).lo hk12).cell rfl)) <| SR.q' (r_fa fa27_1 rfl) <| SR.q' (r_ld (v := str b.Pending) sca9 rfl ((hb14).cell rfl)) <| SR.q' (r_nes (s := a.Pending) (r := b.Pending) rfl rfl) <| SR.nil ?_)
    refine W.cond_n rfl (fun h19 => ?_) (fun h19 => ?_)
    · refine W.seq ?_
      refine W.regS (SR.q' (r_as (v := .bool false) rfl) <| SR.nil ?_)
      refine W.ret ?_
      refine ret1 rfl (v := .bool _) rfl ?_
      exact ⟨eR (eDF (z_c_laws_eqLog_20 a b h17 h19)), hB16⟩
    · refine W.skip ?_
      refine W.seq ?_
      refine W.seq ?_
      refine W.regS (SR.q' (r_fa fa27_2 rfl) <| SR.q' (r_ld (v := .int .i64 a.Count) sca3 rfl (((hb6).lo hk12).cell rfl)) <| SR.q' (r_fa fa27_2 rfl) <| SR.q' (r_ld (v := .int .i64 b.Count) sca3 rfl ((hb14).cell rfl)) <| SR.q' (r_ne rfl rfl) <| SR.nil ?_)
      refine W.cond_n rfl (fun h21 => ?_) (fun h21 => ?_)
      · refine W.seq ?_
        refine W.regS (SR.q' (r_as (v := .bool false) rfl) <| SR.nil ?_)
        refine W.ret ?_
        refine ret1 rfl (v := .bool _) rfl ?_
        exact ⟨eR (eDF (z_c_laws_eqLog_22 a b h17 h19 h21)), hB16⟩
      · refine W.skip ?_
        refine W.seq ?_
        refine W.regS (SR.q' (r_as (v := .bool true) rfl) <| SR.nil ?_)
        refine W.ret ?_
        refine ret1 rfl (v := .bool _) rfl ?_
        exact ⟨eR (eDT (z_c_laws_eqLog_23 a b h17 h19 h21)), hB16⟩

theorem z_c_laws_eqConsole_22 (a : Console) (na_Library_Maps : Nat) (hbda_Library_Maps : (na_Library_Maps : Int) ≤ 9223372036854775807) (hlea_Library_Maps : na_Library_Maps = a.Library.Maps.length) (na_Library_Away : Nat) (hbda_Library_Away : (na_Library_Away : Int) ≤ 9223372036854775807) (hlea_Library_Away : na_Library_Away = a.Library.Away.length) (b : Console) (nb_Library_Maps : Nat) (hbdb_Library_Maps : (nb_Library_Maps : Int) ≤ 9223372036854775807) (hleb_Library_Maps : nb_Library_Maps = b.Library.Maps.length) (nb_Library_Away : Nat) (hbdb_Library_Away : (nb_Library_Away : Int) ≤ 9223372036854775807) (hleb_Library_Away : nb_Library_Away = b.Library.Away.length) (h21 : ¬ (a.Library = b.Library)) : ¬ (a = b) := by
  cases a; cases b; simp_all
theorem z_c_laws_eqConsole_28 (a : Console) (na_Library_Maps : Nat) (hbda_Library_Maps : (na_Library_Maps : Int) ≤ 9223372036854775807) (hlea_Library_Maps : na_Library_Maps = a.Library.Maps.length) (na_Library_Away : Nat) (hbda_Library_Away : (na_Library_Away : Int) ≤ 9223372036854775807) (hlea_Library_Away : na_Library_Away = a.Library.Away.length) (b : Console) (nb_Library_Maps : Nat) (hbdb_Library_Maps : (nb_Library_Maps : Int) ≤ 9223372036854775807) (hleb_Library_Maps : nb_Library_Maps = b.Library.Maps.length) (nb_Library_Away : Nat) (hbdb_Library_Away : (nb_Library_Away : Int) ≤ 9223372036854775807) (hleb_Library_Away : nb_Library_Away = b.Library.Away.length) (h21 : a.Library = b.Library) (h27 : ¬ (a.Log = b.Log)) : ¬ (a = b) := by
  cases a; cases b; simp_all
theorem z_c_laws_eqConsole_29 (a : Console) (na_Library_Maps : Nat) (hbda_Library_Maps : (na_Library_Maps : Int) ≤ 9223372036854775807) (hlea_Library_Maps : na_Library_Maps = a.Library.Maps.length) (na_Library_Away : Nat) (hbda_Library_Away : (na_Library_Away : Int) ≤ 9223372036854775807) (hlea_Library_Away : na_Library_Away = a.Library.Away.length) (b : Console) (nb_Library_Maps : Nat) (hbdb_Library_Maps : (nb_Library_Maps : Int) ≤ 9223372036854775807) (hleb_Library_Maps : nb_Library_Maps = b.Library.Maps.length) (nb_Library_Away : Nat) (hbdb_Library_Away : (nb_Library_Away : Int) ≤ 9223372036854775807) (hleb_Library_Away : nb_Library_Away = b.Library.Away.length) (h21 : a.Library = b.Library) (h27 : a.Log = b.Log) : a = b := by
  cases a; cases b; simp_all
theorem c_laws_eqConsole (w : World) (a : Console) {Aa_Library_Maps : Option Addr} {na_Library_Maps ca_Library_Maps Ba_Library_Maps : Nat} (ha_Library_Maps : SlR w Ba_Library_Maps encLMap 3 Aa_Library_Maps na_Library_Maps ca_Library_Maps a.Library.Maps) {Aa_Library_Away : Option Addr} {na_Library_Away ca_Library_Away Ba_Library_Away : Nat} (ha_Library_Away : SlR w Ba_Library_Away encAway 2 Aa_Library_Away na_Library_Away ca_Library_Away a.Library.Away) (b : Console) {Ab_Library_Maps : Option Addr} {nb_Library_Maps cb_Library_Maps Bb_Library_Maps : Nat} (hb_Library_Maps : SlR w Bb_Library_Maps encLMap 3 Ab_Library_Maps nb_Library_Maps cb_Library_Maps b.Library.Maps) {Ab_Library_Away : Option Addr} {nb_Library_Away cb_Library_Away Bb_Library_Away : Nat} (hb_Library_Away : SlR w Bb_Library_Away encAway 2 Ab_Library_Away nb_Library_Away cb_Library_Away b.Library.Away) : Calls Try.prog 6 #[.agg (List.toArray [.slice Aa_Library_Maps na_Library_Maps ca_Library_Maps, .slice Aa_Library_Away na_Library_Away ca_Library_Away, .int .i64 a.Library.Bought, .int .i64 a.Library.Dropped, .int .i64 a.Library.Mended, str a.Log.Durable, str a.Log.Pending, .int .i64 a.Log.Count]), .agg (List.toArray [.slice Ab_Library_Maps nb_Library_Maps cb_Library_Maps, .slice Ab_Library_Away nb_Library_Away cb_Library_Away, .int .i64 b.Library.Bought, .int .i64 b.Library.Dropped, .int .i64 b.Library.Mended, str b.Log.Durable, str b.Log.Pending, .int .i64 b.Log.Count])] w fun e w' => e = .returned (.bool (decide (a = b))) ∧ Lo w w' := by
  refine calls_W 17 Try.func6 rfl rfl rfl ?_
  have hbda_Library_Maps := ha_Library_Maps.bound
  have hlea_Library_Maps := ha_Library_Maps.len
  have hBba_Library_Maps := ha_Library_Maps.bd
  have hbda_Library_Away := ha_Library_Away.bound
  have hlea_Library_Away := ha_Library_Away.len
  have hBba_Library_Away := ha_Library_Away.bd
  have hbdb_Library_Maps := hb_Library_Maps.bound
  have hleb_Library_Maps := hb_Library_Maps.len
  have hBbb_Library_Maps := hb_Library_Maps.bd
  have hbdb_Library_Away := hb_Library_Away.bound
  have hleb_Library_Away := hb_Library_Away.len
  have hBbb_Library_Away := hb_Library_Away.bd
  refine W.seq ?_
  refine W.regS (SR.box (v := .agg (List.toArray _)) (l := [.slice Aa_Library_Maps na_Library_Maps ca_Library_Maps, .slice Aa_Library_Away na_Library_Away ca_Library_Away, .int .i64 a.Library.Bought, .int .i64 a.Library.Dropped, .int .i64 a.Library.Mended, str a.Log.Durable, str a.Log.Pending, .int .i64 a.Log.Count]) rfl rfl ?_)
  intro g1 w2 hg3 hk4 hs5 hb6
  have hz7 := hk4.size
  have hB8 := (Lo.refl w).lo hk4
  refine SR.box (v := .agg (List.toArray _)) (l := [.slice Ab_Library_Maps nb_Library_Maps cb_Library_Maps, .slice Ab_Library_Away nb_Library_Away cb_Library_Away, .int .i64 b.Library.Bought, .int .i64 b.Library.Dropped, .int .i64 b.Library.Mended, str b.Log.Durable, str b.Log.Pending, .int .i64 b.Log.Count]) rfl rfl ?_
  intro g9 w10 hg11 hk12 hs13 hb14
  have hz15 := hk12.size
  have hB16 := hB8.lo hk12
  refine SR.q' (r_as (v := .bool false) rfl) <| SR.nil ?_
  refine W.seq ?_
  refine W.seq ?_
  refine W.regS (SR.q' (r_fa fa29_0 rfl) <| SR.q' (r_lda (l := [.slice Aa_Library_Maps na_Library_Maps ca_Library_Maps, .slice Aa_Library_Away na_Library_Away ca_Library_Away, .int .i64 a.Library.Bought, .int .i64 a.Library.Dropped, .int .i64 a.Library.Mended]) agg25 rfl (fun _ _ hu => ((hb6).lo hk12).cells (vs := [.slice Aa_Library_Maps na_Library_Maps ca_Library_Maps, .slice Aa_Library_Away na_Library_Away ca_Library_Away, .int .i64 a.Library.Bought, .int .i64 a.Library.Dropped, .int .i64 a.Library.Mended]) rfl hu) rfl) <| SR.q' (r_fa fa29_0 rfl) <| SR.q' (r_lda (l := [.slice Ab_Library_Maps nb_Library_Maps cb_Library_Maps, .slice Ab_Library_Away nb_Library_Away cb_Library_Away, .int .i64 b.Library.Bought, .int .i64 b.Library.Dropped, .int .i64 b.Library.Mended]) agg25 rfl (fun _ _ hu => (hb14).cells (vs := [.slice Ab_Library_Maps nb_Library_Maps cb_Library_Maps, .slice Ab_Library_Away nb_Library_Away cb_Library_Away, .int .i64 b.Library.Bought, .int .i64 b.Library.Dropped, .int .i64 b.Library.Mended]) rfl hu) rfl) <| SR.call ent11 (c_laws_eqLibrary w10 a.Library ((((ha_Library_Maps).lo hk4).lo hk12)) ((((ha_Library_Away).lo hk4).lo hk12)) b.Library ((((hb_Library_Maps).lo hk4).lo hk12)) ((((hb_Library_Away).lo hk4).lo hk12))) rfl ?_)
  rintro e w17 ⟨rfl, hk18⟩
  refine ⟨_, rfl, ?_⟩
  have hz19 := hk18.size
  have hB20 := hB16.lo hk18
  refine SR.q' (r_not rfl) <| SR.nil ?_
  refine W.cond_n rfl (fun h21 => ?_) (fun h21 => ?_)
  · refine W.seq ?_
    refine W.regS (SR.q' (r_as (v := .bool false) rfl) <| SR.nil ?_)
    refine W.ret ?_
    refine ret1 rfl (v := .bool _) rfl ?_
    exact ⟨eR (eDF (z_c_laws_eqConsole_22 a na_Library_Maps hbda_Library_Maps hlea_Library_Maps na_Library_Away hbda_Library_Away hlea_Library_Away b nb_Library_Maps hbdb_Library_Maps hleb_Library_Maps nb_Library_Away hbdb_Library_Away hleb_Library_Away h21)), hB20⟩
  · refine W.skip ?_
    refine W.seq ?_
    refine W.seq ?_
    refine W.regS (SR.q' (r_fa fa29_1 rfl) <| SR.q' (r_lda (l := [str a.Log.Durable, str a.Log.Pending, .int .i64 a.Log.Count]) agg27 rfl (fun _ _ hu => (((hb6).lo hk12).lo hk18).cells (vs := [str a.Log.Durable, str a.Log.Pending, .int .i64 a.Log.Count]) rfl hu) rfl) <| SR.q' (r_fa fa29_1 rfl) <| SR.q' (r_lda (l := [str b.Log.Durable, str b.Log.Pending, .int .i64 b.Log.Count]) agg27 rfl (fun _ _ hu => ((hb14).lo hk18).cells (vs := [str b.Log.Durable, str b.Log.Pending, .int .i64 b.Log.Count]) rfl hu) rfl) <| SR.call ent12 (c_laws_eqLog w17 a.Log b.Log) rfl ?_)
    rintro e w23 ⟨rfl, hk24⟩
    refine ⟨_, rfl, ?_⟩
    have hz25 := hk24.size
    have hB26 := hB20.lo hk24
    refine SR.q' (r_not rfl) <| SR.nil ?_
    refine W.cond_n rfl (fun h27 => ?_) (fun h27 => ?_)
    · refine W.seq ?_
      refine W.regS (SR.q' (r_as (v := .bool false) rfl) <| SR.nil ?_)
      refine W.ret ?_
      refine ret1 rfl (v := .bool _) rfl ?_
      exact ⟨eR (eDF (z_c_laws_eqConsole_28 a na_Library_Maps hbda_Library_Maps hlea_Library_Maps na_Library_Away hbda_Library_Away hlea_Library_Away b nb_Library_Maps hbdb_Library_Maps hleb_Library_Maps nb_Library_Away hbdb_Library_Away hleb_Library_Away h21 h27)), hB26⟩
    · refine W.skip ?_
      refine W.seq ?_
      refine W.regS (SR.q' (r_as (v := .bool true) rfl) <| SR.nil ?_)
      refine W.ret ?_
      refine ret1 rfl (v := .bool _) rfl ?_
      exact ⟨eR (eDT (z_c_laws_eqConsole_29 a na_Library_Maps hbda_Library_Maps hlea_Library_Maps na_Library_Away hbda_Library_Away hlea_Library_Away b nb_Library_Maps hbdb_Library_Maps hleb_Library_Maps nb_Library_Away hbdb_Library_Away hleb_Library_Away h21 h27)), hB26⟩

theorem c_laws_markConsole (w : World) (r : Console) {Ar_Library_Maps : Option Addr} {nr_Library_Maps cr_Library_Maps Br_Library_Maps : Nat} (hr_Library_Maps : SlO w Br_Library_Maps encLMap 3 41 Ar_Library_Maps nr_Library_Maps cr_Library_Maps r.Library.Maps) {Ar_Library_Away : Option Addr} {nr_Library_Away cr_Library_Away Br_Library_Away : Nat} (hr_Library_Away : SlO w Br_Library_Away encAway 2 59 Ar_Library_Away nr_Library_Away cr_Library_Away r.Library.Away) (k : Int) (hdr_Library_Maps_r_Library_Away : ∀ b_, Ar_Library_Maps = some ⟨b_, 0, none⟩ → ¬ Ar_Library_Away = some ⟨b_, 0, none⟩) (hp0 : 0 ≤ k) (hp1 : k ≤ 1000) (hp2 : (nr_Library_Maps : Int) ≤ 1048576) (hp3 : (nr_Library_Away : Int) ≤ 1048576) : Calls Try.prog 7 #[.agg (List.toArray [.slice Ar_Library_Maps nr_Library_Maps cr_Library_Maps, .slice Ar_Library_Away nr_Library_Away cr_Library_Away, .int .i64 r.Library.Bought, .int .i64 r.Library.Dropped, .int .i64 r.Library.Mended, str r.Log.Durable, str r.Log.Pending, .int .i64 r.Log.Count]), .int .i64 k] w fun e w' => e = .returned (.int .i64 (k + 3 * (r.Library.Maps.length : Int) + 2 * (r.Library.Away.length : Int))) ∧ SlO w' Br_Library_Maps encLMap 3 41 Ar_Library_Maps nr_Library_Maps cr_Library_Maps (mkL mkLMap 3 r.Library.Maps.length k) ∧ SlO w' Br_Library_Away encAway 2 59 Ar_Library_Away nr_Library_Away cr_Library_Away (mkL mkAway 2 r.Library.Away.length (k + 3 * (r.Library.Maps.length : Int))) ∧ Kp (fun b_ => Ar_Library_Maps = some ⟨b_, 0, none⟩ ∨ Ar_Library_Away = some ⟨b_, 0, none⟩) w w' := by
  refine calls_W 10 Try.func7 rfl rfl rfl ?_
  have hbdr_Library_Maps := hr_Library_Maps.rd.bound
  have hler_Library_Maps := hr_Library_Maps.len
  have hBbr_Library_Maps := hr_Library_Maps.bd
  have hbdr_Library_Away := hr_Library_Away.rd.bound
  have hler_Library_Away := hr_Library_Away.len
  have hBbr_Library_Away := hr_Library_Away.bd
  refine W.seq ?_
  refine W.regS (SR.box (v := .agg (List.toArray _)) (l := [.slice Ar_Library_Maps nr_Library_Maps cr_Library_Maps, .slice Ar_Library_Away nr_Library_Away cr_Library_Away, .int .i64 r.Library.Bought, .int .i64 r.Library.Dropped, .int .i64 r.Library.Mended, str r.Log.Durable, str r.Log.Pending, .int .i64 r.Log.Count]) rfl rfl ?_)
  intro g1 w2 hg3 hk4 hs5 hb6
  have hz7 := hk4.size
  have hB8 := (Kp.refl w : Kp (fun b_ => Ar_Library_Maps = some ⟨b_, 0, none⟩ ∨ Ar_Library_Away = some ⟨b_, 0, none⟩) w w).lo hk4
  have hd9 : ¬ Ar_Library_Maps = some ⟨g1, 0, none⟩ := fun e' => by have := (hr_Library_Maps).base_le e'; omega
  have hd10 : ¬ Ar_Library_Away = some ⟨g1, 0, none⟩ := fun e' => by have := (hr_Library_Away).base_le e'; omega
  refine SR.q' (r_as (v := .int .i64 0) rfl) <| SR.nil ?_
  refine W.seq ?_
  refine W.regS (SR.q' (r_fa fa29_0 rfl) <| SR.q' (r_lda (l := [.slice Ar_Library_Maps nr_Library_Maps cr_Library_Maps, .slice Ar_Library_Away nr_Library_Away cr_Library_Away, .int .i64 r.Library.Bought, .int .i64 r.Library.Dropped, .int .i64 r.Library.Mended]) agg25 rfl (fun _ _ hu => (hb6).cells (vs := [.slice Ar_Library_Maps nr_Library_Maps cr_Library_Maps, .slice Ar_Library_Away nr_Library_Away cr_Library_Away, .int .i64 r.Library.Bought, .int .i64 r.Library.Dropped, .int .i64 r.Library.Mended]) rfl hu) rfl) <| SR.q' (r_mv (v := .int .i64 _) rfl) <| SR.call ent13 (c_laws_markLibrary w2 r.Library ((hr_Library_Maps).lo hk4) ((hr_Library_Away).lo hk4) k hdr_Library_Maps_r_Library_Away (by omega) (by omega) (by omega) (by omega)) rfl ?_)
  rintro e w11 ⟨rfl, hO13, hO14, hk12⟩
  refine ⟨_, rfl, ?_⟩
  have hz15 := hk12.size
  have hB16 := hB8.step hk12 (fun i_ hi_ e' => e'.elim (fun e' => by have := (((hr_Library_Maps).lo hk4)).base_le e'; first | omega | (exfalso; omega) | exact e' | exact .inl e' | exact .inr e') (fun e' => by have := (((hr_Library_Away).lo hk4)).base_le e'; first | omega | (exfalso; omega) | exact e' | exact .inl e' | exact .inr e'))
  refine SR.q' (r_as (v := .int .i64 _) rfl) <| SR.nil ?_
  refine W.seq ?_
  refine W.regS (SR.q' (r_mv (v := .int .i64 _) rfl) <| SR.q' (r_as (v := .int .i64 _) rfl) <| SR.nil ?_)
  refine W.ret ?_
  refine ret1 rfl (v := .int .i64 _) rfl ?_
  exact ⟨eR rfl, (hO13), (hO14), hB16⟩

theorem z_c_laws_heldConsole_14 (r : Console) (nr_Library_Maps : Nat) (hbdr_Library_Maps : (nr_Library_Maps : Int) ≤ 9223372036854775807) (hler_Library_Maps : nr_Library_Maps = r.Library.Maps.length) (nr_Library_Away : Nat) (hbdr_Library_Away : (nr_Library_Away : Int) ≤ 9223372036854775807) (hler_Library_Away : nr_Library_Away = r.Library.Away.length) (k : Int) (mM : Nat) (mA : Nat) (hp0 : 0 ≤ k) (hp1 : k ≤ 1000) (hp2 : (nr_Library_Maps : Int) ≤ 1048576) (hp3 : (nr_Library_Away : Int) ≤ 1048576) (hp4 : r.Library.Maps = mkL mkLMap 3 mM k) (hp5 : r.Library.Away = mkL mkAway 2 mA (k + 3 * (mM : Int))) (hp6 : (mM : Int) ≤ 1048576) (hp7 : (mA : Int) ≤ 1048576) (h13 : (k + 3 * (mM : Int) + 2 * (mA : Int)) < 0) : (-1) = k + 3 * (mM : Int) + 2 * (mA : Int) := by
  first | rfl | omega
theorem c_laws_heldConsole (w : World) (r : Console) {Ar_Library_Maps : Option Addr} {nr_Library_Maps cr_Library_Maps Br_Library_Maps : Nat} (hr_Library_Maps : SlR w Br_Library_Maps encLMap 3 Ar_Library_Maps nr_Library_Maps cr_Library_Maps r.Library.Maps) {Ar_Library_Away : Option Addr} {nr_Library_Away cr_Library_Away Br_Library_Away : Nat} (hr_Library_Away : SlR w Br_Library_Away encAway 2 Ar_Library_Away nr_Library_Away cr_Library_Away r.Library.Away) (k : Int) (mM : Nat) (mA : Nat) (hp0 : 0 ≤ k) (hp1 : k ≤ 1000) (hp2 : (nr_Library_Maps : Int) ≤ 1048576) (hp3 : (nr_Library_Away : Int) ≤ 1048576) (hp4 : r.Library.Maps = mkL mkLMap 3 mM k) (hp5 : r.Library.Away = mkL mkAway 2 mA (k + 3 * (mM : Int))) (hp6 : (mM : Int) ≤ 1048576) (hp7 : (mA : Int) ≤ 1048576) : Calls Try.prog 8 #[.agg (List.toArray [.slice Ar_Library_Maps nr_Library_Maps cr_Library_Maps, .slice Ar_Library_Away nr_Library_Away cr_Library_Away, .int .i64 r.Library.Bought, .int .i64 r.Library.Dropped, .int .i64 r.Library.Mended, str r.Log.Durable, str r.Log.Pending, .int .i64 r.Log.Count]), .int .i64 k] w fun e w' => e = .returned (.int .i64 (k + 3 * (mM : Int) + 2 * (mA : Int))) ∧ Lo w w' := by
  refine calls_W 12 Try.func8 rfl rfl rfl ?_
  have hbdr_Library_Maps := hr_Library_Maps.bound
  have hler_Library_Maps := hr_Library_Maps.len
  have hBbr_Library_Maps := hr_Library_Maps.bd
  have hbdr_Library_Away := hr_Library_Away.bound
  have hler_Library_Away := hr_Library_Away.len
  have hBbr_Library_Away := hr_Library_Away.bd
  refine W.seq ?_
  refine W.regS (SR.box (v := .agg (List.toArray _)) (l := [.slice Ar_Library_Maps nr_Library_Maps cr_Library_Maps, .slice Ar_Library_Away nr_Library_Away cr_Library_Away, .int .i64 r.Library.Bought, .int .i64 r.Library.Dropped, .int .i64 r.Library.Mended, str r.Log.Durable, str r.Log.Pending, .int .i64 r.Log.Count]) rfl rfl ?_)
  intro g1 w2 hg3 hk4 hs5 hb6
  have hz7 := hk4.size
  have hB8 := (Lo.refl w).lo hk4
  refine SR.q' (r_as (v := .int .i64 0) rfl) <| SR.nil ?_
  refine W.seq ?_
  refine W.regS (SR.q' (r_fa fa29_0 rfl) <| SR.q' (r_lda (l := [.slice Ar_Library_Maps nr_Library_Maps cr_Library_Maps, .slice Ar_Library_Away nr_Library_Away cr_Library_Away, .int .i64 r.Library.Bought, .int .i64 r.Library.Dropped, .int .i64 r.Library.Mended]) agg25 rfl (fun _ _ hu => (hb6).cells (vs := [.slice Ar_Library_Maps nr_Library_Maps cr_Library_Maps, .slice Ar_Library_Away nr_Library_Away cr_Library_Away, .int .i64 r.Library.Bought, .int .i64 r.Library.Dropped, .int .i64 r.Library.Mended]) rfl hu) rfl) <| SR.q' (r_mv (v := .int .i64 _) rfl) <| SR.call ent14 (c_laws_heldLibrary w2 r.Library (((hr_Library_Maps).lo hk4)) (((hr_Library_Away).lo hk4)) k mM mA (by omega) (by omega) (by omega) (by omega) (by first | rfl | assumption) (by first | rfl | assumption) (by omega) (by omega)) rfl ?_)
  rintro e w9 ⟨rfl, hk10⟩
  refine ⟨_, rfl, ?_⟩
  have hz11 := hk10.size
  have hB12 := hB8.lo hk10
  refine SR.q' (r_as (v := .int .i64 _) rfl) <| SR.nil ?_
  refine W.seq ?_
  refine W.seq ?_
  refine W.regS (SR.q' (r_mv (v := .int .i64 _) rfl) <| SR.q' (r_lt rfl rfl) <| SR.nil ?_)
  refine W.cond_d rfl (fun h13 => ?_) (fun h13 => ?_)
  · refine W.seq ?_
    refine W.regS (SR.q' (r_as (v := .int .i64 (-1)) rfl) <| SR.nil ?_)
    refine W.ret ?_
    refine ret1 rfl (v := .int .i64 _) rfl ?_
    exact ⟨eR (eI (z_c_laws_heldConsole_14 r nr_Library_Maps hbdr_Library_Maps hler_Library_Maps nr_Library_Away hbdr_Library_Away hler_Library_Away k mM mA hp0 hp1 hp2 hp3 hp4 hp5 hp6 hp7 h13)), hB12⟩
  · refine W.skip ?_
    refine W.seq ?_
    refine W.regS (SR.q' (r_mv (v := .int .i64 _) rfl) <| SR.q' (r_as (v := .int .i64 _) rfl) <| SR.nil ?_)
    refine W.ret ?_
    refine ret1 rfl (v := .int .i64 _) rfl ?_
    exact ⟨eR rfl, hB12⟩

theorem z_c_impl_NewConsole_20 (n : Int) (h13 : ¬ (1 ≤ n ∧ n ≤ 50)) : ([] : List LMap) = ((newC n).1).Library.Maps := by
  first | (rw [newC_yes (n := n) (by assumption)]; first | done | rfl) | (rw [newC_no (n := n) (by assumption)]; first | done | rfl)
theorem z_c_impl_NewConsole_21 (n : Int) (h13 : ¬ (1 ≤ n ∧ n ≤ 50)) : ([] : List Away) = ((newC n).1).Library.Away := by
  first | (rw [newC_yes (n := n) (by assumption)]; first | done | rfl) | (rw [newC_no (n := n) (by assumption)]; first | done | rfl)
theorem z_c_impl_NewConsole_22 (n : Int) (h13 : ¬ (1 ≤ n ∧ n ≤ 50)) : 0 = ((newC n).1).Library.Bought := by
  first | (rw [newC_yes (n := n) (by assumption)]; first | done | rfl) | (rw [newC_no (n := n) (by assumption)]; first | done | rfl)
theorem z_c_impl_NewConsole_23 (n : Int) (h13 : ¬ (1 ≤ n ∧ n ≤ 50)) : 0 = ((newC n).1).Library.Dropped := by
  first | (rw [newC_yes (n := n) (by assumption)]; first | done | rfl) | (rw [newC_no (n := n) (by assumption)]; first | done | rfl)
theorem z_c_impl_NewConsole_24 (n : Int) (h13 : ¬ (1 ≤ n ∧ n ≤ 50)) : 0 = ((newC n).1).Library.Mended := by
  first | (rw [newC_yes (n := n) (by assumption)]; first | done | rfl) | (rw [newC_no (n := n) (by assumption)]; first | done | rfl)
theorem z_c_impl_NewConsole_25 (n : Int) (h13 : ¬ (1 ≤ n ∧ n ≤ 50)) : ([] : List UInt8) = ((newC n).1).Log.Durable := by
  first | (rw [newC_yes (n := n) (by assumption)]; first | done | rfl) | (rw [newC_no (n := n) (by assumption)]; first | done | rfl)
theorem z_c_impl_NewConsole_26 (n : Int) (h13 : ¬ (1 ≤ n ∧ n ≤ 50)) : ([] : List UInt8) = ((newC n).1).Log.Pending := by
  first | (rw [newC_yes (n := n) (by assumption)]; first | done | rfl) | (rw [newC_no (n := n) (by assumption)]; first | done | rfl)
theorem z_c_impl_NewConsole_27 (n : Int) (h13 : ¬ (1 ≤ n ∧ n ≤ 50)) : 0 = ((newC n).1).Log.Count := by
  first | (rw [newC_yes (n := n) (by assumption)]; first | done | rfl) | (rw [newC_no (n := n) (by assumption)]; first | done | rfl)
theorem z_c_impl_NewConsole_28 (n : Int) (h13 : ¬ (1 ≤ n ∧ n ≤ 50)) : false = (newC n).2 := by
  first | (rw [newC_yes (n := n) (by assumption)]; first | done | rfl) | (rw [newC_no (n := n) (by assumption)]; first | done | rfl)
theorem z_c_impl_NewConsole_42 (n : Int) (h13 : 1 ≤ n ∧ n ≤ 50) : ([(⟨1, n, 0⟩ : LMap)] : List LMap) = ((newC n).1).Library.Maps := by
  first | (rw [newC_yes (n := n) (by assumption)]; first | done | rfl) | (rw [newC_no (n := n) (by assumption)]; first | done | rfl)
theorem z_c_impl_NewConsole_43 (n : Int) (h13 : 1 ≤ n ∧ n ≤ 50) : ([] : List Away) = ((newC n).1).Library.Away := by
  first | (rw [newC_yes (n := n) (by assumption)]; first | done | rfl) | (rw [newC_no (n := n) (by assumption)]; first | done | rfl)
theorem z_c_impl_NewConsole_44 (n : Int) (h13 : 1 ≤ n ∧ n ≤ 50) : n = ((newC n).1).Library.Bought := by
  first | (rw [newC_yes (n := n) (by assumption)]; first | done | rfl) | (rw [newC_no (n := n) (by assumption)]; first | done | rfl)
theorem z_c_impl_NewConsole_45 (n : Int) (h13 : 1 ≤ n ∧ n ≤ 50) : 0 = ((newC n).1).Library.Dropped := by
  first | (rw [newC_yes (n := n) (by assumption)]; first | done | rfl) | (rw [newC_no (n := n) (by assumption)]; first | done | rfl)
theorem z_c_impl_NewConsole_46 (n : Int) (h13 : 1 ≤ n ∧ n ≤ 50) : 0 = ((newC n).1).Library.Mended := by
  first | (rw [newC_yes (n := n) (by assumption)]; first | done | rfl) | (rw [newC_no (n := n) (by assumption)]; first | done | rfl)
theorem z_c_impl_NewConsole_47 (n : Int) (h13 : 1 ≤ n ∧ n ≤ 50) : ([] : List UInt8) = ((newC n).1).Log.Durable := by
  first | (rw [newC_yes (n := n) (by assumption)]; first | done | rfl) | (rw [newC_no (n := n) (by assumption)]; first | done | rfl)
theorem z_c_impl_NewConsole_48 (n : Int) (h13 : 1 ≤ n ∧ n ≤ 50) : ([] : List UInt8) = ((newC n).1).Log.Pending := by
  first | (rw [newC_yes (n := n) (by assumption)]; first | done | rfl) | (rw [newC_no (n := n) (by assumption)]; first | done | rfl)
theorem z_c_impl_NewConsole_49 (n : Int) (h13 : 1 ≤ n ∧ n ≤ 50) : 0 = ((newC n).1).Log.Count := by
  first | (rw [newC_yes (n := n) (by assumption)]; first | done | rfl) | (rw [newC_no (n := n) (by assumption)]; first | done | rfl)
theorem z_c_impl_NewConsole_50 (n : Int) (h13 : 1 ≤ n ∧ n ≤ 50) : true = (newC n).2 := by
  first | (rw [newC_yes (n := n) (by assumption)]; first | done | rfl) | (rw [newC_no (n := n) (by assumption)]; first | done | rfl)
theorem c_impl_NewConsole (w : World) (n : Int) : Calls Try.prog 5 #[.int .i64 n] w fun e w' => ∃ (A1' : Option Addr) (n1' c1' : Nat) (A2' : Option Addr) (n2' c2' : Nat), e = .returned (.tuple (List.toArray [.agg (List.toArray [.slice A1' n1' c1', .slice A2' n2' c2', .int .i64 (((newC n).1).Library.Bought), .int .i64 (((newC n).1).Library.Dropped), .int .i64 (((newC n).1).Library.Mended), str (((newC n).1).Log.Durable), str (((newC n).1).Log.Pending), .int .i64 (((newC n).1).Log.Count)]), .bool ((newC n).2)])) ∧ SlO w' w.heap.size encLMap 3 41 A1' n1' c1' (((newC n).1).Library.Maps) ∧ SlO w' w.heap.size encAway 2 59 A2' n2' c2' (((newC n).1).Library.Away) ∧ (∀ b_, A1' = some ⟨b_, 0, none⟩ → ¬ A2' = some ⟨b_, 0, none⟩) ∧ Lo w w' := by
  refine calls_W 14 Try.func5 rfl rfl rfl ?_
  refine W.seq ?_
  refine W.regS (SR.alloc (l := [.slice none 0 0, .slice none 0 0, .int .i64 0, .int .i64 0, .int .i64 0, str ([] : List UInt8), str ([] : List UInt8), .int .i64 0]) tz29 rfl ?_)
  intro g1 w2 hg3 hk4 hs5 hb6
  have hz7 := hk4.size
  have hB8 := (Lo.refl w).lo hk4
  refine SR.q' (r_as (v := .bool false) rfl) <| SR.nil ?_
  refine W.seq ?_
  refine W.seq ?_
  refine W.regS (SR.q' (r_mv (v := .int .i64 _) rfl) <| SR.call ent10 (c_impl_within w2 n 1 50) rfl ?_)
  rintro e w9 ⟨rfl, hk10⟩
  refine ⟨_, rfl, ?_⟩
  have hz11 := hk10.size
  have hB12 := hB8.lo hk10
  refine SR.q' (r_not rfl) <| SR.nil ?_
  refine W.cond_n rfl (fun h13 => ?_) (fun h13 => ?_)
  · refine W.seq ?_
    refine W.regS (SR.q' (r_build (vs := []) rfl (bld29_)) <| SR.store (o := 0) (vs := [.slice none 0 0, .slice none 0 0, .int .i64 0, .int .i64 0, .int .i64 0, str ([] : List UInt8), str ([] : List UInt8), .int .i64 0]) agg29.2 rfl rfl rfl rfl ((hb6).lo hk10) (Nat.le_of_ble_eq_true rfl) rfl ?_)
    intro w14 hk15 hs16 hb17
    have hz18 := hk15.size
    have hB19 := hB12.new hk15 (by omega)
    refine SR.q' (r_as (v := .bool false) rfl) <| SR.nil ?_
    refine W.ret ?_
    refine retCT rfl rfl agg29 (hb17) rfl (v := .bool _) rfl ?_
    exact ⟨none, 0, 0, none, 0, 0, eR (eT2 (eA (eC rfl (eC rfl (eC (eI (z_c_impl_NewConsole_22 n h13)) (eC (eI (z_c_impl_NewConsole_23 n h13)) (eC (eI (z_c_impl_NewConsole_24 n h13)) (eC (eS (z_c_impl_NewConsole_25 n h13)) (eC (eS (z_c_impl_NewConsole_26 n h13)) (eC (eI (z_c_impl_NewConsole_27 n h13)) rfl))))))))) (eB (z_c_impl_NewConsole_28 n h13))), (SlO.eqv (SlO.nil (e := 41) (enc := encLMap) (fun _ => rfl) (by omega)) (z_c_impl_NewConsole_20 n h13)), (SlO.eqv (SlO.nil (e := 59) (enc := encAway) (fun _ => rfl) (by omega)) (z_c_impl_NewConsole_21 n h13)), (fun b_ h => by cases h), hB19⟩
  · refine W.skip ?_
    refine W.seq ?_
    refine W.regS (SR.q' (r_mv (v := .int .i64 _) rfl) <| SR.q' (r_build (vs := [(0, .int .i64 1), (1, .int .i64 n)]) rfl (bld41_0_1 _ _)) <| SR.lit (vs := [.agg (List.toArray [.int .i64 1, .int .i64 n, .int .i64 0])]) (L := ([(⟨1, n, 0⟩ : LMap)] : List LMap)) (enc := encLMap) tel22 (fun _ => rfl) rfl rfl rfl (by decide) ?_)
    intro g29 w30 hg31 hk32 hO33
    have hz34 := hk32.size
    have hB35 := hB12.lo hk32
    refine SR.q' (r_mv (v := .int .i64 _) rfl) <| SR.q' (r_build (vs := [(0, .slice (some (⟨g29, 0, none⟩ : Addr)) 1 1), (2, .int .i64 n)]) rfl (bld25_0_2 _ _ _ _)) <| SR.q' (r_build (vs := [(0, .agg (List.toArray [.slice (some (⟨g29, 0, none⟩ : Addr)) 1 1, .slice none 0 0, .int .i64 n, .int .i64 0, .int .i64 0]))]) rfl (bld29_0 _ _ _ _ _)) <| SR.store (o := 0) (vs := [.slice (some (⟨g29, 0, none⟩ : Addr)) 1 1, .slice none 0 0, .int .i64 n, .int .i64 0, .int .i64 0, str ([] : List UInt8), str ([] : List UInt8), .int .i64 0]) agg29.2 rfl rfl rfl rfl (((hb6).lo hk10).lo hk32) (Nat.le_of_ble_eq_true rfl) rfl ?_
    intro w36 hk37 hs38 hb39
    have hz40 := hk37.size
    have hB41 := hB35.new hk37 (by omega)
    refine SR.q' (r_as (v := .bool true) rfl) <| SR.nil ?_
    refine W.ret ?_
    refine retCT rfl rfl agg29 (hb39) rfl (v := .bool _) rfl ?_
    exact ⟨(some (⟨g29, 0, none⟩ : Addr)), 1, 1, none, 0, 0, eR (eT2 (eA (eC rfl (eC rfl (eC (eI (z_c_impl_NewConsole_44 n h13)) (eC (eI (z_c_impl_NewConsole_45 n h13)) (eC (eI (z_c_impl_NewConsole_46 n h13)) (eC (eS (z_c_impl_NewConsole_47 n h13)) (eC (eS (z_c_impl_NewConsole_48 n h13)) (eC (eI (z_c_impl_NewConsole_49 n h13)) rfl))))))))) (eB (z_c_impl_NewConsole_50 n h13))), (SlO.eqv (((hO33).kp hk37 (fun b_ hb e' => by have e'' : b_ = g1 := e'; have := (hO33).base_le hb; omega)).down (by omega)) (z_c_impl_NewConsole_42 n h13)), (SlO.eqv (SlO.nil (e := 59) (enc := encAway) (fun _ => rfl) (by omega)) (z_c_impl_NewConsole_43 n h13)), (fun b_ h h' => by cases h'), hB41⟩

theorem z_c_spec_NewConsole_52 (n : Int) (n12 : Nat) (hl22 : n12 = (((spec_StepLibrary (⟨([] : List LMap), ([] : List Away), 0, 0, 0⟩ : Library) (⟨1, 1, 0, n⟩ : LibraryStep)).1).Maps).length) (hl23 : (n12 : Int) ≤ 9223372036854775807) (hq24 : (((spec_StepLibrary (⟨([] : List LMap), ([] : List Away), 0, 0, 0⟩ : Library) (⟨1, 1, 0, n⟩ : LibraryStep)).1).Maps).length ≤ 8) (n16 : Nat) (hl25 : n16 = (((spec_StepLibrary (⟨([] : List LMap), ([] : List Away), 0, 0, 0⟩ : Library) (⟨1, 1, 0, n⟩ : LibraryStep)).1).Away).length) (hl26 : (n16 : Int) ≤ 9223372036854775807) (hq27 : (((spec_StepLibrary (⟨([] : List LMap), ([] : List Away), 0, 0, 0⟩ : Library) (⟨1, 1, 0, n⟩ : LibraryStep)).1).Away).length ≤ 8) (h44 : (!((spec_StepLibrary (⟨([] : List LMap), ([] : List Away), 0, 0, 0⟩ : Library) (⟨1, 1, 0, n⟩ : LibraryStep)).2)) = true) (hq45 : ((spec_StepLibrary (⟨([] : List LMap), ([] : List Away), 0, 0, 0⟩ : Library) (⟨1, 1, 0, n⟩ : LibraryStep)).2) = false) : ([] : List LMap) = ((newC n).1).Library.Maps := by
  first | (rw [newS_ok (n := n) ‹(!_) = false›]; first | done | rfl) | (rw [newS_no (n := n) ‹(!_) = true›]; first | done | rfl)
theorem z_c_spec_NewConsole_53 (n : Int) (n12 : Nat) (hl22 : n12 = (((spec_StepLibrary (⟨([] : List LMap), ([] : List Away), 0, 0, 0⟩ : Library) (⟨1, 1, 0, n⟩ : LibraryStep)).1).Maps).length) (hl23 : (n12 : Int) ≤ 9223372036854775807) (hq24 : (((spec_StepLibrary (⟨([] : List LMap), ([] : List Away), 0, 0, 0⟩ : Library) (⟨1, 1, 0, n⟩ : LibraryStep)).1).Maps).length ≤ 8) (n16 : Nat) (hl25 : n16 = (((spec_StepLibrary (⟨([] : List LMap), ([] : List Away), 0, 0, 0⟩ : Library) (⟨1, 1, 0, n⟩ : LibraryStep)).1).Away).length) (hl26 : (n16 : Int) ≤ 9223372036854775807) (hq27 : (((spec_StepLibrary (⟨([] : List LMap), ([] : List Away), 0, 0, 0⟩ : Library) (⟨1, 1, 0, n⟩ : LibraryStep)).1).Away).length ≤ 8) (h44 : (!((spec_StepLibrary (⟨([] : List LMap), ([] : List Away), 0, 0, 0⟩ : Library) (⟨1, 1, 0, n⟩ : LibraryStep)).2)) = true) (hq45 : ((spec_StepLibrary (⟨([] : List LMap), ([] : List Away), 0, 0, 0⟩ : Library) (⟨1, 1, 0, n⟩ : LibraryStep)).2) = false) : ([] : List Away) = ((newC n).1).Library.Away := by
  first | (rw [newS_ok (n := n) ‹(!_) = false›]; first | done | rfl) | (rw [newS_no (n := n) ‹(!_) = true›]; first | done | rfl)
theorem z_c_spec_NewConsole_54 (n : Int) (n12 : Nat) (hl22 : n12 = (((spec_StepLibrary (⟨([] : List LMap), ([] : List Away), 0, 0, 0⟩ : Library) (⟨1, 1, 0, n⟩ : LibraryStep)).1).Maps).length) (hl23 : (n12 : Int) ≤ 9223372036854775807) (hq24 : (((spec_StepLibrary (⟨([] : List LMap), ([] : List Away), 0, 0, 0⟩ : Library) (⟨1, 1, 0, n⟩ : LibraryStep)).1).Maps).length ≤ 8) (n16 : Nat) (hl25 : n16 = (((spec_StepLibrary (⟨([] : List LMap), ([] : List Away), 0, 0, 0⟩ : Library) (⟨1, 1, 0, n⟩ : LibraryStep)).1).Away).length) (hl26 : (n16 : Int) ≤ 9223372036854775807) (hq27 : (((spec_StepLibrary (⟨([] : List LMap), ([] : List Away), 0, 0, 0⟩ : Library) (⟨1, 1, 0, n⟩ : LibraryStep)).1).Away).length ≤ 8) (h44 : (!((spec_StepLibrary (⟨([] : List LMap), ([] : List Away), 0, 0, 0⟩ : Library) (⟨1, 1, 0, n⟩ : LibraryStep)).2)) = true) (hq45 : ((spec_StepLibrary (⟨([] : List LMap), ([] : List Away), 0, 0, 0⟩ : Library) (⟨1, 1, 0, n⟩ : LibraryStep)).2) = false) : 0 = ((newC n).1).Library.Bought := by
  first | (rw [newS_ok (n := n) ‹(!_) = false›]; first | done | rfl) | (rw [newS_no (n := n) ‹(!_) = true›]; first | done | rfl)
theorem z_c_spec_NewConsole_55 (n : Int) (n12 : Nat) (hl22 : n12 = (((spec_StepLibrary (⟨([] : List LMap), ([] : List Away), 0, 0, 0⟩ : Library) (⟨1, 1, 0, n⟩ : LibraryStep)).1).Maps).length) (hl23 : (n12 : Int) ≤ 9223372036854775807) (hq24 : (((spec_StepLibrary (⟨([] : List LMap), ([] : List Away), 0, 0, 0⟩ : Library) (⟨1, 1, 0, n⟩ : LibraryStep)).1).Maps).length ≤ 8) (n16 : Nat) (hl25 : n16 = (((spec_StepLibrary (⟨([] : List LMap), ([] : List Away), 0, 0, 0⟩ : Library) (⟨1, 1, 0, n⟩ : LibraryStep)).1).Away).length) (hl26 : (n16 : Int) ≤ 9223372036854775807) (hq27 : (((spec_StepLibrary (⟨([] : List LMap), ([] : List Away), 0, 0, 0⟩ : Library) (⟨1, 1, 0, n⟩ : LibraryStep)).1).Away).length ≤ 8) (h44 : (!((spec_StepLibrary (⟨([] : List LMap), ([] : List Away), 0, 0, 0⟩ : Library) (⟨1, 1, 0, n⟩ : LibraryStep)).2)) = true) (hq45 : ((spec_StepLibrary (⟨([] : List LMap), ([] : List Away), 0, 0, 0⟩ : Library) (⟨1, 1, 0, n⟩ : LibraryStep)).2) = false) : 0 = ((newC n).1).Library.Dropped := by
  first | (rw [newS_ok (n := n) ‹(!_) = false›]; first | done | rfl) | (rw [newS_no (n := n) ‹(!_) = true›]; first | done | rfl)
theorem z_c_spec_NewConsole_56 (n : Int) (n12 : Nat) (hl22 : n12 = (((spec_StepLibrary (⟨([] : List LMap), ([] : List Away), 0, 0, 0⟩ : Library) (⟨1, 1, 0, n⟩ : LibraryStep)).1).Maps).length) (hl23 : (n12 : Int) ≤ 9223372036854775807) (hq24 : (((spec_StepLibrary (⟨([] : List LMap), ([] : List Away), 0, 0, 0⟩ : Library) (⟨1, 1, 0, n⟩ : LibraryStep)).1).Maps).length ≤ 8) (n16 : Nat) (hl25 : n16 = (((spec_StepLibrary (⟨([] : List LMap), ([] : List Away), 0, 0, 0⟩ : Library) (⟨1, 1, 0, n⟩ : LibraryStep)).1).Away).length) (hl26 : (n16 : Int) ≤ 9223372036854775807) (hq27 : (((spec_StepLibrary (⟨([] : List LMap), ([] : List Away), 0, 0, 0⟩ : Library) (⟨1, 1, 0, n⟩ : LibraryStep)).1).Away).length ≤ 8) (h44 : (!((spec_StepLibrary (⟨([] : List LMap), ([] : List Away), 0, 0, 0⟩ : Library) (⟨1, 1, 0, n⟩ : LibraryStep)).2)) = true) (hq45 : ((spec_StepLibrary (⟨([] : List LMap), ([] : List Away), 0, 0, 0⟩ : Library) (⟨1, 1, 0, n⟩ : LibraryStep)).2) = false) : 0 = ((newC n).1).Library.Mended := by
  first | (rw [newS_ok (n := n) ‹(!_) = false›]; first | done | rfl) | (rw [newS_no (n := n) ‹(!_) = true›]; first | done | rfl)
theorem z_c_spec_NewConsole_57 (n : Int) (n12 : Nat) (hl22 : n12 = (((spec_StepLibrary (⟨([] : List LMap), ([] : List Away), 0, 0, 0⟩ : Library) (⟨1, 1, 0, n⟩ : LibraryStep)).1).Maps).length) (hl23 : (n12 : Int) ≤ 9223372036854775807) (hq24 : (((spec_StepLibrary (⟨([] : List LMap), ([] : List Away), 0, 0, 0⟩ : Library) (⟨1, 1, 0, n⟩ : LibraryStep)).1).Maps).length ≤ 8) (n16 : Nat) (hl25 : n16 = (((spec_StepLibrary (⟨([] : List LMap), ([] : List Away), 0, 0, 0⟩ : Library) (⟨1, 1, 0, n⟩ : LibraryStep)).1).Away).length) (hl26 : (n16 : Int) ≤ 9223372036854775807) (hq27 : (((spec_StepLibrary (⟨([] : List LMap), ([] : List Away), 0, 0, 0⟩ : Library) (⟨1, 1, 0, n⟩ : LibraryStep)).1).Away).length ≤ 8) (h44 : (!((spec_StepLibrary (⟨([] : List LMap), ([] : List Away), 0, 0, 0⟩ : Library) (⟨1, 1, 0, n⟩ : LibraryStep)).2)) = true) (hq45 : ((spec_StepLibrary (⟨([] : List LMap), ([] : List Away), 0, 0, 0⟩ : Library) (⟨1, 1, 0, n⟩ : LibraryStep)).2) = false) : ([] : List UInt8) = ((newC n).1).Log.Durable := by
  first | (rw [newS_ok (n := n) ‹(!_) = false›]; first | done | rfl) | (rw [newS_no (n := n) ‹(!_) = true›]; first | done | rfl)
theorem z_c_spec_NewConsole_58 (n : Int) (n12 : Nat) (hl22 : n12 = (((spec_StepLibrary (⟨([] : List LMap), ([] : List Away), 0, 0, 0⟩ : Library) (⟨1, 1, 0, n⟩ : LibraryStep)).1).Maps).length) (hl23 : (n12 : Int) ≤ 9223372036854775807) (hq24 : (((spec_StepLibrary (⟨([] : List LMap), ([] : List Away), 0, 0, 0⟩ : Library) (⟨1, 1, 0, n⟩ : LibraryStep)).1).Maps).length ≤ 8) (n16 : Nat) (hl25 : n16 = (((spec_StepLibrary (⟨([] : List LMap), ([] : List Away), 0, 0, 0⟩ : Library) (⟨1, 1, 0, n⟩ : LibraryStep)).1).Away).length) (hl26 : (n16 : Int) ≤ 9223372036854775807) (hq27 : (((spec_StepLibrary (⟨([] : List LMap), ([] : List Away), 0, 0, 0⟩ : Library) (⟨1, 1, 0, n⟩ : LibraryStep)).1).Away).length ≤ 8) (h44 : (!((spec_StepLibrary (⟨([] : List LMap), ([] : List Away), 0, 0, 0⟩ : Library) (⟨1, 1, 0, n⟩ : LibraryStep)).2)) = true) (hq45 : ((spec_StepLibrary (⟨([] : List LMap), ([] : List Away), 0, 0, 0⟩ : Library) (⟨1, 1, 0, n⟩ : LibraryStep)).2) = false) : ([] : List UInt8) = ((newC n).1).Log.Pending := by
  first | (rw [newS_ok (n := n) ‹(!_) = false›]; first | done | rfl) | (rw [newS_no (n := n) ‹(!_) = true›]; first | done | rfl)
theorem z_c_spec_NewConsole_59 (n : Int) (n12 : Nat) (hl22 : n12 = (((spec_StepLibrary (⟨([] : List LMap), ([] : List Away), 0, 0, 0⟩ : Library) (⟨1, 1, 0, n⟩ : LibraryStep)).1).Maps).length) (hl23 : (n12 : Int) ≤ 9223372036854775807) (hq24 : (((spec_StepLibrary (⟨([] : List LMap), ([] : List Away), 0, 0, 0⟩ : Library) (⟨1, 1, 0, n⟩ : LibraryStep)).1).Maps).length ≤ 8) (n16 : Nat) (hl25 : n16 = (((spec_StepLibrary (⟨([] : List LMap), ([] : List Away), 0, 0, 0⟩ : Library) (⟨1, 1, 0, n⟩ : LibraryStep)).1).Away).length) (hl26 : (n16 : Int) ≤ 9223372036854775807) (hq27 : (((spec_StepLibrary (⟨([] : List LMap), ([] : List Away), 0, 0, 0⟩ : Library) (⟨1, 1, 0, n⟩ : LibraryStep)).1).Away).length ≤ 8) (h44 : (!((spec_StepLibrary (⟨([] : List LMap), ([] : List Away), 0, 0, 0⟩ : Library) (⟨1, 1, 0, n⟩ : LibraryStep)).2)) = true) (hq45 : ((spec_StepLibrary (⟨([] : List LMap), ([] : List Away), 0, 0, 0⟩ : Library) (⟨1, 1, 0, n⟩ : LibraryStep)).2) = false) : 0 = ((newC n).1).Log.Count := by
  first | (rw [newS_ok (n := n) ‹(!_) = false›]; first | done | rfl) | (rw [newS_no (n := n) ‹(!_) = true›]; first | done | rfl)
theorem z_c_spec_NewConsole_60 (n : Int) (n12 : Nat) (hl22 : n12 = (((spec_StepLibrary (⟨([] : List LMap), ([] : List Away), 0, 0, 0⟩ : Library) (⟨1, 1, 0, n⟩ : LibraryStep)).1).Maps).length) (hl23 : (n12 : Int) ≤ 9223372036854775807) (hq24 : (((spec_StepLibrary (⟨([] : List LMap), ([] : List Away), 0, 0, 0⟩ : Library) (⟨1, 1, 0, n⟩ : LibraryStep)).1).Maps).length ≤ 8) (n16 : Nat) (hl25 : n16 = (((spec_StepLibrary (⟨([] : List LMap), ([] : List Away), 0, 0, 0⟩ : Library) (⟨1, 1, 0, n⟩ : LibraryStep)).1).Away).length) (hl26 : (n16 : Int) ≤ 9223372036854775807) (hq27 : (((spec_StepLibrary (⟨([] : List LMap), ([] : List Away), 0, 0, 0⟩ : Library) (⟨1, 1, 0, n⟩ : LibraryStep)).1).Away).length ≤ 8) (h44 : (!((spec_StepLibrary (⟨([] : List LMap), ([] : List Away), 0, 0, 0⟩ : Library) (⟨1, 1, 0, n⟩ : LibraryStep)).2)) = true) (hq45 : ((spec_StepLibrary (⟨([] : List LMap), ([] : List Away), 0, 0, 0⟩ : Library) (⟨1, 1, 0, n⟩ : LibraryStep)).2) = false) : false = (newC n).2 := by
  first | (rw [newS_ok (n := n) ‹(!_) = false›]; first | done | rfl) | (rw [newS_no (n := n) ‹(!_) = true›]; first | done | rfl)
theorem z_c_spec_NewConsole_68 (n : Int) (n12 : Nat) (hl22 : n12 = (((spec_StepLibrary (⟨([] : List LMap), ([] : List Away), 0, 0, 0⟩ : Library) (⟨1, 1, 0, n⟩ : LibraryStep)).1).Maps).length) (hl23 : (n12 : Int) ≤ 9223372036854775807) (hq24 : (((spec_StepLibrary (⟨([] : List LMap), ([] : List Away), 0, 0, 0⟩ : Library) (⟨1, 1, 0, n⟩ : LibraryStep)).1).Maps).length ≤ 8) (n16 : Nat) (hl25 : n16 = (((spec_StepLibrary (⟨([] : List LMap), ([] : List Away), 0, 0, 0⟩ : Library) (⟨1, 1, 0, n⟩ : LibraryStep)).1).Away).length) (hl26 : (n16 : Int) ≤ 9223372036854775807) (hq27 : (((spec_StepLibrary (⟨([] : List LMap), ([] : List Away), 0, 0, 0⟩ : Library) (⟨1, 1, 0, n⟩ : LibraryStep)).1).Away).length ≤ 8) (h44 : (!((spec_StepLibrary (⟨([] : List LMap), ([] : List Away), 0, 0, 0⟩ : Library) (⟨1, 1, 0, n⟩ : LibraryStep)).2)) = false) (hq61 : ((spec_StepLibrary (⟨([] : List LMap), ([] : List Away), 0, 0, 0⟩ : Library) (⟨1, 1, 0, n⟩ : LibraryStep)).2) = true) : ((spec_StepLibrary (⟨([] : List LMap), ([] : List Away), 0, 0, 0⟩ : Library) (⟨1, 1, 0, n⟩ : LibraryStep)).1).Maps = ((newC n).1).Library.Maps := by
  first | (rw [newS_ok (n := n) ‹(!_) = false›]; first | done | rfl) | (rw [newS_no (n := n) ‹(!_) = true›]; first | done | rfl)
theorem z_c_spec_NewConsole_69 (n : Int) (n12 : Nat) (hl22 : n12 = (((spec_StepLibrary (⟨([] : List LMap), ([] : List Away), 0, 0, 0⟩ : Library) (⟨1, 1, 0, n⟩ : LibraryStep)).1).Maps).length) (hl23 : (n12 : Int) ≤ 9223372036854775807) (hq24 : (((spec_StepLibrary (⟨([] : List LMap), ([] : List Away), 0, 0, 0⟩ : Library) (⟨1, 1, 0, n⟩ : LibraryStep)).1).Maps).length ≤ 8) (n16 : Nat) (hl25 : n16 = (((spec_StepLibrary (⟨([] : List LMap), ([] : List Away), 0, 0, 0⟩ : Library) (⟨1, 1, 0, n⟩ : LibraryStep)).1).Away).length) (hl26 : (n16 : Int) ≤ 9223372036854775807) (hq27 : (((spec_StepLibrary (⟨([] : List LMap), ([] : List Away), 0, 0, 0⟩ : Library) (⟨1, 1, 0, n⟩ : LibraryStep)).1).Away).length ≤ 8) (h44 : (!((spec_StepLibrary (⟨([] : List LMap), ([] : List Away), 0, 0, 0⟩ : Library) (⟨1, 1, 0, n⟩ : LibraryStep)).2)) = false) (hq61 : ((spec_StepLibrary (⟨([] : List LMap), ([] : List Away), 0, 0, 0⟩ : Library) (⟨1, 1, 0, n⟩ : LibraryStep)).2) = true) : ((spec_StepLibrary (⟨([] : List LMap), ([] : List Away), 0, 0, 0⟩ : Library) (⟨1, 1, 0, n⟩ : LibraryStep)).1).Away = ((newC n).1).Library.Away := by
  first | (rw [newS_ok (n := n) ‹(!_) = false›]; first | done | rfl) | (rw [newS_no (n := n) ‹(!_) = true›]; first | done | rfl)
theorem z_c_spec_NewConsole_70 (n : Int) (n12 : Nat) (hl22 : n12 = (((spec_StepLibrary (⟨([] : List LMap), ([] : List Away), 0, 0, 0⟩ : Library) (⟨1, 1, 0, n⟩ : LibraryStep)).1).Maps).length) (hl23 : (n12 : Int) ≤ 9223372036854775807) (hq24 : (((spec_StepLibrary (⟨([] : List LMap), ([] : List Away), 0, 0, 0⟩ : Library) (⟨1, 1, 0, n⟩ : LibraryStep)).1).Maps).length ≤ 8) (n16 : Nat) (hl25 : n16 = (((spec_StepLibrary (⟨([] : List LMap), ([] : List Away), 0, 0, 0⟩ : Library) (⟨1, 1, 0, n⟩ : LibraryStep)).1).Away).length) (hl26 : (n16 : Int) ≤ 9223372036854775807) (hq27 : (((spec_StepLibrary (⟨([] : List LMap), ([] : List Away), 0, 0, 0⟩ : Library) (⟨1, 1, 0, n⟩ : LibraryStep)).1).Away).length ≤ 8) (h44 : (!((spec_StepLibrary (⟨([] : List LMap), ([] : List Away), 0, 0, 0⟩ : Library) (⟨1, 1, 0, n⟩ : LibraryStep)).2)) = false) (hq61 : ((spec_StepLibrary (⟨([] : List LMap), ([] : List Away), 0, 0, 0⟩ : Library) (⟨1, 1, 0, n⟩ : LibraryStep)).2) = true) : ((spec_StepLibrary (⟨([] : List LMap), ([] : List Away), 0, 0, 0⟩ : Library) (⟨1, 1, 0, n⟩ : LibraryStep)).1).Bought = ((newC n).1).Library.Bought := by
  first | (rw [newS_ok (n := n) ‹(!_) = false›]; first | done | rfl) | (rw [newS_no (n := n) ‹(!_) = true›]; first | done | rfl)
theorem z_c_spec_NewConsole_71 (n : Int) (n12 : Nat) (hl22 : n12 = (((spec_StepLibrary (⟨([] : List LMap), ([] : List Away), 0, 0, 0⟩ : Library) (⟨1, 1, 0, n⟩ : LibraryStep)).1).Maps).length) (hl23 : (n12 : Int) ≤ 9223372036854775807) (hq24 : (((spec_StepLibrary (⟨([] : List LMap), ([] : List Away), 0, 0, 0⟩ : Library) (⟨1, 1, 0, n⟩ : LibraryStep)).1).Maps).length ≤ 8) (n16 : Nat) (hl25 : n16 = (((spec_StepLibrary (⟨([] : List LMap), ([] : List Away), 0, 0, 0⟩ : Library) (⟨1, 1, 0, n⟩ : LibraryStep)).1).Away).length) (hl26 : (n16 : Int) ≤ 9223372036854775807) (hq27 : (((spec_StepLibrary (⟨([] : List LMap), ([] : List Away), 0, 0, 0⟩ : Library) (⟨1, 1, 0, n⟩ : LibraryStep)).1).Away).length ≤ 8) (h44 : (!((spec_StepLibrary (⟨([] : List LMap), ([] : List Away), 0, 0, 0⟩ : Library) (⟨1, 1, 0, n⟩ : LibraryStep)).2)) = false) (hq61 : ((spec_StepLibrary (⟨([] : List LMap), ([] : List Away), 0, 0, 0⟩ : Library) (⟨1, 1, 0, n⟩ : LibraryStep)).2) = true) : ((spec_StepLibrary (⟨([] : List LMap), ([] : List Away), 0, 0, 0⟩ : Library) (⟨1, 1, 0, n⟩ : LibraryStep)).1).Dropped = ((newC n).1).Library.Dropped := by
  first | (rw [newS_ok (n := n) ‹(!_) = false›]; first | done | rfl) | (rw [newS_no (n := n) ‹(!_) = true›]; first | done | rfl)
theorem z_c_spec_NewConsole_72 (n : Int) (n12 : Nat) (hl22 : n12 = (((spec_StepLibrary (⟨([] : List LMap), ([] : List Away), 0, 0, 0⟩ : Library) (⟨1, 1, 0, n⟩ : LibraryStep)).1).Maps).length) (hl23 : (n12 : Int) ≤ 9223372036854775807) (hq24 : (((spec_StepLibrary (⟨([] : List LMap), ([] : List Away), 0, 0, 0⟩ : Library) (⟨1, 1, 0, n⟩ : LibraryStep)).1).Maps).length ≤ 8) (n16 : Nat) (hl25 : n16 = (((spec_StepLibrary (⟨([] : List LMap), ([] : List Away), 0, 0, 0⟩ : Library) (⟨1, 1, 0, n⟩ : LibraryStep)).1).Away).length) (hl26 : (n16 : Int) ≤ 9223372036854775807) (hq27 : (((spec_StepLibrary (⟨([] : List LMap), ([] : List Away), 0, 0, 0⟩ : Library) (⟨1, 1, 0, n⟩ : LibraryStep)).1).Away).length ≤ 8) (h44 : (!((spec_StepLibrary (⟨([] : List LMap), ([] : List Away), 0, 0, 0⟩ : Library) (⟨1, 1, 0, n⟩ : LibraryStep)).2)) = false) (hq61 : ((spec_StepLibrary (⟨([] : List LMap), ([] : List Away), 0, 0, 0⟩ : Library) (⟨1, 1, 0, n⟩ : LibraryStep)).2) = true) : ((spec_StepLibrary (⟨([] : List LMap), ([] : List Away), 0, 0, 0⟩ : Library) (⟨1, 1, 0, n⟩ : LibraryStep)).1).Mended = ((newC n).1).Library.Mended := by
  first | (rw [newS_ok (n := n) ‹(!_) = false›]; first | done | rfl) | (rw [newS_no (n := n) ‹(!_) = true›]; first | done | rfl)
theorem z_c_spec_NewConsole_73 (n : Int) (n12 : Nat) (hl22 : n12 = (((spec_StepLibrary (⟨([] : List LMap), ([] : List Away), 0, 0, 0⟩ : Library) (⟨1, 1, 0, n⟩ : LibraryStep)).1).Maps).length) (hl23 : (n12 : Int) ≤ 9223372036854775807) (hq24 : (((spec_StepLibrary (⟨([] : List LMap), ([] : List Away), 0, 0, 0⟩ : Library) (⟨1, 1, 0, n⟩ : LibraryStep)).1).Maps).length ≤ 8) (n16 : Nat) (hl25 : n16 = (((spec_StepLibrary (⟨([] : List LMap), ([] : List Away), 0, 0, 0⟩ : Library) (⟨1, 1, 0, n⟩ : LibraryStep)).1).Away).length) (hl26 : (n16 : Int) ≤ 9223372036854775807) (hq27 : (((spec_StepLibrary (⟨([] : List LMap), ([] : List Away), 0, 0, 0⟩ : Library) (⟨1, 1, 0, n⟩ : LibraryStep)).1).Away).length ≤ 8) (h44 : (!((spec_StepLibrary (⟨([] : List LMap), ([] : List Away), 0, 0, 0⟩ : Library) (⟨1, 1, 0, n⟩ : LibraryStep)).2)) = false) (hq61 : ((spec_StepLibrary (⟨([] : List LMap), ([] : List Away), 0, 0, 0⟩ : Library) (⟨1, 1, 0, n⟩ : LibraryStep)).2) = true) : ([] : List UInt8) = ((newC n).1).Log.Durable := by
  first | (rw [newS_ok (n := n) ‹(!_) = false›]; first | done | rfl) | (rw [newS_no (n := n) ‹(!_) = true›]; first | done | rfl)
theorem z_c_spec_NewConsole_74 (n : Int) (n12 : Nat) (hl22 : n12 = (((spec_StepLibrary (⟨([] : List LMap), ([] : List Away), 0, 0, 0⟩ : Library) (⟨1, 1, 0, n⟩ : LibraryStep)).1).Maps).length) (hl23 : (n12 : Int) ≤ 9223372036854775807) (hq24 : (((spec_StepLibrary (⟨([] : List LMap), ([] : List Away), 0, 0, 0⟩ : Library) (⟨1, 1, 0, n⟩ : LibraryStep)).1).Maps).length ≤ 8) (n16 : Nat) (hl25 : n16 = (((spec_StepLibrary (⟨([] : List LMap), ([] : List Away), 0, 0, 0⟩ : Library) (⟨1, 1, 0, n⟩ : LibraryStep)).1).Away).length) (hl26 : (n16 : Int) ≤ 9223372036854775807) (hq27 : (((spec_StepLibrary (⟨([] : List LMap), ([] : List Away), 0, 0, 0⟩ : Library) (⟨1, 1, 0, n⟩ : LibraryStep)).1).Away).length ≤ 8) (h44 : (!((spec_StepLibrary (⟨([] : List LMap), ([] : List Away), 0, 0, 0⟩ : Library) (⟨1, 1, 0, n⟩ : LibraryStep)).2)) = false) (hq61 : ((spec_StepLibrary (⟨([] : List LMap), ([] : List Away), 0, 0, 0⟩ : Library) (⟨1, 1, 0, n⟩ : LibraryStep)).2) = true) : ([] : List UInt8) = ((newC n).1).Log.Pending := by
  first | (rw [newS_ok (n := n) ‹(!_) = false›]; first | done | rfl) | (rw [newS_no (n := n) ‹(!_) = true›]; first | done | rfl)
theorem z_c_spec_NewConsole_75 (n : Int) (n12 : Nat) (hl22 : n12 = (((spec_StepLibrary (⟨([] : List LMap), ([] : List Away), 0, 0, 0⟩ : Library) (⟨1, 1, 0, n⟩ : LibraryStep)).1).Maps).length) (hl23 : (n12 : Int) ≤ 9223372036854775807) (hq24 : (((spec_StepLibrary (⟨([] : List LMap), ([] : List Away), 0, 0, 0⟩ : Library) (⟨1, 1, 0, n⟩ : LibraryStep)).1).Maps).length ≤ 8) (n16 : Nat) (hl25 : n16 = (((spec_StepLibrary (⟨([] : List LMap), ([] : List Away), 0, 0, 0⟩ : Library) (⟨1, 1, 0, n⟩ : LibraryStep)).1).Away).length) (hl26 : (n16 : Int) ≤ 9223372036854775807) (hq27 : (((spec_StepLibrary (⟨([] : List LMap), ([] : List Away), 0, 0, 0⟩ : Library) (⟨1, 1, 0, n⟩ : LibraryStep)).1).Away).length ≤ 8) (h44 : (!((spec_StepLibrary (⟨([] : List LMap), ([] : List Away), 0, 0, 0⟩ : Library) (⟨1, 1, 0, n⟩ : LibraryStep)).2)) = false) (hq61 : ((spec_StepLibrary (⟨([] : List LMap), ([] : List Away), 0, 0, 0⟩ : Library) (⟨1, 1, 0, n⟩ : LibraryStep)).2) = true) : 0 = ((newC n).1).Log.Count := by
  first | (rw [newS_ok (n := n) ‹(!_) = false›]; first | done | rfl) | (rw [newS_no (n := n) ‹(!_) = true›]; first | done | rfl)
theorem z_c_spec_NewConsole_76 (n : Int) (n12 : Nat) (hl22 : n12 = (((spec_StepLibrary (⟨([] : List LMap), ([] : List Away), 0, 0, 0⟩ : Library) (⟨1, 1, 0, n⟩ : LibraryStep)).1).Maps).length) (hl23 : (n12 : Int) ≤ 9223372036854775807) (hq24 : (((spec_StepLibrary (⟨([] : List LMap), ([] : List Away), 0, 0, 0⟩ : Library) (⟨1, 1, 0, n⟩ : LibraryStep)).1).Maps).length ≤ 8) (n16 : Nat) (hl25 : n16 = (((spec_StepLibrary (⟨([] : List LMap), ([] : List Away), 0, 0, 0⟩ : Library) (⟨1, 1, 0, n⟩ : LibraryStep)).1).Away).length) (hl26 : (n16 : Int) ≤ 9223372036854775807) (hq27 : (((spec_StepLibrary (⟨([] : List LMap), ([] : List Away), 0, 0, 0⟩ : Library) (⟨1, 1, 0, n⟩ : LibraryStep)).1).Away).length ≤ 8) (h44 : (!((spec_StepLibrary (⟨([] : List LMap), ([] : List Away), 0, 0, 0⟩ : Library) (⟨1, 1, 0, n⟩ : LibraryStep)).2)) = false) (hq61 : ((spec_StepLibrary (⟨([] : List LMap), ([] : List Away), 0, 0, 0⟩ : Library) (⟨1, 1, 0, n⟩ : LibraryStep)).2) = true) : true = (newC n).2 := by
  first | (rw [newS_ok (n := n) ‹(!_) = false›]; first | done | rfl) | (rw [newS_no (n := n) ‹(!_) = true›]; first | done | rfl)
theorem c_spec_NewConsole (w : World) (n : Int) : Calls Try.prog 4 #[.int .i64 n] w fun e w' => ∃ (A1' : Option Addr) (n1' c1' : Nat) (A2' : Option Addr) (n2' c2' : Nat), e = .returned (.tuple (List.toArray [.agg (List.toArray [.slice A1' n1' c1', .slice A2' n2' c2', .int .i64 (((newC n).1).Library.Bought), .int .i64 (((newC n).1).Library.Dropped), .int .i64 (((newC n).1).Library.Mended), str (((newC n).1).Log.Durable), str (((newC n).1).Log.Pending), .int .i64 (((newC n).1).Log.Count)]), .bool ((newC n).2)])) ∧ SlO w' w.heap.size encLMap 3 41 A1' n1' c1' (((newC n).1).Library.Maps) ∧ SlO w' w.heap.size encAway 2 59 A2' n2' c2' (((newC n).1).Library.Away) ∧ (∀ b_, A1' = some ⟨b_, 0, none⟩ → ¬ A2' = some ⟨b_, 0, none⟩) ∧ Lo w w' := by
  refine calls_W 18 Try.func4 rfl rfl rfl ?_
  refine W.seq ?_
  refine W.regS (SR.alloc (l := [.slice none 0 0, .slice none 0 0, .int .i64 0, .int .i64 0, .int .i64 0, str ([] : List UInt8), str ([] : List UInt8), .int .i64 0]) tz29 rfl ?_)
  intro g1 w2 hg3 hk4 hs5 hb6
  have hz7 := hk4.size
  have hB8 := (Lo.refl w).lo hk4
  refine SR.q' (r_as (v := .bool false) rfl) <| SR.nil ?_
  refine W.seq ?_
  refine W.regS (SR.q' (r_build (vs := []) rfl (bld25_)) <| SR.q' (r_mv (v := .int .i64 _) rfl) <| SR.q' (r_build (vs := [(0, .int .i64 1), (1, .int .i64 1), (3, .int .i64 n)]) rfl (bld38_0_1_3 _ _ _)) <| SR.call ent9 (c_spec_StepLibrary w2 (⟨([] : List LMap), ([] : List Away), 0, 0, 0⟩ : Library) (SlR.nil (enc := encLMap) w2 (fun _ => rfl)) (SlR.nil (enc := encAway) w2 (fun _ => rfl)) (⟨1, 1, 0, n⟩ : LibraryStep)) rfl ?_)
  rintro e w9 ⟨A11, n12, c13, A15, n16, c17, rfl, hO14, hO18, hd19, hk10⟩
  refine ⟨_, rfl, ?_⟩
  have hz20 := hk10.size
  have hB21 := hB8.lo hk10
  have hl22 := hO14.len
  have hl23 := hO14.rd.bound
  have hq24 := step_lenMS (⟨([] : List LMap), ([] : List Away), 0, 0, 0⟩ : Library) (⟨1, 1, 0, n⟩ : LibraryStep)
  have hl25 := hO18.len
  have hl26 := hO18.rd.bound
  have hq27 := step_lenAS (⟨([] : List LMap), ([] : List Away), 0, 0, 0⟩ : Library) (⟨1, 1, 0, n⟩ : LibraryStep)
  refine SR.q' (r_mv (v := .tuple (List.toArray _)) rfl) <| SR.q' (r_ext (v := .agg (List.toArray _)) rfl rfl) <| SR.q' (r_ext (v := .bool _) rfl rfl) <| SR.alloc (l := [.slice none 0 0, .slice none 0 0, .int .i64 0, .int .i64 0, .int .i64 0]) tz25 rfl ?_
  intro g28 w29 hg30 hk31 hs32 hb33
  have hz34 := hk31.size
  have hB35 := hB21.lo hk31
  have hd36 : ¬ A11 = some ⟨g28, 0, none⟩ := fun e' => by have := (hO14).base_le e'; omega
  have hd37 : ¬ A15 = some ⟨g28, 0, none⟩ := fun e' => by have := (hO18).base_le e'; omega
  refine SR.store (o := 0) (vs := [.slice A11 n12 c13, .slice A15 n16 c17, .int .i64 (((spec_StepLibrary (⟨([] : List LMap), ([] : List Away), 0, 0, 0⟩ : Library) (⟨1, 1, 0, n⟩ : LibraryStep)).1).Bought), .int .i64 (((spec_StepLibrary (⟨([] : List LMap), ([] : List Away), 0, 0, 0⟩ : Library) (⟨1, 1, 0, n⟩ : LibraryStep)).1).Dropped), .int .i64 (((spec_StepLibrary (⟨([] : List LMap), ([] : List Away), 0, 0, 0⟩ : Library) (⟨1, 1, 0, n⟩ : LibraryStep)).1).Mended)]) agg25.2 rfl rfl rfl rfl (hb33) (Nat.le_of_ble_eq_true rfl) rfl ?_
  intro w38 hk39 hs40 hb41
  have hz42 := hk39.size
  have hB43 := hB35.new hk39 (by omega)
  refine SR.q' (r_as (v := .bool _) rfl) <| SR.nil ?_
  refine W.seq ?_
  refine W.seq ?_
  refine W.regS (SR.q' (r_mv (v := .bool _) rfl) <| SR.q' (r_not rfl) <| SR.nil ?_)
  refine W.cond_b rfl (fun h44 => ?_) (fun h44 => ?_)
  · have hq45 := bnot_t h44
    refine W.seq ?_
    refine W.regS (SR.q' (r_build (vs := []) rfl (bld29_)) <| SR.store (o := 0) (vs := [.slice none 0 0, .slice none 0 0, .int .i64 0, .int .i64 0, .int .i64 0, str ([] : List UInt8), str ([] : List UInt8), .int .i64 0]) agg29.2 rfl rfl rfl rfl ((((hb6).lo hk10).lo hk31).kp hk39 (fun e' => by have e'' : g1 = g28 := e'; omega)) (Nat.le_of_ble_eq_true rfl) rfl ?_)
    intro w46 hk47 hs48 hb49
    have hz50 := hk47.size
    have hB51 := hB43.new hk47 (by omega)
    refine SR.q' (r_as (v := .bool false) rfl) <| SR.nil ?_
    refine W.ret ?_
    refine retCT rfl rfl agg29 (hb49) rfl (v := .bool _) rfl ?_
    exact ⟨none, 0, 0, none, 0, 0, eR (eT2 (eA (eC rfl (eC rfl (eC (eI (z_c_spec_NewConsole_54 n n12 hl22 hl23 hq24 n16 hl25 hl26 hq27 h44 hq45)) (eC (eI (z_c_spec_NewConsole_55 n n12 hl22 hl23 hq24 n16 hl25 hl26 hq27 h44 hq45)) (eC (eI (z_c_spec_NewConsole_56 n n12 hl22 hl23 hq24 n16 hl25 hl26 hq27 h44 hq45)) (eC (eS (z_c_spec_NewConsole_57 n n12 hl22 hl23 hq24 n16 hl25 hl26 hq27 h44 hq45)) (eC (eS (z_c_spec_NewConsole_58 n n12 hl22 hl23 hq24 n16 hl25 hl26 hq27 h44 hq45)) (eC (eI (z_c_spec_NewConsole_59 n n12 hl22 hl23 hq24 n16 hl25 hl26 hq27 h44 hq45)) rfl))))))))) (eB (z_c_spec_NewConsole_60 n n12 hl22 hl23 hq24 n16 hl25 hl26 hq27 h44 hq45))), (SlO.eqv (SlO.nil (e := 41) (enc := encLMap) (fun _ => rfl) (by omega)) (z_c_spec_NewConsole_52 n n12 hl22 hl23 hq24 n16 hl25 hl26 hq27 h44 hq45)), (SlO.eqv (SlO.nil (e := 59) (enc := encAway) (fun _ => rfl) (by omega)) (z_c_spec_NewConsole_53 n n12 hl22 hl23 hq24 n16 hl25 hl26 hq27 h44 hq45)), (fun b_ h => by cases h), hB51⟩
  · have hq61 := bnot_f h44
    refine W.skip ?_
    refine W.seq ?_
    refine W.regS (SR.q' (r_lda (l := [.slice A11 n12 c13, .slice A15 n16 c17, .int .i64 (((spec_StepLibrary (⟨([] : List LMap), ([] : List Away), 0, 0, 0⟩ : Library) (⟨1, 1, 0, n⟩ : LibraryStep)).1).Bought), .int .i64 (((spec_StepLibrary (⟨([] : List LMap), ([] : List Away), 0, 0, 0⟩ : Library) (⟨1, 1, 0, n⟩ : LibraryStep)).1).Dropped), .int .i64 (((spec_StepLibrary (⟨([] : List LMap), ([] : List Away), 0, 0, 0⟩ : Library) (⟨1, 1, 0, n⟩ : LibraryStep)).1).Mended)]) agg25 rfl (fun _ _ hu => (hb41).cell hu) rfl) <| SR.q' (r_build (vs := [(0, .agg (List.toArray [.slice A11 n12 c13, .slice A15 n16 c17, .int .i64 (((spec_StepLibrary (⟨([] : List LMap), ([] : List Away), 0, 0, 0⟩ : Library) (⟨1, 1, 0, n⟩ : LibraryStep)).1).Bought), .int .i64 (((spec_StepLibrary (⟨([] : List LMap), ([] : List Away), 0, 0, 0⟩ : Library) (⟨1, 1, 0, n⟩ : LibraryStep)).1).Dropped), .int .i64 (((spec_StepLibrary (⟨([] : List LMap), ([] : List Away), 0, 0, 0⟩ : Library) (⟨1, 1, 0, n⟩ : LibraryStep)).1).Mended)]))]) rfl (bld29_0 _ _ _ _ _)) <| SR.store (o := 0) (vs := [.slice A11 n12 c13, .slice A15 n16 c17, .int .i64 (((spec_StepLibrary (⟨([] : List LMap), ([] : List Away), 0, 0, 0⟩ : Library) (⟨1, 1, 0, n⟩ : LibraryStep)).1).Bought), .int .i64 (((spec_StepLibrary (⟨([] : List LMap), ([] : List Away), 0, 0, 0⟩ : Library) (⟨1, 1, 0, n⟩ : LibraryStep)).1).Dropped), .int .i64 (((spec_StepLibrary (⟨([] : List LMap), ([] : List Away), 0, 0, 0⟩ : Library) (⟨1, 1, 0, n⟩ : LibraryStep)).1).Mended), str ([] : List UInt8), str ([] : List UInt8), .int .i64 0]) agg29.2 rfl rfl rfl rfl ((((hb6).lo hk10).lo hk31).kp hk39 (fun e' => by have e'' : g1 = g28 := e'; omega)) (Nat.le_of_ble_eq_true rfl) rfl ?_)
    intro w62 hk63 hs64 hb65
    have hz66 := hk63.size
    have hB67 := hB43.new hk63 (by omega)
    refine SR.q' (r_as (v := .bool true) rfl) <| SR.nil ?_
    refine W.ret ?_
    refine retCT rfl rfl agg29 (hb65) rfl (v := .bool _) rfl ?_
    exact ⟨A11, n12, c13, A15, n16, c17, eR (eT2 (eA (eC rfl (eC rfl (eC (eI (z_c_spec_NewConsole_70 n n12 hl22 hl23 hq24 n16 hl25 hl26 hq27 h44 hq61)) (eC (eI (z_c_spec_NewConsole_71 n n12 hl22 hl23 hq24 n16 hl25 hl26 hq27 h44 hq61)) (eC (eI (z_c_spec_NewConsole_72 n n12 hl22 hl23 hq24 n16 hl25 hl26 hq27 h44 hq61)) (eC (eS (z_c_spec_NewConsole_73 n n12 hl22 hl23 hq24 n16 hl25 hl26 hq27 h44 hq61)) (eC (eS (z_c_spec_NewConsole_74 n n12 hl22 hl23 hq24 n16 hl25 hl26 hq27 h44 hq61)) (eC (eI (z_c_spec_NewConsole_75 n n12 hl22 hl23 hq24 n16 hl25 hl26 hq27 h44 hq61)) rfl))))))))) (eB (z_c_spec_NewConsole_76 n n12 hl22 hl23 hq24 n16 hl25 hl26 hq27 h44 hq61))), (SlO.eqv (((((hO14).lo hk31).kp hk39 (fun b_ hb e' => hd36 (by have e'' : b_ = g28 := e'; rw [← e'']; exact hb))).kp hk63 (fun b_ hb e' => by have e'' : b_ = g1 := e'; have := (((hO14).lo hk31).kp hk39 (fun b_ hb e' => hd36 (by have e'' : b_ = g28 := e'; rw [← e'']; exact hb))).base_le hb; omega)).down (by omega)) (z_c_spec_NewConsole_68 n n12 hl22 hl23 hq24 n16 hl25 hl26 hq27 h44 hq61)), (SlO.eqv (((((hO18).lo hk31).kp hk39 (fun b_ hb e' => hd37 (by have e'' : b_ = g28 := e'; rw [← e'']; exact hb))).kp hk63 (fun b_ hb e' => by have e'' : b_ = g1 := e'; have := (((hO18).lo hk31).kp hk39 (fun b_ hb e' => hd37 (by have e'' : b_ = g28 := e'; rw [← e'']; exact hb))).base_le hb; omega)).down (by omega)) (z_c_spec_NewConsole_69 n n12 hl22 hl23 hq24 n16 hl25 hl26 hq27 h44 hq61)), hd19, hB67⟩

theorem z_c_laws_FnExactNewConsole_93 (n : Int) (n4 : Nat) (hl14 : n4 = (((newC n).1).Library.Maps).length) (hl15 : (n4 : Int) ≤ 9223372036854775807) (hq16 : (((newC n).1).Library.Maps).length ≤ 8) (n8 : Nat) (hl17 : n8 = (((newC n).1).Library.Away).length) (hl18 : (n8 : Int) ≤ 9223372036854775807) (hq19 : (((newC n).1).Library.Away).length ≤ 8) (n41 : Nat) (hl51 : n41 = (((newC n).1).Library.Maps).length) (hl52 : (n41 : Int) ≤ 9223372036854775807) (hq53 : (((newC n).1).Library.Maps).length ≤ 8) (n45 : Nat) (hl54 : n45 = (((newC n).1).Library.Away).length) (hl55 : (n45 : Int) ≤ 9223372036854775807) (hq56 : (((newC n).1).Library.Away).length ≤ 8) (h91 : ¬ (((newC n).1) = ((newC n).1))) (hq92 : ¬ (((newC n).1) = ((newC n).1))) : false = true := by
  first | (simp_all; done) | omega | (simp at *; omega)
theorem z_c_laws_FnExactNewConsole_110 (n : Int) (n4 : Nat) (hl14 : n4 = (((newC n).1).Library.Maps).length) (hl15 : (n4 : Int) ≤ 9223372036854775807) (hq16 : (((newC n).1).Library.Maps).length ≤ 8) (n8 : Nat) (hl17 : n8 = (((newC n).1).Library.Away).length) (hl18 : (n8 : Int) ≤ 9223372036854775807) (hq19 : (((newC n).1).Library.Away).length ≤ 8) (n41 : Nat) (hl51 : n41 = (((newC n).1).Library.Maps).length) (hl52 : (n41 : Int) ≤ 9223372036854775807) (hq53 : (((newC n).1).Library.Maps).length ≤ 8) (n45 : Nat) (hl54 : n45 = (((newC n).1).Library.Away).length) (hl55 : (n45 : Int) ≤ 9223372036854775807) (hq56 : (((newC n).1).Library.Away).length ≤ 8) (h91 : ¬ (¬ (((newC n).1) = ((newC n).1)))) (hq94 : ((newC n).1) = ((newC n).1)) (h109 : (1 + 3 * ((((newC n).1).Library.Maps.length : Nat) : Int) + 2 * ((((newC n).1).Library.Away.length : Nat) : Int)) < 0) : false = true := by
  first | (simp_all; done) | omega | (simp at *; omega)
theorem z_c_laws_FnExactNewConsole_112 (n : Int) (n4 : Nat) (hl14 : n4 = (((newC n).1).Library.Maps).length) (hl15 : (n4 : Int) ≤ 9223372036854775807) (hq16 : (((newC n).1).Library.Maps).length ≤ 8) (n8 : Nat) (hl17 : n8 = (((newC n).1).Library.Away).length) (hl18 : (n8 : Int) ≤ 9223372036854775807) (hq19 : (((newC n).1).Library.Away).length ≤ 8) (n41 : Nat) (hl51 : n41 = (((newC n).1).Library.Maps).length) (hl52 : (n41 : Int) ≤ 9223372036854775807) (hq53 : (((newC n).1).Library.Maps).length ≤ 8) (n45 : Nat) (hl54 : n45 = (((newC n).1).Library.Away).length) (hl55 : (n45 : Int) ≤ 9223372036854775807) (hq56 : (((newC n).1).Library.Away).length ≤ 8) (h91 : ¬ (¬ (((newC n).1) = ((newC n).1)))) (hq94 : ((newC n).1) = ((newC n).1)) (h109 : ¬ ((1 + 3 * ((((newC n).1).Library.Maps.length : Nat) : Int) + 2 * ((((newC n).1).Library.Away.length : Nat) : Int)) < 0)) (h111 : ¬ ((1 + 3 * ((((newC n).1).Library.Maps.length : Nat) : Int) + 2 * ((((newC n).1).Library.Away.length : Nat) : Int)) = (1 + 3 * (((newC n).1).Library.Maps.length : Int) + 2 * (((newC n).1).Library.Away.length : Int)))) : false = true := by
  first | (simp_all; done) | omega | (simp at *; omega)
theorem c_laws_FnExactNewConsole (w : World) (n : Int) : Calls Try.prog 3 #[.int .i64 n] w fun e w' => e = .returned (.bool true) ∧ Lo w w' := by
  refine calls_W 63 Try.func3 rfl rfl rfl ?_
  refine W.seq ?_
  refine W.regS (SR.q' (r_as (v := .bool false) rfl) <| SR.nil ?_)
  refine W.seq ?_
  refine W.regS (SR.q' (r_mv (v := .int .i64 _) rfl) <| SR.call ent4 (c_spec_NewConsole w n) rfl ?_)
  rintro e w1 ⟨A3, n4, c5, A7, n8, c9, rfl, hO6, hO10, hd11, hk2⟩
  refine ⟨_, rfl, ?_⟩
  have hz12 := hk2.size
  have hB13 := (Lo.refl w).lo hk2
  have hl14 := hO6.len
  have hl15 := hO6.rd.bound
  have hq16 := new_lenM n
  have hl17 := hO10.len
  have hl18 := hO10.rd.bound
  have hq19 := new_lenA n
  refine SR.q' (r_mv (v := .tuple (List.toArray _)) rfl) <| SR.q' (r_ext (v := .agg (List.toArray _)) rfl rfl) <| SR.q' (r_ext (v := .bool _) rfl rfl) <| SR.alloc (l := [.slice none 0 0, .slice none 0 0, .int .i64 0, .int .i64 0, .int .i64 0, str ([] : List UInt8), str ([] : List UInt8), .int .i64 0]) tz29 rfl ?_
  intro g20 w21 hg22 hk23 hs24 hb25
  have hz26 := hk23.size
  have hB27 := hB13.lo hk23
  have hd28 : ¬ A3 = some ⟨g20, 0, none⟩ := fun e' => by have := (hO6).base_le e'; omega
  have hd29 : ¬ A7 = some ⟨g20, 0, none⟩ := fun e' => by have := (hO10).base_le e'; omega
  refine SR.store (o := 0) (vs := [.slice A3 n4 c5, .slice A7 n8 c9, .int .i64 (((newC n).1).Library.Bought), .int .i64 (((newC n).1).Library.Dropped), .int .i64 (((newC n).1).Library.Mended), str (((newC n).1).Log.Durable), str (((newC n).1).Log.Pending), .int .i64 (((newC n).1).Log.Count)]) agg29.2 rfl rfl rfl rfl (hb25) (Nat.le_of_ble_eq_true rfl) rfl ?_
  intro w30 hk31 hs32 hb33
  have hz34 := hk31.size
  have hB35 := hB27.new hk31 (by omega)
  refine SR.q' (r_as (v := .bool _) rfl) <| SR.nil ?_
  refine W.seq ?_
  have hm36 := ((hO6).lo hk23).kp hk31 (fun b_ hb e' => hd28 (by have e'' : b_ = g20 := e'; rw [← e'']; exact hb))
  have hm37 := ((hO10).lo hk23).kp hk31 (fun b_ hb e' => hd29 (by have e'' : b_ = g20 := e'; rw [← e'']; exact hb))
  refine W.regS (SR.q' (r_mv (v := .int .i64 _) rfl) <| SR.call ent5 (c_impl_NewConsole w30 n) rfl ?_)
  rintro e w38 ⟨A40, n41, c42, A44, n45, c46, rfl, hO43, hO47, hd48, hk39⟩
  refine ⟨_, rfl, ?_⟩
  have hz49 := hk39.size
  have hB50 := hB35.lo hk39
  have hl51 := hO43.len
  have hl52 := hO43.rd.bound
  have hq53 := new_lenM n
  have hl54 := hO47.len
  have hl55 := hO47.rd.bound
  have hq56 := new_lenA n
  refine SR.q' (r_mv (v := .tuple (List.toArray _)) rfl) <| SR.q' (r_ext (v := .agg (List.toArray _)) rfl rfl) <| SR.q' (r_ext (v := .bool _) rfl rfl) <| SR.alloc (l := [.slice none 0 0, .slice none 0 0, .int .i64 0, .int .i64 0, .int .i64 0, str ([] : List UInt8), str ([] : List UInt8), .int .i64 0]) tz29 rfl ?_
  intro g57 w58 hg59 hk60 hs61 hb62
  have hz63 := hk60.size
  have hB64 := hB50.lo hk60
  have hd65 : ¬ A3 = some ⟨g57, 0, none⟩ := fun e' => by have := ((hm36).lo hk39).base_le e'; omega
  have hd66 : ¬ A7 = some ⟨g57, 0, none⟩ := fun e' => by have := ((hm37).lo hk39).base_le e'; omega
  have hd67 : ¬ A40 = some ⟨g57, 0, none⟩ := fun e' => by have := (hO43).base_le e'; omega
  have hd68 : ¬ A44 = some ⟨g57, 0, none⟩ := fun e' => by have := (hO47).base_le e'; omega
  refine SR.store (o := 0) (vs := [.slice A40 n41 c42, .slice A44 n45 c46, .int .i64 (((newC n).1).Library.Bought), .int .i64 (((newC n).1).Library.Dropped), .int .i64 (((newC n).1).Library.Mended), str (((newC n).1).Log.Durable), str (((newC n).1).Log.Pending), .int .i64 (((newC n).1).Log.Count)]) agg29.2 rfl rfl rfl rfl (hb62) (Nat.le_of_ble_eq_true rfl) rfl ?_
  intro w69 hk70 hs71 hb72
  have hz73 := hk70.size
  have hB74 := hB64.new hk70 (by omega)
  refine SR.q' (r_as (v := .bool _) rfl) <| SR.nil ?_
  refine W.seq ?_
  refine W.seq ?_
  have hm75 := (((hb33).lo hk39).lo hk60).kp hk70 (fun e' => by have e'' : g20 = g57 := e'; omega)
  have hm76 := (((hm36).lo hk39).lo hk60).kp hk70 (fun b_ hb e' => hd65 (by have e'' : b_ = g57 := e'; rw [← e'']; exact hb))
  have hm77 := (((hm37).lo hk39).lo hk60).kp hk70 (fun b_ hb e' => hd66 (by have e'' : b_ = g57 := e'; rw [← e'']; exact hb))
  have hm78 := ((hO43).lo hk60).kp hk70 (fun b_ hb e' => hd67 (by have e'' : b_ = g57 := e'; rw [← e'']; exact hb))
  have hm79 := ((hO47).lo hk60).kp hk70 (fun b_ hb e' => hd68 (by have e'' : b_ = g57 := e'; rw [← e'']; exact hb))
  refine W.regJS (fun f' w' => At f' [(0, .int .i64 n), (2, .bool false), (3, .pointer (some ((⟨g20, 0, none⟩ : Addr)))), (4, .bool ((newC n).2)), (5, .pointer (some ((⟨g57, 0, none⟩ : Addr)))), (29, .bool (decide (¬ (((newC n).1) = ((newC n).1)))))] ∧ Lo w69 w') ?_ ?_
  · refine SR.q' (r_lda (l := [.slice A40 n41 c42, .slice A44 n45 c46, .int .i64 (((newC n).1).Library.Bought), .int .i64 (((newC n).1).Library.Dropped), .int .i64 (((newC n).1).Library.Mended), str (((newC n).1).Log.Durable), str (((newC n).1).Log.Pending), .int .i64 (((newC n).1).Log.Count)]) agg29 rfl (fun _ _ hu => (hb72).cell hu) rfl) <| SR.q' (r_lda (l := [.slice A3 n4 c5, .slice A7 n8 c9, .int .i64 (((newC n).1).Library.Bought), .int .i64 (((newC n).1).Library.Dropped), .int .i64 (((newC n).1).Library.Mended), str (((newC n).1).Log.Durable), str (((newC n).1).Log.Pending), .int .i64 (((newC n).1).Log.Count)]) agg29 rfl (fun _ _ hu => (hm75).cell hu) rfl) <| SR.call ent6 (c_laws_eqConsole w69 ((newC n).1) (((hm78).rd)) (((hm79).rd)) ((newC n).1) (((hm76).rd)) (((hm77).rd))) rfl ?_
    rintro e w80 ⟨rfl, hk81⟩
    refine ⟨_, rfl, ?_⟩
    have hz82 := hk81.size
    have hB83 := hB74.lo hk81
    refine SR.q' (r_not rfl) <| SR.q' (r_mv (v := .bool _) rfl) <| SR.splitN (fun h84 => ?_) (fun h84 => ?_)
    · refine SR.s' rfl <| SR.s' rfl <| SR.s' rfl <| SR.q' (r_pick true rfl (v := .bool true) rfl) <| SR.nil ?_
      exact ⟨_, rfl, ⟨⟨rfl, rfl, rfl, rfl, rfl, (eDT ((j2f h84).1 trivial)), trivial⟩, (hk81)⟩⟩
    · refine SR.g' rfl (r_mv (v := .bool _) rfl) <| SR.g' rfl (r_mv (v := .bool _) rfl) <| SR.g' rfl (r_neb_s und4 rfl rfl) <| SR.q' (r_pick false rfl (v := .bool _) rfl) <| SR.nil ?_
      exact ⟨_, rfl, ⟨⟨rfl, rfl, rfl, rfl, rfl, (eDF (j2t h84).2), trivial⟩, (hk81)⟩⟩
  rintro f85 w86 ⟨hat87, hk88⟩
  rw [← sets_of_at hat87]
  have hz89 := hk88.size
  have hB90 := hB74.lo hk88
  refine W.cond_d rfl (fun h91 => ?_) (fun h91 => ?_)
  · have hq92 : ¬ (((newC n).1) = ((newC n).1)) := h91
    refine W.seq ?_
    refine W.regS (SR.q' (r_as (v := .bool false) rfl) <| SR.nil ?_)
    refine W.ret ?_
    refine ret1 rfl (v := .bool _) rfl ?_
    exact ⟨eR (eB (z_c_laws_FnExactNewConsole_93 n n4 hl14 hl15 hq16 n8 hl17 hl18 hq19 n41 hl51 hl52 hq53 n45 hl54 hl55 hq56 h91 hq92)), hB90⟩
  · have hq94 : ((newC n).1) = ((newC n).1) := (Classical.not_not.1 h91)
    refine W.skip ?_
    refine W.seq ?_
    refine W.regS (SR.q' (r_as (v := .int .i64 1) rfl) <| SR.nil ?_)
    refine W.seq ?_
    refine W.regS (SR.q' (r_lda (l := [.slice A40 n41 c42, .slice A44 n45 c46, .int .i64 (((newC n).1).Library.Bought), .int .i64 (((newC n).1).Library.Dropped), .int .i64 (((newC n).1).Library.Mended), str (((newC n).1).Log.Durable), str (((newC n).1).Log.Pending), .int .i64 (((newC n).1).Log.Count)]) agg29 rfl (fun _ _ hu => ((hb72).lo hk88).cell hu) rfl) <| SR.q' (r_mv (v := .int .i64 _) rfl) <| SR.call ent7 (c_laws_markConsole w86 ((newC n).1) ((hm78).lo hk88) ((hm79).lo hk88) 1 hd48 (by omega) (by omega) (by omega) (by omega)) rfl ?_)
    rintro e w95 ⟨rfl, hO97, hO98, hk96⟩
    refine ⟨_, rfl, ?_⟩
    have hz99 := hk96.size
    have hB100 := hB90.step hk96 (fun i_ hi_ e' => e'.elim (fun e' => by have := (((hm78).lo hk88)).base_le e'; first | omega | (exfalso; omega) | exact e' | exact .inl e' | exact .inr e') (fun e' => by have := (((hm79).lo hk88)).base_le e'; first | omega | (exfalso; omega) | exact e' | exact .inl e' | exact .inr e'))
    refine SR.q' (r_as (v := .int .i64 _) rfl) <| SR.nil ?_
    refine W.seq ?_
    have hm101 := ((hm75).lo hk88).kp hk96 (fun e' => e'.elim (fun e' => by have := (((hm78).lo hk88)).base_le e'; omega) (fun e' => by have := (((hm79).lo hk88)).base_le e'; omega))
    have hm102 := ((hm76).lo hk88).kp hk96 (fun b_ hb e' => e'.elim (fun e' => by have h1 := (((hm78).lo hk88)).base_le e'; have h2 := ((hm76).lo hk88).base_le hb; have h3 := (hm36).base_le hb; omega) (fun e' => by have h1 := (((hm79).lo hk88)).base_le e'; have h2 := ((hm76).lo hk88).base_le hb; have h3 := (hm36).base_le hb; omega))
    have hm103 := ((hm77).lo hk88).kp hk96 (fun b_ hb e' => e'.elim (fun e' => by have h1 := (((hm78).lo hk88)).base_le e'; have h2 := ((hm77).lo hk88).base_le hb; have h3 := (hm37).base_le hb; omega) (fun e' => by have h1 := (((hm79).lo hk88)).base_le e'; have h2 := ((hm77).lo hk88).base_le hb; have h3 := (hm37).base_le hb; omega))
    have hm104 := ((hb72).lo hk88).kp hk96 (fun e' => e'.elim (fun e' => hd67 e') (fun e' => hd68 e'))
    refine W.regS (SR.q' (r_as (v := .int .i64 1) rfl) <| SR.nil ?_)
    refine W.seq ?_
    refine W.regS (SR.q' (r_lda (l := [.slice A40 n41 c42, .slice A44 n45 c46, .int .i64 (((newC n).1).Library.Bought), .int .i64 (((newC n).1).Library.Dropped), .int .i64 (((newC n).1).Library.Mended), str (((newC n).1).Log.Durable), str (((newC n).1).Log.Pending), .int .i64 (((newC n).1).Log.Count)]) agg29 rfl (fun _ _ hu => (hm104).cell hu) rfl) <| SR.q' (r_mv (v := .int .i64 _) rfl) <| SR.call ent8 (c_laws_heldConsole w95 (⟨(⟨mkL mkLMap 3 ((newC n).1).Library.Maps.length 1, mkL mkAway 2 ((newC n).1).Library.Away.length (1 + 3 * (((newC n).1).Library.Maps.length : Int)), ((newC n).1).Library.Bought, ((newC n).1).Library.Dropped, ((newC n).1).Library.Mended⟩ : Library), ((newC n).1).Log⟩ : Console) (((hO97).rd)) (((hO98).rd)) 1 (((newC n).1).Library.Maps.length) (((newC n).1).Library.Away.length) (by omega) (by omega) (by omega) (by omega) (by rfl) (by rfl) (by omega) (by omega)) rfl ?_)
    rintro e w105 ⟨rfl, hk106⟩
    refine ⟨_, rfl, ?_⟩
    have hz107 := hk106.size
    have hB108 := hB100.lo hk106
    refine SR.q' (r_as (v := .int .i64 _) rfl) <| SR.nil ?_
    refine W.seq ?_
    refine W.seq ?_
    refine W.regS (SR.q' (r_mv (v := .int .i64 _) rfl) <| SR.q' (r_lt rfl rfl) <| SR.nil ?_)
    refine W.cond_d rfl (fun h109 => ?_) (fun h109 => ?_)
    · refine W.seq ?_
      refine W.regS (SR.q' (r_as (v := .bool false) rfl) <| SR.nil ?_)
      refine W.ret ?_
      refine ret1 rfl (v := .bool _) rfl ?_
      exact ⟨eR (eB (z_c_laws_FnExactNewConsole_110 n n4 hl14 hl15 hq16 n8 hl17 hl18 hq19 n41 hl51 hl52 hq53 n45 hl54 hl55 hq56 h91 hq94 h109)), hB108⟩
    · refine W.skip ?_
      refine W.seq ?_
      refine W.seq ?_
      refine W.regS (SR.q' (r_mv (v := .int .i64 _) rfl) <| SR.q' (r_mv (v := .int .i64 _) rfl) <| SR.q' (r_ne rfl rfl) <| SR.nil ?_)
      refine W.cond_n rfl (fun h111 => ?_) (fun h111 => ?_)
      · refine W.seq ?_
        refine W.regS (SR.q' (r_as (v := .bool false) rfl) <| SR.nil ?_)
        refine W.ret ?_
        refine ret1 rfl (v := .bool _) rfl ?_
        exact ⟨eR (eB (z_c_laws_FnExactNewConsole_112 n n4 hl14 hl15 hq16 n8 hl17 hl18 hq19 n41 hl51 hl52 hq53 n45 hl54 hl55 hq56 h91 hq94 h109 h111)), hB108⟩
      · refine W.skip ?_
        refine W.seq ?_
        refine W.regS (SR.q' (r_mv (v := .int .i64 _) rfl) <| SR.call ent5 (c_impl_NewConsole w105 n) rfl ?_)
        rintro e w113 ⟨A115, n116, c117, A119, n120, c121, rfl, hO118, hO122, hd123, hk114⟩
        refine ⟨_, rfl, ?_⟩
        have hz124 := hk114.size
        have hB125 := hB108.lo hk114
        have hl126 := hO118.len
        have hl127 := hO118.rd.bound
        have hq128 := new_lenM n
        have hl129 := hO122.len
        have hl130 := hO122.rd.bound
        have hq131 := new_lenA n
        refine SR.q' (r_mv (v := .tuple (List.toArray _)) rfl) <| SR.q' (r_ext (v := .agg (List.toArray _)) rfl rfl) <| SR.q' (r_ext (v := .bool _) rfl rfl) <| SR.alloc (l := [.slice none 0 0, .slice none 0 0, .int .i64 0, .int .i64 0, .int .i64 0, str ([] : List UInt8), str ([] : List UInt8), .int .i64 0]) tz29 rfl ?_
        intro g132 w133 hg134 hk135 hs136 hb137
        have hz138 := hk135.size
        have hB139 := hB125.lo hk135
        have hd140 : ¬ A3 = some ⟨g132, 0, none⟩ := fun e' => by have := (((hm102).lo hk106).lo hk114).base_le e'; omega
        have hd141 : ¬ A7 = some ⟨g132, 0, none⟩ := fun e' => by have := (((hm103).lo hk106).lo hk114).base_le e'; omega
        have hd142 : ¬ A40 = some ⟨g132, 0, none⟩ := fun e' => by have := (((hO97).lo hk106).lo hk114).base_le e'; omega
        have hd143 : ¬ A44 = some ⟨g132, 0, none⟩ := fun e' => by have := (((hO98).lo hk106).lo hk114).base_le e'; omega
        have hd144 : ¬ A115 = some ⟨g132, 0, none⟩ := fun e' => by have := (hO118).base_le e'; omega
        have hd145 : ¬ A119 = some ⟨g132, 0, none⟩ := fun e' => by have := (hO122).base_le e'; omega
        refine SR.store (o := 0) (vs := [.slice A115 n116 c117, .slice A119 n120 c121, .int .i64 (((newC n).1).Library.Bought), .int .i64 (((newC n).1).Library.Dropped), .int .i64 (((newC n).1).Library.Mended), str (((newC n).1).Log.Durable), str (((newC n).1).Log.Pending), .int .i64 (((newC n).1).Log.Count)]) agg29.2 rfl rfl rfl rfl (hb137) (Nat.le_of_ble_eq_true rfl) rfl ?_
        intro w146 hk147 hs148 hb149
        have hz150 := hk147.size
        have hB151 := hB139.new hk147 (by omega)
        refine SR.q' (r_as (v := .bool _) rfl) <| SR.nil ?_
        refine W.seq ?_
        refine W.seq ?_
        have hm152 := ((((hm101).lo hk106).lo hk114).lo hk135).kp hk147 (fun e' => by have e'' : g20 = g132 := e'; omega)
        have hm153 := ((((hm102).lo hk106).lo hk114).lo hk135).kp hk147 (fun b_ hb e' => hd140 (by have e'' : b_ = g132 := e'; rw [← e'']; exact hb))
        have hm154 := ((((hm103).lo hk106).lo hk114).lo hk135).kp hk147 (fun b_ hb e' => hd141 (by have e'' : b_ = g132 := e'; rw [← e'']; exact hb))
        have hm155 := ((((hm104).lo hk106).lo hk114).lo hk135).kp hk147 (fun e' => by have e'' : g57 = g132 := e'; omega)
        have hm156 := ((((hO97).lo hk106).lo hk114).lo hk135).kp hk147 (fun b_ hb e' => hd142 (by have e'' : b_ = g132 := e'; rw [← e'']; exact hb))
        have hm157 := ((((hO98).lo hk106).lo hk114).lo hk135).kp hk147 (fun b_ hb e' => hd143 (by have e'' : b_ = g132 := e'; rw [← e'']; exact hb))
        have hm158 := ((hO118).lo hk135).kp hk147 (fun b_ hb e' => hd144 (by have e'' : b_ = g132 := e'; rw [← e'']; exact hb))
        have hm159 := ((hO122).lo hk135).kp hk147 (fun b_ hb e' => hd145 (by have e'' : b_ = g132 := e'; rw [← e'']; exact hb))
        refine W.regJS (fun f' w' => At f' [(2, .bool false), (5, .pointer (some ((⟨g57, 0, none⟩ : Addr)))), (7, .int .i64 (1 + 3 * (((newC n).1).Library.Maps.length : Int) + 2 * (((newC n).1).Library.Away.length : Int))), (8, .int .i64 (1 + 3 * ((((newC n).1).Library.Maps.length : Nat) : Int) + 2 * ((((newC n).1).Library.Away.length : Nat) : Int))), (54, .bool (decide (¬ (((newC n).1) = ((newC n).1)))))] ∧ Lo w146 w') ?_ ?_
        · refine SR.q' (r_lda (l := [.slice A115 n116 c117, .slice A119 n120 c121, .int .i64 (((newC n).1).Library.Bought), .int .i64 (((newC n).1).Library.Dropped), .int .i64 (((newC n).1).Library.Mended), str (((newC n).1).Log.Durable), str (((newC n).1).Log.Pending), .int .i64 (((newC n).1).Log.Count)]) agg29 rfl (fun _ _ hu => (hb149).cell hu) rfl) <| SR.q' (r_lda (l := [.slice A3 n4 c5, .slice A7 n8 c9, .int .i64 (((newC n).1).Library.Bought), .int .i64 (((newC n).1).Library.Dropped), .int .i64 (((newC n).1).Library.Mended), str (((newC n).1).Log.Durable), str (((newC n).1).Log.Pending), .int .i64 (((newC n).1).Log.Count)]) agg29 rfl (fun _ _ hu => (hm152).cell hu) rfl) <| SR.call ent6 (c_laws_eqConsole w146 ((newC n).1) (((hm158).rd)) (((hm159).rd)) ((newC n).1) (((hm153).rd)) (((hm154).rd))) rfl ?_
          rintro e w160 ⟨rfl, hk161⟩
          refine ⟨_, rfl, ?_⟩
          have hz162 := hk161.size
          have hB163 := hB151.lo hk161
          refine SR.q' (r_not rfl) <| SR.q' (r_mv (v := .bool _) rfl) <| SR.splitN (fun h164 => ?_) (fun h164 => ?_)
          · refine SR.s' rfl <| SR.s' rfl <| SR.s' rfl <| SR.q' (r_pick true rfl (v := .bool true) rfl) <| SR.nil ?_
            exact ⟨_, rfl, ⟨⟨rfl, rfl, rfl, rfl, (eDT ((j2f h164).1 trivial)), trivial⟩, (hk161)⟩⟩
          · refine SR.g' rfl (r_mv (v := .bool _) rfl) <| SR.g' rfl (r_mv (v := .bool _) rfl) <| SR.g' rfl (r_neb_s und4 rfl rfl) <| SR.q' (r_pick false rfl (v := .bool _) rfl) <| SR.nil ?_
            exact ⟨_, rfl, ⟨⟨rfl, rfl, rfl, rfl, (eDF (j2t h164).2), trivial⟩, (hk161)⟩⟩
        rintro f165 w166 ⟨hat167, hk168⟩
        rw [← sets_of_at hat167]
        have hz169 := hk168.size
        have hB170 := hB151.lo hk168
        refine W.cond_f (congrArg Value.bool (decide_eq_false h91)) ?_
        refine W.skip ?_
        refine W.seq ?_
        refine W.regS (SR.q' (r_as (v := .int .i64 1) rfl) <| SR.nil ?_)
        refine W.seq ?_
        refine W.regS (SR.q' (r_lda (l := [.slice A40 n41 c42, .slice A44 n45 c46, .int .i64 (((newC n).1).Library.Bought), .int .i64 (((newC n).1).Library.Dropped), .int .i64 (((newC n).1).Library.Mended), str (((newC n).1).Log.Durable), str (((newC n).1).Log.Pending), .int .i64 (((newC n).1).Log.Count)]) agg29 rfl (fun _ _ hu => ((hm155).lo hk168).cell hu) rfl) <| SR.q' (r_mv (v := .int .i64 _) rfl) <| SR.call ent8 (c_laws_heldConsole w166 (⟨(⟨mkL mkLMap 3 ((newC n).1).Library.Maps.length 1, mkL mkAway 2 ((newC n).1).Library.Away.length (1 + 3 * (((newC n).1).Library.Maps.length : Int)), ((newC n).1).Library.Bought, ((newC n).1).Library.Dropped, ((newC n).1).Library.Mended⟩ : Library), ((newC n).1).Log⟩ : Console) ((((hm156).lo hk168).rd)) ((((hm157).lo hk168).rd)) 1 (((newC n).1).Library.Maps.length) (((newC n).1).Library.Away.length) (by omega) (by omega) (by omega) (by omega) (by rfl) (by rfl) (by omega) (by omega)) rfl ?_)
        rintro e w171 ⟨rfl, hk172⟩
        refine ⟨_, rfl, ?_⟩
        have hz173 := hk172.size
        have hB174 := hB170.lo hk172
        refine SR.q' (r_as (v := .int .i64 _) rfl) <| SR.nil ?_
        refine W.seq ?_
        refine W.seq ?_
        refine W.regS (SR.q' (r_mv (v := .int .i64 _) rfl) <| SR.q' (r_lt rfl rfl) <| SR.nil ?_)
        refine W.cond_f (congrArg Value.bool (decide_eq_false h109)) ?_
        refine W.skip ?_
        refine W.seq ?_
        refine W.seq ?_
        refine W.regS (SR.q' (r_mv (v := .int .i64 _) rfl) <| SR.q' (r_mv (v := .int .i64 _) rfl) <| SR.q' (r_ne rfl rfl) <| SR.nil ?_)
        refine W.cond_f (congrArg Value.bool (not_decide_t h111)) ?_
        refine W.skip ?_
        refine W.seq ?_
        refine W.regS (SR.q' (r_as (v := .bool true) rfl) <| SR.nil ?_)
        refine W.ret ?_
        refine ret1 rfl (v := .bool _) rfl ?_
        exact ⟨eR rfl, hB174⟩
end Go.Proofs.Ytocpdkhahmbaiaa
