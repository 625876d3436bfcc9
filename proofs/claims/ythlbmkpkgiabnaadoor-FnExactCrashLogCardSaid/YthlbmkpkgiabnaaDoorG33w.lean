/- Walks, printed by a program of this claim's author. -/
import Derived.Test.YthlbmkpkgiabnaaDoorChecked
import Derived.Test.YthlbmkpkgiabnaaDoorWb
import Derived.Test.YthlbmkpkgiabnaaDoorFt
import Derived.Test.YthlbmkpkgiabnaaDoorSi
import Derived.Test.YthlbmkpkgiabnaaDoorG33u
namespace Go.Proofs.YthlbmkpkgiabnaaDoor
open Go Go.RowKit Fw
set_option maxRecDepth 10000
set_option linter.unusedVariables false
theorem ent24 : Ent Tryd.prog 24 := ent_of Tryd.func24 (by decide +kernel) rfl
theorem ent25 : Ent Tryd.prog 25 := ent_of Tryd.func25 (by decide +kernel) rfl

theorem c_laws_FnExactCrashLog (w : World) (l : Log) (keep : Int) (torn : Bool) (hp0 : (l.Durable.length : Int) ≤ 9223372036854775807 ∧ (l.Pending.length : Int) ≤ 9223372036854775807) (hE : EnvW w) : Calls Tryd.prog 6 #[.agg (List.toArray (encLog l)), .int .i64 keep, .bool torn] w fun e w' => e = .returned (.bool true) ∧ Lo w w' := by
  refine calls_W 41 Tryd.func6 rfl rfl rfl ?_
  refine W.seq ?_
  refine W.regS (SR.box (v := .agg (List.toArray _)) (l := [str l.Durable, str l.Pending, .int .i64 l.Count]) rfl rfl ?_)
  intro g1 w2 hg3 hk4 hs5 hb6
  have hz7 := hk4.size
  have hB8 := (Lo.refl w).lo hk4
  refine SR.q' (r_as (v := .bool false) rfl) <| SR.nil ?_
  refine W.seq ?_
  refine W.regS (SR.q' (r_as (v := .int .i64 1048576) rfl) <| SR.nil ?_)
  refine W.seq ?_
  refine W.regS (SR.q' (r_lda (l := [str l.Durable, str l.Pending, .int .i64 l.Count]) agg36 rfl (fun _ _ hu => (hb6).cell hu) rfl) <| SR.q' (r_mv (v := .int .i64 _) rfl) <| SR.call ent20 (c_laws_szLog w2 l 1048576 (by omega) (by omega) (by omega) (by omega)) rfl ?_)
  rintro e w9 ⟨rfl, hk10⟩
  refine ⟨_, rfl, ?_⟩
  have hz11 := hk10.size
  have hB12 := hB8.lo hk10
  refine SR.q' (r_as (v := .int .i64 _) rfl) <| SR.nil ?_
  refine W.seq ?_
  refine W.seq ?_
  refine W.regS (SR.q' (r_mv (v := .int .i64 _) rfl) <| SR.q' (r_lt rfl rfl) <| SR.nil ?_)
  refine W.cond_d rfl (fun h13 => ?_) (fun h13 => ?_)
  · refine W.seq ?_
    refine W.regS (SR.q' (r_as (v := .bool true) rfl) <| SR.nil ?_)
    refine W.ret ?_
    refine ret1 rfl (v := .bool _) rfl ?_
    exact ⟨eR rfl, hB12⟩
  · have hq14 := szN_ok h13
    refine W.skip ?_
    refine W.seq ?_
    refine W.regS (SR.q' (r_lda (l := [str l.Durable, str l.Pending, .int .i64 l.Count]) agg36 rfl (fun _ _ hu => ((hb6).lo hk10).cell hu) rfl) <| SR.call ent22 (c_laws_toLog w9 l) rfl ?_)
    rintro e w15 ⟨rfl, hk16⟩
    refine ⟨_, rfl, ?_⟩
    have hz17 := hk16.size
    have hB18 := hB12.lo hk16
    refine SR.q' (r_mv (v := .int .i64 _) rfl) <| SR.q' (r_mv (v := .bool _) rfl) <| SR.call ent24 (c_spec_CrashLog w15 l keep torn (by omega)) rfl ?_
    rintro e w19 ⟨rfl, hk20⟩
    refine ⟨_, rfl, ?_⟩
    have hz21 := hk20.size
    have hB22 := hB18.lo hk20
    refine SR.q' (r_mv (v := .tuple (List.toArray _)) rfl) <| SR.q' (r_ext (v := str _) rfl rfl) <| SR.q' (r_ext (v := .bool _) rfl rfl) <| SR.q' (r_as (v := str _) rfl) <| SR.q' (r_as (v := .bool _) rfl) <| SR.nil ?_
    refine W.seq ?_
    refine W.regS (SR.q' (r_lda (l := [str l.Durable, str l.Pending, .int .i64 l.Count]) agg36 rfl (fun _ _ hu => ((((hb6).lo hk10).lo hk16).lo hk20).cell hu) rfl) <| SR.call ent22 (c_laws_toLog w19 l) rfl ?_)
    rintro e w23 ⟨rfl, hk24⟩
    refine ⟨_, rfl, ?_⟩
    have hz25 := hk24.size
    have hB26 := hB22.lo hk24
    refine SR.q' (r_mv (v := .int .i64 _) rfl) <| SR.q' (r_mv (v := .bool _) rfl) <| SR.call ent25 (c_impl_CrashLog w23 l keep torn (by omega) (hE.lo (hB26))) rfl ?_
    rintro e w27 ⟨rfl, hk28⟩
    refine ⟨_, rfl, ?_⟩
    have hz29 := hk28.size
    have hB30 := hB26.lo hk28
    refine SR.q' (r_mv (v := .tuple (List.toArray _)) rfl) <| SR.q' (r_ext (v := str _) rfl rfl) <| SR.q' (r_ext (v := .bool _) rfl rfl) <| SR.q' (r_as (v := str _) rfl) <| SR.q' (r_as (v := .bool _) rfl) <| SR.nil ?_
    refine W.seq ?_
    refine W.seq ?_
    refine W.regS (SR.q' (r_mv (v := str _) rfl) <| SR.q' (r_mv (v := str _) rfl) <| SR.q' (r_nes_s (s := (crashN l keep torn).1) rfl rfl) <| SR.q' (r_mv (v := .bool _) rfl) <| SR.g' rfl (r_mv (v := .bool _) rfl) <| SR.g' rfl (r_mv (v := .bool _) rfl) <| SR.g' rfl (r_neb_s und4 rfl rfl) <| SR.q' (r_pick false rfl (v := .bool _) rfl) <| SR.nil ?_)
    refine W.cond_f rfl ?_
    refine W.skip ?_
    refine W.seq ?_
    refine W.regS (SR.q' (r_as (v := .bool true) rfl) <| SR.nil ?_)
    refine W.ret ?_
    refine ret1 rfl (v := .bool _) rfl ?_
    exact ⟨eR rfl, hB30⟩
end Go.Proofs.YthlbmkpkgiabnaaDoor
