/- Walks, printed by a program of this claim's author. -/
import Derived.Test.YtocpdkhahmbaiaaDoorChecked
import Derived.Test.YtocpdkhahmbaiaaDoorUt
import Derived.Test.YtocpdkhahmbaiaaDoorWb
import Derived.Test.YtocpdkhahmbaiaaDoorFt
import Derived.Test.YtocpdkhahmbaiaaDoorSi
import Derived.Test.YtocpdkhahmbaiaaDoorYc
import Derived.Test.YtocpdkhahmbaiaaDoorG29u
namespace Go.Proofs.YtocpdkhahmbaiaaDoor
open Go Go.RowKit Fw
set_option maxRecDepth 10000
set_option linter.unusedVariables false
theorem agg38 : TAgg Tryd.prog 38 8 := ⟨fun _ => by kernel_rfl, fun _ => by kernel_rfl⟩
theorem ent14 : Ent Tryd.prog 14 := ent_of Tryd.func14 (by decide +kernel) rfl
theorem ent18 : Ent Tryd.prog 18 := ent_of Tryd.func18 (by decide +kernel) rfl
theorem ent22 : Ent Tryd.prog 22 := ent_of Tryd.func22 (by decide +kernel) rfl
theorem ent23 : Ent Tryd.prog 23 := ent_of Tryd.func23 (by decide +kernel) rfl
theorem ent27 : Ent Tryd.prog 27 := ent_of Tryd.func27 (by decide +kernel) rfl
theorem ent28 : Ent Tryd.prog 28 := ent_of Tryd.func28 (by decide +kernel) rfl
theorem ent8 : Ent Tryd.prog 8 := ent_of Tryd.func8 (by decide +kernel) rfl
theorem fa38_0 : FA Tryd.prog 38 0 0 := fun _ _ => by kernel_rfl
theorem fa38_1 : FA Tryd.prog 38 1 5 := fun _ _ => by kernel_rfl

theorem z_c_impl_IsValidConsole_24 (c : Console) (nc_Library_Maps : Nat) (hbdc_Library_Maps : (nc_Library_Maps : Int) ≤ 9223372036854775807) (hlec_Library_Maps : nc_Library_Maps = c.Library.Maps.length) (nc_Library_Away : Nat) (hbdc_Library_Away : (nc_Library_Away : Int) ≤ 9223372036854775807) (hlec_Library_Away : nc_Library_Away = c.Library.Away.length) (hp0 : (c.Library.Maps.length : Int) ≤ 1048576 ∧ (c.Library.Away.length : Int) ≤ 1048576 ∧ (c.Log.Durable.length : Int) + (c.Log.Pending.length : Int) ≤ 1048576) : ((LibOK c.Library) ∧ (LogOK c.Log)) ↔ (ConOK c) := by
  first | exact Iff.rfl | rfl
theorem c_impl_IsValidConsole (w : World) (c : Console) {Ac_Library_Maps : Option Addr} {nc_Library_Maps cc_Library_Maps Bc_Library_Maps : Nat} (hc_Library_Maps : SlR w Bc_Library_Maps encLMap 3 Ac_Library_Maps nc_Library_Maps cc_Library_Maps c.Library.Maps) {Ac_Library_Away : Option Addr} {nc_Library_Away cc_Library_Away Bc_Library_Away : Nat} (hc_Library_Away : SlR w Bc_Library_Away encAway 2 Ac_Library_Away nc_Library_Away cc_Library_Away c.Library.Away) (hp0 : (c.Library.Maps.length : Int) ≤ 1048576 ∧ (c.Library.Away.length : Int) ≤ 1048576 ∧ (c.Log.Durable.length : Int) + (c.Log.Pending.length : Int) ≤ 1048576) (hE : EnvW w) : Calls Tryd.prog 8 #[.agg (List.toArray [.slice Ac_Library_Maps nc_Library_Maps cc_Library_Maps, .slice Ac_Library_Away nc_Library_Away cc_Library_Away, .int .i64 c.Library.Bought, .int .i64 c.Library.Dropped, .int .i64 c.Library.Mended, str c.Log.Durable, str c.Log.Pending, .int .i64 c.Log.Count])] w fun e w' => e = .returned (.bool (decide (ConOK c))) ∧ Lo w w' := by
  refine calls_W 11 Tryd.func8 rfl rfl rfl ?_
  have hbdc_Library_Maps := hc_Library_Maps.bound
  have hlec_Library_Maps := hc_Library_Maps.len
  have hBbc_Library_Maps := hc_Library_Maps.bd
  have hbdc_Library_Away := hc_Library_Away.bound
  have hlec_Library_Away := hc_Library_Away.len
  have hBbc_Library_Away := hc_Library_Away.bd
  refine W.seq ?_
  refine W.regS (SR.box (v := .agg (List.toArray _)) (l := [.slice Ac_Library_Maps nc_Library_Maps cc_Library_Maps, .slice Ac_Library_Away nc_Library_Away cc_Library_Away, .int .i64 c.Library.Bought, .int .i64 c.Library.Dropped, .int .i64 c.Library.Mended, str c.Log.Durable, str c.Log.Pending, .int .i64 c.Log.Count]) rfl rfl ?_)
  intro g1 w2 hg3 hk4 hs5 hb6
  have hz7 := hk4.size
  have hB8 := (Lo.refl w).lo hk4
  refine SR.q' (r_as (v := .bool false) rfl) <| SR.nil ?_
  refine W.seq ?_
  refine W.regJS (fun f' w' => At f' [(2, .bool (decide ((LibOK c.Library) ∧ (LogOK c.Log))))] ∧ Lo w2 w') ?_ ?_
  · refine SR.q' (r_fa fa38_0 rfl) <| SR.q' (r_lda (l := [.slice Ac_Library_Maps nc_Library_Maps cc_Library_Maps, .slice Ac_Library_Away nc_Library_Away cc_Library_Away, .int .i64 c.Library.Bought, .int .i64 c.Library.Dropped, .int .i64 c.Library.Mended]) agg35 rfl (fun _ _ hu => (hb6).cells (vs := [.slice Ac_Library_Maps nc_Library_Maps cc_Library_Maps, .slice Ac_Library_Away nc_Library_Away cc_Library_Away, .int .i64 c.Library.Bought, .int .i64 c.Library.Dropped, .int .i64 c.Library.Mended]) rfl hu) rfl) <| SR.call ent17 (c_impl_IsLibrary w2 c.Library (((hc_Library_Maps).lo hk4)) (((hc_Library_Away).lo hk4)) (by omega)) rfl ?_
    rintro e w9 ⟨rfl, hk10⟩
    refine ⟨_, rfl, ?_⟩
    have hz11 := hk10.size
    have hB12 := hB8.lo hk10
    refine SR.q' (r_mv (v := .bool _) rfl) <| SR.splitD (fun h13 => ?_) (fun h13 => ?_)
    · refine SR.g' rfl (r_fa fa38_1 rfl) <| SR.g' rfl (r_lda (l := [str c.Log.Durable, str c.Log.Pending, .int .i64 c.Log.Count]) agg36 rfl (fun _ _ hu => ((hb6).lo hk10).cells (vs := [str c.Log.Durable, str c.Log.Pending, .int .i64 c.Log.Count]) rfl hu) rfl) <| SR.gcall rfl ent18 (c_impl_IsValidLog w9 c.Log (by omega) (hE.lo (hB12))) rfl ?_
      rintro e w14 ⟨rfl, hk15⟩
      refine ⟨_, rfl, ?_⟩
      have hz16 := hk15.size
      have hB17 := hB12.lo hk15
      refine SR.q' (r_pick true rfl (v := .bool _) rfl) <| SR.q' (r_as (v := .bool _) rfl) <| SR.nil ?_
      exact ⟨_, rfl, ⟨⟨(eDD (jat h13)), trivial⟩, ((hk10).trans hk15)⟩⟩
    · refine SR.s' rfl <| SR.s' rfl <| SR.s' rfl <| SR.q' (r_pick false rfl (v := .bool false) rfl) <| SR.q' (r_as (v := .bool _) rfl) <| SR.nil ?_
      exact ⟨_, rfl, ⟨⟨(eDF (jaf h13).2), trivial⟩, (hk10)⟩⟩
  rintro f18 w19 ⟨hat20, hk21⟩
  rw [← sets_of_at hat20]
  have hz22 := hk21.size
  have hB23 := hB8.lo hk21
  refine W.ret ?_
  refine ret1 rfl (v := .bool _) rfl ?_
  exact ⟨eR (eDD (z_c_impl_IsValidConsole_24 c nc_Library_Maps hbdc_Library_Maps hlec_Library_Maps nc_Library_Away hbdc_Library_Away hlec_Library_Away hp0)), hB23⟩

theorem z_c_spec_l34Good_24 (c : Console) (nc_Library_Maps : Nat) (hbdc_Library_Maps : (nc_Library_Maps : Int) ≤ 9223372036854775807) (hlec_Library_Maps : nc_Library_Maps = c.Library.Maps.length) (nc_Library_Away : Nat) (hbdc_Library_Away : (nc_Library_Away : Int) ≤ 9223372036854775807) (hlec_Library_Away : nc_Library_Away = c.Library.Away.length) (hp0 : (c.Library.Maps.length : Int) ≤ 1048576 ∧ (c.Library.Away.length : Int) ≤ 1048576 ∧ (c.Log.Durable.length : Int) + (c.Log.Pending.length : Int) ≤ 1048576) : ((LibOK c.Library) ∧ (LogOK c.Log)) ↔ (ConOK c) := by
  first | exact Iff.rfl | rfl
theorem c_spec_l34Good (w : World) (c : Console) {Ac_Library_Maps : Option Addr} {nc_Library_Maps cc_Library_Maps Bc_Library_Maps : Nat} (hc_Library_Maps : SlR w Bc_Library_Maps encLMap 3 Ac_Library_Maps nc_Library_Maps cc_Library_Maps c.Library.Maps) {Ac_Library_Away : Option Addr} {nc_Library_Away cc_Library_Away Bc_Library_Away : Nat} (hc_Library_Away : SlR w Bc_Library_Away encAway 2 Ac_Library_Away nc_Library_Away cc_Library_Away c.Library.Away) (hp0 : (c.Library.Maps.length : Int) ≤ 1048576 ∧ (c.Library.Away.length : Int) ≤ 1048576 ∧ (c.Log.Durable.length : Int) + (c.Log.Pending.length : Int) ≤ 1048576) : Calls Tryd.prog 14 #[.agg (List.toArray [.slice Ac_Library_Maps nc_Library_Maps cc_Library_Maps, .slice Ac_Library_Away nc_Library_Away cc_Library_Away, .int .i64 c.Library.Bought, .int .i64 c.Library.Dropped, .int .i64 c.Library.Mended, str c.Log.Durable, str c.Log.Pending, .int .i64 c.Log.Count])] w fun e w' => e = .returned (.bool (decide (ConOK c))) ∧ Lo w w' := by
  refine calls_W 11 Tryd.func14 rfl rfl rfl ?_
  have hbdc_Library_Maps := hc_Library_Maps.bound
  have hlec_Library_Maps := hc_Library_Maps.len
  have hBbc_Library_Maps := hc_Library_Maps.bd
  have hbdc_Library_Away := hc_Library_Away.bound
  have hlec_Library_Away := hc_Library_Away.len
  have hBbc_Library_Away := hc_Library_Away.bd
  refine W.seq ?_
  refine W.regS (SR.box (v := .agg (List.toArray _)) (l := [.slice Ac_Library_Maps nc_Library_Maps cc_Library_Maps, .slice Ac_Library_Away nc_Library_Away cc_Library_Away, .int .i64 c.Library.Bought, .int .i64 c.Library.Dropped, .int .i64 c.Library.Mended, str c.Log.Durable, str c.Log.Pending, .int .i64 c.Log.Count]) rfl rfl ?_)
  intro g1 w2 hg3 hk4 hs5 hb6
  have hz7 := hk4.size
  have hB8 := (Lo.refl w).lo hk4
  refine SR.q' (r_as (v := .bool false) rfl) <| SR.nil ?_
  refine W.seq ?_
  refine W.regJS (fun f' w' => At f' [(2, .bool (decide ((LibOK c.Library) ∧ (LogOK c.Log))))] ∧ Lo w2 w') ?_ ?_
  · refine SR.q' (r_fa fa38_0 rfl) <| SR.q' (r_lda (l := [.slice Ac_Library_Maps nc_Library_Maps cc_Library_Maps, .slice Ac_Library_Away nc_Library_Away cc_Library_Away, .int .i64 c.Library.Bought, .int .i64 c.Library.Dropped, .int .i64 c.Library.Mended]) agg35 rfl (fun _ _ hu => (hb6).cells (vs := [.slice Ac_Library_Maps nc_Library_Maps cc_Library_Maps, .slice Ac_Library_Away nc_Library_Away cc_Library_Away, .int .i64 c.Library.Bought, .int .i64 c.Library.Dropped, .int .i64 c.Library.Mended]) rfl hu) rfl) <| SR.call ent27 (c_spec_l32Good w2 c.Library (((hc_Library_Maps).lo hk4)) (((hc_Library_Away).lo hk4))) rfl ?_
    rintro e w9 ⟨rfl, hk10⟩
    refine ⟨_, rfl, ?_⟩
    have hz11 := hk10.size
    have hB12 := hB8.lo hk10
    refine SR.q' (r_mv (v := .bool _) rfl) <| SR.splitD (fun h13 => ?_) (fun h13 => ?_)
    · refine SR.g' rfl (r_fa fa38_1 rfl) <| SR.g' rfl (r_lda (l := [str c.Log.Durable, str c.Log.Pending, .int .i64 c.Log.Count]) agg36 rfl (fun _ _ hu => ((hb6).lo hk10).cells (vs := [str c.Log.Durable, str c.Log.Pending, .int .i64 c.Log.Count]) rfl hu) rfl) <| SR.gcall rfl ent28 (c_spec_l33Log w9 c.Log (by omega)) rfl ?_
      rintro e w14 ⟨rfl, hk15⟩
      refine ⟨_, rfl, ?_⟩
      have hz16 := hk15.size
      have hB17 := hB12.lo hk15
      refine SR.q' (r_pick true rfl (v := .bool _) rfl) <| SR.q' (r_as (v := .bool _) rfl) <| SR.nil ?_
      exact ⟨_, rfl, ⟨⟨(eDD (jat h13)), trivial⟩, ((hk10).trans hk15)⟩⟩
    · refine SR.s' rfl <| SR.s' rfl <| SR.s' rfl <| SR.q' (r_pick false rfl (v := .bool false) rfl) <| SR.q' (r_as (v := .bool _) rfl) <| SR.nil ?_
      exact ⟨_, rfl, ⟨⟨(eDF (jaf h13).2), trivial⟩, (hk10)⟩⟩
  rintro f18 w19 ⟨hat20, hk21⟩
  rw [← sets_of_at hat20]
  have hz22 := hk21.size
  have hB23 := hB8.lo hk21
  refine W.ret ?_
  refine ret1 rfl (v := .bool _) rfl ?_
  exact ⟨eR (eDD (z_c_spec_l34Good_24 c nc_Library_Maps hbdc_Library_Maps hlec_Library_Maps nc_Library_Away hbdc_Library_Away hlec_Library_Away hp0)), hB23⟩

theorem c_spec_IsValidConsole (w : World) (c : Console) {Ac_Library_Maps : Option Addr} {nc_Library_Maps cc_Library_Maps Bc_Library_Maps : Nat} (hc_Library_Maps : SlR w Bc_Library_Maps encLMap 3 Ac_Library_Maps nc_Library_Maps cc_Library_Maps c.Library.Maps) {Ac_Library_Away : Option Addr} {nc_Library_Away cc_Library_Away Bc_Library_Away : Nat} (hc_Library_Away : SlR w Bc_Library_Away encAway 2 Ac_Library_Away nc_Library_Away cc_Library_Away c.Library.Away) (hp0 : (c.Library.Maps.length : Int) ≤ 1048576 ∧ (c.Library.Away.length : Int) ≤ 1048576 ∧ (c.Log.Durable.length : Int) + (c.Log.Pending.length : Int) ≤ 1048576) : Calls Tryd.prog 6 #[.agg (List.toArray [.slice Ac_Library_Maps nc_Library_Maps cc_Library_Maps, .slice Ac_Library_Away nc_Library_Away cc_Library_Away, .int .i64 c.Library.Bought, .int .i64 c.Library.Dropped, .int .i64 c.Library.Mended, str c.Log.Durable, str c.Log.Pending, .int .i64 c.Log.Count])] w fun e w' => e = .returned (.bool (decide (ConOK c))) ∧ Lo w w' := by
  refine calls_W 5 Tryd.func6 rfl rfl rfl ?_
  have hbdc_Library_Maps := hc_Library_Maps.bound
  have hlec_Library_Maps := hc_Library_Maps.len
  have hBbc_Library_Maps := hc_Library_Maps.bd
  have hbdc_Library_Away := hc_Library_Away.bound
  have hlec_Library_Away := hc_Library_Away.len
  have hBbc_Library_Away := hc_Library_Away.bd
  refine W.seq ?_
  refine W.regS (SR.box (v := .agg (List.toArray _)) (l := [.slice Ac_Library_Maps nc_Library_Maps cc_Library_Maps, .slice Ac_Library_Away nc_Library_Away cc_Library_Away, .int .i64 c.Library.Bought, .int .i64 c.Library.Dropped, .int .i64 c.Library.Mended, str c.Log.Durable, str c.Log.Pending, .int .i64 c.Log.Count]) rfl rfl ?_)
  intro g1 w2 hg3 hk4 hs5 hb6
  have hz7 := hk4.size
  have hB8 := (Lo.refl w).lo hk4
  refine SR.q' (r_as (v := .bool false) rfl) <| SR.nil ?_
  refine W.seq ?_
  refine W.regS (SR.q' (r_lda (l := [.slice Ac_Library_Maps nc_Library_Maps cc_Library_Maps, .slice Ac_Library_Away nc_Library_Away cc_Library_Away, .int .i64 c.Library.Bought, .int .i64 c.Library.Dropped, .int .i64 c.Library.Mended, str c.Log.Durable, str c.Log.Pending, .int .i64 c.Log.Count]) agg38 rfl (fun _ _ hu => (hb6).cell hu) rfl) <| SR.call ent14 (c_spec_l34Good w2 c (((hc_Library_Maps).lo hk4)) (((hc_Library_Away).lo hk4)) (by omega)) rfl ?_)
  rintro e w9 ⟨rfl, hk10⟩
  refine ⟨_, rfl, ?_⟩
  have hz11 := hk10.size
  have hB12 := hB8.lo hk10
  refine SR.q' (r_as (v := .bool _) rfl) <| SR.nil ?_
  refine W.ret ?_
  refine ret1 rfl (v := .bool _) rfl ?_
  exact ⟨eR rfl, hB12⟩

theorem z_c_impl_FormatConsole_14 (c : Console) (nc_Library_Maps : Nat) (hbdc_Library_Maps : (nc_Library_Maps : Int) ≤ 9223372036854775807) (hlec_Library_Maps : nc_Library_Maps = c.Library.Maps.length) (nc_Library_Away : Nat) (hbdc_Library_Away : (nc_Library_Away : Int) ≤ 9223372036854775807) (hlec_Library_Away : nc_Library_Away = c.Library.Away.length) (hp0 : (c.Library.Maps.length : Int) ≤ 1048576 ∧ (c.Library.Away.length : Int) ≤ 1048576 ∧ (c.Log.Durable.length : Int) + (c.Log.Pending.length : Int) ≤ 1048576) (h13 : ¬ (ConOK c)) : ([] : List UInt8) = (formC c).1 := by
  first | (rw [form_no ‹¬ ConOK _›]; done) | (rw [form_yes ‹ConOK _› (show k = c.Library.Maps.length by omega)]; first | done | (rw [← con_end]; done) | (exact con_end c k))
theorem z_c_impl_FormatConsole_15 (c : Console) (nc_Library_Maps : Nat) (hbdc_Library_Maps : (nc_Library_Maps : Int) ≤ 9223372036854775807) (hlec_Library_Maps : nc_Library_Maps = c.Library.Maps.length) (nc_Library_Away : Nat) (hbdc_Library_Away : (nc_Library_Away : Int) ≤ 9223372036854775807) (hlec_Library_Away : nc_Library_Away = c.Library.Away.length) (hp0 : (c.Library.Maps.length : Int) ≤ 1048576 ∧ (c.Library.Away.length : Int) ≤ 1048576 ∧ (c.Log.Durable.length : Int) + (c.Log.Pending.length : Int) ≤ 1048576) (h13 : ¬ (ConOK c)) : false = (formC c).2 := by
  first | (rw [form_no ‹¬ ConOK _›]; done) | (rw [form_yes ‹ConOK _› (show k = c.Library.Maps.length by omega)]; first | done | (rw [← con_end]; done) | (exact con_end c k))
theorem z_c_impl_FormatConsole_32 (c : Console) (nc_Library_Maps : Nat) (hbdc_Library_Maps : (nc_Library_Maps : Int) ≤ 9223372036854775807) (hlec_Library_Maps : nc_Library_Maps = c.Library.Maps.length) (nc_Library_Away : Nat) (hbdc_Library_Away : (nc_Library_Away : Int) ≤ 9223372036854775807) (hlec_Library_Away : nc_Library_Away = c.Library.Away.length) (hp0 : (c.Library.Maps.length : Int) ≤ 1048576 ∧ (c.Library.Away.length : Int) ≤ 1048576 ∧ (c.Log.Durable.length : Int) + (c.Log.Pending.length : Int) ≤ 1048576) (h13 : ConOK c) (hq16 : c.Library.Maps.length ≤ 8 ∧ c.Library.Away.length ≤ 8 ∧ ((0 ≤ c.Library.Bought ∧ c.Library.Bought ≤ 9999) ∧ (0 ≤ c.Library.Dropped ∧ c.Library.Dropped ≤ 9999) ∧ (0 ≤ c.Library.Mended ∧ c.Library.Mended ≤ 9999)) ∧ 0 ≤ c.Log.Count ∧ c.Log.Count ≤ 60) (hq17 : LibOK c.Library) : 0 ≤ nc_Library_Maps := by
  omega
theorem z_c_impl_FormatConsole_73 (c : Console) (nc_Library_Maps : Nat) (hbdc_Library_Maps : (nc_Library_Maps : Int) ≤ 9223372036854775807) (hlec_Library_Maps : nc_Library_Maps = c.Library.Maps.length) (nc_Library_Away : Nat) (hbdc_Library_Away : (nc_Library_Away : Int) ≤ 9223372036854775807) (hlec_Library_Away : nc_Library_Away = c.Library.Away.length) (hp0 : (c.Library.Maps.length : Int) ≤ 1048576 ∧ (c.Library.Away.length : Int) ≤ 1048576 ∧ (c.Log.Durable.length : Int) + (c.Log.Pending.length : Int) ≤ 1048576) (h13 : ConOK c) (hq16 : c.Library.Maps.length ≤ 8 ∧ c.Library.Away.length ≤ 8 ∧ ((0 ≤ c.Library.Bought ∧ c.Library.Bought ≤ 9999) ∧ (0 ≤ c.Library.Dropped ∧ c.Library.Dropped ≤ 9999) ∧ (0 ≤ c.Library.Mended ∧ c.Library.Mended ≤ 9999)) ∧ 0 ≤ c.Log.Count ∧ c.Log.Count ≤ 60) (hq17 : LibOK c.Library) (k : Nat) (hi41 : k ≤ nc_Library_Maps) (hq44 : (conT c k).length ≤ 99 * k) (h45 : (k : Int) < (nc_Library_Maps : Int)) (hx47 : c.Library.Maps[k]? = some (gt c.Library.Maps k)) (hq48 : ((1 : Int) ≤ (gt c.Library.Maps k).Id ∧ (gt c.Library.Maps k).Id ≤ 99) ∧ ((0 : Int) ≤ (gt c.Library.Maps k).Copies ∧ (gt c.Library.Maps k).Copies ≤ 99) ∧ ((0 : Int) ≤ (gt c.Library.Maps k).Torn ∧ (gt c.Library.Maps k).Torn ≤ (gt c.Library.Maps k).Copies)) (hq67 : (mapT c.Library ((gt c.Library.Maps k).Id)).1.length ≤ 75) (hq72 : (Lib.itoa ((gt c.Library.Maps k).Id)).length ≤ 21) : k + 1 ≤ nc_Library_Maps := by
  omega
theorem z_c_impl_FormatConsole_74 (c : Console) (nc_Library_Maps : Nat) (hbdc_Library_Maps : (nc_Library_Maps : Int) ≤ 9223372036854775807) (hlec_Library_Maps : nc_Library_Maps = c.Library.Maps.length) (nc_Library_Away : Nat) (hbdc_Library_Away : (nc_Library_Away : Int) ≤ 9223372036854775807) (hlec_Library_Away : nc_Library_Away = c.Library.Away.length) (hp0 : (c.Library.Maps.length : Int) ≤ 1048576 ∧ (c.Library.Away.length : Int) ≤ 1048576 ∧ (c.Log.Durable.length : Int) + (c.Log.Pending.length : Int) ≤ 1048576) (h13 : ConOK c) (hq16 : c.Library.Maps.length ≤ 8 ∧ c.Library.Away.length ≤ 8 ∧ ((0 ≤ c.Library.Bought ∧ c.Library.Bought ≤ 9999) ∧ (0 ≤ c.Library.Dropped ∧ c.Library.Dropped ≤ 9999) ∧ (0 ≤ c.Library.Mended ∧ c.Library.Mended ≤ 9999)) ∧ 0 ≤ c.Log.Count ∧ c.Log.Count ≤ 60) (hq17 : LibOK c.Library) (k : Nat) (hi41 : k ≤ nc_Library_Maps) (hq44 : (conT c k).length ≤ 99 * k) (h45 : (k : Int) < (nc_Library_Maps : Int)) (hx47 : c.Library.Maps[k]? = some (gt c.Library.Maps k)) (hq48 : ((1 : Int) ≤ (gt c.Library.Maps k).Id ∧ (gt c.Library.Maps k).Id ≤ 99) ∧ ((0 : Int) ≤ (gt c.Library.Maps k).Copies ∧ (gt c.Library.Maps k).Copies ≤ 99) ∧ ((0 : Int) ≤ (gt c.Library.Maps k).Torn ∧ (gt c.Library.Maps k).Torn ≤ (gt c.Library.Maps k).Copies)) (hq67 : (mapT c.Library ((gt c.Library.Maps k).Id)).1.length ≤ 75) (hq72 : (Lib.itoa ((gt c.Library.Maps k).Id)).length ≤ 21) : nc_Library_Maps - (k + 1) < nc_Library_Maps - k := by
  omega
theorem z_c_impl_FormatConsole_83 (c : Console) (nc_Library_Maps : Nat) (hbdc_Library_Maps : (nc_Library_Maps : Int) ≤ 9223372036854775807) (hlec_Library_Maps : nc_Library_Maps = c.Library.Maps.length) (nc_Library_Away : Nat) (hbdc_Library_Away : (nc_Library_Away : Int) ≤ 9223372036854775807) (hlec_Library_Away : nc_Library_Away = c.Library.Away.length) (hp0 : (c.Library.Maps.length : Int) ≤ 1048576 ∧ (c.Library.Away.length : Int) ≤ 1048576 ∧ (c.Log.Durable.length : Int) + (c.Log.Pending.length : Int) ≤ 1048576) (h13 : ConOK c) (hq16 : c.Library.Maps.length ≤ 8 ∧ c.Library.Away.length ≤ 8 ∧ ((0 ≤ c.Library.Bought ∧ c.Library.Bought ≤ 9999) ∧ (0 ≤ c.Library.Dropped ∧ c.Library.Dropped ≤ 9999) ∧ (0 ≤ c.Library.Mended ∧ c.Library.Mended ≤ 9999)) ∧ 0 ≤ c.Log.Count ∧ c.Log.Count ≤ 60) (hq17 : LibOK c.Library) (k : Nat) (hi41 : k ≤ nc_Library_Maps) (hq44 : (conT c k).length ≤ 99 * k) (h45 : ¬ ((k : Int) < (nc_Library_Maps : Int))) (hq75 : (Lib.itoa c.Library.Bought).length ≤ 21) (hq76 : (Lib.itoa c.Library.Dropped).length ≤ 21) (hq77 : (Lib.itoa c.Library.Mended).length ≤ 21) (hq78 : (Lib.itoa c.Log.Count).length ≤ 21) : (((((((((conT c k) ++ ([98, 111, 117, 103, 104, 116, 32] : List UInt8)) ++ (Lib.itoa c.Library.Bought)) ++ ([59, 32, 100, 114, 111, 112, 112, 101, 100, 32] : List UInt8)) ++ (Lib.itoa c.Library.Dropped)) ++ ([59, 32, 109, 101, 110, 100, 101, 100, 32] : List UInt8)) ++ (Lib.itoa c.Library.Mended)) ++ ([59, 32, 114, 101, 99, 111, 114, 100, 115, 32] : List UInt8)) ++ (Lib.itoa c.Log.Count)) ++ ([10] : List UInt8) = (formC c).1 := by
  first | (rw [form_no ‹¬ ConOK _›]; done) | (rw [form_yes ‹ConOK _› (show k = c.Library.Maps.length by omega)]; first | done | (rw [← con_end]; done) | (exact con_end c k))
theorem z_c_impl_FormatConsole_84 (c : Console) (nc_Library_Maps : Nat) (hbdc_Library_Maps : (nc_Library_Maps : Int) ≤ 9223372036854775807) (hlec_Library_Maps : nc_Library_Maps = c.Library.Maps.length) (nc_Library_Away : Nat) (hbdc_Library_Away : (nc_Library_Away : Int) ≤ 9223372036854775807) (hlec_Library_Away : nc_Library_Away = c.Library.Away.length) (hp0 : (c.Library.Maps.length : Int) ≤ 1048576 ∧ (c.Library.Away.length : Int) ≤ 1048576 ∧ (c.Log.Durable.length : Int) + (c.Log.Pending.length : Int) ≤ 1048576) (h13 : ConOK c) (hq16 : c.Library.Maps.length ≤ 8 ∧ c.Library.Away.length ≤ 8 ∧ ((0 ≤ c.Library.Bought ∧ c.Library.Bought ≤ 9999) ∧ (0 ≤ c.Library.Dropped ∧ c.Library.Dropped ≤ 9999) ∧ (0 ≤ c.Library.Mended ∧ c.Library.Mended ≤ 9999)) ∧ 0 ≤ c.Log.Count ∧ c.Log.Count ≤ 60) (hq17 : LibOK c.Library) (k : Nat) (hi41 : k ≤ nc_Library_Maps) (hq44 : (conT c k).length ≤ 99 * k) (h45 : ¬ ((k : Int) < (nc_Library_Maps : Int))) (hq75 : (Lib.itoa c.Library.Bought).length ≤ 21) (hq76 : (Lib.itoa c.Library.Dropped).length ≤ 21) (hq77 : (Lib.itoa c.Library.Mended).length ≤ 21) (hq78 : (Lib.itoa c.Log.Count).length ≤ 21) : true = (formC c).2 := by
  first | (rw [form_no ‹¬ ConOK _›]; done) | (rw [form_yes ‹ConOK _› (show k = c.Library.Maps.length by omega)]; first | done | (rw [← con_end]; done) | (exact con_end c k))
theorem c_impl_FormatConsole (w : World) (c : Console) {Ac_Library_Maps : Option Addr} {nc_Library_Maps cc_Library_Maps Bc_Library_Maps : Nat} (hc_Library_Maps : SlR w Bc_Library_Maps encLMap 3 Ac_Library_Maps nc_Library_Maps cc_Library_Maps c.Library.Maps) {Ac_Library_Away : Option Addr} {nc_Library_Away cc_Library_Away Bc_Library_Away : Nat} (hc_Library_Away : SlR w Bc_Library_Away encAway 2 Ac_Library_Away nc_Library_Away cc_Library_Away c.Library.Away) (hp0 : (c.Library.Maps.length : Int) ≤ 1048576 ∧ (c.Library.Away.length : Int) ≤ 1048576 ∧ (c.Log.Durable.length : Int) + (c.Log.Pending.length : Int) ≤ 1048576) (hE : EnvW w) : Calls Tryd.prog 11 #[.agg (List.toArray [.slice Ac_Library_Maps nc_Library_Maps cc_Library_Maps, .slice Ac_Library_Away nc_Library_Away cc_Library_Away, .int .i64 c.Library.Bought, .int .i64 c.Library.Dropped, .int .i64 c.Library.Mended, str c.Log.Durable, str c.Log.Pending, .int .i64 c.Log.Count])] w fun e w' => e = .returned (.tuple (List.toArray [str ((formC c).1), .bool ((formC c).2)])) ∧ Lo w w' := by
  refine calls_W 62 Tryd.func11 rfl rfl rfl ?_
  have hbdc_Library_Maps := hc_Library_Maps.bound
  have hlec_Library_Maps := hc_Library_Maps.len
  have hBbc_Library_Maps := hc_Library_Maps.bd
  have hbdc_Library_Away := hc_Library_Away.bound
  have hlec_Library_Away := hc_Library_Away.len
  have hBbc_Library_Away := hc_Library_Away.bd
  refine W.seq ?_
  refine W.regS (SR.box (v := .agg (List.toArray _)) (l := [.slice Ac_Library_Maps nc_Library_Maps cc_Library_Maps, .slice Ac_Library_Away nc_Library_Away cc_Library_Away, .int .i64 c.Library.Bought, .int .i64 c.Library.Dropped, .int .i64 c.Library.Mended, str c.Log.Durable, str c.Log.Pending, .int .i64 c.Log.Count]) rfl rfl ?_)
  intro g1 w2 hg3 hk4 hs5 hb6
  have hz7 := hk4.size
  have hB8 := (Lo.refl w).lo hk4
  refine SR.q' (r_as (v := str ([] : List UInt8)) rfl) <| SR.q' (r_as (v := .bool false) rfl) <| SR.nil ?_
  refine W.seq ?_
  refine W.seq ?_
  refine W.regS (SR.q' (r_lda (l := [.slice Ac_Library_Maps nc_Library_Maps cc_Library_Maps, .slice Ac_Library_Away nc_Library_Away cc_Library_Away, .int .i64 c.Library.Bought, .int .i64 c.Library.Dropped, .int .i64 c.Library.Mended, str c.Log.Durable, str c.Log.Pending, .int .i64 c.Log.Count]) agg38 rfl (fun _ _ hu => (hb6).cell hu) rfl) <| SR.call ent8 (c_impl_IsValidConsole w2 c (((hc_Library_Maps).lo hk4)) (((hc_Library_Away).lo hk4)) (by omega) (hE.lo (hB8))) rfl ?_)
  rintro e w9 ⟨rfl, hk10⟩
  refine ⟨_, rfl, ?_⟩
  have hz11 := hk10.size
  have hB12 := hB8.lo hk10
  refine SR.q' (r_not rfl) <| SR.nil ?_
  refine W.cond_n rfl (fun h13 => ?_) (fun h13 => ?_)
  · refine W.seq ?_
    refine W.regS (SR.q' (r_as (v := str ([] : List UInt8)) rfl) <| SR.q' (r_as (v := .bool false) rfl) <| SR.nil ?_)
    refine W.ret ?_
    refine ret2 rfl (v := str _) (v' := .bool _) rfl rfl ?_
    exact ⟨eR (eT2 (eS (z_c_impl_FormatConsole_14 c nc_Library_Maps hbdc_Library_Maps hlec_Library_Maps nc_Library_Away hbdc_Library_Away hlec_Library_Away hp0 h13)) (eB (z_c_impl_FormatConsole_15 c nc_Library_Maps hbdc_Library_Maps hlec_Library_Maps nc_Library_Away hbdc_Library_Away hlec_Library_Away hp0 h13))), hB12⟩
  · have hq16 := con_rng h13
    have hq17 := And.left h13
    refine W.skip ?_
    refine W.seq ?_
    refine W.regS (SR.q' (r_as (v := str ([] : List UInt8)) rfl) <| SR.nil ?_)
    refine W.seq ?_
    refine W.regS (SR.q' (r_fa fa38_0 rfl) <| SR.q' (r_lda (l := [.slice Ac_Library_Maps nc_Library_Maps cc_Library_Maps, .slice Ac_Library_Away nc_Library_Away cc_Library_Away, .int .i64 c.Library.Bought, .int .i64 c.Library.Dropped, .int .i64 c.Library.Mended]) agg35 rfl (fun _ _ hu => ((hb6).lo hk10).cells (vs := [.slice Ac_Library_Maps nc_Library_Maps cc_Library_Maps, .slice Ac_Library_Away nc_Library_Away cc_Library_Away, .int .i64 c.Library.Bought, .int .i64 c.Library.Dropped, .int .i64 c.Library.Mended]) rfl hu) rfl) <| SR.alloc (l := [.slice none 0 0, .slice none 0 0, .int .i64 0, .int .i64 0, .int .i64 0]) tz35 rfl ?_)
    intro g18 w19 hg20 hk21 hs22 hb23
    have hz24 := hk21.size
    have hB25 := hB12.lo hk21
    refine SR.store (o := 0) (vs := [.slice Ac_Library_Maps nc_Library_Maps cc_Library_Maps, .slice Ac_Library_Away nc_Library_Away cc_Library_Away, .int .i64 c.Library.Bought, .int .i64 c.Library.Dropped, .int .i64 c.Library.Mended]) agg35.2 rfl rfl rfl rfl (hb23) (Nat.le_of_ble_eq_true rfl) rfl ?_
    intro w26 hk27 hs28 hb29
    have hz30 := hk27.size
    have hB31 := hB25.new hk27 (by omega)
    refine SR.nil ?_
    refine W.seq ?_
    refine W.seq ?_
    refine W.regS (SR.q' (r_fa fa35_0 rfl) <| SR.q' (r_ld (v := .slice Ac_Library_Maps nc_Library_Maps cc_Library_Maps) sca32 rfl ((hb29).cell rfl)) <| SR.q' (r_len und32 rfl) <| SR.q' (r_mv (v := .int .i64 0) rfl) <| SR.nil ?_)
    refine W.block ?_
    refine W.loop (σ := Nat) (fun g => [(1, .pointer (some ((⟨g1, 0, none⟩ : Addr)))), (2, str ([] : List UInt8)), (3, .bool false), (4, str (conT c g)), (5, .pointer (some ((⟨g18, 0, none⟩ : Addr)))), (16, .slice Ac_Library_Maps nc_Library_Maps cc_Library_Maps), (17, .int .i64 (nc_Library_Maps : Int)), (18, .int .i64 (g : Int))]) (fun g w' => (Lo w w') ∧ (Blk w' g1 38 [.slice Ac_Library_Maps nc_Library_Maps cc_Library_Maps, .slice Ac_Library_Away nc_Library_Away cc_Library_Away, .int .i64 c.Library.Bought, .int .i64 c.Library.Dropped, .int .i64 c.Library.Mended, str c.Log.Durable, str c.Log.Pending, .int .i64 c.Log.Count]) ∧ (SlR w' Bc_Library_Maps encLMap 3 Ac_Library_Maps nc_Library_Maps cc_Library_Maps c.Library.Maps) ∧ (SlR w' Bc_Library_Away encAway 2 Ac_Library_Away nc_Library_Away cc_Library_Away c.Library.Away) ∧ (Blk w' g18 35 [.slice Ac_Library_Maps nc_Library_Maps cc_Library_Maps, .slice Ac_Library_Away nc_Library_Away cc_Library_Away, .int .i64 c.Library.Bought, .int .i64 c.Library.Dropped, .int .i64 c.Library.Mended]) ∧ (g ≤ nc_Library_Maps)) (fun g => nc_Library_Maps - g) 0 ?_ ?_ ?_
    · exact ⟨rfl, rfl, rfl, (eS (by first | (first | omega | rfl | exact con_next ‹ConOK c› (by omega)) | (dsimp only; (first | omega | rfl | exact con_next ‹ConOK c› (by omega))))), rfl, rfl, rfl, (eI (by first | (first | omega | rfl | exact con_next ‹ConOK c› (by omega)) | (dsimp only; (first | omega | rfl | exact con_next ‹ConOK c› (by omega))))), trivial⟩
    · exact ⟨hB31, (((hb6).lo hk10).lo hk21).kp hk27 (fun e' => by have e'' : g1 = g18 := e'; omega), ((((hc_Library_Maps).lo hk4).lo hk10).lo hk21).kp hk27 (fun b_ hb e' => by have e'' : b_ = g18 := e'; omega), ((((hc_Library_Away).lo hk4).lo hk10).lo hk21).kp hk27 (fun b_ hb e' => by have e'' : b_ = g18 := e'; omega), hb29, (z_c_impl_FormatConsole_32 c nc_Library_Maps hbdc_Library_Maps hlec_Library_Maps nc_Library_Away hbdc_Library_Away hlec_Library_Away hp0 h13 hq16 hq17)⟩
    · rintro k f33 w34 hP36
      obtain ⟨hB35, hm37, hm38, hm39, hm40, hi41⟩ : (Lo w w34) ∧ (Blk w34 g1 38 [.slice Ac_Library_Maps nc_Library_Maps cc_Library_Maps, .slice Ac_Library_Away nc_Library_Away cc_Library_Away, .int .i64 c.Library.Bought, .int .i64 c.Library.Dropped, .int .i64 c.Library.Mended, str c.Log.Durable, str c.Log.Pending, .int .i64 c.Log.Count]) ∧ (SlR w34 Bc_Library_Maps encLMap 3 Ac_Library_Maps nc_Library_Maps cc_Library_Maps c.Library.Maps) ∧ (SlR w34 Bc_Library_Away encAway 2 Ac_Library_Away nc_Library_Away cc_Library_Away c.Library.Away) ∧ (Blk w34 g18 35 [.slice Ac_Library_Maps nc_Library_Maps cc_Library_Maps, .slice Ac_Library_Away nc_Library_Away cc_Library_Away, .int .i64 c.Library.Bought, .int .i64 c.Library.Dropped, .int .i64 c.Library.Mended]) ∧ (k ≤ nc_Library_Maps) := hP36
      refine (?_ : W _ _ _ _ _ (act _ (sets f33 [(1, .pointer (some ((⟨g1, 0, none⟩ : Addr)))), (2, str ([] : List UInt8)), (3, .bool false), (4, str (conT c k)), (5, .pointer (some ((⟨g18, 0, none⟩ : Addr)))), (16, .slice Ac_Library_Maps nc_Library_Maps cc_Library_Maps), (17, .int .i64 (nc_Library_Maps : Int)), (18, .int .i64 (k : Int))])) _)
      have hzw34 := hB35.size
      have hl42 := hm37.lt
      have hl43 := hm40.lt
      have hq44 : (conT c k).length ≤ 99 * k := con_len ‹ConOK c› k (by omega)
      refine W.seq ?_
      refine W.regS (SR.q' (r_lt rfl rfl) <| SR.nil ?_)
      refine W.seq ?_
      refine W.cond_d rfl (fun h45 => ?_) (fun h45 => ?_)
      · refine W.skip ?_
        refine W.seq ?_
        refine W.block ?_
        refine W.seq ?_
        have hx47 := (hm38).elem (i := k) (by omega)
        have hq48 := maps_rng ‹ConOK c›.1.1.1 hx47
        refine W.regS (SR.q' (r_ixR tsl32 (hm38) rfl rfl (by omega)) <| SR.q' (r_lda (l := encLMap (gt c.Library.Maps k)) agg54 rfl (fun _ _ hu => (hm38).cell hx47 hu) ((hm38).esz _)) <| SR.alloc (l := [.int .i64 0, .int .i64 0, .int .i64 0]) tz54 rfl ?_)
        intro g49 w50 hg51 hk52 hs53 hb54
        have hz55 := hk52.size
        have hB56 := hB35.lo hk52
        refine SR.store (o := 0) (vs := [.int .i64 ((gt c.Library.Maps k).Id), .int .i64 ((gt c.Library.Maps k).Copies), .int .i64 ((gt c.Library.Maps k).Torn)]) agg54.2 rfl rfl rfl rfl (hb54) (Nat.le_of_ble_eq_true rfl) rfl ?_
        intro w57 hk58 hs59 hb60
        have hz61 := hk58.size
        have hB62 := hB56.new hk58 (by omega)
        refine SR.nil ?_
        refine W.seq ?_
        refine W.regS (SR.q' (r_lda (l := [.slice Ac_Library_Maps nc_Library_Maps cc_Library_Maps, .slice Ac_Library_Away nc_Library_Away cc_Library_Away, .int .i64 c.Library.Bought, .int .i64 c.Library.Dropped, .int .i64 c.Library.Mended]) agg35 rfl (fun _ _ hu => (((hm40).lo hk52).kp hk58 (fun e' => by have e'' : g18 = g49 := e'; omega)).cell hu) rfl) <| SR.q' (r_fa fa54_0 rfl) <| SR.q' (r_ld (v := .int .i64 ((gt c.Library.Maps k).Id)) sca3 rfl ((hb60).cell rfl)) <| SR.call ent23 (c_impl_MapText w57 c.Library ((((hm38).lo hk52).kp hk58 (fun b_ hb e' => by have e'' : b_ = g49 := e'; omega))) ((((hm39).lo hk52).kp hk58 (fun b_ hb e' => by have e'' : b_ = g49 := e'; omega))) ((gt c.Library.Maps k).Id) (by omega) (hE.lo (hB62))) rfl ?_)
        rintro e w63 ⟨rfl, hk64⟩
        refine ⟨_, rfl, ?_⟩
        have hz65 := hk64.size
        have hB66 := hB62.lo hk64
        have hq67 : (mapT c.Library ((gt c.Library.Maps k).Id)).1.length ≤ 75 := mapT_len c.Library ((gt c.Library.Maps k).Id)
        refine SR.q' (r_mv (v := .tuple (List.toArray _)) rfl) <| SR.q' (r_ext (v := str _) rfl rfl) <| SR.q' (r_ext (v := .bool _) rfl rfl) <| SR.q' (r_as (v := str _) rfl) <| SR.q' (r_as (v := .bool _) rfl) <| SR.nil ?_
        refine W.regS (SR.q' (r_mv (v := str _) rfl) <| SR.q' (r_fa fa54_0 rfl) <| SR.q' (r_ld (v := .int .i64 ((gt c.Library.Maps k).Id)) sca3 rfl (((hb60).lo hk64).cell rfl)) <| SR.call ent24 (c_impl_text w63 ((gt c.Library.Maps k).Id) (by omega) (hE.lo (hB66))) rfl ?_)
        rintro e w68 ⟨rfl, hk69⟩
        refine ⟨_, rfl, ?_⟩
        have hz70 := hk69.size
        have hB71 := hB66.lo hk69
        have hq72 : (Lib.itoa ((gt c.Library.Maps k).Id)).length ≤ 21 := itoa_len (n := (gt c.Library.Maps k).Id) (by omega) (by omega)
        refine SR.q' (r_cat rfl rfl (by first | omega | (simp only [List.length_append, List.length_cons, List.length_nil, List.length_take, List.length_drop]; omega) | (simp only [List.length_append, List.length_cons, List.length_nil, List.length_take, List.length_drop] at *; omega))) <| SR.q' (r_mv (v := str _) rfl) <| SR.q' (r_cat rfl rfl (by first | omega | (simp only [List.length_append, List.length_cons, List.length_nil, List.length_take, List.length_drop]; omega) | (simp only [List.length_append, List.length_cons, List.length_nil, List.length_take, List.length_drop] at *; omega))) <| SR.q' (r_cat rfl rfl (by first | omega | (simp only [List.length_append, List.length_cons, List.length_nil, List.length_take, List.length_drop]; omega) | (simp only [List.length_append, List.length_cons, List.length_nil, List.length_take, List.length_drop] at *; omega))) <| SR.q' (r_cat rfl rfl (by first | omega | (simp only [List.length_append, List.length_cons, List.length_nil, List.length_take, List.length_drop]; omega) | (simp only [List.length_append, List.length_cons, List.length_nil, List.length_take, List.length_drop] at *; omega))) <| SR.q' (r_as (v := str _) rfl) <| SR.nil ?_
        refine W.regS (SR.q' (r_add rfl rfl (by omega)) <| SR.q' (r_mv (v := .int .i64 _) rfl) <| SR.nil ?_)
        refine ⟨k + 1, _, rfl, ⟨rfl, rfl, rfl, (eS (by first | (first | omega | rfl | exact con_next ‹ConOK c› (by omega)) | (dsimp only; (first | omega | rfl | exact con_next ‹ConOK c› (by omega))))), rfl, rfl, rfl, (eI (by first | (first | omega | rfl | exact con_next ‹ConOK c› (by omega)) | (dsimp only; (first | omega | rfl | exact con_next ‹ConOK c› (by omega))))), trivial⟩, ⟨hB71, ((((hm37).lo hk52).kp hk58 (fun e' => by have e'' : g1 = g49 := e'; omega)).lo hk64).lo hk69, ((((hm38).lo hk52).kp hk58 (fun b_ hb e' => by have e'' : b_ = g49 := e'; omega)).lo hk64).lo hk69, ((((hm39).lo hk52).kp hk58 (fun b_ hb e' => by have e'' : b_ = g49 := e'; omega)).lo hk64).lo hk69, ((((hm40).lo hk52).kp hk58 (fun e' => by have e'' : g18 = g49 := e'; omega)).lo hk64).lo hk69, ?_⟩, ?_⟩
        · exact (z_c_impl_FormatConsole_73 c nc_Library_Maps hbdc_Library_Maps hlec_Library_Maps nc_Library_Away hbdc_Library_Away hlec_Library_Away hp0 h13 hq16 hq17 k hi41 hq44 h45 hx47 hq48 hq67 hq72)
        · exact (z_c_impl_FormatConsole_74 c nc_Library_Maps hbdc_Library_Maps hlec_Library_Maps nc_Library_Away hbdc_Library_Away hlec_Library_Away hp0 h13 hq16 hq17 k hi41 hq44 h45 hx47 hq48 hq67 hq72)
      · refine W.exit (xin_here ?_)
        refine W.seq ?_
        refine W.regD mo (by kernel_rfl) (QR.q' (fun w' hw' => r_mv (v := str _) rfl) <| QR.q' (fun w' hw' => r_cat rfl rfl (by first | omega | (simp only [List.length_append, List.length_cons, List.length_nil, List.length_take, List.length_drop]; omega) | (simp only [List.length_append, List.length_cons, List.length_nil, List.length_take, List.length_drop] at *; omega))) <| QR.q' (fun w' hw' => r_fa fa35_2 rfl) <| QR.q' (fun w' hw' => r_ld (v := .int .i64 c.Library.Bought) sca3 rfl (((hm40).lo hw').cell rfl)) <| QR.call ent24 (fun w' hw' => (c_impl_text w' c.Library.Bought (by omega) (hE.lo (hB35.trans hw'))).mono fun _ _ h => ⟨h.1, hw'.trans h.2⟩) rfl <| ?_)
        have hq75 : (Lib.itoa c.Library.Bought).length ≤ 21 := itoa_len (n := c.Library.Bought) (by omega) (by omega)
        refine QR.q' (fun w' hw' => r_cat rfl rfl (by first | omega | (simp only [List.length_append, List.length_cons, List.length_nil, List.length_take, List.length_drop]; omega) | (simp only [List.length_append, List.length_cons, List.length_nil, List.length_take, List.length_drop] at *; omega))) <| QR.q' (fun w' hw' => r_cat rfl rfl (by first | omega | (simp only [List.length_append, List.length_cons, List.length_nil, List.length_take, List.length_drop]; omega) | (simp only [List.length_append, List.length_cons, List.length_nil, List.length_take, List.length_drop] at *; omega))) <| QR.q' (fun w' hw' => r_fa fa35_3 rfl) <| QR.q' (fun w' hw' => r_ld (v := .int .i64 c.Library.Dropped) sca3 rfl (((hm40).lo hw').cell rfl)) <| QR.call ent24 (fun w' hw' => (c_impl_text w' c.Library.Dropped (by omega) (hE.lo (hB35.trans hw'))).mono fun _ _ h => ⟨h.1, hw'.trans h.2⟩) rfl <| ?_
        have hq76 : (Lib.itoa c.Library.Dropped).length ≤ 21 := itoa_len (n := c.Library.Dropped) (by omega) (by omega)
        refine QR.q' (fun w' hw' => r_cat rfl rfl (by first | omega | (simp only [List.length_append, List.length_cons, List.length_nil, List.length_take, List.length_drop]; omega) | (simp only [List.length_append, List.length_cons, List.length_nil, List.length_take, List.length_drop] at *; omega))) <| QR.q' (fun w' hw' => r_cat rfl rfl (by first | omega | (simp only [List.length_append, List.length_cons, List.length_nil, List.length_take, List.length_drop]; omega) | (simp only [List.length_append, List.length_cons, List.length_nil, List.length_take, List.length_drop] at *; omega))) <| QR.q' (fun w' hw' => r_fa fa35_4 rfl) <| QR.q' (fun w' hw' => r_ld (v := .int .i64 c.Library.Mended) sca3 rfl (((hm40).lo hw').cell rfl)) <| QR.call ent24 (fun w' hw' => (c_impl_text w' c.Library.Mended (by omega) (hE.lo (hB35.trans hw'))).mono fun _ _ h => ⟨h.1, hw'.trans h.2⟩) rfl <| ?_
        have hq77 : (Lib.itoa c.Library.Mended).length ≤ 21 := itoa_len (n := c.Library.Mended) (by omega) (by omega)
        refine QR.q' (fun w' hw' => r_cat rfl rfl (by first | omega | (simp only [List.length_append, List.length_cons, List.length_nil, List.length_take, List.length_drop]; omega) | (simp only [List.length_append, List.length_cons, List.length_nil, List.length_take, List.length_drop] at *; omega))) <| QR.q' (fun w' hw' => r_cat rfl rfl (by first | omega | (simp only [List.length_append, List.length_cons, List.length_nil, List.length_take, List.length_drop]; omega) | (simp only [List.length_append, List.length_cons, List.length_nil, List.length_take, List.length_drop] at *; omega))) <| QR.q' (fun w' hw' => r_fa fa38_1 rfl) <| QR.q' (fun w' hw' => r_fa fa36_2 rfl) <| QR.q' (fun w' hw' => r_ld (v := .int .i64 c.Log.Count) sca3 rfl (((hm37).lo hw').cell2 rfl)) <| QR.call ent24 (fun w' hw' => (c_impl_text w' c.Log.Count (by omega) (hE.lo (hB35.trans hw'))).mono fun _ _ h => ⟨h.1, hw'.trans h.2⟩) rfl <| ?_
        have hq78 : (Lib.itoa c.Log.Count).length ≤ 21 := itoa_len (n := c.Log.Count) (by omega) (by omega)
        refine QR.q' (fun w' hw' => r_cat rfl rfl (by first | omega | (simp only [List.length_append, List.length_cons, List.length_nil, List.length_take, List.length_drop]; omega) | (simp only [List.length_append, List.length_cons, List.length_nil, List.length_take, List.length_drop] at *; omega))) <| QR.q' (fun w' hw' => r_cat rfl rfl (by first | omega | (simp only [List.length_append, List.length_cons, List.length_nil, List.length_take, List.length_drop]; omega) | (simp only [List.length_append, List.length_cons, List.length_nil, List.length_take, List.length_drop] at *; omega))) <| QR.q' (fun w' hw' => r_as (v := str _) rfl) <| QR.q' (fun w' hw' => r_as (v := .bool true) rfl) <| QR.nil ?_
        intro w79 hk80
        have hz81 := hk80.size
        have hB82 := hB35.lo hk80
        refine W.ret ?_
        refine ret2 rfl (v := str _) (v' := .bool _) rfl rfl ?_
        exact ⟨eR (eT2 (eS (z_c_impl_FormatConsole_83 c nc_Library_Maps hbdc_Library_Maps hlec_Library_Maps nc_Library_Away hbdc_Library_Away hlec_Library_Away hp0 h13 hq16 hq17 k hi41 hq44 h45 hq75 hq76 hq77 hq78)) (eB (z_c_impl_FormatConsole_84 c nc_Library_Maps hbdc_Library_Maps hlec_Library_Maps nc_Library_Away hbdc_Library_Away hlec_Library_Away hp0 h13 hq16 hq17 k hi41 hq44 h45 hq75 hq76 hq77 hq78))), hB82⟩

theorem z_c_spec_FormatConsole_14 (c : Console) (nc_Library_Maps : Nat) (hbdc_Library_Maps : (nc_Library_Maps : Int) ≤ 9223372036854775807) (hlec_Library_Maps : nc_Library_Maps = c.Library.Maps.length) (nc_Library_Away : Nat) (hbdc_Library_Away : (nc_Library_Away : Int) ≤ 9223372036854775807) (hlec_Library_Away : nc_Library_Away = c.Library.Away.length) (hp0 : (c.Library.Maps.length : Int) ≤ 1048576 ∧ (c.Library.Away.length : Int) ≤ 1048576 ∧ (c.Log.Durable.length : Int) + (c.Log.Pending.length : Int) ≤ 1048576) (h13 : ¬ (ConOK c)) : ([] : List UInt8) = (formC c).1 := by
  first | (rw [form_no ‹¬ ConOK _›]; done) | (rw [form_yes ‹ConOK _› (show k = c.Library.Maps.length by omega)]; first | done | (rw [← con_end]; done) | (exact con_end c k))
theorem z_c_spec_FormatConsole_15 (c : Console) (nc_Library_Maps : Nat) (hbdc_Library_Maps : (nc_Library_Maps : Int) ≤ 9223372036854775807) (hlec_Library_Maps : nc_Library_Maps = c.Library.Maps.length) (nc_Library_Away : Nat) (hbdc_Library_Away : (nc_Library_Away : Int) ≤ 9223372036854775807) (hlec_Library_Away : nc_Library_Away = c.Library.Away.length) (hp0 : (c.Library.Maps.length : Int) ≤ 1048576 ∧ (c.Library.Away.length : Int) ≤ 1048576 ∧ (c.Log.Durable.length : Int) + (c.Log.Pending.length : Int) ≤ 1048576) (h13 : ¬ (ConOK c)) : false = (formC c).2 := by
  first | (rw [form_no ‹¬ ConOK _›]; done) | (rw [form_yes ‹ConOK _› (show k = c.Library.Maps.length by omega)]; first | done | (rw [← con_end]; done) | (exact con_end c k))
theorem z_c_spec_FormatConsole_46 (c : Console) (nc_Library_Maps : Nat) (hbdc_Library_Maps : (nc_Library_Maps : Int) ≤ 9223372036854775807) (hlec_Library_Maps : nc_Library_Maps = c.Library.Maps.length) (nc_Library_Away : Nat) (hbdc_Library_Away : (nc_Library_Away : Int) ≤ 9223372036854775807) (hlec_Library_Away : nc_Library_Away = c.Library.Away.length) (hp0 : (c.Library.Maps.length : Int) ≤ 1048576 ∧ (c.Library.Away.length : Int) ≤ 1048576 ∧ (c.Log.Durable.length : Int) + (c.Log.Pending.length : Int) ≤ 1048576) (h13 : ConOK c) (hq16 : c.Library.Maps.length ≤ 8 ∧ c.Library.Away.length ≤ 8 ∧ ((0 ≤ c.Library.Bought ∧ c.Library.Bought ≤ 9999) ∧ (0 ≤ c.Library.Dropped ∧ c.Library.Dropped ≤ 9999) ∧ (0 ≤ c.Library.Mended ∧ c.Library.Mended ≤ 9999)) ∧ 0 ≤ c.Log.Count ∧ c.Log.Count ≤ 60) (hq17 : LibOK c.Library) : 0 ≤ nc_Library_Maps := by
  omega
theorem z_c_spec_FormatConsole_69 (c : Console) (nc_Library_Maps : Nat) (hbdc_Library_Maps : (nc_Library_Maps : Int) ≤ 9223372036854775807) (hlec_Library_Maps : nc_Library_Maps = c.Library.Maps.length) (nc_Library_Away : Nat) (hbdc_Library_Away : (nc_Library_Away : Int) ≤ 9223372036854775807) (hlec_Library_Away : nc_Library_Away = c.Library.Away.length) (hp0 : (c.Library.Maps.length : Int) ≤ 1048576 ∧ (c.Library.Away.length : Int) ≤ 1048576 ∧ (c.Log.Durable.length : Int) + (c.Log.Pending.length : Int) ≤ 1048576) (h13 : ConOK c) (hq16 : c.Library.Maps.length ≤ 8 ∧ c.Library.Away.length ≤ 8 ∧ ((0 ≤ c.Library.Bought ∧ c.Library.Bought ≤ 9999) ∧ (0 ≤ c.Library.Dropped ∧ c.Library.Dropped ≤ 9999) ∧ (0 ≤ c.Library.Mended ∧ c.Library.Mended ≤ 9999)) ∧ 0 ≤ c.Log.Count ∧ c.Log.Count ≤ 60) (hq17 : LibOK c.Library) (k : Nat) (hi55 : k ≤ nc_Library_Maps) (hq58 : (conT c k).length ≤ 99 * k) (h59 : (k : Int) < (nc_Library_Maps : Int)) (hx61 : c.Library.Maps[k]? = some (gt c.Library.Maps k)) (hq62 : ((1 : Int) ≤ (gt c.Library.Maps k).Id ∧ (gt c.Library.Maps k).Id ≤ 99) ∧ ((0 : Int) ≤ (gt c.Library.Maps k).Copies ∧ (gt c.Library.Maps k).Copies ≤ 99) ∧ ((0 : Int) ≤ (gt c.Library.Maps k).Torn ∧ (gt c.Library.Maps k).Torn ≤ (gt c.Library.Maps k).Copies)) (hq63 : (Lib.itoa ((gt c.Library.Maps k).Id)).length ≤ 21) (hq64 : (textL c.Library (k : Int)).length ≤ 75) : k + 1 ≤ nc_Library_Maps := by
  omega
theorem z_c_spec_FormatConsole_70 (c : Console) (nc_Library_Maps : Nat) (hbdc_Library_Maps : (nc_Library_Maps : Int) ≤ 9223372036854775807) (hlec_Library_Maps : nc_Library_Maps = c.Library.Maps.length) (nc_Library_Away : Nat) (hbdc_Library_Away : (nc_Library_Away : Int) ≤ 9223372036854775807) (hlec_Library_Away : nc_Library_Away = c.Library.Away.length) (hp0 : (c.Library.Maps.length : Int) ≤ 1048576 ∧ (c.Library.Away.length : Int) ≤ 1048576 ∧ (c.Log.Durable.length : Int) + (c.Log.Pending.length : Int) ≤ 1048576) (h13 : ConOK c) (hq16 : c.Library.Maps.length ≤ 8 ∧ c.Library.Away.length ≤ 8 ∧ ((0 ≤ c.Library.Bought ∧ c.Library.Bought ≤ 9999) ∧ (0 ≤ c.Library.Dropped ∧ c.Library.Dropped ≤ 9999) ∧ (0 ≤ c.Library.Mended ∧ c.Library.Mended ≤ 9999)) ∧ 0 ≤ c.Log.Count ∧ c.Log.Count ≤ 60) (hq17 : LibOK c.Library) (k : Nat) (hi55 : k ≤ nc_Library_Maps) (hq58 : (conT c k).length ≤ 99 * k) (h59 : (k : Int) < (nc_Library_Maps : Int)) (hx61 : c.Library.Maps[k]? = some (gt c.Library.Maps k)) (hq62 : ((1 : Int) ≤ (gt c.Library.Maps k).Id ∧ (gt c.Library.Maps k).Id ≤ 99) ∧ ((0 : Int) ≤ (gt c.Library.Maps k).Copies ∧ (gt c.Library.Maps k).Copies ≤ 99) ∧ ((0 : Int) ≤ (gt c.Library.Maps k).Torn ∧ (gt c.Library.Maps k).Torn ≤ (gt c.Library.Maps k).Copies)) (hq63 : (Lib.itoa ((gt c.Library.Maps k).Id)).length ≤ 21) (hq64 : (textL c.Library (k : Int)).length ≤ 75) : nc_Library_Maps - (k + 1) < nc_Library_Maps - k := by
  omega
theorem z_c_spec_FormatConsole_79 (c : Console) (nc_Library_Maps : Nat) (hbdc_Library_Maps : (nc_Library_Maps : Int) ≤ 9223372036854775807) (hlec_Library_Maps : nc_Library_Maps = c.Library.Maps.length) (nc_Library_Away : Nat) (hbdc_Library_Away : (nc_Library_Away : Int) ≤ 9223372036854775807) (hlec_Library_Away : nc_Library_Away = c.Library.Away.length) (hp0 : (c.Library.Maps.length : Int) ≤ 1048576 ∧ (c.Library.Away.length : Int) ≤ 1048576 ∧ (c.Log.Durable.length : Int) + (c.Log.Pending.length : Int) ≤ 1048576) (h13 : ConOK c) (hq16 : c.Library.Maps.length ≤ 8 ∧ c.Library.Away.length ≤ 8 ∧ ((0 ≤ c.Library.Bought ∧ c.Library.Bought ≤ 9999) ∧ (0 ≤ c.Library.Dropped ∧ c.Library.Dropped ≤ 9999) ∧ (0 ≤ c.Library.Mended ∧ c.Library.Mended ≤ 9999)) ∧ 0 ≤ c.Log.Count ∧ c.Log.Count ≤ 60) (hq17 : LibOK c.Library) (k : Nat) (hi55 : k ≤ nc_Library_Maps) (hq58 : (conT c k).length ≤ 99 * k) (h59 : ¬ ((k : Int) < (nc_Library_Maps : Int))) (hq71 : (Lib.itoa c.Library.Bought).length ≤ 21) (hq72 : (Lib.itoa c.Library.Dropped).length ≤ 21) (hq73 : (Lib.itoa c.Library.Mended).length ≤ 21) (hq74 : (Lib.itoa c.Log.Count).length ≤ 21) : (((((((((conT c k) ++ ([98, 111, 117, 103, 104, 116, 32] : List UInt8)) ++ (Lib.itoa c.Library.Bought)) ++ ([59, 32, 100, 114, 111, 112, 112, 101, 100, 32] : List UInt8)) ++ (Lib.itoa c.Library.Dropped)) ++ ([59, 32, 109, 101, 110, 100, 101, 100, 32] : List UInt8)) ++ (Lib.itoa c.Library.Mended)) ++ ([59, 32, 114, 101, 99, 111, 114, 100, 115, 32] : List UInt8)) ++ (Lib.itoa c.Log.Count)) ++ ([10] : List UInt8) = (formC c).1 := by
  first | (rw [form_no ‹¬ ConOK _›]; done) | (rw [form_yes ‹ConOK _› (show k = c.Library.Maps.length by omega)]; first | done | (rw [← con_end]; done) | (exact con_end c k))
theorem z_c_spec_FormatConsole_80 (c : Console) (nc_Library_Maps : Nat) (hbdc_Library_Maps : (nc_Library_Maps : Int) ≤ 9223372036854775807) (hlec_Library_Maps : nc_Library_Maps = c.Library.Maps.length) (nc_Library_Away : Nat) (hbdc_Library_Away : (nc_Library_Away : Int) ≤ 9223372036854775807) (hlec_Library_Away : nc_Library_Away = c.Library.Away.length) (hp0 : (c.Library.Maps.length : Int) ≤ 1048576 ∧ (c.Library.Away.length : Int) ≤ 1048576 ∧ (c.Log.Durable.length : Int) + (c.Log.Pending.length : Int) ≤ 1048576) (h13 : ConOK c) (hq16 : c.Library.Maps.length ≤ 8 ∧ c.Library.Away.length ≤ 8 ∧ ((0 ≤ c.Library.Bought ∧ c.Library.Bought ≤ 9999) ∧ (0 ≤ c.Library.Dropped ∧ c.Library.Dropped ≤ 9999) ∧ (0 ≤ c.Library.Mended ∧ c.Library.Mended ≤ 9999)) ∧ 0 ≤ c.Log.Count ∧ c.Log.Count ≤ 60) (hq17 : LibOK c.Library) (k : Nat) (hi55 : k ≤ nc_Library_Maps) (hq58 : (conT c k).length ≤ 99 * k) (h59 : ¬ ((k : Int) < (nc_Library_Maps : Int))) (hq71 : (Lib.itoa c.Library.Bought).length ≤ 21) (hq72 : (Lib.itoa c.Library.Dropped).length ≤ 21) (hq73 : (Lib.itoa c.Library.Mended).length ≤ 21) (hq74 : (Lib.itoa c.Log.Count).length ≤ 21) : true = (formC c).2 := by
  first | (rw [form_no ‹¬ ConOK _›]; done) | (rw [form_yes ‹ConOK _› (show k = c.Library.Maps.length by omega)]; first | done | (rw [← con_end]; done) | (exact con_end c k))
theorem c_spec_FormatConsole (w : World) (c : Console) {Ac_Library_Maps : Option Addr} {nc_Library_Maps cc_Library_Maps Bc_Library_Maps : Nat} (hc_Library_Maps : SlR w Bc_Library_Maps encLMap 3 Ac_Library_Maps nc_Library_Maps cc_Library_Maps c.Library.Maps) {Ac_Library_Away : Option Addr} {nc_Library_Away cc_Library_Away Bc_Library_Away : Nat} (hc_Library_Away : SlR w Bc_Library_Away encAway 2 Ac_Library_Away nc_Library_Away cc_Library_Away c.Library.Away) (hp0 : (c.Library.Maps.length : Int) ≤ 1048576 ∧ (c.Library.Away.length : Int) ≤ 1048576 ∧ (c.Log.Durable.length : Int) + (c.Log.Pending.length : Int) ≤ 1048576) : Calls Tryd.prog 10 #[.agg (List.toArray [.slice Ac_Library_Maps nc_Library_Maps cc_Library_Maps, .slice Ac_Library_Away nc_Library_Away cc_Library_Away, .int .i64 c.Library.Bought, .int .i64 c.Library.Dropped, .int .i64 c.Library.Mended, str c.Log.Durable, str c.Log.Pending, .int .i64 c.Log.Count])] w fun e w' => e = .returned (.tuple (List.toArray [str ((formC c).1), .bool ((formC c).2)])) ∧ Lo w w' := by
  refine calls_W 57 Tryd.func10 rfl rfl rfl ?_
  have hbdc_Library_Maps := hc_Library_Maps.bound
  have hlec_Library_Maps := hc_Library_Maps.len
  have hBbc_Library_Maps := hc_Library_Maps.bd
  have hbdc_Library_Away := hc_Library_Away.bound
  have hlec_Library_Away := hc_Library_Away.len
  have hBbc_Library_Away := hc_Library_Away.bd
  refine W.seq ?_
  refine W.regS (SR.box (v := .agg (List.toArray _)) (l := [.slice Ac_Library_Maps nc_Library_Maps cc_Library_Maps, .slice Ac_Library_Away nc_Library_Away cc_Library_Away, .int .i64 c.Library.Bought, .int .i64 c.Library.Dropped, .int .i64 c.Library.Mended, str c.Log.Durable, str c.Log.Pending, .int .i64 c.Log.Count]) rfl rfl ?_)
  intro g1 w2 hg3 hk4 hs5 hb6
  have hz7 := hk4.size
  have hB8 := (Lo.refl w).lo hk4
  refine SR.q' (r_as (v := str ([] : List UInt8)) rfl) <| SR.q' (r_as (v := .bool false) rfl) <| SR.nil ?_
  refine W.seq ?_
  refine W.seq ?_
  refine W.regS (SR.q' (r_lda (l := [.slice Ac_Library_Maps nc_Library_Maps cc_Library_Maps, .slice Ac_Library_Away nc_Library_Away cc_Library_Away, .int .i64 c.Library.Bought, .int .i64 c.Library.Dropped, .int .i64 c.Library.Mended, str c.Log.Durable, str c.Log.Pending, .int .i64 c.Log.Count]) agg38 rfl (fun _ _ hu => (hb6).cell hu) rfl) <| SR.call ent14 (c_spec_l34Good w2 c (((hc_Library_Maps).lo hk4)) (((hc_Library_Away).lo hk4)) (by omega)) rfl ?_)
  rintro e w9 ⟨rfl, hk10⟩
  refine ⟨_, rfl, ?_⟩
  have hz11 := hk10.size
  have hB12 := hB8.lo hk10
  refine SR.q' (r_not rfl) <| SR.nil ?_
  refine W.cond_n rfl (fun h13 => ?_) (fun h13 => ?_)
  · refine W.seq ?_
    refine W.regS (SR.q' (r_as (v := str ([] : List UInt8)) rfl) <| SR.q' (r_as (v := .bool false) rfl) <| SR.nil ?_)
    refine W.ret ?_
    refine ret2 rfl (v := str _) (v' := .bool _) rfl rfl ?_
    exact ⟨eR (eT2 (eS (z_c_spec_FormatConsole_14 c nc_Library_Maps hbdc_Library_Maps hlec_Library_Maps nc_Library_Away hbdc_Library_Away hlec_Library_Away hp0 h13)) (eB (z_c_spec_FormatConsole_15 c nc_Library_Maps hbdc_Library_Maps hlec_Library_Maps nc_Library_Away hbdc_Library_Away hlec_Library_Away hp0 h13))), hB12⟩
  · have hq16 := con_rng h13
    have hq17 := And.left h13
    refine W.skip ?_
    refine W.seq ?_
    refine W.regA (Lo w9) (fun f' w' => ∃ (g22 : Nat), At f' [(1, .pointer (some ((⟨g1, 0, none⟩ : Addr)))), (2, str ([] : List UInt8)), (3, .bool false), (4, str ([] : List UInt8)), (5, .pointer (some ((⟨g22, 0, none⟩ : Addr))))] ∧ (Lo w9 w') ∧ (Blk w' g22 35 [.slice Ac_Library_Maps nc_Library_Maps cc_Library_Maps, .slice Ac_Library_Away nc_Library_Away cc_Library_Away, .int .i64 c.Library.Bought, .int .i64 c.Library.Dropped, .int .i64 c.Library.Mended]) ∧ (w9.heap.size ≤ g22 ∧ g22 < w'.heap.size)) mo ?_ ?_
    · intro w18 hk19
      have hz20 := hk19.size
      have hB21 := hB12.lo hk19
      refine AH.take 0 rfl (by kernel_rfl) trivial (hk19) (fun w' hw' => r_fa fa38_0 rfl) <| AH.take 1 rfl (by kernel_rfl) trivial (hk19) (fun w' hw' => r_lda (l := [.slice Ac_Library_Maps nc_Library_Maps cc_Library_Maps, .slice Ac_Library_Away nc_Library_Away cc_Library_Away, .int .i64 c.Library.Bought, .int .i64 c.Library.Dropped, .int .i64 c.Library.Mended]) agg35 rfl (fun _ _ hu => (((hb6).lo hk10).lo hw').cells (vs := [.slice Ac_Library_Maps nc_Library_Maps cc_Library_Maps, .slice Ac_Library_Away nc_Library_Away cc_Library_Away, .int .i64 c.Library.Bought, .int .i64 c.Library.Dropped, .int .i64 c.Library.Mended]) rfl hu) rfl) <| AH.br [2] (by kernel_rfl) rfl ⟨Br.mk' rfl trivial ?_, trivial⟩
      refine SR.alloc (l := [.slice none 0 0, .slice none 0 0, .int .i64 0, .int .i64 0, .int .i64 0]) tz35 rfl ?_
      intro g22 w23 hg24 hk25 hs26 hb27
      have hz28 := hk25.size
      have hB29 := hB21.lo hk25
      have hS30 := (hk19).lo hk25
      refine SR.nil ⟨hS30, _, rfl, ?_⟩
      refine AH.take 3 rfl (by kernel_rfl) trivial (hS30) (fun w' hw' => r_as (v := str ([] : List UInt8)) rfl) <| AH.br [4] (by kernel_rfl) rfl ⟨Br.mk' rfl trivial ?_, trivial⟩
      refine SR.store (o := 0) (vs := [.slice Ac_Library_Maps nc_Library_Maps cc_Library_Maps, .slice Ac_Library_Away nc_Library_Away cc_Library_Away, .int .i64 c.Library.Bought, .int .i64 c.Library.Dropped, .int .i64 c.Library.Mended]) agg35.2 rfl rfl rfl rfl (hb27) (Nat.le_of_ble_eq_true rfl) rfl ?_
      intro w31 hk32 hs33 hb34
      have hz35 := hk32.size
      have hB36 := hB29.new hk32 (by omega)
      have hS37 := (hS30).new hk32 (by omega)
      refine SR.nil ⟨hS37, _, rfl, ?_⟩
      refine AH.done (by kernel_rfl) ?_
      exact ⟨g22, ⟨rfl, rfl, rfl, rfl, rfl, trivial⟩, hS37, (hb34), ⟨by omega, (hb34).lt⟩⟩
    rintro f40 w41 ⟨g22, hat43, hR42, hm38, hg39⟩
    rw [← sets_of_at hat43]
    have hz44 := hR42.size
    have hB45 := hB12.lo hR42
    refine W.seq ?_
    refine W.seq ?_
    refine W.regS (SR.q' (r_as (v := .int .i64 0) rfl) <| SR.nil ?_)
    refine W.block ?_
    refine W.loop (σ := Nat) (fun g => [(1, .pointer (some ((⟨g1, 0, none⟩ : Addr)))), (2, str ([] : List UInt8)), (3, .bool false), (4, str (conT c g)), (5, .pointer (some ((⟨g22, 0, none⟩ : Addr)))), (6, .int .i64 (g : Int))]) (fun g w' => (Lo w w') ∧ (Blk w' g1 38 [.slice Ac_Library_Maps nc_Library_Maps cc_Library_Maps, .slice Ac_Library_Away nc_Library_Away cc_Library_Away, .int .i64 c.Library.Bought, .int .i64 c.Library.Dropped, .int .i64 c.Library.Mended, str c.Log.Durable, str c.Log.Pending, .int .i64 c.Log.Count]) ∧ (SlR w' Bc_Library_Maps encLMap 3 Ac_Library_Maps nc_Library_Maps cc_Library_Maps c.Library.Maps) ∧ (SlR w' Bc_Library_Away encAway 2 Ac_Library_Away nc_Library_Away cc_Library_Away c.Library.Away) ∧ (Blk w' g22 35 [.slice Ac_Library_Maps nc_Library_Maps cc_Library_Maps, .slice Ac_Library_Away nc_Library_Away cc_Library_Away, .int .i64 c.Library.Bought, .int .i64 c.Library.Dropped, .int .i64 c.Library.Mended]) ∧ (g ≤ nc_Library_Maps)) (fun g => nc_Library_Maps - g) 0 ?_ ?_ ?_
    · exact ⟨rfl, rfl, rfl, (eS (by first | (first | omega | rfl | exact con_nextS) | (dsimp only; (first | omega | rfl | exact con_nextS)))), rfl, (eI (by first | (first | omega | rfl | exact con_nextS) | (dsimp only; (first | omega | rfl | exact con_nextS)))), trivial⟩
    · exact ⟨hB45, ((hb6).lo hk10).lo hR42, (((hc_Library_Maps).lo hk4).lo hk10).lo hR42, (((hc_Library_Away).lo hk4).lo hk10).lo hR42, hm38, (z_c_spec_FormatConsole_46 c nc_Library_Maps hbdc_Library_Maps hlec_Library_Maps nc_Library_Away hbdc_Library_Away hlec_Library_Away hp0 h13 hq16 hq17)⟩
    · rintro k f47 w48 hP50
      obtain ⟨hB49, hm51, hm52, hm53, hm54, hi55⟩ : (Lo w w48) ∧ (Blk w48 g1 38 [.slice Ac_Library_Maps nc_Library_Maps cc_Library_Maps, .slice Ac_Library_Away nc_Library_Away cc_Library_Away, .int .i64 c.Library.Bought, .int .i64 c.Library.Dropped, .int .i64 c.Library.Mended, str c.Log.Durable, str c.Log.Pending, .int .i64 c.Log.Count]) ∧ (SlR w48 Bc_Library_Maps encLMap 3 Ac_Library_Maps nc_Library_Maps cc_Library_Maps c.Library.Maps) ∧ (SlR w48 Bc_Library_Away encAway 2 Ac_Library_Away nc_Library_Away cc_Library_Away c.Library.Away) ∧ (Blk w48 g22 35 [.slice Ac_Library_Maps nc_Library_Maps cc_Library_Maps, .slice Ac_Library_Away nc_Library_Away cc_Library_Away, .int .i64 c.Library.Bought, .int .i64 c.Library.Dropped, .int .i64 c.Library.Mended]) ∧ (k ≤ nc_Library_Maps) := hP50
      refine (?_ : W _ _ _ _ _ (act _ (sets f47 [(1, .pointer (some ((⟨g1, 0, none⟩ : Addr)))), (2, str ([] : List UInt8)), (3, .bool false), (4, str (conT c k)), (5, .pointer (some ((⟨g22, 0, none⟩ : Addr)))), (6, .int .i64 (k : Int))])) _)
      have hzw48 := hB49.size
      have hl56 := hm51.lt
      have hl57 := hm54.lt
      have hq58 : (conT c k).length ≤ 99 * k := con_len ‹ConOK c› k (by omega)
      refine W.seq ?_
      refine W.seq ?_
      refine W.regS (SR.q' (r_mv (v := .int .i64 _) rfl) <| SR.q' (r_fa fa35_0 rfl) <| SR.q' (r_ld (v := .slice Ac_Library_Maps nc_Library_Maps cc_Library_Maps) sca32 rfl ((hm54).cell rfl)) <| SR.q' (r_len und32 rfl) <| SR.q' (r_lt rfl rfl) <| SR.nil ?_)
      refine W.cond_d rfl (fun h59 => ?_) (fun h59 => ?_)
      · refine W.skip ?_
        refine W.seq ?_
        refine W.block ?_
        refine W.regD mo (by kernel_rfl) (QR.q' (fun w' hw' => r_mv (v := str _) rfl) <| QR.q' (fun w' hw' => r_fa fa35_0 rfl) <| QR.q' (fun w' hw' => r_ld (v := .slice Ac_Library_Maps nc_Library_Maps cc_Library_Maps) sca32 rfl (((hm54).lo hw').cell rfl)) <| QR.q' (fun w' hw' => r_mv (v := .int .i64 _) rfl) <| ?_)
        have hx61 := (hm52).elem (i := k) (by omega)
        have hq62 := maps_rng ‹ConOK c›.1.1.1 hx61
        refine QR.q' (fun w' hw' => r_ixR tsl32 (((hm52).lo hw')) rfl rfl (by omega)) <| QR.q' (fun w' hw' => r_fa fa54_0 rfl) <| QR.q' (fun w' hw' => r_ld (v := .int .i64 ((gt c.Library.Maps k).Id)) sca3 rfl ((((hm52).lo hw')).cell hx61 rfl)) <| QR.call ent21 (fun w' hw' => (c_spec_l1Num w' ((gt c.Library.Maps k).Id) (by omega)).mono fun _ _ h => ⟨h.1, hw'.trans h.2⟩) rfl <| ?_
        have hq63 : (Lib.itoa ((gt c.Library.Maps k).Id)).length ≤ 21 := itoa_len (n := (gt c.Library.Maps k).Id) (by omega) (by omega)
        refine QR.q' (fun w' hw' => r_cat rfl rfl (by first | omega | (simp only [List.length_append, List.length_cons, List.length_nil, List.length_take, List.length_drop]; omega) | (simp only [List.length_append, List.length_cons, List.length_nil, List.length_take, List.length_drop] at *; omega))) <| QR.q' (fun w' hw' => r_cat rfl rfl (by first | omega | (simp only [List.length_append, List.length_cons, List.length_nil, List.length_take, List.length_drop]; omega) | (simp only [List.length_append, List.length_cons, List.length_nil, List.length_take, List.length_drop] at *; omega))) <| QR.q' (fun w' hw' => r_lda (l := [.slice Ac_Library_Maps nc_Library_Maps cc_Library_Maps, .slice Ac_Library_Away nc_Library_Away cc_Library_Away, .int .i64 c.Library.Bought, .int .i64 c.Library.Dropped, .int .i64 c.Library.Mended]) agg35 rfl (fun _ _ hu => ((hm54).lo hw').cell hu) rfl) <| QR.q' (fun w' hw' => r_mv (v := .int .i64 _) rfl) <| QR.call ent22 (fun w' hw' => (c_spec_l32Text w' c.Library ((((hm52).lo hw'))) ((((hm53).lo hw'))) (k : Int) (by assumption) (by omega)).mono fun _ _ h => ⟨h.1, hw'.trans h.2⟩) rfl <| ?_
        have hq64 : (textL c.Library (k : Int)).length ≤ 75 := textL_len (x := c.Library) (by assumption) (i := (k : Int)) (by omega)
        refine QR.q' (fun w' hw' => r_cat rfl rfl (by first | omega | (simp only [List.length_append, List.length_cons, List.length_nil, List.length_take, List.length_drop]; omega) | (simp only [List.length_append, List.length_cons, List.length_nil, List.length_take, List.length_drop] at *; omega))) <| QR.q' (fun w' hw' => r_cat rfl rfl (by first | omega | (simp only [List.length_append, List.length_cons, List.length_nil, List.length_take, List.length_drop]; omega) | (simp only [List.length_append, List.length_cons, List.length_nil, List.length_take, List.length_drop] at *; omega))) <| QR.q' (fun w' hw' => r_as (v := str _) rfl) <| QR.nil ?_
        intro w65 hk66
        have hz67 := hk66.size
        have hB68 := hB49.lo hk66
        refine W.regS (SR.q' (r_mv (v := .int .i64 _) rfl) <| SR.q' (r_add rfl rfl (by omega)) <| SR.q' (r_as (v := .int .i64 _) rfl) <| SR.nil ?_)
        refine ⟨k + 1, _, rfl, ⟨rfl, rfl, rfl, (eS (by first | (first | omega | rfl | exact con_nextS) | (dsimp only; (first | omega | rfl | exact con_nextS)))), rfl, (eI (by first | (first | omega | rfl | exact con_nextS) | (dsimp only; (first | omega | rfl | exact con_nextS)))), trivial⟩, ⟨hB68, (hm51).lo hk66, (hm52).lo hk66, (hm53).lo hk66, (hm54).lo hk66, ?_⟩, ?_⟩
        · exact (z_c_spec_FormatConsole_69 c nc_Library_Maps hbdc_Library_Maps hlec_Library_Maps nc_Library_Away hbdc_Library_Away hlec_Library_Away hp0 h13 hq16 hq17 k hi55 hq58 h59 hx61 hq62 hq63 hq64)
        · exact (z_c_spec_FormatConsole_70 c nc_Library_Maps hbdc_Library_Maps hlec_Library_Maps nc_Library_Away hbdc_Library_Away hlec_Library_Away hp0 h13 hq16 hq17 k hi55 hq58 h59 hx61 hq62 hq63 hq64)
      · refine W.exit (xin_here ?_)
        refine W.seq ?_
        refine W.regD mo (by kernel_rfl) (QR.q' (fun w' hw' => r_mv (v := str _) rfl) <| QR.q' (fun w' hw' => r_cat rfl rfl (by first | omega | (simp only [List.length_append, List.length_cons, List.length_nil, List.length_take, List.length_drop]; omega) | (simp only [List.length_append, List.length_cons, List.length_nil, List.length_take, List.length_drop] at *; omega))) <| QR.q' (fun w' hw' => r_fa fa35_2 rfl) <| QR.q' (fun w' hw' => r_ld (v := .int .i64 c.Library.Bought) sca3 rfl (((hm54).lo hw').cell rfl)) <| QR.call ent21 (fun w' hw' => (c_spec_l1Num w' c.Library.Bought (by omega)).mono fun _ _ h => ⟨h.1, hw'.trans h.2⟩) rfl <| ?_)
        have hq71 : (Lib.itoa c.Library.Bought).length ≤ 21 := itoa_len (n := c.Library.Bought) (by omega) (by omega)
        refine QR.q' (fun w' hw' => r_cat rfl rfl (by first | omega | (simp only [List.length_append, List.length_cons, List.length_nil, List.length_take, List.length_drop]; omega) | (simp only [List.length_append, List.length_cons, List.length_nil, List.length_take, List.length_drop] at *; omega))) <| QR.q' (fun w' hw' => r_cat rfl rfl (by first | omega | (simp only [List.length_append, List.length_cons, List.length_nil, List.length_take, List.length_drop]; omega) | (simp only [List.length_append, List.length_cons, List.length_nil, List.length_take, List.length_drop] at *; omega))) <| QR.q' (fun w' hw' => r_fa fa35_3 rfl) <| QR.q' (fun w' hw' => r_ld (v := .int .i64 c.Library.Dropped) sca3 rfl (((hm54).lo hw').cell rfl)) <| QR.call ent21 (fun w' hw' => (c_spec_l1Num w' c.Library.Dropped (by omega)).mono fun _ _ h => ⟨h.1, hw'.trans h.2⟩) rfl <| ?_
        have hq72 : (Lib.itoa c.Library.Dropped).length ≤ 21 := itoa_len (n := c.Library.Dropped) (by omega) (by omega)
        refine QR.q' (fun w' hw' => r_cat rfl rfl (by first | omega | (simp only [List.length_append, List.length_cons, List.length_nil, List.length_take, List.length_drop]; omega) | (simp only [List.length_append, List.length_cons, List.length_nil, List.length_take, List.length_drop] at *; omega))) <| QR.q' (fun w' hw' => r_cat rfl rfl (by first | omega | (simp only [List.length_append, List.length_cons, List.length_nil, List.length_take, List.length_drop]; omega) | (simp only [List.length_append, List.length_cons, List.length_nil, List.length_take, List.length_drop] at *; omega))) <| QR.q' (fun w' hw' => r_fa fa35_4 rfl) <| QR.q' (fun w' hw' => r_ld (v := .int .i64 c.Library.Mended) sca3 rfl (((hm54).lo hw').cell rfl)) <| QR.call ent21 (fun w' hw' => (c_spec_l1Num w' c.Library.Mended (by omega)).mono fun _ _ h => ⟨h.1, hw'.trans h.2⟩) rfl <| ?_
        have hq73 : (Lib.itoa c.Library.Mended).length ≤ 21 := itoa_len (n := c.Library.Mended) (by omega) (by omega)
        refine QR.q' (fun w' hw' => r_cat rfl rfl (by first | omega | (simp only [List.length_append, List.length_cons, List.length_nil, List.length_take, List.length_drop]; omega) | (simp only [List.length_append, List.length_cons, List.length_nil, List.length_take, List.length_drop] at *; omega))) <| QR.q' (fun w' hw' => r_cat rfl rfl (by first | omega | (simp only [List.length_append, List.length_cons, List.length_nil, List.length_take, List.length_drop]; omega) | (simp only [List.length_append, List.length_cons, List.length_nil, List.length_take, List.length_drop] at *; omega))) <| QR.q' (fun w' hw' => r_fa fa38_1 rfl) <| QR.q' (fun w' hw' => r_fa fa36_2 rfl) <| QR.q' (fun w' hw' => r_ld (v := .int .i64 c.Log.Count) sca3 rfl (((hm51).lo hw').cell2 rfl)) <| QR.call ent21 (fun w' hw' => (c_spec_l1Num w' c.Log.Count (by omega)).mono fun _ _ h => ⟨h.1, hw'.trans h.2⟩) rfl <| ?_
        have hq74 : (Lib.itoa c.Log.Count).length ≤ 21 := itoa_len (n := c.Log.Count) (by omega) (by omega)
        refine QR.q' (fun w' hw' => r_cat rfl rfl (by first | omega | (simp only [List.length_append, List.length_cons, List.length_nil, List.length_take, List.length_drop]; omega) | (simp only [List.length_append, List.length_cons, List.length_nil, List.length_take, List.length_drop] at *; omega))) <| QR.q' (fun w' hw' => r_cat rfl rfl (by first | omega | (simp only [List.length_append, List.length_cons, List.length_nil, List.length_take, List.length_drop]; omega) | (simp only [List.length_append, List.length_cons, List.length_nil, List.length_take, List.length_drop] at *; omega))) <| QR.q' (fun w' hw' => r_as (v := str _) rfl) <| QR.q' (fun w' hw' => r_as (v := .bool true) rfl) <| QR.nil ?_
        intro w75 hk76
        have hz77 := hk76.size
        have hB78 := hB49.lo hk76
        refine W.ret ?_
        refine ret2 rfl (v := str _) (v' := .bool _) rfl rfl ?_
        exact ⟨eR (eT2 (eS (z_c_spec_FormatConsole_79 c nc_Library_Maps hbdc_Library_Maps hlec_Library_Maps nc_Library_Away hbdc_Library_Away hlec_Library_Away hp0 h13 hq16 hq17 k hi55 hq58 h59 hq71 hq72 hq73 hq74)) (eB (z_c_spec_FormatConsole_80 c nc_Library_Maps hbdc_Library_Maps hlec_Library_Maps nc_Library_Away hbdc_Library_Away hlec_Library_Away hp0 h13 hq16 hq17 k hi55 hq58 h59 hq71 hq72 hq73 hq74))), hB78⟩
end Go.Proofs.YtocpdkhahmbaiaaDoor
