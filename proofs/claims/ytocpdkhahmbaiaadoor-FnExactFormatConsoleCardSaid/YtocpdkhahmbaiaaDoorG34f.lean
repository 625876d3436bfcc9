/- Walks, printed by a program of this claim's author. -/
import Derived.Test.YtocpdkhahmbaiaaDoorChecked
import Derived.Test.YtocpdkhahmbaiaaDoorUt
import Derived.Test.YtocpdkhahmbaiaaDoorWb
import Derived.Test.YtocpdkhahmbaiaaDoorFt
import Derived.Test.YtocpdkhahmbaiaaDoorSi
import Derived.Test.YtocpdkhahmbaiaaDoorG34e
namespace Go.Proofs.YtocpdkhahmbaiaaDoor
open Go Go.RowKit Fw
set_option maxRecDepth 10000
set_option linter.unusedVariables false
theorem agg25 : TAgg Tryd.prog 25 5 := ⟨fun _ => by kernel_rfl, fun _ => by kernel_rfl⟩
theorem agg27 : TAgg Tryd.prog 27 3 := ⟨fun _ => by kernel_rfl, fun _ => by kernel_rfl⟩
theorem agg29 : TAgg Tryd.prog 29 8 := ⟨fun _ => by kernel_rfl, fun _ => by kernel_rfl⟩
theorem ent10 : Ent Tryd.prog 10 := ent_of Tryd.func10 (by decide +kernel) rfl
theorem ent11 : Ent Tryd.prog 11 := ent_of Tryd.func11 (by decide +kernel) rfl
theorem ent12 : Ent Tryd.prog 12 := ent_of Tryd.func12 (by decide +kernel) rfl
theorem ent13 : Ent Tryd.prog 13 := ent_of Tryd.func13 (by decide +kernel) rfl
theorem ent15 : Ent Tryd.prog 15 := ent_of Tryd.func15 (by decide +kernel) rfl
theorem ent16 : Ent Tryd.prog 16 := ent_of Tryd.func16 (by decide +kernel) rfl
theorem ent19 : Ent Tryd.prog 19 := ent_of Tryd.func19 (by decide +kernel) rfl
theorem ent20 : Ent Tryd.prog 20 := ent_of Tryd.func20 (by decide +kernel) rfl
theorem ent5 : Ent Tryd.prog 5 := ent_of Tryd.func5 (by decide +kernel) rfl
theorem ent6 : Ent Tryd.prog 6 := ent_of Tryd.func6 (by decide +kernel) rfl
theorem ent7 : Ent Tryd.prog 7 := ent_of Tryd.func7 (by decide +kernel) rfl
theorem ent9 : Ent Tryd.prog 9 := ent_of Tryd.func9 (by decide +kernel) rfl
theorem fa29_0 : FA Tryd.prog 29 0 0 := fun _ _ => by kernel_rfl
theorem fa29_1 : FA Tryd.prog 29 1 5 := fun _ _ => by kernel_rfl
theorem tz38 : TZ Tryd.prog 38 (.agg (List.toArray [.slice none 0 0, .slice none 0 0, .int .i64 0, .int .i64 0, .int .i64 0, str ([] : List UInt8), str ([] : List UInt8), .int .i64 0])) := fun _ => by kernel_rfl
theorem und4 : Tryd.prog.underlying 4 = some (.bool) := by kernel_rfl

theorem z_c_laws_szConsole_14 (r : Console) (nr_Library_Maps : Nat) (hbdr_Library_Maps : (nr_Library_Maps : Int) ≤ 9223372036854775807) (hler_Library_Maps : nr_Library_Maps = r.Library.Maps.length) (nr_Library_Away : Nat) (hbdr_Library_Away : (nr_Library_Away : Int) ≤ 9223372036854775807) (hler_Library_Away : nr_Library_Away = r.Library.Away.length) (left : Int) (hp0 : 0 ≤ left) (hp1 : left ≤ 1048576) (hp2 : (r.Log.Durable.length : Int) ≤ 9223372036854775807 ∧ (r.Log.Pending.length : Int) ≤ 9223372036854775807) (h13 : (szN (r.Library.Maps.length + r.Library.Away.length) left) < 0) : (-1) = szN (r.Library.Maps.length + r.Library.Away.length + r.Log.Durable.length + r.Log.Pending.length) left := by
  (unfold szN at *; repeat (split at *)) <;> omega
theorem z_c_laws_szConsole_22 (r : Console) (nr_Library_Maps : Nat) (hbdr_Library_Maps : (nr_Library_Maps : Int) ≤ 9223372036854775807) (hler_Library_Maps : nr_Library_Maps = r.Library.Maps.length) (nr_Library_Away : Nat) (hbdr_Library_Away : (nr_Library_Away : Int) ≤ 9223372036854775807) (hler_Library_Away : nr_Library_Away = r.Library.Away.length) (left : Int) (hp0 : 0 ≤ left) (hp1 : left ≤ 1048576) (hp2 : (r.Log.Durable.length : Int) ≤ 9223372036854775807 ∧ (r.Log.Pending.length : Int) ≤ 9223372036854775807) (h13 : ¬ ((szN (r.Library.Maps.length + r.Library.Away.length) left) < 0)) (hq15 : ((r.Library.Maps.length + r.Library.Away.length : Nat) : Int) ≤ left ∧ szN (r.Library.Maps.length + r.Library.Away.length) left = left - ((r.Library.Maps.length + r.Library.Away.length : Nat) : Int)) (hq16 : ((r.Library.Maps.length + r.Library.Away.length : Nat) : Int) ≤ left ∧ szN (r.Library.Maps.length + r.Library.Away.length) left = left - ((r.Library.Maps.length + r.Library.Away.length : Nat) : Int)) (h21 : (szN (r.Log.Durable.length + r.Log.Pending.length) (szN (r.Library.Maps.length + r.Library.Away.length) left)) < 0) : (-1) = szN (r.Library.Maps.length + r.Library.Away.length + r.Log.Durable.length + r.Log.Pending.length) left := by
  (unfold szN at *; repeat (split at *)) <;> omega
theorem z_c_laws_szConsole_25 (r : Console) (nr_Library_Maps : Nat) (hbdr_Library_Maps : (nr_Library_Maps : Int) ≤ 9223372036854775807) (hler_Library_Maps : nr_Library_Maps = r.Library.Maps.length) (nr_Library_Away : Nat) (hbdr_Library_Away : (nr_Library_Away : Int) ≤ 9223372036854775807) (hler_Library_Away : nr_Library_Away = r.Library.Away.length) (left : Int) (hp0 : 0 ≤ left) (hp1 : left ≤ 1048576) (hp2 : (r.Log.Durable.length : Int) ≤ 9223372036854775807 ∧ (r.Log.Pending.length : Int) ≤ 9223372036854775807) (h13 : ¬ ((szN (r.Library.Maps.length + r.Library.Away.length) left) < 0)) (hq15 : ((r.Library.Maps.length + r.Library.Away.length : Nat) : Int) ≤ left ∧ szN (r.Library.Maps.length + r.Library.Away.length) left = left - ((r.Library.Maps.length + r.Library.Away.length : Nat) : Int)) (hq16 : ((r.Library.Maps.length + r.Library.Away.length : Nat) : Int) ≤ left ∧ szN (r.Library.Maps.length + r.Library.Away.length) left = left - ((r.Library.Maps.length + r.Library.Away.length : Nat) : Int)) (h21 : ¬ ((szN (r.Log.Durable.length + r.Log.Pending.length) (szN (r.Library.Maps.length + r.Library.Away.length) left)) < 0)) (hq23 : ((r.Log.Durable.length + r.Log.Pending.length : Nat) : Int) ≤ (szN (r.Library.Maps.length + r.Library.Away.length) left) ∧ szN (r.Log.Durable.length + r.Log.Pending.length) (szN (r.Library.Maps.length + r.Library.Away.length) left) = (szN (r.Library.Maps.length + r.Library.Away.length) left) - ((r.Log.Durable.length + r.Log.Pending.length : Nat) : Int)) (hq24 : ((r.Log.Durable.length + r.Log.Pending.length : Nat) : Int) ≤ (szN (r.Library.Maps.length + r.Library.Away.length) left) ∧ szN (r.Log.Durable.length + r.Log.Pending.length) (szN (r.Library.Maps.length + r.Library.Away.length) left) = (szN (r.Library.Maps.length + r.Library.Away.length) left) - ((r.Log.Durable.length + r.Log.Pending.length : Nat) : Int)) : szN (r.Log.Durable.length + r.Log.Pending.length) (szN (r.Library.Maps.length + r.Library.Away.length) left) = szN (r.Library.Maps.length + r.Library.Away.length + r.Log.Durable.length + r.Log.Pending.length) left := by
  (unfold szN at *; repeat (split at *)) <;> omega
theorem c_laws_szConsole (w : World) (r : Console) {Ar_Library_Maps : Option Addr} {nr_Library_Maps cr_Library_Maps Br_Library_Maps : Nat} (hr_Library_Maps : SlR w Br_Library_Maps encLMap 3 Ar_Library_Maps nr_Library_Maps cr_Library_Maps r.Library.Maps) {Ar_Library_Away : Option Addr} {nr_Library_Away cr_Library_Away Br_Library_Away : Nat} (hr_Library_Away : SlR w Br_Library_Away encAway 2 Ar_Library_Away nr_Library_Away cr_Library_Away r.Library.Away) (left : Int) (hp0 : 0 ≤ left) (hp1 : left ≤ 1048576) (hp2 : (r.Log.Durable.length : Int) ≤ 9223372036854775807 ∧ (r.Log.Pending.length : Int) ≤ 9223372036854775807) : Calls Tryd.prog 5 #[.agg (List.toArray [.slice Ar_Library_Maps nr_Library_Maps cr_Library_Maps, .slice Ar_Library_Away nr_Library_Away cr_Library_Away, .int .i64 r.Library.Bought, .int .i64 r.Library.Dropped, .int .i64 r.Library.Mended, str r.Log.Durable, str r.Log.Pending, .int .i64 r.Log.Count]), .int .i64 left] w fun e w' => e = .returned (.int .i64 (szN (r.Library.Maps.length + r.Library.Away.length + r.Log.Durable.length + r.Log.Pending.length) left)) ∧ Lo w w' := by
  refine calls_W 18 Tryd.func5 rfl rfl rfl ?_
  have hbdr_Library_Maps := hr_Library_Maps.bound
  have hler_Library_Maps := hr_Library_Maps.len
  have hBbr_Library_Maps := hr_Library_Maps.bd
  have hbdr_Library_Away := hr_Library_Away.bound
  have hler_Library_Away := hr_Library_Away.len
  have hBbr_Library_Away := hr_Library_Away.bd
  refine W.seq ?_
  refine W.regS (SR.box (v := .agg (List.toArray _)) (l := [.slice Ar_Library_Maps nr_Library_Maps cr_Library_Maps, .slice Ar_Library_Away nr_Library_Away cr_Library_Away, .int .i64 r.Library.Bought, .int .i64 r.Library.Dropped, .int .i64 r.Library.Mended, str r.Log.Durable, str r.Log.Pending, .int .i64 r.Log.Count]) rfl rfl ?_)
  intro g1 w2 hg3 hk4 hs5 hb6
  have hz7 := hk4.size
  have hB8 := (Lo.refl w).lo hk4
  refine SR.q' (r_as (v := .int .i64 0) rfl) <| SR.nil ?_
  refine W.seq ?_
  refine W.regS (SR.q' (r_fa fa29_0 rfl) <| SR.q' (r_lda (l := [.slice Ar_Library_Maps nr_Library_Maps cr_Library_Maps, .slice Ar_Library_Away nr_Library_Away cr_Library_Away, .int .i64 r.Library.Bought, .int .i64 r.Library.Dropped, .int .i64 r.Library.Mended]) agg25 rfl (fun _ _ hu => (hb6).cells (vs := [.slice Ar_Library_Maps nr_Library_Maps cr_Library_Maps, .slice Ar_Library_Away nr_Library_Away cr_Library_Away, .int .i64 r.Library.Bought, .int .i64 r.Library.Dropped, .int .i64 r.Library.Mended]) rfl hu) rfl) <| SR.q' (r_mv (v := .int .i64 _) rfl) <| SR.call ent12 (c_laws_szLibrary w2 r.Library (((hr_Library_Maps).lo hk4)) (((hr_Library_Away).lo hk4)) left (by omega) (by omega)) rfl ?_)
  rintro e w9 ⟨rfl, hk10⟩
  refine ⟨_, rfl, ?_⟩
  have hz11 := hk10.size
  have hB12 := hB8.lo hk10
  refine SR.q' (r_as (v := .int .i64 _) rfl) <| SR.nil ?_
  refine W.seq ?_
  refine W.seq ?_
  refine W.regS (SR.q' (r_mv (v := .int .i64 _) rfl) <| SR.q' (r_lt rfl rfl) <| SR.nil ?_)
  refine W.cond_d rfl (fun h13 => ?_) (fun h13 => ?_)
  · refine W.seq ?_
    refine W.regS (SR.q' (r_as (v := .int .i64 (-1)) rfl) <| SR.nil ?_)
    refine W.ret ?_
    refine ret1 rfl (v := .int .i64 _) rfl ?_
    exact ⟨eR (eI (z_c_laws_szConsole_14 r nr_Library_Maps hbdr_Library_Maps hler_Library_Maps nr_Library_Away hbdr_Library_Away hler_Library_Away left hp0 hp1 hp2 h13)), hB12⟩
  · have hq15 := szN_ok h13
    have hq16 := szN_ok h13
    refine W.skip ?_
    refine W.seq ?_
    refine W.regS (SR.q' (r_fa fa29_1 rfl) <| SR.q' (r_lda (l := [str r.Log.Durable, str r.Log.Pending, .int .i64 r.Log.Count]) agg27 rfl (fun _ _ hu => ((hb6).lo hk10).cells (vs := [str r.Log.Durable, str r.Log.Pending, .int .i64 r.Log.Count]) rfl hu) rfl) <| SR.q' (r_mv (v := .int .i64 _) rfl) <| SR.call ent13 (c_laws_szLog w9 r.Log (szN (r.Library.Maps.length + r.Library.Away.length) left) (by omega) (by omega) (by omega) (by omega)) rfl ?_)
    rintro e w17 ⟨rfl, hk18⟩
    refine ⟨_, rfl, ?_⟩
    have hz19 := hk18.size
    have hB20 := hB12.lo hk18
    refine SR.q' (r_as (v := .int .i64 _) rfl) <| SR.nil ?_
    refine W.seq ?_
    refine W.seq ?_
    refine W.regS (SR.q' (r_mv (v := .int .i64 _) rfl) <| SR.q' (r_lt rfl rfl) <| SR.nil ?_)
    refine W.cond_d rfl (fun h21 => ?_) (fun h21 => ?_)
    · refine W.seq ?_
      refine W.regS (SR.q' (r_as (v := .int .i64 (-1)) rfl) <| SR.nil ?_)
      refine W.ret ?_
      refine ret1 rfl (v := .int .i64 _) rfl ?_
      exact ⟨eR (eI (z_c_laws_szConsole_22 r nr_Library_Maps hbdr_Library_Maps hler_Library_Maps nr_Library_Away hbdr_Library_Away hler_Library_Away left hp0 hp1 hp2 h13 hq15 hq16 h21)), hB20⟩
    · have hq23 := szN_ok h21
      have hq24 := szN_ok h21
      refine W.skip ?_
      refine W.seq ?_
      refine W.regS (SR.q' (r_mv (v := .int .i64 _) rfl) <| SR.q' (r_as (v := .int .i64 _) rfl) <| SR.nil ?_)
      refine W.ret ?_
      refine ret1 rfl (v := .int .i64 _) rfl ?_
      exact ⟨eR (eI (z_c_laws_szConsole_25 r nr_Library_Maps hbdr_Library_Maps hler_Library_Maps nr_Library_Away hbdr_Library_Away hler_Library_Away left hp0 hp1 hp2 h13 hq15 hq16 h21 hq23 hq24)), hB20⟩

theorem c_laws_toConsole (w : World) (r : Console) {Ar_Library_Maps : Option Addr} {nr_Library_Maps cr_Library_Maps Br_Library_Maps : Nat} (hr_Library_Maps : SlR w Br_Library_Maps encLMap 3 Ar_Library_Maps nr_Library_Maps cr_Library_Maps r.Library.Maps) {Ar_Library_Away : Option Addr} {nr_Library_Away cr_Library_Away Br_Library_Away : Nat} (hr_Library_Away : SlR w Br_Library_Away encAway 2 Ar_Library_Away nr_Library_Away cr_Library_Away r.Library.Away) (hp0 : (nr_Library_Maps : Int) ≤ 1048576) (hp1 : (nr_Library_Away : Int) ≤ 1048576) : Calls Tryd.prog 7 #[.agg (List.toArray [.slice Ar_Library_Maps nr_Library_Maps cr_Library_Maps, .slice Ar_Library_Away nr_Library_Away cr_Library_Away, .int .i64 r.Library.Bought, .int .i64 r.Library.Dropped, .int .i64 r.Library.Mended, str r.Log.Durable, str r.Log.Pending, .int .i64 r.Log.Count])] w fun e w' => ∃ (A1' : Option Addr) (n1' c1' : Nat) (A2' : Option Addr) (n2' c2' : Nat), e = .returned (.agg (List.toArray [.slice A1' n1' c1', .slice A2' n2' c2', .int .i64 r.Library.Bought, .int .i64 r.Library.Dropped, .int .i64 r.Library.Mended, str r.Log.Durable, str r.Log.Pending, .int .i64 r.Log.Count])) ∧ SlO w' w.heap.size encLMap 3 54 A1' n1' c1' r.Library.Maps ∧ SlO w' w.heap.size encAway 2 64 A2' n2' c2' r.Library.Away ∧ (∀ b_, A1' = some ⟨b_, 0, none⟩ → ¬ A2' = some ⟨b_, 0, none⟩) ∧ Lo w w' := by
  refine calls_W 13 Tryd.func7 rfl rfl rfl ?_
  have hbdr_Library_Maps := hr_Library_Maps.bound
  have hler_Library_Maps := hr_Library_Maps.len
  have hBbr_Library_Maps := hr_Library_Maps.bd
  have hbdr_Library_Away := hr_Library_Away.bound
  have hler_Library_Away := hr_Library_Away.len
  have hBbr_Library_Away := hr_Library_Away.bd
  refine W.seq ?_
  refine W.regS (SR.box (v := .agg (List.toArray _)) (l := [.slice Ar_Library_Maps nr_Library_Maps cr_Library_Maps, .slice Ar_Library_Away nr_Library_Away cr_Library_Away, .int .i64 r.Library.Bought, .int .i64 r.Library.Dropped, .int .i64 r.Library.Mended, str r.Log.Durable, str r.Log.Pending, .int .i64 r.Log.Count]) rfl rfl ?_)
  intro g1 w2 hg3 hk4 hs5 hb6
  have hz7 := hk4.size
  have hB8 := (Lo.refl w).lo hk4
  refine SR.alloc (l := [.slice none 0 0, .slice none 0 0, .int .i64 0, .int .i64 0, .int .i64 0, str ([] : List UInt8), str ([] : List UInt8), .int .i64 0]) tz38 rfl ?_
  intro g9 w10 hg11 hk12 hs13 hb14
  have hz15 := hk12.size
  have hB16 := hB8.lo hk12
  refine SR.nil ?_
  refine W.seq ?_
  refine W.regS (SR.alloc (l := [.slice none 0 0, .slice none 0 0, .int .i64 0, .int .i64 0, .int .i64 0, str ([] : List UInt8), str ([] : List UInt8), .int .i64 0]) tz38 rfl ?_)
  intro g17 w18 hg19 hk20 hs21 hb22
  have hz23 := hk20.size
  have hB24 := hB16.lo hk20
  refine SR.nil ?_
  refine W.seq ?_
  refine W.regS (SR.q' (r_fa fa29_0 rfl) <| SR.q' (r_lda (l := [.slice Ar_Library_Maps nr_Library_Maps cr_Library_Maps, .slice Ar_Library_Away nr_Library_Away cr_Library_Away, .int .i64 r.Library.Bought, .int .i64 r.Library.Dropped, .int .i64 r.Library.Mended]) agg25 rfl (fun _ _ hu => (((hb6).lo hk12).lo hk20).cells (vs := [.slice Ar_Library_Maps nr_Library_Maps cr_Library_Maps, .slice Ar_Library_Away nr_Library_Away cr_Library_Away, .int .i64 r.Library.Bought, .int .i64 r.Library.Dropped, .int .i64 r.Library.Mended]) rfl hu) rfl) <| SR.call ent15 (c_laws_toLibrary w18 r.Library (((((hr_Library_Maps).lo hk4).lo hk12).lo hk20)) (((((hr_Library_Away).lo hk4).lo hk12).lo hk20)) (by omega) (by omega)) rfl ?_)
  rintro e w25 ⟨A27, n28, c29, A31, n32, c33, rfl, hO30, hO34, hd35, hk26⟩
  refine ⟨_, rfl, ?_⟩
  have hz36 := hk26.size
  have hB37 := hB24.lo hk26
  have hl38 := hO30.len
  have hl39 := hO30.rd.bound
  have hl40 := hO34.len
  have hl41 := hO34.rd.bound
  refine SR.q' (r_fa fa38_0 rfl) <| SR.store (o := 0) (vs := [.slice A27 n28 c29, .slice A31 n32 c33, .int .i64 r.Library.Bought, .int .i64 r.Library.Dropped, .int .i64 r.Library.Mended]) agg35.2 rfl rfl rfl rfl ((hb22).lo hk26) (Nat.le_of_ble_eq_true rfl) rfl ?_
  intro w42 hk43 hs44 hb45
  have hz46 := hk43.size
  have hB47 := hB37.new hk43 (by omega)
  refine SR.nil ?_
  refine W.seq ?_
  refine W.regS (SR.q' (r_fa fa29_1 rfl) <| SR.q' (r_lda (l := [str r.Log.Durable, str r.Log.Pending, .int .i64 r.Log.Count]) agg27 rfl (fun _ _ hu => (((((hb6).lo hk12).lo hk20).lo hk26).kp hk43 (fun e' => by have e'' : g1 = g17 := e'; omega)).cells (vs := [str r.Log.Durable, str r.Log.Pending, .int .i64 r.Log.Count]) rfl hu) rfl) <| SR.call ent16 (c_laws_toLog w42 r.Log) rfl ?_)
  rintro e w48 ⟨rfl, hk49⟩
  refine ⟨_, rfl, ?_⟩
  have hz50 := hk49.size
  have hB51 := hB47.lo hk49
  refine SR.q' (r_fa fa38_1 rfl) <| SR.store (o := 5) (vs := [str r.Log.Durable, str r.Log.Pending, .int .i64 r.Log.Count]) agg36.2 rfl rfl rfl rfl ((hb45).lo hk49) (Nat.le_of_ble_eq_true rfl) rfl ?_
  intro w52 hk53 hs54 hb55
  have hz56 := hk53.size
  have hB57 := hB51.new hk53 (by omega)
  refine SR.nil ?_
  refine W.seq ?_
  refine W.regS (SR.q' (r_lda (l := [.slice A27 n28 c29, .slice A31 n32 c33, .int .i64 r.Library.Bought, .int .i64 r.Library.Dropped, .int .i64 r.Library.Mended, str r.Log.Durable, str r.Log.Pending, .int .i64 r.Log.Count]) agg38 rfl (fun _ _ hu => (hb55).cell hu) rfl) <| SR.store (o := 0) (vs := [.slice A27 n28 c29, .slice A31 n32 c33, .int .i64 r.Library.Bought, .int .i64 r.Library.Dropped, .int .i64 r.Library.Mended, str r.Log.Durable, str r.Log.Pending, .int .i64 r.Log.Count]) agg38.2 rfl rfl rfl rfl ((((((hb14).lo hk20).lo hk26).kp hk43 (fun e' => by have e'' : g9 = g17 := e'; omega)).lo hk49).kp hk53 (fun e' => by have e'' : g9 = g17 := e'; omega)) (Nat.le_of_ble_eq_true rfl) rfl ?_)
  intro w58 hk59 hs60 hb61
  have hz62 := hk59.size
  have hB63 := hB57.new hk59 (by omega)
  refine SR.nil ?_
  refine W.ret ?_
  refine retC rfl rfl agg38 (hb61) rfl ?_
  exact ⟨A27, n28, c29, A31, n32, c33, eR rfl, ((((((hO30).kp hk43 (fun b_ hb e' => by have e'' : b_ = g17 := e'; have := (hO30).base_le hb; omega)).lo hk49).kp hk53 (fun b_ hb e' => by have e'' : b_ = g17 := e'; have := (((hO30).kp hk43 (fun b_ hb e' => by have e'' : b_ = g17 := e'; have := (hO30).base_le hb; omega)).lo hk49).base_le hb; omega)).kp hk59 (fun b_ hb e' => by have e'' : b_ = g9 := e'; have := ((((hO30).kp hk43 (fun b_ hb e' => by have e'' : b_ = g17 := e'; have := (hO30).base_le hb; omega)).lo hk49).kp hk53 (fun b_ hb e' => by have e'' : b_ = g17 := e'; have := (((hO30).kp hk43 (fun b_ hb e' => by have e'' : b_ = g17 := e'; have := (hO30).base_le hb; omega)).lo hk49).base_le hb; omega)).base_le hb; omega)).down (by omega)), ((((((hO34).kp hk43 (fun b_ hb e' => by have e'' : b_ = g17 := e'; have := (hO34).base_le hb; omega)).lo hk49).kp hk53 (fun b_ hb e' => by have e'' : b_ = g17 := e'; have := (((hO34).kp hk43 (fun b_ hb e' => by have e'' : b_ = g17 := e'; have := (hO34).base_le hb; omega)).lo hk49).base_le hb; omega)).kp hk59 (fun b_ hb e' => by have e'' : b_ = g9 := e'; have := ((((hO34).kp hk43 (fun b_ hb e' => by have e'' : b_ = g17 := e'; have := (hO34).base_le hb; omega)).lo hk49).kp hk53 (fun b_ hb e' => by have e'' : b_ = g17 := e'; have := (((hO34).kp hk43 (fun b_ hb e' => by have e'' : b_ = g17 := e'; have := (hO34).base_le hb; omega)).lo hk49).base_le hb; omega)).base_le hb; omega)).down (by omega)), hd35, hB63⟩

theorem z_c_laws_eqConsole_22 (a : Console) (na_Library_Maps : Nat) (hbda_Library_Maps : (na_Library_Maps : Int) ≤ 9223372036854775807) (hlea_Library_Maps : na_Library_Maps = a.Library.Maps.length) (na_Library_Away : Nat) (hbda_Library_Away : (na_Library_Away : Int) ≤ 9223372036854775807) (hlea_Library_Away : na_Library_Away = a.Library.Away.length) (b : Console) (nb_Library_Maps : Nat) (hbdb_Library_Maps : (nb_Library_Maps : Int) ≤ 9223372036854775807) (hleb_Library_Maps : nb_Library_Maps = b.Library.Maps.length) (nb_Library_Away : Nat) (hbdb_Library_Away : (nb_Library_Away : Int) ≤ 9223372036854775807) (hleb_Library_Away : nb_Library_Away = b.Library.Away.length) (h21 : ¬ (a.Library = b.Library)) : ¬ (a = b) := by
  cases a; cases b; simp_all
theorem z_c_laws_eqConsole_28 (a : Console) (na_Library_Maps : Nat) (hbda_Library_Maps : (na_Library_Maps : Int) ≤ 9223372036854775807) (hlea_Library_Maps : na_Library_Maps = a.Library.Maps.length) (na_Library_Away : Nat) (hbda_Library_Away : (na_Library_Away : Int) ≤ 9223372036854775807) (hlea_Library_Away : na_Library_Away = a.Library.Away.length) (b : Console) (nb_Library_Maps : Nat) (hbdb_Library_Maps : (nb_Library_Maps : Int) ≤ 9223372036854775807) (hleb_Library_Maps : nb_Library_Maps = b.Library.Maps.length) (nb_Library_Away : Nat) (hbdb_Library_Away : (nb_Library_Away : Int) ≤ 9223372036854775807) (hleb_Library_Away : nb_Library_Away = b.Library.Away.length) (h21 : a.Library = b.Library) (h27 : ¬ (a.Log = b.Log)) : ¬ (a = b) := by
  cases a; cases b; simp_all
theorem z_c_laws_eqConsole_29 (a : Console) (na_Library_Maps : Nat) (hbda_Library_Maps : (na_Library_Maps : Int) ≤ 9223372036854775807) (hlea_Library_Maps : na_Library_Maps = a.Library.Maps.length) (na_Library_Away : Nat) (hbda_Library_Away : (na_Library_Away : Int) ≤ 9223372036854775807) (hlea_Library_Away : na_Library_Away = a.Library.Away.length) (b : Console) (nb_Library_Maps : Nat) (hbdb_Library_Maps : (nb_Library_Maps : Int) ≤ 9223372036854775807) (hleb_Library_Maps : nb_Library_Maps = b.Library.Maps.length) (nb_Library_Away : Nat) (hbdb_Library_Away : (nb_Library_Away : Int) ≤ 9223372036854775807) (hleb_Library_Away : nb_Library_Away = b.Library.Away.length) (h21 : a.Library = b.Library) (h27 : a.Log = b.Log) : a = b := by
  cases a; cases b; simp_all
theorem c_laws_eqConsole (w : World) (a : Console) {Aa_Library_Maps : Option Addr} {na_Library_Maps ca_Library_Maps Ba_Library_Maps : Nat} (ha_Library_Maps : SlR w Ba_Library_Maps encLMap 3 Aa_Library_Maps na_Library_Maps ca_Library_Maps a.Library.Maps) {Aa_Library_Away : Option Addr} {na_Library_Away ca_Library_Away Ba_Library_Away : Nat} (ha_Library_Away : SlR w Ba_Library_Away encAway 2 Aa_Library_Away na_Library_Away ca_Library_Away a.Library.Away) (b : Console) {Ab_Library_Maps : Option Addr} {nb_Library_Maps cb_Library_Maps Bb_Library_Maps : Nat} (hb_Library_Maps : SlR w Bb_Library_Maps encLMap 3 Ab_Library_Maps nb_Library_Maps cb_Library_Maps b.Library.Maps) {Ab_Library_Away : Option Addr} {nb_Library_Away cb_Library_Away Bb_Library_Away : Nat} (hb_Library_Away : SlR w Bb_Library_Away encAway 2 Ab_Library_Away nb_Library_Away cb_Library_Away b.Library.Away) : Calls Tryd.prog 9 #[.agg (List.toArray [.slice Aa_Library_Maps na_Library_Maps ca_Library_Maps, .slice Aa_Library_Away na_Library_Away ca_Library_Away, .int .i64 a.Library.Bought, .int .i64 a.Library.Dropped, .int .i64 a.Library.Mended, str a.Log.Durable, str a.Log.Pending, .int .i64 a.Log.Count]), .agg (List.toArray [.slice Ab_Library_Maps nb_Library_Maps cb_Library_Maps, .slice Ab_Library_Away nb_Library_Away cb_Library_Away, .int .i64 b.Library.Bought, .int .i64 b.Library.Dropped, .int .i64 b.Library.Mended, str b.Log.Durable, str b.Log.Pending, .int .i64 b.Log.Count])] w fun e w' => e = .returned (.bool (decide (a = b))) ∧ Lo w w' := by
  refine calls_W 17 Tryd.func9 rfl rfl rfl ?_
  have hbda_Library_Maps := ha_Library_Maps.bound
  have hlea_Library_Maps := ha_Library_Maps.len
  have hBba_Library_Maps := ha_Library_Maps.bd
  have hbda_Library_Away := ha_Library_Away.bound
  have hlea_Library_Away := ha_Library_Away.len
  have hBba_Library_Away := ha_Library_Away.bd
  have hbdb_Library_Maps := hb_Library_Maps.bound
  have hleb_Library_Maps := hb_Library_Maps.len
  have hBbb_Library_Maps := hb_Library_Maps.bd
  have hbdb_Library_Away := hb_Library_Away.bound
  have hleb_Library_Away := hb_Library_Away.len
  have hBbb_Library_Away := hb_Library_Away.bd
  refine W.seq ?_
  refine W.regS (SR.box (v := .agg (List.toArray _)) (l := [.slice Aa_Library_Maps na_Library_Maps ca_Library_Maps, .slice Aa_Library_Away na_Library_Away ca_Library_Away, .int .i64 a.Library.Bought, .int .i64 a.Library.Dropped, .int .i64 a.Library.Mended, str a.Log.Durable, str a.Log.Pending, .int .i64 a.Log.Count]) rfl rfl ?_)
  intro g1 w2 hg3 hk4 hs5 hb6
  have hz7 := hk4.size
  have hB8 := (Lo.refl w).lo hk4
  refine SR.box (v := .agg (List.toArray _)) (l := [.slice Ab_Library_Maps nb_Library_Maps cb_Library_Maps, .slice Ab_Library_Away nb_Library_Away cb_Library_Away, .int .i64 b.Library.Bought, .int .i64 b.Library.Dropped, .int .i64 b.Library.Mended, str b.Log.Durable, str b.Log.Pending, .int .i64 b.Log.Count]) rfl rfl ?_
  intro g9 w10 hg11 hk12 hs13 hb14
  have hz15 := hk12.size
  have hB16 := hB8.lo hk12
  refine SR.q' (r_as (v := .bool false) rfl) <| SR.nil ?_
  refine W.seq ?_
  refine W.seq ?_
  refine W.regS (SR.q' (r_fa fa38_0 rfl) <| SR.q' (r_lda (l := [.slice Aa_Library_Maps na_Library_Maps ca_Library_Maps, .slice Aa_Library_Away na_Library_Away ca_Library_Away, .int .i64 a.Library.Bought, .int .i64 a.Library.Dropped, .int .i64 a.Library.Mended]) agg35 rfl (fun _ _ hu => ((hb6).lo hk12).cells (vs := [.slice Aa_Library_Maps na_Library_Maps ca_Library_Maps, .slice Aa_Library_Away na_Library_Away ca_Library_Away, .int .i64 a.Library.Bought, .int .i64 a.Library.Dropped, .int .i64 a.Library.Mended]) rfl hu) rfl) <| SR.q' (r_fa fa38_0 rfl) <| SR.q' (r_lda (l := [.slice Ab_Library_Maps nb_Library_Maps cb_Library_Maps, .slice Ab_Library_Away nb_Library_Away cb_Library_Away, .int .i64 b.Library.Bought, .int .i64 b.Library.Dropped, .int .i64 b.Library.Mended]) agg35 rfl (fun _ _ hu => (hb14).cells (vs := [.slice Ab_Library_Maps nb_Library_Maps cb_Library_Maps, .slice Ab_Library_Away nb_Library_Away cb_Library_Away, .int .i64 b.Library.Bought, .int .i64 b.Library.Dropped, .int .i64 b.Library.Mended]) rfl hu) rfl) <| SR.call ent19 (c_laws_eqLibrary w10 a.Library ((((ha_Library_Maps).lo hk4).lo hk12)) ((((ha_Library_Away).lo hk4).lo hk12)) b.Library ((((hb_Library_Maps).lo hk4).lo hk12)) ((((hb_Library_Away).lo hk4).lo hk12))) rfl ?_)
  rintro e w17 ⟨rfl, hk18⟩
  refine ⟨_, rfl, ?_⟩
  have hz19 := hk18.size
  have hB20 := hB16.lo hk18
  refine SR.q' (r_not rfl) <| SR.nil ?_
  refine W.cond_n rfl (fun h21 => ?_) (fun h21 => ?_)
  · refine W.seq ?_
    refine W.regS (SR.q' (r_as (v := .bool false) rfl) <| SR.nil ?_)
    refine W.ret ?_
    refine ret1 rfl (v := .bool _) rfl ?_
    exact ⟨eR (eDF (z_c_laws_eqConsole_22 a na_Library_Maps hbda_Library_Maps hlea_Library_Maps na_Library_Away hbda_Library_Away hlea_Library_Away b nb_Library_Maps hbdb_Library_Maps hleb_Library_Maps nb_Library_Away hbdb_Library_Away hleb_Library_Away h21)), hB20⟩
  · refine W.skip ?_
    refine W.seq ?_
    refine W.seq ?_
    refine W.regS (SR.q' (r_fa fa38_1 rfl) <| SR.q' (r_lda (l := [str a.Log.Durable, str a.Log.Pending, .int .i64 a.Log.Count]) agg36 rfl (fun _ _ hu => (((hb6).lo hk12).lo hk18).cells (vs := [str a.Log.Durable, str a.Log.Pending, .int .i64 a.Log.Count]) rfl hu) rfl) <| SR.q' (r_fa fa38_1 rfl) <| SR.q' (r_lda (l := [str b.Log.Durable, str b.Log.Pending, .int .i64 b.Log.Count]) agg36 rfl (fun _ _ hu => ((hb14).lo hk18).cells (vs := [str b.Log.Durable, str b.Log.Pending, .int .i64 b.Log.Count]) rfl hu) rfl) <| SR.call ent20 (c_laws_eqLog w17 a.Log b.Log) rfl ?_)
    rintro e w23 ⟨rfl, hk24⟩
    refine ⟨_, rfl, ?_⟩
    have hz25 := hk24.size
    have hB26 := hB20.lo hk24
    refine SR.q' (r_not rfl) <| SR.nil ?_
    refine W.cond_n rfl (fun h27 => ?_) (fun h27 => ?_)
    · refine W.seq ?_
      refine W.regS (SR.q' (r_as (v := .bool false) rfl) <| SR.nil ?_)
      refine W.ret ?_
      refine ret1 rfl (v := .bool _) rfl ?_
      exact ⟨eR (eDF (z_c_laws_eqConsole_28 a na_Library_Maps hbda_Library_Maps hlea_Library_Maps na_Library_Away hbda_Library_Away hlea_Library_Away b nb_Library_Maps hbdb_Library_Maps hleb_Library_Maps nb_Library_Away hbdb_Library_Away hleb_Library_Away h21 h27)), hB26⟩
    · refine W.skip ?_
      refine W.seq ?_
      refine W.regS (SR.q' (r_as (v := .bool true) rfl) <| SR.nil ?_)
      refine W.ret ?_
      refine ret1 rfl (v := .bool _) rfl ?_
      exact ⟨eR (eDT (z_c_laws_eqConsole_29 a na_Library_Maps hbda_Library_Maps hlea_Library_Maps na_Library_Away hbda_Library_Away hlea_Library_Away b nb_Library_Maps hbdb_Library_Maps hleb_Library_Maps nb_Library_Away hbdb_Library_Away hleb_Library_Away h21 h27)), hB26⟩

theorem z_c_laws_FnExactIsValidConsole_119 (c : Console) (nc_Library_Maps : Nat) (hbdc_Library_Maps : (nc_Library_Maps : Int) ≤ 9223372036854775807) (hlec_Library_Maps : nc_Library_Maps = c.Library.Maps.length) (nc_Library_Away : Nat) (hbdc_Library_Away : (nc_Library_Away : Int) ≤ 9223372036854775807) (hlec_Library_Away : nc_Library_Away = c.Library.Away.length) (hp0 : (c.Log.Durable.length : Int) ≤ 9223372036854775807 ∧ (c.Log.Pending.length : Int) ≤ 9223372036854775807) (h15 : ¬ ((szN (c.Library.Maps.length + c.Library.Away.length + c.Log.Durable.length + c.Log.Pending.length) 1048576) < 0)) (hq16 : ((c.Library.Maps.length + c.Library.Away.length + c.Log.Durable.length + c.Log.Pending.length : Nat) : Int) ≤ 1048576 ∧ szN (c.Library.Maps.length + c.Library.Away.length + c.Log.Durable.length + c.Log.Pending.length) 1048576 = 1048576 - ((c.Library.Maps.length + c.Library.Away.length + c.Log.Durable.length + c.Log.Pending.length : Nat) : Int)) (n20 : Nat) (hl30 : n20 = (c.Library.Maps).length) (hl31 : (n20 : Int) ≤ 9223372036854775807) (n24 : Nat) (hl32 : n24 = (c.Library.Away).length) (hl33 : (n24 : Int) ≤ 9223372036854775807) (n44 : Nat) (hl54 : n44 = (c.Library.Maps).length) (hl55 : (n44 : Int) ≤ 9223372036854775807) (n48 : Nat) (hl56 : n48 = (c.Library.Away).length) (hl57 : (n48 : Int) ≤ 9223372036854775807) (n92 : Nat) (n96 : Nat) (hl103 : n92 = (c.Library.Maps).length) (hl104 : (n92 : Int) ≤ 9223372036854775807) (hl105 : n96 = (c.Library.Away).length) (hl106 : (n96 : Int) ≤ 9223372036854775807) (h118 : ¬ (c = c)) : false = true := by
  first | (simp_all; done) | omega | (simp at *; omega)
theorem c_laws_FnExactIsValidConsole (w : World) (c : Console) {Ac_Library_Maps : Option Addr} {nc_Library_Maps cc_Library_Maps Bc_Library_Maps : Nat} (hc_Library_Maps : SlR w Bc_Library_Maps encLMap 3 Ac_Library_Maps nc_Library_Maps cc_Library_Maps c.Library.Maps) {Ac_Library_Away : Option Addr} {nc_Library_Away cc_Library_Away Bc_Library_Away : Nat} (hc_Library_Away : SlR w Bc_Library_Away encAway 2 Ac_Library_Away nc_Library_Away cc_Library_Away c.Library.Away) (hp0 : (c.Log.Durable.length : Int) ≤ 9223372036854775807 ∧ (c.Log.Pending.length : Int) ≤ 9223372036854775807) (hE : EnvW w) : Calls Tryd.prog 3 #[.agg (List.toArray [.slice Ac_Library_Maps nc_Library_Maps cc_Library_Maps, .slice Ac_Library_Away nc_Library_Away cc_Library_Away, .int .i64 c.Library.Bought, .int .i64 c.Library.Dropped, .int .i64 c.Library.Mended, str c.Log.Durable, str c.Log.Pending, .int .i64 c.Log.Count])] w fun e w' => e = .returned (.bool true) ∧ Lo w w' := by
  refine calls_W 27 Tryd.func3 rfl rfl rfl ?_
  have hbdc_Library_Maps := hc_Library_Maps.bound
  have hlec_Library_Maps := hc_Library_Maps.len
  have hBbc_Library_Maps := hc_Library_Maps.bd
  have hbdc_Library_Away := hc_Library_Away.bound
  have hlec_Library_Away := hc_Library_Away.len
  have hBbc_Library_Away := hc_Library_Away.bd
  refine W.seq ?_
  refine W.regS (SR.box (v := .agg (List.toArray _)) (l := [.slice Ac_Library_Maps nc_Library_Maps cc_Library_Maps, .slice Ac_Library_Away nc_Library_Away cc_Library_Away, .int .i64 c.Library.Bought, .int .i64 c.Library.Dropped, .int .i64 c.Library.Mended, str c.Log.Durable, str c.Log.Pending, .int .i64 c.Log.Count]) rfl rfl ?_)
  intro g1 w2 hg3 hk4 hs5 hb6
  have hz7 := hk4.size
  have hB8 := (Lo.refl w).lo hk4
  refine SR.q' (r_as (v := .bool false) rfl) <| SR.nil ?_
  refine W.seq ?_
  refine W.regS (SR.q' (r_as (v := .int .i64 1048576) rfl) <| SR.nil ?_)
  refine W.seq ?_
  refine W.regS (SR.q' (r_lda (l := [.slice Ac_Library_Maps nc_Library_Maps cc_Library_Maps, .slice Ac_Library_Away nc_Library_Away cc_Library_Away, .int .i64 c.Library.Bought, .int .i64 c.Library.Dropped, .int .i64 c.Library.Mended, str c.Log.Durable, str c.Log.Pending, .int .i64 c.Log.Count]) agg29 rfl (fun _ _ hu => (hb6).cell hu) rfl) <| SR.q' (r_mv (v := .int .i64 _) rfl) <| SR.call ent5 (c_laws_szConsole w2 c (((hc_Library_Maps).lo hk4)) (((hc_Library_Away).lo hk4)) 1048576 (by omega) (by omega) (by omega)) rfl ?_)
  rintro e w9 ⟨rfl, hk10⟩
  refine ⟨_, rfl, ?_⟩
  have hz11 := hk10.size
  have hB12 := hB8.lo hk10
  refine SR.q' (r_as (v := .int .i64 _) rfl) <| SR.nil ?_
  refine W.seq ?_
  refine W.seq ?_
  have hm13 := ((hc_Library_Maps).lo hk4).lo hk10
  have hm14 := ((hc_Library_Away).lo hk4).lo hk10
  refine W.regS (SR.q' (r_mv (v := .int .i64 _) rfl) <| SR.q' (r_lt rfl rfl) <| SR.nil ?_)
  refine W.cond_d rfl (fun h15 => ?_) (fun h15 => ?_)
  · refine W.seq ?_
    refine W.regS (SR.q' (r_as (v := .bool true) rfl) <| SR.nil ?_)
    refine W.ret ?_
    refine ret1 rfl (v := .bool _) rfl ?_
    exact ⟨eR rfl, hB12⟩
  · have hq16 := szN_ok h15
    refine W.skip ?_
    refine W.seq ?_
    refine W.regS (SR.q' (r_lda (l := [.slice Ac_Library_Maps nc_Library_Maps cc_Library_Maps, .slice Ac_Library_Away nc_Library_Away cc_Library_Away, .int .i64 c.Library.Bought, .int .i64 c.Library.Dropped, .int .i64 c.Library.Mended, str c.Log.Durable, str c.Log.Pending, .int .i64 c.Log.Count]) agg29 rfl (fun _ _ hu => ((hb6).lo hk10).cell hu) rfl) <| SR.call ent7 (c_laws_toConsole w9 c ((hm13)) ((hm14)) (by omega) (by omega)) rfl ?_)
    rintro e w17 ⟨A19, n20, c21, A23, n24, c25, rfl, hO22, hO26, hd27, hk18⟩
    refine ⟨_, rfl, ?_⟩
    have hz28 := hk18.size
    have hB29 := hB12.lo hk18
    have hl30 := hO22.len
    have hl31 := hO22.rd.bound
    have hl32 := hO26.len
    have hl33 := hO26.rd.bound
    refine SR.call ent6 (c_spec_IsValidConsole w17 c (((hO22).rd)) (((hO26).rd)) (by omega)) rfl ?_
    rintro e w34 ⟨rfl, hk35⟩
    refine ⟨_, rfl, ?_⟩
    have hz36 := hk35.size
    have hB37 := hB29.lo hk35
    refine SR.q' (r_as (v := .bool _) rfl) <| SR.nil ?_
    refine W.seq ?_
    have hm38 := (((hb6).lo hk10).lo hk18).lo hk35
    have hm39 := ((hm13).lo hk18).lo hk35
    have hm40 := ((hm14).lo hk18).lo hk35
    refine W.regS (SR.q' (r_lda (l := [.slice Ac_Library_Maps nc_Library_Maps cc_Library_Maps, .slice Ac_Library_Away nc_Library_Away cc_Library_Away, .int .i64 c.Library.Bought, .int .i64 c.Library.Dropped, .int .i64 c.Library.Mended, str c.Log.Durable, str c.Log.Pending, .int .i64 c.Log.Count]) agg29 rfl (fun _ _ hu => (hm38).cell hu) rfl) <| SR.call ent7 (c_laws_toConsole w34 c ((hm39)) ((hm40)) (by omega) (by omega)) rfl ?_)
    rintro e w41 ⟨A43, n44, c45, A47, n48, c49, rfl, hO46, hO50, hd51, hk42⟩
    refine ⟨_, rfl, ?_⟩
    have hz52 := hk42.size
    have hB53 := hB37.lo hk42
    have hl54 := hO46.len
    have hl55 := hO46.rd.bound
    have hl56 := hO50.len
    have hl57 := hO50.rd.bound
    refine SR.alloc (l := [.slice none 0 0, .slice none 0 0, .int .i64 0, .int .i64 0, .int .i64 0, str ([] : List UInt8), str ([] : List UInt8), .int .i64 0]) tz38 rfl ?_
    intro g58 w59 hg60 hk61 hs62 hb63
    have hz64 := hk61.size
    have hB65 := hB53.lo hk61
    have hd66 : ¬ A19 = some ⟨g58, 0, none⟩ := fun e' => by have := (((hO22).lo hk35).lo hk42).base_le e'; omega
    have hd67 : ¬ A23 = some ⟨g58, 0, none⟩ := fun e' => by have := (((hO26).lo hk35).lo hk42).base_le e'; omega
    have hd68 : ¬ A43 = some ⟨g58, 0, none⟩ := fun e' => by have := (hO46).base_le e'; omega
    have hd69 : ¬ A47 = some ⟨g58, 0, none⟩ := fun e' => by have := (hO50).base_le e'; omega
    refine SR.store (o := 0) (vs := [.slice A43 n44 c45, .slice A47 n48 c49, .int .i64 c.Library.Bought, .int .i64 c.Library.Dropped, .int .i64 c.Library.Mended, str c.Log.Durable, str c.Log.Pending, .int .i64 c.Log.Count]) agg38.2 rfl rfl rfl rfl (hb63) (Nat.le_of_ble_eq_true rfl) rfl ?_
    intro w70 hk71 hs72 hb73
    have hz74 := hk71.size
    have hB75 := hB65.new hk71 (by omega)
    refine SR.nil ?_
    refine W.seq ?_
    have hm76 := (((hm38).lo hk42).lo hk61).kp hk71 (fun e' => by have e'' : g1 = g58 := e'; omega)
    have hm77 := (((hm39).lo hk42).lo hk61).kp hk71 (fun b_ hb e' => by have e'' : b_ = g58 := e'; omega)
    have hm78 := (((hm40).lo hk42).lo hk61).kp hk71 (fun b_ hb e' => by have e'' : b_ = g58 := e'; omega)
    have hm79 := ((hO46).lo hk61).kp hk71 (fun b_ hb e' => hd68 (by have e'' : b_ = g58 := e'; rw [← e'']; exact hb))
    have hm80 := ((hO50).lo hk61).kp hk71 (fun b_ hb e' => hd69 (by have e'' : b_ = g58 := e'; rw [← e'']; exact hb))
    refine W.regS (SR.q' (r_lda (l := [.slice A43 n44 c45, .slice A47 n48 c49, .int .i64 c.Library.Bought, .int .i64 c.Library.Dropped, .int .i64 c.Library.Mended, str c.Log.Durable, str c.Log.Pending, .int .i64 c.Log.Count]) agg38 rfl (fun _ _ hu => (hb73).cell hu) rfl) <| SR.call ent8 (c_impl_IsValidConsole w70 c (((hm79).rd)) (((hm80).rd)) (by omega) (hE.lo (hB75))) rfl ?_)
    rintro e w81 ⟨rfl, hk82⟩
    refine ⟨_, rfl, ?_⟩
    have hz83 := hk82.size
    have hB84 := hB75.lo hk82
    refine SR.q' (r_as (v := .bool _) rfl) <| SR.nil ?_
    refine W.seq ?_
    refine W.seq ?_
    refine W.regS (SR.q' (r_mv (v := .bool _) rfl) <| SR.q' (r_mv (v := .bool _) rfl) <| SR.q' (r_neb_s und4 rfl rfl) <| SR.nil ?_)
    refine W.cond_f rfl ?_
    refine W.skip ?_
    refine W.seq ?_
    refine W.seq ?_
    refine W.regA (Lo w81) (fun f' w' => ∃ (A91 : Option Addr), ∃ (n92 : Nat), ∃ (c93 : Nat), ∃ (A95 : Option Addr), ∃ (n96 : Nat), ∃ (c97 : Nat), At f' [(2, .bool false), (26, .bool (!decide (c = c)))] ∧ (Lo w81 w') ∧ (n92 = (c.Library.Maps).length) ∧ ((n92 : Int) ≤ 9223372036854775807) ∧ (n96 = (c.Library.Away).length) ∧ ((n96 : Int) ≤ 9223372036854775807)) mo ?_ ?_
    · intro w85 hk86
      have hz87 := hk86.size
      have hB88 := hB84.lo hk86
      refine AH.take 0 rfl (by kernel_rfl) trivial (hk86) (fun w' hw' => r_lda (l := [.slice A43 n44 c45, .slice A47 n48 c49, .int .i64 c.Library.Bought, .int .i64 c.Library.Dropped, .int .i64 c.Library.Mended, str c.Log.Durable, str c.Log.Pending, .int .i64 c.Log.Count]) agg38 rfl (fun _ _ hu => (((hb73).lo hk82).lo hw').cell hu) rfl) <| AH.take 1 rfl (by kernel_rfl) trivial (hk86) (fun w' hw' => r_lda (l := [.slice Ac_Library_Maps nc_Library_Maps cc_Library_Maps, .slice Ac_Library_Away nc_Library_Away cc_Library_Away, .int .i64 c.Library.Bought, .int .i64 c.Library.Dropped, .int .i64 c.Library.Mended, str c.Log.Durable, str c.Log.Pending, .int .i64 c.Log.Count]) agg29 rfl (fun _ _ hu => (((hm76).lo hk82).lo hw').cell hu) rfl) <| AH.br [2] (by kernel_rfl) rfl ⟨Br.mk' rfl trivial ?_, trivial⟩
      refine SR.call ent7 (c_laws_toConsole w85 c ((((hm77).lo hk82).lo hk86)) ((((hm78).lo hk82).lo hk86)) (by omega) (by omega)) rfl ?_
      rintro e w89 ⟨A91, n92, c93, A95, n96, c97, rfl, hO94, hO98, hd99, hk90⟩
      refine ⟨_, rfl, ?_⟩
      have hz100 := hk90.size
      have hB101 := hB88.lo hk90
      have hS102 := (hk86).lo hk90
      have hl103 := hO94.len
      have hl104 := hO94.rd.bound
      have hl105 := hO98.len
      have hl106 := hO98.rd.bound
      refine SR.nil ⟨hS102, _, rfl, ?_⟩
      refine AH.br [3] (by kernel_rfl) rfl ⟨Br.mk' rfl trivial ?_, trivial⟩
      refine SR.call ent9 (c_laws_eqConsole w89 c ((((((hm79).lo hk82).lo hk86).lo hk90).rd)) ((((((hm80).lo hk82).lo hk86).lo hk90).rd)) c (((hO94).rd)) (((hO98).rd))) rfl ?_
      rintro e w107 ⟨rfl, hk108⟩
      refine ⟨_, rfl, ?_⟩
      have hz109 := hk108.size
      have hB110 := hB101.lo hk108
      have hS111 := (hS102).lo hk108
      refine SR.nil ⟨hS111, _, rfl, ?_⟩
      refine AH.take 4 rfl (by kernel_rfl) trivial (hS111) (fun w' hw' => r_not rfl) <| AH.done (by kernel_rfl) ?_
      exact ⟨A91, n92, c93, A95, n96, c97, ⟨rfl, rfl, trivial⟩, hS111, hl103, hl104, hl105, hl106⟩
    rintro f112 w113 ⟨A91, n92, c93, A95, n96, c97, hat115, hR114, hl103, hl104, hl105, hl106⟩
    rw [← sets_of_at hat115]
    have hz116 := hR114.size
    have hB117 := hB84.lo hR114
    refine W.cond_n rfl (fun h118 => ?_) (fun h118 => ?_)
    · refine W.seq ?_
      refine W.regS (SR.q' (r_as (v := .bool false) rfl) <| SR.nil ?_)
      refine W.ret ?_
      refine ret1 rfl (v := .bool _) rfl ?_
      exact ⟨eR (eB (z_c_laws_FnExactIsValidConsole_119 c nc_Library_Maps hbdc_Library_Maps hlec_Library_Maps nc_Library_Away hbdc_Library_Away hlec_Library_Away hp0 h15 hq16 n20 hl30 hl31 n24 hl32 hl33 n44 hl54 hl55 n48 hl56 hl57 n92 n96 hl103 hl104 hl105 hl106 h118)), hB117⟩
    · refine W.skip ?_
      refine W.seq ?_
      refine W.regS (SR.q' (r_as (v := .bool true) rfl) <| SR.nil ?_)
      refine W.ret ?_
      refine ret1 rfl (v := .bool _) rfl ?_
      exact ⟨eR rfl, hB117⟩

theorem z_c_laws_FnExactFormatConsole_119 (c : Console) (nc_Library_Maps : Nat) (hbdc_Library_Maps : (nc_Library_Maps : Int) ≤ 9223372036854775807) (hlec_Library_Maps : nc_Library_Maps = c.Library.Maps.length) (nc_Library_Away : Nat) (hbdc_Library_Away : (nc_Library_Away : Int) ≤ 9223372036854775807) (hlec_Library_Away : nc_Library_Away = c.Library.Away.length) (hp0 : (c.Log.Durable.length : Int) ≤ 9223372036854775807 ∧ (c.Log.Pending.length : Int) ≤ 9223372036854775807) (h15 : ¬ ((szN (c.Library.Maps.length + c.Library.Away.length + c.Log.Durable.length + c.Log.Pending.length) 1048576) < 0)) (hq16 : ((c.Library.Maps.length + c.Library.Away.length + c.Log.Durable.length + c.Log.Pending.length : Nat) : Int) ≤ 1048576 ∧ szN (c.Library.Maps.length + c.Library.Away.length + c.Log.Durable.length + c.Log.Pending.length) 1048576 = 1048576 - ((c.Library.Maps.length + c.Library.Away.length + c.Log.Durable.length + c.Log.Pending.length : Nat) : Int)) (n20 : Nat) (hl30 : n20 = (c.Library.Maps).length) (hl31 : (n20 : Int) ≤ 9223372036854775807) (n24 : Nat) (hl32 : n24 = (c.Library.Away).length) (hl33 : (n24 : Int) ≤ 9223372036854775807) (n44 : Nat) (hl54 : n44 = (c.Library.Maps).length) (hl55 : (n44 : Int) ≤ 9223372036854775807) (n48 : Nat) (hl56 : n48 = (c.Library.Away).length) (hl57 : (n48 : Int) ≤ 9223372036854775807) (n92 : Nat) (n96 : Nat) (hl103 : n92 = (c.Library.Maps).length) (hl104 : (n92 : Int) ≤ 9223372036854775807) (hl105 : n96 = (c.Library.Away).length) (hl106 : (n96 : Int) ≤ 9223372036854775807) (h118 : ¬ (c = c)) : false = true := by
  first | (simp_all; done) | omega | (simp at *; omega)
theorem c_laws_FnExactFormatConsole (w : World) (c : Console) {Ac_Library_Maps : Option Addr} {nc_Library_Maps cc_Library_Maps Bc_Library_Maps : Nat} (hc_Library_Maps : SlR w Bc_Library_Maps encLMap 3 Ac_Library_Maps nc_Library_Maps cc_Library_Maps c.Library.Maps) {Ac_Library_Away : Option Addr} {nc_Library_Away cc_Library_Away Bc_Library_Away : Nat} (hc_Library_Away : SlR w Bc_Library_Away encAway 2 Ac_Library_Away nc_Library_Away cc_Library_Away c.Library.Away) (hp0 : (c.Log.Durable.length : Int) ≤ 9223372036854775807 ∧ (c.Log.Pending.length : Int) ≤ 9223372036854775807) (hE : EnvW w) : Calls Tryd.prog 4 #[.agg (List.toArray [.slice Ac_Library_Maps nc_Library_Maps cc_Library_Maps, .slice Ac_Library_Away nc_Library_Away cc_Library_Away, .int .i64 c.Library.Bought, .int .i64 c.Library.Dropped, .int .i64 c.Library.Mended, str c.Log.Durable, str c.Log.Pending, .int .i64 c.Log.Count])] w fun e w' => e = .returned (.bool true) ∧ Lo w w' := by
  refine calls_W 40 Tryd.func4 rfl rfl rfl ?_
  have hbdc_Library_Maps := hc_Library_Maps.bound
  have hlec_Library_Maps := hc_Library_Maps.len
  have hBbc_Library_Maps := hc_Library_Maps.bd
  have hbdc_Library_Away := hc_Library_Away.bound
  have hlec_Library_Away := hc_Library_Away.len
  have hBbc_Library_Away := hc_Library_Away.bd
  refine W.seq ?_
  refine W.regS (SR.box (v := .agg (List.toArray _)) (l := [.slice Ac_Library_Maps nc_Library_Maps cc_Library_Maps, .slice Ac_Library_Away nc_Library_Away cc_Library_Away, .int .i64 c.Library.Bought, .int .i64 c.Library.Dropped, .int .i64 c.Library.Mended, str c.Log.Durable, str c.Log.Pending, .int .i64 c.Log.Count]) rfl rfl ?_)
  intro g1 w2 hg3 hk4 hs5 hb6
  have hz7 := hk4.size
  have hB8 := (Lo.refl w).lo hk4
  refine SR.q' (r_as (v := .bool false) rfl) <| SR.nil ?_
  refine W.seq ?_
  refine W.regS (SR.q' (r_as (v := .int .i64 1048576) rfl) <| SR.nil ?_)
  refine W.seq ?_
  refine W.regS (SR.q' (r_lda (l := [.slice Ac_Library_Maps nc_Library_Maps cc_Library_Maps, .slice Ac_Library_Away nc_Library_Away cc_Library_Away, .int .i64 c.Library.Bought, .int .i64 c.Library.Dropped, .int .i64 c.Library.Mended, str c.Log.Durable, str c.Log.Pending, .int .i64 c.Log.Count]) agg29 rfl (fun _ _ hu => (hb6).cell hu) rfl) <| SR.q' (r_mv (v := .int .i64 _) rfl) <| SR.call ent5 (c_laws_szConsole w2 c (((hc_Library_Maps).lo hk4)) (((hc_Library_Away).lo hk4)) 1048576 (by omega) (by omega) (by omega)) rfl ?_)
  rintro e w9 ⟨rfl, hk10⟩
  refine ⟨_, rfl, ?_⟩
  have hz11 := hk10.size
  have hB12 := hB8.lo hk10
  refine SR.q' (r_as (v := .int .i64 _) rfl) <| SR.nil ?_
  refine W.seq ?_
  refine W.seq ?_
  have hm13 := ((hc_Library_Maps).lo hk4).lo hk10
  have hm14 := ((hc_Library_Away).lo hk4).lo hk10
  refine W.regS (SR.q' (r_mv (v := .int .i64 _) rfl) <| SR.q' (r_lt rfl rfl) <| SR.nil ?_)
  refine W.cond_d rfl (fun h15 => ?_) (fun h15 => ?_)
  · refine W.seq ?_
    refine W.regS (SR.q' (r_as (v := .bool true) rfl) <| SR.nil ?_)
    refine W.ret ?_
    refine ret1 rfl (v := .bool _) rfl ?_
    exact ⟨eR rfl, hB12⟩
  · have hq16 := szN_ok h15
    refine W.skip ?_
    refine W.seq ?_
    refine W.regS (SR.q' (r_lda (l := [.slice Ac_Library_Maps nc_Library_Maps cc_Library_Maps, .slice Ac_Library_Away nc_Library_Away cc_Library_Away, .int .i64 c.Library.Bought, .int .i64 c.Library.Dropped, .int .i64 c.Library.Mended, str c.Log.Durable, str c.Log.Pending, .int .i64 c.Log.Count]) agg29 rfl (fun _ _ hu => ((hb6).lo hk10).cell hu) rfl) <| SR.call ent7 (c_laws_toConsole w9 c ((hm13)) ((hm14)) (by omega) (by omega)) rfl ?_)
    rintro e w17 ⟨A19, n20, c21, A23, n24, c25, rfl, hO22, hO26, hd27, hk18⟩
    refine ⟨_, rfl, ?_⟩
    have hz28 := hk18.size
    have hB29 := hB12.lo hk18
    have hl30 := hO22.len
    have hl31 := hO22.rd.bound
    have hl32 := hO26.len
    have hl33 := hO26.rd.bound
    refine SR.call ent10 (c_spec_FormatConsole w17 c (((hO22).rd)) (((hO26).rd)) (by omega)) rfl ?_
    rintro e w34 ⟨rfl, hk35⟩
    refine ⟨_, rfl, ?_⟩
    have hz36 := hk35.size
    have hB37 := hB29.lo hk35
    refine SR.q' (r_mv (v := .tuple (List.toArray _)) rfl) <| SR.q' (r_ext (v := str _) rfl rfl) <| SR.q' (r_ext (v := .bool _) rfl rfl) <| SR.q' (r_as (v := str _) rfl) <| SR.q' (r_as (v := .bool _) rfl) <| SR.nil ?_
    refine W.seq ?_
    have hm38 := (((hb6).lo hk10).lo hk18).lo hk35
    have hm39 := ((hm13).lo hk18).lo hk35
    have hm40 := ((hm14).lo hk18).lo hk35
    refine W.regS (SR.q' (r_lda (l := [.slice Ac_Library_Maps nc_Library_Maps cc_Library_Maps, .slice Ac_Library_Away nc_Library_Away cc_Library_Away, .int .i64 c.Library.Bought, .int .i64 c.Library.Dropped, .int .i64 c.Library.Mended, str c.Log.Durable, str c.Log.Pending, .int .i64 c.Log.Count]) agg29 rfl (fun _ _ hu => (hm38).cell hu) rfl) <| SR.call ent7 (c_laws_toConsole w34 c ((hm39)) ((hm40)) (by omega) (by omega)) rfl ?_)
    rintro e w41 ⟨A43, n44, c45, A47, n48, c49, rfl, hO46, hO50, hd51, hk42⟩
    refine ⟨_, rfl, ?_⟩
    have hz52 := hk42.size
    have hB53 := hB37.lo hk42
    have hl54 := hO46.len
    have hl55 := hO46.rd.bound
    have hl56 := hO50.len
    have hl57 := hO50.rd.bound
    refine SR.alloc (l := [.slice none 0 0, .slice none 0 0, .int .i64 0, .int .i64 0, .int .i64 0, str ([] : List UInt8), str ([] : List UInt8), .int .i64 0]) tz38 rfl ?_
    intro g58 w59 hg60 hk61 hs62 hb63
    have hz64 := hk61.size
    have hB65 := hB53.lo hk61
    have hd66 : ¬ A19 = some ⟨g58, 0, none⟩ := fun e' => by have := (((hO22).lo hk35).lo hk42).base_le e'; omega
    have hd67 : ¬ A23 = some ⟨g58, 0, none⟩ := fun e' => by have := (((hO26).lo hk35).lo hk42).base_le e'; omega
    have hd68 : ¬ A43 = some ⟨g58, 0, none⟩ := fun e' => by have := (hO46).base_le e'; omega
    have hd69 : ¬ A47 = some ⟨g58, 0, none⟩ := fun e' => by have := (hO50).base_le e'; omega
    refine SR.store (o := 0) (vs := [.slice A43 n44 c45, .slice A47 n48 c49, .int .i64 c.Library.Bought, .int .i64 c.Library.Dropped, .int .i64 c.Library.Mended, str c.Log.Durable, str c.Log.Pending, .int .i64 c.Log.Count]) agg38.2 rfl rfl rfl rfl (hb63) (Nat.le_of_ble_eq_true rfl) rfl ?_
    intro w70 hk71 hs72 hb73
    have hz74 := hk71.size
    have hB75 := hB65.new hk71 (by omega)
    refine SR.nil ?_
    refine W.seq ?_
    have hm76 := (((hm38).lo hk42).lo hk61).kp hk71 (fun e' => by have e'' : g1 = g58 := e'; omega)
    have hm77 := (((hm39).lo hk42).lo hk61).kp hk71 (fun b_ hb e' => by have e'' : b_ = g58 := e'; omega)
    have hm78 := (((hm40).lo hk42).lo hk61).kp hk71 (fun b_ hb e' => by have e'' : b_ = g58 := e'; omega)
    have hm79 := ((hO46).lo hk61).kp hk71 (fun b_ hb e' => hd68 (by have e'' : b_ = g58 := e'; rw [← e'']; exact hb))
    have hm80 := ((hO50).lo hk61).kp hk71 (fun b_ hb e' => hd69 (by have e'' : b_ = g58 := e'; rw [← e'']; exact hb))
    refine W.regS (SR.q' (r_lda (l := [.slice A43 n44 c45, .slice A47 n48 c49, .int .i64 c.Library.Bought, .int .i64 c.Library.Dropped, .int .i64 c.Library.Mended, str c.Log.Durable, str c.Log.Pending, .int .i64 c.Log.Count]) agg38 rfl (fun _ _ hu => (hb73).cell hu) rfl) <| SR.call ent11 (c_impl_FormatConsole w70 c (((hm79).rd)) (((hm80).rd)) (by omega) (hE.lo (hB75))) rfl ?_)
    rintro e w81 ⟨rfl, hk82⟩
    refine ⟨_, rfl, ?_⟩
    have hz83 := hk82.size
    have hB84 := hB75.lo hk82
    refine SR.q' (r_mv (v := .tuple (List.toArray _)) rfl) <| SR.q' (r_ext (v := str _) rfl rfl) <| SR.q' (r_ext (v := .bool _) rfl rfl) <| SR.q' (r_as (v := str _) rfl) <| SR.q' (r_as (v := .bool _) rfl) <| SR.nil ?_
    refine W.seq ?_
    refine W.seq ?_
    refine W.regS (SR.q' (r_mv (v := str _) rfl) <| SR.q' (r_mv (v := str _) rfl) <| SR.q' (r_nes_s (s := (formC c).1) rfl rfl) <| SR.q' (r_mv (v := .bool _) rfl) <| SR.g' rfl (r_mv (v := .bool _) rfl) <| SR.g' rfl (r_mv (v := .bool _) rfl) <| SR.g' rfl (r_neb_s und4 rfl rfl) <| SR.q' (r_pick false rfl (v := .bool _) rfl) <| SR.nil ?_)
    refine W.cond_f rfl ?_
    refine W.skip ?_
    refine W.seq ?_
    refine W.seq ?_
    refine W.regA (Lo w81) (fun f' w' => ∃ (A91 : Option Addr), ∃ (n92 : Nat), ∃ (c93 : Nat), ∃ (A95 : Option Addr), ∃ (n96 : Nat), ∃ (c97 : Nat), At f' [(2, .bool false), (39, .bool (!decide (c = c)))] ∧ (Lo w81 w') ∧ (n92 = (c.Library.Maps).length) ∧ ((n92 : Int) ≤ 9223372036854775807) ∧ (n96 = (c.Library.Away).length) ∧ ((n96 : Int) ≤ 9223372036854775807)) mo ?_ ?_
    · intro w85 hk86
      have hz87 := hk86.size
      have hB88 := hB84.lo hk86
      refine AH.take 0 rfl (by kernel_rfl) trivial (hk86) (fun w' hw' => r_lda (l := [.slice A43 n44 c45, .slice A47 n48 c49, .int .i64 c.Library.Bought, .int .i64 c.Library.Dropped, .int .i64 c.Library.Mended, str c.Log.Durable, str c.Log.Pending, .int .i64 c.Log.Count]) agg38 rfl (fun _ _ hu => (((hb73).lo hk82).lo hw').cell hu) rfl) <| AH.take 1 rfl (by kernel_rfl) trivial (hk86) (fun w' hw' => r_lda (l := [.slice Ac_Library_Maps nc_Library_Maps cc_Library_Maps, .slice Ac_Library_Away nc_Library_Away cc_Library_Away, .int .i64 c.Library.Bought, .int .i64 c.Library.Dropped, .int .i64 c.Library.Mended, str c.Log.Durable, str c.Log.Pending, .int .i64 c.Log.Count]) agg29 rfl (fun _ _ hu => (((hm76).lo hk82).lo hw').cell hu) rfl) <| AH.br [2] (by kernel_rfl) rfl ⟨Br.mk' rfl trivial ?_, trivial⟩
      refine SR.call ent7 (c_laws_toConsole w85 c ((((hm77).lo hk82).lo hk86)) ((((hm78).lo hk82).lo hk86)) (by omega) (by omega)) rfl ?_
      rintro e w89 ⟨A91, n92, c93, A95, n96, c97, rfl, hO94, hO98, hd99, hk90⟩
      refine ⟨_, rfl, ?_⟩
      have hz100 := hk90.size
      have hB101 := hB88.lo hk90
      have hS102 := (hk86).lo hk90
      have hl103 := hO94.len
      have hl104 := hO94.rd.bound
      have hl105 := hO98.len
      have hl106 := hO98.rd.bound
      refine SR.nil ⟨hS102, _, rfl, ?_⟩
      refine AH.br [3] (by kernel_rfl) rfl ⟨Br.mk' rfl trivial ?_, trivial⟩
      refine SR.call ent9 (c_laws_eqConsole w89 c ((((((hm79).lo hk82).lo hk86).lo hk90).rd)) ((((((hm80).lo hk82).lo hk86).lo hk90).rd)) c (((hO94).rd)) (((hO98).rd))) rfl ?_
      rintro e w107 ⟨rfl, hk108⟩
      refine ⟨_, rfl, ?_⟩
      have hz109 := hk108.size
      have hB110 := hB101.lo hk108
      have hS111 := (hS102).lo hk108
      refine SR.nil ⟨hS111, _, rfl, ?_⟩
      refine AH.take 4 rfl (by kernel_rfl) trivial (hS111) (fun w' hw' => r_not rfl) <| AH.done (by kernel_rfl) ?_
      exact ⟨A91, n92, c93, A95, n96, c97, ⟨rfl, rfl, trivial⟩, hS111, hl103, hl104, hl105, hl106⟩
    rintro f112 w113 ⟨A91, n92, c93, A95, n96, c97, hat115, hR114, hl103, hl104, hl105, hl106⟩
    rw [← sets_of_at hat115]
    have hz116 := hR114.size
    have hB117 := hB84.lo hR114
    refine W.cond_n rfl (fun h118 => ?_) (fun h118 => ?_)
    · refine W.seq ?_
      refine W.regS (SR.q' (r_as (v := .bool false) rfl) <| SR.nil ?_)
      refine W.ret ?_
      refine ret1 rfl (v := .bool _) rfl ?_
      exact ⟨eR (eB (z_c_laws_FnExactFormatConsole_119 c nc_Library_Maps hbdc_Library_Maps hlec_Library_Maps nc_Library_Away hbdc_Library_Away hlec_Library_Away hp0 h15 hq16 n20 hl30 hl31 n24 hl32 hl33 n44 hl54 hl55 n48 hl56 hl57 n92 n96 hl103 hl104 hl105 hl106 h118)), hB117⟩
    · refine W.skip ?_
      refine W.seq ?_
      refine W.regS (SR.q' (r_as (v := .bool true) rfl) <| SR.nil ?_)
      refine W.ret ?_
      refine ret1 rfl (v := .bool _) rfl ?_
      exact ⟨eR rfl, hB117⟩
end Go.Proofs.YtocpdkhahmbaiaaDoor
