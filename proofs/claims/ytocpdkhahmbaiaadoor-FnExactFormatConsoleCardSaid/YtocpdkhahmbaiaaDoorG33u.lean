/- Walks, printed by a program of this claim's author. -/
import Derived.Test.YtocpdkhahmbaiaaDoorChecked
import Derived.Test.YtocpdkhahmbaiaaDoorUt
import Derived.Test.YtocpdkhahmbaiaaDoorWb
import Derived.Test.YtocpdkhahmbaiaaDoorFt
import Derived.Test.YtocpdkhahmbaiaaDoorSi
import Derived.Test.YtocpdkhahmbaiaaDoorG33t
namespace Go.Proofs.YtocpdkhahmbaiaaDoor
open Go Go.RowKit Fw
set_option maxRecDepth 10000
set_option linter.unusedVariables false
theorem agg35 : TAgg Tryd.prog 35 5 := ⟨fun _ => by kernel_rfl, fun _ => by kernel_rfl⟩
theorem agg36 : TAgg Tryd.prog 36 3 := ⟨fun _ => by kernel_rfl, fun _ => by kernel_rfl⟩
theorem agg54 : TAgg Tryd.prog 54 3 := ⟨fun _ => by kernel_rfl, fun _ => by kernel_rfl⟩
theorem agg64 : TAgg Tryd.prog 64 2 := ⟨fun _ => by kernel_rfl, fun _ => by kernel_rfl⟩
theorem agg79 : TAgg Tryd.prog 79 3 := ⟨fun _ => by kernel_rfl, fun _ => by kernel_rfl⟩
theorem agg81 : TAgg Tryd.prog 81 2 := ⟨fun _ => by kernel_rfl, fun _ => by kernel_rfl⟩
theorem ent25 : Ent Tryd.prog 25 := ent_of Tryd.func25 (by decide +kernel) rfl
theorem ent26 : Ent Tryd.prog 26 := ent_of Tryd.func26 (by decide +kernel) rfl
theorem ent29 : Ent Tryd.prog 29 := ent_of Tryd.func29 (by decide +kernel) rfl
theorem ent30 : Ent Tryd.prog 30 := ent_of Tryd.func30 (by decide +kernel) rfl
theorem ent39 : Ent Tryd.prog 39 := ent_of Tryd.func39 (by decide +kernel) rfl
theorem ent40 : Ent Tryd.prog 40 := ent_of Tryd.func40 (by decide +kernel) rfl
theorem ent49 : Ent Tryd.prog 49 := ent_of Tryd.func49 (by decide +kernel) rfl
theorem ent50 : Ent Tryd.prog 50 := ent_of Tryd.func50 (by decide +kernel) rfl
theorem ent57 : Ent Tryd.prog 57 := ent_of Tryd.func57 (by decide +kernel) rfl
theorem ent58 : Ent Tryd.prog 58 := ent_of Tryd.func58 (by decide +kernel) rfl
theorem fa25_0 : FA Tryd.prog 25 0 0 := fun _ _ => by kernel_rfl
theorem fa25_1 : FA Tryd.prog 25 1 1 := fun _ _ => by kernel_rfl
theorem fa25_2 : FA Tryd.prog 25 2 2 := fun _ _ => by kernel_rfl
theorem fa25_3 : FA Tryd.prog 25 3 3 := fun _ _ => by kernel_rfl
theorem fa25_4 : FA Tryd.prog 25 4 4 := fun _ _ => by kernel_rfl
theorem fa27_0 : FA Tryd.prog 27 0 0 := fun _ _ => by kernel_rfl
theorem fa27_1 : FA Tryd.prog 27 1 1 := fun _ _ => by kernel_rfl
theorem fa27_2 : FA Tryd.prog 27 2 2 := fun _ _ => by kernel_rfl
theorem fa35_0 : FA Tryd.prog 35 0 0 := fun _ _ => by kernel_rfl
theorem fa35_1 : FA Tryd.prog 35 1 1 := fun _ _ => by kernel_rfl
theorem fa35_2 : FA Tryd.prog 35 2 2 := fun _ _ => by kernel_rfl
theorem fa35_3 : FA Tryd.prog 35 3 3 := fun _ _ => by kernel_rfl
theorem fa35_4 : FA Tryd.prog 35 4 4 := fun _ _ => by kernel_rfl
theorem fa54_0 : FA Tryd.prog 54 0 0 := fun _ _ => by kernel_rfl
theorem fa54_1 : FA Tryd.prog 54 1 1 := fun _ _ => by kernel_rfl
theorem fa54_2 : FA Tryd.prog 54 2 2 := fun _ _ => by kernel_rfl
theorem fa64_0 : FA Tryd.prog 64 0 0 := fun _ _ => by kernel_rfl
theorem fa64_1 : FA Tryd.prog 64 1 1 := fun _ _ => by kernel_rfl
theorem fa79_0 : FA Tryd.prog 79 0 0 := fun _ _ => by kernel_rfl
theorem fa79_1 : FA Tryd.prog 79 1 1 := fun _ _ => by kernel_rfl
theorem fa79_2 : FA Tryd.prog 79 2 2 := fun _ _ => by kernel_rfl
theorem fa81_0 : FA Tryd.prog 81 0 0 := fun _ _ => by kernel_rfl
theorem fa81_1 : FA Tryd.prog 81 1 1 := fun _ _ => by kernel_rfl
theorem sca22 : TSca Tryd.prog 22 := ⟨fun _ => by kernel_rfl, fun _ => by kernel_rfl⟩
theorem sca23 : TSca Tryd.prog 23 := ⟨fun _ => by kernel_rfl, fun _ => by kernel_rfl⟩
theorem sca32 : TSca Tryd.prog 32 := ⟨fun _ => by kernel_rfl, fun _ => by kernel_rfl⟩
theorem sca33 : TSca Tryd.prog 33 := ⟨fun _ => by kernel_rfl, fun _ => by kernel_rfl⟩
theorem tel32 : TEl Tryd.prog 32 54 (.agg (List.toArray [.int .i64 0, .int .i64 0, .int .i64 0])) 3 24 := ⟨by kernel_rfl, by kernel_rfl, rfl, by decide⟩
theorem tel33 : TEl Tryd.prog 33 64 (.agg (List.toArray [.int .i64 0, .int .i64 0])) 2 16 := ⟨by kernel_rfl, by kernel_rfl, rfl, by decide⟩
theorem tsl22 : TSl Tryd.prog 22 79 3 := ⟨by kernel_rfl, fun _ => by kernel_rfl⟩
theorem tsl23 : TSl Tryd.prog 23 81 2 := ⟨by kernel_rfl, fun _ => by kernel_rfl⟩
theorem tsl32 : TSl Tryd.prog 32 54 3 := ⟨by kernel_rfl, fun _ => by kernel_rfl⟩
theorem tsl33 : TSl Tryd.prog 33 64 2 := ⟨by kernel_rfl, fun _ => by kernel_rfl⟩
theorem tz35 : TZ Tryd.prog 35 (.agg (List.toArray [.slice none 0 0, .slice none 0 0, .int .i64 0, .int .i64 0, .int .i64 0])) := fun _ => by kernel_rfl
theorem tz36 : TZ Tryd.prog 36 (.agg (List.toArray [str ([] : List UInt8), str ([] : List UInt8), .int .i64 0])) := fun _ => by kernel_rfl
theorem tz54 : TZ Tryd.prog 54 (.agg (List.toArray [.int .i64 0, .int .i64 0, .int .i64 0])) := fun _ => by kernel_rfl
theorem tz64 : TZ Tryd.prog 64 (.agg (List.toArray [.int .i64 0, .int .i64 0])) := fun _ => by kernel_rfl
theorem und22 : Tryd.prog.underlying 22 = some (.slice 79) := by kernel_rfl
theorem und23 : Tryd.prog.underlying 23 = some (.slice 81) := by kernel_rfl
theorem und32 : Tryd.prog.underlying 32 = some (.slice 54) := by kernel_rfl
theorem und33 : Tryd.prog.underlying 33 = some (.slice 64) := by kernel_rfl

theorem z_c_laws_szLog_10 (r : Log) (left : Int) (hp0 : 0 ≤ left) (hp1 : left ≤ 1048576) (hp2 : (r.Durable.length : Int) ≤ 9223372036854775807) (hp3 : (r.Pending.length : Int) ≤ 9223372036854775807) (h9 : (left - (r.Durable.length : Int)) < 0) : (-1) = szN (r.Durable.length + r.Pending.length) left := by
  first | exact szN_neg ‹_› | exact szN_neg1 ‹_› | exact szN_neg2 ‹_› ‹_› | exact szN_add ‹_› ‹_› | (unfold szN at *; repeat (split at *)) <;> omega
theorem z_c_laws_szLog_12 (r : Log) (left : Int) (hp0 : 0 ≤ left) (hp1 : left ≤ 1048576) (hp2 : (r.Durable.length : Int) ≤ 9223372036854775807) (hp3 : (r.Pending.length : Int) ≤ 9223372036854775807) (h9 : ¬ ((left - (r.Durable.length : Int)) < 0)) (h11 : ((left - (r.Durable.length : Int)) - (r.Pending.length : Int)) < 0) : (-1) = szN (r.Durable.length + r.Pending.length) left := by
  first | exact szN_neg ‹_› | exact szN_neg1 ‹_› | exact szN_neg2 ‹_› ‹_› | exact szN_add ‹_› ‹_› | (unfold szN at *; repeat (split at *)) <;> omega
theorem z_c_laws_szLog_13 (r : Log) (left : Int) (hp0 : 0 ≤ left) (hp1 : left ≤ 1048576) (hp2 : (r.Durable.length : Int) ≤ 9223372036854775807) (hp3 : (r.Pending.length : Int) ≤ 9223372036854775807) (h9 : ¬ ((left - (r.Durable.length : Int)) < 0)) (h11 : ¬ (((left - (r.Durable.length : Int)) - (r.Pending.length : Int)) < 0)) : (left - (r.Durable.length : Int)) - (r.Pending.length : Int) = szN (r.Durable.length + r.Pending.length) left := by
  first | exact szN_neg ‹_› | exact szN_neg1 ‹_› | exact szN_neg2 ‹_› ‹_› | exact szN_add ‹_› ‹_› | (unfold szN at *; repeat (split at *)) <;> omega
theorem c_laws_szLog (w : World) (r : Log) (left : Int) (hp0 : 0 ≤ left) (hp1 : left ≤ 1048576) (hp2 : (r.Durable.length : Int) ≤ 9223372036854775807) (hp3 : (r.Pending.length : Int) ≤ 9223372036854775807) : Calls Tryd.prog 13 #[.agg (List.toArray (encLog r)), .int .i64 left] w fun e w' => e = .returned (.int .i64 (szN (r.Durable.length + r.Pending.length) left)) ∧ Lo w w' := by
  refine calls_W 20 Tryd.func13 rfl rfl rfl ?_
  refine W.seq ?_
  refine W.regS (SR.box (v := .agg (List.toArray _)) (l := [str r.Durable, str r.Pending, .int .i64 r.Count]) rfl rfl ?_)
  intro g1 w2 hg3 hk4 hs5 hb6
  have hz7 := hk4.size
  have hB8 := (Lo.refl w).lo hk4
  refine SR.q' (r_as (v := .int .i64 0) rfl) <| SR.nil ?_
  refine W.seq ?_
  refine W.regS (SR.q' (r_mv (v := .int .i64 _) rfl) <| SR.q' (r_fa fa27_0 rfl) <| SR.q' (r_ld (v := str r.Durable) sca9 rfl ((hb6).cell rfl)) <| SR.q' (r_len_s und9 rfl) <| SR.q' (r_sub rfl rfl (by omega)) <| SR.q' (r_as (v := .int .i64 _) rfl) <| SR.nil ?_)
  refine W.seq ?_
  refine W.seq ?_
  refine W.regS (SR.q' (r_mv (v := .int .i64 _) rfl) <| SR.q' (r_lt rfl rfl) <| SR.nil ?_)
  refine W.cond_d rfl (fun h9 => ?_) (fun h9 => ?_)
  · refine W.seq ?_
    refine W.regS (SR.q' (r_as (v := .int .i64 (-1)) rfl) <| SR.nil ?_)
    refine W.ret ?_
    refine ret1 rfl (v := .int .i64 _) rfl ?_
    exact ⟨eR (eI (z_c_laws_szLog_10 r left hp0 hp1 hp2 hp3 h9)), hB8⟩
  · refine W.skip ?_
    refine W.seq ?_
    refine W.regS (SR.q' (r_mv (v := .int .i64 _) rfl) <| SR.q' (r_fa fa27_1 rfl) <| SR.q' (r_ld (v := str r.Pending) sca9 rfl ((hb6).cell rfl)) <| SR.q' (r_len_s und9 rfl) <| SR.q' (r_sub rfl rfl (by omega)) <| SR.q' (r_as (v := .int .i64 _) rfl) <| SR.nil ?_)
    refine W.seq ?_
    refine W.seq ?_
    refine W.regS (SR.q' (r_mv (v := .int .i64 _) rfl) <| SR.q' (r_lt rfl rfl) <| SR.nil ?_)
    refine W.cond_d rfl (fun h11 => ?_) (fun h11 => ?_)
    · refine W.seq ?_
      refine W.regS (SR.q' (r_as (v := .int .i64 (-1)) rfl) <| SR.nil ?_)
      refine W.ret ?_
      refine ret1 rfl (v := .int .i64 _) rfl ?_
      exact ⟨eR (eI (z_c_laws_szLog_12 r left hp0 hp1 hp2 hp3 h9 h11)), hB8⟩
    · refine W.skip ?_
      refine W.seq ?_
      refine W.regS (SR.q' (r_mv (v := .int .i64 _) rfl) <| SR.q' (r_as (v := .int .i64 _) rfl) <| SR.nil ?_)
      refine W.ret ?_
      refine ret1 rfl (v := .int .i64 _) rfl ?_
      exact ⟨eR (eI (z_c_laws_szLog_13 r left hp0 hp1 hp2 hp3 h9 h11)), hB8⟩

theorem z_c_laws_toLog_49 (r : Log) : ([str r.Durable, str r.Pending, .int .i64 r.Count] : List Value) = encLog r := by
  first | rfl | (first | rfl | omega | grind)
theorem c_laws_toLog (w : World) (r : Log) : Calls Tryd.prog 16 #[.agg (List.toArray (encLog r))] w fun e w' => e = .returned (.agg (List.toArray (encLog r))) ∧ Lo w w' := by
  refine calls_W 14 Tryd.func16 rfl rfl rfl ?_
  refine W.seq ?_
  refine W.regS (SR.box (v := .agg (List.toArray _)) (l := [str r.Durable, str r.Pending, .int .i64 r.Count]) rfl rfl ?_)
  intro g1 w2 hg3 hk4 hs5 hb6
  have hz7 := hk4.size
  have hB8 := (Lo.refl w).lo hk4
  refine SR.alloc (l := [str ([] : List UInt8), str ([] : List UInt8), .int .i64 0]) tz36 rfl ?_
  intro g9 w10 hg11 hk12 hs13 hb14
  have hz15 := hk12.size
  have hB16 := hB8.lo hk12
  refine SR.nil ?_
  refine W.seq ?_
  refine W.regS (SR.alloc (l := [str ([] : List UInt8), str ([] : List UInt8), .int .i64 0]) tz36 rfl ?_)
  intro g17 w18 hg19 hk20 hs21 hb22
  have hz23 := hk20.size
  have hB24 := hB16.lo hk20
  refine SR.nil ?_
  refine W.seq ?_
  refine W.regS (SR.q' (r_fa fa27_0 rfl) <| SR.q' (r_ld (v := str r.Durable) sca9 rfl ((((hb6).lo hk12).lo hk20).cell rfl)) <| SR.q' (r_fa fa36_0 rfl) <| SR.store (o := 0) (vs := [str r.Durable]) sca9.2 rfl rfl rfl rfl (hb22) (Nat.le_of_ble_eq_true rfl) rfl ?_)
  intro w25 hk26 hs27 hb28
  have hz29 := hk26.size
  have hB30 := hB24.new hk26 (by omega)
  refine SR.nil ?_
  refine W.seq ?_
  refine W.regS (SR.q' (r_fa fa27_1 rfl) <| SR.q' (r_ld (v := str r.Pending) sca9 rfl (((((hb6).lo hk12).lo hk20).kp hk26 (fun e' => by have e'' : g1 = g17 := e'; omega)).cell rfl)) <| SR.q' (r_fa fa36_1 rfl) <| SR.store (o := 1) (vs := [str r.Pending]) sca9.2 rfl rfl rfl rfl (hb28) (Nat.le_of_ble_eq_true rfl) rfl ?_)
  intro w31 hk32 hs33 hb34
  have hz35 := hk32.size
  have hB36 := hB30.new hk32 (by omega)
  refine SR.nil ?_
  refine W.seq ?_
  refine W.regS (SR.q' (r_fa fa27_2 rfl) <| SR.q' (r_ld (v := .int .i64 r.Count) sca3 rfl ((((((hb6).lo hk12).lo hk20).kp hk26 (fun e' => by have e'' : g1 = g17 := e'; omega)).kp hk32 (fun e' => by have e'' : g1 = g17 := e'; omega)).cell rfl)) <| SR.q' (r_fa fa36_2 rfl) <| SR.store (o := 2) (vs := [.int .i64 r.Count]) sca3.2 rfl rfl rfl rfl (hb34) (Nat.le_of_ble_eq_true rfl) rfl ?_)
  intro w37 hk38 hs39 hb40
  have hz41 := hk38.size
  have hB42 := hB36.new hk38 (by omega)
  refine SR.nil ?_
  refine W.seq ?_
  refine W.regS (SR.q' (r_lda (l := [str r.Durable, str r.Pending, .int .i64 r.Count]) agg36 rfl (fun _ _ hu => (hb40).cell hu) rfl) <| SR.store (o := 0) (vs := [str r.Durable, str r.Pending, .int .i64 r.Count]) agg36.2 rfl rfl rfl rfl (((((hb14).lo hk20).kp hk26 (fun e' => by have e'' : g9 = g17 := e'; omega)).kp hk32 (fun e' => by have e'' : g9 = g17 := e'; omega)).kp hk38 (fun e' => by have e'' : g9 = g17 := e'; omega)) (Nat.le_of_ble_eq_true rfl) rfl ?_)
  intro w43 hk44 hs45 hb46
  have hz47 := hk44.size
  have hB48 := hB42.new hk44 (by omega)
  refine SR.nil ?_
  refine W.ret ?_
  refine retC rfl rfl agg36 (hb46) rfl ?_
  exact ⟨eR (eA (z_c_laws_toLog_49 r)), hB48⟩

theorem z_c_laws_eqLog_18 (a : Log) (b : Log) (h17 : ¬ (a.Durable = b.Durable)) : ¬ (a = b) := by
  cases a; cases b; simp_all
theorem z_c_laws_eqLog_20 (a : Log) (b : Log) (h17 : a.Durable = b.Durable) (h19 : ¬ (a.Pending = b.Pending)) : ¬ (a = b) := by
  cases a; cases b; simp_all
theorem z_c_laws_eqLog_22 (a : Log) (b : Log) (h17 : a.Durable = b.Durable) (h19 : a.Pending = b.Pending) (h21 : ¬ (a.Count = b.Count)) : ¬ (a = b) := by
  cases a; cases b; simp_all
theorem z_c_laws_eqLog_23 (a : Log) (b : Log) (h17 : a.Durable = b.Durable) (h19 : a.Pending = b.Pending) (h21 : a.Count = b.Count) : a = b := by
  cases a; cases b; simp_all
theorem c_laws_eqLog (w : World) (a : Log) (b : Log) : Calls Tryd.prog 20 #[.agg (List.toArray (encLog a)), .agg (List.toArray (encLog b))] w fun e w' => e = .returned (.bool (decide (a = b))) ∧ Lo w w' := by
  refine calls_W 20 Tryd.func20 rfl rfl rfl ?_
  refine W.seq ?_
  refine W.regS (SR.box (v := .agg (List.toArray _)) (l := [str a.Durable, str a.Pending, .int .i64 a.Count]) rfl rfl ?_)
  intro g1 w2 hg3 hk4 hs5 hb6
  have hz7 := hk4.size
  have hB8 := (Lo.refl w).lo hk4
  refine SR.box (v := .agg (List.toArray _)) (l := [str b.Durable, str b.Pending, .int .i64 b.Count]) rfl rfl ?_
  intro g9 w10 hg11 hk12 hs13 hb14
  have hz15 := hk12.size
  have hB16 := hB8.lo hk12
  refine SR.q' (r_as (v := .bool false) rfl) <| SR.nil ?_
  refine W.seq ?_
  refine W.seq ?_
  refine W.regS (SR.q' (r_fa fa36_0 rfl) <| SR.q' (r_ld (v := str a.Durable) sca9 rfl (((hb6).lo hk12).cell rfl)) <| SR.q' (r_fa fa36_0 rfl) <| SR.q' (r_ld (v := str b.Durable) sca9 rfl ((hb14).cell rfl)) <| SR.q' (r_nes (s := a.Durable) (r := b.Durable) rfl rfl) <| SR.nil ?_)
  refine W.cond_n rfl (fun h17 => ?_) (fun h17 => ?_)
  · refine W.seq ?_
    refine W.regS (SR.q' (r_as (v := .bool false) rfl) <| SR.nil ?_)
    refine W.ret ?_
    refine ret1 rfl (v := .bool _) rfl ?_
    exact ⟨eR (eDF (z_c_laws_eqLog_18 a b h17)), hB16⟩
  · refine W.skip ?_
    refine W.seq ?_
    refine W.seq ?_
    refine W.regS (SR.q' (r_fa fa36_1 rfl) <| SR.q' (r_ld (v := str a.Pending) sca9 rfl (((hb6).lo hk12).cell rfl)) <| SR.q' (r_fa fa36_1 rfl) <| SR.q' (r_ld (v := str b.Pending) sca9 rfl ((hb14).cell rfl)) <| SR.q' (r_nes (s := a.Pending) (r := b.Pending) rfl rfl) <| SR.nil ?_)
    refine W.cond_n rfl (fun h19 => ?_) (fun h19 => ?_)
    · refine W.seq ?_
      refine W.regS (SR.q' (r_as (v := .bool false) rfl) <| SR.nil ?_)
      refine W.ret ?_
      refine ret1 rfl (v := .bool _) rfl ?_
      exact ⟨eR (eDF (z_c_laws_eqLog_20 a b h17 h19)), hB16⟩
    · refine W.skip ?_
      refine W.seq ?_
      refine W.seq ?_
      refine W.regS (SR.q' (r_fa fa36_2 rfl) <| SR.q' (r_ld (v := .int .i64 a.Count) sca3 rfl (((hb6).lo hk12).cell rfl)) <| SR.q' (r_fa fa36_2 rfl) <| SR.q' (r_ld (v := .int .i64 b.Count) sca3 rfl ((hb14).cell rfl)) <| SR.q' (r_ne rfl rfl) <| SR.nil ?_)
      refine W.cond_n rfl (fun h21 => ?_) (fun h21 => ?_)
      · refine W.seq ?_
        refine W.regS (SR.q' (r_as (v := .bool false) rfl) <| SR.nil ?_)
        refine W.ret ?_
        refine ret1 rfl (v := .bool _) rfl ?_
        exact ⟨eR (eDF (z_c_laws_eqLog_22 a b h17 h19 h21)), hB16⟩
      · refine W.skip ?_
        refine W.seq ?_
        refine W.regS (SR.q' (r_as (v := .bool true) rfl) <| SR.nil ?_)
        refine W.ret ?_
        refine ret1 rfl (v := .bool _) rfl ?_
        exact ⟨eR (eDT (z_c_laws_eqLog_23 a b h17 h19 h21)), hB16⟩

theorem c_impl_isId (w : World) (n : Int) : Calls Tryd.prog 34 #[.int .i64 n] w fun e w' => e = .returned (.bool (decide (1 ≤ n ∧ n ≤ 999))) ∧ Lo w w' := by
  refine calls_W 5 Tryd.func34 rfl rfl rfl ?_
  refine W.seq ?_
  refine W.regS (SR.q' (r_as (v := .bool false) rfl) <| SR.nil ?_)
  refine W.seq ?_
  refine W.regS (SR.q' (r_mv (v := .int .i64 _) rfl) <| SR.call ent32 (c_impl_within w n 1 999) rfl ?_)
  rintro e w1 ⟨rfl, hk2⟩
  refine ⟨_, rfl, ?_⟩
  have hz3 := hk2.size
  have hB4 := (Lo.refl w).lo hk2
  refine SR.q' (r_as (v := .bool _) rfl) <| SR.nil ?_
  refine W.ret ?_
  refine ret1 rfl (v := .bool _) rfl ?_
  exact ⟨eR rfl, hB4⟩

theorem c_impl_isMapId (w : World) (n : Int) : Calls Tryd.prog 31 #[.int .i64 n] w fun e w' => e = .returned (.bool (decide (1 ≤ n ∧ n ≤ 99))) ∧ Lo w w' := by
  refine calls_W 5 Tryd.func31 rfl rfl rfl ?_
  refine W.seq ?_
  refine W.regS (SR.q' (r_as (v := .bool false) rfl) <| SR.nil ?_)
  refine W.seq ?_
  refine W.regS (SR.q' (r_mv (v := .int .i64 _) rfl) <| SR.call ent32 (c_impl_within w n 1 99) rfl ?_)
  rintro e w1 ⟨rfl, hk2⟩
  refine ⟨_, rfl, ?_⟩
  have hz3 := hk2.size
  have hB4 := (Lo.refl w).lo hk2
  refine SR.q' (r_as (v := .bool _) rfl) <| SR.nil ?_
  refine W.ret ?_
  refine ret1 rfl (v := .bool _) rfl ?_
  exact ⟨eR rfl, hB4⟩

theorem c_impl_isSum (w : World) (n : Int) : Calls Tryd.prog 36 #[.int .i64 n] w fun e w' => e = .returned (.bool (decide (0 ≤ n ∧ n ≤ 9999))) ∧ Lo w w' := by
  refine calls_W 5 Tryd.func36 rfl rfl rfl ?_
  refine W.seq ?_
  refine W.regS (SR.q' (r_as (v := .bool false) rfl) <| SR.nil ?_)
  refine W.seq ?_
  refine W.regS (SR.q' (r_mv (v := .int .i64 _) rfl) <| SR.call ent32 (c_impl_within w n 0 9999) rfl ?_)
  rintro e w1 ⟨rfl, hk2⟩
  refine ⟨_, rfl, ?_⟩
  have hz3 := hk2.size
  have hB4 := (Lo.refl w).lo hk2
  refine SR.q' (r_as (v := .bool _) rfl) <| SR.nil ?_
  refine W.ret ?_
  refine ret1 rfl (v := .bool _) rfl ?_
  exact ⟨eR rfl, hB4⟩

theorem c_spec_l32Count (w : World) (n : Int) : Calls Tryd.prog 46 #[.int .i64 n] w fun e w' => e = .returned (.bool (decide (0 ≤ n ∧ n ≤ 9999))) ∧ Lo w w' := by
  refine calls_W 5 Tryd.func46 rfl rfl rfl ?_
  refine W.seq ?_
  refine W.regS (SR.q' (r_as (v := .bool false) rfl) <| SR.nil ?_)
  refine W.seq ?_
  refine W.regS (SR.q' (r_mv (v := .int .i64 _) rfl) <| SR.call ent60 (c_spec_l1In w n 0 9999) rfl ?_)
  rintro e w1 ⟨rfl, hk2⟩
  refine ⟨_, rfl, ?_⟩
  have hz3 := hk2.size
  have hB4 := (Lo.refl w).lo hk2
  refine SR.q' (r_as (v := .bool _) rfl) <| SR.nil ?_
  refine W.ret ?_
  refine ret1 rfl (v := .bool _) rfl ?_
  exact ⟨eR rfl, hB4⟩

theorem z_c_laws_toMap_49 (r : LMap) : ([.int .i64 r.Id, .int .i64 r.Copies, .int .i64 r.Torn] : List Value) = encLMap r := by
  first | rfl | (first | rfl | omega | grind)
theorem c_laws_toMap (w : World) (r : LMap) : Calls Tryd.prog 49 #[.agg (List.toArray (encLMap r))] w fun e w' => e = .returned (.agg (List.toArray (encLMap r))) ∧ Lo w w' := by
  refine calls_W 14 Tryd.func49 rfl rfl rfl ?_
  refine W.seq ?_
  refine W.regS (SR.box (v := .agg (List.toArray _)) (l := [.int .i64 r.Id, .int .i64 r.Copies, .int .i64 r.Torn]) rfl rfl ?_)
  intro g1 w2 hg3 hk4 hs5 hb6
  have hz7 := hk4.size
  have hB8 := (Lo.refl w).lo hk4
  refine SR.alloc (l := [.int .i64 0, .int .i64 0, .int .i64 0]) tz54 rfl ?_
  intro g9 w10 hg11 hk12 hs13 hb14
  have hz15 := hk12.size
  have hB16 := hB8.lo hk12
  refine SR.nil ?_
  refine W.seq ?_
  refine W.regS (SR.alloc (l := [.int .i64 0, .int .i64 0, .int .i64 0]) tz54 rfl ?_)
  intro g17 w18 hg19 hk20 hs21 hb22
  have hz23 := hk20.size
  have hB24 := hB16.lo hk20
  refine SR.nil ?_
  refine W.seq ?_
  refine W.regS (SR.q' (r_fa fa79_0 rfl) <| SR.q' (r_ld (v := .int .i64 r.Id) sca3 rfl ((((hb6).lo hk12).lo hk20).cell rfl)) <| SR.q' (r_fa fa54_0 rfl) <| SR.store (o := 0) (vs := [.int .i64 r.Id]) sca3.2 rfl rfl rfl rfl (hb22) (Nat.le_of_ble_eq_true rfl) rfl ?_)
  intro w25 hk26 hs27 hb28
  have hz29 := hk26.size
  have hB30 := hB24.new hk26 (by omega)
  refine SR.nil ?_
  refine W.seq ?_
  refine W.regS (SR.q' (r_fa fa79_1 rfl) <| SR.q' (r_ld (v := .int .i64 r.Copies) sca3 rfl (((((hb6).lo hk12).lo hk20).kp hk26 (fun e' => by have e'' : g1 = g17 := e'; omega)).cell rfl)) <| SR.q' (r_fa fa54_1 rfl) <| SR.store (o := 1) (vs := [.int .i64 r.Copies]) sca3.2 rfl rfl rfl rfl (hb28) (Nat.le_of_ble_eq_true rfl) rfl ?_)
  intro w31 hk32 hs33 hb34
  have hz35 := hk32.size
  have hB36 := hB30.new hk32 (by omega)
  refine SR.nil ?_
  refine W.seq ?_
  refine W.regS (SR.q' (r_fa fa79_2 rfl) <| SR.q' (r_ld (v := .int .i64 r.Torn) sca3 rfl ((((((hb6).lo hk12).lo hk20).kp hk26 (fun e' => by have e'' : g1 = g17 := e'; omega)).kp hk32 (fun e' => by have e'' : g1 = g17 := e'; omega)).cell rfl)) <| SR.q' (r_fa fa54_2 rfl) <| SR.store (o := 2) (vs := [.int .i64 r.Torn]) sca3.2 rfl rfl rfl rfl (hb34) (Nat.le_of_ble_eq_true rfl) rfl ?_)
  intro w37 hk38 hs39 hb40
  have hz41 := hk38.size
  have hB42 := hB36.new hk38 (by omega)
  refine SR.nil ?_
  refine W.seq ?_
  refine W.regS (SR.q' (r_lda (l := [.int .i64 r.Id, .int .i64 r.Copies, .int .i64 r.Torn]) agg54 rfl (fun _ _ hu => (hb40).cell hu) rfl) <| SR.store (o := 0) (vs := [.int .i64 r.Id, .int .i64 r.Copies, .int .i64 r.Torn]) agg54.2 rfl rfl rfl rfl (((((hb14).lo hk20).kp hk26 (fun e' => by have e'' : g9 = g17 := e'; omega)).kp hk32 (fun e' => by have e'' : g9 = g17 := e'; omega)).kp hk38 (fun e' => by have e'' : g9 = g17 := e'; omega)) (Nat.le_of_ble_eq_true rfl) rfl ?_)
  intro w43 hk44 hs45 hb46
  have hz47 := hk44.size
  have hB48 := hB42.new hk44 (by omega)
  refine SR.nil ?_
  refine W.ret ?_
  refine retC rfl rfl agg54 (hb46) rfl ?_
  exact ⟨eR (eA (z_c_laws_toMap_49 r)), hB48⟩

theorem z_c_laws_szMapS_2 (L : List LMap) (nL : Nat) (hbdL : (nL : Int) ≤ 9223372036854775807) (hleL : nL = L.length) (left : Int) (hp0 : 0 ≤ left) (hp1 : left ≤ 1048576) (h1 : (left - (nL : Int)) < 0) : (-1) = szN L.length left := by
  unfold szN; split <;> omega
theorem z_c_laws_szMapS_3 (L : List LMap) (nL : Nat) (hbdL : (nL : Int) ≤ 9223372036854775807) (hleL : nL = L.length) (left : Int) (hp0 : 0 ≤ left) (hp1 : left ≤ 1048576) (h1 : ¬ ((left - (nL : Int)) < 0)) : left - (nL : Int) = szN L.length left := by
  unfold szN; split <;> omega
theorem c_laws_szMapS (w : World) {AL : Option Addr} {nL cL BL : Nat}  (L : List LMap) (hL : SlR w BL encLMap 3 AL nL cL L) (left : Int) (hp0 : 0 ≤ left) (hp1 : left ≤ 1048576) : Calls Tryd.prog 25 #[.slice AL nL cL, .int .i64 left] w fun e w' => e = .returned (.int .i64 (szN L.length left)) ∧ Lo w w' := by
  refine calls_W 12 Tryd.func25 rfl rfl rfl ?_
  have hbdL := hL.bound
  have hleL := hL.len
  have hBbL := hL.bd
  refine W.seq ?_
  refine W.regS (SR.q' (r_as (v := .int .i64 0) rfl) <| SR.nil ?_)
  refine W.seq ?_
  refine W.regS (SR.q' (r_mv (v := .int .i64 _) rfl) <| SR.q' (r_mv (v := .slice _ _ _) rfl) <| SR.q' (r_len und22 rfl) <| SR.q' (r_sub rfl rfl (by omega)) <| SR.q' (r_as (v := .int .i64 _) rfl) <| SR.nil ?_)
  refine W.seq ?_
  refine W.seq ?_
  refine W.regS (SR.q' (r_mv (v := .int .i64 _) rfl) <| SR.q' (r_lt rfl rfl) <| SR.nil ?_)
  refine W.cond_d rfl (fun h1 => ?_) (fun h1 => ?_)
  · refine W.seq ?_
    refine W.regS (SR.q' (r_as (v := .int .i64 (-1)) rfl) <| SR.nil ?_)
    refine W.ret ?_
    refine ret1 rfl (v := .int .i64 _) rfl ?_
    exact ⟨eR (eI (z_c_laws_szMapS_2 L nL hbdL hleL left hp0 hp1 h1)), (Lo.refl w)⟩
  · refine W.skip ?_
    refine W.seq ?_
    refine W.regS (SR.q' (r_mv (v := .int .i64 _) rfl) <| SR.q' (r_as (v := .int .i64 _) rfl) <| SR.nil ?_)
    refine W.ret ?_
    refine ret1 rfl (v := .int .i64 _) rfl ?_
    exact ⟨eR (eI (z_c_laws_szMapS_3 L nL hbdL hleL left hp0 hp1 h1)), (Lo.refl w)⟩

theorem z_c_laws_toMapS_8 (L : List LMap) (nL : Nat) (hbdL : (nL : Int) ≤ 9223372036854775807) (hleL : nL = L.length) (hp0 : (nL : Int) ≤ 1048576) : 0 ≤ nL := by
  omega
theorem z_c_laws_toMapS_9 (L : List LMap) (nL : Nat) (hbdL : (nL : Int) ≤ 9223372036854775807) (hleL : nL = L.length) (hp0 : (nL : Int) ≤ 1048576) : List.replicate nL (⟨0, 0, 0⟩ : LMap) = L.take 0 ++ List.replicate (nL - 0) (⟨0, 0, 0⟩ : LMap) := by
  exact tk_init
theorem z_c_laws_toMapS_33 (L : List LMap) (nL : Nat) (hbdL : (nL : Int) ≤ 9223372036854775807) (hleL : nL = L.length) (hp0 : (nL : Int) ≤ 1048576) (k : Nat) (hi16 : k ≤ nL) (h17 : (k : Int) < (nL : Int)) (x18 : LMap) (hx19 : L[k]? = some x18) (x24 : LMap) (hx25 : (L.take k ++ List.replicate (nL - k) (⟨0, 0, 0⟩ : LMap))[k]? = some x24) : (L.take k ++ List.replicate (nL - k) (⟨0, 0, 0⟩ : LMap)).set ((k : Int).toNat) x18 = L.take (k + 1) ++ List.replicate (nL - (k + 1)) (⟨0, 0, 0⟩ : LMap) := by
  exact tk_set (by assumption) hleL
theorem z_c_laws_toMapS_34 (L : List LMap) (nL : Nat) (hbdL : (nL : Int) ≤ 9223372036854775807) (hleL : nL = L.length) (hp0 : (nL : Int) ≤ 1048576) (k : Nat) (hi16 : k ≤ nL) (h17 : (k : Int) < (nL : Int)) (x18 : LMap) (hx19 : L[k]? = some x18) (x24 : LMap) (hx25 : (L.take k ++ List.replicate (nL - k) (⟨0, 0, 0⟩ : LMap))[k]? = some x24) : k + 1 ≤ nL := by
  omega
theorem z_c_laws_toMapS_35 (L : List LMap) (nL : Nat) (hbdL : (nL : Int) ≤ 9223372036854775807) (hleL : nL = L.length) (hp0 : (nL : Int) ≤ 1048576) (k : Nat) (hi16 : k ≤ nL) (h17 : (k : Int) < (nL : Int)) (x18 : LMap) (hx19 : L[k]? = some x18) (x24 : LMap) (hx25 : (L.take k ++ List.replicate (nL - k) (⟨0, 0, 0⟩ : LMap))[k]? = some x24) : nL - (k + 1) < nL - k := by
  omega
theorem z_c_laws_toMapS_36 (L : List LMap) (nL : Nat) (hbdL : (nL : Int) ≤ 9223372036854775807) (hleL : nL = L.length) (hp0 : (nL : Int) ≤ 1048576) (k : Nat) (hi16 : k ≤ nL) (h17 : ¬ ((k : Int) < (nL : Int))) : L.take k ++ List.replicate (nL - k) (⟨0, 0, 0⟩ : LMap) = L := by
  exact tk_end hleL (by assumption) (by omega)
theorem c_laws_toMapS (w : World) {AL : Option Addr} {nL cL BL : Nat}  (L : List LMap) (hL : SlR w BL encLMap 3 AL nL cL L) (hp0 : (nL : Int) ≤ 1048576) : Calls Tryd.prog 29 #[.slice AL nL cL] w fun e w' => ∃ (A1' : Option Addr) (n1' c1' : Nat), e = .returned (.slice A1' n1' c1') ∧ SlO w' w.heap.size encLMap 3 54 A1' n1' c1' L ∧ Lo w w' := by
  refine calls_W 23 Tryd.func29 rfl rfl rfl ?_
  have hbdL := hL.bound
  have hleL := hL.len
  have hBbL := hL.bd
  refine W.seq ?_
  refine W.regS (SR.q' (r_as (v := .slice none 0 0) rfl) <| SR.nil ?_)
  refine W.seq ?_
  refine W.regS (SR.q' (r_mv (v := .slice _ _ _) rfl) <| SR.q' (r_len und22 rfl) <| SR.make (m := nL) (zx := (⟨0, 0, 0⟩ : LMap)) (enc := encLMap) tel32 rfl (fun _ => rfl) rfl rfl (by omega) (by omega) ?_)
  intro g1 w2 hg3 hk4 hO5
  have hz6 := hk4.size
  have hB7 := (Lo.refl w).lo hk4
  refine SR.q' (r_as (v := .slice _ _ _) rfl) <| SR.nil ?_
  refine W.seq ?_
  refine W.seq ?_
  refine W.regS (SR.q' (r_as (v := .int .i64 0) rfl) <| SR.nil ?_)
  refine W.block ?_
  refine W.loop (σ := Nat) (fun g => [(0, .slice AL nL cL), (2, .slice none 0 0), (3, .slice (some (⟨g1, 0, none⟩ : Addr)) nL nL), (4, .int .i64 (g : Int))]) (fun g w' => (Lo w w') ∧ (SlR w' BL encLMap 3 AL nL cL L) ∧ (SlO w' w.heap.size encLMap 3 54 (some (⟨g1, 0, none⟩ : Addr)) nL nL (L.take g ++ List.replicate (nL - g) (⟨0, 0, 0⟩ : LMap))) ∧ (g ≤ nL)) (fun g => nL - g) 0 ?_ ?_ ?_
  · exact ⟨rfl, rfl, rfl, rfl, trivial⟩
  · exact ⟨hB7, (hL).lo hk4, (SlO.eqv (hO5) (z_c_laws_toMapS_9 L nL hbdL hleL hp0)), (z_c_laws_toMapS_8 L nL hbdL hleL hp0)⟩
  · rintro k f10 w11 hP13
    obtain ⟨hB12, hm14, hm15, hi16⟩ : (Lo w w11) ∧ (SlR w11 BL encLMap 3 AL nL cL L) ∧ (SlO w11 w.heap.size encLMap 3 54 (some (⟨g1, 0, none⟩ : Addr)) nL nL (L.take k ++ List.replicate (nL - k) (⟨0, 0, 0⟩ : LMap))) ∧ (k ≤ nL) := hP13
    refine (?_ : W _ _ _ _ _ (act _ (sets f10 [(0, .slice AL nL cL), (2, .slice none 0 0), (3, .slice (some (⟨g1, 0, none⟩ : Addr)) nL nL), (4, .int .i64 (k : Int))])) _)
    have hzw11 := hB12.size
    refine W.seq ?_
    refine W.seq ?_
    refine W.regS (SR.q' (r_mv (v := .int .i64 _) rfl) <| SR.q' (r_mv (v := .slice _ _ _) rfl) <| SR.q' (r_len und22 rfl) <| SR.q' (r_lt rfl rfl) <| SR.nil ?_)
    refine W.cond_d rfl (fun h17 => ?_) (fun h17 => ?_)
    · refine W.skip ?_
      refine W.seq ?_
      refine W.block ?_
      refine W.regS (SR.q' (r_mv (v := .slice _ _ _) rfl) <| SR.q' (r_mv (v := .int .i64 _) rfl) <| SR.q' (r_mv (v := .slice _ _ _) rfl) <| SR.q' (r_mv (v := .int .i64 _) rfl) <| ?_)
      obtain ⟨x18, hx19⟩ := (hm14).get (i := k) (by omega)
      refine SR.q' (r_ixR tsl22 (hm14) rfl rfl (by omega)) <| SR.q' (r_lda (l := encLMap x18) agg79 rfl (fun _ _ hu => (hm14).cell hx19 hu) ((hm14).esz _)) <| SR.call ent49 (c_laws_toMap w11 x18) rfl ?_
      rintro e w20 ⟨rfl, hk21⟩
      refine ⟨_, rfl, ?_⟩
      have hz22 := hk21.size
      have hB23 := hB12.lo hk21
      obtain ⟨x24, hx25⟩ := (((hm15).lo hk21).rd).get (i := k) (by omega)
      refine SR.q' (r_ixR tsl32 (((hm15).lo hk21).rd) rfl rfl (by omega)) <| SR.storeO (o := 0) (vs := [.int .i64 x18.Id, .int .i64 x18.Copies, .int .i64 x18.Torn]) (x1 := x18) agg54.2 rfl rfl rfl rfl ((hm15).lo hk21) hx25 rfl (Nat.le_of_ble_eq_true rfl) rfl ?_
      intro w26 hk27 hs28 hO29
      have hz30 := hk27.size
      have hB31 := hB23.step hk27 (fun i_ hi_ e' => by have := (((hm15).lo hk21)).base_le e'; first | omega | (exfalso; omega) | exact e' | exact .inl e' | exact .inr e')
      have hx32 : ((L.take k ++ List.replicate (nL - k) (⟨0, 0, 0⟩ : LMap)).set ((k : Int).toNat) x18)[(k : Int).toNat]? = some (x18) := List.getElem?_set_self (List.getElem?_eq_some_iff.1 hx25).1
      refine SR.nil ?_
      refine W.regS (SR.q' (r_mv (v := .int .i64 _) rfl) <| SR.q' (r_add rfl rfl (by omega)) <| SR.q' (r_as (v := .int .i64 _) rfl) <| SR.nil ?_)
      refine ⟨k + 1, _, rfl, ⟨rfl, rfl, rfl, rfl, trivial⟩, ⟨hB31, ((hm14).lo hk21).kp hk27 (fun b_ hb e' => by have := (((hm15).lo hk21)).base_le e'; omega), (SlO.eqv (hO29) (z_c_laws_toMapS_33 L nL hbdL hleL hp0 k hi16 h17 x18 hx19 x24 hx25)), ?_⟩, ?_⟩
      · exact (z_c_laws_toMapS_34 L nL hbdL hleL hp0 k hi16 h17 x18 hx19 x24 hx25)
      · exact (z_c_laws_toMapS_35 L nL hbdL hleL hp0 k hi16 h17 x18 hx19 x24 hx25)
    · refine W.exit (xin_here ?_)
      refine W.seq ?_
      refine W.regS (SR.q' (r_mv (v := .slice _ _ _) rfl) <| SR.q' (r_as (v := .slice _ _ _) rfl) <| SR.nil ?_)
      refine W.ret ?_
      refine ret1 rfl (v := .slice _ _ _) rfl ?_
      exact ⟨(some (⟨g1, 0, none⟩ : Addr)), nL, nL, eR rfl, (SlO.eqv ((hm15).down (by omega)) (z_c_laws_toMapS_36 L nL hbdL hleL hp0 k hi16 h17)), hB12⟩

theorem z_c_laws_eqMap_18 (a : LMap) (b : LMap) (h17 : ¬ (a.Id = b.Id)) : ¬ (a = b) := by
  cases a; cases b; simp_all
theorem z_c_laws_eqMap_20 (a : LMap) (b : LMap) (h17 : a.Id = b.Id) (h19 : ¬ (a.Copies = b.Copies)) : ¬ (a = b) := by
  cases a; cases b; simp_all
theorem z_c_laws_eqMap_22 (a : LMap) (b : LMap) (h17 : a.Id = b.Id) (h19 : a.Copies = b.Copies) (h21 : ¬ (a.Torn = b.Torn)) : ¬ (a = b) := by
  cases a; cases b; simp_all
theorem z_c_laws_eqMap_23 (a : LMap) (b : LMap) (h17 : a.Id = b.Id) (h19 : a.Copies = b.Copies) (h21 : a.Torn = b.Torn) : a = b := by
  cases a; cases b; simp_all
theorem c_laws_eqMap (w : World) (a : LMap) (b : LMap) : Calls Tryd.prog 57 #[.agg (List.toArray (encLMap a)), .agg (List.toArray (encLMap b))] w fun e w' => e = .returned (.bool (decide (a = b))) ∧ Lo w w' := by
  refine calls_W 20 Tryd.func57 rfl rfl rfl ?_
  refine W.seq ?_
  refine W.regS (SR.box (v := .agg (List.toArray _)) (l := [.int .i64 a.Id, .int .i64 a.Copies, .int .i64 a.Torn]) rfl rfl ?_)
  intro g1 w2 hg3 hk4 hs5 hb6
  have hz7 := hk4.size
  have hB8 := (Lo.refl w).lo hk4
  refine SR.box (v := .agg (List.toArray _)) (l := [.int .i64 b.Id, .int .i64 b.Copies, .int .i64 b.Torn]) rfl rfl ?_
  intro g9 w10 hg11 hk12 hs13 hb14
  have hz15 := hk12.size
  have hB16 := hB8.lo hk12
  refine SR.q' (r_as (v := .bool false) rfl) <| SR.nil ?_
  refine W.seq ?_
  refine W.seq ?_
  refine W.regS (SR.q' (r_fa fa54_0 rfl) <| SR.q' (r_ld (v := .int .i64 a.Id) sca3 rfl (((hb6).lo hk12).cell rfl)) <| SR.q' (r_fa fa54_0 rfl) <| SR.q' (r_ld (v := .int .i64 b.Id) sca3 rfl ((hb14).cell rfl)) <| SR.q' (r_ne rfl rfl) <| SR.nil ?_)
  refine W.cond_n rfl (fun h17 => ?_) (fun h17 => ?_)
  · refine W.seq ?_
    refine W.regS (SR.q' (r_as (v := .bool false) rfl) <| SR.nil ?_)
    refine W.ret ?_
    refine ret1 rfl (v := .bool _) rfl ?_
    exact ⟨eR (eDF (z_c_laws_eqMap_18 a b h17)), hB16⟩
  · refine W.skip ?_
    refine W.seq ?_
    refine W.seq ?_
    refine W.regS (SR.q' (r_fa fa54_1 rfl) <| SR.q' (r_ld (v := .int .i64 a.Copies) sca3 rfl (((hb6).lo hk12).cell rfl)) <| SR.q' (r_fa fa54_1 rfl) <| SR.q' (r_ld (v := .int .i64 b.Copies) sca3 rfl ((hb14).cell rfl)) <| SR.q' (r_ne rfl rfl) <| SR.nil ?_)
    refine W.cond_n rfl (fun h19 => ?_) (fun h19 => ?_)
    · refine W.seq ?_
      refine W.regS (SR.q' (r_as (v := .bool false) rfl) <| SR.nil ?_)
      refine W.ret ?_
      refine ret1 rfl (v := .bool _) rfl ?_
      exact ⟨eR (eDF (z_c_laws_eqMap_20 a b h17 h19)), hB16⟩
    · refine W.skip ?_
      refine W.seq ?_
      refine W.seq ?_
      refine W.regS (SR.q' (r_fa fa54_2 rfl) <| SR.q' (r_ld (v := .int .i64 a.Torn) sca3 rfl (((hb6).lo hk12).cell rfl)) <| SR.q' (r_fa fa54_2 rfl) <| SR.q' (r_ld (v := .int .i64 b.Torn) sca3 rfl ((hb14).cell rfl)) <| SR.q' (r_ne rfl rfl) <| SR.nil ?_)
      refine W.cond_n rfl (fun h21 => ?_) (fun h21 => ?_)
      · refine W.seq ?_
        refine W.regS (SR.q' (r_as (v := .bool false) rfl) <| SR.nil ?_)
        refine W.ret ?_
        refine ret1 rfl (v := .bool _) rfl ?_
        exact ⟨eR (eDF (z_c_laws_eqMap_22 a b h17 h19 h21)), hB16⟩
      · refine W.skip ?_
        refine W.seq ?_
        refine W.regS (SR.q' (r_as (v := .bool true) rfl) <| SR.nil ?_)
        refine W.ret ?_
        refine ret1 rfl (v := .bool _) rfl ?_
        exact ⟨eR (eDT (z_c_laws_eqMap_23 a b h17 h19 h21)), hB16⟩

theorem z_c_laws_eqMapS_2 (L : List LMap) (nL : Nat) (hbdL : (nL : Int) ≤ 9223372036854775807) (hleL : nL = L.length) (M : List LMap) (nM : Nat) (hbdM : (nM : Int) ≤ 9223372036854775807) (hleM : nM = M.length) (h1 : ¬ ((nL : Int) = (nM : Int))) : ¬ (L = M) := by
  first | (intro e; subst e; omega) | exact ne_at ‹L[_]? = some _› ‹M[_]? = some _› ‹_› | exact take_end (And.right ‹_ ∧ L.take _ = M.take _›) hleL hleM (by omega) ‹_›
theorem z_c_laws_eqMapS_3 (L : List LMap) (nL : Nat) (hbdL : (nL : Int) ≤ 9223372036854775807) (hleL : nL = L.length) (M : List LMap) (nM : Nat) (hbdM : (nM : Int) ≤ 9223372036854775807) (hleM : nM = M.length) (h1 : (nL : Int) = (nM : Int)) : 0 ≤ nL ∧ L.take 0 = M.take 0 := by
  simp
theorem z_c_laws_eqMapS_21 (L : List LMap) (nL : Nat) (hbdL : (nL : Int) ≤ 9223372036854775807) (hleL : nL = L.length) (M : List LMap) (nM : Nat) (hbdM : (nM : Int) ≤ 9223372036854775807) (hleM : nM = M.length) (h1 : (nL : Int) = (nM : Int)) (k : Nat) (hi10 : k ≤ nL ∧ L.take k = M.take k) (h11 : (k : Int) < (nL : Int)) (x12 : LMap) (hx13 : L[k]? = some x12) (x14 : LMap) (hx15 : M[k]? = some x14) (h20 : ¬ (x12 = x14)) : ¬ (L = M) := by
  first | (intro e; subst e; omega) | exact ne_at ‹L[_]? = some _› ‹M[_]? = some _› ‹_› | exact take_end (And.right ‹_ ∧ L.take _ = M.take _›) hleL hleM (by omega) ‹_›
theorem z_c_laws_eqMapS_22 (L : List LMap) (nL : Nat) (hbdL : (nL : Int) ≤ 9223372036854775807) (hleL : nL = L.length) (M : List LMap) (nM : Nat) (hbdM : (nM : Int) ≤ 9223372036854775807) (hleM : nM = M.length) (h1 : (nL : Int) = (nM : Int)) (k : Nat) (hi10 : k ≤ nL ∧ L.take k = M.take k) (h11 : (k : Int) < (nL : Int)) (x12 : LMap) (hx13 : L[k]? = some x12) (x14 : LMap) (hx15 : M[k]? = some x14) (h20 : x12 = x14) : k + 1 ≤ nL ∧ L.take (k + 1) = M.take (k + 1) := by
  exact ⟨by omega, take_next (And.right ‹_ ∧ L.take _ = M.take _›) ‹L[_]? = some _› ‹M[_]? = some _› ‹_›⟩
theorem z_c_laws_eqMapS_23 (L : List LMap) (nL : Nat) (hbdL : (nL : Int) ≤ 9223372036854775807) (hleL : nL = L.length) (M : List LMap) (nM : Nat) (hbdM : (nM : Int) ≤ 9223372036854775807) (hleM : nM = M.length) (h1 : (nL : Int) = (nM : Int)) (k : Nat) (hi10 : k ≤ nL ∧ L.take k = M.take k) (h11 : (k : Int) < (nL : Int)) (x12 : LMap) (hx13 : L[k]? = some x12) (x14 : LMap) (hx15 : M[k]? = some x14) (h20 : x12 = x14) : nL - (k + 1) < nL - k := by
  omega
theorem z_c_laws_eqMapS_24 (L : List LMap) (nL : Nat) (hbdL : (nL : Int) ≤ 9223372036854775807) (hleL : nL = L.length) (M : List LMap) (nM : Nat) (hbdM : (nM : Int) ≤ 9223372036854775807) (hleM : nM = M.length) (h1 : (nL : Int) = (nM : Int)) (k : Nat) (hi10 : k ≤ nL ∧ L.take k = M.take k) (h11 : ¬ ((k : Int) < (nL : Int))) : L = M := by
  first | (intro e; subst e; omega) | exact ne_at ‹L[_]? = some _› ‹M[_]? = some _› ‹_› | exact take_end (And.right ‹_ ∧ L.take _ = M.take _›) hleL hleM (by omega) ‹_›
theorem c_laws_eqMapS (w : World) {AL : Option Addr} {nL cL BL : Nat}  (L : List LMap) (hL : SlR w BL encLMap 3 AL nL cL L) {AM : Option Addr} {nM cM BM : Nat}  (M : List LMap) (hM : SlR w BM encLMap 3 AM nM cM M) : Calls Tryd.prog 39 #[.slice AL nL cL, .slice AM nM cM] w fun e w' => e = .returned (.bool (decide (L = M))) ∧ Lo w w' := by
  refine calls_W 27 Tryd.func39 rfl rfl rfl ?_
  have hbdL := hL.bound
  have hleL := hL.len
  have hBbL := hL.bd
  have hbdM := hM.bound
  have hleM := hM.len
  have hBbM := hM.bd
  refine W.seq ?_
  refine W.regS (SR.q' (r_as (v := .bool false) rfl) <| SR.nil ?_)
  refine W.seq ?_
  refine W.seq ?_
  refine W.regS (SR.q' (r_mv (v := .slice _ _ _) rfl) <| SR.q' (r_len und32 rfl) <| SR.q' (r_mv (v := .slice _ _ _) rfl) <| SR.q' (r_len und32 rfl) <| SR.q' (r_ne rfl rfl) <| SR.nil ?_)
  refine W.cond_n rfl (fun h1 => ?_) (fun h1 => ?_)
  · refine W.seq ?_
    refine W.regS (SR.q' (r_as (v := .bool false) rfl) <| SR.nil ?_)
    refine W.ret ?_
    refine ret1 rfl (v := .bool _) rfl ?_
    exact ⟨eR (eDF (z_c_laws_eqMapS_2 L nL hbdL hleL M nM hbdM hleM h1)), (Lo.refl w)⟩
  · refine W.skip ?_
    refine W.seq ?_
    refine W.seq ?_
    refine W.regS (SR.q' (r_as (v := .int .i64 0) rfl) <| SR.nil ?_)
    refine W.block ?_
    refine W.loop (σ := Nat) (fun g => [(0, .slice AL nL cL), (1, .slice AM nM cM), (5, .int .i64 (g : Int))]) (fun g w' => (Lo w w') ∧ (SlR w' BL encLMap 3 AL nL cL L) ∧ (SlR w' BM encLMap 3 AM nM cM M) ∧ (g ≤ nL ∧ L.take g = M.take g)) (fun g => nL - g) 0 ?_ ?_ ?_
    · exact ⟨rfl, rfl, rfl, trivial⟩
    · exact ⟨(Lo.refl w), hL, hM, (z_c_laws_eqMapS_3 L nL hbdL hleL M nM hbdM hleM h1)⟩
    · rintro k f4 w5 hP7
      obtain ⟨hB6, hm8, hm9, hi10⟩ : (Lo w w5) ∧ (SlR w5 BL encLMap 3 AL nL cL L) ∧ (SlR w5 BM encLMap 3 AM nM cM M) ∧ (k ≤ nL ∧ L.take k = M.take k) := hP7
      refine (?_ : W _ _ _ _ _ (act _ (sets f4 [(0, .slice AL nL cL), (1, .slice AM nM cM), (5, .int .i64 (k : Int))])) _)
      have hzw5 := hB6.size
      refine W.seq ?_
      refine W.seq ?_
      refine W.regS (SR.q' (r_mv (v := .int .i64 _) rfl) <| SR.q' (r_mv (v := .slice _ _ _) rfl) <| SR.q' (r_len und32 rfl) <| SR.q' (r_lt rfl rfl) <| SR.nil ?_)
      refine W.cond_d rfl (fun h11 => ?_) (fun h11 => ?_)
      · refine W.skip ?_
        refine W.seq ?_
        refine W.block ?_
        refine W.seq ?_
        refine W.regD mo (by kernel_rfl) (QR.q' (fun w' hw' => r_mv (v := .slice _ _ _) rfl) <| QR.q' (fun w' hw' => r_mv (v := .int .i64 _) rfl) <| ?_)
        obtain ⟨x12, hx13⟩ := (hm8).get (i := k) (by omega)
        refine QR.q' (fun w' hw' => r_ixR tsl32 (((hm8).lo hw')) rfl rfl (by omega)) <| QR.q' (fun w' hw' => r_lda (l := encLMap x12) agg54 rfl (fun _ _ hu => (((hm8).lo hw')).cell hx13 hu) ((((hm8).lo hw')).esz _)) <| QR.q' (fun w' hw' => r_mv (v := .slice _ _ _) rfl) <| QR.q' (fun w' hw' => r_mv (v := .int .i64 _) rfl) <| ?_
        obtain ⟨x14, hx15⟩ := (hm9).get (i := k) (by omega)
        refine QR.q' (fun w' hw' => r_ixR tsl32 (((hm9).lo hw')) rfl rfl (by omega)) <| QR.q' (fun w' hw' => r_lda (l := encLMap x14) agg54 rfl (fun _ _ hu => (((hm9).lo hw')).cell hx15 hu) ((((hm9).lo hw')).esz _)) <| QR.call ent57 (fun w' hw' => (c_laws_eqMap w' x12 x14).mono fun _ _ h => ⟨h.1, hw'.trans h.2⟩) rfl <| QR.q' (fun w' hw' => r_not rfl) <| QR.nil ?_
        intro w16 hk17
        have hz18 := hk17.size
        have hB19 := hB6.lo hk17
        refine W.cond_n rfl (fun h20 => ?_) (fun h20 => ?_)
        · refine W.seq ?_
          refine W.regS (SR.q' (r_as (v := .bool false) rfl) <| SR.nil ?_)
          refine W.ret ?_
          refine ret1 rfl (v := .bool _) rfl ?_
          exact ⟨eR (eDF (z_c_laws_eqMapS_21 L nL hbdL hleL M nM hbdM hleM h1 k hi10 h11 x12 hx13 x14 hx15 h20)), hB19⟩
        · refine W.skip ?_
          refine W.regS (SR.q' (r_mv (v := .int .i64 _) rfl) <| SR.q' (r_add rfl rfl (by omega)) <| SR.q' (r_as (v := .int .i64 _) rfl) <| SR.nil ?_)
          refine ⟨k + 1, _, rfl, ⟨rfl, rfl, rfl, trivial⟩, ⟨hB19, (hm8).lo hk17, (hm9).lo hk17, ?_⟩, ?_⟩
          · exact (z_c_laws_eqMapS_22 L nL hbdL hleL M nM hbdM hleM h1 k hi10 h11 x12 hx13 x14 hx15 h20)
          · exact (z_c_laws_eqMapS_23 L nL hbdL hleL M nM hbdM hleM h1 k hi10 h11 x12 hx13 x14 hx15 h20)
      · refine W.exit (xin_here ?_)
        refine W.seq ?_
        refine W.regS (SR.q' (r_as (v := .bool true) rfl) <| SR.nil ?_)
        refine W.ret ?_
        refine ret1 rfl (v := .bool _) rfl ?_
        exact ⟨eR (eDT (z_c_laws_eqMapS_24 L nL hbdL hleL M nM hbdM hleM h1 k hi10 h11)), hB6⟩

theorem z_c_laws_toAway_43 (r : Away) : ([.int .i64 r.Map, .int .i64 r.Reader] : List Value) = encAway r := by
  first | rfl | (first | rfl | omega | grind)
theorem c_laws_toAway (w : World) (r : Away) : Calls Tryd.prog 50 #[.agg (List.toArray (encAway r))] w fun e w' => e = .returned (.agg (List.toArray (encAway r))) ∧ Lo w w' := by
  refine calls_W 11 Tryd.func50 rfl rfl rfl ?_
  refine W.seq ?_
  refine W.regS (SR.box (v := .agg (List.toArray _)) (l := [.int .i64 r.Map, .int .i64 r.Reader]) rfl rfl ?_)
  intro g1 w2 hg3 hk4 hs5 hb6
  have hz7 := hk4.size
  have hB8 := (Lo.refl w).lo hk4
  refine SR.alloc (l := [.int .i64 0, .int .i64 0]) tz64 rfl ?_
  intro g9 w10 hg11 hk12 hs13 hb14
  have hz15 := hk12.size
  have hB16 := hB8.lo hk12
  refine SR.nil ?_
  refine W.seq ?_
  refine W.regS (SR.alloc (l := [.int .i64 0, .int .i64 0]) tz64 rfl ?_)
  intro g17 w18 hg19 hk20 hs21 hb22
  have hz23 := hk20.size
  have hB24 := hB16.lo hk20
  refine SR.nil ?_
  refine W.seq ?_
  refine W.regS (SR.q' (r_fa fa81_0 rfl) <| SR.q' (r_ld (v := .int .i64 r.Map) sca3 rfl ((((hb6).lo hk12).lo hk20).cell rfl)) <| SR.q' (r_fa fa64_0 rfl) <| SR.store (o := 0) (vs := [.int .i64 r.Map]) sca3.2 rfl rfl rfl rfl (hb22) (Nat.le_of_ble_eq_true rfl) rfl ?_)
  intro w25 hk26 hs27 hb28
  have hz29 := hk26.size
  have hB30 := hB24.new hk26 (by omega)
  refine SR.nil ?_
  refine W.seq ?_
  refine W.regS (SR.q' (r_fa fa81_1 rfl) <| SR.q' (r_ld (v := .int .i64 r.Reader) sca3 rfl (((((hb6).lo hk12).lo hk20).kp hk26 (fun e' => by have e'' : g1 = g17 := e'; omega)).cell rfl)) <| SR.q' (r_fa fa64_1 rfl) <| SR.store (o := 1) (vs := [.int .i64 r.Reader]) sca3.2 rfl rfl rfl rfl (hb28) (Nat.le_of_ble_eq_true rfl) rfl ?_)
  intro w31 hk32 hs33 hb34
  have hz35 := hk32.size
  have hB36 := hB30.new hk32 (by omega)
  refine SR.nil ?_
  refine W.seq ?_
  refine W.regS (SR.q' (r_lda (l := [.int .i64 r.Map, .int .i64 r.Reader]) agg64 rfl (fun _ _ hu => (hb34).cell hu) rfl) <| SR.store (o := 0) (vs := [.int .i64 r.Map, .int .i64 r.Reader]) agg64.2 rfl rfl rfl rfl ((((hb14).lo hk20).kp hk26 (fun e' => by have e'' : g9 = g17 := e'; omega)).kp hk32 (fun e' => by have e'' : g9 = g17 := e'; omega)) (Nat.le_of_ble_eq_true rfl) rfl ?_)
  intro w37 hk38 hs39 hb40
  have hz41 := hk38.size
  have hB42 := hB36.new hk38 (by omega)
  refine SR.nil ?_
  refine W.ret ?_
  refine retC rfl rfl agg64 (hb40) rfl ?_
  exact ⟨eR (eA (z_c_laws_toAway_43 r)), hB42⟩

theorem z_c_laws_szAwayS_2 (L : List Away) (nL : Nat) (hbdL : (nL : Int) ≤ 9223372036854775807) (hleL : nL = L.length) (left : Int) (hp0 : 0 ≤ left) (hp1 : left ≤ 1048576) (h1 : (left - (nL : Int)) < 0) : (-1) = szN L.length left := by
  unfold szN; split <;> omega
theorem z_c_laws_szAwayS_3 (L : List Away) (nL : Nat) (hbdL : (nL : Int) ≤ 9223372036854775807) (hleL : nL = L.length) (left : Int) (hp0 : 0 ≤ left) (hp1 : left ≤ 1048576) (h1 : ¬ ((left - (nL : Int)) < 0)) : left - (nL : Int) = szN L.length left := by
  unfold szN; split <;> omega
theorem c_laws_szAwayS (w : World) {AL : Option Addr} {nL cL BL : Nat}  (L : List Away) (hL : SlR w BL encAway 2 AL nL cL L) (left : Int) (hp0 : 0 ≤ left) (hp1 : left ≤ 1048576) : Calls Tryd.prog 26 #[.slice AL nL cL, .int .i64 left] w fun e w' => e = .returned (.int .i64 (szN L.length left)) ∧ Lo w w' := by
  refine calls_W 12 Tryd.func26 rfl rfl rfl ?_
  have hbdL := hL.bound
  have hleL := hL.len
  have hBbL := hL.bd
  refine W.seq ?_
  refine W.regS (SR.q' (r_as (v := .int .i64 0) rfl) <| SR.nil ?_)
  refine W.seq ?_
  refine W.regS (SR.q' (r_mv (v := .int .i64 _) rfl) <| SR.q' (r_mv (v := .slice _ _ _) rfl) <| SR.q' (r_len und23 rfl) <| SR.q' (r_sub rfl rfl (by omega)) <| SR.q' (r_as (v := .int .i64 _) rfl) <| SR.nil ?_)
  refine W.seq ?_
  refine W.seq ?_
  refine W.regS (SR.q' (r_mv (v := .int .i64 _) rfl) <| SR.q' (r_lt rfl rfl) <| SR.nil ?_)
  refine W.cond_d rfl (fun h1 => ?_) (fun h1 => ?_)
  · refine W.seq ?_
    refine W.regS (SR.q' (r_as (v := .int .i64 (-1)) rfl) <| SR.nil ?_)
    refine W.ret ?_
    refine ret1 rfl (v := .int .i64 _) rfl ?_
    exact ⟨eR (eI (z_c_laws_szAwayS_2 L nL hbdL hleL left hp0 hp1 h1)), (Lo.refl w)⟩
  · refine W.skip ?_
    refine W.seq ?_
    refine W.regS (SR.q' (r_mv (v := .int .i64 _) rfl) <| SR.q' (r_as (v := .int .i64 _) rfl) <| SR.nil ?_)
    refine W.ret ?_
    refine ret1 rfl (v := .int .i64 _) rfl ?_
    exact ⟨eR (eI (z_c_laws_szAwayS_3 L nL hbdL hleL left hp0 hp1 h1)), (Lo.refl w)⟩

theorem z_c_laws_toAwayS_8 (L : List Away) (nL : Nat) (hbdL : (nL : Int) ≤ 9223372036854775807) (hleL : nL = L.length) (hp0 : (nL : Int) ≤ 1048576) : 0 ≤ nL := by
  omega
theorem z_c_laws_toAwayS_9 (L : List Away) (nL : Nat) (hbdL : (nL : Int) ≤ 9223372036854775807) (hleL : nL = L.length) (hp0 : (nL : Int) ≤ 1048576) : List.replicate nL (⟨0, 0⟩ : Away) = L.take 0 ++ List.replicate (nL - 0) (⟨0, 0⟩ : Away) := by
  exact tk_init
theorem z_c_laws_toAwayS_33 (L : List Away) (nL : Nat) (hbdL : (nL : Int) ≤ 9223372036854775807) (hleL : nL = L.length) (hp0 : (nL : Int) ≤ 1048576) (k : Nat) (hi16 : k ≤ nL) (h17 : (k : Int) < (nL : Int)) (x18 : Away) (hx19 : L[k]? = some x18) (x24 : Away) (hx25 : (L.take k ++ List.replicate (nL - k) (⟨0, 0⟩ : Away))[k]? = some x24) : (L.take k ++ List.replicate (nL - k) (⟨0, 0⟩ : Away)).set ((k : Int).toNat) x18 = L.take (k + 1) ++ List.replicate (nL - (k + 1)) (⟨0, 0⟩ : Away) := by
  exact tk_set (by assumption) hleL
theorem z_c_laws_toAwayS_34 (L : List Away) (nL : Nat) (hbdL : (nL : Int) ≤ 9223372036854775807) (hleL : nL = L.length) (hp0 : (nL : Int) ≤ 1048576) (k : Nat) (hi16 : k ≤ nL) (h17 : (k : Int) < (nL : Int)) (x18 : Away) (hx19 : L[k]? = some x18) (x24 : Away) (hx25 : (L.take k ++ List.replicate (nL - k) (⟨0, 0⟩ : Away))[k]? = some x24) : k + 1 ≤ nL := by
  omega
theorem z_c_laws_toAwayS_35 (L : List Away) (nL : Nat) (hbdL : (nL : Int) ≤ 9223372036854775807) (hleL : nL = L.length) (hp0 : (nL : Int) ≤ 1048576) (k : Nat) (hi16 : k ≤ nL) (h17 : (k : Int) < (nL : Int)) (x18 : Away) (hx19 : L[k]? = some x18) (x24 : Away) (hx25 : (L.take k ++ List.replicate (nL - k) (⟨0, 0⟩ : Away))[k]? = some x24) : nL - (k + 1) < nL - k := by
  omega
theorem z_c_laws_toAwayS_36 (L : List Away) (nL : Nat) (hbdL : (nL : Int) ≤ 9223372036854775807) (hleL : nL = L.length) (hp0 : (nL : Int) ≤ 1048576) (k : Nat) (hi16 : k ≤ nL) (h17 : ¬ ((k : Int) < (nL : Int))) : L.take k ++ List.replicate (nL - k) (⟨0, 0⟩ : Away) = L := by
  exact tk_end hleL (by assumption) (by omega)
theorem c_laws_toAwayS (w : World) {AL : Option Addr} {nL cL BL : Nat}  (L : List Away) (hL : SlR w BL encAway 2 AL nL cL L) (hp0 : (nL : Int) ≤ 1048576) : Calls Tryd.prog 30 #[.slice AL nL cL] w fun e w' => ∃ (A1' : Option Addr) (n1' c1' : Nat), e = .returned (.slice A1' n1' c1') ∧ SlO w' w.heap.size encAway 2 64 A1' n1' c1' L ∧ Lo w w' := by
  refine calls_W 23 Tryd.func30 rfl rfl rfl ?_
  have hbdL := hL.bound
  have hleL := hL.len
  have hBbL := hL.bd
  refine W.seq ?_
  refine W.regS (SR.q' (r_as (v := .slice none 0 0) rfl) <| SR.nil ?_)
  refine W.seq ?_
  refine W.regS (SR.q' (r_mv (v := .slice _ _ _) rfl) <| SR.q' (r_len und23 rfl) <| SR.make (m := nL) (zx := (⟨0, 0⟩ : Away)) (enc := encAway) tel33 rfl (fun _ => rfl) rfl rfl (by omega) (by omega) ?_)
  intro g1 w2 hg3 hk4 hO5
  have hz6 := hk4.size
  have hB7 := (Lo.refl w).lo hk4
  refine SR.q' (r_as (v := .slice _ _ _) rfl) <| SR.nil ?_
  refine W.seq ?_
  refine W.seq ?_
  refine W.regS (SR.q' (r_as (v := .int .i64 0) rfl) <| SR.nil ?_)
  refine W.block ?_
  refine W.loop (σ := Nat) (fun g => [(0, .slice AL nL cL), (2, .slice none 0 0), (3, .slice (some (⟨g1, 0, none⟩ : Addr)) nL nL), (4, .int .i64 (g : Int))]) (fun g w' => (Lo w w') ∧ (SlR w' BL encAway 2 AL nL cL L) ∧ (SlO w' w.heap.size encAway 2 64 (some (⟨g1, 0, none⟩ : Addr)) nL nL (L.take g ++ List.replicate (nL - g) (⟨0, 0⟩ : Away))) ∧ (g ≤ nL)) (fun g => nL - g) 0 ?_ ?_ ?_
  · exact ⟨rfl, rfl, rfl, rfl, trivial⟩
  · exact ⟨hB7, (hL).lo hk4, (SlO.eqv (hO5) (z_c_laws_toAwayS_9 L nL hbdL hleL hp0)), (z_c_laws_toAwayS_8 L nL hbdL hleL hp0)⟩
  · rintro k f10 w11 hP13
    obtain ⟨hB12, hm14, hm15, hi16⟩ : (Lo w w11) ∧ (SlR w11 BL encAway 2 AL nL cL L) ∧ (SlO w11 w.heap.size encAway 2 64 (some (⟨g1, 0, none⟩ : Addr)) nL nL (L.take k ++ List.replicate (nL - k) (⟨0, 0⟩ : Away))) ∧ (k ≤ nL) := hP13
    refine (?_ : W _ _ _ _ _ (act _ (sets f10 [(0, .slice AL nL cL), (2, .slice none 0 0), (3, .slice (some (⟨g1, 0, none⟩ : Addr)) nL nL), (4, .int .i64 (k : Int))])) _)
    have hzw11 := hB12.size
    refine W.seq ?_
    refine W.seq ?_
    refine W.regS (SR.q' (r_mv (v := .int .i64 _) rfl) <| SR.q' (r_mv (v := .slice _ _ _) rfl) <| SR.q' (r_len und23 rfl) <| SR.q' (r_lt rfl rfl) <| SR.nil ?_)
    refine W.cond_d rfl (fun h17 => ?_) (fun h17 => ?_)
    · refine W.skip ?_
      refine W.seq ?_
      refine W.block ?_
      refine W.regS (SR.q' (r_mv (v := .slice _ _ _) rfl) <| SR.q' (r_mv (v := .int .i64 _) rfl) <| SR.q' (r_mv (v := .slice _ _ _) rfl) <| SR.q' (r_mv (v := .int .i64 _) rfl) <| ?_)
      obtain ⟨x18, hx19⟩ := (hm14).get (i := k) (by omega)
      refine SR.q' (r_ixR tsl23 (hm14) rfl rfl (by omega)) <| SR.q' (r_lda (l := encAway x18) agg81 rfl (fun _ _ hu => (hm14).cell hx19 hu) ((hm14).esz _)) <| SR.call ent50 (c_laws_toAway w11 x18) rfl ?_
      rintro e w20 ⟨rfl, hk21⟩
      refine ⟨_, rfl, ?_⟩
      have hz22 := hk21.size
      have hB23 := hB12.lo hk21
      obtain ⟨x24, hx25⟩ := (((hm15).lo hk21).rd).get (i := k) (by omega)
      refine SR.q' (r_ixR tsl33 (((hm15).lo hk21).rd) rfl rfl (by omega)) <| SR.storeO (o := 0) (vs := [.int .i64 x18.Map, .int .i64 x18.Reader]) (x1 := x18) agg64.2 rfl rfl rfl rfl ((hm15).lo hk21) hx25 rfl (Nat.le_of_ble_eq_true rfl) rfl ?_
      intro w26 hk27 hs28 hO29
      have hz30 := hk27.size
      have hB31 := hB23.step hk27 (fun i_ hi_ e' => by have := (((hm15).lo hk21)).base_le e'; first | omega | (exfalso; omega) | exact e' | exact .inl e' | exact .inr e')
      have hx32 : ((L.take k ++ List.replicate (nL - k) (⟨0, 0⟩ : Away)).set ((k : Int).toNat) x18)[(k : Int).toNat]? = some (x18) := List.getElem?_set_self (List.getElem?_eq_some_iff.1 hx25).1
      refine SR.nil ?_
      refine W.regS (SR.q' (r_mv (v := .int .i64 _) rfl) <| SR.q' (r_add rfl rfl (by omega)) <| SR.q' (r_as (v := .int .i64 _) rfl) <| SR.nil ?_)
      refine ⟨k + 1, _, rfl, ⟨rfl, rfl, rfl, rfl, trivial⟩, ⟨hB31, ((hm14).lo hk21).kp hk27 (fun b_ hb e' => by have := (((hm15).lo hk21)).base_le e'; omega), (SlO.eqv (hO29) (z_c_laws_toAwayS_33 L nL hbdL hleL hp0 k hi16 h17 x18 hx19 x24 hx25)), ?_⟩, ?_⟩
      · exact (z_c_laws_toAwayS_34 L nL hbdL hleL hp0 k hi16 h17 x18 hx19 x24 hx25)
      · exact (z_c_laws_toAwayS_35 L nL hbdL hleL hp0 k hi16 h17 x18 hx19 x24 hx25)
    · refine W.exit (xin_here ?_)
      refine W.seq ?_
      refine W.regS (SR.q' (r_mv (v := .slice _ _ _) rfl) <| SR.q' (r_as (v := .slice _ _ _) rfl) <| SR.nil ?_)
      refine W.ret ?_
      refine ret1 rfl (v := .slice _ _ _) rfl ?_
      exact ⟨(some (⟨g1, 0, none⟩ : Addr)), nL, nL, eR rfl, (SlO.eqv ((hm15).down (by omega)) (z_c_laws_toAwayS_36 L nL hbdL hleL hp0 k hi16 h17)), hB12⟩

theorem z_c_laws_eqAway_18 (a : Away) (b : Away) (h17 : ¬ (a.Map = b.Map)) : ¬ (a = b) := by
  cases a; cases b; simp_all
theorem z_c_laws_eqAway_20 (a : Away) (b : Away) (h17 : a.Map = b.Map) (h19 : ¬ (a.Reader = b.Reader)) : ¬ (a = b) := by
  cases a; cases b; simp_all
theorem z_c_laws_eqAway_21 (a : Away) (b : Away) (h17 : a.Map = b.Map) (h19 : a.Reader = b.Reader) : a = b := by
  cases a; cases b; simp_all
theorem c_laws_eqAway (w : World) (a : Away) (b : Away) : Calls Tryd.prog 58 #[.agg (List.toArray (encAway a)), .agg (List.toArray (encAway b))] w fun e w' => e = .returned (.bool (decide (a = b))) ∧ Lo w w' := by
  refine calls_W 15 Tryd.func58 rfl rfl rfl ?_
  refine W.seq ?_
  refine W.regS (SR.box (v := .agg (List.toArray _)) (l := [.int .i64 a.Map, .int .i64 a.Reader]) rfl rfl ?_)
  intro g1 w2 hg3 hk4 hs5 hb6
  have hz7 := hk4.size
  have hB8 := (Lo.refl w).lo hk4
  refine SR.box (v := .agg (List.toArray _)) (l := [.int .i64 b.Map, .int .i64 b.Reader]) rfl rfl ?_
  intro g9 w10 hg11 hk12 hs13 hb14
  have hz15 := hk12.size
  have hB16 := hB8.lo hk12
  refine SR.q' (r_as (v := .bool false) rfl) <| SR.nil ?_
  refine W.seq ?_
  refine W.seq ?_
  refine W.regS (SR.q' (r_fa fa64_0 rfl) <| SR.q' (r_ld (v := .int .i64 a.Map) sca3 rfl (((hb6).lo hk12).cell rfl)) <| SR.q' (r_fa fa64_0 rfl) <| SR.q' (r_ld (v := .int .i64 b.Map) sca3 rfl ((hb14).cell rfl)) <| SR.q' (r_ne rfl rfl) <| SR.nil ?_)
  refine W.cond_n rfl (fun h17 => ?_) (fun h17 => ?_)
  · refine W.seq ?_
    refine W.regS (SR.q' (r_as (v := .bool false) rfl) <| SR.nil ?_)
    refine W.ret ?_
    refine ret1 rfl (v := .bool _) rfl ?_
    exact ⟨eR (eDF (z_c_laws_eqAway_18 a b h17)), hB16⟩
  · refine W.skip ?_
    refine W.seq ?_
    refine W.seq ?_
    refine W.regS (SR.q' (r_fa fa64_1 rfl) <| SR.q' (r_ld (v := .int .i64 a.Reader) sca3 rfl (((hb6).lo hk12).cell rfl)) <| SR.q' (r_fa fa64_1 rfl) <| SR.q' (r_ld (v := .int .i64 b.Reader) sca3 rfl ((hb14).cell rfl)) <| SR.q' (r_ne rfl rfl) <| SR.nil ?_)
    refine W.cond_n rfl (fun h19 => ?_) (fun h19 => ?_)
    · refine W.seq ?_
      refine W.regS (SR.q' (r_as (v := .bool false) rfl) <| SR.nil ?_)
      refine W.ret ?_
      refine ret1 rfl (v := .bool _) rfl ?_
      exact ⟨eR (eDF (z_c_laws_eqAway_20 a b h17 h19)), hB16⟩
    · refine W.skip ?_
      refine W.seq ?_
      refine W.regS (SR.q' (r_as (v := .bool true) rfl) <| SR.nil ?_)
      refine W.ret ?_
      refine ret1 rfl (v := .bool _) rfl ?_
      exact ⟨eR (eDT (z_c_laws_eqAway_21 a b h17 h19)), hB16⟩

theorem z_c_laws_eqAwayS_2 (L : List Away) (nL : Nat) (hbdL : (nL : Int) ≤ 9223372036854775807) (hleL : nL = L.length) (M : List Away) (nM : Nat) (hbdM : (nM : Int) ≤ 9223372036854775807) (hleM : nM = M.length) (h1 : ¬ ((nL : Int) = (nM : Int))) : ¬ (L = M) := by
  first | (intro e; subst e; omega) | exact ne_at ‹L[_]? = some _› ‹M[_]? = some _› ‹_› | exact take_end (And.right ‹_ ∧ L.take _ = M.take _›) hleL hleM (by omega) ‹_›
theorem z_c_laws_eqAwayS_3 (L : List Away) (nL : Nat) (hbdL : (nL : Int) ≤ 9223372036854775807) (hleL : nL = L.length) (M : List Away) (nM : Nat) (hbdM : (nM : Int) ≤ 9223372036854775807) (hleM : nM = M.length) (h1 : (nL : Int) = (nM : Int)) : 0 ≤ nL ∧ L.take 0 = M.take 0 := by
  simp
theorem z_c_laws_eqAwayS_21 (L : List Away) (nL : Nat) (hbdL : (nL : Int) ≤ 9223372036854775807) (hleL : nL = L.length) (M : List Away) (nM : Nat) (hbdM : (nM : Int) ≤ 9223372036854775807) (hleM : nM = M.length) (h1 : (nL : Int) = (nM : Int)) (k : Nat) (hi10 : k ≤ nL ∧ L.take k = M.take k) (h11 : (k : Int) < (nL : Int)) (x12 : Away) (hx13 : L[k]? = some x12) (x14 : Away) (hx15 : M[k]? = some x14) (h20 : ¬ (x12 = x14)) : ¬ (L = M) := by
  first | (intro e; subst e; omega) | exact ne_at ‹L[_]? = some _› ‹M[_]? = some _› ‹_› | exact take_end (And.right ‹_ ∧ L.take _ = M.take _›) hleL hleM (by omega) ‹_›
theorem z_c_laws_eqAwayS_22 (L : List Away) (nL : Nat) (hbdL : (nL : Int) ≤ 9223372036854775807) (hleL : nL = L.length) (M : List Away) (nM : Nat) (hbdM : (nM : Int) ≤ 9223372036854775807) (hleM : nM = M.length) (h1 : (nL : Int) = (nM : Int)) (k : Nat) (hi10 : k ≤ nL ∧ L.take k = M.take k) (h11 : (k : Int) < (nL : Int)) (x12 : Away) (hx13 : L[k]? = some x12) (x14 : Away) (hx15 : M[k]? = some x14) (h20 : x12 = x14) : k + 1 ≤ nL ∧ L.take (k + 1) = M.take (k + 1) := by
  exact ⟨by omega, take_next (And.right ‹_ ∧ L.take _ = M.take _›) ‹L[_]? = some _› ‹M[_]? = some _› ‹_›⟩
theorem z_c_laws_eqAwayS_23 (L : List Away) (nL : Nat) (hbdL : (nL : Int) ≤ 9223372036854775807) (hleL : nL = L.length) (M : List Away) (nM : Nat) (hbdM : (nM : Int) ≤ 9223372036854775807) (hleM : nM = M.length) (h1 : (nL : Int) = (nM : Int)) (k : Nat) (hi10 : k ≤ nL ∧ L.take k = M.take k) (h11 : (k : Int) < (nL : Int)) (x12 : Away) (hx13 : L[k]? = some x12) (x14 : Away) (hx15 : M[k]? = some x14) (h20 : x12 = x14) : nL - (k + 1) < nL - k := by
  omega
theorem z_c_laws_eqAwayS_24 (L : List Away) (nL : Nat) (hbdL : (nL : Int) ≤ 9223372036854775807) (hleL : nL = L.length) (M : List Away) (nM : Nat) (hbdM : (nM : Int) ≤ 9223372036854775807) (hleM : nM = M.length) (h1 : (nL : Int) = (nM : Int)) (k : Nat) (hi10 : k ≤ nL ∧ L.take k = M.take k) (h11 : ¬ ((k : Int) < (nL : Int))) : L = M := by
  first | (intro e; subst e; omega) | exact ne_at ‹L[_]? = some _› ‹M[_]? = some _› ‹_› | exact take_end (And.right ‹_ ∧ L.take _ = M.take _›) hleL hleM (by omega) ‹_›
theorem c_laws_eqAwayS (w : World) {AL : Option Addr} {nL cL BL : Nat}  (L : List Away) (hL : SlR w BL encAway 2 AL nL cL L) {AM : Option Addr} {nM cM BM : Nat}  (M : List Away) (hM : SlR w BM encAway 2 AM nM cM M) : Calls Tryd.prog 40 #[.slice AL nL cL, .slice AM nM cM] w fun e w' => e = .returned (.bool (decide (L = M))) ∧ Lo w w' := by
  refine calls_W 27 Tryd.func40 rfl rfl rfl ?_
  have hbdL := hL.bound
  have hleL := hL.len
  have hBbL := hL.bd
  have hbdM := hM.bound
  have hleM := hM.len
  have hBbM := hM.bd
  refine W.seq ?_
  refine W.regS (SR.q' (r_as (v := .bool false) rfl) <| SR.nil ?_)
  refine W.seq ?_
  refine W.seq ?_
  refine W.regS (SR.q' (r_mv (v := .slice _ _ _) rfl) <| SR.q' (r_len und33 rfl) <| SR.q' (r_mv (v := .slice _ _ _) rfl) <| SR.q' (r_len und33 rfl) <| SR.q' (r_ne rfl rfl) <| SR.nil ?_)
  refine W.cond_n rfl (fun h1 => ?_) (fun h1 => ?_)
  · refine W.seq ?_
    refine W.regS (SR.q' (r_as (v := .bool false) rfl) <| SR.nil ?_)
    refine W.ret ?_
    refine ret1 rfl (v := .bool _) rfl ?_
    exact ⟨eR (eDF (z_c_laws_eqAwayS_2 L nL hbdL hleL M nM hbdM hleM h1)), (Lo.refl w)⟩
  · refine W.skip ?_
    refine W.seq ?_
    refine W.seq ?_
    refine W.regS (SR.q' (r_as (v := .int .i64 0) rfl) <| SR.nil ?_)
    refine W.block ?_
    refine W.loop (σ := Nat) (fun g => [(0, .slice AL nL cL), (1, .slice AM nM cM), (5, .int .i64 (g : Int))]) (fun g w' => (Lo w w') ∧ (SlR w' BL encAway 2 AL nL cL L) ∧ (SlR w' BM encAway 2 AM nM cM M) ∧ (g ≤ nL ∧ L.take g = M.take g)) (fun g => nL - g) 0 ?_ ?_ ?_
    · exact ⟨rfl, rfl, rfl, trivial⟩
    · exact ⟨(Lo.refl w), hL, hM, (z_c_laws_eqAwayS_3 L nL hbdL hleL M nM hbdM hleM h1)⟩
    · rintro k f4 w5 hP7
      obtain ⟨hB6, hm8, hm9, hi10⟩ : (Lo w w5) ∧ (SlR w5 BL encAway 2 AL nL cL L) ∧ (SlR w5 BM encAway 2 AM nM cM M) ∧ (k ≤ nL ∧ L.take k = M.take k) := hP7
      refine (?_ : W _ _ _ _ _ (act _ (sets f4 [(0, .slice AL nL cL), (1, .slice AM nM cM), (5, .int .i64 (k : Int))])) _)
      have hzw5 := hB6.size
      refine W.seq ?_
      refine W.seq ?_
      refine W.regS (SR.q' (r_mv (v := .int .i64 _) rfl) <| SR.q' (r_mv (v := .slice _ _ _) rfl) <| SR.q' (r_len und33 rfl) <| SR.q' (r_lt rfl rfl) <| SR.nil ?_)
      refine W.cond_d rfl (fun h11 => ?_) (fun h11 => ?_)
      · refine W.skip ?_
        refine W.seq ?_
        refine W.block ?_
        refine W.seq ?_
        refine W.regD mo (by kernel_rfl) (QR.q' (fun w' hw' => r_mv (v := .slice _ _ _) rfl) <| QR.q' (fun w' hw' => r_mv (v := .int .i64 _) rfl) <| ?_)
        obtain ⟨x12, hx13⟩ := (hm8).get (i := k) (by omega)
        refine QR.q' (fun w' hw' => r_ixR tsl33 (((hm8).lo hw')) rfl rfl (by omega)) <| QR.q' (fun w' hw' => r_lda (l := encAway x12) agg64 rfl (fun _ _ hu => (((hm8).lo hw')).cell hx13 hu) ((((hm8).lo hw')).esz _)) <| QR.q' (fun w' hw' => r_mv (v := .slice _ _ _) rfl) <| QR.q' (fun w' hw' => r_mv (v := .int .i64 _) rfl) <| ?_
        obtain ⟨x14, hx15⟩ := (hm9).get (i := k) (by omega)
        refine QR.q' (fun w' hw' => r_ixR tsl33 (((hm9).lo hw')) rfl rfl (by omega)) <| QR.q' (fun w' hw' => r_lda (l := encAway x14) agg64 rfl (fun _ _ hu => (((hm9).lo hw')).cell hx15 hu) ((((hm9).lo hw')).esz _)) <| QR.call ent58 (fun w' hw' => (c_laws_eqAway w' x12 x14).mono fun _ _ h => ⟨h.1, hw'.trans h.2⟩) rfl <| QR.q' (fun w' hw' => r_not rfl) <| QR.nil ?_
        intro w16 hk17
        have hz18 := hk17.size
        have hB19 := hB6.lo hk17
        refine W.cond_n rfl (fun h20 => ?_) (fun h20 => ?_)
        · refine W.seq ?_
          refine W.regS (SR.q' (r_as (v := .bool false) rfl) <| SR.nil ?_)
          refine W.ret ?_
          refine ret1 rfl (v := .bool _) rfl ?_
          exact ⟨eR (eDF (z_c_laws_eqAwayS_21 L nL hbdL hleL M nM hbdM hleM h1 k hi10 h11 x12 hx13 x14 hx15 h20)), hB19⟩
        · refine W.skip ?_
          refine W.regS (SR.q' (r_mv (v := .int .i64 _) rfl) <| SR.q' (r_add rfl rfl (by omega)) <| SR.q' (r_as (v := .int .i64 _) rfl) <| SR.nil ?_)
          refine ⟨k + 1, _, rfl, ⟨rfl, rfl, rfl, trivial⟩, ⟨hB19, (hm8).lo hk17, (hm9).lo hk17, ?_⟩, ?_⟩
          · exact (z_c_laws_eqAwayS_22 L nL hbdL hleL M nM hbdM hleM h1 k hi10 h11 x12 hx13 x14 hx15 h20)
          · exact (z_c_laws_eqAwayS_23 L nL hbdL hleL M nM hbdM hleM h1 k hi10 h11 x12 hx13 x14 hx15 h20)
      · refine W.exit (xin_here ?_)
        refine W.seq ?_
        refine W.regS (SR.q' (r_as (v := .bool true) rfl) <| SR.nil ?_)
        refine W.ret ?_
        refine ret1 rfl (v := .bool _) rfl ?_
        exact ⟨eR (eDT (z_c_laws_eqAwayS_24 L nL hbdL hleL M nM hbdM hleM h1 k hi10 h11)), hB6⟩

theorem c_laws_toLibrary (w : World) (r : Library) {Ar_Maps : Option Addr} {nr_Maps cr_Maps Br_Maps : Nat} (hr_Maps : SlR w Br_Maps encLMap 3 Ar_Maps nr_Maps cr_Maps r.Maps) {Ar_Away : Option Addr} {nr_Away cr_Away Br_Away : Nat} (hr_Away : SlR w Br_Away encAway 2 Ar_Away nr_Away cr_Away r.Away) (hp0 : (nr_Maps : Int) ≤ 1048576) (hp1 : (nr_Away : Int) ≤ 1048576) : Calls Tryd.prog 15 #[.agg (List.toArray [.slice Ar_Maps nr_Maps cr_Maps, .slice Ar_Away nr_Away cr_Away, .int .i64 r.Bought, .int .i64 r.Dropped, .int .i64 r.Mended])] w fun e w' => ∃ (A1' : Option Addr) (n1' c1' : Nat) (A2' : Option Addr) (n2' c2' : Nat), e = .returned (.agg (List.toArray [.slice A1' n1' c1', .slice A2' n2' c2', .int .i64 r.Bought, .int .i64 r.Dropped, .int .i64 r.Mended])) ∧ SlO w' w.heap.size encLMap 3 54 A1' n1' c1' r.Maps ∧ SlO w' w.heap.size encAway 2 64 A2' n2' c2' r.Away ∧ (∀ b_, A1' = some ⟨b_, 0, none⟩ → ¬ A2' = some ⟨b_, 0, none⟩) ∧ Lo w w' := by
  refine calls_W 22 Tryd.func15 rfl rfl rfl ?_
  have hbdr_Maps := hr_Maps.bound
  have hler_Maps := hr_Maps.len
  have hBbr_Maps := hr_Maps.bd
  have hbdr_Away := hr_Away.bound
  have hler_Away := hr_Away.len
  have hBbr_Away := hr_Away.bd
  refine W.seq ?_
  refine W.regS (SR.box (v := .agg (List.toArray _)) (l := [.slice Ar_Maps nr_Maps cr_Maps, .slice Ar_Away nr_Away cr_Away, .int .i64 r.Bought, .int .i64 r.Dropped, .int .i64 r.Mended]) rfl rfl ?_)
  intro g1 w2 hg3 hk4 hs5 hb6
  have hz7 := hk4.size
  have hB8 := (Lo.refl w).lo hk4
  refine SR.alloc (l := [.slice none 0 0, .slice none 0 0, .int .i64 0, .int .i64 0, .int .i64 0]) tz35 rfl ?_
  intro g9 w10 hg11 hk12 hs13 hb14
  have hz15 := hk12.size
  have hB16 := hB8.lo hk12
  refine SR.nil ?_
  refine W.seq ?_
  refine W.regS (SR.alloc (l := [.slice none 0 0, .slice none 0 0, .int .i64 0, .int .i64 0, .int .i64 0]) tz35 rfl ?_)
  intro g17 w18 hg19 hk20 hs21 hb22
  have hz23 := hk20.size
  have hB24 := hB16.lo hk20
  refine SR.nil ?_
  refine W.seq ?_
  refine W.regS (SR.q' (r_fa fa25_0 rfl) <| SR.q' (r_ld (v := .slice Ar_Maps nr_Maps cr_Maps) sca22 rfl ((((hb6).lo hk12).lo hk20).cell rfl)) <| SR.call ent29 (c_laws_toMapS w18 r.Maps (((((hr_Maps).lo hk4).lo hk12).lo hk20)) (by omega)) rfl ?_)
  rintro e w25 ⟨A27, n28, c29, rfl, hO30, hk26⟩
  refine ⟨_, rfl, ?_⟩
  have hz31 := hk26.size
  have hB32 := hB24.lo hk26
  have hl33 := hO30.len
  have hl34 := hO30.rd.bound
  refine SR.q' (r_fa fa35_0 rfl) <| SR.store (o := 0) (vs := [.slice A27 n28 c29]) sca32.2 rfl rfl rfl rfl ((hb22).lo hk26) (Nat.le_of_ble_eq_true rfl) rfl ?_
  intro w35 hk36 hs37 hb38
  have hz39 := hk36.size
  have hB40 := hB32.new hk36 (by omega)
  refine SR.nil ?_
  refine W.seq ?_
  refine W.regS (SR.q' (r_fa fa25_1 rfl) <| SR.q' (r_ld (v := .slice Ar_Away nr_Away cr_Away) sca23 rfl ((((((hb6).lo hk12).lo hk20).lo hk26).kp hk36 (fun e' => by have e'' : g1 = g17 := e'; omega)).cell rfl)) <| SR.call ent30 (c_laws_toAwayS w35 r.Away (((((((hr_Away).lo hk4).lo hk12).lo hk20).lo hk26).kp hk36 (fun b_ hb e' => by have e'' : b_ = g17 := e'; omega))) (by omega)) rfl ?_)
  rintro e w41 ⟨A43, n44, c45, rfl, hO46, hk42⟩
  refine ⟨_, rfl, ?_⟩
  have hz47 := hk42.size
  have hB48 := hB40.lo hk42
  have hl49 := hO46.len
  have hl50 := hO46.rd.bound
  refine SR.q' (r_fa fa35_1 rfl) <| SR.store (o := 1) (vs := [.slice A43 n44 c45]) sca33.2 rfl rfl rfl rfl ((hb38).lo hk42) (Nat.le_of_ble_eq_true rfl) rfl ?_
  intro w51 hk52 hs53 hb54
  have hz55 := hk52.size
  have hB56 := hB48.new hk52 (by omega)
  refine SR.nil ?_
  refine W.seq ?_
  refine W.regS (SR.q' (r_fa fa25_2 rfl) <| SR.q' (r_ld (v := .int .i64 r.Bought) sca3 rfl ((((((((hb6).lo hk12).lo hk20).lo hk26).kp hk36 (fun e' => by have e'' : g1 = g17 := e'; omega)).lo hk42).kp hk52 (fun e' => by have e'' : g1 = g17 := e'; omega)).cell rfl)) <| SR.q' (r_fa fa35_2 rfl) <| SR.store (o := 2) (vs := [.int .i64 r.Bought]) sca3.2 rfl rfl rfl rfl (hb54) (Nat.le_of_ble_eq_true rfl) rfl ?_)
  intro w57 hk58 hs59 hb60
  have hz61 := hk58.size
  have hB62 := hB56.new hk58 (by omega)
  refine SR.nil ?_
  refine W.seq ?_
  refine W.regS (SR.q' (r_fa fa25_3 rfl) <| SR.q' (r_ld (v := .int .i64 r.Dropped) sca3 rfl (((((((((hb6).lo hk12).lo hk20).lo hk26).kp hk36 (fun e' => by have e'' : g1 = g17 := e'; omega)).lo hk42).kp hk52 (fun e' => by have e'' : g1 = g17 := e'; omega)).kp hk58 (fun e' => by have e'' : g1 = g17 := e'; omega)).cell rfl)) <| SR.q' (r_fa fa35_3 rfl) <| SR.store (o := 3) (vs := [.int .i64 r.Dropped]) sca3.2 rfl rfl rfl rfl (hb60) (Nat.le_of_ble_eq_true rfl) rfl ?_)
  intro w63 hk64 hs65 hb66
  have hz67 := hk64.size
  have hB68 := hB62.new hk64 (by omega)
  refine SR.nil ?_
  refine W.seq ?_
  refine W.regS (SR.q' (r_fa fa25_4 rfl) <| SR.q' (r_ld (v := .int .i64 r.Mended) sca3 rfl ((((((((((hb6).lo hk12).lo hk20).lo hk26).kp hk36 (fun e' => by have e'' : g1 = g17 := e'; omega)).lo hk42).kp hk52 (fun e' => by have e'' : g1 = g17 := e'; omega)).kp hk58 (fun e' => by have e'' : g1 = g17 := e'; omega)).kp hk64 (fun e' => by have e'' : g1 = g17 := e'; omega)).cell rfl)) <| SR.q' (r_fa fa35_4 rfl) <| SR.store (o := 4) (vs := [.int .i64 r.Mended]) sca3.2 rfl rfl rfl rfl (hb66) (Nat.le_of_ble_eq_true rfl) rfl ?_)
  intro w69 hk70 hs71 hb72
  have hz73 := hk70.size
  have hB74 := hB68.new hk70 (by omega)
  refine SR.nil ?_
  refine W.seq ?_
  refine W.regS (SR.q' (r_lda (l := [.slice A27 n28 c29, .slice A43 n44 c45, .int .i64 r.Bought, .int .i64 r.Dropped, .int .i64 r.Mended]) agg35 rfl (fun _ _ hu => (hb72).cell hu) rfl) <| SR.store (o := 0) (vs := [.slice A27 n28 c29, .slice A43 n44 c45, .int .i64 r.Bought, .int .i64 r.Dropped, .int .i64 r.Mended]) agg35.2 rfl rfl rfl rfl (((((((((hb14).lo hk20).lo hk26).kp hk36 (fun e' => by have e'' : g9 = g17 := e'; omega)).lo hk42).kp hk52 (fun e' => by have e'' : g9 = g17 := e'; omega)).kp hk58 (fun e' => by have e'' : g9 = g17 := e'; omega)).kp hk64 (fun e' => by have e'' : g9 = g17 := e'; omega)).kp hk70 (fun e' => by have e'' : g9 = g17 := e'; omega)) (Nat.le_of_ble_eq_true rfl) rfl ?_)
  intro w75 hk76 hs77 hb78
  have hz79 := hk76.size
  have hB80 := hB74.new hk76 (by omega)
  refine SR.nil ?_
  refine W.ret ?_
  refine retC rfl rfl agg35 (hb78) rfl ?_
  exact ⟨A27, n28, c29, A43, n44, c45, eR rfl, (((((((((hO30).kp hk36 (fun b_ hb e' => by have e'' : b_ = g17 := e'; have := (hO30).base_le hb; omega)).lo hk42).kp hk52 (fun b_ hb e' => by have e'' : b_ = g17 := e'; have := (((hO30).kp hk36 (fun b_ hb e' => by have e'' : b_ = g17 := e'; have := (hO30).base_le hb; omega)).lo hk42).base_le hb; omega)).kp hk58 (fun b_ hb e' => by have e'' : b_ = g17 := e'; have := ((((hO30).kp hk36 (fun b_ hb e' => by have e'' : b_ = g17 := e'; have := (hO30).base_le hb; omega)).lo hk42).kp hk52 (fun b_ hb e' => by have e'' : b_ = g17 := e'; have := (((hO30).kp hk36 (fun b_ hb e' => by have e'' : b_ = g17 := e'; have := (hO30).base_le hb; omega)).lo hk42).base_le hb; omega)).base_le hb; omega)).kp hk64 (fun b_ hb e' => by have e'' : b_ = g17 := e'; have := (((((hO30).kp hk36 (fun b_ hb e' => by have e'' : b_ = g17 := e'; have := (hO30).base_le hb; omega)).lo hk42).kp hk52 (fun b_ hb e' => by have e'' : b_ = g17 := e'; have := (((hO30).kp hk36 (fun b_ hb e' => by have e'' : b_ = g17 := e'; have := (hO30).base_le hb; omega)).lo hk42).base_le hb; omega)).kp hk58 (fun b_ hb e' => by have e'' : b_ = g17 := e'; have := ((((hO30).kp hk36 (fun b_ hb e' => by have e'' : b_ = g17 := e'; have := (hO30).base_le hb; omega)).lo hk42).kp hk52 (fun b_ hb e' => by have e'' : b_ = g17 := e'; have := (((hO30).kp hk36 (fun b_ hb e' => by have e'' : b_ = g17 := e'; have := (hO30).base_le hb; omega)).lo hk42).base_le hb; omega)).base_le hb; omega)).base_le hb; omega)).kp hk70 (fun b_ hb e' => by have e'' : b_ = g17 := e'; have := ((((((hO30).kp hk36 (fun b_ hb e' => by have e'' : b_ = g17 := e'; have := (hO30).base_le hb; omega)).lo hk42).kp hk52 (fun b_ hb e' => by have e'' : b_ = g17 := e'; have := (((hO30).kp hk36 (fun b_ hb e' => by have e'' : b_ = g17 := e'; have := (hO30).base_le hb; omega)).lo hk42).base_le hb; omega)).kp hk58 (fun b_ hb e' => by have e'' : b_ = g17 := e'; have := ((((hO30).kp hk36 (fun b_ hb e' => by have e'' : b_ = g17 := e'; have := (hO30).base_le hb; omega)).lo hk42).kp hk52 (fun b_ hb e' => by have e'' : b_ = g17 := e'; have := (((hO30).kp hk36 (fun b_ hb e' => by have e'' : b_ = g17 := e'; have := (hO30).base_le hb; omega)).lo hk42).base_le hb; omega)).base_le hb; omega)).kp hk64 (fun b_ hb e' => by have e'' : b_ = g17 := e'; have := (((((hO30).kp hk36 (fun b_ hb e' => by have e'' : b_ = g17 := e'; have := (hO30).base_le hb; omega)).lo hk42).kp hk52 (fun b_ hb e' => by have e'' : b_ = g17 := e'; have := (((hO30).kp hk36 (fun b_ hb e' => by have e'' : b_ = g17 := e'; have := (hO30).base_le hb; omega)).lo hk42).base_le hb; omega)).kp hk58 (fun b_ hb e' => by have e'' : b_ = g17 := e'; have := ((((hO30).kp hk36 (fun b_ hb e' => by have e'' : b_ = g17 := e'; have := (hO30).base_le hb; omega)).lo hk42).kp hk52 (fun b_ hb e' => by have e'' : b_ = g17 := e'; have := (((hO30).kp hk36 (fun b_ hb e' => by have e'' : b_ = g17 := e'; have := (hO30).base_le hb; omega)).lo hk42).base_le hb; omega)).base_le hb; omega)).base_le hb; omega)).base_le hb; omega)).kp hk76 (fun b_ hb e' => by have e'' : b_ = g9 := e'; have := (((((((hO30).kp hk36 (fun b_ hb e' => by have e'' : b_ = g17 := e'; have := (hO30).base_le hb; omega)).lo hk42).kp hk52 (fun b_ hb e' => by have e'' : b_ = g17 := e'; have := (((hO30).kp hk36 (fun b_ hb e' => by have e'' : b_ = g17 := e'; have := (hO30).base_le hb; omega)).lo hk42).base_le hb; omega)).kp hk58 (fun b_ hb e' => by have e'' : b_ = g17 := e'; have := ((((hO30).kp hk36 (fun b_ hb e' => by have e'' : b_ = g17 := e'; have := (hO30).base_le hb; omega)).lo hk42).kp hk52 (fun b_ hb e' => by have e'' : b_ = g17 := e'; have := (((hO30).kp hk36 (fun b_ hb e' => by have e'' : b_ = g17 := e'; have := (hO30).base_le hb; omega)).lo hk42).base_le hb; omega)).base_le hb; omega)).kp hk64 (fun b_ hb e' => by have e'' : b_ = g17 := e'; have := (((((hO30).kp hk36 (fun b_ hb e' => by have e'' : b_ = g17 := e'; have := (hO30).base_le hb; omega)).lo hk42).kp hk52 (fun b_ hb e' => by have e'' : b_ = g17 := e'; have := (((hO30).kp hk36 (fun b_ hb e' => by have e'' : b_ = g17 := e'; have := (hO30).base_le hb; omega)).lo hk42).base_le hb; omega)).kp hk58 (fun b_ hb e' => by have e'' : b_ = g17 := e'; have := ((((hO30).kp hk36 (fun b_ hb e' => by have e'' : b_ = g17 := e'; have := (hO30).base_le hb; omega)).lo hk42).kp hk52 (fun b_ hb e' => by have e'' : b_ = g17 := e'; have := (((hO30).kp hk36 (fun b_ hb e' => by have e'' : b_ = g17 := e'; have := (hO30).base_le hb; omega)).lo hk42).base_le hb; omega)).base_le hb; omega)).base_le hb; omega)).kp hk70 (fun b_ hb e' => by have e'' : b_ = g17 := e'; have := ((((((hO30).kp hk36 (fun b_ hb e' => by have e'' : b_ = g17 := e'; have := (hO30).base_le hb; omega)).lo hk42).kp hk52 (fun b_ hb e' => by have e'' : b_ = g17 := e'; have := (((hO30).kp hk36 (fun b_ hb e' => by have e'' : b_ = g17 := e'; have := (hO30).base_le hb; omega)).lo hk42).base_le hb; omega)).kp hk58 (fun b_ hb e' => by have e'' : b_ = g17 := e'; have := ((((hO30).kp hk36 (fun b_ hb e' => by have e'' : b_ = g17 := e'; have := (hO30).base_le hb; omega)).lo hk42).kp hk52 (fun b_ hb e' => by have e'' : b_ = g17 := e'; have := (((hO30).kp hk36 (fun b_ hb e' => by have e'' : b_ = g17 := e'; have := (hO30).base_le hb; omega)).lo hk42).base_le hb; omega)).base_le hb; omega)).kp hk64 (fun b_ hb e' => by have e'' : b_ = g17 := e'; have := (((((hO30).kp hk36 (fun b_ hb e' => by have e'' : b_ = g17 := e'; have := (hO30).base_le hb; omega)).lo hk42).kp hk52 (fun b_ hb e' => by have e'' : b_ = g17 := e'; have := (((hO30).kp hk36 (fun b_ hb e' => by have e'' : b_ = g17 := e'; have := (hO30).base_le hb; omega)).lo hk42).base_le hb; omega)).kp hk58 (fun b_ hb e' => by have e'' : b_ = g17 := e'; have := ((((hO30).kp hk36 (fun b_ hb e' => by have e'' : b_ = g17 := e'; have := (hO30).base_le hb; omega)).lo hk42).kp hk52 (fun b_ hb e' => by have e'' : b_ = g17 := e'; have := (((hO30).kp hk36 (fun b_ hb e' => by have e'' : b_ = g17 := e'; have := (hO30).base_le hb; omega)).lo hk42).base_le hb; omega)).base_le hb; omega)).base_le hb; omega)).base_le hb; omega)).base_le hb; omega)).down (by omega)), (((((((hO46).kp hk52 (fun b_ hb e' => by have e'' : b_ = g17 := e'; have := (hO46).base_le hb; omega)).kp hk58 (fun b_ hb e' => by have e'' : b_ = g17 := e'; have := ((hO46).kp hk52 (fun b_ hb e' => by have e'' : b_ = g17 := e'; have := (hO46).base_le hb; omega)).base_le hb; omega)).kp hk64 (fun b_ hb e' => by have e'' : b_ = g17 := e'; have := (((hO46).kp hk52 (fun b_ hb e' => by have e'' : b_ = g17 := e'; have := (hO46).base_le hb; omega)).kp hk58 (fun b_ hb e' => by have e'' : b_ = g17 := e'; have := ((hO46).kp hk52 (fun b_ hb e' => by have e'' : b_ = g17 := e'; have := (hO46).base_le hb; omega)).base_le hb; omega)).base_le hb; omega)).kp hk70 (fun b_ hb e' => by have e'' : b_ = g17 := e'; have := ((((hO46).kp hk52 (fun b_ hb e' => by have e'' : b_ = g17 := e'; have := (hO46).base_le hb; omega)).kp hk58 (fun b_ hb e' => by have e'' : b_ = g17 := e'; have := ((hO46).kp hk52 (fun b_ hb e' => by have e'' : b_ = g17 := e'; have := (hO46).base_le hb; omega)).base_le hb; omega)).kp hk64 (fun b_ hb e' => by have e'' : b_ = g17 := e'; have := (((hO46).kp hk52 (fun b_ hb e' => by have e'' : b_ = g17 := e'; have := (hO46).base_le hb; omega)).kp hk58 (fun b_ hb e' => by have e'' : b_ = g17 := e'; have := ((hO46).kp hk52 (fun b_ hb e' => by have e'' : b_ = g17 := e'; have := (hO46).base_le hb; omega)).base_le hb; omega)).base_le hb; omega)).base_le hb; omega)).kp hk76 (fun b_ hb e' => by have e'' : b_ = g9 := e'; have := (((((hO46).kp hk52 (fun b_ hb e' => by have e'' : b_ = g17 := e'; have := (hO46).base_le hb; omega)).kp hk58 (fun b_ hb e' => by have e'' : b_ = g17 := e'; have := ((hO46).kp hk52 (fun b_ hb e' => by have e'' : b_ = g17 := e'; have := (hO46).base_le hb; omega)).base_le hb; omega)).kp hk64 (fun b_ hb e' => by have e'' : b_ = g17 := e'; have := (((hO46).kp hk52 (fun b_ hb e' => by have e'' : b_ = g17 := e'; have := (hO46).base_le hb; omega)).kp hk58 (fun b_ hb e' => by have e'' : b_ = g17 := e'; have := ((hO46).kp hk52 (fun b_ hb e' => by have e'' : b_ = g17 := e'; have := (hO46).base_le hb; omega)).base_le hb; omega)).base_le hb; omega)).kp hk70 (fun b_ hb e' => by have e'' : b_ = g17 := e'; have := ((((hO46).kp hk52 (fun b_ hb e' => by have e'' : b_ = g17 := e'; have := (hO46).base_le hb; omega)).kp hk58 (fun b_ hb e' => by have e'' : b_ = g17 := e'; have := ((hO46).kp hk52 (fun b_ hb e' => by have e'' : b_ = g17 := e'; have := (hO46).base_le hb; omega)).base_le hb; omega)).kp hk64 (fun b_ hb e' => by have e'' : b_ = g17 := e'; have := (((hO46).kp hk52 (fun b_ hb e' => by have e'' : b_ = g17 := e'; have := (hO46).base_le hb; omega)).kp hk58 (fun b_ hb e' => by have e'' : b_ = g17 := e'; have := ((hO46).kp hk52 (fun b_ hb e' => by have e'' : b_ = g17 := e'; have := (hO46).base_le hb; omega)).base_le hb; omega)).base_le hb; omega)).base_le hb; omega)).base_le hb; omega)).down (by omega)), (fun b_ h h' => by have h1 := ((hO30).kp hk36 (fun b_ hb e' => by have e'' : b_ = g17 := e'; have := (hO30).base_le hb; omega)).base_le h; have h2 := ((((((hO46).kp hk52 (fun b_ hb e' => by have e'' : b_ = g17 := e'; have := (hO46).base_le hb; omega)).kp hk58 (fun b_ hb e' => by have e'' : b_ = g17 := e'; have := ((hO46).kp hk52 (fun b_ hb e' => by have e'' : b_ = g17 := e'; have := (hO46).base_le hb; omega)).base_le hb; omega)).kp hk64 (fun b_ hb e' => by have e'' : b_ = g17 := e'; have := (((hO46).kp hk52 (fun b_ hb e' => by have e'' : b_ = g17 := e'; have := (hO46).base_le hb; omega)).kp hk58 (fun b_ hb e' => by have e'' : b_ = g17 := e'; have := ((hO46).kp hk52 (fun b_ hb e' => by have e'' : b_ = g17 := e'; have := (hO46).base_le hb; omega)).base_le hb; omega)).base_le hb; omega)).kp hk70 (fun b_ hb e' => by have e'' : b_ = g17 := e'; have := ((((hO46).kp hk52 (fun b_ hb e' => by have e'' : b_ = g17 := e'; have := (hO46).base_le hb; omega)).kp hk58 (fun b_ hb e' => by have e'' : b_ = g17 := e'; have := ((hO46).kp hk52 (fun b_ hb e' => by have e'' : b_ = g17 := e'; have := (hO46).base_le hb; omega)).base_le hb; omega)).kp hk64 (fun b_ hb e' => by have e'' : b_ = g17 := e'; have := (((hO46).kp hk52 (fun b_ hb e' => by have e'' : b_ = g17 := e'; have := (hO46).base_le hb; omega)).kp hk58 (fun b_ hb e' => by have e'' : b_ = g17 := e'; have := ((hO46).kp hk52 (fun b_ hb e' => by have e'' : b_ = g17 := e'; have := (hO46).base_le hb; omega)).base_le hb; omega)).base_le hb; omega)).base_le hb; omega)).kp hk76 (fun b_ hb e' => by have e'' : b_ = g9 := e'; have := (((((hO46).kp hk52 (fun b_ hb e' => by have e'' : b_ = g17 := e'; have := (hO46).base_le hb; omega)).kp hk58 (fun b_ hb e' => by have e'' : b_ = g17 := e'; have := ((hO46).kp hk52 (fun b_ hb e' => by have e'' : b_ = g17 := e'; have := (hO46).base_le hb; omega)).base_le hb; omega)).kp hk64 (fun b_ hb e' => by have e'' : b_ = g17 := e'; have := (((hO46).kp hk52 (fun b_ hb e' => by have e'' : b_ = g17 := e'; have := (hO46).base_le hb; omega)).kp hk58 (fun b_ hb e' => by have e'' : b_ = g17 := e'; have := ((hO46).kp hk52 (fun b_ hb e' => by have e'' : b_ = g17 := e'; have := (hO46).base_le hb; omega)).base_le hb; omega)).base_le hb; omega)).kp hk70 (fun b_ hb e' => by have e'' : b_ = g17 := e'; have := ((((hO46).kp hk52 (fun b_ hb e' => by have e'' : b_ = g17 := e'; have := (hO46).base_le hb; omega)).kp hk58 (fun b_ hb e' => by have e'' : b_ = g17 := e'; have := ((hO46).kp hk52 (fun b_ hb e' => by have e'' : b_ = g17 := e'; have := (hO46).base_le hb; omega)).base_le hb; omega)).kp hk64 (fun b_ hb e' => by have e'' : b_ = g17 := e'; have := (((hO46).kp hk52 (fun b_ hb e' => by have e'' : b_ = g17 := e'; have := (hO46).base_le hb; omega)).kp hk58 (fun b_ hb e' => by have e'' : b_ = g17 := e'; have := ((hO46).kp hk52 (fun b_ hb e' => by have e'' : b_ = g17 := e'; have := (hO46).base_le hb; omega)).base_le hb; omega)).base_le hb; omega)).base_le hb; omega)).base_le hb; omega)).base_le h'; omega), hB80⟩

theorem z_c_laws_szLibrary_14 (r : Library) (nr_Maps : Nat) (hbdr_Maps : (nr_Maps : Int) ≤ 9223372036854775807) (hler_Maps : nr_Maps = r.Maps.length) (nr_Away : Nat) (hbdr_Away : (nr_Away : Int) ≤ 9223372036854775807) (hler_Away : nr_Away = r.Away.length) (left : Int) (hp0 : 0 ≤ left) (hp1 : left ≤ 1048576) (h13 : (szN r.Maps.length left) < 0) : (-1) = szN (r.Maps.length + r.Away.length) left := by
  first | exact szN_neg ‹_› | exact szN_neg1 ‹_› | exact szN_neg2 ‹_› ‹_› | exact szN_add ‹_› ‹_› | (unfold szN at *; repeat (split at *)) <;> omega
theorem z_c_laws_szLibrary_21 (r : Library) (nr_Maps : Nat) (hbdr_Maps : (nr_Maps : Int) ≤ 9223372036854775807) (hler_Maps : nr_Maps = r.Maps.length) (nr_Away : Nat) (hbdr_Away : (nr_Away : Int) ≤ 9223372036854775807) (hler_Away : nr_Away = r.Away.length) (left : Int) (hp0 : 0 ≤ left) (hp1 : left ≤ 1048576) (h13 : ¬ ((szN r.Maps.length left) < 0)) (hq15 : ((r.Maps.length : Nat) : Int) ≤ left ∧ szN r.Maps.length left = left - (r.Maps.length : Int)) (h20 : (szN r.Away.length (szN r.Maps.length left)) < 0) : (-1) = szN (r.Maps.length + r.Away.length) left := by
  first | exact szN_neg ‹_› | exact szN_neg1 ‹_› | exact szN_neg2 ‹_› ‹_› | exact szN_add ‹_› ‹_› | (unfold szN at *; repeat (split at *)) <;> omega
theorem z_c_laws_szLibrary_23 (r : Library) (nr_Maps : Nat) (hbdr_Maps : (nr_Maps : Int) ≤ 9223372036854775807) (hler_Maps : nr_Maps = r.Maps.length) (nr_Away : Nat) (hbdr_Away : (nr_Away : Int) ≤ 9223372036854775807) (hler_Away : nr_Away = r.Away.length) (left : Int) (hp0 : 0 ≤ left) (hp1 : left ≤ 1048576) (h13 : ¬ ((szN r.Maps.length left) < 0)) (hq15 : ((r.Maps.length : Nat) : Int) ≤ left ∧ szN r.Maps.length left = left - (r.Maps.length : Int)) (h20 : ¬ ((szN r.Away.length (szN r.Maps.length left)) < 0)) (hq22 : ((r.Away.length : Nat) : Int) ≤ (szN r.Maps.length left) ∧ szN r.Away.length (szN r.Maps.length left) = (szN r.Maps.length left) - (r.Away.length : Int)) : szN r.Away.length (szN r.Maps.length left) = szN (r.Maps.length + r.Away.length) left := by
  first | exact szN_neg ‹_› | exact szN_neg1 ‹_› | exact szN_neg2 ‹_› ‹_› | exact szN_add ‹_› ‹_› | (unfold szN at *; repeat (split at *)) <;> omega
theorem c_laws_szLibrary (w : World) (r : Library) {Ar_Maps : Option Addr} {nr_Maps cr_Maps Br_Maps : Nat} (hr_Maps : SlR w Br_Maps encLMap 3 Ar_Maps nr_Maps cr_Maps r.Maps) {Ar_Away : Option Addr} {nr_Away cr_Away Br_Away : Nat} (hr_Away : SlR w Br_Away encAway 2 Ar_Away nr_Away cr_Away r.Away) (left : Int) (hp0 : 0 ≤ left) (hp1 : left ≤ 1048576) : Calls Tryd.prog 12 #[.agg (List.toArray [.slice Ar_Maps nr_Maps cr_Maps, .slice Ar_Away nr_Away cr_Away, .int .i64 r.Bought, .int .i64 r.Dropped, .int .i64 r.Mended]), .int .i64 left] w fun e w' => e = .returned (.int .i64 (szN (r.Maps.length + r.Away.length) left)) ∧ Lo w w' := by
  refine calls_W 18 Tryd.func12 rfl rfl rfl ?_
  have hbdr_Maps := hr_Maps.bound
  have hler_Maps := hr_Maps.len
  have hBbr_Maps := hr_Maps.bd
  have hbdr_Away := hr_Away.bound
  have hler_Away := hr_Away.len
  have hBbr_Away := hr_Away.bd
  refine W.seq ?_
  refine W.regS (SR.box (v := .agg (List.toArray _)) (l := [.slice Ar_Maps nr_Maps cr_Maps, .slice Ar_Away nr_Away cr_Away, .int .i64 r.Bought, .int .i64 r.Dropped, .int .i64 r.Mended]) rfl rfl ?_)
  intro g1 w2 hg3 hk4 hs5 hb6
  have hz7 := hk4.size
  have hB8 := (Lo.refl w).lo hk4
  refine SR.q' (r_as (v := .int .i64 0) rfl) <| SR.nil ?_
  refine W.seq ?_
  refine W.regS (SR.q' (r_fa fa25_0 rfl) <| SR.q' (r_ld (v := .slice Ar_Maps nr_Maps cr_Maps) sca22 rfl ((hb6).cell rfl)) <| SR.q' (r_mv (v := .int .i64 _) rfl) <| SR.call ent25 (c_laws_szMapS w2 r.Maps (((hr_Maps).lo hk4)) left (by omega) (by omega)) rfl ?_)
  rintro e w9 ⟨rfl, hk10⟩
  refine ⟨_, rfl, ?_⟩
  have hz11 := hk10.size
  have hB12 := hB8.lo hk10
  refine SR.q' (r_as (v := .int .i64 _) rfl) <| SR.nil ?_
  refine W.seq ?_
  refine W.seq ?_
  refine W.regS (SR.q' (r_mv (v := .int .i64 _) rfl) <| SR.q' (r_lt rfl rfl) <| SR.nil ?_)
  refine W.cond_d rfl (fun h13 => ?_) (fun h13 => ?_)
  · refine W.seq ?_
    refine W.regS (SR.q' (r_as (v := .int .i64 (-1)) rfl) <| SR.nil ?_)
    refine W.ret ?_
    refine ret1 rfl (v := .int .i64 _) rfl ?_
    exact ⟨eR (eI (z_c_laws_szLibrary_14 r nr_Maps hbdr_Maps hler_Maps nr_Away hbdr_Away hler_Away left hp0 hp1 h13)), hB12⟩
  · have hq15 := szN_ok h13
    refine W.skip ?_
    refine W.seq ?_
    refine W.regS (SR.q' (r_fa fa25_1 rfl) <| SR.q' (r_ld (v := .slice Ar_Away nr_Away cr_Away) sca23 rfl (((hb6).lo hk10).cell rfl)) <| SR.q' (r_mv (v := .int .i64 _) rfl) <| SR.call ent26 (c_laws_szAwayS w9 r.Away ((((hr_Away).lo hk4).lo hk10)) (szN r.Maps.length left) (by omega) (by omega)) rfl ?_)
    rintro e w16 ⟨rfl, hk17⟩
    refine ⟨_, rfl, ?_⟩
    have hz18 := hk17.size
    have hB19 := hB12.lo hk17
    refine SR.q' (r_as (v := .int .i64 _) rfl) <| SR.nil ?_
    refine W.seq ?_
    refine W.seq ?_
    refine W.regS (SR.q' (r_mv (v := .int .i64 _) rfl) <| SR.q' (r_lt rfl rfl) <| SR.nil ?_)
    refine W.cond_d rfl (fun h20 => ?_) (fun h20 => ?_)
    · refine W.seq ?_
      refine W.regS (SR.q' (r_as (v := .int .i64 (-1)) rfl) <| SR.nil ?_)
      refine W.ret ?_
      refine ret1 rfl (v := .int .i64 _) rfl ?_
      exact ⟨eR (eI (z_c_laws_szLibrary_21 r nr_Maps hbdr_Maps hler_Maps nr_Away hbdr_Away hler_Away left hp0 hp1 h13 hq15 h20)), hB19⟩
    · have hq22 := szN_ok h20
      refine W.skip ?_
      refine W.seq ?_
      refine W.regS (SR.q' (r_mv (v := .int .i64 _) rfl) <| SR.q' (r_as (v := .int .i64 _) rfl) <| SR.nil ?_)
      refine W.ret ?_
      refine ret1 rfl (v := .int .i64 _) rfl ?_
      exact ⟨eR (eI (z_c_laws_szLibrary_23 r nr_Maps hbdr_Maps hler_Maps nr_Away hbdr_Away hler_Away left hp0 hp1 h13 hq15 h20 hq22)), hB19⟩

theorem z_c_laws_eqLibrary_22 (a : Library) (na_Maps : Nat) (hbda_Maps : (na_Maps : Int) ≤ 9223372036854775807) (hlea_Maps : na_Maps = a.Maps.length) (na_Away : Nat) (hbda_Away : (na_Away : Int) ≤ 9223372036854775807) (hlea_Away : na_Away = a.Away.length) (b : Library) (nb_Maps : Nat) (hbdb_Maps : (nb_Maps : Int) ≤ 9223372036854775807) (hleb_Maps : nb_Maps = b.Maps.length) (nb_Away : Nat) (hbdb_Away : (nb_Away : Int) ≤ 9223372036854775807) (hleb_Away : nb_Away = b.Away.length) (h21 : ¬ (a.Maps = b.Maps)) : ¬ (a = b) := by
  cases a; cases b; simp_all
theorem z_c_laws_eqLibrary_28 (a : Library) (na_Maps : Nat) (hbda_Maps : (na_Maps : Int) ≤ 9223372036854775807) (hlea_Maps : na_Maps = a.Maps.length) (na_Away : Nat) (hbda_Away : (na_Away : Int) ≤ 9223372036854775807) (hlea_Away : na_Away = a.Away.length) (b : Library) (nb_Maps : Nat) (hbdb_Maps : (nb_Maps : Int) ≤ 9223372036854775807) (hleb_Maps : nb_Maps = b.Maps.length) (nb_Away : Nat) (hbdb_Away : (nb_Away : Int) ≤ 9223372036854775807) (hleb_Away : nb_Away = b.Away.length) (h21 : a.Maps = b.Maps) (h27 : ¬ (a.Away = b.Away)) : ¬ (a = b) := by
  cases a; cases b; simp_all
theorem z_c_laws_eqLibrary_30 (a : Library) (na_Maps : Nat) (hbda_Maps : (na_Maps : Int) ≤ 9223372036854775807) (hlea_Maps : na_Maps = a.Maps.length) (na_Away : Nat) (hbda_Away : (na_Away : Int) ≤ 9223372036854775807) (hlea_Away : na_Away = a.Away.length) (b : Library) (nb_Maps : Nat) (hbdb_Maps : (nb_Maps : Int) ≤ 9223372036854775807) (hleb_Maps : nb_Maps = b.Maps.length) (nb_Away : Nat) (hbdb_Away : (nb_Away : Int) ≤ 9223372036854775807) (hleb_Away : nb_Away = b.Away.length) (h21 : a.Maps = b.Maps) (h27 : a.Away = b.Away) (h29 : ¬ (a.Bought = b.Bought)) : ¬ (a = b) := by
  cases a; cases b; simp_all
theorem z_c_laws_eqLibrary_32 (a : Library) (na_Maps : Nat) (hbda_Maps : (na_Maps : Int) ≤ 9223372036854775807) (hlea_Maps : na_Maps = a.Maps.length) (na_Away : Nat) (hbda_Away : (na_Away : Int) ≤ 9223372036854775807) (hlea_Away : na_Away = a.Away.length) (b : Library) (nb_Maps : Nat) (hbdb_Maps : (nb_Maps : Int) ≤ 9223372036854775807) (hleb_Maps : nb_Maps = b.Maps.length) (nb_Away : Nat) (hbdb_Away : (nb_Away : Int) ≤ 9223372036854775807) (hleb_Away : nb_Away = b.Away.length) (h21 : a.Maps = b.Maps) (h27 : a.Away = b.Away) (h29 : a.Bought = b.Bought) (h31 : ¬ (a.Dropped = b.Dropped)) : ¬ (a = b) := by
  cases a; cases b; simp_all
theorem z_c_laws_eqLibrary_34 (a : Library) (na_Maps : Nat) (hbda_Maps : (na_Maps : Int) ≤ 9223372036854775807) (hlea_Maps : na_Maps = a.Maps.length) (na_Away : Nat) (hbda_Away : (na_Away : Int) ≤ 9223372036854775807) (hlea_Away : na_Away = a.Away.length) (b : Library) (nb_Maps : Nat) (hbdb_Maps : (nb_Maps : Int) ≤ 9223372036854775807) (hleb_Maps : nb_Maps = b.Maps.length) (nb_Away : Nat) (hbdb_Away : (nb_Away : Int) ≤ 9223372036854775807) (hleb_Away : nb_Away = b.Away.length) (h21 : a.Maps = b.Maps) (h27 : a.Away = b.Away) (h29 : a.Bought = b.Bought) (h31 : a.Dropped = b.Dropped) (h33 : ¬ (a.Mended = b.Mended)) : ¬ (a = b) := by
  cases a; cases b; simp_all
theorem z_c_laws_eqLibrary_35 (a : Library) (na_Maps : Nat) (hbda_Maps : (na_Maps : Int) ≤ 9223372036854775807) (hlea_Maps : na_Maps = a.Maps.length) (na_Away : Nat) (hbda_Away : (na_Away : Int) ≤ 9223372036854775807) (hlea_Away : na_Away = a.Away.length) (b : Library) (nb_Maps : Nat) (hbdb_Maps : (nb_Maps : Int) ≤ 9223372036854775807) (hleb_Maps : nb_Maps = b.Maps.length) (nb_Away : Nat) (hbdb_Away : (nb_Away : Int) ≤ 9223372036854775807) (hleb_Away : nb_Away = b.Away.length) (h21 : a.Maps = b.Maps) (h27 : a.Away = b.Away) (h29 : a.Bought = b.Bought) (h31 : a.Dropped = b.Dropped) (h33 : a.Mended = b.Mended) : a = b := by
  cases a; cases b; simp_all
theorem c_laws_eqLibrary (w : World) (a : Library) {Aa_Maps : Option Addr} {na_Maps ca_Maps Ba_Maps : Nat} (ha_Maps : SlR w Ba_Maps encLMap 3 Aa_Maps na_Maps ca_Maps a.Maps) {Aa_Away : Option Addr} {na_Away ca_Away Ba_Away : Nat} (ha_Away : SlR w Ba_Away encAway 2 Aa_Away na_Away ca_Away a.Away) (b : Library) {Ab_Maps : Option Addr} {nb_Maps cb_Maps Bb_Maps : Nat} (hb_Maps : SlR w Bb_Maps encLMap 3 Ab_Maps nb_Maps cb_Maps b.Maps) {Ab_Away : Option Addr} {nb_Away cb_Away Bb_Away : Nat} (hb_Away : SlR w Bb_Away encAway 2 Ab_Away nb_Away cb_Away b.Away) : Calls Tryd.prog 19 #[.agg (List.toArray [.slice Aa_Maps na_Maps ca_Maps, .slice Aa_Away na_Away ca_Away, .int .i64 a.Bought, .int .i64 a.Dropped, .int .i64 a.Mended]), .agg (List.toArray [.slice Ab_Maps nb_Maps cb_Maps, .slice Ab_Away nb_Away cb_Away, .int .i64 b.Bought, .int .i64 b.Dropped, .int .i64 b.Mended])] w fun e w' => e = .returned (.bool (decide (a = b))) ∧ Lo w w' := by
  refine calls_W 32 Tryd.func19 rfl rfl rfl ?_
  have hbda_Maps := ha_Maps.bound
  have hlea_Maps := ha_Maps.len
  have hBba_Maps := ha_Maps.bd
  have hbda_Away := ha_Away.bound
  have hlea_Away := ha_Away.len
  have hBba_Away := ha_Away.bd
  have hbdb_Maps := hb_Maps.bound
  have hleb_Maps := hb_Maps.len
  have hBbb_Maps := hb_Maps.bd
  have hbdb_Away := hb_Away.bound
  have hleb_Away := hb_Away.len
  have hBbb_Away := hb_Away.bd
  refine W.seq ?_
  refine W.regS (SR.box (v := .agg (List.toArray _)) (l := [.slice Aa_Maps na_Maps ca_Maps, .slice Aa_Away na_Away ca_Away, .int .i64 a.Bought, .int .i64 a.Dropped, .int .i64 a.Mended]) rfl rfl ?_)
  intro g1 w2 hg3 hk4 hs5 hb6
  have hz7 := hk4.size
  have hB8 := (Lo.refl w).lo hk4
  refine SR.box (v := .agg (List.toArray _)) (l := [.slice Ab_Maps nb_Maps cb_Maps, .slice Ab_Away nb_Away cb_Away, .int .i64 b.Bought, .int .i64 b.Dropped, .int .i64 b.Mended]) rfl rfl ?_
  intro g9 w10 hg11 hk12 hs13 hb14
  have hz15 := hk12.size
  have hB16 := hB8.lo hk12
  refine SR.q' (r_as (v := .bool false) rfl) <| SR.nil ?_
  refine W.seq ?_
  refine W.seq ?_
  refine W.regS (SR.q' (r_fa fa35_0 rfl) <| SR.q' (r_ld (v := .slice Aa_Maps na_Maps ca_Maps) sca32 rfl (((hb6).lo hk12).cell rfl)) <| SR.q' (r_fa fa35_0 rfl) <| SR.q' (r_ld (v := .slice Ab_Maps nb_Maps cb_Maps) sca32 rfl ((hb14).cell rfl)) <| SR.call ent39 (c_laws_eqMapS w10 a.Maps ((((ha_Maps).lo hk4).lo hk12)) b.Maps ((((hb_Maps).lo hk4).lo hk12))) rfl ?_)
  rintro e w17 ⟨rfl, hk18⟩
  refine ⟨_, rfl, ?_⟩
  have hz19 := hk18.size
  have hB20 := hB16.lo hk18
  refine SR.q' (r_not rfl) <| SR.nil ?_
  refine W.cond_n rfl (fun h21 => ?_) (fun h21 => ?_)
  · refine W.seq ?_
    refine W.regS (SR.q' (r_as (v := .bool false) rfl) <| SR.nil ?_)
    refine W.ret ?_
    refine ret1 rfl (v := .bool _) rfl ?_
    exact ⟨eR (eDF (z_c_laws_eqLibrary_22 a na_Maps hbda_Maps hlea_Maps na_Away hbda_Away hlea_Away b nb_Maps hbdb_Maps hleb_Maps nb_Away hbdb_Away hleb_Away h21)), hB20⟩
  · refine W.skip ?_
    refine W.seq ?_
    refine W.seq ?_
    refine W.regS (SR.q' (r_fa fa35_1 rfl) <| SR.q' (r_ld (v := .slice Aa_Away na_Away ca_Away) sca33 rfl ((((hb6).lo hk12).lo hk18).cell rfl)) <| SR.q' (r_fa fa35_1 rfl) <| SR.q' (r_ld (v := .slice Ab_Away nb_Away cb_Away) sca33 rfl (((hb14).lo hk18).cell rfl)) <| SR.call ent40 (c_laws_eqAwayS w17 a.Away (((((ha_Away).lo hk4).lo hk12).lo hk18)) b.Away (((((hb_Away).lo hk4).lo hk12).lo hk18))) rfl ?_)
    rintro e w23 ⟨rfl, hk24⟩
    refine ⟨_, rfl, ?_⟩
    have hz25 := hk24.size
    have hB26 := hB20.lo hk24
    refine SR.q' (r_not rfl) <| SR.nil ?_
    refine W.cond_n rfl (fun h27 => ?_) (fun h27 => ?_)
    · refine W.seq ?_
      refine W.regS (SR.q' (r_as (v := .bool false) rfl) <| SR.nil ?_)
      refine W.ret ?_
      refine ret1 rfl (v := .bool _) rfl ?_
      exact ⟨eR (eDF (z_c_laws_eqLibrary_28 a na_Maps hbda_Maps hlea_Maps na_Away hbda_Away hlea_Away b nb_Maps hbdb_Maps hleb_Maps nb_Away hbdb_Away hleb_Away h21 h27)), hB26⟩
    · refine W.skip ?_
      refine W.seq ?_
      refine W.seq ?_
      refine W.regS (SR.q' (r_fa fa35_2 rfl) <| SR.q' (r_ld (v := .int .i64 a.Bought) sca3 rfl (((((hb6).lo hk12).lo hk18).lo hk24).cell rfl)) <| SR.q' (r_fa fa35_2 rfl) <| SR.q' (r_ld (v := .int .i64 b.Bought) sca3 rfl ((((hb14).lo hk18).lo hk24).cell rfl)) <| SR.q' (r_ne rfl rfl) <| SR.nil ?_)
      refine W.cond_n rfl (fun h29 => ?_) (fun h29 => ?_)
      · refine W.seq ?_
        refine W.regS (SR.q' (r_as (v := .bool false) rfl) <| SR.nil ?_)
        refine W.ret ?_
        refine ret1 rfl (v := .bool _) rfl ?_
        exact ⟨eR (eDF (z_c_laws_eqLibrary_30 a na_Maps hbda_Maps hlea_Maps na_Away hbda_Away hlea_Away b nb_Maps hbdb_Maps hleb_Maps nb_Away hbdb_Away hleb_Away h21 h27 h29)), hB26⟩
      · refine W.skip ?_
        refine W.seq ?_
        refine W.seq ?_
        refine W.regS (SR.q' (r_fa fa35_3 rfl) <| SR.q' (r_ld (v := .int .i64 a.Dropped) sca3 rfl (((((hb6).lo hk12).lo hk18).lo hk24).cell rfl)) <| SR.q' (r_fa fa35_3 rfl) <| SR.q' (r_ld (v := .int .i64 b.Dropped) sca3 rfl ((((hb14).lo hk18).lo hk24).cell rfl)) <| SR.q' (r_ne rfl rfl) <| SR.nil ?_)
        refine W.cond_n rfl (fun h31 => ?_) (fun h31 => ?_)
        · refine W.seq ?_
          refine W.regS (SR.q' (r_as (v := .bool false) rfl) <| SR.nil ?_)
          refine W.ret ?_
          refine ret1 rfl (v := .bool _) rfl ?_
          exact ⟨eR (eDF (z_c_laws_eqLibrary_32 a na_Maps hbda_Maps hlea_Maps na_Away hbda_Away hlea_Away b nb_Maps hbdb_Maps hleb_Maps nb_Away hbdb_Away hleb_Away h21 h27 h29 h31)), hB26⟩
        · refine W.skip ?_
          refine W.seq ?_
          refine W.seq ?_
          refine W.regS (SR.q' (r_fa fa35_4 rfl) <| SR.q' (r_ld (v := .int .i64 a.Mended) sca3 rfl (((((hb6).lo hk12).lo hk18).lo hk24).cell rfl)) <| SR.q' (r_fa fa35_4 rfl) <| SR.q' (r_ld (v := .int .i64 b.Mended) sca3 rfl ((((hb14).lo hk18).lo hk24).cell rfl)) <| SR.q' (r_ne rfl rfl) <| SR.nil ?_)
          refine W.cond_n rfl (fun h33 => ?_) (fun h33 => ?_)
          · refine W.seq ?_
            refine W.regS (SR.q' (r_as (v := .bool false) rfl) <| SR.nil ?_)
            refine W.ret ?_
            refine ret1 rfl (v := .bool _) rfl ?_
            exact ⟨eR (eDF (z_c_laws_eqLibrary_34 a na_Maps hbda_Maps hlea_Maps na_Away hbda_Away hlea_Away b nb_Maps hbdb_Maps hleb_Maps nb_Away hbdb_Away hleb_Away h21 h27 h29 h31 h33)), hB26⟩
          · refine W.skip ?_
            refine W.seq ?_
            refine W.regS (SR.q' (r_as (v := .bool true) rfl) <| SR.nil ?_)
            refine W.ret ?_
            refine ret1 rfl (v := .bool _) rfl ?_
            exact ⟨eR (eDT (z_c_laws_eqLibrary_35 a na_Maps hbda_Maps hlea_Maps na_Away hbda_Away hlea_Away b nb_Maps hbdb_Maps hleb_Maps nb_Away hbdb_Away hleb_Away h21 h27 h29 h31 h33)), hB26⟩
end Go.Proofs.YtocpdkhahmbaiaaDoor
