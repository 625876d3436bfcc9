/- Walks, printed by a program of this claim's author. -/
import Derived.Test.YthlbmkpkgiabnaaDoorChecked
import Derived.Test.YthlbmkpkgiabnaaDoorWb
import Derived.Test.YthlbmkpkgiabnaaDoorFt
import Derived.Test.YthlbmkpkgiabnaaDoorSi
import Derived.Test.YthlbmkpkgiabnaaDoorG33v
namespace Go.Proofs.YthlbmkpkgiabnaaDoor
open Go Go.RowKit Fw
set_option maxRecDepth 10000
set_option linter.unusedVariables false
theorem agg23 : TAgg Tryd.prog 23 2 := ⟨fun _ => by kernel_rfl, fun _ => by kernel_rfl⟩
theorem agg36 : TAgg Tryd.prog 36 3 := ⟨fun _ => by kernel_rfl, fun _ => by kernel_rfl⟩
theorem ent13 : Ent Tryd.prog 13 := ent_of Tryd.func13 (by decide +kernel) rfl
theorem ent14 : Ent Tryd.prog 14 := ent_of Tryd.func14 (by decide +kernel) rfl
theorem ent15 : Ent Tryd.prog 15 := ent_of Tryd.func15 (by decide +kernel) rfl
theorem ent17 : Ent Tryd.prog 17 := ent_of Tryd.func17 (by decide +kernel) rfl
theorem ent18 : Ent Tryd.prog 18 := ent_of Tryd.func18 (by decide +kernel) rfl
theorem ent19 : Ent Tryd.prog 19 := ent_of Tryd.func19 (by decide +kernel) rfl
theorem ent20 : Ent Tryd.prog 20 := ent_of Tryd.func20 (by decide +kernel) rfl
theorem ent21 : Ent Tryd.prog 21 := ent_of Tryd.func21 (by decide +kernel) rfl
theorem ent22 : Ent Tryd.prog 22 := ent_of Tryd.func22 (by decide +kernel) rfl
theorem ent26 : Ent Tryd.prog 26 := ent_of Tryd.func26 (by decide +kernel) rfl
theorem ent27 : Ent Tryd.prog 27 := ent_of Tryd.func27 (by decide +kernel) rfl
theorem ent28 : Ent Tryd.prog 28 := ent_of Tryd.func28 (by decide +kernel) rfl
theorem ent29 : Ent Tryd.prog 29 := ent_of Tryd.func29 (by decide +kernel) rfl
theorem ent30 : Ent Tryd.prog 30 := ent_of Tryd.func30 (by decide +kernel) rfl
theorem ent31 : Ent Tryd.prog 31 := ent_of Tryd.func31 (by decide +kernel) rfl
theorem ent32 : Ent Tryd.prog 32 := ent_of Tryd.func32 (by decide +kernel) rfl
theorem ent33 : Ent Tryd.prog 33 := ent_of Tryd.func33 (by decide +kernel) rfl
theorem ent34 : Ent Tryd.prog 34 := ent_of Tryd.func34 (by decide +kernel) rfl
theorem ent51 : Ent Tryd.prog 51 := ent_of Tryd.func51 (by decide +kernel) rfl
theorem ent52 : Ent Tryd.prog 52 := ent_of Tryd.func52 (by decide +kernel) rfl
theorem fa23_0 : FA Tryd.prog 23 0 0 := fun _ _ => by kernel_rfl
theorem fa23_1 : FA Tryd.prog 23 1 1 := fun _ _ => by kernel_rfl
theorem fa36_0 : FA Tryd.prog 36 0 0 := fun _ _ => by kernel_rfl
theorem fa36_1 : FA Tryd.prog 36 1 1 := fun _ _ => by kernel_rfl
theorem fa36_2 : FA Tryd.prog 36 2 2 := fun _ _ => by kernel_rfl
theorem tel53 : TEl Tryd.prog 53 5 (.int .u8 0) 1 1 := ⟨by kernel_rfl, by kernel_rfl, rfl, by decide⟩
theorem tsl48 : TSl Tryd.prog 48 27 2 := ⟨by kernel_rfl, fun _ => by kernel_rfl⟩
theorem und4 : Tryd.prog.underlying 4 = some (.bool) := by kernel_rfl

theorem z_c_laws_szLog_10 (r : Log) (left : Int) (hp0 : 0 ≤ left) (hp1 : left ≤ 1048576) (hp2 : (r.Durable.length : Int) ≤ 9223372036854775807) (hp3 : (r.Pending.length : Int) ≤ 9223372036854775807) (h9 : (left - (r.Durable.length : Int)) < 0) : (-1) = szN (r.Durable.length + r.Pending.length) left := by
  first | exact szN_neg ‹_› | exact szN_neg1 ‹_› | exact szN_neg2 ‹_› ‹_› | exact szN_add ‹_› ‹_› | (unfold szN at *; repeat (split at *)) <;> omega
theorem z_c_laws_szLog_12 (r : Log) (left : Int) (hp0 : 0 ≤ left) (hp1 : left ≤ 1048576) (hp2 : (r.Durable.length : Int) ≤ 9223372036854775807) (hp3 : (r.Pending.length : Int) ≤ 9223372036854775807) (h9 : ¬ ((left - (r.Durable.length : Int)) < 0)) (h11 : ((left - (r.Durable.length : Int)) - (r.Pending.length : Int)) < 0) : (-1) = szN (r.Durable.length + r.Pending.length) left := by
  first | exact szN_neg ‹_› | exact szN_neg1 ‹_› | exact szN_neg2 ‹_› ‹_› | exact szN_add ‹_› ‹_› | (unfold szN at *; repeat (split at *)) <;> omega
theorem z_c_laws_szLog_13 (r : Log) (left : Int) (hp0 : 0 ≤ left) (hp1 : left ≤ 1048576) (hp2 : (r.Durable.length : Int) ≤ 9223372036854775807) (hp3 : (r.Pending.length : Int) ≤ 9223372036854775807) (h9 : ¬ ((left - (r.Durable.length : Int)) < 0)) (h11 : ¬ (((left - (r.Durable.length : Int)) - (r.Pending.length : Int)) < 0)) : (left - (r.Durable.length : Int)) - (r.Pending.length : Int) = szN (r.Durable.length + r.Pending.length) left := by
  first | exact szN_neg ‹_› | exact szN_neg1 ‹_› | exact szN_neg2 ‹_› ‹_› | exact szN_add ‹_› ‹_› | (unfold szN at *; repeat (split at *)) <;> omega
theorem c_laws_szLog (w : World) (r : Log) (left : Int) (hp0 : 0 ≤ left) (hp1 : left ≤ 1048576) (hp2 : (r.Durable.length : Int) ≤ 9223372036854775807) (hp3 : (r.Pending.length : Int) ≤ 9223372036854775807) : Calls Tryd.prog 20 #[.agg (List.toArray (encLog r)), .int .i64 left] w fun e w' => e = .returned (.int .i64 (szN (r.Durable.length + r.Pending.length) left)) ∧ Lo w w' := by
  refine calls_W 20 Tryd.func20 rfl rfl rfl ?_
  refine W.seq ?_
  refine W.regS (SR.box (v := .agg (List.toArray _)) (l := [str r.Durable, str r.Pending, .int .i64 r.Count]) rfl rfl ?_)
  intro g1 w2 hg3 hk4 hs5 hb6
  have hz7 := hk4.size
  have hB8 := (Lo.refl w).lo hk4
  refine SR.q' (r_as (v := .int .i64 0) rfl) <| SR.nil ?_
  refine W.seq ?_
  refine W.regS (SR.q' (r_mv (v := .int .i64 _) rfl) <| SR.q' (r_fa fa36_0 rfl) <| SR.q' (r_ld (v := str r.Durable) sca9 rfl ((hb6).cell rfl)) <| SR.q' (r_len_s und9 rfl) <| SR.q' (r_sub rfl rfl (by omega)) <| SR.q' (r_as (v := .int .i64 _) rfl) <| SR.nil ?_)
  refine W.seq ?_
  refine W.seq ?_
  refine W.regS (SR.q' (r_mv (v := .int .i64 _) rfl) <| SR.q' (r_lt rfl rfl) <| SR.nil ?_)
  refine W.cond_d rfl (fun h9 => ?_) (fun h9 => ?_)
  · refine W.seq ?_
    refine W.regS (SR.q' (r_as (v := .int .i64 (-1)) rfl) <| SR.nil ?_)
    refine W.ret ?_
    refine ret1 rfl (v := .int .i64 _) rfl ?_
    exact ⟨eR (eI (z_c_laws_szLog_10 r left hp0 hp1 hp2 hp3 h9)), hB8⟩
  · refine W.skip ?_
    refine W.seq ?_
    refine W.regS (SR.q' (r_mv (v := .int .i64 _) rfl) <| SR.q' (r_fa fa36_1 rfl) <| SR.q' (r_ld (v := str r.Pending) sca9 rfl ((hb6).cell rfl)) <| SR.q' (r_len_s und9 rfl) <| SR.q' (r_sub rfl rfl (by omega)) <| SR.q' (r_as (v := .int .i64 _) rfl) <| SR.nil ?_)
    refine W.seq ?_
    refine W.seq ?_
    refine W.regS (SR.q' (r_mv (v := .int .i64 _) rfl) <| SR.q' (r_lt rfl rfl) <| SR.nil ?_)
    refine W.cond_d rfl (fun h11 => ?_) (fun h11 => ?_)
    · refine W.seq ?_
      refine W.regS (SR.q' (r_as (v := .int .i64 (-1)) rfl) <| SR.nil ?_)
      refine W.ret ?_
      refine ret1 rfl (v := .int .i64 _) rfl ?_
      exact ⟨eR (eI (z_c_laws_szLog_12 r left hp0 hp1 hp2 hp3 h9 h11)), hB8⟩
    · refine W.skip ?_
      refine W.seq ?_
      refine W.regS (SR.q' (r_mv (v := .int .i64 _) rfl) <| SR.q' (r_as (v := .int .i64 _) rfl) <| SR.nil ?_)
      refine W.ret ?_
      refine ret1 rfl (v := .int .i64 _) rfl ?_
      exact ⟨eR (eI (z_c_laws_szLog_13 r left hp0 hp1 hp2 hp3 h9 h11)), hB8⟩

theorem z_c_laws_toLog_49 (r : Log) : ([str r.Durable, str r.Pending, .int .i64 r.Count] : List Value) = encLog r := by
  first | rfl | (first | rfl | omega | grind)
theorem c_laws_toLog (w : World) (r : Log) : Calls Tryd.prog 22 #[.agg (List.toArray (encLog r))] w fun e w' => e = .returned (.agg (List.toArray (encLog r))) ∧ Lo w w' := by
  refine calls_W 14 Tryd.func22 rfl rfl rfl ?_
  refine W.seq ?_
  refine W.regS (SR.box (v := .agg (List.toArray _)) (l := [str r.Durable, str r.Pending, .int .i64 r.Count]) rfl rfl ?_)
  intro g1 w2 hg3 hk4 hs5 hb6
  have hz7 := hk4.size
  have hB8 := (Lo.refl w).lo hk4
  refine SR.alloc (l := [str ([] : List UInt8), str ([] : List UInt8), .int .i64 0]) tz31 rfl ?_
  intro g9 w10 hg11 hk12 hs13 hb14
  have hz15 := hk12.size
  have hB16 := hB8.lo hk12
  refine SR.nil ?_
  refine W.seq ?_
  refine W.regS (SR.alloc (l := [str ([] : List UInt8), str ([] : List UInt8), .int .i64 0]) tz31 rfl ?_)
  intro g17 w18 hg19 hk20 hs21 hb22
  have hz23 := hk20.size
  have hB24 := hB16.lo hk20
  refine SR.nil ?_
  refine W.seq ?_
  refine W.regS (SR.q' (r_fa fa36_0 rfl) <| SR.q' (r_ld (v := str r.Durable) sca9 rfl ((((hb6).lo hk12).lo hk20).cell rfl)) <| SR.q' (r_fa fa31_0 rfl) <| SR.store (o := 0) (vs := [str r.Durable]) sca9.2 rfl rfl rfl rfl (hb22) (Nat.le_of_ble_eq_true rfl) rfl ?_)
  intro w25 hk26 hs27 hb28
  have hz29 := hk26.size
  have hB30 := hB24.new hk26 (by omega)
  refine SR.nil ?_
  refine W.seq ?_
  refine W.regS (SR.q' (r_fa fa36_1 rfl) <| SR.q' (r_ld (v := str r.Pending) sca9 rfl (((((hb6).lo hk12).lo hk20).kp hk26 (fun e' => by have e'' : g1 = g17 := e'; omega)).cell rfl)) <| SR.q' (r_fa fa31_1 rfl) <| SR.store (o := 1) (vs := [str r.Pending]) sca9.2 rfl rfl rfl rfl (hb28) (Nat.le_of_ble_eq_true rfl) rfl ?_)
  intro w31 hk32 hs33 hb34
  have hz35 := hk32.size
  have hB36 := hB30.new hk32 (by omega)
  refine SR.nil ?_
  refine W.seq ?_
  refine W.regS (SR.q' (r_fa fa36_2 rfl) <| SR.q' (r_ld (v := .int .i64 r.Count) sca3 rfl ((((((hb6).lo hk12).lo hk20).kp hk26 (fun e' => by have e'' : g1 = g17 := e'; omega)).kp hk32 (fun e' => by have e'' : g1 = g17 := e'; omega)).cell rfl)) <| SR.q' (r_fa fa31_2 rfl) <| SR.store (o := 2) (vs := [.int .i64 r.Count]) sca3.2 rfl rfl rfl rfl (hb34) (Nat.le_of_ble_eq_true rfl) rfl ?_)
  intro w37 hk38 hs39 hb40
  have hz41 := hk38.size
  have hB42 := hB36.new hk38 (by omega)
  refine SR.nil ?_
  refine W.seq ?_
  refine W.regS (SR.q' (r_lda (l := [str r.Durable, str r.Pending, .int .i64 r.Count]) agg31 rfl (fun _ _ hu => (hb40).cell hu) rfl) <| SR.store (o := 0) (vs := [str r.Durable, str r.Pending, .int .i64 r.Count]) agg31.2 rfl rfl rfl rfl (((((hb14).lo hk20).kp hk26 (fun e' => by have e'' : g9 = g17 := e'; omega)).kp hk32 (fun e' => by have e'' : g9 = g17 := e'; omega)).kp hk38 (fun e' => by have e'' : g9 = g17 := e'; omega)) (Nat.le_of_ble_eq_true rfl) rfl ?_)
  intro w43 hk44 hs45 hb46
  have hz47 := hk44.size
  have hB48 := hB42.new hk44 (by omega)
  refine SR.nil ?_
  refine W.ret ?_
  refine retC rfl rfl agg31 (hb46) rfl ?_
  exact ⟨eR (eA (z_c_laws_toLog_49 r)), hB48⟩

theorem z_c_laws_eqLog_18 (a : Log) (b : Log) (h17 : ¬ (a.Durable = b.Durable)) : ¬ (a = b) := by
  cases a; cases b; simp_all
theorem z_c_laws_eqLog_20 (a : Log) (b : Log) (h17 : a.Durable = b.Durable) (h19 : ¬ (a.Pending = b.Pending)) : ¬ (a = b) := by
  cases a; cases b; simp_all
theorem z_c_laws_eqLog_22 (a : Log) (b : Log) (h17 : a.Durable = b.Durable) (h19 : a.Pending = b.Pending) (h21 : ¬ (a.Count = b.Count)) : ¬ (a = b) := by
  cases a; cases b; simp_all
theorem z_c_laws_eqLog_23 (a : Log) (b : Log) (h17 : a.Durable = b.Durable) (h19 : a.Pending = b.Pending) (h21 : a.Count = b.Count) : a = b := by
  cases a; cases b; simp_all
theorem c_laws_eqLog (w : World) (a : Log) (b : Log) : Calls Tryd.prog 19 #[.agg (List.toArray (encLog a)), .agg (List.toArray (encLog b))] w fun e w' => e = .returned (.bool (decide (a = b))) ∧ Lo w w' := by
  refine calls_W 20 Tryd.func19 rfl rfl rfl ?_
  refine W.seq ?_
  refine W.regS (SR.box (v := .agg (List.toArray _)) (l := [str a.Durable, str a.Pending, .int .i64 a.Count]) rfl rfl ?_)
  intro g1 w2 hg3 hk4 hs5 hb6
  have hz7 := hk4.size
  have hB8 := (Lo.refl w).lo hk4
  refine SR.box (v := .agg (List.toArray _)) (l := [str b.Durable, str b.Pending, .int .i64 b.Count]) rfl rfl ?_
  intro g9 w10 hg11 hk12 hs13 hb14
  have hz15 := hk12.size
  have hB16 := hB8.lo hk12
  refine SR.q' (r_as (v := .bool false) rfl) <| SR.nil ?_
  refine W.seq ?_
  refine W.seq ?_
  refine W.regS (SR.q' (r_fa fa31_0 rfl) <| SR.q' (r_ld (v := str a.Durable) sca9 rfl (((hb6).lo hk12).cell rfl)) <| SR.q' (r_fa fa31_0 rfl) <| SR.q' (r_ld (v := str b.Durable) sca9 rfl ((hb14).cell rfl)) <| SR.q' (r_nes (s := a.Durable) (r := b.Durable) rfl rfl) <| SR.nil ?_)
  refine W.cond_n rfl (fun h17 => ?_) (fun h17 => ?_)
  · refine W.seq ?_
    refine W.regS (SR.q' (r_as (v := .bool false) rfl) <| SR.nil ?_)
    refine W.ret ?_
    refine ret1 rfl (v := .bool _) rfl ?_
    exact ⟨eR (eDF (z_c_laws_eqLog_18 a b h17)), hB16⟩
  · refine W.skip ?_
    refine W.seq ?_
    refine W.seq ?_
    refine W.regS (SR.q' (r_fa fa31_1 rfl) <| SR.q' (r_ld (v := str a.Pending) sca9 rfl (((hb6).lo hk12).cell rfl)) <| SR.q' (r_fa fa31_1 rfl) <| SR.q' (r_ld (v := str b.Pending) sca9 rfl ((hb14).cell rfl)) <| SR.q' (r_nes (s := a.Pending) (r := b.Pending) rfl rfl) <| SR.nil ?_)
    refine W.cond_n rfl (fun h19 => ?_) (fun h19 => ?_)
    · refine W.seq ?_
      refine W.regS (SR.q' (r_as (v := .bool false) rfl) <| SR.nil ?_)
      refine W.ret ?_
      refine ret1 rfl (v := .bool _) rfl ?_
      exact ⟨eR (eDF (z_c_laws_eqLog_20 a b h17 h19)), hB16⟩
    · refine W.skip ?_
      refine W.seq ?_
      refine W.seq ?_
      refine W.regS (SR.q' (r_fa fa31_2 rfl) <| SR.q' (r_ld (v := .int .i64 a.Count) sca3 rfl (((hb6).lo hk12).cell rfl)) <| SR.q' (r_fa fa31_2 rfl) <| SR.q' (r_ld (v := .int .i64 b.Count) sca3 rfl ((hb14).cell rfl)) <| SR.q' (r_ne rfl rfl) <| SR.nil ?_)
      refine W.cond_n rfl (fun h21 => ?_) (fun h21 => ?_)
      · refine W.seq ?_
        refine W.regS (SR.q' (r_as (v := .bool false) rfl) <| SR.nil ?_)
        refine W.ret ?_
        refine ret1 rfl (v := .bool _) rfl ?_
        exact ⟨eR (eDF (z_c_laws_eqLog_22 a b h17 h19 h21)), hB16⟩
      · refine W.skip ?_
        refine W.seq ?_
        refine W.regS (SR.q' (r_as (v := .bool true) rfl) <| SR.nil ?_)
        refine W.ret ?_
        refine ret1 rfl (v := .bool _) rfl ?_
        exact ⟨eR (eDT (z_c_laws_eqLog_23 a b h17 h19 h21)), hB16⟩

theorem z_c_laws_szLogRecord_10 (r : LogRecord) (left : Int) (hp0 : 0 ≤ left) (hp1 : left ≤ 1048576) (hp2 : (r.Command.length : Int) ≤ 9223372036854775807) (hp3 : (r.Reply.length : Int) ≤ 9223372036854775807) (h9 : (left - (r.Command.length : Int)) < 0) : (-1) = szN (r.Command.length + r.Reply.length) left := by
  first | exact szN_neg ‹_› | exact szN_neg1 ‹_› | exact szN_neg2 ‹_› ‹_› | exact szN_add ‹_› ‹_› | (unfold szN at *; repeat (split at *)) <;> omega
theorem z_c_laws_szLogRecord_12 (r : LogRecord) (left : Int) (hp0 : 0 ≤ left) (hp1 : left ≤ 1048576) (hp2 : (r.Command.length : Int) ≤ 9223372036854775807) (hp3 : (r.Reply.length : Int) ≤ 9223372036854775807) (h9 : ¬ ((left - (r.Command.length : Int)) < 0)) (h11 : ((left - (r.Command.length : Int)) - (r.Reply.length : Int)) < 0) : (-1) = szN (r.Command.length + r.Reply.length) left := by
  first | exact szN_neg ‹_› | exact szN_neg1 ‹_› | exact szN_neg2 ‹_› ‹_› | exact szN_add ‹_› ‹_› | (unfold szN at *; repeat (split at *)) <;> omega
theorem z_c_laws_szLogRecord_13 (r : LogRecord) (left : Int) (hp0 : 0 ≤ left) (hp1 : left ≤ 1048576) (hp2 : (r.Command.length : Int) ≤ 9223372036854775807) (hp3 : (r.Reply.length : Int) ≤ 9223372036854775807) (h9 : ¬ ((left - (r.Command.length : Int)) < 0)) (h11 : ¬ (((left - (r.Command.length : Int)) - (r.Reply.length : Int)) < 0)) : (left - (r.Command.length : Int)) - (r.Reply.length : Int) = szN (r.Command.length + r.Reply.length) left := by
  first | exact szN_neg ‹_› | exact szN_neg1 ‹_› | exact szN_neg2 ‹_› ‹_› | exact szN_add ‹_› ‹_› | (unfold szN at *; repeat (split at *)) <;> omega
theorem c_laws_szLogRecord (w : World) (r : LogRecord) (left : Int) (hp0 : 0 ≤ left) (hp1 : left ≤ 1048576) (hp2 : (r.Command.length : Int) ≤ 9223372036854775807) (hp3 : (r.Reply.length : Int) ≤ 9223372036854775807) : Calls Tryd.prog 13 #[.agg (List.toArray (encLogRecord r)), .int .i64 left] w fun e w' => e = .returned (.int .i64 (szN (r.Command.length + r.Reply.length) left)) ∧ Lo w w' := by
  refine calls_W 20 Tryd.func13 rfl rfl rfl ?_
  refine W.seq ?_
  refine W.regS (SR.box (v := .agg (List.toArray _)) (l := [str r.Command, str r.Reply]) rfl rfl ?_)
  intro g1 w2 hg3 hk4 hs5 hb6
  have hz7 := hk4.size
  have hB8 := (Lo.refl w).lo hk4
  refine SR.q' (r_as (v := .int .i64 0) rfl) <| SR.nil ?_
  refine W.seq ?_
  refine W.regS (SR.q' (r_mv (v := .int .i64 _) rfl) <| SR.q' (r_fa fa23_0 rfl) <| SR.q' (r_ld (v := str r.Command) sca9 rfl ((hb6).cell rfl)) <| SR.q' (r_len_s und9 rfl) <| SR.q' (r_sub rfl rfl (by omega)) <| SR.q' (r_as (v := .int .i64 _) rfl) <| SR.nil ?_)
  refine W.seq ?_
  refine W.seq ?_
  refine W.regS (SR.q' (r_mv (v := .int .i64 _) rfl) <| SR.q' (r_lt rfl rfl) <| SR.nil ?_)
  refine W.cond_d rfl (fun h9 => ?_) (fun h9 => ?_)
  · refine W.seq ?_
    refine W.regS (SR.q' (r_as (v := .int .i64 (-1)) rfl) <| SR.nil ?_)
    refine W.ret ?_
    refine ret1 rfl (v := .int .i64 _) rfl ?_
    exact ⟨eR (eI (z_c_laws_szLogRecord_10 r left hp0 hp1 hp2 hp3 h9)), hB8⟩
  · refine W.skip ?_
    refine W.seq ?_
    refine W.regS (SR.q' (r_mv (v := .int .i64 _) rfl) <| SR.q' (r_fa fa23_1 rfl) <| SR.q' (r_ld (v := str r.Reply) sca9 rfl ((hb6).cell rfl)) <| SR.q' (r_len_s und9 rfl) <| SR.q' (r_sub rfl rfl (by omega)) <| SR.q' (r_as (v := .int .i64 _) rfl) <| SR.nil ?_)
    refine W.seq ?_
    refine W.seq ?_
    refine W.regS (SR.q' (r_mv (v := .int .i64 _) rfl) <| SR.q' (r_lt rfl rfl) <| SR.nil ?_)
    refine W.cond_d rfl (fun h11 => ?_) (fun h11 => ?_)
    · refine W.seq ?_
      refine W.regS (SR.q' (r_as (v := .int .i64 (-1)) rfl) <| SR.nil ?_)
      refine W.ret ?_
      refine ret1 rfl (v := .int .i64 _) rfl ?_
      exact ⟨eR (eI (z_c_laws_szLogRecord_12 r left hp0 hp1 hp2 hp3 h9 h11)), hB8⟩
    · refine W.skip ?_
      refine W.seq ?_
      refine W.regS (SR.q' (r_mv (v := .int .i64 _) rfl) <| SR.q' (r_as (v := .int .i64 _) rfl) <| SR.nil ?_)
      refine W.ret ?_
      refine ret1 rfl (v := .int .i64 _) rfl ?_
      exact ⟨eR (eI (z_c_laws_szLogRecord_13 r left hp0 hp1 hp2 hp3 h9 h11)), hB8⟩

theorem z_c_laws_toLogRecord_43 (r : LogRecord) : ([str r.Command, str r.Reply] : List Value) = encLogRecord r := by
  first | rfl | (first | rfl | omega | grind)
theorem c_laws_toLogRecord (w : World) (r : LogRecord) : Calls Tryd.prog 15 #[.agg (List.toArray (encLogRecord r))] w fun e w' => e = .returned (.agg (List.toArray (encLogRecord r))) ∧ Lo w w' := by
  refine calls_W 11 Tryd.func15 rfl rfl rfl ?_
  refine W.seq ?_
  refine W.regS (SR.box (v := .agg (List.toArray _)) (l := [str r.Command, str r.Reply]) rfl rfl ?_)
  intro g1 w2 hg3 hk4 hs5 hb6
  have hz7 := hk4.size
  have hB8 := (Lo.refl w).lo hk4
  refine SR.alloc (l := [str ([] : List UInt8), str ([] : List UInt8)]) tz27 rfl ?_
  intro g9 w10 hg11 hk12 hs13 hb14
  have hz15 := hk12.size
  have hB16 := hB8.lo hk12
  refine SR.nil ?_
  refine W.seq ?_
  refine W.regS (SR.alloc (l := [str ([] : List UInt8), str ([] : List UInt8)]) tz27 rfl ?_)
  intro g17 w18 hg19 hk20 hs21 hb22
  have hz23 := hk20.size
  have hB24 := hB16.lo hk20
  refine SR.nil ?_
  refine W.seq ?_
  refine W.regS (SR.q' (r_fa fa23_0 rfl) <| SR.q' (r_ld (v := str r.Command) sca9 rfl ((((hb6).lo hk12).lo hk20).cell rfl)) <| SR.q' (r_fa fa27_0 rfl) <| SR.store (o := 0) (vs := [str r.Command]) sca9.2 rfl rfl rfl rfl (hb22) (Nat.le_of_ble_eq_true rfl) rfl ?_)
  intro w25 hk26 hs27 hb28
  have hz29 := hk26.size
  have hB30 := hB24.new hk26 (by omega)
  refine SR.nil ?_
  refine W.seq ?_
  refine W.regS (SR.q' (r_fa fa23_1 rfl) <| SR.q' (r_ld (v := str r.Reply) sca9 rfl (((((hb6).lo hk12).lo hk20).kp hk26 (fun e' => by have e'' : g1 = g17 := e'; omega)).cell rfl)) <| SR.q' (r_fa fa27_1 rfl) <| SR.store (o := 1) (vs := [str r.Reply]) sca9.2 rfl rfl rfl rfl (hb28) (Nat.le_of_ble_eq_true rfl) rfl ?_)
  intro w31 hk32 hs33 hb34
  have hz35 := hk32.size
  have hB36 := hB30.new hk32 (by omega)
  refine SR.nil ?_
  refine W.seq ?_
  refine W.regS (SR.q' (r_lda (l := [str r.Command, str r.Reply]) agg27 rfl (fun _ _ hu => (hb34).cell hu) rfl) <| SR.store (o := 0) (vs := [str r.Command, str r.Reply]) agg27.2 rfl rfl rfl rfl ((((hb14).lo hk20).kp hk26 (fun e' => by have e'' : g9 = g17 := e'; omega)).kp hk32 (fun e' => by have e'' : g9 = g17 := e'; omega)) (Nat.le_of_ble_eq_true rfl) rfl ?_)
  intro w37 hk38 hs39 hb40
  have hz41 := hk38.size
  have hB42 := hB36.new hk38 (by omega)
  refine SR.nil ?_
  refine W.ret ?_
  refine retC rfl rfl agg27 (hb40) rfl ?_
  exact ⟨eR (eA (z_c_laws_toLogRecord_43 r)), hB42⟩

theorem z_c_laws_eqLogRecord_18 (a : LogRecord) (b : LogRecord) (h17 : ¬ (a.Command = b.Command)) : ¬ (a = b) := by
  cases a; cases b; simp_all
theorem z_c_laws_eqLogRecord_20 (a : LogRecord) (b : LogRecord) (h17 : a.Command = b.Command) (h19 : ¬ (a.Reply = b.Reply)) : ¬ (a = b) := by
  cases a; cases b; simp_all
theorem z_c_laws_eqLogRecord_21 (a : LogRecord) (b : LogRecord) (h17 : a.Command = b.Command) (h19 : a.Reply = b.Reply) : a = b := by
  cases a; cases b; simp_all
theorem c_laws_eqLogRecord (w : World) (a : LogRecord) (b : LogRecord) : Calls Tryd.prog 51 #[.agg (List.toArray (encLogRecord a)), .agg (List.toArray (encLogRecord b))] w fun e w' => e = .returned (.bool (decide (a = b))) ∧ Lo w w' := by
  refine calls_W 15 Tryd.func51 rfl rfl rfl ?_
  refine W.seq ?_
  refine W.regS (SR.box (v := .agg (List.toArray _)) (l := [str a.Command, str a.Reply]) rfl rfl ?_)
  intro g1 w2 hg3 hk4 hs5 hb6
  have hz7 := hk4.size
  have hB8 := (Lo.refl w).lo hk4
  refine SR.box (v := .agg (List.toArray _)) (l := [str b.Command, str b.Reply]) rfl rfl ?_
  intro g9 w10 hg11 hk12 hs13 hb14
  have hz15 := hk12.size
  have hB16 := hB8.lo hk12
  refine SR.q' (r_as (v := .bool false) rfl) <| SR.nil ?_
  refine W.seq ?_
  refine W.seq ?_
  refine W.regS (SR.q' (r_fa fa27_0 rfl) <| SR.q' (r_ld (v := str a.Command) sca9 rfl (((hb6).lo hk12).cell rfl)) <| SR.q' (r_fa fa27_0 rfl) <| SR.q' (r_ld (v := str b.Command) sca9 rfl ((hb14).cell rfl)) <| SR.q' (r_nes (s := a.Command) (r := b.Command) rfl rfl) <| SR.nil ?_)
  refine W.cond_n rfl (fun h17 => ?_) (fun h17 => ?_)
  · refine W.seq ?_
    refine W.regS (SR.q' (r_as (v := .bool false) rfl) <| SR.nil ?_)
    refine W.ret ?_
    refine ret1 rfl (v := .bool _) rfl ?_
    exact ⟨eR (eDF (z_c_laws_eqLogRecord_18 a b h17)), hB16⟩
  · refine W.skip ?_
    refine W.seq ?_
    refine W.seq ?_
    refine W.regS (SR.q' (r_fa fa27_1 rfl) <| SR.q' (r_ld (v := str a.Reply) sca9 rfl (((hb6).lo hk12).cell rfl)) <| SR.q' (r_fa fa27_1 rfl) <| SR.q' (r_ld (v := str b.Reply) sca9 rfl ((hb14).cell rfl)) <| SR.q' (r_nes (s := a.Reply) (r := b.Reply) rfl rfl) <| SR.nil ?_)
    refine W.cond_n rfl (fun h19 => ?_) (fun h19 => ?_)
    · refine W.seq ?_
      refine W.regS (SR.q' (r_as (v := .bool false) rfl) <| SR.nil ?_)
      refine W.ret ?_
      refine ret1 rfl (v := .bool _) rfl ?_
      exact ⟨eR (eDF (z_c_laws_eqLogRecord_20 a b h17 h19)), hB16⟩
    · refine W.skip ?_
      refine W.seq ?_
      refine W.regS (SR.q' (r_as (v := .bool true) rfl) <| SR.nil ?_)
      refine W.ret ?_
      refine ret1 rfl (v := .bool _) rfl ?_
      exact ⟨eR (eDT (z_c_laws_eqLogRecord_21 a b h17 h19)), hB16⟩

theorem z_c_laws_markText_2 (k : Int) (hp0 : 0 ≤ k ∧ k ≤ 1000000000000) (h1 : k ≤ 0) : ([109, 48] : List UInt8) = mkT k := by
  first | (unfold mkT; rw [if_pos (by omega)]; done) | (have hh := ‹0 ≤ q ∧ mkD _ ++ _ = _ ∧ _›; unfold mkT; rw [if_neg (by omega), ← hh.2.1, mkD_end (k := q) (by omega)]; simp)
theorem z_c_laws_markText_3 (k : Int) (hp0 : 0 ≤ k ∧ k ≤ 1000000000000) (h1 : ¬ (k ≤ 0)) : 0 ≤ k ∧ mkD k ++ ([] : List UInt8) = mkD k ∧ (([] : List UInt8).length : Int) + k ≤ k := by
  exact ⟨by omega, by simp, by simp⟩
theorem z_c_laws_markText_18 (k : Int) (hp0 : 0 ≤ k ∧ k ≤ 1000000000000) (h1 : ¬ (k ≤ 0)) (q : Int) (O : List UInt8) (hi8 : 0 ≤ q ∧ mkD q ++ O = mkD k ∧ (O.length : Int) + q ≤ k) (hq9 : 0 ≤ q ∧ (O.length : Int) + q ≤ k) (h10 : 0 < q) : 0 ≤ q / 10 ∧ mkD (q / 10) ++ (([(bw (48 + (q % 10)))] : List UInt8) ++ O) = mkD k ∧ ((([(bw (48 + (q % 10)))] : List UInt8) ++ O).length : Int) + q / 10 ≤ k := by
  have hh := ‹0 ≤ q ∧ mkD _ ++ _ = _ ∧ _›; exact ⟨by omega, by rw [← hh.2.1, mkD_next (k := q) (by omega)]; simp, by simp only [List.length_append, List.length_cons, List.length_nil]; omega⟩
theorem z_c_laws_markText_19 (k : Int) (hp0 : 0 ≤ k ∧ k ≤ 1000000000000) (h1 : ¬ (k ≤ 0)) (q : Int) (O : List UInt8) (hi8 : 0 ≤ q ∧ mkD q ++ O = mkD k ∧ (O.length : Int) + q ≤ k) (hq9 : 0 ≤ q ∧ (O.length : Int) + q ≤ k) (h10 : 0 < q) : (q / 10).toNat < q.toNat := by
  omega
theorem z_c_laws_markText_20 (k : Int) (hp0 : 0 ≤ k ∧ k ≤ 1000000000000) (h1 : ¬ (k ≤ 0)) (q : Int) (O : List UInt8) (hi8 : 0 ≤ q ∧ mkD q ++ O = mkD k ∧ (O.length : Int) + q ≤ k) (hq9 : 0 ≤ q ∧ (O.length : Int) + q ≤ k) (h10 : ¬ (0 < q)) : ([109] : List UInt8) ++ O = mkT k := by
  first | (unfold mkT; rw [if_pos (by omega)]; done) | (have hh := ‹0 ≤ q ∧ mkD _ ++ _ = _ ∧ _›; unfold mkT; rw [if_neg (by omega), ← hh.2.1, mkD_end (k := q) (by omega)]; simp)
theorem c_laws_markText (w : World) (k : Int) (hp0 : 0 ≤ k ∧ k ≤ 1000000000000) : Calls Tryd.prog 52 #[.int .i64 k] w fun e w' => e = .returned (str (mkT k)) ∧ Lo w w' := by
  refine calls_W 20 Tryd.func52 rfl rfl rfl ?_
  refine W.seq ?_
  refine W.regS (SR.q' (r_as (v := str ([] : List UInt8)) rfl) <| SR.nil ?_)
  refine W.seq ?_
  refine W.seq ?_
  refine W.regS (SR.q' (r_mv (v := .int .i64 _) rfl) <| SR.q' (r_le rfl rfl) <| SR.nil ?_)
  refine W.cond_d rfl (fun h1 => ?_) (fun h1 => ?_)
  · refine W.seq ?_
    refine W.regS (SR.q' (r_as (v := str ([109, 48] : List UInt8)) rfl) <| SR.nil ?_)
    refine W.ret ?_
    refine ret1 rfl (v := str _) rfl ?_
    exact ⟨eR (eS (z_c_laws_markText_2 k hp0 h1)), (Lo.refl w)⟩
  · refine W.skip ?_
    refine W.seq ?_
    refine W.regS (SR.q' (r_as (v := str ([] : List UInt8)) rfl) <| SR.nil ?_)
    refine W.seq ?_
    refine W.block ?_
    refine W.loop (σ := Int × (List UInt8)) (fun g => [(0, .int .i64 g.1), (2, str ([] : List UInt8)), (3, str g.2)]) (fun g w' => (Lo w w') ∧ (0 ≤ g.1 ∧ mkD g.1 ++ g.2 = mkD k ∧ (g.2.length : Int) + g.1 ≤ k)) (fun g => g.1.toNat) (k, ([] : List UInt8)) ?_ ?_ ?_
    · exact ⟨rfl, rfl, rfl, trivial⟩
    · exact ⟨(Lo.refl w), (z_c_laws_markText_3 k hp0 h1)⟩
    · rintro ⟨q, O⟩ f4 w5 hP7
      obtain ⟨hB6, hi8⟩ : (Lo w w5) ∧ (0 ≤ q ∧ mkD q ++ O = mkD k ∧ (O.length : Int) + q ≤ k) := hP7
      refine (?_ : W _ _ _ _ _ (act _ (sets f4 [(0, .int .i64 q), (2, str ([] : List UInt8)), (3, str O)])) _)
      have hzw5 := hB6.size
      have hq9 : 0 ≤ q ∧ (O.length : Int) + q ≤ k := And.intro hi8.1 hi8.2.2
      refine W.seq ?_
      refine W.seq ?_
      refine W.regS (SR.q' (r_mv (v := .int .i64 _) rfl) <| SR.q' (r_gt rfl rfl) <| SR.nil ?_)
      refine W.cond_d rfl (fun h10 => ?_) (fun h10 => ?_)
      · refine W.skip ?_
        refine W.block ?_
        refine W.seq ?_
        refine W.regS (SR.q' (r_mv (v := .int .i64 _) rfl) <| SR.q' (r_rem rfl rfl (by omega)) <| SR.q' (r_add rfl rfl (by omega)) <| SR.q' (r_convB und5 und3 rfl) <| SR.lit (vs := [.int .u8 ((bw (48 + (q % 10))).toNat : Int)]) (L := ([(bw (48 + (q % 10)))] : List UInt8)) (enc := encB) tel53 (fun _ => rfl) rfl rfl rfl (by decide) ?_)
        intro g11 w12 hg13 hk14 hO15
        have hz16 := hk14.size
        have hB17 := hB6.lo hk14
        refine SR.q' (r_ofB und53 und5 und9 rfl ((hO15).rd)) <| SR.q' (r_mv (v := str _) rfl) <| SR.q' (r_cat rfl rfl (by first | omega | (simp only [List.length_append, List.length_cons, List.length_nil, List.length_take, List.length_drop]; omega) | (simp only [List.length_append, List.length_cons, List.length_nil, List.length_take, List.length_drop] at *; omega))) <| SR.q' (r_as (v := str _) rfl) <| SR.nil ?_
        refine W.regS (SR.q' (r_mv (v := .int .i64 _) rfl) <| SR.q' (r_quo rfl rfl (by omega)) <| SR.q' (r_as (v := .int .i64 _) rfl) <| SR.nil ?_)
        refine ⟨(q / 10, ([(bw (48 + (q % 10)))] : List UInt8) ++ O), _, rfl, ⟨rfl, rfl, rfl, trivial⟩, ⟨hB17, ?_⟩, ?_⟩
        · exact (z_c_laws_markText_18 k hp0 h1 q O hi8 hq9 h10)
        · exact (z_c_laws_markText_19 k hp0 h1 q O hi8 hq9 h10)
      · refine W.exit (xin_here ?_)
        refine W.seq ?_
        refine W.regS (SR.q' (r_mv (v := str _) rfl) <| SR.q' (r_cat rfl rfl (by first | omega | (simp only [List.length_append, List.length_cons, List.length_nil, List.length_take, List.length_drop]; omega) | (simp only [List.length_append, List.length_cons, List.length_nil, List.length_take, List.length_drop] at *; omega))) <| SR.q' (r_as (v := str _) rfl) <| SR.nil ?_)
        refine W.ret ?_
        refine ret1 rfl (v := str _) rfl ?_
        exact ⟨eR (eS (z_c_laws_markText_20 k hp0 h1 q O hi8 hq9 h10)), hB6⟩

theorem z_c_laws_eqLogRecordS_2 (L : List LogRecord) (nL : Nat) (hbdL : (nL : Int) ≤ 9223372036854775807) (hleL : nL = L.length) (M : List LogRecord) (nM : Nat) (hbdM : (nM : Int) ≤ 9223372036854775807) (hleM : nM = M.length) (h1 : ¬ ((nL : Int) = (nM : Int))) : ¬ (L = M) := by
  first | (intro e; subst e; omega) | exact ne_at ‹L[_]? = some _› ‹M[_]? = some _› ‹_› | exact take_end (And.right ‹_ ∧ L.take _ = M.take _›) hleL hleM (by omega) ‹_›
theorem z_c_laws_eqLogRecordS_3 (L : List LogRecord) (nL : Nat) (hbdL : (nL : Int) ≤ 9223372036854775807) (hleL : nL = L.length) (M : List LogRecord) (nM : Nat) (hbdM : (nM : Int) ≤ 9223372036854775807) (hleM : nM = M.length) (h1 : (nL : Int) = (nM : Int)) : 0 ≤ nL ∧ L.take 0 = M.take 0 := by
  simp
theorem z_c_laws_eqLogRecordS_21 (L : List LogRecord) (nL : Nat) (hbdL : (nL : Int) ≤ 9223372036854775807) (hleL : nL = L.length) (M : List LogRecord) (nM : Nat) (hbdM : (nM : Int) ≤ 9223372036854775807) (hleM : nM = M.length) (h1 : (nL : Int) = (nM : Int)) (k : Nat) (hi10 : k ≤ nL ∧ L.take k = M.take k) (h11 : (k : Int) < (nL : Int)) (x12 : LogRecord) (hx13 : L[k]? = some x12) (x14 : LogRecord) (hx15 : M[k]? = some x14) (h20 : ¬ (x12 = x14)) : ¬ (L = M) := by
  first | (intro e; subst e; omega) | exact ne_at ‹L[_]? = some _› ‹M[_]? = some _› ‹_› | exact take_end (And.right ‹_ ∧ L.take _ = M.take _›) hleL hleM (by omega) ‹_›
theorem z_c_laws_eqLogRecordS_22 (L : List LogRecord) (nL : Nat) (hbdL : (nL : Int) ≤ 9223372036854775807) (hleL : nL = L.length) (M : List LogRecord) (nM : Nat) (hbdM : (nM : Int) ≤ 9223372036854775807) (hleM : nM = M.length) (h1 : (nL : Int) = (nM : Int)) (k : Nat) (hi10 : k ≤ nL ∧ L.take k = M.take k) (h11 : (k : Int) < (nL : Int)) (x12 : LogRecord) (hx13 : L[k]? = some x12) (x14 : LogRecord) (hx15 : M[k]? = some x14) (h20 : x12 = x14) : k + 1 ≤ nL ∧ L.take (k + 1) = M.take (k + 1) := by
  exact ⟨by omega, take_next (And.right ‹_ ∧ L.take _ = M.take _›) ‹L[_]? = some _› ‹M[_]? = some _› ‹_›⟩
theorem z_c_laws_eqLogRecordS_23 (L : List LogRecord) (nL : Nat) (hbdL : (nL : Int) ≤ 9223372036854775807) (hleL : nL = L.length) (M : List LogRecord) (nM : Nat) (hbdM : (nM : Int) ≤ 9223372036854775807) (hleM : nM = M.length) (h1 : (nL : Int) = (nM : Int)) (k : Nat) (hi10 : k ≤ nL ∧ L.take k = M.take k) (h11 : (k : Int) < (nL : Int)) (x12 : LogRecord) (hx13 : L[k]? = some x12) (x14 : LogRecord) (hx15 : M[k]? = some x14) (h20 : x12 = x14) : nL - (k + 1) < nL - k := by
  omega
theorem z_c_laws_eqLogRecordS_24 (L : List LogRecord) (nL : Nat) (hbdL : (nL : Int) ≤ 9223372036854775807) (hleL : nL = L.length) (M : List LogRecord) (nM : Nat) (hbdM : (nM : Int) ≤ 9223372036854775807) (hleM : nM = M.length) (h1 : (nL : Int) = (nM : Int)) (k : Nat) (hi10 : k ≤ nL ∧ L.take k = M.take k) (h11 : ¬ ((k : Int) < (nL : Int))) : L = M := by
  first | (intro e; subst e; omega) | exact ne_at ‹L[_]? = some _› ‹M[_]? = some _› ‹_› | exact take_end (And.right ‹_ ∧ L.take _ = M.take _›) hleL hleM (by omega) ‹_›
theorem c_laws_eqLogRecordS (w : World) {AL : Option Addr} {nL cL BL : Nat}  (L : List LogRecord) (hL : SlR w BL encLogRecord 2 AL nL cL L) {AM : Option Addr} {nM cM BM : Nat}  (M : List LogRecord) (hM : SlR w BM encLogRecord 2 AM nM cM M) : Calls Tryd.prog 32 #[.slice AL nL cL, .slice AM nM cM] w fun e w' => e = .returned (.bool (decide (L = M))) ∧ Lo w w' := by
  refine calls_W 27 Tryd.func32 rfl rfl rfl ?_
  have hbdL := hL.bound
  have hleL := hL.len
  have hBbL := hL.bd
  have hbdM := hM.bound
  have hleM := hM.len
  have hBbM := hM.bd
  refine W.seq ?_
  refine W.regS (SR.q' (r_as (v := .bool false) rfl) <| SR.nil ?_)
  refine W.seq ?_
  refine W.seq ?_
  refine W.regS (SR.q' (r_mv (v := .slice _ _ _) rfl) <| SR.q' (r_len und48 rfl) <| SR.q' (r_mv (v := .slice _ _ _) rfl) <| SR.q' (r_len und48 rfl) <| SR.q' (r_ne rfl rfl) <| SR.nil ?_)
  refine W.cond_n rfl (fun h1 => ?_) (fun h1 => ?_)
  · refine W.seq ?_
    refine W.regS (SR.q' (r_as (v := .bool false) rfl) <| SR.nil ?_)
    refine W.ret ?_
    refine ret1 rfl (v := .bool _) rfl ?_
    exact ⟨eR (eDF (z_c_laws_eqLogRecordS_2 L nL hbdL hleL M nM hbdM hleM h1)), (Lo.refl w)⟩
  · refine W.skip ?_
    refine W.seq ?_
    refine W.seq ?_
    refine W.regS (SR.q' (r_as (v := .int .i64 0) rfl) <| SR.nil ?_)
    refine W.block ?_
    refine W.loop (σ := Nat) (fun g => [(0, .slice AL nL cL), (1, .slice AM nM cM), (5, .int .i64 (g : Int))]) (fun g w' => (Lo w w') ∧ (SlR w' BL encLogRecord 2 AL nL cL L) ∧ (SlR w' BM encLogRecord 2 AM nM cM M) ∧ (g ≤ nL ∧ L.take g = M.take g)) (fun g => nL - g) 0 ?_ ?_ ?_
    · exact ⟨rfl, rfl, rfl, trivial⟩
    · exact ⟨(Lo.refl w), hL, hM, (z_c_laws_eqLogRecordS_3 L nL hbdL hleL M nM hbdM hleM h1)⟩
    · rintro k f4 w5 hP7
      obtain ⟨hB6, hm8, hm9, hi10⟩ : (Lo w w5) ∧ (SlR w5 BL encLogRecord 2 AL nL cL L) ∧ (SlR w5 BM encLogRecord 2 AM nM cM M) ∧ (k ≤ nL ∧ L.take k = M.take k) := hP7
      refine (?_ : W _ _ _ _ _ (act _ (sets f4 [(0, .slice AL nL cL), (1, .slice AM nM cM), (5, .int .i64 (k : Int))])) _)
      have hzw5 := hB6.size
      refine W.seq ?_
      refine W.seq ?_
      refine W.regS (SR.q' (r_mv (v := .int .i64 _) rfl) <| SR.q' (r_mv (v := .slice _ _ _) rfl) <| SR.q' (r_len und48 rfl) <| SR.q' (r_lt rfl rfl) <| SR.nil ?_)
      refine W.cond_d rfl (fun h11 => ?_) (fun h11 => ?_)
      · refine W.skip ?_
        refine W.seq ?_
        refine W.block ?_
        refine W.seq ?_
        refine W.regD mo (by kernel_rfl) (QR.q' (fun w' hw' => r_mv (v := .slice _ _ _) rfl) <| QR.q' (fun w' hw' => r_mv (v := .int .i64 _) rfl) <| ?_)
        obtain ⟨x12, hx13⟩ := (hm8).get (i := k) (by omega)
        refine QR.q' (fun w' hw' => r_ixR tsl48 (((hm8).lo hw')) rfl rfl (by omega)) <| QR.q' (fun w' hw' => r_lda (l := encLogRecord x12) agg27 rfl (fun _ _ hu => (((hm8).lo hw')).cell hx13 hu) ((((hm8).lo hw')).esz _)) <| QR.q' (fun w' hw' => r_mv (v := .slice _ _ _) rfl) <| QR.q' (fun w' hw' => r_mv (v := .int .i64 _) rfl) <| ?_
        obtain ⟨x14, hx15⟩ := (hm9).get (i := k) (by omega)
        refine QR.q' (fun w' hw' => r_ixR tsl48 (((hm9).lo hw')) rfl rfl (by omega)) <| QR.q' (fun w' hw' => r_lda (l := encLogRecord x14) agg27 rfl (fun _ _ hu => (((hm9).lo hw')).cell hx15 hu) ((((hm9).lo hw')).esz _)) <| QR.call ent51 (fun w' hw' => (c_laws_eqLogRecord w' x12 x14).mono fun _ _ h => ⟨h.1, hw'.trans h.2⟩) rfl <| QR.q' (fun w' hw' => r_not rfl) <| QR.nil ?_
        intro w16 hk17
        have hz18 := hk17.size
        have hB19 := hB6.lo hk17
        refine W.cond_n rfl (fun h20 => ?_) (fun h20 => ?_)
        · refine W.seq ?_
          refine W.regS (SR.q' (r_as (v := .bool false) rfl) <| SR.nil ?_)
          refine W.ret ?_
          refine ret1 rfl (v := .bool _) rfl ?_
          exact ⟨eR (eDF (z_c_laws_eqLogRecordS_21 L nL hbdL hleL M nM hbdM hleM h1 k hi10 h11 x12 hx13 x14 hx15 h20)), hB19⟩
        · refine W.skip ?_
          refine W.regS (SR.q' (r_mv (v := .int .i64 _) rfl) <| SR.q' (r_add rfl rfl (by omega)) <| SR.q' (r_as (v := .int .i64 _) rfl) <| SR.nil ?_)
          refine ⟨k + 1, _, rfl, ⟨rfl, rfl, rfl, trivial⟩, ⟨hB19, (hm8).lo hk17, (hm9).lo hk17, ?_⟩, ?_⟩
          · exact (z_c_laws_eqLogRecordS_22 L nL hbdL hleL M nM hbdM hleM h1 k hi10 h11 x12 hx13 x14 hx15 h20)
          · exact (z_c_laws_eqLogRecordS_23 L nL hbdL hleL M nM hbdM hleM h1 k hi10 h11 x12 hx13 x14 hx15 h20)
      · refine W.exit (xin_here ?_)
        refine W.seq ?_
        refine W.regS (SR.q' (r_as (v := .bool true) rfl) <| SR.nil ?_)
        refine W.ret ?_
        refine ret1 rfl (v := .bool _) rfl ?_
        exact ⟨eR (eDT (z_c_laws_eqLogRecordS_24 L nL hbdL hleL M nM hbdM hleM h1 k hi10 h11)), hB6⟩

theorem z_c_laws_markLogRecordS_1 (L : List LogRecord) (nL : Nat) (hbdL : (nL : Int) ≤ 9223372036854775807) (hleL : nL = L.length) (k : Int) (hp0 : 0 ≤ k) (hp1 : k ≤ 1000000000) (hp2 : (nL : Int) ≤ 1048576) : 0 ≤ nL := by
  omega
theorem z_c_laws_markLogRecordS_2 (L : List LogRecord) (nL : Nat) (hbdL : (nL : Int) ≤ 9223372036854775807) (hleL : nL = L.length) (k : Int) (hp0 : 0 ≤ k) (hp1 : k ≤ 1000000000) (hp2 : (nL : Int) ≤ 1048576) : L = mkL mkLogRecord 2 0 k ++ L.drop 0 := by
  exact mkL_init
theorem z_c_laws_markLogRecordS_34 (L : List LogRecord) (nL : Nat) (hbdL : (nL : Int) ≤ 9223372036854775807) (hleL : nL = L.length) (k : Int) (hp0 : 0 ≤ k) (hp1 : k ≤ 1000000000) (hp2 : (nL : Int) ≤ 1048576) (i : Nat) (hi8 : i ≤ nL) (h9 : (i : Int) < (nL : Int)) (x14 : LogRecord) (hx15 : (mkL mkLogRecord 2 i k ++ L.drop i)[i]? = some x14) : (mkL mkLogRecord 2 i k ++ L.drop i).set ((i : Int).toNat) ({ ({ x14 with Command := mkT (k + 2 * (i : Int)) }) with Reply := mkT ((k + 2 * (i : Int)) + 1) }) = mkL mkLogRecord 2 (i + 1) k ++ L.drop (i + 1) := by
  exact mkL_set (by omega) (by first | (simp [mkLogRecord]; done) | (simp [mkLogRecord]; omega))
theorem z_c_laws_markLogRecordS_35 (L : List LogRecord) (nL : Nat) (hbdL : (nL : Int) ≤ 9223372036854775807) (hleL : nL = L.length) (k : Int) (hp0 : 0 ≤ k) (hp1 : k ≤ 1000000000) (hp2 : (nL : Int) ≤ 1048576) (i : Nat) (hi8 : i ≤ nL) (h9 : (i : Int) < (nL : Int)) (x14 : LogRecord) (hx15 : (mkL mkLogRecord 2 i k ++ L.drop i)[i]? = some x14) : i + 1 ≤ nL := by
  omega
theorem z_c_laws_markLogRecordS_36 (L : List LogRecord) (nL : Nat) (hbdL : (nL : Int) ≤ 9223372036854775807) (hleL : nL = L.length) (k : Int) (hp0 : 0 ≤ k) (hp1 : k ≤ 1000000000) (hp2 : (nL : Int) ≤ 1048576) (i : Nat) (hi8 : i ≤ nL) (h9 : (i : Int) < (nL : Int)) (x14 : LogRecord) (hx15 : (mkL mkLogRecord 2 i k ++ L.drop i)[i]? = some x14) : nL - (i + 1) < nL - i := by
  omega
theorem z_c_laws_markLogRecordS_37 (L : List LogRecord) (nL : Nat) (hbdL : (nL : Int) ≤ 9223372036854775807) (hleL : nL = L.length) (k : Int) (hp0 : 0 ≤ k) (hp1 : k ≤ 1000000000) (hp2 : (nL : Int) ≤ 1048576) (i : Nat) (hi8 : i ≤ nL) (h9 : ¬ ((i : Int) < (nL : Int))) : k + 2 * (i : Int) = k + 2 * (L.length : Int) := by
  first | omega | exact mkL_end hleL (by assumption) (by omega)
theorem z_c_laws_markLogRecordS_38 (L : List LogRecord) (nL : Nat) (hbdL : (nL : Int) ≤ 9223372036854775807) (hleL : nL = L.length) (k : Int) (hp0 : 0 ≤ k) (hp1 : k ≤ 1000000000) (hp2 : (nL : Int) ≤ 1048576) (i : Nat) (hi8 : i ≤ nL) (h9 : ¬ ((i : Int) < (nL : Int))) : mkL mkLogRecord 2 i k ++ L.drop i = mkL mkLogRecord 2 L.length k := by
  first | omega | exact mkL_end hleL (by assumption) (by omega)
theorem c_laws_markLogRecordS (w : World) {AL : Option Addr} {nL cL BL : Nat}  (L : List LogRecord) (hL : SlO w BL encLogRecord 2 27 AL nL cL L) (k : Int) (hp0 : 0 ≤ k) (hp1 : k ≤ 1000000000) (hp2 : (nL : Int) ≤ 1048576) : Calls Tryd.prog 33 #[.slice AL nL cL, .int .i64 k] w fun e w' => e = .returned (.int .i64 (k + 2 * (L.length : Int))) ∧ SlO w' BL encLogRecord 2 27 AL nL cL (mkL mkLogRecord 2 L.length k) ∧ Kp (fun b_ => AL = some ⟨b_, 0, none⟩) w w' := by
  refine calls_W 29 Tryd.func33 rfl rfl rfl ?_
  have hbdL := hL.rd.bound
  have hleL := hL.len
  have hBbL := hL.bd
  refine W.seq ?_
  refine W.regS (SR.q' (r_as (v := .int .i64 0) rfl) <| SR.nil ?_)
  refine W.seq ?_
  refine W.seq ?_
  refine W.regS (SR.q' (r_as (v := .int .i64 0) rfl) <| SR.nil ?_)
  refine W.block ?_
  refine W.loop (σ := Nat) (fun g => [(0, .slice AL nL cL), (1, .int .i64 (k + 2 * (g : Int))), (4, .int .i64 0), (5, .int .i64 (g : Int))]) (fun g w' => (Kp (fun b_ => AL = some ⟨b_, 0, none⟩) w w') ∧ (SlO w' BL encLogRecord 2 27 AL nL cL (mkL mkLogRecord 2 g k ++ L.drop g)) ∧ (g ≤ nL)) (fun g => nL - g) 0 ?_ ?_ ?_
  · exact ⟨rfl, (eI (by first | omega | (dsimp only; omega))), rfl, (eI (by first | omega | (dsimp only; omega))), trivial⟩
  · exact ⟨(Kp.refl w : Kp (fun b_ => AL = some ⟨b_, 0, none⟩) w w), (SlO.eqv (hL) (z_c_laws_markLogRecordS_2 L nL hbdL hleL k hp0 hp1 hp2)), (z_c_laws_markLogRecordS_1 L nL hbdL hleL k hp0 hp1 hp2)⟩
  · rintro i f3 w4 hP6
    obtain ⟨hB5, hm7, hi8⟩ : (Kp (fun b_ => AL = some ⟨b_, 0, none⟩) w w4) ∧ (SlO w4 BL encLogRecord 2 27 AL nL cL (mkL mkLogRecord 2 i k ++ L.drop i)) ∧ (i ≤ nL) := hP6
    refine (?_ : W _ _ _ _ _ (act _ (sets f3 [(0, .slice AL nL cL), (1, .int .i64 (k + 2 * (i : Int))), (4, .int .i64 0), (5, .int .i64 (i : Int))])) _)
    have hzw4 := hB5.size
    refine W.seq ?_
    refine W.seq ?_
    refine W.regS (SR.q' (r_mv (v := .int .i64 _) rfl) <| SR.q' (r_mv (v := .slice _ _ _) rfl) <| SR.q' (r_len und48 rfl) <| SR.q' (r_lt rfl rfl) <| SR.nil ?_)
    refine W.cond_d rfl (fun h9 => ?_) (fun h9 => ?_)
    · refine W.skip ?_
      refine W.seq ?_
      refine W.block ?_
      refine W.seq ?_
      refine W.regS (SR.q' (r_mv (v := .slice _ _ _) rfl) <| SR.q' (r_mv (v := .int .i64 _) rfl) <| SR.q' (r_mv (v := .int .i64 _) rfl) <| SR.call ent52 (c_laws_markText w4 (k + 2 * (i : Int)) (by omega)) rfl ?_)
      rintro e w10 ⟨rfl, hk11⟩
      refine ⟨_, rfl, ?_⟩
      have hz12 := hk11.size
      have hB13 := hB5.lo hk11
      obtain ⟨x14, hx15⟩ := (((hm7).lo hk11).rd).get (i := i) (by omega)
      refine SR.q' (r_ixR tsl48 (((hm7).lo hk11).rd) rfl rfl (by omega)) <| SR.q' (r_fa fa27_0 rfl) <| SR.storeO (o := 0) (vs := [str (mkT (k + 2 * (i : Int)))]) (x1 := { x14 with Command := mkT (k + 2 * (i : Int)) }) sca9.2 rfl (add_add _ _ _) rfl rfl ((hm7).lo hk11) hx15 rfl (Nat.le_of_ble_eq_true rfl) rfl ?_
      intro w16 hk17 hs18 hO19
      have hz20 := hk17.size
      have hB21 := hB13.step hk17 (fun i_ hi_ e' => by have := (((hm7).lo hk11)).base_le e'; first | omega | (exfalso; omega) | exact e' | exact .inl e' | exact .inr e')
      have hx22 : ((mkL mkLogRecord 2 i k ++ L.drop i).set ((i : Int).toNat) ({ x14 with Command := mkT (k + 2 * (i : Int)) }))[(i : Int).toNat]? = some ({ x14 with Command := mkT (k + 2 * (i : Int)) }) := List.getElem?_set_self (List.getElem?_eq_some_iff.1 hx15).1
      refine SR.nil ?_
      refine W.seq ?_
      refine W.regS (SR.q' (r_mv (v := .int .i64 _) rfl) <| SR.q' (r_add rfl rfl (by omega)) <| SR.q' (r_as (v := .int .i64 _) rfl) <| SR.nil ?_)
      refine W.seq ?_
      refine W.regS (SR.q' (r_mv (v := .slice _ _ _) rfl) <| SR.q' (r_mv (v := .int .i64 _) rfl) <| SR.q' (r_mv (v := .int .i64 _) rfl) <| SR.call ent52 (c_laws_markText w16 ((k + 2 * (i : Int)) + 1) (by omega)) rfl ?_)
      rintro e w23 ⟨rfl, hk24⟩
      refine ⟨_, rfl, ?_⟩
      have hz25 := hk24.size
      have hB26 := hB21.lo hk24
      refine SR.q' (r_ixR tsl48 (((hO19).lo hk24).rd) rfl rfl (by omega)) <| SR.q' (r_fa fa27_1 rfl) <| SR.storeO (o := 1) (vs := [str (mkT ((k + 2 * (i : Int)) + 1))]) (x1 := { ({ x14 with Command := mkT (k + 2 * (i : Int)) }) with Reply := mkT ((k + 2 * (i : Int)) + 1) }) sca9.2 rfl (add_add _ _ _) rfl rfl ((hO19).lo hk24) hx22 rfl (Nat.le_of_ble_eq_true rfl) rfl ?_
      intro w27 hk28 hs29 hO30
      have hz31 := hk28.size
      have hB32 := hB26.step hk28 (fun i_ hi_ e' => by have := (((hO19).lo hk24)).base_le e'; first | omega | (exfalso; omega) | exact e' | exact .inl e' | exact .inr e')
      rw [List.set_set] at hO30
      have hx33 : ((mkL mkLogRecord 2 i k ++ L.drop i).set ((i : Int).toNat) ({ ({ x14 with Command := mkT (k + 2 * (i : Int)) }) with Reply := mkT ((k + 2 * (i : Int)) + 1) }))[(i : Int).toNat]? = some ({ ({ x14 with Command := mkT (k + 2 * (i : Int)) }) with Reply := mkT ((k + 2 * (i : Int)) + 1) }) := List.getElem?_set_self (List.getElem?_eq_some_iff.1 hx15).1
      refine SR.nil ?_
      refine W.regS (SR.q' (r_mv (v := .int .i64 _) rfl) <| SR.q' (r_add rfl rfl (by omega)) <| SR.q' (r_as (v := .int .i64 _) rfl) <| SR.nil ?_)
      refine W.regS (SR.q' (r_mv (v := .int .i64 _) rfl) <| SR.q' (r_add rfl rfl (by omega)) <| SR.q' (r_as (v := .int .i64 _) rfl) <| SR.nil ?_)
      refine ⟨i + 1, _, rfl, ⟨rfl, (eI (by first | omega | (dsimp only; omega))), rfl, (eI (by first | omega | (dsimp only; omega))), trivial⟩, ⟨hB32, (SlO.eqv (hO30) (z_c_laws_markLogRecordS_34 L nL hbdL hleL k hp0 hp1 hp2 i hi8 h9 x14 hx15)), ?_⟩, ?_⟩
      · exact (z_c_laws_markLogRecordS_35 L nL hbdL hleL k hp0 hp1 hp2 i hi8 h9 x14 hx15)
      · exact (z_c_laws_markLogRecordS_36 L nL hbdL hleL k hp0 hp1 hp2 i hi8 h9 x14 hx15)
    · refine W.exit (xin_here ?_)
      refine W.seq ?_
      refine W.regS (SR.q' (r_mv (v := .int .i64 _) rfl) <| SR.q' (r_as (v := .int .i64 _) rfl) <| SR.nil ?_)
      refine W.ret ?_
      refine ret1 rfl (v := .int .i64 _) rfl ?_
      exact ⟨eR (eI (z_c_laws_markLogRecordS_37 L nL hbdL hleL k hp0 hp1 hp2 i hi8 h9)), (SlO.eqv (hm7) (z_c_laws_markLogRecordS_38 L nL hbdL hleL k hp0 hp1 hp2 i hi8 h9)), hB5⟩

theorem z_c_laws_heldLogRecordS_1 (L : List LogRecord) (nL : Nat) (hbdL : (nL : Int) ≤ 9223372036854775807) (hleL : nL = L.length) (k : Int) (m : Nat) (hp0 : 0 ≤ k) (hp1 : k ≤ 1000000000) (hp2 : (nL : Int) ≤ 1048576) (hp3 : L = mkL mkLogRecord 2 m k) : 0 ≤ nL := by
  omega
theorem z_c_laws_heldLogRecordS_16 (L : List LogRecord) (nL : Nat) (hbdL : (nL : Int) ≤ 9223372036854775807) (hleL : nL = L.length) (k : Int) (m : Nat) (hp0 : 0 ≤ k) (hp1 : k ≤ 1000000000) (hp2 : (nL : Int) ≤ 1048576) (hp3 : L = mkL mkLogRecord 2 m k) (i : Nat) (hi7 : i ≤ nL) (h8 : (i : Int) < (nL : Int)) (x9 : LogRecord) (hx10 : L[i]? = some x9) (h15 : ¬ (x9.Command = (mkT (k + 2 * (i : Int))))) : (-1) = k + 2 * (m : Int) := by
  first | omega | (rw [hp3, mkL_len] at hleL; omega) | (exfalso; subst hp3; obtain rfl := mkL_get ‹_[_]? = some _›; first | (simp_all [mkLogRecord]; done) | (simp only [mkLogRecord] at *; omega))
theorem z_c_laws_heldLogRecordS_22 (L : List LogRecord) (nL : Nat) (hbdL : (nL : Int) ≤ 9223372036854775807) (hleL : nL = L.length) (k : Int) (m : Nat) (hp0 : 0 ≤ k) (hp1 : k ≤ 1000000000) (hp2 : (nL : Int) ≤ 1048576) (hp3 : L = mkL mkLogRecord 2 m k) (i : Nat) (hi7 : i ≤ nL) (h8 : (i : Int) < (nL : Int)) (x9 : LogRecord) (hx10 : L[i]? = some x9) (h15 : x9.Command = (mkT (k + 2 * (i : Int)))) (h21 : ¬ (x9.Reply = (mkT ((k + 2 * (i : Int)) + 1)))) : (-1) = k + 2 * (m : Int) := by
  first | omega | (rw [hp3, mkL_len] at hleL; omega) | (exfalso; subst hp3; obtain rfl := mkL_get ‹_[_]? = some _›; first | (simp_all [mkLogRecord]; done) | (simp only [mkLogRecord] at *; omega))
theorem z_c_laws_heldLogRecordS_23 (L : List LogRecord) (nL : Nat) (hbdL : (nL : Int) ≤ 9223372036854775807) (hleL : nL = L.length) (k : Int) (m : Nat) (hp0 : 0 ≤ k) (hp1 : k ≤ 1000000000) (hp2 : (nL : Int) ≤ 1048576) (hp3 : L = mkL mkLogRecord 2 m k) (i : Nat) (hi7 : i ≤ nL) (h8 : (i : Int) < (nL : Int)) (x9 : LogRecord) (hx10 : L[i]? = some x9) (h15 : x9.Command = (mkT (k + 2 * (i : Int)))) (h21 : x9.Reply = (mkT ((k + 2 * (i : Int)) + 1))) : i + 1 ≤ nL := by
  omega
theorem z_c_laws_heldLogRecordS_24 (L : List LogRecord) (nL : Nat) (hbdL : (nL : Int) ≤ 9223372036854775807) (hleL : nL = L.length) (k : Int) (m : Nat) (hp0 : 0 ≤ k) (hp1 : k ≤ 1000000000) (hp2 : (nL : Int) ≤ 1048576) (hp3 : L = mkL mkLogRecord 2 m k) (i : Nat) (hi7 : i ≤ nL) (h8 : (i : Int) < (nL : Int)) (x9 : LogRecord) (hx10 : L[i]? = some x9) (h15 : x9.Command = (mkT (k + 2 * (i : Int)))) (h21 : x9.Reply = (mkT ((k + 2 * (i : Int)) + 1))) : nL - (i + 1) < nL - i := by
  omega
theorem z_c_laws_heldLogRecordS_25 (L : List LogRecord) (nL : Nat) (hbdL : (nL : Int) ≤ 9223372036854775807) (hleL : nL = L.length) (k : Int) (m : Nat) (hp0 : 0 ≤ k) (hp1 : k ≤ 1000000000) (hp2 : (nL : Int) ≤ 1048576) (hp3 : L = mkL mkLogRecord 2 m k) (i : Nat) (hi7 : i ≤ nL) (h8 : ¬ ((i : Int) < (nL : Int))) : k + 2 * (i : Int) = k + 2 * (m : Int) := by
  first | omega | (rw [hp3, mkL_len] at hleL; omega) | (exfalso; subst hp3; obtain rfl := mkL_get ‹_[_]? = some _›; first | (simp_all [mkLogRecord]; done) | (simp only [mkLogRecord] at *; omega))
theorem c_laws_heldLogRecordS (w : World) {AL : Option Addr} {nL cL BL : Nat}  (L : List LogRecord) (hL : SlR w BL encLogRecord 2 AL nL cL L) (k : Int) (m : Nat) (hp0 : 0 ≤ k) (hp1 : k ≤ 1000000000) (hp2 : (nL : Int) ≤ 1048576) (hp3 : L = mkL mkLogRecord 2 m k) : Calls Tryd.prog 34 #[.slice AL nL cL, .int .i64 k] w fun e w' => e = .returned (.int .i64 (k + 2 * (m : Int))) ∧ Lo w w' := by
  refine calls_W 33 Tryd.func34 rfl rfl rfl ?_
  have hbdL := hL.bound
  have hleL := hL.len
  have hBbL := hL.bd
  refine W.seq ?_
  refine W.regS (SR.q' (r_as (v := .int .i64 0) rfl) <| SR.nil ?_)
  refine W.seq ?_
  refine W.seq ?_
  refine W.regS (SR.q' (r_as (v := .int .i64 0) rfl) <| SR.nil ?_)
  refine W.block ?_
  refine W.loop (σ := Nat) (fun g => [(0, .slice AL nL cL), (1, .int .i64 (k + 2 * (g : Int))), (5, .int .i64 (g : Int))]) (fun g w' => (Lo w w') ∧ (SlR w' BL encLogRecord 2 AL nL cL L) ∧ (g ≤ nL)) (fun g => nL - g) 0 ?_ ?_ ?_
  · exact ⟨rfl, (eI (by first | omega | (dsimp only; omega))), (eI (by first | omega | (dsimp only; omega))), trivial⟩
  · exact ⟨(Lo.refl w), hL, (z_c_laws_heldLogRecordS_1 L nL hbdL hleL k m hp0 hp1 hp2 hp3)⟩
  · rintro i f2 w3 hP5
    obtain ⟨hB4, hm6, hi7⟩ : (Lo w w3) ∧ (SlR w3 BL encLogRecord 2 AL nL cL L) ∧ (i ≤ nL) := hP5
    refine (?_ : W _ _ _ _ _ (act _ (sets f2 [(0, .slice AL nL cL), (1, .int .i64 (k + 2 * (i : Int))), (5, .int .i64 (i : Int))])) _)
    have hzw3 := hB4.size
    refine W.seq ?_
    refine W.seq ?_
    refine W.regS (SR.q' (r_mv (v := .int .i64 _) rfl) <| SR.q' (r_mv (v := .slice _ _ _) rfl) <| SR.q' (r_len und48 rfl) <| SR.q' (r_lt rfl rfl) <| SR.nil ?_)
    refine W.cond_d rfl (fun h8 => ?_) (fun h8 => ?_)
    · refine W.skip ?_
      refine W.seq ?_
      refine W.block ?_
      refine W.seq ?_
      refine W.seq ?_
      refine W.regD mo (by kernel_rfl) (QR.q' (fun w' hw' => r_mv (v := .slice _ _ _) rfl) <| QR.q' (fun w' hw' => r_mv (v := .int .i64 _) rfl) <| ?_)
      obtain ⟨x9, hx10⟩ := (hm6).get (i := i) (by omega)
      refine QR.q' (fun w' hw' => r_ixR tsl48 (((hm6).lo hw')) rfl rfl (by omega)) <| QR.q' (fun w' hw' => r_fa fa27_0 rfl) <| QR.q' (fun w' hw' => r_ld (v := str x9.Command) sca9 rfl ((((hm6).lo hw')).cell hx10 rfl)) <| QR.q' (fun w' hw' => r_mv (v := .int .i64 _) rfl) <| QR.call ent52 (fun w' hw' => (c_laws_markText w' (k + 2 * (i : Int)) (by omega)).mono fun _ _ h => ⟨h.1, hw'.trans h.2⟩) rfl <| QR.q' (fun w' hw' => r_nes (s := x9.Command) (r := mkT (k + 2 * (i : Int))) rfl rfl) <| QR.nil ?_
      intro w11 hk12
      have hz13 := hk12.size
      have hB14 := hB4.lo hk12
      refine W.cond_n rfl (fun h15 => ?_) (fun h15 => ?_)
      · refine W.seq ?_
        refine W.regS (SR.q' (r_as (v := .int .i64 (-1)) rfl) <| SR.nil ?_)
        refine W.ret ?_
        refine ret1 rfl (v := .int .i64 _) rfl ?_
        exact ⟨eR (eI (z_c_laws_heldLogRecordS_16 L nL hbdL hleL k m hp0 hp1 hp2 hp3 i hi7 h8 x9 hx10 h15)), hB14⟩
      · refine W.skip ?_
        refine W.seq ?_
        refine W.regS (SR.q' (r_mv (v := .int .i64 _) rfl) <| SR.q' (r_add rfl rfl (by omega)) <| SR.q' (r_as (v := .int .i64 _) rfl) <| SR.nil ?_)
        refine W.seq ?_
        refine W.seq ?_
        refine W.regD mo (by kernel_rfl) (QR.q' (fun w' hw' => r_mv (v := .slice _ _ _) rfl) <| QR.q' (fun w' hw' => r_mv (v := .int .i64 _) rfl) <| QR.q' (fun w' hw' => r_ixR tsl48 ((((hm6).lo hk12).lo hw')) rfl rfl (by omega)) <| QR.q' (fun w' hw' => r_fa fa27_1 rfl) <| QR.q' (fun w' hw' => r_ld (v := str x9.Reply) sca9 rfl (((((hm6).lo hk12).lo hw')).cell hx10 rfl)) <| QR.q' (fun w' hw' => r_mv (v := .int .i64 _) rfl) <| QR.call ent52 (fun w' hw' => (c_laws_markText w' ((k + 2 * (i : Int)) + 1) (by omega)).mono fun _ _ h => ⟨h.1, hw'.trans h.2⟩) rfl <| QR.q' (fun w' hw' => r_nes (s := x9.Reply) (r := mkT ((k + 2 * (i : Int)) + 1)) rfl rfl) <| QR.nil ?_)
        intro w17 hk18
        have hz19 := hk18.size
        have hB20 := hB14.lo hk18
        refine W.cond_n rfl (fun h21 => ?_) (fun h21 => ?_)
        · refine W.seq ?_
          refine W.regS (SR.q' (r_as (v := .int .i64 (-1)) rfl) <| SR.nil ?_)
          refine W.ret ?_
          refine ret1 rfl (v := .int .i64 _) rfl ?_
          exact ⟨eR (eI (z_c_laws_heldLogRecordS_22 L nL hbdL hleL k m hp0 hp1 hp2 hp3 i hi7 h8 x9 hx10 h15 h21)), hB20⟩
        · refine W.skip ?_
          refine W.regS (SR.q' (r_mv (v := .int .i64 _) rfl) <| SR.q' (r_add rfl rfl (by omega)) <| SR.q' (r_as (v := .int .i64 _) rfl) <| SR.nil ?_)
          refine W.regS (SR.q' (r_mv (v := .int .i64 _) rfl) <| SR.q' (r_add rfl rfl (by omega)) <| SR.q' (r_as (v := .int .i64 _) rfl) <| SR.nil ?_)
          refine ⟨i + 1, _, rfl, ⟨rfl, (eI (by first | omega | (dsimp only; omega))), (eI (by first | omega | (dsimp only; omega))), trivial⟩, ⟨hB20, ((hm6).lo hk12).lo hk18, ?_⟩, ?_⟩
          · exact (z_c_laws_heldLogRecordS_23 L nL hbdL hleL k m hp0 hp1 hp2 hp3 i hi7 h8 x9 hx10 h15 h21)
          · exact (z_c_laws_heldLogRecordS_24 L nL hbdL hleL k m hp0 hp1 hp2 hp3 i hi7 h8 x9 hx10 h15 h21)
    · refine W.exit (xin_here ?_)
      refine W.seq ?_
      refine W.regS (SR.q' (r_mv (v := .int .i64 _) rfl) <| SR.q' (r_as (v := .int .i64 _) rfl) <| SR.nil ?_)
      refine W.ret ?_
      refine ret1 rfl (v := .int .i64 _) rfl ?_
      exact ⟨eR (eI (z_c_laws_heldLogRecordS_25 L nL hbdL hleL k m hp0 hp1 hp2 hp3 i hi7 h8)), hB4⟩

theorem c_laws_FnExactEncodeRecord (w : World) (k : Int) (r : LogRecord) (hp0 : (r.Command.length : Int) ≤ 9223372036854775807 ∧ (r.Reply.length : Int) ≤ 9223372036854775807) (hE : EnvW w) : Calls Tryd.prog 3 #[.int .i64 k, .agg (List.toArray (encLogRecord r))] w fun e w' => e = .returned (.bool true) ∧ Lo w w' := by
  refine calls_W 37 Tryd.func3 rfl rfl rfl ?_
  refine W.seq ?_
  refine W.regS (SR.box (v := .agg (List.toArray _)) (l := [str r.Command, str r.Reply]) rfl rfl ?_)
  intro g1 w2 hg3 hk4 hs5 hb6
  have hz7 := hk4.size
  have hB8 := (Lo.refl w).lo hk4
  refine SR.q' (r_as (v := .bool false) rfl) <| SR.nil ?_
  refine W.seq ?_
  refine W.regS (SR.q' (r_as (v := .int .i64 1048576) rfl) <| SR.nil ?_)
  refine W.seq ?_
  refine W.regS (SR.q' (r_lda (l := [str r.Command, str r.Reply]) agg23 rfl (fun _ _ hu => (hb6).cell hu) rfl) <| SR.q' (r_mv (v := .int .i64 _) rfl) <| SR.call ent13 (c_laws_szLogRecord w2 r 1048576 (by omega) (by omega) (by omega) (by omega)) rfl ?_)
  rintro e w9 ⟨rfl, hk10⟩
  refine ⟨_, rfl, ?_⟩
  have hz11 := hk10.size
  have hB12 := hB8.lo hk10
  refine SR.q' (r_as (v := .int .i64 _) rfl) <| SR.nil ?_
  refine W.seq ?_
  refine W.seq ?_
  refine W.regS (SR.q' (r_mv (v := .int .i64 _) rfl) <| SR.q' (r_lt rfl rfl) <| SR.nil ?_)
  refine W.cond_d rfl (fun h13 => ?_) (fun h13 => ?_)
  · refine W.seq ?_
    refine W.regS (SR.q' (r_as (v := .bool true) rfl) <| SR.nil ?_)
    refine W.ret ?_
    refine ret1 rfl (v := .bool _) rfl ?_
    exact ⟨eR rfl, hB12⟩
  · have hq14 := szN_ok h13
    refine W.skip ?_
    refine W.seq ?_
    refine W.regS (SR.q' (r_mv (v := .int .i64 _) rfl) <| SR.q' (r_lda (l := [str r.Command, str r.Reply]) agg23 rfl (fun _ _ hu => ((hb6).lo hk10).cell hu) rfl) <| SR.call ent15 (c_laws_toLogRecord w9 r) rfl ?_)
    rintro e w15 ⟨rfl, hk16⟩
    refine ⟨_, rfl, ?_⟩
    have hz17 := hk16.size
    have hB18 := hB12.lo hk16
    refine SR.call ent14 (c_spec_EncodeRecord w15 k r (by omega)) rfl ?_
    rintro e w19 ⟨rfl, hk20⟩
    refine ⟨_, rfl, ?_⟩
    have hz21 := hk20.size
    have hB22 := hB18.lo hk20
    refine SR.q' (r_mv (v := .tuple (List.toArray _)) rfl) <| SR.q' (r_ext (v := str _) rfl rfl) <| SR.q' (r_ext (v := .bool _) rfl rfl) <| SR.q' (r_as (v := str _) rfl) <| SR.q' (r_as (v := .bool _) rfl) <| SR.nil ?_
    refine W.seq ?_
    refine W.regS (SR.q' (r_mv (v := .int .i64 _) rfl) <| SR.q' (r_lda (l := [str r.Command, str r.Reply]) agg23 rfl (fun _ _ hu => ((((hb6).lo hk10).lo hk16).lo hk20).cell hu) rfl) <| SR.call ent15 (c_laws_toLogRecord w19 r) rfl ?_)
    rintro e w23 ⟨rfl, hk24⟩
    refine ⟨_, rfl, ?_⟩
    have hz25 := hk24.size
    have hB26 := hB22.lo hk24
    refine SR.call ent16 (c_impl_EncodeRecord w23 k r (hE.lo (hB26))) rfl ?_
    rintro e w27 ⟨rfl, hk28⟩
    refine ⟨_, rfl, ?_⟩
    have hz29 := hk28.size
    have hB30 := hB26.lo hk28
    have hq31 : (encN k r).1.length ≤ 406 := enc_len k r
    refine SR.q' (r_mv (v := .tuple (List.toArray _)) rfl) <| SR.q' (r_ext (v := str _) rfl rfl) <| SR.q' (r_ext (v := .bool _) rfl rfl) <| SR.q' (r_as (v := str _) rfl) <| SR.q' (r_as (v := .bool _) rfl) <| SR.nil ?_
    refine W.seq ?_
    refine W.seq ?_
    refine W.regS (SR.q' (r_mv (v := str _) rfl) <| SR.q' (r_mv (v := str _) rfl) <| SR.q' (r_nes_s (s := (encN k r).1) rfl rfl) <| SR.q' (r_mv (v := .bool _) rfl) <| SR.g' rfl (r_mv (v := .bool _) rfl) <| SR.g' rfl (r_mv (v := .bool _) rfl) <| SR.g' rfl (r_neb_s und4 rfl rfl) <| SR.q' (r_pick false rfl (v := .bool _) rfl) <| SR.nil ?_)
    refine W.cond_f rfl ?_
    refine W.skip ?_
    refine W.seq ?_
    refine W.regS (SR.q' (r_as (v := .bool true) rfl) <| SR.nil ?_)
    refine W.ret ?_
    refine ret1 rfl (v := .bool _) rfl ?_
    exact ⟨eR rfl, hB30⟩

theorem z_c_laws_FnExactRecoverLog_51 (s : List UInt8) (hp0 : (s.length : Int) ≤ 9223372036854775807) (h1 : ¬ (1048576 < (s.length : Int))) (h49 : ¬ (((recovN s).1) = ((recovN s).1))) (hq50 : ¬ (((recovN s).1) = ((recovN s).1))) : false = true := by
  first | (simp_all; done) | omega | (simp at *; omega)
theorem c_laws_FnExactRecoverLog (w : World) (s : List UInt8) (hp0 : (s.length : Int) ≤ 9223372036854775807) (hE : EnvW w) : Calls Tryd.prog 4 #[str s] w fun e w' => e = .returned (.bool true) ∧ Lo w w' := by
  refine calls_W 38 Tryd.func4 rfl rfl rfl ?_
  refine W.seq ?_
  refine W.regS (SR.q' (r_as (v := .bool false) rfl) <| SR.nil ?_)
  refine W.seq ?_
  refine W.seq ?_
  refine W.regS (SR.q' (r_mv (v := str _) rfl) <| SR.q' (r_len_s und9 rfl) <| SR.q' (r_gt rfl rfl) <| SR.nil ?_)
  refine W.cond_d rfl (fun h1 => ?_) (fun h1 => ?_)
  · refine W.seq ?_
    refine W.regS (SR.q' (r_as (v := .bool true) rfl) <| SR.nil ?_)
    refine W.ret ?_
    refine ret1 rfl (v := .bool _) rfl ?_
    exact ⟨eR rfl, (Lo.refl w)⟩
  · refine W.skip ?_
    refine W.seq ?_
    refine W.regS (SR.q' (r_mv (v := str _) rfl) <| SR.call ent17 (c_spec_RecoverLog w s) rfl ?_)
    rintro e w2 ⟨rfl, hk3⟩
    refine ⟨_, rfl, ?_⟩
    have hz4 := hk3.size
    have hB5 := (Lo.refl w).lo hk3
    refine SR.q' (r_mv (v := .tuple (List.toArray _)) rfl) <| SR.q' (r_ext (v := .agg (List.toArray _)) rfl rfl) <| SR.q' (r_ext (v := .int .i64 _) rfl rfl) <| SR.q' (r_ext (v := .bool _) rfl rfl) <| SR.alloc (l := [str ([] : List UInt8), str ([] : List UInt8), .int .i64 0]) tz31 rfl ?_
    intro g6 w7 hg8 hk9 hs10 hb11
    have hz12 := hk9.size
    have hB13 := hB5.lo hk9
    refine SR.store (o := 0) (vs := [str (((recovN s).1).Durable), str (((recovN s).1).Pending), .int .i64 (((recovN s).1).Count)]) agg31.2 rfl rfl rfl rfl (hb11) (Nat.le_of_ble_eq_true rfl) rfl ?_
    intro w14 hk15 hs16 hb17
    have hz18 := hk15.size
    have hB19 := hB13.new hk15 (by omega)
    refine SR.q' (r_as (v := .int .i64 _) rfl) <| SR.q' (r_as (v := .bool _) rfl) <| SR.nil ?_
    refine W.seq ?_
    refine W.regS (SR.q' (r_mv (v := str _) rfl) <| SR.call ent18 (c_impl_RecoverLog w14 s (hE.lo (hB19))) rfl ?_)
    rintro e w20 ⟨rfl, hk21⟩
    refine ⟨_, rfl, ?_⟩
    have hz22 := hk21.size
    have hB23 := hB19.lo hk21
    refine SR.q' (r_mv (v := .tuple (List.toArray _)) rfl) <| SR.q' (r_ext (v := .agg (List.toArray _)) rfl rfl) <| SR.q' (r_ext (v := .int .i64 _) rfl rfl) <| SR.q' (r_ext (v := .bool _) rfl rfl) <| SR.alloc (l := [str ([] : List UInt8), str ([] : List UInt8), .int .i64 0]) tz31 rfl ?_
    intro g24 w25 hg26 hk27 hs28 hb29
    have hz30 := hk27.size
    have hB31 := hB23.lo hk27
    refine SR.store (o := 0) (vs := [str (((recovN s).1).Durable), str (((recovN s).1).Pending), .int .i64 (((recovN s).1).Count)]) agg31.2 rfl rfl rfl rfl (hb29) (Nat.le_of_ble_eq_true rfl) rfl ?_
    intro w32 hk33 hs34 hb35
    have hz36 := hk33.size
    have hB37 := hB31.new hk33 (by omega)
    refine SR.q' (r_as (v := .int .i64 _) rfl) <| SR.q' (r_as (v := .bool _) rfl) <| SR.nil ?_
    refine W.seq ?_
    refine W.seq ?_
    refine W.regJS (fun f' w' => At f' [(2, .bool false), (37, .bool (decide (¬ (((recovN s).1) = ((recovN s).1)))))] ∧ Lo w32 w') ?_ ?_
    · refine SR.q' (r_lda (l := [str (((recovN s).1).Durable), str (((recovN s).1).Pending), .int .i64 (((recovN s).1).Count)]) agg31 rfl (fun _ _ hu => (hb35).cell hu) rfl) <| SR.q' (r_lda (l := [str (((recovN s).1).Durable), str (((recovN s).1).Pending), .int .i64 (((recovN s).1).Count)]) agg31 rfl (fun _ _ hu => ((((hb17).lo hk21).lo hk27).kp hk33 (fun e' => by have e'' : g6 = g24 := e'; omega)).cell hu) rfl) <| SR.call ent19 (c_laws_eqLog w32 ((recovN s).1) ((recovN s).1)) rfl ?_
      rintro e w38 ⟨rfl, hk39⟩
      refine ⟨_, rfl, ?_⟩
      have hz40 := hk39.size
      have hB41 := hB37.lo hk39
      refine SR.q' (r_not rfl) <| SR.q' (r_mv (v := .bool _) rfl) <| SR.splitN (fun h42 => ?_) (fun h42 => ?_)
      · refine SR.s' rfl <| SR.s' rfl <| SR.s' rfl <| SR.q' (r_pick true rfl (v := .bool true) rfl) <| SR.q' (r_mv (v := .bool _) rfl) <| SR.s' rfl <| SR.s' rfl <| SR.s' rfl <| SR.q' (r_pick true rfl (v := .bool true) rfl) <| SR.nil ?_
        exact ⟨_, rfl, ⟨⟨rfl, (eDT ((j2f h42).1 trivial)), trivial⟩, (hk39)⟩⟩
      · refine SR.g' rfl (r_mv (v := .int .i64 _) rfl) <| SR.g' rfl (r_mv (v := .int .i64 _) rfl) <| SR.g' rfl (r_ne_s rfl rfl) <| SR.q' (r_pick false rfl (v := .bool _) rfl) <| SR.q' (r_mv (v := .bool _) rfl) <| SR.g' rfl (r_mv (v := .bool _) rfl) <| SR.g' rfl (r_mv (v := .bool _) rfl) <| SR.g' rfl (r_neb_s und4 rfl rfl) <| SR.q' (r_pick false rfl (v := .bool _) rfl) <| SR.nil ?_
        exact ⟨_, rfl, ⟨⟨rfl, (eDF (j2t h42).2), trivial⟩, (hk39)⟩⟩
    rintro f43 w44 ⟨hat45, hk46⟩
    rw [← sets_of_at hat45]
    have hz47 := hk46.size
    have hB48 := hB37.lo hk46
    refine W.cond_d rfl (fun h49 => ?_) (fun h49 => ?_)
    · have hq50 : ¬ (((recovN s).1) = ((recovN s).1)) := h49
      refine W.seq ?_
      refine W.regS (SR.q' (r_as (v := .bool false) rfl) <| SR.nil ?_)
      refine W.ret ?_
      refine ret1 rfl (v := .bool _) rfl ?_
      exact ⟨eR (eB (z_c_laws_FnExactRecoverLog_51 s hp0 h1 h49 hq50)), hB48⟩
    · have hq52 : ((recovN s).1) = ((recovN s).1) := (Classical.not_not.1 h49)
      refine W.skip ?_
      refine W.seq ?_
      refine W.regS (SR.q' (r_as (v := .bool true) rfl) <| SR.nil ?_)
      refine W.ret ?_
      refine ret1 rfl (v := .bool _) rfl ?_
      exact ⟨eR rfl, hB48⟩

theorem c_laws_FnExactIsValidLog (w : World) (l : Log) (hp0 : (l.Durable.length : Int) ≤ 9223372036854775807 ∧ (l.Pending.length : Int) ≤ 9223372036854775807) (hE : EnvW w) : Calls Tryd.prog 5 #[.agg (List.toArray (encLog l))] w fun e w' => e = .returned (.bool true) ∧ Lo w w' := by
  refine calls_W 20 Tryd.func5 rfl rfl rfl ?_
  refine W.seq ?_
  refine W.regS (SR.box (v := .agg (List.toArray _)) (l := [str l.Durable, str l.Pending, .int .i64 l.Count]) rfl rfl ?_)
  intro g1 w2 hg3 hk4 hs5 hb6
  have hz7 := hk4.size
  have hB8 := (Lo.refl w).lo hk4
  refine SR.q' (r_as (v := .bool false) rfl) <| SR.nil ?_
  refine W.seq ?_
  refine W.regS (SR.q' (r_as (v := .int .i64 1048576) rfl) <| SR.nil ?_)
  refine W.seq ?_
  refine W.regS (SR.q' (r_lda (l := [str l.Durable, str l.Pending, .int .i64 l.Count]) agg36 rfl (fun _ _ hu => (hb6).cell hu) rfl) <| SR.q' (r_mv (v := .int .i64 _) rfl) <| SR.call ent20 (c_laws_szLog w2 l 1048576 (by omega) (by omega) (by omega) (by omega)) rfl ?_)
  rintro e w9 ⟨rfl, hk10⟩
  refine ⟨_, rfl, ?_⟩
  have hz11 := hk10.size
  have hB12 := hB8.lo hk10
  refine SR.q' (r_as (v := .int .i64 _) rfl) <| SR.nil ?_
  refine W.seq ?_
  refine W.seq ?_
  refine W.regS (SR.q' (r_mv (v := .int .i64 _) rfl) <| SR.q' (r_lt rfl rfl) <| SR.nil ?_)
  refine W.cond_d rfl (fun h13 => ?_) (fun h13 => ?_)
  · refine W.seq ?_
    refine W.regS (SR.q' (r_as (v := .bool true) rfl) <| SR.nil ?_)
    refine W.ret ?_
    refine ret1 rfl (v := .bool _) rfl ?_
    exact ⟨eR rfl, hB12⟩
  · have hq14 := szN_ok h13
    refine W.skip ?_
    refine W.seq ?_
    refine W.regS (SR.q' (r_lda (l := [str l.Durable, str l.Pending, .int .i64 l.Count]) agg36 rfl (fun _ _ hu => ((hb6).lo hk10).cell hu) rfl) <| SR.call ent22 (c_laws_toLog w9 l) rfl ?_)
    rintro e w15 ⟨rfl, hk16⟩
    refine ⟨_, rfl, ?_⟩
    have hz17 := hk16.size
    have hB18 := hB12.lo hk16
    refine SR.call ent21 (c_spec_IsValidLog w15 l (by omega)) rfl ?_
    rintro e w19 ⟨rfl, hk20⟩
    refine ⟨_, rfl, ?_⟩
    have hz21 := hk20.size
    have hB22 := hB18.lo hk20
    refine SR.q' (r_as (v := .bool _) rfl) <| SR.nil ?_
    refine W.seq ?_
    refine W.regS (SR.q' (r_lda (l := [str l.Durable, str l.Pending, .int .i64 l.Count]) agg36 rfl (fun _ _ hu => ((((hb6).lo hk10).lo hk16).lo hk20).cell hu) rfl) <| SR.call ent22 (c_laws_toLog w19 l) rfl ?_)
    rintro e w23 ⟨rfl, hk24⟩
    refine ⟨_, rfl, ?_⟩
    have hz25 := hk24.size
    have hB26 := hB22.lo hk24
    refine SR.call ent23 (c_impl_IsValidLog w23 l (by omega) (hE.lo (hB26))) rfl ?_
    rintro e w27 ⟨rfl, hk28⟩
    refine ⟨_, rfl, ?_⟩
    have hz29 := hk28.size
    have hB30 := hB26.lo hk28
    refine SR.q' (r_as (v := .bool _) rfl) <| SR.nil ?_
    refine W.seq ?_
    refine W.seq ?_
    refine W.regS (SR.q' (r_mv (v := .bool _) rfl) <| SR.q' (r_mv (v := .bool _) rfl) <| SR.q' (r_neb_s und4 rfl rfl) <| SR.nil ?_)
    refine W.cond_f rfl ?_
    refine W.skip ?_
    refine W.seq ?_
    refine W.regS (SR.q' (r_as (v := .bool true) rfl) <| SR.nil ?_)
    refine W.ret ?_
    refine ret1 rfl (v := .bool _) rfl ?_
    exact ⟨eR rfl, hB30⟩

theorem z_c_laws_FnExactSyncLog_72 (l : Log) (hp0 : (l.Durable.length : Int) ≤ 9223372036854775807 ∧ (l.Pending.length : Int) ≤ 9223372036854775807) (h13 : ¬ ((szN (l.Durable.length + l.Pending.length) 1048576) < 0)) (hq14 : ((l.Durable.length + l.Pending.length : Nat) : Int) ≤ 1048576 ∧ szN (l.Durable.length + l.Pending.length) 1048576 = 1048576 - ((l.Durable.length + l.Pending.length : Nat) : Int)) (h70 : ¬ (((syncN l).1) = ((syncN l).1))) (hq71 : ¬ (((syncN l).1) = ((syncN l).1))) : false = true := by
  first | (simp_all; done) | omega | (simp at *; omega)
theorem c_laws_FnExactSyncLog (w : World) (l : Log) (hp0 : (l.Durable.length : Int) ≤ 9223372036854775807 ∧ (l.Pending.length : Int) ≤ 9223372036854775807) (hE : EnvW w) : Calls Tryd.prog 7 #[.agg (List.toArray (encLog l))] w fun e w' => e = .returned (.bool true) ∧ Lo w w' := by
  refine calls_W 34 Tryd.func7 rfl rfl rfl ?_
  refine W.seq ?_
  refine W.regS (SR.box (v := .agg (List.toArray _)) (l := [str l.Durable, str l.Pending, .int .i64 l.Count]) rfl rfl ?_)
  intro g1 w2 hg3 hk4 hs5 hb6
  have hz7 := hk4.size
  have hB8 := (Lo.refl w).lo hk4
  refine SR.q' (r_as (v := .bool false) rfl) <| SR.nil ?_
  refine W.seq ?_
  refine W.regS (SR.q' (r_as (v := .int .i64 1048576) rfl) <| SR.nil ?_)
  refine W.seq ?_
  refine W.regS (SR.q' (r_lda (l := [str l.Durable, str l.Pending, .int .i64 l.Count]) agg36 rfl (fun _ _ hu => (hb6).cell hu) rfl) <| SR.q' (r_mv (v := .int .i64 _) rfl) <| SR.call ent20 (c_laws_szLog w2 l 1048576 (by omega) (by omega) (by omega) (by omega)) rfl ?_)
  rintro e w9 ⟨rfl, hk10⟩
  refine ⟨_, rfl, ?_⟩
  have hz11 := hk10.size
  have hB12 := hB8.lo hk10
  refine SR.q' (r_as (v := .int .i64 _) rfl) <| SR.nil ?_
  refine W.seq ?_
  refine W.seq ?_
  refine W.regS (SR.q' (r_mv (v := .int .i64 _) rfl) <| SR.q' (r_lt rfl rfl) <| SR.nil ?_)
  refine W.cond_d rfl (fun h13 => ?_) (fun h13 => ?_)
  · refine W.seq ?_
    refine W.regS (SR.q' (r_as (v := .bool true) rfl) <| SR.nil ?_)
    refine W.ret ?_
    refine ret1 rfl (v := .bool _) rfl ?_
    exact ⟨eR rfl, hB12⟩
  · have hq14 := szN_ok h13
    refine W.skip ?_
    refine W.seq ?_
    refine W.regS (SR.q' (r_lda (l := [str l.Durable, str l.Pending, .int .i64 l.Count]) agg36 rfl (fun _ _ hu => ((hb6).lo hk10).cell hu) rfl) <| SR.call ent22 (c_laws_toLog w9 l) rfl ?_)
    rintro e w15 ⟨rfl, hk16⟩
    refine ⟨_, rfl, ?_⟩
    have hz17 := hk16.size
    have hB18 := hB12.lo hk16
    refine SR.call ent26 (c_spec_SyncLog w15 l (by omega)) rfl ?_
    rintro e w19 ⟨rfl, hk20⟩
    refine ⟨_, rfl, ?_⟩
    have hz21 := hk20.size
    have hB22 := hB18.lo hk20
    refine SR.q' (r_mv (v := .tuple (List.toArray _)) rfl) <| SR.q' (r_ext (v := .agg (List.toArray _)) rfl rfl) <| SR.q' (r_ext (v := .bool _) rfl rfl) <| SR.alloc (l := [str ([] : List UInt8), str ([] : List UInt8), .int .i64 0]) tz31 rfl ?_
    intro g23 w24 hg25 hk26 hs27 hb28
    have hz29 := hk26.size
    have hB30 := hB22.lo hk26
    refine SR.store (o := 0) (vs := [str (((syncN l).1).Durable), str (((syncN l).1).Pending), .int .i64 (((syncN l).1).Count)]) agg31.2 rfl rfl rfl rfl (hb28) (Nat.le_of_ble_eq_true rfl) rfl ?_
    intro w31 hk32 hs33 hb34
    have hz35 := hk32.size
    have hB36 := hB30.new hk32 (by omega)
    refine SR.q' (r_as (v := .bool _) rfl) <| SR.nil ?_
    refine W.seq ?_
    refine W.regS (SR.q' (r_lda (l := [str l.Durable, str l.Pending, .int .i64 l.Count]) agg36 rfl (fun _ _ hu => ((((((hb6).lo hk10).lo hk16).lo hk20).lo hk26).kp hk32 (fun e' => by have e'' : g1 = g23 := e'; omega)).cell hu) rfl) <| SR.call ent22 (c_laws_toLog w31 l) rfl ?_)
    rintro e w37 ⟨rfl, hk38⟩
    refine ⟨_, rfl, ?_⟩
    have hz39 := hk38.size
    have hB40 := hB36.lo hk38
    refine SR.call ent27 (c_impl_SyncLog w37 l (by omega) (hE.lo (hB40))) rfl ?_
    rintro e w41 ⟨rfl, hk42⟩
    refine ⟨_, rfl, ?_⟩
    have hz43 := hk42.size
    have hB44 := hB40.lo hk42
    refine SR.q' (r_mv (v := .tuple (List.toArray _)) rfl) <| SR.q' (r_ext (v := .agg (List.toArray _)) rfl rfl) <| SR.q' (r_ext (v := .bool _) rfl rfl) <| SR.alloc (l := [str ([] : List UInt8), str ([] : List UInt8), .int .i64 0]) tz31 rfl ?_
    intro g45 w46 hg47 hk48 hs49 hb50
    have hz51 := hk48.size
    have hB52 := hB44.lo hk48
    refine SR.store (o := 0) (vs := [str (((syncN l).1).Durable), str (((syncN l).1).Pending), .int .i64 (((syncN l).1).Count)]) agg31.2 rfl rfl rfl rfl (hb50) (Nat.le_of_ble_eq_true rfl) rfl ?_
    intro w53 hk54 hs55 hb56
    have hz57 := hk54.size
    have hB58 := hB52.new hk54 (by omega)
    refine SR.q' (r_as (v := .bool _) rfl) <| SR.nil ?_
    refine W.seq ?_
    refine W.seq ?_
    refine W.regJS (fun f' w' => At f' [(2, .bool false), (33, .bool (decide (¬ (((syncN l).1) = ((syncN l).1)))))] ∧ Lo w53 w') ?_ ?_
    · refine SR.q' (r_lda (l := [str (((syncN l).1).Durable), str (((syncN l).1).Pending), .int .i64 (((syncN l).1).Count)]) agg31 rfl (fun _ _ hu => (hb56).cell hu) rfl) <| SR.q' (r_lda (l := [str (((syncN l).1).Durable), str (((syncN l).1).Pending), .int .i64 (((syncN l).1).Count)]) agg31 rfl (fun _ _ hu => (((((hb34).lo hk38).lo hk42).lo hk48).kp hk54 (fun e' => by have e'' : g23 = g45 := e'; omega)).cell hu) rfl) <| SR.call ent19 (c_laws_eqLog w53 ((syncN l).1) ((syncN l).1)) rfl ?_
      rintro e w59 ⟨rfl, hk60⟩
      refine ⟨_, rfl, ?_⟩
      have hz61 := hk60.size
      have hB62 := hB58.lo hk60
      refine SR.q' (r_not rfl) <| SR.q' (r_mv (v := .bool _) rfl) <| SR.splitN (fun h63 => ?_) (fun h63 => ?_)
      · refine SR.s' rfl <| SR.s' rfl <| SR.s' rfl <| SR.q' (r_pick true rfl (v := .bool true) rfl) <| SR.nil ?_
        exact ⟨_, rfl, ⟨⟨rfl, (eDT ((j2f h63).1 trivial)), trivial⟩, (hk60)⟩⟩
      · refine SR.g' rfl (r_mv (v := .bool _) rfl) <| SR.g' rfl (r_mv (v := .bool _) rfl) <| SR.g' rfl (r_neb_s und4 rfl rfl) <| SR.q' (r_pick false rfl (v := .bool _) rfl) <| SR.nil ?_
        exact ⟨_, rfl, ⟨⟨rfl, (eDF (j2t h63).2), trivial⟩, (hk60)⟩⟩
    rintro f64 w65 ⟨hat66, hk67⟩
    rw [← sets_of_at hat66]
    have hz68 := hk67.size
    have hB69 := hB58.lo hk67
    refine W.cond_d rfl (fun h70 => ?_) (fun h70 => ?_)
    · have hq71 : ¬ (((syncN l).1) = ((syncN l).1)) := h70
      refine W.seq ?_
      refine W.regS (SR.q' (r_as (v := .bool false) rfl) <| SR.nil ?_)
      refine W.ret ?_
      refine ret1 rfl (v := .bool _) rfl ?_
      exact ⟨eR (eB (z_c_laws_FnExactSyncLog_72 l hp0 h13 hq14 h70 hq71)), hB69⟩
    · have hq73 : ((syncN l).1) = ((syncN l).1) := (Classical.not_not.1 h70)
      refine W.skip ?_
      refine W.seq ?_
      refine W.regS (SR.q' (r_as (v := .bool true) rfl) <| SR.nil ?_)
      refine W.ret ?_
      refine ret1 rfl (v := .bool _) rfl ?_
      exact ⟨eR rfl, hB69⟩

theorem z_c_laws_FnExactAppendRecord_290 (l : Log) (r : LogRecord) (hp0 : (l.Durable.length : Int) ≤ 9223372036854775807 ∧ (l.Pending.length : Int) ≤ 9223372036854775807) (hp1 : (r.Command.length : Int) ≤ 9223372036854775807 ∧ (r.Reply.length : Int) ≤ 9223372036854775807) (h21 : ¬ ((szN (l.Durable.length + l.Pending.length) 1048576) < 0)) (hq22 : ((l.Durable.length + l.Pending.length : Nat) : Int) ≤ 1048576 ∧ szN (l.Durable.length + l.Pending.length) 1048576 = 1048576 - ((l.Durable.length + l.Pending.length : Nat) : Int)) (h27 : ¬ ((szN (r.Command.length + r.Reply.length) (szN (l.Durable.length + l.Pending.length) 1048576)) < 0)) (hq28 : ((r.Command.length + r.Reply.length : Nat) : Int) ≤ (szN (l.Durable.length + l.Pending.length) 1048576) ∧ szN (r.Command.length + r.Reply.length) (szN (l.Durable.length + l.Pending.length) 1048576) = (szN (l.Durable.length + l.Pending.length) 1048576) - ((r.Command.length + r.Reply.length : Nat) : Int)) (h288 : ¬ (((appN l r).1) = ((appN l r).1))) (hq289 : ¬ (((appN l r).1) = ((appN l r).1))) : false = true := by
  first | (simp_all; done) | omega | (simp at *; omega)
theorem c_laws_FnExactAppendRecord (w : World) (l : Log) (r : LogRecord) (hp0 : (l.Durable.length : Int) ≤ 9223372036854775807 ∧ (l.Pending.length : Int) ≤ 9223372036854775807) (hp1 : (r.Command.length : Int) ≤ 9223372036854775807 ∧ (r.Reply.length : Int) ≤ 9223372036854775807) (hE : EnvW w) : Calls Tryd.prog 8 #[.agg (List.toArray (encLog l)), .agg (List.toArray (encLogRecord r))] w fun e w' => e = .returned (.bool true) ∧ Lo w w' := by
  refine calls_W 45 Tryd.func8 rfl rfl rfl ?_
  refine W.seq ?_
  refine W.regS (SR.box (v := .agg (List.toArray _)) (l := [str l.Durable, str l.Pending, .int .i64 l.Count]) rfl rfl ?_)
  intro g1 w2 hg3 hk4 hs5 hb6
  have hz7 := hk4.size
  have hB8 := (Lo.refl w).lo hk4
  refine SR.box (v := .agg (List.toArray _)) (l := [str r.Command, str r.Reply]) rfl rfl ?_
  intro g9 w10 hg11 hk12 hs13 hb14
  have hz15 := hk12.size
  have hB16 := hB8.lo hk12
  refine SR.q' (r_as (v := .bool false) rfl) <| SR.nil ?_
  refine W.seq ?_
  refine W.regS (SR.q' (r_as (v := .int .i64 1048576) rfl) <| SR.nil ?_)
  refine W.seq ?_
  refine W.regS (SR.q' (r_lda (l := [str l.Durable, str l.Pending, .int .i64 l.Count]) agg36 rfl (fun _ _ hu => ((hb6).lo hk12).cell hu) rfl) <| SR.q' (r_mv (v := .int .i64 _) rfl) <| SR.call ent20 (c_laws_szLog w10 l 1048576 (by omega) (by omega) (by omega) (by omega)) rfl ?_)
  rintro e w17 ⟨rfl, hk18⟩
  refine ⟨_, rfl, ?_⟩
  have hz19 := hk18.size
  have hB20 := hB16.lo hk18
  refine SR.q' (r_as (v := .int .i64 _) rfl) <| SR.nil ?_
  refine W.seq ?_
  refine W.seq ?_
  refine W.regS (SR.q' (r_mv (v := .int .i64 _) rfl) <| SR.q' (r_lt rfl rfl) <| SR.nil ?_)
  refine W.cond_d rfl (fun h21 => ?_) (fun h21 => ?_)
  · refine W.seq ?_
    refine W.regS (SR.q' (r_as (v := .bool true) rfl) <| SR.nil ?_)
    refine W.ret ?_
    refine ret1 rfl (v := .bool _) rfl ?_
    exact ⟨eR rfl, hB20⟩
  · have hq22 := szN_ok h21
    refine W.skip ?_
    refine W.seq ?_
    refine W.regS (SR.q' (r_lda (l := [str r.Command, str r.Reply]) agg23 rfl (fun _ _ hu => ((hb14).lo hk18).cell hu) rfl) <| SR.q' (r_mv (v := .int .i64 _) rfl) <| SR.call ent13 (c_laws_szLogRecord w17 r (szN (l.Durable.length + l.Pending.length) 1048576) (by omega) (by omega) (by omega) (by omega)) rfl ?_)
    rintro e w23 ⟨rfl, hk24⟩
    refine ⟨_, rfl, ?_⟩
    have hz25 := hk24.size
    have hB26 := hB20.lo hk24
    refine SR.q' (r_as (v := .int .i64 _) rfl) <| SR.nil ?_
    refine W.seq ?_
    refine W.seq ?_
    refine W.regS (SR.q' (r_mv (v := .int .i64 _) rfl) <| SR.q' (r_lt rfl rfl) <| SR.nil ?_)
    refine W.cond_d rfl (fun h27 => ?_) (fun h27 => ?_)
    · refine W.seq ?_
      refine W.regS (SR.q' (r_as (v := .bool true) rfl) <| SR.nil ?_)
      refine W.ret ?_
      refine ret1 rfl (v := .bool _) rfl ?_
      exact ⟨eR rfl, hB26⟩
    · have hq28 := szN_ok h27
      refine W.skip ?_
      refine W.seq ?_
      refine W.regA (Lo w23) (fun f' w' => ∃ (g48 : Nat), At f' [(2, .pointer (some ((⟨g1, 0, none⟩ : Addr)))), (3, .pointer (some ((⟨g9, 0, none⟩ : Addr)))), (4, .bool false), (6, .pointer (some ((⟨g48, 0, none⟩ : Addr)))), (7, .int .i64 ((appN l r).2))] ∧ (Lo w23 w') ∧ (Blk w' g48 31 [str (((appN l r).1).Durable), str (((appN l r).1).Pending), .int .i64 (((appN l r).1).Count)]) ∧ (w23.heap.size ≤ g48 ∧ g48 < w'.heap.size)) mo ?_ ?_
      · intro w29 hk30
        have hz31 := hk30.size
        have hB32 := hB26.lo hk30
        refine AH.take 0 rfl (by kernel_rfl) trivial (hk30) (fun w' hw' => r_lda (l := [str l.Durable, str l.Pending, .int .i64 l.Count]) agg36 rfl (fun _ _ hu => (((((hb6).lo hk12).lo hk18).lo hk24).lo hw').cell hu) rfl) <| AH.take 2 rfl (by kernel_rfl) trivial (hk30) (fun w' hw' => r_lda (l := [str r.Command, str r.Reply]) agg23 rfl (fun _ _ hu => ((((hb14).lo hk18).lo hk24).lo hw').cell hu) rfl) <| AH.br [1, 8] (by kernel_rfl) rfl ⟨Br.mk' rfl trivial ?_, Br.mk' rfl trivial ?_, trivial⟩
        · refine SR.call ent22 (c_laws_toLog w29 l) rfl ?_
          rintro e w33 ⟨rfl, hk34⟩
          refine ⟨_, rfl, ?_⟩
          have hz35 := hk34.size
          have hB36 := hB32.lo hk34
          have hS37 := (hk30).lo hk34
          refine SR.nil ⟨hS37, _, rfl, ?_⟩
          refine AH.br [3, 8] (by kernel_rfl) rfl ⟨Br.mk' rfl trivial ?_, Br.mk' rfl trivial ?_, trivial⟩
          · refine SR.call ent15 (c_laws_toLogRecord w33 r) rfl ?_
            rintro e w38 ⟨rfl, hk39⟩
            refine ⟨_, rfl, ?_⟩
            have hz40 := hk39.size
            have hB41 := hB36.lo hk39
            have hS42 := (hS37).lo hk39
            refine SR.nil ⟨hS42, _, rfl, ?_⟩
            refine AH.br [4, 8] (by kernel_rfl) rfl ⟨Br.mk' rfl trivial ?_, Br.mk' rfl trivial ?_, trivial⟩
            · refine SR.call ent28 (c_spec_AppendRecord w38 l r (by omega) (by omega)) rfl ?_
              rintro e w43 ⟨rfl, hk44⟩
              refine ⟨_, rfl, ?_⟩
              have hz45 := hk44.size
              have hB46 := hB41.lo hk44
              have hS47 := (hS42).lo hk44
              refine SR.nil ⟨hS47, _, rfl, ?_⟩
              refine AH.take 5 rfl (by kernel_rfl) trivial (hS47) (fun w' hw' => r_mv (v := .tuple (List.toArray _)) rfl) <| AH.take 6 rfl (by kernel_rfl) trivial (hS47) (fun w' hw' => r_ext (v := .agg (List.toArray _)) rfl rfl) <| AH.take 7 rfl (by kernel_rfl) trivial (hS47) (fun w' hw' => r_ext (v := .int .i64 _) rfl rfl) <| AH.br [8] (by kernel_rfl) rfl ⟨Br.mk' rfl trivial ?_, trivial⟩
              refine SR.alloc (l := [str ([] : List UInt8), str ([] : List UInt8), .int .i64 0]) tz31 rfl ?_
              intro g48 w49 hg50 hk51 hs52 hb53
              have hz54 := hk51.size
              have hB55 := hB46.lo hk51
              have hS56 := (hS47).lo hk51
              refine SR.nil ⟨hS56, _, rfl, ?_⟩
              refine AH.br [9] (by kernel_rfl) rfl ⟨Br.mk' rfl trivial ?_, trivial⟩
              refine SR.store (o := 0) (vs := [str (((appN l r).1).Durable), str (((appN l r).1).Pending), .int .i64 (((appN l r).1).Count)]) agg31.2 rfl rfl rfl rfl (hb53) (Nat.le_of_ble_eq_true rfl) rfl ?_
              intro w57 hk58 hs59 hb60
              have hz61 := hk58.size
              have hB62 := hB55.new hk58 (by omega)
              have hS63 := (hS56).new hk58 (by omega)
              refine SR.nil ⟨hS63, _, rfl, ?_⟩
              refine AH.take 10 rfl (by kernel_rfl) trivial (hS63) (fun w' hw' => r_as (v := .int .i64 _) rfl) <| AH.done (by kernel_rfl) ?_
              exact ⟨g48, ⟨rfl, rfl, rfl, rfl, rfl, trivial⟩, hS63, (hb60), ⟨by omega, (hb60).lt⟩⟩
            · refine SR.alloc (l := [str ([] : List UInt8), str ([] : List UInt8), .int .i64 0]) tz31 rfl ?_
              intro g66 w67 hg68 hk69 hs70 hb71
              have hz72 := hk69.size
              have hB73 := hB41.lo hk69
              have hS74 := (hS42).lo hk69
              refine SR.nil ⟨hS74, _, rfl, ?_⟩
              refine AH.br [4] (by kernel_rfl) rfl ⟨Br.mk' rfl trivial ?_, trivial⟩
              refine SR.call ent28 (c_spec_AppendRecord w67 l r (by omega) (by omega)) rfl ?_
              rintro e w75 ⟨rfl, hk76⟩
              refine ⟨_, rfl, ?_⟩
              have hz77 := hk76.size
              have hB78 := hB73.lo hk76
              have hS79 := (hS74).lo hk76
              refine SR.nil ⟨hS79, _, rfl, ?_⟩
              refine AH.take 5 rfl (by kernel_rfl) trivial (hS79) (fun w' hw' => r_mv (v := .tuple (List.toArray _)) rfl) <| AH.take 6 rfl (by kernel_rfl) trivial (hS79) (fun w' hw' => r_ext (v := .agg (List.toArray _)) rfl rfl) <| AH.take 7 rfl (by kernel_rfl) trivial (hS79) (fun w' hw' => r_ext (v := .int .i64 _) rfl rfl) <| AH.br [9] (by kernel_rfl) rfl ⟨Br.mk' rfl trivial ?_, trivial⟩
              refine SR.store (o := 0) (vs := [str (((appN l r).1).Durable), str (((appN l r).1).Pending), .int .i64 (((appN l r).1).Count)]) agg31.2 rfl rfl rfl rfl ((hb71).lo hk76) (Nat.le_of_ble_eq_true rfl) rfl ?_
              intro w80 hk81 hs82 hb83
              have hz84 := hk81.size
              have hB85 := hB78.new hk81 (by omega)
              have hS86 := (hS79).new hk81 (by omega)
              refine SR.nil ⟨hS86, _, rfl, ?_⟩
              refine AH.take 10 rfl (by kernel_rfl) trivial (hS86) (fun w' hw' => r_as (v := .int .i64 _) rfl) <| AH.done (by kernel_rfl) ?_
              exact ⟨g66, ⟨rfl, rfl, rfl, rfl, rfl, trivial⟩, hS86, (hb83), ⟨by omega, (hb83).lt⟩⟩
          · refine SR.alloc (l := [str ([] : List UInt8), str ([] : List UInt8), .int .i64 0]) tz31 rfl ?_
            intro g88 w89 hg90 hk91 hs92 hb93
            have hz94 := hk91.size
            have hB95 := hB36.lo hk91
            have hS96 := (hS37).lo hk91
            refine SR.nil ⟨hS96, _, rfl, ?_⟩
            refine AH.br [3] (by kernel_rfl) rfl ⟨Br.mk' rfl trivial ?_, trivial⟩
            refine SR.call ent15 (c_laws_toLogRecord w89 r) rfl ?_
            rintro e w97 ⟨rfl, hk98⟩
            refine ⟨_, rfl, ?_⟩
            have hz99 := hk98.size
            have hB100 := hB95.lo hk98
            have hS101 := (hS96).lo hk98
            refine SR.nil ⟨hS101, _, rfl, ?_⟩
            refine AH.br [4] (by kernel_rfl) rfl ⟨Br.mk' rfl trivial ?_, trivial⟩
            refine SR.call ent28 (c_spec_AppendRecord w97 l r (by omega) (by omega)) rfl ?_
            rintro e w102 ⟨rfl, hk103⟩
            refine ⟨_, rfl, ?_⟩
            have hz104 := hk103.size
            have hB105 := hB100.lo hk103
            have hS106 := (hS101).lo hk103
            refine SR.nil ⟨hS106, _, rfl, ?_⟩
            refine AH.take 5 rfl (by kernel_rfl) trivial (hS106) (fun w' hw' => r_mv (v := .tuple (List.toArray _)) rfl) <| AH.take 6 rfl (by kernel_rfl) trivial (hS106) (fun w' hw' => r_ext (v := .agg (List.toArray _)) rfl rfl) <| AH.take 7 rfl (by kernel_rfl) trivial (hS106) (fun w' hw' => r_ext (v := .int .i64 _) rfl rfl) <| AH.br [9] (by kernel_rfl) rfl ⟨Br.mk' rfl trivial ?_, trivial⟩
            refine SR.store (o := 0) (vs := [str (((appN l r).1).Durable), str (((appN l r).1).Pending), .int .i64 (((appN l r).1).Count)]) agg31.2 rfl rfl rfl rfl (((hb93).lo hk98).lo hk103) (Nat.le_of_ble_eq_true rfl) rfl ?_
            intro w107 hk108 hs109 hb110
            have hz111 := hk108.size
            have hB112 := hB105.new hk108 (by omega)
            have hS113 := (hS106).new hk108 (by omega)
            refine SR.nil ⟨hS113, _, rfl, ?_⟩
            refine AH.take 10 rfl (by kernel_rfl) trivial (hS113) (fun w' hw' => r_as (v := .int .i64 _) rfl) <| AH.done (by kernel_rfl) ?_
            exact ⟨g88, ⟨rfl, rfl, rfl, rfl, rfl, trivial⟩, hS113, (hb110), ⟨by omega, (hb110).lt⟩⟩
        · refine SR.alloc (l := [str ([] : List UInt8), str ([] : List UInt8), .int .i64 0]) tz31 rfl ?_
          intro g115 w116 hg117 hk118 hs119 hb120
          have hz121 := hk118.size
          have hB122 := hB32.lo hk118
          have hS123 := (hk30).lo hk118
          refine SR.nil ⟨hS123, _, rfl, ?_⟩
          refine AH.br [1] (by kernel_rfl) rfl ⟨Br.mk' rfl trivial ?_, trivial⟩
          refine SR.call ent22 (c_laws_toLog w116 l) rfl ?_
          rintro e w124 ⟨rfl, hk125⟩
          refine ⟨_, rfl, ?_⟩
          have hz126 := hk125.size
          have hB127 := hB122.lo hk125
          have hS128 := (hS123).lo hk125
          refine SR.nil ⟨hS128, _, rfl, ?_⟩
          refine AH.br [3] (by kernel_rfl) rfl ⟨Br.mk' rfl trivial ?_, trivial⟩
          refine SR.call ent15 (c_laws_toLogRecord w124 r) rfl ?_
          rintro e w129 ⟨rfl, hk130⟩
          refine ⟨_, rfl, ?_⟩
          have hz131 := hk130.size
          have hB132 := hB127.lo hk130
          have hS133 := (hS128).lo hk130
          refine SR.nil ⟨hS133, _, rfl, ?_⟩
          refine AH.br [4] (by kernel_rfl) rfl ⟨Br.mk' rfl trivial ?_, trivial⟩
          refine SR.call ent28 (c_spec_AppendRecord w129 l r (by omega) (by omega)) rfl ?_
          rintro e w134 ⟨rfl, hk135⟩
          refine ⟨_, rfl, ?_⟩
          have hz136 := hk135.size
          have hB137 := hB132.lo hk135
          have hS138 := (hS133).lo hk135
          refine SR.nil ⟨hS138, _, rfl, ?_⟩
          refine AH.take 5 rfl (by kernel_rfl) trivial (hS138) (fun w' hw' => r_mv (v := .tuple (List.toArray _)) rfl) <| AH.take 6 rfl (by kernel_rfl) trivial (hS138) (fun w' hw' => r_ext (v := .agg (List.toArray _)) rfl rfl) <| AH.take 7 rfl (by kernel_rfl) trivial (hS138) (fun w' hw' => r_ext (v := .int .i64 _) rfl rfl) <| AH.br [9] (by kernel_rfl) rfl ⟨Br.mk' rfl trivial ?_, trivial⟩
          refine SR.store (o := 0) (vs := [str (((appN l r).1).Durable), str (((appN l r).1).Pending), .int .i64 (((appN l r).1).Count)]) agg31.2 rfl rfl rfl rfl ((((hb120).lo hk125).lo hk130).lo hk135) (Nat.le_of_ble_eq_true rfl) rfl ?_
          intro w139 hk140 hs141 hb142
          have hz143 := hk140.size
          have hB144 := hB137.new hk140 (by omega)
          have hS145 := (hS138).new hk140 (by omega)
          refine SR.nil ⟨hS145, _, rfl, ?_⟩
          refine AH.take 10 rfl (by kernel_rfl) trivial (hS145) (fun w' hw' => r_as (v := .int .i64 _) rfl) <| AH.done (by kernel_rfl) ?_
          exact ⟨g115, ⟨rfl, rfl, rfl, rfl, rfl, trivial⟩, hS145, (hb142), ⟨by omega, (hb142).lt⟩⟩
      rintro f147 w148 ⟨g48, hat150, hR149, hm64, hg65⟩
      rw [← sets_of_at hat150]
      have hz151 := hR149.size
      have hB152 := hB26.lo hR149
      refine W.seq ?_
      refine W.regA (Lo w148) (fun f' w' => ∃ (g172 : Nat), At f' [(4, .bool false), (6, .pointer (some ((⟨g48, 0, none⟩ : Addr)))), (7, .int .i64 ((appN l r).2)), (8, .pointer (some ((⟨g172, 0, none⟩ : Addr)))), (9, .int .i64 ((appN l r).2))] ∧ (Lo w148 w') ∧ (Blk w' g172 31 [str (((appN l r).1).Durable), str (((appN l r).1).Pending), .int .i64 (((appN l r).1).Count)]) ∧ (w148.heap.size ≤ g172 ∧ g172 < w'.heap.size)) mo ?_ ?_
      · intro w153 hk154
        have hz155 := hk154.size
        have hB156 := hB152.lo hk154
        refine AH.take 0 rfl (by kernel_rfl) trivial (hk154) (fun w' hw' => r_lda (l := [str l.Durable, str l.Pending, .int .i64 l.Count]) agg36 rfl (fun _ _ hu => ((((((hb6).lo hk12).lo hk18).lo hk24).lo hR149).lo hw').cell hu) rfl) <| AH.take 2 rfl (by kernel_rfl) trivial (hk154) (fun w' hw' => r_lda (l := [str r.Command, str r.Reply]) agg23 rfl (fun _ _ hu => (((((hb14).lo hk18).lo hk24).lo hR149).lo hw').cell hu) rfl) <| AH.br [1, 8] (by kernel_rfl) rfl ⟨Br.mk' rfl trivial ?_, Br.mk' rfl trivial ?_, trivial⟩
        · refine SR.call ent22 (c_laws_toLog w153 l) rfl ?_
          rintro e w157 ⟨rfl, hk158⟩
          refine ⟨_, rfl, ?_⟩
          have hz159 := hk158.size
          have hB160 := hB156.lo hk158
          have hS161 := (hk154).lo hk158
          refine SR.nil ⟨hS161, _, rfl, ?_⟩
          refine AH.br [3, 8] (by kernel_rfl) rfl ⟨Br.mk' rfl trivial ?_, Br.mk' rfl trivial ?_, trivial⟩
          · refine SR.call ent15 (c_laws_toLogRecord w157 r) rfl ?_
            rintro e w162 ⟨rfl, hk163⟩
            refine ⟨_, rfl, ?_⟩
            have hz164 := hk163.size
            have hB165 := hB160.lo hk163
            have hS166 := (hS161).lo hk163
            refine SR.nil ⟨hS166, _, rfl, ?_⟩
            refine AH.br [4, 8] (by kernel_rfl) rfl ⟨Br.mk' rfl trivial ?_, Br.mk' rfl trivial ?_, trivial⟩
            · refine SR.call ent29 (c_impl_AppendRecord w162 l r (by omega) (hE.lo (hB165))) rfl ?_
              rintro e w167 ⟨rfl, hk168⟩
              refine ⟨_, rfl, ?_⟩
              have hz169 := hk168.size
              have hB170 := hB165.lo hk168
              have hS171 := (hS166).lo hk168
              refine SR.nil ⟨hS171, _, rfl, ?_⟩
              refine AH.take 5 rfl (by kernel_rfl) trivial (hS171) (fun w' hw' => r_mv (v := .tuple (List.toArray _)) rfl) <| AH.take 6 rfl (by kernel_rfl) trivial (hS171) (fun w' hw' => r_ext (v := .agg (List.toArray _)) rfl rfl) <| AH.take 7 rfl (by kernel_rfl) trivial (hS171) (fun w' hw' => r_ext (v := .int .i64 _) rfl rfl) <| AH.br [8] (by kernel_rfl) rfl ⟨Br.mk' rfl trivial ?_, trivial⟩
              refine SR.alloc (l := [str ([] : List UInt8), str ([] : List UInt8), .int .i64 0]) tz31 rfl ?_
              intro g172 w173 hg174 hk175 hs176 hb177
              have hz178 := hk175.size
              have hB179 := hB170.lo hk175
              have hS180 := (hS171).lo hk175
              refine SR.nil ⟨hS180, _, rfl, ?_⟩
              refine AH.br [9] (by kernel_rfl) rfl ⟨Br.mk' rfl trivial ?_, trivial⟩
              refine SR.store (o := 0) (vs := [str (((appN l r).1).Durable), str (((appN l r).1).Pending), .int .i64 (((appN l r).1).Count)]) agg31.2 rfl rfl rfl rfl (hb177) (Nat.le_of_ble_eq_true rfl) rfl ?_
              intro w181 hk182 hs183 hb184
              have hz185 := hk182.size
              have hB186 := hB179.new hk182 (by omega)
              have hS187 := (hS180).new hk182 (by omega)
              refine SR.nil ⟨hS187, _, rfl, ?_⟩
              refine AH.take 10 rfl (by kernel_rfl) trivial (hS187) (fun w' hw' => r_as (v := .int .i64 _) rfl) <| AH.done (by kernel_rfl) ?_
              exact ⟨g172, ⟨rfl, rfl, rfl, rfl, rfl, trivial⟩, hS187, (hb184), ⟨by omega, (hb184).lt⟩⟩
            · refine SR.alloc (l := [str ([] : List UInt8), str ([] : List UInt8), .int .i64 0]) tz31 rfl ?_
              intro g190 w191 hg192 hk193 hs194 hb195
              have hz196 := hk193.size
              have hB197 := hB165.lo hk193
              have hS198 := (hS166).lo hk193
              refine SR.nil ⟨hS198, _, rfl, ?_⟩
              refine AH.br [4] (by kernel_rfl) rfl ⟨Br.mk' rfl trivial ?_, trivial⟩
              refine SR.call ent29 (c_impl_AppendRecord w191 l r (by omega) (hE.lo (hB197))) rfl ?_
              rintro e w199 ⟨rfl, hk200⟩
              refine ⟨_, rfl, ?_⟩
              have hz201 := hk200.size
              have hB202 := hB197.lo hk200
              have hS203 := (hS198).lo hk200
              refine SR.nil ⟨hS203, _, rfl, ?_⟩
              refine AH.take 5 rfl (by kernel_rfl) trivial (hS203) (fun w' hw' => r_mv (v := .tuple (List.toArray _)) rfl) <| AH.take 6 rfl (by kernel_rfl) trivial (hS203) (fun w' hw' => r_ext (v := .agg (List.toArray _)) rfl rfl) <| AH.take 7 rfl (by kernel_rfl) trivial (hS203) (fun w' hw' => r_ext (v := .int .i64 _) rfl rfl) <| AH.br [9] (by kernel_rfl) rfl ⟨Br.mk' rfl trivial ?_, trivial⟩
              refine SR.store (o := 0) (vs := [str (((appN l r).1).Durable), str (((appN l r).1).Pending), .int .i64 (((appN l r).1).Count)]) agg31.2 rfl rfl rfl rfl ((hb195).lo hk200) (Nat.le_of_ble_eq_true rfl) rfl ?_
              intro w204 hk205 hs206 hb207
              have hz208 := hk205.size
              have hB209 := hB202.new hk205 (by omega)
              have hS210 := (hS203).new hk205 (by omega)
              refine SR.nil ⟨hS210, _, rfl, ?_⟩
              refine AH.take 10 rfl (by kernel_rfl) trivial (hS210) (fun w' hw' => r_as (v := .int .i64 _) rfl) <| AH.done (by kernel_rfl) ?_
              exact ⟨g190, ⟨rfl, rfl, rfl, rfl, rfl, trivial⟩, hS210, (hb207), ⟨by omega, (hb207).lt⟩⟩
          · refine SR.alloc (l := [str ([] : List UInt8), str ([] : List UInt8), .int .i64 0]) tz31 rfl ?_
            intro g212 w213 hg214 hk215 hs216 hb217
            have hz218 := hk215.size
            have hB219 := hB160.lo hk215
            have hS220 := (hS161).lo hk215
            refine SR.nil ⟨hS220, _, rfl, ?_⟩
            refine AH.br [3] (by kernel_rfl) rfl ⟨Br.mk' rfl trivial ?_, trivial⟩
            refine SR.call ent15 (c_laws_toLogRecord w213 r) rfl ?_
            rintro e w221 ⟨rfl, hk222⟩
            refine ⟨_, rfl, ?_⟩
            have hz223 := hk222.size
            have hB224 := hB219.lo hk222
            have hS225 := (hS220).lo hk222
            refine SR.nil ⟨hS225, _, rfl, ?_⟩
            refine AH.br [4] (by kernel_rfl) rfl ⟨Br.mk' rfl trivial ?_, trivial⟩
            refine SR.call ent29 (c_impl_AppendRecord w221 l r (by omega) (hE.lo (hB224))) rfl ?_
            rintro e w226 ⟨rfl, hk227⟩
            refine ⟨_, rfl, ?_⟩
            have hz228 := hk227.size
            have hB229 := hB224.lo hk227
            have hS230 := (hS225).lo hk227
            refine SR.nil ⟨hS230, _, rfl, ?_⟩
            refine AH.take 5 rfl (by kernel_rfl) trivial (hS230) (fun w' hw' => r_mv (v := .tuple (List.toArray _)) rfl) <| AH.take 6 rfl (by kernel_rfl) trivial (hS230) (fun w' hw' => r_ext (v := .agg (List.toArray _)) rfl rfl) <| AH.take 7 rfl (by kernel_rfl) trivial (hS230) (fun w' hw' => r_ext (v := .int .i64 _) rfl rfl) <| AH.br [9] (by kernel_rfl) rfl ⟨Br.mk' rfl trivial ?_, trivial⟩
            refine SR.store (o := 0) (vs := [str (((appN l r).1).Durable), str (((appN l r).1).Pending), .int .i64 (((appN l r).1).Count)]) agg31.2 rfl rfl rfl rfl (((hb217).lo hk222).lo hk227) (Nat.le_of_ble_eq_true rfl) rfl ?_
            intro w231 hk232 hs233 hb234
            have hz235 := hk232.size
            have hB236 := hB229.new hk232 (by omega)
            have hS237 := (hS230).new hk232 (by omega)
            refine SR.nil ⟨hS237, _, rfl, ?_⟩
            refine AH.take 10 rfl (by kernel_rfl) trivial (hS237) (fun w' hw' => r_as (v := .int .i64 _) rfl) <| AH.done (by kernel_rfl) ?_
            exact ⟨g212, ⟨rfl, rfl, rfl, rfl, rfl, trivial⟩, hS237, (hb234), ⟨by omega, (hb234).lt⟩⟩
        · refine SR.alloc (l := [str ([] : List UInt8), str ([] : List UInt8), .int .i64 0]) tz31 rfl ?_
          intro g239 w240 hg241 hk242 hs243 hb244
          have hz245 := hk242.size
          have hB246 := hB156.lo hk242
          have hS247 := (hk154).lo hk242
          refine SR.nil ⟨hS247, _, rfl, ?_⟩
          refine AH.br [1] (by kernel_rfl) rfl ⟨Br.mk' rfl trivial ?_, trivial⟩
          refine SR.call ent22 (c_laws_toLog w240 l) rfl ?_
          rintro e w248 ⟨rfl, hk249⟩
          refine ⟨_, rfl, ?_⟩
          have hz250 := hk249.size
          have hB251 := hB246.lo hk249
          have hS252 := (hS247).lo hk249
          refine SR.nil ⟨hS252, _, rfl, ?_⟩
          refine AH.br [3] (by kernel_rfl) rfl ⟨Br.mk' rfl trivial ?_, trivial⟩
          refine SR.call ent15 (c_laws_toLogRecord w248 r) rfl ?_
          rintro e w253 ⟨rfl, hk254⟩
          refine ⟨_, rfl, ?_⟩
          have hz255 := hk254.size
          have hB256 := hB251.lo hk254
          have hS257 := (hS252).lo hk254
          refine SR.nil ⟨hS257, _, rfl, ?_⟩
          refine AH.br [4] (by kernel_rfl) rfl ⟨Br.mk' rfl trivial ?_, trivial⟩
          refine SR.call ent29 (c_impl_AppendRecord w253 l r (by omega) (hE.lo (hB256))) rfl ?_
          rintro e w258 ⟨rfl, hk259⟩
          refine ⟨_, rfl, ?_⟩
          have hz260 := hk259.size
          have hB261 := hB256.lo hk259
          have hS262 := (hS257).lo hk259
          refine SR.nil ⟨hS262, _, rfl, ?_⟩
          refine AH.take 5 rfl (by kernel_rfl) trivial (hS262) (fun w' hw' => r_mv (v := .tuple (List.toArray _)) rfl) <| AH.take 6 rfl (by kernel_rfl) trivial (hS262) (fun w' hw' => r_ext (v := .agg (List.toArray _)) rfl rfl) <| AH.take 7 rfl (by kernel_rfl) trivial (hS262) (fun w' hw' => r_ext (v := .int .i64 _) rfl rfl) <| AH.br [9] (by kernel_rfl) rfl ⟨Br.mk' rfl trivial ?_, trivial⟩
          refine SR.store (o := 0) (vs := [str (((appN l r).1).Durable), str (((appN l r).1).Pending), .int .i64 (((appN l r).1).Count)]) agg31.2 rfl rfl rfl rfl ((((hb244).lo hk249).lo hk254).lo hk259) (Nat.le_of_ble_eq_true rfl) rfl ?_
          intro w263 hk264 hs265 hb266
          have hz267 := hk264.size
          have hB268 := hB261.new hk264 (by omega)
          have hS269 := (hS262).new hk264 (by omega)
          refine SR.nil ⟨hS269, _, rfl, ?_⟩
          refine AH.take 10 rfl (by kernel_rfl) trivial (hS269) (fun w' hw' => r_as (v := .int .i64 _) rfl) <| AH.done (by kernel_rfl) ?_
          exact ⟨g239, ⟨rfl, rfl, rfl, rfl, rfl, trivial⟩, hS269, (hb266), ⟨by omega, (hb266).lt⟩⟩
      rintro f271 w272 ⟨g172, hat274, hR273, hm188, hg189⟩
      rw [← sets_of_at hat274]
      have hz275 := hR273.size
      have hB276 := hB152.lo hR273
      refine W.seq ?_
      refine W.seq ?_
      refine W.regJS (fun f' w' => At f' [(4, .bool false), (44, .bool (decide (¬ (((appN l r).1) = ((appN l r).1)))))] ∧ Lo w272 w') ?_ ?_
      · refine SR.q' (r_lda (l := [str (((appN l r).1).Durable), str (((appN l r).1).Pending), .int .i64 (((appN l r).1).Count)]) agg31 rfl (fun _ _ hu => (hm188).cell hu) rfl) <| SR.q' (r_lda (l := [str (((appN l r).1).Durable), str (((appN l r).1).Pending), .int .i64 (((appN l r).1).Count)]) agg31 rfl (fun _ _ hu => ((hm64).lo hR273).cell hu) rfl) <| SR.call ent19 (c_laws_eqLog w272 ((appN l r).1) ((appN l r).1)) rfl ?_
        rintro e w277 ⟨rfl, hk278⟩
        refine ⟨_, rfl, ?_⟩
        have hz279 := hk278.size
        have hB280 := hB276.lo hk278
        refine SR.q' (r_not rfl) <| SR.q' (r_mv (v := .bool _) rfl) <| SR.splitN (fun h281 => ?_) (fun h281 => ?_)
        · refine SR.s' rfl <| SR.s' rfl <| SR.s' rfl <| SR.q' (r_pick true rfl (v := .bool true) rfl) <| SR.nil ?_
          exact ⟨_, rfl, ⟨⟨rfl, (eDT ((j2f h281).1 trivial)), trivial⟩, (hk278)⟩⟩
        · refine SR.g' rfl (r_mv (v := .int .i64 _) rfl) <| SR.g' rfl (r_mv (v := .int .i64 _) rfl) <| SR.g' rfl (r_ne_s rfl rfl) <| SR.q' (r_pick false rfl (v := .bool _) rfl) <| SR.nil ?_
          exact ⟨_, rfl, ⟨⟨rfl, (eDF (j2t h281).2), trivial⟩, (hk278)⟩⟩
      rintro f282 w283 ⟨hat284, hk285⟩
      rw [← sets_of_at hat284]
      have hz286 := hk285.size
      have hB287 := hB276.lo hk285
      refine W.cond_d rfl (fun h288 => ?_) (fun h288 => ?_)
      · have hq289 : ¬ (((appN l r).1) = ((appN l r).1)) := h288
        refine W.seq ?_
        refine W.regS (SR.q' (r_as (v := .bool false) rfl) <| SR.nil ?_)
        refine W.ret ?_
        refine ret1 rfl (v := .bool _) rfl ?_
        exact ⟨eR (eB (z_c_laws_FnExactAppendRecord_290 l r hp0 hp1 h21 hq22 h27 hq28 h288 hq289)), hB287⟩
      · have hq291 : ((appN l r).1) = ((appN l r).1) := (Classical.not_not.1 h288)
        refine W.skip ?_
        refine W.seq ?_
        refine W.regS (SR.q' (r_as (v := .bool true) rfl) <| SR.nil ?_)
        refine W.ret ?_
        refine ret1 rfl (v := .bool _) rfl ?_
        exact ⟨eR rfl, hB287⟩

theorem z_c_laws_FnExactLogRecords_58 (l : Log) (hp0 : (l.Durable.length : Int) ≤ 9223372036854775807 ∧ (l.Pending.length : Int) ≤ 9223372036854775807) (h13 : ¬ ((szN (l.Durable.length + l.Pending.length) 1048576) < 0)) (hq14 : ((l.Durable.length + l.Pending.length : Nat) : Int) ≤ 1048576 ∧ szN (l.Durable.length + l.Pending.length) 1048576 = 1048576 - ((l.Durable.length + l.Pending.length : Nat) : Int)) (n22 : Nat) (hl27 : n22 = ((recsN l).1).length) (hl28 : (n22 : Int) ≤ 9223372036854775807) (hq29 : (recsN l).1.length ≤ 60) (n37 : Nat) (hl42 : n37 = ((recsN l).1).length) (hl43 : (n37 : Int) ≤ 9223372036854775807) (hq44 : (recsN l).1.length ≤ 60) (h56 : ¬ (((recsN l).1) = ((recsN l).1))) (hq57 : ¬ (((recsN l).1) = ((recsN l).1))) : false = true := by
  first | (simp_all; done) | omega | (simp at *; omega)
theorem z_c_laws_FnExactLogRecords_70 (l : Log) (hp0 : (l.Durable.length : Int) ≤ 9223372036854775807 ∧ (l.Pending.length : Int) ≤ 9223372036854775807) (h13 : ¬ ((szN (l.Durable.length + l.Pending.length) 1048576) < 0)) (hq14 : ((l.Durable.length + l.Pending.length : Nat) : Int) ≤ 1048576 ∧ szN (l.Durable.length + l.Pending.length) 1048576 = 1048576 - ((l.Durable.length + l.Pending.length : Nat) : Int)) (n22 : Nat) (hl27 : n22 = ((recsN l).1).length) (hl28 : (n22 : Int) ≤ 9223372036854775807) (hq29 : (recsN l).1.length ≤ 60) (n37 : Nat) (hl42 : n37 = ((recsN l).1).length) (hl43 : (n37 : Int) ≤ 9223372036854775807) (hq44 : (recsN l).1.length ≤ 60) (h56 : ¬ (¬ (((recsN l).1) = ((recsN l).1)))) (hq59 : ((recsN l).1) = ((recsN l).1)) (h69 : (1 + 2 * (((recsN l).1).length : Int)) < 0) : false = true := by
  first | (simp_all; done) | omega | (simp at *; omega)
theorem c_laws_FnExactLogRecords (w : World) (l : Log) (hp0 : (l.Durable.length : Int) ≤ 9223372036854775807 ∧ (l.Pending.length : Int) ≤ 9223372036854775807) (hE : EnvW w) : Calls Tryd.prog 9 #[.agg (List.toArray (encLog l))] w fun e w' => e = .returned (.bool true) ∧ Lo w w' := by
  refine calls_W 72 Tryd.func9 rfl rfl rfl ?_
  refine W.seq ?_
  refine W.regS (SR.box (v := .agg (List.toArray _)) (l := [str l.Durable, str l.Pending, .int .i64 l.Count]) rfl rfl ?_)
  intro g1 w2 hg3 hk4 hs5 hb6
  have hz7 := hk4.size
  have hB8 := (Lo.refl w).lo hk4
  refine SR.q' (r_as (v := .bool false) rfl) <| SR.nil ?_
  refine W.seq ?_
  refine W.regS (SR.q' (r_as (v := .int .i64 1048576) rfl) <| SR.nil ?_)
  refine W.seq ?_
  refine W.regS (SR.q' (r_lda (l := [str l.Durable, str l.Pending, .int .i64 l.Count]) agg36 rfl (fun _ _ hu => (hb6).cell hu) rfl) <| SR.q' (r_mv (v := .int .i64 _) rfl) <| SR.call ent20 (c_laws_szLog w2 l 1048576 (by omega) (by omega) (by omega) (by omega)) rfl ?_)
  rintro e w9 ⟨rfl, hk10⟩
  refine ⟨_, rfl, ?_⟩
  have hz11 := hk10.size
  have hB12 := hB8.lo hk10
  refine SR.q' (r_as (v := .int .i64 _) rfl) <| SR.nil ?_
  refine W.seq ?_
  refine W.seq ?_
  refine W.regS (SR.q' (r_mv (v := .int .i64 _) rfl) <| SR.q' (r_lt rfl rfl) <| SR.nil ?_)
  refine W.cond_d rfl (fun h13 => ?_) (fun h13 => ?_)
  · refine W.seq ?_
    refine W.regS (SR.q' (r_as (v := .bool true) rfl) <| SR.nil ?_)
    refine W.ret ?_
    refine ret1 rfl (v := .bool _) rfl ?_
    exact ⟨eR rfl, hB12⟩
  · have hq14 := szN_ok h13
    refine W.skip ?_
    refine W.seq ?_
    refine W.regS (SR.q' (r_lda (l := [str l.Durable, str l.Pending, .int .i64 l.Count]) agg36 rfl (fun _ _ hu => ((hb6).lo hk10).cell hu) rfl) <| SR.call ent22 (c_laws_toLog w9 l) rfl ?_)
    rintro e w15 ⟨rfl, hk16⟩
    refine ⟨_, rfl, ?_⟩
    have hz17 := hk16.size
    have hB18 := hB12.lo hk16
    refine SR.call ent30 (c_spec_LogRecords w15 l (by omega)) rfl ?_
    rintro e w19 ⟨A21, n22, c23, rfl, hO24, hk20⟩
    refine ⟨_, rfl, ?_⟩
    have hz25 := hk20.size
    have hB26 := hB18.lo hk20
    have hl27 := hO24.len
    have hl28 := hO24.rd.bound
    have hq29 := recs_len l
    refine SR.q' (r_mv (v := .tuple (List.toArray _)) rfl) <| SR.q' (r_ext (v := .slice _ _ _) rfl rfl) <| SR.q' (r_ext (v := .bool _) rfl rfl) <| SR.q' (r_as (v := .slice _ _ _) rfl) <| SR.q' (r_as (v := .bool _) rfl) <| SR.nil ?_
    refine W.seq ?_
    refine W.regS (SR.q' (r_lda (l := [str l.Durable, str l.Pending, .int .i64 l.Count]) agg36 rfl (fun _ _ hu => ((((hb6).lo hk10).lo hk16).lo hk20).cell hu) rfl) <| SR.call ent22 (c_laws_toLog w19 l) rfl ?_)
    rintro e w30 ⟨rfl, hk31⟩
    refine ⟨_, rfl, ?_⟩
    have hz32 := hk31.size
    have hB33 := hB26.lo hk31
    refine SR.call ent31 (c_impl_LogRecords w30 l (by omega) (hE.lo (hB33))) rfl ?_
    rintro e w34 ⟨A36, n37, c38, rfl, hO39, hk35⟩
    refine ⟨_, rfl, ?_⟩
    have hz40 := hk35.size
    have hB41 := hB33.lo hk35
    have hl42 := hO39.len
    have hl43 := hO39.rd.bound
    have hq44 := recs_len l
    refine SR.q' (r_mv (v := .tuple (List.toArray _)) rfl) <| SR.q' (r_ext (v := .slice _ _ _) rfl rfl) <| SR.q' (r_ext (v := .bool _) rfl rfl) <| SR.q' (r_as (v := .slice _ _ _) rfl) <| SR.q' (r_as (v := .bool _) rfl) <| SR.nil ?_
    refine W.seq ?_
    refine W.seq ?_
    refine W.regJS (fun f' w' => At f' [(1, .pointer (some ((⟨g1, 0, none⟩ : Addr)))), (2, .bool false), (4, .slice A21 n22 c23), (5, .bool ((recsN l).2)), (6, .slice A36 n37 c38), (37, .bool (decide (¬ (((recsN l).1) = ((recsN l).1)))))] ∧ Lo w34 w') ?_ ?_
    · refine SR.q' (r_mv (v := .slice _ _ _) rfl) <| SR.q' (r_mv (v := .slice _ _ _) rfl) <| SR.call ent32 (c_laws_eqLogRecordS w34 ((recsN l).1) (((hO39).rd)) ((recsN l).1) (((((hO24).lo hk31).lo hk35).rd))) rfl ?_
      rintro e w45 ⟨rfl, hk46⟩
      refine ⟨_, rfl, ?_⟩
      have hz47 := hk46.size
      have hB48 := hB41.lo hk46
      refine SR.q' (r_not rfl) <| SR.q' (r_mv (v := .bool _) rfl) <| SR.splitN (fun h49 => ?_) (fun h49 => ?_)
      · refine SR.s' rfl <| SR.s' rfl <| SR.s' rfl <| SR.q' (r_pick true rfl (v := .bool true) rfl) <| SR.nil ?_
        exact ⟨_, rfl, ⟨⟨rfl, rfl, rfl, rfl, rfl, (eDT ((j2f h49).1 trivial)), trivial⟩, (hk46)⟩⟩
      · refine SR.g' rfl (r_mv (v := .bool _) rfl) <| SR.g' rfl (r_mv (v := .bool _) rfl) <| SR.g' rfl (r_neb_s und4 rfl rfl) <| SR.q' (r_pick false rfl (v := .bool _) rfl) <| SR.nil ?_
        exact ⟨_, rfl, ⟨⟨rfl, rfl, rfl, rfl, rfl, (eDF (j2t h49).2), trivial⟩, (hk46)⟩⟩
    rintro f50 w51 ⟨hat52, hk53⟩
    rw [← sets_of_at hat52]
    have hz54 := hk53.size
    have hB55 := hB41.lo hk53
    refine W.cond_d rfl (fun h56 => ?_) (fun h56 => ?_)
    · have hq57 : ¬ (((recsN l).1) = ((recsN l).1)) := h56
      refine W.seq ?_
      refine W.regS (SR.q' (r_as (v := .bool false) rfl) <| SR.nil ?_)
      refine W.ret ?_
      refine ret1 rfl (v := .bool _) rfl ?_
      exact ⟨eR (eB (z_c_laws_FnExactLogRecords_58 l hp0 h13 hq14 n22 hl27 hl28 hq29 n37 hl42 hl43 hq44 h56 hq57)), hB55⟩
    · have hq59 : ((recsN l).1) = ((recsN l).1) := (Classical.not_not.1 h56)
      refine W.skip ?_
      refine W.seq ?_
      refine W.regS (SR.q' (r_as (v := .int .i64 1) rfl) <| SR.nil ?_)
      refine W.seq ?_
      refine W.regS (SR.q' (r_mv (v := .slice _ _ _) rfl) <| SR.q' (r_mv (v := .int .i64 _) rfl) <| SR.call ent33 (c_laws_markLogRecordS w51 ((recsN l).1) ((hO39).lo hk53) 1 (by omega) (by omega) (by omega)) rfl ?_)
      rintro e w60 ⟨rfl, hO62, hk61⟩
      refine ⟨_, rfl, ?_⟩
      have hz63 := hk61.size
      have hB64 := hB55.step hk61 (fun i_ hi_ e' => by have := (((hO39).lo hk53)).base_le e'; first | omega | (exfalso; omega) | exact e' | exact .inl e' | exact .inr e')
      refine SR.q' (r_as (v := .int .i64 _) rfl) <| SR.nil ?_
      refine W.seq ?_
      refine W.regS (SR.q' (r_as (v := .int .i64 1) rfl) <| SR.nil ?_)
      refine W.seq ?_
      refine W.regS (SR.q' (r_mv (v := .slice _ _ _) rfl) <| SR.q' (r_mv (v := .int .i64 _) rfl) <| SR.call ent34 (c_laws_heldLogRecordS w60 (mkL mkLogRecord 2 ((recsN l).1).length 1) (((hO62).rd)) 1 (((recsN l).1).length) (by omega) (by omega) (by omega) (by first | rfl | assumption)) rfl ?_)
      rintro e w65 ⟨rfl, hk66⟩
      refine ⟨_, rfl, ?_⟩
      have hz67 := hk66.size
      have hB68 := hB64.lo hk66
      refine SR.q' (r_as (v := .int .i64 _) rfl) <| SR.nil ?_
      refine W.seq ?_
      refine W.seq ?_
      refine W.regS (SR.q' (r_mv (v := .int .i64 _) rfl) <| SR.q' (r_lt rfl rfl) <| SR.nil ?_)
      refine W.cond_d rfl (fun h69 => ?_) (fun h69 => ?_)
      · refine W.seq ?_
        refine W.regS (SR.q' (r_as (v := .bool false) rfl) <| SR.nil ?_)
        refine W.ret ?_
        refine ret1 rfl (v := .bool _) rfl ?_
        exact ⟨eR (eB (z_c_laws_FnExactLogRecords_70 l hp0 h13 hq14 n22 hl27 hl28 hq29 n37 hl42 hl43 hq44 h56 hq59 h69)), hB68⟩
      · refine W.skip ?_
        refine W.seq ?_
        refine W.seq ?_
        refine W.regS (SR.q' (r_mv (v := .int .i64 _) rfl) <| SR.q' (r_mv (v := .int .i64 _) rfl) <| SR.q' (r_ne_s rfl rfl) <| SR.nil ?_)
        refine W.cond_f rfl ?_
        refine W.skip ?_
        refine W.seq ?_
        refine W.regS (SR.q' (r_lda (l := [str l.Durable, str l.Pending, .int .i64 l.Count]) agg36 rfl (fun _ _ hu => (((((((((hb6).lo hk10).lo hk16).lo hk20).lo hk31).lo hk35).lo hk53).kp hk61 (fun e' => by have := (((hO39).lo hk53)).base_le e'; omega)).lo hk66).cell hu) rfl) <| SR.call ent22 (c_laws_toLog w65 l) rfl ?_)
        rintro e w71 ⟨rfl, hk72⟩
        refine ⟨_, rfl, ?_⟩
        have hz73 := hk72.size
        have hB74 := hB68.lo hk72
        refine SR.call ent31 (c_impl_LogRecords w71 l (by omega) (hE.lo (hB74))) rfl ?_
        rintro e w75 ⟨A77, n78, c79, rfl, hO80, hk76⟩
        refine ⟨_, rfl, ?_⟩
        have hz81 := hk76.size
        have hB82 := hB74.lo hk76
        have hl83 := hO80.len
        have hl84 := hO80.rd.bound
        have hq85 := recs_len l
        refine SR.q' (r_mv (v := .tuple (List.toArray _)) rfl) <| SR.q' (r_ext (v := .slice _ _ _) rfl rfl) <| SR.q' (r_ext (v := .bool _) rfl rfl) <| SR.q' (r_as (v := .slice _ _ _) rfl) <| SR.q' (r_as (v := .bool _) rfl) <| SR.nil ?_
        refine W.seq ?_
        refine W.seq ?_
        refine W.regJS (fun f' w' => At f' [(2, .bool false), (6, .slice A36 n37 c38), (8, .int .i64 (1 + 2 * (((recsN l).1).length : Int))), (9, .int .i64 (1 + 2 * (((recsN l).1).length : Int))), (63, .bool (decide (¬ (((recsN l).1) = ((recsN l).1)))))] ∧ Lo w75 w') ?_ ?_
        · refine SR.q' (r_mv (v := .slice _ _ _) rfl) <| SR.q' (r_mv (v := .slice _ _ _) rfl) <| SR.call ent32 (c_laws_eqLogRecordS w75 ((recsN l).1) (((hO80).rd)) ((recsN l).1) ((((((((((hO24).lo hk31).lo hk35).lo hk53).kp hk61 (fun b_ hb e' => by have h1 := (((hO39).lo hk53)).base_le e'; have h2 := ((((hO24).lo hk31).lo hk35).lo hk53).base_le hb; have h3 := ((hO24).lo hk31).base_le hb; omega)).lo hk66).lo hk72).lo hk76).rd))) rfl ?_
          rintro e w86 ⟨rfl, hk87⟩
          refine ⟨_, rfl, ?_⟩
          have hz88 := hk87.size
          have hB89 := hB82.lo hk87
          refine SR.q' (r_not rfl) <| SR.q' (r_mv (v := .bool _) rfl) <| SR.splitN (fun h90 => ?_) (fun h90 => ?_)
          · refine SR.s' rfl <| SR.s' rfl <| SR.s' rfl <| SR.q' (r_pick true rfl (v := .bool true) rfl) <| SR.nil ?_
            exact ⟨_, rfl, ⟨⟨rfl, rfl, rfl, rfl, (eDT ((j2f h90).1 trivial)), trivial⟩, (hk87)⟩⟩
          · refine SR.g' rfl (r_mv (v := .bool _) rfl) <| SR.g' rfl (r_mv (v := .bool _) rfl) <| SR.g' rfl (r_neb_s und4 rfl rfl) <| SR.q' (r_pick false rfl (v := .bool _) rfl) <| SR.nil ?_
            exact ⟨_, rfl, ⟨⟨rfl, rfl, rfl, rfl, (eDF (j2t h90).2), trivial⟩, (hk87)⟩⟩
        rintro f91 w92 ⟨hat93, hk94⟩
        rw [← sets_of_at hat93]
        have hz95 := hk94.size
        have hB96 := hB82.lo hk94
        refine W.cond_f (congrArg Value.bool (decide_eq_false h56)) ?_
        refine W.skip ?_
        refine W.seq ?_
        refine W.regS (SR.q' (r_as (v := .int .i64 1) rfl) <| SR.nil ?_)
        refine W.seq ?_
        refine W.regS (SR.q' (r_mv (v := .slice _ _ _) rfl) <| SR.q' (r_mv (v := .int .i64 _) rfl) <| SR.call ent34 (c_laws_heldLogRecordS w92 (mkL mkLogRecord 2 ((recsN l).1).length 1) (((((((hO62).lo hk66).lo hk72).lo hk76).lo hk94).rd)) 1 (((recsN l).1).length) (by omega) (by omega) (by omega) (by first | rfl | assumption)) rfl ?_)
        rintro e w97 ⟨rfl, hk98⟩
        refine ⟨_, rfl, ?_⟩
        have hz99 := hk98.size
        have hB100 := hB96.lo hk98
        refine SR.q' (r_as (v := .int .i64 _) rfl) <| SR.nil ?_
        refine W.seq ?_
        refine W.seq ?_
        refine W.regS (SR.q' (r_mv (v := .int .i64 _) rfl) <| SR.q' (r_lt rfl rfl) <| SR.nil ?_)
        refine W.cond_f (congrArg Value.bool (decide_eq_false h69)) ?_
        refine W.skip ?_
        refine W.seq ?_
        refine W.seq ?_
        refine W.regS (SR.q' (r_mv (v := .int .i64 _) rfl) <| SR.q' (r_mv (v := .int .i64 _) rfl) <| SR.q' (r_ne_s rfl rfl) <| SR.nil ?_)
        refine W.cond_f rfl ?_
        refine W.skip ?_
        refine W.seq ?_
        refine W.regS (SR.q' (r_as (v := .bool true) rfl) <| SR.nil ?_)
        refine W.ret ?_
        refine ret1 rfl (v := .bool _) rfl ?_
        exact ⟨eR rfl, hB100⟩
end Go.Proofs.YthlbmkpkgiabnaaDoor
