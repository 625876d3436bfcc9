/- Walks, printed by a program of this claim's author. -/
import Derived.Test.YthlbmkpkgiabnaaDoorChecked
import Derived.Test.YthlbmkpkgiabnaaDoorWb
import Derived.Test.YthlbmkpkgiabnaaDoorFt
import Derived.Test.YthlbmkpkgiabnaaDoorSi
import Derived.Test.YthlbmkpkgiabnaaDoorG33v
namespace Go.Proofs.YthlbmkpkgiabnaaDoor
open Go Go.RowKit Fw
set_option maxRecDepth 10000
set_option linter.unusedVariables false
theorem ent51 : Ent Tryd.prog 51 := ent_of Tryd.func51 (by decide +kernel) rfl
theorem ent52 : Ent Tryd.prog 52 := ent_of Tryd.func52 (by decide +kernel) rfl
theorem fa23_0 : FA Tryd.prog 23 0 0 := fun _ _ => by kernel_rfl
theorem fa23_1 : FA Tryd.prog 23 1 1 := fun _ _ => by kernel_rfl
theorem fa36_0 : FA Tryd.prog 36 0 0 := fun _ _ => by kernel_rfl
theorem fa36_1 : FA Tryd.prog 36 1 1 := fun _ _ => by kernel_rfl
theorem fa36_2 : FA Tryd.prog 36 2 2 := fun _ _ => by kernel_rfl
theorem tel53 : TEl Tryd.prog 53 5 (.int .u8 0) 1 1 := ⟨by kernel_rfl, by kernel_rfl, rfl, by decide⟩
theorem tsl48 : TSl Tryd.prog 48 27 2 := ⟨by kernel_rfl, fun _ => by kernel_rfl⟩

theorem z_c_laws_szLog_10 (r : Log) (left : Int) (hp0 : 0 ≤ left) (hp1 : left ≤ 1048576) (hp2 : (r.Durable.length : Int) ≤ 9223372036854775807) (hp3 : (r.Pending.length : Int) ≤ 9223372036854775807) (h9 : (left - (r.Durable.length : Int)) < 0) : (-1) = szN (r.Durable.length + r.Pending.length) left := by
  first | exact szN_neg ‹_› | exact szN_neg1 ‹_› | exact szN_neg2 ‹_› ‹_› | exact szN_add ‹_› ‹_› | (unfold szN at *; repeat (split at *)) <;> omega
theorem z_c_laws_szLog_12 (r : Log) (left : Int) (hp0 : 0 ≤ left) (hp1 : left ≤ 1048576) (hp2 : (r.Durable.length : Int) ≤ 9223372036854775807) (hp3 : (r.Pending.length : Int) ≤ 9223372036854775807) (h9 : ¬ ((left - (r.Durable.length : Int)) < 0)) (h11 : ((left - (r.Durable.length : Int)) - (r.Pending.length : Int)) < 0) : (-1) = szN (r.Durable.length + r.Pending.length) left := by
  first | exact szN_neg ‹_› | exact szN_neg1 ‹_› | exact szN_neg2 ‹_› ‹_› | exact szN_add ‹_› ‹_› | (unfold szN at *; repeat (split at *)) <;> omega
theorem z_c_laws_szLog_13 (r : Log) (left : Int) (hp0 : 0 ≤ left) (hp1 : left ≤ 1048576) (hp2 : (r.Durable.length : Int) ≤ 9223372036854775807) (hp3 : (r.Pending.length : Int) ≤ 9223372036854775807) (h9 : ¬ ((left - (r.Durable.length : Int)) < 0)) (h11 : ¬ (((left - (r.Durable.length : Int)) - (r.Pending.length : Int)) < 0)) : (left - (r.Durable.length : Int)) - (r.Pending.length : Int) = szN (r.Durable.length + r.Pending.length) left := by
  first | exact szN_neg ‹_› | exact szN_neg1 ‹_› | exact szN_neg2 ‹_› ‹_› | exact szN_add ‹_› ‹_› | (unfold szN at *; repeat (split at *)) <;> omega
theorem c_laws_szLog (w : World) (r : Log) (left : Int) (hp0 : 0 ≤ left) (hp1 : left ≤ 1048576) (hp2 : (r.Durable.length : Int) ≤ 9223372036854775807) (hp3 : (r.Pending.length : Int) ≤ 9223372036854775807) : Calls Tryd.prog 20 #[.agg (List.toArray (encLog r)), .int .i64 left] w fun e w' => e = .returned (.int .i64 (szN (r.Durable.length + r.Pending.length) left)) ∧ Lo w w' := by
  refine calls_W 20 Tryd.func20 rfl rfl rfl ?_
  refine W.seq ?_
  refine W.regS (SR.box (v := .agg (List.toArray _)) (l := [str r.Durable, str r.Pending, .int .i64 r.Count]) rfl rfl ?_)
  intro g1 w2 hg3 hk4 hs5 hb6
  have hz7 := hk4.size
  have hB8 := (Lo.refl w).lo hk4
  refine SR.q' (r_as (v := .int .i64 0) rfl) <| SR.nil ?_
  refine W.seq ?_
  refine W.regS (SR.q' (r_mv (v := .int .i64 _) rfl) <| SR.q' (r_fa fa36_0 rfl) <| SR.q' (r_ld (v := str r.Durable) sca9 rfl ((hb6).cell rfl)) <| SR.q' (r_len_s und9 rfl) <| SR.q' (r_sub rfl rfl (by omega)) <| SR.q' (r_as (v := .int .i64 _) rfl) <| SR.nil ?_)
  refine W.seq ?_
  refine W.seq ?_
  refine W.regS (SR.q' (r_mv (v := .int .i64 _) rfl) <| SR.q' (r_lt rfl rfl) <| SR.nil ?_)
  refine W.cond_d rfl (fun h9 => ?_) (fun h9 => ?_)
  · refine W.seq ?_
    refine W.regS (SR.q' (r_as (v := .int .i64 (-1)) rfl) <| SR.nil ?_)
    refine W.ret ?_
    refine ret1 rfl (v := .int .i64 _) rfl ?_
    exact ⟨eR (eI (z_c_laws_szLog_10 r left hp0 hp1 hp2 hp3 h9)), hB8⟩
  · refine W.skip ?_
    refine W.seq ?_
    refine W.regS (SR.q' (r_mv (v := .int .i64 _) rfl) <| SR.q' (r_fa fa36_1 rfl) <| SR.q' (r_ld (v := str r.Pending) sca9 rfl ((hb6).cell rfl)) <| SR.q' (r_len_s und9 rfl) <| SR.q' (r_sub rfl rfl (by omega)) <| SR.q' (r_as (v := .int .i64 _) rfl) <| SR.nil ?_)
    refine W.seq ?_
    refine W.seq ?_
    refine W.regS (SR.q' (r_mv (v := .int .i64 _) rfl) <| SR.q' (r_lt rfl rfl) <| SR.nil ?_)
    refine W.cond_d rfl (fun h11 => ?_) (fun h11 => ?_)
    · refine W.seq ?_
      refine W.regS (SR.q' (r_as (v := .int .i64 (-1)) rfl) <| SR.nil ?_)
      refine W.ret ?_
      refine ret1 rfl (v := .int .i64 _) rfl ?_
      exact ⟨eR (eI (z_c_laws_szLog_12 r left hp0 hp1 hp2 hp3 h9 h11)), hB8⟩
    · refine W.skip ?_
      refine W.seq ?_
      refine W.regS (SR.q' (r_mv (v := .int .i64 _) rfl) <| SR.q' (r_as (v := .int .i64 _) rfl) <| SR.nil ?_)
      refine W.ret ?_
      refine ret1 rfl (v := .int .i64 _) rfl ?_
      exact ⟨eR (eI (z_c_laws_szLog_13 r left hp0 hp1 hp2 hp3 h9 h11)), hB8⟩

theorem z_c_laws_toLog_49 (r : Log) : ([str r.Durable, str r.Pending, .int .i64 r.Count] : List Value) = encLog r := by
  first | rfl | (first | rfl | omega | grind)
theorem c_laws_toLog (w : World) (r : Log) : Calls Tryd.prog 22 #[.agg (List.toArray (encLog r))] w fun e w' => e = .returned (.agg (List.toArray (encLog r))) ∧ Lo w w' := by
  refine calls_W 14 Tryd.func22 rfl rfl rfl ?_
  refine W.seq ?_
  refine W.regS (SR.box (v := .agg (List.toArray _)) (l := [str r.Durable, str r.Pending, .int .i64 r.Count]) rfl rfl ?_)
  intro g1 w2 hg3 hk4 hs5 hb6
  have hz7 := hk4.size
  have hB8 := (Lo.refl w).lo hk4
  refine SR.alloc (l := [str ([] : List UInt8), str ([] : List UInt8), .int .i64 0]) tz31 rfl ?_
  intro g9 w10 hg11 hk12 hs13 hb14
  have hz15 := hk12.size
  have hB16 := hB8.lo hk12
  refine SR.nil ?_
  refine W.seq ?_
  refine W.regS (SR.alloc (l := [str ([] : List UInt8), str ([] : List UInt8), .int .i64 0]) tz31 rfl ?_)
  intro g17 w18 hg19 hk20 hs21 hb22
  have hz23 := hk20.size
  have hB24 := hB16.lo hk20
  refine SR.nil ?_
  refine W.seq ?_
  refine W.regS (SR.q' (r_fa fa36_0 rfl) <| SR.q' (r_ld (v := str r.Durable) sca9 rfl ((((hb6).lo hk12).lo hk20).cell rfl)) <| SR.q' (r_fa fa31_0 rfl) <| SR.store (o := 0) (vs := [str r.Durable]) sca9.2 rfl rfl rfl rfl (hb22) (Nat.le_of_ble_eq_true rfl) rfl ?_)
  intro w25 hk26 hs27 hb28
  have hz29 := hk26.size
  have hB30 := hB24.new hk26 (by omega)
  refine SR.nil ?_
  refine W.seq ?_
  refine W.regS (SR.q' (r_fa fa36_1 rfl) <| SR.q' (r_ld (v := str r.Pending) sca9 rfl (((((hb6).lo hk12).lo hk20).kp hk26 (fun e' => by have e'' : g1 = g17 := e'; omega)).cell rfl)) <| SR.q' (r_fa fa31_1 rfl) <| SR.store (o := 1) (vs := [str r.Pending]) sca9.2 rfl rfl rfl rfl (hb28) (Nat.le_of_ble_eq_true rfl) rfl ?_)
  intro w31 hk32 hs33 hb34
  have hz35 := hk32.size
  have hB36 := hB30.new hk32 (by omega)
  refine SR.nil ?_
  refine W.seq ?_
  refine W.regS (SR.q' (r_fa fa36_2 rfl) <| SR.q' (r_ld (v := .int .i64 r.Count) sca3 rfl ((((((hb6).lo hk12).lo hk20).kp hk26 (fun e' => by have e'' : g1 = g17 := e'; omega)).kp hk32 (fun e' => by have e'' : g1 = g17 := e'; omega)).cell rfl)) <| SR.q' (r_fa fa31_2 rfl) <| SR.store (o := 2) (vs := [.int .i64 r.Count]) sca3.2 rfl rfl rfl rfl (hb34) (Nat.le_of_ble_eq_true rfl) rfl ?_)
  intro w37 hk38 hs39 hb40
  have hz41 := hk38.size
  have hB42 := hB36.new hk38 (by omega)
  refine SR.nil ?_
  refine W.seq ?_
  refine W.regS (SR.q' (r_lda (l := [str r.Durable, str r.Pending, .int .i64 r.Count]) agg31 rfl (fun _ _ hu => (hb40).cell hu) rfl) <| SR.store (o := 0) (vs := [str r.Durable, str r.Pending, .int .i64 r.Count]) agg31.2 rfl rfl rfl rfl (((((hb14).lo hk20).kp hk26 (fun e' => by have e'' : g9 = g17 := e'; omega)).kp hk32 (fun e' => by have e'' : g9 = g17 := e'; omega)).kp hk38 (fun e' => by have e'' : g9 = g17 := e'; omega)) (Nat.le_of_ble_eq_true rfl) rfl ?_)
  intro w43 hk44 hs45 hb46
  have hz47 := hk44.size
  have hB48 := hB42.new hk44 (by omega)
  refine SR.nil ?_
  refine W.ret ?_
  refine retC rfl rfl agg31 (hb46) rfl ?_
  exact ⟨eR (eA (z_c_laws_toLog_49 r)), hB48⟩

theorem z_c_laws_eqLog_18 (a : Log) (b : Log) (h17 : ¬ (a.Durable = b.Durable)) : ¬ (a = b) := by
  cases a; cases b; simp_all
theorem z_c_laws_eqLog_20 (a : Log) (b : Log) (h17 : a.Durable = b.Durable) (h19 : ¬ (a.Pending = b.Pending)) : ¬ (a = b) := by
  cases a; cases b; simp_all
theorem z_c_laws_eqLog_22 (a : Log) (b : Log) (h17 : a.Durable = b.Durable) (h19 : a.Pending = b.Pending) (h21 : ¬ (a.Count = b.Count)) : ¬ (a = b) := by
  cases a; cases b; simp_all
theorem z_c_laws_eqLog_23 (a : Log) (b : Log) (h17 : a.Durable = b.Durable) (h19 : a.Pending = b.Pending) (h21 : a.Count = b.Count) : a = b := by
  cases a; cases b; simp_all
theorem c_laws_eqLog (w : World) (a : Log) (b : Log) : Calls Tryd.prog 19 #[.agg (List.toArray (encLog a)), .agg (List.toArray (encLog b))] w fun e w' => e = .returned (.bool (decide (a = b))) ∧ Lo w w' := by
  refine calls_W 20 Tryd.func19 rfl rfl rfl ?_
  refine W.seq ?_
  refine W.regS (SR.box (v := .agg (List.toArray _)) (l := [str a.Durable, str a.Pending, .int .i64 a.Count]) rfl rfl ?_)
  intro g1 w2 hg3 hk4 hs5 hb6
  have hz7 := hk4.size
  have hB8 := (Lo.refl w).lo hk4
  refine SR.box (v := .agg (List.toArray _)) (l := [str b.Durable, str b.Pending, .int .i64 b.Count]) rfl rfl ?_
  intro g9 w10 hg11 hk12 hs13 hb14
  have hz15 := hk12.size
  have hB16 := hB8.lo hk12
  refine SR.q' (r_as (v := .bool false) rfl) <| SR.nil ?_
  refine W.seq ?_
  refine W.seq ?_
  refine W.regS (SR.q' (r_fa fa31_0 rfl) <| SR.q' (r_ld (v := str a.Durable) sca9 rfl (((hb6).lo hk12).cell rfl)) <| SR.q' (r_fa fa31_0 rfl) <| SR.q' (r_ld (v := str b.Durable) sca9 rfl ((hb14).cell rfl)) <| SR.q' (r_nes (s := a.Durable) (r := b.Durable) rfl rfl) <| SR.nil ?_)
  refine W.cond_n rfl (fun h17 => ?_) (fun h17 => ?_)
  · refine W.seq ?_
    refine W.regS (SR.q' (r_as (v := .bool false) rfl) <| SR.nil ?_)
    refine W.ret ?_
    refine ret1 rfl (v := .bool _) rfl ?_
    exact ⟨eR (eDF (z_c_laws_eqLog_18 a b h17)), hB16⟩
  · refine W.skip ?_
    refine W.seq ?_
    refine W.seq ?_
    refine W.regS (SR.q' (r_fa fa31_1 rfl) <| SR.q' (r_ld (v := str a.Pending) sca9 rfl (((hb6).lo hk12).cell rfl)) <| SR.q' (r_fa fa31_1 rfl) <| SR.q' (r_ld (v := str b.Pending) sca9 rfl ((hb14).cell rfl)) <| SR.q' (r_nes (s := a.Pending) (r := b.Pending) rfl rfl) <| SR.nil ?_)
    refine W.cond_n rfl (fun h19 => ?_) (fun h19 => ?_)
    · refine W.seq ?_
      refine W.regS (SR.q' (r_as (v := .bool false) rfl) <| SR.nil ?_)
      refine W.ret ?_
      refine ret1 rfl (v := .bool _) rfl ?_
      exact ⟨eR (eDF (z_c_laws_eqLog_20 a b h17 h19)), hB16⟩
    · refine W.skip ?_
      refine W.seq ?_
      refine W.seq ?_
      refine W.regS (SR.q' (r_fa fa31_2 rfl) <| SR.q' (r_ld (v := .int .i64 a.Count) sca3 rfl (((hb6).lo hk12).cell rfl)) <| SR.q' (r_fa fa31_2 rfl) <| SR.q' (r_ld (v := .int .i64 b.Count) sca3 rfl ((hb14).cell rfl)) <| SR.q' (r_ne rfl rfl) <| SR.nil ?_)
      refine W.cond_n rfl (fun h21 => ?_) (fun h21 => ?_)
      · refine W.seq ?_
        refine W.regS (SR.q' (r_as (v := .bool false) rfl) <| SR.nil ?_)
        refine W.ret ?_
        refine ret1 rfl (v := .bool _) rfl ?_
        exact ⟨eR (eDF (z_c_laws_eqLog_22 a b h17 h19 h21)), hB16⟩
      · refine W.skip ?_
        refine W.seq ?_
        refine W.regS (SR.q' (r_as (v := .bool true) rfl) <| SR.nil ?_)
        refine W.ret ?_
        refine ret1 rfl (v := .bool _) rfl ?_
        exact ⟨eR (eDT (z_c_laws_eqLog_23 a b h17 h19 h21)), hB16⟩

theorem z_c_laws_szLogRecord_10 (r : LogRecord) (left : Int) (hp0 : 0 ≤ left) (hp1 : left ≤ 1048576) (hp2 : (r.Command.length : Int) ≤ 9223372036854775807) (hp3 : (r.Reply.length : Int) ≤ 9223372036854775807) (h9 : (left - (r.Command.length : Int)) < 0) : (-1) = szN (r.Command.length + r.Reply.length) left := by
  first | exact szN_neg ‹_› | exact szN_neg1 ‹_› | exact szN_neg2 ‹_› ‹_› | exact szN_add ‹_› ‹_› | (unfold szN at *; repeat (split at *)) <;> omega
theorem z_c_laws_szLogRecord_12 (r : LogRecord) (left : Int) (hp0 : 0 ≤ left) (hp1 : left ≤ 1048576) (hp2 : (r.Command.length : Int) ≤ 9223372036854775807) (hp3 : (r.Reply.length : Int) ≤ 9223372036854775807) (h9 : ¬ ((left - (r.Command.length : Int)) < 0)) (h11 : ((left - (r.Command.length : Int)) - (r.Reply.length : Int)) < 0) : (-1) = szN (r.Command.length + r.Reply.length) left := by
  first | exact szN_neg ‹_› | exact szN_neg1 ‹_› | exact szN_neg2 ‹_› ‹_› | exact szN_add ‹_› ‹_› | (unfold szN at *; repeat (split at *)) <;> omega
theorem z_c_laws_szLogRecord_13 (r : LogRecord) (left : Int) (hp0 : 0 ≤ left) (hp1 : left ≤ 1048576) (hp2 : (r.Command.length : Int) ≤ 9223372036854775807) (hp3 : (r.Reply.length : Int) ≤ 9223372036854775807) (h9 : ¬ ((left - (r.Command.length : Int)) < 0)) (h11 : ¬ (((left - (r.Command.length : Int)) - (r.Reply.length : Int)) < 0)) : (left - (r.Command.length : Int)) - (r.Reply.length : Int) = szN (r.Command.length + r.Reply.length) left := by
  first | exact szN_neg ‹_› | exact szN_neg1 ‹_› | exact szN_neg2 ‹_› ‹_› | exact szN_add ‹_› ‹_› | (unfold szN at *; repeat (split at *)) <;> omega
theorem c_laws_szLogRecord (w : World) (r : LogRecord) (left : Int) (hp0 : 0 ≤ left) (hp1 : left ≤ 1048576) (hp2 : (r.Command.length : Int) ≤ 9223372036854775807) (hp3 : (r.Reply.length : Int) ≤ 9223372036854775807) : Calls Tryd.prog 13 #[.agg (List.toArray (encLogRecord r)), .int .i64 left] w fun e w' => e = .returned (.int .i64 (szN (r.Command.length + r.Reply.length) left)) ∧ Lo w w' := by
  refine calls_W 20 Tryd.func13 rfl rfl rfl ?_
  refine W.seq ?_
  refine W.regS (SR.box (v := .agg (List.toArray _)) (l := [str r.Command, str r.Reply]) rfl rfl ?_)
  intro g1 w2 hg3 hk4 hs5 hb6
  have hz7 := hk4.size
  have hB8 := (Lo.refl w).lo hk4
  refine SR.q' (r_as (v := .int .i64 0) rfl) <| SR.nil ?_
  refine W.seq ?_
  refine W.regS (SR.q' (r_mv (v := .int .i64 _) rfl) <| SR.q' (r_fa fa23_0 rfl) <| SR.q' (r_ld (v := str r.Command) sca9 rfl ((hb6).cell rfl)) <| SR.q' (r_len_s und9 rfl) <| SR.q' (r_sub rfl rfl (by omega)) <| SR.q' (r_as (v := .int .i64 _) rfl) <| SR.nil ?_)
  refine W.seq ?_
  refine W.seq ?_
  refine W.regS (SR.q' (r_mv (v := .int .i64 _) rfl) <| SR.q' (r_lt rfl rfl) <| SR.nil ?_)
  refine W.cond_d rfl (fun h9 => ?_) (fun h9 => ?_)
  · refine W.seq ?_
    refine W.regS (SR.q' (r_as (v := .int .i64 (-1)) rfl) <| SR.nil ?_)
    refine W.ret ?_
    refine ret1 rfl (v := .int .i64 _) rfl ?_
    exact ⟨eR (eI (z_c_laws_szLogRecord_10 r left hp0 hp1 hp2 hp3 h9)), hB8⟩
  · refine W.skip ?_
    refine W.seq ?_
    refine W.regS (SR.q' (r_mv (v := .int .i64 _) rfl) <| SR.q' (r_fa fa23_1 rfl) <| SR.q' (r_ld (v := str r.Reply) sca9 rfl ((hb6).cell rfl)) <| SR.q' (r_len_s und9 rfl) <| SR.q' (r_sub rfl rfl (by omega)) <| SR.q' (r_as (v := .int .i64 _) rfl) <| SR.nil ?_)
    refine W.seq ?_
    refine W.seq ?_
    refine W.regS (SR.q' (r_mv (v := .int .i64 _) rfl) <| SR.q' (r_lt rfl rfl) <| SR.nil ?_)
    refine W.cond_d rfl (fun h11 => ?_) (fun h11 => ?_)
    · refine W.seq ?_
      refine W.regS (SR.q' (r_as (v := .int .i64 (-1)) rfl) <| SR.nil ?_)
      refine W.ret ?_
      refine ret1 rfl (v := .int .i64 _) rfl ?_
      exact ⟨eR (eI (z_c_laws_szLogRecord_12 r left hp0 hp1 hp2 hp3 h9 h11)), hB8⟩
    · refine W.skip ?_
      refine W.seq ?_
      refine W.regS (SR.q' (r_mv (v := .int .i64 _) rfl) <| SR.q' (r_as (v := .int .i64 _) rfl) <| SR.nil ?_)
      refine W.ret ?_
      refine ret1 rfl (v := .int .i64 _) rfl ?_
      exact ⟨eR (eI (z_c_laws_szLogRecord_13 r left hp0 hp1 hp2 hp3 h9 h11)), hB8⟩

theorem z_c_laws_toLogRecord_43 (r : LogRecord) : ([str r.Command, str r.Reply] : List Value) = encLogRecord r := by
  first | rfl | (first | rfl | omega | grind)
theorem c_laws_toLogRecord (w : World) (r : LogRecord) : Calls Tryd.prog 15 #[.agg (List.toArray (encLogRecord r))] w fun e w' => e = .returned (.agg (List.toArray (encLogRecord r))) ∧ Lo w w' := by
  refine calls_W 11 Tryd.func15 rfl rfl rfl ?_
  refine W.seq ?_
  refine W.regS (SR.box (v := .agg (List.toArray _)) (l := [str r.Command, str r.Reply]) rfl rfl ?_)
  intro g1 w2 hg3 hk4 hs5 hb6
  have hz7 := hk4.size
  have hB8 := (Lo.refl w).lo hk4
  refine SR.alloc (l := [str ([] : List UInt8), str ([] : List UInt8)]) tz27 rfl ?_
  intro g9 w10 hg11 hk12 hs13 hb14
  have hz15 := hk12.size
  have hB16 := hB8.lo hk12
  refine SR.nil ?_
  refine W.seq ?_
  refine W.regS (SR.alloc (l := [str ([] : List UInt8), str ([] : List UInt8)]) tz27 rfl ?_)
  intro g17 w18 hg19 hk20 hs21 hb22
  have hz23 := hk20.size
  have hB24 := hB16.lo hk20
  refine SR.nil ?_
  refine W.seq ?_
  refine W.regS (SR.q' (r_fa fa23_0 rfl) <| SR.q' (r_ld (v := str r.Command) sca9 rfl ((((hb6).lo hk12).lo hk20).cell rfl)) <| SR.q' (r_fa fa27_0 rfl) <| SR.store (o := 0) (vs := [str r.Command]) sca9.2 rfl rfl rfl rfl (hb22) (Nat.le_of_ble_eq_true rfl) rfl ?_)
  intro w25 hk26 hs27 hb28
  have hz29 := hk26.size
  have hB30 := hB24.new hk26 (by omega)
  refine SR.nil ?_
  refine W.seq ?_
  refine W.regS (SR.q' (r_fa fa23_1 rfl) <| SR.q' (r_ld (v := str r.Reply) sca9 rfl (((((hb6).lo hk12).lo hk20).kp hk26 (fun e' => by have e'' : g1 = g17 := e'; omega)).cell rfl)) <| SR.q' (r_fa fa27_1 rfl) <| SR.store (o := 1) (vs := [str r.Reply]) sca9.2 rfl rfl rfl rfl (hb28) (Nat.le_of_ble_eq_true rfl) rfl ?_)
  intro w31 hk32 hs33 hb34
  have hz35 := hk32.size
  have hB36 := hB30.new hk32 (by omega)
  refine SR.nil ?_
  refine W.seq ?_
  refine W.regS (SR.q' (r_lda (l := [str r.Command, str r.Reply]) agg27 rfl (fun _ _ hu => (hb34).cell hu) rfl) <| SR.store (o := 0) (vs := [str r.Command, str r.Reply]) agg27.2 rfl rfl rfl rfl ((((hb14).lo hk20).kp hk26 (fun e' => by have e'' : g9 = g17 := e'; omega)).kp hk32 (fun e' => by have e'' : g9 = g17 := e'; omega)) (Nat.le_of_ble_eq_true rfl) rfl ?_)
  intro w37 hk38 hs39 hb40
  have hz41 := hk38.size
  have hB42 := hB36.new hk38 (by omega)
  refine SR.nil ?_
  refine W.ret ?_
  refine retC rfl rfl agg27 (hb40) rfl ?_
  exact ⟨eR (eA (z_c_laws_toLogRecord_43 r)), hB42⟩

theorem z_c_laws_eqLogRecord_18 (a : LogRecord) (b : LogRecord) (h17 : ¬ (a.Command = b.Command)) : ¬ (a = b) := by
  cases a; cases b; simp_all
theorem z_c_laws_eqLogRecord_20 (a : LogRecord) (b : LogRecord) (h17 : a.Command = b.Command) (h19 : ¬ (a.Reply = b.Reply)) : ¬ (a = b) := by
  cases a; cases b; simp_all
theorem z_c_laws_eqLogRecord_21 (a : LogRecord) (b : LogRecord) (h17 : a.Command = b.Command) (h19 : a.Reply = b.Reply) : a = b := by
  cases a; cases b; simp_all
theorem c_laws_eqLogRecord (w : World) (a : LogRecord) (b : LogRecord) : Calls Tryd.prog 51 #[.agg (List.toArray (encLogRecord a)), .agg (List.toArray (encLogRecord b))] w fun e w' => e = .returned (.bool (decide (a = b))) ∧ Lo w w' := by
  refine calls_W 15 Tryd.func51 rfl rfl rfl ?_
  refine W.seq ?_
  refine W.regS (SR.box (v := .agg (List.toArray _)) (l := [str a.Command, str a.Reply]) rfl rfl ?_)
  intro g1 w2 hg3 hk4 hs5 hb6
  have hz7 := hk4.size
  have hB8 := (Lo.refl w).lo hk4
  refine SR.box (v := .agg (List.toArray _)) (l := [str b.Command, str b.Reply]) rfl rfl ?_
  intro g9 w10 hg11 hk12 hs13 hb14
  have hz15 := hk12.size
  have hB16 := hB8.lo hk12
  refine SR.q' (r_as (v := .bool false) rfl) <| SR.nil ?_
  refine W.seq ?_
  refine W.seq ?_
  refine W.regS (SR.q' (r_fa fa27_0 rfl) <| SR.q' (r_ld (v := str a.Command) sca9 rfl (((hb6).lo hk12).cell rfl)) <| SR.q' (r_fa fa27_0 rfl) <| SR.q' (r_ld (v := str b.Command) sca9 rfl ((hb14).cell rfl)) <| SR.q' (r_nes (s := a.Command) (r := b.Command) rfl rfl) <| SR.nil ?_)
  refine W.cond_n rfl (fun h17 => ?_) (fun h17 => ?_)
  · refine W.seq ?_
    refine W.regS (SR.q' (r_as (v := .bool false) rfl) <| SR.nil ?_)
    refine W.ret ?_
    refine ret1 rfl (v := .bool _) rfl ?_
    exact ⟨eR (eDF (z_c_laws_eqLogRecord_18 a b h17)), hB16⟩
  · refine W.skip ?_
    refine W.seq ?_
    refine W.seq ?_
    refine W.regS (SR.q' (r_fa fa27_1 rfl) <| SR.q' (r_ld (v := str a.Reply) sca9 rfl (((hb6).lo hk12).cell rfl)) <| SR.q' (r_fa fa27_1 rfl) <| SR.q' (r_ld (v := str b.Reply) sca9 rfl ((hb14).cell rfl)) <| SR.q' (r_nes (s := a.Reply) (r := b.Reply) rfl rfl) <| SR.nil ?_)
    refine W.cond_n rfl (fun h19 => ?_) (fun h19 => ?_)
    · refine W.seq ?_
      refine W.regS (SR.q' (r_as (v := .bool false) rfl) <| SR.nil ?_)
      refine W.ret ?_
      refine ret1 rfl (v := .bool _) rfl ?_
      exact ⟨eR (eDF (z_c_laws_eqLogRecord_20 a b h17 h19)), hB16⟩
    · refine W.skip ?_
      refine W.seq ?_
      refine W.regS (SR.q' (r_as (v := .bool true) rfl) <| SR.nil ?_)
      refine W.ret ?_
      refine ret1 rfl (v := .bool _) rfl ?_
      exact ⟨eR (eDT (z_c_laws_eqLogRecord_21 a b h17 h19)), hB16⟩

theorem z_c_laws_markText_2 (k : Int) (hp0 : 0 ≤ k ∧ k ≤ 1000000000000) (h1 : k ≤ 0) : ([109, 48] : List UInt8) = mkT k := by
  first | (unfold mkT; rw [if_pos (by omega)]; done) | (have hh := ‹0 ≤ q ∧ mkD _ ++ _ = _ ∧ _›; unfold mkT; rw [if_neg (by omega), ← hh.2.1, mkD_end (k := q) (by omega)]; simp)
theorem z_c_laws_markText_3 (k : Int) (hp0 : 0 ≤ k ∧ k ≤ 1000000000000) (h1 : ¬ (k ≤ 0)) : 0 ≤ k ∧ mkD k ++ ([] : List UInt8) = mkD k ∧ (([] : List UInt8).length : Int) + k ≤ k := by
  exact ⟨by omega, by simp, by simp⟩
theorem z_c_laws_markText_18 (k : Int) (hp0 : 0 ≤ k ∧ k ≤ 1000000000000) (h1 : ¬ (k ≤ 0)) (q : Int) (O : List UInt8) (hi8 : 0 ≤ q ∧ mkD q ++ O = mkD k ∧ (O.length : Int) + q ≤ k) (hq9 : 0 ≤ q ∧ (O.length : Int) + q ≤ k) (h10 : 0 < q) : 0 ≤ q / 10 ∧ mkD (q / 10) ++ (([(bw (48 + (q % 10)))] : List UInt8) ++ O) = mkD k ∧ ((([(bw (48 + (q % 10)))] : List UInt8) ++ O).length : Int) + q / 10 ≤ k := by
  have hh := ‹0 ≤ q ∧ mkD _ ++ _ = _ ∧ _›; exact ⟨by omega, by rw [← hh.2.1, mkD_next (k := q) (by omega)]; simp, by simp only [List.length_append, List.length_cons, List.length_nil]; omega⟩
theorem z_c_laws_markText_19 (k : Int) (hp0 : 0 ≤ k ∧ k ≤ 1000000000000) (h1 : ¬ (k ≤ 0)) (q : Int) (O : List UInt8) (hi8 : 0 ≤ q ∧ mkD q ++ O = mkD k ∧ (O.length : Int) + q ≤ k) (hq9 : 0 ≤ q ∧ (O.length : Int) + q ≤ k) (h10 : 0 < q) : (q / 10).toNat < q.toNat := by
  omega
theorem z_c_laws_markText_20 (k : Int) (hp0 : 0 ≤ k ∧ k ≤ 1000000000000) (h1 : ¬ (k ≤ 0)) (q : Int) (O : List UInt8) (hi8 : 0 ≤ q ∧ mkD q ++ O = mkD k ∧ (O.length : Int) + q ≤ k) (hq9 : 0 ≤ q ∧ (O.length : Int) + q ≤ k) (h10 : ¬ (0 < q)) : ([109] : List UInt8) ++ O = mkT k := by
  first | (unfold mkT; rw [if_pos (by omega)]; done) | (have hh := ‹0 ≤ q ∧ mkD _ ++ _ = _ ∧ _›; unfold mkT; rw [if_neg (by omega), ← hh.2.1, mkD_end (k := q) (by omega)]; simp)
theorem c_laws_markText (w : World) (k : Int) (hp0 : 0 ≤ k ∧ k ≤ 1000000000000) : Calls Tryd.prog 52 #[.int .i64 k] w fun e w' => e = .returned (str (mkT k)) ∧ Lo w w' := by
  refine calls_W 20 Tryd.func52 rfl rfl rfl ?_
  refine W.seq ?_
  refine W.regS (SR.q' (r_as (v := str ([] : List UInt8)) rfl) <| SR.nil ?_)
  refine W.seq ?_
  refine W.seq ?_
  refine W.regS (SR.q' (r_mv (v := .int .i64 _) rfl) <| SR.q' (r_le rfl rfl) <| SR.nil ?_)
  refine W.cond_d rfl (fun h1 => ?_) (fun h1 => ?_)
  · refine W.seq ?_
    refine W.regS (SR.q' (r_as (v := str ([109, 48] : List UInt8)) rfl) <| SR.nil ?_)
    refine W.ret ?_
    refine ret1 rfl (v := str _) rfl ?_
    exact ⟨eR (eS (z_c_laws_markText_2 k hp0 h1)), (Lo.refl w)⟩
  · refine W.skip ?_
    refine W.seq ?_
    refine W.regS (SR.q' (r_as (v := str ([] : List UInt8)) rfl) <| SR.nil ?_)
    refine W.seq ?_
    refine W.block ?_
    refine W.loop (σ := Int × (List UInt8)) (fun g => [(0, .int .i64 g.1), (2, str ([] : List UInt8)), (3, str g.2)]) (fun g w' => (Lo w w') ∧ (0 ≤ g.1 ∧ mkD g.1 ++ g.2 = mkD k ∧ (g.2.length : Int) + g.1 ≤ k)) (fun g => g.1.toNat) (k, ([] : List UInt8)) ?_ ?_ ?_
    · exact ⟨rfl, rfl, rfl, trivial⟩
    · exact ⟨(Lo.refl w), (z_c_laws_markText_3 k hp0 h1)⟩
    · rintro ⟨q, O⟩ f4 w5 hP7
      obtain ⟨hB6, hi8⟩ : (Lo w w5) ∧ (0 ≤ q ∧ mkD q ++ O = mkD k ∧ (O.length : Int) + q ≤ k) := hP7
      refine (?_ : W _ _ _ _ _ (act _ (sets f4 [(0, .int .i64 q), (2, str ([] : List UInt8)), (3, str O)])) _)
      have hzw5 := hB6.size
      have hq9 : 0 ≤ q ∧ (O.length : Int) + q ≤ k := And.intro hi8.1 hi8.2.2
      refine W.seq ?_
      refine W.seq ?_
      refine W.regS (SR.q' (r_mv (v := .int .i64 _) rfl) <| SR.q' (r_gt rfl rfl) <| SR.nil ?_)
      refine W.cond_d rfl (fun h10 => ?_) (fun h10 => ?_)
      · refine W.skip ?_
        refine W.block ?_
        refine W.seq ?_
        refine W.regS (SR.q' (r_mv (v := .int .i64 _) rfl) <| SR.q' (r_rem rfl rfl (by omega)) <| SR.q' (r_add rfl rfl (by omega)) <| SR.q' (r_convB und5 und3 rfl) <| SR.lit (vs := [.int .u8 ((bw (48 + (q % 10))).toNat : Int)]) (L := ([(bw (48 + (q % 10)))] : List UInt8)) (enc := encB) tel53 (fun _ => rfl) rfl rfl rfl (by decide) ?_)
        intro g11 w12 hg13 hk14 hO15
        have hz16 := hk14.size
        have hB17 := hB6.lo hk14
        refine SR.q' (r_ofB und53 und5 und9 rfl ((hO15).rd)) <| SR.q' (r_mv (v := str _) rfl) <| SR.q' (r_cat rfl rfl (by first | omega | (simp only [List.length_append, List.length_cons, List.length_nil, List.length_take, List.length_drop]; omega) | (simp only [List.length_append, List.length_cons, List.length_nil, List.length_take, List.length_drop] at *; omega))) <| SR.q' (r_as (v := str _) rfl) <| SR.nil ?_
        refine W.regS (SR.q' (r_mv (v := .int .i64 _) rfl) <| SR.q' (r_quo rfl rfl (by omega)) <| SR.q' (r_as (v := .int .i64 _) rfl) <| SR.nil ?_)
        refine ⟨(q / 10, ([(bw (48 + (q % 10)))] : List UInt8) ++ O), _, rfl, ⟨rfl, rfl, rfl, trivial⟩, ⟨hB17, ?_⟩, ?_⟩
        · exact (z_c_laws_markText_18 k hp0 h1 q O hi8 hq9 h10)
        · exact (z_c_laws_markText_19 k hp0 h1 q O hi8 hq9 h10)
      · refine W.exit (xin_here ?_)
        refine W.seq ?_
        refine W.regS (SR.q' (r_mv (v := str _) rfl) <| SR.q' (r_cat rfl rfl (by first | omega | (simp only [List.length_append, List.length_cons, List.length_nil, List.length_take, List.length_drop]; omega) | (simp only [List.length_append, List.length_cons, List.length_nil, List.length_take, List.length_drop] at *; omega))) <| SR.q' (r_as (v := str _) rfl) <| SR.nil ?_)
        refine W.ret ?_
        refine ret1 rfl (v := str _) rfl ?_
        exact ⟨eR (eS (z_c_laws_markText_20 k hp0 h1 q O hi8 hq9 h10)), hB6⟩

theorem z_c_laws_eqLogRecordS_2 (L : List LogRecord) (nL : Nat) (hbdL : (nL : Int) ≤ 9223372036854775807) (hleL : nL = L.length) (M : List LogRecord) (nM : Nat) (hbdM : (nM : Int) ≤ 9223372036854775807) (hleM : nM = M.length) (h1 : ¬ ((nL : Int) = (nM : Int))) : ¬ (L = M) := by
  first | (intro e; subst e; omega) | exact ne_at ‹L[_]? = some _› ‹M[_]? = some _› ‹_› | exact take_end (And.right ‹_ ∧ L.take _ = M.take _›) hleL hleM (by omega) ‹_›
theorem z_c_laws_eqLogRecordS_3 (L : List LogRecord) (nL : Nat) (hbdL : (nL : Int) ≤ 9223372036854775807) (hleL : nL = L.length) (M : List LogRecord) (nM : Nat) (hbdM : (nM : Int) ≤ 9223372036854775807) (hleM : nM = M.length) (h1 : (nL : Int) = (nM : Int)) : 0 ≤ nL ∧ L.take 0 = M.take 0 := by
  simp
theorem z_c_laws_eqLogRecordS_21 (L : List LogRecord) (nL : Nat) (hbdL : (nL : Int) ≤ 9223372036854775807) (hleL : nL = L.length) (M : List LogRecord) (nM : Nat) (hbdM : (nM : Int) ≤ 9223372036854775807) (hleM : nM = M.length) (h1 : (nL : Int) = (nM : Int)) (k : Nat) (hi10 : k ≤ nL ∧ L.take k = M.take k) (h11 : (k : Int) < (nL : Int)) (x12 : LogRecord) (hx13 : L[k]? = some x12) (x14 : LogRecord) (hx15 : M[k]? = some x14) (h20 : ¬ (x12 = x14)) : ¬ (L = M) := by
  first | (intro e; subst e; omega) | exact ne_at ‹L[_]? = some _› ‹M[_]? = some _› ‹_› | exact take_end (And.right ‹_ ∧ L.take _ = M.take _›) hleL hleM (by omega) ‹_›
theorem z_c_laws_eqLogRecordS_22 (L : List LogRecord) (nL : Nat) (hbdL : (nL : Int) ≤ 9223372036854775807) (hleL : nL = L.length) (M : List LogRecord) (nM : Nat) (hbdM : (nM : Int) ≤ 9223372036854775807) (hleM : nM = M.length) (h1 : (nL : Int) = (nM : Int)) (k : Nat) (hi10 : k ≤ nL ∧ L.take k = M.take k) (h11 : (k : Int) < (nL : Int)) (x12 : LogRecord) (hx13 : L[k]? = some x12) (x14 : LogRecord) (hx15 : M[k]? = some x14) (h20 : x12 = x14) : k + 1 ≤ nL ∧ L.take (k + 1) = M.take (k + 1) := by
  exact ⟨by omega, take_next (And.right ‹_ ∧ L.take _ = M.take _›) ‹L[_]? = some _› ‹M[_]? = some _› ‹_›⟩
theorem z_c_laws_eqLogRecordS_23 (L : List LogRecord) (nL : Nat) (hbdL : (nL : Int) ≤ 9223372036854775807) (hleL : nL = L.length) (M : List LogRecord) (nM : Nat) (hbdM : (nM : Int) ≤ 9223372036854775807) (hleM : nM = M.length) (h1 : (nL : Int) = (nM : Int)) (k : Nat) (hi10 : k ≤ nL ∧ L.take k = M.take k) (h11 : (k : Int) < (nL : Int)) (x12 : LogRecord) (hx13 : L[k]? = some x12) (x14 : LogRecord) (hx15 : M[k]? = some x14) (h20 : x12 = x14) : nL - (k + 1) < nL - k := by
  omega
theorem z_c_laws_eqLogRecordS_24 (L : List LogRecord) (nL : Nat) (hbdL : (nL : Int) ≤ 9223372036854775807) (hleL : nL = L.length) (M : List LogRecord) (nM : Nat) (hbdM : (nM : Int) ≤ 9223372036854775807) (hleM : nM = M.length) (h1 : (nL : Int) = (nM : Int)) (k : Nat) (hi10 : k ≤ nL ∧ L.take k = M.take k) (h11 : ¬ ((k : Int) < (nL : Int))) : L = M := by
  first | (intro e; subst e; omega) | exact ne_at ‹L[_]? = some _› ‹M[_]? = some _› ‹_› | exact take_end (And.right ‹_ ∧ L.take _ = M.take _›) hleL hleM (by omega) ‹_›
theorem c_laws_eqLogRecordS (w : World) {AL : Option Addr} {nL cL BL : Nat}  (L : List LogRecord) (hL : SlR w BL encLogRecord 2 AL nL cL L) {AM : Option Addr} {nM cM BM : Nat}  (M : List LogRecord) (hM : SlR w BM encLogRecord 2 AM nM cM M) : Calls Tryd.prog 32 #[.slice AL nL cL, .slice AM nM cM] w fun e w' => e = .returned (.bool (decide (L = M))) ∧ Lo w w' := by
  refine calls_W 27 Tryd.func32 rfl rfl rfl ?_
  have hbdL := hL.bound
  have hleL := hL.len
  have hBbL := hL.bd
  have hbdM := hM.bound
  have hleM := hM.len
  have hBbM := hM.bd
  refine W.seq ?_
  refine W.regS (SR.q' (r_as (v := .bool false) rfl) <| SR.nil ?_)
  refine W.seq ?_
  refine W.seq ?_
  refine W.regS (SR.q' (r_mv (v := .slice _ _ _) rfl) <| SR.q' (r_len und48 rfl) <| SR.q' (r_mv (v := .slice _ _ _) rfl) <| SR.q' (r_len und48 rfl) <| SR.q' (r_ne rfl rfl) <| SR.nil ?_)
  refine W.cond_n rfl (fun h1 => ?_) (fun h1 => ?_)
  · refine W.seq ?_
    refine W.regS (SR.q' (r_as (v := .bool false) rfl) <| SR.nil ?_)
    refine W.ret ?_
    refine ret1 rfl (v := .bool _) rfl ?_
    exact ⟨eR (eDF (z_c_laws_eqLogRecordS_2 L nL hbdL hleL M nM hbdM hleM h1)), (Lo.refl w)⟩
  · refine W.skip ?_
    refine W.seq ?_
    refine W.seq ?_
    refine W.regS (SR.q' (r_as (v := .int .i64 0) rfl) <| SR.nil ?_)
    refine W.block ?_
    refine W.loop (σ := Nat) (fun g => [(0, .slice AL nL cL), (1, .slice AM nM cM), (5, .int .i64 (g : Int))]) (fun g w' => (Lo w w') ∧ (SlR w' BL encLogRecord 2 AL nL cL L) ∧ (SlR w' BM encLogRecord 2 AM nM cM M) ∧ (g ≤ nL ∧ L.take g = M.take g)) (fun g => nL - g) 0 ?_ ?_ ?_
    · exact ⟨rfl, rfl, rfl, trivial⟩
    · exact ⟨(Lo.refl w), hL, hM, (z_c_laws_eqLogRecordS_3 L nL hbdL hleL M nM hbdM hleM h1)⟩
    · rintro k f4 w5 hP7
      obtain ⟨hB6, hm8, hm9, hi10⟩ : (Lo w w5) ∧ (SlR w5 BL encLogRecord 2 AL nL cL L) ∧ (SlR w5 BM encLogRecord 2 AM nM cM M) ∧ (k ≤ nL ∧ L.take k = M.take k) := hP7
      refine (?_ : W _ _ _ _ _ (act _ (sets f4 [(0, .slice AL nL cL), (1, .slice AM nM cM), (5, .int .i64 (k : Int))])) _)
      have hzw5 := hB6.size
      refine W.seq ?_
      refine W.seq ?_
      refine W.regS (SR.q' (r_mv (v := .int .i64 _) rfl) <| SR.q' (r_mv (v := .slice _ _ _) rfl) <| SR.q' (r_len und48 rfl) <| SR.q' (r_lt rfl rfl) <| SR.nil ?_)
      refine W.cond_d rfl (fun h11 => ?_) (fun h11 => ?_)
      · refine W.skip ?_
        refine W.seq ?_
        refine W.block ?_
        refine W.seq ?_
        refine W.regD mo (by kernel_rfl) (QR.q' (fun w' hw' => r_mv (v := .slice _ _ _) rfl) <| QR.q' (fun w' hw' => r_mv (v := .int .i64 _) rfl) <| ?_)
        obtain ⟨x12, hx13⟩ := (hm8).get (i := k) (by omega)
        refine QR.q' (fun w' hw' => r_ixR tsl48 (((hm8).lo hw')) rfl rfl (by omega)) <| QR.q' (fun w' hw' => r_lda (l := encLogRecord x12) agg27 rfl (fun _ _ hu => (((hm8).lo hw')).cell hx13 hu) ((((hm8).lo hw')).esz _)) <| QR.q' (fun w' hw' => r_mv (v := .slice _ _ _) rfl) <| QR.q' (fun w' hw' => r_mv (v := .int .i64 _) rfl) <| ?_
        obtain ⟨x14, hx15⟩ := (hm9).get (i := k) (by omega)
        refine QR.q' (fun w' hw' => r_ixR tsl48 (((hm9).lo hw')) rfl rfl (by omega)) <| QR.q' (fun w' hw' => r_lda (l := encLogRecord x14) agg27 rfl (fun _ _ hu => (((hm9).lo hw')).cell hx15 hu) ((((hm9).lo hw')).esz _)) <| QR.call ent51 (fun w' hw' => (c_laws_eqLogRecord w' x12 x14).mono fun _ _ h => ⟨h.1, hw'.trans h.2⟩) rfl <| QR.q' (fun w' hw' => r_not rfl) <| QR.nil ?_
        intro w16 hk17
        have hz18 := hk17.size
        have hB19 := hB6.lo hk17
        refine W.cond_n rfl (fun h20 => ?_) (fun h20 => ?_)
        · refine W.seq ?_
          refine W.regS (SR.q' (r_as (v := .bool false) rfl) <| SR.nil ?_)
          refine W.ret ?_
          refine ret1 rfl (v := .bool _) rfl ?_
          exact ⟨eR (eDF (z_c_laws_eqLogRecordS_21 L nL hbdL hleL M nM hbdM hleM h1 k hi10 h11 x12 hx13 x14 hx15 h20)), hB19⟩
        · refine W.skip ?_
          refine W.regS (SR.q' (r_mv (v := .int .i64 _) rfl) <| SR.q' (r_add rfl rfl (by omega)) <| SR.q' (r_as (v := .int .i64 _) rfl) <| SR.nil ?_)
          refine ⟨k + 1, _, rfl, ⟨rfl, rfl, rfl, trivial⟩, ⟨hB19, (hm8).lo hk17, (hm9).lo hk17, ?_⟩, ?_⟩
          · exact (z_c_laws_eqLogRecordS_22 L nL hbdL hleL M nM hbdM hleM h1 k hi10 h11 x12 hx13 x14 hx15 h20)
          · exact (z_c_laws_eqLogRecordS_23 L nL hbdL hleL M nM hbdM hleM h1 k hi10 h11 x12 hx13 x14 hx15 h20)
      · refine W.exit (xin_here ?_)
        refine W.seq ?_
        refine W.regS (SR.q' (r_as (v := .bool true) rfl) <| SR.nil ?_)
        refine W.ret ?_
        refine ret1 rfl (v := .bool _) rfl ?_
        exact ⟨eR (eDT (z_c_laws_eqLogRecordS_24 L nL hbdL hleL M nM hbdM hleM h1 k hi10 h11)), hB6⟩

theorem z_c_laws_markLogRecordS_1 (L : List LogRecord) (nL : Nat) (hbdL : (nL : Int) ≤ 9223372036854775807) (hleL : nL = L.length) (k : Int) (hp0 : 0 ≤ k) (hp1 : k ≤ 1000000000) (hp2 : (nL : Int) ≤ 1048576) : 0 ≤ nL := by
  omega
theorem z_c_laws_markLogRecordS_2 (L : List LogRecord) (nL : Nat) (hbdL : (nL : Int) ≤ 9223372036854775807) (hleL : nL = L.length) (k : Int) (hp0 : 0 ≤ k) (hp1 : k ≤ 1000000000) (hp2 : (nL : Int) ≤ 1048576) : L = mkL mkLogRecord 2 0 k ++ L.drop 0 := by
  exact mkL_init
theorem z_c_laws_markLogRecordS_34 (L : List LogRecord) (nL : Nat) (hbdL : (nL : Int) ≤ 9223372036854775807) (hleL : nL = L.length) (k : Int) (hp0 : 0 ≤ k) (hp1 : k ≤ 1000000000) (hp2 : (nL : Int) ≤ 1048576) (i : Nat) (hi8 : i ≤ nL) (h9 : (i : Int) < (nL : Int)) (x14 : LogRecord) (hx15 : (mkL mkLogRecord 2 i k ++ L.drop i)[i]? = some x14) : (mkL mkLogRecord 2 i k ++ L.drop i).set ((i : Int).toNat) ({ ({ x14 with Command := mkT (k + 2 * (i : Int)) }) with Reply := mkT ((k + 2 * (i : Int)) + 1) }) = mkL mkLogRecord 2 (i + 1) k ++ L.drop (i + 1) := by
  exact mkL_set (by omega) (by first | (simp [mkLogRecord]; done) | (simp [mkLogRecord]; omega))
theorem z_c_laws_markLogRecordS_35 (L : List LogRecord) (nL : Nat) (hbdL : (nL : Int) ≤ 9223372036854775807) (hleL : nL = L.length) (k : Int) (hp0 : 0 ≤ k) (hp1 : k ≤ 1000000000) (hp2 : (nL : Int) ≤ 1048576) (i : Nat) (hi8 : i ≤ nL) (h9 : (i : Int) < (nL : Int)) (x14 : LogRecord) (hx15 : (mkL mkLogRecord 2 i k ++ L.drop i)[i]? = some x14) : i + 1 ≤ nL := by
  omega
theorem z_c_laws_markLogRecordS_36 (L : List LogRecord) (nL : Nat) (hbdL : (nL : Int) ≤ 9223372036854775807) (hleL : nL = L.length) (k : Int) (hp0 : 0 ≤ k) (hp1 : k ≤ 1000000000) (hp2 : (nL : Int) ≤ 1048576) (i : Nat) (hi8 : i ≤ nL) (h9 : (i : Int) < (nL : Int)) (x14 : LogRecord) (hx15 : (mkL mkLogRecord 2 i k ++ L.drop i)[i]? = some x14) : nL - (i + 1) < nL - i := by
  omega
theorem z_c_laws_markLogRecordS_37 (L : List LogRecord) (nL : Nat) (hbdL : (nL : Int) ≤ 9223372036854775807) (hleL : nL = L.length) (k : Int) (hp0 : 0 ≤ k) (hp1 : k ≤ 1000000000) (hp2 : (nL : Int) ≤ 1048576) (i : Nat) (hi8 : i ≤ nL) (h9 : ¬ ((i : Int) < (nL : Int))) : k + 2 * (i : Int) = k + 2 * (L.length : Int) := by
  first | omega | exact mkL_end hleL (by assumption) (by omega)
theorem z_c_laws_markLogRecordS_38 (L : List LogRecord) (nL : Nat) (hbdL : (nL : Int) ≤ 9223372036854775807) (hleL : nL = L.length) (k : Int) (hp0 : 0 ≤ k) (hp1 : k ≤ 1000000000) (hp2 : (nL : Int) ≤ 1048576) (i : Nat) (hi8 : i ≤ nL) (h9 : ¬ ((i : Int) < (nL : Int))) : mkL mkLogRecord 2 i k ++ L.drop i = mkL mkLogRecord 2 L.length k := by
  first | omega | exact mkL_end hleL (by assumption) (by omega)
theorem c_laws_markLogRecordS (w : World) {AL : Option Addr} {nL cL BL : Nat}  (L : List LogRecord) (hL : SlO w BL encLogRecord 2 27 AL nL cL L) (k : Int) (hp0 : 0 ≤ k) (hp1 : k ≤ 1000000000) (hp2 : (nL : Int) ≤ 1048576) : Calls Tryd.prog 33 #[.slice AL nL cL, .int .i64 k] w fun e w' => e = .returned (.int .i64 (k + 2 * (L.length : Int))) ∧ SlO w' BL encLogRecord 2 27 AL nL cL (mkL mkLogRecord 2 L.length k) ∧ Kp (fun b_ => AL = some ⟨b_, 0, none⟩) w w' := by
  refine calls_W 29 Tryd.func33 rfl rfl rfl ?_
  have hbdL := hL.rd.bound
  have hleL := hL.len
  have hBbL := hL.bd
  refine W.seq ?_
  refine W.regS (SR.q' (r_as (v := .int .i64 0) rfl) <| SR.nil ?_)
  refine W.seq ?_
  refine W.seq ?_
  refine W.regS (SR.q' (r_as (v := .int .i64 0) rfl) <| SR.nil ?_)
  refine W.block ?_
  refine W.loop (σ := Nat) (fun g => [(0, .slice AL nL cL), (1, .int .i64 (k + 2 * (g : Int))), (4, .int .i64 0), (5, .int .i64 (g : Int))]) (fun g w' => (Kp (fun b_ => AL = some ⟨b_, 0, none⟩) w w') ∧ (SlO w' BL encLogRecord 2 27 AL nL cL (mkL mkLogRecord 2 g k ++ L.drop g)) ∧ (g ≤ nL)) (fun g => nL - g) 0 ?_ ?_ ?_
  · exact ⟨rfl, (eI (by first | omega | (dsimp only; omega))), rfl, (eI (by first | omega | (dsimp only; omega))), trivial⟩
  · exact ⟨(Kp.refl w : Kp (fun b_ => AL = some ⟨b_, 0, none⟩) w w), (SlO.eqv (hL) (z_c_laws_markLogRecordS_2 L nL hbdL hleL k hp0 hp1 hp2)), (z_c_laws_markLogRecordS_1 L nL hbdL hleL k hp0 hp1 hp2)⟩
  · rintro i f3 w4 hP6
    obtain ⟨hB5, hm7, hi8⟩ : (Kp (fun b_ => AL = some ⟨b_, 0, none⟩) w w4) ∧ (SlO w4 BL encLogRecord 2 27 AL nL cL (mkL mkLogRecord 2 i k ++ L.drop i)) ∧ (i ≤ nL) := hP6
    refine (?_ : W _ _ _ _ _ (act _ (sets f3 [(0, .slice AL nL cL), (1, .int .i64 (k + 2 * (i : Int))), (4, .int .i64 0), (5, .int .i64 (i : Int))])) _)
    have hzw4 := hB5.size
    refine W.seq ?_
    refine W.seq ?_
    refine W.regS (SR.q' (r_mv (v := .int .i64 _) rfl) <| SR.q' (r_mv (v := .slice _ _ _) rfl) <| SR.q' (r_len und48 rfl) <| SR.q' (r_lt rfl rfl) <| SR.nil ?_)
    refine W.cond_d rfl (fun h9 => ?_) (fun h9 => ?_)
    · refine W.skip ?_
      refine W.seq ?_
      refine W.block ?_
      refine W.seq ?_
      refine W.regS (SR.q' (r_mv (v := .slice _ _ _) rfl) <| SR.q' (r_mv (v := .int .i64 _) rfl) <| SR.q' (r_mv (v := .int .i64 _) rfl) <| SR.call ent52 (c_laws_markText w4 (k + 2 * (i : Int)) (by omega)) rfl ?_)
      rintro e w10 ⟨rfl, hk11⟩
      refine ⟨_, rfl, ?_⟩
      have hz12 := hk11.size
      have hB13 := hB5.lo hk11
      obtain ⟨x14, hx15⟩ := (((hm7).lo hk11).rd).get (i := i) (by omega)
      refine SR.q' (r_ixR tsl48 (((hm7).lo hk11).rd) rfl rfl (by omega)) <| SR.q' (r_fa fa27_0 rfl) <| SR.storeO (o := 0) (vs := [str (mkT (k + 2 * (i : Int)))]) (x1 := { x14 with Command := mkT (k + 2 * (i : Int)) }) sca9.2 rfl (add_add _ _ _) rfl rfl ((hm7).lo hk11) hx15 rfl (Nat.le_of_ble_eq_true rfl) rfl ?_
      intro w16 hk17 hs18 hO19
      have hz20 := hk17.size
      have hB21 := hB13.step hk17 (fun i_ hi_ e' => by have := (((hm7).lo hk11)).base_le e'; first | omega | (exfalso; omega) | exact e' | exact .inl e' | exact .inr e')
      have hx22 : ((mkL mkLogRecord 2 i k ++ L.drop i).set ((i : Int).toNat) ({ x14 with Command := mkT (k + 2 * (i : Int)) }))[(i : Int).toNat]? = some ({ x14 with Command := mkT (k + 2 * (i : Int)) }) := List.getElem?_set_self (List.getElem?_eq_some_iff.1 hx15).1
      refine SR.nil ?_
      refine W.seq ?_
      refine W.regS (SR.q' (r_mv (v := .int .i64 _) rfl) <| SR.q' (r_add rfl rfl (by omega)) <| SR.q' (r_as (v := .int .i64 _) rfl) <| SR.nil ?_)
      refine W.seq ?_
      refine W.regS (SR.q' (r_mv (v := .slice _ _ _) rfl) <| SR.q' (r_mv (v := .int .i64 _) rfl) <| SR.q' (r_mv (v := .int .i64 _) rfl) <| SR.call ent52 (c_laws_markText w16 ((k + 2 * (i : Int)) + 1) (by omega)) rfl ?_)
      rintro e w23 ⟨rfl, hk24⟩
      refine ⟨_, rfl, ?_⟩
      have hz25 := hk24.size
      have hB26 := hB21.lo hk24
      refine SR.q' (r_ixR tsl48 (((hO19).lo hk24).rd) rfl rfl (by omega)) <| SR.q' (r_fa fa27_1 rfl) <| SR.storeO (o := 1) (vs := [str (mkT ((k + 2 * (i : Int)) + 1))]) (x1 := { ({ x14 with Command := mkT (k + 2 * (i : Int)) }) with Reply := mkT ((k + 2 * (i : Int)) + 1) }) sca9.2 rfl (add_add _ _ _) rfl rfl ((hO19).lo hk24) hx22 rfl (Nat.le_of_ble_eq_true rfl) rfl ?_
      intro w27 hk28 hs29 hO30
      have hz31 := hk28.size
      have hB32 := hB26.step hk28 (fun i_ hi_ e' => by have := (((hO19).lo hk24)).base_le e'; first | omega | (exfalso; omega) | exact e' | exact .inl e' | exact .inr e')
      rw [List.set_set] at hO30
      have hx33 : ((mkL mkLogRecord 2 i k ++ L.drop i).set ((i : Int).toNat) ({ ({ x14 with Command := mkT (k + 2 * (i : Int)) }) with Reply := mkT ((k + 2 * (i : Int)) + 1) }))[(i : Int).toNat]? = some ({ ({ x14 with Command := mkT (k + 2 * (i : Int)) }) with Reply := mkT ((k + 2 * (i : Int)) + 1) }) := List.getElem?_set_self (List.getElem?_eq_some_iff.1 hx15).1
      refine SR.nil ?_
      refine W.regS (SR.q' (r_mv (v := .int .i64 _) rfl) <| SR.q' (r_add rfl rfl (by omega)) <| SR.q' (r_as (v := .int .i64 _) rfl) <| SR.nil ?_)
      refine W.regS (SR.q' (r_mv (v := .int .i64 _) rfl) <| SR.q' (r_add rfl rfl (by omega)) <| SR.q' (r_as (v := .int .i64 _) rfl) <| SR.nil ?_)
      refine ⟨i + 1, _, rfl, ⟨rfl, (eI (by first | omega | (dsimp only; omega))), rfl, (eI (by first | omega | (dsimp only; omega))), trivial⟩, ⟨hB32, (SlO.eqv (hO30) (z_c_laws_markLogRecordS_34 L nL hbdL hleL k hp0 hp1 hp2 i hi8 h9 x14 hx15)), ?_⟩, ?_⟩
      · exact (z_c_laws_markLogRecordS_35 L nL hbdL hleL k hp0 hp1 hp2 i hi8 h9 x14 hx15)
      · exact (z_c_laws_markLogRecordS_36 L nL hbdL hleL k hp0 hp1 hp2 i hi8 h9 x14 hx15)
    · refine W.exit (xin_here ?_)
      refine W.seq ?_
      refine W.regS (SR.q' (r_mv (v := .int .i64 _) rfl) <| SR.q' (r_as (v := .int .i64 _) rfl) <| SR.nil ?_)
      refine W.ret ?_
      refine ret1 rfl (v := .int .i64 _) rfl ?_
      exact ⟨eR (eI (z_c_laws_markLogRecordS_37 L nL hbdL hleL k hp0 hp1 hp2 i hi8 h9)), (SlO.eqv (hm7) (z_c_laws_markLogRecordS_38 L nL hbdL hleL k hp0 hp1 hp2 i hi8 h9)), hB5⟩

theorem z_c_laws_heldLogRecordS_1 (L : List LogRecord) (nL : Nat) (hbdL : (nL : Int) ≤ 9223372036854775807) (hleL : nL = L.length) (k : Int) (m : Nat) (hp0 : 0 ≤ k) (hp1 : k ≤ 1000000000) (hp2 : (nL : Int) ≤ 1048576) (hp3 : L = mkL mkLogRecord 2 m k) : 0 ≤ nL := by
  omega
theorem z_c_laws_heldLogRecordS_16 (L : List LogRecord) (nL : Nat) (hbdL : (nL : Int) ≤ 9223372036854775807) (hleL : nL = L.length) (k : Int) (m : Nat) (hp0 : 0 ≤ k) (hp1 : k ≤ 1000000000) (hp2 : (nL : Int) ≤ 1048576) (hp3 : L = mkL mkLogRecord 2 m k) (i : Nat) (hi7 : i ≤ nL) (h8 : (i : Int) < (nL : Int)) (x9 : LogRecord) (hx10 : L[i]? = some x9) (h15 : ¬ (x9.Command = (mkT (k + 2 * (i : Int))))) : (-1) = k + 2 * (m : Int) := by
  first | omega | (rw [hp3, mkL_len] at hleL; omega) | (exfalso; subst hp3; obtain rfl := mkL_get ‹_[_]? = some _›; first | (simp_all [mkLogRecord]; done) | (simp only [mkLogRecord] at *; omega))
theorem z_c_laws_heldLogRecordS_22 (L : List LogRecord) (nL : Nat) (hbdL : (nL : Int) ≤ 9223372036854775807) (hleL : nL = L.length) (k : Int) (m : Nat) (hp0 : 0 ≤ k) (hp1 : k ≤ 1000000000) (hp2 : (nL : Int) ≤ 1048576) (hp3 : L = mkL mkLogRecord 2 m k) (i : Nat) (hi7 : i ≤ nL) (h8 : (i : Int) < (nL : Int)) (x9 : LogRecord) (hx10 : L[i]? = some x9) (h15 : x9.Command = (mkT (k + 2 * (i : Int)))) (h21 : ¬ (x9.Reply = (mkT ((k + 2 * (i : Int)) + 1)))) : (-1) = k + 2 * (m : Int) := by
  first | omega | (rw [hp3, mkL_len] at hleL; omega) | (exfalso; subst hp3; obtain rfl := mkL_get ‹_[_]? = some _›; first | (simp_all [mkLogRecord]; done) | (simp only [mkLogRecord] at *; omega))
theorem z_c_laws_heldLogRecordS_23 (L : List LogRecord) (nL : Nat) (hbdL : (nL : Int) ≤ 9223372036854775807) (hleL : nL = L.length) (k : Int) (m : Nat) (hp0 : 0 ≤ k) (hp1 : k ≤ 1000000000) (hp2 : (nL : Int) ≤ 1048576) (hp3 : L = mkL mkLogRecord 2 m k) (i : Nat) (hi7 : i ≤ nL) (h8 : (i : Int) < (nL : Int)) (x9 : LogRecord) (hx10 : L[i]? = some x9) (h15 : x9.Command = (mkT (k + 2 * (i : Int)))) (h21 : x9.Reply = (mkT ((k + 2 * (i : Int)) + 1))) : i + 1 ≤ nL := by
  omega
theorem z_c_laws_heldLogRecordS_24 (L : List LogRecord) (nL : Nat) (hbdL : (nL : Int) ≤ 9223372036854775807) (hleL : nL = L.length) (k : Int) (m : Nat) (hp0 : 0 ≤ k) (hp1 : k ≤ 1000000000) (hp2 : (nL : Int) ≤ 1048576) (hp3 : L = mkL mkLogRecord 2 m k) (i : Nat) (hi7 : i ≤ nL) (h8 : (i : Int) < (nL : Int)) (x9 : LogRecord) (hx10 : L[i]? = some x9) (h15 : x9.Command = (mkT (k + 2 * (i : Int)))) (h21 : x9.Reply = (mkT ((k + 2 * (i : Int)) + 1))) : nL - (i + 1) < nL - i := by
  omega
theorem z_c_laws_heldLogRecordS_25 (L : List LogRecord) (nL : Nat) (hbdL : (nL : Int) ≤ 9223372036854775807) (hleL : nL = L.length) (k : Int) (m : Nat) (hp0 : 0 ≤ k) (hp1 : k ≤ 1000000000) (hp2 : (nL : Int) ≤ 1048576) (hp3 : L = mkL mkLogRecord 2 m k) (i : Nat) (hi7 : i ≤ nL) (h8 : ¬ ((i : Int) < (nL : Int))) : k + 2 * (i : Int) = k + 2 * (m : Int) := by
  first | omega | (rw [hp3, mkL_len] at hleL; omega) | (exfalso; subst hp3; obtain rfl := mkL_get ‹_[_]? = some _›; first | (simp_all [mkLogRecord]; done) | (simp only [mkLogRecord] at *; omega))
theorem c_laws_heldLogRecordS (w : World) {AL : Option Addr} {nL cL BL : Nat}  (L : List LogRecord) (hL : SlR w BL encLogRecord 2 AL nL cL L) (k : Int) (m : Nat) (hp0 : 0 ≤ k) (hp1 : k ≤ 1000000000) (hp2 : (nL : Int) ≤ 1048576) (hp3 : L = mkL mkLogRecord 2 m k) : Calls Tryd.prog 34 #[.slice AL nL cL, .int .i64 k] w fun e w' => e = .returned (.int .i64 (k + 2 * (m : Int))) ∧ Lo w w' := by
  refine calls_W 33 Tryd.func34 rfl rfl rfl ?_
  have hbdL := hL.bound
  have hleL := hL.len
  have hBbL := hL.bd
  refine W.seq ?_
  refine W.regS (SR.q' (r_as (v := .int .i64 0) rfl) <| SR.nil ?_)
  refine W.seq ?_
  refine W.seq ?_
  refine W.regS (SR.q' (r_as (v := .int .i64 0) rfl) <| SR.nil ?_)
  refine W.block ?_
  refine W.loop (σ := Nat) (fun g => [(0, .slice AL nL cL), (1, .int .i64 (k + 2 * (g : Int))), (5, .int .i64 (g : Int))]) (fun g w' => (Lo w w') ∧ (SlR w' BL encLogRecord 2 AL nL cL L) ∧ (g ≤ nL)) (fun g => nL - g) 0 ?_ ?_ ?_
  · exact ⟨rfl, (eI (by first | omega | (dsimp only; omega))), (eI (by first | omega | (dsimp only; omega))), trivial⟩
  · exact ⟨(Lo.refl w), hL, (z_c_laws_heldLogRecordS_1 L nL hbdL hleL k m hp0 hp1 hp2 hp3)⟩
  · rintro i f2 w3 hP5
    obtain ⟨hB4, hm6, hi7⟩ : (Lo w w3) ∧ (SlR w3 BL encLogRecord 2 AL nL cL L) ∧ (i ≤ nL) := hP5
    refine (?_ : W _ _ _ _ _ (act _ (sets f2 [(0, .slice AL nL cL), (1, .int .i64 (k + 2 * (i : Int))), (5, .int .i64 (i : Int))])) _)
    have hzw3 := hB4.size
    refine W.seq ?_
    refine W.seq ?_
    refine W.regS (SR.q' (r_mv (v := .int .i64 _) rfl) <| SR.q' (r_mv (v := .slice _ _ _) rfl) <| SR.q' (r_len und48 rfl) <| SR.q' (r_lt rfl rfl) <| SR.nil ?_)
    refine W.cond_d rfl (fun h8 => ?_) (fun h8 => ?_)
    · refine W.skip ?_
      refine W.seq ?_
      refine W.block ?_
      refine W.seq ?_
      refine W.seq ?_
      refine W.regD mo (by kernel_rfl) (QR.q' (fun w' hw' => r_mv (v := .slice _ _ _) rfl) <| QR.q' (fun w' hw' => r_mv (v := .int .i64 _) rfl) <| ?_)
      obtain ⟨x9, hx10⟩ := (hm6).get (i := i) (by omega)
      refine QR.q' (fun w' hw' => r_ixR tsl48 (((hm6).lo hw')) rfl rfl (by omega)) <| QR.q' (fun w' hw' => r_fa fa27_0 rfl) <| QR.q' (fun w' hw' => r_ld (v := str x9.Command) sca9 rfl ((((hm6).lo hw')).cell hx10 rfl)) <| QR.q' (fun w' hw' => r_mv (v := .int .i64 _) rfl) <| QR.call ent52 (fun w' hw' => (c_laws_markText w' (k + 2 * (i : Int)) (by omega)).mono fun _ _ h => ⟨h.1, hw'.trans h.2⟩) rfl <| QR.q' (fun w' hw' => r_nes (s := x9.Command) (r := mkT (k + 2 * (i : Int))) rfl rfl) <| QR.nil ?_
      intro w11 hk12
      have hz13 := hk12.size
      have hB14 := hB4.lo hk12
      refine W.cond_n rfl (fun h15 => ?_) (fun h15 => ?_)
      · refine W.seq ?_
        refine W.regS (SR.q' (r_as (v := .int .i64 (-1)) rfl) <| SR.nil ?_)
        refine W.ret ?_
        refine ret1 rfl (v := .int .i64 _) rfl ?_
        exact ⟨eR (eI (z_c_laws_heldLogRecordS_16 L nL hbdL hleL k m hp0 hp1 hp2 hp3 i hi7 h8 x9 hx10 h15)), hB14⟩
      · refine W.skip ?_
        refine W.seq ?_
        refine W.regS (SR.q' (r_mv (v := .int .i64 _) rfl) <| SR.q' (r_add rfl rfl (by omega)) <| SR.q' (r_as (v := .int .i64 _) rfl) <| SR.nil ?_)
        refine W.seq ?_
        refine W.seq ?_
        refine W.regD mo (by kernel_rfl) (QR.q' (fun w' hw' => r_mv (v := .slice _ _ _) rfl) <| QR.q' (fun w' hw' => r_mv (v := .int .i64 _) rfl) <| QR.q' (fun w' hw' => r_ixR tsl48 ((((hm6).lo hk12).lo hw')) rfl rfl (by omega)) <| QR.q' (fun w' hw' => r_fa fa27_1 rfl) <| QR.q' (fun w' hw' => r_ld (v := str x9.Reply) sca9 rfl (((((hm6).lo hk12).lo hw')).cell hx10 rfl)) <| QR.q' (fun w' hw' => r_mv (v := .int .i64 _) rfl) <| QR.call ent52 (fun w' hw' => (c_laws_markText w' ((k + 2 * (i : Int)) + 1) (by omega)).mono fun _ _ h => ⟨h.1, hw'.trans h.2⟩) rfl <| QR.q' (fun w' hw' => r_nes (s := x9.Reply) (r := mkT ((k + 2 * (i : Int)) + 1)) rfl rfl) <| QR.nil ?_)
        intro w17 hk18
        have hz19 := hk18.size
        have hB20 := hB14.lo hk18
        refine W.cond_n rfl (fun h21 => ?_) (fun h21 => ?_)
        · refine W.seq ?_
          refine W.regS (SR.q' (r_as (v := .int .i64 (-1)) rfl) <| SR.nil ?_)
          refine W.ret ?_
          refine ret1 rfl (v := .int .i64 _) rfl ?_
          exact ⟨eR (eI (z_c_laws_heldLogRecordS_22 L nL hbdL hleL k m hp0 hp1 hp2 hp3 i hi7 h8 x9 hx10 h15 h21)), hB20⟩
        · refine W.skip ?_
          refine W.regS (SR.q' (r_mv (v := .int .i64 _) rfl) <| SR.q' (r_add rfl rfl (by omega)) <| SR.q' (r_as (v := .int .i64 _) rfl) <| SR.nil ?_)
          refine W.regS (SR.q' (r_mv (v := .int .i64 _) rfl) <| SR.q' (r_add rfl rfl (by omega)) <| SR.q' (r_as (v := .int .i64 _) rfl) <| SR.nil ?_)
          refine ⟨i + 1, _, rfl, ⟨rfl, (eI (by first | omega | (dsimp only; omega))), (eI (by first | omega | (dsimp only; omega))), trivial⟩, ⟨hB20, ((hm6).lo hk12).lo hk18, ?_⟩, ?_⟩
          · exact (z_c_laws_heldLogRecordS_23 L nL hbdL hleL k m hp0 hp1 hp2 hp3 i hi7 h8 x9 hx10 h15 h21)
          · exact (z_c_laws_heldLogRecordS_24 L nL hbdL hleL k m hp0 hp1 hp2 hp3 i hi7 h8 x9 hx10 h15 h21)
    · refine W.exit (xin_here ?_)
      refine W.seq ?_
      refine W.regS (SR.q' (r_mv (v := .int .i64 _) rfl) <| SR.q' (r_as (v := .int .i64 _) rfl) <| SR.nil ?_)
      refine W.ret ?_
      refine ret1 rfl (v := .int .i64 _) rfl ?_
      exact ⟨eR (eI (z_c_laws_heldLogRecordS_25 L nL hbdL hleL k m hp0 hp1 hp2 hp3 i hi7 h8)), hB4⟩
end Go.Proofs.YthlbmkpkgiabnaaDoor
