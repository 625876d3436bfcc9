/- Words and walks of this claim. -/
import Derived.Test.YtndcchndcghmoaaGreatDoorChecked
import Derived.Test.YtndcchndcghmoaaGreatDoorMExactReplayLoge
set_option linter.unusedVariables false
namespace Go.Proofs.YtndcchndcghmoaaGreatDoor
open Go Go.RowKit Fw
set_option maxRecDepth 10000
set_option maxHeartbeats 2000000
set_option linter.unusedVariables false
theorem fa27_0 : FA Tryz.prog 27 0 0 := fun _ _ => by kernel_rfl
theorem fa27_1 : FA Tryz.prog 27 1 1 := fun _ _ => by kernel_rfl
theorem fa27_2 : FA Tryz.prog 27 2 2 := fun _ _ => by kernel_rfl
theorem z_c_laws_szLog_10 (r : Log) (left : Int) (hp0 : 0 ≤ left) (hp1 : left ≤ 1048576) (hp2 : (r.Durable.length : Int) ≤ 9223372036854775807) (hp3 : (r.Pending.length : Int) ≤ 9223372036854775807) (h9 : (left - (r.Durable.length : Int)) < 0) : (-1) = szN (r.Durable.length + r.Pending.length) left := by
 first | exact szN_neg ‹_› | exact szN_neg1 ‹_› | exact szN_neg2 ‹_› ‹_› | exact szN_add ‹_› ‹_› | (unfold szN at *; repeat (split at *)) <;> omega
theorem z_c_laws_szLog_12 (r : Log) (left : Int) (hp0 : 0 ≤ left) (hp1 : left ≤ 1048576) (hp2 : (r.Durable.length : Int) ≤ 9223372036854775807) (hp3 : (r.Pending.length : Int) ≤ 9223372036854775807) (h9 : ¬ ((left - (r.Durable.length : Int)) < 0)) (h11 : ((left - (r.Durable.length : Int)) - (r.Pending.length : Int)) < 0) : (-1) = szN (r.Durable.length + r.Pending.length) left := by
 first | exact szN_neg ‹_› | exact szN_neg1 ‹_› | exact szN_neg2 ‹_› ‹_› | exact szN_add ‹_› ‹_› | (unfold szN at *; repeat (split at *)) <;> omega
theorem z_c_laws_szLog_13 (r : Log) (left : Int) (hp0 : 0 ≤ left) (hp1 : left ≤ 1048576) (hp2 : (r.Durable.length : Int) ≤ 9223372036854775807) (hp3 : (r.Pending.length : Int) ≤ 9223372036854775807) (h9 : ¬ ((left - (r.Durable.length : Int)) < 0)) (h11 : ¬ (((left - (r.Durable.length : Int)) - (r.Pending.length : Int)) < 0)) : (left - (r.Durable.length : Int)) - (r.Pending.length : Int) = szN (r.Durable.length + r.Pending.length) left := by
 first | exact szN_neg ‹_› | exact szN_neg1 ‹_› | exact szN_neg2 ‹_› ‹_› | exact szN_add ‹_› ‹_› | (unfold szN at *; repeat (split at *)) <;> omega
theorem c_laws_szLog (w : World) (r : Log) (left : Int) (hp0 : 0 ≤ left) (hp1 : left ≤ 1048576) (hp2 : (r.Durable.length : Int) ≤ 9223372036854775807) (hp3 : (r.Pending.length : Int) ≤ 9223372036854775807) : Calls Tryz.prog 32 #[.agg (List.toArray (encLog r)), .int .i64 left] w fun e w' => e = .returned (.int .i64 (szN (r.Durable.length + r.Pending.length) left)) ∧ Lo w w' := by
 refine calls_W 20 Tryz.func32 rfl rfl rfl (Ws (Wr (SR.box (v := .agg (List.toArray _)) (l := [str r.Durable, str r.Pending, .int .i64 r.Count]) rfl rfl ?_)))
 intro g1 w2 hg3 hk4 hs5 hb6
 have hB8 := (Lo.refl w).lo hk4
 refine Q (aI rfl) <| Qn (Ws (Wr (Q (mI rfl) <| Q (fA fa27_0 rfl) <| Q (lB sca9 rfl hb6 rfl) <| Q (r_len_s und9 rfl) <| Q (r_sub rfl rfl (by omega)) <| Q (aI rfl) <| Qn (Ws (Ws (Wr (Q (mI rfl) <| Q (r_lt rfl rfl) <| Qn (W.cond_d rfl (fun h9 => ?_) (fun h9 => ?_)))))))))
 ·refine Ws (Wr (Q (r_as (v := .int .i64 (-1)) rfl) <| Qn (W.ret (ret1 rfl (v := .int .i64 _) rfl (⟨eR (eI (z_c_laws_szLog_10 r left hp0 hp1 hp2 hp3 h9)), hB8⟩)))))
 ·refine W.skip (Ws (Wr (Q (mI rfl) <| Q (fA fa27_1 rfl) <| Q (lB sca9 rfl hb6 rfl) <| Q (r_len_s und9 rfl) <| Q (r_sub rfl rfl (by omega)) <| Q (aI rfl) <| Qn (Ws (Ws (Wr (Q (mI rfl) <| Q (r_lt rfl rfl) <| Qn (W.cond_d rfl (fun h11 => ?_) (fun h11 => ?_)))))))))
  ·refine Ws (Wr (Q (r_as (v := .int .i64 (-1)) rfl) <| Qn (W.ret (ret1 rfl (v := .int .i64 _) rfl (⟨eR (eI (z_c_laws_szLog_12 r left hp0 hp1 hp2 hp3 h9 h11)), hB8⟩)))))
  ·refine W.skip (Ws (Wr (Q (mI rfl) <| Q (aI rfl) <| Qn (W.ret (ret1 rfl (v := .int .i64 _) rfl (⟨eR (eI (z_c_laws_szLog_13 r left hp0 hp1 hp2 hp3 h9 h11)), hB8⟩))))))
theorem c_laws_toLog (w : World) (r : Log) : Calls Tryz.prog 33 #[.agg (List.toArray (encLog r))] w fun e w' => e = .returned (.agg (List.toArray (encLog r))) ∧ Lo w w' := by
 refine calls_W 14 Tryz.func33 rfl rfl rfl (Ws (Wr (SR.box (v := .agg (List.toArray _)) (l := [str r.Durable, str r.Pending, .int .i64 r.Count]) rfl rfl ?_)))
 intro g1 w2 hg3 hk4 hs5 hb6
 refine SR.alloc (l := [str ([] : List UInt8), str ([] : List UInt8), .int .i64 0]) tz35 rfl ?_
 intro g9 w10 hg11 hk12 hs13 hb14
 refine Qn (Ws (Wr (SR.alloc (l := [str ([] : List UInt8), str ([] : List UInt8), .int .i64 0]) tz35 rfl ?_)))
 intro g17 w18 hg19 hk20 hs21 hb22
 refine Qn (Ws ?_)
 have hm25 := (hb6.lo hk12).lo hk20
 refine Wr (Q (fA fa27_0 rfl) <| Q (lB sca9 rfl hm25 rfl) <| Q (fA fa35_0 rfl) <| Qw (o := 0) (vs := [str r.Durable]) sca9.2 rfl rfl rfl rfl hb22 ler rfl ?_)
 intro w26 hk27 hs28 hb29
 refine Qn (Ws (Wr (Q (fA fa27_1 rfl) <| Q (lB sca9 rfl (hm25.kn hk27) rfl) <| Q (fA fa35_1 rfl) <| Qw (o := 1) (vs := [str r.Pending]) sca9.2 rfl rfl rfl rfl hb29 ler rfl ?_)))
 intro w33 hk34 hs35 hb36
 refine Qn (Ws (Wr (Q (fA fa27_2 rfl) <| Q (lB sca3 rfl ((hm25.kn hk27).kn hk34) rfl) <| Q (fA fa35_2 rfl) <| Qw (o := 2) (vs := [.int .i64 r.Count]) sca3.2 rfl rfl rfl rfl hb36 ler rfl ?_)))
 intro w40 hk41 hs42 hb43
 refine Qn (Ws (Wr (Q (lG agg35 rfl hb43 rfl) <| Qw (o := 0) (vs := [str r.Durable, str r.Pending, .int .i64 r.Count]) agg35.2 rfl rfl rfl rfl ((((hb14.lo hk20).kn hk27).kn hk34).kn hk41) ler rfl ?_)))
 intro w47 hk48 hs49 hb50
 refine Qn (W.ret (retC rfl rfl agg35 hb50 rfl (⟨eR (eA (by first | rfl | (first | rfl | omega | grind))), ((((((((Lo.refl w).lo hk4).lo hk12).lo hk20).new hk27).new hk34).new hk41).new hk48)⟩)))
end Go.Proofs.YtndcchndcghmoaaGreatDoor
namespace Go.Proofs.YtndcchndcghmoaaGreatDoor
open Go Go.RowKit Fw
set_option maxRecDepth 10000
set_option maxHeartbeats 2000000
set_option linter.unusedVariables false
theorem agg27 : TAgg Tryz.prog 27 3 := tG
theorem ent23 : Ent Tryz.prog 23 := en Tryz.func23
theorem ent24 : Ent Tryz.prog 24 := en Tryz.func24
theorem ent32 : Ent Tryz.prog 32 := en Tryz.func32
theorem ent33 : Ent Tryz.prog 33 := en Tryz.func33
theorem und4 : Tryz.prog.underlying 4 = some (.bool) := by kernel_rfl
theorem c_laws_FnExactReplayLog (w : World) (n : Int) (l : Log) (hp0 : (l.Durable.length : Int) ≤ 9223372036854775807 ∧ (l.Pending.length : Int) ≤ 9223372036854775807) (hE : EnvW w) : Calls Tryz.prog 6 #[.int .i64 n, .agg (List.toArray (encLog l))] w fun e w' => e = .returned (.bool true) ∧ Lo w w' := by
 refine calls_W 37 Tryz.func6 rfl rfl rfl (Ws (Wr (SR.box (v := .agg (List.toArray _)) (l := [str l.Durable, str l.Pending, .int .i64 l.Count]) rfl rfl ?_)))
 intro g1 w2 hg3 hk4 hs5 hb6
 refine Q (aB rfl) <| Qn (Ws (Wr (Q (aI rfl) <| Qn (Ws (Wr (Q (lG agg27 rfl hb6 rfl) <| Q (mI rfl) <| Qv ent32 (c_laws_szLog w2 l 1048576 (by omega) (by omega) (by omega) (by omega)) rfl fun w9 hk10 hz11 => ?_))))))
 have hB12 := ((Lo.refl w).lo hk4).lo hk10
 refine Q (aI rfl) <| Qn (Ws (Ws (Wr (Q (mI rfl) <| Q (r_lt rfl rfl) <| Qn (W.cond_d rfl (fun h13 => ?_) (fun h13 => ?_))))))
 ·refine Ws (Wr (Q (aB rfl) <| Qn (W.ret (ret1 rfl (v := .bool _) rfl (⟨eR rfl, hB12⟩)))))
 ·have hq14 := szN_ok h13
  have hq15 := szN_ok h13
  refine W.skip (Ws (Wr (Q (mI rfl) <| Q (lG agg27 rfl (hb6.lo hk10) rfl) <| Qv ent33 (c_laws_toLog w9 l) rfl fun w16 hk17 hz18 => (Qv ent24 (c_spec_ReplayLog w16 n l (by omega)) rfl fun w20 hk21 hz22 => (Q (mT rfl) <| Q (xI rfl rfl) <| Q (xB rfl rfl) <| Q (aI rfl) <| Q (aB rfl) <| Qn (Ws (Wr (Q (mI rfl) <| Q (lG agg27 rfl (((hb6.lo hk10).lo hk17).lo hk21) rfl) <| Qv ent33 (c_laws_toLog w20 l) rfl fun w25 hk26 hz27 => ?_))))))))
  have hB28 := ((hB12.lo hk17).lo hk21).lo hk26
  refine Qv ent23 (c_impl_ReplayLog w25 n l (by omega) (hE.lo hB28)) rfl fun w29 hk30 hz31 => (Q (mT rfl) <| Q (xI rfl rfl) <| Q (xB rfl rfl) <| Q (aI rfl) <| Q (aB rfl) <| Qn (Ws (Ws (Wr (Q (mI rfl) <| Q (mI rfl) <| Q (r_ne_s rfl rfl) <| Q (mB rfl) <| Qg rfl (mB rfl) <| Qg rfl (mB rfl) <| Qg rfl (r_neb_s und4 rfl rfl) <| Q (r_pick false rfl (v := .bool _) rfl) <| Qn (W.cond_f rfl (W.skip (Ws (Wr (Q (aB rfl) <| Qn (W.ret (ret1 rfl (v := .bool _) rfl (⟨eR rfl, (hB28.lo hk30)⟩)))))))))))))
end Go.Proofs.YtndcchndcghmoaaGreatDoor
