/- Words and walks of this claim. -/
import Derived.Test.YtndcchndcghmoaaGreatDoorChecked
import Derived.Test.YtndcchndcghmoaaGreatDoorMExactExecuteCommande
set_option linter.unusedVariables false
namespace Go.Proofs.YtndcchndcghmoaaGreatDoor
open Go Go.RowKit Fw
set_option maxRecDepth 10000
set_option maxHeartbeats 2000000
set_option linter.unusedVariables false
theorem ent41 : Ent Tryz.prog 41 := en Tryz.func41
theorem ent44 : Ent Tryz.prog 44 := en Tryz.func44
theorem ent45 : Ent Tryz.prog 45 := en Tryz.func45
theorem c_spec_ExecuteCommand (w : World) (c : Console) {Ac1 : Option Addr} {nc1 cc1 Bc1 : Nat} (hc1 : SlR w Bc1 encLMap 3 Ac1 nc1 cc1 c.Library.Maps) {Ac2 : Option Addr} {nc2 cc2 Bc2 : Nat} (hc2 : SlR w Bc2 encAway 2 Ac2 nc2 cc2 c.Library.Away) (s : List UInt8) (hp0 : (c.Library.Maps.length : Int) ≤ 1048576 ∧ (c.Library.Away.length : Int) ≤ 1048576 ∧ (c.Log.Durable.length : Int) + (c.Log.Pending.length : Int) ≤ 1048576) (hp1 : (s.length : Int) ≤ 1048576) : Calls Tryz.prog 10 #[.agg (List.toArray [.slice Ac1 nc1 cc1, .slice Ac2 nc2 cc2, .int .i64 c.Library.Bought, .int .i64 c.Library.Dropped, .int .i64 c.Library.Mended, str c.Log.Durable, str c.Log.Pending, .int .i64 c.Log.Count]), str s] w fun e w' => ∃ (A1' : Option Addr) (n1' c1' : Nat) (A2' : Option Addr) (n2' c2' : Nat), e = .returned (.tuple (List.toArray [.agg (List.toArray [.slice A1' n1' c1', .slice A2' n2' c2', .int .i64 (((execN c s).1).Library.Bought), .int .i64 (((execN c s).1).Library.Dropped), .int .i64 (((execN c s).1).Library.Mended), str (((execN c s).1).Log.Durable), str (((execN c s).1).Log.Pending), .int .i64 (((execN c s).1).Log.Count)]), str ((execN c s).2)])) ∧ SlO w' w.heap.size encLMap 3 102 A1' n1' c1' (((execN c s).1).Library.Maps) ∧ SlO w' w.heap.size encAway 2 129 A2' n2' c2' (((execN c s).1).Library.Away) ∧ Dj A1' A2' ∧ Lo w w' := by
 refine calls_W 51 Tryz.func10 rfl rfl rfl ?_
 have hbdc1 := hc1.bound
 have hlec1 := hc1.len
 have hBbc1 := hc1.bd
 have hbdc2 := hc2.bound
 have hlec2 := hc2.len
 have hBbc2 := hc2.bd
 refine Ws (Wr (SR.box (v := .agg (List.toArray _)) (l := [.slice Ac1 nc1 cc1, .slice Ac2 nc2 cc2, .int .i64 c.Library.Bought, .int .i64 c.Library.Dropped, .int .i64 c.Library.Mended, str c.Log.Durable, str c.Log.Pending, .int .i64 c.Log.Count]) rfl rfl ?_))
 intro g1 w2 hg3 hk4 hs5 hb6
 refine SR.alloc (l := [.slice none 0 0, .slice none 0 0, .int .i64 0, .int .i64 0, .int .i64 0, str ([] : List UInt8), str ([] : List UInt8), .int .i64 0]) tz37 rfl ?_
 intro g9 w10 hg11 hk12 hs13 hb14
 refine Q (r_as (v := str ([] : List UInt8)) rfl) <| Qn (Ws ?_)
 have hm17 := (hc1.lo hk4).lo hk12
 have hm18 := (hc2.lo hk4).lo hk12
 refine Wr (Q (lG agg37 rfl (hb6.lo hk12) rfl) <| SR.call ent41 (c_spec_l34Own w10 c hm17 hm18 (by omega) (by omega)) rfl ?_)
 rintro e w19 ⟨A21, n22, c23, A25, n26, c27, rfl, hO24, hO28, hd29, hk20⟩
 refine ⟨_, rfl, ?_⟩
 have hz30 := hk20.size
 have hl32 := hO24.len
 have hl33 := hO24.rd.bound
 have hl34 := hO28.len
 have hl35 := hO28.rd.bound
 refine SR.alloc (l := [.slice none 0 0, .slice none 0 0, .int .i64 0, .int .i64 0, .int .i64 0, str ([] : List UInt8), str ([] : List UInt8), .int .i64 0]) tz37 rfl ?_
 intro g36 w37 hg38 hk39 hs40 hb41
 refine Qw (o := 0) (vs := [.slice A21 n22 c23, .slice A25 n26 c27, .int .i64 c.Library.Bought, .int .i64 c.Library.Dropped, .int .i64 c.Library.Mended, str c.Log.Durable, str c.Log.Pending, .int .i64 c.Log.Count]) agg37.2 rfl rfl rfl rfl hb41 ler rfl ?_
 intro w46 hk47 hs48 hb49
 refine Qn (Ws (W.block (Ws ?_)))
 have hm52 := (((hb6.lo hk12).lo hk20).lo hk39).kn hk47
 have hm55 := ((hb14.lo hk20).lo hk39).kn hk47
 have hm56 := (hO24.lo hk39).kd hk47 (SlO.ne (g := g36) hO24)
 have hm57 := (hO28.lo hk39).kd hk47 (SlO.ne (g := g36) hO28)
 refine Wr (Q (lG agg37 rfl hm52 rfl) <| Qv ent42 (c_spec_l34Good w46 c (((hm17.lo hk20).lo hk39).kn hk47) (((hm18.lo hk20).lo hk39).kn hk47) (by omega)) rfl fun w58 hk59 hz60 => ?_)
 have hB61 := ((((((Lo.refl w).lo hk4).lo hk12).lo hk20).lo hk39).new hk47).lo hk59
 refine Q (r_not rfl) <| Q (aB rfl) <| Qn (W.cond_n rfl (fun h62 => ?_) (fun h62 => ?_))
 ·refine Ws (Wr (Q (lG agg37 rfl (hb49.lo hk59) rfl) <| Qw (o := 0) (vs := [.slice A21 n22 c23, .slice A25 n26 c27, .int .i64 c.Library.Bought, .int .i64 c.Library.Dropped, .int .i64 c.Library.Mended, str c.Log.Durable, str c.Log.Pending, .int .i64 c.Log.Count]) agg37.2 rfl rfl rfl rfl (hm55.lo hk59) ler rfl ?_))
  intro w63 hk64 hs65 hb66
  refine Q (r_as (v := str ([110, 111] : List UInt8)) rfl) <| Qn (W.ret (retCT rfl rfl agg37 hb66 rfl (v := str _) rfl ?_))
  refine ⟨A21, n22, c23, A25, n26, c27, eR (eT2 (eA (eC rfl (eC rfl (eC (eI ?_) (eC (eI ?_) (eC (eI ?_) (eC (eS ?_) (eC (eS ?_) (eC (eI ?_) rfl))))))))) (eS ?_)), (SlO.eqv (((hm56.lo hk59).kn hk64).down) ?_), (SlO.eqv (((hm57.lo hk59).kn hk64).down) ?_), hd29, (hB61.new hk64)⟩ <;> (rw [exec_no ‹¬ ConOK _›]; try rfl)
 ·have hq69 := con_rng h62
  have hq70 := And.left h62
  refine Ws (Wr (Q (mS rfl) <| Q (r_build (vs := [(0, str s)]) rfl (bld71_0 _)) <| Qv ent43 (c_spec_l33Good w58 (⟨s, ([] : List UInt8)⟩ : LogRecord) (by first | omega | (dsimp only; simp only [List.length_drop]; omega) | (dsimp only; omega) | (simp only [List.length_cons, List.length_nil]; omega))) rfl fun w71 hk72 hz73 => ?_))
  have hB74 := hB61.lo hk72
  refine Q (r_not rfl) <| Q (aB rfl) <| Qn (W.cond_n rfl (fun h75 => ?_) (fun h75 => ?_))
  ·refine Ws (Wr (Q (lG agg37 rfl ((hb49.lo hk59).lo hk72) rfl) <| Qw (o := 0) (vs := [.slice A21 n22 c23, .slice A25 n26 c27, .int .i64 c.Library.Bought, .int .i64 c.Library.Dropped, .int .i64 c.Library.Mended, str c.Log.Durable, str c.Log.Pending, .int .i64 c.Log.Count]) agg37.2 rfl rfl rfl rfl ((hm55.lo hk59).lo hk72) ler rfl ?_))
   intro w83 hk84 hs85 hb86
   refine Q (r_as (v := str ([98, 97, 100] : List UInt8)) rfl) <| Qn (W.ret (retCT rfl rfl agg37 hb86 rfl (v := str _) rfl ?_))
   refine ⟨A21, n22, c23, A25, n26, c27, eR (eT2 (eA (eC rfl (eC rfl (eC (eI ?_) (eC (eI ?_) (eC (eI ?_) (eC (eS ?_) (eC (eS ?_) (eC (eI ?_) rfl))))))))) (eS ?_)), (SlO.eqv ((((hm56.lo hk59).lo hk72).kn hk84).down) ?_), (SlO.eqv ((((hm57.lo hk59).lo hk72).kn hk84).down) ?_), hd29, (hB74.new hk84)⟩ <;> (rw [exec_bad (c := c) (s := s) (by first | assumption | exact Classical.not_not.1 ‹_›) (by assumption)]; try rfl)
  ·have hq89 := rec_rngS h75
   refine Ws ?_
   have hm90 := (hm52.lo hk59).lo hk72
   have hm93 := (hm55.lo hk59).lo hk72
   have hm94 := (hb49.lo hk59).lo hk72
   have hm95 := (hm56.lo hk59).lo hk72
   have hm96 := (hm57.lo hk59).lo hk72
   refine Wr (Q (fA fa37_1 rfl) <| Q (fA fa35_2 rfl) <| Q (r_ld (v := .int .i64 c.Log.Count) sca3 rfl (hm90.cell2 rfl)) <| Q (r_eq rfl rfl) <| Q (aB rfl) <| Qn (W.cond_d rfl (fun h97 => ?_) (fun h97 => ?_)))
   ·refine Ws (Wr (Q (lG agg37 rfl hm94 rfl) <| Qw (o := 0) (vs := [.slice A21 n22 c23, .slice A25 n26 c27, .int .i64 c.Library.Bought, .int .i64 c.Library.Dropped, .int .i64 c.Library.Mended, str c.Log.Durable, str c.Log.Pending, .int .i64 c.Log.Count]) agg37.2 rfl rfl rfl rfl hm93 ler rfl ?_))
    intro w98 hk99 hs100 hb101
    refine Q (r_as (v := str ([102, 117, 108, 108] : List UInt8)) rfl) <| Qn (W.ret (retCT rfl rfl agg37 hb101 rfl (v := str _) rfl ?_))
    refine ⟨A21, n22, c23, A25, n26, c27, eR (eT2 (eA (eC rfl (eC rfl (eC (eI ?_) (eC (eI ?_) (eC (eI ?_) (eC (eS ?_) (eC (eS ?_) (eC (eI ?_) rfl))))))))) (eS ?_)), (SlO.eqv ((hm95.kn hk99).down) ?_), (SlO.eqv ((hm96.kn hk99).down) ?_), hd29, (hB74.new hk99)⟩ <;> (rw [exec_full (c := c) (s := s) (by first | assumption | exact Classical.not_not.1 ‹_›) (by first | assumption | exact Classical.not_not.1 ‹_›) (by omega)]; try rfl)
   ·refine W.skip (Ws (Wr (Q (lG agg37 rfl hm94 rfl) <| Q (mS rfl) <| SR.call ent44 (c_spec_l34Run w71 c hm95 hm96 s hd29 (by omega) (by omega) (by assumption) (by omega)) rfl ?_)))
    rintro e w104 ⟨A106, n107, c108, A110, n111, c112, rfl, hO109, hO113, hd114, hN115, hN116, hk105⟩
    refine ⟨_, rfl, ?_⟩
    have hz117 := hk105.size
    have hl125 := hO109.len
    have hl126 := hO109.rd.bound
    have hq127 := (run_len (s := s) ‹LibOK c.Library›).1
    have hl128 := hO113.len
    have hl129 := hO113.rd.bound
    have hq130 := (run_len (s := s) ‹LibOK c.Library›).2
    refine Q (mT rfl) <| Q (xG rfl rfl) <| Q (xS rfl rfl) <| SR.alloc (l := [.slice none 0 0, .slice none 0 0, .int .i64 0, .int .i64 0, .int .i64 0, str ([] : List UInt8), str ([] : List UInt8), .int .i64 0]) tz37 rfl ?_
    intro g131 w132 hg133 hk134 hs135 hb136
    refine Qw (o := 0) (vs := [.slice A106 n107 c108, .slice A110 n111 c112, .int .i64 (((runS c s).1).Library.Bought), .int .i64 (((runS c s).1).Library.Dropped), .int .i64 (((runS c s).1).Library.Mended), str (((runS c s).1).Log.Durable), str (((runS c s).1).Log.Pending), .int .i64 (((runS c s).1).Log.Count)]) agg37.2 rfl rfl rfl rfl hb136 ler rfl ?_
    intro w143 hk144 hs145 hb146
    refine Q (aS rfl) <| Qn (Ws (Wr (Q (lG agg37 rfl hb146 rfl) <| SR.call ent41 (c_spec_l34Own w143 ((runS c s).1) (((hO109.lo hk134).kd hk144 (SlO.ne (g := g131) hO109)).rd) (((hO113.lo hk134).kd hk144 (SlO.ne (g := g131) hO113)).rd) (by omega) (by omega)) rfl ?_)))
    rintro e w158 ⟨A160, n161, c162, A164, n165, c166, rfl, hO163, hO167, hd168, hk159⟩
    refine ⟨_, rfl, ?_⟩
    have hz169 := hk159.size
    have hl171 := hO163.len
    have hl172 := hO163.rd.bound
    have hq173 := (run_len (s := s) ‹LibOK c.Library›).1
    have hl174 := hO167.len
    have hl175 := hO167.rd.bound
    have hq176 := (run_len (s := s) ‹LibOK c.Library›).2
    refine Qw (o := 0) (vs := [.slice A160 n161 c162, .slice A164 n165 c166, .int .i64 (((runS c s).1).Library.Bought), .int .i64 (((runS c s).1).Library.Dropped), .int .i64 (((runS c s).1).Library.Mended), str (((runS c s).1).Log.Durable), str (((runS c s).1).Log.Pending), .int .i64 (((runS c s).1).Log.Count)]) agg37.2 rfl rfl rfl rfl ((((hm94.lo hk105).lo hk134).kn hk144).lo hk159) ler rfl ?_
    intro w177 hk178 hs179 hb180
    have hB182 := ((((hB74.lo hk105).lo hk134).new hk144).lo hk159).new hk178
    refine Qn (Ws (Ws ?_))
    have hm183 := ((((hm90.lo hk105).lo hk134).kn hk144).lo hk159).kn hk178
    have hm186 := ((((hm93.lo hk105).lo hk134).kn hk144).lo hk159).kn hk178
    refine Wr (Q (mS rfl) <| Q (r_len_s und9 rfl) <| Q (r_gt rfl rfl) <| Qn (W.cond_d rfl (fun h187 => ?_) (fun h187 => ?_)))
    ·refine Wr (Q (r_as (v := str ([108, 111, 110, 103] : List UInt8)) rfl) <| Qn (Ws (Wr (Q (fA fa37_1 rfl) <| Q (r_lda (l := [str c.Log.Durable, str c.Log.Pending, .int .i64 c.Log.Count]) agg35 rfl (fun _ _ hu => hm183.cells (vs := [str c.Log.Durable, str c.Log.Pending, .int .i64 c.Log.Count]) rfl hu) rfl) <| Q (mS rfl) <| Q (mS rfl) <| Q (r_build (vs := [(0, str s), (1, str ([108, 111, 110, 103] : List UInt8))]) rfl (bld71_0_1 _ _)) <| Qv ent45 (c_spec_AppendRecord w177 c.Log (⟨s, ([108, 111, 110, 103] : List UInt8)⟩ : LogRecord) (by omega) (by first | omega | (dsimp only; omega) | (simp only [List.length_cons, List.length_nil]; omega))) rfl fun w188 hk189 hz190 => ?_))))
     have hq192 : (appN c.Log (⟨s, ([108, 111, 110, 103] : List UInt8)⟩ : LogRecord)).1.Durable.length + (appN c.Log (⟨s, ([108, 111, 110, 103] : List UInt8)⟩ : LogRecord)).1.Pending.length ≤ c.Log.Durable.length + c.Log.Pending.length + 406 := appN_len c.Log (⟨s, ([108, 111, 110, 103] : List UInt8)⟩ : LogRecord)
     refine Q (mT rfl) <| Q (xG rfl rfl) <| Q (xI rfl rfl) <| Q (fA fa37_1 rfl) <| Qw (o := 5) (vs := [str (((appN c.Log (⟨s, ([108, 111, 110, 103] : List UInt8)⟩ : LogRecord)).1).Durable), str (((appN c.Log (⟨s, ([108, 111, 110, 103] : List UInt8)⟩ : LogRecord)).1).Pending), .int .i64 (((appN c.Log (⟨s, ([108, 111, 110, 103] : List UInt8)⟩ : LogRecord)).1).Count)]) agg35.2 rfl rfl rfl rfl (hb180.lo hk189) ler rfl ?_
     intro w193 hk194 hs195 hb196
     refine Qn (Ws (Wr (Q (lG agg37 rfl hb196 rfl) <| Q (mS rfl) <| Qw (o := 0) (vs := [.slice A160 n161 c162, .slice A164 n165 c166, .int .i64 (((runS c s).1).Library.Bought), .int .i64 (((runS c s).1).Library.Dropped), .int .i64 (((runS c s).1).Library.Mended), str (((appN c.Log (⟨s, ([108, 111, 110, 103] : List UInt8)⟩ : LogRecord)).1).Durable), str (((appN c.Log (⟨s, ([108, 111, 110, 103] : List UInt8)⟩ : LogRecord)).1).Pending), .int .i64 (((appN c.Log (⟨s, ([108, 111, 110, 103] : List UInt8)⟩ : LogRecord)).1).Count)]) agg37.2 rfl rfl rfl rfl ((hm186.lo hk189).kn hk194) ler rfl ?_)))
     intro w202 hk203 hs204 hb205
     refine Q (aS rfl) <| Qn (W.ret (retCT rfl rfl agg37 hb205 rfl (v := str _) rfl ?_))
     refine ⟨A160, n161, c162, A164, n165, c166, eR (eT2 (eA (eC rfl (eC rfl (eC (eI ?_) (eC (eI ?_) (eC (eI ?_) (eC (eS ?_) (eC (eS ?_) (eC (eI ?_) rfl))))))))) (eS ?_)), (SlO.eqv (((((hO163.kn hk178).lo hk189).kn hk194).kn hk203).down) ?_), (SlO.eqv (((((hO167.kn hk178).lo hk189).kn hk194).kn hk203).down) ?_), hd168, (((hB182.lo hk189).new hk194).new hk203)⟩ <;> (rw [exec_Sl (c := c) (s := s) (by first | assumption | exact Classical.not_not.1 ‹_›) (by first | assumption | exact Classical.not_not.1 ‹_›) (by omega) (by omega)]; try rfl)
    ·refine W.skip (Ws (Wr (Q (fA fa37_1 rfl) <| Q (r_lda (l := [str c.Log.Durable, str c.Log.Pending, .int .i64 c.Log.Count]) agg35 rfl (fun _ _ hu => hm183.cells (vs := [str c.Log.Durable, str c.Log.Pending, .int .i64 c.Log.Count]) rfl hu) rfl) <| Q (mS rfl) <| Q (mS rfl) <| Q (r_build (vs := [(0, str s), (1, str ((runS c s).2))]) rfl (bld71_0_1 _ _)) <| Qv ent45 (c_spec_AppendRecord w177 c.Log (⟨s, (runS c s).2⟩ : LogRecord) (by omega) (by first | omega | (dsimp only; omega) | (simp only [List.length_cons, List.length_nil]; omega))) rfl fun w208 hk209 hz210 => ?_)))
     have hq212 : (appN c.Log (⟨s, (runS c s).2⟩ : LogRecord)).1.Durable.length + (appN c.Log (⟨s, (runS c s).2⟩ : LogRecord)).1.Pending.length ≤ c.Log.Durable.length + c.Log.Pending.length + 406 := appN_len c.Log (⟨s, (runS c s).2⟩ : LogRecord)
     refine Q (mT rfl) <| Q (xG rfl rfl) <| Q (xI rfl rfl) <| Q (fA fa37_1 rfl) <| Qw (o := 5) (vs := [str (((appN c.Log (⟨s, (runS c s).2⟩ : LogRecord)).1).Durable), str (((appN c.Log (⟨s, (runS c s).2⟩ : LogRecord)).1).Pending), .int .i64 (((appN c.Log (⟨s, (runS c s).2⟩ : LogRecord)).1).Count)]) agg35.2 rfl rfl rfl rfl (hb180.lo hk209) ler rfl ?_
     intro w213 hk214 hs215 hb216
     refine Qn (Ws (Wr (Q (lG agg37 rfl hb216 rfl) <| Q (mS rfl) <| Qw (o := 0) (vs := [.slice A160 n161 c162, .slice A164 n165 c166, .int .i64 (((runS c s).1).Library.Bought), .int .i64 (((runS c s).1).Library.Dropped), .int .i64 (((runS c s).1).Library.Mended), str (((appN c.Log (⟨s, (runS c s).2⟩ : LogRecord)).1).Durable), str (((appN c.Log (⟨s, (runS c s).2⟩ : LogRecord)).1).Pending), .int .i64 (((appN c.Log (⟨s, (runS c s).2⟩ : LogRecord)).1).Count)]) agg37.2 rfl rfl rfl rfl ((hm186.lo hk209).kn hk214) ler rfl ?_)))
     intro w222 hk223 hs224 hb225
     refine Q (aS rfl) <| Qn (W.ret (retCT rfl rfl agg37 hb225 rfl (v := str _) rfl ?_))
     refine ⟨A160, n161, c162, A164, n165, c166, eR (eT2 (eA (eC rfl (eC rfl (eC (eI ?_) (eC (eI ?_) (eC (eI ?_) (eC (eS ?_) (eC (eS ?_) (eC (eI ?_) rfl))))))))) (eS ?_)), (SlO.eqv (((((hO163.kn hk178).lo hk209).kn hk214).kn hk223).down) ?_), (SlO.eqv (((((hO167.kn hk178).lo hk209).kn hk214).kn hk223).down) ?_), hd168, (((hB182.lo hk209).new hk214).new hk223)⟩ <;> (rw [exec_Sy (c := c) (s := s) (by first | assumption | exact Classical.not_not.1 ‹_›) (by first | assumption | exact Classical.not_not.1 ‹_›) (by omega) (by omega)]; try rfl)
end Go.Proofs.YtndcchndcghmoaaGreatDoor
namespace Go.Proofs.YtndcchndcghmoaaGreatDoor
open Go Go.RowKit Fw
set_option maxRecDepth 10000
set_option maxHeartbeats 2000000
set_option linter.unusedVariables false
theorem agg165 : TAgg Tryz.prog 165 3 := tG
theorem agg167 : TAgg Tryz.prog 167 2 := tG
theorem agg25 : TAgg Tryz.prog 25 5 := tG
theorem agg27 : TAgg Tryz.prog 27 3 := tG
theorem ent100 : Ent Tryz.prog 100 := en Tryz.func100
theorem ent101 : Ent Tryz.prog 101 := en Tryz.func101
theorem ent102 : Ent Tryz.prog 102 := en Tryz.func102
theorem ent103 : Ent Tryz.prog 103 := en Tryz.func103
theorem ent104 : Ent Tryz.prog 104 := en Tryz.func104
theorem ent105 : Ent Tryz.prog 105 := en Tryz.func105
theorem ent144 : Ent Tryz.prog 144 := en Tryz.func144
theorem ent145 : Ent Tryz.prog 145 := en Tryz.func145
theorem ent159 : Ent Tryz.prog 159 := en Tryz.func159
theorem ent160 : Ent Tryz.prog 160 := en Tryz.func160
theorem ent32 : Ent Tryz.prog 32 := en Tryz.func32
theorem ent33 : Ent Tryz.prog 33 := en Tryz.func33
theorem ent40 : Ent Tryz.prog 40 := en Tryz.func40
theorem ent46 : Ent Tryz.prog 46 := en Tryz.func46
theorem ent51 : Ent Tryz.prog 51 := en Tryz.func51
theorem ent52 : Ent Tryz.prog 52 := en Tryz.func52
theorem ent53 : Ent Tryz.prog 53 := en Tryz.func53
theorem ent54 : Ent Tryz.prog 54 := en Tryz.func54
theorem ent77 : Ent Tryz.prog 77 := en Tryz.func77
theorem ent78 : Ent Tryz.prog 78 := en Tryz.func78
theorem ent89 : Ent Tryz.prog 89 := en Tryz.func89
theorem ent90 : Ent Tryz.prog 90 := en Tryz.func90
theorem fa165_0 : FA Tryz.prog 165 0 0 := fun _ _ => by kernel_rfl
theorem fa165_1 : FA Tryz.prog 165 1 1 := fun _ _ => by kernel_rfl
theorem fa165_2 : FA Tryz.prog 165 2 2 := fun _ _ => by kernel_rfl
theorem fa167_0 : FA Tryz.prog 167 0 0 := fun _ _ => by kernel_rfl
theorem fa167_1 : FA Tryz.prog 167 1 1 := fun _ _ => by kernel_rfl
theorem fa25_0 : FA Tryz.prog 25 0 0 := fun _ _ => by kernel_rfl
theorem fa25_1 : FA Tryz.prog 25 1 1 := fun _ _ => by kernel_rfl
theorem fa25_2 : FA Tryz.prog 25 2 2 := fun _ _ => by kernel_rfl
theorem fa25_3 : FA Tryz.prog 25 3 3 := fun _ _ => by kernel_rfl
theorem fa25_4 : FA Tryz.prog 25 4 4 := fun _ _ => by kernel_rfl
theorem fa27_0 : FA Tryz.prog 27 0 0 := fun _ _ => by kernel_rfl
theorem fa27_1 : FA Tryz.prog 27 1 1 := fun _ _ => by kernel_rfl
theorem fa27_2 : FA Tryz.prog 27 2 2 := fun _ _ => by kernel_rfl
theorem fa29_0 : FA Tryz.prog 29 0 0 := fun _ _ => by kernel_rfl
theorem fa29_1 : FA Tryz.prog 29 1 5 := fun _ _ => by kernel_rfl
theorem sca22 : TSca Tryz.prog 22 := tS
theorem sca23 : TSca Tryz.prog 23 := tS
theorem tsl22 : TSl Tryz.prog 22 165 3 := ⟨by kernel_rfl, fun _ => by kernel_rfl⟩
theorem tsl23 : TSl Tryz.prog 23 167 2 := ⟨by kernel_rfl, fun _ => by kernel_rfl⟩
theorem und22 : Tryz.prog.underlying 22 = some (.slice 165) := by kernel_rfl
theorem und23 : Tryz.prog.underlying 23 = some (.slice 167) := by kernel_rfl
theorem c_laws_toMap (w : World) (r : LMap) : Calls Tryz.prog 144 #[.agg (List.toArray (encLMap r))] w fun e w' => e = .returned (.agg (List.toArray (encLMap r))) ∧ Lo w w' := by
 refine calls_W 14 Tryz.func144 rfl rfl rfl (Ws (Wr (SR.box (v := .agg (List.toArray _)) (l := [.int .i64 r.Id, .int .i64 r.Copies, .int .i64 r.Torn]) rfl rfl ?_)))
 intro g1 w2 hg3 hk4 hs5 hb6
 refine SR.alloc (l := [.int .i64 0, .int .i64 0, .int .i64 0]) tz102 rfl ?_
 intro g9 w10 hg11 hk12 hs13 hb14
 refine Qn (Ws (Wr (SR.alloc (l := [.int .i64 0, .int .i64 0, .int .i64 0]) tz102 rfl ?_)))
 intro g17 w18 hg19 hk20 hs21 hb22
 refine Qn (Ws ?_)
 have hm25 := (hb6.lo hk12).lo hk20
 refine Wr (Q (fA fa165_0 rfl) <| Q (lB sca3 rfl hm25 rfl) <| Q (fA fa102_0 rfl) <| Qw (o := 0) (vs := [.int .i64 r.Id]) sca3.2 rfl rfl rfl rfl hb22 ler rfl ?_)
 intro w26 hk27 hs28 hb29
 refine Qn (Ws (Wr (Q (fA fa165_1 rfl) <| Q (lB sca3 rfl (hm25.kn hk27) rfl) <| Q (fA fa102_1 rfl) <| Qw (o := 1) (vs := [.int .i64 r.Copies]) sca3.2 rfl rfl rfl rfl hb29 ler rfl ?_)))
 intro w33 hk34 hs35 hb36
 refine Qn (Ws (Wr (Q (fA fa165_2 rfl) <| Q (lB sca3 rfl ((hm25.kn hk27).kn hk34) rfl) <| Q (fA fa102_2 rfl) <| Qw (o := 2) (vs := [.int .i64 r.Torn]) sca3.2 rfl rfl rfl rfl hb36 ler rfl ?_)))
 intro w40 hk41 hs42 hb43
 refine Qn (Ws (Wr (Q (lG agg102 rfl hb43 rfl) <| Qw (o := 0) (vs := [.int .i64 r.Id, .int .i64 r.Copies, .int .i64 r.Torn]) agg102.2 rfl rfl rfl rfl ((((hb14.lo hk20).kn hk27).kn hk34).kn hk41) ler rfl ?_)))
 intro w47 hk48 hs49 hb50
 refine Qn (W.ret (retC rfl rfl agg102 hb50 rfl (⟨eR (eA (by first | rfl | (first | rfl | omega | grind))), ((((((((Lo.refl w).lo hk4).lo hk12).lo hk20).new hk27).new hk34).new hk41).new hk48)⟩)))
theorem z_c_laws_szMapS_2 (L : List LMap) (nL : Nat) (hbdL : (nL : Int) ≤ 9223372036854775807) (hleL : nL = L.length) (left : Int) (hp0 : 0 ≤ left) (hp1 : left ≤ 1048576) (h1 : (left - (nL : Int)) < 0) : (-1) = szN L.length left := by
 unfold szN; split <;> omega
theorem z_c_laws_szMapS_3 (L : List LMap) (nL : Nat) (hbdL : (nL : Int) ≤ 9223372036854775807) (hleL : nL = L.length) (left : Int) (hp0 : 0 ≤ left) (hp1 : left ≤ 1048576) (h1 : ¬ ((left - (nL : Int)) < 0)) : left - (nL : Int) = szN L.length left := by
 unfold szN; split <;> omega
theorem c_laws_szMapS (w : World) {AL : Option Addr} {nL cL BL : Nat}  (L : List LMap) (hL : SlR w BL encLMap 3 AL nL cL L) (left : Int) (hp0 : 0 ≤ left) (hp1 : left ≤ 1048576) : Calls Tryz.prog 77 #[.slice AL nL cL, .int .i64 left] w fun e w' => e = .returned (.int .i64 (szN L.length left)) ∧ Lo w w' := by
 refine calls_W 12 Tryz.func77 rfl rfl rfl ?_
 have hbdL := hL.bound
 have hleL := hL.len
 have hBbL := hL.bd
 refine Ws (Wr (Q (aI rfl) <| Qn (Ws (Wr (Q (mI rfl) <| Q (mL rfl) <| Q (r_len und22 rfl) <| Q (r_sub rfl rfl (by omega)) <| Q (aI rfl) <| Qn (Ws (Ws (Wr (Q (mI rfl) <| Q (r_lt rfl rfl) <| Qn (W.cond_d rfl (fun h1 => ?_) (fun h1 => ?_)))))))))))
 ·refine Ws (Wr (Q (r_as (v := .int .i64 (-1)) rfl) <| Qn (W.ret (ret1 rfl (v := .int .i64 _) rfl (⟨eR (eI (z_c_laws_szMapS_2 L nL hbdL hleL left hp0 hp1 h1)), (Lo.refl w)⟩)))))
 ·refine W.skip (Ws (Wr (Q (mI rfl) <| Q (aI rfl) <| Qn (W.ret (ret1 rfl (v := .int .i64 _) rfl (⟨eR (eI (z_c_laws_szMapS_3 L nL hbdL hleL left hp0 hp1 h1)), (Lo.refl w)⟩))))))
theorem c_laws_toMapS (w : World) {AL : Option Addr} {nL cL BL : Nat}  (L : List LMap) (hL : SlR w BL encLMap 3 AL nL cL L) (hp0 : (nL : Int) ≤ 1048576) : Calls Tryz.prog 89 #[.slice AL nL cL] w fun e w' => ∃ (A1' : Option Addr) (n1' c1' : Nat), e = .returned (.slice A1' n1' c1') ∧ SlO w' w.heap.size encLMap 3 102 A1' n1' c1' L ∧ Lo w w' := by
 refine calls_W 23 Tryz.func89 rfl rfl rfl ?_
 have hbdL := hL.bound
 have hleL := hL.len
 have hBbL := hL.bd
 refine Ws (Wr (Q (r_as (v := .slice none 0 0) rfl) <| Qn (Ws (Wr (Q (mL rfl) <| Q (r_len und22 rfl) <| SR.make (m := nL) (zx := (⟨0, 0, 0⟩ : LMap)) (enc := encLMap) tel31 rfl (fun _ => rfl) rfl rfl (by omega) (by omega) ?_)))))
 intro g1 w2 hg3 hk4 hO5
 have hz6 := hk4.size
 refine Q (aL rfl) <| Qn (Ws (Ws (Wr (Q (aI rfl) <| Qn (W.block (W.loop (σ := Nat) (fun g => [(0, .slice AL nL cL), (2, .slice none 0 0), (3, .slice (pA g1) nL nL), (4, .int .i64 (g : Int))]) (fun g w' => (Lo w w') ∧ (SlR w' BL encLMap 3 AL nL cL L) ∧ (SlO w' w.heap.size encLMap 3 102 (pA g1) nL nL (L.take g ++ List.replicate (nL - g) (⟨0, 0, 0⟩ : LMap))) ∧ (g ≤ nL)) (fun g => nL - g) 0 ?_ ?_ ?_))))))
 ·exact (At.r rfl)
 ·exact ⟨((Lo.refl w).lo hk4), hL.lo hk4, (SlO.eqv hO5 (by exact tk_init)), (by omega)⟩
 ·rintro k f8 w9 hP11
  obtain ⟨hB10, hm12, hm13, hi14⟩ : (Lo w w9) ∧ (SlR w9 BL encLMap 3 AL nL cL L) ∧ (SlO w9 w.heap.size encLMap 3 102 (pA g1) nL nL (L.take k ++ List.replicate (nL - k) (⟨0, 0, 0⟩ : LMap))) ∧ (k ≤ nL) := hP11
  refine (?_ : W _ _ _ _ _ (act _ (sets f8 [(0, .slice AL nL cL), (2, .slice none 0 0), (3, .slice (pA g1) nL nL), (4, .int .i64 (k : Int))])) _)
  have hzw9 := hB10.size
  refine Ws (Ws (Wr (Q (mI rfl) <| Q (mL rfl) <| Q (r_len und22 rfl) <| Q (r_lt rfl rfl) <| Qn (W.cond_d rfl (fun h15 => ?_) (fun h15 => ?_)))))
  ·refine W.skip (Ws (W.block (Wr (Q (mL rfl) <| Q (mI rfl) <| Q (mL rfl) <| Q (mI rfl) <| ?_))))
   obtain ⟨x16, hx17⟩ := hm12.get (i := k) (by omega)
   refine Q (r_ixR tsl22 hm12 rfl rfl (by omega)) <| Q (r_lda (l := encLMap x16) agg165 rfl (fun _ _ hu => hm12.cell hx17 hu) (hm12.esz _)) <| Qv ent144 (c_laws_toMap w9 x16) rfl fun w18 hk19 hz20 => ?_
   obtain ⟨x22, hx23⟩ := ((hm13.lo hk19).rd).get (i := k) (by omega)
   refine Q (r_ixR tsl31 ((hm13.lo hk19).rd) rfl rfl (by omega)) <| SR.storeO (o := 0) (vs := [.int .i64 x16.Id, .int .i64 x16.Copies, .int .i64 x16.Torn]) (x1 := x16) agg102.2 rfl rfl rfl rfl (hm13.lo hk19) hx23 rfl ler rfl ?_
   intro w24 hk25 hs26 hO27
   have hz28 := hk25.size
   have hx30 : ((L.take k ++ List.replicate (nL - k) (⟨0, 0, 0⟩ : LMap)).set ((k : Int).toNat) x16)[(k : Int).toNat]? = some x16 := List.getElem?_set_self (List.getElem?_eq_some_iff.1 hx23).1
   refine Qn ?_
   have hm31 := (hm12.lo hk19).kp hk25 (fun b_ hb e' => by have := (hm13.lo hk19).base_le e'; omega)
   refine Wr (Q (mI rfl) <| Q (r_add rfl rfl (by omega)) <| Q (aI rfl) <| Qn (⟨k + 1, _, rfl, (At.r rfl), ⟨((hB10.lo hk19).step hk25 (fun i_ hi_ e' => by have := (hm13.lo hk19).base_le e'; first | omega | exact e' | exact .inl e' | exact .inr e')), hm31, (SlO.eqv hO27 (by exact tk_set (by assumption) hleL)), ?_⟩, ?_⟩))
   ·exact (by omega)
   ·exact (by omega)
  ·refine W.exit (xin_here (Ws (Wr (Q (mL rfl) <| Q (aL rfl) <| Qn (W.ret (ret1 rfl (v := .slice _ _ _) rfl (⟨(pA g1), nL, nL, eR rfl, (SlO.eqv (hm13.down) (by exact tk_end hleL (by assumption) (by omega))), hB10⟩)))))))
theorem c_laws_eqMap (w : World) (a : LMap) (b : LMap) : Calls Tryz.prog 159 #[.agg (List.toArray (encLMap a)), .agg (List.toArray (encLMap b))] w fun e w' => e = .returned (.bool (decide (a = b))) ∧ Lo w w' := by
 refine calls_W 20 Tryz.func159 rfl rfl rfl (Ws (Wr (SR.box (v := .agg (List.toArray _)) (l := [.int .i64 a.Id, .int .i64 a.Copies, .int .i64 a.Torn]) rfl rfl ?_)))
 intro g1 w2 hg3 hk4 hs5 hb6
 refine SR.box (v := .agg (List.toArray _)) (l := [.int .i64 b.Id, .int .i64 b.Copies, .int .i64 b.Torn]) rfl rfl ?_
 intro g9 w10 hg11 hk12 hs13 hb14
 have hB16 := ((Lo.refl w).lo hk4).lo hk12
 refine Q (aB rfl) <| Qn (Ws (Ws (Wr (Q (fA fa102_0 rfl) <| Q (lB sca3 rfl (hb6.lo hk12) rfl) <| Q (fA fa102_0 rfl) <| Q (lB sca3 rfl hb14 rfl) <| Q (r_ne rfl rfl) <| Qn (W.cond_n rfl (fun h17 => ?_) (fun h17 => ?_))))))
 ·refine Ws (Wr (Q (aB rfl) <| Qn (W.ret (ret1 rfl (v := .bool _) rfl (⟨eR (eDF (by cases a; cases b; simp_all)), hB16⟩)))))
 ·refine W.skip (Ws (Ws (Wr (Q (fA fa102_1 rfl) <| Q (lB sca3 rfl (hb6.lo hk12) rfl) <| Q (fA fa102_1 rfl) <| Q (lB sca3 rfl hb14 rfl) <| Q (r_ne rfl rfl) <| Qn (W.cond_n rfl (fun h18 => ?_) (fun h18 => ?_))))))
  ·refine Ws (Wr (Q (aB rfl) <| Qn (W.ret (ret1 rfl (v := .bool _) rfl (⟨eR (eDF (by cases a; cases b; simp_all)), hB16⟩)))))
  ·refine W.skip (Ws (Ws (Wr (Q (fA fa102_2 rfl) <| Q (lB sca3 rfl (hb6.lo hk12) rfl) <| Q (fA fa102_2 rfl) <| Q (lB sca3 rfl hb14 rfl) <| Q (r_ne rfl rfl) <| Qn (W.cond_n rfl (fun h19 => ?_) (fun h19 => ?_))))))
   ·refine Ws (Wr (Q (aB rfl) <| Qn (W.ret (ret1 rfl (v := .bool _) rfl (⟨eR (eDF (by cases a; cases b; simp_all)), hB16⟩)))))
   ·refine W.skip (Ws (Wr (Q (aB rfl) <| Qn (W.ret (ret1 rfl (v := .bool _) rfl (⟨eR (eDT (by cases a; cases b; simp_all)), hB16⟩))))))
theorem c_laws_eqMapS (w : World) {AL : Option Addr} {nL cL BL : Nat}  (L : List LMap) (hL : SlR w BL encLMap 3 AL nL cL L) {AM : Option Addr} {nM cM BM : Nat}  (M : List LMap) (hM : SlR w BM encLMap 3 AM nM cM M) : Calls Tryz.prog 100 #[.slice AL nL cL, .slice AM nM cM] w fun e w' => e = .returned (.bool (decide (L = M))) ∧ Lo w w' := by
 refine calls_W 27 Tryz.func100 rfl rfl rfl ?_
 have hbdL := hL.bound
 have hleL := hL.len
 have hBbL := hL.bd
 have hbdM := hM.bound
 have hleM := hM.len
 have hBbM := hM.bd
 refine Ws (Wr (Q (aB rfl) <| Qn (Ws (Ws (Wr (Q (mL rfl) <| Q (r_len und31 rfl) <| Q (mL rfl) <| Q (r_len und31 rfl) <| Q (r_ne rfl rfl) <| Qn (W.cond_n rfl (fun h1 => ?_) (fun h1 => ?_))))))))
 ·refine Ws (Wr (Q (aB rfl) <| Qn (W.ret (ret1 rfl (v := .bool _) rfl (⟨eR (eDF (by first | (intro e; subst e; omega) | exact ne_at ‹L[_]? = some _› ‹M[_]? = some _› ‹_› | exact take_end (And.right ‹_ ∧ L.take _ = M.take _›) hleL hleM (by omega) ‹_›)), (Lo.refl w)⟩)))))
 ·refine W.skip (Ws (Ws (Wr (Q (aI rfl) <| Qn (W.block (W.loop (σ := Nat) (fun g => [(0, .slice AL nL cL), (1, .slice AM nM cM), (5, .int .i64 (g : Int))]) (fun g w' => (Lo w w') ∧ (SlR w' BL encLMap 3 AL nL cL L) ∧ (SlR w' BM encLMap 3 AM nM cM M) ∧ (g ≤ nL ∧ L.take g = M.take g)) (fun g => nL - g) 0 ?_ ?_ ?_))))))
  ·exact (At.r rfl)
  ·exact ⟨(Lo.refl w), hL, hM, (by simp)⟩
  ·rintro k f2 w3 hP5
   obtain ⟨hB4, hm6, hm7, hi8⟩ : (Lo w w3) ∧ (SlR w3 BL encLMap 3 AL nL cL L) ∧ (SlR w3 BM encLMap 3 AM nM cM M) ∧ (k ≤ nL ∧ L.take k = M.take k) := hP5
   refine (?_ : W _ _ _ _ _ (act _ (sets f2 [(0, .slice AL nL cL), (1, .slice AM nM cM), (5, .int .i64 (k : Int))])) _)
   have hzw3 := hB4.size
   refine Ws (Ws (Wr (Q (mI rfl) <| Q (mL rfl) <| Q (r_len und31 rfl) <| Q (r_lt rfl rfl) <| Qn (W.cond_d rfl (fun h9 => ?_) (fun h9 => ?_)))))
   ·refine W.skip (Ws (W.block (Ws (W.regD mo (by kernel_rfl) (QR.q' (fun w' hw' => r_mv (v := .slice _ _ _) rfl) <| QR.q' (fun w' hw' => r_mv (v := .int .i64 _) rfl) <| ?_)))))
    obtain ⟨x10, hx11⟩ := hm6.get (i := k) (by omega)
    refine QR.q' (fun w' hw' => r_ixR tsl31 (hm6.lo hw') rfl rfl (by omega)) <| QR.q' (fun w' hw' => r_lda (l := encLMap x10) agg102 rfl (fun _ _ hu => (hm6.lo hw').cell hx11 hu) ((hm6.lo hw').esz _)) <| QR.q' (fun w' hw' => r_mv (v := .slice _ _ _) rfl) <| QR.q' (fun w' hw' => r_mv (v := .int .i64 _) rfl) <| ?_
    obtain ⟨x12, hx13⟩ := hm7.get (i := k) (by omega)
    refine QR.q' (fun w' hw' => r_ixR tsl31 (hm7.lo hw') rfl rfl (by omega)) <| QR.q' (fun w' hw' => r_lda (l := encLMap x12) agg102 rfl (fun _ _ hu => (hm7.lo hw').cell hx13 hu) ((hm7.lo hw').esz _)) <| QR.call ent159 (fun w' hw' => (c_laws_eqMap w' x10 x12).mono fun _ _ h => ⟨h.1, hw'.trans h.2⟩) rfl <| QR.q' (fun w' hw' => r_not rfl) <| QR.nil ?_
    intro w14 hk15
    have hz16 := hk15.size
    have hB17 := hB4.lo hk15
    refine W.cond_n rfl (fun h18 => ?_) (fun h18 => ?_)
    ·refine Ws (Wr (Q (aB rfl) <| Qn (W.ret (ret1 rfl (v := .bool _) rfl (⟨eR (eDF (by first | (intro e; subst e; omega) | exact ne_at ‹L[_]? = some _› ‹M[_]? = some _› ‹_› | exact take_end (And.right ‹_ ∧ L.take _ = M.take _›) hleL hleM (by omega) ‹_›)), hB17⟩)))))
    ·refine W.skip (Wr (Q (mI rfl) <| Q (r_add rfl rfl (by omega)) <| Q (aI rfl) <| Qn (⟨k + 1, _, rfl, (At.r rfl), ⟨hB17, hm6.lo hk15, hm7.lo hk15, ?_⟩, ?_⟩)))
     ·exact (by exact ⟨by omega, take_next (And.right ‹_ ∧ L.take _ = M.take _›) ‹L[_]? = some _› ‹M[_]? = some _› ‹_›⟩)
     ·exact (by omega)
   ·refine W.exit (xin_here (Ws (Wr (Q (aB rfl) <| Qn (W.ret (ret1 rfl (v := .bool _) rfl (⟨eR (eDT (by first | (intro e; subst e; omega) | exact ne_at ‹L[_]? = some _› ‹M[_]? = some _› ‹_› | exact take_end (And.right ‹_ ∧ L.take _ = M.take _›) hleL hleM (by omega) ‹_›)), hB4⟩)))))))
theorem c_laws_markMapS (w : World) {AL : Option Addr} {nL cL BL : Nat}  (L : List LMap) (hL : SlO w BL encLMap 3 102 AL nL cL L) (k : Int) (hp0 : 0 ≤ k) (hp1 : k ≤ 1000000000) (hp2 : (nL : Int) ≤ 1048576) : Calls Tryz.prog 102 #[.slice AL nL cL, .int .i64 k] w fun e w' => e = .returned (.int .i64 (k + 3 * (L.length : Int))) ∧ SlO w' BL encLMap 3 102 AL nL cL (mkL mkLMap 3 L.length k) ∧ Kp (KA AL) w w' := by
 refine calls_W 34 Tryz.func102 rfl rfl rfl ?_
 have hbdL := hL.rd.bound
 have hleL := hL.len
 have hBbL := hL.bd
 refine Ws (Wr (Q (aI rfl) <| Qn (Ws (Ws (Wr (Q (aI rfl) <| Qn (W.block (W.loop (σ := Nat) (fun g => [(0, .slice AL nL cL), (1, .int .i64 (k + 3 * (g : Int))), (4, .int .i64 0), (5, .int .i64 (g : Int))]) (fun g w' => (Kp (KA AL) w w') ∧ (SlO w' BL encLMap 3 102 AL nL cL (mkL mkLMap 3 g k ++ L.drop g)) ∧ (g ≤ nL)) (fun g => nL - g) 0 ?_ ?_ ?_))))))))
 ·refine ⟨rfl, (eI ?_), rfl, (eI ?_), trivial⟩ <;> (first | omega | (dsimp only; omega))
 ·exact ⟨(Kp.refl w : Kp (KA AL) w w), (SlO.eqv hL (by exact mkL_init)), (by omega)⟩
 ·rintro i f1 w2 hP4
  obtain ⟨hB3, hm5, hi6⟩ : (Kp (KA AL) w w2) ∧ (SlO w2 BL encLMap 3 102 AL nL cL (mkL mkLMap 3 i k ++ L.drop i)) ∧ (i ≤ nL) := hP4
  refine (?_ : W _ _ _ _ _ (act _ (sets f1 [(0, .slice AL nL cL), (1, .int .i64 (k + 3 * (i : Int))), (4, .int .i64 0), (5, .int .i64 (i : Int))])) _)
  have hzw2 := hB3.size
  refine Ws (Ws (Wr (Q (mI rfl) <| Q (mL rfl) <| Q (r_len und31 rfl) <| Q (r_lt rfl rfl) <| Qn (W.cond_d rfl (fun h7 => ?_) (fun h7 => ?_)))))
  ·refine W.skip (Ws (W.block (Ws (Wr (Q (mL rfl) <| Q (mI rfl) <| Q (mI rfl) <| ?_)))))
   obtain ⟨x8, hx9⟩ := (hm5.rd).get (i := i) (by omega)
   refine Q (r_ixR tsl31 (hm5.rd) rfl rfl (by omega)) <| Q (fA fa102_0 rfl) <| SR.storeO (o := 0) (vs := [.int .i64 (k + 3 * (i : Int))]) (x1 := { x8 with Id := k + 3 * (i : Int) }) sca3.2 rfl (add_add _ _ _) rfl rfl hm5 hx9 rfl ler rfl ?_
   intro w10 hk11 hs12 hO13
   have hz14 := hk11.size
   have hx16 : ((mkL mkLMap 3 i k ++ L.drop i).set ((i : Int).toNat) ({ x8 with Id := k + 3 * (i : Int) }))[(i : Int).toNat]? = some ({ x8 with Id := k + 3 * (i : Int) }) := List.getElem?_set_self (List.getElem?_eq_some_iff.1 hx9).1
   refine Qn (Ws (Wr (Q (mI rfl) <| Q (r_add rfl rfl (by omega)) <| Q (aI rfl) <| Qn (Ws (Wr (Q (mL rfl) <| Q (mI rfl) <| Q (mI rfl) <| Q (r_ixR tsl31 (hO13.rd) rfl rfl (by omega)) <| Q (fA fa102_1 rfl) <| SR.storeO (o := 1) (vs := [.int .i64 ((k + 3 * (i : Int)) + 1)]) (x1 := { ({ x8 with Id := k + 3 * (i : Int) }) with Copies := (k + 3 * (i : Int)) + 1 }) sca3.2 rfl (add_add _ _ _) rfl rfl hO13 hx16 rfl ler rfl ?_))))))
   intro w17 hk18 hs19 hO20
   have hz21 := hk18.size
   rw [List.set_set] at hO20
   have hx23 : ((mkL mkLMap 3 i k ++ L.drop i).set ((i : Int).toNat) ({ ({ x8 with Id := k + 3 * (i : Int) }) with Copies := (k + 3 * (i : Int)) + 1 }))[(i : Int).toNat]? = some ({ ({ x8 with Id := k + 3 * (i : Int) }) with Copies := (k + 3 * (i : Int)) + 1 }) := List.getElem?_set_self (List.getElem?_eq_some_iff.1 hx9).1
   refine Qn (Ws (Wr (Q (mI rfl) <| Q (r_add rfl rfl (by omega)) <| Q (aI rfl) <| Qn (Ws (Wr (Q (mL rfl) <| Q (mI rfl) <| Q (mI rfl) <| Q (r_ixR tsl31 (hO20.rd) rfl rfl (by omega)) <| Q (fA fa102_2 rfl) <| SR.storeO (o := 2) (vs := [.int .i64 (((k + 3 * (i : Int)) + 1) + 1)]) (x1 := { ({ ({ x8 with Id := k + 3 * (i : Int) }) with Copies := (k + 3 * (i : Int)) + 1 }) with Torn := ((k + 3 * (i : Int)) + 1) + 1 }) sca3.2 rfl (add_add _ _ _) rfl rfl hO20 hx23 rfl ler rfl ?_))))))
   intro w24 hk25 hs26 hO27
   have hz28 := hk25.size
   rw [List.set_set] at hO27
   have hx30 : ((mkL mkLMap 3 i k ++ L.drop i).set ((i : Int).toNat) ({ ({ ({ x8 with Id := k + 3 * (i : Int) }) with Copies := (k + 3 * (i : Int)) + 1 }) with Torn := ((k + 3 * (i : Int)) + 1) + 1 }))[(i : Int).toNat]? = some ({ ({ ({ x8 with Id := k + 3 * (i : Int) }) with Copies := (k + 3 * (i : Int)) + 1 }) with Torn := ((k + 3 * (i : Int)) + 1) + 1 }) := List.getElem?_set_self (List.getElem?_eq_some_iff.1 hx9).1
   refine Qn (Wr (Q (mI rfl) <| Q (r_add rfl rfl (by omega)) <| Q (aI rfl) <| Qn (Wr (Q (mI rfl) <| Q (r_add rfl rfl (by omega)) <| Q (aI rfl) <| Qn (⟨i + 1, _, rfl, ⟨rfl, (eI (by first | omega | (dsimp only; omega))), rfl, (eI (by first | omega | (dsimp only; omega))), trivial⟩, ⟨(((hB3.step hk11 (fun i_ hi_ e' => by have := hm5.base_le e'; first | omega | exact e' | exact .inl e' | exact .inr e')).step hk18 (fun i_ hi_ e' => by have := hO13.base_le e'; first | omega | exact e' | exact .inl e' | exact .inr e')).step hk25 (fun i_ hi_ e' => by have := hO20.base_le e'; first | omega | exact e' | exact .inl e' | exact .inr e')), (SlO.eqv hO27 (by exact mkL_set (by omega) (by first | (simp [mkLMap]; done) | (simp [mkLMap]; omega)))), ?_⟩, ?_⟩)))))
   ·exact (by omega)
   ·exact (by omega)
  ·refine W.exit (xin_here (Ws (Wr (Q (mI rfl) <| Q (aI rfl) <| Qn (W.ret (ret1 rfl (v := .int .i64 _) rfl ?_))))))
   refine ⟨eR (eI ?_), (SlO.eqv hm5 ?_), hB3⟩ <;> (first | omega | exact mkL_end hleL (by assumption) (by omega))
theorem z_c_laws_heldMapS_11 (L : List LMap) (nL : Nat) (hbdL : (nL : Int) ≤ 9223372036854775807) (hleL : nL = L.length) (k : Int) (m : Nat) (hp0 : 0 ≤ k) (hp1 : k ≤ 1000000000) (hp2 : (nL : Int) ≤ 1048576) (hp3 : L = mkL mkLMap 3 m k) (i : Nat) (hi6 : i ≤ nL) (h7 : (i : Int) < (nL : Int)) (x8 : LMap) (hx9 : L[i]? = some x8) (h10 : ¬ (x8.Id = (k + 3 * (i : Int)))) : (-1) = k + 3 * (m : Int) := by
 first | omega | (rw [hp3, mkL_len] at hleL; omega) | (exfalso; subst hp3; obtain rfl := mkL_get ‹_[_]? = some _›; first | (simp_all [mkLMap]; done) | (simp only [mkLMap] at *; omega))
theorem z_c_laws_heldMapS_13 (L : List LMap) (nL : Nat) (hbdL : (nL : Int) ≤ 9223372036854775807) (hleL : nL = L.length) (k : Int) (m : Nat) (hp0 : 0 ≤ k) (hp1 : k ≤ 1000000000) (hp2 : (nL : Int) ≤ 1048576) (hp3 : L = mkL mkLMap 3 m k) (i : Nat) (hi6 : i ≤ nL) (h7 : (i : Int) < (nL : Int)) (x8 : LMap) (hx9 : L[i]? = some x8) (h10 : x8.Id = (k + 3 * (i : Int))) (h12 : ¬ (x8.Copies = ((k + 3 * (i : Int)) + 1))) : (-1) = k + 3 * (m : Int) := by
 first | omega | (rw [hp3, mkL_len] at hleL; omega) | (exfalso; subst hp3; obtain rfl := mkL_get ‹_[_]? = some _›; first | (simp_all [mkLMap]; done) | (simp only [mkLMap] at *; omega))
theorem z_c_laws_heldMapS_15 (L : List LMap) (nL : Nat) (hbdL : (nL : Int) ≤ 9223372036854775807) (hleL : nL = L.length) (k : Int) (m : Nat) (hp0 : 0 ≤ k) (hp1 : k ≤ 1000000000) (hp2 : (nL : Int) ≤ 1048576) (hp3 : L = mkL mkLMap 3 m k) (i : Nat) (hi6 : i ≤ nL) (h7 : (i : Int) < (nL : Int)) (x8 : LMap) (hx9 : L[i]? = some x8) (h10 : x8.Id = (k + 3 * (i : Int))) (h12 : x8.Copies = ((k + 3 * (i : Int)) + 1)) (h14 : ¬ (x8.Torn = (((k + 3 * (i : Int)) + 1) + 1))) : (-1) = k + 3 * (m : Int) := by
 first | omega | (rw [hp3, mkL_len] at hleL; omega) | (exfalso; subst hp3; obtain rfl := mkL_get ‹_[_]? = some _›; first | (simp_all [mkLMap]; done) | (simp only [mkLMap] at *; omega))
theorem z_c_laws_heldMapS_16 (L : List LMap) (nL : Nat) (hbdL : (nL : Int) ≤ 9223372036854775807) (hleL : nL = L.length) (k : Int) (m : Nat) (hp0 : 0 ≤ k) (hp1 : k ≤ 1000000000) (hp2 : (nL : Int) ≤ 1048576) (hp3 : L = mkL mkLMap 3 m k) (i : Nat) (hi6 : i ≤ nL) (h7 : ¬ ((i : Int) < (nL : Int))) : k + 3 * (i : Int) = k + 3 * (m : Int) := by
 first | omega | (rw [hp3, mkL_len] at hleL; omega) | (exfalso; subst hp3; obtain rfl := mkL_get ‹_[_]? = some _›; first | (simp_all [mkLMap]; done) | (simp only [mkLMap] at *; omega))
theorem c_laws_heldMapS (w : World) {AL : Option Addr} {nL cL BL : Nat}  (L : List LMap) (hL : SlR w BL encLMap 3 AL nL cL L) (k : Int) (m : Nat) (hp0 : 0 ≤ k) (hp1 : k ≤ 1000000000) (hp2 : (nL : Int) ≤ 1048576) (hp3 : L = mkL mkLMap 3 m k) : Calls Tryz.prog 104 #[.slice AL nL cL, .int .i64 k] w fun e w' => e = .returned (.int .i64 (k + 3 * (m : Int))) ∧ Lo w w' := by
 refine calls_W 40 Tryz.func104 rfl rfl rfl ?_
 have hbdL := hL.bound
 have hleL := hL.len
 have hBbL := hL.bd
 refine Ws (Wr (Q (aI rfl) <| Qn (Ws (Ws (Wr (Q (aI rfl) <| Qn (W.block (W.loop (σ := Nat) (fun g => [(0, .slice AL nL cL), (1, .int .i64 (k + 3 * (g : Int))), (5, .int .i64 (g : Int))]) (fun g w' => (Lo w w') ∧ (SlR w' BL encLMap 3 AL nL cL L) ∧ (g ≤ nL)) (fun g => nL - g) 0 ?_ ?_ ?_))))))))
 ·refine ⟨rfl, (eI ?_), (eI ?_), trivial⟩ <;> (first | omega | (dsimp only; omega))
 ·exact ⟨(Lo.refl w), hL, (by omega)⟩
 ·rintro i f1 w2 hP4
  obtain ⟨hB3, hm5, hi6⟩ : (Lo w w2) ∧ (SlR w2 BL encLMap 3 AL nL cL L) ∧ (i ≤ nL) := hP4
  refine (?_ : W _ _ _ _ _ (act _ (sets f1 [(0, .slice AL nL cL), (1, .int .i64 (k + 3 * (i : Int))), (5, .int .i64 (i : Int))])) _)
  have hzw2 := hB3.size
  refine Ws (Ws (Wr (Q (mI rfl) <| Q (mL rfl) <| Q (r_len und31 rfl) <| Q (r_lt rfl rfl) <| Qn (W.cond_d rfl (fun h7 => ?_) (fun h7 => ?_)))))
  ·refine W.skip (Ws (W.block (Ws (Ws (Wr (Q (mL rfl) <| Q (mI rfl) <| ?_))))))
   obtain ⟨x8, hx9⟩ := hm5.get (i := i) (by omega)
   refine Q (r_ixR tsl31 hm5 rfl rfl (by omega)) <| Q (fA fa102_0 rfl) <| Q (r_ld (v := .int .i64 x8.Id) sca3 rfl (hm5.cell hx9 rfl)) <| Q (mI rfl) <| Q (r_ne rfl rfl) <| Qn (W.cond_n rfl (fun h10 => ?_) (fun h10 => ?_))
   ·refine Ws (Wr (Q (r_as (v := .int .i64 (-1)) rfl) <| Qn (W.ret (ret1 rfl (v := .int .i64 _) rfl (⟨eR (eI (z_c_laws_heldMapS_11 L nL hbdL hleL k m hp0 hp1 hp2 hp3 i hi6 h7 x8 hx9 h10)), hB3⟩)))))
   ·refine W.skip (Ws (Wr (Q (mI rfl) <| Q (r_add rfl rfl (by omega)) <| Q (aI rfl) <| Qn (Ws (Ws (Wr (Q (mL rfl) <| Q (mI rfl) <| Q (r_ixR tsl31 hm5 rfl rfl (by omega)) <| Q (fA fa102_1 rfl) <| Q (r_ld (v := .int .i64 x8.Copies) sca3 rfl (hm5.cell hx9 rfl)) <| Q (mI rfl) <| Q (r_ne rfl rfl) <| Qn (W.cond_n rfl (fun h12 => ?_) (fun h12 => ?_)))))))))
    ·refine Ws (Wr (Q (r_as (v := .int .i64 (-1)) rfl) <| Qn (W.ret (ret1 rfl (v := .int .i64 _) rfl (⟨eR (eI (z_c_laws_heldMapS_13 L nL hbdL hleL k m hp0 hp1 hp2 hp3 i hi6 h7 x8 hx9 h10 h12)), hB3⟩)))))
    ·refine W.skip (Ws (Wr (Q (mI rfl) <| Q (r_add rfl rfl (by omega)) <| Q (aI rfl) <| Qn (Ws (Ws (Wr (Q (mL rfl) <| Q (mI rfl) <| Q (r_ixR tsl31 hm5 rfl rfl (by omega)) <| Q (fA fa102_2 rfl) <| Q (r_ld (v := .int .i64 x8.Torn) sca3 rfl (hm5.cell hx9 rfl)) <| Q (mI rfl) <| Q (r_ne rfl rfl) <| Qn (W.cond_n rfl (fun h14 => ?_) (fun h14 => ?_)))))))))
     ·refine Ws (Wr (Q (r_as (v := .int .i64 (-1)) rfl) <| Qn (W.ret (ret1 rfl (v := .int .i64 _) rfl (⟨eR (eI (z_c_laws_heldMapS_15 L nL hbdL hleL k m hp0 hp1 hp2 hp3 i hi6 h7 x8 hx9 h10 h12 h14)), hB3⟩)))))
     ·refine W.skip (Wr (Q (mI rfl) <| Q (r_add rfl rfl (by omega)) <| Q (aI rfl) <| Qn (Wr (Q (mI rfl) <| Q (r_add rfl rfl (by omega)) <| Q (aI rfl) <| Qn (⟨i + 1, _, rfl, ⟨rfl, (eI (by first | omega | (dsimp only; omega))), (eI (by first | omega | (dsimp only; omega))), trivial⟩, ⟨hB3, hm5, ?_⟩, ?_⟩)))))
      ·exact (by omega)
      ·exact (by omega)
  ·refine W.exit (xin_here (Ws (Wr (Q (mI rfl) <| Q (aI rfl) <| Qn (W.ret (ret1 rfl (v := .int .i64 _) rfl (⟨eR (eI (z_c_laws_heldMapS_16 L nL hbdL hleL k m hp0 hp1 hp2 hp3 i hi6 h7)), hB3⟩)))))))
theorem c_laws_toAway (w : World) (r : Away) : Calls Tryz.prog 145 #[.agg (List.toArray (encAway r))] w fun e w' => e = .returned (.agg (List.toArray (encAway r))) ∧ Lo w w' := by
 refine calls_W 11 Tryz.func145 rfl rfl rfl (Ws (Wr (SR.box (v := .agg (List.toArray _)) (l := [.int .i64 r.Map, .int .i64 r.Reader]) rfl rfl ?_)))
 intro g1 w2 hg3 hk4 hs5 hb6
 refine SR.alloc (l := [.int .i64 0, .int .i64 0]) tz129 rfl ?_
 intro g9 w10 hg11 hk12 hs13 hb14
 refine Qn (Ws (Wr (SR.alloc (l := [.int .i64 0, .int .i64 0]) tz129 rfl ?_)))
 intro g17 w18 hg19 hk20 hs21 hb22
 refine Qn (Ws ?_)
 have hm25 := (hb6.lo hk12).lo hk20
 refine Wr (Q (fA fa167_0 rfl) <| Q (lB sca3 rfl hm25 rfl) <| Q (fA fa129_0 rfl) <| Qw (o := 0) (vs := [.int .i64 r.Map]) sca3.2 rfl rfl rfl rfl hb22 ler rfl ?_)
 intro w26 hk27 hs28 hb29
 refine Qn (Ws (Wr (Q (fA fa167_1 rfl) <| Q (lB sca3 rfl (hm25.kn hk27) rfl) <| Q (fA fa129_1 rfl) <| Qw (o := 1) (vs := [.int .i64 r.Reader]) sca3.2 rfl rfl rfl rfl hb29 ler rfl ?_)))
 intro w33 hk34 hs35 hb36
 refine Qn (Ws (Wr (Q (lG agg129 rfl hb36 rfl) <| Qw (o := 0) (vs := [.int .i64 r.Map, .int .i64 r.Reader]) agg129.2 rfl rfl rfl rfl (((hb14.lo hk20).kn hk27).kn hk34) ler rfl ?_)))
 intro w39 hk40 hs41 hb42
 refine Qn (W.ret (retC rfl rfl agg129 hb42 rfl (⟨eR (eA (by first | rfl | (first | rfl | omega | grind))), (((((((Lo.refl w).lo hk4).lo hk12).lo hk20).new hk27).new hk34).new hk40)⟩)))
theorem z_c_laws_szAwayS_2 (L : List Away) (nL : Nat) (hbdL : (nL : Int) ≤ 9223372036854775807) (hleL : nL = L.length) (left : Int) (hp0 : 0 ≤ left) (hp1 : left ≤ 1048576) (h1 : (left - (nL : Int)) < 0) : (-1) = szN L.length left := by
 unfold szN; split <;> omega
theorem z_c_laws_szAwayS_3 (L : List Away) (nL : Nat) (hbdL : (nL : Int) ≤ 9223372036854775807) (hleL : nL = L.length) (left : Int) (hp0 : 0 ≤ left) (hp1 : left ≤ 1048576) (h1 : ¬ ((left - (nL : Int)) < 0)) : left - (nL : Int) = szN L.length left := by
 unfold szN; split <;> omega
theorem c_laws_szAwayS (w : World) {AL : Option Addr} {nL cL BL : Nat}  (L : List Away) (hL : SlR w BL encAway 2 AL nL cL L) (left : Int) (hp0 : 0 ≤ left) (hp1 : left ≤ 1048576) : Calls Tryz.prog 78 #[.slice AL nL cL, .int .i64 left] w fun e w' => e = .returned (.int .i64 (szN L.length left)) ∧ Lo w w' := by
 refine calls_W 12 Tryz.func78 rfl rfl rfl ?_
 have hbdL := hL.bound
 have hleL := hL.len
 have hBbL := hL.bd
 refine Ws (Wr (Q (aI rfl) <| Qn (Ws (Wr (Q (mI rfl) <| Q (mL rfl) <| Q (r_len und23 rfl) <| Q (r_sub rfl rfl (by omega)) <| Q (aI rfl) <| Qn (Ws (Ws (Wr (Q (mI rfl) <| Q (r_lt rfl rfl) <| Qn (W.cond_d rfl (fun h1 => ?_) (fun h1 => ?_)))))))))))
 ·refine Ws (Wr (Q (r_as (v := .int .i64 (-1)) rfl) <| Qn (W.ret (ret1 rfl (v := .int .i64 _) rfl (⟨eR (eI (z_c_laws_szAwayS_2 L nL hbdL hleL left hp0 hp1 h1)), (Lo.refl w)⟩)))))
 ·refine W.skip (Ws (Wr (Q (mI rfl) <| Q (aI rfl) <| Qn (W.ret (ret1 rfl (v := .int .i64 _) rfl (⟨eR (eI (z_c_laws_szAwayS_3 L nL hbdL hleL left hp0 hp1 h1)), (Lo.refl w)⟩))))))
theorem c_laws_toAwayS (w : World) {AL : Option Addr} {nL cL BL : Nat}  (L : List Away) (hL : SlR w BL encAway 2 AL nL cL L) (hp0 : (nL : Int) ≤ 1048576) : Calls Tryz.prog 90 #[.slice AL nL cL] w fun e w' => ∃ (A1' : Option Addr) (n1' c1' : Nat), e = .returned (.slice A1' n1' c1') ∧ SlO w' w.heap.size encAway 2 129 A1' n1' c1' L ∧ Lo w w' := by
 refine calls_W 23 Tryz.func90 rfl rfl rfl ?_
 have hbdL := hL.bound
 have hleL := hL.len
 have hBbL := hL.bd
 refine Ws (Wr (Q (r_as (v := .slice none 0 0) rfl) <| Qn (Ws (Wr (Q (mL rfl) <| Q (r_len und23 rfl) <| SR.make (m := nL) (zx := (⟨0, 0⟩ : Away)) (enc := encAway) tel32 rfl (fun _ => rfl) rfl rfl (by omega) (by omega) ?_)))))
 intro g1 w2 hg3 hk4 hO5
 have hz6 := hk4.size
 refine Q (aL rfl) <| Qn (Ws (Ws (Wr (Q (aI rfl) <| Qn (W.block (W.loop (σ := Nat) (fun g => [(0, .slice AL nL cL), (2, .slice none 0 0), (3, .slice (pA g1) nL nL), (4, .int .i64 (g : Int))]) (fun g w' => (Lo w w') ∧ (SlR w' BL encAway 2 AL nL cL L) ∧ (SlO w' w.heap.size encAway 2 129 (pA g1) nL nL (L.take g ++ List.replicate (nL - g) (⟨0, 0⟩ : Away))) ∧ (g ≤ nL)) (fun g => nL - g) 0 ?_ ?_ ?_))))))
 ·exact (At.r rfl)
 ·exact ⟨((Lo.refl w).lo hk4), hL.lo hk4, (SlO.eqv hO5 (by exact tk_init)), (by omega)⟩
 ·rintro k f8 w9 hP11
  obtain ⟨hB10, hm12, hm13, hi14⟩ : (Lo w w9) ∧ (SlR w9 BL encAway 2 AL nL cL L) ∧ (SlO w9 w.heap.size encAway 2 129 (pA g1) nL nL (L.take k ++ List.replicate (nL - k) (⟨0, 0⟩ : Away))) ∧ (k ≤ nL) := hP11
  refine (?_ : W _ _ _ _ _ (act _ (sets f8 [(0, .slice AL nL cL), (2, .slice none 0 0), (3, .slice (pA g1) nL nL), (4, .int .i64 (k : Int))])) _)
  have hzw9 := hB10.size
  refine Ws (Ws (Wr (Q (mI rfl) <| Q (mL rfl) <| Q (r_len und23 rfl) <| Q (r_lt rfl rfl) <| Qn (W.cond_d rfl (fun h15 => ?_) (fun h15 => ?_)))))
  ·refine W.skip (Ws (W.block (Wr (Q (mL rfl) <| Q (mI rfl) <| Q (mL rfl) <| Q (mI rfl) <| ?_))))
   obtain ⟨x16, hx17⟩ := hm12.get (i := k) (by omega)
   refine Q (r_ixR tsl23 hm12 rfl rfl (by omega)) <| Q (r_lda (l := encAway x16) agg167 rfl (fun _ _ hu => hm12.cell hx17 hu) (hm12.esz _)) <| Qv ent145 (c_laws_toAway w9 x16) rfl fun w18 hk19 hz20 => ?_
   obtain ⟨x22, hx23⟩ := ((hm13.lo hk19).rd).get (i := k) (by omega)
   refine Q (r_ixR tsl32 ((hm13.lo hk19).rd) rfl rfl (by omega)) <| SR.storeO (o := 0) (vs := [.int .i64 x16.Map, .int .i64 x16.Reader]) (x1 := x16) agg129.2 rfl rfl rfl rfl (hm13.lo hk19) hx23 rfl ler rfl ?_
   intro w24 hk25 hs26 hO27
   have hz28 := hk25.size
   have hx30 : ((L.take k ++ List.replicate (nL - k) (⟨0, 0⟩ : Away)).set ((k : Int).toNat) x16)[(k : Int).toNat]? = some x16 := List.getElem?_set_self (List.getElem?_eq_some_iff.1 hx23).1
   refine Qn ?_
   have hm31 := (hm12.lo hk19).kp hk25 (fun b_ hb e' => by have := (hm13.lo hk19).base_le e'; omega)
   refine Wr (Q (mI rfl) <| Q (r_add rfl rfl (by omega)) <| Q (aI rfl) <| Qn (⟨k + 1, _, rfl, (At.r rfl), ⟨((hB10.lo hk19).step hk25 (fun i_ hi_ e' => by have := (hm13.lo hk19).base_le e'; first | omega | exact e' | exact .inl e' | exact .inr e')), hm31, (SlO.eqv hO27 (by exact tk_set (by assumption) hleL)), ?_⟩, ?_⟩))
   ·exact (by omega)
   ·exact (by omega)
  ·refine W.exit (xin_here (Ws (Wr (Q (mL rfl) <| Q (aL rfl) <| Qn (W.ret (ret1 rfl (v := .slice _ _ _) rfl (⟨(pA g1), nL, nL, eR rfl, (SlO.eqv (hm13.down) (by exact tk_end hleL (by assumption) (by omega))), hB10⟩)))))))
theorem c_laws_eqAway (w : World) (a : Away) (b : Away) : Calls Tryz.prog 160 #[.agg (List.toArray (encAway a)), .agg (List.toArray (encAway b))] w fun e w' => e = .returned (.bool (decide (a = b))) ∧ Lo w w' := by
 refine calls_W 15 Tryz.func160 rfl rfl rfl (Ws (Wr (SR.box (v := .agg (List.toArray _)) (l := [.int .i64 a.Map, .int .i64 a.Reader]) rfl rfl ?_)))
 intro g1 w2 hg3 hk4 hs5 hb6
 refine SR.box (v := .agg (List.toArray _)) (l := [.int .i64 b.Map, .int .i64 b.Reader]) rfl rfl ?_
 intro g9 w10 hg11 hk12 hs13 hb14
 have hB16 := ((Lo.refl w).lo hk4).lo hk12
 refine Q (aB rfl) <| Qn (Ws (Ws (Wr (Q (fA fa129_0 rfl) <| Q (lB sca3 rfl (hb6.lo hk12) rfl) <| Q (fA fa129_0 rfl) <| Q (lB sca3 rfl hb14 rfl) <| Q (r_ne rfl rfl) <| Qn (W.cond_n rfl (fun h17 => ?_) (fun h17 => ?_))))))
 ·refine Ws (Wr (Q (aB rfl) <| Qn (W.ret (ret1 rfl (v := .bool _) rfl (⟨eR (eDF (by cases a; cases b; simp_all)), hB16⟩)))))
 ·refine W.skip (Ws (Ws (Wr (Q (fA fa129_1 rfl) <| Q (lB sca3 rfl (hb6.lo hk12) rfl) <| Q (fA fa129_1 rfl) <| Q (lB sca3 rfl hb14 rfl) <| Q (r_ne rfl rfl) <| Qn (W.cond_n rfl (fun h18 => ?_) (fun h18 => ?_))))))
  ·refine Ws (Wr (Q (aB rfl) <| Qn (W.ret (ret1 rfl (v := .bool _) rfl (⟨eR (eDF (by cases a; cases b; simp_all)), hB16⟩)))))
  ·refine W.skip (Ws (Wr (Q (aB rfl) <| Qn (W.ret (ret1 rfl (v := .bool _) rfl (⟨eR (eDT (by cases a; cases b; simp_all)), hB16⟩))))))
theorem c_laws_eqAwayS (w : World) {AL : Option Addr} {nL cL BL : Nat}  (L : List Away) (hL : SlR w BL encAway 2 AL nL cL L) {AM : Option Addr} {nM cM BM : Nat}  (M : List Away) (hM : SlR w BM encAway 2 AM nM cM M) : Calls Tryz.prog 101 #[.slice AL nL cL, .slice AM nM cM] w fun e w' => e = .returned (.bool (decide (L = M))) ∧ Lo w w' := by
 refine calls_W 27 Tryz.func101 rfl rfl rfl ?_
 have hbdL := hL.bound
 have hleL := hL.len
 have hBbL := hL.bd
 have hbdM := hM.bound
 have hleM := hM.len
 have hBbM := hM.bd
 refine Ws (Wr (Q (aB rfl) <| Qn (Ws (Ws (Wr (Q (mL rfl) <| Q (r_len und32 rfl) <| Q (mL rfl) <| Q (r_len und32 rfl) <| Q (r_ne rfl rfl) <| Qn (W.cond_n rfl (fun h1 => ?_) (fun h1 => ?_))))))))
 ·refine Ws (Wr (Q (aB rfl) <| Qn (W.ret (ret1 rfl (v := .bool _) rfl (⟨eR (eDF (by first | (intro e; subst e; omega) | exact ne_at ‹L[_]? = some _› ‹M[_]? = some _› ‹_› | exact take_end (And.right ‹_ ∧ L.take _ = M.take _›) hleL hleM (by omega) ‹_›)), (Lo.refl w)⟩)))))
 ·refine W.skip (Ws (Ws (Wr (Q (aI rfl) <| Qn (W.block (W.loop (σ := Nat) (fun g => [(0, .slice AL nL cL), (1, .slice AM nM cM), (5, .int .i64 (g : Int))]) (fun g w' => (Lo w w') ∧ (SlR w' BL encAway 2 AL nL cL L) ∧ (SlR w' BM encAway 2 AM nM cM M) ∧ (g ≤ nL ∧ L.take g = M.take g)) (fun g => nL - g) 0 ?_ ?_ ?_))))))
  ·exact (At.r rfl)
  ·exact ⟨(Lo.refl w), hL, hM, (by simp)⟩
  ·rintro k f2 w3 hP5
   obtain ⟨hB4, hm6, hm7, hi8⟩ : (Lo w w3) ∧ (SlR w3 BL encAway 2 AL nL cL L) ∧ (SlR w3 BM encAway 2 AM nM cM M) ∧ (k ≤ nL ∧ L.take k = M.take k) := hP5
   refine (?_ : W _ _ _ _ _ (act _ (sets f2 [(0, .slice AL nL cL), (1, .slice AM nM cM), (5, .int .i64 (k : Int))])) _)
   have hzw3 := hB4.size
   refine Ws (Ws (Wr (Q (mI rfl) <| Q (mL rfl) <| Q (r_len und32 rfl) <| Q (r_lt rfl rfl) <| Qn (W.cond_d rfl (fun h9 => ?_) (fun h9 => ?_)))))
   ·refine W.skip (Ws (W.block (Ws (W.regD mo (by kernel_rfl) (QR.q' (fun w' hw' => r_mv (v := .slice _ _ _) rfl) <| QR.q' (fun w' hw' => r_mv (v := .int .i64 _) rfl) <| ?_)))))
    obtain ⟨x10, hx11⟩ := hm6.get (i := k) (by omega)
    refine QR.q' (fun w' hw' => r_ixR tsl32 (hm6.lo hw') rfl rfl (by omega)) <| QR.q' (fun w' hw' => r_lda (l := encAway x10) agg129 rfl (fun _ _ hu => (hm6.lo hw').cell hx11 hu) ((hm6.lo hw').esz _)) <| QR.q' (fun w' hw' => r_mv (v := .slice _ _ _) rfl) <| QR.q' (fun w' hw' => r_mv (v := .int .i64 _) rfl) <| ?_
    obtain ⟨x12, hx13⟩ := hm7.get (i := k) (by omega)
    refine QR.q' (fun w' hw' => r_ixR tsl32 (hm7.lo hw') rfl rfl (by omega)) <| QR.q' (fun w' hw' => r_lda (l := encAway x12) agg129 rfl (fun _ _ hu => (hm7.lo hw').cell hx13 hu) ((hm7.lo hw').esz _)) <| QR.call ent160 (fun w' hw' => (c_laws_eqAway w' x10 x12).mono fun _ _ h => ⟨h.1, hw'.trans h.2⟩) rfl <| QR.q' (fun w' hw' => r_not rfl) <| QR.nil ?_
    intro w14 hk15
    have hz16 := hk15.size
    have hB17 := hB4.lo hk15
    refine W.cond_n rfl (fun h18 => ?_) (fun h18 => ?_)
    ·refine Ws (Wr (Q (aB rfl) <| Qn (W.ret (ret1 rfl (v := .bool _) rfl (⟨eR (eDF (by first | (intro e; subst e; omega) | exact ne_at ‹L[_]? = some _› ‹M[_]? = some _› ‹_› | exact take_end (And.right ‹_ ∧ L.take _ = M.take _›) hleL hleM (by omega) ‹_›)), hB17⟩)))))
    ·refine W.skip (Wr (Q (mI rfl) <| Q (r_add rfl rfl (by omega)) <| Q (aI rfl) <| Qn (⟨k + 1, _, rfl, (At.r rfl), ⟨hB17, hm6.lo hk15, hm7.lo hk15, ?_⟩, ?_⟩)))
     ·exact (by exact ⟨by omega, take_next (And.right ‹_ ∧ L.take _ = M.take _›) ‹L[_]? = some _› ‹M[_]? = some _› ‹_›⟩)
     ·exact (by omega)
   ·refine W.exit (xin_here (Ws (Wr (Q (aB rfl) <| Qn (W.ret (ret1 rfl (v := .bool _) rfl (⟨eR (eDT (by first | (intro e; subst e; omega) | exact ne_at ‹L[_]? = some _› ‹M[_]? = some _› ‹_› | exact take_end (And.right ‹_ ∧ L.take _ = M.take _›) hleL hleM (by omega) ‹_›)), hB4⟩)))))))
theorem c_laws_markAwayS (w : World) {AL : Option Addr} {nL cL BL : Nat}  (L : List Away) (hL : SlO w BL encAway 2 129 AL nL cL L) (k : Int) (hp0 : 0 ≤ k) (hp1 : k ≤ 1000000000) (hp2 : (nL : Int) ≤ 1048576) : Calls Tryz.prog 103 #[.slice AL nL cL, .int .i64 k] w fun e w' => e = .returned (.int .i64 (k + 2 * (L.length : Int))) ∧ SlO w' BL encAway 2 129 AL nL cL (mkL mkAway 2 L.length k) ∧ Kp (KA AL) w w' := by
 refine calls_W 27 Tryz.func103 rfl rfl rfl ?_
 have hbdL := hL.rd.bound
 have hleL := hL.len
 have hBbL := hL.bd
 refine Ws (Wr (Q (aI rfl) <| Qn (Ws (Ws (Wr (Q (aI rfl) <| Qn (W.block (W.loop (σ := Nat) (fun g => [(0, .slice AL nL cL), (1, .int .i64 (k + 2 * (g : Int))), (4, .int .i64 0), (5, .int .i64 (g : Int))]) (fun g w' => (Kp (KA AL) w w') ∧ (SlO w' BL encAway 2 129 AL nL cL (mkL mkAway 2 g k ++ L.drop g)) ∧ (g ≤ nL)) (fun g => nL - g) 0 ?_ ?_ ?_))))))))
 ·refine ⟨rfl, (eI ?_), rfl, (eI ?_), trivial⟩ <;> (first | omega | (dsimp only; omega))
 ·exact ⟨(Kp.refl w : Kp (KA AL) w w), (SlO.eqv hL (by exact mkL_init)), (by omega)⟩
 ·rintro i f1 w2 hP4
  obtain ⟨hB3, hm5, hi6⟩ : (Kp (KA AL) w w2) ∧ (SlO w2 BL encAway 2 129 AL nL cL (mkL mkAway 2 i k ++ L.drop i)) ∧ (i ≤ nL) := hP4
  refine (?_ : W _ _ _ _ _ (act _ (sets f1 [(0, .slice AL nL cL), (1, .int .i64 (k + 2 * (i : Int))), (4, .int .i64 0), (5, .int .i64 (i : Int))])) _)
  have hzw2 := hB3.size
  refine Ws (Ws (Wr (Q (mI rfl) <| Q (mL rfl) <| Q (r_len und32 rfl) <| Q (r_lt rfl rfl) <| Qn (W.cond_d rfl (fun h7 => ?_) (fun h7 => ?_)))))
  ·refine W.skip (Ws (W.block (Ws (Wr (Q (mL rfl) <| Q (mI rfl) <| Q (mI rfl) <| ?_)))))
   obtain ⟨x8, hx9⟩ := (hm5.rd).get (i := i) (by omega)
   refine Q (r_ixR tsl32 (hm5.rd) rfl rfl (by omega)) <| Q (fA fa129_0 rfl) <| SR.storeO (o := 0) (vs := [.int .i64 (k + 2 * (i : Int))]) (x1 := { x8 with Map := k + 2 * (i : Int) }) sca3.2 rfl (add_add _ _ _) rfl rfl hm5 hx9 rfl ler rfl ?_
   intro w10 hk11 hs12 hO13
   have hz14 := hk11.size
   have hx16 : ((mkL mkAway 2 i k ++ L.drop i).set ((i : Int).toNat) ({ x8 with Map := k + 2 * (i : Int) }))[(i : Int).toNat]? = some ({ x8 with Map := k + 2 * (i : Int) }) := List.getElem?_set_self (List.getElem?_eq_some_iff.1 hx9).1
   refine Qn (Ws (Wr (Q (mI rfl) <| Q (r_add rfl rfl (by omega)) <| Q (aI rfl) <| Qn (Ws (Wr (Q (mL rfl) <| Q (mI rfl) <| Q (mI rfl) <| Q (r_ixR tsl32 (hO13.rd) rfl rfl (by omega)) <| Q (fA fa129_1 rfl) <| SR.storeO (o := 1) (vs := [.int .i64 ((k + 2 * (i : Int)) + 1)]) (x1 := { ({ x8 with Map := k + 2 * (i : Int) }) with Reader := (k + 2 * (i : Int)) + 1 }) sca3.2 rfl (add_add _ _ _) rfl rfl hO13 hx16 rfl ler rfl ?_))))))
   intro w17 hk18 hs19 hO20
   have hz21 := hk18.size
   rw [List.set_set] at hO20
   have hx23 : ((mkL mkAway 2 i k ++ L.drop i).set ((i : Int).toNat) ({ ({ x8 with Map := k + 2 * (i : Int) }) with Reader := (k + 2 * (i : Int)) + 1 }))[(i : Int).toNat]? = some ({ ({ x8 with Map := k + 2 * (i : Int) }) with Reader := (k + 2 * (i : Int)) + 1 }) := List.getElem?_set_self (List.getElem?_eq_some_iff.1 hx9).1
   refine Qn (Wr (Q (mI rfl) <| Q (r_add rfl rfl (by omega)) <| Q (aI rfl) <| Qn (Wr (Q (mI rfl) <| Q (r_add rfl rfl (by omega)) <| Q (aI rfl) <| Qn (⟨i + 1, _, rfl, ⟨rfl, (eI (by first | omega | (dsimp only; omega))), rfl, (eI (by first | omega | (dsimp only; omega))), trivial⟩, ⟨((hB3.step hk11 (fun i_ hi_ e' => by have := hm5.base_le e'; first | omega | exact e' | exact .inl e' | exact .inr e')).step hk18 (fun i_ hi_ e' => by have := hO13.base_le e'; first | omega | exact e' | exact .inl e' | exact .inr e')), (SlO.eqv hO20 (by exact mkL_set (by omega) (by first | (simp [mkAway]; done) | (simp [mkAway]; omega)))), ?_⟩, ?_⟩)))))
   ·exact (by omega)
   ·exact (by omega)
  ·refine W.exit (xin_here (Ws (Wr (Q (mI rfl) <| Q (aI rfl) <| Qn (W.ret (ret1 rfl (v := .int .i64 _) rfl ?_))))))
   refine ⟨eR (eI ?_), (SlO.eqv hm5 ?_), hB3⟩ <;> (first | omega | exact mkL_end hleL (by assumption) (by omega))
theorem z_c_laws_heldAwayS_11 (L : List Away) (nL : Nat) (hbdL : (nL : Int) ≤ 9223372036854775807) (hleL : nL = L.length) (k : Int) (m : Nat) (hp0 : 0 ≤ k) (hp1 : k ≤ 1000000000) (hp2 : (nL : Int) ≤ 1048576) (hp3 : L = mkL mkAway 2 m k) (i : Nat) (hi6 : i ≤ nL) (h7 : (i : Int) < (nL : Int)) (x8 : Away) (hx9 : L[i]? = some x8) (h10 : ¬ (x8.Map = (k + 2 * (i : Int)))) : (-1) = k + 2 * (m : Int) := by
 first | omega | (rw [hp3, mkL_len] at hleL; omega) | (exfalso; subst hp3; obtain rfl := mkL_get ‹_[_]? = some _›; first | (simp_all [mkAway]; done) | (simp only [mkAway] at *; omega))
theorem z_c_laws_heldAwayS_13 (L : List Away) (nL : Nat) (hbdL : (nL : Int) ≤ 9223372036854775807) (hleL : nL = L.length) (k : Int) (m : Nat) (hp0 : 0 ≤ k) (hp1 : k ≤ 1000000000) (hp2 : (nL : Int) ≤ 1048576) (hp3 : L = mkL mkAway 2 m k) (i : Nat) (hi6 : i ≤ nL) (h7 : (i : Int) < (nL : Int)) (x8 : Away) (hx9 : L[i]? = some x8) (h10 : x8.Map = (k + 2 * (i : Int))) (h12 : ¬ (x8.Reader = ((k + 2 * (i : Int)) + 1))) : (-1) = k + 2 * (m : Int) := by
 first | omega | (rw [hp3, mkL_len] at hleL; omega) | (exfalso; subst hp3; obtain rfl := mkL_get ‹_[_]? = some _›; first | (simp_all [mkAway]; done) | (simp only [mkAway] at *; omega))
theorem z_c_laws_heldAwayS_14 (L : List Away) (nL : Nat) (hbdL : (nL : Int) ≤ 9223372036854775807) (hleL : nL = L.length) (k : Int) (m : Nat) (hp0 : 0 ≤ k) (hp1 : k ≤ 1000000000) (hp2 : (nL : Int) ≤ 1048576) (hp3 : L = mkL mkAway 2 m k) (i : Nat) (hi6 : i ≤ nL) (h7 : ¬ ((i : Int) < (nL : Int))) : k + 2 * (i : Int) = k + 2 * (m : Int) := by
 first | omega | (rw [hp3, mkL_len] at hleL; omega) | (exfalso; subst hp3; obtain rfl := mkL_get ‹_[_]? = some _›; first | (simp_all [mkAway]; done) | (simp only [mkAway] at *; omega))
theorem c_laws_heldAwayS (w : World) {AL : Option Addr} {nL cL BL : Nat}  (L : List Away) (hL : SlR w BL encAway 2 AL nL cL L) (k : Int) (m : Nat) (hp0 : 0 ≤ k) (hp1 : k ≤ 1000000000) (hp2 : (nL : Int) ≤ 1048576) (hp3 : L = mkL mkAway 2 m k) : Calls Tryz.prog 105 #[.slice AL nL cL, .int .i64 k] w fun e w' => e = .returned (.int .i64 (k + 2 * (m : Int))) ∧ Lo w w' := by
 refine calls_W 31 Tryz.func105 rfl rfl rfl ?_
 have hbdL := hL.bound
 have hleL := hL.len
 have hBbL := hL.bd
 refine Ws (Wr (Q (aI rfl) <| Qn (Ws (Ws (Wr (Q (aI rfl) <| Qn (W.block (W.loop (σ := Nat) (fun g => [(0, .slice AL nL cL), (1, .int .i64 (k + 2 * (g : Int))), (5, .int .i64 (g : Int))]) (fun g w' => (Lo w w') ∧ (SlR w' BL encAway 2 AL nL cL L) ∧ (g ≤ nL)) (fun g => nL - g) 0 ?_ ?_ ?_))))))))
 ·refine ⟨rfl, (eI ?_), (eI ?_), trivial⟩ <;> (first | omega | (dsimp only; omega))
 ·exact ⟨(Lo.refl w), hL, (by omega)⟩
 ·rintro i f1 w2 hP4
  obtain ⟨hB3, hm5, hi6⟩ : (Lo w w2) ∧ (SlR w2 BL encAway 2 AL nL cL L) ∧ (i ≤ nL) := hP4
  refine (?_ : W _ _ _ _ _ (act _ (sets f1 [(0, .slice AL nL cL), (1, .int .i64 (k + 2 * (i : Int))), (5, .int .i64 (i : Int))])) _)
  have hzw2 := hB3.size
  refine Ws (Ws (Wr (Q (mI rfl) <| Q (mL rfl) <| Q (r_len und32 rfl) <| Q (r_lt rfl rfl) <| Qn (W.cond_d rfl (fun h7 => ?_) (fun h7 => ?_)))))
  ·refine W.skip (Ws (W.block (Ws (Ws (Wr (Q (mL rfl) <| Q (mI rfl) <| ?_))))))
   obtain ⟨x8, hx9⟩ := hm5.get (i := i) (by omega)
   refine Q (r_ixR tsl32 hm5 rfl rfl (by omega)) <| Q (fA fa129_0 rfl) <| Q (r_ld (v := .int .i64 x8.Map) sca3 rfl (hm5.cell hx9 rfl)) <| Q (mI rfl) <| Q (r_ne rfl rfl) <| Qn (W.cond_n rfl (fun h10 => ?_) (fun h10 => ?_))
   ·refine Ws (Wr (Q (r_as (v := .int .i64 (-1)) rfl) <| Qn (W.ret (ret1 rfl (v := .int .i64 _) rfl (⟨eR (eI (z_c_laws_heldAwayS_11 L nL hbdL hleL k m hp0 hp1 hp2 hp3 i hi6 h7 x8 hx9 h10)), hB3⟩)))))
   ·refine W.skip (Ws (Wr (Q (mI rfl) <| Q (r_add rfl rfl (by omega)) <| Q (aI rfl) <| Qn (Ws (Ws (Wr (Q (mL rfl) <| Q (mI rfl) <| Q (r_ixR tsl32 hm5 rfl rfl (by omega)) <| Q (fA fa129_1 rfl) <| Q (r_ld (v := .int .i64 x8.Reader) sca3 rfl (hm5.cell hx9 rfl)) <| Q (mI rfl) <| Q (r_ne rfl rfl) <| Qn (W.cond_n rfl (fun h12 => ?_) (fun h12 => ?_)))))))))
    ·refine Ws (Wr (Q (r_as (v := .int .i64 (-1)) rfl) <| Qn (W.ret (ret1 rfl (v := .int .i64 _) rfl (⟨eR (eI (z_c_laws_heldAwayS_13 L nL hbdL hleL k m hp0 hp1 hp2 hp3 i hi6 h7 x8 hx9 h10 h12)), hB3⟩)))))
    ·refine W.skip (Wr (Q (mI rfl) <| Q (r_add rfl rfl (by omega)) <| Q (aI rfl) <| Qn (Wr (Q (mI rfl) <| Q (r_add rfl rfl (by omega)) <| Q (aI rfl) <| Qn (⟨i + 1, _, rfl, ⟨rfl, (eI (by first | omega | (dsimp only; omega))), (eI (by first | omega | (dsimp only; omega))), trivial⟩, ⟨hB3, hm5, ?_⟩, ?_⟩)))))
     ·exact (by omega)
     ·exact (by omega)
  ·refine W.exit (xin_here (Ws (Wr (Q (mI rfl) <| Q (aI rfl) <| Qn (W.ret (ret1 rfl (v := .int .i64 _) rfl (⟨eR (eI (z_c_laws_heldAwayS_14 L nL hbdL hleL k m hp0 hp1 hp2 hp3 i hi6 h7)), hB3⟩)))))))
theorem z_c_laws_szLog_10 (r : Log) (left : Int) (hp0 : 0 ≤ left) (hp1 : left ≤ 1048576) (hp2 : (r.Durable.length : Int) ≤ 9223372036854775807) (hp3 : (r.Pending.length : Int) ≤ 9223372036854775807) (h9 : (left - (r.Durable.length : Int)) < 0) : (-1) = szN (r.Durable.length + r.Pending.length) left := by
 first | exact szN_neg ‹_› | exact szN_neg1 ‹_› | exact szN_neg2 ‹_› ‹_› | exact szN_add ‹_› ‹_› | (unfold szN at *; repeat (split at *)) <;> omega
theorem z_c_laws_szLog_12 (r : Log) (left : Int) (hp0 : 0 ≤ left) (hp1 : left ≤ 1048576) (hp2 : (r.Durable.length : Int) ≤ 9223372036854775807) (hp3 : (r.Pending.length : Int) ≤ 9223372036854775807) (h9 : ¬ ((left - (r.Durable.length : Int)) < 0)) (h11 : ((left - (r.Durable.length : Int)) - (r.Pending.length : Int)) < 0) : (-1) = szN (r.Durable.length + r.Pending.length) left := by
 first | exact szN_neg ‹_› | exact szN_neg1 ‹_› | exact szN_neg2 ‹_› ‹_› | exact szN_add ‹_› ‹_› | (unfold szN at *; repeat (split at *)) <;> omega
theorem z_c_laws_szLog_13 (r : Log) (left : Int) (hp0 : 0 ≤ left) (hp1 : left ≤ 1048576) (hp2 : (r.Durable.length : Int) ≤ 9223372036854775807) (hp3 : (r.Pending.length : Int) ≤ 9223372036854775807) (h9 : ¬ ((left - (r.Durable.length : Int)) < 0)) (h11 : ¬ (((left - (r.Durable.length : Int)) - (r.Pending.length : Int)) < 0)) : (left - (r.Durable.length : Int)) - (r.Pending.length : Int) = szN (r.Durable.length + r.Pending.length) left := by
 first | exact szN_neg ‹_› | exact szN_neg1 ‹_› | exact szN_neg2 ‹_› ‹_› | exact szN_add ‹_› ‹_› | (unfold szN at *; repeat (split at *)) <;> omega
theorem c_laws_szLog (w : World) (r : Log) (left : Int) (hp0 : 0 ≤ left) (hp1 : left ≤ 1048576) (hp2 : (r.Durable.length : Int) ≤ 9223372036854775807) (hp3 : (r.Pending.length : Int) ≤ 9223372036854775807) : Calls Tryz.prog 32 #[.agg (List.toArray (encLog r)), .int .i64 left] w fun e w' => e = .returned (.int .i64 (szN (r.Durable.length + r.Pending.length) left)) ∧ Lo w w' := by
 refine calls_W 20 Tryz.func32 rfl rfl rfl (Ws (Wr (SR.box (v := .agg (List.toArray _)) (l := [str r.Durable, str r.Pending, .int .i64 r.Count]) rfl rfl ?_)))
 intro g1 w2 hg3 hk4 hs5 hb6
 have hB8 := (Lo.refl w).lo hk4
 refine Q (aI rfl) <| Qn (Ws (Wr (Q (mI rfl) <| Q (fA fa27_0 rfl) <| Q (lB sca9 rfl hb6 rfl) <| Q (r_len_s und9 rfl) <| Q (r_sub rfl rfl (by omega)) <| Q (aI rfl) <| Qn (Ws (Ws (Wr (Q (mI rfl) <| Q (r_lt rfl rfl) <| Qn (W.cond_d rfl (fun h9 => ?_) (fun h9 => ?_)))))))))
 ·refine Ws (Wr (Q (r_as (v := .int .i64 (-1)) rfl) <| Qn (W.ret (ret1 rfl (v := .int .i64 _) rfl (⟨eR (eI (z_c_laws_szLog_10 r left hp0 hp1 hp2 hp3 h9)), hB8⟩)))))
 ·refine W.skip (Ws (Wr (Q (mI rfl) <| Q (fA fa27_1 rfl) <| Q (lB sca9 rfl hb6 rfl) <| Q (r_len_s und9 rfl) <| Q (r_sub rfl rfl (by omega)) <| Q (aI rfl) <| Qn (Ws (Ws (Wr (Q (mI rfl) <| Q (r_lt rfl rfl) <| Qn (W.cond_d rfl (fun h11 => ?_) (fun h11 => ?_)))))))))
  ·refine Ws (Wr (Q (r_as (v := .int .i64 (-1)) rfl) <| Qn (W.ret (ret1 rfl (v := .int .i64 _) rfl (⟨eR (eI (z_c_laws_szLog_12 r left hp0 hp1 hp2 hp3 h9 h11)), hB8⟩)))))
  ·refine W.skip (Ws (Wr (Q (mI rfl) <| Q (aI rfl) <| Qn (W.ret (ret1 rfl (v := .int .i64 _) rfl (⟨eR (eI (z_c_laws_szLog_13 r left hp0 hp1 hp2 hp3 h9 h11)), hB8⟩))))))
theorem c_laws_toLog (w : World) (r : Log) : Calls Tryz.prog 33 #[.agg (List.toArray (encLog r))] w fun e w' => e = .returned (.agg (List.toArray (encLog r))) ∧ Lo w w' := by
 refine calls_W 14 Tryz.func33 rfl rfl rfl (Ws (Wr (SR.box (v := .agg (List.toArray _)) (l := [str r.Durable, str r.Pending, .int .i64 r.Count]) rfl rfl ?_)))
 intro g1 w2 hg3 hk4 hs5 hb6
 refine SR.alloc (l := [str ([] : List UInt8), str ([] : List UInt8), .int .i64 0]) tz35 rfl ?_
 intro g9 w10 hg11 hk12 hs13 hb14
 refine Qn (Ws (Wr (SR.alloc (l := [str ([] : List UInt8), str ([] : List UInt8), .int .i64 0]) tz35 rfl ?_)))
 intro g17 w18 hg19 hk20 hs21 hb22
 refine Qn (Ws ?_)
 have hm25 := (hb6.lo hk12).lo hk20
 refine Wr (Q (fA fa27_0 rfl) <| Q (lB sca9 rfl hm25 rfl) <| Q (fA fa35_0 rfl) <| Qw (o := 0) (vs := [str r.Durable]) sca9.2 rfl rfl rfl rfl hb22 ler rfl ?_)
 intro w26 hk27 hs28 hb29
 refine Qn (Ws (Wr (Q (fA fa27_1 rfl) <| Q (lB sca9 rfl (hm25.kn hk27) rfl) <| Q (fA fa35_1 rfl) <| Qw (o := 1) (vs := [str r.Pending]) sca9.2 rfl rfl rfl rfl hb29 ler rfl ?_)))
 intro w33 hk34 hs35 hb36
 refine Qn (Ws (Wr (Q (fA fa27_2 rfl) <| Q (lB sca3 rfl ((hm25.kn hk27).kn hk34) rfl) <| Q (fA fa35_2 rfl) <| Qw (o := 2) (vs := [.int .i64 r.Count]) sca3.2 rfl rfl rfl rfl hb36 ler rfl ?_)))
 intro w40 hk41 hs42 hb43
 refine Qn (Ws (Wr (Q (lG agg35 rfl hb43 rfl) <| Qw (o := 0) (vs := [str r.Durable, str r.Pending, .int .i64 r.Count]) agg35.2 rfl rfl rfl rfl ((((hb14.lo hk20).kn hk27).kn hk34).kn hk41) ler rfl ?_)))
 intro w47 hk48 hs49 hb50
 refine Qn (W.ret (retC rfl rfl agg35 hb50 rfl (⟨eR (eA (by first | rfl | (first | rfl | omega | grind))), ((((((((Lo.refl w).lo hk4).lo hk12).lo hk20).new hk27).new hk34).new hk41).new hk48)⟩)))
theorem c_laws_eqLog (w : World) (a : Log) (b : Log) : Calls Tryz.prog 52 #[.agg (List.toArray (encLog a)), .agg (List.toArray (encLog b))] w fun e w' => e = .returned (.bool (decide (a = b))) ∧ Lo w w' := by
 refine calls_W 20 Tryz.func52 rfl rfl rfl (Ws (Wr (SR.box (v := .agg (List.toArray _)) (l := [str a.Durable, str a.Pending, .int .i64 a.Count]) rfl rfl ?_)))
 intro g1 w2 hg3 hk4 hs5 hb6
 refine SR.box (v := .agg (List.toArray _)) (l := [str b.Durable, str b.Pending, .int .i64 b.Count]) rfl rfl ?_
 intro g9 w10 hg11 hk12 hs13 hb14
 have hB16 := ((Lo.refl w).lo hk4).lo hk12
 refine Q (aB rfl) <| Qn (Ws (Ws (Wr (Q (fA fa35_0 rfl) <| Q (lB sca9 rfl (hb6.lo hk12) rfl) <| Q (fA fa35_0 rfl) <| Q (lB sca9 rfl hb14 rfl) <| Q (r_nes (s := a.Durable) (r := b.Durable) rfl rfl) <| Qn (W.cond_n rfl (fun h17 => ?_) (fun h17 => ?_))))))
 ·refine Ws (Wr (Q (aB rfl) <| Qn (W.ret (ret1 rfl (v := .bool _) rfl (⟨eR (eDF (by cases a; cases b; simp_all)), hB16⟩)))))
 ·refine W.skip (Ws (Ws (Wr (Q (fA fa35_1 rfl) <| Q (lB sca9 rfl (hb6.lo hk12) rfl) <| Q (fA fa35_1 rfl) <| Q (lB sca9 rfl hb14 rfl) <| Q (r_nes (s := a.Pending) (r := b.Pending) rfl rfl) <| Qn (W.cond_n rfl (fun h18 => ?_) (fun h18 => ?_))))))
  ·refine Ws (Wr (Q (aB rfl) <| Qn (W.ret (ret1 rfl (v := .bool _) rfl (⟨eR (eDF (by cases a; cases b; simp_all)), hB16⟩)))))
  ·refine W.skip (Ws (Ws (Wr (Q (fA fa35_2 rfl) <| Q (lB sca3 rfl (hb6.lo hk12) rfl) <| Q (fA fa35_2 rfl) <| Q (lB sca3 rfl hb14 rfl) <| Q (r_ne rfl rfl) <| Qn (W.cond_n rfl (fun h19 => ?_) (fun h19 => ?_))))))
   ·refine Ws (Wr (Q (aB rfl) <| Qn (W.ret (ret1 rfl (v := .bool _) rfl (⟨eR (eDF (by cases a; cases b; simp_all)), hB16⟩)))))
   ·refine W.skip (Ws (Wr (Q (aB rfl) <| Qn (W.ret (ret1 rfl (v := .bool _) rfl (⟨eR (eDT (by cases a; cases b; simp_all)), hB16⟩))))))
theorem c_laws_toLibrary (w : World) (r : Library) {Ar1 : Option Addr} {nr1 cr1 Br1 : Nat} (hr1 : SlR w Br1 encLMap 3 Ar1 nr1 cr1 r.Maps) {Ar2 : Option Addr} {nr2 cr2 Br2 : Nat} (hr2 : SlR w Br2 encAway 2 Ar2 nr2 cr2 r.Away) (hp0 : (nr1 : Int) ≤ 1048576) (hp1 : (nr2 : Int) ≤ 1048576) : Calls Tryz.prog 46 #[.agg (List.toArray (cLb Ar1 nr1 cr1 Ar2 nr2 cr2 r))] w fun e w' => ∃ (A1' : Option Addr) (n1' c1' : Nat) (A2' : Option Addr) (n2' c2' : Nat), e = .returned (.agg (List.toArray (cLb A1' n1' c1' A2' n2' c2' r))) ∧ SlO w' w.heap.size encLMap 3 102 A1' n1' c1' r.Maps ∧ SlO w' w.heap.size encAway 2 129 A2' n2' c2' r.Away ∧ Dj A1' A2' ∧ Lo w w' := by
 refine calls_W 22 Tryz.func46 rfl rfl rfl ?_
 have hbdr1 := hr1.bound
 have hler1 := hr1.len
 have hBbr1 := hr1.bd
 have hbdr2 := hr2.bound
 have hler2 := hr2.len
 have hBbr2 := hr2.bd
 refine Ws (Wr (SR.box (v := .agg (List.toArray _)) (l := (cLb Ar1 nr1 cr1 Ar2 nr2 cr2 r)) rfl rfl ?_))
 intro g1 w2 hg3 hk4 hs5 hb6
 refine SR.alloc (l := [.slice none 0 0, .slice none 0 0, .int .i64 0, .int .i64 0, .int .i64 0]) tz34 rfl ?_
 intro g9 w10 hg11 hk12 hs13 hb14
 refine Qn (Ws (Wr (SR.alloc (l := [.slice none 0 0, .slice none 0 0, .int .i64 0, .int .i64 0, .int .i64 0]) tz34 rfl ?_)))
 intro g19 w20 hg21 hk22 hs23 hb24
 refine Qn (Ws ?_)
 have hm27 := (hb6.lo hk12).lo hk22
 refine Wr (Q (fA fa25_0 rfl) <| Q (lB sca22 rfl hm27 rfl) <| SR.call ent89 (c_laws_toMapS w20 r.Maps (((hr1.lo hk4).lo hk12).lo hk22) (by omega)) rfl ?_)
 rintro e w28 ⟨A30, n31, c32, rfl, hO33, hk29⟩
 refine ⟨_, rfl, ?_⟩
 have hz34 := hk29.size
 have hl36 := hO33.len
 have hl37 := hO33.rd.bound
 refine Q (fA fa34_0 rfl) <| Qw (o := 0) (vs := [.slice A30 n31 c32]) sca31.2 rfl rfl rfl rfl (hb24.lo hk29) ler rfl ?_
 intro w38 hk39 hs40 hb41
 refine Qn (Ws ?_)
 have hm44 := (hm27.lo hk29).kn hk39
 refine Wr (Q (fA fa25_1 rfl) <| Q (lB sca23 rfl hm44 rfl) <| SR.call ent90 (c_laws_toAwayS w38 r.Away (((((hr2.lo hk4).lo hk12).lo hk22).lo hk29).kn hk39) (by omega)) rfl ?_)
 rintro e w48 ⟨A50, n51, c52, rfl, hO53, hk49⟩
 refine ⟨_, rfl, ?_⟩
 have hz54 := hk49.size
 have hl56 := hO53.len
 have hl57 := hO53.rd.bound
 refine Q (fA fa34_1 rfl) <| Qw (o := 1) (vs := [.slice A50 n51 c52]) sca32.2 rfl rfl rfl rfl (hb41.lo hk49) ler rfl ?_
 intro w58 hk59 hs60 hb61
 refine Qn (Ws ?_)
 have hm64 := (hm44.lo hk49).kn hk59
 refine Wr (Q (fA fa25_2 rfl) <| Q (lB sca3 rfl hm64 rfl) <| Q (fA fa34_2 rfl) <| Qw (o := 2) (vs := [.int .i64 r.Bought]) sca3.2 rfl rfl rfl rfl hb61 ler rfl ?_)
 intro w69 hk70 hs71 hb72
 refine Qn (Ws (Wr (Q (fA fa25_3 rfl) <| Q (lB sca3 rfl (hm64.kn hk70) rfl) <| Q (fA fa34_3 rfl) <| Qw (o := 3) (vs := [.int .i64 r.Dropped]) sca3.2 rfl rfl rfl rfl hb72 ler rfl ?_)))
 intro w76 hk77 hs78 hb79
 refine Qn (Ws (Wr (Q (fA fa25_4 rfl) <| Q (lB sca3 rfl ((hm64.kn hk70).kn hk77) rfl) <| Q (fA fa34_4 rfl) <| Qw (o := 4) (vs := [.int .i64 r.Mended]) sca3.2 rfl rfl rfl rfl hb79 ler rfl ?_)))
 intro w87 hk88 hs89 hb90
 refine Qn (Ws ?_)
 have hm93 := (((hO53.kn hk59).kn hk70).kn hk77).kn hk88
 refine Wr (Q (lG agg34 rfl hb90 rfl) <| Qw (o := 0) (vs := (cLb A30 n31 c32 A50 n51 c52 r)) agg34.2 rfl rfl rfl rfl ((((((((hb14.lo hk22).lo hk29).kn hk39).lo hk49).kn hk59).kn hk70).kn hk77).kn hk88) ler rfl ?_)
 intro w94 hk95 hs96 hb97
 refine Qn (W.ret (retC rfl rfl agg34 hb97 rfl (⟨A30, n31, c32, A50, n51, c52, eR rfl, ((((((((hO33.kn hk39).lo hk49).kn hk59).kn hk70).kn hk77).kn hk88).kn hk95).down), ((hm93.kn hk95).down), (fun b_ h h' => by have h1 := (hO33.kn hk39).base_le h; have h2 := (hm93.kn hk95).base_le h'; omega), ((((((((((((Lo.refl w).lo hk4).lo hk12).lo hk22).lo hk29).new hk39).lo hk49).new hk59).new hk70).new hk77).new hk88).new hk95)⟩)))
theorem z_c_laws_szLibrary_16 (r : Library) (nr1 : Nat) (hbdr1 : (nr1 : Int) ≤ 9223372036854775807) (hler1 : nr1 = r.Maps.length) (nr2 : Nat) (hbdr2 : (nr2 : Int) ≤ 9223372036854775807) (hler2 : nr2 = r.Away.length) (left : Int) (hp0 : 0 ≤ left) (hp1 : left ≤ 1048576) (h15 : (szN r.Maps.length left) < 0) : (-1) = szN (r.Maps.length + r.Away.length) left := by
 first | exact szN_neg ‹_› | exact szN_neg1 ‹_› | exact szN_neg2 ‹_› ‹_› | exact szN_add ‹_› ‹_› | (unfold szN at *; repeat (split at *)) <;> omega
theorem z_c_laws_szLibrary_23 (r : Library) (nr1 : Nat) (hbdr1 : (nr1 : Int) ≤ 9223372036854775807) (hler1 : nr1 = r.Maps.length) (nr2 : Nat) (hbdr2 : (nr2 : Int) ≤ 9223372036854775807) (hler2 : nr2 = r.Away.length) (left : Int) (hp0 : 0 ≤ left) (hp1 : left ≤ 1048576) (h15 : ¬ ((szN r.Maps.length left) < 0)) (hq17 : ((r.Maps.length : Nat) : Int) ≤ left ∧ szN r.Maps.length left = left - (r.Maps.length : Int)) (h22 : (szN r.Away.length (szN r.Maps.length left)) < 0) : (-1) = szN (r.Maps.length + r.Away.length) left := by
 first | exact szN_neg ‹_› | exact szN_neg1 ‹_› | exact szN_neg2 ‹_› ‹_› | exact szN_add ‹_› ‹_› | (unfold szN at *; repeat (split at *)) <;> omega
theorem z_c_laws_szLibrary_25 (r : Library) (nr1 : Nat) (hbdr1 : (nr1 : Int) ≤ 9223372036854775807) (hler1 : nr1 = r.Maps.length) (nr2 : Nat) (hbdr2 : (nr2 : Int) ≤ 9223372036854775807) (hler2 : nr2 = r.Away.length) (left : Int) (hp0 : 0 ≤ left) (hp1 : left ≤ 1048576) (h15 : ¬ ((szN r.Maps.length left) < 0)) (hq17 : ((r.Maps.length : Nat) : Int) ≤ left ∧ szN r.Maps.length left = left - (r.Maps.length : Int)) (h22 : ¬ ((szN r.Away.length (szN r.Maps.length left)) < 0)) (hq24 : ((r.Away.length : Nat) : Int) ≤ (szN r.Maps.length left) ∧ szN r.Away.length (szN r.Maps.length left) = (szN r.Maps.length left) - (r.Away.length : Int)) : szN r.Away.length (szN r.Maps.length left) = szN (r.Maps.length + r.Away.length) left := by
 first | exact szN_neg ‹_› | exact szN_neg1 ‹_› | exact szN_neg2 ‹_› ‹_› | exact szN_add ‹_› ‹_› | (unfold szN at *; repeat (split at *)) <;> omega
theorem c_laws_szLibrary (w : World) (r : Library) {Ar1 : Option Addr} {nr1 cr1 Br1 : Nat} (hr1 : SlR w Br1 encLMap 3 Ar1 nr1 cr1 r.Maps) {Ar2 : Option Addr} {nr2 cr2 Br2 : Nat} (hr2 : SlR w Br2 encAway 2 Ar2 nr2 cr2 r.Away) (left : Int) (hp0 : 0 ≤ left) (hp1 : left ≤ 1048576) : Calls Tryz.prog 40 #[.agg (List.toArray (cLb Ar1 nr1 cr1 Ar2 nr2 cr2 r)), .int .i64 left] w fun e w' => e = .returned (.int .i64 (szN (r.Maps.length + r.Away.length) left)) ∧ Lo w w' := by
 refine calls_W 18 Tryz.func40 rfl rfl rfl ?_
 have hbdr1 := hr1.bound
 have hler1 := hr1.len
 have hBbr1 := hr1.bd
 have hbdr2 := hr2.bound
 have hler2 := hr2.len
 have hBbr2 := hr2.bd
 refine Ws (Wr (SR.box (v := .agg (List.toArray _)) (l := (cLb Ar1 nr1 cr1 Ar2 nr2 cr2 r)) rfl rfl ?_))
 intro g1 w2 hg3 hk4 hs5 hb6
 refine Q (aI rfl) <| Qn (Ws (Wr (Q (fA fa25_0 rfl) <| Q (lB sca22 rfl hb6 rfl) <| Q (mI rfl) <| Qv ent77 (c_laws_szMapS w2 r.Maps (hr1.lo hk4) left (by omega) (by omega)) rfl fun w9 hk10 hz11 => ?_)))
 have hB12 := ((Lo.refl w).lo hk4).lo hk10
 refine Q (aI rfl) <| Qn (Ws (Ws (Wr (Q (mI rfl) <| Q (r_lt rfl rfl) <| Qn (W.cond_d rfl (fun h15 => ?_) (fun h15 => ?_))))))
 ·refine Ws (Wr (Q (r_as (v := .int .i64 (-1)) rfl) <| Qn (W.ret (ret1 rfl (v := .int .i64 _) rfl (⟨eR (eI (z_c_laws_szLibrary_16 r nr1 hbdr1 hler1 nr2 hbdr2 hler2 left hp0 hp1 h15)), hB12⟩)))))
 ·have hq17 := szN_ok h15
  refine W.skip (Ws (Wr (Q (fA fa25_1 rfl) <| Q (lB sca23 rfl (hb6.lo hk10) rfl) <| Q (mI rfl) <| Qv ent78 (c_laws_szAwayS w9 r.Away ((hr2.lo hk4).lo hk10) (szN r.Maps.length left) (by omega) (by omega)) rfl fun w18 hk19 hz20 => ?_)))
  have hB21 := hB12.lo hk19
  refine Q (aI rfl) <| Qn (Ws (Ws (Wr (Q (mI rfl) <| Q (r_lt rfl rfl) <| Qn (W.cond_d rfl (fun h22 => ?_) (fun h22 => ?_))))))
  ·refine Ws (Wr (Q (r_as (v := .int .i64 (-1)) rfl) <| Qn (W.ret (ret1 rfl (v := .int .i64 _) rfl (⟨eR (eI (z_c_laws_szLibrary_23 r nr1 hbdr1 hler1 nr2 hbdr2 hler2 left hp0 hp1 h15 hq17 h22)), hB21⟩)))))
  ·have hq24 := szN_ok h22
   refine W.skip (Ws (Wr (Q (mI rfl) <| Q (aI rfl) <| Qn (W.ret (ret1 rfl (v := .int .i64 _) rfl (⟨eR (eI (z_c_laws_szLibrary_25 r nr1 hbdr1 hler1 nr2 hbdr2 hler2 left hp0 hp1 h15 hq17 h22 hq24)), hB21⟩))))))
theorem c_laws_eqLibrary (w : World) (a : Library) {Aa1 : Option Addr} {na1 ca1 Ba1 : Nat} (ha1 : SlR w Ba1 encLMap 3 Aa1 na1 ca1 a.Maps) {Aa2 : Option Addr} {na2 ca2 Ba2 : Nat} (ha2 : SlR w Ba2 encAway 2 Aa2 na2 ca2 a.Away) (b : Library) {Ab1 : Option Addr} {nb1 cb1 Bb1 : Nat} (hb1 : SlR w Bb1 encLMap 3 Ab1 nb1 cb1 b.Maps) {Ab2 : Option Addr} {nb2 cb2 Bb2 : Nat} (hb2 : SlR w Bb2 encAway 2 Ab2 nb2 cb2 b.Away) : Calls Tryz.prog 51 #[.agg (List.toArray (cLb Aa1 na1 ca1 Aa2 na2 ca2 a)), .agg (List.toArray (cLb Ab1 nb1 cb1 Ab2 nb2 cb2 b))] w fun e w' => e = .returned (.bool (decide (a = b))) ∧ Lo w w' := by
 refine calls_W 32 Tryz.func51 rfl rfl rfl ?_
 have hbda1 := ha1.bound
 have hlea1 := ha1.len
 have hBba1 := ha1.bd
 have hbda2 := ha2.bound
 have hlea2 := ha2.len
 have hBba2 := ha2.bd
 have hbdb1 := hb1.bound
 have hleb1 := hb1.len
 have hBbb1 := hb1.bd
 have hbdb2 := hb2.bound
 have hleb2 := hb2.len
 have hBbb2 := hb2.bd
 refine Ws (Wr (SR.box (v := .agg (List.toArray _)) (l := (cLb Aa1 na1 ca1 Aa2 na2 ca2 a)) rfl rfl ?_))
 intro g1 w2 hg3 hk4 hs5 hb6
 refine SR.box (v := .agg (List.toArray _)) (l := (cLb Ab1 nb1 cb1 Ab2 nb2 cb2 b)) rfl rfl ?_
 intro g9 w10 hg11 hk12 hs13 hb14
 refine Q (aB rfl) <| Qn (Ws (Ws (Wr (Q (fA fa34_0 rfl) <| Q (lB sca31 rfl (hb6.lo hk12) rfl) <| Q (fA fa34_0 rfl) <| Q (lB sca31 rfl hb14 rfl) <| Qv ent100 (c_laws_eqMapS w10 a.Maps ((ha1.lo hk4).lo hk12) b.Maps ((hb1.lo hk4).lo hk12)) rfl fun w21 hk22 hz23 => ?_))))
 have hB24 := (((Lo.refl w).lo hk4).lo hk12).lo hk22
 refine Q (r_not rfl) <| Qn (W.cond_n rfl (fun h25 => ?_) (fun h25 => ?_))
 ·refine Ws (Wr (Q (aB rfl) <| Qn (W.ret (ret1 rfl (v := .bool _) rfl (⟨eR (eDF (by cases a; cases b; simp_all)), hB24⟩)))))
 ·refine W.skip (Ws (Ws ?_))
  have hm27 := (hb6.lo hk12).lo hk22
  refine Wr (Q (fA fa34_1 rfl) <| Q (lB sca32 rfl hm27 rfl) <| Q (fA fa34_1 rfl) <| Q (lB sca32 rfl (hb14.lo hk22) rfl) <| Qv ent101 (c_laws_eqAwayS w21 a.Away (((ha2.lo hk4).lo hk12).lo hk22) b.Away (((hb2.lo hk4).lo hk12).lo hk22)) rfl fun w28 hk29 hz30 => ?_)
  have hB31 := hB24.lo hk29
  refine Q (r_not rfl) <| Qn (W.cond_n rfl (fun h32 => ?_) (fun h32 => ?_))
  ·refine Ws (Wr (Q (aB rfl) <| Qn (W.ret (ret1 rfl (v := .bool _) rfl (⟨eR (eDF (by cases a; cases b; simp_all)), hB31⟩)))))
  ·refine W.skip (Ws (Ws ?_))
   have hm40 := (hb14.lo hk22).lo hk29
   refine Wr (Q (fA fa34_2 rfl) <| Q (lB sca3 rfl (hm27.lo hk29) rfl) <| Q (fA fa34_2 rfl) <| Q (lB sca3 rfl hm40 rfl) <| Q (r_ne rfl rfl) <| Qn (W.cond_n rfl (fun h43 => ?_) (fun h43 => ?_)))
   ·refine Ws (Wr (Q (aB rfl) <| Qn (W.ret (ret1 rfl (v := .bool _) rfl (⟨eR (eDF (by cases a; cases b; simp_all)), hB31⟩)))))
   ·refine W.skip (Ws (Ws (Wr (Q (fA fa34_3 rfl) <| Q (lB sca3 rfl (hm27.lo hk29) rfl) <| Q (fA fa34_3 rfl) <| Q (lB sca3 rfl hm40 rfl) <| Q (r_ne rfl rfl) <| Qn (W.cond_n rfl (fun h44 => ?_) (fun h44 => ?_))))))
    ·refine Ws (Wr (Q (aB rfl) <| Qn (W.ret (ret1 rfl (v := .bool _) rfl (⟨eR (eDF (by cases a; cases b; simp_all)), hB31⟩)))))
    ·refine W.skip (Ws (Ws (Wr (Q (fA fa34_4 rfl) <| Q (lB sca3 rfl (hm27.lo hk29) rfl) <| Q (fA fa34_4 rfl) <| Q (lB sca3 rfl hm40 rfl) <| Q (r_ne rfl rfl) <| Qn (W.cond_n rfl (fun h45 => ?_) (fun h45 => ?_))))))
     ·refine Ws (Wr (Q (aB rfl) <| Qn (W.ret (ret1 rfl (v := .bool _) rfl (⟨eR (eDF (by cases a; cases b; simp_all)), hB31⟩)))))
     ·refine W.skip (Ws (Wr (Q (aB rfl) <| Qn (W.ret (ret1 rfl (v := .bool _) rfl (⟨eR (eDT (by cases a; cases b; simp_all)), hB31⟩))))))
theorem c_laws_markLibrary (w : World) (r : Library) {Ar1 : Option Addr} {nr1 cr1 Br1 : Nat} (hr1 : SlO w Br1 encLMap 3 102 Ar1 nr1 cr1 r.Maps) {Ar2 : Option Addr} {nr2 cr2 Br2 : Nat} (hr2 : SlO w Br2 encAway 2 129 Ar2 nr2 cr2 r.Away) (k : Int) (hdr_Maps_r2 : Dj Ar1 Ar2) (hp0 : 0 ≤ k) (hp1 : k ≤ 1000) (hp2 : (nr1 : Int) ≤ 1048576) (hp3 : (nr2 : Int) ≤ 1048576) : Calls Tryz.prog 53 #[.agg (List.toArray (cLb Ar1 nr1 cr1 Ar2 nr2 cr2 r)), .int .i64 k] w fun e w' => e = .returned (.int .i64 (k + 3 * (r.Maps.length : Int) + 2 * (r.Away.length : Int))) ∧ SlO w' Br1 encLMap 3 102 Ar1 nr1 cr1 (mkL mkLMap 3 r.Maps.length k) ∧ SlO w' Br2 encAway 2 129 Ar2 nr2 cr2 (mkL mkAway 2 r.Away.length (k + 3 * (r.Maps.length : Int))) ∧ Kp (fun b_ => Ar1 = some ⟨b_, 0, none⟩ ∨ Ar2 = some ⟨b_, 0, none⟩) w w' := by
 refine calls_W 14 Tryz.func53 rfl rfl rfl ?_
 have hbdr1 := hr1.rd.bound
 have hler1 := hr1.len
 have hBbr1 := hr1.bd
 have hbdr2 := hr2.rd.bound
 have hler2 := hr2.len
 have hBbr2 := hr2.bd
 refine Ws (Wr (SR.box (v := .agg (List.toArray _)) (l := (cLb Ar1 nr1 cr1 Ar2 nr2 cr2 r)) rfl rfl ?_))
 intro g1 w2 hg3 hk4 hs5 hb6
 refine Q (aI rfl) <| Qn (Ws (Wr (Q (fA fa34_0 rfl) <| Q (lB sca31 rfl hb6 rfl) <| Q (mI rfl) <| SR.call ent102 (c_laws_markMapS w2 r.Maps (hr1.lo hk4) k (by omega) (by omega) (by omega)) rfl ?_)))
 rintro e w11 ⟨rfl, hO13, hk12⟩
 refine ⟨_, rfl, ?_⟩
 have hz14 := hk12.size
 refine Q (aI rfl) <| Qn (Ws ?_)
 have hm16 := (hr2.lo hk4).kp hk12 (fun b_ hb e' => hdr_Maps_r2 b_ e' hb)
 refine Wr (Q (fA fa34_1 rfl) <| Q (lB sca32 rfl (hb6.kp hk12 (fun e' => (SlO.ne (g := g1) hr1) e')) rfl) <| Q (mI rfl) <| SR.call ent103 (c_laws_markAwayS w11 r.Away hm16 (k + 3 * (r.Maps.length : Int)) (by omega) (by omega) (by omega)) rfl ?_)
 rintro e w17 ⟨rfl, hO19, hk18⟩
 refine ⟨_, rfl, ?_⟩
 have hz20 := hk18.size
 refine Q (aI rfl) <| Qn (Ws (Wr (Q (mI rfl) <| Q (aI rfl) <| Qn (W.ret (ret1 rfl (v := .int .i64 _) rfl (⟨eR (eI (by first | rfl | omega)), (hO13.kp hk18 (fun b_ hb e' => hdr_Maps_r2 b_ hb e')), hO19, ((((Kp.refl w : Kp (fun b_ => Ar1 = some ⟨b_, 0, none⟩ ∨ Ar2 = some ⟨b_, 0, none⟩) w w).lo hk4).step hk12 (fun i_ hi_ e' => by have := (hr1.lo hk4).base_le e'; first | omega | exact e' | exact .inl e' | exact .inr e')).step hk18 (fun i_ hi_ e' => by have := hm16.base_le e'; first | omega | exact e' | exact .inl e' | exact .inr e'))⟩))))))
theorem c_laws_heldLibrary (w : World) (r : Library) {Ar1 : Option Addr} {nr1 cr1 Br1 : Nat} (hr1 : SlR w Br1 encLMap 3 Ar1 nr1 cr1 r.Maps) {Ar2 : Option Addr} {nr2 cr2 Br2 : Nat} (hr2 : SlR w Br2 encAway 2 Ar2 nr2 cr2 r.Away) (k : Int) (m_Maps : Nat) (m_Away : Nat) (hp0 : 0 ≤ k) (hp1 : k ≤ 1000) (hp2 : (nr1 : Int) ≤ 1048576) (hp3 : (nr2 : Int) ≤ 1048576) (hp4 : r.Maps = mkL mkLMap 3 m_Maps k) (hp5 : r.Away = mkL mkAway 2 m_Away (k + 3 * (m_Maps : Int))) (hp6 : (m_Maps : Int) ≤ 1048576) (hp7 : (m_Away : Int) ≤ 1048576) : Calls Tryz.prog 54 #[.agg (List.toArray (cLb Ar1 nr1 cr1 Ar2 nr2 cr2 r)), .int .i64 k] w fun e w' => e = .returned (.int .i64 (k + 3 * (m_Maps : Int) + 2 * (m_Away : Int))) ∧ Lo w w' := by
 refine calls_W 18 Tryz.func54 rfl rfl rfl ?_
 have hbdr1 := hr1.bound
 have hler1 := hr1.len
 have hBbr1 := hr1.bd
 have hbdr2 := hr2.bound
 have hler2 := hr2.len
 have hBbr2 := hr2.bd
 refine Ws (Wr (SR.box (v := .agg (List.toArray _)) (l := (cLb Ar1 nr1 cr1 Ar2 nr2 cr2 r)) rfl rfl ?_))
 intro g1 w2 hg3 hk4 hs5 hb6
 refine Q (aI rfl) <| Qn (Ws (Wr (Q (fA fa34_0 rfl) <| Q (lB sca31 rfl hb6 rfl) <| Q (mI rfl) <| Qv ent104 (c_laws_heldMapS w2 r.Maps (hr1.lo hk4) k m_Maps (by omega) (by omega) (by omega) (by first | rfl | assumption)) rfl fun w9 hk10 hz11 => ?_)))
 have hB12 := ((Lo.refl w).lo hk4).lo hk10
 refine Q (aI rfl) <| Qn (Ws (Ws (Wr (Q (mI rfl) <| Q (r_lt rfl rfl) <| Qn (W.cond_d rfl (fun h15 => ?_) (fun h15 => ?_))))))
 ·refine Ws (Wr (Q (r_as (v := .int .i64 (-1)) rfl) <| Qn (W.ret (ret1 rfl (v := .int .i64 _) rfl (⟨eR (eI (by first | rfl | omega)), hB12⟩)))))
 ·refine W.skip (Ws (Wr (Q (fA fa34_1 rfl) <| Q (lB sca32 rfl (hb6.lo hk10) rfl) <| Q (mI rfl) <| Qv ent105 (c_laws_heldAwayS w9 r.Away ((hr2.lo hk4).lo hk10) (k + 3 * (m_Maps : Int)) m_Away (by omega) (by omega) (by omega) (by first | rfl | assumption)) rfl fun w16 hk17 hz18 => ?_)))
  have hB19 := hB12.lo hk17
  refine Q (aI rfl) <| Qn (Ws (Ws (Wr (Q (mI rfl) <| Q (r_lt rfl rfl) <| Qn (W.cond_d rfl (fun h20 => ?_) (fun h20 => ?_))))))
  ·refine Ws (Wr (Q (r_as (v := .int .i64 (-1)) rfl) <| Qn (W.ret (ret1 rfl (v := .int .i64 _) rfl (⟨eR (eI (by first | rfl | omega)), hB19⟩)))))
  ·refine W.skip (Ws (Wr (Q (mI rfl) <| Q (aI rfl) <| Qn (W.ret (ret1 rfl (v := .int .i64 _) rfl (⟨eR (eI (by first | rfl | omega)), hB19⟩))))))
theorem z_c_laws_szConsole_16 (r : Console) (nr_Library_Maps : Nat) (hbdr_Library_Maps : (nr_Library_Maps : Int) ≤ 9223372036854775807) (hler_Library_Maps : nr_Library_Maps = r.Library.Maps.length) (nr_Library_Away : Nat) (hbdr_Library_Away : (nr_Library_Away : Int) ≤ 9223372036854775807) (hler_Library_Away : nr_Library_Away = r.Library.Away.length) (left : Int) (hp0 : 0 ≤ left) (hp1 : left ≤ 1048576) (hp2 : (r.Log.Durable.length : Int) ≤ 9223372036854775807 ∧ (r.Log.Pending.length : Int) ≤ 9223372036854775807) (h15 : (szN (r.Library.Maps.length + r.Library.Away.length) left) < 0) : (-1) = szN (r.Library.Maps.length + r.Library.Away.length + r.Log.Durable.length + r.Log.Pending.length) left := by
 (unfold szN at *; repeat (split at *)) <;> omega
theorem z_c_laws_szConsole_24 (r : Console) (nr_Library_Maps : Nat) (hbdr_Library_Maps : (nr_Library_Maps : Int) ≤ 9223372036854775807) (hler_Library_Maps : nr_Library_Maps = r.Library.Maps.length) (nr_Library_Away : Nat) (hbdr_Library_Away : (nr_Library_Away : Int) ≤ 9223372036854775807) (hler_Library_Away : nr_Library_Away = r.Library.Away.length) (left : Int) (hp0 : 0 ≤ left) (hp1 : left ≤ 1048576) (hp2 : (r.Log.Durable.length : Int) ≤ 9223372036854775807 ∧ (r.Log.Pending.length : Int) ≤ 9223372036854775807) (h15 : ¬ ((szN (r.Library.Maps.length + r.Library.Away.length) left) < 0)) (hq17 : ((r.Library.Maps.length + r.Library.Away.length : Nat) : Int) ≤ left ∧ szN (r.Library.Maps.length + r.Library.Away.length) left = left - ((r.Library.Maps.length + r.Library.Away.length : Nat) : Int)) (hq18 : ((r.Library.Maps.length + r.Library.Away.length : Nat) : Int) ≤ left ∧ szN (r.Library.Maps.length + r.Library.Away.length) left = left - ((r.Library.Maps.length + r.Library.Away.length : Nat) : Int)) (h23 : (szN (r.Log.Durable.length + r.Log.Pending.length) (szN (r.Library.Maps.length + r.Library.Away.length) left)) < 0) : (-1) = szN (r.Library.Maps.length + r.Library.Away.length + r.Log.Durable.length + r.Log.Pending.length) left := by
 (unfold szN at *; repeat (split at *)) <;> omega
theorem z_c_laws_szConsole_27 (r : Console) (nr_Library_Maps : Nat) (hbdr_Library_Maps : (nr_Library_Maps : Int) ≤ 9223372036854775807) (hler_Library_Maps : nr_Library_Maps = r.Library.Maps.length) (nr_Library_Away : Nat) (hbdr_Library_Away : (nr_Library_Away : Int) ≤ 9223372036854775807) (hler_Library_Away : nr_Library_Away = r.Library.Away.length) (left : Int) (hp0 : 0 ≤ left) (hp1 : left ≤ 1048576) (hp2 : (r.Log.Durable.length : Int) ≤ 9223372036854775807 ∧ (r.Log.Pending.length : Int) ≤ 9223372036854775807) (h15 : ¬ ((szN (r.Library.Maps.length + r.Library.Away.length) left) < 0)) (hq17 : ((r.Library.Maps.length + r.Library.Away.length : Nat) : Int) ≤ left ∧ szN (r.Library.Maps.length + r.Library.Away.length) left = left - ((r.Library.Maps.length + r.Library.Away.length : Nat) : Int)) (hq18 : ((r.Library.Maps.length + r.Library.Away.length : Nat) : Int) ≤ left ∧ szN (r.Library.Maps.length + r.Library.Away.length) left = left - ((r.Library.Maps.length + r.Library.Away.length : Nat) : Int)) (h23 : ¬ ((szN (r.Log.Durable.length + r.Log.Pending.length) (szN (r.Library.Maps.length + r.Library.Away.length) left)) < 0)) (hq25 : ((r.Log.Durable.length + r.Log.Pending.length : Nat) : Int) ≤ (szN (r.Library.Maps.length + r.Library.Away.length) left) ∧ szN (r.Log.Durable.length + r.Log.Pending.length) (szN (r.Library.Maps.length + r.Library.Away.length) left) = (szN (r.Library.Maps.length + r.Library.Away.length) left) - ((r.Log.Durable.length + r.Log.Pending.length : Nat) : Int)) (hq26 : ((r.Log.Durable.length + r.Log.Pending.length : Nat) : Int) ≤ (szN (r.Library.Maps.length + r.Library.Away.length) left) ∧ szN (r.Log.Durable.length + r.Log.Pending.length) (szN (r.Library.Maps.length + r.Library.Away.length) left) = (szN (r.Library.Maps.length + r.Library.Away.length) left) - ((r.Log.Durable.length + r.Log.Pending.length : Nat) : Int)) : szN (r.Log.Durable.length + r.Log.Pending.length) (szN (r.Library.Maps.length + r.Library.Away.length) left) = szN (r.Library.Maps.length + r.Library.Away.length + r.Log.Durable.length + r.Log.Pending.length) left := by
 (unfold szN at *; repeat (split at *)) <;> omega
theorem c_laws_szConsole (w : World) (r : Console) {Ar_Library_Maps : Option Addr} {nr_Library_Maps cr_Library_Maps Br_Library_Maps : Nat} (hr_Library_Maps : SlR w Br_Library_Maps encLMap 3 Ar_Library_Maps nr_Library_Maps cr_Library_Maps r.Library.Maps) {Ar_Library_Away : Option Addr} {nr_Library_Away cr_Library_Away Br_Library_Away : Nat} (hr_Library_Away : SlR w Br_Library_Away encAway 2 Ar_Library_Away nr_Library_Away cr_Library_Away r.Library.Away) (left : Int) (hp0 : 0 ≤ left) (hp1 : left ≤ 1048576) (hp2 : (r.Log.Durable.length : Int) ≤ 9223372036854775807 ∧ (r.Log.Pending.length : Int) ≤ 9223372036854775807) : Calls Tryz.prog 9 #[.agg (List.toArray [.slice Ar_Library_Maps nr_Library_Maps cr_Library_Maps, .slice Ar_Library_Away nr_Library_Away cr_Library_Away, .int .i64 r.Library.Bought, .int .i64 r.Library.Dropped, .int .i64 r.Library.Mended, str r.Log.Durable, str r.Log.Pending, .int .i64 r.Log.Count]), .int .i64 left] w fun e w' => e = .returned (.int .i64 (szN (r.Library.Maps.length + r.Library.Away.length + r.Log.Durable.length + r.Log.Pending.length) left)) ∧ Lo w w' := by
 refine calls_W 18 Tryz.func9 rfl rfl rfl ?_
 have hbdr_Library_Maps := hr_Library_Maps.bound
 have hler_Library_Maps := hr_Library_Maps.len
 have hBbr_Library_Maps := hr_Library_Maps.bd
 have hbdr_Library_Away := hr_Library_Away.bound
 have hler_Library_Away := hr_Library_Away.len
 have hBbr_Library_Away := hr_Library_Away.bd
 refine Ws (Wr (SR.box (v := .agg (List.toArray _)) (l := [.slice Ar_Library_Maps nr_Library_Maps cr_Library_Maps, .slice Ar_Library_Away nr_Library_Away cr_Library_Away, .int .i64 r.Library.Bought, .int .i64 r.Library.Dropped, .int .i64 r.Library.Mended, str r.Log.Durable, str r.Log.Pending, .int .i64 r.Log.Count]) rfl rfl ?_))
 intro g1 w2 hg3 hk4 hs5 hb6
 refine Q (aI rfl) <| Qn (Ws (Wr (Q (fA fa29_0 rfl) <| Q (r_lda (l := (cLb Ar_Library_Maps nr_Library_Maps cr_Library_Maps Ar_Library_Away nr_Library_Away cr_Library_Away r.Library)) agg25 rfl (fun _ _ hu => hb6.cells (vs := (cLb Ar_Library_Maps nr_Library_Maps cr_Library_Maps Ar_Library_Away nr_Library_Away cr_Library_Away r.Library)) rfl hu) rfl) <| Q (mI rfl) <| Qv ent40 (c_laws_szLibrary w2 r.Library (hr_Library_Maps.lo hk4) (hr_Library_Away.lo hk4) left (by omega) (by omega)) rfl fun w9 hk10 hz11 => ?_)))
 have hB12 := ((Lo.refl w).lo hk4).lo hk10
 refine Q (aI rfl) <| Qn (Ws (Ws (Wr (Q (mI rfl) <| Q (r_lt rfl rfl) <| Qn (W.cond_d rfl (fun h15 => ?_) (fun h15 => ?_))))))
 ·refine Ws (Wr (Q (r_as (v := .int .i64 (-1)) rfl) <| Qn (W.ret (ret1 rfl (v := .int .i64 _) rfl (⟨eR (eI (z_c_laws_szConsole_16 r nr_Library_Maps hbdr_Library_Maps hler_Library_Maps nr_Library_Away hbdr_Library_Away hler_Library_Away left hp0 hp1 hp2 h15)), hB12⟩)))))
 ·have hq17 := szN_ok h15
  have hq18 := szN_ok h15
  refine W.skip (Ws (Wr (Q (fA fa29_1 rfl) <| Q (r_lda (l := [str r.Log.Durable, str r.Log.Pending, .int .i64 r.Log.Count]) agg27 rfl (fun _ _ hu => (hb6.lo hk10).cells (vs := [str r.Log.Durable, str r.Log.Pending, .int .i64 r.Log.Count]) rfl hu) rfl) <| Q (mI rfl) <| Qv ent32 (c_laws_szLog w9 r.Log (szN (r.Library.Maps.length + r.Library.Away.length) left) (by omega) (by omega) (by omega) (by omega)) rfl fun w19 hk20 hz21 => ?_)))
  have hB22 := hB12.lo hk20
  refine Q (aI rfl) <| Qn (Ws (Ws (Wr (Q (mI rfl) <| Q (r_lt rfl rfl) <| Qn (W.cond_d rfl (fun h23 => ?_) (fun h23 => ?_))))))
  ·refine Ws (Wr (Q (r_as (v := .int .i64 (-1)) rfl) <| Qn (W.ret (ret1 rfl (v := .int .i64 _) rfl (⟨eR (eI (z_c_laws_szConsole_24 r nr_Library_Maps hbdr_Library_Maps hler_Library_Maps nr_Library_Away hbdr_Library_Away hler_Library_Away left hp0 hp1 hp2 h15 hq17 hq18 h23)), hB22⟩)))))
  ·have hq25 := szN_ok h23
   have hq26 := szN_ok h23
   refine W.skip (Ws (Wr (Q (mI rfl) <| Q (aI rfl) <| Qn (W.ret (ret1 rfl (v := .int .i64 _) rfl (⟨eR (eI (z_c_laws_szConsole_27 r nr_Library_Maps hbdr_Library_Maps hler_Library_Maps nr_Library_Away hbdr_Library_Away hler_Library_Away left hp0 hp1 hp2 h15 hq17 hq18 h23 hq25 hq26)), hB22⟩))))))
theorem c_laws_toConsole (w : World) (r : Console) {Ar_Library_Maps : Option Addr} {nr_Library_Maps cr_Library_Maps Br_Library_Maps : Nat} (hr_Library_Maps : SlR w Br_Library_Maps encLMap 3 Ar_Library_Maps nr_Library_Maps cr_Library_Maps r.Library.Maps) {Ar_Library_Away : Option Addr} {nr_Library_Away cr_Library_Away Br_Library_Away : Nat} (hr_Library_Away : SlR w Br_Library_Away encAway 2 Ar_Library_Away nr_Library_Away cr_Library_Away r.Library.Away) (hp0 : (nr_Library_Maps : Int) ≤ 1048576) (hp1 : (nr_Library_Away : Int) ≤ 1048576) : Calls Tryz.prog 11 #[.agg (List.toArray [.slice Ar_Library_Maps nr_Library_Maps cr_Library_Maps, .slice Ar_Library_Away nr_Library_Away cr_Library_Away, .int .i64 r.Library.Bought, .int .i64 r.Library.Dropped, .int .i64 r.Library.Mended, str r.Log.Durable, str r.Log.Pending, .int .i64 r.Log.Count])] w fun e w' => ∃ (A1' : Option Addr) (n1' c1' : Nat) (A2' : Option Addr) (n2' c2' : Nat), e = .returned (.agg (List.toArray [.slice A1' n1' c1', .slice A2' n2' c2', .int .i64 r.Library.Bought, .int .i64 r.Library.Dropped, .int .i64 r.Library.Mended, str r.Log.Durable, str r.Log.Pending, .int .i64 r.Log.Count])) ∧ SlO w' w.heap.size encLMap 3 102 A1' n1' c1' r.Library.Maps ∧ SlO w' w.heap.size encAway 2 129 A2' n2' c2' r.Library.Away ∧ Dj A1' A2' ∧ Lo w w' := by
 refine calls_W 13 Tryz.func11 rfl rfl rfl ?_
 have hbdr_Library_Maps := hr_Library_Maps.bound
 have hler_Library_Maps := hr_Library_Maps.len
 have hBbr_Library_Maps := hr_Library_Maps.bd
 have hbdr_Library_Away := hr_Library_Away.bound
 have hler_Library_Away := hr_Library_Away.len
 have hBbr_Library_Away := hr_Library_Away.bd
 refine Ws (Wr (SR.box (v := .agg (List.toArray _)) (l := [.slice Ar_Library_Maps nr_Library_Maps cr_Library_Maps, .slice Ar_Library_Away nr_Library_Away cr_Library_Away, .int .i64 r.Library.Bought, .int .i64 r.Library.Dropped, .int .i64 r.Library.Mended, str r.Log.Durable, str r.Log.Pending, .int .i64 r.Log.Count]) rfl rfl ?_))
 intro g1 w2 hg3 hk4 hs5 hb6
 refine SR.alloc (l := [.slice none 0 0, .slice none 0 0, .int .i64 0, .int .i64 0, .int .i64 0, str ([] : List UInt8), str ([] : List UInt8), .int .i64 0]) tz37 rfl ?_
 intro g9 w10 hg11 hk12 hs13 hb14
 refine Qn (Ws (Wr (SR.alloc (l := [.slice none 0 0, .slice none 0 0, .int .i64 0, .int .i64 0, .int .i64 0, str ([] : List UInt8), str ([] : List UInt8), .int .i64 0]) tz37 rfl ?_)))
 intro g19 w20 hg21 hk22 hs23 hb24
 refine Qn (Ws ?_)
 have hm27 := (hb6.lo hk12).lo hk22
 refine Wr (Q (fA fa29_0 rfl) <| Q (r_lda (l := (cLb Ar_Library_Maps nr_Library_Maps cr_Library_Maps Ar_Library_Away nr_Library_Away cr_Library_Away r.Library)) agg25 rfl (fun _ _ hu => hm27.cells (vs := (cLb Ar_Library_Maps nr_Library_Maps cr_Library_Maps Ar_Library_Away nr_Library_Away cr_Library_Away r.Library)) rfl hu) rfl) <| SR.call ent46 (c_laws_toLibrary w20 r.Library (((hr_Library_Maps.lo hk4).lo hk12).lo hk22) (((hr_Library_Away.lo hk4).lo hk12).lo hk22) (by omega) (by omega)) rfl ?_)
 rintro e w28 ⟨A30, n31, c32, A34, n35, c36, rfl, hO33, hO37, hd38, hk29⟩
 refine ⟨_, rfl, ?_⟩
 have hz39 := hk29.size
 have hl41 := hO33.len
 have hl42 := hO33.rd.bound
 have hl43 := hO37.len
 have hl44 := hO37.rd.bound
 refine Q (fA fa37_0 rfl) <| Qw (o := 0) (vs := (cLb A30 n31 c32 A34 n35 c36 r.Library)) agg34.2 rfl rfl rfl rfl (hb24.lo hk29) ler rfl ?_
 intro w45 hk46 hs47 hb48
 refine Qn (Ws (Wr (Q (fA fa29_1 rfl) <| Q (r_lda (l := [str r.Log.Durable, str r.Log.Pending, .int .i64 r.Log.Count]) agg27 rfl (fun _ _ hu => ((hm27.lo hk29).kn hk46).cells (vs := [str r.Log.Durable, str r.Log.Pending, .int .i64 r.Log.Count]) rfl hu) rfl) <| Qv ent33 (c_laws_toLog w45 r.Log) rfl fun w55 hk56 hz57 => (Q (fA fa37_1 rfl) <| Qw (o := 5) (vs := [str r.Log.Durable, str r.Log.Pending, .int .i64 r.Log.Count]) agg35.2 rfl rfl rfl rfl (hb48.lo hk56) ler rfl ?_))))
 intro w59 hk60 hs61 hb62
 refine Qn (Ws (Wr (Q (lG agg37 rfl hb62 rfl) <| Qw (o := 0) (vs := [.slice A30 n31 c32, .slice A34 n35 c36, .int .i64 r.Library.Bought, .int .i64 r.Library.Dropped, .int .i64 r.Library.Mended, str r.Log.Durable, str r.Log.Pending, .int .i64 r.Log.Count]) agg37.2 rfl rfl rfl rfl (((((hb14.lo hk22).lo hk29).kn hk46).lo hk56).kn hk60) ler rfl ?_)))
 intro w68 hk69 hs70 hb71
 refine Qn (W.ret (retC rfl rfl agg37 hb71 rfl (⟨A30, n31, c32, A34, n35, c36, eR rfl, (((((hO33.kn hk46).lo hk56).kn hk60).kn hk69).down), (((((hO37.kn hk46).lo hk56).kn hk60).kn hk69).down), hd38, (((((((((Lo.refl w).lo hk4).lo hk12).lo hk22).lo hk29).new hk46).lo hk56).new hk60).new hk69)⟩)))
theorem c_laws_eqConsole (w : World) (a : Console) {Aa_Library_Maps : Option Addr} {na_Library_Maps ca_Library_Maps Ba_Library_Maps : Nat} (ha_Library_Maps : SlR w Ba_Library_Maps encLMap 3 Aa_Library_Maps na_Library_Maps ca_Library_Maps a.Library.Maps) {Aa_Library_Away : Option Addr} {na_Library_Away ca_Library_Away Ba_Library_Away : Nat} (ha_Library_Away : SlR w Ba_Library_Away encAway 2 Aa_Library_Away na_Library_Away ca_Library_Away a.Library.Away) (b : Console) {Ab_Library_Maps : Option Addr} {nb_Library_Maps cb_Library_Maps Bb_Library_Maps : Nat} (hb_Library_Maps : SlR w Bb_Library_Maps encLMap 3 Ab_Library_Maps nb_Library_Maps cb_Library_Maps b.Library.Maps) {Ab_Library_Away : Option Addr} {nb_Library_Away cb_Library_Away Bb_Library_Away : Nat} (hb_Library_Away : SlR w Bb_Library_Away encAway 2 Ab_Library_Away nb_Library_Away cb_Library_Away b.Library.Away) : Calls Tryz.prog 13 #[.agg (List.toArray [.slice Aa_Library_Maps na_Library_Maps ca_Library_Maps, .slice Aa_Library_Away na_Library_Away ca_Library_Away, .int .i64 a.Library.Bought, .int .i64 a.Library.Dropped, .int .i64 a.Library.Mended, str a.Log.Durable, str a.Log.Pending, .int .i64 a.Log.Count]), .agg (List.toArray [.slice Ab_Library_Maps nb_Library_Maps cb_Library_Maps, .slice Ab_Library_Away nb_Library_Away cb_Library_Away, .int .i64 b.Library.Bought, .int .i64 b.Library.Dropped, .int .i64 b.Library.Mended, str b.Log.Durable, str b.Log.Pending, .int .i64 b.Log.Count])] w fun e w' => e = .returned (.bool (decide (a = b))) ∧ Lo w w' := by
 refine calls_W 17 Tryz.func13 rfl rfl rfl ?_
 have hbda_Library_Maps := ha_Library_Maps.bound
 have hlea_Library_Maps := ha_Library_Maps.len
 have hBba_Library_Maps := ha_Library_Maps.bd
 have hbda_Library_Away := ha_Library_Away.bound
 have hlea_Library_Away := ha_Library_Away.len
 have hBba_Library_Away := ha_Library_Away.bd
 have hbdb_Library_Maps := hb_Library_Maps.bound
 have hleb_Library_Maps := hb_Library_Maps.len
 have hBbb_Library_Maps := hb_Library_Maps.bd
 have hbdb_Library_Away := hb_Library_Away.bound
 have hleb_Library_Away := hb_Library_Away.len
 have hBbb_Library_Away := hb_Library_Away.bd
 refine Ws (Wr (SR.box (v := .agg (List.toArray _)) (l := [.slice Aa_Library_Maps na_Library_Maps ca_Library_Maps, .slice Aa_Library_Away na_Library_Away ca_Library_Away, .int .i64 a.Library.Bought, .int .i64 a.Library.Dropped, .int .i64 a.Library.Mended, str a.Log.Durable, str a.Log.Pending, .int .i64 a.Log.Count]) rfl rfl ?_))
 intro g1 w2 hg3 hk4 hs5 hb6
 refine SR.box (v := .agg (List.toArray _)) (l := [.slice Ab_Library_Maps nb_Library_Maps cb_Library_Maps, .slice Ab_Library_Away nb_Library_Away cb_Library_Away, .int .i64 b.Library.Bought, .int .i64 b.Library.Dropped, .int .i64 b.Library.Mended, str b.Log.Durable, str b.Log.Pending, .int .i64 b.Log.Count]) rfl rfl ?_
 intro g9 w10 hg11 hk12 hs13 hb14
 refine Q (aB rfl) <| Qn (Ws (Ws (Wr (Q (fA fa37_0 rfl) <| Q (r_lda (l := (cLb Aa_Library_Maps na_Library_Maps ca_Library_Maps Aa_Library_Away na_Library_Away ca_Library_Away a.Library)) agg34 rfl (fun _ _ hu => (hb6.lo hk12).cells (vs := (cLb Aa_Library_Maps na_Library_Maps ca_Library_Maps Aa_Library_Away na_Library_Away ca_Library_Away a.Library)) rfl hu) rfl) <| Q (fA fa37_0 rfl) <| Q (r_lda (l := (cLb Ab_Library_Maps nb_Library_Maps cb_Library_Maps Ab_Library_Away nb_Library_Away cb_Library_Away b.Library)) agg34 rfl (fun _ _ hu => hb14.cells (vs := (cLb Ab_Library_Maps nb_Library_Maps cb_Library_Maps Ab_Library_Away nb_Library_Away cb_Library_Away b.Library)) rfl hu) rfl) <| Qv ent51 (c_laws_eqLibrary w10 a.Library ((ha_Library_Maps.lo hk4).lo hk12) ((ha_Library_Away.lo hk4).lo hk12) b.Library ((hb_Library_Maps.lo hk4).lo hk12) ((hb_Library_Away.lo hk4).lo hk12)) rfl fun w21 hk22 hz23 => ?_))))
 have hB24 := (((Lo.refl w).lo hk4).lo hk12).lo hk22
 refine Q (r_not rfl) <| Qn (W.cond_n rfl (fun h25 => ?_) (fun h25 => ?_))
 ·refine Ws (Wr (Q (aB rfl) <| Qn (W.ret (ret1 rfl (v := .bool _) rfl (⟨eR (eDF (by cases a; cases b; simp_all)), hB24⟩)))))
 ·refine W.skip (Ws (Ws (Wr (Q (fA fa37_1 rfl) <| Q (r_lda (l := [str a.Log.Durable, str a.Log.Pending, .int .i64 a.Log.Count]) agg35 rfl (fun _ _ hu => ((hb6.lo hk12).lo hk22).cells (vs := [str a.Log.Durable, str a.Log.Pending, .int .i64 a.Log.Count]) rfl hu) rfl) <| Q (fA fa37_1 rfl) <| Q (r_lda (l := [str b.Log.Durable, str b.Log.Pending, .int .i64 b.Log.Count]) agg35 rfl (fun _ _ hu => (hb14.lo hk22).cells (vs := [str b.Log.Durable, str b.Log.Pending, .int .i64 b.Log.Count]) rfl hu) rfl) <| Qv ent52 (c_laws_eqLog w21 a.Log b.Log) rfl fun w28 hk29 hz30 => ?_))))
  have hB31 := hB24.lo hk29
  refine Q (r_not rfl) <| Qn (W.cond_n rfl (fun h32 => ?_) (fun h32 => ?_))
  ·refine Ws (Wr (Q (aB rfl) <| Qn (W.ret (ret1 rfl (v := .bool _) rfl (⟨eR (eDF (by cases a; cases b; simp_all)), hB31⟩)))))
  ·refine W.skip (Ws (Wr (Q (aB rfl) <| Qn (W.ret (ret1 rfl (v := .bool _) rfl (⟨eR (eDT (by cases a; cases b; simp_all)), hB31⟩))))))
theorem c_laws_markConsole (w : World) (r : Console) {Ar_Library_Maps : Option Addr} {nr_Library_Maps cr_Library_Maps Br_Library_Maps : Nat} (hr_Library_Maps : SlO w Br_Library_Maps encLMap 3 102 Ar_Library_Maps nr_Library_Maps cr_Library_Maps r.Library.Maps) {Ar_Library_Away : Option Addr} {nr_Library_Away cr_Library_Away Br_Library_Away : Nat} (hr_Library_Away : SlO w Br_Library_Away encAway 2 129 Ar_Library_Away nr_Library_Away cr_Library_Away r.Library.Away) (k : Int) (hdr_Library_Maps_r_Library_Away : Dj Ar_Library_Maps Ar_Library_Away) (hp0 : 0 ≤ k) (hp1 : k ≤ 1000) (hp2 : (nr_Library_Maps : Int) ≤ 1048576) (hp3 : (nr_Library_Away : Int) ≤ 1048576) : Calls Tryz.prog 14 #[.agg (List.toArray [.slice Ar_Library_Maps nr_Library_Maps cr_Library_Maps, .slice Ar_Library_Away nr_Library_Away cr_Library_Away, .int .i64 r.Library.Bought, .int .i64 r.Library.Dropped, .int .i64 r.Library.Mended, str r.Log.Durable, str r.Log.Pending, .int .i64 r.Log.Count]), .int .i64 k] w fun e w' => e = .returned (.int .i64 (k + 3 * (r.Library.Maps.length : Int) + 2 * (r.Library.Away.length : Int))) ∧ SlO w' Br_Library_Maps encLMap 3 102 Ar_Library_Maps nr_Library_Maps cr_Library_Maps (mkL mkLMap 3 r.Library.Maps.length k) ∧ SlO w' Br_Library_Away encAway 2 129 Ar_Library_Away nr_Library_Away cr_Library_Away (mkL mkAway 2 r.Library.Away.length (k + 3 * (r.Library.Maps.length : Int))) ∧ Kp (fun b_ => Ar_Library_Maps = some ⟨b_, 0, none⟩ ∨ Ar_Library_Away = some ⟨b_, 0, none⟩) w w' := by
 refine calls_W 10 Tryz.func14 rfl rfl rfl ?_
 have hbdr_Library_Maps := hr_Library_Maps.rd.bound
 have hler_Library_Maps := hr_Library_Maps.len
 have hBbr_Library_Maps := hr_Library_Maps.bd
 have hbdr_Library_Away := hr_Library_Away.rd.bound
 have hler_Library_Away := hr_Library_Away.len
 have hBbr_Library_Away := hr_Library_Away.bd
 refine Ws (Wr (SR.box (v := .agg (List.toArray _)) (l := [.slice Ar_Library_Maps nr_Library_Maps cr_Library_Maps, .slice Ar_Library_Away nr_Library_Away cr_Library_Away, .int .i64 r.Library.Bought, .int .i64 r.Library.Dropped, .int .i64 r.Library.Mended, str r.Log.Durable, str r.Log.Pending, .int .i64 r.Log.Count]) rfl rfl ?_))
 intro g1 w2 hg3 hk4 hs5 hb6
 refine Q (aI rfl) <| Qn (Ws (Wr (Q (fA fa37_0 rfl) <| Q (r_lda (l := (cLb Ar_Library_Maps nr_Library_Maps cr_Library_Maps Ar_Library_Away nr_Library_Away cr_Library_Away r.Library)) agg34 rfl (fun _ _ hu => hb6.cells (vs := (cLb Ar_Library_Maps nr_Library_Maps cr_Library_Maps Ar_Library_Away nr_Library_Away cr_Library_Away r.Library)) rfl hu) rfl) <| Q (mI rfl) <| SR.call ent53 (c_laws_markLibrary w2 r.Library (hr_Library_Maps.lo hk4) (hr_Library_Away.lo hk4) k hdr_Library_Maps_r_Library_Away (by omega) (by omega) (by omega) (by omega)) rfl ?_)))
 rintro e w11 ⟨rfl, hO13, hO14, hk12⟩
 refine ⟨_, rfl, ?_⟩
 have hz15 := hk12.size
 refine Q (aI rfl) <| Qn (Ws (Wr (Q (mI rfl) <| Q (aI rfl) <| Qn (W.ret (ret1 rfl (v := .int .i64 _) rfl (⟨eR rfl, hO13, hO14, (((Kp.refl w : Kp (fun b_ => Ar_Library_Maps = some ⟨b_, 0, none⟩ ∨ Ar_Library_Away = some ⟨b_, 0, none⟩) w w).lo hk4).step hk12 (fun i_ hi_ e' => e'.elim (fun e' => by have := (hr_Library_Maps.lo hk4).base_le e'; first | omega | exact e' | exact .inl e' | exact .inr e') (fun e' => by have := (hr_Library_Away.lo hk4).base_le e'; first | omega | exact e' | exact .inl e' | exact .inr e')))⟩))))))
theorem c_laws_heldConsole (w : World) (r : Console) {Ar_Library_Maps : Option Addr} {nr_Library_Maps cr_Library_Maps Br_Library_Maps : Nat} (hr_Library_Maps : SlR w Br_Library_Maps encLMap 3 Ar_Library_Maps nr_Library_Maps cr_Library_Maps r.Library.Maps) {Ar_Library_Away : Option Addr} {nr_Library_Away cr_Library_Away Br_Library_Away : Nat} (hr_Library_Away : SlR w Br_Library_Away encAway 2 Ar_Library_Away nr_Library_Away cr_Library_Away r.Library.Away) (k : Int) (mM : Nat) (mA : Nat) (hp0 : 0 ≤ k) (hp1 : k ≤ 1000) (hp2 : (nr_Library_Maps : Int) ≤ 1048576) (hp3 : (nr_Library_Away : Int) ≤ 1048576) (hp4 : r.Library.Maps = mkL mkLMap 3 mM k) (hp5 : r.Library.Away = mkL mkAway 2 mA (k + 3 * (mM : Int))) (hp6 : (mM : Int) ≤ 1048576) (hp7 : (mA : Int) ≤ 1048576) : Calls Tryz.prog 15 #[.agg (List.toArray [.slice Ar_Library_Maps nr_Library_Maps cr_Library_Maps, .slice Ar_Library_Away nr_Library_Away cr_Library_Away, .int .i64 r.Library.Bought, .int .i64 r.Library.Dropped, .int .i64 r.Library.Mended, str r.Log.Durable, str r.Log.Pending, .int .i64 r.Log.Count]), .int .i64 k] w fun e w' => e = .returned (.int .i64 (k + 3 * (mM : Int) + 2 * (mA : Int))) ∧ Lo w w' := by
 refine calls_W 12 Tryz.func15 rfl rfl rfl ?_
 have hbdr_Library_Maps := hr_Library_Maps.bound
 have hler_Library_Maps := hr_Library_Maps.len
 have hBbr_Library_Maps := hr_Library_Maps.bd
 have hbdr_Library_Away := hr_Library_Away.bound
 have hler_Library_Away := hr_Library_Away.len
 have hBbr_Library_Away := hr_Library_Away.bd
 refine Ws (Wr (SR.box (v := .agg (List.toArray _)) (l := [.slice Ar_Library_Maps nr_Library_Maps cr_Library_Maps, .slice Ar_Library_Away nr_Library_Away cr_Library_Away, .int .i64 r.Library.Bought, .int .i64 r.Library.Dropped, .int .i64 r.Library.Mended, str r.Log.Durable, str r.Log.Pending, .int .i64 r.Log.Count]) rfl rfl ?_))
 intro g1 w2 hg3 hk4 hs5 hb6
 refine Q (aI rfl) <| Qn (Ws (Wr (Q (fA fa37_0 rfl) <| Q (r_lda (l := (cLb Ar_Library_Maps nr_Library_Maps cr_Library_Maps Ar_Library_Away nr_Library_Away cr_Library_Away r.Library)) agg34 rfl (fun _ _ hu => hb6.cells (vs := (cLb Ar_Library_Maps nr_Library_Maps cr_Library_Maps Ar_Library_Away nr_Library_Away cr_Library_Away r.Library)) rfl hu) rfl) <| Q (mI rfl) <| Qv ent54 (c_laws_heldLibrary w2 r.Library (hr_Library_Maps.lo hk4) (hr_Library_Away.lo hk4) k mM mA (by omega) (by omega) (by omega) (by omega) (by first | rfl | assumption) (by first | rfl | assumption) (by omega) (by omega)) rfl fun w9 hk10 hz11 => ?_)))
 have hB12 := ((Lo.refl w).lo hk4).lo hk10
 refine Q (aI rfl) <| Qn (Ws (Ws (Wr (Q (mI rfl) <| Q (r_lt rfl rfl) <| Qn (W.cond_d rfl (fun h13 => ?_) (fun h13 => ?_))))))
 ·refine Ws (Wr (Q (r_as (v := .int .i64 (-1)) rfl) <| Qn (W.ret (ret1 rfl (v := .int .i64 _) rfl (⟨eR (eI (by first | rfl | omega)), hB12⟩)))))
 ·refine W.skip (Ws (Wr (Q (mI rfl) <| Q (aI rfl) <| Qn (W.ret (ret1 rfl (v := .int .i64 _) rfl (⟨eR rfl, hB12⟩))))))
end Go.Proofs.YtndcchndcghmoaaGreatDoor
namespace Go.Proofs.YtndcchndcghmoaaGreatDoor
open Go Go.RowKit Fw
set_option maxRecDepth 10000
set_option maxHeartbeats 2000000
set_option linter.unusedVariables false
theorem agg29 : TAgg Tryz.prog 29 8 := tG
theorem ent10 : Ent Tryz.prog 10 := en Tryz.func10
theorem ent11 : Ent Tryz.prog 11 := en Tryz.func11
theorem ent12 : Ent Tryz.prog 12 := en Tryz.func12
theorem ent13 : Ent Tryz.prog 13 := en Tryz.func13
theorem ent14 : Ent Tryz.prog 14 := en Tryz.func14
theorem ent15 : Ent Tryz.prog 15 := en Tryz.func15
theorem ent9 : Ent Tryz.prog 9 := en Tryz.func9
theorem z_c_laws_FnExactExecuteCommand_187 (c : Console) (nc1 : Nat) (hbdc1 : (nc1 : Int) ≤ 9223372036854775807) (hlec1 : nc1 = c.Library.Maps.length) (nc2 : Nat) (hbdc2 : (nc2 : Int) ≤ 9223372036854775807) (hlec2 : nc2 = c.Library.Away.length) (s : List UInt8) (hp0 : (c.Log.Durable.length : Int) ≤ 9223372036854775807 ∧ (c.Log.Pending.length : Int) ≤ 9223372036854775807) (hp1 : (s.length : Int) ≤ 9223372036854775807) (h9 : ¬ (1048576 < (s.length : Int))) (h16 : ¬ ((szN (c.Library.Maps.length + c.Library.Away.length + c.Log.Durable.length + c.Log.Pending.length) 1048576) < 0)) (hq17 : ((c.Library.Maps.length + c.Library.Away.length + c.Log.Durable.length + c.Log.Pending.length : Nat) : Int) ≤ 1048576 ∧ szN (c.Library.Maps.length + c.Library.Away.length + c.Log.Durable.length + c.Log.Pending.length) 1048576 = 1048576 - ((c.Library.Maps.length + c.Library.Away.length + c.Log.Durable.length + c.Log.Pending.length : Nat) : Int)) (n21 : Nat) (hl31 : n21 = (c.Library.Maps).length) (hl32 : (n21 : Int) ≤ 9223372036854775807) (n25 : Nat) (hl33 : n25 = (c.Library.Away).length) (hl34 : (n25 : Int) ≤ 9223372036854775807) (n38 : Nat) (hl48 : n38 = (((execN c s).1).Library.Maps).length) (hl49 : (n38 : Int) ≤ 9223372036854775807) (hq50 : ((execN c s).1).Library.Maps.length ≤ 1048576) (n42 : Nat) (hl51 : n42 = (((execN c s).1).Library.Away).length) (hl52 : (n42 : Int) ≤ 9223372036854775807) (hq53 : ((execN c s).1).Library.Away.length ≤ 1048576) (n80 : Nat) (hl90 : n80 = (c.Library.Maps).length) (hl91 : (n80 : Int) ≤ 9223372036854775807) (n84 : Nat) (hl92 : n84 = (c.Library.Away).length) (hl93 : (n84 : Int) ≤ 9223372036854775807) (n125 : Nat) (hl135 : n125 = (((execN c s).1).Library.Maps).length) (hl136 : (n125 : Int) ≤ 9223372036854775807) (hq137 : ((execN c s).1).Library.Maps.length ≤ 1048576) (n129 : Nat) (hl138 : n129 = (((execN c s).1).Library.Away).length) (hl139 : (n129 : Int) ≤ 9223372036854775807) (hq140 : ((execN c s).1).Library.Away.length ≤ 1048576) (h185 : ¬ (((execN c s).1) = ((execN c s).1))) (hq186 : ¬ (((execN c s).1) = ((execN c s).1))) : false = true := by
 first | (simp_all; done) | omega | (simp at *; omega)
theorem z_c_laws_FnExactExecuteCommand_281 (c : Console) (nc1 : Nat) (hbdc1 : (nc1 : Int) ≤ 9223372036854775807) (hlec1 : nc1 = c.Library.Maps.length) (nc2 : Nat) (hbdc2 : (nc2 : Int) ≤ 9223372036854775807) (hlec2 : nc2 = c.Library.Away.length) (s : List UInt8) (hp0 : (c.Log.Durable.length : Int) ≤ 9223372036854775807 ∧ (c.Log.Pending.length : Int) ≤ 9223372036854775807) (hp1 : (s.length : Int) ≤ 9223372036854775807) (h9 : ¬ (1048576 < (s.length : Int))) (h16 : ¬ ((szN (c.Library.Maps.length + c.Library.Away.length + c.Log.Durable.length + c.Log.Pending.length) 1048576) < 0)) (hq17 : ((c.Library.Maps.length + c.Library.Away.length + c.Log.Durable.length + c.Log.Pending.length : Nat) : Int) ≤ 1048576 ∧ szN (c.Library.Maps.length + c.Library.Away.length + c.Log.Durable.length + c.Log.Pending.length) 1048576 = 1048576 - ((c.Library.Maps.length + c.Library.Away.length + c.Log.Durable.length + c.Log.Pending.length : Nat) : Int)) (n21 : Nat) (hl31 : n21 = (c.Library.Maps).length) (hl32 : (n21 : Int) ≤ 9223372036854775807) (n25 : Nat) (hl33 : n25 = (c.Library.Away).length) (hl34 : (n25 : Int) ≤ 9223372036854775807) (n38 : Nat) (hl48 : n38 = (((execN c s).1).Library.Maps).length) (hl49 : (n38 : Int) ≤ 9223372036854775807) (hq50 : ((execN c s).1).Library.Maps.length ≤ 1048576) (n42 : Nat) (hl51 : n42 = (((execN c s).1).Library.Away).length) (hl52 : (n42 : Int) ≤ 9223372036854775807) (hq53 : ((execN c s).1).Library.Away.length ≤ 1048576) (n80 : Nat) (hl90 : n80 = (c.Library.Maps).length) (hl91 : (n80 : Int) ≤ 9223372036854775807) (n84 : Nat) (hl92 : n84 = (c.Library.Away).length) (hl93 : (n84 : Int) ≤ 9223372036854775807) (n125 : Nat) (hl135 : n125 = (((execN c s).1).Library.Maps).length) (hl136 : (n125 : Int) ≤ 9223372036854775807) (hq137 : ((execN c s).1).Library.Maps.length ≤ 1048576) (n129 : Nat) (hl138 : n129 = (((execN c s).1).Library.Away).length) (hl139 : (n129 : Int) ≤ 9223372036854775807) (hq140 : ((execN c s).1).Library.Away.length ≤ 1048576) (h185 : ¬ (¬ (((execN c s).1) = ((execN c s).1)))) (hq188 : ((execN c s).1) = ((execN c s).1)) (n196 : Nat) (n200 : Nat) (hl207 : n196 = (c.Library.Maps).length) (hl208 : (n196 : Int) ≤ 9223372036854775807) (hl209 : n200 = (c.Library.Away).length) (hl210 : (n200 : Int) ≤ 9223372036854775807) (h268 : ¬ (c = c)) : false = true := by
 first | (simp_all; done) | omega | (simp at *; omega)
theorem z_c_laws_FnExactExecuteCommand_322 (c : Console) (nc1 : Nat) (hbdc1 : (nc1 : Int) ≤ 9223372036854775807) (hlec1 : nc1 = c.Library.Maps.length) (nc2 : Nat) (hbdc2 : (nc2 : Int) ≤ 9223372036854775807) (hlec2 : nc2 = c.Library.Away.length) (s : List UInt8) (hp0 : (c.Log.Durable.length : Int) ≤ 9223372036854775807 ∧ (c.Log.Pending.length : Int) ≤ 9223372036854775807) (hp1 : (s.length : Int) ≤ 9223372036854775807) (h9 : ¬ (1048576 < (s.length : Int))) (h16 : ¬ ((szN (c.Library.Maps.length + c.Library.Away.length + c.Log.Durable.length + c.Log.Pending.length) 1048576) < 0)) (hq17 : ((c.Library.Maps.length + c.Library.Away.length + c.Log.Durable.length + c.Log.Pending.length : Nat) : Int) ≤ 1048576 ∧ szN (c.Library.Maps.length + c.Library.Away.length + c.Log.Durable.length + c.Log.Pending.length) 1048576 = 1048576 - ((c.Library.Maps.length + c.Library.Away.length + c.Log.Durable.length + c.Log.Pending.length : Nat) : Int)) (n21 : Nat) (hl31 : n21 = (c.Library.Maps).length) (hl32 : (n21 : Int) ≤ 9223372036854775807) (n25 : Nat) (hl33 : n25 = (c.Library.Away).length) (hl34 : (n25 : Int) ≤ 9223372036854775807) (n38 : Nat) (hl48 : n38 = (((execN c s).1).Library.Maps).length) (hl49 : (n38 : Int) ≤ 9223372036854775807) (hq50 : ((execN c s).1).Library.Maps.length ≤ 1048576) (n42 : Nat) (hl51 : n42 = (((execN c s).1).Library.Away).length) (hl52 : (n42 : Int) ≤ 9223372036854775807) (hq53 : ((execN c s).1).Library.Away.length ≤ 1048576) (n80 : Nat) (hl90 : n80 = (c.Library.Maps).length) (hl91 : (n80 : Int) ≤ 9223372036854775807) (n84 : Nat) (hl92 : n84 = (c.Library.Away).length) (hl93 : (n84 : Int) ≤ 9223372036854775807) (n125 : Nat) (hl135 : n125 = (((execN c s).1).Library.Maps).length) (hl136 : (n125 : Int) ≤ 9223372036854775807) (hq137 : ((execN c s).1).Library.Maps.length ≤ 1048576) (n129 : Nat) (hl138 : n129 = (((execN c s).1).Library.Away).length) (hl139 : (n129 : Int) ≤ 9223372036854775807) (hq140 : ((execN c s).1).Library.Away.length ≤ 1048576) (h185 : ¬ (¬ (((execN c s).1) = ((execN c s).1)))) (hq188 : ((execN c s).1) = ((execN c s).1)) (n196 : Nat) (n200 : Nat) (hl207 : n196 = (c.Library.Maps).length) (hl208 : (n196 : Int) ≤ 9223372036854775807) (hl209 : n200 = (c.Library.Away).length) (hl210 : (n200 : Int) ≤ 9223372036854775807) (h268 : c = c) (h312 : ((1 + 3 * (c.Library.Maps.length : Int) + 2 * (c.Library.Away.length : Int)) < 0) ∨ (¬ (((execN c s).1) = ((execN c s).1)))) : false = true := by
 first | (simp_all; done) | omega | (simp at *; omega)
theorem z_c_laws_FnExactExecuteCommand_352 (c : Console) (nc1 : Nat) (hbdc1 : (nc1 : Int) ≤ 9223372036854775807) (hlec1 : nc1 = c.Library.Maps.length) (nc2 : Nat) (hbdc2 : (nc2 : Int) ≤ 9223372036854775807) (hlec2 : nc2 = c.Library.Away.length) (s : List UInt8) (hp0 : (c.Log.Durable.length : Int) ≤ 9223372036854775807 ∧ (c.Log.Pending.length : Int) ≤ 9223372036854775807) (hp1 : (s.length : Int) ≤ 9223372036854775807) (h9 : ¬ (1048576 < (s.length : Int))) (h16 : ¬ ((szN (c.Library.Maps.length + c.Library.Away.length + c.Log.Durable.length + c.Log.Pending.length) 1048576) < 0)) (hq17 : ((c.Library.Maps.length + c.Library.Away.length + c.Log.Durable.length + c.Log.Pending.length : Nat) : Int) ≤ 1048576 ∧ szN (c.Library.Maps.length + c.Library.Away.length + c.Log.Durable.length + c.Log.Pending.length) 1048576 = 1048576 - ((c.Library.Maps.length + c.Library.Away.length + c.Log.Durable.length + c.Log.Pending.length : Nat) : Int)) (n21 : Nat) (hl31 : n21 = (c.Library.Maps).length) (hl32 : (n21 : Int) ≤ 9223372036854775807) (n25 : Nat) (hl33 : n25 = (c.Library.Away).length) (hl34 : (n25 : Int) ≤ 9223372036854775807) (n38 : Nat) (hl48 : n38 = (((execN c s).1).Library.Maps).length) (hl49 : (n38 : Int) ≤ 9223372036854775807) (hq50 : ((execN c s).1).Library.Maps.length ≤ 1048576) (n42 : Nat) (hl51 : n42 = (((execN c s).1).Library.Away).length) (hl52 : (n42 : Int) ≤ 9223372036854775807) (hq53 : ((execN c s).1).Library.Away.length ≤ 1048576) (n80 : Nat) (hl90 : n80 = (c.Library.Maps).length) (hl91 : (n80 : Int) ≤ 9223372036854775807) (n84 : Nat) (hl92 : n84 = (c.Library.Away).length) (hl93 : (n84 : Int) ≤ 9223372036854775807) (n125 : Nat) (hl135 : n125 = (((execN c s).1).Library.Maps).length) (hl136 : (n125 : Int) ≤ 9223372036854775807) (hq137 : ((execN c s).1).Library.Maps.length ≤ 1048576) (n129 : Nat) (hl138 : n129 = (((execN c s).1).Library.Away).length) (hl139 : (n129 : Int) ≤ 9223372036854775807) (hq140 : ((execN c s).1).Library.Away.length ≤ 1048576) (h185 : ¬ (¬ (((execN c s).1) = ((execN c s).1)))) (hq188 : ((execN c s).1) = ((execN c s).1)) (n196 : Nat) (n200 : Nat) (hl207 : n196 = (c.Library.Maps).length) (hl208 : (n196 : Int) ≤ 9223372036854775807) (hl209 : n200 = (c.Library.Away).length) (hl210 : (n200 : Int) ≤ 9223372036854775807) (h268 : c = c) (h312 : ¬ (((1 + 3 * (c.Library.Maps.length : Int) + 2 * (c.Library.Away.length : Int)) < 0) ∨ (¬ (((execN c s).1) = ((execN c s).1))))) (hq323 : ¬ ((1 + 3 * (c.Library.Maps.length : Int) + 2 * (c.Library.Away.length : Int)) < 0)) (hq324 : ((execN c s).1) = ((execN c s).1)) (h351 : (1 + 3 * ((((execN c s).1).Library.Maps.length : Nat) : Int) + 2 * ((((execN c s).1).Library.Away.length : Nat) : Int)) < 0) : false = true := by
 first | (simp_all; done) | omega | (simp at *; omega)
theorem z_c_laws_FnExactExecuteCommand_354 (c : Console) (nc1 : Nat) (hbdc1 : (nc1 : Int) ≤ 9223372036854775807) (hlec1 : nc1 = c.Library.Maps.length) (nc2 : Nat) (hbdc2 : (nc2 : Int) ≤ 9223372036854775807) (hlec2 : nc2 = c.Library.Away.length) (s : List UInt8) (hp0 : (c.Log.Durable.length : Int) ≤ 9223372036854775807 ∧ (c.Log.Pending.length : Int) ≤ 9223372036854775807) (hp1 : (s.length : Int) ≤ 9223372036854775807) (h9 : ¬ (1048576 < (s.length : Int))) (h16 : ¬ ((szN (c.Library.Maps.length + c.Library.Away.length + c.Log.Durable.length + c.Log.Pending.length) 1048576) < 0)) (hq17 : ((c.Library.Maps.length + c.Library.Away.length + c.Log.Durable.length + c.Log.Pending.length : Nat) : Int) ≤ 1048576 ∧ szN (c.Library.Maps.length + c.Library.Away.length + c.Log.Durable.length + c.Log.Pending.length) 1048576 = 1048576 - ((c.Library.Maps.length + c.Library.Away.length + c.Log.Durable.length + c.Log.Pending.length : Nat) : Int)) (n21 : Nat) (hl31 : n21 = (c.Library.Maps).length) (hl32 : (n21 : Int) ≤ 9223372036854775807) (n25 : Nat) (hl33 : n25 = (c.Library.Away).length) (hl34 : (n25 : Int) ≤ 9223372036854775807) (n38 : Nat) (hl48 : n38 = (((execN c s).1).Library.Maps).length) (hl49 : (n38 : Int) ≤ 9223372036854775807) (hq50 : ((execN c s).1).Library.Maps.length ≤ 1048576) (n42 : Nat) (hl51 : n42 = (((execN c s).1).Library.Away).length) (hl52 : (n42 : Int) ≤ 9223372036854775807) (hq53 : ((execN c s).1).Library.Away.length ≤ 1048576) (n80 : Nat) (hl90 : n80 = (c.Library.Maps).length) (hl91 : (n80 : Int) ≤ 9223372036854775807) (n84 : Nat) (hl92 : n84 = (c.Library.Away).length) (hl93 : (n84 : Int) ≤ 9223372036854775807) (n125 : Nat) (hl135 : n125 = (((execN c s).1).Library.Maps).length) (hl136 : (n125 : Int) ≤ 9223372036854775807) (hq137 : ((execN c s).1).Library.Maps.length ≤ 1048576) (n129 : Nat) (hl138 : n129 = (((execN c s).1).Library.Away).length) (hl139 : (n129 : Int) ≤ 9223372036854775807) (hq140 : ((execN c s).1).Library.Away.length ≤ 1048576) (h185 : ¬ (¬ (((execN c s).1) = ((execN c s).1)))) (hq188 : ((execN c s).1) = ((execN c s).1)) (n196 : Nat) (n200 : Nat) (hl207 : n196 = (c.Library.Maps).length) (hl208 : (n196 : Int) ≤ 9223372036854775807) (hl209 : n200 = (c.Library.Away).length) (hl210 : (n200 : Int) ≤ 9223372036854775807) (h268 : c = c) (h312 : ¬ (((1 + 3 * (c.Library.Maps.length : Int) + 2 * (c.Library.Away.length : Int)) < 0) ∨ (¬ (((execN c s).1) = ((execN c s).1))))) (hq323 : ¬ ((1 + 3 * (c.Library.Maps.length : Int) + 2 * (c.Library.Away.length : Int)) < 0)) (hq324 : ((execN c s).1) = ((execN c s).1)) (h351 : ¬ ((1 + 3 * ((((execN c s).1).Library.Maps.length : Nat) : Int) + 2 * ((((execN c s).1).Library.Away.length : Nat) : Int)) < 0)) (h353 : ¬ ((1 + 3 * ((((execN c s).1).Library.Maps.length : Nat) : Int) + 2 * ((((execN c s).1).Library.Away.length : Nat) : Int)) = (1 + 3 * (((execN c s).1).Library.Maps.length : Int) + 2 * (((execN c s).1).Library.Away.length : Int)))) : false = true := by
 first | (simp_all; done) | omega | (simp at *; omega)
theorem c_laws_FnExactExecuteCommand (w : World) (c : Console) {Ac1 : Option Addr} {nc1 cc1 Bc1 : Nat} (hc1 : SlR w Bc1 encLMap 3 Ac1 nc1 cc1 c.Library.Maps) {Ac2 : Option Addr} {nc2 cc2 Bc2 : Nat} (hc2 : SlR w Bc2 encAway 2 Ac2 nc2 cc2 c.Library.Away) (s : List UInt8) (hp0 : (c.Log.Durable.length : Int) ≤ 9223372036854775807 ∧ (c.Log.Pending.length : Int) ≤ 9223372036854775807) (hp1 : (s.length : Int) ≤ 9223372036854775807) (hE : EnvW w) : Calls Tryz.prog 3 #[.agg (List.toArray [.slice Ac1 nc1 cc1, .slice Ac2 nc2 cc2, .int .i64 c.Library.Bought, .int .i64 c.Library.Dropped, .int .i64 c.Library.Mended, str c.Log.Durable, str c.Log.Pending, .int .i64 c.Log.Count]), str s] w fun e w' => e = .returned (.bool true) ∧ Lo w w' := by
 refine calls_W 104 Tryz.func3 rfl rfl rfl ?_
 have hbdc1 := hc1.bound
 have hlec1 := hc1.len
 have hBbc1 := hc1.bd
 have hbdc2 := hc2.bound
 have hlec2 := hc2.len
 have hBbc2 := hc2.bd
 refine Ws (Wr (SR.box (v := .agg (List.toArray _)) (l := [.slice Ac1 nc1 cc1, .slice Ac2 nc2 cc2, .int .i64 c.Library.Bought, .int .i64 c.Library.Dropped, .int .i64 c.Library.Mended, str c.Log.Durable, str c.Log.Pending, .int .i64 c.Log.Count]) rfl rfl ?_))
 intro g1 w2 hg3 hk4 hs5 hb6
 have hB8 := (Lo.refl w).lo hk4
 refine Q (aB rfl) <| Qn (Ws (Ws (Wr (Q (mS rfl) <| Q (r_len_s und9 rfl) <| Q (r_gt rfl rfl) <| Qn (W.cond_d rfl (fun h9 => ?_) (fun h9 => ?_))))))
 ·refine Ws (Wr (Q (aB rfl) <| Qn (W.ret (ret1 rfl (v := .bool _) rfl (⟨eR rfl, hB8⟩)))))
 ·refine W.skip (Ws (Wr (Q (aI rfl) <| Qn (Ws (Wr (Q (lG agg29 rfl hb6 rfl) <| Q (mI rfl) <| Qv ent9 (c_laws_szConsole w2 c (hc1.lo hk4) (hc2.lo hk4) 1048576 (by omega) (by omega) (by omega)) rfl fun w10 hk11 hz12 => ?_))))))
  have hB13 := hB8.lo hk11
  refine Q (aI rfl) <| Qn (Ws (Ws ?_))
  have hm14 := (hc1.lo hk4).lo hk11
  have hm15 := (hc2.lo hk4).lo hk11
  refine Wr (Q (mI rfl) <| Q (r_lt rfl rfl) <| Qn (W.cond_d rfl (fun h16 => ?_) (fun h16 => ?_)))
  ·refine Ws (Wr (Q (aB rfl) <| Qn (W.ret (ret1 rfl (v := .bool _) rfl (⟨eR rfl, hB13⟩)))))
  ·have hq17 := szN_ok h16
   refine W.skip (Ws (Wr (Q (lG agg29 rfl (hb6.lo hk11) rfl) <| SR.call ent11 (c_laws_toConsole w10 c hm14 hm15 (by omega) (by omega)) rfl ?_)))
   rintro e w18 ⟨A20, n21, c22, A24, n25, c26, rfl, hO23, hO27, hd28, hk19⟩
   refine ⟨_, rfl, ?_⟩
   have hz29 := hk19.size
   have hl31 := hO23.len
   have hl32 := hO23.rd.bound
   have hl33 := hO27.len
   have hl34 := hO27.rd.bound
   refine Q (mS rfl) <| SR.call ent10 (c_spec_ExecuteCommand w18 c (hO23.rd) (hO27.rd) s (by omega) (by omega)) rfl ?_
   rintro e w35 ⟨A37, n38, c39, A41, n42, c43, rfl, hO40, hO44, hd45, hk36⟩
   refine ⟨_, rfl, ?_⟩
   have hz46 := hk36.size
   have hl48 := hO40.len
   have hl49 := hO40.rd.bound
   have hq50 := exec_lenM (c := c) (s := s) (by omega)
   have hl51 := hO44.len
   have hl52 := hO44.rd.bound
   have hq53 := exec_lenA (c := c) (s := s) (by omega)
   refine Q (mT rfl) <| Q (xG rfl rfl) <| Q (xS rfl rfl) <| SR.alloc (l := [.slice none 0 0, .slice none 0 0, .int .i64 0, .int .i64 0, .int .i64 0, str ([] : List UInt8), str ([] : List UInt8), .int .i64 0]) tz37 rfl ?_
   intro g54 w55 hg56 hk57 hs58 hb59
   refine Qw (o := 0) (vs := [.slice A37 n38 c39, .slice A41 n42 c43, .int .i64 (((execN c s).1).Library.Bought), .int .i64 (((execN c s).1).Library.Dropped), .int .i64 (((execN c s).1).Library.Mended), str (((execN c s).1).Log.Durable), str (((execN c s).1).Log.Pending), .int .i64 (((execN c s).1).Log.Count)]) agg37.2 rfl rfl rfl rfl hb59 ler rfl ?_
   intro w66 hk67 hs68 hb69
   refine Q (aS rfl) <| Qn (Ws ?_)
   have hm72 := ((((hb6.lo hk11).lo hk19).lo hk36).lo hk57).kn hk67
   have hm73 := (((hm14.lo hk19).lo hk36).lo hk57).kn hk67
   have hm74 := (((hm15.lo hk19).lo hk36).lo hk57).kn hk67
   have hm75 := (hO40.lo hk57).kd hk67 (SlO.ne (g := g54) hO40)
   have hm76 := (hO44.lo hk57).kd hk67 (SlO.ne (g := g54) hO44)
   refine Wr (Q (lG agg29 rfl hm72 rfl) <| SR.call ent11 (c_laws_toConsole w66 c hm73 hm74 (by omega) (by omega)) rfl ?_)
   rintro e w77 ⟨A79, n80, c81, A83, n84, c85, rfl, hO82, hO86, hd87, hk78⟩
   refine ⟨_, rfl, ?_⟩
   have hz88 := hk78.size
   have hl90 := hO82.len
   have hl91 := hO82.rd.bound
   have hl92 := hO86.len
   have hl93 := hO86.rd.bound
   refine SR.alloc (l := [.slice none 0 0, .slice none 0 0, .int .i64 0, .int .i64 0, .int .i64 0, str ([] : List UInt8), str ([] : List UInt8), .int .i64 0]) tz37 rfl ?_
   intro g94 w95 hg96 hk97 hs98 hb99
   refine Qw (o := 0) (vs := [.slice A79 n80 c81, .slice A83 n84 c85, .int .i64 c.Library.Bought, .int .i64 c.Library.Dropped, .int .i64 c.Library.Mended, str c.Log.Durable, str c.Log.Pending, .int .i64 c.Log.Count]) agg37.2 rfl rfl rfl rfl hb99 ler rfl ?_
   intro w108 hk109 hs110 hb111
   have hB113 := ((((((hB13.lo hk19).lo hk36).lo hk57).new hk67).lo hk78).lo hk97).new hk109
   refine Qn (Ws ?_)
   have hm118 := ((hm75.lo hk78).lo hk97).kd hk109 (SlO.ne (g := g94) (hm75.lo hk78))
   have hm119 := ((hm76.lo hk78).lo hk97).kd hk109 (SlO.ne (g := g94) (hm76.lo hk78))
   have hm120 := (hO82.lo hk97).kd hk109 (SlO.ne (g := g94) hO82)
   have hm121 := (hO86.lo hk97).kd hk109 (SlO.ne (g := g94) hO86)
   refine Wr (Q (lG agg37 rfl hb111 rfl) <| Q (mS rfl) <| SR.call ent12 (c_impl_ExecuteCommand w108 c (hm120.rd) (hm121.rd) s (by omega) (by omega) (hE.lo hB113)) rfl ?_)
   rintro e w122 ⟨A124, n125, c126, A128, n129, c130, rfl, hO127, hO131, hd132, hk123⟩
   refine ⟨_, rfl, ?_⟩
   have hz133 := hk123.size
   have hl135 := hO127.len
   have hl136 := hO127.rd.bound
   have hq137 := exec_lenM (c := c) (s := s) (by omega)
   have hl138 := hO131.len
   have hl139 := hO131.rd.bound
   have hq140 := exec_lenA (c := c) (s := s) (by omega)
   refine Q (mT rfl) <| Q (xG rfl rfl) <| Q (xS rfl rfl) <| SR.alloc (l := [.slice none 0 0, .slice none 0 0, .int .i64 0, .int .i64 0, .int .i64 0, str ([] : List UInt8), str ([] : List UInt8), .int .i64 0]) tz37 rfl ?_
   intro g141 w142 hg143 hk144 hs145 hb146
   have hd153 := SlO.ne (g := g141) (hm120.lo hk123)
   have hd154 := SlO.ne (g := g141) (hm121.lo hk123)
   have hd155 := SlO.ne (g := g141) hO127
   have hd156 := SlO.ne (g := g141) hO131
   refine Qw (o := 0) (vs := [.slice A124 n125 c126, .slice A128 n129 c130, .int .i64 (((execN c s).1).Library.Bought), .int .i64 (((execN c s).1).Library.Dropped), .int .i64 (((execN c s).1).Library.Mended), str (((execN c s).1).Log.Durable), str (((execN c s).1).Log.Pending), .int .i64 (((execN c s).1).Log.Count)]) agg37.2 rfl rfl rfl rfl hb146 ler rfl ?_
   intro w157 hk158 hs159 hb160
   refine Q (aS rfl) <| Qn (Ws (Ws ?_))
   have hm163 := (((((hm72.lo hk78).lo hk97).kn hk109).lo hk123).lo hk144).kn hk158
   have hm164 := (((((hm73.lo hk78).lo hk97).kn hk109).lo hk123).lo hk144).kn hk158
   have hm165 := (((((hm74.lo hk78).lo hk97).kn hk109).lo hk123).lo hk144).kn hk158
   have hm166 := (((((hb69.lo hk78).lo hk97).kn hk109).lo hk123).lo hk144).kn hk158
   have hm167 := ((hm118.lo hk123).lo hk144).kd hk158 (SlO.ne (g := g141) (hm118.lo hk123))
   have hm168 := ((hm119.lo hk123).lo hk144).kd hk158 (SlO.ne (g := g141) (hm119.lo hk123))
   have hm169 := ((hb111.lo hk123).lo hk144).kn hk158
   have hm170 := ((hm120.lo hk123).lo hk144).kd hk158 hd153
   have hm171 := ((hm121.lo hk123).lo hk144).kd hk158 hd154
   have hm172 := (hO127.lo hk144).kd hk158 hd155
   have hm173 := (hO131.lo hk144).kd hk158 hd156
   refine W.regJS (fun f' w' => At f' [(1, str s), (2, .pointer (pA g1)), (4, .bool false), (6, .pointer (pA g54)), (7, str ((execN c s).2)), (8, .pointer (pA g94)), (9, .pointer (pA g141)), (10, str ((execN c s).2)), (47, .bool (decide (¬ (((execN c s).1) = ((execN c s).1)))))] ∧ Lo w157 w') ?_ ?_
   ·refine Q (lG agg37 rfl hb160 rfl) <| Q (lG agg37 rfl hm166 rfl) <| Qv ent13 (c_laws_eqConsole w157 ((execN c s).1) (hm172.rd) (hm173.rd) ((execN c s).1) (hm167.rd) (hm168.rd)) rfl fun w174 hk175 hz176 => (Q (r_not rfl) <| Q (mB rfl) <| SR.splitN (fun h178 => ?_) (fun h178 => ?_))
    ·refine Qs rfl <| Qs rfl <| Qs rfl <| Q (r_pick true rfl (v := .bool true) rfl) <| Qn (⟨_, rfl, ⟨⟨rfl, rfl, rfl, rfl, rfl, rfl, rfl, rfl, (eDT ((j2f h178).1 trivial)), trivial⟩, hk175⟩⟩)
    ·refine Qg rfl (mS rfl) <| Qg rfl (mS rfl) <| Qg rfl (r_nes_s (s := (execN c s).2) rfl rfl) <| Q (r_pick false rfl (v := .bool _) rfl) <| Qn (⟨_, rfl, ⟨⟨rfl, rfl, rfl, rfl, rfl, rfl, rfl, rfl, (eDF (j2t h178).2), trivial⟩, hk175⟩⟩)
   rintro f179 w180 ⟨hat181, hk182⟩
   rw [← sets_of_at hat181]
   have hz183 := hk182.size
   have hB184 := (((hB113.lo hk123).lo hk144).new hk158).lo hk182
   refine W.cond_d rfl (fun h185 => ?_) (fun h185 => ?_)
   ·have hq186 : ¬ (((execN c s).1) = ((execN c s).1)) := h185
    refine Ws (Wr (Q (aB rfl) <| Qn (W.ret (ret1 rfl (v := .bool _) rfl (⟨eR (eB (z_c_laws_FnExactExecuteCommand_187 c nc1 hbdc1 hlec1 nc2 hbdc2 hlec2 s hp0 hp1 h9 h16 hq17 n21 hl31 hl32 n25 hl33 hl34 n38 hl48 hl49 hq50 n42 hl51 hl52 hq53 n80 hl90 hl91 n84 hl92 hl93 n125 hl135 hl136 hq137 n129 hl138 hl139 hq140 h185 hq186)), hB184⟩)))))
   ·have hq188 : ((execN c s).1) = ((execN c s).1) := (Classical.not_not.1 h185)
    refine W.skip (Ws (Ws (W.regA (Lo w180) (fun f' w' => ∃ (A195 : Option Addr) (n196 : Nat) (c197 : Nat) (A199 : Option Addr) (n200 : Nat) (c201 : Nat), At f' [(1, str s), (2, .pointer (pA g1)), (4, .bool false), (6, .pointer (pA g54)), (7, str ((execN c s).2)), (8, .pointer (pA g94)), (9, .pointer (pA g141)), (10, str ((execN c s).2)), (52, .bool (!decide (c = c)))] ∧ (Lo w180 w') ∧ (n196 = (c.Library.Maps).length) ∧ ((n196 : Int) ≤ 9223372036854775807) ∧ (n200 = (c.Library.Away).length) ∧ ((n200 : Int) ≤ 9223372036854775807)) mo ?_ ?_)))
    ·intro w235 hk236
     have hz237 := hk236.size
     refine Ak 0 rfl hk236 (fun w' hw' => r_lda (l := [.slice A79 n80 c81, .slice A83 n84 c85, .int .i64 c.Library.Bought, .int .i64 c.Library.Dropped, .int .i64 c.Library.Mended, str c.Log.Durable, str c.Log.Pending, .int .i64 c.Log.Count]) agg37 rfl (fun _ _ hu => ((hm169.lo hk182).lo hw').cell hu) rfl) <| Ak 1 rfl hk236 (fun w' hw' => r_lda (l := [.slice Ac1 nc1 cc1, .slice Ac2 nc2 cc2, .int .i64 c.Library.Bought, .int .i64 c.Library.Dropped, .int .i64 c.Library.Mended, str c.Log.Durable, str c.Log.Pending, .int .i64 c.Log.Count]) agg29 rfl (fun _ _ hu => ((hm163.lo hk182).lo hw').cell hu) rfl) <| Ab 2 rfl (SR.call ent11 (c_laws_toConsole w235 c ((hm164.lo hk182).lo hk236) ((hm165.lo hk182).lo hk236) (by omega) (by omega)) rfl ?_)
     rintro e w239 ⟨A241, n242, c243, A245, n246, c247, rfl, hO244, hO248, hd249, hk240⟩
     refine ⟨_, rfl, ?_⟩
     have hz250 := hk240.size
     have hS252 := hk236.lo hk240
     have hl253 := hO244.len
     have hl254 := hO244.rd.bound
     have hl255 := hO248.len
     have hl256 := hO248.rd.bound
     refine Qn ⟨hS252, _, rfl, (Ab 3 rfl (Qv ent13 (c_laws_eqConsole w239 c ((((hm170.lo hk182).lo hk236).lo hk240).rd) ((((hm171.lo hk182).lo hk236).lo hk240).rd) c (hO244.rd) (hO248.rd)) rfl fun w257 hk258 hz259 => ?_))⟩
     have hS261 := hS252.lo hk258
     refine Qn ⟨hS261, _, rfl, (Ak 4 rfl hS261 (fun w' hw' => r_not rfl) <| AH.done (by kernel_rfl) (⟨A241, n242, c243, A245, n246, c247, (At.r rfl), hS261, hl253, hl254, hl255, hl256⟩))⟩
    rintro f262 w263 ⟨A195, n196, c197, A199, n200, c201, hat265, hR264, hl207, hl208, hl209, hl210⟩
    rw [← sets_of_at hat265]
    have hz266 := hR264.size
    have hB267 := hB184.lo hR264
    refine W.cond_n rfl (fun h268 => ?_) (fun h268 => ?_)
    ·refine Ws (Wr (Q (aB rfl) <| Qn (W.ret (ret1 rfl (v := .bool _) rfl (⟨eR (eB (z_c_laws_FnExactExecuteCommand_281 c nc1 hbdc1 hlec1 nc2 hbdc2 hlec2 s hp0 hp1 h9 h16 hq17 n21 hl31 hl32 n25 hl33 hl34 n38 hl48 hl49 hq50 n42 hl51 hl52 hq53 n80 hl90 hl91 n84 hl92 hl93 n125 hl135 hl136 hq137 n129 hl138 hl139 hq140 h185 hq188 n196 n200 hl207 hl208 hl209 hl210 h268)), hB267⟩)))))
    ·refine W.skip (Ws ?_)
     have hm285 := (hm166.lo hk182).lo hR264
     have hm286 := (hm167.lo hk182).lo hR264
     have hm287 := (hm168.lo hk182).lo hR264
     have hm289 := (hm170.lo hk182).lo hR264
     have hm290 := (hm171.lo hk182).lo hR264
     have hm291 := (hb160.lo hk182).lo hR264
     have hm292 := (hm172.lo hk182).lo hR264
     have hm293 := (hm173.lo hk182).lo hR264
     refine Wr (Q (aI rfl) <| Qn (Ws (Wr (Q (lG agg37 rfl ((hm169.lo hk182).lo hR264) rfl) <| Q (mI rfl) <| SR.call ent14 (c_laws_markConsole w263 c hm289 hm290 1 hd87 (by omega) (by omega) (by omega) (by omega)) rfl ?_))))
     rintro e w294 ⟨rfl, hO296, hO297, hk295⟩
     refine ⟨_, rfl, ?_⟩
     have hz298 := hk295.size
     refine Q (aI rfl) <| Qn (Ws (Ws (W.regJS (fun f' w' => At f' [(1, str s), (2, .pointer (pA g1)), (4, .bool false), (6, .pointer (pA g54)), (7, str ((execN c s).2)), (9, .pointer (pA g141)), (68, .bool (decide (((1 + 3 * (c.Library.Maps.length : Int) + 2 * (c.Library.Away.length : Int)) < 0) ∨ (¬ (((execN c s).1) = ((execN c s).1))))))] ∧ Lo w294 w') ?_ ?_)))
     ·refine Q (mI rfl) <| Q (r_lt rfl rfl) <| Q (mB rfl) <| SR.splitD (fun h300 => ?_) (fun h300 => ?_)
      ·refine Qs rfl <| Qs rfl <| Qs rfl <| Qs rfl <| Q (r_pick true rfl (v := .bool true) rfl) <| Q (mB rfl) <| Qs rfl <| Qs rfl <| Qs rfl <| Q (r_pick true rfl (v := .bool true) rfl) <| Qn (⟨_, rfl, ⟨⟨rfl, rfl, rfl, rfl, rfl, rfl, (eDT ((jot h300).1 trivial)), trivial⟩, (Lo.refl _)⟩⟩)
      ·refine Qg rfl (lG agg37 rfl (hm291.kp hk295 (fun e' => e'.elim (fun e' => hd153 e') (fun e' => hd154 e'))) rfl) <| Qg rfl (lG agg37 rfl (hm285.kp hk295 (fun e' => e'.elim (fun e' => by have := hm289.base_le e'; omega) (fun e' => by have := hm290.base_le e'; omega))) rfl) <| SR.gcall rfl ent13 (c_laws_eqConsole w294 ((execN c s).1) ((hm292.kp hk295 (fun b_ hb e' => e'.elim (fun e' => by have h1 := hm289.base_le e'; have h2 := hm292.base_le hb; have h4 := hm120.base_le e'; omega) (fun e' => by have h1 := hm290.base_le e'; have h2 := hm292.base_le hb; have h4 := hm121.base_le e'; omega))).rd) ((hm293.kp hk295 (fun b_ hb e' => e'.elim (fun e' => by have h1 := hm289.base_le e'; have h2 := hm293.base_le hb; have h4 := hm120.base_le e'; omega) (fun e' => by have h1 := hm290.base_le e'; have h2 := hm293.base_le hb; have h4 := hm121.base_le e'; omega))).rd) ((execN c s).1) ((hm286.kp hk295 (fun b_ hb e' => e'.elim (fun e' => by have h1 := hm289.base_le e'; have h2 := hm286.base_le hb; have h3 := hm75.base_le hb; omega) (fun e' => by have h1 := hm290.base_le e'; have h2 := hm286.base_le hb; have h3 := hm75.base_le hb; omega))).rd) ((hm287.kp hk295 (fun b_ hb e' => e'.elim (fun e' => by have h1 := hm289.base_le e'; have h2 := hm287.base_le hb; have h3 := hm76.base_le hb; omega) (fun e' => by have h1 := hm290.base_le e'; have h2 := hm287.base_le hb; have h3 := hm76.base_le hb; omega))).rd)) rfl ?_
       rintro e w301 ⟨rfl, hk302⟩
       refine ⟨_, rfl, ?_⟩
       have hz303 := hk302.size
       refine Qg rfl (r_not rfl) <| Q (r_pick false rfl (v := .bool _) rfl) <| Q (mB rfl) <| SR.splitN (fun h305 => ?_) (fun h305 => ?_)
       ·refine Qs rfl <| Qs rfl <| Qs rfl <| Q (r_pick true rfl (v := .bool true) rfl) <| Qn (⟨_, rfl, ⟨⟨rfl, rfl, rfl, rfl, rfl, rfl, (eDT (((j2f h305).trans (jof h300)).1 trivial)), trivial⟩, hk302⟩⟩)
       ·refine Qg rfl (mS rfl) <| Qg rfl (mS rfl) <| Qg rfl (r_nes_s (s := (execN c s).2) rfl rfl) <| Q (r_pick false rfl (v := .bool _) rfl) <| Qn (⟨_, rfl, ⟨⟨rfl, rfl, rfl, rfl, rfl, rfl, (eDF ((j2t h305).trans (jof h300)).2), trivial⟩, hk302⟩⟩)
     rintro f306 w307 ⟨hat308, hk309⟩
     rw [← sets_of_at hat308]
     have hz310 := hk309.size
     have hB311 := (hB267.step hk295 (fun i_ hi_ e' => e'.elim (fun e' => by have := hm289.base_le e'; first | omega | exact e' | exact .inl e' | exact .inr e') (fun e' => by have := hm290.base_le e'; first | omega | exact e' | exact .inl e' | exact .inr e'))).lo hk309
     refine W.cond_d rfl (fun h312 => ?_) (fun h312 => ?_)
     ·refine Ws (Wr (Q (aB rfl) <| Qn (W.ret (ret1 rfl (v := .bool _) rfl (⟨eR (eB (z_c_laws_FnExactExecuteCommand_322 c nc1 hbdc1 hlec1 nc2 hbdc2 hlec2 s hp0 hp1 h9 h16 hq17 n21 hl31 hl32 n25 hl33 hl34 n38 hl48 hl49 hq50 n42 hl51 hl52 hq53 n80 hl90 hl91 n84 hl92 hl93 n125 hl135 hl136 hq137 n129 hl138 hl139 hq140 h185 hq188 n196 n200 hl207 hl208 hl209 hl210 h268 h312)), hB311⟩)))))
     ·have hq323 : ¬ ((1 + 3 * (c.Library.Maps.length : Int) + 2 * (c.Library.Away.length : Int)) < 0) := (not_or.1 h312).1
      have hq324 : ((execN c s).1) = ((execN c s).1) := (Classical.not_not.1 (not_or.1 h312).2)
      refine W.skip (Ws ?_)
      have hm325 := (((hm163.lo hk182).lo hR264).kp hk295 (fun e' => e'.elim (fun e' => by have := hm289.base_le e'; omega) (fun e' => by have := hm290.base_le e'; omega))).lo hk309
      have hm326 := (((hm164.lo hk182).lo hR264).kp hk295 (fun b_ hb e' => e'.elim (fun e' => by have := hm289.base_le e'; omega) (fun e' => by have := hm290.base_le e'; omega))).lo hk309
      have hm327 := (((hm165.lo hk182).lo hR264).kp hk295 (fun b_ hb e' => e'.elim (fun e' => by have := hm289.base_le e'; omega) (fun e' => by have := hm290.base_le e'; omega))).lo hk309
      have hm328 := (hm285.kp hk295 (fun e' => e'.elim (fun e' => by have := hm289.base_le e'; omega) (fun e' => by have := hm290.base_le e'; omega))).lo hk309
      have hm329 := (hm286.kp hk295 (fun b_ hb e' => e'.elim (fun e' => by have h1 := hm289.base_le e'; have h2 := hm286.base_le hb; have h3 := hm75.base_le hb; omega) (fun e' => by have h1 := hm290.base_le e'; have h2 := hm286.base_le hb; have h3 := hm75.base_le hb; omega))).lo hk309
      have hm330 := (hm287.kp hk295 (fun b_ hb e' => e'.elim (fun e' => by have h1 := hm289.base_le e'; have h2 := hm287.base_le hb; have h3 := hm76.base_le hb; omega) (fun e' => by have h1 := hm290.base_le e'; have h2 := hm287.base_le hb; have h3 := hm76.base_le hb; omega))).lo hk309
      have hm331 := (hm291.kp hk295 (fun e' => e'.elim (fun e' => hd153 e') (fun e' => hd154 e'))).lo hk309
      have hm332 := (hm292.kp hk295 (fun b_ hb e' => e'.elim (fun e' => by have h1 := hm289.base_le e'; have h2 := hm292.base_le hb; have h4 := hm120.base_le e'; omega) (fun e' => by have h1 := hm290.base_le e'; have h2 := hm292.base_le hb; have h4 := hm121.base_le e'; omega))).lo hk309
      have hm333 := (hm293.kp hk295 (fun b_ hb e' => e'.elim (fun e' => by have h1 := hm289.base_le e'; have h2 := hm293.base_le hb; have h4 := hm120.base_le e'; omega) (fun e' => by have h1 := hm290.base_le e'; have h2 := hm293.base_le hb; have h4 := hm121.base_le e'; omega))).lo hk309
      refine Wr (Q (aI rfl) <| Qn (Ws (Wr (Q (lG agg37 rfl hm331 rfl) <| Q (mI rfl) <| SR.call ent14 (c_laws_markConsole w307 ((execN c s).1) hm332 hm333 1 hd132 (by omega) (by omega) (by omega) (by omega)) rfl ?_))))
      rintro e w334 ⟨rfl, hO336, hO337, hk335⟩
      refine ⟨_, rfl, ?_⟩
      have hz338 := hk335.size
      refine Q (aI rfl) <| Qn (Ws (Wr (Q (aI rfl) <| Qn (Ws (Wr (Q (lG agg37 rfl (hm331.kp hk335 (fun e' => e'.elim (fun e' => hd155 e') (fun e' => hd156 e'))) rfl) <| Q (mI rfl) <| Qv ent15 (c_laws_heldConsole w334 (⟨(⟨mkL mkLMap 3 ((execN c s).1).Library.Maps.length 1, mkL mkAway 2 ((execN c s).1).Library.Away.length (1 + 3 * (((execN c s).1).Library.Maps.length : Int)), ((execN c s).1).Library.Bought, ((execN c s).1).Library.Dropped, ((execN c s).1).Library.Mended⟩ : Library), ((execN c s).1).Log⟩ : Console) (hO336.rd) (hO337.rd) 1 (((execN c s).1).Library.Maps.length) (((execN c s).1).Library.Away.length) (by omega) (by omega) (by omega) (by omega) (by rfl) (by rfl) (by omega) (by omega)) rfl fun w340 hk341 hz342 => ?_))))))
      have hB343 := (hB311.step hk335 (fun i_ hi_ e' => e'.elim (fun e' => by have := hm332.base_le e'; first | omega | exact e' | exact .inl e' | exact .inr e') (fun e' => by have := hm333.base_le e'; first | omega | exact e' | exact .inl e' | exact .inr e'))).lo hk341
      refine Q (aI rfl) <| Qn (Ws (Ws ?_))
      have hm344 := (hm325.kp hk335 (fun e' => e'.elim (fun e' => by have := hm332.base_le e'; omega) (fun e' => by have := hm333.base_le e'; omega))).lo hk341
      have hm345 := (hm326.kp hk335 (fun b_ hb e' => e'.elim (fun e' => by have := hm332.base_le e'; omega) (fun e' => by have := hm333.base_le e'; omega))).lo hk341
      have hm346 := (hm327.kp hk335 (fun b_ hb e' => e'.elim (fun e' => by have := hm332.base_le e'; omega) (fun e' => by have := hm333.base_le e'; omega))).lo hk341
      have hm347 := (hm328.kp hk335 (fun e' => e'.elim (fun e' => by have := hm332.base_le e'; omega) (fun e' => by have := hm333.base_le e'; omega))).lo hk341
      have hm348 := (hm329.kp hk335 (fun b_ hb e' => e'.elim (fun e' => by have h1 := hm332.base_le e'; have h2 := hm329.base_le hb; have h3 := hm118.base_le hb; omega) (fun e' => by have h1 := hm333.base_le e'; have h2 := hm329.base_le hb; have h3 := hm118.base_le hb; omega))).lo hk341
      have hm349 := (hm330.kp hk335 (fun b_ hb e' => e'.elim (fun e' => by have h1 := hm332.base_le e'; have h2 := hm330.base_le hb; have h3 := hm119.base_le hb; omega) (fun e' => by have h1 := hm333.base_le e'; have h2 := hm330.base_le hb; have h3 := hm119.base_le hb; omega))).lo hk341
      refine Wr (Q (mI rfl) <| Q (r_lt rfl rfl) <| Qn (W.cond_d rfl (fun h351 => ?_) (fun h351 => ?_)))
      ·refine Ws (Wr (Q (aB rfl) <| Qn (W.ret (ret1 rfl (v := .bool _) rfl (⟨eR (eB (z_c_laws_FnExactExecuteCommand_352 c nc1 hbdc1 hlec1 nc2 hbdc2 hlec2 s hp0 hp1 h9 h16 hq17 n21 hl31 hl32 n25 hl33 hl34 n38 hl48 hl49 hq50 n42 hl51 hl52 hq53 n80 hl90 hl91 n84 hl92 hl93 n125 hl135 hl136 hq137 n129 hl138 hl139 hq140 h185 hq188 n196 n200 hl207 hl208 hl209 hl210 h268 h312 hq323 hq324 h351)), hB343⟩)))))
      ·refine W.skip (Ws (Ws (Wr (Q (mI rfl) <| Q (mI rfl) <| Q (r_ne rfl rfl) <| Qn (W.cond_n rfl (fun h353 => ?_) (fun h353 => ?_))))))
       ·refine Ws (Wr (Q (aB rfl) <| Qn (W.ret (ret1 rfl (v := .bool _) rfl (⟨eR (eB (z_c_laws_FnExactExecuteCommand_354 c nc1 hbdc1 hlec1 nc2 hbdc2 hlec2 s hp0 hp1 h9 h16 hq17 n21 hl31 hl32 n25 hl33 hl34 n38 hl48 hl49 hq50 n42 hl51 hl52 hq53 n80 hl90 hl91 n84 hl92 hl93 n125 hl135 hl136 hq137 n129 hl138 hl139 hq140 h185 hq188 n196 n200 hl207 hl208 hl209 hl210 h268 h312 hq323 hq324 h351 h353)), hB343⟩)))))
       ·refine W.skip (Ws (Wr (Q (lG agg29 rfl hm344 rfl) <| SR.call ent11 (c_laws_toConsole w340 c hm345 hm346 (by omega) (by omega)) rfl ?_)))
        rintro e w355 ⟨A357, n358, c359, A361, n362, c363, rfl, hO360, hO364, hd365, hk356⟩
        refine ⟨_, rfl, ?_⟩
        have hz366 := hk356.size
        have hB367 := hB343.lo hk356
        have hl368 := hO360.len
        have hl369 := hO360.rd.bound
        have hl370 := hO364.len
        have hl371 := hO364.rd.bound
        refine Q (mS rfl) <| SR.call ent12 (c_impl_ExecuteCommand w355 c (hO360.rd) (hO364.rd) s (by omega) (by omega) (hE.lo hB367)) rfl ?_
        rintro e w372 ⟨A374, n375, c376, A378, n379, c380, rfl, hO377, hO381, hd382, hk373⟩
        refine ⟨_, rfl, ?_⟩
        have hz383 := hk373.size
        have hl385 := hO377.len
        have hl386 := hO377.rd.bound
        have hq387 := exec_lenM (c := c) (s := s) (by omega)
        have hl388 := hO381.len
        have hl389 := hO381.rd.bound
        have hq390 := exec_lenA (c := c) (s := s) (by omega)
        refine Q (mT rfl) <| Q (xG rfl rfl) <| Q (xS rfl rfl) <| SR.alloc (l := [.slice none 0 0, .slice none 0 0, .int .i64 0, .int .i64 0, .int .i64 0, str ([] : List UInt8), str ([] : List UInt8), .int .i64 0]) tz37 rfl ?_
        intro g391 w392 hg393 hk394 hs395 hb396
        refine Qw (o := 0) (vs := [.slice A374 n375 c376, .slice A378 n379 c380, .int .i64 (((execN c s).1).Library.Bought), .int .i64 (((execN c s).1).Library.Dropped), .int .i64 (((execN c s).1).Library.Mended), str (((execN c s).1).Log.Durable), str (((execN c s).1).Log.Pending), .int .i64 (((execN c s).1).Log.Count)]) agg37.2 rfl rfl rfl rfl hb396 ler rfl ?_
        intro w411 hk412 hs413 hb414
        refine Q (aS rfl) <| Qn (Ws (Ws (W.regJS (fun f' w' => At f' [(4, .bool false), (9, .pointer (pA g141)), (12, .int .i64 (1 + 3 * (((execN c s).1).Library.Maps.length : Int) + 2 * (((execN c s).1).Library.Away.length : Int))), (13, .int .i64 (1 + 3 * ((((execN c s).1).Library.Maps.length : Nat) : Int) + 2 * ((((execN c s).1).Library.Away.length : Nat) : Int))), (95, .bool (decide (¬ (((execN c s).1) = ((execN c s).1)))))] ∧ Lo w411 w') ?_ ?_)))
        ·refine Q (lG agg37 rfl hb414 rfl) <| Q (lG agg37 rfl ((((hm347.lo hk356).lo hk373).lo hk394).kn hk412) rfl) <| Qv ent13 (c_laws_eqConsole w411 ((execN c s).1) (((hO377.lo hk394).kd hk412 (SlO.ne (g := g391) hO377)).rd) (((hO381.lo hk394).kd hk412 (SlO.ne (g := g391) hO381)).rd) ((execN c s).1) (((((hm348.lo hk356).lo hk373).lo hk394).kd hk412 (SlO.ne (g := g391) ((hm348.lo hk356).lo hk373))).rd) (((((hm349.lo hk356).lo hk373).lo hk394).kd hk412 (SlO.ne (g := g391) ((hm349.lo hk356).lo hk373))).rd)) rfl fun w425 hk426 hz427 => (Q (r_not rfl) <| Q (mB rfl) <| SR.splitN (fun h429 => ?_) (fun h429 => ?_))
         ·refine Qs rfl <| Qs rfl <| Qs rfl <| Q (r_pick true rfl (v := .bool true) rfl) <| Qn (⟨_, rfl, ⟨⟨rfl, rfl, rfl, rfl, (eDT ((j2f h429).1 trivial)), trivial⟩, hk426⟩⟩)
         ·refine Qg rfl (mS rfl) <| Qg rfl (mS rfl) <| Qg rfl (r_nes_s (s := (execN c s).2) rfl rfl) <| Q (r_pick false rfl (v := .bool _) rfl) <| Qn (⟨_, rfl, ⟨⟨rfl, rfl, rfl, rfl, (eDF (j2t h429).2), trivial⟩, hk426⟩⟩)
        rintro f430 w431 ⟨hat432, hk433⟩
        rw [← sets_of_at hat432]
        have hz434 := hk433.size
        refine W.cond_f (congrArg Value.bool (decide_eq_false h185)) (W.skip (Ws (Wr (Q (aI rfl) <| Qn (Ws (Wr (Q (lG agg37 rfl (((((((hm331.kp hk335 (fun e' => e'.elim (fun e' => hd155 e') (fun e' => hd156 e'))).lo hk341).lo hk356).lo hk373).lo hk394).kn hk412).lo hk433) rfl) <| Q (mI rfl) <| Qv ent15 (c_laws_heldConsole w431 (⟨(⟨mkL mkLMap 3 ((execN c s).1).Library.Maps.length 1, mkL mkAway 2 ((execN c s).1).Library.Away.length (1 + 3 * (((execN c s).1).Library.Maps.length : Int)), ((execN c s).1).Library.Bought, ((execN c s).1).Library.Dropped, ((execN c s).1).Library.Mended⟩ : Library), ((execN c s).1).Log⟩ : Console) (((((((hO336.lo hk341).lo hk356).lo hk373).lo hk394).kd hk412 (SlO.ne (g := g391) (((hO336.lo hk341).lo hk356).lo hk373))).lo hk433).rd) (((((((hO337.lo hk341).lo hk356).lo hk373).lo hk394).kd hk412 (SlO.ne (g := g391) (((hO337.lo hk341).lo hk356).lo hk373))).lo hk433).rd) 1 (((execN c s).1).Library.Maps.length) (((execN c s).1).Library.Away.length) (by omega) (by omega) (by omega) (by omega) (by rfl) (by rfl) (by omega) (by omega)) rfl fun w436 hk437 hz438 => (Q (aI rfl) <| Qn (Ws (Ws (Wr (Q (mI rfl) <| Q (r_lt rfl rfl) <| Qn (W.cond_f (congrArg Value.bool (decide_eq_false h351)) (W.skip (Ws (Ws (Wr (Q (mI rfl) <| Q (mI rfl) <| Q (r_ne rfl rfl) <| Qn (W.cond_f (congrArg Value.bool (not_decide_t h353)) (W.skip (Ws (Wr (Q (aB rfl) <| Qn (W.ret (ret1 rfl (v := .bool _) rfl (⟨eR rfl, (((((hB367.lo hk373).lo hk394).new hk412).lo hk433).lo hk437)⟩))))))))))))))))))))))))))
end Go.Proofs.YtndcchndcghmoaaGreatDoor
