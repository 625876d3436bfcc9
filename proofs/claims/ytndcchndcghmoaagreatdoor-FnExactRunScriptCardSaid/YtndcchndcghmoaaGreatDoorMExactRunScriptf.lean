/- Words and walks of this claim. -/
import Derived.Test.YtndcchndcghmoaaGreatDoorChecked
import Derived.Test.YtndcchndcghmoaaGreatDoorMExactRunScripte
set_option linter.unusedVariables false
namespace Go.Proofs.YtndcchndcghmoaaGreatDoor
open Go Go.RowKit Fw
set_option maxRecDepth 10000
set_option maxHeartbeats 2000000
set_option linter.unusedVariables false
theorem bld71_0 (a0 : List UInt8) : Tryz.prog.built 71 [(0, str a0)] = some (List.toArray [str a0, str ([] : List UInt8)]) := by kernel_rfl
theorem ent35 : Ent Tryz.prog 35 := en Tryz.func35
theorem ent49 : Ent Tryz.prog 49 := en Tryz.func49
theorem ent50 : Ent Tryz.prog 50 := en Tryz.func50
theorem c_impl_ExecuteCommand (w : World) (c : Console) {Ac1 : Option Addr} {nc1 cc1 Bc1 : Nat} (hc1 : SlR w Bc1 encLMap 3 Ac1 nc1 cc1 c.Library.Maps) {Ac2 : Option Addr} {nc2 cc2 Bc2 : Nat} (hc2 : SlR w Bc2 encAway 2 Ac2 nc2 cc2 c.Library.Away) (s : List UInt8) (hp0 : (c.Library.Maps.length : Int) ≤ 1048576 ∧ (c.Library.Away.length : Int) ≤ 1048576 ∧ (c.Log.Durable.length : Int) + (c.Log.Pending.length : Int) ≤ 1048576) (hp1 : (s.length : Int) ≤ 1048576) (hE : EnvW w) : Calls Tryz.prog 12 #[.agg (List.toArray [.slice Ac1 nc1 cc1, .slice Ac2 nc2 cc2, .int .i64 c.Library.Bought, .int .i64 c.Library.Dropped, .int .i64 c.Library.Mended, str c.Log.Durable, str c.Log.Pending, .int .i64 c.Log.Count]), str s] w fun e w' => ∃ (A1' : Option Addr) (n1' c1' : Nat) (A2' : Option Addr) (n2' c2' : Nat), e = .returned (.tuple (List.toArray [.agg (List.toArray [.slice A1' n1' c1', .slice A2' n2' c2', .int .i64 (((execN c s).1).Library.Bought), .int .i64 (((execN c s).1).Library.Dropped), .int .i64 (((execN c s).1).Library.Mended), str (((execN c s).1).Log.Durable), str (((execN c s).1).Log.Pending), .int .i64 (((execN c s).1).Log.Count)]), str ((execN c s).2)])) ∧ SlO w' w.heap.size encLMap 3 102 A1' n1' c1' (((execN c s).1).Library.Maps) ∧ SlO w' w.heap.size encAway 2 129 A2' n2' c2' (((execN c s).1).Library.Away) ∧ Dj A1' A2' ∧ Lo w w' := by
 refine calls_W 62 Tryz.func12 rfl rfl rfl ?_
 have hbdc1 := hc1.bound
 have hlec1 := hc1.len
 have hBbc1 := hc1.bd
 have hbdc2 := hc2.bound
 have hlec2 := hc2.len
 have hBbc2 := hc2.bd
 refine Ws (Wr (SR.box (v := .agg (List.toArray _)) (l := [.slice Ac1 nc1 cc1, .slice Ac2 nc2 cc2, .int .i64 c.Library.Bought, .int .i64 c.Library.Dropped, .int .i64 c.Library.Mended, str c.Log.Durable, str c.Log.Pending, .int .i64 c.Log.Count]) rfl rfl ?_))
 intro g1 w2 hg3 hk4 hs5 hb6
 refine SR.alloc (l := [.slice none 0 0, .slice none 0 0, .int .i64 0, .int .i64 0, .int .i64 0, str ([] : List UInt8), str ([] : List UInt8), .int .i64 0]) tz37 rfl ?_
 intro g9 w10 hg11 hk12 hs13 hb14
 refine Q (r_as (v := str ([] : List UInt8)) rfl) <| Qn (Ws (Wr (Q (fA fa37_0 rfl) <| Q (r_lda (l := (cLb Ac1 nc1 cc1 Ac2 nc2 cc2 c.Library)) agg34 rfl (fun _ _ hu => (hb6.lo hk12).cells (vs := (cLb Ac1 nc1 cc1 Ac2 nc2 cc2 c.Library)) rfl hu) rfl) <| SR.call ent47 (c__impl_Library__own w10 c.Library ((hc1.lo hk4).lo hk12) ((hc2.lo hk4).lo hk12) (by omega) (by omega)) rfl ?_)))
 rintro e w19 ⟨A21, n22, c23, A25, n26, c27, rfl, hO24, hO28, hd29, hk20⟩
 refine ⟨_, rfl, ?_⟩
 have hz30 := hk20.size
 have hl32 := hO24.len
 have hl33 := hO24.rd.bound
 have hl34 := hO28.len
 have hl35 := hO28.rd.bound
 refine Q (fA fa37_0 rfl) <| Qw (o := 0) (vs := (cLb A21 n22 c23 A25 n26 c27 c.Library)) agg34.2 rfl rfl rfl rfl ((hb6.lo hk12).lo hk20) ler rfl ?_
 intro w36 hk37 hs38 hb39
 have hB41 := ((((Lo.refl w).lo hk4).lo hk12).lo hk20).new hk37
 refine Qn (Ws (W.block (Ws ?_)))
 have hm42 := (hb14.lo hk20).kn hk37
 refine Wr (Q (lG agg37 rfl hb39 rfl) <| Qv ent35 (c_impl_IsValidConsole w36 c ((hO24.kn hk37).rd) ((hO28.kn hk37).rd) (by omega) (hE.lo hB41)) rfl fun w43 hk44 hz45 => ?_)
 have hB46 := hB41.lo hk44
 refine Q (r_not rfl) <| Q (aB rfl) <| Qn (W.cond_n rfl (fun h47 => ?_) (fun h47 => ?_))
 ·refine Ws (Wr (Q (lG agg37 rfl (hb39.lo hk44) rfl) <| Qw (o := 0) (vs := [.slice A21 n22 c23, .slice A25 n26 c27, .int .i64 c.Library.Bought, .int .i64 c.Library.Dropped, .int .i64 c.Library.Mended, str c.Log.Durable, str c.Log.Pending, .int .i64 c.Log.Count]) agg37.2 rfl rfl rfl rfl (hm42.lo hk44) ler rfl ?_))
  intro w50 hk51 hs52 hb53
  refine Q (r_as (v := str ([110, 111] : List UInt8)) rfl) <| Qn (W.ret (retCT rfl rfl agg37 hb53 rfl (v := str _) rfl ?_))
  refine ⟨A21, n22, c23, A25, n26, c27, eR (eT2 (eA (eC rfl (eC rfl (eC (eI ?_) (eC (eI ?_) (eC (eI ?_) (eC (eS ?_) (eC (eS ?_) (eC (eI ?_) rfl))))))))) (eS ?_)), (SlO.eqv ((((hO24.kn hk37).lo hk44).kn hk51).down) ?_), (SlO.eqv ((((hO28.kn hk37).lo hk44).kn hk51).down) ?_), hd29, (hB46.new hk51)⟩ <;> (rw [exec_no ‹¬ ConOK _›]; try rfl)
 ·have hq56 := con_rng h47
  have hq57 := And.left h47
  refine Ws ?_
  have hm58 := (hO24.kn hk37).lo hk44
  have hm59 := (hO28.kn hk37).lo hk44
  refine Wr (Q (mS rfl) <| Q (r_build (vs := [(0, str s)]) rfl (bld71_0 _)) <| Qv ent48 (c_impl_IsValidRecord w43 (⟨s, ([] : List UInt8)⟩ : LogRecord) (hE.lo hB46)) rfl fun w60 hk61 hz62 => ?_)
  have hB63 := hB46.lo hk61
  refine Q (r_not rfl) <| Q (aB rfl) <| Qn (W.cond_n rfl (fun h64 => ?_) (fun h64 => ?_))
  ·refine Ws (Wr (Q (lG agg37 rfl ((hb39.lo hk44).lo hk61) rfl) <| Qw (o := 0) (vs := [.slice A21 n22 c23, .slice A25 n26 c27, .int .i64 c.Library.Bought, .int .i64 c.Library.Dropped, .int .i64 c.Library.Mended, str c.Log.Durable, str c.Log.Pending, .int .i64 c.Log.Count]) agg37.2 rfl rfl rfl rfl ((hm42.lo hk44).lo hk61) ler rfl ?_))
   intro w67 hk68 hs69 hb70
   refine Q (r_as (v := str ([98, 97, 100] : List UInt8)) rfl) <| Qn (W.ret (retCT rfl rfl agg37 hb70 rfl (v := str _) rfl ?_))
   refine ⟨A21, n22, c23, A25, n26, c27, eR (eT2 (eA (eC rfl (eC rfl (eC (eI ?_) (eC (eI ?_) (eC (eI ?_) (eC (eS ?_) (eC (eS ?_) (eC (eI ?_) rfl))))))))) (eS ?_)), (SlO.eqv (((hm58.lo hk61).kn hk68).down) ?_), (SlO.eqv (((hm59.lo hk61).kn hk68).down) ?_), hd29, (hB63.new hk68)⟩ <;> (rw [exec_bad (c := c) (s := s) (by first | assumption | exact Classical.not_not.1 ‹_›) (by assumption)]; try rfl)
  ·have hq73 := rec_rngS h64
   refine Ws ?_
   have hm74 := (hb39.lo hk44).lo hk61
   have hm75 := (hm42.lo hk44).lo hk61
   refine Wr (Q (fA fa37_1 rfl) <| Q (fA fa35_2 rfl) <| Q (r_ld (v := .int .i64 c.Log.Count) sca3 rfl (hm74.cell2 rfl)) <| Q (r_ge rfl rfl) <| Q (aB rfl) <| Qn (W.cond_d rfl (fun h76 => ?_) (fun h76 => ?_)))
   ·refine Ws (Wr (Q (lG agg37 rfl hm74 rfl) <| Qw (o := 0) (vs := [.slice A21 n22 c23, .slice A25 n26 c27, .int .i64 c.Library.Bought, .int .i64 c.Library.Dropped, .int .i64 c.Library.Mended, str c.Log.Durable, str c.Log.Pending, .int .i64 c.Log.Count]) agg37.2 rfl rfl rfl rfl hm75 ler rfl ?_))
    intro w77 hk78 hs79 hb80
    refine Q (r_as (v := str ([102, 117, 108, 108] : List UInt8)) rfl) <| Qn (W.ret (retCT rfl rfl agg37 hb80 rfl (v := str _) rfl ?_))
    refine ⟨A21, n22, c23, A25, n26, c27, eR (eT2 (eA (eC rfl (eC rfl (eC (eI ?_) (eC (eI ?_) (eC (eI ?_) (eC (eS ?_) (eC (eS ?_) (eC (eI ?_) rfl))))))))) (eS ?_)), (SlO.eqv (((hm58.lo hk61).kn hk78).down) ?_), (SlO.eqv (((hm59.lo hk61).kn hk78).down) ?_), hd29, (hB63.new hk78)⟩ <;> (rw [exec_full (c := c) (s := s) (by first | assumption | exact Classical.not_not.1 ‹_›) (by first | assumption | exact Classical.not_not.1 ‹_›) (by omega)]; try rfl)
   ·refine W.skip (Ws (Wr (Q (fA fa37_0 rfl) <| Q (r_lda (l := (cLb A21 n22 c23 A25 n26 c27 c.Library)) agg34 rfl (fun _ _ hu => hm74.cells (vs := (cLb A21 n22 c23 A25 n26 c27 c.Library)) rfl hu) rfl) <| Q (mS rfl) <| SR.call ent49 (c_impl_reply w60 c.Library (hm58.lo hk61) (hm59.lo hk61) s hd29 (by omega) (by omega) (by assumption) (by omega) (hE.lo hB63)) rfl ?_)))
    rintro e w83 ⟨A85, n86, c87, A89, n90, c91, rfl, hO88, hO92, hd93, hN94, hN95, hk84⟩
    refine ⟨_, rfl, ?_⟩
    have hz96 := hk84.size
    have hd99 : ¬ A85 = some ⟨g9, 0, none⟩ := fun e' => (hN94 g9 e').elim (fun h => h.elim (fun h => (by have := (hm58.lo hk61).base_le h; omega)) (fun h => (by have := (hm59.lo hk61).base_le h; omega))) (fun h => by have := hm75.lt; omega)
    have hd101 : ¬ A89 = some ⟨g9, 0, none⟩ := fun e' => (hN95 g9 e').elim (fun h => h.elim (fun h => (by have := (hm58.lo hk61).base_le h; omega)) (fun h => (by have := (hm59.lo hk61).base_le h; omega))) (fun h => by have := hm75.lt; omega)
    have hl102 := hO88.len
    have hl103 := hO88.rd.bound
    have hl104 := hO92.len
    have hl105 := hO92.rd.bound
    refine Q (mT rfl) <| Q (xG rfl rfl) <| Q (xS rfl rfl) <| Q (xB rfl rfl) <| SR.alloc (l := [.slice none 0 0, .slice none 0 0, .int .i64 0, .int .i64 0, .int .i64 0]) tz34 rfl ?_
    intro g106 w107 hg108 hk109 hs110 hb111
    have hd114 := SlO.ne (g := g106) ((hm58.lo hk61).lo hk84)
    have hd115 := SlO.ne (g := g106) ((hm59.lo hk61).lo hk84)
    refine Qw (o := 0) (vs := [.slice A85 n86 c87, .slice A89 n90 c91, .int .i64 (((repN c.Library s).1).Bought), .int .i64 (((repN c.Library s).1).Dropped), .int .i64 (((repN c.Library s).1).Mended)]) agg34.2 rfl rfl rfl rfl hb111 ler rfl ?_
    intro w118 hk119 hs120 hb121
    have hB123 := ((hB63.lo hk84).lo hk109).new hk119
    refine Q (aS rfl) <| Q (aB rfl) <| Qn (Ws (W.block (Ws ?_)))
    have hm124 := ((hm74.lo hk84).lo hk109).kn hk119
    have hm125 := (((hm58.lo hk61).lo hk84).lo hk109).kd hk119 hd114
    have hm126 := (((hm59.lo hk61).lo hk84).lo hk109).kd hk119 hd115
    have hm127 := ((hm75.lo hk84).lo hk109).kn hk119
    have hm128 := (hO88.lo hk109).kd hk119 (SlO.ne (g := g106) hO88)
    have hm129 := (hO92.lo hk109).kd hk119 (SlO.ne (g := g106) hO92)
    refine Wr (Q (mB rfl) <| Q (r_not rfl) <| Q (aB rfl) <| Qn (W.cond_b rfl (fun h130 => ?_) (fun h130 => ?_)))
    ·have hq131 := bnot_t h130
     refine Wr (Q (fA fa37_0 rfl) <| Q (r_lda (l := (cLb A21 n22 c23 A25 n26 c27 c.Library)) agg34 rfl (fun _ _ hu => hm124.cells (vs := (cLb A21 n22 c23 A25 n26 c27 c.Library)) rfl hu) rfl) <| Qw (o := 0) (vs := (cLb A21 n22 c23 A25 n26 c27 c.Library)) agg34.2 rfl rfl rfl rfl hb121 ler rfl ?_)
     intro w132 hk133 hs134 hb135
     have hB137 := hB123.new hk133
     refine Q (r_as (v := str ([63] : List UInt8)) rfl) <| Qn (Ws (Wr (Q (fA fa37_1 rfl) <| Q (r_lda (l := [str c.Log.Durable, str c.Log.Pending, .int .i64 c.Log.Count]) agg35 rfl (fun _ _ hu => (hm124.kn hk133).cells (vs := [str c.Log.Durable, str c.Log.Pending, .int .i64 c.Log.Count]) rfl hu) rfl) <| Q (mS rfl) <| Q (mS rfl) <| Q (r_build (vs := [(0, str s), (1, str ([63] : List UInt8))]) rfl (bld71_0_1 _ _)) <| Qv ent50 (c_impl_AppendRecord w132 c.Log (⟨s, ([63] : List UInt8)⟩ : LogRecord) (by omega) (hE.lo hB137)) rfl fun w138 hk139 hz140 => ?_)))
     have hq142 : (appN c.Log (⟨s, ([63] : List UInt8)⟩ : LogRecord)).1.Durable.length + (appN c.Log (⟨s, ([63] : List UInt8)⟩ : LogRecord)).1.Pending.length ≤ c.Log.Durable.length + c.Log.Pending.length + 406 := appN_len c.Log (⟨s, ([63] : List UInt8)⟩ : LogRecord)
     refine Q (mT rfl) <| Q (xG rfl rfl) <| Q (xI rfl rfl) <| SR.alloc (l := [str ([] : List UInt8), str ([] : List UInt8), .int .i64 0]) tz35 rfl ?_
     intro g143 w144 hg145 hk146 hs147 hb148
     refine Qw (o := 0) (vs := [str (((appN c.Log (⟨s, ([63] : List UInt8)⟩ : LogRecord)).1).Durable), str (((appN c.Log (⟨s, ([63] : List UInt8)⟩ : LogRecord)).1).Pending), .int .i64 (((appN c.Log (⟨s, ([63] : List UInt8)⟩ : LogRecord)).1).Count)]) agg35.2 rfl rfl rfl rfl hb148 ler rfl ?_
     intro w155 hk156 hs157 hb158
     refine Q (aI rfl) <| Qn (Ws (Wr (Q (lG agg34 rfl (((hb135.lo hk139).lo hk146).kn hk156) rfl) <| Q (lG agg35 rfl hb158 rfl) <| Q (r_build (vs := [(0, .agg (List.toArray (cLb A21 n22 c23 A25 n26 c27 c.Library))), (1, .agg (List.toArray [str (((appN c.Log (⟨s, ([63] : List UInt8)⟩ : LogRecord)).1).Durable), str (((appN c.Log (⟨s, ([63] : List UInt8)⟩ : LogRecord)).1).Pending), .int .i64 (((appN c.Log (⟨s, ([63] : List UInt8)⟩ : LogRecord)).1).Count)]))]) rfl (bld37_0_1 _ _ _ _ _ _ _ _)) <| Q (mS rfl) <| Qw (o := 0) (vs := [.slice A21 n22 c23, .slice A25 n26 c27, .int .i64 c.Library.Bought, .int .i64 c.Library.Dropped, .int .i64 c.Library.Mended, str (((appN c.Log (⟨s, ([63] : List UInt8)⟩ : LogRecord)).1).Durable), str (((appN c.Log (⟨s, ([63] : List UInt8)⟩ : LogRecord)).1).Pending), .int .i64 (((appN c.Log (⟨s, ([63] : List UInt8)⟩ : LogRecord)).1).Count)]) agg37.2 rfl rfl rfl rfl ((((hm127.kn hk133).lo hk139).lo hk146).kn hk156) ler rfl ?_)))
     intro w165 hk166 hs167 hb168
     refine Q (aS rfl) <| Qn (W.ret (retCT rfl rfl agg37 hb168 rfl (v := str _) rfl ?_))
     refine ⟨A21, n22, c23, A25, n26, c27, eR (eT2 (eA (eC rfl (eC rfl (eC (eI ?_) (eC (eI ?_) (eC (eI ?_) (eC (eS ?_) (eC (eS ?_) (eC (eI ?_) rfl))))))))) (eS ?_)), (SlO.eqv ((((((hm125.kd hk133 hd114).lo hk139).lo hk146).kd hk156 (SlO.ne (g := g143) ((hm125.kd hk133 hd114).lo hk139))).kn hk166).down) ?_), (SlO.eqv ((((((hm126.kd hk133 hd115).lo hk139).lo hk146).kd hk156 (SlO.ne (g := g143) ((hm126.kd hk133 hd115).lo hk139))).kn hk166).down) ?_), hd29, ((((hB137.lo hk139).lo hk146).new hk156).new hk166)⟩ <;> (rw [exec_q (c := c) (s := s) (by first | assumption | exact Classical.not_not.1 ‹_›) (by first | assumption | exact Classical.not_not.1 ‹_›) (by omega) (by assumption)]; try rfl)
    ·have hq171 := bnot_f h130
     refine Ws (Wr (Q (mS rfl) <| Q (r_len_s und9 rfl) <| Q (r_gt rfl rfl) <| Q (aB rfl) <| Qn (W.cond_d rfl (fun h172 => ?_) (fun h172 => ?_))))
     ·refine Wr (Q (r_as (v := str ([108, 111, 110, 103] : List UInt8)) rfl) <| Qn (Ws (Wr (Q (fA fa37_1 rfl) <| Q (r_lda (l := [str c.Log.Durable, str c.Log.Pending, .int .i64 c.Log.Count]) agg35 rfl (fun _ _ hu => hm124.cells (vs := [str c.Log.Durable, str c.Log.Pending, .int .i64 c.Log.Count]) rfl hu) rfl) <| Q (mS rfl) <| Q (mS rfl) <| Q (r_build (vs := [(0, str s), (1, str ([108, 111, 110, 103] : List UInt8))]) rfl (bld71_0_1 _ _)) <| Qv ent50 (c_impl_AppendRecord w118 c.Log (⟨s, ([108, 111, 110, 103] : List UInt8)⟩ : LogRecord) (by omega) (hE.lo hB123)) rfl fun w173 hk174 hz175 => ?_))))
      have hq177 : (appN c.Log (⟨s, ([108, 111, 110, 103] : List UInt8)⟩ : LogRecord)).1.Durable.length + (appN c.Log (⟨s, ([108, 111, 110, 103] : List UInt8)⟩ : LogRecord)).1.Pending.length ≤ c.Log.Durable.length + c.Log.Pending.length + 406 := appN_len c.Log (⟨s, ([108, 111, 110, 103] : List UInt8)⟩ : LogRecord)
      refine Q (mT rfl) <| Q (xG rfl rfl) <| Q (xI rfl rfl) <| SR.alloc (l := [str ([] : List UInt8), str ([] : List UInt8), .int .i64 0]) tz35 rfl ?_
      intro g178 w179 hg180 hk181 hs182 hb183
      refine Qw (o := 0) (vs := [str (((appN c.Log (⟨s, ([108, 111, 110, 103] : List UInt8)⟩ : LogRecord)).1).Durable), str (((appN c.Log (⟨s, ([108, 111, 110, 103] : List UInt8)⟩ : LogRecord)).1).Pending), .int .i64 (((appN c.Log (⟨s, ([108, 111, 110, 103] : List UInt8)⟩ : LogRecord)).1).Count)]) agg35.2 rfl rfl rfl rfl hb183 ler rfl ?_
      intro w190 hk191 hs192 hb193
      refine Q (aI rfl) <| Qn (Ws (Wr (Q (lG agg34 rfl (((hb121.lo hk174).lo hk181).kn hk191) rfl) <| Q (lG agg35 rfl hb193 rfl) <| Q (r_build (vs := [(0, .agg (List.toArray [.slice A85 n86 c87, .slice A89 n90 c91, .int .i64 (((repN c.Library s).1).Bought), .int .i64 (((repN c.Library s).1).Dropped), .int .i64 (((repN c.Library s).1).Mended)])), (1, .agg (List.toArray [str (((appN c.Log (⟨s, ([108, 111, 110, 103] : List UInt8)⟩ : LogRecord)).1).Durable), str (((appN c.Log (⟨s, ([108, 111, 110, 103] : List UInt8)⟩ : LogRecord)).1).Pending), .int .i64 (((appN c.Log (⟨s, ([108, 111, 110, 103] : List UInt8)⟩ : LogRecord)).1).Count)]))]) rfl (bld37_0_1 _ _ _ _ _ _ _ _)) <| Q (mS rfl) <| Qw (o := 0) (vs := [.slice A85 n86 c87, .slice A89 n90 c91, .int .i64 (((repN c.Library s).1).Bought), .int .i64 (((repN c.Library s).1).Dropped), .int .i64 (((repN c.Library s).1).Mended), str (((appN c.Log (⟨s, ([108, 111, 110, 103] : List UInt8)⟩ : LogRecord)).1).Durable), str (((appN c.Log (⟨s, ([108, 111, 110, 103] : List UInt8)⟩ : LogRecord)).1).Pending), .int .i64 (((appN c.Log (⟨s, ([108, 111, 110, 103] : List UInt8)⟩ : LogRecord)).1).Count)]) agg37.2 rfl rfl rfl rfl (((hm127.lo hk174).lo hk181).kn hk191) ler rfl ?_)))
      intro w200 hk201 hs202 hb203
      refine Q (aS rfl) <| Qn (W.ret (retCT rfl rfl agg37 hb203 rfl (v := str _) rfl ?_))
      refine ⟨A85, n86, c87, A89, n90, c91, eR (eT2 (eA (eC rfl (eC rfl (eC (eI ?_) (eC (eI ?_) (eC (eI ?_) (eC (eS ?_) (eC (eS ?_) (eC (eI ?_) rfl))))))))) (eS ?_)), (SlO.eqv (((((hm128.lo hk174).lo hk181).kd hk191 (SlO.ne (g := g178) (hm128.lo hk174))).kd hk201 hd99).down) ?_), (SlO.eqv (((((hm129.lo hk174).lo hk181).kd hk191 (SlO.ne (g := g178) (hm129.lo hk174))).kd hk201 hd101).down) ?_), hd93, ((((hB123.lo hk174).lo hk181).new hk191).new hk201)⟩ <;> (rw [exec_l (c := c) (s := s) (by first | assumption | exact Classical.not_not.1 ‹_›) (by first | assumption | exact Classical.not_not.1 ‹_›) (by omega) (by assumption) (by omega)]; try rfl)
     ·refine W.skip (Ws (Wr (Q (fA fa37_1 rfl) <| Q (r_lda (l := [str c.Log.Durable, str c.Log.Pending, .int .i64 c.Log.Count]) agg35 rfl (fun _ _ hu => hm124.cells (vs := [str c.Log.Durable, str c.Log.Pending, .int .i64 c.Log.Count]) rfl hu) rfl) <| Q (mS rfl) <| Q (mS rfl) <| Q (r_build (vs := [(0, str s), (1, str ((repN c.Library s).2.1))]) rfl (bld71_0_1 _ _)) <| Qv ent50 (c_impl_AppendRecord w118 c.Log (⟨s, (repN c.Library s).2.1⟩ : LogRecord) (by omega) (hE.lo hB123)) rfl fun w206 hk207 hz208 => ?_)))
      have hq210 : (appN c.Log (⟨s, (repN c.Library s).2.1⟩ : LogRecord)).1.Durable.length + (appN c.Log (⟨s, (repN c.Library s).2.1⟩ : LogRecord)).1.Pending.length ≤ c.Log.Durable.length + c.Log.Pending.length + 406 := appN_len c.Log (⟨s, (repN c.Library s).2.1⟩ : LogRecord)
      refine Q (mT rfl) <| Q (xG rfl rfl) <| Q (xI rfl rfl) <| SR.alloc (l := [str ([] : List UInt8), str ([] : List UInt8), .int .i64 0]) tz35 rfl ?_
      intro g211 w212 hg213 hk214 hs215 hb216
      refine Qw (o := 0) (vs := [str (((appN c.Log (⟨s, (repN c.Library s).2.1⟩ : LogRecord)).1).Durable), str (((appN c.Log (⟨s, (repN c.Library s).2.1⟩ : LogRecord)).1).Pending), .int .i64 (((appN c.Log (⟨s, (repN c.Library s).2.1⟩ : LogRecord)).1).Count)]) agg35.2 rfl rfl rfl rfl hb216 ler rfl ?_
      intro w223 hk224 hs225 hb226
      refine Q (aI rfl) <| Qn (Ws (Wr (Q (lG agg34 rfl (((hb121.lo hk207).lo hk214).kn hk224) rfl) <| Q (lG agg35 rfl hb226 rfl) <| Q (r_build (vs := [(0, .agg (List.toArray [.slice A85 n86 c87, .slice A89 n90 c91, .int .i64 (((repN c.Library s).1).Bought), .int .i64 (((repN c.Library s).1).Dropped), .int .i64 (((repN c.Library s).1).Mended)])), (1, .agg (List.toArray [str (((appN c.Log (⟨s, (repN c.Library s).2.1⟩ : LogRecord)).1).Durable), str (((appN c.Log (⟨s, (repN c.Library s).2.1⟩ : LogRecord)).1).Pending), .int .i64 (((appN c.Log (⟨s, (repN c.Library s).2.1⟩ : LogRecord)).1).Count)]))]) rfl (bld37_0_1 _ _ _ _ _ _ _ _)) <| Q (mS rfl) <| Qw (o := 0) (vs := [.slice A85 n86 c87, .slice A89 n90 c91, .int .i64 (((repN c.Library s).1).Bought), .int .i64 (((repN c.Library s).1).Dropped), .int .i64 (((repN c.Library s).1).Mended), str (((appN c.Log (⟨s, (repN c.Library s).2.1⟩ : LogRecord)).1).Durable), str (((appN c.Log (⟨s, (repN c.Library s).2.1⟩ : LogRecord)).1).Pending), .int .i64 (((appN c.Log (⟨s, (repN c.Library s).2.1⟩ : LogRecord)).1).Count)]) agg37.2 rfl rfl rfl rfl (((hm127.lo hk207).lo hk214).kn hk224) ler rfl ?_)))
      intro w233 hk234 hs235 hb236
      refine Q (aS rfl) <| Qn (W.ret (retCT rfl rfl agg37 hb236 rfl (v := str _) rfl ?_))
      refine ⟨A85, n86, c87, A89, n90, c91, eR (eT2 (eA (eC rfl (eC rfl (eC (eI ?_) (eC (eI ?_) (eC (eI ?_) (eC (eS ?_) (eC (eS ?_) (eC (eI ?_) rfl))))))))) (eS ?_)), (SlO.eqv (((((hm128.lo hk207).lo hk214).kd hk224 (SlO.ne (g := g211) (hm128.lo hk207))).kd hk234 hd99).down) ?_), (SlO.eqv (((((hm129.lo hk207).lo hk214).kd hk224 (SlO.ne (g := g211) (hm129.lo hk207))).kd hk234 hd101).down) ?_), hd93, ((((hB123.lo hk207).lo hk214).new hk224).new hk234)⟩ <;> (rw [exec_y (c := c) (s := s) (by first | assumption | exact Classical.not_not.1 ‹_›) (by first | assumption | exact Classical.not_not.1 ‹_›) (by omega) (by assumption) (by omega)]; try rfl)
end Go.Proofs.YtndcchndcghmoaaGreatDoor
namespace Go.Proofs.YtndcchndcghmoaaGreatDoor
open Go Go.RowKit Fw
set_option maxRecDepth 10000
set_option maxHeartbeats 2000000
set_option linter.unusedVariables false
theorem ent41 : Ent Tryz.prog 41 := en Tryz.func41
theorem ent44 : Ent Tryz.prog 44 := en Tryz.func44
theorem ent45 : Ent Tryz.prog 45 := en Tryz.func45
theorem c_spec_ExecuteCommand (w : World) (c : Console) {Ac1 : Option Addr} {nc1 cc1 Bc1 : Nat} (hc1 : SlR w Bc1 encLMap 3 Ac1 nc1 cc1 c.Library.Maps) {Ac2 : Option Addr} {nc2 cc2 Bc2 : Nat} (hc2 : SlR w Bc2 encAway 2 Ac2 nc2 cc2 c.Library.Away) (s : List UInt8) (hp0 : (c.Library.Maps.length : Int) ≤ 1048576 ∧ (c.Library.Away.length : Int) ≤ 1048576 ∧ (c.Log.Durable.length : Int) + (c.Log.Pending.length : Int) ≤ 1048576) (hp1 : (s.length : Int) ≤ 1048576) : Calls Tryz.prog 10 #[.agg (List.toArray [.slice Ac1 nc1 cc1, .slice Ac2 nc2 cc2, .int .i64 c.Library.Bought, .int .i64 c.Library.Dropped, .int .i64 c.Library.Mended, str c.Log.Durable, str c.Log.Pending, .int .i64 c.Log.Count]), str s] w fun e w' => ∃ (A1' : Option Addr) (n1' c1' : Nat) (A2' : Option Addr) (n2' c2' : Nat), e = .returned (.tuple (List.toArray [.agg (List.toArray [.slice A1' n1' c1', .slice A2' n2' c2', .int .i64 (((execN c s).1).Library.Bought), .int .i64 (((execN c s).1).Library.Dropped), .int .i64 (((execN c s).1).Library.Mended), str (((execN c s).1).Log.Durable), str (((execN c s).1).Log.Pending), .int .i64 (((execN c s).1).Log.Count)]), str ((execN c s).2)])) ∧ SlO w' w.heap.size encLMap 3 102 A1' n1' c1' (((execN c s).1).Library.Maps) ∧ SlO w' w.heap.size encAway 2 129 A2' n2' c2' (((execN c s).1).Library.Away) ∧ Dj A1' A2' ∧ Lo w w' := by
 refine calls_W 51 Tryz.func10 rfl rfl rfl ?_
 have hbdc1 := hc1.bound
 have hlec1 := hc1.len
 have hBbc1 := hc1.bd
 have hbdc2 := hc2.bound
 have hlec2 := hc2.len
 have hBbc2 := hc2.bd
 refine Ws (Wr (SR.box (v := .agg (List.toArray _)) (l := [.slice Ac1 nc1 cc1, .slice Ac2 nc2 cc2, .int .i64 c.Library.Bought, .int .i64 c.Library.Dropped, .int .i64 c.Library.Mended, str c.Log.Durable, str c.Log.Pending, .int .i64 c.Log.Count]) rfl rfl ?_))
 intro g1 w2 hg3 hk4 hs5 hb6
 refine SR.alloc (l := [.slice none 0 0, .slice none 0 0, .int .i64 0, .int .i64 0, .int .i64 0, str ([] : List UInt8), str ([] : List UInt8), .int .i64 0]) tz37 rfl ?_
 intro g9 w10 hg11 hk12 hs13 hb14
 refine Q (r_as (v := str ([] : List UInt8)) rfl) <| Qn (Ws ?_)
 have hm17 := (hc1.lo hk4).lo hk12
 have hm18 := (hc2.lo hk4).lo hk12
 refine Wr (Q (lG agg37 rfl (hb6.lo hk12) rfl) <| SR.call ent41 (c_spec_l34Own w10 c hm17 hm18 (by omega) (by omega)) rfl ?_)
 rintro e w19 ⟨A21, n22, c23, A25, n26, c27, rfl, hO24, hO28, hd29, hk20⟩
 refine ⟨_, rfl, ?_⟩
 have hz30 := hk20.size
 have hl32 := hO24.len
 have hl33 := hO24.rd.bound
 have hl34 := hO28.len
 have hl35 := hO28.rd.bound
 refine SR.alloc (l := [.slice none 0 0, .slice none 0 0, .int .i64 0, .int .i64 0, .int .i64 0, str ([] : List UInt8), str ([] : List UInt8), .int .i64 0]) tz37 rfl ?_
 intro g36 w37 hg38 hk39 hs40 hb41
 refine Qw (o := 0) (vs := [.slice A21 n22 c23, .slice A25 n26 c27, .int .i64 c.Library.Bought, .int .i64 c.Library.Dropped, .int .i64 c.Library.Mended, str c.Log.Durable, str c.Log.Pending, .int .i64 c.Log.Count]) agg37.2 rfl rfl rfl rfl hb41 ler rfl ?_
 intro w46 hk47 hs48 hb49
 refine Qn (Ws (W.block (Ws ?_)))
 have hm52 := (((hb6.lo hk12).lo hk20).lo hk39).kn hk47
 have hm55 := ((hb14.lo hk20).lo hk39).kn hk47
 have hm56 := (hO24.lo hk39).kd hk47 (SlO.ne (g := g36) hO24)
 have hm57 := (hO28.lo hk39).kd hk47 (SlO.ne (g := g36) hO28)
 refine Wr (Q (lG agg37 rfl hm52 rfl) <| Qv ent42 (c_spec_l34Good w46 c (((hm17.lo hk20).lo hk39).kn hk47) (((hm18.lo hk20).lo hk39).kn hk47) (by omega)) rfl fun w58 hk59 hz60 => ?_)
 have hB61 := ((((((Lo.refl w).lo hk4).lo hk12).lo hk20).lo hk39).new hk47).lo hk59
 refine Q (r_not rfl) <| Q (aB rfl) <| Qn (W.cond_n rfl (fun h62 => ?_) (fun h62 => ?_))
 ·refine Ws (Wr (Q (lG agg37 rfl (hb49.lo hk59) rfl) <| Qw (o := 0) (vs := [.slice A21 n22 c23, .slice A25 n26 c27, .int .i64 c.Library.Bought, .int .i64 c.Library.Dropped, .int .i64 c.Library.Mended, str c.Log.Durable, str c.Log.Pending, .int .i64 c.Log.Count]) agg37.2 rfl rfl rfl rfl (hm55.lo hk59) ler rfl ?_))
  intro w63 hk64 hs65 hb66
  refine Q (r_as (v := str ([110, 111] : List UInt8)) rfl) <| Qn (W.ret (retCT rfl rfl agg37 hb66 rfl (v := str _) rfl ?_))
  refine ⟨A21, n22, c23, A25, n26, c27, eR (eT2 (eA (eC rfl (eC rfl (eC (eI ?_) (eC (eI ?_) (eC (eI ?_) (eC (eS ?_) (eC (eS ?_) (eC (eI ?_) rfl))))))))) (eS ?_)), (SlO.eqv (((hm56.lo hk59).kn hk64).down) ?_), (SlO.eqv (((hm57.lo hk59).kn hk64).down) ?_), hd29, (hB61.new hk64)⟩ <;> (rw [exec_no ‹¬ ConOK _›]; try rfl)
 ·have hq69 := con_rng h62
  have hq70 := And.left h62
  refine Ws (Wr (Q (mS rfl) <| Q (r_build (vs := [(0, str s)]) rfl (bld71_0 _)) <| Qv ent43 (c_spec_l33Good w58 (⟨s, ([] : List UInt8)⟩ : LogRecord) (by first | omega | (dsimp only; simp only [List.length_drop]; omega) | (dsimp only; omega) | (simp only [List.length_cons, List.length_nil]; omega))) rfl fun w71 hk72 hz73 => ?_))
  have hB74 := hB61.lo hk72
  refine Q (r_not rfl) <| Q (aB rfl) <| Qn (W.cond_n rfl (fun h75 => ?_) (fun h75 => ?_))
  ·refine Ws (Wr (Q (lG agg37 rfl ((hb49.lo hk59).lo hk72) rfl) <| Qw (o := 0) (vs := [.slice A21 n22 c23, .slice A25 n26 c27, .int .i64 c.Library.Bought, .int .i64 c.Library.Dropped, .int .i64 c.Library.Mended, str c.Log.Durable, str c.Log.Pending, .int .i64 c.Log.Count]) agg37.2 rfl rfl rfl rfl ((hm55.lo hk59).lo hk72) ler rfl ?_))
   intro w83 hk84 hs85 hb86
   refine Q (r_as (v := str ([98, 97, 100] : List UInt8)) rfl) <| Qn (W.ret (retCT rfl rfl agg37 hb86 rfl (v := str _) rfl ?_))
   refine ⟨A21, n22, c23, A25, n26, c27, eR (eT2 (eA (eC rfl (eC rfl (eC (eI ?_) (eC (eI ?_) (eC (eI ?_) (eC (eS ?_) (eC (eS ?_) (eC (eI ?_) rfl))))))))) (eS ?_)), (SlO.eqv ((((hm56.lo hk59).lo hk72).kn hk84).down) ?_), (SlO.eqv ((((hm57.lo hk59).lo hk72).kn hk84).down) ?_), hd29, (hB74.new hk84)⟩ <;> (rw [exec_bad (c := c) (s := s) (by first | assumption | exact Classical.not_not.1 ‹_›) (by assumption)]; try rfl)
  ·have hq89 := rec_rngS h75
   refine Ws ?_
   have hm90 := (hm52.lo hk59).lo hk72
   have hm93 := (hm55.lo hk59).lo hk72
   have hm94 := (hb49.lo hk59).lo hk72
   have hm95 := (hm56.lo hk59).lo hk72
   have hm96 := (hm57.lo hk59).lo hk72
   refine Wr (Q (fA fa37_1 rfl) <| Q (fA fa35_2 rfl) <| Q (r_ld (v := .int .i64 c.Log.Count) sca3 rfl (hm90.cell2 rfl)) <| Q (r_eq rfl rfl) <| Q (aB rfl) <| Qn (W.cond_d rfl (fun h97 => ?_) (fun h97 => ?_)))
   ·refine Ws (Wr (Q (lG agg37 rfl hm94 rfl) <| Qw (o := 0) (vs := [.slice A21 n22 c23, .slice A25 n26 c27, .int .i64 c.Library.Bought, .int .i64 c.Library.Dropped, .int .i64 c.Library.Mended, str c.Log.Durable, str c.Log.Pending, .int .i64 c.Log.Count]) agg37.2 rfl rfl rfl rfl hm93 ler rfl ?_))
    intro w98 hk99 hs100 hb101
    refine Q (r_as (v := str ([102, 117, 108, 108] : List UInt8)) rfl) <| Qn (W.ret (retCT rfl rfl agg37 hb101 rfl (v := str _) rfl ?_))
    refine ⟨A21, n22, c23, A25, n26, c27, eR (eT2 (eA (eC rfl (eC rfl (eC (eI ?_) (eC (eI ?_) (eC (eI ?_) (eC (eS ?_) (eC (eS ?_) (eC (eI ?_) rfl))))))))) (eS ?_)), (SlO.eqv ((hm95.kn hk99).down) ?_), (SlO.eqv ((hm96.kn hk99).down) ?_), hd29, (hB74.new hk99)⟩ <;> (rw [exec_full (c := c) (s := s) (by first | assumption | exact Classical.not_not.1 ‹_›) (by first | assumption | exact Classical.not_not.1 ‹_›) (by omega)]; try rfl)
   ·refine W.skip (Ws (Wr (Q (lG agg37 rfl hm94 rfl) <| Q (mS rfl) <| SR.call ent44 (c_spec_l34Run w71 c hm95 hm96 s hd29 (by omega) (by omega) (by assumption) (by omega)) rfl ?_)))
    rintro e w104 ⟨A106, n107, c108, A110, n111, c112, rfl, hO109, hO113, hd114, hN115, hN116, hk105⟩
    refine ⟨_, rfl, ?_⟩
    have hz117 := hk105.size
    have hl125 := hO109.len
    have hl126 := hO109.rd.bound
    have hq127 := (run_len (s := s) ‹LibOK c.Library›).1
    have hl128 := hO113.len
    have hl129 := hO113.rd.bound
    have hq130 := (run_len (s := s) ‹LibOK c.Library›).2
    refine Q (mT rfl) <| Q (xG rfl rfl) <| Q (xS rfl rfl) <| SR.alloc (l := [.slice none 0 0, .slice none 0 0, .int .i64 0, .int .i64 0, .int .i64 0, str ([] : List UInt8), str ([] : List UInt8), .int .i64 0]) tz37 rfl ?_
    intro g131 w132 hg133 hk134 hs135 hb136
    refine Qw (o := 0) (vs := [.slice A106 n107 c108, .slice A110 n111 c112, .int .i64 (((runS c s).1).Library.Bought), .int .i64 (((runS c s).1).Library.Dropped), .int .i64 (((runS c s).1).Library.Mended), str (((runS c s).1).Log.Durable), str (((runS c s).1).Log.Pending), .int .i64 (((runS c s).1).Log.Count)]) agg37.2 rfl rfl rfl rfl hb136 ler rfl ?_
    intro w143 hk144 hs145 hb146
    refine Q (aS rfl) <| Qn (Ws (Wr (Q (lG agg37 rfl hb146 rfl) <| SR.call ent41 (c_spec_l34Own w143 ((runS c s).1) (((hO109.lo hk134).kd hk144 (SlO.ne (g := g131) hO109)).rd) (((hO113.lo hk134).kd hk144 (SlO.ne (g := g131) hO113)).rd) (by omega) (by omega)) rfl ?_)))
    rintro e w158 ⟨A160, n161, c162, A164, n165, c166, rfl, hO163, hO167, hd168, hk159⟩
    refine ⟨_, rfl, ?_⟩
    have hz169 := hk159.size
    have hl171 := hO163.len
    have hl172 := hO163.rd.bound
    have hq173 := (run_len (s := s) ‹LibOK c.Library›).1
    have hl174 := hO167.len
    have hl175 := hO167.rd.bound
    have hq176 := (run_len (s := s) ‹LibOK c.Library›).2
    refine Qw (o := 0) (vs := [.slice A160 n161 c162, .slice A164 n165 c166, .int .i64 (((runS c s).1).Library.Bought), .int .i64 (((runS c s).1).Library.Dropped), .int .i64 (((runS c s).1).Library.Mended), str (((runS c s).1).Log.Durable), str (((runS c s).1).Log.Pending), .int .i64 (((runS c s).1).Log.Count)]) agg37.2 rfl rfl rfl rfl ((((hm94.lo hk105).lo hk134).kn hk144).lo hk159) ler rfl ?_
    intro w177 hk178 hs179 hb180
    have hB182 := ((((hB74.lo hk105).lo hk134).new hk144).lo hk159).new hk178
    refine Qn (Ws (Ws ?_))
    have hm183 := ((((hm90.lo hk105).lo hk134).kn hk144).lo hk159).kn hk178
    have hm186 := ((((hm93.lo hk105).lo hk134).kn hk144).lo hk159).kn hk178
    refine Wr (Q (mS rfl) <| Q (r_len_s und9 rfl) <| Q (r_gt rfl rfl) <| Qn (W.cond_d rfl (fun h187 => ?_) (fun h187 => ?_)))
    ·refine Wr (Q (r_as (v := str ([108, 111, 110, 103] : List UInt8)) rfl) <| Qn (Ws (Wr (Q (fA fa37_1 rfl) <| Q (r_lda (l := [str c.Log.Durable, str c.Log.Pending, .int .i64 c.Log.Count]) agg35 rfl (fun _ _ hu => hm183.cells (vs := [str c.Log.Durable, str c.Log.Pending, .int .i64 c.Log.Count]) rfl hu) rfl) <| Q (mS rfl) <| Q (mS rfl) <| Q (r_build (vs := [(0, str s), (1, str ([108, 111, 110, 103] : List UInt8))]) rfl (bld71_0_1 _ _)) <| Qv ent45 (c_spec_AppendRecord w177 c.Log (⟨s, ([108, 111, 110, 103] : List UInt8)⟩ : LogRecord) (by omega) (by first | omega | (dsimp only; omega) | (simp only [List.length_cons, List.length_nil]; omega))) rfl fun w188 hk189 hz190 => ?_))))
     have hq192 : (appN c.Log (⟨s, ([108, 111, 110, 103] : List UInt8)⟩ : LogRecord)).1.Durable.length + (appN c.Log (⟨s, ([108, 111, 110, 103] : List UInt8)⟩ : LogRecord)).1.Pending.length ≤ c.Log.Durable.length + c.Log.Pending.length + 406 := appN_len c.Log (⟨s, ([108, 111, 110, 103] : List UInt8)⟩ : LogRecord)
     refine Q (mT rfl) <| Q (xG rfl rfl) <| Q (xI rfl rfl) <| Q (fA fa37_1 rfl) <| Qw (o := 5) (vs := [str (((appN c.Log (⟨s, ([108, 111, 110, 103] : List UInt8)⟩ : LogRecord)).1).Durable), str (((appN c.Log (⟨s, ([108, 111, 110, 103] : List UInt8)⟩ : LogRecord)).1).Pending), .int .i64 (((appN c.Log (⟨s, ([108, 111, 110, 103] : List UInt8)⟩ : LogRecord)).1).Count)]) agg35.2 rfl rfl rfl rfl (hb180.lo hk189) ler rfl ?_
     intro w193 hk194 hs195 hb196
     refine Qn (Ws (Wr (Q (lG agg37 rfl hb196 rfl) <| Q (mS rfl) <| Qw (o := 0) (vs := [.slice A160 n161 c162, .slice A164 n165 c166, .int .i64 (((runS c s).1).Library.Bought), .int .i64 (((runS c s).1).Library.Dropped), .int .i64 (((runS c s).1).Library.Mended), str (((appN c.Log (⟨s, ([108, 111, 110, 103] : List UInt8)⟩ : LogRecord)).1).Durable), str (((appN c.Log (⟨s, ([108, 111, 110, 103] : List UInt8)⟩ : LogRecord)).1).Pending), .int .i64 (((appN c.Log (⟨s, ([108, 111, 110, 103] : List UInt8)⟩ : LogRecord)).1).Count)]) agg37.2 rfl rfl rfl rfl ((hm186.lo hk189).kn hk194) ler rfl ?_)))
     intro w202 hk203 hs204 hb205
     refine Q (aS rfl) <| Qn (W.ret (retCT rfl rfl agg37 hb205 rfl (v := str _) rfl ?_))
     refine ⟨A160, n161, c162, A164, n165, c166, eR (eT2 (eA (eC rfl (eC rfl (eC (eI ?_) (eC (eI ?_) (eC (eI ?_) (eC (eS ?_) (eC (eS ?_) (eC (eI ?_) rfl))))))))) (eS ?_)), (SlO.eqv (((((hO163.kn hk178).lo hk189).kn hk194).kn hk203).down) ?_), (SlO.eqv (((((hO167.kn hk178).lo hk189).kn hk194).kn hk203).down) ?_), hd168, (((hB182.lo hk189).new hk194).new hk203)⟩ <;> (rw [exec_Sl (c := c) (s := s) (by first | assumption | exact Classical.not_not.1 ‹_›) (by first | assumption | exact Classical.not_not.1 ‹_›) (by omega) (by omega)]; try rfl)
    ·refine W.skip (Ws (Wr (Q (fA fa37_1 rfl) <| Q (r_lda (l := [str c.Log.Durable, str c.Log.Pending, .int .i64 c.Log.Count]) agg35 rfl (fun _ _ hu => hm183.cells (vs := [str c.Log.Durable, str c.Log.Pending, .int .i64 c.Log.Count]) rfl hu) rfl) <| Q (mS rfl) <| Q (mS rfl) <| Q (r_build (vs := [(0, str s), (1, str ((runS c s).2))]) rfl (bld71_0_1 _ _)) <| Qv ent45 (c_spec_AppendRecord w177 c.Log (⟨s, (runS c s).2⟩ : LogRecord) (by omega) (by first | omega | (dsimp only; omega) | (simp only [List.length_cons, List.length_nil]; omega))) rfl fun w208 hk209 hz210 => ?_)))
     have hq212 : (appN c.Log (⟨s, (runS c s).2⟩ : LogRecord)).1.Durable.length + (appN c.Log (⟨s, (runS c s).2⟩ : LogRecord)).1.Pending.length ≤ c.Log.Durable.length + c.Log.Pending.length + 406 := appN_len c.Log (⟨s, (runS c s).2⟩ : LogRecord)
     refine Q (mT rfl) <| Q (xG rfl rfl) <| Q (xI rfl rfl) <| Q (fA fa37_1 rfl) <| Qw (o := 5) (vs := [str (((appN c.Log (⟨s, (runS c s).2⟩ : LogRecord)).1).Durable), str (((appN c.Log (⟨s, (runS c s).2⟩ : LogRecord)).1).Pending), .int .i64 (((appN c.Log (⟨s, (runS c s).2⟩ : LogRecord)).1).Count)]) agg35.2 rfl rfl rfl rfl (hb180.lo hk209) ler rfl ?_
     intro w213 hk214 hs215 hb216
     refine Qn (Ws (Wr (Q (lG agg37 rfl hb216 rfl) <| Q (mS rfl) <| Qw (o := 0) (vs := [.slice A160 n161 c162, .slice A164 n165 c166, .int .i64 (((runS c s).1).Library.Bought), .int .i64 (((runS c s).1).Library.Dropped), .int .i64 (((runS c s).1).Library.Mended), str (((appN c.Log (⟨s, (runS c s).2⟩ : LogRecord)).1).Durable), str (((appN c.Log (⟨s, (runS c s).2⟩ : LogRecord)).1).Pending), .int .i64 (((appN c.Log (⟨s, (runS c s).2⟩ : LogRecord)).1).Count)]) agg37.2 rfl rfl rfl rfl ((hm186.lo hk209).kn hk214) ler rfl ?_)))
     intro w222 hk223 hs224 hb225
     refine Q (aS rfl) <| Qn (W.ret (retCT rfl rfl agg37 hb225 rfl (v := str _) rfl ?_))
     refine ⟨A160, n161, c162, A164, n165, c166, eR (eT2 (eA (eC rfl (eC rfl (eC (eI ?_) (eC (eI ?_) (eC (eI ?_) (eC (eS ?_) (eC (eS ?_) (eC (eI ?_) rfl))))))))) (eS ?_)), (SlO.eqv (((((hO163.kn hk178).lo hk209).kn hk214).kn hk223).down) ?_), (SlO.eqv (((((hO167.kn hk178).lo hk209).kn hk214).kn hk223).down) ?_), hd168, (((hB182.lo hk209).new hk214).new hk223)⟩ <;> (rw [exec_Sy (c := c) (s := s) (by first | assumption | exact Classical.not_not.1 ‹_›) (by first | assumption | exact Classical.not_not.1 ‹_›) (by omega) (by omega)]; try rfl)
end Go.Proofs.YtndcchndcghmoaaGreatDoor
namespace Go.Proofs.YtndcchndcghmoaaGreatDoor
open Go Go.RowKit Fw
set_option maxRecDepth 10000
set_option maxHeartbeats 2000000
set_option linter.unusedVariables false
theorem ent10 : Ent Tryz.prog 10 := en Tryz.func10
theorem ent12 : Ent Tryz.prog 12 := en Tryz.func12
theorem c_impl_RunScript (w : World) (c : Console) {Ac1 : Option Addr} {nc1 cc1 Bc1 : Nat} (hc1 : SlR w Bc1 encLMap 3 Ac1 nc1 cc1 c.Library.Maps) {Ac2 : Option Addr} {nc2 cc2 Bc2 : Nat} (hc2 : SlR w Bc2 encAway 2 Ac2 nc2 cc2 c.Library.Away) (s : List UInt8) (hp0 : (c.Library.Maps.length : Int) ≤ 1048576 ∧ (c.Library.Away.length : Int) ≤ 1048576 ∧ (c.Log.Durable.length : Int) + (c.Log.Pending.length : Int) ≤ 1048576) (hp1 : (s.length : Int) ≤ 1048576) (hE : EnvW w) : Calls Tryz.prog 17 #[.agg (List.toArray [.slice Ac1 nc1 cc1, .slice Ac2 nc2 cc2, .int .i64 c.Library.Bought, .int .i64 c.Library.Dropped, .int .i64 c.Library.Mended, str c.Log.Durable, str c.Log.Pending, .int .i64 c.Log.Count]), str s] w fun e w' => ∃ (A1' : Option Addr) (n1' c1' : Nat), e = .returned (.tuple (List.toArray [.slice A1' n1' c1', .bool ((scrN c s).2)])) ∧ SlO w' w.heap.size encS 1 9 A1' n1' c1' ((scrN c s).1) ∧ Lo w w' := by
 refine calls_W 46 Tryz.func17 rfl rfl rfl ?_
 have hbdc1 := hc1.bound
 have hlec1 := hc1.len
 have hBbc1 := hc1.bd
 have hbdc2 := hc2.bound
 have hlec2 := hc2.len
 have hBbc2 := hc2.bd
 refine Ws (Wr (SR.box (v := .agg (List.toArray _)) (l := [.slice Ac1 nc1 cc1, .slice Ac2 nc2 cc2, .int .i64 c.Library.Bought, .int .i64 c.Library.Dropped, .int .i64 c.Library.Mended, str c.Log.Durable, str c.Log.Pending, .int .i64 c.Log.Count]) rfl rfl ?_))
 intro g1 w2 hg3 hk4 hs5 hb6
 have hB8 := (Lo.refl w).lo hk4
 refine Q (r_as (v := .slice none 0 0) rfl) <| Q (aB rfl) <| Qn (Ws (Wr (Q (mS rfl) <| SR.call ent56 (c_strings_Split1 w2 s ([10] : List UInt8) (by omega) rfl (hE.lo hB8)) rfl ?_)))
 rintro e w9 ⟨A11, n12, c13, rfl, hO14, hk10⟩
 refine ⟨_, rfl, ?_⟩
 have hz15 := hk10.size
 have hB16 := hB8.lo hk10
 have hl17 := hO14.len
 have hl18 := hO14.rd.bound
 have hq19 := splitB_len (10 : UInt8) s
 refine Q (aL rfl) <| Qn (Ws (Ws ?_))
 have hm20 := (hc1.lo hk4).lo hk10
 have hm21 := (hc2.lo hk4).lo hk10
 refine W.regJS (fun f' w' => At f' [(2, .pointer (pA g1)), (4, .slice none 0 0), (5, .bool false), (6, .slice A11 n12 c13), (26, .bool (decide ((¬ (ConOK c)) ∨ ((30 < (n12 : Int)) ∨ (4000 < (s.length : Int))))))] ∧ Lo w9 w') ?_ ?_
 ·refine Q (lG agg37 rfl (hb6.lo hk10) rfl) <| Qv ent35 (c_impl_IsValidConsole w9 c hm20 hm21 (by omega) (hE.lo hB16)) rfl fun w22 hk23 hz24 => (Q (r_not rfl) <| Q (mB rfl) <| SR.splitN (fun h26 => ?_) (fun h26 => ?_))
  ·refine Qs rfl <| Qs rfl <| Qs rfl <| Q (r_pick true rfl (v := .bool true) rfl) <| Q (mB rfl) <| Qs rfl <| Qs rfl <| Qs rfl <| Q (r_pick true rfl (v := .bool true) rfl) <| Qn (⟨_, rfl, ⟨⟨rfl, rfl, rfl, rfl, (eDT ((jmf h26).1 trivial)), trivial⟩, hk23⟩⟩)
  ·have hq27 := con_rng h26
   have hq28 := And.left h26
   refine Qg rfl (mL rfl) <| Qg rfl (r_len und44 rfl) <| Qg rfl (r_gt rfl rfl) <| Q (r_pick false rfl (v := .bool _) rfl) <| Q (mB rfl) <| SR.splitD (fun h29 => ?_) (fun h29 => ?_)
   ·refine Qs rfl <| Qs rfl <| Qs rfl <| Q (r_pick true rfl (v := .bool true) rfl) <| Qn (⟨_, rfl, ⟨⟨rfl, rfl, rfl, rfl, (eDT (((jot h29).trans (jmt h26)).1 trivial)), trivial⟩, hk23⟩⟩)
   ·refine Qg rfl (mS rfl) <| Qg rfl (r_len_s und9 rfl) <| Qg rfl (r_gt rfl rfl) <| Q (r_pick false rfl (v := .bool _) rfl) <| Qn (⟨_, rfl, ⟨⟨rfl, rfl, rfl, rfl, (eDD ((jof h29).trans (jmt h26))), trivial⟩, hk23⟩⟩)
 rintro f30 w31 ⟨hat32, hk33⟩
 rw [← sets_of_at hat32]
 have hz34 := hk33.size
 have hB35 := hB16.lo hk33
 refine W.cond_d rfl (fun h36 => ?_) (fun h36 => ?_)
 ·refine Ws (Wr (Q (r_as (v := .slice none 0 0) rfl) <| Q (aB rfl) <| Qn (W.ret (ret2 rfl (v := .slice none 0 0) (v' := .bool _) rfl rfl ?_))))
  refine ⟨none, 0, 0, eR (eT2 rfl (eB ?_)), (SlO.eqv (SlO.nil (e := 9) (enc := encS) (fun _ => rfl) (by omega)) ?_), hB35⟩ <;> (rw [scr_noI (by assumption) (by assumption)]; try rfl)
 ·have hq38 : ConOK c := (Classical.not_not.1 (not_or.1 h36).1)
  have hq39 : ¬ (30 < (n12 : Int)) := (not_or.1 (not_or.1 h36).2).1
  have hq40 : ¬ (4000 < (s.length : Int)) := (not_or.1 (not_or.1 h36).2).2
  have hq41 := con_rng hq38
  have hq42 := And.left hq38
  refine W.skip (Ws (Wr (Q (r_as (v := .slice none 0 0) rfl) <| Qn (Ws (Ws (Wr (Q (mL rfl) <| Q (r_len und44 rfl) <| Q (r_mv (v := .int .i64 0) rfl) <| Qn (W.block (W.loop (σ := Nat × Console × (List (List UInt8)) × (Option Addr) × Nat × Nat × (Option Addr) × Nat × Nat × (Option Addr) × Nat × Nat) (fun g => [(2, .pointer (pA g1)), (4, .slice none 0 0), (5, .bool false), (7, .slice g.2.2.2.1 g.2.2.2.2.1 g.2.2.2.2.2.1), (27, .slice A11 n12 c13), (28, .int .i64 (n12 : Int)), (29, .int .i64 (g.1 : Int))]) (fun g w' => (Lo w w') ∧ (Blk w' g1 37 [.slice g.2.2.2.2.2.2.1 g.2.2.2.2.2.2.2.1 g.2.2.2.2.2.2.2.2.1, .slice g.2.2.2.2.2.2.2.2.2.1 g.2.2.2.2.2.2.2.2.2.2.1 g.2.2.2.2.2.2.2.2.2.2.2, .int .i64 g.2.1.Library.Bought, .int .i64 g.2.1.Library.Dropped, .int .i64 g.2.1.Library.Mended, str g.2.1.Log.Durable, str g.2.1.Log.Pending, .int .i64 g.2.1.Log.Count]) ∧ (SlO w' w2.heap.size encS 1 9 A11 n12 c13 (splitB (10 : UInt8) s)) ∧ (SlO w' w.heap.size encS 1 9 g.2.2.2.1 g.2.2.2.2.1 g.2.2.2.2.2.1 g.2.2.1) ∧ (SlR w' w'.heap.size encLMap 3 g.2.2.2.2.2.2.1 g.2.2.2.2.2.2.2.1 g.2.2.2.2.2.2.2.2.1 g.2.1.Library.Maps) ∧ (SlR w' w'.heap.size encAway 2 g.2.2.2.2.2.2.2.2.2.1 g.2.2.2.2.2.2.2.2.2.2.1 g.2.2.2.2.2.2.2.2.2.2.2 g.2.1.Library.Away) ∧ (¬ g.2.2.2.1 = some ⟨g1, 0, none⟩) ∧ (∀ b_, g.2.2.2.1 = some ⟨b_, 0, none⟩ → ¬ A11 = some ⟨b_, 0, none⟩) ∧ (g.1 ≤ (splitB (10 : UInt8) s).length ∧ STo c (splitB (10 : UInt8) s) g.2.1 g.2.2.1 g.1)) (fun g => (splitB (10 : UInt8) s).length - g.1) (0, c, ([] : List (List UInt8)), (none : Option Addr), 0, 0, Ac1, nc1, cc1, Ac2, nc2, cc2) ?_ ?_ ?_)))))))))
  ·exact (At.r rfl)
  ·show (Lo w w31) ∧ (Blk w31 g1 37 [.slice Ac1 nc1 cc1, .slice Ac2 nc2 cc2, .int .i64 c.Library.Bought, .int .i64 c.Library.Dropped, .int .i64 c.Library.Mended, str c.Log.Durable, str c.Log.Pending, .int .i64 c.Log.Count]) ∧ (SlO w31 w2.heap.size encS 1 9 A11 n12 c13 (splitB (10 : UInt8) s)) ∧ (SlO w31 w.heap.size encS 1 9 (none : Option Addr) 0 0 ([] : List (List UInt8))) ∧ (SlR w31 w31.heap.size encLMap 3 Ac1 nc1 cc1 c.Library.Maps) ∧ (SlR w31 w31.heap.size encAway 2 Ac2 nc2 cc2 c.Library.Away) ∧ (¬ (none : Option Addr) = some ⟨g1, 0, none⟩) ∧ (∀ b_, (none : Option Addr) = some ⟨b_, 0, none⟩ → ¬ A11 = some ⟨b_, 0, none⟩) ∧ (0 ≤ (splitB (10 : UInt8) s).length ∧ STo c (splitB (10 : UInt8) s) c ([] : List (List UInt8)) 0)
   exact ⟨hB35, ((hb6.lo hk10).lo hk33), hO14.lo hk33, (SlO.eqv (SlO.nil (base := w.heap.size) (e := 9) (enc := encS) (fun _ => rfl) (by omega)) (by rfl)), ((hm20.lo hk33).top), ((hm21.lo hk33).top), (fun e => by cases e), (fun b_ h => by cases h), (by (try dsimp only); exact ⟨Nat.zero_le _, STo.zero (scr_okI (s := s) (by assumption) (by assumption)).1⟩)⟩
  ·rintro ⟨k, o, R, A44, n44, c44, A45, n45, c45, A46, n46, c46⟩ f47 w48 hP50
   obtain ⟨hB49, hm51, hm52, hO53, hO54, hO55, hd57, hd58, hi56⟩ : (Lo w w48) ∧ (Blk w48 g1 37 [.slice A45 n45 c45, .slice A46 n46 c46, .int .i64 o.Library.Bought, .int .i64 o.Library.Dropped, .int .i64 o.Library.Mended, str o.Log.Durable, str o.Log.Pending, .int .i64 o.Log.Count]) ∧ (SlO w48 w2.heap.size encS 1 9 A11 n12 c13 (splitB (10 : UInt8) s)) ∧ (SlO w48 w.heap.size encS 1 9 A44 n44 c44 R) ∧ (SlR w48 w48.heap.size encLMap 3 A45 n45 c45 o.Library.Maps) ∧ (SlR w48 w48.heap.size encAway 2 A46 n46 c46 o.Library.Away) ∧ (¬ A44 = some ⟨g1, 0, none⟩) ∧ Dj A44 A11 ∧ (k ≤ (splitB (10 : UInt8) s).length ∧ STo c (splitB (10 : UInt8) s) o R k) := hP50
   refine (?_ : W _ _ _ _ _ (act _ (sets f47 [(2, .pointer (pA g1)), (4, .slice none 0 0), (5, .bool false), (7, .slice A44 n44 c44), (27, .slice A11 n12 c13), (28, .int .i64 (n12 : Int)), (29, .int .i64 (k : Int))])) _)
   have hzw48 := hB49.size
   have hl59 := hm51.lt
   have hl60 := hO53.len
   have hl61 := hO53.rd.bound
   have hl62 := hO54.len
   have hl63 := hO54.bound
   have hl64 := hO55.len
   have hl65 := hO55.bound
   have hq66 : k ≤ (splitB (10 : UInt8) s).length := hi56.1
   have hq67 : R.length = k := hi56.2.1
   have hq68 : (o.Library.Maps.length ≤ 1048576 ∧ o.Library.Away.length ≤ 1048576) ∧ o.Log.Durable.length + o.Log.Pending.length ≤ 24360 + 406 * k := hi56.2.2.2
   have hq69 : (splitB (10 : UInt8) s).length ≤ 30 ∧ s.length ≤ 4000 := (scr_ok2 (scr_okI (s := s) (by assumption) (by assumption)))
   refine Ws (Wr (Q (r_lt rfl rfl) <| Qn (Ws (W.cond_d rfl (fun h70 => ?_) (fun h70 => ?_)))))
   ·refine W.skip (Ws (W.block (Ws ?_)))
    have hx72 := (hm52.rd).elem (i := k) (by omega)
    have hq73 := splitB_el hx72
    refine Wr (Q (r_ixR tsl44 (hm52.rd) rfl rfl (by omega)) <| Q (r_ld (v := str (gt (splitB (10 : UInt8) s) k)) sca9 rfl ((hm52.rd).cell0 hx72 rfl)) <| Q (aS rfl) <| Qn (Ws (Wr (Q (lG agg37 rfl hm51 rfl) <| Q (mS rfl) <| SR.call ent12 (c_impl_ExecuteCommand w48 o hO54 hO55 (gt (splitB (10 : UInt8) s) k) (by omega) (by omega) (hE.lo hB49)) rfl ?_))))
    rintro e w74 ⟨A76, n77, c78, A80, n81, c82, rfl, hO79, hO83, hd84, hk75⟩
    refine ⟨_, rfl, ?_⟩
    have hz85 := hk75.size
    have hl87 := hO79.len
    have hl88 := hO79.rd.bound
    have hl89 := hO83.len
    have hl90 := hO83.rd.bound
    refine Q (mT rfl) <| Q (xG rfl rfl) <| Q (xS rfl rfl) <| SR.alloc (l := [.slice none 0 0, .slice none 0 0, .int .i64 0, .int .i64 0, .int .i64 0, str ([] : List UInt8), str ([] : List UInt8), .int .i64 0]) tz37 rfl ?_
    intro g91 w92 hg93 hk94 hs95 hb96
    refine Qw (o := 0) (vs := [.slice A76 n77 c78, .slice A80 n81 c82, .int .i64 (((execN o (gt (splitB (10 : UInt8) s) k)).1).Library.Bought), .int .i64 (((execN o (gt (splitB (10 : UInt8) s) k)).1).Library.Dropped), .int .i64 (((execN o (gt (splitB (10 : UInt8) s) k)).1).Library.Mended), str (((execN o (gt (splitB (10 : UInt8) s) k)).1).Log.Durable), str (((execN o (gt (splitB (10 : UInt8) s) k)).1).Log.Pending), .int .i64 (((execN o (gt (splitB (10 : UInt8) s) k)).1).Log.Count)]) agg37.2 rfl rfl rfl rfl hb96 ler rfl ?_
    intro w103 hk104 hs105 hb106
    refine Q (aS rfl) <| Qn (Ws ?_)
    have hm112 := ((hO53.lo hk75).lo hk94).kd hk104 (SlO.ne (g := g91) (hO53.lo hk75))
    have hm113 := (hO79.lo hk94).kd hk104 (SlO.ne (g := g91) hO79)
    have hm114 := (hO83.lo hk94).kd hk104 (SlO.ne (g := g91) hO83)
    have hm115 := ((hm52.lo hk75).lo hk94).kd hk104 (SlO.ne (g := g91) (hm52.lo hk75))
    refine Wr (Q (lG agg37 rfl hb106 rfl) <| Qw (o := 0) (vs := [.slice A76 n77 c78, .slice A80 n81 c82, .int .i64 (((execN o (gt (splitB (10 : UInt8) s) k)).1).Library.Bought), .int .i64 (((execN o (gt (splitB (10 : UInt8) s) k)).1).Library.Dropped), .int .i64 (((execN o (gt (splitB (10 : UInt8) s) k)).1).Library.Mended), str (((execN o (gt (splitB (10 : UInt8) s) k)).1).Log.Durable), str (((execN o (gt (splitB (10 : UInt8) s) k)).1).Log.Pending), .int .i64 (((execN o (gt (splitB (10 : UInt8) s) k)).1).Log.Count)]) agg37.2 rfl rfl rfl rfl (((hm51.lo hk75).lo hk94).kn hk104) ler rfl ?_)
    intro w116 hk117 hs118 hb119
    refine Qn (Wr (Q (mL rfl) <| Q (mS rfl) <| SR.lit (vs := [str ((execN o (gt (splitB (10 : UInt8) s) k)).2)]) (L := ([(execN o (gt (splitB (10 : UInt8) s) k)).2] : List (List UInt8))) (enc := encS) tel44 (fun _ => rfl) rfl rfl rfl (by decide) ?_))
    intro g122 w123 hg124 hk125 hO126
    have hz127 := hk125.size
    refine SR.app tel44 rfl rfl ((hm112.kd hk117 hd57).lo hk125) (hO126.rd) (fun _ => rfl) (by omega) (by omega) ?_
    intro A133 c134 w135 hk136 hO137 hN138
    have hz139 := hk136.size
    have hd141 : ¬ A133 = some ⟨g1, 0, none⟩ := fun e' => (hN138 g1 e').elim (fun h => hd57 (h.trans e')) (fun h => by have := (hb119.lo hk125).lt; omega)
    have hd142 : Dj A133 A11 := fun b_ e' h' => (hN138 b_ e').elim (fun h => hd58 b_ (h.trans e') h') (fun h => by have := ((hm115.kn hk117).lo hk125).base_le h'; omega)
    refine Q (aL rfl) <| Qn ?_
    have hm148 := ((hm113.kn hk117).lo hk125).kp hk136 (fun b_ hb e' => by have h1 := ((hm112.kd hk117 hd57).lo hk125).base_le e'; have h2 := ((hm113.kn hk117).lo hk125).base_le hb; have h4 := hO53.base_le e'; omega)
    have hm149 := ((hm114.kn hk117).lo hk125).kp hk136 (fun b_ hb e' => by have h1 := ((hm112.kd hk117 hd57).lo hk125).base_le e'; have h2 := ((hm114.kn hk117).lo hk125).base_le hb; have h4 := hO53.base_le e'; omega)
    refine Wr (Q (r_add rfl rfl (by omega)) <| Q (mI rfl) <| Qn (⟨(k + 1, ((execN o (gt (splitB (10 : UInt8) s) k)).1), R ++ ([(execN o (gt (splitB (10 : UInt8) s) k)).2] : List (List UInt8)), A133, n44 + 1, c134, A76, n77, c78, A80, n81, c82), _, rfl, (At.r rfl), (show (Lo w w135) ∧ (Blk w135 g1 37 [.slice A76 n77 c78, .slice A80 n81 c82, .int .i64 (((execN o (gt (splitB (10 : UInt8) s) k)).1).Library.Bought), .int .i64 (((execN o (gt (splitB (10 : UInt8) s) k)).1).Library.Dropped), .int .i64 (((execN o (gt (splitB (10 : UInt8) s) k)).1).Library.Mended), str (((execN o (gt (splitB (10 : UInt8) s) k)).1).Log.Durable), str (((execN o (gt (splitB (10 : UInt8) s) k)).1).Log.Pending), .int .i64 (((execN o (gt (splitB (10 : UInt8) s) k)).1).Log.Count)]) ∧ (SlO w135 w2.heap.size encS 1 9 A11 n12 c13 (splitB (10 : UInt8) s)) ∧ (SlO w135 w.heap.size encS 1 9 A133 (n44 + 1) c134 (R ++ ([(execN o (gt (splitB (10 : UInt8) s) k)).2] : List (List UInt8)))) ∧ (SlR w135 w135.heap.size encLMap 3 A76 n77 c78 (((execN o (gt (splitB (10 : UInt8) s) k)).1).Library.Maps)) ∧ (SlR w135 w135.heap.size encAway 2 A80 n81 c82 (((execN o (gt (splitB (10 : UInt8) s) k)).1).Library.Away)) ∧ (¬ A133 = some ⟨g1, 0, none⟩) ∧ Dj A133 A11 ∧ (k + 1 ≤ (splitB (10 : UInt8) s).length ∧ STo c (splitB (10 : UInt8) s) ((execN o (gt (splitB (10 : UInt8) s) k)).1) (R ++ ([(execN o (gt (splitB (10 : UInt8) s) k)).2] : List (List UInt8))) (k + 1)) from ⟨((((((hB49.lo hk75).lo hk94).new hk104).new hk117).lo hk125).step hk136 (fun i_ hi_ e' => by have := ((hm112.kd hk117 hd57).lo hk125).base_le e'; first | omega | exact e' | exact .inl e' | exact .inr e')), ((hb119.lo hk125).kp hk136 (fun e' => hd57 e')), (((hm115.kn hk117).lo hk125).kp hk136 (fun b_ hb e' => hd58 b_ e' hb)), hO137, (hm148.rd), (hm149.rd), hd141, hd142, ?_⟩), ?_⟩))
    ·exact (by (try dsimp only); exact ⟨by omega, (And.right ‹_ ∧ STo _ _ _ _ _›).next ‹_[_]? = some _›⟩)
    ·exact (by (try dsimp only); omega)
   ·refine W.exit (xin_here (Ws (Wr (Q (mL rfl) <| Q (aL rfl) <| Q (aB rfl) <| Qn (W.ret (ret2 rfl (v := .slice _ _ _) (v' := .bool _) rfl rfl ?_))))))
    refine ⟨A44, n44, c44, eR (eT2 rfl (eB ?_)), (SlO.eqv (hO53.down) ?_), hB49⟩ <;> (rw [(And.right ‹_ ∧ STo _ _ _ _ _›).all (by omega) (scr_okI (by assumption) (by assumption))]; try rfl)
theorem c_spec_RunScript (w : World) (c : Console) {Ac1 : Option Addr} {nc1 cc1 Bc1 : Nat} (hc1 : SlR w Bc1 encLMap 3 Ac1 nc1 cc1 c.Library.Maps) {Ac2 : Option Addr} {nc2 cc2 Bc2 : Nat} (hc2 : SlR w Bc2 encAway 2 Ac2 nc2 cc2 c.Library.Away) (s : List UInt8) (hp0 : (c.Library.Maps.length : Int) ≤ 1048576 ∧ (c.Library.Away.length : Int) ≤ 1048576 ∧ (c.Log.Durable.length : Int) + (c.Log.Pending.length : Int) ≤ 1048576) (hp1 : (s.length : Int) ≤ 1048576) : Calls Tryz.prog 16 #[.agg (List.toArray [.slice Ac1 nc1 cc1, .slice Ac2 nc2 cc2, .int .i64 c.Library.Bought, .int .i64 c.Library.Dropped, .int .i64 c.Library.Mended, str c.Log.Durable, str c.Log.Pending, .int .i64 c.Log.Count]), str s] w fun e w' => ∃ (A1' : Option Addr) (n1' c1' : Nat), e = .returned (.tuple (List.toArray [.slice A1' n1' c1', .bool ((scrN c s).2)])) ∧ SlO w' w.heap.size encS 1 9 A1' n1' c1' ((scrN c s).1) ∧ Lo w w' := by
 refine calls_W 47 Tryz.func16 rfl rfl rfl ?_
 have hbdc1 := hc1.bound
 have hlec1 := hc1.len
 have hBbc1 := hc1.bd
 have hbdc2 := hc2.bound
 have hlec2 := hc2.len
 have hBbc2 := hc2.bd
 refine Ws (Wr (SR.box (v := .agg (List.toArray _)) (l := [.slice Ac1 nc1 cc1, .slice Ac2 nc2 cc2, .int .i64 c.Library.Bought, .int .i64 c.Library.Dropped, .int .i64 c.Library.Mended, str c.Log.Durable, str c.Log.Pending, .int .i64 c.Log.Count]) rfl rfl ?_))
 intro g1 w2 hg3 hk4 hs5 hb6
 refine Q (r_as (v := .slice none 0 0) rfl) <| Q (aB rfl) <| Qn (Ws (Wr (SR.lit (vs := []) (L := ([] : List (List UInt8))) (enc := encS) tel44 (fun _ => rfl) rfl rfl rfl (by decide) ?_)))
 intro g9 w10 hg11 hk12 hO13
 have hz14 := hk12.size
 refine Q (aL rfl) <| Qn (Ws ?_)
 have hm16 := (hc1.lo hk4).lo hk12
 have hm17 := (hc2.lo hk4).lo hk12
 refine Wr (Q (mS rfl) <| SR.call ent55 (c_spec_l1Split w10 s (10 : UInt8) (by first | omega | (simp only [List.length_append, List.length_cons, List.length_nil, List.length_take, List.length_drop]; omega))) rfl ?_)
 rintro e w18 ⟨A20, n21, c22, rfl, hO23, hk19⟩
 refine ⟨_, rfl, ?_⟩
 have hz24 := hk19.size
 have hl26 := hO23.len
 have hl27 := hO23.rd.bound
 have hq28 := splitB_len (10 : UInt8) s
 refine Q (aL rfl) <| Qn (Ws (Ws ?_))
 have hm29 := (hb6.lo hk12).lo hk19
 refine W.regJS (fun f' w' => At f' [(2, .pointer (pA g1)), (4, .slice none 0 0), (5, .bool false), (6, .slice (pA g9) 0 0), (7, .slice A20 n21 c22), (25, .bool (decide ((¬ (ConOK c)) ∨ ((4000 < (s.length : Int)) ∨ (30 < (n21 : Int))))))] ∧ Lo w18 w') ?_ ?_
 ·refine Q (lG agg37 rfl hm29 rfl) <| Qv ent42 (c_spec_l34Good w18 c (hm16.lo hk19) (hm17.lo hk19) (by omega)) rfl fun w30 hk31 hz32 => (Q (r_not rfl) <| Q (mB rfl) <| SR.splitN (fun h34 => ?_) (fun h34 => ?_))
  ·refine Qs rfl <| Qs rfl <| Qs rfl <| Q (r_pick true rfl (v := .bool true) rfl) <| Q (mB rfl) <| Qs rfl <| Qs rfl <| Qs rfl <| Q (r_pick true rfl (v := .bool true) rfl) <| Qn (⟨_, rfl, ⟨⟨rfl, rfl, rfl, rfl, rfl, (eDT ((jmf h34).1 trivial)), trivial⟩, hk31⟩⟩)
  ·have hq35 := con_rng h34
   have hq36 := And.left h34
   refine Qg rfl (mS rfl) <| Qg rfl (r_len_s und9 rfl) <| Qg rfl (r_gt rfl rfl) <| Q (r_pick false rfl (v := .bool _) rfl) <| Q (mB rfl) <| SR.splitD (fun h37 => ?_) (fun h37 => ?_)
   ·refine Qs rfl <| Qs rfl <| Qs rfl <| Q (r_pick true rfl (v := .bool true) rfl) <| Qn (⟨_, rfl, ⟨⟨rfl, rfl, rfl, rfl, rfl, (eDT (((jot h37).trans (jmt h34)).1 trivial)), trivial⟩, hk31⟩⟩)
   ·refine Qg rfl (mL rfl) <| Qg rfl (r_len und44 rfl) <| Qg rfl (r_gt rfl rfl) <| Q (r_pick false rfl (v := .bool _) rfl) <| Qn (⟨_, rfl, ⟨⟨rfl, rfl, rfl, rfl, rfl, (eDD ((jof h37).trans (jmt h34))), trivial⟩, hk31⟩⟩)
 rintro f38 w39 ⟨hat40, hk41⟩
 rw [← sets_of_at hat40]
 have hz42 := hk41.size
 have hB43 := ((((Lo.refl w).lo hk4).lo hk12).lo hk19).lo hk41
 refine W.cond_d rfl (fun h44 => ?_) (fun h44 => ?_)
 ·refine Ws (Wr (Q (mL rfl) <| Q (aL rfl) <| Q (aB rfl) <| Qn (W.ret (ret2 rfl (v := .slice _ _ _) (v' := .bool _) rfl rfl ?_))))
  refine ⟨(pA g9), 0, 0, eR (eT2 rfl (eB ?_)), (SlO.eqv (((hO13.lo hk19).lo hk41).down) ?_), hB43⟩ <;> (rw [scr_noS (by assumption) (by assumption)]; try rfl)
 ·have hq48 : ConOK c := (Classical.not_not.1 (not_or.1 h44).1)
  have hq49 : ¬ (4000 < (s.length : Int)) := (not_or.1 (not_or.1 h44).2).1
  have hq50 : ¬ (30 < (n21 : Int)) := (not_or.1 (not_or.1 h44).2).2
  have hq51 := con_rng hq48
  have hq52 := And.left hq48
  refine W.skip (Ws ?_)
  have hm55 := (hO13.lo hk19).lo hk41
  refine Wr (Q (r_as (v := str ([] : List UInt8)) rfl) <| Qn (Ws (Ws (Wr (Q (aI rfl) <| Qn (W.block (W.loop (σ := Nat × Console × (List (List UInt8)) × (Option Addr) × Nat × Nat × (Option Addr) × Nat × Nat × (Option Addr) × Nat × Nat) (fun g => [(2, .pointer (pA g1)), (4, .slice none 0 0), (5, .bool false), (6, .slice g.2.2.2.1 g.2.2.2.2.1 g.2.2.2.2.2.1), (7, .slice A20 n21 c22), (9, .int .i64 (g.1 : Int))]) (fun g w' => (Lo w w') ∧ (Blk w' g1 37 [.slice g.2.2.2.2.2.2.1 g.2.2.2.2.2.2.2.1 g.2.2.2.2.2.2.2.2.1, .slice g.2.2.2.2.2.2.2.2.2.1 g.2.2.2.2.2.2.2.2.2.2.1 g.2.2.2.2.2.2.2.2.2.2.2, .int .i64 g.2.1.Library.Bought, .int .i64 g.2.1.Library.Dropped, .int .i64 g.2.1.Library.Mended, str g.2.1.Log.Durable, str g.2.1.Log.Pending, .int .i64 g.2.1.Log.Count]) ∧ (SlO w' w10.heap.size encS 1 9 A20 n21 c22 (splitB (10 : UInt8) s)) ∧ (SlO w' w.heap.size encS 1 9 g.2.2.2.1 g.2.2.2.2.1 g.2.2.2.2.2.1 g.2.2.1) ∧ (SlR w' w'.heap.size encLMap 3 g.2.2.2.2.2.2.1 g.2.2.2.2.2.2.2.1 g.2.2.2.2.2.2.2.2.1 g.2.1.Library.Maps) ∧ (SlR w' w'.heap.size encAway 2 g.2.2.2.2.2.2.2.2.2.1 g.2.2.2.2.2.2.2.2.2.2.1 g.2.2.2.2.2.2.2.2.2.2.2 g.2.1.Library.Away) ∧ (¬ g.2.2.2.1 = some ⟨g1, 0, none⟩) ∧ (∀ b_, g.2.2.2.1 = some ⟨b_, 0, none⟩ → ¬ A20 = some ⟨b_, 0, none⟩) ∧ (g.1 ≤ (splitB (10 : UInt8) s).length ∧ STo c (splitB (10 : UInt8) s) g.2.1 g.2.2.1 g.1)) (fun g => (splitB (10 : UInt8) s).length - g.1) (0, c, ([] : List (List UInt8)), (pA g9), 0, 0, Ac1, nc1, cc1, Ac2, nc2, cc2) ?_ ?_ ?_)))))))
  ·exact (At.r rfl)
  ·show (Lo w w39) ∧ (Blk w39 g1 37 [.slice Ac1 nc1 cc1, .slice Ac2 nc2 cc2, .int .i64 c.Library.Bought, .int .i64 c.Library.Dropped, .int .i64 c.Library.Mended, str c.Log.Durable, str c.Log.Pending, .int .i64 c.Log.Count]) ∧ (SlO w39 w10.heap.size encS 1 9 A20 n21 c22 (splitB (10 : UInt8) s)) ∧ (SlO w39 w.heap.size encS 1 9 (pA g9) 0 0 ([] : List (List UInt8))) ∧ (SlR w39 w39.heap.size encLMap 3 Ac1 nc1 cc1 c.Library.Maps) ∧ (SlR w39 w39.heap.size encAway 2 Ac2 nc2 cc2 c.Library.Away) ∧ (¬ (pA g9) = some ⟨g1, 0, none⟩) ∧ (∀ b_, (pA g9) = some ⟨b_, 0, none⟩ → ¬ A20 = some ⟨b_, 0, none⟩) ∧ (0 ≤ (splitB (10 : UInt8) s).length ∧ STo c (splitB (10 : UInt8) s) c ([] : List (List UInt8)) 0)
   exact ⟨hB43, (hm29.lo hk41), hO23.lo hk41, (hm55.down), (((hm16.lo hk19).lo hk41).top), (((hm17.lo hk19).lo hk41).top), (fun e' => by have := hm55.base_le e'; omega), (fun b_ h h' => by have h1 := hO13.base_le h; have h2 := (hO23.lo hk41).base_le h'; omega), (by (try dsimp only); exact ⟨Nat.zero_le _, STo.zero (scr_okS (s := s) (by assumption) (by assumption)).1⟩)⟩
  ·rintro ⟨k, o, R, A56, n56, c56, A57, n57, c57, A58, n58, c58⟩ f59 w60 hP62
   obtain ⟨hB61, hm63, hm64, hO65, hO66, hO67, hd69, hd70, hi68⟩ : (Lo w w60) ∧ (Blk w60 g1 37 [.slice A57 n57 c57, .slice A58 n58 c58, .int .i64 o.Library.Bought, .int .i64 o.Library.Dropped, .int .i64 o.Library.Mended, str o.Log.Durable, str o.Log.Pending, .int .i64 o.Log.Count]) ∧ (SlO w60 w10.heap.size encS 1 9 A20 n21 c22 (splitB (10 : UInt8) s)) ∧ (SlO w60 w.heap.size encS 1 9 A56 n56 c56 R) ∧ (SlR w60 w60.heap.size encLMap 3 A57 n57 c57 o.Library.Maps) ∧ (SlR w60 w60.heap.size encAway 2 A58 n58 c58 o.Library.Away) ∧ (¬ A56 = some ⟨g1, 0, none⟩) ∧ Dj A56 A20 ∧ (k ≤ (splitB (10 : UInt8) s).length ∧ STo c (splitB (10 : UInt8) s) o R k) := hP62
   refine (?_ : W _ _ _ _ _ (act _ (sets f59 [(2, .pointer (pA g1)), (4, .slice none 0 0), (5, .bool false), (6, .slice A56 n56 c56), (7, .slice A20 n21 c22), (9, .int .i64 (k : Int))])) _)
   have hzw60 := hB61.size
   have hl71 := hm63.lt
   have hl72 := hO65.len
   have hl73 := hO65.rd.bound
   have hl74 := hO66.len
   have hl75 := hO66.bound
   have hl76 := hO67.len
   have hl77 := hO67.bound
   have hq78 : k ≤ (splitB (10 : UInt8) s).length := hi68.1
   have hq79 : R.length = k := hi68.2.1
   have hq80 : (o.Library.Maps.length ≤ 1048576 ∧ o.Library.Away.length ≤ 1048576) ∧ o.Log.Durable.length + o.Log.Pending.length ≤ 24360 + 406 * k := hi68.2.2.2
   have hq81 : (splitB (10 : UInt8) s).length ≤ 30 ∧ s.length ≤ 4000 := (scr_ok2 (scr_okS (s := s) (by assumption) (by assumption)))
   refine Ws (Ws (Wr (Q (mI rfl) <| Q (mL rfl) <| Q (r_len und44 rfl) <| Q (r_lt rfl rfl) <| Qn (W.cond_d rfl (fun h82 => ?_) (fun h82 => ?_)))))
   ·refine W.skip (Ws (W.block (Ws (W.regA (Kp (fun b_ => b_ = g1) w60) (fun f' w' => ∃ (A133 : Option Addr) (n134 : Nat) (c135 : Nat) (A137 : Option Addr) (n138 : Nat) (c139 : Nat), At f' [(2, .pointer (pA g1)), (4, .slice none 0 0), (5, .bool false), (6, .slice A56 n56 c56), (7, .slice A20 n21 c22), (8, str ((execN o (gt (splitB (10 : UInt8) s) k)).2)), (9, .int .i64 (k : Int))] ∧ (Kp (fun b_ => b_ = g1) w60 w') ∧ (SlO w' w60.heap.size encLMap 3 102 A133 n134 c135 (((execN o (gt (splitB (10 : UInt8) s) k)).1).Library.Maps)) ∧ (SlO w' w60.heap.size encAway 2 129 A137 n138 c139 (((execN o (gt (splitB (10 : UInt8) s) k)).1).Library.Away)) ∧ (Blk w' g1 37 [.slice A133 n134 c135, .slice A137 n138 c139, .int .i64 (((execN o (gt (splitB (10 : UInt8) s) k)).1).Library.Bought), .int .i64 (((execN o (gt (splitB (10 : UInt8) s) k)).1).Library.Dropped), .int .i64 (((execN o (gt (splitB (10 : UInt8) s) k)).1).Library.Mended), str (((execN o (gt (splitB (10 : UInt8) s) k)).1).Log.Durable), str (((execN o (gt (splitB (10 : UInt8) s) k)).1).Log.Pending), .int .i64 (((execN o (gt (splitB (10 : UInt8) s) k)).1).Log.Count)]) ∧ Dj A133 A20 ∧ Dj A133 A56 ∧ Dj A133 A137 ∧ Dj A137 A20 ∧ Dj A137 A56 ∧ ((splitB (10 : UInt8) s)[k]? = some (gt (splitB (10 : UInt8) s) k)) ∧ ((gt (splitB (10 : UInt8) s) k).length ≤ s.length) ∧ (n134 = (((execN o (gt (splitB (10 : UInt8) s) k)).1).Library.Maps).length) ∧ ((n134 : Int) ≤ 9223372036854775807) ∧ (n138 = (((execN o (gt (splitB (10 : UInt8) s) k)).1).Library.Away).length) ∧ ((n138 : Int) ≤ 9223372036854775807)) mo ?_ ?_))))
    ·intro w172 hk173
     have hz174 := hk173.size
     refine Ak 1 rfl (kr hk173) (fun w' hw' => r_mv (v := .slice _ _ _) rfl) <| Ak 2 rfl (kr hk173) (fun w' hw' => r_mv (v := .int .i64 _) rfl) <| ?_
     have hx177 := ((hm64.lo hk173).rd).elem (i := k) (by omega)
     have hq178 := splitB_el hx177
     refine Ak 3 rfl (kr hk173) (fun w' hw' => r_ixR tsl44 ((hm64.kn hw' (by omega)).rd) rfl rfl (by omega)) <| Ak 4 rfl (kr hk173) (fun w' hw' => r_ld (v := str (gt (splitB (10 : UInt8) s) k)) sca9 rfl (((hm64.kn hw' (by omega)).rd).cell0 hx177 rfl)) <| Ab 0 rfl (Q (lG agg37 rfl (hm63.lo hk173) rfl) (Qn ⟨(Kp.refl w60).lo hk173, _, rfl, (Ab 5 rfl (SR.call ent10 (c_spec_ExecuteCommand w172 o (hO66.lo hk173) (hO67.lo hk173) (gt (splitB (10 : UInt8) s) k) (by omega) (by omega)) rfl ?_))⟩))
     rintro e w179 ⟨A181, n182, c183, A185, n186, c187, rfl, hO184, hO188, hd189, hk180⟩
     refine ⟨_, rfl, ?_⟩
     have hz190 := hk180.size
     have hS192 := ((Kp.refl w60 : Kp (fun b_ => b_ = g1) w60 w60).lo hk173).lo hk180
     have hl193 := hO184.len
     have hl194 := hO184.rd.bound
     have hl195 := hO188.len
     have hl196 := hO188.rd.bound
     refine Qn ⟨hS192, _, rfl, (Ak 6 rfl hS192 (fun w' hw' => r_mv (v := .tuple (List.toArray _)) rfl) <| Ak 7 rfl hS192 (fun w' hw' => r_ext (v := .agg (List.toArray _)) rfl rfl) <| Ak 8 rfl hS192 (fun w' hw' => r_ext (v := str _) rfl rfl) <| Ab 9 rfl (Qw (o := 0) (vs := [.slice A181 n182 c183, .slice A185 n186 c187, .int .i64 (((execN o (gt (splitB (10 : UInt8) s) k)).1).Library.Bought), .int .i64 (((execN o (gt (splitB (10 : UInt8) s) k)).1).Library.Dropped), .int .i64 (((execN o (gt (splitB (10 : UInt8) s) k)).1).Library.Mended), str (((execN o (gt (splitB (10 : UInt8) s) k)).1).Log.Durable), str (((execN o (gt (splitB (10 : UInt8) s) k)).1).Log.Pending), .int .i64 (((execN o (gt (splitB (10 : UInt8) s) k)).1).Log.Count)]) agg37.2 rfl rfl rfl rfl ((hm63.lo hk173).lo hk180) ler rfl ?_))⟩
     intro w197 hk198 hs199 hb200
     have hS203 := hS192.step hk198 (fun _ _ e => e)
     refine Qn ⟨hS203, _, rfl, (Ak 10 rfl hS203 (fun w' hw' => r_as (v := str _) rfl) <| AH.done (by kernel_rfl) (⟨A181, n182, c183, A185, n186, c187, (At.r rfl), hS203, ((hO184.kn hk198).down), ((hO188.kn hk198).down), hb200, (fun b_ h h' => by have h1 := (hO184.kn hk198).base_le h; have h2 := (hm64.lo hk173).base_le h'; omega), (fun b_ h h' => by have h1 := (hO184.kn hk198).base_le h; have h2 := (hO65.lo hk173).base_le h'; omega), hd189, (fun b_ h h' => by have h1 := (hO188.kn hk198).base_le h; have h2 := (hm64.lo hk173).base_le h'; omega), (fun b_ h h' => by have h1 := (hO188.kn hk198).base_le h; have h2 := (hO65.lo hk173).base_le h'; omega), hx177, hq178, hl193, hl194, hl195, hl196⟩))⟩
    rintro f209 w210 ⟨A133, n134, c135, A137, n138, c139, hat212, hR211, hm164, hm165, hm166, hd167, hd168, hd169, hd170, hd171, hx127, hq128, hl145, hl146, hl147, hl148⟩
    rw [← sets_of_at hat212]
    have hz213 := hR211.size
    refine Wr (Q (mL rfl) <| Q (mS rfl) <| SR.lit (vs := [str ((execN o (gt (splitB (10 : UInt8) s) k)).2)]) (L := ([(execN o (gt (splitB (10 : UInt8) s) k)).2] : List (List UInt8))) (enc := encS) tel44 (fun _ => rfl) rfl rfl rfl (by decide) ?_)
    intro g215 w216 hg217 hk218 hO219
    have hz220 := hk218.size
    refine SR.app tel44 rfl rfl ((hO65.kd hR211 hd69).lo hk218) (hO219.rd) (fun _ => rfl) (by omega) (by omega) ?_
    intro A226 c227 w228 hk229 hO230 hN231
    have hz232 := hk229.size
    have hd234 : ¬ A226 = some ⟨g1, 0, none⟩ := fun e' => (hN231 g1 e').elim (fun h => hd69 (h.trans e')) (fun h => by have := (hm166.lo hk218).lt; omega)
    have hd235 : Dj A226 A20 := fun b_ e' h' => (hN231 b_ e').elim (fun h => hd70 b_ (h.trans e') h') (fun h => by have := ((hm64.kn hR211 (by omega)).lo hk218).base_le h'; omega)
    refine Q (aL rfl) <| Qn ?_
    have hm242 := ((hm64.kn hR211 (by omega)).lo hk218).kp hk229 (fun b_ hb e' => hd70 b_ e' hb)
    refine Wr (Q (mI rfl) <| Q (r_add rfl rfl (by omega)) <| Q (aI rfl) <| Qn (⟨(k + 1, ((execN o (gt (splitB (10 : UInt8) s) k)).1), R ++ ([(execN o (gt (splitB (10 : UInt8) s) k)).2] : List (List UInt8)), A226, n56 + 1, c227, A133, n134, c135, A137, n138, c139), _, rfl, (At.r rfl), (show (Lo w w228) ∧ (Blk w228 g1 37 [.slice A133 n134 c135, .slice A137 n138 c139, .int .i64 (((execN o (gt (splitB (10 : UInt8) s) k)).1).Library.Bought), .int .i64 (((execN o (gt (splitB (10 : UInt8) s) k)).1).Library.Dropped), .int .i64 (((execN o (gt (splitB (10 : UInt8) s) k)).1).Library.Mended), str (((execN o (gt (splitB (10 : UInt8) s) k)).1).Log.Durable), str (((execN o (gt (splitB (10 : UInt8) s) k)).1).Log.Pending), .int .i64 (((execN o (gt (splitB (10 : UInt8) s) k)).1).Log.Count)]) ∧ (SlO w228 w10.heap.size encS 1 9 A20 n21 c22 (splitB (10 : UInt8) s)) ∧ (SlO w228 w.heap.size encS 1 9 A226 (n56 + 1) c227 (R ++ ([(execN o (gt (splitB (10 : UInt8) s) k)).2] : List (List UInt8)))) ∧ (SlR w228 w228.heap.size encLMap 3 A133 n134 c135 (((execN o (gt (splitB (10 : UInt8) s) k)).1).Library.Maps)) ∧ (SlR w228 w228.heap.size encAway 2 A137 n138 c139 (((execN o (gt (splitB (10 : UInt8) s) k)).1).Library.Away)) ∧ (¬ A226 = some ⟨g1, 0, none⟩) ∧ Dj A226 A20 ∧ (k + 1 ≤ (splitB (10 : UInt8) s).length ∧ STo c (splitB (10 : UInt8) s) ((execN o (gt (splitB (10 : UInt8) s) k)).1) (R ++ ([(execN o (gt (splitB (10 : UInt8) s) k)).2] : List (List UInt8))) (k + 1)) from ⟨(((hB61.new hR211 (by omega)).lo hk218).step hk229 (fun i_ hi_ e' => by have := ((hO65.kd hR211 hd69).lo hk218).base_le e'; first | omega | exact e' | exact .inl e' | exact .inr e')), ((hm166.lo hk218).kp hk229 (fun e' => hd69 e')), hm242, hO230, (((hm164.lo hk218).kp hk229 (fun b_ hb e' => hd168 b_ hb e')).rd), (((hm165.lo hk218).kp hk229 (fun b_ hb e' => hd171 b_ hb e')).rd), hd234, hd235, ?_⟩), ?_⟩))
    ·exact (by (try dsimp only); exact ⟨by omega, (And.right ‹_ ∧ STo _ _ _ _ _›).next ‹_[_]? = some _›⟩)
    ·exact (by (try dsimp only); omega)
   ·refine W.exit (xin_here (Ws (Wr (Q (mL rfl) <| Q (aL rfl) <| Q (aB rfl) <| Qn (W.ret (ret2 rfl (v := .slice _ _ _) (v' := .bool _) rfl rfl ?_))))))
    refine ⟨A56, n56, c56, eR (eT2 rfl (eB ?_)), (SlO.eqv (hO65.down) ?_), hB61⟩ <;> (rw [(And.right ‹_ ∧ STo _ _ _ _ _›).all (by omega) (scr_okS (by assumption) (by assumption))]; try rfl)
end Go.Proofs.YtndcchndcghmoaaGreatDoor
namespace Go.Proofs.YtndcchndcghmoaaGreatDoor
open Go Go.RowKit Fw
set_option maxRecDepth 10000
set_option maxHeartbeats 2000000
set_option linter.unusedVariables false
end Go.Proofs.YtndcchndcghmoaaGreatDoor
namespace Go.Proofs.YtndcchndcghmoaaGreatDoor
open Go Go.RowKit Fw
set_option maxRecDepth 10000
set_option maxHeartbeats 2000000
set_option linter.unusedVariables false
theorem agg165 : TAgg Tryz.prog 165 3 := tG
theorem agg167 : TAgg Tryz.prog 167 2 := tG
theorem agg25 : TAgg Tryz.prog 25 5 := tG
theorem agg27 : TAgg Tryz.prog 27 3 := tG
theorem ent100 : Ent Tryz.prog 100 := en Tryz.func100
theorem ent101 : Ent Tryz.prog 101 := en Tryz.func101
theorem ent102 : Ent Tryz.prog 102 := en Tryz.func102
theorem ent103 : Ent Tryz.prog 103 := en Tryz.func103
theorem ent144 : Ent Tryz.prog 144 := en Tryz.func144
theorem ent145 : Ent Tryz.prog 145 := en Tryz.func145
theorem ent159 : Ent Tryz.prog 159 := en Tryz.func159
theorem ent160 : Ent Tryz.prog 160 := en Tryz.func160
theorem ent32 : Ent Tryz.prog 32 := en Tryz.func32
theorem ent33 : Ent Tryz.prog 33 := en Tryz.func33
theorem ent40 : Ent Tryz.prog 40 := en Tryz.func40
theorem ent46 : Ent Tryz.prog 46 := en Tryz.func46
theorem ent51 : Ent Tryz.prog 51 := en Tryz.func51
theorem ent52 : Ent Tryz.prog 52 := en Tryz.func52
theorem ent53 : Ent Tryz.prog 53 := en Tryz.func53
theorem ent77 : Ent Tryz.prog 77 := en Tryz.func77
theorem ent78 : Ent Tryz.prog 78 := en Tryz.func78
theorem ent89 : Ent Tryz.prog 89 := en Tryz.func89
theorem ent90 : Ent Tryz.prog 90 := en Tryz.func90
theorem fa165_0 : FA Tryz.prog 165 0 0 := fun _ _ => by kernel_rfl
theorem fa165_1 : FA Tryz.prog 165 1 1 := fun _ _ => by kernel_rfl
theorem fa165_2 : FA Tryz.prog 165 2 2 := fun _ _ => by kernel_rfl
theorem fa167_0 : FA Tryz.prog 167 0 0 := fun _ _ => by kernel_rfl
theorem fa167_1 : FA Tryz.prog 167 1 1 := fun _ _ => by kernel_rfl
theorem fa25_0 : FA Tryz.prog 25 0 0 := fun _ _ => by kernel_rfl
theorem fa25_1 : FA Tryz.prog 25 1 1 := fun _ _ => by kernel_rfl
theorem fa25_2 : FA Tryz.prog 25 2 2 := fun _ _ => by kernel_rfl
theorem fa25_3 : FA Tryz.prog 25 3 3 := fun _ _ => by kernel_rfl
theorem fa25_4 : FA Tryz.prog 25 4 4 := fun _ _ => by kernel_rfl
theorem fa27_0 : FA Tryz.prog 27 0 0 := fun _ _ => by kernel_rfl
theorem fa27_1 : FA Tryz.prog 27 1 1 := fun _ _ => by kernel_rfl
theorem fa27_2 : FA Tryz.prog 27 2 2 := fun _ _ => by kernel_rfl
theorem fa29_0 : FA Tryz.prog 29 0 0 := fun _ _ => by kernel_rfl
theorem fa29_1 : FA Tryz.prog 29 1 5 := fun _ _ => by kernel_rfl
theorem sca22 : TSca Tryz.prog 22 := tS
theorem sca23 : TSca Tryz.prog 23 := tS
theorem tsl22 : TSl Tryz.prog 22 165 3 := ⟨by kernel_rfl, fun _ => by kernel_rfl⟩
theorem tsl23 : TSl Tryz.prog 23 167 2 := ⟨by kernel_rfl, fun _ => by kernel_rfl⟩
theorem und22 : Tryz.prog.underlying 22 = some (.slice 165) := by kernel_rfl
theorem und23 : Tryz.prog.underlying 23 = some (.slice 167) := by kernel_rfl
theorem c_laws_toMap (w : World) (r : LMap) : Calls Tryz.prog 144 #[.agg (List.toArray (encLMap r))] w fun e w' => e = .returned (.agg (List.toArray (encLMap r))) ∧ Lo w w' := by
 refine calls_W 14 Tryz.func144 rfl rfl rfl (Ws (Wr (SR.box (v := .agg (List.toArray _)) (l := [.int .i64 r.Id, .int .i64 r.Copies, .int .i64 r.Torn]) rfl rfl ?_)))
 intro g1 w2 hg3 hk4 hs5 hb6
 refine SR.alloc (l := [.int .i64 0, .int .i64 0, .int .i64 0]) tz102 rfl ?_
 intro g9 w10 hg11 hk12 hs13 hb14
 refine Qn (Ws (Wr (SR.alloc (l := [.int .i64 0, .int .i64 0, .int .i64 0]) tz102 rfl ?_)))
 intro g17 w18 hg19 hk20 hs21 hb22
 refine Qn (Ws ?_)
 have hm25 := (hb6.lo hk12).lo hk20
 refine Wr (Q (fA fa165_0 rfl) <| Q (lB sca3 rfl hm25 rfl) <| Q (fA fa102_0 rfl) <| Qw (o := 0) (vs := [.int .i64 r.Id]) sca3.2 rfl rfl rfl rfl hb22 ler rfl ?_)
 intro w26 hk27 hs28 hb29
 refine Qn (Ws (Wr (Q (fA fa165_1 rfl) <| Q (lB sca3 rfl (hm25.kn hk27) rfl) <| Q (fA fa102_1 rfl) <| Qw (o := 1) (vs := [.int .i64 r.Copies]) sca3.2 rfl rfl rfl rfl hb29 ler rfl ?_)))
 intro w33 hk34 hs35 hb36
 refine Qn (Ws (Wr (Q (fA fa165_2 rfl) <| Q (lB sca3 rfl ((hm25.kn hk27).kn hk34) rfl) <| Q (fA fa102_2 rfl) <| Qw (o := 2) (vs := [.int .i64 r.Torn]) sca3.2 rfl rfl rfl rfl hb36 ler rfl ?_)))
 intro w40 hk41 hs42 hb43
 refine Qn (Ws (Wr (Q (lG agg102 rfl hb43 rfl) <| Qw (o := 0) (vs := [.int .i64 r.Id, .int .i64 r.Copies, .int .i64 r.Torn]) agg102.2 rfl rfl rfl rfl ((((hb14.lo hk20).kn hk27).kn hk34).kn hk41) ler rfl ?_)))
 intro w47 hk48 hs49 hb50
 refine Qn (W.ret (retC rfl rfl agg102 hb50 rfl (⟨eR (eA (by first | rfl | (first | rfl | omega | grind))), ((((((((Lo.refl w).lo hk4).lo hk12).lo hk20).new hk27).new hk34).new hk41).new hk48)⟩)))
theorem z_c_laws_szMapS_2 (L : List LMap) (nL : Nat) (hbdL : (nL : Int) ≤ 9223372036854775807) (hleL : nL = L.length) (left : Int) (hp0 : 0 ≤ left) (hp1 : left ≤ 1048576) (h1 : (left - (nL : Int)) < 0) : (-1) = szN L.length left := by
 unfold szN; split <;> omega
theorem z_c_laws_szMapS_3 (L : List LMap) (nL : Nat) (hbdL : (nL : Int) ≤ 9223372036854775807) (hleL : nL = L.length) (left : Int) (hp0 : 0 ≤ left) (hp1 : left ≤ 1048576) (h1 : ¬ ((left - (nL : Int)) < 0)) : left - (nL : Int) = szN L.length left := by
 unfold szN; split <;> omega
theorem c_laws_szMapS (w : World) {AL : Option Addr} {nL cL BL : Nat}  (L : List LMap) (hL : SlR w BL encLMap 3 AL nL cL L) (left : Int) (hp0 : 0 ≤ left) (hp1 : left ≤ 1048576) : Calls Tryz.prog 77 #[.slice AL nL cL, .int .i64 left] w fun e w' => e = .returned (.int .i64 (szN L.length left)) ∧ Lo w w' := by
 refine calls_W 12 Tryz.func77 rfl rfl rfl ?_
 have hbdL := hL.bound
 have hleL := hL.len
 have hBbL := hL.bd
 refine Ws (Wr (Q (aI rfl) <| Qn (Ws (Wr (Q (mI rfl) <| Q (mL rfl) <| Q (r_len und22 rfl) <| Q (r_sub rfl rfl (by omega)) <| Q (aI rfl) <| Qn (Ws (Ws (Wr (Q (mI rfl) <| Q (r_lt rfl rfl) <| Qn (W.cond_d rfl (fun h1 => ?_) (fun h1 => ?_)))))))))))
 ·refine Ws (Wr (Q (r_as (v := .int .i64 (-1)) rfl) <| Qn (W.ret (ret1 rfl (v := .int .i64 _) rfl (⟨eR (eI (z_c_laws_szMapS_2 L nL hbdL hleL left hp0 hp1 h1)), (Lo.refl w)⟩)))))
 ·refine W.skip (Ws (Wr (Q (mI rfl) <| Q (aI rfl) <| Qn (W.ret (ret1 rfl (v := .int .i64 _) rfl (⟨eR (eI (z_c_laws_szMapS_3 L nL hbdL hleL left hp0 hp1 h1)), (Lo.refl w)⟩))))))
theorem c_laws_toMapS (w : World) {AL : Option Addr} {nL cL BL : Nat}  (L : List LMap) (hL : SlR w BL encLMap 3 AL nL cL L) (hp0 : (nL : Int) ≤ 1048576) : Calls Tryz.prog 89 #[.slice AL nL cL] w fun e w' => ∃ (A1' : Option Addr) (n1' c1' : Nat), e = .returned (.slice A1' n1' c1') ∧ SlO w' w.heap.size encLMap 3 102 A1' n1' c1' L ∧ Lo w w' := by
 refine calls_W 23 Tryz.func89 rfl rfl rfl ?_
 have hbdL := hL.bound
 have hleL := hL.len
 have hBbL := hL.bd
 refine Ws (Wr (Q (r_as (v := .slice none 0 0) rfl) <| Qn (Ws (Wr (Q (mL rfl) <| Q (r_len und22 rfl) <| SR.make (m := nL) (zx := (⟨0, 0, 0⟩ : LMap)) (enc := encLMap) tel31 rfl (fun _ => rfl) rfl rfl (by omega) (by omega) ?_)))))
 intro g1 w2 hg3 hk4 hO5
 have hz6 := hk4.size
 refine Q (aL rfl) <| Qn (Ws (Ws (Wr (Q (aI rfl) <| Qn (W.block (W.loop (σ := Nat) (fun g => [(0, .slice AL nL cL), (2, .slice none 0 0), (3, .slice (pA g1) nL nL), (4, .int .i64 (g : Int))]) (fun g w' => (Lo w w') ∧ (SlR w' BL encLMap 3 AL nL cL L) ∧ (SlO w' w.heap.size encLMap 3 102 (pA g1) nL nL (L.take g ++ List.replicate (nL - g) (⟨0, 0, 0⟩ : LMap))) ∧ (g ≤ nL)) (fun g => nL - g) 0 ?_ ?_ ?_))))))
 ·exact (At.r rfl)
 ·exact ⟨((Lo.refl w).lo hk4), hL.lo hk4, (SlO.eqv hO5 (by exact tk_init)), (by omega)⟩
 ·rintro k f8 w9 hP11
  obtain ⟨hB10, hm12, hm13, hi14⟩ : (Lo w w9) ∧ (SlR w9 BL encLMap 3 AL nL cL L) ∧ (SlO w9 w.heap.size encLMap 3 102 (pA g1) nL nL (L.take k ++ List.replicate (nL - k) (⟨0, 0, 0⟩ : LMap))) ∧ (k ≤ nL) := hP11
  refine (?_ : W _ _ _ _ _ (act _ (sets f8 [(0, .slice AL nL cL), (2, .slice none 0 0), (3, .slice (pA g1) nL nL), (4, .int .i64 (k : Int))])) _)
  have hzw9 := hB10.size
  refine Ws (Ws (Wr (Q (mI rfl) <| Q (mL rfl) <| Q (r_len und22 rfl) <| Q (r_lt rfl rfl) <| Qn (W.cond_d rfl (fun h15 => ?_) (fun h15 => ?_)))))
  ·refine W.skip (Ws (W.block (Wr (Q (mL rfl) <| Q (mI rfl) <| Q (mL rfl) <| Q (mI rfl) <| ?_))))
   obtain ⟨x16, hx17⟩ := hm12.get (i := k) (by omega)
   refine Q (r_ixR tsl22 hm12 rfl rfl (by omega)) <| Q (r_lda (l := encLMap x16) agg165 rfl (fun _ _ hu => hm12.cell hx17 hu) (hm12.esz _)) <| Qv ent144 (c_laws_toMap w9 x16) rfl fun w18 hk19 hz20 => ?_
   obtain ⟨x22, hx23⟩ := ((hm13.lo hk19).rd).get (i := k) (by omega)
   refine Q (r_ixR tsl31 ((hm13.lo hk19).rd) rfl rfl (by omega)) <| SR.storeO (o := 0) (vs := [.int .i64 x16.Id, .int .i64 x16.Copies, .int .i64 x16.Torn]) (x1 := x16) agg102.2 rfl rfl rfl rfl (hm13.lo hk19) hx23 rfl ler rfl ?_
   intro w24 hk25 hs26 hO27
   have hz28 := hk25.size
   have hx30 : ((L.take k ++ List.replicate (nL - k) (⟨0, 0, 0⟩ : LMap)).set ((k : Int).toNat) x16)[(k : Int).toNat]? = some x16 := List.getElem?_set_self (List.getElem?_eq_some_iff.1 hx23).1
   refine Qn ?_
   have hm31 := (hm12.lo hk19).kp hk25 (fun b_ hb e' => by have := (hm13.lo hk19).base_le e'; omega)
   refine Wr (Q (mI rfl) <| Q (r_add rfl rfl (by omega)) <| Q (aI rfl) <| Qn (⟨k + 1, _, rfl, (At.r rfl), ⟨((hB10.lo hk19).step hk25 (fun i_ hi_ e' => by have := (hm13.lo hk19).base_le e'; first | omega | exact e' | exact .inl e' | exact .inr e')), hm31, (SlO.eqv hO27 (by exact tk_set (by assumption) hleL)), ?_⟩, ?_⟩))
   ·exact (by omega)
   ·exact (by omega)
  ·refine W.exit (xin_here (Ws (Wr (Q (mL rfl) <| Q (aL rfl) <| Qn (W.ret (ret1 rfl (v := .slice _ _ _) rfl (⟨(pA g1), nL, nL, eR rfl, (SlO.eqv (hm13.down) (by exact tk_end hleL (by assumption) (by omega))), hB10⟩)))))))
theorem c_laws_eqMap (w : World) (a : LMap) (b : LMap) : Calls Tryz.prog 159 #[.agg (List.toArray (encLMap a)), .agg (List.toArray (encLMap b))] w fun e w' => e = .returned (.bool (decide (a = b))) ∧ Lo w w' := by
 refine calls_W 20 Tryz.func159 rfl rfl rfl (Ws (Wr (SR.box (v := .agg (List.toArray _)) (l := [.int .i64 a.Id, .int .i64 a.Copies, .int .i64 a.Torn]) rfl rfl ?_)))
 intro g1 w2 hg3 hk4 hs5 hb6
 refine SR.box (v := .agg (List.toArray _)) (l := [.int .i64 b.Id, .int .i64 b.Copies, .int .i64 b.Torn]) rfl rfl ?_
 intro g9 w10 hg11 hk12 hs13 hb14
 have hB16 := ((Lo.refl w).lo hk4).lo hk12
 refine Q (aB rfl) <| Qn (Ws (Ws (Wr (Q (fA fa102_0 rfl) <| Q (lB sca3 rfl (hb6.lo hk12) rfl) <| Q (fA fa102_0 rfl) <| Q (lB sca3 rfl hb14 rfl) <| Q (r_ne rfl rfl) <| Qn (W.cond_n rfl (fun h17 => ?_) (fun h17 => ?_))))))
 ·refine Ws (Wr (Q (aB rfl) <| Qn (W.ret (ret1 rfl (v := .bool _) rfl (⟨eR (eDF (by cases a; cases b; simp_all)), hB16⟩)))))
 ·refine W.skip (Ws (Ws (Wr (Q (fA fa102_1 rfl) <| Q (lB sca3 rfl (hb6.lo hk12) rfl) <| Q (fA fa102_1 rfl) <| Q (lB sca3 rfl hb14 rfl) <| Q (r_ne rfl rfl) <| Qn (W.cond_n rfl (fun h18 => ?_) (fun h18 => ?_))))))
  ·refine Ws (Wr (Q (aB rfl) <| Qn (W.ret (ret1 rfl (v := .bool _) rfl (⟨eR (eDF (by cases a; cases b; simp_all)), hB16⟩)))))
  ·refine W.skip (Ws (Ws (Wr (Q (fA fa102_2 rfl) <| Q (lB sca3 rfl (hb6.lo hk12) rfl) <| Q (fA fa102_2 rfl) <| Q (lB sca3 rfl hb14 rfl) <| Q (r_ne rfl rfl) <| Qn (W.cond_n rfl (fun h19 => ?_) (fun h19 => ?_))))))
   ·refine Ws (Wr (Q (aB rfl) <| Qn (W.ret (ret1 rfl (v := .bool _) rfl (⟨eR (eDF (by cases a; cases b; simp_all)), hB16⟩)))))
   ·refine W.skip (Ws (Wr (Q (aB rfl) <| Qn (W.ret (ret1 rfl (v := .bool _) rfl (⟨eR (eDT (by cases a; cases b; simp_all)), hB16⟩))))))
theorem c_laws_eqMapS (w : World) {AL : Option Addr} {nL cL BL : Nat}  (L : List LMap) (hL : SlR w BL encLMap 3 AL nL cL L) {AM : Option Addr} {nM cM BM : Nat}  (M : List LMap) (hM : SlR w BM encLMap 3 AM nM cM M) : Calls Tryz.prog 100 #[.slice AL nL cL, .slice AM nM cM] w fun e w' => e = .returned (.bool (decide (L = M))) ∧ Lo w w' := by
 refine calls_W 27 Tryz.func100 rfl rfl rfl ?_
 have hbdL := hL.bound
 have hleL := hL.len
 have hBbL := hL.bd
 have hbdM := hM.bound
 have hleM := hM.len
 have hBbM := hM.bd
 refine Ws (Wr (Q (aB rfl) <| Qn (Ws (Ws (Wr (Q (mL rfl) <| Q (r_len und31 rfl) <| Q (mL rfl) <| Q (r_len und31 rfl) <| Q (r_ne rfl rfl) <| Qn (W.cond_n rfl (fun h1 => ?_) (fun h1 => ?_))))))))
 ·refine Ws (Wr (Q (aB rfl) <| Qn (W.ret (ret1 rfl (v := .bool _) rfl (⟨eR (eDF (by first | (intro e; subst e; omega) | exact ne_at ‹L[_]? = some _› ‹M[_]? = some _› ‹_› | exact take_end (And.right ‹_ ∧ L.take _ = M.take _›) hleL hleM (by omega) ‹_›)), (Lo.refl w)⟩)))))
 ·refine W.skip (Ws (Ws (Wr (Q (aI rfl) <| Qn (W.block (W.loop (σ := Nat) (fun g => [(0, .slice AL nL cL), (1, .slice AM nM cM), (5, .int .i64 (g : Int))]) (fun g w' => (Lo w w') ∧ (SlR w' BL encLMap 3 AL nL cL L) ∧ (SlR w' BM encLMap 3 AM nM cM M) ∧ (g ≤ nL ∧ L.take g = M.take g)) (fun g => nL - g) 0 ?_ ?_ ?_))))))
  ·exact (At.r rfl)
  ·exact ⟨(Lo.refl w), hL, hM, (by simp)⟩
  ·rintro k f2 w3 hP5
   obtain ⟨hB4, hm6, hm7, hi8⟩ : (Lo w w3) ∧ (SlR w3 BL encLMap 3 AL nL cL L) ∧ (SlR w3 BM encLMap 3 AM nM cM M) ∧ (k ≤ nL ∧ L.take k = M.take k) := hP5
   refine (?_ : W _ _ _ _ _ (act _ (sets f2 [(0, .slice AL nL cL), (1, .slice AM nM cM), (5, .int .i64 (k : Int))])) _)
   have hzw3 := hB4.size
   refine Ws (Ws (Wr (Q (mI rfl) <| Q (mL rfl) <| Q (r_len und31 rfl) <| Q (r_lt rfl rfl) <| Qn (W.cond_d rfl (fun h9 => ?_) (fun h9 => ?_)))))
   ·refine W.skip (Ws (W.block (Ws (W.regD mo (by kernel_rfl) (QR.q' (fun w' hw' => r_mv (v := .slice _ _ _) rfl) <| QR.q' (fun w' hw' => r_mv (v := .int .i64 _) rfl) <| ?_)))))
    obtain ⟨x10, hx11⟩ := hm6.get (i := k) (by omega)
    refine QR.q' (fun w' hw' => r_ixR tsl31 (hm6.lo hw') rfl rfl (by omega)) <| QR.q' (fun w' hw' => r_lda (l := encLMap x10) agg102 rfl (fun _ _ hu => (hm6.lo hw').cell hx11 hu) ((hm6.lo hw').esz _)) <| QR.q' (fun w' hw' => r_mv (v := .slice _ _ _) rfl) <| QR.q' (fun w' hw' => r_mv (v := .int .i64 _) rfl) <| ?_
    obtain ⟨x12, hx13⟩ := hm7.get (i := k) (by omega)
    refine QR.q' (fun w' hw' => r_ixR tsl31 (hm7.lo hw') rfl rfl (by omega)) <| QR.q' (fun w' hw' => r_lda (l := encLMap x12) agg102 rfl (fun _ _ hu => (hm7.lo hw').cell hx13 hu) ((hm7.lo hw').esz _)) <| QR.call ent159 (fun w' hw' => (c_laws_eqMap w' x10 x12).mono fun _ _ h => ⟨h.1, hw'.trans h.2⟩) rfl <| QR.q' (fun w' hw' => r_not rfl) <| QR.nil ?_
    intro w14 hk15
    have hz16 := hk15.size
    have hB17 := hB4.lo hk15
    refine W.cond_n rfl (fun h18 => ?_) (fun h18 => ?_)
    ·refine Ws (Wr (Q (aB rfl) <| Qn (W.ret (ret1 rfl (v := .bool _) rfl (⟨eR (eDF (by first | (intro e; subst e; omega) | exact ne_at ‹L[_]? = some _› ‹M[_]? = some _› ‹_› | exact take_end (And.right ‹_ ∧ L.take _ = M.take _›) hleL hleM (by omega) ‹_›)), hB17⟩)))))
    ·refine W.skip (Wr (Q (mI rfl) <| Q (r_add rfl rfl (by omega)) <| Q (aI rfl) <| Qn (⟨k + 1, _, rfl, (At.r rfl), ⟨hB17, hm6.lo hk15, hm7.lo hk15, ?_⟩, ?_⟩)))
     ·exact (by exact ⟨by omega, take_next (And.right ‹_ ∧ L.take _ = M.take _›) ‹L[_]? = some _› ‹M[_]? = some _› ‹_›⟩)
     ·exact (by omega)
   ·refine W.exit (xin_here (Ws (Wr (Q (aB rfl) <| Qn (W.ret (ret1 rfl (v := .bool _) rfl (⟨eR (eDT (by first | (intro e; subst e; omega) | exact ne_at ‹L[_]? = some _› ‹M[_]? = some _› ‹_› | exact take_end (And.right ‹_ ∧ L.take _ = M.take _›) hleL hleM (by omega) ‹_›)), hB4⟩)))))))
theorem c_laws_markMapS (w : World) {AL : Option Addr} {nL cL BL : Nat}  (L : List LMap) (hL : SlO w BL encLMap 3 102 AL nL cL L) (k : Int) (hp0 : 0 ≤ k) (hp1 : k ≤ 1000000000) (hp2 : (nL : Int) ≤ 1048576) : Calls Tryz.prog 102 #[.slice AL nL cL, .int .i64 k] w fun e w' => e = .returned (.int .i64 (k + 3 * (L.length : Int))) ∧ SlO w' BL encLMap 3 102 AL nL cL (mkL mkLMap 3 L.length k) ∧ Kp (KA AL) w w' := by
 refine calls_W 34 Tryz.func102 rfl rfl rfl ?_
 have hbdL := hL.rd.bound
 have hleL := hL.len
 have hBbL := hL.bd
 refine Ws (Wr (Q (aI rfl) <| Qn (Ws (Ws (Wr (Q (aI rfl) <| Qn (W.block (W.loop (σ := Nat) (fun g => [(0, .slice AL nL cL), (1, .int .i64 (k + 3 * (g : Int))), (4, .int .i64 0), (5, .int .i64 (g : Int))]) (fun g w' => (Kp (KA AL) w w') ∧ (SlO w' BL encLMap 3 102 AL nL cL (mkL mkLMap 3 g k ++ L.drop g)) ∧ (g ≤ nL)) (fun g => nL - g) 0 ?_ ?_ ?_))))))))
 ·refine ⟨rfl, (eI ?_), rfl, (eI ?_), trivial⟩ <;> (first | omega | (dsimp only; omega))
 ·exact ⟨(Kp.refl w : Kp (KA AL) w w), (SlO.eqv hL (by exact mkL_init)), (by omega)⟩
 ·rintro i f1 w2 hP4
  obtain ⟨hB3, hm5, hi6⟩ : (Kp (KA AL) w w2) ∧ (SlO w2 BL encLMap 3 102 AL nL cL (mkL mkLMap 3 i k ++ L.drop i)) ∧ (i ≤ nL) := hP4
  refine (?_ : W _ _ _ _ _ (act _ (sets f1 [(0, .slice AL nL cL), (1, .int .i64 (k + 3 * (i : Int))), (4, .int .i64 0), (5, .int .i64 (i : Int))])) _)
  have hzw2 := hB3.size
  refine Ws (Ws (Wr (Q (mI rfl) <| Q (mL rfl) <| Q (r_len und31 rfl) <| Q (r_lt rfl rfl) <| Qn (W.cond_d rfl (fun h7 => ?_) (fun h7 => ?_)))))
  ·refine W.skip (Ws (W.block (Ws (Wr (Q (mL rfl) <| Q (mI rfl) <| Q (mI rfl) <| ?_)))))
   obtain ⟨x8, hx9⟩ := (hm5.rd).get (i := i) (by omega)
   refine Q (r_ixR tsl31 (hm5.rd) rfl rfl (by omega)) <| Q (fA fa102_0 rfl) <| SR.storeO (o := 0) (vs := [.int .i64 (k + 3 * (i : Int))]) (x1 := { x8 with Id := k + 3 * (i : Int) }) sca3.2 rfl (add_add _ _ _) rfl rfl hm5 hx9 rfl ler rfl ?_
   intro w10 hk11 hs12 hO13
   have hz14 := hk11.size
   have hx16 : ((mkL mkLMap 3 i k ++ L.drop i).set ((i : Int).toNat) ({ x8 with Id := k + 3 * (i : Int) }))[(i : Int).toNat]? = some ({ x8 with Id := k + 3 * (i : Int) }) := List.getElem?_set_self (List.getElem?_eq_some_iff.1 hx9).1
   refine Qn (Ws (Wr (Q (mI rfl) <| Q (r_add rfl rfl (by omega)) <| Q (aI rfl) <| Qn (Ws (Wr (Q (mL rfl) <| Q (mI rfl) <| Q (mI rfl) <| Q (r_ixR tsl31 (hO13.rd) rfl rfl (by omega)) <| Q (fA fa102_1 rfl) <| SR.storeO (o := 1) (vs := [.int .i64 ((k + 3 * (i : Int)) + 1)]) (x1 := { ({ x8 with Id := k + 3 * (i : Int) }) with Copies := (k + 3 * (i : Int)) + 1 }) sca3.2 rfl (add_add _ _ _) rfl rfl hO13 hx16 rfl ler rfl ?_))))))
   intro w17 hk18 hs19 hO20
   have hz21 := hk18.size
   rw [List.set_set] at hO20
   have hx23 : ((mkL mkLMap 3 i k ++ L.drop i).set ((i : Int).toNat) ({ ({ x8 with Id := k + 3 * (i : Int) }) with Copies := (k + 3 * (i : Int)) + 1 }))[(i : Int).toNat]? = some ({ ({ x8 with Id := k + 3 * (i : Int) }) with Copies := (k + 3 * (i : Int)) + 1 }) := List.getElem?_set_self (List.getElem?_eq_some_iff.1 hx9).1
   refine Qn (Ws (Wr (Q (mI rfl) <| Q (r_add rfl rfl (by omega)) <| Q (aI rfl) <| Qn (Ws (Wr (Q (mL rfl) <| Q (mI rfl) <| Q (mI rfl) <| Q (r_ixR tsl31 (hO20.rd) rfl rfl (by omega)) <| Q (fA fa102_2 rfl) <| SR.storeO (o := 2) (vs := [.int .i64 (((k + 3 * (i : Int)) + 1) + 1)]) (x1 := { ({ ({ x8 with Id := k + 3 * (i : Int) }) with Copies := (k + 3 * (i : Int)) + 1 }) with Torn := ((k + 3 * (i : Int)) + 1) + 1 }) sca3.2 rfl (add_add _ _ _) rfl rfl hO20 hx23 rfl ler rfl ?_))))))
   intro w24 hk25 hs26 hO27
   have hz28 := hk25.size
   rw [List.set_set] at hO27
   have hx30 : ((mkL mkLMap 3 i k ++ L.drop i).set ((i : Int).toNat) ({ ({ ({ x8 with Id := k + 3 * (i : Int) }) with Copies := (k + 3 * (i : Int)) + 1 }) with Torn := ((k + 3 * (i : Int)) + 1) + 1 }))[(i : Int).toNat]? = some ({ ({ ({ x8 with Id := k + 3 * (i : Int) }) with Copies := (k + 3 * (i : Int)) + 1 }) with Torn := ((k + 3 * (i : Int)) + 1) + 1 }) := List.getElem?_set_self (List.getElem?_eq_some_iff.1 hx9).1
   refine Qn (Wr (Q (mI rfl) <| Q (r_add rfl rfl (by omega)) <| Q (aI rfl) <| Qn (Wr (Q (mI rfl) <| Q (r_add rfl rfl (by omega)) <| Q (aI rfl) <| Qn (⟨i + 1, _, rfl, ⟨rfl, (eI (by first | omega | (dsimp only; omega))), rfl, (eI (by first | omega | (dsimp only; omega))), trivial⟩, ⟨(((hB3.step hk11 (fun i_ hi_ e' => by have := hm5.base_le e'; first | omega | exact e' | exact .inl e' | exact .inr e')).step hk18 (fun i_ hi_ e' => by have := hO13.base_le e'; first | omega | exact e' | exact .inl e' | exact .inr e')).step hk25 (fun i_ hi_ e' => by have := hO20.base_le e'; first | omega | exact e' | exact .inl e' | exact .inr e')), (SlO.eqv hO27 (by exact mkL_set (by omega) (by first | (simp [mkLMap]; done) | (simp [mkLMap]; omega)))), ?_⟩, ?_⟩)))))
   ·exact (by omega)
   ·exact (by omega)
  ·refine W.exit (xin_here (Ws (Wr (Q (mI rfl) <| Q (aI rfl) <| Qn (W.ret (ret1 rfl (v := .int .i64 _) rfl ?_))))))
   refine ⟨eR (eI ?_), (SlO.eqv hm5 ?_), hB3⟩ <;> (first | omega | exact mkL_end hleL (by assumption) (by omega))
theorem c_laws_toAway (w : World) (r : Away) : Calls Tryz.prog 145 #[.agg (List.toArray (encAway r))] w fun e w' => e = .returned (.agg (List.toArray (encAway r))) ∧ Lo w w' := by
 refine calls_W 11 Tryz.func145 rfl rfl rfl (Ws (Wr (SR.box (v := .agg (List.toArray _)) (l := [.int .i64 r.Map, .int .i64 r.Reader]) rfl rfl ?_)))
 intro g1 w2 hg3 hk4 hs5 hb6
 refine SR.alloc (l := [.int .i64 0, .int .i64 0]) tz129 rfl ?_
 intro g9 w10 hg11 hk12 hs13 hb14
 refine Qn (Ws (Wr (SR.alloc (l := [.int .i64 0, .int .i64 0]) tz129 rfl ?_)))
 intro g17 w18 hg19 hk20 hs21 hb22
 refine Qn (Ws ?_)
 have hm25 := (hb6.lo hk12).lo hk20
 refine Wr (Q (fA fa167_0 rfl) <| Q (lB sca3 rfl hm25 rfl) <| Q (fA fa129_0 rfl) <| Qw (o := 0) (vs := [.int .i64 r.Map]) sca3.2 rfl rfl rfl rfl hb22 ler rfl ?_)
 intro w26 hk27 hs28 hb29
 refine Qn (Ws (Wr (Q (fA fa167_1 rfl) <| Q (lB sca3 rfl (hm25.kn hk27) rfl) <| Q (fA fa129_1 rfl) <| Qw (o := 1) (vs := [.int .i64 r.Reader]) sca3.2 rfl rfl rfl rfl hb29 ler rfl ?_)))
 intro w33 hk34 hs35 hb36
 refine Qn (Ws (Wr (Q (lG agg129 rfl hb36 rfl) <| Qw (o := 0) (vs := [.int .i64 r.Map, .int .i64 r.Reader]) agg129.2 rfl rfl rfl rfl (((hb14.lo hk20).kn hk27).kn hk34) ler rfl ?_)))
 intro w39 hk40 hs41 hb42
 refine Qn (W.ret (retC rfl rfl agg129 hb42 rfl (⟨eR (eA (by first | rfl | (first | rfl | omega | grind))), (((((((Lo.refl w).lo hk4).lo hk12).lo hk20).new hk27).new hk34).new hk40)⟩)))
theorem z_c_laws_szAwayS_2 (L : List Away) (nL : Nat) (hbdL : (nL : Int) ≤ 9223372036854775807) (hleL : nL = L.length) (left : Int) (hp0 : 0 ≤ left) (hp1 : left ≤ 1048576) (h1 : (left - (nL : Int)) < 0) : (-1) = szN L.length left := by
 unfold szN; split <;> omega
theorem z_c_laws_szAwayS_3 (L : List Away) (nL : Nat) (hbdL : (nL : Int) ≤ 9223372036854775807) (hleL : nL = L.length) (left : Int) (hp0 : 0 ≤ left) (hp1 : left ≤ 1048576) (h1 : ¬ ((left - (nL : Int)) < 0)) : left - (nL : Int) = szN L.length left := by
 unfold szN; split <;> omega
theorem c_laws_szAwayS (w : World) {AL : Option Addr} {nL cL BL : Nat}  (L : List Away) (hL : SlR w BL encAway 2 AL nL cL L) (left : Int) (hp0 : 0 ≤ left) (hp1 : left ≤ 1048576) : Calls Tryz.prog 78 #[.slice AL nL cL, .int .i64 left] w fun e w' => e = .returned (.int .i64 (szN L.length left)) ∧ Lo w w' := by
 refine calls_W 12 Tryz.func78 rfl rfl rfl ?_
 have hbdL := hL.bound
 have hleL := hL.len
 have hBbL := hL.bd
 refine Ws (Wr (Q (aI rfl) <| Qn (Ws (Wr (Q (mI rfl) <| Q (mL rfl) <| Q (r_len und23 rfl) <| Q (r_sub rfl rfl (by omega)) <| Q (aI rfl) <| Qn (Ws (Ws (Wr (Q (mI rfl) <| Q (r_lt rfl rfl) <| Qn (W.cond_d rfl (fun h1 => ?_) (fun h1 => ?_)))))))))))
 ·refine Ws (Wr (Q (r_as (v := .int .i64 (-1)) rfl) <| Qn (W.ret (ret1 rfl (v := .int .i64 _) rfl (⟨eR (eI (z_c_laws_szAwayS_2 L nL hbdL hleL left hp0 hp1 h1)), (Lo.refl w)⟩)))))
 ·refine W.skip (Ws (Wr (Q (mI rfl) <| Q (aI rfl) <| Qn (W.ret (ret1 rfl (v := .int .i64 _) rfl (⟨eR (eI (z_c_laws_szAwayS_3 L nL hbdL hleL left hp0 hp1 h1)), (Lo.refl w)⟩))))))
theorem c_laws_toAwayS (w : World) {AL : Option Addr} {nL cL BL : Nat}  (L : List Away) (hL : SlR w BL encAway 2 AL nL cL L) (hp0 : (nL : Int) ≤ 1048576) : Calls Tryz.prog 90 #[.slice AL nL cL] w fun e w' => ∃ (A1' : Option Addr) (n1' c1' : Nat), e = .returned (.slice A1' n1' c1') ∧ SlO w' w.heap.size encAway 2 129 A1' n1' c1' L ∧ Lo w w' := by
 refine calls_W 23 Tryz.func90 rfl rfl rfl ?_
 have hbdL := hL.bound
 have hleL := hL.len
 have hBbL := hL.bd
 refine Ws (Wr (Q (r_as (v := .slice none 0 0) rfl) <| Qn (Ws (Wr (Q (mL rfl) <| Q (r_len und23 rfl) <| SR.make (m := nL) (zx := (⟨0, 0⟩ : Away)) (enc := encAway) tel32 rfl (fun _ => rfl) rfl rfl (by omega) (by omega) ?_)))))
 intro g1 w2 hg3 hk4 hO5
 have hz6 := hk4.size
 refine Q (aL rfl) <| Qn (Ws (Ws (Wr (Q (aI rfl) <| Qn (W.block (W.loop (σ := Nat) (fun g => [(0, .slice AL nL cL), (2, .slice none 0 0), (3, .slice (pA g1) nL nL), (4, .int .i64 (g : Int))]) (fun g w' => (Lo w w') ∧ (SlR w' BL encAway 2 AL nL cL L) ∧ (SlO w' w.heap.size encAway 2 129 (pA g1) nL nL (L.take g ++ List.replicate (nL - g) (⟨0, 0⟩ : Away))) ∧ (g ≤ nL)) (fun g => nL - g) 0 ?_ ?_ ?_))))))
 ·exact (At.r rfl)
 ·exact ⟨((Lo.refl w).lo hk4), hL.lo hk4, (SlO.eqv hO5 (by exact tk_init)), (by omega)⟩
 ·rintro k f8 w9 hP11
  obtain ⟨hB10, hm12, hm13, hi14⟩ : (Lo w w9) ∧ (SlR w9 BL encAway 2 AL nL cL L) ∧ (SlO w9 w.heap.size encAway 2 129 (pA g1) nL nL (L.take k ++ List.replicate (nL - k) (⟨0, 0⟩ : Away))) ∧ (k ≤ nL) := hP11
  refine (?_ : W _ _ _ _ _ (act _ (sets f8 [(0, .slice AL nL cL), (2, .slice none 0 0), (3, .slice (pA g1) nL nL), (4, .int .i64 (k : Int))])) _)
  have hzw9 := hB10.size
  refine Ws (Ws (Wr (Q (mI rfl) <| Q (mL rfl) <| Q (r_len und23 rfl) <| Q (r_lt rfl rfl) <| Qn (W.cond_d rfl (fun h15 => ?_) (fun h15 => ?_)))))
  ·refine W.skip (Ws (W.block (Wr (Q (mL rfl) <| Q (mI rfl) <| Q (mL rfl) <| Q (mI rfl) <| ?_))))
   obtain ⟨x16, hx17⟩ := hm12.get (i := k) (by omega)
   refine Q (r_ixR tsl23 hm12 rfl rfl (by omega)) <| Q (r_lda (l := encAway x16) agg167 rfl (fun _ _ hu => hm12.cell hx17 hu) (hm12.esz _)) <| Qv ent145 (c_laws_toAway w9 x16) rfl fun w18 hk19 hz20 => ?_
   obtain ⟨x22, hx23⟩ := ((hm13.lo hk19).rd).get (i := k) (by omega)
   refine Q (r_ixR tsl32 ((hm13.lo hk19).rd) rfl rfl (by omega)) <| SR.storeO (o := 0) (vs := [.int .i64 x16.Map, .int .i64 x16.Reader]) (x1 := x16) agg129.2 rfl rfl rfl rfl (hm13.lo hk19) hx23 rfl ler rfl ?_
   intro w24 hk25 hs26 hO27
   have hz28 := hk25.size
   have hx30 : ((L.take k ++ List.replicate (nL - k) (⟨0, 0⟩ : Away)).set ((k : Int).toNat) x16)[(k : Int).toNat]? = some x16 := List.getElem?_set_self (List.getElem?_eq_some_iff.1 hx23).1
   refine Qn ?_
   have hm31 := (hm12.lo hk19).kp hk25 (fun b_ hb e' => by have := (hm13.lo hk19).base_le e'; omega)
   refine Wr (Q (mI rfl) <| Q (r_add rfl rfl (by omega)) <| Q (aI rfl) <| Qn (⟨k + 1, _, rfl, (At.r rfl), ⟨((hB10.lo hk19).step hk25 (fun i_ hi_ e' => by have := (hm13.lo hk19).base_le e'; first | omega | exact e' | exact .inl e' | exact .inr e')), hm31, (SlO.eqv hO27 (by exact tk_set (by assumption) hleL)), ?_⟩, ?_⟩))
   ·exact (by omega)
   ·exact (by omega)
  ·refine W.exit (xin_here (Ws (Wr (Q (mL rfl) <| Q (aL rfl) <| Qn (W.ret (ret1 rfl (v := .slice _ _ _) rfl (⟨(pA g1), nL, nL, eR rfl, (SlO.eqv (hm13.down) (by exact tk_end hleL (by assumption) (by omega))), hB10⟩)))))))
theorem c_laws_eqAway (w : World) (a : Away) (b : Away) : Calls Tryz.prog 160 #[.agg (List.toArray (encAway a)), .agg (List.toArray (encAway b))] w fun e w' => e = .returned (.bool (decide (a = b))) ∧ Lo w w' := by
 refine calls_W 15 Tryz.func160 rfl rfl rfl (Ws (Wr (SR.box (v := .agg (List.toArray _)) (l := [.int .i64 a.Map, .int .i64 a.Reader]) rfl rfl ?_)))
 intro g1 w2 hg3 hk4 hs5 hb6
 refine SR.box (v := .agg (List.toArray _)) (l := [.int .i64 b.Map, .int .i64 b.Reader]) rfl rfl ?_
 intro g9 w10 hg11 hk12 hs13 hb14
 have hB16 := ((Lo.refl w).lo hk4).lo hk12
 refine Q (aB rfl) <| Qn (Ws (Ws (Wr (Q (fA fa129_0 rfl) <| Q (lB sca3 rfl (hb6.lo hk12) rfl) <| Q (fA fa129_0 rfl) <| Q (lB sca3 rfl hb14 rfl) <| Q (r_ne rfl rfl) <| Qn (W.cond_n rfl (fun h17 => ?_) (fun h17 => ?_))))))
 ·refine Ws (Wr (Q (aB rfl) <| Qn (W.ret (ret1 rfl (v := .bool _) rfl (⟨eR (eDF (by cases a; cases b; simp_all)), hB16⟩)))))
 ·refine W.skip (Ws (Ws (Wr (Q (fA fa129_1 rfl) <| Q (lB sca3 rfl (hb6.lo hk12) rfl) <| Q (fA fa129_1 rfl) <| Q (lB sca3 rfl hb14 rfl) <| Q (r_ne rfl rfl) <| Qn (W.cond_n rfl (fun h18 => ?_) (fun h18 => ?_))))))
  ·refine Ws (Wr (Q (aB rfl) <| Qn (W.ret (ret1 rfl (v := .bool _) rfl (⟨eR (eDF (by cases a; cases b; simp_all)), hB16⟩)))))
  ·refine W.skip (Ws (Wr (Q (aB rfl) <| Qn (W.ret (ret1 rfl (v := .bool _) rfl (⟨eR (eDT (by cases a; cases b; simp_all)), hB16⟩))))))
theorem c_laws_eqAwayS (w : World) {AL : Option Addr} {nL cL BL : Nat}  (L : List Away) (hL : SlR w BL encAway 2 AL nL cL L) {AM : Option Addr} {nM cM BM : Nat}  (M : List Away) (hM : SlR w BM encAway 2 AM nM cM M) : Calls Tryz.prog 101 #[.slice AL nL cL, .slice AM nM cM] w fun e w' => e = .returned (.bool (decide (L = M))) ∧ Lo w w' := by
 refine calls_W 27 Tryz.func101 rfl rfl rfl ?_
 have hbdL := hL.bound
 have hleL := hL.len
 have hBbL := hL.bd
 have hbdM := hM.bound
 have hleM := hM.len
 have hBbM := hM.bd
 refine Ws (Wr (Q (aB rfl) <| Qn (Ws (Ws (Wr (Q (mL rfl) <| Q (r_len und32 rfl) <| Q (mL rfl) <| Q (r_len und32 rfl) <| Q (r_ne rfl rfl) <| Qn (W.cond_n rfl (fun h1 => ?_) (fun h1 => ?_))))))))
 ·refine Ws (Wr (Q (aB rfl) <| Qn (W.ret (ret1 rfl (v := .bool _) rfl (⟨eR (eDF (by first | (intro e; subst e; omega) | exact ne_at ‹L[_]? = some _› ‹M[_]? = some _› ‹_› | exact take_end (And.right ‹_ ∧ L.take _ = M.take _›) hleL hleM (by omega) ‹_›)), (Lo.refl w)⟩)))))
 ·refine W.skip (Ws (Ws (Wr (Q (aI rfl) <| Qn (W.block (W.loop (σ := Nat) (fun g => [(0, .slice AL nL cL), (1, .slice AM nM cM), (5, .int .i64 (g : Int))]) (fun g w' => (Lo w w') ∧ (SlR w' BL encAway 2 AL nL cL L) ∧ (SlR w' BM encAway 2 AM nM cM M) ∧ (g ≤ nL ∧ L.take g = M.take g)) (fun g => nL - g) 0 ?_ ?_ ?_))))))
  ·exact (At.r rfl)
  ·exact ⟨(Lo.refl w), hL, hM, (by simp)⟩
  ·rintro k f2 w3 hP5
   obtain ⟨hB4, hm6, hm7, hi8⟩ : (Lo w w3) ∧ (SlR w3 BL encAway 2 AL nL cL L) ∧ (SlR w3 BM encAway 2 AM nM cM M) ∧ (k ≤ nL ∧ L.take k = M.take k) := hP5
   refine (?_ : W _ _ _ _ _ (act _ (sets f2 [(0, .slice AL nL cL), (1, .slice AM nM cM), (5, .int .i64 (k : Int))])) _)
   have hzw3 := hB4.size
   refine Ws (Ws (Wr (Q (mI rfl) <| Q (mL rfl) <| Q (r_len und32 rfl) <| Q (r_lt rfl rfl) <| Qn (W.cond_d rfl (fun h9 => ?_) (fun h9 => ?_)))))
   ·refine W.skip (Ws (W.block (Ws (W.regD mo (by kernel_rfl) (QR.q' (fun w' hw' => r_mv (v := .slice _ _ _) rfl) <| QR.q' (fun w' hw' => r_mv (v := .int .i64 _) rfl) <| ?_)))))
    obtain ⟨x10, hx11⟩ := hm6.get (i := k) (by omega)
    refine QR.q' (fun w' hw' => r_ixR tsl32 (hm6.lo hw') rfl rfl (by omega)) <| QR.q' (fun w' hw' => r_lda (l := encAway x10) agg129 rfl (fun _ _ hu => (hm6.lo hw').cell hx11 hu) ((hm6.lo hw').esz _)) <| QR.q' (fun w' hw' => r_mv (v := .slice _ _ _) rfl) <| QR.q' (fun w' hw' => r_mv (v := .int .i64 _) rfl) <| ?_
    obtain ⟨x12, hx13⟩ := hm7.get (i := k) (by omega)
    refine QR.q' (fun w' hw' => r_ixR tsl32 (hm7.lo hw') rfl rfl (by omega)) <| QR.q' (fun w' hw' => r_lda (l := encAway x12) agg129 rfl (fun _ _ hu => (hm7.lo hw').cell hx13 hu) ((hm7.lo hw').esz _)) <| QR.call ent160 (fun w' hw' => (c_laws_eqAway w' x10 x12).mono fun _ _ h => ⟨h.1, hw'.trans h.2⟩) rfl <| QR.q' (fun w' hw' => r_not rfl) <| QR.nil ?_
    intro w14 hk15
    have hz16 := hk15.size
    have hB17 := hB4.lo hk15
    refine W.cond_n rfl (fun h18 => ?_) (fun h18 => ?_)
    ·refine Ws (Wr (Q (aB rfl) <| Qn (W.ret (ret1 rfl (v := .bool _) rfl (⟨eR (eDF (by first | (intro e; subst e; omega) | exact ne_at ‹L[_]? = some _› ‹M[_]? = some _› ‹_› | exact take_end (And.right ‹_ ∧ L.take _ = M.take _›) hleL hleM (by omega) ‹_›)), hB17⟩)))))
    ·refine W.skip (Wr (Q (mI rfl) <| Q (r_add rfl rfl (by omega)) <| Q (aI rfl) <| Qn (⟨k + 1, _, rfl, (At.r rfl), ⟨hB17, hm6.lo hk15, hm7.lo hk15, ?_⟩, ?_⟩)))
     ·exact (by exact ⟨by omega, take_next (And.right ‹_ ∧ L.take _ = M.take _›) ‹L[_]? = some _› ‹M[_]? = some _› ‹_›⟩)
     ·exact (by omega)
   ·refine W.exit (xin_here (Ws (Wr (Q (aB rfl) <| Qn (W.ret (ret1 rfl (v := .bool _) rfl (⟨eR (eDT (by first | (intro e; subst e; omega) | exact ne_at ‹L[_]? = some _› ‹M[_]? = some _› ‹_› | exact take_end (And.right ‹_ ∧ L.take _ = M.take _›) hleL hleM (by omega) ‹_›)), hB4⟩)))))))
theorem c_laws_markAwayS (w : World) {AL : Option Addr} {nL cL BL : Nat}  (L : List Away) (hL : SlO w BL encAway 2 129 AL nL cL L) (k : Int) (hp0 : 0 ≤ k) (hp1 : k ≤ 1000000000) (hp2 : (nL : Int) ≤ 1048576) : Calls Tryz.prog 103 #[.slice AL nL cL, .int .i64 k] w fun e w' => e = .returned (.int .i64 (k + 2 * (L.length : Int))) ∧ SlO w' BL encAway 2 129 AL nL cL (mkL mkAway 2 L.length k) ∧ Kp (KA AL) w w' := by
 refine calls_W 27 Tryz.func103 rfl rfl rfl ?_
 have hbdL := hL.rd.bound
 have hleL := hL.len
 have hBbL := hL.bd
 refine Ws (Wr (Q (aI rfl) <| Qn (Ws (Ws (Wr (Q (aI rfl) <| Qn (W.block (W.loop (σ := Nat) (fun g => [(0, .slice AL nL cL), (1, .int .i64 (k + 2 * (g : Int))), (4, .int .i64 0), (5, .int .i64 (g : Int))]) (fun g w' => (Kp (KA AL) w w') ∧ (SlO w' BL encAway 2 129 AL nL cL (mkL mkAway 2 g k ++ L.drop g)) ∧ (g ≤ nL)) (fun g => nL - g) 0 ?_ ?_ ?_))))))))
 ·refine ⟨rfl, (eI ?_), rfl, (eI ?_), trivial⟩ <;> (first | omega | (dsimp only; omega))
 ·exact ⟨(Kp.refl w : Kp (KA AL) w w), (SlO.eqv hL (by exact mkL_init)), (by omega)⟩
 ·rintro i f1 w2 hP4
  obtain ⟨hB3, hm5, hi6⟩ : (Kp (KA AL) w w2) ∧ (SlO w2 BL encAway 2 129 AL nL cL (mkL mkAway 2 i k ++ L.drop i)) ∧ (i ≤ nL) := hP4
  refine (?_ : W _ _ _ _ _ (act _ (sets f1 [(0, .slice AL nL cL), (1, .int .i64 (k + 2 * (i : Int))), (4, .int .i64 0), (5, .int .i64 (i : Int))])) _)
  have hzw2 := hB3.size
  refine Ws (Ws (Wr (Q (mI rfl) <| Q (mL rfl) <| Q (r_len und32 rfl) <| Q (r_lt rfl rfl) <| Qn (W.cond_d rfl (fun h7 => ?_) (fun h7 => ?_)))))
  ·refine W.skip (Ws (W.block (Ws (Wr (Q (mL rfl) <| Q (mI rfl) <| Q (mI rfl) <| ?_)))))
   obtain ⟨x8, hx9⟩ := (hm5.rd).get (i := i) (by omega)
   refine Q (r_ixR tsl32 (hm5.rd) rfl rfl (by omega)) <| Q (fA fa129_0 rfl) <| SR.storeO (o := 0) (vs := [.int .i64 (k + 2 * (i : Int))]) (x1 := { x8 with Map := k + 2 * (i : Int) }) sca3.2 rfl (add_add _ _ _) rfl rfl hm5 hx9 rfl ler rfl ?_
   intro w10 hk11 hs12 hO13
   have hz14 := hk11.size
   have hx16 : ((mkL mkAway 2 i k ++ L.drop i).set ((i : Int).toNat) ({ x8 with Map := k + 2 * (i : Int) }))[(i : Int).toNat]? = some ({ x8 with Map := k + 2 * (i : Int) }) := List.getElem?_set_self (List.getElem?_eq_some_iff.1 hx9).1
   refine Qn (Ws (Wr (Q (mI rfl) <| Q (r_add rfl rfl (by omega)) <| Q (aI rfl) <| Qn (Ws (Wr (Q (mL rfl) <| Q (mI rfl) <| Q (mI rfl) <| Q (r_ixR tsl32 (hO13.rd) rfl rfl (by omega)) <| Q (fA fa129_1 rfl) <| SR.storeO (o := 1) (vs := [.int .i64 ((k + 2 * (i : Int)) + 1)]) (x1 := { ({ x8 with Map := k + 2 * (i : Int) }) with Reader := (k + 2 * (i : Int)) + 1 }) sca3.2 rfl (add_add _ _ _) rfl rfl hO13 hx16 rfl ler rfl ?_))))))
   intro w17 hk18 hs19 hO20
   have hz21 := hk18.size
   rw [List.set_set] at hO20
   have hx23 : ((mkL mkAway 2 i k ++ L.drop i).set ((i : Int).toNat) ({ ({ x8 with Map := k + 2 * (i : Int) }) with Reader := (k + 2 * (i : Int)) + 1 }))[(i : Int).toNat]? = some ({ ({ x8 with Map := k + 2 * (i : Int) }) with Reader := (k + 2 * (i : Int)) + 1 }) := List.getElem?_set_self (List.getElem?_eq_some_iff.1 hx9).1
   refine Qn (Wr (Q (mI rfl) <| Q (r_add rfl rfl (by omega)) <| Q (aI rfl) <| Qn (Wr (Q (mI rfl) <| Q (r_add rfl rfl (by omega)) <| Q (aI rfl) <| Qn (⟨i + 1, _, rfl, ⟨rfl, (eI (by first | omega | (dsimp only; omega))), rfl, (eI (by first | omega | (dsimp only; omega))), trivial⟩, ⟨((hB3.step hk11 (fun i_ hi_ e' => by have := hm5.base_le e'; first | omega | exact e' | exact .inl e' | exact .inr e')).step hk18 (fun i_ hi_ e' => by have := hO13.base_le e'; first | omega | exact e' | exact .inl e' | exact .inr e')), (SlO.eqv hO20 (by exact mkL_set (by omega) (by first | (simp [mkAway]; done) | (simp [mkAway]; omega)))), ?_⟩, ?_⟩)))))
   ·exact (by omega)
   ·exact (by omega)
  ·refine W.exit (xin_here (Ws (Wr (Q (mI rfl) <| Q (aI rfl) <| Qn (W.ret (ret1 rfl (v := .int .i64 _) rfl ?_))))))
   refine ⟨eR (eI ?_), (SlO.eqv hm5 ?_), hB3⟩ <;> (first | omega | exact mkL_end hleL (by assumption) (by omega))
theorem z_c_laws_szLog_10 (r : Log) (left : Int) (hp0 : 0 ≤ left) (hp1 : left ≤ 1048576) (hp2 : (r.Durable.length : Int) ≤ 9223372036854775807) (hp3 : (r.Pending.length : Int) ≤ 9223372036854775807) (h9 : (left - (r.Durable.length : Int)) < 0) : (-1) = szN (r.Durable.length + r.Pending.length) left := by
 first | exact szN_neg ‹_› | exact szN_neg1 ‹_› | exact szN_neg2 ‹_› ‹_› | exact szN_add ‹_› ‹_› | (unfold szN at *; repeat (split at *)) <;> omega
theorem z_c_laws_szLog_12 (r : Log) (left : Int) (hp0 : 0 ≤ left) (hp1 : left ≤ 1048576) (hp2 : (r.Durable.length : Int) ≤ 9223372036854775807) (hp3 : (r.Pending.length : Int) ≤ 9223372036854775807) (h9 : ¬ ((left - (r.Durable.length : Int)) < 0)) (h11 : ((left - (r.Durable.length : Int)) - (r.Pending.length : Int)) < 0) : (-1) = szN (r.Durable.length + r.Pending.length) left := by
 first | exact szN_neg ‹_› | exact szN_neg1 ‹_› | exact szN_neg2 ‹_› ‹_› | exact szN_add ‹_› ‹_› | (unfold szN at *; repeat (split at *)) <;> omega
theorem z_c_laws_szLog_13 (r : Log) (left : Int) (hp0 : 0 ≤ left) (hp1 : left ≤ 1048576) (hp2 : (r.Durable.length : Int) ≤ 9223372036854775807) (hp3 : (r.Pending.length : Int) ≤ 9223372036854775807) (h9 : ¬ ((left - (r.Durable.length : Int)) < 0)) (h11 : ¬ (((left - (r.Durable.length : Int)) - (r.Pending.length : Int)) < 0)) : (left - (r.Durable.length : Int)) - (r.Pending.length : Int) = szN (r.Durable.length + r.Pending.length) left := by
 first | exact szN_neg ‹_› | exact szN_neg1 ‹_› | exact szN_neg2 ‹_› ‹_› | exact szN_add ‹_› ‹_› | (unfold szN at *; repeat (split at *)) <;> omega
theorem c_laws_szLog (w : World) (r : Log) (left : Int) (hp0 : 0 ≤ left) (hp1 : left ≤ 1048576) (hp2 : (r.Durable.length : Int) ≤ 9223372036854775807) (hp3 : (r.Pending.length : Int) ≤ 9223372036854775807) : Calls Tryz.prog 32 #[.agg (List.toArray (encLog r)), .int .i64 left] w fun e w' => e = .returned (.int .i64 (szN (r.Durable.length + r.Pending.length) left)) ∧ Lo w w' := by
 refine calls_W 20 Tryz.func32 rfl rfl rfl (Ws (Wr (SR.box (v := .agg (List.toArray _)) (l := [str r.Durable, str r.Pending, .int .i64 r.Count]) rfl rfl ?_)))
 intro g1 w2 hg3 hk4 hs5 hb6
 have hB8 := (Lo.refl w).lo hk4
 refine Q (aI rfl) <| Qn (Ws (Wr (Q (mI rfl) <| Q (fA fa27_0 rfl) <| Q (lB sca9 rfl hb6 rfl) <| Q (r_len_s und9 rfl) <| Q (r_sub rfl rfl (by omega)) <| Q (aI rfl) <| Qn (Ws (Ws (Wr (Q (mI rfl) <| Q (r_lt rfl rfl) <| Qn (W.cond_d rfl (fun h9 => ?_) (fun h9 => ?_)))))))))
 ·refine Ws (Wr (Q (r_as (v := .int .i64 (-1)) rfl) <| Qn (W.ret (ret1 rfl (v := .int .i64 _) rfl (⟨eR (eI (z_c_laws_szLog_10 r left hp0 hp1 hp2 hp3 h9)), hB8⟩)))))
 ·refine W.skip (Ws (Wr (Q (mI rfl) <| Q (fA fa27_1 rfl) <| Q (lB sca9 rfl hb6 rfl) <| Q (r_len_s und9 rfl) <| Q (r_sub rfl rfl (by omega)) <| Q (aI rfl) <| Qn (Ws (Ws (Wr (Q (mI rfl) <| Q (r_lt rfl rfl) <| Qn (W.cond_d rfl (fun h11 => ?_) (fun h11 => ?_)))))))))
  ·refine Ws (Wr (Q (r_as (v := .int .i64 (-1)) rfl) <| Qn (W.ret (ret1 rfl (v := .int .i64 _) rfl (⟨eR (eI (z_c_laws_szLog_12 r left hp0 hp1 hp2 hp3 h9 h11)), hB8⟩)))))
  ·refine W.skip (Ws (Wr (Q (mI rfl) <| Q (aI rfl) <| Qn (W.ret (ret1 rfl (v := .int .i64 _) rfl (⟨eR (eI (z_c_laws_szLog_13 r left hp0 hp1 hp2 hp3 h9 h11)), hB8⟩))))))
theorem c_laws_toLog (w : World) (r : Log) : Calls Tryz.prog 33 #[.agg (List.toArray (encLog r))] w fun e w' => e = .returned (.agg (List.toArray (encLog r))) ∧ Lo w w' := by
 refine calls_W 14 Tryz.func33 rfl rfl rfl (Ws (Wr (SR.box (v := .agg (List.toArray _)) (l := [str r.Durable, str r.Pending, .int .i64 r.Count]) rfl rfl ?_)))
 intro g1 w2 hg3 hk4 hs5 hb6
 refine SR.alloc (l := [str ([] : List UInt8), str ([] : List UInt8), .int .i64 0]) tz35 rfl ?_
 intro g9 w10 hg11 hk12 hs13 hb14
 refine Qn (Ws (Wr (SR.alloc (l := [str ([] : List UInt8), str ([] : List UInt8), .int .i64 0]) tz35 rfl ?_)))
 intro g17 w18 hg19 hk20 hs21 hb22
 refine Qn (Ws ?_)
 have hm25 := (hb6.lo hk12).lo hk20
 refine Wr (Q (fA fa27_0 rfl) <| Q (lB sca9 rfl hm25 rfl) <| Q (fA fa35_0 rfl) <| Qw (o := 0) (vs := [str r.Durable]) sca9.2 rfl rfl rfl rfl hb22 ler rfl ?_)
 intro w26 hk27 hs28 hb29
 refine Qn (Ws (Wr (Q (fA fa27_1 rfl) <| Q (lB sca9 rfl (hm25.kn hk27) rfl) <| Q (fA fa35_1 rfl) <| Qw (o := 1) (vs := [str r.Pending]) sca9.2 rfl rfl rfl rfl hb29 ler rfl ?_)))
 intro w33 hk34 hs35 hb36
 refine Qn (Ws (Wr (Q (fA fa27_2 rfl) <| Q (lB sca3 rfl ((hm25.kn hk27).kn hk34) rfl) <| Q (fA fa35_2 rfl) <| Qw (o := 2) (vs := [.int .i64 r.Count]) sca3.2 rfl rfl rfl rfl hb36 ler rfl ?_)))
 intro w40 hk41 hs42 hb43
 refine Qn (Ws (Wr (Q (lG agg35 rfl hb43 rfl) <| Qw (o := 0) (vs := [str r.Durable, str r.Pending, .int .i64 r.Count]) agg35.2 rfl rfl rfl rfl ((((hb14.lo hk20).kn hk27).kn hk34).kn hk41) ler rfl ?_)))
 intro w47 hk48 hs49 hb50
 refine Qn (W.ret (retC rfl rfl agg35 hb50 rfl (⟨eR (eA (by first | rfl | (first | rfl | omega | grind))), ((((((((Lo.refl w).lo hk4).lo hk12).lo hk20).new hk27).new hk34).new hk41).new hk48)⟩)))
theorem c_laws_eqLog (w : World) (a : Log) (b : Log) : Calls Tryz.prog 52 #[.agg (List.toArray (encLog a)), .agg (List.toArray (encLog b))] w fun e w' => e = .returned (.bool (decide (a = b))) ∧ Lo w w' := by
 refine calls_W 20 Tryz.func52 rfl rfl rfl (Ws (Wr (SR.box (v := .agg (List.toArray _)) (l := [str a.Durable, str a.Pending, .int .i64 a.Count]) rfl rfl ?_)))
 intro g1 w2 hg3 hk4 hs5 hb6
 refine SR.box (v := .agg (List.toArray _)) (l := [str b.Durable, str b.Pending, .int .i64 b.Count]) rfl rfl ?_
 intro g9 w10 hg11 hk12 hs13 hb14
 have hB16 := ((Lo.refl w).lo hk4).lo hk12
 refine Q (aB rfl) <| Qn (Ws (Ws (Wr (Q (fA fa35_0 rfl) <| Q (lB sca9 rfl (hb6.lo hk12) rfl) <| Q (fA fa35_0 rfl) <| Q (lB sca9 rfl hb14 rfl) <| Q (r_nes (s := a.Durable) (r := b.Durable) rfl rfl) <| Qn (W.cond_n rfl (fun h17 => ?_) (fun h17 => ?_))))))
 ·refine Ws (Wr (Q (aB rfl) <| Qn (W.ret (ret1 rfl (v := .bool _) rfl (⟨eR (eDF (by cases a; cases b; simp_all)), hB16⟩)))))
 ·refine W.skip (Ws (Ws (Wr (Q (fA fa35_1 rfl) <| Q (lB sca9 rfl (hb6.lo hk12) rfl) <| Q (fA fa35_1 rfl) <| Q (lB sca9 rfl hb14 rfl) <| Q (r_nes (s := a.Pending) (r := b.Pending) rfl rfl) <| Qn (W.cond_n rfl (fun h18 => ?_) (fun h18 => ?_))))))
  ·refine Ws (Wr (Q (aB rfl) <| Qn (W.ret (ret1 rfl (v := .bool _) rfl (⟨eR (eDF (by cases a; cases b; simp_all)), hB16⟩)))))
  ·refine W.skip (Ws (Ws (Wr (Q (fA fa35_2 rfl) <| Q (lB sca3 rfl (hb6.lo hk12) rfl) <| Q (fA fa35_2 rfl) <| Q (lB sca3 rfl hb14 rfl) <| Q (r_ne rfl rfl) <| Qn (W.cond_n rfl (fun h19 => ?_) (fun h19 => ?_))))))
   ·refine Ws (Wr (Q (aB rfl) <| Qn (W.ret (ret1 rfl (v := .bool _) rfl (⟨eR (eDF (by cases a; cases b; simp_all)), hB16⟩)))))
   ·refine W.skip (Ws (Wr (Q (aB rfl) <| Qn (W.ret (ret1 rfl (v := .bool _) rfl (⟨eR (eDT (by cases a; cases b; simp_all)), hB16⟩))))))
theorem c_laws_toLibrary (w : World) (r : Library) {Ar1 : Option Addr} {nr1 cr1 Br1 : Nat} (hr1 : SlR w Br1 encLMap 3 Ar1 nr1 cr1 r.Maps) {Ar2 : Option Addr} {nr2 cr2 Br2 : Nat} (hr2 : SlR w Br2 encAway 2 Ar2 nr2 cr2 r.Away) (hp0 : (nr1 : Int) ≤ 1048576) (hp1 : (nr2 : Int) ≤ 1048576) : Calls Tryz.prog 46 #[.agg (List.toArray (cLb Ar1 nr1 cr1 Ar2 nr2 cr2 r))] w fun e w' => ∃ (A1' : Option Addr) (n1' c1' : Nat) (A2' : Option Addr) (n2' c2' : Nat), e = .returned (.agg (List.toArray (cLb A1' n1' c1' A2' n2' c2' r))) ∧ SlO w' w.heap.size encLMap 3 102 A1' n1' c1' r.Maps ∧ SlO w' w.heap.size encAway 2 129 A2' n2' c2' r.Away ∧ Dj A1' A2' ∧ Lo w w' := by
 refine calls_W 22 Tryz.func46 rfl rfl rfl ?_
 have hbdr1 := hr1.bound
 have hler1 := hr1.len
 have hBbr1 := hr1.bd
 have hbdr2 := hr2.bound
 have hler2 := hr2.len
 have hBbr2 := hr2.bd
 refine Ws (Wr (SR.box (v := .agg (List.toArray _)) (l := (cLb Ar1 nr1 cr1 Ar2 nr2 cr2 r)) rfl rfl ?_))
 intro g1 w2 hg3 hk4 hs5 hb6
 refine SR.alloc (l := [.slice none 0 0, .slice none 0 0, .int .i64 0, .int .i64 0, .int .i64 0]) tz34 rfl ?_
 intro g9 w10 hg11 hk12 hs13 hb14
 refine Qn (Ws (Wr (SR.alloc (l := [.slice none 0 0, .slice none 0 0, .int .i64 0, .int .i64 0, .int .i64 0]) tz34 rfl ?_)))
 intro g19 w20 hg21 hk22 hs23 hb24
 refine Qn (Ws ?_)
 have hm27 := (hb6.lo hk12).lo hk22
 refine Wr (Q (fA fa25_0 rfl) <| Q (lB sca22 rfl hm27 rfl) <| SR.call ent89 (c_laws_toMapS w20 r.Maps (((hr1.lo hk4).lo hk12).lo hk22) (by omega)) rfl ?_)
 rintro e w28 ⟨A30, n31, c32, rfl, hO33, hk29⟩
 refine ⟨_, rfl, ?_⟩
 have hz34 := hk29.size
 have hl36 := hO33.len
 have hl37 := hO33.rd.bound
 refine Q (fA fa34_0 rfl) <| Qw (o := 0) (vs := [.slice A30 n31 c32]) sca31.2 rfl rfl rfl rfl (hb24.lo hk29) ler rfl ?_
 intro w38 hk39 hs40 hb41
 refine Qn (Ws ?_)
 have hm44 := (hm27.lo hk29).kn hk39
 refine Wr (Q (fA fa25_1 rfl) <| Q (lB sca23 rfl hm44 rfl) <| SR.call ent90 (c_laws_toAwayS w38 r.Away (((((hr2.lo hk4).lo hk12).lo hk22).lo hk29).kn hk39) (by omega)) rfl ?_)
 rintro e w48 ⟨A50, n51, c52, rfl, hO53, hk49⟩
 refine ⟨_, rfl, ?_⟩
 have hz54 := hk49.size
 have hl56 := hO53.len
 have hl57 := hO53.rd.bound
 refine Q (fA fa34_1 rfl) <| Qw (o := 1) (vs := [.slice A50 n51 c52]) sca32.2 rfl rfl rfl rfl (hb41.lo hk49) ler rfl ?_
 intro w58 hk59 hs60 hb61
 refine Qn (Ws ?_)
 have hm64 := (hm44.lo hk49).kn hk59
 refine Wr (Q (fA fa25_2 rfl) <| Q (lB sca3 rfl hm64 rfl) <| Q (fA fa34_2 rfl) <| Qw (o := 2) (vs := [.int .i64 r.Bought]) sca3.2 rfl rfl rfl rfl hb61 ler rfl ?_)
 intro w69 hk70 hs71 hb72
 refine Qn (Ws (Wr (Q (fA fa25_3 rfl) <| Q (lB sca3 rfl (hm64.kn hk70) rfl) <| Q (fA fa34_3 rfl) <| Qw (o := 3) (vs := [.int .i64 r.Dropped]) sca3.2 rfl rfl rfl rfl hb72 ler rfl ?_)))
 intro w76 hk77 hs78 hb79
 refine Qn (Ws (Wr (Q (fA fa25_4 rfl) <| Q (lB sca3 rfl ((hm64.kn hk70).kn hk77) rfl) <| Q (fA fa34_4 rfl) <| Qw (o := 4) (vs := [.int .i64 r.Mended]) sca3.2 rfl rfl rfl rfl hb79 ler rfl ?_)))
 intro w87 hk88 hs89 hb90
 refine Qn (Ws ?_)
 have hm93 := (((hO53.kn hk59).kn hk70).kn hk77).kn hk88
 refine Wr (Q (lG agg34 rfl hb90 rfl) <| Qw (o := 0) (vs := (cLb A30 n31 c32 A50 n51 c52 r)) agg34.2 rfl rfl rfl rfl ((((((((hb14.lo hk22).lo hk29).kn hk39).lo hk49).kn hk59).kn hk70).kn hk77).kn hk88) ler rfl ?_)
 intro w94 hk95 hs96 hb97
 refine Qn (W.ret (retC rfl rfl agg34 hb97 rfl (⟨A30, n31, c32, A50, n51, c52, eR rfl, ((((((((hO33.kn hk39).lo hk49).kn hk59).kn hk70).kn hk77).kn hk88).kn hk95).down), ((hm93.kn hk95).down), (fun b_ h h' => by have h1 := (hO33.kn hk39).base_le h; have h2 := (hm93.kn hk95).base_le h'; omega), ((((((((((((Lo.refl w).lo hk4).lo hk12).lo hk22).lo hk29).new hk39).lo hk49).new hk59).new hk70).new hk77).new hk88).new hk95)⟩)))
theorem z_c_laws_szLibrary_16 (r : Library) (nr1 : Nat) (hbdr1 : (nr1 : Int) ≤ 9223372036854775807) (hler1 : nr1 = r.Maps.length) (nr2 : Nat) (hbdr2 : (nr2 : Int) ≤ 9223372036854775807) (hler2 : nr2 = r.Away.length) (left : Int) (hp0 : 0 ≤ left) (hp1 : left ≤ 1048576) (h15 : (szN r.Maps.length left) < 0) : (-1) = szN (r.Maps.length + r.Away.length) left := by
 first | exact szN_neg ‹_› | exact szN_neg1 ‹_› | exact szN_neg2 ‹_› ‹_› | exact szN_add ‹_› ‹_› | (unfold szN at *; repeat (split at *)) <;> omega
theorem z_c_laws_szLibrary_23 (r : Library) (nr1 : Nat) (hbdr1 : (nr1 : Int) ≤ 9223372036854775807) (hler1 : nr1 = r.Maps.length) (nr2 : Nat) (hbdr2 : (nr2 : Int) ≤ 9223372036854775807) (hler2 : nr2 = r.Away.length) (left : Int) (hp0 : 0 ≤ left) (hp1 : left ≤ 1048576) (h15 : ¬ ((szN r.Maps.length left) < 0)) (hq17 : ((r.Maps.length : Nat) : Int) ≤ left ∧ szN r.Maps.length left = left - (r.Maps.length : Int)) (h22 : (szN r.Away.length (szN r.Maps.length left)) < 0) : (-1) = szN (r.Maps.length + r.Away.length) left := by
 first | exact szN_neg ‹_› | exact szN_neg1 ‹_› | exact szN_neg2 ‹_› ‹_› | exact szN_add ‹_› ‹_› | (unfold szN at *; repeat (split at *)) <;> omega
theorem z_c_laws_szLibrary_25 (r : Library) (nr1 : Nat) (hbdr1 : (nr1 : Int) ≤ 9223372036854775807) (hler1 : nr1 = r.Maps.length) (nr2 : Nat) (hbdr2 : (nr2 : Int) ≤ 9223372036854775807) (hler2 : nr2 = r.Away.length) (left : Int) (hp0 : 0 ≤ left) (hp1 : left ≤ 1048576) (h15 : ¬ ((szN r.Maps.length left) < 0)) (hq17 : ((r.Maps.length : Nat) : Int) ≤ left ∧ szN r.Maps.length left = left - (r.Maps.length : Int)) (h22 : ¬ ((szN r.Away.length (szN r.Maps.length left)) < 0)) (hq24 : ((r.Away.length : Nat) : Int) ≤ (szN r.Maps.length left) ∧ szN r.Away.length (szN r.Maps.length left) = (szN r.Maps.length left) - (r.Away.length : Int)) : szN r.Away.length (szN r.Maps.length left) = szN (r.Maps.length + r.Away.length) left := by
 first | exact szN_neg ‹_› | exact szN_neg1 ‹_› | exact szN_neg2 ‹_› ‹_› | exact szN_add ‹_› ‹_› | (unfold szN at *; repeat (split at *)) <;> omega
theorem c_laws_szLibrary (w : World) (r : Library) {Ar1 : Option Addr} {nr1 cr1 Br1 : Nat} (hr1 : SlR w Br1 encLMap 3 Ar1 nr1 cr1 r.Maps) {Ar2 : Option Addr} {nr2 cr2 Br2 : Nat} (hr2 : SlR w Br2 encAway 2 Ar2 nr2 cr2 r.Away) (left : Int) (hp0 : 0 ≤ left) (hp1 : left ≤ 1048576) : Calls Tryz.prog 40 #[.agg (List.toArray (cLb Ar1 nr1 cr1 Ar2 nr2 cr2 r)), .int .i64 left] w fun e w' => e = .returned (.int .i64 (szN (r.Maps.length + r.Away.length) left)) ∧ Lo w w' := by
 refine calls_W 18 Tryz.func40 rfl rfl rfl ?_
 have hbdr1 := hr1.bound
 have hler1 := hr1.len
 have hBbr1 := hr1.bd
 have hbdr2 := hr2.bound
 have hler2 := hr2.len
 have hBbr2 := hr2.bd
 refine Ws (Wr (SR.box (v := .agg (List.toArray _)) (l := (cLb Ar1 nr1 cr1 Ar2 nr2 cr2 r)) rfl rfl ?_))
 intro g1 w2 hg3 hk4 hs5 hb6
 refine Q (aI rfl) <| Qn (Ws (Wr (Q (fA fa25_0 rfl) <| Q (lB sca22 rfl hb6 rfl) <| Q (mI rfl) <| Qv ent77 (c_laws_szMapS w2 r.Maps (hr1.lo hk4) left (by omega) (by omega)) rfl fun w9 hk10 hz11 => ?_)))
 have hB12 := ((Lo.refl w).lo hk4).lo hk10
 refine Q (aI rfl) <| Qn (Ws (Ws (Wr (Q (mI rfl) <| Q (r_lt rfl rfl) <| Qn (W.cond_d rfl (fun h15 => ?_) (fun h15 => ?_))))))
 ·refine Ws (Wr (Q (r_as (v := .int .i64 (-1)) rfl) <| Qn (W.ret (ret1 rfl (v := .int .i64 _) rfl (⟨eR (eI (z_c_laws_szLibrary_16 r nr1 hbdr1 hler1 nr2 hbdr2 hler2 left hp0 hp1 h15)), hB12⟩)))))
 ·have hq17 := szN_ok h15
  refine W.skip (Ws (Wr (Q (fA fa25_1 rfl) <| Q (lB sca23 rfl (hb6.lo hk10) rfl) <| Q (mI rfl) <| Qv ent78 (c_laws_szAwayS w9 r.Away ((hr2.lo hk4).lo hk10) (szN r.Maps.length left) (by omega) (by omega)) rfl fun w18 hk19 hz20 => ?_)))
  have hB21 := hB12.lo hk19
  refine Q (aI rfl) <| Qn (Ws (Ws (Wr (Q (mI rfl) <| Q (r_lt rfl rfl) <| Qn (W.cond_d rfl (fun h22 => ?_) (fun h22 => ?_))))))
  ·refine Ws (Wr (Q (r_as (v := .int .i64 (-1)) rfl) <| Qn (W.ret (ret1 rfl (v := .int .i64 _) rfl (⟨eR (eI (z_c_laws_szLibrary_23 r nr1 hbdr1 hler1 nr2 hbdr2 hler2 left hp0 hp1 h15 hq17 h22)), hB21⟩)))))
  ·have hq24 := szN_ok h22
   refine W.skip (Ws (Wr (Q (mI rfl) <| Q (aI rfl) <| Qn (W.ret (ret1 rfl (v := .int .i64 _) rfl (⟨eR (eI (z_c_laws_szLibrary_25 r nr1 hbdr1 hler1 nr2 hbdr2 hler2 left hp0 hp1 h15 hq17 h22 hq24)), hB21⟩))))))
theorem c_laws_eqLibrary (w : World) (a : Library) {Aa1 : Option Addr} {na1 ca1 Ba1 : Nat} (ha1 : SlR w Ba1 encLMap 3 Aa1 na1 ca1 a.Maps) {Aa2 : Option Addr} {na2 ca2 Ba2 : Nat} (ha2 : SlR w Ba2 encAway 2 Aa2 na2 ca2 a.Away) (b : Library) {Ab1 : Option Addr} {nb1 cb1 Bb1 : Nat} (hb1 : SlR w Bb1 encLMap 3 Ab1 nb1 cb1 b.Maps) {Ab2 : Option Addr} {nb2 cb2 Bb2 : Nat} (hb2 : SlR w Bb2 encAway 2 Ab2 nb2 cb2 b.Away) : Calls Tryz.prog 51 #[.agg (List.toArray (cLb Aa1 na1 ca1 Aa2 na2 ca2 a)), .agg (List.toArray (cLb Ab1 nb1 cb1 Ab2 nb2 cb2 b))] w fun e w' => e = .returned (.bool (decide (a = b))) ∧ Lo w w' := by
 refine calls_W 32 Tryz.func51 rfl rfl rfl ?_
 have hbda1 := ha1.bound
 have hlea1 := ha1.len
 have hBba1 := ha1.bd
 have hbda2 := ha2.bound
 have hlea2 := ha2.len
 have hBba2 := ha2.bd
 have hbdb1 := hb1.bound
 have hleb1 := hb1.len
 have hBbb1 := hb1.bd
 have hbdb2 := hb2.bound
 have hleb2 := hb2.len
 have hBbb2 := hb2.bd
 refine Ws (Wr (SR.box (v := .agg (List.toArray _)) (l := (cLb Aa1 na1 ca1 Aa2 na2 ca2 a)) rfl rfl ?_))
 intro g1 w2 hg3 hk4 hs5 hb6
 refine SR.box (v := .agg (List.toArray _)) (l := (cLb Ab1 nb1 cb1 Ab2 nb2 cb2 b)) rfl rfl ?_
 intro g9 w10 hg11 hk12 hs13 hb14
 refine Q (aB rfl) <| Qn (Ws (Ws (Wr (Q (fA fa34_0 rfl) <| Q (lB sca31 rfl (hb6.lo hk12) rfl) <| Q (fA fa34_0 rfl) <| Q (lB sca31 rfl hb14 rfl) <| Qv ent100 (c_laws_eqMapS w10 a.Maps ((ha1.lo hk4).lo hk12) b.Maps ((hb1.lo hk4).lo hk12)) rfl fun w21 hk22 hz23 => ?_))))
 have hB24 := (((Lo.refl w).lo hk4).lo hk12).lo hk22
 refine Q (r_not rfl) <| Qn (W.cond_n rfl (fun h25 => ?_) (fun h25 => ?_))
 ·refine Ws (Wr (Q (aB rfl) <| Qn (W.ret (ret1 rfl (v := .bool _) rfl (⟨eR (eDF (by cases a; cases b; simp_all)), hB24⟩)))))
 ·refine W.skip (Ws (Ws ?_))
  have hm27 := (hb6.lo hk12).lo hk22
  refine Wr (Q (fA fa34_1 rfl) <| Q (lB sca32 rfl hm27 rfl) <| Q (fA fa34_1 rfl) <| Q (lB sca32 rfl (hb14.lo hk22) rfl) <| Qv ent101 (c_laws_eqAwayS w21 a.Away (((ha2.lo hk4).lo hk12).lo hk22) b.Away (((hb2.lo hk4).lo hk12).lo hk22)) rfl fun w28 hk29 hz30 => ?_)
  have hB31 := hB24.lo hk29
  refine Q (r_not rfl) <| Qn (W.cond_n rfl (fun h32 => ?_) (fun h32 => ?_))
  ·refine Ws (Wr (Q (aB rfl) <| Qn (W.ret (ret1 rfl (v := .bool _) rfl (⟨eR (eDF (by cases a; cases b; simp_all)), hB31⟩)))))
  ·refine W.skip (Ws (Ws ?_))
   have hm40 := (hb14.lo hk22).lo hk29
   refine Wr (Q (fA fa34_2 rfl) <| Q (lB sca3 rfl (hm27.lo hk29) rfl) <| Q (fA fa34_2 rfl) <| Q (lB sca3 rfl hm40 rfl) <| Q (r_ne rfl rfl) <| Qn (W.cond_n rfl (fun h43 => ?_) (fun h43 => ?_)))
   ·refine Ws (Wr (Q (aB rfl) <| Qn (W.ret (ret1 rfl (v := .bool _) rfl (⟨eR (eDF (by cases a; cases b; simp_all)), hB31⟩)))))
   ·refine W.skip (Ws (Ws (Wr (Q (fA fa34_3 rfl) <| Q (lB sca3 rfl (hm27.lo hk29) rfl) <| Q (fA fa34_3 rfl) <| Q (lB sca3 rfl hm40 rfl) <| Q (r_ne rfl rfl) <| Qn (W.cond_n rfl (fun h44 => ?_) (fun h44 => ?_))))))
    ·refine Ws (Wr (Q (aB rfl) <| Qn (W.ret (ret1 rfl (v := .bool _) rfl (⟨eR (eDF (by cases a; cases b; simp_all)), hB31⟩)))))
    ·refine W.skip (Ws (Ws (Wr (Q (fA fa34_4 rfl) <| Q (lB sca3 rfl (hm27.lo hk29) rfl) <| Q (fA fa34_4 rfl) <| Q (lB sca3 rfl hm40 rfl) <| Q (r_ne rfl rfl) <| Qn (W.cond_n rfl (fun h45 => ?_) (fun h45 => ?_))))))
     ·refine Ws (Wr (Q (aB rfl) <| Qn (W.ret (ret1 rfl (v := .bool _) rfl (⟨eR (eDF (by cases a; cases b; simp_all)), hB31⟩)))))
     ·refine W.skip (Ws (Wr (Q (aB rfl) <| Qn (W.ret (ret1 rfl (v := .bool _) rfl (⟨eR (eDT (by cases a; cases b; simp_all)), hB31⟩))))))
theorem c_laws_markLibrary (w : World) (r : Library) {Ar1 : Option Addr} {nr1 cr1 Br1 : Nat} (hr1 : SlO w Br1 encLMap 3 102 Ar1 nr1 cr1 r.Maps) {Ar2 : Option Addr} {nr2 cr2 Br2 : Nat} (hr2 : SlO w Br2 encAway 2 129 Ar2 nr2 cr2 r.Away) (k : Int) (hdr_Maps_r2 : Dj Ar1 Ar2) (hp0 : 0 ≤ k) (hp1 : k ≤ 1000) (hp2 : (nr1 : Int) ≤ 1048576) (hp3 : (nr2 : Int) ≤ 1048576) : Calls Tryz.prog 53 #[.agg (List.toArray (cLb Ar1 nr1 cr1 Ar2 nr2 cr2 r)), .int .i64 k] w fun e w' => e = .returned (.int .i64 (k + 3 * (r.Maps.length : Int) + 2 * (r.Away.length : Int))) ∧ SlO w' Br1 encLMap 3 102 Ar1 nr1 cr1 (mkL mkLMap 3 r.Maps.length k) ∧ SlO w' Br2 encAway 2 129 Ar2 nr2 cr2 (mkL mkAway 2 r.Away.length (k + 3 * (r.Maps.length : Int))) ∧ Kp (fun b_ => Ar1 = some ⟨b_, 0, none⟩ ∨ Ar2 = some ⟨b_, 0, none⟩) w w' := by
 refine calls_W 14 Tryz.func53 rfl rfl rfl ?_
 have hbdr1 := hr1.rd.bound
 have hler1 := hr1.len
 have hBbr1 := hr1.bd
 have hbdr2 := hr2.rd.bound
 have hler2 := hr2.len
 have hBbr2 := hr2.bd
 refine Ws (Wr (SR.box (v := .agg (List.toArray _)) (l := (cLb Ar1 nr1 cr1 Ar2 nr2 cr2 r)) rfl rfl ?_))
 intro g1 w2 hg3 hk4 hs5 hb6
 refine Q (aI rfl) <| Qn (Ws (Wr (Q (fA fa34_0 rfl) <| Q (lB sca31 rfl hb6 rfl) <| Q (mI rfl) <| SR.call ent102 (c_laws_markMapS w2 r.Maps (hr1.lo hk4) k (by omega) (by omega) (by omega)) rfl ?_)))
 rintro e w11 ⟨rfl, hO13, hk12⟩
 refine ⟨_, rfl, ?_⟩
 have hz14 := hk12.size
 refine Q (aI rfl) <| Qn (Ws ?_)
 have hm16 := (hr2.lo hk4).kp hk12 (fun b_ hb e' => hdr_Maps_r2 b_ e' hb)
 refine Wr (Q (fA fa34_1 rfl) <| Q (lB sca32 rfl (hb6.kp hk12 (fun e' => (SlO.ne (g := g1) hr1) e')) rfl) <| Q (mI rfl) <| SR.call ent103 (c_laws_markAwayS w11 r.Away hm16 (k + 3 * (r.Maps.length : Int)) (by omega) (by omega) (by omega)) rfl ?_)
 rintro e w17 ⟨rfl, hO19, hk18⟩
 refine ⟨_, rfl, ?_⟩
 have hz20 := hk18.size
 refine Q (aI rfl) <| Qn (Ws (Wr (Q (mI rfl) <| Q (aI rfl) <| Qn (W.ret (ret1 rfl (v := .int .i64 _) rfl (⟨eR (eI (by first | rfl | omega)), (hO13.kp hk18 (fun b_ hb e' => hdr_Maps_r2 b_ hb e')), hO19, ((((Kp.refl w : Kp (fun b_ => Ar1 = some ⟨b_, 0, none⟩ ∨ Ar2 = some ⟨b_, 0, none⟩) w w).lo hk4).step hk12 (fun i_ hi_ e' => by have := (hr1.lo hk4).base_le e'; first | omega | exact e' | exact .inl e' | exact .inr e')).step hk18 (fun i_ hi_ e' => by have := hm16.base_le e'; first | omega | exact e' | exact .inl e' | exact .inr e'))⟩))))))
theorem z_c_laws_szConsole_16 (r : Console) (nr_Library_Maps : Nat) (hbdr_Library_Maps : (nr_Library_Maps : Int) ≤ 9223372036854775807) (hler_Library_Maps : nr_Library_Maps = r.Library.Maps.length) (nr_Library_Away : Nat) (hbdr_Library_Away : (nr_Library_Away : Int) ≤ 9223372036854775807) (hler_Library_Away : nr_Library_Away = r.Library.Away.length) (left : Int) (hp0 : 0 ≤ left) (hp1 : left ≤ 1048576) (hp2 : (r.Log.Durable.length : Int) ≤ 9223372036854775807 ∧ (r.Log.Pending.length : Int) ≤ 9223372036854775807) (h15 : (szN (r.Library.Maps.length + r.Library.Away.length) left) < 0) : (-1) = szN (r.Library.Maps.length + r.Library.Away.length + r.Log.Durable.length + r.Log.Pending.length) left := by
 (unfold szN at *; repeat (split at *)) <;> omega
theorem z_c_laws_szConsole_24 (r : Console) (nr_Library_Maps : Nat) (hbdr_Library_Maps : (nr_Library_Maps : Int) ≤ 9223372036854775807) (hler_Library_Maps : nr_Library_Maps = r.Library.Maps.length) (nr_Library_Away : Nat) (hbdr_Library_Away : (nr_Library_Away : Int) ≤ 9223372036854775807) (hler_Library_Away : nr_Library_Away = r.Library.Away.length) (left : Int) (hp0 : 0 ≤ left) (hp1 : left ≤ 1048576) (hp2 : (r.Log.Durable.length : Int) ≤ 9223372036854775807 ∧ (r.Log.Pending.length : Int) ≤ 9223372036854775807) (h15 : ¬ ((szN (r.Library.Maps.length + r.Library.Away.length) left) < 0)) (hq17 : ((r.Library.Maps.length + r.Library.Away.length : Nat) : Int) ≤ left ∧ szN (r.Library.Maps.length + r.Library.Away.length) left = left - ((r.Library.Maps.length + r.Library.Away.length : Nat) : Int)) (hq18 : ((r.Library.Maps.length + r.Library.Away.length : Nat) : Int) ≤ left ∧ szN (r.Library.Maps.length + r.Library.Away.length) left = left - ((r.Library.Maps.length + r.Library.Away.length : Nat) : Int)) (h23 : (szN (r.Log.Durable.length + r.Log.Pending.length) (szN (r.Library.Maps.length + r.Library.Away.length) left)) < 0) : (-1) = szN (r.Library.Maps.length + r.Library.Away.length + r.Log.Durable.length + r.Log.Pending.length) left := by
 (unfold szN at *; repeat (split at *)) <;> omega
theorem z_c_laws_szConsole_27 (r : Console) (nr_Library_Maps : Nat) (hbdr_Library_Maps : (nr_Library_Maps : Int) ≤ 9223372036854775807) (hler_Library_Maps : nr_Library_Maps = r.Library.Maps.length) (nr_Library_Away : Nat) (hbdr_Library_Away : (nr_Library_Away : Int) ≤ 9223372036854775807) (hler_Library_Away : nr_Library_Away = r.Library.Away.length) (left : Int) (hp0 : 0 ≤ left) (hp1 : left ≤ 1048576) (hp2 : (r.Log.Durable.length : Int) ≤ 9223372036854775807 ∧ (r.Log.Pending.length : Int) ≤ 9223372036854775807) (h15 : ¬ ((szN (r.Library.Maps.length + r.Library.Away.length) left) < 0)) (hq17 : ((r.Library.Maps.length + r.Library.Away.length : Nat) : Int) ≤ left ∧ szN (r.Library.Maps.length + r.Library.Away.length) left = left - ((r.Library.Maps.length + r.Library.Away.length : Nat) : Int)) (hq18 : ((r.Library.Maps.length + r.Library.Away.length : Nat) : Int) ≤ left ∧ szN (r.Library.Maps.length + r.Library.Away.length) left = left - ((r.Library.Maps.length + r.Library.Away.length : Nat) : Int)) (h23 : ¬ ((szN (r.Log.Durable.length + r.Log.Pending.length) (szN (r.Library.Maps.length + r.Library.Away.length) left)) < 0)) (hq25 : ((r.Log.Durable.length + r.Log.Pending.length : Nat) : Int) ≤ (szN (r.Library.Maps.length + r.Library.Away.length) left) ∧ szN (r.Log.Durable.length + r.Log.Pending.length) (szN (r.Library.Maps.length + r.Library.Away.length) left) = (szN (r.Library.Maps.length + r.Library.Away.length) left) - ((r.Log.Durable.length + r.Log.Pending.length : Nat) : Int)) (hq26 : ((r.Log.Durable.length + r.Log.Pending.length : Nat) : Int) ≤ (szN (r.Library.Maps.length + r.Library.Away.length) left) ∧ szN (r.Log.Durable.length + r.Log.Pending.length) (szN (r.Library.Maps.length + r.Library.Away.length) left) = (szN (r.Library.Maps.length + r.Library.Away.length) left) - ((r.Log.Durable.length + r.Log.Pending.length : Nat) : Int)) : szN (r.Log.Durable.length + r.Log.Pending.length) (szN (r.Library.Maps.length + r.Library.Away.length) left) = szN (r.Library.Maps.length + r.Library.Away.length + r.Log.Durable.length + r.Log.Pending.length) left := by
 (unfold szN at *; repeat (split at *)) <;> omega
theorem c_laws_szConsole (w : World) (r : Console) {Ar_Library_Maps : Option Addr} {nr_Library_Maps cr_Library_Maps Br_Library_Maps : Nat} (hr_Library_Maps : SlR w Br_Library_Maps encLMap 3 Ar_Library_Maps nr_Library_Maps cr_Library_Maps r.Library.Maps) {Ar_Library_Away : Option Addr} {nr_Library_Away cr_Library_Away Br_Library_Away : Nat} (hr_Library_Away : SlR w Br_Library_Away encAway 2 Ar_Library_Away nr_Library_Away cr_Library_Away r.Library.Away) (left : Int) (hp0 : 0 ≤ left) (hp1 : left ≤ 1048576) (hp2 : (r.Log.Durable.length : Int) ≤ 9223372036854775807 ∧ (r.Log.Pending.length : Int) ≤ 9223372036854775807) : Calls Tryz.prog 9 #[.agg (List.toArray [.slice Ar_Library_Maps nr_Library_Maps cr_Library_Maps, .slice Ar_Library_Away nr_Library_Away cr_Library_Away, .int .i64 r.Library.Bought, .int .i64 r.Library.Dropped, .int .i64 r.Library.Mended, str r.Log.Durable, str r.Log.Pending, .int .i64 r.Log.Count]), .int .i64 left] w fun e w' => e = .returned (.int .i64 (szN (r.Library.Maps.length + r.Library.Away.length + r.Log.Durable.length + r.Log.Pending.length) left)) ∧ Lo w w' := by
 refine calls_W 18 Tryz.func9 rfl rfl rfl ?_
 have hbdr_Library_Maps := hr_Library_Maps.bound
 have hler_Library_Maps := hr_Library_Maps.len
 have hBbr_Library_Maps := hr_Library_Maps.bd
 have hbdr_Library_Away := hr_Library_Away.bound
 have hler_Library_Away := hr_Library_Away.len
 have hBbr_Library_Away := hr_Library_Away.bd
 refine Ws (Wr (SR.box (v := .agg (List.toArray _)) (l := [.slice Ar_Library_Maps nr_Library_Maps cr_Library_Maps, .slice Ar_Library_Away nr_Library_Away cr_Library_Away, .int .i64 r.Library.Bought, .int .i64 r.Library.Dropped, .int .i64 r.Library.Mended, str r.Log.Durable, str r.Log.Pending, .int .i64 r.Log.Count]) rfl rfl ?_))
 intro g1 w2 hg3 hk4 hs5 hb6
 refine Q (aI rfl) <| Qn (Ws (Wr (Q (fA fa29_0 rfl) <| Q (r_lda (l := (cLb Ar_Library_Maps nr_Library_Maps cr_Library_Maps Ar_Library_Away nr_Library_Away cr_Library_Away r.Library)) agg25 rfl (fun _ _ hu => hb6.cells (vs := (cLb Ar_Library_Maps nr_Library_Maps cr_Library_Maps Ar_Library_Away nr_Library_Away cr_Library_Away r.Library)) rfl hu) rfl) <| Q (mI rfl) <| Qv ent40 (c_laws_szLibrary w2 r.Library (hr_Library_Maps.lo hk4) (hr_Library_Away.lo hk4) left (by omega) (by omega)) rfl fun w9 hk10 hz11 => ?_)))
 have hB12 := ((Lo.refl w).lo hk4).lo hk10
 refine Q (aI rfl) <| Qn (Ws (Ws (Wr (Q (mI rfl) <| Q (r_lt rfl rfl) <| Qn (W.cond_d rfl (fun h15 => ?_) (fun h15 => ?_))))))
 ·refine Ws (Wr (Q (r_as (v := .int .i64 (-1)) rfl) <| Qn (W.ret (ret1 rfl (v := .int .i64 _) rfl (⟨eR (eI (z_c_laws_szConsole_16 r nr_Library_Maps hbdr_Library_Maps hler_Library_Maps nr_Library_Away hbdr_Library_Away hler_Library_Away left hp0 hp1 hp2 h15)), hB12⟩)))))
 ·have hq17 := szN_ok h15
  have hq18 := szN_ok h15
  refine W.skip (Ws (Wr (Q (fA fa29_1 rfl) <| Q (r_lda (l := [str r.Log.Durable, str r.Log.Pending, .int .i64 r.Log.Count]) agg27 rfl (fun _ _ hu => (hb6.lo hk10).cells (vs := [str r.Log.Durable, str r.Log.Pending, .int .i64 r.Log.Count]) rfl hu) rfl) <| Q (mI rfl) <| Qv ent32 (c_laws_szLog w9 r.Log (szN (r.Library.Maps.length + r.Library.Away.length) left) (by omega) (by omega) (by omega) (by omega)) rfl fun w19 hk20 hz21 => ?_)))
  have hB22 := hB12.lo hk20
  refine Q (aI rfl) <| Qn (Ws (Ws (Wr (Q (mI rfl) <| Q (r_lt rfl rfl) <| Qn (W.cond_d rfl (fun h23 => ?_) (fun h23 => ?_))))))
  ·refine Ws (Wr (Q (r_as (v := .int .i64 (-1)) rfl) <| Qn (W.ret (ret1 rfl (v := .int .i64 _) rfl (⟨eR (eI (z_c_laws_szConsole_24 r nr_Library_Maps hbdr_Library_Maps hler_Library_Maps nr_Library_Away hbdr_Library_Away hler_Library_Away left hp0 hp1 hp2 h15 hq17 hq18 h23)), hB22⟩)))))
  ·have hq25 := szN_ok h23
   have hq26 := szN_ok h23
   refine W.skip (Ws (Wr (Q (mI rfl) <| Q (aI rfl) <| Qn (W.ret (ret1 rfl (v := .int .i64 _) rfl (⟨eR (eI (z_c_laws_szConsole_27 r nr_Library_Maps hbdr_Library_Maps hler_Library_Maps nr_Library_Away hbdr_Library_Away hler_Library_Away left hp0 hp1 hp2 h15 hq17 hq18 h23 hq25 hq26)), hB22⟩))))))
theorem c_laws_toConsole (w : World) (r : Console) {Ar_Library_Maps : Option Addr} {nr_Library_Maps cr_Library_Maps Br_Library_Maps : Nat} (hr_Library_Maps : SlR w Br_Library_Maps encLMap 3 Ar_Library_Maps nr_Library_Maps cr_Library_Maps r.Library.Maps) {Ar_Library_Away : Option Addr} {nr_Library_Away cr_Library_Away Br_Library_Away : Nat} (hr_Library_Away : SlR w Br_Library_Away encAway 2 Ar_Library_Away nr_Library_Away cr_Library_Away r.Library.Away) (hp0 : (nr_Library_Maps : Int) ≤ 1048576) (hp1 : (nr_Library_Away : Int) ≤ 1048576) : Calls Tryz.prog 11 #[.agg (List.toArray [.slice Ar_Library_Maps nr_Library_Maps cr_Library_Maps, .slice Ar_Library_Away nr_Library_Away cr_Library_Away, .int .i64 r.Library.Bought, .int .i64 r.Library.Dropped, .int .i64 r.Library.Mended, str r.Log.Durable, str r.Log.Pending, .int .i64 r.Log.Count])] w fun e w' => ∃ (A1' : Option Addr) (n1' c1' : Nat) (A2' : Option Addr) (n2' c2' : Nat), e = .returned (.agg (List.toArray [.slice A1' n1' c1', .slice A2' n2' c2', .int .i64 r.Library.Bought, .int .i64 r.Library.Dropped, .int .i64 r.Library.Mended, str r.Log.Durable, str r.Log.Pending, .int .i64 r.Log.Count])) ∧ SlO w' w.heap.size encLMap 3 102 A1' n1' c1' r.Library.Maps ∧ SlO w' w.heap.size encAway 2 129 A2' n2' c2' r.Library.Away ∧ Dj A1' A2' ∧ Lo w w' := by
 refine calls_W 13 Tryz.func11 rfl rfl rfl ?_
 have hbdr_Library_Maps := hr_Library_Maps.bound
 have hler_Library_Maps := hr_Library_Maps.len
 have hBbr_Library_Maps := hr_Library_Maps.bd
 have hbdr_Library_Away := hr_Library_Away.bound
 have hler_Library_Away := hr_Library_Away.len
 have hBbr_Library_Away := hr_Library_Away.bd
 refine Ws (Wr (SR.box (v := .agg (List.toArray _)) (l := [.slice Ar_Library_Maps nr_Library_Maps cr_Library_Maps, .slice Ar_Library_Away nr_Library_Away cr_Library_Away, .int .i64 r.Library.Bought, .int .i64 r.Library.Dropped, .int .i64 r.Library.Mended, str r.Log.Durable, str r.Log.Pending, .int .i64 r.Log.Count]) rfl rfl ?_))
 intro g1 w2 hg3 hk4 hs5 hb6
 refine SR.alloc (l := [.slice none 0 0, .slice none 0 0, .int .i64 0, .int .i64 0, .int .i64 0, str ([] : List UInt8), str ([] : List UInt8), .int .i64 0]) tz37 rfl ?_
 intro g9 w10 hg11 hk12 hs13 hb14
 refine Qn (Ws (Wr (SR.alloc (l := [.slice none 0 0, .slice none 0 0, .int .i64 0, .int .i64 0, .int .i64 0, str ([] : List UInt8), str ([] : List UInt8), .int .i64 0]) tz37 rfl ?_)))
 intro g19 w20 hg21 hk22 hs23 hb24
 refine Qn (Ws ?_)
 have hm27 := (hb6.lo hk12).lo hk22
 refine Wr (Q (fA fa29_0 rfl) <| Q (r_lda (l := (cLb Ar_Library_Maps nr_Library_Maps cr_Library_Maps Ar_Library_Away nr_Library_Away cr_Library_Away r.Library)) agg25 rfl (fun _ _ hu => hm27.cells (vs := (cLb Ar_Library_Maps nr_Library_Maps cr_Library_Maps Ar_Library_Away nr_Library_Away cr_Library_Away r.Library)) rfl hu) rfl) <| SR.call ent46 (c_laws_toLibrary w20 r.Library (((hr_Library_Maps.lo hk4).lo hk12).lo hk22) (((hr_Library_Away.lo hk4).lo hk12).lo hk22) (by omega) (by omega)) rfl ?_)
 rintro e w28 ⟨A30, n31, c32, A34, n35, c36, rfl, hO33, hO37, hd38, hk29⟩
 refine ⟨_, rfl, ?_⟩
 have hz39 := hk29.size
 have hl41 := hO33.len
 have hl42 := hO33.rd.bound
 have hl43 := hO37.len
 have hl44 := hO37.rd.bound
 refine Q (fA fa37_0 rfl) <| Qw (o := 0) (vs := (cLb A30 n31 c32 A34 n35 c36 r.Library)) agg34.2 rfl rfl rfl rfl (hb24.lo hk29) ler rfl ?_
 intro w45 hk46 hs47 hb48
 refine Qn (Ws (Wr (Q (fA fa29_1 rfl) <| Q (r_lda (l := [str r.Log.Durable, str r.Log.Pending, .int .i64 r.Log.Count]) agg27 rfl (fun _ _ hu => ((hm27.lo hk29).kn hk46).cells (vs := [str r.Log.Durable, str r.Log.Pending, .int .i64 r.Log.Count]) rfl hu) rfl) <| Qv ent33 (c_laws_toLog w45 r.Log) rfl fun w55 hk56 hz57 => (Q (fA fa37_1 rfl) <| Qw (o := 5) (vs := [str r.Log.Durable, str r.Log.Pending, .int .i64 r.Log.Count]) agg35.2 rfl rfl rfl rfl (hb48.lo hk56) ler rfl ?_))))
 intro w59 hk60 hs61 hb62
 refine Qn (Ws (Wr (Q (lG agg37 rfl hb62 rfl) <| Qw (o := 0) (vs := [.slice A30 n31 c32, .slice A34 n35 c36, .int .i64 r.Library.Bought, .int .i64 r.Library.Dropped, .int .i64 r.Library.Mended, str r.Log.Durable, str r.Log.Pending, .int .i64 r.Log.Count]) agg37.2 rfl rfl rfl rfl (((((hb14.lo hk22).lo hk29).kn hk46).lo hk56).kn hk60) ler rfl ?_)))
 intro w68 hk69 hs70 hb71
 refine Qn (W.ret (retC rfl rfl agg37 hb71 rfl (⟨A30, n31, c32, A34, n35, c36, eR rfl, (((((hO33.kn hk46).lo hk56).kn hk60).kn hk69).down), (((((hO37.kn hk46).lo hk56).kn hk60).kn hk69).down), hd38, (((((((((Lo.refl w).lo hk4).lo hk12).lo hk22).lo hk29).new hk46).lo hk56).new hk60).new hk69)⟩)))
theorem c_laws_eqConsole (w : World) (a : Console) {Aa_Library_Maps : Option Addr} {na_Library_Maps ca_Library_Maps Ba_Library_Maps : Nat} (ha_Library_Maps : SlR w Ba_Library_Maps encLMap 3 Aa_Library_Maps na_Library_Maps ca_Library_Maps a.Library.Maps) {Aa_Library_Away : Option Addr} {na_Library_Away ca_Library_Away Ba_Library_Away : Nat} (ha_Library_Away : SlR w Ba_Library_Away encAway 2 Aa_Library_Away na_Library_Away ca_Library_Away a.Library.Away) (b : Console) {Ab_Library_Maps : Option Addr} {nb_Library_Maps cb_Library_Maps Bb_Library_Maps : Nat} (hb_Library_Maps : SlR w Bb_Library_Maps encLMap 3 Ab_Library_Maps nb_Library_Maps cb_Library_Maps b.Library.Maps) {Ab_Library_Away : Option Addr} {nb_Library_Away cb_Library_Away Bb_Library_Away : Nat} (hb_Library_Away : SlR w Bb_Library_Away encAway 2 Ab_Library_Away nb_Library_Away cb_Library_Away b.Library.Away) : Calls Tryz.prog 13 #[.agg (List.toArray [.slice Aa_Library_Maps na_Library_Maps ca_Library_Maps, .slice Aa_Library_Away na_Library_Away ca_Library_Away, .int .i64 a.Library.Bought, .int .i64 a.Library.Dropped, .int .i64 a.Library.Mended, str a.Log.Durable, str a.Log.Pending, .int .i64 a.Log.Count]), .agg (List.toArray [.slice Ab_Library_Maps nb_Library_Maps cb_Library_Maps, .slice Ab_Library_Away nb_Library_Away cb_Library_Away, .int .i64 b.Library.Bought, .int .i64 b.Library.Dropped, .int .i64 b.Library.Mended, str b.Log.Durable, str b.Log.Pending, .int .i64 b.Log.Count])] w fun e w' => e = .returned (.bool (decide (a = b))) ∧ Lo w w' := by
 refine calls_W 17 Tryz.func13 rfl rfl rfl ?_
 have hbda_Library_Maps := ha_Library_Maps.bound
 have hlea_Library_Maps := ha_Library_Maps.len
 have hBba_Library_Maps := ha_Library_Maps.bd
 have hbda_Library_Away := ha_Library_Away.bound
 have hlea_Library_Away := ha_Library_Away.len
 have hBba_Library_Away := ha_Library_Away.bd
 have hbdb_Library_Maps := hb_Library_Maps.bound
 have hleb_Library_Maps := hb_Library_Maps.len
 have hBbb_Library_Maps := hb_Library_Maps.bd
 have hbdb_Library_Away := hb_Library_Away.bound
 have hleb_Library_Away := hb_Library_Away.len
 have hBbb_Library_Away := hb_Library_Away.bd
 refine Ws (Wr (SR.box (v := .agg (List.toArray _)) (l := [.slice Aa_Library_Maps na_Library_Maps ca_Library_Maps, .slice Aa_Library_Away na_Library_Away ca_Library_Away, .int .i64 a.Library.Bought, .int .i64 a.Library.Dropped, .int .i64 a.Library.Mended, str a.Log.Durable, str a.Log.Pending, .int .i64 a.Log.Count]) rfl rfl ?_))
 intro g1 w2 hg3 hk4 hs5 hb6
 refine SR.box (v := .agg (List.toArray _)) (l := [.slice Ab_Library_Maps nb_Library_Maps cb_Library_Maps, .slice Ab_Library_Away nb_Library_Away cb_Library_Away, .int .i64 b.Library.Bought, .int .i64 b.Library.Dropped, .int .i64 b.Library.Mended, str b.Log.Durable, str b.Log.Pending, .int .i64 b.Log.Count]) rfl rfl ?_
 intro g9 w10 hg11 hk12 hs13 hb14
 refine Q (aB rfl) <| Qn (Ws (Ws (Wr (Q (fA fa37_0 rfl) <| Q (r_lda (l := (cLb Aa_Library_Maps na_Library_Maps ca_Library_Maps Aa_Library_Away na_Library_Away ca_Library_Away a.Library)) agg34 rfl (fun _ _ hu => (hb6.lo hk12).cells (vs := (cLb Aa_Library_Maps na_Library_Maps ca_Library_Maps Aa_Library_Away na_Library_Away ca_Library_Away a.Library)) rfl hu) rfl) <| Q (fA fa37_0 rfl) <| Q (r_lda (l := (cLb Ab_Library_Maps nb_Library_Maps cb_Library_Maps Ab_Library_Away nb_Library_Away cb_Library_Away b.Library)) agg34 rfl (fun _ _ hu => hb14.cells (vs := (cLb Ab_Library_Maps nb_Library_Maps cb_Library_Maps Ab_Library_Away nb_Library_Away cb_Library_Away b.Library)) rfl hu) rfl) <| Qv ent51 (c_laws_eqLibrary w10 a.Library ((ha_Library_Maps.lo hk4).lo hk12) ((ha_Library_Away.lo hk4).lo hk12) b.Library ((hb_Library_Maps.lo hk4).lo hk12) ((hb_Library_Away.lo hk4).lo hk12)) rfl fun w21 hk22 hz23 => ?_))))
 have hB24 := (((Lo.refl w).lo hk4).lo hk12).lo hk22
 refine Q (r_not rfl) <| Qn (W.cond_n rfl (fun h25 => ?_) (fun h25 => ?_))
 ·refine Ws (Wr (Q (aB rfl) <| Qn (W.ret (ret1 rfl (v := .bool _) rfl (⟨eR (eDF (by cases a; cases b; simp_all)), hB24⟩)))))
 ·refine W.skip (Ws (Ws (Wr (Q (fA fa37_1 rfl) <| Q (r_lda (l := [str a.Log.Durable, str a.Log.Pending, .int .i64 a.Log.Count]) agg35 rfl (fun _ _ hu => ((hb6.lo hk12).lo hk22).cells (vs := [str a.Log.Durable, str a.Log.Pending, .int .i64 a.Log.Count]) rfl hu) rfl) <| Q (fA fa37_1 rfl) <| Q (r_lda (l := [str b.Log.Durable, str b.Log.Pending, .int .i64 b.Log.Count]) agg35 rfl (fun _ _ hu => (hb14.lo hk22).cells (vs := [str b.Log.Durable, str b.Log.Pending, .int .i64 b.Log.Count]) rfl hu) rfl) <| Qv ent52 (c_laws_eqLog w21 a.Log b.Log) rfl fun w28 hk29 hz30 => ?_))))
  have hB31 := hB24.lo hk29
  refine Q (r_not rfl) <| Qn (W.cond_n rfl (fun h32 => ?_) (fun h32 => ?_))
  ·refine Ws (Wr (Q (aB rfl) <| Qn (W.ret (ret1 rfl (v := .bool _) rfl (⟨eR (eDF (by cases a; cases b; simp_all)), hB31⟩)))))
  ·refine W.skip (Ws (Wr (Q (aB rfl) <| Qn (W.ret (ret1 rfl (v := .bool _) rfl (⟨eR (eDT (by cases a; cases b; simp_all)), hB31⟩))))))
theorem c_laws_markConsole (w : World) (r : Console) {Ar_Library_Maps : Option Addr} {nr_Library_Maps cr_Library_Maps Br_Library_Maps : Nat} (hr_Library_Maps : SlO w Br_Library_Maps encLMap 3 102 Ar_Library_Maps nr_Library_Maps cr_Library_Maps r.Library.Maps) {Ar_Library_Away : Option Addr} {nr_Library_Away cr_Library_Away Br_Library_Away : Nat} (hr_Library_Away : SlO w Br_Library_Away encAway 2 129 Ar_Library_Away nr_Library_Away cr_Library_Away r.Library.Away) (k : Int) (hdr_Library_Maps_r_Library_Away : Dj Ar_Library_Maps Ar_Library_Away) (hp0 : 0 ≤ k) (hp1 : k ≤ 1000) (hp2 : (nr_Library_Maps : Int) ≤ 1048576) (hp3 : (nr_Library_Away : Int) ≤ 1048576) : Calls Tryz.prog 14 #[.agg (List.toArray [.slice Ar_Library_Maps nr_Library_Maps cr_Library_Maps, .slice Ar_Library_Away nr_Library_Away cr_Library_Away, .int .i64 r.Library.Bought, .int .i64 r.Library.Dropped, .int .i64 r.Library.Mended, str r.Log.Durable, str r.Log.Pending, .int .i64 r.Log.Count]), .int .i64 k] w fun e w' => e = .returned (.int .i64 (k + 3 * (r.Library.Maps.length : Int) + 2 * (r.Library.Away.length : Int))) ∧ SlO w' Br_Library_Maps encLMap 3 102 Ar_Library_Maps nr_Library_Maps cr_Library_Maps (mkL mkLMap 3 r.Library.Maps.length k) ∧ SlO w' Br_Library_Away encAway 2 129 Ar_Library_Away nr_Library_Away cr_Library_Away (mkL mkAway 2 r.Library.Away.length (k + 3 * (r.Library.Maps.length : Int))) ∧ Kp (fun b_ => Ar_Library_Maps = some ⟨b_, 0, none⟩ ∨ Ar_Library_Away = some ⟨b_, 0, none⟩) w w' := by
 refine calls_W 10 Tryz.func14 rfl rfl rfl ?_
 have hbdr_Library_Maps := hr_Library_Maps.rd.bound
 have hler_Library_Maps := hr_Library_Maps.len
 have hBbr_Library_Maps := hr_Library_Maps.bd
 have hbdr_Library_Away := hr_Library_Away.rd.bound
 have hler_Library_Away := hr_Library_Away.len
 have hBbr_Library_Away := hr_Library_Away.bd
 refine Ws (Wr (SR.box (v := .agg (List.toArray _)) (l := [.slice Ar_Library_Maps nr_Library_Maps cr_Library_Maps, .slice Ar_Library_Away nr_Library_Away cr_Library_Away, .int .i64 r.Library.Bought, .int .i64 r.Library.Dropped, .int .i64 r.Library.Mended, str r.Log.Durable, str r.Log.Pending, .int .i64 r.Log.Count]) rfl rfl ?_))
 intro g1 w2 hg3 hk4 hs5 hb6
 refine Q (aI rfl) <| Qn (Ws (Wr (Q (fA fa37_0 rfl) <| Q (r_lda (l := (cLb Ar_Library_Maps nr_Library_Maps cr_Library_Maps Ar_Library_Away nr_Library_Away cr_Library_Away r.Library)) agg34 rfl (fun _ _ hu => hb6.cells (vs := (cLb Ar_Library_Maps nr_Library_Maps cr_Library_Maps Ar_Library_Away nr_Library_Away cr_Library_Away r.Library)) rfl hu) rfl) <| Q (mI rfl) <| SR.call ent53 (c_laws_markLibrary w2 r.Library (hr_Library_Maps.lo hk4) (hr_Library_Away.lo hk4) k hdr_Library_Maps_r_Library_Away (by omega) (by omega) (by omega) (by omega)) rfl ?_)))
 rintro e w11 ⟨rfl, hO13, hO14, hk12⟩
 refine ⟨_, rfl, ?_⟩
 have hz15 := hk12.size
 refine Q (aI rfl) <| Qn (Ws (Wr (Q (mI rfl) <| Q (aI rfl) <| Qn (W.ret (ret1 rfl (v := .int .i64 _) rfl (⟨eR rfl, hO13, hO14, (((Kp.refl w : Kp (fun b_ => Ar_Library_Maps = some ⟨b_, 0, none⟩ ∨ Ar_Library_Away = some ⟨b_, 0, none⟩) w w).lo hk4).step hk12 (fun i_ hi_ e' => e'.elim (fun e' => by have := (hr_Library_Maps.lo hk4).base_le e'; first | omega | exact e' | exact .inl e' | exact .inr e') (fun e' => by have := (hr_Library_Away.lo hk4).base_le e'; first | omega | exact e' | exact .inl e' | exact .inr e')))⟩))))))
end Go.Proofs.YtndcchndcghmoaaGreatDoor
namespace Go.Proofs.YtndcchndcghmoaaGreatDoor
open Go Go.RowKit Fw
set_option maxRecDepth 10000
set_option maxHeartbeats 2000000
set_option linter.unusedVariables false
theorem ent57 : Ent Tryz.prog 57 := en Tryz.func57
theorem tel49 : TEl Tryz.prog 49 5 (.int .u8 0) 1 1 := ⟨by kernel_rfl, by kernel_rfl, rfl, by decide⟩
theorem c_laws_markText (w : World) (k : Int) (hp0 : 0 ≤ k ∧ k ≤ 1000000000000) : Calls Tryz.prog 57 #[.int .i64 k] w fun e w' => e = .returned (str (mkT k)) ∧ Lo w w' := by
 refine calls_W 20 Tryz.func57 rfl rfl rfl (Ws (Wr (Q (r_as (v := str ([] : List UInt8)) rfl) <| Qn (Ws (Ws (Wr (Q (mI rfl) <| Q (r_le rfl rfl) <| Qn (W.cond_d rfl (fun h1 => ?_) (fun h1 => ?_)))))))))
 ·refine Ws (Wr (Q (r_as (v := str ([109, 48] : List UInt8)) rfl) <| Qn (W.ret (ret1 rfl (v := str _) rfl (⟨eR (eS (by first | (unfold mkT; rw [if_pos (by omega)]; done) | (have hh := ‹0 ≤ q ∧ mkD _ ++ _ = _ ∧ _›; unfold mkT; rw [if_neg (by omega), ← hh.2.1, mkD_end (k := q) (by omega)]; simp))), (Lo.refl w)⟩)))))
 ·refine W.skip (Ws (Wr (Q (r_as (v := str ([] : List UInt8)) rfl) <| Qn (Ws (W.block (W.loop (σ := Int × (List UInt8)) (fun g => [(0, .int .i64 g.1), (2, str ([] : List UInt8)), (3, str g.2)]) (fun g w' => (Lo w w') ∧ (0 ≤ g.1 ∧ mkD g.1 ++ g.2 = mkD k ∧ (g.2.length : Int) + g.1 ≤ k)) (fun g => g.1.toNat) (k, ([] : List UInt8)) ?_ ?_ ?_))))))
  ·exact (At.r rfl)
  ·exact ⟨(Lo.refl w), (by (try dsimp only); exact ⟨by omega, by simp, by simp⟩)⟩
  ·rintro ⟨q, O⟩ f2 w3 hP5
   obtain ⟨hB4, hi6⟩ : (Lo w w3) ∧ (0 ≤ q ∧ mkD q ++ O = mkD k ∧ (O.length : Int) + q ≤ k) := hP5
   refine (?_ : W _ _ _ _ _ (act _ (sets f2 [(0, .int .i64 q), (2, str ([] : List UInt8)), (3, str O)])) _)
   have hzw3 := hB4.size
   have hq7 : 0 ≤ q ∧ (O.length : Int) + q ≤ k := And.intro hi6.1 hi6.2.2
   refine Ws (Ws (Wr (Q (mI rfl) <| Q (r_gt rfl rfl) <| Qn (W.cond_d rfl (fun h8 => ?_) (fun h8 => ?_)))))
   ·refine W.skip (W.block (Ws (Wr (Q (mI rfl) <| Q (r_rem rfl rfl (by omega)) <| Q (r_add rfl rfl (by omega)) <| Q (r_convB und5 und3 rfl) <| SR.lit (vs := [.int .u8 ((bw (48 + (q % 10))).toNat : Int)]) (L := ([(bw (48 + (q % 10)))] : List UInt8)) (enc := encB) tel49 (fun _ => rfl) rfl rfl rfl (by decide) ?_))))
    intro g9 w10 hg11 hk12 hO13
    have hz14 := hk12.size
    refine Q (r_ofB und49 und5 und9 rfl (hO13.rd)) <| Q (mS rfl) <| Q (r_cat rfl rfl (by first | omega | (simp only [List.length_append, List.length_cons, List.length_nil, List.length_take, List.length_drop]; omega) | (simp only [List.length_append, List.length_cons, List.length_nil, List.length_take, List.length_drop] at *; omega))) <| Q (aS rfl) <| Qn (Wr (Q (mI rfl) <| Q (r_quo rfl rfl (by omega)) <| Q (aI rfl) <| Qn (⟨(q / 10, ([(bw (48 + (q % 10)))] : List UInt8) ++ O), _, rfl, (At.r rfl), ⟨(hB4.lo hk12), ?_⟩, ?_⟩)))
    ·exact (by (try dsimp only); have hh := ‹0 ≤ q ∧ mkD _ ++ _ = _ ∧ _›; exact ⟨by omega, by rw [← hh.2.1, mkD_next (k := q) (by omega)]; simp, by simp only [List.length_append, List.length_cons, List.length_nil]; omega⟩)
    ·exact (by (try dsimp only); omega)
   ·refine W.exit (xin_here (Ws (Wr (Q (mS rfl) <| Q (r_cat rfl rfl (by first | omega | (simp only [List.length_append, List.length_cons, List.length_nil, List.length_take, List.length_drop]; omega) | (simp only [List.length_append, List.length_cons, List.length_nil, List.length_take, List.length_drop] at *; omega))) <| Q (aS rfl) <| Qn (W.ret (ret1 rfl (v := str _) rfl (⟨eR (eS (by first | (unfold mkT; rw [if_pos (by omega)]; done) | (have hh := ‹0 ≤ q ∧ mkD _ ++ _ = _ ∧ _›; unfold mkT; rw [if_neg (by omega), ← hh.2.1, mkD_end (k := q) (by omega)]; simp))), hB4⟩)))))))
theorem c_laws_eqStringS (w : World) {AL : Option Addr} {nL cL BL : Nat}  (L : List (List UInt8)) (hL : SlR w BL encS 1 AL nL cL L) {AM : Option Addr} {nM cM BM : Nat}  (M : List (List UInt8)) (hM : SlR w BM encS 1 AM nM cM M) : Calls Tryz.prog 18 #[.slice AL nL cL, .slice AM nM cM] w fun e w' => e = .returned (.bool (decide (L = M))) ∧ Lo w w' := by
 refine calls_W 26 Tryz.func18 rfl rfl rfl ?_
 have hbdL := hL.bound
 have hleL := hL.len
 have hBbL := hL.bd
 have hbdM := hM.bound
 have hleM := hM.len
 have hBbM := hM.bd
 refine Ws (Wr (Q (aB rfl) <| Qn (Ws (Ws (Wr (Q (mL rfl) <| Q (r_len und44 rfl) <| Q (mL rfl) <| Q (r_len und44 rfl) <| Q (r_ne rfl rfl) <| Qn (W.cond_n rfl (fun h1 => ?_) (fun h1 => ?_))))))))
 ·refine Ws (Wr (Q (aB rfl) <| Qn (W.ret (ret1 rfl (v := .bool _) rfl (⟨eR (eDF (by first | (intro e; subst e; omega) | exact ne_at ‹L[_]? = some _› ‹M[_]? = some _› ‹_› | exact take_end (And.right ‹_ ∧ L.take _ = M.take _›) hleL hleM (by omega) ‹_›)), (Lo.refl w)⟩)))))
 ·refine W.skip (Ws (Ws (Wr (Q (aI rfl) <| Qn (W.block (W.loop (σ := Nat) (fun g => [(0, .slice AL nL cL), (1, .slice AM nM cM), (5, .int .i64 (g : Int))]) (fun g w' => (Lo w w') ∧ (SlR w' BL encS 1 AL nL cL L) ∧ (SlR w' BM encS 1 AM nM cM M) ∧ (g ≤ nL ∧ L.take g = M.take g)) (fun g => nL - g) 0 ?_ ?_ ?_))))))
  ·exact (At.r rfl)
  ·exact ⟨(Lo.refl w), hL, hM, (by simp)⟩
  ·rintro k f2 w3 hP5
   obtain ⟨hB4, hm6, hm7, hi8⟩ : (Lo w w3) ∧ (SlR w3 BL encS 1 AL nL cL L) ∧ (SlR w3 BM encS 1 AM nM cM M) ∧ (k ≤ nL ∧ L.take k = M.take k) := hP5
   refine (?_ : W _ _ _ _ _ (act _ (sets f2 [(0, .slice AL nL cL), (1, .slice AM nM cM), (5, .int .i64 (k : Int))])) _)
   have hzw3 := hB4.size
   refine Ws (Ws (Wr (Q (mI rfl) <| Q (mL rfl) <| Q (r_len und44 rfl) <| Q (r_lt rfl rfl) <| Qn (W.cond_d rfl (fun h9 => ?_) (fun h9 => ?_)))))
   ·refine W.skip (Ws (W.block (Ws (W.regD mo (by kernel_rfl) (QR.q' (fun w' hw' => r_mv (v := .slice _ _ _) rfl) <| QR.q' (fun w' hw' => r_mv (v := .int .i64 _) rfl) <| ?_)))))
    obtain ⟨x10, hx11⟩ := hm6.get (i := k) (by omega)
    refine QR.q' (fun w' hw' => r_ixR tsl44 (hm6.lo hw') rfl rfl (by omega)) <| QR.q' (fun w' hw' => r_ld (v := str x10) sca9 rfl ((hm6.lo hw').cell0 hx11 rfl)) <| QR.q' (fun w' hw' => r_mv (v := .slice _ _ _) rfl) <| QR.q' (fun w' hw' => r_mv (v := .int .i64 _) rfl) <| ?_
    obtain ⟨x12, hx13⟩ := hm7.get (i := k) (by omega)
    refine QR.q' (fun w' hw' => r_ixR tsl44 (hm7.lo hw') rfl rfl (by omega)) <| QR.q' (fun w' hw' => r_ld (v := str x12) sca9 rfl ((hm7.lo hw').cell0 hx13 rfl)) <| QR.q' (fun w' hw' => r_nes (s := x10) (r := x12) rfl rfl) <| QR.nil ?_
    intro w14 hk15
    have hz16 := hk15.size
    have hB17 := hB4.lo hk15
    refine W.cond_n rfl (fun h18 => ?_) (fun h18 => ?_)
    ·refine Ws (Wr (Q (aB rfl) <| Qn (W.ret (ret1 rfl (v := .bool _) rfl (⟨eR (eDF (by first | (intro e; subst e; omega) | exact ne_at ‹L[_]? = some _› ‹M[_]? = some _› ‹_› | exact take_end (And.right ‹_ ∧ L.take _ = M.take _›) hleL hleM (by omega) ‹_›)), hB17⟩)))))
    ·refine W.skip (Wr (Q (mI rfl) <| Q (r_add rfl rfl (by omega)) <| Q (aI rfl) <| Qn (⟨k + 1, _, rfl, (At.r rfl), ⟨hB17, hm6.lo hk15, hm7.lo hk15, ?_⟩, ?_⟩)))
     ·exact (by exact ⟨by omega, take_next (And.right ‹_ ∧ L.take _ = M.take _›) ‹L[_]? = some _› ‹M[_]? = some _› ‹_›⟩)
     ·exact (by omega)
   ·refine W.exit (xin_here (Ws (Wr (Q (aB rfl) <| Qn (W.ret (ret1 rfl (v := .bool _) rfl (⟨eR (eDT (by first | (intro e; subst e; omega) | exact ne_at ‹L[_]? = some _› ‹M[_]? = some _› ‹_› | exact take_end (And.right ‹_ ∧ L.take _ = M.take _›) hleL hleM (by omega) ‹_›)), hB4⟩)))))))
theorem c_laws_markStringS (w : World) {AL : Option Addr} {nL cL BL : Nat}  (L : List (List UInt8)) (hL : SlO w BL encS 1 9 AL nL cL L) (k : Int) (hp0 : 0 ≤ k) (hp1 : k ≤ 1000000000) (hp2 : (nL : Int) ≤ 1048576) : Calls Tryz.prog 19 #[.slice AL nL cL, .int .i64 k] w fun e w' => e = .returned (.int .i64 (k + 1 * (L.length : Int))) ∧ SlO w' BL encS 1 9 AL nL cL (mkL mkStr 1 L.length k) ∧ Kp (KA AL) w w' := by
 refine calls_W 20 Tryz.func19 rfl rfl rfl ?_
 have hbdL := hL.rd.bound
 have hleL := hL.len
 have hBbL := hL.bd
 refine Ws (Wr (Q (aI rfl) <| Qn (Ws (Ws (Wr (Q (aI rfl) <| Qn (W.block (W.loop (σ := Nat) (fun g => [(0, .slice AL nL cL), (1, .int .i64 (k + 1 * (g : Int))), (4, .int .i64 0), (5, .int .i64 (g : Int))]) (fun g w' => (Kp (KA AL) w w') ∧ (SlO w' BL encS 1 9 AL nL cL (mkL mkStr 1 g k ++ L.drop g)) ∧ (g ≤ nL)) (fun g => nL - g) 0 ?_ ?_ ?_))))))))
 ·refine ⟨rfl, (eI ?_), rfl, (eI ?_), trivial⟩ <;> (first | omega | (dsimp only; omega))
 ·exact ⟨(Kp.refl w : Kp (KA AL) w w), (SlO.eqv hL (by exact mkL_init)), (by omega)⟩
 ·rintro i f1 w2 hP4
  obtain ⟨hB3, hm5, hi6⟩ : (Kp (KA AL) w w2) ∧ (SlO w2 BL encS 1 9 AL nL cL (mkL mkStr 1 i k ++ L.drop i)) ∧ (i ≤ nL) := hP4
  refine (?_ : W _ _ _ _ _ (act _ (sets f1 [(0, .slice AL nL cL), (1, .int .i64 (k + 1 * (i : Int))), (4, .int .i64 0), (5, .int .i64 (i : Int))])) _)
  have hzw2 := hB3.size
  refine Ws (Ws (Wr (Q (mI rfl) <| Q (mL rfl) <| Q (r_len und44 rfl) <| Q (r_lt rfl rfl) <| Qn (W.cond_d rfl (fun h7 => ?_) (fun h7 => ?_)))))
  ·refine W.skip (Ws (W.block (Ws (Wr (Q (mL rfl) <| Q (mI rfl) <| Q (mI rfl) <| Qv ent57 (c_laws_markText w2 (k + 1 * (i : Int)) (by omega)) rfl fun w8 hk9 hz10 => ?_)))))
   obtain ⟨x12, hx13⟩ := ((hm5.lo hk9).rd).get (i := i) (by omega)
   refine Q (r_ixR tsl44 ((hm5.lo hk9).rd) rfl rfl (by omega)) <| SR.storeO (o := 0) (vs := [str (mkT (k + 1 * (i : Int)))]) (x1 := mkT (k + 1 * (i : Int))) sca9.2 rfl rfl rfl rfl (hm5.lo hk9) hx13 rfl ler rfl ?_
   intro w14 hk15 hs16 hO17
   have hz18 := hk15.size
   have hx20 : ((mkL mkStr 1 i k ++ L.drop i).set ((i : Int).toNat) (mkT (k + 1 * (i : Int))))[(i : Int).toNat]? = some (mkT (k + 1 * (i : Int))) := List.getElem?_set_self (List.getElem?_eq_some_iff.1 hx13).1
   refine Qn (Wr (Q (mI rfl) <| Q (r_add rfl rfl (by omega)) <| Q (aI rfl) <| Qn (Wr (Q (mI rfl) <| Q (r_add rfl rfl (by omega)) <| Q (aI rfl) <| Qn (⟨i + 1, _, rfl, ⟨rfl, (eI (by first | omega | (dsimp only; omega))), rfl, (eI (by first | omega | (dsimp only; omega))), trivial⟩, ⟨((hB3.lo hk9).step hk15 (fun i_ hi_ e' => by have := (hm5.lo hk9).base_le e'; first | omega | exact e' | exact .inl e' | exact .inr e')), (SlO.eqv hO17 (by exact mkL_set (by omega) (by first | (simp [mkStr]; done) | (simp [mkStr]; omega)))), ?_⟩, ?_⟩)))))
   ·exact (by omega)
   ·exact (by omega)
  ·refine W.exit (xin_here (Ws (Wr (Q (mI rfl) <| Q (aI rfl) <| Qn (W.ret (ret1 rfl (v := .int .i64 _) rfl ?_))))))
   refine ⟨eR (eI ?_), (SlO.eqv hm5 ?_), hB3⟩ <;> (first | omega | exact mkL_end hleL (by assumption) (by omega))
theorem z_c_laws_heldStringS_15 (L : List (List UInt8)) (nL : Nat) (hbdL : (nL : Int) ≤ 9223372036854775807) (hleL : nL = L.length) (k : Int) (m : Nat) (hp0 : 0 ≤ k) (hp1 : k ≤ 1000000000) (hp2 : (nL : Int) ≤ 1048576) (hp3 : L = mkL mkStr 1 m k) (i : Nat) (hi6 : i ≤ nL) (h7 : (i : Int) < (nL : Int)) (x8 : List UInt8) (hx9 : L[i]? = some x8) (h14 : ¬ (x8 = (mkT (k + 1 * (i : Int))))) : (-1) = k + 1 * (m : Int) := by
 first | omega | (rw [hp3, mkL_len] at hleL; omega) | (exfalso; subst hp3; obtain rfl := mkL_get ‹_[_]? = some _›; first | (simp_all [mkStr]; done) | (simp only [mkStr] at *; omega))
theorem z_c_laws_heldStringS_16 (L : List (List UInt8)) (nL : Nat) (hbdL : (nL : Int) ≤ 9223372036854775807) (hleL : nL = L.length) (k : Int) (m : Nat) (hp0 : 0 ≤ k) (hp1 : k ≤ 1000000000) (hp2 : (nL : Int) ≤ 1048576) (hp3 : L = mkL mkStr 1 m k) (i : Nat) (hi6 : i ≤ nL) (h7 : ¬ ((i : Int) < (nL : Int))) : k + 1 * (i : Int) = k + 1 * (m : Int) := by
 first | omega | (rw [hp3, mkL_len] at hleL; omega) | (exfalso; subst hp3; obtain rfl := mkL_get ‹_[_]? = some _›; first | (simp_all [mkStr]; done) | (simp only [mkStr] at *; omega))
theorem c_laws_heldStringS (w : World) {AL : Option Addr} {nL cL BL : Nat}  (L : List (List UInt8)) (hL : SlR w BL encS 1 AL nL cL L) (k : Int) (m : Nat) (hp0 : 0 ≤ k) (hp1 : k ≤ 1000000000) (hp2 : (nL : Int) ≤ 1048576) (hp3 : L = mkL mkStr 1 m k) : Calls Tryz.prog 20 #[.slice AL nL cL, .int .i64 k] w fun e w' => e = .returned (.int .i64 (k + 1 * (m : Int))) ∧ Lo w w' := by
 refine calls_W 22 Tryz.func20 rfl rfl rfl ?_
 have hbdL := hL.bound
 have hleL := hL.len
 have hBbL := hL.bd
 refine Ws (Wr (Q (aI rfl) <| Qn (Ws (Ws (Wr (Q (aI rfl) <| Qn (W.block (W.loop (σ := Nat) (fun g => [(0, .slice AL nL cL), (1, .int .i64 (k + 1 * (g : Int))), (5, .int .i64 (g : Int))]) (fun g w' => (Lo w w') ∧ (SlR w' BL encS 1 AL nL cL L) ∧ (g ≤ nL)) (fun g => nL - g) 0 ?_ ?_ ?_))))))))
 ·refine ⟨rfl, (eI ?_), (eI ?_), trivial⟩ <;> (first | omega | (dsimp only; omega))
 ·exact ⟨(Lo.refl w), hL, (by omega)⟩
 ·rintro i f1 w2 hP4
  obtain ⟨hB3, hm5, hi6⟩ : (Lo w w2) ∧ (SlR w2 BL encS 1 AL nL cL L) ∧ (i ≤ nL) := hP4
  refine (?_ : W _ _ _ _ _ (act _ (sets f1 [(0, .slice AL nL cL), (1, .int .i64 (k + 1 * (i : Int))), (5, .int .i64 (i : Int))])) _)
  have hzw2 := hB3.size
  refine Ws (Ws (Wr (Q (mI rfl) <| Q (mL rfl) <| Q (r_len und44 rfl) <| Q (r_lt rfl rfl) <| Qn (W.cond_d rfl (fun h7 => ?_) (fun h7 => ?_)))))
  ·refine W.skip (Ws (W.block (Ws (Ws (W.regD mo (by kernel_rfl) (QR.q' (fun w' hw' => r_mv (v := .slice _ _ _) rfl) <| QR.q' (fun w' hw' => r_mv (v := .int .i64 _) rfl) <| ?_))))))
   obtain ⟨x8, hx9⟩ := hm5.get (i := i) (by omega)
   refine QR.q' (fun w' hw' => r_ixR tsl44 (hm5.lo hw') rfl rfl (by omega)) <| QR.q' (fun w' hw' => r_ld (v := str x8) sca9 rfl ((hm5.lo hw').cell0 hx9 rfl)) <| QR.q' (fun w' hw' => r_mv (v := .int .i64 _) rfl) <| QR.call ent57 (fun w' hw' => (c_laws_markText w' (k + 1 * (i : Int)) (by omega)).mono fun _ _ h => ⟨h.1, hw'.trans h.2⟩) rfl <| QR.q' (fun w' hw' => r_nes (s := x8) (r := mkT (k + 1 * (i : Int))) rfl rfl) <| QR.nil ?_
   intro w10 hk11
   have hz12 := hk11.size
   have hB13 := hB3.lo hk11
   refine W.cond_n rfl (fun h14 => ?_) (fun h14 => ?_)
   ·refine Ws (Wr (Q (r_as (v := .int .i64 (-1)) rfl) <| Qn (W.ret (ret1 rfl (v := .int .i64 _) rfl (⟨eR (eI (z_c_laws_heldStringS_15 L nL hbdL hleL k m hp0 hp1 hp2 hp3 i hi6 h7 x8 hx9 h14)), hB13⟩)))))
   ·refine W.skip (Wr (Q (mI rfl) <| Q (r_add rfl rfl (by omega)) <| Q (aI rfl) <| Qn (Wr (Q (mI rfl) <| Q (r_add rfl rfl (by omega)) <| Q (aI rfl) <| Qn (⟨i + 1, _, rfl, ⟨rfl, (eI (by first | omega | (dsimp only; omega))), (eI (by first | omega | (dsimp only; omega))), trivial⟩, ⟨hB13, hm5.lo hk11, ?_⟩, ?_⟩)))))
    ·exact (by omega)
    ·exact (by omega)
  ·refine W.exit (xin_here (Ws (Wr (Q (mI rfl) <| Q (aI rfl) <| Qn (W.ret (ret1 rfl (v := .int .i64 _) rfl (⟨eR (eI (z_c_laws_heldStringS_16 L nL hbdL hleL k m hp0 hp1 hp2 hp3 i hi6 h7)), hB3⟩)))))))
end Go.Proofs.YtndcchndcghmoaaGreatDoor
namespace Go.Proofs.YtndcchndcghmoaaGreatDoor
open Go Go.RowKit Fw
set_option maxRecDepth 10000
set_option maxHeartbeats 2000000
set_option linter.unusedVariables false
theorem agg29 : TAgg Tryz.prog 29 8 := tG
theorem ent11 : Ent Tryz.prog 11 := en Tryz.func11
theorem ent13 : Ent Tryz.prog 13 := en Tryz.func13
theorem ent14 : Ent Tryz.prog 14 := en Tryz.func14
theorem ent16 : Ent Tryz.prog 16 := en Tryz.func16
theorem ent17 : Ent Tryz.prog 17 := en Tryz.func17
theorem ent18 : Ent Tryz.prog 18 := en Tryz.func18
theorem ent19 : Ent Tryz.prog 19 := en Tryz.func19
theorem ent20 : Ent Tryz.prog 20 := en Tryz.func20
theorem ent9 : Ent Tryz.prog 9 := en Tryz.func9
theorem und4 : Tryz.prog.underlying 4 = some (.bool) := by kernel_rfl
theorem z_c_laws_FnExactRunScript_122 (c : Console) (nc1 : Nat) (hbdc1 : (nc1 : Int) ≤ 9223372036854775807) (hlec1 : nc1 = c.Library.Maps.length) (nc2 : Nat) (hbdc2 : (nc2 : Int) ≤ 9223372036854775807) (hlec2 : nc2 = c.Library.Away.length) (s : List UInt8) (hp0 : (c.Log.Durable.length : Int) ≤ 9223372036854775807 ∧ (c.Log.Pending.length : Int) ≤ 9223372036854775807) (hp1 : (s.length : Int) ≤ 9223372036854775807) (h9 : ¬ (1048576 < (s.length : Int))) (h16 : ¬ ((szN (c.Library.Maps.length + c.Library.Away.length + c.Log.Durable.length + c.Log.Pending.length) 1048576) < 0)) (hq17 : ((c.Library.Maps.length + c.Library.Away.length + c.Log.Durable.length + c.Log.Pending.length : Nat) : Int) ≤ 1048576 ∧ szN (c.Library.Maps.length + c.Library.Away.length + c.Log.Durable.length + c.Log.Pending.length) 1048576 = 1048576 - ((c.Library.Maps.length + c.Library.Away.length + c.Log.Durable.length + c.Log.Pending.length : Nat) : Int)) (n21 : Nat) (hl31 : n21 = (c.Library.Maps).length) (hl32 : (n21 : Int) ≤ 9223372036854775807) (n25 : Nat) (hl33 : n25 = (c.Library.Away).length) (hl34 : (n25 : Int) ≤ 9223372036854775807) (n38 : Nat) (hl43 : n38 = ((scrN c s).1).length) (hl44 : (n38 : Int) ≤ 9223372036854775807) (hq45 : (scrN c s).1.length ≤ 30) (n52 : Nat) (hl62 : n52 = (c.Library.Maps).length) (hl63 : (n52 : Int) ≤ 9223372036854775807) (n56 : Nat) (hl64 : n56 = (c.Library.Away).length) (hl65 : (n56 : Int) ≤ 9223372036854775807) (n94 : Nat) (hl99 : n94 = ((scrN c s).1).length) (hl100 : (n94 : Int) ≤ 9223372036854775807) (hq101 : (scrN c s).1.length ≤ 30) (h113 : ¬ (((scrN c s).1) = ((scrN c s).1))) (hq114 : ¬ (((scrN c s).1) = ((scrN c s).1))) : false = true := by
 first | (simp_all; done) | omega | (simp at *; omega)
theorem z_c_laws_FnExactRunScript_208 (c : Console) (nc1 : Nat) (hbdc1 : (nc1 : Int) ≤ 9223372036854775807) (hlec1 : nc1 = c.Library.Maps.length) (nc2 : Nat) (hbdc2 : (nc2 : Int) ≤ 9223372036854775807) (hlec2 : nc2 = c.Library.Away.length) (s : List UInt8) (hp0 : (c.Log.Durable.length : Int) ≤ 9223372036854775807 ∧ (c.Log.Pending.length : Int) ≤ 9223372036854775807) (hp1 : (s.length : Int) ≤ 9223372036854775807) (h9 : ¬ (1048576 < (s.length : Int))) (h16 : ¬ ((szN (c.Library.Maps.length + c.Library.Away.length + c.Log.Durable.length + c.Log.Pending.length) 1048576) < 0)) (hq17 : ((c.Library.Maps.length + c.Library.Away.length + c.Log.Durable.length + c.Log.Pending.length : Nat) : Int) ≤ 1048576 ∧ szN (c.Library.Maps.length + c.Library.Away.length + c.Log.Durable.length + c.Log.Pending.length) 1048576 = 1048576 - ((c.Library.Maps.length + c.Library.Away.length + c.Log.Durable.length + c.Log.Pending.length : Nat) : Int)) (n21 : Nat) (hl31 : n21 = (c.Library.Maps).length) (hl32 : (n21 : Int) ≤ 9223372036854775807) (n25 : Nat) (hl33 : n25 = (c.Library.Away).length) (hl34 : (n25 : Int) ≤ 9223372036854775807) (n38 : Nat) (hl43 : n38 = ((scrN c s).1).length) (hl44 : (n38 : Int) ≤ 9223372036854775807) (hq45 : (scrN c s).1.length ≤ 30) (n52 : Nat) (hl62 : n52 = (c.Library.Maps).length) (hl63 : (n52 : Int) ≤ 9223372036854775807) (n56 : Nat) (hl64 : n56 = (c.Library.Away).length) (hl65 : (n56 : Int) ≤ 9223372036854775807) (n94 : Nat) (hl99 : n94 = ((scrN c s).1).length) (hl100 : (n94 : Int) ≤ 9223372036854775807) (hq101 : (scrN c s).1.length ≤ 30) (h113 : ¬ (¬ (((scrN c s).1) = ((scrN c s).1)))) (hq123 : ((scrN c s).1) = ((scrN c s).1)) (n138 : Nat) (n142 : Nat) (hl149 : n138 = (c.Library.Maps).length) (hl150 : (n138 : Int) ≤ 9223372036854775807) (hl151 : n142 = (c.Library.Away).length) (hl152 : (n142 : Int) ≤ 9223372036854775807) (h206 : ¬ (c = c)) : false = true := by
 first | (simp_all; done) | omega | (simp at *; omega)
theorem z_c_laws_FnExactRunScript_234 (c : Console) (nc1 : Nat) (hbdc1 : (nc1 : Int) ≤ 9223372036854775807) (hlec1 : nc1 = c.Library.Maps.length) (nc2 : Nat) (hbdc2 : (nc2 : Int) ≤ 9223372036854775807) (hlec2 : nc2 = c.Library.Away.length) (s : List UInt8) (hp0 : (c.Log.Durable.length : Int) ≤ 9223372036854775807 ∧ (c.Log.Pending.length : Int) ≤ 9223372036854775807) (hp1 : (s.length : Int) ≤ 9223372036854775807) (h9 : ¬ (1048576 < (s.length : Int))) (h16 : ¬ ((szN (c.Library.Maps.length + c.Library.Away.length + c.Log.Durable.length + c.Log.Pending.length) 1048576) < 0)) (hq17 : ((c.Library.Maps.length + c.Library.Away.length + c.Log.Durable.length + c.Log.Pending.length : Nat) : Int) ≤ 1048576 ∧ szN (c.Library.Maps.length + c.Library.Away.length + c.Log.Durable.length + c.Log.Pending.length) 1048576 = 1048576 - ((c.Library.Maps.length + c.Library.Away.length + c.Log.Durable.length + c.Log.Pending.length : Nat) : Int)) (n21 : Nat) (hl31 : n21 = (c.Library.Maps).length) (hl32 : (n21 : Int) ≤ 9223372036854775807) (n25 : Nat) (hl33 : n25 = (c.Library.Away).length) (hl34 : (n25 : Int) ≤ 9223372036854775807) (n38 : Nat) (hl43 : n38 = ((scrN c s).1).length) (hl44 : (n38 : Int) ≤ 9223372036854775807) (hq45 : (scrN c s).1.length ≤ 30) (n52 : Nat) (hl62 : n52 = (c.Library.Maps).length) (hl63 : (n52 : Int) ≤ 9223372036854775807) (n56 : Nat) (hl64 : n56 = (c.Library.Away).length) (hl65 : (n56 : Int) ≤ 9223372036854775807) (n94 : Nat) (hl99 : n94 = ((scrN c s).1).length) (hl100 : (n94 : Int) ≤ 9223372036854775807) (hq101 : (scrN c s).1.length ≤ 30) (h113 : ¬ (¬ (((scrN c s).1) = ((scrN c s).1)))) (hq123 : ((scrN c s).1) = ((scrN c s).1)) (n138 : Nat) (n142 : Nat) (hl149 : n138 = (c.Library.Maps).length) (hl150 : (n138 : Int) ≤ 9223372036854775807) (hl151 : n142 = (c.Library.Away).length) (hl152 : (n142 : Int) ≤ 9223372036854775807) (h206 : c = c) (h232 : ((1 + 3 * (c.Library.Maps.length : Int) + 2 * (c.Library.Away.length : Int)) < 0) ∨ (¬ (((scrN c s).1) = ((scrN c s).1)))) : false = true := by
 first | (simp_all; done) | omega | (simp at *; omega)
theorem z_c_laws_FnExactRunScript_252 (c : Console) (nc1 : Nat) (hbdc1 : (nc1 : Int) ≤ 9223372036854775807) (hlec1 : nc1 = c.Library.Maps.length) (nc2 : Nat) (hbdc2 : (nc2 : Int) ≤ 9223372036854775807) (hlec2 : nc2 = c.Library.Away.length) (s : List UInt8) (hp0 : (c.Log.Durable.length : Int) ≤ 9223372036854775807 ∧ (c.Log.Pending.length : Int) ≤ 9223372036854775807) (hp1 : (s.length : Int) ≤ 9223372036854775807) (h9 : ¬ (1048576 < (s.length : Int))) (h16 : ¬ ((szN (c.Library.Maps.length + c.Library.Away.length + c.Log.Durable.length + c.Log.Pending.length) 1048576) < 0)) (hq17 : ((c.Library.Maps.length + c.Library.Away.length + c.Log.Durable.length + c.Log.Pending.length : Nat) : Int) ≤ 1048576 ∧ szN (c.Library.Maps.length + c.Library.Away.length + c.Log.Durable.length + c.Log.Pending.length) 1048576 = 1048576 - ((c.Library.Maps.length + c.Library.Away.length + c.Log.Durable.length + c.Log.Pending.length : Nat) : Int)) (n21 : Nat) (hl31 : n21 = (c.Library.Maps).length) (hl32 : (n21 : Int) ≤ 9223372036854775807) (n25 : Nat) (hl33 : n25 = (c.Library.Away).length) (hl34 : (n25 : Int) ≤ 9223372036854775807) (n38 : Nat) (hl43 : n38 = ((scrN c s).1).length) (hl44 : (n38 : Int) ≤ 9223372036854775807) (hq45 : (scrN c s).1.length ≤ 30) (n52 : Nat) (hl62 : n52 = (c.Library.Maps).length) (hl63 : (n52 : Int) ≤ 9223372036854775807) (n56 : Nat) (hl64 : n56 = (c.Library.Away).length) (hl65 : (n56 : Int) ≤ 9223372036854775807) (n94 : Nat) (hl99 : n94 = ((scrN c s).1).length) (hl100 : (n94 : Int) ≤ 9223372036854775807) (hq101 : (scrN c s).1.length ≤ 30) (h113 : ¬ (¬ (((scrN c s).1) = ((scrN c s).1)))) (hq123 : ((scrN c s).1) = ((scrN c s).1)) (n138 : Nat) (n142 : Nat) (hl149 : n138 = (c.Library.Maps).length) (hl150 : (n138 : Int) ≤ 9223372036854775807) (hl151 : n142 = (c.Library.Away).length) (hl152 : (n142 : Int) ≤ 9223372036854775807) (h206 : c = c) (h232 : ¬ (((1 + 3 * (c.Library.Maps.length : Int) + 2 * (c.Library.Away.length : Int)) < 0) ∨ (¬ (((scrN c s).1) = ((scrN c s).1))))) (hq235 : ¬ ((1 + 3 * (c.Library.Maps.length : Int) + 2 * (c.Library.Away.length : Int)) < 0)) (hq236 : ((scrN c s).1) = ((scrN c s).1)) (h251 : (1 + 1 * (((scrN c s).1).length : Int)) < 0) : false = true := by
 first | (simp_all; done) | omega | (simp at *; omega)
theorem c_laws_FnExactRunScript (w : World) (c : Console) {Ac1 : Option Addr} {nc1 cc1 Bc1 : Nat} (hc1 : SlR w Bc1 encLMap 3 Ac1 nc1 cc1 c.Library.Maps) {Ac2 : Option Addr} {nc2 cc2 Bc2 : Nat} (hc2 : SlR w Bc2 encAway 2 Ac2 nc2 cc2 c.Library.Away) (s : List UInt8) (hp0 : (c.Log.Durable.length : Int) ≤ 9223372036854775807 ∧ (c.Log.Pending.length : Int) ≤ 9223372036854775807) (hp1 : (s.length : Int) ≤ 9223372036854775807) (hE : EnvW w) : Calls Tryz.prog 4 #[.agg (List.toArray [.slice Ac1 nc1 cc1, .slice Ac2 nc2 cc2, .int .i64 c.Library.Bought, .int .i64 c.Library.Dropped, .int .i64 c.Library.Mended, str c.Log.Durable, str c.Log.Pending, .int .i64 c.Log.Count]), str s] w fun e w' => e = .returned (.bool true) ∧ Lo w w' := by
 refine calls_W 104 Tryz.func4 rfl rfl rfl ?_
 have hbdc1 := hc1.bound
 have hlec1 := hc1.len
 have hBbc1 := hc1.bd
 have hbdc2 := hc2.bound
 have hlec2 := hc2.len
 have hBbc2 := hc2.bd
 refine Ws (Wr (SR.box (v := .agg (List.toArray _)) (l := [.slice Ac1 nc1 cc1, .slice Ac2 nc2 cc2, .int .i64 c.Library.Bought, .int .i64 c.Library.Dropped, .int .i64 c.Library.Mended, str c.Log.Durable, str c.Log.Pending, .int .i64 c.Log.Count]) rfl rfl ?_))
 intro g1 w2 hg3 hk4 hs5 hb6
 have hB8 := (Lo.refl w).lo hk4
 refine Q (aB rfl) <| Qn (Ws (Ws (Wr (Q (mS rfl) <| Q (r_len_s und9 rfl) <| Q (r_gt rfl rfl) <| Qn (W.cond_d rfl (fun h9 => ?_) (fun h9 => ?_))))))
 ·refine Ws (Wr (Q (aB rfl) <| Qn (W.ret (ret1 rfl (v := .bool _) rfl (⟨eR rfl, hB8⟩)))))
 ·refine W.skip (Ws (Wr (Q (aI rfl) <| Qn (Ws (Wr (Q (lG agg29 rfl hb6 rfl) <| Q (mI rfl) <| Qv ent9 (c_laws_szConsole w2 c (hc1.lo hk4) (hc2.lo hk4) 1048576 (by omega) (by omega) (by omega)) rfl fun w10 hk11 hz12 => ?_))))))
  have hB13 := hB8.lo hk11
  refine Q (aI rfl) <| Qn (Ws (Ws ?_))
  have hm14 := (hc1.lo hk4).lo hk11
  have hm15 := (hc2.lo hk4).lo hk11
  refine Wr (Q (mI rfl) <| Q (r_lt rfl rfl) <| Qn (W.cond_d rfl (fun h16 => ?_) (fun h16 => ?_)))
  ·refine Ws (Wr (Q (aB rfl) <| Qn (W.ret (ret1 rfl (v := .bool _) rfl (⟨eR rfl, hB13⟩)))))
  ·have hq17 := szN_ok h16
   refine W.skip (Ws (Wr (Q (lG agg29 rfl (hb6.lo hk11) rfl) <| SR.call ent11 (c_laws_toConsole w10 c hm14 hm15 (by omega) (by omega)) rfl ?_)))
   rintro e w18 ⟨A20, n21, c22, A24, n25, c26, rfl, hO23, hO27, hd28, hk19⟩
   refine ⟨_, rfl, ?_⟩
   have hz29 := hk19.size
   have hl31 := hO23.len
   have hl32 := hO23.rd.bound
   have hl33 := hO27.len
   have hl34 := hO27.rd.bound
   refine Q (mS rfl) <| SR.call ent16 (c_spec_RunScript w18 c (hO23.rd) (hO27.rd) s (by omega) (by omega)) rfl ?_
   rintro e w35 ⟨A37, n38, c39, rfl, hO40, hk36⟩
   refine ⟨_, rfl, ?_⟩
   have hz41 := hk36.size
   have hl43 := hO40.len
   have hl44 := hO40.rd.bound
   have hq45 := scr_len c s
   refine Q (mT rfl) <| Q (xL rfl rfl) <| Q (xB rfl rfl) <| Q (aL rfl) <| Q (aB rfl) <| Qn (Ws ?_)
   have hm46 := ((hb6.lo hk11).lo hk19).lo hk36
   have hm47 := (hm14.lo hk19).lo hk36
   have hm48 := (hm15.lo hk19).lo hk36
   refine Wr (Q (lG agg29 rfl hm46 rfl) <| SR.call ent11 (c_laws_toConsole w35 c hm47 hm48 (by omega) (by omega)) rfl ?_)
   rintro e w49 ⟨A51, n52, c53, A55, n56, c57, rfl, hO54, hO58, hd59, hk50⟩
   refine ⟨_, rfl, ?_⟩
   have hz60 := hk50.size
   have hl62 := hO54.len
   have hl63 := hO54.rd.bound
   have hl64 := hO58.len
   have hl65 := hO58.rd.bound
   refine SR.alloc (l := [.slice none 0 0, .slice none 0 0, .int .i64 0, .int .i64 0, .int .i64 0, str ([] : List UInt8), str ([] : List UInt8), .int .i64 0]) tz37 rfl ?_
   intro g66 w67 hg68 hk69 hs70 hb71
   refine Qw (o := 0) (vs := [.slice A51 n52 c53, .slice A55 n56 c57, .int .i64 c.Library.Bought, .int .i64 c.Library.Dropped, .int .i64 c.Library.Mended, str c.Log.Durable, str c.Log.Pending, .int .i64 c.Log.Count]) agg37.2 rfl rfl rfl rfl hb71 ler rfl ?_
   intro w79 hk80 hs81 hb82
   have hB84 := ((((hB13.lo hk19).lo hk36).lo hk50).lo hk69).new hk80
   refine Qn (Ws ?_)
   have hm88 := ((hO40.lo hk50).lo hk69).kd hk80 (SlO.ne (g := g66) (hO40.lo hk50))
   have hm89 := (hO54.lo hk69).kd hk80 (SlO.ne (g := g66) hO54)
   have hm90 := (hO58.lo hk69).kd hk80 (SlO.ne (g := g66) hO58)
   refine Wr (Q (lG agg37 rfl hb82 rfl) <| Q (mS rfl) <| SR.call ent17 (c_impl_RunScript w79 c (hm89.rd) (hm90.rd) s (by omega) (by omega) (hE.lo hB84)) rfl ?_)
   rintro e w91 ⟨A93, n94, c95, rfl, hO96, hk92⟩
   refine ⟨_, rfl, ?_⟩
   have hz97 := hk92.size
   have hl99 := hO96.len
   have hl100 := hO96.rd.bound
   have hq101 := scr_len c s
   refine Q (mT rfl) <| Q (xL rfl rfl) <| Q (xB rfl rfl) <| Q (aL rfl) <| Q (aB rfl) <| Qn (Ws (Ws (W.regJS (fun f' w' => At f' [(1, str s), (2, .pointer (pA g1)), (4, .bool false), (6, .slice A37 n38 c39), (7, .bool ((scrN c s).2)), (8, .pointer (pA g66)), (9, .slice A93 n94 c95), (10, .bool ((scrN c s).2)), (47, .bool (decide (¬ (((scrN c s).1) = ((scrN c s).1)))))] ∧ Lo w91 w') ?_ ?_)))
   ·refine Q (mL rfl) <| Q (mL rfl) <| Qv ent18 (c_laws_eqStringS w91 ((scrN c s).1) (hO96.rd) ((scrN c s).1) ((hm88.lo hk92).rd)) rfl fun w102 hk103 hz104 => (Q (r_not rfl) <| Q (mB rfl) <| SR.splitN (fun h106 => ?_) (fun h106 => ?_))
    ·refine Qs rfl <| Qs rfl <| Qs rfl <| Q (r_pick true rfl (v := .bool true) rfl) <| Qn (⟨_, rfl, ⟨⟨rfl, rfl, rfl, rfl, rfl, rfl, rfl, rfl, (eDT ((j2f h106).1 trivial)), trivial⟩, hk103⟩⟩)
    ·refine Qg rfl (mB rfl) <| Qg rfl (mB rfl) <| Qg rfl (r_neb_s und4 rfl rfl) <| Q (r_pick false rfl (v := .bool _) rfl) <| Qn (⟨_, rfl, ⟨⟨rfl, rfl, rfl, rfl, rfl, rfl, rfl, rfl, (eDF (j2t h106).2), trivial⟩, hk103⟩⟩)
   rintro f107 w108 ⟨hat109, hk110⟩
   rw [← sets_of_at hat109]
   have hz111 := hk110.size
   have hB112 := (hB84.lo hk92).lo hk110
   refine W.cond_d rfl (fun h113 => ?_) (fun h113 => ?_)
   ·have hq114 : ¬ (((scrN c s).1) = ((scrN c s).1)) := h113
    refine Ws (Wr (Q (aB rfl) <| Qn (W.ret (ret1 rfl (v := .bool _) rfl (⟨eR (eB (z_c_laws_FnExactRunScript_122 c nc1 hbdc1 hlec1 nc2 hbdc2 hlec2 s hp0 hp1 h9 h16 hq17 n21 hl31 hl32 n25 hl33 hl34 n38 hl43 hl44 hq45 n52 hl62 hl63 n56 hl64 hl65 n94 hl99 hl100 hq101 h113 hq114)), hB112⟩)))))
   ·have hq123 : ((scrN c s).1) = ((scrN c s).1) := (Classical.not_not.1 h113)
    refine W.skip (Ws (Ws ?_))
    have hm124 := ((((hm46.lo hk50).lo hk69).kn hk80).lo hk92).lo hk110
    have hm125 := ((((hm47.lo hk50).lo hk69).kn hk80).lo hk92).lo hk110
    have hm126 := ((((hm48.lo hk50).lo hk69).kn hk80).lo hk92).lo hk110
    have hm127 := (hm88.lo hk92).lo hk110
    have hm128 := (hb82.lo hk92).lo hk110
    have hm129 := (hm89.lo hk92).lo hk110
    have hm130 := (hm90.lo hk92).lo hk110
    refine W.regA (Lo w108) (fun f' w' => ∃ (A137 : Option Addr) (n138 : Nat) (c139 : Nat) (A141 : Option Addr) (n142 : Nat) (c143 : Nat), At f' [(1, str s), (2, .pointer (pA g1)), (4, .bool false), (6, .slice A37 n38 c39), (7, .bool ((scrN c s).2)), (8, .pointer (pA g66)), (9, .slice A93 n94 c95), (10, .bool ((scrN c s).2)), (52, .bool (!decide (c = c)))] ∧ (Lo w108 w') ∧ (n138 = (c.Library.Maps).length) ∧ ((n138 : Int) ≤ 9223372036854775807) ∧ (n142 = (c.Library.Away).length) ∧ ((n142 : Int) ≤ 9223372036854775807)) mo ?_ ?_
    ·intro w173 hk174
     have hz175 := hk174.size
     refine Ak 0 rfl hk174 (fun w' hw' => r_lda (l := [.slice A51 n52 c53, .slice A55 n56 c57, .int .i64 c.Library.Bought, .int .i64 c.Library.Dropped, .int .i64 c.Library.Mended, str c.Log.Durable, str c.Log.Pending, .int .i64 c.Log.Count]) agg37 rfl (fun _ _ hu => (hm128.lo hw').cell hu) rfl) <| Ak 1 rfl hk174 (fun w' hw' => r_lda (l := [.slice Ac1 nc1 cc1, .slice Ac2 nc2 cc2, .int .i64 c.Library.Bought, .int .i64 c.Library.Dropped, .int .i64 c.Library.Mended, str c.Log.Durable, str c.Log.Pending, .int .i64 c.Log.Count]) agg29 rfl (fun _ _ hu => (hm124.lo hw').cell hu) rfl) <| Ab 2 rfl (SR.call ent11 (c_laws_toConsole w173 c (hm125.lo hk174) (hm126.lo hk174) (by omega) (by omega)) rfl ?_)
     rintro e w177 ⟨A179, n180, c181, A183, n184, c185, rfl, hO182, hO186, hd187, hk178⟩
     refine ⟨_, rfl, ?_⟩
     have hz188 := hk178.size
     have hS190 := hk174.lo hk178
     have hl191 := hO182.len
     have hl192 := hO182.rd.bound
     have hl193 := hO186.len
     have hl194 := hO186.rd.bound
     refine Qn ⟨hS190, _, rfl, (Ab 3 rfl (Qv ent13 (c_laws_eqConsole w177 c (((hm129.lo hk174).lo hk178).rd) (((hm130.lo hk174).lo hk178).rd) c (hO182.rd) (hO186.rd)) rfl fun w195 hk196 hz197 => ?_))⟩
     have hS199 := hS190.lo hk196
     refine Qn ⟨hS199, _, rfl, (Ak 4 rfl hS199 (fun w' hw' => r_not rfl) <| AH.done (by kernel_rfl) (⟨A179, n180, c181, A183, n184, c185, (At.r rfl), hS199, hl191, hl192, hl193, hl194⟩))⟩
    rintro f200 w201 ⟨A137, n138, c139, A141, n142, c143, hat203, hR202, hl149, hl150, hl151, hl152⟩
    rw [← sets_of_at hat203]
    have hz204 := hR202.size
    have hB205 := hB112.lo hR202
    refine W.cond_n rfl (fun h206 => ?_) (fun h206 => ?_)
    ·refine Ws (Wr (Q (aB rfl) <| Qn (W.ret (ret1 rfl (v := .bool _) rfl (⟨eR (eB (z_c_laws_FnExactRunScript_208 c nc1 hbdc1 hlec1 nc2 hbdc2 hlec2 s hp0 hp1 h9 h16 hq17 n21 hl31 hl32 n25 hl33 hl34 n38 hl43 hl44 hq45 n52 hl62 hl63 n56 hl64 hl65 n94 hl99 hl100 hq101 h113 hq123 n138 n142 hl149 hl150 hl151 hl152 h206)), hB205⟩)))))
    ·refine W.skip (Ws ?_)
     have hm209 := (hO96.lo hk110).lo hR202
     refine Wr (Q (aI rfl) <| Qn (Ws (Wr (Q (lG agg37 rfl (hm128.lo hR202) rfl) <| Q (mI rfl) <| SR.call ent14 (c_laws_markConsole w201 c (hm129.lo hR202) (hm130.lo hR202) 1 hd59 (by omega) (by omega) (by omega) (by omega)) rfl ?_))))
     rintro e w210 ⟨rfl, hO212, hO213, hk211⟩
     refine ⟨_, rfl, ?_⟩
     have hz214 := hk211.size
     refine Q (aI rfl) <| Qn (Ws (Ws ?_))
     have hm216 := (hm124.lo hR202).kp hk211 (fun e' => e'.elim (fun e' => by have := (hm129.lo hR202).base_le e'; omega) (fun e' => by have := (hm130.lo hR202).base_le e'; omega))
     have hm217 := (hm125.lo hR202).kp hk211 (fun b_ hb e' => e'.elim (fun e' => by have := (hm129.lo hR202).base_le e'; omega) (fun e' => by have := (hm130.lo hR202).base_le e'; omega))
     have hm218 := (hm126.lo hR202).kp hk211 (fun b_ hb e' => e'.elim (fun e' => by have := (hm129.lo hR202).base_le e'; omega) (fun e' => by have := (hm130.lo hR202).base_le e'; omega))
     have hm219 := (hm127.lo hR202).kp hk211 (fun b_ hb e' => e'.elim (fun e' => by have h1 := (hm129.lo hR202).base_le e'; have h2 := (hm127.lo hR202).base_le hb; have h3 := hO40.base_le hb; omega) (fun e' => by have h1 := (hm130.lo hR202).base_le e'; have h2 := (hm127.lo hR202).base_le hb; have h3 := hO40.base_le hb; omega))
     refine W.regJS (fun f' w' => At f' [(1, str s), (2, .pointer (pA g1)), (4, .bool false), (6, .slice A37 n38 c39), (7, .bool ((scrN c s).2)), (9, .slice A93 n94 c95), (68, .bool (decide (((1 + 3 * (c.Library.Maps.length : Int) + 2 * (c.Library.Away.length : Int)) < 0) ∨ (¬ (((scrN c s).1) = ((scrN c s).1))))))] ∧ Lo w210 w') ?_ ?_
     ·refine Q (mI rfl) <| Q (r_lt rfl rfl) <| Q (mB rfl) <| SR.splitD (fun h220 => ?_) (fun h220 => ?_)
      ·refine Qs rfl <| Qs rfl <| Qs rfl <| Qs rfl <| Q (r_pick true rfl (v := .bool true) rfl) <| Q (mB rfl) <| Qs rfl <| Qs rfl <| Qs rfl <| Q (r_pick true rfl (v := .bool true) rfl) <| Qn (⟨_, rfl, ⟨⟨rfl, rfl, rfl, rfl, rfl, rfl, (eDT ((jot h220).1 trivial)), trivial⟩, (Lo.refl _)⟩⟩)
      ·refine Qg rfl (mL rfl) <| Qg rfl (mL rfl) <| SR.gcall rfl ent18 (c_laws_eqStringS w210 ((scrN c s).1) ((hm209.kp hk211 (fun b_ hb e' => e'.elim (fun e' => by have h1 := (hm129.lo hR202).base_le e'; have h2 := hm209.base_le hb; have h4 := hm89.base_le e'; omega) (fun e' => by have h1 := (hm130.lo hR202).base_le e'; have h2 := hm209.base_le hb; have h4 := hm90.base_le e'; omega))).rd) ((scrN c s).1) (hm219.rd)) rfl ?_
       rintro e w221 ⟨rfl, hk222⟩
       refine ⟨_, rfl, ?_⟩
       have hz223 := hk222.size
       refine Qg rfl (r_not rfl) <| Q (r_pick false rfl (v := .bool _) rfl) <| Q (mB rfl) <| SR.splitN (fun h225 => ?_) (fun h225 => ?_)
       ·refine Qs rfl <| Qs rfl <| Qs rfl <| Q (r_pick true rfl (v := .bool true) rfl) <| Qn (⟨_, rfl, ⟨⟨rfl, rfl, rfl, rfl, rfl, rfl, (eDT (((j2f h225).trans (jof h220)).1 trivial)), trivial⟩, hk222⟩⟩)
       ·refine Qg rfl (mB rfl) <| Qg rfl (mB rfl) <| Qg rfl (r_neb_s und4 rfl rfl) <| Q (r_pick false rfl (v := .bool _) rfl) <| Qn (⟨_, rfl, ⟨⟨rfl, rfl, rfl, rfl, rfl, rfl, (eDF ((j2t h225).trans (jof h220)).2), trivial⟩, hk222⟩⟩)
     rintro f226 w227 ⟨hat228, hk229⟩
     rw [← sets_of_at hat228]
     have hz230 := hk229.size
     have hB231 := (hB205.step hk211 (fun i_ hi_ e' => e'.elim (fun e' => by have := (hm129.lo hR202).base_le e'; first | omega | exact e' | exact .inl e' | exact .inr e') (fun e' => by have := (hm130.lo hR202).base_le e'; first | omega | exact e' | exact .inl e' | exact .inr e'))).lo hk229
     refine W.cond_d rfl (fun h232 => ?_) (fun h232 => ?_)
     ·refine Ws (Wr (Q (aB rfl) <| Qn (W.ret (ret1 rfl (v := .bool _) rfl (⟨eR (eB (z_c_laws_FnExactRunScript_234 c nc1 hbdc1 hlec1 nc2 hbdc2 hlec2 s hp0 hp1 h9 h16 hq17 n21 hl31 hl32 n25 hl33 hl34 n38 hl43 hl44 hq45 n52 hl62 hl63 n56 hl64 hl65 n94 hl99 hl100 hq101 h113 hq123 n138 n142 hl149 hl150 hl151 hl152 h206 h232)), hB231⟩)))))
     ·have hq235 : ¬ ((1 + 3 * (c.Library.Maps.length : Int) + 2 * (c.Library.Away.length : Int)) < 0) := (not_or.1 h232).1
      have hq236 : ((scrN c s).1) = ((scrN c s).1) := (Classical.not_not.1 (not_or.1 h232).2)
      refine W.skip (Ws ?_)
      have hm237 := (hm209.kp hk211 (fun b_ hb e' => e'.elim (fun e' => by have h1 := (hm129.lo hR202).base_le e'; have h2 := hm209.base_le hb; have h4 := hm89.base_le e'; omega) (fun e' => by have h1 := (hm130.lo hR202).base_le e'; have h2 := hm209.base_le hb; have h4 := hm90.base_le e'; omega))).lo hk229
      refine Wr (Q (aI rfl) <| Qn (Ws (Wr (Q (mL rfl) <| Q (mI rfl) <| SR.call ent19 (c_laws_markStringS w227 ((scrN c s).1) hm237 1 (by omega) (by omega) (by omega)) rfl ?_))))
      rintro e w238 ⟨rfl, hO240, hk239⟩
      refine ⟨_, rfl, ?_⟩
      have hz241 := hk239.size
      refine Q (aI rfl) <| Qn (Ws ?_)
      have hm243 := (hm216.lo hk229).kp hk239 (fun e' => by have := hm237.base_le e'; omega)
      have hm244 := (hm217.lo hk229).kp hk239 (fun b_ hb e' => by have := hm237.base_le e'; omega)
      have hm245 := (hm218.lo hk229).kp hk239 (fun b_ hb e' => by have := hm237.base_le e'; omega)
      have hm246 := (hm219.lo hk229).kp hk239 (fun b_ hb e' => by have h1 := hm237.base_le e'; have h2 := (hm219.lo hk229).base_le hb; have h3 := hm88.base_le hb; omega)
      refine Wr (Q (aI rfl) <| Qn (Ws (Wr (Q (mL rfl) <| Q (mI rfl) <| Qv ent20 (c_laws_heldStringS w238 (mkL mkStr 1 ((scrN c s).1).length 1) (hO240.rd) 1 (((scrN c s).1).length) (by omega) (by omega) (by omega) (by first | rfl | assumption)) rfl fun w247 hk248 hz249 => ?_))))
      have hB250 := (hB231.step hk239 (fun i_ hi_ e' => by have := hm237.base_le e'; first | omega | exact e' | exact .inl e' | exact .inr e')).lo hk248
      refine Q (aI rfl) <| Qn (Ws (Ws (Wr (Q (mI rfl) <| Q (r_lt rfl rfl) <| Qn (W.cond_d rfl (fun h251 => ?_) (fun h251 => ?_))))))
      ·refine Ws (Wr (Q (aB rfl) <| Qn (W.ret (ret1 rfl (v := .bool _) rfl (⟨eR (eB (z_c_laws_FnExactRunScript_252 c nc1 hbdc1 hlec1 nc2 hbdc2 hlec2 s hp0 hp1 h9 h16 hq17 n21 hl31 hl32 n25 hl33 hl34 n38 hl43 hl44 hq45 n52 hl62 hl63 n56 hl64 hl65 n94 hl99 hl100 hq101 h113 hq123 n138 n142 hl149 hl150 hl151 hl152 h206 h232 hq235 hq236 h251)), hB250⟩)))))
      ·refine W.skip (Ws (Ws (Wr (Q (mI rfl) <| Q (mI rfl) <| Q (r_ne_s rfl rfl) <| Qn (W.cond_f rfl (W.skip (Ws (Wr (Q (lG agg29 rfl (hm243.lo hk248) rfl) <| SR.call ent11 (c_laws_toConsole w247 c (hm244.lo hk248) (hm245.lo hk248) (by omega) (by omega)) rfl ?_)))))))))
       rintro e w253 ⟨A255, n256, c257, A259, n260, c261, rfl, hO258, hO262, hd263, hk254⟩
       refine ⟨_, rfl, ?_⟩
       have hz264 := hk254.size
       have hB265 := hB250.lo hk254
       have hl266 := hO258.len
       have hl267 := hO258.rd.bound
       have hl268 := hO262.len
       have hl269 := hO262.rd.bound
       refine Q (mS rfl) <| SR.call ent17 (c_impl_RunScript w253 c (hO258.rd) (hO262.rd) s (by omega) (by omega) (hE.lo hB265)) rfl ?_
       rintro e w270 ⟨A272, n273, c274, rfl, hO275, hk271⟩
       refine ⟨_, rfl, ?_⟩
       have hz276 := hk271.size
       have hl278 := hO275.len
       have hl279 := hO275.rd.bound
       have hq280 := scr_len c s
       refine Q (mT rfl) <| Q (xL rfl rfl) <| Q (xB rfl rfl) <| Q (aL rfl) <| Q (aB rfl) <| Qn (Ws (Ws (W.regJS (fun f' w' => At f' [(4, .bool false), (9, .slice A93 n94 c95), (12, .int .i64 (1 + 1 * (((scrN c s).1).length : Int))), (13, .int .i64 (1 + 1 * (((scrN c s).1).length : Int))), (95, .bool (decide (¬ (((scrN c s).1) = ((scrN c s).1)))))] ∧ Lo w270 w') ?_ ?_)))
       ·refine Q (mL rfl) <| Q (mL rfl) <| Qv ent18 (c_laws_eqStringS w270 ((scrN c s).1) (hO275.rd) ((scrN c s).1) ((((hm246.lo hk248).lo hk254).lo hk271).rd)) rfl fun w283 hk284 hz285 => (Q (r_not rfl) <| Q (mB rfl) <| SR.splitN (fun h287 => ?_) (fun h287 => ?_))
        ·refine Qs rfl <| Qs rfl <| Qs rfl <| Q (r_pick true rfl (v := .bool true) rfl) <| Qn (⟨_, rfl, ⟨⟨rfl, rfl, rfl, rfl, (eDT ((j2f h287).1 trivial)), trivial⟩, hk284⟩⟩)
        ·refine Qg rfl (mB rfl) <| Qg rfl (mB rfl) <| Qg rfl (r_neb_s und4 rfl rfl) <| Q (r_pick false rfl (v := .bool _) rfl) <| Qn (⟨_, rfl, ⟨⟨rfl, rfl, rfl, rfl, (eDF (j2t h287).2), trivial⟩, hk284⟩⟩)
       rintro f288 w289 ⟨hat290, hk291⟩
       rw [← sets_of_at hat290]
       have hz292 := hk291.size
       refine W.cond_f (congrArg Value.bool (decide_eq_false h113)) (W.skip (Ws (Wr (Q (aI rfl) <| Qn (Ws (Wr (Q (mL rfl) <| Q (mI rfl) <| Qv ent20 (c_laws_heldStringS w289 (mkL mkStr 1 ((scrN c s).1).length 1) (((((hO240.lo hk248).lo hk254).lo hk271).lo hk291).rd) 1 (((scrN c s).1).length) (by omega) (by omega) (by omega) (by first | rfl | assumption)) rfl fun w294 hk295 hz296 => (Q (aI rfl) <| Qn (Ws (Ws (Wr (Q (mI rfl) <| Q (r_lt rfl rfl) <| Qn (W.cond_f (congrArg Value.bool (decide_eq_false h251)) (W.skip (Ws (Ws (Wr (Q (mI rfl) <| Q (mI rfl) <| Q (r_ne_s rfl rfl) <| Qn (W.cond_f rfl (W.skip (Ws (Wr (Q (aB rfl) <| Qn (W.ret (ret1 rfl (v := .bool _) rfl (⟨eR rfl, (((hB265.lo hk271).lo hk291).lo hk295)⟩))))))))))))))))))))))))))
end Go.Proofs.YtndcchndcghmoaaGreatDoor
