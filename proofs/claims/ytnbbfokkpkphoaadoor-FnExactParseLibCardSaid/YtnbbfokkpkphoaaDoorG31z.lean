/- Walks, printed by a program of this claim's author. -/
import Derived.Test.YtnbbfokkpkphoaaDoorChecked
import Derived.Test.YtnbbfokkpkphoaaDoorLa
import Derived.Test.YtnbbfokkpkphoaaDoorFu
import Derived.Test.YtnbbfokkpkphoaaDoorFs
import Derived.Test.YtnbbfokkpkphoaaDoorFq
import Derived.Test.YtnbbfokkpkphoaaDoorG31s
namespace Go.Proofs.YtnbbfokkpkphoaaDoor
open Go Go.RowKit Fw
set_option maxRecDepth 10000
set_option linter.unusedVariables false
theorem ent4 : Ent Tryd.prog 4 := ent_of Tryd.func4 (by decide +kernel) rfl
theorem ent5 : Ent Tryd.prog 5 := ent_of Tryd.func5 (by decide +kernel) rfl
theorem ent6 : Ent Tryd.prog 6 := ent_of Tryd.func6 (by decide +kernel) rfl
theorem und4 : Tryd.prog.underlying 4 = some (.bool) := by kernel_rfl

theorem z_c_laws_FnExactParseLib_51 (s : List UInt8) (h1 : ¬ (1048576 < (s.length : Int))) (h49 : ¬ (((parN s).1) = ((parN s).1))) (hq50 : ¬ (((parN s).1) = ((parN s).1))) : false = true := by
  first | (simp_all; done) | omega
theorem c_laws_FnExactParseLib (w : World) (s : List UInt8) (hE : EnvW w) : Calls Tryd.prog 3 #[str s] w fun e w' => e = .returned (.bool true) ∧ Lo w w' := by
  refine calls_W 29 Tryd.func3 rfl rfl rfl ?_
  refine W.seq ?_
  refine W.regS (SR.q' (r_as (v := .bool false) rfl) <| SR.nil ?_)
  refine W.seq ?_
  refine W.seq ?_
  refine W.regS (SR.q' (r_mv (v := str _) rfl) <| SR.q' (r_len_s und9 rfl) <| SR.q' (r_gt rfl rfl) <| SR.nil ?_)
  refine W.cond_d rfl (fun h1 => ?_) (fun h1 => ?_)
  · refine W.seq ?_
    refine W.regS (SR.q' (r_as (v := .bool true) rfl) <| SR.nil ?_)
    refine W.ret ?_
    refine ret1 rfl (v := .bool _) rfl ?_
    exact ⟨eR rfl, (Lo.refl w)⟩
  · refine W.skip ?_
    refine W.seq ?_
    refine W.regS (SR.q' (r_mv (v := str _) rfl) <| SR.call ent4 (c_spec_ParseLib w s (by first | omega | (simp only [List.length_append, List.length_cons, List.length_nil, List.length_take, List.length_drop]; omega))) rfl ?_)
    rintro e w2 ⟨rfl, hk3⟩
    refine ⟨_, rfl, ?_⟩
    have hz4 := hk3.size
    have hB5 := (Lo.refl w).lo hk3
    refine SR.q' (r_mv (v := .tuple (List.toArray _)) rfl) <| SR.q' (r_ext (v := .agg (List.toArray _)) rfl rfl) <| SR.q' (r_ext (v := .bool _) rfl rfl) <| SR.alloc (l := [.int .i64 0, .int .i64 0, .int .i64 0, .int .i64 0, .int .i64 0]) tz23 rfl ?_
    intro g6 w7 hg8 hk9 hs10 hb11
    have hz12 := hk9.size
    have hB13 := hB5.lo hk9
    refine SR.store (o := 0) (vs := [.int .i64 (((parN s).1).Month), .int .i64 (((parN s).1).Lent), .int .i64 (((parN s).1).Copied), .int .i64 (((parN s).1).Given), .int .i64 (((parN s).1).Fines)]) agg23.2 rfl rfl rfl rfl (hb11) (Nat.le_of_ble_eq_true rfl) rfl ?_
    intro w14 hk15 hs16 hb17
    have hz18 := hk15.size
    have hB19 := hB13.new hk15 (by omega)
    refine SR.q' (r_as (v := .bool _) rfl) <| SR.nil ?_
    refine W.seq ?_
    refine W.regS (SR.q' (r_mv (v := str _) rfl) <| SR.call ent5 (c_impl_ParseLib w14 s (by first | omega | (simp only [List.length_append, List.length_cons, List.length_nil, List.length_take, List.length_drop]; omega)) (hE.lo (hB19))) rfl ?_)
    rintro e w20 ⟨rfl, hk21⟩
    refine ⟨_, rfl, ?_⟩
    have hz22 := hk21.size
    have hB23 := hB19.lo hk21
    refine SR.q' (r_mv (v := .tuple (List.toArray _)) rfl) <| SR.q' (r_ext (v := .agg (List.toArray _)) rfl rfl) <| SR.q' (r_ext (v := .bool _) rfl rfl) <| SR.alloc (l := [.int .i64 0, .int .i64 0, .int .i64 0, .int .i64 0, .int .i64 0]) tz23 rfl ?_
    intro g24 w25 hg26 hk27 hs28 hb29
    have hz30 := hk27.size
    have hB31 := hB23.lo hk27
    refine SR.store (o := 0) (vs := [.int .i64 (((parN s).1).Month), .int .i64 (((parN s).1).Lent), .int .i64 (((parN s).1).Copied), .int .i64 (((parN s).1).Given), .int .i64 (((parN s).1).Fines)]) agg23.2 rfl rfl rfl rfl (hb29) (Nat.le_of_ble_eq_true rfl) rfl ?_
    intro w32 hk33 hs34 hb35
    have hz36 := hk33.size
    have hB37 := hB31.new hk33 (by omega)
    refine SR.q' (r_as (v := .bool _) rfl) <| SR.nil ?_
    refine W.seq ?_
    refine W.seq ?_
    refine W.regJS (fun f' w' => At f' [(2, .bool false), (28, .bool (decide (¬ (((parN s).1) = ((parN s).1)))))] ∧ Lo w32 w') ?_ ?_
    · refine SR.q' (r_lda (l := [.int .i64 (((parN s).1).Month), .int .i64 (((parN s).1).Lent), .int .i64 (((parN s).1).Copied), .int .i64 (((parN s).1).Given), .int .i64 (((parN s).1).Fines)]) agg23 rfl (fun _ _ hu => (hb35).cell hu) rfl) <| SR.q' (r_lda (l := [.int .i64 (((parN s).1).Month), .int .i64 (((parN s).1).Lent), .int .i64 (((parN s).1).Copied), .int .i64 (((parN s).1).Given), .int .i64 (((parN s).1).Fines)]) agg23 rfl (fun _ _ hu => ((((hb17).lo hk21).lo hk27).kn hk33 (by omega)).cell hu) rfl) <| SR.call ent6 (c_laws_eqLibRow w32 ((parN s).1) ((parN s).1)) rfl ?_
      rintro e w38 ⟨rfl, hk39⟩
      refine ⟨_, rfl, ?_⟩
      have hz40 := hk39.size
      have hB41 := hB37.lo hk39
      refine SR.q' (r_not rfl) <| SR.q' (r_mv (v := .bool _) rfl) <| SR.splitN (fun h42 => ?_) (fun h42 => ?_)
      · refine SR.s' rfl <| SR.s' rfl <| SR.s' rfl <| SR.q' (r_pick true rfl (v := .bool true) rfl) <| SR.nil ?_
        exact ⟨_, rfl, ⟨⟨rfl, (eDT ((j2f h42).1 trivial)), trivial⟩, (hk39)⟩⟩
      · refine SR.g' rfl (r_mv (v := .bool _) rfl) <| SR.g' rfl (r_mv (v := .bool _) rfl) <| SR.g' rfl (r_neb_s und4 rfl rfl) <| SR.q' (r_pick false rfl (v := .bool _) rfl) <| SR.nil ?_
        exact ⟨_, rfl, ⟨⟨rfl, (eDF (j2t h42).2), trivial⟩, (hk39)⟩⟩
    rintro f43 w44 ⟨hat45, hk46⟩
    rw [← sets_of_at hat45]
    have hz47 := hk46.size
    have hB48 := hB37.lo hk46
    refine W.cond_d rfl (fun h49 => ?_) (fun h49 => ?_)
    · have hq50 : ¬ (((parN s).1) = ((parN s).1)) := h49
      refine W.seq ?_
      refine W.regS (SR.q' (r_as (v := .bool false) rfl) <| SR.nil ?_)
      refine W.ret ?_
      refine ret1 rfl (v := .bool _) rfl ?_
      exact ⟨eR (eB (z_c_laws_FnExactParseLib_51 s h1 h49 hq50)), hB48⟩
    · have hq52 : ((parN s).1) = ((parN s).1) := (Classical.not_not.1 h49)
      refine W.skip ?_
      refine W.seq ?_
      refine W.regS (SR.q' (r_as (v := .bool true) rfl) <| SR.nil ?_)
      refine W.ret ?_
      refine ret1 rfl (v := .bool _) rfl ?_
      exact ⟨eR rfl, hB48⟩
end Go.Proofs.YtnbbfokkpkphoaaDoor
