/- Walks, printed by a program of this claim's author. -/
import Derived.Test.YthlbmkpkgiabnaaDoorChecked
import Derived.Test.YthlbmkpkgiabnaaDoorWb
import Derived.Test.YthlbmkpkgiabnaaDoorFt
import Derived.Test.YthlbmkpkgiabnaaDoorSi
import Derived.Test.YthlbmkpkgiabnaaDoorG33t
namespace Go.Proofs.YthlbmkpkgiabnaaDoor
open Go Go.RowKit Fw
set_option maxRecDepth 10000
set_option linter.unusedVariables false


theorem z_c_impl_CrashLog_26 (l : Log) (keep : Int) (torn : Bool) (hp0 : (l.Durable.length : Int) + (l.Pending.length : Int) ≤ 4000000) (h25 : (¬ (LogOK l)) ∨ (¬ (0 ≤ keep ∧ keep ≤ (l.Pending.length : Int)))) : ([] : List UInt8) = (crashN l keep torn).1 := by
  first | (rw [crash_no ‹¬ _ ∨ _›]; done) | exact crash_tornI ‹¬ (_ ∨ _)› ‹_ ∧ 0 < keep› | exact crash_tornS ‹¬ (_ ∨ _)› ‹_ ∧ 0 < keep› | exact crash_whole ‹¬ (_ ∨ _)› ‹¬ (_ ∧ 0 < keep)› | exact crash_ok ‹¬ (_ ∨ _)›
theorem z_c_impl_CrashLog_27 (l : Log) (keep : Int) (torn : Bool) (hp0 : (l.Durable.length : Int) + (l.Pending.length : Int) ≤ 4000000) (h25 : (¬ (LogOK l)) ∨ (¬ (0 ≤ keep ∧ keep ≤ (l.Pending.length : Int)))) : false = (crashN l keep torn).2 := by
  first | (rw [crash_no ‹¬ _ ∨ _›]; done) | exact crash_tornI ‹¬ (_ ∨ _)› ‹_ ∧ 0 < keep› | exact crash_tornS ‹¬ (_ ∨ _)› ‹_ ∧ 0 < keep› | exact crash_whole ‹¬ (_ ∨ _)› ‹¬ (_ ∧ 0 < keep)› | exact crash_ok ‹¬ (_ ∨ _)›
theorem z_c_impl_CrashLog_75 (l : Log) (keep : Int) (torn : Bool) (hp0 : (l.Durable.length : Int) + (l.Pending.length : Int) ≤ 4000000) (h25 : ¬ ((¬ (LogOK l)) ∨ (¬ (0 ≤ keep ∧ keep ≤ (l.Pending.length : Int))))) (hq28 : LogOK l) (hq29 : 0 ≤ keep ∧ keep ≤ (l.Pending.length : Int)) (hq30 : l.Durable.length + l.Pending.length ≤ 24360 ∧ 0 ≤ l.Count ∧ l.Count ≤ 60) (hq45 : (l.Durable ++ (l.Pending.take keep.toNat)).length = l.Durable.length + min keep.toNat l.Pending.length) (h62 : (torn = true) ∧ (0 < keep)) (hq63 : torn = true) (hq64 : 0 < keep) (hx66 : (l.Durable ++ (l.Pending.take keep.toNat))[((((l.Durable ++ (l.Pending.take keep.toNat)).length : Nat) : Int) - 1).toNat]? = some (gt (l.Durable ++ (l.Pending.take keep.toNat)) (((((l.Durable ++ (l.Pending.take keep.toNat)).length : Nat) : Int) - 1).toNat))) (hq67 : ((gt (l.Durable ++ (l.Pending.take keep.toNat)) (((((l.Durable ++ (l.Pending.take keep.toNat)).length : Nat) : Int) - 1).toNat)).toNat : Int) ≤ 255) : (l.Durable ++ (l.Pending.take keep.toNat)).set (((((l.Durable ++ (l.Pending.take keep.toNat)).length : Nat) : Int) - 1).toNat) (bw (255 - ((gt (l.Durable ++ (l.Pending.take keep.toNat)) (((((l.Durable ++ (l.Pending.take keep.toNat)).length : Nat) : Int) - 1).toNat)).toNat : Int))) = (crashN l keep torn).1 := by
  first | (rw [crash_no ‹¬ _ ∨ _›]; done) | exact crash_tornI ‹¬ (_ ∨ _)› ‹_ ∧ 0 < keep› | exact crash_tornS ‹¬ (_ ∨ _)› ‹_ ∧ 0 < keep› | exact crash_whole ‹¬ (_ ∨ _)› ‹¬ (_ ∧ 0 < keep)› | exact crash_ok ‹¬ (_ ∨ _)›
theorem z_c_impl_CrashLog_76 (l : Log) (keep : Int) (torn : Bool) (hp0 : (l.Durable.length : Int) + (l.Pending.length : Int) ≤ 4000000) (h25 : ¬ ((¬ (LogOK l)) ∨ (¬ (0 ≤ keep ∧ keep ≤ (l.Pending.length : Int))))) (hq28 : LogOK l) (hq29 : 0 ≤ keep ∧ keep ≤ (l.Pending.length : Int)) (hq30 : l.Durable.length + l.Pending.length ≤ 24360 ∧ 0 ≤ l.Count ∧ l.Count ≤ 60) (hq45 : (l.Durable ++ (l.Pending.take keep.toNat)).length = l.Durable.length + min keep.toNat l.Pending.length) (h62 : (torn = true) ∧ (0 < keep)) (hq63 : torn = true) (hq64 : 0 < keep) (hx66 : (l.Durable ++ (l.Pending.take keep.toNat))[((((l.Durable ++ (l.Pending.take keep.toNat)).length : Nat) : Int) - 1).toNat]? = some (gt (l.Durable ++ (l.Pending.take keep.toNat)) (((((l.Durable ++ (l.Pending.take keep.toNat)).length : Nat) : Int) - 1).toNat))) (hq67 : ((gt (l.Durable ++ (l.Pending.take keep.toNat)) (((((l.Durable ++ (l.Pending.take keep.toNat)).length : Nat) : Int) - 1).toNat)).toNat : Int) ≤ 255) : true = (crashN l keep torn).2 := by
  first | (rw [crash_no ‹¬ _ ∨ _›]; done) | exact crash_tornI ‹¬ (_ ∨ _)› ‹_ ∧ 0 < keep› | exact crash_tornS ‹¬ (_ ∨ _)› ‹_ ∧ 0 < keep› | exact crash_whole ‹¬ (_ ∨ _)› ‹¬ (_ ∧ 0 < keep)› | exact crash_ok ‹¬ (_ ∨ _)›
theorem z_c_impl_CrashLog_77 (l : Log) (keep : Int) (torn : Bool) (hp0 : (l.Durable.length : Int) + (l.Pending.length : Int) ≤ 4000000) (h25 : ¬ ((¬ (LogOK l)) ∨ (¬ (0 ≤ keep ∧ keep ≤ (l.Pending.length : Int))))) (hq28 : LogOK l) (hq29 : 0 ≤ keep ∧ keep ≤ (l.Pending.length : Int)) (hq30 : l.Durable.length + l.Pending.length ≤ 24360 ∧ 0 ≤ l.Count ∧ l.Count ≤ 60) (hq45 : (l.Durable ++ (l.Pending.take keep.toNat)).length = l.Durable.length + min keep.toNat l.Pending.length) (h62 : ¬ ((torn = true) ∧ (0 < keep))) : l.Durable ++ (l.Pending.take keep.toNat) = (crashN l keep torn).1 := by
  first | (rw [crash_no ‹¬ _ ∨ _›]; done) | exact crash_tornI ‹¬ (_ ∨ _)› ‹_ ∧ 0 < keep› | exact crash_tornS ‹¬ (_ ∨ _)› ‹_ ∧ 0 < keep› | exact crash_whole ‹¬ (_ ∨ _)› ‹¬ (_ ∧ 0 < keep)› | exact crash_ok ‹¬ (_ ∨ _)›
theorem z_c_impl_CrashLog_78 (l : Log) (keep : Int) (torn : Bool) (hp0 : (l.Durable.length : Int) + (l.Pending.length : Int) ≤ 4000000) (h25 : ¬ ((¬ (LogOK l)) ∨ (¬ (0 ≤ keep ∧ keep ≤ (l.Pending.length : Int))))) (hq28 : LogOK l) (hq29 : 0 ≤ keep ∧ keep ≤ (l.Pending.length : Int)) (hq30 : l.Durable.length + l.Pending.length ≤ 24360 ∧ 0 ≤ l.Count ∧ l.Count ≤ 60) (hq45 : (l.Durable ++ (l.Pending.take keep.toNat)).length = l.Durable.length + min keep.toNat l.Pending.length) (h62 : ¬ ((torn = true) ∧ (0 < keep))) : true = (crashN l keep torn).2 := by
  first | (rw [crash_no ‹¬ _ ∨ _›]; done) | exact crash_tornI ‹¬ (_ ∨ _)› ‹_ ∧ 0 < keep› | exact crash_tornS ‹¬ (_ ∨ _)› ‹_ ∧ 0 < keep› | exact crash_whole ‹¬ (_ ∨ _)› ‹¬ (_ ∧ 0 < keep)› | exact crash_ok ‹¬ (_ ∨ _)›
theorem c_impl_CrashLog (w : World) (l : Log) (keep : Int) (torn : Bool) (hp0 : (l.Durable.length : Int) + (l.Pending.length : Int) ≤ 4000000) (hE : EnvW w) : Calls Tryd.prog 25 #[.agg (List.toArray (encLog l)), .int .i64 keep, .bool torn] w fun e w' => e = .returned (.tuple (List.toArray [str ((crashN l keep torn).1), .bool ((crashN l keep torn).2)])) ∧ Lo w w' := by
  refine calls_W 47 Tryd.func25 rfl rfl rfl ?_
  refine W.seq ?_
  refine W.regS (SR.box (v := .agg (List.toArray _)) (l := [str l.Durable, str l.Pending, .int .i64 l.Count]) rfl rfl ?_)
  intro g1 w2 hg3 hk4 hs5 hb6
  have hz7 := hk4.size
  have hB8 := (Lo.refl w).lo hk4
  refine SR.q' (r_as (v := str ([] : List UInt8)) rfl) <| SR.q' (r_as (v := .bool false) rfl) <| SR.nil ?_
  refine W.seq ?_
  refine W.seq ?_
  refine W.regJS (fun f' w' => At f' [(1, .int .i64 keep), (2, .bool torn), (3, .pointer (some ((⟨g1, 0, none⟩ : Addr)))), (6, str ([] : List UInt8)), (7, .bool false), (19, .bool (decide ((¬ (LogOK l)) ∨ (¬ (0 ≤ keep ∧ keep ≤ (l.Pending.length : Int))))))] ∧ Lo w2 w') ?_ ?_
  · refine SR.q' (r_lda (l := [str l.Durable, str l.Pending, .int .i64 l.Count]) agg31 rfl (fun _ _ hu => (hb6).cell hu) rfl) <| SR.call ent23 (c_impl_IsValidLog w2 l (by omega) (hE.lo (hB8))) rfl ?_
    rintro e w9 ⟨rfl, hk10⟩
    refine ⟨_, rfl, ?_⟩
    have hz11 := hk10.size
    have hB12 := hB8.lo hk10
    refine SR.q' (r_not rfl) <| SR.q' (r_mv (v := .bool _) rfl) <| SR.splitN (fun h13 => ?_) (fun h13 => ?_)
    · refine SR.s' rfl <| SR.s' rfl <| SR.s' rfl <| SR.s' rfl <| SR.s' rfl <| SR.s' rfl <| SR.q' (r_pick true rfl (v := .bool true) rfl) <| SR.nil ?_
      exact ⟨_, rfl, ⟨⟨rfl, rfl, rfl, rfl, rfl, (eDT ((jmf h13).1 trivial)), trivial⟩, (hk10)⟩⟩
    · have hq14 := log_rng h13
      refine SR.g' rfl (r_mv (v := .int .i64 _) rfl) <| SR.g' rfl (r_fa fa31_1 rfl) <| SR.g' rfl (r_ld (v := str l.Pending) sca9 rfl (((hb6).lo hk10).cell rfl)) <| SR.g' rfl (r_len_s und9 rfl) <| SR.gcall rfl ent45 (c_impl_within w9 keep 0 (l.Pending.length : Int)) rfl ?_
      rintro e w15 ⟨rfl, hk16⟩
      refine ⟨_, rfl, ?_⟩
      have hz17 := hk16.size
      have hB18 := hB12.lo hk16
      refine SR.g' rfl (r_not rfl) <| SR.q' (r_pick false rfl (v := .bool _) rfl) <| SR.nil ?_
      exact ⟨_, rfl, ⟨⟨rfl, rfl, rfl, rfl, rfl, (eND (jmt h13)), trivial⟩, ((hk10).trans hk16)⟩⟩
  rintro f19 w20 ⟨hat21, hk22⟩
  rw [← sets_of_at hat21]
  have hz23 := hk22.size
  have hB24 := hB8.lo hk22
  refine W.cond_d rfl (fun h25 => ?_) (fun h25 => ?_)
  · refine W.seq ?_
    refine W.regS (SR.q' (r_as (v := str ([] : List UInt8)) rfl) <| SR.q' (r_as (v := .bool false) rfl) <| SR.nil ?_)
    refine W.ret ?_
    refine ret2 rfl (v := str _) (v' := .bool _) rfl rfl ?_
    exact ⟨eR (eT2 (eS (z_c_impl_CrashLog_26 l keep torn hp0 h25)) (eB (z_c_impl_CrashLog_27 l keep torn hp0 h25))), hB24⟩
  · have hq28 : LogOK l := (Classical.not_not.1 (not_or.1 h25).1)
    have hq29 : 0 ≤ keep ∧ keep ≤ (l.Pending.length : Int) := (Classical.not_not.1 (not_or.1 h25).2)
    have hq30 := log_rng hq28
    refine W.skip ?_
    refine W.seq ?_
    refine W.regA (Lo w20) (fun f' w' => ∃ (g35 : Nat), ∃ (c36 : Nat), At f' [(1, .int .i64 keep), (2, .bool torn), (6, str ([] : List UInt8)), (7, .bool false), (8, .slice (some (⟨g35, 0, none⟩ : Addr)) ((l.Durable ++ (l.Pending.take keep.toNat)).length) c36)] ∧ (Lo w20 w') ∧ (SlR w' w'.heap.size encB 1 (some (⟨g35, 0, none⟩ : Addr)) ((l.Durable ++ (l.Pending.take keep.toNat)).length) c36 (l.Durable ++ (l.Pending.take keep.toNat))) ∧ (BytO w' g35 5 c36 (l.Durable ++ (l.Pending.take keep.toNat))) ∧ (w20.heap.size ≤ g35 ∧ g35 < w'.heap.size) ∧ ((l.Durable ++ (l.Pending.take keep.toNat)).length = l.Durable.length + min keep.toNat l.Pending.length)) mo ?_ ?_
    · intro w31 hk32
      have hz33 := hk32.size
      have hB34 := hB24.lo hk32
      refine AH.take 0 rfl (by kernel_rfl) trivial (hk32) (fun w' hw' => r_fa fa31_0 rfl) <| AH.take 1 rfl (by kernel_rfl) trivial (hk32) (fun w' hw' => r_ld (v := str l.Durable) sca9 rfl ((((hb6).lo hk22).lo hw').cell rfl)) <| AH.take 2 rfl (by kernel_rfl) trivial (hk32) (fun w' hw' => r_fa fa31_1 rfl) <| AH.take 3 rfl (by kernel_rfl) trivial (hk32) (fun w' hw' => r_ld (v := str l.Pending) sca9 rfl ((((hb6).lo hk22).lo hw').cell rfl)) <| AH.take 4 rfl (by kernel_rfl) trivial (hk32) (fun w' hw' => r_mv (v := .int .i64 _) rfl) <| AH.take 5 rfl (by kernel_rfl) trivial (hk32) (fun w' hw' => r_cuthS (h := keep.toNat) und9 rfl rfl (by omega) (by first | omega | (simp only [List.length_append, List.length_cons, List.length_nil, List.length_take, List.length_drop]; omega) | (simp only [List.length_append, List.length_cons, List.length_nil, List.length_take, List.length_drop] at *; omega))) <| AH.take 6 rfl (by kernel_rfl) trivial (hk32) (fun w' hw' => r_cat rfl rfl (by first | omega | (simp only [List.length_append, List.length_set, List.length_take]; omega))) <| AH.br [7] (by kernel_rfl) rfl ⟨Br.mk' rfl trivial ?_, trivial⟩
      refine SR.bytesO (s := l.Durable ++ (l.Pending.take keep.toNat)) und9 und53 und5 rfl (by first | omega | (simp only [List.length_append, List.length_cons, List.length_nil, List.length_take, List.length_drop]; omega) | (simp only [List.length_append, List.length_cons, List.length_nil, List.length_take, List.length_drop] at *; omega)) ?_
      intro g35 c36 w37 hg38 hk39 hR40 hW41
      have hz42 := hk39.size
      have hB43 := hB34.lo hk39
      have hS44 := (hk32).lo hk39
      have hq45 : (l.Durable ++ (l.Pending.take keep.toNat)).length = l.Durable.length + min keep.toNat l.Pending.length := by simp only [List.length_append, List.length_take]
      refine SR.nil ⟨hS44, _, rfl, ?_⟩
      refine AH.take 8 rfl (by kernel_rfl) trivial (hS44) (fun w' hw' => r_as (v := .slice _ _ _) rfl) <| AH.done (by kernel_rfl) ?_
      exact ⟨g35, c36, ⟨rfl, rfl, rfl, rfl, rfl, trivial⟩, hS44, (hR40).top, hW41, ⟨by omega, (hW41).lt⟩, hq45⟩
    rintro f49 w50 ⟨g35, c36, hat52, hR51, hm46, hW47, hg48, hq45⟩
    rw [← sets_of_at hat52]
    have hz53 := hR51.size
    have hB54 := hB24.lo hR51
    refine W.seq ?_
    refine W.seq ?_
    refine W.regJS (fun f' w' => At f' [(6, str ([] : List UInt8)), (7, .bool false), (8, .slice (some (⟨g35, 0, none⟩ : Addr)) ((l.Durable ++ (l.Pending.take keep.toNat)).length) c36), (32, .bool (decide ((torn = true) ∧ (0 < keep))))] ∧ Lo w50 w') ?_ ?_
    · refine SR.q' (r_mv (v := .bool _) rfl) <| SR.q' (r_mv (v := .bool _) rfl) <| SR.split (fun h55 => ?_) (fun h55 => ?_)
      · refine SR.g' rfl (r_mv (v := .int .i64 _) rfl) <| SR.g' rfl (r_gt rfl rfl) <| SR.q' (r_pick true rfl (v := .bool _) rfl) <| SR.nil ?_
        exact ⟨_, rfl, ⟨⟨rfl, rfl, rfl, (eDD (jat h55)), trivial⟩, (Lo.refl _)⟩⟩
      · refine SR.s' rfl <| SR.s' rfl <| SR.q' (r_pick false rfl (v := .bool false) rfl) <| SR.nil ?_
        exact ⟨_, rfl, ⟨⟨rfl, rfl, rfl, (eDF (jaf (ne_true_of_eq_false h55)).2), trivial⟩, (Lo.refl _)⟩⟩
    rintro f56 w57 ⟨hat58, hk59⟩
    rw [← sets_of_at hat58]
    have hz60 := hk59.size
    have hB61 := hB54.lo hk59
    refine W.cond_d rfl (fun h62 => ?_) (fun h62 => ?_)
    · have hq63 : torn = true := h62.1
      have hq64 : 0 < keep := h62.2
      refine W.regS (SR.q' (r_mv (v := .slice _ _ _) rfl) <| SR.q' (r_mv (v := .slice _ _ _) rfl) <| SR.q' (r_len und53 rfl) <| SR.q' (r_sub rfl rfl (by first | omega | (simp only [List.length_append, List.length_set, List.length_take]; omega))) <| SR.q' (r_mv (v := .slice _ _ _) rfl) <| SR.q' (r_mv (v := .slice _ _ _) rfl) <| SR.q' (r_len und53 rfl) <| SR.q' (r_sub rfl rfl (by first | omega | (simp only [List.length_append, List.length_set, List.length_take]; omega))) <| ?_)
      have hx66 := ((hm46).lo hk59).elem (i := ((((l.Durable ++ (l.Pending.take keep.toNat)).length : Nat) : Int) - 1).toNat) (by omega)
      have hq67 := u8_le (gt (l.Durable ++ (l.Pending.take keep.toNat)) (((((l.Durable ++ (l.Pending.take keep.toNat)).length : Nat) : Int) - 1).toNat))
      refine SR.q' (r_ixR tsl53 ((hm46).lo hk59) rfl rfl (by omega)) <| SR.q' (r_ld (v := .int .u8 ((gt (l.Durable ++ (l.Pending.take keep.toNat)) (((((l.Durable ++ (l.Pending.take keep.toNat)).length : Nat) : Int) - 1).toNat)).toNat : Int)) sca5 rfl (((hm46).lo hk59).cell0 hx66 rfl)) <| SR.q' (r_subB rfl rfl) <| SR.q' (r_ixR tsl53 ((hm46).lo hk59) rfl rfl (by omega)) <| SR.storeB (i := ((((l.Durable ++ (l.Pending.take keep.toNat)).length : Nat) : Int) - 1).toNat) (b := (bw (255 - ((gt (l.Durable ++ (l.Pending.take keep.toNat)) (((((l.Durable ++ (l.Pending.take keep.toNat)).length : Nat) : Int) - 1).toNat)).toNat : Int)))) sca5.2 rfl rfl rfl ((hW47).lo hk59) (by first | omega | (simp only [List.length_append, List.length_cons, List.length_nil, List.length_take, List.length_drop]; omega) | (simp only [List.length_append, List.length_cons, List.length_nil, List.length_take, List.length_drop] at *; omega)) ?_
      intro w68 hk69 hs70 hW71
      have hz73 := hk69.size
      have hB74 := hB61.new hk69 (by omega)
      have hR72 := hW71.slr
      rw [List.length_set] at hR72
      refine SR.nil ?_
      refine W.seq ?_
      refine W.regS (SR.q' (r_mv (v := .slice _ _ _) rfl) <| SR.q' (r_ofB und53 und5 und9 rfl (hR72)) <| SR.q' (r_as (v := str _) rfl) <| SR.q' (r_as (v := .bool true) rfl) <| SR.nil ?_)
      refine W.ret ?_
      refine ret2 rfl (v := str _) (v' := .bool _) rfl rfl ?_
      exact ⟨eR (eT2 (eS (z_c_impl_CrashLog_75 l keep torn hp0 h25 hq28 hq29 hq30 hq45 h62 hq63 hq64 hx66 hq67)) (eB (z_c_impl_CrashLog_76 l keep torn hp0 h25 hq28 hq29 hq30 hq45 h62 hq63 hq64 hx66 hq67))), hB74⟩
    · refine W.skip ?_
      refine W.seq ?_
      refine W.regS (SR.q' (r_mv (v := .slice _ _ _) rfl) <| SR.q' (r_ofB und53 und5 und9 rfl ((hm46).lo hk59)) <| SR.q' (r_as (v := str _) rfl) <| SR.q' (r_as (v := .bool true) rfl) <| SR.nil ?_)
      refine W.ret ?_
      refine ret2 rfl (v := str _) (v' := .bool _) rfl rfl ?_
      exact ⟨eR (eT2 (eS (z_c_impl_CrashLog_77 l keep torn hp0 h25 hq28 hq29 hq30 hq45 h62)) (eB (z_c_impl_CrashLog_78 l keep torn hp0 h25 hq28 hq29 hq30 hq45 h62))), hB61⟩

theorem z_c_spec_CrashLog_26 (l : Log) (keep : Int) (torn : Bool) (hp0 : (l.Durable.length : Int) + (l.Pending.length : Int) ≤ 4000000) (h25 : (¬ (LogOK l)) ∨ (¬ (0 ≤ keep ∧ keep ≤ (l.Pending.length : Int)))) : ([] : List UInt8) = (crashN l keep torn).1 := by
  first | (rw [crash_no ‹¬ _ ∨ _›]; done) | exact crash_tornI ‹¬ (_ ∨ _)› ‹_ ∧ 0 < keep› | exact crash_tornS ‹¬ (_ ∨ _)› ‹_ ∧ 0 < keep› | exact crash_whole ‹¬ (_ ∨ _)› ‹¬ (_ ∧ 0 < keep)› | exact crash_ok ‹¬ (_ ∨ _)›
theorem z_c_spec_CrashLog_27 (l : Log) (keep : Int) (torn : Bool) (hp0 : (l.Durable.length : Int) + (l.Pending.length : Int) ≤ 4000000) (h25 : (¬ (LogOK l)) ∨ (¬ (0 ≤ keep ∧ keep ≤ (l.Pending.length : Int)))) : false = (crashN l keep torn).2 := by
  first | (rw [crash_no ‹¬ _ ∨ _›]; done) | exact crash_tornI ‹¬ (_ ∨ _)› ‹_ ∧ 0 < keep› | exact crash_tornS ‹¬ (_ ∨ _)› ‹_ ∧ 0 < keep› | exact crash_whole ‹¬ (_ ∨ _)› ‹¬ (_ ∧ 0 < keep)› | exact crash_ok ‹¬ (_ ∨ _)›
theorem z_c_spec_CrashLog_61 (l : Log) (keep : Int) (torn : Bool) (hp0 : (l.Durable.length : Int) + (l.Pending.length : Int) ≤ 4000000) (h25 : ¬ ((¬ (LogOK l)) ∨ (¬ (0 ≤ keep ∧ keep ≤ (l.Pending.length : Int))))) (hq28 : LogOK l) (hq29 : 0 ≤ keep ∧ keep ≤ (l.Pending.length : Int)) (hq30 : l.Durable.length + l.Pending.length ≤ 24360 ∧ 0 ≤ l.Count ∧ l.Count ≤ 60) (hq40 : (l.Pending.take keep.toNat).length = min keep.toNat l.Pending.length) (h48 : (torn = true) ∧ (0 < keep)) (hq49 : torn = true) (hq50 : 0 < keep) (hx52 : (l.Pending.take keep.toNat)[(keep - 1).toNat]? = some (gt (l.Pending.take keep.toNat) ((keep - 1).toNat))) (hq53 : ((gt (l.Pending.take keep.toNat) ((keep - 1).toNat)).toNat : Int) ≤ 255) : l.Durable ++ ((l.Pending.take keep.toNat).set ((keep - 1).toNat) (bw (255 - ((gt (l.Pending.take keep.toNat) ((keep - 1).toNat)).toNat : Int)))) = (crashN l keep torn).1 := by
  first | (rw [crash_no ‹¬ _ ∨ _›]; done) | exact crash_tornI ‹¬ (_ ∨ _)› ‹_ ∧ 0 < keep› | exact crash_tornS ‹¬ (_ ∨ _)› ‹_ ∧ 0 < keep› | exact crash_whole ‹¬ (_ ∨ _)› ‹¬ (_ ∧ 0 < keep)› | exact crash_ok ‹¬ (_ ∨ _)›
theorem z_c_spec_CrashLog_62 (l : Log) (keep : Int) (torn : Bool) (hp0 : (l.Durable.length : Int) + (l.Pending.length : Int) ≤ 4000000) (h25 : ¬ ((¬ (LogOK l)) ∨ (¬ (0 ≤ keep ∧ keep ≤ (l.Pending.length : Int))))) (hq28 : LogOK l) (hq29 : 0 ≤ keep ∧ keep ≤ (l.Pending.length : Int)) (hq30 : l.Durable.length + l.Pending.length ≤ 24360 ∧ 0 ≤ l.Count ∧ l.Count ≤ 60) (hq40 : (l.Pending.take keep.toNat).length = min keep.toNat l.Pending.length) (h48 : (torn = true) ∧ (0 < keep)) (hq49 : torn = true) (hq50 : 0 < keep) (hx52 : (l.Pending.take keep.toNat)[(keep - 1).toNat]? = some (gt (l.Pending.take keep.toNat) ((keep - 1).toNat))) (hq53 : ((gt (l.Pending.take keep.toNat) ((keep - 1).toNat)).toNat : Int) ≤ 255) : true = (crashN l keep torn).2 := by
  first | (rw [crash_no ‹¬ _ ∨ _›]; done) | exact crash_tornI ‹¬ (_ ∨ _)› ‹_ ∧ 0 < keep› | exact crash_tornS ‹¬ (_ ∨ _)› ‹_ ∧ 0 < keep› | exact crash_whole ‹¬ (_ ∨ _)› ‹¬ (_ ∧ 0 < keep)› | exact crash_ok ‹¬ (_ ∨ _)›
theorem z_c_spec_CrashLog_63 (l : Log) (keep : Int) (torn : Bool) (hp0 : (l.Durable.length : Int) + (l.Pending.length : Int) ≤ 4000000) (h25 : ¬ ((¬ (LogOK l)) ∨ (¬ (0 ≤ keep ∧ keep ≤ (l.Pending.length : Int))))) (hq28 : LogOK l) (hq29 : 0 ≤ keep ∧ keep ≤ (l.Pending.length : Int)) (hq30 : l.Durable.length + l.Pending.length ≤ 24360 ∧ 0 ≤ l.Count ∧ l.Count ≤ 60) (hq40 : (l.Pending.take keep.toNat).length = min keep.toNat l.Pending.length) (h48 : ¬ ((torn = true) ∧ (0 < keep))) : l.Durable ++ (l.Pending.take keep.toNat) = (crashN l keep torn).1 := by
  first | (rw [crash_no ‹¬ _ ∨ _›]; done) | exact crash_tornI ‹¬ (_ ∨ _)› ‹_ ∧ 0 < keep› | exact crash_tornS ‹¬ (_ ∨ _)› ‹_ ∧ 0 < keep› | exact crash_whole ‹¬ (_ ∨ _)› ‹¬ (_ ∧ 0 < keep)› | exact crash_ok ‹¬ (_ ∨ _)›
theorem z_c_spec_CrashLog_64 (l : Log) (keep : Int) (torn : Bool) (hp0 : (l.Durable.length : Int) + (l.Pending.length : Int) ≤ 4000000) (h25 : ¬ ((¬ (LogOK l)) ∨ (¬ (0 ≤ keep ∧ keep ≤ (l.Pending.length : Int))))) (hq28 : LogOK l) (hq29 : 0 ≤ keep ∧ keep ≤ (l.Pending.length : Int)) (hq30 : l.Durable.length + l.Pending.length ≤ 24360 ∧ 0 ≤ l.Count ∧ l.Count ≤ 60) (hq40 : (l.Pending.take keep.toNat).length = min keep.toNat l.Pending.length) (h48 : ¬ ((torn = true) ∧ (0 < keep))) : true = (crashN l keep torn).2 := by
  first | (rw [crash_no ‹¬ _ ∨ _›]; done) | exact crash_tornI ‹¬ (_ ∨ _)› ‹_ ∧ 0 < keep› | exact crash_tornS ‹¬ (_ ∨ _)› ‹_ ∧ 0 < keep› | exact crash_whole ‹¬ (_ ∨ _)› ‹¬ (_ ∧ 0 < keep)› | exact crash_ok ‹¬ (_ ∨ _)›
theorem c_spec_CrashLog (w : World) (l : Log) (keep : Int) (torn : Bool) (hp0 : (l.Durable.length : Int) + (l.Pending.length : Int) ≤ 4000000) : Calls Tryd.prog 24 #[.agg (List.toArray (encLog l)), .int .i64 keep, .bool torn] w fun e w' => e = .returned (.tuple (List.toArray [str ((crashN l keep torn).1), .bool ((crashN l keep torn).2)])) ∧ Lo w w' := by
  refine calls_W 45 Tryd.func24 rfl rfl rfl ?_
  refine W.seq ?_
  refine W.regS (SR.box (v := .agg (List.toArray _)) (l := [str l.Durable, str l.Pending, .int .i64 l.Count]) rfl rfl ?_)
  intro g1 w2 hg3 hk4 hs5 hb6
  have hz7 := hk4.size
  have hB8 := (Lo.refl w).lo hk4
  refine SR.q' (r_as (v := str ([] : List UInt8)) rfl) <| SR.q' (r_as (v := .bool false) rfl) <| SR.nil ?_
  refine W.seq ?_
  refine W.seq ?_
  refine W.regJS (fun f' w' => At f' [(1, .int .i64 keep), (2, .bool torn), (3, .pointer (some ((⟨g1, 0, none⟩ : Addr)))), (6, str ([] : List UInt8)), (7, .bool false), (19, .bool (decide ((¬ (LogOK l)) ∨ (¬ (0 ≤ keep ∧ keep ≤ (l.Pending.length : Int))))))] ∧ Lo w2 w') ?_ ?_
  · refine SR.q' (r_lda (l := [str l.Durable, str l.Pending, .int .i64 l.Count]) agg31 rfl (fun _ _ hu => (hb6).cell hu) rfl) <| SR.call ent50 (c_spec_l33Log w2 l (by omega)) rfl ?_
    rintro e w9 ⟨rfl, hk10⟩
    refine ⟨_, rfl, ?_⟩
    have hz11 := hk10.size
    have hB12 := hB8.lo hk10
    refine SR.q' (r_not rfl) <| SR.q' (r_mv (v := .bool _) rfl) <| SR.splitN (fun h13 => ?_) (fun h13 => ?_)
    · refine SR.s' rfl <| SR.s' rfl <| SR.s' rfl <| SR.s' rfl <| SR.s' rfl <| SR.s' rfl <| SR.q' (r_pick true rfl (v := .bool true) rfl) <| SR.nil ?_
      exact ⟨_, rfl, ⟨⟨rfl, rfl, rfl, rfl, rfl, (eDT ((jmf h13).1 trivial)), trivial⟩, (hk10)⟩⟩
    · have hq14 := log_rng h13
      refine SR.g' rfl (r_mv (v := .int .i64 _) rfl) <| SR.g' rfl (r_fa fa31_1 rfl) <| SR.g' rfl (r_ld (v := str l.Pending) sca9 rfl (((hb6).lo hk10).cell rfl)) <| SR.g' rfl (r_len_s und9 rfl) <| SR.gcall rfl ent42 (c_spec_l1In w9 keep 0 (l.Pending.length : Int)) rfl ?_
      rintro e w15 ⟨rfl, hk16⟩
      refine ⟨_, rfl, ?_⟩
      have hz17 := hk16.size
      have hB18 := hB12.lo hk16
      refine SR.g' rfl (r_not rfl) <| SR.q' (r_pick false rfl (v := .bool _) rfl) <| SR.nil ?_
      exact ⟨_, rfl, ⟨⟨rfl, rfl, rfl, rfl, rfl, (eND (jmt h13)), trivial⟩, ((hk10).trans hk16)⟩⟩
  rintro f19 w20 ⟨hat21, hk22⟩
  rw [← sets_of_at hat21]
  have hz23 := hk22.size
  have hB24 := hB8.lo hk22
  refine W.cond_d rfl (fun h25 => ?_) (fun h25 => ?_)
  · refine W.seq ?_
    refine W.regS (SR.q' (r_as (v := str ([] : List UInt8)) rfl) <| SR.q' (r_as (v := .bool false) rfl) <| SR.nil ?_)
    refine W.ret ?_
    refine ret2 rfl (v := str _) (v' := .bool _) rfl rfl ?_
    exact ⟨eR (eT2 (eS (z_c_spec_CrashLog_26 l keep torn hp0 h25)) (eB (z_c_spec_CrashLog_27 l keep torn hp0 h25))), hB24⟩
  · have hq28 : LogOK l := (Classical.not_not.1 (not_or.1 h25).1)
    have hq29 : 0 ≤ keep ∧ keep ≤ (l.Pending.length : Int) := (Classical.not_not.1 (not_or.1 h25).2)
    have hq30 := log_rng hq28
    refine W.skip ?_
    refine W.seq ?_
    refine W.regS (SR.q' (r_fa fa31_1 rfl) <| SR.q' (r_ld (v := str l.Pending) sca9 rfl (((hb6).lo hk22).cell rfl)) <| SR.q' (r_mv (v := .int .i64 _) rfl) <| SR.q' (r_cuthS (h := keep.toNat) und9 rfl rfl (by omega) (by first | omega | (simp only [List.length_append, List.length_cons, List.length_nil, List.length_take, List.length_drop]; omega) | (simp only [List.length_append, List.length_cons, List.length_nil, List.length_take, List.length_drop] at *; omega))) <| SR.bytesO (s := l.Pending.take keep.toNat) und9 und53 und5 rfl (by first | omega | (simp only [List.length_append, List.length_cons, List.length_nil, List.length_take, List.length_drop]; omega) | (simp only [List.length_append, List.length_cons, List.length_nil, List.length_take, List.length_drop] at *; omega)) ?_)
    intro g31 c32 w33 hg34 hk35 hR36 hW37
    have hz38 := hk35.size
    have hB39 := hB24.lo hk35
    have hq40 : (l.Pending.take keep.toNat).length = min keep.toNat l.Pending.length := by simp only [List.length_append, List.length_take]
    refine SR.q' (r_as (v := .slice _ _ _) rfl) <| SR.nil ?_
    refine W.seq ?_
    refine W.seq ?_
    refine W.regJS (fun f' w' => At f' [(1, .int .i64 keep), (3, .pointer (some ((⟨g1, 0, none⟩ : Addr)))), (6, str ([] : List UInt8)), (7, .bool false), (8, .slice (some (⟨g31, 0, none⟩ : Addr)) ((l.Pending.take keep.toNat).length) c32), (29, .bool (decide ((torn = true) ∧ (0 < keep))))] ∧ Lo w33 w') ?_ ?_
    · refine SR.q' (r_mv (v := .bool _) rfl) <| SR.q' (r_mv (v := .bool _) rfl) <| SR.split (fun h41 => ?_) (fun h41 => ?_)
      · refine SR.g' rfl (r_mv (v := .int .i64 _) rfl) <| SR.g' rfl (r_gt rfl rfl) <| SR.q' (r_pick true rfl (v := .bool _) rfl) <| SR.nil ?_
        exact ⟨_, rfl, ⟨⟨rfl, rfl, rfl, rfl, rfl, (eDD (jat h41)), trivial⟩, (Lo.refl _)⟩⟩
      · refine SR.s' rfl <| SR.s' rfl <| SR.q' (r_pick false rfl (v := .bool false) rfl) <| SR.nil ?_
        exact ⟨_, rfl, ⟨⟨rfl, rfl, rfl, rfl, rfl, (eDF (jaf (ne_true_of_eq_false h41)).2), trivial⟩, (Lo.refl _)⟩⟩
    rintro f42 w43 ⟨hat44, hk45⟩
    rw [← sets_of_at hat44]
    have hz46 := hk45.size
    have hB47 := hB39.lo hk45
    refine W.cond_d rfl (fun h48 => ?_) (fun h48 => ?_)
    · have hq49 : torn = true := h48.1
      have hq50 : 0 < keep := h48.2
      refine W.regS (SR.q' (r_mv (v := .slice _ _ _) rfl) <| SR.q' (r_mv (v := .int .i64 _) rfl) <| SR.q' (r_sub rfl rfl (by first | omega | (simp only [List.length_append, List.length_set, List.length_take]; omega))) <| SR.q' (r_mv (v := .slice _ _ _) rfl) <| SR.q' (r_mv (v := .int .i64 _) rfl) <| SR.q' (r_sub rfl rfl (by first | omega | (simp only [List.length_append, List.length_set, List.length_take]; omega))) <| ?_)
      have hx52 := ((hR36).lo hk45).elem (i := (keep - 1).toNat) (by omega)
      have hq53 := u8_le (gt (l.Pending.take keep.toNat) ((keep - 1).toNat))
      refine SR.q' (r_ixR tsl53 ((hR36).lo hk45) rfl rfl (by omega)) <| SR.q' (r_ld (v := .int .u8 ((gt (l.Pending.take keep.toNat) ((keep - 1).toNat)).toNat : Int)) sca5 rfl (((hR36).lo hk45).cell0 hx52 rfl)) <| SR.q' (r_subB rfl rfl) <| SR.q' (r_ixR tsl53 ((hR36).lo hk45) rfl rfl (by omega)) <| SR.storeB (i := (keep - 1).toNat) (b := (bw (255 - ((gt (l.Pending.take keep.toNat) ((keep - 1).toNat)).toNat : Int)))) sca5.2 rfl rfl rfl ((hW37).lo hk45) (by first | omega | (simp only [List.length_append, List.length_cons, List.length_nil, List.length_take, List.length_drop]; omega) | (simp only [List.length_append, List.length_cons, List.length_nil, List.length_take, List.length_drop] at *; omega)) ?_
      intro w54 hk55 hs56 hW57
      have hz59 := hk55.size
      have hB60 := hB47.new hk55 (by omega)
      have hR58 := hW57.slr
      rw [List.length_set] at hR58
      refine SR.nil ?_
      refine W.seq ?_
      refine W.regS (SR.q' (r_fa fa31_0 rfl) <| SR.q' (r_ld (v := str l.Durable) sca9 rfl ((((((hb6).lo hk22).lo hk35).lo hk45).kp hk55 (fun e' => by have e'' : g1 = g31 := e'; omega)).cell rfl)) <| SR.q' (r_mv (v := .slice _ _ _) rfl) <| SR.q' (r_ofB und53 und5 und9 rfl (hR58)) <| SR.q' (r_cat rfl rfl (by first | omega | (simp only [List.length_append, List.length_set, List.length_take]; omega))) <| SR.q' (r_as (v := str _) rfl) <| SR.q' (r_as (v := .bool true) rfl) <| SR.nil ?_)
      refine W.ret ?_
      refine ret2 rfl (v := str _) (v' := .bool _) rfl rfl ?_
      exact ⟨eR (eT2 (eS (z_c_spec_CrashLog_61 l keep torn hp0 h25 hq28 hq29 hq30 hq40 h48 hq49 hq50 hx52 hq53)) (eB (z_c_spec_CrashLog_62 l keep torn hp0 h25 hq28 hq29 hq30 hq40 h48 hq49 hq50 hx52 hq53))), hB60⟩
    · refine W.skip ?_
      refine W.seq ?_
      refine W.regS (SR.q' (r_fa fa31_0 rfl) <| SR.q' (r_ld (v := str l.Durable) sca9 rfl (((((hb6).lo hk22).lo hk35).lo hk45).cell rfl)) <| SR.q' (r_mv (v := .slice _ _ _) rfl) <| SR.q' (r_ofB und53 und5 und9 rfl ((hR36).lo hk45)) <| SR.q' (r_cat rfl rfl (by first | omega | (simp only [List.length_append, List.length_set, List.length_take]; omega))) <| SR.q' (r_as (v := str _) rfl) <| SR.q' (r_as (v := .bool true) rfl) <| SR.nil ?_)
      refine W.ret ?_
      refine ret2 rfl (v := str _) (v' := .bool _) rfl rfl ?_
      exact ⟨eR (eT2 (eS (z_c_spec_CrashLog_63 l keep torn hp0 h25 hq28 hq29 hq30 hq40 h48)) (eB (z_c_spec_CrashLog_64 l keep torn hp0 h25 hq28 hq29 hq30 hq40 h48))), hB47⟩
end Go.Proofs.YthlbmkpkgiabnaaDoor
