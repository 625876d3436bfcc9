/- Walks, printed by a program of this claim's author. -/
import Derived.Test.YtlpapeeaghmjpaaDoorChecked
import Derived.Test.YtlpapeeaghmjpaaDoorSd
import Derived.Test.YtlpapeeaghmjpaaDoorFu
import Derived.Test.YtlpapeeaghmjpaaDoorFs
import Derived.Test.YtlpapeeaghmjpaaDoorFq
import Derived.Test.YtlpapeeaghmjpaaDoorFo
import Derived.Test.YtlpapeeaghmjpaaDoorSi
import Derived.Test.YtlpapeeaghmjpaaDoorG29u
namespace Go.Proofs.YtlpapeeaghmjpaaDoor
open Go Go.RowKit Fw
set_option maxRecDepth 10000
set_option linter.unusedVariables false
theorem ent63 : Ent Tryd.prog 63 := ent_of Tryd.func63 (by decide +kernel) rfl
theorem ent92 : Ent Tryd.prog 92 := ent_of Tryd.func92 (by decide +kernel) rfl
theorem und9 : Tryd.prog.underlying 9 = some (.string) := by kernel_rfl

theorem c_impl_text (w : World) (n : Int) (hp0 : -9223372036854775808 ≤ n ∧ n ≤ 9223372036854775807) (hE : EnvW w) : Calls Tryd.prog 49 #[.int .i64 n] w fun e w' => e = .returned (str (Lib.itoa n)) ∧ Lo w w' := by
  refine calls_W 5 Tryd.func49 rfl rfl rfl ?_
  refine W.seq ?_
  refine W.regS (SR.q' (r_as (v := str ([] : List UInt8)) rfl) <| SR.nil ?_)
  refine W.seq ?_
  refine W.regS (SR.q' (r_mv (v := .int .i64 _) rfl) <| SR.call ent92 (c_strconv_Itoa w n (by omega) (hE.lo ((Lo.refl w)))) rfl ?_)
  rintro e w1 ⟨rfl, hk2⟩
  refine ⟨_, rfl, ?_⟩
  have hz3 := hk2.size
  have hB4 := (Lo.refl w).lo hk2
  have hq5 : (Lib.itoa n).length ≤ 21 := itoa_len (n := n) (by omega) (by omega)
  refine SR.q' (r_as (v := str _) rfl) <| SR.nil ?_
  refine W.ret ?_
  refine ret1 rfl (v := str _) rfl ?_
  exact ⟨eR rfl, hB4⟩

theorem z_c_spec_l1Num_7 (n : Int) (hp0 : -9223372036854775807 ≤ n ∧ n ≤ 9223372036854775807) (h1 : n < 0) (hq6 : (Lib.itoa (-n)).length ≤ 21) : ([45] : List UInt8) ++ (Lib.itoa (-n)) = Lib.itoa n := by
  first | exact itoa_m ‹_› | exact itoa_d (by omega) ‹_› | exact itoa_b (by omega)
theorem z_c_spec_l1Num_9 (n : Int) (hp0 : -9223372036854775807 ≤ n ∧ n ≤ 9223372036854775807) (h1 : ¬ (n < 0)) (h8 : n < 10) : (([48, 49, 50, 51, 52, 53, 54, 55, 56, 57] : List UInt8).drop n.toNat).take (((n + 1).toNat) - n.toNat) = Lib.itoa n := by
  first | exact itoa_m ‹_› | exact itoa_d (by omega) ‹_› | exact itoa_b (by omega)
theorem z_c_spec_l1Num_15 (n : Int) (hp0 : -9223372036854775807 ≤ n ∧ n ≤ 9223372036854775807) (h1 : ¬ (n < 0)) (h8 : ¬ (n < 10)) (hq10 : (Lib.itoa (n / 10)).length ≤ 21) : (Lib.itoa (n / 10)) ++ ((([48, 49, 50, 51, 52, 53, 54, 55, 56, 57] : List UInt8).drop ((n % 10).toNat)).take ((((n % 10) + 1).toNat) - ((n % 10).toNat))) = Lib.itoa n := by
  first | exact itoa_m ‹_› | exact itoa_d (by omega) ‹_› | exact itoa_b (by omega)
theorem c_spec_l1Num (w : World) (n : Int) (hp0 : -9223372036854775807 ≤ n ∧ n ≤ 9223372036854775807) : Calls Tryd.prog 63 #[.int .i64 n] w fun e w' => e = .returned (str (Lib.itoa n)) ∧ Lo w w' := by
  refine calls_W 25 Tryd.func63 rfl rfl rfl ?_
  refine W.seq ?_
  refine W.regS (SR.q' (r_as (v := str ([] : List UInt8)) rfl) <| SR.nil ?_)
  refine W.seq ?_
  refine W.seq ?_
  refine W.regS (SR.q' (r_mv (v := .int .i64 _) rfl) <| SR.q' (r_lt rfl rfl) <| SR.nil ?_)
  refine W.cond_d rfl (fun h1 => ?_) (fun h1 => ?_)
  · refine W.seq ?_
    refine W.regS (SR.q' (r_mv (v := .int .i64 _) rfl) <| SR.q' (r_neg rfl (by omega)) <| SR.call ent63 (c_spec_l1Num w (-n) (by omega)) rfl ?_)
    rintro e w2 ⟨rfl, hk3⟩
    refine ⟨_, rfl, ?_⟩
    have hz4 := hk3.size
    have hB5 := (Lo.refl w).lo hk3
    have hq6 : (Lib.itoa (-n)).length ≤ 21 := itoa_len (n := -n) (by omega) (by omega)
    refine SR.q' (r_cat rfl rfl (by first | omega | (simp only [List.length_append, List.length_cons, List.length_nil, List.length_take, List.length_drop]; omega) | (simp only [List.length_append, List.length_cons, List.length_nil, List.length_take, List.length_drop] at *; omega))) <| SR.q' (r_as (v := str _) rfl) <| SR.nil ?_
    refine W.ret ?_
    refine ret1 rfl (v := str _) rfl ?_
    exact ⟨eR (eS (z_c_spec_l1Num_7 n hp0 h1 hq6)), hB5⟩
  · refine W.skip ?_
    refine W.seq ?_
    refine W.seq ?_
    refine W.regS (SR.q' (r_mv (v := .int .i64 _) rfl) <| SR.q' (r_lt rfl rfl) <| SR.nil ?_)
    refine W.cond_d rfl (fun h8 => ?_) (fun h8 => ?_)
    · refine W.seq ?_
      refine W.regS (SR.q' (r_mv (v := .int .i64 _) rfl) <| SR.q' (r_mv (v := .int .i64 _) rfl) <| SR.q' (r_add rfl rfl (by omega)) <| SR.q' (r_cutS (l := n.toNat) (h := (n + 1).toNat) und9 rfl rfl rfl (by omega) (by omega) (by omega) (by first | omega | (simp only [List.length_append, List.length_cons, List.length_nil, List.length_take, List.length_drop]; omega) | (simp only [List.length_append, List.length_cons, List.length_nil, List.length_take, List.length_drop] at *; omega))) <| SR.q' (r_as (v := str _) rfl) <| SR.nil ?_)
      refine W.ret ?_
      refine ret1 rfl (v := str _) rfl ?_
      exact ⟨eR (eS (z_c_spec_l1Num_9 n hp0 h1 h8)), (Lo.refl w)⟩
    · refine W.skip ?_
      refine W.seq ?_
      refine W.regD mo (by kernel_rfl) (QR.q' (fun w' hw' => r_mv (v := .int .i64 _) rfl) <| QR.q' (fun w' hw' => r_quo rfl rfl (by omega)) <| QR.call ent63 (fun w' hw' => (c_spec_l1Num w' (n / 10) (by omega)).mono fun _ _ h => ⟨h.1, hw'.trans h.2⟩) rfl <| ?_)
      have hq10 : (Lib.itoa (n / 10)).length ≤ 21 := itoa_len (n := n / 10) (by omega) (by omega)
      refine QR.q' (fun w' hw' => r_mv (v := .int .i64 _) rfl) <| QR.q' (fun w' hw' => r_rem rfl rfl (by omega)) <| QR.q' (fun w' hw' => r_mv (v := .int .i64 _) rfl) <| QR.q' (fun w' hw' => r_rem rfl rfl (by omega)) <| QR.q' (fun w' hw' => r_add rfl rfl (by omega)) <| QR.q' (fun w' hw' => r_cutS (l := (n % 10).toNat) (h := ((n % 10) + 1).toNat) und9 rfl rfl rfl (by omega) (by omega) (by omega) (by first | omega | (simp only [List.length_append, List.length_cons, List.length_nil, List.length_take, List.length_drop]; omega) | (simp only [List.length_append, List.length_cons, List.length_nil, List.length_take, List.length_drop] at *; omega))) <| QR.q' (fun w' hw' => r_cat rfl rfl (by first | omega | (simp only [List.length_append, List.length_cons, List.length_nil, List.length_take, List.length_drop]; omega) | (simp only [List.length_append, List.length_cons, List.length_nil, List.length_take, List.length_drop] at *; omega))) <| QR.q' (fun w' hw' => r_as (v := str _) rfl) <| QR.nil ?_
      intro w11 hk12
      have hz13 := hk12.size
      have hB14 := (Lo.refl w).lo hk12
      refine W.ret ?_
      refine ret1 rfl (v := str _) rfl ?_
      exact ⟨eR (eS (z_c_spec_l1Num_15 n hp0 h1 h8 hq10)), hB14⟩
termination_by n.toNat + 2 * (-n).toNat
decreasing_by all_goals omega
end Go.Proofs.YtlpapeeaghmjpaaDoor
