/- Walks, printed by a program of this claim's author. -/
import Derived.Test.YtlpapeeaghmjpaaDoorChecked
import Derived.Test.YtlpapeeaghmjpaaDoorSd
import Derived.Test.YtlpapeeaghmjpaaDoorFu
import Derived.Test.YtlpapeeaghmjpaaDoorFs
import Derived.Test.YtlpapeeaghmjpaaDoorFq
import Derived.Test.YtlpapeeaghmjpaaDoorFo
import Derived.Test.YtlpapeeaghmjpaaDoorG29n
namespace Go.Proofs.YtlpapeeaghmjpaaDoor
open Go Go.RowKit Fw
set_option maxRecDepth 10000
set_option linter.unusedVariables false
theorem ent135 : Ent Tryd.prog 135 := ent_of Tryd.func135 (by decide +kernel) rfl
theorem ent142 : Ent Tryd.prog 142 := ent_of Tryd.func142 (by decide +kernel) rfl

theorem z_c_spec_l29Again_61 (x : ScanJob) (nx_Tiles : Nat) (hbdx_Tiles : (nx_Tiles : Int) ≤ 9223372036854775807) (hlex_Tiles : nx_Tiles = x.Tiles.length) (v : Int) (hp0 : JobOK x) (n20 : Nat) (hl25 : n20 = (x.Tiles).length) (hl26 : (n20 : Int) ≤ 9223372036854775807) (h54 : v = 0) : x.Tiles = (againN x v).Tiles := by
  have hrg := job_rng hp0; have hab := agB_le x v; have hlb := lastB_rng (L := x.Tiles) (v := v) x.Next.toNat; first | omega | (have e : k = x.Next.toNat := (by omega); rw [e]; omega) | (have e : k = x.Next.toNat := (by omega); rw [e]; unfold againN agB; rw [if_neg ‹_›]; dsimp only; omega) | (unfold againN; first | (rw [if_pos ‹_›]; done) | (rw [if_neg ‹_›]; first | done | (unfold agB; dsimp only; omega) | (have e : j = x.Next.toNat := (by omega); rw [e])))
theorem z_c_spec_l29Again_62 (x : ScanJob) (nx_Tiles : Nat) (hbdx_Tiles : (nx_Tiles : Int) ≤ 9223372036854775807) (hlex_Tiles : nx_Tiles = x.Tiles.length) (v : Int) (hp0 : JobOK x) (n20 : Nat) (hl25 : n20 = (x.Tiles).length) (hl26 : (n20 : Int) ≤ 9223372036854775807) (h54 : v = 0) : 1 = (againN x v).State := by
  have hrg := job_rng hp0; have hab := agB_le x v; have hlb := lastB_rng (L := x.Tiles) (v := v) x.Next.toNat; first | omega | (have e : k = x.Next.toNat := (by omega); rw [e]; omega) | (have e : k = x.Next.toNat := (by omega); rw [e]; unfold againN agB; rw [if_neg ‹_›]; dsimp only; omega) | (unfold againN; first | (rw [if_pos ‹_›]; done) | (rw [if_neg ‹_›]; first | done | (unfold agB; dsimp only; omega) | (have e : j = x.Next.toNat := (by omega); rw [e])))
theorem z_c_spec_l29Again_63 (x : ScanJob) (nx_Tiles : Nat) (hbdx_Tiles : (nx_Tiles : Int) ≤ 9223372036854775807) (hlex_Tiles : nx_Tiles = x.Tiles.length) (v : Int) (hp0 : JobOK x) (n20 : Nat) (hl25 : n20 = (x.Tiles).length) (hl26 : (n20 : Int) ≤ 9223372036854775807) (h54 : v = 0) : x.Next = (againN x v).Next := by
  have hrg := job_rng hp0; have hab := agB_le x v; have hlb := lastB_rng (L := x.Tiles) (v := v) x.Next.toNat; first | omega | (have e : k = x.Next.toNat := (by omega); rw [e]; omega) | (have e : k = x.Next.toNat := (by omega); rw [e]; unfold againN agB; rw [if_neg ‹_›]; dsimp only; omega) | (unfold againN; first | (rw [if_pos ‹_›]; done) | (rw [if_neg ‹_›]; first | done | (unfold agB; dsimp only; omega) | (have e : j = x.Next.toNat := (by omega); rw [e])))
theorem z_c_spec_l29Again_64 (x : ScanJob) (nx_Tiles : Nat) (hbdx_Tiles : (nx_Tiles : Int) ≤ 9223372036854775807) (hlex_Tiles : nx_Tiles = x.Tiles.length) (v : Int) (hp0 : JobOK x) (n20 : Nat) (hl25 : n20 = (x.Tiles).length) (hl26 : (n20 : Int) ≤ 9223372036854775807) (h54 : v = 0) : 0 = (againN x v).Fails := by
  have hrg := job_rng hp0; have hab := agB_le x v; have hlb := lastB_rng (L := x.Tiles) (v := v) x.Next.toNat; first | omega | (have e : k = x.Next.toNat := (by omega); rw [e]; omega) | (have e : k = x.Next.toNat := (by omega); rw [e]; unfold againN agB; rw [if_neg ‹_›]; dsimp only; omega) | (unfold againN; first | (rw [if_pos ‹_›]; done) | (rw [if_neg ‹_›]; first | done | (unfold agB; dsimp only; omega) | (have e : j = x.Next.toNat := (by omega); rw [e])))
theorem z_c_spec_l29Again_65 (x : ScanJob) (nx_Tiles : Nat) (hbdx_Tiles : (nx_Tiles : Int) ≤ 9223372036854775807) (hlex_Tiles : nx_Tiles = x.Tiles.length) (v : Int) (hp0 : JobOK x) (n20 : Nat) (hl25 : n20 = (x.Tiles).length) (hl26 : (n20 : Int) ≤ 9223372036854775807) (h54 : v = 0) : x.Size = (againN x v).Size := by
  have hrg := job_rng hp0; have hab := agB_le x v; have hlb := lastB_rng (L := x.Tiles) (v := v) x.Next.toNat; first | omega | (have e : k = x.Next.toNat := (by omega); rw [e]; omega) | (have e : k = x.Next.toNat := (by omega); rw [e]; unfold againN agB; rw [if_neg ‹_›]; dsimp only; omega) | (unfold againN; first | (rw [if_pos ‹_›]; done) | (rw [if_neg ‹_›]; first | done | (unfold agB; dsimp only; omega) | (have e : j = x.Next.toNat := (by omega); rw [e])))
theorem z_c_spec_l29Again_66 (x : ScanJob) (nx_Tiles : Nat) (hbdx_Tiles : (nx_Tiles : Int) ≤ 9223372036854775807) (hlex_Tiles : nx_Tiles = x.Tiles.length) (v : Int) (hp0 : JobOK x) (n20 : Nat) (hl25 : n20 = (x.Tiles).length) (hl26 : (n20 : Int) ≤ 9223372036854775807) (h54 : v = 0) : v = 0 ∨ 0 ≤ lastB x.Tiles v x.Next.toNat := by
  have hrg := job_rng hp0; have hab := agB_le x v; have hlb := lastB_rng (L := x.Tiles) (v := v) x.Next.toNat; first | omega | (have e : k = x.Next.toNat := (by omega); rw [e]; omega) | (have e : k = x.Next.toNat := (by omega); rw [e]; unfold againN agB; rw [if_neg ‹_›]; dsimp only; omega) | (unfold againN; first | (rw [if_pos ‹_›]; done) | (rw [if_neg ‹_›]; first | done | (unfold agB; dsimp only; omega) | (have e : j = x.Next.toNat := (by omega); rw [e])))
theorem z_c_spec_l29Again_67 (x : ScanJob) (nx_Tiles : Nat) (hbdx_Tiles : (nx_Tiles : Int) ≤ 9223372036854775807) (hlex_Tiles : nx_Tiles = x.Tiles.length) (v : Int) (hp0 : JobOK x) (n20 : Nat) (hl25 : n20 = (x.Tiles).length) (hl26 : (n20 : Int) ≤ 9223372036854775807) (h54 : ¬ (v = 0)) : 0 ≤ x.Next.toNat := by
  omega
theorem z_c_spec_l29Again_85 (x : ScanJob) (nx_Tiles : Nat) (hbdx_Tiles : (nx_Tiles : Int) ≤ 9223372036854775807) (hlex_Tiles : nx_Tiles = x.Tiles.length) (v : Int) (hp0 : JobOK x) (n20 : Nat) (hl25 : n20 = (x.Tiles).length) (hl26 : (n20 : Int) ≤ 9223372036854775807) (h54 : ¬ (v = 0)) (k : Nat) (hi77 : k ≤ x.Next.toNat) (h81 : (k : Int) < x.Next) (hx83 : x.Tiles[k]? = some (gt x.Tiles k)) (h84 : (gt x.Tiles k) < v) : k + 1 ≤ x.Next.toNat := by
  omega
theorem z_c_spec_l29Again_86 (x : ScanJob) (nx_Tiles : Nat) (hbdx_Tiles : (nx_Tiles : Int) ≤ 9223372036854775807) (hlex_Tiles : nx_Tiles = x.Tiles.length) (v : Int) (hp0 : JobOK x) (n20 : Nat) (hl25 : n20 = (x.Tiles).length) (hl26 : (n20 : Int) ≤ 9223372036854775807) (h54 : ¬ (v = 0)) (k : Nat) (hi77 : k ≤ x.Next.toNat) (h81 : (k : Int) < x.Next) (hx83 : x.Tiles[k]? = some (gt x.Tiles k)) (h84 : (gt x.Tiles k) < v) : x.Next.toNat - (k + 1) < x.Next.toNat - k := by
  omega
theorem z_c_spec_l29Again_87 (x : ScanJob) (nx_Tiles : Nat) (hbdx_Tiles : (nx_Tiles : Int) ≤ 9223372036854775807) (hlex_Tiles : nx_Tiles = x.Tiles.length) (v : Int) (hp0 : JobOK x) (n20 : Nat) (hl25 : n20 = (x.Tiles).length) (hl26 : (n20 : Int) ≤ 9223372036854775807) (h54 : ¬ (v = 0)) (k : Nat) (hi77 : k ≤ x.Next.toNat) (h81 : (k : Int) < x.Next) (hx83 : x.Tiles[k]? = some (gt x.Tiles k)) (h84 : ¬ ((gt x.Tiles k) < v)) : k + 1 ≤ x.Next.toNat := by
  omega
theorem z_c_spec_l29Again_88 (x : ScanJob) (nx_Tiles : Nat) (hbdx_Tiles : (nx_Tiles : Int) ≤ 9223372036854775807) (hlex_Tiles : nx_Tiles = x.Tiles.length) (v : Int) (hp0 : JobOK x) (n20 : Nat) (hl25 : n20 = (x.Tiles).length) (hl26 : (n20 : Int) ≤ 9223372036854775807) (h54 : ¬ (v = 0)) (k : Nat) (hi77 : k ≤ x.Next.toNat) (h81 : (k : Int) < x.Next) (hx83 : x.Tiles[k]? = some (gt x.Tiles k)) (h84 : ¬ ((gt x.Tiles k) < v)) : x.Next.toNat - (k + 1) < x.Next.toNat - k := by
  omega
theorem z_c_spec_l29Again_94 (x : ScanJob) (nx_Tiles : Nat) (hbdx_Tiles : (nx_Tiles : Int) ≤ 9223372036854775807) (hlex_Tiles : nx_Tiles = x.Tiles.length) (v : Int) (hp0 : JobOK x) (n20 : Nat) (hl25 : n20 = (x.Tiles).length) (hl26 : (n20 : Int) ≤ 9223372036854775807) (h54 : ¬ (v = 0)) (k : Nat) (hi77 : k ≤ x.Next.toNat) (h81 : ¬ ((k : Int) < x.Next)) : agB x v ≤ agB x v ∧ agB x v ≤ x.Next.toNat := by
  have hab := agB_le x v; omega
theorem z_c_spec_l29Again_95 (x : ScanJob) (nx_Tiles : Nat) (hbdx_Tiles : (nx_Tiles : Int) ≤ 9223372036854775807) (hlex_Tiles : nx_Tiles = x.Tiles.length) (v : Int) (hp0 : JobOK x) (n20 : Nat) (hl25 : n20 = (x.Tiles).length) (hl26 : (n20 : Int) ≤ 9223372036854775807) (h54 : ¬ (v = 0)) (k : Nat) (hi77 : k ≤ x.Next.toNat) (h81 : ¬ ((k : Int) < x.Next)) : x.Size = agS x v (agB x v) := by
  (first | omega | rfl | exact agS_zero x v | exact agS_next (by have := job_rng hp0; omega) | (unfold agB; omega) | (have e : k = x.Next.toNat := (by omega); subst e; unfold agB; omega))
theorem z_c_spec_l29Again_96 (x : ScanJob) (nx_Tiles : Nat) (hbdx_Tiles : (nx_Tiles : Int) ≤ 9223372036854775807) (hlex_Tiles : nx_Tiles = x.Tiles.length) (v : Int) (hp0 : JobOK x) (n20 : Nat) (hl25 : n20 = (x.Tiles).length) (hl26 : (n20 : Int) ≤ 9223372036854775807) (h54 : ¬ (v = 0)) (k : Nat) (hi77 : k ≤ x.Next.toNat) (h81 : ¬ ((k : Int) < x.Next)) : x.Tiles = zf x.Tiles (agB x v) (agB x v) := by
  exact (zf_self _ _).symm
theorem z_c_spec_l29Again_161 (x : ScanJob) (nx_Tiles : Nat) (hbdx_Tiles : (nx_Tiles : Int) ≤ 9223372036854775807) (hlex_Tiles : nx_Tiles = x.Tiles.length) (v : Int) (hp0 : JobOK x) (n20 : Nat) (hl25 : n20 = (x.Tiles).length) (hl26 : (n20 : Int) ≤ 9223372036854775807) (h54 : ¬ (v = 0)) (k : Nat) (hi77 : k ≤ x.Next.toNat) (h81 : ¬ ((k : Int) < x.Next)) (j : Nat) (n93 : Nat) (c93 : Nat) (hi106 : agB x v ≤ j ∧ j ≤ x.Next.toNat) (hl113 : n93 = (zf x.Tiles (agB x v) j).length) (hq115 : 0 ≤ gt x.Tiles j ∧ gt x.Tiles j ≤ 100) (hq116 : -8000 ≤ agS x v j ∧ agS x v j ≤ 16000) (hq117 : (zf x.Tiles (agB x v) j).length = x.Tiles.length) (h118 : (j : Int) < x.Next) (hx137 : x.Tiles[j]? = some (gt x.Tiles j)) (hx153 : (zf x.Tiles (agB x v) j)[j]? = some (gt (zf x.Tiles (agB x v) j) j)) (hx160 : ((zf x.Tiles (agB x v) j).set ((j : Int).toNat) 0)[(j : Int).toNat]? = some (0)) : (agS x v j) - (10 * (gt x.Tiles j)) = agS x v (j + 1) := by
  (first | omega | rfl | exact agS_zero x v | exact agS_next (by have := job_rng hp0; omega) | (unfold agB; omega) | (have e : k = x.Next.toNat := (by omega); subst e; unfold agB; omega))
theorem z_c_spec_l29Again_162 (x : ScanJob) (nx_Tiles : Nat) (hbdx_Tiles : (nx_Tiles : Int) ≤ 9223372036854775807) (hlex_Tiles : nx_Tiles = x.Tiles.length) (v : Int) (hp0 : JobOK x) (n20 : Nat) (hl25 : n20 = (x.Tiles).length) (hl26 : (n20 : Int) ≤ 9223372036854775807) (h54 : ¬ (v = 0)) (k : Nat) (hi77 : k ≤ x.Next.toNat) (h81 : ¬ ((k : Int) < x.Next)) (j : Nat) (n93 : Nat) (c93 : Nat) (hi106 : agB x v ≤ j ∧ j ≤ x.Next.toNat) (hl113 : n93 = (zf x.Tiles (agB x v) j).length) (hq115 : 0 ≤ gt x.Tiles j ∧ gt x.Tiles j ≤ 100) (hq116 : -8000 ≤ agS x v j ∧ agS x v j ≤ 16000) (hq117 : (zf x.Tiles (agB x v) j).length = x.Tiles.length) (h118 : (j : Int) < x.Next) (hx137 : x.Tiles[j]? = some (gt x.Tiles j)) (hx153 : (zf x.Tiles (agB x v) j)[j]? = some (gt (zf x.Tiles (agB x v) j) j)) (hx160 : ((zf x.Tiles (agB x v) j).set ((j : Int).toNat) 0)[(j : Int).toNat]? = some (0)) : (zf x.Tiles (agB x v) j).set ((j : Int).toNat) 0 = zf x.Tiles (agB x v) (j + 1) := by
  have hrg := job_rng hp0; exact zf_next (by omega) (by omega)
theorem z_c_spec_l29Again_163 (x : ScanJob) (nx_Tiles : Nat) (hbdx_Tiles : (nx_Tiles : Int) ≤ 9223372036854775807) (hlex_Tiles : nx_Tiles = x.Tiles.length) (v : Int) (hp0 : JobOK x) (n20 : Nat) (hl25 : n20 = (x.Tiles).length) (hl26 : (n20 : Int) ≤ 9223372036854775807) (h54 : ¬ (v = 0)) (k : Nat) (hi77 : k ≤ x.Next.toNat) (h81 : ¬ ((k : Int) < x.Next)) (j : Nat) (n93 : Nat) (c93 : Nat) (hi106 : agB x v ≤ j ∧ j ≤ x.Next.toNat) (hl113 : n93 = (zf x.Tiles (agB x v) j).length) (hq115 : 0 ≤ gt x.Tiles j ∧ gt x.Tiles j ≤ 100) (hq116 : -8000 ≤ agS x v j ∧ agS x v j ≤ 16000) (hq117 : (zf x.Tiles (agB x v) j).length = x.Tiles.length) (h118 : (j : Int) < x.Next) (hx137 : x.Tiles[j]? = some (gt x.Tiles j)) (hx153 : (zf x.Tiles (agB x v) j)[j]? = some (gt (zf x.Tiles (agB x v) j) j)) (hx160 : ((zf x.Tiles (agB x v) j).set ((j : Int).toNat) 0)[(j : Int).toNat]? = some (0)) : agB x v ≤ j + 1 ∧ j + 1 ≤ x.Next.toNat := by
  omega
theorem z_c_spec_l29Again_164 (x : ScanJob) (nx_Tiles : Nat) (hbdx_Tiles : (nx_Tiles : Int) ≤ 9223372036854775807) (hlex_Tiles : nx_Tiles = x.Tiles.length) (v : Int) (hp0 : JobOK x) (n20 : Nat) (hl25 : n20 = (x.Tiles).length) (hl26 : (n20 : Int) ≤ 9223372036854775807) (h54 : ¬ (v = 0)) (k : Nat) (hi77 : k ≤ x.Next.toNat) (h81 : ¬ ((k : Int) < x.Next)) (j : Nat) (n93 : Nat) (c93 : Nat) (hi106 : agB x v ≤ j ∧ j ≤ x.Next.toNat) (hl113 : n93 = (zf x.Tiles (agB x v) j).length) (hq115 : 0 ≤ gt x.Tiles j ∧ gt x.Tiles j ≤ 100) (hq116 : -8000 ≤ agS x v j ∧ agS x v j ≤ 16000) (hq117 : (zf x.Tiles (agB x v) j).length = x.Tiles.length) (h118 : (j : Int) < x.Next) (hx137 : x.Tiles[j]? = some (gt x.Tiles j)) (hx153 : (zf x.Tiles (agB x v) j)[j]? = some (gt (zf x.Tiles (agB x v) j) j)) (hx160 : ((zf x.Tiles (agB x v) j).set ((j : Int).toNat) 0)[(j : Int).toNat]? = some (0)) : x.Next.toNat - (j + 1) < x.Next.toNat - j := by
  omega
theorem z_c_spec_l29Again_181 (x : ScanJob) (nx_Tiles : Nat) (hbdx_Tiles : (nx_Tiles : Int) ≤ 9223372036854775807) (hlex_Tiles : nx_Tiles = x.Tiles.length) (v : Int) (hp0 : JobOK x) (n20 : Nat) (hl25 : n20 = (x.Tiles).length) (hl26 : (n20 : Int) ≤ 9223372036854775807) (h54 : ¬ (v = 0)) (k : Nat) (hi77 : k ≤ x.Next.toNat) (h81 : ¬ ((k : Int) < x.Next)) (j : Nat) (n93 : Nat) (c93 : Nat) (hi106 : agB x v ≤ j ∧ j ≤ x.Next.toNat) (hl113 : n93 = (zf x.Tiles (agB x v) j).length) (hq115 : 0 ≤ gt x.Tiles j ∧ gt x.Tiles j ≤ 100) (hq116 : -8000 ≤ agS x v j ∧ agS x v j ≤ 16000) (hq117 : (zf x.Tiles (agB x v) j).length = x.Tiles.length) (h118 : ¬ ((j : Int) < x.Next)) : zf x.Tiles (agB x v) j = (againN x v).Tiles := by
  have hrg := job_rng hp0; have hab := agB_le x v; have hlb := lastB_rng (L := x.Tiles) (v := v) x.Next.toNat; first | omega | (have e : k = x.Next.toNat := (by omega); rw [e]; omega) | (have e : k = x.Next.toNat := (by omega); rw [e]; unfold againN agB; rw [if_neg ‹_›]; dsimp only; omega) | (unfold againN; first | (rw [if_pos ‹_›]; done) | (rw [if_neg ‹_›]; first | done | (unfold agB; dsimp only; omega) | (have e : j = x.Next.toNat := (by omega); rw [e])))
theorem z_c_spec_l29Again_182 (x : ScanJob) (nx_Tiles : Nat) (hbdx_Tiles : (nx_Tiles : Int) ≤ 9223372036854775807) (hlex_Tiles : nx_Tiles = x.Tiles.length) (v : Int) (hp0 : JobOK x) (n20 : Nat) (hl25 : n20 = (x.Tiles).length) (hl26 : (n20 : Int) ≤ 9223372036854775807) (h54 : ¬ (v = 0)) (k : Nat) (hi77 : k ≤ x.Next.toNat) (h81 : ¬ ((k : Int) < x.Next)) (j : Nat) (n93 : Nat) (c93 : Nat) (hi106 : agB x v ≤ j ∧ j ≤ x.Next.toNat) (hl113 : n93 = (zf x.Tiles (agB x v) j).length) (hq115 : 0 ≤ gt x.Tiles j ∧ gt x.Tiles j ≤ 100) (hq116 : -8000 ≤ agS x v j ∧ agS x v j ≤ 16000) (hq117 : (zf x.Tiles (agB x v) j).length = x.Tiles.length) (h118 : ¬ ((j : Int) < x.Next)) : 1 = (againN x v).State := by
  have hrg := job_rng hp0; have hab := agB_le x v; have hlb := lastB_rng (L := x.Tiles) (v := v) x.Next.toNat; first | omega | (have e : k = x.Next.toNat := (by omega); rw [e]; omega) | (have e : k = x.Next.toNat := (by omega); rw [e]; unfold againN agB; rw [if_neg ‹_›]; dsimp only; omega) | (unfold againN; first | (rw [if_pos ‹_›]; done) | (rw [if_neg ‹_›]; first | done | (unfold agB; dsimp only; omega) | (have e : j = x.Next.toNat := (by omega); rw [e])))
theorem z_c_spec_l29Again_183 (x : ScanJob) (nx_Tiles : Nat) (hbdx_Tiles : (nx_Tiles : Int) ≤ 9223372036854775807) (hlex_Tiles : nx_Tiles = x.Tiles.length) (v : Int) (hp0 : JobOK x) (n20 : Nat) (hl25 : n20 = (x.Tiles).length) (hl26 : (n20 : Int) ≤ 9223372036854775807) (h54 : ¬ (v = 0)) (k : Nat) (hi77 : k ≤ x.Next.toNat) (h81 : ¬ ((k : Int) < x.Next)) (j : Nat) (n93 : Nat) (c93 : Nat) (hi106 : agB x v ≤ j ∧ j ≤ x.Next.toNat) (hl113 : n93 = (zf x.Tiles (agB x v) j).length) (hq115 : 0 ≤ gt x.Tiles j ∧ gt x.Tiles j ≤ 100) (hq116 : -8000 ≤ agS x v j ∧ agS x v j ≤ 16000) (hq117 : (zf x.Tiles (agB x v) j).length = x.Tiles.length) (h118 : ¬ ((j : Int) < x.Next)) : max 0 (lastB x.Tiles v k) = (againN x v).Next := by
  have hrg := job_rng hp0; have hab := agB_le x v; have hlb := lastB_rng (L := x.Tiles) (v := v) x.Next.toNat; first | omega | (have e : k = x.Next.toNat := (by omega); rw [e]; omega) | (have e : k = x.Next.toNat := (by omega); rw [e]; unfold againN agB; rw [if_neg ‹_›]; dsimp only; omega) | (unfold againN; first | (rw [if_pos ‹_›]; done) | (rw [if_neg ‹_›]; first | done | (unfold agB; dsimp only; omega) | (have e : j = x.Next.toNat := (by omega); rw [e])))
theorem z_c_spec_l29Again_184 (x : ScanJob) (nx_Tiles : Nat) (hbdx_Tiles : (nx_Tiles : Int) ≤ 9223372036854775807) (hlex_Tiles : nx_Tiles = x.Tiles.length) (v : Int) (hp0 : JobOK x) (n20 : Nat) (hl25 : n20 = (x.Tiles).length) (hl26 : (n20 : Int) ≤ 9223372036854775807) (h54 : ¬ (v = 0)) (k : Nat) (hi77 : k ≤ x.Next.toNat) (h81 : ¬ ((k : Int) < x.Next)) (j : Nat) (n93 : Nat) (c93 : Nat) (hi106 : agB x v ≤ j ∧ j ≤ x.Next.toNat) (hl113 : n93 = (zf x.Tiles (agB x v) j).length) (hq115 : 0 ≤ gt x.Tiles j ∧ gt x.Tiles j ≤ 100) (hq116 : -8000 ≤ agS x v j ∧ agS x v j ≤ 16000) (hq117 : (zf x.Tiles (agB x v) j).length = x.Tiles.length) (h118 : ¬ ((j : Int) < x.Next)) : 0 = (againN x v).Fails := by
  have hrg := job_rng hp0; have hab := agB_le x v; have hlb := lastB_rng (L := x.Tiles) (v := v) x.Next.toNat; first | omega | (have e : k = x.Next.toNat := (by omega); rw [e]; omega) | (have e : k = x.Next.toNat := (by omega); rw [e]; unfold againN agB; rw [if_neg ‹_›]; dsimp only; omega) | (unfold againN; first | (rw [if_pos ‹_›]; done) | (rw [if_neg ‹_›]; first | done | (unfold agB; dsimp only; omega) | (have e : j = x.Next.toNat := (by omega); rw [e])))
theorem z_c_spec_l29Again_185 (x : ScanJob) (nx_Tiles : Nat) (hbdx_Tiles : (nx_Tiles : Int) ≤ 9223372036854775807) (hlex_Tiles : nx_Tiles = x.Tiles.length) (v : Int) (hp0 : JobOK x) (n20 : Nat) (hl25 : n20 = (x.Tiles).length) (hl26 : (n20 : Int) ≤ 9223372036854775807) (h54 : ¬ (v = 0)) (k : Nat) (hi77 : k ≤ x.Next.toNat) (h81 : ¬ ((k : Int) < x.Next)) (j : Nat) (n93 : Nat) (c93 : Nat) (hi106 : agB x v ≤ j ∧ j ≤ x.Next.toNat) (hl113 : n93 = (zf x.Tiles (agB x v) j).length) (hq115 : 0 ≤ gt x.Tiles j ∧ gt x.Tiles j ≤ 100) (hq116 : -8000 ≤ agS x v j ∧ agS x v j ≤ 16000) (hq117 : (zf x.Tiles (agB x v) j).length = x.Tiles.length) (h118 : ¬ ((j : Int) < x.Next)) : agS x v j = (againN x v).Size := by
  have hrg := job_rng hp0; have hab := agB_le x v; have hlb := lastB_rng (L := x.Tiles) (v := v) x.Next.toNat; first | omega | (have e : k = x.Next.toNat := (by omega); rw [e]; omega) | (have e : k = x.Next.toNat := (by omega); rw [e]; unfold againN agB; rw [if_neg ‹_›]; dsimp only; omega) | (unfold againN; first | (rw [if_pos ‹_›]; done) | (rw [if_neg ‹_›]; first | done | (unfold agB; dsimp only; omega) | (have e : j = x.Next.toNat := (by omega); rw [e])))
theorem z_c_spec_l29Again_186 (x : ScanJob) (nx_Tiles : Nat) (hbdx_Tiles : (nx_Tiles : Int) ≤ 9223372036854775807) (hlex_Tiles : nx_Tiles = x.Tiles.length) (v : Int) (hp0 : JobOK x) (n20 : Nat) (hl25 : n20 = (x.Tiles).length) (hl26 : (n20 : Int) ≤ 9223372036854775807) (h54 : ¬ (v = 0)) (k : Nat) (hi77 : k ≤ x.Next.toNat) (h81 : ¬ ((k : Int) < x.Next)) (j : Nat) (n93 : Nat) (c93 : Nat) (hi106 : agB x v ≤ j ∧ j ≤ x.Next.toNat) (hl113 : n93 = (zf x.Tiles (agB x v) j).length) (hq115 : 0 ≤ gt x.Tiles j ∧ gt x.Tiles j ≤ 100) (hq116 : -8000 ≤ agS x v j ∧ agS x v j ≤ 16000) (hq117 : (zf x.Tiles (agB x v) j).length = x.Tiles.length) (h118 : ¬ ((j : Int) < x.Next)) : (0 ≤ (lastB x.Tiles v k)) ↔ (v = 0 ∨ 0 ≤ lastB x.Tiles v x.Next.toNat) := by
  have hrg := job_rng hp0; have hab := agB_le x v; have hlb := lastB_rng (L := x.Tiles) (v := v) x.Next.toNat; first | omega | (have e : k = x.Next.toNat := (by omega); rw [e]; omega) | (have e : k = x.Next.toNat := (by omega); rw [e]; unfold againN agB; rw [if_neg ‹_›]; dsimp only; omega) | (unfold againN; first | (rw [if_pos ‹_›]; done) | (rw [if_neg ‹_›]; first | done | (unfold agB; dsimp only; omega) | (have e : j = x.Next.toNat := (by omega); rw [e])))
theorem c_spec_l29Again (w : World) (x : ScanJob) {Ax_Tiles : Option Addr} {nx_Tiles cx_Tiles Bx_Tiles : Nat} (hx_Tiles : SlR w Bx_Tiles encI 1 Ax_Tiles nx_Tiles cx_Tiles x.Tiles) (v : Int) (hp0 : JobOK x) : Calls Tryd.prog 136 #[.agg (List.toArray [.int .i64 x.State, .slice Ax_Tiles nx_Tiles cx_Tiles, .int .i64 x.Next, .int .i64 x.Fails, .int .i64 x.Size]), .int .i64 v] w fun e w' => ∃ (A1' : Option Addr) (n1' c1' : Nat), e = .returned (.tuple (List.toArray [.agg (List.toArray [.int .i64 ((againN x v).State), .slice A1' n1' c1', .int .i64 ((againN x v).Next), .int .i64 ((againN x v).Fails), .int .i64 ((againN x v).Size)]), .bool (decide (v = 0 ∨ 0 ≤ lastB x.Tiles v x.Next.toNat))])) ∧ SlO w' w.heap.size encI 1 3 A1' n1' c1' ((againN x v).Tiles) ∧ Lo w w' := by
  refine calls_W 59 Tryd.func136 rfl rfl rfl ?_
  have hbdx_Tiles := hx_Tiles.bound
  have hlex_Tiles := hx_Tiles.len
  have hBbx_Tiles := hx_Tiles.bd
  have hrg := job_rng hp0
  have hab := agB_le x v
  refine W.seq ?_
  refine W.regS (SR.box (v := .agg (List.toArray _)) (l := [.int .i64 x.State, .slice Ax_Tiles nx_Tiles cx_Tiles, .int .i64 x.Next, .int .i64 x.Fails, .int .i64 x.Size]) rfl rfl ?_)
  intro g1 w2 hg3 hk4 hs5 hb6
  have hz7 := hk4.size
  have hB8 := (Lo.refl w).lo hk4
  refine SR.alloc (l := [.int .i64 0, .slice none 0 0, .int .i64 0, .int .i64 0, .int .i64 0]) tz57 rfl ?_
  intro g9 w10 hg11 hk12 hs13 hb14
  have hz15 := hk12.size
  have hB16 := hB8.lo hk12
  refine SR.q' (r_as (v := .bool false) rfl) <| SR.nil ?_
  refine W.seq ?_
  refine W.regS (SR.q' (r_lda (l := [.int .i64 x.State, .slice Ax_Tiles nx_Tiles cx_Tiles, .int .i64 x.Next, .int .i64 x.Fails, .int .i64 x.Size]) agg57 rfl (fun _ _ hu => ((hb6).lo hk12).cell hu) rfl) <| SR.call ent135 (c_spec_l29Own w10 x ((((hx_Tiles).lo hk4).lo hk12)) (by omega)) rfl ?_)
  rintro e w17 ⟨A19, n20, c21, rfl, hO22, hk18⟩
  refine ⟨_, rfl, ?_⟩
  have hz23 := hk18.size
  have hB24 := hB16.lo hk18
  have hl25 := hO22.len
  have hl26 := hO22.rd.bound
  refine SR.alloc (l := [.int .i64 0, .slice none 0 0, .int .i64 0, .int .i64 0, .int .i64 0]) tz57 rfl ?_
  intro g27 w28 hg29 hk30 hs31 hb32
  have hz33 := hk30.size
  have hB34 := hB24.lo hk30
  have hd35 : ¬ A19 = some ⟨g27, 0, none⟩ := fun e' => by have := (hO22).base_le e'; omega
  refine SR.store (o := 0) (vs := [.int .i64 x.State, .slice A19 n20 c21, .int .i64 x.Next, .int .i64 x.Fails, .int .i64 x.Size]) agg57.2 rfl rfl rfl rfl (hb32) (Nat.le_of_ble_eq_true rfl) rfl ?_
  intro w36 hk37 hs38 hb39
  have hz40 := hk37.size
  have hB41 := hB34.new hk37 (by omega)
  refine SR.nil ?_
  refine W.seq ?_
  refine W.regS (SR.q' (r_fa fa57_0 rfl) <| SR.store (o := 0) (vs := [.int .i64 1]) sca3.2 rfl rfl rfl rfl (hb39) (Nat.le_of_ble_eq_true rfl) rfl ?_)
  intro w42 hk43 hs44 hb45
  have hz46 := hk43.size
  have hB47 := hB41.new hk43 (by omega)
  refine SR.nil ?_
  refine W.seq ?_
  refine W.regS (SR.q' (r_fa fa57_3 rfl) <| SR.store (o := 3) (vs := [.int .i64 0]) sca3.2 rfl rfl rfl rfl (hb45) (Nat.le_of_ble_eq_true rfl) rfl ?_)
  intro w48 hk49 hs50 hb51
  have hz52 := hk49.size
  have hB53 := hB47.new hk49 (by omega)
  refine SR.nil ?_
  refine W.seq ?_
  refine W.seq ?_
  refine W.regS (SR.q' (r_mv (v := .int .i64 _) rfl) <| SR.q' (r_eq rfl rfl) <| SR.nil ?_)
  refine W.cond_d rfl (fun h54 => ?_) (fun h54 => ?_)
  · refine W.seq ?_
    refine W.regS (SR.q' (r_lda (l := [.int .i64 1, .slice A19 n20 c21, .int .i64 x.Next, .int .i64 0, .int .i64 x.Size]) agg57 rfl (fun _ _ hu => (hb51).cell hu) rfl) <| SR.store (o := 0) (vs := [.int .i64 1, .slice A19 n20 c21, .int .i64 x.Next, .int .i64 0, .int .i64 x.Size]) agg57.2 rfl rfl rfl rfl ((((((hb14).lo hk18).lo hk30).kp hk37 (fun e' => by have e'' : g9 = g27 := e'; omega)).kp hk43 (fun e' => by have e'' : g9 = g27 := e'; omega)).kp hk49 (fun e' => by have e'' : g9 = g27 := e'; omega)) (Nat.le_of_ble_eq_true rfl) rfl ?_)
    intro w55 hk56 hs57 hb58
    have hz59 := hk56.size
    have hB60 := hB53.new hk56 (by omega)
    refine SR.q' (r_as (v := .bool true) rfl) <| SR.nil ?_
    refine W.ret ?_
    refine retCT rfl rfl agg57 (hb58) rfl (v := .bool _) rfl ?_
    exact ⟨A19, n20, c21, eR (eT2 (eA (eC (eI (z_c_spec_l29Again_62 x nx_Tiles hbdx_Tiles hlex_Tiles v hp0 n20 hl25 hl26 h54)) (eC rfl (eC (eI (z_c_spec_l29Again_63 x nx_Tiles hbdx_Tiles hlex_Tiles v hp0 n20 hl25 hl26 h54)) (eC (eI (z_c_spec_l29Again_64 x nx_Tiles hbdx_Tiles hlex_Tiles v hp0 n20 hl25 hl26 h54)) (eC (eI (z_c_spec_l29Again_65 x nx_Tiles hbdx_Tiles hlex_Tiles v hp0 n20 hl25 hl26 h54)) rfl)))))) (eDT (z_c_spec_l29Again_66 x nx_Tiles hbdx_Tiles hlex_Tiles v hp0 n20 hl25 hl26 h54))), (SlO.eqv (((((((hO22).lo hk30).kp hk37 (fun b_ hb e' => hd35 (by have e'' : b_ = g27 := e'; rw [← e'']; exact hb))).kp hk43 (fun b_ hb e' => hd35 (by have e'' : b_ = g27 := e'; rw [← e'']; exact hb))).kp hk49 (fun b_ hb e' => hd35 (by have e'' : b_ = g27 := e'; rw [← e'']; exact hb))).kp hk56 (fun b_ hb e' => by have e'' : b_ = g9 := e'; have := (((((hO22).lo hk30).kp hk37 (fun b_ hb e' => hd35 (by have e'' : b_ = g27 := e'; rw [← e'']; exact hb))).kp hk43 (fun b_ hb e' => hd35 (by have e'' : b_ = g27 := e'; rw [← e'']; exact hb))).kp hk49 (fun b_ hb e' => hd35 (by have e'' : b_ = g27 := e'; rw [← e'']; exact hb))).base_le hb; omega)).down (by omega)) (z_c_spec_l29Again_61 x nx_Tiles hbdx_Tiles hlex_Tiles v hp0 n20 hl25 hl26 h54)), hB60⟩
  · refine W.skip ?_
    refine W.seq ?_
    refine W.regS (SR.q' (r_as (v := .int .i64 (-1)) rfl) <| SR.nil ?_)
    refine W.seq ?_
    refine W.seq ?_
    refine W.regS (SR.q' (r_as (v := .int .i64 0) rfl) <| SR.nil ?_)
    refine W.block ?_
    refine W.loop (σ := Nat) (fun g => [(1, .int .i64 v), (2, .pointer (some ((⟨g1, 0, none⟩ : Addr)))), (4, .pointer (some ((⟨g9, 0, none⟩ : Addr)))), (5, .bool false), (6, .pointer (some ((⟨g27, 0, none⟩ : Addr)))), (7, .int .i64 (lastB x.Tiles v g)), (8, .int .i64 (g : Int))]) (fun g w' => (Lo w w') ∧ (Blk w' g1 57 [.int .i64 x.State, .slice Ax_Tiles nx_Tiles cx_Tiles, .int .i64 x.Next, .int .i64 x.Fails, .int .i64 x.Size]) ∧ (SlR w' Bx_Tiles encI 1 Ax_Tiles nx_Tiles cx_Tiles x.Tiles) ∧ (Blk w' g9 57 [.int .i64 0, .slice none 0 0, .int .i64 0, .int .i64 0, .int .i64 0]) ∧ (Blk w' g27 57 [.int .i64 1, .slice A19 n20 c21, .int .i64 x.Next, .int .i64 0, .int .i64 x.Size]) ∧ (SlO w' w10.heap.size encI 1 3 A19 n20 c21 x.Tiles) ∧ (g ≤ x.Next.toNat)) (fun g => x.Next.toNat - g) 0 ?_ ?_ ?_
    · exact ⟨rfl, rfl, rfl, rfl, rfl, (eI (by first | (first | omega | rfl | rw [lastB_yes (by omega)] | rw [lastB_no (by omega)]) | (dsimp only; (first | omega | rfl | rw [lastB_yes (by omega)] | rw [lastB_no (by omega)])))), (eI (by first | (first | omega | rfl | rw [lastB_yes (by omega)] | rw [lastB_no (by omega)]) | (dsimp only; (first | omega | rfl | rw [lastB_yes (by omega)] | rw [lastB_no (by omega)])))), trivial⟩
    · exact ⟨hB53, ((((((hb6).lo hk12).lo hk18).lo hk30).kp hk37 (fun e' => by have e'' : g1 = g27 := e'; omega)).kp hk43 (fun e' => by have e'' : g1 = g27 := e'; omega)).kp hk49 (fun e' => by have e'' : g1 = g27 := e'; omega), (((((((hx_Tiles).lo hk4).lo hk12).lo hk18).lo hk30).kp hk37 (fun b_ hb e' => by have e'' : b_ = g27 := e'; omega)).kp hk43 (fun b_ hb e' => by have e'' : b_ = g27 := e'; omega)).kp hk49 (fun b_ hb e' => by have e'' : b_ = g27 := e'; omega), (((((hb14).lo hk18).lo hk30).kp hk37 (fun e' => by have e'' : g9 = g27 := e'; omega)).kp hk43 (fun e' => by have e'' : g9 = g27 := e'; omega)).kp hk49 (fun e' => by have e'' : g9 = g27 := e'; omega), hb51, ((((hO22).lo hk30).kp hk37 (fun b_ hb e' => hd35 (by have e'' : b_ = g27 := e'; rw [← e'']; exact hb))).kp hk43 (fun b_ hb e' => hd35 (by have e'' : b_ = g27 := e'; rw [← e'']; exact hb))).kp hk49 (fun b_ hb e' => hd35 (by have e'' : b_ = g27 := e'; rw [← e'']; exact hb)), (z_c_spec_l29Again_67 x nx_Tiles hbdx_Tiles hlex_Tiles v hp0 n20 hl25 hl26 h54)⟩
    · rintro k f68 w69 hP71
      obtain ⟨hB70, hm72, hm73, hm74, hm75, hm76, hi77⟩ : (Lo w w69) ∧ (Blk w69 g1 57 [.int .i64 x.State, .slice Ax_Tiles nx_Tiles cx_Tiles, .int .i64 x.Next, .int .i64 x.Fails, .int .i64 x.Size]) ∧ (SlR w69 Bx_Tiles encI 1 Ax_Tiles nx_Tiles cx_Tiles x.Tiles) ∧ (Blk w69 g9 57 [.int .i64 0, .slice none 0 0, .int .i64 0, .int .i64 0, .int .i64 0]) ∧ (Blk w69 g27 57 [.int .i64 1, .slice A19 n20 c21, .int .i64 x.Next, .int .i64 0, .int .i64 x.Size]) ∧ (SlO w69 w10.heap.size encI 1 3 A19 n20 c21 x.Tiles) ∧ (k ≤ x.Next.toNat) := hP71
      refine (?_ : W _ _ _ _ _ (act _ (sets f68 [(1, .int .i64 v), (2, .pointer (some ((⟨g1, 0, none⟩ : Addr)))), (4, .pointer (some ((⟨g9, 0, none⟩ : Addr)))), (5, .bool false), (6, .pointer (some ((⟨g27, 0, none⟩ : Addr)))), (7, .int .i64 (lastB x.Tiles v k)), (8, .int .i64 (k : Int))])) _)
      have hzw69 := hB70.size
      have hl78 := hm72.lt
      have hl79 := hm74.lt
      have hl80 := hm75.lt
      refine W.seq ?_
      refine W.seq ?_
      refine W.regS (SR.q' (r_mv (v := .int .i64 _) rfl) <| SR.q' (r_fa fa57_2 rfl) <| SR.q' (r_ld (v := .int .i64 x.Next) sca3 rfl ((hm72).cell rfl)) <| SR.q' (r_lt rfl rfl) <| SR.nil ?_)
      refine W.cond_d rfl (fun h81 => ?_) (fun h81 => ?_)
      · refine W.skip ?_
        refine W.seq ?_
        refine W.block ?_
        refine W.seq ?_
        refine W.regS (SR.q' (r_fa fa57_1 rfl) <| SR.q' (r_ld (v := .slice Ax_Tiles nx_Tiles cx_Tiles) sca38 rfl ((hm72).cell rfl)) <| SR.q' (r_mv (v := .int .i64 _) rfl) <| ?_)
        have hx83 := (hm73).elem (i := k) (by omega)
        refine SR.q' (r_ixR tsl38 (hm73) rfl rfl (by omega)) <| SR.q' (r_ld (v := .int .i64 (gt x.Tiles k)) sca3 rfl ((hm73).cell0 hx83 rfl)) <| SR.q' (r_mv (v := .int .i64 _) rfl) <| SR.q' (r_lt rfl rfl) <| SR.nil ?_
        refine W.cond_d rfl (fun h84 => ?_) (fun h84 => ?_)
        · refine W.regS (SR.q' (r_mv (v := .int .i64 _) rfl) <| SR.q' (r_as (v := .int .i64 _) rfl) <| SR.nil ?_)
          refine W.regS (SR.q' (r_mv (v := .int .i64 _) rfl) <| SR.q' (r_add rfl rfl (by omega)) <| SR.q' (r_as (v := .int .i64 _) rfl) <| SR.nil ?_)
          refine ⟨k + 1, _, rfl, ⟨rfl, rfl, rfl, rfl, rfl, (eI (by first | (first | omega | rfl | rw [lastB_yes (by omega)] | rw [lastB_no (by omega)]) | (dsimp only; (first | omega | rfl | rw [lastB_yes (by omega)] | rw [lastB_no (by omega)])))), (eI (by first | (first | omega | rfl | rw [lastB_yes (by omega)] | rw [lastB_no (by omega)]) | (dsimp only; (first | omega | rfl | rw [lastB_yes (by omega)] | rw [lastB_no (by omega)])))), trivial⟩, ⟨hB70, hm72, hm73, hm74, hm75, hm76, ?_⟩, ?_⟩
          · exact (z_c_spec_l29Again_85 x nx_Tiles hbdx_Tiles hlex_Tiles v hp0 n20 hl25 hl26 h54 k hi77 h81 hx83 h84)
          · exact (z_c_spec_l29Again_86 x nx_Tiles hbdx_Tiles hlex_Tiles v hp0 n20 hl25 hl26 h54 k hi77 h81 hx83 h84)
        · refine W.skip ?_
          refine W.regS (SR.q' (r_mv (v := .int .i64 _) rfl) <| SR.q' (r_add rfl rfl (by omega)) <| SR.q' (r_as (v := .int .i64 _) rfl) <| SR.nil ?_)
          refine ⟨k + 1, _, rfl, ⟨rfl, rfl, rfl, rfl, rfl, (eI (by first | (first | omega | rfl | rw [lastB_yes (by omega)] | rw [lastB_no (by omega)]) | (dsimp only; (first | omega | rfl | rw [lastB_yes (by omega)] | rw [lastB_no (by omega)])))), (eI (by first | (first | omega | rfl | rw [lastB_yes (by omega)] | rw [lastB_no (by omega)]) | (dsimp only; (first | omega | rfl | rw [lastB_yes (by omega)] | rw [lastB_no (by omega)])))), trivial⟩, ⟨hB70, hm72, hm73, hm74, hm75, hm76, ?_⟩, ?_⟩
          · exact (z_c_spec_l29Again_87 x nx_Tiles hbdx_Tiles hlex_Tiles v hp0 n20 hl25 hl26 h54 k hi77 h81 hx83 h84)
          · exact (z_c_spec_l29Again_88 x nx_Tiles hbdx_Tiles hlex_Tiles v hp0 n20 hl25 hl26 h54 k hi77 h81 hx83 h84)
      · refine W.exit (xin_here ?_)
        refine W.seq ?_
        refine W.seq ?_
        refine W.regS (SR.q' (r_mv (v := .int .i64 _) rfl) <| SR.call ent142 (c_spec_l1Most w69 0 (lastB x.Tiles v k)) rfl ?_)
        rintro e w89 ⟨rfl, hk90⟩
        refine ⟨_, rfl, ?_⟩
        have hz91 := hk90.size
        have hB92 := hB70.lo hk90
        refine SR.q' (r_as (v := .int .i64 _) rfl) <| SR.nil ?_
        refine W.block ?_
        refine W.loop (σ := Nat × (Option Addr) × Nat × Nat) (fun g => [(2, .pointer (some ((⟨g1, 0, none⟩ : Addr)))), (4, .pointer (some ((⟨g9, 0, none⟩ : Addr)))), (5, .bool false), (6, .pointer (some ((⟨g27, 0, none⟩ : Addr)))), (7, .int .i64 (lastB x.Tiles v k)), (9, .int .i64 (g.1 : Int))]) (fun g w' => (Lo w w') ∧ (Blk w' g1 57 [.int .i64 x.State, .slice Ax_Tiles nx_Tiles cx_Tiles, .int .i64 x.Next, .int .i64 x.Fails, .int .i64 x.Size]) ∧ (SlR w' Bx_Tiles encI 1 Ax_Tiles nx_Tiles cx_Tiles x.Tiles) ∧ (Blk w' g9 57 [.int .i64 0, .slice none 0 0, .int .i64 0, .int .i64 0, .int .i64 0]) ∧ (Blk w' g27 57 [.int .i64 1, .slice g.2.1 g.2.2.1 g.2.2.2, .int .i64 x.Next, .int .i64 0, .int .i64 (agS x v g.1)]) ∧ (SlO w' w.heap.size encI 1 3 g.2.1 g.2.2.1 g.2.2.2 (zf x.Tiles (agB x v) g.1)) ∧ (¬ g.2.1 = some ⟨g1, 0, none⟩) ∧ (¬ g.2.1 = some ⟨g9, 0, none⟩) ∧ (¬ g.2.1 = some ⟨g27, 0, none⟩) ∧ (agB x v ≤ g.1 ∧ g.1 ≤ x.Next.toNat)) (fun g => x.Next.toNat - g.1) (agB x v, A19, n20, c21) ?_ ?_ ?_
        · exact ⟨rfl, rfl, rfl, rfl, rfl, (eI (by first | (first | omega | rfl | exact agS_zero x v | exact agS_next (by have := job_rng hp0; omega) | (unfold agB; omega) | (have e : k = x.Next.toNat := (by omega); subst e; unfold agB; omega)) | (dsimp only; (first | omega | rfl | exact agS_zero x v | exact agS_next (by have := job_rng hp0; omega) | (unfold agB; omega) | (have e : k = x.Next.toNat := (by omega); subst e; unfold agB; omega))))), trivial⟩
        · show (Lo w w89) ∧ (Blk w89 g1 57 [.int .i64 x.State, .slice Ax_Tiles nx_Tiles cx_Tiles, .int .i64 x.Next, .int .i64 x.Fails, .int .i64 x.Size]) ∧ (SlR w89 Bx_Tiles encI 1 Ax_Tiles nx_Tiles cx_Tiles x.Tiles) ∧ (Blk w89 g9 57 [.int .i64 0, .slice none 0 0, .int .i64 0, .int .i64 0, .int .i64 0]) ∧ (Blk w89 g27 57 [.int .i64 1, .slice A19 n20 c21, .int .i64 x.Next, .int .i64 0, .int .i64 (agS x v (agB x v))]) ∧ (SlO w89 w.heap.size encI 1 3 A19 n20 c21 (zf x.Tiles (agB x v) (agB x v))) ∧ (¬ A19 = some ⟨g1, 0, none⟩) ∧ (¬ A19 = some ⟨g9, 0, none⟩) ∧ (¬ A19 = some ⟨g27, 0, none⟩) ∧ (agB x v ≤ agB x v ∧ agB x v ≤ x.Next.toNat)
          exact ⟨hB92, (hm72).lo hk90, (hm73).lo hk90, (hm74).lo hk90, (Blk.eqv ((hm75).lo hk90) (eC rfl (eC rfl (eC rfl (eC rfl (eC (eI (z_c_spec_l29Again_95 x nx_Tiles hbdx_Tiles hlex_Tiles v hp0 n20 hl25 hl26 h54 k hi77 h81)) rfl)))))), (SlO.eqv (((hm76).lo hk90).down (by omega)) (z_c_spec_l29Again_96 x nx_Tiles hbdx_Tiles hlex_Tiles v hp0 n20 hl25 hl26 h54 k hi77 h81)), (fun e' => by have := ((hm76).lo hk90).base_le e'; omega), (fun e' => by have := ((hm76).lo hk90).base_le e'; omega), hd35, (z_c_spec_l29Again_94 x nx_Tiles hbdx_Tiles hlex_Tiles v hp0 n20 hl25 hl26 h54 k hi77 h81)⟩
        · rintro ⟨j, A93, n93, c93⟩ f97 w98 hP100
          obtain ⟨hB99, hm101, hm102, hm103, hm104, hO105, hd107, hd108, hd109, hi106⟩ : (Lo w w98) ∧ (Blk w98 g1 57 [.int .i64 x.State, .slice Ax_Tiles nx_Tiles cx_Tiles, .int .i64 x.Next, .int .i64 x.Fails, .int .i64 x.Size]) ∧ (SlR w98 Bx_Tiles encI 1 Ax_Tiles nx_Tiles cx_Tiles x.Tiles) ∧ (Blk w98 g9 57 [.int .i64 0, .slice none 0 0, .int .i64 0, .int .i64 0, .int .i64 0]) ∧ (Blk w98 g27 57 [.int .i64 1, .slice A93 n93 c93, .int .i64 x.Next, .int .i64 0, .int .i64 (agS x v j)]) ∧ (SlO w98 w.heap.size encI 1 3 A93 n93 c93 (zf x.Tiles (agB x v) j)) ∧ (¬ A93 = some ⟨g1, 0, none⟩) ∧ (¬ A93 = some ⟨g9, 0, none⟩) ∧ (¬ A93 = some ⟨g27, 0, none⟩) ∧ (agB x v ≤ j ∧ j ≤ x.Next.toNat) := hP100
          refine (?_ : W _ _ _ _ _ (act _ (sets f97 [(2, .pointer (some ((⟨g1, 0, none⟩ : Addr)))), (4, .pointer (some ((⟨g9, 0, none⟩ : Addr)))), (5, .bool false), (6, .pointer (some ((⟨g27, 0, none⟩ : Addr)))), (7, .int .i64 (lastB x.Tiles v k)), (9, .int .i64 (j : Int))])) _)
          have hzw98 := hB99.size
          have hl110 := hm101.lt
          have hl111 := hm103.lt
          have hl112 := hm104.lt
          have hl113 := hO105.len
          have hl114 := hO105.rd.bound
          have hq115 : 0 ≤ gt x.Tiles j ∧ gt x.Tiles j ≤ 100 := tile_rng hp0 j
          have hq116 : -8000 ≤ agS x v j ∧ agS x v j ≤ 16000 := agS_rng hp0 v (j := j) (by have := job_rng hp0; omega)
          have hq117 : (zf x.Tiles (agB x v) j).length = x.Tiles.length := zf_len (i := j) (by have := job_rng hp0; omega) hi106.1
          refine W.seq ?_
          refine W.seq ?_
          refine W.regS (SR.q' (r_mv (v := .int .i64 _) rfl) <| SR.q' (r_fa fa57_2 rfl) <| SR.q' (r_ld (v := .int .i64 x.Next) sca3 rfl ((hm101).cell rfl)) <| SR.q' (r_lt rfl rfl) <| SR.nil ?_)
          refine W.cond_d rfl (fun h118 => ?_) (fun h118 => ?_)
          · refine W.skip ?_
            refine W.seq ?_
            refine W.block ?_
            refine W.seq ?_
            refine W.regA (Kp (fun b_ => b_ = g27) w98) (fun f' w' => At f' [(2, .pointer (some ((⟨g1, 0, none⟩ : Addr)))), (4, .pointer (some ((⟨g9, 0, none⟩ : Addr)))), (5, .bool false), (6, .pointer (some ((⟨g27, 0, none⟩ : Addr)))), (7, .int .i64 (lastB x.Tiles v k)), (9, .int .i64 (j : Int))] ∧ (Kp (fun b_ => b_ = g27) w98 w') ∧ (Blk w' g27 57 [.int .i64 1, .slice A93 n93 c93, .int .i64 x.Next, .int .i64 0, .int .i64 ((agS x v j) - (10 * (gt x.Tiles j)))]) ∧ (x.Tiles[j]? = some (gt x.Tiles j))) mo ?_ ?_
            · intro w132 hk133
              have hz134 := hk133.size
              have hB135 := hB99.lo hk133
              refine AH.take 0 rfl (by kernel_rfl) trivial ((Kp.refl w98 : Kp (fun b_ => b_ = g27) w98 w98).lo hk133) (fun w' hw' => r_fa fa57_4 rfl) <| AH.take 2 rfl (by kernel_rfl) trivial ((Kp.refl w98 : Kp (fun b_ => b_ = g27) w98 w98).lo hk133) (fun w' hw' => r_fa fa57_1 rfl) <| AH.take 3 rfl (by kernel_rfl) trivial ((Kp.refl w98 : Kp (fun b_ => b_ = g27) w98 w98).lo hk133) (fun w' hw' => r_ld (v := .slice Ax_Tiles nx_Tiles cx_Tiles) sca38 rfl (((hm101).kp hw' (fun e' => by have e'' : g1 = g27 := e'; omega)).cell rfl)) <| AH.take 4 rfl (by kernel_rfl) trivial ((Kp.refl w98 : Kp (fun b_ => b_ = g27) w98 w98).lo hk133) (fun w' hw' => r_mv (v := .int .i64 _) rfl) <| ?_
              have hx137 := ((hm102).lo hk133).elem (i := j) (by omega)
              refine AH.take 5 rfl (by kernel_rfl) trivial ((Kp.refl w98 : Kp (fun b_ => b_ = g27) w98 w98).lo hk133) (fun w' hw' => r_ixR tsl38 (((hm102).kp hw' (fun b_ hb e' => by have e'' : b_ = g27 := e'; omega))) rfl rfl (by omega)) <| AH.take 6 rfl (by kernel_rfl) trivial ((Kp.refl w98 : Kp (fun b_ => b_ = g27) w98 w98).lo hk133) (fun w' hw' => r_ld (v := .int .i64 (gt x.Tiles j)) sca3 rfl ((((hm102).kp hw' (fun b_ hb e' => by have e'' : b_ = g27 := e'; omega))).cell0 hx137 rfl)) <| AH.take 7 rfl (by kernel_rfl) trivial ((Kp.refl w98 : Kp (fun b_ => b_ = g27) w98 w98).lo hk133) (fun w' hw' => r_mul rfl rfl (by omega)) <| AH.br [1] (by kernel_rfl) rfl ⟨Br.mk' rfl trivial ?_, trivial⟩
              refine SR.q' (r_ld (v := .int .i64 (agS x v j)) sca3 rfl (((hm104).lo hk133).cell rfl)) ?_
              refine SR.nil ⟨(Kp.refl w98 : Kp (fun b_ => b_ = g27) w98 w98).lo hk133, _, rfl, ?_⟩
              refine AH.take 8 rfl (by kernel_rfl) trivial ((Kp.refl w98 : Kp (fun b_ => b_ = g27) w98 w98).lo hk133) (fun w' hw' => r_sub rfl rfl (by omega)) <| AH.take 9 rfl (by kernel_rfl) trivial ((Kp.refl w98 : Kp (fun b_ => b_ = g27) w98 w98).lo hk133) (fun w' hw' => r_fa fa57_4 rfl) <| AH.br [10] (by kernel_rfl) rfl ⟨Br.mk' rfl trivial ?_, trivial⟩
              refine SR.store (o := 4) (vs := [.int .i64 ((agS x v j) - (10 * (gt x.Tiles j)))]) sca3.2 rfl rfl rfl rfl ((hm104).lo hk133) (Nat.le_of_ble_eq_true rfl) rfl ?_
              intro w138 hk139 hs140 hb141
              have hz142 := hk139.size
              have hB143 := hB135.new hk139 (by omega)
              have hS144 := ((Kp.refl w98 : Kp (fun b_ => b_ = g27) w98 w98).lo hk133).step hk139 (fun _ _ e => e)
              refine SR.nil ⟨hS144, _, rfl, ?_⟩
              refine AH.done (by kernel_rfl) ?_
              exact ⟨⟨rfl, rfl, rfl, rfl, rfl, rfl, trivial⟩, hS144, (hb141), hx137⟩
            rintro f146 w147 ⟨hat149, hR148, hm145, hx137⟩
            rw [← sets_of_at hat149]
            have hz150 := hR148.size
            have hB151 := hB99.new hR148 (by omega)
            refine W.regS (SR.q' (r_fa fa57_1 rfl) <| SR.q' (r_ld (v := .slice A93 n93 c93) sca38 rfl ((hm145).cell rfl)) <| SR.q' (r_mv (v := .int .i64 _) rfl) <| ?_)
            have hx153 := (((hO105).kp hR148 (fun b_ hb e' => hd109 (by have e'' : b_ = g27 := e'; rw [← e'']; exact hb))).rd).elem (i := j) (by omega)
            refine SR.q' (r_ixR tsl38 (((hO105).kp hR148 (fun b_ hb e' => hd109 (by have e'' : b_ = g27 := e'; rw [← e'']; exact hb))).rd) rfl rfl (by omega)) <| SR.storeO (o := 0) (vs := [.int .i64 0]) (x1 := 0) sca3.2 rfl rfl rfl rfl ((hO105).kp hR148 (fun b_ hb e' => hd109 (by have e'' : b_ = g27 := e'; rw [← e'']; exact hb))) hx153 rfl (Nat.le_of_ble_eq_true rfl) rfl ?_
            intro w154 hk155 hs156 hO157
            have hz158 := hk155.size
            have hB159 := hB151.step hk155 (fun i_ hi_ e' => by have := (((hO105).kp hR148 (fun b_ hb e' => hd109 (by have e'' : b_ = g27 := e'; rw [← e'']; exact hb)))).base_le e'; first | omega | (exfalso; omega) | exact e' | exact .inl e' | exact .inr e')
            have hx160 : ((zf x.Tiles (agB x v) j).set ((j : Int).toNat) 0)[(j : Int).toNat]? = some (0) := List.getElem?_set_self (List.getElem?_eq_some_iff.1 hx153).1
            refine SR.nil ?_
            refine W.regS (SR.q' (r_mv (v := .int .i64 _) rfl) <| SR.q' (r_add rfl rfl (by omega)) <| SR.q' (r_as (v := .int .i64 _) rfl) <| SR.nil ?_)
            refine ⟨(j + 1, A93, n93, c93), _, rfl, ⟨rfl, rfl, rfl, rfl, rfl, (eI (by first | (first | omega | rfl | exact agS_zero x v | exact agS_next (by have := job_rng hp0; omega) | (unfold agB; omega) | (have e : k = x.Next.toNat := (by omega); subst e; unfold agB; omega)) | (dsimp only; (first | omega | rfl | exact agS_zero x v | exact agS_next (by have := job_rng hp0; omega) | (unfold agB; omega) | (have e : k = x.Next.toNat := (by omega); subst e; unfold agB; omega))))), trivial⟩, (show (Lo w w154) ∧ (Blk w154 g1 57 [.int .i64 x.State, .slice Ax_Tiles nx_Tiles cx_Tiles, .int .i64 x.Next, .int .i64 x.Fails, .int .i64 x.Size]) ∧ (SlR w154 Bx_Tiles encI 1 Ax_Tiles nx_Tiles cx_Tiles x.Tiles) ∧ (Blk w154 g9 57 [.int .i64 0, .slice none 0 0, .int .i64 0, .int .i64 0, .int .i64 0]) ∧ (Blk w154 g27 57 [.int .i64 1, .slice A93 n93 c93, .int .i64 x.Next, .int .i64 0, .int .i64 (agS x v (j + 1))]) ∧ (SlO w154 w.heap.size encI 1 3 A93 n93 c93 (zf x.Tiles (agB x v) (j + 1))) ∧ (¬ A93 = some ⟨g1, 0, none⟩) ∧ (¬ A93 = some ⟨g9, 0, none⟩) ∧ (¬ A93 = some ⟨g27, 0, none⟩) ∧ (agB x v ≤ j + 1 ∧ j + 1 ≤ x.Next.toNat) from ⟨hB159, ((hm101).kp hR148 (fun e' => by have e'' : g1 = g27 := e'; omega)).kp hk155 (fun e' => hd107 e'), ((hm102).kp hR148 (fun b_ hb e' => by have e'' : b_ = g27 := e'; omega)).kp hk155 (fun b_ hb e' => by have := (((hO105).kp hR148 (fun b_ hb e' => hd109 (by have e'' : b_ = g27 := e'; rw [← e'']; exact hb)))).base_le e'; omega), ((hm103).kp hR148 (fun e' => by have e'' : g9 = g27 := e'; omega)).kp hk155 (fun e' => hd108 e'), (Blk.eqv ((hm145).kp hk155 (fun e' => hd109 e')) (eC rfl (eC rfl (eC rfl (eC rfl (eC (eI (z_c_spec_l29Again_161 x nx_Tiles hbdx_Tiles hlex_Tiles v hp0 n20 hl25 hl26 h54 k hi77 h81 j n93 c93 hi106 hl113 hq115 hq116 hq117 h118 hx137 hx153 hx160)) rfl)))))), (SlO.eqv (hO157) (z_c_spec_l29Again_162 x nx_Tiles hbdx_Tiles hlex_Tiles v hp0 n20 hl25 hl26 h54 k hi77 h81 j n93 c93 hi106 hl113 hq115 hq116 hq117 h118 hx137 hx153 hx160)), hd107, hd108, hd109, ?_⟩), ?_⟩
            · exact (z_c_spec_l29Again_163 x nx_Tiles hbdx_Tiles hlex_Tiles v hp0 n20 hl25 hl26 h54 k hi77 h81 j n93 c93 hi106 hl113 hq115 hq116 hq117 h118 hx137 hx153 hx160)
            · exact (z_c_spec_l29Again_164 x nx_Tiles hbdx_Tiles hlex_Tiles v hp0 n20 hl25 hl26 h54 k hi77 h81 j n93 c93 hi106 hl113 hq115 hq116 hq117 h118 hx137 hx153 hx160)
          · refine W.exit (xin_here ?_)
            refine W.seq ?_
            refine W.regS (SR.q' (r_mv (v := .int .i64 _) rfl) <| SR.call ent142 (c_spec_l1Most w98 0 (lastB x.Tiles v k)) rfl ?_)
            rintro e w165 ⟨rfl, hk166⟩
            refine ⟨_, rfl, ?_⟩
            have hz167 := hk166.size
            have hB168 := hB99.lo hk166
            refine SR.q' (r_fa fa57_2 rfl) <| SR.store (o := 2) (vs := [.int .i64 (max 0 (lastB x.Tiles v k))]) sca3.2 rfl rfl rfl rfl ((hm104).lo hk166) (Nat.le_of_ble_eq_true rfl) rfl ?_
            intro w169 hk170 hs171 hb172
            have hz173 := hk170.size
            have hB174 := hB168.new hk170 (by omega)
            refine SR.nil ?_
            refine W.seq ?_
            refine W.regS (SR.q' (r_lda (l := [.int .i64 1, .slice A93 n93 c93, .int .i64 (max 0 (lastB x.Tiles v k)), .int .i64 0, .int .i64 (agS x v j)]) agg57 rfl (fun _ _ hu => (hb172).cell hu) rfl) <| SR.q' (r_mv (v := .int .i64 _) rfl) <| SR.q' (r_ge rfl rfl) <| SR.store (o := 0) (vs := [.int .i64 1, .slice A93 n93 c93, .int .i64 (max 0 (lastB x.Tiles v k)), .int .i64 0, .int .i64 (agS x v j)]) agg57.2 rfl rfl rfl rfl (((hm103).lo hk166).kp hk170 (fun e' => by have e'' : g9 = g27 := e'; omega)) (Nat.le_of_ble_eq_true rfl) rfl ?_)
            intro w175 hk176 hs177 hb178
            have hz179 := hk176.size
            have hB180 := hB174.new hk176 (by omega)
            refine SR.q' (r_as (v := .bool _) rfl) <| SR.nil ?_
            refine W.ret ?_
            refine retCT rfl rfl agg57 (hb178) rfl (v := .bool _) rfl ?_
            exact ⟨A93, n93, c93, eR (eT2 (eA (eC (eI (z_c_spec_l29Again_182 x nx_Tiles hbdx_Tiles hlex_Tiles v hp0 n20 hl25 hl26 h54 k hi77 h81 j n93 c93 hi106 hl113 hq115 hq116 hq117 h118)) (eC rfl (eC (eI (z_c_spec_l29Again_183 x nx_Tiles hbdx_Tiles hlex_Tiles v hp0 n20 hl25 hl26 h54 k hi77 h81 j n93 c93 hi106 hl113 hq115 hq116 hq117 h118)) (eC (eI (z_c_spec_l29Again_184 x nx_Tiles hbdx_Tiles hlex_Tiles v hp0 n20 hl25 hl26 h54 k hi77 h81 j n93 c93 hi106 hl113 hq115 hq116 hq117 h118)) (eC (eI (z_c_spec_l29Again_185 x nx_Tiles hbdx_Tiles hlex_Tiles v hp0 n20 hl25 hl26 h54 k hi77 h81 j n93 c93 hi106 hl113 hq115 hq116 hq117 h118)) rfl)))))) (eDD (z_c_spec_l29Again_186 x nx_Tiles hbdx_Tiles hlex_Tiles v hp0 n20 hl25 hl26 h54 k hi77 h81 j n93 c93 hi106 hl113 hq115 hq116 hq117 h118))), (SlO.eqv (((((hO105).lo hk166).kp hk170 (fun b_ hb e' => hd109 (by have e'' : b_ = g27 := e'; rw [← e'']; exact hb))).kp hk176 (fun b_ hb e' => hd108 (by have e'' : b_ = g9 := e'; rw [← e'']; exact hb))).down (by omega)) (z_c_spec_l29Again_181 x nx_Tiles hbdx_Tiles hlex_Tiles v hp0 n20 hl25 hl26 h54 k hi77 h81 j n93 c93 hi106 hl113 hq115 hq116 hq117 h118)), hB180⟩
end Go.Proofs.YtlpapeeaghmjpaaDoor
