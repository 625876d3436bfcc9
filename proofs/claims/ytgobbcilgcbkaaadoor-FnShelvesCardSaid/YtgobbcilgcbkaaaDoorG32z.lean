/- Walks, printed by a program of this claim's author. -/
import Derived.Test.YtgobbcilgcbkaaaDoorChecked
import Derived.Test.YtgobbcilgcbkaaaDoorUa
import Derived.Test.YtgobbcilgcbkaaaDoorFu
import Derived.Test.YtgobbcilgcbkaaaDoorFs
import Derived.Test.YtgobbcilgcbkaaaDoorFq
import Derived.Test.YtgobbcilgcbkaaaDoorFo
import Derived.Test.YtgobbcilgcbkaaaDoorDa
import Derived.Test.YtgobbcilgcbkaaaDoorG32s
namespace Go.Proofs.YtgobbcilgcbkaaaDoor
open Go Go.RowKit Fw
set_option maxRecDepth 10000
set_option maxHeartbeats 2000000
set_option linter.unusedVariables false
theorem ent10 : Ent Tryd.prog 10 := ent_of Tryd.func10 (by decide +kernel) rfl
theorem ent11 : Ent Tryd.prog 11 := ent_of Tryd.func11 (by decide +kernel) rfl
theorem ent12 : Ent Tryd.prog 12 := ent_of Tryd.func12 (by decide +kernel) rfl
theorem ent13 : Ent Tryd.prog 13 := ent_of Tryd.func13 (by decide +kernel) rfl
theorem ent14 : Ent Tryd.prog 14 := ent_of Tryd.func14 (by decide +kernel) rfl
theorem ent15 : Ent Tryd.prog 15 := ent_of Tryd.func15 (by decide +kernel) rfl
theorem ent16 : Ent Tryd.prog 16 := ent_of Tryd.func16 (by decide +kernel) rfl
theorem ent17 : Ent Tryd.prog 17 := ent_of Tryd.func17 (by decide +kernel) rfl
theorem ent18 : Ent Tryd.prog 18 := ent_of Tryd.func18 (by decide +kernel) rfl
theorem ent19 : Ent Tryd.prog 19 := ent_of Tryd.func19 (by decide +kernel) rfl
theorem ent20 : Ent Tryd.prog 20 := ent_of Tryd.func20 (by decide +kernel) rfl
theorem ent21 : Ent Tryd.prog 21 := ent_of Tryd.func21 (by decide +kernel) rfl
theorem ent22 : Ent Tryd.prog 22 := ent_of Tryd.func22 (by decide +kernel) rfl
theorem ent4 : Ent Tryd.prog 4 := ent_of Tryd.func4 (by decide +kernel) rfl
theorem ent6 : Ent Tryd.prog 6 := ent_of Tryd.func6 (by decide +kernel) rfl
theorem ent7 : Ent Tryd.prog 7 := ent_of Tryd.func7 (by decide +kernel) rfl
theorem ent8 : Ent Tryd.prog 8 := ent_of Tryd.func8 (by decide +kernel) rfl
theorem ent9 : Ent Tryd.prog 9 := ent_of Tryd.func9 (by decide +kernel) rfl
theorem und4 : Tryd.prog.underlying 4 = some (.bool) := by kernel_rfl

theorem z_c_laws_FnShelves_78 (L : List UInt8) (nL : Nat) (hbdL : (nL : Int) ≤ 9223372036854775807) (hleL : nL = L.length) (h5 : ¬ (65536 < (L.length : Int))) (v17 : Library) (v18 : Int) (hq19 : v17.Maps.length ≤ 9 ∧ v17.Away.length ≤ 9) (hq20 : MapB v17.Maps) (n9 : Nat) (hl23 : n9 = (v17.Maps).length) (hl24 : (n9 : Int) ≤ 9223372036854775807) (n13 : Nat) (hl25 : n13 = (v17.Away).length) (hl26 : (n13 : Int) ≤ 9223372036854775807) (n49 : Nat) (hl54 : n49 = ((if LibOK v17 ∧ 0 ≤ idxF (hasId v18) v17.Maps then selL (ofM v18) Away.Reader v17.Away else [])).length) (hl55 : (n49 : Int) ≤ 9223372036854775807) (hq56 : (if LibOK v17 ∧ 0 ≤ idxF (hasId v18) v17.Maps then selL (ofM v18) Away.Reader v17.Away else []).length ≤ v17.Away.length) (n60 : Nat) (hl65 : n60 = ((if LibOK v17 ∧ 0 ≤ idxF (hasId v18) v17.Maps then selL (ofM v18) Away.Reader v17.Away else [])).length) (hl66 : (n60 : Int) ≤ 9223372036854775807) (hq67 : (if LibOK v17 ∧ 0 ≤ idxF (hasId v18) v17.Maps then selL (ofM v18) Away.Reader v17.Away else []).length ≤ v17.Away.length) (h76 : ¬ ((if LibOK v17 ∧ 0 ≤ idxF (hasId v18) v17.Maps then selL (ofM v18) Away.Reader v17.Away else []) = (if LibOK v17 ∧ 0 ≤ idxF (hasId v18) v17.Maps then selL (ofM v18) Away.Reader v17.Away else []))) : false = true := by
  exfalso; first | exact self_no (by assumption) | exact tn_bad (by assumption) | exact may_bad2 (by assumption) (by assumption) | exact sh_bad2 (k := k) (by assumption) (by omega)
theorem z_c_laws_FnShelves_80 (L : List UInt8) (nL : Nat) (hbdL : (nL : Int) ≤ 9223372036854775807) (hleL : nL = L.length) (h5 : ¬ (65536 < (L.length : Int))) (v17 : Library) (v18 : Int) (hq19 : v17.Maps.length ≤ 9 ∧ v17.Away.length ≤ 9) (hq20 : MapB v17.Maps) (n9 : Nat) (hl23 : n9 = (v17.Maps).length) (hl24 : (n9 : Int) ≤ 9223372036854775807) (n13 : Nat) (hl25 : n13 = (v17.Away).length) (hl26 : (n13 : Int) ≤ 9223372036854775807) (n49 : Nat) (hl54 : n49 = ((if LibOK v17 ∧ 0 ≤ idxF (hasId v18) v17.Maps then selL (ofM v18) Away.Reader v17.Away else [])).length) (hl55 : (n49 : Int) ≤ 9223372036854775807) (hq56 : (if LibOK v17 ∧ 0 ≤ idxF (hasId v18) v17.Maps then selL (ofM v18) Away.Reader v17.Away else []).length ≤ v17.Away.length) (n60 : Nat) (hl65 : n60 = ((if LibOK v17 ∧ 0 ≤ idxF (hasId v18) v17.Maps then selL (ofM v18) Away.Reader v17.Away else [])).length) (hl66 : (n60 : Int) ≤ 9223372036854775807) (hq67 : (if LibOK v17 ∧ 0 ≤ idxF (hasId v18) v17.Maps then selL (ofM v18) Away.Reader v17.Away else []).length ≤ v17.Away.length) (h76 : (if LibOK v17 ∧ 0 ≤ idxF (hasId v18) v17.Maps then selL (ofM v18) Away.Reader v17.Away else []) = (if LibOK v17 ∧ 0 ≤ idxF (hasId v18) v17.Maps then selL (ofM v18) Away.Reader v17.Away else [])) : 0 ≤ 20 := by
  omega
theorem z_c_laws_FnShelves_159 (L : List UInt8) (nL : Nat) (hbdL : (nL : Int) ≤ 9223372036854775807) (hleL : nL = L.length) (h5 : ¬ (65536 < (L.length : Int))) (v17 : Library) (v18 : Int) (hq19 : v17.Maps.length ≤ 9 ∧ v17.Away.length ≤ 9) (hq20 : MapB v17.Maps) (n9 : Nat) (hl23 : n9 = (v17.Maps).length) (hl24 : (n9 : Int) ≤ 9223372036854775807) (n13 : Nat) (hl25 : n13 = (v17.Away).length) (hl26 : (n13 : Int) ≤ 9223372036854775807) (n49 : Nat) (hl54 : n49 = ((if LibOK v17 ∧ 0 ≤ idxF (hasId v18) v17.Maps then selL (ofM v18) Away.Reader v17.Away else [])).length) (hl55 : (n49 : Int) ≤ 9223372036854775807) (hq56 : (if LibOK v17 ∧ 0 ≤ idxF (hasId v18) v17.Maps then selL (ofM v18) Away.Reader v17.Away else []).length ≤ v17.Away.length) (n60 : Nat) (hl65 : n60 = ((if LibOK v17 ∧ 0 ≤ idxF (hasId v18) v17.Maps then selL (ofM v18) Away.Reader v17.Away else [])).length) (hl66 : (n60 : Int) ≤ 9223372036854775807) (hq67 : (if LibOK v17 ∧ 0 ≤ idxF (hasId v18) v17.Maps then selL (ofM v18) Away.Reader v17.Away else []).length ≤ v17.Away.length) (h76 : (if LibOK v17 ∧ 0 ≤ idxF (hasId v18) v17.Maps then selL (ofM v18) Away.Reader v17.Away else []) = (if LibOK v17 ∧ 0 ≤ idxF (hasId v18) v17.Maps then selL (ofM v18) Away.Reader v17.Away else [])) (k : Nat) (hi90 : k ≤ 20) (h92 : (k : Int) < (n49 : Int)) (n102 : Nat) (hx98 : (if LibOK v17 ∧ 0 ≤ idxF (hasId v18) v17.Maps then selL (ofM v18) Away.Reader v17.Away else [])[k]? = some (gt (if LibOK v17 ∧ 0 ≤ idxF (hasId v18) v17.Maps then selL (ofM v18) Away.Reader v17.Away else []) k)) (hl108 : n102 = ((if LibOK v17 ∧ (1 ≤ (gt (if LibOK v17 ∧ 0 ≤ idxF (hasId v18) v17.Maps then selL (ofM v18) Away.Reader v17.Away else []) k) ∧ (gt (if LibOK v17 ∧ 0 ≤ idxF (hasId v18) v17.Maps then selL (ofM v18) Away.Reader v17.Away else []) k) ≤ 999) then selL (atR (gt (if LibOK v17 ∧ 0 ≤ idxF (hasId v18) v17.Maps then selL (ofM v18) Away.Reader v17.Away else []) k)) Away.Map v17.Away else [])).length) (hl109 : (n102 : Int) ≤ 9223372036854775807) (hq110 : (if LibOK v17 ∧ (1 ≤ (gt (if LibOK v17 ∧ 0 ≤ idxF (hasId v18) v17.Maps then selL (ofM v18) Away.Reader v17.Away else []) k) ∧ (gt (if LibOK v17 ∧ 0 ≤ idxF (hasId v18) v17.Maps then selL (ofM v18) Away.Reader v17.Away else []) k) ≤ 999) then selL (atR (gt (if LibOK v17 ∧ 0 ≤ idxF (hasId v18) v17.Maps then selL (ofM v18) Away.Reader v17.Away else []) k)) Away.Map v17.Away else []).length ≤ v17.Away.length) (h153 : (¬ (LibOK v17 ∧ (1 ≤ (gt (if LibOK v17 ∧ 0 ≤ idxF (hasId v18) v17.Maps then selL (ofM v18) Away.Reader v17.Away else []) k) ∧ (gt (if LibOK v17 ∧ 0 ≤ idxF (hasId v18) v17.Maps then selL (ofM v18) Away.Reader v17.Away else []) k) ≤ 999))) ∨ (¬ (v18 ∈ (if LibOK v17 ∧ (1 ≤ (gt (if LibOK v17 ∧ 0 ≤ idxF (hasId v18) v17.Maps then selL (ofM v18) Away.Reader v17.Away else []) k) ∧ (gt (if LibOK v17 ∧ 0 ≤ idxF (hasId v18) v17.Maps then selL (ofM v18) Away.Reader v17.Away else []) k) ≤ 999) then selL (atR (gt (if LibOK v17 ∧ 0 ≤ idxF (hasId v18) v17.Maps then selL (ofM v18) Away.Reader v17.Away else []) k)) Away.Map v17.Away else [])))) : false = true := by
  exfalso; first | exact self_no (by assumption) | exact tn_bad (by assumption) | exact may_bad2 (by assumption) (by assumption) | exact sh_bad2 (k := k) (by assumption) (by omega)
theorem z_c_laws_FnShelves_167 (L : List UInt8) (nL : Nat) (hbdL : (nL : Int) ≤ 9223372036854775807) (hleL : nL = L.length) (h5 : ¬ (65536 < (L.length : Int))) (v17 : Library) (v18 : Int) (hq19 : v17.Maps.length ≤ 9 ∧ v17.Away.length ≤ 9) (hq20 : MapB v17.Maps) (n9 : Nat) (hl23 : n9 = (v17.Maps).length) (hl24 : (n9 : Int) ≤ 9223372036854775807) (n13 : Nat) (hl25 : n13 = (v17.Away).length) (hl26 : (n13 : Int) ≤ 9223372036854775807) (n49 : Nat) (hl54 : n49 = ((if LibOK v17 ∧ 0 ≤ idxF (hasId v18) v17.Maps then selL (ofM v18) Away.Reader v17.Away else [])).length) (hl55 : (n49 : Int) ≤ 9223372036854775807) (hq56 : (if LibOK v17 ∧ 0 ≤ idxF (hasId v18) v17.Maps then selL (ofM v18) Away.Reader v17.Away else []).length ≤ v17.Away.length) (n60 : Nat) (hl65 : n60 = ((if LibOK v17 ∧ 0 ≤ idxF (hasId v18) v17.Maps then selL (ofM v18) Away.Reader v17.Away else [])).length) (hl66 : (n60 : Int) ≤ 9223372036854775807) (hq67 : (if LibOK v17 ∧ 0 ≤ idxF (hasId v18) v17.Maps then selL (ofM v18) Away.Reader v17.Away else []).length ≤ v17.Away.length) (h76 : (if LibOK v17 ∧ 0 ≤ idxF (hasId v18) v17.Maps then selL (ofM v18) Away.Reader v17.Away else []) = (if LibOK v17 ∧ 0 ≤ idxF (hasId v18) v17.Maps then selL (ofM v18) Away.Reader v17.Away else [])) (k : Nat) (hi90 : k ≤ 20) (h92 : (k : Int) < (n49 : Int)) (n102 : Nat) (hx98 : (if LibOK v17 ∧ 0 ≤ idxF (hasId v18) v17.Maps then selL (ofM v18) Away.Reader v17.Away else [])[k]? = some (gt (if LibOK v17 ∧ 0 ≤ idxF (hasId v18) v17.Maps then selL (ofM v18) Away.Reader v17.Away else []) k)) (hl108 : n102 = ((if LibOK v17 ∧ (1 ≤ (gt (if LibOK v17 ∧ 0 ≤ idxF (hasId v18) v17.Maps then selL (ofM v18) Away.Reader v17.Away else []) k) ∧ (gt (if LibOK v17 ∧ 0 ≤ idxF (hasId v18) v17.Maps then selL (ofM v18) Away.Reader v17.Away else []) k) ≤ 999) then selL (atR (gt (if LibOK v17 ∧ 0 ≤ idxF (hasId v18) v17.Maps then selL (ofM v18) Away.Reader v17.Away else []) k)) Away.Map v17.Away else [])).length) (hl109 : (n102 : Int) ≤ 9223372036854775807) (hq110 : (if LibOK v17 ∧ (1 ≤ (gt (if LibOK v17 ∧ 0 ≤ idxF (hasId v18) v17.Maps then selL (ofM v18) Away.Reader v17.Away else []) k) ∧ (gt (if LibOK v17 ∧ 0 ≤ idxF (hasId v18) v17.Maps then selL (ofM v18) Away.Reader v17.Away else []) k) ≤ 999) then selL (atR (gt (if LibOK v17 ∧ 0 ≤ idxF (hasId v18) v17.Maps then selL (ofM v18) Away.Reader v17.Away else []) k)) Away.Map v17.Away else []).length ≤ v17.Away.length) (h153 : ¬ ((¬ (LibOK v17 ∧ (1 ≤ (gt (if LibOK v17 ∧ 0 ≤ idxF (hasId v18) v17.Maps then selL (ofM v18) Away.Reader v17.Away else []) k) ∧ (gt (if LibOK v17 ∧ 0 ≤ idxF (hasId v18) v17.Maps then selL (ofM v18) Away.Reader v17.Away else []) k) ≤ 999))) ∨ (¬ (v18 ∈ (if LibOK v17 ∧ (1 ≤ (gt (if LibOK v17 ∧ 0 ≤ idxF (hasId v18) v17.Maps then selL (ofM v18) Away.Reader v17.Away else []) k) ∧ (gt (if LibOK v17 ∧ 0 ≤ idxF (hasId v18) v17.Maps then selL (ofM v18) Away.Reader v17.Away else []) k) ≤ 999) then selL (atR (gt (if LibOK v17 ∧ 0 ≤ idxF (hasId v18) v17.Maps then selL (ofM v18) Away.Reader v17.Away else []) k)) Away.Map v17.Away else []))))) (hq160 : LibOK v17 ∧ (1 ≤ (gt (if LibOK v17 ∧ 0 ≤ idxF (hasId v18) v17.Maps then selL (ofM v18) Away.Reader v17.Away else []) k) ∧ (gt (if LibOK v17 ∧ 0 ≤ idxF (hasId v18) v17.Maps then selL (ofM v18) Away.Reader v17.Away else []) k) ≤ 999)) (hq161 : v18 ∈ (if LibOK v17 ∧ (1 ≤ (gt (if LibOK v17 ∧ 0 ≤ idxF (hasId v18) v17.Maps then selL (ofM v18) Away.Reader v17.Away else []) k) ∧ (gt (if LibOK v17 ∧ 0 ≤ idxF (hasId v18) v17.Maps then selL (ofM v18) Away.Reader v17.Away else []) k) ≤ 999) then selL (atR (gt (if LibOK v17 ∧ 0 ≤ idxF (hasId v18) v17.Maps then selL (ofM v18) Away.Reader v17.Away else []) k)) Away.Map v17.Away else [])) : k + 1 ≤ 20 := by
  omega
theorem z_c_laws_FnShelves_168 (L : List UInt8) (nL : Nat) (hbdL : (nL : Int) ≤ 9223372036854775807) (hleL : nL = L.length) (h5 : ¬ (65536 < (L.length : Int))) (v17 : Library) (v18 : Int) (hq19 : v17.Maps.length ≤ 9 ∧ v17.Away.length ≤ 9) (hq20 : MapB v17.Maps) (n9 : Nat) (hl23 : n9 = (v17.Maps).length) (hl24 : (n9 : Int) ≤ 9223372036854775807) (n13 : Nat) (hl25 : n13 = (v17.Away).length) (hl26 : (n13 : Int) ≤ 9223372036854775807) (n49 : Nat) (hl54 : n49 = ((if LibOK v17 ∧ 0 ≤ idxF (hasId v18) v17.Maps then selL (ofM v18) Away.Reader v17.Away else [])).length) (hl55 : (n49 : Int) ≤ 9223372036854775807) (hq56 : (if LibOK v17 ∧ 0 ≤ idxF (hasId v18) v17.Maps then selL (ofM v18) Away.Reader v17.Away else []).length ≤ v17.Away.length) (n60 : Nat) (hl65 : n60 = ((if LibOK v17 ∧ 0 ≤ idxF (hasId v18) v17.Maps then selL (ofM v18) Away.Reader v17.Away else [])).length) (hl66 : (n60 : Int) ≤ 9223372036854775807) (hq67 : (if LibOK v17 ∧ 0 ≤ idxF (hasId v18) v17.Maps then selL (ofM v18) Away.Reader v17.Away else []).length ≤ v17.Away.length) (h76 : (if LibOK v17 ∧ 0 ≤ idxF (hasId v18) v17.Maps then selL (ofM v18) Away.Reader v17.Away else []) = (if LibOK v17 ∧ 0 ≤ idxF (hasId v18) v17.Maps then selL (ofM v18) Away.Reader v17.Away else [])) (k : Nat) (hi90 : k ≤ 20) (h92 : (k : Int) < (n49 : Int)) (n102 : Nat) (hx98 : (if LibOK v17 ∧ 0 ≤ idxF (hasId v18) v17.Maps then selL (ofM v18) Away.Reader v17.Away else [])[k]? = some (gt (if LibOK v17 ∧ 0 ≤ idxF (hasId v18) v17.Maps then selL (ofM v18) Away.Reader v17.Away else []) k)) (hl108 : n102 = ((if LibOK v17 ∧ (1 ≤ (gt (if LibOK v17 ∧ 0 ≤ idxF (hasId v18) v17.Maps then selL (ofM v18) Away.Reader v17.Away else []) k) ∧ (gt (if LibOK v17 ∧ 0 ≤ idxF (hasId v18) v17.Maps then selL (ofM v18) Away.Reader v17.Away else []) k) ≤ 999) then selL (atR (gt (if LibOK v17 ∧ 0 ≤ idxF (hasId v18) v17.Maps then selL (ofM v18) Away.Reader v17.Away else []) k)) Away.Map v17.Away else [])).length) (hl109 : (n102 : Int) ≤ 9223372036854775807) (hq110 : (if LibOK v17 ∧ (1 ≤ (gt (if LibOK v17 ∧ 0 ≤ idxF (hasId v18) v17.Maps then selL (ofM v18) Away.Reader v17.Away else []) k) ∧ (gt (if LibOK v17 ∧ 0 ≤ idxF (hasId v18) v17.Maps then selL (ofM v18) Away.Reader v17.Away else []) k) ≤ 999) then selL (atR (gt (if LibOK v17 ∧ 0 ≤ idxF (hasId v18) v17.Maps then selL (ofM v18) Away.Reader v17.Away else []) k)) Away.Map v17.Away else []).length ≤ v17.Away.length) (h153 : ¬ ((¬ (LibOK v17 ∧ (1 ≤ (gt (if LibOK v17 ∧ 0 ≤ idxF (hasId v18) v17.Maps then selL (ofM v18) Away.Reader v17.Away else []) k) ∧ (gt (if LibOK v17 ∧ 0 ≤ idxF (hasId v18) v17.Maps then selL (ofM v18) Away.Reader v17.Away else []) k) ≤ 999))) ∨ (¬ (v18 ∈ (if LibOK v17 ∧ (1 ≤ (gt (if LibOK v17 ∧ 0 ≤ idxF (hasId v18) v17.Maps then selL (ofM v18) Away.Reader v17.Away else []) k) ∧ (gt (if LibOK v17 ∧ 0 ≤ idxF (hasId v18) v17.Maps then selL (ofM v18) Away.Reader v17.Away else []) k) ≤ 999) then selL (atR (gt (if LibOK v17 ∧ 0 ≤ idxF (hasId v18) v17.Maps then selL (ofM v18) Away.Reader v17.Away else []) k)) Away.Map v17.Away else []))))) (hq160 : LibOK v17 ∧ (1 ≤ (gt (if LibOK v17 ∧ 0 ≤ idxF (hasId v18) v17.Maps then selL (ofM v18) Away.Reader v17.Away else []) k) ∧ (gt (if LibOK v17 ∧ 0 ≤ idxF (hasId v18) v17.Maps then selL (ofM v18) Away.Reader v17.Away else []) k) ≤ 999)) (hq161 : v18 ∈ (if LibOK v17 ∧ (1 ≤ (gt (if LibOK v17 ∧ 0 ≤ idxF (hasId v18) v17.Maps then selL (ofM v18) Away.Reader v17.Away else []) k) ∧ (gt (if LibOK v17 ∧ 0 ≤ idxF (hasId v18) v17.Maps then selL (ofM v18) Away.Reader v17.Away else []) k) ≤ 999) then selL (atR (gt (if LibOK v17 ∧ 0 ≤ idxF (hasId v18) v17.Maps then selL (ofM v18) Away.Reader v17.Away else []) k)) Away.Map v17.Away else [])) : 60 - (k + 1) < 60 - k := by
  omega
theorem z_c_laws_FnShelves_236 (L : List UInt8) (nL : Nat) (hbdL : (nL : Int) ≤ 9223372036854775807) (hleL : nL = L.length) (h5 : ¬ (65536 < (L.length : Int))) (v17 : Library) (v18 : Int) (hq19 : v17.Maps.length ≤ 9 ∧ v17.Away.length ≤ 9) (hq20 : MapB v17.Maps) (n9 : Nat) (hl23 : n9 = (v17.Maps).length) (hl24 : (n9 : Int) ≤ 9223372036854775807) (n13 : Nat) (hl25 : n13 = (v17.Away).length) (hl26 : (n13 : Int) ≤ 9223372036854775807) (n49 : Nat) (hl54 : n49 = ((if LibOK v17 ∧ 0 ≤ idxF (hasId v18) v17.Maps then selL (ofM v18) Away.Reader v17.Away else [])).length) (hl55 : (n49 : Int) ≤ 9223372036854775807) (hq56 : (if LibOK v17 ∧ 0 ≤ idxF (hasId v18) v17.Maps then selL (ofM v18) Away.Reader v17.Away else []).length ≤ v17.Away.length) (n60 : Nat) (hl65 : n60 = ((if LibOK v17 ∧ 0 ≤ idxF (hasId v18) v17.Maps then selL (ofM v18) Away.Reader v17.Away else [])).length) (hl66 : (n60 : Int) ≤ 9223372036854775807) (hq67 : (if LibOK v17 ∧ 0 ≤ idxF (hasId v18) v17.Maps then selL (ofM v18) Away.Reader v17.Away else []).length ≤ v17.Away.length) (h76 : (if LibOK v17 ∧ 0 ≤ idxF (hasId v18) v17.Maps then selL (ofM v18) Away.Reader v17.Away else []) = (if LibOK v17 ∧ 0 ≤ idxF (hasId v18) v17.Maps then selL (ofM v18) Away.Reader v17.Away else [])) (k : Nat) (hi90 : k ≤ 20) (h92 : ¬ ((k : Int) < (n49 : Int))) (v180 : Library) (hq181 : v180.Maps.length ≤ 9 ∧ v180.Away.length ≤ 9) (hq182 : MapB v180.Maps) (n172 : Nat) (hl185 : n172 = (v180.Maps).length) (hl186 : (n172 : Int) ≤ 9223372036854775807) (n176 : Nat) (hl187 : n176 = (v180.Away).length) (hl188 : (n176 : Int) ≤ 9223372036854775807) (h235 : (if LibOK v180 then sumC v180.Maps else 0) < (if LibOK v180 then sumT v180.Maps else 0)) : false = true := by
  exfalso; first | exact self_no (by assumption) | exact tn_bad (by assumption) | exact may_bad2 (by assumption) (by assumption) | exact sh_bad2 (k := k) (by assumption) (by omega)
theorem z_c_laws_FnShelves_277 (L : List UInt8) (nL : Nat) (hbdL : (nL : Int) ≤ 9223372036854775807) (hleL : nL = L.length) (h5 : ¬ (65536 < (L.length : Int))) (v17 : Library) (v18 : Int) (hq19 : v17.Maps.length ≤ 9 ∧ v17.Away.length ≤ 9) (hq20 : MapB v17.Maps) (n9 : Nat) (hl23 : n9 = (v17.Maps).length) (hl24 : (n9 : Int) ≤ 9223372036854775807) (n13 : Nat) (hl25 : n13 = (v17.Away).length) (hl26 : (n13 : Int) ≤ 9223372036854775807) (n49 : Nat) (hl54 : n49 = ((if LibOK v17 ∧ 0 ≤ idxF (hasId v18) v17.Maps then selL (ofM v18) Away.Reader v17.Away else [])).length) (hl55 : (n49 : Int) ≤ 9223372036854775807) (hq56 : (if LibOK v17 ∧ 0 ≤ idxF (hasId v18) v17.Maps then selL (ofM v18) Away.Reader v17.Away else []).length ≤ v17.Away.length) (n60 : Nat) (hl65 : n60 = ((if LibOK v17 ∧ 0 ≤ idxF (hasId v18) v17.Maps then selL (ofM v18) Away.Reader v17.Away else [])).length) (hl66 : (n60 : Int) ≤ 9223372036854775807) (hq67 : (if LibOK v17 ∧ 0 ≤ idxF (hasId v18) v17.Maps then selL (ofM v18) Away.Reader v17.Away else []).length ≤ v17.Away.length) (h76 : (if LibOK v17 ∧ 0 ≤ idxF (hasId v18) v17.Maps then selL (ofM v18) Away.Reader v17.Away else []) = (if LibOK v17 ∧ 0 ≤ idxF (hasId v18) v17.Maps then selL (ofM v18) Away.Reader v17.Away else [])) (k : Nat) (hi90 : k ≤ 20) (h92 : ¬ ((k : Int) < (n49 : Int))) (v180 : Library) (hq181 : v180.Maps.length ≤ 9 ∧ v180.Away.length ≤ 9) (hq182 : MapB v180.Maps) (n172 : Nat) (hl185 : n172 = (v180.Maps).length) (hl186 : (n172 : Int) ≤ 9223372036854775807) (n176 : Nat) (hl187 : n176 = (v180.Away).length) (hl188 : (n176 : Int) ≤ 9223372036854775807) (h235 : ¬ ((if LibOK v180 then sumC v180.Maps else 0) < (if LibOK v180 then sumT v180.Maps else 0))) (n240 : Nat) (hl245 : n240 = ((if LibOK v180 then selL mayM LMap.Id v180.Maps else [])).length) (hl246 : (n240 : Int) ≤ 9223372036854775807) (hq247 : (if LibOK v180 then selL mayM LMap.Id v180.Maps else []).length ≤ v180.Maps.length) (n251 : Nat) (hl256 : n251 = ((if LibOK v180 then selL mayM LMap.Id v180.Maps else [])).length) (hl257 : (n251 : Int) ≤ 9223372036854775807) (hq258 : (if LibOK v180 then selL mayM LMap.Id v180.Maps else []).length ≤ v180.Maps.length) (h276 : (¬ ((if LibOK v180 then selL mayM LMap.Id v180.Maps else []) = (if LibOK v180 then selL mayM LMap.Id v180.Maps else []))) ∨ ((LibOK v180) ∧ ((!((decide (0 < (n240 : Int))) == (decide ((if LibOK v180 then sumT v180.Maps else 0) < (if LibOK v180 then sumC v180.Maps else 0))))) = true))) : false = true := by
  exfalso; first | exact self_no (by assumption) | exact tn_bad (by assumption) | exact may_bad2 (by assumption) (by assumption) | exact sh_bad2 (k := k) (by assumption) (by omega)
theorem z_c_laws_FnShelves_355 (L : List UInt8) (nL : Nat) (hbdL : (nL : Int) ≤ 9223372036854775807) (hleL : nL = L.length) (h5 : ¬ (65536 < (L.length : Int))) (v17 : Library) (v18 : Int) (hq19 : v17.Maps.length ≤ 9 ∧ v17.Away.length ≤ 9) (hq20 : MapB v17.Maps) (n9 : Nat) (hl23 : n9 = (v17.Maps).length) (hl24 : (n9 : Int) ≤ 9223372036854775807) (n13 : Nat) (hl25 : n13 = (v17.Away).length) (hl26 : (n13 : Int) ≤ 9223372036854775807) (n49 : Nat) (hl54 : n49 = ((if LibOK v17 ∧ 0 ≤ idxF (hasId v18) v17.Maps then selL (ofM v18) Away.Reader v17.Away else [])).length) (hl55 : (n49 : Int) ≤ 9223372036854775807) (hq56 : (if LibOK v17 ∧ 0 ≤ idxF (hasId v18) v17.Maps then selL (ofM v18) Away.Reader v17.Away else []).length ≤ v17.Away.length) (n60 : Nat) (hl65 : n60 = ((if LibOK v17 ∧ 0 ≤ idxF (hasId v18) v17.Maps then selL (ofM v18) Away.Reader v17.Away else [])).length) (hl66 : (n60 : Int) ≤ 9223372036854775807) (hq67 : (if LibOK v17 ∧ 0 ≤ idxF (hasId v18) v17.Maps then selL (ofM v18) Away.Reader v17.Away else []).length ≤ v17.Away.length) (h76 : (if LibOK v17 ∧ 0 ≤ idxF (hasId v18) v17.Maps then selL (ofM v18) Away.Reader v17.Away else []) = (if LibOK v17 ∧ 0 ≤ idxF (hasId v18) v17.Maps then selL (ofM v18) Away.Reader v17.Away else [])) (k : Nat) (hi90 : k ≤ 20) (h92 : ¬ ((k : Int) < (n49 : Int))) (v180 : Library) (hq181 : v180.Maps.length ≤ 9 ∧ v180.Away.length ≤ 9) (hq182 : MapB v180.Maps) (n172 : Nat) (hl185 : n172 = (v180.Maps).length) (hl186 : (n172 : Int) ≤ 9223372036854775807) (n176 : Nat) (hl187 : n176 = (v180.Away).length) (hl188 : (n176 : Int) ≤ 9223372036854775807) (h235 : ¬ ((if LibOK v180 then sumC v180.Maps else 0) < (if LibOK v180 then sumT v180.Maps else 0))) (n240 : Nat) (hl245 : n240 = ((if LibOK v180 then selL mayM LMap.Id v180.Maps else [])).length) (hl246 : (n240 : Int) ≤ 9223372036854775807) (hq247 : (if LibOK v180 then selL mayM LMap.Id v180.Maps else []).length ≤ v180.Maps.length) (n251 : Nat) (hl256 : n251 = ((if LibOK v180 then selL mayM LMap.Id v180.Maps else [])).length) (hl257 : (n251 : Int) ≤ 9223372036854775807) (hq258 : (if LibOK v180 then selL mayM LMap.Id v180.Maps else []).length ≤ v180.Maps.length) (h276 : ¬ ((¬ ((if LibOK v180 then selL mayM LMap.Id v180.Maps else []) = (if LibOK v180 then selL mayM LMap.Id v180.Maps else []))) ∨ ((LibOK v180) ∧ ((!((decide (0 < (n240 : Int))) == (decide ((if LibOK v180 then sumT v180.Maps else 0) < (if LibOK v180 then sumC v180.Maps else 0))))) = true)))) (hq278 : (if LibOK v180 then selL mayM LMap.Id v180.Maps else []) = (if LibOK v180 then selL mayM LMap.Id v180.Maps else [])) (hq279 : ¬ ((LibOK v180) ∧ ((!((decide (0 < (n240 : Int))) == (decide ((if LibOK v180 then sumT v180.Maps else 0) < (if LibOK v180 then sumC v180.Maps else 0))))) = true))) (v291 : Library) (v292 : Int) (hq293 : v291.Maps.length ≤ 9 ∧ v291.Away.length ≤ 9) (hq294 : MapB v291.Maps) (n283 : Nat) (hl297 : n283 = (v291.Maps).length) (hl298 : (n283 : Int) ≤ 9223372036854775807) (n287 : Nat) (hl299 : n287 = (v291.Away).length) (hl300 : (n287 : Int) ≤ 9223372036854775807) (n330 : Nat) (hl335 : n330 = ((if LibOK v291 ∧ (1 ≤ v292 ∧ v292 ≤ 999) then selL (atR v292) Away.Map v291.Away else [])).length) (hl336 : (n330 : Int) ≤ 9223372036854775807) (hq337 : (if LibOK v291 ∧ (1 ≤ v292 ∧ v292 ≤ 999) then selL (atR v292) Away.Map v291.Away else []).length ≤ v291.Away.length) (n341 : Nat) (hl346 : n341 = ((if LibOK v291 ∧ (1 ≤ v292 ∧ v292 ≤ 999) then selL (atR v292) Away.Map v291.Away else [])).length) (hl347 : (n341 : Int) ≤ 9223372036854775807) (hq348 : (if LibOK v291 ∧ (1 ≤ v292 ∧ v292 ≤ 999) then selL (atR v292) Away.Map v291.Away else []).length ≤ v291.Away.length) (h354 : ¬ ((if LibOK v291 ∧ (1 ≤ v292 ∧ v292 ≤ 999) then selL (atR v292) Away.Map v291.Away else []) = (if LibOK v291 ∧ (1 ≤ v292 ∧ v292 ≤ 999) then selL (atR v292) Away.Map v291.Away else []))) : false = true := by
  exfalso; first | exact self_no (by assumption) | exact tn_bad (by assumption) | exact may_bad2 (by assumption) (by assumption) | exact sh_bad2 (k := k) (by assumption) (by omega)
theorem c_laws_FnShelves (w : World) {AL : Option Addr} {nL cL BL : Nat}  (L : List UInt8) (hL : SlR w BL encB 1 AL nL cL L) (hE : EnvW w) : Calls Tryd.prog 3 #[.slice AL nL cL] w fun e w' => e = .returned (.bool true) ∧ Lo w w' := by
  refine calls_W 218 Tryd.func3 rfl rfl rfl ?_
  have hbdL := hL.bound
  have hleL := hL.len
  have hBbL := hL.bd
  refine W.seq ?_
  refine W.regS (SR.q' (r_as (v := .bool false) rfl) <| SR.nil ?_)
  refine W.seq ?_
  refine W.seq ?_
  refine W.regS (SR.q' (r_mv (v := .slice _ _ _) rfl) <| SR.call ent4 (c_laws_vBig w L ((hL))) rfl ?_)
  rintro e w1 ⟨rfl, hk2⟩
  refine ⟨_, rfl, ?_⟩
  have hz3 := hk2.size
  have hB4 := (Lo.refl w).lo hk2
  refine SR.nil ?_
  refine W.cond_d rfl (fun h5 => ?_) (fun h5 => ?_)
  · refine W.seq ?_
    refine W.regS (SR.q' (r_as (v := .bool true) rfl) <| SR.nil ?_)
    refine W.ret ?_
    refine ret1 rfl (v := .bool _) rfl ?_
    exact ⟨eR rfl, hB4⟩
  · refine W.skip ?_
    refine W.seq ?_
    refine W.regS (SR.q' (r_mv (v := .slice _ _ _) rfl) <| SR.call ent5 (c_spec_DrawReadersOf w1 L (((hL).lo hk2)) (by omega)) rfl ?_)
    rintro e w6 ⟨A8, n9, c10, A12, n13, c14, v17, v18, rfl, hO11, hO15, hd16, hq19, hq20, hk7⟩
    refine ⟨_, rfl, ?_⟩
    have hz21 := hk7.size
    have hB22 := hB4.lo hk7
    have hl23 := hO11.len
    have hl24 := hO11.rd.bound
    have hl25 := hO15.len
    have hl26 := hO15.rd.bound
    refine SR.q' (r_mv (v := .tuple (List.toArray _)) rfl) <| SR.q' (r_ext (v := .agg (List.toArray _)) rfl rfl) <| SR.q' (r_ext (v := .int .i64 _) rfl rfl) <| SR.alloc (l := [.slice none 0 0, .slice none 0 0, .int .i64 0, .int .i64 0, .int .i64 0]) tz27 rfl ?_
    intro g27 w28 hg29 hk30 hs31 hb32
    have hz33 := hk30.size
    have hB34 := hB22.lo hk30
    have hd35 : ¬ A8 = some ⟨g27, 0, none⟩ := fun e' => by have := (hO11).base_le e'; omega
    have hd36 : ¬ A12 = some ⟨g27, 0, none⟩ := fun e' => by have := (hO15).base_le e'; omega
    refine SR.store (o := 0) (vs := [.slice A8 n9 c10, .slice A12 n13 c14, .int .i64 v17.Bought, .int .i64 v17.Dropped, .int .i64 v17.Mended]) agg27.2 rfl rfl rfl rfl (hb32) (Nat.le_of_ble_eq_true rfl) rfl ?_
    intro w37 hk38 hs39 hb40
    have hz41 := hk38.size
    have hB42 := hB34.new hk38 (by omega)
    refine SR.q' (r_as (v := .int .i64 _) rfl) <| SR.nil ?_
    refine W.seq ?_
    have hm43 := ((((hL).lo hk2).lo hk7).lo hk30).kn hk38 (by omega)
    have hm44 := ((hO11).lo hk30).kd hk38 hd35
    have hm45 := ((hO15).lo hk30).kd hk38 hd36
    refine W.regS (SR.q' (r_lda (l := [.slice A8 n9 c10, .slice A12 n13 c14, .int .i64 v17.Bought, .int .i64 v17.Dropped, .int .i64 v17.Mended]) agg27 rfl (fun _ _ hu => (hb40).cell hu) rfl) <| SR.q' (r_mv (v := .int .i64 _) rfl) <| SR.call ent6 (c_impl_ReadersOf w37 v17 (((hm44).rd)) (((hm45).rd)) v18 (by omega)) rfl ?_)
    rintro e w46 ⟨A48, n49, c50, rfl, hO51, hk47⟩
    refine ⟨_, rfl, ?_⟩
    have hz52 := hk47.size
    have hB53 := hB42.lo hk47
    have hl54 := hO51.len
    have hl55 := hO51.rd.bound
    have hq56 := (selif_len _ _ _ _ : (if LibOK v17 ∧ 0 ≤ idxF (hasId v18) v17.Maps then selL (ofM v18) Away.Reader v17.Away else []).length ≤ v17.Away.length)
    refine SR.q' (r_mv (v := .tuple (List.toArray _)) rfl) <| SR.q' (r_ext (v := .slice _ _ _) rfl rfl) <| SR.q' (r_ext (v := .bool _) rfl rfl) <| SR.q' (r_as (v := .slice _ _ _) rfl) <| SR.q' (r_as (v := .bool _) rfl) <| SR.nil ?_
    refine W.seq ?_
    refine W.seq ?_
    refine W.regS (SR.q' (r_lda (l := [.slice A8 n9 c10, .slice A12 n13 c14, .int .i64 v17.Bought, .int .i64 v17.Dropped, .int .i64 v17.Mended]) agg27 rfl (fun _ _ hu => ((hb40).lo hk47).cell hu) rfl) <| SR.q' (r_mv (v := .int .i64 _) rfl) <| SR.call ent7 (c_spec_ReadersOf w46 v17 ((((hm44).lo hk47).rd)) ((((hm45).lo hk47).rd)) v18) rfl ?_)
    rintro e w57 ⟨A59, n60, c61, rfl, hO62, hk58⟩
    refine ⟨_, rfl, ?_⟩
    have hz63 := hk58.size
    have hB64 := hB53.lo hk58
    have hl65 := hO62.len
    have hl66 := hO62.rd.bound
    have hq67 := (selif_len _ _ _ _ : (if LibOK v17 ∧ 0 ≤ idxF (hasId v18) v17.Maps then selL (ofM v18) Away.Reader v17.Away else []).length ≤ v17.Away.length)
    refine SR.q' (r_mv (v := .tuple (List.toArray _)) rfl) <| SR.q' (r_ext (v := .slice _ _ _) rfl rfl) <| SR.q' (r_ext (v := .bool _) rfl rfl) <| SR.q' (r_as (v := .slice _ _ _) rfl) <| SR.q' (r_as (v := .bool _) rfl) <| SR.nil ?_
    refine W.seq ?_
    have hm68 := ((hm43).lo hk47).lo hk58
    have hm69 := ((hb40).lo hk47).lo hk58
    have hm70 := ((hm44).lo hk47).lo hk58
    have hm71 := ((hm45).lo hk47).lo hk58
    refine W.regS (SR.q' (r_mv (v := .bool _) rfl) <| SR.q' (r_mv (v := .bool _) rfl) <| SR.q' (r_neb_s und4 rfl rfl) <| SR.q' (r_mv (v := .bool _) rfl) <| SR.g' rfl (r_mv (v := .slice _ _ _) rfl) <| SR.g' rfl (r_mv (v := .slice _ _ _) rfl) <| SR.gcall rfl ent8 (c_laws_vInts w57 (if LibOK v17 ∧ 0 ≤ idxF (hasId v18) v17.Maps then selL (ofM v18) Away.Reader v17.Away else []) ((((hO51).lo hk58).rd)) (if LibOK v17 ∧ 0 ≤ idxF (hasId v18) v17.Maps then selL (ofM v18) Away.Reader v17.Away else []) (((hO62).rd))) rfl ?_)
    rintro e w72 ⟨rfl, hk73⟩
    refine ⟨_, rfl, ?_⟩
    have hz74 := hk73.size
    have hB75 := hB64.lo hk73
    refine SR.g' rfl (r_not rfl) <| SR.q' (r_pick false rfl (v := .bool _) rfl) <| SR.nil ?_
    refine W.cond_n rfl (fun h76 => ?_) (fun h76 => ?_)
    · refine W.seq ?_
      refine W.regS (SR.q' (r_as (v := .bool false) rfl) <| SR.nil ?_)
      refine W.ret ?_
      refine ret1 rfl (v := .bool _) rfl ?_
      exact ⟨eR (eB (z_c_laws_FnShelves_78 L nL hbdL hleL h5 v17 v18 hq19 hq20 n9 hl23 hl24 n13 hl25 hl26 n49 hl54 hl55 hq56 n60 hl65 hl66 hq67 h76)), hB75⟩
    · refine W.skip ?_
      refine W.seq ?_
      refine W.seq ?_
      have hm79 := ((hO51).lo hk58).lo hk73
      refine W.regS (SR.q' (r_as (v := .int .i64 0) rfl) <| SR.nil ?_)
      refine W.block ?_
      refine W.loop (σ := Nat) (fun g => [(0, .slice AL nL cL), (3, .pointer (pA g27)), (4, .int .i64 v18), (5, .slice A48 n49 c50), (9, .int .i64 (g : Int))]) (fun g w' => (Lo w w') ∧ (SlR w' BL encB 1 AL nL cL L) ∧ (Blk w' g27 27 [.slice A8 n9 c10, .slice A12 n13 c14, .int .i64 v17.Bought, .int .i64 v17.Dropped, .int .i64 v17.Mended]) ∧ (SlO w' w1.heap.size encLMap 3 48 A8 n9 c10 v17.Maps) ∧ (SlO w' w1.heap.size encAway 2 57 A12 n13 c14 v17.Away) ∧ (SlO w' w37.heap.size encI 1 3 A48 n49 c50 (if LibOK v17 ∧ 0 ≤ idxF (hasId v18) v17.Maps then selL (ofM v18) Away.Reader v17.Away else [])) ∧ (g ≤ 20)) (fun g => 60 - g) 0 ?_ ?_ ?_
      · exact ⟨rfl, rfl, rfl, rfl, rfl, trivial⟩
      · exact ⟨hB75, (hm68).lo hk73, (hm69).lo hk73, (hm70).lo hk73, (hm71).lo hk73, hm79, (z_c_laws_FnShelves_80 L nL hbdL hleL h5 v17 v18 hq19 hq20 n9 hl23 hl24 n13 hl25 hl26 n49 hl54 hl55 hq56 n60 hl65 hl66 hq67 h76)⟩
      · rintro k f81 w82 hP84
        obtain ⟨hB83, hm85, hm86, hm87, hm88, hm89, hi90⟩ : (Lo w w82) ∧ (SlR w82 BL encB 1 AL nL cL L) ∧ (Blk w82 g27 27 [.slice A8 n9 c10, .slice A12 n13 c14, .int .i64 v17.Bought, .int .i64 v17.Dropped, .int .i64 v17.Mended]) ∧ (SlO w82 w1.heap.size encLMap 3 48 A8 n9 c10 v17.Maps) ∧ (SlO w82 w1.heap.size encAway 2 57 A12 n13 c14 v17.Away) ∧ (SlO w82 w37.heap.size encI 1 3 A48 n49 c50 (if LibOK v17 ∧ 0 ≤ idxF (hasId v18) v17.Maps then selL (ofM v18) Away.Reader v17.Away else [])) ∧ (k ≤ 20) := hP84
        refine (?_ : W _ _ _ _ _ (act _ (sets f81 [(0, .slice AL nL cL), (3, .pointer (pA g27)), (4, .int .i64 v18), (5, .slice A48 n49 c50), (9, .int .i64 (k : Int))])) _)
        have hzw82 := hB83.size
        have hl91 := hm86.lt
        refine W.seq ?_
        refine W.seq ?_
        refine W.regS (SR.q' (r_mv (v := .int .i64 _) rfl) <| SR.q' (r_mv (v := .slice _ _ _) rfl) <| SR.q' (r_len und30 rfl) <| SR.q' (r_lt rfl rfl) <| SR.nil ?_)
        refine W.cond_d rfl (fun h92 => ?_) (fun h92 => ?_)
        · refine W.skip ?_
          refine W.seq ?_
          refine W.block ?_
          refine W.seq ?_
          refine W.regA (Lo w82) (fun f' w' => ∃ (A101 : Option Addr) (n102 : Nat) (c103 : Nat), At f' [(0, .slice AL nL cL), (3, .pointer (pA g27)), (4, .int .i64 v18), (5, .slice A48 n49 c50), (9, .int .i64 (k : Int)), (10, .slice A101 n102 c103), (11, .bool (decide (LibOK v17 ∧ (1 ≤ (gt (if LibOK v17 ∧ 0 ≤ idxF (hasId v18) v17.Maps then selL (ofM v18) Away.Reader v17.Away else []) k) ∧ (gt (if LibOK v17 ∧ 0 ≤ idxF (hasId v18) v17.Maps then selL (ofM v18) Away.Reader v17.Away else []) k) ≤ 999))))] ∧ (Lo w82 w') ∧ (SlO w' w82.heap.size encI 1 3 A101 n102 c103 (if LibOK v17 ∧ (1 ≤ (gt (if LibOK v17 ∧ 0 ≤ idxF (hasId v18) v17.Maps then selL (ofM v18) Away.Reader v17.Away else []) k) ∧ (gt (if LibOK v17 ∧ 0 ≤ idxF (hasId v18) v17.Maps then selL (ofM v18) Away.Reader v17.Away else []) k) ≤ 999) then selL (atR (gt (if LibOK v17 ∧ 0 ≤ idxF (hasId v18) v17.Maps then selL (ofM v18) Away.Reader v17.Away else []) k)) Away.Map v17.Away else [])) ∧ (∀ b_, A101 = some ⟨b_, 0, none⟩ → ¬ A8 = some ⟨b_, 0, none⟩) ∧ (∀ b_, A101 = some ⟨b_, 0, none⟩ → ¬ A12 = some ⟨b_, 0, none⟩) ∧ (∀ b_, A101 = some ⟨b_, 0, none⟩ → ¬ A48 = some ⟨b_, 0, none⟩) ∧ ((if LibOK v17 ∧ 0 ≤ idxF (hasId v18) v17.Maps then selL (ofM v18) Away.Reader v17.Away else [])[k]? = some (gt (if LibOK v17 ∧ 0 ≤ idxF (hasId v18) v17.Maps then selL (ofM v18) Away.Reader v17.Away else []) k)) ∧ (n102 = ((if LibOK v17 ∧ (1 ≤ (gt (if LibOK v17 ∧ 0 ≤ idxF (hasId v18) v17.Maps then selL (ofM v18) Away.Reader v17.Away else []) k) ∧ (gt (if LibOK v17 ∧ 0 ≤ idxF (hasId v18) v17.Maps then selL (ofM v18) Away.Reader v17.Away else []) k) ≤ 999) then selL (atR (gt (if LibOK v17 ∧ 0 ≤ idxF (hasId v18) v17.Maps then selL (ofM v18) Away.Reader v17.Away else []) k)) Away.Map v17.Away else [])).length) ∧ ((n102 : Int) ≤ 9223372036854775807) ∧ ((if LibOK v17 ∧ (1 ≤ (gt (if LibOK v17 ∧ 0 ≤ idxF (hasId v18) v17.Maps then selL (ofM v18) Away.Reader v17.Away else []) k) ∧ (gt (if LibOK v17 ∧ 0 ≤ idxF (hasId v18) v17.Maps then selL (ofM v18) Away.Reader v17.Away else []) k) ≤ 999) then selL (atR (gt (if LibOK v17 ∧ 0 ≤ idxF (hasId v18) v17.Maps then selL (ofM v18) Away.Reader v17.Away else []) k)) Away.Map v17.Away else []).length ≤ v17.Away.length)) mo ?_ ?_
          · intro w115 hk116
            have hz117 := hk116.size
            have hB118 := hB83.lo hk116
            refine AH.take 0 rfl (by kernel_rfl) trivial (hk116) (fun w' hw' => r_lda (l := [.slice A8 n9 c10, .slice A12 n13 c14, .int .i64 v17.Bought, .int .i64 v17.Dropped, .int .i64 v17.Mended]) agg27 rfl (fun _ _ hu => ((hm86).lo hw').cell hu) rfl) <| AH.take 1 rfl (by kernel_rfl) trivial (hk116) (fun w' hw' => r_mv (v := .slice _ _ _) rfl) <| AH.take 2 rfl (by kernel_rfl) trivial (hk116) (fun w' hw' => r_mv (v := .int .i64 _) rfl) <| ?_
            have hx120 := (((hm89).lo hk116).rd).elem (i := k) (by omega)
            refine AH.take 3 rfl (by kernel_rfl) trivial (hk116) (fun w' hw' => r_ixR tsl30 (((hm89).lo hw').rd) rfl rfl (by omega)) <| AH.take 4 rfl (by kernel_rfl) trivial (hk116) (fun w' hw' => r_ld (v := .int .i64 (gt (if LibOK v17 ∧ 0 ≤ idxF (hasId v18) v17.Maps then selL (ofM v18) Away.Reader v17.Away else []) k)) sca3 rfl ((((hm89).lo hw').rd).cell0 hx120 rfl)) <| AH.br [5] (by kernel_rfl) rfl ⟨Br.mk' rfl trivial ?_, trivial⟩
            refine SR.call ent9 (c_impl_MapsAt w115 v17 ((((hm87).lo hk116).rd)) ((((hm88).lo hk116).rd)) (gt (if LibOK v17 ∧ 0 ≤ idxF (hasId v18) v17.Maps then selL (ofM v18) Away.Reader v17.Away else []) k) (by omega)) rfl ?_
            rintro e w121 ⟨A123, n124, c125, rfl, hO126, hk122⟩
            refine ⟨_, rfl, ?_⟩
            have hz127 := hk122.size
            have hB128 := hB118.lo hk122
            have hS129 := (hk116).lo hk122
            have hl130 := hO126.len
            have hl131 := hO126.rd.bound
            have hq132 := (selif_len _ _ _ _ : (if LibOK v17 ∧ (1 ≤ (gt (if LibOK v17 ∧ 0 ≤ idxF (hasId v18) v17.Maps then selL (ofM v18) Away.Reader v17.Away else []) k) ∧ (gt (if LibOK v17 ∧ 0 ≤ idxF (hasId v18) v17.Maps then selL (ofM v18) Away.Reader v17.Away else []) k) ≤ 999) then selL (atR (gt (if LibOK v17 ∧ 0 ≤ idxF (hasId v18) v17.Maps then selL (ofM v18) Away.Reader v17.Away else []) k)) Away.Map v17.Away else []).length ≤ v17.Away.length)
            refine SR.nil ⟨hS129, _, rfl, ?_⟩
            refine AH.take 6 rfl (by kernel_rfl) trivial (hS129) (fun w' hw' => r_mv (v := .tuple (List.toArray _)) rfl) <| AH.take 7 rfl (by kernel_rfl) trivial (hS129) (fun w' hw' => r_ext (v := .slice _ _ _) rfl rfl) <| AH.take 8 rfl (by kernel_rfl) trivial (hS129) (fun w' hw' => r_ext (v := .bool _) rfl rfl) <| AH.take 9 rfl (by kernel_rfl) trivial (hS129) (fun w' hw' => r_as (v := .slice _ _ _) rfl) <| AH.take 10 rfl (by kernel_rfl) trivial (hS129) (fun w' hw' => r_as (v := .bool _) rfl) <| AH.done (by kernel_rfl) ?_
            exact ⟨A123, n124, c125, ⟨rfl, rfl, rfl, rfl, rfl, rfl, rfl, trivial⟩, hS129, ((hO126).down (by omega)), (fun b_ h h' => by have h1 := (hO126).base_le h; have h2 := ((hm87).lo hk116).base_le h'; omega), (fun b_ h h' => by have h1 := (hO126).base_le h; have h2 := ((hm88).lo hk116).base_le h'; omega), (fun b_ h h' => by have h1 := (hO126).base_le h; have h2 := ((hm89).lo hk116).base_le h'; omega), hx120, hl130, hl131, hq132⟩
          rintro f136 w137 ⟨A101, n102, c103, hat139, hR138, hm111, hd112, hd113, hd114, hx98, hl108, hl109, hq110⟩
          rw [← sets_of_at hat139]
          have hz140 := hR138.size
          have hB141 := hB83.lo hR138
          refine W.seq ?_
          refine W.regJS (fun f' w' => At f' [(0, .slice AL nL cL), (3, .pointer (pA g27)), (4, .int .i64 v18), (5, .slice A48 n49 c50), (9, .int .i64 (k : Int)), (87, .bool (decide ((¬ (LibOK v17 ∧ (1 ≤ (gt (if LibOK v17 ∧ 0 ≤ idxF (hasId v18) v17.Maps then selL (ofM v18) Away.Reader v17.Away else []) k) ∧ (gt (if LibOK v17 ∧ 0 ≤ idxF (hasId v18) v17.Maps then selL (ofM v18) Away.Reader v17.Away else []) k) ≤ 999))) ∨ (¬ (v18 ∈ (if LibOK v17 ∧ (1 ≤ (gt (if LibOK v17 ∧ 0 ≤ idxF (hasId v18) v17.Maps then selL (ofM v18) Away.Reader v17.Away else []) k) ∧ (gt (if LibOK v17 ∧ 0 ≤ idxF (hasId v18) v17.Maps then selL (ofM v18) Away.Reader v17.Away else []) k) ≤ 999) then selL (atR (gt (if LibOK v17 ∧ 0 ≤ idxF (hasId v18) v17.Maps then selL (ofM v18) Away.Reader v17.Away else []) k)) Away.Map v17.Away else []))))))] ∧ Lo w137 w') ?_ ?_
          · refine SR.q' (r_mv (v := .bool _) rfl) <| SR.q' (r_not rfl) <| SR.q' (r_mv (v := .bool _) rfl) <| SR.splitN (fun h142 => ?_) (fun h142 => ?_)
            · refine SR.s' rfl <| SR.s' rfl <| SR.s' rfl <| SR.s' rfl <| SR.q' (r_pick true rfl (v := .bool true) rfl) <| SR.nil ?_
              exact ⟨_, rfl, ⟨⟨rfl, rfl, rfl, rfl, rfl, (eDT ((jmf h142).1 trivial)), trivial⟩, (Lo.refl _)⟩⟩
            · refine SR.g' rfl (r_mv (v := .slice _ _ _) rfl) <| SR.g' rfl (r_mv (v := .int .i64 _) rfl) <| SR.gcall rfl ent10 (c_laws_vHas w137 (if LibOK v17 ∧ (1 ≤ (gt (if LibOK v17 ∧ 0 ≤ idxF (hasId v18) v17.Maps then selL (ofM v18) Away.Reader v17.Away else []) k) ∧ (gt (if LibOK v17 ∧ 0 ≤ idxF (hasId v18) v17.Maps then selL (ofM v18) Away.Reader v17.Away else []) k) ≤ 999) then selL (atR (gt (if LibOK v17 ∧ 0 ≤ idxF (hasId v18) v17.Maps then selL (ofM v18) Away.Reader v17.Away else []) k)) Away.Map v17.Away else []) (((hm111).rd)) v18) rfl ?_
              rintro e w143 ⟨rfl, hk144⟩
              refine ⟨_, rfl, ?_⟩
              have hz145 := hk144.size
              have hB146 := hB141.lo hk144
              refine SR.g' rfl (r_not rfl) <| SR.q' (r_pick false rfl (v := .bool _) rfl) <| SR.nil ?_
              exact ⟨_, rfl, ⟨⟨rfl, rfl, rfl, rfl, rfl, (eND (jmt h142)), trivial⟩, (hk144)⟩⟩
          rintro f147 w148 ⟨hat149, hk150⟩
          rw [← sets_of_at hat149]
          have hz151 := hk150.size
          have hB152 := hB141.lo hk150
          refine W.cond_d rfl (fun h153 => ?_) (fun h153 => ?_)
          · refine W.seq ?_
            refine W.regS (SR.q' (r_as (v := .bool false) rfl) <| SR.nil ?_)
            refine W.ret ?_
            refine ret1 rfl (v := .bool _) rfl ?_
            exact ⟨eR (eB (z_c_laws_FnShelves_159 L nL hbdL hleL h5 v17 v18 hq19 hq20 n9 hl23 hl24 n13 hl25 hl26 n49 hl54 hl55 hq56 n60 hl65 hl66 hq67 h76 k hi90 h92 n102 hx98 hl108 hl109 hq110 h153)), hB152⟩
          · have hq160 : LibOK v17 ∧ (1 ≤ (gt (if LibOK v17 ∧ 0 ≤ idxF (hasId v18) v17.Maps then selL (ofM v18) Away.Reader v17.Away else []) k) ∧ (gt (if LibOK v17 ∧ 0 ≤ idxF (hasId v18) v17.Maps then selL (ofM v18) Away.Reader v17.Away else []) k) ≤ 999) := (Classical.not_not.1 (not_or.1 h153).1)
            have hq161 : v18 ∈ (if LibOK v17 ∧ (1 ≤ (gt (if LibOK v17 ∧ 0 ≤ idxF (hasId v18) v17.Maps then selL (ofM v18) Away.Reader v17.Away else []) k) ∧ (gt (if LibOK v17 ∧ 0 ≤ idxF (hasId v18) v17.Maps then selL (ofM v18) Away.Reader v17.Away else []) k) ≤ 999) then selL (atR (gt (if LibOK v17 ∧ 0 ≤ idxF (hasId v18) v17.Maps then selL (ofM v18) Away.Reader v17.Away else []) k)) Away.Map v17.Away else []) := (Classical.not_not.1 (not_or.1 h153).2)
            refine W.skip ?_
            have hm162 := ((hm85).lo hR138).lo hk150
            have hm163 := ((hm86).lo hR138).lo hk150
            have hm164 := ((hm87).lo hR138).lo hk150
            have hm165 := ((hm88).lo hR138).lo hk150
            have hm166 := ((hm89).lo hR138).lo hk150
            refine W.regS (SR.q' (r_mv (v := .int .i64 _) rfl) <| SR.q' (r_add rfl rfl (by omega)) <| SR.q' (r_as (v := .int .i64 _) rfl) <| SR.nil ?_)
            refine ⟨k + 1, _, rfl, ⟨rfl, rfl, rfl, rfl, rfl, trivial⟩, ⟨hB152, hm162, hm163, hm164, hm165, hm166, ?_⟩, ?_⟩
            · exact (z_c_laws_FnShelves_167 L nL hbdL hleL h5 v17 v18 hq19 hq20 n9 hl23 hl24 n13 hl25 hl26 n49 hl54 hl55 hq56 n60 hl65 hl66 hq67 h76 k hi90 h92 n102 hx98 hl108 hl109 hq110 h153 hq160 hq161)
            · exact (z_c_laws_FnShelves_168 L nL hbdL hleL h5 v17 v18 hq19 hq20 n9 hl23 hl24 n13 hl25 hl26 n49 hl54 hl55 hq56 n60 hl65 hl66 hq67 h76 k hi90 h92 n102 hx98 hl108 hl109 hq110 h153 hq160 hq161)
        · refine W.exit (xin_here ?_)
          refine W.seq ?_
          refine W.regS (SR.q' (r_mv (v := .slice _ _ _) rfl) <| SR.call ent11 (c_spec_DrawTornCopies w82 L ((hm85)) (by omega)) rfl ?_)
          rintro e w169 ⟨A171, n172, c173, A175, n176, c177, v180, rfl, hO174, hO178, hd179, hq181, hq182, hk170⟩
          refine ⟨_, rfl, ?_⟩
          have hz183 := hk170.size
          have hB184 := hB83.lo hk170
          have hl185 := hO174.len
          have hl186 := hO174.rd.bound
          have hl187 := hO178.len
          have hl188 := hO178.rd.bound
          refine SR.alloc (l := [.slice none 0 0, .slice none 0 0, .int .i64 0, .int .i64 0, .int .i64 0]) tz27 rfl ?_
          intro g189 w190 hg191 hk192 hs193 hb194
          have hz195 := hk192.size
          have hB196 := hB184.lo hk192
          have hd200 : ¬ A171 = some ⟨g189, 0, none⟩ := fun e' => by have := (hO174).base_le e'; omega
          have hd201 : ¬ A175 = some ⟨g189, 0, none⟩ := fun e' => by have := (hO178).base_le e'; omega
          refine SR.store (o := 0) (vs := [.slice A171 n172 c173, .slice A175 n176 c177, .int .i64 v180.Bought, .int .i64 v180.Dropped, .int .i64 v180.Mended]) agg27.2 rfl rfl rfl rfl (hb194) (Nat.le_of_ble_eq_true rfl) rfl ?_
          intro w202 hk203 hs204 hb205
          have hz206 := hk203.size
          have hB207 := hB196.new hk203 (by omega)
          refine SR.nil ?_
          refine W.seq ?_
          have hm208 := (((hm85).lo hk170).lo hk192).kn hk203 (by omega)
          have hm209 := ((hO174).lo hk192).kd hk203 hd200
          have hm210 := ((hO178).lo hk192).kd hk203 hd201
          refine W.regS (SR.q' (r_lda (l := [.slice A171 n172 c173, .slice A175 n176 c177, .int .i64 v180.Bought, .int .i64 v180.Dropped, .int .i64 v180.Mended]) agg27 rfl (fun _ _ hu => (hb205).cell hu) rfl) <| SR.call ent12 (c_impl_TornCopies w202 v180 (((hm209).rd)) (((hm210).rd)) (by omega)) rfl ?_)
          rintro e w211 ⟨rfl, hk212⟩
          refine ⟨_, rfl, ?_⟩
          have hz213 := hk212.size
          have hB214 := hB207.lo hk212
          refine SR.q' (r_mv (v := .tuple (List.toArray _)) rfl) <| SR.q' (r_ext (v := .int .i64 _) rfl rfl) <| SR.q' (r_ext (v := .bool _) rfl rfl) <| SR.q' (r_as (v := .int .i64 _) rfl) <| SR.q' (r_as (v := .bool _) rfl) <| SR.nil ?_
          refine W.seq ?_
          refine W.seq ?_
          refine W.regS (SR.q' (r_lda (l := [.slice A171 n172 c173, .slice A175 n176 c177, .int .i64 v180.Bought, .int .i64 v180.Dropped, .int .i64 v180.Mended]) agg27 rfl (fun _ _ hu => ((hb205).lo hk212).cell hu) rfl) <| SR.call ent13 (c_spec_TornCopies w211 v180 ((((hm209).lo hk212).rd)) ((((hm210).lo hk212).rd))) rfl ?_)
          rintro e w215 ⟨rfl, hk216⟩
          refine ⟨_, rfl, ?_⟩
          have hz217 := hk216.size
          have hB218 := hB214.lo hk216
          refine SR.q' (r_mv (v := .tuple (List.toArray _)) rfl) <| SR.q' (r_ext (v := .int .i64 _) rfl rfl) <| SR.q' (r_ext (v := .bool _) rfl rfl) <| SR.q' (r_as (v := .int .i64 _) rfl) <| SR.q' (r_as (v := .bool _) rfl) <| SR.nil ?_
          refine W.seq ?_
          have hm219 := ((hm208).lo hk212).lo hk216
          have hm220 := ((hb205).lo hk212).lo hk216
          have hm221 := ((hm209).lo hk212).lo hk216
          have hm222 := ((hm210).lo hk212).lo hk216
          refine W.regS (SR.q' (r_mv (v := .int .i64 _) rfl) <| SR.q' (r_mv (v := .int .i64 _) rfl) <| SR.q' (r_ne_s rfl rfl) <| SR.q' (r_mv (v := .bool _) rfl) <| SR.g' rfl (r_mv (v := .bool _) rfl) <| SR.g' rfl (r_mv (v := .bool _) rfl) <| SR.g' rfl (r_neb_s und4 rfl rfl) <| SR.q' (r_pick false rfl (v := .bool _) rfl) <| SR.nil ?_)
          refine W.cond_f rfl ?_
          refine W.skip ?_
          refine W.seq ?_
          refine W.regS (SR.q' (r_lda (l := [.slice A171 n172 c173, .slice A175 n176 c177, .int .i64 v180.Bought, .int .i64 v180.Dropped, .int .i64 v180.Mended]) agg27 rfl (fun _ _ hu => (hm220).cell hu) rfl) <| SR.call ent14 (c_impl_CopiesThere w215 v180 (((hm221).rd)) (((hm222).rd)) (by omega)) rfl ?_)
          rintro e w223 ⟨rfl, hk224⟩
          refine ⟨_, rfl, ?_⟩
          have hz225 := hk224.size
          have hB226 := hB218.lo hk224
          refine SR.q' (r_mv (v := .tuple (List.toArray _)) rfl) <| SR.q' (r_ext (v := .int .i64 _) rfl rfl) <| SR.q' (r_ext (v := .bool _) rfl rfl) <| SR.q' (r_as (v := .int .i64 _) rfl) <| SR.q' (r_as (v := .bool _) rfl) <| SR.nil ?_
          refine W.seq ?_
          refine W.seq ?_
          refine W.regS (SR.q' (r_lda (l := [.slice A171 n172 c173, .slice A175 n176 c177, .int .i64 v180.Bought, .int .i64 v180.Dropped, .int .i64 v180.Mended]) agg27 rfl (fun _ _ hu => ((hm220).lo hk224).cell hu) rfl) <| SR.call ent15 (c_spec_CopiesThere w223 v180 ((((hm221).lo hk224).rd)) ((((hm222).lo hk224).rd)) (by omega)) rfl ?_)
          rintro e w227 ⟨rfl, hk228⟩
          refine ⟨_, rfl, ?_⟩
          have hz229 := hk228.size
          have hB230 := hB226.lo hk228
          refine SR.q' (r_mv (v := .tuple (List.toArray _)) rfl) <| SR.q' (r_ext (v := .int .i64 _) rfl rfl) <| SR.q' (r_ext (v := .bool _) rfl rfl) <| SR.q' (r_as (v := .int .i64 _) rfl) <| SR.q' (r_as (v := .bool _) rfl) <| SR.nil ?_
          refine W.seq ?_
          have hm231 := ((hm219).lo hk224).lo hk228
          have hm232 := ((hm220).lo hk224).lo hk228
          have hm233 := ((hm221).lo hk224).lo hk228
          have hm234 := ((hm222).lo hk224).lo hk228
          refine W.regS (SR.q' (r_mv (v := .int .i64 _) rfl) <| SR.q' (r_mv (v := .int .i64 _) rfl) <| SR.q' (r_ne_s rfl rfl) <| SR.q' (r_mv (v := .bool _) rfl) <| SR.g' rfl (r_mv (v := .bool _) rfl) <| SR.g' rfl (r_mv (v := .bool _) rfl) <| SR.g' rfl (r_neb_s und4 rfl rfl) <| SR.q' (r_pick false rfl (v := .bool _) rfl) <| SR.q' (r_mv (v := .bool _) rfl) <| SR.g' rfl (r_mv (v := .bool _) rfl) <| SR.g' rfl (r_mv (v := .bool _) rfl) <| SR.g' rfl (r_neb_s und4 rfl rfl) <| SR.q' (r_pick false rfl (v := .bool _) rfl) <| SR.q' (r_mv (v := .bool _) rfl) <| SR.g' rfl (r_mv (v := .int .i64 _) rfl) <| SR.g' rfl (r_mv (v := .int .i64 _) rfl) <| SR.g' rfl (r_gt rfl rfl) <| SR.q' (r_pick false rfl (v := .bool _) rfl) <| SR.nil ?_)
          refine W.cond_d rfl (fun h235 => ?_) (fun h235 => ?_)
          · refine W.seq ?_
            refine W.regS (SR.q' (r_as (v := .bool false) rfl) <| SR.nil ?_)
            refine W.ret ?_
            refine ret1 rfl (v := .bool _) rfl ?_
            exact ⟨eR (eB (z_c_laws_FnShelves_236 L nL hbdL hleL h5 v17 v18 hq19 hq20 n9 hl23 hl24 n13 hl25 hl26 n49 hl54 hl55 hq56 n60 hl65 hl66 hq67 h76 k hi90 h92 v180 hq181 hq182 n172 hl185 hl186 n176 hl187 hl188 h235)), hB230⟩
          · refine W.skip ?_
            refine W.seq ?_
            refine W.regS (SR.q' (r_lda (l := [.slice A171 n172 c173, .slice A175 n176 c177, .int .i64 v180.Bought, .int .i64 v180.Dropped, .int .i64 v180.Mended]) agg27 rfl (fun _ _ hu => (hm232).cell hu) rfl) <| SR.call ent16 (c_impl_MayLend w227 v180 (((hm233).rd)) (((hm234).rd)) (by omega)) rfl ?_)
            rintro e w237 ⟨A239, n240, c241, rfl, hO242, hk238⟩
            refine ⟨_, rfl, ?_⟩
            have hz243 := hk238.size
            have hB244 := hB230.lo hk238
            have hl245 := hO242.len
            have hl246 := hO242.rd.bound
            have hq247 := (selif_len _ _ _ _ : (if LibOK v180 then selL mayM LMap.Id v180.Maps else []).length ≤ v180.Maps.length)
            refine SR.q' (r_mv (v := .tuple (List.toArray _)) rfl) <| SR.q' (r_ext (v := .slice _ _ _) rfl rfl) <| SR.q' (r_ext (v := .bool _) rfl rfl) <| SR.q' (r_as (v := .slice _ _ _) rfl) <| SR.q' (r_as (v := .bool _) rfl) <| SR.nil ?_
            refine W.seq ?_
            refine W.seq ?_
            refine W.regS (SR.q' (r_lda (l := [.slice A171 n172 c173, .slice A175 n176 c177, .int .i64 v180.Bought, .int .i64 v180.Dropped, .int .i64 v180.Mended]) agg27 rfl (fun _ _ hu => ((hm232).lo hk238).cell hu) rfl) <| SR.call ent17 (c_spec_MayLend w237 v180 ((((hm233).lo hk238).rd)) ((((hm234).lo hk238).rd)) (by omega)) rfl ?_)
            rintro e w248 ⟨A250, n251, c252, rfl, hO253, hk249⟩
            refine ⟨_, rfl, ?_⟩
            have hz254 := hk249.size
            have hB255 := hB244.lo hk249
            have hl256 := hO253.len
            have hl257 := hO253.rd.bound
            have hq258 := (selif_len _ _ _ _ : (if LibOK v180 then selL mayM LMap.Id v180.Maps else []).length ≤ v180.Maps.length)
            refine SR.q' (r_mv (v := .tuple (List.toArray _)) rfl) <| SR.q' (r_ext (v := .slice _ _ _) rfl rfl) <| SR.q' (r_ext (v := .bool _) rfl rfl) <| SR.q' (r_as (v := .slice _ _ _) rfl) <| SR.q' (r_as (v := .bool _) rfl) <| SR.nil ?_
            refine W.seq ?_
            have hm259 := ((hm231).lo hk238).lo hk249
            refine W.regJS (fun f' w' => At f' [(0, .slice AL nL cL), (166, .bool (decide ((¬ ((if LibOK v180 then selL mayM LMap.Id v180.Maps else []) = (if LibOK v180 then selL mayM LMap.Id v180.Maps else []))) ∨ ((LibOK v180) ∧ ((!((decide (0 < (n240 : Int))) == (decide ((if LibOK v180 then sumT v180.Maps else 0) < (if LibOK v180 then sumC v180.Maps else 0))))) = true)))))] ∧ Lo w248 w') ?_ ?_
            · refine SR.q' (r_mv (v := .bool _) rfl) <| SR.q' (r_mv (v := .bool _) rfl) <| SR.q' (r_neb_s und4 rfl rfl) <| SR.q' (r_mv (v := .bool _) rfl) <| SR.g' rfl (r_mv (v := .slice _ _ _) rfl) <| SR.g' rfl (r_mv (v := .slice _ _ _) rfl) <| SR.gcall rfl ent8 (c_laws_vInts w248 (if LibOK v180 then selL mayM LMap.Id v180.Maps else []) ((((hO242).lo hk249).rd)) (if LibOK v180 then selL mayM LMap.Id v180.Maps else []) (((hO253).rd))) rfl ?_
              rintro e w260 ⟨rfl, hk261⟩
              refine ⟨_, rfl, ?_⟩
              have hz262 := hk261.size
              have hB263 := hB255.lo hk261
              refine SR.g' rfl (r_not rfl) <| SR.q' (r_pick false rfl (v := .bool _) rfl) <| SR.q' (r_mv (v := .bool _) rfl) <| SR.splitN (fun h264 => ?_) (fun h264 => ?_)
              · refine SR.s' rfl <| SR.s' rfl <| SR.u' rfl <| SR.u' rfl <| SR.u' rfl <| SR.u' rfl <| SR.u' rfl <| SR.u' rfl <| SR.u' rfl <| SR.s' rfl <| SR.q' (r_pick true rfl (v := .bool true) rfl) <| SR.nil ?_
                exact ⟨_, rfl, ⟨⟨rfl, (eDT ((jmf h264).1 trivial)), trivial⟩, (hk261)⟩⟩
              · refine SR.g' rfl (r_mv (v := .bool _) rfl) <| SR.g' rfl (r_mv (v := .bool _) rfl) <| SR.splitD (fun h265 => ?_) (fun h265 => ?_)
                · have hq266 := And.left h265
                  have hq267 := lib_len h265
                  have hq268 := And.left hq266
                  have hq269 := And.right hq266
                  refine SR.g' rfl (r_mv (v := .slice _ _ _) rfl) <| SR.g' rfl (r_len und30 rfl) <| SR.g' rfl (r_gt rfl rfl) <| SR.g' rfl (r_mv (v := .int .i64 _) rfl) <| SR.g' rfl (r_mv (v := .int .i64 _) rfl) <| SR.g' rfl (r_lt rfl rfl) <| SR.g' rfl (r_neb und4 rfl rfl) <| SR.g' rfl (r_pick true rfl (v := .bool _) rfl) <| SR.q' (r_pick false rfl (v := .bool _) rfl) <| SR.nil ?_
                  exact ⟨_, rfl, ⟨⟨rfl, (eBD ((jat h265).trans (jmt h264))), trivial⟩, (hk261)⟩⟩
                · refine SR.s' rfl <| SR.s' rfl <| SR.s' rfl <| SR.s' rfl <| SR.s' rfl <| SR.s' rfl <| SR.s' rfl <| SR.g' rfl (r_pick false rfl (v := .bool false) rfl) <| SR.q' (r_pick false rfl (v := .bool _) rfl) <| SR.nil ?_
                  exact ⟨_, rfl, ⟨⟨rfl, (eDF ((jaf h265).trans (jmt h264)).2), trivial⟩, (hk261)⟩⟩
            rintro f270 w271 ⟨hat272, hk273⟩
            rw [← sets_of_at hat272]
            have hz274 := hk273.size
            have hB275 := hB255.lo hk273
            refine W.cond_d rfl (fun h276 => ?_) (fun h276 => ?_)
            · refine W.seq ?_
              refine W.regS (SR.q' (r_as (v := .bool false) rfl) <| SR.nil ?_)
              refine W.ret ?_
              refine ret1 rfl (v := .bool _) rfl ?_
              exact ⟨eR (eB (z_c_laws_FnShelves_277 L nL hbdL hleL h5 v17 v18 hq19 hq20 n9 hl23 hl24 n13 hl25 hl26 n49 hl54 hl55 hq56 n60 hl65 hl66 hq67 h76 k hi90 h92 v180 hq181 hq182 n172 hl185 hl186 n176 hl187 hl188 h235 n240 hl245 hl246 hq247 n251 hl256 hl257 hq258 h276)), hB275⟩
            · have hq278 : (if LibOK v180 then selL mayM LMap.Id v180.Maps else []) = (if LibOK v180 then selL mayM LMap.Id v180.Maps else []) := (Classical.not_not.1 (not_or.1 h276).1)
              have hq279 : ¬ ((LibOK v180) ∧ ((!((decide (0 < (n240 : Int))) == (decide ((if LibOK v180 then sumT v180.Maps else 0) < (if LibOK v180 then sumC v180.Maps else 0))))) = true)) := (not_or.1 h276).2
              refine W.skip ?_
              refine W.seq ?_
              refine W.regS (SR.q' (r_mv (v := .slice _ _ _) rfl) <| SR.call ent18 (c_spec_DrawMapsAt w271 L (((hm259).lo hk273)) (by omega)) rfl ?_)
              rintro e w280 ⟨A282, n283, c284, A286, n287, c288, v291, v292, rfl, hO285, hO289, hd290, hq293, hq294, hk281⟩
              refine ⟨_, rfl, ?_⟩
              have hz295 := hk281.size
              have hB296 := hB275.lo hk281
              have hl297 := hO285.len
              have hl298 := hO285.rd.bound
              have hl299 := hO289.len
              have hl300 := hO289.rd.bound
              refine SR.q' (r_mv (v := .tuple (List.toArray _)) rfl) <| SR.q' (r_ext (v := .agg (List.toArray _)) rfl rfl) <| SR.q' (r_ext (v := .int .i64 _) rfl rfl) <| SR.alloc (l := [.slice none 0 0, .slice none 0 0, .int .i64 0, .int .i64 0, .int .i64 0]) tz27 rfl ?_
              intro g301 w302 hg303 hk304 hs305 hb306
              have hz307 := hk304.size
              have hB308 := hB296.lo hk304
              have hd316 : ¬ A282 = some ⟨g301, 0, none⟩ := fun e' => by have := (hO285).base_le e'; omega
              have hd317 : ¬ A286 = some ⟨g301, 0, none⟩ := fun e' => by have := (hO289).base_le e'; omega
              refine SR.store (o := 0) (vs := [.slice A282 n283 c284, .slice A286 n287 c288, .int .i64 v291.Bought, .int .i64 v291.Dropped, .int .i64 v291.Mended]) agg27.2 rfl rfl rfl rfl (hb306) (Nat.le_of_ble_eq_true rfl) rfl ?_
              intro w318 hk319 hs320 hb321
              have hz322 := hk319.size
              have hB323 := hB308.new hk319 (by omega)
              refine SR.q' (r_as (v := .int .i64 _) rfl) <| SR.nil ?_
              refine W.seq ?_
              have hm324 := ((((hm259).lo hk273).lo hk281).lo hk304).kn hk319 (by omega)
              have hm325 := ((hO285).lo hk304).kd hk319 hd316
              have hm326 := ((hO289).lo hk304).kd hk319 hd317
              refine W.regS (SR.q' (r_lda (l := [.slice A282 n283 c284, .slice A286 n287 c288, .int .i64 v291.Bought, .int .i64 v291.Dropped, .int .i64 v291.Mended]) agg27 rfl (fun _ _ hu => (hb321).cell hu) rfl) <| SR.q' (r_mv (v := .int .i64 _) rfl) <| SR.call ent9 (c_impl_MapsAt w318 v291 (((hm325).rd)) (((hm326).rd)) v292 (by omega)) rfl ?_)
              rintro e w327 ⟨A329, n330, c331, rfl, hO332, hk328⟩
              refine ⟨_, rfl, ?_⟩
              have hz333 := hk328.size
              have hB334 := hB323.lo hk328
              have hl335 := hO332.len
              have hl336 := hO332.rd.bound
              have hq337 := (selif_len _ _ _ _ : (if LibOK v291 ∧ (1 ≤ v292 ∧ v292 ≤ 999) then selL (atR v292) Away.Map v291.Away else []).length ≤ v291.Away.length)
              refine SR.q' (r_mv (v := .tuple (List.toArray _)) rfl) <| SR.q' (r_ext (v := .slice _ _ _) rfl rfl) <| SR.q' (r_ext (v := .bool _) rfl rfl) <| SR.q' (r_as (v := .slice _ _ _) rfl) <| SR.q' (r_as (v := .bool _) rfl) <| SR.nil ?_
              refine W.seq ?_
              refine W.seq ?_
              refine W.regS (SR.q' (r_lda (l := [.slice A282 n283 c284, .slice A286 n287 c288, .int .i64 v291.Bought, .int .i64 v291.Dropped, .int .i64 v291.Mended]) agg27 rfl (fun _ _ hu => ((hb321).lo hk328).cell hu) rfl) <| SR.q' (r_mv (v := .int .i64 _) rfl) <| SR.call ent19 (c_spec_MapsAt w327 v291 ((((hm325).lo hk328).rd)) ((((hm326).lo hk328).rd)) v292 (by omega)) rfl ?_)
              rintro e w338 ⟨A340, n341, c342, rfl, hO343, hk339⟩
              refine ⟨_, rfl, ?_⟩
              have hz344 := hk339.size
              have hB345 := hB334.lo hk339
              have hl346 := hO343.len
              have hl347 := hO343.rd.bound
              have hq348 := (selif_len _ _ _ _ : (if LibOK v291 ∧ (1 ≤ v292 ∧ v292 ≤ 999) then selL (atR v292) Away.Map v291.Away else []).length ≤ v291.Away.length)
              refine SR.q' (r_mv (v := .tuple (List.toArray _)) rfl) <| SR.q' (r_ext (v := .slice _ _ _) rfl rfl) <| SR.q' (r_ext (v := .bool _) rfl rfl) <| SR.q' (r_as (v := .slice _ _ _) rfl) <| SR.q' (r_as (v := .bool _) rfl) <| SR.nil ?_
              refine W.seq ?_
              have hm349 := ((hm324).lo hk328).lo hk339
              refine W.regS (SR.q' (r_mv (v := .bool _) rfl) <| SR.q' (r_mv (v := .bool _) rfl) <| SR.q' (r_neb_s und4 rfl rfl) <| SR.q' (r_mv (v := .bool _) rfl) <| SR.g' rfl (r_mv (v := .slice _ _ _) rfl) <| SR.g' rfl (r_mv (v := .slice _ _ _) rfl) <| SR.gcall rfl ent8 (c_laws_vInts w338 (if LibOK v291 ∧ (1 ≤ v292 ∧ v292 ≤ 999) then selL (atR v292) Away.Map v291.Away else []) ((((hO332).lo hk339).rd)) (if LibOK v291 ∧ (1 ≤ v292 ∧ v292 ≤ 999) then selL (atR v292) Away.Map v291.Away else []) (((hO343).rd))) rfl ?_)
              rintro e w350 ⟨rfl, hk351⟩
              refine ⟨_, rfl, ?_⟩
              have hz352 := hk351.size
              have hB353 := hB345.lo hk351
              refine SR.g' rfl (r_not rfl) <| SR.q' (r_pick false rfl (v := .bool _) rfl) <| SR.nil ?_
              refine W.cond_n rfl (fun h354 => ?_) (fun h354 => ?_)
              · refine W.seq ?_
                refine W.regS (SR.q' (r_as (v := .bool false) rfl) <| SR.nil ?_)
                refine W.ret ?_
                refine ret1 rfl (v := .bool _) rfl ?_
                exact ⟨eR (eB (z_c_laws_FnShelves_355 L nL hbdL hleL h5 v17 v18 hq19 hq20 n9 hl23 hl24 n13 hl25 hl26 n49 hl54 hl55 hq56 n60 hl65 hl66 hq67 h76 k hi90 h92 v180 hq181 hq182 n172 hl185 hl186 n176 hl187 hl188 h235 n240 hl245 hl246 hq247 n251 hl256 hl257 hq258 h276 hq278 hq279 v291 v292 hq293 hq294 n283 hl297 hl298 n287 hl299 hl300 n330 hl335 hl336 hq337 n341 hl346 hl347 hq348 h354)), hB353⟩
              · refine W.skip ?_
                refine W.seq ?_
                refine W.regS (SR.q' (r_mv (v := .slice _ _ _) rfl) <| SR.call ent20 (c_spec_DrawMapText w350 L (((hm349).lo hk351)) (by omega)) rfl ?_)
                rintro e w356 ⟨A358, n359, c360, A362, n363, c364, v367, v368, rfl, hO361, hO365, hd366, hq369, hq370, hk357⟩
                refine ⟨_, rfl, ?_⟩
                have hz371 := hk357.size
                have hB372 := hB353.lo hk357
                have hl373 := hO361.len
                have hl374 := hO361.rd.bound
                have hl375 := hO365.len
                have hl376 := hO365.rd.bound
                refine SR.q' (r_mv (v := .tuple (List.toArray _)) rfl) <| SR.q' (r_ext (v := .agg (List.toArray _)) rfl rfl) <| SR.q' (r_ext (v := .int .i64 _) rfl rfl) <| SR.alloc (l := [.slice none 0 0, .slice none 0 0, .int .i64 0, .int .i64 0, .int .i64 0]) tz27 rfl ?_
                intro g377 w378 hg379 hk380 hs381 hb382
                have hz383 := hk380.size
                have hB384 := hB372.lo hk380
                have hd396 : ¬ A358 = some ⟨g377, 0, none⟩ := fun e' => by have := (hO361).base_le e'; omega
                have hd397 : ¬ A362 = some ⟨g377, 0, none⟩ := fun e' => by have := (hO365).base_le e'; omega
                refine SR.store (o := 0) (vs := [.slice A358 n359 c360, .slice A362 n363 c364, .int .i64 v367.Bought, .int .i64 v367.Dropped, .int .i64 v367.Mended]) agg27.2 rfl rfl rfl rfl (hb382) (Nat.le_of_ble_eq_true rfl) rfl ?_
                intro w398 hk399 hs400 hb401
                have hz402 := hk399.size
                have hB403 := hB384.new hk399 (by omega)
                refine SR.q' (r_as (v := .int .i64 _) rfl) <| SR.nil ?_
                refine W.seq ?_
                have hm404 := ((hO361).lo hk380).kd hk399 hd396
                have hm405 := ((hO365).lo hk380).kd hk399 hd397
                refine W.regS (SR.q' (r_lda (l := [.slice A358 n359 c360, .slice A362 n363 c364, .int .i64 v367.Bought, .int .i64 v367.Dropped, .int .i64 v367.Mended]) agg27 rfl (fun _ _ hu => (hb401).cell hu) rfl) <| SR.q' (r_mv (v := .int .i64 _) rfl) <| SR.call ent21 (c_impl_MapText w398 v367 (((hm404).rd)) (((hm405).rd)) v368 (by omega) (hE.lo (hB403))) rfl ?_)
                rintro e w406 ⟨rfl, hk407⟩
                refine ⟨_, rfl, ?_⟩
                have hz408 := hk407.size
                have hB409 := hB403.lo hk407
                have hq410 : (mapT v367 v368).1.length ≤ 75 := mapT_len v367 v368
                refine SR.q' (r_mv (v := .tuple (List.toArray _)) rfl) <| SR.q' (r_ext (v := str _) rfl rfl) <| SR.q' (r_ext (v := .bool _) rfl rfl) <| SR.q' (r_as (v := str _) rfl) <| SR.q' (r_as (v := .bool _) rfl) <| SR.nil ?_
                refine W.seq ?_
                refine W.regS (SR.q' (r_lda (l := [.slice A358 n359 c360, .slice A362 n363 c364, .int .i64 v367.Bought, .int .i64 v367.Dropped, .int .i64 v367.Mended]) agg27 rfl (fun _ _ hu => ((hb401).lo hk407).cell hu) rfl) <| SR.q' (r_mv (v := .int .i64 _) rfl) <| SR.call ent22 (c_spec_MapText w406 v367 ((((hm404).lo hk407).rd)) ((((hm405).lo hk407).rd)) v368) rfl ?_)
                rintro e w411 ⟨rfl, hk412⟩
                refine ⟨_, rfl, ?_⟩
                have hz413 := hk412.size
                have hB414 := hB409.lo hk412
                have hq415 : (mapT v367 v368).1.length ≤ 75 := mapT_len v367 v368
                refine SR.q' (r_mv (v := .tuple (List.toArray _)) rfl) <| SR.q' (r_ext (v := str _) rfl rfl) <| SR.q' (r_ext (v := .bool _) rfl rfl) <| SR.q' (r_as (v := str _) rfl) <| SR.q' (r_as (v := .bool _) rfl) <| SR.nil ?_
                refine W.seq ?_
                refine W.regS (SR.q' (r_mv (v := str _) rfl) <| SR.q' (r_mv (v := str _) rfl) <| SR.q' (r_eqs_s (s := (mapT v367 v368).1) rfl rfl) <| SR.q' (r_mv (v := .bool _) rfl) <| SR.g' rfl (r_mv (v := .bool _) rfl) <| SR.g' rfl (r_mv (v := .bool _) rfl) <| SR.g' rfl (r_eqb_s und4 rfl rfl) <| SR.q' (r_pick true rfl (v := .bool _) rfl) <| SR.q' (r_as (v := .bool _) rfl) <| SR.nil ?_)
                refine W.ret ?_
                refine ret1 rfl (v := .bool _) rfl ?_
                exact ⟨eR rfl, hB414⟩
end Go.Proofs.YtgobbcilgcbkaaaDoor
