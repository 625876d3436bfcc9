/- Walks, printed by a program of this claim's author. -/
import Derived.Test.YtnbbfokkpkphoaaGreatDoorChecked
import Derived.Test.YtnbbfokkpkphoaaGreatDoorLa
import Derived.Test.YtnbbfokkpkphoaaGreatDoorFo
import Derived.Test.YtnbbfokkpkphoaaGreatDoorFs
import Derived.Test.YtnbbfokkpkphoaaGreatDoorFq
import Derived.Test.YtnbbfokkpkphoaaGreatDoorFp
import Derived.Test.YtnbbfokkpkphoaaGreatDoorFu
import Derived.Test.YtnbbfokkpkphoaaGreatDoorFt
import Derived.Test.YtnbbfokkpkphoaaGreatDoorG31w
namespace Go.Proofs.YtnbbfokkpkphoaaGreatDoor
open Go Go.RowKit Fw
set_option maxRecDepth 10000
set_option linter.unusedVariables false
theorem ent10 : Ent Tryz.prog 10 := ent_of Tryz.func10 (by decide +kernel) rfl
theorem ent11 : Ent Tryz.prog 11 := ent_of Tryz.func11 (by decide +kernel) rfl
theorem ent12 : Ent Tryz.prog 12 := ent_of Tryz.func12 (by decide +kernel) rfl
theorem ent13 : Ent Tryz.prog 13 := ent_of Tryz.func13 (by decide +kernel) rfl
theorem ent14 : Ent Tryz.prog 14 := ent_of Tryz.func14 (by decide +kernel) rfl
theorem ent15 : Ent Tryz.prog 15 := ent_of Tryz.func15 (by decide +kernel) rfl
theorem ent16 : Ent Tryz.prog 16 := ent_of Tryz.func16 (by decide +kernel) rfl
theorem ent17 : Ent Tryz.prog 17 := ent_of Tryz.func17 (by decide +kernel) rfl
theorem ent18 : Ent Tryz.prog 18 := ent_of Tryz.func18 (by decide +kernel) rfl
theorem ent19 : Ent Tryz.prog 19 := ent_of Tryz.func19 (by decide +kernel) rfl
theorem ent21 : Ent Tryz.prog 21 := ent_of Tryz.func21 (by decide +kernel) rfl
theorem ent4 : Ent Tryz.prog 4 := ent_of Tryz.func4 (by decide +kernel) rfl
theorem ent5 : Ent Tryz.prog 5 := ent_of Tryz.func5 (by decide +kernel) rfl
theorem ent6 : Ent Tryz.prog 6 := ent_of Tryz.func6 (by decide +kernel) rfl
theorem ent9 : Ent Tryz.prog 9 := ent_of Tryz.func9 (by decide +kernel) rfl
theorem und4 : Tryz.prog.underlying 4 = some (.bool) := by kernel_rfl

theorem z_c_laws_FnLibRows_75 (L : List UInt8) (nL : Nat) (hbdL : (nL : Int) ≤ 9223372036854775807) (hleL : nL = L.length) (h5 : ¬ (65536 < (L.length : Int))) (v8 : LibRow) (hq30 : (if RowOK v8 then lineT v8 else []).length ≤ 300) (hq35 : (if RowOK v8 then lineT v8 else []).length ≤ 300) (h42 : RowOK v8) (h74 : ((!((parN (if RowOK v8 then lineT v8 else [])).2)) = true) ∨ (¬ (((parN (if RowOK v8 then lineT v8 else [])).1) = v8))) : false = true := by
  exfalso; first | exact lr_bad (by assumption) (by assumption) | exact self_no (by assumption) | exact mg_bad1 (by assumption) (by assumption) (by assumption) (by assumption) (by assumption) | exact mg_bad2 (by assumption) (by assumption) (by assumption) | exact mg_bad3 (by assumption) (by assumption)
theorem z_c_laws_FnLibRows_182 (L : List UInt8) (nL : Nat) (hbdL : (nL : Int) ≤ 9223372036854775807) (hleL : nL = L.length) (h5 : ¬ (65536 < (L.length : Int))) (v8 : LibRow) (hq30 : (if RowOK v8 then lineT v8 else []).length ≤ 300) (hq35 : (if RowOK v8 then lineT v8 else []).length ≤ 300) (v87 : List UInt8) (hq88 : v87.length ≤ 400) (v141 : List LibRow) (v142 : List LibRow) (hq143 : v141.length ≤ 60 ∧ v142.length ≤ 60) (n133 : Nat) (hl146 : n133 = (v141).length) (hl147 : (n133 : Int) ≤ 9223372036854775807) (n137 : Nat) (hl148 : n137 = (v142).length) (hl149 : (n137 : Int) ≤ 9223372036854775807) (n153 : Nat) (hl158 : n153 = ((mrg v141 v142).getD []).length) (hl159 : (n153 : Int) ≤ 9223372036854775807) (hq160 : ((mrg v141 v142).getD []).length ≤ 12) (n165 : Nat) (hl170 : n165 = ((mrg v141 v142).getD []).length) (hl171 : (n165 : Int) ≤ 9223372036854775807) (hq172 : ((mrg v141 v142).getD []).length ≤ 12) (h179 : ¬ (((mrg v141 v142).getD []) = ((mrg v141 v142).getD []))) : false = true := by
  exfalso; first | exact lr_bad (by assumption) (by assumption) | exact self_no (by assumption) | exact mg_bad1 (by assumption) (by assumption) (by assumption) (by assumption) (by assumption) | exact mg_bad2 (by assumption) (by assumption) (by assumption) | exact mg_bad3 (by assumption) (by assumption)
theorem z_c_laws_FnLibRows_249 (L : List UInt8) (nL : Nat) (hbdL : (nL : Int) ≤ 9223372036854775807) (hleL : nL = L.length) (h5 : ¬ (65536 < (L.length : Int))) (v8 : LibRow) (hq30 : (if RowOK v8 then lineT v8 else []).length ≤ 300) (hq35 : (if RowOK v8 then lineT v8 else []).length ≤ 300) (v87 : List UInt8) (hq88 : v87.length ≤ 400) (v141 : List LibRow) (v142 : List LibRow) (hq143 : v141.length ≤ 60 ∧ v142.length ≤ 60) (n133 : Nat) (hl146 : n133 = (v141).length) (hl147 : (n133 : Int) ≤ 9223372036854775807) (n137 : Nat) (hl148 : n137 = (v142).length) (hl149 : (n137 : Int) ≤ 9223372036854775807) (n153 : Nat) (hl158 : n153 = ((mrg v141 v142).getD []).length) (hl159 : (n153 : Int) ≤ 9223372036854775807) (hq160 : ((mrg v141 v142).getD []).length ≤ 12) (n165 : Nat) (hl170 : n165 = ((mrg v141 v142).getD []).length) (hl171 : (n165 : Int) ≤ 9223372036854775807) (hq172 : ((mrg v141 v142).getD []).length ≤ 12) (h179 : ((mrg v141 v142).getD []) = ((mrg v141 v142).getD [])) (h185 : ((mrg v141 v142).isSome) = true) (n189 : Nat) (hl194 : n189 = (totL v141).length) (hl195 : (n189 : Int) ≤ 9223372036854775807) (hq196 : (totL v141).length ≤ 4) (hq197 : RowsOK v141 → (totL v141).length = 4) (hq198 : (totL v141).length ≤ 4) (n204 : Nat) (hl209 : n204 = (totL v142).length) (hl210 : (n204 : Int) ≤ 9223372036854775807) (hq211 : (totL v142).length ≤ 4) (hq212 : RowsOK v142 → (totL v142).length = 4) (hq213 : (totL v142).length ≤ 4) (n219 : Nat) (hl224 : n219 = (totL ((mrg v141 v142).getD [])).length) (hl225 : (n219 : Int) ≤ 9223372036854775807) (hq226 : (totL ((mrg v141 v142).getD [])).length ≤ 4) (h245 : (¬ (RowsOK v141)) ∨ ((¬ (RowsOK v142)) ∨ ((¬ (RowsOK ((mrg v141 v142).getD []))) ∨ ((¬ ((n189 : Int) = 4)) ∨ ((¬ ((n204 : Int) = 4)) ∨ (¬ ((n219 : Int) = 4))))))) : false = true := by
  exfalso; first | exact lr_bad (by assumption) (by assumption) | exact self_no (by assumption) | exact mg_bad1 (by assumption) (by assumption) (by assumption) (by assumption) (by assumption) | exact mg_bad2 (by assumption) (by assumption) (by assumption) | exact mg_bad3 (by assumption) (by assumption)
theorem z_c_laws_FnLibRows_263 (L : List UInt8) (nL : Nat) (hbdL : (nL : Int) ≤ 9223372036854775807) (hleL : nL = L.length) (h5 : ¬ (65536 < (L.length : Int))) (v8 : LibRow) (hq30 : (if RowOK v8 then lineT v8 else []).length ≤ 300) (hq35 : (if RowOK v8 then lineT v8 else []).length ≤ 300) (v87 : List UInt8) (hq88 : v87.length ≤ 400) (v141 : List LibRow) (v142 : List LibRow) (hq143 : v141.length ≤ 60 ∧ v142.length ≤ 60) (n133 : Nat) (hl146 : n133 = (v141).length) (hl147 : (n133 : Int) ≤ 9223372036854775807) (n137 : Nat) (hl148 : n137 = (v142).length) (hl149 : (n137 : Int) ≤ 9223372036854775807) (n153 : Nat) (hl158 : n153 = ((mrg v141 v142).getD []).length) (hl159 : (n153 : Int) ≤ 9223372036854775807) (hq160 : ((mrg v141 v142).getD []).length ≤ 12) (n165 : Nat) (hl170 : n165 = ((mrg v141 v142).getD []).length) (hl171 : (n165 : Int) ≤ 9223372036854775807) (hq172 : ((mrg v141 v142).getD []).length ≤ 12) (h179 : ((mrg v141 v142).getD []) = ((mrg v141 v142).getD [])) (h185 : ((mrg v141 v142).isSome) = true) (n189 : Nat) (hl194 : n189 = (totL v141).length) (hl195 : (n189 : Int) ≤ 9223372036854775807) (hq196 : (totL v141).length ≤ 4) (hq197 : RowsOK v141 → (totL v141).length = 4) (hq198 : (totL v141).length ≤ 4) (n204 : Nat) (hl209 : n204 = (totL v142).length) (hl210 : (n204 : Int) ≤ 9223372036854775807) (hq211 : (totL v142).length ≤ 4) (hq212 : RowsOK v142 → (totL v142).length = 4) (hq213 : (totL v142).length ≤ 4) (n219 : Nat) (hl224 : n219 = (totL ((mrg v141 v142).getD [])).length) (hl225 : (n219 : Int) ≤ 9223372036854775807) (hq226 : (totL ((mrg v141 v142).getD [])).length ≤ 4) (h245 : ¬ ((¬ (RowsOK v141)) ∨ ((¬ (RowsOK v142)) ∨ ((¬ (RowsOK ((mrg v141 v142).getD []))) ∨ ((¬ ((n189 : Int) = 4)) ∨ ((¬ ((n204 : Int) = 4)) ∨ (¬ ((n219 : Int) = 4)))))))) (hq250 : RowsOK v141) (hq251 : RowsOK v142) (hq252 : RowsOK ((mrg v141 v142).getD [])) (hq253 : (n189 : Int) = 4) (hq254 : (n204 : Int) = 4) (hq255 : (n219 : Int) = 4) (hq256 : v141.length ≤ 12) (hq257 : (totL v141).length = 4) (hq258 : v142.length ≤ 12) (hq259 : (totL v142).length = 4) : 0 ≤ 4 := by
  omega
theorem z_c_laws_FnLibRows_288 (L : List UInt8) (nL : Nat) (hbdL : (nL : Int) ≤ 9223372036854775807) (hleL : nL = L.length) (h5 : ¬ (65536 < (L.length : Int))) (v8 : LibRow) (hq30 : (if RowOK v8 then lineT v8 else []).length ≤ 300) (hq35 : (if RowOK v8 then lineT v8 else []).length ≤ 300) (v87 : List UInt8) (hq88 : v87.length ≤ 400) (v141 : List LibRow) (v142 : List LibRow) (hq143 : v141.length ≤ 60 ∧ v142.length ≤ 60) (n133 : Nat) (hl146 : n133 = (v141).length) (hl147 : (n133 : Int) ≤ 9223372036854775807) (n137 : Nat) (hl148 : n137 = (v142).length) (hl149 : (n137 : Int) ≤ 9223372036854775807) (n153 : Nat) (hl158 : n153 = ((mrg v141 v142).getD []).length) (hl159 : (n153 : Int) ≤ 9223372036854775807) (hq160 : ((mrg v141 v142).getD []).length ≤ 12) (n165 : Nat) (hl170 : n165 = ((mrg v141 v142).getD []).length) (hl171 : (n165 : Int) ≤ 9223372036854775807) (hq172 : ((mrg v141 v142).getD []).length ≤ 12) (h179 : ((mrg v141 v142).getD []) = ((mrg v141 v142).getD [])) (h185 : ((mrg v141 v142).isSome) = true) (n189 : Nat) (hl194 : n189 = (totL v141).length) (hl195 : (n189 : Int) ≤ 9223372036854775807) (hq196 : (totL v141).length ≤ 4) (hq197 : RowsOK v141 → (totL v141).length = 4) (hq198 : (totL v141).length ≤ 4) (n204 : Nat) (hl209 : n204 = (totL v142).length) (hl210 : (n204 : Int) ≤ 9223372036854775807) (hq211 : (totL v142).length ≤ 4) (hq212 : RowsOK v142 → (totL v142).length = 4) (hq213 : (totL v142).length ≤ 4) (n219 : Nat) (hl224 : n219 = (totL ((mrg v141 v142).getD [])).length) (hl225 : (n219 : Int) ≤ 9223372036854775807) (hq226 : (totL ((mrg v141 v142).getD [])).length ≤ 4) (h245 : ¬ ((¬ (RowsOK v141)) ∨ ((¬ (RowsOK v142)) ∨ ((¬ (RowsOK ((mrg v141 v142).getD []))) ∨ ((¬ ((n189 : Int) = 4)) ∨ ((¬ ((n204 : Int) = 4)) ∨ (¬ ((n219 : Int) = 4)))))))) (hq250 : RowsOK v141) (hq251 : RowsOK v142) (hq252 : RowsOK ((mrg v141 v142).getD [])) (hq253 : (n189 : Int) = 4) (hq254 : (n204 : Int) = 4) (hq255 : (n219 : Int) = 4) (hq256 : v141.length ≤ 12) (hq257 : (totL v141).length = 4) (hq258 : v142.length ≤ 12) (hq259 : (totL v142).length = 4) (k : Nat) (hi275 : k ≤ 4) (h276 : (k : Int) < 4) (hx278 : (totL ((mrg v141 v142).getD []))[k]? = some (gt (totL ((mrg v141 v142).getD [])) k)) (hx280 : (totL v141)[k]? = some (gt (totL v141) k)) (hx282 : (totL v142)[k]? = some (gt (totL v142) k)) (h287 : ¬ ((gt (totL ((mrg v141 v142).getD [])) k) = (IntKind.i64.wrap ((gt (totL v141) k) + (gt (totL v142) k))))) : false = true := by
  exfalso; first | exact lr_bad (by assumption) (by assumption) | exact self_no (by assumption) | exact mg_bad1 (by assumption) (by assumption) (by assumption) (by assumption) (by assumption) | exact mg_bad2 (by assumption) (by assumption) (by assumption) | exact mg_bad3 (by assumption) (by assumption)
theorem z_c_laws_FnLibRows_289 (L : List UInt8) (nL : Nat) (hbdL : (nL : Int) ≤ 9223372036854775807) (hleL : nL = L.length) (h5 : ¬ (65536 < (L.length : Int))) (v8 : LibRow) (hq30 : (if RowOK v8 then lineT v8 else []).length ≤ 300) (hq35 : (if RowOK v8 then lineT v8 else []).length ≤ 300) (v87 : List UInt8) (hq88 : v87.length ≤ 400) (v141 : List LibRow) (v142 : List LibRow) (hq143 : v141.length ≤ 60 ∧ v142.length ≤ 60) (n133 : Nat) (hl146 : n133 = (v141).length) (hl147 : (n133 : Int) ≤ 9223372036854775807) (n137 : Nat) (hl148 : n137 = (v142).length) (hl149 : (n137 : Int) ≤ 9223372036854775807) (n153 : Nat) (hl158 : n153 = ((mrg v141 v142).getD []).length) (hl159 : (n153 : Int) ≤ 9223372036854775807) (hq160 : ((mrg v141 v142).getD []).length ≤ 12) (n165 : Nat) (hl170 : n165 = ((mrg v141 v142).getD []).length) (hl171 : (n165 : Int) ≤ 9223372036854775807) (hq172 : ((mrg v141 v142).getD []).length ≤ 12) (h179 : ((mrg v141 v142).getD []) = ((mrg v141 v142).getD [])) (h185 : ((mrg v141 v142).isSome) = true) (n189 : Nat) (hl194 : n189 = (totL v141).length) (hl195 : (n189 : Int) ≤ 9223372036854775807) (hq196 : (totL v141).length ≤ 4) (hq197 : RowsOK v141 → (totL v141).length = 4) (hq198 : (totL v141).length ≤ 4) (n204 : Nat) (hl209 : n204 = (totL v142).length) (hl210 : (n204 : Int) ≤ 9223372036854775807) (hq211 : (totL v142).length ≤ 4) (hq212 : RowsOK v142 → (totL v142).length = 4) (hq213 : (totL v142).length ≤ 4) (n219 : Nat) (hl224 : n219 = (totL ((mrg v141 v142).getD [])).length) (hl225 : (n219 : Int) ≤ 9223372036854775807) (hq226 : (totL ((mrg v141 v142).getD [])).length ≤ 4) (h245 : ¬ ((¬ (RowsOK v141)) ∨ ((¬ (RowsOK v142)) ∨ ((¬ (RowsOK ((mrg v141 v142).getD []))) ∨ ((¬ ((n189 : Int) = 4)) ∨ ((¬ ((n204 : Int) = 4)) ∨ (¬ ((n219 : Int) = 4)))))))) (hq250 : RowsOK v141) (hq251 : RowsOK v142) (hq252 : RowsOK ((mrg v141 v142).getD [])) (hq253 : (n189 : Int) = 4) (hq254 : (n204 : Int) = 4) (hq255 : (n219 : Int) = 4) (hq256 : v141.length ≤ 12) (hq257 : (totL v141).length = 4) (hq258 : v142.length ≤ 12) (hq259 : (totL v142).length = 4) (k : Nat) (hi275 : k ≤ 4) (h276 : (k : Int) < 4) (hx278 : (totL ((mrg v141 v142).getD []))[k]? = some (gt (totL ((mrg v141 v142).getD [])) k)) (hx280 : (totL v141)[k]? = some (gt (totL v141) k)) (hx282 : (totL v142)[k]? = some (gt (totL v142) k)) (h287 : (gt (totL ((mrg v141 v142).getD [])) k) = (IntKind.i64.wrap ((gt (totL v141) k) + (gt (totL v142) k)))) : k + 1 ≤ 4 := by
  omega
theorem z_c_laws_FnLibRows_290 (L : List UInt8) (nL : Nat) (hbdL : (nL : Int) ≤ 9223372036854775807) (hleL : nL = L.length) (h5 : ¬ (65536 < (L.length : Int))) (v8 : LibRow) (hq30 : (if RowOK v8 then lineT v8 else []).length ≤ 300) (hq35 : (if RowOK v8 then lineT v8 else []).length ≤ 300) (v87 : List UInt8) (hq88 : v87.length ≤ 400) (v141 : List LibRow) (v142 : List LibRow) (hq143 : v141.length ≤ 60 ∧ v142.length ≤ 60) (n133 : Nat) (hl146 : n133 = (v141).length) (hl147 : (n133 : Int) ≤ 9223372036854775807) (n137 : Nat) (hl148 : n137 = (v142).length) (hl149 : (n137 : Int) ≤ 9223372036854775807) (n153 : Nat) (hl158 : n153 = ((mrg v141 v142).getD []).length) (hl159 : (n153 : Int) ≤ 9223372036854775807) (hq160 : ((mrg v141 v142).getD []).length ≤ 12) (n165 : Nat) (hl170 : n165 = ((mrg v141 v142).getD []).length) (hl171 : (n165 : Int) ≤ 9223372036854775807) (hq172 : ((mrg v141 v142).getD []).length ≤ 12) (h179 : ((mrg v141 v142).getD []) = ((mrg v141 v142).getD [])) (h185 : ((mrg v141 v142).isSome) = true) (n189 : Nat) (hl194 : n189 = (totL v141).length) (hl195 : (n189 : Int) ≤ 9223372036854775807) (hq196 : (totL v141).length ≤ 4) (hq197 : RowsOK v141 → (totL v141).length = 4) (hq198 : (totL v141).length ≤ 4) (n204 : Nat) (hl209 : n204 = (totL v142).length) (hl210 : (n204 : Int) ≤ 9223372036854775807) (hq211 : (totL v142).length ≤ 4) (hq212 : RowsOK v142 → (totL v142).length = 4) (hq213 : (totL v142).length ≤ 4) (n219 : Nat) (hl224 : n219 = (totL ((mrg v141 v142).getD [])).length) (hl225 : (n219 : Int) ≤ 9223372036854775807) (hq226 : (totL ((mrg v141 v142).getD [])).length ≤ 4) (h245 : ¬ ((¬ (RowsOK v141)) ∨ ((¬ (RowsOK v142)) ∨ ((¬ (RowsOK ((mrg v141 v142).getD []))) ∨ ((¬ ((n189 : Int) = 4)) ∨ ((¬ ((n204 : Int) = 4)) ∨ (¬ ((n219 : Int) = 4)))))))) (hq250 : RowsOK v141) (hq251 : RowsOK v142) (hq252 : RowsOK ((mrg v141 v142).getD [])) (hq253 : (n189 : Int) = 4) (hq254 : (n204 : Int) = 4) (hq255 : (n219 : Int) = 4) (hq256 : v141.length ≤ 12) (hq257 : (totL v141).length = 4) (hq258 : v142.length ≤ 12) (hq259 : (totL v142).length = 4) (k : Nat) (hi275 : k ≤ 4) (h276 : (k : Int) < 4) (hx278 : (totL ((mrg v141 v142).getD []))[k]? = some (gt (totL ((mrg v141 v142).getD [])) k)) (hx280 : (totL v141)[k]? = some (gt (totL v141) k)) (hx282 : (totL v142)[k]? = some (gt (totL v142) k)) (h287 : (gt (totL ((mrg v141 v142).getD [])) k) = (IntKind.i64.wrap ((gt (totL v141) k) + (gt (totL v142) k)))) : 4 - (k + 1) < 4 - k := by
  omega
theorem z_c_laws_FnLibRows_315 (L : List UInt8) (nL : Nat) (hbdL : (nL : Int) ≤ 9223372036854775807) (hleL : nL = L.length) (h5 : ¬ (65536 < (L.length : Int))) (v8 : LibRow) (hq30 : (if RowOK v8 then lineT v8 else []).length ≤ 300) (hq35 : (if RowOK v8 then lineT v8 else []).length ≤ 300) (v87 : List UInt8) (hq88 : v87.length ≤ 400) (v141 : List LibRow) (v142 : List LibRow) (hq143 : v141.length ≤ 60 ∧ v142.length ≤ 60) (n133 : Nat) (hl146 : n133 = (v141).length) (hl147 : (n133 : Int) ≤ 9223372036854775807) (n137 : Nat) (hl148 : n137 = (v142).length) (hl149 : (n137 : Int) ≤ 9223372036854775807) (n153 : Nat) (hl158 : n153 = ((mrg v141 v142).getD []).length) (hl159 : (n153 : Int) ≤ 9223372036854775807) (hq160 : ((mrg v141 v142).getD []).length ≤ 12) (n165 : Nat) (hl170 : n165 = ((mrg v141 v142).getD []).length) (hl171 : (n165 : Int) ≤ 9223372036854775807) (hq172 : ((mrg v141 v142).getD []).length ≤ 12) (h179 : ((mrg v141 v142).getD []) = ((mrg v141 v142).getD [])) (h185 : ((mrg v141 v142).isSome) = true) (n189 : Nat) (hl194 : n189 = (totL v141).length) (hl195 : (n189 : Int) ≤ 9223372036854775807) (hq196 : (totL v141).length ≤ 4) (hq197 : RowsOK v141 → (totL v141).length = 4) (hq198 : (totL v141).length ≤ 4) (n204 : Nat) (hl209 : n204 = (totL v142).length) (hl210 : (n204 : Int) ≤ 9223372036854775807) (hq211 : (totL v142).length ≤ 4) (hq212 : RowsOK v142 → (totL v142).length = 4) (hq213 : (totL v142).length ≤ 4) (n219 : Nat) (hl224 : n219 = (totL ((mrg v141 v142).getD [])).length) (hl225 : (n219 : Int) ≤ 9223372036854775807) (hq226 : (totL ((mrg v141 v142).getD [])).length ≤ 4) (h245 : ¬ ((¬ (RowsOK v141)) ∨ ((¬ (RowsOK v142)) ∨ ((¬ (RowsOK ((mrg v141 v142).getD []))) ∨ ((¬ ((n189 : Int) = 4)) ∨ ((¬ ((n204 : Int) = 4)) ∨ (¬ ((n219 : Int) = 4)))))))) (hq250 : RowsOK v141) (hq251 : RowsOK v142) (hq252 : RowsOK ((mrg v141 v142).getD [])) (hq253 : (n189 : Int) = 4) (hq254 : (n204 : Int) = 4) (hq255 : (n219 : Int) = 4) (hq256 : v141.length ≤ 12) (hq257 : (totL v141).length = 4) (hq258 : v142.length ≤ 12) (hq259 : (totL v142).length = 4) (k : Nat) (hi275 : k ≤ 4) (h276 : ¬ ((k : Int) < 4)) (n294 : Nat) (hl299 : n294 = ((mrg v142 v141).getD []).length) (hl300 : (n294 : Int) ≤ 9223372036854775807) (hq301 : ((mrg v142 v141).getD []).length ≤ 12) (h313 : ((!((mrg v142 v141).isSome)) = true) ∨ (¬ (((mrg v142 v141).getD []) = ((mrg v141 v142).getD [])))) : false = true := by
  exfalso; first | exact lr_bad (by assumption) (by assumption) | exact self_no (by assumption) | exact mg_bad1 (by assumption) (by assumption) (by assumption) (by assumption) (by assumption) | exact mg_bad2 (by assumption) (by assumption) (by assumption) | exact mg_bad3 (by assumption) (by assumption)
theorem c_laws_FnLibRows (w : World) {AL : Option Addr} {nL cL BL : Nat}  (L : List UInt8) (hL : SlR w BL encB 1 AL nL cL L) (hE : EnvW w) : Calls Tryz.prog 3 #[.slice AL nL cL] w fun e w' => e = .returned (.bool true) ∧ Lo w w' := by
  refine calls_W 222 Tryz.func3 rfl rfl rfl ?_
  have hbdL := hL.bound
  have hleL := hL.len
  have hBbL := hL.bd
  refine W.seq ?_
  refine W.regS (SR.q' (r_as (v := .bool false) rfl) <| SR.nil ?_)
  refine W.seq ?_
  refine W.seq ?_
  refine W.regS (SR.q' (r_mv (v := .slice _ _ _) rfl) <| SR.call ent4 (c_laws_rBig w L ((hL))) rfl ?_)
  rintro e w1 ⟨rfl, hk2⟩
  refine ⟨_, rfl, ?_⟩
  have hz3 := hk2.size
  have hB4 := (Lo.refl w).lo hk2
  refine SR.nil ?_
  refine W.cond_d rfl (fun h5 => ?_) (fun h5 => ?_)
  · refine W.seq ?_
    refine W.regS (SR.q' (r_as (v := .bool true) rfl) <| SR.nil ?_)
    refine W.ret ?_
    refine ret1 rfl (v := .bool _) rfl ?_
    exact ⟨eR rfl, hB4⟩
  · refine W.skip ?_
    refine W.seq ?_
    refine W.regS (SR.q' (r_mv (v := .slice _ _ _) rfl) <| SR.call ent5 (c_spec_DrawLibLine w1 L (((hL).lo hk2)) (by omega)) rfl ?_)
    rintro e w6 ⟨v8, rfl, hk7⟩
    refine ⟨_, rfl, ?_⟩
    have hz9 := hk7.size
    have hB10 := hB4.lo hk7
    refine SR.alloc (l := [.int .i64 0, .int .i64 0, .int .i64 0, .int .i64 0, .int .i64 0]) tz25 rfl ?_
    intro g11 w12 hg13 hk14 hs15 hb16
    have hz17 := hk14.size
    have hB18 := hB10.lo hk14
    refine SR.store (o := 0) (vs := [.int .i64 v8.Month, .int .i64 v8.Lent, .int .i64 v8.Copied, .int .i64 v8.Given, .int .i64 v8.Fines]) agg25.2 rfl rfl rfl rfl (hb16) (Nat.le_of_ble_eq_true rfl) rfl ?_
    intro w19 hk20 hs21 hb22
    have hz23 := hk20.size
    have hB24 := hB18.new hk20 (by omega)
    refine SR.nil ?_
    refine W.seq ?_
    have hm25 := ((((hL).lo hk2).lo hk7).lo hk14).kn hk20 (by omega)
    refine W.regS (SR.q' (r_lda (l := [.int .i64 v8.Month, .int .i64 v8.Lent, .int .i64 v8.Copied, .int .i64 v8.Given, .int .i64 v8.Fines]) agg25 rfl (fun _ _ hu => (hb22).cell hu) rfl) <| SR.call ent6 (c_impl_LibLine w19 v8 (hE.lo (hB24))) rfl ?_)
    rintro e w26 ⟨rfl, hk27⟩
    refine ⟨_, rfl, ?_⟩
    have hz28 := hk27.size
    have hB29 := hB24.lo hk27
    have hq30 : (if RowOK v8 then lineT v8 else []).length ≤ 300 := lineif_len v8
    refine SR.q' (r_mv (v := .tuple (List.toArray _)) rfl) <| SR.q' (r_ext (v := str _) rfl rfl) <| SR.q' (r_ext (v := .bool _) rfl rfl) <| SR.q' (r_as (v := str _) rfl) <| SR.q' (r_as (v := .bool _) rfl) <| SR.nil ?_
    refine W.seq ?_
    refine W.seq ?_
    refine W.regS (SR.q' (r_lda (l := [.int .i64 v8.Month, .int .i64 v8.Lent, .int .i64 v8.Copied, .int .i64 v8.Given, .int .i64 v8.Fines]) agg25 rfl (fun _ _ hu => ((hb22).lo hk27).cell hu) rfl) <| SR.call ent7 (c_spec_LibLine w26 v8) rfl ?_)
    rintro e w31 ⟨rfl, hk32⟩
    refine ⟨_, rfl, ?_⟩
    have hz33 := hk32.size
    have hB34 := hB29.lo hk32
    have hq35 : (if RowOK v8 then lineT v8 else []).length ≤ 300 := lineif_len v8
    refine SR.q' (r_mv (v := .tuple (List.toArray _)) rfl) <| SR.q' (r_ext (v := str _) rfl rfl) <| SR.q' (r_ext (v := .bool _) rfl rfl) <| SR.q' (r_as (v := str _) rfl) <| SR.q' (r_as (v := .bool _) rfl) <| SR.nil ?_
    refine W.seq ?_
    have hm36 := ((hm25).lo hk27).lo hk32
    have hm37 := ((hb22).lo hk27).lo hk32
    refine W.regS (SR.q' (r_mv (v := str _) rfl) <| SR.q' (r_mv (v := str _) rfl) <| SR.q' (r_nes_s (s := (if RowOK v8 then lineT v8 else [])) rfl rfl) <| SR.q' (r_mv (v := .bool _) rfl) <| SR.g' rfl (r_mv (v := .bool _) rfl) <| SR.g' rfl (r_mv (v := .bool _) rfl) <| SR.g' rfl (r_neb_s und4 rfl rfl) <| SR.q' (r_pick false rfl (v := .bool _) rfl) <| SR.q' (r_mv (v := .bool _) rfl) <| SR.g' rfl (r_mv (v := .bool _) rfl) <| SR.g' rfl (r_lda (l := [.int .i64 v8.Month, .int .i64 v8.Lent, .int .i64 v8.Copied, .int .i64 v8.Given, .int .i64 v8.Fines]) agg25 rfl (fun _ _ hu => (hm37).cell hu) rfl) <| SR.gcall rfl ent8 (c_impl_IsLibRow w31 v8) rfl ?_)
    rintro e w38 ⟨rfl, hk39⟩
    refine ⟨_, rfl, ?_⟩
    have hz40 := hk39.size
    have hB41 := hB34.lo hk39
    refine SR.g' rfl (r_neb_s und4 rfl rfl) <| SR.q' (r_pick false rfl (v := .bool _) rfl) <| SR.nil ?_
    refine W.cond_f rfl ?_
    refine W.skip ?_
    refine W.seq ?_
    refine W.seq ?_
    refine W.regS (SR.q' (r_mv (v := .bool _) rfl) <| SR.nil ?_)
    refine W.thenJ (fun f' w' => At f' [(0, .slice AL nL cL), (2, .bool false)] ∧ Lo w38 w') ?_ ?_
    · refine W.cond_d rfl (fun h42 => ?_) (fun h42 => ?_)
      · refine W.seq ?_
        refine W.regS (SR.q' (r_mv (v := str _) rfl) <| SR.call ent9 (c_impl_ParseLib w38 (if RowOK v8 then lineT v8 else []) (by first | omega | (simp only [List.length_append, List.length_cons, List.length_nil, List.length_take, List.length_drop]; omega)) (hE.lo (hB41))) rfl ?_)
        rintro e w43 ⟨rfl, hk44⟩
        refine ⟨_, rfl, ?_⟩
        have hz45 := hk44.size
        have hB46 := hB41.lo hk44
        have hJ47 := ((Lo.refl w38)).lo hk44
        refine SR.q' (r_mv (v := .tuple (List.toArray _)) rfl) <| SR.q' (r_ext (v := .agg (List.toArray _)) rfl rfl) <| SR.q' (r_ext (v := .bool _) rfl rfl) <| SR.alloc (l := [.int .i64 0, .int .i64 0, .int .i64 0, .int .i64 0, .int .i64 0]) tz25 rfl ?_
        intro g48 w49 hg50 hk51 hs52 hb53
        have hz54 := hk51.size
        have hB55 := hB46.lo hk51
        have hJ56 := (hJ47).lo hk51
        refine SR.store (o := 0) (vs := [.int .i64 (((parN (if RowOK v8 then lineT v8 else [])).1).Month), .int .i64 (((parN (if RowOK v8 then lineT v8 else [])).1).Lent), .int .i64 (((parN (if RowOK v8 then lineT v8 else [])).1).Copied), .int .i64 (((parN (if RowOK v8 then lineT v8 else [])).1).Given), .int .i64 (((parN (if RowOK v8 then lineT v8 else [])).1).Fines)]) agg25.2 rfl rfl rfl rfl (hb53) (Nat.le_of_ble_eq_true rfl) rfl ?_
        intro w57 hk58 hs59 hb60
        have hz61 := hk58.size
        have hB62 := hB55.new hk58 (by omega)
        have hJ63 := (hJ56).new hk58 (by omega)
        refine SR.q' (r_as (v := .bool _) rfl) <| SR.nil ?_
        refine W.seq ?_
        have hm64 := ((((hm36).lo hk39).lo hk44).lo hk51).kn hk58 (by omega)
        have hm65 := ((((hm37).lo hk39).lo hk44).lo hk51).kn hk58 (by omega)
        refine W.regJS (fun f' w' => At f' [(0, .slice AL nL cL), (2, .bool false), (75, .bool (decide (((!((parN (if RowOK v8 then lineT v8 else [])).2)) = true) ∨ (¬ (((parN (if RowOK v8 then lineT v8 else [])).1) = v8)))))] ∧ Lo w57 w') ?_ ?_
        · refine SR.q' (r_mv (v := .bool _) rfl) <| SR.q' (r_not rfl) <| SR.q' (r_mv (v := .bool _) rfl) <| SR.split (fun h66 => ?_) (fun h66 => ?_)
          · refine SR.s' rfl <| SR.s' rfl <| SR.s' rfl <| SR.q' (r_pick true rfl (v := .bool true) rfl) <| SR.nil ?_
            exact ⟨_, rfl, ⟨⟨rfl, rfl, (eDT ((jot h66).1 trivial)), trivial⟩, (Lo.refl _)⟩⟩
          · refine SR.g' rfl (r_lda (l := [.int .i64 (((parN (if RowOK v8 then lineT v8 else [])).1).Month), .int .i64 (((parN (if RowOK v8 then lineT v8 else [])).1).Lent), .int .i64 (((parN (if RowOK v8 then lineT v8 else [])).1).Copied), .int .i64 (((parN (if RowOK v8 then lineT v8 else [])).1).Given), .int .i64 (((parN (if RowOK v8 then lineT v8 else [])).1).Fines)]) agg25 rfl (fun _ _ hu => (hb60).cell hu) rfl) <| SR.g' rfl (r_lda (l := [.int .i64 v8.Month, .int .i64 v8.Lent, .int .i64 v8.Copied, .int .i64 v8.Given, .int .i64 v8.Fines]) agg25 rfl (fun _ _ hu => (hm65).cell hu) rfl) <| SR.g' rfl (r_neA (l := encLibRow ((parN (if RowOK v8 then lineT v8 else [])).1)) (r := encLibRow v8) rfl rfl eqg25 (eql25 ((parN (if RowOK v8 then lineT v8 else [])).1) v8)) <| SR.q' (r_pick false rfl (v := .bool _) rfl) <| SR.nil ?_
            exact ⟨_, rfl, ⟨⟨rfl, rfl, (eND (jof (ne_true_of_eq_false h66))), trivial⟩, (Lo.refl _)⟩⟩
        rintro f67 w68 ⟨hat69, hk70⟩
        rw [← sets_of_at hat69]
        have hz71 := hk70.size
        have hB72 := hB62.lo hk70
        have hJ73 := (hJ63).lo hk70
        refine W.cond_d rfl (fun h74 => ?_) (fun h74 => ?_)
        · refine W.seq ?_
          refine W.regS (SR.q' (r_as (v := .bool false) rfl) <| SR.nil ?_)
          refine W.ret ?_
          refine ret1 rfl (v := .bool _) rfl ?_
          exact ⟨eR (eB (z_c_laws_FnLibRows_75 L nL hbdL hleL h5 v8 hq30 hq35 h42 h74)), hB72⟩
        · have hq76 : ¬ ((!((parN (if RowOK v8 then lineT v8 else [])).2)) = true) := (not_or.1 h74).1
          have hq77 : ((parN (if RowOK v8 then lineT v8 else [])).1) = v8 := (Classical.not_not.1 (not_or.1 h74).2)
          refine W.skip ?_
          exact ⟨_, rfl, ⟨rfl, rfl, trivial⟩, hJ73⟩
      · refine W.skip ?_
        exact ⟨_, rfl, ⟨rfl, rfl, trivial⟩, (Lo.refl w38)⟩
    rintro f78 w79 ⟨hat80, hk81⟩
    rw [← sets_of_at hat80]
    have hz82 := hk81.size
    have hB83 := hB41.lo hk81
    refine W.seq ?_
    have hm84 := ((hm36).lo hk39).lo hk81
    refine W.regS (SR.q' (r_mv (v := .slice _ _ _) rfl) <| SR.call ent10 (c_spec_DrawParseLib w79 L ((hm84)) (by omega)) rfl ?_)
    rintro e w85 ⟨v87, rfl, hq88, hk86⟩
    refine ⟨_, rfl, ?_⟩
    have hz89 := hk86.size
    have hB90 := hB83.lo hk86
    refine SR.q' (r_as (v := str _) rfl) <| SR.nil ?_
    refine W.seq ?_
    refine W.regS (SR.q' (r_mv (v := str _) rfl) <| SR.call ent9 (c_impl_ParseLib w85 v87 (by first | omega | (simp only [List.length_append, List.length_cons, List.length_nil, List.length_take, List.length_drop]; omega)) (hE.lo (hB90))) rfl ?_)
    rintro e w91 ⟨rfl, hk92⟩
    refine ⟨_, rfl, ?_⟩
    have hz93 := hk92.size
    have hB94 := hB90.lo hk92
    refine SR.q' (r_mv (v := .tuple (List.toArray _)) rfl) <| SR.q' (r_ext (v := .agg (List.toArray _)) rfl rfl) <| SR.q' (r_ext (v := .bool _) rfl rfl) <| SR.alloc (l := [.int .i64 0, .int .i64 0, .int .i64 0, .int .i64 0, .int .i64 0]) tz25 rfl ?_
    intro g95 w96 hg97 hk98 hs99 hb100
    have hz101 := hk98.size
    have hB102 := hB94.lo hk98
    refine SR.store (o := 0) (vs := [.int .i64 (((parN v87).1).Month), .int .i64 (((parN v87).1).Lent), .int .i64 (((parN v87).1).Copied), .int .i64 (((parN v87).1).Given), .int .i64 (((parN v87).1).Fines)]) agg25.2 rfl rfl rfl rfl (hb100) (Nat.le_of_ble_eq_true rfl) rfl ?_
    intro w103 hk104 hs105 hb106
    have hz107 := hk104.size
    have hB108 := hB102.new hk104 (by omega)
    refine SR.q' (r_as (v := .bool _) rfl) <| SR.nil ?_
    refine W.seq ?_
    refine W.seq ?_
    have hm109 := ((((hm84).lo hk86).lo hk92).lo hk98).kn hk104 (by omega)
    refine W.regS (SR.q' (r_mv (v := str _) rfl) <| SR.call ent11 (c_spec_ParseLib w103 v87 (by first | omega | (simp only [List.length_append, List.length_cons, List.length_nil, List.length_take, List.length_drop]; omega))) rfl ?_)
    rintro e w110 ⟨rfl, hk111⟩
    refine ⟨_, rfl, ?_⟩
    have hz112 := hk111.size
    have hB113 := hB108.lo hk111
    refine SR.q' (r_mv (v := .tuple (List.toArray _)) rfl) <| SR.q' (r_ext (v := .agg (List.toArray _)) rfl rfl) <| SR.q' (r_ext (v := .bool _) rfl rfl) <| SR.alloc (l := [.int .i64 0, .int .i64 0, .int .i64 0, .int .i64 0, .int .i64 0]) tz25 rfl ?_
    intro g114 w115 hg116 hk117 hs118 hb119
    have hz120 := hk117.size
    have hB121 := hB113.lo hk117
    refine SR.store (o := 0) (vs := [.int .i64 (((parN v87).1).Month), .int .i64 (((parN v87).1).Lent), .int .i64 (((parN v87).1).Copied), .int .i64 (((parN v87).1).Given), .int .i64 (((parN v87).1).Fines)]) agg25.2 rfl rfl rfl rfl (hb119) (Nat.le_of_ble_eq_true rfl) rfl ?_
    intro w122 hk123 hs124 hb125
    have hz126 := hk123.size
    have hB127 := hB121.new hk123 (by omega)
    refine SR.q' (r_as (v := .bool _) rfl) <| SR.nil ?_
    refine W.seq ?_
    have hm128 := (((hm109).lo hk111).lo hk117).kn hk123 (by omega)
    have hm129 := (((hb106).lo hk111).lo hk117).kn hk123 (by omega)
    refine W.regS (SR.q' (r_lda (l := [.int .i64 (((parN v87).1).Month), .int .i64 (((parN v87).1).Lent), .int .i64 (((parN v87).1).Copied), .int .i64 (((parN v87).1).Given), .int .i64 (((parN v87).1).Fines)]) agg25 rfl (fun _ _ hu => (hm129).cell hu) rfl) <| SR.q' (r_lda (l := [.int .i64 (((parN v87).1).Month), .int .i64 (((parN v87).1).Lent), .int .i64 (((parN v87).1).Copied), .int .i64 (((parN v87).1).Given), .int .i64 (((parN v87).1).Fines)]) agg25 rfl (fun _ _ hu => (hb125).cell hu) rfl) <| SR.q' (r_neA_s (l := encLibRow ((parN v87).1)) (r := encLibRow ((parN v87).1)) rfl rfl eqg25 (eql25 ((parN v87).1) ((parN v87).1))) <| SR.q' (r_mv (v := .bool _) rfl) <| SR.g' rfl (r_mv (v := .bool _) rfl) <| SR.g' rfl (r_mv (v := .bool _) rfl) <| SR.g' rfl (r_neb_s und4 rfl rfl) <| SR.q' (r_pick false rfl (v := .bool _) rfl) <| SR.nil ?_)
    refine W.cond_f rfl ?_
    refine W.skip ?_
    refine W.seq ?_
    refine W.regS (SR.q' (r_mv (v := .slice _ _ _) rfl) <| SR.call ent12 (c_spec_DrawMergeRows w122 L ((hm128)) (by omega)) rfl ?_)
    rintro e w130 ⟨A132, n133, c134, A136, n137, c138, v141, v142, rfl, hO135, hO139, hd140, hq143, hk131⟩
    refine ⟨_, rfl, ?_⟩
    have hz144 := hk131.size
    have hB145 := hB127.lo hk131
    have hl146 := hO135.len
    have hl147 := hO135.rd.bound
    have hl148 := hO139.len
    have hl149 := hO139.rd.bound
    refine SR.q' (r_mv (v := .tuple (List.toArray _)) rfl) <| SR.q' (r_ext (v := .slice _ _ _) rfl rfl) <| SR.q' (r_ext (v := .slice _ _ _) rfl rfl) <| SR.q' (r_as (v := .slice _ _ _) rfl) <| SR.q' (r_as (v := .slice _ _ _) rfl) <| SR.nil ?_
    refine W.seq ?_
    refine W.regS (SR.q' (r_mv (v := .slice _ _ _) rfl) <| SR.q' (r_mv (v := .slice _ _ _) rfl) <| SR.call ent13 (c_impl_MergeRows w130 v141 (((hO135).rd)) v142 (((hO139).rd))) rfl ?_)
    rintro e w150 ⟨A152, n153, c154, rfl, hO155, hk151⟩
    refine ⟨_, rfl, ?_⟩
    have hz156 := hk151.size
    have hB157 := hB145.lo hk151
    have hl158 := hO155.len
    have hl159 := hO155.rd.bound
    have hq160 := mrg_len v141 v142
    refine SR.q' (r_mv (v := .tuple (List.toArray _)) rfl) <| SR.q' (r_ext (v := .slice _ _ _) rfl rfl) <| SR.q' (r_ext (v := .bool _) rfl rfl) <| SR.q' (r_as (v := .slice _ _ _) rfl) <| SR.q' (r_as (v := .bool _) rfl) <| SR.nil ?_
    refine W.seq ?_
    refine W.seq ?_
    have hm161 := ((hm128).lo hk131).lo hk151
    refine W.regS (SR.q' (r_mv (v := .slice _ _ _) rfl) <| SR.q' (r_mv (v := .slice _ _ _) rfl) <| SR.call ent14 (c_spec_MergeRows w150 v141 ((((hO135).lo hk151).rd)) v142 ((((hO139).lo hk151).rd))) rfl ?_)
    rintro e w162 ⟨A164, n165, c166, rfl, hO167, hk163⟩
    refine ⟨_, rfl, ?_⟩
    have hz168 := hk163.size
    have hB169 := hB157.lo hk163
    have hl170 := hO167.len
    have hl171 := hO167.rd.bound
    have hq172 := mrg_len v141 v142
    refine SR.q' (r_mv (v := .tuple (List.toArray _)) rfl) <| SR.q' (r_ext (v := .slice _ _ _) rfl rfl) <| SR.q' (r_ext (v := .bool _) rfl rfl) <| SR.q' (r_as (v := .slice _ _ _) rfl) <| SR.q' (r_as (v := .bool _) rfl) <| SR.nil ?_
    refine W.seq ?_
    have hm173 := ((hO135).lo hk151).lo hk163
    have hm174 := ((hO139).lo hk151).lo hk163
    refine W.regS (SR.q' (r_mv (v := .bool _) rfl) <| SR.q' (r_mv (v := .bool _) rfl) <| SR.q' (r_neb_s und4 rfl rfl) <| SR.q' (r_mv (v := .bool _) rfl) <| SR.g' rfl (r_mv (v := .slice _ _ _) rfl) <| SR.g' rfl (r_mv (v := .slice _ _ _) rfl) <| SR.gcall rfl ent15 (c_laws_rLib w162 ((mrg v141 v142).getD []) ((((hO155).lo hk163).rd)) ((mrg v141 v142).getD []) (((hO167).rd))) rfl ?_)
    rintro e w175 ⟨rfl, hk176⟩
    refine ⟨_, rfl, ?_⟩
    have hz177 := hk176.size
    have hB178 := hB169.lo hk176
    refine SR.g' rfl (r_not rfl) <| SR.q' (r_pick false rfl (v := .bool _) rfl) <| SR.nil ?_
    refine W.cond_n rfl (fun h179 => ?_) (fun h179 => ?_)
    · refine W.seq ?_
      have hm180 := ((hm161).lo hk163).lo hk176
      have hm181 := ((hO155).lo hk163).lo hk176
      refine W.regS (SR.q' (r_as (v := .bool false) rfl) <| SR.nil ?_)
      refine W.ret ?_
      refine ret1 rfl (v := .bool _) rfl ?_
      exact ⟨eR (eB (z_c_laws_FnLibRows_182 L nL hbdL hleL h5 v8 hq30 hq35 v87 hq88 v141 v142 hq143 n133 hl146 hl147 n137 hl148 hl149 n153 hl158 hl159 hq160 n165 hl170 hl171 hq172 h179)), hB178⟩
    · refine W.skip ?_
      refine W.seq ?_
      refine W.seq ?_
      have hm183 := ((hm161).lo hk163).lo hk176
      have hm184 := ((hO155).lo hk163).lo hk176
      refine W.regS (SR.q' (r_mv (v := .bool _) rfl) <| SR.nil ?_)
      refine W.cond_b rfl (fun h185 => ?_) (fun h185 => ?_)
      · refine W.seq ?_
        refine W.regS (SR.q' (r_mv (v := .slice _ _ _) rfl) <| SR.call ent16 (c_impl_LibTotals w175 v141 ((((hm173).lo hk176).rd))) rfl ?_)
        rintro e w186 ⟨A188, n189, c190, rfl, hO191, hk187⟩
        refine ⟨_, rfl, ?_⟩
        have hz192 := hk187.size
        have hB193 := hB178.lo hk187
        have hl194 := hO191.len
        have hl195 := hO191.rd.bound
        have hq196 := totL_len v141
        have hq197 := totL_len4 v141
        have hq198 : (totL v141).length ≤ 4 := totL_len v141
        refine SR.q' (r_mv (v := .tuple (List.toArray _)) rfl) <| SR.q' (r_ext (v := .slice _ _ _) rfl rfl) <| SR.q' (r_ext (v := .bool _) rfl rfl) <| SR.q' (r_as (v := .slice _ _ _) rfl) <| SR.q' (r_as (v := .bool _) rfl) <| SR.nil ?_
        refine W.seq ?_
        have hm199 := ((hm173).lo hk176).lo hk187
        have hm200 := ((hm174).lo hk176).lo hk187
        refine W.regS (SR.q' (r_mv (v := .slice _ _ _) rfl) <| SR.call ent16 (c_impl_LibTotals w186 v142 (((hm200).rd))) rfl ?_)
        rintro e w201 ⟨A203, n204, c205, rfl, hO206, hk202⟩
        refine ⟨_, rfl, ?_⟩
        have hz207 := hk202.size
        have hB208 := hB193.lo hk202
        have hl209 := hO206.len
        have hl210 := hO206.rd.bound
        have hq211 := totL_len v142
        have hq212 := totL_len4 v142
        have hq213 : (totL v142).length ≤ 4 := totL_len v142
        refine SR.q' (r_mv (v := .tuple (List.toArray _)) rfl) <| SR.q' (r_ext (v := .slice _ _ _) rfl rfl) <| SR.q' (r_ext (v := .bool _) rfl rfl) <| SR.q' (r_as (v := .slice _ _ _) rfl) <| SR.q' (r_as (v := .bool _) rfl) <| SR.nil ?_
        refine W.seq ?_
        have hm214 := ((hm183).lo hk187).lo hk202
        have hm215 := ((hm184).lo hk187).lo hk202
        refine W.regS (SR.q' (r_mv (v := .slice _ _ _) rfl) <| SR.call ent16 (c_impl_LibTotals w201 ((mrg v141 v142).getD []) (((hm215).rd))) rfl ?_)
        rintro e w216 ⟨A218, n219, c220, rfl, hO221, hk217⟩
        refine ⟨_, rfl, ?_⟩
        have hz222 := hk217.size
        have hB223 := hB208.lo hk217
        have hl224 := hO221.len
        have hl225 := hO221.rd.bound
        have hq226 : (totL ((mrg v141 v142).getD [])).length ≤ 4 := totL_len ((mrg v141 v142).getD [])
        refine SR.q' (r_mv (v := .tuple (List.toArray _)) rfl) <| SR.q' (r_ext (v := .slice _ _ _) rfl rfl) <| SR.q' (r_ext (v := .bool _) rfl rfl) <| SR.q' (r_as (v := .slice _ _ _) rfl) <| SR.q' (r_as (v := .bool _) rfl) <| SR.nil ?_
        refine W.seq ?_
        refine W.seq ?_
        have hm227 := ((hm199).lo hk202).lo hk217
        have hm228 := ((hm200).lo hk202).lo hk217
        have hm229 := ((hO191).lo hk202).lo hk217
        refine W.regJS (fun f' w' => At f' [(0, .slice AL nL cL), (2, .bool false), (15, .slice A132 n133 c134), (16, .slice A136 n137 c138), (17, .slice A152 n153 c154), (21, .slice A188 n189 c190), (23, .slice A203 n204 c205), (25, .slice A218 n219 c220), (162, .bool (decide ((¬ (RowsOK v141)) ∨ ((¬ (RowsOK v142)) ∨ ((¬ (RowsOK ((mrg v141 v142).getD []))) ∨ ((¬ ((n189 : Int) = 4)) ∨ ((¬ ((n204 : Int) = 4)) ∨ (¬ ((n219 : Int) = 4)))))))))] ∧ Lo w216 w') ?_ ?_
        · refine SR.q' (r_mv (v := .bool _) rfl) <| SR.q' (r_not rfl) <| SR.q' (r_mv (v := .bool _) rfl) <| SR.splitN (fun h230 => ?_) (fun h230 => ?_)
          · refine SR.s' rfl <| SR.s' rfl <| SR.q' (r_pick true rfl (v := .bool true) rfl) <| SR.q' (r_mv (v := .bool _) rfl) <| SR.s' rfl <| SR.s' rfl <| SR.q' (r_pick true rfl (v := .bool true) rfl) <| SR.q' (r_mv (v := .bool _) rfl) <| SR.s' rfl <| SR.s' rfl <| SR.s' rfl <| SR.q' (r_pick true rfl (v := .bool true) rfl) <| SR.q' (r_mv (v := .bool _) rfl) <| SR.s' rfl <| SR.s' rfl <| SR.s' rfl <| SR.q' (r_pick true rfl (v := .bool true) rfl) <| SR.q' (r_mv (v := .bool _) rfl) <| SR.s' rfl <| SR.s' rfl <| SR.s' rfl <| SR.q' (r_pick true rfl (v := .bool true) rfl) <| SR.nil ?_
            exact ⟨_, rfl, ⟨⟨rfl, rfl, rfl, rfl, rfl, rfl, rfl, rfl, (eDT ((jmf h230).1 trivial)), trivial⟩, (Lo.refl _)⟩⟩
          · have hq231 := rows_len h230
            have hq232 := totL_len4 _ h230
            refine SR.g' rfl (r_mv (v := .bool _) rfl) <| SR.g' rfl (r_not rfl) <| SR.q' (r_pick false rfl (v := .bool _) rfl) <| SR.q' (r_mv (v := .bool _) rfl) <| SR.splitN (fun h233 => ?_) (fun h233 => ?_)
            · refine SR.s' rfl <| SR.s' rfl <| SR.q' (r_pick true rfl (v := .bool true) rfl) <| SR.q' (r_mv (v := .bool _) rfl) <| SR.s' rfl <| SR.s' rfl <| SR.s' rfl <| SR.q' (r_pick true rfl (v := .bool true) rfl) <| SR.q' (r_mv (v := .bool _) rfl) <| SR.s' rfl <| SR.s' rfl <| SR.s' rfl <| SR.q' (r_pick true rfl (v := .bool true) rfl) <| SR.q' (r_mv (v := .bool _) rfl) <| SR.s' rfl <| SR.s' rfl <| SR.s' rfl <| SR.q' (r_pick true rfl (v := .bool true) rfl) <| SR.nil ?_
              exact ⟨_, rfl, ⟨⟨rfl, rfl, rfl, rfl, rfl, rfl, rfl, rfl, (eDT (((jmf h233).trans (jmt h230)).1 trivial)), trivial⟩, (Lo.refl _)⟩⟩
            · have hq234 := rows_len h233
              have hq235 := totL_len4 _ h233
              refine SR.g' rfl (r_mv (v := .bool _) rfl) <| SR.g' rfl (r_not rfl) <| SR.q' (r_pick false rfl (v := .bool _) rfl) <| SR.q' (r_mv (v := .bool _) rfl) <| SR.splitN (fun h236 => ?_) (fun h236 => ?_)
              · refine SR.s' rfl <| SR.s' rfl <| SR.s' rfl <| SR.q' (r_pick true rfl (v := .bool true) rfl) <| SR.q' (r_mv (v := .bool _) rfl) <| SR.s' rfl <| SR.s' rfl <| SR.s' rfl <| SR.q' (r_pick true rfl (v := .bool true) rfl) <| SR.q' (r_mv (v := .bool _) rfl) <| SR.s' rfl <| SR.s' rfl <| SR.s' rfl <| SR.q' (r_pick true rfl (v := .bool true) rfl) <| SR.nil ?_
                exact ⟨_, rfl, ⟨⟨rfl, rfl, rfl, rfl, rfl, rfl, rfl, rfl, (eDT ((((jmf h236).trans (jmt h233)).trans (jmt h230)).1 trivial)), trivial⟩, (Lo.refl _)⟩⟩
              · refine SR.g' rfl (r_mv (v := .slice _ _ _) rfl) <| SR.g' rfl (r_len und39 rfl) <| SR.g' rfl (r_ne rfl rfl) <| SR.q' (r_pick false rfl (v := .bool _) rfl) <| SR.q' (r_mv (v := .bool _) rfl) <| SR.splitN (fun h237 => ?_) (fun h237 => ?_)
                · refine SR.s' rfl <| SR.s' rfl <| SR.s' rfl <| SR.q' (r_pick true rfl (v := .bool true) rfl) <| SR.q' (r_mv (v := .bool _) rfl) <| SR.s' rfl <| SR.s' rfl <| SR.s' rfl <| SR.q' (r_pick true rfl (v := .bool true) rfl) <| SR.nil ?_
                  exact ⟨_, rfl, ⟨⟨rfl, rfl, rfl, rfl, rfl, rfl, rfl, rfl, (eDT (((((jmf h237).trans (jmt h236)).trans (jmt h233)).trans (jmt h230)).1 trivial)), trivial⟩, (Lo.refl _)⟩⟩
                · refine SR.g' rfl (r_mv (v := .slice _ _ _) rfl) <| SR.g' rfl (r_len und39 rfl) <| SR.g' rfl (r_ne rfl rfl) <| SR.q' (r_pick false rfl (v := .bool _) rfl) <| SR.q' (r_mv (v := .bool _) rfl) <| SR.splitN (fun h238 => ?_) (fun h238 => ?_)
                  · refine SR.s' rfl <| SR.s' rfl <| SR.s' rfl <| SR.q' (r_pick true rfl (v := .bool true) rfl) <| SR.nil ?_
                    exact ⟨_, rfl, ⟨⟨rfl, rfl, rfl, rfl, rfl, rfl, rfl, rfl, (eDT ((((((jmf h238).trans (jmt h237)).trans (jmt h236)).trans (jmt h233)).trans (jmt h230)).1 trivial)), trivial⟩, (Lo.refl _)⟩⟩
                  · refine SR.g' rfl (r_mv (v := .slice _ _ _) rfl) <| SR.g' rfl (r_len und39 rfl) <| SR.g' rfl (r_ne rfl rfl) <| SR.q' (r_pick false rfl (v := .bool _) rfl) <| SR.nil ?_
                    exact ⟨_, rfl, ⟨⟨rfl, rfl, rfl, rfl, rfl, rfl, rfl, rfl, (eND (((((jmt h238).trans (jmt h237)).trans (jmt h236)).trans (jmt h233)).trans (jmt h230))), trivial⟩, (Lo.refl _)⟩⟩
        rintro f239 w240 ⟨hat241, hk242⟩
        rw [← sets_of_at hat241]
        have hz243 := hk242.size
        have hB244 := hB223.lo hk242
        refine W.cond_d rfl (fun h245 => ?_) (fun h245 => ?_)
        · refine W.seq ?_
          have hm246 := ((hm214).lo hk217).lo hk242
          have hm247 := ((hm215).lo hk217).lo hk242
          have hm248 := ((hO206).lo hk217).lo hk242
          refine W.regS (SR.q' (r_as (v := .bool false) rfl) <| SR.nil ?_)
          refine W.ret ?_
          refine ret1 rfl (v := .bool _) rfl ?_
          exact ⟨eR (eB (z_c_laws_FnLibRows_249 L nL hbdL hleL h5 v8 hq30 hq35 v87 hq88 v141 v142 hq143 n133 hl146 hl147 n137 hl148 hl149 n153 hl158 hl159 hq160 n165 hl170 hl171 hq172 h179 h185 n189 hl194 hl195 hq196 hq197 hq198 n204 hl209 hl210 hq211 hq212 hq213 n219 hl224 hl225 hq226 h245)), hB244⟩
        · have hq250 : RowsOK v141 := (Classical.not_not.1 (not_or.1 h245).1)
          have hq251 : RowsOK v142 := (Classical.not_not.1 (not_or.1 (not_or.1 h245).2).1)
          have hq252 : RowsOK ((mrg v141 v142).getD []) := (Classical.not_not.1 (not_or.1 (not_or.1 (not_or.1 h245).2).2).1)
          have hq253 : (n189 : Int) = 4 := (Classical.not_not.1 (not_or.1 (not_or.1 (not_or.1 (not_or.1 h245).2).2).2).1)
          have hq254 : (n204 : Int) = 4 := (Classical.not_not.1 (not_or.1 (not_or.1 (not_or.1 (not_or.1 (not_or.1 h245).2).2).2).2).1)
          have hq255 : (n219 : Int) = 4 := (Classical.not_not.1 (not_or.1 (not_or.1 (not_or.1 (not_or.1 (not_or.1 h245).2).2).2).2).2)
          have hq256 := rows_len hq250
          have hq257 := totL_len4 _ hq250
          have hq258 := rows_len hq251
          have hq259 := totL_len4 _ hq251
          refine W.skip ?_
          refine W.seq ?_
          refine W.seq ?_
          have hm260 := ((hm214).lo hk217).lo hk242
          have hm261 := ((hm215).lo hk217).lo hk242
          have hm262 := ((hO206).lo hk217).lo hk242
          refine W.regS (SR.q' (r_as (v := .int .i64 0) rfl) <| SR.nil ?_)
          refine W.block ?_
          refine W.loop (σ := Nat) (fun g => [(0, .slice AL nL cL), (15, .slice A132 n133 c134), (16, .slice A136 n137 c138), (17, .slice A152 n153 c154), (21, .slice A188 n189 c190), (23, .slice A203 n204 c205), (25, .slice A218 n219 c220), (27, .int .i64 (g : Int))]) (fun g w' => (Lo w w') ∧ (SlR w' BL encB 1 AL nL cL L) ∧ (SlO w' w122.heap.size encLibRow 5 25 A132 n133 c134 v141) ∧ (SlO w' w122.heap.size encLibRow 5 25 A136 n137 c138 v142) ∧ (SlO w' w130.heap.size encLibRow 5 25 A152 n153 c154 ((mrg v141 v142).getD [])) ∧ (SlO w' w175.heap.size encI 1 3 A188 n189 c190 (totL v141)) ∧ (SlO w' w186.heap.size encI 1 3 A203 n204 c205 (totL v142)) ∧ (SlO w' w201.heap.size encI 1 3 A218 n219 c220 (totL ((mrg v141 v142).getD []))) ∧ (g ≤ 4)) (fun g => 4 - g) 0 ?_ ?_ ?_
          · exact ⟨rfl, rfl, rfl, rfl, rfl, rfl, rfl, rfl, trivial⟩
          · exact ⟨hB244, hm260, (hm227).lo hk242, (hm228).lo hk242, hm261, (hm229).lo hk242, hm262, (hO221).lo hk242, (z_c_laws_FnLibRows_263 L nL hbdL hleL h5 v8 hq30 hq35 v87 hq88 v141 v142 hq143 n133 hl146 hl147 n137 hl148 hl149 n153 hl158 hl159 hq160 n165 hl170 hl171 hq172 h179 h185 n189 hl194 hl195 hq196 hq197 hq198 n204 hl209 hl210 hq211 hq212 hq213 n219 hl224 hl225 hq226 h245 hq250 hq251 hq252 hq253 hq254 hq255 hq256 hq257 hq258 hq259)⟩
          · rintro k f264 w265 hP267
            obtain ⟨hB266, hm268, hm269, hm270, hm271, hm272, hm273, hm274, hi275⟩ : (Lo w w265) ∧ (SlR w265 BL encB 1 AL nL cL L) ∧ (SlO w265 w122.heap.size encLibRow 5 25 A132 n133 c134 v141) ∧ (SlO w265 w122.heap.size encLibRow 5 25 A136 n137 c138 v142) ∧ (SlO w265 w130.heap.size encLibRow 5 25 A152 n153 c154 ((mrg v141 v142).getD [])) ∧ (SlO w265 w175.heap.size encI 1 3 A188 n189 c190 (totL v141)) ∧ (SlO w265 w186.heap.size encI 1 3 A203 n204 c205 (totL v142)) ∧ (SlO w265 w201.heap.size encI 1 3 A218 n219 c220 (totL ((mrg v141 v142).getD []))) ∧ (k ≤ 4) := hP267
            refine (?_ : W _ _ _ _ _ (act _ (sets f264 [(0, .slice AL nL cL), (15, .slice A132 n133 c134), (16, .slice A136 n137 c138), (17, .slice A152 n153 c154), (21, .slice A188 n189 c190), (23, .slice A203 n204 c205), (25, .slice A218 n219 c220), (27, .int .i64 (k : Int))])) _)
            have hzw265 := hB266.size
            refine W.seq ?_
            refine W.seq ?_
            refine W.regS (SR.q' (r_mv (v := .int .i64 _) rfl) <| SR.q' (r_lt rfl rfl) <| SR.nil ?_)
            refine W.cond_d rfl (fun h276 => ?_) (fun h276 => ?_)
            · refine W.skip ?_
              refine W.seq ?_
              refine W.block ?_
              refine W.seq ?_
              refine W.regD mo (by kernel_rfl) (QR.q' (fun w' hw' => r_mv (v := .slice _ _ _) rfl) <| QR.q' (fun w' hw' => r_mv (v := .int .i64 _) rfl) <| ?_)
              have hx278 := ((hm274).rd).elem (i := k) (by omega)
              refine QR.q' (fun w' hw' => r_ixR tsl39 (((hm274).lo hw').rd) rfl rfl (by omega)) <| QR.q' (fun w' hw' => r_ld (v := .int .i64 (gt (totL ((mrg v141 v142).getD [])) k)) sca3 rfl ((((hm274).lo hw').rd).cell0 hx278 rfl)) <| QR.q' (fun w' hw' => r_mv (v := .slice _ _ _) rfl) <| QR.q' (fun w' hw' => r_mv (v := .int .i64 _) rfl) <| ?_
              have hx280 := ((hm272).rd).elem (i := k) (by omega)
              refine QR.q' (fun w' hw' => r_ixR tsl39 (((hm272).lo hw').rd) rfl rfl (by omega)) <| QR.q' (fun w' hw' => r_ld (v := .int .i64 (gt (totL v141) k)) sca3 rfl ((((hm272).lo hw').rd).cell0 hx280 rfl)) <| QR.q' (fun w' hw' => r_mv (v := .slice _ _ _) rfl) <| QR.q' (fun w' hw' => r_mv (v := .int .i64 _) rfl) <| ?_
              have hx282 := ((hm273).rd).elem (i := k) (by omega)
              refine QR.q' (fun w' hw' => r_ixR tsl39 (((hm273).lo hw').rd) rfl rfl (by omega)) <| QR.q' (fun w' hw' => r_ld (v := .int .i64 (gt (totL v142) k)) sca3 rfl ((((hm273).lo hw').rd).cell0 hx282 rfl)) <| QR.q' (fun w' hw' => r_addW rfl rfl) <| QR.q' (fun w' hw' => r_ne rfl rfl) <| QR.nil ?_
              intro w283 hk284
              have hz285 := hk284.size
              have hB286 := hB266.lo hk284
              refine W.cond_n rfl (fun h287 => ?_) (fun h287 => ?_)
              · refine W.seq ?_
                refine W.regS (SR.q' (r_as (v := .bool false) rfl) <| SR.nil ?_)
                refine W.ret ?_
                refine ret1 rfl (v := .bool _) rfl ?_
                exact ⟨eR (eB (z_c_laws_FnLibRows_288 L nL hbdL hleL h5 v8 hq30 hq35 v87 hq88 v141 v142 hq143 n133 hl146 hl147 n137 hl148 hl149 n153 hl158 hl159 hq160 n165 hl170 hl171 hq172 h179 h185 n189 hl194 hl195 hq196 hq197 hq198 n204 hl209 hl210 hq211 hq212 hq213 n219 hl224 hl225 hq226 h245 hq250 hq251 hq252 hq253 hq254 hq255 hq256 hq257 hq258 hq259 k hi275 h276 hx278 hx280 hx282 h287)), hB286⟩
              · refine W.skip ?_
                refine W.regS (SR.q' (r_mv (v := .int .i64 _) rfl) <| SR.q' (r_add rfl rfl (by omega)) <| SR.q' (r_as (v := .int .i64 _) rfl) <| SR.nil ?_)
                refine ⟨k + 1, _, rfl, ⟨rfl, rfl, rfl, rfl, rfl, rfl, rfl, rfl, trivial⟩, ⟨hB286, (hm268).lo hk284, (hm269).lo hk284, (hm270).lo hk284, (hm271).lo hk284, (hm272).lo hk284, (hm273).lo hk284, (hm274).lo hk284, ?_⟩, ?_⟩
                · exact (z_c_laws_FnLibRows_289 L nL hbdL hleL h5 v8 hq30 hq35 v87 hq88 v141 v142 hq143 n133 hl146 hl147 n137 hl148 hl149 n153 hl158 hl159 hq160 n165 hl170 hl171 hq172 h179 h185 n189 hl194 hl195 hq196 hq197 hq198 n204 hl209 hl210 hq211 hq212 hq213 n219 hl224 hl225 hq226 h245 hq250 hq251 hq252 hq253 hq254 hq255 hq256 hq257 hq258 hq259 k hi275 h276 hx278 hx280 hx282 h287)
                · exact (z_c_laws_FnLibRows_290 L nL hbdL hleL h5 v8 hq30 hq35 v87 hq88 v141 v142 hq143 n133 hl146 hl147 n137 hl148 hl149 n153 hl158 hl159 hq160 n165 hl170 hl171 hq172 h179 h185 n189 hl194 hl195 hq196 hq197 hq198 n204 hl209 hl210 hq211 hq212 hq213 n219 hl224 hl225 hq226 h245 hq250 hq251 hq252 hq253 hq254 hq255 hq256 hq257 hq258 hq259 k hi275 h276 hx278 hx280 hx282 h287)
            · refine W.exit (xin_here ?_)
              refine W.seq ?_
              refine W.regS (SR.q' (r_mv (v := .slice _ _ _) rfl) <| SR.q' (r_mv (v := .slice _ _ _) rfl) <| SR.call ent13 (c_impl_MergeRows w265 v142 (((hm270).rd)) v141 (((hm269).rd))) rfl ?_)
              rintro e w291 ⟨A293, n294, c295, rfl, hO296, hk292⟩
              refine ⟨_, rfl, ?_⟩
              have hz297 := hk292.size
              have hB298 := hB266.lo hk292
              have hl299 := hO296.len
              have hl300 := hO296.rd.bound
              have hq301 := mrg_len v142 v141
              refine SR.q' (r_mv (v := .tuple (List.toArray _)) rfl) <| SR.q' (r_ext (v := .slice _ _ _) rfl rfl) <| SR.q' (r_ext (v := .bool _) rfl rfl) <| SR.q' (r_as (v := .slice _ _ _) rfl) <| SR.q' (r_as (v := .bool _) rfl) <| SR.nil ?_
              refine W.seq ?_
              refine W.regJS (fun f' w' => At f' [(0, .slice AL nL cL), (194, .bool (decide (((!((mrg v142 v141).isSome)) = true) ∨ (¬ (((mrg v142 v141).getD []) = ((mrg v141 v142).getD []))))))] ∧ Lo w291 w') ?_ ?_
              · refine SR.q' (r_mv (v := .bool _) rfl) <| SR.q' (r_not rfl) <| SR.q' (r_mv (v := .bool _) rfl) <| SR.split (fun h302 => ?_) (fun h302 => ?_)
                · refine SR.s' rfl <| SR.s' rfl <| SR.s' rfl <| SR.s' rfl <| SR.q' (r_pick true rfl (v := .bool true) rfl) <| SR.nil ?_
                  exact ⟨_, rfl, ⟨⟨rfl, (eDT ((jot h302).1 trivial)), trivial⟩, (Lo.refl _)⟩⟩
                · refine SR.g' rfl (r_mv (v := .slice _ _ _) rfl) <| SR.g' rfl (r_mv (v := .slice _ _ _) rfl) <| SR.gcall rfl ent15 (c_laws_rLib w291 ((mrg v142 v141).getD []) (((hO296).rd)) ((mrg v141 v142).getD []) ((((hm271).lo hk292).rd))) rfl ?_
                  rintro e w303 ⟨rfl, hk304⟩
                  refine ⟨_, rfl, ?_⟩
                  have hz305 := hk304.size
                  have hB306 := hB298.lo hk304
                  refine SR.g' rfl (r_not rfl) <| SR.q' (r_pick false rfl (v := .bool _) rfl) <| SR.nil ?_
                  exact ⟨_, rfl, ⟨⟨rfl, (eND (jof (ne_true_of_eq_false h302))), trivial⟩, (hk304)⟩⟩
              rintro f307 w308 ⟨hat309, hk310⟩
              rw [← sets_of_at hat309]
              have hz311 := hk310.size
              have hB312 := hB298.lo hk310
              refine W.cond_d rfl (fun h313 => ?_) (fun h313 => ?_)
              · refine W.seq ?_
                have hm314 := ((hm268).lo hk292).lo hk310
                refine W.regS (SR.q' (r_as (v := .bool false) rfl) <| SR.nil ?_)
                refine W.ret ?_
                refine ret1 rfl (v := .bool _) rfl ?_
                exact ⟨eR (eB (z_c_laws_FnLibRows_315 L nL hbdL hleL h5 v8 hq30 hq35 v87 hq88 v141 v142 hq143 n133 hl146 hl147 n137 hl148 hl149 n153 hl158 hl159 hq160 n165 hl170 hl171 hq172 h179 h185 n189 hl194 hl195 hq196 hq197 hq198 n204 hl209 hl210 hq211 hq212 hq213 n219 hl224 hl225 hq226 h245 hq250 hq251 hq252 hq253 hq254 hq255 hq256 hq257 hq258 hq259 k hi275 h276 n294 hl299 hl300 hq301 h313)), hB312⟩
              · have hq316 : ¬ ((!((mrg v142 v141).isSome)) = true) := (not_or.1 h313).1
                have hq317 : ((mrg v142 v141).getD []) = ((mrg v141 v142).getD []) := (Classical.not_not.1 (not_or.1 h313).2)
                refine W.skip ?_
                refine W.seq ?_
                have hm318 := ((hm268).lo hk292).lo hk310
                refine W.regS (SR.q' (r_mv (v := .slice _ _ _) rfl) <| SR.call ent17 (c_spec_DrawLibReport w308 L ((hm318)) (by omega)) rfl ?_)
                rintro e w319 ⟨A321, n322, c323, v325, rfl, hO324, hq326, hk320⟩
                refine ⟨_, rfl, ?_⟩
                have hz327 := hk320.size
                have hB328 := hB312.lo hk320
                have hl329 := hO324.len
                have hl330 := hO324.rd.bound
                refine SR.q' (r_as (v := .slice _ _ _) rfl) <| SR.nil ?_
                refine W.seq ?_
                refine W.regS (SR.q' (r_mv (v := .slice _ _ _) rfl) <| SR.call ent18 (c_impl_LibReport w319 v325 (((hO324).rd)) (hE.lo (hB328))) rfl ?_)
                rintro e w331 ⟨rfl, hk332⟩
                refine ⟨_, rfl, ?_⟩
                have hz333 := hk332.size
                have hB334 := hB328.lo hk332
                refine SR.q' (r_mv (v := .tuple (List.toArray _)) rfl) <| SR.q' (r_ext (v := str _) rfl rfl) <| SR.q' (r_ext (v := .bool _) rfl rfl) <| SR.q' (r_as (v := str _) rfl) <| SR.q' (r_as (v := .bool _) rfl) <| SR.nil ?_
                refine W.seq ?_
                refine W.regS (SR.q' (r_mv (v := .slice _ _ _) rfl) <| SR.call ent19 (c_spec_LibReport w331 v325 ((((hO324).lo hk332).rd))) rfl ?_)
                rintro e w335 ⟨rfl, hk336⟩
                refine ⟨_, rfl, ?_⟩
                have hz337 := hk336.size
                have hB338 := hB334.lo hk336
                refine SR.q' (r_mv (v := .tuple (List.toArray _)) rfl) <| SR.q' (r_ext (v := str _) rfl rfl) <| SR.q' (r_ext (v := .bool _) rfl rfl) <| SR.q' (r_as (v := str _) rfl) <| SR.q' (r_as (v := .bool _) rfl) <| SR.nil ?_
                refine W.seq ?_
                have hm339 := ((hO324).lo hk332).lo hk336
                refine W.regS (SR.q' (r_mv (v := str _) rfl) <| SR.q' (r_mv (v := str _) rfl) <| SR.q' (r_eqs_s (s := reportF v325) rfl rfl) <| SR.q' (r_mv (v := .bool _) rfl) <| SR.g' rfl (r_mv (v := .bool _) rfl) <| SR.g' rfl (r_mv (v := .bool _) rfl) <| SR.g' rfl (r_eqb_s und4 rfl rfl) <| SR.q' (r_pick true rfl (v := .bool _) rfl) <| SR.q' (r_mv (v := .bool _) rfl) <| SR.g' rfl (r_mv (v := .slice _ _ _) rfl) <| SR.gcall rfl ent20 (c_impl_AreLibRows w335 v325 (((hm339).rd))) rfl ?_)
                rintro e w340 ⟨rfl, hk341⟩
                refine ⟨_, rfl, ?_⟩
                have hz342 := hk341.size
                have hB343 := hB338.lo hk341
                refine SR.g' rfl (r_mv (v := .slice _ _ _) rfl) <| SR.gcall rfl ent21 (c_spec_AreLibRows w340 v325 ((((hm339).lo hk341).rd))) rfl ?_
                rintro e w344 ⟨rfl, hk345⟩
                refine ⟨_, rfl, ?_⟩
                have hz346 := hk345.size
                have hB347 := hB343.lo hk345
                refine SR.g' rfl (r_eqb_s und4 rfl rfl) <| SR.q' (r_pick true rfl (v := .bool _) rfl) <| SR.q' (r_as (v := .bool _) rfl) <| SR.nil ?_
                refine W.ret ?_
                refine ret1 rfl (v := .bool _) rfl ?_
                exact ⟨eR rfl, hB347⟩
      · refine W.skip ?_
        refine W.seq ?_
        refine W.regS (SR.q' (r_mv (v := .slice _ _ _) rfl) <| SR.call ent17 (c_spec_DrawLibReport w175 L ((hm183)) (by omega)) rfl ?_)
        rintro e w348 ⟨A350, n351, c352, v354, rfl, hO353, hq355, hk349⟩
        refine ⟨_, rfl, ?_⟩
        have hz356 := hk349.size
        have hB357 := hB178.lo hk349
        have hl358 := hO353.len
        have hl359 := hO353.rd.bound
        refine SR.q' (r_as (v := .slice _ _ _) rfl) <| SR.nil ?_
        refine W.seq ?_
        refine W.regS (SR.q' (r_mv (v := .slice _ _ _) rfl) <| SR.call ent18 (c_impl_LibReport w348 v354 (((hO353).rd)) (hE.lo (hB357))) rfl ?_)
        rintro e w360 ⟨rfl, hk361⟩
        refine ⟨_, rfl, ?_⟩
        have hz362 := hk361.size
        have hB363 := hB357.lo hk361
        refine SR.q' (r_mv (v := .tuple (List.toArray _)) rfl) <| SR.q' (r_ext (v := str _) rfl rfl) <| SR.q' (r_ext (v := .bool _) rfl rfl) <| SR.q' (r_as (v := str _) rfl) <| SR.q' (r_as (v := .bool _) rfl) <| SR.nil ?_
        refine W.seq ?_
        refine W.regS (SR.q' (r_mv (v := .slice _ _ _) rfl) <| SR.call ent19 (c_spec_LibReport w360 v354 ((((hO353).lo hk361).rd))) rfl ?_)
        rintro e w364 ⟨rfl, hk365⟩
        refine ⟨_, rfl, ?_⟩
        have hz366 := hk365.size
        have hB367 := hB363.lo hk365
        refine SR.q' (r_mv (v := .tuple (List.toArray _)) rfl) <| SR.q' (r_ext (v := str _) rfl rfl) <| SR.q' (r_ext (v := .bool _) rfl rfl) <| SR.q' (r_as (v := str _) rfl) <| SR.q' (r_as (v := .bool _) rfl) <| SR.nil ?_
        refine W.seq ?_
        have hm368 := ((hO353).lo hk361).lo hk365
        refine W.regS (SR.q' (r_mv (v := str _) rfl) <| SR.q' (r_mv (v := str _) rfl) <| SR.q' (r_eqs_s (s := reportF v354) rfl rfl) <| SR.q' (r_mv (v := .bool _) rfl) <| SR.g' rfl (r_mv (v := .bool _) rfl) <| SR.g' rfl (r_mv (v := .bool _) rfl) <| SR.g' rfl (r_eqb_s und4 rfl rfl) <| SR.q' (r_pick true rfl (v := .bool _) rfl) <| SR.q' (r_mv (v := .bool _) rfl) <| SR.g' rfl (r_mv (v := .slice _ _ _) rfl) <| SR.gcall rfl ent20 (c_impl_AreLibRows w364 v354 (((hm368).rd))) rfl ?_)
        rintro e w369 ⟨rfl, hk370⟩
        refine ⟨_, rfl, ?_⟩
        have hz371 := hk370.size
        have hB372 := hB367.lo hk370
        refine SR.g' rfl (r_mv (v := .slice _ _ _) rfl) <| SR.gcall rfl ent21 (c_spec_AreLibRows w369 v354 ((((hm368).lo hk370).rd))) rfl ?_
        rintro e w373 ⟨rfl, hk374⟩
        refine ⟨_, rfl, ?_⟩
        have hz375 := hk374.size
        have hB376 := hB372.lo hk374
        refine SR.g' rfl (r_eqb_s und4 rfl rfl) <| SR.q' (r_pick true rfl (v := .bool _) rfl) <| SR.q' (r_as (v := .bool _) rfl) <| SR.nil ?_
        refine W.ret ?_
        refine ret1 rfl (v := .bool _) rfl ?_
        exact ⟨eR rfl, hB376⟩
end Go.Proofs.YtnbbfokkpkphoaaGreatDoor
