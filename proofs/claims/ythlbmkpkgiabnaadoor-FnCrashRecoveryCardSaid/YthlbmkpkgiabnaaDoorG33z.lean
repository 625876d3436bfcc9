/- Walks, printed by a program of this claim's author. -/
import Derived.Test.YthlbmkpkgiabnaaDoorChecked
import Derived.Test.YthlbmkpkgiabnaaDoorWb
import Derived.Test.YthlbmkpkgiabnaaDoorFt
import Derived.Test.YthlbmkpkgiabnaaDoorSi
import Derived.Test.YthlbmkpkgiabnaaDoorG33y
namespace Go.Proofs.YthlbmkpkgiabnaaDoor
open Go Go.RowKit Fw
set_option maxRecDepth 10000
set_option linter.unusedVariables false
theorem bld27_0 (a0 : List UInt8) : Tryd.prog.built 27 [(0, str a0)] = some (List.toArray [str a0, str ([] : List UInt8)]) := by kernel_rfl
theorem bld72_0 (a0 : Option Addr) (b0 c0 : Nat) : Tryd.prog.built 72 [(0, .slice a0 b0 c0)] = some (List.toArray [.slice a0 b0 c0, .int .i64 0, .int .u64 0]) := by kernel_rfl
theorem ent53 : Ent Tryd.prog 53 := ent_of Tryd.func53 (by decide +kernel) rfl
theorem ent59 : Ent Tryd.prog 59 := ent_of Tryd.func59 (by decide +kernel) rfl
theorem tel74 : TEl Tryd.prog 74 3 (.int .i64 0) 1 8 := ⟨by kernel_rfl, by kernel_rfl, rfl, by decide⟩

theorem z_c_spec_DrawEncodeRecord_51 (L : List UInt8) (nL : Nat) (hbdL : (nL : Int) ≤ 9223372036854775807) (hleL : nL = L.length) (hp0 : (nL : Int) ≤ 65536) (v26 : Int) (t27 : Int) (s28 : Int) (ht30 : 0 ≤ t27 ∧ t27 ≤ 0 + 2) (hq31 : v26 ∈ ([0, 1, 12, 59, 60, (-1)] : List Int)) (hq34 : -1000000000 ≤ v26 ∧ v26 ≤ 1000000000) (v37 : LogRecord) (t38 : Int) (s39 : Int) (ht41 : t27 ≤ t38 ∧ t38 ≤ t27 + 8) (hq42 : v37.Command.length ≤ 40 ∧ v37.Reply.length ≤ 40) : -1000000000 ≤ v26 ∧ v26 ≤ 1000000000 := by
  omega
theorem z_c_spec_DrawEncodeRecord_52 (L : List UInt8) (nL : Nat) (hbdL : (nL : Int) ≤ 9223372036854775807) (hleL : nL = L.length) (hp0 : (nL : Int) ≤ 65536) (v26 : Int) (t27 : Int) (s28 : Int) (ht30 : 0 ≤ t27 ∧ t27 ≤ 0 + 2) (hq31 : v26 ∈ ([0, 1, 12, 59, 60, (-1)] : List Int)) (hq34 : -1000000000 ≤ v26 ∧ v26 ≤ 1000000000) (v37 : LogRecord) (t38 : Int) (s39 : Int) (ht41 : t27 ≤ t38 ∧ t38 ≤ t27 + 8) (hq42 : v37.Command.length ≤ 40 ∧ v37.Reply.length ≤ 40) : v37.Command.length ≤ 40 ∧ v37.Reply.length ≤ 40 := by
  first | omega | (dsimp only; omega)
theorem c_spec_DrawEncodeRecord (w : World) {AL : Option Addr} {nL cL BL : Nat}  (L : List UInt8) (hL : SlR w BL encB 1 AL nL cL L) (hp0 : (nL : Int) ≤ 65536) : Calls Tryd.prog 36 #[.slice AL nL cL] w fun e w' => ∃ (k : Int) (r : LogRecord), e = .returned (.tuple (List.toArray [.int .i64 k, .agg (List.toArray [str r.Command, str r.Reply])])) ∧ (-1000000000 ≤ k ∧ k ≤ 1000000000) ∧ (r.Command.length ≤ 40 ∧ r.Reply.length ≤ 40) ∧ Lo w w' := by
  refine calls_W 15 Tryd.func36 rfl rfl rfl ?_
  have hbdL := hL.bound
  have hleL := hL.len
  have hBbL := hL.bd
  refine W.seq ?_
  refine W.regS (SR.q' (r_as (v := .int .i64 0) rfl) <| SR.alloc (l := [str ([] : List UInt8), str ([] : List UInt8)]) tz27 rfl ?_)
  intro g1 w2 hg3 hk4 hs5 hb6
  have hz7 := hk4.size
  have hB8 := (Lo.refl w).lo hk4
  refine SR.nil ?_
  refine W.seq ?_
  refine W.regS (SR.q' (r_mv (v := .slice _ _ _) rfl) <| SR.q' (r_build (vs := [(0, .slice AL nL cL)]) rfl (bld72_0 _ _ _)) <| SR.box (v := .agg (List.toArray _)) (l := [.slice AL nL cL, .int .i64 0, .int .u64 0]) rfl rfl ?_)
  intro g9 w10 hg11 hk12 hs13 hb14
  have hz15 := hk12.size
  have hB16 := hB8.lo hk12
  refine SR.q' (r_as (v := .pointer (some _)) rfl) <| SR.nil ?_
  refine W.seq ?_
  refine W.regS (SR.q' (r_mv (v := .pointer (some _)) rfl) <| SR.lit (vs := [.int .i64 0, .int .i64 1, .int .i64 12, .int .i64 59, .int .i64 60, .int .i64 (-1)]) (L := ([0, 1, 12, 59, 60, (-1)] : List Int)) (enc := encI) tel74 (fun _ => rfl) rfl rfl rfl (by decide) ?_)
  intro g17 w18 hg19 hk20 hO21
  have hz22 := hk20.size
  have hB23 := hB16.lo hk20
  refine SR.call ent53 (c___spec_l1Cur__among w18 L 0 0 ((hb14).lo hk20) (((((hL).lo hk4).lo hk12).lo hk20)) (by omega) (by omega) ([0, 1, 12, 59, 60, (-1)] : List Int) (((hO21).rd)) (by omega) (by omega) (show ¬ g17 = g9 from by omega)) rfl ?_
  rintro e w24 ⟨v26, t27, s28, rfl, hb29, ht30, hq31, hk25⟩
  refine ⟨_, rfl, ?_⟩
  have hz32 := hk25.size
  have hB33 := hB23.new hk25 (by omega)
  have hq34 := mem_rng (by decide) hq31
  refine SR.q' (r_as (v := .int .i64 _) rfl) <| SR.nil ?_
  refine W.seq ?_
  refine W.regS (SR.q' (r_mv (v := .int .i64 _) rfl) <| SR.q' (r_mv (v := .pointer (some _)) rfl) <| SR.call ent54 (c___spec_l1Cur__logRecord w24 L t27 s28 (hb29) ((((((hL).lo hk4).lo hk12).lo hk20).kp hk25 (fun b_ hb e' => by have e'' : b_ = g9 := e'; omega))) (by omega) (by omega)) rfl ?_)
  rintro e w35 ⟨v37, t38, s39, rfl, hb40, ht41, hq42, hk36⟩
  refine ⟨_, rfl, ?_⟩
  have hz43 := hk36.size
  have hB44 := hB33.new hk36 (by omega)
  refine SR.q' (r_as (v := .int .i64 _) rfl) <| SR.store (o := 0) (vs := [str v37.Command, str v37.Reply]) agg27.2 rfl rfl rfl rfl (((((hb6).lo hk12).lo hk20).kp hk25 (fun e' => by have e'' : g1 = g9 := e'; omega)).kp hk36 (fun e' => by have e'' : g1 = g9 := e'; omega)) (Nat.le_of_ble_eq_true rfl) rfl ?_
  intro w45 hk46 hs47 hb48
  have hz49 := hk46.size
  have hB50 := hB44.new hk46 (by omega)
  refine SR.nil ?_
  refine W.ret ?_
  refine retTC rfl (v := .int .i64 _) rfl rfl agg27 (hb48) rfl ?_
  exact ⟨v26, v37, eR (eT2 rfl rfl), (z_c_spec_DrawEncodeRecord_51 L nL hbdL hleL hp0 v26 t27 s28 ht30 hq31 hq34 v37 t38 s39 ht41 hq42), (z_c_spec_DrawEncodeRecord_52 L nL hbdL hleL hp0 v26 t27 s28 ht30 hq31 hq34 v37 t38 s39 ht41 hq42), hB50⟩

theorem z_c_spec_DrawRecoverLog_82 (L : List UInt8) (nL : Nat) (hbdL : (nL : Int) ≤ 9223372036854775807) (hleL : nL = L.length) (hp0 : (nL : Int) ≤ 65536) (v11 : Log) (t12 : Int) (s13 : Int) (ht15 : 0 ≤ t12 ∧ t12 ≤ 0 + 64) (hq16 : LogOK v11) (hq19 : v11.Durable.length + v11.Pending.length ≤ 24360 ∧ 0 ≤ v11.Count ∧ v11.Count ≤ 60) (v36 : Int) (t37 : Int) (s38 : Int) (ht40 : t12 ≤ t37 ∧ t37 ≤ t12 + 2) (hq41 : (0 : Int) ≤ v36 ∧ ((v36 : Int) < 4 ∨ (v36 : Int) = 0)) (h44 : v36 = 0) (v47 : List UInt8) (t48 : Int) (s49 : Int) (ht51 : t37 ≤ t48 ∧ t48 ≤ t37 + 6) (hq52 : v47.length ≤ (v11.Durable ++ v11.Pending).length + 1) (v57 : Bool) (t58 : Int) (s59 : Int) (ht61 : t48 ≤ t58 ∧ t58 ≤ t48 + 2) (h64 : v57 = true) (v67 : Int) (t68 : Int) (s69 : Int) (ht71 : t58 ≤ t68 ∧ t68 ≤ t58 + 2) (hq72 : (0 : Int) ≤ v67 ∧ ((v67 : Int) < 2 ∨ (v67 : Int) = 0)) : (List.replicate ((30000 + v67).toNat) (0 : UInt8)).length ≤ 60000 := by
  first | omega | (simp only [List.length_append, List.length_take, List.length_replicate] at *; omega)
theorem z_c_spec_DrawRecoverLog_83 (L : List UInt8) (nL : Nat) (hbdL : (nL : Int) ≤ 9223372036854775807) (hleL : nL = L.length) (hp0 : (nL : Int) ≤ 65536) (v11 : Log) (t12 : Int) (s13 : Int) (ht15 : 0 ≤ t12 ∧ t12 ≤ 0 + 64) (hq16 : LogOK v11) (hq19 : v11.Durable.length + v11.Pending.length ≤ 24360 ∧ 0 ≤ v11.Count ∧ v11.Count ≤ 60) (v36 : Int) (t37 : Int) (s38 : Int) (ht40 : t12 ≤ t37 ∧ t37 ≤ t12 + 2) (hq41 : (0 : Int) ≤ v36 ∧ ((v36 : Int) < 4 ∨ (v36 : Int) = 0)) (h44 : v36 = 0) (v47 : List UInt8) (t48 : Int) (s49 : Int) (ht51 : t37 ≤ t48 ∧ t48 ≤ t37 + 6) (hq52 : v47.length ≤ (v11.Durable ++ v11.Pending).length + 1) (v57 : Bool) (t58 : Int) (s59 : Int) (ht61 : t48 ≤ t58 ∧ t58 ≤ t48 + 2) (h64 : v57 = false) : v47.length ≤ 60000 := by
  first | omega | (simp only [List.length_append, List.length_take, List.length_replicate] at *; omega)
theorem z_c_spec_DrawRecoverLog_122 (L : List UInt8) (nL : Nat) (hbdL : (nL : Int) ≤ 9223372036854775807) (hleL : nL = L.length) (hp0 : (nL : Int) ≤ 65536) (v11 : Log) (t12 : Int) (s13 : Int) (ht15 : 0 ≤ t12 ∧ t12 ≤ 0 + 64) (hq16 : LogOK v11) (hq19 : v11.Durable.length + v11.Pending.length ≤ 24360 ∧ 0 ≤ v11.Count ∧ v11.Count ≤ 60) (v36 : Int) (t37 : Int) (s38 : Int) (ht40 : t12 ≤ t37 ∧ t37 ≤ t12 + 2) (hq41 : (0 : Int) ≤ v36 ∧ ((v36 : Int) < 4 ∨ (v36 : Int) = 0)) (h44 : ¬ (v36 = 0)) (h84 : v36 = 1) (v87 : Int) (t88 : Int) (s89 : Int) (ht91 : t37 ≤ t88 ∧ t88 ≤ t37 + 2) (hq92 : (0 : Int) ≤ v87 ∧ ((v87 : Int) < (((v11.Durable ++ v11.Pending).length : Int) + 1) ∨ (v87 : Int) = 0)) (v97 : Bool) (t98 : Int) (s99 : Int) (ht101 : t88 ≤ t98 ∧ t98 ≤ t88 + 2) (h104 : v97 = true) (v107 : Int) (t108 : Int) (s109 : Int) (ht111 : t98 ≤ t108 ∧ t108 ≤ t98 + 2) (hq112 : (0 : Int) ≤ v107 ∧ ((v107 : Int) < 2 ∨ (v107 : Int) = 0)) : (List.replicate ((30000 + v107).toNat) (0 : UInt8)).length ≤ 60000 := by
  first | omega | (simp only [List.length_append, List.length_take, List.length_replicate] at *; omega)
theorem z_c_spec_DrawRecoverLog_123 (L : List UInt8) (nL : Nat) (hbdL : (nL : Int) ≤ 9223372036854775807) (hleL : nL = L.length) (hp0 : (nL : Int) ≤ 65536) (v11 : Log) (t12 : Int) (s13 : Int) (ht15 : 0 ≤ t12 ∧ t12 ≤ 0 + 64) (hq16 : LogOK v11) (hq19 : v11.Durable.length + v11.Pending.length ≤ 24360 ∧ 0 ≤ v11.Count ∧ v11.Count ≤ 60) (v36 : Int) (t37 : Int) (s38 : Int) (ht40 : t12 ≤ t37 ∧ t37 ≤ t12 + 2) (hq41 : (0 : Int) ≤ v36 ∧ ((v36 : Int) < 4 ∨ (v36 : Int) = 0)) (h44 : ¬ (v36 = 0)) (h84 : v36 = 1) (v87 : Int) (t88 : Int) (s89 : Int) (ht91 : t37 ≤ t88 ∧ t88 ≤ t37 + 2) (hq92 : (0 : Int) ≤ v87 ∧ ((v87 : Int) < (((v11.Durable ++ v11.Pending).length : Int) + 1) ∨ (v87 : Int) = 0)) (v97 : Bool) (t98 : Int) (s99 : Int) (ht101 : t88 ≤ t98 ∧ t98 ≤ t88 + 2) (h104 : v97 = false) : ((v11.Durable ++ v11.Pending).take v87.toNat).length ≤ 60000 := by
  first | omega | (simp only [List.length_append, List.length_take, List.length_replicate] at *; omega)
theorem z_c_spec_DrawRecoverLog_177 (L : List UInt8) (nL : Nat) (hbdL : (nL : Int) ≤ 9223372036854775807) (hleL : nL = L.length) (hp0 : (nL : Int) ≤ 65536) (v11 : Log) (t12 : Int) (s13 : Int) (ht15 : 0 ≤ t12 ∧ t12 ≤ 0 + 64) (hq16 : LogOK v11) (hq19 : v11.Durable.length + v11.Pending.length ≤ 24360 ∧ 0 ≤ v11.Count ∧ v11.Count ≤ 60) (v36 : Int) (t37 : Int) (s38 : Int) (ht40 : t12 ≤ t37 ∧ t37 ≤ t12 + 2) (hq41 : (0 : Int) ≤ v36 ∧ ((v36 : Int) < 4 ∨ (v36 : Int) = 0)) (h44 : ¬ (v36 = 0)) (h84 : ¬ (v36 = 1)) (h124 : v36 = 2) (v127 : Int) (t128 : Int) (s129 : Int) (ht131 : t37 ≤ t128 ∧ t128 ≤ t37 + 2) (hq132 : (0 : Int) ≤ v127 ∧ ((v127 : Int) < 4 ∨ (v127 : Int) = 0)) (v137 : LogRecord) (t138 : Int) (s139 : Int) (ht141 : t128 ≤ t138 ∧ t138 ≤ t128 + 8) (hq142 : v137.Command.length ≤ 40 ∧ v137.Reply.length ≤ 40) (hq149 : (lineB v127 v137).length ≤ v137.Command.length + v137.Reply.length + 46) (v152 : Bool) (t153 : Int) (s154 : Int) (ht156 : t138 ≤ t153 ∧ t153 ≤ t138 + 2) (h159 : v152 = true) (v162 : Int) (t163 : Int) (s164 : Int) (ht166 : t153 ≤ t163 ∧ t163 ≤ t153 + 2) (hq167 : (0 : Int) ≤ v162 ∧ ((v162 : Int) < 2 ∨ (v162 : Int) = 0)) : (List.replicate ((30000 + v162).toNat) (0 : UInt8)).length ≤ 60000 := by
  first | omega | (simp only [List.length_append, List.length_take, List.length_replicate] at *; omega)
theorem z_c_spec_DrawRecoverLog_178 (L : List UInt8) (nL : Nat) (hbdL : (nL : Int) ≤ 9223372036854775807) (hleL : nL = L.length) (hp0 : (nL : Int) ≤ 65536) (v11 : Log) (t12 : Int) (s13 : Int) (ht15 : 0 ≤ t12 ∧ t12 ≤ 0 + 64) (hq16 : LogOK v11) (hq19 : v11.Durable.length + v11.Pending.length ≤ 24360 ∧ 0 ≤ v11.Count ∧ v11.Count ≤ 60) (v36 : Int) (t37 : Int) (s38 : Int) (ht40 : t12 ≤ t37 ∧ t37 ≤ t12 + 2) (hq41 : (0 : Int) ≤ v36 ∧ ((v36 : Int) < 4 ∨ (v36 : Int) = 0)) (h44 : ¬ (v36 = 0)) (h84 : ¬ (v36 = 1)) (h124 : v36 = 2) (v127 : Int) (t128 : Int) (s129 : Int) (ht131 : t37 ≤ t128 ∧ t128 ≤ t37 + 2) (hq132 : (0 : Int) ≤ v127 ∧ ((v127 : Int) < 4 ∨ (v127 : Int) = 0)) (v137 : LogRecord) (t138 : Int) (s139 : Int) (ht141 : t128 ≤ t138 ∧ t138 ≤ t128 + 8) (hq142 : v137.Command.length ≤ 40 ∧ v137.Reply.length ≤ 40) (hq149 : (lineB v127 v137).length ≤ v137.Command.length + v137.Reply.length + 46) (v152 : Bool) (t153 : Int) (s154 : Int) (ht156 : t138 ≤ t153 ∧ t153 ≤ t138 + 2) (h159 : v152 = false) : ((v11.Durable ++ v11.Pending) ++ (lineB v127 v137)).length ≤ 60000 := by
  first | omega | (simp only [List.length_append, List.length_take, List.length_replicate] at *; omega)
theorem z_c_spec_DrawRecoverLog_206 (L : List UInt8) (nL : Nat) (hbdL : (nL : Int) ≤ 9223372036854775807) (hleL : nL = L.length) (hp0 : (nL : Int) ≤ 65536) (v11 : Log) (t12 : Int) (s13 : Int) (ht15 : 0 ≤ t12 ∧ t12 ≤ 0 + 64) (hq16 : LogOK v11) (hq19 : v11.Durable.length + v11.Pending.length ≤ 24360 ∧ 0 ≤ v11.Count ∧ v11.Count ≤ 60) (v36 : Int) (t37 : Int) (s38 : Int) (ht40 : t12 ≤ t37 ∧ t37 ≤ t12 + 2) (hq41 : (0 : Int) ≤ v36 ∧ ((v36 : Int) < 4 ∨ (v36 : Int) = 0)) (h44 : ¬ (v36 = 0)) (h84 : ¬ (v36 = 1)) (h124 : ¬ (v36 = 2)) (v181 : Bool) (t182 : Int) (s183 : Int) (ht185 : t37 ≤ t182 ∧ t182 ≤ t37 + 2) (h188 : v181 = true) (v191 : Int) (t192 : Int) (s193 : Int) (ht195 : t182 ≤ t192 ∧ t192 ≤ t182 + 2) (hq196 : (0 : Int) ≤ v191 ∧ ((v191 : Int) < 2 ∨ (v191 : Int) = 0)) : (List.replicate ((30000 + v191).toNat) (0 : UInt8)).length ≤ 60000 := by
  first | omega | (simp only [List.length_append, List.length_take, List.length_replicate] at *; omega)
theorem z_c_spec_DrawRecoverLog_207 (L : List UInt8) (nL : Nat) (hbdL : (nL : Int) ≤ 9223372036854775807) (hleL : nL = L.length) (hp0 : (nL : Int) ≤ 65536) (v11 : Log) (t12 : Int) (s13 : Int) (ht15 : 0 ≤ t12 ∧ t12 ≤ 0 + 64) (hq16 : LogOK v11) (hq19 : v11.Durable.length + v11.Pending.length ≤ 24360 ∧ 0 ≤ v11.Count ∧ v11.Count ≤ 60) (v36 : Int) (t37 : Int) (s38 : Int) (ht40 : t12 ≤ t37 ∧ t37 ≤ t12 + 2) (hq41 : (0 : Int) ≤ v36 ∧ ((v36 : Int) < 4 ∨ (v36 : Int) = 0)) (h44 : ¬ (v36 = 0)) (h84 : ¬ (v36 = 1)) (h124 : ¬ (v36 = 2)) (v181 : Bool) (t182 : Int) (s183 : Int) (ht185 : t37 ≤ t182 ∧ t182 ≤ t37 + 2) (h188 : v181 = false) : (v11.Durable ++ v11.Pending).length ≤ 60000 := by
  first | omega | (simp only [List.length_append, List.length_take, List.length_replicate] at *; omega)
theorem c_spec_DrawRecoverLog (w : World) {AL : Option Addr} {nL cL BL : Nat}  (L : List UInt8) (hL : SlR w BL encB 1 AL nL cL L) (hp0 : (nL : Int) ≤ 65536) : Calls Tryd.prog 37 #[.slice AL nL cL] w fun e w' => ∃ (v : List UInt8), e = .returned (str v) ∧ (v.length ≤ 60000) ∧ Lo w w' := by
  refine calls_W 49 Tryd.func37 rfl rfl rfl ?_
  have hbdL := hL.bound
  have hleL := hL.len
  have hBbL := hL.bd
  refine W.seq ?_
  refine W.regS (SR.q' (r_as (v := str ([] : List UInt8)) rfl) <| SR.nil ?_)
  refine W.seq ?_
  refine W.regS (SR.q' (r_mv (v := .slice _ _ _) rfl) <| SR.q' (r_build (vs := [(0, .slice AL nL cL)]) rfl (bld72_0 _ _ _)) <| SR.box (v := .agg (List.toArray _)) (l := [.slice AL nL cL, .int .i64 0, .int .u64 0]) rfl rfl ?_)
  intro g1 w2 hg3 hk4 hs5 hb6
  have hz7 := hk4.size
  have hB8 := (Lo.refl w).lo hk4
  refine SR.q' (r_as (v := .pointer (some _)) rfl) <| SR.nil ?_
  refine W.seq ?_
  refine W.regS (SR.q' (r_mv (v := .pointer (some _)) rfl) <| SR.call ent55 (c___spec_l1Cur__log w2 L 0 0 (hb6) (((hL).lo hk4)) (by omega) (by omega)) rfl ?_)
  rintro e w9 ⟨v11, t12, s13, rfl, hb14, ht15, hq16, hk10⟩
  refine ⟨_, rfl, ?_⟩
  have hz17 := hk10.size
  have hB18 := hB8.new hk10 (by omega)
  have hq19 := log_rng hq16
  refine SR.alloc (l := [str ([] : List UInt8), str ([] : List UInt8), .int .i64 0]) tz31 rfl ?_
  intro g20 w21 hg22 hk23 hs24 hb25
  have hz26 := hk23.size
  have hB27 := hB18.lo hk23
  refine SR.store (o := 0) (vs := [str v11.Durable, str v11.Pending, .int .i64 v11.Count]) agg31.2 rfl rfl rfl rfl (hb25) (Nat.le_of_ble_eq_true rfl) rfl ?_
  intro w28 hk29 hs30 hb31
  have hz32 := hk29.size
  have hB33 := hB27.new hk29 (by omega)
  refine SR.nil ?_
  refine W.seq ?_
  refine W.regS (SR.q' (r_fa fa31_0 rfl) <| SR.q' (r_ld (v := str v11.Durable) sca9 rfl ((hb31).cell rfl)) <| SR.q' (r_fa fa31_1 rfl) <| SR.q' (r_ld (v := str v11.Pending) sca9 rfl ((hb31).cell rfl)) <| SR.q' (r_cat rfl rfl (by first | omega | (simp only [List.length_append, List.length_cons, List.length_nil, List.length_take, List.length_drop] at *; omega))) <| SR.q' (r_as (v := str _) rfl) <| SR.nil ?_)
  refine W.seq ?_
  refine W.seq ?_
  refine W.regS (SR.q' (r_mv (v := .pointer (some _)) rfl) <| SR.call ent56 (c___spec_l1Cur__pick w28 L t12 s13 (((hb14).lo hk23).kp hk29 (fun e' => by have e'' : g1 = g20 := e'; omega)) ((((((hL).lo hk4).kp hk10 (fun b_ hb e' => by have e'' : b_ = g1 := e'; omega)).lo hk23).kp hk29 (fun b_ hb e' => by have e'' : b_ = g20 := e'; omega))) (by omega) (by omega) 4 (by first | omega | (simp only [List.length_append, List.length_cons, List.length_nil, List.length_take, List.length_drop]; omega))) rfl ?_)
  rintro e w34 ⟨v36, t37, s38, rfl, hb39, ht40, hq41, hk35⟩
  refine ⟨_, rfl, ?_⟩
  have hz42 := hk35.size
  have hB43 := hB33.new hk35 (by omega)
  refine SR.nil ?_
  refine W.block ?_
  refine W.seq ?_
  refine W.regS (SR.q' (r_eq rfl rfl) <| SR.q' (r_as (v := .bool _) rfl) <| SR.nil ?_)
  refine W.cond_d rfl (fun h44 => ?_) (fun h44 => ?_)
  · refine W.regS (SR.q' (r_mv (v := .pointer (some _)) rfl) <| SR.q' (r_mv (v := str _) rfl) <| SR.call ent57 (c___spec_l1Cur__spoilt w34 L t37 s38 (hb39) (((((((hL).lo hk4).kp hk10 (fun b_ hb e' => by have e'' : b_ = g1 := e'; omega)).lo hk23).kp hk29 (fun b_ hb e' => by have e'' : b_ = g20 := e'; omega)).kp hk35 (fun b_ hb e' => by have e'' : b_ = g1 := e'; omega))) (by omega) (by omega) (v11.Durable ++ v11.Pending) ([35, 64, 10, 48, 49] : List UInt8) (by first | omega | (simp only [List.length_append, List.length_cons, List.length_nil, List.length_take, List.length_drop]; omega)) (by first | omega | decide | (simp; done))) rfl ?_)
    rintro e w45 ⟨v47, t48, s49, rfl, hb50, ht51, hq52, hk46⟩
    refine ⟨_, rfl, ?_⟩
    have hz53 := hk46.size
    have hB54 := hB43.new hk46 (by omega)
    refine SR.q' (r_as (v := str _) rfl) <| SR.nil ?_
    refine W.seq ?_
    refine W.seq ?_
    refine W.regS (SR.q' (r_mv (v := .pointer (some _)) rfl) <| SR.call ent58 (c___spec_l1Cur__one w45 L t48 s49 (hb50) ((((((((hL).lo hk4).kp hk10 (fun b_ hb e' => by have e'' : b_ = g1 := e'; omega)).lo hk23).kp hk29 (fun b_ hb e' => by have e'' : b_ = g20 := e'; omega)).kp hk35 (fun b_ hb e' => by have e'' : b_ = g1 := e'; omega)).kp hk46 (fun b_ hb e' => by have e'' : b_ = g1 := e'; omega))) (by omega) (by omega) 40 (by first | omega | (simp only [List.length_append, List.length_cons, List.length_nil, List.length_take, List.length_drop]; omega))) rfl ?_)
    rintro e w55 ⟨v57, t58, s59, rfl, hb60, ht61, hk56⟩
    refine ⟨_, rfl, ?_⟩
    have hz62 := hk56.size
    have hB63 := hB54.new hk56 (by omega)
    refine SR.nil ?_
    refine W.cond_b rfl (fun h64 => ?_) (fun h64 => ?_)
    · refine W.regS (SR.q' (r_mv (v := .pointer (some _)) rfl) <| SR.call ent56 (c___spec_l1Cur__pick w55 L t58 s59 (hb60) (((((((((hL).lo hk4).kp hk10 (fun b_ hb e' => by have e'' : b_ = g1 := e'; omega)).lo hk23).kp hk29 (fun b_ hb e' => by have e'' : b_ = g20 := e'; omega)).kp hk35 (fun b_ hb e' => by have e'' : b_ = g1 := e'; omega)).kp hk46 (fun b_ hb e' => by have e'' : b_ = g1 := e'; omega)).kp hk56 (fun b_ hb e' => by have e'' : b_ = g1 := e'; omega))) (by omega) (by omega) 2 (by first | omega | (simp only [List.length_append, List.length_cons, List.length_nil, List.length_take, List.length_drop]; omega))) rfl ?_)
      rintro e w65 ⟨v67, t68, s69, rfl, hb70, ht71, hq72, hk66⟩
      refine ⟨_, rfl, ?_⟩
      have hz73 := hk66.size
      have hB74 := hB63.new hk66 (by omega)
      refine SR.q' (r_add rfl rfl (by first | omega | (simp only [List.length_append, List.length_cons, List.length_nil, List.length_take, List.length_drop] at *; omega))) <| SR.make (m := (30000 + v67).toNat) (zx := (0 : UInt8)) (enc := encB) tel53 rfl (fun _ => rfl) (show _ = Value.int .i64 ((30000 + v67).toNat : Int) from congrArg (Value.int .i64) (by omega : 30000 + v67 = ((30000 + v67).toNat : Int))) (show _ = Value.int .i64 ((30000 + v67).toNat : Int) from congrArg (Value.int .i64) (by omega : 30000 + v67 = ((30000 + v67).toNat : Int))) (by omega) (by omega) ?_
      intro g75 w76 hg77 hk78 hO79
      have hz80 := hk78.size
      have hB81 := hB74.lo hk78
      refine SR.q' (r_ofB und53 und5 und9 rfl ((hO79).rd)) <| SR.q' (r_as (v := str _) rfl) <| SR.nil ?_
      refine W.seq ?_
      refine W.regS (SR.q' (r_mv (v := str _) rfl) <| SR.q' (r_as (v := str _) rfl) <| SR.nil ?_)
      refine W.ret ?_
      refine ret1 rfl (v := str _) rfl ?_
      exact ⟨(List.replicate ((30000 + v67).toNat) (0 : UInt8)), eR rfl, (z_c_spec_DrawRecoverLog_82 L nL hbdL hleL hp0 v11 t12 s13 ht15 hq16 hq19 v36 t37 s38 ht40 hq41 h44 v47 t48 s49 ht51 hq52 v57 t58 s59 ht61 h64 v67 t68 s69 ht71 hq72), hB81⟩
    · refine W.skip ?_
      refine W.seq ?_
      refine W.regS (SR.q' (r_mv (v := str _) rfl) <| SR.q' (r_as (v := str _) rfl) <| SR.nil ?_)
      refine W.ret ?_
      refine ret1 rfl (v := str _) rfl ?_
      exact ⟨v47, eR rfl, (z_c_spec_DrawRecoverLog_83 L nL hbdL hleL hp0 v11 t12 s13 ht15 hq16 hq19 v36 t37 s38 ht40 hq41 h44 v47 t48 s49 ht51 hq52 v57 t58 s59 ht61 h64), hB63⟩
  · refine W.seq ?_
    refine W.regS (SR.q' (r_eq rfl rfl) <| SR.q' (r_as (v := .bool _) rfl) <| SR.nil ?_)
    refine W.cond_d rfl (fun h84 => ?_) (fun h84 => ?_)
    · refine W.regS (SR.q' (r_mv (v := str _) rfl) <| SR.q' (r_mv (v := .pointer (some _)) rfl) <| SR.q' (r_mv (v := str _) rfl) <| SR.q' (r_len_s und9 rfl) <| SR.q' (r_add rfl rfl (by first | omega | (simp only [List.length_append, List.length_cons, List.length_nil, List.length_take, List.length_drop] at *; omega))) <| SR.call ent56 (c___spec_l1Cur__pick w34 L t37 s38 (hb39) (((((((hL).lo hk4).kp hk10 (fun b_ hb e' => by have e'' : b_ = g1 := e'; omega)).lo hk23).kp hk29 (fun b_ hb e' => by have e'' : b_ = g20 := e'; omega)).kp hk35 (fun b_ hb e' => by have e'' : b_ = g1 := e'; omega))) (by omega) (by omega) (((v11.Durable ++ v11.Pending).length : Int) + 1) (by first | omega | (simp only [List.length_append, List.length_cons, List.length_nil, List.length_take, List.length_drop]; omega))) rfl ?_)
      rintro e w85 ⟨v87, t88, s89, rfl, hb90, ht91, hq92, hk86⟩
      refine ⟨_, rfl, ?_⟩
      have hz93 := hk86.size
      have hB94 := hB43.new hk86 (by omega)
      refine SR.q' (r_cuthS (h := v87.toNat) und9 rfl rfl (by omega) (by first | omega | (simp only [List.length_append, List.length_cons, List.length_nil, List.length_take, List.length_drop]; omega) | (simp only [List.length_append, List.length_cons, List.length_nil, List.length_take, List.length_drop] at *; omega))) <| SR.q' (r_as (v := str _) rfl) <| SR.nil ?_
      refine W.seq ?_
      refine W.seq ?_
      refine W.regS (SR.q' (r_mv (v := .pointer (some _)) rfl) <| SR.call ent58 (c___spec_l1Cur__one w85 L t88 s89 (hb90) ((((((((hL).lo hk4).kp hk10 (fun b_ hb e' => by have e'' : b_ = g1 := e'; omega)).lo hk23).kp hk29 (fun b_ hb e' => by have e'' : b_ = g20 := e'; omega)).kp hk35 (fun b_ hb e' => by have e'' : b_ = g1 := e'; omega)).kp hk86 (fun b_ hb e' => by have e'' : b_ = g1 := e'; omega))) (by omega) (by omega) 40 (by first | omega | (simp only [List.length_append, List.length_cons, List.length_nil, List.length_take, List.length_drop]; omega))) rfl ?_)
      rintro e w95 ⟨v97, t98, s99, rfl, hb100, ht101, hk96⟩
      refine ⟨_, rfl, ?_⟩
      have hz102 := hk96.size
      have hB103 := hB94.new hk96 (by omega)
      refine SR.nil ?_
      refine W.cond_b rfl (fun h104 => ?_) (fun h104 => ?_)
      · refine W.regS (SR.q' (r_mv (v := .pointer (some _)) rfl) <| SR.call ent56 (c___spec_l1Cur__pick w95 L t98 s99 (hb100) (((((((((hL).lo hk4).kp hk10 (fun b_ hb e' => by have e'' : b_ = g1 := e'; omega)).lo hk23).kp hk29 (fun b_ hb e' => by have e'' : b_ = g20 := e'; omega)).kp hk35 (fun b_ hb e' => by have e'' : b_ = g1 := e'; omega)).kp hk86 (fun b_ hb e' => by have e'' : b_ = g1 := e'; omega)).kp hk96 (fun b_ hb e' => by have e'' : b_ = g1 := e'; omega))) (by omega) (by omega) 2 (by first | omega | (simp only [List.length_append, List.length_cons, List.length_nil, List.length_take, List.length_drop]; omega))) rfl ?_)
        rintro e w105 ⟨v107, t108, s109, rfl, hb110, ht111, hq112, hk106⟩
        refine ⟨_, rfl, ?_⟩
        have hz113 := hk106.size
        have hB114 := hB103.new hk106 (by omega)
        refine SR.q' (r_add rfl rfl (by first | omega | (simp only [List.length_append, List.length_cons, List.length_nil, List.length_take, List.length_drop] at *; omega))) <| SR.make (m := (30000 + v107).toNat) (zx := (0 : UInt8)) (enc := encB) tel53 rfl (fun _ => rfl) (show _ = Value.int .i64 ((30000 + v107).toNat : Int) from congrArg (Value.int .i64) (by omega : 30000 + v107 = ((30000 + v107).toNat : Int))) (show _ = Value.int .i64 ((30000 + v107).toNat : Int) from congrArg (Value.int .i64) (by omega : 30000 + v107 = ((30000 + v107).toNat : Int))) (by omega) (by omega) ?_
        intro g115 w116 hg117 hk118 hO119
        have hz120 := hk118.size
        have hB121 := hB114.lo hk118
        refine SR.q' (r_ofB und53 und5 und9 rfl ((hO119).rd)) <| SR.q' (r_as (v := str _) rfl) <| SR.nil ?_
        refine W.seq ?_
        refine W.regS (SR.q' (r_mv (v := str _) rfl) <| SR.q' (r_as (v := str _) rfl) <| SR.nil ?_)
        refine W.ret ?_
        refine ret1 rfl (v := str _) rfl ?_
        exact ⟨(List.replicate ((30000 + v107).toNat) (0 : UInt8)), eR rfl, (z_c_spec_DrawRecoverLog_122 L nL hbdL hleL hp0 v11 t12 s13 ht15 hq16 hq19 v36 t37 s38 ht40 hq41 h44 h84 v87 t88 s89 ht91 hq92 v97 t98 s99 ht101 h104 v107 t108 s109 ht111 hq112), hB121⟩
      · refine W.skip ?_
        refine W.seq ?_
        refine W.regS (SR.q' (r_mv (v := str _) rfl) <| SR.q' (r_as (v := str _) rfl) <| SR.nil ?_)
        refine W.ret ?_
        refine ret1 rfl (v := str _) rfl ?_
        exact ⟨((v11.Durable ++ v11.Pending).take v87.toNat), eR rfl, (z_c_spec_DrawRecoverLog_123 L nL hbdL hleL hp0 v11 t12 s13 ht15 hq16 hq19 v36 t37 s38 ht40 hq41 h44 h84 v87 t88 s89 ht91 hq92 v97 t98 s99 ht101 h104), hB103⟩
    · refine W.seq ?_
      refine W.regS (SR.q' (r_eq rfl rfl) <| SR.q' (r_as (v := .bool _) rfl) <| SR.nil ?_)
      refine W.cond_d rfl (fun h124 => ?_) (fun h124 => ?_)
      · refine W.regS (SR.q' (r_mv (v := str _) rfl) <| SR.q' (r_mv (v := .pointer (some _)) rfl) <| SR.call ent56 (c___spec_l1Cur__pick w34 L t37 s38 (hb39) (((((((hL).lo hk4).kp hk10 (fun b_ hb e' => by have e'' : b_ = g1 := e'; omega)).lo hk23).kp hk29 (fun b_ hb e' => by have e'' : b_ = g20 := e'; omega)).kp hk35 (fun b_ hb e' => by have e'' : b_ = g1 := e'; omega))) (by omega) (by omega) 4 (by first | omega | (simp only [List.length_append, List.length_cons, List.length_nil, List.length_take, List.length_drop]; omega))) rfl ?_)
        rintro e w125 ⟨v127, t128, s129, rfl, hb130, ht131, hq132, hk126⟩
        refine ⟨_, rfl, ?_⟩
        have hz133 := hk126.size
        have hB134 := hB43.new hk126 (by omega)
        refine SR.q' (r_mv (v := .pointer (some _)) rfl) <| SR.call ent54 (c___spec_l1Cur__logRecord w125 L t128 s129 (hb130) ((((((((hL).lo hk4).kp hk10 (fun b_ hb e' => by have e'' : b_ = g1 := e'; omega)).lo hk23).kp hk29 (fun b_ hb e' => by have e'' : b_ = g20 := e'; omega)).kp hk35 (fun b_ hb e' => by have e'' : b_ = g1 := e'; omega)).kp hk126 (fun b_ hb e' => by have e'' : b_ = g1 := e'; omega))) (by omega) (by omega)) rfl ?_
        rintro e w135 ⟨v137, t138, s139, rfl, hb140, ht141, hq142, hk136⟩
        refine ⟨_, rfl, ?_⟩
        have hz143 := hk136.size
        have hB144 := hB134.new hk136 (by omega)
        refine SR.call ent44 (c_spec_l33Line w135 v127 v137 (by omega) (by first | omega | (dsimp only; omega) | (dsimp only; simp only [List.length_drop]; omega))) rfl ?_
        rintro e w145 ⟨rfl, hk146⟩
        refine ⟨_, rfl, ?_⟩
        have hz147 := hk146.size
        have hB148 := hB144.lo hk146
        have hq149 : (lineB v127 v137).length ≤ v137.Command.length + v137.Reply.length + 46 := line_lenG (k := v127) (e := v137) (by omega)
        refine SR.q' (r_cat rfl rfl (by first | omega | (simp only [List.length_append, List.length_cons, List.length_nil, List.length_take, List.length_drop] at *; omega))) <| SR.q' (r_as (v := str _) rfl) <| SR.nil ?_
        refine W.seq ?_
        refine W.seq ?_
        refine W.regS (SR.q' (r_mv (v := .pointer (some _)) rfl) <| SR.call ent58 (c___spec_l1Cur__one w145 L t138 s139 ((hb140).lo hk146) ((((((((((hL).lo hk4).kp hk10 (fun b_ hb e' => by have e'' : b_ = g1 := e'; omega)).lo hk23).kp hk29 (fun b_ hb e' => by have e'' : b_ = g20 := e'; omega)).kp hk35 (fun b_ hb e' => by have e'' : b_ = g1 := e'; omega)).kp hk126 (fun b_ hb e' => by have e'' : b_ = g1 := e'; omega)).kp hk136 (fun b_ hb e' => by have e'' : b_ = g1 := e'; omega)).lo hk146)) (by omega) (by omega) 40 (by first | omega | (simp only [List.length_append, List.length_cons, List.length_nil, List.length_take, List.length_drop]; omega))) rfl ?_)
        rintro e w150 ⟨v152, t153, s154, rfl, hb155, ht156, hk151⟩
        refine ⟨_, rfl, ?_⟩
        have hz157 := hk151.size
        have hB158 := hB148.new hk151 (by omega)
        refine SR.nil ?_
        refine W.cond_b rfl (fun h159 => ?_) (fun h159 => ?_)
        · refine W.regS (SR.q' (r_mv (v := .pointer (some _)) rfl) <| SR.call ent56 (c___spec_l1Cur__pick w150 L t153 s154 (hb155) (((((((((((hL).lo hk4).kp hk10 (fun b_ hb e' => by have e'' : b_ = g1 := e'; omega)).lo hk23).kp hk29 (fun b_ hb e' => by have e'' : b_ = g20 := e'; omega)).kp hk35 (fun b_ hb e' => by have e'' : b_ = g1 := e'; omega)).kp hk126 (fun b_ hb e' => by have e'' : b_ = g1 := e'; omega)).kp hk136 (fun b_ hb e' => by have e'' : b_ = g1 := e'; omega)).lo hk146).kp hk151 (fun b_ hb e' => by have e'' : b_ = g1 := e'; omega))) (by omega) (by omega) 2 (by first | omega | (simp only [List.length_append, List.length_cons, List.length_nil, List.length_take, List.length_drop]; omega))) rfl ?_)
          rintro e w160 ⟨v162, t163, s164, rfl, hb165, ht166, hq167, hk161⟩
          refine ⟨_, rfl, ?_⟩
          have hz168 := hk161.size
          have hB169 := hB158.new hk161 (by omega)
          refine SR.q' (r_add rfl rfl (by first | omega | (simp only [List.length_append, List.length_cons, List.length_nil, List.length_take, List.length_drop] at *; omega))) <| SR.make (m := (30000 + v162).toNat) (zx := (0 : UInt8)) (enc := encB) tel53 rfl (fun _ => rfl) (show _ = Value.int .i64 ((30000 + v162).toNat : Int) from congrArg (Value.int .i64) (by omega : 30000 + v162 = ((30000 + v162).toNat : Int))) (show _ = Value.int .i64 ((30000 + v162).toNat : Int) from congrArg (Value.int .i64) (by omega : 30000 + v162 = ((30000 + v162).toNat : Int))) (by omega) (by omega) ?_
          intro g170 w171 hg172 hk173 hO174
          have hz175 := hk173.size
          have hB176 := hB169.lo hk173
          refine SR.q' (r_ofB und53 und5 und9 rfl ((hO174).rd)) <| SR.q' (r_as (v := str _) rfl) <| SR.nil ?_
          refine W.seq ?_
          refine W.regS (SR.q' (r_mv (v := str _) rfl) <| SR.q' (r_as (v := str _) rfl) <| SR.nil ?_)
          refine W.ret ?_
          refine ret1 rfl (v := str _) rfl ?_
          exact ⟨(List.replicate ((30000 + v162).toNat) (0 : UInt8)), eR rfl, (z_c_spec_DrawRecoverLog_177 L nL hbdL hleL hp0 v11 t12 s13 ht15 hq16 hq19 v36 t37 s38 ht40 hq41 h44 h84 h124 v127 t128 s129 ht131 hq132 v137 t138 s139 ht141 hq142 hq149 v152 t153 s154 ht156 h159 v162 t163 s164 ht166 hq167), hB176⟩
        · refine W.skip ?_
          refine W.seq ?_
          refine W.regS (SR.q' (r_mv (v := str _) rfl) <| SR.q' (r_as (v := str _) rfl) <| SR.nil ?_)
          refine W.ret ?_
          refine ret1 rfl (v := str _) rfl ?_
          exact ⟨((v11.Durable ++ v11.Pending) ++ (lineB v127 v137)), eR rfl, (z_c_spec_DrawRecoverLog_178 L nL hbdL hleL hp0 v11 t12 s13 ht15 hq16 hq19 v36 t37 s38 ht40 hq41 h44 h84 h124 v127 t128 s129 ht131 hq132 v137 t138 s139 ht141 hq142 hq149 v152 t153 s154 ht156 h159), hB158⟩
      · refine W.skip ?_
        refine W.seq ?_
        refine W.seq ?_
        refine W.regS (SR.q' (r_mv (v := .pointer (some _)) rfl) <| SR.call ent58 (c___spec_l1Cur__one w34 L t37 s38 (hb39) (((((((hL).lo hk4).kp hk10 (fun b_ hb e' => by have e'' : b_ = g1 := e'; omega)).lo hk23).kp hk29 (fun b_ hb e' => by have e'' : b_ = g20 := e'; omega)).kp hk35 (fun b_ hb e' => by have e'' : b_ = g1 := e'; omega))) (by omega) (by omega) 40 (by first | omega | (simp only [List.length_append, List.length_cons, List.length_nil, List.length_take, List.length_drop]; omega))) rfl ?_)
        rintro e w179 ⟨v181, t182, s183, rfl, hb184, ht185, hk180⟩
        refine ⟨_, rfl, ?_⟩
        have hz186 := hk180.size
        have hB187 := hB43.new hk180 (by omega)
        refine SR.nil ?_
        refine W.cond_b rfl (fun h188 => ?_) (fun h188 => ?_)
        · refine W.regS (SR.q' (r_mv (v := .pointer (some _)) rfl) <| SR.call ent56 (c___spec_l1Cur__pick w179 L t182 s183 (hb184) ((((((((hL).lo hk4).kp hk10 (fun b_ hb e' => by have e'' : b_ = g1 := e'; omega)).lo hk23).kp hk29 (fun b_ hb e' => by have e'' : b_ = g20 := e'; omega)).kp hk35 (fun b_ hb e' => by have e'' : b_ = g1 := e'; omega)).kp hk180 (fun b_ hb e' => by have e'' : b_ = g1 := e'; omega))) (by omega) (by omega) 2 (by first | omega | (simp only [List.length_append, List.length_cons, List.length_nil, List.length_take, List.length_drop]; omega))) rfl ?_)
          rintro e w189 ⟨v191, t192, s193, rfl, hb194, ht195, hq196, hk190⟩
          refine ⟨_, rfl, ?_⟩
          have hz197 := hk190.size
          have hB198 := hB187.new hk190 (by omega)
          refine SR.q' (r_add rfl rfl (by first | omega | (simp only [List.length_append, List.length_cons, List.length_nil, List.length_take, List.length_drop] at *; omega))) <| SR.make (m := (30000 + v191).toNat) (zx := (0 : UInt8)) (enc := encB) tel53 rfl (fun _ => rfl) (show _ = Value.int .i64 ((30000 + v191).toNat : Int) from congrArg (Value.int .i64) (by omega : 30000 + v191 = ((30000 + v191).toNat : Int))) (show _ = Value.int .i64 ((30000 + v191).toNat : Int) from congrArg (Value.int .i64) (by omega : 30000 + v191 = ((30000 + v191).toNat : Int))) (by omega) (by omega) ?_
          intro g199 w200 hg201 hk202 hO203
          have hz204 := hk202.size
          have hB205 := hB198.lo hk202
          refine SR.q' (r_ofB und53 und5 und9 rfl ((hO203).rd)) <| SR.q' (r_as (v := str _) rfl) <| SR.nil ?_
          refine W.seq ?_
          refine W.regS (SR.q' (r_mv (v := str _) rfl) <| SR.q' (r_as (v := str _) rfl) <| SR.nil ?_)
          refine W.ret ?_
          refine ret1 rfl (v := str _) rfl ?_
          exact ⟨(List.replicate ((30000 + v191).toNat) (0 : UInt8)), eR rfl, (z_c_spec_DrawRecoverLog_206 L nL hbdL hleL hp0 v11 t12 s13 ht15 hq16 hq19 v36 t37 s38 ht40 hq41 h44 h84 h124 v181 t182 s183 ht185 h188 v191 t192 s193 ht195 hq196), hB205⟩
        · refine W.skip ?_
          refine W.seq ?_
          refine W.regS (SR.q' (r_mv (v := str _) rfl) <| SR.q' (r_as (v := str _) rfl) <| SR.nil ?_)
          refine W.ret ?_
          refine ret1 rfl (v := str _) rfl ?_
          exact ⟨(v11.Durable ++ v11.Pending), eR rfl, (z_c_spec_DrawRecoverLog_207 L nL hbdL hleL hp0 v11 t12 s13 ht15 hq16 hq19 v36 t37 s38 ht40 hq41 h44 h84 h124 v181 t182 s183 ht185 h188), hB187⟩

theorem z_c_spec_DrawAppendRecord_75 (L : List UInt8) (nL : Nat) (hbdL : (nL : Int) ≤ 9223372036854775807) (hleL : nL = L.length) (hp0 : (nL : Int) ≤ 65536) (v27 : Log) (t28 : Int) (s29 : Int) (ht31 : 0 ≤ t28 ∧ t28 ≤ 0 + 72) (hq32 : v27.Durable.length ≤ 60000 ∧ v27.Pending.length ≤ 60000 ∧ -1 ≤ v27.Count ∧ v27.Count ≤ 100) (v51 : Bool) (t52 : Int) (s53 : Int) (ht55 : t28 ≤ t52 ∧ t52 ≤ t28 + 2) (h58 : v51 = true) (v67 : Int) (t68 : Int) (s69 : Int) (ht71 : t52 ≤ t68 ∧ t68 ≤ t52 + 2) (hq72 : (0 : Int) ≤ v67 ∧ ((v67 : Int) < 2 ∨ (v67 : Int) = 0)) : (0 ≤ 59 + v67 ∧ 59 + v67 ≤ 60) ∧ LogOK (⟨([] : List UInt8), ([] : List UInt8), 0⟩ : Log) := by
  exact ⟨by omega, nil_log⟩
theorem z_c_spec_DrawAppendRecord_76 (L : List UInt8) (nL : Nat) (hbdL : (nL : Int) ≤ 9223372036854775807) (hleL : nL = L.length) (hp0 : (nL : Int) ≤ 65536) (v27 : Log) (t28 : Int) (s29 : Int) (ht31 : 0 ≤ t28 ∧ t28 ≤ 0 + 72) (hq32 : v27.Durable.length ≤ 60000 ∧ v27.Pending.length ≤ 60000 ∧ -1 ≤ v27.Count ∧ v27.Count ≤ 100) (v51 : Bool) (t52 : Int) (s53 : Int) (ht55 : t28 ≤ t52 ∧ t52 ≤ t28 + 2) (h58 : v51 = true) (v67 : Int) (t68 : Int) (s69 : Int) (ht71 : t52 ≤ t68 ∧ t68 ≤ t52 + 2) (hq72 : (0 : Int) ≤ v67 ∧ ((v67 : Int) < 2 ∨ (v67 : Int) = 0)) : ([] : List UInt8) = (⟨([] : List UInt8), ([] : List UInt8), 0⟩ : Log).Durable := by
  (first | rfl | omega)
theorem z_c_spec_DrawAppendRecord_77 (L : List UInt8) (nL : Nat) (hbdL : (nL : Int) ≤ 9223372036854775807) (hleL : nL = L.length) (hp0 : (nL : Int) ≤ 65536) (v27 : Log) (t28 : Int) (s29 : Int) (ht31 : 0 ≤ t28 ∧ t28 ≤ 0 + 72) (hq32 : v27.Durable.length ≤ 60000 ∧ v27.Pending.length ≤ 60000 ∧ -1 ≤ v27.Count ∧ v27.Count ≤ 100) (v51 : Bool) (t52 : Int) (s53 : Int) (ht55 : t28 ≤ t52 ∧ t52 ≤ t28 + 2) (h58 : v51 = true) (v67 : Int) (t68 : Int) (s69 : Int) (ht71 : t52 ≤ t68 ∧ t68 ≤ t52 + 2) (hq72 : (0 : Int) ≤ v67 ∧ ((v67 : Int) < 2 ∨ (v67 : Int) = 0)) : ([] : List UInt8) = (⟨([] : List UInt8), ([] : List UInt8), 0⟩ : Log).Pending := by
  (first | rfl | omega)
theorem z_c_spec_DrawAppendRecord_78 (L : List UInt8) (nL : Nat) (hbdL : (nL : Int) ≤ 9223372036854775807) (hleL : nL = L.length) (hp0 : (nL : Int) ≤ 65536) (v27 : Log) (t28 : Int) (s29 : Int) (ht31 : 0 ≤ t28 ∧ t28 ≤ 0 + 72) (hq32 : v27.Durable.length ≤ 60000 ∧ v27.Pending.length ≤ 60000 ∧ -1 ≤ v27.Count ∧ v27.Count ≤ 100) (v51 : Bool) (t52 : Int) (s53 : Int) (ht55 : t28 ≤ t52 ∧ t52 ≤ t28 + 2) (h58 : v51 = true) (v67 : Int) (t68 : Int) (s69 : Int) (ht71 : t52 ≤ t68 ∧ t68 ≤ t52 + 2) (hq72 : (0 : Int) ≤ v67 ∧ ((v67 : Int) < 2 ∨ (v67 : Int) = 0)) : 0 = (⟨([] : List UInt8), ([] : List UInt8), 0⟩ : Log).Count := by
  (first | rfl | omega)
theorem z_c_spec_DrawAppendRecord_108 (L : List UInt8) (nL : Nat) (hbdL : (nL : Int) ≤ 9223372036854775807) (hleL : nL = L.length) (hp0 : (nL : Int) ≤ 65536) (v27 : Log) (t28 : Int) (s29 : Int) (ht31 : 0 ≤ t28 ∧ t28 ≤ 0 + 72) (hq32 : v27.Durable.length ≤ 60000 ∧ v27.Pending.length ≤ 60000 ∧ -1 ≤ v27.Count ∧ v27.Count ≤ 100) (v51 : Bool) (t52 : Int) (s53 : Int) (ht55 : t28 ≤ t52 ∧ t52 ≤ t28 + 2) (h58 : v51 = true) (v67 : Int) (t68 : Int) (s69 : Int) (ht71 : t52 ≤ t68 ∧ t68 ≤ t52 + 2) (hq72 : (0 : Int) ≤ v67 ∧ ((v67 : Int) < 2 ∨ (v67 : Int) = 0)) (n : Int) (l : Log) (hi88 : (0 ≤ n ∧ n ≤ 60) ∧ LogOK l) (hq93 : 0 ≤ n ∧ n ≤ 60) (hq94 : LogOK l) (hq95 : l.Durable.length + l.Pending.length ≤ 24360 ∧ 0 ≤ l.Count ∧ l.Count ≤ 60) (h96 : 0 < n) (hq101 : (appN l (⟨([120] : List UInt8), ([] : List UInt8)⟩ : LogRecord)).1.Durable.length + (appN l (⟨([120] : List UInt8), ([] : List UInt8)⟩ : LogRecord)).1.Pending.length ≤ l.Durable.length + l.Pending.length + 406) : (0 ≤ n - 1 ∧ n - 1 ≤ 60) ∧ LogOK ((appN l (⟨([120] : List UInt8), ([] : List UInt8)⟩ : LogRecord)).1) := by
  exact ⟨by omega, appN_ok ‹LogOK _›⟩
theorem z_c_spec_DrawAppendRecord_109 (L : List UInt8) (nL : Nat) (hbdL : (nL : Int) ≤ 9223372036854775807) (hleL : nL = L.length) (hp0 : (nL : Int) ≤ 65536) (v27 : Log) (t28 : Int) (s29 : Int) (ht31 : 0 ≤ t28 ∧ t28 ≤ 0 + 72) (hq32 : v27.Durable.length ≤ 60000 ∧ v27.Pending.length ≤ 60000 ∧ -1 ≤ v27.Count ∧ v27.Count ≤ 100) (v51 : Bool) (t52 : Int) (s53 : Int) (ht55 : t28 ≤ t52 ∧ t52 ≤ t28 + 2) (h58 : v51 = true) (v67 : Int) (t68 : Int) (s69 : Int) (ht71 : t52 ≤ t68 ∧ t68 ≤ t52 + 2) (hq72 : (0 : Int) ≤ v67 ∧ ((v67 : Int) < 2 ∨ (v67 : Int) = 0)) (n : Int) (l : Log) (hi88 : (0 ≤ n ∧ n ≤ 60) ∧ LogOK l) (hq93 : 0 ≤ n ∧ n ≤ 60) (hq94 : LogOK l) (hq95 : l.Durable.length + l.Pending.length ≤ 24360 ∧ 0 ≤ l.Count ∧ l.Count ≤ 60) (h96 : 0 < n) (hq101 : (appN l (⟨([120] : List UInt8), ([] : List UInt8)⟩ : LogRecord)).1.Durable.length + (appN l (⟨([120] : List UInt8), ([] : List UInt8)⟩ : LogRecord)).1.Pending.length ≤ l.Durable.length + l.Pending.length + 406) : (n - 1).toNat < n.toNat := by
  omega
theorem z_c_spec_DrawAppendRecord_214 (L : List UInt8) (nL : Nat) (hbdL : (nL : Int) ≤ 9223372036854775807) (hleL : nL = L.length) (hp0 : (nL : Int) ≤ 65536) (v27 : Log) (t28 : Int) (s29 : Int) (ht31 : 0 ≤ t28 ∧ t28 ≤ 0 + 72) (hq32 : v27.Durable.length ≤ 60000 ∧ v27.Pending.length ≤ 60000 ∧ -1 ≤ v27.Count ∧ v27.Count ≤ 100) (v51 : Bool) (t52 : Int) (s53 : Int) (ht55 : t28 ≤ t52 ∧ t52 ≤ t28 + 2) (h58 : v51 = true) (v67 : Int) (t68 : Int) (s69 : Int) (ht71 : t52 ≤ t68 ∧ t68 ≤ t52 + 2) (hq72 : (0 : Int) ≤ v67 ∧ ((v67 : Int) < 2 ∨ (v67 : Int) = 0)) (n : Int) (l : Log) (hi88 : (0 ≤ n ∧ n ≤ 60) ∧ LogOK l) (hq93 : 0 ≤ n ∧ n ≤ 60) (hq94 : LogOK l) (hq95 : l.Durable.length + l.Pending.length ≤ 24360 ∧ 0 ≤ l.Count ∧ l.Count ≤ 60) (h96 : ¬ (0 < n)) (v182 : LogRecord) (t183 : Int) (s184 : Int) (ht186 : t68 ≤ t183 ∧ t183 ≤ t68 + 8) (hq187 : v182.Command.length ≤ 40 ∧ v182.Reply.length ≤ 40) : l.Durable.length ≤ 60000 ∧ l.Pending.length ≤ 60000 ∧ -1 ≤ l.Count ∧ l.Count ≤ 100 := by
  first | omega | (simp only [List.length_append]; omega) | (dsimp only; omega) | (dsimp only; simp only [List.length_append]; omega)
theorem z_c_spec_DrawAppendRecord_215 (L : List UInt8) (nL : Nat) (hbdL : (nL : Int) ≤ 9223372036854775807) (hleL : nL = L.length) (hp0 : (nL : Int) ≤ 65536) (v27 : Log) (t28 : Int) (s29 : Int) (ht31 : 0 ≤ t28 ∧ t28 ≤ 0 + 72) (hq32 : v27.Durable.length ≤ 60000 ∧ v27.Pending.length ≤ 60000 ∧ -1 ≤ v27.Count ∧ v27.Count ≤ 100) (v51 : Bool) (t52 : Int) (s53 : Int) (ht55 : t28 ≤ t52 ∧ t52 ≤ t28 + 2) (h58 : v51 = true) (v67 : Int) (t68 : Int) (s69 : Int) (ht71 : t52 ≤ t68 ∧ t68 ≤ t52 + 2) (hq72 : (0 : Int) ≤ v67 ∧ ((v67 : Int) < 2 ∨ (v67 : Int) = 0)) (n : Int) (l : Log) (hi88 : (0 ≤ n ∧ n ≤ 60) ∧ LogOK l) (hq93 : 0 ≤ n ∧ n ≤ 60) (hq94 : LogOK l) (hq95 : l.Durable.length + l.Pending.length ≤ 24360 ∧ 0 ≤ l.Count ∧ l.Count ≤ 60) (h96 : ¬ (0 < n)) (v182 : LogRecord) (t183 : Int) (s184 : Int) (ht186 : t68 ≤ t183 ∧ t183 ≤ t68 + 8) (hq187 : v182.Command.length ≤ 40 ∧ v182.Reply.length ≤ 40) : v182.Command.length ≤ 40 ∧ v182.Reply.length ≤ 40 := by
  first | omega | (dsimp only; omega)
theorem z_c_spec_DrawAppendRecord_320 (L : List UInt8) (nL : Nat) (hbdL : (nL : Int) ≤ 9223372036854775807) (hleL : nL = L.length) (hp0 : (nL : Int) ≤ 65536) (v27 : Log) (t28 : Int) (s29 : Int) (ht31 : 0 ≤ t28 ∧ t28 ≤ 0 + 72) (hq32 : v27.Durable.length ≤ 60000 ∧ v27.Pending.length ≤ 60000 ∧ -1 ≤ v27.Count ∧ v27.Count ≤ 100) (v51 : Bool) (t52 : Int) (s53 : Int) (ht55 : t28 ≤ t52 ∧ t52 ≤ t28 + 2) (h58 : v51 = false) (v288 : LogRecord) (t289 : Int) (s290 : Int) (ht292 : t52 ≤ t289 ∧ t289 ≤ t52 + 8) (hq293 : v288.Command.length ≤ 40 ∧ v288.Reply.length ≤ 40) : v27.Durable.length ≤ 60000 ∧ v27.Pending.length ≤ 60000 ∧ -1 ≤ v27.Count ∧ v27.Count ≤ 100 := by
  first | omega | (simp only [List.length_append]; omega) | (dsimp only; omega) | (dsimp only; simp only [List.length_append]; omega)
theorem z_c_spec_DrawAppendRecord_321 (L : List UInt8) (nL : Nat) (hbdL : (nL : Int) ≤ 9223372036854775807) (hleL : nL = L.length) (hp0 : (nL : Int) ≤ 65536) (v27 : Log) (t28 : Int) (s29 : Int) (ht31 : 0 ≤ t28 ∧ t28 ≤ 0 + 72) (hq32 : v27.Durable.length ≤ 60000 ∧ v27.Pending.length ≤ 60000 ∧ -1 ≤ v27.Count ∧ v27.Count ≤ 100) (v51 : Bool) (t52 : Int) (s53 : Int) (ht55 : t28 ≤ t52 ∧ t52 ≤ t28 + 2) (h58 : v51 = false) (v288 : LogRecord) (t289 : Int) (s290 : Int) (ht292 : t52 ≤ t289 ∧ t289 ≤ t52 + 8) (hq293 : v288.Command.length ≤ 40 ∧ v288.Reply.length ≤ 40) : v288.Command.length ≤ 40 ∧ v288.Reply.length ≤ 40 := by
  first | omega | (dsimp only; omega)
theorem c_spec_DrawAppendRecord (w : World) {AL : Option Addr} {nL cL BL : Nat}  (L : List UInt8) (hL : SlR w BL encB 1 AL nL cL L) (hp0 : (nL : Int) ≤ 65536) : Calls Tryd.prog 38 #[.slice AL nL cL] w fun e w' => ∃ (l : Log) (r : LogRecord), e = .returned (.tuple (List.toArray [.agg (List.toArray [str l.Durable, str l.Pending, .int .i64 l.Count]), .agg (List.toArray [str r.Command, str r.Reply])])) ∧ (l.Durable.length ≤ 60000 ∧ l.Pending.length ≤ 60000 ∧ -1 ≤ l.Count ∧ l.Count ≤ 100) ∧ (r.Command.length ≤ 40 ∧ r.Reply.length ≤ 40) ∧ Lo w w' := by
  refine calls_W 31 Tryd.func38 rfl rfl rfl ?_
  have hbdL := hL.bound
  have hleL := hL.len
  have hBbL := hL.bd
  refine W.seq ?_
  refine W.regS (SR.alloc (l := [str ([] : List UInt8), str ([] : List UInt8), .int .i64 0]) tz31 rfl ?_)
  intro g1 w2 hg3 hk4 hs5 hb6
  have hz7 := hk4.size
  have hB8 := (Lo.refl w).lo hk4
  refine SR.alloc (l := [str ([] : List UInt8), str ([] : List UInt8)]) tz27 rfl ?_
  intro g9 w10 hg11 hk12 hs13 hb14
  have hz15 := hk12.size
  have hB16 := hB8.lo hk12
  refine SR.nil ?_
  refine W.seq ?_
  refine W.regS (SR.q' (r_mv (v := .slice _ _ _) rfl) <| SR.q' (r_build (vs := [(0, .slice AL nL cL)]) rfl (bld72_0 _ _ _)) <| SR.box (v := .agg (List.toArray _)) (l := [.slice AL nL cL, .int .i64 0, .int .u64 0]) rfl rfl ?_)
  intro g17 w18 hg19 hk20 hs21 hb22
  have hz23 := hk20.size
  have hB24 := hB16.lo hk20
  refine SR.q' (r_as (v := .pointer (some _)) rfl) <| SR.nil ?_
  refine W.seq ?_
  refine W.regS (SR.q' (r_mv (v := .pointer (some _)) rfl) <| SR.call ent59 (c___spec_l1Cur__anyLog w18 L 0 0 (hb22) (((((hL).lo hk4).lo hk12).lo hk20)) (by omega) (by omega)) rfl ?_)
  rintro e w25 ⟨v27, t28, s29, rfl, hb30, ht31, hq32, hk26⟩
  refine ⟨_, rfl, ?_⟩
  have hz33 := hk26.size
  have hB34 := hB24.new hk26 (by omega)
  refine SR.alloc (l := [str ([] : List UInt8), str ([] : List UInt8), .int .i64 0]) tz31 rfl ?_
  intro g35 w36 hg37 hk38 hs39 hb40
  have hz41 := hk38.size
  have hB42 := hB34.lo hk38
  refine SR.store (o := 0) (vs := [str v27.Durable, str v27.Pending, .int .i64 v27.Count]) agg31.2 rfl rfl rfl rfl (hb40) (Nat.le_of_ble_eq_true rfl) rfl ?_
  intro w43 hk44 hs45 hb46
  have hz47 := hk44.size
  have hB48 := hB42.new hk44 (by omega)
  refine SR.nil ?_
  refine W.seq ?_
  refine W.seq ?_
  refine W.regS (SR.q' (r_mv (v := .pointer (some _)) rfl) <| SR.call ent58 (c___spec_l1Cur__one w43 L t28 s29 (((hb30).lo hk38).kp hk44 (fun e' => by have e'' : g17 = g35 := e'; omega)) ((((((((hL).lo hk4).lo hk12).lo hk20).kp hk26 (fun b_ hb e' => by have e'' : b_ = g17 := e'; omega)).lo hk38).kp hk44 (fun b_ hb e' => by have e'' : b_ = g35 := e'; omega))) (by omega) (by omega) 40 (by first | omega | (simp only [List.length_append, List.length_cons, List.length_nil, List.length_take, List.length_drop]; omega))) rfl ?_)
  rintro e w49 ⟨v51, t52, s53, rfl, hb54, ht55, hk50⟩
  refine ⟨_, rfl, ?_⟩
  have hz56 := hk50.size
  have hB57 := hB48.new hk50 (by omega)
  refine SR.nil ?_
  refine W.cond_b rfl (fun h58 => ?_) (fun h58 => ?_)
  · refine W.seq ?_
    refine W.regS (SR.q' (r_build (vs := []) rfl (bld31_)) <| SR.store (o := 0) (vs := [str ([] : List UInt8), str ([] : List UInt8), .int .i64 0]) agg31.2 rfl rfl rfl rfl ((hb46).kp hk50 (fun e' => by have e'' : g35 = g17 := e'; omega)) (Nat.le_of_ble_eq_true rfl) rfl ?_)
    intro w59 hk60 hs61 hb62
    have hz63 := hk60.size
    have hB64 := hB57.new hk60 (by omega)
    refine SR.nil ?_
    refine W.seq ?_
    refine W.regS (SR.q' (r_mv (v := .pointer (some _)) rfl) <| SR.call ent56 (c___spec_l1Cur__pick w59 L t52 s53 ((hb54).kp hk60 (fun e' => by have e'' : g17 = g35 := e'; omega)) ((((((((((hL).lo hk4).lo hk12).lo hk20).kp hk26 (fun b_ hb e' => by have e'' : b_ = g17 := e'; omega)).lo hk38).kp hk44 (fun b_ hb e' => by have e'' : b_ = g35 := e'; omega)).kp hk50 (fun b_ hb e' => by have e'' : b_ = g17 := e'; omega)).kp hk60 (fun b_ hb e' => by have e'' : b_ = g35 := e'; omega))) (by omega) (by omega) 2 (by first | omega | (simp only [List.length_append, List.length_cons, List.length_nil, List.length_take, List.length_drop]; omega))) rfl ?_)
    rintro e w65 ⟨v67, t68, s69, rfl, hb70, ht71, hq72, hk66⟩
    refine ⟨_, rfl, ?_⟩
    have hz73 := hk66.size
    have hB74 := hB64.new hk66 (by omega)
    refine SR.q' (r_add rfl rfl (by omega)) <| SR.q' (r_as (v := .int .i64 _) rfl) <| SR.nil ?_
    refine W.block ?_
    refine W.loop (σ := Int × Log) (fun g => [(2, .pointer (some ((⟨g1, 0, none⟩ : Addr)))), (3, .pointer (some ((⟨g9, 0, none⟩ : Addr)))), (4, .pointer (some ((⟨g17, 0, none⟩ : Addr)))), (5, .pointer (some ((⟨g35, 0, none⟩ : Addr)))), (6, .int .i64 g.1)]) (fun g w' => (Lo w w') ∧ (Blk w' g1 31 [str ([] : List UInt8), str ([] : List UInt8), .int .i64 0]) ∧ (Blk w' g9 27 [str ([] : List UInt8), str ([] : List UInt8)]) ∧ (Blk w' g17 72 [.slice AL nL cL, .int .i64 t68, .int .u64 s69]) ∧ (SlR w' BL encB 1 AL nL cL L) ∧ (Blk w' g35 31 [str g.2.Durable, str g.2.Pending, .int .i64 g.2.Count]) ∧ ((0 ≤ g.1 ∧ g.1 ≤ 60) ∧ LogOK g.2)) (fun g => g.1.toNat) (59 + v67, (⟨([] : List UInt8), ([] : List UInt8), 0⟩ : Log)) ?_ ?_ ?_
    · exact ⟨rfl, rfl, rfl, rfl, rfl, trivial⟩
    · exact ⟨hB74, ((((((((hb6).lo hk12).lo hk20).kp hk26 (fun e' => by have e'' : g1 = g17 := e'; omega)).lo hk38).kp hk44 (fun e' => by have e'' : g1 = g35 := e'; omega)).kp hk50 (fun e' => by have e'' : g1 = g17 := e'; omega)).kp hk60 (fun e' => by have e'' : g1 = g35 := e'; omega)).kp hk66 (fun e' => by have e'' : g1 = g17 := e'; omega), (((((((hb14).lo hk20).kp hk26 (fun e' => by have e'' : g9 = g17 := e'; omega)).lo hk38).kp hk44 (fun e' => by have e'' : g9 = g35 := e'; omega)).kp hk50 (fun e' => by have e'' : g9 = g17 := e'; omega)).kp hk60 (fun e' => by have e'' : g9 = g35 := e'; omega)).kp hk66 (fun e' => by have e'' : g9 = g17 := e'; omega), hb70, (((((((((hL).lo hk4).lo hk12).lo hk20).kp hk26 (fun b_ hb e' => by have e'' : b_ = g17 := e'; omega)).lo hk38).kp hk44 (fun b_ hb e' => by have e'' : b_ = g35 := e'; omega)).kp hk50 (fun b_ hb e' => by have e'' : b_ = g17 := e'; omega)).kp hk60 (fun b_ hb e' => by have e'' : b_ = g35 := e'; omega)).kp hk66 (fun b_ hb e' => by have e'' : b_ = g17 := e'; omega), (Blk.eqv ((hb62).kp hk66 (fun e' => by have e'' : g35 = g17 := e'; omega)) (eC (eS (z_c_spec_DrawAppendRecord_76 L nL hbdL hleL hp0 v27 t28 s29 ht31 hq32 v51 t52 s53 ht55 h58 v67 t68 s69 ht71 hq72)) (eC (eS (z_c_spec_DrawAppendRecord_77 L nL hbdL hleL hp0 v27 t28 s29 ht31 hq32 v51 t52 s53 ht55 h58 v67 t68 s69 ht71 hq72)) (eC (eI (z_c_spec_DrawAppendRecord_78 L nL hbdL hleL hp0 v27 t28 s29 ht31 hq32 v51 t52 s53 ht55 h58 v67 t68 s69 ht71 hq72)) rfl)))), (z_c_spec_DrawAppendRecord_75 L nL hbdL hleL hp0 v27 t28 s29 ht31 hq32 v51 t52 s53 ht55 h58 v67 t68 s69 ht71 hq72)⟩
    · rintro ⟨n, l⟩ f79 w80 hP82
      obtain ⟨hB81, hm83, hm84, hm85, hm86, hm87, hi88⟩ : (Lo w w80) ∧ (Blk w80 g1 31 [str ([] : List UInt8), str ([] : List UInt8), .int .i64 0]) ∧ (Blk w80 g9 27 [str ([] : List UInt8), str ([] : List UInt8)]) ∧ (Blk w80 g17 72 [.slice AL nL cL, .int .i64 t68, .int .u64 s69]) ∧ (SlR w80 BL encB 1 AL nL cL L) ∧ (Blk w80 g35 31 [str l.Durable, str l.Pending, .int .i64 l.Count]) ∧ ((0 ≤ n ∧ n ≤ 60) ∧ LogOK l) := hP82
      refine (?_ : W _ _ _ _ _ (act _ (sets f79 [(2, .pointer (some ((⟨g1, 0, none⟩ : Addr)))), (3, .pointer (some ((⟨g9, 0, none⟩ : Addr)))), (4, .pointer (some ((⟨g17, 0, none⟩ : Addr)))), (5, .pointer (some ((⟨g35, 0, none⟩ : Addr)))), (6, .int .i64 n)])) _)
      have hzw80 := hB81.size
      have hl89 := hm83.lt
      have hl90 := hm84.lt
      have hl91 := hm85.lt
      have hl92 := hm87.lt
      have hq93 : 0 ≤ n ∧ n ≤ 60 := hi88.1
      have hq94 : LogOK l := hi88.2
      have hq95 : l.Durable.length + l.Pending.length ≤ 24360 ∧ 0 ≤ l.Count ∧ l.Count ≤ 60 := log_rng hi88.2
      refine W.seq ?_
      refine W.seq ?_
      refine W.regS (SR.q' (r_mv (v := .int .i64 _) rfl) <| SR.q' (r_gt rfl rfl) <| SR.nil ?_)
      refine W.cond_d rfl (fun h96 => ?_) (fun h96 => ?_)
      · refine W.skip ?_
        refine W.seq ?_
        refine W.block ?_
        refine W.regS (SR.q' (r_lda (l := [str l.Durable, str l.Pending, .int .i64 l.Count]) agg31 rfl (fun _ _ hu => (hm87).cell hu) rfl) <| SR.q' (r_build (vs := [(0, str ([120] : List UInt8))]) rfl (bld27_0 _)) <| SR.call ent28 (c_spec_AppendRecord w80 l (⟨([120] : List UInt8), ([] : List UInt8)⟩ : LogRecord) (by omega) (by first | omega | decide | (dsimp only; omega))) rfl ?_)
        rintro e w97 ⟨rfl, hk98⟩
        refine ⟨_, rfl, ?_⟩
        have hz99 := hk98.size
        have hB100 := hB81.lo hk98
        have hq101 : (appN l (⟨([120] : List UInt8), ([] : List UInt8)⟩ : LogRecord)).1.Durable.length + (appN l (⟨([120] : List UInt8), ([] : List UInt8)⟩ : LogRecord)).1.Pending.length ≤ l.Durable.length + l.Pending.length + 406 := appN_len l (⟨([120] : List UInt8), ([] : List UInt8)⟩ : LogRecord)
        refine SR.q' (r_mv (v := .tuple (List.toArray _)) rfl) <| SR.q' (r_ext (v := .agg (List.toArray _)) rfl rfl) <| SR.q' (r_ext (v := .int .i64 _) rfl rfl) <| SR.store (o := 0) (vs := [str (((appN l (⟨([120] : List UInt8), ([] : List UInt8)⟩ : LogRecord)).1).Durable), str (((appN l (⟨([120] : List UInt8), ([] : List UInt8)⟩ : LogRecord)).1).Pending), .int .i64 (((appN l (⟨([120] : List UInt8), ([] : List UInt8)⟩ : LogRecord)).1).Count)]) agg31.2 rfl rfl rfl rfl ((hm87).lo hk98) (Nat.le_of_ble_eq_true rfl) rfl ?_
        intro w102 hk103 hs104 hb105
        have hz106 := hk103.size
        have hB107 := hB100.new hk103 (by omega)
        refine SR.nil ?_
        refine W.regS (SR.q' (r_mv (v := .int .i64 _) rfl) <| SR.q' (r_sub rfl rfl (by omega)) <| SR.q' (r_as (v := .int .i64 _) rfl) <| SR.nil ?_)
        refine ⟨(n - 1, ((appN l (⟨([120] : List UInt8), ([] : List UInt8)⟩ : LogRecord)).1)), _, rfl, ⟨rfl, rfl, rfl, rfl, rfl, trivial⟩, ⟨hB107, ((hm83).lo hk98).kp hk103 (fun e' => by have e'' : g1 = g35 := e'; omega), ((hm84).lo hk98).kp hk103 (fun e' => by have e'' : g9 = g35 := e'; omega), ((hm85).lo hk98).kp hk103 (fun e' => by have e'' : g17 = g35 := e'; omega), ((hm86).lo hk98).kp hk103 (fun b_ hb e' => by have e'' : b_ = g35 := e'; omega), (hb105), ?_⟩, ?_⟩
        · exact (z_c_spec_DrawAppendRecord_108 L nL hbdL hleL hp0 v27 t28 s29 ht31 hq32 v51 t52 s53 ht55 h58 v67 t68 s69 ht71 hq72 n l hi88 hq93 hq94 hq95 h96 hq101)
        · exact (z_c_spec_DrawAppendRecord_109 L nL hbdL hleL hp0 v27 t28 s29 ht31 hq32 v51 t52 s53 ht55 h58 v67 t68 s69 ht71 hq72 n l hi88 hq93 hq94 hq95 h96 hq101)
      · refine W.exit (xin_here ?_)
        refine W.seq ?_
        refine W.regA (Kp (fun b_ => b_ = g17 ∨ b_ = g1 ∨ b_ = g9) w80) (fun f' w' => ∃ (v182 : LogRecord), ∃ (t183 : Int), ∃ (s184 : Int), At f' [(2, .pointer (some ((⟨g1, 0, none⟩ : Addr)))), (3, .pointer (some ((⟨g9, 0, none⟩ : Addr))))] ∧ (Kp (fun b_ => b_ = g17 ∨ b_ = g1 ∨ b_ = g9) w80 w') ∧ (Blk w' g1 31 [str l.Durable, str l.Pending, .int .i64 l.Count]) ∧ (Blk w' g9 27 [str v182.Command, str v182.Reply]) ∧ (Blk w' g17 72 [.slice AL nL cL, .int .i64 t183, .int .u64 s184]) ∧ (t68 ≤ t183 ∧ t183 ≤ t68 + 8) ∧ (v182.Command.length ≤ 40 ∧ v182.Reply.length ≤ 40)) mo ?_ ?_
        · intro w176 hk177
          have hz178 := hk177.size
          have hB179 := hB81.lo hk177
          refine AH.take 0 rfl (by kernel_rfl) trivial ((Kp.refl w80 : Kp (fun b_ => b_ = g17 ∨ b_ = g1 ∨ b_ = g9) w80 w80).lo hk177) (fun w' hw' => r_lda (l := [str l.Durable, str l.Pending, .int .i64 l.Count]) agg31 rfl (fun _ _ hu => ((hm87).kp hw' (fun e' => e'.elim (fun e' => by have e'' : g35 = g17 := e'; omega) (fun e' => e'.elim (fun e' => by have e'' : g35 = g1 := e'; omega) (fun e' => by have e'' : g35 = g9 := e'; omega)))).cell hu) rfl) <| AH.take 1 rfl (by kernel_rfl) trivial ((Kp.refl w80 : Kp (fun b_ => b_ = g17 ∨ b_ = g1 ∨ b_ = g9) w80 w80).lo hk177) (fun w' hw' => r_mv (v := .pointer (some _)) rfl) <| AH.br [2] (by kernel_rfl) rfl ⟨Br.mk' rfl trivial ?_, trivial⟩
          refine SR.call ent54 (c___spec_l1Cur__logRecord w176 L t68 s69 ((hm85).lo hk177) (((hm86).lo hk177)) (by omega) (by omega)) rfl ?_
          rintro e w180 ⟨v182, t183, s184, rfl, hb185, ht186, hq187, hk181⟩
          refine ⟨_, rfl, ?_⟩
          have hz188 := hk181.size
          have hB189 := hB179.new hk181 (by omega)
          have hS190 := ((Kp.refl w80 : Kp (fun b_ => b_ = g17 ∨ b_ = g1 ∨ b_ = g9) w80 w80).lo hk177).step hk181 (fun _ _ e => .inl e)
          refine SR.nil ⟨hS190, _, rfl, ?_⟩
          refine AH.br [3] (by kernel_rfl) rfl ⟨Br.mk' rfl trivial ?_, trivial⟩
          refine SR.store (o := 0) (vs := [str l.Durable, str l.Pending, .int .i64 l.Count]) agg31.2 rfl rfl rfl rfl (((hm83).lo hk177).kp hk181 (fun e' => by have e'' : g1 = g17 := e'; omega)) (Nat.le_of_ble_eq_true rfl) rfl ?_
          intro w191 hk192 hs193 hb194
          have hz195 := hk192.size
          have hB196 := hB189.new hk192 (by omega)
          have hS197 := (hS190).step hk192 (fun _ _ e => .inr (.inl e))
          refine SR.nil ⟨hS197, _, rfl, ?_⟩
          refine AH.br [4] (by kernel_rfl) rfl ⟨Br.mk' rfl trivial ?_, trivial⟩
          refine SR.store (o := 0) (vs := [str v182.Command, str v182.Reply]) agg27.2 rfl rfl rfl rfl ((((hm84).lo hk177).kp hk181 (fun e' => by have e'' : g9 = g17 := e'; omega)).kp hk192 (fun e' => by have e'' : g9 = g1 := e'; omega)) (Nat.le_of_ble_eq_true rfl) rfl ?_
          intro w198 hk199 hs200 hb201
          have hz202 := hk199.size
          have hB203 := hB196.new hk199 (by omega)
          have hS204 := (hS197).step hk199 (fun _ _ e => .inr (.inr (e)))
          refine SR.nil ⟨hS204, _, rfl, ?_⟩
          refine AH.done (by kernel_rfl) ?_
          exact ⟨v182, t183, s184, ⟨rfl, rfl, trivial⟩, hS204, ((hb194).kp hk199 (fun e' => by have e'' : g1 = g9 := e'; omega)), (hb201), (((hb185).kp hk192 (fun e' => by have e'' : g17 = g1 := e'; omega)).kp hk199 (fun e' => by have e'' : g17 = g9 := e'; omega)), ht186, hq187⟩
        rintro f208 w209 ⟨v182, t183, s184, hat211, hR210, hm205, hm206, hm207, ht186, hq187⟩
        rw [← sets_of_at hat211]
        have hz212 := hR210.size
        have hB213 := hB81.step hR210 (fun i_ hi_ e' => e'.elim (fun e' => by have e'' : i_ = g17 := e'; exfalso; omega) (fun e' => e'.elim (fun e' => by have e'' : i_ = g1 := e'; exfalso; omega) (fun e' => by have e'' : i_ = g9 := e'; exfalso; omega)))
        refine W.ret ?_
        refine retCC rfl rfl agg31 (hm205) rfl rfl agg27 (hm206) rfl ?_
        exact ⟨l, v182, eR (eT2 rfl rfl), (z_c_spec_DrawAppendRecord_214 L nL hbdL hleL hp0 v27 t28 s29 ht31 hq32 v51 t52 s53 ht55 h58 v67 t68 s69 ht71 hq72 n l hi88 hq93 hq94 hq95 h96 v182 t183 s184 ht186 hq187), (z_c_spec_DrawAppendRecord_215 L nL hbdL hleL hp0 v27 t28 s29 ht31 hq32 v51 t52 s53 ht55 h58 v67 t68 s69 ht71 hq72 n l hi88 hq93 hq94 hq95 h96 v182 t183 s184 ht186 hq187), hB213⟩
  · refine W.skip ?_
    refine W.seq ?_
    refine W.regA (Kp (fun b_ => b_ = g17 ∨ b_ = g1 ∨ b_ = g9) w49) (fun f' w' => ∃ (v288 : LogRecord), ∃ (t289 : Int), ∃ (s290 : Int), At f' [(2, .pointer (some ((⟨g1, 0, none⟩ : Addr)))), (3, .pointer (some ((⟨g9, 0, none⟩ : Addr))))] ∧ (Kp (fun b_ => b_ = g17 ∨ b_ = g1 ∨ b_ = g9) w49 w') ∧ (Blk w' g1 31 [str v27.Durable, str v27.Pending, .int .i64 v27.Count]) ∧ (Blk w' g9 27 [str v288.Command, str v288.Reply]) ∧ (Blk w' g17 72 [.slice AL nL cL, .int .i64 t289, .int .u64 s290]) ∧ (t52 ≤ t289 ∧ t289 ≤ t52 + 8) ∧ (v288.Command.length ≤ 40 ∧ v288.Reply.length ≤ 40)) mo ?_ ?_
    · intro w282 hk283
      have hz284 := hk283.size
      have hB285 := hB57.lo hk283
      refine AH.take 0 rfl (by kernel_rfl) trivial ((Kp.refl w49 : Kp (fun b_ => b_ = g17 ∨ b_ = g1 ∨ b_ = g9) w49 w49).lo hk283) (fun w' hw' => r_lda (l := [str v27.Durable, str v27.Pending, .int .i64 v27.Count]) agg31 rfl (fun _ _ hu => (((hb46).kp hk50 (fun e' => by have e'' : g35 = g17 := e'; omega)).kp hw' (fun e' => e'.elim (fun e' => by have e'' : g35 = g17 := e'; omega) (fun e' => e'.elim (fun e' => by have e'' : g35 = g1 := e'; omega) (fun e' => by have e'' : g35 = g9 := e'; omega)))).cell hu) rfl) <| AH.take 1 rfl (by kernel_rfl) trivial ((Kp.refl w49 : Kp (fun b_ => b_ = g17 ∨ b_ = g1 ∨ b_ = g9) w49 w49).lo hk283) (fun w' hw' => r_mv (v := .pointer (some _)) rfl) <| AH.br [2] (by kernel_rfl) rfl ⟨Br.mk' rfl trivial ?_, trivial⟩
      refine SR.call ent54 (c___spec_l1Cur__logRecord w282 L t52 s53 ((hb54).lo hk283) ((((((((((hL).lo hk4).lo hk12).lo hk20).kp hk26 (fun b_ hb e' => by have e'' : b_ = g17 := e'; omega)).lo hk38).kp hk44 (fun b_ hb e' => by have e'' : b_ = g35 := e'; omega)).kp hk50 (fun b_ hb e' => by have e'' : b_ = g17 := e'; omega)).lo hk283)) (by omega) (by omega)) rfl ?_
      rintro e w286 ⟨v288, t289, s290, rfl, hb291, ht292, hq293, hk287⟩
      refine ⟨_, rfl, ?_⟩
      have hz294 := hk287.size
      have hB295 := hB285.new hk287 (by omega)
      have hS296 := ((Kp.refl w49 : Kp (fun b_ => b_ = g17 ∨ b_ = g1 ∨ b_ = g9) w49 w49).lo hk283).step hk287 (fun _ _ e => .inl e)
      refine SR.nil ⟨hS296, _, rfl, ?_⟩
      refine AH.br [3] (by kernel_rfl) rfl ⟨Br.mk' rfl trivial ?_, trivial⟩
      refine SR.store (o := 0) (vs := [str v27.Durable, str v27.Pending, .int .i64 v27.Count]) agg31.2 rfl rfl rfl rfl (((((((((hb6).lo hk12).lo hk20).kp hk26 (fun e' => by have e'' : g1 = g17 := e'; omega)).lo hk38).kp hk44 (fun e' => by have e'' : g1 = g35 := e'; omega)).kp hk50 (fun e' => by have e'' : g1 = g17 := e'; omega)).lo hk283).kp hk287 (fun e' => by have e'' : g1 = g17 := e'; omega)) (Nat.le_of_ble_eq_true rfl) rfl ?_
      intro w297 hk298 hs299 hb300
      have hz301 := hk298.size
      have hB302 := hB295.new hk298 (by omega)
      have hS303 := (hS296).step hk298 (fun _ _ e => .inr (.inl e))
      refine SR.nil ⟨hS303, _, rfl, ?_⟩
      refine AH.br [4] (by kernel_rfl) rfl ⟨Br.mk' rfl trivial ?_, trivial⟩
      refine SR.store (o := 0) (vs := [str v288.Command, str v288.Reply]) agg27.2 rfl rfl rfl rfl (((((((((hb14).lo hk20).kp hk26 (fun e' => by have e'' : g9 = g17 := e'; omega)).lo hk38).kp hk44 (fun e' => by have e'' : g9 = g35 := e'; omega)).kp hk50 (fun e' => by have e'' : g9 = g17 := e'; omega)).lo hk283).kp hk287 (fun e' => by have e'' : g9 = g17 := e'; omega)).kp hk298 (fun e' => by have e'' : g9 = g1 := e'; omega)) (Nat.le_of_ble_eq_true rfl) rfl ?_
      intro w304 hk305 hs306 hb307
      have hz308 := hk305.size
      have hB309 := hB302.new hk305 (by omega)
      have hS310 := (hS303).step hk305 (fun _ _ e => .inr (.inr (e)))
      refine SR.nil ⟨hS310, _, rfl, ?_⟩
      refine AH.done (by kernel_rfl) ?_
      exact ⟨v288, t289, s290, ⟨rfl, rfl, trivial⟩, hS310, ((hb300).kp hk305 (fun e' => by have e'' : g1 = g9 := e'; omega)), (hb307), (((hb291).kp hk298 (fun e' => by have e'' : g17 = g1 := e'; omega)).kp hk305 (fun e' => by have e'' : g17 = g9 := e'; omega)), ht292, hq293⟩
    rintro f314 w315 ⟨v288, t289, s290, hat317, hR316, hm311, hm312, hm313, ht292, hq293⟩
    rw [← sets_of_at hat317]
    have hz318 := hR316.size
    have hB319 := hB57.step hR316 (fun i_ hi_ e' => e'.elim (fun e' => by have e'' : i_ = g17 := e'; exfalso; omega) (fun e' => e'.elim (fun e' => by have e'' : i_ = g1 := e'; exfalso; omega) (fun e' => by have e'' : i_ = g9 := e'; exfalso; omega)))
    refine W.ret ?_
    refine retCC rfl rfl agg31 (hm311) rfl rfl agg27 (hm312) rfl ?_
    exact ⟨v27, v288, eR (eT2 rfl rfl), (z_c_spec_DrawAppendRecord_320 L nL hbdL hleL hp0 v27 t28 s29 ht31 hq32 v51 t52 s53 ht55 h58 v288 t289 s290 ht292 hq293), (z_c_spec_DrawAppendRecord_321 L nL hbdL hleL hp0 v27 t28 s29 ht31 hq32 v51 t52 s53 ht55 h58 v288 t289 s290 ht292 hq293), hB319⟩

theorem z_c_spec_DrawCrashLog_115 (L : List UInt8) (nL : Nat) (hbdL : (nL : Int) ≤ 9223372036854775807) (hleL : nL = L.length) (hp0 : (nL : Int) ≤ 65536) (v19 : Log) (t20 : Int) (s21 : Int) (ht23 : 0 ≤ t20 ∧ t20 ≤ 0 + 72) (hq24 : v19.Durable.length ≤ 60000 ∧ v19.Pending.length ≤ 60000 ∧ -1 ≤ v19.Count ∧ v19.Count ≤ 100) (v43 : Int) (t44 : Int) (s45 : Int) (ht47 : t20 ≤ t44 ∧ t44 ≤ t20 + 2) (hq48 : (0 : Int) ≤ v43 ∧ ((v43 : Int) < ((v19.Pending.length : Int) + 3) ∨ (v43 : Int) = 0)) (v92 : Bool) (t93 : Int) (s94 : Int) (ht96 : t44 ≤ t93 ∧ t93 ≤ t44 + 2) : v92 = v92 := by
  first | rfl | omega | grind
theorem z_c_spec_DrawCrashLog_116 (L : List UInt8) (nL : Nat) (hbdL : (nL : Int) ≤ 9223372036854775807) (hleL : nL = L.length) (hp0 : (nL : Int) ≤ 65536) (v19 : Log) (t20 : Int) (s21 : Int) (ht23 : 0 ≤ t20 ∧ t20 ≤ 0 + 72) (hq24 : v19.Durable.length ≤ 60000 ∧ v19.Pending.length ≤ 60000 ∧ -1 ≤ v19.Count ∧ v19.Count ≤ 100) (v43 : Int) (t44 : Int) (s45 : Int) (ht47 : t20 ≤ t44 ∧ t44 ≤ t20 + 2) (hq48 : (0 : Int) ≤ v43 ∧ ((v43 : Int) < ((v19.Pending.length : Int) + 3) ∨ (v43 : Int) = 0)) (v92 : Bool) (t93 : Int) (s94 : Int) (ht96 : t44 ≤ t93 ∧ t93 ≤ t44 + 2) : v19.Durable.length ≤ 60000 ∧ v19.Pending.length ≤ 60000 ∧ -1 ≤ v19.Count ∧ v19.Count ≤ 100 := by
  first | omega | (simp only [List.length_append]; omega) | (dsimp only; omega) | (dsimp only; simp only [List.length_append]; omega)
theorem z_c_spec_DrawCrashLog_117 (L : List UInt8) (nL : Nat) (hbdL : (nL : Int) ≤ 9223372036854775807) (hleL : nL = L.length) (hp0 : (nL : Int) ≤ 65536) (v19 : Log) (t20 : Int) (s21 : Int) (ht23 : 0 ≤ t20 ∧ t20 ≤ 0 + 72) (hq24 : v19.Durable.length ≤ 60000 ∧ v19.Pending.length ≤ 60000 ∧ -1 ≤ v19.Count ∧ v19.Count ≤ 100) (v43 : Int) (t44 : Int) (s45 : Int) (ht47 : t20 ≤ t44 ∧ t44 ≤ t20 + 2) (hq48 : (0 : Int) ≤ v43 ∧ ((v43 : Int) < ((v19.Pending.length : Int) + 3) ∨ (v43 : Int) = 0)) (v92 : Bool) (t93 : Int) (s94 : Int) (ht96 : t44 ≤ t93 ∧ t93 ≤ t44 + 2) : -1 ≤ (v43 - 1) ∧ (v43 - 1) ≤ 1000000 := by
  omega
theorem c_spec_DrawCrashLog (w : World) {AL : Option Addr} {nL cL BL : Nat}  (L : List UInt8) (hL : SlR w BL encB 1 AL nL cL L) (hp0 : (nL : Int) ≤ 65536) : Calls Tryd.prog 41 #[.slice AL nL cL] w fun e w' => ∃ (l : Log) (k : Int) (b : Bool), e = .returned (.tuple (List.toArray [.agg (List.toArray [str l.Durable, str l.Pending, .int .i64 l.Count]), .int .i64 k, .bool b])) ∧ (l.Durable.length ≤ 60000 ∧ l.Pending.length ≤ 60000 ∧ -1 ≤ l.Count ∧ l.Count ≤ 100) ∧ (-1 ≤ k ∧ k ≤ 1000000) ∧ Lo w w' := by
  refine calls_W 24 Tryd.func41 rfl rfl rfl ?_
  have hbdL := hL.bound
  have hleL := hL.len
  have hBbL := hL.bd
  refine W.seq ?_
  refine W.regS (SR.alloc (l := [str ([] : List UInt8), str ([] : List UInt8), .int .i64 0]) tz31 rfl ?_)
  intro g1 w2 hg3 hk4 hs5 hb6
  have hz7 := hk4.size
  have hB8 := (Lo.refl w).lo hk4
  refine SR.q' (r_as (v := .int .i64 0) rfl) <| SR.q' (r_as (v := .bool false) rfl) <| SR.nil ?_
  refine W.seq ?_
  refine W.regS (SR.q' (r_mv (v := .slice _ _ _) rfl) <| SR.q' (r_build (vs := [(0, .slice AL nL cL)]) rfl (bld72_0 _ _ _)) <| SR.box (v := .agg (List.toArray _)) (l := [.slice AL nL cL, .int .i64 0, .int .u64 0]) rfl rfl ?_)
  intro g9 w10 hg11 hk12 hs13 hb14
  have hz15 := hk12.size
  have hB16 := hB8.lo hk12
  refine SR.q' (r_as (v := .pointer (some _)) rfl) <| SR.nil ?_
  refine W.seq ?_
  refine W.regS (SR.q' (r_mv (v := .pointer (some _)) rfl) <| SR.call ent59 (c___spec_l1Cur__anyLog w10 L 0 0 (hb14) ((((hL).lo hk4).lo hk12)) (by omega) (by omega)) rfl ?_)
  rintro e w17 ⟨v19, t20, s21, rfl, hb22, ht23, hq24, hk18⟩
  refine ⟨_, rfl, ?_⟩
  have hz25 := hk18.size
  have hB26 := hB16.new hk18 (by omega)
  refine SR.alloc (l := [str ([] : List UInt8), str ([] : List UInt8), .int .i64 0]) tz31 rfl ?_
  intro g27 w28 hg29 hk30 hs31 hb32
  have hz33 := hk30.size
  have hB34 := hB26.lo hk30
  refine SR.store (o := 0) (vs := [str v19.Durable, str v19.Pending, .int .i64 v19.Count]) agg31.2 rfl rfl rfl rfl (hb32) (Nat.le_of_ble_eq_true rfl) rfl ?_
  intro w35 hk36 hs37 hb38
  have hz39 := hk36.size
  have hB40 := hB34.new hk36 (by omega)
  refine SR.nil ?_
  refine W.seq ?_
  refine W.regS (SR.q' (r_mv (v := .pointer (some _)) rfl) <| SR.q' (r_fa fa31_1 rfl) <| SR.q' (r_ld (v := str v19.Pending) sca9 rfl ((hb38).cell rfl)) <| SR.q' (r_len_s und9 rfl) <| SR.q' (r_add rfl rfl (by omega)) <| SR.call ent56 (c___spec_l1Cur__pick w35 L t20 s21 (((hb22).lo hk30).kp hk36 (fun e' => by have e'' : g9 = g27 := e'; omega)) (((((((hL).lo hk4).lo hk12).kp hk18 (fun b_ hb e' => by have e'' : b_ = g9 := e'; omega)).lo hk30).kp hk36 (fun b_ hb e' => by have e'' : b_ = g27 := e'; omega))) (by omega) (by omega) ((v19.Pending.length : Int) + 3) (by first | omega | (simp only [List.length_append, List.length_cons, List.length_nil, List.length_take, List.length_drop]; omega))) rfl ?_)
  rintro e w41 ⟨v43, t44, s45, rfl, hb46, ht47, hq48, hk42⟩
  refine ⟨_, rfl, ?_⟩
  have hz49 := hk42.size
  have hB50 := hB40.new hk42 (by omega)
  refine SR.q' (r_sub rfl rfl (by omega)) <| SR.q' (r_as (v := .int .i64 _) rfl) <| SR.nil ?_
  refine W.seq ?_
  refine W.regA (Kp (fun b_ => b_ = g9 ∨ b_ = g1) w41) (fun f' w' => ∃ (v92 : Bool), ∃ (t93 : Int), ∃ (s94 : Int), At f' [(2, .pointer (some ((⟨g1, 0, none⟩ : Addr)))), (3, .int .i64 (v43 - 1)), (4, .bool v92)] ∧ (Kp (fun b_ => b_ = g9 ∨ b_ = g1) w41 w') ∧ (Blk w' g1 31 [str v19.Durable, str v19.Pending, .int .i64 v19.Count]) ∧ (Blk w' g9 72 [.slice AL nL cL, .int .i64 t93, .int .u64 s94]) ∧ (t44 ≤ t93 ∧ t93 ≤ t44 + 2)) mo ?_ ?_
  · intro w86 hk87
    have hz88 := hk87.size
    have hB89 := hB50.lo hk87
    refine AH.take 0 rfl (by kernel_rfl) trivial ((Kp.refl w41 : Kp (fun b_ => b_ = g9 ∨ b_ = g1) w41 w41).lo hk87) (fun w' hw' => r_lda (l := [str v19.Durable, str v19.Pending, .int .i64 v19.Count]) agg31 rfl (fun _ _ hu => (((hb38).kp hk42 (fun e' => by have e'' : g27 = g9 := e'; omega)).kp hw' (fun e' => e'.elim (fun e' => by have e'' : g27 = g9 := e'; omega) (fun e' => by have e'' : g27 = g1 := e'; omega))).cell hu) rfl) <| AH.take 1 rfl (by kernel_rfl) trivial ((Kp.refl w41 : Kp (fun b_ => b_ = g9 ∨ b_ = g1) w41 w41).lo hk87) (fun w' hw' => r_mv (v := .int .i64 _) rfl) <| AH.take 2 rfl (by kernel_rfl) trivial ((Kp.refl w41 : Kp (fun b_ => b_ = g9 ∨ b_ = g1) w41 w41).lo hk87) (fun w' hw' => r_mv (v := .pointer (some _)) rfl) <| AH.br [3] (by kernel_rfl) rfl ⟨Br.mk' rfl trivial ?_, trivial⟩
    refine SR.call ent58 (c___spec_l1Cur__one w86 L t44 s45 ((hb46).lo hk87) (((((((((hL).lo hk4).lo hk12).kp hk18 (fun b_ hb e' => by have e'' : b_ = g9 := e'; omega)).lo hk30).kp hk36 (fun b_ hb e' => by have e'' : b_ = g27 := e'; omega)).kp hk42 (fun b_ hb e' => by have e'' : b_ = g9 := e'; omega)).lo hk87)) (by omega) (by omega) 2 (by first | omega | (simp only [List.length_append, List.length_cons, List.length_nil, List.length_take, List.length_drop]; omega))) rfl ?_
    rintro e w90 ⟨v92, t93, s94, rfl, hb95, ht96, hk91⟩
    refine ⟨_, rfl, ?_⟩
    have hz97 := hk91.size
    have hB98 := hB89.new hk91 (by omega)
    have hS99 := ((Kp.refl w41 : Kp (fun b_ => b_ = g9 ∨ b_ = g1) w41 w41).lo hk87).step hk91 (fun _ _ e => .inl e)
    refine SR.nil ⟨hS99, _, rfl, ?_⟩
    refine AH.br [4] (by kernel_rfl) rfl ⟨Br.mk' rfl trivial ?_, trivial⟩
    refine SR.store (o := 0) (vs := [str v19.Durable, str v19.Pending, .int .i64 v19.Count]) agg31.2 rfl rfl rfl rfl ((((((((hb6).lo hk12).kp hk18 (fun e' => by have e'' : g1 = g9 := e'; omega)).lo hk30).kp hk36 (fun e' => by have e'' : g1 = g27 := e'; omega)).kp hk42 (fun e' => by have e'' : g1 = g9 := e'; omega)).lo hk87).kp hk91 (fun e' => by have e'' : g1 = g9 := e'; omega)) (Nat.le_of_ble_eq_true rfl) rfl ?_
    intro w100 hk101 hs102 hb103
    have hz104 := hk101.size
    have hB105 := hB98.new hk101 (by omega)
    have hS106 := (hS99).step hk101 (fun _ _ e => .inr (e))
    refine SR.nil ⟨hS106, _, rfl, ?_⟩
    refine AH.take 5 rfl (by kernel_rfl) trivial (hS106) (fun w' hw' => r_as (v := .int .i64 _) rfl) <| AH.take 6 rfl (by kernel_rfl) trivial (hS106) (fun w' hw' => r_as (v := .bool _) rfl) <| AH.done (by kernel_rfl) ?_
    exact ⟨v92, t93, s94, ⟨rfl, rfl, rfl, trivial⟩, hS106, (hb103), ((hb95).kp hk101 (fun e' => by have e'' : g9 = g1 := e'; omega)), ht96⟩
  rintro f109 w110 ⟨v92, t93, s94, hat112, hR111, hm107, hm108, ht96⟩
  rw [← sets_of_at hat112]
  have hz113 := hR111.size
  have hB114 := hB50.step hR111 (fun i_ hi_ e' => e'.elim (fun e' => by have e'' : i_ = g9 := e'; exfalso; omega) (fun e' => by have e'' : i_ = g1 := e'; exfalso; omega))
  refine W.ret ?_
  refine retCTT rfl rfl agg31 (hm107) rfl (v := .int .i64 _) rfl (v' := .bool _) rfl ?_
  exact ⟨v19, (v43 - 1), v92, eR (eT3 rfl rfl (eB (z_c_spec_DrawCrashLog_115 L nL hbdL hleL hp0 v19 t20 s21 ht23 hq24 v43 t44 s45 ht47 hq48 v92 t93 s94 ht96))), (z_c_spec_DrawCrashLog_116 L nL hbdL hleL hp0 v19 t20 s21 ht23 hq24 v43 t44 s45 ht47 hq48 v92 t93 s94 ht96), (z_c_spec_DrawCrashLog_117 L nL hbdL hleL hp0 v19 t20 s21 ht23 hq24 v43 t44 s45 ht47 hq48 v92 t93 s94 ht96), hB114⟩

theorem z_c_laws_vBig_1 (L : List UInt8) (nL : Nat) (hbdL : (nL : Int) ≤ 9223372036854775807) (hleL : nL = L.length) : (65536 < (nL : Int)) ↔ (65536 < (L.length : Int)) := by
  omega
theorem c_laws_vBig (w : World) {AL : Option Addr} {nL cL BL : Nat}  (L : List UInt8) (hL : SlR w BL encB 1 AL nL cL L) : Calls Tryd.prog 35 #[.slice AL nL cL] w fun e w' => e = .returned (.bool (decide (65536 < (L.length : Int)))) ∧ Lo w w' := by
  refine calls_W 6 Tryd.func35 rfl rfl rfl ?_
  have hbdL := hL.bound
  have hleL := hL.len
  have hBbL := hL.bd
  refine W.seq ?_
  refine W.regS (SR.q' (r_as (v := .bool false) rfl) <| SR.nil ?_)
  refine W.seq ?_
  refine W.regS (SR.q' (r_mv (v := .slice _ _ _) rfl) <| SR.q' (r_len und53 rfl) <| SR.q' (r_gt rfl rfl) <| SR.q' (r_as (v := .bool _) rfl) <| SR.nil ?_)
  refine W.ret ?_
  refine ret1 rfl (v := .bool _) rfl ?_
  exact ⟨eR (eDD (z_c_laws_vBig_1 L nL hbdL hleL)), (Lo.refl w)⟩

theorem c_spec_IsValidRecord (w : World) (r : LogRecord) (hp0 : (r.Command.length : Int) ≤ 281474976710656 ∧ (r.Reply.length : Int) ≤ 281474976710656) : Calls Tryd.prog 40 #[.agg (List.toArray (encLogRecord r))] w fun e w' => e = .returned (.bool (decide (RecOK r))) ∧ Lo w w' := by
  refine calls_W 5 Tryd.func40 rfl rfl rfl ?_
  refine W.seq ?_
  refine W.regS (SR.box (v := .agg (List.toArray _)) (l := [str r.Command, str r.Reply]) rfl rfl ?_)
  intro g1 w2 hg3 hk4 hs5 hb6
  have hz7 := hk4.size
  have hB8 := (Lo.refl w).lo hk4
  refine SR.q' (r_as (v := .bool false) rfl) <| SR.nil ?_
  refine W.seq ?_
  refine W.regS (SR.q' (r_lda (l := [str r.Command, str r.Reply]) agg27 rfl (fun _ _ hu => (hb6).cell hu) rfl) <| SR.call ent43 (c_spec_l33Good w2 r (by first | omega | (dsimp only; omega) | (dsimp only; simp only [List.length_drop]; omega))) rfl ?_)
  rintro e w9 ⟨rfl, hk10⟩
  refine ⟨_, rfl, ?_⟩
  have hz11 := hk10.size
  have hB12 := hB8.lo hk10
  refine SR.q' (r_as (v := .bool _) rfl) <| SR.nil ?_
  refine W.ret ?_
  refine ret1 rfl (v := .bool _) rfl ?_
  exact ⟨eR rfl, hB12⟩
end Go.Proofs.YthlbmkpkgiabnaaDoor
