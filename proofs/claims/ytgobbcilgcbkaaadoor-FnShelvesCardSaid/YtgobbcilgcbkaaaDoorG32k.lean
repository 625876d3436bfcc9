/- Walks, printed by a program of this claim's author. -/
import Derived.Test.YtgobbcilgcbkaaaDoorChecked
import Derived.Test.YtgobbcilgcbkaaaDoorUa
import Derived.Test.YtgobbcilgcbkaaaDoorFu
import Derived.Test.YtgobbcilgcbkaaaDoorFs
import Derived.Test.YtgobbcilgcbkaaaDoorFq
import Derived.Test.YtgobbcilgcbkaaaDoorFo
import Derived.Test.YtgobbcilgcbkaaaDoorDa
import Derived.Test.YtgobbcilgcbkaaaDoorUb
import Derived.Test.YtgobbcilgcbkaaaDoorG32e
namespace Go.Proofs.YtgobbcilgcbkaaaDoor
open Go Go.RowKit Fw
set_option maxRecDepth 10000
set_option maxHeartbeats 2000000
set_option linter.unusedVariables false
theorem bld27_0_1_2_3_4 (a0 : Option Addr) (b0 c0 : Nat) (a1 : Option Addr) (b1 c1 : Nat) (a2 : Int) (a3 : Int) (a4 : Int) : Tryd.prog.built 27 [(0, .slice a0 b0 c0), (1, .slice a1 b1 c1), (2, .int .i64 a2), (3, .int .i64 a3), (4, .int .i64 a4)] = some (List.toArray [.slice a0 b0 c0, .slice a1 b1 c1, .int .i64 a2, .int .i64 a3, .int .i64 a4]) := by kernel_rfl
theorem fa66_0 : FA Tryd.prog 66 0 0 := fun _ _ => by kernel_rfl
theorem fa66_1 : FA Tryd.prog 66 1 1 := fun _ _ => by kernel_rfl
theorem fa66_2 : FA Tryd.prog 66 2 2 := fun _ _ => by kernel_rfl
theorem fa66_3 : FA Tryd.prog 66 3 3 := fun _ _ => by kernel_rfl
theorem tel24 : TEl Tryd.prog 24 48 (.agg (List.toArray [.int .i64 0, .int .i64 0, .int .i64 0])) 3 24 := ⟨by kernel_rfl, by kernel_rfl, rfl, by decide⟩
theorem tel25 : TEl Tryd.prog 25 57 (.agg (List.toArray [.int .i64 0, .int .i64 0])) 2 16 := ⟨by kernel_rfl, by kernel_rfl, rfl, by decide⟩
theorem tz27 : TZ Tryd.prog 27 (.agg (List.toArray [.slice none 0 0, .slice none 0 0, .int .i64 0, .int .i64 0, .int .i64 0])) := fun _ => by kernel_rfl

theorem c_spec_l32Own (w : World) (x : Library) {Ax_Maps : Option Addr} {nx_Maps cx_Maps Bx_Maps : Nat} (hx_Maps : SlR w Bx_Maps encLMap 3 Ax_Maps nx_Maps cx_Maps x.Maps) {Ax_Away : Option Addr} {nx_Away cx_Away Bx_Away : Nat} (hx_Away : SlR w Bx_Away encAway 2 Ax_Away nx_Away cx_Away x.Away) (hp0 : (nx_Maps : Int) ≤ 1048576) (hp1 : (nx_Away : Int) ≤ 1048576) : Calls Tryd.prog 62 #[.agg (List.toArray [.slice Ax_Maps nx_Maps cx_Maps, .slice Ax_Away nx_Away cx_Away, .int .i64 x.Bought, .int .i64 x.Dropped, .int .i64 x.Mended])] w fun e w' => ∃ (A1' : Option Addr) (n1' c1' : Nat) (A2' : Option Addr) (n2' c2' : Nat), e = .returned (.agg (List.toArray [.slice A1' n1' c1', .slice A2' n2' c2', .int .i64 x.Bought, .int .i64 x.Dropped, .int .i64 x.Mended])) ∧ SlO w' w.heap.size encLMap 3 48 A1' n1' c1' x.Maps ∧ SlO w' w.heap.size encAway 2 57 A2' n2' c2' x.Away ∧ (∀ b_, A1' = some ⟨b_, 0, none⟩ → ¬ A2' = some ⟨b_, 0, none⟩) ∧ Lo w w' := by
  refine calls_W 18 Tryd.func62 rfl rfl rfl ?_
  have hbdx_Maps := hx_Maps.bound
  have hlex_Maps := hx_Maps.len
  have hBbx_Maps := hx_Maps.bd
  have hbdx_Away := hx_Away.bound
  have hlex_Away := hx_Away.len
  have hBbx_Away := hx_Away.bd
  refine W.seq ?_
  refine W.regS (SR.box (v := .agg (List.toArray _)) (l := [.slice Ax_Maps nx_Maps cx_Maps, .slice Ax_Away nx_Away cx_Away, .int .i64 x.Bought, .int .i64 x.Dropped, .int .i64 x.Mended]) rfl rfl ?_)
  intro g1 w2 hg3 hk4 hs5 hb6
  have hz7 := hk4.size
  have hB8 := (Lo.refl w).lo hk4
  refine SR.alloc (l := [.slice none 0 0, .slice none 0 0, .int .i64 0, .int .i64 0, .int .i64 0]) tz27 rfl ?_
  intro g9 w10 hg11 hk12 hs13 hb14
  have hz15 := hk12.size
  have hB16 := hB8.lo hk12
  refine SR.nil ?_
  refine W.seq ?_
  have hm17 := ((hx_Maps).lo hk4).lo hk12
  have hm18 := ((hx_Away).lo hk4).lo hk12
  refine W.regA (Kp (fun b_ => b_ = g9) w10) (fun f' w' => ∃ (g79 : Nat) (A89 : Option Addr) (c90 : Nat) (g100 : Nat) (A113 : Option Addr) (c114 : Nat), At f' [(2, .pointer (pA g9))] ∧ (Kp (fun b_ => b_ = g9) w10 w') ∧ (SlO w' w10.heap.size encLMap 3 48 A89 (0 + nx_Maps) c90 x.Maps) ∧ (SlO w' w10.heap.size encAway 2 57 A113 (0 + nx_Away) c114 x.Away) ∧ (Blk w' g9 27 [.slice A89 (0 + nx_Maps) c90, .slice A113 (0 + nx_Away) c114, .int .i64 x.Bought, .int .i64 x.Dropped, .int .i64 x.Mended]) ∧ (∀ b_, A89 = some ⟨b_, 0, none⟩ → ¬ A113 = some ⟨b_, 0, none⟩)) mo ?_ ?_
  · intro w180 hk181
    have hz182 := hk181.size
    have hB183 := hB16.lo hk181
    refine AH.via #[true, true, true, true, true, true, true, false, true, true, true, true, true, true, false, false] 3 (fun f' w' => ∃ (g79 : Nat) (A89 : Option Addr) (c90 : Nat) (g100 : Nat), At f' [(2, .pointer (pA g9)), (6, .slice A89 (0 + nx_Maps) c90), (7, .slice (pA g100) 0 0), (9, .slice Ax_Away nx_Away cx_Away), (12, .int .i64 x.Bought), (14, .int .i64 x.Dropped), (16, .int .i64 x.Mended)] ∧ (Kp (fun b_ => b_ = g9) w10 w') ∧ (SlO w' w10.heap.size encLMap 3 48 A89 (0 + nx_Maps) c90 x.Maps) ∧ (SlO w' w10.heap.size encAway 2 57 (pA g100) 0 0 ([] : List Away)) ∧ (Blk w' g9 27 [.slice none 0 0, .slice none 0 0, .int .i64 0, .int .i64 0, .int .i64 0]) ∧ (∀ b_, A89 = some ⟨b_, 0, none⟩ → ¬ (pA g100) = some ⟨b_, 0, none⟩)) ?_ (fun hn184 => ?_)
    · rintro f185 w186 ⟨g79, A89, c90, g100, hat188, hR187, hm109, hm110, hm111, hd112⟩
      rw [← sets_of_at hat188]
      have hz189 := hR187.size
      have hB190 := hB16.new hR187 (by omega)
      refine AH.br [7] (by kernel_rfl) rfl ⟨Br.mk' rfl trivial ?_, trivial⟩
      refine SR.app tel25 rfl rfl (hm110) ((hm18).kn hR187 (by omega)) (fun _ => rfl) (by omega) (by omega) ?_
      intro A191 c192 w193 hk194 hO195 hN196
      have hz197 := hk194.size
      have hB198 := hB190.step hk194 (fun i_ hi_ e' => by have := ((hm110)).base_le e'; first | omega | (exfalso; omega) | exact e' | exact .inl e' | exact .inr e')
      have hS199 := (hR187).step hk194 (fun i_ hi_ e' => by have := ((hm110)).base_le e'; exfalso; omega)
      rw [List.nil_append] at hO195
      have hd200 : ∀ b_, A191 = some ⟨b_, 0, none⟩ → ¬ A89 = some ⟨b_, 0, none⟩ := fun b_ e' h' => (hN196 b_ e').elim (fun h => (fun b_ h h' => hd112 b_ h' h) b_ (h.trans e') h') (fun h => by have := (hm109).base_le h'; omega)
      refine SR.nil ⟨hS199, _, rfl, ?_⟩
      refine AH.take 14 rfl (by kernel_rfl) trivial (hS199) (fun w' hw' => r_build (vs := [(0, .slice A89 (0 + nx_Maps) c90), (1, .slice A191 (0 + nx_Away) c192), (2, .int .i64 x.Bought), (3, .int .i64 x.Dropped), (4, .int .i64 x.Mended)]) rfl (bld27_0_1_2_3_4 _ _ _ _ _ _ _ _ _)) <| AH.br [15] (by kernel_rfl) rfl ⟨Br.mk' rfl trivial ?_, trivial⟩
      refine SR.store (o := 0) (vs := [.slice A89 (0 + nx_Maps) c90, .slice A191 (0 + nx_Away) c192, .int .i64 x.Bought, .int .i64 x.Dropped, .int .i64 x.Mended]) agg27.2 rfl rfl rfl rfl ((hm111).kp hk194 (fun e' => by have := ((hm110)).base_le e'; omega)) (Nat.le_of_ble_eq_true rfl) rfl ?_
      intro w201 hk202 hs203 hb204
      have hz205 := hk202.size
      have hB206 := hB198.new hk202 (by omega)
      have hS207 := (hS199).step hk202 (fun _ _ e => e)
      refine SR.nil ⟨hS207, _, rfl, ?_⟩
      refine AH.done (by kernel_rfl) ?_
      exact ⟨g79, A89, c90, g100, A191, c192, ⟨rfl, trivial⟩, hS207, ((((hm109).kp hk194 (fun b_ hb e' => hd112 b_ hb e')).kn hk202 (by omega)).down (by omega)), (((hO195).kn hk202 (by omega)).down (by omega)), (hb204), (fun b_ h h' => hd200 b_ h' h)⟩
    refine AH.via #[true, true, true, false, true, true, true, false, true, true, true, true, true, true, false, false] 4 (fun f' w' => ∃ (g79 : Nat) (g138 : Nat), At f' [(2, .pointer (pA g9)), (3, .slice (pA g79) 0 0), (5, .slice Ax_Maps nx_Maps cx_Maps), (7, .slice (pA g138) 0 0), (9, .slice Ax_Away nx_Away cx_Away), (12, .int .i64 x.Bought), (14, .int .i64 x.Dropped), (16, .int .i64 x.Mended)] ∧ (Kp (fun b_ => b_ = g9) w10 w') ∧ (SlO w' w10.heap.size encLMap 3 48 (pA g79) 0 0 ([] : List LMap)) ∧ (SlO w' w10.heap.size encAway 2 57 (pA g138) 0 0 ([] : List Away)) ∧ (Blk w' g9 27 [.slice none 0 0, .slice none 0 0, .int .i64 0, .int .i64 0, .int .i64 0]) ∧ (∀ b_, (pA g79) = some ⟨b_, 0, none⟩ → ¬ (pA g138) = some ⟨b_, 0, none⟩)) ?_ (fun hn209 => ?_)
    · rintro f210 w211 ⟨g79, g138, hat213, hR212, hm147, hm148, hm149, hd150⟩
      rw [← sets_of_at hat213]
      have hz214 := hR212.size
      have hB215 := hB16.new hR212 (by omega)
      refine AH.br [3] (by kernel_rfl) rfl ⟨Br.mk' rfl trivial ?_, trivial⟩
      refine SR.app tel24 rfl rfl (hm147) ((hm17).kn hR212 (by omega)) (fun _ => rfl) (by omega) (by omega) ?_
      intro A216 c217 w218 hk219 hO220 hN221
      have hz222 := hk219.size
      have hB223 := hB215.step hk219 (fun i_ hi_ e' => by have := ((hm147)).base_le e'; first | omega | (exfalso; omega) | exact e' | exact .inl e' | exact .inr e')
      have hS224 := (hR212).step hk219 (fun i_ hi_ e' => by have := ((hm147)).base_le e'; exfalso; omega)
      rw [List.nil_append] at hO220
      have hd225 : ∀ b_, A216 = some ⟨b_, 0, none⟩ → ¬ (pA g138) = some ⟨b_, 0, none⟩ := fun b_ e' h' => (hN221 b_ e').elim (fun h => hd150 b_ (h.trans e') h') (fun h => by have := (hm148).base_le h'; omega)
      refine SR.nil ⟨hS224, _, rfl, ?_⟩
      refine AH.goto (by kernel_rfl) rfl (hn184 _ _ ?_)
      exact ⟨g79, A216, c217, g138, ⟨rfl, rfl, rfl, rfl, rfl, rfl, rfl, trivial⟩, hS224, ((hO220).down (by omega)), (((hm148).kp hk219 (fun b_ hb e' => hd150 b_ e' hb)).down (by omega)), ((hm149).kp hk219 (fun e' => by have := ((hm147)).base_le e'; omega)), hd225⟩
    refine AH.take 1 rfl (by kernel_rfl) trivial ((Kp.refl w10 : Kp (fun b_ => b_ = g9) w10 w10).lo hk181) (fun w' hw' => r_fa fa27_0 rfl) <| AH.take 2 rfl (by kernel_rfl) trivial ((Kp.refl w10 : Kp (fun b_ => b_ = g9) w10 w10).lo hk181) (fun w' hw' => r_ld (v := .slice Ax_Maps nx_Maps cx_Maps) sca24 rfl ((((hb6).lo hk12).kn hw' (by omega)).cell rfl)) <| AH.take 5 rfl (by kernel_rfl) trivial ((Kp.refl w10 : Kp (fun b_ => b_ = g9) w10 w10).lo hk181) (fun w' hw' => r_fa fa27_1 rfl) <| AH.take 6 rfl (by kernel_rfl) trivial ((Kp.refl w10 : Kp (fun b_ => b_ = g9) w10 w10).lo hk181) (fun w' hw' => r_ld (v := .slice Ax_Away nx_Away cx_Away) sca25 rfl ((((hb6).lo hk12).kn hw' (by omega)).cell rfl)) <| AH.take 8 rfl (by kernel_rfl) trivial ((Kp.refl w10 : Kp (fun b_ => b_ = g9) w10 w10).lo hk181) (fun w' hw' => r_fa fa27_2 rfl) <| AH.take 9 rfl (by kernel_rfl) trivial ((Kp.refl w10 : Kp (fun b_ => b_ = g9) w10 w10).lo hk181) (fun w' hw' => r_ld (v := .int .i64 x.Bought) sca3 rfl ((((hb6).lo hk12).kn hw' (by omega)).cell rfl)) <| AH.take 10 rfl (by kernel_rfl) trivial ((Kp.refl w10 : Kp (fun b_ => b_ = g9) w10 w10).lo hk181) (fun w' hw' => r_fa fa27_3 rfl) <| AH.take 11 rfl (by kernel_rfl) trivial ((Kp.refl w10 : Kp (fun b_ => b_ = g9) w10 w10).lo hk181) (fun w' hw' => r_ld (v := .int .i64 x.Dropped) sca3 rfl ((((hb6).lo hk12).kn hw' (by omega)).cell rfl)) <| AH.take 12 rfl (by kernel_rfl) trivial ((Kp.refl w10 : Kp (fun b_ => b_ = g9) w10 w10).lo hk181) (fun w' hw' => r_fa fa27_4 rfl) <| AH.take 13 rfl (by kernel_rfl) trivial ((Kp.refl w10 : Kp (fun b_ => b_ = g9) w10 w10).lo hk181) (fun w' hw' => r_ld (v := .int .i64 x.Mended) sca3 rfl ((((hb6).lo hk12).kn hw' (by omega)).cell rfl)) <| AH.br [0, 4] (by kernel_rfl) rfl ⟨Br.mk' rfl trivial ?_, Br.mk' rfl trivial ?_, trivial⟩
    · refine SR.lit (vs := []) (L := ([] : List LMap)) (enc := encLMap) tel24 (fun _ => rfl) rfl rfl rfl (by decide) ?_
      intro g227 w228 hg229 hk230 hO231
      have hz232 := hk230.size
      have hB233 := hB183.lo hk230
      have hS234 := ((Kp.refl w10 : Kp (fun b_ => b_ = g9) w10 w10).lo hk181).lo hk230
      refine SR.nil ⟨hS234, _, rfl, ?_⟩
      refine AH.br [3, 4] (by kernel_rfl) rfl ⟨Br.mk' rfl trivial ?_, Br.mk' rfl trivial ?_, trivial⟩
      · refine SR.app tel24 rfl rfl (hO231) (((hm17).lo hk181).lo hk230) (fun _ => rfl) (by omega) (by omega) ?_
        intro A235 c236 w237 hk238 hO239 hN240
        have hz241 := hk238.size
        have hB242 := hB233.step hk238 (fun i_ hi_ e' => by have := ((hO231)).base_le e'; first | omega | (exfalso; omega) | exact e' | exact .inl e' | exact .inr e')
        have hS243 := (hS234).step hk238 (fun i_ hi_ e' => by have := ((hO231)).base_le e'; exfalso; omega)
        rw [List.nil_append] at hO239
        refine SR.nil ⟨hS243, _, rfl, ?_⟩
        refine AH.br [4] (by kernel_rfl) rfl ⟨Br.mk' rfl trivial ?_, trivial⟩
        refine SR.lit (vs := []) (L := ([] : List Away)) (enc := encAway) tel25 (fun _ => rfl) rfl rfl rfl (by decide) ?_
        intro g244 w245 hg246 hk247 hO248
        have hz249 := hk247.size
        have hB250 := hB242.lo hk247
        have hS251 := (hS243).lo hk247
        have hd252 : ¬ A235 = some ⟨g244, 0, none⟩ := fun e' => by have := (hO239).base_le e'; omega
        refine SR.nil ⟨hS251, _, rfl, ?_⟩
        refine AH.goto (by kernel_rfl) rfl (hn184 _ _ ?_)
        exact ⟨g227, A235, c236, g244, ⟨rfl, rfl, rfl, rfl, rfl, rfl, rfl, trivial⟩, hS251, (((hO239).lo hk247).down (by omega)), ((hO248).down (by omega)), (((((hb14).lo hk181).lo hk230).kp hk238 (fun e' => by have := ((hO231)).base_le e'; omega)).lo hk247), (fun b_ h h' => hd252 (h.trans h'.symm))⟩
      · refine SR.lit (vs := []) (L := ([] : List Away)) (enc := encAway) tel25 (fun _ => rfl) rfl rfl rfl (by decide) ?_
        intro g254 w255 hg256 hk257 hO258
        have hz259 := hk257.size
        have hB260 := hB233.lo hk257
        have hS261 := (hS234).lo hk257
        have hd262 : ¬ (pA g227) = some ⟨g254, 0, none⟩ := fun e' => by have := (hO231).base_le e'; omega
        refine SR.nil ⟨hS261, _, rfl, ?_⟩
        refine AH.goto (by kernel_rfl) rfl (hn209 _ _ ?_)
        exact ⟨g227, g254, ⟨rfl, rfl, rfl, rfl, rfl, rfl, rfl, rfl, trivial⟩, hS261, (((hO231).lo hk257).down (by omega)), ((hO258).down (by omega)), ((((hb14).lo hk181).lo hk230).lo hk257), (fun b_ h h' => hd262 (h.trans h'.symm))⟩
    · refine SR.lit (vs := []) (L := ([] : List Away)) (enc := encAway) tel25 (fun _ => rfl) rfl rfl rfl (by decide) ?_
      intro g264 w265 hg266 hk267 hO268
      have hz269 := hk267.size
      have hB270 := hB183.lo hk267
      have hS271 := ((Kp.refl w10 : Kp (fun b_ => b_ = g9) w10 w10).lo hk181).lo hk267
      refine SR.nil ⟨hS271, _, rfl, ?_⟩
      refine AH.br [0] (by kernel_rfl) rfl ⟨Br.mk' rfl trivial ?_, trivial⟩
      refine SR.lit (vs := []) (L := ([] : List LMap)) (enc := encLMap) tel24 (fun _ => rfl) rfl rfl rfl (by decide) ?_
      intro g272 w273 hg274 hk275 hO276
      have hz277 := hk275.size
      have hB278 := hB270.lo hk275
      have hS279 := (hS271).lo hk275
      have hd280 : ¬ (pA g264) = some ⟨g272, 0, none⟩ := fun e' => by have := (hO268).base_le e'; omega
      refine SR.nil ⟨hS279, _, rfl, ?_⟩
      refine AH.goto (by kernel_rfl) rfl (hn209 _ _ ?_)
      exact ⟨g272, g264, ⟨rfl, rfl, rfl, rfl, rfl, rfl, rfl, rfl, trivial⟩, hS279, ((hO276).down (by omega)), (((hO268).lo hk275).down (by omega)), ((((hb14).lo hk181).lo hk267).lo hk275), (fun b_ h h' => hd280 (h'.trans h.symm))⟩
  rintro f282 w283 ⟨g79, A89, c90, g100, A113, c114, hat285, hR284, hm134, hm135, hm136, hd137⟩
  rw [← sets_of_at hat285]
  have hz286 := hR284.size
  have hB287 := hB16.new hR284 (by omega)
  refine W.ret ?_
  refine retC rfl rfl agg27 (hm136) rfl ?_
  exact ⟨A89, 0 + nx_Maps, c90, A113, 0 + nx_Away, c114, eR rfl, ((hm134).down (by omega)), ((hm135).down (by omega)), hd137, hB287⟩

theorem c_spec_l32Away (w : World) (x : Library) {Ax_Maps : Option Addr} {nx_Maps cx_Maps Bx_Maps : Nat} (hx_Maps : SlR w Bx_Maps encLMap 3 Ax_Maps nx_Maps cx_Maps x.Maps) {Ax_Away : Option Addr} {nx_Away cx_Away Bx_Away : Nat} (hx_Away : SlR w Bx_Away encAway 2 Ax_Away nx_Away cx_Away x.Away) (id : Int) (r : Int) : Calls Tryd.prog 66 #[.agg (List.toArray [.slice Ax_Maps nx_Maps cx_Maps, .slice Ax_Away nx_Away cx_Away, .int .i64 x.Bought, .int .i64 x.Dropped, .int .i64 x.Mended]), .int .i64 id, .int .i64 r] w fun e w' => e = .returned (.int .i64 (idxF (isA id r) x.Away)) ∧ Lo w w' := by
  refine calls_W 34 Tryd.func66 rfl rfl rfl ?_
  have hbdx_Maps := hx_Maps.bound
  have hlex_Maps := hx_Maps.len
  have hBbx_Maps := hx_Maps.bd
  have hbdx_Away := hx_Away.bound
  have hlex_Away := hx_Away.len
  have hBbx_Away := hx_Away.bd
  refine W.seq ?_
  refine W.regS (SR.box (v := .agg (List.toArray _)) (l := [.slice Ax_Maps nx_Maps cx_Maps, .slice Ax_Away nx_Away cx_Away, .int .i64 x.Bought, .int .i64 x.Dropped, .int .i64 x.Mended]) rfl rfl ?_)
  intro g1 w2 hg3 hk4 hs5 hb6
  have hz7 := hk4.size
  have hB8 := (Lo.refl w).lo hk4
  refine SR.q' (r_as (v := .int .i64 0) rfl) <| SR.nil ?_
  refine W.seq ?_
  refine W.seq ?_
  refine W.regS (SR.q' (r_as (v := .int .i64 0) rfl) <| SR.nil ?_)
  refine W.block ?_
  refine W.loop (σ := Nat) (fun g => [(1, .int .i64 id), (2, .int .i64 r), (3, .pointer (pA g1)), (7, .int .i64 (g : Int))]) (fun g w' => (Lo w w') ∧ (Blk w' g1 27 [.slice Ax_Maps nx_Maps cx_Maps, .slice Ax_Away nx_Away cx_Away, .int .i64 x.Bought, .int .i64 x.Dropped, .int .i64 x.Mended]) ∧ (SlR w' Bx_Maps encLMap 3 Ax_Maps nx_Maps cx_Maps x.Maps) ∧ (SlR w' Bx_Away encAway 2 Ax_Away nx_Away cx_Away x.Away) ∧ (g ≤ nx_Away ∧ NoneTo (isA id r) x.Away g)) (fun g => nx_Away - g) 0 ?_ ?_ ?_
  · exact ⟨rfl, rfl, rfl, rfl, trivial⟩
  · exact ⟨hB8, hb6, (hx_Maps).lo hk4, (hx_Away).lo hk4, (by exact ⟨Nat.zero_le _, NoneTo.zero⟩)⟩
  · rintro k f9 w10 hP12
    obtain ⟨hB11, hm13, hm14, hm15, hi16⟩ : (Lo w w10) ∧ (Blk w10 g1 27 [.slice Ax_Maps nx_Maps cx_Maps, .slice Ax_Away nx_Away cx_Away, .int .i64 x.Bought, .int .i64 x.Dropped, .int .i64 x.Mended]) ∧ (SlR w10 Bx_Maps encLMap 3 Ax_Maps nx_Maps cx_Maps x.Maps) ∧ (SlR w10 Bx_Away encAway 2 Ax_Away nx_Away cx_Away x.Away) ∧ (k ≤ nx_Away ∧ NoneTo (isA id r) x.Away k) := hP12
    refine (?_ : W _ _ _ _ _ (act _ (sets f9 [(1, .int .i64 id), (2, .int .i64 r), (3, .pointer (pA g1)), (7, .int .i64 (k : Int))])) _)
    have hzw10 := hB11.size
    have hl17 := hm13.lt
    refine W.seq ?_
    refine W.seq ?_
    refine W.regS (SR.q' (r_mv (v := .int .i64 _) rfl) <| SR.q' (r_fa fa27_1 rfl) <| SR.q' (r_ld (v := .slice Ax_Away nx_Away cx_Away) sca25 rfl ((hm13).cell rfl)) <| SR.q' (r_len und25 rfl) <| SR.q' (r_lt rfl rfl) <| SR.nil ?_)
    refine W.cond_d rfl (fun h18 => ?_) (fun h18 => ?_)
    · refine W.skip ?_
      refine W.seq ?_
      refine W.block ?_
      refine W.seq ?_
      refine W.regJS (fun f' w' => At f' [(1, .int .i64 id), (2, .int .i64 r), (3, .pointer (pA g1)), (7, .int .i64 (k : Int)), (32, .bool (decide ((((gt x.Away k).Map) = id) ∧ (((gt x.Away k).Reader) = r))))] ∧ Lo w10 w' ∧ (x.Away[k]? = some (gt x.Away k))) ?_ ?_
      · refine SR.q' (r_fa fa27_1 rfl) <| SR.q' (r_ld (v := .slice Ax_Away nx_Away cx_Away) sca25 rfl ((hm13).cell rfl)) <| SR.q' (r_mv (v := .int .i64 _) rfl) <| ?_
        have hx20 := (hm15).elem (i := k) (by omega)
        refine SR.q' (r_ixR tsl25 (hm15) rfl rfl (by omega)) <| SR.q' (r_fa fa57_0 rfl) <| SR.q' (r_ld (v := .int .i64 ((gt x.Away k).Map)) sca3 rfl ((hm15).cell hx20 rfl)) <| SR.q' (r_mv (v := .int .i64 _) rfl) <| SR.q' (r_eq rfl rfl) <| SR.q' (r_mv (v := .bool _) rfl) <| SR.splitD (fun h21 => ?_) (fun h21 => ?_)
        · refine SR.g' rfl (r_fa fa27_1 rfl) <| SR.g' rfl (r_ld (v := .slice Ax_Away nx_Away cx_Away) sca25 rfl ((hm13).cell rfl)) <| SR.g' rfl (r_mv (v := .int .i64 _) rfl) <| SR.g' rfl (r_ixR tsl25 (hm15) rfl rfl (by omega)) <| SR.g' rfl (r_fa fa57_1 rfl) <| SR.g' rfl (r_ld (v := .int .i64 ((gt x.Away k).Reader)) sca3 rfl ((hm15).cell hx20 rfl)) <| SR.g' rfl (r_mv (v := .int .i64 _) rfl) <| SR.g' rfl (r_eq rfl rfl) <| SR.q' (r_pick true rfl (v := .bool _) rfl) <| SR.nil ?_
          exact ⟨_, rfl, ⟨⟨rfl, rfl, rfl, rfl, (eDD (jat h21)), trivial⟩, (Lo.refl _), hx20⟩⟩
        · refine SR.s' rfl <| SR.s' rfl <| SR.s' rfl <| SR.s' rfl <| SR.s' rfl <| SR.s' rfl <| SR.s' rfl <| SR.s' rfl <| SR.q' (r_pick false rfl (v := .bool false) rfl) <| SR.nil ?_
          exact ⟨_, rfl, ⟨⟨rfl, rfl, rfl, rfl, (eDF (jaf h21).2), trivial⟩, (Lo.refl _), hx20⟩⟩
      rintro f22 w23 ⟨hat24, hk25, hq26⟩
      rw [← sets_of_at hat24]
      have hz27 := hk25.size
      have hB28 := hB11.lo hk25
      refine W.cond_d rfl (fun h29 => ?_) (fun h29 => ?_)
      · have hq30 : ((gt x.Away k).Map) = id := h29.1
        have hq31 : ((gt x.Away k).Reader) = r := h29.2
        refine W.seq ?_
        refine W.regS (SR.q' (r_mv (v := .int .i64 _) rfl) <| SR.q' (r_as (v := .int .i64 _) rfl) <| SR.nil ?_)
        refine W.ret ?_
        refine ret1 rfl (v := .int .i64 _) rfl ?_
        exact ⟨eR (eI (by first | exact idx_at (And.right ‹_ ∧ NoneTo _ _ _›) ‹x.Away[k]? = some _› (by unfold isA; exact decide_eq_true ‹_›) | exact idx_no (And.right ‹_ ∧ NoneTo _ _ _›) hlex_Away ‹_›)), hB28⟩
      · refine W.skip ?_
        refine W.regS (SR.q' (r_mv (v := .int .i64 _) rfl) <| SR.q' (r_add rfl rfl (by omega)) <| SR.q' (r_as (v := .int .i64 _) rfl) <| SR.nil ?_)
        refine ⟨k + 1, _, rfl, ⟨rfl, rfl, rfl, rfl, trivial⟩, ⟨hB28, (hm13).lo hk25, (hm14).lo hk25, (hm15).lo hk25, ?_⟩, ?_⟩
        · exact (by exact ⟨by omega, NoneTo.next (And.right ‹_ ∧ NoneTo _ _ _›) ‹x.Away[k]? = some _› (by unfold isA; exact decide_eq_false ‹_›)⟩)
        · exact (by omega)
    · refine W.exit (xin_here ?_)
      refine W.seq ?_
      refine W.regS (SR.q' (r_as (v := .int .i64 (-1)) rfl) <| SR.nil ?_)
      refine W.ret ?_
      refine ret1 rfl (v := .int .i64 _) rfl ?_
      exact ⟨eR (eI (by first | exact idx_at (And.right ‹_ ∧ NoneTo _ _ _›) ‹x.Away[k]? = some _› (by unfold isA; exact decide_eq_true ‹_›) | exact idx_no (And.right ‹_ ∧ NoneTo _ _ _›) hlex_Away ‹_›)), hB11⟩

open Classical in
noncomputable def spec_l32Step (x : Library) (s : LibraryStep) : Bool :=
  if s.Kind = 1 then decide ((1 ≤ s.Id ∧ s.Id ≤ 99) ∧ ((s.Reader = 0) ∧ (1 ≤ s.Value ∧ s.Value ≤ 50))) else if s.Kind = 2 then decide ((0 ≤ (idxF (hasId s.Id) x.Maps)) ∧ ((1 ≤ s.Reader ∧ s.Reader ≤ 999) ∧ (s.Value = 0))) else if s.Kind = 3 then decide ((0 ≤ (idxF (hasId s.Id) x.Maps)) ∧ ((1 ≤ s.Reader ∧ s.Reader ≤ 999) ∧ (0 ≤ s.Value ∧ s.Value ≤ 1))) else if s.Kind = 5 then decide ((0 ≤ (idxF (hasId s.Id) x.Maps)) ∧ ((1 ≤ s.Reader ∧ s.Reader ≤ 999) ∧ (1 ≤ s.Value ∧ s.Value ≤ 999))) else decide (((s.Kind = 4) ∧ ((0 ≤ (idxF (hasId s.Id) x.Maps)) ∧ ((s.Reader = 0) ∧ (1 ≤ s.Value)))) ∨ ((¬ (s.Kind = 4)) ∧ (((s.Kind = 6) ∧ ((0 ≤ (idxF (hasId s.Id) x.Maps)) ∧ ((s.Reader = 0) ∧ (1 ≤ s.Value)))) ∨ ((¬ (s.Kind = 6)) ∧ ((s.Kind = 7) ∧ ((0 ≤ (idxF (hasId s.Id) x.Maps)) ∧ ((s.Reader = 0) ∧ (1 ≤ s.Value))))))))
theorem c_spec_l32Step (w : World) (x : Library) {Ax_Maps : Option Addr} {nx_Maps cx_Maps Bx_Maps : Nat} (hx_Maps : SlR w Bx_Maps encLMap 3 Ax_Maps nx_Maps cx_Maps x.Maps) {Ax_Away : Option Addr} {nx_Away cx_Away Bx_Away : Nat} (hx_Away : SlR w Bx_Away encAway 2 Ax_Away nx_Away cx_Away x.Away) (s : LibraryStep) : Calls Tryd.prog 55 #[.agg (List.toArray [.slice Ax_Maps nx_Maps cx_Maps, .slice Ax_Away nx_Away cx_Away, .int .i64 x.Bought, .int .i64 x.Dropped, .int .i64 x.Mended]), .agg (List.toArray (encLibraryStep s))] w fun e w' => e = .returned (.bool (spec_l32Step x s)) ∧ Lo w w' := by
  refine calls_W 91 Tryd.func55 rfl rfl rfl ?_
  have hbdx_Maps := hx_Maps.bound
  have hlex_Maps := hx_Maps.len
  have hBbx_Maps := hx_Maps.bd
  have hbdx_Away := hx_Away.bound
  have hlex_Away := hx_Away.len
  have hBbx_Away := hx_Away.bd
  have hbdx_Maps := hx_Maps.bound
  have hlex_Maps := hx_Maps.len
  have hBbx_Maps := hx_Maps.bd
  have hbdx_Away := hx_Away.bound
  have hlex_Away := hx_Away.len
  have hBbx_Away := hx_Away.bd
  refine W.seq ?_
  refine W.regS (SR.box (v := .agg (List.toArray _)) (l := [.slice Ax_Maps nx_Maps cx_Maps, .slice Ax_Away nx_Away cx_Away, .int .i64 x.Bought, .int .i64 x.Dropped, .int .i64 x.Mended]) rfl rfl ?_)
  intro g1 w2 hg3 hk4 hs5 hb6
  have hz7 := hk4.size
  have hB8 := (Lo.refl w).lo hk4
  refine SR.box (v := .agg (List.toArray _)) (l := [.int .i64 s.Kind, .int .i64 s.Id, .int .i64 s.Reader, .int .i64 s.Value]) rfl rfl ?_
  intro g9 w10 hg11 hk12 hs13 hb14
  have hz15 := hk12.size
  have hB16 := hB8.lo hk12
  refine SR.q' (r_as (v := .bool false) rfl) <| SR.nil ?_
  refine W.seq ?_
  have hm17 := ((hx_Maps).lo hk4).lo hk12
  have hm18 := ((hx_Away).lo hk4).lo hk12
  refine W.regD mo (by kernel_rfl) (QR.q' (fun w' hw' => r_lda (l := [.slice Ax_Maps nx_Maps cx_Maps, .slice Ax_Away nx_Away cx_Away, .int .i64 x.Bought, .int .i64 x.Dropped, .int .i64 x.Mended]) agg27 rfl (fun _ _ hu => (((hb6).lo hk12).lo hw').cell hu) rfl) <| QR.q' (fun w' hw' => r_fa fa66_1 rfl) <| QR.q' (fun w' hw' => r_ld (v := .int .i64 s.Id) sca3 rfl (((hb14).lo hw').cell rfl)) <| QR.call ent31 (fun w' hw' => (c_spec_l32Map w' x ((((hm17).lo hw'))) ((((hm18).lo hw'))) s.Id).mono fun _ _ h => ⟨h.1, hw'.trans h.2⟩) rfl <| ?_)
  have hq19 : idxF (hasId s.Id) x.Maps < (x.Maps.length : Int) ∧ -1 ≤ idxF (hasId s.Id) x.Maps := idx_lt
  refine QR.q' (fun w' hw' => r_ge rfl rfl) <| QR.q' (fun w' hw' => r_fa fa66_2 rfl) <| QR.q' (fun w' hw' => r_ld (v := .int .i64 s.Reader) sca3 rfl (((hb14).lo hw').cell rfl)) <| QR.call ent37 (fun w' hw' => (c_spec_l1In w' s.Reader 1 999).mono fun _ _ h => ⟨h.1, hw'.trans h.2⟩) rfl <| QR.q' (fun w' hw' => r_as (v := .bool _) rfl) <| QR.q' (fun w' hw' => r_as (v := .bool _) rfl) <| QR.nil ?_
  intro w20 hk21
  have hz22 := hk21.size
  have hB23 := hB16.lo hk21
  refine W.seq ?_
  refine W.seq ?_
  refine W.regS (SR.q' (r_fa fa66_0 rfl) <| SR.q' (r_ld (v := .int .i64 s.Kind) sca3 rfl (((hb14).lo hk21).cell rfl)) <| SR.nil ?_)
  refine W.block ?_
  refine W.seq ?_
  refine W.regS (SR.q' (r_eq rfl rfl) <| SR.q' (r_as (v := .bool _) rfl) <| SR.nil ?_)
  refine W.cond_d rfl (fun h24 => ?_) (fun h24 => ?_)
  · refine W.seq ?_
    refine W.regJS (fun f' w' => At f' [(3, .pointer (pA g9)), (4, .bool (decide ((1 ≤ s.Id ∧ s.Id ≤ 99) ∧ ((s.Reader = 0) ∧ (1 ≤ s.Value ∧ s.Value ≤ 50))))), (5, .bool (decide (0 ≤ (idxF (hasId s.Id) x.Maps))))] ∧ Lo w20 w') ?_ ?_
    · refine SR.q' (r_fa fa66_1 rfl) <| SR.q' (r_ld (v := .int .i64 s.Id) sca3 rfl (((hb14).lo hk21).cell rfl)) <| SR.call ent37 (c_spec_l1In w20 s.Id 1 99) rfl ?_
      rintro e w25 ⟨rfl, hk26⟩
      refine ⟨_, rfl, ?_⟩
      have hz27 := hk26.size
      have hB28 := hB23.lo hk26
      refine SR.q' (r_mv (v := .bool _) rfl) <| SR.splitD (fun h29 => ?_) (fun h29 => ?_)
      · refine SR.g' rfl (r_fa fa66_2 rfl) <| SR.g' rfl (r_ld (v := .int .i64 s.Reader) sca3 rfl ((((hb14).lo hk21).lo hk26).cell rfl)) <| SR.g' rfl (r_eq rfl rfl) <| SR.q' (r_pick true rfl (v := .bool _) rfl) <| SR.q' (r_mv (v := .bool _) rfl) <| SR.splitD (fun h30 => ?_) (fun h30 => ?_)
        · refine SR.g' rfl (r_fa fa66_3 rfl) <| SR.g' rfl (r_ld (v := .int .i64 s.Value) sca3 rfl ((((hb14).lo hk21).lo hk26).cell rfl)) <| SR.gcall rfl ent37 (c_spec_l1In w25 s.Value 1 50) rfl ?_
          rintro e w31 ⟨rfl, hk32⟩
          refine ⟨_, rfl, ?_⟩
          have hz33 := hk32.size
          have hB34 := hB28.lo hk32
          refine SR.q' (r_pick true rfl (v := .bool _) rfl) <| SR.q' (r_as (v := .bool _) rfl) <| SR.nil ?_
          exact ⟨_, rfl, ⟨⟨rfl, (eDD ((jat h30).trans (jat h29))), rfl, trivial⟩, ((hk26).trans hk32)⟩⟩
        · refine SR.s' rfl <| SR.s' rfl <| SR.s' rfl <| SR.q' (r_pick false rfl (v := .bool false) rfl) <| SR.q' (r_as (v := .bool _) rfl) <| SR.nil ?_
          exact ⟨_, rfl, ⟨⟨rfl, (eDF ((jaf h30).trans (jat h29)).2), rfl, trivial⟩, (hk26)⟩⟩
      · refine SR.s' rfl <| SR.s' rfl <| SR.s' rfl <| SR.q' (r_pick false rfl (v := .bool false) rfl) <| SR.q' (r_mv (v := .bool _) rfl) <| SR.s' rfl <| SR.s' rfl <| SR.s' rfl <| SR.q' (r_pick false rfl (v := .bool false) rfl) <| SR.q' (r_as (v := .bool _) rfl) <| SR.nil ?_
        exact ⟨_, rfl, ⟨⟨rfl, (eDF (jaf h29).2), rfl, trivial⟩, (hk26)⟩⟩
    rintro f35 w36 ⟨hat37, hk38⟩
    rw [← sets_of_at hat37]
    have hz39 := hk38.size
    have hB40 := hB23.lo hk38
    refine W.ret ?_
    refine ret1 rfl (v := .bool _) rfl ?_
    exact ⟨eR (eB (by unfold spec_l32Step; rw [if_pos h24] <;> rfl)), hB40⟩
  · refine W.seq ?_
    refine W.regS (SR.q' (r_eq rfl rfl) <| SR.q' (r_as (v := .bool _) rfl) <| SR.nil ?_)
    refine W.cond_d rfl (fun h41 => ?_) (fun h41 => ?_)
    · refine W.seq ?_
      refine W.regJS (fun f' w' => At f' [(3, .pointer (pA g9)), (4, .bool (decide ((0 ≤ (idxF (hasId s.Id) x.Maps)) ∧ ((1 ≤ s.Reader ∧ s.Reader ≤ 999) ∧ (s.Value = 0))))), (5, .bool (decide (0 ≤ (idxF (hasId s.Id) x.Maps))))] ∧ Lo w20 w') ?_ ?_
      · refine SR.q' (r_mv (v := .bool _) rfl) <| SR.q' (r_mv (v := .bool _) rfl) <| SR.splitD (fun h42 => ?_) (fun h42 => ?_)
        · refine SR.g' rfl (r_mv (v := .bool _) rfl) <| SR.q' (r_pick true rfl (v := .bool _) rfl) <| SR.q' (r_mv (v := .bool _) rfl) <| SR.splitD (fun h43 => ?_) (fun h43 => ?_)
          · refine SR.g' rfl (r_fa fa66_3 rfl) <| SR.g' rfl (r_ld (v := .int .i64 s.Value) sca3 rfl (((hb14).lo hk21).cell rfl)) <| SR.g' rfl (r_eq rfl rfl) <| SR.q' (r_pick true rfl (v := .bool _) rfl) <| SR.q' (r_as (v := .bool _) rfl) <| SR.nil ?_
            exact ⟨_, rfl, ⟨⟨rfl, (eDD ((jat h43).trans (jat h42))), rfl, trivial⟩, (Lo.refl _)⟩⟩
          · refine SR.s' rfl <| SR.s' rfl <| SR.s' rfl <| SR.q' (r_pick false rfl (v := .bool false) rfl) <| SR.q' (r_as (v := .bool _) rfl) <| SR.nil ?_
            exact ⟨_, rfl, ⟨⟨rfl, (eDF ((jaf h43).trans (jat h42)).2), rfl, trivial⟩, (Lo.refl _)⟩⟩
        · refine SR.s' rfl <| SR.q' (r_pick false rfl (v := .bool false) rfl) <| SR.q' (r_mv (v := .bool _) rfl) <| SR.s' rfl <| SR.s' rfl <| SR.s' rfl <| SR.q' (r_pick false rfl (v := .bool false) rfl) <| SR.q' (r_as (v := .bool _) rfl) <| SR.nil ?_
          exact ⟨_, rfl, ⟨⟨rfl, (eDF (jaf h42).2), rfl, trivial⟩, (Lo.refl _)⟩⟩
      rintro f44 w45 ⟨hat46, hk47⟩
      rw [← sets_of_at hat46]
      have hz48 := hk47.size
      have hB49 := hB23.lo hk47
      refine W.ret ?_
      refine ret1 rfl (v := .bool _) rfl ?_
      exact ⟨eR (eB (by unfold spec_l32Step; rw [if_neg h24, if_pos h41] <;> rfl)), hB49⟩
    · refine W.seq ?_
      refine W.regS (SR.q' (r_eq rfl rfl) <| SR.q' (r_as (v := .bool _) rfl) <| SR.nil ?_)
      refine W.cond_d rfl (fun h50 => ?_) (fun h50 => ?_)
      · refine W.seq ?_
        refine W.regJS (fun f' w' => At f' [(3, .pointer (pA g9)), (4, .bool (decide ((0 ≤ (idxF (hasId s.Id) x.Maps)) ∧ ((1 ≤ s.Reader ∧ s.Reader ≤ 999) ∧ (0 ≤ s.Value ∧ s.Value ≤ 1))))), (5, .bool (decide (0 ≤ (idxF (hasId s.Id) x.Maps))))] ∧ Lo w20 w') ?_ ?_
        · refine SR.q' (r_mv (v := .bool _) rfl) <| SR.q' (r_mv (v := .bool _) rfl) <| SR.splitD (fun h51 => ?_) (fun h51 => ?_)
          · refine SR.g' rfl (r_mv (v := .bool _) rfl) <| SR.q' (r_pick true rfl (v := .bool _) rfl) <| SR.q' (r_mv (v := .bool _) rfl) <| SR.splitD (fun h52 => ?_) (fun h52 => ?_)
            · refine SR.g' rfl (r_fa fa66_3 rfl) <| SR.g' rfl (r_ld (v := .int .i64 s.Value) sca3 rfl (((hb14).lo hk21).cell rfl)) <| SR.gcall rfl ent37 (c_spec_l1In w20 s.Value 0 1) rfl ?_
              rintro e w53 ⟨rfl, hk54⟩
              refine ⟨_, rfl, ?_⟩
              have hz55 := hk54.size
              have hB56 := hB23.lo hk54
              refine SR.q' (r_pick true rfl (v := .bool _) rfl) <| SR.q' (r_as (v := .bool _) rfl) <| SR.nil ?_
              exact ⟨_, rfl, ⟨⟨rfl, (eDD ((jat h52).trans (jat h51))), rfl, trivial⟩, (hk54)⟩⟩
            · refine SR.s' rfl <| SR.s' rfl <| SR.s' rfl <| SR.q' (r_pick false rfl (v := .bool false) rfl) <| SR.q' (r_as (v := .bool _) rfl) <| SR.nil ?_
              exact ⟨_, rfl, ⟨⟨rfl, (eDF ((jaf h52).trans (jat h51)).2), rfl, trivial⟩, (Lo.refl _)⟩⟩
          · refine SR.s' rfl <| SR.q' (r_pick false rfl (v := .bool false) rfl) <| SR.q' (r_mv (v := .bool _) rfl) <| SR.s' rfl <| SR.s' rfl <| SR.s' rfl <| SR.q' (r_pick false rfl (v := .bool false) rfl) <| SR.q' (r_as (v := .bool _) rfl) <| SR.nil ?_
            exact ⟨_, rfl, ⟨⟨rfl, (eDF (jaf h51).2), rfl, trivial⟩, (Lo.refl _)⟩⟩
        rintro f57 w58 ⟨hat59, hk60⟩
        rw [← sets_of_at hat59]
        have hz61 := hk60.size
        have hB62 := hB23.lo hk60
        refine W.ret ?_
        refine ret1 rfl (v := .bool _) rfl ?_
        exact ⟨eR (eB (by unfold spec_l32Step; rw [if_neg h24, if_neg h41, if_pos h50] <;> rfl)), hB62⟩
      · refine W.seq ?_
        refine W.regS (SR.q' (r_eq rfl rfl) <| SR.q' (r_as (v := .bool _) rfl) <| SR.nil ?_)
        refine W.cond_d rfl (fun h63 => ?_) (fun h63 => ?_)
        · refine W.seq ?_
          refine W.regJS (fun f' w' => At f' [(3, .pointer (pA g9)), (4, .bool (decide ((0 ≤ (idxF (hasId s.Id) x.Maps)) ∧ ((1 ≤ s.Reader ∧ s.Reader ≤ 999) ∧ (1 ≤ s.Value ∧ s.Value ≤ 999))))), (5, .bool (decide (0 ≤ (idxF (hasId s.Id) x.Maps))))] ∧ Lo w20 w') ?_ ?_
          · refine SR.q' (r_mv (v := .bool _) rfl) <| SR.q' (r_mv (v := .bool _) rfl) <| SR.splitD (fun h64 => ?_) (fun h64 => ?_)
            · refine SR.g' rfl (r_mv (v := .bool _) rfl) <| SR.q' (r_pick true rfl (v := .bool _) rfl) <| SR.q' (r_mv (v := .bool _) rfl) <| SR.splitD (fun h65 => ?_) (fun h65 => ?_)
              · refine SR.g' rfl (r_fa fa66_3 rfl) <| SR.g' rfl (r_ld (v := .int .i64 s.Value) sca3 rfl (((hb14).lo hk21).cell rfl)) <| SR.gcall rfl ent37 (c_spec_l1In w20 s.Value 1 999) rfl ?_
                rintro e w66 ⟨rfl, hk67⟩
                refine ⟨_, rfl, ?_⟩
                have hz68 := hk67.size
                have hB69 := hB23.lo hk67
                refine SR.q' (r_pick true rfl (v := .bool _) rfl) <| SR.q' (r_as (v := .bool _) rfl) <| SR.nil ?_
                exact ⟨_, rfl, ⟨⟨rfl, (eDD ((jat h65).trans (jat h64))), rfl, trivial⟩, (hk67)⟩⟩
              · refine SR.s' rfl <| SR.s' rfl <| SR.s' rfl <| SR.q' (r_pick false rfl (v := .bool false) rfl) <| SR.q' (r_as (v := .bool _) rfl) <| SR.nil ?_
                exact ⟨_, rfl, ⟨⟨rfl, (eDF ((jaf h65).trans (jat h64)).2), rfl, trivial⟩, (Lo.refl _)⟩⟩
            · refine SR.s' rfl <| SR.q' (r_pick false rfl (v := .bool false) rfl) <| SR.q' (r_mv (v := .bool _) rfl) <| SR.s' rfl <| SR.s' rfl <| SR.s' rfl <| SR.q' (r_pick false rfl (v := .bool false) rfl) <| SR.q' (r_as (v := .bool _) rfl) <| SR.nil ?_
              exact ⟨_, rfl, ⟨⟨rfl, (eDF (jaf h64).2), rfl, trivial⟩, (Lo.refl _)⟩⟩
          rintro f70 w71 ⟨hat72, hk73⟩
          rw [← sets_of_at hat72]
          have hz74 := hk73.size
          have hB75 := hB23.lo hk73
          refine W.ret ?_
          refine ret1 rfl (v := .bool _) rfl ?_
          exact ⟨eR (eB (by unfold spec_l32Step; rw [if_neg h24, if_neg h41, if_neg h50, if_pos h63] <;> rfl)), hB75⟩
        · refine W.skip ?_
          refine W.seq ?_
          refine W.regJS (fun f' w' => At f' [(4, .bool (decide (((s.Kind = 4) ∧ ((0 ≤ (idxF (hasId s.Id) x.Maps)) ∧ ((s.Reader = 0) ∧ (1 ≤ s.Value)))) ∨ ((¬ (s.Kind = 4)) ∧ (((s.Kind = 6) ∧ ((0 ≤ (idxF (hasId s.Id) x.Maps)) ∧ ((s.Reader = 0) ∧ (1 ≤ s.Value)))) ∨ ((¬ (s.Kind = 6)) ∧ ((s.Kind = 7) ∧ ((0 ≤ (idxF (hasId s.Id) x.Maps)) ∧ ((s.Reader = 0) ∧ (1 ≤ s.Value))))))))))] ∧ Lo w20 w') ?_ ?_
          · refine SR.q' (r_fa fa66_0 rfl) <| SR.q' (r_ld (v := .int .i64 s.Kind) sca3 rfl (((hb14).lo hk21).cell rfl)) <| SR.q' (r_eq rfl rfl) <| SR.q' (r_mv (v := .bool _) rfl) <| SR.splitD (fun h76 => ?_) (fun h76 => ?_)
            · refine SR.s' rfl <| SR.s' rfl <| SR.s' rfl <| SR.q' (r_pick true rfl (v := .bool true) rfl) <| SR.q' (r_mv (v := .bool _) rfl) <| SR.s' rfl <| SR.s' rfl <| SR.s' rfl <| SR.q' (r_pick true rfl (v := .bool true) rfl) <| SR.q' (r_mv (v := .bool _) rfl) <| SR.g' rfl (r_mv (v := .bool _) rfl) <| SR.q' (r_pick true rfl (v := .bool _) rfl) <| SR.q' (r_mv (v := .bool _) rfl) <| SR.splitD (fun h77 => ?_) (fun h77 => ?_)
              · refine SR.g' rfl (r_fa fa66_2 rfl) <| SR.g' rfl (r_ld (v := .int .i64 s.Reader) sca3 rfl (((hb14).lo hk21).cell rfl)) <| SR.g' rfl (r_eq rfl rfl) <| SR.q' (r_pick true rfl (v := .bool _) rfl) <| SR.q' (r_mv (v := .bool _) rfl) <| SR.splitD (fun h78 => ?_) (fun h78 => ?_)
                · refine SR.g' rfl (r_fa fa66_3 rfl) <| SR.g' rfl (r_ld (v := .int .i64 s.Value) sca3 rfl (((hb14).lo hk21).cell rfl)) <| SR.g' rfl (r_ge rfl rfl) <| SR.q' (r_pick true rfl (v := .bool _) rfl) <| SR.q' (r_as (v := .bool _) rfl) <| SR.nil ?_
                  exact ⟨_, rfl, ⟨⟨(eDD (((jat h78).trans (jat h77)).trans (jgt h76))), trivial⟩, (Lo.refl _)⟩⟩
                · refine SR.s' rfl <| SR.s' rfl <| SR.s' rfl <| SR.q' (r_pick false rfl (v := .bool false) rfl) <| SR.q' (r_as (v := .bool _) rfl) <| SR.nil ?_
                  exact ⟨_, rfl, ⟨⟨(eDF (((jaf h78).trans (jat h77)).trans (jgt h76)).2), trivial⟩, (Lo.refl _)⟩⟩
              · refine SR.s' rfl <| SR.s' rfl <| SR.s' rfl <| SR.q' (r_pick false rfl (v := .bool false) rfl) <| SR.q' (r_mv (v := .bool _) rfl) <| SR.s' rfl <| SR.s' rfl <| SR.s' rfl <| SR.q' (r_pick false rfl (v := .bool false) rfl) <| SR.q' (r_as (v := .bool _) rfl) <| SR.nil ?_
                exact ⟨_, rfl, ⟨⟨(eDF ((jaf h77).trans (jgt h76)).2), trivial⟩, (Lo.refl _)⟩⟩
            · refine SR.g' rfl (r_fa fa66_0 rfl) <| SR.g' rfl (r_ld (v := .int .i64 s.Kind) sca3 rfl (((hb14).lo hk21).cell rfl)) <| SR.g' rfl (r_eq rfl rfl) <| SR.q' (r_pick false rfl (v := .bool _) rfl) <| SR.q' (r_mv (v := .bool _) rfl) <| SR.splitD (fun h79 => ?_) (fun h79 => ?_)
              · refine SR.s' rfl <| SR.s' rfl <| SR.s' rfl <| SR.q' (r_pick true rfl (v := .bool true) rfl) <| SR.q' (r_mv (v := .bool _) rfl) <| SR.g' rfl (r_mv (v := .bool _) rfl) <| SR.q' (r_pick true rfl (v := .bool _) rfl) <| SR.q' (r_mv (v := .bool _) rfl) <| SR.splitD (fun h80 => ?_) (fun h80 => ?_)
                · refine SR.g' rfl (r_fa fa66_2 rfl) <| SR.g' rfl (r_ld (v := .int .i64 s.Reader) sca3 rfl (((hb14).lo hk21).cell rfl)) <| SR.g' rfl (r_eq rfl rfl) <| SR.q' (r_pick true rfl (v := .bool _) rfl) <| SR.q' (r_mv (v := .bool _) rfl) <| SR.splitD (fun h81 => ?_) (fun h81 => ?_)
                  · refine SR.g' rfl (r_fa fa66_3 rfl) <| SR.g' rfl (r_ld (v := .int .i64 s.Value) sca3 rfl (((hb14).lo hk21).cell rfl)) <| SR.g' rfl (r_ge rfl rfl) <| SR.q' (r_pick true rfl (v := .bool _) rfl) <| SR.q' (r_as (v := .bool _) rfl) <| SR.nil ?_
                    exact ⟨_, rfl, ⟨⟨(eDD ((((jat h81).trans (jat h80)).trans (jgt h79)).trans (jgf h76))), trivial⟩, (Lo.refl _)⟩⟩
                  · refine SR.s' rfl <| SR.s' rfl <| SR.s' rfl <| SR.q' (r_pick false rfl (v := .bool false) rfl) <| SR.q' (r_as (v := .bool _) rfl) <| SR.nil ?_
                    exact ⟨_, rfl, ⟨⟨(eDF ((((jaf h81).trans (jat h80)).trans (jgt h79)).trans (jgf h76)).2), trivial⟩, (Lo.refl _)⟩⟩
                · refine SR.s' rfl <| SR.s' rfl <| SR.s' rfl <| SR.q' (r_pick false rfl (v := .bool false) rfl) <| SR.q' (r_mv (v := .bool _) rfl) <| SR.s' rfl <| SR.s' rfl <| SR.s' rfl <| SR.q' (r_pick false rfl (v := .bool false) rfl) <| SR.q' (r_as (v := .bool _) rfl) <| SR.nil ?_
                  exact ⟨_, rfl, ⟨⟨(eDF (((jaf h80).trans (jgt h79)).trans (jgf h76)).2), trivial⟩, (Lo.refl _)⟩⟩
              · refine SR.g' rfl (r_fa fa66_0 rfl) <| SR.g' rfl (r_ld (v := .int .i64 s.Kind) sca3 rfl (((hb14).lo hk21).cell rfl)) <| SR.g' rfl (r_eq rfl rfl) <| SR.q' (r_pick false rfl (v := .bool _) rfl) <| SR.q' (r_mv (v := .bool _) rfl) <| SR.splitD (fun h82 => ?_) (fun h82 => ?_)
                · refine SR.g' rfl (r_mv (v := .bool _) rfl) <| SR.q' (r_pick true rfl (v := .bool _) rfl) <| SR.q' (r_mv (v := .bool _) rfl) <| SR.splitD (fun h83 => ?_) (fun h83 => ?_)
                  · refine SR.g' rfl (r_fa fa66_2 rfl) <| SR.g' rfl (r_ld (v := .int .i64 s.Reader) sca3 rfl (((hb14).lo hk21).cell rfl)) <| SR.g' rfl (r_eq rfl rfl) <| SR.q' (r_pick true rfl (v := .bool _) rfl) <| SR.q' (r_mv (v := .bool _) rfl) <| SR.splitD (fun h84 => ?_) (fun h84 => ?_)
                    · refine SR.g' rfl (r_fa fa66_3 rfl) <| SR.g' rfl (r_ld (v := .int .i64 s.Value) sca3 rfl (((hb14).lo hk21).cell rfl)) <| SR.g' rfl (r_ge rfl rfl) <| SR.q' (r_pick true rfl (v := .bool _) rfl) <| SR.q' (r_as (v := .bool _) rfl) <| SR.nil ?_
                      exact ⟨_, rfl, ⟨⟨(eDD (((((jat h84).trans (jat h83)).trans (jat h82)).trans (jgf h79)).trans (jgf h76))), trivial⟩, (Lo.refl _)⟩⟩
                    · refine SR.s' rfl <| SR.s' rfl <| SR.s' rfl <| SR.q' (r_pick false rfl (v := .bool false) rfl) <| SR.q' (r_as (v := .bool _) rfl) <| SR.nil ?_
                      exact ⟨_, rfl, ⟨⟨(eDF (((((jaf h84).trans (jat h83)).trans (jat h82)).trans (jgf h79)).trans (jgf h76)).2), trivial⟩, (Lo.refl _)⟩⟩
                  · refine SR.s' rfl <| SR.s' rfl <| SR.s' rfl <| SR.q' (r_pick false rfl (v := .bool false) rfl) <| SR.q' (r_mv (v := .bool _) rfl) <| SR.s' rfl <| SR.s' rfl <| SR.s' rfl <| SR.q' (r_pick false rfl (v := .bool false) rfl) <| SR.q' (r_as (v := .bool _) rfl) <| SR.nil ?_
                    exact ⟨_, rfl, ⟨⟨(eDF ((((jaf h83).trans (jat h82)).trans (jgf h79)).trans (jgf h76)).2), trivial⟩, (Lo.refl _)⟩⟩
                · refine SR.s' rfl <| SR.q' (r_pick false rfl (v := .bool false) rfl) <| SR.q' (r_mv (v := .bool _) rfl) <| SR.s' rfl <| SR.s' rfl <| SR.s' rfl <| SR.q' (r_pick false rfl (v := .bool false) rfl) <| SR.q' (r_mv (v := .bool _) rfl) <| SR.s' rfl <| SR.s' rfl <| SR.s' rfl <| SR.q' (r_pick false rfl (v := .bool false) rfl) <| SR.q' (r_as (v := .bool _) rfl) <| SR.nil ?_
                  exact ⟨_, rfl, ⟨⟨(eDF (((jaf h82).trans (jgf h79)).trans (jgf h76)).2), trivial⟩, (Lo.refl _)⟩⟩
          rintro f85 w86 ⟨hat87, hk88⟩
          rw [← sets_of_at hat87]
          have hz89 := hk88.size
          have hB90 := hB23.lo hk88
          refine W.ret ?_
          refine ret1 rfl (v := .bool _) rfl ?_
          exact ⟨eR (eB (by unfold spec_l32Step; rw [if_neg h24, if_neg h41, if_neg h50, if_neg h63] <;> rfl)), hB90⟩
end Go.Proofs.YtgobbcilgcbkaaaDoor
