/- Walks, printed by a program of this claim's author. -/
import Derived.Test.YtnbbfokkpkphoaaGreatDoorChecked
import Derived.Test.YtnbbfokkpkphoaaGreatDoorLa
import Derived.Test.YtnbbfokkpkphoaaGreatDoorFo
import Derived.Test.YtnbbfokkpkphoaaGreatDoorFs
import Derived.Test.YtnbbfokkpkphoaaGreatDoorFq
import Derived.Test.YtnbbfokkpkphoaaGreatDoorFp
import Derived.Test.YtnbbfokkpkphoaaGreatDoorFu
import Derived.Test.YtnbbfokkpkphoaaGreatDoorFt
import Derived.Test.YtnbbfokkpkphoaaGreatDoorG31r
namespace Go.Proofs.YtnbbfokkpkphoaaGreatDoor
open Go Go.RowKit Fw
set_option maxRecDepth 10000
set_option linter.unusedVariables false
theorem ent24 : Ent Tryz.prog 24 := ent_of Tryz.func24 (by decide +kernel) rfl
theorem ent25 : Ent Tryz.prog 25 := ent_of Tryz.func25 (by decide +kernel) rfl
theorem ent36 : Ent Tryz.prog 36 := ent_of Tryz.func36 (by decide +kernel) rfl
theorem ent40 : Ent Tryz.prog 40 := ent_of Tryz.func40 (by decide +kernel) rfl
theorem tel39 : TEl Tryz.prog 39 3 (.int .i64 0) 1 8 := ⟨by kernel_rfl, by kernel_rfl, rfl, by decide⟩
theorem tsl33 : TSl Tryz.prog 33 25 5 := ⟨by kernel_rfl, fun _ => by kernel_rfl⟩
theorem tsl39 : TSl Tryz.prog 39 3 1 := ⟨by kernel_rfl, fun _ => by kernel_rfl⟩
theorem und33 : Tryz.prog.underlying 33 = some (.slice 25) := by kernel_rfl
theorem und39 : Tryz.prog.underlying 39 = some (.slice 3) := by kernel_rfl

theorem c_spec_ParseLib (w : World) (s : List UInt8) (hp0 : (s.length : Int) ≤ 1048576) : Calls Tryz.prog 11 #[str s] w fun e w' => e = .returned (.tuple (List.toArray [.agg (List.toArray [.int .i64 (((parN s).1).Month), .int .i64 (((parN s).1).Lent), .int .i64 (((parN s).1).Copied), .int .i64 (((parN s).1).Given), .int .i64 (((parN s).1).Fines)]), .bool ((parN s).2)])) ∧ Lo w w' := by
  refine calls_W 109 Tryz.func11 rfl rfl rfl ?_
  refine W.seq ?_
  refine W.regS (SR.alloc (l := [.int .i64 0, .int .i64 0, .int .i64 0, .int .i64 0, .int .i64 0]) tz25 rfl ?_)
  intro g1 w2 hg3 hk4 hs5 hb6
  have hz7 := hk4.size
  have hB8 := (Lo.refl w).lo hk4
  refine SR.q' (r_as (v := .bool false) rfl) <| SR.nil ?_
  refine W.seq ?_
  refine W.regS (SR.q' (r_mv (v := str _) rfl) <| SR.call ent34 (c_spec_l1Split w2 s (32 : UInt8) (by first | omega | (simp only [List.length_append, List.length_cons, List.length_nil, List.length_take, List.length_drop]; omega))) rfl ?_)
  rintro e w9 ⟨A11, n12, c13, rfl, hO14, hk10⟩
  refine ⟨_, rfl, ?_⟩
  have hz15 := hk10.size
  have hB16 := hB8.lo hk10
  have hl17 := hO14.len
  have hl18 := hO14.rd.bound
  have hq19 := splitB_len (32 : UInt8) s
  refine SR.q' (r_as (v := .slice _ _ _) rfl) <| SR.nil ?_
  refine W.seq ?_
  refine W.regS (SR.q' (r_mv (v := .slice _ _ _) rfl) <| SR.q' (r_len und51 rfl) <| SR.q' (r_as (v := .int .i64 _) rfl) <| SR.nil ?_)
  refine W.seq ?_
  refine W.seq ?_
  refine W.regJS (fun f' w' => At f' [(0, str s), (2, .pointer (some ((⟨g1, 0, none⟩ : Addr)))), (3, .bool false), (4, .slice A11 n12 c13), (5, .int .i64 (n12 : Int)), (32, .bool (decide ((90 < (s.length : Int)) ∨ ((((n12 : Int) = 6) ∧ (((gt (splitB (32 : UInt8) s) 1).length : Int) < 2)) ∨ ((¬ ((n12 : Int) = 6)) ∧ ((((n12 : Int) = 8) ∧ (((gt (splitB (32 : UInt8) s) 1).length : Int) < 2)) ∨ ((¬ ((n12 : Int) = 8)) ∧ ((¬ ((n12 : Int) = 10)) ∨ (((gt (splitB (32 : UInt8) s) 1).length : Int) < 2)))))))))] ∧ Lo w9 w') ?_ ?_
  · refine SR.q' (r_mv (v := str _) rfl) <| SR.q' (r_len_s und9 rfl) <| SR.q' (r_gt rfl rfl) <| SR.q' (r_mv (v := .bool _) rfl) <| SR.splitD (fun h20 => ?_) (fun h20 => ?_)
    · refine SR.s' rfl <| SR.s' rfl <| SR.s' rfl <| SR.u' rfl <| SR.u' rfl <| SR.s' rfl <| SR.s' rfl <| SR.u' rfl <| SR.u' rfl <| SR.s' rfl <| SR.q' (r_pick true rfl (v := .bool true) rfl) <| SR.q' (r_mv (v := .bool _) rfl) <| SR.s' rfl <| SR.s' rfl <| SR.s' rfl <| SR.s' rfl <| SR.s' rfl <| SR.q' (r_pick true rfl (v := .bool true) rfl) <| SR.nil ?_
      exact ⟨_, rfl, ⟨⟨rfl, rfl, rfl, rfl, rfl, (eDT ((jot h20).1 trivial)), trivial⟩, (Lo.refl _)⟩⟩
    · refine SR.g' rfl (r_mv (v := .int .i64 _) rfl) <| SR.g' rfl (r_ne rfl rfl) <| SR.g' rfl (r_mv (v := .bool _) rfl) <| SR.splitN (fun h21 => ?_) (fun h21 => ?_)
      · refine SR.g' rfl (r_mv (v := .int .i64 _) rfl) <| SR.g' rfl (r_ne rfl rfl) <| SR.g' rfl (r_pick true rfl (v := .bool _) rfl) <| SR.g' rfl (r_mv (v := .bool _) rfl) <| SR.splitN (fun h22 => ?_) (fun h22 => ?_)
        · refine SR.g' rfl (r_mv (v := .int .i64 _) rfl) <| SR.g' rfl (r_ne rfl rfl) <| SR.g' rfl (r_pick true rfl (v := .bool _) rfl) <| SR.q' (r_pick false rfl (v := .bool _) rfl) <| SR.q' (r_mv (v := .bool _) rfl) <| SR.splitN (fun h23 => ?_) (fun h23 => ?_)
          · refine SR.s' rfl <| SR.s' rfl <| SR.s' rfl <| SR.s' rfl <| SR.s' rfl <| SR.q' (r_pick true rfl (v := .bool true) rfl) <| SR.nil ?_
            exact ⟨_, rfl, ⟨⟨rfl, rfl, rfl, rfl, rfl, (eDT (((((jmf h23).trans (jgf h22)).trans (jgf h21)).trans (jof h20)).1 trivial)), trivial⟩, (Lo.refl _)⟩⟩
          · refine SR.g' rfl (r_mv (v := .slice _ _ _) rfl) <| ?_
            have hx25 := ((hO14).rd).elem (i := 1) (by omega)
            have hq26 := splitB_el hx25
            refine SR.g' rfl (r_ixR tsl51 ((hO14).rd) rfl rfl (by omega)) <| SR.g' rfl (r_ld (v := str (gt (splitB (32 : UInt8) s) 1)) sca9 rfl (((hO14).rd).cell0 hx25 rfl)) <| SR.g' rfl (r_len_s und9 rfl) <| SR.g' rfl (r_lt rfl rfl) <| SR.q' (r_pick false rfl (v := .bool _) rfl) <| SR.nil ?_
            exact ⟨_, rfl, ⟨⟨rfl, rfl, rfl, rfl, rfl, (eDD ((((jmt h23).trans (jgf h22)).trans (jgf h21)).trans (jof h20))), trivial⟩, (Lo.refl _)⟩⟩
        · refine SR.s' rfl <| SR.s' rfl <| SR.g' rfl (r_pick false rfl (v := .bool false) rfl) <| SR.q' (r_pick false rfl (v := .bool _) rfl) <| SR.q' (r_mv (v := .bool _) rfl) <| SR.g' rfl (r_mv (v := .slice _ _ _) rfl) <| ?_
          have hx28 := ((hO14).rd).elem (i := 1) (by omega)
          have hq29 := splitB_el hx28
          refine SR.g' rfl (r_ixR tsl51 ((hO14).rd) rfl rfl (by omega)) <| SR.g' rfl (r_ld (v := str (gt (splitB (32 : UInt8) s) 1)) sca9 rfl (((hO14).rd).cell0 hx28 rfl)) <| SR.g' rfl (r_len_s und9 rfl) <| SR.g' rfl (r_lt rfl rfl) <| SR.q' (r_pick false rfl (v := .bool _) rfl) <| SR.nil ?_
          exact ⟨_, rfl, ⟨⟨rfl, rfl, rfl, rfl, rfl, (eDD (((jgt h22).trans (jgf h21)).trans (jof h20))), trivial⟩, (Lo.refl _)⟩⟩
      · refine SR.s' rfl <| SR.s' rfl <| SR.g' rfl (r_pick false rfl (v := .bool false) rfl) <| SR.g' rfl (r_mv (v := .bool _) rfl) <| SR.s' rfl <| SR.s' rfl <| SR.g' rfl (r_pick false rfl (v := .bool false) rfl) <| SR.q' (r_pick false rfl (v := .bool _) rfl) <| SR.q' (r_mv (v := .bool _) rfl) <| SR.g' rfl (r_mv (v := .slice _ _ _) rfl) <| ?_
        have hx31 := ((hO14).rd).elem (i := 1) (by omega)
        have hq32 := splitB_el hx31
        refine SR.g' rfl (r_ixR tsl51 ((hO14).rd) rfl rfl (by omega)) <| SR.g' rfl (r_ld (v := str (gt (splitB (32 : UInt8) s) 1)) sca9 rfl (((hO14).rd).cell0 hx31 rfl)) <| SR.g' rfl (r_len_s und9 rfl) <| SR.g' rfl (r_lt rfl rfl) <| SR.q' (r_pick false rfl (v := .bool _) rfl) <| SR.nil ?_
        exact ⟨_, rfl, ⟨⟨rfl, rfl, rfl, rfl, rfl, (eDD ((jgt h21).trans (jof h20))), trivial⟩, (Lo.refl _)⟩⟩
  rintro f33 w34 ⟨hat35, hk36⟩
  rw [← sets_of_at hat35]
  have hz37 := hk36.size
  have hB38 := hB16.lo hk36
  refine W.cond_d rfl (fun h39 => ?_) (fun h39 => ?_)
  · refine W.seq ?_
    refine W.regS (SR.q' (r_build (vs := []) rfl (bld25_)) <| SR.store (o := 0) (vs := [.int .i64 0, .int .i64 0, .int .i64 0, .int .i64 0, .int .i64 0]) agg25.2 rfl rfl rfl rfl (((hb6).lo hk10).lo hk36) (Nat.le_of_ble_eq_true rfl) rfl ?_)
    intro w40 hk41 hs42 hb43
    have hz44 := hk41.size
    have hB45 := hB38.new hk41 (by omega)
    refine SR.q' (r_as (v := .bool false) rfl) <| SR.nil ?_
    refine W.ret ?_
    refine retCT rfl rfl agg25 (hb43) rfl (v := .bool _) rfl ?_
    exact ⟨eR (eT2 (eA (eC (eI (by first | (rw [parN_shape (by omega)]; done) | (rw [parS_no ‹¬ RowOK _ ∨ _› ‹_ = (splitB 32 s).length› (by omega) (by first | exact .inl ⟨by omega, ‹¬ gt _ 6 = _›, rfl⟩ | exact .inr ⟨‹¬ (_ ∧ ¬ gt _ 6 = _)›, rfl⟩) (by first | exact .inl ⟨by omega, ‹gt _ (_ - 2) = _›, rfl⟩ | exact .inr ⟨‹¬ (_ ∧ gt _ (_ - 2) = _)›, rfl⟩)]; done) | (rw [parS_ok ‹¬ (¬ RowOK _ ∨ _)› ‹_ = (splitB 32 s).length› (by omega) (by first | exact .inl ⟨by omega, ‹¬ gt _ 6 = _›, rfl⟩ | exact .inr ⟨‹¬ (_ ∧ ¬ gt _ 6 = _)›, rfl⟩) (by first | exact .inl ⟨by omega, ‹gt _ (_ - 2) = _›, rfl⟩ | exact .inr ⟨‹¬ (_ ∧ gt _ (_ - 2) = _)›, rfl⟩)]; done))) (eC (eI (by first | (rw [parN_shape (by omega)]; done) | (rw [parS_no ‹¬ RowOK _ ∨ _› ‹_ = (splitB 32 s).length› (by omega) (by first | exact .inl ⟨by omega, ‹¬ gt _ 6 = _›, rfl⟩ | exact .inr ⟨‹¬ (_ ∧ ¬ gt _ 6 = _)›, rfl⟩) (by first | exact .inl ⟨by omega, ‹gt _ (_ - 2) = _›, rfl⟩ | exact .inr ⟨‹¬ (_ ∧ gt _ (_ - 2) = _)›, rfl⟩)]; done) | (rw [parS_ok ‹¬ (¬ RowOK _ ∨ _)› ‹_ = (splitB 32 s).length› (by omega) (by first | exact .inl ⟨by omega, ‹¬ gt _ 6 = _›, rfl⟩ | exact .inr ⟨‹¬ (_ ∧ ¬ gt _ 6 = _)›, rfl⟩) (by first | exact .inl ⟨by omega, ‹gt _ (_ - 2) = _›, rfl⟩ | exact .inr ⟨‹¬ (_ ∧ gt _ (_ - 2) = _)›, rfl⟩)]; done))) (eC (eI (by first | (rw [parN_shape (by omega)]; done) | (rw [parS_no ‹¬ RowOK _ ∨ _› ‹_ = (splitB 32 s).length› (by omega) (by first | exact .inl ⟨by omega, ‹¬ gt _ 6 = _›, rfl⟩ | exact .inr ⟨‹¬ (_ ∧ ¬ gt _ 6 = _)›, rfl⟩) (by first | exact .inl ⟨by omega, ‹gt _ (_ - 2) = _›, rfl⟩ | exact .inr ⟨‹¬ (_ ∧ gt _ (_ - 2) = _)›, rfl⟩)]; done) | (rw [parS_ok ‹¬ (¬ RowOK _ ∨ _)› ‹_ = (splitB 32 s).length› (by omega) (by first | exact .inl ⟨by omega, ‹¬ gt _ 6 = _›, rfl⟩ | exact .inr ⟨‹¬ (_ ∧ ¬ gt _ 6 = _)›, rfl⟩) (by first | exact .inl ⟨by omega, ‹gt _ (_ - 2) = _›, rfl⟩ | exact .inr ⟨‹¬ (_ ∧ gt _ (_ - 2) = _)›, rfl⟩)]; done))) (eC (eI (by first | (rw [parN_shape (by omega)]; done) | (rw [parS_no ‹¬ RowOK _ ∨ _› ‹_ = (splitB 32 s).length› (by omega) (by first | exact .inl ⟨by omega, ‹¬ gt _ 6 = _›, rfl⟩ | exact .inr ⟨‹¬ (_ ∧ ¬ gt _ 6 = _)›, rfl⟩) (by first | exact .inl ⟨by omega, ‹gt _ (_ - 2) = _›, rfl⟩ | exact .inr ⟨‹¬ (_ ∧ gt _ (_ - 2) = _)›, rfl⟩)]; done) | (rw [parS_ok ‹¬ (¬ RowOK _ ∨ _)› ‹_ = (splitB 32 s).length› (by omega) (by first | exact .inl ⟨by omega, ‹¬ gt _ 6 = _›, rfl⟩ | exact .inr ⟨‹¬ (_ ∧ ¬ gt _ 6 = _)›, rfl⟩) (by first | exact .inl ⟨by omega, ‹gt _ (_ - 2) = _›, rfl⟩ | exact .inr ⟨‹¬ (_ ∧ gt _ (_ - 2) = _)›, rfl⟩)]; done))) (eC (eI (by first | (rw [parN_shape (by omega)]; done) | (rw [parS_no ‹¬ RowOK _ ∨ _› ‹_ = (splitB 32 s).length› (by omega) (by first | exact .inl ⟨by omega, ‹¬ gt _ 6 = _›, rfl⟩ | exact .inr ⟨‹¬ (_ ∧ ¬ gt _ 6 = _)›, rfl⟩) (by first | exact .inl ⟨by omega, ‹gt _ (_ - 2) = _›, rfl⟩ | exact .inr ⟨‹¬ (_ ∧ gt _ (_ - 2) = _)›, rfl⟩)]; done) | (rw [parS_ok ‹¬ (¬ RowOK _ ∨ _)› ‹_ = (splitB 32 s).length› (by omega) (by first | exact .inl ⟨by omega, ‹¬ gt _ 6 = _›, rfl⟩ | exact .inr ⟨‹¬ (_ ∧ ¬ gt _ 6 = _)›, rfl⟩) (by first | exact .inl ⟨by omega, ‹gt _ (_ - 2) = _›, rfl⟩ | exact .inr ⟨‹¬ (_ ∧ gt _ (_ - 2) = _)›, rfl⟩)]; done))) rfl)))))) (eB (by first | (rw [parN_shape (by omega)]; done) | (rw [parS_no ‹¬ RowOK _ ∨ _› ‹_ = (splitB 32 s).length› (by omega) (by first | exact .inl ⟨by omega, ‹¬ gt _ 6 = _›, rfl⟩ | exact .inr ⟨‹¬ (_ ∧ ¬ gt _ 6 = _)›, rfl⟩) (by first | exact .inl ⟨by omega, ‹gt _ (_ - 2) = _›, rfl⟩ | exact .inr ⟨‹¬ (_ ∧ gt _ (_ - 2) = _)›, rfl⟩)]; done) | (rw [parS_ok ‹¬ (¬ RowOK _ ∨ _)› ‹_ = (splitB 32 s).length› (by omega) (by first | exact .inl ⟨by omega, ‹¬ gt _ 6 = _›, rfl⟩ | exact .inr ⟨‹¬ (_ ∧ ¬ gt _ 6 = _)›, rfl⟩) (by first | exact .inl ⟨by omega, ‹gt _ (_ - 2) = _›, rfl⟩ | exact .inr ⟨‹¬ (_ ∧ gt _ (_ - 2) = _)›, rfl⟩)]; done)))), hB45⟩
  · have hq46 : ¬ (90 < (s.length : Int)) := (not_or.1 h39).1
    have hq47 : ¬ (((n12 : Int) = 6) ∧ (((gt (splitB (32 : UInt8) s) 1).length : Int) < 2)) := (not_or.1 (not_or.1 h39).2).1
    have hq48 : ¬ ((¬ ((n12 : Int) = 6)) ∧ ((((n12 : Int) = 8) ∧ (((gt (splitB (32 : UInt8) s) 1).length : Int) < 2)) ∨ ((¬ ((n12 : Int) = 8)) ∧ ((¬ ((n12 : Int) = 10)) ∨ (((gt (splitB (32 : UInt8) s) 1).length : Int) < 2))))) := (not_or.1 (not_or.1 h39).2).2
    refine W.skip ?_
    refine W.seq ?_
    refine W.regS (SR.q' (r_build (vs := []) rfl (bld25_)) <| SR.alloc (l := [.int .i64 0, .int .i64 0, .int .i64 0, .int .i64 0, .int .i64 0]) tz25 rfl ?_)
    intro g49 w50 hg51 hk52 hs53 hb54
    have hz55 := hk52.size
    have hB56 := hB38.lo hk52
    have hd57 : ¬ A11 = some ⟨g49, 0, none⟩ := fun e' => by have := ((hO14).lo hk36).base_le e'; omega
    refine SR.store (o := 0) (vs := [.int .i64 0, .int .i64 0, .int .i64 0, .int .i64 0, .int .i64 0]) agg25.2 rfl rfl rfl rfl (hb54) (Nat.le_of_ble_eq_true rfl) rfl ?_
    intro w58 hk59 hs60 hb61
    have hz62 := hk59.size
    have hB63 := hB56.new hk59 (by omega)
    refine SR.nil ?_
    refine W.seq ?_
    refine W.regA (Kp (fun b_ => b_ = g49) w58) (fun f' w' => At f' [(0, str s), (2, .pointer (some ((⟨g1, 0, none⟩ : Addr)))), (3, .bool false), (4, .slice A11 n12 c13), (5, .int .i64 (n12 : Int)), (6, .pointer (some ((⟨g49, 0, none⟩ : Addr))))] ∧ (Kp (fun b_ => b_ = g49) w58 w') ∧ (Blk w' g49 25 [.int .i64 ((readN ((gt (splitB (32 : UInt8) s) 1).take ((((gt (splitB (32 : UInt8) s) 1).length : Int) - 1).toNat))).1), .int .i64 0, .int .i64 0, .int .i64 0, .int .i64 0]) ∧ ((splitB (32 : UInt8) s)[1]? = some (gt (splitB (32 : UInt8) s) 1)) ∧ ((gt (splitB (32 : UInt8) s) 1).length ≤ s.length) ∧ (-999999 ≤ (readN ((gt (splitB (32 : UInt8) s) 1).take ((((gt (splitB (32 : UInt8) s) 1).length : Int) - 1).toNat))).1 ∧ (readN ((gt (splitB (32 : UInt8) s) 1).take ((((gt (splitB (32 : UInt8) s) 1).length : Int) - 1).toNat))).1 ≤ 999999)) mo ?_ ?_
    · intro w84 hk85
      have hz86 := hk85.size
      have hB87 := hB63.lo hk85
      refine AH.take 0 rfl (by kernel_rfl) trivial ((Kp.refl w58 : Kp (fun b_ => b_ = g49) w58 w58).lo hk85) (fun w' hw' => r_mv (v := .slice _ _ _) rfl) <| ?_
      have hx89 := ((((((hO14).lo hk36).lo hk52).kd hk59 hd57).lo hk85).rd).elem (i := 1) (by omega)
      have hq90 := splitB_el hx89
      refine AH.take 1 rfl (by kernel_rfl) trivial ((Kp.refl w58 : Kp (fun b_ => b_ = g49) w58 w58).lo hk85) (fun w' hw' => r_ixR tsl51 ((((((hO14).lo hk36).lo hk52).kd hk59 hd57).kd hw' hd57).rd) rfl rfl (by omega)) <| AH.take 2 rfl (by kernel_rfl) trivial ((Kp.refl w58 : Kp (fun b_ => b_ = g49) w58 w58).lo hk85) (fun w' hw' => r_ld (v := str (gt (splitB (32 : UInt8) s) 1)) sca9 rfl (((((((hO14).lo hk36).lo hk52).kd hk59 hd57).kd hw' hd57).rd).cell0 hx89 rfl)) <| AH.take 3 rfl (by kernel_rfl) trivial ((Kp.refl w58 : Kp (fun b_ => b_ = g49) w58 w58).lo hk85) (fun w' hw' => r_mv (v := .slice _ _ _) rfl) <| AH.take 4 rfl (by kernel_rfl) trivial ((Kp.refl w58 : Kp (fun b_ => b_ = g49) w58 w58).lo hk85) (fun w' hw' => r_ixR tsl51 ((((((hO14).lo hk36).lo hk52).kd hk59 hd57).kd hw' hd57).rd) rfl rfl (by omega)) <| AH.take 5 rfl (by kernel_rfl) trivial ((Kp.refl w58 : Kp (fun b_ => b_ = g49) w58 w58).lo hk85) (fun w' hw' => r_ld (v := str (gt (splitB (32 : UInt8) s) 1)) sca9 rfl (((((((hO14).lo hk36).lo hk52).kd hk59 hd57).kd hw' hd57).rd).cell0 hx89 rfl)) <| AH.take 6 rfl (by kernel_rfl) trivial ((Kp.refl w58 : Kp (fun b_ => b_ = g49) w58 w58).lo hk85) (fun w' hw' => r_len_s und9 rfl) <| AH.take 7 rfl (by kernel_rfl) trivial ((Kp.refl w58 : Kp (fun b_ => b_ = g49) w58 w58).lo hk85) (fun w' hw' => r_sub rfl rfl (by omega)) <| AH.take 8 rfl (by kernel_rfl) trivial ((Kp.refl w58 : Kp (fun b_ => b_ = g49) w58 w58).lo hk85) (fun w' hw' => r_cuthS (h := (((gt (splitB (32 : UInt8) s) 1).length : Int) - 1).toNat) und9 rfl rfl (by omega) (by first | omega | (simp only [List.length_append, List.length_cons, List.length_nil, List.length_take, List.length_drop]; omega) | (simp only [List.length_append, List.length_cons, List.length_nil, List.length_take, List.length_drop] at *; omega))) <| AH.br [9] (by kernel_rfl) rfl ⟨Br.mk' rfl trivial ?_, trivial⟩
      refine SR.call ent35 (c_spec_l1Read w84 ((gt (splitB (32 : UInt8) s) 1).take ((((gt (splitB (32 : UInt8) s) 1).length : Int) - 1).toNat))) rfl ?_
      rintro e w91 ⟨rfl, hk92⟩
      refine ⟨_, rfl, ?_⟩
      have hz93 := hk92.size
      have hB94 := hB87.lo hk92
      have hS95 := ((Kp.refl w58 : Kp (fun b_ => b_ = g49) w58 w58).lo hk85).lo hk92
      have hq96 : -999999 ≤ (readN ((gt (splitB (32 : UInt8) s) 1).take ((((gt (splitB (32 : UInt8) s) 1).length : Int) - 1).toNat))).1 ∧ (readN ((gt (splitB (32 : UInt8) s) 1).take ((((gt (splitB (32 : UInt8) s) 1).length : Int) - 1).toNat))).1 ≤ 999999 := readN_rng ((gt (splitB (32 : UInt8) s) 1).take ((((gt (splitB (32 : UInt8) s) 1).length : Int) - 1).toNat))
      refine SR.nil ⟨hS95, _, rfl, ?_⟩
      refine AH.take 10 rfl (by kernel_rfl) trivial (hS95) (fun w' hw' => r_mv (v := .tuple (List.toArray _)) rfl) <| AH.take 11 rfl (by kernel_rfl) trivial (hS95) (fun w' hw' => r_ext (v := .int .i64 _) rfl rfl) <| AH.take 12 rfl (by kernel_rfl) trivial (hS95) (fun w' hw' => r_ext (v := .bool _) rfl rfl) <| AH.take 13 rfl (by kernel_rfl) trivial (hS95) (fun w' hw' => r_fa fa25_0 rfl) <| AH.br [14] (by kernel_rfl) rfl ⟨Br.mk' rfl trivial ?_, trivial⟩
      refine SR.store (o := 0) (vs := [.int .i64 ((readN ((gt (splitB (32 : UInt8) s) 1).take ((((gt (splitB (32 : UInt8) s) 1).length : Int) - 1).toNat))).1)]) sca3.2 rfl rfl rfl rfl (((hb61).lo hk85).lo hk92) (Nat.le_of_ble_eq_true rfl) rfl ?_
      intro w97 hk98 hs99 hb100
      have hz101 := hk98.size
      have hB102 := hB94.new hk98 (by omega)
      have hS103 := (hS95).step hk98 (fun _ _ e => e)
      refine SR.nil ⟨hS103, _, rfl, ?_⟩
      refine AH.done (by kernel_rfl) ?_
      exact ⟨⟨rfl, rfl, rfl, rfl, rfl, rfl, trivial⟩, hS103, (hb100), hx89, hq90, hq96⟩
    rintro f105 w106 ⟨hat108, hR107, hm104, hx89, hq90, hq96⟩
    rw [← sets_of_at hat108]
    have hz109 := hR107.size
    have hB110 := hB63.new hR107 (by omega)
    refine W.seq ?_
    refine W.regS (SR.q' (r_mv (v := .slice _ _ _) rfl) <| ?_)
    have hx112 := ((((((hO14).lo hk36).lo hk52).kd hk59 hd57).kd hR107 hd57).rd).elem (i := 2) (by omega)
    have hq113 := splitB_el hx112
    refine SR.q' (r_ixR tsl51 ((((((hO14).lo hk36).lo hk52).kd hk59 hd57).kd hR107 hd57).rd) rfl rfl (by omega)) <| SR.q' (r_ld (v := str (gt (splitB (32 : UInt8) s) 2)) sca9 rfl (((((((hO14).lo hk36).lo hk52).kd hk59 hd57).kd hR107 hd57).rd).cell0 hx112 rfl)) <| SR.call ent35 (c_spec_l1Read w106 (gt (splitB (32 : UInt8) s) 2)) rfl ?_
    rintro e w114 ⟨rfl, hk115⟩
    refine ⟨_, rfl, ?_⟩
    have hz116 := hk115.size
    have hB117 := hB110.lo hk115
    have hq118 : -999999 ≤ (readN (gt (splitB (32 : UInt8) s) 2)).1 ∧ (readN (gt (splitB (32 : UInt8) s) 2)).1 ≤ 999999 := readN_rng (gt (splitB (32 : UInt8) s) 2)
    refine SR.q' (r_mv (v := .tuple (List.toArray _)) rfl) <| SR.q' (r_ext (v := .int .i64 _) rfl rfl) <| SR.q' (r_ext (v := .bool _) rfl rfl) <| SR.q' (r_fa fa25_1 rfl) <| SR.store (o := 1) (vs := [.int .i64 ((readN (gt (splitB (32 : UInt8) s) 2)).1)]) sca3.2 rfl rfl rfl rfl ((hm104).lo hk115) (Nat.le_of_ble_eq_true rfl) rfl ?_
    intro w119 hk120 hs121 hb122
    have hz123 := hk120.size
    have hB124 := hB117.new hk120 (by omega)
    refine SR.nil ?_
    refine W.seq ?_
    refine W.regS (SR.q' (r_mv (v := .slice _ _ _) rfl) <| ?_)
    have hx126 := ((((((((hO14).lo hk36).lo hk52).kd hk59 hd57).kd hR107 hd57).lo hk115).kd hk120 hd57).rd).elem (i := 4) (by omega)
    have hq127 := splitB_el hx126
    refine SR.q' (r_ixR tsl51 ((((((((hO14).lo hk36).lo hk52).kd hk59 hd57).kd hR107 hd57).lo hk115).kd hk120 hd57).rd) rfl rfl (by omega)) <| SR.q' (r_ld (v := str (gt (splitB (32 : UInt8) s) 4)) sca9 rfl (((((((((hO14).lo hk36).lo hk52).kd hk59 hd57).kd hR107 hd57).lo hk115).kd hk120 hd57).rd).cell0 hx126 rfl)) <| SR.call ent35 (c_spec_l1Read w119 (gt (splitB (32 : UInt8) s) 4)) rfl ?_
    rintro e w128 ⟨rfl, hk129⟩
    refine ⟨_, rfl, ?_⟩
    have hz130 := hk129.size
    have hB131 := hB124.lo hk129
    have hq132 : -999999 ≤ (readN (gt (splitB (32 : UInt8) s) 4)).1 ∧ (readN (gt (splitB (32 : UInt8) s) 4)).1 ≤ 999999 := readN_rng (gt (splitB (32 : UInt8) s) 4)
    refine SR.q' (r_mv (v := .tuple (List.toArray _)) rfl) <| SR.q' (r_ext (v := .int .i64 _) rfl rfl) <| SR.q' (r_ext (v := .bool _) rfl rfl) <| SR.q' (r_fa fa25_2 rfl) <| SR.store (o := 2) (vs := [.int .i64 ((readN (gt (splitB (32 : UInt8) s) 4)).1)]) sca3.2 rfl rfl rfl rfl ((hb122).lo hk129) (Nat.le_of_ble_eq_true rfl) rfl ?_
    intro w133 hk134 hs135 hb136
    have hz137 := hk134.size
    have hB138 := hB131.new hk134 (by omega)
    refine SR.nil ?_
    refine W.seq ?_
    refine W.seq ?_
    refine W.regJS (fun f' w' => At f' [(0, str s), (2, .pointer (some ((⟨g1, 0, none⟩ : Addr)))), (3, .bool false), (4, .slice A11 n12 c13), (5, .int .i64 (n12 : Int)), (6, .pointer (some ((⟨g49, 0, none⟩ : Addr)))), (72, .bool (decide ((6 < (n12 : Int)) ∧ (¬ ((gt (splitB (32 : UInt8) s) 6) = ([102, 105, 110, 101, 115] : List UInt8))))))] ∧ Lo w133 w') ?_ ?_
    · refine SR.q' (r_mv (v := .int .i64 _) rfl) <| SR.q' (r_gt rfl rfl) <| SR.q' (r_mv (v := .bool _) rfl) <| SR.splitD (fun h139 => ?_) (fun h139 => ?_)
      · refine SR.g' rfl (r_mv (v := .slice _ _ _) rfl) <| ?_
        have hx141 := ((((((((((hO14).lo hk36).lo hk52).kd hk59 hd57).kd hR107 hd57).lo hk115).kd hk120 hd57).lo hk129).kd hk134 hd57).rd).elem (i := 6) (by omega)
        have hq142 := splitB_el hx141
        refine SR.g' rfl (r_ixR tsl51 ((((((((((hO14).lo hk36).lo hk52).kd hk59 hd57).kd hR107 hd57).lo hk115).kd hk120 hd57).lo hk129).kd hk134 hd57).rd) rfl rfl (by omega)) <| SR.g' rfl (r_ld (v := str (gt (splitB (32 : UInt8) s) 6)) sca9 rfl (((((((((((hO14).lo hk36).lo hk52).kd hk59 hd57).kd hR107 hd57).lo hk115).kd hk120 hd57).lo hk129).kd hk134 hd57).rd).cell0 hx141 rfl)) <| SR.g' rfl (r_nes (s := (gt (splitB (32 : UInt8) s) 6)) (r := ([102, 105, 110, 101, 115] : List UInt8)) rfl rfl) <| SR.q' (r_pick true rfl (v := .bool _) rfl) <| SR.nil ?_
        exact ⟨_, rfl, ⟨⟨rfl, rfl, rfl, rfl, rfl, rfl, (eND (jat h139)), trivial⟩, (Lo.refl _)⟩⟩
      · refine SR.s' rfl <| SR.s' rfl <| SR.s' rfl <| SR.s' rfl <| SR.q' (r_pick false rfl (v := .bool false) rfl) <| SR.nil ?_
        exact ⟨_, rfl, ⟨⟨rfl, rfl, rfl, rfl, rfl, rfl, (eDF (jaf h139).2), trivial⟩, (Lo.refl _)⟩⟩
    rintro f143 w144 ⟨hat145, hk146⟩
    rw [← sets_of_at hat145]
    have hz147 := hk146.size
    have hB148 := hB138.lo hk146
    refine W.cond_d rfl (fun h149 => ?_) (fun h149 => ?_)
    · have hq150 : 6 < (n12 : Int) := h149.1
      have hq151 : ¬ ((gt (splitB (32 : UInt8) s) 6) = ([102, 105, 110, 101, 115] : List UInt8)) := h149.2
      refine W.regS (SR.q' (r_mv (v := .slice _ _ _) rfl) <| ?_)
      have hx153 := (((((((((((hO14).lo hk36).lo hk52).kd hk59 hd57).kd hR107 hd57).lo hk115).kd hk120 hd57).lo hk129).kd hk134 hd57).lo hk146).rd).elem (i := 6) (by omega)
      have hq154 := splitB_el hx153
      refine SR.q' (r_ixR tsl51 (((((((((((hO14).lo hk36).lo hk52).kd hk59 hd57).kd hR107 hd57).lo hk115).kd hk120 hd57).lo hk129).kd hk134 hd57).lo hk146).rd) rfl rfl (by omega)) <| SR.q' (r_ld (v := str (gt (splitB (32 : UInt8) s) 6)) sca9 rfl ((((((((((((hO14).lo hk36).lo hk52).kd hk59 hd57).kd hR107 hd57).lo hk115).kd hk120 hd57).lo hk129).kd hk134 hd57).lo hk146).rd).cell0 hx153 rfl)) <| SR.call ent35 (c_spec_l1Read w144 (gt (splitB (32 : UInt8) s) 6)) rfl ?_
      rintro e w155 ⟨rfl, hk156⟩
      refine ⟨_, rfl, ?_⟩
      have hz157 := hk156.size
      have hB158 := hB148.lo hk156
      have hq159 : -999999 ≤ (readN (gt (splitB (32 : UInt8) s) 6)).1 ∧ (readN (gt (splitB (32 : UInt8) s) 6)).1 ≤ 999999 := readN_rng (gt (splitB (32 : UInt8) s) 6)
      refine SR.q' (r_mv (v := .tuple (List.toArray _)) rfl) <| SR.q' (r_ext (v := .int .i64 _) rfl rfl) <| SR.q' (r_ext (v := .bool _) rfl rfl) <| SR.q' (r_fa fa25_3 rfl) <| SR.store (o := 3) (vs := [.int .i64 ((readN (gt (splitB (32 : UInt8) s) 6)).1)]) sca3.2 rfl rfl rfl rfl (((hb136).lo hk146).lo hk156) (Nat.le_of_ble_eq_true rfl) rfl ?_
      intro w160 hk161 hs162 hb163
      have hz164 := hk161.size
      have hB165 := hB158.new hk161 (by omega)
      refine SR.nil ?_
      refine W.seq ?_
      refine W.seq ?_
      refine W.regJS (fun f' w' => At f' [(0, str s), (2, .pointer (some ((⟨g1, 0, none⟩ : Addr)))), (3, .bool false), (4, .slice A11 n12 c13), (5, .int .i64 (n12 : Int)), (6, .pointer (some ((⟨g49, 0, none⟩ : Addr)))), (90, .bool (decide ((6 < (n12 : Int)) ∧ ((gt (splitB (32 : UInt8) s) (n12 - 2)) = ([102, 105, 110, 101, 115] : List UInt8)))))] ∧ Lo w160 w') ?_ ?_
      · refine SR.q' (r_mv (v := .int .i64 _) rfl) <| SR.q' (r_gt rfl rfl) <| SR.q' (r_mv (v := .bool _) rfl) <| SR.splitD (fun h166 => ?_) (fun h166 => ?_)
        · refine SR.g' rfl (r_mv (v := .slice _ _ _) rfl) <| SR.g' rfl (r_mv (v := .int .i64 _) rfl) <| SR.g' rfl (r_sub rfl rfl (by omega)) <| ?_
          have hx168 := (((((((((((((hO14).lo hk36).lo hk52).kd hk59 hd57).kd hR107 hd57).lo hk115).kd hk120 hd57).lo hk129).kd hk134 hd57).lo hk146).lo hk156).kd hk161 hd57).rd).elem (i := ((n12 : Int) - 2).toNat) (by omega)
          rw [show ((n12 : Int) - 2).toNat = n12 - 2 from by omega] at hx168
          have hq169 := splitB_el hx168
          have hx170 : (splitB (32 : UInt8) s)[((n12 : Int) - 2).toNat]? = some (gt (splitB (32 : UInt8) s) (n12 - 2)) := (show ((n12 : Int) - 2).toNat = n12 - 2 from by omega) ▸ hx168
          refine SR.g' rfl (r_ixR tsl51 (((((((((((((hO14).lo hk36).lo hk52).kd hk59 hd57).kd hR107 hd57).lo hk115).kd hk120 hd57).lo hk129).kd hk134 hd57).lo hk146).lo hk156).kd hk161 hd57).rd) rfl rfl (by omega)) <| SR.g' rfl (r_ld (v := str (gt (splitB (32 : UInt8) s) (n12 - 2))) sca9 rfl ((((((((((((((hO14).lo hk36).lo hk52).kd hk59 hd57).kd hR107 hd57).lo hk115).kd hk120 hd57).lo hk129).kd hk134 hd57).lo hk146).lo hk156).kd hk161 hd57).rd).cell0 hx170 rfl)) <| SR.g' rfl (r_eqs (s := (gt (splitB (32 : UInt8) s) (n12 - 2))) (r := ([102, 105, 110, 101, 115] : List UInt8)) rfl rfl) <| SR.q' (r_pick true rfl (v := .bool _) rfl) <| SR.nil ?_
          exact ⟨_, rfl, ⟨⟨rfl, rfl, rfl, rfl, rfl, rfl, (eDD (jat h166)), trivial⟩, (Lo.refl _)⟩⟩
        · refine SR.s' rfl <| SR.s' rfl <| SR.s' rfl <| SR.s' rfl <| SR.s' rfl <| SR.s' rfl <| SR.q' (r_pick false rfl (v := .bool false) rfl) <| SR.nil ?_
          exact ⟨_, rfl, ⟨⟨rfl, rfl, rfl, rfl, rfl, rfl, (eDF (jaf h166).2), trivial⟩, (Lo.refl _)⟩⟩
      rintro f171 w172 ⟨hat173, hk174⟩
      rw [← sets_of_at hat173]
      have hz175 := hk174.size
      have hB176 := hB165.lo hk174
      refine W.cond_d rfl (fun h177 => ?_) (fun h177 => ?_)
      · have hq178 : 6 < (n12 : Int) := h177.1
        have hq179 : (gt (splitB (32 : UInt8) s) (n12 - 2)) = ([102, 105, 110, 101, 115] : List UInt8) := h177.2
        refine W.regS (SR.q' (r_mv (v := .slice _ _ _) rfl) <| SR.q' (r_mv (v := .int .i64 _) rfl) <| SR.q' (r_sub rfl rfl (by omega)) <| ?_)
        have hx181 := ((((((((((((((hO14).lo hk36).lo hk52).kd hk59 hd57).kd hR107 hd57).lo hk115).kd hk120 hd57).lo hk129).kd hk134 hd57).lo hk146).lo hk156).kd hk161 hd57).lo hk174).rd).elem (i := ((n12 : Int) - 1).toNat) (by omega)
        rw [show ((n12 : Int) - 1).toNat = n12 - 1 from by omega] at hx181
        have hq182 := splitB_el hx181
        have hx183 : (splitB (32 : UInt8) s)[((n12 : Int) - 1).toNat]? = some (gt (splitB (32 : UInt8) s) (n12 - 1)) := (show ((n12 : Int) - 1).toNat = n12 - 1 from by omega) ▸ hx181
        refine SR.q' (r_ixR tsl51 ((((((((((((((hO14).lo hk36).lo hk52).kd hk59 hd57).kd hR107 hd57).lo hk115).kd hk120 hd57).lo hk129).kd hk134 hd57).lo hk146).lo hk156).kd hk161 hd57).lo hk174).rd) rfl rfl (by omega)) <| SR.q' (r_ld (v := str (gt (splitB (32 : UInt8) s) (n12 - 1))) sca9 rfl (((((((((((((((hO14).lo hk36).lo hk52).kd hk59 hd57).kd hR107 hd57).lo hk115).kd hk120 hd57).lo hk129).kd hk134 hd57).lo hk146).lo hk156).kd hk161 hd57).lo hk174).rd).cell0 hx183 rfl)) <| SR.call ent36 (c_spec_l31Money w172 (gt (splitB (32 : UInt8) s) (n12 - 1)) (by first | omega | (simp only [List.length_append, List.length_cons, List.length_nil, List.length_take, List.length_drop]; omega))) rfl ?_
        rintro e w184 ⟨rfl, hk185⟩
        refine ⟨_, rfl, ?_⟩
        have hz186 := hk185.size
        have hB187 := hB176.lo hk185
        refine SR.q' (r_fa fa25_4 rfl) <| SR.store (o := 4) (vs := [.int .i64 (monN (gt (splitB (32 : UInt8) s) (n12 - 1)))]) sca3.2 rfl rfl rfl rfl (((hb163).lo hk174).lo hk185) (Nat.le_of_ble_eq_true rfl) rfl ?_
        intro w188 hk189 hs190 hb191
        have hz192 := hk189.size
        have hB193 := hB187.new hk189 (by omega)
        refine SR.nil ?_
        refine W.seq ?_
        refine W.seq ?_
        refine W.regJS (fun f' w' => At f' [(2, .pointer (some ((⟨g1, 0, none⟩ : Addr)))), (3, .bool false), (6, .pointer (some ((⟨g49, 0, none⟩ : Addr)))), (106, .bool (decide ((¬ (RowOK (⟨(readN ((gt (splitB (32 : UInt8) s) 1).take ((((gt (splitB (32 : UInt8) s) 1).length : Int) - 1).toNat))).1, (readN (gt (splitB (32 : UInt8) s) 2)).1, (readN (gt (splitB (32 : UInt8) s) 4)).1, (readN (gt (splitB (32 : UInt8) s) 6)).1, monN (gt (splitB (32 : UInt8) s) (n12 - 1))⟩ : LibRow))) ∨ (¬ ((lineT (⟨(readN ((gt (splitB (32 : UInt8) s) 1).take ((((gt (splitB (32 : UInt8) s) 1).length : Int) - 1).toNat))).1, (readN (gt (splitB (32 : UInt8) s) 2)).1, (readN (gt (splitB (32 : UInt8) s) 4)).1, (readN (gt (splitB (32 : UInt8) s) 6)).1, monN (gt (splitB (32 : UInt8) s) (n12 - 1))⟩ : LibRow)) = s)))))] ∧ Lo w188 w') ?_ ?_
        · refine SR.q' (r_lda (l := [.int .i64 ((readN ((gt (splitB (32 : UInt8) s) 1).take ((((gt (splitB (32 : UInt8) s) 1).length : Int) - 1).toNat))).1), .int .i64 ((readN (gt (splitB (32 : UInt8) s) 2)).1), .int .i64 ((readN (gt (splitB (32 : UInt8) s) 4)).1), .int .i64 ((readN (gt (splitB (32 : UInt8) s) 6)).1), .int .i64 (monN (gt (splitB (32 : UInt8) s) (n12 - 1)))]) agg25 rfl (fun _ _ hu => (hb191).cell hu) rfl) <| SR.call ent24 (c_spec_l31One w188 (⟨(readN ((gt (splitB (32 : UInt8) s) 1).take ((((gt (splitB (32 : UInt8) s) 1).length : Int) - 1).toNat))).1, (readN (gt (splitB (32 : UInt8) s) 2)).1, (readN (gt (splitB (32 : UInt8) s) 4)).1, (readN (gt (splitB (32 : UInt8) s) 6)).1, monN (gt (splitB (32 : UInt8) s) (n12 - 1))⟩ : LibRow)) rfl ?_
          rintro e w194 ⟨rfl, hk195⟩
          refine ⟨_, rfl, ?_⟩
          have hz196 := hk195.size
          have hB197 := hB193.lo hk195
          refine SR.q' (r_not rfl) <| SR.q' (r_mv (v := .bool _) rfl) <| SR.splitN (fun h198 => ?_) (fun h198 => ?_)
          · refine SR.s' rfl <| SR.s' rfl <| SR.s' rfl <| SR.s' rfl <| SR.q' (r_pick true rfl (v := .bool true) rfl) <| SR.nil ?_
            exact ⟨_, rfl, ⟨⟨rfl, rfl, rfl, (eDT ((jmf h198).1 trivial)), trivial⟩, (hk195)⟩⟩
          · refine SR.g' rfl (r_lda (l := [.int .i64 ((readN ((gt (splitB (32 : UInt8) s) 1).take ((((gt (splitB (32 : UInt8) s) 1).length : Int) - 1).toNat))).1), .int .i64 ((readN (gt (splitB (32 : UInt8) s) 2)).1), .int .i64 ((readN (gt (splitB (32 : UInt8) s) 4)).1), .int .i64 ((readN (gt (splitB (32 : UInt8) s) 6)).1), .int .i64 (monN (gt (splitB (32 : UInt8) s) (n12 - 1)))]) agg25 rfl (fun _ _ hu => ((hb191).lo hk195).cell hu) rfl) <| SR.gcall rfl ent25 (c_spec_l31Line w194 (⟨(readN ((gt (splitB (32 : UInt8) s) 1).take ((((gt (splitB (32 : UInt8) s) 1).length : Int) - 1).toNat))).1, (readN (gt (splitB (32 : UInt8) s) 2)).1, (readN (gt (splitB (32 : UInt8) s) 4)).1, (readN (gt (splitB (32 : UInt8) s) 6)).1, monN (gt (splitB (32 : UInt8) s) (n12 - 1))⟩ : LibRow) (by first | assumption | exact rows_row ‹RowsOK L› ‹_[_]? = some _›)) rfl ?_
            rintro e w199 ⟨rfl, hk200⟩
            refine ⟨_, rfl, ?_⟩
            have hz201 := hk200.size
            have hB202 := hB197.lo hk200
            have hq203 : (lineT (⟨(readN ((gt (splitB (32 : UInt8) s) 1).take ((((gt (splitB (32 : UInt8) s) 1).length : Int) - 1).toNat))).1, (readN (gt (splitB (32 : UInt8) s) 2)).1, (readN (gt (splitB (32 : UInt8) s) 4)).1, (readN (gt (splitB (32 : UInt8) s) 6)).1, monN (gt (splitB (32 : UInt8) s) (n12 - 1))⟩ : LibRow)).length ≤ 300 := line_len (by first | assumption | exact rows_row ‹RowsOK L› ‹_[_]? = some _›)
            refine SR.g' rfl (r_mv (v := str _) rfl) <| SR.g' rfl (r_nes (s := lineT (⟨(readN ((gt (splitB (32 : UInt8) s) 1).take ((((gt (splitB (32 : UInt8) s) 1).length : Int) - 1).toNat))).1, (readN (gt (splitB (32 : UInt8) s) 2)).1, (readN (gt (splitB (32 : UInt8) s) 4)).1, (readN (gt (splitB (32 : UInt8) s) 6)).1, monN (gt (splitB (32 : UInt8) s) (n12 - 1))⟩ : LibRow)) (r := s) rfl rfl) <| SR.q' (r_pick false rfl (v := .bool _) rfl) <| SR.nil ?_
            exact ⟨_, rfl, ⟨⟨rfl, rfl, rfl, (eND (jmt h198)), trivial⟩, ((hk195).trans hk200)⟩⟩
        rintro f204 w205 ⟨hat206, hk207⟩
        rw [← sets_of_at hat206]
        have hz208 := hk207.size
        have hB209 := hB193.lo hk207
        refine W.cond_d rfl (fun h210 => ?_) (fun h210 => ?_)
        · refine W.seq ?_
          refine W.regS (SR.q' (r_build (vs := []) rfl (bld25_)) <| SR.store (o := 0) (vs := [.int .i64 0, .int .i64 0, .int .i64 0, .int .i64 0, .int .i64 0]) agg25.2 rfl rfl rfl rfl (((((((((((((((((hb6).lo hk10).lo hk36).lo hk52).kn hk59 (by omega)).kn hR107 (by omega)).lo hk115).kn hk120 (by omega)).lo hk129).kn hk134 (by omega)).lo hk146).lo hk156).kn hk161 (by omega)).lo hk174).lo hk185).kn hk189 (by omega)).lo hk207) (Nat.le_of_ble_eq_true rfl) rfl ?_)
          intro w211 hk212 hs213 hb214
          have hz215 := hk212.size
          have hB216 := hB209.new hk212 (by omega)
          refine SR.q' (r_as (v := .bool false) rfl) <| SR.nil ?_
          refine W.ret ?_
          refine retCT rfl rfl agg25 (hb214) rfl (v := .bool _) rfl ?_
          exact ⟨eR (eT2 (eA (eC (eI (by first | (rw [parN_shape (by omega)]; done) | (rw [parS_no ‹¬ RowOK _ ∨ _› ‹_ = (splitB 32 s).length› (by omega) (by first | exact .inl ⟨by omega, ‹¬ gt _ 6 = _›, rfl⟩ | exact .inr ⟨‹¬ (_ ∧ ¬ gt _ 6 = _)›, rfl⟩) (by first | exact .inl ⟨by omega, ‹gt _ (_ - 2) = _›, rfl⟩ | exact .inr ⟨‹¬ (_ ∧ gt _ (_ - 2) = _)›, rfl⟩)]; done) | (rw [parS_ok ‹¬ (¬ RowOK _ ∨ _)› ‹_ = (splitB 32 s).length› (by omega) (by first | exact .inl ⟨by omega, ‹¬ gt _ 6 = _›, rfl⟩ | exact .inr ⟨‹¬ (_ ∧ ¬ gt _ 6 = _)›, rfl⟩) (by first | exact .inl ⟨by omega, ‹gt _ (_ - 2) = _›, rfl⟩ | exact .inr ⟨‹¬ (_ ∧ gt _ (_ - 2) = _)›, rfl⟩)]; done))) (eC (eI (by first | (rw [parN_shape (by omega)]; done) | (rw [parS_no ‹¬ RowOK _ ∨ _› ‹_ = (splitB 32 s).length› (by omega) (by first | exact .inl ⟨by omega, ‹¬ gt _ 6 = _›, rfl⟩ | exact .inr ⟨‹¬ (_ ∧ ¬ gt _ 6 = _)›, rfl⟩) (by first | exact .inl ⟨by omega, ‹gt _ (_ - 2) = _›, rfl⟩ | exact .inr ⟨‹¬ (_ ∧ gt _ (_ - 2) = _)›, rfl⟩)]; done) | (rw [parS_ok ‹¬ (¬ RowOK _ ∨ _)› ‹_ = (splitB 32 s).length› (by omega) (by first | exact .inl ⟨by omega, ‹¬ gt _ 6 = _›, rfl⟩ | exact .inr ⟨‹¬ (_ ∧ ¬ gt _ 6 = _)›, rfl⟩) (by first | exact .inl ⟨by omega, ‹gt _ (_ - 2) = _›, rfl⟩ | exact .inr ⟨‹¬ (_ ∧ gt _ (_ - 2) = _)›, rfl⟩)]; done))) (eC (eI (by first | (rw [parN_shape (by omega)]; done) | (rw [parS_no ‹¬ RowOK _ ∨ _› ‹_ = (splitB 32 s).length› (by omega) (by first | exact .inl ⟨by omega, ‹¬ gt _ 6 = _›, rfl⟩ | exact .inr ⟨‹¬ (_ ∧ ¬ gt _ 6 = _)›, rfl⟩) (by first | exact .inl ⟨by omega, ‹gt _ (_ - 2) = _›, rfl⟩ | exact .inr ⟨‹¬ (_ ∧ gt _ (_ - 2) = _)›, rfl⟩)]; done) | (rw [parS_ok ‹¬ (¬ RowOK _ ∨ _)› ‹_ = (splitB 32 s).length› (by omega) (by first | exact .inl ⟨by omega, ‹¬ gt _ 6 = _›, rfl⟩ | exact .inr ⟨‹¬ (_ ∧ ¬ gt _ 6 = _)›, rfl⟩) (by first | exact .inl ⟨by omega, ‹gt _ (_ - 2) = _›, rfl⟩ | exact .inr ⟨‹¬ (_ ∧ gt _ (_ - 2) = _)›, rfl⟩)]; done))) (eC (eI (by first | (rw [parN_shape (by omega)]; done) | (rw [parS_no ‹¬ RowOK _ ∨ _› ‹_ = (splitB 32 s).length› (by omega) (by first | exact .inl ⟨by omega, ‹¬ gt _ 6 = _›, rfl⟩ | exact .inr ⟨‹¬ (_ ∧ ¬ gt _ 6 = _)›, rfl⟩) (by first | exact .inl ⟨by omega, ‹gt _ (_ - 2) = _›, rfl⟩ | exact .inr ⟨‹¬ (_ ∧ gt _ (_ - 2) = _)›, rfl⟩)]; done) | (rw [parS_ok ‹¬ (¬ RowOK _ ∨ _)› ‹_ = (splitB 32 s).length› (by omega) (by first | exact .inl ⟨by omega, ‹¬ gt _ 6 = _›, rfl⟩ | exact .inr ⟨‹¬ (_ ∧ ¬ gt _ 6 = _)›, rfl⟩) (by first | exact .inl ⟨by omega, ‹gt _ (_ - 2) = _›, rfl⟩ | exact .inr ⟨‹¬ (_ ∧ gt _ (_ - 2) = _)›, rfl⟩)]; done))) (eC (eI (by first | (rw [parN_shape (by omega)]; done) | (rw [parS_no ‹¬ RowOK _ ∨ _› ‹_ = (splitB 32 s).length› (by omega) (by first | exact .inl ⟨by omega, ‹¬ gt _ 6 = _›, rfl⟩ | exact .inr ⟨‹¬ (_ ∧ ¬ gt _ 6 = _)›, rfl⟩) (by first | exact .inl ⟨by omega, ‹gt _ (_ - 2) = _›, rfl⟩ | exact .inr ⟨‹¬ (_ ∧ gt _ (_ - 2) = _)›, rfl⟩)]; done) | (rw [parS_ok ‹¬ (¬ RowOK _ ∨ _)› ‹_ = (splitB 32 s).length› (by omega) (by first | exact .inl ⟨by omega, ‹¬ gt _ 6 = _›, rfl⟩ | exact .inr ⟨‹¬ (_ ∧ ¬ gt _ 6 = _)›, rfl⟩) (by first | exact .inl ⟨by omega, ‹gt _ (_ - 2) = _›, rfl⟩ | exact .inr ⟨‹¬ (_ ∧ gt _ (_ - 2) = _)›, rfl⟩)]; done))) rfl)))))) (eB (by first | (rw [parN_shape (by omega)]; done) | (rw [parS_no ‹¬ RowOK _ ∨ _› ‹_ = (splitB 32 s).length› (by omega) (by first | exact .inl ⟨by omega, ‹¬ gt _ 6 = _›, rfl⟩ | exact .inr ⟨‹¬ (_ ∧ ¬ gt _ 6 = _)›, rfl⟩) (by first | exact .inl ⟨by omega, ‹gt _ (_ - 2) = _›, rfl⟩ | exact .inr ⟨‹¬ (_ ∧ gt _ (_ - 2) = _)›, rfl⟩)]; done) | (rw [parS_ok ‹¬ (¬ RowOK _ ∨ _)› ‹_ = (splitB 32 s).length› (by omega) (by first | exact .inl ⟨by omega, ‹¬ gt _ 6 = _›, rfl⟩ | exact .inr ⟨‹¬ (_ ∧ ¬ gt _ 6 = _)›, rfl⟩) (by first | exact .inl ⟨by omega, ‹gt _ (_ - 2) = _›, rfl⟩ | exact .inr ⟨‹¬ (_ ∧ gt _ (_ - 2) = _)›, rfl⟩)]; done)))), hB216⟩
        · have hq217 : RowOK (⟨(readN ((gt (splitB (32 : UInt8) s) 1).take ((((gt (splitB (32 : UInt8) s) 1).length : Int) - 1).toNat))).1, (readN (gt (splitB (32 : UInt8) s) 2)).1, (readN (gt (splitB (32 : UInt8) s) 4)).1, (readN (gt (splitB (32 : UInt8) s) 6)).1, monN (gt (splitB (32 : UInt8) s) (n12 - 1))⟩ : LibRow) := (Classical.not_not.1 (not_or.1 h210).1)
          have hq218 : (lineT (⟨(readN ((gt (splitB (32 : UInt8) s) 1).take ((((gt (splitB (32 : UInt8) s) 1).length : Int) - 1).toNat))).1, (readN (gt (splitB (32 : UInt8) s) 2)).1, (readN (gt (splitB (32 : UInt8) s) 4)).1, (readN (gt (splitB (32 : UInt8) s) 6)).1, monN (gt (splitB (32 : UInt8) s) (n12 - 1))⟩ : LibRow)) = s := (Classical.not_not.1 (not_or.1 h210).2)
          refine W.skip ?_
          refine W.seq ?_
          refine W.regS (SR.q' (r_lda (l := [.int .i64 ((readN ((gt (splitB (32 : UInt8) s) 1).take ((((gt (splitB (32 : UInt8) s) 1).length : Int) - 1).toNat))).1), .int .i64 ((readN (gt (splitB (32 : UInt8) s) 2)).1), .int .i64 ((readN (gt (splitB (32 : UInt8) s) 4)).1), .int .i64 ((readN (gt (splitB (32 : UInt8) s) 6)).1), .int .i64 (monN (gt (splitB (32 : UInt8) s) (n12 - 1)))]) agg25 rfl (fun _ _ hu => ((hb191).lo hk207).cell hu) rfl) <| SR.store (o := 0) (vs := [.int .i64 ((readN ((gt (splitB (32 : UInt8) s) 1).take ((((gt (splitB (32 : UInt8) s) 1).length : Int) - 1).toNat))).1), .int .i64 ((readN (gt (splitB (32 : UInt8) s) 2)).1), .int .i64 ((readN (gt (splitB (32 : UInt8) s) 4)).1), .int .i64 ((readN (gt (splitB (32 : UInt8) s) 6)).1), .int .i64 (monN (gt (splitB (32 : UInt8) s) (n12 - 1)))]) agg25.2 rfl rfl rfl rfl (((((((((((((((((hb6).lo hk10).lo hk36).lo hk52).kn hk59 (by omega)).kn hR107 (by omega)).lo hk115).kn hk120 (by omega)).lo hk129).kn hk134 (by omega)).lo hk146).lo hk156).kn hk161 (by omega)).lo hk174).lo hk185).kn hk189 (by omega)).lo hk207) (Nat.le_of_ble_eq_true rfl) rfl ?_)
          intro w219 hk220 hs221 hb222
          have hz223 := hk220.size
          have hB224 := hB209.new hk220 (by omega)
          refine SR.q' (r_as (v := .bool true) rfl) <| SR.nil ?_
          refine W.ret ?_
          refine retCT rfl rfl agg25 (hb222) rfl (v := .bool _) rfl ?_
          exact ⟨eR (eT2 (eA (eC (eI (by first | (rw [parN_shape (by omega)]; done) | (rw [parS_no ‹¬ RowOK _ ∨ _› ‹_ = (splitB 32 s).length› (by omega) (by first | exact .inl ⟨by omega, ‹¬ gt _ 6 = _›, rfl⟩ | exact .inr ⟨‹¬ (_ ∧ ¬ gt _ 6 = _)›, rfl⟩) (by first | exact .inl ⟨by omega, ‹gt _ (_ - 2) = _›, rfl⟩ | exact .inr ⟨‹¬ (_ ∧ gt _ (_ - 2) = _)›, rfl⟩)]; done) | (rw [parS_ok ‹¬ (¬ RowOK _ ∨ _)› ‹_ = (splitB 32 s).length› (by omega) (by first | exact .inl ⟨by omega, ‹¬ gt _ 6 = _›, rfl⟩ | exact .inr ⟨‹¬ (_ ∧ ¬ gt _ 6 = _)›, rfl⟩) (by first | exact .inl ⟨by omega, ‹gt _ (_ - 2) = _›, rfl⟩ | exact .inr ⟨‹¬ (_ ∧ gt _ (_ - 2) = _)›, rfl⟩)]; done))) (eC (eI (by first | (rw [parN_shape (by omega)]; done) | (rw [parS_no ‹¬ RowOK _ ∨ _› ‹_ = (splitB 32 s).length› (by omega) (by first | exact .inl ⟨by omega, ‹¬ gt _ 6 = _›, rfl⟩ | exact .inr ⟨‹¬ (_ ∧ ¬ gt _ 6 = _)›, rfl⟩) (by first | exact .inl ⟨by omega, ‹gt _ (_ - 2) = _›, rfl⟩ | exact .inr ⟨‹¬ (_ ∧ gt _ (_ - 2) = _)›, rfl⟩)]; done) | (rw [parS_ok ‹¬ (¬ RowOK _ ∨ _)› ‹_ = (splitB 32 s).length› (by omega) (by first | exact .inl ⟨by omega, ‹¬ gt _ 6 = _›, rfl⟩ | exact .inr ⟨‹¬ (_ ∧ ¬ gt _ 6 = _)›, rfl⟩) (by first | exact .inl ⟨by omega, ‹gt _ (_ - 2) = _›, rfl⟩ | exact .inr ⟨‹¬ (_ ∧ gt _ (_ - 2) = _)›, rfl⟩)]; done))) (eC (eI (by first | (rw [parN_shape (by omega)]; done) | (rw [parS_no ‹¬ RowOK _ ∨ _› ‹_ = (splitB 32 s).length› (by omega) (by first | exact .inl ⟨by omega, ‹¬ gt _ 6 = _›, rfl⟩ | exact .inr ⟨‹¬ (_ ∧ ¬ gt _ 6 = _)›, rfl⟩) (by first | exact .inl ⟨by omega, ‹gt _ (_ - 2) = _›, rfl⟩ | exact .inr ⟨‹¬ (_ ∧ gt _ (_ - 2) = _)›, rfl⟩)]; done) | (rw [parS_ok ‹¬ (¬ RowOK _ ∨ _)› ‹_ = (splitB 32 s).length› (by omega) (by first | exact .inl ⟨by omega, ‹¬ gt _ 6 = _›, rfl⟩ | exact .inr ⟨‹¬ (_ ∧ ¬ gt _ 6 = _)›, rfl⟩) (by first | exact .inl ⟨by omega, ‹gt _ (_ - 2) = _›, rfl⟩ | exact .inr ⟨‹¬ (_ ∧ gt _ (_ - 2) = _)›, rfl⟩)]; done))) (eC (eI (by first | (rw [parN_shape (by omega)]; done) | (rw [parS_no ‹¬ RowOK _ ∨ _› ‹_ = (splitB 32 s).length› (by omega) (by first | exact .inl ⟨by omega, ‹¬ gt _ 6 = _›, rfl⟩ | exact .inr ⟨‹¬ (_ ∧ ¬ gt _ 6 = _)›, rfl⟩) (by first | exact .inl ⟨by omega, ‹gt _ (_ - 2) = _›, rfl⟩ | exact .inr ⟨‹¬ (_ ∧ gt _ (_ - 2) = _)›, rfl⟩)]; done) | (rw [parS_ok ‹¬ (¬ RowOK _ ∨ _)› ‹_ = (splitB 32 s).length› (by omega) (by first | exact .inl ⟨by omega, ‹¬ gt _ 6 = _›, rfl⟩ | exact .inr ⟨‹¬ (_ ∧ ¬ gt _ 6 = _)›, rfl⟩) (by first | exact .inl ⟨by omega, ‹gt _ (_ - 2) = _›, rfl⟩ | exact .inr ⟨‹¬ (_ ∧ gt _ (_ - 2) = _)›, rfl⟩)]; done))) (eC (eI (by first | (rw [parN_shape (by omega)]; done) | (rw [parS_no ‹¬ RowOK _ ∨ _› ‹_ = (splitB 32 s).length› (by omega) (by first | exact .inl ⟨by omega, ‹¬ gt _ 6 = _›, rfl⟩ | exact .inr ⟨‹¬ (_ ∧ ¬ gt _ 6 = _)›, rfl⟩) (by first | exact .inl ⟨by omega, ‹gt _ (_ - 2) = _›, rfl⟩ | exact .inr ⟨‹¬ (_ ∧ gt _ (_ - 2) = _)›, rfl⟩)]; done) | (rw [parS_ok ‹¬ (¬ RowOK _ ∨ _)› ‹_ = (splitB 32 s).length› (by omega) (by first | exact .inl ⟨by omega, ‹¬ gt _ 6 = _›, rfl⟩ | exact .inr ⟨‹¬ (_ ∧ ¬ gt _ 6 = _)›, rfl⟩) (by first | exact .inl ⟨by omega, ‹gt _ (_ - 2) = _›, rfl⟩ | exact .inr ⟨‹¬ (_ ∧ gt _ (_ - 2) = _)›, rfl⟩)]; done))) rfl)))))) (eB (by first | (rw [parN_shape (by omega)]; done) | (rw [parS_no ‹¬ RowOK _ ∨ _› ‹_ = (splitB 32 s).length› (by omega) (by first | exact .inl ⟨by omega, ‹¬ gt _ 6 = _›, rfl⟩ | exact .inr ⟨‹¬ (_ ∧ ¬ gt _ 6 = _)›, rfl⟩) (by first | exact .inl ⟨by omega, ‹gt _ (_ - 2) = _›, rfl⟩ | exact .inr ⟨‹¬ (_ ∧ gt _ (_ - 2) = _)›, rfl⟩)]; done) | (rw [parS_ok ‹¬ (¬ RowOK _ ∨ _)› ‹_ = (splitB 32 s).length› (by omega) (by first | exact .inl ⟨by omega, ‹¬ gt _ 6 = _›, rfl⟩ | exact .inr ⟨‹¬ (_ ∧ ¬ gt _ 6 = _)›, rfl⟩) (by first | exact .inl ⟨by omega, ‹gt _ (_ - 2) = _›, rfl⟩ | exact .inr ⟨‹¬ (_ ∧ gt _ (_ - 2) = _)›, rfl⟩)]; done)))), hB224⟩
      · refine W.skip ?_
        refine W.seq ?_
        refine W.seq ?_
        refine W.regJS (fun f' w' => At f' [(2, .pointer (some ((⟨g1, 0, none⟩ : Addr)))), (3, .bool false), (6, .pointer (some ((⟨g49, 0, none⟩ : Addr)))), (106, .bool (decide ((¬ (RowOK (⟨(readN ((gt (splitB (32 : UInt8) s) 1).take ((((gt (splitB (32 : UInt8) s) 1).length : Int) - 1).toNat))).1, (readN (gt (splitB (32 : UInt8) s) 2)).1, (readN (gt (splitB (32 : UInt8) s) 4)).1, (readN (gt (splitB (32 : UInt8) s) 6)).1, 0⟩ : LibRow))) ∨ (¬ ((lineT (⟨(readN ((gt (splitB (32 : UInt8) s) 1).take ((((gt (splitB (32 : UInt8) s) 1).length : Int) - 1).toNat))).1, (readN (gt (splitB (32 : UInt8) s) 2)).1, (readN (gt (splitB (32 : UInt8) s) 4)).1, (readN (gt (splitB (32 : UInt8) s) 6)).1, 0⟩ : LibRow)) = s)))))] ∧ Lo w172 w') ?_ ?_
        · refine SR.q' (r_lda (l := [.int .i64 ((readN ((gt (splitB (32 : UInt8) s) 1).take ((((gt (splitB (32 : UInt8) s) 1).length : Int) - 1).toNat))).1), .int .i64 ((readN (gt (splitB (32 : UInt8) s) 2)).1), .int .i64 ((readN (gt (splitB (32 : UInt8) s) 4)).1), .int .i64 ((readN (gt (splitB (32 : UInt8) s) 6)).1), .int .i64 0]) agg25 rfl (fun _ _ hu => ((hb163).lo hk174).cell hu) rfl) <| SR.call ent24 (c_spec_l31One w172 (⟨(readN ((gt (splitB (32 : UInt8) s) 1).take ((((gt (splitB (32 : UInt8) s) 1).length : Int) - 1).toNat))).1, (readN (gt (splitB (32 : UInt8) s) 2)).1, (readN (gt (splitB (32 : UInt8) s) 4)).1, (readN (gt (splitB (32 : UInt8) s) 6)).1, 0⟩ : LibRow)) rfl ?_
          rintro e w225 ⟨rfl, hk226⟩
          refine ⟨_, rfl, ?_⟩
          have hz227 := hk226.size
          have hB228 := hB176.lo hk226
          refine SR.q' (r_not rfl) <| SR.q' (r_mv (v := .bool _) rfl) <| SR.splitN (fun h229 => ?_) (fun h229 => ?_)
          · refine SR.s' rfl <| SR.s' rfl <| SR.s' rfl <| SR.s' rfl <| SR.q' (r_pick true rfl (v := .bool true) rfl) <| SR.nil ?_
            exact ⟨_, rfl, ⟨⟨rfl, rfl, rfl, (eDT ((jmf h229).1 trivial)), trivial⟩, (hk226)⟩⟩
          · refine SR.g' rfl (r_lda (l := [.int .i64 ((readN ((gt (splitB (32 : UInt8) s) 1).take ((((gt (splitB (32 : UInt8) s) 1).length : Int) - 1).toNat))).1), .int .i64 ((readN (gt (splitB (32 : UInt8) s) 2)).1), .int .i64 ((readN (gt (splitB (32 : UInt8) s) 4)).1), .int .i64 ((readN (gt (splitB (32 : UInt8) s) 6)).1), .int .i64 0]) agg25 rfl (fun _ _ hu => (((hb163).lo hk174).lo hk226).cell hu) rfl) <| SR.gcall rfl ent25 (c_spec_l31Line w225 (⟨(readN ((gt (splitB (32 : UInt8) s) 1).take ((((gt (splitB (32 : UInt8) s) 1).length : Int) - 1).toNat))).1, (readN (gt (splitB (32 : UInt8) s) 2)).1, (readN (gt (splitB (32 : UInt8) s) 4)).1, (readN (gt (splitB (32 : UInt8) s) 6)).1, 0⟩ : LibRow) (by first | assumption | exact rows_row ‹RowsOK L› ‹_[_]? = some _›)) rfl ?_
            rintro e w230 ⟨rfl, hk231⟩
            refine ⟨_, rfl, ?_⟩
            have hz232 := hk231.size
            have hB233 := hB228.lo hk231
            have hq234 : (lineT (⟨(readN ((gt (splitB (32 : UInt8) s) 1).take ((((gt (splitB (32 : UInt8) s) 1).length : Int) - 1).toNat))).1, (readN (gt (splitB (32 : UInt8) s) 2)).1, (readN (gt (splitB (32 : UInt8) s) 4)).1, (readN (gt (splitB (32 : UInt8) s) 6)).1, 0⟩ : LibRow)).length ≤ 300 := line_len (by first | assumption | exact rows_row ‹RowsOK L› ‹_[_]? = some _›)
            refine SR.g' rfl (r_mv (v := str _) rfl) <| SR.g' rfl (r_nes (s := lineT (⟨(readN ((gt (splitB (32 : UInt8) s) 1).take ((((gt (splitB (32 : UInt8) s) 1).length : Int) - 1).toNat))).1, (readN (gt (splitB (32 : UInt8) s) 2)).1, (readN (gt (splitB (32 : UInt8) s) 4)).1, (readN (gt (splitB (32 : UInt8) s) 6)).1, 0⟩ : LibRow)) (r := s) rfl rfl) <| SR.q' (r_pick false rfl (v := .bool _) rfl) <| SR.nil ?_
            exact ⟨_, rfl, ⟨⟨rfl, rfl, rfl, (eND (jmt h229)), trivial⟩, ((hk226).trans hk231)⟩⟩
        rintro f235 w236 ⟨hat237, hk238⟩
        rw [← sets_of_at hat237]
        have hz239 := hk238.size
        have hB240 := hB176.lo hk238
        refine W.cond_d rfl (fun h241 => ?_) (fun h241 => ?_)
        · refine W.seq ?_
          refine W.regS (SR.q' (r_build (vs := []) rfl (bld25_)) <| SR.store (o := 0) (vs := [.int .i64 0, .int .i64 0, .int .i64 0, .int .i64 0, .int .i64 0]) agg25.2 rfl rfl rfl rfl (((((((((((((((hb6).lo hk10).lo hk36).lo hk52).kn hk59 (by omega)).kn hR107 (by omega)).lo hk115).kn hk120 (by omega)).lo hk129).kn hk134 (by omega)).lo hk146).lo hk156).kn hk161 (by omega)).lo hk174).lo hk238) (Nat.le_of_ble_eq_true rfl) rfl ?_)
          intro w242 hk243 hs244 hb245
          have hz246 := hk243.size
          have hB247 := hB240.new hk243 (by omega)
          refine SR.q' (r_as (v := .bool false) rfl) <| SR.nil ?_
          refine W.ret ?_
          refine retCT rfl rfl agg25 (hb245) rfl (v := .bool _) rfl ?_
          exact ⟨eR (eT2 (eA (eC (eI (by first | (rw [parN_shape (by omega)]; done) | (rw [parS_no ‹¬ RowOK _ ∨ _› ‹_ = (splitB 32 s).length› (by omega) (by first | exact .inl ⟨by omega, ‹¬ gt _ 6 = _›, rfl⟩ | exact .inr ⟨‹¬ (_ ∧ ¬ gt _ 6 = _)›, rfl⟩) (by first | exact .inl ⟨by omega, ‹gt _ (_ - 2) = _›, rfl⟩ | exact .inr ⟨‹¬ (_ ∧ gt _ (_ - 2) = _)›, rfl⟩)]; done) | (rw [parS_ok ‹¬ (¬ RowOK _ ∨ _)› ‹_ = (splitB 32 s).length› (by omega) (by first | exact .inl ⟨by omega, ‹¬ gt _ 6 = _›, rfl⟩ | exact .inr ⟨‹¬ (_ ∧ ¬ gt _ 6 = _)›, rfl⟩) (by first | exact .inl ⟨by omega, ‹gt _ (_ - 2) = _›, rfl⟩ | exact .inr ⟨‹¬ (_ ∧ gt _ (_ - 2) = _)›, rfl⟩)]; done))) (eC (eI (by first | (rw [parN_shape (by omega)]; done) | (rw [parS_no ‹¬ RowOK _ ∨ _› ‹_ = (splitB 32 s).length› (by omega) (by first | exact .inl ⟨by omega, ‹¬ gt _ 6 = _›, rfl⟩ | exact .inr ⟨‹¬ (_ ∧ ¬ gt _ 6 = _)›, rfl⟩) (by first | exact .inl ⟨by omega, ‹gt _ (_ - 2) = _›, rfl⟩ | exact .inr ⟨‹¬ (_ ∧ gt _ (_ - 2) = _)›, rfl⟩)]; done) | (rw [parS_ok ‹¬ (¬ RowOK _ ∨ _)› ‹_ = (splitB 32 s).length› (by omega) (by first | exact .inl ⟨by omega, ‹¬ gt _ 6 = _›, rfl⟩ | exact .inr ⟨‹¬ (_ ∧ ¬ gt _ 6 = _)›, rfl⟩) (by first | exact .inl ⟨by omega, ‹gt _ (_ - 2) = _›, rfl⟩ | exact .inr ⟨‹¬ (_ ∧ gt _ (_ - 2) = _)›, rfl⟩)]; done))) (eC (eI (by first | (rw [parN_shape (by omega)]; done) | (rw [parS_no ‹¬ RowOK _ ∨ _› ‹_ = (splitB 32 s).length› (by omega) (by first | exact .inl ⟨by omega, ‹¬ gt _ 6 = _›, rfl⟩ | exact .inr ⟨‹¬ (_ ∧ ¬ gt _ 6 = _)›, rfl⟩) (by first | exact .inl ⟨by omega, ‹gt _ (_ - 2) = _›, rfl⟩ | exact .inr ⟨‹¬ (_ ∧ gt _ (_ - 2) = _)›, rfl⟩)]; done) | (rw [parS_ok ‹¬ (¬ RowOK _ ∨ _)› ‹_ = (splitB 32 s).length› (by omega) (by first | exact .inl ⟨by omega, ‹¬ gt _ 6 = _›, rfl⟩ | exact .inr ⟨‹¬ (_ ∧ ¬ gt _ 6 = _)›, rfl⟩) (by first | exact .inl ⟨by omega, ‹gt _ (_ - 2) = _›, rfl⟩ | exact .inr ⟨‹¬ (_ ∧ gt _ (_ - 2) = _)›, rfl⟩)]; done))) (eC (eI (by first | (rw [parN_shape (by omega)]; done) | (rw [parS_no ‹¬ RowOK _ ∨ _› ‹_ = (splitB 32 s).length› (by omega) (by first | exact .inl ⟨by omega, ‹¬ gt _ 6 = _›, rfl⟩ | exact .inr ⟨‹¬ (_ ∧ ¬ gt _ 6 = _)›, rfl⟩) (by first | exact .inl ⟨by omega, ‹gt _ (_ - 2) = _›, rfl⟩ | exact .inr ⟨‹¬ (_ ∧ gt _ (_ - 2) = _)›, rfl⟩)]; done) | (rw [parS_ok ‹¬ (¬ RowOK _ ∨ _)› ‹_ = (splitB 32 s).length› (by omega) (by first | exact .inl ⟨by omega, ‹¬ gt _ 6 = _›, rfl⟩ | exact .inr ⟨‹¬ (_ ∧ ¬ gt _ 6 = _)›, rfl⟩) (by first | exact .inl ⟨by omega, ‹gt _ (_ - 2) = _›, rfl⟩ | exact .inr ⟨‹¬ (_ ∧ gt _ (_ - 2) = _)›, rfl⟩)]; done))) (eC (eI (by first | (rw [parN_shape (by omega)]; done) | (rw [parS_no ‹¬ RowOK _ ∨ _› ‹_ = (splitB 32 s).length› (by omega) (by first | exact .inl ⟨by omega, ‹¬ gt _ 6 = _›, rfl⟩ | exact .inr ⟨‹¬ (_ ∧ ¬ gt _ 6 = _)›, rfl⟩) (by first | exact .inl ⟨by omega, ‹gt _ (_ - 2) = _›, rfl⟩ | exact .inr ⟨‹¬ (_ ∧ gt _ (_ - 2) = _)›, rfl⟩)]; done) | (rw [parS_ok ‹¬ (¬ RowOK _ ∨ _)› ‹_ = (splitB 32 s).length› (by omega) (by first | exact .inl ⟨by omega, ‹¬ gt _ 6 = _›, rfl⟩ | exact .inr ⟨‹¬ (_ ∧ ¬ gt _ 6 = _)›, rfl⟩) (by first | exact .inl ⟨by omega, ‹gt _ (_ - 2) = _›, rfl⟩ | exact .inr ⟨‹¬ (_ ∧ gt _ (_ - 2) = _)›, rfl⟩)]; done))) rfl)))))) (eB (by first | (rw [parN_shape (by omega)]; done) | (rw [parS_no ‹¬ RowOK _ ∨ _› ‹_ = (splitB 32 s).length› (by omega) (by first | exact .inl ⟨by omega, ‹¬ gt _ 6 = _›, rfl⟩ | exact .inr ⟨‹¬ (_ ∧ ¬ gt _ 6 = _)›, rfl⟩) (by first | exact .inl ⟨by omega, ‹gt _ (_ - 2) = _›, rfl⟩ | exact .inr ⟨‹¬ (_ ∧ gt _ (_ - 2) = _)›, rfl⟩)]; done) | (rw [parS_ok ‹¬ (¬ RowOK _ ∨ _)› ‹_ = (splitB 32 s).length› (by omega) (by first | exact .inl ⟨by omega, ‹¬ gt _ 6 = _›, rfl⟩ | exact .inr ⟨‹¬ (_ ∧ ¬ gt _ 6 = _)›, rfl⟩) (by first | exact .inl ⟨by omega, ‹gt _ (_ - 2) = _›, rfl⟩ | exact .inr ⟨‹¬ (_ ∧ gt _ (_ - 2) = _)›, rfl⟩)]; done)))), hB247⟩
        · have hq248 : RowOK (⟨(readN ((gt (splitB (32 : UInt8) s) 1).take ((((gt (splitB (32 : UInt8) s) 1).length : Int) - 1).toNat))).1, (readN (gt (splitB (32 : UInt8) s) 2)).1, (readN (gt (splitB (32 : UInt8) s) 4)).1, (readN (gt (splitB (32 : UInt8) s) 6)).1, 0⟩ : LibRow) := (Classical.not_not.1 (not_or.1 h241).1)
          have hq249 : (lineT (⟨(readN ((gt (splitB (32 : UInt8) s) 1).take ((((gt (splitB (32 : UInt8) s) 1).length : Int) - 1).toNat))).1, (readN (gt (splitB (32 : UInt8) s) 2)).1, (readN (gt (splitB (32 : UInt8) s) 4)).1, (readN (gt (splitB (32 : UInt8) s) 6)).1, 0⟩ : LibRow)) = s := (Classical.not_not.1 (not_or.1 h241).2)
          refine W.skip ?_
          refine W.seq ?_
          refine W.regS (SR.q' (r_lda (l := [.int .i64 ((readN ((gt (splitB (32 : UInt8) s) 1).take ((((gt (splitB (32 : UInt8) s) 1).length : Int) - 1).toNat))).1), .int .i64 ((readN (gt (splitB (32 : UInt8) s) 2)).1), .int .i64 ((readN (gt (splitB (32 : UInt8) s) 4)).1), .int .i64 ((readN (gt (splitB (32 : UInt8) s) 6)).1), .int .i64 0]) agg25 rfl (fun _ _ hu => (((hb163).lo hk174).lo hk238).cell hu) rfl) <| SR.store (o := 0) (vs := [.int .i64 ((readN ((gt (splitB (32 : UInt8) s) 1).take ((((gt (splitB (32 : UInt8) s) 1).length : Int) - 1).toNat))).1), .int .i64 ((readN (gt (splitB (32 : UInt8) s) 2)).1), .int .i64 ((readN (gt (splitB (32 : UInt8) s) 4)).1), .int .i64 ((readN (gt (splitB (32 : UInt8) s) 6)).1), .int .i64 0]) agg25.2 rfl rfl rfl rfl (((((((((((((((hb6).lo hk10).lo hk36).lo hk52).kn hk59 (by omega)).kn hR107 (by omega)).lo hk115).kn hk120 (by omega)).lo hk129).kn hk134 (by omega)).lo hk146).lo hk156).kn hk161 (by omega)).lo hk174).lo hk238) (Nat.le_of_ble_eq_true rfl) rfl ?_)
          intro w250 hk251 hs252 hb253
          have hz254 := hk251.size
          have hB255 := hB240.new hk251 (by omega)
          refine SR.q' (r_as (v := .bool true) rfl) <| SR.nil ?_
          refine W.ret ?_
          refine retCT rfl rfl agg25 (hb253) rfl (v := .bool _) rfl ?_
          exact ⟨eR (eT2 (eA (eC (eI (by first | (rw [parN_shape (by omega)]; done) | (rw [parS_no ‹¬ RowOK _ ∨ _› ‹_ = (splitB 32 s).length› (by omega) (by first | exact .inl ⟨by omega, ‹¬ gt _ 6 = _›, rfl⟩ | exact .inr ⟨‹¬ (_ ∧ ¬ gt _ 6 = _)›, rfl⟩) (by first | exact .inl ⟨by omega, ‹gt _ (_ - 2) = _›, rfl⟩ | exact .inr ⟨‹¬ (_ ∧ gt _ (_ - 2) = _)›, rfl⟩)]; done) | (rw [parS_ok ‹¬ (¬ RowOK _ ∨ _)› ‹_ = (splitB 32 s).length› (by omega) (by first | exact .inl ⟨by omega, ‹¬ gt _ 6 = _›, rfl⟩ | exact .inr ⟨‹¬ (_ ∧ ¬ gt _ 6 = _)›, rfl⟩) (by first | exact .inl ⟨by omega, ‹gt _ (_ - 2) = _›, rfl⟩ | exact .inr ⟨‹¬ (_ ∧ gt _ (_ - 2) = _)›, rfl⟩)]; done))) (eC (eI (by first | (rw [parN_shape (by omega)]; done) | (rw [parS_no ‹¬ RowOK _ ∨ _› ‹_ = (splitB 32 s).length› (by omega) (by first | exact .inl ⟨by omega, ‹¬ gt _ 6 = _›, rfl⟩ | exact .inr ⟨‹¬ (_ ∧ ¬ gt _ 6 = _)›, rfl⟩) (by first | exact .inl ⟨by omega, ‹gt _ (_ - 2) = _›, rfl⟩ | exact .inr ⟨‹¬ (_ ∧ gt _ (_ - 2) = _)›, rfl⟩)]; done) | (rw [parS_ok ‹¬ (¬ RowOK _ ∨ _)› ‹_ = (splitB 32 s).length› (by omega) (by first | exact .inl ⟨by omega, ‹¬ gt _ 6 = _›, rfl⟩ | exact .inr ⟨‹¬ (_ ∧ ¬ gt _ 6 = _)›, rfl⟩) (by first | exact .inl ⟨by omega, ‹gt _ (_ - 2) = _›, rfl⟩ | exact .inr ⟨‹¬ (_ ∧ gt _ (_ - 2) = _)›, rfl⟩)]; done))) (eC (eI (by first | (rw [parN_shape (by omega)]; done) | (rw [parS_no ‹¬ RowOK _ ∨ _› ‹_ = (splitB 32 s).length› (by omega) (by first | exact .inl ⟨by omega, ‹¬ gt _ 6 = _›, rfl⟩ | exact .inr ⟨‹¬ (_ ∧ ¬ gt _ 6 = _)›, rfl⟩) (by first | exact .inl ⟨by omega, ‹gt _ (_ - 2) = _›, rfl⟩ | exact .inr ⟨‹¬ (_ ∧ gt _ (_ - 2) = _)›, rfl⟩)]; done) | (rw [parS_ok ‹¬ (¬ RowOK _ ∨ _)› ‹_ = (splitB 32 s).length› (by omega) (by first | exact .inl ⟨by omega, ‹¬ gt _ 6 = _›, rfl⟩ | exact .inr ⟨‹¬ (_ ∧ ¬ gt _ 6 = _)›, rfl⟩) (by first | exact .inl ⟨by omega, ‹gt _ (_ - 2) = _›, rfl⟩ | exact .inr ⟨‹¬ (_ ∧ gt _ (_ - 2) = _)›, rfl⟩)]; done))) (eC (eI (by first | (rw [parN_shape (by omega)]; done) | (rw [parS_no ‹¬ RowOK _ ∨ _› ‹_ = (splitB 32 s).length› (by omega) (by first | exact .inl ⟨by omega, ‹¬ gt _ 6 = _›, rfl⟩ | exact .inr ⟨‹¬ (_ ∧ ¬ gt _ 6 = _)›, rfl⟩) (by first | exact .inl ⟨by omega, ‹gt _ (_ - 2) = _›, rfl⟩ | exact .inr ⟨‹¬ (_ ∧ gt _ (_ - 2) = _)›, rfl⟩)]; done) | (rw [parS_ok ‹¬ (¬ RowOK _ ∨ _)› ‹_ = (splitB 32 s).length› (by omega) (by first | exact .inl ⟨by omega, ‹¬ gt _ 6 = _›, rfl⟩ | exact .inr ⟨‹¬ (_ ∧ ¬ gt _ 6 = _)›, rfl⟩) (by first | exact .inl ⟨by omega, ‹gt _ (_ - 2) = _›, rfl⟩ | exact .inr ⟨‹¬ (_ ∧ gt _ (_ - 2) = _)›, rfl⟩)]; done))) (eC (eI (by first | (rw [parN_shape (by omega)]; done) | (rw [parS_no ‹¬ RowOK _ ∨ _› ‹_ = (splitB 32 s).length› (by omega) (by first | exact .inl ⟨by omega, ‹¬ gt _ 6 = _›, rfl⟩ | exact .inr ⟨‹¬ (_ ∧ ¬ gt _ 6 = _)›, rfl⟩) (by first | exact .inl ⟨by omega, ‹gt _ (_ - 2) = _›, rfl⟩ | exact .inr ⟨‹¬ (_ ∧ gt _ (_ - 2) = _)›, rfl⟩)]; done) | (rw [parS_ok ‹¬ (¬ RowOK _ ∨ _)› ‹_ = (splitB 32 s).length› (by omega) (by first | exact .inl ⟨by omega, ‹¬ gt _ 6 = _›, rfl⟩ | exact .inr ⟨‹¬ (_ ∧ ¬ gt _ 6 = _)›, rfl⟩) (by first | exact .inl ⟨by omega, ‹gt _ (_ - 2) = _›, rfl⟩ | exact .inr ⟨‹¬ (_ ∧ gt _ (_ - 2) = _)›, rfl⟩)]; done))) rfl)))))) (eB (by first | (rw [parN_shape (by omega)]; done) | (rw [parS_no ‹¬ RowOK _ ∨ _› ‹_ = (splitB 32 s).length› (by omega) (by first | exact .inl ⟨by omega, ‹¬ gt _ 6 = _›, rfl⟩ | exact .inr ⟨‹¬ (_ ∧ ¬ gt _ 6 = _)›, rfl⟩) (by first | exact .inl ⟨by omega, ‹gt _ (_ - 2) = _›, rfl⟩ | exact .inr ⟨‹¬ (_ ∧ gt _ (_ - 2) = _)›, rfl⟩)]; done) | (rw [parS_ok ‹¬ (¬ RowOK _ ∨ _)› ‹_ = (splitB 32 s).length› (by omega) (by first | exact .inl ⟨by omega, ‹¬ gt _ 6 = _›, rfl⟩ | exact .inr ⟨‹¬ (_ ∧ ¬ gt _ 6 = _)›, rfl⟩) (by first | exact .inl ⟨by omega, ‹gt _ (_ - 2) = _›, rfl⟩ | exact .inr ⟨‹¬ (_ ∧ gt _ (_ - 2) = _)›, rfl⟩)]; done)))), hB255⟩
    · refine W.skip ?_
      refine W.seq ?_
      refine W.seq ?_
      refine W.regJS (fun f' w' => At f' [(0, str s), (2, .pointer (some ((⟨g1, 0, none⟩ : Addr)))), (3, .bool false), (4, .slice A11 n12 c13), (5, .int .i64 (n12 : Int)), (6, .pointer (some ((⟨g49, 0, none⟩ : Addr)))), (90, .bool (decide ((6 < (n12 : Int)) ∧ ((gt (splitB (32 : UInt8) s) (n12 - 2)) = ([102, 105, 110, 101, 115] : List UInt8)))))] ∧ Lo w144 w') ?_ ?_
      · refine SR.q' (r_mv (v := .int .i64 _) rfl) <| SR.q' (r_gt rfl rfl) <| SR.q' (r_mv (v := .bool _) rfl) <| SR.splitD (fun h256 => ?_) (fun h256 => ?_)
        · refine SR.g' rfl (r_mv (v := .slice _ _ _) rfl) <| SR.g' rfl (r_mv (v := .int .i64 _) rfl) <| SR.g' rfl (r_sub rfl rfl (by omega)) <| ?_
          have hx258 := (((((((((((hO14).lo hk36).lo hk52).kd hk59 hd57).kd hR107 hd57).lo hk115).kd hk120 hd57).lo hk129).kd hk134 hd57).lo hk146).rd).elem (i := ((n12 : Int) - 2).toNat) (by omega)
          rw [show ((n12 : Int) - 2).toNat = n12 - 2 from by omega] at hx258
          have hq259 := splitB_el hx258
          have hx260 : (splitB (32 : UInt8) s)[((n12 : Int) - 2).toNat]? = some (gt (splitB (32 : UInt8) s) (n12 - 2)) := (show ((n12 : Int) - 2).toNat = n12 - 2 from by omega) ▸ hx258
          refine SR.g' rfl (r_ixR tsl51 (((((((((((hO14).lo hk36).lo hk52).kd hk59 hd57).kd hR107 hd57).lo hk115).kd hk120 hd57).lo hk129).kd hk134 hd57).lo hk146).rd) rfl rfl (by omega)) <| SR.g' rfl (r_ld (v := str (gt (splitB (32 : UInt8) s) (n12 - 2))) sca9 rfl ((((((((((((hO14).lo hk36).lo hk52).kd hk59 hd57).kd hR107 hd57).lo hk115).kd hk120 hd57).lo hk129).kd hk134 hd57).lo hk146).rd).cell0 hx260 rfl)) <| SR.g' rfl (r_eqs (s := (gt (splitB (32 : UInt8) s) (n12 - 2))) (r := ([102, 105, 110, 101, 115] : List UInt8)) rfl rfl) <| SR.q' (r_pick true rfl (v := .bool _) rfl) <| SR.nil ?_
          exact ⟨_, rfl, ⟨⟨rfl, rfl, rfl, rfl, rfl, rfl, (eDD (jat h256)), trivial⟩, (Lo.refl _)⟩⟩
        · refine SR.s' rfl <| SR.s' rfl <| SR.s' rfl <| SR.s' rfl <| SR.s' rfl <| SR.s' rfl <| SR.q' (r_pick false rfl (v := .bool false) rfl) <| SR.nil ?_
          exact ⟨_, rfl, ⟨⟨rfl, rfl, rfl, rfl, rfl, rfl, (eDF (jaf h256).2), trivial⟩, (Lo.refl _)⟩⟩
      rintro f261 w262 ⟨hat263, hk264⟩
      rw [← sets_of_at hat263]
      have hz265 := hk264.size
      have hB266 := hB148.lo hk264
      refine W.cond_d rfl (fun h267 => ?_) (fun h267 => ?_)
      · have hq268 : 6 < (n12 : Int) := h267.1
        have hq269 : (gt (splitB (32 : UInt8) s) (n12 - 2)) = ([102, 105, 110, 101, 115] : List UInt8) := h267.2
        refine W.regS (SR.q' (r_mv (v := .slice _ _ _) rfl) <| SR.q' (r_mv (v := .int .i64 _) rfl) <| SR.q' (r_sub rfl rfl (by omega)) <| ?_)
        have hx271 := ((((((((((((hO14).lo hk36).lo hk52).kd hk59 hd57).kd hR107 hd57).lo hk115).kd hk120 hd57).lo hk129).kd hk134 hd57).lo hk146).lo hk264).rd).elem (i := ((n12 : Int) - 1).toNat) (by omega)
        rw [show ((n12 : Int) - 1).toNat = n12 - 1 from by omega] at hx271
        have hq272 := splitB_el hx271
        have hx273 : (splitB (32 : UInt8) s)[((n12 : Int) - 1).toNat]? = some (gt (splitB (32 : UInt8) s) (n12 - 1)) := (show ((n12 : Int) - 1).toNat = n12 - 1 from by omega) ▸ hx271
        refine SR.q' (r_ixR tsl51 ((((((((((((hO14).lo hk36).lo hk52).kd hk59 hd57).kd hR107 hd57).lo hk115).kd hk120 hd57).lo hk129).kd hk134 hd57).lo hk146).lo hk264).rd) rfl rfl (by omega)) <| SR.q' (r_ld (v := str (gt (splitB (32 : UInt8) s) (n12 - 1))) sca9 rfl (((((((((((((hO14).lo hk36).lo hk52).kd hk59 hd57).kd hR107 hd57).lo hk115).kd hk120 hd57).lo hk129).kd hk134 hd57).lo hk146).lo hk264).rd).cell0 hx273 rfl)) <| SR.call ent36 (c_spec_l31Money w262 (gt (splitB (32 : UInt8) s) (n12 - 1)) (by first | omega | (simp only [List.length_append, List.length_cons, List.length_nil, List.length_take, List.length_drop]; omega))) rfl ?_
        rintro e w274 ⟨rfl, hk275⟩
        refine ⟨_, rfl, ?_⟩
        have hz276 := hk275.size
        have hB277 := hB266.lo hk275
        refine SR.q' (r_fa fa25_4 rfl) <| SR.store (o := 4) (vs := [.int .i64 (monN (gt (splitB (32 : UInt8) s) (n12 - 1)))]) sca3.2 rfl rfl rfl rfl ((((hb136).lo hk146).lo hk264).lo hk275) (Nat.le_of_ble_eq_true rfl) rfl ?_
        intro w278 hk279 hs280 hb281
        have hz282 := hk279.size
        have hB283 := hB277.new hk279 (by omega)
        refine SR.nil ?_
        refine W.seq ?_
        refine W.seq ?_
        refine W.regJS (fun f' w' => At f' [(2, .pointer (some ((⟨g1, 0, none⟩ : Addr)))), (3, .bool false), (6, .pointer (some ((⟨g49, 0, none⟩ : Addr)))), (106, .bool (decide ((¬ (RowOK (⟨(readN ((gt (splitB (32 : UInt8) s) 1).take ((((gt (splitB (32 : UInt8) s) 1).length : Int) - 1).toNat))).1, (readN (gt (splitB (32 : UInt8) s) 2)).1, (readN (gt (splitB (32 : UInt8) s) 4)).1, 0, monN (gt (splitB (32 : UInt8) s) (n12 - 1))⟩ : LibRow))) ∨ (¬ ((lineT (⟨(readN ((gt (splitB (32 : UInt8) s) 1).take ((((gt (splitB (32 : UInt8) s) 1).length : Int) - 1).toNat))).1, (readN (gt (splitB (32 : UInt8) s) 2)).1, (readN (gt (splitB (32 : UInt8) s) 4)).1, 0, monN (gt (splitB (32 : UInt8) s) (n12 - 1))⟩ : LibRow)) = s)))))] ∧ Lo w278 w') ?_ ?_
        · refine SR.q' (r_lda (l := [.int .i64 ((readN ((gt (splitB (32 : UInt8) s) 1).take ((((gt (splitB (32 : UInt8) s) 1).length : Int) - 1).toNat))).1), .int .i64 ((readN (gt (splitB (32 : UInt8) s) 2)).1), .int .i64 ((readN (gt (splitB (32 : UInt8) s) 4)).1), .int .i64 0, .int .i64 (monN (gt (splitB (32 : UInt8) s) (n12 - 1)))]) agg25 rfl (fun _ _ hu => (hb281).cell hu) rfl) <| SR.call ent24 (c_spec_l31One w278 (⟨(readN ((gt (splitB (32 : UInt8) s) 1).take ((((gt (splitB (32 : UInt8) s) 1).length : Int) - 1).toNat))).1, (readN (gt (splitB (32 : UInt8) s) 2)).1, (readN (gt (splitB (32 : UInt8) s) 4)).1, 0, monN (gt (splitB (32 : UInt8) s) (n12 - 1))⟩ : LibRow)) rfl ?_
          rintro e w284 ⟨rfl, hk285⟩
          refine ⟨_, rfl, ?_⟩
          have hz286 := hk285.size
          have hB287 := hB283.lo hk285
          refine SR.q' (r_not rfl) <| SR.q' (r_mv (v := .bool _) rfl) <| SR.splitN (fun h288 => ?_) (fun h288 => ?_)
          · refine SR.s' rfl <| SR.s' rfl <| SR.s' rfl <| SR.s' rfl <| SR.q' (r_pick true rfl (v := .bool true) rfl) <| SR.nil ?_
            exact ⟨_, rfl, ⟨⟨rfl, rfl, rfl, (eDT ((jmf h288).1 trivial)), trivial⟩, (hk285)⟩⟩
          · refine SR.g' rfl (r_lda (l := [.int .i64 ((readN ((gt (splitB (32 : UInt8) s) 1).take ((((gt (splitB (32 : UInt8) s) 1).length : Int) - 1).toNat))).1), .int .i64 ((readN (gt (splitB (32 : UInt8) s) 2)).1), .int .i64 ((readN (gt (splitB (32 : UInt8) s) 4)).1), .int .i64 0, .int .i64 (monN (gt (splitB (32 : UInt8) s) (n12 - 1)))]) agg25 rfl (fun _ _ hu => ((hb281).lo hk285).cell hu) rfl) <| SR.gcall rfl ent25 (c_spec_l31Line w284 (⟨(readN ((gt (splitB (32 : UInt8) s) 1).take ((((gt (splitB (32 : UInt8) s) 1).length : Int) - 1).toNat))).1, (readN (gt (splitB (32 : UInt8) s) 2)).1, (readN (gt (splitB (32 : UInt8) s) 4)).1, 0, monN (gt (splitB (32 : UInt8) s) (n12 - 1))⟩ : LibRow) (by first | assumption | exact rows_row ‹RowsOK L› ‹_[_]? = some _›)) rfl ?_
            rintro e w289 ⟨rfl, hk290⟩
            refine ⟨_, rfl, ?_⟩
            have hz291 := hk290.size
            have hB292 := hB287.lo hk290
            have hq293 : (lineT (⟨(readN ((gt (splitB (32 : UInt8) s) 1).take ((((gt (splitB (32 : UInt8) s) 1).length : Int) - 1).toNat))).1, (readN (gt (splitB (32 : UInt8) s) 2)).1, (readN (gt (splitB (32 : UInt8) s) 4)).1, 0, monN (gt (splitB (32 : UInt8) s) (n12 - 1))⟩ : LibRow)).length ≤ 300 := line_len (by first | assumption | exact rows_row ‹RowsOK L› ‹_[_]? = some _›)
            refine SR.g' rfl (r_mv (v := str _) rfl) <| SR.g' rfl (r_nes (s := lineT (⟨(readN ((gt (splitB (32 : UInt8) s) 1).take ((((gt (splitB (32 : UInt8) s) 1).length : Int) - 1).toNat))).1, (readN (gt (splitB (32 : UInt8) s) 2)).1, (readN (gt (splitB (32 : UInt8) s) 4)).1, 0, monN (gt (splitB (32 : UInt8) s) (n12 - 1))⟩ : LibRow)) (r := s) rfl rfl) <| SR.q' (r_pick false rfl (v := .bool _) rfl) <| SR.nil ?_
            exact ⟨_, rfl, ⟨⟨rfl, rfl, rfl, (eND (jmt h288)), trivial⟩, ((hk285).trans hk290)⟩⟩
        rintro f294 w295 ⟨hat296, hk297⟩
        rw [← sets_of_at hat296]
        have hz298 := hk297.size
        have hB299 := hB283.lo hk297
        refine W.cond_d rfl (fun h300 => ?_) (fun h300 => ?_)
        · refine W.seq ?_
          refine W.regS (SR.q' (r_build (vs := []) rfl (bld25_)) <| SR.store (o := 0) (vs := [.int .i64 0, .int .i64 0, .int .i64 0, .int .i64 0, .int .i64 0]) agg25.2 rfl rfl rfl rfl (((((((((((((((hb6).lo hk10).lo hk36).lo hk52).kn hk59 (by omega)).kn hR107 (by omega)).lo hk115).kn hk120 (by omega)).lo hk129).kn hk134 (by omega)).lo hk146).lo hk264).lo hk275).kn hk279 (by omega)).lo hk297) (Nat.le_of_ble_eq_true rfl) rfl ?_)
          intro w301 hk302 hs303 hb304
          have hz305 := hk302.size
          have hB306 := hB299.new hk302 (by omega)
          refine SR.q' (r_as (v := .bool false) rfl) <| SR.nil ?_
          refine W.ret ?_
          refine retCT rfl rfl agg25 (hb304) rfl (v := .bool _) rfl ?_
          exact ⟨eR (eT2 (eA (eC (eI (by first | (rw [parN_shape (by omega)]; done) | (rw [parS_no ‹¬ RowOK _ ∨ _› ‹_ = (splitB 32 s).length› (by omega) (by first | exact .inl ⟨by omega, ‹¬ gt _ 6 = _›, rfl⟩ | exact .inr ⟨‹¬ (_ ∧ ¬ gt _ 6 = _)›, rfl⟩) (by first | exact .inl ⟨by omega, ‹gt _ (_ - 2) = _›, rfl⟩ | exact .inr ⟨‹¬ (_ ∧ gt _ (_ - 2) = _)›, rfl⟩)]; done) | (rw [parS_ok ‹¬ (¬ RowOK _ ∨ _)› ‹_ = (splitB 32 s).length› (by omega) (by first | exact .inl ⟨by omega, ‹¬ gt _ 6 = _›, rfl⟩ | exact .inr ⟨‹¬ (_ ∧ ¬ gt _ 6 = _)›, rfl⟩) (by first | exact .inl ⟨by omega, ‹gt _ (_ - 2) = _›, rfl⟩ | exact .inr ⟨‹¬ (_ ∧ gt _ (_ - 2) = _)›, rfl⟩)]; done))) (eC (eI (by first | (rw [parN_shape (by omega)]; done) | (rw [parS_no ‹¬ RowOK _ ∨ _› ‹_ = (splitB 32 s).length› (by omega) (by first | exact .inl ⟨by omega, ‹¬ gt _ 6 = _›, rfl⟩ | exact .inr ⟨‹¬ (_ ∧ ¬ gt _ 6 = _)›, rfl⟩) (by first | exact .inl ⟨by omega, ‹gt _ (_ - 2) = _›, rfl⟩ | exact .inr ⟨‹¬ (_ ∧ gt _ (_ - 2) = _)›, rfl⟩)]; done) | (rw [parS_ok ‹¬ (¬ RowOK _ ∨ _)› ‹_ = (splitB 32 s).length› (by omega) (by first | exact .inl ⟨by omega, ‹¬ gt _ 6 = _›, rfl⟩ | exact .inr ⟨‹¬ (_ ∧ ¬ gt _ 6 = _)›, rfl⟩) (by first | exact .inl ⟨by omega, ‹gt _ (_ - 2) = _›, rfl⟩ | exact .inr ⟨‹¬ (_ ∧ gt _ (_ - 2) = _)›, rfl⟩)]; done))) (eC (eI (by first | (rw [parN_shape (by omega)]; done) | (rw [parS_no ‹¬ RowOK _ ∨ _› ‹_ = (splitB 32 s).length› (by omega) (by first | exact .inl ⟨by omega, ‹¬ gt _ 6 = _›, rfl⟩ | exact .inr ⟨‹¬ (_ ∧ ¬ gt _ 6 = _)›, rfl⟩) (by first | exact .inl ⟨by omega, ‹gt _ (_ - 2) = _›, rfl⟩ | exact .inr ⟨‹¬ (_ ∧ gt _ (_ - 2) = _)›, rfl⟩)]; done) | (rw [parS_ok ‹¬ (¬ RowOK _ ∨ _)› ‹_ = (splitB 32 s).length› (by omega) (by first | exact .inl ⟨by omega, ‹¬ gt _ 6 = _›, rfl⟩ | exact .inr ⟨‹¬ (_ ∧ ¬ gt _ 6 = _)›, rfl⟩) (by first | exact .inl ⟨by omega, ‹gt _ (_ - 2) = _›, rfl⟩ | exact .inr ⟨‹¬ (_ ∧ gt _ (_ - 2) = _)›, rfl⟩)]; done))) (eC (eI (by first | (rw [parN_shape (by omega)]; done) | (rw [parS_no ‹¬ RowOK _ ∨ _› ‹_ = (splitB 32 s).length› (by omega) (by first | exact .inl ⟨by omega, ‹¬ gt _ 6 = _›, rfl⟩ | exact .inr ⟨‹¬ (_ ∧ ¬ gt _ 6 = _)›, rfl⟩) (by first | exact .inl ⟨by omega, ‹gt _ (_ - 2) = _›, rfl⟩ | exact .inr ⟨‹¬ (_ ∧ gt _ (_ - 2) = _)›, rfl⟩)]; done) | (rw [parS_ok ‹¬ (¬ RowOK _ ∨ _)› ‹_ = (splitB 32 s).length› (by omega) (by first | exact .inl ⟨by omega, ‹¬ gt _ 6 = _›, rfl⟩ | exact .inr ⟨‹¬ (_ ∧ ¬ gt _ 6 = _)›, rfl⟩) (by first | exact .inl ⟨by omega, ‹gt _ (_ - 2) = _›, rfl⟩ | exact .inr ⟨‹¬ (_ ∧ gt _ (_ - 2) = _)›, rfl⟩)]; done))) (eC (eI (by first | (rw [parN_shape (by omega)]; done) | (rw [parS_no ‹¬ RowOK _ ∨ _› ‹_ = (splitB 32 s).length› (by omega) (by first | exact .inl ⟨by omega, ‹¬ gt _ 6 = _›, rfl⟩ | exact .inr ⟨‹¬ (_ ∧ ¬ gt _ 6 = _)›, rfl⟩) (by first | exact .inl ⟨by omega, ‹gt _ (_ - 2) = _›, rfl⟩ | exact .inr ⟨‹¬ (_ ∧ gt _ (_ - 2) = _)›, rfl⟩)]; done) | (rw [parS_ok ‹¬ (¬ RowOK _ ∨ _)› ‹_ = (splitB 32 s).length› (by omega) (by first | exact .inl ⟨by omega, ‹¬ gt _ 6 = _›, rfl⟩ | exact .inr ⟨‹¬ (_ ∧ ¬ gt _ 6 = _)›, rfl⟩) (by first | exact .inl ⟨by omega, ‹gt _ (_ - 2) = _›, rfl⟩ | exact .inr ⟨‹¬ (_ ∧ gt _ (_ - 2) = _)›, rfl⟩)]; done))) rfl)))))) (eB (by first | (rw [parN_shape (by omega)]; done) | (rw [parS_no ‹¬ RowOK _ ∨ _› ‹_ = (splitB 32 s).length› (by omega) (by first | exact .inl ⟨by omega, ‹¬ gt _ 6 = _›, rfl⟩ | exact .inr ⟨‹¬ (_ ∧ ¬ gt _ 6 = _)›, rfl⟩) (by first | exact .inl ⟨by omega, ‹gt _ (_ - 2) = _›, rfl⟩ | exact .inr ⟨‹¬ (_ ∧ gt _ (_ - 2) = _)›, rfl⟩)]; done) | (rw [parS_ok ‹¬ (¬ RowOK _ ∨ _)› ‹_ = (splitB 32 s).length› (by omega) (by first | exact .inl ⟨by omega, ‹¬ gt _ 6 = _›, rfl⟩ | exact .inr ⟨‹¬ (_ ∧ ¬ gt _ 6 = _)›, rfl⟩) (by first | exact .inl ⟨by omega, ‹gt _ (_ - 2) = _›, rfl⟩ | exact .inr ⟨‹¬ (_ ∧ gt _ (_ - 2) = _)›, rfl⟩)]; done)))), hB306⟩
        · have hq307 : RowOK (⟨(readN ((gt (splitB (32 : UInt8) s) 1).take ((((gt (splitB (32 : UInt8) s) 1).length : Int) - 1).toNat))).1, (readN (gt (splitB (32 : UInt8) s) 2)).1, (readN (gt (splitB (32 : UInt8) s) 4)).1, 0, monN (gt (splitB (32 : UInt8) s) (n12 - 1))⟩ : LibRow) := (Classical.not_not.1 (not_or.1 h300).1)
          have hq308 : (lineT (⟨(readN ((gt (splitB (32 : UInt8) s) 1).take ((((gt (splitB (32 : UInt8) s) 1).length : Int) - 1).toNat))).1, (readN (gt (splitB (32 : UInt8) s) 2)).1, (readN (gt (splitB (32 : UInt8) s) 4)).1, 0, monN (gt (splitB (32 : UInt8) s) (n12 - 1))⟩ : LibRow)) = s := (Classical.not_not.1 (not_or.1 h300).2)
          refine W.skip ?_
          refine W.seq ?_
          refine W.regS (SR.q' (r_lda (l := [.int .i64 ((readN ((gt (splitB (32 : UInt8) s) 1).take ((((gt (splitB (32 : UInt8) s) 1).length : Int) - 1).toNat))).1), .int .i64 ((readN (gt (splitB (32 : UInt8) s) 2)).1), .int .i64 ((readN (gt (splitB (32 : UInt8) s) 4)).1), .int .i64 0, .int .i64 (monN (gt (splitB (32 : UInt8) s) (n12 - 1)))]) agg25 rfl (fun _ _ hu => ((hb281).lo hk297).cell hu) rfl) <| SR.store (o := 0) (vs := [.int .i64 ((readN ((gt (splitB (32 : UInt8) s) 1).take ((((gt (splitB (32 : UInt8) s) 1).length : Int) - 1).toNat))).1), .int .i64 ((readN (gt (splitB (32 : UInt8) s) 2)).1), .int .i64 ((readN (gt (splitB (32 : UInt8) s) 4)).1), .int .i64 0, .int .i64 (monN (gt (splitB (32 : UInt8) s) (n12 - 1)))]) agg25.2 rfl rfl rfl rfl (((((((((((((((hb6).lo hk10).lo hk36).lo hk52).kn hk59 (by omega)).kn hR107 (by omega)).lo hk115).kn hk120 (by omega)).lo hk129).kn hk134 (by omega)).lo hk146).lo hk264).lo hk275).kn hk279 (by omega)).lo hk297) (Nat.le_of_ble_eq_true rfl) rfl ?_)
          intro w309 hk310 hs311 hb312
          have hz313 := hk310.size
          have hB314 := hB299.new hk310 (by omega)
          refine SR.q' (r_as (v := .bool true) rfl) <| SR.nil ?_
          refine W.ret ?_
          refine retCT rfl rfl agg25 (hb312) rfl (v := .bool _) rfl ?_
          exact ⟨eR (eT2 (eA (eC (eI (by first | (rw [parN_shape (by omega)]; done) | (rw [parS_no ‹¬ RowOK _ ∨ _› ‹_ = (splitB 32 s).length› (by omega) (by first | exact .inl ⟨by omega, ‹¬ gt _ 6 = _›, rfl⟩ | exact .inr ⟨‹¬ (_ ∧ ¬ gt _ 6 = _)›, rfl⟩) (by first | exact .inl ⟨by omega, ‹gt _ (_ - 2) = _›, rfl⟩ | exact .inr ⟨‹¬ (_ ∧ gt _ (_ - 2) = _)›, rfl⟩)]; done) | (rw [parS_ok ‹¬ (¬ RowOK _ ∨ _)› ‹_ = (splitB 32 s).length› (by omega) (by first | exact .inl ⟨by omega, ‹¬ gt _ 6 = _›, rfl⟩ | exact .inr ⟨‹¬ (_ ∧ ¬ gt _ 6 = _)›, rfl⟩) (by first | exact .inl ⟨by omega, ‹gt _ (_ - 2) = _›, rfl⟩ | exact .inr ⟨‹¬ (_ ∧ gt _ (_ - 2) = _)›, rfl⟩)]; done))) (eC (eI (by first | (rw [parN_shape (by omega)]; done) | (rw [parS_no ‹¬ RowOK _ ∨ _› ‹_ = (splitB 32 s).length› (by omega) (by first | exact .inl ⟨by omega, ‹¬ gt _ 6 = _›, rfl⟩ | exact .inr ⟨‹¬ (_ ∧ ¬ gt _ 6 = _)›, rfl⟩) (by first | exact .inl ⟨by omega, ‹gt _ (_ - 2) = _›, rfl⟩ | exact .inr ⟨‹¬ (_ ∧ gt _ (_ - 2) = _)›, rfl⟩)]; done) | (rw [parS_ok ‹¬ (¬ RowOK _ ∨ _)› ‹_ = (splitB 32 s).length› (by omega) (by first | exact .inl ⟨by omega, ‹¬ gt _ 6 = _›, rfl⟩ | exact .inr ⟨‹¬ (_ ∧ ¬ gt _ 6 = _)›, rfl⟩) (by first | exact .inl ⟨by omega, ‹gt _ (_ - 2) = _›, rfl⟩ | exact .inr ⟨‹¬ (_ ∧ gt _ (_ - 2) = _)›, rfl⟩)]; done))) (eC (eI (by first | (rw [parN_shape (by omega)]; done) | (rw [parS_no ‹¬ RowOK _ ∨ _› ‹_ = (splitB 32 s).length› (by omega) (by first | exact .inl ⟨by omega, ‹¬ gt _ 6 = _›, rfl⟩ | exact .inr ⟨‹¬ (_ ∧ ¬ gt _ 6 = _)›, rfl⟩) (by first | exact .inl ⟨by omega, ‹gt _ (_ - 2) = _›, rfl⟩ | exact .inr ⟨‹¬ (_ ∧ gt _ (_ - 2) = _)›, rfl⟩)]; done) | (rw [parS_ok ‹¬ (¬ RowOK _ ∨ _)› ‹_ = (splitB 32 s).length› (by omega) (by first | exact .inl ⟨by omega, ‹¬ gt _ 6 = _›, rfl⟩ | exact .inr ⟨‹¬ (_ ∧ ¬ gt _ 6 = _)›, rfl⟩) (by first | exact .inl ⟨by omega, ‹gt _ (_ - 2) = _›, rfl⟩ | exact .inr ⟨‹¬ (_ ∧ gt _ (_ - 2) = _)›, rfl⟩)]; done))) (eC (eI (by first | (rw [parN_shape (by omega)]; done) | (rw [parS_no ‹¬ RowOK _ ∨ _› ‹_ = (splitB 32 s).length› (by omega) (by first | exact .inl ⟨by omega, ‹¬ gt _ 6 = _›, rfl⟩ | exact .inr ⟨‹¬ (_ ∧ ¬ gt _ 6 = _)›, rfl⟩) (by first | exact .inl ⟨by omega, ‹gt _ (_ - 2) = _›, rfl⟩ | exact .inr ⟨‹¬ (_ ∧ gt _ (_ - 2) = _)›, rfl⟩)]; done) | (rw [parS_ok ‹¬ (¬ RowOK _ ∨ _)› ‹_ = (splitB 32 s).length› (by omega) (by first | exact .inl ⟨by omega, ‹¬ gt _ 6 = _›, rfl⟩ | exact .inr ⟨‹¬ (_ ∧ ¬ gt _ 6 = _)›, rfl⟩) (by first | exact .inl ⟨by omega, ‹gt _ (_ - 2) = _›, rfl⟩ | exact .inr ⟨‹¬ (_ ∧ gt _ (_ - 2) = _)›, rfl⟩)]; done))) (eC (eI (by first | (rw [parN_shape (by omega)]; done) | (rw [parS_no ‹¬ RowOK _ ∨ _› ‹_ = (splitB 32 s).length› (by omega) (by first | exact .inl ⟨by omega, ‹¬ gt _ 6 = _›, rfl⟩ | exact .inr ⟨‹¬ (_ ∧ ¬ gt _ 6 = _)›, rfl⟩) (by first | exact .inl ⟨by omega, ‹gt _ (_ - 2) = _›, rfl⟩ | exact .inr ⟨‹¬ (_ ∧ gt _ (_ - 2) = _)›, rfl⟩)]; done) | (rw [parS_ok ‹¬ (¬ RowOK _ ∨ _)› ‹_ = (splitB 32 s).length› (by omega) (by first | exact .inl ⟨by omega, ‹¬ gt _ 6 = _›, rfl⟩ | exact .inr ⟨‹¬ (_ ∧ ¬ gt _ 6 = _)›, rfl⟩) (by first | exact .inl ⟨by omega, ‹gt _ (_ - 2) = _›, rfl⟩ | exact .inr ⟨‹¬ (_ ∧ gt _ (_ - 2) = _)›, rfl⟩)]; done))) rfl)))))) (eB (by first | (rw [parN_shape (by omega)]; done) | (rw [parS_no ‹¬ RowOK _ ∨ _› ‹_ = (splitB 32 s).length› (by omega) (by first | exact .inl ⟨by omega, ‹¬ gt _ 6 = _›, rfl⟩ | exact .inr ⟨‹¬ (_ ∧ ¬ gt _ 6 = _)›, rfl⟩) (by first | exact .inl ⟨by omega, ‹gt _ (_ - 2) = _›, rfl⟩ | exact .inr ⟨‹¬ (_ ∧ gt _ (_ - 2) = _)›, rfl⟩)]; done) | (rw [parS_ok ‹¬ (¬ RowOK _ ∨ _)› ‹_ = (splitB 32 s).length› (by omega) (by first | exact .inl ⟨by omega, ‹¬ gt _ 6 = _›, rfl⟩ | exact .inr ⟨‹¬ (_ ∧ ¬ gt _ 6 = _)›, rfl⟩) (by first | exact .inl ⟨by omega, ‹gt _ (_ - 2) = _›, rfl⟩ | exact .inr ⟨‹¬ (_ ∧ gt _ (_ - 2) = _)›, rfl⟩)]; done)))), hB314⟩
      · refine W.skip ?_
        refine W.seq ?_
        refine W.seq ?_
        refine W.regJS (fun f' w' => At f' [(2, .pointer (some ((⟨g1, 0, none⟩ : Addr)))), (3, .bool false), (6, .pointer (some ((⟨g49, 0, none⟩ : Addr)))), (106, .bool (decide ((¬ (RowOK (⟨(readN ((gt (splitB (32 : UInt8) s) 1).take ((((gt (splitB (32 : UInt8) s) 1).length : Int) - 1).toNat))).1, (readN (gt (splitB (32 : UInt8) s) 2)).1, (readN (gt (splitB (32 : UInt8) s) 4)).1, 0, 0⟩ : LibRow))) ∨ (¬ ((lineT (⟨(readN ((gt (splitB (32 : UInt8) s) 1).take ((((gt (splitB (32 : UInt8) s) 1).length : Int) - 1).toNat))).1, (readN (gt (splitB (32 : UInt8) s) 2)).1, (readN (gt (splitB (32 : UInt8) s) 4)).1, 0, 0⟩ : LibRow)) = s)))))] ∧ Lo w262 w') ?_ ?_
        · refine SR.q' (r_lda (l := [.int .i64 ((readN ((gt (splitB (32 : UInt8) s) 1).take ((((gt (splitB (32 : UInt8) s) 1).length : Int) - 1).toNat))).1), .int .i64 ((readN (gt (splitB (32 : UInt8) s) 2)).1), .int .i64 ((readN (gt (splitB (32 : UInt8) s) 4)).1), .int .i64 0, .int .i64 0]) agg25 rfl (fun _ _ hu => (((hb136).lo hk146).lo hk264).cell hu) rfl) <| SR.call ent24 (c_spec_l31One w262 (⟨(readN ((gt (splitB (32 : UInt8) s) 1).take ((((gt (splitB (32 : UInt8) s) 1).length : Int) - 1).toNat))).1, (readN (gt (splitB (32 : UInt8) s) 2)).1, (readN (gt (splitB (32 : UInt8) s) 4)).1, 0, 0⟩ : LibRow)) rfl ?_
          rintro e w315 ⟨rfl, hk316⟩
          refine ⟨_, rfl, ?_⟩
          have hz317 := hk316.size
          have hB318 := hB266.lo hk316
          refine SR.q' (r_not rfl) <| SR.q' (r_mv (v := .bool _) rfl) <| SR.splitN (fun h319 => ?_) (fun h319 => ?_)
          · refine SR.s' rfl <| SR.s' rfl <| SR.s' rfl <| SR.s' rfl <| SR.q' (r_pick true rfl (v := .bool true) rfl) <| SR.nil ?_
            exact ⟨_, rfl, ⟨⟨rfl, rfl, rfl, (eDT ((jmf h319).1 trivial)), trivial⟩, (hk316)⟩⟩
          · refine SR.g' rfl (r_lda (l := [.int .i64 ((readN ((gt (splitB (32 : UInt8) s) 1).take ((((gt (splitB (32 : UInt8) s) 1).length : Int) - 1).toNat))).1), .int .i64 ((readN (gt (splitB (32 : UInt8) s) 2)).1), .int .i64 ((readN (gt (splitB (32 : UInt8) s) 4)).1), .int .i64 0, .int .i64 0]) agg25 rfl (fun _ _ hu => ((((hb136).lo hk146).lo hk264).lo hk316).cell hu) rfl) <| SR.gcall rfl ent25 (c_spec_l31Line w315 (⟨(readN ((gt (splitB (32 : UInt8) s) 1).take ((((gt (splitB (32 : UInt8) s) 1).length : Int) - 1).toNat))).1, (readN (gt (splitB (32 : UInt8) s) 2)).1, (readN (gt (splitB (32 : UInt8) s) 4)).1, 0, 0⟩ : LibRow) (by first | assumption | exact rows_row ‹RowsOK L› ‹_[_]? = some _›)) rfl ?_
            rintro e w320 ⟨rfl, hk321⟩
            refine ⟨_, rfl, ?_⟩
            have hz322 := hk321.size
            have hB323 := hB318.lo hk321
            have hq324 : (lineT (⟨(readN ((gt (splitB (32 : UInt8) s) 1).take ((((gt (splitB (32 : UInt8) s) 1).length : Int) - 1).toNat))).1, (readN (gt (splitB (32 : UInt8) s) 2)).1, (readN (gt (splitB (32 : UInt8) s) 4)).1, 0, 0⟩ : LibRow)).length ≤ 300 := line_len (by first | assumption | exact rows_row ‹RowsOK L› ‹_[_]? = some _›)
            refine SR.g' rfl (r_mv (v := str _) rfl) <| SR.g' rfl (r_nes (s := lineT (⟨(readN ((gt (splitB (32 : UInt8) s) 1).take ((((gt (splitB (32 : UInt8) s) 1).length : Int) - 1).toNat))).1, (readN (gt (splitB (32 : UInt8) s) 2)).1, (readN (gt (splitB (32 : UInt8) s) 4)).1, 0, 0⟩ : LibRow)) (r := s) rfl rfl) <| SR.q' (r_pick false rfl (v := .bool _) rfl) <| SR.nil ?_
            exact ⟨_, rfl, ⟨⟨rfl, rfl, rfl, (eND (jmt h319)), trivial⟩, ((hk316).trans hk321)⟩⟩
        rintro f325 w326 ⟨hat327, hk328⟩
        rw [← sets_of_at hat327]
        have hz329 := hk328.size
        have hB330 := hB266.lo hk328
        refine W.cond_d rfl (fun h331 => ?_) (fun h331 => ?_)
        · refine W.seq ?_
          refine W.regS (SR.q' (r_build (vs := []) rfl (bld25_)) <| SR.store (o := 0) (vs := [.int .i64 0, .int .i64 0, .int .i64 0, .int .i64 0, .int .i64 0]) agg25.2 rfl rfl rfl rfl (((((((((((((hb6).lo hk10).lo hk36).lo hk52).kn hk59 (by omega)).kn hR107 (by omega)).lo hk115).kn hk120 (by omega)).lo hk129).kn hk134 (by omega)).lo hk146).lo hk264).lo hk328) (Nat.le_of_ble_eq_true rfl) rfl ?_)
          intro w332 hk333 hs334 hb335
          have hz336 := hk333.size
          have hB337 := hB330.new hk333 (by omega)
          refine SR.q' (r_as (v := .bool false) rfl) <| SR.nil ?_
          refine W.ret ?_
          refine retCT rfl rfl agg25 (hb335) rfl (v := .bool _) rfl ?_
          exact ⟨eR (eT2 (eA (eC (eI (by first | (rw [parN_shape (by omega)]; done) | (rw [parS_no ‹¬ RowOK _ ∨ _› ‹_ = (splitB 32 s).length› (by omega) (by first | exact .inl ⟨by omega, ‹¬ gt _ 6 = _›, rfl⟩ | exact .inr ⟨‹¬ (_ ∧ ¬ gt _ 6 = _)›, rfl⟩) (by first | exact .inl ⟨by omega, ‹gt _ (_ - 2) = _›, rfl⟩ | exact .inr ⟨‹¬ (_ ∧ gt _ (_ - 2) = _)›, rfl⟩)]; done) | (rw [parS_ok ‹¬ (¬ RowOK _ ∨ _)› ‹_ = (splitB 32 s).length› (by omega) (by first | exact .inl ⟨by omega, ‹¬ gt _ 6 = _›, rfl⟩ | exact .inr ⟨‹¬ (_ ∧ ¬ gt _ 6 = _)›, rfl⟩) (by first | exact .inl ⟨by omega, ‹gt _ (_ - 2) = _›, rfl⟩ | exact .inr ⟨‹¬ (_ ∧ gt _ (_ - 2) = _)›, rfl⟩)]; done))) (eC (eI (by first | (rw [parN_shape (by omega)]; done) | (rw [parS_no ‹¬ RowOK _ ∨ _› ‹_ = (splitB 32 s).length› (by omega) (by first | exact .inl ⟨by omega, ‹¬ gt _ 6 = _›, rfl⟩ | exact .inr ⟨‹¬ (_ ∧ ¬ gt _ 6 = _)›, rfl⟩) (by first | exact .inl ⟨by omega, ‹gt _ (_ - 2) = _›, rfl⟩ | exact .inr ⟨‹¬ (_ ∧ gt _ (_ - 2) = _)›, rfl⟩)]; done) | (rw [parS_ok ‹¬ (¬ RowOK _ ∨ _)› ‹_ = (splitB 32 s).length› (by omega) (by first | exact .inl ⟨by omega, ‹¬ gt _ 6 = _›, rfl⟩ | exact .inr ⟨‹¬ (_ ∧ ¬ gt _ 6 = _)›, rfl⟩) (by first | exact .inl ⟨by omega, ‹gt _ (_ - 2) = _›, rfl⟩ | exact .inr ⟨‹¬ (_ ∧ gt _ (_ - 2) = _)›, rfl⟩)]; done))) (eC (eI (by first | (rw [parN_shape (by omega)]; done) | (rw [parS_no ‹¬ RowOK _ ∨ _› ‹_ = (splitB 32 s).length› (by omega) (by first | exact .inl ⟨by omega, ‹¬ gt _ 6 = _›, rfl⟩ | exact .inr ⟨‹¬ (_ ∧ ¬ gt _ 6 = _)›, rfl⟩) (by first | exact .inl ⟨by omega, ‹gt _ (_ - 2) = _›, rfl⟩ | exact .inr ⟨‹¬ (_ ∧ gt _ (_ - 2) = _)›, rfl⟩)]; done) | (rw [parS_ok ‹¬ (¬ RowOK _ ∨ _)› ‹_ = (splitB 32 s).length› (by omega) (by first | exact .inl ⟨by omega, ‹¬ gt _ 6 = _›, rfl⟩ | exact .inr ⟨‹¬ (_ ∧ ¬ gt _ 6 = _)›, rfl⟩) (by first | exact .inl ⟨by omega, ‹gt _ (_ - 2) = _›, rfl⟩ | exact .inr ⟨‹¬ (_ ∧ gt _ (_ - 2) = _)›, rfl⟩)]; done))) (eC (eI (by first | (rw [parN_shape (by omega)]; done) | (rw [parS_no ‹¬ RowOK _ ∨ _› ‹_ = (splitB 32 s).length› (by omega) (by first | exact .inl ⟨by omega, ‹¬ gt _ 6 = _›, rfl⟩ | exact .inr ⟨‹¬ (_ ∧ ¬ gt _ 6 = _)›, rfl⟩) (by first | exact .inl ⟨by omega, ‹gt _ (_ - 2) = _›, rfl⟩ | exact .inr ⟨‹¬ (_ ∧ gt _ (_ - 2) = _)›, rfl⟩)]; done) | (rw [parS_ok ‹¬ (¬ RowOK _ ∨ _)› ‹_ = (splitB 32 s).length› (by omega) (by first | exact .inl ⟨by omega, ‹¬ gt _ 6 = _›, rfl⟩ | exact .inr ⟨‹¬ (_ ∧ ¬ gt _ 6 = _)›, rfl⟩) (by first | exact .inl ⟨by omega, ‹gt _ (_ - 2) = _›, rfl⟩ | exact .inr ⟨‹¬ (_ ∧ gt _ (_ - 2) = _)›, rfl⟩)]; done))) (eC (eI (by first | (rw [parN_shape (by omega)]; done) | (rw [parS_no ‹¬ RowOK _ ∨ _› ‹_ = (splitB 32 s).length› (by omega) (by first | exact .inl ⟨by omega, ‹¬ gt _ 6 = _›, rfl⟩ | exact .inr ⟨‹¬ (_ ∧ ¬ gt _ 6 = _)›, rfl⟩) (by first | exact .inl ⟨by omega, ‹gt _ (_ - 2) = _›, rfl⟩ | exact .inr ⟨‹¬ (_ ∧ gt _ (_ - 2) = _)›, rfl⟩)]; done) | (rw [parS_ok ‹¬ (¬ RowOK _ ∨ _)› ‹_ = (splitB 32 s).length› (by omega) (by first | exact .inl ⟨by omega, ‹¬ gt _ 6 = _›, rfl⟩ | exact .inr ⟨‹¬ (_ ∧ ¬ gt _ 6 = _)›, rfl⟩) (by first | exact .inl ⟨by omega, ‹gt _ (_ - 2) = _›, rfl⟩ | exact .inr ⟨‹¬ (_ ∧ gt _ (_ - 2) = _)›, rfl⟩)]; done))) rfl)))))) (eB (by first | (rw [parN_shape (by omega)]; done) | (rw [parS_no ‹¬ RowOK _ ∨ _› ‹_ = (splitB 32 s).length› (by omega) (by first | exact .inl ⟨by omega, ‹¬ gt _ 6 = _›, rfl⟩ | exact .inr ⟨‹¬ (_ ∧ ¬ gt _ 6 = _)›, rfl⟩) (by first | exact .inl ⟨by omega, ‹gt _ (_ - 2) = _›, rfl⟩ | exact .inr ⟨‹¬ (_ ∧ gt _ (_ - 2) = _)›, rfl⟩)]; done) | (rw [parS_ok ‹¬ (¬ RowOK _ ∨ _)› ‹_ = (splitB 32 s).length› (by omega) (by first | exact .inl ⟨by omega, ‹¬ gt _ 6 = _›, rfl⟩ | exact .inr ⟨‹¬ (_ ∧ ¬ gt _ 6 = _)›, rfl⟩) (by first | exact .inl ⟨by omega, ‹gt _ (_ - 2) = _›, rfl⟩ | exact .inr ⟨‹¬ (_ ∧ gt _ (_ - 2) = _)›, rfl⟩)]; done)))), hB337⟩
        · have hq338 : RowOK (⟨(readN ((gt (splitB (32 : UInt8) s) 1).take ((((gt (splitB (32 : UInt8) s) 1).length : Int) - 1).toNat))).1, (readN (gt (splitB (32 : UInt8) s) 2)).1, (readN (gt (splitB (32 : UInt8) s) 4)).1, 0, 0⟩ : LibRow) := (Classical.not_not.1 (not_or.1 h331).1)
          have hq339 : (lineT (⟨(readN ((gt (splitB (32 : UInt8) s) 1).take ((((gt (splitB (32 : UInt8) s) 1).length : Int) - 1).toNat))).1, (readN (gt (splitB (32 : UInt8) s) 2)).1, (readN (gt (splitB (32 : UInt8) s) 4)).1, 0, 0⟩ : LibRow)) = s := (Classical.not_not.1 (not_or.1 h331).2)
          refine W.skip ?_
          refine W.seq ?_
          refine W.regS (SR.q' (r_lda (l := [.int .i64 ((readN ((gt (splitB (32 : UInt8) s) 1).take ((((gt (splitB (32 : UInt8) s) 1).length : Int) - 1).toNat))).1), .int .i64 ((readN (gt (splitB (32 : UInt8) s) 2)).1), .int .i64 ((readN (gt (splitB (32 : UInt8) s) 4)).1), .int .i64 0, .int .i64 0]) agg25 rfl (fun _ _ hu => ((((hb136).lo hk146).lo hk264).lo hk328).cell hu) rfl) <| SR.store (o := 0) (vs := [.int .i64 ((readN ((gt (splitB (32 : UInt8) s) 1).take ((((gt (splitB (32 : UInt8) s) 1).length : Int) - 1).toNat))).1), .int .i64 ((readN (gt (splitB (32 : UInt8) s) 2)).1), .int .i64 ((readN (gt (splitB (32 : UInt8) s) 4)).1), .int .i64 0, .int .i64 0]) agg25.2 rfl rfl rfl rfl (((((((((((((hb6).lo hk10).lo hk36).lo hk52).kn hk59 (by omega)).kn hR107 (by omega)).lo hk115).kn hk120 (by omega)).lo hk129).kn hk134 (by omega)).lo hk146).lo hk264).lo hk328) (Nat.le_of_ble_eq_true rfl) rfl ?_)
          intro w340 hk341 hs342 hb343
          have hz344 := hk341.size
          have hB345 := hB330.new hk341 (by omega)
          refine SR.q' (r_as (v := .bool true) rfl) <| SR.nil ?_
          refine W.ret ?_
          refine retCT rfl rfl agg25 (hb343) rfl (v := .bool _) rfl ?_
          exact ⟨eR (eT2 (eA (eC (eI (by first | (rw [parN_shape (by omega)]; done) | (rw [parS_no ‹¬ RowOK _ ∨ _› ‹_ = (splitB 32 s).length› (by omega) (by first | exact .inl ⟨by omega, ‹¬ gt _ 6 = _›, rfl⟩ | exact .inr ⟨‹¬ (_ ∧ ¬ gt _ 6 = _)›, rfl⟩) (by first | exact .inl ⟨by omega, ‹gt _ (_ - 2) = _›, rfl⟩ | exact .inr ⟨‹¬ (_ ∧ gt _ (_ - 2) = _)›, rfl⟩)]; done) | (rw [parS_ok ‹¬ (¬ RowOK _ ∨ _)› ‹_ = (splitB 32 s).length› (by omega) (by first | exact .inl ⟨by omega, ‹¬ gt _ 6 = _›, rfl⟩ | exact .inr ⟨‹¬ (_ ∧ ¬ gt _ 6 = _)›, rfl⟩) (by first | exact .inl ⟨by omega, ‹gt _ (_ - 2) = _›, rfl⟩ | exact .inr ⟨‹¬ (_ ∧ gt _ (_ - 2) = _)›, rfl⟩)]; done))) (eC (eI (by first | (rw [parN_shape (by omega)]; done) | (rw [parS_no ‹¬ RowOK _ ∨ _› ‹_ = (splitB 32 s).length› (by omega) (by first | exact .inl ⟨by omega, ‹¬ gt _ 6 = _›, rfl⟩ | exact .inr ⟨‹¬ (_ ∧ ¬ gt _ 6 = _)›, rfl⟩) (by first | exact .inl ⟨by omega, ‹gt _ (_ - 2) = _›, rfl⟩ | exact .inr ⟨‹¬ (_ ∧ gt _ (_ - 2) = _)›, rfl⟩)]; done) | (rw [parS_ok ‹¬ (¬ RowOK _ ∨ _)› ‹_ = (splitB 32 s).length› (by omega) (by first | exact .inl ⟨by omega, ‹¬ gt _ 6 = _›, rfl⟩ | exact .inr ⟨‹¬ (_ ∧ ¬ gt _ 6 = _)›, rfl⟩) (by first | exact .inl ⟨by omega, ‹gt _ (_ - 2) = _›, rfl⟩ | exact .inr ⟨‹¬ (_ ∧ gt _ (_ - 2) = _)›, rfl⟩)]; done))) (eC (eI (by first | (rw [parN_shape (by omega)]; done) | (rw [parS_no ‹¬ RowOK _ ∨ _› ‹_ = (splitB 32 s).length› (by omega) (by first | exact .inl ⟨by omega, ‹¬ gt _ 6 = _›, rfl⟩ | exact .inr ⟨‹¬ (_ ∧ ¬ gt _ 6 = _)›, rfl⟩) (by first | exact .inl ⟨by omega, ‹gt _ (_ - 2) = _›, rfl⟩ | exact .inr ⟨‹¬ (_ ∧ gt _ (_ - 2) = _)›, rfl⟩)]; done) | (rw [parS_ok ‹¬ (¬ RowOK _ ∨ _)› ‹_ = (splitB 32 s).length› (by omega) (by first | exact .inl ⟨by omega, ‹¬ gt _ 6 = _›, rfl⟩ | exact .inr ⟨‹¬ (_ ∧ ¬ gt _ 6 = _)›, rfl⟩) (by first | exact .inl ⟨by omega, ‹gt _ (_ - 2) = _›, rfl⟩ | exact .inr ⟨‹¬ (_ ∧ gt _ (_ - 2) = _)›, rfl⟩)]; done))) (eC (eI (by first | (rw [parN_shape (by omega)]; done) | (rw [parS_no ‹¬ RowOK _ ∨ _› ‹_ = (splitB 32 s).length› (by omega) (by first | exact .inl ⟨by omega, ‹¬ gt _ 6 = _›, rfl⟩ | exact .inr ⟨‹¬ (_ ∧ ¬ gt _ 6 = _)›, rfl⟩) (by first | exact .inl ⟨by omega, ‹gt _ (_ - 2) = _›, rfl⟩ | exact .inr ⟨‹¬ (_ ∧ gt _ (_ - 2) = _)›, rfl⟩)]; done) | (rw [parS_ok ‹¬ (¬ RowOK _ ∨ _)› ‹_ = (splitB 32 s).length› (by omega) (by first | exact .inl ⟨by omega, ‹¬ gt _ 6 = _›, rfl⟩ | exact .inr ⟨‹¬ (_ ∧ ¬ gt _ 6 = _)›, rfl⟩) (by first | exact .inl ⟨by omega, ‹gt _ (_ - 2) = _›, rfl⟩ | exact .inr ⟨‹¬ (_ ∧ gt _ (_ - 2) = _)›, rfl⟩)]; done))) (eC (eI (by first | (rw [parN_shape (by omega)]; done) | (rw [parS_no ‹¬ RowOK _ ∨ _› ‹_ = (splitB 32 s).length› (by omega) (by first | exact .inl ⟨by omega, ‹¬ gt _ 6 = _›, rfl⟩ | exact .inr ⟨‹¬ (_ ∧ ¬ gt _ 6 = _)›, rfl⟩) (by first | exact .inl ⟨by omega, ‹gt _ (_ - 2) = _›, rfl⟩ | exact .inr ⟨‹¬ (_ ∧ gt _ (_ - 2) = _)›, rfl⟩)]; done) | (rw [parS_ok ‹¬ (¬ RowOK _ ∨ _)› ‹_ = (splitB 32 s).length› (by omega) (by first | exact .inl ⟨by omega, ‹¬ gt _ 6 = _›, rfl⟩ | exact .inr ⟨‹¬ (_ ∧ ¬ gt _ 6 = _)›, rfl⟩) (by first | exact .inl ⟨by omega, ‹gt _ (_ - 2) = _›, rfl⟩ | exact .inr ⟨‹¬ (_ ∧ gt _ (_ - 2) = _)›, rfl⟩)]; done))) rfl)))))) (eB (by first | (rw [parN_shape (by omega)]; done) | (rw [parS_no ‹¬ RowOK _ ∨ _› ‹_ = (splitB 32 s).length› (by omega) (by first | exact .inl ⟨by omega, ‹¬ gt _ 6 = _›, rfl⟩ | exact .inr ⟨‹¬ (_ ∧ ¬ gt _ 6 = _)›, rfl⟩) (by first | exact .inl ⟨by omega, ‹gt _ (_ - 2) = _›, rfl⟩ | exact .inr ⟨‹¬ (_ ∧ gt _ (_ - 2) = _)›, rfl⟩)]; done) | (rw [parS_ok ‹¬ (¬ RowOK _ ∨ _)› ‹_ = (splitB 32 s).length› (by omega) (by first | exact .inl ⟨by omega, ‹¬ gt _ 6 = _›, rfl⟩ | exact .inr ⟨‹¬ (_ ∧ ¬ gt _ 6 = _)›, rfl⟩) (by first | exact .inl ⟨by omega, ‹gt _ (_ - 2) = _›, rfl⟩ | exact .inr ⟨‹¬ (_ ∧ gt _ (_ - 2) = _)›, rfl⟩)]; done)))), hB345⟩

theorem z_c_spec_l31Good_1 (L : List LibRow) (nL : Nat) (hbdL : (nL : Int) ≤ 9223372036854775807) (hleL : nL = L.length) : 0 ≤ nL ∧ RowsTo L 0 := by
  exact ⟨Nat.zero_le _, RowsTo.zero _⟩
theorem z_c_spec_l31Good_16 (L : List LibRow) (nL : Nat) (hbdL : (nL : Int) ≤ 9223372036854775807) (hleL : nL = L.length) (k : Nat) (hi7 : k ≤ nL ∧ RowsTo L k) (h8 : (k : Int) < (nL : Int)) (x9 : LibRow) (hx10 : L[k]? = some x9) (h11 : ¬ (RowOK x9)) : ¬ (RowsOK L) := by
  first | exact (fun hr => rows_bad ‹L[k]? = some _› (by intro hs; unfold RowStep at hs; grind) hr) | exact rows_end (And.right ‹_ ∧ RowsTo L _›) ‹_› ‹_›
theorem z_c_spec_l31Good_26 (L : List LibRow) (nL : Nat) (hbdL : (nL : Int) ≤ 9223372036854775807) (hleL : nL = L.length) (k : Nat) (hi7 : k ≤ nL ∧ RowsTo L k) (h8 : (k : Int) < (nL : Int)) (x9 : LibRow) (hx10 : L[k]? = some x9) (h11 : RowOK x9) (h17 : 0 < (k : Int)) (x18 : LibRow) (hx20 : L[k - 1]? = some x18) (h25 : x9.Month ≤ x18.Month) : ¬ (RowsOK L) := by
  first | exact (fun hr => rows_bad ‹L[k]? = some _› (by intro hs; unfold RowStep at hs; grind) hr) | exact rows_end (And.right ‹_ ∧ RowsTo L _›) ‹_› ‹_›
theorem z_c_spec_l31Good_27 (L : List LibRow) (nL : Nat) (hbdL : (nL : Int) ≤ 9223372036854775807) (hleL : nL = L.length) (k : Nat) (hi7 : k ≤ nL ∧ RowsTo L k) (h8 : (k : Int) < (nL : Int)) (x9 : LibRow) (hx10 : L[k]? = some x9) (h11 : RowOK x9) (h17 : 0 < (k : Int)) (x18 : LibRow) (hx20 : L[k - 1]? = some x18) (h25 : ¬ (x9.Month ≤ x18.Month)) : k + 1 ≤ nL ∧ RowsTo L (k + 1) := by
  refine ⟨by omega, rows_next (And.right ‹_ ∧ RowsTo L _›) ‹L[k]? = some _› ?_⟩; unfold RowStep; grind
theorem z_c_spec_l31Good_28 (L : List LibRow) (nL : Nat) (hbdL : (nL : Int) ≤ 9223372036854775807) (hleL : nL = L.length) (k : Nat) (hi7 : k ≤ nL ∧ RowsTo L k) (h8 : (k : Int) < (nL : Int)) (x9 : LibRow) (hx10 : L[k]? = some x9) (h11 : RowOK x9) (h17 : 0 < (k : Int)) (x18 : LibRow) (hx20 : L[k - 1]? = some x18) (h25 : ¬ (x9.Month ≤ x18.Month)) : nL - (k + 1) < nL - k := by
  omega
theorem z_c_spec_l31Good_33 (L : List LibRow) (nL : Nat) (hbdL : (nL : Int) ≤ 9223372036854775807) (hleL : nL = L.length) (k : Nat) (hi7 : k ≤ nL ∧ RowsTo L k) (h8 : (k : Int) < (nL : Int)) (x9 : LibRow) (hx10 : L[k]? = some x9) (h11 : RowOK x9) (h17 : ¬ (0 < (k : Int))) : k + 1 ≤ nL ∧ RowsTo L (k + 1) := by
  refine ⟨by omega, rows_next (And.right ‹_ ∧ RowsTo L _›) ‹L[k]? = some _› ?_⟩; unfold RowStep; grind
theorem z_c_spec_l31Good_34 (L : List LibRow) (nL : Nat) (hbdL : (nL : Int) ≤ 9223372036854775807) (hleL : nL = L.length) (k : Nat) (hi7 : k ≤ nL ∧ RowsTo L k) (h8 : (k : Int) < (nL : Int)) (x9 : LibRow) (hx10 : L[k]? = some x9) (h11 : RowOK x9) (h17 : ¬ (0 < (k : Int))) : nL - (k + 1) < nL - k := by
  omega
theorem z_c_spec_l31Good_35 (L : List LibRow) (nL : Nat) (hbdL : (nL : Int) ≤ 9223372036854775807) (hleL : nL = L.length) (k : Nat) (hi7 : k ≤ nL ∧ RowsTo L k) (h8 : ¬ ((k : Int) < (nL : Int))) : ((nL : Int) ≤ 12) ↔ (RowsOK L) := by
  first | exact (fun hr => rows_bad ‹L[k]? = some _› (by intro hs; unfold RowStep at hs; grind) hr) | exact rows_end (And.right ‹_ ∧ RowsTo L _›) ‹_› ‹_›
theorem c_spec_l31Good (w : World) {AL : Option Addr} {nL cL BL : Nat}  (L : List LibRow) (hL : SlR w BL encLibRow 5 AL nL cL L) : Calls Tryz.prog 40 #[.slice AL nL cL] w fun e w' => e = .returned (.bool (decide (RowsOK L))) ∧ Lo w w' := by
  refine calls_W 37 Tryz.func40 rfl rfl rfl ?_
  have hbdL := hL.bound
  have hleL := hL.len
  have hBbL := hL.bd
  refine W.seq ?_
  refine W.regS (SR.q' (r_as (v := .bool false) rfl) <| SR.nil ?_)
  refine W.seq ?_
  refine W.seq ?_
  refine W.regS (SR.q' (r_as (v := .int .i64 0) rfl) <| SR.nil ?_)
  refine W.block ?_
  refine W.loop (σ := Nat) (fun g => [(0, .slice AL nL cL), (3, .int .i64 (g : Int))]) (fun g w' => (Lo w w') ∧ (SlR w' BL encLibRow 5 AL nL cL L) ∧ (g ≤ nL ∧ RowsTo L g)) (fun g => nL - g) 0 ?_ ?_ ?_
  · exact ⟨rfl, rfl, trivial⟩
  · exact ⟨(Lo.refl w), hL, (z_c_spec_l31Good_1 L nL hbdL hleL)⟩
  · rintro k f2 w3 hP5
    obtain ⟨hB4, hm6, hi7⟩ : (Lo w w3) ∧ (SlR w3 BL encLibRow 5 AL nL cL L) ∧ (k ≤ nL ∧ RowsTo L k) := hP5
    refine (?_ : W _ _ _ _ _ (act _ (sets f2 [(0, .slice AL nL cL), (3, .int .i64 (k : Int))])) _)
    have hzw3 := hB4.size
    refine W.seq ?_
    refine W.seq ?_
    refine W.regS (SR.q' (r_mv (v := .int .i64 _) rfl) <| SR.q' (r_mv (v := .slice _ _ _) rfl) <| SR.q' (r_len und33 rfl) <| SR.q' (r_lt rfl rfl) <| SR.nil ?_)
    refine W.cond_d rfl (fun h8 => ?_) (fun h8 => ?_)
    · refine W.skip ?_
      refine W.seq ?_
      refine W.block ?_
      refine W.seq ?_
      refine W.regD mo (by kernel_rfl) (QR.q' (fun w' hw' => r_mv (v := .slice _ _ _) rfl) <| QR.q' (fun w' hw' => r_mv (v := .int .i64 _) rfl) <| ?_)
      obtain ⟨x9, hx10⟩ := (hm6).get (i := k) (by omega)
      refine QR.q' (fun w' hw' => r_ixR tsl33 (((hm6).lo hw')) rfl rfl (by omega)) <| QR.q' (fun w' hw' => r_lda (l := encLibRow x9) agg25 rfl (fun _ _ hu => (((hm6).lo hw')).cell hx10 hu) ((((hm6).lo hw')).esz _)) <| QR.call ent24 (fun w' hw' => (c_spec_l31One w' x9).mono fun _ _ h => ⟨h.1, hw'.trans h.2⟩) rfl <| QR.q' (fun w' hw' => r_not rfl) <| QR.q' (fun w' hw' => r_mv (v := .bool _) rfl) <| QR.splitN (fun h11 => ?_) (fun h11 => ?_)
      · refine QR.s' rfl <| QR.s' rfl <| QR.s' rfl <| QR.u' rfl <| QR.u' rfl <| QR.u' rfl <| QR.u' rfl <| QR.u' rfl <| QR.u' rfl <| QR.u' rfl <| QR.u' rfl <| QR.u' rfl <| QR.u' rfl <| QR.u' rfl <| QR.u' rfl <| QR.s' rfl <| QR.q' (fun w' hw' => r_pick true rfl (v := .bool true) rfl) <| QR.nil ?_
        intro w12 hk13
        have hz14 := hk13.size
        have hB15 := hB4.lo hk13
        refine W.cond_t rfl ?_
        refine W.seq ?_
        refine W.regS (SR.q' (r_as (v := .bool false) rfl) <| SR.nil ?_)
        refine W.ret ?_
        refine ret1 rfl (v := .bool _) rfl ?_
        exact ⟨eR (eDF (z_c_spec_l31Good_16 L nL hbdL hleL k hi7 h8 x9 hx10 h11)), hB15⟩
      · refine QR.g' rfl (fun w' hw' => r_mv (v := .int .i64 _) rfl) <| QR.g' rfl (fun w' hw' => r_gt rfl rfl) <| QR.g' rfl (fun w' hw' => r_mv (v := .bool _) rfl) <| QR.splitD (fun h17 => ?_) (fun h17 => ?_)
        · refine QR.g' rfl (fun w' hw' => r_mv (v := .slice _ _ _) rfl) <| QR.g' rfl (fun w' hw' => r_mv (v := .int .i64 _) rfl) <| QR.g' rfl (fun w' hw' => r_sub rfl rfl (by omega)) <| ?_
          obtain ⟨x18, hx19⟩ := (hm6).get (i := ((k : Int) - 1).toNat) (by omega)
          have hx20 : L[k - 1]? = some x18 := (show ((k : Int) - 1).toNat = k - 1 from by omega) ▸ hx19
          refine QR.g' rfl (fun w' hw' => r_ixR tsl33 (((hm6).lo hw')) rfl rfl (by omega)) <| QR.g' rfl (fun w' hw' => r_fa fa25_0 rfl) <| QR.g' rfl (fun w' hw' => r_ld (v := .int .i64 x18.Month) sca3 rfl ((((hm6).lo hw')).cell hx19 rfl)) <| QR.g' rfl (fun w' hw' => r_mv (v := .slice _ _ _) rfl) <| QR.g' rfl (fun w' hw' => r_mv (v := .int .i64 _) rfl) <| QR.g' rfl (fun w' hw' => r_ixR tsl33 (((hm6).lo hw')) rfl rfl (by omega)) <| QR.g' rfl (fun w' hw' => r_fa fa25_0 rfl) <| QR.g' rfl (fun w' hw' => r_ld (v := .int .i64 x9.Month) sca3 rfl ((((hm6).lo hw')).cell hx10 rfl)) <| QR.g' rfl (fun w' hw' => r_ge rfl rfl) <| QR.g' rfl (fun w' hw' => r_pick true rfl (v := .bool _) rfl) <| QR.q' (fun w' hw' => r_pick false rfl (v := .bool _) rfl) <| QR.nil ?_
          intro w21 hk22
          have hz23 := hk22.size
          have hB24 := hB4.lo hk22
          refine W.cond_d rfl (fun h25 => ?_) (fun h25 => ?_)
          · refine W.seq ?_
            refine W.regS (SR.q' (r_as (v := .bool false) rfl) <| SR.nil ?_)
            refine W.ret ?_
            refine ret1 rfl (v := .bool _) rfl ?_
            exact ⟨eR (eDF (z_c_spec_l31Good_26 L nL hbdL hleL k hi7 h8 x9 hx10 h11 h17 x18 hx20 h25)), hB24⟩
          · refine W.skip ?_
            refine W.regS (SR.q' (r_mv (v := .int .i64 _) rfl) <| SR.q' (r_add rfl rfl (by omega)) <| SR.q' (r_as (v := .int .i64 _) rfl) <| SR.nil ?_)
            refine ⟨k + 1, _, rfl, ⟨rfl, rfl, trivial⟩, ⟨hB24, (hm6).lo hk22, ?_⟩, ?_⟩
            · exact (z_c_spec_l31Good_27 L nL hbdL hleL k hi7 h8 x9 hx10 h11 h17 x18 hx20 h25)
            · exact (z_c_spec_l31Good_28 L nL hbdL hleL k hi7 h8 x9 hx10 h11 h17 x18 hx20 h25)
        · refine QR.s' rfl <| QR.s' rfl <| QR.s' rfl <| QR.s' rfl <| QR.s' rfl <| QR.s' rfl <| QR.s' rfl <| QR.s' rfl <| QR.s' rfl <| QR.s' rfl <| QR.s' rfl <| QR.s' rfl <| QR.g' rfl (fun w' hw' => r_pick false rfl (v := .bool false) rfl) <| QR.q' (fun w' hw' => r_pick false rfl (v := .bool _) rfl) <| QR.nil ?_
          intro w29 hk30
          have hz31 := hk30.size
          have hB32 := hB4.lo hk30
          refine W.cond_f rfl ?_
          refine W.skip ?_
          refine W.regS (SR.q' (r_mv (v := .int .i64 _) rfl) <| SR.q' (r_add rfl rfl (by omega)) <| SR.q' (r_as (v := .int .i64 _) rfl) <| SR.nil ?_)
          refine ⟨k + 1, _, rfl, ⟨rfl, rfl, trivial⟩, ⟨hB32, (hm6).lo hk30, ?_⟩, ?_⟩
          · exact (z_c_spec_l31Good_33 L nL hbdL hleL k hi7 h8 x9 hx10 h11 h17)
          · exact (z_c_spec_l31Good_34 L nL hbdL hleL k hi7 h8 x9 hx10 h11 h17)
    · refine W.exit (xin_here ?_)
      refine W.seq ?_
      refine W.regS (SR.q' (r_mv (v := .slice _ _ _) rfl) <| SR.q' (r_len und33 rfl) <| SR.q' (r_le rfl rfl) <| SR.q' (r_as (v := .bool _) rfl) <| SR.nil ?_)
      refine W.ret ?_
      refine ret1 rfl (v := .bool _) rfl ?_
      exact ⟨eR (eDD (z_c_spec_l31Good_35 L nL hbdL hleL k hi7 h8)), hB4⟩

theorem z_c_impl_AreLibRows_1 (L : List LibRow) (nL : Nat) (hbdL : (nL : Int) ≤ 9223372036854775807) (hleL : nL = L.length) : 0 ≤ nL ∧ RowsTo L 0 := by
  exact ⟨Nat.zero_le _, RowsTo.zero _⟩
theorem z_c_impl_AreLibRows_30 (L : List LibRow) (nL : Nat) (hbdL : (nL : Int) ≤ 9223372036854775807) (hleL : nL = L.length) (k : Nat) (hi7 : k ≤ nL ∧ RowsTo L k) (h8 : (k : Int) < (nL : Int)) (x9 : LibRow) (hx10 : L[k]? = some x9) (h25 : ¬ (RowOK x9)) : ¬ (RowsOK L) := by
  first | exact (fun hr => rows_bad ‹L[k]? = some _› (by intro hs; unfold RowStep at hs; grind) hr) | exact rows_end (And.right ‹_ ∧ RowsTo L _›) ‹_› ‹_›
theorem z_c_impl_AreLibRows_40 (L : List LibRow) (nL : Nat) (hbdL : (nL : Int) ≤ 9223372036854775807) (hleL : nL = L.length) (k : Nat) (hi7 : k ≤ nL ∧ RowsTo L k) (h8 : (k : Int) < (nL : Int)) (x9 : LibRow) (hx10 : L[k]? = some x9) (h25 : RowOK x9) (h31 : 0 < (k : Int)) (x32 : LibRow) (hx34 : L[k - 1]? = some x32) (h39 : x9.Month ≤ x32.Month) : ¬ (RowsOK L) := by
  first | exact (fun hr => rows_bad ‹L[k]? = some _› (by intro hs; unfold RowStep at hs; grind) hr) | exact rows_end (And.right ‹_ ∧ RowsTo L _›) ‹_› ‹_›
theorem z_c_impl_AreLibRows_41 (L : List LibRow) (nL : Nat) (hbdL : (nL : Int) ≤ 9223372036854775807) (hleL : nL = L.length) (k : Nat) (hi7 : k ≤ nL ∧ RowsTo L k) (h8 : (k : Int) < (nL : Int)) (x9 : LibRow) (hx10 : L[k]? = some x9) (h25 : RowOK x9) (h31 : 0 < (k : Int)) (x32 : LibRow) (hx34 : L[k - 1]? = some x32) (h39 : ¬ (x9.Month ≤ x32.Month)) : k + 1 ≤ nL ∧ RowsTo L (k + 1) := by
  refine ⟨by omega, rows_next (And.right ‹_ ∧ RowsTo L _›) ‹L[k]? = some _› ?_⟩; unfold RowStep; grind
theorem z_c_impl_AreLibRows_42 (L : List LibRow) (nL : Nat) (hbdL : (nL : Int) ≤ 9223372036854775807) (hleL : nL = L.length) (k : Nat) (hi7 : k ≤ nL ∧ RowsTo L k) (h8 : (k : Int) < (nL : Int)) (x9 : LibRow) (hx10 : L[k]? = some x9) (h25 : RowOK x9) (h31 : 0 < (k : Int)) (x32 : LibRow) (hx34 : L[k - 1]? = some x32) (h39 : ¬ (x9.Month ≤ x32.Month)) : nL - (k + 1) < nL - k := by
  omega
theorem z_c_impl_AreLibRows_47 (L : List LibRow) (nL : Nat) (hbdL : (nL : Int) ≤ 9223372036854775807) (hleL : nL = L.length) (k : Nat) (hi7 : k ≤ nL ∧ RowsTo L k) (h8 : (k : Int) < (nL : Int)) (x9 : LibRow) (hx10 : L[k]? = some x9) (h25 : RowOK x9) (h31 : ¬ (0 < (k : Int))) : k + 1 ≤ nL ∧ RowsTo L (k + 1) := by
  refine ⟨by omega, rows_next (And.right ‹_ ∧ RowsTo L _›) ‹L[k]? = some _› ?_⟩; unfold RowStep; grind
theorem z_c_impl_AreLibRows_48 (L : List LibRow) (nL : Nat) (hbdL : (nL : Int) ≤ 9223372036854775807) (hleL : nL = L.length) (k : Nat) (hi7 : k ≤ nL ∧ RowsTo L k) (h8 : (k : Int) < (nL : Int)) (x9 : LibRow) (hx10 : L[k]? = some x9) (h25 : RowOK x9) (h31 : ¬ (0 < (k : Int))) : nL - (k + 1) < nL - k := by
  omega
theorem z_c_impl_AreLibRows_49 (L : List LibRow) (nL : Nat) (hbdL : (nL : Int) ≤ 9223372036854775807) (hleL : nL = L.length) (k : Nat) (hi7 : k ≤ nL ∧ RowsTo L k) (h8 : ¬ ((k : Int) < (nL : Int))) : ((nL : Int) ≤ 12) ↔ (RowsOK L) := by
  first | exact (fun hr => rows_bad ‹L[k]? = some _› (by intro hs; unfold RowStep at hs; grind) hr) | exact rows_end (And.right ‹_ ∧ RowsTo L _›) ‹_› ‹_›
theorem c_impl_AreLibRows (w : World) {AL : Option Addr} {nL cL BL : Nat}  (L : List LibRow) (hL : SlR w BL encLibRow 5 AL nL cL L) : Calls Tryz.prog 20 #[.slice AL nL cL] w fun e w' => e = .returned (.bool (decide (RowsOK L))) ∧ Lo w w' := by
  refine calls_W 34 Tryz.func20 rfl rfl rfl ?_
  have hbdL := hL.bound
  have hleL := hL.len
  have hBbL := hL.bd
  refine W.seq ?_
  refine W.regS (SR.q' (r_as (v := .bool false) rfl) <| SR.nil ?_)
  refine W.seq ?_
  refine W.seq ?_
  refine W.regS (SR.q' (r_mv (v := .slice _ _ _) rfl) <| SR.q' (r_len und33 rfl) <| SR.q' (r_mv (v := .int .i64 0) rfl) <| SR.nil ?_)
  refine W.block ?_
  refine W.loop (σ := Nat) (fun g => [(0, .slice AL nL cL), (5, .slice AL nL cL), (6, .int .i64 (nL : Int)), (7, .int .i64 (g : Int))]) (fun g w' => (Lo w w') ∧ (SlR w' BL encLibRow 5 AL nL cL L) ∧ (g ≤ nL ∧ RowsTo L g)) (fun g => nL - g) 0 ?_ ?_ ?_
  · exact ⟨rfl, rfl, rfl, rfl, trivial⟩
  · exact ⟨(Lo.refl w), hL, (z_c_impl_AreLibRows_1 L nL hbdL hleL)⟩
  · rintro k f2 w3 hP5
    obtain ⟨hB4, hm6, hi7⟩ : (Lo w w3) ∧ (SlR w3 BL encLibRow 5 AL nL cL L) ∧ (k ≤ nL ∧ RowsTo L k) := hP5
    refine (?_ : W _ _ _ _ _ (act _ (sets f2 [(0, .slice AL nL cL), (5, .slice AL nL cL), (6, .int .i64 (nL : Int)), (7, .int .i64 (k : Int))])) _)
    have hzw3 := hB4.size
    refine W.seq ?_
    refine W.regS (SR.q' (r_lt rfl rfl) <| SR.nil ?_)
    refine W.seq ?_
    refine W.cond_d rfl (fun h8 => ?_) (fun h8 => ?_)
    · refine W.skip ?_
      refine W.seq ?_
      refine W.block ?_
      refine W.seq ?_
      refine W.regS (SR.q' (r_mv (v := .int .i64 _) rfl) <| ?_)
      obtain ⟨x9, hx10⟩ := (hm6).get (i := k) (by omega)
      refine SR.q' (r_ixR tsl33 (hm6) rfl rfl (by omega)) <| SR.q' (r_lda (l := encLibRow x9) agg25 rfl (fun _ _ hu => (hm6).cell hx10 hu) ((hm6).esz _)) <| SR.alloc (l := [.int .i64 0, .int .i64 0, .int .i64 0, .int .i64 0, .int .i64 0]) tz25 rfl ?_
      intro g11 w12 hg13 hk14 hs15 hb16
      have hz17 := hk14.size
      have hB18 := hB4.lo hk14
      refine SR.q' (r_as (v := .int .i64 _) rfl) <| SR.store (o := 0) (vs := [.int .i64 x9.Month, .int .i64 x9.Lent, .int .i64 x9.Copied, .int .i64 x9.Given, .int .i64 x9.Fines]) agg25.2 rfl rfl rfl rfl (hb16) (Nat.le_of_ble_eq_true rfl) rfl ?_
      intro w19 hk20 hs21 hb22
      have hz23 := hk20.size
      have hB24 := hB18.new hk20 (by omega)
      refine SR.nil ?_
      refine W.seq ?_
      refine W.regD mo (by kernel_rfl) (QR.q' (fun w' hw' => r_lda (l := [.int .i64 x9.Month, .int .i64 x9.Lent, .int .i64 x9.Copied, .int .i64 x9.Given, .int .i64 x9.Fines]) agg25 rfl (fun _ _ hu => ((hb22).lo hw').cell hu) rfl) <| QR.call ent8 (fun w' hw' => (c_impl_IsLibRow w' x9).mono fun _ _ h => ⟨h.1, hw'.trans h.2⟩) rfl <| QR.q' (fun w' hw' => r_not rfl) <| QR.q' (fun w' hw' => r_mv (v := .bool _) rfl) <| QR.splitN (fun h25 => ?_) (fun h25 => ?_))
      · refine QR.s' rfl <| QR.s' rfl <| QR.s' rfl <| QR.u' rfl <| QR.u' rfl <| QR.u' rfl <| QR.u' rfl <| QR.u' rfl <| QR.u' rfl <| QR.u' rfl <| QR.u' rfl <| QR.u' rfl <| QR.s' rfl <| QR.q' (fun w' hw' => r_pick true rfl (v := .bool true) rfl) <| QR.nil ?_
        intro w26 hk27
        have hz28 := hk27.size
        have hB29 := hB24.lo hk27
        refine W.cond_t rfl ?_
        refine W.seq ?_
        refine W.regS (SR.q' (r_as (v := .bool false) rfl) <| SR.nil ?_)
        refine W.ret ?_
        refine ret1 rfl (v := .bool _) rfl ?_
        exact ⟨eR (eDF (z_c_impl_AreLibRows_30 L nL hbdL hleL k hi7 h8 x9 hx10 h25)), hB29⟩
      · refine QR.g' rfl (fun w' hw' => r_mv (v := .int .i64 _) rfl) <| QR.g' rfl (fun w' hw' => r_gt rfl rfl) <| QR.g' rfl (fun w' hw' => r_mv (v := .bool _) rfl) <| QR.splitD (fun h31 => ?_) (fun h31 => ?_)
        · refine QR.g' rfl (fun w' hw' => r_fa fa25_0 rfl) <| QR.g' rfl (fun w' hw' => r_ld (v := .int .i64 x9.Month) sca3 rfl (((hb22).lo hw').cell rfl)) <| QR.g' rfl (fun w' hw' => r_mv (v := .slice _ _ _) rfl) <| QR.g' rfl (fun w' hw' => r_mv (v := .int .i64 _) rfl) <| QR.g' rfl (fun w' hw' => r_sub rfl rfl (by omega)) <| ?_
          obtain ⟨x32, hx33⟩ := (((hm6).lo hk14).kn hk20 (by omega)).get (i := ((k : Int) - 1).toNat) (by omega)
          have hx34 : L[k - 1]? = some x32 := (show ((k : Int) - 1).toNat = k - 1 from by omega) ▸ hx33
          refine QR.g' rfl (fun w' hw' => r_ixR tsl33 (((((hm6).lo hk14).kn hk20 (by omega)).lo hw')) rfl rfl (by omega)) <| QR.g' rfl (fun w' hw' => r_fa fa25_0 rfl) <| QR.g' rfl (fun w' hw' => r_ld (v := .int .i64 x32.Month) sca3 rfl ((((((hm6).lo hk14).kn hk20 (by omega)).lo hw')).cell hx33 rfl)) <| QR.g' rfl (fun w' hw' => r_le rfl rfl) <| QR.g' rfl (fun w' hw' => r_pick true rfl (v := .bool _) rfl) <| QR.q' (fun w' hw' => r_pick false rfl (v := .bool _) rfl) <| QR.nil ?_
          intro w35 hk36
          have hz37 := hk36.size
          have hB38 := hB24.lo hk36
          refine W.cond_d rfl (fun h39 => ?_) (fun h39 => ?_)
          · refine W.seq ?_
            refine W.regS (SR.q' (r_as (v := .bool false) rfl) <| SR.nil ?_)
            refine W.ret ?_
            refine ret1 rfl (v := .bool _) rfl ?_
            exact ⟨eR (eDF (z_c_impl_AreLibRows_40 L nL hbdL hleL k hi7 h8 x9 hx10 h25 h31 x32 hx34 h39)), hB38⟩
          · refine W.skip ?_
            refine W.regS (SR.q' (r_add rfl rfl (by omega)) <| SR.q' (r_mv (v := .int .i64 _) rfl) <| SR.nil ?_)
            refine ⟨k + 1, _, rfl, ⟨rfl, rfl, rfl, rfl, trivial⟩, ⟨hB38, (((hm6).lo hk14).kn hk20 (by omega)).lo hk36, ?_⟩, ?_⟩
            · exact (z_c_impl_AreLibRows_41 L nL hbdL hleL k hi7 h8 x9 hx10 h25 h31 x32 hx34 h39)
            · exact (z_c_impl_AreLibRows_42 L nL hbdL hleL k hi7 h8 x9 hx10 h25 h31 x32 hx34 h39)
        · refine QR.s' rfl <| QR.s' rfl <| QR.s' rfl <| QR.s' rfl <| QR.s' rfl <| QR.s' rfl <| QR.s' rfl <| QR.s' rfl <| QR.s' rfl <| QR.g' rfl (fun w' hw' => r_pick false rfl (v := .bool false) rfl) <| QR.q' (fun w' hw' => r_pick false rfl (v := .bool _) rfl) <| QR.nil ?_
          intro w43 hk44
          have hz45 := hk44.size
          have hB46 := hB24.lo hk44
          refine W.cond_f rfl ?_
          refine W.skip ?_
          refine W.regS (SR.q' (r_add rfl rfl (by omega)) <| SR.q' (r_mv (v := .int .i64 _) rfl) <| SR.nil ?_)
          refine ⟨k + 1, _, rfl, ⟨rfl, rfl, rfl, rfl, trivial⟩, ⟨hB46, (((hm6).lo hk14).kn hk20 (by omega)).lo hk44, ?_⟩, ?_⟩
          · exact (z_c_impl_AreLibRows_47 L nL hbdL hleL k hi7 h8 x9 hx10 h25 h31)
          · exact (z_c_impl_AreLibRows_48 L nL hbdL hleL k hi7 h8 x9 hx10 h25 h31)
    · refine W.exit (xin_here ?_)
      refine W.seq ?_
      refine W.regS (SR.q' (r_mv (v := .slice _ _ _) rfl) <| SR.q' (r_len und33 rfl) <| SR.q' (r_le rfl rfl) <| SR.q' (r_as (v := .bool _) rfl) <| SR.nil ?_)
      refine W.ret ?_
      refine ret1 rfl (v := .bool _) rfl ?_
      exact ⟨eR (eDD (z_c_impl_AreLibRows_49 L nL hbdL hleL k hi7 h8)), hB4⟩

theorem z_c_spec_LibTotals_13 (L : List LibRow) (nL : Nat) (hbdL : (nL : Int) ≤ 9223372036854775807) (hleL : nL = L.length) (h5 : ¬ (RowsOK L)) : ([] : List Int) = totL L := by
  simp_all [totL]
theorem z_c_spec_LibTotals_16 (L : List LibRow) (nL : Nat) (hbdL : (nL : Int) ≤ 9223372036854775807) (hleL : nL = L.length) (h5 : RowsOK L) (hq14 : L.length ≤ 12) (hq15 : (totL L).length = 4) : 0 ≤ nL ∧ totN (L.take 0) = [(0 : Int), (0 : Int), (0 : Int), (0 : Int)] ∧ (0 ≤ (0 : Int) ∧ (0 : Int) ≤ 99999 * (0 : Int)) ∧ (0 ≤ (0 : Int) ∧ (0 : Int) ≤ 99999 * (0 : Int)) ∧ (0 ≤ (0 : Int) ∧ (0 : Int) ≤ 99999 * (0 : Int)) ∧ (0 ≤ (0 : Int) ∧ (0 : Int) ≤ 99999 * (0 : Int)) := by
  simp [totN]
theorem z_c_spec_LibTotals_27 (L : List LibRow) (nL : Nat) (hbdL : (nL : Int) ≤ 9223372036854775807) (hleL : nL = L.length) (h5 : RowsOK L) (hq14 : L.length ≤ 12) (hq15 : (totL L).length = 4) (k : Nat) (a : Int) (b : Int) (c : Int) (d : Int) (hi22 : k ≤ nL ∧ totN (L.take k) = [a, b, c, d] ∧ (0 ≤ a ∧ a ≤ 99999 * (k : Int)) ∧ (0 ≤ b ∧ b ≤ 99999 * (k : Int)) ∧ (0 ≤ c ∧ c ≤ 99999 * (k : Int)) ∧ (0 ≤ d ∧ d ≤ 99999 * (k : Int))) (h23 : (k : Int) < (nL : Int)) (x24 : LibRow) (hx25 : L[k]? = some x24) (hq26 : ((1 : Int) ≤ x24.Month ∧ x24.Month ≤ 1200) ∧ ((0 : Int) ≤ x24.Lent ∧ x24.Lent ≤ 9999) ∧ ((0 : Int) ≤ x24.Copied ∧ x24.Copied ≤ 9999) ∧ ((0 : Int) ≤ x24.Given ∧ x24.Given ≤ 999) ∧ ((0 : Int) ≤ x24.Fines ∧ x24.Fines ≤ 99999)) : k + 1 ≤ nL ∧ totN (L.take (k + 1)) = [a + x24.Lent, b + x24.Copied, c + x24.Given, d + x24.Fines] ∧ (0 ≤ a + x24.Lent ∧ a + x24.Lent ≤ 99999 * (k + 1 : Int)) ∧ (0 ≤ b + x24.Copied ∧ b + x24.Copied ≤ 99999 * (k + 1 : Int)) ∧ (0 ≤ c + x24.Given ∧ c + x24.Given ≤ 99999 * (k + 1 : Int)) ∧ (0 ≤ d + x24.Fines ∧ d + x24.Fines ≤ 99999 * (k + 1 : Int)) := by
  obtain ⟨h1, h2, h3⟩ := ‹_ ∧ totN _ = _ ∧ _›; exact ⟨by omega, tot_next h2 ‹L[_]? = some _›, by omega, by omega, by omega, by omega⟩
theorem z_c_spec_LibTotals_28 (L : List LibRow) (nL : Nat) (hbdL : (nL : Int) ≤ 9223372036854775807) (hleL : nL = L.length) (h5 : RowsOK L) (hq14 : L.length ≤ 12) (hq15 : (totL L).length = 4) (k : Nat) (a : Int) (b : Int) (c : Int) (d : Int) (hi22 : k ≤ nL ∧ totN (L.take k) = [a, b, c, d] ∧ (0 ≤ a ∧ a ≤ 99999 * (k : Int)) ∧ (0 ≤ b ∧ b ≤ 99999 * (k : Int)) ∧ (0 ≤ c ∧ c ≤ 99999 * (k : Int)) ∧ (0 ≤ d ∧ d ≤ 99999 * (k : Int))) (h23 : (k : Int) < (nL : Int)) (x24 : LibRow) (hx25 : L[k]? = some x24) (hq26 : ((1 : Int) ≤ x24.Month ∧ x24.Month ≤ 1200) ∧ ((0 : Int) ≤ x24.Lent ∧ x24.Lent ≤ 9999) ∧ ((0 : Int) ≤ x24.Copied ∧ x24.Copied ≤ 9999) ∧ ((0 : Int) ≤ x24.Given ∧ x24.Given ≤ 999) ∧ ((0 : Int) ≤ x24.Fines ∧ x24.Fines ≤ 99999)) : nL - (k + 1) < nL - k := by
  omega
theorem z_c_spec_LibTotals_36 (L : List LibRow) (nL : Nat) (hbdL : (nL : Int) ≤ 9223372036854775807) (hleL : nL = L.length) (h5 : RowsOK L) (hq14 : L.length ≤ 12) (hq15 : (totL L).length = 4) (k : Nat) (a : Int) (b : Int) (c : Int) (d : Int) (hi22 : k ≤ nL ∧ totN (L.take k) = [a, b, c, d] ∧ (0 ≤ a ∧ a ≤ 99999 * (k : Int)) ∧ (0 ≤ b ∧ b ≤ 99999 * (k : Int)) ∧ (0 ≤ c ∧ c ≤ 99999 * (k : Int)) ∧ (0 ≤ d ∧ d ≤ 99999 * (k : Int))) (h23 : ¬ ((k : Int) < (nL : Int))) : ([a, b, c, d] : List Int) = totL L := by
  obtain ⟨h1, h2, h3⟩ := ‹_ ∧ totN _ = _ ∧ _›; first | (rw [totL, if_pos ‹RowsOK L›, ← h2, take_all hleL ‹_›]; done) | (rw [← h2, take_all hleL ‹_›]; done)
theorem c_spec_LibTotals (w : World) {AL : Option Addr} {nL cL BL : Nat}  (L : List LibRow) (hL : SlR w BL encLibRow 5 AL nL cL L) : Calls Tryz.prog 44 #[.slice AL nL cL] w fun e w' => ∃ (A1' : Option Addr) (n1' c1' : Nat), e = .returned (.tuple (List.toArray [.slice A1' n1' c1', .bool (decide (RowsOK L))])) ∧ SlO w' w.heap.size encI 1 3 A1' n1' c1' (totL L) ∧ Lo w w' := by
  refine calls_W 52 Tryz.func44 rfl rfl rfl ?_
  have hbdL := hL.bound
  have hleL := hL.len
  have hBbL := hL.bd
  refine W.seq ?_
  refine W.regS (SR.q' (r_as (v := .slice none 0 0) rfl) <| SR.q' (r_as (v := .bool false) rfl) <| SR.nil ?_)
  refine W.seq ?_
  refine W.seq ?_
  refine W.regS (SR.q' (r_mv (v := .slice _ _ _) rfl) <| SR.call ent40 (c_spec_l31Good w L ((hL))) rfl ?_)
  rintro e w1 ⟨rfl, hk2⟩
  refine ⟨_, rfl, ?_⟩
  have hz3 := hk2.size
  have hB4 := (Lo.refl w).lo hk2
  refine SR.q' (r_not rfl) <| SR.nil ?_
  refine W.cond_n rfl (fun h5 => ?_) (fun h5 => ?_)
  · refine W.seq ?_
    refine W.regS (SR.lit (vs := []) (L := ([] : List Int)) (enc := encI) tel39 (fun _ => rfl) rfl rfl rfl (by decide) ?_)
    intro g6 w7 hg8 hk9 hO10
    have hz11 := hk9.size
    have hB12 := hB4.lo hk9
    refine SR.q' (r_as (v := .slice _ _ _) rfl) <| SR.q' (r_as (v := .bool false) rfl) <| SR.nil ?_
    refine W.ret ?_
    refine ret2 rfl (v := .slice _ _ _) (v' := .bool _) rfl rfl ?_
    exact ⟨(some (⟨g6, 0, none⟩ : Addr)), 0, 0, eR (eT2 rfl (eDF h5)), (SlO.eqv ((hO10).down (by omega)) (z_c_spec_LibTotals_13 L nL hbdL hleL h5)), hB12⟩
  · have hq14 := rows_len h5
    have hq15 := totL_len4 _ h5
    refine W.skip ?_
    refine W.seq ?_
    refine W.regS (SR.q' (r_as (v := .int .i64 0) rfl) <| SR.q' (r_as (v := .int .i64 0) rfl) <| SR.q' (r_as (v := .int .i64 0) rfl) <| SR.q' (r_as (v := .int .i64 0) rfl) <| SR.nil ?_)
    refine W.seq ?_
    refine W.seq ?_
    refine W.regS (SR.q' (r_as (v := .int .i64 0) rfl) <| SR.nil ?_)
    refine W.block ?_
    refine W.loop (σ := Nat × Int × Int × Int × Int) (fun g => [(0, .slice AL nL cL), (2, .slice none 0 0), (3, .bool false), (4, .int .i64 g.2.1), (5, .int .i64 g.2.2.1), (6, .int .i64 g.2.2.2.1), (7, .int .i64 g.2.2.2.2), (8, .int .i64 (g.1 : Int))]) (fun g w' => (Lo w w') ∧ (SlR w' BL encLibRow 5 AL nL cL L) ∧ (g.1 ≤ nL ∧ totN (L.take g.1) = [g.2.1, g.2.2.1, g.2.2.2.1, g.2.2.2.2] ∧ (0 ≤ g.2.1 ∧ g.2.1 ≤ 99999 * (g.1 : Int)) ∧ (0 ≤ g.2.2.1 ∧ g.2.2.1 ≤ 99999 * (g.1 : Int)) ∧ (0 ≤ g.2.2.2.1 ∧ g.2.2.2.1 ≤ 99999 * (g.1 : Int)) ∧ (0 ≤ g.2.2.2.2 ∧ g.2.2.2.2 ≤ 99999 * (g.1 : Int)))) (fun g => nL - g.1) (0, (0 : Int), (0 : Int), (0 : Int), (0 : Int)) ?_ ?_ ?_
    · exact ⟨rfl, rfl, rfl, rfl, rfl, rfl, rfl, rfl, trivial⟩
    · exact ⟨hB4, (hL).lo hk2, (z_c_spec_LibTotals_16 L nL hbdL hleL h5 hq14 hq15)⟩
    · rintro ⟨k, a, b, c, d⟩ f17 w18 hP20
      obtain ⟨hB19, hm21, hi22⟩ : (Lo w w18) ∧ (SlR w18 BL encLibRow 5 AL nL cL L) ∧ (k ≤ nL ∧ totN (L.take k) = [a, b, c, d] ∧ (0 ≤ a ∧ a ≤ 99999 * (k : Int)) ∧ (0 ≤ b ∧ b ≤ 99999 * (k : Int)) ∧ (0 ≤ c ∧ c ≤ 99999 * (k : Int)) ∧ (0 ≤ d ∧ d ≤ 99999 * (k : Int))) := hP20
      refine (?_ : W _ _ _ _ _ (act _ (sets f17 [(0, .slice AL nL cL), (2, .slice none 0 0), (3, .bool false), (4, .int .i64 a), (5, .int .i64 b), (6, .int .i64 c), (7, .int .i64 d), (8, .int .i64 (k : Int))])) _)
      have hzw18 := hB19.size
      refine W.seq ?_
      refine W.seq ?_
      refine W.regS (SR.q' (r_mv (v := .int .i64 _) rfl) <| SR.q' (r_mv (v := .slice _ _ _) rfl) <| SR.q' (r_len und33 rfl) <| SR.q' (r_lt rfl rfl) <| SR.nil ?_)
      refine W.cond_d rfl (fun h23 => ?_) (fun h23 => ?_)
      · refine W.skip ?_
        refine W.seq ?_
        refine W.block ?_
        refine W.seq ?_
        refine W.regS (SR.q' (r_mv (v := .int .i64 _) rfl) <| SR.q' (r_mv (v := .slice _ _ _) rfl) <| SR.q' (r_mv (v := .int .i64 _) rfl) <| ?_)
        obtain ⟨x24, hx25⟩ := (hm21).get (i := k) (by omega)
        have hq26 := rows_rng h5 hx25
        refine SR.q' (r_ixR tsl33 (hm21) rfl rfl (by omega)) <| SR.q' (r_fa fa25_1 rfl) <| SR.q' (r_ld (v := .int .i64 x24.Lent) sca3 rfl ((hm21).cell hx25 rfl)) <| SR.q' (r_add rfl rfl (by omega)) <| SR.q' (r_as (v := .int .i64 _) rfl) <| SR.nil ?_
        refine W.seq ?_
        refine W.regS (SR.q' (r_mv (v := .int .i64 _) rfl) <| SR.q' (r_mv (v := .slice _ _ _) rfl) <| SR.q' (r_mv (v := .int .i64 _) rfl) <| SR.q' (r_ixR tsl33 (hm21) rfl rfl (by omega)) <| SR.q' (r_fa fa25_2 rfl) <| SR.q' (r_ld (v := .int .i64 x24.Copied) sca3 rfl ((hm21).cell hx25 rfl)) <| SR.q' (r_add rfl rfl (by omega)) <| SR.q' (r_as (v := .int .i64 _) rfl) <| SR.nil ?_)
        refine W.seq ?_
        refine W.regS (SR.q' (r_mv (v := .int .i64 _) rfl) <| SR.q' (r_mv (v := .slice _ _ _) rfl) <| SR.q' (r_mv (v := .int .i64 _) rfl) <| SR.q' (r_ixR tsl33 (hm21) rfl rfl (by omega)) <| SR.q' (r_fa fa25_3 rfl) <| SR.q' (r_ld (v := .int .i64 x24.Given) sca3 rfl ((hm21).cell hx25 rfl)) <| SR.q' (r_add rfl rfl (by omega)) <| SR.q' (r_as (v := .int .i64 _) rfl) <| SR.nil ?_)
        refine W.regS (SR.q' (r_mv (v := .int .i64 _) rfl) <| SR.q' (r_mv (v := .slice _ _ _) rfl) <| SR.q' (r_mv (v := .int .i64 _) rfl) <| SR.q' (r_ixR tsl33 (hm21) rfl rfl (by omega)) <| SR.q' (r_fa fa25_4 rfl) <| SR.q' (r_ld (v := .int .i64 x24.Fines) sca3 rfl ((hm21).cell hx25 rfl)) <| SR.q' (r_add rfl rfl (by omega)) <| SR.q' (r_as (v := .int .i64 _) rfl) <| SR.nil ?_)
        refine W.regS (SR.q' (r_mv (v := .int .i64 _) rfl) <| SR.q' (r_add rfl rfl (by omega)) <| SR.q' (r_as (v := .int .i64 _) rfl) <| SR.nil ?_)
        refine ⟨(k + 1, a + x24.Lent, b + x24.Copied, c + x24.Given, d + x24.Fines), _, rfl, ⟨rfl, rfl, rfl, rfl, rfl, rfl, rfl, rfl, trivial⟩, ⟨hB19, hm21, ?_⟩, ?_⟩
        · exact (z_c_spec_LibTotals_27 L nL hbdL hleL h5 hq14 hq15 k a b c d hi22 h23 x24 hx25 hq26)
        · exact (z_c_spec_LibTotals_28 L nL hbdL hleL h5 hq14 hq15 k a b c d hi22 h23 x24 hx25 hq26)
      · refine W.exit (xin_here ?_)
        refine W.seq ?_
        refine W.regS (SR.q' (r_mv (v := .int .i64 _) rfl) <| SR.q' (r_mv (v := .int .i64 _) rfl) <| SR.q' (r_mv (v := .int .i64 _) rfl) <| SR.q' (r_mv (v := .int .i64 _) rfl) <| SR.lit (vs := [.int .i64 a, .int .i64 b, .int .i64 c, .int .i64 d]) (L := ([a, b, c, d] : List Int)) (enc := encI) tel39 (fun _ => rfl) rfl rfl rfl (by decide) ?_)
        intro g29 w30 hg31 hk32 hO33
        have hz34 := hk32.size
        have hB35 := hB19.lo hk32
        refine SR.q' (r_as (v := .slice _ _ _) rfl) <| SR.q' (r_as (v := .bool true) rfl) <| SR.nil ?_
        refine W.ret ?_
        refine ret2 rfl (v := .slice _ _ _) (v' := .bool _) rfl rfl ?_
        exact ⟨(some (⟨g29, 0, none⟩ : Addr)), 4, 4, eR (eT2 rfl (eDT h5)), (SlO.eqv ((hO33).down (by omega)) (z_c_spec_LibTotals_36 L nL hbdL hleL h5 hq14 hq15 k a b c d hi22 h23)), hB35⟩

theorem z_c_impl_libTotals_8 (L : List LibRow) (nL : Nat) (hbdL : (nL : Int) ≤ 9223372036854775807) (hleL : nL = L.length) (hp0 : RowsOK L) : 0 ≤ nL ∧ totN (L.take 0) = [(0 : Int), (0 : Int), (0 : Int), (0 : Int)] ∧ (0 ≤ (0 : Int) ∧ (0 : Int) ≤ 99999 * (0 : Int)) ∧ (0 ≤ (0 : Int) ∧ (0 : Int) ≤ 99999 * (0 : Int)) ∧ (0 ≤ (0 : Int) ∧ (0 : Int) ≤ 99999 * (0 : Int)) ∧ (0 ≤ (0 : Int) ∧ (0 : Int) ≤ 99999 * (0 : Int)) := by
  simp [totN]
theorem z_c_impl_libTotals_9 (L : List LibRow) (nL : Nat) (hbdL : (nL : Int) ≤ 9223372036854775807) (hleL : nL = L.length) (hp0 : RowsOK L) : List.replicate 4 (0 : Int) = [(0 : Int), (0 : Int), (0 : Int), (0 : Int)] := by
  rfl
theorem z_c_impl_libTotals_44 (L : List LibRow) (nL : Nat) (hbdL : (nL : Int) ≤ 9223372036854775807) (hleL : nL = L.length) (hp0 : RowsOK L) (k : Nat) (a : Int) (b : Int) (c : Int) (d : Int) (hi16 : k ≤ nL ∧ totN (L.take k) = [a, b, c, d] ∧ (0 ≤ a ∧ a ≤ 99999 * (k : Int)) ∧ (0 ≤ b ∧ b ≤ 99999 * (k : Int)) ∧ (0 ≤ c ∧ c ≤ 99999 * (k : Int)) ∧ (0 ≤ d ∧ d ≤ 99999 * (k : Int))) (h17 : (k : Int) < (nL : Int)) (x18 : LibRow) (hx19 : L[k]? = some x18) (hq20 : ((1 : Int) ≤ x18.Month ∧ x18.Month ≤ 1200) ∧ ((0 : Int) ≤ x18.Lent ∧ x18.Lent ≤ 9999) ∧ ((0 : Int) ≤ x18.Copied ∧ x18.Copied ≤ 9999) ∧ ((0 : Int) ≤ x18.Given ∧ x18.Given ≤ 999) ∧ ((0 : Int) ≤ x18.Fines ∧ x18.Fines ≤ 99999)) : 0 ≤ 4 := by
  omega
theorem z_c_impl_libTotals_45 (L : List LibRow) (nL : Nat) (hbdL : (nL : Int) ≤ 9223372036854775807) (hleL : nL = L.length) (hp0 : RowsOK L) (k : Nat) (a : Int) (b : Int) (c : Int) (d : Int) (hi16 : k ≤ nL ∧ totN (L.take k) = [a, b, c, d] ∧ (0 ≤ a ∧ a ≤ 99999 * (k : Int)) ∧ (0 ≤ b ∧ b ≤ 99999 * (k : Int)) ∧ (0 ≤ c ∧ c ≤ 99999 * (k : Int)) ∧ (0 ≤ d ∧ d ≤ 99999 * (k : Int))) (h17 : (k : Int) < (nL : Int)) (x18 : LibRow) (hx19 : L[k]? = some x18) (hq20 : ((1 : Int) ≤ x18.Month ∧ x18.Month ≤ 1200) ∧ ((0 : Int) ≤ x18.Lent ∧ x18.Lent ≤ 9999) ∧ ((0 : Int) ≤ x18.Copied ∧ x18.Copied ≤ 9999) ∧ ((0 : Int) ≤ x18.Given ∧ x18.Given ≤ 999) ∧ ((0 : Int) ≤ x18.Fines ∧ x18.Fines ≤ 99999)) : [a, b, c, d] = addF [a, b, c, d] [x18.Lent, x18.Copied, x18.Given, x18.Fines] 0 := by
  rfl
theorem z_c_impl_libTotals_68 (L : List LibRow) (nL : Nat) (hbdL : (nL : Int) ≤ 9223372036854775807) (hleL : nL = L.length) (hp0 : RowsOK L) (k : Nat) (a : Int) (b : Int) (c : Int) (d : Int) (hi16 : k ≤ nL ∧ totN (L.take k) = [a, b, c, d] ∧ (0 ≤ a ∧ a ≤ 99999 * (k : Int)) ∧ (0 ≤ b ∧ b ≤ 99999 * (k : Int)) ∧ (0 ≤ c ∧ c ≤ 99999 * (k : Int)) ∧ (0 ≤ d ∧ d ≤ 99999 * (k : Int))) (h17 : (k : Int) < (nL : Int)) (x18 : LibRow) (hx19 : L[k]? = some x18) (hq20 : ((1 : Int) ≤ x18.Month ∧ x18.Month ≤ 1200) ∧ ((0 : Int) ≤ x18.Lent ∧ x18.Lent ≤ 9999) ∧ ((0 : Int) ≤ x18.Copied ∧ x18.Copied ≤ 9999) ∧ ((0 : Int) ≤ x18.Given ∧ x18.Given ≤ 999) ∧ ((0 : Int) ≤ x18.Fines ∧ x18.Fines ≤ 99999)) (j : Nat) (hi53 : j ≤ 4) (h54 : (j : Int) < (4 : Int)) (x55 : Int) (hx56 : ([x18.Lent, x18.Copied, x18.Given, x18.Fines] : List Int)[j]? = some x55) (hq57 : x55 = x18.Lent ∨ x55 = x18.Copied ∨ x55 = x18.Given ∨ x55 = x18.Fines) (x58 : Int) (hx59 : (addF [a, b, c, d] [x18.Lent, x18.Copied, x18.Given, x18.Fines] j)[j]? = some x58) (hq60 : x58 = a ∨ x58 = b ∨ x58 = c ∨ x58 = d) : (addF [a, b, c, d] [x18.Lent, x18.Copied, x18.Given, x18.Fines] j).set ((j : Int).toNat) (x58 + x55) = addF [a, b, c, d] [x18.Lent, x18.Copied, x18.Given, x18.Fines] (j + 1) := by
  exact addF_set (by omega) ‹(addF _ _ j)[j]? = some _› ‹_[j]? = some _›
theorem z_c_impl_libTotals_69 (L : List LibRow) (nL : Nat) (hbdL : (nL : Int) ≤ 9223372036854775807) (hleL : nL = L.length) (hp0 : RowsOK L) (k : Nat) (a : Int) (b : Int) (c : Int) (d : Int) (hi16 : k ≤ nL ∧ totN (L.take k) = [a, b, c, d] ∧ (0 ≤ a ∧ a ≤ 99999 * (k : Int)) ∧ (0 ≤ b ∧ b ≤ 99999 * (k : Int)) ∧ (0 ≤ c ∧ c ≤ 99999 * (k : Int)) ∧ (0 ≤ d ∧ d ≤ 99999 * (k : Int))) (h17 : (k : Int) < (nL : Int)) (x18 : LibRow) (hx19 : L[k]? = some x18) (hq20 : ((1 : Int) ≤ x18.Month ∧ x18.Month ≤ 1200) ∧ ((0 : Int) ≤ x18.Lent ∧ x18.Lent ≤ 9999) ∧ ((0 : Int) ≤ x18.Copied ∧ x18.Copied ≤ 9999) ∧ ((0 : Int) ≤ x18.Given ∧ x18.Given ≤ 999) ∧ ((0 : Int) ≤ x18.Fines ∧ x18.Fines ≤ 99999)) (j : Nat) (hi53 : j ≤ 4) (h54 : (j : Int) < (4 : Int)) (x55 : Int) (hx56 : ([x18.Lent, x18.Copied, x18.Given, x18.Fines] : List Int)[j]? = some x55) (hq57 : x55 = x18.Lent ∨ x55 = x18.Copied ∨ x55 = x18.Given ∨ x55 = x18.Fines) (x58 : Int) (hx59 : (addF [a, b, c, d] [x18.Lent, x18.Copied, x18.Given, x18.Fines] j)[j]? = some x58) (hq60 : x58 = a ∨ x58 = b ∨ x58 = c ∨ x58 = d) : j + 1 ≤ 4 := by
  omega
theorem z_c_impl_libTotals_70 (L : List LibRow) (nL : Nat) (hbdL : (nL : Int) ≤ 9223372036854775807) (hleL : nL = L.length) (hp0 : RowsOK L) (k : Nat) (a : Int) (b : Int) (c : Int) (d : Int) (hi16 : k ≤ nL ∧ totN (L.take k) = [a, b, c, d] ∧ (0 ≤ a ∧ a ≤ 99999 * (k : Int)) ∧ (0 ≤ b ∧ b ≤ 99999 * (k : Int)) ∧ (0 ≤ c ∧ c ≤ 99999 * (k : Int)) ∧ (0 ≤ d ∧ d ≤ 99999 * (k : Int))) (h17 : (k : Int) < (nL : Int)) (x18 : LibRow) (hx19 : L[k]? = some x18) (hq20 : ((1 : Int) ≤ x18.Month ∧ x18.Month ≤ 1200) ∧ ((0 : Int) ≤ x18.Lent ∧ x18.Lent ≤ 9999) ∧ ((0 : Int) ≤ x18.Copied ∧ x18.Copied ≤ 9999) ∧ ((0 : Int) ≤ x18.Given ∧ x18.Given ≤ 999) ∧ ((0 : Int) ≤ x18.Fines ∧ x18.Fines ≤ 99999)) (j : Nat) (hi53 : j ≤ 4) (h54 : (j : Int) < (4 : Int)) (x55 : Int) (hx56 : ([x18.Lent, x18.Copied, x18.Given, x18.Fines] : List Int)[j]? = some x55) (hq57 : x55 = x18.Lent ∨ x55 = x18.Copied ∨ x55 = x18.Given ∨ x55 = x18.Fines) (x58 : Int) (hx59 : (addF [a, b, c, d] [x18.Lent, x18.Copied, x18.Given, x18.Fines] j)[j]? = some x58) (hq60 : x58 = a ∨ x58 = b ∨ x58 = c ∨ x58 = d) : 4 - (j + 1) < 4 - j := by
  omega
theorem z_c_impl_libTotals_71 (L : List LibRow) (nL : Nat) (hbdL : (nL : Int) ≤ 9223372036854775807) (hleL : nL = L.length) (hp0 : RowsOK L) (k : Nat) (a : Int) (b : Int) (c : Int) (d : Int) (hi16 : k ≤ nL ∧ totN (L.take k) = [a, b, c, d] ∧ (0 ≤ a ∧ a ≤ 99999 * (k : Int)) ∧ (0 ≤ b ∧ b ≤ 99999 * (k : Int)) ∧ (0 ≤ c ∧ c ≤ 99999 * (k : Int)) ∧ (0 ≤ d ∧ d ≤ 99999 * (k : Int))) (h17 : (k : Int) < (nL : Int)) (x18 : LibRow) (hx19 : L[k]? = some x18) (hq20 : ((1 : Int) ≤ x18.Month ∧ x18.Month ≤ 1200) ∧ ((0 : Int) ≤ x18.Lent ∧ x18.Lent ≤ 9999) ∧ ((0 : Int) ≤ x18.Copied ∧ x18.Copied ≤ 9999) ∧ ((0 : Int) ≤ x18.Given ∧ x18.Given ≤ 999) ∧ ((0 : Int) ≤ x18.Fines ∧ x18.Fines ≤ 99999)) (j : Nat) (hi53 : j ≤ 4) (h54 : ¬ ((j : Int) < (4 : Int))) : addF [a, b, c, d] [x18.Lent, x18.Copied, x18.Given, x18.Fines] j = [a + x18.Lent, b + x18.Copied, c + x18.Given, d + x18.Fines] := by
  obtain rfl : j = 4 := by omega
  rfl
theorem z_c_impl_libTotals_72 (L : List LibRow) (nL : Nat) (hbdL : (nL : Int) ≤ 9223372036854775807) (hleL : nL = L.length) (hp0 : RowsOK L) (k : Nat) (a : Int) (b : Int) (c : Int) (d : Int) (hi16 : k ≤ nL ∧ totN (L.take k) = [a, b, c, d] ∧ (0 ≤ a ∧ a ≤ 99999 * (k : Int)) ∧ (0 ≤ b ∧ b ≤ 99999 * (k : Int)) ∧ (0 ≤ c ∧ c ≤ 99999 * (k : Int)) ∧ (0 ≤ d ∧ d ≤ 99999 * (k : Int))) (h17 : (k : Int) < (nL : Int)) (x18 : LibRow) (hx19 : L[k]? = some x18) (hq20 : ((1 : Int) ≤ x18.Month ∧ x18.Month ≤ 1200) ∧ ((0 : Int) ≤ x18.Lent ∧ x18.Lent ≤ 9999) ∧ ((0 : Int) ≤ x18.Copied ∧ x18.Copied ≤ 9999) ∧ ((0 : Int) ≤ x18.Given ∧ x18.Given ≤ 999) ∧ ((0 : Int) ≤ x18.Fines ∧ x18.Fines ≤ 99999)) (j : Nat) (hi53 : j ≤ 4) (h54 : ¬ ((j : Int) < (4 : Int))) : k + 1 ≤ nL ∧ totN (L.take (k + 1)) = [a + x18.Lent, b + x18.Copied, c + x18.Given, d + x18.Fines] ∧ (0 ≤ a + x18.Lent ∧ a + x18.Lent ≤ 99999 * (k + 1 : Int)) ∧ (0 ≤ b + x18.Copied ∧ b + x18.Copied ≤ 99999 * (k + 1 : Int)) ∧ (0 ≤ c + x18.Given ∧ c + x18.Given ≤ 99999 * (k + 1 : Int)) ∧ (0 ≤ d + x18.Fines ∧ d + x18.Fines ≤ 99999 * (k + 1 : Int)) := by
  obtain ⟨h1, h2, h3⟩ := ‹_ ∧ totN _ = _ ∧ _›; exact ⟨by omega, tot_next h2 ‹L[_]? = some _›, by omega, by omega, by omega, by omega⟩
theorem z_c_impl_libTotals_73 (L : List LibRow) (nL : Nat) (hbdL : (nL : Int) ≤ 9223372036854775807) (hleL : nL = L.length) (hp0 : RowsOK L) (k : Nat) (a : Int) (b : Int) (c : Int) (d : Int) (hi16 : k ≤ nL ∧ totN (L.take k) = [a, b, c, d] ∧ (0 ≤ a ∧ a ≤ 99999 * (k : Int)) ∧ (0 ≤ b ∧ b ≤ 99999 * (k : Int)) ∧ (0 ≤ c ∧ c ≤ 99999 * (k : Int)) ∧ (0 ≤ d ∧ d ≤ 99999 * (k : Int))) (h17 : (k : Int) < (nL : Int)) (x18 : LibRow) (hx19 : L[k]? = some x18) (hq20 : ((1 : Int) ≤ x18.Month ∧ x18.Month ≤ 1200) ∧ ((0 : Int) ≤ x18.Lent ∧ x18.Lent ≤ 9999) ∧ ((0 : Int) ≤ x18.Copied ∧ x18.Copied ≤ 9999) ∧ ((0 : Int) ≤ x18.Given ∧ x18.Given ≤ 999) ∧ ((0 : Int) ≤ x18.Fines ∧ x18.Fines ≤ 99999)) (j : Nat) (hi53 : j ≤ 4) (h54 : ¬ ((j : Int) < (4 : Int))) : nL - (k + 1) < nL - k := by
  omega
theorem z_c_impl_libTotals_74 (L : List LibRow) (nL : Nat) (hbdL : (nL : Int) ≤ 9223372036854775807) (hleL : nL = L.length) (hp0 : RowsOK L) (k : Nat) (a : Int) (b : Int) (c : Int) (d : Int) (hi16 : k ≤ nL ∧ totN (L.take k) = [a, b, c, d] ∧ (0 ≤ a ∧ a ≤ 99999 * (k : Int)) ∧ (0 ≤ b ∧ b ≤ 99999 * (k : Int)) ∧ (0 ≤ c ∧ c ≤ 99999 * (k : Int)) ∧ (0 ≤ d ∧ d ≤ 99999 * (k : Int))) (h17 : ¬ ((k : Int) < (nL : Int))) : [a, b, c, d] = totN L := by
  obtain ⟨h1, h2, h3⟩ := ‹_ ∧ totN _ = _ ∧ _›; first | (rw [totL, if_pos ‹RowsOK L›, ← h2, take_all hleL ‹_›]; done) | (rw [← h2, take_all hleL ‹_›]; done)
theorem c_impl_libTotals (w : World) {AL : Option Addr} {nL cL BL : Nat}  (L : List LibRow) (hL : SlR w BL encLibRow 5 AL nL cL L) (hp0 : RowsOK L) : Calls Tryz.prog 41 #[.slice AL nL cL] w fun e w' => ∃ (A1' : Option Addr) (n1' c1' : Nat), e = .returned (.slice A1' n1' c1') ∧ SlO w' w.heap.size encI 1 3 A1' n1' c1' (totN L) ∧ Lo w w' := by
  refine calls_W 40 Tryz.func41 rfl rfl rfl ?_
  have hbdL := hL.bound
  have hleL := hL.len
  have hBbL := hL.bd
  have hlenL := rows_len hp0
  refine W.seq ?_
  refine W.regS (SR.q' (r_as (v := .slice none 0 0) rfl) <| SR.nil ?_)
  refine W.seq ?_
  refine W.regS (SR.make (m := 4) (zx := (0 : Int)) (enc := encI) tel39 rfl (fun _ => rfl) rfl rfl (by omega) (by omega) ?_)
  intro g1 w2 hg3 hk4 hO5
  have hz6 := hk4.size
  have hB7 := (Lo.refl w).lo hk4
  refine SR.q' (r_as (v := .slice _ _ _) rfl) <| SR.nil ?_
  refine W.seq ?_
  refine W.seq ?_
  refine W.regS (SR.q' (r_mv (v := .slice _ _ _) rfl) <| SR.q' (r_len und33 rfl) <| SR.q' (r_mv (v := .int .i64 0) rfl) <| SR.nil ?_)
  refine W.block ?_
  refine W.loop (σ := Nat × Int × Int × Int × Int) (fun g => [(2, .slice none 0 0), (3, .slice (some (⟨g1, 0, none⟩ : Addr)) 4 4), (9, .slice AL nL cL), (10, .int .i64 (nL : Int)), (11, .int .i64 (g.1 : Int))]) (fun g w' => (Lo w w') ∧ (SlO w' w.heap.size encI 1 3 (some (⟨g1, 0, none⟩ : Addr)) 4 4 [g.2.1, g.2.2.1, g.2.2.2.1, g.2.2.2.2]) ∧ (SlR w' BL encLibRow 5 AL nL cL L) ∧ (g.1 ≤ nL ∧ totN (L.take g.1) = [g.2.1, g.2.2.1, g.2.2.2.1, g.2.2.2.2] ∧ (0 ≤ g.2.1 ∧ g.2.1 ≤ 99999 * (g.1 : Int)) ∧ (0 ≤ g.2.2.1 ∧ g.2.2.1 ≤ 99999 * (g.1 : Int)) ∧ (0 ≤ g.2.2.2.1 ∧ g.2.2.2.1 ≤ 99999 * (g.1 : Int)) ∧ (0 ≤ g.2.2.2.2 ∧ g.2.2.2.2 ≤ 99999 * (g.1 : Int)))) (fun g => nL - g.1) (0, (0 : Int), (0 : Int), (0 : Int), (0 : Int)) ?_ ?_ ?_
  · exact ⟨rfl, rfl, rfl, rfl, rfl, trivial⟩
  · exact ⟨hB7, (SlO.eqv (hO5) (z_c_impl_libTotals_9 L nL hbdL hleL hp0)), (hL).lo hk4, (z_c_impl_libTotals_8 L nL hbdL hleL hp0)⟩
  · rintro ⟨k, a, b, c, d⟩ f10 w11 hP13
    obtain ⟨hB12, hm14, hm15, hi16⟩ : (Lo w w11) ∧ (SlO w11 w.heap.size encI 1 3 (some (⟨g1, 0, none⟩ : Addr)) 4 4 [a, b, c, d]) ∧ (SlR w11 BL encLibRow 5 AL nL cL L) ∧ (k ≤ nL ∧ totN (L.take k) = [a, b, c, d] ∧ (0 ≤ a ∧ a ≤ 99999 * (k : Int)) ∧ (0 ≤ b ∧ b ≤ 99999 * (k : Int)) ∧ (0 ≤ c ∧ c ≤ 99999 * (k : Int)) ∧ (0 ≤ d ∧ d ≤ 99999 * (k : Int))) := hP13
    refine (?_ : W _ _ _ _ _ (act _ (sets f10 [(2, .slice none 0 0), (3, .slice (some (⟨g1, 0, none⟩ : Addr)) 4 4), (9, .slice AL nL cL), (10, .int .i64 (nL : Int)), (11, .int .i64 (k : Int))])) _)
    have hzw11 := hB12.size
    refine W.seq ?_
    refine W.regS (SR.q' (r_lt rfl rfl) <| SR.nil ?_)
    refine W.seq ?_
    refine W.cond_d rfl (fun h17 => ?_) (fun h17 => ?_)
    · refine W.skip ?_
      refine W.seq ?_
      refine W.block ?_
      refine W.seq ?_
      obtain ⟨x18, hx19⟩ := (hm15).get (i := k) (by omega)
      have hq20 := rows_rng hp0 hx19
      refine W.regS (SR.q' (r_ixR tsl33 (hm15) rfl rfl (by omega)) <| SR.q' (r_lda (l := encLibRow x18) agg25 rfl (fun _ _ hu => (hm15).cell hx19 hu) ((hm15).esz _)) <| SR.alloc (l := [.int .i64 0, .int .i64 0, .int .i64 0, .int .i64 0, .int .i64 0]) tz25 rfl ?_)
      intro g21 w22 hg23 hk24 hs25 hb26
      have hz27 := hk24.size
      have hB28 := hB12.lo hk24
      have hd29 : ¬ (some (⟨g1, 0, none⟩ : Addr)) = some ⟨g21, 0, none⟩ := fun e' => by have := (hm14).base_le e'; omega
      refine SR.store (o := 0) (vs := [.int .i64 x18.Month, .int .i64 x18.Lent, .int .i64 x18.Copied, .int .i64 x18.Given, .int .i64 x18.Fines]) agg25.2 rfl rfl rfl rfl (hb26) (Nat.le_of_ble_eq_true rfl) rfl ?_
      intro w30 hk31 hs32 hb33
      have hz34 := hk31.size
      have hB35 := hB28.new hk31 (by omega)
      refine SR.nil ?_
      refine W.seq ?_
      refine W.regS (SR.q' (r_fa fa25_1 rfl) <| SR.q' (r_ld (v := .int .i64 x18.Lent) sca3 rfl ((hb33).cell rfl)) <| SR.q' (r_fa fa25_2 rfl) <| SR.q' (r_ld (v := .int .i64 x18.Copied) sca3 rfl ((hb33).cell rfl)) <| SR.q' (r_fa fa25_3 rfl) <| SR.q' (r_ld (v := .int .i64 x18.Given) sca3 rfl ((hb33).cell rfl)) <| SR.q' (r_fa fa25_4 rfl) <| SR.q' (r_ld (v := .int .i64 x18.Fines) sca3 rfl ((hb33).cell rfl)) <| SR.lit (vs := [.int .i64 x18.Lent, .int .i64 x18.Copied, .int .i64 x18.Given, .int .i64 x18.Fines]) (L := ([x18.Lent, x18.Copied, x18.Given, x18.Fines] : List Int)) (enc := encI) tel39 (fun _ => rfl) rfl rfl rfl (by decide) ?_)
      intro g36 w37 hg38 hk39 hO40
      have hz41 := hk39.size
      have hB42 := hB35.lo hk39
      have hd43 : ¬ (some (⟨g1, 0, none⟩ : Addr)) = some ⟨g36, 0, none⟩ := fun e' => by have := (((hm14).lo hk24).kd hk31 hd29).base_le e'; omega
      refine SR.q' (r_len und39 rfl) <| SR.q' (r_mv (v := .int .i64 0) rfl) <| SR.nil ?_
      refine W.block ?_
      refine W.loop (σ := Nat) (fun g => [(2, .slice none 0 0), (3, .slice (some (⟨g1, 0, none⟩ : Addr)) 4 4), (9, .slice AL nL cL), (10, .int .i64 (nL : Int)), (11, .int .i64 (k : Int)), (23, .slice (some (⟨g36, 0, none⟩ : Addr)) 4 4), (24, .int .i64 (4 : Int)), (25, .int .i64 (g : Int))]) (fun g w' => (Lo w w') ∧ (SlO w' w.heap.size encI 1 3 (some (⟨g1, 0, none⟩ : Addr)) 4 4 (addF [a, b, c, d] [x18.Lent, x18.Copied, x18.Given, x18.Fines] g)) ∧ (SlR w' BL encLibRow 5 AL nL cL L) ∧ (SlO w' w30.heap.size encI 1 3 (some (⟨g36, 0, none⟩ : Addr)) 4 4 ([x18.Lent, x18.Copied, x18.Given, x18.Fines] : List Int)) ∧ (g ≤ 4)) (fun g => 4 - g) 0 ?_ ?_ ?_
      · exact ⟨rfl, rfl, rfl, rfl, rfl, rfl, rfl, rfl, trivial⟩
      · exact ⟨hB42, (SlO.eqv ((((hm14).lo hk24).kd hk31 hd29).lo hk39) (z_c_impl_libTotals_45 L nL hbdL hleL hp0 k a b c d hi16 h17 x18 hx19 hq20)), (((hm15).lo hk24).kn hk31 (by omega)).lo hk39, hO40, (z_c_impl_libTotals_44 L nL hbdL hleL hp0 k a b c d hi16 h17 x18 hx19 hq20)⟩
      · rintro j f46 w47 hP49
        obtain ⟨hB48, hm50, hm51, hm52, hi53⟩ : (Lo w w47) ∧ (SlO w47 w.heap.size encI 1 3 (some (⟨g1, 0, none⟩ : Addr)) 4 4 (addF [a, b, c, d] [x18.Lent, x18.Copied, x18.Given, x18.Fines] j)) ∧ (SlR w47 BL encLibRow 5 AL nL cL L) ∧ (SlO w47 w30.heap.size encI 1 3 (some (⟨g36, 0, none⟩ : Addr)) 4 4 ([x18.Lent, x18.Copied, x18.Given, x18.Fines] : List Int)) ∧ (j ≤ 4) := hP49
        refine (?_ : W _ _ _ _ _ (act _ (sets f46 [(2, .slice none 0 0), (3, .slice (some (⟨g1, 0, none⟩ : Addr)) 4 4), (9, .slice AL nL cL), (10, .int .i64 (nL : Int)), (11, .int .i64 (k : Int)), (23, .slice (some (⟨g36, 0, none⟩ : Addr)) 4 4), (24, .int .i64 (4 : Int)), (25, .int .i64 (j : Int))])) _)
        have hzw47 := hB48.size
        refine W.seq ?_
        refine W.regS (SR.q' (r_lt rfl rfl) <| SR.nil ?_)
        refine W.seq ?_
        refine W.cond_d rfl (fun h54 => ?_) (fun h54 => ?_)
        · refine W.skip ?_
          refine W.seq ?_
          refine W.block ?_
          refine W.seq ?_
          refine W.regS (SR.q' (r_mv (v := .int .i64 _) rfl) <| ?_)
          obtain ⟨x55, hx56⟩ := ((hm52).rd).get (i := j) (by omega)
          have hq57 := four_at hx56
          refine SR.q' (r_ixR tsl39 ((hm52).rd) rfl rfl (by omega)) <| SR.q' (r_ld (v := .int .i64 x55) sca3 rfl (((hm52).rd).cell0 hx56 rfl)) <| SR.q' (r_as (v := .int .i64 _) rfl) <| SR.q' (r_as (v := .int .i64 _) rfl) <| SR.nil ?_
          refine W.regS (SR.q' (r_mv (v := .slice _ _ _) rfl) <| SR.q' (r_mv (v := .int .i64 _) rfl) <| ?_)
          obtain ⟨x58, hx59⟩ := ((hm50).rd).get (i := j) (by omega)
          have hq60 := addF_at hx59
          refine SR.q' (r_ixR tsl39 ((hm50).rd) rfl rfl (by omega)) <| SR.q' (r_ld (v := .int .i64 x58) sca3 rfl (((hm50).rd).cell0 hx59 rfl)) <| SR.q' (r_mv (v := .int .i64 _) rfl) <| SR.q' (r_add rfl rfl (by omega)) <| SR.q' (r_ixR tsl39 ((hm50).rd) rfl rfl (by omega)) <| SR.storeO (o := 0) (vs := [.int .i64 (x58 + x55)]) (x1 := x58 + x55) sca3.2 rfl rfl rfl rfl (hm50) hx59 rfl (Nat.le_of_ble_eq_true rfl) rfl ?_
          intro w61 hk62 hs63 hO64
          have hz65 := hk62.size
          have hB66 := hB48.step hk62 (fun i_ hi_ e' => by have := ((hm50)).base_le e'; first | omega | (exfalso; omega) | exact e' | exact .inl e' | exact .inr e')
          have hx67 : ((addF [a, b, c, d] [x18.Lent, x18.Copied, x18.Given, x18.Fines] j).set ((j : Int).toNat) (x58 + x55))[(j : Int).toNat]? = some (x58 + x55) := List.getElem?_set_self (List.getElem?_eq_some_iff.1 hx59).1
          refine SR.nil ?_
          refine W.regS (SR.q' (r_add rfl rfl (by omega)) <| SR.q' (r_mv (v := .int .i64 _) rfl) <| SR.nil ?_)
          refine ⟨j + 1, _, rfl, ⟨rfl, rfl, rfl, rfl, rfl, rfl, rfl, rfl, trivial⟩, ⟨hB66, (SlO.eqv (hO64) (z_c_impl_libTotals_68 L nL hbdL hleL hp0 k a b c d hi16 h17 x18 hx19 hq20 j hi53 h54 x55 hx56 hq57 x58 hx59 hq60)), (hm51).kp hk62 (fun b_ hb e' => by have := ((hm50)).base_le e'; omega), (hm52).kp hk62 (fun b_ hb e' => hd43 (hb ▸ e')), ?_⟩, ?_⟩
          · exact (z_c_impl_libTotals_69 L nL hbdL hleL hp0 k a b c d hi16 h17 x18 hx19 hq20 j hi53 h54 x55 hx56 hq57 x58 hx59 hq60)
          · exact (z_c_impl_libTotals_70 L nL hbdL hleL hp0 k a b c d hi16 h17 x18 hx19 hq20 j hi53 h54 x55 hx56 hq57 x58 hx59 hq60)
        · refine W.exit (xin_here ?_)
          refine W.regS (SR.q' (r_add rfl rfl (by omega)) <| SR.q' (r_mv (v := .int .i64 _) rfl) <| SR.nil ?_)
          refine ⟨(k + 1, a + x18.Lent, b + x18.Copied, c + x18.Given, d + x18.Fines), _, rfl, ⟨rfl, rfl, rfl, rfl, rfl, trivial⟩, ⟨hB48, (SlO.eqv (hm50) (z_c_impl_libTotals_71 L nL hbdL hleL hp0 k a b c d hi16 h17 x18 hx19 hq20 j hi53 h54)), hm51, ?_⟩, ?_⟩
          · exact (z_c_impl_libTotals_72 L nL hbdL hleL hp0 k a b c d hi16 h17 x18 hx19 hq20 j hi53 h54)
          · exact (z_c_impl_libTotals_73 L nL hbdL hleL hp0 k a b c d hi16 h17 x18 hx19 hq20 j hi53 h54)
    · refine W.exit (xin_here ?_)
      refine W.seq ?_
      refine W.regS (SR.q' (r_mv (v := .slice _ _ _) rfl) <| SR.q' (r_as (v := .slice _ _ _) rfl) <| SR.nil ?_)
      refine W.ret ?_
      refine ret1 rfl (v := .slice _ _ _) rfl ?_
      exact ⟨(some (⟨g1, 0, none⟩ : Addr)), 4, 4, eR rfl, (SlO.eqv ((hm14).down (by omega)) (z_c_impl_libTotals_74 L nL hbdL hleL hp0 k a b c d hi16 h17)), hB12⟩
end Go.Proofs.YtnbbfokkpkphoaaGreatDoor
