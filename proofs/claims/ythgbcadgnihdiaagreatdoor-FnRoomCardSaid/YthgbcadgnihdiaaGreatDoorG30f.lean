/- Walks, printed by a program of this claim's author. -/
import Derived.Test.YthgbcadgnihdiaaGreatDoorChecked
import Derived.Test.YthgbcadgnihdiaaGreatDoorRa
import Derived.Test.YthgbcadgnihdiaaGreatDoorFu
import Derived.Test.YthgbcadgnihdiaaGreatDoorFo
import Derived.Test.YthgbcadgnihdiaaGreatDoorFp
import Derived.Test.YthgbcadgnihdiaaGreatDoorFt
import Derived.Test.YthgbcadgnihdiaaGreatDoorG30b
namespace Go.Proofs.YthgbcadgnihdiaaGreatDoor
open Go Go.RowKit Fw
set_option maxRecDepth 10000
set_option linter.unusedVariables false
theorem ent67 : Ent Tryz.prog 67 := ent_of Tryz.func67 (by decide +kernel) rfl
theorem tel27 : TEl Tryz.prog 27 3 (.int .i64 0) 1 8 := ⟨by kernel_rfl, by kernel_rfl, rfl, by decide⟩
theorem tz3 : TZ Tryz.prog 3 (.int .i64 0) := fun _ => by kernel_rfl

theorem z_c_impl_freeSeats_1_14 (v : Visit) (s : Int) (a : Int) (b : Int) (h9 : v.Seat = s) : decide (meetV v a b) = keepV s a b v := by
  unfold keepV; simp_all
theorem z_c_impl_freeSeats_1_15 (v : Visit) (s : Int) (a : Int) (b : Int) (h9 : ¬ (v.Seat = s)) : false = keepV s a b v := by
  unfold keepV; simp_all
theorem c_impl_freeSeats_1 (w : World) (v : Visit) {gs es : Nat} (s : Int) (hs : Blk w gs es [.int .i64 s]) {ga ea : Nat} (a : Int) (ha : Blk w ga ea [.int .i64 a]) {gb eb : Nat} (b : Int) (hb : Blk w gb eb [.int .i64 b]) : Calls Tryz.prog 67 #[.agg (List.toArray (encVisit v)), .pointer (some ⟨gs, 0, none⟩), .pointer (some ⟨ga, 0, none⟩), .pointer (some ⟨gb, 0, none⟩)] w fun e w' => e = .returned (.bool (keepV s a b v)) ∧ Lo w w' := by
  refine calls_W 16 Tryz.func67 rfl rfl rfl ?_
  have hBls := hs.lt
  have hBla := ha.lt
  have hBlb := hb.lt
  refine W.seq ?_
  refine W.regS (SR.box (v := .agg (List.toArray _)) (l := [.int .i64 v.Reader, .int .i64 v.Seat, .int .i64 v.From, .int .i64 v.Until]) rfl rfl ?_)
  intro g1 w2 hg3 hk4 hs5 hb6
  have hz7 := hk4.size
  have hB8 := (Lo.refl w).lo hk4
  refine SR.q' (r_as (v := .bool false) rfl) <| SR.nil ?_
  refine W.seq ?_
  refine W.regS (SR.q' (r_fa fa45_1 rfl) <| SR.q' (r_ld (v := .int .i64 v.Seat) sca3 rfl ((hb6).cell rfl)) <| SR.q' (r_ld (v := .int .i64 s) sca3 rfl (((hs).lo hk4).cell0.trans rfl)) <| SR.q' (r_eq rfl rfl) <| SR.q' (r_mv (v := .bool _) rfl) <| SR.splitD (fun h9 => ?_) (fun h9 => ?_))
  · refine SR.g' rfl (r_lda (l := [.int .i64 v.Reader, .int .i64 v.Seat, .int .i64 v.From, .int .i64 v.Until]) agg45 rfl (fun _ _ hu => (hb6).cell hu) rfl) <| SR.g' rfl (r_ld (v := .int .i64 a) sca3 rfl (((ha).lo hk4).cell0.trans rfl)) <| SR.g' rfl (r_ld (v := .int .i64 b) sca3 rfl (((hb).lo hk4).cell0.trans rfl)) <| SR.gcall rfl ent61 (c__impl_Visit__meets w2 v a b) rfl ?_
    rintro e w10 ⟨rfl, hk11⟩
    refine ⟨_, rfl, ?_⟩
    have hz12 := hk11.size
    have hB13 := hB8.lo hk11
    refine SR.q' (r_pick true rfl (v := .bool _) rfl) <| SR.q' (r_as (v := .bool _) rfl) <| SR.nil ?_
    refine W.ret ?_
    refine ret1 rfl (v := .bool _) rfl ?_
    exact ⟨eR (eB (z_c_impl_freeSeats_1_14 v s a b h9)), hB13⟩
  · refine SR.s' rfl <| SR.s' rfl <| SR.s' rfl <| SR.s' rfl <| SR.q' (r_pick false rfl (v := .bool false) rfl) <| SR.q' (r_as (v := .bool _) rfl) <| SR.nil ?_
    refine W.ret ?_
    refine ret1 rfl (v := .bool _) rfl ?_
    exact ⟨eR (eB (z_c_impl_freeSeats_1_15 v s a b h9)), hB8⟩

theorem z_c_impl_freeSeats_31 (L : List Visit) (nL : Nat) (hbdL : (nL : Int) ≤ 9223372036854775807) (hleL : nL = L.length) (a : Int) (b : Int) : 0 ≤ 6 ∧ 0 ≤ 0 := by
  omega
theorem z_c_impl_freeSeats_32 (L : List Visit) (nL : Nat) (hbdL : (nL : Int) ≤ 9223372036854775807) (hleL : nL = L.length) (a : Int) (b : Int) : ([] : List Int) = freeN L a b 0 := by
  rfl
theorem z_c_impl_freeSeats_106 (L : List Visit) (nL : Nat) (hbdL : (nL : Int) ≤ 9223372036854775807) (hleL : nL = L.length) (a : Int) (b : Int) (k : Nat) (g : Nat) (n : Nat) (c : Nat) (hi42 : k ≤ 6 ∧ n ≤ k) (hl51 : n = (freeN L a b k).length) (h58 : 1 ≤ ((k : Int) + 1) ∧ ((k : Int) + 1) ≤ 6) (h63 : (!(L.any (fun u_ : Visit => keepV ((k : Int) + 1) a b u_))) = true) : (freeN L a b k) ++ ([(k : Int) + 1] : List Int) = freeN L a b (k + 1) := by
  first | exact free_keep (by simp_all) | exact free_add (by simp_all)
theorem z_c_impl_freeSeats_107 (L : List Visit) (nL : Nat) (hbdL : (nL : Int) ≤ 9223372036854775807) (hleL : nL = L.length) (a : Int) (b : Int) (k : Nat) (g : Nat) (n : Nat) (c : Nat) (hi42 : k ≤ 6 ∧ n ≤ k) (hl51 : n = (freeN L a b k).length) (h58 : 1 ≤ ((k : Int) + 1) ∧ ((k : Int) + 1) ≤ 6) (h63 : (!(L.any (fun u_ : Visit => keepV ((k : Int) + 1) a b u_))) = true) : k + 1 ≤ 6 ∧ n + 1 ≤ k + 1 := by
  omega
theorem z_c_impl_freeSeats_108 (L : List Visit) (nL : Nat) (hbdL : (nL : Int) ≤ 9223372036854775807) (hleL : nL = L.length) (a : Int) (b : Int) (k : Nat) (g : Nat) (n : Nat) (c : Nat) (hi42 : k ≤ 6 ∧ n ≤ k) (hl51 : n = (freeN L a b k).length) (h58 : 1 ≤ ((k : Int) + 1) ∧ ((k : Int) + 1) ≤ 6) (h63 : (!(L.any (fun u_ : Visit => keepV ((k : Int) + 1) a b u_))) = true) : 6 - (k + 1) < 6 - k := by
  omega
theorem z_c_impl_freeSeats_130 (L : List Visit) (nL : Nat) (hbdL : (nL : Int) ≤ 9223372036854775807) (hleL : nL = L.length) (a : Int) (b : Int) (k : Nat) (g : Nat) (n : Nat) (c : Nat) (hi42 : k ≤ 6 ∧ n ≤ k) (hl51 : n = (freeN L a b k).length) (h58 : 1 ≤ ((k : Int) + 1) ∧ ((k : Int) + 1) ≤ 6) (h63 : (!(L.any (fun u_ : Visit => keepV ((k : Int) + 1) a b u_))) = false) : freeN L a b k = freeN L a b (k + 1) := by
  first | exact free_keep (by simp_all) | exact free_add (by simp_all)
theorem z_c_impl_freeSeats_131 (L : List Visit) (nL : Nat) (hbdL : (nL : Int) ≤ 9223372036854775807) (hleL : nL = L.length) (a : Int) (b : Int) (k : Nat) (g : Nat) (n : Nat) (c : Nat) (hi42 : k ≤ 6 ∧ n ≤ k) (hl51 : n = (freeN L a b k).length) (h58 : 1 ≤ ((k : Int) + 1) ∧ ((k : Int) + 1) ≤ 6) (h63 : (!(L.any (fun u_ : Visit => keepV ((k : Int) + 1) a b u_))) = false) : k + 1 ≤ 6 ∧ n ≤ k + 1 := by
  omega
theorem z_c_impl_freeSeats_132 (L : List Visit) (nL : Nat) (hbdL : (nL : Int) ≤ 9223372036854775807) (hleL : nL = L.length) (a : Int) (b : Int) (k : Nat) (g : Nat) (n : Nat) (c : Nat) (hi42 : k ≤ 6 ∧ n ≤ k) (hl51 : n = (freeN L a b k).length) (h58 : 1 ≤ ((k : Int) + 1) ∧ ((k : Int) + 1) ≤ 6) (h63 : (!(L.any (fun u_ : Visit => keepV ((k : Int) + 1) a b u_))) = false) : 6 - (k + 1) < 6 - k := by
  omega
theorem z_c_impl_freeSeats_133 (L : List Visit) (nL : Nat) (hbdL : (nL : Int) ≤ 9223372036854775807) (hleL : nL = L.length) (a : Int) (b : Int) (k : Nat) (g : Nat) (n : Nat) (c : Nat) (hi42 : k ≤ 6 ∧ n ≤ k) (hl51 : n = (freeN L a b k).length) (h58 : ¬ (1 ≤ ((k : Int) + 1) ∧ ((k : Int) + 1) ≤ 6)) : freeN L a b k = freeN L a b 6 := by
  obtain rfl : k = 6 := by omega
  rfl
theorem c_impl_freeSeats (w : World) {AL : Option Addr} {nL cL BL : Nat}  (L : List Visit) (hL : SlR w BL encVisit 4 AL nL cL L) (a : Int) (b : Int) : Calls Tryz.prog 42 #[.slice AL nL cL, .int .i64 a, .int .i64 b] w fun e w' => ∃ (A1' : Option Addr) (n1' c1' : Nat), e = .returned (.slice A1' n1' c1') ∧ SlO w' w.heap.size encI 1 3 A1' n1' c1' (freeN L a b 6) ∧ Lo w w' := by
  refine calls_W 23 Tryz.func42 rfl rfl rfl ?_
  have hbdL := hL.bound
  have hleL := hL.len
  have hBbL := hL.bd
  refine W.seq ?_
  refine W.regS (SR.box (v := .int .i64 _) (l := [.int .i64 a]) rfl rfl ?_)
  intro g1 w2 hg3 hk4 hs5 hb6
  have hz7 := hk4.size
  have hB8 := (Lo.refl w).lo hk4
  refine SR.box (v := .int .i64 _) (l := [.int .i64 b]) rfl rfl ?_
  intro g9 w10 hg11 hk12 hs13 hb14
  have hz15 := hk12.size
  have hB16 := hB8.lo hk12
  refine SR.q' (r_as (v := .slice none 0 0) rfl) <| SR.nil ?_
  refine W.seq ?_
  refine W.regS (SR.q' (r_as (v := .slice none 0 0) rfl) <| SR.nil ?_)
  refine W.seq ?_
  refine W.seq ?_
  refine W.regS (SR.alloc (l := [.int .i64 0]) tz3 rfl ?_)
  intro g17 w18 hg19 hk20 hs21 hb22
  have hz23 := hk20.size
  have hB24 := hB16.lo hk20
  refine SR.store (o := 0) (vs := [.int .i64 1]) sca3.2 rfl rfl rfl rfl (hb22) (Nat.le_of_ble_eq_true rfl) rfl ?_
  intro w25 hk26 hs27 hb28
  have hz29 := hk26.size
  have hB30 := hB24.new hk26 (by omega)
  refine SR.nil ?_
  refine W.block ?_
  refine W.loop (σ := Nat × Nat × (Option Addr) × Nat × Nat) (fun g => [(0, .slice AL nL cL), (4, .pointer (some ((⟨g1, 0, none⟩ : Addr)))), (5, .pointer (some ((⟨g9, 0, none⟩ : Addr)))), (6, .slice none 0 0), (7, .slice g.2.2.1 g.2.2.2.1 g.2.2.2.2), (8, .pointer (some ((⟨g.2.1, 0, none⟩ : Addr))))]) (fun g w' => (Lo w w') ∧ (SlR w' BL encVisit 4 AL nL cL L) ∧ (Blk w' g1 3 [.int .i64 a]) ∧ (Blk w' g9 3 [.int .i64 b]) ∧ (SlO w' w.heap.size encI 1 3 g.2.2.1 g.2.2.2.1 g.2.2.2.2 (freeN L a b g.1)) ∧ (Blk w' g.2.1 3 [.int .i64 ((g.1 : Int) + 1)]) ∧ (¬ g.2.2.1 = some ⟨g1, 0, none⟩) ∧ (¬ g.2.2.1 = some ⟨g9, 0, none⟩) ∧ (w.heap.size ≤ g.2.1) ∧ (¬ g.2.1 = g1) ∧ (¬ g.2.1 = g9) ∧ (¬ g.2.2.1 = some ⟨g.2.1, 0, none⟩) ∧ (g.1 ≤ 6 ∧ g.2.2.2.1 ≤ g.1)) (fun g => 6 - g.1) (0, g17, (none : Option Addr), 0, 0) ?_ ?_ ?_
  · exact ⟨rfl, rfl, rfl, rfl, rfl, rfl, trivial⟩
  · show (Lo w w25) ∧ (SlR w25 BL encVisit 4 AL nL cL L) ∧ (Blk w25 g1 3 [.int .i64 a]) ∧ (Blk w25 g9 3 [.int .i64 b]) ∧ (SlO w25 w.heap.size encI 1 3 (none : Option Addr) 0 0 (freeN L a b 0)) ∧ (Blk w25 g17 3 [.int .i64 ((0 : Int) + 1)]) ∧ (¬ (none : Option Addr) = some ⟨g1, 0, none⟩) ∧ (¬ (none : Option Addr) = some ⟨g9, 0, none⟩) ∧ (w.heap.size ≤ g17) ∧ (¬ g17 = g1) ∧ (¬ g17 = g9) ∧ (¬ (none : Option Addr) = some ⟨g17, 0, none⟩) ∧ (0 ≤ 6 ∧ 0 ≤ 0)
    exact ⟨hB30, ((((hL).lo hk4).lo hk12).lo hk20).kn hk26 (by omega), (((hb6).lo hk12).lo hk20).kn hk26 (by omega), ((hb14).lo hk20).kn hk26 (by omega), (SlO.eqv (SlO.nil (base := w.heap.size) (e := 3) (enc := encI) (fun _ => rfl) (by omega)) (z_c_impl_freeSeats_32 L nL hbdL hleL a b)), (hb28), (fun e => by cases e), (fun e => by cases e), (by omega), (by omega), (by omega), (fun e => by cases e), (z_c_impl_freeSeats_31 L nL hbdL hleL a b)⟩
  · rintro ⟨k, g, A, n, c⟩ f33 w34 hP36
    obtain ⟨hB35, hm37, hm38, hm39, hO40, hO41, hd43, hd44, hd45, hd46, hd47, hd48, hi42⟩ : (Lo w w34) ∧ (SlR w34 BL encVisit 4 AL nL cL L) ∧ (Blk w34 g1 3 [.int .i64 a]) ∧ (Blk w34 g9 3 [.int .i64 b]) ∧ (SlO w34 w.heap.size encI 1 3 A n c (freeN L a b k)) ∧ (Blk w34 g 3 [.int .i64 ((k : Int) + 1)]) ∧ (¬ A = some ⟨g1, 0, none⟩) ∧ (¬ A = some ⟨g9, 0, none⟩) ∧ (w.heap.size ≤ g) ∧ (¬ g = g1) ∧ (¬ g = g9) ∧ (¬ A = some ⟨g, 0, none⟩) ∧ (k ≤ 6 ∧ n ≤ k) := hP36
    refine (?_ : W _ _ _ _ _ (act _ (sets f33 [(0, .slice AL nL cL), (4, .pointer (some ((⟨g1, 0, none⟩ : Addr)))), (5, .pointer (some ((⟨g9, 0, none⟩ : Addr)))), (6, .slice none 0 0), (7, .slice A n c), (8, .pointer (some ((⟨g, 0, none⟩ : Addr))))])) _)
    have hzw34 := hB35.size
    have hl49 := hm38.lt
    have hl50 := hm39.lt
    have hl51 := hO40.len
    have hl52 := hO40.rd.bound
    have hl53 := hO41.lt
    refine W.seq ?_
    refine W.seq ?_
    refine W.regS (SR.q' (r_ld (v := .int .i64 ((k : Int) + 1)) sca3 rfl ((hO41).cell0.trans rfl)) <| SR.call ent38 (c_impl_isSeat w34 ((k : Int) + 1)) rfl ?_)
    rintro e w54 ⟨rfl, hk55⟩
    refine ⟨_, rfl, ?_⟩
    have hz56 := hk55.size
    have hB57 := hB35.lo hk55
    refine SR.nil ?_
    refine W.cond_d rfl (fun h58 => ?_) (fun h58 => ?_)
    · refine W.skip ?_
      refine W.seq ?_
      refine W.block ?_
      refine W.seq ?_
      refine W.regS (SR.q' (r_mv (v := .slice _ _ _) rfl) <| SR.q' (r_mkf rfl rfl) <| SR.call ent59 (c_slices_ContainsFunc___impl_Visit_impl_Visit_ w54 L (((hm37).lo hk55)) (fun u_ : Visit => keepV ((k : Int) + 1) a b u_) ⟨ent67, fun w'' hw'' x => (c_impl_freeSeats_1 w'' x ((k : Int) + 1) ((((hO41).lo hk55)).lo hw'') a ((((hm38).lo hk55)).lo hw'') b ((((hm39).lo hk55)).lo hw'')).mono fun _ _ h => ⟨h.1, h.2⟩⟩) rfl ?_)
      rintro e w59 ⟨rfl, hk60⟩
      refine ⟨_, rfl, ?_⟩
      have hz61 := hk60.size
      have hB62 := hB57.lo hk60
      refine SR.q' (r_not rfl) <| SR.nil ?_
      refine W.cond_b rfl (fun h63 => ?_) (fun h63 => ?_)
      · refine W.regS (SR.q' (r_mv (v := .slice _ _ _) rfl) <| SR.q' (r_ld (v := .int .i64 ((k : Int) + 1)) sca3 rfl ((((hO41).lo hk55).lo hk60).cell0.trans rfl)) <| SR.lit (vs := [.int .i64 ((k : Int) + 1)]) (L := ([(k : Int) + 1] : List Int)) (enc := encI) tel27 (fun _ => rfl) rfl rfl rfl (by decide) ?_)
        intro g64 w65 hg66 hk67 hO68
        have hz69 := hk67.size
        have hB70 := hB62.lo hk67
        have hd71 : ¬ A = some ⟨g64, 0, none⟩ := fun e' => by have := (((hO40).lo hk55).lo hk60).base_le e'; omega
        refine SR.app tel27 rfl rfl ((((hO40).lo hk55).lo hk60).lo hk67) ((hO68).rd) (fun _ => rfl) (by omega) (by omega) ?_
        intro A72 c73 w74 hk75 hO76 hN77
        have hz78 := hk75.size
        have hB79 := hB70.step hk75 (fun i_ hi_ e' => by have := (((((hO40).lo hk55).lo hk60).lo hk67)).base_le e'; first | omega | (exfalso; omega) | exact e' | exact .inl e' | exact .inr e')
        have hd80 : ¬ A72 = some ⟨g1, 0, none⟩ := fun e' => (hN77 g1 e').elim (fun h => hd43 (h.trans e')) (fun h => by have := ((((hm38).lo hk55).lo hk60).lo hk67).lt; omega)
        have hd81 : ¬ A72 = some ⟨g9, 0, none⟩ := fun e' => (hN77 g9 e').elim (fun h => hd44 (h.trans e')) (fun h => by have := ((((hm39).lo hk55).lo hk60).lo hk67).lt; omega)
        have hd82 : ¬ A72 = some ⟨g, 0, none⟩ := fun e' => (hN77 g e').elim (fun h => hd48 (h.trans e')) (fun h => by have := ((((hO41).lo hk55).lo hk60).lo hk67).lt; omega)
        refine SR.q' (r_as (v := .slice _ _ _) rfl) <| SR.nil ?_
        refine W.seq ?_
        refine W.seq ?_
        refine W.regS (SR.q' (r_ld (v := .int .i64 ((k : Int) + 1)) sca3 rfl ((((((hO41).lo hk55).lo hk60).lo hk67).kp hk75 (fun e' => hd48 e')).cell0.trans rfl)) <| SR.nil ?_)
        refine W.regS (SR.alloc (l := [.int .i64 0]) tz3 rfl ?_)
        intro g84 w85 hg86 hk87 hs88 hb89
        have hz90 := hk87.size
        have hB91 := hB79.lo hk87
        have hd92 : ¬ (some (⟨g64, 0, none⟩ : Addr)) = some ⟨g84, 0, none⟩ := fun e' => by have := ((hO68).kp hk75 (fun b_ hb e' => hd71 (hb ▸ e'))).base_le e'; omega
        have hd93 : ¬ A72 = some ⟨g84, 0, none⟩ := fun e' => by have := (hO76).base_le e'; omega
        refine SR.store (o := 0) (vs := [.int .i64 ((k : Int) + 1)]) sca3.2 rfl rfl rfl rfl (hb89) (Nat.le_of_ble_eq_true rfl) rfl ?_
        intro w94 hk95 hs96 hb97
        have hz98 := hk95.size
        have hB99 := hB91.new hk95 (by omega)
        refine SR.nil ?_
        refine W.regS (SR.q' (r_ld (v := .int .i64 ((k : Int) + 1)) sca3 rfl ((hb97).cell0.trans rfl)) <| SR.q' (r_add rfl rfl (by omega)) <| SR.store (o := 0) (vs := [.int .i64 (((k : Int) + 1) + 1)]) sca3.2 rfl rfl rfl rfl (hb97) (Nat.le_of_ble_eq_true rfl) rfl ?_)
        intro w100 hk101 hs102 hb103
        have hz104 := hk101.size
        have hB105 := hB99.new hk101 (by omega)
        refine SR.nil ?_
        refine ⟨(k + 1, g84, A72, n + 1, c73), _, rfl, ⟨rfl, rfl, rfl, rfl, rfl, rfl, trivial⟩, (show (Lo w w100) ∧ (SlR w100 BL encVisit 4 AL nL cL L) ∧ (Blk w100 g1 3 [.int .i64 a]) ∧ (Blk w100 g9 3 [.int .i64 b]) ∧ (SlO w100 w.heap.size encI 1 3 A72 (n + 1) c73 (freeN L a b (k + 1))) ∧ (Blk w100 g84 3 [.int .i64 ((k + 1 : Int) + 1)]) ∧ (¬ A72 = some ⟨g1, 0, none⟩) ∧ (¬ A72 = some ⟨g9, 0, none⟩) ∧ (w.heap.size ≤ g84) ∧ (¬ g84 = g1) ∧ (¬ g84 = g9) ∧ (¬ A72 = some ⟨g84, 0, none⟩) ∧ (k + 1 ≤ 6 ∧ n + 1 ≤ k + 1) from ⟨hB105, (((((((hm37).lo hk55).lo hk60).lo hk67).kp hk75 (fun b_ hb e' => by have := (((((hO40).lo hk55).lo hk60).lo hk67)).base_le e'; omega)).lo hk87).kn hk95 (by omega)).kn hk101 (by omega), (((((((hm38).lo hk55).lo hk60).lo hk67).kp hk75 (fun e' => hd43 e')).lo hk87).kn hk95 (by omega)).kn hk101 (by omega), (((((((hm39).lo hk55).lo hk60).lo hk67).kp hk75 (fun e' => hd44 e')).lo hk87).kn hk95 (by omega)).kn hk101 (by omega), (SlO.eqv ((((hO76).lo hk87).kd hk95 hd93).kd hk101 hd93) (z_c_impl_freeSeats_106 L nL hbdL hleL a b k g n c hi42 hl51 h58 h63)), (hb103), hd80, hd81, (by omega), (by omega), (by omega), hd93, ?_⟩), ?_⟩
        · exact (z_c_impl_freeSeats_107 L nL hbdL hleL a b k g n c hi42 hl51 h58 h63)
        · exact (z_c_impl_freeSeats_108 L nL hbdL hleL a b k g n c hi42 hl51 h58 h63)
      · refine W.skip ?_
        refine W.seq ?_
        refine W.seq ?_
        refine W.regS (SR.q' (r_ld (v := .int .i64 ((k : Int) + 1)) sca3 rfl ((((hO41).lo hk55).lo hk60).cell0.trans rfl)) <| SR.nil ?_)
        refine W.regS (SR.alloc (l := [.int .i64 0]) tz3 rfl ?_)
        intro g109 w110 hg111 hk112 hs113 hb114
        have hz115 := hk112.size
        have hB116 := hB62.lo hk112
        have hd117 : ¬ A = some ⟨g109, 0, none⟩ := fun e' => by have := (((hO40).lo hk55).lo hk60).base_le e'; omega
        refine SR.store (o := 0) (vs := [.int .i64 ((k : Int) + 1)]) sca3.2 rfl rfl rfl rfl (hb114) (Nat.le_of_ble_eq_true rfl) rfl ?_
        intro w118 hk119 hs120 hb121
        have hz122 := hk119.size
        have hB123 := hB116.new hk119 (by omega)
        refine SR.nil ?_
        refine W.regS (SR.q' (r_ld (v := .int .i64 ((k : Int) + 1)) sca3 rfl ((hb121).cell0.trans rfl)) <| SR.q' (r_add rfl rfl (by omega)) <| SR.store (o := 0) (vs := [.int .i64 (((k : Int) + 1) + 1)]) sca3.2 rfl rfl rfl rfl (hb121) (Nat.le_of_ble_eq_true rfl) rfl ?_)
        intro w124 hk125 hs126 hb127
        have hz128 := hk125.size
        have hB129 := hB123.new hk125 (by omega)
        refine SR.nil ?_
        refine ⟨(k + 1, g109, A, n, c), _, rfl, ⟨rfl, rfl, rfl, rfl, rfl, rfl, trivial⟩, (show (Lo w w124) ∧ (SlR w124 BL encVisit 4 AL nL cL L) ∧ (Blk w124 g1 3 [.int .i64 a]) ∧ (Blk w124 g9 3 [.int .i64 b]) ∧ (SlO w124 w.heap.size encI 1 3 A n c (freeN L a b (k + 1))) ∧ (Blk w124 g109 3 [.int .i64 ((k + 1 : Int) + 1)]) ∧ (¬ A = some ⟨g1, 0, none⟩) ∧ (¬ A = some ⟨g9, 0, none⟩) ∧ (w.heap.size ≤ g109) ∧ (¬ g109 = g1) ∧ (¬ g109 = g9) ∧ (¬ A = some ⟨g109, 0, none⟩) ∧ (k + 1 ≤ 6 ∧ n ≤ k + 1) from ⟨hB129, (((((hm37).lo hk55).lo hk60).lo hk112).kn hk119 (by omega)).kn hk125 (by omega), (((((hm38).lo hk55).lo hk60).lo hk112).kn hk119 (by omega)).kn hk125 (by omega), (((((hm39).lo hk55).lo hk60).lo hk112).kn hk119 (by omega)).kn hk125 (by omega), (SlO.eqv ((((((hO40).lo hk55).lo hk60).lo hk112).kd hk119 hd117).kd hk125 hd117) (z_c_impl_freeSeats_130 L nL hbdL hleL a b k g n c hi42 hl51 h58 h63)), (hb127), hd43, hd44, (by omega), (by omega), (by omega), hd117, ?_⟩), ?_⟩
        · exact (z_c_impl_freeSeats_131 L nL hbdL hleL a b k g n c hi42 hl51 h58 h63)
        · exact (z_c_impl_freeSeats_132 L nL hbdL hleL a b k g n c hi42 hl51 h58 h63)
    · refine W.exit (xin_here ?_)
      refine W.seq ?_
      refine W.regS (SR.q' (r_mv (v := .slice _ _ _) rfl) <| SR.q' (r_as (v := .slice _ _ _) rfl) <| SR.nil ?_)
      refine W.ret ?_
      refine ret1 rfl (v := .slice _ _ _) rfl ?_
      exact ⟨A, n, c, eR rfl, (SlO.eqv (((hO40).lo hk55).down (by omega)) (z_c_impl_freeSeats_133 L nL hbdL hleL a b k g n c hi42 hl51 h58)), hB57⟩
end Go.Proofs.YthgbcadgnihdiaaGreatDoor
