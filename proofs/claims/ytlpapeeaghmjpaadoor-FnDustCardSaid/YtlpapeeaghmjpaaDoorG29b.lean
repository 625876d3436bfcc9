/- Walks, printed by a program of this claim's author. -/
import Derived.Test.YtlpapeeaghmjpaaDoorChecked
import Derived.Test.YtlpapeeaghmjpaaDoorSa
import Derived.Test.YtlpapeeaghmjpaaDoorFu
import Derived.Test.YtlpapeeaghmjpaaDoorFs
import Derived.Test.YtlpapeeaghmjpaaDoorFq
import Derived.Test.YtlpapeeaghmjpaaDoorFo
import Derived.Test.YtlpapeeaghmjpaaDoorFq
import Derived.Test.YtlpapeeaghmjpaaDoorG29
namespace Go.Proofs.YtlpapeeaghmjpaaDoor
open Go Go.RowKit Fw
set_option maxRecDepth 10000
set_option linter.unusedVariables false
theorem agg40 : TAgg Tryd.prog 40 6 := ⟨fun _ => by kernel_rfl, fun _ => by kernel_rfl⟩
theorem ent104 : Ent Tryd.prog 104 := ent_of Tryd.func104 (by decide +kernel) rfl
theorem ent119 : Ent Tryd.prog 119 := ent_of Tryd.func119 (by decide +kernel) rfl
theorem ent58 : Ent Tryd.prog 58 := ent_of Tryd.func58 (by decide +kernel) rfl
theorem ent64 : Ent Tryd.prog 64 := ent_of Tryd.func64 (by decide +kernel) rfl
theorem ent65 : Ent Tryd.prog 65 := ent_of Tryd.func65 (by decide +kernel) rfl
theorem ent66 : Ent Tryd.prog 66 := ent_of Tryd.func66 (by decide +kernel) rfl
theorem ent67 : Ent Tryd.prog 67 := ent_of Tryd.func67 (by decide +kernel) rfl
theorem ent98 : Ent Tryd.prog 98 := ent_of Tryd.func98 (by decide +kernel) rfl
theorem fa40_0 : FA Tryd.prog 40 0 0 := fun _ _ => by kernel_rfl
theorem fa40_1 : FA Tryd.prog 40 1 1 := fun _ _ => by kernel_rfl
theorem fa40_2 : FA Tryd.prog 40 2 2 := fun _ _ => by kernel_rfl
theorem fa40_3 : FA Tryd.prog 40 3 3 := fun _ _ => by kernel_rfl
theorem fa40_4 : FA Tryd.prog 40 4 4 := fun _ _ => by kernel_rfl
theorem fa40_5 : FA Tryd.prog 40 5 5 := fun _ _ => by kernel_rfl
theorem fa48_0 : FA Tryd.prog 48 0 0 := fun _ _ => by kernel_rfl
theorem fa48_1 : FA Tryd.prog 48 1 1 := fun _ _ => by kernel_rfl
theorem sca38 : TSca Tryd.prog 38 := ⟨fun _ => by kernel_rfl, fun _ => by kernel_rfl⟩
theorem tz40 : TZ Tryd.prog 40 (.agg (List.toArray [.int .i64 0, .int .i64 0, .slice none 0 0, .int .i64 0, .int .i64 0, .int .i64 0])) := fun _ => by kernel_rfl

theorem z_c_impl_IsChest_9 (x : Chest) (nx_Stack : Nat) (hbdx_Stack : (nx_Stack : Int) ≤ 9223372036854775807) (hlex_Stack : nx_Stack = x.Stack.length) : 0 ≤ nx_Stack ∧ StTo x.Stack 0 := by
  exact ⟨Nat.zero_le _, StTo.zero⟩
theorem z_c_impl_IsChest_37 (x : Chest) (nx_Stack : Nat) (hbdx_Stack : (nx_Stack : Int) ≤ 9223372036854775807) (hlex_Stack : nx_Stack = x.Stack.length) (k : Nat) (hi16 : k ≤ nx_Stack ∧ StTo x.Stack k) (h18 : (k : Int) < (nx_Stack : Int)) (hx20 : x.Stack[k]? = some (gt x.Stack k)) (h36 : (¬ (1 ≤ (gt x.Stack k) ∧ (gt x.Stack k) ≤ 999)) ∨ ((gt x.Stack k) ∈ (x.Stack.take k))) : ¬ (ChestOK x) := by
  first | exact chest_bad (st_bad ‹x.Stack[k]? = some _› ‹_›) | (have hs : nx_Stack ≤ 10 → StackOK x.Stack := fun h10 => StTo.end_ (And.right ‹_ ∧ StTo _ _›) (by omega); unfold ChestOK; first | (constructor; (intro h; exact ⟨hs (by omega), by omega⟩); (rintro ⟨_, h⟩; omega)) | (intro h; exact absurd h.2 (by omega)) | (intro h; obtain ⟨_, h⟩ := h; omega))
theorem z_c_impl_IsChest_40 (x : Chest) (nx_Stack : Nat) (hbdx_Stack : (nx_Stack : Int) ≤ 9223372036854775807) (hlex_Stack : nx_Stack = x.Stack.length) (k : Nat) (hi16 : k ≤ nx_Stack ∧ StTo x.Stack k) (h18 : (k : Int) < (nx_Stack : Int)) (hx20 : x.Stack[k]? = some (gt x.Stack k)) (h36 : ¬ ((¬ (1 ≤ (gt x.Stack k) ∧ (gt x.Stack k) ≤ 999)) ∨ ((gt x.Stack k) ∈ (x.Stack.take k)))) (hq38 : 1 ≤ (gt x.Stack k) ∧ (gt x.Stack k) ≤ 999) (hq39 : ¬ ((gt x.Stack k) ∈ (x.Stack.take k))) : k + 1 ≤ nx_Stack ∧ StTo x.Stack (k + 1) := by
  exact ⟨by omega, StTo.next (And.right ‹_ ∧ StTo _ _›) ‹x.Stack[k]? = some _› (st_step ‹_›)⟩
theorem z_c_impl_IsChest_41 (x : Chest) (nx_Stack : Nat) (hbdx_Stack : (nx_Stack : Int) ≤ 9223372036854775807) (hlex_Stack : nx_Stack = x.Stack.length) (k : Nat) (hi16 : k ≤ nx_Stack ∧ StTo x.Stack k) (h18 : (k : Int) < (nx_Stack : Int)) (hx20 : x.Stack[k]? = some (gt x.Stack k)) (h36 : ¬ ((¬ (1 ≤ (gt x.Stack k) ∧ (gt x.Stack k) ≤ 999)) ∨ ((gt x.Stack k) ∈ (x.Stack.take k)))) (hq38 : 1 ≤ (gt x.Stack k) ∧ (gt x.Stack k) ≤ 999) (hq39 : ¬ ((gt x.Stack k) ∈ (x.Stack.take k))) : nx_Stack - (k + 1) < nx_Stack - k := by
  omega
theorem z_c_impl_IsChest_75 (x : Chest) (nx_Stack : Nat) (hbdx_Stack : (nx_Stack : Int) ≤ 9223372036854775807) (hlex_Stack : nx_Stack = x.Stack.length) (k : Nat) (hi16 : k ≤ nx_Stack ∧ StTo x.Stack k) (h18 : ¬ ((k : Int) < (nx_Stack : Int))) (h42 : x.State = 2) : ((0 ≤ x.State ∧ x.State ≤ 2) ∧ ((1 ≤ x.Key ∧ x.Key ≤ 9999) ∧ (((nx_Stack : Int) ≤ 10) ∧ ((0 ≤ x.Dust ∧ x.Dust ≤ 100) ∧ ((0 ≤ x.Laid ∧ x.Laid ≤ 9999) ∧ ((0 ≤ x.Given ∧ x.Given ≤ 9999) ∧ ((x.Laid - x.Given) = (nx_Stack : Int)))))))) ↔ (ChestOK x) := by
  first | exact chest_bad (st_bad ‹x.Stack[k]? = some _› ‹_›) | (have hs : nx_Stack ≤ 10 → StackOK x.Stack := fun h10 => StTo.end_ (And.right ‹_ ∧ StTo _ _›) (by omega); unfold ChestOK; first | (constructor; (intro h; exact ⟨hs (by omega), by omega⟩); (rintro ⟨_, h⟩; omega)) | (intro h; exact absurd h.2 (by omega)) | (intro h; obtain ⟨_, h⟩ := h; omega))
theorem z_c_impl_IsChest_104 (x : Chest) (nx_Stack : Nat) (hbdx_Stack : (nx_Stack : Int) ≤ 9223372036854775807) (hlex_Stack : nx_Stack = x.Stack.length) (k : Nat) (hi16 : k ≤ nx_Stack ∧ StTo x.Stack k) (h18 : ¬ ((k : Int) < (nx_Stack : Int))) (h42 : ¬ (x.State = 2)) : ((0 ≤ x.State ∧ x.State ≤ 2) ∧ ((x.Key = 0) ∧ (((nx_Stack : Int) ≤ 10) ∧ ((0 ≤ x.Dust ∧ x.Dust ≤ 100) ∧ ((0 ≤ x.Laid ∧ x.Laid ≤ 9999) ∧ ((0 ≤ x.Given ∧ x.Given ≤ 9999) ∧ ((x.Laid - x.Given) = (nx_Stack : Int)))))))) ↔ (ChestOK x) := by
  first | exact chest_bad (st_bad ‹x.Stack[k]? = some _› ‹_›) | (have hs : nx_Stack ≤ 10 → StackOK x.Stack := fun h10 => StTo.end_ (And.right ‹_ ∧ StTo _ _›) (by omega); unfold ChestOK; first | (constructor; (intro h; exact ⟨hs (by omega), by omega⟩); (rintro ⟨_, h⟩; omega)) | (intro h; exact absurd h.2 (by omega)) | (intro h; obtain ⟨_, h⟩ := h; omega))
theorem c_impl_IsChest (w : World) (x : Chest) {Ax_Stack : Option Addr} {nx_Stack cx_Stack Bx_Stack : Nat} (hx_Stack : SlR w Bx_Stack encI 1 Ax_Stack nx_Stack cx_Stack x.Stack) : Calls Tryd.prog 26 #[.agg (List.toArray [.int .i64 x.State, .int .i64 x.Key, .slice Ax_Stack nx_Stack cx_Stack, .int .i64 x.Dust, .int .i64 x.Laid, .int .i64 x.Given])] w fun e w' => e = .returned (.bool (decide (ChestOK x))) ∧ Lo w w' := by
  refine calls_W 73 Tryd.func26 rfl rfl rfl ?_
  have hbdx_Stack := hx_Stack.bound
  have hlex_Stack := hx_Stack.len
  have hBbx_Stack := hx_Stack.bd
  refine W.seq ?_
  refine W.regS (SR.box (v := .agg (List.toArray _)) (l := [.int .i64 x.State, .int .i64 x.Key, .slice Ax_Stack nx_Stack cx_Stack, .int .i64 x.Dust, .int .i64 x.Laid, .int .i64 x.Given]) rfl rfl ?_)
  intro g1 w2 hg3 hk4 hs5 hb6
  have hz7 := hk4.size
  have hB8 := (Lo.refl w).lo hk4
  refine SR.q' (r_as (v := .bool false) rfl) <| SR.nil ?_
  refine W.seq ?_
  refine W.seq ?_
  refine W.regS (SR.q' (r_fa fa40_2 rfl) <| SR.q' (r_ld (v := .slice Ax_Stack nx_Stack cx_Stack) sca38 rfl ((hb6).cell rfl)) <| SR.q' (r_len und38 rfl) <| SR.q' (r_mv (v := .int .i64 0) rfl) <| SR.nil ?_)
  refine W.block ?_
  refine W.loop (σ := Nat) (fun g => [(1, .pointer (some ((⟨g1, 0, none⟩ : Addr)))), (7, .slice Ax_Stack nx_Stack cx_Stack), (8, .int .i64 (nx_Stack : Int)), (9, .int .i64 (g : Int))]) (fun g w' => (Lo w w') ∧ (Blk w' g1 40 [.int .i64 x.State, .int .i64 x.Key, .slice Ax_Stack nx_Stack cx_Stack, .int .i64 x.Dust, .int .i64 x.Laid, .int .i64 x.Given]) ∧ (SlR w' Bx_Stack encI 1 Ax_Stack nx_Stack cx_Stack x.Stack) ∧ (g ≤ nx_Stack ∧ StTo x.Stack g)) (fun g => nx_Stack - g) 0 ?_ ?_ ?_
  · exact ⟨rfl, rfl, rfl, rfl, trivial⟩
  · exact ⟨hB8, hb6, (hx_Stack).lo hk4, (z_c_impl_IsChest_9 x nx_Stack hbdx_Stack hlex_Stack)⟩
  · rintro k f10 w11 hP13
    obtain ⟨hB12, hm14, hm15, hi16⟩ : (Lo w w11) ∧ (Blk w11 g1 40 [.int .i64 x.State, .int .i64 x.Key, .slice Ax_Stack nx_Stack cx_Stack, .int .i64 x.Dust, .int .i64 x.Laid, .int .i64 x.Given]) ∧ (SlR w11 Bx_Stack encI 1 Ax_Stack nx_Stack cx_Stack x.Stack) ∧ (k ≤ nx_Stack ∧ StTo x.Stack k) := hP13
    refine (?_ : W _ _ _ _ _ (act _ (sets f10 [(1, .pointer (some ((⟨g1, 0, none⟩ : Addr)))), (7, .slice Ax_Stack nx_Stack cx_Stack), (8, .int .i64 (nx_Stack : Int)), (9, .int .i64 (k : Int))])) _)
    have hzw11 := hB12.size
    have hl17 := hm14.lt
    refine W.seq ?_
    refine W.regS (SR.q' (r_lt rfl rfl) <| SR.nil ?_)
    refine W.seq ?_
    refine W.cond_d rfl (fun h18 => ?_) (fun h18 => ?_)
    · refine W.skip ?_
      refine W.seq ?_
      refine W.block ?_
      refine W.seq ?_
      refine W.regS (SR.q' (r_mv (v := .int .i64 _) rfl) <| ?_)
      have hx20 := (hm15).elem (i := k) (by omega)
      refine SR.q' (r_ixR tsl38 (hm15) rfl rfl (by omega)) <| SR.q' (r_ld (v := .int .i64 (gt x.Stack k)) sca3 rfl ((hm15).cell0 hx20 rfl)) <| SR.q' (r_as (v := .int .i64 _) rfl) <| SR.q' (r_as (v := .int .i64 _) rfl) <| SR.nil ?_
      refine W.seq ?_
      refine W.regJS (fun f' w' => At f' [(1, .pointer (some ((⟨g1, 0, none⟩ : Addr)))), (7, .slice Ax_Stack nx_Stack cx_Stack), (8, .int .i64 (nx_Stack : Int)), (9, .int .i64 (k : Int)), (24, .bool (decide ((¬ (1 ≤ (gt x.Stack k) ∧ (gt x.Stack k) ≤ 999)) ∨ ((gt x.Stack k) ∈ (x.Stack.take k)))))] ∧ Lo w11 w') ?_ ?_
      · refine SR.q' (r_mv (v := .int .i64 _) rfl) <| SR.call ent64 (c_impl_isId w11 (gt x.Stack k)) rfl ?_
        rintro e w21 ⟨rfl, hk22⟩
        refine ⟨_, rfl, ?_⟩
        have hz23 := hk22.size
        have hB24 := hB12.lo hk22
        refine SR.q' (r_not rfl) <| SR.q' (r_mv (v := .bool _) rfl) <| SR.splitN (fun h25 => ?_) (fun h25 => ?_)
        · refine SR.s' rfl <| SR.s' rfl <| SR.s' rfl <| SR.s' rfl <| SR.s' rfl <| SR.s' rfl <| SR.q' (r_pick true rfl (v := .bool true) rfl) <| SR.nil ?_
          exact ⟨_, rfl, ⟨⟨rfl, rfl, rfl, rfl, (eDT ((jmf h25).1 trivial)), trivial⟩, (hk22)⟩⟩
        · refine SR.g' rfl (r_fa fa40_2 rfl) <| SR.g' rfl (r_ld (v := .slice Ax_Stack nx_Stack cx_Stack) sca38 rfl (((hm14).lo hk22).cell rfl)) <| SR.g' rfl (r_mv (v := .int .i64 _) rfl) <| SR.g' rfl (r_cuth (h := k) tsl38 rfl rfl rfl (Nat.le_trans (by omega : k ≤ nx_Stack) ((hm15).lo hk22).cap)) <| SR.g' rfl (r_mv (v := .int .i64 _) rfl) <| SR.gcall rfl ent65 (c_slices_Contains___int_int_ w21 (x.Stack.take k) ((((hm15).lo hk22).head (h := k) (by omega))) (gt x.Stack k)) rfl ?_
          rintro e w26 ⟨rfl, hk27⟩
          refine ⟨_, rfl, ?_⟩
          have hz28 := hk27.size
          have hB29 := hB24.lo hk27
          refine SR.q' (r_pick false rfl (v := .bool _) rfl) <| SR.nil ?_
          exact ⟨_, rfl, ⟨⟨rfl, rfl, rfl, rfl, (eDD (jmt h25)), trivial⟩, ((hk22).trans hk27)⟩⟩
      rintro f30 w31 ⟨hat32, hk33⟩
      rw [← sets_of_at hat32]
      have hz34 := hk33.size
      have hB35 := hB12.lo hk33
      refine W.cond_d rfl (fun h36 => ?_) (fun h36 => ?_)
      · refine W.seq ?_
        refine W.regS (SR.q' (r_as (v := .bool false) rfl) <| SR.nil ?_)
        refine W.ret ?_
        refine ret1 rfl (v := .bool _) rfl ?_
        exact ⟨eR (eDF (z_c_impl_IsChest_37 x nx_Stack hbdx_Stack hlex_Stack k hi16 h18 hx20 h36)), hB35⟩
      · have hq38 : 1 ≤ (gt x.Stack k) ∧ (gt x.Stack k) ≤ 999 := (Classical.not_not.1 (not_or.1 h36).1)
        have hq39 : ¬ ((gt x.Stack k) ∈ (x.Stack.take k)) := (not_or.1 h36).2
        refine W.skip ?_
        refine W.regS (SR.q' (r_add rfl rfl (by omega)) <| SR.q' (r_mv (v := .int .i64 _) rfl) <| SR.nil ?_)
        refine ⟨k + 1, _, rfl, ⟨rfl, rfl, rfl, rfl, trivial⟩, ⟨hB35, (hm14).lo hk33, (hm15).lo hk33, ?_⟩, ?_⟩
        · exact (z_c_impl_IsChest_40 x nx_Stack hbdx_Stack hlex_Stack k hi16 h18 hx20 h36 hq38 hq39)
        · exact (z_c_impl_IsChest_41 x nx_Stack hbdx_Stack hlex_Stack k hi16 h18 hx20 h36 hq38 hq39)
    · refine W.exit (xin_here ?_)
      refine W.seq ?_
      refine W.regS (SR.q' (r_fa fa40_1 rfl) <| SR.q' (r_ld (v := .int .i64 x.Key) sca3 rfl ((hm14).cell rfl)) <| SR.q' (r_eq rfl rfl) <| SR.q' (r_as (v := .bool _) rfl) <| SR.nil ?_)
      refine W.seq ?_
      refine W.seq ?_
      refine W.regS (SR.q' (r_fa fa40_0 rfl) <| SR.q' (r_ld (v := .int .i64 x.State) sca3 rfl ((hm14).cell rfl)) <| SR.q' (r_eq rfl rfl) <| SR.nil ?_)
      refine W.cond_d rfl (fun h42 => ?_) (fun h42 => ?_)
      · refine W.regS (SR.q' (r_fa fa40_1 rfl) <| SR.q' (r_ld (v := .int .i64 x.Key) sca3 rfl ((hm14).cell rfl)) <| SR.call ent66 (c_impl_isKey w11 x.Key) rfl ?_)
        rintro e w43 ⟨rfl, hk44⟩
        refine ⟨_, rfl, ?_⟩
        have hz45 := hk44.size
        have hB46 := hB12.lo hk44
        refine SR.q' (r_as (v := .bool _) rfl) <| SR.nil ?_
        refine W.seq ?_
        refine W.regJS (fun f' w' => At f' [(2, .bool (decide ((0 ≤ x.State ∧ x.State ≤ 2) ∧ ((1 ≤ x.Key ∧ x.Key ≤ 9999) ∧ (((nx_Stack : Int) ≤ 10) ∧ ((0 ≤ x.Dust ∧ x.Dust ≤ 100) ∧ ((0 ≤ x.Laid ∧ x.Laid ≤ 9999) ∧ ((0 ≤ x.Given ∧ x.Given ≤ 9999) ∧ ((x.Laid - x.Given) = (nx_Stack : Int))))))))))] ∧ Lo w43 w') ?_ ?_
        · refine SR.q' (r_fa fa40_0 rfl) <| SR.q' (r_ld (v := .int .i64 x.State) sca3 rfl (((hm14).lo hk44).cell rfl)) <| SR.call ent55 (c_impl_within w43 x.State 0 2) rfl ?_
          rintro e w47 ⟨rfl, hk48⟩
          refine ⟨_, rfl, ?_⟩
          have hz49 := hk48.size
          have hB50 := hB46.lo hk48
          refine SR.q' (r_mv (v := .bool _) rfl) <| SR.splitD (fun h51 => ?_) (fun h51 => ?_)
          · refine SR.g' rfl (r_mv (v := .bool _) rfl) <| SR.q' (r_pick true rfl (v := .bool _) rfl) <| SR.q' (r_mv (v := .bool _) rfl) <| SR.splitD (fun h52 => ?_) (fun h52 => ?_)
            · refine SR.g' rfl (r_fa fa40_2 rfl) <| SR.g' rfl (r_ld (v := .slice Ax_Stack nx_Stack cx_Stack) sca38 rfl ((((hm14).lo hk44).lo hk48).cell rfl)) <| SR.g' rfl (r_len und38 rfl) <| SR.g' rfl (r_le rfl rfl) <| SR.q' (r_pick true rfl (v := .bool _) rfl) <| SR.q' (r_mv (v := .bool _) rfl) <| SR.splitD (fun h53 => ?_) (fun h53 => ?_)
              · refine SR.g' rfl (r_fa fa40_3 rfl) <| SR.g' rfl (r_ld (v := .int .i64 x.Dust) sca3 rfl ((((hm14).lo hk44).lo hk48).cell rfl)) <| SR.gcall rfl ent55 (c_impl_within w47 x.Dust 0 100) rfl ?_
                rintro e w54 ⟨rfl, hk55⟩
                refine ⟨_, rfl, ?_⟩
                have hz56 := hk55.size
                have hB57 := hB50.lo hk55
                refine SR.q' (r_pick true rfl (v := .bool _) rfl) <| SR.q' (r_mv (v := .bool _) rfl) <| SR.splitD (fun h58 => ?_) (fun h58 => ?_)
                · refine SR.g' rfl (r_fa fa40_4 rfl) <| SR.g' rfl (r_ld (v := .int .i64 x.Laid) sca3 rfl (((((hm14).lo hk44).lo hk48).lo hk55).cell rfl)) <| SR.gcall rfl ent67 (c_impl_isCounted w54 x.Laid) rfl ?_
                  rintro e w59 ⟨rfl, hk60⟩
                  refine ⟨_, rfl, ?_⟩
                  have hz61 := hk60.size
                  have hB62 := hB57.lo hk60
                  refine SR.q' (r_pick true rfl (v := .bool _) rfl) <| SR.q' (r_mv (v := .bool _) rfl) <| SR.splitD (fun h63 => ?_) (fun h63 => ?_)
                  · refine SR.g' rfl (r_fa fa40_5 rfl) <| SR.g' rfl (r_ld (v := .int .i64 x.Given) sca3 rfl ((((((hm14).lo hk44).lo hk48).lo hk55).lo hk60).cell rfl)) <| SR.gcall rfl ent67 (c_impl_isCounted w59 x.Given) rfl ?_
                    rintro e w64 ⟨rfl, hk65⟩
                    refine ⟨_, rfl, ?_⟩
                    have hz66 := hk65.size
                    have hB67 := hB62.lo hk65
                    refine SR.q' (r_pick true rfl (v := .bool _) rfl) <| SR.q' (r_mv (v := .bool _) rfl) <| SR.splitD (fun h68 => ?_) (fun h68 => ?_)
                    · refine SR.g' rfl (r_fa fa40_4 rfl) <| SR.g' rfl (r_ld (v := .int .i64 x.Laid) sca3 rfl (((((((hm14).lo hk44).lo hk48).lo hk55).lo hk60).lo hk65).cell rfl)) <| SR.g' rfl (r_fa fa40_5 rfl) <| SR.g' rfl (r_ld (v := .int .i64 x.Given) sca3 rfl (((((((hm14).lo hk44).lo hk48).lo hk55).lo hk60).lo hk65).cell rfl)) <| SR.g' rfl (r_sub rfl rfl (by omega)) <| SR.g' rfl (r_fa fa40_2 rfl) <| SR.g' rfl (r_ld (v := .slice Ax_Stack nx_Stack cx_Stack) sca38 rfl (((((((hm14).lo hk44).lo hk48).lo hk55).lo hk60).lo hk65).cell rfl)) <| SR.g' rfl (r_len und38 rfl) <| SR.g' rfl (r_eq rfl rfl) <| SR.q' (r_pick true rfl (v := .bool _) rfl) <| SR.q' (r_as (v := .bool _) rfl) <| SR.nil ?_
                      exact ⟨_, rfl, ⟨⟨(eDD ((((((jat h68).trans (jat h63)).trans (jat h58)).trans (jat h53)).trans (jat h52)).trans (jat h51))), trivial⟩, ((((hk48).trans hk55).trans hk60).trans hk65)⟩⟩
                    · refine SR.s' rfl <| SR.s' rfl <| SR.s' rfl <| SR.s' rfl <| SR.s' rfl <| SR.s' rfl <| SR.s' rfl <| SR.s' rfl <| SR.s' rfl <| SR.q' (r_pick false rfl (v := .bool false) rfl) <| SR.q' (r_as (v := .bool _) rfl) <| SR.nil ?_
                      exact ⟨_, rfl, ⟨⟨(eDF ((((((jaf h68).trans (jat h63)).trans (jat h58)).trans (jat h53)).trans (jat h52)).trans (jat h51)).2), trivial⟩, ((((hk48).trans hk55).trans hk60).trans hk65)⟩⟩
                  · refine SR.s' rfl <| SR.s' rfl <| SR.s' rfl <| SR.q' (r_pick false rfl (v := .bool false) rfl) <| SR.q' (r_mv (v := .bool _) rfl) <| SR.s' rfl <| SR.s' rfl <| SR.s' rfl <| SR.s' rfl <| SR.s' rfl <| SR.s' rfl <| SR.s' rfl <| SR.s' rfl <| SR.s' rfl <| SR.q' (r_pick false rfl (v := .bool false) rfl) <| SR.q' (r_as (v := .bool _) rfl) <| SR.nil ?_
                    exact ⟨_, rfl, ⟨⟨(eDF (((((jaf h63).trans (jat h58)).trans (jat h53)).trans (jat h52)).trans (jat h51)).2), trivial⟩, (((hk48).trans hk55).trans hk60)⟩⟩
                · refine SR.s' rfl <| SR.s' rfl <| SR.s' rfl <| SR.q' (r_pick false rfl (v := .bool false) rfl) <| SR.q' (r_mv (v := .bool _) rfl) <| SR.s' rfl <| SR.s' rfl <| SR.s' rfl <| SR.q' (r_pick false rfl (v := .bool false) rfl) <| SR.q' (r_mv (v := .bool _) rfl) <| SR.s' rfl <| SR.s' rfl <| SR.s' rfl <| SR.s' rfl <| SR.s' rfl <| SR.s' rfl <| SR.s' rfl <| SR.s' rfl <| SR.s' rfl <| SR.q' (r_pick false rfl (v := .bool false) rfl) <| SR.q' (r_as (v := .bool _) rfl) <| SR.nil ?_
                  exact ⟨_, rfl, ⟨⟨(eDF ((((jaf h58).trans (jat h53)).trans (jat h52)).trans (jat h51)).2), trivial⟩, ((hk48).trans hk55)⟩⟩
              · refine SR.s' rfl <| SR.s' rfl <| SR.s' rfl <| SR.q' (r_pick false rfl (v := .bool false) rfl) <| SR.q' (r_mv (v := .bool _) rfl) <| SR.s' rfl <| SR.s' rfl <| SR.s' rfl <| SR.q' (r_pick false rfl (v := .bool false) rfl) <| SR.q' (r_mv (v := .bool _) rfl) <| SR.s' rfl <| SR.s' rfl <| SR.s' rfl <| SR.q' (r_pick false rfl (v := .bool false) rfl) <| SR.q' (r_mv (v := .bool _) rfl) <| SR.s' rfl <| SR.s' rfl <| SR.s' rfl <| SR.s' rfl <| SR.s' rfl <| SR.s' rfl <| SR.s' rfl <| SR.s' rfl <| SR.s' rfl <| SR.q' (r_pick false rfl (v := .bool false) rfl) <| SR.q' (r_as (v := .bool _) rfl) <| SR.nil ?_
                exact ⟨_, rfl, ⟨⟨(eDF (((jaf h53).trans (jat h52)).trans (jat h51)).2), trivial⟩, (hk48)⟩⟩
            · refine SR.s' rfl <| SR.s' rfl <| SR.s' rfl <| SR.s' rfl <| SR.q' (r_pick false rfl (v := .bool false) rfl) <| SR.q' (r_mv (v := .bool _) rfl) <| SR.s' rfl <| SR.s' rfl <| SR.s' rfl <| SR.q' (r_pick false rfl (v := .bool false) rfl) <| SR.q' (r_mv (v := .bool _) rfl) <| SR.s' rfl <| SR.s' rfl <| SR.s' rfl <| SR.q' (r_pick false rfl (v := .bool false) rfl) <| SR.q' (r_mv (v := .bool _) rfl) <| SR.s' rfl <| SR.s' rfl <| SR.s' rfl <| SR.q' (r_pick false rfl (v := .bool false) rfl) <| SR.q' (r_mv (v := .bool _) rfl) <| SR.s' rfl <| SR.s' rfl <| SR.s' rfl <| SR.s' rfl <| SR.s' rfl <| SR.s' rfl <| SR.s' rfl <| SR.s' rfl <| SR.s' rfl <| SR.q' (r_pick false rfl (v := .bool false) rfl) <| SR.q' (r_as (v := .bool _) rfl) <| SR.nil ?_
              exact ⟨_, rfl, ⟨⟨(eDF ((jaf h52).trans (jat h51)).2), trivial⟩, (hk48)⟩⟩
          · refine SR.s' rfl <| SR.q' (r_pick false rfl (v := .bool false) rfl) <| SR.q' (r_mv (v := .bool _) rfl) <| SR.s' rfl <| SR.s' rfl <| SR.s' rfl <| SR.s' rfl <| SR.q' (r_pick false rfl (v := .bool false) rfl) <| SR.q' (r_mv (v := .bool _) rfl) <| SR.s' rfl <| SR.s' rfl <| SR.s' rfl <| SR.q' (r_pick false rfl (v := .bool false) rfl) <| SR.q' (r_mv (v := .bool _) rfl) <| SR.s' rfl <| SR.s' rfl <| SR.s' rfl <| SR.q' (r_pick false rfl (v := .bool false) rfl) <| SR.q' (r_mv (v := .bool _) rfl) <| SR.s' rfl <| SR.s' rfl <| SR.s' rfl <| SR.q' (r_pick false rfl (v := .bool false) rfl) <| SR.q' (r_mv (v := .bool _) rfl) <| SR.s' rfl <| SR.s' rfl <| SR.s' rfl <| SR.s' rfl <| SR.s' rfl <| SR.s' rfl <| SR.s' rfl <| SR.s' rfl <| SR.s' rfl <| SR.q' (r_pick false rfl (v := .bool false) rfl) <| SR.q' (r_as (v := .bool _) rfl) <| SR.nil ?_
            exact ⟨_, rfl, ⟨⟨(eDF (jaf h51).2), trivial⟩, (hk48)⟩⟩
        rintro f69 w70 ⟨hat71, hk72⟩
        rw [← sets_of_at hat71]
        have hz73 := hk72.size
        have hB74 := hB46.lo hk72
        refine W.ret ?_
        refine ret1 rfl (v := .bool _) rfl ?_
        exact ⟨eR (eDD (z_c_impl_IsChest_75 x nx_Stack hbdx_Stack hlex_Stack k hi16 h18 h42)), hB74⟩
      · refine W.skip ?_
        refine W.seq ?_
        refine W.regJS (fun f' w' => At f' [(2, .bool (decide ((0 ≤ x.State ∧ x.State ≤ 2) ∧ ((x.Key = 0) ∧ (((nx_Stack : Int) ≤ 10) ∧ ((0 ≤ x.Dust ∧ x.Dust ≤ 100) ∧ ((0 ≤ x.Laid ∧ x.Laid ≤ 9999) ∧ ((0 ≤ x.Given ∧ x.Given ≤ 9999) ∧ ((x.Laid - x.Given) = (nx_Stack : Int))))))))))] ∧ Lo w11 w') ?_ ?_
        · refine SR.q' (r_fa fa40_0 rfl) <| SR.q' (r_ld (v := .int .i64 x.State) sca3 rfl ((hm14).cell rfl)) <| SR.call ent55 (c_impl_within w11 x.State 0 2) rfl ?_
          rintro e w76 ⟨rfl, hk77⟩
          refine ⟨_, rfl, ?_⟩
          have hz78 := hk77.size
          have hB79 := hB12.lo hk77
          refine SR.q' (r_mv (v := .bool _) rfl) <| SR.splitD (fun h80 => ?_) (fun h80 => ?_)
          · refine SR.g' rfl (r_mv (v := .bool _) rfl) <| SR.q' (r_pick true rfl (v := .bool _) rfl) <| SR.q' (r_mv (v := .bool _) rfl) <| SR.splitD (fun h81 => ?_) (fun h81 => ?_)
            · refine SR.g' rfl (r_fa fa40_2 rfl) <| SR.g' rfl (r_ld (v := .slice Ax_Stack nx_Stack cx_Stack) sca38 rfl (((hm14).lo hk77).cell rfl)) <| SR.g' rfl (r_len und38 rfl) <| SR.g' rfl (r_le rfl rfl) <| SR.q' (r_pick true rfl (v := .bool _) rfl) <| SR.q' (r_mv (v := .bool _) rfl) <| SR.splitD (fun h82 => ?_) (fun h82 => ?_)
              · refine SR.g' rfl (r_fa fa40_3 rfl) <| SR.g' rfl (r_ld (v := .int .i64 x.Dust) sca3 rfl (((hm14).lo hk77).cell rfl)) <| SR.gcall rfl ent55 (c_impl_within w76 x.Dust 0 100) rfl ?_
                rintro e w83 ⟨rfl, hk84⟩
                refine ⟨_, rfl, ?_⟩
                have hz85 := hk84.size
                have hB86 := hB79.lo hk84
                refine SR.q' (r_pick true rfl (v := .bool _) rfl) <| SR.q' (r_mv (v := .bool _) rfl) <| SR.splitD (fun h87 => ?_) (fun h87 => ?_)
                · refine SR.g' rfl (r_fa fa40_4 rfl) <| SR.g' rfl (r_ld (v := .int .i64 x.Laid) sca3 rfl ((((hm14).lo hk77).lo hk84).cell rfl)) <| SR.gcall rfl ent67 (c_impl_isCounted w83 x.Laid) rfl ?_
                  rintro e w88 ⟨rfl, hk89⟩
                  refine ⟨_, rfl, ?_⟩
                  have hz90 := hk89.size
                  have hB91 := hB86.lo hk89
                  refine SR.q' (r_pick true rfl (v := .bool _) rfl) <| SR.q' (r_mv (v := .bool _) rfl) <| SR.splitD (fun h92 => ?_) (fun h92 => ?_)
                  · refine SR.g' rfl (r_fa fa40_5 rfl) <| SR.g' rfl (r_ld (v := .int .i64 x.Given) sca3 rfl (((((hm14).lo hk77).lo hk84).lo hk89).cell rfl)) <| SR.gcall rfl ent67 (c_impl_isCounted w88 x.Given) rfl ?_
                    rintro e w93 ⟨rfl, hk94⟩
                    refine ⟨_, rfl, ?_⟩
                    have hz95 := hk94.size
                    have hB96 := hB91.lo hk94
                    refine SR.q' (r_pick true rfl (v := .bool _) rfl) <| SR.q' (r_mv (v := .bool _) rfl) <| SR.splitD (fun h97 => ?_) (fun h97 => ?_)
                    · refine SR.g' rfl (r_fa fa40_4 rfl) <| SR.g' rfl (r_ld (v := .int .i64 x.Laid) sca3 rfl ((((((hm14).lo hk77).lo hk84).lo hk89).lo hk94).cell rfl)) <| SR.g' rfl (r_fa fa40_5 rfl) <| SR.g' rfl (r_ld (v := .int .i64 x.Given) sca3 rfl ((((((hm14).lo hk77).lo hk84).lo hk89).lo hk94).cell rfl)) <| SR.g' rfl (r_sub rfl rfl (by omega)) <| SR.g' rfl (r_fa fa40_2 rfl) <| SR.g' rfl (r_ld (v := .slice Ax_Stack nx_Stack cx_Stack) sca38 rfl ((((((hm14).lo hk77).lo hk84).lo hk89).lo hk94).cell rfl)) <| SR.g' rfl (r_len und38 rfl) <| SR.g' rfl (r_eq rfl rfl) <| SR.q' (r_pick true rfl (v := .bool _) rfl) <| SR.q' (r_as (v := .bool _) rfl) <| SR.nil ?_
                      exact ⟨_, rfl, ⟨⟨(eDD ((((((jat h97).trans (jat h92)).trans (jat h87)).trans (jat h82)).trans (jat h81)).trans (jat h80))), trivial⟩, ((((hk77).trans hk84).trans hk89).trans hk94)⟩⟩
                    · refine SR.s' rfl <| SR.s' rfl <| SR.s' rfl <| SR.s' rfl <| SR.s' rfl <| SR.s' rfl <| SR.s' rfl <| SR.s' rfl <| SR.s' rfl <| SR.q' (r_pick false rfl (v := .bool false) rfl) <| SR.q' (r_as (v := .bool _) rfl) <| SR.nil ?_
                      exact ⟨_, rfl, ⟨⟨(eDF ((((((jaf h97).trans (jat h92)).trans (jat h87)).trans (jat h82)).trans (jat h81)).trans (jat h80)).2), trivial⟩, ((((hk77).trans hk84).trans hk89).trans hk94)⟩⟩
                  · refine SR.s' rfl <| SR.s' rfl <| SR.s' rfl <| SR.q' (r_pick false rfl (v := .bool false) rfl) <| SR.q' (r_mv (v := .bool _) rfl) <| SR.s' rfl <| SR.s' rfl <| SR.s' rfl <| SR.s' rfl <| SR.s' rfl <| SR.s' rfl <| SR.s' rfl <| SR.s' rfl <| SR.s' rfl <| SR.q' (r_pick false rfl (v := .bool false) rfl) <| SR.q' (r_as (v := .bool _) rfl) <| SR.nil ?_
                    exact ⟨_, rfl, ⟨⟨(eDF (((((jaf h92).trans (jat h87)).trans (jat h82)).trans (jat h81)).trans (jat h80)).2), trivial⟩, (((hk77).trans hk84).trans hk89)⟩⟩
                · refine SR.s' rfl <| SR.s' rfl <| SR.s' rfl <| SR.q' (r_pick false rfl (v := .bool false) rfl) <| SR.q' (r_mv (v := .bool _) rfl) <| SR.s' rfl <| SR.s' rfl <| SR.s' rfl <| SR.q' (r_pick false rfl (v := .bool false) rfl) <| SR.q' (r_mv (v := .bool _) rfl) <| SR.s' rfl <| SR.s' rfl <| SR.s' rfl <| SR.s' rfl <| SR.s' rfl <| SR.s' rfl <| SR.s' rfl <| SR.s' rfl <| SR.s' rfl <| SR.q' (r_pick false rfl (v := .bool false) rfl) <| SR.q' (r_as (v := .bool _) rfl) <| SR.nil ?_
                  exact ⟨_, rfl, ⟨⟨(eDF ((((jaf h87).trans (jat h82)).trans (jat h81)).trans (jat h80)).2), trivial⟩, ((hk77).trans hk84)⟩⟩
              · refine SR.s' rfl <| SR.s' rfl <| SR.s' rfl <| SR.q' (r_pick false rfl (v := .bool false) rfl) <| SR.q' (r_mv (v := .bool _) rfl) <| SR.s' rfl <| SR.s' rfl <| SR.s' rfl <| SR.q' (r_pick false rfl (v := .bool false) rfl) <| SR.q' (r_mv (v := .bool _) rfl) <| SR.s' rfl <| SR.s' rfl <| SR.s' rfl <| SR.q' (r_pick false rfl (v := .bool false) rfl) <| SR.q' (r_mv (v := .bool _) rfl) <| SR.s' rfl <| SR.s' rfl <| SR.s' rfl <| SR.s' rfl <| SR.s' rfl <| SR.s' rfl <| SR.s' rfl <| SR.s' rfl <| SR.s' rfl <| SR.q' (r_pick false rfl (v := .bool false) rfl) <| SR.q' (r_as (v := .bool _) rfl) <| SR.nil ?_
                exact ⟨_, rfl, ⟨⟨(eDF (((jaf h82).trans (jat h81)).trans (jat h80)).2), trivial⟩, (hk77)⟩⟩
            · refine SR.s' rfl <| SR.s' rfl <| SR.s' rfl <| SR.s' rfl <| SR.q' (r_pick false rfl (v := .bool false) rfl) <| SR.q' (r_mv (v := .bool _) rfl) <| SR.s' rfl <| SR.s' rfl <| SR.s' rfl <| SR.q' (r_pick false rfl (v := .bool false) rfl) <| SR.q' (r_mv (v := .bool _) rfl) <| SR.s' rfl <| SR.s' rfl <| SR.s' rfl <| SR.q' (r_pick false rfl (v := .bool false) rfl) <| SR.q' (r_mv (v := .bool _) rfl) <| SR.s' rfl <| SR.s' rfl <| SR.s' rfl <| SR.q' (r_pick false rfl (v := .bool false) rfl) <| SR.q' (r_mv (v := .bool _) rfl) <| SR.s' rfl <| SR.s' rfl <| SR.s' rfl <| SR.s' rfl <| SR.s' rfl <| SR.s' rfl <| SR.s' rfl <| SR.s' rfl <| SR.s' rfl <| SR.q' (r_pick false rfl (v := .bool false) rfl) <| SR.q' (r_as (v := .bool _) rfl) <| SR.nil ?_
              exact ⟨_, rfl, ⟨⟨(eDF ((jaf h81).trans (jat h80)).2), trivial⟩, (hk77)⟩⟩
          · refine SR.s' rfl <| SR.q' (r_pick false rfl (v := .bool false) rfl) <| SR.q' (r_mv (v := .bool _) rfl) <| SR.s' rfl <| SR.s' rfl <| SR.s' rfl <| SR.s' rfl <| SR.q' (r_pick false rfl (v := .bool false) rfl) <| SR.q' (r_mv (v := .bool _) rfl) <| SR.s' rfl <| SR.s' rfl <| SR.s' rfl <| SR.q' (r_pick false rfl (v := .bool false) rfl) <| SR.q' (r_mv (v := .bool _) rfl) <| SR.s' rfl <| SR.s' rfl <| SR.s' rfl <| SR.q' (r_pick false rfl (v := .bool false) rfl) <| SR.q' (r_mv (v := .bool _) rfl) <| SR.s' rfl <| SR.s' rfl <| SR.s' rfl <| SR.q' (r_pick false rfl (v := .bool false) rfl) <| SR.q' (r_mv (v := .bool _) rfl) <| SR.s' rfl <| SR.s' rfl <| SR.s' rfl <| SR.s' rfl <| SR.s' rfl <| SR.s' rfl <| SR.s' rfl <| SR.s' rfl <| SR.s' rfl <| SR.q' (r_pick false rfl (v := .bool false) rfl) <| SR.q' (r_as (v := .bool _) rfl) <| SR.nil ?_
            exact ⟨_, rfl, ⟨⟨(eDF (jaf h80).2), trivial⟩, (hk77)⟩⟩
        rintro f98 w99 ⟨hat100, hk101⟩
        rw [← sets_of_at hat100]
        have hz102 := hk101.size
        have hB103 := hB12.lo hk101
        refine W.ret ?_
        refine ret1 rfl (v := .bool _) rfl ?_
        exact ⟨eR (eDD (z_c_impl_IsChest_104 x nx_Stack hbdx_Stack hlex_Stack k hi16 h18 h42)), hB103⟩

theorem z_c_spec_l21Good_9 (x : Chest) (nx_Stack : Nat) (hbdx_Stack : (nx_Stack : Int) ≤ 9223372036854775807) (hlex_Stack : nx_Stack = x.Stack.length) : 0 ≤ nx_Stack ∧ StTo x.Stack 0 := by
  exact ⟨Nat.zero_le _, StTo.zero⟩
theorem z_c_spec_l21Good_44 (x : Chest) (nx_Stack : Nat) (hbdx_Stack : (nx_Stack : Int) ≤ 9223372036854775807) (hlex_Stack : nx_Stack = x.Stack.length) (k : Nat) (hi16 : k ≤ nx_Stack ∧ StTo x.Stack k) (h25 : ((k : Int) < (nx_Stack : Int)) ∧ ((k : Int) ≤ 10)) (hq26 : (k : Int) < (nx_Stack : Int)) (hq27 : (k : Int) ≤ 10) (hq40 : x.Stack[k]? = some (gt x.Stack k)) (h43 : (¬ (1 ≤ (gt x.Stack k) ∧ (gt x.Stack k) ≤ 999)) ∨ (¬ ((idxF (eqI (gt x.Stack k)) x.Stack) = (k : Int)))) : ¬ (ChestOK x) := by
  first | exact chest_bad (st_bad' ‹x.Stack[k]? = some _› ‹_›) | (have hs : nx_Stack ≤ 10 → StackOK x.Stack := fun h10 => StTo.end_ (And.right ‹_ ∧ StTo _ _›) (by omega); unfold ChestOK; first | (constructor; (intro h; exact ⟨hs (by omega), by omega⟩); (rintro ⟨_, h⟩; omega)) | (intro h; exact absurd h.2 (by omega)) | (intro h; obtain ⟨_, h⟩ := h; omega))
theorem z_c_spec_l21Good_47 (x : Chest) (nx_Stack : Nat) (hbdx_Stack : (nx_Stack : Int) ≤ 9223372036854775807) (hlex_Stack : nx_Stack = x.Stack.length) (k : Nat) (hi16 : k ≤ nx_Stack ∧ StTo x.Stack k) (h25 : ((k : Int) < (nx_Stack : Int)) ∧ ((k : Int) ≤ 10)) (hq26 : (k : Int) < (nx_Stack : Int)) (hq27 : (k : Int) ≤ 10) (hq40 : x.Stack[k]? = some (gt x.Stack k)) (h43 : ¬ ((¬ (1 ≤ (gt x.Stack k) ∧ (gt x.Stack k) ≤ 999)) ∨ (¬ ((idxF (eqI (gt x.Stack k)) x.Stack) = (k : Int))))) (hq45 : 1 ≤ (gt x.Stack k) ∧ (gt x.Stack k) ≤ 999) (hq46 : (idxF (eqI (gt x.Stack k)) x.Stack) = (k : Int)) : k + 1 ≤ nx_Stack ∧ StTo x.Stack (k + 1) := by
  exact ⟨by omega, StTo.next (And.right ‹_ ∧ StTo _ _›) ‹x.Stack[k]? = some _› (st_step' ‹x.Stack[k]? = some _› ‹_›)⟩
theorem z_c_spec_l21Good_48 (x : Chest) (nx_Stack : Nat) (hbdx_Stack : (nx_Stack : Int) ≤ 9223372036854775807) (hlex_Stack : nx_Stack = x.Stack.length) (k : Nat) (hi16 : k ≤ nx_Stack ∧ StTo x.Stack k) (h25 : ((k : Int) < (nx_Stack : Int)) ∧ ((k : Int) ≤ 10)) (hq26 : (k : Int) < (nx_Stack : Int)) (hq27 : (k : Int) ≤ 10) (hq40 : x.Stack[k]? = some (gt x.Stack k)) (h43 : ¬ ((¬ (1 ≤ (gt x.Stack k) ∧ (gt x.Stack k) ≤ 999)) ∨ (¬ ((idxF (eqI (gt x.Stack k)) x.Stack) = (k : Int))))) (hq45 : 1 ≤ (gt x.Stack k) ∧ (gt x.Stack k) ≤ 999) (hq46 : (idxF (eqI (gt x.Stack k)) x.Stack) = (k : Int)) : nx_Stack - (k + 1) < nx_Stack - k := by
  omega
theorem z_c_spec_l21Good_62 (x : Chest) (nx_Stack : Nat) (hbdx_Stack : (nx_Stack : Int) ≤ 9223372036854775807) (hlex_Stack : nx_Stack = x.Stack.length) (k : Nat) (hi16 : k ≤ nx_Stack ∧ StTo x.Stack k) (h25 : ¬ (((k : Int) < (nx_Stack : Int)) ∧ ((k : Int) ≤ 10))) (h61 : ((x.State = 2) ∧ (¬ (1 ≤ x.Key ∧ x.Key ≤ 9999))) ∨ ((¬ (x.State = 2)) ∧ (¬ (x.Key = 0)))) : ¬ (ChestOK x) := by
  first | exact chest_bad (st_bad' ‹x.Stack[k]? = some _› ‹_›) | (have hs : nx_Stack ≤ 10 → StackOK x.Stack := fun h10 => StTo.end_ (And.right ‹_ ∧ StTo _ _›) (by omega); unfold ChestOK; first | (constructor; (intro h; exact ⟨hs (by omega), by omega⟩); (rintro ⟨_, h⟩; omega)) | (intro h; exact absurd h.2 (by omega)) | (intro h; obtain ⟨_, h⟩ := h; omega))
theorem z_c_spec_l21Good_92 (x : Chest) (nx_Stack : Nat) (hbdx_Stack : (nx_Stack : Int) ≤ 9223372036854775807) (hlex_Stack : nx_Stack = x.Stack.length) (k : Nat) (hi16 : k ≤ nx_Stack ∧ StTo x.Stack k) (h25 : ¬ (((k : Int) < (nx_Stack : Int)) ∧ ((k : Int) ≤ 10))) (h61 : ¬ (((x.State = 2) ∧ (¬ (1 ≤ x.Key ∧ x.Key ≤ 9999))) ∨ ((¬ (x.State = 2)) ∧ (¬ (x.Key = 0))))) (hq63 : ¬ ((x.State = 2) ∧ (¬ (1 ≤ x.Key ∧ x.Key ≤ 9999)))) (hq64 : ¬ ((¬ (x.State = 2)) ∧ (¬ (x.Key = 0)))) : ((0 ≤ x.State ∧ x.State ≤ 2) ∧ (((nx_Stack : Int) ≤ 10) ∧ ((0 ≤ x.Dust ∧ x.Dust ≤ 100) ∧ ((0 ≤ x.Laid ∧ x.Laid ≤ 9999) ∧ ((0 ≤ x.Given ∧ x.Given ≤ 9999) ∧ ((x.Laid - x.Given) = (nx_Stack : Int))))))) ↔ (ChestOK x) := by
  first | exact chest_bad (st_bad' ‹x.Stack[k]? = some _› ‹_›) | (have hs : nx_Stack ≤ 10 → StackOK x.Stack := fun h10 => StTo.end_ (And.right ‹_ ∧ StTo _ _›) (by omega); unfold ChestOK; first | (constructor; (intro h; exact ⟨hs (by omega), by omega⟩); (rintro ⟨_, h⟩; omega)) | (intro h; exact absurd h.2 (by omega)) | (intro h; obtain ⟨_, h⟩ := h; omega))
theorem c_spec_l21Good (w : World) (x : Chest) {Ax_Stack : Option Addr} {nx_Stack cx_Stack Bx_Stack : Nat} (hx_Stack : SlR w Bx_Stack encI 1 Ax_Stack nx_Stack cx_Stack x.Stack) : Calls Tryd.prog 57 #[.agg (List.toArray [.int .i64 x.State, .int .i64 x.Key, .slice Ax_Stack nx_Stack cx_Stack, .int .i64 x.Dust, .int .i64 x.Laid, .int .i64 x.Given])] w fun e w' => e = .returned (.bool (decide (ChestOK x))) ∧ Lo w w' := by
  refine calls_W 88 Tryd.func57 rfl rfl rfl ?_
  have hbdx_Stack := hx_Stack.bound
  have hlex_Stack := hx_Stack.len
  have hBbx_Stack := hx_Stack.bd
  refine W.seq ?_
  refine W.regS (SR.box (v := .agg (List.toArray _)) (l := [.int .i64 x.State, .int .i64 x.Key, .slice Ax_Stack nx_Stack cx_Stack, .int .i64 x.Dust, .int .i64 x.Laid, .int .i64 x.Given]) rfl rfl ?_)
  intro g1 w2 hg3 hk4 hs5 hb6
  have hz7 := hk4.size
  have hB8 := (Lo.refl w).lo hk4
  refine SR.q' (r_as (v := .bool false) rfl) <| SR.nil ?_
  refine W.seq ?_
  refine W.seq ?_
  refine W.regS (SR.q' (r_as (v := .int .i64 0) rfl) <| SR.nil ?_)
  refine W.block ?_
  refine W.loop (σ := Nat) (fun g => [(1, .pointer (some ((⟨g1, 0, none⟩ : Addr)))), (3, .int .i64 (g : Int))]) (fun g w' => (Lo w w') ∧ (Blk w' g1 40 [.int .i64 x.State, .int .i64 x.Key, .slice Ax_Stack nx_Stack cx_Stack, .int .i64 x.Dust, .int .i64 x.Laid, .int .i64 x.Given]) ∧ (SlR w' Bx_Stack encI 1 Ax_Stack nx_Stack cx_Stack x.Stack) ∧ (g ≤ nx_Stack ∧ StTo x.Stack g)) (fun g => nx_Stack - g) 0 ?_ ?_ ?_
  · exact ⟨rfl, rfl, trivial⟩
  · exact ⟨hB8, hb6, (hx_Stack).lo hk4, (z_c_spec_l21Good_9 x nx_Stack hbdx_Stack hlex_Stack)⟩
  · rintro k f10 w11 hP13
    obtain ⟨hB12, hm14, hm15, hi16⟩ : (Lo w w11) ∧ (Blk w11 g1 40 [.int .i64 x.State, .int .i64 x.Key, .slice Ax_Stack nx_Stack cx_Stack, .int .i64 x.Dust, .int .i64 x.Laid, .int .i64 x.Given]) ∧ (SlR w11 Bx_Stack encI 1 Ax_Stack nx_Stack cx_Stack x.Stack) ∧ (k ≤ nx_Stack ∧ StTo x.Stack k) := hP13
    refine (?_ : W _ _ _ _ _ (act _ (sets f10 [(1, .pointer (some ((⟨g1, 0, none⟩ : Addr)))), (3, .int .i64 (k : Int))])) _)
    have hzw11 := hB12.size
    have hl17 := hm14.lt
    refine W.seq ?_
    refine W.seq ?_
    refine W.regJS (fun f' w' => At f' [(1, .pointer (some ((⟨g1, 0, none⟩ : Addr)))), (3, .int .i64 (k : Int)), (12, .bool (decide (((k : Int) < (nx_Stack : Int)) ∧ ((k : Int) ≤ 10))))] ∧ Lo w11 w') ?_ ?_
    · refine SR.q' (r_mv (v := .int .i64 _) rfl) <| SR.q' (r_fa fa40_2 rfl) <| SR.q' (r_ld (v := .slice Ax_Stack nx_Stack cx_Stack) sca38 rfl ((hm14).cell rfl)) <| SR.q' (r_len und38 rfl) <| SR.q' (r_lt rfl rfl) <| SR.q' (r_mv (v := .bool _) rfl) <| SR.splitD (fun h18 => ?_) (fun h18 => ?_)
      · refine SR.g' rfl (r_mv (v := .int .i64 _) rfl) <| SR.g' rfl (r_le rfl rfl) <| SR.q' (r_pick true rfl (v := .bool _) rfl) <| SR.nil ?_
        exact ⟨_, rfl, ⟨⟨rfl, rfl, (eDD (jat h18)), trivial⟩, (Lo.refl _)⟩⟩
      · refine SR.s' rfl <| SR.s' rfl <| SR.q' (r_pick false rfl (v := .bool false) rfl) <| SR.nil ?_
        exact ⟨_, rfl, ⟨⟨rfl, rfl, (eDF (jaf h18).2), trivial⟩, (Lo.refl _)⟩⟩
    rintro f19 w20 ⟨hat21, hk22⟩
    rw [← sets_of_at hat21]
    have hz23 := hk22.size
    have hB24 := hB12.lo hk22
    refine W.cond_d rfl (fun h25 => ?_) (fun h25 => ?_)
    · have hq26 : (k : Int) < (nx_Stack : Int) := h25.1
      have hq27 : (k : Int) ≤ 10 := h25.2
      refine W.skip ?_
      refine W.seq ?_
      refine W.block ?_
      refine W.seq ?_
      refine W.regJD mo (by kernel_rfl) (fun f' w' => At f' [(1, .pointer (some ((⟨g1, 0, none⟩ : Addr)))), (3, .int .i64 (k : Int)), (33, .bool (decide ((¬ (1 ≤ (gt x.Stack k) ∧ (gt x.Stack k) ≤ 999)) ∨ (¬ ((idxF (eqI (gt x.Stack k)) x.Stack) = (k : Int))))))] ∧ Lo w20 w' ∧ (x.Stack[k]? = some (gt x.Stack k))) ?_ ?_
      · refine QR.q' (fun w' hw' => r_fa fa40_2 rfl) <| QR.q' (fun w' hw' => r_ld (v := .slice Ax_Stack nx_Stack cx_Stack) sca38 rfl ((((hm14).lo hk22).lo hw').cell rfl)) <| QR.q' (fun w' hw' => r_mv (v := .int .i64 _) rfl) <| ?_
        have hx29 := ((hm15).lo hk22).elem (i := k) (by omega)
        refine QR.q' (fun w' hw' => r_ixR tsl38 ((((hm15).lo hk22).lo hw')) rfl rfl (by omega)) <| QR.q' (fun w' hw' => r_ld (v := .int .i64 (gt x.Stack k)) sca3 rfl (((((hm15).lo hk22).lo hw')).cell0 hx29 rfl)) <| QR.call ent58 (fun w' hw' => (c_spec_l1In w' (gt x.Stack k) 1 999).mono fun _ _ h => ⟨h.1, hw'.trans h.2⟩) rfl <| QR.q' (fun w' hw' => r_not rfl) <| QR.q' (fun w' hw' => r_mv (v := .bool _) rfl) <| QR.splitN (fun h30 => ?_) (fun h30 => ?_)
        · refine QR.s' rfl <| QR.s' rfl <| QR.s' rfl <| QR.s' rfl <| QR.s' rfl <| QR.s' rfl <| QR.s' rfl <| QR.s' rfl <| QR.s' rfl <| QR.s' rfl <| QR.q' (fun w' hw' => r_pick true rfl (v := .bool true) rfl) <| QR.nil ?_
          intro w31 hk32
          exact ⟨⟨rfl, rfl, (eDT ((jmf h30).1 trivial)), trivial⟩, hk32, hx29⟩
        · refine QR.g' rfl (fun w' hw' => r_fa fa40_2 rfl) <| QR.g' rfl (fun w' hw' => r_ld (v := .slice Ax_Stack nx_Stack cx_Stack) sca38 rfl ((((hm14).lo hk22).lo hw').cell rfl)) <| QR.g' rfl (fun w' hw' => r_fa fa40_2 rfl) <| QR.g' rfl (fun w' hw' => r_ld (v := .slice Ax_Stack nx_Stack cx_Stack) sca38 rfl ((((hm14).lo hk22).lo hw').cell rfl)) <| QR.g' rfl (fun w' hw' => r_mv (v := .int .i64 _) rfl) <| QR.g' rfl (fun w' hw' => r_ixR tsl38 ((((hm15).lo hk22).lo hw')) rfl rfl (by omega)) <| QR.g' rfl (fun w' hw' => r_ld (v := .int .i64 (gt x.Stack k)) sca3 rfl (((((hm15).lo hk22).lo hw')).cell0 hx29 rfl)) <| QR.gcall rfl ent98 (fun w' hw' => (c_spec_l21Find w' x.Stack (((((hm15).lo hk22).lo hw'))) (gt x.Stack k)).mono fun _ _ h => ⟨h.1, hw'.trans h.2⟩) rfl <| ?_
          have hq33 : idxF (eqI (gt x.Stack k)) x.Stack < (x.Stack.length : Int) ∧ -1 ≤ idxF (eqI (gt x.Stack k)) x.Stack := idx_lt
          refine QR.g' rfl (fun w' hw' => r_mv (v := .int .i64 _) rfl) <| QR.g' rfl (fun w' hw' => r_ne rfl rfl) <| QR.q' (fun w' hw' => r_pick false rfl (v := .bool _) rfl) <| QR.nil ?_
          intro w34 hk35
          exact ⟨⟨rfl, rfl, (eND (jmt h30)), trivial⟩, hk35, hx29⟩
      rintro f36 w37 ⟨hat38, hk39, hq40⟩
      rw [← sets_of_at hat38]
      have hz41 := hk39.size
      have hB42 := hB24.lo hk39
      refine W.cond_d rfl (fun h43 => ?_) (fun h43 => ?_)
      · refine W.seq ?_
        refine W.regS (SR.q' (r_as (v := .bool false) rfl) <| SR.nil ?_)
        refine W.ret ?_
        refine ret1 rfl (v := .bool _) rfl ?_
        exact ⟨eR (eDF (z_c_spec_l21Good_44 x nx_Stack hbdx_Stack hlex_Stack k hi16 h25 hq26 hq27 hq40 h43)), hB42⟩
      · have hq45 : 1 ≤ (gt x.Stack k) ∧ (gt x.Stack k) ≤ 999 := (Classical.not_not.1 (not_or.1 h43).1)
        have hq46 : (idxF (eqI (gt x.Stack k)) x.Stack) = (k : Int) := (Classical.not_not.1 (not_or.1 h43).2)
        refine W.skip ?_
        refine W.regS (SR.q' (r_mv (v := .int .i64 _) rfl) <| SR.q' (r_add rfl rfl (by omega)) <| SR.q' (r_as (v := .int .i64 _) rfl) <| SR.nil ?_)
        refine ⟨k + 1, _, rfl, ⟨rfl, rfl, trivial⟩, ⟨hB42, ((hm14).lo hk22).lo hk39, ((hm15).lo hk22).lo hk39, ?_⟩, ?_⟩
        · exact (z_c_spec_l21Good_47 x nx_Stack hbdx_Stack hlex_Stack k hi16 h25 hq26 hq27 hq40 h43 hq45 hq46)
        · exact (z_c_spec_l21Good_48 x nx_Stack hbdx_Stack hlex_Stack k hi16 h25 hq26 hq27 hq40 h43 hq45 hq46)
    · refine W.exit (xin_here ?_)
      refine W.seq ?_
      refine W.seq ?_
      refine W.regJS (fun f' w' => At f' [(1, .pointer (some ((⟨g1, 0, none⟩ : Addr)))), (52, .bool (decide (((x.State = 2) ∧ (¬ (1 ≤ x.Key ∧ x.Key ≤ 9999))) ∨ ((¬ (x.State = 2)) ∧ (¬ (x.Key = 0))))))] ∧ Lo w20 w') ?_ ?_
      · refine SR.q' (r_fa fa40_0 rfl) <| SR.q' (r_ld (v := .int .i64 x.State) sca3 rfl (((hm14).lo hk22).cell rfl)) <| SR.q' (r_eq rfl rfl) <| SR.q' (r_mv (v := .bool _) rfl) <| SR.splitD (fun h49 => ?_) (fun h49 => ?_)
        · refine SR.g' rfl (r_fa fa40_1 rfl) <| SR.g' rfl (r_ld (v := .int .i64 x.Key) sca3 rfl (((hm14).lo hk22).cell rfl)) <| SR.gcall rfl ent58 (c_spec_l1In w20 x.Key 1 9999) rfl ?_
          rintro e w50 ⟨rfl, hk51⟩
          refine ⟨_, rfl, ?_⟩
          have hz52 := hk51.size
          have hB53 := hB24.lo hk51
          refine SR.g' rfl (r_not rfl) <| SR.q' (r_pick true rfl (v := .bool _) rfl) <| SR.q' (r_mv (v := .bool _) rfl) <| SR.splitN (fun h54 => ?_) (fun h54 => ?_)
          · refine SR.s' rfl <| SR.s' rfl <| SR.s' rfl <| SR.s' rfl <| SR.u' rfl <| SR.u' rfl <| SR.u' rfl <| SR.s' rfl <| SR.q' (r_pick true rfl (v := .bool true) rfl) <| SR.nil ?_
            exact ⟨_, rfl, ⟨⟨rfl, (eDT (((j2f h54).trans (jgt h49)).1 trivial)), trivial⟩, (hk51)⟩⟩
          · refine SR.g' rfl (r_fa fa40_0 rfl) <| SR.g' rfl (r_ld (v := .int .i64 x.State) sca3 rfl ((((hm14).lo hk22).lo hk51).cell rfl)) <| SR.g' rfl (r_ne rfl rfl) <| SR.g' rfl (r_mv (v := .bool _) rfl) <| SR.known (not_decide_t h49) <| SR.s' rfl <| SR.s' rfl <| SR.s' rfl <| SR.g' rfl (r_pick false rfl (v := .bool false) rfl) <| SR.q' (r_pick false rfl (v := .bool _) rfl) <| SR.nil ?_
            exact ⟨_, rfl, ⟨⟨rfl, (eDF ((j2t h54).trans (jgt h49)).2), trivial⟩, (hk51)⟩⟩
        · refine SR.s' rfl <| SR.s' rfl <| SR.s' rfl <| SR.s' rfl <| SR.q' (r_pick false rfl (v := .bool false) rfl) <| SR.q' (r_mv (v := .bool _) rfl) <| SR.g' rfl (r_fa fa40_0 rfl) <| SR.g' rfl (r_ld (v := .int .i64 x.State) sca3 rfl (((hm14).lo hk22).cell rfl)) <| SR.g' rfl (r_ne rfl rfl) <| SR.g' rfl (r_mv (v := .bool _) rfl) <| SR.known (not_decide_f h49) <| SR.g' rfl (r_fa fa40_1 rfl) <| SR.g' rfl (r_ld (v := .int .i64 x.Key) sca3 rfl (((hm14).lo hk22).cell rfl)) <| SR.g' rfl (r_ne rfl rfl) <| SR.g' rfl (r_pick true rfl (v := .bool _) rfl) <| SR.q' (r_pick false rfl (v := .bool _) rfl) <| SR.nil ?_
          exact ⟨_, rfl, ⟨⟨rfl, (eND (jgf h49)), trivial⟩, (Lo.refl _)⟩⟩
      rintro f55 w56 ⟨hat57, hk58⟩
      rw [← sets_of_at hat57]
      have hz59 := hk58.size
      have hB60 := hB24.lo hk58
      refine W.cond_d rfl (fun h61 => ?_) (fun h61 => ?_)
      · refine W.seq ?_
        refine W.regS (SR.q' (r_as (v := .bool false) rfl) <| SR.nil ?_)
        refine W.ret ?_
        refine ret1 rfl (v := .bool _) rfl ?_
        exact ⟨eR (eDF (z_c_spec_l21Good_62 x nx_Stack hbdx_Stack hlex_Stack k hi16 h25 h61)), hB60⟩
      · have hq63 : ¬ ((x.State = 2) ∧ (¬ (1 ≤ x.Key ∧ x.Key ≤ 9999))) := (not_or.1 h61).1
        have hq64 : ¬ ((¬ (x.State = 2)) ∧ (¬ (x.Key = 0))) := (not_or.1 h61).2
        refine W.skip ?_
        refine W.seq ?_
        refine W.regJS (fun f' w' => At f' [(2, .bool (decide ((0 ≤ x.State ∧ x.State ≤ 2) ∧ (((nx_Stack : Int) ≤ 10) ∧ ((0 ≤ x.Dust ∧ x.Dust ≤ 100) ∧ ((0 ≤ x.Laid ∧ x.Laid ≤ 9999) ∧ ((0 ≤ x.Given ∧ x.Given ≤ 9999) ∧ ((x.Laid - x.Given) = (nx_Stack : Int)))))))))] ∧ Lo w56 w') ?_ ?_
        · refine SR.q' (r_fa fa40_0 rfl) <| SR.q' (r_ld (v := .int .i64 x.State) sca3 rfl ((((hm14).lo hk22).lo hk58).cell rfl)) <| SR.call ent58 (c_spec_l1In w56 x.State 0 2) rfl ?_
          rintro e w65 ⟨rfl, hk66⟩
          refine ⟨_, rfl, ?_⟩
          have hz67 := hk66.size
          have hB68 := hB60.lo hk66
          refine SR.q' (r_mv (v := .bool _) rfl) <| SR.splitD (fun h69 => ?_) (fun h69 => ?_)
          · refine SR.g' rfl (r_fa fa40_2 rfl) <| SR.g' rfl (r_ld (v := .slice Ax_Stack nx_Stack cx_Stack) sca38 rfl (((((hm14).lo hk22).lo hk58).lo hk66).cell rfl)) <| SR.g' rfl (r_len und38 rfl) <| SR.g' rfl (r_le rfl rfl) <| SR.q' (r_pick true rfl (v := .bool _) rfl) <| SR.q' (r_mv (v := .bool _) rfl) <| SR.splitD (fun h70 => ?_) (fun h70 => ?_)
            · refine SR.g' rfl (r_fa fa40_3 rfl) <| SR.g' rfl (r_ld (v := .int .i64 x.Dust) sca3 rfl (((((hm14).lo hk22).lo hk58).lo hk66).cell rfl)) <| SR.gcall rfl ent58 (c_spec_l1In w65 x.Dust 0 100) rfl ?_
              rintro e w71 ⟨rfl, hk72⟩
              refine ⟨_, rfl, ?_⟩
              have hz73 := hk72.size
              have hB74 := hB68.lo hk72
              refine SR.q' (r_pick true rfl (v := .bool _) rfl) <| SR.q' (r_mv (v := .bool _) rfl) <| SR.splitD (fun h75 => ?_) (fun h75 => ?_)
              · refine SR.g' rfl (r_fa fa40_4 rfl) <| SR.g' rfl (r_ld (v := .int .i64 x.Laid) sca3 rfl ((((((hm14).lo hk22).lo hk58).lo hk66).lo hk72).cell rfl)) <| SR.gcall rfl ent58 (c_spec_l1In w71 x.Laid 0 9999) rfl ?_
                rintro e w76 ⟨rfl, hk77⟩
                refine ⟨_, rfl, ?_⟩
                have hz78 := hk77.size
                have hB79 := hB74.lo hk77
                refine SR.q' (r_pick true rfl (v := .bool _) rfl) <| SR.q' (r_mv (v := .bool _) rfl) <| SR.splitD (fun h80 => ?_) (fun h80 => ?_)
                · refine SR.g' rfl (r_fa fa40_5 rfl) <| SR.g' rfl (r_ld (v := .int .i64 x.Given) sca3 rfl (((((((hm14).lo hk22).lo hk58).lo hk66).lo hk72).lo hk77).cell rfl)) <| SR.gcall rfl ent58 (c_spec_l1In w76 x.Given 0 9999) rfl ?_
                  rintro e w81 ⟨rfl, hk82⟩
                  refine ⟨_, rfl, ?_⟩
                  have hz83 := hk82.size
                  have hB84 := hB79.lo hk82
                  refine SR.q' (r_pick true rfl (v := .bool _) rfl) <| SR.q' (r_mv (v := .bool _) rfl) <| SR.splitD (fun h85 => ?_) (fun h85 => ?_)
                  · refine SR.g' rfl (r_fa fa40_4 rfl) <| SR.g' rfl (r_ld (v := .int .i64 x.Laid) sca3 rfl ((((((((hm14).lo hk22).lo hk58).lo hk66).lo hk72).lo hk77).lo hk82).cell rfl)) <| SR.g' rfl (r_fa fa40_5 rfl) <| SR.g' rfl (r_ld (v := .int .i64 x.Given) sca3 rfl ((((((((hm14).lo hk22).lo hk58).lo hk66).lo hk72).lo hk77).lo hk82).cell rfl)) <| SR.g' rfl (r_sub rfl rfl (by omega)) <| SR.g' rfl (r_fa fa40_2 rfl) <| SR.g' rfl (r_ld (v := .slice Ax_Stack nx_Stack cx_Stack) sca38 rfl ((((((((hm14).lo hk22).lo hk58).lo hk66).lo hk72).lo hk77).lo hk82).cell rfl)) <| SR.g' rfl (r_len und38 rfl) <| SR.g' rfl (r_eq rfl rfl) <| SR.q' (r_pick true rfl (v := .bool _) rfl) <| SR.q' (r_as (v := .bool _) rfl) <| SR.nil ?_
                    exact ⟨_, rfl, ⟨⟨(eDD (((((jat h85).trans (jat h80)).trans (jat h75)).trans (jat h70)).trans (jat h69))), trivial⟩, ((((hk66).trans hk72).trans hk77).trans hk82)⟩⟩
                  · refine SR.s' rfl <| SR.s' rfl <| SR.s' rfl <| SR.s' rfl <| SR.s' rfl <| SR.s' rfl <| SR.s' rfl <| SR.s' rfl <| SR.s' rfl <| SR.q' (r_pick false rfl (v := .bool false) rfl) <| SR.q' (r_as (v := .bool _) rfl) <| SR.nil ?_
                    exact ⟨_, rfl, ⟨⟨(eDF (((((jaf h85).trans (jat h80)).trans (jat h75)).trans (jat h70)).trans (jat h69)).2), trivial⟩, ((((hk66).trans hk72).trans hk77).trans hk82)⟩⟩
                · refine SR.s' rfl <| SR.s' rfl <| SR.s' rfl <| SR.q' (r_pick false rfl (v := .bool false) rfl) <| SR.q' (r_mv (v := .bool _) rfl) <| SR.s' rfl <| SR.s' rfl <| SR.s' rfl <| SR.s' rfl <| SR.s' rfl <| SR.s' rfl <| SR.s' rfl <| SR.s' rfl <| SR.s' rfl <| SR.q' (r_pick false rfl (v := .bool false) rfl) <| SR.q' (r_as (v := .bool _) rfl) <| SR.nil ?_
                  exact ⟨_, rfl, ⟨⟨(eDF ((((jaf h80).trans (jat h75)).trans (jat h70)).trans (jat h69)).2), trivial⟩, (((hk66).trans hk72).trans hk77)⟩⟩
              · refine SR.s' rfl <| SR.s' rfl <| SR.s' rfl <| SR.q' (r_pick false rfl (v := .bool false) rfl) <| SR.q' (r_mv (v := .bool _) rfl) <| SR.s' rfl <| SR.s' rfl <| SR.s' rfl <| SR.q' (r_pick false rfl (v := .bool false) rfl) <| SR.q' (r_mv (v := .bool _) rfl) <| SR.s' rfl <| SR.s' rfl <| SR.s' rfl <| SR.s' rfl <| SR.s' rfl <| SR.s' rfl <| SR.s' rfl <| SR.s' rfl <| SR.s' rfl <| SR.q' (r_pick false rfl (v := .bool false) rfl) <| SR.q' (r_as (v := .bool _) rfl) <| SR.nil ?_
                exact ⟨_, rfl, ⟨⟨(eDF (((jaf h75).trans (jat h70)).trans (jat h69)).2), trivial⟩, ((hk66).trans hk72)⟩⟩
            · refine SR.s' rfl <| SR.s' rfl <| SR.s' rfl <| SR.q' (r_pick false rfl (v := .bool false) rfl) <| SR.q' (r_mv (v := .bool _) rfl) <| SR.s' rfl <| SR.s' rfl <| SR.s' rfl <| SR.q' (r_pick false rfl (v := .bool false) rfl) <| SR.q' (r_mv (v := .bool _) rfl) <| SR.s' rfl <| SR.s' rfl <| SR.s' rfl <| SR.q' (r_pick false rfl (v := .bool false) rfl) <| SR.q' (r_mv (v := .bool _) rfl) <| SR.s' rfl <| SR.s' rfl <| SR.s' rfl <| SR.s' rfl <| SR.s' rfl <| SR.s' rfl <| SR.s' rfl <| SR.s' rfl <| SR.s' rfl <| SR.q' (r_pick false rfl (v := .bool false) rfl) <| SR.q' (r_as (v := .bool _) rfl) <| SR.nil ?_
              exact ⟨_, rfl, ⟨⟨(eDF ((jaf h70).trans (jat h69)).2), trivial⟩, (hk66)⟩⟩
          · refine SR.s' rfl <| SR.s' rfl <| SR.s' rfl <| SR.s' rfl <| SR.q' (r_pick false rfl (v := .bool false) rfl) <| SR.q' (r_mv (v := .bool _) rfl) <| SR.s' rfl <| SR.s' rfl <| SR.s' rfl <| SR.q' (r_pick false rfl (v := .bool false) rfl) <| SR.q' (r_mv (v := .bool _) rfl) <| SR.s' rfl <| SR.s' rfl <| SR.s' rfl <| SR.q' (r_pick false rfl (v := .bool false) rfl) <| SR.q' (r_mv (v := .bool _) rfl) <| SR.s' rfl <| SR.s' rfl <| SR.s' rfl <| SR.q' (r_pick false rfl (v := .bool false) rfl) <| SR.q' (r_mv (v := .bool _) rfl) <| SR.s' rfl <| SR.s' rfl <| SR.s' rfl <| SR.s' rfl <| SR.s' rfl <| SR.s' rfl <| SR.s' rfl <| SR.s' rfl <| SR.s' rfl <| SR.q' (r_pick false rfl (v := .bool false) rfl) <| SR.q' (r_as (v := .bool _) rfl) <| SR.nil ?_
            exact ⟨_, rfl, ⟨⟨(eDF (jaf h69).2), trivial⟩, (hk66)⟩⟩
        rintro f86 w87 ⟨hat88, hk89⟩
        rw [← sets_of_at hat88]
        have hz90 := hk89.size
        have hB91 := hB60.lo hk89
        refine W.ret ?_
        refine ret1 rfl (v := .bool _) rfl ?_
        exact ⟨eR (eDD (z_c_spec_l21Good_92 x nx_Stack hbdx_Stack hlex_Stack k hi16 h25 h61 hq63 hq64)), hB91⟩

open Classical in
noncomputable def impl_isChestStep (s : ChestStep) : Bool :=
  if s.Kind = 1 then decide (s.Value = 0) else if s.Kind = 2 then decide (s.Value = 0) else if s.Kind = 3 then decide (1 ≤ s.Value ∧ s.Value ≤ 9999) else if s.Kind = 4 then decide (1 ≤ s.Value ∧ s.Value ≤ 9999) else if s.Kind = 5 then decide (1 ≤ s.Value ∧ s.Value ≤ 999) else if s.Kind = 6 then decide (1 ≤ s.Value ∧ s.Value ≤ 999) else decide ((s.Kind = 7) ∧ (0 ≤ s.Value ∧ s.Value ≤ 100))
theorem c_impl_isChestStep (w : World) (s : ChestStep) : Calls Tryd.prog 101 #[.agg (List.toArray (encChestStep s))] w fun e w' => e = .returned (.bool (impl_isChestStep s)) ∧ Lo w w' := by
  refine calls_W 31 Tryd.func101 rfl rfl rfl ?_
  refine W.seq ?_
  refine W.regS (SR.box (v := .agg (List.toArray _)) (l := [.int .i64 s.Kind, .int .i64 s.Value]) rfl rfl ?_)
  intro g1 w2 hg3 hk4 hs5 hb6
  have hz7 := hk4.size
  have hB8 := (Lo.refl w).lo hk4
  refine SR.q' (r_as (v := .bool false) rfl) <| SR.nil ?_
  refine W.seq ?_
  refine W.seq ?_
  refine W.regS (SR.q' (r_fa fa48_0 rfl) <| SR.q' (r_ld (v := .int .i64 s.Kind) sca3 rfl ((hb6).cell rfl)) <| SR.nil ?_)
  refine W.block ?_
  refine W.seq ?_
  refine W.seq ?_
  refine W.regS (SR.q' (r_eq rfl rfl) <| SR.q' (r_as (v := .bool _) rfl) <| SR.nil ?_)
  refine W.cond_d rfl (fun h9 => ?_) (fun h9 => ?_)
  · refine W.skip ?_
    refine W.cond_t (congrArg Value.bool (decide_eq_true h9)) ?_
    refine W.seq ?_
    refine W.regS (SR.q' (r_fa fa48_1 rfl) <| SR.q' (r_ld (v := .int .i64 s.Value) sca3 rfl ((hb6).cell rfl)) <| SR.q' (r_eq rfl rfl) <| SR.q' (r_as (v := .bool _) rfl) <| SR.nil ?_)
    refine W.ret ?_
    refine ret1 rfl (v := .bool _) rfl ?_
    exact ⟨eR (eB (by unfold impl_isChestStep; rw [if_pos h9] <;> rfl)), hB8⟩
  · refine W.regS (SR.q' (r_eq rfl rfl) <| SR.q' (r_as (v := .bool _) rfl) <| SR.nil ?_)
    refine W.cond_d rfl (fun h10 => ?_) (fun h10 => ?_)
    · refine W.seq ?_
      refine W.regS (SR.q' (r_fa fa48_1 rfl) <| SR.q' (r_ld (v := .int .i64 s.Value) sca3 rfl ((hb6).cell rfl)) <| SR.q' (r_eq rfl rfl) <| SR.q' (r_as (v := .bool _) rfl) <| SR.nil ?_)
      refine W.ret ?_
      refine ret1 rfl (v := .bool _) rfl ?_
      exact ⟨eR (eB (by unfold impl_isChestStep; rw [if_neg h9, if_pos h10] <;> rfl)), hB8⟩
    · refine W.seq ?_
      refine W.seq ?_
      refine W.regS (SR.q' (r_eq rfl rfl) <| SR.q' (r_as (v := .bool _) rfl) <| SR.nil ?_)
      refine W.cond_d rfl (fun h11 => ?_) (fun h11 => ?_)
      · refine W.skip ?_
        refine W.cond_t (congrArg Value.bool (decide_eq_true h11)) ?_
        refine W.seq ?_
        refine W.regS (SR.q' (r_fa fa48_1 rfl) <| SR.q' (r_ld (v := .int .i64 s.Value) sca3 rfl ((hb6).cell rfl)) <| SR.call ent66 (c_impl_isKey w2 s.Value) rfl ?_)
        rintro e w12 ⟨rfl, hk13⟩
        refine ⟨_, rfl, ?_⟩
        have hz14 := hk13.size
        have hB15 := hB8.lo hk13
        refine SR.q' (r_as (v := .bool _) rfl) <| SR.nil ?_
        refine W.ret ?_
        refine ret1 rfl (v := .bool _) rfl ?_
        exact ⟨eR (eB (by unfold impl_isChestStep; rw [if_neg h9, if_neg h10, if_pos h11] <;> rfl)), hB15⟩
      · refine W.regS (SR.q' (r_eq rfl rfl) <| SR.q' (r_as (v := .bool _) rfl) <| SR.nil ?_)
        refine W.cond_d rfl (fun h16 => ?_) (fun h16 => ?_)
        · refine W.seq ?_
          refine W.regS (SR.q' (r_fa fa48_1 rfl) <| SR.q' (r_ld (v := .int .i64 s.Value) sca3 rfl ((hb6).cell rfl)) <| SR.call ent66 (c_impl_isKey w2 s.Value) rfl ?_)
          rintro e w17 ⟨rfl, hk18⟩
          refine ⟨_, rfl, ?_⟩
          have hz19 := hk18.size
          have hB20 := hB8.lo hk18
          refine SR.q' (r_as (v := .bool _) rfl) <| SR.nil ?_
          refine W.ret ?_
          refine ret1 rfl (v := .bool _) rfl ?_
          exact ⟨eR (eB (by unfold impl_isChestStep; rw [if_neg h9, if_neg h10, if_neg h11, if_pos h16] <;> rfl)), hB20⟩
        · refine W.seq ?_
          refine W.seq ?_
          refine W.regS (SR.q' (r_eq rfl rfl) <| SR.q' (r_as (v := .bool _) rfl) <| SR.nil ?_)
          refine W.cond_d rfl (fun h21 => ?_) (fun h21 => ?_)
          · refine W.skip ?_
            refine W.cond_t (congrArg Value.bool (decide_eq_true h21)) ?_
            refine W.seq ?_
            refine W.regS (SR.q' (r_fa fa48_1 rfl) <| SR.q' (r_ld (v := .int .i64 s.Value) sca3 rfl ((hb6).cell rfl)) <| SR.call ent64 (c_impl_isId w2 s.Value) rfl ?_)
            rintro e w22 ⟨rfl, hk23⟩
            refine ⟨_, rfl, ?_⟩
            have hz24 := hk23.size
            have hB25 := hB8.lo hk23
            refine SR.q' (r_as (v := .bool _) rfl) <| SR.nil ?_
            refine W.ret ?_
            refine ret1 rfl (v := .bool _) rfl ?_
            exact ⟨eR (eB (by unfold impl_isChestStep; rw [if_neg h9, if_neg h10, if_neg h11, if_neg h16, if_pos h21] <;> rfl)), hB25⟩
          · refine W.regS (SR.q' (r_eq rfl rfl) <| SR.q' (r_as (v := .bool _) rfl) <| SR.nil ?_)
            refine W.cond_d rfl (fun h26 => ?_) (fun h26 => ?_)
            · refine W.seq ?_
              refine W.regS (SR.q' (r_fa fa48_1 rfl) <| SR.q' (r_ld (v := .int .i64 s.Value) sca3 rfl ((hb6).cell rfl)) <| SR.call ent64 (c_impl_isId w2 s.Value) rfl ?_)
              rintro e w27 ⟨rfl, hk28⟩
              refine ⟨_, rfl, ?_⟩
              have hz29 := hk28.size
              have hB30 := hB8.lo hk28
              refine SR.q' (r_as (v := .bool _) rfl) <| SR.nil ?_
              refine W.ret ?_
              refine ret1 rfl (v := .bool _) rfl ?_
              exact ⟨eR (eB (by unfold impl_isChestStep; rw [if_neg h9, if_neg h10, if_neg h11, if_neg h16, if_neg h21, if_pos h26] <;> rfl)), hB30⟩
            · refine W.skip ?_
              refine W.seq ?_
              refine W.regJS (fun f' w' => At f' [(2, .bool (decide ((s.Kind = 7) ∧ (0 ≤ s.Value ∧ s.Value ≤ 100))))] ∧ Lo w2 w') ?_ ?_
              · refine SR.q' (r_fa fa48_0 rfl) <| SR.q' (r_ld (v := .int .i64 s.Kind) sca3 rfl ((hb6).cell rfl)) <| SR.q' (r_eq rfl rfl) <| SR.q' (r_mv (v := .bool _) rfl) <| SR.splitD (fun h31 => ?_) (fun h31 => ?_)
                · refine SR.g' rfl (r_fa fa48_1 rfl) <| SR.g' rfl (r_ld (v := .int .i64 s.Value) sca3 rfl ((hb6).cell rfl)) <| SR.gcall rfl ent55 (c_impl_within w2 s.Value 0 100) rfl ?_
                  rintro e w32 ⟨rfl, hk33⟩
                  refine ⟨_, rfl, ?_⟩
                  have hz34 := hk33.size
                  have hB35 := hB8.lo hk33
                  refine SR.q' (r_pick true rfl (v := .bool _) rfl) <| SR.q' (r_as (v := .bool _) rfl) <| SR.nil ?_
                  exact ⟨_, rfl, ⟨⟨(eDD (jat h31)), trivial⟩, (hk33)⟩⟩
                · refine SR.s' rfl <| SR.s' rfl <| SR.s' rfl <| SR.q' (r_pick false rfl (v := .bool false) rfl) <| SR.q' (r_as (v := .bool _) rfl) <| SR.nil ?_
                  exact ⟨_, rfl, ⟨⟨(eDF (jaf h31).2), trivial⟩, (Lo.refl _)⟩⟩
              rintro f36 w37 ⟨hat38, hk39⟩
              rw [← sets_of_at hat38]
              have hz40 := hk39.size
              have hB41 := hB8.lo hk39
              refine W.ret ?_
              refine ret1 rfl (v := .bool _) rfl ?_
              exact ⟨eR (eB (by unfold impl_isChestStep; rw [if_neg h9, if_neg h10, if_neg h11, if_neg h16, if_neg h21, if_neg h26] <;> rfl)), hB41⟩

open Classical in
noncomputable def spec_l21Step (s : ChestStep) : Bool :=
  if s.Kind = 1 then decide (s.Value = 0) else if s.Kind = 2 then decide (s.Value = 0) else if s.Kind = 3 then decide (1 ≤ s.Value ∧ s.Value ≤ 9999) else if s.Kind = 4 then decide (1 ≤ s.Value ∧ s.Value ≤ 9999) else if s.Kind = 5 then decide (1 ≤ s.Value ∧ s.Value ≤ 999) else if s.Kind = 6 then decide (1 ≤ s.Value ∧ s.Value ≤ 999) else decide ((s.Kind = 7) ∧ (0 ≤ s.Value ∧ s.Value ≤ 100))
theorem c_spec_l21Step (w : World) (s : ChestStep) : Calls Tryd.prog 116 #[.agg (List.toArray (encChestStep s))] w fun e w' => e = .returned (.bool (spec_l21Step s)) ∧ Lo w w' := by
  refine calls_W 31 Tryd.func116 rfl rfl rfl ?_
  refine W.seq ?_
  refine W.regS (SR.box (v := .agg (List.toArray _)) (l := [.int .i64 s.Kind, .int .i64 s.Value]) rfl rfl ?_)
  intro g1 w2 hg3 hk4 hs5 hb6
  have hz7 := hk4.size
  have hB8 := (Lo.refl w).lo hk4
  refine SR.q' (r_as (v := .bool false) rfl) <| SR.nil ?_
  refine W.seq ?_
  refine W.seq ?_
  refine W.regS (SR.q' (r_fa fa48_0 rfl) <| SR.q' (r_ld (v := .int .i64 s.Kind) sca3 rfl ((hb6).cell rfl)) <| SR.nil ?_)
  refine W.block ?_
  refine W.seq ?_
  refine W.seq ?_
  refine W.regS (SR.q' (r_eq rfl rfl) <| SR.q' (r_as (v := .bool _) rfl) <| SR.nil ?_)
  refine W.cond_d rfl (fun h9 => ?_) (fun h9 => ?_)
  · refine W.skip ?_
    refine W.cond_t (congrArg Value.bool (decide_eq_true h9)) ?_
    refine W.seq ?_
    refine W.regS (SR.q' (r_fa fa48_1 rfl) <| SR.q' (r_ld (v := .int .i64 s.Value) sca3 rfl ((hb6).cell rfl)) <| SR.q' (r_eq rfl rfl) <| SR.q' (r_as (v := .bool _) rfl) <| SR.nil ?_)
    refine W.ret ?_
    refine ret1 rfl (v := .bool _) rfl ?_
    exact ⟨eR (eB (by unfold spec_l21Step; rw [if_pos h9] <;> rfl)), hB8⟩
  · refine W.regS (SR.q' (r_eq rfl rfl) <| SR.q' (r_as (v := .bool _) rfl) <| SR.nil ?_)
    refine W.cond_d rfl (fun h10 => ?_) (fun h10 => ?_)
    · refine W.seq ?_
      refine W.regS (SR.q' (r_fa fa48_1 rfl) <| SR.q' (r_ld (v := .int .i64 s.Value) sca3 rfl ((hb6).cell rfl)) <| SR.q' (r_eq rfl rfl) <| SR.q' (r_as (v := .bool _) rfl) <| SR.nil ?_)
      refine W.ret ?_
      refine ret1 rfl (v := .bool _) rfl ?_
      exact ⟨eR (eB (by unfold spec_l21Step; rw [if_neg h9, if_pos h10] <;> rfl)), hB8⟩
    · refine W.seq ?_
      refine W.seq ?_
      refine W.regS (SR.q' (r_eq rfl rfl) <| SR.q' (r_as (v := .bool _) rfl) <| SR.nil ?_)
      refine W.cond_d rfl (fun h11 => ?_) (fun h11 => ?_)
      · refine W.skip ?_
        refine W.cond_t (congrArg Value.bool (decide_eq_true h11)) ?_
        refine W.seq ?_
        refine W.regS (SR.q' (r_fa fa48_1 rfl) <| SR.q' (r_ld (v := .int .i64 s.Value) sca3 rfl ((hb6).cell rfl)) <| SR.call ent58 (c_spec_l1In w2 s.Value 1 9999) rfl ?_)
        rintro e w12 ⟨rfl, hk13⟩
        refine ⟨_, rfl, ?_⟩
        have hz14 := hk13.size
        have hB15 := hB8.lo hk13
        refine SR.q' (r_as (v := .bool _) rfl) <| SR.nil ?_
        refine W.ret ?_
        refine ret1 rfl (v := .bool _) rfl ?_
        exact ⟨eR (eB (by unfold spec_l21Step; rw [if_neg h9, if_neg h10, if_pos h11] <;> rfl)), hB15⟩
      · refine W.regS (SR.q' (r_eq rfl rfl) <| SR.q' (r_as (v := .bool _) rfl) <| SR.nil ?_)
        refine W.cond_d rfl (fun h16 => ?_) (fun h16 => ?_)
        · refine W.seq ?_
          refine W.regS (SR.q' (r_fa fa48_1 rfl) <| SR.q' (r_ld (v := .int .i64 s.Value) sca3 rfl ((hb6).cell rfl)) <| SR.call ent58 (c_spec_l1In w2 s.Value 1 9999) rfl ?_)
          rintro e w17 ⟨rfl, hk18⟩
          refine ⟨_, rfl, ?_⟩
          have hz19 := hk18.size
          have hB20 := hB8.lo hk18
          refine SR.q' (r_as (v := .bool _) rfl) <| SR.nil ?_
          refine W.ret ?_
          refine ret1 rfl (v := .bool _) rfl ?_
          exact ⟨eR (eB (by unfold spec_l21Step; rw [if_neg h9, if_neg h10, if_neg h11, if_pos h16] <;> rfl)), hB20⟩
        · refine W.seq ?_
          refine W.seq ?_
          refine W.regS (SR.q' (r_eq rfl rfl) <| SR.q' (r_as (v := .bool _) rfl) <| SR.nil ?_)
          refine W.cond_d rfl (fun h21 => ?_) (fun h21 => ?_)
          · refine W.skip ?_
            refine W.cond_t (congrArg Value.bool (decide_eq_true h21)) ?_
            refine W.seq ?_
            refine W.regS (SR.q' (r_fa fa48_1 rfl) <| SR.q' (r_ld (v := .int .i64 s.Value) sca3 rfl ((hb6).cell rfl)) <| SR.call ent58 (c_spec_l1In w2 s.Value 1 999) rfl ?_)
            rintro e w22 ⟨rfl, hk23⟩
            refine ⟨_, rfl, ?_⟩
            have hz24 := hk23.size
            have hB25 := hB8.lo hk23
            refine SR.q' (r_as (v := .bool _) rfl) <| SR.nil ?_
            refine W.ret ?_
            refine ret1 rfl (v := .bool _) rfl ?_
            exact ⟨eR (eB (by unfold spec_l21Step; rw [if_neg h9, if_neg h10, if_neg h11, if_neg h16, if_pos h21] <;> rfl)), hB25⟩
          · refine W.regS (SR.q' (r_eq rfl rfl) <| SR.q' (r_as (v := .bool _) rfl) <| SR.nil ?_)
            refine W.cond_d rfl (fun h26 => ?_) (fun h26 => ?_)
            · refine W.seq ?_
              refine W.regS (SR.q' (r_fa fa48_1 rfl) <| SR.q' (r_ld (v := .int .i64 s.Value) sca3 rfl ((hb6).cell rfl)) <| SR.call ent58 (c_spec_l1In w2 s.Value 1 999) rfl ?_)
              rintro e w27 ⟨rfl, hk28⟩
              refine ⟨_, rfl, ?_⟩
              have hz29 := hk28.size
              have hB30 := hB8.lo hk28
              refine SR.q' (r_as (v := .bool _) rfl) <| SR.nil ?_
              refine W.ret ?_
              refine ret1 rfl (v := .bool _) rfl ?_
              exact ⟨eR (eB (by unfold spec_l21Step; rw [if_neg h9, if_neg h10, if_neg h11, if_neg h16, if_neg h21, if_pos h26] <;> rfl)), hB30⟩
            · refine W.skip ?_
              refine W.seq ?_
              refine W.regJS (fun f' w' => At f' [(2, .bool (decide ((s.Kind = 7) ∧ (0 ≤ s.Value ∧ s.Value ≤ 100))))] ∧ Lo w2 w') ?_ ?_
              · refine SR.q' (r_fa fa48_0 rfl) <| SR.q' (r_ld (v := .int .i64 s.Kind) sca3 rfl ((hb6).cell rfl)) <| SR.q' (r_eq rfl rfl) <| SR.q' (r_mv (v := .bool _) rfl) <| SR.splitD (fun h31 => ?_) (fun h31 => ?_)
                · refine SR.g' rfl (r_fa fa48_1 rfl) <| SR.g' rfl (r_ld (v := .int .i64 s.Value) sca3 rfl ((hb6).cell rfl)) <| SR.gcall rfl ent58 (c_spec_l1In w2 s.Value 0 100) rfl ?_
                  rintro e w32 ⟨rfl, hk33⟩
                  refine ⟨_, rfl, ?_⟩
                  have hz34 := hk33.size
                  have hB35 := hB8.lo hk33
                  refine SR.q' (r_pick true rfl (v := .bool _) rfl) <| SR.q' (r_as (v := .bool _) rfl) <| SR.nil ?_
                  exact ⟨_, rfl, ⟨⟨(eDD (jat h31)), trivial⟩, (hk33)⟩⟩
                · refine SR.s' rfl <| SR.s' rfl <| SR.s' rfl <| SR.q' (r_pick false rfl (v := .bool false) rfl) <| SR.q' (r_as (v := .bool _) rfl) <| SR.nil ?_
                  exact ⟨_, rfl, ⟨⟨(eDF (jaf h31).2), trivial⟩, (Lo.refl _)⟩⟩
              rintro f36 w37 ⟨hat38, hk39⟩
              rw [← sets_of_at hat38]
              have hz40 := hk39.size
              have hB41 := hB8.lo hk39
              refine W.ret ?_
              refine ret1 rfl (v := .bool _) rfl ?_
              exact ⟨eR (eB (by unfold spec_l21Step; rw [if_neg h9, if_neg h10, if_neg h11, if_neg h16, if_neg h21, if_neg h26] <;> rfl)), hB41⟩

open Classical in
noncomputable def impl_Chest_isReady (x : Chest) (s : ChestStep) : Bool :=
  if s.Kind = 1 then decide (x.State = 0) else if s.Kind = 3 then decide (x.State = 0) else if s.Kind = 2 then decide (x.State = 1) else if s.Kind = 4 then decide ((x.State = 2) ∧ (s.Value = x.Key)) else if s.Kind = 5 then decide ((x.State = 1) ∧ (¬ (s.Value ∈ x.Stack))) else if s.Kind = 6 then decide ((x.State = 1) ∧ (s.Value ∈ x.Stack)) else decide ((0 < s.Value) ∨ (x.State = 1))
theorem c__impl_Chest__isReady (w : World) (x : Chest) {Ax_Stack : Option Addr} {nx_Stack cx_Stack Bx_Stack : Nat} (hx_Stack : SlR w Bx_Stack encI 1 Ax_Stack nx_Stack cx_Stack x.Stack) (s : ChestStep) : Calls Tryd.prog 102 #[.agg (List.toArray [.int .i64 x.State, .int .i64 x.Key, .slice Ax_Stack nx_Stack cx_Stack, .int .i64 x.Dust, .int .i64 x.Laid, .int .i64 x.Given]), .agg (List.toArray (encChestStep s))] w fun e w' => e = .returned (.bool (impl_Chest_isReady x s)) ∧ Lo w w' := by
  refine calls_W 63 Tryd.func102 rfl rfl rfl ?_
  have hbdx_Stack := hx_Stack.bound
  have hlex_Stack := hx_Stack.len
  have hBbx_Stack := hx_Stack.bd
  have hbdx_Stack := hx_Stack.bound
  have hlex_Stack := hx_Stack.len
  have hBbx_Stack := hx_Stack.bd
  refine W.seq ?_
  refine W.regS (SR.box (v := .agg (List.toArray _)) (l := [.int .i64 x.State, .int .i64 x.Key, .slice Ax_Stack nx_Stack cx_Stack, .int .i64 x.Dust, .int .i64 x.Laid, .int .i64 x.Given]) rfl rfl ?_)
  intro g1 w2 hg3 hk4 hs5 hb6
  have hz7 := hk4.size
  have hB8 := (Lo.refl w).lo hk4
  refine SR.box (v := .agg (List.toArray _)) (l := [.int .i64 s.Kind, .int .i64 s.Value]) rfl rfl ?_
  intro g9 w10 hg11 hk12 hs13 hb14
  have hz15 := hk12.size
  have hB16 := hB8.lo hk12
  refine SR.q' (r_as (v := .bool false) rfl) <| SR.nil ?_
  refine W.seq ?_
  refine W.seq ?_
  refine W.regS (SR.q' (r_fa fa48_0 rfl) <| SR.q' (r_ld (v := .int .i64 s.Kind) sca3 rfl ((hb14).cell rfl)) <| SR.nil ?_)
  refine W.block ?_
  refine W.seq ?_
  refine W.seq ?_
  refine W.regS (SR.q' (r_eq rfl rfl) <| SR.q' (r_as (v := .bool _) rfl) <| SR.nil ?_)
  refine W.cond_d rfl (fun h17 => ?_) (fun h17 => ?_)
  · refine W.skip ?_
    refine W.cond_t (congrArg Value.bool (decide_eq_true h17)) ?_
    refine W.seq ?_
    refine W.regS (SR.q' (r_fa fa40_0 rfl) <| SR.q' (r_ld (v := .int .i64 x.State) sca3 rfl (((hb6).lo hk12).cell rfl)) <| SR.q' (r_eq rfl rfl) <| SR.q' (r_as (v := .bool _) rfl) <| SR.nil ?_)
    refine W.ret ?_
    refine ret1 rfl (v := .bool _) rfl ?_
    exact ⟨eR (eB (by unfold impl_Chest_isReady; rw [if_pos h17] <;> rfl)), hB16⟩
  · refine W.regS (SR.q' (r_eq rfl rfl) <| SR.q' (r_as (v := .bool _) rfl) <| SR.nil ?_)
    refine W.cond_d rfl (fun h18 => ?_) (fun h18 => ?_)
    · refine W.seq ?_
      refine W.regS (SR.q' (r_fa fa40_0 rfl) <| SR.q' (r_ld (v := .int .i64 x.State) sca3 rfl (((hb6).lo hk12).cell rfl)) <| SR.q' (r_eq rfl rfl) <| SR.q' (r_as (v := .bool _) rfl) <| SR.nil ?_)
      refine W.ret ?_
      refine ret1 rfl (v := .bool _) rfl ?_
      exact ⟨eR (eB (by unfold impl_Chest_isReady; rw [if_neg h17, if_pos h18] <;> rfl)), hB16⟩
    · refine W.seq ?_
      refine W.regS (SR.q' (r_eq rfl rfl) <| SR.q' (r_as (v := .bool _) rfl) <| SR.nil ?_)
      refine W.cond_d rfl (fun h19 => ?_) (fun h19 => ?_)
      · refine W.seq ?_
        refine W.regS (SR.q' (r_fa fa40_0 rfl) <| SR.q' (r_ld (v := .int .i64 x.State) sca3 rfl (((hb6).lo hk12).cell rfl)) <| SR.q' (r_eq rfl rfl) <| SR.q' (r_as (v := .bool _) rfl) <| SR.nil ?_)
        refine W.ret ?_
        refine ret1 rfl (v := .bool _) rfl ?_
        exact ⟨eR (eB (by unfold impl_Chest_isReady; rw [if_neg h17, if_neg h18, if_pos h19] <;> rfl)), hB16⟩
      · refine W.seq ?_
        refine W.regS (SR.q' (r_eq rfl rfl) <| SR.q' (r_as (v := .bool _) rfl) <| SR.nil ?_)
        refine W.cond_d rfl (fun h20 => ?_) (fun h20 => ?_)
        · refine W.seq ?_
          refine W.regJS (fun f' w' => At f' [(2, .pointer (some ((⟨g1, 0, none⟩ : Addr)))), (3, .pointer (some ((⟨g9, 0, none⟩ : Addr)))), (4, .bool (decide ((x.State = 2) ∧ (s.Value = x.Key))))] ∧ Lo w10 w') ?_ ?_
          · refine SR.q' (r_fa fa40_0 rfl) <| SR.q' (r_ld (v := .int .i64 x.State) sca3 rfl (((hb6).lo hk12).cell rfl)) <| SR.q' (r_eq rfl rfl) <| SR.q' (r_mv (v := .bool _) rfl) <| SR.splitD (fun h21 => ?_) (fun h21 => ?_)
            · refine SR.g' rfl (r_fa fa48_1 rfl) <| SR.g' rfl (r_ld (v := .int .i64 s.Value) sca3 rfl ((hb14).cell rfl)) <| SR.g' rfl (r_fa fa40_1 rfl) <| SR.g' rfl (r_ld (v := .int .i64 x.Key) sca3 rfl (((hb6).lo hk12).cell rfl)) <| SR.g' rfl (r_eq rfl rfl) <| SR.q' (r_pick true rfl (v := .bool _) rfl) <| SR.q' (r_as (v := .bool _) rfl) <| SR.nil ?_
              exact ⟨_, rfl, ⟨⟨rfl, rfl, (eDD (jat h21)), trivial⟩, (Lo.refl _)⟩⟩
            · refine SR.s' rfl <| SR.s' rfl <| SR.s' rfl <| SR.s' rfl <| SR.s' rfl <| SR.q' (r_pick false rfl (v := .bool false) rfl) <| SR.q' (r_as (v := .bool _) rfl) <| SR.nil ?_
              exact ⟨_, rfl, ⟨⟨rfl, rfl, (eDF (jaf h21).2), trivial⟩, (Lo.refl _)⟩⟩
          rintro f22 w23 ⟨hat24, hk25⟩
          rw [← sets_of_at hat24]
          have hz26 := hk25.size
          have hB27 := hB16.lo hk25
          refine W.ret ?_
          refine ret1 rfl (v := .bool _) rfl ?_
          exact ⟨eR (eB (by unfold impl_Chest_isReady; rw [if_neg h17, if_neg h18, if_neg h19, if_pos h20] <;> rfl)), hB27⟩
        · refine W.seq ?_
          refine W.regS (SR.q' (r_eq rfl rfl) <| SR.q' (r_as (v := .bool _) rfl) <| SR.nil ?_)
          refine W.cond_d rfl (fun h28 => ?_) (fun h28 => ?_)
          · refine W.seq ?_
            refine W.regJS (fun f' w' => At f' [(2, .pointer (some ((⟨g1, 0, none⟩ : Addr)))), (3, .pointer (some ((⟨g9, 0, none⟩ : Addr)))), (4, .bool (decide ((x.State = 1) ∧ (¬ (s.Value ∈ x.Stack)))))] ∧ Lo w10 w') ?_ ?_
            · refine SR.q' (r_fa fa40_0 rfl) <| SR.q' (r_ld (v := .int .i64 x.State) sca3 rfl (((hb6).lo hk12).cell rfl)) <| SR.q' (r_eq rfl rfl) <| SR.q' (r_mv (v := .bool _) rfl) <| SR.splitD (fun h29 => ?_) (fun h29 => ?_)
              · refine SR.g' rfl (r_fa fa40_2 rfl) <| SR.g' rfl (r_ld (v := .slice Ax_Stack nx_Stack cx_Stack) sca38 rfl (((hb6).lo hk12).cell rfl)) <| SR.g' rfl (r_fa fa48_1 rfl) <| SR.g' rfl (r_ld (v := .int .i64 s.Value) sca3 rfl ((hb14).cell rfl)) <| SR.gcall rfl ent65 (c_slices_Contains___int_int_ w10 x.Stack ((((hx_Stack).lo hk4).lo hk12)) s.Value) rfl ?_
                rintro e w30 ⟨rfl, hk31⟩
                refine ⟨_, rfl, ?_⟩
                have hz32 := hk31.size
                have hB33 := hB16.lo hk31
                refine SR.g' rfl (r_not rfl) <| SR.q' (r_pick true rfl (v := .bool _) rfl) <| SR.q' (r_as (v := .bool _) rfl) <| SR.nil ?_
                exact ⟨_, rfl, ⟨⟨rfl, rfl, (eND (jat h29)), trivial⟩, (hk31)⟩⟩
              · refine SR.s' rfl <| SR.s' rfl <| SR.s' rfl <| SR.s' rfl <| SR.s' rfl <| SR.s' rfl <| SR.q' (r_pick false rfl (v := .bool false) rfl) <| SR.q' (r_as (v := .bool _) rfl) <| SR.nil ?_
                exact ⟨_, rfl, ⟨⟨rfl, rfl, (eDF (jaf h29).2), trivial⟩, (Lo.refl _)⟩⟩
            rintro f34 w35 ⟨hat36, hk37⟩
            rw [← sets_of_at hat36]
            have hz38 := hk37.size
            have hB39 := hB16.lo hk37
            refine W.ret ?_
            refine ret1 rfl (v := .bool _) rfl ?_
            exact ⟨eR (eB (by unfold impl_Chest_isReady; rw [if_neg h17, if_neg h18, if_neg h19, if_neg h20, if_pos h28] <;> rfl)), hB39⟩
          · refine W.seq ?_
            refine W.regS (SR.q' (r_eq rfl rfl) <| SR.q' (r_as (v := .bool _) rfl) <| SR.nil ?_)
            refine W.cond_d rfl (fun h40 => ?_) (fun h40 => ?_)
            · refine W.seq ?_
              refine W.regJS (fun f' w' => At f' [(2, .pointer (some ((⟨g1, 0, none⟩ : Addr)))), (3, .pointer (some ((⟨g9, 0, none⟩ : Addr)))), (4, .bool (decide ((x.State = 1) ∧ (s.Value ∈ x.Stack))))] ∧ Lo w10 w') ?_ ?_
              · refine SR.q' (r_fa fa40_0 rfl) <| SR.q' (r_ld (v := .int .i64 x.State) sca3 rfl (((hb6).lo hk12).cell rfl)) <| SR.q' (r_eq rfl rfl) <| SR.q' (r_mv (v := .bool _) rfl) <| SR.splitD (fun h41 => ?_) (fun h41 => ?_)
                · refine SR.g' rfl (r_fa fa40_2 rfl) <| SR.g' rfl (r_ld (v := .slice Ax_Stack nx_Stack cx_Stack) sca38 rfl (((hb6).lo hk12).cell rfl)) <| SR.g' rfl (r_fa fa48_1 rfl) <| SR.g' rfl (r_ld (v := .int .i64 s.Value) sca3 rfl ((hb14).cell rfl)) <| SR.gcall rfl ent65 (c_slices_Contains___int_int_ w10 x.Stack ((((hx_Stack).lo hk4).lo hk12)) s.Value) rfl ?_
                  rintro e w42 ⟨rfl, hk43⟩
                  refine ⟨_, rfl, ?_⟩
                  have hz44 := hk43.size
                  have hB45 := hB16.lo hk43
                  refine SR.q' (r_pick true rfl (v := .bool _) rfl) <| SR.q' (r_as (v := .bool _) rfl) <| SR.nil ?_
                  exact ⟨_, rfl, ⟨⟨rfl, rfl, (eDD (jat h41)), trivial⟩, (hk43)⟩⟩
                · refine SR.s' rfl <| SR.s' rfl <| SR.s' rfl <| SR.s' rfl <| SR.s' rfl <| SR.q' (r_pick false rfl (v := .bool false) rfl) <| SR.q' (r_as (v := .bool _) rfl) <| SR.nil ?_
                  exact ⟨_, rfl, ⟨⟨rfl, rfl, (eDF (jaf h41).2), trivial⟩, (Lo.refl _)⟩⟩
              rintro f46 w47 ⟨hat48, hk49⟩
              rw [← sets_of_at hat48]
              have hz50 := hk49.size
              have hB51 := hB16.lo hk49
              refine W.ret ?_
              refine ret1 rfl (v := .bool _) rfl ?_
              exact ⟨eR (eB (by unfold impl_Chest_isReady; rw [if_neg h17, if_neg h18, if_neg h19, if_neg h20, if_neg h28, if_pos h40] <;> rfl)), hB51⟩
            · refine W.skip ?_
              refine W.seq ?_
              refine W.regJS (fun f' w' => At f' [(4, .bool (decide ((0 < s.Value) ∨ (x.State = 1))))] ∧ Lo w10 w') ?_ ?_
              · refine SR.q' (r_fa fa48_1 rfl) <| SR.q' (r_ld (v := .int .i64 s.Value) sca3 rfl ((hb14).cell rfl)) <| SR.q' (r_gt rfl rfl) <| SR.q' (r_mv (v := .bool _) rfl) <| SR.splitD (fun h52 => ?_) (fun h52 => ?_)
                · refine SR.s' rfl <| SR.s' rfl <| SR.s' rfl <| SR.q' (r_pick true rfl (v := .bool true) rfl) <| SR.q' (r_as (v := .bool _) rfl) <| SR.nil ?_
                  exact ⟨_, rfl, ⟨⟨(eDT ((jot h52).1 trivial)), trivial⟩, (Lo.refl _)⟩⟩
                · refine SR.g' rfl (r_fa fa40_0 rfl) <| SR.g' rfl (r_ld (v := .int .i64 x.State) sca3 rfl (((hb6).lo hk12).cell rfl)) <| SR.g' rfl (r_eq rfl rfl) <| SR.q' (r_pick false rfl (v := .bool _) rfl) <| SR.q' (r_as (v := .bool _) rfl) <| SR.nil ?_
                  exact ⟨_, rfl, ⟨⟨(eDD (jof h52)), trivial⟩, (Lo.refl _)⟩⟩
              rintro f53 w54 ⟨hat55, hk56⟩
              rw [← sets_of_at hat55]
              have hz57 := hk56.size
              have hB58 := hB16.lo hk56
              refine W.ret ?_
              refine ret1 rfl (v := .bool _) rfl ?_
              exact ⟨eR (eB (by unfold impl_Chest_isReady; rw [if_neg h17, if_neg h18, if_neg h19, if_neg h20, if_neg h28, if_neg h40] <;> rfl)), hB58⟩

theorem c__impl_Chest__own (w : World) (x : Chest) {Ax_Stack : Option Addr} {nx_Stack cx_Stack Bx_Stack : Nat} (hx_Stack : SlR w Bx_Stack encI 1 Ax_Stack nx_Stack cx_Stack x.Stack) (hp0 : (nx_Stack : Int) ≤ 1048576) : Calls Tryd.prog 62 #[.agg (List.toArray [.int .i64 x.State, .int .i64 x.Key, .slice Ax_Stack nx_Stack cx_Stack, .int .i64 x.Dust, .int .i64 x.Laid, .int .i64 x.Given])] w fun e w' => ∃ (A1' : Option Addr) (n1' c1' : Nat), e = .returned (.agg (List.toArray [.int .i64 x.State, .int .i64 x.Key, .slice A1' n1' c1', .int .i64 x.Dust, .int .i64 x.Laid, .int .i64 x.Given])) ∧ SlO w' w.heap.size encI 1 3 A1' n1' c1' x.Stack ∧ Lo w w' := by
  refine calls_W 8 Tryd.func62 rfl rfl rfl ?_
  have hbdx_Stack := hx_Stack.bound
  have hlex_Stack := hx_Stack.len
  have hBbx_Stack := hx_Stack.bd
  refine W.seq ?_
  refine W.regS (SR.box (v := .agg (List.toArray _)) (l := [.int .i64 x.State, .int .i64 x.Key, .slice Ax_Stack nx_Stack cx_Stack, .int .i64 x.Dust, .int .i64 x.Laid, .int .i64 x.Given]) rfl rfl ?_)
  intro g1 w2 hg3 hk4 hs5 hb6
  have hz7 := hk4.size
  have hB8 := (Lo.refl w).lo hk4
  refine SR.alloc (l := [.int .i64 0, .int .i64 0, .slice none 0 0, .int .i64 0, .int .i64 0, .int .i64 0]) tz40 rfl ?_
  intro g9 w10 hg11 hk12 hs13 hb14
  have hz15 := hk12.size
  have hB16 := hB8.lo hk12
  refine SR.nil ?_
  refine W.seq ?_
  refine W.regS (SR.q' (r_fa fa40_2 rfl) <| SR.q' (r_ld (v := .slice Ax_Stack nx_Stack cx_Stack) sca38 rfl (((hb6).lo hk12).cell rfl)) <| SR.call ent104 (c_slices_Clone___int_int_ w10 x.Stack ((((hx_Stack).lo hk4).lo hk12)) (by omega)) rfl ?_)
  rintro e w17 ⟨A19, n20, c21, rfl, hO22, hk18⟩
  refine ⟨_, rfl, ?_⟩
  have hz23 := hk18.size
  have hB24 := hB16.lo hk18
  have hl25 := hO22.len
  have hl26 := hO22.rd.bound
  refine SR.q' (r_fa fa40_2 rfl) <| SR.store (o := 2) (vs := [.slice A19 n20 c21]) sca38.2 rfl rfl rfl rfl (((hb6).lo hk12).lo hk18) (Nat.le_of_ble_eq_true rfl) rfl ?_
  intro w27 hk28 hs29 hb30
  have hz31 := hk28.size
  have hB32 := hB24.new hk28 (by omega)
  refine SR.nil ?_
  refine W.seq ?_
  refine W.regS (SR.q' (r_lda (l := [.int .i64 x.State, .int .i64 x.Key, .slice A19 n20 c21, .int .i64 x.Dust, .int .i64 x.Laid, .int .i64 x.Given]) agg40 rfl (fun _ _ hu => (hb30).cell hu) rfl) <| SR.store (o := 0) (vs := [.int .i64 x.State, .int .i64 x.Key, .slice A19 n20 c21, .int .i64 x.Dust, .int .i64 x.Laid, .int .i64 x.Given]) agg40.2 rfl rfl rfl rfl (((hb14).lo hk18).kp hk28 (fun e' => by have e'' : g9 = g1 := e'; omega)) (Nat.le_of_ble_eq_true rfl) rfl ?_)
  intro w33 hk34 hs35 hb36
  have hz37 := hk34.size
  have hB38 := hB32.new hk34 (by omega)
  refine SR.nil ?_
  refine W.ret ?_
  refine retC rfl rfl agg40 (hb36) rfl ?_
  exact ⟨A19, n20, c21, eR rfl, ((((hO22).kp hk28 (fun b_ hb e' => by have e'' : b_ = g1 := e'; have := (hO22).base_le hb; omega)).kp hk34 (fun b_ hb e' => by have e'' : b_ = g9 := e'; have := ((hO22).kp hk28 (fun b_ hb e' => by have e'' : b_ = g1 := e'; have := (hO22).base_le hb; omega)).base_le hb; omega)).down (by omega)), hB38⟩

theorem c_spec_l21Own (w : World) (x : Chest) {Ax_Stack : Option Addr} {nx_Stack cx_Stack Bx_Stack : Nat} (hx_Stack : SlR w Bx_Stack encI 1 Ax_Stack nx_Stack cx_Stack x.Stack) (hp0 : (nx_Stack : Int) ≤ 1048576) : Calls Tryd.prog 99 #[.agg (List.toArray [.int .i64 x.State, .int .i64 x.Key, .slice Ax_Stack nx_Stack cx_Stack, .int .i64 x.Dust, .int .i64 x.Laid, .int .i64 x.Given])] w fun e w' => ∃ (A1' : Option Addr) (n1' c1' : Nat), e = .returned (.agg (List.toArray [.int .i64 x.State, .int .i64 x.Key, .slice A1' n1' c1', .int .i64 x.Dust, .int .i64 x.Laid, .int .i64 x.Given])) ∧ SlO w' w.heap.size encI 1 3 A1' n1' c1' x.Stack ∧ Lo w w' := by
  refine calls_W 8 Tryd.func99 rfl rfl rfl ?_
  have hbdx_Stack := hx_Stack.bound
  have hlex_Stack := hx_Stack.len
  have hBbx_Stack := hx_Stack.bd
  refine W.seq ?_
  refine W.regS (SR.box (v := .agg (List.toArray _)) (l := [.int .i64 x.State, .int .i64 x.Key, .slice Ax_Stack nx_Stack cx_Stack, .int .i64 x.Dust, .int .i64 x.Laid, .int .i64 x.Given]) rfl rfl ?_)
  intro g1 w2 hg3 hk4 hs5 hb6
  have hz7 := hk4.size
  have hB8 := (Lo.refl w).lo hk4
  refine SR.alloc (l := [.int .i64 0, .int .i64 0, .slice none 0 0, .int .i64 0, .int .i64 0, .int .i64 0]) tz40 rfl ?_
  intro g9 w10 hg11 hk12 hs13 hb14
  have hz15 := hk12.size
  have hB16 := hB8.lo hk12
  refine SR.nil ?_
  refine W.seq ?_
  refine W.regS (SR.q' (r_fa fa40_2 rfl) <| SR.q' (r_ld (v := .slice Ax_Stack nx_Stack cx_Stack) sca38 rfl (((hb6).lo hk12).cell rfl)) <| SR.call ent119 (c_spec_l1Own w10 x.Stack ((((hx_Stack).lo hk4).lo hk12)) (by omega)) rfl ?_)
  rintro e w17 ⟨A19, n20, c21, rfl, hO22, hk18⟩
  refine ⟨_, rfl, ?_⟩
  have hz23 := hk18.size
  have hB24 := hB16.lo hk18
  have hl25 := hO22.len
  have hl26 := hO22.rd.bound
  refine SR.q' (r_fa fa40_2 rfl) <| SR.store (o := 2) (vs := [.slice A19 n20 c21]) sca38.2 rfl rfl rfl rfl (((hb6).lo hk12).lo hk18) (Nat.le_of_ble_eq_true rfl) rfl ?_
  intro w27 hk28 hs29 hb30
  have hz31 := hk28.size
  have hB32 := hB24.new hk28 (by omega)
  refine SR.nil ?_
  refine W.seq ?_
  refine W.regS (SR.q' (r_lda (l := [.int .i64 x.State, .int .i64 x.Key, .slice A19 n20 c21, .int .i64 x.Dust, .int .i64 x.Laid, .int .i64 x.Given]) agg40 rfl (fun _ _ hu => (hb30).cell hu) rfl) <| SR.store (o := 0) (vs := [.int .i64 x.State, .int .i64 x.Key, .slice A19 n20 c21, .int .i64 x.Dust, .int .i64 x.Laid, .int .i64 x.Given]) agg40.2 rfl rfl rfl rfl (((hb14).lo hk18).kp hk28 (fun e' => by have e'' : g9 = g1 := e'; omega)) (Nat.le_of_ble_eq_true rfl) rfl ?_)
  intro w33 hk34 hs35 hb36
  have hz37 := hk34.size
  have hB38 := hB32.new hk34 (by omega)
  refine SR.nil ?_
  refine W.ret ?_
  refine retC rfl rfl agg40 (hb36) rfl ?_
  exact ⟨A19, n20, c21, eR rfl, ((((hO22).kp hk28 (fun b_ hb e' => by have e'' : b_ = g1 := e'; have := (hO22).base_le hb; omega)).kp hk34 (fun b_ hb e' => by have e'' : b_ = g9 := e'; have := ((hO22).kp hk28 (fun b_ hb e' => by have e'' : b_ = g1 := e'; have := (hO22).base_le hb; omega)).base_le hb; omega)).down (by omega)), hB38⟩

open Classical in
noncomputable def impl_Chest_dusted (x : Chest) (v : Int) : Int :=
  if x.State = 1 then min 100 (x.Dust + v) else min 100 (x.Dust + (v / 10))
theorem c__impl_Chest__dusted (w : World) (x : Chest) {Ax_Stack : Option Addr} {nx_Stack cx_Stack Bx_Stack : Nat} (hx_Stack : SlR w Bx_Stack encI 1 Ax_Stack nx_Stack cx_Stack x.Stack) (v : Int) (hp0 : 0 ≤ x.Dust ∧ x.Dust ≤ 100) (hp1 : 0 ≤ v ∧ v ≤ 9999) : Calls Tryd.prog 56 #[.agg (List.toArray [.int .i64 x.State, .int .i64 x.Key, .slice Ax_Stack nx_Stack cx_Stack, .int .i64 x.Dust, .int .i64 x.Laid, .int .i64 x.Given]), .int .i64 v] w fun e w' => e = .returned (.int .i64 (impl_Chest_dusted x v)) ∧ Lo w w' := by
  refine calls_W 15 Tryd.func56 rfl rfl rfl ?_
  have hbdx_Stack := hx_Stack.bound
  have hlex_Stack := hx_Stack.len
  have hBbx_Stack := hx_Stack.bd
  have hbdx_Stack := hx_Stack.bound
  have hlex_Stack := hx_Stack.len
  have hBbx_Stack := hx_Stack.bd
  refine W.seq ?_
  refine W.regS (SR.box (v := .agg (List.toArray _)) (l := [.int .i64 x.State, .int .i64 x.Key, .slice Ax_Stack nx_Stack cx_Stack, .int .i64 x.Dust, .int .i64 x.Laid, .int .i64 x.Given]) rfl rfl ?_)
  intro g1 w2 hg3 hk4 hs5 hb6
  have hz7 := hk4.size
  have hB8 := (Lo.refl w).lo hk4
  refine SR.q' (r_as (v := .int .i64 0) rfl) <| SR.nil ?_
  refine W.seq ?_
  refine W.seq ?_
  refine W.regS (SR.q' (r_fa fa40_0 rfl) <| SR.q' (r_ld (v := .int .i64 x.State) sca3 rfl ((hb6).cell rfl)) <| SR.q' (r_ne rfl rfl) <| SR.nil ?_)
  refine W.cond_n rfl (fun h9 => ?_) (fun h9 => ?_)
  · refine W.regS (SR.q' (r_mv (v := .int .i64 _) rfl) <| SR.q' (r_quo rfl rfl (by omega)) <| SR.q' (r_as (v := .int .i64 _) rfl) <| SR.nil ?_)
    refine W.seq ?_
    refine W.regS (SR.q' (r_fa fa40_3 rfl) <| SR.q' (r_ld (v := .int .i64 x.Dust) sca3 rfl ((hb6).cell rfl)) <| SR.q' (r_mv (v := .int .i64 _) rfl) <| SR.q' (r_add rfl rfl (by omega)) <| SR.q' (r_min rfl rfl) <| SR.q' (r_as (v := .int .i64 _) rfl) <| SR.nil ?_)
    refine W.ret ?_
    refine ret1 rfl (v := .int .i64 _) rfl ?_
    exact ⟨eR (eI (by unfold impl_Chest_dusted; rw [if_neg h9] <;> rfl)), hB8⟩
  · refine W.skip ?_
    refine W.seq ?_
    refine W.regS (SR.q' (r_fa fa40_3 rfl) <| SR.q' (r_ld (v := .int .i64 x.Dust) sca3 rfl ((hb6).cell rfl)) <| SR.q' (r_mv (v := .int .i64 _) rfl) <| SR.q' (r_add rfl rfl (by omega)) <| SR.q' (r_min rfl rfl) <| SR.q' (r_as (v := .int .i64 _) rfl) <| SR.nil ?_)
    refine W.ret ?_
    refine ret1 rfl (v := .int .i64 _) rfl ?_
    exact ⟨eR (eI (by unfold impl_Chest_dusted; rw [if_pos h9] <;> rfl)), hB8⟩

theorem z_c__impl_Chest__after_1_1 (v : Int) (s : ChestStep) : decide (v = s.Value) = eqI s.Value v := by
  simp [eqI]
theorem c__impl_Chest__after_1 (w : World) (v : Int) {gs es : Nat} (s : ChestStep) (hs : Blk w gs es [.int .i64 s.Kind, .int .i64 s.Value]) : Calls Tryd.prog 121 #[.int .i64 v, .pointer (some ⟨gs, 0, none⟩)] w fun e w' => e = .returned (.bool (eqI s.Value v)) ∧ Lo w w' := by
  refine calls_W 8 Tryd.func121 rfl rfl rfl ?_
  have hBls := hs.lt
  refine W.seq ?_
  refine W.regS (SR.q' (r_as (v := .bool false) rfl) <| SR.nil ?_)
  refine W.seq ?_
  refine W.regS (SR.q' (r_mv (v := .int .i64 _) rfl) <| SR.q' (r_fa fa48_1 rfl) <| SR.q' (r_ld (v := .int .i64 s.Value) sca3 rfl ((hs).cell rfl)) <| SR.q' (r_eq rfl rfl) <| SR.q' (r_as (v := .bool _) rfl) <| SR.nil ?_)
  refine W.ret ?_
  refine ret1 rfl (v := .bool _) rfl ?_
  exact ⟨eR (eB (z_c__impl_Chest__after_1_1 v s)), (Lo.refl w)⟩

theorem z_c_slices_DeleteFunc___int_int__7 (L : List Int) (cL : Nat) (nL : Nat) (hbdL : (nL : Int) ≤ 9223372036854775807) (hleL : nL = L.length) (p : Int → Bool) (hq5 : idxF p L < (L.length : Int) ∧ -1 ≤ idxF p L) (h6 : (idxF p L) = (-1)) : L = keep p L := by
  subst hleL
  first | exact keep_all (by omega) | exact del_end ‹_ ∧ _ ∧ _ ∧ _ = keep _ _ ∧ _› (by omega)
theorem z_c_slices_DeleteFunc___int_int__8 (L : List Int) (cL : Nat) (nL : Nat) (hbdL : (nL : Int) ≤ 9223372036854775807) (hleL : nL = L.length) (p : Int → Bool) (hq5 : idxF p L < (L.length : Int) ∧ -1 ≤ idxF p L) (h6 : ¬ ((idxF p L) = (-1))) : (idxF p L).toNat < (idxF p L).toNat + 1 ∧ (idxF p L).toNat + 1 ≤ nL ∧ L.length = L.length ∧ L.take ((idxF p L).toNat) = keep p (L.take ((idxF p L).toNat + 1)) ∧ L.drop ((idxF p L).toNat + 1) = L.drop ((idxF p L).toNat + 1) := by
  exact ⟨by omega, by omega, rfl, (keep_first (by omega)).2.symm, rfl⟩
theorem z_c_slices_DeleteFunc___int_int__9 (L : List Int) (cL : Nat) (nL : Nat) (hbdL : (nL : Int) ≤ 9223372036854775807) (hleL : nL = L.length) (p : Int → Bool) (hq5 : idxF p L < (L.length : Int) ∧ -1 ≤ idxF p L) (h6 : ¬ ((idxF p L) = (-1))) : L = L := by
  rfl
theorem z_c_slices_DeleteFunc___int_int__34 (L : List Int) (cL : Nat) (nL : Nat) (hbdL : (nL : Int) ≤ 9223372036854775807) (hleL : nL = L.length) (p : Int → Bool) (hq5 : idxF p L < (L.length : Int) ∧ -1 ≤ idxF p L) (h6 : ¬ ((idxF p L) = (-1))) (j : Nat) (i : Nat) (M : List Int) (hi15 : i < j ∧ j ≤ nL ∧ M.length = L.length ∧ M.take i = keep p (L.take j) ∧ M.drop j = L.drop j) (h16 : (j : Int) < (nL : Int)) (hx18 : M[j]? = some (gt M j)) (h23 : (!(p (gt M j))) = true) (hq24 : (p (gt M j)) = false) (hx26 : M[i]? = some (gt M i)) (hx33 : (M.set ((i : Int).toNat) (gt M j))[(i : Int).toNat]? = some ((gt M j))) : M.set ((i : Int).toNat) (gt M j) = M.set ((i : Int).toNat) (gt M j) := by
  rfl
theorem z_c_slices_DeleteFunc___int_int__35 (L : List Int) (cL : Nat) (nL : Nat) (hbdL : (nL : Int) ≤ 9223372036854775807) (hleL : nL = L.length) (p : Int → Bool) (hq5 : idxF p L < (L.length : Int) ∧ -1 ≤ idxF p L) (h6 : ¬ ((idxF p L) = (-1))) (j : Nat) (i : Nat) (M : List Int) (hi15 : i < j ∧ j ≤ nL ∧ M.length = L.length ∧ M.take i = keep p (L.take j) ∧ M.drop j = L.drop j) (h16 : (j : Int) < (nL : Int)) (hx18 : M[j]? = some (gt M j)) (h23 : (!(p (gt M j))) = true) (hq24 : (p (gt M j)) = false) (hx26 : M[i]? = some (gt M i)) (hx33 : (M.set ((i : Int).toNat) (gt M j))[(i : Int).toNat]? = some ((gt M j))) : (i + 1) < j + 1 ∧ j + 1 ≤ nL ∧ (M.set ((i : Int).toNat) (gt M j)).length = L.length ∧ (M.set ((i : Int).toNat) (gt M j)).take (i + 1) = keep p (L.take (j + 1)) ∧ (M.set ((i : Int).toNat) (gt M j)).drop (j + 1) = L.drop (j + 1) := by
  subst hleL
  try simp only [Int.toNat_natCast] at *
  first | exact del_keep ‹_ ∧ _ ∧ _ ∧ _ = keep _ _ ∧ _› (by omega) ‹M[j]? = some _› ‹_› | exact del_drop ‹_ ∧ _ ∧ _ ∧ _ = keep _ _ ∧ _› (by omega) ‹M[j]? = some _› ‹_›
theorem z_c_slices_DeleteFunc___int_int__36 (L : List Int) (cL : Nat) (nL : Nat) (hbdL : (nL : Int) ≤ 9223372036854775807) (hleL : nL = L.length) (p : Int → Bool) (hq5 : idxF p L < (L.length : Int) ∧ -1 ≤ idxF p L) (h6 : ¬ ((idxF p L) = (-1))) (j : Nat) (i : Nat) (M : List Int) (hi15 : i < j ∧ j ≤ nL ∧ M.length = L.length ∧ M.take i = keep p (L.take j) ∧ M.drop j = L.drop j) (h16 : (j : Int) < (nL : Int)) (hx18 : M[j]? = some (gt M j)) (h23 : (!(p (gt M j))) = true) (hq24 : (p (gt M j)) = false) (hx26 : M[i]? = some (gt M i)) (hx33 : (M.set ((i : Int).toNat) (gt M j))[(i : Int).toNat]? = some ((gt M j))) : nL - (j + 1) < nL - (j) := by
  omega
theorem z_c_slices_DeleteFunc___int_int__38 (L : List Int) (cL : Nat) (nL : Nat) (hbdL : (nL : Int) ≤ 9223372036854775807) (hleL : nL = L.length) (p : Int → Bool) (hq5 : idxF p L < (L.length : Int) ∧ -1 ≤ idxF p L) (h6 : ¬ ((idxF p L) = (-1))) (j : Nat) (i : Nat) (M : List Int) (hi15 : i < j ∧ j ≤ nL ∧ M.length = L.length ∧ M.take i = keep p (L.take j) ∧ M.drop j = L.drop j) (h16 : (j : Int) < (nL : Int)) (hx18 : M[j]? = some (gt M j)) (h23 : (!(p (gt M j))) = false) (hq37 : (p (gt M j)) = true) : M = M := by
  rfl
theorem z_c_slices_DeleteFunc___int_int__39 (L : List Int) (cL : Nat) (nL : Nat) (hbdL : (nL : Int) ≤ 9223372036854775807) (hleL : nL = L.length) (p : Int → Bool) (hq5 : idxF p L < (L.length : Int) ∧ -1 ≤ idxF p L) (h6 : ¬ ((idxF p L) = (-1))) (j : Nat) (i : Nat) (M : List Int) (hi15 : i < j ∧ j ≤ nL ∧ M.length = L.length ∧ M.take i = keep p (L.take j) ∧ M.drop j = L.drop j) (h16 : (j : Int) < (nL : Int)) (hx18 : M[j]? = some (gt M j)) (h23 : (!(p (gt M j))) = false) (hq37 : (p (gt M j)) = true) : i < j + 1 ∧ j + 1 ≤ nL ∧ M.length = L.length ∧ M.take i = keep p (L.take (j + 1)) ∧ M.drop (j + 1) = L.drop (j + 1) := by
  subst hleL
  try simp only [Int.toNat_natCast] at *
  first | exact del_keep ‹_ ∧ _ ∧ _ ∧ _ = keep _ _ ∧ _› (by omega) ‹M[j]? = some _› ‹_› | exact del_drop ‹_ ∧ _ ∧ _ ∧ _ = keep _ _ ∧ _› (by omega) ‹M[j]? = some _› ‹_›
theorem z_c_slices_DeleteFunc___int_int__40 (L : List Int) (cL : Nat) (nL : Nat) (hbdL : (nL : Int) ≤ 9223372036854775807) (hleL : nL = L.length) (p : Int → Bool) (hq5 : idxF p L < (L.length : Int) ∧ -1 ≤ idxF p L) (h6 : ¬ ((idxF p L) = (-1))) (j : Nat) (i : Nat) (M : List Int) (hi15 : i < j ∧ j ≤ nL ∧ M.length = L.length ∧ M.take i = keep p (L.take j) ∧ M.drop j = L.drop j) (h16 : (j : Int) < (nL : Int)) (hx18 : M[j]? = some (gt M j)) (h23 : (!(p (gt M j))) = false) (hq37 : (p (gt M j)) = true) : nL - (j + 1) < nL - (j) := by
  omega
theorem z_c_slices_DeleteFunc___int_int__43 (L : List Int) (cL : Nat) (nL : Nat) (hbdL : (nL : Int) ≤ 9223372036854775807) (hleL : nL = L.length) (p : Int → Bool) (hq5 : idxF p L < (L.length : Int) ∧ -1 ≤ idxF p L) (h6 : ¬ ((idxF p L) = (-1))) (j : Nat) (i : Nat) (M : List Int) (hi15 : i < j ∧ j ≤ nL ∧ M.length = L.length ∧ M.take i = keep p (L.take j) ∧ M.drop j = L.drop j) (h16 : ¬ ((j : Int) < (nL : Int))) : M.take i = keep p L := by
  subst hleL
  first | exact keep_all (by omega) | exact del_end ‹_ ∧ _ ∧ _ ∧ _ = keep _ _ ∧ _› (by omega)
theorem c_slices_DeleteFunc___int_int_ (w : World) {AL : Option Addr} {nL cL BL : Nat}  (L : List Int) (hL : SlO w BL encI 1 3 AL nL cL L) {kp : Nat} {capp : List Value} (p : Int → Bool) (hp : FncS (fun b_ => AL = some ⟨b_, 0, none⟩) Tryd.prog w kp capp (fun x => .int .i64 x) p) : Calls Tryd.prog 120 #[.slice AL nL cL, .func (.func kp) #[] (List.toArray capp)] w fun e w' => ∃ (A1' : Option Addr) (n1' c1' : Nat), e = .returned (.slice A1' n1' c1') ∧ SlO w' BL encI 1 3 A1' n1' c1' (keep p L) ∧ (∀ b_, A1' = some ⟨b_, 0, none⟩ → (AL = some ⟨b_, 0, none⟩) ∨ w.heap.size ≤ b_) ∧ Kp (fun b_ => AL = some ⟨b_, 0, none⟩) w w' := by
  refine calls_W 42 Tryd.func120 rfl rfl rfl ?_
  have hcpL := hL.rd.cap
  have hbbL := hL.rd.bd
  have hbdL := hL.rd.bound
  have hleL := hL.len
  have hBbL := hL.bd
  refine W.seq ?_
  refine W.regS (SR.q' (r_as (v := .slice none 0 0) rfl) <| SR.nil ?_)
  refine W.seq ?_
  refine W.regS (SR.q' (r_mv (v := .slice _ _ _) rfl) <| SR.q' (r_mv (v := .func _ #[] (List.toArray _)) rfl) <| SR.call ent111 (c_slices_IndexFunc___int_int_ w L (((hL).rd)) p (hp.fnc (Kp.refl w : Kp (fun b_ => AL = some ⟨b_, 0, none⟩) w w))) rfl ?_)
  rintro e w1 ⟨rfl, hk2⟩
  refine ⟨_, rfl, ?_⟩
  have hz3 := hk2.size
  have hB4 := (Kp.refl w : Kp (fun b_ => AL = some ⟨b_, 0, none⟩) w w).lo hk2
  have hq5 : idxF p L < (L.length : Int) ∧ -1 ≤ idxF p L := idx_lt
  refine SR.q' (r_as (v := .int .i64 _) rfl) <| SR.nil ?_
  refine W.seq ?_
  refine W.seq ?_
  refine W.regS (SR.q' (r_mv (v := .int .i64 _) rfl) <| SR.q' (r_eq rfl rfl) <| SR.nil ?_)
  refine W.cond_d rfl (fun h6 => ?_) (fun h6 => ?_)
  · refine W.seq ?_
    refine W.regS (SR.q' (r_mv (v := .slice _ _ _) rfl) <| SR.q' (r_as (v := .slice _ _ _) rfl) <| SR.nil ?_)
    refine W.ret ?_
    refine ret1 rfl (v := .slice _ _ _) rfl ?_
    exact ⟨AL, nL, cL, eR rfl, (SlO.eqv ((hL).lo hk2) (z_c_slices_DeleteFunc___int_int__7 L cL nL hbdL hleL p hq5 h6)), (fun b_ h_ => .inl (h_)), hB4⟩
  · refine W.skip ?_
    refine W.seq ?_
    refine W.seq ?_
    refine W.regS (SR.q' (r_mv (v := .int .i64 _) rfl) <| SR.q' (r_add rfl rfl (by omega)) <| SR.q' (r_as (v := .int .i64 _) rfl) <| SR.nil ?_)
    refine W.block ?_
    refine W.loop (σ := Nat × Nat × (List Int)) (fun g => [(0, .slice AL nL cL), (1, .func (.func kp) #[] (List.toArray capp)), (4, .slice none 0 0), (5, .int .i64 (g.2.1 : Int)), (6, .int .i64 (g.1 : Int))]) (fun g w' => (Kp (fun b_ => AL = some ⟨b_, 0, none⟩) w w') ∧ (SlO w' BL encI 1 3 AL nL cL g.2.2) ∧ (g.2.1 < g.1 ∧ g.1 ≤ nL ∧ g.2.2.length = L.length ∧ g.2.2.take g.2.1 = keep p (L.take g.1) ∧ g.2.2.drop g.1 = L.drop g.1)) (fun g => nL - (g.1)) ((idxF p L).toNat + 1, (idxF p L).toNat, L) ?_ ?_ ?_
    · exact ⟨rfl, rfl, rfl, (eI (by first | omega | (dsimp only; omega))), (eI (by first | omega | (dsimp only; omega))), trivial⟩
    · exact ⟨hB4, (SlO.eqv ((hL).lo hk2) (z_c_slices_DeleteFunc___int_int__9 L cL nL hbdL hleL p hq5 h6)), (z_c_slices_DeleteFunc___int_int__8 L cL nL hbdL hleL p hq5 h6)⟩
    · rintro ⟨j, i, M⟩ f10 w11 hP13
      obtain ⟨hB12, hm14, hi15⟩ : (Kp (fun b_ => AL = some ⟨b_, 0, none⟩) w w11) ∧ (SlO w11 BL encI 1 3 AL nL cL M) ∧ (i < j ∧ j ≤ nL ∧ M.length = L.length ∧ M.take i = keep p (L.take j) ∧ M.drop j = L.drop j) := hP13
      refine (?_ : W _ _ _ _ _ (act _ (sets f10 [(0, .slice AL nL cL), (1, .func (.func kp) #[] (List.toArray capp)), (4, .slice none 0 0), (5, .int .i64 (i : Int)), (6, .int .i64 (j : Int))])) _)
      have hzw11 := hB12.size
      refine W.seq ?_
      refine W.seq ?_
      refine W.regS (SR.q' (r_mv (v := .int .i64 _) rfl) <| SR.q' (r_mv (v := .slice _ _ _) rfl) <| SR.q' (r_len und38 rfl) <| SR.q' (r_lt rfl rfl) <| SR.nil ?_)
      refine W.cond_d rfl (fun h16 => ?_) (fun h16 => ?_)
      · refine W.skip ?_
        refine W.seq ?_
        refine W.block ?_
        refine W.seq ?_
        refine W.regS (SR.q' (r_mv (v := .slice _ _ _) rfl) <| SR.q' (r_mv (v := .int .i64 _) rfl) <| ?_)
        have hx18 := ((hm14).rd).elem (i := j) (by omega)
        refine SR.q' (r_ixR tsl38 ((hm14).rd) rfl rfl (by omega)) <| SR.q' (r_ld (v := .int .i64 (gt M j)) sca3 rfl (((hm14).rd).cell0 hx18 rfl)) <| SR.q' (r_as (v := .int .i64 _) rfl) <| SR.nil ?_
        refine W.seq ?_
        refine W.regS (SR.q' (r_mv (v := .func _ #[] (List.toArray _)) rfl) <| SR.q' (r_mv (v := .int .i64 _) rfl) <| SR.callv (hp).1 rfl ((hp).2 _ hB12 (gt M j)) rfl ?_)
        rintro e w19 ⟨rfl, hk20⟩
        refine ⟨_, rfl, ?_⟩
        have hz21 := hk20.size
        have hB22 := hB12.lo hk20
        refine SR.q' (r_not rfl) <| SR.nil ?_
        refine W.cond_b rfl (fun h23 => ?_) (fun h23 => ?_)
        · have hq24 := bnot_t h23
          refine W.seq ?_
          refine W.regS (SR.q' (r_mv (v := .slice _ _ _) rfl) <| SR.q' (r_mv (v := .int .i64 _) rfl) <| SR.q' (r_mv (v := .int .i64 _) rfl) <| ?_)
          have hx26 := (((hm14).lo hk20).rd).elem (i := i) (by omega)
          refine SR.q' (r_ixR tsl38 (((hm14).lo hk20).rd) rfl rfl (by omega)) <| SR.storeO (o := 0) (vs := [.int .i64 (gt M j)]) (x1 := (gt M j)) sca3.2 rfl rfl rfl rfl ((hm14).lo hk20) hx26 rfl (Nat.le_of_ble_eq_true rfl) rfl ?_
          intro w27 hk28 hs29 hO30
          have hz31 := hk28.size
          have hB32 := hB22.step hk28 (fun i_ hi_ e' => by have := (((hm14).lo hk20)).base_le e'; first | omega | (exfalso; omega) | exact e' | exact .inl e' | exact .inr e')
          have hx33 : (M.set ((i : Int).toNat) (gt M j))[(i : Int).toNat]? = some ((gt M j)) := List.getElem?_set_self (List.getElem?_eq_some_iff.1 hx26).1
          refine SR.nil ?_
          refine W.regS (SR.q' (r_mv (v := .int .i64 _) rfl) <| SR.q' (r_add rfl rfl (by omega)) <| SR.q' (r_as (v := .int .i64 _) rfl) <| SR.nil ?_)
          refine W.regS (SR.q' (r_mv (v := .int .i64 _) rfl) <| SR.q' (r_add rfl rfl (by omega)) <| SR.q' (r_as (v := .int .i64 _) rfl) <| SR.nil ?_)
          refine ⟨(j + 1, (i + 1), M.set ((i : Int).toNat) (gt M j)), _, rfl, ⟨rfl, rfl, rfl, (eI (by first | omega | (dsimp only; omega))), (eI (by first | omega | (dsimp only; omega))), trivial⟩, ⟨hB32, (SlO.eqv (hO30) (z_c_slices_DeleteFunc___int_int__34 L cL nL hbdL hleL p hq5 h6 j i M hi15 h16 hx18 h23 hq24 hx26 hx33)), ?_⟩, ?_⟩
          · exact (z_c_slices_DeleteFunc___int_int__35 L cL nL hbdL hleL p hq5 h6 j i M hi15 h16 hx18 h23 hq24 hx26 hx33)
          · exact (z_c_slices_DeleteFunc___int_int__36 L cL nL hbdL hleL p hq5 h6 j i M hi15 h16 hx18 h23 hq24 hx26 hx33)
        · have hq37 := bnot_f h23
          refine W.skip ?_
          refine W.regS (SR.q' (r_mv (v := .int .i64 _) rfl) <| SR.q' (r_add rfl rfl (by omega)) <| SR.q' (r_as (v := .int .i64 _) rfl) <| SR.nil ?_)
          refine ⟨(j + 1, i, M), _, rfl, ⟨rfl, rfl, rfl, rfl, (eI (by first | omega | (dsimp only; omega))), trivial⟩, ⟨hB22, (SlO.eqv ((hm14).lo hk20) (z_c_slices_DeleteFunc___int_int__38 L cL nL hbdL hleL p hq5 h6 j i M hi15 h16 hx18 h23 hq37)), ?_⟩, ?_⟩
          · exact (z_c_slices_DeleteFunc___int_int__39 L cL nL hbdL hleL p hq5 h6 j i M hi15 h16 hx18 h23 hq37)
          · exact (z_c_slices_DeleteFunc___int_int__40 L cL nL hbdL hleL p hq5 h6 j i M hi15 h16 hx18 h23 hq37)
      · refine W.exit (xin_here ?_)
        refine W.seq ?_
        have hOh := (hm14).head (h := i) (by omega)
        refine W.regS (SR.q' (r_mv (v := .slice _ _ _) rfl) <| SR.q' (r_mv (v := .int .i64 _) rfl) <| SR.q' (r_cutl (l := i) tsl38 rfl rfl rfl (by omega)) <| SR.clearO (l := i) (k := nL - i) tel38 rfl hOh (by omega) (by omega) (by kernel_rfl) ?_)
        intro wc hkc hOc
        have hz41 := hkc.size
        have hB42 := hB12.step hkc (fun i_ hi_ e' => by have := ((hm14)).base_le e'; first | omega | (exfalso; omega) | exact e' | exact .inl e' | exact .inr e')
        refine SR.nil ?_
        refine W.seq ?_
        refine W.regS (SR.q' (r_mv (v := .slice _ _ _) rfl) <| SR.q' (r_mv (v := .int .i64 _) rfl) <| SR.q' (r_cuth (h := i) tsl38 rfl rfl rfl (Nat.le_trans (by omega : i ≤ nL) hcpL)) <| SR.q' (r_as (v := .slice _ _ _) rfl) <| SR.nil ?_)
        refine W.ret ?_
        refine ret1 rfl (v := .slice _ _ _) rfl ?_
        exact ⟨AL, i, cL, eR rfl, (SlO.eqv (hOc) (z_c_slices_DeleteFunc___int_int__43 L cL nL hbdL hleL p hq5 h6 j i M hi15 h16)), (fun b_ h_ => .inl (h_)), hB42⟩
end Go.Proofs.YtlpapeeaghmjpaaDoor
