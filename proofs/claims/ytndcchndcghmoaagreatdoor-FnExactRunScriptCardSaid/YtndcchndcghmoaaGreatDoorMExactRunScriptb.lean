/- Words and walks of this claim. -/
import Derived.Test.YtndcchndcghmoaaGreatDoorChecked
import Derived.Lib.Overlaps
import Derived.Test.YtndcchndcghmoaaGreatDoorMExactRunScripta
set_option linter.unusedVariables false
namespace Go.Proofs.YtndcchndcghmoaaGreatDoor
open Go Go.RowKit Fw
set_option maxRecDepth 10000
set_option maxHeartbeats 2000000
set_option linter.unusedVariables false
theorem ent127 : Ent Tryz.prog 127 := en Tryz.func127
theorem ent133 : Ent Tryz.prog 133 := en Tryz.func133
theorem ent146 : Ent Tryz.prog 146 := en Tryz.func146
theorem ent147 : Ent Tryz.prog 147 := en Tryz.func147
theorem ent177 : Ent Tryz.prog 177 := en Tryz.func177
theorem ent178 : Ent Tryz.prog 178 := en Tryz.func178
theorem ent187 : Ent Tryz.prog 187 := en Tryz.func187
theorem ent66 : Ent Tryz.prog 66 := en Tryz.func66
theorem ent74 : Ent Tryz.prog 74 := en Tryz.func74
theorem ent75 : Ent Tryz.prog 75 := en Tryz.func75
theorem ent81 : Ent Tryz.prog 81 := en Tryz.func81
theorem ent82 : Ent Tryz.prog 82 := en Tryz.func82
theorem ent93 : Ent Tryz.prog 93 := en Tryz.func93
theorem ent94 : Ent Tryz.prog 94 := en Tryz.func94
theorem fa71_0 : FA Tryz.prog 71 0 0 := fun _ _ => by kernel_rfl
theorem fa71_1 : FA Tryz.prog 71 1 1 := fun _ _ => by kernel_rfl
theorem sca5 : TSca Tryz.prog 5 := tS
theorem sca9 : TSca Tryz.prog 9 := tS
theorem tsl49 : TSl Tryz.prog 49 5 1 := ⟨by kernel_rfl, fun _ => by kernel_rfl⟩
theorem und3 : Tryz.prog.underlying 3 = some (.int .i64) := by kernel_rfl
theorem und49 : Tryz.prog.underlying 49 = some (.slice 5) := by kernel_rfl
theorem und5 : Tryz.prog.underlying 5 = some (.int .u8) := by kernel_rfl
theorem und9 : Tryz.prog.underlying 9 = some (.string) := by kernel_rfl
theorem c_spec_l1In (w : World) (n : Int) (a : Int) (b : Int) : Calls Tryz.prog 133 #[.int .i64 n, .int .i64 a, .int .i64 b] w fun e w' => e = .returned (.bool (decide (a ≤ n ∧ n ≤ b))) ∧ Lo w w' := by
 refine calls_W 15 Tryz.func133 rfl rfl rfl (Ws (Wr (Q (aB rfl) <| Qn (Ws (W.regJS (fun f' w' => At f' [(6, .bool (decide ((a ≤ n) ∧ (n ≤ b))))] ∧ Lo w w') ?_ ?_)))))
 ·refine Q (mI rfl) <| Q (mI rfl) <| Q (r_ge rfl rfl) <| Q (mB rfl) <| SR.splitD (fun h1 => ?_) (fun h1 => ?_)
  ·refine Qg rfl (mI rfl) <| Qg rfl (mI rfl) <| Qg rfl (r_le rfl rfl) <| Q (r_pick true rfl (v := .bool _) rfl) <| Q (aB rfl) <| Qn (⟨_, rfl, ⟨⟨(eDD (jat h1)), trivial⟩, (Lo.refl _)⟩⟩)
  ·refine Qs rfl <| Qs rfl <| Qs rfl <| Q (r_pick false rfl (v := .bool false) rfl) <| Q (aB rfl) <| Qn (⟨_, rfl, ⟨⟨(eDF (jaf h1).2), trivial⟩, (Lo.refl _)⟩⟩)
 rintro f2 w3 ⟨hat4, hk5⟩
 rw [← sets_of_at hat4]
 have hz6 := hk5.size
 refine W.ret (ret1 rfl (v := .bool _) rfl (⟨eR (eDD (by omega)), ((Lo.refl w).lo hk5)⟩))
theorem c_impl_within (w : World) (n : Int) (a : Int) (b : Int) : Calls Tryz.prog 66 #[.int .i64 n, .int .i64 a, .int .i64 b] w fun e w' => e = .returned (.bool (decide (a ≤ n ∧ n ≤ b))) ∧ Lo w w' := by
 refine calls_W 15 Tryz.func66 rfl rfl rfl (Ws (Wr (Q (aB rfl) <| Qn (Ws (W.regJS (fun f' w' => At f' [(6, .bool (decide ((a ≤ n) ∧ (n ≤ b))))] ∧ Lo w w') ?_ ?_)))))
 ·refine Q (mI rfl) <| Q (mI rfl) <| Q (r_ge rfl rfl) <| Q (mB rfl) <| SR.splitD (fun h1 => ?_) (fun h1 => ?_)
  ·refine Qg rfl (mI rfl) <| Qg rfl (mI rfl) <| Qg rfl (r_le rfl rfl) <| Q (r_pick true rfl (v := .bool _) rfl) <| Q (aB rfl) <| Qn (⟨_, rfl, ⟨⟨(eDD (jat h1)), trivial⟩, (Lo.refl _)⟩⟩)
  ·refine Qs rfl <| Qs rfl <| Qs rfl <| Q (r_pick false rfl (v := .bool false) rfl) <| Q (aB rfl) <| Qn (⟨_, rfl, ⟨⟨(eDF (jaf h1).2), trivial⟩, (Lo.refl _)⟩⟩)
 rintro f2 w3 ⟨hat4, hk5⟩
 rw [← sets_of_at hat4]
 have hz6 := hk5.size
 refine W.ret (ret1 rfl (v := .bool _) rfl (⟨eR (eDD (by omega)), ((Lo.refl w).lo hk5)⟩))
theorem c_impl_text (w : World) (n : Int) (hp0 : -9223372036854775808 ≤ n ∧ n ≤ 9223372036854775807) (hE : EnvW w) : Calls Tryz.prog 74 #[.int .i64 n] w fun e w' => e = .returned (str (Lib.itoa n)) ∧ Lo w w' := by
 refine calls_W 5 Tryz.func74 rfl rfl rfl (Ws (Wr (Q (r_as (v := str ([] : List UInt8)) rfl) <| Qn (Ws (Wr (Q (mI rfl) <| Qv ent127 (c_strconv_Itoa w n (by omega) (hE.lo (Lo.refl w))) rfl fun w1 hk2 hz3 => ?_))))))
 have hq5 : (Lib.itoa n).length ≤ 21 := itoa_len (n := n) (by omega) (by omega)
 refine Q (aS rfl) <| Qn (W.ret (ret1 rfl (v := str _) rfl (⟨eR rfl, ((Lo.refl w).lo hk2)⟩)))
theorem c_spec_l1Num (w : World) (n : Int) (hp0 : -9223372036854775807 ≤ n ∧ n ≤ 9223372036854775807) : Calls Tryz.prog 75 #[.int .i64 n] w fun e w' => e = .returned (str (Lib.itoa n)) ∧ Lo w w' := by
 refine calls_W 25 Tryz.func75 rfl rfl rfl (Ws (Wr (Q (r_as (v := str ([] : List UInt8)) rfl) <| Qn (Ws (Ws (Wr (Q (mI rfl) <| Q (r_lt rfl rfl) <| Qn (W.cond_d rfl (fun h1 => ?_) (fun h1 => ?_)))))))))
 ·refine Ws (Wr (Q (mI rfl) <| Q (r_neg rfl (by omega)) <| Qv ent75 (c_spec_l1Num w (-n) (by omega)) rfl fun w2 hk3 hz4 => ?_))
  have hq6 : (Lib.itoa (-n)).length ≤ 21 := itoa_len (n := -n) (by omega) (by omega)
  refine Q (r_cat rfl rfl (by first | omega | (simp only [List.length_append, List.length_cons, List.length_nil, List.length_take, List.length_drop]; omega) | (simp only [List.length_append, List.length_cons, List.length_nil, List.length_take, List.length_drop] at *; omega))) <| Q (aS rfl) <| Qn (W.ret (ret1 rfl (v := str _) rfl (⟨eR (eS (by first | exact itoa_m ‹_› | exact itoa_d (by omega) ‹_› | exact itoa_b (by omega))), ((Lo.refl w).lo hk3)⟩)))
 ·refine W.skip (Ws (Ws (Wr (Q (mI rfl) <| Q (r_lt rfl rfl) <| Qn (W.cond_d rfl (fun h7 => ?_) (fun h7 => ?_))))))
  ·refine Ws (Wr (Q (mI rfl) <| Q (mI rfl) <| Q (r_add rfl rfl (by omega)) <| Q (r_cutS (l := n.toNat) (h := (n + 1).toNat) und9 rfl rfl rfl (by omega) (by omega) (by omega) (by first | omega | (simp only [List.length_append, List.length_cons, List.length_nil, List.length_take, List.length_drop]; omega) | (simp only [List.length_append, List.length_cons, List.length_nil, List.length_take, List.length_drop] at *; omega))) <| Q (aS rfl) <| Qn (W.ret (ret1 rfl (v := str _) rfl (⟨eR (eS (by first | exact itoa_m ‹_› | exact itoa_d (by omega) ‹_› | exact itoa_b (by omega))), (Lo.refl w)⟩)))))
  ·refine W.skip (Ws (W.regD mo (by kernel_rfl) (QR.q' (fun w' hw' => r_mv (v := .int .i64 _) rfl) <| QR.q' (fun w' hw' => r_quo rfl rfl (by omega)) <| QR.call ent75 (fun w' hw' => (c_spec_l1Num w' (n / 10) (by omega)).mono fun _ _ h => ⟨h.1, hw'.trans h.2⟩) rfl <| ?_)))
   have hq8 : (Lib.itoa (n / 10)).length ≤ 21 := itoa_len (n := n / 10) (by omega) (by omega)
   refine QR.q' (fun w' hw' => r_mv (v := .int .i64 _) rfl) <| QR.q' (fun w' hw' => r_rem rfl rfl (by omega)) <| QR.q' (fun w' hw' => r_mv (v := .int .i64 _) rfl) <| QR.q' (fun w' hw' => r_rem rfl rfl (by omega)) <| QR.q' (fun w' hw' => r_add rfl rfl (by omega)) <| QR.q' (fun w' hw' => r_cutS (l := (n % 10).toNat) (h := ((n % 10) + 1).toNat) und9 rfl rfl rfl (by omega) (by omega) (by omega) (by first | omega | (simp only [List.length_append, List.length_cons, List.length_nil, List.length_take, List.length_drop]; omega) | (simp only [List.length_append, List.length_cons, List.length_nil, List.length_take, List.length_drop] at *; omega))) <| QR.q' (fun w' hw' => r_cat rfl rfl (by first | omega | (simp only [List.length_append, List.length_cons, List.length_nil, List.length_take, List.length_drop]; omega) | (simp only [List.length_append, List.length_cons, List.length_nil, List.length_take, List.length_drop] at *; omega))) <| QR.q' (fun w' hw' => r_as (v := str _) rfl) <| QR.nil ?_
   intro w9 hk10
   have hz11 := hk10.size
   refine W.ret (ret1 rfl (v := str _) rfl (⟨eR (eS (by first | exact itoa_m ‹_› | exact itoa_d (by omega) ‹_› | exact itoa_b (by omega))), ((Lo.refl w).lo hk10)⟩))
termination_by n.toNat + 2 * (-n).toNat
decreasing_by all_goals omega
theorem c_slices_IndexFunc___byte_byte_ (w : World) {AL : Option Addr} {nL cL BL : Nat}  (L : List UInt8) (hL : SlR w BL encB 1 AL nL cL L) {kp : Nat} {capp : List Value} (p : UInt8 → Bool) (hp : Fnc Tryz.prog w kp capp (fun x => .int .u8 (x.toNat : Int)) p) : Calls Tryz.prog 178 #[.slice AL nL cL, .func (.func kp) #[] (List.toArray capp)] w fun e w' => e = .returned (.int .i64 (idxF p L)) ∧ Lo w w' := by
 refine calls_W 19 Tryz.func178 rfl rfl rfl ?_
 have hbdL := hL.bound
 have hleL := hL.len
 have hBbL := hL.bd
 refine Ws (Wr (Q (aI rfl) <| Qn (Ws (Ws (Wr (Q (mL rfl) <| Q (r_len und49 rfl) <| Q (r_mv (v := .int .i64 0) rfl) <| Qn (W.block (W.loop (σ := Nat) (fun g => [(0, .slice AL nL cL), (1, .func (.func kp) #[] (List.toArray capp)), (7, .int .i64 (nL : Int)), (8, .int .i64 (g : Int))]) (fun g w' => (Lo w w') ∧ (SlR w' BL encB 1 AL nL cL L) ∧ (g ≤ nL ∧ NoneTo p L g)) (fun g => nL - g) 0 ?_ ?_ ?_))))))))
 ·exact (At.r rfl)
 ·exact ⟨(Lo.refl w), hL, (by exact ⟨Nat.zero_le _, NoneTo.zero⟩)⟩
 ·rintro k f1 w2 hP4
  obtain ⟨hB3, hm5, hi6⟩ : (Lo w w2) ∧ (SlR w2 BL encB 1 AL nL cL L) ∧ (k ≤ nL ∧ NoneTo p L k) := hP4
  refine (?_ : W _ _ _ _ _ (act _ (sets f1 [(0, .slice AL nL cL), (1, .func (.func kp) #[] (List.toArray capp)), (7, .int .i64 (nL : Int)), (8, .int .i64 (k : Int))])) _)
  have hzw2 := hB3.size
  refine Ws (Wr (Q (r_lt rfl rfl) <| Qn (Ws (W.cond_d rfl (fun h7 => ?_) (fun h7 => ?_)))))
  ·refine W.skip (Ws (W.block (Ws (Wr (Q (mI rfl) <| Q (aI rfl) <| Qn (Ws (Wr (Q (r_mv (v := .func _ #[] (List.toArray _)) rfl) <| Q (mL rfl) <| Q (mI rfl) <| ?_))))))))
   have hx9 := hm5.elem (i := k) (by omega)
   have hq10 := u8_le (gt L k)
   refine Q (r_ixR tsl49 hm5 rfl rfl (by omega)) <| Q (r_ld (v := .int .u8 ((gt L k).toNat : Int)) sca5 rfl (hm5.cell0 hx9 rfl)) <| SR.callv hp.1 rfl (hp.2 _ hB3 (gt L k)) rfl ?_
   rintro e w11 ⟨rfl, hk12⟩
   refine ⟨_, rfl, ?_⟩
   have hz13 := hk12.size
   have hB14 := hB3.lo hk12
   refine Qn (W.cond_b rfl (fun h15 => ?_) (fun h15 => ?_))
   ·refine Ws (Wr (Q (mI rfl) <| Q (aI rfl) <| Qn (W.ret (ret1 rfl (v := .int .i64 _) rfl (⟨eR (eI (by first | exact idx_at (And.right ‹_ ∧ NoneTo p L _›) ‹L[_]? = some _› ‹_› | exact idx_no (And.right ‹_ ∧ NoneTo p L _›) hleL ‹_›)), hB14⟩)))))
   ·refine W.skip (Wr (Q (r_add rfl rfl (by omega)) <| Q (mI rfl) <| Qn (⟨k + 1, _, rfl, (At.r rfl), ⟨hB14, hm5.lo hk12, ?_⟩, ?_⟩)))
    ·exact (by exact ⟨by omega, NoneTo.next (And.right ‹_ ∧ NoneTo p L _›) ‹L[k]? = some _› ‹_›⟩)
    ·exact (by omega)
  ·refine W.exit (xin_here (Ws (Wr (Q (r_as (v := .int .i64 (-1)) rfl) <| Qn (W.ret (ret1 rfl (v := .int .i64 _) rfl (⟨eR (eI (by first | exact idx_at (And.right ‹_ ∧ NoneTo p L _›) ‹L[_]? = some _› ‹_› | exact idx_no (And.right ‹_ ∧ NoneTo p L _›) hleL ‹_›)), hB3⟩)))))))
theorem c_slices_ContainsFunc___byte_byte_ (w : World) {AL : Option Addr} {nL cL BL : Nat}  (L : List UInt8) (hL : SlR w BL encB 1 AL nL cL L) {kp : Nat} {capp : List Value} (p : UInt8 → Bool) (hp : Fnc Tryz.prog w kp capp (fun x => .int .u8 (x.toNat : Int)) p) : Calls Tryz.prog 146 #[.slice AL nL cL, .func (.func kp) #[] (List.toArray capp)] w fun e w' => e = .returned (.bool (L.any p)) ∧ Lo w w' := by
 refine calls_W 9 Tryz.func146 rfl rfl rfl ?_
 have hbdL := hL.bound
 have hleL := hL.len
 have hBbL := hL.bd
 refine Ws (Wr (Q (aB rfl) <| Qn (Ws (Wr (Q (mL rfl) <| Q (r_mv (v := .func _ #[] (List.toArray _)) rfl) <| Qv ent178 (c_slices_IndexFunc___byte_byte_ w L hL p (hp.lo (Lo.refl w))) rfl fun w1 hk2 hz3 => ?_)))))
 have hq5 : idxF p L < (L.length : Int) ∧ -1 ≤ idxF p L := idx_lt
 refine Q (r_ge rfl rfl) <| Q (aB rfl) <| Qn (W.ret (ret1 rfl (v := .bool _) rfl (⟨eR (eB (by rw [Bool.eq_iff_iff, decide_eq_true_eq]; exact any_idx)), ((Lo.refl w).lo hk2)⟩)))
theorem c_impl_isPrinted_1 (w : World) (x : UInt8) : Calls Tryz.prog 147 #[.int .u8 (x.toNat : Int)] w fun e w' => e = .returned (.bool (!decide (PlB x))) ∧ Lo w w' := by
 refine calls_W 13 Tryz.func147 rfl rfl rfl (Ws (Wr (Q (aB rfl) <| Qn (Ws (W.regJS (fun f' w' => At f' [(2, .bool (decide (((x.toNat : Int) < 32) ∨ ((126 < (x.toNat : Int)) ∨ ((x.toNat : Int) = 35)))))] ∧ Lo w w') ?_ ?_)))))
 ·refine Q (r_mv (v := .int .u8 _) rfl) <| Q (r_lt rfl rfl) <| Q (mB rfl) <| SR.splitD (fun h1 => ?_) (fun h1 => ?_)
  ·refine Qs rfl <| Qs rfl <| Q (r_pick true rfl (v := .bool true) rfl) <| Q (mB rfl) <| Qs rfl <| Qs rfl <| Q (r_pick true rfl (v := .bool true) rfl) <| Q (aB rfl) <| Qn (⟨_, rfl, ⟨⟨(eDT ((jot h1).1 trivial)), trivial⟩, (Lo.refl _)⟩⟩)
  ·refine Qg rfl (r_mv (v := .int .u8 _) rfl) <| Qg rfl (r_gt rfl rfl) <| Q (r_pick false rfl (v := .bool _) rfl) <| Q (mB rfl) <| SR.splitD (fun h2 => ?_) (fun h2 => ?_)
   ·refine Qs rfl <| Qs rfl <| Q (r_pick true rfl (v := .bool true) rfl) <| Q (aB rfl) <| Qn (⟨_, rfl, ⟨⟨(eDT (((jot h2).trans (jof h1)).1 trivial)), trivial⟩, (Lo.refl _)⟩⟩)
   ·refine Qg rfl (r_mv (v := .int .u8 _) rfl) <| Qg rfl (r_eq rfl rfl) <| Q (r_pick false rfl (v := .bool _) rfl) <| Q (aB rfl) <| Qn (⟨_, rfl, ⟨⟨(eDD ((jof h2).trans (jof h1))), trivial⟩, (Lo.refl _)⟩⟩)
 rintro f3 w4 ⟨hat5, hk6⟩
 rw [← sets_of_at hat5]
 have hz7 := hk6.size
 refine W.ret (ret1 rfl (v := .bool _) rfl (⟨eR (eB (by exact pl_not x)), ((Lo.refl w).lo hk6)⟩))
theorem c_impl_isPrinted (w : World) (s : List UInt8) (hp0 : (s.length : Int) ≤ 281474976710656) : Calls Tryz.prog 93 #[str s] w fun e w' => e = .returned (.bool (decide (Plain s))) ∧ Lo w w' := by
 refine calls_W 7 Tryz.func93 rfl rfl rfl (Ws (Wr (Q (aB rfl) <| Qn (Ws (Wr (Q (mS rfl) <| SR.bytes (s := s) und9 und49 und5 rfl (by first | omega | (simp only [List.length_append, List.length_cons, List.length_nil, List.length_take, List.length_drop]; omega) | (simp only [List.length_append, List.length_cons, List.length_nil, List.length_take, List.length_drop] at *; omega)) ?_))))))
 intro g1 c2 w3 hg4 hk5 hR6 
 have hz7 := hk5.size
 refine Qv ent146 (c_slices_ContainsFunc___byte_byte_ w3 s hR6 (fun u_ : UInt8 => (!decide (PlB u_))) ⟨ent147, fun w'' hw'' x => (c_impl_isPrinted_1 w'' x).mono fun _ _ h => ⟨h.1, h.2⟩⟩) rfl fun w9 hk10 hz11 => (Q (r_not rfl) <| Q (aB rfl) <| Qn (W.ret (ret1 rfl (v := .bool _) rfl (⟨eR (eBD (by exact plain_any s)), (((Lo.refl w).lo hk5).lo hk10)⟩))))
theorem c_impl_IsValidRecord (w : World) (r : LogRecord) (hE : EnvW w) : Calls Tryz.prog 48 #[.agg (List.toArray (encLogRecord r))] w fun e w' => e = .returned (.bool (decide (RecOK r))) ∧ Lo w w' := by
 refine calls_W 29 Tryz.func48 rfl rfl rfl (Ws (Wr (SR.box (v := .agg (List.toArray _)) (l := [str r.Command, str r.Reply]) rfl rfl ?_)))
 intro g1 w2 hg3 hk4 hs5 hb6
 have hB8 := (Lo.refl w).lo hk4
 refine Q (aB rfl) <| Qn (Ws (W.regJS (fun f' w' => At f' [(2, .bool (decide ((1 ≤ (r.Command.length : Int) ∧ (r.Command.length : Int) ≤ 160) ∧ (((r.Reply.length : Int) ≤ 200) ∧ ((Plain r.Command) ∧ ((Plain r.Reply) ∧ ((!(Lib.contains r.Command ([64] : List UInt8))) = true)))))))] ∧ Lo w2 w') ?_ ?_))
 ·refine Q (fA fa71_0 rfl) <| Q (lB sca9 rfl hb6 rfl) <| Q (r_len_s und9 rfl) <| Qv ent66 (c_impl_within w2 (r.Command.length : Int) 1 160) rfl fun w9 hk10 hz11 => (Q (mB rfl) <| SR.splitD (fun h13 => ?_) (fun h13 => ?_))
  ·refine Qg rfl (fA fa71_1 rfl) <| Qg rfl (lB sca9 rfl (hb6.lo hk10) rfl) <| Qg rfl (r_len_s und9 rfl) <| Qg rfl (r_le rfl rfl) <| Q (r_pick true rfl (v := .bool _) rfl) <| Q (mB rfl) <| SR.splitD (fun h14 => ?_) (fun h14 => ?_)
   ·refine Qg rfl (fA fa71_0 rfl) <| Qg rfl (lB sca9 rfl (hb6.lo hk10) rfl) <| SR.gcall rfl ent93 (c_impl_isPrinted w9 r.Command (by first | omega | (simp only [List.length_append, List.length_cons, List.length_nil, List.length_take, List.length_drop]; omega))) rfl ?_
    rintro e w15 ⟨rfl, hk16⟩
    refine ⟨_, rfl, ?_⟩
    have hz17 := hk16.size
    refine Q (r_pick true rfl (v := .bool _) rfl) <| Q (mB rfl) <| SR.splitD (fun h19 => ?_) (fun h19 => ?_)
    ·refine Qg rfl (fA fa71_1 rfl) <| Qg rfl (lB sca9 rfl ((hb6.lo hk10).lo hk16) rfl) <| SR.gcall rfl ent93 (c_impl_isPrinted w15 r.Reply (by first | omega | (simp only [List.length_append, List.length_cons, List.length_nil, List.length_take, List.length_drop]; omega))) rfl ?_
     rintro e w20 ⟨rfl, hk21⟩
     refine ⟨_, rfl, ?_⟩
     have hz22 := hk21.size
     refine Q (r_pick true rfl (v := .bool _) rfl) <| Q (mB rfl) <| SR.splitD (fun h24 => ?_) (fun h24 => ?_)
     ·refine Qg rfl (fA fa71_0 rfl) <| Qg rfl (lB sca9 rfl (((hb6.lo hk10).lo hk16).lo hk21) rfl) <| SR.gcall rfl ent94 (c_strings_Contains w20 r.Command ([64] : List UInt8) (by omega) (hE.lo (((hB8.lo hk10).lo hk16).lo hk21))) rfl ?_
      rintro e w25 ⟨rfl, hk26⟩
      refine ⟨_, rfl, ?_⟩
      have hz27 := hk26.size
      refine Qg rfl (r_not rfl) <| Q (r_pick true rfl (v := .bool _) rfl) <| Q (aB rfl) <| Qn (⟨_, rfl, ⟨⟨(eBD ((((jat h24).trans (jat h19)).trans (jat h14)).trans (jat h13))), trivial⟩, (((hk10.trans hk16).trans hk21).trans hk26)⟩⟩)
     ·refine Qs rfl <| Qs rfl <| Qs rfl <| Qs rfl <| Q (r_pick false rfl (v := .bool false) rfl) <| Q (aB rfl) <| Qn (⟨_, rfl, ⟨⟨(eDF ((((jaf h24).trans (jat h19)).trans (jat h14)).trans (jat h13)).2), trivial⟩, ((hk10.trans hk16).trans hk21)⟩⟩)
    ·refine Qs rfl <| Qs rfl <| Qs rfl <| Q (r_pick false rfl (v := .bool false) rfl) <| Q (mB rfl) <| Qs rfl <| Qs rfl <| Qs rfl <| Qs rfl <| Q (r_pick false rfl (v := .bool false) rfl) <| Q (aB rfl) <| Qn (⟨_, rfl, ⟨⟨(eDF (((jaf h19).trans (jat h14)).trans (jat h13)).2), trivial⟩, (hk10.trans hk16)⟩⟩)
   ·refine Qs rfl <| Qs rfl <| Qs rfl <| Q (r_pick false rfl (v := .bool false) rfl) <| Q (mB rfl) <| Qs rfl <| Qs rfl <| Qs rfl <| Q (r_pick false rfl (v := .bool false) rfl) <| Q (mB rfl) <| Qs rfl <| Qs rfl <| Qs rfl <| Qs rfl <| Q (r_pick false rfl (v := .bool false) rfl) <| Q (aB rfl) <| Qn (⟨_, rfl, ⟨⟨(eDF ((jaf h14).trans (jat h13)).2), trivial⟩, hk10⟩⟩)
  ·refine Qs rfl <| Qs rfl <| Qs rfl <| Qs rfl <| Q (r_pick false rfl (v := .bool false) rfl) <| Q (mB rfl) <| Qs rfl <| Qs rfl <| Qs rfl <| Q (r_pick false rfl (v := .bool false) rfl) <| Q (mB rfl) <| Qs rfl <| Qs rfl <| Qs rfl <| Q (r_pick false rfl (v := .bool false) rfl) <| Q (mB rfl) <| Qs rfl <| Qs rfl <| Qs rfl <| Qs rfl <| Q (r_pick false rfl (v := .bool false) rfl) <| Q (aB rfl) <| Qn (⟨_, rfl, ⟨⟨(eDF (jaf h13).2), trivial⟩, hk10⟩⟩)
 rintro f29 w30 ⟨hat31, hk32⟩
 rw [← sets_of_at hat31]
 have hz33 := hk32.size
 refine W.ret (ret1 rfl (v := .bool _) rfl (⟨eR (eDD (by simp only [contains1, RecOK]; simp)), (hB8.lo hk32)⟩))
theorem c_spec_l33Plain (w : World) (s : List UInt8) (m : Int) (hp0 : (s.length : Int) ≤ 281474976710656) : Calls Tryz.prog 81 #[str s, .int .i64 m] w fun e w' => e = .returned (.bool (decide (Plain s ∧ (s.length : Int) ≤ m))) ∧ Lo w w' := by
 refine calls_W 28 Tryz.func81 rfl rfl rfl (Ws (Wr (Q (aB rfl) <| Qn (Ws (Ws (Wr (Q (aI rfl) <| Qn (W.block (W.loop (σ := Nat) (fun g => [(0, str s), (1, .int .i64 m), (5, .int .i64 (g : Int))]) (fun g w' => (Lo w w') ∧ (g ≤ s.length ∧ ∀ j, j < g → PlB (gt s j))) (fun g => s.length - g) 0 ?_ ?_ ?_)))))))))
 ·exact (At.r rfl)
 ·exact ⟨(Lo.refl w), (by exact ⟨Nat.zero_le _, fun _ h => absurd h (by omega)⟩)⟩
 ·rintro k f1 w2 hP4
  obtain ⟨hB3, hi5⟩ : (Lo w w2) ∧ (k ≤ s.length ∧ ∀ j, j < k → PlB (gt s j)) := hP4
  refine (?_ : W _ _ _ _ _ (act _ (sets f1 [(0, str s), (1, .int .i64 m), (5, .int .i64 (k : Int))])) _)
  have hzw2 := hB3.size
  refine Ws (Ws (Wr (Q (mI rfl) <| Q (mS rfl) <| Q (r_len_s und9 rfl) <| Q (r_lt rfl rfl) <| Qn (W.cond_d rfl (fun h6 => ?_) (fun h6 => ?_)))))
  ·refine W.skip (Ws (W.block (Ws (W.regJS (fun f' w' => At f' [(0, str s), (1, .int .i64 m), (5, .int .i64 (k : Int)), (23, .bool (decide ((¬ (32 ≤ ((gt s k).toNat : Int) ∧ ((gt s k).toNat : Int) ≤ 126)) ∨ (((gt s k).toNat : Int) = 35))))] ∧ Lo w2 w' ∧ (((gt s k).toNat : Int) ≤ 255)) ?_ ?_))))
   ·refine Q (mS rfl) <| Q (mI rfl) <| ?_
    have hq7 := u8_le (gt s k)
    refine Q (r_idxS (i := k) und9 rfl rfl rfl (by first | omega | (simp only [List.length_append, List.length_cons, List.length_nil, List.length_take, List.length_drop]; omega) | (simp only [List.length_append, List.length_cons, List.length_nil, List.length_take, List.length_drop] at *; omega))) <| Q (r_convI und3 und5 rfl (by omega)) <| Qv ent133 (c_spec_l1In w2 ((gt s k).toNat : Int) 32 126) rfl fun w8 hk9 hz10 => (Q (r_not rfl) <| Q (mB rfl) <| SR.splitN (fun h12 => ?_) (fun h12 => ?_))
    ·refine Qs rfl <| Qs rfl <| Qs rfl <| Qs rfl <| Q (r_pick true rfl (v := .bool true) rfl) <| Qn (⟨_, rfl, ⟨⟨rfl, rfl, rfl, (eDT ((jmf h12).1 trivial)), trivial⟩, hk9, hq7⟩⟩)
    ·refine Qg rfl (mS rfl) <| Qg rfl (mI rfl) <| Qg rfl (r_idxS (i := k) und9 rfl rfl rfl (by first | omega | (simp only [List.length_append, List.length_cons, List.length_nil, List.length_take, List.length_drop]; omega) | (simp only [List.length_append, List.length_cons, List.length_nil, List.length_take, List.length_drop] at *; omega))) <| Qg rfl (r_eq rfl rfl) <| Q (r_pick false rfl (v := .bool _) rfl) <| Qn (⟨_, rfl, ⟨⟨rfl, rfl, rfl, (eDD (jmt h12)), trivial⟩, hk9, hq7⟩⟩)
   rintro f13 w14 ⟨hat15, hk16, hq17⟩
   rw [← sets_of_at hat15]
   have hz18 := hk16.size
   have hB19 := hB3.lo hk16
   refine W.cond_d rfl (fun h20 => ?_) (fun h20 => ?_)
   ·refine Ws (Wr (Q (aB rfl) <| Qn (W.ret (ret1 rfl (v := .bool _) rfl (⟨eR (eDF (by first | exact fun hp => plain_no (k := k) (by omega) (by unfold PlB; omega) hp.1 | (have hp := plain_at (And.right ‹_ ∧ ∀ _, _›) (by omega); exact ⟨fun h => ⟨hp, h⟩, fun h => h.2⟩))), hB19⟩)))))
   ·have hq21 : 32 ≤ ((gt s k).toNat : Int) ∧ ((gt s k).toNat : Int) ≤ 126 := (Classical.not_not.1 (not_or.1 h20).1)
    have hq22 : ¬ (((gt s k).toNat : Int) = 35) := (not_or.1 h20).2
    refine W.skip (Wr (Q (mI rfl) <| Q (r_add rfl rfl (by omega)) <| Q (aI rfl) <| Qn (⟨k + 1, _, rfl, (At.r rfl), ⟨hB19, ?_⟩, ?_⟩)))
    ·exact (by exact ⟨by omega, all_next (And.right ‹_ ∧ ∀ _, _›) (by unfold PlB; omega)⟩)
    ·exact (by omega)
  ·refine W.exit (xin_here (Ws (Wr (Q (mS rfl) <| Q (r_len_s und9 rfl) <| Q (mI rfl) <| Q (r_le rfl rfl) <| Q (aB rfl) <| Qn (W.ret (ret1 rfl (v := .bool _) rfl (⟨eR (eDD (by first | exact fun hp => plain_no (k := k) (by omega) (by unfold PlB; omega) hp.1 | (have hp := plain_at (And.right ‹_ ∧ ∀ _, _›) (by omega); exact ⟨fun h => ⟨hp, h⟩, fun h => h.2⟩))), hB3⟩)))))))
theorem c_spec_l1Stands (w : World) (s : List UInt8) (c : UInt8) (hp0 : (s.length : Int) ≤ 281474976710656) : Calls Tryz.prog 82 #[str s, .int .u8 (c.toNat : Int)] w fun e w' => e = .returned (.bool (decide (c ∈ s))) ∧ Lo w w' := by
 refine calls_W 17 Tryz.func82 rfl rfl rfl (Ws (Wr (Q (aB rfl) <| Qn (Ws (Ws (Wr (Q (aI rfl) <| Qn (W.block (W.loop (σ := Nat) (fun g => [(0, str s), (1, .int .u8 (c.toNat : Int)), (5, .int .i64 (g : Int))]) (fun g w' => (Lo w w') ∧ (g ≤ s.length ∧ ∀ j, j < g → ¬ gt s j = c)) (fun g => s.length - g) 0 ?_ ?_ ?_)))))))))
 ·exact (At.r rfl)
 ·exact ⟨(Lo.refl w), (by exact ⟨Nat.zero_le _, fun _ h => absurd h (by omega)⟩)⟩
 ·rintro k f1 w2 hP4
  obtain ⟨hB3, hi5⟩ : (Lo w w2) ∧ (k ≤ s.length ∧ ∀ j, j < k → ¬ gt s j = c) := hP4
  refine (?_ : W _ _ _ _ _ (act _ (sets f1 [(0, str s), (1, .int .u8 (c.toNat : Int)), (5, .int .i64 (k : Int))])) _)
  have hzw2 := hB3.size
  refine Ws (Ws (Wr (Q (mI rfl) <| Q (mS rfl) <| Q (r_len_s und9 rfl) <| Q (r_lt rfl rfl) <| Qn (W.cond_d rfl (fun h6 => ?_) (fun h6 => ?_)))))
  ·refine W.skip (Ws (W.block (Ws (Wr (Q (mS rfl) <| Q (mI rfl) <| ?_)))))
   have hq7 := u8_le (gt s k)
   refine Q (r_idxS (i := k) und9 rfl rfl rfl (by first | omega | (simp only [List.length_append, List.length_cons, List.length_nil, List.length_take, List.length_drop]; omega) | (simp only [List.length_append, List.length_cons, List.length_nil, List.length_take, List.length_drop] at *; omega))) <| Q (r_mv (v := .int .u8 _) rfl) <| Q (r_eq rfl rfl) <| Qn (W.cond_d rfl (fun h8 => ?_) (fun h8 => ?_))
   ·refine Ws (Wr (Q (aB rfl) <| Qn (W.ret (ret1 rfl (v := .bool _) rfl (⟨eR (eDT (by first | exact stands_yes (k := k) (by omega) (u8_eq.1 ‹_›) | exact stands_no (And.right ‹_ ∧ ∀ _, _›) (by omega))), hB3⟩)))))
   ·refine W.skip (Wr (Q (mI rfl) <| Q (r_add rfl rfl (by omega)) <| Q (aI rfl) <| Qn (⟨k + 1, _, rfl, (At.r rfl), ⟨hB3, ?_⟩, ?_⟩)))
    ·exact (by exact ⟨by omega, none_next (And.right ‹_ ∧ ∀ _, _›) (fun e => ‹¬ _› (u8_eq.2 e))⟩)
    ·exact (by omega)
  ·refine W.exit (xin_here (Ws (Wr (Q (aB rfl) <| Qn (W.ret (ret1 rfl (v := .bool _) rfl (⟨eR (eDF (by first | exact stands_yes (k := k) (by omega) (u8_eq.1 ‹_›) | exact stands_no (And.right ‹_ ∧ ∀ _, _›) (by omega))), hB3⟩)))))))
theorem c_spec_l33Good (w : World) (r : LogRecord) (hp0 : (r.Command.length : Int) ≤ 281474976710656 ∧ (r.Reply.length : Int) ≤ 281474976710656) : Calls Tryz.prog 43 #[.agg (List.toArray (encLogRecord r))] w fun e w' => e = .returned (.bool (decide (RecOK r))) ∧ Lo w w' := by
 refine calls_W 22 Tryz.func43 rfl rfl rfl (Ws (Wr (SR.box (v := .agg (List.toArray _)) (l := [str r.Command, str r.Reply]) rfl rfl ?_)))
 intro g1 w2 hg3 hk4 hs5 hb6
 refine Q (aB rfl) <| Qn (Ws (W.regJS (fun f' w' => At f' [(2, .bool (decide ((¬ (r.Command = ([] : List UInt8))) ∧ ((Plain r.Command ∧ (r.Command.length : Int) ≤ 160) ∧ ((¬ ((64 : UInt8) ∈ r.Command)) ∧ (Plain r.Reply ∧ (r.Reply.length : Int) ≤ 200))))))] ∧ Lo w2 w') ?_ ?_))
 ·refine Q (fA fa71_0 rfl) <| Q (lB sca9 rfl hb6 rfl) <| Q (r_nes (s := r.Command) (r := ([] : List UInt8)) rfl rfl) <| Q (mB rfl) <| SR.splitN (fun h9 => ?_) (fun h9 => ?_)
  ·refine Qg rfl (fA fa71_0 rfl) <| Qg rfl (lB sca9 rfl hb6 rfl) <| SR.gcall rfl ent81 (c_spec_l33Plain w2 r.Command 160 (by first | omega | (simp only [List.length_append, List.length_cons, List.length_nil, List.length_take, List.length_drop]; omega))) rfl ?_
   rintro e w10 ⟨rfl, hk11⟩
   refine ⟨_, rfl, ?_⟩
   have hz12 := hk11.size
   refine Q (r_pick true rfl (v := .bool _) rfl) <| Q (mB rfl) <| SR.splitD (fun h14 => ?_) (fun h14 => ?_)
   ·refine Qg rfl (fA fa71_0 rfl) <| Qg rfl (lB sca9 rfl (hb6.lo hk11) rfl) <| SR.gcall rfl ent82 (c_spec_l1Stands w10 r.Command (64 : UInt8) (by first | omega | (simp only [List.length_append, List.length_cons, List.length_nil, List.length_take, List.length_drop]; omega))) rfl ?_
    rintro e w15 ⟨rfl, hk16⟩
    refine ⟨_, rfl, ?_⟩
    have hz17 := hk16.size
    refine Qg rfl (r_not rfl) <| Q (r_pick true rfl (v := .bool _) rfl) <| Q (mB rfl) <| SR.splitN (fun h19 => ?_) (fun h19 => ?_)
    ·refine Qg rfl (fA fa71_1 rfl) <| Qg rfl (lB sca9 rfl ((hb6.lo hk11).lo hk16) rfl) <| SR.gcall rfl ent81 (c_spec_l33Plain w15 r.Reply 200 (by first | omega | (simp only [List.length_append, List.length_cons, List.length_nil, List.length_take, List.length_drop]; omega))) rfl ?_
     rintro e w20 ⟨rfl, hk21⟩
     refine ⟨_, rfl, ?_⟩
     have hz22 := hk21.size
     refine Q (r_pick true rfl (v := .bool _) rfl) <| Q (aB rfl) <| Qn (⟨_, rfl, ⟨⟨(eDD (((jnf h19).trans (jat h14)).trans (jnf h9))), trivial⟩, ((hk11.trans hk16).trans hk21)⟩⟩)
    ·refine Qs rfl <| Qs rfl <| Qs rfl <| Q (r_pick false rfl (v := .bool false) rfl) <| Q (aB rfl) <| Qn (⟨_, rfl, ⟨⟨(eDF (((jnt h19).trans (jat h14)).trans (jnf h9)).2), trivial⟩, (hk11.trans hk16)⟩⟩)
   ·refine Qs rfl <| Qs rfl <| Qs rfl <| Qs rfl <| Q (r_pick false rfl (v := .bool false) rfl) <| Q (mB rfl) <| Qs rfl <| Qs rfl <| Qs rfl <| Q (r_pick false rfl (v := .bool false) rfl) <| Q (aB rfl) <| Qn (⟨_, rfl, ⟨⟨(eDF ((jaf h14).trans (jnf h9)).2), trivial⟩, hk11⟩⟩)
  ·refine Qs rfl <| Qs rfl <| Qs rfl <| Q (r_pick false rfl (v := .bool false) rfl) <| Q (mB rfl) <| Qs rfl <| Qs rfl <| Qs rfl <| Qs rfl <| Q (r_pick false rfl (v := .bool false) rfl) <| Q (mB rfl) <| Qs rfl <| Qs rfl <| Qs rfl <| Q (r_pick false rfl (v := .bool false) rfl) <| Q (aB rfl) <| Qn (⟨_, rfl, ⟨⟨(eDF (jnt h9).2), trivial⟩, (Lo.refl _)⟩⟩)
 rintro f24 w25 ⟨hat26, hk27⟩
 rw [← sets_of_at hat26]
 have hz28 := hk27.size
 refine W.ret (ret1 rfl (v := .bool _) rfl (⟨eR (eDD (by exact good_iff r)), (((Lo.refl w).lo hk4).lo hk27)⟩))
theorem c_impl_checksum (w : World) (s : List UInt8) (hp0 : (s.length : Int) ≤ 281474976710656) : Calls Tryz.prog 187 #[str s] w fun e w' => e = .returned (.int .i64 (csum s)) ∧ Lo w w' := by
 refine calls_W 22 Tryz.func187 rfl rfl rfl (Ws (Wr (Q (aI rfl) <| Qn (Ws (Wr (Q (aI rfl) <| Qn (Ws (Ws (Wr (Q (mS rfl) <| SR.bytes (s := s) und9 und49 und5 rfl (by first | omega | (simp only [List.length_append, List.length_cons, List.length_nil, List.length_take, List.length_drop]; omega) | (simp only [List.length_append, List.length_cons, List.length_nil, List.length_take, List.length_drop] at *; omega)) ?_))))))))))
 intro g1 c2 w3 hg4 hk5 hR6 
 have hz7 := hk5.size
 refine Q (r_len und49 rfl) <| Q (r_mv (v := .int .i64 0) rfl) <| Qn (W.block (W.loop (σ := Nat) (fun g => [(2, .int .i64 0), (3, .int .i64 (csum (s.take g))), (7, .slice (pA g1) s.length c2), (8, .int .i64 (s.length : Int)), (9, .int .i64 (g : Int))]) (fun g w' => (Lo w w') ∧ (SlR w' w3.heap.size encB 1 (pA g1) s.length c2 s) ∧ (g ≤ s.length)) (fun g => s.length - g) 0 ?_ ?_ ?_))
 ·refine ⟨rfl, (eI ?_), rfl, rfl, (eI ?_), trivial⟩ <;> (first | (first | omega | rfl | (rw [csum_snoc (by omega)])) | (dsimp only; (first | omega | rfl | (rw [csum_snoc (by omega)]))))
 ·exact ⟨((Lo.refl w).lo hk5), hR6, (by omega)⟩
 ·rintro k f9 w10 hP12
  obtain ⟨hB11, hm13, hi14⟩ : (Lo w w10) ∧ (SlR w10 w3.heap.size encB 1 (pA g1) s.length c2 s) ∧ (k ≤ s.length) := hP12
  refine (?_ : W _ _ _ _ _ (act _ (sets f9 [(2, .int .i64 0), (3, .int .i64 (csum (s.take k))), (7, .slice (pA g1) s.length c2), (8, .int .i64 (s.length : Int)), (9, .int .i64 (k : Int))])) _)
  have hzw10 := hB11.size
  have hq15 : 0 ≤ csum (s.take k) ∧ csum (s.take k) ≤ 999978 := csum_rng (s.take k)
  refine Ws (Wr (Q (r_lt rfl rfl) <| Qn (Ws (W.cond_d rfl (fun h16 => ?_) (fun h16 => ?_)))))
  ·refine W.skip (Ws (W.block (Ws ?_)))
   have hx18 := hm13.elem (i := k) (by omega)
   have hq19 := u8_le (gt s k)
   refine Wr (Q (r_ixR tsl49 hm13 rfl rfl (by omega)) <| Q (r_ld (v := .int .u8 ((gt s k).toNat : Int)) sca5 rfl (hm13.cell0 hx18 rfl)) <| Q (r_as (v := .int .u8 _) rfl) <| Qn (Wr (Q (mI rfl) <| Q (r_mul rfl rfl (by omega)) <| Q (r_mv (v := .int .u8 _) rfl) <| Q (r_convI und3 und5 rfl (by omega)) <| Q (r_add rfl rfl (by omega)) <| Q (r_add rfl rfl (by omega)) <| Q (r_rem rfl rfl (by omega)) <| Q (aI rfl) <| Qn (Wr (Q (r_add rfl rfl (by omega)) <| Q (mI rfl) <| Qn (⟨k + 1, _, rfl, ⟨rfl, (eI (by first | (first | omega | rfl | (rw [csum_snoc (by omega)])) | (dsimp only; (first | omega | rfl | (rw [csum_snoc (by omega)]))))), rfl, rfl, (eI (by first | (first | omega | rfl | (rw [csum_snoc (by omega)])) | (dsimp only; (first | omega | rfl | (rw [csum_snoc (by omega)]))))), trivial⟩, ⟨hB11, hm13, ?_⟩, ?_⟩))))))
   ·exact (by omega)
   ·exact (by omega)
  ·refine W.exit (xin_here (Ws (Wr (Q (mI rfl) <| Q (aI rfl) <| Qn (W.ret (ret1 rfl (v := .int .i64 _) rfl (⟨eR (eI (by rw [csum_all (by omega)])), hB11⟩)))))))
theorem c_spec_l1Sum (w : World) (s : List UInt8) (hp0 : (s.length : Int) ≤ 281474976710656) : Calls Tryz.prog 177 #[str s] w fun e w' => e = .returned (.int .i64 (csum s)) ∧ Lo w w' := by
 refine calls_W 21 Tryz.func177 rfl rfl rfl (Ws (Wr (Q (aI rfl) <| Qn (Ws (Wr (Q (aI rfl) <| Qn (Ws (Ws (Wr (Q (aI rfl) <| Qn (W.block (W.loop (σ := Nat) (fun g => [(0, str s), (2, .int .i64 0), (3, .int .i64 (csum (s.take g))), (4, .int .i64 (g : Int))]) (fun g w' => (Lo w w') ∧ (g ≤ s.length)) (fun g => s.length - g) 0 ?_ ?_ ?_))))))))))))
 ·refine ⟨rfl, rfl, (eI ?_), (eI ?_), trivial⟩ <;> (first | (first | omega | rfl | (rw [csum_snoc (by omega)])) | (dsimp only; (first | omega | rfl | (rw [csum_snoc (by omega)]))))
 ·exact ⟨(Lo.refl w), (by omega)⟩
 ·rintro k f1 w2 hP4
  obtain ⟨hB3, hi5⟩ : (Lo w w2) ∧ (k ≤ s.length) := hP4
  refine (?_ : W _ _ _ _ _ (act _ (sets f1 [(0, str s), (2, .int .i64 0), (3, .int .i64 (csum (s.take k))), (4, .int .i64 (k : Int))])) _)
  have hzw2 := hB3.size
  have hq6 : 0 ≤ csum (s.take k) ∧ csum (s.take k) ≤ 999978 := csum_rng (s.take k)
  refine Ws (Ws (Wr (Q (mI rfl) <| Q (mS rfl) <| Q (r_len_s und9 rfl) <| Q (r_lt rfl rfl) <| Qn (W.cond_d rfl (fun h7 => ?_) (fun h7 => ?_)))))
  ·refine W.skip (Ws (W.block (Wr (Q (mI rfl) <| Q (r_mul rfl rfl (by omega)) <| Q (mS rfl) <| Q (mI rfl) <| ?_))))
   have hq8 := u8_le (gt s k)
   refine Q (r_idxS (i := k) und9 rfl rfl rfl (by first | omega | (simp only [List.length_append, List.length_cons, List.length_nil, List.length_take, List.length_drop]; omega) | (simp only [List.length_append, List.length_cons, List.length_nil, List.length_take, List.length_drop] at *; omega))) <| Q (r_convI und3 und5 rfl (by omega)) <| Q (r_add rfl rfl (by omega)) <| Q (r_add rfl rfl (by omega)) <| Q (r_rem rfl rfl (by omega)) <| Q (aI rfl) <| Qn (Wr (Q (mI rfl) <| Q (r_add rfl rfl (by omega)) <| Q (aI rfl) <| Qn (⟨k + 1, _, rfl, ⟨rfl, rfl, (eI (by first | (first | omega | rfl | (rw [csum_snoc (by omega)])) | (dsimp only; (first | omega | rfl | (rw [csum_snoc (by omega)]))))), (eI (by first | (first | omega | rfl | (rw [csum_snoc (by omega)])) | (dsimp only; (first | omega | rfl | (rw [csum_snoc (by omega)]))))), trivial⟩, ⟨hB3, ?_⟩, ?_⟩)))
   ·exact (by omega)
   ·exact (by omega)
  ·refine W.exit (xin_here (Ws (Wr (Q (mI rfl) <| Q (aI rfl) <| Qn (W.ret (ret1 rfl (v := .int .i64 _) rfl (⟨eR (eI (by rw [csum_all (by omega)])), hB3⟩)))))))
open Classical in
noncomputable def impl_AppendChecksum (s : List UInt8) : List UInt8 × Bool :=
 if ((Lib.contains s ([35] : List UInt8)) = true) ∨ (4000 < (((s ++ ([35] : List UInt8)) ++ (Lib.itoa (csum s))).length : Int)) then (([] : List UInt8), false) else ((s ++ ([35] : List UInt8)) ++ (Lib.itoa (csum s)), true)
theorem c_impl_AppendChecksum (w : World) (s : List UInt8) (hp0 : (s.length : Int) ≤ 1000000) (hE : EnvW w) : Calls Tryz.prog 158 #[str s] w fun e w' => e = .returned (.tuple (List.toArray [str ((impl_AppendChecksum s).1), .bool ((impl_AppendChecksum s).2)])) ∧ Lo w w' := by
 refine calls_W 19 Tryz.func158 rfl rfl rfl (Ws (Wr (Q (r_as (v := str ([] : List UInt8)) rfl) <| Q (aB rfl) <| Qn (Ws (Wr (Q (mS rfl) <| Q (r_cat rfl rfl (by first | omega | (simp only [List.length_append, List.length_cons, List.length_nil, List.length_take, List.length_drop]; omega) | (simp only [List.length_append, List.length_cons, List.length_nil, List.length_take, List.length_drop] at *; omega))) <| Q (mS rfl) <| Qv ent187 (c_impl_checksum w s (by first | omega | (simp only [List.length_append, List.length_cons, List.length_nil, List.length_take, List.length_drop]; omega))) rfl fun w1 hk2 hz3 => ?_))))))
 have hB4 := (Lo.refl w).lo hk2
 have hq5 : 0 ≤ csum s ∧ csum s ≤ 999978 := csum_rng s
 refine Qv ent74 (c_impl_text w1 (csum s) (by omega) (hE.lo hB4)) rfl fun w6 hk7 hz8 => ?_
 have hB9 := hB4.lo hk7
 have hq10 : (Lib.itoa (csum s)).length ≤ 21 := itoa_len (n := csum s) (by omega) (by omega)
 refine Q (r_cat rfl rfl (by first | omega | (simp only [List.length_append, List.length_cons, List.length_nil, List.length_take, List.length_drop]; omega) | (simp only [List.length_append, List.length_cons, List.length_nil, List.length_take, List.length_drop] at *; omega))) <| Q (aS rfl) <| Qn (Ws (Ws (W.regJS (fun f' w' => At f' [(2, str ([] : List UInt8)), (3, .bool false), (4, str ((s ++ ([35] : List UInt8)) ++ (Lib.itoa (csum s)))), (17, .bool (decide (((Lib.contains s ([35] : List UInt8)) = true) ∨ (4000 < (((s ++ ([35] : List UInt8)) ++ (Lib.itoa (csum s))).length : Int)))))] ∧ Lo w6 w') ?_ ?_)))
 ·refine Q (mS rfl) <| Qv ent94 (c_strings_Contains w6 s ([35] : List UInt8) (by omega) (hE.lo hB9)) rfl fun w11 hk12 hz13 => (Q (mB rfl) <| SR.split (fun h15 => ?_) (fun h15 => ?_))
  ·refine Qs rfl <| Qs rfl <| Qs rfl <| Q (r_pick true rfl (v := .bool true) rfl) <| Qn (⟨_, rfl, ⟨⟨rfl, rfl, rfl, (eDT ((jot h15).1 trivial)), trivial⟩, hk12⟩⟩)
  ·refine Qg rfl (mS rfl) <| Qg rfl (r_len_s und9 rfl) <| Qg rfl (r_gt rfl rfl) <| Q (r_pick false rfl (v := .bool _) rfl) <| Qn (⟨_, rfl, ⟨⟨rfl, rfl, rfl, (eDD (jof (ne_true_of_eq_false h15))), trivial⟩, hk12⟩⟩)
 rintro f16 w17 ⟨hat18, hk19⟩
 rw [← sets_of_at hat18]
 have hz20 := hk19.size
 have hB21 := hB9.lo hk19
 refine W.cond_d rfl (fun h22 => ?_) (fun h22 => ?_)
 ·refine Ws (Wr (Q (r_as (v := str ([] : List UInt8)) rfl) <| Q (aB rfl) <| Qn (W.ret (ret2 rfl (v := str _) (v' := .bool _) rfl rfl ?_))))
  refine ⟨eR (eT2 (eS ?_) (eB ?_)), hB21⟩ <;> (unfold impl_AppendChecksum; rw [if_pos h22] <;> rfl)
 ·have hq23 : ¬ ((Lib.contains s ([35] : List UInt8)) = true) := (not_or.1 h22).1
  have hq24 : ¬ (4000 < (((s ++ ([35] : List UInt8)) ++ (Lib.itoa (csum s))).length : Int)) := (not_or.1 h22).2
  refine W.skip (Ws (Wr (Q (mS rfl) <| Q (aS rfl) <| Q (aB rfl) <| Qn (W.ret (ret2 rfl (v := str _) (v' := .bool _) rfl rfl ?_)))))
  refine ⟨eR (eT2 (eS ?_) (eB ?_)), hB21⟩ <;> (unfold impl_AppendChecksum; rw [if_neg h22] <;> rfl)
theorem c_spec_l1Seal (w : World) (s : List UInt8) (hp0 : (s.length : Int) ≤ 100000000) : Calls Tryz.prog 143 #[str s] w fun e w' => e = .returned (str (sealB s)) ∧ Lo w w' := by
 refine calls_W 9 Tryz.func143 rfl rfl rfl (Ws (Wr (Q (r_as (v := str ([] : List UInt8)) rfl) <| Qn (Ws (Wr (Q (mS rfl) <| Q (r_cat rfl rfl (by first | omega | (simp only [List.length_append, List.length_cons, List.length_nil, List.length_take, List.length_drop]; omega) | (simp only [List.length_append, List.length_cons, List.length_nil, List.length_take, List.length_drop] at *; omega))) <| Q (mS rfl) <| Qv ent177 (c_spec_l1Sum w s (by first | omega | (simp only [List.length_append, List.length_cons, List.length_nil, List.length_take, List.length_drop]; omega))) rfl fun w1 hk2 hz3 => ?_))))))
 have hq5 : 0 ≤ csum s ∧ csum s ≤ 999978 := csum_rng s
 refine Qv ent75 (c_spec_l1Num w1 (csum s) (by omega)) rfl fun w6 hk7 hz8 => ?_
 have hq10 : (Lib.itoa (csum s)).length ≤ 21 := itoa_len (n := csum s) (by omega) (by omega)
 refine Q (r_cat rfl rfl (by first | omega | (simp only [List.length_append, List.length_cons, List.length_nil, List.length_take, List.length_drop]; omega) | (simp only [List.length_append, List.length_cons, List.length_nil, List.length_take, List.length_drop] at *; omega))) <| Q (aS rfl) <| Qn (W.ret (ret1 rfl (v := str _) rfl (⟨eR (eS (by rfl)), (((Lo.refl w).lo hk2).lo hk7)⟩)))
end Go.Proofs.YtndcchndcghmoaaGreatDoor
namespace Go.Proofs.YtndcchndcghmoaaGreatDoor
open Go Go.RowKit Fw
section
variable {k : Int} {e : LogRecord}
theorem apc {s : List UInt8} (h : (35 : UInt8) ∉ s) (hl : s.length ≤ 1000) : impl_AppendChecksum s = (sealB s, true) := by
  have h2 := seal_len hl
  have h3 : Lib.contains s ([35] : List UInt8) = false := by rw [contains1]; simp [h]
  unfold impl_AppendChecksum
  have e1 : (s ++ ([35] : List UInt8)) ++ Lib.itoa (csum s) = sealB s := rfl
  simp only [h3, e1]
  rw [if_neg (by intro hh; rcases hh with hh | hh; exact absurd hh (by simp); omega)]
theorem apc_len (s : List UInt8) : (impl_AppendChecksum s).1.length ≤ s.length + 22 := by
  have h2 := seal_len (s := s) (Nat.le_refl _)
  have e1 : (s ++ ([35] : List UInt8)) ++ Lib.itoa (csum s) = sealB s := rfl
  unfold impl_AppendChecksum
  simp only [e1]
  split <;> simp <;> omega
theorem enc_no1 (h : ¬ (0 ≤ k ∧ k ≤ 59) ∨ ¬ RecOK e) : ([] : List UInt8) = (encN k e).1 := by unfold encN; rw [if_neg (fun hh => h.elim (fun h => h hh.1) (fun h => h hh.2))]
theorem enc_no2 (h : ¬ (0 ≤ k ∧ k ≤ 59) ∨ ¬ RecOK e) : false = (encN k e).2 := by unfold encN; rw [if_neg (fun hh => h.elim (fun h => h hh.1) (fun h => h hh.2))]
theorem enc_ok (h : ¬ (¬ (0 ≤ k ∧ k ≤ 59) ∨ ¬ RecOK e)) : encN k e = (lineB k e, true) := by
  unfold encN; rw [if_pos ⟨Classical.not_not.1 fun q => h (.inl q), Classical.not_not.1 fun q => h (.inr q)⟩]
theorem enc_yes1 (h : ¬ (¬ (0 ≤ k ∧ k ≤ 59) ∨ ¬ RecOK e)) : lineB k e = (encN k e).1 := by rw [enc_ok h]
theorem enc_yes2 (h : ¬ (¬ (0 ≤ k ∧ k ≤ 59) ∨ ¬ RecOK e)) : true = (encN k e).2 := by rw [enc_ok h]
theorem enc_ap (h : ¬ (¬ (0 ≤ k ∧ k ≤ 59) ∨ ¬ RecOK e)) : impl_AppendChecksum ((((Lib.itoa k ++ ([32] : List UInt8)) ++ e.Command) ++ ([64] : List UInt8)) ++ e.Reply) = (sealB (bodyB k e), true) := by
  have h1 : 0 ≤ k ∧ k ≤ 59 := Classical.not_not.1 fun q => h (.inl q)
  have h2 : RecOK e := Classical.not_not.1 fun q => h (.inr q)
  exact apc (s := bodyB k e) (body_no h1.1 h2) (by have := body_len (k := k) (by omega) h2; omega)
theorem enc_ap1 (h : ¬ (¬ (0 ≤ k ∧ k ≤ 59) ∨ ¬ RecOK e)) : (impl_AppendChecksum ((((Lib.itoa k ++ ([32] : List UInt8)) ++ e.Command) ++ ([64] : List UInt8)) ++ e.Reply)).1 ++ ([10] : List UInt8) = (encN k e).1 := by
  rw [enc_ap h, enc_ok h]; rfl
theorem enc_ap2 (h : ¬ (¬ (0 ≤ k ∧ k ≤ 59) ∨ ¬ RecOK e)) : (impl_AppendChecksum ((((Lib.itoa k ++ ([32] : List UInt8)) ++ e.Command) ++ ([64] : List UInt8)) ++ e.Reply)).2 = (encN k e).2 := by
  rw [enc_ap h, enc_ok h]
end
end Go.Proofs.YtndcchndcghmoaaGreatDoor
namespace Go.Proofs.YtndcchndcghmoaaGreatDoor
open Go Go.RowKit Fw
set_option maxRecDepth 10000
set_option maxHeartbeats 2000000
set_option linter.unusedVariables false
theorem agg71 : TAgg Tryz.prog 71 2 := tG
theorem ent143 : Ent Tryz.prog 143 := en Tryz.func143
theorem ent158 : Ent Tryz.prog 158 := en Tryz.func158
theorem ent48 : Ent Tryz.prog 48 := en Tryz.func48
theorem c_spec_l33Line (w : World) (k : Int) (r : LogRecord) (hp0 : 0 ≤ k ∧ k ≤ 1000000) (hp1 : (r.Command.length : Int) ≤ 10000000 ∧ (r.Reply.length : Int) ≤ 10000000) : Calls Tryz.prog 88 #[.int .i64 k, .agg (List.toArray (encLogRecord r))] w fun e w' => e = .returned (str (lineB k r)) ∧ Lo w w' := by
 refine calls_W 17 Tryz.func88 rfl rfl rfl (Ws (Wr (SR.box (v := .agg (List.toArray _)) (l := [str r.Command, str r.Reply]) rfl rfl ?_)))
 intro g1 w2 hg3 hk4 hs5 hb6
 refine Q (r_as (v := str ([] : List UInt8)) rfl) <| Qn (Ws (W.regD mo (by kernel_rfl) (QR.q' (fun w' hw' => r_mv (v := .int .i64 _) rfl) <| QR.call ent75 (fun w' hw' => (c_spec_l1Num w' k (by omega)).mono fun _ _ h => ⟨h.1, hw'.trans h.2⟩) rfl <| ?_)))
 have hq9 : (Lib.itoa k).length ≤ 21 := itoa_len (n := k) (by omega) (by omega)
 refine QR.q' (fun w' hw' => r_cat rfl rfl (by first | omega | (simp only [List.length_append, List.length_cons, List.length_nil, List.length_take, List.length_drop]; omega) | (simp only [List.length_append, List.length_cons, List.length_nil, List.length_take, List.length_drop] at *; omega))) <| QR.q' (fun w' hw' => fA fa71_0 rfl) <| QR.q' (fun w' hw' => r_ld (v := str r.Command) sca9 rfl ((hb6.lo hw').cell rfl)) <| QR.q' (fun w' hw' => r_cat rfl rfl (by first | omega | (simp only [List.length_append, List.length_cons, List.length_nil, List.length_take, List.length_drop]; omega) | (simp only [List.length_append, List.length_cons, List.length_nil, List.length_take, List.length_drop] at *; omega))) <| QR.q' (fun w' hw' => r_cat rfl rfl (by first | omega | (simp only [List.length_append, List.length_cons, List.length_nil, List.length_take, List.length_drop]; omega) | (simp only [List.length_append, List.length_cons, List.length_nil, List.length_take, List.length_drop] at *; omega))) <| QR.q' (fun w' hw' => fA fa71_1 rfl) <| QR.q' (fun w' hw' => r_ld (v := str r.Reply) sca9 rfl ((hb6.lo hw').cell rfl)) <| QR.q' (fun w' hw' => r_cat rfl rfl (by first | omega | (simp only [List.length_append, List.length_cons, List.length_nil, List.length_take, List.length_drop]; omega) | (simp only [List.length_append, List.length_cons, List.length_nil, List.length_take, List.length_drop] at *; omega))) <| QR.call ent143 (fun w' hw' => (c_spec_l1Seal w' (((((Lib.itoa k) ++ ([32] : List UInt8)) ++ r.Command) ++ ([64] : List UInt8)) ++ r.Reply) (by first | omega | (simp only [List.length_append, List.length_cons, List.length_nil, List.length_take, List.length_drop]; omega))).mono fun _ _ h => ⟨h.1, hw'.trans h.2⟩) rfl <| ?_
 have hq10 : (sealB (((((Lib.itoa k) ++ ([32] : List UInt8)) ++ r.Command) ++ ([64] : List UInt8)) ++ r.Reply)).length ≤ (((((Lib.itoa k) ++ ([32] : List UInt8)) ++ r.Command) ++ ([64] : List UInt8)) ++ r.Reply).length + 22 := seal_len (s := (((((Lib.itoa k) ++ ([32] : List UInt8)) ++ r.Command) ++ ([64] : List UInt8)) ++ r.Reply)) (Nat.le_refl _)
 refine QR.q' (fun w' hw' => r_cat rfl rfl (by first | omega | (simp only [List.length_append, List.length_cons, List.length_nil, List.length_take, List.length_drop]; omega) | (simp only [List.length_append, List.length_cons, List.length_nil, List.length_take, List.length_drop] at *; omega))) <| QR.q' (fun w' hw' => r_as (v := str _) rfl) <| QR.nil ?_
 intro w11 hk12
 have hz13 := hk12.size
 refine W.ret (ret1 rfl (v := str _) rfl (⟨eR (eS (by rfl)), (((Lo.refl w).lo hk4).lo hk12)⟩))
theorem c_impl_EncodeRecord (w : World) (k : Int) (r : LogRecord) (hE : EnvW w) : Calls Tryz.prog 99 #[.int .i64 k, .agg (List.toArray (encLogRecord r))] w fun e w' => e = .returned (.tuple (List.toArray [str ((encN k r).1), .bool ((encN k r).2)])) ∧ Lo w w' := by
 refine calls_W 33 Tryz.func99 rfl rfl rfl (Ws (Wr (SR.box (v := .agg (List.toArray _)) (l := [str r.Command, str r.Reply]) rfl rfl ?_)))
 intro g1 w2 hg3 hk4 hs5 hb6
 have hB8 := (Lo.refl w).lo hk4
 refine Q (r_as (v := str ([] : List UInt8)) rfl) <| Q (aB rfl) <| Qn (Ws (Ws (W.regJS (fun f' w' => At f' [(0, .int .i64 k), (3, .pointer (pA g1)), (4, str ([] : List UInt8)), (5, .bool false), (15, .bool (decide ((¬ (0 ≤ k ∧ k ≤ 59)) ∨ (¬ (RecOK r)))))] ∧ Lo w2 w') ?_ ?_)))
 ·refine Q (mI rfl) <| Qv ent66 (c_impl_within w2 k 0 59) rfl fun w9 hk10 hz11 => (Q (r_not rfl) <| Q (mB rfl) <| SR.splitN (fun h13 => ?_) (fun h13 => ?_))
  ·refine Qs rfl <| Qs rfl <| Qs rfl <| Q (r_pick true rfl (v := .bool true) rfl) <| Qn (⟨_, rfl, ⟨⟨rfl, rfl, rfl, rfl, (eDT ((jmf h13).1 trivial)), trivial⟩, hk10⟩⟩)
  ·refine Qg rfl (lG agg71 rfl (hb6.lo hk10) rfl) <| SR.gcall rfl ent48 (c_impl_IsValidRecord w9 r (hE.lo (hB8.lo hk10))) rfl ?_
   rintro e w14 ⟨rfl, hk15⟩
   refine ⟨_, rfl, ?_⟩
   have hz16 := hk15.size
   refine Qg rfl (r_not rfl) <| Q (r_pick false rfl (v := .bool _) rfl) <| Qn (⟨_, rfl, ⟨⟨rfl, rfl, rfl, rfl, (eND (jmt h13)), trivial⟩, (hk10.trans hk15)⟩⟩)
 rintro f18 w19 ⟨hat20, hk21⟩
 rw [← sets_of_at hat20]
 have hz22 := hk21.size
 have hB23 := hB8.lo hk21
 refine W.cond_d rfl (fun h24 => ?_) (fun h24 => ?_)
 ·refine Ws (Wr (Q (r_as (v := str ([] : List UInt8)) rfl) <| Q (aB rfl) <| Qn (W.ret (ret2 rfl (v := str _) (v' := .bool _) rfl rfl (⟨eR (eT2 (eS (by first | exact enc_no1 ‹_› | exact enc_yes1 ‹_› | exact enc_ap1 ‹_›)) (eB (by first | exact enc_no2 ‹_› | exact enc_yes2 ‹_› | exact enc_ap2 ‹_›))), hB23⟩)))))
 ·have hq25 : 0 ≤ k ∧ k ≤ 59 := (Classical.not_not.1 (not_or.1 h24).1)
  have hq26 : RecOK r := (Classical.not_not.1 (not_or.1 h24).2)
  have hq27 := rec_rng hq26
  refine W.skip (Ws (W.regD mo (by kernel_rfl) (QR.q' (fun w' hw' => r_mv (v := .int .i64 _) rfl) <| QR.call ent74 (fun w' hw' => (c_impl_text w' k (by omega) (hE.lo (hB23.trans hw'))).mono fun _ _ h => ⟨h.1, hw'.trans h.2⟩) rfl <| ?_)))
  have hq28 : (Lib.itoa k).length ≤ 21 := itoa_len (n := k) (by omega) (by omega)
  refine QR.q' (fun w' hw' => r_cat rfl rfl (by first | omega | (simp only [List.length_append, List.length_cons, List.length_nil, List.length_take, List.length_drop]; omega) | (simp only [List.length_append, List.length_cons, List.length_nil, List.length_take, List.length_drop] at *; omega))) <| QR.q' (fun w' hw' => fA fa71_0 rfl) <| QR.q' (fun w' hw' => r_ld (v := str r.Command) sca9 rfl (((hb6.lo hk21).lo hw').cell rfl)) <| QR.q' (fun w' hw' => r_cat rfl rfl (by first | omega | (simp only [List.length_append, List.length_cons, List.length_nil, List.length_take, List.length_drop]; omega) | (simp only [List.length_append, List.length_cons, List.length_nil, List.length_take, List.length_drop] at *; omega))) <| QR.q' (fun w' hw' => r_cat rfl rfl (by first | omega | (simp only [List.length_append, List.length_cons, List.length_nil, List.length_take, List.length_drop]; omega) | (simp only [List.length_append, List.length_cons, List.length_nil, List.length_take, List.length_drop] at *; omega))) <| QR.q' (fun w' hw' => fA fa71_1 rfl) <| QR.q' (fun w' hw' => r_ld (v := str r.Reply) sca9 rfl (((hb6.lo hk21).lo hw').cell rfl)) <| QR.q' (fun w' hw' => r_cat rfl rfl (by first | omega | (simp only [List.length_append, List.length_cons, List.length_nil, List.length_take, List.length_drop]; omega) | (simp only [List.length_append, List.length_cons, List.length_nil, List.length_take, List.length_drop] at *; omega))) <| QR.call ent158 (fun w' hw' => (c_impl_AppendChecksum w' (((((Lib.itoa k) ++ ([32] : List UInt8)) ++ r.Command) ++ ([64] : List UInt8)) ++ r.Reply) (by first | omega | (simp only [List.length_append, List.length_cons, List.length_nil, List.length_take, List.length_drop]; omega)) (hE.lo (hB23.trans hw'))).mono fun _ _ h => ⟨h.1, hw'.trans h.2⟩) rfl <| ?_
  have hq29 : (impl_AppendChecksum (((((Lib.itoa k) ++ ([32] : List UInt8)) ++ r.Command) ++ ([64] : List UInt8)) ++ r.Reply)).1.length ≤ (((((Lib.itoa k) ++ ([32] : List UInt8)) ++ r.Command) ++ ([64] : List UInt8)) ++ r.Reply).length + 22 := apc_len (((((Lib.itoa k) ++ ([32] : List UInt8)) ++ r.Command) ++ ([64] : List UInt8)) ++ r.Reply)
  refine QR.q' (fun w' hw' => r_mv (v := .tuple (List.toArray _)) rfl) <| QR.q' (fun w' hw' => r_ext (v := str _) rfl rfl) <| QR.q' (fun w' hw' => r_ext (v := .bool _) rfl rfl) <| QR.q' (fun w' hw' => r_as (v := str _) rfl) <| QR.q' (fun w' hw' => r_as (v := .bool _) rfl) <| QR.nil ?_
  intro w30 hk31
  have hz32 := hk31.size
  refine Ws (Wr (Q (mS rfl) <| Q (r_cat rfl rfl (by first | omega | (simp only [List.length_append, List.length_cons, List.length_nil, List.length_take, List.length_drop]; omega) | (simp only [List.length_append, List.length_cons, List.length_nil, List.length_take, List.length_drop] at *; omega))) <| Q (mB rfl) <| Q (aS rfl) <| Q (aB rfl) <| Qn (W.ret (ret2 rfl (v := str _) (v' := .bool _) rfl rfl (⟨eR (eT2 (eS (by first | exact enc_no1 ‹_› | exact enc_yes1 ‹_› | exact enc_ap1 ‹_›)) (eB (by first | exact enc_no2 ‹_› | exact enc_yes2 ‹_› | exact enc_ap2 ‹_›))), (hB23.lo hk31)⟩)))))
end Go.Proofs.YtndcchndcghmoaaGreatDoor
namespace Go.Proofs.YtndcchndcghmoaaGreatDoor
open Go Go.RowKit Fw
set_option maxRecDepth 10000
set_option maxHeartbeats 2000000
set_option linter.unusedVariables false
theorem bld71_ : Tryz.prog.built 71 [] = some (List.toArray [str ([] : List UInt8), str ([] : List UInt8)]) := by kernel_rfl
theorem bld71_0_1 (a0 : List UInt8) (a1 : List UInt8) : Tryz.prog.built 71 [(0, str a0), (1, str a1)] = some (List.toArray [str a0, str a1]) := by kernel_rfl
theorem ent118 : Ent Tryz.prog 118 := en Tryz.func118
theorem ent170 : Ent Tryz.prog 170 := en Tryz.func170
theorem ent43 : Ent Tryz.prog 43 := en Tryz.func43
theorem ent55 : Ent Tryz.prog 55 := en Tryz.func55
theorem ent88 : Ent Tryz.prog 88 := en Tryz.func88
theorem ent99 : Ent Tryz.prog 99 := en Tryz.func99
theorem tel44 : TEl Tryz.prog 44 9 (str ([] : List UInt8)) 1 16 := ⟨by kernel_rfl, by kernel_rfl, rfl, by decide⟩
theorem tsl44 : TSl Tryz.prog 44 9 1 := ⟨by kernel_rfl, fun _ => by kernel_rfl⟩
theorem tz71 : TZ Tryz.prog 71 (.agg (List.toArray [str ([] : List UInt8), str ([] : List UInt8)])) := fun _ => by kernel_rfl
theorem c_spec_l1Split (w : World) (s : List UInt8) (c : UInt8) (hp0 : (s.length : Int) ≤ 10000000) : Calls Tryz.prog 55 #[str s, .int .u8 (c.toNat : Int)] w fun e w' => ∃ (A1' : Option Addr) (n1' c1' : Nat), e = .returned (.slice A1' n1' c1') ∧ SlO w' w.heap.size encS 1 9 A1' n1' c1' (splitB c s) ∧ Lo w w' := by
 refine calls_W 35 Tryz.func55 rfl rfl rfl (Ws (Wr (Q (r_as (v := .slice none 0 0) rfl) <| Qn (Ws (Wr (SR.lit (vs := []) (L := ([] : List (List UInt8))) (enc := encS) tel44 (fun _ => rfl) rfl rfl rfl (by decide) ?_))))))
 intro g1 w2 hg3 hk4 hO5
 have hz6 := hk4.size
 refine Q (aL rfl) <| Qn (Ws (Wr (Q (aI rfl) <| Qn (Ws (Ws (Wr (Q (aI rfl) <| Qn (W.block (W.loop (σ := (List (List UInt8)) × Nat × Nat × (Option Addr) × Nat × Nat) (fun g => [(0, str s), (1, .int .u8 (c.toNat : Int)), (4, .slice none 0 0), (5, .slice g.2.2.2.1 g.2.2.2.2.1 g.2.2.2.2.2), (6, .int .i64 (g.2.1 : Int)), (7, .int .i64 (g.2.2.1 : Int))]) (fun g w' => (Lo w w') ∧ (SlO w' w.heap.size encS 1 9 g.2.2.2.1 g.2.2.2.2.1 g.2.2.2.2.2 g.1) ∧ (SpTo c s g.1 g.2.1 g.2.2.1 ∧ g.1.length ≤ g.2.2.1)) (fun g => s.length - g.2.2.1) (([] : List (List UInt8)), 0, 0, (pA g1), 0, 0) ?_ ?_ ?_)))))))))
 ·refine ⟨rfl, rfl, rfl, rfl, (eI ?_), (eI ?_), trivial⟩ <;> (first | omega | (dsimp only; omega))
 ·exact ⟨((Lo.refl w).lo hk4), hO5, (by (try dsimp only); exact ⟨SpTo.zero, Nat.le_refl _⟩)⟩
 ·rintro ⟨O, f, i, A8, n8, c8⟩ f9 w10 hP12
  obtain ⟨hB11, hO13, hi14⟩ : (Lo w w10) ∧ (SlO w10 w.heap.size encS 1 9 A8 n8 c8 O) ∧ (SpTo c s O f i ∧ O.length ≤ i) := hP12
  refine (?_ : W _ _ _ _ _ (act _ (sets f9 [(0, str s), (1, .int .u8 (c.toNat : Int)), (4, .slice none 0 0), (5, .slice A8 n8 c8), (6, .int .i64 (f : Int)), (7, .int .i64 (i : Int))])) _)
  have hzw10 := hB11.size
  have hl15 := hO13.len
  have hl16 := hO13.rd.bound
  have hq17 : f ≤ i ∧ i ≤ s.length := hi14.1.rng
  have hq18 : O.length ≤ i := hi14.2
  refine Ws (Ws (Wr (Q (mI rfl) <| Q (mS rfl) <| Q (r_len_s und9 rfl) <| Q (r_lt rfl rfl) <| Qn (W.cond_d rfl (fun h19 => ?_) (fun h19 => ?_)))))
  ·refine W.skip (Ws (W.block (Ws (Wr (Q (mS rfl) <| Q (mI rfl) <| ?_)))))
   have hq20 := u8_le (gt s i)
   refine Q (r_idxS (i := i) und9 rfl rfl rfl (by first | omega | (simp only [List.length_append, List.length_cons, List.length_nil, List.length_take, List.length_drop]; omega) | (simp only [List.length_append, List.length_cons, List.length_nil, List.length_take, List.length_drop] at *; omega))) <| Q (r_mv (v := .int .u8 _) rfl) <| Q (r_eq rfl rfl) <| Qn (W.cond_d rfl (fun h21 => ?_) (fun h21 => ?_))
   ·refine Ws (Wr (Q (mL rfl) <| Q (mS rfl) <| Q (mI rfl) <| Q (mI rfl) <| Q (r_cutS (l := f) (h := i) und9 rfl rfl rfl rfl rfl (by omega) (by first | omega | (simp only [List.length_append, List.length_cons, List.length_nil, List.length_take, List.length_drop]; omega) | (simp only [List.length_append, List.length_cons, List.length_nil, List.length_take, List.length_drop] at *; omega))) <| SR.lit (vs := [str ((s.drop f).take (i - f))]) (L := ([(s.drop f).take (i - f)] : List (List UInt8))) (enc := encS) tel44 (fun _ => rfl) rfl rfl rfl (by decide) ?_))
    intro g22 w23 hg24 hk25 hO26
    have hz27 := hk25.size
    refine SR.app tel44 rfl rfl (hO13.lo hk25) (hO26.rd) (fun _ => rfl) (by omega) (by omega) ?_
    intro A30 c31 w32 hk33 hO34 hN35
    have hz36 := hk33.size
    refine Q (aL rfl) <| Qn (Wr (Q (mI rfl) <| Q (r_add rfl rfl (by omega)) <| Q (aI rfl) <| Qn (Wr (Q (mI rfl) <| Q (r_add rfl rfl (by omega)) <| Q (aI rfl) <| Qn (⟨(O ++ ([(s.drop f).take (i - f)] : List (List UInt8)), (i + 1), i + 1, A30, n8 + 1, c31), _, rfl, ⟨rfl, rfl, rfl, rfl, (eI (by first | omega | (dsimp only; omega))), (eI (by first | omega | (dsimp only; omega))), trivial⟩, ⟨((hB11.lo hk25).step hk33 (fun i_ hi_ e' => by have := (hO13.lo hk25).base_le e'; first | omega | exact e' | exact .inl e' | exact .inr e')), hO34, ?_⟩, ?_⟩)))))
    ·exact (by (try dsimp only); have hh := ‹SpTo _ _ _ _ _ ∧ _›; first | exact ⟨hh.1.hit (by omega) (u8_eq.1 ‹_›), by simp only [List.length_append, List.length_cons, List.length_nil]; omega⟩ | exact ⟨hh.1.miss (by omega) (fun e => ‹¬ _› (u8_eq.2 e)), by omega⟩)
    ·exact (by (try dsimp only); omega)
   ·refine W.skip (Wr (Q (mI rfl) <| Q (r_add rfl rfl (by omega)) <| Q (aI rfl) <| Qn (⟨(O, f, i + 1, A8, n8, c8), _, rfl, ⟨rfl, rfl, rfl, rfl, rfl, (eI (by first | omega | (dsimp only; omega))), trivial⟩, ⟨hB11, hO13, ?_⟩, ?_⟩)))
    ·exact (by (try dsimp only); have hh := ‹SpTo _ _ _ _ _ ∧ _›; first | exact ⟨hh.1.hit (by omega) (u8_eq.1 ‹_›), by simp only [List.length_append, List.length_cons, List.length_nil]; omega⟩ | exact ⟨hh.1.miss (by omega) (fun e => ‹¬ _› (u8_eq.2 e)), by omega⟩)
    ·exact (by (try dsimp only); omega)
  ·refine W.exit (xin_here (Ws (Wr (Q (mL rfl) <| Q (mS rfl) <| Q (mI rfl) <| Q (r_cutlS (l := f) und9 rfl rfl rfl (by first | omega | (simp only [List.length_append, List.length_cons, List.length_nil, List.length_take, List.length_drop]; omega) | (simp only [List.length_append, List.length_cons, List.length_nil, List.length_take, List.length_drop] at *; omega))) <| SR.lit (vs := [str (s.drop f)]) (L := ([s.drop f] : List (List UInt8))) (enc := encS) tel44 (fun _ => rfl) rfl rfl rfl (by decide) ?_))))
   intro g39 w40 hg41 hk42 hO43
   have hz44 := hk42.size
   refine SR.app tel44 rfl rfl (hO13.lo hk42) (hO43.rd) (fun _ => rfl) (by omega) (by omega) ?_
   intro A47 c48 w49 hk50 hO51 hN52
   have hz53 := hk50.size
   refine Q (aL rfl) <| Qn (W.ret (ret1 rfl (v := .slice _ _ _) rfl (⟨A47, n8 + 1, c48, eR rfl, (SlO.eqv (hO51.down) (by exact SpTo.all (And.left ‹SpTo _ _ _ _ _ ∧ _›) (by omega))), ((hB11.lo hk42).step hk50 (fun i_ hi_ e' => by have := (hO13.lo hk42).base_le e'; first | omega | exact e' | exact .inl e' | exact .inr e'))⟩)))
open Classical in
noncomputable def impl_decode (k : Int) (s : List UInt8) : LogRecord × Bool :=
 if ((encN k (⟨(Lib.cut (Lib.trimPrefix ((Lib.cut s ([35] : List UInt8)).1) ((Lib.itoa k) ++ ([32] : List UInt8))) ([64] : List UInt8)).1, (Lib.cut (Lib.trimPrefix ((Lib.cut s ([35] : List UInt8)).1) ((Lib.itoa k) ++ ([32] : List UInt8))) ([64] : List UInt8)).2.1⟩ : LogRecord)).2) = true then ((⟨(Lib.cut (Lib.trimPrefix ((Lib.cut s ([35] : List UInt8)).1) ((Lib.itoa k) ++ ([32] : List UInt8))) ([64] : List UInt8)).1, (Lib.cut (Lib.trimPrefix ((Lib.cut s ([35] : List UInt8)).1) ((Lib.itoa k) ++ ([32] : List UInt8))) ([64] : List UInt8)).2.1⟩ : LogRecord), decide (((encN k (⟨(Lib.cut (Lib.trimPrefix ((Lib.cut s ([35] : List UInt8)).1) ((Lib.itoa k) ++ ([32] : List UInt8))) ([64] : List UInt8)).1, (Lib.cut (Lib.trimPrefix ((Lib.cut s ([35] : List UInt8)).1) ((Lib.itoa k) ++ ([32] : List UInt8))) ([64] : List UInt8)).2.1⟩ : LogRecord)).1) = (s ++ ([10] : List UInt8)))) else ((⟨(Lib.cut (Lib.trimPrefix ((Lib.cut s ([35] : List UInt8)).1) ((Lib.itoa k) ++ ([32] : List UInt8))) ([64] : List UInt8)).1, (Lib.cut (Lib.trimPrefix ((Lib.cut s ([35] : List UInt8)).1) ((Lib.itoa k) ++ ([32] : List UInt8))) ([64] : List UInt8)).2.1⟩ : LogRecord), false)
theorem c_impl_decode (w : World) (k : Int) (s : List UInt8) (hp0 : 0 ≤ k ∧ k ≤ 59) (hp1 : (s.length : Int) ≤ 5000000) (hE : EnvW w) : Calls Tryz.prog 119 #[.int .i64 k, str s] w fun e w' => e = .returned (.tuple (List.toArray [.agg (List.toArray [str (((impl_decode k s).1).Command), str (((impl_decode k s).1).Reply)]), .bool ((impl_decode k s).2)])) ∧ Lo w w' := by
 refine calls_W 48 Tryz.func119 rfl rfl rfl (Ws (Wr (SR.alloc (l := [str ([] : List UInt8), str ([] : List UInt8)]) tz71 rfl ?_)))
 intro g1 w2 hg3 hk4 hs5 hb6
 have hB8 := (Lo.refl w).lo hk4
 refine Q (aB rfl) <| Qn (Ws (Wr (Q (mS rfl) <| Qv ent118 (c_strings_Cut w2 s ([35] : List UInt8) (by omega) (hE.lo hB8)) rfl fun w9 hk10 hz11 => ?_)))
 have hB12 := hB8.lo hk10
 have hq13 : (Lib.cut s ([35] : List UInt8)).1.length ≤ s.length ∧ (Lib.cut s ([35] : List UInt8)).2.1.length ≤ s.length := cut_len s ([35] : List UInt8)
 refine Q (mT rfl) <| Q (xS rfl rfl) <| Q (xS rfl rfl) <| Q (xB rfl rfl) <| Q (aS rfl) <| Q (aS rfl) <| Q (aB rfl) <| Qn (Ws (Wr (Q (mS rfl) <| Q (mI rfl) <| Qv ent74 (c_impl_text w9 k (by omega) (hE.lo hB12)) rfl fun w14 hk15 hz16 => ?_)))
 have hq18 : (Lib.itoa k).length ≤ 21 := itoa_len (n := k) (by omega) (by omega)
 refine Q (r_cat rfl rfl (by first | omega | (simp only [List.length_append, List.length_cons, List.length_nil, List.length_take, List.length_drop]; omega) | (simp only [List.length_append, List.length_cons, List.length_nil, List.length_take, List.length_drop] at *; omega))) <| Qv ent170 (c_strings_TrimPrefix w14 ((Lib.cut s ([35] : List UInt8)).1) ((Lib.itoa k) ++ ([32] : List UInt8))) rfl fun w19 hk20 hz21 => ?_
 have hB22 := (hB12.lo hk15).lo hk20
 have hq23 : (Lib.trimPrefix ((Lib.cut s ([35] : List UInt8)).1) ((Lib.itoa k) ++ ([32] : List UInt8))).length ≤ ((Lib.cut s ([35] : List UInt8)).1).length := trim_len ((Lib.cut s ([35] : List UInt8)).1) ((Lib.itoa k) ++ ([32] : List UInt8))
 refine Qv ent118 (c_strings_Cut w19 (Lib.trimPrefix ((Lib.cut s ([35] : List UInt8)).1) ((Lib.itoa k) ++ ([32] : List UInt8))) ([64] : List UInt8) (by omega) (hE.lo hB22)) rfl fun w24 hk25 hz26 => ?_
 have hq28 : (Lib.cut (Lib.trimPrefix ((Lib.cut s ([35] : List UInt8)).1) ((Lib.itoa k) ++ ([32] : List UInt8))) ([64] : List UInt8)).1.length ≤ (Lib.trimPrefix ((Lib.cut s ([35] : List UInt8)).1) ((Lib.itoa k) ++ ([32] : List UInt8))).length ∧ (Lib.cut (Lib.trimPrefix ((Lib.cut s ([35] : List UInt8)).1) ((Lib.itoa k) ++ ([32] : List UInt8))) ([64] : List UInt8)).2.1.length ≤ (Lib.trimPrefix ((Lib.cut s ([35] : List UInt8)).1) ((Lib.itoa k) ++ ([32] : List UInt8))).length := cut_len (Lib.trimPrefix ((Lib.cut s ([35] : List UInt8)).1) ((Lib.itoa k) ++ ([32] : List UInt8))) ([64] : List UInt8)
 refine Q (mT rfl) <| Q (xS rfl rfl) <| Q (xS rfl rfl) <| Q (xB rfl rfl) <| Q (aS rfl) <| Q (aS rfl) <| Q (aB rfl) <| Qn (Ws (Wr (Q (mS rfl) <| Q (mS rfl) <| Q (r_build (vs := [(0, str ((Lib.cut (Lib.trimPrefix ((Lib.cut s ([35] : List UInt8)).1) ((Lib.itoa k) ++ ([32] : List UInt8))) ([64] : List UInt8)).1)), (1, str ((Lib.cut (Lib.trimPrefix ((Lib.cut s ([35] : List UInt8)).1) ((Lib.itoa k) ++ ([32] : List UInt8))) ([64] : List UInt8)).2.1))]) rfl (bld71_0_1 _ _)) <| SR.alloc (l := [str ([] : List UInt8), str ([] : List UInt8)]) tz71 rfl ?_)))
 intro g30 w31 hg32 hk33 hs34 hb35
 refine Qw (o := 0) (vs := [str ((Lib.cut (Lib.trimPrefix ((Lib.cut s ([35] : List UInt8)).1) ((Lib.itoa k) ++ ([32] : List UInt8))) ([64] : List UInt8)).1), str ((Lib.cut (Lib.trimPrefix ((Lib.cut s ([35] : List UInt8)).1) ((Lib.itoa k) ++ ([32] : List UInt8))) ([64] : List UInt8)).2.1)]) agg71.2 rfl rfl rfl rfl hb35 ler rfl ?_
 intro w38 hk39 hs40 hb41
 have hB43 := ((hB22.lo hk25).lo hk33).new hk39
 refine Qn (Ws ?_)
 have hm44 := (((((hb6.lo hk10).lo hk15).lo hk20).lo hk25).lo hk33).kn hk39
 refine Wr (Q (mI rfl) <| Q (lG agg71 rfl hb41 rfl) <| Qv ent99 (c_impl_EncodeRecord w38 k (⟨(Lib.cut (Lib.trimPrefix ((Lib.cut s ([35] : List UInt8)).1) ((Lib.itoa k) ++ ([32] : List UInt8))) ([64] : List UInt8)).1, (Lib.cut (Lib.trimPrefix ((Lib.cut s ([35] : List UInt8)).1) ((Lib.itoa k) ++ ([32] : List UInt8))) ([64] : List UInt8)).2.1⟩ : LogRecord) (hE.lo hB43)) rfl fun w45 hk46 hz47 => ?_)
 have hB48 := hB43.lo hk46
 have hq49 : (encN k (⟨(Lib.cut (Lib.trimPrefix ((Lib.cut s ([35] : List UInt8)).1) ((Lib.itoa k) ++ ([32] : List UInt8))) ([64] : List UInt8)).1, (Lib.cut (Lib.trimPrefix ((Lib.cut s ([35] : List UInt8)).1) ((Lib.itoa k) ++ ([32] : List UInt8))) ([64] : List UInt8)).2.1⟩ : LogRecord)).1.length ≤ 406 := enc_len k (⟨(Lib.cut (Lib.trimPrefix ((Lib.cut s ([35] : List UInt8)).1) ((Lib.itoa k) ++ ([32] : List UInt8))) ([64] : List UInt8)).1, (Lib.cut (Lib.trimPrefix ((Lib.cut s ([35] : List UInt8)).1) ((Lib.itoa k) ++ ([32] : List UInt8))) ([64] : List UInt8)).2.1⟩ : LogRecord)
 refine Q (mT rfl) <| Q (xS rfl rfl) <| Q (xB rfl rfl) <| Q (aS rfl) <| Q (aB rfl) <| Qn (Ws (Wr (Q (lG agg71 rfl (hb41.lo hk46) rfl) <| Q (mB rfl) <| Q (mB rfl) <| SR.split (fun h50 => ?_) (fun h50 => ?_))))
 ·refine Qg rfl (mS rfl) <| Qg rfl (mS rfl) <| Qg rfl (r_cat rfl rfl (by first | omega | (simp only [List.length_append, List.length_cons, List.length_nil, List.length_take, List.length_drop]; omega) | (simp only [List.length_append, List.length_cons, List.length_nil, List.length_take, List.length_drop] at *; omega))) <| Qg rfl (r_eqs (s := (encN k (⟨(Lib.cut (Lib.trimPrefix ((Lib.cut s ([35] : List UInt8)).1) ((Lib.itoa k) ++ ([32] : List UInt8))) ([64] : List UInt8)).1, (Lib.cut (Lib.trimPrefix ((Lib.cut s ([35] : List UInt8)).1) ((Lib.itoa k) ++ ([32] : List UInt8))) ([64] : List UInt8)).2.1⟩ : LogRecord)).1) (r := s ++ ([10] : List UInt8)) rfl rfl) <| Q (r_pick true rfl (v := .bool _) rfl) <| Qw (o := 0) (vs := [str ((Lib.cut (Lib.trimPrefix ((Lib.cut s ([35] : List UInt8)).1) ((Lib.itoa k) ++ ([32] : List UInt8))) ([64] : List UInt8)).1), str ((Lib.cut (Lib.trimPrefix ((Lib.cut s ([35] : List UInt8)).1) ((Lib.itoa k) ++ ([32] : List UInt8))) ([64] : List UInt8)).2.1)]) agg71.2 rfl rfl rfl rfl (hm44.lo hk46) ler rfl ?_
  intro w51 hk52 hs53 hb54
  refine Q (aB rfl) <| Qn (W.ret (retCT rfl rfl agg71 hb54 rfl (v := .bool _) rfl ?_))
  refine ⟨eR (eT2 (eA (eC (eS ?_) (eC (eS ?_) rfl))) (eB ?_)), (hB48.new hk52)⟩ <;> (unfold impl_decode; rw [if_pos h50] <;> rfl)
 ·refine Qs rfl <| Qs rfl <| Qs rfl <| Qs rfl <| Q (r_pick false rfl (v := .bool false) rfl) <| Qw (o := 0) (vs := [str ((Lib.cut (Lib.trimPrefix ((Lib.cut s ([35] : List UInt8)).1) ((Lib.itoa k) ++ ([32] : List UInt8))) ([64] : List UInt8)).1), str ((Lib.cut (Lib.trimPrefix ((Lib.cut s ([35] : List UInt8)).1) ((Lib.itoa k) ++ ([32] : List UInt8))) ([64] : List UInt8)).2.1)]) agg71.2 rfl rfl rfl rfl (hm44.lo hk46) ler rfl ?_
  intro w57 hk58 hs59 hb60
  refine Q (aB rfl) <| Qn (W.ret (retCT rfl rfl agg71 hb60 rfl (v := .bool _) rfl ?_))
  refine ⟨eR (eT2 (eA (eC (eS ?_) (eC (eS ?_) rfl))) (eB ?_)), (hB48.new hk58)⟩ <;> (unfold impl_decode; rw [if_neg (ne_true_of_eq_false h50)] <;> rfl)
open Classical in
noncomputable def spec_l33Read (s : List UInt8) (k : Int) : LogRecord × Bool :=
 if (((gt (splitB (35 : UInt8) s) 0).length : Int) < (((Lib.itoa k) ++ ([32] : List UInt8)).length : Int)) ∨ (¬ (((gt (splitB (35 : UInt8) s) 0).take ((((Lib.itoa k) ++ ([32] : List UInt8)).length : Int).toNat)) = ((Lib.itoa k) ++ ([32] : List UInt8)))) then ((⟨([] : List UInt8), ([] : List UInt8)⟩ : LogRecord), false) else if ((gt (splitB (64 : UInt8) ((gt (splitB (35 : UInt8) s) 0).drop ((((Lib.itoa k) ++ ([32] : List UInt8)).length : Int).toNat))) 0).length : Int) = (((gt (splitB (35 : UInt8) s) 0).drop ((((Lib.itoa k) ++ ([32] : List UInt8)).length : Int).toNat)).length : Int) then ((⟨([] : List UInt8), ([] : List UInt8)⟩ : LogRecord), false) else ((⟨(gt (splitB (64 : UInt8) ((gt (splitB (35 : UInt8) s) 0).drop ((((Lib.itoa k) ++ ([32] : List UInt8)).length : Int).toNat))) 0), ((gt (splitB (35 : UInt8) s) 0).drop ((((Lib.itoa k) ++ ([32] : List UInt8)).length : Int).toNat)).drop ((((gt (splitB (64 : UInt8) ((gt (splitB (35 : UInt8) s) 0).drop ((((Lib.itoa k) ++ ([32] : List UInt8)).length : Int).toNat))) 0).length : Int) + 1).toNat)⟩ : LogRecord), decide ((RecOK (⟨(gt (splitB (64 : UInt8) ((gt (splitB (35 : UInt8) s) 0).drop ((((Lib.itoa k) ++ ([32] : List UInt8)).length : Int).toNat))) 0), ((gt (splitB (35 : UInt8) s) 0).drop ((((Lib.itoa k) ++ ([32] : List UInt8)).length : Int).toNat)).drop ((((gt (splitB (64 : UInt8) ((gt (splitB (35 : UInt8) s) 0).drop ((((Lib.itoa k) ++ ([32] : List UInt8)).length : Int).toNat))) 0).length : Int) + 1).toNat)⟩ : LogRecord)) ∧ ((lineB k (⟨(gt (splitB (64 : UInt8) ((gt (splitB (35 : UInt8) s) 0).drop ((((Lib.itoa k) ++ ([32] : List UInt8)).length : Int).toNat))) 0), ((gt (splitB (35 : UInt8) s) 0).drop ((((Lib.itoa k) ++ ([32] : List UInt8)).length : Int).toNat)).drop ((((gt (splitB (64 : UInt8) ((gt (splitB (35 : UInt8) s) 0).drop ((((Lib.itoa k) ++ ([32] : List UInt8)).length : Int).toNat))) 0).length : Int) + 1).toNat)⟩ : LogRecord)) = (s ++ ([10] : List UInt8)))))
theorem c_spec_l33Read (w : World) (s : List UInt8) (k : Int) (hp0 : (s.length : Int) ≤ 5000000) (hp1 : 0 ≤ k ∧ k ≤ 59) : Calls Tryz.prog 163 #[str s, .int .i64 k] w fun e w' => e = .returned (.tuple (List.toArray [.agg (List.toArray [str (((spec_l33Read s k).1).Command), str (((spec_l33Read s k).1).Reply)]), .bool ((spec_l33Read s k).2)])) ∧ Lo w w' := by
 refine calls_W 64 Tryz.func163 rfl rfl rfl (Ws (Wr (SR.alloc (l := [str ([] : List UInt8), str ([] : List UInt8)]) tz71 rfl ?_)))
 intro g1 w2 hg3 hk4 hs5 hb6
 refine Q (aB rfl) <| Qn (Ws (Wr (Q (mI rfl) <| Qv ent75 (c_spec_l1Num w2 k (by omega)) rfl fun w9 hk10 hz11 => ?_)))
 have hq13 : (Lib.itoa k).length ≤ 21 := itoa_len (n := k) (by omega) (by omega)
 refine Q (r_cat rfl rfl (by first | omega | (simp only [List.length_append, List.length_cons, List.length_nil, List.length_take, List.length_drop]; omega) | (simp only [List.length_append, List.length_cons, List.length_nil, List.length_take, List.length_drop] at *; omega))) <| Q (aS rfl) <| Qn (Ws (Wr (Q (mS rfl) <| SR.call ent55 (c_spec_l1Split w9 s (35 : UInt8) (by first | omega | (simp only [List.length_append, List.length_cons, List.length_nil, List.length_take, List.length_drop]; omega))) rfl ?_)))
 rintro e w14 ⟨A16, n17, c18, rfl, hO19, hk15⟩
 refine ⟨_, rfl, ?_⟩
 have hz20 := hk15.size
 have hl22 := hO19.len
 have hl23 := hO19.rd.bound
 have hq24 := splitB_len (35 : UInt8) s
 have hx26 := (hO19.rd).elem (i := 0) (by omega)
 have hq27 := splitB_gt (35 : UInt8) s
 have hq28 := splitB_el hx26
 refine Q (r_ixR tsl44 (hO19.rd) rfl rfl (by omega)) <| Q (r_ld (v := str (gt (splitB (35 : UInt8) s) 0)) sca9 rfl ((hO19.rd).cell0 hx26 rfl)) <| Q (aS rfl) <| Qn (Ws (Ws ?_))
 have hm29 := (hb6.lo hk10).lo hk15
 refine W.regJS (fun f' w' => At f' [(0, str s), (1, .int .i64 k), (4, .pointer (pA g1)), (5, .bool false), (6, str ((Lib.itoa k) ++ ([32] : List UInt8))), (7, str (gt (splitB (35 : UInt8) s) 0)), (30, .bool (decide ((((gt (splitB (35 : UInt8) s) 0).length : Int) < (((Lib.itoa k) ++ ([32] : List UInt8)).length : Int)) ∨ (¬ (((gt (splitB (35 : UInt8) s) 0).take ((((Lib.itoa k) ++ ([32] : List UInt8)).length : Int).toNat)) = ((Lib.itoa k) ++ ([32] : List UInt8)))))))] ∧ Lo w14 w') ?_ ?_
 ·refine Q (mS rfl) <| Q (r_len_s und9 rfl) <| Q (mS rfl) <| Q (r_len_s und9 rfl) <| Q (r_lt rfl rfl) <| Q (mB rfl) <| SR.splitD (fun h30 => ?_) (fun h30 => ?_)
  ·refine Qs rfl <| Qs rfl <| Qs rfl <| Qs rfl <| Qs rfl <| Qs rfl <| Q (r_pick true rfl (v := .bool true) rfl) <| Qn (⟨_, rfl, ⟨⟨rfl, rfl, rfl, rfl, rfl, rfl, (eDT ((jot h30).1 trivial)), trivial⟩, (Lo.refl _)⟩⟩)
  ·refine Qg rfl (mS rfl) <| Qg rfl (mS rfl) <| Qg rfl (r_len_s und9 rfl) <| Qg rfl (r_cuthS (h := (((Lib.itoa k) ++ ([32] : List UInt8)).length : Int).toNat) und9 rfl rfl (by omega) (by first | omega | (simp only [List.length_append, List.length_cons, List.length_nil, List.length_take, List.length_drop]; omega) | (simp only [List.length_append, List.length_cons, List.length_nil, List.length_take, List.length_drop] at *; omega))) <| Qg rfl (mS rfl) <| Qg rfl (r_nes (s := (gt (splitB (35 : UInt8) s) 0).take ((((Lib.itoa k) ++ ([32] : List UInt8)).length : Int).toNat)) (r := (Lib.itoa k) ++ ([32] : List UInt8)) rfl rfl) <| Q (r_pick false rfl (v := .bool _) rfl) <| Qn (⟨_, rfl, ⟨⟨rfl, rfl, rfl, rfl, rfl, rfl, (eND (jof h30)), trivial⟩, (Lo.refl _)⟩⟩)
 rintro f31 w32 ⟨hat33, hk34⟩
 rw [← sets_of_at hat33]
 have hz35 := hk34.size
 have hB36 := ((((Lo.refl w).lo hk4).lo hk10).lo hk15).lo hk34
 refine W.cond_d rfl (fun h37 => ?_) (fun h37 => ?_)
 ·refine Ws (Wr (Q (r_build (vs := []) rfl bld71_) <| Qw (o := 0) (vs := [str ([] : List UInt8), str ([] : List UInt8)]) agg71.2 rfl rfl rfl rfl (hm29.lo hk34) ler rfl ?_))
  intro w38 hk39 hs40 hb41
  refine Q (aB rfl) <| Qn (W.ret (retCT rfl rfl agg71 hb41 rfl (v := .bool _) rfl ?_))
  refine ⟨eR (eT2 (eA (eC (eS ?_) (eC (eS ?_) rfl))) (eB ?_)), (hB36.new hk39)⟩ <;> (unfold spec_l33Read; rw [if_pos h37] <;> rfl)
 ·have hq44 : ¬ (((gt (splitB (35 : UInt8) s) 0).length : Int) < (((Lib.itoa k) ++ ([32] : List UInt8)).length : Int)) := (not_or.1 h37).1
  have hq45 : ((gt (splitB (35 : UInt8) s) 0).take ((((Lib.itoa k) ++ ([32] : List UInt8)).length : Int).toNat)) = ((Lib.itoa k) ++ ([32] : List UInt8)) := (Classical.not_not.1 (not_or.1 h37).2)
  refine W.skip (Ws (Wr (Q (mS rfl) <| Q (mS rfl) <| Q (r_len_s und9 rfl) <| Q (r_cutlS (l := (((Lib.itoa k) ++ ([32] : List UInt8)).length : Int).toNat) und9 rfl rfl (by omega) (by first | omega | (simp only [List.length_append, List.length_cons, List.length_nil, List.length_take, List.length_drop]; omega) | (simp only [List.length_append, List.length_cons, List.length_nil, List.length_take, List.length_drop] at *; omega))) <| Q (aS rfl) <| Qn (Ws (Wr (Q (mS rfl) <| SR.call ent55 (c_spec_l1Split w32 ((gt (splitB (35 : UInt8) s) 0).drop ((((Lib.itoa k) ++ ([32] : List UInt8)).length : Int).toNat)) (64 : UInt8) (by first | omega | (simp only [List.length_append, List.length_cons, List.length_nil, List.length_take, List.length_drop]; omega))) rfl ?_))))))
  rintro e w46 ⟨A48, n49, c50, rfl, hO51, hk47⟩
  refine ⟨_, rfl, ?_⟩
  have hz52 := hk47.size
  have hB53 := hB36.lo hk47
  have hl54 := hO51.len
  have hl55 := hO51.rd.bound
  have hq56 := splitB_len (64 : UInt8) ((gt (splitB (35 : UInt8) s) 0).drop ((((Lib.itoa k) ++ ([32] : List UInt8)).length : Int).toNat))
  have hx58 := (hO51.rd).elem (i := 0) (by omega)
  have hq59 := splitB_gt (64 : UInt8) ((gt (splitB (35 : UInt8) s) 0).drop ((((Lib.itoa k) ++ ([32] : List UInt8)).length : Int).toNat))
  have hq60 : ((gt (splitB (35 : UInt8) s) 0).drop ((((Lib.itoa k) ++ ([32] : List UInt8)).length : Int).toNat)).length ≤ (gt (splitB (35 : UInt8) s) 0).length := by rw [List.length_drop]; omega
  have hq61 := splitB_el hx58
  refine Q (r_ixR tsl44 (hO51.rd) rfl rfl (by omega)) <| Q (r_ld (v := str (gt (splitB (64 : UInt8) ((gt (splitB (35 : UInt8) s) 0).drop ((((Lib.itoa k) ++ ([32] : List UInt8)).length : Int).toNat))) 0)) sca9 rfl ((hO51.rd).cell0 hx58 rfl)) <| Q (aS rfl) <| Qn (Ws (Ws ?_))
  have hm62 := (hm29.lo hk34).lo hk47
  refine Wr (Q (mS rfl) <| Q (r_len_s und9 rfl) <| Q (mS rfl) <| Q (r_len_s und9 rfl) <| Q (r_eq rfl rfl) <| Qn (W.cond_d rfl (fun h63 => ?_) (fun h63 => ?_)))
  ·refine Ws (Wr (Q (r_build (vs := []) rfl bld71_) <| Qw (o := 0) (vs := [str ([] : List UInt8), str ([] : List UInt8)]) agg71.2 rfl rfl rfl rfl hm62 ler rfl ?_))
   intro w64 hk65 hs66 hb67
   refine Q (aB rfl) <| Qn (W.ret (retCT rfl rfl agg71 hb67 rfl (v := .bool _) rfl ?_))
   refine ⟨eR (eT2 (eA (eC (eS ?_) (eC (eS ?_) rfl))) (eB ?_)), (hB53.new hk65)⟩ <;> (unfold spec_l33Read; rw [if_neg h37, if_pos h63] <;> rfl)
  ·refine W.skip (Ws (Wr (Q (mS rfl) <| Q (mS rfl) <| Q (mS rfl) <| Q (r_len_s und9 rfl) <| Q (r_add rfl rfl (by omega)) <| Q (r_cutlS (l := (((gt (splitB (64 : UInt8) ((gt (splitB (35 : UInt8) s) 0).drop ((((Lib.itoa k) ++ ([32] : List UInt8)).length : Int).toNat))) 0).length : Int) + 1).toNat) und9 rfl rfl (by omega) (by first | omega | (simp only [List.length_append, List.length_cons, List.length_nil, List.length_take, List.length_drop]; omega) | (simp only [List.length_append, List.length_cons, List.length_nil, List.length_take, List.length_drop] at *; omega))) <| Q (r_build (vs := [(0, str (gt (splitB (64 : UInt8) ((gt (splitB (35 : UInt8) s) 0).drop ((((Lib.itoa k) ++ ([32] : List UInt8)).length : Int).toNat))) 0)), (1, str (((gt (splitB (35 : UInt8) s) 0).drop ((((Lib.itoa k) ++ ([32] : List UInt8)).length : Int).toNat)).drop ((((gt (splitB (64 : UInt8) ((gt (splitB (35 : UInt8) s) 0).drop ((((Lib.itoa k) ++ ([32] : List UInt8)).length : Int).toNat))) 0).length : Int) + 1).toNat)))]) rfl (bld71_0_1 _ _)) <| SR.alloc (l := [str ([] : List UInt8), str ([] : List UInt8)]) tz71 rfl ?_)))
   intro g70 w71 hg72 hk73 hs74 hb75
   refine Qw (o := 0) (vs := [str (gt (splitB (64 : UInt8) ((gt (splitB (35 : UInt8) s) 0).drop ((((Lib.itoa k) ++ ([32] : List UInt8)).length : Int).toNat))) 0), str (((gt (splitB (35 : UInt8) s) 0).drop ((((Lib.itoa k) ++ ([32] : List UInt8)).length : Int).toNat)).drop ((((gt (splitB (64 : UInt8) ((gt (splitB (35 : UInt8) s) 0).drop ((((Lib.itoa k) ++ ([32] : List UInt8)).length : Int).toNat))) 0).length : Int) + 1).toNat))]) agg71.2 rfl rfl rfl rfl hb75 ler rfl ?_
   intro w80 hk81 hs82 hb83
   refine Qn (Ws ?_)
   have hm86 := (hm62.lo hk73).kn hk81
   refine W.regA (Kp (fun b_ => b_ = g1) w80) (fun f' w' => At f' [(4, .pointer (pA g1)), (5, .bool (decide ((RecOK (⟨(gt (splitB (64 : UInt8) ((gt (splitB (35 : UInt8) s) 0).drop ((((Lib.itoa k) ++ ([32] : List UInt8)).length : Int).toNat))) 0), ((gt (splitB (35 : UInt8) s) 0).drop ((((Lib.itoa k) ++ ([32] : List UInt8)).length : Int).toNat)).drop ((((gt (splitB (64 : UInt8) ((gt (splitB (35 : UInt8) s) 0).drop ((((Lib.itoa k) ++ ([32] : List UInt8)).length : Int).toNat))) 0).length : Int) + 1).toNat)⟩ : LogRecord)) ∧ ((lineB k (⟨(gt (splitB (64 : UInt8) ((gt (splitB (35 : UInt8) s) 0).drop ((((Lib.itoa k) ++ ([32] : List UInt8)).length : Int).toNat))) 0), ((gt (splitB (35 : UInt8) s) 0).drop ((((Lib.itoa k) ++ ([32] : List UInt8)).length : Int).toNat)).drop ((((gt (splitB (64 : UInt8) ((gt (splitB (35 : UInt8) s) 0).drop ((((Lib.itoa k) ++ ([32] : List UInt8)).length : Int).toNat))) 0).length : Int) + 1).toNat)⟩ : LogRecord)) = (s ++ ([10] : List UInt8))))))] ∧ (Kp (fun b_ => b_ = g1) w80 w') ∧ (Blk w' g1 71 [str (gt (splitB (64 : UInt8) ((gt (splitB (35 : UInt8) s) 0).drop ((((Lib.itoa k) ++ ([32] : List UInt8)).length : Int).toNat))) 0), str (((gt (splitB (35 : UInt8) s) 0).drop ((((Lib.itoa k) ++ ([32] : List UInt8)).length : Int).toNat)).drop ((((gt (splitB (64 : UInt8) ((gt (splitB (35 : UInt8) s) 0).drop ((((Lib.itoa k) ++ ([32] : List UInt8)).length : Int).toNat))) 0).length : Int) + 1).toNat))])) mo ?_ ?_
   ·intro w108 hk109
    have hz110 := hk109.size
    refine Ak 0 rfl (kr hk109) (fun w' hw' => r_lda (l := [str (gt (splitB (64 : UInt8) ((gt (splitB (35 : UInt8) s) 0).drop ((((Lib.itoa k) ++ ([32] : List UInt8)).length : Int).toNat))) 0), str (((gt (splitB (35 : UInt8) s) 0).drop ((((Lib.itoa k) ++ ([32] : List UInt8)).length : Int).toNat)).drop ((((gt (splitB (64 : UInt8) ((gt (splitB (35 : UInt8) s) 0).drop ((((Lib.itoa k) ++ ([32] : List UInt8)).length : Int).toNat))) 0).length : Int) + 1).toNat))]) agg71 rfl (fun _ _ hu => (hb83.kn hw' (by omega)).cell hu) rfl) <| Ak 1 rfl (kr hk109) (fun w' hw' => r_lda (l := [str (gt (splitB (64 : UInt8) ((gt (splitB (35 : UInt8) s) 0).drop ((((Lib.itoa k) ++ ([32] : List UInt8)).length : Int).toNat))) 0), str (((gt (splitB (35 : UInt8) s) 0).drop ((((Lib.itoa k) ++ ([32] : List UInt8)).length : Int).toNat)).drop ((((gt (splitB (64 : UInt8) ((gt (splitB (35 : UInt8) s) 0).drop ((((Lib.itoa k) ++ ([32] : List UInt8)).length : Int).toNat))) 0).length : Int) + 1).toNat))]) agg71 rfl (fun _ _ hu => (hb83.kn hw' (by omega)).cell hu) rfl) <| Ab 2 rfl (Qv ent43 (c_spec_l33Good w108 (⟨(gt (splitB (64 : UInt8) ((gt (splitB (35 : UInt8) s) 0).drop ((((Lib.itoa k) ++ ([32] : List UInt8)).length : Int).toNat))) 0), ((gt (splitB (35 : UInt8) s) 0).drop ((((Lib.itoa k) ++ ([32] : List UInt8)).length : Int).toNat)).drop ((((gt (splitB (64 : UInt8) ((gt (splitB (35 : UInt8) s) 0).drop ((((Lib.itoa k) ++ ([32] : List UInt8)).length : Int).toNat))) 0).length : Int) + 1).toNat)⟩ : LogRecord) (by first | omega | (dsimp only; simp only [List.length_drop]; omega) | (dsimp only; omega) | (simp only [List.length_cons, List.length_nil]; omega))) rfl fun w112 hk113 hz114 => ?_)
    have hS116 := ((Kp.refl w80 : Kp (fun b_ => b_ = g1) w80 w80).lo hk109).lo hk113
    refine Qn ⟨hS116, _, rfl, (Ak 3 rfl hS116 (fun w' hw' => r_mv (v := .bool _) rfl) <| AH.splitD (fun h117 => ?_) (fun h117 => ?_))⟩
    ·refine AH.take 4 rfl (by kernel_rfl) rfl hS116 (fun w' hw' => r_mv (v := .int .i64 _) rfl) <| AH.take 5 rfl (by kernel_rfl) rfl hS116 (fun w' hw' => r_lda (l := [str (gt (splitB (64 : UInt8) ((gt (splitB (35 : UInt8) s) 0).drop ((((Lib.itoa k) ++ ([32] : List UInt8)).length : Int).toNat))) 0), str (((gt (splitB (35 : UInt8) s) 0).drop ((((Lib.itoa k) ++ ([32] : List UInt8)).length : Int).toNat)).drop ((((gt (splitB (64 : UInt8) ((gt (splitB (35 : UInt8) s) 0).drop ((((Lib.itoa k) ++ ([32] : List UInt8)).length : Int).toNat))) 0).length : Int) + 1).toNat))]) agg71 rfl (fun _ _ hu => (hb83.kn hw' (by omega)).cell hu) rfl) <| AH.take 7 rfl (by kernel_rfl) rfl hS116 (fun w' hw' => r_mv (v := str _) rfl) <| AH.take 8 rfl (by kernel_rfl) rfl hS116 (fun w' hw' => r_cat rfl rfl (by first | omega | (simp only [List.length_append, List.length_cons, List.length_nil, List.length_take, List.length_drop]; omega) | (simp only [List.length_append, List.length_cons, List.length_nil, List.length_take, List.length_drop] at *; omega))) <| AH.br [6] (by kernel_rfl) rfl ⟨Br.mk' rfl rfl (SR.gcall rfl ent88 (c_spec_l33Line w112 k (⟨(gt (splitB (64 : UInt8) ((gt (splitB (35 : UInt8) s) 0).drop ((((Lib.itoa k) ++ ([32] : List UInt8)).length : Int).toNat))) 0), ((gt (splitB (35 : UInt8) s) 0).drop ((((Lib.itoa k) ++ ([32] : List UInt8)).length : Int).toNat)).drop ((((gt (splitB (64 : UInt8) ((gt (splitB (35 : UInt8) s) 0).drop ((((Lib.itoa k) ++ ([32] : List UInt8)).length : Int).toNat))) 0).length : Int) + 1).toNat)⟩ : LogRecord) (by omega) (by first | omega | (dsimp only; omega) | (dsimp only; simp only [List.length_drop]; omega))) rfl ?_), trivial⟩
     rintro e w118 ⟨rfl, hk119⟩
     refine ⟨_, rfl, ?_⟩
     have hz120 := hk119.size
     have hS122 := hS116.lo hk119
     have hq123 : (lineB k (⟨(gt (splitB (64 : UInt8) ((gt (splitB (35 : UInt8) s) 0).drop ((((Lib.itoa k) ++ ([32] : List UInt8)).length : Int).toNat))) 0), ((gt (splitB (35 : UInt8) s) 0).drop ((((Lib.itoa k) ++ ([32] : List UInt8)).length : Int).toNat)).drop ((((gt (splitB (64 : UInt8) ((gt (splitB (35 : UInt8) s) 0).drop ((((Lib.itoa k) ++ ([32] : List UInt8)).length : Int).toNat))) 0).length : Int) + 1).toNat)⟩ : LogRecord)).length ≤ (⟨(gt (splitB (64 : UInt8) ((gt (splitB (35 : UInt8) s) 0).drop ((((Lib.itoa k) ++ ([32] : List UInt8)).length : Int).toNat))) 0), ((gt (splitB (35 : UInt8) s) 0).drop ((((Lib.itoa k) ++ ([32] : List UInt8)).length : Int).toNat)).drop ((((gt (splitB (64 : UInt8) ((gt (splitB (35 : UInt8) s) 0).drop ((((Lib.itoa k) ++ ([32] : List UInt8)).length : Int).toNat))) 0).length : Int) + 1).toNat)⟩ : LogRecord).Command.length + (⟨(gt (splitB (64 : UInt8) ((gt (splitB (35 : UInt8) s) 0).drop ((((Lib.itoa k) ++ ([32] : List UInt8)).length : Int).toNat))) 0), ((gt (splitB (35 : UInt8) s) 0).drop ((((Lib.itoa k) ++ ([32] : List UInt8)).length : Int).toNat)).drop ((((gt (splitB (64 : UInt8) ((gt (splitB (35 : UInt8) s) 0).drop ((((Lib.itoa k) ++ ([32] : List UInt8)).length : Int).toNat))) 0).length : Int) + 1).toNat)⟩ : LogRecord).Reply.length + 46 := line_lenG (k := k) (e := (⟨(gt (splitB (64 : UInt8) ((gt (splitB (35 : UInt8) s) 0).drop ((((Lib.itoa k) ++ ([32] : List UInt8)).length : Int).toNat))) 0), ((gt (splitB (35 : UInt8) s) 0).drop ((((Lib.itoa k) ++ ([32] : List UInt8)).length : Int).toNat)).drop ((((gt (splitB (64 : UInt8) ((gt (splitB (35 : UInt8) s) 0).drop ((((Lib.itoa k) ++ ([32] : List UInt8)).length : Int).toNat))) 0).length : Int) + 1).toNat)⟩ : LogRecord)) (by omega)
     refine Qn ⟨hS122, _, rfl, (AH.take 9 rfl (by kernel_rfl) rfl hS122 (fun w' hw' => r_eqs (s := lineB k (⟨(gt (splitB (64 : UInt8) ((gt (splitB (35 : UInt8) s) 0).drop ((((Lib.itoa k) ++ ([32] : List UInt8)).length : Int).toNat))) 0), ((gt (splitB (35 : UInt8) s) 0).drop ((((Lib.itoa k) ++ ([32] : List UInt8)).length : Int).toNat)).drop ((((gt (splitB (64 : UInt8) ((gt (splitB (35 : UInt8) s) 0).drop ((((Lib.itoa k) ++ ([32] : List UInt8)).length : Int).toNat))) 0).length : Int) + 1).toNat)⟩ : LogRecord)) (r := s ++ ([10] : List UInt8)) rfl rfl) <| Ak 10 rfl hS122 (fun w' hw' => r_pick true rfl (v := .bool _) rfl) <| Ab 11 rfl (Qw (o := 0) (vs := [str (gt (splitB (64 : UInt8) ((gt (splitB (35 : UInt8) s) 0).drop ((((Lib.itoa k) ++ ([32] : List UInt8)).length : Int).toNat))) 0), str (((gt (splitB (35 : UInt8) s) 0).drop ((((Lib.itoa k) ++ ([32] : List UInt8)).length : Int).toNat)).drop ((((gt (splitB (64 : UInt8) ((gt (splitB (35 : UInt8) s) 0).drop ((((Lib.itoa k) ++ ([32] : List UInt8)).length : Int).toNat))) 0).length : Int) + 1).toNat))]) agg71.2 rfl rfl rfl rfl (((hm86.lo hk109).lo hk113).lo hk119) ler rfl ?_))⟩
     intro w124 hk125 hs126 hb127
     have hS130 := hS122.step hk125 (fun _ _ e => e)
     refine Qn ⟨hS130, _, rfl, (Ak 12 rfl hS130 (fun w' hw' => r_as (v := .bool _) rfl) <| AH.done (by kernel_rfl) (⟨⟨rfl, (eDD (jat h117)), trivial⟩, hS130, hb127⟩))⟩
    ·refine AH.s' 4 rfl (by kernel_rfl) rfl hS116 <| AH.s' 5 rfl (by kernel_rfl) rfl hS116 <| AH.s' 6 rfl (by kernel_rfl) rfl hS116 <| AH.s' 7 rfl (by kernel_rfl) rfl hS116 <| AH.s' 8 rfl (by kernel_rfl) rfl hS116 <| AH.s' 9 rfl (by kernel_rfl) rfl hS116 <| Ak 10 rfl hS116 (fun w' hw' => r_pick false rfl (v := .bool false) rfl) <| Ab 11 rfl (Qw (o := 0) (vs := [str (gt (splitB (64 : UInt8) ((gt (splitB (35 : UInt8) s) 0).drop ((((Lib.itoa k) ++ ([32] : List UInt8)).length : Int).toNat))) 0), str (((gt (splitB (35 : UInt8) s) 0).drop ((((Lib.itoa k) ++ ([32] : List UInt8)).length : Int).toNat)).drop ((((gt (splitB (64 : UInt8) ((gt (splitB (35 : UInt8) s) 0).drop ((((Lib.itoa k) ++ ([32] : List UInt8)).length : Int).toNat))) 0).length : Int) + 1).toNat))]) agg71.2 rfl rfl rfl rfl ((hm86.lo hk109).lo hk113) ler rfl ?_)
     intro w132 hk133 hs134 hb135
     have hS138 := hS116.step hk133 (fun _ _ e => e)
     refine Qn ⟨hS138, _, rfl, (Ak 12 rfl hS138 (fun w' hw' => r_as (v := .bool _) rfl) <| AH.done (by kernel_rfl) (⟨⟨rfl, (eDF (jaf h117).2), trivial⟩, hS138, hb135⟩))⟩
   rintro f139 w140 ⟨hat142, hR141, hm131⟩
   rw [← sets_of_at hat142]
   have hz143 := hR141.size
   refine W.ret (retCT rfl rfl agg71 hm131 rfl (v := .bool _) rfl ?_)
   refine ⟨eR (eT2 (eA (eC (eS ?_) (eC (eS ?_) rfl))) (eB ?_)), (((hB53.lo hk73).new hk81).new hR141 (by omega))⟩ <;> (unfold spec_l33Read; rw [if_neg h37, if_neg h63] <;> rfl)
end Go.Proofs.YtndcchndcghmoaaGreatDoor
namespace Go.Proofs.YtndcchndcghmoaaGreatDoor
open Go Go.RowKit Fw
section
variable {k : Int} {e : LogRecord} {s : List UInt8}
theorem enc_iff : (encN k e).2 = true ↔ (0 ≤ k ∧ k ≤ 59) ∧ RecOK e := by
  unfold encN; split
  · rename_i h; exact ⟨fun _ => h, fun _ => rfl⟩
  · rename_i h; exact ⟨fun q => absurd q (by simp), fun q => absurd q h⟩
theorem enc_val (h : (encN k e).2 = true) : (encN k e).1 = lineB k e := by unfold encN; rw [if_pos (enc_iff.1 h)]
theorem dec_yes (h : DecOK k s e) : impl_decode k s = (e, true) := by
  obtain ⟨h1, h2, h3⟩ := h
  obtain ⟨c1, c2, c3, c4⟩ := line_cut h1.1 h2 h3
  have he : encN k e = (lineB k e, true) := by unfold encN; rw [if_pos ⟨h1, h2⟩]
  have hm : (64 : UInt8) ∈ e.Command ++ [64] ++ e.Reply := by simp
  unfold impl_decode
  simp only [cut1, c1, c2, c3, c4]
  rw [show (⟨e.Command, e.Reply⟩ : LogRecord) = e from rfl, he, h3]
  simp
theorem dec_ok (h : (impl_decode k s).2 = true) : DecOK k s (impl_decode k s).1 := by
  unfold impl_decode at *
  split at h
  · rename_i h0
    rw [if_pos h0]
    have h1 := enc_iff.1 h0
    have h2 := of_decide_eq_true h
    exact ⟨h1.1, h1.2, by rw [← enc_val h0]; exact h2⟩
  · cases h
theorem read_yes (h : DecOK k s e) : spec_l33Read s k = (e, true) := by
  obtain ⟨h1, h2, h3⟩ := h
  obtain ⟨c1, c2, c3, c4⟩ := line_cut h1.1 h2 h3
  have e2 : bodyB k e = (Lib.itoa k ++ [32]) ++ (e.Command ++ [64] ++ e.Reply) := by unfold bodyB; simp
  have hl : (Lib.itoa k ++ ([32] : List UInt8)).length ≤ (bodyB k e).length := by rw [e2]; simp
  have ht : (bodyB k e).take (Lib.itoa k ++ ([32] : List UInt8)).length = Lib.itoa k ++ [32] := by rw [e2]; exact List.take_left
  have hd : (bodyB k e).drop (Lib.itoa k ++ ([32] : List UInt8)).length = e.Command ++ [64] ++ e.Reply := by rw [e2]; exact List.drop_left
  have hr : (e.Command ++ [64] ++ e.Reply).drop (e.Command.length + 1) = e.Reply := by simp
  unfold spec_l33Read
  simp only [Int.toNat_natCast, splitB_head, c1, ht, hd, c3]
  rw [if_neg (by intro q; rcases q with q | q; omega; exact q trivial), if_neg (by simp; omega)]
  simp only [hr, show ((e.Command.length : Int) + 1).toNat = e.Command.length + 1 by omega]
  simp [h2, h3]
theorem read_ok (h : (spec_l33Read s k).2 = true) (hk : 0 ≤ k ∧ k ≤ 59) : DecOK k s (spec_l33Read s k).1 := by
  unfold spec_l33Read at *
  split at h
  · cases h
  · rename_i n1
    rw [if_neg n1]
    split at h
    · cases h
    · rename_i n2
      rw [if_neg n2]
      simp only [decide_eq_true_eq] at h
      exact ⟨hk, h.1, h.2⟩
theorem read_iff (hk : 0 ≤ k ∧ k ≤ 59) : (spec_l33Read s k).2 = (impl_decode k s).2 := by
  rw [Bool.eq_iff_iff]
  exact ⟨fun h => by rw [dec_yes (read_ok h hk)], fun h => by rw [read_yes (dec_ok h)]⟩
theorem read_eq (hk : 0 ≤ k ∧ k ≤ 59) (h : (impl_decode k s).2 = true) : (spec_l33Read s k).1 = (impl_decode k s).1 := by
  have := dec_ok h
  rw [read_yes this]
end
end Go.Proofs.YtndcchndcghmoaaGreatDoor
namespace Go.Proofs.YtndcchndcghmoaaGreatDoor
open Go Go.RowKit Fw
section
variable {k : Nat} {s : List UInt8} {R : List LogRecord} {r m : Nat}
def Rec1 (k : Nat) (s : List UInt8) : Prop := (10 : UInt8) ∈ s ∧ (impl_decode (k : Int) (befB s 10)).2 = true
noncomputable instance : Decidable (Rec1 k s) := Classical.propDecidable _
noncomputable def rec1 (k : Nat) (s : List UInt8) : LogRecord := (impl_decode (k : Int) (befB s 10)).1
noncomputable def opF : Nat → Nat → List UInt8 → List LogRecord × Nat
  | 0, _, _ => ([], 0)
  | m + 1, k, s => if Rec1 k s then (rec1 k s :: (opF m (k + 1) (aftB s 10)).1, (befB s 10).length + 1 + (opF m (k + 1) (aftB s 10)).2) else ([], 0)
noncomputable def opN (s : List UInt8) : List LogRecord × Nat := opF 60 0 s
theorem rec1_line (hk : Rec1 k s) : DecOK (k : Int) (befB s 10) (rec1 k s) := dec_ok hk.2
theorem rec1_len (hk : Rec1 k s) : (befB s 10).length + 1 ≤ 406 := by
  obtain ⟨h1, h2, h3⟩ := rec1_line hk
  have := line_lenB (k := (k : Int)) (by omega) h2
  rw [h3] at this; simpa using this
theorem opF_len : ∀ (m k : Nat) (s : List UInt8), (opF m k s).1.length ≤ m ∧ (opF m k s).2 ≤ s.length ∧ (opF m k s).2 ≤ 406 * m
  | 0, _, _ => ⟨Nat.le_refl _, Nat.zero_le _, Nat.zero_le _⟩
  | m + 1, k, s => by
    unfold opF
    by_cases h : Rec1 k s
    · rw [if_pos h]
      obtain ⟨h1, h2, h3⟩ := opF_len m (k + 1) (aftB s 10)
      have hl := rec1_len h
      have hb := befB_lt h.1
      have ha : (aftB s 10).length = s.length - ((befB s 10).length + 1) := by unfold aftB; simp
      simp only [List.length_cons]
      omega
    · rw [if_neg h]; simp
theorem opN_len (s : List UInt8) : (opN s).1.length ≤ 60 ∧ (opN s).2 ≤ s.length ∧ (opN s).2 ≤ 24360 := opF_len 60 0 s
def OpTo (s : List UInt8) (R : List LogRecord) (r : Nat) : Prop := R.length ≤ 60 ∧ r ≤ s.length ∧ opN s = (R ++ (opF (60 - R.length) R.length (s.drop r)).1, r + (opF (60 - R.length) R.length (s.drop r)).2)
theorem OpTo.zero : OpTo s [] 0 := ⟨Nat.zero_le _, Nat.zero_le _, by simp [opN]⟩
theorem OpTo.rng (h : OpTo s R r) : R.length ≤ 60 ∧ r ≤ s.length := ⟨h.1, h.2.1⟩
theorem OpTo.next (h : OpTo s R r) (hl : R.length < 60) (hr : Rec1 R.length (s.drop r)) : OpTo s (R ++ [rec1 R.length (s.drop r)]) (r + (befB (s.drop r) 10).length + 1) := by
  obtain ⟨h1, h2, h3⟩ := h
  have hb := befB_lt hr.1
  rw [List.length_drop] at hb
  refine ⟨by simp; omega, by omega, ?_⟩
  rw [h3, show 60 - R.length = (59 - R.length) + 1 by omega]
  conv => lhs; unfold opF
  rw [if_pos hr]
  have e : aftB (s.drop r) 10 = s.drop (r + (befB (s.drop r) 10).length + 1) := by unfold aftB; rw [List.drop_drop]; congr 1
  rw [e]
  simp only [List.length_append, List.length_cons, List.length_nil, List.append_assoc, List.cons_append, List.nil_append, Nat.zero_add]
  rw [show 60 - (R.length + 1) = 59 - R.length by omega]
  congr 1; omega
theorem OpTo.stop (h : OpTo s R r) (hn : 60 ≤ R.length ∨ ¬ Rec1 R.length (s.drop r)) : opN s = (R, r) := by
  obtain ⟨h1, h2, h3⟩ := h
  rw [h3]
  rcases Nat.lt_or_ge R.length 60 with hl | hl
  · have hn : ¬ Rec1 R.length (s.drop r) := hn.resolve_left (by omega)
    rw [show 60 - R.length = (59 - R.length) + 1 by omega]
    unfold opF
    rw [if_neg hn]; simp
  · rw [show 60 - R.length = 0 by omega]; unfold opF; simp
theorem cut_ended (s : List UInt8) : (Lib.cut s ([10] : List UInt8)).2.2 = decide ((10 : UInt8) ∈ s) := by rw [cut1]
theorem cut_line (s : List UInt8) : (Lib.cut s ([10] : List UInt8)).1 = befB s 10 := by rw [cut1]
theorem rec_yesI (h : ¬ ((!(Lib.cut s ([10] : List UInt8)).2.2) = true ∨ (!(impl_decode (k : Int) (Lib.cut s ([10] : List UInt8)).1).2) = true)) : Rec1 k s := by
  rw [cut_ended, cut_line] at h
  simp only [not_or, Bool.not_eq_true', Bool.not_eq_false, decide_eq_true_eq] at h
  exact h
theorem rec_noI (h : (!(Lib.cut s ([10] : List UInt8)).2.2) = true ∨ (!(impl_decode (k : Int) (Lib.cut s ([10] : List UInt8)).1).2) = true) : ¬ Rec1 k s := fun hr => by
  rw [cut_ended, cut_line] at h
  simp only [Bool.not_eq_true', decide_eq_false_iff_not] at h
  rcases h with h | h
  · exact h hr.1
  · have := hr.2; rw [h] at this; cases this
theorem rec_none (h : ¬ (10 : UInt8) ∈ s) : ¬ Rec1 k s := fun hr => h hr.1
theorem recS_yes (hk : k < 60) (hm : m = (splitB 10 s).length) (h : ¬ ((m : Int) < 2 ∨ (!(spec_l33Read (gt (splitB 10 s) 0) (k : Int)).2) = true)) : Rec1 k s ∧ (spec_l33Read (gt (splitB 10 s) 0) (k : Int)).1 = rec1 k s := by
  subst hm
  rw [splitB_head] at *
  have e := read_iff (s := befB s 10) (k := (k : Int)) (by omega)
  have h2 := not_or.1 h
  have hy : (impl_decode (k : Int) (befB s 10)).2 = true := by rw [← e]; simpa using h2.2
  exact ⟨⟨(splitB_two 10 s).1 (by omega), hy⟩, read_eq (by omega) hy⟩
theorem recS_no (hk : k < 60) (hm : m = (splitB 10 s).length) (h : (m : Int) < 2 ∨ (!(spec_l33Read (gt (splitB 10 s) 0) (k : Int)).2) = true) : ¬ Rec1 k s := by
  subst hm
  rintro ⟨h1, h2⟩
  rcases h with h | h
  · have := (splitB_two 10 s).2 h1; omega
  · rw [splitB_head, read_iff (by omega), h2] at h; cases h
theorem stopS (h : ¬ ((r : Int) < (s.length : Int) ∧ (R.length : Int) < 60)) : 60 ≤ R.length ∨ ¬ Rec1 R.length (s.drop r) := by
  rcases Nat.lt_or_ge R.length 60 with h1 | h1
  · refine .inr (rec_none ?_)
    rw [List.drop_eq_nil_of_le (by omega)]; simp
  · exact .inl h1
def LogOK (l : Log) : Prop := (opN (l.Durable ++ l.Pending)).2 = l.Durable.length + l.Pending.length ∧ (opN l.Durable).2 = l.Durable.length ∧ l.Count = ((opN (l.Durable ++ l.Pending)).1.length : Int)
noncomputable instance (l : Log) : Decidable (LogOK l) := Classical.propDecidable _
theorem log_rng {l : Log} (h : LogOK l) : l.Durable.length + l.Pending.length ≤ 24360 ∧ 0 ≤ l.Count ∧ l.Count ≤ 60 := by
  have := opN_len (l.Durable ++ l.Pending)
  obtain ⟨h1, h2, h3⟩ := h
  omega
theorem log_iff (l : Log) : LogOK l ↔ (opN (l.Durable ++ l.Pending)).2 = l.Durable.length + l.Pending.length ∧ (opN l.Durable).2 = l.Durable.length ∧ l.Count = ((opN (l.Durable ++ l.Pending)).1.length : Int) := Iff.rfl
end
section
variable {l : Log} {e : LogRecord} {k : Int}
noncomputable def appN (l : Log) (e : LogRecord) : Log × Int :=
  if LogOK l ∧ RecOK e then (if l.Count = 60 then (l, 2) else (⟨l.Durable, l.Pending ++ lineB l.Count e, l.Count + 1⟩, 0)) else (l, 1)
theorem app_bad (h : ¬ LogOK l ∨ ¬ RecOK e) : appN l e = (l, 1) := if_neg (fun k => h.elim (fun h => h k.1) (fun h => h k.2))
theorem app_good (h : ¬ (¬ LogOK l ∨ ¬ RecOK e)) : LogOK l ∧ RecOK e := ⟨Classical.not_not.1 fun q => h (.inl q), Classical.not_not.1 fun q => h (.inr q)⟩
theorem app_full (h : ¬ (¬ LogOK l ∨ ¬ RecOK e)) (hc : l.Count = 60) : appN l e = (l, 2) := by unfold appN; rw [if_pos (app_good h), if_pos hc]
theorem app_yes (h : ¬ (¬ LogOK l ∨ ¬ RecOK e)) (hc : ¬ l.Count = 60) : appN l e = (⟨l.Durable, l.Pending ++ lineB l.Count e, l.Count + 1⟩, 0) := by unfold appN; rw [if_pos (app_good h), if_neg hc]
theorem enc_fullI (h : ¬ (¬ LogOK l ∨ ¬ RecOK e)) (hc : (!(encN l.Count e).2) = true) : l.Count = 60 := by
  have h1 := app_good h; have h2 := log_rng h1.1
  apply Classical.byContradiction; intro h3
  have : (encN l.Count e).2 = true := enc_iff.2 ⟨by omega, h1.2⟩
  rw [this] at hc; cases hc
theorem enc_yesI (hc : (!(encN l.Count e).2) = false) : ¬ l.Count = 60 ∧ (encN l.Count e).1 = lineB l.Count e := by
  have h1 : (encN l.Count e).2 = true := by simpa using hc
  have h2 := enc_iff.1 h1
  exact ⟨by omega, enc_val h1⟩
theorem app_fullI (h : ¬ (¬ LogOK l ∨ ¬ RecOK e)) (hc : (!(encN l.Count e).2) = true) : appN l e = (l, 2) := app_full h (enc_fullI h hc)
theorem app_yesI (h : ¬ (¬ LogOK l ∨ ¬ RecOK e)) (hc : (!(encN l.Count e).2) = false) : appN l e = (⟨l.Durable, l.Pending ++ (encN l.Count e).1, l.Count + 1⟩, 0) := by
  have h1 := enc_yesI hc
  rw [app_yes h h1.1, h1.2]
theorem appN_len (l : Log) (e : LogRecord) : (appN l e).1.Durable.length + (appN l e).1.Pending.length ≤ l.Durable.length + l.Pending.length + 406 := by
  unfold appN; split
  · rename_i h
    have h1 := log_rng h.1
    split
    · dsimp only; omega
    · have := line_lenB (k := l.Count) (by omega) h.2
      simp only [List.length_append]; omega
  · dsimp only; omega
def mkD (k : Int) : List UInt8 := if h : 0 < k then mkD (k / 10) ++ [bw (48 + k % 10)] else []
termination_by k.toNat
decreasing_by omega
def mkT (k : Int) : List UInt8 := if k ≤ 0 then [109, 48] else [109] ++ mkD k
theorem mkD_next (h : 0 < k) : mkD k = mkD (k / 10) ++ [bw (48 + k % 10)] := by rw [mkD, dif_pos h]
theorem mkD_end (h : ¬ 0 < k) : mkD k = [] := by rw [mkD, dif_neg h]
end
end Go.Proofs.YtndcchndcghmoaaGreatDoor
namespace Go.Proofs.YtndcchndcghmoaaGreatDoor
open Go Go.RowKit Fw
@[ext] structure Console where
  Library : Library
  Log : Log
  deriving DecidableEq, Inhabited
def ConOK (c : Console) : Prop := LibOK c.Library ∧ LogOK c.Log
noncomputable instance (c : Console) : Decidable (ConOK c) := Classical.propDecidable _
section
variable {c : Console} {k : Nat}
theorem lib_num {x : Library} (h : LibOK x) : (0 ≤ x.Bought ∧ x.Bought ≤ 9999) ∧ (0 ≤ x.Dropped ∧ x.Dropped ≤ 9999) ∧ (0 ≤ x.Mended ∧ x.Mended ≤ 9999) := ⟨h.2.2.1, h.2.2.2.1, h.2.2.2.2.1⟩
theorem con_rng (h : ConOK c) : c.Library.Maps.length ≤ 8 ∧ c.Library.Away.length ≤ 8 ∧ ((0 ≤ c.Library.Bought ∧ c.Library.Bought ≤ 9999) ∧ (0 ≤ c.Library.Dropped ∧ c.Library.Dropped ≤ 9999) ∧ (0 ≤ c.Library.Mended ∧ c.Library.Mended ≤ 9999)) ∧ 0 ≤ c.Log.Count ∧ c.Log.Count ≤ 60 :=
  ⟨h.1.1.2, h.1.2.1.2, lib_num h.1, (log_rng h.2).2⟩
end
end Go.Proofs.YtndcchndcghmoaaGreatDoor
namespace Go.Proofs.YtndcchndcghmoaaGreatDoor
open Go Go.RowKit Fw
theorem Fw.r_nilc {P : Program} {n : Nat} {f : Env} {w : World} {d : Option Tmp} {t : TypeId} {p : String} {af : Array Edge} {g : Option (Nat × Bool)} {x : Operand} {a : Addr} (hx : ev n f x = .pointer (some a)) : Run P ⟨d, .nilCheck x, t, p, af, g⟩ n f w (.pointer (some a)) := by
  simp [Run, execOp, hx]
section
variable {α β : Type} [Inhabited α] {p q : α → Bool} {L : List α} {k : Nat} {c : α → β → Int} {t : β}
theorem tw_len : ∀ {L : List α} {k : Nat}, (∀ j, j < k → p (gt L j) = true) → k ≤ L.length → (k = L.length ∨ p (gt L k) = false) → (L.takeWhile p).length = k
  | [], k, _, hk, _ => by simp at hk; simp [hk]
  | x :: r, 0, _, _, h => by
    rcases h with h | h
    · simp at h
    · have : p x = false := by simpa [gt] using h
      simp [List.takeWhile, this]
  | x :: r, k + 1, h, hk, hx => by
    have h0 : p x = true := by simpa [gt] using h 0 (by omega)
    have e : ∀ j, gt (x :: r) (j + 1) = gt r j := fun j => by simp [gt]
    have := tw_len (L := r) (k := k) (fun j hj => by have := h (j + 1) (by omega); rwa [e] at this) (by simpa using hk) (by
      rcases hx with hx | hx
      · exact .inl (by simpa using hx)
      · exact .inr (by rwa [e] at hx))
    simp [List.takeWhile, h0, this]
omit [Inhabited α] in
theorem tw_le (p : α → Bool) (L : List α) : (L.takeWhile p).length ≤ L.length := (List.takeWhile_sublist p).length_le
theorem bs_spec (hq : ∀ x, q x = true ↔ c x t = 0) (hs : ∀ i j, i < j → j < L.length → c (gt L j) t ≤ 0 → c (gt L i) t < 0) :
    bsP c t L = (L.takeWhile (fun x => decide (c x t < 0))).length ∧ (bsF c t L ↔ 0 ≤ idxF q L) ∧ (bsF c t L → (bsP c t L : Int) = idxF q L) := by
  have hp := bsr_spec (p := fun x => decide (c x t < 0)) (L := L) (fun a b hab hb hpb => by
    simp only [decide_eq_true_eq] at hpb ⊢
    rcases Nat.lt_or_ge a b with h1 | h1
    · exact hs a b h1 hb (by omega)
    · obtain rfl : a = b := by omega
      exact hpb) L.length 0 L.length (by omega) (by omega) (by omega) (fun a ha => absurd ha (by omega)) (fun a h1 h2 => absurd h2 (by omega))
  have hle := bsP_le (c := c) (t := t) (L := L)
  have h3 : bsF c t L → (bsP c t L : Int) = idxF q L := by
    rintro ⟨h1, h2⟩
    have hlt : bsP c t L < L.length := by omega
    refine idx_at (k := bsP c t L) (fun j x hj hx => ?_) (gt_get hlt) ((hq _).2 h2)
    have := hp.2.1 j hj
    simp only [decide_eq_true_eq, gt_eq hx] at this
    cases hqx : q x
    · rfl
    · have := (hq x).1 hqx; omega
  refine ⟨(tw_len hp.2.1 hle ?_).symm, ⟨fun h => by have := h3 h; omega, fun h => ?_⟩, h3⟩
  · rcases Nat.lt_or_ge (bsP c t L) L.length with h | h
    · exact .inr (hp.2.2 _ (Nat.le_refl _) h)
    · exact .inl (by omega)
  · obtain ⟨x, hx, hqx, _⟩ := idx_spec (p := q) (L := L) rfl h
    generalize (idxF q L).toNat = i at *
    have hil := (List.getElem?_eq_some_iff.1 hx).1
    have hg := gt_eq hx
    have h0 := (hq x).1 hqx
    have hge : bsP c t L ≤ i := by
      rcases Nat.lt_or_ge i (bsP c t L) with h1 | h1
      · have := hp.2.1 i h1
        simp only [decide_eq_true_eq, hg] at this; omega
      · exact h1
    have hlt : bsP c t L < L.length := by omega
    have h2 := hp.2.2 (bsP c t L) (Nat.le_refl _) hlt
    simp only [decide_eq_false_iff_not] at h2
    rcases Nat.lt_or_ge (bsP c t L) i with h1 | h1
    · exact absurd (hs _ _ h1 hil (by rw [hg]; omega)) h2
    · have e : bsP c t L = i := by omega
      exact ⟨by omega, by rw [e, hg]; exact h0⟩
end
theorem cmpI_le {a b : Int} : cmpI a b ≤ 0 ↔ a ≤ b := by unfold cmpI; split <;> (try split) <;> omega
theorem cmpA_le {p q : Away} : cmpA p q ≤ 0 ↔ lexlt p q ∨ p = q := by
  rw [← cmpA_lt, ← cmpA_eq]; omega
theorem lex_trans {p q r : Away} (h1 : lexlt p q) (h2 : lexlt q r) : lexlt p r := by unfold lexlt at *; omega
instance (p q : Away) : Decidable (lexlt p q) := by unfold lexlt; infer_instance
def bdM (id : Int) (L : List LMap) : Nat := (L.takeWhile (fun m => decide (cmpM m id < 0))).length
def bdA (t : Away) (L : List Away) : Nat := (L.takeWhile (fun a => decide (cmpA a t < 0))).length
def isA (id r : Int) (a : Away) : Bool := decide (a.Map = id ∧ a.Reader = r)
def insAt {α : Type} (L : List α) (k : Nat) (x : α) : List α := L.take k ++ [x] ++ L.drop k
def delAt {α : Type} (L : List α) (k : Nat) : List α := L.take k ++ L.drop (k + 1)
theorem ins_len1 {α : Type} (L : List α) (y : α) (i : Nat) : (L.take i ++ [y] ++ L.drop i).length = L.length + 1 := by simp; omega
theorem del_lenT {α : Type} (L : List α) {i j : Nat} (h : i ≤ j) : (L.take i ++ L.drop j).length ≤ L.length := by simp; omega
def AwS (A : List Away) : Prop := ∀ i j, i < j → j < A.length → lexlt (gt A i) (gt A j)
section
variable {L M : List LMap} {A : List Away} {k : Nat} {x : Library} {id r : Int}
theorem bdM_le (id : Int) (L : List LMap) : bdM id L ≤ L.length := tw_le _ _
theorem bdA_le (t : Away) (A : List Away) : bdA t A ≤ A.length := tw_le _ _
theorem isA_iff (a : Away) : isA id r a = true ↔ cmpA a ⟨id, r⟩ = 0 := by
  unfold isA; rw [decide_eq_true_eq, cmpA_eq, Away.ext_iff]
theorem hasId_iff (m : LMap) : hasId id m = true ↔ cmpM m id = 0 := by unfold hasId cmpM; rw [decide_eq_true_eq, cmpI_eq]
theorem bsM (h : MapsOK L) (id : Int) : bsP cmpM id L = bdM id L ∧ (bsF cmpM id L ↔ 0 ≤ idxF (hasId id) L) ∧ (bsF cmpM id L → (bsP cmpM id L : Int) = idxF (hasId id) L) :=
  bs_spec hasId_iff fun i j hij hj h1 => by
    have := maps_lt h hij hj
    simp only [cmpM, cmpI_le, cmpI_lt] at *; omega
theorem aw_at (h : AwayOK M A) (hk : k < A.length) (h0 : 0 < k) : lexlt (gt A (k - 1)) (gt A k) := by
  have := Classical.not_not.1 (h k hk)
  exact this.2.2 (by omega)
theorem aw_s (h : AwayOK M A) : AwS A := by
  intro i j hij hj
  induction j with
  | zero => omega
  | succ j ih =>
    have h1 := aw_at h hj (by omega)
    simp only [Nat.add_sub_cancel] at h1
    rcases Nat.lt_or_ge i j with h2 | h2
    · exact lex_trans (ih h2 (by omega)) h1
    · obtain rfl : i = j := by omega
      exact h1
theorem bsA (h : AwS A) (id r : Int) : bsP cmpA ⟨id, r⟩ A = bdA ⟨id, r⟩ A ∧ (bsF cmpA ⟨id, r⟩ A ↔ 0 ≤ idxF (isA id r) A) ∧ (bsF cmpA ⟨id, r⟩ A → (bsP cmpA ⟨id, r⟩ A : Int) = idxF (isA id r) A) :=
  bs_spec isA_iff fun i j hij hj h1 => by
    have h2 := h i j hij hj
    rw [cmpA_le] at h1; rw [cmpA_lt]
    rcases h1 with h1 | h1
    · exact lex_trans h2 h1
    · rwa [h1] at h2
theorem del_gt {α : Type} [Inhabited α] {A : List α} {k i : Nat} (hk : k < A.length) : gt (delAt A k) i = gt A (if i < k then i else i + 1) := by
  have e : (delAt A k)[i]? = A[if i < k then i else i + 1]? := by
    have hm : (A.take k).length = k := by simp; omega
    unfold delAt
    rcases Nat.lt_or_ge i k with h | h
    · rw [List.getElem?_append_left (by omega), if_pos h, List.getElem?_take_of_lt h]
    · rw [List.getElem?_append_right (by omega), if_neg (by omega), List.getElem?_drop, hm]; congr 1; omega
  simp only [gt, List.getD_eq_getElem?_getD, e]
theorem del_len {α : Type} {A : List α} {k : Nat} (hk : k < A.length) : (delAt A k).length = A.length - 1 := by unfold delAt; simp; omega
theorem ins_len {α : Type} {A : List α} {k : Nat} {y : α} (hk : k ≤ A.length) : (insAt A k y).length = A.length + 1 := by unfold insAt; simp; omega
theorem del_s (h : AwS A) (hk : k < A.length) : AwS (delAt A k) := by
  intro i j hij hj
  rw [del_len hk] at hj
  rw [del_gt hk, del_gt hk]
  refine h _ _ ?_ ?_
  · split <;> split <;> omega
  · split <;> omega
theorem del_has {q : Away → Bool} (hk : k < A.length) (hq : q (gt A k) = false) : 0 ≤ idxF q (delAt A k) ↔ 0 ≤ idxF q A := by
  have e : A = A.take k ++ gt A k :: A.drop (k + 1) := by
    have h1 := List.take_append_drop k A
    rw [List.drop_eq_getElem_cons hk] at h1
    have h2 : gt A k = A[k] := gt_eq (List.getElem?_eq_getElem hk)
    rw [h2]; exact h1.symm
  rw [any_idx, any_idx]
  conv => rhs; rw [e]
  unfold delAt; simp [hq]
theorem loopM_next (h : ∀ j, j < k → cmpM (gt L j) id < 0) (h1 : (gt L k).Id < id) : ∀ j, j < k + 1 → cmpM (gt L j) id < 0 := fun j hj => by
  rcases Nat.lt_or_ge j k with h2 | h2
  · exact h j h2
  · obtain rfl : j = k := by omega
    exact cmpI_lt.2 h1
theorem loopM_end (h : ∀ j, j < k → cmpM (gt L j) id < 0) (hk : k ≤ L.length) (hn : k = L.length ∨ ¬ (gt L k).Id < id) : k = bdM id L :=
  (tw_len (p := fun m => decide (cmpM m id < 0)) (fun j hj => decide_eq_true (h j hj)) hk (hn.imp (fun h => h) fun h' => decide_eq_false (fun q => h' (cmpI_lt.1 (show cmpI (gt L k).Id id < 0 from q))))).symm
theorem loopA_next {t : Away} (h : ∀ j, j < k → cmpA (gt A j) t < 0) (h1 : lexlt (gt A k) t) : ∀ j, j < k + 1 → cmpA (gt A j) t < 0 := fun j hj => by
  rcases Nat.lt_or_ge j k with h2 | h2
  · exact h j h2
  · obtain rfl : j = k := by omega
    exact cmpA_lt.2 h1
theorem loopA_end {t : Away} (h : ∀ j, j < k → cmpA (gt A j) t < 0) (hk : k ≤ A.length) (hn : k = A.length ∨ ¬ lexlt (gt A k) t) : k = bdA t A :=
  (tw_len (p := fun a => decide (cmpA a t < 0)) (fun j hj => decide_eq_true (h j hj)) hk (hn.imp (fun h => h) fun h' => decide_eq_false (fun q => h' (cmpA_lt.1 q)))).symm
end
theorem lib_rng {x : Library} (h : LibOK x) : x.Maps.length ≤ 8 ∧ x.Away.length ≤ 8 ∧ (0 ≤ x.Bought ∧ x.Bought ≤ 9999) ∧ (0 ≤ x.Dropped ∧ x.Dropped ≤ 9999) ∧ (0 ≤ x.Mended ∧ x.Mended ≤ 9999) :=
  ⟨h.1.2, h.2.1.2, h.2.2.1, h.2.2.2.1, h.2.2.2.2.1⟩
def goneN (x : Library) (id r : Int) : Library := { x with Away := insAt x.Away (bdA ⟨id, r⟩ x.Away) ⟨id, r⟩ }
def backN (x : Library) (a : Int) : Library := { x with Away := delAt x.Away a.toNat }
def moreM (m : LMap) (n : Int) : LMap := ⟨m.Id, m.Copies + n, m.Torn⟩
def boughtN (x : Library) (id n : Int) : Library :=
  if 0 ≤ idxF (hasId id) x.Maps then { x with Maps := x.Maps.set (idxF (hasId id) x.Maps).toNat (moreM (gt x.Maps (idxF (hasId id) x.Maps).toNat) n), Bought := x.Bought + n }
  else { x with Maps := insAt x.Maps (bdM id x.Maps) ⟨id, n, 0⟩, Bought := x.Bought + n }
end Go.Proofs.YtndcchndcghmoaaGreatDoor
namespace Go.Proofs.YtndcchndcghmoaaGreatDoor.Fw
open Go Go.RowKit
section
variable {α : Type} {enc : α → List Value} {sz : Nat}
theorem flat_take (he : ∀ x, (enc x).length = sz) (L : List α) (k : Nat) (hk : k ≤ L.length) : (L.flatMap enc).take (k * sz) = (L.take k).flatMap enc := by
  have h2 : L.flatMap enc = (L.take k).flatMap enc ++ (L.drop k).flatMap enc := by rw [← List.flatMap_append, List.take_append_drop]
  rw [h2, List.take_left' (by rw [flat_len he, List.length_take, Nat.min_eq_left hk])]
theorem flat_drop (he : ∀ x, (enc x).length = sz) (L : List α) (k : Nat) (hk : k ≤ L.length) : (L.flatMap enc).drop (k * sz) = (L.drop k).flatMap enc := by
  have h2 : L.flatMap enc = (L.take k).flatMap enc ++ (L.drop k).flatMap enc := by rw [← List.flatMap_append, List.take_append_drop]
  rw [h2, List.drop_left' (by rw [flat_len he, List.length_take, Nat.min_eq_left hk])]
theorem spl_flat (he : ∀ x, (enc x).length = sz) {cs : List Value} {L X : List α} {m l q : Nat} (hl : m = L.length) (hx : q = X.length) (hlm : l + q ≤ m) (ht : cs.take (m * sz) = L.flatMap enc) :
    (spl cs (l * sz) (X.flatMap enc)).take (m * sz) = (L.take l ++ X ++ L.drop (l + q)).flatMap enc := by
  have hcl : m * sz ≤ cs.length := by
    have h1 := congrArg List.length ht
    rw [List.length_take, flat_len he, ← hl] at h1; omega
  have e1 : l * sz + q * sz ≤ m * sz := by rw [← Nat.add_mul]; exact Nat.mul_le_mul_right _ hlm
  have hxl : (X.flatMap enc).length = q * sz := by rw [flat_len he, ← hx]
  unfold spl
  rw [hxl]
  have h1 : cs.take (l * sz) = (L.take l).flatMap enc := by
    rw [← flat_take he L l (by omega), ← ht, List.take_take, Nat.min_eq_left (by omega)]
  have h2 : (cs.drop (l * sz + q * sz)).take (m * sz - (l * sz + q * sz)) = (L.drop (l + q)).flatMap enc := by
    rw [← flat_drop he L (l + q) (by omega), ← ht, Nat.add_mul, List.drop_take]
  have hl1 : (cs.take (l * sz)).length = l * sz := by rw [List.length_take]; omega
  rw [List.take_append, List.take_of_length_le (by rw [List.length_append, hl1, hxl]; omega), List.length_append, hl1, hxl, h2, h1, List.flatMap_append, List.flatMap_append]
theorem ins_flat (he : ∀ x, (enc x).length = sz) {cs : List Value} {L V : List α} {n k i : Nat} (hl : n = L.length) (hv : k = V.length) (hi : i ≤ n) (hc : (n + k) * sz ≤ cs.length) (ht : cs.take (n * sz) = L.flatMap enc) :
    (spl (spl cs ((i + k) * sz) ((L.drop i).flatMap enc)) (i * sz) (V.flatMap enc)).take ((n + k) * sz) = (L.take i ++ V ++ L.drop i).flatMap enc := by
  have e1 : (i + k) * sz = i * sz + k * sz := Nat.add_mul ..
  have e2 : (n + k) * sz = n * sz + k * sz := Nat.add_mul ..
  have e3 : i * sz ≤ n * sz := Nat.mul_le_mul_right _ hi
  have e4 : (n - i) * sz = n * sz - i * sz := Nat.sub_mul ..
  have hvl : (V.flatMap enc).length = k * sz := by rw [flat_len he, ← hv]
  have hDl : ((L.drop i).flatMap enc).length = n * sz - i * sz := by rw [flat_len he, List.length_drop, ← hl, e4]
  have hA : cs.take (i * sz) = (L.take i).flatMap enc := by
    rw [← flat_take he L i (by omega), ← ht, List.take_take, Nat.min_eq_left e3]
  have h1 : (spl cs ((i + k) * sz) ((L.drop i).flatMap enc)).take (i * sz) = (L.take i).flatMap enc := by
    unfold spl
    rw [List.append_assoc, List.take_append_of_le_length (by rw [List.length_take]; omega), List.take_take, Nat.min_eq_left (by omega), hA]
  have h2 : (spl cs ((i + k) * sz) ((L.drop i).flatMap enc)).drop (i * sz + k * sz) = (L.drop i).flatMap enc ++ cs.drop ((i + k) * sz + (n * sz - i * sz)) := by
    unfold spl
    rw [List.append_assoc, List.drop_append, List.drop_of_length_le (by rw [List.length_take]; omega), List.nil_append, List.length_take, hDl]
    rw [show i * sz + k * sz - min ((i + k) * sz) cs.length = 0 by omega, List.drop_zero]
  show ((spl cs ((i + k) * sz) ((L.drop i).flatMap enc)).take (i * sz) ++ V.flatMap enc ++ (spl cs ((i + k) * sz) ((L.drop i).flatMap enc)).drop (i * sz + (V.flatMap enc).length)).take ((n + k) * sz) = _
  rw [hvl, h1, h2, List.flatMap_append, List.flatMap_append, ← List.append_assoc]
  have hAl : ((L.take i).flatMap enc).length = i * sz := by rw [flat_len he, List.length_take, Nat.min_eq_left (by omega)]
  rw [List.take_append_of_le_length (by simp only [List.length_append, hAl, hvl, hDl]; omega), List.take_of_length_le (by simp only [List.length_append, hAl, hvl, hDl]; omega)]
end
section
variable {α : Type} {w : World} {B sz m c : Nat} {enc : α → List Value} {A : Option Addr} {L : List α}
theorem SlR.flat (h : SlR w B enc sz A m c L) : ∀ (j : Nat) (u : Value), (L.flatMap enc)[j]? = Option.some u → w.cell? ((adr A).add j) = Option.some u := by
  intro j u hu
  have hj : j < m * sz := by rw [h.len, ← flat_len h.esz]; exact (List.getElem?_eq_some_iff.1 hu).1
  have hpos : 0 < sz := Nat.pos_of_ne_zero fun h0 => by subst h0; simp at hj
  have hq : j / sz < L.length := by rw [← h.len]; exact (Nat.div_lt_iff_lt_mul hpos).2 hj
  have hje : j / sz * sz + j % sz = j := by rw [Nat.mul_comm]; exact Nat.div_add_mod j sz
  have hr : j % sz < (enc L[j / sz]).length := by rw [h.esz]; exact Nat.mod_lt _ hpos
  have h6 := flat_get h.esz L (j / sz) (j % sz) _ _ (List.getElem?_eq_getElem hq) (List.getElem?_eq_getElem hr)
  rw [hje, hu] at h6
  have := h.at_ (j / sz) _ (List.getElem?_eq_getElem hq) (j % sz) _ (List.getElem?_eq_getElem hr)
  rw [hje] at this
  rw [h6]; exact this
end
section
variable {α : Type} {P : Program} {ops : Array Oper} {N R : Act → World → Prop} {X : Nat → Act → World → Prop} {n : Nat} {rest : List Oper} {f : Env} {w : World} {v : Value} {t e ty : TypeId} {p : String} {af : Array Edge} {x y : Operand} {enc : α → List Value} {sz by_ base g c : Nat} {z : Value} {cs : List Value} {A : Option Addr} {L : List α}
theorem SR.copyO {d l dl dc k c2 m q B : Nat} {A2 : Option Addr} {L2 : List α} {t2 : TypeId} (ht : TEl P t e z sz by_) (hx : ev n f x = .slice (cutA A c l sz) dl dc) (hy : ev n f y = .slice A2 k c2) (hO : SlO w base enc sz e A m c L) (hR : SlR w B enc sz A2 k c2 L2)
    (hq : Nat.min k dl = q) (hlm : l + q ≤ m) (h1 : ∀ x, (enc x).all (·.oneCell') = true)
    (h : ∀ w', Kp (fun b => A = some ⟨b, 0, none⟩) w w' → SlO w' base enc sz e A m c (L.take l ++ L2.take q ++ L.drop (l + q)) → SR P ops N R X n rest (set f d (.int .i64 q)) w') :
    SR P ops N R X n (⟨some d, .call ⟨.builtin .copy, #[x, y], #[t, t2]⟩, ty, p, af, none⟩ :: rest) f w := by
  have hqk : q ≤ k := by rw [← hq]; exact Nat.min_le_left ..
  cases hA : A with
  | none =>
    have hm0 : m = 0 := by
      rcases Nat.eq_zero_or_pos m with h0 | h0
      · exact h0
      · have := hO.rd.some h0; rw [hA] at this; cases this
    obtain rfl : q = 0 := by omega
    obtain rfl : l = 0 := by omega
    subst hA
    have hc : cutA (none : Option Addr) c 0 sz = none := by unfold cutA; split <;> rfl
    rw [hc] at hx
    have hL : L.take 0 ++ L2.take 0 ++ L.drop (0 + 0) = L := by simp
    obtain ⟨i, hi, hz, hsz, hby⟩ := ht.parts
    refine SR.run (v := .int .i64 (0 : Nat)) (w' := w) ?_ rfl rfl (h w (Kp.refl _) (by rw [hL]; exact hO))
    cases A2 <;> simp [execOp, resolve, invoke, builtin, hx, hy, Builtin.copy_, run_underlying ht.1, Builtin.lenOf, hq, sizeOf, typeInfo, hi, Builtin.firstCells, loadCells, loadCellsFrom, goInt]
  | some a =>
    obtain ⟨g, cs, hg, hRw, htk, hmc⟩ := hO.raw (by rw [hA]; rfl)
    rw [hg] at hx
    have hL2l : (L2.take q).length = q := by rw [List.length_take, ← hR.len]; omega
    refine SR.copyR ht hx hy hRw hq (by omega) (vs := (L2.take q).flatMap enc) (by rw [flat_len hR.esz, hL2l]) (fun h0 j u hu => ?_) (fun h0 => hR.some (by omega)) (fun u hu => ?_) fun w' hk hR' => h w' (hk.sub fun b hb => by rw [hg, hb]) ?_
    · refine hR.flat j u ?_
      rw [← flat_take hR.esz L2 q (by rw [← hR.len]; omega), List.getElem?_take] at hu
      split at hu
      · exact hu
      · cases hu
    · obtain ⟨q', _, hu⟩ := List.mem_flatMap.1 hu
      exact List.all_eq_true.1 (h1 q') u hu
    · rw [hg]
      have hlen := hO.len
      exact hR'.own hmc (by rw [List.length_append, List.length_append, List.length_take, hL2l, List.length_drop]; omega) hO.esz (spl_flat hO.esz hO.len hL2l.symm hlm htk)
theorem r_cap {d : Option Tmp} {gg : Option (Nat × Bool)} {m : Nat} (ht : P.underlying t = some (.slice e)) (hx : ev n f x = .slice A m c) : Run P ⟨d, .call ⟨.builtin .cap, #[x], #[t]⟩, ty, p, af, gg⟩ n f w (.int .i64 c) := by
  simp [Run, execOp, resolve, invoke, builtin, Builtin.cap_, hx, run_underlying ht, goInt]
theorem zero_flat {zx : α} (hzx : z.cells = (enc zx).toArray) (he : ∀ x, (enc x).length = sz) (hpos : 0 < sz) (k : Nat) : (Builtin.zeroCells z.cells k).toList = (List.replicate k zx).flatMap enc := by
  have := flat_rep z zx hzx he hpos k
  have hs : z.cells.size = sz := by rw [hzx]; simpa using he zx
  rw [← this]
  unfold Builtin.zeroCells madeCells
  rw [hs]
theorem SR.appZ {d m k : Nat} {zx : α} {tn : TypeId} {kn : IntKind} (ht : TEl P t e z sz by_) (htn : P.underlying tn = some (.int kn)) (hzx : z.cells = (enc zx).toArray) (hx : ev n f x = .slice A m c) (hy : ev n f y = .int .i64 k) (hO : SlO w base enc sz e A m c L)
    (hk : 0 < k) (hg : c < m + k) (hb : (m + k) * by_ ≤ 140737488355328) (h63 : m + k ≤ 9223372036854775807)
    (h : ∀ g c' w', g = w.heap.size → Lo w w' → SlO w' w.heap.size enc sz e (some ⟨g, 0, none⟩) (m + k) c' (L ++ List.replicate k zx) → SR P ops N R X n rest (set f d (.slice (some ⟨g, 0, none⟩) (m + k) c')) w') :
    SR P ops N R X n (⟨some d, .call ⟨.builtin .append, #[x, y], #[t, tn]⟩, ty, p, af, none⟩ :: rest) f w := by
  obtain ⟨i, hi, hz, hsz, hby⟩ := ht.parts
  have hpos := ht.2.2.2
  have hcap := hO.rd.cap
  have hfl : (L.flatMap enc).length = m * sz := by rw [flat_len hO.esz, ← hO.len]
  have hold : (Builtin.firstCells i.size m (.slice A m c)).run P w.drew = .ok (L.flatMap enc).toArray w.drew := by
    cases A with
    | none =>
      have hm0 : m = 0 := by
        rcases Nat.eq_zero_or_pos m with h0 | h0
        · exact h0
        · have := hO.rd.some h0; cases this
      have hL : L = [] := List.eq_nil_of_length_eq_zero (by rw [← hO.len, hm0])
      subst hL
      simp [Builtin.firstCells]
    | some a =>
      have := run_loadCells_list (P := P) w.drew a (L.flatMap enc) (fun j u hu => hO.rd.flat j u hu)
      rw [hfl] at this
      simp [Builtin.firstCells, hsz, this]
  have hrun := Go.Lib.run_append_grow_zeros (P := P) w t tn ty e i z .i64 kn ht.1 htn hi hz A m c (L.flatMap enc) hold k hk (by omega) hg (by omega)
    (by rw [hby]; have : k * by_ ≤ (m + k) * by_ := Nat.mul_le_mul_right _ (by omega); omega) (growslice_fits hg (by rw [hby]; exact hb))
  have hge := grownCap_ge w (m + k) c e
  have hmx := grownCap_le_maxLen w (m + k) c e (by unfold maxLen; omega)
  refine SR.run (v := .slice (some ⟨w.heap.size, 0, none⟩) (m + k) (grownCap w (m + k) c e)) (w' := w.drew.alloc (.cells ((L.flatMap enc).toArray ++ Builtin.zeroCells z.cells k ++ Builtin.zeroCells z.cells (grownCap w (m + k) c e - (m + k))) e)) ?_ rfl rfl (h _ _ _ rfl ((Lo.drew w).trans (Lo.alloc _ _)) ?_)
  · simp [execOp, resolve, invoke, builtin, hx, hy, hrun]
  · refine Rw.own (cs := L.flatMap enc ++ (Builtin.zeroCells z.cells k).toList ++ (Builtin.zeroCells z.cells (grownCap w (m + k) c e - (m + k))).toList) ⟨?_, ?_, Nat.le_refl _, hmx, ?_⟩ hge (by rw [List.length_append, List.length_replicate, ← hO.len]) hO.esz ?_
    · have := heap_alloc_new w.drew (.cells ((L.flatMap enc).toArray ++ Builtin.zeroCells z.cells k ++ Builtin.zeroCells z.cells (grownCap w (m + k) c e - (m + k))) e)
      refine this.trans (congrArg (fun q => some (Obj.cells q e (0, 0))) ?_)
      apply Array.ext'
      simp
    · rw [List.length_append, List.length_append, hfl, zero_flat hzx hO.esz hpos, zero_flat hzx hO.esz hpos, flat_len hO.esz, flat_len hO.esz, List.length_replicate, List.length_replicate, ← Nat.add_mul, ← Nat.add_mul]
      congr 1; omega
    · simp
    · rw [zero_flat hzx hO.esz hpos, ← List.flatMap_append]
      exact List.take_left' (by rw [flat_len hO.esz, List.length_append, List.length_replicate, ← hO.len])
theorem ins_grow {α : Type} {L V : List α} {nL nV i : Nat} {z : α} {k : Nat} (hl : nL = L.length) (hv : nV = V.length) (hi : i ≤ nL) (hk : k = nL + nV - i) :
    ((L.take i ++ List.replicate k z).take i ++ V.take nV ++ (L.take i ++ List.replicate k z).drop (i + nV)).take (i + nV) ++ (L.drop i).take (nL - i) ++ ((L.take i ++ List.replicate k z).take i ++ V.take nV ++ (L.take i ++ List.replicate k z).drop (i + nV)).drop (i + nV + (nL - i)) = L.take i ++ V ++ L.drop i := by
  have h1 : (L.take i).length = i := by rw [List.length_take]; omega
  have h2 : (L.take i ++ List.replicate k z).take i = L.take i := List.take_left' h1
  have h3 : V.take nV = V := List.take_of_length_le (by omega)
  have h4 : (L.drop i).take (nL - i) = L.drop i := List.take_of_length_le (by rw [List.length_drop]; omega)
  have h6 : (L.take i ++ V ++ (L.take i ++ List.replicate k z).drop (i + nV)).drop (i + nV + (nL - i)) = [] :=
    List.drop_of_length_le (by simp only [List.length_append, List.length_drop, List.length_replicate, List.length_take]; omega)
  rw [h2, h3, h4, h6, List.append_nil, List.take_left' (by rw [List.length_append, h1, hv])]
theorem ins_end {α : Type} {L V : List α} {n i : Nat} (hl : n = L.length) (h : n ≤ i) : L ++ V = L.take (i : Int).toNat ++ V ++ L.drop (i : Int).toNat := by
  rw [Int.toNat_natCast, List.take_of_length_le (by omega), List.drop_of_length_le (by omega), List.append_nil]
def Ovl (P : Program) (k : FuncId) (tS tR : TypeId) : Prop := ∀ args w, (callFunc k args).run P w = ((Extern.SlicesOverlaps.overlaps #[tS, tS] #[tR] args).run P w).andThen fun v w' => .ok (.value v) w'
theorem SR.over {d : Nat} {k : FuncId} {tR : TypeId} {ts : Array TypeId} {gv m cv lb cb l cV : Nat} {curV : Array Value} {eV : TypeId} (hk : Ovl P k t tR) (ht : TEl P t e z sz by_) (hx : ev n f x = .slice (some ⟨gv, 0, none⟩) m cv) (hy : ev n f y = .slice (cutA (some ⟨g, 0, none⟩) cV l sz) lb cb)
    (hne : gv ≠ g) (hv : w.heap[gv]? = some (.cells curV eV (0, 0))) (hR : Rw w base sz e g c cs) (hc : 0 < c)
    (h : SR P ops N R X n rest (set f d (.bool false)) w) :
    SR P ops N R X n (⟨some d, .call ⟨.value (.func k), #[x, y], ts⟩, ty, p, af, none⟩ :: rest) f w := by
  obtain ⟨o, ho, _⟩ := cutA_some g cV l sz
  rw [ho] at hy
  obtain ⟨i, hi, hz, hsz, hby⟩ := ht.parts
  have hpos := ht.2.2.2
  have hov := Go.Lib.run_overlaps_apart (P := P) w t tR e ht.1 sz (fun w => by simp [sizeOf, typeInfo, hi, hsz]) ⟨gv, 0, none⟩ ⟨g, o, none⟩ m cv lb cb hne eV e curV.size (c * sz)
    (by simp [World.shape?, hv]) (by simp [World.shape?, hR.heap, hR.len]) (by have := Nat.mul_pos hc hpos; omega) (by simp [World.frozen?, hv]) (by simp [World.frozen?, hv])
  have hr := hk #[.slice (some ⟨gv, 0, none⟩) m cv, .slice (some ⟨g, o, none⟩) lb cb] w
  rw [hov] at hr
  refine SR.run (v := .bool false) (w' := w) ?_ rfl rfl h
  simp only [Result.andThen] at hr
  simp [execOp, resolve, Deferred.ofValue, invoke, hx, hy, hr, show ev n f (.func k) = .func (.func k) #[] #[] from rfl]
end
end Go.Proofs.YtndcchndcghmoaaGreatDoor.Fw
namespace Go.Proofs.YtndcchndcghmoaaGreatDoor
open Go Go.RowKit Fw
set_option maxRecDepth 10000
set_option maxHeartbeats 2000000
set_option linter.unusedVariables false
theorem ent119 : Ent Tryz.prog 119 := en Tryz.func119
theorem ent163 : Ent Tryz.prog 163 := en Tryz.func163
theorem tel67 : TEl Tryz.prog 67 71 (.agg (List.toArray [str ([] : List UInt8), str ([] : List UInt8)])) 2 32 := ⟨by kernel_rfl, by kernel_rfl, rfl, by decide⟩
theorem und44 : Tryz.prog.underlying 44 = some (.slice 9) := by kernel_rfl
theorem und67 : Tryz.prog.underlying 67 = some (.slice 71) := by kernel_rfl
theorem c_impl_recovered (w : World) (s : List UInt8) (hp0 : (s.length : Int) ≤ 5000000) (hE : EnvW w) : Calls Tryz.prog 70 #[str s] w fun e w' => ∃ (A1' : Option Addr) (n1' c1' : Nat), e = .returned (.tuple (List.toArray [.slice A1' n1' c1', .int .i64 ((opN s).2 : Int)])) ∧ SlO w' w.heap.size encLogRecord 2 71 A1' n1' c1' ((opN s).1) ∧ Lo w w' := by
 refine calls_W 46 Tryz.func70 rfl rfl rfl (Ws (Wr (Q (r_as (v := .slice none 0 0) rfl) <| Q (aI rfl) <| Qn (Ws (Wr (Q (r_as (v := .slice none 0 0) rfl) <| Qn (Ws (Wr (Q (aI rfl) <| Qn (Ws (W.block (W.loop (σ := (List LogRecord) × Nat × (Option Addr) × Nat × Nat) (fun g => [(0, str s), (2, .slice none 0 0), (3, .int .i64 0), (4, .slice g.2.2.1 g.2.2.2.1 g.2.2.2.2), (5, .int .i64 (g.2.1 : Int))]) (fun g w' => (Lo w w') ∧ (SlO w' w.heap.size encLogRecord 2 71 g.2.2.1 g.2.2.2.1 g.2.2.2.2 g.1) ∧ (OpTo s g.1 g.2.1)) (fun g => 60 - g.1.length) (([] : List LogRecord), 0, (none : Option Addr), 0, 0) ?_ ?_ ?_))))))))))))
 ·exact ⟨rfl, rfl, rfl, rfl, (eI (by first | (first | omega | rfl | (rw [cut_line]; omega)) | (dsimp only; (first | omega | rfl | (rw [cut_line]; omega))))), trivial⟩
 ·exact ⟨(Lo.refl w), (SlO.eqv (SlO.nil (base := w.heap.size) (e := 71) (enc := encLogRecord) (fun _ => rfl) (Nat.le_refl _)) (by rfl)), (by (try dsimp only); exact OpTo.zero)⟩
 ·rintro ⟨R, r, A1, n1, c1⟩ f2 w3 hP5
  obtain ⟨hB4, hO6, hi7⟩ : (Lo w w3) ∧ (SlO w3 w.heap.size encLogRecord 2 71 A1 n1 c1 R) ∧ (OpTo s R r) := hP5
  refine (?_ : W _ _ _ _ _ (act _ (sets f2 [(0, str s), (2, .slice none 0 0), (3, .int .i64 0), (4, .slice A1 n1 c1), (5, .int .i64 (r : Int))])) _)
  have hzw3 := hB4.size
  have hl8 := hO6.len
  have hl9 := hO6.rd.bound
  have hq10 : R.length ≤ 60 ∧ r ≤ s.length := hi7.rng
  have hq11 : (s.drop r).length ≤ s.length := (by rw [List.length_drop]; omega)
  refine Ws (Ws (Wr (Q (mL rfl) <| Q (r_len und67 rfl) <| Q (r_lt rfl rfl) <| Qn (W.cond_d rfl (fun h12 => ?_) (fun h12 => ?_)))))
  ·refine W.skip (W.block (Ws (Wr (Q (mS rfl) <| Q (mI rfl) <| Q (r_cutlS (l := r) und9 rfl rfl rfl (by first | omega | (simp only [List.length_append, List.length_cons, List.length_nil, List.length_take, List.length_drop]; omega) | (simp only [List.length_append, List.length_cons, List.length_nil, List.length_take, List.length_drop] at *; omega))) <| Qv ent118 (c_strings_Cut w3 (s.drop r) ([10] : List UInt8) (by omega) (hE.lo hB4)) rfl fun w13 hk14 hz15 => ?_))))
   have hB16 := hB4.lo hk14
   have hq17 : (Lib.cut (s.drop r) ([10] : List UInt8)).1.length ≤ (s.drop r).length ∧ (Lib.cut (s.drop r) ([10] : List UInt8)).2.1.length ≤ (s.drop r).length := cut_len (s.drop r) ([10] : List UInt8)
   refine Q (mT rfl) <| Q (xS rfl rfl) <| Q (xS rfl rfl) <| Q (xB rfl rfl) <| Q (aS rfl) <| Q (aS rfl) <| Q (aB rfl) <| Qn (Ws (Wr (Q (mL rfl) <| Q (r_len und67 rfl) <| Q (mS rfl) <| Qv ent119 (c_impl_decode w13 (n1 : Int) ((Lib.cut (s.drop r) ([10] : List UInt8)).1) (by omega) (by first | omega | (simp only [List.length_append, List.length_cons, List.length_nil, List.length_take, List.length_drop]; omega)) (hE.lo hB16)) rfl fun w18 hk19 hz20 => (Q (mT rfl) <| Q (xG rfl rfl) <| Q (xB rfl rfl) <| SR.alloc (l := [str ([] : List UInt8), str ([] : List UInt8)]) tz71 rfl ?_))))
   intro g22 w23 hg24 hk25 hs26 hb27
   refine Qw (o := 0) (vs := [str (((impl_decode (n1 : Int) ((Lib.cut (s.drop r) ([10] : List UInt8)).1)).1).Command), str (((impl_decode (n1 : Int) ((Lib.cut (s.drop r) ([10] : List UInt8)).1)).1).Reply)]) agg71.2 rfl rfl rfl rfl hb27 ler rfl ?_
   intro w31 hk32 hs33 hb34
   refine Q (aB rfl) <| Qn (Ws (Ws ?_))
   have hm37 := (((hO6.lo hk14).lo hk19).lo hk25).kd hk32 (SlO.ne (g := g22) ((hO6.lo hk14).lo hk19))
   refine W.regJS (fun f' w' => At f' [(0, str s), (2, .slice none 0 0), (3, .int .i64 0), (4, .slice A1 n1 c1), (5, .int .i64 (r : Int)), (6, str ((Lib.cut (s.drop r) ([10] : List UInt8)).1)), (9, .pointer (pA g22)), (34, .bool (decide (((!((Lib.cut (s.drop r) ([10] : List UInt8)).2.2)) = true) ∨ ((!((impl_decode (n1 : Int) ((Lib.cut (s.drop r) ([10] : List UInt8)).1)).2)) = true))))] ∧ Lo w31 w') ?_ ?_
   ·refine Q (mB rfl) <| Q (r_not rfl) <| Q (mB rfl) <| SR.split (fun h38 => ?_) (fun h38 => ?_)
    ·have hq39 := bnot_t h38
     refine Qs rfl <| Qs rfl <| Q (r_pick true rfl (v := .bool true) rfl) <| Qn (⟨_, rfl, ⟨⟨rfl, rfl, rfl, rfl, rfl, rfl, rfl, (eDT ((jot h38).1 trivial)), trivial⟩, (Lo.refl _)⟩⟩)
    ·have hq40 := bnot_f h38
     refine Qg rfl (mB rfl) <| Qg rfl (r_not rfl) <| Q (r_pick false rfl (v := .bool _) rfl) <| Qn (⟨_, rfl, ⟨⟨rfl, rfl, rfl, rfl, rfl, rfl, rfl, (eBD (jof (ne_true_of_eq_false h38))), trivial⟩, (Lo.refl _)⟩⟩)
   rintro f41 w42 ⟨hat43, hk44⟩
   rw [← sets_of_at hat43]
   have hz45 := hk44.size
   have hB46 := (((hB16.lo hk19).lo hk25).new hk32).lo hk44
   refine W.cond_d rfl (fun h47 => ?_) (fun h47 => ?_)
   ·refine W.exit (xin_out rfl (xin_here (Ws (Wr (Q (mL rfl) <| Q (mI rfl) <| Q (aL rfl) <| Q (aI rfl) <| Qn (W.ret (ret2 rfl (v := .slice _ _ _) (v' := .int .i64 _) rfl rfl ?_)))))))
    refine ⟨A1, n1, c1, eR (eT2 rfl (eI ?_)), (SlO.eqv ((hm37.lo hk44).down) ?_), hB46⟩ <;> (have hn := ‹_ = R.length›; subst hn; rw [OpTo.stop ‹OpTo s R r› (by first | exact .inl (by omega) | exact .inr (rec_noI ‹_ ∨ _›))])
   ·have hq48 : ¬ ((!((Lib.cut (s.drop r) ([10] : List UInt8)).2.2)) = true) := (not_or.1 h47).1
    have hq49 : ¬ ((!((impl_decode (n1 : Int) ((Lib.cut (s.drop r) ([10] : List UInt8)).1)).2)) = true) := (not_or.1 h47).2
    refine W.skip (Ws (Wr (Q (mL rfl) <| Q (lG agg71 rfl (hb34.lo hk44) rfl) <| SR.lit (vs := [.agg (List.toArray [str (((impl_decode (n1 : Int) ((Lib.cut (s.drop r) ([10] : List UInt8)).1)).1).Command), str (((impl_decode (n1 : Int) ((Lib.cut (s.drop r) ([10] : List UInt8)).1)).1).Reply)])]) (L := ([((impl_decode (n1 : Int) ((Lib.cut (s.drop r) ([10] : List UInt8)).1)).1)] : List LogRecord)) (enc := encLogRecord) tel67 (fun _ => rfl) rfl rfl rfl (by decide) ?_)))
    intro g50 w51 hg52 hk53 hO54
    have hz55 := hk53.size
    refine SR.app tel67 rfl rfl ((hm37.lo hk44).lo hk53) (hO54.rd) (fun _ => rfl) (by omega) (by omega) ?_
    intro A58 c59 w60 hk61 hO62 hN63
    have hz64 := hk61.size
    refine Q (aL rfl) <| Qn (Wr (Q (mI rfl) <| Q (mS rfl) <| Q (r_len_s und9 rfl) <| Q (r_add rfl rfl (by omega)) <| Q (r_add rfl rfl (by omega)) <| Q (aI rfl) <| Qn (⟨(R ++ [rec1 R.length (s.drop r)], r + (befB (s.drop r) 10).length + 1, A58, n1 + 1, c59), _, rfl, ⟨rfl, rfl, rfl, rfl, (eI (by first | (first | omega | rfl | (rw [cut_line]; omega)) | (dsimp only; (first | omega | rfl | (rw [cut_line]; omega))))), trivial⟩, ⟨((hB46.lo hk53).step hk61 (fun i_ hi_ e' => by have := ((hm37.lo hk44).lo hk53).base_le e'; first | omega | exact e' | exact .inl e' | exact .inr e')), (SlO.eqv hO62 (by have hn := ‹_ = R.length›; subst hn; unfold rec1; rw [cut_line])), ?_⟩, ?_⟩)))
    ·exact (by (try dsimp only); have hn := ‹_ = R.length›; subst hn; exact OpTo.next ‹OpTo s R r› (by omega) (rec_yesI ‹¬ (_ ∨ _)›))
    ·exact (by (try dsimp only); simp only [List.length_append, List.length_cons, List.length_nil]; omega)
  ·refine W.exit (xin_here (Ws (Wr (Q (mL rfl) <| Q (mI rfl) <| Q (aL rfl) <| Q (aI rfl) <| Qn (W.ret (ret2 rfl (v := .slice _ _ _) (v' := .int .i64 _) rfl rfl ?_))))))
   refine ⟨A1, n1, c1, eR (eT2 rfl (eI ?_)), (SlO.eqv (hO6.down) ?_), hB4⟩ <;> (have hn := ‹_ = R.length›; subst hn; rw [OpTo.stop ‹OpTo s R r› (by first | exact .inl (by omega) | exact .inr (rec_noI ‹_ ∨ _›))])
theorem c_spec_l33Open (w : World) (s : List UInt8) (hp0 : (s.length : Int) ≤ 5000000) : Calls Tryz.prog 111 #[str s] w fun e w' => ∃ (A1' : Option Addr) (n1' c1' : Nat), e = .returned (.tuple (List.toArray [.slice A1' n1' c1', .int .i64 ((opN s).2 : Int)])) ∧ SlO w' w.heap.size encLogRecord 2 71 A1' n1' c1' ((opN s).1) ∧ Lo w w' := by
 refine calls_W 52 Tryz.func111 rfl rfl rfl (Ws (Wr (Q (r_as (v := .slice none 0 0) rfl) <| Q (aI rfl) <| Qn (Ws (Wr (SR.lit (vs := []) (L := ([] : List LogRecord)) (enc := encLogRecord) tel67 (fun _ => rfl) rfl rfl rfl (by decide) ?_))))))
 intro g1 w2 hg3 hk4 hO5
 have hz6 := hk4.size
 refine Q (aL rfl) <| Qn (Ws (Wr (Q (aI rfl) <| Qn (Ws (W.block (W.loop (σ := (List LogRecord) × Nat × (Option Addr) × Nat × Nat) (fun g => [(0, str s), (2, .slice none 0 0), (3, .int .i64 0), (4, .slice g.2.2.1 g.2.2.2.1 g.2.2.2.2), (5, .int .i64 (g.2.1 : Int))]) (fun g w' => (Lo w w') ∧ (SlO w' w.heap.size encLogRecord 2 71 g.2.2.1 g.2.2.2.1 g.2.2.2.2 g.1) ∧ (OpTo s g.1 g.2.1)) (fun g => 60 - g.1.length) (([] : List LogRecord), 0, (pA g1), 0, 0) ?_ ?_ ?_))))))
 ·exact ⟨rfl, rfl, rfl, rfl, (eI (by first | (first | omega | rfl | (rw [splitB_head]; omega)) | (dsimp only; (first | omega | rfl | (rw [splitB_head]; omega))))), trivial⟩
 ·exact ⟨((Lo.refl w).lo hk4), hO5, (by (try dsimp only); exact OpTo.zero)⟩
 ·rintro ⟨R, r, A8, n8, c8⟩ f9 w10 hP12
  obtain ⟨hB11, hO13, hi14⟩ : (Lo w w10) ∧ (SlO w10 w.heap.size encLogRecord 2 71 A8 n8 c8 R) ∧ (OpTo s R r) := hP12
  refine (?_ : W _ _ _ _ _ (act _ (sets f9 [(0, str s), (2, .slice none 0 0), (3, .int .i64 0), (4, .slice A8 n8 c8), (5, .int .i64 (r : Int))])) _)
  have hzw10 := hB11.size
  have hl15 := hO13.len
  have hl16 := hO13.rd.bound
  have hq17 : R.length ≤ 60 ∧ r ≤ s.length := hi14.rng
  have hq18 : (s.drop r).length ≤ s.length := (by rw [List.length_drop]; omega)
  refine Ws (Ws (W.regJS (fun f' w' => At f' [(0, str s), (2, .slice none 0 0), (3, .int .i64 0), (4, .slice A8 n8 c8), (5, .int .i64 (r : Int)), (18, .bool (decide (((r : Int) < (s.length : Int)) ∧ ((n8 : Int) < 60))))] ∧ Lo w10 w') ?_ ?_))
  ·refine Q (mI rfl) <| Q (mS rfl) <| Q (r_len_s und9 rfl) <| Q (r_lt rfl rfl) <| Q (mB rfl) <| SR.splitD (fun h19 => ?_) (fun h19 => ?_)
   ·refine Qg rfl (mL rfl) <| Qg rfl (r_len und67 rfl) <| Qg rfl (r_lt rfl rfl) <| Q (r_pick true rfl (v := .bool _) rfl) <| Qn (⟨_, rfl, ⟨⟨rfl, rfl, rfl, rfl, rfl, (eDD (jat h19)), trivial⟩, (Lo.refl _)⟩⟩)
   ·refine Qs rfl <| Qs rfl <| Qs rfl <| Q (r_pick false rfl (v := .bool false) rfl) <| Qn (⟨_, rfl, ⟨⟨rfl, rfl, rfl, rfl, rfl, (eDF (jaf h19).2), trivial⟩, (Lo.refl _)⟩⟩)
  rintro f20 w21 ⟨hat22, hk23⟩
  rw [← sets_of_at hat22]
  have hz24 := hk23.size
  have hB25 := hB11.lo hk23
  refine W.cond_d rfl (fun h26 => ?_) (fun h26 => ?_)
  ·have hq27 : (r : Int) < (s.length : Int) := h26.1
   have hq28 : (n8 : Int) < 60 := h26.2
   refine W.skip (W.block (Ws (Wr (Q (mS rfl) <| Q (mI rfl) <| Q (r_cutlS (l := r) und9 rfl rfl rfl (by first | omega | (simp only [List.length_append, List.length_cons, List.length_nil, List.length_take, List.length_drop]; omega) | (simp only [List.length_append, List.length_cons, List.length_nil, List.length_take, List.length_drop] at *; omega))) <| SR.call ent55 (c_spec_l1Split w21 (s.drop r) (10 : UInt8) (by first | omega | (simp only [List.length_append, List.length_cons, List.length_nil, List.length_take, List.length_drop]; omega))) rfl ?_))))
   rintro e w29 ⟨A31, n32, c33, rfl, hO34, hk30⟩
   refine ⟨_, rfl, ?_⟩
   have hz35 := hk30.size
   have hl37 := hO34.len
   have hl38 := hO34.rd.bound
   have hq39 := splitB_len (10 : UInt8) (s.drop r)
   refine Q (aL rfl) <| Qn (Ws ?_)
   have hm40 := (hO13.lo hk23).lo hk30
   refine Wr (Q (mL rfl) <| ?_)
   have hx42 := (hO34.rd).elem (i := 0) (by omega)
   have hq43 := splitB_gt (10 : UInt8) (s.drop r)
   have hq44 : (s.drop r).length ≤ s.length := by rw [List.length_drop]; omega
   have hq45 := splitB_el hx42
   refine Q (r_ixR tsl44 (hO34.rd) rfl rfl (by omega)) <| Q (r_ld (v := str (gt (splitB (10 : UInt8) (s.drop r)) 0)) sca9 rfl ((hO34.rd).cell0 hx42 rfl)) <| Q (mL rfl) <| Q (r_len und67 rfl) <| Qv ent163 (c_spec_l33Read w29 (gt (splitB (10 : UInt8) (s.drop r)) 0) (n8 : Int) (by first | omega | (simp only [List.length_append, List.length_cons, List.length_nil, List.length_take, List.length_drop]; omega)) (by omega)) rfl fun w46 hk47 hz48 => (Q (mT rfl) <| Q (xG rfl rfl) <| Q (xB rfl rfl) <| SR.alloc (l := [str ([] : List UInt8), str ([] : List UInt8)]) tz71 rfl ?_)
   intro g50 w51 hg52 hk53 hs54 hb55
   refine Qw (o := 0) (vs := [str (((spec_l33Read (gt (splitB (10 : UInt8) (s.drop r)) 0) (n8 : Int)).1).Command), str (((spec_l33Read (gt (splitB (10 : UInt8) (s.drop r)) 0) (n8 : Int)).1).Reply)]) agg71.2 rfl rfl rfl rfl hb55 ler rfl ?_
   intro w60 hk61 hs62 hb63
   refine Q (aB rfl) <| Qn (Ws (Ws ?_))
   have hm66 := ((hm40.lo hk47).lo hk53).kd hk61 (SlO.ne (g := g50) (hm40.lo hk47))
   have hm67 := ((hO34.lo hk47).lo hk53).kd hk61 (SlO.ne (g := g50) (hO34.lo hk47))
   refine W.regJS (fun f' w' => At f' [(0, str s), (2, .slice none 0 0), (3, .int .i64 0), (4, .slice A8 n8 c8), (5, .int .i64 (r : Int)), (6, .slice A31 n32 c33), (7, .pointer (pA g50)), (38, .bool (decide (((n32 : Int) < 2) ∨ ((!((spec_l33Read (gt (splitB (10 : UInt8) (s.drop r)) 0) (n8 : Int)).2)) = true))))] ∧ Lo w60 w') ?_ ?_
   ·refine Q (mL rfl) <| Q (r_len und44 rfl) <| Q (r_lt rfl rfl) <| Q (mB rfl) <| SR.splitD (fun h68 => ?_) (fun h68 => ?_)
    ·refine Qs rfl <| Qs rfl <| Q (r_pick true rfl (v := .bool true) rfl) <| Qn (⟨_, rfl, ⟨⟨rfl, rfl, rfl, rfl, rfl, rfl, rfl, (eDT ((jot h68).1 trivial)), trivial⟩, (Lo.refl _)⟩⟩)
    ·refine Qg rfl (mB rfl) <| Qg rfl (r_not rfl) <| Q (r_pick false rfl (v := .bool _) rfl) <| Qn (⟨_, rfl, ⟨⟨rfl, rfl, rfl, rfl, rfl, rfl, rfl, (eBD (jof h68)), trivial⟩, (Lo.refl _)⟩⟩)
   rintro f69 w70 ⟨hat71, hk72⟩
   rw [← sets_of_at hat71]
   have hz73 := hk72.size
   have hB74 := ((((hB25.lo hk30).lo hk47).lo hk53).new hk61).lo hk72
   refine W.cond_d rfl (fun h75 => ?_) (fun h75 => ?_)
   ·refine W.exit (xin_out rfl (xin_here (Ws (Wr (Q (mL rfl) <| Q (mI rfl) <| Q (aL rfl) <| Q (aI rfl) <| Qn (W.ret (ret2 rfl (v := .slice _ _ _) (v' := .int .i64 _) rfl rfl ?_)))))))
    refine ⟨A8, n8, c8, eR (eT2 rfl (eI ?_)), (SlO.eqv ((hm66.lo hk72).down) ?_), hB74⟩ <;> (have hn := ‹_ = R.length›; subst hn; rw [OpTo.stop ‹OpTo s R r› (by first | exact stopS ‹¬ (_ ∧ _)› | exact .inr (recS_no (by omega) ‹_ = (splitB _ _).length› ‹_ ∨ _›))])
   ·have hq76 : ¬ ((n32 : Int) < 2) := (not_or.1 h75).1
    have hq77 : ¬ ((!((spec_l33Read (gt (splitB (10 : UInt8) (s.drop r)) 0) (n8 : Int)).2)) = true) := (not_or.1 h75).2
    refine W.skip (Ws (Wr (Q (mL rfl) <| Q (lG agg71 rfl (hb63.lo hk72) rfl) <| SR.lit (vs := [.agg (List.toArray [str (((spec_l33Read (gt (splitB (10 : UInt8) (s.drop r)) 0) (n8 : Int)).1).Command), str (((spec_l33Read (gt (splitB (10 : UInt8) (s.drop r)) 0) (n8 : Int)).1).Reply)])]) (L := ([((spec_l33Read (gt (splitB (10 : UInt8) (s.drop r)) 0) (n8 : Int)).1)] : List LogRecord)) (enc := encLogRecord) tel67 (fun _ => rfl) rfl rfl rfl (by decide) ?_)))
    intro g78 w79 hg80 hk81 hO82
    have hz83 := hk81.size
    refine SR.app tel67 rfl rfl ((hm66.lo hk72).lo hk81) (hO82.rd) (fun _ => rfl) (by omega) (by omega) ?_
    intro A87 c88 w89 hk90 hO91 hN92
    have hz93 := hk90.size
    refine Q (aL rfl) <| Qn ?_
    have hm98 := ((hm67.lo hk72).lo hk81).kp hk90 (fun b_ hb e' => by have h1 := ((hm66.lo hk72).lo hk81).base_le e'; have h2 := ((hm67.lo hk72).lo hk81).base_le hb; have h4 := (hO13.lo hk23).base_le e'; omega)
    refine Wr (Q (mI rfl) <| Q (mL rfl) <| Q (r_ixR tsl44 (hm98.rd) rfl rfl (by omega)) <| Q (r_ld (v := str (gt (splitB (10 : UInt8) (s.drop r)) 0)) sca9 rfl ((hm98.rd).cell0 hx42 rfl)) <| Q (r_len_s und9 rfl) <| Q (r_add rfl rfl (by omega)) <| Q (r_add rfl rfl (by omega)) <| Q (aI rfl) <| Qn (⟨(R ++ [rec1 R.length (s.drop r)], r + (befB (s.drop r) 10).length + 1, A87, n8 + 1, c88), _, rfl, ⟨rfl, rfl, rfl, rfl, (eI (by first | (first | omega | rfl | (rw [splitB_head]; omega)) | (dsimp only; (first | omega | rfl | (rw [splitB_head]; omega))))), trivial⟩, ⟨((hB74.lo hk81).step hk90 (fun i_ hi_ e' => by have := ((hm66.lo hk72).lo hk81).base_le e'; first | omega | exact e' | exact .inl e' | exact .inr e')), (SlO.eqv hO91 (by have hn := ‹_ = R.length›; subst hn; rw [(recS_yes (by omega) ‹_ = (splitB _ _).length› ‹¬ (_ ∨ _)›).2])), ?_⟩, ?_⟩))
    ·exact (by (try dsimp only); have hn := ‹_ = R.length›; subst hn; exact OpTo.next ‹OpTo s R r› (by omega) ((recS_yes (by omega) ‹_ = (splitB _ _).length› ‹¬ (_ ∨ _)›).1))
    ·exact (by (try dsimp only); simp only [List.length_append, List.length_cons, List.length_nil]; omega)
  ·refine W.exit (xin_here (Ws (Wr (Q (mL rfl) <| Q (mI rfl) <| Q (aL rfl) <| Q (aI rfl) <| Qn (W.ret (ret2 rfl (v := .slice _ _ _) (v' := .int .i64 _) rfl rfl ?_))))))
   refine ⟨A8, n8, c8, eR (eT2 rfl (eI ?_)), (SlO.eqv ((hO13.lo hk23).down) ?_), hB25⟩ <;> (have hn := ‹_ = R.length›; subst hn; rw [OpTo.stop ‹OpTo s R r› (by first | exact stopS ‹¬ (_ ∧ _)› | exact .inr (recS_no (by omega) ‹_ = (splitB _ _).length› ‹_ ∨ _›))])
end Go.Proofs.YtndcchndcghmoaaGreatDoor
namespace Go.Proofs.YtndcchndcghmoaaGreatDoor
open Go Go.RowKit Fw
set_option maxRecDepth 10000
set_option maxHeartbeats 2000000
set_option linter.unusedVariables false
theorem agg35 : TAgg Tryz.prog 35 3 := tG
theorem bld35_0_1_2 (a0 : List UInt8) (a1 : List UInt8) (a2 : Int) : Tryz.prog.built 35 [(0, str a0), (1, str a1), (2, .int .i64 a2)] = some (List.toArray [str a0, str a1, .int .i64 a2]) := by kernel_rfl
theorem ent111 : Ent Tryz.prog 111 := en Tryz.func111
theorem ent63 : Ent Tryz.prog 63 := en Tryz.func63
theorem ent69 : Ent Tryz.prog 69 := en Tryz.func69
theorem ent70 : Ent Tryz.prog 70 := en Tryz.func70
theorem fa35_0 : FA Tryz.prog 35 0 0 := fun _ _ => by kernel_rfl
theorem fa35_1 : FA Tryz.prog 35 1 1 := fun _ _ => by kernel_rfl
theorem fa35_2 : FA Tryz.prog 35 2 2 := fun _ _ => by kernel_rfl
theorem sca3 : TSca Tryz.prog 3 := tS
theorem tz35 : TZ Tryz.prog 35 (.agg (List.toArray [str ([] : List UInt8), str ([] : List UInt8), .int .i64 0])) := fun _ => by kernel_rfl
theorem z_c_impl_IsValidLog_40 (l : Log) (hp0 : (l.Durable.length : Int) + (l.Pending.length : Int) ≤ 4000000) (n12 : Nat) (hl17 : n12 = ((opN (l.Durable ++ l.Pending)).1).length) (hl18 : (n12 : Int) ≤ 9223372036854775807) (hq19 : (opN (l.Durable ++ l.Pending)).1.length ≤ 60 ∧ (opN (l.Durable ++ l.Pending)).2 ≤ (l.Durable ++ l.Pending).length ∧ (opN (l.Durable ++ l.Pending)).2 ≤ 24360) (n23 : Nat) (hl28 : n23 = ((opN l.Durable).1).length) (hl29 : (n23 : Int) ≤ 9223372036854775807) (hq30 : (opN l.Durable).1.length ≤ 60 ∧ (opN l.Durable).2 ≤ l.Durable.length ∧ (opN l.Durable).2 ≤ 24360) : ((((opN (l.Durable ++ l.Pending)).2 : Int) = ((l.Durable.length : Int) + (l.Pending.length : Int))) ∧ ((((opN l.Durable).2 : Int) = (l.Durable.length : Int)) ∧ (l.Count = (n12 : Int)))) ↔ (LogOK l) := by
 first | assumption | (intro hh; have hh2 := log_rng hh; omega) | (rw [log_iff]; simp only [List.length_append] at *; omega)
theorem c_impl_IsValidLog (w : World) (l : Log) (hp0 : (l.Durable.length : Int) + (l.Pending.length : Int) ≤ 4000000) (hE : EnvW w) : Calls Tryz.prog 69 #[.agg (List.toArray (encLog l))] w fun e w' => e = .returned (.bool (decide (LogOK l))) ∧ Lo w w' := by
 refine calls_W 45 Tryz.func69 rfl rfl rfl (Ws (Wr (SR.box (v := .agg (List.toArray _)) (l := [str l.Durable, str l.Pending, .int .i64 l.Count]) rfl rfl ?_)))
 intro g1 w2 hg3 hk4 hs5 hb6
 have hB8 := (Lo.refl w).lo hk4
 refine Q (aB rfl) <| Qn (Ws (Wr (Q (fA fa35_0 rfl) <| Q (lB sca9 rfl hb6 rfl) <| Q (fA fa35_1 rfl) <| Q (lB sca9 rfl hb6 rfl) <| Q (r_cat rfl rfl (by first | omega | (simp only [List.length_append, List.length_cons, List.length_nil, List.length_take, List.length_drop]; omega) | (simp only [List.length_append, List.length_cons, List.length_nil, List.length_take, List.length_drop] at *; omega))) <| SR.call ent70 (c_impl_recovered w2 (l.Durable ++ l.Pending) (by first | omega | (simp only [List.length_append, List.length_cons, List.length_nil, List.length_take, List.length_drop]; omega)) (hE.lo hB8)) rfl ?_)))
 rintro e w9 ⟨A11, n12, c13, rfl, hO14, hk10⟩
 refine ⟨_, rfl, ?_⟩
 have hz15 := hk10.size
 have hB16 := hB8.lo hk10
 have hl17 := hO14.len
 have hl18 := hO14.rd.bound
 have hq19 : (opN (l.Durable ++ l.Pending)).1.length ≤ 60 ∧ (opN (l.Durable ++ l.Pending)).2 ≤ (l.Durable ++ l.Pending).length ∧ (opN (l.Durable ++ l.Pending)).2 ≤ 24360 := opN_len (l.Durable ++ l.Pending)
 refine Q (mT rfl) <| Q (xL rfl rfl) <| Q (xI rfl rfl) <| Q (aL rfl) <| Q (aI rfl) <| Qn (Ws (Wr (Q (fA fa35_0 rfl) <| Q (lB sca9 rfl (hb6.lo hk10) rfl) <| SR.call ent70 (c_impl_recovered w9 l.Durable (by first | omega | (simp only [List.length_append, List.length_cons, List.length_nil, List.length_take, List.length_drop]; omega)) (hE.lo hB16)) rfl ?_)))
 rintro e w20 ⟨A22, n23, c24, rfl, hO25, hk21⟩
 refine ⟨_, rfl, ?_⟩
 have hz26 := hk21.size
 have hl28 := hO25.len
 have hl29 := hO25.rd.bound
 have hq30 : (opN l.Durable).1.length ≤ 60 ∧ (opN l.Durable).2 ≤ l.Durable.length ∧ (opN l.Durable).2 ≤ 24360 := opN_len l.Durable
 refine Q (mT rfl) <| Q (xL rfl rfl) <| Q (xI rfl rfl) <| Q (aL rfl) <| Q (aI rfl) <| Qn (Ws ?_)
 have hm31 := (hb6.lo hk10).lo hk21
 refine W.regJS (fun f' w' => At f' [(2, .bool (decide ((((opN (l.Durable ++ l.Pending)).2 : Int) = ((l.Durable.length : Int) + (l.Pending.length : Int))) ∧ ((((opN l.Durable).2 : Int) = (l.Durable.length : Int)) ∧ (l.Count = (n12 : Int))))))] ∧ Lo w20 w') ?_ ?_
 ·refine Q (mI rfl) <| Q (fA fa35_0 rfl) <| Q (lB sca9 rfl hm31 rfl) <| Q (r_len_s und9 rfl) <| Q (fA fa35_1 rfl) <| Q (lB sca9 rfl hm31 rfl) <| Q (r_len_s und9 rfl) <| Q (r_add rfl rfl (by omega)) <| Q (r_eq rfl rfl) <| Q (mB rfl) <| SR.splitD (fun h32 => ?_) (fun h32 => ?_)
  ·refine Qg rfl (mI rfl) <| Qg rfl (fA fa35_0 rfl) <| Qg rfl (lB sca9 rfl hm31 rfl) <| Qg rfl (r_len_s und9 rfl) <| Qg rfl (r_eq rfl rfl) <| Q (r_pick true rfl (v := .bool _) rfl) <| Q (mB rfl) <| SR.splitD (fun h33 => ?_) (fun h33 => ?_)
   ·refine Qg rfl (fA fa35_2 rfl) <| Qg rfl (lB sca3 rfl hm31 rfl) <| Qg rfl (mL rfl) <| Qg rfl (r_len und67 rfl) <| Qg rfl (r_eq rfl rfl) <| Q (r_pick true rfl (v := .bool _) rfl) <| Q (aB rfl) <| Qn (⟨_, rfl, ⟨⟨(eDD ((jat h33).trans (jat h32))), trivial⟩, (Lo.refl _)⟩⟩)
   ·refine Qs rfl <| Qs rfl <| Qs rfl <| Qs rfl <| Qs rfl <| Q (r_pick false rfl (v := .bool false) rfl) <| Q (aB rfl) <| Qn (⟨_, rfl, ⟨⟨(eDF ((jaf h33).trans (jat h32)).2), trivial⟩, (Lo.refl _)⟩⟩)
  ·refine Qs rfl <| Qs rfl <| Qs rfl <| Qs rfl <| Qs rfl <| Q (r_pick false rfl (v := .bool false) rfl) <| Q (mB rfl) <| Qs rfl <| Qs rfl <| Qs rfl <| Qs rfl <| Qs rfl <| Q (r_pick false rfl (v := .bool false) rfl) <| Q (aB rfl) <| Qn (⟨_, rfl, ⟨⟨(eDF (jaf h32).2), trivial⟩, (Lo.refl _)⟩⟩)
 rintro f34 w35 ⟨hat36, hk37⟩
 rw [← sets_of_at hat36]
 have hz38 := hk37.size
 refine W.ret (ret1 rfl (v := .bool _) rfl (⟨eR (eDD (z_c_impl_IsValidLog_40 l hp0 n12 hl17 hl18 hq19 n23 hl28 hl29 hq30)), ((hB16.lo hk21).lo hk37)⟩))
theorem z_c_spec_l33Log_10 (l : Log) (hp0 : (l.Durable.length : Int) + (l.Pending.length : Int) ≤ 4000000) (h9 : 30000 < ((l.Durable.length : Int) + (l.Pending.length : Int))) : ¬ (LogOK l) := by
 first | assumption | (intro hh; have hh2 := log_rng hh; omega) | (rw [log_iff]; simp only [List.length_append] at *; omega)
theorem z_c_spec_l33Log_42 (l : Log) (hp0 : (l.Durable.length : Int) + (l.Pending.length : Int) ≤ 4000000) (h9 : ¬ (30000 < ((l.Durable.length : Int) + (l.Pending.length : Int)))) (n14 : Nat) (hl19 : n14 = ((opN (l.Durable ++ l.Pending)).1).length) (hl20 : (n14 : Int) ≤ 9223372036854775807) (hq21 : (opN (l.Durable ++ l.Pending)).1.length ≤ 60 ∧ (opN (l.Durable ++ l.Pending)).2 ≤ (l.Durable ++ l.Pending).length ∧ (opN (l.Durable ++ l.Pending)).2 ≤ 24360) (n25 : Nat) (hl30 : n25 = ((opN l.Durable).1).length) (hl31 : (n25 : Int) ≤ 9223372036854775807) (hq32 : (opN l.Durable).1.length ≤ 60 ∧ (opN l.Durable).2 ≤ l.Durable.length ∧ (opN l.Durable).2 ≤ 24360) : ((((opN (l.Durable ++ l.Pending)).2 : Int) = ((l.Durable.length : Int) + (l.Pending.length : Int))) ∧ ((((opN l.Durable).2 : Int) = (l.Durable.length : Int)) ∧ ((n14 : Int) = l.Count))) ↔ (LogOK l) := by
 first | assumption | (intro hh; have hh2 := log_rng hh; omega) | (rw [log_iff]; simp only [List.length_append] at *; omega)
theorem c_spec_l33Log (w : World) (l : Log) (hp0 : (l.Durable.length : Int) + (l.Pending.length : Int) ≤ 4000000) : Calls Tryz.prog 63 #[.agg (List.toArray (encLog l))] w fun e w' => e = .returned (.bool (decide (LogOK l))) ∧ Lo w w' := by
 refine calls_W 53 Tryz.func63 rfl rfl rfl (Ws (Wr (SR.box (v := .agg (List.toArray _)) (l := [str l.Durable, str l.Pending, .int .i64 l.Count]) rfl rfl ?_)))
 intro g1 w2 hg3 hk4 hs5 hb6
 have hB8 := (Lo.refl w).lo hk4
 refine Q (aB rfl) <| Qn (Ws (Ws (Wr (Q (fA fa35_0 rfl) <| Q (lB sca9 rfl hb6 rfl) <| Q (r_len_s und9 rfl) <| Q (fA fa35_1 rfl) <| Q (lB sca9 rfl hb6 rfl) <| Q (r_len_s und9 rfl) <| Q (r_add rfl rfl (by omega)) <| Q (r_gt rfl rfl) <| Qn (W.cond_d rfl (fun h9 => ?_) (fun h9 => ?_))))))
 ·refine Ws (Wr (Q (aB rfl) <| Qn (W.ret (ret1 rfl (v := .bool _) rfl (⟨eR (eDF (z_c_spec_l33Log_10 l hp0 h9)), hB8⟩)))))
 ·refine W.skip (Ws (Wr (Q (fA fa35_0 rfl) <| Q (lB sca9 rfl hb6 rfl) <| Q (fA fa35_1 rfl) <| Q (lB sca9 rfl hb6 rfl) <| Q (r_cat rfl rfl (by first | omega | (simp only [List.length_append, List.length_cons, List.length_nil, List.length_take, List.length_drop]; omega) | (simp only [List.length_append, List.length_cons, List.length_nil, List.length_take, List.length_drop] at *; omega))) <| SR.call ent111 (c_spec_l33Open w2 (l.Durable ++ l.Pending) (by first | omega | (simp only [List.length_append, List.length_cons, List.length_nil, List.length_take, List.length_drop]; omega))) rfl ?_)))
  rintro e w11 ⟨A13, n14, c15, rfl, hO16, hk12⟩
  refine ⟨_, rfl, ?_⟩
  have hz17 := hk12.size
  have hl19 := hO16.len
  have hl20 := hO16.rd.bound
  have hq21 : (opN (l.Durable ++ l.Pending)).1.length ≤ 60 ∧ (opN (l.Durable ++ l.Pending)).2 ≤ (l.Durable ++ l.Pending).length ∧ (opN (l.Durable ++ l.Pending)).2 ≤ 24360 := opN_len (l.Durable ++ l.Pending)
  refine Q (mT rfl) <| Q (xL rfl rfl) <| Q (xI rfl rfl) <| Q (aL rfl) <| Q (aI rfl) <| Qn (Ws (Wr (Q (fA fa35_0 rfl) <| Q (lB sca9 rfl (hb6.lo hk12) rfl) <| SR.call ent111 (c_spec_l33Open w11 l.Durable (by first | omega | (simp only [List.length_append, List.length_cons, List.length_nil, List.length_take, List.length_drop]; omega))) rfl ?_)))
  rintro e w22 ⟨A24, n25, c26, rfl, hO27, hk23⟩
  refine ⟨_, rfl, ?_⟩
  have hz28 := hk23.size
  have hl30 := hO27.len
  have hl31 := hO27.rd.bound
  have hq32 : (opN l.Durable).1.length ≤ 60 ∧ (opN l.Durable).2 ≤ l.Durable.length ∧ (opN l.Durable).2 ≤ 24360 := opN_len l.Durable
  refine Q (mT rfl) <| Q (xL rfl rfl) <| Q (xI rfl rfl) <| Q (aL rfl) <| Q (aI rfl) <| Qn (Ws ?_)
  have hm33 := (hb6.lo hk12).lo hk23
  refine W.regJS (fun f' w' => At f' [(2, .bool (decide ((((opN (l.Durable ++ l.Pending)).2 : Int) = ((l.Durable.length : Int) + (l.Pending.length : Int))) ∧ ((((opN l.Durable).2 : Int) = (l.Durable.length : Int)) ∧ ((n14 : Int) = l.Count)))))] ∧ Lo w22 w') ?_ ?_
  ·refine Q (mI rfl) <| Q (fA fa35_0 rfl) <| Q (lB sca9 rfl hm33 rfl) <| Q (r_len_s und9 rfl) <| Q (fA fa35_1 rfl) <| Q (lB sca9 rfl hm33 rfl) <| Q (r_len_s und9 rfl) <| Q (r_add rfl rfl (by omega)) <| Q (r_eq rfl rfl) <| Q (mB rfl) <| SR.splitD (fun h34 => ?_) (fun h34 => ?_)
   ·refine Qg rfl (mI rfl) <| Qg rfl (fA fa35_0 rfl) <| Qg rfl (lB sca9 rfl hm33 rfl) <| Qg rfl (r_len_s und9 rfl) <| Qg rfl (r_eq rfl rfl) <| Q (r_pick true rfl (v := .bool _) rfl) <| Q (mB rfl) <| SR.splitD (fun h35 => ?_) (fun h35 => ?_)
    ·refine Qg rfl (mL rfl) <| Qg rfl (r_len und67 rfl) <| Qg rfl (fA fa35_2 rfl) <| Qg rfl (lB sca3 rfl hm33 rfl) <| Qg rfl (r_eq rfl rfl) <| Q (r_pick true rfl (v := .bool _) rfl) <| Q (aB rfl) <| Qn (⟨_, rfl, ⟨⟨(eDD ((jat h35).trans (jat h34))), trivial⟩, (Lo.refl _)⟩⟩)
    ·refine Qs rfl <| Qs rfl <| Qs rfl <| Qs rfl <| Qs rfl <| Q (r_pick false rfl (v := .bool false) rfl) <| Q (aB rfl) <| Qn (⟨_, rfl, ⟨⟨(eDF ((jaf h35).trans (jat h34)).2), trivial⟩, (Lo.refl _)⟩⟩)
   ·refine Qs rfl <| Qs rfl <| Qs rfl <| Qs rfl <| Qs rfl <| Q (r_pick false rfl (v := .bool false) rfl) <| Q (mB rfl) <| Qs rfl <| Qs rfl <| Qs rfl <| Qs rfl <| Qs rfl <| Q (r_pick false rfl (v := .bool false) rfl) <| Q (aB rfl) <| Qn (⟨_, rfl, ⟨⟨(eDF (jaf h34).2), trivial⟩, (Lo.refl _)⟩⟩)
  rintro f36 w37 ⟨hat38, hk39⟩
  rw [← sets_of_at hat38]
  have hz40 := hk39.size
  refine W.ret (ret1 rfl (v := .bool _) rfl (⟨eR (eDD (z_c_spec_l33Log_42 l hp0 h9 n14 hl19 hl20 hq21 n25 hl30 hl31 hq32)), (((hB8.lo hk12).lo hk23).lo hk39)⟩))
theorem c_impl_AppendRecord (w : World) (l : Log) (r : LogRecord) (hp0 : (l.Durable.length : Int) + (l.Pending.length : Int) ≤ 4000000) (hE : EnvW w) : Calls Tryz.prog 50 #[.agg (List.toArray (encLog l)), .agg (List.toArray (encLogRecord r))] w fun e w' => e = .returned (.tuple (List.toArray [.agg (List.toArray [str (((appN l r).1).Durable), str (((appN l r).1).Pending), .int .i64 (((appN l r).1).Count)]), .int .i64 ((appN l r).2)])) ∧ Lo w w' := by
 refine calls_W 37 Tryz.func50 rfl rfl rfl (Ws (Wr (SR.box (v := .agg (List.toArray _)) (l := [str l.Durable, str l.Pending, .int .i64 l.Count]) rfl rfl ?_)))
 intro g1 w2 hg3 hk4 hs5 hb6
 refine SR.box (v := .agg (List.toArray _)) (l := [str r.Command, str r.Reply]) rfl rfl ?_
 intro g9 w10 hg11 hk12 hs13 hb14
 refine SR.alloc (l := [str ([] : List UInt8), str ([] : List UInt8), .int .i64 0]) tz35 rfl ?_
 intro g17 w18 hg19 hk20 hs21 hb22
 have hB24 := (((Lo.refl w).lo hk4).lo hk12).lo hk20
 refine Q (aI rfl) <| Qn (Ws (Ws ?_))
 have hm25 := (hb6.lo hk12).lo hk20
 refine W.regJS (fun f' w' => At f' [(2, .pointer (pA g1)), (3, .pointer (pA g9)), (4, .pointer (pA g17)), (5, .int .i64 0), (15, .bool (decide ((¬ (LogOK l)) ∨ (¬ (RecOK r)))))] ∧ Lo w18 w') ?_ ?_
 ·refine Q (lG agg35 rfl hm25 rfl) <| Qv ent69 (c_impl_IsValidLog w18 l (by omega) (hE.lo hB24)) rfl fun w26 hk27 hz28 => (Q (r_not rfl) <| Q (mB rfl) <| SR.splitN (fun h30 => ?_) (fun h30 => ?_))
  ·refine Qs rfl <| Qs rfl <| Qs rfl <| Q (r_pick true rfl (v := .bool true) rfl) <| Qn (⟨_, rfl, ⟨⟨rfl, rfl, rfl, rfl, (eDT ((jmf h30).1 trivial)), trivial⟩, hk27⟩⟩)
  ·have hq31 := log_rng h30
   refine Qg rfl (lG agg71 rfl ((hb14.lo hk20).lo hk27) rfl) <| SR.gcall rfl ent48 (c_impl_IsValidRecord w26 r (hE.lo (hB24.lo hk27))) rfl ?_
   rintro e w32 ⟨rfl, hk33⟩
   refine ⟨_, rfl, ?_⟩
   have hz34 := hk33.size
   refine Qg rfl (r_not rfl) <| Q (r_pick false rfl (v := .bool _) rfl) <| Qn (⟨_, rfl, ⟨⟨rfl, rfl, rfl, rfl, (eND (jmt h30)), trivial⟩, (hk27.trans hk33)⟩⟩)
 rintro f36 w37 ⟨hat38, hk39⟩
 rw [← sets_of_at hat38]
 have hz40 := hk39.size
 have hB41 := hB24.lo hk39
 refine W.cond_d rfl (fun h42 => ?_) (fun h42 => ?_)
 ·refine Ws (Wr (Q (lG agg35 rfl (hm25.lo hk39) rfl) <| Qw (o := 0) (vs := [str l.Durable, str l.Pending, .int .i64 l.Count]) agg35.2 rfl rfl rfl rfl (hb22.lo hk39) ler rfl ?_))
  intro w44 hk45 hs46 hb47
  refine Q (aI rfl) <| Qn (W.ret (retCT rfl rfl agg35 hb47 rfl (v := .int .i64 _) rfl ?_))
  refine ⟨eR (eT2 (eA (eC (eS ?_) (eC (eS ?_) (eC (eI ?_) rfl)))) (eI ?_)), (hB41.new hk45)⟩ <;> (first | (rw [app_bad ‹_›]; done) | (rw [app_full ‹_› ‹_›]; done) | (rw [app_fullI ‹¬ (_ ∨ _)› ‹_ = true›]; done) | (rw [app_yes ‹_› ‹_›]; done) | (rw [app_yesI ‹¬ (_ ∨ _)› ‹(!_) = false›]; done))
 ·have hq50 : LogOK l := (Classical.not_not.1 (not_or.1 h42).1)
  have hq51 : RecOK r := (Classical.not_not.1 (not_or.1 h42).2)
  have hq52 := log_rng hq50
  have hq53 := rec_rng hq51
  refine W.skip (Ws (Wr (Q (fA fa35_2 rfl) <| Q (lB sca3 rfl (hm25.lo hk39) rfl) <| Q (lG agg71 rfl ((hb14.lo hk20).lo hk39) rfl) <| Qv ent99 (c_impl_EncodeRecord w37 l.Count r (hE.lo hB41)) rfl fun w55 hk56 hz57 => ?_)))
  have hB58 := hB41.lo hk56
  have hq59 : (encN l.Count r).1.length ≤ 406 := enc_len l.Count r
  refine Q (mT rfl) <| Q (xS rfl rfl) <| Q (xB rfl rfl) <| Q (aS rfl) <| Q (aB rfl) <| Qn (Ws (Ws ?_))
  have hm60 := (hm25.lo hk39).lo hk56
  have hm61 := (hb22.lo hk39).lo hk56
  refine Wr (Q (mB rfl) <| Q (r_not rfl) <| Qn (W.cond_b rfl (fun h62 => ?_) (fun h62 => ?_)))
  ·have hq63 := bnot_t h62
   refine Ws (Wr (Q (lG agg35 rfl hm60 rfl) <| Qw (o := 0) (vs := [str l.Durable, str l.Pending, .int .i64 l.Count]) agg35.2 rfl rfl rfl rfl hm61 ler rfl ?_))
   intro w64 hk65 hs66 hb67
   refine Q (aI rfl) <| Qn (W.ret (retCT rfl rfl agg35 hb67 rfl (v := .int .i64 _) rfl ?_))
   refine ⟨eR (eT2 (eA (eC (eS ?_) (eC (eS ?_) (eC (eI ?_) rfl)))) (eI ?_)), (hB58.new hk65)⟩ <;> (first | (rw [app_bad ‹_›]; done) | (rw [app_full ‹_› ‹_›]; done) | (rw [app_fullI ‹¬ (_ ∨ _)› ‹_ = true›]; done) | (rw [app_yes ‹_› ‹_›]; done) | (rw [app_yesI ‹¬ (_ ∨ _)› ‹(!_) = false›]; done))
  ·have hq70 := bnot_f h62
   refine W.skip (Ws (Wr (Q (fA fa35_0 rfl) <| Q (lB sca9 rfl hm60 rfl) <| Q (fA fa35_1 rfl) <| Q (lB sca9 rfl hm60 rfl) <| Q (mS rfl) <| Q (r_cat rfl rfl (by first | omega | (simp only [List.length_append, List.length_cons, List.length_nil, List.length_take, List.length_drop]; omega) | (simp only [List.length_append, List.length_cons, List.length_nil, List.length_take, List.length_drop] at *; omega))) <| Q (fA fa35_2 rfl) <| Q (lB sca3 rfl hm60 rfl) <| Q (r_add rfl rfl (by omega)) <| Q (r_build (vs := [(0, str l.Durable), (1, str (l.Pending ++ ((encN l.Count r).1))), (2, .int .i64 (l.Count + 1))]) rfl (bld35_0_1_2 _ _ _)) <| Qw (o := 0) (vs := [str l.Durable, str (l.Pending ++ ((encN l.Count r).1)), .int .i64 (l.Count + 1)]) agg35.2 rfl rfl rfl rfl hm61 ler rfl ?_)))
   intro w71 hk72 hs73 hb74
   refine Q (aI rfl) <| Qn (W.ret (retCT rfl rfl agg35 hb74 rfl (v := .int .i64 _) rfl ?_))
   refine ⟨eR (eT2 (eA (eC (eS ?_) (eC (eS ?_) (eC (eI ?_) rfl)))) (eI ?_)), (hB58.new hk72)⟩ <;> (first | (rw [app_bad ‹_›]; done) | (rw [app_full ‹_› ‹_›]; done) | (rw [app_fullI ‹¬ (_ ∨ _)› ‹_ = true›]; done) | (rw [app_yes ‹_› ‹_›]; done) | (rw [app_yesI ‹¬ (_ ∨ _)› ‹(!_) = false›]; done))
theorem c_spec_AppendRecord (w : World) (l : Log) (r : LogRecord) (hp0 : (l.Durable.length : Int) + (l.Pending.length : Int) ≤ 4000000) (hp1 : (r.Command.length : Int) ≤ 281474976710656 ∧ (r.Reply.length : Int) ≤ 281474976710656) : Calls Tryz.prog 45 #[.agg (List.toArray (encLog l)), .agg (List.toArray (encLogRecord r))] w fun e w' => e = .returned (.tuple (List.toArray [.agg (List.toArray [str (((appN l r).1).Durable), str (((appN l r).1).Pending), .int .i64 (((appN l r).1).Count)]), .int .i64 ((appN l r).2)])) ∧ Lo w w' := by
 refine calls_W 32 Tryz.func45 rfl rfl rfl (Ws (Wr (SR.box (v := .agg (List.toArray _)) (l := [str l.Durable, str l.Pending, .int .i64 l.Count]) rfl rfl ?_)))
 intro g1 w2 hg3 hk4 hs5 hb6
 refine SR.box (v := .agg (List.toArray _)) (l := [str r.Command, str r.Reply]) rfl rfl ?_
 intro g9 w10 hg11 hk12 hs13 hb14
 refine SR.alloc (l := [str ([] : List UInt8), str ([] : List UInt8), .int .i64 0]) tz35 rfl ?_
 intro g17 w18 hg19 hk20 hs21 hb22
 refine Q (aI rfl) <| Qn (Ws (Ws ?_))
 have hm25 := (hb6.lo hk12).lo hk20
 refine W.regJS (fun f' w' => At f' [(2, .pointer (pA g1)), (3, .pointer (pA g9)), (4, .pointer (pA g17)), (5, .int .i64 0), (13, .bool (decide ((¬ (LogOK l)) ∨ (¬ (RecOK r)))))] ∧ Lo w18 w') ?_ ?_
 ·refine Q (lG agg35 rfl hm25 rfl) <| Qv ent63 (c_spec_l33Log w18 l (by omega)) rfl fun w26 hk27 hz28 => (Q (r_not rfl) <| Q (mB rfl) <| SR.splitN (fun h30 => ?_) (fun h30 => ?_))
  ·refine Qs rfl <| Qs rfl <| Qs rfl <| Q (r_pick true rfl (v := .bool true) rfl) <| Qn (⟨_, rfl, ⟨⟨rfl, rfl, rfl, rfl, (eDT ((jmf h30).1 trivial)), trivial⟩, hk27⟩⟩)
  ·have hq31 := log_rng h30
   refine Qg rfl (lG agg71 rfl ((hb14.lo hk20).lo hk27) rfl) <| SR.gcall rfl ent43 (c_spec_l33Good w26 r (by first | omega | (dsimp only; simp only [List.length_drop]; omega) | (dsimp only; omega) | (simp only [List.length_cons, List.length_nil]; omega))) rfl ?_
   rintro e w32 ⟨rfl, hk33⟩
   refine ⟨_, rfl, ?_⟩
   have hz34 := hk33.size
   refine Qg rfl (r_not rfl) <| Q (r_pick false rfl (v := .bool _) rfl) <| Qn (⟨_, rfl, ⟨⟨rfl, rfl, rfl, rfl, (eND (jmt h30)), trivial⟩, (hk27.trans hk33)⟩⟩)
 rintro f36 w37 ⟨hat38, hk39⟩
 rw [← sets_of_at hat38]
 have hz40 := hk39.size
 have hB41 := ((((Lo.refl w).lo hk4).lo hk12).lo hk20).lo hk39
 refine W.cond_d rfl (fun h42 => ?_) (fun h42 => ?_)
 ·refine Ws (Wr (Q (lG agg35 rfl (hm25.lo hk39) rfl) <| Qw (o := 0) (vs := [str l.Durable, str l.Pending, .int .i64 l.Count]) agg35.2 rfl rfl rfl rfl (hb22.lo hk39) ler rfl ?_))
  intro w44 hk45 hs46 hb47
  refine Q (aI rfl) <| Qn (W.ret (retCT rfl rfl agg35 hb47 rfl (v := .int .i64 _) rfl ?_))
  refine ⟨eR (eT2 (eA (eC (eS ?_) (eC (eS ?_) (eC (eI ?_) rfl)))) (eI ?_)), (hB41.new hk45)⟩ <;> (first | (rw [app_bad ‹_›]; done) | (rw [app_full ‹_› ‹_›]; done) | (rw [app_fullI ‹¬ (_ ∨ _)› ‹_ = true›]; done) | (rw [app_yes ‹_› ‹_›]; done) | (rw [app_yesI ‹¬ (_ ∨ _)› ‹(!_) = false›]; done))
 ·have hq50 : LogOK l := (Classical.not_not.1 (not_or.1 h42).1)
  have hq51 : RecOK r := (Classical.not_not.1 (not_or.1 h42).2)
  have hq52 := log_rng hq50
  have hq53 := rec_rng hq51
  refine W.skip (Ws (Ws (Wr (Q (fA fa35_2 rfl) <| Q (lB sca3 rfl (hm25.lo hk39) rfl) <| Q (r_eq rfl rfl) <| Qn (W.cond_d rfl (fun h55 => ?_) (fun h55 => ?_))))))
  ·refine Ws (Wr (Q (lG agg35 rfl (hm25.lo hk39) rfl) <| Qw (o := 0) (vs := [str l.Durable, str l.Pending, .int .i64 l.Count]) agg35.2 rfl rfl rfl rfl (hb22.lo hk39) ler rfl ?_))
   intro w56 hk57 hs58 hb59
   refine Q (aI rfl) <| Qn (W.ret (retCT rfl rfl agg35 hb59 rfl (v := .int .i64 _) rfl ?_))
   refine ⟨eR (eT2 (eA (eC (eS ?_) (eC (eS ?_) (eC (eI ?_) rfl)))) (eI ?_)), (hB41.new hk57)⟩ <;> (first | (rw [app_bad ‹_›]; done) | (rw [app_full ‹_› ‹_›]; done) | (rw [app_fullI ‹¬ (_ ∨ _)› ‹_ = true›]; done) | (rw [app_yes ‹_› ‹_›]; done) | (rw [app_yesI ‹¬ (_ ∨ _)› ‹(!_) = false›]; done))
  ·refine W.skip (Ws (W.regA (Kp (fun b_ => b_ = g1) w37) (fun f' w' => At f' [(2, .pointer (pA g1)), (4, .pointer (pA g17)), (5, .int .i64 0)] ∧ (Kp (fun b_ => b_ = g1) w37 w') ∧ (Blk w' g1 35 [str l.Durable, str (l.Pending ++ (lineB l.Count r)), .int .i64 l.Count]) ∧ ((lineB l.Count r).length ≤ r.Command.length + r.Reply.length + 46)) mo ?_ ?_))
   ·intro w109 hk110
    have hz111 := hk110.size
    refine AH.via #[true, true, true, true, true, true, true, true, false] 1 (fun f' w' => At f' [(2, .pointer (pA g1)), (4, .pointer (pA g17)), (5, .int .i64 0), (25, str (l.Pending ++ (lineB l.Count r))), (26, .pointer (some ((⟨g1, 0, none⟩ : Addr).add 1)))] ∧ (Kp (fun b_ => b_ = g1) w37 w') ∧ (Blk w' g1 35 [str l.Durable, str l.Pending, .int .i64 l.Count]) ∧ ((lineB l.Count r).length ≤ r.Command.length + r.Reply.length + 46)) ?_ (fun hn113 => ?_)
    ·rintro f114 w115 ⟨hat117, hR116, hm92, hq91⟩
     rw [← sets_of_at hat117]
     have hz118 := hR116.size
     refine Ab 8 rfl (Qw (o := 1) (vs := [str (l.Pending ++ (lineB l.Count r))]) sca9.2 rfl rfl rfl rfl hm92 ler rfl ?_)
     intro w120 hk121 hs122 hb123
     have hS126 := hR116.step hk121 (fun _ _ e => e)
     refine Qn ⟨hS126, _, rfl, (AH.done (by kernel_rfl) (⟨(At.r rfl), hS126, hb123, hq91⟩))⟩
    refine AH.via #[true, true, true, true, true, false, false, false, false] 4 (fun f' w' => At f' [(2, .pointer (pA g1)), (4, .pointer (pA g17)), (5, .int .i64 0), (20, str l.Pending), (22, .int .i64 l.Count), (23, .agg (List.toArray [str r.Command, str r.Reply]))] ∧ (Kp (fun b_ => b_ = g1) w37 w') ∧ (Blk w' g1 35 [str l.Durable, str l.Pending, .int .i64 l.Count])) ?_ (fun hn127 => ?_)
    ·rintro f128 w129 ⟨hat131, hR130, hm85⟩
     rw [← sets_of_at hat131]
     have hz132 := hR130.size
     refine Ab 5 rfl (Qv ent88 (c_spec_l33Line w129 l.Count r (by omega) (by first | omega | (dsimp only; omega) | (dsimp only; simp only [List.length_drop]; omega))) rfl fun w134 hk135 hz136 => ?_)
     have hS138 := hR130.lo hk135
     have hq139 : (lineB l.Count r).length ≤ r.Command.length + r.Reply.length + 46 := line_lenG (k := l.Count) (e := r) (by omega)
     refine Qn ⟨hS138, _, rfl, (Ak 6 rfl hS138 (fun w' hw' => r_cat rfl rfl (by first | omega | (simp only [List.length_append, List.length_cons, List.length_nil, List.length_take, List.length_drop]; omega) | (simp only [List.length_append, List.length_cons, List.length_nil, List.length_take, List.length_drop] at *; omega))) <| Ak 7 rfl hS138 (fun w' hw' => fA fa35_1 rfl) <| AH.goto (by kernel_rfl) rfl (hn113 _ _ (⟨(At.r rfl), hS138, (hm85.lo hk135), hq139⟩)))⟩
    refine Ak 0 rfl (kr hk110) (fun w' hw' => fA fa35_1 rfl) <| Ak 2 rfl (kr hk110) (fun w' hw' => fA fa35_2 rfl) <| Ak 4 rfl (kr hk110) (fun w' hw' => r_lda (l := [str r.Command, str r.Reply]) agg71 rfl (fun _ _ hu => (((hb14.lo hk20).lo hk39).kn hw' (by omega)).cell hu) rfl) <| AH.br [1, 3] (by kernel_rfl) rfl ⟨Br.mk' rfl trivial ?_, Br.mk' rfl trivial ?_, trivial⟩
    ·refine Q (lB sca9 rfl ((hm25.lo hk39).lo hk110) rfl) (Qn ⟨(Kp.refl w37).lo hk110, _, rfl, (Ab 3 rfl (Q (lB sca3 rfl ((hm25.lo hk39).lo hk110) rfl) (Qn ⟨(Kp.refl w37).lo hk110, _, rfl, (AH.goto (by kernel_rfl) rfl (hn127 _ _ (⟨(At.r rfl), (Kp.refl w37).lo hk110, ((hm25.lo hk39).lo hk110)⟩)))⟩)))⟩)
    ·refine Q (lB sca3 rfl ((hm25.lo hk39).lo hk110) rfl) (Qn ⟨(Kp.refl w37).lo hk110, _, rfl, (AH.br [1, 5] (by kernel_rfl) rfl ⟨Br.mk' rfl trivial ?_, Br.mk' rfl trivial ?_, trivial⟩)⟩)
     ·refine Q (lB sca9 rfl ((hm25.lo hk39).lo hk110) rfl) (Qn ⟨(Kp.refl w37).lo hk110, _, rfl, (AH.goto (by kernel_rfl) rfl (hn127 _ _ (⟨(At.r rfl), (Kp.refl w37).lo hk110, ((hm25.lo hk39).lo hk110)⟩)))⟩)
     ·refine Qv ent88 (c_spec_l33Line w109 l.Count r (by omega) (by first | omega | (dsimp only; omega) | (dsimp only; simp only [List.length_drop]; omega))) rfl fun w140 hk141 hz142 => ?_
      have hS144 := ((Kp.refl w37 : Kp (fun b_ => b_ = g1) w37 w37).lo hk110).lo hk141
      have hq145 : (lineB l.Count r).length ≤ r.Command.length + r.Reply.length + 46 := line_lenG (k := l.Count) (e := r) (by omega)
      refine Qn ⟨hS144, _, rfl, (Ab 1 rfl (Q (lB sca9 rfl (((hm25.lo hk39).lo hk110).lo hk141) rfl) (Qn ⟨hS144, _, rfl, (Ak 6 rfl hS144 (fun w' hw' => r_cat rfl rfl (by first | omega | (simp only [List.length_append, List.length_cons, List.length_nil, List.length_take, List.length_drop]; omega) | (simp only [List.length_append, List.length_cons, List.length_nil, List.length_take, List.length_drop] at *; omega))) <| Ak 7 rfl hS144 (fun w' hw' => fA fa35_1 rfl) <| AH.goto (by kernel_rfl) rfl (hn113 _ _ (⟨(At.r rfl), hS144, (((hm25.lo hk39).lo hk110).lo hk141), hq145⟩)))⟩)))⟩
   rintro f146 w147 ⟨hat149, hR148, hm100, hq91⟩
   rw [← sets_of_at hat149]
   have hz150 := hR148.size
   refine Ws ?_
   have hm152 := (hb22.lo hk39).kn hR148 (by omega)
   refine Wr (Q (fA fa35_2 rfl) <| Q (lB sca3 rfl hm100 rfl) <| Q (r_add rfl rfl (by omega)) <| Q (fA fa35_2 rfl) <| Qw (o := 2) (vs := [.int .i64 (l.Count + 1)]) sca3.2 rfl rfl rfl rfl hm100 ler rfl ?_)
   intro w153 hk154 hs155 hb156
   refine Qn (Ws (Wr (Q (lG agg35 rfl hb156 rfl) <| Qw (o := 0) (vs := [str l.Durable, str (l.Pending ++ (lineB l.Count r)), .int .i64 (l.Count + 1)]) agg35.2 rfl rfl rfl rfl (hm152.kn hk154) ler rfl ?_)))
   intro w159 hk160 hs161 hb162
   refine Q (aI rfl) <| Qn (W.ret (retCT rfl rfl agg35 hb162 rfl (v := .int .i64 _) rfl ?_))
   refine ⟨eR (eT2 (eA (eC (eS ?_) (eC (eS ?_) (eC (eI ?_) rfl)))) (eI ?_)), (((hB41.new hR148 (by omega)).new hk154).new hk160)⟩ <;> (first | (rw [app_bad ‹_›]; done) | (rw [app_full ‹_› ‹_›]; done) | (rw [app_fullI ‹¬ (_ ∨ _)› ‹_ = true›]; done) | (rw [app_yes ‹_› ‹_›]; done) | (rw [app_yesI ‹¬ (_ ∨ _)› ‹(!_) = false›]; done))
theorem c_impl_isId (w : World) (n : Int) : Calls Tryz.prog 122 #[.int .i64 n] w fun e w' => e = .returned (.bool (decide (1 ≤ n ∧ n ≤ 999))) ∧ Lo w w' := by
 refine calls_W 5 Tryz.func122 rfl rfl rfl (Ws (Wr (Q (aB rfl) <| Qn (Ws (Wr (Q (mI rfl) <| Qv ent66 (c_impl_within w n 1 999) rfl fun w1 hk2 hz3 => (Q (aB rfl) <| Qn (W.ret (ret1 rfl (v := .bool _) rfl (⟨eR rfl, ((Lo.refl w).lo hk2)⟩))))))))))
theorem c_impl_isMapId (w : World) (n : Int) : Calls Tryz.prog 120 #[.int .i64 n] w fun e w' => e = .returned (.bool (decide (1 ≤ n ∧ n ≤ 99))) ∧ Lo w w' := by
 refine calls_W 5 Tryz.func120 rfl rfl rfl (Ws (Wr (Q (aB rfl) <| Qn (Ws (Wr (Q (mI rfl) <| Qv ent66 (c_impl_within w n 1 99) rfl fun w1 hk2 hz3 => (Q (aB rfl) <| Qn (W.ret (ret1 rfl (v := .bool _) rfl (⟨eR rfl, ((Lo.refl w).lo hk2)⟩))))))))))
theorem c_impl_isSum (w : World) (n : Int) : Calls Tryz.prog 124 #[.int .i64 n] w fun e w' => e = .returned (.bool (decide (0 ≤ n ∧ n ≤ 9999))) ∧ Lo w w' := by
 refine calls_W 5 Tryz.func124 rfl rfl rfl (Ws (Wr (Q (aB rfl) <| Qn (Ws (Wr (Q (mI rfl) <| Qv ent66 (c_impl_within w n 0 9999) rfl fun w1 hk2 hz3 => (Q (aB rfl) <| Qn (W.ret (ret1 rfl (v := .bool _) rfl (⟨eR rfl, ((Lo.refl w).lo hk2)⟩))))))))))
theorem c_spec_l32Count (w : World) (n : Int) : Calls Tryz.prog 131 #[.int .i64 n] w fun e w' => e = .returned (.bool (decide (0 ≤ n ∧ n ≤ 9999))) ∧ Lo w w' := by
 refine calls_W 5 Tryz.func131 rfl rfl rfl (Ws (Wr (Q (aB rfl) <| Qn (Ws (Wr (Q (mI rfl) <| Qv ent133 (c_spec_l1In w n 0 9999) rfl fun w1 hk2 hz3 => (Q (aB rfl) <| Qn (W.ret (ret1 rfl (v := .bool _) rfl (⟨eR rfl, ((Lo.refl w).lo hk2)⟩))))))))))
theorem c_spec_l1Least (w : World) (a : Int) (b : Int) : Calls Tryz.prog 167 #[.int .i64 a, .int .i64 b] w fun e w' => e = .returned (.int .i64 (min a b)) ∧ Lo w w' := by
 refine calls_W 10 Tryz.func167 rfl rfl rfl (Ws (Wr (Q (aI rfl) <| Qn (Ws (Ws (Wr (Q (mI rfl) <| Q (mI rfl) <| Q (r_lt rfl rfl) <| Qn (W.cond_d rfl (fun h1 => ?_) (fun h1 => ?_)))))))))
 ·refine Ws (Wr (Q (mI rfl) <| Q (aI rfl) <| Qn (W.ret (ret1 rfl (v := .int .i64 _) rfl (⟨eR (eI (by omega)), (Lo.refl w)⟩)))))
 ·refine W.skip (Ws (Wr (Q (mI rfl) <| Q (aI rfl) <| Qn (W.ret (ret1 rfl (v := .int .i64 _) rfl (⟨eR (eI (by omega)), (Lo.refl w)⟩))))))
end Go.Proofs.YtndcchndcghmoaaGreatDoor
namespace Go.Proofs.YtndcchndcghmoaaGreatDoor
open Go Go.RowKit Fw
set_option maxRecDepth 10000
set_option maxHeartbeats 2000000
set_option linter.unusedVariables false
theorem agg102 : TAgg Tryz.prog 102 3 := tG
theorem agg129 : TAgg Tryz.prog 129 2 := tG
theorem ent171 : Ent Tryz.prog 171 := en Tryz.func171
theorem ent172 : Ent Tryz.prog 172 := en Tryz.func172
theorem ent173 : Ent Tryz.prog 173 := en Tryz.func173
theorem ent174 : Ent Tryz.prog 174 := en Tryz.func174
theorem ent196 : Ent Tryz.prog 196 := en Tryz.func196
theorem fa102_0 : FA Tryz.prog 102 0 0 := fun _ _ => by kernel_rfl
theorem fa102_1 : FA Tryz.prog 102 1 1 := fun _ _ => by kernel_rfl
theorem fa102_2 : FA Tryz.prog 102 2 2 := fun _ _ => by kernel_rfl
theorem fa129_0 : FA Tryz.prog 129 0 0 := fun _ _ => by kernel_rfl
theorem fa129_1 : FA Tryz.prog 129 1 1 := fun _ _ => by kernel_rfl
theorem fa34_0 : FA Tryz.prog 34 0 0 := fun _ _ => by kernel_rfl
theorem sca31 : TSca Tryz.prog 31 := tS
theorem tel93 : TEl Tryz.prog 93 3 (.int .i64 0) 1 8 := ⟨by kernel_rfl, by kernel_rfl, rfl, by decide⟩
theorem tsl31 : TSl Tryz.prog 31 102 3 := ⟨by kernel_rfl, fun _ => by kernel_rfl⟩
theorem tsl32 : TSl Tryz.prog 32 129 2 := ⟨by kernel_rfl, fun _ => by kernel_rfl⟩
theorem tsl93 : TSl Tryz.prog 93 3 1 := ⟨by kernel_rfl, fun _ => by kernel_rfl⟩
theorem tz102 : TZ Tryz.prog 102 (.agg (List.toArray [.int .i64 0, .int .i64 0, .int .i64 0])) := fun _ => by kernel_rfl
theorem und183 : Tryz.prog.underlying 183 = some (.int .u64) := by kernel_rfl
theorem und31 : Tryz.prog.underlying 31 = some (.slice 102) := by kernel_rfl
theorem und32 : Tryz.prog.underlying 32 = some (.slice 129) := by kernel_rfl
theorem und93 : Tryz.prog.underlying 93 = some (.slice 3) := by kernel_rfl
theorem c_cmp_isNaN_int_ (w : World) (a : Int) : Calls Tryz.prog 196 #[.int .i64 a] w fun e w' => e = .returned (.bool false) ∧ Lo w w' := by
 refine calls_W 6 Tryz.func196 rfl rfl rfl (Ws (Wr (Q (aB rfl) <| Qn (Ws (Wr (Q (mI rfl) <| Q (mI rfl) <| Q (r_ne_s rfl rfl) <| Q (aB rfl) <| Qn (W.ret (ret1 rfl (v := .bool _) rfl (⟨eR rfl, (Lo.refl w)⟩)))))))))
theorem z_c_cmp_Compare_int__10 (a : Int) (b : Int) (h9 : a < b) : (-1) = cmpI a b := by
 unfold cmpI; split <;> (try split) <;> omega
theorem z_c_cmp_Compare_int__12 (a : Int) (b : Int) (h9 : ¬ (a < b)) (h11 : b < a) : 1 = cmpI a b := by
 unfold cmpI; split <;> (try split) <;> omega
theorem z_c_cmp_Compare_int__13 (a : Int) (b : Int) (h9 : ¬ (a < b)) (h11 : ¬ (b < a)) : 0 = cmpI a b := by
 unfold cmpI; split <;> (try split) <;> omega
theorem c_cmp_Compare_int_ (w : World) (a : Int) (b : Int) : Calls Tryz.prog 173 #[.int .i64 a, .int .i64 b] w fun e w' => e = .returned (.int .i64 (cmpI a b)) ∧ Lo w w' := by
 refine calls_W 20 Tryz.func173 rfl rfl rfl (Ws (Wr (Q (aI rfl) <| Qn (Ws (Wr (Q (mI rfl) <| Qv ent196 (c_cmp_isNaN_int_ w a) rfl fun w1 hk2 hz3 => (Q (aB rfl) <| Qn (Ws (Wr (Q (mI rfl) <| Qv ent196 (c_cmp_isNaN_int_ w1 b) rfl fun w5 hk6 hz7 => ?_))))))))))
 have hB8 := ((Lo.refl w).lo hk2).lo hk6
 refine Q (aB rfl) <| Qn (Ws (Ws (Wr (Q (mB rfl) <| Qn (W.cond_f rfl (W.skip (Ws (Ws (Wr (Q (mB rfl) <| Qn (W.cond_f rfl (W.skip (Ws (Ws (Wr (Q (mI rfl) <| Q (mI rfl) <| Q (r_lt rfl rfl) <| Qn (W.cond_d rfl (fun h9 => ?_) (fun h9 => ?_))))))))))))))))))
 ·refine Ws (Wr (Q (r_as (v := .int .i64 (-1)) rfl) <| Qn (W.ret (ret1 rfl (v := .int .i64 _) rfl (⟨eR (eI (z_c_cmp_Compare_int__10 a b h9)), hB8⟩)))))
 ·refine W.skip (Ws (Ws (Wr (Q (mI rfl) <| Q (mI rfl) <| Q (r_gt rfl rfl) <| Qn (W.cond_d rfl (fun h11 => ?_) (fun h11 => ?_))))))
  ·refine Ws (Wr (Q (aI rfl) <| Qn (W.ret (ret1 rfl (v := .int .i64 _) rfl (⟨eR (eI (z_c_cmp_Compare_int__12 a b h9 h11)), hB8⟩)))))
  ·refine W.skip (Ws (Wr (Q (aI rfl) <| Qn (W.ret (ret1 rfl (v := .int .i64 _) rfl (⟨eR (eI (z_c_cmp_Compare_int__13 a b h9 h11)), hB8⟩))))))
theorem z_c_cmp_Or_int__11 (L : List Int) (nL : Nat) (hbdL : (nL : Int) ≤ 9223372036854775807) (hleL : nL = L.length) (k : Nat) (hi6 : k ≤ nL ∧ ∀ j, j < k → gt L j = 0) (h7 : (k : Int) < (nL : Int)) (hx9 : L[k]? = some (gt L k)) (h10 : (gt L k) = 0) : k + 1 ≤ nL ∧ ∀ j, j < k + 1 → gt L j = 0 := by
 subst hleL
 have hh := ‹k ≤ L.length ∧ ∀ j, j < k → gt L j = 0›
 refine ⟨by omega, fun j hj => ?_⟩
 rcases Nat.lt_or_ge j k with h1 | h1
 ·exact hh.2 j h1
 ·have e : j = k := by omega
  rw [e]; first | assumption | exact Classical.not_not.1 ‹_›
theorem c_cmp_Or_int_ (w : World) {AL : Option Addr} {nL cL BL : Nat}  (L : List Int) (hL : SlR w BL encI 1 AL nL cL L) : Calls Tryz.prog 174 #[.slice AL nL cL] w fun e w' => e = .returned (.int .i64 (orI L)) ∧ Lo w w' := by
 refine calls_W 18 Tryz.func174 rfl rfl rfl ?_
 have hbdL := hL.bound
 have hleL := hL.len
 have hBbL := hL.bd
 refine Ws (Wr (Q (aI rfl) <| Qn (Ws (Wr (Q (aI rfl) <| Qn (Ws (Ws (Wr (Q (mL rfl) <| Q (r_len und93 rfl) <| Q (r_mv (v := .int .i64 0) rfl) <| Qn (W.block (W.loop (σ := Nat) (fun g => [(3, .int .i64 0), (6, .slice AL nL cL), (7, .int .i64 (nL : Int)), (8, .int .i64 (g : Int))]) (fun g w' => (Lo w w') ∧ (SlR w' BL encI 1 AL nL cL L) ∧ (g ≤ nL ∧ ∀ j, j < g → gt L j = 0)) (fun g => nL - g) 0 ?_ ?_ ?_)))))))))))
 ·exact (At.r rfl)
 ·exact ⟨(Lo.refl w), hL, (by exact ⟨Nat.zero_le _, fun _ h => absurd h (by omega)⟩)⟩
 ·rintro k f1 w2 hP4
  obtain ⟨hB3, hm5, hi6⟩ : (Lo w w2) ∧ (SlR w2 BL encI 1 AL nL cL L) ∧ (k ≤ nL ∧ ∀ j, j < k → gt L j = 0) := hP4
  refine (?_ : W _ _ _ _ _ (act _ (sets f1 [(3, .int .i64 0), (6, .slice AL nL cL), (7, .int .i64 (nL : Int)), (8, .int .i64 (k : Int))])) _)
  have hzw2 := hB3.size
  refine Ws (Wr (Q (r_lt rfl rfl) <| Qn (Ws (W.cond_d rfl (fun h7 => ?_) (fun h7 => ?_)))))
  ·refine W.skip (Ws (W.block (Ws ?_)))
   have hx9 := hm5.elem (i := k) (by omega)
   refine Wr (Q (r_ixR tsl93 hm5 rfl rfl (by omega)) <| Q (r_ld (v := .int .i64 (gt L k)) sca3 rfl (hm5.cell0 hx9 rfl)) <| Q (aI rfl) <| Qn (Ws (Wr (Q (mI rfl) <| Q (mI rfl) <| Q (r_ne rfl rfl) <| Qn (W.cond_n rfl (fun h10 => ?_) (fun h10 => ?_))))))
   ·refine Ws (Wr (Q (mI rfl) <| Q (aI rfl) <| Qn (W.ret (ret1 rfl (v := .int .i64 _) rfl (⟨eR (eI (by subst hleL; have hh := ‹k ≤ L.length ∧ ∀ j, j < k → gt L j = 0›; first | exact (orI_at hh.2 (by omega) ‹_›).symm | exact (orI_none fun j hj => hh.2 j (by omega)).symm)), hB3⟩)))))
   ·refine W.skip (Wr (Q (r_add rfl rfl (by omega)) <| Q (mI rfl) <| Qn (⟨k + 1, _, rfl, (At.r rfl), ⟨hB3, hm5, ?_⟩, ?_⟩)))
    ·exact (z_c_cmp_Or_int__11 L nL hbdL hleL k hi6 h7 hx9 h10)
    ·exact (by omega)
  ·refine W.exit (xin_here (Ws (Wr (Q (mI rfl) <| Q (aI rfl) <| Qn (W.ret (ret1 rfl (v := .int .i64 _) rfl (⟨eR (eI (by subst hleL; have hh := ‹k ≤ L.length ∧ ∀ j, j < k → gt L j = 0›; first | exact (orI_at hh.2 (by omega) ‹_›).symm | exact (orI_none fun j hj => hh.2 j (by omega)).symm)), hB3⟩)))))))
theorem c_impl_compareAway (w : World) (p : Away) (q : Away) : Calls Tryz.prog 123 #[.agg (List.toArray (encAway p)), .agg (List.toArray (encAway q))] w fun e w' => e = .returned (.int .i64 (cmpA p q)) ∧ Lo w w' := by
 refine calls_W 17 Tryz.func123 rfl rfl rfl (Ws (Wr (SR.box (v := .agg (List.toArray _)) (l := [.int .i64 p.Map, .int .i64 p.Reader]) rfl rfl ?_)))
 intro g1 w2 hg3 hk4 hs5 hb6
 refine SR.box (v := .agg (List.toArray _)) (l := [.int .i64 q.Map, .int .i64 q.Reader]) rfl rfl ?_
 intro g9 w10 hg11 hk12 hs13 hb14
 refine Q (aI rfl) <| Qn (Ws (W.regA (Lo w10) (fun f' w' => ∃ (g31 : Nat), At f' [(4, .int .i64 (orI ([cmpI p.Map q.Map, cmpI p.Reader q.Reader] : List Int)))] ∧ (Lo w10 w')) mo ?_ ?_))
 ·intro w45 hk46
  have hz47 := hk46.size
  refine Ak 0 rfl hk46 (fun w' hw' => fA fa129_0 rfl) <| Ak 1 rfl hk46 (fun w' hw' => r_ld (v := .int .i64 p.Map) sca3 rfl (((hb6.lo hk12).lo hw').cell rfl)) <| Ak 2 rfl hk46 (fun w' hw' => fA fa129_0 rfl) <| Ak 3 rfl hk46 (fun w' hw' => r_ld (v := .int .i64 q.Map) sca3 rfl ((hb14.lo hw').cell rfl)) <| Ak 5 rfl hk46 (fun w' hw' => fA fa129_1 rfl) <| Ak 6 rfl hk46 (fun w' hw' => r_ld (v := .int .i64 p.Reader) sca3 rfl (((hb6.lo hk12).lo hw').cell rfl)) <| Ak 7 rfl hk46 (fun w' hw' => fA fa129_1 rfl) <| Ak 8 rfl hk46 (fun w' hw' => r_ld (v := .int .i64 q.Reader) sca3 rfl ((hb14.lo hw').cell rfl)) <| Ab 4 rfl (Qv ent173 (c_cmp_Compare_int_ w45 p.Map q.Map) rfl fun w49 hk50 hz51 => ?_)
  have hS53 := hk46.lo hk50
  refine Qn ⟨hS53, _, rfl, (Ab 9 rfl (Qv ent173 (c_cmp_Compare_int_ w49 p.Reader q.Reader) rfl fun w54 hk55 hz56 => ?_))⟩
  have hS58 := hS53.lo hk55
  refine Qn ⟨hS58, _, rfl, (Ab 10 rfl (SR.lit (vs := [.int .i64 (cmpI p.Map q.Map), .int .i64 (cmpI p.Reader q.Reader)]) (L := ([cmpI p.Map q.Map, cmpI p.Reader q.Reader] : List Int)) (enc := encI) tel93 (fun _ => rfl) rfl rfl rfl (by decide) ?_))⟩
  intro g59 w60 hg61 hk62 hO63
  have hz64 := hk62.size
  have hS66 := hS58.lo hk62
  refine Qn ⟨hS66, _, rfl, (Ab 11 rfl (Qv ent174 (c_cmp_Or_int_ w60 ([cmpI p.Map q.Map, cmpI p.Reader q.Reader] : List Int) (hO63.rd)) rfl fun w67 hk68 hz69 => ?_))⟩
  have hS71 := hS66.lo hk68
  refine Qn ⟨hS71, _, rfl, (Ak 12 rfl hS71 (fun w' hw' => r_as (v := .int .i64 _) rfl) <| AH.done (by kernel_rfl) (⟨g59, ⟨rfl, trivial⟩, hS71⟩))⟩
 rintro f72 w73 ⟨g31, hat75, hR74⟩
 rw [← sets_of_at hat75]
 have hz76 := hR74.size
 refine W.ret (ret1 rfl (v := .int .i64 _) rfl (⟨eR (eI (by rfl)), ((((Lo.refl w).lo hk4).lo hk12).lo hR74)⟩))
theorem z_c_slices_BinarySearchFunc___impl_Map_impl_Map_int__15 (L : List LMap) (nL : Nat) (hbdL : (nL : Int) ≤ 9223372036854775807) (hleL : nL = L.length) (t : Int) (c : LMap → Int → Int) (hp0 : (nL : Int) ≤ 1048576) (i : Nat) (j : Nat) (hi6 : i ≤ j ∧ j ≤ nL ∧ bsr (fun x => decide (c x t < 0)) L i j = bsr (fun x => decide (c x t < 0)) L 0 L.length) (h7 : (i : Int) < (j : Int)) (hx9 : L[(((i : Int) + (j : Int)) / 2).toNat]? = some (gt L ((((i : Int) + (j : Int)) / 2).toNat))) (h14 : (c (gt L ((((i : Int) + (j : Int)) / 2).toNat)) t) < 0) : (i + j) / 2 + 1 ≤ j ∧ j ≤ nL ∧ bsr (fun x => decide (c x t < 0)) L ((i + j) / 2 + 1) j = bsr (fun x => decide (c x t < 0)) L 0 L.length := by
 subst hleL
 have hh := ‹_ ∧ _ ∧ bsr _ _ _ _ = _›
 have hd : (((i : Int) + (j : Int)) / 2).toNat = (i + j) / 2 := by omega
 simp only [hd] at *
 first | exact ⟨by omega, by omega, (bsr_lo (p := fun x => decide (c x t < 0)) (by omega) (decide_eq_true ‹c _ t < 0›)).trans hh.2.2⟩ | exact ⟨by omega, by omega, (bsr_hi (p := fun x => decide (c x t < 0)) (by omega) (decide_eq_false ‹¬ c _ t < 0›)).trans hh.2.2⟩
theorem z_c_slices_BinarySearchFunc___impl_Map_impl_Map_int__16 (L : List LMap) (nL : Nat) (hbdL : (nL : Int) ≤ 9223372036854775807) (hleL : nL = L.length) (t : Int) (c : LMap → Int → Int) (hp0 : (nL : Int) ≤ 1048576) (i : Nat) (j : Nat) (hi6 : i ≤ j ∧ j ≤ nL ∧ bsr (fun x => decide (c x t < 0)) L i j = bsr (fun x => decide (c x t < 0)) L 0 L.length) (h7 : (i : Int) < (j : Int)) (hx9 : L[(((i : Int) + (j : Int)) / 2).toNat]? = some (gt L ((((i : Int) + (j : Int)) / 2).toNat))) (h14 : ¬ ((c (gt L ((((i : Int) + (j : Int)) / 2).toNat)) t) < 0)) : i ≤ (i + j) / 2 ∧ (i + j) / 2 ≤ nL ∧ bsr (fun x => decide (c x t < 0)) L i ((i + j) / 2) = bsr (fun x => decide (c x t < 0)) L 0 L.length := by
 subst hleL
 have hh := ‹_ ∧ _ ∧ bsr _ _ _ _ = _›
 have hd : (((i : Int) + (j : Int)) / 2).toNat = (i + j) / 2 := by omega
 simp only [hd] at *
 first | exact ⟨by omega, by omega, (bsr_lo (p := fun x => decide (c x t < 0)) (by omega) (decide_eq_true ‹c _ t < 0›)).trans hh.2.2⟩ | exact ⟨by omega, by omega, (bsr_hi (p := fun x => decide (c x t < 0)) (by omega) (decide_eq_false ‹¬ c _ t < 0›)).trans hh.2.2⟩
theorem c_slices_BinarySearchFunc___impl_Map_impl_Map_int_ (w : World) {AL : Option Addr} {nL cL BL : Nat}  (L : List LMap) (hL : SlR w BL encLMap 3 AL nL cL L) (t : Int) {kc : Nat} {capc : List Value} (c : LMap → Int → Int) (hc : Fnc2 Tryz.prog w kc capc (fun x => .agg (List.toArray (encLMap x))) (fun x => .int .i64 x) c) (hp0 : (nL : Int) ≤ 1048576) : Calls Tryz.prog 171 #[.slice AL nL cL, .int .i64 t, .func (.func kc) #[] (List.toArray capc)] w fun e w' => e = .returned (.tuple (List.toArray [.int .i64 (bsP c t L : Int), .bool (decide (bsF c t L))])) ∧ Lo w w' := by
 refine calls_W 49 Tryz.func171 rfl rfl rfl ?_
 have hbdL := hL.bound
 have hleL := hL.len
 have hBbL := hL.bd
 refine Ws (Wr (Q (aI rfl) <| Q (aB rfl) <| Qn (Ws (Wr (Q (mL rfl) <| Q (r_len und31 rfl) <| Q (aI rfl) <| Qn (Ws (Wr (Q (mI rfl) <| Q (aI rfl) <| Q (aI rfl) <| Qn (Ws (W.block (W.loop (σ := Nat × Nat) (fun g => [(0, .slice AL nL cL), (1, .int .i64 t), (2, .func (.func kc) #[] (List.toArray capc)), (6, .int .i64 0), (7, .bool false), (8, .int .i64 (nL : Int)), (9, .int .i64 (g.1 : Int)), (10, .int .i64 (g.2 : Int))]) (fun g w' => (Lo w w') ∧ (SlR w' BL encLMap 3 AL nL cL L) ∧ (g.1 ≤ g.2 ∧ g.2 ≤ nL ∧ bsr (fun x => decide (c x t < 0)) L g.1 g.2 = bsr (fun x => decide (c x t < 0)) L 0 L.length)) (fun g => g.2 - g.1) (0, nL) ?_ ?_ ?_)))))))))))
 ·exact ⟨rfl, rfl, rfl, rfl, rfl, rfl, (eI (by first | omega | (dsimp only; omega))), rfl, trivial⟩
 ·exact ⟨(Lo.refl w), hL, (by (try dsimp only); subst hleL; exact ⟨by omega, by omega, rfl⟩)⟩
 ·rintro ⟨i, j⟩ f1 w2 hP4
  obtain ⟨hB3, hm5, hi6⟩ : (Lo w w2) ∧ (SlR w2 BL encLMap 3 AL nL cL L) ∧ (i ≤ j ∧ j ≤ nL ∧ bsr (fun x => decide (c x t < 0)) L i j = bsr (fun x => decide (c x t < 0)) L 0 L.length) := hP4
  refine (?_ : W _ _ _ _ _ (act _ (sets f1 [(0, .slice AL nL cL), (1, .int .i64 t), (2, .func (.func kc) #[] (List.toArray capc)), (6, .int .i64 0), (7, .bool false), (8, .int .i64 (nL : Int)), (9, .int .i64 (i : Int)), (10, .int .i64 (j : Int))])) _)
  have hzw2 := hB3.size
  refine Ws (Ws (Wr (Q (mI rfl) <| Q (mI rfl) <| Q (r_lt rfl rfl) <| Qn (W.cond_d rfl (fun h7 => ?_) (fun h7 => ?_)))))
  ·refine W.skip (W.block (Ws (Wr (Q (mI rfl) <| Q (mI rfl) <| Q (r_add rfl rfl (by omega)) <| Q (r_convU und183 und3 rfl (by omega)) <| Q (r_half rfl rfl (by omega)) <| Q (r_convI und3 und183 rfl (by omega)) <| Q (aI rfl) <| Qn (Ws (Wr (Q (r_mv (v := .func _ #[] (List.toArray _)) rfl) <| Q (mL rfl) <| Q (mI rfl) <| ?_)))))))
   have hx9 := hm5.elem (i := (((i : Int) + (j : Int)) / 2).toNat) (by omega)
   refine Q (r_ixR tsl31 hm5 rfl rfl (by omega)) <| Q (r_lda (l := encLMap (gt L ((((i : Int) + (j : Int)) / 2).toNat))) agg102 rfl (fun _ _ hu => hm5.cell hx9 hu) (hm5.esz _)) <| Q (mI rfl) <| SR.callv hc.1 rfl (hc.2 _ hB3 (gt L ((((i : Int) + (j : Int)) / 2).toNat)) t) rfl ?_
   rintro e w10 ⟨rfl, hk11⟩
   refine ⟨_, rfl, ?_⟩
   have hz12 := hk11.size
   have hB13 := hB3.lo hk11
   refine Q (r_lt rfl rfl) <| Qn (W.cond_d rfl (fun h14 => ?_) (fun h14 => ?_))
   ·refine Wr (Q (mI rfl) <| Q (r_add rfl rfl (by omega)) <| Q (aI rfl) <| Qn (⟨((i + j) / 2 + 1, j), _, rfl, ⟨rfl, rfl, rfl, rfl, rfl, rfl, (eI (by first | omega | (dsimp only; omega))), rfl, trivial⟩, ⟨hB13, hm5.lo hk11, ?_⟩, ?_⟩))
    ·exact (z_c_slices_BinarySearchFunc___impl_Map_impl_Map_int__15 L nL hbdL hleL t c hp0 i j hi6 h7 hx9 h14)
    ·exact (by (try dsimp only); omega)
   ·refine Wr (Q (mI rfl) <| Q (aI rfl) <| Qn (⟨(i, (i + j) / 2), _, rfl, ⟨rfl, rfl, rfl, rfl, rfl, rfl, rfl, (eI (by first | omega | (dsimp only; omega))), trivial⟩, ⟨hB13, hm5.lo hk11, ?_⟩, ?_⟩))
    ·exact (z_c_slices_BinarySearchFunc___impl_Map_impl_Map_int__16 L nL hbdL hleL t c hp0 i j hi6 h7 hx9 h14)
    ·exact (by (try dsimp only); omega)
  ·refine W.exit (xin_here (Ws (W.regJS (fun f' w' => At f' [(6, .int .i64 (i : Int)), (7, .bool (decide (((i : Int) < (nL : Int)) ∧ ((c (gt L i) t) = 0))))] ∧ Lo w2 w') ?_ ?_)))
   ·refine Q (mI rfl) <| Q (mI rfl) <| Q (mI rfl) <| Q (r_lt rfl rfl) <| Q (mB rfl) <| SR.splitD (fun h17 => ?_) (fun h17 => ?_)
    ·refine Qg rfl (r_mv (v := .func _ #[] (List.toArray _)) rfl) <| Qg rfl (mL rfl) <| Qg rfl (mI rfl) <| ?_
     have hx19 := hm5.elem (i := i) (by omega)
     refine Qg rfl (r_ixR tsl31 hm5 rfl rfl (by omega)) <| Qg rfl (r_lda (l := encLMap (gt L i)) agg102 rfl (fun _ _ hu => hm5.cell hx19 hu) (hm5.esz _)) <| Qg rfl (mI rfl) <| SR.gcallv rfl hc.1 rfl (hc.2 _ hB3 (gt L i) t) rfl ?_
     rintro e w20 ⟨rfl, hk21⟩
     refine ⟨_, rfl, ?_⟩
     have hz22 := hk21.size
     refine Qg rfl (r_eq rfl rfl) <| Q (r_pick true rfl (v := .bool _) rfl) <| Q (aI rfl) <| Q (aB rfl) <| Qn (⟨_, rfl, ⟨⟨rfl, (eDD (jat h17)), trivial⟩, hk21⟩⟩)
    ·refine Qs rfl <| Qs rfl <| Qs rfl <| Qs rfl <| Qs rfl <| Qs rfl <| Qs rfl <| Qs rfl <| Q (r_pick false rfl (v := .bool false) rfl) <| Q (aI rfl) <| Q (aB rfl) <| Qn (⟨_, rfl, ⟨⟨rfl, (eDF (jaf h17).2), trivial⟩, (Lo.refl _)⟩⟩)
   rintro f24 w25 ⟨hat26, hk27⟩
   rw [← sets_of_at hat26]
   have hz28 := hk27.size
   refine W.ret (ret2 rfl (v := .int .i64 _) (v' := .bool _) rfl rfl (⟨eR (eT2 (eI (by subst hleL; have hh := ‹_ ∧ _ ∧ bsr _ _ _ _ = _›; unfold bsP; rw [← hh.2.2, bsr_end (by omega)])) (eDD (by subst hleL; have hh := ‹_ ∧ _ ∧ bsr _ _ _ _ = _›; have e : bsP c t L = i := (by unfold bsP; rw [← hh.2.2, bsr_end (by omega)]); unfold bsF; rw [e]))), (hB3.lo hk27)⟩))
theorem z_c_slices_BinarySearchFunc___impl_Away_impl_Away_impl_Away__25 (L : List Away) (nL : Nat) (hbdL : (nL : Int) ≤ 9223372036854775807) (hleL : nL = L.length) (t : Away) (c : Away → Away → Int) (hp0 : (nL : Int) ≤ 1048576) (i : Nat) (j : Nat) (hi15 : i ≤ j ∧ j ≤ nL ∧ bsr (fun x => decide (c x t < 0)) L i j = bsr (fun x => decide (c x t < 0)) L 0 L.length) (h17 : (i : Int) < (j : Int)) (hx19 : L[(((i : Int) + (j : Int)) / 2).toNat]? = some (gt L ((((i : Int) + (j : Int)) / 2).toNat))) (h24 : (c (gt L ((((i : Int) + (j : Int)) / 2).toNat)) t) < 0) : (i + j) / 2 + 1 ≤ j ∧ j ≤ nL ∧ bsr (fun x => decide (c x t < 0)) L ((i + j) / 2 + 1) j = bsr (fun x => decide (c x t < 0)) L 0 L.length := by
 subst hleL
 have hh := ‹_ ∧ _ ∧ bsr _ _ _ _ = _›
 have hd : (((i : Int) + (j : Int)) / 2).toNat = (i + j) / 2 := by omega
 simp only [hd] at *
 first | exact ⟨by omega, by omega, (bsr_lo (p := fun x => decide (c x t < 0)) (by omega) (decide_eq_true ‹c _ t < 0›)).trans hh.2.2⟩ | exact ⟨by omega, by omega, (bsr_hi (p := fun x => decide (c x t < 0)) (by omega) (decide_eq_false ‹¬ c _ t < 0›)).trans hh.2.2⟩
theorem z_c_slices_BinarySearchFunc___impl_Away_impl_Away_impl_Away__26 (L : List Away) (nL : Nat) (hbdL : (nL : Int) ≤ 9223372036854775807) (hleL : nL = L.length) (t : Away) (c : Away → Away → Int) (hp0 : (nL : Int) ≤ 1048576) (i : Nat) (j : Nat) (hi15 : i ≤ j ∧ j ≤ nL ∧ bsr (fun x => decide (c x t < 0)) L i j = bsr (fun x => decide (c x t < 0)) L 0 L.length) (h17 : (i : Int) < (j : Int)) (hx19 : L[(((i : Int) + (j : Int)) / 2).toNat]? = some (gt L ((((i : Int) + (j : Int)) / 2).toNat))) (h24 : ¬ ((c (gt L ((((i : Int) + (j : Int)) / 2).toNat)) t) < 0)) : i ≤ (i + j) / 2 ∧ (i + j) / 2 ≤ nL ∧ bsr (fun x => decide (c x t < 0)) L i ((i + j) / 2) = bsr (fun x => decide (c x t < 0)) L 0 L.length := by
 subst hleL
 have hh := ‹_ ∧ _ ∧ bsr _ _ _ _ = _›
 have hd : (((i : Int) + (j : Int)) / 2).toNat = (i + j) / 2 := by omega
 simp only [hd] at *
 first | exact ⟨by omega, by omega, (bsr_lo (p := fun x => decide (c x t < 0)) (by omega) (decide_eq_true ‹c _ t < 0›)).trans hh.2.2⟩ | exact ⟨by omega, by omega, (bsr_hi (p := fun x => decide (c x t < 0)) (by omega) (decide_eq_false ‹¬ c _ t < 0›)).trans hh.2.2⟩
theorem c_slices_BinarySearchFunc___impl_Away_impl_Away_impl_Away_ (w : World) {AL : Option Addr} {nL cL BL : Nat}  (L : List Away) (hL : SlR w BL encAway 2 AL nL cL L) (t : Away) {kc : Nat} {capc : List Value} (c : Away → Away → Int) (hc : Fnc2 Tryz.prog w kc capc (fun x => .agg (List.toArray (encAway x))) (fun x => .agg (List.toArray (encAway x))) c) (hp0 : (nL : Int) ≤ 1048576) : Calls Tryz.prog 227 #[.slice AL nL cL, .agg (List.toArray (encAway t)), .func (.func kc) #[] (List.toArray capc)] w fun e w' => e = .returned (.tuple (List.toArray [.int .i64 (bsP c t L : Int), .bool (decide (bsF c t L))])) ∧ Lo w w' := by
 refine calls_W 49 Tryz.func227 rfl rfl rfl ?_
 have hbdL := hL.bound
 have hleL := hL.len
 have hBbL := hL.bd
 refine Ws (Wr (SR.box (v := .agg (List.toArray _)) (l := [.int .i64 t.Map, .int .i64 t.Reader]) rfl rfl ?_))
 intro g1 w2 hg3 hk4 hs5 hb6
 refine Q (aI rfl) <| Q (aB rfl) <| Qn (Ws (Wr (Q (mL rfl) <| Q (r_len und32 rfl) <| Q (aI rfl) <| Qn (Ws (Wr (Q (mI rfl) <| Q (aI rfl) <| Q (aI rfl) <| Qn (Ws (W.block (W.loop (σ := Nat × Nat) (fun g => [(0, .slice AL nL cL), (2, .func (.func kc) #[] (List.toArray capc)), (4, .pointer (pA g1)), (6, .int .i64 0), (7, .bool false), (8, .int .i64 (nL : Int)), (9, .int .i64 (g.1 : Int)), (10, .int .i64 (g.2 : Int))]) (fun g w' => (Lo w w') ∧ (SlR w' BL encAway 2 AL nL cL L) ∧ (Blk w' g1 129 [.int .i64 t.Map, .int .i64 t.Reader]) ∧ (g.1 ≤ g.2 ∧ g.2 ≤ nL ∧ bsr (fun x => decide (c x t < 0)) L g.1 g.2 = bsr (fun x => decide (c x t < 0)) L 0 L.length)) (fun g => g.2 - g.1) (0, nL) ?_ ?_ ?_)))))))))
 ·exact ⟨rfl, rfl, rfl, rfl, rfl, rfl, (eI (by first | omega | (dsimp only; omega))), rfl, trivial⟩
 ·exact ⟨((Lo.refl w).lo hk4), hL.lo hk4, hb6, (by (try dsimp only); subst hleL; exact ⟨by omega, by omega, rfl⟩)⟩
 ·rintro ⟨i, j⟩ f9 w10 hP12
  obtain ⟨hB11, hm13, hm14, hi15⟩ : (Lo w w10) ∧ (SlR w10 BL encAway 2 AL nL cL L) ∧ (Blk w10 g1 129 [.int .i64 t.Map, .int .i64 t.Reader]) ∧ (i ≤ j ∧ j ≤ nL ∧ bsr (fun x => decide (c x t < 0)) L i j = bsr (fun x => decide (c x t < 0)) L 0 L.length) := hP12
  refine (?_ : W _ _ _ _ _ (act _ (sets f9 [(0, .slice AL nL cL), (2, .func (.func kc) #[] (List.toArray capc)), (4, .pointer (pA g1)), (6, .int .i64 0), (7, .bool false), (8, .int .i64 (nL : Int)), (9, .int .i64 (i : Int)), (10, .int .i64 (j : Int))])) _)
  have hzw10 := hB11.size
  have hl16 := hm14.lt
  refine Ws (Ws (Wr (Q (mI rfl) <| Q (mI rfl) <| Q (r_lt rfl rfl) <| Qn (W.cond_d rfl (fun h17 => ?_) (fun h17 => ?_)))))
  ·refine W.skip (W.block (Ws (Wr (Q (mI rfl) <| Q (mI rfl) <| Q (r_add rfl rfl (by omega)) <| Q (r_convU und183 und3 rfl (by omega)) <| Q (r_half rfl rfl (by omega)) <| Q (r_convI und3 und183 rfl (by omega)) <| Q (aI rfl) <| Qn (Ws (W.regD mo (by kernel_rfl) (QR.q' (fun w' hw' => r_mv (v := .func _ #[] (List.toArray _)) rfl) <| QR.q' (fun w' hw' => r_mv (v := .slice _ _ _) rfl) <| QR.q' (fun w' hw' => r_mv (v := .int .i64 _) rfl) <| ?_)))))))
   have hx19 := hm13.elem (i := (((i : Int) + (j : Int)) / 2).toNat) (by omega)
   refine QR.q' (fun w' hw' => r_ixR tsl32 (hm13.lo hw') rfl rfl (by omega)) <| QR.q' (fun w' hw' => r_lda (l := encAway (gt L ((((i : Int) + (j : Int)) / 2).toNat))) agg129 rfl (fun _ _ hu => (hm13.lo hw').cell hx19 hu) ((hm13.lo hw').esz _)) <| QR.q' (fun w' hw' => r_lda (l := [.int .i64 t.Map, .int .i64 t.Reader]) agg129 rfl (fun _ _ hu => (hm14.lo hw').cell hu) rfl) <| QR.callv hc.1 rfl (fun w' hw' => (hc.2 _ (hB11.lo hw') (gt L ((((i : Int) + (j : Int)) / 2).toNat)) t).mono fun _ _ h => ⟨h.1, hw'.trans h.2⟩) rfl <| QR.q' (fun w' hw' => r_lt rfl rfl) <| QR.nil ?_
   intro w20 hk21
   have hz22 := hk21.size
   have hB23 := hB11.lo hk21
   refine W.cond_d rfl (fun h24 => ?_) (fun h24 => ?_)
   ·refine Wr (Q (mI rfl) <| Q (r_add rfl rfl (by omega)) <| Q (aI rfl) <| Qn (⟨((i + j) / 2 + 1, j), _, rfl, ⟨rfl, rfl, rfl, rfl, rfl, rfl, (eI (by first | omega | (dsimp only; omega))), rfl, trivial⟩, ⟨hB23, hm13.lo hk21, hm14.lo hk21, ?_⟩, ?_⟩))
    ·exact (z_c_slices_BinarySearchFunc___impl_Away_impl_Away_impl_Away__25 L nL hbdL hleL t c hp0 i j hi15 h17 hx19 h24)
    ·exact (by (try dsimp only); omega)
   ·refine Wr (Q (mI rfl) <| Q (aI rfl) <| Qn (⟨(i, (i + j) / 2), _, rfl, ⟨rfl, rfl, rfl, rfl, rfl, rfl, rfl, (eI (by first | omega | (dsimp only; omega))), trivial⟩, ⟨hB23, hm13.lo hk21, hm14.lo hk21, ?_⟩, ?_⟩))
    ·exact (z_c_slices_BinarySearchFunc___impl_Away_impl_Away_impl_Away__26 L nL hbdL hleL t c hp0 i j hi15 h17 hx19 h24)
    ·exact (by (try dsimp only); omega)
  ·refine W.exit (xin_here (Ws (W.regJD mo (by kernel_rfl) (fun f' w' => At f' [(6, .int .i64 (i : Int)), (7, .bool (decide (((i : Int) < (nL : Int)) ∧ ((c (gt L i) t) = 0))))] ∧ Lo w10 w') ?_ ?_)))
   ·refine QR.q' (fun w' hw' => r_mv (v := .int .i64 _) rfl) <| QR.q' (fun w' hw' => r_mv (v := .int .i64 _) rfl) <| QR.q' (fun w' hw' => r_mv (v := .int .i64 _) rfl) <| QR.q' (fun w' hw' => r_lt rfl rfl) <| QR.q' (fun w' hw' => r_mv (v := .bool _) rfl) <| QR.splitD (fun h27 => ?_) (fun h27 => ?_)
    ·refine QR.g' rfl (fun w' hw' => r_mv (v := .func _ #[] (List.toArray _)) rfl) <| QR.g' rfl (fun w' hw' => r_mv (v := .slice _ _ _) rfl) <| QR.g' rfl (fun w' hw' => r_mv (v := .int .i64 _) rfl) <| ?_
     have hx29 := hm13.elem (i := i) (by omega)
     refine QR.g' rfl (fun w' hw' => r_ixR tsl32 (hm13.lo hw') rfl rfl (by omega)) <| QR.g' rfl (fun w' hw' => r_lda (l := encAway (gt L i)) agg129 rfl (fun _ _ hu => (hm13.lo hw').cell hx29 hu) ((hm13.lo hw').esz _)) <| QR.g' rfl (fun w' hw' => r_lda (l := [.int .i64 t.Map, .int .i64 t.Reader]) agg129 rfl (fun _ _ hu => (hm14.lo hw').cell hu) rfl) <| QR.gcallv rfl hc.1 rfl (fun w' hw' => (hc.2 _ (hB11.lo hw') (gt L i) t).mono fun _ _ h => ⟨h.1, hw'.trans h.2⟩) rfl <| QR.g' rfl (fun w' hw' => r_eq rfl rfl) <| QR.q' (fun w' hw' => r_pick true rfl (v := .bool _) rfl) <| QR.q' (fun w' hw' => r_as (v := .int .i64 _) rfl) <| QR.q' (fun w' hw' => r_as (v := .bool _) rfl) <| QR.nil ?_
     intro w30 hk31
     exact ⟨⟨rfl, (eDD (jat h27)), trivial⟩, hk31⟩
    ·refine QR.s' rfl <| QR.s' rfl <| QR.s' rfl <| QR.s' rfl <| QR.s' rfl <| QR.s' rfl <| QR.s' rfl <| QR.s' rfl <| QR.q' (fun w' hw' => r_pick false rfl (v := .bool false) rfl) <| QR.q' (fun w' hw' => r_as (v := .int .i64 _) rfl) <| QR.q' (fun w' hw' => r_as (v := .bool _) rfl) <| QR.nil ?_
     intro w32 hk33
     exact ⟨⟨rfl, (eDF (jaf h27).2), trivial⟩, hk33⟩
   rintro f34 w35 ⟨hat36, hk37⟩
   rw [← sets_of_at hat36]
   have hz38 := hk37.size
   refine W.ret (ret2 rfl (v := .int .i64 _) (v' := .bool _) rfl rfl (⟨eR (eT2 (eI (by subst hleL; have hh := ‹_ ∧ _ ∧ bsr _ _ _ _ = _›; unfold bsP; rw [← hh.2.2, bsr_end (by omega)])) (eDD (by subst hleL; have hh := ‹_ ∧ _ ∧ bsr _ _ _ _ = _›; have e : bsP c t L = i := (by unfold bsP; rw [← hh.2.2, bsr_end (by omega)]); unfold bsF; rw [e]))), (hB11.lo hk37)⟩))
theorem c__impl_Library__mapAt_1 (w : World) (m : LMap) (i : Int) : Calls Tryz.prog 172 #[.agg (List.toArray (encLMap m)), .int .i64 i] w fun e w' => e = .returned (.int .i64 (cmpM m i)) ∧ Lo w w' := by
 refine calls_W 9 Tryz.func172 rfl rfl rfl (Ws (Wr (SR.box (v := .agg (List.toArray _)) (l := [.int .i64 m.Id, .int .i64 m.Copies, .int .i64 m.Torn]) rfl rfl ?_)))
 intro g1 w2 hg3 hk4 hs5 hb6
 refine Q (aI rfl) <| Qn (Ws (Wr (Q (fA fa102_0 rfl) <| Q (lB sca3 rfl hb6 rfl) <| Q (mI rfl) <| Qv ent173 (c_cmp_Compare_int_ w2 m.Id i) rfl fun w9 hk10 hz11 => (Q (aI rfl) <| Qn (W.ret (ret1 rfl (v := .int .i64 _) rfl (⟨eR (eI (by rfl)), (((Lo.refl w).lo hk4).lo hk10)⟩)))))))
theorem c__impl_Library__mapAt (w : World) (x : Library) {Ax1 : Option Addr} {nx1 cx1 Bx1 : Nat} (hx1 : SlR w Bx1 encLMap 3 Ax1 nx1 cx1 x.Maps) {Ax2 : Option Addr} {nx2 cx2 Bx2 : Nat} (hx2 : SlR w Bx2 encAway 2 Ax2 nx2 cx2 x.Away) (id : Int) (hp0 : (nx1 : Int) ≤ 1048576) : Calls Tryz.prog 121 #[.agg (List.toArray (cLb Ax1 nx1 cx1 Ax2 nx2 cx2 x)), .int .i64 id] w fun e w' => e = .returned (.tuple (List.toArray [.int .i64 (bsP cmpM id x.Maps : Int), .bool (decide (bsF cmpM id x.Maps))])) ∧ Lo w w' := by
 refine calls_W 12 Tryz.func121 rfl rfl rfl ?_
 have hbdx1 := hx1.bound
 have hlex1 := hx1.len
 have hBbx1 := hx1.bd
 have hbdx2 := hx2.bound
 have hlex2 := hx2.len
 have hBbx2 := hx2.bd
 refine Ws (Wr (SR.box (v := .agg (List.toArray _)) (l := (cLb Ax1 nx1 cx1 Ax2 nx2 cx2 x)) rfl rfl ?_))
 intro g1 w2 hg3 hk4 hs5 hb6
 refine Q (aI rfl) <| Q (aB rfl) <| Qn (Ws (Wr (Q (fA fa34_0 rfl) <| Q (lB sca31 rfl hb6 rfl) <| Q (mI rfl) <| Qv ent171 (c_slices_BinarySearchFunc___impl_Map_impl_Map_int_ w2 x.Maps (hx1.lo hk4) id (fun (u_ : LMap) (v_ : Int) => cmpM u_ v_) ⟨ent172, fun w'' hw'' x y => (c__impl_Library__mapAt_1 w'' x y).mono fun _ _ h => ⟨h.1, h.2⟩⟩ (by omega)) rfl fun w9 hk10 hz11 => ?_)))
 have hq13 : bsP (fun (u_ : LMap) (v_ : Int) => cmpM u_ v_) id x.Maps ≤ x.Maps.length := bsP_le
 refine Q (xI rfl rfl) <| Q (xB rfl rfl) <| Q (aI rfl) <| Q (aB rfl) <| Qn (W.ret (ret2 rfl (v := .int .i64 _) (v' := .bool _) rfl rfl (⟨eR (eT2 (eI (by rfl)) (eDD (by exact Iff.rfl))), (((Lo.refl w).lo hk4).lo hk10)⟩)))
theorem c__impl_Library__copies (w : World) (x : Library) {Ax1 : Option Addr} {nx1 cx1 Bx1 : Nat} (hx1 : SlR w Bx1 encLMap 3 Ax1 nx1 cx1 x.Maps) {Ax2 : Option Addr} {nx2 cx2 Bx2 : Nat} (hx2 : SlR w Bx2 encAway 2 Ax2 nx2 cx2 x.Away) (hp0 : MapsOK x.Maps) (hp1 : nx1 ≤ 8) : Calls Tryz.prog 125 #[.agg (List.toArray (cLb Ax1 nx1 cx1 Ax2 nx2 cx2 x))] w fun e w' => e = .returned (.int .i64 (sumC x.Maps)) ∧ Lo w w' := by
 refine calls_W 19 Tryz.func125 rfl rfl rfl ?_
 have hbdx1 := hx1.bound
 have hlex1 := hx1.len
 have hBbx1 := hx1.bd
 have hbdx2 := hx2.bound
 have hlex2 := hx2.len
 have hBbx2 := hx2.bd
 refine Ws (Wr (SR.box (v := .agg (List.toArray _)) (l := (cLb Ax1 nx1 cx1 Ax2 nx2 cx2 x)) rfl rfl ?_))
 intro g1 w2 hg3 hk4 hs5 hb6
 refine Q (aI rfl) <| Qn (Ws (Wr (Q (aI rfl) <| Qn (Ws (Ws (Wr (Q (fA fa34_0 rfl) <| Q (lB sca31 rfl hb6 rfl) <| Q (r_len und31 rfl) <| Q (r_mv (v := .int .i64 0) rfl) <| Qn (W.block (W.loop (σ := Nat × Int) (fun g => [(2, .int .i64 0), (3, .int .i64 g.2), (7, .slice Ax1 nx1 cx1), (8, .int .i64 (nx1 : Int)), (9, .int .i64 (g.1 : Int))]) (fun g w' => (Lo w w') ∧ (SlR w' Bx1 encLMap 3 Ax1 nx1 cx1 x.Maps) ∧ (g.1 ≤ nx1 ∧ sumC (x.Maps.take g.1) = g.2 ∧ 0 ≤ g.2 ∧ g.2 ≤ 99 * (g.1 : Int))) (fun g => nx1 - g.1) (0, (0 : Int)) ?_ ?_ ?_)))))))))
 ·exact (At.r rfl)
 ·exact ⟨((Lo.refl w).lo hk4), hx1.lo hk4, (by (try dsimp only); simp [sumC])⟩
 ·rintro ⟨k, t⟩ f9 w10 hP12
  obtain ⟨hB11, hm13, hi14⟩ : (Lo w w10) ∧ (SlR w10 Bx1 encLMap 3 Ax1 nx1 cx1 x.Maps) ∧ (k ≤ nx1 ∧ sumC (x.Maps.take k) = t ∧ 0 ≤ t ∧ t ≤ 99 * (k : Int)) := hP12
  refine (?_ : W _ _ _ _ _ (act _ (sets f9 [(2, .int .i64 0), (3, .int .i64 t), (7, .slice Ax1 nx1 cx1), (8, .int .i64 (nx1 : Int)), (9, .int .i64 (k : Int))])) _)
  have hzw10 := hB11.size
  refine Ws (Wr (Q (r_lt rfl rfl) <| Qn (Ws (W.cond_d rfl (fun h15 => ?_) (fun h15 => ?_)))))
  ·refine W.skip (Ws (W.block (Ws ?_)))
   have hx17 := hm13.elem (i := k) (by omega)
   have hq18 := maps_rng ‹MapsOK x.Maps› hx17
   refine Wr (Q (r_ixR tsl31 hm13 rfl rfl (by omega)) <| Q (r_lda (l := encLMap (gt x.Maps k)) agg102 rfl (fun _ _ hu => hm13.cell hx17 hu) (hm13.esz _)) <| SR.alloc (l := [.int .i64 0, .int .i64 0, .int .i64 0]) tz102 rfl ?_)
   intro g19 w20 hg21 hk22 hs23 hb24
   refine Qw (o := 0) (vs := [.int .i64 ((gt x.Maps k).Id), .int .i64 ((gt x.Maps k).Copies), .int .i64 ((gt x.Maps k).Torn)]) agg102.2 rfl rfl rfl rfl hb24 ler rfl ?_
   intro w27 hk28 hs29 hb30
   refine Qn (Wr (Q (mI rfl) <| Q (fA fa102_1 rfl) <| Q (lB sca3 rfl hb30 rfl) <| Q (r_add rfl rfl (by omega)) <| Q (aI rfl) <| Qn (Wr (Q (r_add rfl rfl (by omega)) <| Q (mI rfl) <| Qn (⟨(k + 1, t + ((gt x.Maps k).Copies)), _, rfl, (At.r rfl), ⟨((hB11.lo hk22).new hk28), ((hm13.lo hk22).kn hk28), ?_⟩, ?_⟩)))))
   ·exact (by (try dsimp only); have hh := ‹_ ∧ sumC _ = _ ∧ _›; have hq := maps_rng hp0 ‹x.Maps[k]? = some _›; exact ⟨by omega, by rw [sumC_snoc (by omega), hh.2.1], by omega, by omega⟩)
   ·exact (by (try dsimp only); omega)
  ·refine W.exit (xin_here (Ws (Wr (Q (mI rfl) <| Q (aI rfl) <| Qn (W.ret (ret1 rfl (v := .int .i64 _) rfl (⟨eR (eI (by have hh := ‹_ ∧ sumC _ = _ ∧ _›; rw [← hh.2.1, List.take_of_length_le (by omega)])), hB11⟩)))))))
theorem z_c_spec_l32There_9 (x : Library) (nx1 : Nat) (hbdx1 : (nx1 : Int) ≤ 9223372036854775807) (hlex1 : nx1 = x.Maps.length) (nx2 : Nat) (hbdx2 : (nx2 : Int) ≤ 9223372036854775807) (hlex2 : nx2 = x.Away.length) (b : Bool) (hp0 : MapsOK x.Maps) (hp1 : nx1 ≤ 8) : 0 ≤ nx1 ∧ thereS b (x.Maps.take 0) = (0 : Int) ∧ 0 ≤ (0 : Int) ∧ (0 : Int) ≤ 99 * (0 : Int) := by
 cases b <;> simp [thereS, sumC, sumT]
theorem c_spec_l32There (w : World) (x : Library) {Ax1 : Option Addr} {nx1 cx1 Bx1 : Nat} (hx1 : SlR w Bx1 encLMap 3 Ax1 nx1 cx1 x.Maps) {Ax2 : Option Addr} {nx2 cx2 Bx2 : Nat} (hx2 : SlR w Bx2 encAway 2 Ax2 nx2 cx2 x.Away) (b : Bool) (hp0 : MapsOK x.Maps) (hp1 : nx1 ≤ 8) : Calls Tryz.prog 132 #[.agg (List.toArray (cLb Ax1 nx1 cx1 Ax2 nx2 cx2 x)), .bool b] w fun e w' => e = .returned (.int .i64 (if b = true then sumT x.Maps else sumC x.Maps)) ∧ Lo w w' := by
 refine calls_W 32 Tryz.func132 rfl rfl rfl ?_
 have hbdx1 := hx1.bound
 have hlex1 := hx1.len
 have hBbx1 := hx1.bd
 have hbdx2 := hx2.bound
 have hlex2 := hx2.len
 have hBbx2 := hx2.bd
 refine Ws (Wr (SR.box (v := .agg (List.toArray _)) (l := (cLb Ax1 nx1 cx1 Ax2 nx2 cx2 x)) rfl rfl ?_))
 intro g1 w2 hg3 hk4 hs5 hb6
 refine Q (aI rfl) <| Qn (Ws (Wr (Q (aI rfl) <| Qn (Ws (Ws (Wr (Q (aI rfl) <| Qn (W.block (W.loop (σ := Nat × Int) (fun g => [(1, .bool b), (2, .pointer (pA g1)), (4, .int .i64 0), (5, .int .i64 g.2), (6, .int .i64 (g.1 : Int))]) (fun g w' => (Lo w w') ∧ (Blk w' g1 34 (cLb Ax1 nx1 cx1 Ax2 nx2 cx2 x)) ∧ (SlR w' Bx1 encLMap 3 Ax1 nx1 cx1 x.Maps) ∧ (SlR w' Bx2 encAway 2 Ax2 nx2 cx2 x.Away) ∧ (g.1 ≤ nx1 ∧ thereS b (x.Maps.take g.1) = g.2 ∧ 0 ≤ g.2 ∧ g.2 ≤ 99 * (g.1 : Int))) (fun g => nx1 - g.1) (0, (0 : Int)) ?_ ?_ ?_)))))))))
 ·exact (At.r rfl)
 ·exact ⟨((Lo.refl w).lo hk4), hb6, hx1.lo hk4, hx2.lo hk4, (z_c_spec_l32There_9 x nx1 hbdx1 hlex1 nx2 hbdx2 hlex2 b hp0 hp1)⟩
 ·rintro ⟨k, t⟩ f10 w11 hP13
  obtain ⟨hB12, hm14, hm15, hm16, hi17⟩ : (Lo w w11) ∧ (Blk w11 g1 34 (cLb Ax1 nx1 cx1 Ax2 nx2 cx2 x)) ∧ (SlR w11 Bx1 encLMap 3 Ax1 nx1 cx1 x.Maps) ∧ (SlR w11 Bx2 encAway 2 Ax2 nx2 cx2 x.Away) ∧ (k ≤ nx1 ∧ thereS b (x.Maps.take k) = t ∧ 0 ≤ t ∧ t ≤ 99 * (k : Int)) := hP13
  refine (?_ : W _ _ _ _ _ (act _ (sets f10 [(1, .bool b), (2, .pointer (pA g1)), (4, .int .i64 0), (5, .int .i64 t), (6, .int .i64 (k : Int))])) _)
  have hzw11 := hB12.size
  have hl18 := hm14.lt
  refine Ws (Ws (Wr (Q (mI rfl) <| Q (fA fa34_0 rfl) <| Q (lB sca31 rfl hm14 rfl) <| Q (r_len und31 rfl) <| Q (r_lt rfl rfl) <| Qn (W.cond_d rfl (fun h19 => ?_) (fun h19 => ?_)))))
  ·refine W.skip (Ws (W.block (Ws (Wr (Q (mB rfl) <| Qn (W.cond_b rfl (fun h20 => ?_) (fun h20 => ?_)))))))
   ·refine Wr (Q (mI rfl) <| Q (fA fa34_0 rfl) <| Q (lB sca31 rfl hm14 rfl) <| Q (mI rfl) <| ?_)
    have hx22 := hm15.elem (i := k) (by omega)
    have hq23 := maps_rng ‹MapsOK x.Maps› hx22
    refine Q (r_ixR tsl31 hm15 rfl rfl (by omega)) <| Q (fA fa102_2 rfl) <| Q (r_ld (v := .int .i64 ((gt x.Maps k).Torn)) sca3 rfl (hm15.cell hx22 rfl)) <| Q (r_add rfl rfl (by omega)) <| Q (aI rfl) <| Qn (Wr (Q (mI rfl) <| Q (r_add rfl rfl (by omega)) <| Q (aI rfl) <| Qn (⟨(k + 1, t + ((gt x.Maps k).Torn)), _, rfl, (At.r rfl), ⟨hB12, hm14, hm15, hm16, ?_⟩, ?_⟩)))
    ·exact (by (try dsimp only); have hh := ‹_ ∧ thereS b _ = _ ∧ _›; have hq := maps_rng hp0 ‹x.Maps[k]? = some _›; first | exact ⟨by omega, thereS_t ‹_› (by omega) hh.2.1, by omega, by omega⟩ | exact ⟨by omega, thereS_f ‹_› (by omega) hh.2.1, by omega, by omega⟩)
    ·exact (by (try dsimp only); omega)
   ·refine Wr (Q (mI rfl) <| Q (fA fa34_0 rfl) <| Q (lB sca31 rfl hm14 rfl) <| Q (mI rfl) <| ?_)
    have hx25 := hm15.elem (i := k) (by omega)
    have hq26 := maps_rng ‹MapsOK x.Maps› hx25
    refine Q (r_ixR tsl31 hm15 rfl rfl (by omega)) <| Q (fA fa102_1 rfl) <| Q (r_ld (v := .int .i64 ((gt x.Maps k).Copies)) sca3 rfl (hm15.cell hx25 rfl)) <| Q (r_add rfl rfl (by omega)) <| Q (aI rfl) <| Qn (Wr (Q (mI rfl) <| Q (r_add rfl rfl (by omega)) <| Q (aI rfl) <| Qn (⟨(k + 1, t + ((gt x.Maps k).Copies)), _, rfl, (At.r rfl), ⟨hB12, hm14, hm15, hm16, ?_⟩, ?_⟩)))
    ·exact (by (try dsimp only); have hh := ‹_ ∧ thereS b _ = _ ∧ _›; have hq := maps_rng hp0 ‹x.Maps[k]? = some _›; first | exact ⟨by omega, thereS_t ‹_› (by omega) hh.2.1, by omega, by omega⟩ | exact ⟨by omega, thereS_f ‹_› (by omega) hh.2.1, by omega, by omega⟩)
    ·exact (by (try dsimp only); omega)
  ·refine W.exit (xin_here (Ws (Wr (Q (mI rfl) <| Q (aI rfl) <| Qn (W.ret (ret1 rfl (v := .int .i64 _) rfl (⟨eR (eI (by have hh := ‹_ ∧ thereS b _ = _ ∧ _›; rw [← hh.2.1, List.take_of_length_le (by omega)]; rfl)), hB12⟩)))))))
end Go.Proofs.YtndcchndcghmoaaGreatDoor
