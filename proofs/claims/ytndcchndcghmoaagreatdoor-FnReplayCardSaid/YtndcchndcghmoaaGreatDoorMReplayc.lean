/- Words and walks of this claim. -/
import Derived.Test.YtndcchndcghmoaaGreatDoorChecked
import Derived.Lib.Join
import Derived.Test.YtndcchndcghmoaaGreatDoorMReplayb
set_option linter.unusedVariables false
namespace Go.Proofs.YtndcchndcghmoaaGreatDoor
open Go Go.RowKit Fw
set_option maxRecDepth 10000
set_option maxHeartbeats 2000000
set_option linter.unusedVariables false
variable {AL AV Ax1 Ax2 : Option Addr} {nL cL BL nV cV BV nx1 cx1 Bx1 nx2 cx2 Bx2 : Nat}
theorem bld102_0 (a0:Int):Tryz.prog.built 102 [(0,i6 a0)]=some (List.toArray [i6 a0,i6 0,i6 0]):=by kernel_rfl
theorem bld129_0_1 (a0:Int) (a1:Int):Tryz.prog.built 129 [(0,i6 a0),(1,i6 a1)]=some (List.toArray [i6 a0,i6 a1]):=by kernel_rfl
theorem bld34_:Tryz.prog.built 34 []=some (List.toArray zLb):=by kernel_rfl
theorem bld34_0_1_2_3_4 (a0:Option Addr) (b0 c0:Nat) (a1:Option Addr) (b1 c1:Nat) (a2:Int) (a3:Int) (a4:Int):Tryz.prog.built 34 [(0,.slice a0 b0 c0),(1,.slice a1 b1 c1),(2,i6 a2),(3,i6 a3),(4,i6 a4)]=some (List.toArray [.slice a0 b0 c0,.slice a1 b1 c1,i6 a2,i6 a3,i6 a4]):=by kernel_rfl
theorem ent182:Ent Tryz.prog 182:=en Tryz.func182
theorem ent209:Ent Tryz.prog 209:=en Tryz.func209
theorem ent210:Ent Tryz.prog 210:=en Tryz.func210
theorem ent211:Ent Tryz.prog 211:=en Tryz.func211
theorem ent227:Ent Tryz.prog 227:=en Tryz.func227
theorem ent91:Ent Tryz.prog 91:=en Tryz.func91
theorem ent92:Ent Tryz.prog 92:=en Tryz.func92
theorem fa106_0:FA Tryz.prog 106 0 0:=fun _ _=>by kernel_rfl
theorem fa106_1:FA Tryz.prog 106 1 1:=fun _ _=>by kernel_rfl
theorem fa106_2:FA Tryz.prog 106 2 2:=fun _ _=>by kernel_rfl
theorem fa106_3:FA Tryz.prog 106 3 3:=fun _ _=>by kernel_rfl
theorem ovl207:Ovl Tryz.prog 207 31 4:=fun args w=>run_callFunc_extern Tryz.func207 oC oC oC oC args w
theorem ovl228:Ovl Tryz.prog 228 32 4:=fun args w=>run_callFunc_extern Tryz.func228 oC oC oC oC args w
theorem tel31:TEl Tryz.prog 31 102 (.agg (List.toArray [i6 0,i6 0,i6 0])) 3 24:=⟨by kernel_rfl,by kernel_rfl,rfl,by decide⟩
theorem tel32:TEl Tryz.prog 32 129 (.agg (List.toArray [i6 0,i6 0])) 2 16:=⟨by kernel_rfl,by kernel_rfl,rfl,by decide⟩
theorem tz34:TZ Tryz.prog 34 (.agg (List.toArray zLb)):=fun _=>by kernel_rfl
open Classical in
noncomputable def impl_isLibraryStep (s:LibraryStep):Bool :=
 if s.Kind=1 then decide ((1≤s.Id∧s.Id≤99)∧((s.Reader=0)∧(1≤s.Value∧s.Value≤50))) else if s.Kind=2 then decide ((1≤s.Reader∧s.Reader≤999)∧(s.Value=0)) else if s.Kind=3 then decide ((1≤s.Reader∧s.Reader≤999)∧(0≤s.Value∧s.Value≤1)) else if s.Kind=5 then decide ((1≤s.Reader∧s.Reader≤999)∧(1≤s.Value∧s.Value≤999)) else if s.Kind=4 then decide ((s.Reader=0)∧(1≤s.Value)) else if s.Kind=6 then decide ((s.Reader=0)∧(1≤s.Value)) else if s.Kind=7 then decide ((s.Reader=0)∧(1≤s.Value)) else false
theorem c_impl_isLibraryStep (w:World) (s:LibraryStep):Calls Tryz.prog 150 #[.agg (List.toArray (encLibraryStep s))] w fun e w'=>e=.returned (.bool (impl_isLibraryStep s))∧Lo w w':=by
 refine cW 62 Tryz.func150 G G G (Ws (Wr (bx G ?_)))
 intro g1 m ay T az a
 have c:=(lr w).lo T
 refine Q (aB G)<|Qn (Ws (Ws (Wr (Q (fA fa106_0 G)<|Q (lB sca3 G a G)<|Qn (Wl (Ws (Wr (Q (r_eq G G)<|Q (aB G)<|Qn (Wd G (fun o=>?_) (fun o=>?_))))))))))
 ·refine Ws (WJ (fun f' w'=>At f' [(2,.bool (decide ((1≤s.Id∧s.Id≤99)∧((s.Reader=0)∧(1≤s.Value∧s.Value≤50)))))]∧Lo m w') ?_ ?_)
  ·refine Q (fA fa106_1 G)<|Q (lB sca3 G a G)<|Qv ent120 (c_impl_isMapId m s.Id) G fun U d Y=>(Q (mB G)<|QD (fun n=>?_) (fun n=>?_))
   ·refine Qg (fA fa106_2 G)<|Qg (lB sca3 G (a.lo d) G)<|Qg (r_eq G G)<|Q (pT G G)<|Q (mB G)<|QD (fun C=>?_) (fun C=>?_)
    ·refine Qg (fA fa106_3 G)<|Qg (lB sca3 G (a.lo d) G)<|SR.gcall G ent66 (c_impl_within U s.Value 1 50) G ?_
     rintro e aA ⟨rfl,p⟩
     refine ⟨_,G,?_⟩
     have Z:=p.size
     refine Q (pT G G)<|Q (aB G)<|Qn (⟨_,G,⟨⟨(eDD ((jat C).trans (jat n))),trivial⟩,(d.trans p)⟩⟩)
    ·refine Qs<|Qs<|Qs<|Q (pF G G)<|Q (aB G)<|Qn (⟨_,G,⟨⟨(eDF ((jaf C).trans (jat n)).2),trivial⟩,d⟩⟩)
   ·refine Qs<|Qs<|Qs<|Q (pF G G)<|Q (mB G)<|Qs<|Qs<|Qs<|Q (pF G G)<|Q (aB G)<|Qn (⟨_,G,⟨⟨(eDF (jaf n).2),trivial⟩,d⟩⟩)
  rintro ao aC ⟨L,q⟩
  rw [← sA L]
  have aa:=q.size
  refine We (ret1 G (v:=.bool _) G ?_)
  exact ⟨eR (eB (by unfold impl_isLibraryStep; rw [if_pos o] <;> rfl)),(c.lo q)⟩
 ·refine Ws (Wr (Q (r_eq G G)<|Q (aB G)<|Qn (Wd G (fun b=>?_) (fun b=>?_))))
  ·refine Ws (WJ (fun f' w'=>At f' [(2,.bool (decide ((1≤s.Reader∧s.Reader≤999)∧(s.Value=0))))]∧Lo m w') ?_ ?_)
   ·refine Q (fA fa106_2 G)<|Q (lB sca3 G a G)<|Qv ent122 (c_impl_isId m s.Reader) G fun aD j ab=>(Q (mB G)<|QD (fun D=>?_) (fun D=>?_))
    ·refine Qg (fA fa106_3 G)<|Qg (lB sca3 G (a.lo j) G)<|Qg (r_eq G G)<|Q (pT G G)<|Q (aB G)<|Qn (⟨_,G,⟨⟨(eDD (jat D)),trivial⟩,j⟩⟩)
    ·refine Qs<|Qs<|Qs<|Q (pF G G)<|Q (aB G)<|Qn (⟨_,G,⟨⟨(eDF (jaf D).2),trivial⟩,j⟩⟩)
   rintro ap aE ⟨M,r⟩
   rw [← sA M]
   have ac:=r.size
   refine We (ret1 G (v:=.bool _) G ?_)
   exact ⟨eR (eB (by unfold impl_isLibraryStep; rw [if_neg o,if_pos b] <;> rfl)),(c.lo r)⟩
  ·refine Ws (Wr (Q (r_eq G G)<|Q (aB G)<|Qn (Wd G (fun f=>?_) (fun f=>?_))))
   ·refine Ws (WJ (fun f' w'=>At f' [(2,.bool (decide ((1≤s.Reader∧s.Reader≤999)∧(0≤s.Value∧s.Value≤1))))]∧Lo m w') ?_ ?_)
    ·refine Q (fA fa106_2 G)<|Q (lB sca3 G a G)<|Qv ent122 (c_impl_isId m s.Reader) G fun V k ae=>(Q (mB G)<|QD (fun E=>?_) (fun E=>?_))
     ·refine Qg (fA fa106_3 G)<|Qg (lB sca3 G (a.lo k) G)<|SR.gcall G ent66 (c_impl_within V s.Value 0 1) G ?_
      rintro e aF ⟨rfl,t⟩
      refine ⟨_,G,?_⟩
      have ag:=t.size
      refine Q (pT G G)<|Q (aB G)<|Qn (⟨_,G,⟨⟨(eDD (jat E)),trivial⟩,(k.trans t)⟩⟩)
     ·refine Qs<|Qs<|Qs<|Q (pF G G)<|Q (aB G)<|Qn (⟨_,G,⟨⟨(eDF (jaf E).2),trivial⟩,k⟩⟩)
    rintro aq aG ⟨N,u⟩
    rw [← sA N]
    have ah:=u.size
    refine We (ret1 G (v:=.bool _) G ?_)
    exact ⟨eR (eB (by unfold impl_isLibraryStep; rw [if_neg o,if_neg b,if_pos f] <;> rfl)),(c.lo u)⟩
   ·refine Ws (Wr (Q (r_eq G G)<|Q (aB G)<|Qn (Wd G (fun g=>?_) (fun g=>?_))))
    ·refine Ws (WJ (fun f' w'=>At f' [(2,.bool (decide ((1≤s.Reader∧s.Reader≤999)∧(1≤s.Value∧s.Value≤999))))]∧Lo m w') ?_ ?_)
     ·refine Q (fA fa106_2 G)<|Q (lB sca3 G a G)<|Qv ent122 (c_impl_isId m s.Reader) G fun X l ai=>(Q (mB G)<|QD (fun F=>?_) (fun F=>?_))
      ·refine Qg (fA fa106_3 G)<|Qg (lB sca3 G (a.lo l) G)<|SR.gcall G ent122 (c_impl_isId X s.Value) G ?_
       rintro e aH ⟨rfl,x⟩
       refine ⟨_,G,?_⟩
       have aj:=x.size
       refine Q (pT G G)<|Q (aB G)<|Qn (⟨_,G,⟨⟨(eDD (jat F)),trivial⟩,(l.trans x)⟩⟩)
      ·refine Qs<|Qs<|Qs<|Q (pF G G)<|Q (aB G)<|Qn (⟨_,G,⟨⟨(eDF (jaf F).2),trivial⟩,l⟩⟩)
     rintro ar aJ ⟨O,y⟩
     rw [← sA O]
     have ak:=y.size
     refine We (ret1 G (v:=.bool _) G ?_)
     exact ⟨eR (eB (by unfold impl_isLibraryStep; rw [if_neg o,if_neg b,if_neg f,if_pos g] <;> rfl)),(c.lo y)⟩
    ·refine Ws (Ws (Wr (Q (r_eq G G)<|Q (aB G)<|Qn (Wd G (fun h=>?_) (fun h=>?_)))))
     ·refine Wk (W.cond_t (congrArg Value.bool (decide_eq_true h)) (Ws (WJ (fun f' w'=>At f' [(2,.bool (decide ((s.Reader=0)∧(1≤s.Value))))]∧Lo m w') ?_ ?_)))
      ·refine Q (fA fa106_2 G)<|Q (lB sca3 G a G)<|Q (r_eq G G)<|Q (mB G)<|QD (fun H=>?_) (fun H=>?_)
       ·refine Qg (fA fa106_3 G)<|Qg (lB sca3 G a G)<|Qg (r_ge G G)<|Q (pT G G)<|Q (aB G)<|Qn (⟨_,G,⟨⟨(eDD (jat H)),trivial⟩,(lr _)⟩⟩)
       ·refine Qs<|Qs<|Qs<|Q (pF G G)<|Q (aB G)<|Qn (⟨_,G,⟨⟨(eDF (jaf H).2),trivial⟩,(lr _)⟩⟩)
      rintro au aK ⟨P,z⟩
      rw [← sA P]
      have al:=z.size
      refine We (ret1 G (v:=.bool _) G ?_)
      exact ⟨eR (eB (by unfold impl_isLibraryStep; rw [if_neg o,if_neg b,if_neg f,if_neg g,if_pos h] <;> rfl)),(c.lo z)⟩
     ·refine Ws (Wr (Q (r_eq G G)<|Q (aB G)<|Qn (Wd G (fun i=>?_) (fun i=>?_))))
      ·refine Wk (W.cond_t (congrArg Value.bool (decide_eq_true i)) (Ws (WJ (fun f' w'=>At f' [(2,.bool (decide ((s.Reader=0)∧(1≤s.Value))))]∧Lo m w') ?_ ?_)))
       ·refine Q (fA fa106_2 G)<|Q (lB sca3 G a G)<|Q (r_eq G G)<|Q (mB G)<|QD (fun I=>?_) (fun I=>?_)
        ·refine Qg (fA fa106_3 G)<|Qg (lB sca3 G a G)<|Qg (r_ge G G)<|Q (pT G G)<|Q (aB G)<|Qn (⟨_,G,⟨⟨(eDD (jat I)),trivial⟩,(lr _)⟩⟩)
        ·refine Qs<|Qs<|Qs<|Q (pF G G)<|Q (aB G)<|Qn (⟨_,G,⟨⟨(eDF (jaf I).2),trivial⟩,(lr _)⟩⟩)
       rintro aw aM ⟨R,A⟩
       rw [← sA R]
       have am:=A.size
       refine We (ret1 G (v:=.bool _) G ?_)
       exact ⟨eR (eB (by unfold impl_isLibraryStep; rw [if_neg o,if_neg b,if_neg f,if_neg g,if_neg h,if_pos i] <;> rfl)),(c.lo A)⟩
      ·refine Wr (Q (r_eq G G)<|Q (aB G)<|Qn (Wd G (fun J=>?_) (fun J=>?_)))
       ·refine Ws (WJ (fun f' w'=>At f' [(2,.bool (decide ((s.Reader=0)∧(1≤s.Value))))]∧Lo m w') ?_ ?_)
        ·refine Q (fA fa106_2 G)<|Q (lB sca3 G a G)<|Q (r_eq G G)<|Q (mB G)<|QD (fun K=>?_) (fun K=>?_)
         ·refine Qg (fA fa106_3 G)<|Qg (lB sca3 G a G)<|Qg (r_ge G G)<|Q (pT G G)<|Q (aB G)<|Qn (⟨_,G,⟨⟨(eDD (jat K)),trivial⟩,(lr _)⟩⟩)
         ·refine Qs<|Qs<|Qs<|Q (pF G G)<|Q (aB G)<|Qn (⟨_,G,⟨⟨(eDF (jaf K).2),trivial⟩,(lr _)⟩⟩)
        rintro ax aN ⟨S,B⟩
        rw [← sA S]
        have an:=B.size
        refine We (ret1 G (v:=.bool _) G ?_)
        exact ⟨eR (eB (by unfold impl_isLibraryStep; rw [if_neg o,if_neg b,if_neg f,if_neg g,if_neg h,if_neg i,if_pos J] <;> rfl)),(c.lo B)⟩
       ·refine Wk (Ws (Wr (Q (aB G)<|Qn (We (ret1 G (v:=.bool _) G ?_)))))
        exact ⟨eR (eB (by unfold impl_isLibraryStep; rw [if_neg o,if_neg b,if_neg f,if_neg g,if_neg h,if_neg i,if_neg J] <;> rfl)),c⟩
theorem c_slices_Clone___impl_Map_impl_Map_ (w:World)  (L:List LMap) (hL:SlR w BL encLMap 3 AL nL cL L) (l:(nL:Int)≤1048576):Calls Tryz.prog 91 #[.slice AL nL cL] w fun e w'=>∃ A1' n1' c1',e=.returned (.slice A1' n1' c1')∧SlO w' w.heap.size encLMap 3 102 A1' n1' c1' L∧Lo w w':=by
 refine cW 8 Tryz.func91 G G G ?_
 have hbdL:=hL.bound
 have hleL:=hL.len
 have hBbL:=hL.bd
 refine Ws (Wr (Q (r_as (v:=.slice none 0 0) G)<|Qn (Ws (Ws (Wr (Q (mL G)<|Q (r_eqlnil und31 G G)<|Qn (Wb G (fun h=>?_) (fun h=>?_))))))))
 ·have m:=slR_nil hL h
  refine Ws (Wr (Q (r_as (v:=.slice none 0 0) G)<|Qn (We (ret1 G (v:=.slice none 0 0) G (⟨none,0,0,eR G,(oq (SlO.nil (e:=102) (enc:=encLMap) (fun _=>G) (Nat.le_refl _)) (by first | rfl | (exact (List.eq_nil_of_length_eq_zero oB).symm))),(lr w)⟩)))))
 ·refine Wk (Ws (Wr (Ql (vs:=[]) (L:=([]:List LMap)) (enc:=encLMap) tel31 (fun _=>G) G G G oG ?_)))
  intro p q k c d
  have n:=c.size
  refine Q (mL G)<|Qp tel31 G G d (hL.lo c) (fun _=>G) oB oB ?_
  intro f g o b a i
  have j:=b.size
  rw [List.nil_append] at a
  refine Q (aL G)<|Qn (We (ret1 G (v:=.slice _ _ _) G (⟨f,0+nL,g,eR G,(a.down),(((lr w).lo c).step b (fun i_ hi_ e'=>by have:=d.base_le e'; first | omega | exact e' | exact .inl e' | exact .inr e'))⟩)))
theorem c_slices_Insert___impl_Map_impl_Map_ (w:World)  (L:List LMap) (hL:SlO w BL encLMap 3 102 AL nL cL L) (i:Int)  (V:List LMap) (hV:SlO w BV encLMap 3 102 AV nV cV V) (F:0≤i) (X:i≤(nL:Int)) (Y:((nL+nV:Nat):Int)≤1048576) (H:Dj AV AL):Calls Tryz.prog 182 #[.slice AL nL cL,i6 i,.slice AV nV cV] w fun e w'=>∃ A1' n1' c1',e=.returned (.slice A1' n1' c1')∧SlO w' BL encLMap 3 102 A1' n1' c1' (L.take i.toNat++V++L.drop i.toNat)∧(∀ b_,A1'=some ⟨b_,0,none⟩→(AL=some ⟨b_,0,none⟩)∨w.heap.size≤b_)∧Kp (KA AL) w w':=by
 refine cW 95 Tryz.func182 G G G ?_
 have hcpL:=hL.rd.cap
 have hbbL:=hL.rd.bd
 have hbdL:=hL.rd.bound
 have hleL:=hL.len
 have hBbL:=hL.bd
 have hcpV:=hV.rd.cap
 have hbbV:=hV.rd.bd
 have hbdV:=hV.rd.bound
 have hleV:=hV.len
 have hBbV:=hV.bd
 obtain ⟨i_,rfl⟩:=Int.eq_ofNat_of_zero_le F
 refine Ws (Wr (Q (r_as (v:=.slice none 0 0) G)<|Qn (Ws (Wr (Q (mL G)<|Q (mI G)<|Q (r_cutl (l:=i_) tsl31 G G G oB)<|Qn (Ws (Wr (Q (mL G)<|Q (r_len und31 G)<|Q (aI G)<|Qn (Ws (Ws (Wr (Q (mI G)<|Q (r_eq G G)<|Qn (Wd G (fun I=>?_) (fun I=>?_))))))))))))))
 ·refine Ws (Wr (Q (mL G)<|Q (aL G)<|Qn (We (ret1 G (v:=.slice _ _ _) G (⟨AL,nL,cL,eR G,(oq hL (by first | (have j:V=[]:=List.eq_nil_of_length_eq_zero oB; subst j; simp; done) | (exact ins_end hleL (show nL≤i_ by omega)) | (exact ins_grow hleL hleV oB oB))),(fun b_ h_=>.inl h_),(kq w:Kp (KA AL) w w)⟩)))))
 ·refine Wk (Ws (Wr (Q (mL G)<|Q (r_len und31 G)<|Q (aI G)<|Qn (Ws (Ws (Wr (Q (mI G)<|Q (mI G)<|Q (r_eq G G)<|Qn (Wd G (fun J=>?_) (fun J=>?_)))))))))
  ·refine Ws (Wr (Q (mL G)<|Q (mL G)<|Qp tel31 G G hL (hV.rd) (fun _=>G) oB oB ?_))
   intro S T w5 B E D
   have Z:=B.size
   refine Q (aL G)<|Qn (We (ret1 G (v:=.slice _ _ _) G (⟨S,nL+nV,T,eR G,(oq E (by first | (have j:V=[]:=List.eq_nil_of_length_eq_zero oB; subst j; simp; done) | (exact ins_end hleL (show nL≤i_ by omega)) | (exact ins_grow hleL hleV oB oB))),(fun b_ h_=>(D b_ h_).elim (fun h=>(fun b_ h_=>.inl h_) b_ (h.trans h_)) (fun h=>.inr oB)),((kq w:Kp (KA AL) w w).step B (fun i_ hi_ e'=>by have:=hL.base_le e'; first | omega | exact e' | exact .inl e' | exact .inr e'))⟩)))
  ·refine Wk (Ws (Ws (Wr (Q (mI G)<|Q (mI G)<|Q (r_add G G oB)<|Q (mL G)<|Q (r_cap und31 G)<|Q (r_gt G G)<|Qn (Wd G (fun C=>?_) (fun C=>?_))))))
   ·refine Ws (Wr (Q (mL G)<|Q (mI G)<|Q (r_cuth (h:=i_) tsl31 G G G (Nat.le_trans (by omega:i_≤nL) hL.rd.cap))<|Q (mI G)<|Q (mI G)<|Q (r_add G G oB)<|Q (mI G)<|Q (r_sub G G oB)<|SR.appZ (k:=((nL+nV)-i_)) (zx:=(⟨0,0,0⟩:LMap)) tel31 und3 G G (by first | rfl | (rw [show (((nL:Int)+(nV:Int))-(i_:Int):Int)=((((nL+nV)-i_):Nat):Int) from by omega]; rfl)) (hL.head (h:=i_) oB) oB oB oB oB ?_))
    intro d y aa K f g
    have M:=f.size
    refine Q (aL G)<|Qn (Ws ?_)
    refine Wr (Q (mL G)<|Q (mI G)<|Q (r_cutl (l:=i_) tsl31 G G G oB)<|Q (mL G)<|SR.copyO (l:=i_) (q:=nV) tel31 G G g ((hV.lo f).rd) oS oB (fun _=>G) ?_)
    intro a n o
    have N:=n.size
    refine Qn (Ws (WA (Kp (fun b_=>(pA d)=some ⟨b_,0,none⟩) a) (fun f' w'=>At f' [(0,.slice AL nL cL),(1,i6 (i_:Int)),(2,.slice AV nV cV),(6,.slice none 0 0),(7,i6 (nV:Int)),(8,i6 (nL:Int)),(9,.slice (pA d) (i_+((nL+nV)-i_)) y)]∧(Kp (fun b_=>(pA d)=some ⟨b_,0,none⟩) a w')∧(SlO w' w.heap.size encLMap 3 102 (pA d) (i_+((nL+nV)-i_)) y ((((L.take i_)++List.replicate ((nL+nV)-i_) (⟨0,0,0⟩:LMap)).take i_++V.take nV++((L.take i_)++List.replicate ((nL+nV)-i_) (⟨0,0,0⟩:LMap)).drop (i_+nV)).take (i_+nV)++(L.drop i_).take (nL-i_)++(((L.take i_)++List.replicate ((nL+nV)-i_) (⟨0,0,0⟩:LMap)).take i_++V.take nV++((L.take i_)++List.replicate ((nL+nV)-i_) (⟨0,0,0⟩:LMap)).drop (i_+nV)).drop ((i_+nV)+(nL-i_))))) mo ?_ ?_))
    ·intro ab c
     have O:=c.size
     refine Ak 0 G ((kq a:Kp (fun b_=>(pA d)=some ⟨b_,0,none⟩) a a).lo c) (fun w' hw'=>mL G)<|Ak 1 G ((kq a:Kp (fun b_=>(pA d)=some ⟨b_,0,none⟩) a a).lo c) (fun w' hw'=>mI G)<|Ak 2 G ((kq a:Kp (fun b_=>(pA d)=some ⟨b_,0,none⟩) a a).lo c) (fun w' hw'=>mI G)<|Ak 3 G ((kq a:Kp (fun b_=>(pA d)=some ⟨b_,0,none⟩) a a).lo c) (fun w' hw'=>r_add G G oB)<|Ak 4 G ((kq a:Kp (fun b_=>(pA d)=some ⟨b_,0,none⟩) a a).lo c) (fun w' hw'=>r_cutl (l:=(i_+nV)) tsl31 G G oB oB)<|Ak 5 G ((kq a:Kp (fun b_=>(pA d)=some ⟨b_,0,none⟩) a a).lo c) (fun w' hw'=>mL G)<|Ak 6 G ((kq a:Kp (fun b_=>(pA d)=some ⟨b_,0,none⟩) a a).lo c) (fun w' hw'=>mI G)<|Ak 7 G ((kq a:Kp (fun b_=>(pA d)=some ⟨b_,0,none⟩) a a).lo c) (fun w' hw'=>r_cutl (l:=i_) tsl31 G G G oB)<|Ab 8 G ?_
     refine SR.copyO (l:=(i_+nV)) (q:=nL-i_) tel31 G G (o.lo c) ((((hL.lo f).kp n (fun b_ hb e'=>by have I:=g.base_le e'; have J:=(hL.lo f).base_le hb; have h3:=hL.base_le hb; omega)).rd.cutl (l:=i_) oB).lo c) oS oB (fun _=>G) ?_
     intro ac t A
     have P:=t.size
     have s:=((kq a:Kp (fun b_=>(pA d)=some ⟨b_,0,none⟩) a a).lo c).step t (fun _ _ e=>e)
     refine Qn ⟨s,_,G,(Ad oC (⟨(At.r G),s,A⟩))⟩
    rintro U ae ⟨z,p,x⟩
    rw [← sA z]
    have R:=p.size
    refine Ws (Wr (Q (mL G)<|Q (aL G)<|Qn (We (ret1 G (v:=.slice _ _ _) G (⟨(pA d),i_+((nL+nV)-i_),y,eR G,(oq (x.down) (by first | (have j:V=[]:=List.eq_nil_of_length_eq_zero oB; subst j; simp; done) | (exact ins_end hleL (show nL≤i_ by omega)) | (exact ins_grow hleL hleV oB oB))),(fun b_ h=>.inr (by have:=x.base_le h; omega)),((((kr f:Kp (KA AL) w _)).step n (fun i_ hi_ e'=>by have:=g.base_le e'; first | omega | exact e' | exact .inl e' | exact .inr e')).step p (fun i_ hi_ e'=>by have:=o.base_le e'; first | omega | exact e' | exact .inl e' | exact .inr e'))⟩)))))
   ·refine Wk (Ws ?_)
    have hrL:=hL.rd
    have hrV:=hV.rd
    obtain ⟨gL,cs,rfl,hRw,htk,hcc⟩:=hL.raw (hrL.some oB)
    obtain ⟨gV,cv,rfl,hRv,_,_⟩:=hV.raw (hrV.some oB)
    have hne:gV≠gL:=fun e=>H gV G (by rw [e])
    refine Wr (Q (mL G)<|Q (mI G)<|Q (mI G)<|Q (r_add G G oB)<|Q (r_cuth (h:=nL+nV) tsl31 G G oB oB)<|Q (aL G)<|Qn (Ws (Ws (Wr (Q (mL G)<|Q (mL G)<|Q (mI G)<|Q (mI G)<|Q (r_add G G oB)<|Q (r_cutl (l:=i_+nV) tsl31 G G oB oB)<|SR.over ovl207 tel31 G G hne hRv.heap hRw oB<|Q (rN G)<|Qn (W.cond_t G (Ws (W.regT 8 mo oC ?_))))))))
    intro wd hkd
    refine TR.q' (mL G)<|TR.q' (mI G)<|TR.q' (mI G)<|TR.q' (r_add G G oB)<|TR.q' (r_cutl (l:=i_+nV) tsl31 G G oB oB)<|TR.q' (mL G)<|TR.q' (mI G)<|TR.q' (r_cutl (l:=i_) tsl31 G G oB oB)<|TR.nil ?_
    refine SR.copyR (l:=i_+nV) (m:=nL-i_) (vs:=(L.drop i_).flatMap encLMap) tel31 G G (hRw.lo hkd) oS oB (by rw [flat_len (sz:=3) (fun _=>G),List.length_drop,← hleL]) (fun _=>((hrL.lo hkd).cutl (l:=i_) oB).flat) (fun h=>(hrL.cutl (l:=i_) oB).some oB) (fun u hu=>by obtain ⟨q,_,hu⟩:=List.mem_flatMap.1 hu; exact List.all_eq_true.1 (show (encLMap q).all (·.oneCell')=true from G) u hu) ?_
    intro we hke hRe
    refine Qn (Ws ?_)
    refine Wr (Q (mL G)<|Q (mI G)<|Q (r_cutl (l:=i_) tsl31 G G oB oB)<|Q (mL G)<|SR.copyR (l:=i_) (m:=nV) (vs:=V.flatMap encLMap) tel31 G G hRe oS oB (by rw [flat_len (sz:=3) (fun _=>G),← hleV]) (fun _=>((hV.lo hkd).kp hke (fun b hb e'=>hne (by injection hb with hb; injection hb with hb; rw [hb,e']))).rd.flat) (fun h=>hrV.some h) (fun u hu=>by obtain ⟨q,_,hu⟩:=List.mem_flatMap.1 hu; exact List.all_eq_true.1 (show (encLMap q).all (·.oneCell')=true from G) u hu) ?_)
    intro wf hkf hRf
    refine Qn ?_
    have hBf:=(((kq w:Kp (fun b_=>(pA gL)=some ⟨b_,0,none⟩) w w).lo hkd).step hke (fun _ _ e'=>by rw [e'])).step hkf (fun _ _ e'=>by rw [e'])
    refine Ws (Wr (Q (mL G)<|Q (aL G)<|Qn (We (ret1 G (v:=.slice _ _ _) G (⟨(pA gL),nL+nV,cL,eR G,hRf.own oB (by rw [List.length_append,List.length_append,List.length_take,List.length_drop]; omega) (fun _=>G) (ins_flat (enc:=encLMap) (sz:=3) (i:=i_) (cs:=cs) (fun _=>G) hleL hleV oB (by rw [hRw.len]; exact Nat.mul_le_mul_right 3 (show nL+nV≤cL by omega)) htk),(fun b_ h_=>.inl h_),hBf⟩)))))
theorem c_slices_Clone___impl_Away_impl_Away_ (w:World)  (L:List Away) (hL:SlR w BL encAway 2 AL nL cL L) (l:(nL:Int)≤1048576):Calls Tryz.prog 92 #[.slice AL nL cL] w fun e w'=>∃ A1' n1' c1',e=.returned (.slice A1' n1' c1')∧SlO w' w.heap.size encAway 2 129 A1' n1' c1' L∧Lo w w':=by
 refine cW 8 Tryz.func92 G G G ?_
 have hbdL:=hL.bound
 have hleL:=hL.len
 have hBbL:=hL.bd
 refine Ws (Wr (Q (r_as (v:=.slice none 0 0) G)<|Qn (Ws (Ws (Wr (Q (mL G)<|Q (r_eqlnil und32 G G)<|Qn (Wb G (fun h=>?_) (fun h=>?_))))))))
 ·have m:=slR_nil hL h
  refine Ws (Wr (Q (r_as (v:=.slice none 0 0) G)<|Qn (We (ret1 G (v:=.slice none 0 0) G (⟨none,0,0,eR G,(oq (SlO.nil (e:=129) (enc:=encAway) (fun _=>G) (Nat.le_refl _)) (by first | rfl | (exact (List.eq_nil_of_length_eq_zero oB).symm))),(lr w)⟩)))))
 ·refine Wk (Ws (Wr (Ql (vs:=[]) (L:=([]:List Away)) (enc:=encAway) tel32 (fun _=>G) G G G oG ?_)))
  intro p q k c d
  have n:=c.size
  refine Q (mL G)<|Qp tel32 G G d (hL.lo c) (fun _=>G) oB oB ?_
  intro f g o b a i
  have j:=b.size
  rw [List.nil_append] at a
  refine Q (aL G)<|Qn (We (ret1 G (v:=.slice _ _ _) G (⟨f,0+nL,g,eR G,(a.down),(((lr w).lo c).step b (fun i_ hi_ e'=>by have:=d.base_le e'; first | omega | exact e' | exact .inl e' | exact .inr e'))⟩)))
theorem c_slices_Insert___impl_Away_impl_Away_ (w:World)  (L:List Away) (hL:SlO w BL encAway 2 129 AL nL cL L) (i:Int)  (V:List Away) (hV:SlO w BV encAway 2 129 AV nV cV V) (F:0≤i) (X:i≤(nL:Int)) (Y:((nL+nV:Nat):Int)≤1048576) (H:Dj AV AL):Calls Tryz.prog 210 #[.slice AL nL cL,i6 i,.slice AV nV cV] w fun e w'=>∃ A1' n1' c1',e=.returned (.slice A1' n1' c1')∧SlO w' BL encAway 2 129 A1' n1' c1' (L.take i.toNat++V++L.drop i.toNat)∧(∀ b_,A1'=some ⟨b_,0,none⟩→(AL=some ⟨b_,0,none⟩)∨w.heap.size≤b_)∧Kp (KA AL) w w':=by
 refine cW 95 Tryz.func210 G G G ?_
 have hcpL:=hL.rd.cap
 have hbbL:=hL.rd.bd
 have hbdL:=hL.rd.bound
 have hleL:=hL.len
 have hBbL:=hL.bd
 have hcpV:=hV.rd.cap
 have hbbV:=hV.rd.bd
 have hbdV:=hV.rd.bound
 have hleV:=hV.len
 have hBbV:=hV.bd
 obtain ⟨i_,rfl⟩:=Int.eq_ofNat_of_zero_le F
 refine Ws (Wr (Q (r_as (v:=.slice none 0 0) G)<|Qn (Ws (Wr (Q (mL G)<|Q (mI G)<|Q (r_cutl (l:=i_) tsl32 G G G oB)<|Qn (Ws (Wr (Q (mL G)<|Q (r_len und32 G)<|Q (aI G)<|Qn (Ws (Ws (Wr (Q (mI G)<|Q (r_eq G G)<|Qn (Wd G (fun I=>?_) (fun I=>?_))))))))))))))
 ·refine Ws (Wr (Q (mL G)<|Q (aL G)<|Qn (We (ret1 G (v:=.slice _ _ _) G (⟨AL,nL,cL,eR G,(oq hL (by first | (have j:V=[]:=List.eq_nil_of_length_eq_zero oB; subst j; simp; done) | (exact ins_end hleL (show nL≤i_ by omega)) | (exact ins_grow hleL hleV oB oB))),(fun b_ h_=>.inl h_),(kq w:Kp (KA AL) w w)⟩)))))
 ·refine Wk (Ws (Wr (Q (mL G)<|Q (r_len und32 G)<|Q (aI G)<|Qn (Ws (Ws (Wr (Q (mI G)<|Q (mI G)<|Q (r_eq G G)<|Qn (Wd G (fun J=>?_) (fun J=>?_)))))))))
  ·refine Ws (Wr (Q (mL G)<|Q (mL G)<|Qp tel32 G G hL (hV.rd) (fun _=>G) oB oB ?_))
   intro S T w5 B E D
   have Z:=B.size
   refine Q (aL G)<|Qn (We (ret1 G (v:=.slice _ _ _) G (⟨S,nL+nV,T,eR G,(oq E (by first | (have j:V=[]:=List.eq_nil_of_length_eq_zero oB; subst j; simp; done) | (exact ins_end hleL (show nL≤i_ by omega)) | (exact ins_grow hleL hleV oB oB))),(fun b_ h_=>(D b_ h_).elim (fun h=>(fun b_ h_=>.inl h_) b_ (h.trans h_)) (fun h=>.inr oB)),((kq w:Kp (KA AL) w w).step B (fun i_ hi_ e'=>by have:=hL.base_le e'; first | omega | exact e' | exact .inl e' | exact .inr e'))⟩)))
  ·refine Wk (Ws (Ws (Wr (Q (mI G)<|Q (mI G)<|Q (r_add G G oB)<|Q (mL G)<|Q (r_cap und32 G)<|Q (r_gt G G)<|Qn (Wd G (fun C=>?_) (fun C=>?_))))))
   ·refine Ws (Wr (Q (mL G)<|Q (mI G)<|Q (r_cuth (h:=i_) tsl32 G G G (Nat.le_trans (by omega:i_≤nL) hL.rd.cap))<|Q (mI G)<|Q (mI G)<|Q (r_add G G oB)<|Q (mI G)<|Q (r_sub G G oB)<|SR.appZ (k:=((nL+nV)-i_)) (zx:=(⟨0,0⟩:Away)) tel32 und3 G G (by first | rfl | (rw [show (((nL:Int)+(nV:Int))-(i_:Int):Int)=((((nL+nV)-i_):Nat):Int) from by omega]; rfl)) (hL.head (h:=i_) oB) oB oB oB oB ?_))
    intro d y aa K f g
    have M:=f.size
    refine Q (aL G)<|Qn (Ws ?_)
    refine Wr (Q (mL G)<|Q (mI G)<|Q (r_cutl (l:=i_) tsl32 G G G oB)<|Q (mL G)<|SR.copyO (l:=i_) (q:=nV) tel32 G G g ((hV.lo f).rd) oS oB (fun _=>G) ?_)
    intro a n o
    have N:=n.size
    refine Qn (Ws (WA (Kp (fun b_=>(pA d)=some ⟨b_,0,none⟩) a) (fun f' w'=>At f' [(0,.slice AL nL cL),(1,i6 (i_:Int)),(2,.slice AV nV cV),(6,.slice none 0 0),(7,i6 (nV:Int)),(8,i6 (nL:Int)),(9,.slice (pA d) (i_+((nL+nV)-i_)) y)]∧(Kp (fun b_=>(pA d)=some ⟨b_,0,none⟩) a w')∧(SlO w' w.heap.size encAway 2 129 (pA d) (i_+((nL+nV)-i_)) y ((((L.take i_)++List.replicate ((nL+nV)-i_) (⟨0,0⟩:Away)).take i_++V.take nV++((L.take i_)++List.replicate ((nL+nV)-i_) (⟨0,0⟩:Away)).drop (i_+nV)).take (i_+nV)++(L.drop i_).take (nL-i_)++(((L.take i_)++List.replicate ((nL+nV)-i_) (⟨0,0⟩:Away)).take i_++V.take nV++((L.take i_)++List.replicate ((nL+nV)-i_) (⟨0,0⟩:Away)).drop (i_+nV)).drop ((i_+nV)+(nL-i_))))) mo ?_ ?_))
    ·intro ab c
     have O:=c.size
     refine Ak 0 G ((kq a:Kp (fun b_=>(pA d)=some ⟨b_,0,none⟩) a a).lo c) (fun w' hw'=>mL G)<|Ak 1 G ((kq a:Kp (fun b_=>(pA d)=some ⟨b_,0,none⟩) a a).lo c) (fun w' hw'=>mI G)<|Ak 2 G ((kq a:Kp (fun b_=>(pA d)=some ⟨b_,0,none⟩) a a).lo c) (fun w' hw'=>mI G)<|Ak 3 G ((kq a:Kp (fun b_=>(pA d)=some ⟨b_,0,none⟩) a a).lo c) (fun w' hw'=>r_add G G oB)<|Ak 4 G ((kq a:Kp (fun b_=>(pA d)=some ⟨b_,0,none⟩) a a).lo c) (fun w' hw'=>r_cutl (l:=(i_+nV)) tsl32 G G oB oB)<|Ak 5 G ((kq a:Kp (fun b_=>(pA d)=some ⟨b_,0,none⟩) a a).lo c) (fun w' hw'=>mL G)<|Ak 6 G ((kq a:Kp (fun b_=>(pA d)=some ⟨b_,0,none⟩) a a).lo c) (fun w' hw'=>mI G)<|Ak 7 G ((kq a:Kp (fun b_=>(pA d)=some ⟨b_,0,none⟩) a a).lo c) (fun w' hw'=>r_cutl (l:=i_) tsl32 G G G oB)<|Ab 8 G ?_
     refine SR.copyO (l:=(i_+nV)) (q:=nL-i_) tel32 G G (o.lo c) ((((hL.lo f).kp n (fun b_ hb e'=>by have I:=g.base_le e'; have J:=(hL.lo f).base_le hb; have h3:=hL.base_le hb; omega)).rd.cutl (l:=i_) oB).lo c) oS oB (fun _=>G) ?_
     intro ac t A
     have P:=t.size
     have s:=((kq a:Kp (fun b_=>(pA d)=some ⟨b_,0,none⟩) a a).lo c).step t (fun _ _ e=>e)
     refine Qn ⟨s,_,G,(Ad oC (⟨(At.r G),s,A⟩))⟩
    rintro U ae ⟨z,p,x⟩
    rw [← sA z]
    have R:=p.size
    refine Ws (Wr (Q (mL G)<|Q (aL G)<|Qn (We (ret1 G (v:=.slice _ _ _) G (⟨(pA d),i_+((nL+nV)-i_),y,eR G,(oq (x.down) (by first | (have j:V=[]:=List.eq_nil_of_length_eq_zero oB; subst j; simp; done) | (exact ins_end hleL (show nL≤i_ by omega)) | (exact ins_grow hleL hleV oB oB))),(fun b_ h=>.inr (by have:=x.base_le h; omega)),((((kr f:Kp (KA AL) w _)).step n (fun i_ hi_ e'=>by have:=g.base_le e'; first | omega | exact e' | exact .inl e' | exact .inr e')).step p (fun i_ hi_ e'=>by have:=o.base_le e'; first | omega | exact e' | exact .inl e' | exact .inr e'))⟩)))))
   ·refine Wk (Ws ?_)
    have hrL:=hL.rd
    have hrV:=hV.rd
    obtain ⟨gL,cs,rfl,hRw,htk,hcc⟩:=hL.raw (hrL.some oB)
    obtain ⟨gV,cv,rfl,hRv,_,_⟩:=hV.raw (hrV.some oB)
    have hne:gV≠gL:=fun e=>H gV G (by rw [e])
    refine Wr (Q (mL G)<|Q (mI G)<|Q (mI G)<|Q (r_add G G oB)<|Q (r_cuth (h:=nL+nV) tsl32 G G oB oB)<|Q (aL G)<|Qn (Ws (Ws (Wr (Q (mL G)<|Q (mL G)<|Q (mI G)<|Q (mI G)<|Q (r_add G G oB)<|Q (r_cutl (l:=i_+nV) tsl32 G G oB oB)<|SR.over ovl228 tel32 G G hne hRv.heap hRw oB<|Q (rN G)<|Qn (W.cond_t G (Ws (W.regT 8 mo oC ?_))))))))
    intro wd hkd
    refine TR.q' (mL G)<|TR.q' (mI G)<|TR.q' (mI G)<|TR.q' (r_add G G oB)<|TR.q' (r_cutl (l:=i_+nV) tsl32 G G oB oB)<|TR.q' (mL G)<|TR.q' (mI G)<|TR.q' (r_cutl (l:=i_) tsl32 G G oB oB)<|TR.nil ?_
    refine SR.copyR (l:=i_+nV) (m:=nL-i_) (vs:=(L.drop i_).flatMap encAway) tel32 G G (hRw.lo hkd) oS oB (by rw [flat_len (sz:=2) (fun _=>G),List.length_drop,← hleL]) (fun _=>((hrL.lo hkd).cutl (l:=i_) oB).flat) (fun h=>(hrL.cutl (l:=i_) oB).some oB) (fun u hu=>by obtain ⟨q,_,hu⟩:=List.mem_flatMap.1 hu; exact List.all_eq_true.1 (show (encAway q).all (·.oneCell')=true from G) u hu) ?_
    intro we hke hRe
    refine Qn (Ws ?_)
    refine Wr (Q (mL G)<|Q (mI G)<|Q (r_cutl (l:=i_) tsl32 G G oB oB)<|Q (mL G)<|SR.copyR (l:=i_) (m:=nV) (vs:=V.flatMap encAway) tel32 G G hRe oS oB (by rw [flat_len (sz:=2) (fun _=>G),← hleV]) (fun _=>((hV.lo hkd).kp hke (fun b hb e'=>hne (by injection hb with hb; injection hb with hb; rw [hb,e']))).rd.flat) (fun h=>hrV.some h) (fun u hu=>by obtain ⟨q,_,hu⟩:=List.mem_flatMap.1 hu; exact List.all_eq_true.1 (show (encAway q).all (·.oneCell')=true from G) u hu) ?_)
    intro wf hkf hRf
    refine Qn ?_
    have hBf:=(((kq w:Kp (fun b_=>(pA gL)=some ⟨b_,0,none⟩) w w).lo hkd).step hke (fun _ _ e'=>by rw [e'])).step hkf (fun _ _ e'=>by rw [e'])
    refine Ws (Wr (Q (mL G)<|Q (aL G)<|Qn (We (ret1 G (v:=.slice _ _ _) G (⟨(pA gL),nL+nV,cL,eR G,hRf.own oB (by rw [List.length_append,List.length_append,List.length_take,List.length_drop]; omega) (fun _=>G) (ins_flat (enc:=encAway) (sz:=2) (i:=i_) (cs:=cs) (fun _=>G) hleL hleV oB (by rw [hRw.len]; exact Nat.mul_le_mul_right 2 (show nL+nV≤cL by omega)) htk),(fun b_ h_=>.inl h_),hBf⟩)))))
theorem c_slices_Delete___impl_Away_impl_Away_ (w:World)  (L:List Away) (hL:SlO w BL encAway 2 129 AL nL cL L) (i:Int) (j:Int) (y:0≤i) (z:i≤j) (A:j≤(nL:Int)):Calls Tryz.prog 211 #[.slice AL nL cL,i6 i,i6 j] w fun e w'=>∃ A1' n1' c1',e=.returned (.slice A1' n1' c1')∧SlO w' BL encAway 2 129 A1' n1' c1' (L.take i.toNat++L.drop j.toNat)∧(∀ b_,A1'=some ⟨b_,0,none⟩→(AL=some ⟨b_,0,none⟩)∨w.heap.size≤b_)∧Kp (KA AL) w w':=by
 refine cW 33 Tryz.func211 G G G ?_
 have hcpL:=hL.rd.cap
 have hbbL:=hL.rd.bd
 have hbdL:=hL.rd.bound
 have hleL:=hL.len
 have hBbL:=hL.bd
 refine Ws (Wr (Q (r_as (v:=.slice none 0 0) G)<|Qn (Ws (Wr (Q (mL G)<|Q (mI G)<|Q (mI G)<|Q (mL G)<|Q (r_len und32 G)<|Q (r_cut3 (l:=i.toNat) (h':=j.toNat) (m':=nL) tsl32 G G G G oB oB G oB oB (Nat.le_trans (by omega:nL≤nL) hL.rd.cap))<|Qn (Ws (Ws (Wr (Q (mI G)<|Q (mI G)<|Q (r_eq G G)<|Qn (Wd G (fun x=>?_) (fun x=>?_)))))))))))
 ·refine Ws (Wr (Q (mL G)<|Q (aL G)<|Qn (We (ret1 G (v:=.slice _ _ _) G (⟨AL,nL,cL,eR G,(oq hL (by first | rfl | (obtain rfl:i=j:=oB; exact (List.take_append_drop ..).symm))),(fun b_ h_=>.inl h_),(kq w:Kp (KA AL) w w)⟩)))))
 ·refine Wk (Ws (Wr (Q (mL G)<|Q (r_len und32 G)<|Q (aI G)<|Qn (Ws (WA (Kp (KA AL) w) (fun f' w'=>At f' [(0,.slice AL (i.toNat+(nL-j.toNat)) cL),(6,.slice none 0 0),(7,i6 (nL:Int))]∧(Kp (KA AL) w w')∧(SlO w' BL encAway 2 129 AL (i.toNat+(nL-j.toNat)) cL ((L.take i.toNat)++(L.drop j.toNat)))) mo ?_ ?_)))))
  ·intro B a
   have p:=a.size
   refine Ak 0 G ((kr a:Kp (KA AL) w _)) (fun w' hw'=>mL G)<|Ak 1 G ((kr a:Kp (KA AL) w _)) (fun w' hw'=>mI G)<|Ak 2 G ((kr a:Kp (KA AL) w _)) (fun w' hw'=>r_cuth (h:=i.toNat) tsl32 G G oB (Nat.le_trans (by omega:i.toNat≤nL) hL.rd.cap))<|Ak 3 G ((kr a:Kp (KA AL) w _)) (fun w' hw'=>mL G)<|Ak 4 G ((kr a:Kp (KA AL) w _)) (fun w' hw'=>mI G)<|Ak 5 G ((kr a:Kp (KA AL) w _)) (fun w' hw'=>r_cutl (l:=j.toNat) tsl32 G G oB oB)<|Ab 6 G (SR.appI tel32 G G ((hL.head (h:=i.toNat) oB).lo a) ((hL.rd.cutl (l:=j.toNat) oB).lo a) (fun _=>G) oB ?_)
   intro C d n
   have q:=d.size
   have b:=((kr a:Kp (KA AL) w _)).step d (fun _ _ e=>e)
   refine Qn ⟨b,_,G,(Ak 7 G b (fun w' hw'=>aL G)<|Ad oC (⟨(At.r G),b,n⟩))⟩
  rintro u D ⟨m,c,g⟩
  rw [← sA m]
  have s:=c.size
  refine Ws (Wr (Q (mL G)<|Q (mL G)<|Q (r_len und32 G)<|Q (mI G)<|Q (r_cut (l:=(i.toNat+(nL-j.toNat))) (h:=nL) tsl32 G G G G G oB oB)<|SR.clearO (l:=(i.toNat+(nL-j.toNat))) (k:=nL-(i.toNat+(nL-j.toNat))) tel32 G g oB oB oC ?_))
  intro E f o
  have t:=f.size
  refine Qn (Ws (Wr (Q (mL G)<|Q (aL G)<|Qn (We (ret1 G (v:=.slice _ _ _) G (⟨AL,i.toNat+(nL-j.toNat),cL,eR G,(oq o (by first | rfl | (obtain rfl:i=j:=oB; exact (List.take_append_drop ..).symm))),(fun b_ h_=>.inl h_),(((kq w:Kp (KA AL) w w).step c (fun i_ hi_ e'=>by have:=hL.base_le e'; first | omega | exact e' | exact .inl e' | exact .inr e')).step f (fun i_ hi_ e'=>by have:=g.base_le e'; first | omega | exact e' | exact .inl e' | exact .inr e'))⟩))))))
theorem c__impl_Library__own (w:World) (x:Library) (O:SlR w Bx1 encLMap 3 Ax1 nx1 cx1 x.Maps) (P:SlR w Bx2 encAway 2 Ax2 nx2 cx2 x.Away) (bn:(nx1:Int)≤1048576) (bo:(nx2:Int)≤1048576):Calls Tryz.prog 47 #[.agg (List.toArray (cLb Ax1 nx1 cx1 Ax2 nx2 cx2 x))] w fun e w'=>∃ A1' n1' c1' A2' n2' c2',e=.returned (.agg (List.toArray (cLb A1' n1' c1' A2' n2' c2' x)))∧SlO w' w.heap.size encLMap 3 102 A1' n1' c1' x.Maps∧SlO w' w.heap.size encAway 2 129 A2' n2' c2' x.Away∧Dj A1' A2'∧Lo w w':=by
 refine cW 12 Tryz.func47 G G G ?_
 have aH:=O.bound
 have aK:=O.len
 have aF:=O.bd
 have aJ:=P.bound
 have aM:=P.len
 have aG:=P.bd
 refine Ws (Wr (bx G ?_))
 intro E w2 bm ac bp p
 refine Qa (l:=zLb) tz34 G ?_
 intro g9 d a8 b bc aw
 refine Qn (Ws ?_)
 have V:=(O.lo ac).lo b
 refine WA (Kp (fun b_=>b_=E) d) (fun f' w'=>∃ (f:Option Addr) (c:Nat) (g:Nat) (D:Option Addr) (C:Nat) (F:Nat),At f' [(1,pt E),(2,pt g9)]∧(Kp (fun b_=>b_=E) d w')∧(SlO w' d.heap.size encLMap 3 102 f c g x.Maps)∧(SlO w' d.heap.size encAway 2 129 D C F x.Away)∧(Blk w' E 34 (cLb f c g D C F x))∧Dj f D∧(c=(x.Maps).length)∧((c:Int)≤9223372036854775807)∧(C=(x.Away).length)∧((C:Int)≤9223372036854775807)) mo ?_ ?_
 ·intro aA a
  have aR:=a.size
  refine Av #[true,true,true,true,true,false,true,false,false,false] 4 (fun f' w'=>∃ (f:Option Addr) (c:Nat) (g:Nat),At f' [(1,pt E),(2,pt g9),(5,.slice f c g),(7,.slice Ax2 nx2 cx2),(9,.pointer (some ((⟨E,0,none⟩:Addr).add 0)))]∧(Kp (fun b_=>b_=E) d w')∧(SlO w' d.heap.size encLMap 3 102 f c g x.Maps)∧(Blk w' E 34 (cLb Ax1 nx1 cx1 Ax2 nx2 cx2 x))∧(c=(x.Maps).length)∧((c:Int)≤9223372036854775807)) ?_ (fun J=>?_)
  ·rintro aZ aC ⟨f,c,g,L,t,W,ax,T,U⟩
   rw [← sA L]
   have aT:=t.size
   refine Ab 5 G (Qc ent92 (c_slices_Clone___impl_Away_impl_Away_ aC x.Away (((P.lo ac).lo b).kn t oB) oB) G ?_)
   rintro e be ⟨R,X,S,rfl,h,j⟩
   refine ⟨_,G,?_⟩
   have aU:=j.size
   have H:=t.lo j
   have ae:=h.len
   have ag:=h.rd.bound
   refine Qn ⟨H,_,G,(Ab 7 G (Qw (o:=0) (vs:=[.slice f c g]) sca31.2 G G G G (ax.lo j) ler G ?_))⟩
   intro bf k aN Y
   have y:=H.step k (fun _ _ e=>e)
   refine Qn ⟨y,_,G,(Ak 8 G y (fun w' hw'=>fA fa34_1 G)<|Ab 9 G (Qw (o:=1) (vs:=[.slice R X S]) sca32.2 G G G G Y ler G ?_))⟩
   intro bg m aO Z
   have I:=y.step m (fun _ _ e=>e)
   refine Qn ⟨I,_,G,(Ad oC (⟨f,c,g,R,X,S,⟨G,G,trivial⟩,I,((((W.lo j).kn k).kn m).down),(((h.kn k).kn m).down),Z,(dj W ((h.kn k).kn m)),T,U,ae,ag⟩))⟩
  refine Av #[true,true,false,true,true,false,false,false,false,false] 6 (fun f' w'=>At f' [(1,pt E),(2,pt g9),(4,.slice Ax1 nx1 cx1),(7,.slice Ax2 nx2 cx2)]∧(Kp (fun b_=>b_=E) d w')∧(Blk w' E 34 (cLb Ax1 nx1 cx1 Ax2 nx2 cx2 x))) ?_ (fun K=>?_)
  ·rintro a6 aD ⟨M,u,ao⟩
   rw [← sA M]
   have aV:=u.size
   refine Ab 2 G (Qc ent91 (c_slices_Clone___impl_Map_impl_Map_ aD x.Maps (V.kn u oB) oB) G ?_)
   rintro e bh ⟨ap,ay,ar,rfl,q,A⟩
   refine ⟨_,G,?_⟩
   have aW:=A.size
   have z:=u.lo A
   have ah:=q.len
   have ai:=q.rd.bound
   refine Qn ⟨z,_,G,(Ak 6 G z (fun w' hw'=>fA fa34_0 G)<|Ag oC G (J _ _ (⟨ap,ay,ar,(At.r G),z,(q.down),(ao.lo A),ah,ai⟩)))⟩
  refine Ak 0 G (kr a) (fun w' hw'=>fA fa34_0 G)<|Ak 3 G (kr a) (fun w' hw'=>fA fa34_1 G)<|Ar [1,4] oC G ⟨Bm G trivial ?_,Bm G trivial ?_,trivial⟩
  ·refine Q (lB sca31 G ((p.lo b).lo a) G) (Qn ⟨(kq d).lo a,_,G,(Ar [2,4] oC G ⟨Bm G trivial ?_,Bm G trivial ?_,trivial⟩)⟩)
   ·refine Qc ent91 (c_slices_Clone___impl_Map_impl_Map_ aA x.Maps (V.lo a) oB) G ?_
    rintro e bi ⟨aq,az,au,rfl,s,n⟩
    refine ⟨_,G,?_⟩
    have aX:=n.size
    have i:=((kr a:Kp (fun b_=>b_=E) d _)).lo n
    have aj:=s.len
    have ak:=s.rd.bound
    refine Qn ⟨i,_,G,(Ab 4 G (Q (lB sca32 G (((p.lo b).lo a).lo n) G) (Qn ⟨i,_,G,(Ak 6 G i (fun w' hw'=>fA fa34_0 G)<|Ag oC G (J _ _ (⟨aq,az,au,(At.r G),i,(s.down),(((p.lo b).lo a).lo n),aj,ak⟩)))⟩)))⟩
   ·refine Q (lB sca32 G ((p.lo b).lo a) G) (Qn ⟨(kq d).lo a,_,G,(Ag oC G (K _ _ (⟨(At.r G),(kq d).lo a,((p.lo b).lo a)⟩)))⟩)
  ·refine Q (lB sca32 G ((p.lo b).lo a) G) (Qn ⟨(kq d).lo a,_,G,(Ab 1 G (Q (lB sca31 G ((p.lo b).lo a) G) (Qn ⟨(kq d).lo a,_,G,(Ag oC G (K _ _ (⟨(At.r G),(kq d).lo a,((p.lo b).lo a)⟩)))⟩)))⟩)
 rintro a7 bj ⟨f,c,g,D,C,F,N,v,al,am,an,ab,T,U,ba,bb⟩
 rw [← sA N]
 have aY:=v.size
 refine Ws (Wr (Q (lG agg34 G an G)<|Qw (o:=0) (vs:=(cLb f c g D C F x)) agg34.2 G G G G (aw.kn v oB) ler G ?_))
 intro bl B aQ aa
 refine Qn (We (retC G G agg34 aa G (⟨f,c,g,D,C,F,eR G,((al.kn B).down),((am.kn B).down),ab,(((((lr w).lo ac).lo b).new v oB).new B)⟩)))
theorem c_spec_l32Own (w:World) (x:Library) (am:SlR w Bx1 encLMap 3 Ax1 nx1 cx1 x.Maps) (an:SlR w Bx2 encAway 2 Ax2 nx2 cx2 x.Away) (bR:(nx1:Int)≤1048576) (bS:(nx2:Int)≤1048576):Calls Tryz.prog 79 #[.agg (List.toArray (cLb Ax1 nx1 cx1 Ax2 nx2 cx2 x))] w fun e w'=>∃ A1' n1' c1' A2' n2' c2',e=.returned (.agg (List.toArray (cLb A1' n1' c1' A2' n2' c2' x)))∧SlO w' w.heap.size encLMap 3 102 A1' n1' c1' x.Maps∧SlO w' w.heap.size encAway 2 129 A2' n2' c2' x.Away∧Dj A1' A2'∧Lo w w':=by
 refine cW 18 Tryz.func79 G G G ?_
 have aY:=am.bound
 have bc:=am.len
 have aV:=am.bd
 have aZ:=an.bound
 have be:=an.len
 have aW:=an.bd
 refine Ws (Wr (bx G ?_))
 intro g1 w2 bQ aH bT aa
 refine Qa (l:=zLb) tz34 G ?_
 intro M d bB c bC Z
 refine Qn (Ws ?_)
 have aw:=(am.lo aH).lo c
 refine WA (Kp (fun b_=>b_=M) d) (fun f' w'=>∃ (m:Nat) (b:Option Addr) (f:Nat) (i:Nat) (v:Option Addr) (K:Nat),At f' [(2,pt M)]∧(Kp (fun b_=>b_=M) d w')∧(SlO w' d.heap.size encLMap 3 102 b (0+nx1) f x.Maps)∧(SlO w' d.heap.size encAway 2 129 v (0+nx2) K x.Away)∧(Blk w' M 34 [.slice b (0+nx1) f,.slice v (0+nx2) K,i6 x.Bought,i6 x.Dropped,i6 x.Mended])∧Dj b v) mo ?_ ?_
 ·intro bD a
  have bg:=a.size
  refine Av #[true,true,true,true,true,true,true,false,true,true,true,true,true,true,false,false] 3 (fun f' w'=>∃ (m:Nat) (b:Option Addr) (f:Nat) (i:Nat),At f' [(2,pt M),(6,.slice b (0+nx1) f),(7,.slice (pA i) 0 0),(9,.slice Ax2 nx2 cx2),(12,i6 x.Bought),(14,i6 x.Dropped),(16,i6 x.Mended)]∧(Kp (fun b_=>b_=M) d w')∧(SlO w' d.heap.size encLMap 3 102 b (0+nx1) f x.Maps)∧(SlO w' d.heap.size encAway 2 129 (pA i) 0 0 ([]:List Away))∧(Blk w' M 34 zLb)∧(∀ b_,b=some ⟨b_,0,none⟩→¬(pA i)=some ⟨b_,0,none⟩)) ?_ (fun ah=>?_)
  ·rintro bu bE ⟨m,b,f,i,aj,z,ae,H,aJ,ab⟩
   rw [← sA aj]
   have bh:=z.size
   refine Ab 7 G (Qp tel32 G G H (((an.lo aH).lo c).kn z oB) (fun _=>G) oB oB ?_)
   intro J N bF p O ax
   have bi:=p.size
   have B:=z.step p (fun i_ hi_ e'=>by have:=H.base_le e'; omega)
   rw [List.nil_append] at O
   have aF:Dj J b:=fun b_ e' h'=>(ax b_ e').elim (fun h=>(fun b_ h h'=>ab b_ h' h) b_ (h.trans e') h') (fun h=>by have:=ae.base_le h'; omega)
   refine Qn ⟨B,_,G,(Ak 14 G B (fun w' hw'=>r_build (vs:=[(0,.slice b (0+nx1) f),(1,.slice J (0+nx2) N),(2,i6 x.Bought),(3,i6 x.Dropped),(4,i6 x.Mended)]) G (bld34_0_1_2_3_4 _ _ _ _ _ _ _ _ _))<|Ab 15 G (Qw (o:=0) (vs:=[.slice b (0+nx1) f,.slice J (0+nx2) N,i6 x.Bought,i6 x.Dropped,i6 x.Mended]) agg34.2 G G G G (aJ.kp p (nE H)) ler G ?_))⟩
   intro bG D bf aD
   have S:=B.step D (fun _ _ e=>e)
   refine Qn ⟨S,_,G,(Ad oC (⟨m,b,f,i,J,N,⟨G,trivial⟩,S,(((ae.kp p (fun b_ hb e'=>ab b_ hb e')).kn D).down),((O.kn D).down),aD,(fun b_ h h'=>aF b_ h' h)⟩))⟩
  refine Av #[true,true,true,false,true,true,true,false,true,true,true,true,true,true,false,false] 4 (fun f' w'=>∃ (m:Nat) (n:Nat),At f' [(2,pt M),(3,.slice (pA m) 0 0),(5,.slice Ax1 nx1 cx1),(7,.slice (pA n) 0 0),(9,.slice Ax2 nx2 cx2),(12,i6 x.Bought),(14,i6 x.Dropped),(16,i6 x.Mended)]∧(Kp (fun b_=>b_=M) d w')∧(SlO w' d.heap.size encLMap 3 102 (pA m) 0 0 ([]:List LMap))∧(SlO w' d.heap.size encAway 2 129 (pA n) 0 0 ([]:List Away))∧(Blk w' M 34 zLb)∧(∀ b_,(pA m)=some ⟨b_,0,none⟩→¬(pA n)=some ⟨b_,0,none⟩)) ?_ (fun ai=>?_)
  ·rintro bz bH ⟨m,n,ak,A,I,ag,aO,ac⟩
   rw [← sA ak]
   have bj:=A.size
   refine Ab 3 G (Qp tel31 G G I (aw.kn A oB) (fun _=>G) oB oB ?_)
   intro ao aR bI q P ay
   have bl:=q.size
   have T:=A.step q (fun i_ hi_ e'=>by have:=I.base_le e'; omega)
   rw [List.nil_append] at P
   have aG:∀ b_,ao=some ⟨b_,0,none⟩→¬(pA n)=some ⟨b_,0,none⟩:=fun b_ e' h'=>(ay b_ e').elim (fun h=>ac b_ (h.trans e') h') (fun h=>by have:=ag.base_le h'; omega)
   refine Qn ⟨T,_,G,(Ag oC G (ah _ _ (⟨m,ao,aR,n,(At.r G),T,(P.down),((ag.kp q (fun b_ hb e'=>ac b_ e' hb)).down),(aO.kp q (nE I)),aG⟩)))⟩
  refine Ak 1 G (kr a) (fun w' hw'=>fA fa34_0 G)<|Ak 2 G (kr a) (fun w' hw'=>lB sca31 G ((aa.lo c).kn hw' oB) G)<|Ak 5 G (kr a) (fun w' hw'=>fA fa34_1 G)<|Ak 6 G (kr a) (fun w' hw'=>lB sca32 G ((aa.lo c).kn hw' oB) G)<|Ak 8 G (kr a) (fun w' hw'=>fA fa34_2 G)<|Ak 9 G (kr a) (fun w' hw'=>lB sca3 G ((aa.lo c).kn hw' oB) G)<|Ak 10 G (kr a) (fun w' hw'=>fA fa34_3 G)<|Ak 11 G (kr a) (fun w' hw'=>lB sca3 G ((aa.lo c).kn hw' oB) G)<|Ak 12 G (kr a) (fun w' hw'=>fA fa34_4 G)<|Ak 13 G (kr a) (fun w' hw'=>lB sca3 G ((aa.lo c).kn hw' oB) G)<|Ar [0,4] oC G ⟨Bm G trivial ?_,Bm G trivial ?_,trivial⟩
  ·refine Ql (vs:=[]) (L:=([]:List LMap)) (enc:=encLMap) tel31 (fun _=>G) G G G oG ?_
   intro ap bJ a6 k j
   have bm:=k.size
   have C:=((kr a:Kp (fun b_=>b_=M) d _)).lo k
   refine Qn ⟨C,_,G,(Ar [3,4] oC G ⟨Bm G trivial ?_,Bm G trivial ?_,trivial⟩)⟩
   ·refine Qp tel31 G G j ((aw.lo a).lo k) (fun _=>G) oB oB ?_
    intro aQ aT bK E y aX
    have bn:=E.size
    have U:=C.step E (fun i_ hi_ e'=>by have:=j.base_le e'; omega)
    rw [List.nil_append] at y
    refine Qn ⟨U,_,G,(Ab 4 G (Ql (vs:=[]) (L:=([]:List Away)) (enc:=encAway) tel32 (fun _=>G) G G G oG ?_))⟩
    intro aq bL a7 s az
    have bo:=s.size
    have V:=U.lo s
    refine Qn ⟨V,_,G,(Ag oC G (ah _ _ (⟨ap,aQ,aT,aq,(At.r G),V,((y.lo s).down),(az.down),((((Z.lo a).lo k).kp E (nE j)).lo s),(fun b_ h h'=>(nE (g:=aq) y) (h.trans h'.symm))⟩)))⟩
   ·refine Ql (vs:=[]) (L:=([]:List Away)) (enc:=encAway) tel32 (fun _=>G) G G G oG ?_
    intro ar bM a8 t aA
    have bp:=t.size
    have W:=C.lo t
    refine Qn ⟨W,_,G,(Ag oC G (ai _ _ (⟨ap,ar,(At.r G),W,((j.lo t).down),(aA.down),(((Z.lo a).lo k).lo t),(fun b_ h h'=>(nE (g:=ar) j) (h.trans h'.symm))⟩)))⟩
  ·refine Ql (vs:=[]) (L:=([]:List Away)) (enc:=encAway) tel32 (fun _=>G) G G G oG ?_
   intro aU bN ba F Q
   have bq:=F.size
   have X:=((kr a:Kp (fun b_=>b_=M) d _)).lo F
   refine Qn ⟨X,_,G,(Ab 0 G (Ql (vs:=[]) (L:=([]:List LMap)) (enc:=encLMap) tel31 (fun _=>G) G G G oG ?_))⟩
   intro au bO bb u aC
   have bs:=u.size
   have Y:=X.lo u
   refine Qn ⟨Y,_,G,(Ag oC G (ai _ _ (⟨au,aU,(At.r G),Y,(aC.down),((Q.lo u).down),(((Z.lo a).lo F).lo u),(fun b_ h h'=>(nE (g:=au) Q) (h'.trans h.symm))⟩)))⟩
 rintro bA bP ⟨m,b,f,i,v,K,al,R,aK,aM,aN,aE⟩
 rw [← sA al]
 have bt:=R.size
 refine We (retC G G agg34 aN G (⟨b,0+nx1,f,v,0+nx2,K,eR G,(aK.down),(aM.down),aE,((((lr w).lo aH).lo c).new R oB)⟩))
theorem c__impl_Library__awayAt (w:World) (x:Library) (b:SlR w Bx1 encLMap 3 Ax1 nx1 cx1 x.Maps) (a:SlR w Bx2 encAway 2 Ax2 nx2 cx2 x.Away) (id:Int) (r:Int) (q:(nx2:Int)≤1048576):Calls Tryz.prog 209 #[.agg (List.toArray (cLb Ax1 nx1 cx1 Ax2 nx2 cx2 x)),i6 id,i6 r] w fun e w'=>e=.returned (.tuple (List.toArray [i6 (bsP cmpA (⟨id,r⟩:Away) x.Away:Int),.bool (decide (bsF cmpA (⟨id,r⟩:Away) x.Away))]))∧Lo w w':=by
 refine cW 16 Tryz.func209 G G G ?_
 have j:=b.bound
 have l:=b.len
 have f:=b.bd
 have k:=a.bound
 have m:=a.len
 have g:=a.bd
 refine Ws (Wr (bx G ?_))
 intro u t p d s i
 refine Q (aI G)<|Q (aB G)<|Qn (Ws (Wr (Q (fA fa34_1 G)<|Q (lB sca32 G i G)<|Q (mI G)<|Q (mI G)<|Q (r_build (vs:=[(0,i6 id),(1,i6 r)]) G (bld129_0_1 _ _))<|Qv ent227 (c_slices_BinarySearchFunc___impl_Away_impl_Away_impl_Away_ t x.Away (a.lo d) (⟨id,r⟩:Away) (fun (u_:Away) (v_:Away)=>cmpA u_ v_) ⟨ent123,fun w'' hw'' x y=>(c_impl_compareAway w'' x y).mono fun _ _ h=>⟨h.1,h.2⟩⟩ oB) G fun z c o=>?_)))
 have n:bsP (fun (u_:Away) (v_:Away)=>cmpA u_ v_) (⟨id,r⟩:Away) x.Away≤x.Away.length:=bsP_le
 refine Q (xI G G)<|Q (xB G G)<|Q (aI G)<|Q (aB G)<|Qn (We (ret2 G (v:=i6 _) (v':=.bool _) G G (⟨eR (eT2 (eI oX) (eDD (by exact Iff.rfl))),(((lr w).lo d).lo c)⟩)))
open Classical in
noncomputable def impl_Library_buy (x:Library) (s:LibraryStep):Library :=
 if bsF cmpM s.Id x.Maps then (⟨x.Maps.set ((bsP cmpM s.Id x.Maps:Int).toNat) ({ (gt x.Maps ((bsP cmpM s.Id x.Maps:Int).toNat)) with Copies:=IntKind.i64.wrap (((gt x.Maps ((bsP cmpM s.Id x.Maps:Int).toNat)).Copies)+s.Value) }),x.Away,IntKind.i64.wrap (x.Bought+s.Value),x.Dropped,x.Mended⟩:Library) else (⟨(x.Maps.take (bsP cmpM s.Id x.Maps:Int).toNat++([(⟨s.Id,0,0⟩:LMap)]:List LMap)++x.Maps.drop (bsP cmpM s.Id x.Maps:Int).toNat).set ((bsP cmpM s.Id x.Maps:Int).toNat) ({ (gt (x.Maps.take (bsP cmpM s.Id x.Maps:Int).toNat++([(⟨s.Id,0,0⟩:LMap)]:List LMap)++x.Maps.drop (bsP cmpM s.Id x.Maps:Int).toNat) ((bsP cmpM s.Id x.Maps:Int).toNat)) with Copies:=IntKind.i64.wrap (((gt (x.Maps.take (bsP cmpM s.Id x.Maps:Int).toNat++([(⟨s.Id,0,0⟩:LMap)]:List LMap)++x.Maps.drop (bsP cmpM s.Id x.Maps:Int).toNat) ((bsP cmpM s.Id x.Maps:Int).toNat)).Copies)+s.Value) }),x.Away,IntKind.i64.wrap (x.Bought+s.Value),x.Dropped,x.Mended⟩:Library)
theorem c__impl_Library__buy (w:World) (x:Library) (F:SlO w Bx1 encLMap 3 102 Ax1 nx1 cx1 x.Maps) (K:SlO w Bx2 encAway 2 129 Ax2 nx2 cx2 x.Away) (s:LibraryStep) (hdx_Maps_x2:Dj Ax1 Ax2) (bX:(nx1:Int)≤100) (bY:(nx2:Int)≤100):Calls Tryz.prog 151 #[.agg (List.toArray (cLb Ax1 nx1 cx1 Ax2 nx2 cx2 x)),.agg (List.toArray (encLibraryStep s))] w fun e w'=>∃ A1' n1' c1' A2' n2' c2',e=.returned (.agg (List.toArray (cLb A1' n1' c1' A2' n2' c2' (impl_Library_buy x s))))∧SlO w' Bx1 encLMap 3 102 A1' n1' c1' ((impl_Library_buy x s).Maps)∧SlO w' Bx2 encAway 2 129 A2' n2' c2' ((impl_Library_buy x s).Away)∧Dj A1' A2'∧(Og A1' Ax1 Ax2 w)∧(Og A2' Ax1 Ax2 w)∧Kp (KB Ax1 Ax2) w w':=by
 refine cW 43 Tryz.func151 G G G ?_
 have aY:=F.rd.cap
 have aU:=F.rd.bd
 have aW:=F.rd.bound
 have aE:=F.len
 have aQ:=F.bd
 have aZ:=K.rd.cap
 have aV:=K.rd.bd
 have aX:=K.rd.bound
 have ag:=K.len
 have aR:=K.bd
 refine Ws (Wr (bx G ?_))
 intro g1 w2 bW T bZ aT
 have ab:=nE (g:=g1) F
 have aa:=nE (g:=g1) K
 refine bx G ?_
 intro U b4 bz z bF an
 have O:=nE (g:=U) (F.lo T)
 refine Qa (l:=zLb) tz34 G ?_
 intro S bq bA A bG Y
 have P:=nE (g:=S) ((F.lo T).lo z)
 have ao:=nE (g:=S) ((K.lo T).lo z)
 refine Qn (Ws ?_)
 have C:=(aT.lo z).lo A
 have j:=((F.lo T).lo z).lo A
 have R:=((K.lo T).lo z).lo A
 refine Wr (Q (lG agg34 G C G)<|Q (fA fa106_1 G)<|Q (lB sca3 G (an.lo A) G)<|Qv ent121 (c__impl_Library__mapAt bq x (j.rd) (R.rd) s.Id oB) G fun p c bJ=>?_)
 have am:=((((kr T:Kp (KB Ax1 Ax2) w _)).lo z).lo A).lo c
 have bD:bsP cmpM s.Id x.Maps≤x.Maps.length:=bsP_le
 refine Q (mT G)<|Q (xI G G)<|Q (xB G G)<|Q (aI G)<|Q (aB G)<|Qn (Ws (Ws ?_))
 have J:=(an.lo A).lo c
 refine Wr (Q (mB G)<|Q (rN G)<|Qn (Wz G (fun V=>?_) (fun V=>?_)))
 ·refine Wr (Q (fA fa34_0 G)<|Q (lB sca31 G (C.lo c) G)<|Q (mI G)<|Q (fA fa106_1 G)<|Q (lB sca3 G J G)<|Q (r_build (vs:=[(0,i6 s.Id)]) G (bld102_0 _))<|Ql (vs:=[.agg (List.toArray [i6 s.Id,i6 0,i6 0])]) (L:=([(⟨s.Id,0,0⟩:LMap)]:List LMap)) (enc:=encLMap) tel31 (fun _=>G) G G G oG ?_)
  intro aO bs bB f aM
  have bK:=f.size
  refine Qc ent182 (c_slices_Insert___impl_Map_impl_Map_ bs x.Maps ((j.lo c).lo f) (bsP cmpM s.Id x.Maps:Int) ([(⟨s.Id,0,0⟩:LMap)]:List LMap) aM oB oB oB (fun b_ h h'=>(nE (g:=aO) (j.lo c)) (h'.trans h.symm))) G ?_
  rintro e b5 ⟨d,al,ai,rfl,u,y,B⟩
  refine ⟨_,G,?_⟩
  have bL:=B.size
  have ap:Dj d Ax2:=fun b_ e' h'=>(y b_ e').elim (fun h=>hdx_Maps_x2 b_ h h') (fun h=>by have:=((R.lo c).lo f).base_le h'; omega)
  have m:¬d=some ⟨g1,0,none⟩:=fun e'=>(y g1 e').elim (fun h=>ab h) (fun h=>by have:=((C.lo c).lo f).lt; omega)
  have aq:¬d=some ⟨U,0,none⟩:=fun e'=>(y U e').elim (fun h=>O h) (fun h=>by have:=(J.lo f).lt; omega)
  have ar:¬d=some ⟨S,0,none⟩:=fun e'=>(y S e').elim (fun h=>P h) (fun h=>by have:=((Y.lo c).lo f).lt; omega)
  have aN:=u.len
  have bC:=u.rd.bound
  have bE:=ins_len1 x.Maps (⟨s.Id,0,0⟩:LMap) ((bsP cmpM s.Id x.Maps:Int).toNat)
  refine Q (fA fa34_0 G)<|Qw (o:=0) (vs:=[.slice d al ai]) sca31.2 G G G G (((C.lo c).lo f).kp B (fun e'=>ab e')) ler G ?_
  intro q n bH Z
  refine Qn (Ws ?_)
  have au:=((J.lo f).kp B (fun e'=>O e')).kn n
  refine WA (Kp (KA d) q) (fun f' w'=>At f' [(2,pt g1),(3,pt U),(4,pt S)]∧(Kp (KA d) q w')∧(SlO w' Bx1 encLMap 3 102 d al ai ((x.Maps.take (bsP cmpM s.Id x.Maps:Int).toNat++([(⟨s.Id,0,0⟩:LMap)]:List LMap)++x.Maps.drop (bsP cmpM s.Id x.Maps:Int).toNat).set ((bsP cmpM s.Id x.Maps:Int).toNat) ({ (gt (x.Maps.take (bsP cmpM s.Id x.Maps:Int).toNat++([(⟨s.Id,0,0⟩:LMap)]:List LMap)++x.Maps.drop (bsP cmpM s.Id x.Maps:Int).toNat) ((bsP cmpM s.Id x.Maps:Int).toNat)) with Copies:=IntKind.i64.wrap (((gt (x.Maps.take (bsP cmpM s.Id x.Maps:Int).toNat++([(⟨s.Id,0,0⟩:LMap)]:List LMap)++x.Maps.drop (bsP cmpM s.Id x.Maps:Int).toNat) ((bsP cmpM s.Id x.Maps:Int).toNat)).Copies)+s.Value) })))∧((x.Maps.take (bsP cmpM s.Id x.Maps:Int).toNat++([(⟨s.Id,0,0⟩:LMap)]:List LMap)++x.Maps.drop (bsP cmpM s.Id x.Maps:Int).toNat)[(bsP cmpM s.Id x.Maps:Int).toNat]?=some (gt (x.Maps.take (bsP cmpM s.Id x.Maps:Int).toNat++([(⟨s.Id,0,0⟩:LMap)]:List LMap)++x.Maps.drop (bsP cmpM s.Id x.Maps:Int).toNat) ((bsP cmpM s.Id x.Maps:Int).toNat)))∧(((x.Maps.take (bsP cmpM s.Id x.Maps:Int).toNat++([(⟨s.Id,0,0⟩:LMap)]:List LMap)++x.Maps.drop (bsP cmpM s.Id x.Maps:Int).toNat).set ((bsP cmpM s.Id x.Maps:Int).toNat) ({ (gt (x.Maps.take (bsP cmpM s.Id x.Maps:Int).toNat++([(⟨s.Id,0,0⟩:LMap)]:List LMap)++x.Maps.drop (bsP cmpM s.Id x.Maps:Int).toNat) ((bsP cmpM s.Id x.Maps:Int).toNat)) with Copies:=IntKind.i64.wrap (((gt (x.Maps.take (bsP cmpM s.Id x.Maps:Int).toNat++([(⟨s.Id,0,0⟩:LMap)]:List LMap)++x.Maps.drop (bsP cmpM s.Id x.Maps:Int).toNat) ((bsP cmpM s.Id x.Maps:Int).toNat)).Copies)+s.Value) }))[(bsP cmpM s.Id x.Maps:Int).toNat]?=some ({ (gt (x.Maps.take (bsP cmpM s.Id x.Maps:Int).toNat++([(⟨s.Id,0,0⟩:LMap)]:List LMap)++x.Maps.drop (bsP cmpM s.Id x.Maps:Int).toNat) ((bsP cmpM s.Id x.Maps:Int).toNat)) with Copies:=IntKind.i64.wrap (((gt (x.Maps.take (bsP cmpM s.Id x.Maps:Int).toNat++([(⟨s.Id,0,0⟩:LMap)]:List LMap)++x.Maps.drop (bsP cmpM s.Id x.Maps:Int).toNat) ((bsP cmpM s.Id x.Maps:Int).toNat)).Copies)+s.Value) }))) mo ?_ ?_
  ·intro bM a
   have bj:=a.size
   refine Ak 0 G ((kr a:Kp (KA d) q _)) (fun w' hw'=>fA fa34_0 G)<|Ak 1 G ((kr a:Kp (KA d) q _)) (fun w' hw'=>lB sca31 G (Z.kp hw' (fun e'=>m e')) G)<|Ak 2 G ((kr a:Kp (KA d) q _)) (fun w' hw'=>mI G)<|?_
   have H:=(((u.kd n m).lo a).rd).elem (i:=(bsP cmpM s.Id x.Maps:Int).toNat) oB
   refine Ak 6 G ((kr a:Kp (KA d) q _)) (fun w' hw'=>fA fa106_3 G)<|Ak 7 G ((kr a:Kp (KA d) q _)) (fun w' hw'=>lB sca3 G (au.kp hw' (fun e'=>aq e')) G)<|Ab 3 G (Q (rX tsl31 (((u.kd n m).lo a).rd) G G oB) (Qn ⟨(kr a:Kp (KA d) q _),_,G,(Ak 4 G ((kr a:Kp (KA d) q _)) (fun w' hw'=>fA fa102_1 G)<|Ab 5 G (Q (r_ld (v:=i6 ((gt (x.Maps.take (bsP cmpM s.Id x.Maps:Int).toNat++([(⟨s.Id,0,0⟩:LMap)]:List LMap)++x.Maps.drop (bsP cmpM s.Id x.Maps:Int).toNat) ((bsP cmpM s.Id x.Maps:Int).toNat)).Copies)) sca3 G ((((u.kd n m).lo a).rd).cell H G)) (Qn ⟨(kr a:Kp (KA d) q _),_,G,(Ak 8 G ((kr a:Kp (KA d) q _)) (fun w' hw'=>r_addW G G)<|Ab 9 G (Q (rX tsl31 (((u.kd n m).lo a).rd) G G oB) (Qn ⟨(kr a:Kp (KA d) q _),_,G,(Ak 10 G ((kr a:Kp (KA d) q _)) (fun w' hw'=>fA fa102_1 G)<|Ab 11 G (SR.storeO (o:=1) (vs:=[i6 (IntKind.i64.wrap (((gt (x.Maps.take (bsP cmpM s.Id x.Maps:Int).toNat++([(⟨s.Id,0,0⟩:LMap)]:List LMap)++x.Maps.drop (bsP cmpM s.Id x.Maps:Int).toNat) ((bsP cmpM s.Id x.Maps:Int).toNat)).Copies)+s.Value))]) (x1:={ (gt (x.Maps.take (bsP cmpM s.Id x.Maps:Int).toNat++([(⟨s.Id,0,0⟩:LMap)]:List LMap)++x.Maps.drop (bsP cmpM s.Id x.Maps:Int).toNat) ((bsP cmpM s.Id x.Maps:Int).toNat)) with Copies:=IntKind.i64.wrap (((gt (x.Maps.take (bsP cmpM s.Id x.Maps:Int).toNat++([(⟨s.Id,0,0⟩:LMap)]:List LMap)++x.Maps.drop (bsP cmpM s.Id x.Maps:Int).toNat) ((bsP cmpM s.Id x.Maps:Int).toNat)).Copies)+s.Value) }) sca3.2 G (add_add _ _ _) G G ((u.kd n m).lo a) H G ler G ?_))⟩)))⟩)))⟩))
   intro bN ac a8 ax
   have bl:=ac.size
   have W:=((kr a:Kp (KA d) q _)).step ac (fun _ _ e=>e)
   have aH:((x.Maps.take (bsP cmpM s.Id x.Maps:Int).toNat++([(⟨s.Id,0,0⟩:LMap)]:List LMap)++x.Maps.drop (bsP cmpM s.Id x.Maps:Int).toNat).set ((bsP cmpM s.Id x.Maps:Int).toNat) ({ (gt (x.Maps.take (bsP cmpM s.Id x.Maps:Int).toNat++([(⟨s.Id,0,0⟩:LMap)]:List LMap)++x.Maps.drop (bsP cmpM s.Id x.Maps:Int).toNat) ((bsP cmpM s.Id x.Maps:Int).toNat)) with Copies:=IntKind.i64.wrap (((gt (x.Maps.take (bsP cmpM s.Id x.Maps:Int).toNat++([(⟨s.Id,0,0⟩:LMap)]:List LMap)++x.Maps.drop (bsP cmpM s.Id x.Maps:Int).toNat) ((bsP cmpM s.Id x.Maps:Int).toNat)).Copies)+s.Value) }))[(bsP cmpM s.Id x.Maps:Int).toNat]?=some ({ (gt (x.Maps.take (bsP cmpM s.Id x.Maps:Int).toNat++([(⟨s.Id,0,0⟩:LMap)]:List LMap)++x.Maps.drop (bsP cmpM s.Id x.Maps:Int).toNat) ((bsP cmpM s.Id x.Maps:Int).toNat)) with Copies:=IntKind.i64.wrap (((gt (x.Maps.take (bsP cmpM s.Id x.Maps:Int).toNat++([(⟨s.Id,0,0⟩:LMap)]:List LMap)++x.Maps.drop (bsP cmpM s.Id x.Maps:Int).toNat) ((bsP cmpM s.Id x.Maps:Int).toNat)).Copies)+s.Value) }):=List.getElem?_set_self (List.getElem?_eq_some_iff.1 H).1
   refine Qn ⟨W,_,G,(Ad oC (⟨(At.r G),W,ax,H,aH⟩))⟩
  rintro bt bO ⟨aj,k,aF,bI,bg⟩
  rw [← sA aj]
  have bm:=k.size
  have aw:=(((am.lo f).step B (fun i_ hi_ e'=>by have:=((j.lo c).lo f).base_le e'; first | omega | exact e' | exact .inl e' | exact .inr e')).new n).step k (fun i_ hi_ e'=>((show Og d Ax1 Ax2 w from (fun b_ h_=>(y b_ h_).elim (fun h=>((show Og Ax1 Ax1 Ax2 w from (fun b_ h_=>.inl (.inl h_))) b_ h)) (fun h=>.inr oB))) i_ e').elim (fun e_=>e_) (fun e_=>by omega))
  refine Ws (Wr (Q (fA fa34_2 G)<|Q (lB sca3 G (Z.kp k (fun e'=>m e')) G)<|Q (fA fa106_3 G)<|Q (lB sca3 G (au.kp k (fun e'=>aq e')) G)<|Q (r_addW G G)<|Q (fA fa34_2 G)<|Qw (o:=2) (vs:=[i6 (IntKind.i64.wrap (x.Bought+s.Value))]) sca3.2 G G G G (Z.kp k (fun e'=>m e')) ler G ?_))
  intro bP D ba az
  refine Qn (Ws (Wr (Q (lG agg34 G az G)<|Qw (o:=0) (vs:=[.slice d al ai,.slice Ax2 nx2 cx2,i6 (IntKind.i64.wrap (x.Bought+s.Value)),i6 x.Dropped,i6 x.Mended]) agg34.2 G G G G ((((((Y.lo c).lo f).kp B (fun e'=>P e')).kn n).kp k (fun e'=>ar e')).kn D) ler G ?_)))
  intro bQ M bb aA
  refine Qn (We (retC G G agg34 aA G ?_))
  refine ⟨d,al,ai,Ax2,nx2,cx2,eR (e5 ?_ ?_ ?_),(oq ((aF.kd D m).kd M ar) ?_),(oq (((((((R.lo c).lo f).kp B (fun b_ hb e'=>hdx_Maps_x2 b_ e' hb)).kd n aa).kp k (fun b_ hb e'=>ap b_ e' hb)).kd D aa).kd M ao) ?_),ap,(fun b_ h_=>(y b_ h_).elim (fun h=>((show Og Ax1 Ax1 Ax2 w from (fun b_ h_=>.inl (.inl h_))) b_ h)) (fun h=>.inr oB)),(fun b_ h_=>.inl (.inr h_)),((aw.new D).new M)⟩ <;> (subst ag aN; unfold impl_Library_buy; rw [if_neg V] <;> rfl)
 ·have a6:=And.left V
  have a7:=And.left V
  refine Wk (Ws (WA (Kp (KA Ax1) p) (fun f' w'=>At f' [(2,pt g1),(3,pt U),(4,pt S)]∧(Kp (KA Ax1) p w')∧(SlO w' Bx1 encLMap 3 102 Ax1 nx1 cx1 (x.Maps.set ((bsP cmpM s.Id x.Maps:Int).toNat) ({ (gt x.Maps ((bsP cmpM s.Id x.Maps:Int).toNat)) with Copies:=IntKind.i64.wrap (((gt x.Maps ((bsP cmpM s.Id x.Maps:Int).toNat)).Copies)+s.Value) })))∧(x.Maps[(bsP cmpM s.Id x.Maps:Int).toNat]?=some (gt x.Maps ((bsP cmpM s.Id x.Maps:Int).toNat)))∧((x.Maps.set ((bsP cmpM s.Id x.Maps:Int).toNat) ({ (gt x.Maps ((bsP cmpM s.Id x.Maps:Int).toNat)) with Copies:=IntKind.i64.wrap (((gt x.Maps ((bsP cmpM s.Id x.Maps:Int).toNat)).Copies)+s.Value) }))[(bsP cmpM s.Id x.Maps:Int).toNat]?=some ({ (gt x.Maps ((bsP cmpM s.Id x.Maps:Int).toNat)) with Copies:=IntKind.i64.wrap (((gt x.Maps ((bsP cmpM s.Id x.Maps:Int).toNat)).Copies)+s.Value) }))) mo ?_ ?_))
  ·intro bR b
   have bn:=b.size
   refine Ak 0 G ((kr b:Kp (KA Ax1) p _)) (fun w' hw'=>fA fa34_0 G)<|Ak 1 G ((kr b:Kp (KA Ax1) p _)) (fun w' hw'=>lB sca31 G ((C.lo c).kp hw' (fun e'=>ab e')) G)<|Ak 2 G ((kr b:Kp (KA Ax1) p _)) (fun w' hw'=>mI G)<|?_
   have I:=(((j.lo c).lo b).rd).elem (i:=(bsP cmpM s.Id x.Maps:Int).toNat) oB
   refine Ak 6 G ((kr b:Kp (KA Ax1) p _)) (fun w' hw'=>fA fa106_3 G)<|Ak 7 G ((kr b:Kp (KA Ax1) p _)) (fun w' hw'=>lB sca3 G (J.kp hw' (fun e'=>O e')) G)<|Ab 3 G (Q (rX tsl31 (((j.lo c).lo b).rd) G G oB) (Qn ⟨(kr b:Kp (KA Ax1) p _),_,G,(Ak 4 G ((kr b:Kp (KA Ax1) p _)) (fun w' hw'=>fA fa102_1 G)<|Ab 5 G (Q (r_ld (v:=i6 ((gt x.Maps ((bsP cmpM s.Id x.Maps:Int).toNat)).Copies)) sca3 G ((((j.lo c).lo b).rd).cell I G)) (Qn ⟨(kr b:Kp (KA Ax1) p _),_,G,(Ak 8 G ((kr b:Kp (KA Ax1) p _)) (fun w' hw'=>r_addW G G)<|Ab 9 G (Q (rX tsl31 (((j.lo c).lo b).rd) G G oB) (Qn ⟨(kr b:Kp (KA Ax1) p _),_,G,(Ak 10 G ((kr b:Kp (KA Ax1) p _)) (fun w' hw'=>fA fa102_1 G)<|Ab 11 G (SR.storeO (o:=1) (vs:=[i6 (IntKind.i64.wrap (((gt x.Maps ((bsP cmpM s.Id x.Maps:Int).toNat)).Copies)+s.Value))]) (x1:={ (gt x.Maps ((bsP cmpM s.Id x.Maps:Int).toNat)) with Copies:=IntKind.i64.wrap (((gt x.Maps ((bsP cmpM s.Id x.Maps:Int).toNat)).Copies)+s.Value) }) sca3.2 G (add_add _ _ _) G G ((j.lo c).lo b) I G ler G ?_))⟩)))⟩)))⟩))
   intro bS ae bc ay
   have bo:=ae.size
   have X:=((kr b:Kp (KA Ax1) p _)).step ae (fun _ _ e=>e)
   have aJ:(x.Maps.set ((bsP cmpM s.Id x.Maps:Int).toNat) ({ (gt x.Maps ((bsP cmpM s.Id x.Maps:Int).toNat)) with Copies:=IntKind.i64.wrap (((gt x.Maps ((bsP cmpM s.Id x.Maps:Int).toNat)).Copies)+s.Value) }))[(bsP cmpM s.Id x.Maps:Int).toNat]?=some ({ (gt x.Maps ((bsP cmpM s.Id x.Maps:Int).toNat)) with Copies:=IntKind.i64.wrap (((gt x.Maps ((bsP cmpM s.Id x.Maps:Int).toNat)).Copies)+s.Value) }):=List.getElem?_set_self (List.getElem?_eq_some_iff.1 I).1
   refine Qn ⟨X,_,G,(Ad oC (⟨(At.r G),X,ay,I,aJ⟩))⟩
  rintro bu bT ⟨ak,t,aG,bh,bi⟩
  rw [← sA ak]
  have bp:=t.size
  refine Ws ?_
  have ah:=(C.lo c).kp t (fun e'=>ab e')
  refine Wr (Q (fA fa34_2 G)<|Q (lB sca3 G ah G)<|Q (fA fa106_3 G)<|Q (lB sca3 G (J.kp t (fun e'=>O e')) G)<|Q (r_addW G G)<|Q (fA fa34_2 G)<|Qw (o:=2) (vs:=[i6 (IntKind.i64.wrap (x.Bought+s.Value))]) sca3.2 G G G G ah ler G ?_)
  intro bU E be aC
  refine Qn (Ws (Wr (Q (lG agg34 G aC G)<|Qw (o:=0) (vs:=[.slice Ax1 nx1 cx1,.slice Ax2 nx2 cx2,i6 (IntKind.i64.wrap (x.Bought+s.Value)),i6 x.Dropped,i6 x.Mended]) agg34.2 G G G G (((Y.lo c).kp t (fun e'=>P e')).kn E) ler G ?_)))
  intro bV N bf aD
  refine Qn (We (retC G G agg34 aD G ?_))
  refine ⟨Ax1,nx1,cx1,Ax2,nx2,cx2,eR (e5 ?_ ?_ ?_),(oq ((aG.kd E ab).kd N P) ?_),(oq ((((R.lo c).kp t (fun b_ hb e'=>hdx_Maps_x2 b_ e' hb)).kd E aa).kd N ao) ?_),hdx_Maps_x2,(fun b_ h_=>.inl (.inl h_)),(fun b_ h_=>.inl (.inr h_)),(((am.step t (fun i_ hi_ e'=>by have:=(j.lo c).base_le e'; first | omega | exact e' | exact .inl e' | exact .inr e')).new E).new N)⟩ <;> (subst aE ag; unfold impl_Library_buy; rw [if_pos V] <;> rfl)
open Classical in
noncomputable def impl_Library_give (x:Library) (id:Int) (reader:Int):Library × Bool :=
 if bsF cmpA (⟨id,reader⟩:Away) x.Away then ((⟨([]:List LMap),([]:List Away),0,0,0⟩:Library),false) else ((⟨x.Maps,x.Away.take (bsP cmpA (⟨id,reader⟩:Away) x.Away:Int).toNat++([(⟨id,reader⟩:Away)]:List Away)++x.Away.drop (bsP cmpA (⟨id,reader⟩:Away) x.Away:Int).toNat,x.Bought,x.Dropped,x.Mended⟩:Library),true)
theorem c__impl_Library__give (w:World) (x:Library) (f:SlO w Bx1 encLMap 3 102 Ax1 nx1 cx1 x.Maps) (i:SlO w Bx2 encAway 2 129 Ax2 nx2 cx2 x.Away) (id:Int) (reader:Int) (hdx_Maps_x2:Dj Ax1 Ax2) (aA:(nx1:Int)≤100) (aC:(nx2:Int)≤100):Calls Tryz.prog 183 #[.agg (List.toArray (cLb Ax1 nx1 cx1 Ax2 nx2 cx2 x)),i6 id,i6 reader] w fun e w'=>∃ A1' n1' c1' A2' n2' c2',e=.returned (.tuple (List.toArray [.agg (List.toArray (cLb A1' n1' c1' A2' n2' c2' ((impl_Library_give x id reader).1))),.bool ((impl_Library_give x id reader).2)]))∧SlO w' Bx1 encLMap 3 102 A1' n1' c1' (((impl_Library_give x id reader).1).Maps)∧SlO w' Bx2 encAway 2 129 A2' n2' c2' (((impl_Library_give x id reader).1).Away)∧Dj A1' A2'∧(Og A1' Ax1 Ax2 w)∧(Og A2' Ax1 Ax2 w)∧Kp (KB Ax1 Ax2) w w':=by
 refine cW 29 Tryz.func183 G G G ?_
 have ab:=f.rd.cap
 have X:=f.rd.bd
 have Z:=f.rd.bound
 have E:=f.len
 have V:=f.bd
 have ac:=i.rd.cap
 have Y:=i.rd.bd
 have aa:=i.rd.bound
 have ae:=i.len
 have W:=i.bd
 refine Ws (Wr (bx G ?_))
 intro T w2 az s aD J
 have B:=nE (g:=T) i
 refine Qa (l:=zLb) tz34 G ?_
 intro z ag ai c ap r
 have C:=nE (g:=z) (i.lo s)
 refine Q (aB G)<|Qn (Ws ?_)
 have u:=(f.lo s).lo c
 have m:=(i.lo s).lo c
 refine Wr (Q (lG agg34 G (J.lo c) G)<|Q (mI G)<|Q (mI G)<|Qv ent209 (c__impl_Library__awayAt ag x (u.rd) (m.rd) id reader oB) G fun aE a aw=>?_)
 have A:=(((kr s:Kp (KB Ax1 Ax2) w _)).lo c).lo a
 have al:bsP cmpA (⟨id,reader⟩:Away) x.Away≤x.Away.length:=bsP_le
 refine Q (mT G)<|Q (xI G G)<|Q (xB G G)<|Q (aI G)<|Q (aB G)<|Qn (Ws (Ws ?_))
 have y:=(J.lo c).lo a
 refine Wr (Q (mB G)<|Qn (Wd G (fun p=>?_) (fun p=>?_)))
 ·have am:=And.left p
  have an:=And.left p
  refine Ws (Wr (Q (r_build (vs:=[]) G bld34_)<|Qw (o:=0) (vs:=zLb) agg34.2 G G G G (r.lo a) ler G ?_))
  intro aF R aq I
  refine Q (aB G)<|Qn (We (retCT G G agg34 I G (v:=.bool _) G ?_))
  refine ⟨none,0,0,none,0,0,eR (eT2 (e5 ?_ ?_ ?_) (eB ?_)),(oq (SlO.nil (e:=102) (enc:=encLMap) (fun _=>G) oB) ?_),(oq (SlO.nil (e:=129) (enc:=encAway) (fun _=>G) oB) ?_),(fun b_ h=>by cases h),(fun b_ h=>by cases h),(fun b_ h=>by cases h),(A.new R)⟩ <;> (unfold impl_Library_give; rw [if_pos p] <;> rfl)
 ·refine Wk (Ws (Wr (Q (fA fa34_1 G)<|Q (lB sca32 G y G)<|Q (mI G)<|Q (mI G)<|Q (mI G)<|Q (r_build (vs:=[(0,i6 id),(1,i6 reader)]) G (bld129_0_1 _ _))<|Ql (vs:=[.agg (List.toArray [i6 id,i6 reader])]) (L:=([(⟨id,reader⟩:Away)]:List Away)) (enc:=encAway) tel32 (fun _=>G) G G G oG ?_)))
  intro U ah aj b H
  have ax:=b.size
  refine Qc ent210 (c_slices_Insert___impl_Away_impl_Away_ ah x.Away ((m.lo a).lo b) (bsP cmpA (⟨id,reader⟩:Away) x.Away:Int) ([(⟨id,reader⟩:Away)]:List Away) H oB oB oB (fun b_ h h'=>(nE (g:=U) (m.lo a)) (h'.trans h.symm))) G ?_
  rintro e aG ⟨n,F,D,rfl,q,j,d⟩
  refine ⟨_,G,?_⟩
  have ay:=d.size
  have N:Dj n Ax1:=fun b_ e' h'=>(j b_ e').elim (fun h=>(fun b_ h h'=>hdx_Maps_x2 b_ h' h) b_ h h') (fun h=>by have:=((u.lo a).lo b).base_le h'; omega)
  have O:¬n=some ⟨T,0,none⟩:=fun e'=>(j T e').elim (fun h=>B h) (fun h=>by have:=(y.lo b).lt; omega)
  have P:¬n=some ⟨z,0,none⟩:=fun e'=>(j z e').elim (fun h=>C h) (fun h=>by have:=((r.lo a).lo b).lt; omega)
  have S:=q.len
  have ak:=q.rd.bound
  have ao:=ins_len1 x.Away (⟨id,reader⟩:Away) ((bsP cmpA (⟨id,reader⟩:Away) x.Away:Int).toNat)
  refine Q (fA fa34_1 G)<|Qw (o:=1) (vs:=[.slice n F D]) sca32.2 G G G G ((y.lo b).kp d (fun e'=>B e')) ler G ?_
  intro aH k ar K
  refine Qn (Ws (Wr (Q (lG agg34 G K G)<|Qw (o:=0) (vs:=(cLb Ax1 nx1 cx1 n F D x)) agg34.2 G G G G ((((r.lo a).lo b).kp d (fun e'=>C e')).kn k) ler G ?_)))
  intro aJ t au M
  refine Q (aB G)<|Qn (We (retCT G G agg34 M G (v:=.bool _) G ?_))
  refine ⟨Ax1,nx1,cx1,n,F,D,eR (eT2 (e5 ?_ ?_ ?_) (eB ?_)),(oq (((((u.lo a).lo b).kp d (fun b_ hb e'=>hdx_Maps_x2 b_ hb e')).kd k (nE (g:=T) f)).kd t (nE (g:=z) (f.lo s))) ?_),(oq ((q.kd k O).kd t P) ?_),(fun b_ h h'=>N b_ h' h),(fun b_ h_=>.inl (.inl h_)),(fun b_ h_=>(j b_ h_).elim (fun h=>((show Og Ax2 Ax1 Ax2 w from (fun b_ h_=>.inl (.inr h_))) b_ h)) (fun h=>.inr oB)),((((A.lo b).step d (fun i_ hi_ e'=>by have:=((m.lo a).lo b).base_le e'; first | omega | exact e' | exact .inl e' | exact .inr e')).new k).new t)⟩ <;> (subst E S; unfold impl_Library_give; rw [if_neg p] <;> rfl)
open Classical in
noncomputable def impl_Library_fetch (x:Library) (id:Int) (reader:Int):Library × Bool :=
 if bsF cmpA (⟨id,reader⟩:Away) x.Away then ((⟨x.Maps,x.Away.take (bsP cmpA (⟨id,reader⟩:Away) x.Away:Int).toNat++x.Away.drop ((bsP cmpA (⟨id,reader⟩:Away) x.Away:Int)+1).toNat,x.Bought,x.Dropped,x.Mended⟩:Library),true) else ((⟨([]:List LMap),([]:List Away),0,0,0⟩:Library),false)
theorem c__impl_Library__fetch (w:World) (x:Library) (d:SlO w Bx1 encLMap 3 102 Ax1 nx1 cx1 x.Maps) (f:SlO w Bx2 encAway 2 129 Ax2 nx2 cx2 x.Away) (id:Int) (reader:Int) (hdx_Maps_x2:Dj Ax1 Ax2) (aw:(nx1:Int)≤100) (ax:(nx2:Int)≤100):Calls Tryz.prog 184 #[.agg (List.toArray (cLb Ax1 nx1 cx1 Ax2 nx2 cx2 x)),i6 id,i6 reader] w fun e w'=>∃ A1' n1' c1' A2' n2' c2',e=.returned (.tuple (List.toArray [.agg (List.toArray (cLb A1' n1' c1' A2' n2' c2' ((impl_Library_fetch x id reader).1))),.bool ((impl_Library_fetch x id reader).2)]))∧SlO w' Bx1 encLMap 3 102 A1' n1' c1' (((impl_Library_fetch x id reader).1).Maps)∧SlO w' Bx2 encAway 2 129 A2' n2' c2' (((impl_Library_fetch x id reader).1).Away)∧Dj A1' A2'∧(Og A1' Ax1 Ax2 w)∧(Og A2' Ax1 Ax2 w)∧Kp (KB Ax1 Ax2) w w':=by
 refine cW 28 Tryz.func184 G G G ?_
 have Z:=d.rd.cap
 have V:=d.rd.bd
 have X:=d.rd.bound
 have F:=d.len
 have T:=d.bd
 have aa:=f.rd.cap
 have W:=f.rd.bd
 have Y:=f.rd.bound
 have ab:=f.len
 have U:=f.bd
 refine Ws (Wr (bx G ?_))
 intro S w2 au s ay K
 have C:=nE (g:=S) f
 refine Qa (l:=zLb) tz34 G ?_
 intro A ac ag b am r
 have D:=nE (g:=A) (f.lo s)
 refine Q (aB G)<|Qn (Ws ?_)
 have u:=(d.lo s).lo b
 have y:=(f.lo s).lo b
 refine Wr (Q (lG agg34 G (K.lo b) G)<|Q (mI G)<|Q (mI G)<|Qv ent209 (c__impl_Library__awayAt ac x (u.rd) (y.rd) id reader oB) G fun ae a aq=>?_)
 have B:=(((kr s:Kp (KB Ax1 Ax2) w _)).lo b).lo a
 have ai:bsP cmpA (⟨id,reader⟩:Away) x.Away≤x.Away.length:=bsP_le
 refine Q (mT G)<|Q (xI G G)<|Q (xB G G)<|Q (aI G)<|Q (aB G)<|Qn (Ws (Ws ?_))
 have z:=(K.lo b).lo a
 refine Wr (Q (mB G)<|Q (rN G)<|Qn (Wz G (fun p=>?_) (fun p=>?_)))
 ·refine Ws (Wr (Q (r_build (vs:=[]) G bld34_)<|Qw (o:=0) (vs:=zLb) agg34.2 G G G G (r.lo a) ler G ?_))
  intro az P an I
  refine Q (aB G)<|Qn (We (retCT G G agg34 I G (v:=.bool _) G ?_))
  refine ⟨none,0,0,none,0,0,eR (eT2 (e5 ?_ ?_ ?_) (eB ?_)),(oq (SlO.nil (e:=102) (enc:=encLMap) (fun _=>G) oB) ?_),(oq (SlO.nil (e:=129) (enc:=encAway) (fun _=>G) oB) ?_),(fun b_ h=>by cases h),(fun b_ h=>by cases h),(fun b_ h=>by cases h),(B.new P)⟩ <;> (unfold impl_Library_fetch; rw [if_neg p] <;> rfl)
 ·have aj:=And.left p
  have ak:=And.left p
  refine Wk (Ws (Wr (Q (fA fa34_1 G)<|Q (lB sca32 G z G)<|Q (mI G)<|Q (mI G)<|Q (r_add G G oB)<|Qc ent211 (c_slices_Delete___impl_Away_impl_Away_ ae x.Away (y.lo a) (bsP cmpA (⟨id,reader⟩:Away) x.Away:Int) ((bsP cmpA (⟨id,reader⟩:Away) x.Away:Int)+1) oB oB oB) G ?_)))
  rintro e aA ⟨n,H,E,rfl,q,k,c⟩
  refine ⟨_,G,?_⟩
  have ar:=c.size
  have M:Dj n Ax1:=fun b_ e' h'=>(k b_ e').elim (fun h=>(fun b_ h h'=>hdx_Maps_x2 b_ h' h) b_ h h') (fun h=>by have:=(u.lo a).base_le h'; omega)
  have N:¬n=some ⟨S,0,none⟩:=fun e'=>(k S e').elim (fun h=>C h) (fun h=>by have:=z.lt; omega)
  have O:¬n=some ⟨A,0,none⟩:=fun e'=>(k A e').elim (fun h=>D h) (fun h=>by have:=(r.lo a).lt; omega)
  have R:=q.len
  have ah:=q.rd.bound
  have al:=del_lenT x.Away (i:=(bsP cmpA (⟨id,reader⟩:Away) x.Away:Int).toNat) (j:=((bsP cmpA (⟨id,reader⟩:Away) x.Away:Int)+1).toNat) oB
  refine Q (fA fa34_1 G)<|Qw (o:=1) (vs:=[.slice n H E]) sca32.2 G G G G (z.kp c (fun e'=>C e')) ler G ?_
  intro aC m ao J
  refine Qn (Ws (Wr (Q (lG agg34 G J G)<|Qw (o:=0) (vs:=(cLb Ax1 nx1 cx1 n H E x)) agg34.2 G G G G (((r.lo a).kp c (fun e'=>D e')).kn m) ler G ?_)))
  intro aD t ap L
  refine Q (aB G)<|Qn (We (retCT G G agg34 L G (v:=.bool _) G ?_))
  refine ⟨Ax1,nx1,cx1,n,H,E,eR (eT2 (e5 ?_ ?_ ?_) (eB ?_)),(oq ((((u.lo a).kp c (fun b_ hb e'=>hdx_Maps_x2 b_ hb e')).kd m (nE (g:=S) d)).kd t (nE (g:=A) (d.lo s))) ?_),(oq ((q.kd m N).kd t O) ?_),(fun b_ h h'=>M b_ h' h),(fun b_ h_=>.inl (.inl h_)),(fun b_ h_=>(k b_ h_).elim (fun h=>((show Og Ax2 Ax1 Ax2 w from (fun b_ h_=>.inl (.inr h_))) b_ h)) (fun h=>.inr oB)),(((B.step c (fun i_ hi_ e'=>by have:=(y.lo a).base_le e'; first | omega | exact e' | exact .inl e' | exact .inr e')).new m).new t)⟩ <;> (subst F R; unfold impl_Library_fetch; rw [if_pos p] <;> rfl)
end Go.Proofs.YtndcchndcghmoaaGreatDoor
namespace Go.Proofs.YtndcchndcghmoaaGreatDoor
open Go Go.RowKit Fw
section
variable (x : Library) (s : LibraryStep) (i r : Int)
theorem fetch_lenMaps:(((impl_Library_fetch x i r).1).Maps).length≤x.Maps.length:=by
  unfold impl_Library_fetch; split <;> simp
theorem fetch_lenAway:(((impl_Library_fetch x i r).1).Away).length≤x.Away.length:=by
  unfold impl_Library_fetch; split
  · exact del_lenT _ oB
  · simp
theorem give_lenMaps:(((impl_Library_give x i r).1).Maps).length≤x.Maps.length:=by
  unfold impl_Library_give; split <;> simp
theorem give_lenAway:(((impl_Library_give x i r).1).Away).length≤x.Away.length+1:=by
  unfold impl_Library_give; split
  · simp
  · exact Nat.le_of_eq (ins_len1 _ _ _)
theorem buy_lenMaps:((impl_Library_buy x s).Maps).length≤x.Maps.length+1:=by
  unfold impl_Library_buy; split
  · simp
  · simp only [List.length_set]; exact Nat.le_of_eq (ins_len1 _ _ _)
theorem buy_lenAway:((impl_Library_buy x s).Away).length≤x.Away.length:=by
  unfold impl_Library_buy; split <;> simp
end
end Go.Proofs.YtndcchndcghmoaaGreatDoor
namespace Go.Proofs.YtndcchndcghmoaaGreatDoor
open Go Go.RowKit Fw
set_option maxRecDepth 10000
set_option maxHeartbeats 2000000
set_option linter.unusedVariables false
variable {Ax1 Ax2 : Option Addr} {nx1 cx1 Bx1 nx2 cx2 Bx2 : Nat}
theorem agg106:TAgg Tryz.prog 106 4:=tG
theorem ent183:Ent Tryz.prog 183:=en Tryz.func183
theorem ent184:Ent Tryz.prog 184:=en Tryz.func184
theorem ent185:Ent Tryz.prog 185:=en Tryz.func185
open Classical in
noncomputable def impl_Library_hand (x:Library) (s:LibraryStep):Library × Bool :=
 if s.Reader=s.Value then ((⟨([]:List LMap),([]:List Away),0,0,0⟩:Library),false) else if (!((impl_Library_fetch x s.Id s.Reader).2))=true then ((⟨([]:List LMap),([]:List Away),0,0,0⟩:Library),false) else (((impl_Library_give ((impl_Library_fetch x s.Id s.Reader).1) s.Id s.Value).1),(impl_Library_give ((impl_Library_fetch x s.Id s.Reader).1) s.Id s.Value).2)
theorem c__impl_Library__hand (w:World) (x:Library) (j:SlO w Bx1 encLMap 3 102 Ax1 nx1 cx1 x.Maps) (k:SlO w Bx2 encAway 2 129 Ax2 nx2 cx2 x.Away) (s:LibraryStep) (hdx_Maps_x2:Dj Ax1 Ax2) (bo:(nx1:Int)≤100) (bp:(nx2:Int)≤100):Calls Tryz.prog 185 #[.agg (List.toArray (cLb Ax1 nx1 cx1 Ax2 nx2 cx2 x)),.agg (List.toArray (encLibraryStep s))] w fun e w'=>∃ A1' n1' c1' A2' n2' c2',e=.returned (.tuple (List.toArray [.agg (List.toArray (cLb A1' n1' c1' A2' n2' c2' ((impl_Library_hand x s).1))),.bool ((impl_Library_hand x s).2)]))∧SlO w' Bx1 encLMap 3 102 A1' n1' c1' (((impl_Library_hand x s).1).Maps)∧SlO w' Bx2 encAway 2 129 A2' n2' c2' (((impl_Library_hand x s).1).Away)∧Dj A1' A2'∧(Og A1' Ax1 Ax2 w)∧(Og A2' Ax1 Ax2 w)∧Kp (KB Ax1 Ax2) w w':=by
 refine cW 34 Tryz.func185 G G G ?_
 have aF:=j.rd.cap
 have aA:=j.rd.bd
 have aD:=j.rd.bound
 have aK:=j.len
 have ax:=j.bd
 have aG:=k.rd.cap
 have aC:=k.rd.bd
 have aE:=k.rd.bound
 have aM:=k.len
 have ay:=k.bd
 refine Ws (Wr (bx G ?_))
 intro g1 w2 bn q bq az
 refine bx G ?_
 intro aj bs aV c be d
 refine Qa (l:=zLb) tz34 G ?_
 intro b aT aW a bf z
 have S:=(((kr q:Kp (KB Ax1 Ax2) w _)).lo c).lo a
 have J:=nE (g:=b) ((j.lo q).lo c)
 have K:=nE (g:=b) ((k.lo q).lo c)
 refine Q (aB G)<|Qn (Ws (Ws ?_))
 have U:=((j.lo q).lo c).lo a
 have V:=((k.lo q).lo c).lo a
 refine Wr (Q (fA fa106_2 G)<|Q (lB sca3 G (d.lo a) G)<|Q (fA fa106_3 G)<|Q (lB sca3 G (d.lo a) G)<|Q (r_eq G G)<|Qn (Wd G (fun O=>?_) (fun O=>?_)))
 ·refine Ws (Wr (Q (r_build (vs:=[]) G bld34_)<|Qw (o:=0) (vs:=zLb) agg34.2 G G G G z ler G ?_))
  intro bt aq bg al
  refine Q (aB G)<|Qn (We (retCT G G agg34 al G (v:=.bool _) G ?_))
  refine ⟨none,0,0,none,0,0,eR (eT2 (e5 ?_ ?_ ?_) (eB ?_)),(oq (SlO.nil (e:=102) (enc:=encLMap) (fun _=>G) oB) ?_),(oq (SlO.nil (e:=129) (enc:=encAway) (fun _=>G) oB) ?_),(fun b_ h=>by cases h),(fun b_ h=>by cases h),(fun b_ h=>by cases h),(S.new aq)⟩ <;> (unfold impl_Library_hand; rw [if_pos O] <;> rfl)
 ·refine Wk (Ws (Wr (Q (lG agg34 G ((az.lo c).lo a) G)<|Q (fA fa106_1 G)<|Q (lB sca3 G (d.lo a) G)<|Q (fA fa106_2 G)<|Q (lB sca3 G (d.lo a) G)<|Qc ent184 (c__impl_Library__fetch aT x U V s.Id s.Reader hdx_Maps_x2 oB oB) G ?_)))
  rintro e bu ⟨D,aQ,au,E,aR,aw,rfl,u,y,ap,r,t,A⟩
  refine ⟨_,G,?_⟩
  have bl:=A.size
  have L:¬D=some ⟨b,0,none⟩:=fun e'=>(r b e').elim (fun h=>h.elim (fun h=>J h) (fun h=>K h)) (fun h=>by have:=z.lt; omega)
  have M:¬E=some ⟨b,0,none⟩:=fun e'=>(t b e').elim (fun h=>h.elim (fun h=>J h) (fun h=>K h)) (fun h=>by have:=z.lt; omega)
  have aY:=u.len
  have aZ:=u.rd.bound
  have a8:=fetch_lenMaps x s.Id s.Reader
  have a6:=y.len
  have a7:=y.rd.bound
  have ba:=fetch_lenAway x s.Id s.Reader
  refine Q (mT G)<|Q (xG G G)<|Q (xB G G)<|Qa (l:=zLb) tz34 G ?_
  intro ak bz aX f bh am
  refine Qw (o:=0) (vs:=(cLb D aQ au E aR aw ((impl_Library_fetch x s.Id s.Reader).1))) agg34.2 G G G G am ler G ?_
  intro aU i bi an
  have T:=((S.step A (fun i_ hi_ e'=>e'.elim (fun e'=>by have:=U.base_le e'; first | omega | exact e' | exact .inl e' | exact .inr e') (fun e'=>by have:=V.base_le e'; first | omega | exact e' | exact .inl e' | exact .inr e'))).lo f).new i
  refine Q (aB G)<|Qn (Ws (Ws ?_))
  have W:=(((d.lo a).kp A (fun e'=>e'.elim (fun e'=>(nE (g:=aj) (j.lo q)) e') (fun e'=>(nE (g:=aj) (k.lo q)) e'))).lo f).kn i
  have B:=((z.kp A (fun e'=>e'.elim (fun e'=>J e') (fun e'=>K e'))).lo f).kn i
  refine Wr (Q (mB G)<|Q (rN G)<|Qn (Wb G (fun F=>?_) (fun F=>?_)))
  ·have bb:=bnot_t F
   refine Ws (Wr (Q (r_build (vs:=[]) G bld34_)<|Qw (o:=0) (vs:=zLb) agg34.2 G G G G B ler G ?_))
   intro bA ar bj ao
   refine Q (aB G)<|Qn (We (retCT G G agg34 ao G (v:=.bool _) G ?_))
   refine ⟨none,0,0,none,0,0,eR (eT2 (e5 ?_ ?_ ?_) (eB ?_)),(oq (SlO.nil (e:=102) (enc:=encLMap) (fun _=>G) oB) ?_),(oq (SlO.nil (e:=129) (enc:=encAway) (fun _=>G) oB) ?_),(fun b_ h=>by cases h),(fun b_ h=>by cases h),(fun b_ h=>by cases h),(T.new ar)⟩ <;> (unfold impl_Library_hand; rw [if_neg O,if_pos F] <;> rfl)
  ·have bc:=bnot_f F
   refine Wk (Ws (Wr (Q (lG agg34 G an G)<|Q (fA fa106_1 G)<|Q (lB sca3 G W G)<|Q (fA fa106_3 G)<|Q (lB sca3 G W G)<|Qc ent183 (c__impl_Library__give aU ((impl_Library_fetch x s.Id s.Reader).1) ((u.lo f).kd i (nE (g:=ak) u)) ((y.lo f).kd i (nE (g:=ak) y)) s.Id s.Value ap oB oB) G ?_)))
   rintro e bB ⟨Z,X,P,C,Y,R,rfl,m,n,ac,H,I,N⟩
   refine ⟨_,G,?_⟩
   have aO:=N.size
   have aa:=T.step N (fun i_ hi_ e'=>e'.elim (fun e'=>((show Og D Ax1 Ax2 w from (fun b_ h_=>(r b_ h_).elim (fun h=>h.elim (fun h=>((show Og Ax1 Ax1 Ax2 w from (fun b_ h_=>.inl (.inl h_))) b_ h)) (fun h=>((show Og Ax2 Ax1 Ax2 w from (fun b_ h_=>.inl (.inr h_))) b_ h))) (fun h=>.inr oB))) i_ e').elim (fun e_=>e_) (fun e_=>by omega)) (fun e'=>((show Og E Ax1 Ax2 w from (fun b_ h_=>(t b_ h_).elim (fun h=>h.elim (fun h=>((show Og Ax1 Ax1 Ax2 w from (fun b_ h_=>.inl (.inl h_))) b_ h)) (fun h=>((show Og Ax2 Ax1 Ax2 w from (fun b_ h_=>.inl (.inr h_))) b_ h))) (fun h=>.inr oB))) i_ e').elim (fun e_=>e_) (fun e_=>by omega)))
   have ae:¬Z=some ⟨b,0,none⟩:=fun e'=>(H b e').elim (fun h=>h.elim (fun h=>L h) (fun h=>M h)) (fun h=>by have:=B.lt; omega)
   have ag:¬C=some ⟨b,0,none⟩:=fun e'=>(I b e').elim (fun h=>h.elim (fun h=>L h) (fun h=>M h)) (fun h=>by have:=B.lt; omega)
   have ah:=m.len
   have aH:=m.rd.bound
   have ai:=n.len
   have aJ:=n.rd.bound
   refine Q (xG G G)<|Q (xB G G)<|Qw (o:=0) (vs:=(cLb Z X P C Y R ((impl_Library_give ((impl_Library_fetch x s.Id s.Reader).1) s.Id s.Value).1))) agg34.2 G G G G (B.kp N (fun e'=>e'.elim (fun e'=>L e') (fun e'=>M e'))) ler G ?_
   intro bm p aN ab
   refine Q (aB G)<|Qn (We (retCT G G agg34 ab G (v:=.bool _) G ?_))
   refine ⟨Z,X,P,C,Y,R,eR (eT2 (e5 ?_ ?_ ?_) (eB ?_)),(oq (m.kd p ae) ?_),(oq (n.kd p ag) ?_),ac,(fun b_ h_=>(H b_ h_).elim (fun h=>h.elim (fun h=>((show Og D Ax1 Ax2 w from (fun b_ h_=>(r b_ h_).elim (fun h=>h.elim (fun h=>((show Og Ax1 Ax1 Ax2 w from (fun b_ h_=>.inl (.inl h_))) b_ h)) (fun h=>((show Og Ax2 Ax1 Ax2 w from (fun b_ h_=>.inl (.inr h_))) b_ h))) (fun h=>.inr oB))) b_ h)) (fun h=>((show Og E Ax1 Ax2 w from (fun b_ h_=>(t b_ h_).elim (fun h=>h.elim (fun h=>((show Og Ax1 Ax1 Ax2 w from (fun b_ h_=>.inl (.inl h_))) b_ h)) (fun h=>((show Og Ax2 Ax1 Ax2 w from (fun b_ h_=>.inl (.inr h_))) b_ h))) (fun h=>.inr oB))) b_ h))) (fun h=>.inr oB)),(fun b_ h_=>(I b_ h_).elim (fun h=>h.elim (fun h=>((show Og D Ax1 Ax2 w from (fun b_ h_=>(r b_ h_).elim (fun h=>h.elim (fun h=>((show Og Ax1 Ax1 Ax2 w from (fun b_ h_=>.inl (.inl h_))) b_ h)) (fun h=>((show Og Ax2 Ax1 Ax2 w from (fun b_ h_=>.inl (.inr h_))) b_ h))) (fun h=>.inr oB))) b_ h)) (fun h=>((show Og E Ax1 Ax2 w from (fun b_ h_=>(t b_ h_).elim (fun h=>h.elim (fun h=>((show Og Ax1 Ax1 Ax2 w from (fun b_ h_=>.inl (.inl h_))) b_ h)) (fun h=>((show Og Ax2 Ax1 Ax2 w from (fun b_ h_=>.inl (.inr h_))) b_ h))) (fun h=>.inr oB))) b_ h))) (fun h=>.inr oB)),(aa.new p)⟩ <;> (subst ah ai; unfold impl_Library_hand; rw [if_neg O,if_neg (ne_true_of_eq_false F)] <;> rfl)
open Classical in
noncomputable def impl_Library_use (x:Library) (s:LibraryStep) (k:Int):Library × Bool :=
 if s.Kind=2 then (((impl_Library_give (⟨x.Maps.set k.toNat ({ (gt x.Maps k.toNat) with Copies:=IntKind.i64.wrap (((gt x.Maps k.toNat).Copies)-1) }),x.Away,x.Bought,x.Dropped,x.Mended⟩:Library) s.Id s.Reader).1),(impl_Library_give (⟨x.Maps.set k.toNat ({ (gt x.Maps k.toNat) with Copies:=IntKind.i64.wrap (((gt x.Maps k.toNat).Copies)-1) }),x.Away,x.Bought,x.Dropped,x.Mended⟩:Library) s.Id s.Reader).2) else if s.Kind=3 then (((impl_Library_fetch (⟨x.Maps.set k.toNat ({ ({ (gt x.Maps k.toNat) with Copies:=IntKind.i64.wrap (((gt x.Maps k.toNat).Copies)+1) }) with Torn:=IntKind.i64.wrap (((gt x.Maps k.toNat).Torn)+s.Value) }),x.Away,x.Bought,x.Dropped,x.Mended⟩:Library) s.Id s.Reader).1),(impl_Library_fetch (⟨x.Maps.set k.toNat ({ ({ (gt x.Maps k.toNat) with Copies:=IntKind.i64.wrap (((gt x.Maps k.toNat).Copies)+1) }) with Torn:=IntKind.i64.wrap (((gt x.Maps k.toNat).Torn)+s.Value) }),x.Away,x.Bought,x.Dropped,x.Mended⟩:Library) s.Id s.Reader).2) else if s.Kind=5 then (((impl_Library_hand x s).1),(impl_Library_hand x s).2) else if s.Kind=4 then ((⟨x.Maps.set k.toNat ({ (gt x.Maps k.toNat) with Torn:=IntKind.i64.wrap (((gt x.Maps k.toNat).Torn)-s.Value) }),x.Away,x.Bought,x.Dropped,IntKind.i64.wrap (x.Mended+s.Value)⟩:Library),true) else if s.Kind=6 then ((⟨(x.Maps.set k.toNat ({ (gt x.Maps k.toNat) with Torn:=IntKind.i64.wrap (((gt x.Maps k.toNat).Torn)-s.Value) })).set k.toNat ({ ({ (gt x.Maps k.toNat) with Torn:=IntKind.i64.wrap (((gt x.Maps k.toNat).Torn)-s.Value) }) with Copies:=IntKind.i64.wrap (((gt x.Maps k.toNat).Copies)-s.Value) }),x.Away,x.Bought,IntKind.i64.wrap (x.Dropped+s.Value),x.Mended⟩:Library),true) else ((⟨x.Maps.set k.toNat ({ (gt x.Maps k.toNat) with Torn:=IntKind.i64.wrap (((gt x.Maps k.toNat).Torn)+s.Value) }),x.Away,x.Bought,x.Dropped,x.Mended⟩:Library),true)
theorem c__impl_Library__use (w:World) (x:Library) (T:SlO w Bx1 encLMap 3 102 Ax1 nx1 cx1 x.Maps) (V:SlO w Bx2 encAway 2 129 Ax2 nx2 cx2 x.Away) (s:LibraryStep) (k:Int) (hdx_Maps_x2:Dj Ax1 Ax2) (eg:(nx1:Int)≤100) (eh:(nx2:Int)≤100) (ei:0≤k∧k<(nx1:Int)):Calls Tryz.prog 152 #[.agg (List.toArray (cLb Ax1 nx1 cx1 Ax2 nx2 cx2 x)),.agg (List.toArray (encLibraryStep s)),i6 k] w fun e w'=>∃ A1' n1' c1' A2' n2' c2',e=.returned (.tuple (List.toArray [.agg (List.toArray (cLb A1' n1' c1' A2' n2' c2' ((impl_Library_use x s k).1))),.bool ((impl_Library_use x s k).2)]))∧SlO w' Bx1 encLMap 3 102 A1' n1' c1' (((impl_Library_use x s k).1).Maps)∧SlO w' Bx2 encAway 2 129 A2' n2' c2' (((impl_Library_use x s k).1).Away)∧Dj A1' A2'∧(Og A1' Ax1 Ax2 w)∧(Og A2' Ax1 Ax2 w)∧Kp (KB Ax1 Ax2) w w':=by
 refine cW 118 Tryz.func152 G G G ?_
 have cA:=T.rd.cap
 have cw:=T.rd.bd
 have cy:=T.rd.bound
 have ak:=T.len
 have cr:=T.bd
 have cB:=V.rd.cap
 have cx:=V.rd.bd
 have cz:=V.rd.bound
 have al:=V.len
 have ct:=V.bd
 refine Ws (Wr (bx G ?_))
 intro g1 w2 ef ar ej cu
 have M:=nE (g:=g1) T
 have bq:=nE (g:=g1) V
 refine bx G ?_
 intro az ek dD O dH D
 have u:=nE (g:=az) (T.lo ar)
 refine Qa (l:=zLb) tz34 G ?_
 intro t a dE q dI A
 have N:=(((kr ar:Kp (KB Ax1 Ax2) w _)).lo O).lo q
 have b:=nE (g:=t) ((T.lo ar).lo O)
 have y:=nE (g:=t) ((V.lo ar).lo O)
 refine Q (aB G)<|Qn (Ws ?_)
 have I:=(cu.lo O).lo q
 have c:=((T.lo ar).lo O).lo q
 have J:=((V.lo ar).lo O).lo q
 refine Wr (Q (fA fa34_0 G)<|Q (lB sca31 G I G)<|Q (mI G)<|?_)
 have p:=(c.rd).elem (i:=k.toNat) oB
 refine Q (rX tsl31 (c.rd) G G oB)<|Q (aP G)<|Qn (Ws (Ws (Wr (Q (fA fa106_0 G)<|Q (lB sca3 G (D.lo q) G)<|Qn (Wl (Ws (Wr (Q (r_eq G G)<|Q (aB G)<|Qn (Wd G (fun W=>?_) (fun W=>?_))))))))))
 ·refine Ws (Wr (Q (mP G)<|Q (r_nilp G)<|Q (fA fa102_1 G)<|Q (r_ld (v:=i6 ((gt x.Maps k.toNat).Copies)) sca3 G ((c.rd).cell p G))<|Q (r_subW G G)<|Q (r_nilp G)<|Q (fA fa102_1 G)<|SR.storeO (o:=1) (vs:=[i6 (IntKind.i64.wrap (((gt x.Maps k.toNat).Copies)-1))]) (x1:={ (gt x.Maps k.toNat) with Copies:=IntKind.i64.wrap (((gt x.Maps k.toNat).Copies)-1) }) sca3.2 G (add_add _ _ _) G G c p G ler G ?_))
  intro dx E dJ bp
  have dN:=E.size
  have dM:(x.Maps.set k.toNat ({ (gt x.Maps k.toNat) with Copies:=IntKind.i64.wrap (((gt x.Maps k.toNat).Copies)-1) }))[k.toNat]?=some ({ (gt x.Maps k.toNat) with Copies:=IntKind.i64.wrap (((gt x.Maps k.toNat).Copies)-1) }):=List.getElem?_set_self (List.getElem?_eq_some_iff.1 p).1
  refine Qn (Ws ?_)
  have bs:=(D.lo q).kp E (fun e'=>u e')
  refine Wr (Q (lG agg34 G (I.kp E (fun e'=>M e')) G)<|Q (fA fa106_1 G)<|Q (lB sca3 G bs G)<|Q (fA fa106_2 G)<|Q (lB sca3 G bs G)<|Qc ent183 (c__impl_Library__give dx (⟨x.Maps.set k.toNat ({ (gt x.Maps k.toNat) with Copies:=IntKind.i64.wrap (((gt x.Maps k.toNat).Copies)-1) }),x.Away,x.Bought,x.Dropped,x.Mended⟩:Library) bp (J.kp E (fun b_ hb e'=>hdx_Maps_x2 b_ e' hb)) s.Id s.Reader hdx_Maps_x2 oB oB) G ?_)
  rintro e el ⟨bC,co,cf,bD,cp,cg,rfl,aH,aJ,cj,bn,bo,aY⟩
  refine ⟨_,G,?_⟩
  have dO:=aY.size
  have ch:=(N.step E (fun i_ hi_ e'=>by have:=c.base_le e'; first | omega | exact e' | exact .inl e' | exact .inr e')).step aY (fun i_ hi_ e'=>e'.elim (fun e'=>by have:=bp.base_le e'; first | omega | exact e' | exact .inl e' | exact .inr e') (fun e'=>by have:=(J.kp E (fun b_ hb e'=>hdx_Maps_x2 b_ e' hb)).base_le e'; first | omega | exact e' | exact .inl e' | exact .inr e'))
  have ck:¬bC=some ⟨t,0,none⟩:=fun e'=>(bn t e').elim (fun h=>h.elim (fun h=>b h) (fun h=>y h)) (fun h=>by have:=(A.kp E (fun e'=>b e')).lt; omega)
  have cl:¬bD=some ⟨t,0,none⟩:=fun e'=>(bo t e').elim (fun h=>h.elim (fun h=>b h) (fun h=>y h)) (fun h=>by have:=(A.kp E (fun e'=>b e')).lt; omega)
  have cm:=aH.len
  have dF:=aH.rd.bound
  have cn:=aJ.len
  have dG:=aJ.rd.bound
  refine Q (xG G G)<|Q (xB G G)<|Qw (o:=0) (vs:=(cLb bC co cf bD cp cg ((impl_Library_give (⟨x.Maps.set k.toNat ({ (gt x.Maps k.toNat) with Copies:=IntKind.i64.wrap (((gt x.Maps k.toNat).Copies)-1) }),x.Away,x.Bought,x.Dropped,x.Mended⟩:Library) s.Id s.Reader).1))) agg34.2 G G G G ((A.kp E (fun e'=>b e')).kp aY (fun e'=>e'.elim (fun e'=>b e') (fun e'=>y e'))) ler G ?_
  intro em aZ dK ci
  refine Q (aB G)<|Qn (We (retCT G G agg34 ci G (v:=.bool _) G ?_))
  refine ⟨bC,co,cf,bD,cp,cg,eR (eT2 (e5 ?_ ?_ ?_) (eB ?_)),(oq (aH.kd aZ ck) ?_),(oq (aJ.kd aZ cl) ?_),cj,(fun b_ h_=>(bn b_ h_).elim (fun h=>h.elim (fun h=>((show Og Ax1 Ax1 Ax2 w from (fun b_ h_=>.inl (.inl h_))) b_ h)) (fun h=>((show Og Ax2 Ax1 Ax2 w from (fun b_ h_=>.inl (.inr h_))) b_ h))) (fun h=>.inr oB)),(fun b_ h_=>(bo b_ h_).elim (fun h=>h.elim (fun h=>((show Og Ax1 Ax1 Ax2 w from (fun b_ h_=>.inl (.inl h_))) b_ h)) (fun h=>((show Og Ax2 Ax1 Ax2 w from (fun b_ h_=>.inl (.inr h_))) b_ h))) (fun h=>.inr oB)),(ch.new aZ)⟩ <;> (subst cm cn; unfold impl_Library_use; rw [if_pos W] <;> rfl)
 ·refine Ws (Wr (Q (r_eq G G)<|Q (aB G)<|Qn (Wd G (fun aq=>?_) (fun aq=>?_))))
  ·refine Ws (Wr (Q (mP G)<|Q (r_nilp G)<|Q (fA fa102_1 G)<|Q (r_ld (v:=i6 ((gt x.Maps k.toNat).Copies)) sca3 G ((c.rd).cell p G))<|Q (r_addW G G)<|Q (r_nilp G)<|Q (fA fa102_1 G)<|SR.storeO (o:=1) (vs:=[i6 (IntKind.i64.wrap (((gt x.Maps k.toNat).Copies)+1))]) (x1:={ (gt x.Maps k.toNat) with Copies:=IntKind.i64.wrap (((gt x.Maps k.toNat).Copies)+1) }) sca3.2 G (add_add _ _ _) G G c p G ler G ?_))
   intro K P dL aK
   have dP:=P.size
   have bt:(x.Maps.set k.toNat ({ (gt x.Maps k.toNat) with Copies:=IntKind.i64.wrap (((gt x.Maps k.toNat).Copies)+1) }))[k.toNat]?=some ({ (gt x.Maps k.toNat) with Copies:=IntKind.i64.wrap (((gt x.Maps k.toNat).Copies)+1) }):=List.getElem?_set_self (List.getElem?_eq_some_iff.1 p).1
   refine Qn (Ws ?_)
   have bb:=(D.lo q).kp P (fun e'=>u e')
   refine WA (Kp (KA Ax1) K) (fun f' w'=>At f' [(3,pt g1),(4,pt az),(6,pt t),(7,.bool false)]∧(Kp (KA Ax1) K w')∧(SlO w' Bx1 encLMap 3 102 Ax1 nx1 cx1 (x.Maps.set k.toNat ({ ({ (gt x.Maps k.toNat) with Copies:=IntKind.i64.wrap (((gt x.Maps k.toNat).Copies)+1) }) with Torn:=IntKind.i64.wrap (((gt x.Maps k.toNat).Torn)+s.Value) })))∧((x.Maps.set k.toNat ({ ({ (gt x.Maps k.toNat) with Copies:=IntKind.i64.wrap (((gt x.Maps k.toNat).Copies)+1) }) with Torn:=IntKind.i64.wrap (((gt x.Maps k.toNat).Torn)+s.Value) }))[k.toNat]?=some ({ ({ (gt x.Maps k.toNat) with Copies:=IntKind.i64.wrap (((gt x.Maps k.toNat).Copies)+1) }) with Torn:=IntKind.i64.wrap (((gt x.Maps k.toNat).Torn)+s.Value) }))) mo ?_ ?_
   ·intro dQ d
    have da:=d.size
    refine Ak 0 G ((kr d:Kp (KA Ax1) K _)) (fun w' hw'=>mP G)<|Ak 1 G ((kr d:Kp (KA Ax1) K _)) (fun w' hw'=>r_nilp G)<|Ak 2 G ((kr d:Kp (KA Ax1) K _)) (fun w' hw'=>fA fa102_2 G)<|Ak 4 G ((kr d:Kp (KA Ax1) K _)) (fun w' hw'=>fA fa106_3 G)<|Ak 5 G ((kr d:Kp (KA Ax1) K _)) (fun w' hw'=>lB sca3 G (bb.kp hw' (fun e'=>u e')) G)<|Ab 3 G (Q (r_ld (v:=i6 ((gt x.Maps k.toNat).Torn)) sca3 G (((aK.lo d).rd).cell bt G)) (Qn ⟨(kr d:Kp (KA Ax1) K _),_,G,(Ak 6 G ((kr d:Kp (KA Ax1) K _)) (fun w' hw'=>r_addW G G)<|Ak 7 G ((kr d:Kp (KA Ax1) K _)) (fun w' hw'=>r_nilp G)<|Ak 8 G ((kr d:Kp (KA Ax1) K _)) (fun w' hw'=>fA fa102_2 G)<|Ab 9 G (SR.storeO (o:=2) (vs:=[i6 (IntKind.i64.wrap (((gt x.Maps k.toNat).Torn)+s.Value))]) (x1:={ ({ (gt x.Maps k.toNat) with Copies:=IntKind.i64.wrap (((gt x.Maps k.toNat).Copies)+1) }) with Torn:=IntKind.i64.wrap (((gt x.Maps k.toNat).Torn)+s.Value) }) sca3.2 G (add_add _ _ _) G G (aK.lo d) bt G ler G ?_))⟩))
    intro dR aT cI aG
    have db:=aT.size
    have aM:=((kr d:Kp (KA Ax1) K _)).step aT (fun _ _ e=>e)
    rw [List.set_set] at aG
    have b8:(x.Maps.set k.toNat ({ ({ (gt x.Maps k.toNat) with Copies:=IntKind.i64.wrap (((gt x.Maps k.toNat).Copies)+1) }) with Torn:=IntKind.i64.wrap (((gt x.Maps k.toNat).Torn)+s.Value) }))[k.toNat]?=some ({ ({ (gt x.Maps k.toNat) with Copies:=IntKind.i64.wrap (((gt x.Maps k.toNat).Copies)+1) }) with Torn:=IntKind.i64.wrap (((gt x.Maps k.toNat).Torn)+s.Value) }):=List.getElem?_set_self (List.getElem?_eq_some_iff.1 p).1
    refine Qn ⟨aM,_,G,(Ad oC (⟨(At.r G),aM,aG,b8⟩))⟩
   rintro dy cq ⟨bc,B,a6,cY⟩
   rw [← sA bc]
   have de:=B.size
   refine Ws ?_
   have a7:=(J.kp P (fun b_ hb e'=>hdx_Maps_x2 b_ e' hb)).kp B (fun b_ hb e'=>hdx_Maps_x2 b_ e' hb)
   have am:=(A.kp P (fun e'=>b e')).kp B (fun e'=>b e')
   refine Wr (Q (lG agg34 G ((I.kp P (fun e'=>M e')).kp B (fun e'=>M e')) G)<|Q (fA fa106_1 G)<|Q (lB sca3 G (bb.kp B (fun e'=>u e')) G)<|Q (fA fa106_2 G)<|Q (lB sca3 G (bb.kp B (fun e'=>u e')) G)<|Qc ent184 (c__impl_Library__fetch cq (⟨x.Maps.set k.toNat ({ ({ (gt x.Maps k.toNat) with Copies:=IntKind.i64.wrap (((gt x.Maps k.toNat).Copies)+1) }) with Torn:=IntKind.i64.wrap (((gt x.Maps k.toNat).Torn)+s.Value) }),x.Away,x.Bought,x.Dropped,x.Mended⟩:Library) a6 a7 s.Id s.Reader hdx_Maps_x2 oB oB) G ?_)
   rintro e dS ⟨au,bu,bi,aw,bz,bj,rfl,X,Y,bR,aC,aD,ab⟩
   refine ⟨_,G,?_⟩
   have df:=ab.size
   have bF:=((N.step P (fun i_ hi_ e'=>by have:=c.base_le e'; first | omega | exact e' | exact .inl e' | exact .inr e')).step B (fun i_ hi_ e'=>by have:=aK.base_le e'; first | omega | exact e' | exact .inl e' | exact .inr e')).step ab (fun i_ hi_ e'=>e'.elim (fun e'=>by have:=a6.base_le e'; first | omega | exact e' | exact .inl e' | exact .inr e') (fun e'=>by have:=a7.base_le e'; first | omega | exact e' | exact .inl e' | exact .inr e'))
   have bS:¬au=some ⟨t,0,none⟩:=fun e'=>(aC t e').elim (fun h=>h.elim (fun h=>b h) (fun h=>y h)) (fun h=>by have:=am.lt; omega)
   have bT:¬aw=some ⟨t,0,none⟩:=fun e'=>(aD t e').elim (fun h=>h.elim (fun h=>b h) (fun h=>y h)) (fun h=>by have:=am.lt; omega)
   have bX:=X.len
   have cC:=X.rd.bound
   have cG:=fetch_lenMaps (⟨x.Maps.set k.toNat ({ ({ (gt x.Maps k.toNat) with Copies:=IntKind.i64.wrap (((gt x.Maps k.toNat).Copies)+1) }) with Torn:=IntKind.i64.wrap (((gt x.Maps k.toNat).Torn)+s.Value) }),x.Away,x.Bought,x.Dropped,x.Mended⟩:Library) s.Id s.Reader
   have bY:=Y.len
   have cD:=Y.rd.bound
   have cH:=fetch_lenAway (⟨x.Maps.set k.toNat ({ ({ (gt x.Maps k.toNat) with Copies:=IntKind.i64.wrap (((gt x.Maps k.toNat).Copies)+1) }) with Torn:=IntKind.i64.wrap (((gt x.Maps k.toNat).Torn)+s.Value) }),x.Away,x.Bought,x.Dropped,x.Mended⟩:Library) s.Id s.Reader
   refine Q (xG G G)<|Q (xB G G)<|Qw (o:=0) (vs:=(cLb au bu bi aw bz bj ((impl_Library_fetch (⟨x.Maps.set k.toNat ({ ({ (gt x.Maps k.toNat) with Copies:=IntKind.i64.wrap (((gt x.Maps k.toNat).Copies)+1) }) with Torn:=IntKind.i64.wrap (((gt x.Maps k.toNat).Torn)+s.Value) }),x.Away,x.Bought,x.Dropped,x.Mended⟩:Library) s.Id s.Reader).1))) agg34.2 G G G G (am.kp ab (fun e'=>e'.elim (fun e'=>b e') (fun e'=>y e'))) ler G ?_
   intro dT ac cJ bK
   refine Q (aB G)<|Qn (We (retCT G G agg34 bK G (v:=.bool _) G ?_))
   refine ⟨au,bu,bi,aw,bz,bj,eR (eT2 (e5 ?_ ?_ ?_) (eB ?_)),(oq (X.kd ac bS) ?_),(oq (Y.kd ac bT) ?_),bR,(fun b_ h_=>(aC b_ h_).elim (fun h=>h.elim (fun h=>((show Og Ax1 Ax1 Ax2 w from (fun b_ h_=>.inl (.inl h_))) b_ h)) (fun h=>((show Og Ax2 Ax1 Ax2 w from (fun b_ h_=>.inl (.inr h_))) b_ h))) (fun h=>.inr oB)),(fun b_ h_=>(aD b_ h_).elim (fun h=>h.elim (fun h=>((show Og Ax1 Ax1 Ax2 w from (fun b_ h_=>.inl (.inl h_))) b_ h)) (fun h=>((show Og Ax2 Ax1 Ax2 w from (fun b_ h_=>.inl (.inr h_))) b_ h))) (fun h=>.inr oB)),(bF.new ac)⟩ <;> (subst bX bY; unfold impl_Library_use; rw [if_neg W,if_pos aq] <;> rfl)
  ·refine Ws (Wr (Q (r_eq G G)<|Q (aB G)<|Qn (Wd G (fun U=>?_) (fun U=>?_))))
   ·refine Ws (Wr (Q (lG agg34 G I G)<|Q (lG agg106 G (D.lo q) G)<|Qc ent185 (c__impl_Library__hand a x c J s hdx_Maps_x2 oB oB) G ?_))
    rintro e dU ⟨ax,bA,bl,ay,bB,bm,rfl,Z,aa,bU,aE,aF,ae⟩
    refine ⟨_,G,?_⟩
    have dg:=ae.size
    have bV:¬ax=some ⟨t,0,none⟩:=fun e'=>(aE t e').elim (fun h=>h.elim (fun h=>b h) (fun h=>y h)) (fun h=>by have:=A.lt; omega)
    have bW:¬ay=some ⟨t,0,none⟩:=fun e'=>(aF t e').elim (fun h=>h.elim (fun h=>b h) (fun h=>y h)) (fun h=>by have:=A.lt; omega)
    have bZ:=Z.len
    have cE:=Z.rd.bound
    have b4:=aa.len
    have cF:=aa.rd.bound
    refine Q (xG G G)<|Q (xB G G)<|Qw (o:=0) (vs:=(cLb ax bA bl ay bB bm ((impl_Library_hand x s).1))) agg34.2 G G G G (A.kp ae (fun e'=>e'.elim (fun e'=>b e') (fun e'=>y e'))) ler G ?_
    intro dV ag cK bL
    refine Q (aB G)<|Qn (We (retCT G G agg34 bL G (v:=.bool _) G ?_))
    refine ⟨ax,bA,bl,ay,bB,bm,eR (eT2 (e5 ?_ ?_ ?_) (eB ?_)),(oq (Z.kd ag bV) ?_),(oq (aa.kd ag bW) ?_),bU,(fun b_ h_=>(aE b_ h_).elim (fun h=>h.elim (fun h=>((show Og Ax1 Ax1 Ax2 w from (fun b_ h_=>.inl (.inl h_))) b_ h)) (fun h=>((show Og Ax2 Ax1 Ax2 w from (fun b_ h_=>.inl (.inr h_))) b_ h))) (fun h=>.inr oB)),(fun b_ h_=>(aF b_ h_).elim (fun h=>h.elim (fun h=>((show Og Ax1 Ax1 Ax2 w from (fun b_ h_=>.inl (.inl h_))) b_ h)) (fun h=>((show Og Ax2 Ax1 Ax2 w from (fun b_ h_=>.inl (.inr h_))) b_ h))) (fun h=>.inr oB)),((N.step ae (fun i_ hi_ e'=>e'.elim (fun e'=>by have:=c.base_le e'; first | omega | exact e' | exact .inl e' | exact .inr e') (fun e'=>by have:=J.base_le e'; first | omega | exact e' | exact .inl e' | exact .inr e'))).new ag)⟩ <;> (subst bZ b4; unfold impl_Library_use; rw [if_neg W,if_neg aq,if_pos U] <;> rfl)
   ·refine Ws (Wr (Q (r_eq G G)<|Q (aB G)<|Qn (Wd G (fun ap=>?_) (fun ap=>?_))))
    ·refine Ws (WA (Kp (KA Ax1) a) (fun f' w'=>At f' [(3,pt g1),(4,pt az),(6,pt t),(7,.bool false)]∧(Kp (KA Ax1) a w')∧(SlO w' Bx1 encLMap 3 102 Ax1 nx1 cx1 (x.Maps.set k.toNat ({ (gt x.Maps k.toNat) with Torn:=IntKind.i64.wrap (((gt x.Maps k.toNat).Torn)-s.Value) })))∧((x.Maps.set k.toNat ({ (gt x.Maps k.toNat) with Torn:=IntKind.i64.wrap (((gt x.Maps k.toNat).Torn)-s.Value) }))[k.toNat]?=some ({ (gt x.Maps k.toNat) with Torn:=IntKind.i64.wrap (((gt x.Maps k.toNat).Torn)-s.Value) }))) mo ?_ ?_)
     ·intro dW f
      have dh:=f.size
      refine Ak 0 G ((kr f:Kp (KA Ax1) a _)) (fun w' hw'=>mP G)<|Ak 1 G ((kr f:Kp (KA Ax1) a _)) (fun w' hw'=>r_nilp G)<|Ak 2 G ((kr f:Kp (KA Ax1) a _)) (fun w' hw'=>fA fa102_2 G)<|Ak 4 G ((kr f:Kp (KA Ax1) a _)) (fun w' hw'=>fA fa106_3 G)<|Ak 5 G ((kr f:Kp (KA Ax1) a _)) (fun w' hw'=>lB sca3 G ((D.lo q).kp hw' (fun e'=>u e')) G)<|Ab 3 G (Q (r_ld (v:=i6 ((gt x.Maps k.toNat).Torn)) sca3 G (((c.lo f).rd).cell p G)) (Qn ⟨(kr f:Kp (KA Ax1) a _),_,G,(Ak 6 G ((kr f:Kp (KA Ax1) a _)) (fun w' hw'=>r_subW G G)<|Ak 7 G ((kr f:Kp (KA Ax1) a _)) (fun w' hw'=>r_nilp G)<|Ak 8 G ((kr f:Kp (KA Ax1) a _)) (fun w' hw'=>fA fa102_2 G)<|Ab 9 G (SR.storeO (o:=2) (vs:=[i6 (IntKind.i64.wrap (((gt x.Maps k.toNat).Torn)-s.Value))]) (x1:={ (gt x.Maps k.toNat) with Torn:=IntKind.i64.wrap (((gt x.Maps k.toNat).Torn)-s.Value) }) sca3.2 G (add_add _ _ _) G G (c.lo f) p G ler G ?_))⟩))
      intro dX aU cN bG
      have di:=aU.size
      have aN:=((kr f:Kp (KA Ax1) a _)).step aU (fun _ _ e=>e)
      have b9:(x.Maps.set k.toNat ({ (gt x.Maps k.toNat) with Torn:=IntKind.i64.wrap (((gt x.Maps k.toNat).Torn)-s.Value) }))[k.toNat]?=some ({ (gt x.Maps k.toNat) with Torn:=IntKind.i64.wrap (((gt x.Maps k.toNat).Torn)-s.Value) }):=List.getElem?_set_self (List.getElem?_eq_some_iff.1 p).1
      refine Qn ⟨aN,_,G,(Ad oC (⟨(At.r G),aN,bG,b9⟩))⟩
     rintro dz dY ⟨be,C,b5,cZ⟩
     rw [← sA be]
     have dk:=C.size
     refine Wr (Q (fA fa34_4 G)<|Q (lB sca3 G (I.kp C (fun e'=>M e')) G)<|Q (fA fa106_3 G)<|Q (lB sca3 G ((D.lo q).kp C (fun e'=>u e')) G)<|Q (r_addW G G)<|Q (fA fa34_4 G)<|Qw (o:=4) (vs:=[i6 (IntKind.i64.wrap (x.Mended+s.Value))]) sca3.2 G G G G (I.kp C (fun e'=>M e')) ler G ?_)
     intro dZ R cO bM
     refine Qn (Ws (Wr (Q (lG agg34 G bM G)<|Qw (o:=0) (vs:=[.slice Ax1 nx1 cx1,.slice Ax2 nx2 cx2,i6 x.Bought,i6 x.Dropped,i6 (IntKind.i64.wrap (x.Mended+s.Value))]) agg34.2 G G G G ((A.kp C (fun e'=>b e')).kn R) ler G ?_)))
     intro d1 ah cP bN
     refine Q (aB G)<|Qn (We (retCT G G agg34 bN G (v:=.bool _) G ?_))
     refine ⟨Ax1,nx1,cx1,Ax2,nx2,cx2,eR (eT2 (e5 ?_ ?_ ?_) (eB ?_)),(oq ((b5.kd R M).kd ah b) ?_),(oq (((J.kp C (fun b_ hb e'=>hdx_Maps_x2 b_ e' hb)).kd R bq).kd ah y) ?_),hdx_Maps_x2,(fun b_ h_=>.inl (.inl h_)),(fun b_ h_=>.inl (.inr h_)),(((N.step C (fun i_ hi_ e'=>by have:=c.base_le e'; first | omega | exact e' | exact .inl e' | exact .inr e')).new R).new ah)⟩ <;> (subst ak al; unfold impl_Library_use; rw [if_neg W,if_neg aq,if_neg U,if_pos ap] <;> rfl)
    ·refine Ws (Wr (Q (r_eq G G)<|Q (aB G)<|Qn (Wd G (fun aA=>?_) (fun aA=>?_))))
     ·refine Ws (WA (Kp (KA Ax1) a) (fun f' w'=>At f' [(3,pt g1),(4,pt az),(6,pt t),(7,.bool false),(8,.pointer (some ((adr Ax1).add (k.toNat*3))))]∧(Kp (KA Ax1) a w')∧(SlO w' Bx1 encLMap 3 102 Ax1 nx1 cx1 (x.Maps.set k.toNat ({ (gt x.Maps k.toNat) with Torn:=IntKind.i64.wrap (((gt x.Maps k.toNat).Torn)-s.Value) })))∧((x.Maps.set k.toNat ({ (gt x.Maps k.toNat) with Torn:=IntKind.i64.wrap (((gt x.Maps k.toNat).Torn)-s.Value) }))[k.toNat]?=some ({ (gt x.Maps k.toNat) with Torn:=IntKind.i64.wrap (((gt x.Maps k.toNat).Torn)-s.Value) }))) mo ?_ ?_)
      ·intro d2 j
       have dm:=j.size
       refine Ak 0 G ((kr j:Kp (KA Ax1) a _)) (fun w' hw'=>mP G)<|Ak 1 G ((kr j:Kp (KA Ax1) a _)) (fun w' hw'=>r_nilp G)<|Ak 2 G ((kr j:Kp (KA Ax1) a _)) (fun w' hw'=>fA fa102_2 G)<|Ak 4 G ((kr j:Kp (KA Ax1) a _)) (fun w' hw'=>fA fa106_3 G)<|Ak 5 G ((kr j:Kp (KA Ax1) a _)) (fun w' hw'=>lB sca3 G ((D.lo q).kp hw' (fun e'=>u e')) G)<|Ab 3 G (Q (r_ld (v:=i6 ((gt x.Maps k.toNat).Torn)) sca3 G (((c.lo j).rd).cell p G)) (Qn ⟨(kr j:Kp (KA Ax1) a _),_,G,(Ak 6 G ((kr j:Kp (KA Ax1) a _)) (fun w' hw'=>r_subW G G)<|Ak 7 G ((kr j:Kp (KA Ax1) a _)) (fun w' hw'=>r_nilp G)<|Ak 8 G ((kr j:Kp (KA Ax1) a _)) (fun w' hw'=>fA fa102_2 G)<|Ab 9 G (SR.storeO (o:=2) (vs:=[i6 (IntKind.i64.wrap (((gt x.Maps k.toNat).Torn)-s.Value))]) (x1:={ (gt x.Maps k.toNat) with Torn:=IntKind.i64.wrap (((gt x.Maps k.toNat).Torn)-s.Value) }) sca3.2 G (add_add _ _ _) G G (c.lo j) p G ler G ?_))⟩))
       intro d3 aV cQ bH
       have dn:=aV.size
       have aO:=((kr j:Kp (KA Ax1) a _)).step aV (fun _ _ e=>e)
       have ca:(x.Maps.set k.toNat ({ (gt x.Maps k.toNat) with Torn:=IntKind.i64.wrap (((gt x.Maps k.toNat).Torn)-s.Value) }))[k.toNat]?=some ({ (gt x.Maps k.toNat) with Torn:=IntKind.i64.wrap (((gt x.Maps k.toNat).Torn)-s.Value) }):=List.getElem?_set_self (List.getElem?_eq_some_iff.1 p).1
       refine Qn ⟨aO,_,G,(Ad oC (⟨(At.r G),aO,bH,ca⟩))⟩
      rintro dA z ⟨bf,F,an,ao⟩
      rw [← sA bf]
      have dp:=F.size
      refine Ws ?_
      have a8:=(D.lo q).kp F (fun e'=>u e')
      refine WA (Kp (KA Ax1) z) (fun f' w'=>At f' [(3,pt g1),(4,pt az),(6,pt t),(7,.bool false)]∧(Kp (KA Ax1) z w')∧(SlO w' Bx1 encLMap 3 102 Ax1 nx1 cx1 ((x.Maps.set k.toNat ({ (gt x.Maps k.toNat) with Torn:=IntKind.i64.wrap (((gt x.Maps k.toNat).Torn)-s.Value) })).set k.toNat ({ ({ (gt x.Maps k.toNat) with Torn:=IntKind.i64.wrap (((gt x.Maps k.toNat).Torn)-s.Value) }) with Copies:=IntKind.i64.wrap (((gt x.Maps k.toNat).Copies)-s.Value) })))∧(((x.Maps.set k.toNat ({ (gt x.Maps k.toNat) with Torn:=IntKind.i64.wrap (((gt x.Maps k.toNat).Torn)-s.Value) })).set k.toNat ({ ({ (gt x.Maps k.toNat) with Torn:=IntKind.i64.wrap (((gt x.Maps k.toNat).Torn)-s.Value) }) with Copies:=IntKind.i64.wrap (((gt x.Maps k.toNat).Copies)-s.Value) }))[k.toNat]?=some ({ ({ (gt x.Maps k.toNat) with Torn:=IntKind.i64.wrap (((gt x.Maps k.toNat).Torn)-s.Value) }) with Copies:=IntKind.i64.wrap (((gt x.Maps k.toNat).Copies)-s.Value) }))) mo ?_ ?_
      ·intro d4 m
       have dq:=m.size
       refine Ak 0 G ((kr m:Kp (KA Ax1) z _)) (fun w' hw'=>mP G)<|Ak 1 G ((kr m:Kp (KA Ax1) z _)) (fun w' hw'=>r_nilp G)<|Ak 2 G ((kr m:Kp (KA Ax1) z _)) (fun w' hw'=>fA fa102_1 G)<|Ak 4 G ((kr m:Kp (KA Ax1) z _)) (fun w' hw'=>fA fa106_3 G)<|Ak 5 G ((kr m:Kp (KA Ax1) z _)) (fun w' hw'=>lB sca3 G (a8.kp hw' (fun e'=>u e')) G)<|Ab 3 G (Q (r_ld (v:=i6 ((gt x.Maps k.toNat).Copies)) sca3 G (((an.lo m).rd).cell ao G)) (Qn ⟨(kr m:Kp (KA Ax1) z _),_,G,(Ak 6 G ((kr m:Kp (KA Ax1) z _)) (fun w' hw'=>r_subW G G)<|Ak 7 G ((kr m:Kp (KA Ax1) z _)) (fun w' hw'=>r_nilp G)<|Ak 8 G ((kr m:Kp (KA Ax1) z _)) (fun w' hw'=>fA fa102_1 G)<|Ab 9 G (SR.storeO (o:=1) (vs:=[i6 (IntKind.i64.wrap (((gt x.Maps k.toNat).Copies)-s.Value))]) (x1:={ ({ (gt x.Maps k.toNat) with Torn:=IntKind.i64.wrap (((gt x.Maps k.toNat).Torn)-s.Value) }) with Copies:=IntKind.i64.wrap (((gt x.Maps k.toNat).Copies)-s.Value) }) sca3.2 G (add_add _ _ _) G G (an.lo m) ao G ler G ?_))⟩))
       intro d5 aW cR bI
       have dr:=aW.size
       have aQ:=((kr m:Kp (KA Ax1) z _)).step aW (fun _ _ e=>e)
       have cd:((x.Maps.set k.toNat ({ (gt x.Maps k.toNat) with Torn:=IntKind.i64.wrap (((gt x.Maps k.toNat).Torn)-s.Value) })).set k.toNat ({ ({ (gt x.Maps k.toNat) with Torn:=IntKind.i64.wrap (((gt x.Maps k.toNat).Torn)-s.Value) }) with Copies:=IntKind.i64.wrap (((gt x.Maps k.toNat).Copies)-s.Value) }))[k.toNat]?=some ({ ({ (gt x.Maps k.toNat) with Torn:=IntKind.i64.wrap (((gt x.Maps k.toNat).Torn)-s.Value) }) with Copies:=IntKind.i64.wrap (((gt x.Maps k.toNat).Copies)-s.Value) }):=List.getElem?_set_self (List.getElem?_eq_some_iff.1 ao).1
       refine Qn ⟨aQ,_,G,(Ad oC (⟨(At.r G),aQ,bI,cd⟩))⟩
      rintro dB d6 ⟨bg,H,b6,c6⟩
      rw [← sA bg]
      have dt:=H.size
      have ba:=(I.kp F (fun e'=>M e')).kp H (fun e'=>M e')
      refine Wr (Q (fA fa34_3 G)<|Q (lB sca3 G ba G)<|Q (fA fa106_3 G)<|Q (lB sca3 G (a8.kp H (fun e'=>u e')) G)<|Q (r_addW G G)<|Q (fA fa34_3 G)<|Qw (o:=3) (vs:=[i6 (IntKind.i64.wrap (x.Dropped+s.Value))]) sca3.2 G G G G ba ler G ?_)
      intro d7 S cS bO
      refine Qn (Ws (Wr (Q (lG agg34 G bO G)<|Qw (o:=0) (vs:=[.slice Ax1 nx1 cx1,.slice Ax2 nx2 cx2,i6 x.Bought,i6 (IntKind.i64.wrap (x.Dropped+s.Value)),i6 x.Mended]) agg34.2 G G G G (((A.kp F (fun e'=>b e')).kp H (fun e'=>b e')).kn S) ler G ?_)))
      intro d8 ai cT bP
      refine Q (aB G)<|Qn (We (retCT G G agg34 bP G (v:=.bool _) G ?_))
      refine ⟨Ax1,nx1,cx1,Ax2,nx2,cx2,eR (eT2 (e5 ?_ ?_ ?_) (eB ?_)),(oq ((b6.kd S M).kd ai b) ?_),(oq ((((J.kp F (fun b_ hb e'=>hdx_Maps_x2 b_ e' hb)).kp H (fun b_ hb e'=>hdx_Maps_x2 b_ e' hb)).kd S bq).kd ai y) ?_),hdx_Maps_x2,(fun b_ h_=>.inl (.inl h_)),(fun b_ h_=>.inl (.inr h_)),((((N.step F (fun i_ hi_ e'=>by have:=c.base_le e'; first | omega | exact e' | exact .inl e' | exact .inr e')).step H (fun i_ hi_ e'=>by have:=an.base_le e'; first | omega | exact e' | exact .inl e' | exact .inr e')).new S).new ai)⟩ <;> (subst ak al; unfold impl_Library_use; rw [if_neg W,if_neg aq,if_neg U,if_neg ap,if_pos aA] <;> rfl)
     ·refine WA (Kp (KA Ax1) a) (fun f' w'=>At f' [(3,pt g1),(6,pt t),(7,.bool false)]∧(Kp (KA Ax1) a w')∧(SlO w' Bx1 encLMap 3 102 Ax1 nx1 cx1 (x.Maps.set k.toNat ({ (gt x.Maps k.toNat) with Torn:=IntKind.i64.wrap (((gt x.Maps k.toNat).Torn)+s.Value) })))∧((x.Maps.set k.toNat ({ (gt x.Maps k.toNat) with Torn:=IntKind.i64.wrap (((gt x.Maps k.toNat).Torn)+s.Value) }))[k.toNat]?=some ({ (gt x.Maps k.toNat) with Torn:=IntKind.i64.wrap (((gt x.Maps k.toNat).Torn)+s.Value) }))) mo ?_ ?_
      ·intro d9 n
       have du:=n.size
       refine Ak 0 G ((kr n:Kp (KA Ax1) a _)) (fun w' hw'=>mP G)<|Ak 1 G ((kr n:Kp (KA Ax1) a _)) (fun w' hw'=>r_nilp G)<|Ak 2 G ((kr n:Kp (KA Ax1) a _)) (fun w' hw'=>fA fa102_2 G)<|Ak 4 G ((kr n:Kp (KA Ax1) a _)) (fun w' hw'=>fA fa106_3 G)<|Ak 5 G ((kr n:Kp (KA Ax1) a _)) (fun w' hw'=>lB sca3 G ((D.lo q).kp hw' (fun e'=>u e')) G)<|Ab 3 G (Q (r_ld (v:=i6 ((gt x.Maps k.toNat).Torn)) sca3 G (((c.lo n).rd).cell p G)) (Qn ⟨(kr n:Kp (KA Ax1) a _),_,G,(Ak 6 G ((kr n:Kp (KA Ax1) a _)) (fun w' hw'=>r_addW G G)<|Ak 7 G ((kr n:Kp (KA Ax1) a _)) (fun w' hw'=>r_nilp G)<|Ak 8 G ((kr n:Kp (KA Ax1) a _)) (fun w' hw'=>fA fa102_2 G)<|Ab 9 G (SR.storeO (o:=2) (vs:=[i6 (IntKind.i64.wrap (((gt x.Maps k.toNat).Torn)+s.Value))]) (x1:={ (gt x.Maps k.toNat) with Torn:=IntKind.i64.wrap (((gt x.Maps k.toNat).Torn)+s.Value) }) sca3.2 G (add_add _ _ _) G G (c.lo n) p G ler G ?_))⟩))
       intro ea aX cU bJ
       have dv:=aX.size
       have aR:=((kr n:Kp (KA Ax1) a _)).step aX (fun _ _ e=>e)
       have ce:(x.Maps.set k.toNat ({ (gt x.Maps k.toNat) with Torn:=IntKind.i64.wrap (((gt x.Maps k.toNat).Torn)+s.Value) }))[k.toNat]?=some ({ (gt x.Maps k.toNat) with Torn:=IntKind.i64.wrap (((gt x.Maps k.toNat).Torn)+s.Value) }):=List.getElem?_set_self (List.getElem?_eq_some_iff.1 p).1
       refine Qn ⟨aR,_,G,(Ad oC (⟨(At.r G),aR,bJ,ce⟩))⟩
      rintro dC ed ⟨bh,L,b7,c7⟩
      rw [← sA bh]
      have dw:=L.size
      refine Ws (Wr (Q (lG agg34 G (I.kp L (fun e'=>M e')) G)<|Qw (o:=0) (vs:=(cLb Ax1 nx1 cx1 Ax2 nx2 cx2 x)) agg34.2 G G G G (A.kp L (fun e'=>b e')) ler G ?_))
      intro ee aj cX bQ
      refine Q (aB G)<|Qn (We (retCT G G agg34 bQ G (v:=.bool _) G ?_))
      refine ⟨Ax1,nx1,cx1,Ax2,nx2,cx2,eR (eT2 (e5 ?_ ?_ ?_) (eB ?_)),(oq (b7.kd aj b) ?_),(oq ((J.kp L (fun b_ hb e'=>hdx_Maps_x2 b_ e' hb)).kd aj y) ?_),hdx_Maps_x2,(fun b_ h_=>.inl (.inl h_)),(fun b_ h_=>.inl (.inr h_)),((N.step L (fun i_ hi_ e'=>by have:=c.base_le e'; first | omega | exact e' | exact .inl e' | exact .inr e')).new aj)⟩ <;> (subst ak al; unfold impl_Library_use; rw [if_neg W,if_neg aq,if_neg U,if_neg ap,if_neg aA] <;> rfl)
end Go.Proofs.YtndcchndcghmoaaGreatDoor
namespace Go.Proofs.YtndcchndcghmoaaGreatDoor
open Go Go.RowKit Fw
section
variable (x : Library) (s : LibraryStep) (k : Int)
theorem hand_lenMaps:(((impl_Library_hand x s).1).Maps).length≤x.Maps.length:=by
  unfold impl_Library_hand
  split
  · simp
  · split
    · simp
    · exact Nat.le_trans (give_lenMaps _ _ _) (fetch_lenMaps _ _ _)
theorem hand_lenAway:(((impl_Library_hand x s).1).Away).length≤x.Away.length+1:=by
  unfold impl_Library_hand
  split
  · simp
  · split
    · simp
    · have h1:=give_lenAway ((impl_Library_fetch x s.Id s.Reader).1) s.Id s.Value
      have h2:=fetch_lenAway x s.Id s.Reader
      dsimp only; omega
theorem use_lenMaps:(((impl_Library_use x s k).1).Maps).length≤x.Maps.length:=by
  unfold impl_Library_use
  repeat' split
  · exact Nat.le_trans (give_lenMaps _ _ _) oR
  · exact Nat.le_trans (fetch_lenMaps _ _ _) oR
  · exact hand_lenMaps x s
  all_goals simp
theorem use_lenAway:(((impl_Library_use x s k).1).Away).length≤x.Away.length+1:=by
  unfold impl_Library_use
  repeat' split
  · exact give_lenAway _ _ _
  · exact Nat.le_trans (fetch_lenAway _ _ _) oR
  · exact hand_lenAway x s
  all_goals simp
end
end Go.Proofs.YtndcchndcghmoaaGreatDoor
namespace Go.Proofs.YtndcchndcghmoaaGreatDoor
open Go Go.RowKit Fw
set_option maxRecDepth 10000
set_option maxHeartbeats 2000000
set_option linter.unusedVariables false
variable {Ax1 Ax2 : Option Addr} {nx1 cx1 Bx1 nx2 cx2 Bx2 : Nat}
theorem ent150:Ent Tryz.prog 150:=en Tryz.func150
theorem ent151:Ent Tryz.prog 151:=en Tryz.func151
theorem ent152:Ent Tryz.prog 152:=en Tryz.func152
theorem ent47:Ent Tryz.prog 47:=en Tryz.func47
open Classical in
noncomputable def impl_Library_stepped (x:Library) (s:LibraryStep):Library × Bool :=
 if (!(impl_isLibraryStep s))=true then ((⟨([]:List LMap),([]:List Away),0,0,0⟩:Library),false) else if s.Kind=1 then (if LibOK (impl_Library_buy x s) then ((impl_Library_buy x s),true) else ((⟨([]:List LMap),([]:List Away),0,0,0⟩:Library),false)) else if bsF cmpM s.Id x.Maps then (if ((!((impl_Library_use x s (bsP cmpM s.Id x.Maps:Int)).2))=true)∨(¬(LibOK ((impl_Library_use x s (bsP cmpM s.Id x.Maps:Int)).1))) then ((⟨([]:List LMap),([]:List Away),0,0,0⟩:Library),false) else (((impl_Library_use x s (bsP cmpM s.Id x.Maps:Int)).1),true)) else ((⟨([]:List LMap),([]:List Away),0,0,0⟩:Library),false)
theorem c__impl_Library__stepped (w:World) (x:Library) (aw:SlR w Bx1 encLMap 3 Ax1 nx1 cx1 x.Maps) (ax:SlR w Bx2 encAway 2 Ax2 nx2 cx2 x.Away) (s:LibraryStep) (cJ:(nx1:Int)≤50) (cK:(nx2:Int)≤50):Calls Tryz.prog 97 #[.agg (List.toArray (cLb Ax1 nx1 cx1 Ax2 nx2 cx2 x)),.agg (List.toArray (encLibraryStep s))] w fun e w'=>∃ A1' n1' c1' A2' n2' c2',e=.returned (.tuple (List.toArray [.agg (List.toArray (cLb A1' n1' c1' A2' n2' c2' ((impl_Library_stepped x s).1))),.bool ((impl_Library_stepped x s).2)]))∧SlO w' w.heap.size encLMap 3 102 A1' n1' c1' (((impl_Library_stepped x s).1).Maps)∧SlO w' w.heap.size encAway 2 129 A2' n2' c2' (((impl_Library_stepped x s).1).Away)∧Dj A1' A2'∧Lo w w':=by
 refine cW 48 Tryz.func97 G G G ?_
 have bA:=aw.bound
 have bG:=aw.len
 have bt:=aw.bd
 have bB:=ax.bound
 have bH:=ax.len
 have bu:=ax.bd
 refine Ws (Wr (bx G ?_))
 intro g1 w2 cI a6 cN bz
 refine bx G ?_
 intro g9 cO cg R cp aD
 refine Qa (l:=zLb) tz34 G ?_
 intro y cd ch u cq aE
 refine Q (aB G)<|Qn (Ws (Ws (Wr (Q (lG agg106 G (aD.lo u) G)<|Qv ent150 (c_impl_isLibraryStep cd s) G fun ce q cw=>?_))))
 have ay:=((((lr w).lo a6).lo R).lo u).lo q
 refine Q (rN G)<|Qn (Wb G (fun z=>?_) (fun z=>?_))
 ·have cn:=bnot_t z
  refine Ws (Wr (Q (r_build (vs:=[]) G bld34_)<|Qw (o:=0) (vs:=zLb) agg34.2 G G G G (aE.lo q) ler G ?_))
  intro cP bj cr bf
  refine Q (aB G)<|Qn (We (retCT G G agg34 bf G (v:=.bool _) G ?_))
  refine ⟨none,0,0,none,0,0,eR (eT2 (e5 ?_ ?_ ?_) (eB ?_)),(oq (SlO.nil (e:=102) (enc:=encLMap) (fun _=>G) oB) ?_),(oq (SlO.nil (e:=129) (enc:=encAway) (fun _=>G) oB) ?_),(fun b_ h=>by cases h),(ay.new bj)⟩ <;> (unfold impl_Library_stepped; rw [if_pos z] <;> rfl)
 ·have co:=bnot_f z
  refine Wk (Ws (Wr (Q (lG agg34 G (((bz.lo R).lo u).lo q) G)<|Qc ent47 (c__impl_Library__own ce x ((((aw.lo a6).lo R).lo u).lo q) ((((ax.lo a6).lo R).lo u).lo q) oB oB) G ?_)))
  rintro e cQ ⟨bo,b9,bq,bp,ca,bs,rfl,M,N,aF,S⟩
  refine ⟨_,G,?_⟩
  have cx:=S.size
  have cj:=M.len
  have ck:=M.rd.bound
  have cl:=N.len
  have cm:=N.rd.bound
  refine Qa (l:=zLb) tz34 G ?_
  intro m cR ci I ct bg
  have n:=nE (g:=m) M
  have p:=nE (g:=m) N
  refine Qw (o:=0) (vs:=(cLb bo b9 bq bp ca bs x)) agg34.2 G G G G bg ler G ?_
  intro bn J cu i
  have az:=((ay.lo S).lo I).new J
  refine Q (aB G)<|Qn (Ws (Ws ?_))
  have U:=((((aD.lo u).lo q).lo S).lo I).kn J
  have r:=(((aE.lo q).lo S).lo I).kn J
  have b:=(M.lo I).kd J n
  have c:=(N.lo I).kd J p
  refine Wr (Q (fA fa106_0 G)<|Q (lB sca3 G U G)<|Q (r_eq G G)<|Qn (Wd G (fun V=>?_) (fun V=>?_)))
  ·refine Wr (Q (lG agg34 G i G)<|Q (lG agg106 G U G)<|Qc ent151 (c__impl_Library__buy bn x b c s aF oB oB) G ?_)
   rintro e cS ⟨W,bc,aJ,X,be,aK,rfl,O,P,bh,aA,aC,T⟩
   refine ⟨_,G,?_⟩
   have cy:=T.size
   have bi:¬W=some ⟨y,0,none⟩:=fun e'=>(aA y e').elim (fun h=>h.elim (fun h=>(by have:=b.base_le h; omega)) (fun h=>(by have:=c.base_le h; omega))) (fun h=>by have:=r.lt; omega)
   have aG:¬W=some ⟨m,0,none⟩:=fun e'=>(aA m e').elim (fun h=>h.elim (fun h=>n h) (fun h=>p h)) (fun h=>by have:=i.lt; omega)
   have aT:¬X=some ⟨y,0,none⟩:=fun e'=>(aC y e').elim (fun h=>h.elim (fun h=>(by have:=b.base_le h; omega)) (fun h=>(by have:=c.base_le h; omega))) (fun h=>by have:=r.lt; omega)
   have ak:¬X=some ⟨m,0,none⟩:=fun e'=>(aC m e').elim (fun h=>h.elim (fun h=>n h) (fun h=>p h)) (fun h=>by have:=i.lt; omega)
   have a7:=O.len
   have bC:=O.rd.bound
   have bI:=buy_lenMaps x s
   have a8:=P.len
   have bD:=P.rd.bound
   have bJ:=buy_lenAway x s
   refine Qw (o:=0) (vs:=(cLb W bc aJ X be aK (impl_Library_buy x s))) agg34.2 G G G G (i.kp T (fun e'=>e'.elim (fun e'=>n e') (fun e'=>p e'))) ler G ?_
   intro bl j bT ai
   refine Qn (Ws (Ws ?_))
   have ao:=(r.kp T (fun e'=>e'.elim (nE b) (nE c))).kn j
   refine Wr (Q (mB G)<|Q (rN G)<|Q (mB G)<|Qg (lG agg34 G ai G)<|SR.gcall G ent72 (c_impl_IsLibrary bl (impl_Library_buy x s) ((O.kd j aG).rd) ((P.kd j ak).rd) oB) G ?_)
   rintro e cz ⟨rfl,d⟩
   refine ⟨_,G,?_⟩
   have b4:=d.size
   have ab:=((az.step T (fun i_ hi_ e'=>e'.elim (fun e'=>by have:=b.base_le e'; first | omega | exact e' | exact .inl e' | exact .inr e') (fun e'=>by have:=c.base_le e'; first | omega | exact e' | exact .inl e' | exact .inr e'))).new j).lo d
   refine Qg (rN G)<|Q (pF G G)<|Qn (Wz G (fun aa=>?_) (fun aa=>?_))
   ·refine Ws (Wr (Q (r_build (vs:=[]) G bld34_)<|Qw (o:=0) (vs:=zLb) agg34.2 G G G G (ao.lo d) ler G ?_))
    intro cA aX bU aM
    refine Q (aB G)<|Qn (We (retCT G G agg34 aM G (v:=.bool _) G ?_))
    refine ⟨none,0,0,none,0,0,eR (eT2 (e5 ?_ ?_ ?_) (eB ?_)),(oq (SlO.nil (e:=102) (enc:=encLMap) (fun _=>G) oB) ?_),(oq (SlO.nil (e:=129) (enc:=encAway) (fun _=>G) oB) ?_),(fun b_ h=>by cases h),(ab.new aX)⟩ <;> (unfold impl_Library_stepped; rw [if_neg (ne_true_of_eq_false z),if_pos V,if_neg aa] <;> rfl)
   ·refine Wk (Ws (Wr (Q (lG agg34 G (ai.lo d) G)<|Qw (o:=0) (vs:=(cLb W bc aJ X be aK (impl_Library_buy x s))) agg34.2 G G G G (ao.lo d) ler G ?_)))
    intro cB K bV aN
    refine Q (aB G)<|Qn (We (retCT G G agg34 aN G (v:=.bool _) G ?_))
    refine ⟨W,bc,aJ,X,be,aK,eR (eT2 (e5 ?_ ?_ ?_) (eB ?_)),(oq ((((O.kd j aG).lo d).kd K bi).down) ?_),(oq ((((P.kd j ak).lo d).kd K aT).down) ?_),bh,(ab.new K)⟩ <;> (subst a7 a8; unfold impl_Library_stepped; rw [if_neg (ne_true_of_eq_false z),if_pos V,if_pos aa] <;> rfl)
  ·refine Ws (Wr (Q (lG agg34 G i G)<|Q (fA fa106_1 G)<|Q (lB sca3 G U G)<|Qv ent121 (c__impl_Library__mapAt bn x (b.rd) (c.rd) s.Id oB) G fun bm a b5=>?_))
   have ac:=az.lo a
   have bK:bsP cmpM s.Id x.Maps≤x.Maps.length:=bsP_le
   refine Q (mT G)<|Q (xI G G)<|Q (xB G G)<|Q (aI G)<|Q (aB G)<|Qn (Ws (Ws (Wr (Q (mB G)<|Q (rN G)<|Qn (Wz G (fun t=>?_) (fun t=>?_))))))
   ·refine Ws (Wr (Q (r_build (vs:=[]) G bld34_)<|Qw (o:=0) (vs:=zLb) agg34.2 G G G G (r.lo a) ler G ?_))
    intro cC aY bW aO
    refine Q (aB G)<|Qn (We (retCT G G agg34 aO G (v:=.bool _) G ?_))
    refine ⟨none,0,0,none,0,0,eR (eT2 (e5 ?_ ?_ ?_) (eB ?_)),(oq (SlO.nil (e:=102) (enc:=encLMap) (fun _=>G) oB) ?_),(oq (SlO.nil (e:=129) (enc:=encAway) (fun _=>G) oB) ?_),(fun b_ h=>by cases h),(ac.new aY)⟩ <;> (unfold impl_Library_stepped; rw [if_neg (ne_true_of_eq_false z),if_neg V,if_neg t] <;> rfl)
   ·have bL:=And.left t
    have bM:=And.left t
    refine Wk (Wr (Q (lG agg34 G (i.lo a) G)<|Q (lG agg106 G (U.lo a) G)<|Q (mI G)<|Qc ent152 (c__impl_Library__use bm x (b.lo a) (c.lo a) s (bsP cmpM s.Id x.Maps:Int) aF oB oB oB) G ?_))
    rintro e cD ⟨D,aq,Y,E,ar,Z,rfl,A,B,aU,ag,ah,C⟩
    refine ⟨_,G,?_⟩
    have b6:=C.size
    have aV:¬D=some ⟨y,0,none⟩:=fun e'=>(ag y e').elim (fun h=>h.elim (fun h=>(by have:=(b.lo a).base_le h; omega)) (fun h=>(by have:=(c.lo a).base_le h; omega))) (fun h=>by have:=(r.lo a).lt; omega)
    have al:¬D=some ⟨m,0,none⟩:=fun e'=>(ag m e').elim (fun h=>h.elim (fun h=>n h) (fun h=>p h)) (fun h=>by have:=(i.lo a).lt; omega)
    have aW:¬E=some ⟨y,0,none⟩:=fun e'=>(ah y e').elim (fun h=>h.elim (fun h=>(by have:=(b.lo a).base_le h; omega)) (fun h=>(by have:=(c.lo a).base_le h; omega))) (fun h=>by have:=(r.lo a).lt; omega)
    have am:¬E=some ⟨m,0,none⟩:=fun e'=>(ah m e').elim (fun h=>h.elim (fun h=>n h) (fun h=>p h)) (fun h=>by have:=(i.lo a).lt; omega)
    have ba:=A.len
    have bE:=A.rd.bound
    have bN:=use_lenMaps x s (bsP cmpM s.Id x.Maps:Int)
    have bb:=B.len
    have bF:=B.rd.bound
    have bO:=use_lenAway x s (bsP cmpM s.Id x.Maps:Int)
    refine Q (mT G)<|Q (xG G G)<|Q (xB G G)<|Qw (o:=0) (vs:=(cLb D aq Y E ar Z ((impl_Library_use x s (bsP cmpM s.Id x.Maps:Int)).1))) agg34.2 G G G G ((i.lo a).kp C (fun e'=>e'.elim (fun e'=>n e') (fun e'=>p e'))) ler G ?_
    intro aH k bX aj
    refine Q (aB G)<|Qn (Ws (Ws ?_))
    have ap:=((r.lo a).kp C (fun e'=>e'.elim (nE (b.lo a)) (nE (c.lo a)))).kn k
    refine WJ (fun f' w'=>At f' [(4,pt y),(5,.bool false),(6,pt m),(45,.bool (decide (((!((impl_Library_use x s (bsP cmpM s.Id x.Maps:Int)).2))=true)∨(¬(LibOK ((impl_Library_use x s (bsP cmpM s.Id x.Maps:Int)).1))))))]∧Lo aH w') ?_ ?_
    ·refine Q (mB G)<|Q (rN G)<|Q (mB G)<|SR.split (fun F=>?_) (fun F=>?_)
     ·have bP:=bnot_t F
      refine Qs<|Qs<|Qs<|Q (pT G G)<|Qn (⟨_,G,⟨⟨G,G,G,(eDT ((jot F).1 trivial)),trivial⟩,(lr _)⟩⟩)
     ·have bQ:=bnot_f F
      refine Qg (lG agg34 G aj G)<|SR.gcall G ent72 (c_impl_IsLibrary aH ((impl_Library_use x s (bsP cmpM s.Id x.Maps:Int)).1) ((A.kd k al).rd) ((B.kd k am).rd) oB) G ?_
      rintro e cE ⟨rfl,an⟩
      refine ⟨_,G,?_⟩
      have b7:=an.size
      refine Qg (rN G)<|Q (pF G G)<|Qn (⟨_,G,⟨⟨G,G,G,(eND (jof (ne_true_of_eq_false F))),trivial⟩,an⟩⟩)
    rintro cf cF ⟨au,f⟩
    rw [← sA au]
    have b8:=f.size
    have ae:=((ac.step C (fun i_ hi_ e'=>e'.elim (fun e'=>by have:=(b.lo a).base_le e'; first | omega | exact e' | exact .inl e' | exact .inr e') (fun e'=>by have:=(c.lo a).base_le e'; first | omega | exact e' | exact .inl e' | exact .inr e'))).new k).lo f
    refine Wd G (fun H=>?_) (fun H=>?_)
    ·refine Ws (Wr (Q (r_build (vs:=[]) G bld34_)<|Qw (o:=0) (vs:=zLb) agg34.2 G G G G (ap.lo f) ler G ?_))
     intro cG aZ bY aQ
     refine Q (aB G)<|Qn (We (retCT G G agg34 aQ G (v:=.bool _) G ?_))
     refine ⟨none,0,0,none,0,0,eR (eT2 (e5 ?_ ?_ ?_) (eB ?_)),(oq (SlO.nil (e:=102) (enc:=encLMap) (fun _=>G) oB) ?_),(oq (SlO.nil (e:=129) (enc:=encAway) (fun _=>G) oB) ?_),(fun b_ h=>by cases h),(ae.new aZ)⟩ <;> (unfold impl_Library_stepped; rw [if_neg (ne_true_of_eq_false z),if_neg V,if_pos t,if_pos H] <;> rfl)
    ·have bR:¬((!((impl_Library_use x s (bsP cmpM s.Id x.Maps:Int)).2))=true):=(not_or.1 H).1
     have bS:LibOK ((impl_Library_use x s (bsP cmpM s.Id x.Maps:Int)).1):=(Classical.not_not.1 (not_or.1 H).2)
     refine Wk (Ws (Wr (Q (lG agg34 G (aj.lo f) G)<|Qw (o:=0) (vs:=(cLb D aq Y E ar Z ((impl_Library_use x s (bsP cmpM s.Id x.Maps:Int)).1))) agg34.2 G G G G (ap.lo f) ler G ?_)))
     intro cH L bZ aR
     refine Q (aB G)<|Qn (We (retCT G G agg34 aR G (v:=.bool _) G ?_))
     refine ⟨D,aq,Y,E,ar,Z,eR (eT2 (e5 ?_ ?_ ?_) (eB ?_)),(oq ((((A.kd k al).lo f).kd L aV).down) ?_),(oq ((((B.kd k am).lo f).kd L aW).down) ?_),aU,(ae.new L)⟩ <;> (subst ba bb; unfold impl_Library_stepped; rw [if_neg (ne_true_of_eq_false z),if_neg V,if_pos t,if_neg H] <;> rfl)
end Go.Proofs.YtndcchndcghmoaaGreatDoor
namespace Go.Proofs.YtndcchndcghmoaaGreatDoor
open Go Go.RowKit Fw
set_option maxRecDepth 10000
set_option maxHeartbeats 2000000
set_option linter.unusedVariables false
variable {Ax1 Ax2 : Option Addr} {nx1 cx1 Bx1 nx2 cx2 Bx2 : Nat}
theorem c_spec_l32Away (w:World) (x:Library) (l:SlR w Bx1 encLMap 3 Ax1 nx1 cx1 x.Maps) (m:SlR w Bx2 encAway 2 Ax2 nx2 cx2 x.Away) (id:Int) (r:Int):Calls Tryz.prog 192 #[.agg (List.toArray (cLb Ax1 nx1 cx1 Ax2 nx2 cx2 x)),i6 id,i6 r] w fun e w'=>e=.returned (i6 (idxF (isA id r) x.Away))∧Lo w w':=by
 refine cW 34 Tryz.func192 G G G ?_
 have D:=l.bound
 have F:=l.len
 have A:=l.bd
 have E:=m.bound
 have h:=m.len
 have B:=m.bd
 refine Ws (Wr (bx G ?_))
 intro t U R s S C
 refine Q (aI G)<|Qn (Ws (Ws (Wr (Q (aI G)<|Qn (Wl (WL (σ:=Nat) (fun g=>[(1,i6 id),(2,i6 r),(3,pt t),(7,i6 (g:Int))]) (fun g w'=>(Lo w w')∧(Blk w' t 34 (cLb Ax1 nx1 cx1 Ax2 nx2 cx2 x))∧(SlR w' Bx1 encLMap 3 Ax1 nx1 cx1 x.Maps)∧(SlR w' Bx2 encAway 2 Ax2 nx2 cx2 x.Away)∧(g≤nx2∧NoneTo (isA id r) x.Away g)) (fun g=>nx2-g) 0 ?_ ?_ ?_))))))
 ·exact (At.r G)
 ·exact ⟨((lr w).lo s),C,l.lo s,m.lo s,(by exact ⟨Nat.zero_le _,NoneTo.zero⟩)⟩
 ·rintro k P j u
  obtain ⟨f,c,y,a,I⟩:(Lo w j)∧(Blk j t 34 (cLb Ax1 nx1 cx1 Ax2 nx2 cx2 x))∧(SlR j Bx1 encLMap 3 Ax1 nx1 cx1 x.Maps)∧(SlR j Bx2 encAway 2 Ax2 nx2 cx2 x.Away)∧(k≤nx2∧NoneTo (isA id r) x.Away k):=u
  refine (?_:W _ _ _ _ _ (act _ (sets P [(1,i6 id),(2,i6 r),(3,pt t),(7,i6 (k:Int))])) _)
  have H:=f.size
  have J:=c.lt
  refine Ws (Ws (Wr (Q (mI G)<|Q (fA fa34_1 G)<|Q (lB sca32 G c G)<|Q (r_len und32 G)<|Q (r_lt G G)<|Qn (Wd G (fun z=>?_) (fun z=>?_)))))
  ·refine Wk (Ws (Wl (Ws (WJ (fun f' w'=>At f' [(1,i6 id),(2,i6 r),(3,pt t),(7,i6 (k:Int)),(32,.bool (decide ((((gt x.Away k).Map)=id)∧(((gt x.Away k).Reader)=r))))]∧Lo j w'∧(x.Away[k]?=some (gt x.Away k))) ?_ ?_))))
   ·refine Q (fA fa34_1 G)<|Q (lB sca32 G c G)<|Q (mI G)<|?_
    have d:=a.elem (i:=k) oB
    refine Q (rX tsl32 a G G oB)<|Q (fA fa129_0 G)<|Q (r_ld (v:=i6 ((gt x.Away k).Map)) sca3 G (a.cell d G))<|Q (mI G)<|Q (r_eq G G)<|Q (mB G)<|QD (fun o=>?_) (fun o=>?_)
    ·refine Qg (fA fa34_1 G)<|Qg (lB sca32 G c G)<|Qg (mI G)<|Qg (rX tsl32 a G G oB)<|Qg (fA fa129_1 G)<|Qg (r_ld (v:=i6 ((gt x.Away k).Reader)) sca3 G (a.cell d G))<|Qg (mI G)<|Qg (r_eq G G)<|Q (pT G G)<|Qn (⟨_,G,⟨⟨G,G,G,G,(eDD (jat o)),trivial⟩,(lr _),d⟩⟩)
    ·refine Qs<|Qs<|Qs<|Qs<|Qs<|Qs<|Qs<|Qs<|Q (pF G G)<|Qn (⟨_,G,⟨⟨G,G,G,G,(eDF (jaf o).2),trivial⟩,(lr _),d⟩⟩)
   rintro O T ⟨q,b,K⟩
   rw [← sA q]
   have N:=b.size
   have n:=f.lo b
   refine Wd G (fun p=>?_) (fun p=>?_)
   ·have L:((gt x.Away k).Map)=id:=p.1
    have M:((gt x.Away k).Reader)=r:=p.2
    refine Ws (Wr (Q (mI G)<|Q (aI G)<|Qn (We (ret1 G (v:=i6 _) G (⟨eR (eI (by first | exact idx_at (And.right ‹_∧NoneTo _ _ _›) ‹x.Away[k]?=some _› (by unfold isA; exact decide_eq_true ‹_›) | exact idx_no (And.right ‹_∧NoneTo _ _ _›) h ‹_›)),n⟩)))))
   ·refine Wk (Wr (Q (mI G)<|Q (r_add G G oB)<|Q (aI G)<|Qn (⟨k+1,_,G,(At.r G),⟨n,c.lo b,y.lo b,a.lo b,?_⟩,?_⟩)))
    ·exact (by exact ⟨oB,NoneTo.next (And.right ‹_∧NoneTo _ _ _›) ‹x.Away[k]?=some _› (by unfold isA; exact decide_eq_false ‹_›)⟩)
    ·exact oB
  ·refine Wx (xh (Ws (Wr (Q (r_as (v:=i6 (-1)) G)<|Qn (We (ret1 G (v:=i6 _) G (⟨eR (eI (by first | exact idx_at (And.right ‹_∧NoneTo _ _ _›) ‹x.Away[k]?=some _› (by unfold isA; exact decide_eq_true ‹_›) | exact idx_no (And.right ‹_∧NoneTo _ _ _›) h ‹_›)),f⟩)))))))
open Classical in
noncomputable def spec_l32Step (x:Library) (s:LibraryStep):Bool :=
 if s.Kind=1 then decide ((1≤s.Id∧s.Id≤99)∧((s.Reader=0)∧(1≤s.Value∧s.Value≤50))) else if s.Kind=2 then decide ((0≤(idxF (hasId s.Id) x.Maps))∧((1≤s.Reader∧s.Reader≤999)∧(s.Value=0))) else if s.Kind=3 then decide ((0≤(idxF (hasId s.Id) x.Maps))∧((1≤s.Reader∧s.Reader≤999)∧(0≤s.Value∧s.Value≤1))) else if s.Kind=5 then decide ((0≤(idxF (hasId s.Id) x.Maps))∧((1≤s.Reader∧s.Reader≤999)∧(1≤s.Value∧s.Value≤999))) else decide (((s.Kind=4)∧((0≤(idxF (hasId s.Id) x.Maps))∧((s.Reader=0)∧(1≤s.Value))))∨((¬(s.Kind=4))∧(((s.Kind=6)∧((0≤(idxF (hasId s.Id) x.Maps))∧((s.Reader=0)∧(1≤s.Value))))∨((¬(s.Kind=6))∧((s.Kind=7)∧((0≤(idxF (hasId s.Id) x.Maps))∧((s.Reader=0)∧(1≤s.Value))))))))
theorem c_spec_l32Step (w:World) (x:Library) (z:SlR w Bx1 encLMap 3 Ax1 nx1 cx1 x.Maps) (A:SlR w Bx2 encAway 2 Ax2 nx2 cx2 x.Away) (s:LibraryStep):Calls Tryz.prog 114 #[.agg (List.toArray (cLb Ax1 nx1 cx1 Ax2 nx2 cx2 x)),.agg (List.toArray (encLibraryStep s))] w fun e w'=>e=.returned (.bool (spec_l32Step x s))∧Lo w w':=by
 refine cW 91 Tryz.func114 G G G ?_
 have ag:=z.bound
 have ai:=z.len
 have ab:=z.bd
 have ah:=A.bound
 have aj:=A.len
 have ac:=A.bd
 refine Ws (Wr (bx G ?_))
 intro g1 w2 aH Z aJ ae
 refine bx G ?_
 intro g9 aK al j an a
 refine Q (aB G)<|Qn (Ws (W.regD mo oC (Rq (fun w' hw'=>lG agg34 G ((ae.lo j).lo hw') G)<|Rq (fun w' hw'=>fA fa106_1 G)<|Rq (fun w' hw'=>lB sca3 G (a.lo hw') G)<|QR.call ent165 (fun w' hw'=>(c_spec_l32Map w' x (((z.lo Z).lo j).lo hw') (((A.lo Z).lo j).lo hw') s.Id).mono fun _ _ h=>⟨h.1,hw'.trans h.2⟩) G<|?_)))
 have am:idxF (hasId s.Id) x.Maps<(x.Maps.length:Int)∧-1≤idxF (hasId s.Id) x.Maps:=idx_lt
 refine Rq (fun w' hw'=>r_ge G G)<|Rq (fun w' hw'=>fA fa106_2 G)<|Rq (fun w' hw'=>lB sca3 G (a.lo hw') G)<|QR.call ent133 (fun w' hw'=>(c_spec_l1In w' s.Reader 1 999).mono fun _ _ h=>⟨h.1,hw'.trans h.2⟩) G<|Rq (fun w' hw'=>aB G)<|Rq (fun w' hw'=>aB G)<|QR.nil ?_
 intro i b
 have ao:=b.size
 have f:=(((lr w).lo Z).lo j).lo b
 refine Ws (Ws (Wr (Q (fA fa106_0 G)<|Q (lB sca3 G (a.lo b) G)<|Qn (Wl (Ws (Wr (Q (r_eq G G)<|Q (aB G)<|Qn (Wd G (fun k=>?_) (fun k=>?_)))))))))
 ·refine Ws (WJ (fun f' w'=>At f' [(3,pt g9),(4,.bool (decide ((1≤s.Id∧s.Id≤99)∧((s.Reader=0)∧(1≤s.Value∧s.Value≤50))))),(5,.bool (decide (0≤(idxF (hasId s.Id) x.Maps))))]∧Lo i w') ?_ ?_)
  ·refine Q (fA fa106_1 G)<|Q (lB sca3 G (a.lo b) G)<|Qv ent133 (c_spec_l1In i s.Id 1 99) G fun ak g ap=>(Q (mB G)<|QD (fun n=>?_) (fun n=>?_))
   ·refine Qg (fA fa106_2 G)<|Qg (lB sca3 G ((a.lo b).lo g) G)<|Qg (r_eq G G)<|Q (pT G G)<|Q (mB G)<|QD (fun K=>?_) (fun K=>?_)
    ·refine Qg (fA fa106_3 G)<|Qg (lB sca3 G ((a.lo b).lo g) G)<|SR.gcall G ent133 (c_spec_l1In ak s.Value 1 50) G ?_
     rintro e aM ⟨rfl,B⟩
     refine ⟨_,G,?_⟩
     have aq:=B.size
     refine Q (pT G G)<|Q (aB G)<|Qn (⟨_,G,⟨⟨G,(eDD ((jat K).trans (jat n))),G,trivial⟩,(g.trans B)⟩⟩)
    ·refine Qs<|Qs<|Qs<|Q (pF G G)<|Q (aB G)<|Qn (⟨_,G,⟨⟨G,(eDF ((jaf K).trans (jat n)).2),G,trivial⟩,g⟩⟩)
   ·refine Qs<|Qs<|Qs<|Q (pF G G)<|Q (mB G)<|Qs<|Qs<|Qs<|Q (pF G G)<|Q (aB G)<|Qn (⟨_,G,⟨⟨G,(eDF (jaf n).2),G,trivial⟩,g⟩⟩)
  rintro aC aN ⟨T,C⟩
  rw [← sA T]
  have ar:=C.size
  refine We (ret1 G (v:=.bool _) G ?_)
  exact ⟨eR (eB (by unfold spec_l32Step; rw [if_pos k] <;> rfl)),(f.lo C)⟩
 ·refine Ws (Wr (Q (r_eq G G)<|Q (aB G)<|Qn (Wd G (fun l=>?_) (fun l=>?_))))
  ·refine Ws (WJ (fun f' w'=>At f' [(3,pt g9),(4,.bool (decide ((0≤(idxF (hasId s.Id) x.Maps))∧((1≤s.Reader∧s.Reader≤999)∧(s.Value=0))))),(5,.bool (decide (0≤(idxF (hasId s.Id) x.Maps))))]∧Lo i w') ?_ ?_)
   ·refine Q (mB G)<|Q (mB G)<|QD (fun o=>?_) (fun o=>?_)
    ·refine Qg (mB G)<|Q (pT G G)<|Q (mB G)<|QD (fun L=>?_) (fun L=>?_)
     ·refine Qg (fA fa106_3 G)<|Qg (lB sca3 G (a.lo b) G)<|Qg (r_eq G G)<|Q (pT G G)<|Q (aB G)<|Qn (⟨_,G,⟨⟨G,(eDD ((jat L).trans (jat o))),G,trivial⟩,(lr _)⟩⟩)
     ·refine Qs<|Qs<|Qs<|Q (pF G G)<|Q (aB G)<|Qn (⟨_,G,⟨⟨G,(eDF ((jaf L).trans (jat o)).2),G,trivial⟩,(lr _)⟩⟩)
    ·refine Qs<|Q (pF G G)<|Q (mB G)<|Qs<|Qs<|Qs<|Q (pF G G)<|Q (aB G)<|Qn (⟨_,G,⟨⟨G,(eDF (jaf o).2),G,trivial⟩,(lr _)⟩⟩)
   rintro aD aO ⟨U,D⟩
   rw [← sA U]
   have au:=D.size
   refine We (ret1 G (v:=.bool _) G ?_)
   exact ⟨eR (eB (by unfold spec_l32Step; rw [if_neg k,if_pos l] <;> rfl)),(f.lo D)⟩
  ·refine Ws (Wr (Q (r_eq G G)<|Q (aB G)<|Qn (Wd G (fun p=>?_) (fun p=>?_))))
   ·refine Ws (WJ (fun f' w'=>At f' [(3,pt g9),(4,.bool (decide ((0≤(idxF (hasId s.Id) x.Maps))∧((1≤s.Reader∧s.Reader≤999)∧(0≤s.Value∧s.Value≤1))))),(5,.bool (decide (0≤(idxF (hasId s.Id) x.Maps))))]∧Lo i w') ?_ ?_)
    ·refine Q (mB G)<|Q (mB G)<|QD (fun q=>?_) (fun q=>?_)
     ·refine Qg (mB G)<|Q (pT G G)<|Q (mB G)<|QD (fun M=>?_) (fun M=>?_)
      ·refine Qg (fA fa106_3 G)<|Qg (lB sca3 G (a.lo b) G)<|SR.gcall G ent133 (c_spec_l1In i s.Value 0 1) G ?_
       rintro e aQ ⟨rfl,E⟩
       refine ⟨_,G,?_⟩
       have aw:=E.size
       refine Q (pT G G)<|Q (aB G)<|Qn (⟨_,G,⟨⟨G,(eDD ((jat M).trans (jat q))),G,trivial⟩,E⟩⟩)
      ·refine Qs<|Qs<|Qs<|Q (pF G G)<|Q (aB G)<|Qn (⟨_,G,⟨⟨G,(eDF ((jaf M).trans (jat q)).2),G,trivial⟩,(lr _)⟩⟩)
     ·refine Qs<|Q (pF G G)<|Q (mB G)<|Qs<|Qs<|Qs<|Q (pF G G)<|Q (aB G)<|Qn (⟨_,G,⟨⟨G,(eDF (jaf q).2),G,trivial⟩,(lr _)⟩⟩)
    rintro aE aR ⟨V,F⟩
    rw [← sA V]
    have ax:=F.size
    refine We (ret1 G (v:=.bool _) G ?_)
    exact ⟨eR (eB (by unfold spec_l32Step; rw [if_neg k,if_neg l,if_pos p] <;> rfl)),(f.lo F)⟩
   ·refine Ws (Wr (Q (r_eq G G)<|Q (aB G)<|Qn (Wd G (fun N=>?_) (fun N=>?_))))
    ·refine Ws (WJ (fun f' w'=>At f' [(3,pt g9),(4,.bool (decide ((0≤(idxF (hasId s.Id) x.Maps))∧((1≤s.Reader∧s.Reader≤999)∧(1≤s.Value∧s.Value≤999))))),(5,.bool (decide (0≤(idxF (hasId s.Id) x.Maps))))]∧Lo i w') ?_ ?_)
     ·refine Q (mB G)<|Q (mB G)<|QD (fun r=>?_) (fun r=>?_)
      ·refine Qg (mB G)<|Q (pT G G)<|Q (mB G)<|QD (fun O=>?_) (fun O=>?_)
       ·refine Qg (fA fa106_3 G)<|Qg (lB sca3 G (a.lo b) G)<|SR.gcall G ent133 (c_spec_l1In i s.Value 1 999) G ?_
        rintro e aT ⟨rfl,H⟩
        refine ⟨_,G,?_⟩
        have ay:=H.size
        refine Q (pT G G)<|Q (aB G)<|Qn (⟨_,G,⟨⟨G,(eDD ((jat O).trans (jat r))),G,trivial⟩,H⟩⟩)
       ·refine Qs<|Qs<|Qs<|Q (pF G G)<|Q (aB G)<|Qn (⟨_,G,⟨⟨G,(eDF ((jaf O).trans (jat r)).2),G,trivial⟩,(lr _)⟩⟩)
      ·refine Qs<|Q (pF G G)<|Q (mB G)<|Qs<|Qs<|Qs<|Q (pF G G)<|Q (aB G)<|Qn (⟨_,G,⟨⟨G,(eDF (jaf r).2),G,trivial⟩,(lr _)⟩⟩)
     rintro aF aU ⟨X,I⟩
     rw [← sA X]
     have az:=I.size
     refine We (ret1 G (v:=.bool _) G ?_)
     exact ⟨eR (eB (by unfold spec_l32Step; rw [if_neg k,if_neg l,if_neg p,if_pos N] <;> rfl)),(f.lo I)⟩
    ·refine Wk (Ws (WJ (fun f' w'=>At f' [(4,.bool (decide (((s.Kind=4)∧((0≤(idxF (hasId s.Id) x.Maps))∧((s.Reader=0)∧(1≤s.Value))))∨((¬(s.Kind=4))∧(((s.Kind=6)∧((0≤(idxF (hasId s.Id) x.Maps))∧((s.Reader=0)∧(1≤s.Value))))∨((¬(s.Kind=6))∧((s.Kind=7)∧((0≤(idxF (hasId s.Id) x.Maps))∧((s.Reader=0)∧(1≤s.Value))))))))))]∧Lo i w') ?_ ?_))
     ·refine Q (fA fa106_0 G)<|Q (lB sca3 G (a.lo b) G)<|Q (r_eq G G)<|Q (mB G)<|QD (fun c=>?_) (fun c=>?_)
      ·refine Qs<|Qs<|Qs<|Q (pT G G)<|Q (mB G)<|Qs<|Qs<|Qs<|Q (pT G G)<|Q (mB G)<|Qg (mB G)<|Q (pT G G)<|Q (mB G)<|QD (fun t=>?_) (fun t=>?_)
       ·refine Qg (fA fa106_2 G)<|Qg (lB sca3 G (a.lo b) G)<|Qg (r_eq G G)<|Q (pT G G)<|Q (mB G)<|QD (fun P=>?_) (fun P=>?_)
        ·refine Qg (fA fa106_3 G)<|Qg (lB sca3 G (a.lo b) G)<|Qg (r_ge G G)<|Q (pT G G)<|Q (aB G)<|Qn (⟨_,G,⟨⟨(eDD (((jat P).trans (jat t)).trans (jgt c))),trivial⟩,(lr _)⟩⟩)
        ·refine Qs<|Qs<|Qs<|Q (pF G G)<|Q (aB G)<|Qn (⟨_,G,⟨⟨(eDF (((jaf P).trans (jat t)).trans (jgt c)).2),trivial⟩,(lr _)⟩⟩)
       ·refine Qs<|Qs<|Qs<|Q (pF G G)<|Q (mB G)<|Qs<|Qs<|Qs<|Q (pF G G)<|Q (aB G)<|Qn (⟨_,G,⟨⟨(eDF ((jaf t).trans (jgt c)).2),trivial⟩,(lr _)⟩⟩)
      ·refine Qg (fA fa106_0 G)<|Qg (lB sca3 G (a.lo b) G)<|Qg (r_eq G G)<|Q (pF G G)<|Q (mB G)<|QD (fun d=>?_) (fun d=>?_)
       ·refine Qs<|Qs<|Qs<|Q (pT G G)<|Q (mB G)<|Qg (mB G)<|Q (pT G G)<|Q (mB G)<|QD (fun u=>?_) (fun u=>?_)
        ·refine Qg (fA fa106_2 G)<|Qg (lB sca3 G (a.lo b) G)<|Qg (r_eq G G)<|Q (pT G G)<|Q (mB G)<|QD (fun R=>?_) (fun R=>?_)
         ·refine Qg (fA fa106_3 G)<|Qg (lB sca3 G (a.lo b) G)<|Qg (r_ge G G)<|Q (pT G G)<|Q (aB G)<|Qn (⟨_,G,⟨⟨(eDD ((((jat R).trans (jat u)).trans (jgt d)).trans (jgf c))),trivial⟩,(lr _)⟩⟩)
         ·refine Qs<|Qs<|Qs<|Q (pF G G)<|Q (aB G)<|Qn (⟨_,G,⟨⟨(eDF ((((jaf R).trans (jat u)).trans (jgt d)).trans (jgf c)).2),trivial⟩,(lr _)⟩⟩)
        ·refine Qs<|Qs<|Qs<|Q (pF G G)<|Q (mB G)<|Qs<|Qs<|Qs<|Q (pF G G)<|Q (aB G)<|Qn (⟨_,G,⟨⟨(eDF (((jaf u).trans (jgt d)).trans (jgf c)).2),trivial⟩,(lr _)⟩⟩)
       ·refine Qg (fA fa106_0 G)<|Qg (lB sca3 G (a.lo b) G)<|Qg (r_eq G G)<|Q (pF G G)<|Q (mB G)<|QD (fun m=>?_) (fun m=>?_)
        ·refine Qg (mB G)<|Q (pT G G)<|Q (mB G)<|QD (fun y=>?_) (fun y=>?_)
         ·refine Qg (fA fa106_2 G)<|Qg (lB sca3 G (a.lo b) G)<|Qg (r_eq G G)<|Q (pT G G)<|Q (mB G)<|QD (fun S=>?_) (fun S=>?_)
          ·refine Qg (fA fa106_3 G)<|Qg (lB sca3 G (a.lo b) G)<|Qg (r_ge G G)<|Q (pT G G)<|Q (aB G)<|Qn (⟨_,G,⟨⟨(eDD (((((jat S).trans (jat y)).trans (jat m)).trans (jgf d)).trans (jgf c))),trivial⟩,(lr _)⟩⟩)
          ·refine Qs<|Qs<|Qs<|Q (pF G G)<|Q (aB G)<|Qn (⟨_,G,⟨⟨(eDF (((((jaf S).trans (jat y)).trans (jat m)).trans (jgf d)).trans (jgf c)).2),trivial⟩,(lr _)⟩⟩)
         ·refine Qs<|Qs<|Qs<|Q (pF G G)<|Q (mB G)<|Qs<|Qs<|Qs<|Q (pF G G)<|Q (aB G)<|Qn (⟨_,G,⟨⟨(eDF ((((jaf y).trans (jat m)).trans (jgf d)).trans (jgf c)).2),trivial⟩,(lr _)⟩⟩)
        ·refine Qs<|Q (pF G G)<|Q (mB G)<|Qs<|Qs<|Qs<|Q (pF G G)<|Q (mB G)<|Qs<|Qs<|Qs<|Q (pF G G)<|Q (aB G)<|Qn (⟨_,G,⟨⟨(eDF (((jaf m).trans (jgf d)).trans (jgf c)).2),trivial⟩,(lr _)⟩⟩)
     rintro aG aV ⟨Y,J⟩
     rw [← sA Y]
     have aA:=J.size
     refine We (ret1 G (v:=.bool _) G ?_)
     exact ⟨eR (eB (by unfold spec_l32Step; rw [if_neg k,if_neg l,if_neg p,if_neg N] <;> rfl)),(f.lo J)⟩
end Go.Proofs.YtndcchndcghmoaaGreatDoor
namespace Go.Proofs.YtndcchndcghmoaaGreatDoor
open Go Go.RowKit Fw
section
variable {x : Library} {s : LibraryStep} {id n r a : Int}
theorem bought_yes (h:0≤idxF (hasId id) x.Maps):boughtN x id n={ x with Maps:=x.Maps.set (idxF (hasId id) x.Maps).toNat (moreM (gt x.Maps (idxF (hasId id) x.Maps).toNat) n),Bought:=x.Bought+n }:=if_pos h
theorem bought_no (h:¬0≤idxF (hasId id) x.Maps):boughtN x id n={ x with Maps:=x.Maps.take (bdM id x.Maps)++[⟨id,n,0⟩]++x.Maps.drop (bdM id x.Maps),Bought:=x.Bought+n }:=if_neg h
theorem stepL_rng (h:spec_l32Step x s=true):(s.Kind=1→(1≤s.Id∧s.Id≤99)∧(1≤s.Value∧s.Value≤50))∧(¬s.Kind=1→0≤idxF (hasId s.Id) x.Maps)∧0≤s.Value∧(¬s.Kind=4∧¬s.Kind=6∧¬s.Kind=7→s.Value≤999):=by
  unfold spec_l32Step at h
  split at h
  · have:=of_decide_eq_true h; omega
  · split at h
    · have:=of_decide_eq_true h; omega
    · split at h
      · have:=of_decide_eq_true h; omega
      · split at h
        · have:=of_decide_eq_true h; omega
        · have:=of_decide_eq_true h; omega
theorem gone_lenMaps (x:Library) (i r:Int):((goneN x i r).Maps).length=x.Maps.length:=rfl
theorem gone_lenAway (x:Library) (i r:Int):((goneN x i r).Away).length=x.Away.length+1:=ins_len (bdA_le _ _)
theorem back_lenMaps (x:Library) (a:Int):((backN x a).Maps).length=x.Maps.length:=rfl
theorem back_lenAway (x:Library) (a:Int):((backN x a).Away).length≤x.Away.length:=del_lenT _ oB
theorem bought_lenMaps (x:Library) (i n:Int):((boughtN x i n).Maps).length≤x.Maps.length+1:=by
  unfold boughtN; split
  · simp
  · exact Nat.le_of_eq (ins_len (bdM_le _ _))
theorem bought_lenAway (x:Library) (i n:Int):((boughtN x i n).Away).length=x.Away.length:=by unfold boughtN; split <;> rfl
end
end Go.Proofs.YtndcchndcghmoaaGreatDoor
namespace Go.Proofs.YtndcchndcghmoaaGreatDoor
open Go Go.RowKit Fw
set_option maxRecDepth 10000
set_option maxHeartbeats 2000000
set_option linter.unusedVariables false
variable {Ax1 Ax2 : Option Addr} {nx1 cx1 Bx1 nx2 cx2 Bx2 : Nat}
theorem bld102_0_1 (a0:Int) (a1:Int):Tryz.prog.built 102 [(0,i6 a0),(1,i6 a1)]=some (List.toArray [i6 a0,i6 a1,i6 0]):=by kernel_rfl
theorem ent79:Ent Tryz.prog 79:=en Tryz.func79
theorem c_spec_l32Bought (w:World) (x:Library) (bI:SlR w Bx1 encLMap 3 Ax1 nx1 cx1 x.Maps) (bJ:SlR w Bx2 encAway 2 Ax2 nx2 cx2 x.Away) (id:Int) (n:Int) (cy:LibOK x) (eL:0≤n∧n≤100):Calls Tryz.prog 166 #[.agg (List.toArray (cLb Ax1 nx1 cx1 Ax2 nx2 cx2 x)),i6 id,i6 n] w fun e w'=>∃ A1' n1' c1' A2' n2' c2',e=.returned (.agg (List.toArray (cLb A1' n1' c1' A2' n2' c2' (boughtN x id n))))∧SlO w' w.heap.size encLMap 3 102 A1' n1' c1' ((boughtN x id n).Maps)∧SlO w' w.heap.size encAway 2 129 A2' n2' c2' ((boughtN x id n).Away)∧Dj A1' A2'∧Lo w w':=by
 refine cW 71 Tryz.func166 G G G ?_
 have cU:=bI.bound
 have dn:=bI.len
 have cR:=bI.bd
 have cX:=bJ.bound
 have dp:=bJ.len
 have cS:=bJ.bd
 have hlb:=lib_rng cy
 refine Ws (Wr (bx G ?_))
 intro g1 w2 eK co eM cO
 refine Qa (l:=zLb) tz34 G ?_
 intro g9 aU dW ar d5 cJ
 refine Qn (Ws ?_)
 have bN:=(bI.lo co).lo ar
 have bO:=(bJ.lo co).lo ar
 refine Wr (Q (lG agg34 G (cO.lo ar) G)<|Qc ent79 (c_spec_l32Own aU x bN bO oB oB) G ?_)
 rintro e eN ⟨d,ah,ag,s,R,P,rfl,aQ,aR,bM,ak⟩
 refine ⟨_,G,?_⟩
 have ea:=ak.size
 have dY:=aQ.len
 have dZ:=aQ.rd.bound
 have d1:=aR.len
 have d2:=aR.rd.bound
 refine Qa (l:=zLb) tz34 G ?_
 intro p eO dX Y d6 cK
 have X:=nE (g:=p) aQ
 have aj:=nE (g:=p) aR
 refine Qw (o:=0) (vs:=(cLb d ah ag s R P x)) agg34.2 G G G G cK ler G ?_
 intro eP Z d7 cN
 refine Qn (Ws ?_)
 have bu:=(((cO.lo ar).lo ak).lo Y).kn Z
 have bP:=((bN.lo ak).lo Y).kn Z
 have bQ:=((bO.lo ak).lo Y).kn Z
 refine Wr (Q (fA fa34_2 G)<|Q (lB sca3 G bu G)<|Q (mI G)<|Q (r_add G G oB)<|Q (fA fa34_2 G)<|Qw (o:=2) (vs:=[i6 (x.Bought+n)]) sca3.2 G G G G cN ler G ?_)
 intro dQ A d8 bl
 refine Qn (Ws (Ws (Wr (Q (lG agg34 G (bu.kn A) G)<|Q (mI G)<|Qv ent165 (c_spec_l32Map dQ x (bP.kn A) (bQ.kn A) id) G fun z B ed=>?_))))
 have bL:=(((((((lr w).lo co).lo ar).lo ak).lo Y).new Z).new A).lo B
 have d3:idxF (hasId id) x.Maps<(x.Maps.length:Int)∧-1≤idxF (hasId id) x.Maps:=idx_lt
 refine Q (aI G)<|Qn (Ws ?_)
 have bR:=(bu.kn A).lo B
 have aT:=(bP.kn A).lo B
 have bS:=((((cJ.lo ak).lo Y).kn Z).kn A).lo B
 have O:=(((aQ.lo Y).kd Z X).kd A X).lo B
 have bT:=(((aR.lo Y).kd Z aj).kd A aj).lo B
 refine Wr (Q (mI G)<|Q (r_ge G G)<|Qn (Wd G (fun cQ=>?_) (fun cQ=>?_)))
 ·refine Ws (WA (Kp (KA d) z) (fun f' w'=>At f' [(1,i6 id),(2,i6 n),(3,pt g1),(6,pt g9),(7,pt p)]∧(Kp (KA d) z w')∧(SlO w' aU.heap.size encLMap 3 102 d ah ag (x.Maps.set ((idxF (hasId id) x.Maps).toNat) ({ (gt x.Maps ((idxF (hasId id) x.Maps).toNat)) with Copies:=((gt x.Maps ((idxF (hasId id) x.Maps).toNat)).Copies)+n })))∧(x.Maps[(idxF (hasId id) x.Maps).toNat]?=some (gt x.Maps ((idxF (hasId id) x.Maps).toNat)))∧(((1:Int)≤(gt x.Maps ((idxF (hasId id) x.Maps).toNat)).Id∧(gt x.Maps ((idxF (hasId id) x.Maps).toNat)).Id≤99)∧((0:Int)≤(gt x.Maps ((idxF (hasId id) x.Maps).toNat)).Copies∧(gt x.Maps ((idxF (hasId id) x.Maps).toNat)).Copies≤99)∧((0:Int)≤(gt x.Maps ((idxF (hasId id) x.Maps).toNat)).Torn∧(gt x.Maps ((idxF (hasId id) x.Maps).toNat)).Torn≤(gt x.Maps ((idxF (hasId id) x.Maps).toNat)).Copies))∧((x.Maps.set ((idxF (hasId id) x.Maps).toNat) ({ (gt x.Maps ((idxF (hasId id) x.Maps).toNat)) with Copies:=((gt x.Maps ((idxF (hasId id) x.Maps).toNat)).Copies)+n }))[(idxF (hasId id) x.Maps).toNat]?=some ({ (gt x.Maps ((idxF (hasId id) x.Maps).toNat)) with Copies:=((gt x.Maps ((idxF (hasId id) x.Maps).toNat)).Copies)+n }))) mo ?_ ?_)
  ·intro ee c
   have dz:=c.size
   refine Ak 0 G ((kr c:Kp (KA d) z _)) (fun w' hw'=>fA fa34_0 G)<|Ak 1 G ((kr c:Kp (KA d) z _)) (fun w' hw'=>lB sca31 G ((bl.lo B).kp hw' (fun e'=>X e')) G)<|Ak 2 G ((kr c:Kp (KA d) z _)) (fun w' hw'=>mI G)<|Ak 3 G ((kr c:Kp (KA d) z _)) (fun w' hw'=>fA fa34_0 G)<|Ak 4 G ((kr c:Kp (KA d) z _)) (fun w' hw'=>lB sca31 G (bR.kp hw' (nE O)) G)<|Ak 5 G ((kr c:Kp (KA d) z _)) (fun w' hw'=>mI G)<|?_
   have ae:=(aT.lo c).elem (i:=(idxF (hasId id) x.Maps).toNat) oB
   have cz:=maps_rng cy.1.1 ae
   refine Ak 6 G ((kr c:Kp (KA d) z _)) (fun w' hw'=>rX tsl31 (aT.kp hw' (fun b_ hb e'=>by have:=O.base_le e'; omega)) G G oB)<|Ak 7 G ((kr c:Kp (KA d) z _)) (fun w' hw'=>fA fa102_1 G)<|Ak 8 G ((kr c:Kp (KA d) z _)) (fun w' hw'=>r_ld (v:=i6 ((gt x.Maps ((idxF (hasId id) x.Maps).toNat)).Copies)) sca3 G ((aT.kp hw' (fun b_ hb e'=>by have:=O.base_le e'; omega)).cell ae G))<|Ak 9 G ((kr c:Kp (KA d) z _)) (fun w' hw'=>mI G)<|Ak 10 G ((kr c:Kp (KA d) z _)) (fun w' hw'=>r_add G G oB)<|Ab 11 G (Q (rX tsl31 ((O.lo c).rd) G G oB) (Qn ⟨(kr c:Kp (KA d) z _),_,G,(Ak 12 G ((kr c:Kp (KA d) z _)) (fun w' hw'=>fA fa102_1 G)<|Ab 13 G (SR.storeO (o:=1) (vs:=[i6 (((gt x.Maps ((idxF (hasId id) x.Maps).toNat)).Copies)+n)]) (x1:={ (gt x.Maps ((idxF (hasId id) x.Maps).toNat)) with Copies:=((gt x.Maps ((idxF (hasId id) x.Maps).toNat)).Copies)+n }) sca3.2 G (add_add _ _ _) G G (O.lo c) ae G ler G ?_))⟩))
   intro ef bq du bU
   have dA:=bq.size
   have ba:=((kr c:Kp (KA d) z _)).step bq (fun _ _ e=>e)
   have cA:(x.Maps.set ((idxF (hasId id) x.Maps).toNat) ({ (gt x.Maps ((idxF (hasId id) x.Maps).toNat)) with Copies:=((gt x.Maps ((idxF (hasId id) x.Maps).toNat)).Copies)+n }))[(idxF (hasId id) x.Maps).toNat]?=some ({ (gt x.Maps ((idxF (hasId id) x.Maps).toNat)) with Copies:=((gt x.Maps ((idxF (hasId id) x.Maps).toNat)).Copies)+n }):=List.getElem?_set_self (List.getElem?_eq_some_iff.1 ae).1
   refine Qn ⟨ba,_,G,(Ad oC (⟨(At.r G),ba,bU,ae,cz,cA⟩))⟩
  rintro dR eg ⟨bD,U,cp,d9,d4,dy⟩
  rw [← sA bD]
  have dB:=U.size
  refine Ws (Wr (Q (lG agg34 G ((bl.lo B).kp U (fun e'=>X e')) G)<|Qw (o:=0) (vs:=[.slice d ah ag,.slice s R P,i6 (x.Bought+n),i6 x.Dropped,i6 x.Mended]) agg34.2 G G G G (bS.kp U (nE O)) ler G ?_))
  intro eh aA dv b4
  refine Qn (We (retC G G agg34 b4 G ?_))
  refine ⟨d,ah,ag,s,R,P,eR (e5 ?_ ?_ ?_),(oq ((cp.kn aA).down) ?_),(oq (((bT.kp U (fun b_ hb e'=>bM b_ e' hb)).kn aA).down) ?_),bM,((bL.step U (fun i_ hi_ e'=>by have:=O.base_le e'; first | omega | exact e' | exact .inl e' | exact .inr e')).new aA)⟩ <;> (first | (rw [bought_yes (x:=x) (id:=id) (n:=n) oJ]; first | done | rfl) | (rw [bought_no (x:=x) (id:=id) (n:=n) oJ]; first | done | rfl | (dsimp only; rw [← loopM_end (And.right ‹_∧∀ j,_→cmpM _ _<0›) oB oB]; done) | (dsimp only; rw [← loopM_end (And.right ‹_∧∀ j,_→cmpM _ _<0›) oB oB]; rfl)))
 ·refine Wk (Ws (Wr (Q (aI G)<|Qn (Ws (Wl (WL (σ:=Nat) (fun g=>[(1,i6 id),(2,i6 n),(3,pt g1),(6,pt g9),(7,pt p),(9,i6 (g:Int))]) (fun g w'=>(Lo w w')∧(Blk w' g1 34 (cLb Ax1 nx1 cx1 Ax2 nx2 cx2 x))∧(SlR w' Bx1 encLMap 3 Ax1 nx1 cx1 x.Maps)∧(SlR w' Bx2 encAway 2 Ax2 nx2 cx2 x.Away)∧(Blk w' g9 34 zLb)∧(Blk w' p 34 [.slice d ah ag,.slice s R P,i6 (x.Bought+n),i6 x.Dropped,i6 x.Mended])∧(SlO w' aU.heap.size encLMap 3 102 d ah ag x.Maps)∧(SlO w' aU.heap.size encAway 2 129 s R P x.Away)∧(g≤nx1∧∀ j,j<g→cmpM (gt x.Maps j) id<0)) (fun g=>nx1-g) 0 ?_ ?_ ?_))))))
  ·exact (At.r G)
  ·exact ⟨bL,bR,aT,((bQ.kn A).lo B),bS,bl.lo B,O,bT,(by exact ⟨Nat.zero_le _,fun _ h=>absurd h oB⟩)⟩
  ·rintro k cI I bZ
   obtain ⟨aY,K,u,cq,aE,ac,m,f,dh⟩:(Lo w I)∧(Blk I g1 34 (cLb Ax1 nx1 cx1 Ax2 nx2 cx2 x))∧(SlR I Bx1 encLMap 3 Ax1 nx1 cx1 x.Maps)∧(SlR I Bx2 encAway 2 Ax2 nx2 cx2 x.Away)∧(Blk I g9 34 zLb)∧(Blk I p 34 [.slice d ah ag,.slice s R P,i6 (x.Bought+n),i6 x.Dropped,i6 x.Mended])∧(SlO I aU.heap.size encLMap 3 102 d ah ag x.Maps)∧(SlO I aU.heap.size encAway 2 129 s R P x.Away)∧(k≤nx1∧∀ j,j<k→cmpM (gt x.Maps j) id<0):=bZ
   refine (?_:W _ _ _ _ _ (act _ (sets cI [(1,i6 id),(2,i6 n),(3,pt g1),(6,pt g9),(7,pt p),(9,i6 (k:Int))])) _)
   have cP:=aY.size
   have di:=K.lt
   have dk:=aE.lt
   have dm:=ac.lt
   refine Ws (Ws (WJ (fun f' w'=>At f' [(1,i6 id),(2,i6 n),(3,pt g1),(6,pt g9),(7,pt p),(9,i6 (k:Int)),(50,.bool (decide (((k:Int)<(nx1:Int))∧(((gt x.Maps k).Id)<id))))]∧Lo I w') ?_ ?_))
   ·refine Q (mI G)<|Q (fA fa34_0 G)<|Q (lB sca31 G K G)<|Q (r_len und31 G)<|Q (r_lt G G)<|Q (mB G)<|QD (fun aW=>?_) (fun aW=>?_)
    ·refine Qg (fA fa34_0 G)<|Qg (lB sca31 G K G)<|Qg (mI G)<|?_
     have bB:=u.elem (i:=k) oB
     have dq:=maps_rng cy.1.1 bB
     refine Qg (rX tsl31 u G G oB)<|Qg (fA fa102_0 G)<|Qg (r_ld (v:=i6 ((gt x.Maps k).Id)) sca3 G (u.cell bB G))<|Qg (mI G)<|Qg (r_lt G G)<|Q (pT G G)<|Qn (⟨_,G,⟨⟨G,G,G,G,G,G,(eDD (jat aW)),trivial⟩,(lr _)⟩⟩)
    ·refine Qs<|Qs<|Qs<|Qs<|Qs<|Qs<|Qs<|Qs<|Q (pF G G)<|Qn (⟨_,G,⟨⟨G,G,G,G,G,G,(eDF (jaf aW).2),trivial⟩,(lr _)⟩⟩)
   rintro dS y ⟨bE,a⟩
   rw [← sA bE]
   have dC:=a.size
   have aZ:=aY.lo a
   refine Wd G (fun aX=>?_) (fun aX=>?_)
   ·have dr:(k:Int)<(nx1:Int):=aX.1
    have dt:((gt x.Maps k).Id)<id:=aX.2
    refine Wk (Wl (Wr (Q (mI G)<|Q (r_add G G oB)<|Q (aI G)<|Qn (⟨k+1,_,G,(At.r G),⟨aZ,K.lo a,u.lo a,cq.lo a,aE.lo a,ac.lo a,m.lo a,f.lo a,?_⟩,?_⟩))))
    ·exact (by exact ⟨oB,loopM_next (And.right ‹_∧∀ j,_→cmpM _ _<0›) oB⟩)
    ·exact oB
   ·refine Wx (xh (Ws (WA (Kp (fun b_=>b_=p) y) (fun f' w'=>∃ (t:Nat) (cC:Option Addr) (cE:Nat) (S:Option Addr) (aq:Nat) (F:Option Addr) (ai:Nat) (H:Nat),At f' [(6,pt g9),(7,pt p)]∧(Kp (fun b_=>b_=p) y w')∧(SlO w' y.heap.size encLMap 3 102 S (((0+k)+1)+(nx1-k)) aq (((x.Maps.take k)++([(⟨id,n,0⟩:LMap)]:List LMap))++(x.Maps.drop k)))∧(Blk w' p 34 [.slice S (((0+k)+1)+(nx1-k)) aq,.slice s R P,i6 (x.Bought+n),i6 x.Dropped,i6 x.Mended])∧Dj S d∧Dj S s) mo ?_ ?_)))
    ·intro ei b
     have dD:=b.size
     refine Av #[true,true,true,true,true,true,true,true,true,true,false,true,true,true,true,false,false,false] 4 (fun f' w'=>∃ (t:Nat) (F:Option Addr) (ai:Nat) (H:Nat),At f' [(6,pt g9),(7,pt p),(58,.slice F (0+k) ai),(62,.slice (pA H) 1 1),(67,.slice (cutA Ax1 cx1 k 3) (nx1-k) (cx1-k))]∧(Kp (fun b_=>b_=p) y w')∧(SlO w' y.heap.size encLMap 3 102 F (0+k) ai (x.Maps.take k))∧(SlO w' y.heap.size encLMap 3 102 (pA H) 1 1 ([(⟨id,n,0⟩:LMap)]:List LMap))∧(Blk w' p 34 [.slice d ah ag,.slice s R P,i6 (x.Bought+n),i6 x.Dropped,i6 x.Mended])∧Dj F d∧Dj F s∧(∀ b_,F=some ⟨b_,0,none⟩→¬(pA H)=some ⟨b_,0,none⟩)∧(∀ b_,(pA H)=some ⟨b_,0,none⟩→¬d=some ⟨b_,0,none⟩)∧(∀ b_,(pA H)=some ⟨b_,0,none⟩→¬s=some ⟨b_,0,none⟩)) ?_ (fun bz=>?_)
     ·rintro dT ej ⟨t,F,ai,H,bF,D,M,cr,aF,bm,bn,cY,cZ,c6⟩
      rw [← sA bF]
      have dE:=D.size
      refine Ab 10 G (Qp tel31 G G M (cr.rd) (fun _=>G) oB oB ?_)
      intro aH cF ek E a6 au
      have dF:=E.size
      have bb:=D.step E (fun i_ hi_ e'=>by have:=M.base_le e'; omega)
      have ce:Dj aH d:=fun b_ e' h'=>(au b_ e').elim (fun h=>bm b_ (h.trans e') h') (fun h=>by have:=((m.lo a).kd D X).base_le h'; omega)
      have cf:Dj aH s:=fun b_ e' h'=>(au b_ e').elim (fun h=>bn b_ (h.trans e') h') (fun h=>by have:=((f.lo a).kd D aj).base_le h'; omega)
      have bp:¬aH=some ⟨p,0,none⟩:=fun e'=>(au p e').elim (fun h=>by have:=M.base_le (h.trans e'); omega) (fun h=>by have:=aF.lt; omega)
      refine Qn ⟨bb,_,G,(Ab 15 G (Qp tel31 G G a6 ((((u.lo a).cutl (l:=k) oB).kn D oB).kp E (fun b_ hb e'=>by have:=M.base_le e'; omega)) (fun _=>G) oB oB ?_))⟩
      intro ap bK el aC bV aw
      have dG:=aC.size
      have ay:=bb.step aC (fun i_ hi_ e'=>by have:=a6.base_le e'; omega)
      have cg:Dj ap d:=fun b_ e' h'=>(aw b_ e').elim (fun h=>ce b_ (h.trans e') h') (fun h=>by have:=(((m.lo a).kd D X).kp E (fun b_ hb e'=>bm b_ e' hb)).base_le h'; omega)
      have ch:Dj ap s:=fun b_ e' h'=>(aw b_ e').elim (fun h=>cf b_ (h.trans e') h') (fun h=>by have:=(((f.lo a).kd D aj).kp E (fun b_ hb e'=>bn b_ e' hb)).base_le h'; omega)
      have ci:¬ap=some ⟨p,0,none⟩:=fun e'=>(aw p e').elim (fun h=>bp (h.trans e')) (fun h=>by have:=(aF.kp E (nE M)).lt; omega)
      refine Qn ⟨ay,_,G,(Ak 16 G ay (fun w' hw'=>fA fa34_0 G)<|Ab 17 G (Qw (o:=0) (vs:=[.slice ap (((0+k)+1)+(nx1-k)) bK]) sca31.2 G G G G ((aF.kp E (nE M)).kp aC (fun e'=>bp e')) ler G ?_))⟩
      intro em bs dw b5
      have bc:=ay.step bs (fun _ _ e=>e)
      refine Qn ⟨bc,_,G,(Ad oC (⟨t,aH,cF,ap,bK,F,ai,H,⟨G,G,trivial⟩,bc,((bV.kd bs ci).down),b5,cg,ch⟩))⟩
     refine Av #[true,true,true,true,true,false,true,true,true,true,false,true,true,true,true,false,false,false] 5 (fun f' w'=>∃ (t:Nat) (N:Nat),At f' [(6,pt g9),(7,pt p),(53,.slice (pA t) 0 0),(57,.slice Ax1 k cx1),(62,.slice (pA N) 1 1),(67,.slice (cutA Ax1 cx1 k 3) (nx1-k) (cx1-k))]∧(Kp (fun b_=>b_=p) y w')∧(SlO w' y.heap.size encLMap 3 102 (pA t) 0 0 ([]:List LMap))∧(SlO w' y.heap.size encLMap 3 102 (pA N) 1 1 ([(⟨id,n,0⟩:LMap)]:List LMap))∧(Blk w' p 34 [.slice d ah ag,.slice s R P,i6 (x.Bought+n),i6 x.Dropped,i6 x.Mended])∧(∀ b_,(pA t)=some ⟨b_,0,none⟩→¬d=some ⟨b_,0,none⟩)∧(∀ b_,(pA t)=some ⟨b_,0,none⟩→¬s=some ⟨b_,0,none⟩)∧(∀ b_,(pA t)=some ⟨b_,0,none⟩→¬(pA N)=some ⟨b_,0,none⟩)∧(∀ b_,(pA N)=some ⟨b_,0,none⟩→¬d=some ⟨b_,0,none⟩)∧(∀ b_,(pA N)=some ⟨b_,0,none⟩→¬s=some ⟨b_,0,none⟩)) ?_ (fun bA=>?_)
     ·rintro dU eo ⟨t,N,bG,V,aG,bt,cw,b8,b9,bo,ca,cd⟩
      rw [← sA bG]
      have dH:=V.size
      refine Ab 5 G (Qp tel31 G G aG (((u.lo a).head (h:=k) oB).kn V oB) (fun _=>G) oB oB ?_)
      intro aJ cG ep am a7 ax
      have dI:=am.size
      have be:=V.step am (fun i_ hi_ e'=>by have:=aG.base_le e'; omega)
      rw [List.nil_append] at a7
      have cj:Dj aJ d:=fun b_ e' h'=>(ax b_ e').elim (fun h=>b8 b_ (h.trans e') h') (fun h=>by have:=((m.lo a).kd V X).base_le h'; omega)
      have ck:Dj aJ s:=fun b_ e' h'=>(ax b_ e').elim (fun h=>b9 b_ (h.trans e') h') (fun h=>by have:=((f.lo a).kd V aj).base_le h'; omega)
      have cl:∀ b_,aJ=some ⟨b_,0,none⟩→¬(pA N)=some ⟨b_,0,none⟩:=fun b_ e' h'=>(ax b_ e').elim (fun h=>bo b_ (h.trans e') h') (fun h=>by have:=bt.base_le h'; omega)
      refine Qn ⟨be,_,G,(Ag oC G (bz _ _ (⟨t,aJ,cG,N,(At.r G),be,(a7.down),((bt.kp am (fun b_ hb e'=>bo b_ e' hb)).down),(cw.kp am (nE aG)),cj,ck,cl,ca,cd⟩)))⟩
     refine Ak 1 G (kr b) (fun w' hw'=>fA fa34_0 G)<|Ak 2 G (kr b) (fun w' hw'=>lB sca31 G ((K.lo a).kn hw' oB) G)<|Ak 3 G (kr b) (fun w' hw'=>mI G)<|Ak 4 G (kr b) (fun w' hw'=>r_cuth (h:=k) tsl31 G G G (Nat.le_trans (by omega:k≤nx1) (u.lo a).cap))<|Ak 6 G (kr b) (fun w' hw'=>mI G)<|Ak 7 G (kr b) (fun w' hw'=>mI G)<|Ak 8 G (kr b) (fun w' hw'=>r_build (vs:=[(0,i6 id),(1,i6 n)]) G (bld102_0_1 _ _))<|Ak 11 G (kr b) (fun w' hw'=>fA fa34_0 G)<|Ak 12 G (kr b) (fun w' hw'=>lB sca31 G ((K.lo a).kn hw' oB) G)<|Ak 13 G (kr b) (fun w' hw'=>mI G)<|Ak 14 G (kr b) (fun w' hw'=>r_cutl (l:=k) tsl31 G G G oB)<|Ar [0,9] oC G ⟨Bm G trivial ?_,Bm G trivial ?_,trivial⟩
     ·refine Ql (vs:=[]) (L:=([]:List LMap)) (enc:=encLMap) tel31 (fun _=>G) G G G oG ?_
      intro aK eu da q C
      have dJ:=q.size
      have az:=((kr b:Kp (fun b_=>b_=p) y _)).lo q
      refine Qn ⟨az,_,G,(Ar [5,9] oC G ⟨Bm G trivial ?_,Bm G trivial ?_,trivial⟩)⟩
      ·refine Qp tel31 G G C ((((u.lo a).head (h:=k) oB).lo b).lo q) (fun _=>G) oB oB ?_
       intro cD cH ew aa T cT
       have dK:=aa.size
       have bf:=az.step aa (fun i_ hi_ e'=>by have:=C.base_le e'; omega)
       rw [List.nil_append] at T
       refine Qn ⟨bf,_,G,(Ab 9 G (Ql (vs:=[.agg (List.toArray [i6 id,i6 n,i6 0])]) (L:=([(⟨id,n,0⟩:LMap)]:List LMap)) (enc:=encLMap) tel31 (fun _=>G) G G G oG ?_))⟩
       intro aM ex db J bW
       have dL:=J.size
       have bg:=bf.lo J
       have cm:=nE (g:=aM) ((((m.lo a).lo b).lo q).kp aa (fun b_ hb e'=>by have h1:=C.base_le e'; have h2:=(((m.lo a).lo b).lo q).base_le hb; have h3:=((m.lo a).lo b).base_le hb; omega))
       have cn:=nE (g:=aM) ((((f.lo a).lo b).lo q).kp aa (fun b_ hb e'=>by have h1:=C.base_le e'; have h2:=(((f.lo a).lo b).lo q).base_le hb; have h3:=((f.lo a).lo b).base_le hb; omega))
       refine Qn ⟨bg,_,G,(Ag oC G (bz _ _ (⟨aK,cD,cH,aM,(At.r G),bg,((T.lo J).down),(bW.down),(((((ac.lo a).lo b).lo q).kp aa (nE C)).lo J),(dj (T.lo J) ((m.lo a).lo b)),(dj (T.lo J) ((f.lo a).lo b)),(fun b_ h h'=>(nE (g:=aM) T) (h.trans h'.symm)),(fun b_ h h'=>cm (h'.trans h.symm)),(fun b_ h h'=>cn (h'.trans h.symm))⟩)))⟩
      ·refine Ql (vs:=[.agg (List.toArray [i6 id,i6 n,i6 0])]) (L:=([(⟨id,n,0⟩:LMap)]:List LMap)) (enc:=encLMap) tel31 (fun _=>G) G G G oG ?_
       intro aN ey de an bX
       have dM:=an.size
       have bh:=az.lo an
       refine Qn ⟨bh,_,G,(Ag oC G (bA _ _ (⟨aK,aN,(At.r G),bh,((C.lo an).down),(bX.down),((((ac.lo a).lo b).lo q).lo an),(fun b_ h h'=>(nE (g:=aK) ((m.lo a).lo b)) (h'.trans h.symm)),(fun b_ h h'=>(nE (g:=aK) ((f.lo a).lo b)) (h'.trans h.symm)),(fun b_ h h'=>(nE (g:=aN) C) (h.trans h'.symm)),(fun b_ h h'=>(nE (g:=aN) (((m.lo a).lo b).lo q)) (h'.trans h.symm)),(fun b_ h h'=>(nE (g:=aN) (((f.lo a).lo b).lo q)) (h'.trans h.symm))⟩)))⟩
     ·refine Ql (vs:=[.agg (List.toArray [i6 id,i6 n,i6 0])]) (L:=([(⟨id,n,0⟩:LMap)]:List LMap)) (enc:=encLMap) tel31 (fun _=>G) G G G oG ?_
      intro aV ez df ab a8
      have dN:=ab.size
      have bi:=((kr b:Kp (fun b_=>b_=p) y _)).lo ab
      refine Qn ⟨bi,_,G,(Ab 0 G (Ql (vs:=[]) (L:=([]:List LMap)) (enc:=encLMap) tel31 (fun _=>G) G G G oG ?_))⟩
      intro aO eD dg ao bY
      have dO:=ao.size
      have bj:=bi.lo ao
      refine Qn ⟨bj,_,G,(Ag oC G (bA _ _ (⟨aO,aV,(At.r G),bj,(bY.down),((a8.lo ao).down),((((ac.lo a).lo b).lo ab).lo ao),(fun b_ h h'=>(nE (g:=aO) (((m.lo a).lo b).lo ab)) (h'.trans h.symm)),(fun b_ h h'=>(nE (g:=aO) (((f.lo a).lo b).lo ab)) (h'.trans h.symm)),(fun b_ h h'=>(nE (g:=aO) a8) (h'.trans h.symm)),(fun b_ h h'=>(nE (g:=aV) ((m.lo a).lo b)) (h'.trans h.symm)),(fun b_ h h'=>(nE (g:=aV) ((f.lo a).lo b)) (h'.trans h.symm))⟩)))⟩
    rintro dV eE ⟨t,cC,cE,S,aq,F,ai,H,bH,al,ct,cu,c7,b7⟩
    rw [← sA bH]
    have dP:=al.size
    refine Ws ?_
    have cx:=(aE.lo a).kn al oB
    refine Wr (Q (lG agg34 G cu G)<|Qw (o:=0) (vs:=[.slice S (((0+k)+1)+(nx1-k)) aq,.slice s R P,i6 (x.Bought+n),i6 x.Dropped,i6 x.Mended]) agg34.2 G G G G cx ler G ?_)
    intro eF aD dx b6
    refine Qn (We (retC G G agg34 b6 G ?_))
    refine ⟨S,((0+k)+1)+(nx1-k),aq,s,R,P,eR (e5 ?_ ?_ ?_),(oq ((ct.kn aD).down) ?_),(oq ((((f.lo a).kd al aj).kn aD).down) ?_),b7,((aZ.new al oB).new aD)⟩ <;> (first | (rw [bought_yes (x:=x) (id:=id) (n:=n) oJ]; first | done | rfl) | (rw [bought_no (x:=x) (id:=id) (n:=n) oJ]; first | done | rfl | (dsimp only; rw [← loopM_end (And.right ‹_∧∀ j,_→cmpM _ _<0›) oB oB]; done) | (dsimp only; rw [← loopM_end (And.right ‹_∧∀ j,_→cmpM _ _<0›) oB oB]; rfl)))
theorem c_spec_l32Gone (w:World) (x:Library) (bi:SlR w Bx1 encLMap 3 Ax1 nx1 cx1 x.Maps) (bj:SlR w Bx2 encAway 2 Ax2 nx2 cx2 x.Away) (id:Int) (r:Int) (dO:(nx1:Int)≤100) (dP:(nx2:Int)≤100):Calls Tryz.prog 193 #[.agg (List.toArray (cLb Ax1 nx1 cx1 Ax2 nx2 cx2 x)),i6 id,i6 r] w fun e w'=>∃ A1' n1' c1' A2' n2' c2',e=.returned (.agg (List.toArray (cLb A1' n1' c1' A2' n2' c2' (goneN x id r))))∧SlO w' w.heap.size encLMap 3 102 A1' n1' c1' ((goneN x id r).Maps)∧SlO w' w.heap.size encAway 2 129 A2' n2' c2' ((goneN x id r).Away)∧Dj A1' A2'∧Lo w w':=by
 refine cW 66 Tryz.func193 G G G ?_
 have cm:=bi.bound
 have cz:=bi.len
 have ci:=bi.bd
 have cn:=bj.bound
 have cA:=bj.len
 have cj:=bj.bd
 refine Ws (Wr (bx G ?_))
 intro g1 w2 dN bV dQ cl
 refine Qa (l:=zLb) tz34 G ?_
 intro g9 dR c6 ay dn cf
 refine Qn (Ws (Wr (Q (aI G)<|Qn (Ws (Wl (WL (σ:=Nat) (fun g=>[(1,i6 id),(2,i6 r),(3,pt g1),(6,pt g9),(7,i6 (g:Int))]) (fun g w'=>(Lo w w')∧(Blk w' g1 34 (cLb Ax1 nx1 cx1 Ax2 nx2 cx2 x))∧(SlR w' Bx1 encLMap 3 Ax1 nx1 cx1 x.Maps)∧(SlR w' Bx2 encAway 2 Ax2 nx2 cx2 x.Away)∧(Blk w' g9 34 zLb)∧(g≤nx2∧∀ j,j<g→cmpA (gt x.Away j) (⟨id,r⟩:Away)<0)) (fun g=>nx2-g) 0 ?_ ?_ ?_))))))
 ·exact (At.r G)
 ·exact ⟨(((lr w).lo bV).lo ay),cl.lo ay,((bi.lo bV).lo ay),((bj.lo bV).lo ay),cf,(by exact ⟨Nat.zero_le _,fun _ h=>absurd h oB⟩)⟩
 ·rintro k ch aD ce
  obtain ⟨bn,E,bp,p,a7,da⟩:(Lo w aD)∧(Blk aD g1 34 (cLb Ax1 nx1 cx1 Ax2 nx2 cx2 x))∧(SlR aD Bx1 encLMap 3 Ax1 nx1 cx1 x.Maps)∧(SlR aD Bx2 encAway 2 Ax2 nx2 cx2 x.Away)∧(Blk aD g9 34 zLb)∧(k≤nx2∧∀ j,j<k→cmpA (gt x.Away j) (⟨id,r⟩:Away)<0):=ce
  refine (?_:W _ _ _ _ _ (act _ (sets ch [(1,i6 id),(2,i6 r),(3,pt g1),(6,pt g9),(7,i6 (k:Int))])) _)
  have cS:=bn.size
  have db:=E.lt
  have de:=a7.lt
  refine Ws (Ws (WJ (fun f' w'=>At f' [(1,i6 id),(2,i6 r),(3,pt g1),(6,pt g9),(7,i6 (k:Int)),(43,.bool (decide (((k:Int)<(nx2:Int))∧((((gt x.Away k).Map)<id)∨((((gt x.Away k).Map)=id)∧(((gt x.Away k).Reader)<r))))))]∧Lo aD w') ?_ ?_))
  ·refine Q (mI G)<|Q (fA fa34_1 G)<|Q (lB sca32 G E G)<|Q (r_len und32 G)<|Q (r_lt G G)<|Q (mB G)<|QD (fun aF=>?_) (fun aF=>?_)
   ·refine Qg (fA fa34_1 G)<|Qg (lB sca32 G E G)<|Qg (mI G)<|?_
    have bc:=p.elem (i:=k) oB
    refine Qg (rX tsl32 p G G oB)<|Qg (fA fa129_0 G)<|Qg (r_ld (v:=i6 ((gt x.Away k).Map)) sca3 G (p.cell bc G))<|Qg (mI G)<|Qg (r_lt G G)<|Qg (mB G)<|QD (fun be=>?_) (fun be=>?_)
    ·refine Qs<|Qs<|Qs<|Qs<|Qs<|Qs<|Qs<|Qs<|Qs<|Qu<|Qu<|Qu<|Qu<|Qu<|Qu<|Qu<|Qu<|Qs<|Qg (pT G G)<|Q (pT G G)<|Qn (⟨_,G,⟨⟨G,G,G,G,G,(eDT (((jot be).trans (jat aF)).1 trivial)),trivial⟩,(lr _)⟩⟩)
    ·refine Qg (fA fa34_1 G)<|Qg (lB sca32 G E G)<|Qg (mI G)<|Qg (rX tsl32 p G G oB)<|Qg (fA fa129_0 G)<|Qg (r_ld (v:=i6 ((gt x.Away k).Map)) sca3 G (p.cell bc G))<|Qg (mI G)<|Qg (r_eq G G)<|Qg (mB G)<|QD (fun bt=>?_) (fun bt=>?_)
     ·refine Qg (fA fa34_1 G)<|Qg (lB sca32 G E G)<|Qg (mI G)<|Qg (rX tsl32 p G G oB)<|Qg (fA fa129_1 G)<|Qg (r_ld (v:=i6 ((gt x.Away k).Reader)) sca3 G (p.cell bc G))<|Qg (mI G)<|Qg (r_lt G G)<|Qg (pT G G)<|Qg (pF G G)<|Q (pT G G)<|Qn (⟨_,G,⟨⟨G,G,G,G,G,(eDD (((jat bt).trans (jof be)).trans (jat aF))),trivial⟩,(lr _)⟩⟩)
     ·refine Qs<|Qs<|Qs<|Qs<|Qs<|Qs<|Qs<|Qs<|Qg (pF G G)<|Qg (pF G G)<|Q (pT G G)<|Qn (⟨_,G,⟨⟨G,G,G,G,G,(eDF (((jaf bt).trans (jof be)).trans (jat aF)).2),trivial⟩,(lr _)⟩⟩)
   ·refine Qs<|Qs<|Qs<|Qs<|Qs<|Qs<|Qs<|Qs<|Qs<|Qu<|Qu<|Qu<|Qu<|Qu<|Qu<|Qu<|Qu<|Qu<|Qu<|Qu<|Qu<|Qu<|Qu<|Qu<|Qu<|Qu<|Qu<|Qs<|Q (pF G G)<|Qn (⟨_,G,⟨⟨G,G,G,G,G,(eDF (jaf aF).2),trivial⟩,(lr _)⟩⟩)
  rintro dJ cT ⟨bD,d⟩
  rw [← sA bD]
  have dr:=d.size
  have bo:=bn.lo d
  refine Wd G (fun bu=>?_) (fun bu=>?_)
  ·have dk:(k:Int)<(nx2:Int):=bu.1
   have dm:(((gt x.Away k).Map)<id)∨((((gt x.Away k).Map)=id)∧(((gt x.Away k).Reader)<r)):=bu.2
   refine Wk (Wl (Wr (Q (mI G)<|Q (r_add G G oB)<|Q (aI G)<|Qn (⟨k+1,_,G,(At.r G),⟨bo,E.lo d,bp.lo d,p.lo d,a7.lo d,?_⟩,?_⟩))))
   ·exact (by exact ⟨oB,loopA_next (And.right ‹_∧∀ j,_→cmpA _ _<0›) (by unfold lexlt; dsimp only; omega)⟩)
   ·exact oB
  ·refine Wx (xh (Ws (Wr (Q (lG agg34 G (E.lo d) G)<|Qc ent79 (c_spec_l32Own cT x (bp.lo d) (p.lo d) oB oB) G ?_))))
   rintro e dS ⟨z,aC,aA,H,b4,bs,rfl,au,aw,cZ,aa⟩
   refine ⟨_,G,?_⟩
   have dt:=aa.size
   have df:=au.len
   have dg:=au.rd.bound
   have dh:=aw.len
   have di:=aw.rd.bound
   refine Qa (l:=zLb) tz34 G ?_
   intro m dT c7 P dp cg
   have Z:=nE (g:=m) au
   have ax:=nE (g:=m) aw
   refine Qw (o:=0) (vs:=(cLb z aC aA H b4 bs x)) agg34.2 G G G G cg ler G ?_
   intro N R dq aV
   refine Qn (Ws ?_)
   have bq:=(((E.lo d).lo aa).lo P).kn R
   have az:=(((p.lo d).lo aa).lo P).kn R
   have f:=(au.lo P).kd R Z
   have n:=(aw.lo P).kd R ax
   refine WA (Kp (fun b_=>b_=m) N) (fun f' w'=>∃ (c:Nat) (b5:Option Addr) (b7:Nat) (F:Option Addr) (Y:Nat) (y:Option Addr) (O:Nat) (A:Nat),At f' [(6,pt g9),(8,pt m)]∧(Kp (fun b_=>b_=m) N w')∧(SlO w' N.heap.size encAway 2 129 F (((0+k)+1)+(nx2-k)) Y (((x.Away.take k)++([(⟨id,r⟩:Away)]:List Away))++(x.Away.drop k)))∧(Blk w' m 34 [.slice z aC aA,.slice F (((0+k)+1)+(nx2-k)) Y,i6 x.Bought,i6 x.Dropped,i6 x.Mended])∧Dj F z∧Dj F H) mo ?_ ?_
   ·intro du a
    have cD:=a.size
    refine Av #[true,true,true,true,true,true,true,true,true,true,false,true,true,true,true,false,false,false] 4 (fun f' w'=>∃ (c:Nat) (y:Option Addr) (O:Nat) (A:Nat),At f' [(6,pt g9),(8,pt m),(53,.slice y (0+k) O),(57,.slice (pA A) 1 1),(62,.slice (cutA Ax2 cx2 k 2) (nx2-k) (cx2-k))]∧(Kp (fun b_=>b_=m) N w')∧(SlO w' N.heap.size encAway 2 129 y (0+k) O (x.Away.take k))∧(SlO w' N.heap.size encAway 2 129 (pA A) 1 1 ([(⟨id,r⟩:Away)]:List Away))∧(Blk w' m 34 (cLb z aC aA H b4 bs x))∧Dj y z∧Dj y H∧(∀ b_,y=some ⟨b_,0,none⟩→¬(pA A)=some ⟨b_,0,none⟩)∧(∀ b_,(pA A)=some ⟨b_,0,none⟩→¬z=some ⟨b_,0,none⟩)∧(∀ b_,(pA A)=some ⟨b_,0,none⟩→¬H=some ⟨b_,0,none⟩)) ?_ (fun ba=>?_)
    ·rintro cU dv ⟨c,y,O,A,bf,s,C,bW,ak,aW,aX,co,cp,cq⟩
     rw [← sA bf]
     have cE:=s.size
     refine Ab 10 G (Qp tel32 G G C (bW.rd) (fun _=>G) oB oB ?_)
     intro am b8 dw u aG ab
     have cF:=u.size
     have aK:=s.step u (fun i_ hi_ e'=>by have:=C.base_le e'; omega)
     have bL:Dj am z:=fun b_ e' h'=>(ab b_ e').elim (fun h=>aW b_ (h.trans e') h') (fun h=>by have:=(f.kd s Z).base_le h'; omega)
     have bM:Dj am H:=fun b_ e' h'=>(ab b_ e').elim (fun h=>aX b_ (h.trans e') h') (fun h=>by have:=(n.kd s ax).base_le h'; omega)
     have aZ:¬am=some ⟨m,0,none⟩:=fun e'=>(ab m e').elim (fun h=>by have:=C.base_le (h.trans e'); omega) (fun h=>by have:=ak.lt; omega)
     refine Qn ⟨aK,_,G,(Ab 15 G (Qp tel32 G G aG (((az.cutl (l:=k) oB).kn s oB).kp u (fun b_ hb e'=>by have:=C.base_le e'; omega)) (fun _=>G) oB oB ?_))⟩
     intro X bl dx ai bz ac
     have cG:=ai.size
     have ag:=aK.step ai (fun i_ hi_ e'=>by have:=aG.base_le e'; omega)
     have bN:Dj X z:=fun b_ e' h'=>(ac b_ e').elim (fun h=>bL b_ (h.trans e') h') (fun h=>by have:=((f.kd s Z).kp u (fun b_ hb e'=>aW b_ e' hb)).base_le h'; omega)
     have bO:Dj X H:=fun b_ e' h'=>(ac b_ e').elim (fun h=>bM b_ (h.trans e') h') (fun h=>by have:=((n.kd s ax).kp u (fun b_ hb e'=>aX b_ e' hb)).base_le h'; omega)
     have bP:¬X=some ⟨m,0,none⟩:=fun e'=>(ac m e').elim (fun h=>aZ (h.trans e')) (fun h=>by have:=(ak.kp u (nE C)).lt; omega)
     refine Qn ⟨ag,_,G,(Ak 16 G ag (fun w' hw'=>fA fa34_1 G)<|Ab 17 G (Qw (o:=1) (vs:=[.slice X (((0+k)+1)+(nx2-k)) bl]) sca32.2 G G G G ((ak.kp u (nE C)).kp ai (fun e'=>aZ e')) ler G ?_))⟩
     intro dy a6 cB bE
     have aM:=ag.step a6 (fun _ _ e=>e)
     refine Qn ⟨aM,_,G,(Ad oC (⟨c,am,b8,X,bl,y,O,A,⟨G,G,trivial⟩,aM,((bz.kd a6 bP).down),bE,bN,bO⟩))⟩
    refine Av #[true,true,true,true,true,false,true,true,true,true,false,true,true,true,true,false,false,false] 5 (fun f' w'=>∃ (c:Nat) (D:Nat),At f' [(6,pt g9),(8,pt m),(48,.slice (pA c) 0 0),(52,.slice Ax2 k cx2),(57,.slice (pA D) 1 1),(62,.slice (cutA Ax2 cx2 k 2) (nx2-k) (cx2-k))]∧(Kp (fun b_=>b_=m) N w')∧(SlO w' N.heap.size encAway 2 129 (pA c) 0 0 ([]:List Away))∧(SlO w' N.heap.size encAway 2 129 (pA D) 1 1 ([(⟨id,r⟩:Away)]:List Away))∧(Blk w' m 34 (cLb z aC aA H b4 bs x))∧(∀ b_,(pA c)=some ⟨b_,0,none⟩→¬z=some ⟨b_,0,none⟩)∧(∀ b_,(pA c)=some ⟨b_,0,none⟩→¬H=some ⟨b_,0,none⟩)∧(∀ b_,(pA c)=some ⟨b_,0,none⟩→¬(pA D)=some ⟨b_,0,none⟩)∧(∀ b_,(pA D)=some ⟨b_,0,none⟩→¬z=some ⟨b_,0,none⟩)∧(∀ b_,(pA D)=some ⟨b_,0,none⟩→¬H=some ⟨b_,0,none⟩)) ?_ (fun bb=>?_)
    ·rintro cX dz ⟨c,D,bg,J,al,a8,bZ,bH,bI,aY,bJ,bK⟩
     rw [← sA bg]
     have cH:=J.size
     refine Ab 5 G (Qp tel32 G G al ((az.head (h:=k) oB).kn J oB) (fun _=>G) oB oB ?_)
     intro an b9 dA T aH ae
     have cI:=T.size
     have aN:=J.step T (fun i_ hi_ e'=>by have:=al.base_le e'; omega)
     rw [List.nil_append] at aH
     have bQ:Dj an z:=fun b_ e' h'=>(ae b_ e').elim (fun h=>bH b_ (h.trans e') h') (fun h=>by have:=(f.kd J Z).base_le h'; omega)
     have bR:Dj an H:=fun b_ e' h'=>(ae b_ e').elim (fun h=>bI b_ (h.trans e') h') (fun h=>by have:=(n.kd J ax).base_le h'; omega)
     have bS:∀ b_,an=some ⟨b_,0,none⟩→¬(pA D)=some ⟨b_,0,none⟩:=fun b_ e' h'=>(ae b_ e').elim (fun h=>aY b_ (h.trans e') h') (fun h=>by have:=a8.base_le h'; omega)
     refine Qn ⟨aN,_,G,(Ag oC G (ba _ _ (⟨c,an,b9,D,(At.r G),aN,(aH.down),((a8.kp T (fun b_ hb e'=>aY b_ e' hb)).down),(bZ.kp T (nE al)),bQ,bR,bS,bJ,bK⟩)))⟩
    refine Ak 1 G (kr a) (fun w' hw'=>fA fa34_1 G)<|Ak 2 G (kr a) (fun w' hw'=>lB sca32 G (bq.kn hw' oB) G)<|Ak 3 G (kr a) (fun w' hw'=>mI G)<|Ak 4 G (kr a) (fun w' hw'=>r_cuth (h:=k) tsl32 G G G (Nat.le_trans (by omega:k≤nx2) az.cap))<|Ak 6 G (kr a) (fun w' hw'=>mI G)<|Ak 7 G (kr a) (fun w' hw'=>mI G)<|Ak 8 G (kr a) (fun w' hw'=>r_build (vs:=[(0,i6 id),(1,i6 r)]) G (bld129_0_1 _ _))<|Ak 11 G (kr a) (fun w' hw'=>fA fa34_1 G)<|Ak 12 G (kr a) (fun w' hw'=>lB sca32 G (bq.kn hw' oB) G)<|Ak 13 G (kr a) (fun w' hw'=>mI G)<|Ak 14 G (kr a) (fun w' hw'=>r_cutl (l:=k) tsl32 G G G oB)<|Ar [0,9] oC G ⟨Bm G trivial ?_,Bm G trivial ?_,trivial⟩
    ·refine Ql (vs:=[]) (L:=([]:List Away)) (enc:=encAway) tel32 (fun _=>G) G G G oG ?_
     intro ao dB ct b q
     have cJ:=b.size
     have ah:=((kr a:Kp (fun b_=>b_=m) N _)).lo b
     refine Qn ⟨ah,_,G,(Ar [5,9] oC G ⟨Bm G trivial ?_,Bm G trivial ?_,trivial⟩)⟩
     ·refine Qp tel32 G G q (((az.head (h:=k) oB).lo a).lo b) (fun _=>G) oB oB ?_
      intro b6 ca dC K I ck
      have cK:=K.size
      have aO:=ah.step K (fun i_ hi_ e'=>by have:=q.base_le e'; omega)
      rw [List.nil_append] at I
      refine Qn ⟨aO,_,G,(Ab 9 G (Ql (vs:=[.agg (List.toArray [i6 id,i6 r])]) (L:=([(⟨id,r⟩:Away)]:List Away)) (enc:=encAway) tel32 (fun _=>G) G G G oG ?_))⟩
      intro ap dD cu B bA
      have cN:=B.size
      have aQ:=aO.lo B
      have bT:=nE (g:=ap) (((f.lo a).lo b).kp K (fun b_ hb e'=>by have h1:=q.base_le e'; have h2:=((f.lo a).lo b).base_le hb; have h3:=(f.lo a).base_le hb; omega))
      have bU:=nE (g:=ap) (((n.lo a).lo b).kp K (fun b_ hb e'=>by have h1:=q.base_le e'; have h2:=((n.lo a).lo b).base_le hb; have h3:=(n.lo a).base_le hb; omega))
      refine Qn ⟨aQ,_,G,(Ag oC G (ba _ _ (⟨ao,b6,ca,ap,(At.r G),aQ,((I.lo B).down),(bA.down),((((aV.lo a).lo b).kp K (nE q)).lo B),(dj (I.lo B) (f.lo a)),(dj (I.lo B) (n.lo a)),(fun b_ h h'=>(nE (g:=ap) I) (h.trans h'.symm)),(fun b_ h h'=>bT (h'.trans h.symm)),(fun b_ h h'=>bU (h'.trans h.symm))⟩)))⟩
     ·refine Ql (vs:=[.agg (List.toArray [i6 id,i6 r])]) (L:=([(⟨id,r⟩:Away)]:List Away)) (enc:=encAway) tel32 (fun _=>G) G G G oG ?_
      intro aq dE cw U bB
      have cO:=U.size
      have aR:=ah.lo U
      refine Qn ⟨aR,_,G,(Ag oC G (bb _ _ (⟨ao,aq,(At.r G),aR,((q.lo U).down),(bB.down),(((aV.lo a).lo b).lo U),(fun b_ h h'=>(nE (g:=ao) (f.lo a)) (h'.trans h.symm)),(fun b_ h h'=>(nE (g:=ao) (n.lo a)) (h'.trans h.symm)),(fun b_ h h'=>(nE (g:=aq) q) (h.trans h'.symm)),(fun b_ h h'=>(nE (g:=aq) ((f.lo a).lo b)) (h'.trans h.symm)),(fun b_ h h'=>(nE (g:=aq) ((n.lo a).lo b)) (h'.trans h.symm))⟩)))⟩
    ·refine Ql (vs:=[.agg (List.toArray [i6 id,i6 r])]) (L:=([(⟨id,r⟩:Away)]:List Away)) (enc:=encAway) tel32 (fun _=>G) G G G oG ?_
     intro aE dF cx M aJ
     have cP:=M.size
     have aT:=((kr a:Kp (fun b_=>b_=m) N _)).lo M
     refine Qn ⟨aT,_,G,(Ab 0 G (Ql (vs:=[]) (L:=([]:List Away)) (enc:=encAway) tel32 (fun _=>G) G G G oG ?_))⟩
     intro ar dG cy V bC
     have cQ:=V.size
     have aU:=aT.lo V
     refine Qn ⟨aU,_,G,(Ag oC G (bb _ _ (⟨ar,aE,(At.r G),aU,(bC.down),((aJ.lo V).down),(((aV.lo a).lo M).lo V),(fun b_ h h'=>(nE (g:=ar) ((f.lo a).lo M)) (h'.trans h.symm)),(fun b_ h h'=>(nE (g:=ar) ((n.lo a).lo M)) (h'.trans h.symm)),(fun b_ h h'=>(nE (g:=ar) aJ) (h'.trans h.symm)),(fun b_ h h'=>(nE (g:=aE) (f.lo a)) (h'.trans h.symm)),(fun b_ h h'=>(nE (g:=aE) (n.lo a)) (h'.trans h.symm))⟩)))⟩
   rintro cY dH ⟨c,b5,b7,F,Y,y,O,A,bh,S,bX,bY,bG,cr⟩
   rw [← sA bh]
   have cR:=S.size
   refine Ws (Wr (Q (lG agg34 G bY G)<|Qw (o:=0) (vs:=[.slice z aC aA,.slice F (((0+k)+1)+(nx2-k)) Y,i6 x.Bought,i6 x.Dropped,i6 x.Mended]) agg34.2 G G G G (((((a7.lo d).lo aa).lo P).kn R).kn S oB) ler G ?_))
   intro dI aj cC bF
   refine Qn (We (retC G G agg34 bF G ?_))
   refine ⟨z,aC,aA,F,((0+k)+1)+(nx2-k),Y,eR (e5 ?_ ?_ ?_),(oq (((f.kd S Z).kn aj).down) ?_),(oq ((bX.kn aj).down) ?_),(fun b_ h h'=>bG b_ h' h),(((((bo.lo aa).lo P).new R).new S oB).new aj)⟩ <;> (first | rfl | (show _=insAt x.Away _ _; unfold insAt; rw [← loopA_end (t:=⟨id,r⟩) (And.right ‹_∧∀ j,_→cmpA _ _<0›) oB (by unfold lexlt; dsimp only; omega)]))
theorem c_spec_l32Back (w:World) (x:Library) (K:SlR w Bx1 encLMap 3 Ax1 nx1 cx1 x.Maps) (M:SlR w Bx2 encAway 2 Ax2 nx2 cx2 x.Away) (a:Int) (bl:(nx1:Int)≤100) (bm:(nx2:Int)≤100) (bn:0≤a∧a<(nx2:Int)):Calls Tryz.prog 194 #[.agg (List.toArray (cLb Ax1 nx1 cx1 Ax2 nx2 cx2 x)),i6 a] w fun e w'=>∃ A1' n1' c1' A2' n2' c2',e=.returned (.agg (List.toArray (cLb A1' n1' c1' A2' n2' c2' (backN x a))))∧SlO w' w.heap.size encLMap 3 102 A1' n1' c1' ((backN x a).Maps)∧SlO w' w.heap.size encAway 2 129 A2' n2' c2' ((backN x a).Away)∧Dj A1' A2'∧Lo w w':=by
 refine cW 22 Tryz.func194 G G G ?_
 have ax:=K.bound
 have aC:=K.len
 have aq:=K.bd
 have ay:=M.bound
 have aD:=M.len
 have ar:=M.bd
 refine Ws (Wr (bx G ?_))
 intro g1 w2 bj Z bo ao
 refine Qa (l:=zLb) tz34 G ?_
 intro g9 aO aT r aZ al
 refine Qn (Ws ?_)
 have T:=(M.lo Z).lo r
 refine Wr (Q (lG agg34 G (ao.lo r) G)<|Qc ent79 (c_spec_l32Own aO x ((K.lo Z).lo r) T oB oB) G ?_)
 rintro e bp ⟨C,N,I,ag,aN,ap,rfl,A,B,aR,s⟩
 refine ⟨_,G,?_⟩
 have a8:=s.size
 have aV:=A.len
 have aW:=A.rd.bound
 have aX:=B.len
 have aY:=B.rd.bound
 refine Qa (l:=zLb) tz34 G ?_
 intro t bq aU f a6 am
 have S:=nE (g:=t) A
 refine Qw (o:=0) (vs:=(cLb C N I ag aN ap x)) agg34.2 G G G G am ler G ?_
 intro O i a7 an
 refine Qn (Ws ?_)
 have U:=(((ao.lo r).lo s).lo f).kn i
 have H:=((T.lo s).lo f).kn i
 have V:=(A.lo f).kd i S
 refine WA (Kp (fun b_=>b_=t) O) (fun f' w'=>∃ (aj:Nat) (c:Option Addr) (q:Nat) (ac:Option Addr) (ah:Nat),At f' [(4,pt g9),(5,pt t)]∧(Kp (fun b_=>b_=t) O w')∧(SlO w' O.heap.size encAway 2 129 c ((0+a.toNat)+(nx2-((a+1).toNat))) q ((x.Away.take a.toNat)++(x.Away.drop ((a+1).toNat))))∧(Blk w' t 34 [.slice C N I,.slice c ((0+a.toNat)+(nx2-((a+1).toNat))) q,i6 x.Bought,i6 x.Dropped,i6 x.Mended])∧Dj c C∧Dj c ag) mo ?_ ?_
 ·intro ba b
  have aG:=b.size
  refine Ak 1 G (kr b) (fun w' hw'=>fA fa34_1 G)<|Ak 2 G (kr b) (fun w' hw'=>lB sca32 G (U.kn hw' oB) G)<|Ak 3 G (kr b) (fun w' hw'=>mI G)<|Ak 4 G (kr b) (fun w' hw'=>r_cuth (h:=a.toNat) tsl32 G G oB (Nat.le_trans (by omega:a.toNat≤nx2) H.cap))<|Ak 6 G (kr b) (fun w' hw'=>fA fa34_1 G)<|Ak 7 G (kr b) (fun w' hw'=>lB sca32 G (U.kn hw' oB) G)<|Ak 8 G (kr b) (fun w' hw'=>mI G)<|Ak 9 G (kr b) (fun w' hw'=>r_add G G oB)<|Ak 10 G (kr b) (fun w' hw'=>r_cutl (l:=(a+1).toNat) tsl32 G G oB oB)<|Ab 0 G (Ql (vs:=[]) (L:=([]:List Away)) (enc:=encAway) tel32 (fun _=>G) G G G oG ?_)
  intro ak bb aA d j
  have aH:=d.size
  have D:=((kr b:Kp (fun b_=>b_=t) O _)).lo d
  refine Qn ⟨D,_,G,(Ab 5 G (Qp tel32 G G j (((H.head (h:=a.toNat) oB).lo b).lo d) (fun _=>G) oB oB ?_))⟩
  intro ae ai bc n k au
  have aJ:=n.size
  have E:=D.step n (fun i_ hi_ e'=>by have:=j.base_le e'; omega)
  rw [List.nil_append] at k
  refine Qn ⟨E,_,G,(Ab 11 G (Qp tel32 G G k ((((H.cutl (l:=(a+1).toNat) oB).lo b).lo d).kp n (fun b_ hb e'=>by have:=j.base_le e'; omega)) (fun _=>G) oB oB ?_))⟩
  intro P R be y u aw
  have aK:=y.size
  have v:=E.step y (fun i_ hi_ e'=>by have:=k.base_le e'; omega)
  refine Qn ⟨v,_,G,(Ak 12 G v (fun w' hw'=>fA fa34_1 G)<|Ab 13 G (Qw (o:=1) (vs:=[.slice P ((0+a.toNat)+(nx2-((a+1).toNat))) R]) sca32.2 G G G G ((((an.lo b).lo d).kp n (nE j)).kp y (nE k)) ler G ?_))⟩
  intro bf p aE W
  have F:=v.step p (fun _ _ e=>e)
  refine Qn ⟨F,_,G,(Ad oC (⟨ak,P,R,ae,ai,⟨G,G,trivial⟩,F,((u.kn p).down),W,(dj (u.kn p) (V.lo b)),(dj (u.kn p) (((B.lo f).kd i (nE (g:=t) B)).lo b))⟩))⟩
 rintro aQ bg ⟨aj,c,q,ac,ah,J,m,aa,ab,Y,az⟩
 rw [← sA J]
 have aM:=m.size
 refine Ws (Wr (Q (lG agg34 G ab G)<|Qw (o:=0) (vs:=[.slice C N I,.slice c ((0+a.toNat)+(nx2-((a+1).toNat))) q,i6 x.Bought,i6 x.Dropped,i6 x.Mended]) agg34.2 G G G G ((((al.lo s).lo f).kn i).kn m oB) ler G ?_))
 intro bh z aF X
 refine Qn (We (retC G G agg34 X G ?_))
 refine ⟨C,N,I,c,(0+a.toNat)+(nx2-((a+1).toNat)),q,eR (e5 ?_ ?_ ?_),(oq (((V.kd m S).kn z).down) ?_),(oq ((aa.kn z).down) ?_),(fun b_ h h'=>Y b_ h' h),((((((((lr w).lo Z).lo r).lo s).lo f).new i).new m oB).new z)⟩ <;> (first | rfl | (unfold backN delAt; dsimp only; first | rfl | (rw [show (a+1).toNat=a.toNat+1 by omega]; done) | (rw [show (a+1).toNat=a.toNat+1 by omega,List.nil_append])))
end Go.Proofs.YtndcchndcghmoaaGreatDoor
namespace Go.Proofs.YtndcchndcghmoaaGreatDoor
open Go Go.RowKit Fw
set_option maxRecDepth 10000
set_option maxHeartbeats 2000000
set_option linter.unusedVariables false
variable {Ax1 Ax2 : Option Addr} {nx1 cx1 Bx1 nx2 cx2 Bx2 : Nat}
theorem bld102_0_1_2 (a0:Int) (a1:Int) (a2:Int):Tryz.prog.built 102 [(0,i6 a0),(1,i6 a1),(2,i6 a2)]=some (List.toArray [i6 a0,i6 a1,i6 a2]):=by kernel_rfl
theorem ent114:Ent Tryz.prog 114:=en Tryz.func114
theorem ent115:Ent Tryz.prog 115:=en Tryz.func115
theorem ent166:Ent Tryz.prog 166:=en Tryz.func166
theorem ent167:Ent Tryz.prog 167:=en Tryz.func167
theorem ent168:Ent Tryz.prog 168:=en Tryz.func168
theorem ent192:Ent Tryz.prog 192:=en Tryz.func192
theorem ent193:Ent Tryz.prog 193:=en Tryz.func193
theorem ent194:Ent Tryz.prog 194:=en Tryz.func194
open Classical in
noncomputable def spec_l32Readers (x:Library) (s:LibraryStep) (i:Int):Library × Bool :=
 if s.Kind=2 then ((⟨((goneN x s.Id s.Reader).Maps).set i.toNat ({ (gt ((goneN x s.Id s.Reader).Maps) i.toNat) with Copies:=((gt x.Maps i.toNat).Copies)-1 }),(goneN x s.Id s.Reader).Away,(goneN x s.Id s.Reader).Bought,(goneN x s.Id s.Reader).Dropped,(goneN x s.Id s.Reader).Mended⟩:Library),decide (((idxF (isA s.Id s.Reader) x.Away)<0)∧(((gt x.Maps i.toNat).Torn)<((gt x.Maps i.toNat).Copies)))) else if (idxF (isA s.Id s.Reader) x.Away)<0 then (x,false) else if s.Kind=5 then ((goneN (backN x (idxF (isA s.Id s.Reader) x.Away)) s.Id s.Value),decide ((idxF (isA s.Id s.Value) x.Away)<0)) else ((⟨((backN x (idxF (isA s.Id s.Reader) x.Away)).Maps).set i.toNat ({ ({ (gt ((backN x (idxF (isA s.Id s.Reader) x.Away)).Maps) i.toNat) with Copies:=((gt x.Maps i.toNat).Copies)+1 }) with Torn:=((gt x.Maps i.toNat).Torn)+s.Value }),(backN x (idxF (isA s.Id s.Reader) x.Away)).Away,(backN x (idxF (isA s.Id s.Reader) x.Away)).Bought,(backN x (idxF (isA s.Id s.Reader) x.Away)).Dropped,(backN x (idxF (isA s.Id s.Reader) x.Away)).Mended⟩:Library),true)
theorem c_spec_l32Readers (w:World) (x:Library) (bA:SlR w Bx1 encLMap 3 Ax1 nx1 cx1 x.Maps) (bB:SlR w Bx2 encAway 2 Ax2 nx2 cx2 x.Away) (s:LibraryStep) (i:Int) (bz:LibOK x) (fa:0≤i∧i<(nx1:Int)) (fb:0≤s.Value∧s.Value≤999):Calls Tryz.prog 168 #[.agg (List.toArray (cLb Ax1 nx1 cx1 Ax2 nx2 cx2 x)),.agg (List.toArray (encLibraryStep s)),i6 i] w fun e w'=>∃ A1' n1' c1' A2' n2' c2',e=.returned (.tuple (List.toArray [.agg (List.toArray (cLb A1' n1' c1' A2' n2' c2' ((spec_l32Readers x s i).1))),.bool ((spec_l32Readers x s i).2)]))∧SlO w' w.heap.size encLMap 3 102 A1' n1' c1' (((spec_l32Readers x s i).1).Maps)∧SlO w' w.heap.size encAway 2 129 A2' n2' c2' (((spec_l32Readers x s i).1).Away)∧Dj A1' A2'∧Lo w w':=by
 refine cW 92 Tryz.func168 G G G ?_
 have c6:=bA.bound
 have dw:=bA.len
 have cX:=bA.bd
 have c7:=bB.bound
 have dx:=bB.len
 have cY:=bB.bd
 have hlb:=lib_rng bz
 refine Ws (Wr (bx G ?_))
 intro g1 w2 e9 ck fc cZ
 refine bx G ?_
 intro g9 fd el aQ eu be
 refine Qa (l:=zLb) tz34 G ?_
 intro z bq em I ew bg
 refine Q (aB G)<|Qn (Ws ?_)
 have L:=(cZ.lo aQ).lo I
 have t:=((bA.lo ck).lo aQ).lo I
 have M:=((bB.lo ck).lo aQ).lo I
 refine WA (Lo bq) (fun f' w'=>∃ (y:Nat),At f' [(2,i6 i),(3,pt g1),(4,pt g9),(6,pt z),(7,.bool false),(8,i6 (idxF (isA s.Id s.Reader) x.Away)),(9,pt y)]∧(Lo bq w')∧(Blk w' y 102 [i6 ((gt x.Maps i.toNat).Id),i6 ((gt x.Maps i.toNat).Copies),i6 ((gt x.Maps i.toNat).Torn)])∧(bq.heap.size≤y∧y<w'.heap.size)∧(x.Maps[i.toNat]?=some (gt x.Maps i.toNat))∧(((1:Int)≤(gt x.Maps i.toNat).Id∧(gt x.Maps i.toNat).Id≤99)∧((0:Int)≤(gt x.Maps i.toNat).Copies∧(gt x.Maps i.toNat).Copies≤99)∧((0:Int)≤(gt x.Maps i.toNat).Torn∧(gt x.Maps i.toNat).Torn≤(gt x.Maps i.toNat).Copies))∧(idxF (isA s.Id s.Reader) x.Away<(x.Away.length:Int)∧-1≤idxF (isA s.Id s.Reader) x.Away)) mo ?_ ?_
 ·intro eh d
  have ey:=d.size
  refine Av #[true,true,true,true,true,true,true,true,true,true,true,true,true,false] 1 (fun f' w'=>∃ (y:Nat),At f' [(2,i6 i),(3,pt g1),(4,pt g9),(6,pt z),(7,.bool false),(8,i6 (idxF (isA s.Id s.Reader) x.Away)),(9,pt y),(22,.agg (List.toArray (encLMap (gt x.Maps i.toNat))))]∧(Lo bq w')∧(Blk w' y 102 [i6 0,i6 0,i6 0])∧(bq.heap.size≤y∧y<w'.heap.size)∧(x.Maps[i.toNat]?=some (gt x.Maps i.toNat))∧(((1:Int)≤(gt x.Maps i.toNat).Id∧(gt x.Maps i.toNat).Id≤99)∧((0:Int)≤(gt x.Maps i.toNat).Copies∧(gt x.Maps i.toNat).Copies≤99)∧((0:Int)≤(gt x.Maps i.toNat).Torn∧(gt x.Maps i.toNat).Torn≤(gt x.Maps i.toNat).Copies))∧(idxF (isA s.Id s.Reader) x.Away<(x.Away.length:Int)∧-1≤idxF (isA s.Id s.Reader) x.Away)) ?_ (fun bP=>?_)
  ·rintro e7 fe ⟨y,bZ,bL,cP,eo,bT,bQ,bR⟩
   rw [← sA bZ]
   have ez:=bL.size
   refine Ab 13 G (Qw (o:=0) (vs:=[i6 ((gt x.Maps i.toNat).Id),i6 ((gt x.Maps i.toNat).Copies),i6 ((gt x.Maps i.toNat).Torn)]) agg102.2 G G G G cP ler G ?_)
   intro ff cO ex bN
   have bM:=bL.new cO
   refine Qn ⟨bM,_,G,(Ad oC (⟨y,(At.r G),bM,bN,⟨oB,bN.lt⟩,bT,bQ,bR⟩))⟩
  refine Ak 0 G d (fun w' hw'=>lG agg34 G (L.lo hw') G)<|Ak 1 G d (fun w' hw'=>fA fa106_1 G)<|Ak 2 G d (fun w' hw'=>lB sca3 G ((be.lo I).lo hw') G)<|Ak 3 G d (fun w' hw'=>fA fa106_2 G)<|Ak 4 G d (fun w' hw'=>lB sca3 G ((be.lo I).lo hw') G)<|Ak 6 G d (fun w' hw'=>fA fa34_0 G)<|Ak 7 G d (fun w' hw'=>lB sca31 G (L.lo hw') G)<|Ak 8 G d (fun w' hw'=>mI G)<|?_
  have aR:=(t.lo d).elem (i:=i.toNat) oB
  have bS:=maps_rng bz.1.1 aR
  refine Ak 9 G d (fun w' hw'=>rX tsl31 (t.lo hw') G G oB)<|Ak 10 G d (fun w' hw'=>r_lda (l:=encLMap (gt x.Maps i.toNat)) agg102 G (fun _ _ hu=>(t.lo hw').cell aR hu) ((t.lo hw').esz _))<|Ar [5,11] oC G ⟨Bm G trivial ?_,Bm G trivial ?_,trivial⟩
  ·refine Qv ent192 (c_spec_l32Away eh x (t.lo d) (M.lo d) s.Id s.Reader) G fun eD cg dZ=>?_
   have a7:=d.lo cg
   have cE:idxF (isA s.Id s.Reader) x.Away<(x.Away.length:Int)∧-1≤idxF (isA s.Id s.Reader) x.Away:=idx_lt
   refine Qn ⟨a7,_,G,(Ab 11 G (Qa (l:=[i6 0,i6 0,i6 0]) tz102 G ?_))⟩
   intro cK eE dg ch dJ bb
   have au:=a7.lo ch
   refine Qn ⟨au,_,G,(Ak 12 G au (fun w' hw'=>aI G)<|Ag oC G (bP _ _ (⟨cK,(At.r G),au,bb,⟨oB,bb.lt⟩,aR,bS,cE⟩)))⟩
  ·refine Qa (l:=[i6 0,i6 0,i6 0]) tz102 G ?_
   intro cN cQ dh aD dK bc
   have a8:=d.lo aD
   refine Qn ⟨a8,_,G,(Ab 5 G (Qv ent192 (c_spec_l32Away cQ x ((t.lo d).lo aD) ((M.lo d).lo aD) s.Id s.Reader) G fun eF aE d1=>?_))⟩
   have aw:=a8.lo aE
   have cF:idxF (isA s.Id s.Reader) x.Away<(x.Away.length:Int)∧-1≤idxF (isA s.Id s.Reader) x.Away:=idx_lt
   refine Qn ⟨aw,_,G,(Ak 12 G aw (fun w' hw'=>aI G)<|Ag oC G (bP _ _ (⟨cN,(At.r G),aw,(bc.lo aE),⟨oB,(bc.lo aE).lt⟩,aR,bS,cF⟩)))⟩
 rintro ei bp ⟨y,bs,c,bO,ep,bT,bQ,bR⟩
 rw [← sA bs]
 have d2:=c.size
 have ap:=((((lr w).lo ck).lo aQ).lo I).lo c
 refine Ws (Ws ?_)
 have Z:=(be.lo I).lo c
 refine Wr (Q (fA fa106_0 G)<|Q (lB sca3 G Z G)<|Q (r_eq G G)<|Qn (Wd G (fun ak=>?_) (fun ak=>?_)))
 ·refine Ws (Wr (Q (lG agg34 G (L.lo c) G)<|Q (fA fa106_1 G)<|Q (lB sca3 G Z G)<|Q (fA fa106_2 G)<|Q (lB sca3 G Z G)<|Qc ent193 (c_spec_l32Gone bp x (t.lo c) (M.lo c) s.Id s.Reader oB oB) G ?_))
  rintro e eG ⟨ac,am,ai,ae,an,aj,rfl,P,R,bh,Y⟩
  refine ⟨_,G,?_⟩
  have d3:=Y.size
  have cl:=P.len
  have dm:=P.rd.bound
  have dy:=gone_lenMaps x s.Id s.Reader
  have cm:=R.len
  have dn:=R.rd.bound
  have dz:=gone_lenAway x s.Id s.Reader
  refine Qa (l:=zLb) tz34 G ?_
  intro bK eH di F dL b4
  have bi:=nE (g:=bK) P
  refine Qw (o:=0) (vs:=(cLb ac am ai ae an aj (goneN x s.Id s.Reader))) agg34.2 G G G G b4 ler G ?_
  intro eJ H dM bf
  refine Qn (Ws ?_)
  have bj:=(((bg.lo c).lo Y).lo F).kn H
  have aJ:=((bO.lo Y).lo F).kn H
  have q:=(P.lo F).kd H bi
  refine Wr (Q (fA fa34_0 G)<|Q (lB sca31 G bf G)<|Q (mI G)<|Q (fA fa102_1 G)<|Q (lB sca3 G aJ G)<|Q (r_sub G G oB)<|?_)
  have aK:=(q.rd).elem (i:=i.toNat) oB
  have dA:=maps_rng bz.1.1 aK
  refine Q (rX tsl31 (q.rd) G G oB)<|Q (fA fa102_1 G)<|SR.storeO (o:=1) (vs:=[i6 (((gt x.Maps i.toNat).Copies)-1)]) (x1:={ (gt ((goneN x s.Id s.Reader).Maps) i.toNat) with Copies:=((gt x.Maps i.toNat).Copies)-1 }) sca3.2 G (add_add _ _ _) G G q aK G ler G ?_
  intro aT k dN bY
  have d4:=k.size
  have dX:(((goneN x s.Id s.Reader).Maps).set i.toNat ({ (gt ((goneN x s.Id s.Reader).Maps) i.toNat) with Copies:=((gt x.Maps i.toNat).Copies)-1 }))[i.toNat]?=some ({ (gt ((goneN x s.Id s.Reader).Maps) i.toNat) with Copies:=((gt x.Maps i.toNat).Copies)-1 }):=List.getElem?_set_self (List.getElem?_eq_some_iff.1 aK).1
  refine Qn (Ws (WA (Kp (fun b_=>b_=z) aT) (fun f' w'=>At f' [(2,i6 i),(3,pt g1),(4,pt g9),(6,pt z),(7,.bool (decide (((idxF (isA s.Id s.Reader) x.Away)<0)∧(((gt x.Maps i.toNat).Torn)<((gt x.Maps i.toNat).Copies))))),(8,i6 (idxF (isA s.Id s.Reader) x.Away)),(9,pt y)]∧(Kp (fun b_=>b_=z) aT w')∧(Blk w' z 34 (cLb ac am ai ae an aj (goneN x s.Id s.Reader)))) mo ?_ ?_))
  ·intro eK a
   have d5:=a.size
   refine Ak 0 G (kr a) (fun w' hw'=>lG agg34 G ((bf.kp k (fun e'=>bi e')).kn hw' oB) G)<|Ak 1 G (kr a) (fun w' hw'=>mI G)<|Ak 2 G (kr a) (fun w' hw'=>r_lt G G)<|Ak 3 G (kr a) (fun w' hw'=>mB G)<|AH.splitD (fun aO=>?_) (fun aO=>?_)
   ·refine AH.take 4 G oC G (kr a) (fun w' hw'=>fA fa102_1 G)<|AH.take 5 G oC G (kr a) (fun w' hw'=>lB sca3 G ((aJ.kp k (nE q)).kn hw' oB) G)<|AH.take 6 G oC G (kr a) (fun w' hw'=>fA fa102_2 G)<|AH.take 7 G oC G (kr a) (fun w' hw'=>lB sca3 G ((aJ.kp k (nE q)).kn hw' oB) G)<|AH.take 8 G oC G (kr a) (fun w' hw'=>r_gt G G)<|Ak 9 G (kr a) (fun w' hw'=>pT G G)<|Ab 10 G (Qw (o:=0) (vs:=(cLb ac am ai ae an aj (goneN x s.Id s.Reader))) agg34.2 G G G G ((bj.kp k (nE q)).lo a) ler G ?_)
    intro eL ci dO b5
    have ax:=((kr a:Kp (fun b_=>b_=z) aT _)).step ci (fun _ _ e=>e)
    refine Qn ⟨ax,_,G,(Ak 11 G ax (fun w' hw'=>aB G)<|Ad oC (⟨⟨G,G,G,G,(eDD (jat aO)),G,G,trivial⟩,ax,b5⟩))⟩
   ·have dB:=Int.not_lt.1 aO
    refine AH.s' 4 G oC G (kr a)<|AH.s' 5 G oC G (kr a)<|AH.s' 6 G oC G (kr a)<|AH.s' 7 G oC G (kr a)<|AH.s' 8 G oC G (kr a)<|Ak 9 G (kr a) (fun w' hw'=>pF G G)<|Ab 10 G (Qw (o:=0) (vs:=(cLb ac am ai ae an aj (goneN x s.Id s.Reader))) agg34.2 G G G G ((bj.kp k (nE q)).lo a) ler G ?_)
    intro eM cj dP b6
    have ay:=((kr a:Kp (fun b_=>b_=z) aT _)).step cj (fun _ _ e=>e)
    refine Qn ⟨ay,_,G,(Ak 11 G ay (fun w' hw'=>aB G)<|Ad oC (⟨⟨G,G,G,G,(eDF (jaf aO).2),G,G,trivial⟩,ay,b6⟩))⟩
  rintro ej eN ⟨bt,V,cz⟩
  rw [← sA bt]
  have d6:=V.size
  refine We (retCT G G agg34 cz G (v:=.bool _) G ?_)
  refine ⟨ac,am,ai,ae,an,aj,eR (eT2 (e5 ?_ ?_ ?_) (eB ?_)),(oq ((bY.kn V oB).down) ?_),(oq (((((R.lo F).kd H (nE (g:=bK) R)).kp k (fun b_ hb e'=>bh b_ e' hb)).kn V oB).down) ?_),bh,(((((ap.lo Y).lo F).new H).step k (fun i_ hi_ e'=>by have:=q.base_le e'; first | omega | exact e' | exact .inl e' | exact .inr e')).new V oB)⟩ <;> (subst cl cm; unfold spec_l32Readers; rw [if_pos ak] <;> rfl)
 ·refine Wk (Ws (Ws (Wr (Q (mI G)<|Q (r_lt G G)<|Qn (Wd G (fun al=>?_) (fun al=>?_))))))
  ·refine Ws (Wr (Q (lG agg34 G (L.lo c) G)<|Qc ent79 (c_spec_l32Own bp x (t.lo c) (M.lo c) oB oB) G ?_))
   rintro e eO ⟨bC,bU,bG,bD,bV,bH,rfl,aq,ar,cd,aF⟩
   refine ⟨_,G,?_⟩
   have d7:=aF.size
   have cn:=aq.len
   have dp:=aq.rd.bound
   have co:=ar.len
   have dq:=ar.rd.bound
   refine Qw (o:=0) (vs:=(cLb bC bU bG bD bV bH x)) agg34.2 G G G G ((bg.lo c).lo aF) ler G ?_
   intro eP aG dQ b7
   refine Q (aB G)<|Qn (We (retCT G G agg34 b7 G (v:=.bool _) G ?_))
   refine ⟨bC,bU,bG,bD,bV,bH,eR (eT2 (e5 ?_ ?_ ?_) (eB ?_)),(oq ((aq.kn aG).down) ?_),(oq ((ar.kn aG).down) ?_),cd,((ap.lo aF).new aG)⟩ <;> (subst cn co; unfold spec_l32Readers; rw [if_neg ak,if_pos al] <;> rfl)
  ·have dC:=Int.not_lt.1 al
   refine Wk (Ws (Wr (Q (lG agg34 G (L.lo c) G)<|Q (mI G)<|Qc ent194 (c_spec_l32Back bp x (t.lo c) (M.lo c) (idxF (isA s.Id s.Reader) x.Away) oB oB oB) G ?_)))
   rintro e eQ ⟨ag,bn,aU,ah,bo,aV,rfl,S,T,aC,m⟩
   refine ⟨_,G,?_⟩
   have d8:=m.size
   have cp:=S.len
   have dr:=S.rd.bound
   have dD:=back_lenMaps x (idxF (isA s.Id s.Reader) x.Away)
   have cq:=T.len
   have dt:=T.rd.bound
   have dE:=back_lenAway x (idxF (isA s.Id s.Reader) x.Away)
   refine Qa (l:=zLb) tz34 G ?_
   intro aW eT dk h dR b8
   have X:=nE (g:=aW) S
   refine Qw (o:=0) (vs:=(cLb ag bn aU ah bo aV (backN x (idxF (isA s.Id s.Reader) x.Away)))) agg34.2 G G G G b8 ler G ?_
   intro ao j dS W
   have aY:=((ap.lo m).lo h).new j
   refine Qn (Ws (Ws ?_))
   have A:=((Z.lo m).lo h).kn j
   have bl:=(((bg.lo c).lo m).lo h).kn j
   have bm:=((bO.lo m).lo h).kn j
   have f:=(S.lo h).kd j X
   have aa:=(T.lo h).kd j (nE (g:=aW) T)
   refine Wr (Q (fA fa106_0 G)<|Q (lB sca3 G A G)<|Q (r_eq G G)<|Qn (Wd G (fun aX=>?_) (fun aX=>?_)))
   ·refine Ws (WA (Kp (fun b_=>b_=z) ao) (fun f' w'=>∃ (B:Option Addr) (N:Nat) (aM:Nat) (C:Option Addr) (O:Nat) (aN:Nat),At f' [(2,i6 i),(4,pt g9),(6,pt z),(7,.bool (decide ((idxF (isA s.Id s.Value) x.Away)<0))),(9,pt y),(11,pt aW)]∧(Kp (fun b_=>b_=z) ao w')∧(SlO w' ao.heap.size encLMap 3 102 B N aM ((goneN (backN x (idxF (isA s.Id s.Reader) x.Away)) s.Id s.Value).Maps))∧(SlO w' ao.heap.size encAway 2 129 C O aN ((goneN (backN x (idxF (isA s.Id s.Reader) x.Away)) s.Id s.Value).Away))∧(Blk w' z 34 (cLb B N aM C O aN (goneN (backN x (idxF (isA s.Id s.Reader) x.Away)) s.Id s.Value)))∧Dj B ag∧Dj B ah∧Dj B C∧Dj C ag∧Dj C ah∧(N=((goneN (backN x (idxF (isA s.Id s.Reader) x.Away)) s.Id s.Value).Maps).length)∧((N:Int)≤9223372036854775807)∧(((goneN (backN x (idxF (isA s.Id s.Reader) x.Away)) s.Id s.Value).Maps).length=(backN x (idxF (isA s.Id s.Reader) x.Away)).Maps.length)∧(O=((goneN (backN x (idxF (isA s.Id s.Reader) x.Away)) s.Id s.Value).Away).length)∧((O:Int)≤9223372036854775807)∧(((goneN (backN x (idxF (isA s.Id s.Reader) x.Away)) s.Id s.Value).Away).length=(backN x (idxF (isA s.Id s.Reader) x.Away)).Away.length+1)∧(idxF (isA s.Id s.Value) x.Away<(x.Away.length:Int)∧-1≤idxF (isA s.Id s.Value) x.Away)) mo ?_ ?_)
    ·intro cR b
     have d9:=b.size
     refine Ak 0 G (kr b) (fun w' hw'=>lG agg34 G (W.kn hw' oB) G)<|Ak 1 G (kr b) (fun w' hw'=>fA fa106_1 G)<|Ak 2 G (kr b) (fun w' hw'=>lB sca3 G (A.kn hw' oB) G)<|Ak 3 G (kr b) (fun w' hw'=>fA fa106_3 G)<|Ak 4 G (kr b) (fun w' hw'=>lB sca3 G (A.kn hw' oB) G)<|Ak 6 G (kr b) (fun w' hw'=>lG agg34 G (((((L.lo c).lo m).lo h).kn j).kn hw' oB) G)<|Ak 7 G (kr b) (fun w' hw'=>fA fa106_1 G)<|Ak 8 G (kr b) (fun w' hw'=>lB sca3 G (A.kn hw' oB) G)<|Ak 9 G (kr b) (fun w' hw'=>fA fa106_3 G)<|Ak 10 G (kr b) (fun w' hw'=>lB sca3 G (A.kn hw' oB) G)<|Ab 5 G (Qc ent193 (c_spec_l32Gone cR (backN x (idxF (isA s.Id s.Reader) x.Away)) ((f.lo b).rd) ((aa.lo b).rd) s.Id s.Value oB oB) G ?_)
     rintro e cS ⟨bE,bW,bI,bF,bX,bJ,rfl,D,E,cf,J⟩
     refine ⟨_,G,?_⟩
     have ea:=J.size
     have ba:=((kr b:Kp (fun b_=>b_=z) ao _)).lo J
     have cu:=D.len
     have cw:=D.rd.bound
     have cG:=gone_lenMaps (backN x (idxF (isA s.Id s.Reader) x.Away)) s.Id s.Value
     have cx:=E.len
     have cy:=E.rd.bound
     have cH:=gone_lenAway (backN x (idxF (isA s.Id s.Reader) x.Away)) s.Id s.Value
     refine Qn ⟨ba,_,G,(Ab 11 G (Qv ent192 (c_spec_l32Away cS x ((((((t.lo c).lo m).lo h).kn j).lo b).lo J) ((((((M.lo c).lo m).lo h).kn j).lo b).lo J) s.Id s.Value) G fun eU n ed=>?_))⟩
     have az:=ba.lo n
     have cI:idxF (isA s.Id s.Value) x.Away<(x.Away.length:Int)∧-1≤idxF (isA s.Id s.Value) x.Away:=idx_lt
     refine Qn ⟨az,_,G,(Ak 12 G az (fun w' hw'=>r_lt G G)<|Ab 13 G (Qw (o:=0) (vs:=(cLb bE bW bI bF bX bJ (goneN (backN x (idxF (isA s.Id s.Reader) x.Away)) s.Id s.Value))) agg34.2 G G G G (((bl.lo b).lo J).lo n) ler G ?_))⟩
     intro eW u dT b9
     have aA:=az.step u (fun _ _ e=>e)
     refine Qn ⟨aA,_,G,(Ak 14 G aA (fun w' hw'=>aB G)<|Ad oC (⟨bE,bW,bI,bF,bX,bJ,(At.r G),aA,(((D.lo n).kn u).down),(((E.lo n).kn u).down),b9,(dj ((D.lo n).kn u) (f.lo b)),(dj ((D.lo n).kn u) (aa.lo b)),cf,(dj ((E.lo n).kn u) (f.lo b)),(dj ((E.lo n).kn u) (aa.lo b)),cu,cw,cG,cx,cy,cH,cI⟩))⟩
    rintro ek eX ⟨B,N,aM,C,O,aN,bu,a6,cA,cB,cC,da,db,ce,de,df,cr,du,dF,ct,dv,dG,dH⟩
    rw [← sA bu]
    have ee:=a6.size
    refine We (retCT G G agg34 cC G (v:=.bool _) G ?_)
    refine ⟨B,N,aM,C,O,aN,eR (eT2 (e5 ?_ ?_ ?_) (eB ?_)),(oq (cA.down) ?_),(oq (cB.down) ?_),ce,(aY.new a6 oB)⟩ <;> (subst cr ct; unfold spec_l32Readers; rw [if_neg ak,if_neg al,if_pos aX] <;> rfl)
   ·refine Wk (Ws (Wr (Q (fA fa34_0 G)<|Q (lB sca31 G W G)<|Q (mI G)<|Q (fA fa102_1 G)<|Q (lB sca3 G bm G)<|Q (r_add G G oB)<|?_)))
    have ab:=(f.rd).elem (i:=i.toNat) oB
    have dI:=maps_rng bz.1.1 ab
    refine Q (rX tsl31 (f.rd) G G oB)<|Q (fA fa102_1 G)<|SR.storeO (o:=1) (vs:=[i6 (((gt x.Maps i.toNat).Copies)+1)]) (x1:={ (gt ((backN x (idxF (isA s.Id s.Reader) x.Away)).Maps) i.toNat) with Copies:=((gt x.Maps i.toNat).Copies)+1 }) sca3.2 G (add_add _ _ _) G G f ab G ler G ?_
    intro eY p dU U
    have ef:=p.size
    have cJ:(((backN x (idxF (isA s.Id s.Reader) x.Away)).Maps).set i.toNat ({ (gt ((backN x (idxF (isA s.Id s.Reader) x.Away)).Maps) i.toNat) with Copies:=((gt x.Maps i.toNat).Copies)+1 }))[i.toNat]?=some ({ (gt ((backN x (idxF (isA s.Id s.Reader) x.Away)).Maps) i.toNat) with Copies:=((gt x.Maps i.toNat).Copies)+1 }):=List.getElem?_set_self (List.getElem?_eq_some_iff.1 ab).1
    refine Qn (Ws (Wr (Q (fA fa34_0 G)<|Q (lB sca31 G (W.kp p (fun e'=>X e')) G)<|Q (mI G)<|Q (fA fa102_2 G)<|Q (lB sca3 G (bm.kp p (nE f)) G)<|Q (fA fa106_3 G)<|Q (lB sca3 G (A.kp p (nE f)) G)<|Q (r_add G G oB)<|Q (rX tsl31 (U.rd) G G oB)<|Q (fA fa102_2 G)<|SR.storeO (o:=2) (vs:=[i6 (((gt x.Maps i.toNat).Torn)+s.Value)]) (x1:={ ({ (gt ((backN x (idxF (isA s.Id s.Reader) x.Away)).Maps) i.toNat) with Copies:=((gt x.Maps i.toNat).Copies)+1 }) with Torn:=((gt x.Maps i.toNat).Torn)+s.Value }) sca3.2 G (add_add _ _ _) G G U cJ G ler G ?_)))
    intro eZ K dV aZ
    have eg:=K.size
    rw [List.set_set] at aZ
    have dY:(((backN x (idxF (isA s.Id s.Reader) x.Away)).Maps).set i.toNat ({ ({ (gt ((backN x (idxF (isA s.Id s.Reader) x.Away)).Maps) i.toNat) with Copies:=((gt x.Maps i.toNat).Copies)+1 }) with Torn:=((gt x.Maps i.toNat).Torn)+s.Value }))[i.toNat]?=some ({ ({ (gt ((backN x (idxF (isA s.Id s.Reader) x.Away)).Maps) i.toNat) with Copies:=((gt x.Maps i.toNat).Copies)+1 }) with Torn:=((gt x.Maps i.toNat).Torn)+s.Value }):=List.getElem?_set_self (List.getElem?_eq_some_iff.1 ab).1
    refine Qn (Ws ?_)
    have cD:=(bl.kp p (nE f)).kp K (nE U)
    refine Wr (Q (lG agg34 G ((W.kp p (fun e'=>X e')).kp K (fun e'=>X e')) G)<|Qw (o:=0) (vs:=(cLb ag bn aU ah bo aV (backN x (idxF (isA s.Id s.Reader) x.Away)))) agg34.2 G G G G cD ler G ?_)
    intro e6 aH dW ca
    refine Q (aB G)<|Qn (We (retCT G G agg34 ca G (v:=.bool _) G ?_))
    refine ⟨ag,bn,aU,ah,bo,aV,eR (eT2 (e5 ?_ ?_ ?_) (eB ?_)),(oq ((aZ.kn aH).down) ?_),(oq ((((aa.kp p (fun b_ hb e'=>aC b_ e' hb)).kp K (fun b_ hb e'=>aC b_ e' hb)).kn aH).down) ?_),aC,(((aY.step p (fun i_ hi_ e'=>by have:=f.base_le e'; first | omega | exact e' | exact .inl e' | exact .inr e')).step K (fun i_ hi_ e'=>by have:=U.base_le e'; first | omega | exact e' | exact .inl e' | exact .inr e')).new aH)⟩ <;> (subst cp cq; unfold spec_l32Readers; rw [if_neg ak,if_neg al,if_neg aX] <;> rfl)
open Classical in
noncomputable def spec_l32Make (x:Library) (s:LibraryStep):Library × Bool :=
 if s.Kind=1 then ((boughtN x s.Id s.Value),decide (LibOK (boughtN x s.Id s.Value))) else if s.Kind=4 then ((⟨x.Maps.set ((idxF (hasId s.Id) x.Maps).toNat) ({ (gt x.Maps ((idxF (hasId s.Id) x.Maps).toNat)) with Torn:=((gt x.Maps ((idxF (hasId s.Id) x.Maps).toNat)).Torn)-(min s.Value ((gt x.Maps ((idxF (hasId s.Id) x.Maps).toNat)).Torn)) }),x.Away,x.Bought,x.Dropped,x.Mended+(min s.Value ((gt x.Maps ((idxF (hasId s.Id) x.Maps).toNat)).Torn))⟩:Library),decide ((s.Value≤((gt x.Maps ((idxF (hasId s.Id) x.Maps).toNat)).Torn))∧(LibOK (⟨x.Maps.set ((idxF (hasId s.Id) x.Maps).toNat) ({ (gt x.Maps ((idxF (hasId s.Id) x.Maps).toNat)) with Torn:=((gt x.Maps ((idxF (hasId s.Id) x.Maps).toNat)).Torn)-(min s.Value ((gt x.Maps ((idxF (hasId s.Id) x.Maps).toNat)).Torn)) }),x.Away,x.Bought,x.Dropped,x.Mended+(min s.Value ((gt x.Maps ((idxF (hasId s.Id) x.Maps).toNat)).Torn))⟩:Library)))) else if s.Kind=6 then ((⟨x.Maps.set ((idxF (hasId s.Id) x.Maps).toNat) (⟨(gt x.Maps ((idxF (hasId s.Id) x.Maps).toNat)).Id,((gt x.Maps ((idxF (hasId s.Id) x.Maps).toNat)).Copies)-(min s.Value ((gt x.Maps ((idxF (hasId s.Id) x.Maps).toNat)).Torn)),((gt x.Maps ((idxF (hasId s.Id) x.Maps).toNat)).Torn)-(min s.Value ((gt x.Maps ((idxF (hasId s.Id) x.Maps).toNat)).Torn))⟩:LMap),x.Away,x.Bought,x.Dropped+(min s.Value ((gt x.Maps ((idxF (hasId s.Id) x.Maps).toNat)).Torn)),x.Mended⟩:Library),decide ((s.Value≤((gt x.Maps ((idxF (hasId s.Id) x.Maps).toNat)).Torn))∧(LibOK (⟨x.Maps.set ((idxF (hasId s.Id) x.Maps).toNat) (⟨(gt x.Maps ((idxF (hasId s.Id) x.Maps).toNat)).Id,((gt x.Maps ((idxF (hasId s.Id) x.Maps).toNat)).Copies)-(min s.Value ((gt x.Maps ((idxF (hasId s.Id) x.Maps).toNat)).Torn)),((gt x.Maps ((idxF (hasId s.Id) x.Maps).toNat)).Torn)-(min s.Value ((gt x.Maps ((idxF (hasId s.Id) x.Maps).toNat)).Torn))⟩:LMap),x.Away,x.Bought,x.Dropped+(min s.Value ((gt x.Maps ((idxF (hasId s.Id) x.Maps).toNat)).Torn)),x.Mended⟩:Library)))) else if s.Kind=7 then ((⟨x.Maps.set ((idxF (hasId s.Id) x.Maps).toNat) ({ (gt x.Maps ((idxF (hasId s.Id) x.Maps).toNat)) with Torn:=((gt x.Maps ((idxF (hasId s.Id) x.Maps).toNat)).Torn)+(min s.Value 100) }),x.Away,x.Bought,x.Dropped,x.Mended⟩:Library),decide ((s.Value≤(((gt x.Maps ((idxF (hasId s.Id) x.Maps).toNat)).Copies)-((gt x.Maps ((idxF (hasId s.Id) x.Maps).toNat)).Torn)))∧(LibOK (⟨x.Maps.set ((idxF (hasId s.Id) x.Maps).toNat) ({ (gt x.Maps ((idxF (hasId s.Id) x.Maps).toNat)) with Torn:=((gt x.Maps ((idxF (hasId s.Id) x.Maps).toNat)).Torn)+(min s.Value 100) }),x.Away,x.Bought,x.Dropped,x.Mended⟩:Library)))) else (((spec_l32Readers x s (idxF (hasId s.Id) x.Maps)).1),decide ((((spec_l32Readers x s (idxF (hasId s.Id) x.Maps)).2)=true)∧(LibOK ((spec_l32Readers x s (idxF (hasId s.Id) x.Maps)).1))))
theorem c_spec_l32Make (w:World) (x:Library) (du:SlR w Bx1 encLMap 3 Ax1 nx1 cx1 x.Maps) (dv:SlR w Bx2 encAway 2 Ax2 nx2 cx2 x.Away) (s:LibraryStep) (fc:LibOK x) (fN:spec_l32Step x s=true):Calls Tryz.prog 115 #[.agg (List.toArray (cLb Ax1 nx1 cx1 Ax2 nx2 cx2 x)),.agg (List.toArray (encLibraryStep s))] w fun e w'=>∃ A1' n1' c1' A2' n2' c2',e=.returned (.tuple (List.toArray [.agg (List.toArray (cLb A1' n1' c1' A2' n2' c2' ((spec_l32Make x s).1))),.bool ((spec_l32Make x s).2)]))∧SlO w' w.heap.size encLMap 3 102 A1' n1' c1' (((spec_l32Make x s).1).Maps)∧SlO w' w.heap.size encAway 2 129 A2' n2' c2' (((spec_l32Make x s).1).Away)∧Dj A1' A2'∧Lo w w':=by
 refine cW 138 Tryz.func115 G G G ?_
 have fz:=du.bound
 have fL:=du.len
 have fw:=du.bd
 have fB:=dv.bound
 have fM:=dv.len
 have fx:=dv.bd
 have hlb:=lib_rng fc
 have hsr:=stepL_rng fN
 refine Ws (Wr (bx G ?_))
 intro g1 w2 jo d6 jp fy
 refine bx G ?_
 intro g9 jq ip bJ iy aU
 refine Qa (l:=zLb) tz34 G ?_
 intro p S iq Y iz dD
 have dC:=(((lr w).lo d6).lo bJ).lo Y
 refine Q (aB G)<|Qn (Ws (Ws ?_))
 have aV:=(fy.lo bJ).lo Y
 have T:=((du.lo d6).lo bJ).lo Y
 have an:=((dv.lo d6).lo bJ).lo Y
 refine Wr (Q (fA fa106_0 G)<|Q (lB sca3 G (aU.lo Y) G)<|Q (r_eq G G)<|Qn (Wd G (fun bQ=>?_) (fun bQ=>?_)))
 ·refine Ws (Wr (Q (lG agg34 G aV G)<|Q (fA fa106_1 G)<|Q (lB sca3 G (aU.lo Y) G)<|Q (fA fa106_3 G)<|Q (lB sca3 G (aU.lo Y) G)<|Qc ent166 (c_spec_l32Bought S x T an s.Id s.Value oJ oB) G ?_))
  rintro e jr ⟨cZ,dw,c7,c6,dx,da,rfl,bH,bI,e9,cr⟩
  refine ⟨_,G,?_⟩
  have iC:=cr.size
  have fa:=bH.len
  have iu:=bH.rd.bound
  have iw:=bought_lenMaps x s.Id s.Value
  have fb:=bI.len
  have iv:=bI.rd.bound
  have ix:=bought_lenAway x s.Id s.Value
  refine Qa (l:=zLb) tz34 G ?_
  intro e6 js ir bK iA e7
  refine Qw (o:=0) (vs:=(cLb cZ dw c7 c6 dx da (boughtN x s.Id s.Value))) agg34.2 G G G G e7 ler G ?_
  intro eP bL iB dE
  refine Qn (Ws ?_)
  have dF:=(bH.lo bK).kd bL (nE (g:=e6) bH)
  have dG:=(bI.lo bK).kd bL (nE (g:=e6) bI)
  refine WA (Kp (fun b_=>b_=p) eP) (fun f' w'=>At f' [(2,pt g1),(3,pt g9),(4,pt p),(5,.bool (decide (LibOK (boughtN x s.Id s.Value))))]∧(Kp (fun b_=>b_=p) eP w')∧(Blk w' p 34 (cLb cZ dw c7 c6 dx da (boughtN x s.Id s.Value)))) mo ?_ ?_
  ·intro ff V
   have gm:=V.size
   refine Ak 0 G (kr V) (fun w' hw'=>lG agg34 G (dE.kn hw' oB) G)<|Ak 1 G (kr V) (fun w' hw'=>lG agg34 G (dE.kn hw' oB) G)<|Ab 2 G (Qv ent80 (c_spec_l32Good ff (boughtN x s.Id s.Value) ((dF.lo V).rd) ((dG.lo V).rd)) G fun iD cq gn=>?_)
   have bZ:=((kr V:Kp (fun b_=>b_=p) eP _)).lo cq
   refine Qn ⟨bZ,_,G,(Ab 3 G (Qw (o:=0) (vs:=(cLb cZ dw c7 c6 dx da (boughtN x s.Id s.Value))) agg34.2 G G G G (((((dD.lo cr).lo bK).kn bL).lo V).lo cq) ler G ?_))⟩
   intro iE d5 fP dM
   have aY:=bZ.step d5 (fun _ _ e=>e)
   refine Qn ⟨aY,_,G,(Ak 4 G aY (fun w' hw'=>aB G)<|Ad oC (⟨(At.r G),aY,dM⟩))⟩
  rintro hU iF ⟨db,aw,eu⟩
  rw [← sA db]
  have gp:=aw.size
  refine We (retCT G G agg34 eu G (v:=.bool _) G ?_)
  refine ⟨cZ,dw,c7,c6,dx,da,eR (eT2 (e5 ?_ ?_ ?_) (eB ?_)),(oq ((dF.kn aw oB).down) ?_),(oq ((dG.kn aw oB).down) ?_),e9,((((dC.lo cr).lo bK).new bL).new aw oB)⟩ <;> (subst fa fb; unfold spec_l32Make; rw [if_pos bQ] <;> rfl)
 ·refine Wk (Ws (WA (Lo S) (fun f' w'=>∃ (a:Option Addr) (c:Nat) (h:Nat) (d:Option Addr) (f:Nat) (n:Nat) (j:Nat),At f' [(2,pt g1),(3,pt g9),(4,pt p),(5,.bool false),(7,pt j),(8,i6 (idxF (hasId s.Id) x.Maps))]∧(Lo S w')∧(SlO w' S.heap.size encLMap 3 102 a c h x.Maps)∧(SlO w' S.heap.size encAway 2 129 d f n x.Away)∧(Blk w' j 34 (cLb a c h d f n x))∧(S.heap.size≤j∧j<w'.heap.size)∧(¬a=some ⟨j,0,none⟩)∧(¬d=some ⟨j,0,none⟩)∧Dj a d∧(c=(x.Maps).length)∧((c:Int)≤9223372036854775807)∧(f=(x.Away).length)∧((f:Int)≤9223372036854775807)∧(idxF (hasId s.Id) x.Maps<(x.Maps.length:Int)∧-1≤idxF (hasId s.Id) x.Maps)) mo ?_ ?_))
  ·intro fg A
   have gr:=A.size
   refine Av #[true,true,true,true,true,true,true,false,false] 2 (fun f' w'=>∃ (a:Option Addr) (c:Nat) (h:Nat) (d:Option Addr) (f:Nat) (n:Nat) (j:Nat),At f' [(2,pt g1),(3,pt g9),(4,pt p),(5,.bool false),(7,pt j),(24,.agg (List.toArray (cLb a c h d f n x))),(28,i6 (idxF (hasId s.Id) x.Maps))]∧(Lo S w')∧(SlO w' S.heap.size encLMap 3 102 a c h x.Maps)∧(SlO w' S.heap.size encAway 2 129 d f n x.Away)∧(Blk w' j 34 zLb)∧(S.heap.size≤j∧j<w'.heap.size)∧(¬a=some ⟨j,0,none⟩)∧(¬d=some ⟨j,0,none⟩)∧Dj a d∧(c=(x.Maps).length)∧((c:Int)≤9223372036854775807)∧(f=(x.Away).length)∧((f:Int)≤9223372036854775807)∧(idxF (hasId s.Id) x.Maps<(x.Maps.length:Int)∧-1≤idxF (hasId s.Id) x.Maps)) ?_ (fun cS=>?_)
   ·rintro hZ iG ⟨a,c,h,d,f,n,j,de,bY,ew,ex,ey,fC,cm,cn,dY,W,aJ,X,aK,cU⟩
    rw [← sA de]
    have gw:=bY.size
    refine Ab 7 G (Qw (o:=0) (vs:=(cLb a c h d f n x)) agg34.2 G G G G ey ler G ?_)
    intro iH bn fQ ch
    have aZ:=bY.new bn
    refine Qn ⟨aZ,_,G,(Ak 8 G aZ (fun w' hw'=>aI G)<|Ad oC (⟨a,c,h,d,f,n,j,(At.r G),aZ,((ew.kd bn cm).down),((ex.kd bn cn).down),ch,⟨oB,ch.lt⟩,cm,cn,dY,W,aJ,X,aK,cU⟩))⟩
   refine Av #[true,true,true,true,true,false,true,false,false] 3 (fun f' w'=>∃ (a:Option Addr) (c:Nat) (h:Nat) (d:Option Addr) (f:Nat) (n:Nat) (ag:Nat),At f' [(2,pt g1),(3,pt g9),(4,pt p),(5,.bool false),(7,pt ag),(24,.agg (List.toArray (cLb a c h d f n x))),(25,.agg (List.toArray (cLb Ax1 nx1 cx1 Ax2 nx2 cx2 x))),(27,i6 s.Id)]∧(Lo S w')∧(SlO w' S.heap.size encLMap 3 102 a c h x.Maps)∧(SlO w' S.heap.size encAway 2 129 d f n x.Away)∧(Blk w' ag 34 zLb)∧(S.heap.size≤ag∧ag<w'.heap.size)∧(¬a=some ⟨ag,0,none⟩)∧(¬d=some ⟨ag,0,none⟩)∧Dj a d∧(c=(x.Maps).length)∧((c:Int)≤9223372036854775807)∧(f=(x.Away).length)∧((f:Int)≤9223372036854775807)) ?_ (fun cT=>?_)
   ·rintro ia fh ⟨a,c,h,d,f,n,ag,df,ax,eD,eE,cF,fE,dZ,d1,d2,W,aJ,X,aK⟩
    rw [← sA df]
    have gx:=ax.size
    refine Ab 5 G (Qv ent165 (c_spec_l32Map fh x (T.lo ax) (an.lo ax) s.Id) G fun iI ak gy=>?_)
    have b4:=ax.lo ak
    have eK:idxF (hasId s.Id) x.Maps<(x.Maps.length:Int)∧-1≤idxF (hasId s.Id) x.Maps:=idx_lt
    refine Qn ⟨b4,_,G,(Ag oC G (cS _ _ (⟨a,c,h,d,f,n,ag,(At.r G),b4,((eD.lo ak).down),((eE.lo ak).down),(cF.lo ak),⟨oB,(cF.lo ak).lt⟩,dZ,d1,d2,W,aJ,X,aK,eK⟩)))⟩
   refine Ak 0 G A (fun w' hw'=>lG agg34 G (aV.lo hw') G)<|Ak 2 G A (fun w' hw'=>lG agg34 G (aV.lo hw') G)<|Ak 3 G A (fun w' hw'=>fA fa106_1 G)<|Ak 4 G A (fun w' hw'=>lB sca3 G ((aU.lo Y).lo hw') G)<|Ar [1,6] oC G ⟨Bm G trivial ?_,Bm G trivial ?_,trivial⟩
   ·refine Qc ent79 (c_spec_l32Own fg x (T.lo A) (an.lo A) oB oB) G ?_
    rintro e fj ⟨dy,dH,dA,dz,dI,dB,rfl,Z,aa,cp,aF⟩
    refine ⟨_,G,?_⟩
    have gz:=aF.size
    have a6:=A.lo aF
    have cz:=Z.len
    have cA:=Z.rd.bound
    have cB:=aa.len
    have cC:=aa.rd.bound
    refine Qn ⟨a6,_,G,(Ar [5,6] oC G ⟨Bm G trivial ?_,Bm G trivial ?_,trivial⟩)⟩
    ·refine Qv ent165 (c_spec_l32Map fj x ((T.lo A).lo aF) ((an.lo A).lo aF) s.Id) G fun iJ al gA=>?_
     have b5:=a6.lo al
     have eL:idxF (hasId s.Id) x.Maps<(x.Maps.length:Int)∧-1≤idxF (hasId s.Id) x.Maps:=idx_lt
     refine Qn ⟨b5,_,G,(Ab 6 G (Qa (l:=zLb) tz34 G ?_))⟩
     intro bR iK fF bo fR ci
     have b6:=b5.lo bo
     refine Qn ⟨b6,_,G,(Ag oC G (cS _ _ (⟨dy,dH,dA,dz,dI,dB,bR,(At.r G),b6,(((Z.lo al).lo bo).down),(((aa.lo al).lo bo).down),ci,⟨oB,ci.lt⟩,(nE (g:=bR) (Z.lo al)),(nE (g:=bR) (aa.lo al)),cp,cz,cA,cB,cC,eL⟩)))⟩
    ·refine Qa (l:=zLb) tz34 G ?_
     intro bS iL fG bp fS cj
     have b7:=a6.lo bp
     refine Qn ⟨b7,_,G,(Ag oC G (cT _ _ (⟨dy,dH,dA,dz,dI,dB,bS,(At.r G),b7,((Z.lo bp).down),((aa.lo bp).down),cj,⟨oB,cj.lt⟩,(nE (g:=bS) Z),(nE (g:=bS) aa),cp,cz,cA,cB,cC⟩)))⟩
   ·refine Qa (l:=zLb) tz34 G ?_
    intro eZ fk fH bq fT ck
    have b8:=A.lo bq
    refine Qn ⟨b8,_,G,(Ab 1 G (Qc ent79 (c_spec_l32Own fk x ((T.lo A).lo bq) ((an.lo A).lo bq) oB oB) G ?_))⟩
    rintro e iM ⟨eU,fd,eX,eW,fe,eY,rfl,ap,aq,d3,aG⟩
    refine ⟨_,G,?_⟩
    have gB:=aG.size
    have b9:=b8.lo aG
    have ej:=ap.len
    have ek:=ap.rd.bound
    have el:=aq.len
    have em:=aq.rd.bound
    refine Qn ⟨b9,_,G,(Ag oC G (cT _ _ (⟨eU,fd,eX,eW,fe,eY,eZ,(At.r G),b9,(ap.down),(aq.down),(ck.lo aG),⟨oB,(ck.lo aG).lt⟩,(nE ap),(nE aq),d3,ej,ek,el,em⟩)))⟩
  rintro ib iN ⟨a,c,h,d,f,n,j,dg,C,cD,cE,ez,fD,D,co,U,W,aJ,X,aK,cU⟩
  rw [← sA dg]
  have gC:=C.size
  refine Ws (Wr (Q (fA fa34_0 G)<|Q (lB sca31 G (aV.lo C) G)<|Q (mI G)<|?_))
  have R:=(T.lo C).elem (i:=(idxF (hasId s.Id) x.Maps).toNat) oB
  have fO:=maps_rng fc.1.1 R
  refine Q (rX tsl31 (T.lo C) G G oB)<|Q (r_lda (l:=encLMap (gt x.Maps ((idxF (hasId s.Id) x.Maps).toNat))) agg102 G (fun _ _ hu=>(T.lo C).cell R hu) ((T.lo C).esz _))<|Qa (l:=[i6 0,i6 0,i6 0]) tz102 G ?_
  intro bF iO fI I fU dN
  have E:=nE (g:=bF) cD
  refine Qw (o:=0) (vs:=[i6 ((gt x.Maps ((idxF (hasId s.Id) x.Maps).toNat)).Id),i6 ((gt x.Maps ((idxF (hasId s.Id) x.Maps).toNat)).Copies),i6 ((gt x.Maps ((idxF (hasId s.Id) x.Maps).toNat)).Torn)]) agg102.2 G G G G dN ler G ?_
  intro b J fV q
  have ao:=((dC.lo C).lo I).new J
  refine Q (aB G)<|Qn (Ws (Ws ?_))
  have bE:=((aV.lo C).lo I).kn J
  have H:=(((aU.lo Y).lo C).lo I).kn J
  have am:=((dD.lo C).lo I).kn J
  have P:=(ez.lo I).kn J
  have m:=(cD.lo I).kd J E
  have aM:=(cE.lo I).kd J (nE (g:=bF) cE)
  refine Wr (Q (fA fa106_0 G)<|Q (lB sca3 G H G)<|Qn (Wl (Ws (Wr (Q (r_eq G G)<|Q (aB G)<|Qn (Wd G (fun aT=>?_) (fun aT=>?_)))))))
  ·refine Ws (Wr (Q (fA fa106_3 G)<|Q (lB sca3 G H G)<|Q (fA fa102_2 G)<|Q (lB sca3 G q G)<|Q (r_le G G)<|Q (aB G)<|Qn (Ws (WA (Kp (KA a) b) (fun f' w'=>At f' [(2,pt g1),(3,pt g9),(4,pt p),(5,.bool false),(7,pt j),(9,pt bF),(10,.bool (decide (s.Value≤((gt x.Maps ((idxF (hasId s.Id) x.Maps).toNat)).Torn))))]∧(Kp (KA a) b w')∧(SlO w' S.heap.size encLMap 3 102 a c h (x.Maps.set ((idxF (hasId s.Id) x.Maps).toNat) ({ (gt x.Maps ((idxF (hasId s.Id) x.Maps).toNat)) with Torn:=((gt x.Maps ((idxF (hasId s.Id) x.Maps).toNat)).Torn)-(min s.Value ((gt x.Maps ((idxF (hasId s.Id) x.Maps).toNat)).Torn)) })))∧((x.Maps.set ((idxF (hasId s.Id) x.Maps).toNat) ({ (gt x.Maps ((idxF (hasId s.Id) x.Maps).toNat)) with Torn:=((gt x.Maps ((idxF (hasId s.Id) x.Maps).toNat)).Torn)-(min s.Value ((gt x.Maps ((idxF (hasId s.Id) x.Maps).toNat)).Torn)) }))[(idxF (hasId s.Id) x.Maps).toNat]?=some ({ (gt x.Maps ((idxF (hasId s.Id) x.Maps).toNat)) with Torn:=((gt x.Maps ((idxF (hasId s.Id) x.Maps).toNat)).Torn)-(min s.Value ((gt x.Maps ((idxF (hasId s.Id) x.Maps).toNat)).Torn)) }))) mo ?_ ?_))))
   ·intro fl B
    have gD:=B.size
    refine Ak 0 G ((kr B:Kp (KA a) b _)) (fun w' hw'=>fA fa34_0 G)<|Ak 1 G ((kr B:Kp (KA a) b _)) (fun w' hw'=>lB sca31 G (P.kp hw' (fun e'=>D e')) G)<|Ak 2 G ((kr B:Kp (KA a) b _)) (fun w' hw'=>mI G)<|Ak 3 G ((kr B:Kp (KA a) b _)) (fun w' hw'=>fA fa102_2 G)<|Ak 4 G ((kr B:Kp (KA a) b _)) (fun w' hw'=>lB sca3 G (q.kp hw' (fun e'=>E e')) G)<|Ak 5 G ((kr B:Kp (KA a) b _)) (fun w' hw'=>fA fa106_3 G)<|Ak 6 G ((kr B:Kp (KA a) b _)) (fun w' hw'=>lB sca3 G (H.kp hw' (nE m)) G)<|Ak 7 G ((kr B:Kp (KA a) b _)) (fun w' hw'=>fA fa102_2 G)<|Ak 8 G ((kr B:Kp (KA a) b _)) (fun w' hw'=>lB sca3 G (q.kp hw' (fun e'=>E e')) G)<|Ab 9 G (Qv ent167 (c_spec_l1Least fl s.Value ((gt x.Maps ((idxF (hasId s.Id) x.Maps).toNat)).Torn)) G fun iP bs gE=>?_)
    have ah:=((kr B:Kp (KA a) b _)).lo bs
    refine Qn ⟨ah,_,G,(Ak 10 G ah (fun w' hw'=>r_sub G G oB)<|Ab 11 G (Q (rX tsl31 (((m.lo B).lo bs).rd) G G oB) (Qn ⟨ah,_,G,(Ak 12 G ah (fun w' hw'=>fA fa102_2 G)<|Ab 13 G (SR.storeO (o:=2) (vs:=[i6 (((gt x.Maps ((idxF (hasId s.Id) x.Maps).toNat)).Torn)-(min s.Value ((gt x.Maps ((idxF (hasId s.Id) x.Maps).toNat)).Torn)))]) (x1:={ (gt x.Maps ((idxF (hasId s.Id) x.Maps).toNat)) with Torn:=((gt x.Maps ((idxF (hasId s.Id) x.Maps).toNat)).Torn)-(min s.Value ((gt x.Maps ((idxF (hasId s.Id) x.Maps).toNat)).Torn)) }) sca3.2 G (add_add _ _ _) G G ((m.lo B).lo bs) R G ler G ?_))⟩)))⟩
    intro iQ ct fW dJ
    have gF:=ct.size
    have ca:=ah.step ct (fun _ _ e=>e)
    have eM:(x.Maps.set ((idxF (hasId s.Id) x.Maps).toNat) ({ (gt x.Maps ((idxF (hasId s.Id) x.Maps).toNat)) with Torn:=((gt x.Maps ((idxF (hasId s.Id) x.Maps).toNat)).Torn)-(min s.Value ((gt x.Maps ((idxF (hasId s.Id) x.Maps).toNat)).Torn)) }))[(idxF (hasId s.Id) x.Maps).toNat]?=some ({ (gt x.Maps ((idxF (hasId s.Id) x.Maps).toNat)) with Torn:=((gt x.Maps ((idxF (hasId s.Id) x.Maps).toNat)).Torn)-(min s.Value ((gt x.Maps ((idxF (hasId s.Id) x.Maps).toNat)).Torn)) }):=List.getElem?_set_self (List.getElem?_eq_some_iff.1 R).1
    refine Qn ⟨ca,_,G,(Ad oC (⟨(At.r G),ca,dJ,eM⟩))⟩
   rintro ic cX ⟨dh,M,cG,gj⟩
   rw [← sA dh]
   have gG:=M.size
   refine WA (Kp (fun b_=>b_=j) cX) (fun f' w'=>At f' [(4,pt p),(5,.bool false),(7,pt j),(10,.bool (decide (s.Value≤((gt x.Maps ((idxF (hasId s.Id) x.Maps).toNat)).Torn))))]∧(Kp (fun b_=>b_=j) cX w')∧(Blk w' j 34 [.slice a c h,.slice d f n,i6 x.Bought,i6 x.Dropped,i6 (x.Mended+(min s.Value ((gt x.Maps ((idxF (hasId s.Id) x.Maps).toNat)).Torn)))])) mo ?_ ?_
   ·intro fm K
    have gH:=K.size
    refine Ak 0 G (kr K) (fun w' hw'=>fA fa34_4 G)<|Ak 1 G (kr K) (fun w' hw'=>lB sca3 G ((bE.kp M (nE m)).kn hw' oB) G)<|Ak 2 G (kr K) (fun w' hw'=>fA fa106_3 G)<|Ak 3 G (kr K) (fun w' hw'=>lB sca3 G ((H.kp M (nE m)).kn hw' oB) G)<|Ak 4 G (kr K) (fun w' hw'=>fA fa102_2 G)<|Ak 5 G (kr K) (fun w' hw'=>lB sca3 G ((q.kp M (fun e'=>E e')).kn hw' oB) G)<|Ab 6 G (Qv ent167 (c_spec_l1Least fm s.Value ((gt x.Maps ((idxF (hasId s.Id) x.Maps).toNat)).Torn)) G fun iR cu gI=>?_)
    have aD:=((kr K:Kp (fun b_=>b_=j) cX _)).lo cu
    refine Qn ⟨aD,_,G,(Ak 7 G aD (fun w' hw'=>r_add G G oB)<|Ak 8 G aD (fun w' hw'=>fA fa34_4 G)<|Ab 9 G (Qw (o:=4) (vs:=[i6 (x.Mended+(min s.Value ((gt x.Maps ((idxF (hasId s.Id) x.Maps).toNat)).Torn)))]) sca3.2 G G G G (((P.kp M (fun e'=>D e')).lo K).lo cu) ler G ?_))⟩
    intro iS d7 fX dO
    have cd:=aD.step d7 (fun _ _ e=>e)
    refine Qn ⟨cd,_,G,(Ad oC (⟨(At.r G),cd,dO⟩))⟩
   rintro ie bM ⟨di,ab,cH⟩
   rw [← sA di]
   have gJ:=ab.size
   refine Ws ?_
   have cI:=(am.kp M (nE m)).kn ab oB
   have cJ:=(aM.kp M (fun b_ hb e'=>U b_ e' hb)).kd ab co
   refine WA (Kp (fun b_=>b_=p) bM) (fun f' w'=>At f' [(4,pt p),(5,.bool (decide ((s.Value≤((gt x.Maps ((idxF (hasId s.Id) x.Maps).toNat)).Torn))∧(LibOK (⟨x.Maps.set ((idxF (hasId s.Id) x.Maps).toNat) ({ (gt x.Maps ((idxF (hasId s.Id) x.Maps).toNat)) with Torn:=((gt x.Maps ((idxF (hasId s.Id) x.Maps).toNat)).Torn)-(min s.Value ((gt x.Maps ((idxF (hasId s.Id) x.Maps).toNat)).Torn)) }),x.Away,x.Bought,x.Dropped,x.Mended+(min s.Value ((gt x.Maps ((idxF (hasId s.Id) x.Maps).toNat)).Torn))⟩:Library)))))]∧(Kp (fun b_=>b_=p) bM w')∧(Blk w' p 34 [.slice a c h,.slice d f n,i6 x.Bought,i6 x.Dropped,i6 (x.Mended+(min s.Value ((gt x.Maps ((idxF (hasId s.Id) x.Maps).toNat)).Torn)))])) mo ?_ ?_
   ·intro fo t
    have gK:=t.size
    refine Ak 0 G (kr t) (fun w' hw'=>lG agg34 G (cH.kn hw' oB) G)<|Ak 1 G (kr t) (fun w' hw'=>mB G)<|Ak 2 G (kr t) (fun w' hw'=>mB G)<|AH.splitD (fun bT=>?_) (fun bT=>?_)
    ·refine AH.take 3 G oC G (kr t) (fun w' hw'=>lG agg34 G (cH.kn hw' oB) G)<|Ar [4] oC G ⟨Bm G G (SR.gcall G ent80 (c_spec_l32Good fo (⟨x.Maps.set ((idxF (hasId s.Id) x.Maps).toNat) ({ (gt x.Maps ((idxF (hasId s.Id) x.Maps).toNat)) with Torn:=((gt x.Maps ((idxF (hasId s.Id) x.Maps).toNat)).Torn)-(min s.Value ((gt x.Maps ((idxF (hasId s.Id) x.Maps).toNat)).Torn)) }),x.Away,x.Bought,x.Dropped,x.Mended+(min s.Value ((gt x.Maps ((idxF (hasId s.Id) x.Maps).toNat)).Torn))⟩:Library) (((cG.kd ab D).lo t).rd) ((cJ.lo t).rd)) G ?_),trivial⟩
     rintro e iT ⟨rfl,bt⟩
     refine ⟨_,G,?_⟩
     have gM:=bt.size
     have a7:=((kr t:Kp (fun b_=>b_=p) bM _)).lo bt
     refine Qn ⟨a7,_,G,(Ak 5 G a7 (fun w' hw'=>pT G G)<|Ab 6 G (Qw (o:=0) (vs:=[.slice a c h,.slice d f n,i6 x.Bought,i6 x.Dropped,i6 (x.Mended+(min s.Value ((gt x.Maps ((idxF (hasId s.Id) x.Maps).toNat)).Torn)))]) agg34.2 G G G G ((cI.lo t).lo bt) ler G ?_))⟩
     intro iU d8 fY dP
     have a8:=a7.step d8 (fun _ _ e=>e)
     refine Qn ⟨a8,_,G,(Ak 7 G a8 (fun w' hw'=>aB G)<|Ad oC (⟨⟨G,(eDD (jat bT)),trivial⟩,a8,dP⟩))⟩
    ·refine AH.s' 3 G oC G (kr t)<|AH.s' 4 G oC G (kr t)<|Ak 5 G (kr t) (fun w' hw'=>pF G G)<|Ab 6 G (Qw (o:=0) (vs:=[.slice a c h,.slice d f n,i6 x.Bought,i6 x.Dropped,i6 (x.Mended+(min s.Value ((gt x.Maps ((idxF (hasId s.Id) x.Maps).toNat)).Torn)))]) agg34.2 G G G G (cI.lo t) ler G ?_)
     intro iV d9 fZ dQ
     have ba:=((kr t:Kp (fun b_=>b_=p) bM _)).step d9 (fun _ _ e=>e)
     refine Qn ⟨ba,_,G,(Ak 7 G ba (fun w' hw'=>aB G)<|Ad oC (⟨⟨G,(eDF (jaf bT).2),trivial⟩,ba,dQ⟩))⟩
   rintro ig iW ⟨dk,ay,eF⟩
   rw [← sA dk]
   have gN:=ay.size
   refine We (retCT G G agg34 eF G (v:=.bool _) G ?_)
   refine ⟨a,c,h,d,f,n,eR (eT2 (e5 ?_ ?_ ?_) (eB ?_)),(oq (((cG.kd ab D).kn ay oB).down) ?_),(oq ((cJ.kn ay oB).down) ?_),U,(((ao.step M (fun i_ hi_ e'=>by have:=m.base_le e'; first | omega | exact e' | exact .inl e' | exact .inr e')).new ab oB).new ay oB)⟩ <;> (subst W X; unfold spec_l32Make; rw [if_neg bQ,if_pos aT] <;> rfl)
  ·refine Ws (Wr (Q (r_eq G G)<|Q (aB G)<|Qn (Wd G (fun bG=>?_) (fun bG=>?_))))
   ·refine Ws (Wr (Q (fA fa106_3 G)<|Q (lB sca3 G H G)<|Q (fA fa102_2 G)<|Q (lB sca3 G q G)<|Q (r_le G G)<|Q (aB G)<|Qn (Ws (WA (Kp (KA a) b) (fun f' w'=>At f' [(2,pt g1),(3,pt g9),(4,pt p),(5,.bool false),(7,pt j),(9,pt bF),(10,.bool (decide (s.Value≤((gt x.Maps ((idxF (hasId s.Id) x.Maps).toNat)).Torn))))]∧(Kp (KA a) b w')∧(SlO w' S.heap.size encLMap 3 102 a c h (x.Maps.set ((idxF (hasId s.Id) x.Maps).toNat) (⟨(gt x.Maps ((idxF (hasId s.Id) x.Maps).toNat)).Id,((gt x.Maps ((idxF (hasId s.Id) x.Maps).toNat)).Copies)-(min s.Value ((gt x.Maps ((idxF (hasId s.Id) x.Maps).toNat)).Torn)),((gt x.Maps ((idxF (hasId s.Id) x.Maps).toNat)).Torn)-(min s.Value ((gt x.Maps ((idxF (hasId s.Id) x.Maps).toNat)).Torn))⟩:LMap)))∧((x.Maps.set ((idxF (hasId s.Id) x.Maps).toNat) (⟨(gt x.Maps ((idxF (hasId s.Id) x.Maps).toNat)).Id,((gt x.Maps ((idxF (hasId s.Id) x.Maps).toNat)).Copies)-(min s.Value ((gt x.Maps ((idxF (hasId s.Id) x.Maps).toNat)).Torn)),((gt x.Maps ((idxF (hasId s.Id) x.Maps).toNat)).Torn)-(min s.Value ((gt x.Maps ((idxF (hasId s.Id) x.Maps).toNat)).Torn))⟩:LMap))[(idxF (hasId s.Id) x.Maps).toNat]?=some (⟨(gt x.Maps ((idxF (hasId s.Id) x.Maps).toNat)).Id,((gt x.Maps ((idxF (hasId s.Id) x.Maps).toNat)).Copies)-(min s.Value ((gt x.Maps ((idxF (hasId s.Id) x.Maps).toNat)).Torn)),((gt x.Maps ((idxF (hasId s.Id) x.Maps).toNat)).Torn)-(min s.Value ((gt x.Maps ((idxF (hasId s.Id) x.Maps).toNat)).Torn))⟩:LMap))) mo ?_ ?_))))
    ·intro fp k
     have gO:=k.size
     refine Ak 0 G ((kr k:Kp (KA a) b _)) (fun w' hw'=>fA fa34_0 G)<|Ak 1 G ((kr k:Kp (KA a) b _)) (fun w' hw'=>lB sca31 G (P.kp hw' (fun e'=>D e')) G)<|Ak 2 G ((kr k:Kp (KA a) b _)) (fun w' hw'=>mI G)<|Ak 3 G ((kr k:Kp (KA a) b _)) (fun w' hw'=>fA fa102_0 G)<|Ak 4 G ((kr k:Kp (KA a) b _)) (fun w' hw'=>lB sca3 G (q.kp hw' (fun e'=>E e')) G)<|Ak 5 G ((kr k:Kp (KA a) b _)) (fun w' hw'=>fA fa102_1 G)<|Ak 6 G ((kr k:Kp (KA a) b _)) (fun w' hw'=>lB sca3 G (q.kp hw' (fun e'=>E e')) G)<|Ak 7 G ((kr k:Kp (KA a) b _)) (fun w' hw'=>fA fa106_3 G)<|Ak 8 G ((kr k:Kp (KA a) b _)) (fun w' hw'=>lB sca3 G (H.kp hw' (nE m)) G)<|Ak 9 G ((kr k:Kp (KA a) b _)) (fun w' hw'=>fA fa102_2 G)<|Ak 10 G ((kr k:Kp (KA a) b _)) (fun w' hw'=>lB sca3 G (q.kp hw' (fun e'=>E e')) G)<|Ak 13 G ((kr k:Kp (KA a) b _)) (fun w' hw'=>fA fa102_2 G)<|Ak 14 G ((kr k:Kp (KA a) b _)) (fun w' hw'=>lB sca3 G (q.kp hw' (fun e'=>E e')) G)<|Ak 15 G ((kr k:Kp (KA a) b _)) (fun w' hw'=>fA fa106_3 G)<|Ak 16 G ((kr k:Kp (KA a) b _)) (fun w' hw'=>lB sca3 G (H.kp hw' (nE m)) G)<|Ak 17 G ((kr k:Kp (KA a) b _)) (fun w' hw'=>fA fa102_2 G)<|Ak 18 G ((kr k:Kp (KA a) b _)) (fun w' hw'=>lB sca3 G (q.kp hw' (fun e'=>E e')) G)<|Ab 11 G (Qv ent167 (c_spec_l1Least fp s.Value ((gt x.Maps ((idxF (hasId s.Id) x.Maps).toNat)).Torn)) G fun fq bu gP=>?_)
     have bb:=((kr k:Kp (KA a) b _)).lo bu
     refine Qn ⟨bb,_,G,(Ak 12 G bb (fun w' hw'=>r_sub G G oB)<|Ab 19 G (Qv ent167 (c_spec_l1Least fq s.Value ((gt x.Maps ((idxF (hasId s.Id) x.Maps).toNat)).Torn)) G fun iX bz gQ=>?_))⟩
     have ai:=bb.lo bz
     refine Qn ⟨ai,_,G,(Ak 20 G ai (fun w' hw'=>r_sub G G oB)<|Ak 21 G ai (fun w' hw'=>r_build (vs:=[(0,i6 ((gt x.Maps ((idxF (hasId s.Id) x.Maps).toNat)).Id)),(1,i6 (((gt x.Maps ((idxF (hasId s.Id) x.Maps).toNat)).Copies)-(min s.Value ((gt x.Maps ((idxF (hasId s.Id) x.Maps).toNat)).Torn)))),(2,i6 (((gt x.Maps ((idxF (hasId s.Id) x.Maps).toNat)).Torn)-(min s.Value ((gt x.Maps ((idxF (hasId s.Id) x.Maps).toNat)).Torn))))]) G (bld102_0_1_2 _ _ _))<|Ab 22 G (Q (rX tsl31 ((((m.lo k).lo bu).lo bz).rd) G G oB) (Qn ⟨ai,_,G,(Ab 23 G (SR.storeO (o:=0) (vs:=[i6 ((gt x.Maps ((idxF (hasId s.Id) x.Maps).toNat)).Id),i6 (((gt x.Maps ((idxF (hasId s.Id) x.Maps).toNat)).Copies)-(min s.Value ((gt x.Maps ((idxF (hasId s.Id) x.Maps).toNat)).Torn))),i6 (((gt x.Maps ((idxF (hasId s.Id) x.Maps).toNat)).Torn)-(min s.Value ((gt x.Maps ((idxF (hasId s.Id) x.Maps).toNat)).Torn)))]) (x1:=(⟨(gt x.Maps ((idxF (hasId s.Id) x.Maps).toNat)).Id,((gt x.Maps ((idxF (hasId s.Id) x.Maps).toNat)).Copies)-(min s.Value ((gt x.Maps ((idxF (hasId s.Id) x.Maps).toNat)).Torn)),((gt x.Maps ((idxF (hasId s.Id) x.Maps).toNat)).Torn)-(min s.Value ((gt x.Maps ((idxF (hasId s.Id) x.Maps).toNat)).Torn))⟩:LMap)) agg102.2 G G G G (((m.lo k).lo bu).lo bz) R G ler G ?_))⟩)))⟩
     intro iY cw f0 dK
     have gR:=cw.size
     have ce:=ai.step cw (fun _ _ e=>e)
     have eN:(x.Maps.set ((idxF (hasId s.Id) x.Maps).toNat) (⟨(gt x.Maps ((idxF (hasId s.Id) x.Maps).toNat)).Id,((gt x.Maps ((idxF (hasId s.Id) x.Maps).toNat)).Copies)-(min s.Value ((gt x.Maps ((idxF (hasId s.Id) x.Maps).toNat)).Torn)),((gt x.Maps ((idxF (hasId s.Id) x.Maps).toNat)).Torn)-(min s.Value ((gt x.Maps ((idxF (hasId s.Id) x.Maps).toNat)).Torn))⟩:LMap))[(idxF (hasId s.Id) x.Maps).toNat]?=some (⟨(gt x.Maps ((idxF (hasId s.Id) x.Maps).toNat)).Id,((gt x.Maps ((idxF (hasId s.Id) x.Maps).toNat)).Copies)-(min s.Value ((gt x.Maps ((idxF (hasId s.Id) x.Maps).toNat)).Torn)),((gt x.Maps ((idxF (hasId s.Id) x.Maps).toNat)).Torn)-(min s.Value ((gt x.Maps ((idxF (hasId s.Id) x.Maps).toNat)).Torn))⟩:LMap):=List.getElem?_set_self (List.getElem?_eq_some_iff.1 R).1
     refine Qn ⟨ce,_,G,(Ad oC (⟨(At.r G),ce,dK,eN⟩))⟩
    rintro ii cY ⟨dm,N,cK,gk⟩
    rw [← sA dm]
    have gS:=N.size
    refine WA (Kp (fun b_=>b_=j) cY) (fun f' w'=>At f' [(4,pt p),(5,.bool false),(7,pt j),(10,.bool (decide (s.Value≤((gt x.Maps ((idxF (hasId s.Id) x.Maps).toNat)).Torn))))]∧(Kp (fun b_=>b_=j) cY w')∧(Blk w' j 34 [.slice a c h,.slice d f n,i6 x.Bought,i6 (x.Dropped+(min s.Value ((gt x.Maps ((idxF (hasId s.Id) x.Maps).toNat)).Torn))),i6 x.Mended])) mo ?_ ?_
    ·intro fr L
     have gT:=L.size
     refine Ak 0 G (kr L) (fun w' hw'=>fA fa34_3 G)<|Ak 1 G (kr L) (fun w' hw'=>lB sca3 G ((bE.kp N (nE m)).kn hw' oB) G)<|Ak 2 G (kr L) (fun w' hw'=>fA fa106_3 G)<|Ak 3 G (kr L) (fun w' hw'=>lB sca3 G ((H.kp N (nE m)).kn hw' oB) G)<|Ak 4 G (kr L) (fun w' hw'=>fA fa102_2 G)<|Ak 5 G (kr L) (fun w' hw'=>lB sca3 G ((q.kp N (fun e'=>E e')).kn hw' oB) G)<|Ab 6 G (Qv ent167 (c_spec_l1Least fr s.Value ((gt x.Maps ((idxF (hasId s.Id) x.Maps).toNat)).Torn)) G fun iZ cx gU=>?_)
     have aE:=((kr L:Kp (fun b_=>b_=j) cY _)).lo cx
     refine Qn ⟨aE,_,G,(Ak 7 G aE (fun w' hw'=>r_add G G oB)<|Ak 8 G aE (fun w' hw'=>fA fa34_3 G)<|Ab 9 G (Qw (o:=3) (vs:=[i6 (x.Dropped+(min s.Value ((gt x.Maps ((idxF (hasId s.Id) x.Maps).toNat)).Torn)))]) sca3.2 G G G G (((P.kp N (fun e'=>D e')).lo L).lo cx) ler G ?_))⟩
     intro i1 ea f4 dR
     have cf:=aE.step ea (fun _ _ e=>e)
     refine Qn ⟨cf,_,G,(Ad oC (⟨(At.r G),cf,dR⟩))⟩
    rintro ij bN ⟨dn,ac,cN⟩
    rw [← sA dn]
    have gW:=ac.size
    refine Ws ?_
    have cO:=(am.kp N (nE m)).kn ac oB
    have cP:=(aM.kp N (fun b_ hb e'=>U b_ e' hb)).kd ac co
    refine WA (Kp (fun b_=>b_=p) bN) (fun f' w'=>At f' [(4,pt p),(5,.bool (decide ((s.Value≤((gt x.Maps ((idxF (hasId s.Id) x.Maps).toNat)).Torn))∧(LibOK (⟨x.Maps.set ((idxF (hasId s.Id) x.Maps).toNat) (⟨(gt x.Maps ((idxF (hasId s.Id) x.Maps).toNat)).Id,((gt x.Maps ((idxF (hasId s.Id) x.Maps).toNat)).Copies)-(min s.Value ((gt x.Maps ((idxF (hasId s.Id) x.Maps).toNat)).Torn)),((gt x.Maps ((idxF (hasId s.Id) x.Maps).toNat)).Torn)-(min s.Value ((gt x.Maps ((idxF (hasId s.Id) x.Maps).toNat)).Torn))⟩:LMap),x.Away,x.Bought,x.Dropped+(min s.Value ((gt x.Maps ((idxF (hasId s.Id) x.Maps).toNat)).Torn)),x.Mended⟩:Library)))))]∧(Kp (fun b_=>b_=p) bN w')∧(Blk w' p 34 [.slice a c h,.slice d f n,i6 x.Bought,i6 (x.Dropped+(min s.Value ((gt x.Maps ((idxF (hasId s.Id) x.Maps).toNat)).Torn))),i6 x.Mended])) mo ?_ ?_
    ·intro fs u
     have gX:=u.size
     refine Ak 0 G (kr u) (fun w' hw'=>lG agg34 G (cN.kn hw' oB) G)<|Ak 1 G (kr u) (fun w' hw'=>mB G)<|Ak 2 G (kr u) (fun w' hw'=>mB G)<|AH.splitD (fun bU=>?_) (fun bU=>?_)
     ·refine AH.take 3 G oC G (kr u) (fun w' hw'=>lG agg34 G (cN.kn hw' oB) G)<|Ar [4] oC G ⟨Bm G G (SR.gcall G ent80 (c_spec_l32Good fs (⟨x.Maps.set ((idxF (hasId s.Id) x.Maps).toNat) (⟨(gt x.Maps ((idxF (hasId s.Id) x.Maps).toNat)).Id,((gt x.Maps ((idxF (hasId s.Id) x.Maps).toNat)).Copies)-(min s.Value ((gt x.Maps ((idxF (hasId s.Id) x.Maps).toNat)).Torn)),((gt x.Maps ((idxF (hasId s.Id) x.Maps).toNat)).Torn)-(min s.Value ((gt x.Maps ((idxF (hasId s.Id) x.Maps).toNat)).Torn))⟩:LMap),x.Away,x.Bought,x.Dropped+(min s.Value ((gt x.Maps ((idxF (hasId s.Id) x.Maps).toNat)).Torn)),x.Mended⟩:Library) (((cK.kd ac D).lo u).rd) ((cP.lo u).rd)) G ?_),trivial⟩
      rintro e i7 ⟨rfl,bA⟩
      refine ⟨_,G,?_⟩
      have gY:=bA.size
      have bc:=((kr u:Kp (fun b_=>b_=p) bN _)).lo bA
      refine Qn ⟨bc,_,G,(Ak 5 G bc (fun w' hw'=>pT G G)<|Ab 6 G (Qw (o:=0) (vs:=[.slice a c h,.slice d f n,i6 x.Bought,i6 (x.Dropped+(min s.Value ((gt x.Maps ((idxF (hasId s.Id) x.Maps).toNat)).Torn))),i6 x.Mended]) agg34.2 G G G G ((cO.lo u).lo bA) ler G ?_))⟩
      intro i8 ed f6 dS
      have be:=bc.step ed (fun _ _ e=>e)
      refine Qn ⟨be,_,G,(Ak 7 G be (fun w' hw'=>aB G)<|Ad oC (⟨⟨G,(eDD (jat bU)),trivial⟩,be,dS⟩))⟩
     ·refine AH.s' 3 G oC G (kr u)<|AH.s' 4 G oC G (kr u)<|Ak 5 G (kr u) (fun w' hw'=>pF G G)<|Ab 6 G (Qw (o:=0) (vs:=[.slice a c h,.slice d f n,i6 x.Bought,i6 (x.Dropped+(min s.Value ((gt x.Maps ((idxF (hasId s.Id) x.Maps).toNat)).Torn))),i6 x.Mended]) agg34.2 G G G G (cO.lo u) ler G ?_)
      intro ja ee f7 dT
      have bf:=((kr u:Kp (fun b_=>b_=p) bN _)).step ee (fun _ _ e=>e)
      refine Qn ⟨bf,_,G,(Ak 7 G bf (fun w' hw'=>aB G)<|Ad oC (⟨⟨G,(eDF (jaf bU).2),trivial⟩,bf,dT⟩))⟩
    rintro ik jc ⟨dp,az,eG⟩
    rw [← sA dp]
    have gZ:=az.size
    refine We (retCT G G agg34 eG G (v:=.bool _) G ?_)
    refine ⟨a,c,h,d,f,n,eR (eT2 (e5 ?_ ?_ ?_) (eB ?_)),(oq (((cK.kd ac D).kn az oB).down) ?_),(oq ((cP.kn az oB).down) ?_),U,(((ao.step N (fun i_ hi_ e'=>by have:=m.base_le e'; first | omega | exact e' | exact .inl e' | exact .inr e')).new ac oB).new az oB)⟩ <;> (subst W X; unfold spec_l32Make; rw [if_neg bQ,if_neg aT,if_pos bG] <;> rfl)
   ·refine Ws (Wr (Q (r_eq G G)<|Q (aB G)<|Qn (Wd G (fun bV=>?_) (fun bV=>?_))))
    ·refine Ws (Wr (Q (fA fa106_3 G)<|Q (lB sca3 G H G)<|Q (fA fa102_1 G)<|Q (lB sca3 G q G)<|Q (fA fa102_2 G)<|Q (lB sca3 G q G)<|Q (r_sub G G oB)<|Q (r_le G G)<|Q (aB G)<|Qn (WA (Kp (KA a) b) (fun f' w'=>At f' [(4,pt p),(5,.bool false),(7,pt j),(10,.bool (decide (s.Value≤(((gt x.Maps ((idxF (hasId s.Id) x.Maps).toNat)).Copies)-((gt x.Maps ((idxF (hasId s.Id) x.Maps).toNat)).Torn)))))]∧(Kp (KA a) b w')∧(SlO w' S.heap.size encLMap 3 102 a c h (x.Maps.set ((idxF (hasId s.Id) x.Maps).toNat) ({ (gt x.Maps ((idxF (hasId s.Id) x.Maps).toNat)) with Torn:=((gt x.Maps ((idxF (hasId s.Id) x.Maps).toNat)).Torn)+(min s.Value 100) })))∧((x.Maps.set ((idxF (hasId s.Id) x.Maps).toNat) ({ (gt x.Maps ((idxF (hasId s.Id) x.Maps).toNat)) with Torn:=((gt x.Maps ((idxF (hasId s.Id) x.Maps).toNat)).Torn)+(min s.Value 100) }))[(idxF (hasId s.Id) x.Maps).toNat]?=some ({ (gt x.Maps ((idxF (hasId s.Id) x.Maps).toNat)) with Torn:=((gt x.Maps ((idxF (hasId s.Id) x.Maps).toNat)).Torn)+(min s.Value 100) }))) mo ?_ ?_)))
     ·intro ft F
      have g0:=F.size
      refine Ak 0 G ((kr F:Kp (KA a) b _)) (fun w' hw'=>fA fa34_0 G)<|Ak 1 G ((kr F:Kp (KA a) b _)) (fun w' hw'=>lB sca31 G (P.kp hw' (fun e'=>D e')) G)<|Ak 2 G ((kr F:Kp (KA a) b _)) (fun w' hw'=>mI G)<|Ak 3 G ((kr F:Kp (KA a) b _)) (fun w' hw'=>fA fa102_2 G)<|Ak 4 G ((kr F:Kp (KA a) b _)) (fun w' hw'=>lB sca3 G (q.kp hw' (fun e'=>E e')) G)<|Ak 5 G ((kr F:Kp (KA a) b _)) (fun w' hw'=>fA fa106_3 G)<|Ak 6 G ((kr F:Kp (KA a) b _)) (fun w' hw'=>lB sca3 G (H.kp hw' (nE m)) G)<|Ab 7 G (Qv ent167 (c_spec_l1Least ft s.Value 100) G fun jd bB g5=>?_)
      have aj:=((kr F:Kp (KA a) b _)).lo bB
      refine Qn ⟨aj,_,G,(Ak 8 G aj (fun w' hw'=>r_add G G oB)<|Ab 9 G (Q (rX tsl31 (((m.lo F).lo bB).rd) G G oB) (Qn ⟨aj,_,G,(Ak 10 G aj (fun w' hw'=>fA fa102_2 G)<|Ab 11 G (SR.storeO (o:=2) (vs:=[i6 (((gt x.Maps ((idxF (hasId s.Id) x.Maps).toNat)).Torn)+(min s.Value 100))]) (x1:={ (gt x.Maps ((idxF (hasId s.Id) x.Maps).toNat)) with Torn:=((gt x.Maps ((idxF (hasId s.Id) x.Maps).toNat)).Torn)+(min s.Value 100) }) sca3.2 G (add_add _ _ _) G G ((m.lo F).lo bB) R G ler G ?_))⟩)))⟩
      intro je cy f8 dL
      have g6:=cy.size
      have cg:=aj.step cy (fun _ _ e=>e)
      have eO:(x.Maps.set ((idxF (hasId s.Id) x.Maps).toNat) ({ (gt x.Maps ((idxF (hasId s.Id) x.Maps).toNat)) with Torn:=((gt x.Maps ((idxF (hasId s.Id) x.Maps).toNat)).Torn)+(min s.Value 100) }))[(idxF (hasId s.Id) x.Maps).toNat]?=some ({ (gt x.Maps ((idxF (hasId s.Id) x.Maps).toNat)) with Torn:=((gt x.Maps ((idxF (hasId s.Id) x.Maps).toNat)).Torn)+(min s.Value 100) }):=List.getElem?_set_self (List.getElem?_eq_some_iff.1 R).1
      refine Qn ⟨cg,_,G,(Ad oC (⟨(At.r G),cg,dL,eO⟩))⟩
     rintro il bO ⟨dq,O,cQ,gl⟩
     rw [← sA dq]
     have g7:=O.size
     refine Ws (WA (Kp (fun b_=>b_=p) bO) (fun f' w'=>At f' [(4,pt p),(5,.bool (decide ((s.Value≤(((gt x.Maps ((idxF (hasId s.Id) x.Maps).toNat)).Copies)-((gt x.Maps ((idxF (hasId s.Id) x.Maps).toNat)).Torn)))∧(LibOK (⟨x.Maps.set ((idxF (hasId s.Id) x.Maps).toNat) ({ (gt x.Maps ((idxF (hasId s.Id) x.Maps).toNat)) with Torn:=((gt x.Maps ((idxF (hasId s.Id) x.Maps).toNat)).Torn)+(min s.Value 100) }),x.Away,x.Bought,x.Dropped,x.Mended⟩:Library)))))]∧(Kp (fun b_=>b_=p) bO w')∧(Blk w' p 34 (cLb a c h d f n x))) mo ?_ ?_)
     ·intro fu y
      have g8:=y.size
      refine Ak 0 G (kr y) (fun w' hw'=>lG agg34 G ((P.kp O (fun e'=>D e')).kn hw' oB) G)<|Ak 1 G (kr y) (fun w' hw'=>mB G)<|Ak 2 G (kr y) (fun w' hw'=>mB G)<|AH.splitD (fun bW=>?_) (fun bW=>?_)
      ·refine AH.take 3 G oC G (kr y) (fun w' hw'=>lG agg34 G ((P.kp O (fun e'=>D e')).kn hw' oB) G)<|Ar [4] oC G ⟨Bm G G (SR.gcall G ent80 (c_spec_l32Good fu (⟨x.Maps.set ((idxF (hasId s.Id) x.Maps).toNat) ({ (gt x.Maps ((idxF (hasId s.Id) x.Maps).toNat)) with Torn:=((gt x.Maps ((idxF (hasId s.Id) x.Maps).toNat)).Torn)+(min s.Value 100) }),x.Away,x.Bought,x.Dropped,x.Mended⟩:Library) ((cQ.lo y).rd) (((aM.kp O (fun b_ hb e'=>U b_ e' hb)).lo y).rd)) G ?_),trivial⟩
       rintro e jf ⟨rfl,bC⟩
       refine ⟨_,G,?_⟩
       have hF:=bC.size
       have bg:=((kr y:Kp (fun b_=>b_=p) bO _)).lo bC
       refine Qn ⟨bg,_,G,(Ak 5 G bg (fun w' hw'=>pT G G)<|Ab 6 G (Qw (o:=0) (vs:=(cLb a c h d f n x)) agg34.2 G G G G (((am.kp O (nE m)).lo y).lo bC) ler G ?_))⟩
       intro jg ef ga dU
       have bh:=bg.step ef (fun _ _ e=>e)
       refine Qn ⟨bh,_,G,(Ak 7 G bh (fun w' hw'=>aB G)<|Ad oC (⟨⟨G,(eDD (jat bW)),trivial⟩,bh,dU⟩))⟩
      ·refine AH.s' 3 G oC G (kr y)<|AH.s' 4 G oC G (kr y)<|Ak 5 G (kr y) (fun w' hw'=>pF G G)<|Ab 6 G (Qw (o:=0) (vs:=(cLb a c h d f n x)) agg34.2 G G G G ((am.kp O (nE m)).lo y) ler G ?_)
       intro jh eg gb dV
       have bi:=((kr y:Kp (fun b_=>b_=p) bO _)).step eg (fun _ _ e=>e)
       refine Qn ⟨bi,_,G,(Ak 7 G bi (fun w' hw'=>aB G)<|Ad oC (⟨⟨G,(eDF (jaf bW).2),trivial⟩,bi,dV⟩))⟩
     rintro im ji ⟨dr,aA,eH⟩
     rw [← sA dr]
     have hG:=aA.size
     refine We (retCT G G agg34 eH G (v:=.bool _) G ?_)
     refine ⟨a,c,h,d,f,n,eR (eT2 (e5 ?_ ?_ ?_) (eB ?_)),(oq ((cQ.kn aA oB).down) ?_),(oq (((aM.kp O (fun b_ hb e'=>U b_ e' hb)).kn aA oB).down) ?_),U,((ao.step O (fun i_ hi_ e'=>by have:=m.base_le e'; first | omega | exact e' | exact .inl e' | exact .inr e')).new aA oB)⟩ <;> (subst W X; unfold spec_l32Make; rw [if_neg bQ,if_neg aT,if_neg bG,if_pos bV] <;> rfl)
    ·refine Wr (Q (lG agg34 G bE G)<|Q (lG agg106 G H G)<|Q (mI G)<|Qc ent168 (c_spec_l32Readers b x (((T.lo C).lo I).kn J) (((an.lo C).lo I).kn J) s (idxF (hasId s.Id) x.Maps) oJ oB oB) G ?_)
     rintro e jj ⟨aN,aW,aQ,aO,aX,aR,rfl,ar,au,d4,aH⟩
     refine ⟨_,G,?_⟩
     have hH:=aH.size
     have eo:=ar.len
     have fJ:=ar.rd.bound
     have ep:=au.len
     have fK:=au.rd.bound
     refine Q (mT G)<|Q (xG G G)<|Q (xB G G)<|Qw (o:=0) (vs:=(cLb aN aW aQ aO aX aR ((spec_l32Readers x s (idxF (hasId s.Id) x.Maps)).1))) agg34.2 G G G G (P.lo aH) ler G ?_
     intro bP ae gf cl
     refine Q (aB G)<|Qn (Ws ?_)
     have cR:=(am.lo aH).kn ae
     refine WA (Kp (fun b_=>b_=p) bP) (fun f' w'=>At f' [(4,pt p),(5,.bool (decide ((((spec_l32Readers x s (idxF (hasId s.Id) x.Maps)).2)=true)∧(LibOK ((spec_l32Readers x s (idxF (hasId s.Id) x.Maps)).1)))))]∧(Kp (fun b_=>b_=p) bP w')∧(Blk w' p 34 (cLb aN aW aQ aO aX aR ((spec_l32Readers x s (idxF (hasId s.Id) x.Maps)).1)))) mo ?_ ?_
     ·intro fv z
      have hI:=z.size
      refine Ak 0 G (kr z) (fun w' hw'=>lG agg34 G (cl.kn hw' oB) G)<|Ak 1 G (kr z) (fun w' hw'=>mB G)<|Ak 2 G (kr z) (fun w' hw'=>mB G)<|As (fun bX=>?_) (fun bX=>?_)
      ·refine AH.take 3 G oC G (kr z) (fun w' hw'=>lG agg34 G (cl.kn hw' oB) G)<|Ar [4] oC G ⟨Bm G G (SR.gcall G ent80 (c_spec_l32Good fv ((spec_l32Readers x s (idxF (hasId s.Id) x.Maps)).1) (((ar.kn ae).lo z).rd) (((au.kn ae).lo z).rd)) G ?_),trivial⟩
       rintro e jk ⟨rfl,bD⟩
       refine ⟨_,G,?_⟩
       have hJ:=bD.size
       have bj:=((kr z:Kp (fun b_=>b_=p) bP _)).lo bD
       refine Qn ⟨bj,_,G,(Ak 5 G bj (fun w' hw'=>pT G G)<|Ab 6 G (Qw (o:=0) (vs:=(cLb aN aW aQ aO aX aR ((spec_l32Readers x s (idxF (hasId s.Id) x.Maps)).1))) agg34.2 G G G G ((cR.lo z).lo bD) ler G ?_))⟩
       intro jl eh gh dW
       have bl:=bj.step eh (fun _ _ e=>e)
       refine Qn ⟨bl,_,G,(Ak 7 G bl (fun w' hw'=>aB G)<|Ad oC (⟨⟨G,(eDD (jat bX)),trivial⟩,bl,dW⟩))⟩
      ·refine AH.s' 3 G oC G (kr z)<|AH.s' 4 G oC G (kr z)<|Ak 5 G (kr z) (fun w' hw'=>pF G G)<|Ab 6 G (Qw (o:=0) (vs:=(cLb aN aW aQ aO aX aR ((spec_l32Readers x s (idxF (hasId s.Id) x.Maps)).1))) agg34.2 G G G G (cR.lo z) ler G ?_)
       intro jm ei gi dX
       have bm:=((kr z:Kp (fun b_=>b_=p) bP _)).step ei (fun _ _ e=>e)
       refine Qn ⟨bm,_,G,(Ak 7 G bm (fun w' hw'=>aB G)<|Ad oC (⟨⟨G,(eDF (jaf (ne_true_of_eq_false bX)).2),trivial⟩,bm,dX⟩))⟩
     rintro io jn ⟨dt,aC,eJ⟩
     rw [← sA dt]
     have hQ:=aC.size
     refine We (retCT G G agg34 eJ G (v:=.bool _) G ?_)
     refine ⟨aN,aW,aQ,aO,aX,aR,eR (eT2 (e5 ?_ ?_ ?_) (eB ?_)),(oq (((ar.kn ae).kn aC oB).down) ?_),(oq (((au.kn ae).kn aC oB).down) ?_),d4,(((ao.lo aH).new ae).new aC oB)⟩ <;> (subst eo ep; unfold spec_l32Make; rw [if_neg bQ,if_neg aT,if_neg bG,if_neg bV] <;> rfl)
open Classical in
noncomputable def spec_StepLibrary (x:Library) (s:LibraryStep):Library × Bool :=
 if (¬(LibOK x))∨((!(spec_l32Step x s))=true) then ((⟨([]:List LMap),([]:List Away),0,0,0⟩:Library),false) else if (!((spec_l32Make x s).2))=true then ((⟨([]:List LMap),([]:List Away),0,0,0⟩:Library),false) else (((spec_l32Make x s).1),true)
theorem c_spec_StepLibrary (w:World) (x:Library) (z:SlR w Bx1 encLMap 3 Ax1 nx1 cx1 x.Maps) (A:SlR w Bx2 encAway 2 Ax2 nx2 cx2 x.Away) (s:LibraryStep):Calls Tryz.prog 67 #[.agg (List.toArray (cLb Ax1 nx1 cx1 Ax2 nx2 cx2 x)),.agg (List.toArray (encLibraryStep s))] w fun e w'=>∃ A1' n1' c1' A2' n2' c2',e=.returned (.tuple (List.toArray [.agg (List.toArray (cLb A1' n1' c1' A2' n2' c2' ((spec_StepLibrary x s).1))),.bool ((spec_StepLibrary x s).2)]))∧SlO w' w.heap.size encLMap 3 102 A1' n1' c1' (((spec_StepLibrary x s).1).Maps)∧SlO w' w.heap.size encAway 2 129 A2' n2' c2' (((spec_StepLibrary x s).1).Away)∧Dj A1' A2'∧Lo w w':=by
 refine cW 28 Tryz.func67 G G G ?_
 have an:=z.bound
 have ap:=z.len
 have ak:=z.bd
 have ao:=A.bound
 have aq:=A.len
 have al:=A.bd
 refine Ws (Wr (bx G ?_))
 intro g1 w2 bc U be am
 refine bx G ?_
 intro g9 bf aA j aQ D
 refine Qa (l:=zLb) tz34 G ?_
 intro aj ai aC b aR E
 refine Q (aB G)<|Qn (Ws (Ws ?_))
 have t:=(am.lo j).lo b
 have u:=((z.lo U).lo j).lo b
 have y:=((A.lo U).lo j).lo b
 refine WJ (fun f' w'=>At f' [(2,pt g1),(3,pt g9),(4,pt aj),(5,.bool false),(16,.bool (decide ((¬(LibOK x))∨((!(spec_l32Step x s))=true))))]∧Lo ai w') ?_ ?_
 ·refine Q (lG agg34 G t G)<|Qv ent80 (c_spec_l32Good ai x u y) G fun ay c aW=>(Q (rN G)<|Q (mB G)<|QN (fun p=>?_) (fun p=>?_))
  ·refine Qs<|Qs<|Qs<|Qs<|Q (pT G G)<|Qn (⟨_,G,⟨⟨G,G,G,G,(eDT ((jmf p).1 trivial)),trivial⟩,c⟩⟩)
  ·have I:=And.left p
   have aG:=lib_len p
   have aH:=And.left I
   have aJ:=And.right I
   refine Qg (lG agg34 G (t.lo c) G)<|Qg (lG agg106 G ((D.lo b).lo c) G)<|SR.gcall G ent114 (c_spec_l32Step ay x (u.lo c) (y.lo c) s) G ?_
   rintro e bg ⟨rfl,F⟩
   refine ⟨_,G,?_⟩
   have aX:=F.size
   refine Qg (rN G)<|Q (pF G G)<|Qn (⟨_,G,⟨⟨G,G,G,G,(eBD (jmt p)),trivial⟩,(c.trans F)⟩⟩)
 rintro a8 az ⟨P,a⟩
 rw [← sA P]
 have aY:=a.size
 have B:=((((lr w).lo U).lo j).lo b).lo a
 refine Wd G (fun n=>?_) (fun n=>?_)
 ·refine Ws (Wr (Q (r_build (vs:=[]) G bld34_)<|Qw (o:=0) (vs:=zLb) agg34.2 G G G G (E.lo a) ler G ?_))
  intro bh ac aT Y
  refine Q (aB G)<|Qn (We (retCT G G agg34 Y G (v:=.bool _) G ?_))
  refine ⟨none,0,0,none,0,0,eR (eT2 (e5 ?_ ?_ ?_) (eB ?_)),(oq (SlO.nil (e:=102) (enc:=encLMap) (fun _=>G) oB) ?_),(oq (SlO.nil (e:=129) (enc:=encAway) (fun _=>G) oB) ?_),(fun b_ h=>by cases h),(B.new ac)⟩ <;> (unfold spec_StepLibrary; rw [if_pos n] <;> rfl)
 ·have J:LibOK x:=(Classical.not_not.1 (not_or.1 n).1)
  have ah:¬((!(spec_l32Step x s))=true):=(not_or.1 n).2
  have K:=And.left J
  have aK:=lib_len J
  have aM:=bnot_n ah
  have aN:=And.left K
  have aO:=And.right K
  refine Wk (Ws (Wr (Q (lG agg34 G (t.lo a) G)<|Q (lG agg106 G ((D.lo b).lo a) G)<|Qc ent115 (c_spec_l32Make az x (u.lo a) (y.lo a) s oJ oJ) G ?_)))
  rintro e bi ⟨L,V,N,M,W,O,rfl,f,i,ab,r⟩
  refine ⟨_,G,?_⟩
  have aZ:=r.size
  have ae:=f.len
  have aE:=f.rd.bound
  have ag:=i.len
  have aF:=i.rd.bound
  refine Q (mT G)<|Q (xG G G)<|Q (xB G G)<|Qa (l:=zLb) tz34 G ?_
  intro X bj aD k aU Z
  refine Qw (o:=0) (vs:=(cLb L V N M W O ((spec_l32Make x s).1))) agg34.2 G G G G Z ler G ?_
  intro bl m aV aa
  have C:=((B.lo r).lo k).new m
  refine Q (aB G)<|Qn (Ws (Ws ?_))
  have H:=(((E.lo a).lo r).lo k).kn m
  refine Wr (Q (mB G)<|Q (rN G)<|Qn (Wb G (fun q=>?_) (fun q=>?_)))
  ·have ar:=bnot_t q
   refine Ws (Wr (Q (r_build (vs:=[]) G bld34_)<|Qw (o:=0) (vs:=zLb) agg34.2 G G G G H ler G ?_))
   intro a6 T aw R
   refine Q (aB G)<|Qn (We (retCT G G agg34 R G (v:=.bool _) G ?_))
   refine ⟨none,0,0,none,0,0,eR (eT2 (e5 ?_ ?_ ?_) (eB ?_)),(oq (SlO.nil (e:=102) (enc:=encLMap) (fun _=>G) oB) ?_),(oq (SlO.nil (e:=129) (enc:=encAway) (fun _=>G) oB) ?_),(fun b_ h=>by cases h),(C.new T)⟩ <;> (unfold spec_StepLibrary; rw [if_neg n,if_pos q] <;> rfl)
  ·have au:=bnot_f q
   refine Wk (Ws (Wr (Q (lG agg34 G aa G)<|Qw (o:=0) (vs:=(cLb L V N M W O ((spec_l32Make x s).1))) agg34.2 G G G G H ler G ?_)))
   intro a7 d ax S
   refine Q (aB G)<|Qn (We (retCT G G agg34 S G (v:=.bool _) G ?_))
   refine ⟨L,V,N,M,W,O,eR (eT2 (e5 ?_ ?_ ?_) (eB ?_)),(oq ((((f.lo k).kd m (nE (g:=X) f)).kn d).down) ?_),(oq ((((i.lo k).kd m (nE (g:=X) i)).kn d).down) ?_),ab,(C.new d)⟩ <;> (subst ae ag; unfold spec_StepLibrary; rw [if_neg n,if_neg (ne_true_of_eq_false q)] <;> rfl)
end Go.Proofs.YtndcchndcghmoaaGreatDoor
namespace Go.Proofs.YtndcchndcghmoaaGreatDoor
open Go Go.RowKit Fw
def noLib:Library:=⟨[],[],0,0,0⟩
section
variable {x y : Library} {s : LibraryStep} {L : List LMap} {A : List Away} {k i : Nat} {m z : LMap} {v : Int}
theorem ins_set {α:Type} {L:List α} {k:Nat} {y z:α} (hk:k≤L.length):(L.take k++[y]++L.drop k).set k z=L.take k++[z]++L.drop k:=by
  have h:(L.take k).length=k:=by simp; omega
  rw [List.append_assoc,List.set_append_right _ _ oB,h]; simp
theorem ins_gt {α:Type} [Inhabited α] {L:List α} {k:Nat} {y:α} (hk:k≤L.length):gt (L.take k++[y]++L.drop k) k=y:=by
  have h:(L.take k).length=k:=by simp; omega
  refine gt_eq ?_
  rw [List.append_assoc,List.getElem?_append_right oB,h]; simp
theorem set_gt {α:Type} [Inhabited α] {L:List α} {k:Nat} {y:α} (hk:k<L.length):gt (L.set k y) k=y:=gt_eq (by simp [hk])
theorem buy_eq (hx:LibOK x) (h1:1≤s.Value∧s.Value≤50):impl_Library_buy x s=boughtN x s.Id s.Value:=by
  obtain ⟨e1,e2,e3⟩:=bsM hx.1.1 s.Id
  have hr:=lib_rng hx
  unfold impl_Library_buy boughtN
  by_cases hf:bsF cmpM s.Id x.Maps
  · have e:=e3 hf
    have hlt:bsP cmpM s.Id x.Maps<x.Maps.length:=by have:=hf.1; omega
    have hm:=maps_at hx.1.1 hlt
    rw [if_pos hf,if_pos (e2.1 hf),← e]
    simp only [Int.toNat_natCast]
    rw [wrap64_in oB,wrap64_in oB]
    rfl
  · rw [if_neg hf,if_neg (mt e2.2 hf)]
    have hle:=bsP_le (c:=cmpM) (t:=s.Id) (L:=x.Maps)
    simp only [Int.toNat_natCast]
    rw [ins_gt hle,ins_set hle,e1]
    dsimp only
    rw [wrap64_in oB,wrap64_in oB]
    unfold insAt; simp
theorem step_iff:spec_l32Step x s=true↔impl_isLibraryStep s=true∧(¬s.Kind=1→0≤idxF (hasId s.Id) x.Maps):=by
  unfold spec_l32Step impl_isLibraryStep
  by_cases h1:s.Kind=1
  · simp only [if_pos h1,decide_eq_true_eq]
    exact ⟨fun h=>⟨h,fun q=>absurd h1 q⟩,fun h=>h.1⟩
  by_cases h2:s.Kind=2
  · simp only [if_neg h1,if_pos h2,decide_eq_true_eq]; omega
  by_cases h3:s.Kind=3
  · simp only [if_neg h1,if_neg h2,if_pos h3,decide_eq_true_eq]; omega
  by_cases h5:s.Kind=5
  · simp only [if_neg h1,if_neg h2,if_neg h3,if_pos h5,decide_eq_true_eq]; omega
  by_cases h4:s.Kind=4
  · simp only [if_neg h1,if_neg h2,if_neg h3,if_neg h5,if_pos h4,decide_eq_true_eq]; omega
  by_cases h6:s.Kind=6
  · simp only [if_neg h1,if_neg h2,if_neg h3,if_neg h5,if_neg h4,if_pos h6,decide_eq_true_eq]; omega
  by_cases h7:s.Kind=7
  · simp only [if_neg h1,if_neg h2,if_neg h3,if_neg h5,if_neg h4,if_neg h6,if_pos h7,decide_eq_true_eq]; omega
  simp only [if_neg h1,if_neg h2,if_neg h3,if_neg h5,if_neg h4,if_neg h6,if_neg h7,decide_eq_true_eq]
  exact ⟨fun h=>by omega,fun h=>absurd h.1 oR⟩
theorem lib_at (h:LibOK y) (hy:y.Maps=L.set k m) (hk:k<L.length):0≤m.Torn∧m.Torn≤m.Copies:=by
  have h1:=maps_at (k:=k) h.1.1 (by rw [hy]; simpa using hk)
  rw [hy,set_gt hk] at h1
  exact h1.2.2.1
def UseOK (u s:Library × Bool):Prop:=((u.2=true∧LibOK u.1)↔s.2=true)∧(s.2=true→u.1=s.1)
theorem useOK_same {u:Library × Bool} {q:Library} {p:Prop} [Decidable p] (h:u.2=true∧LibOK u.1→p) (h2:p→u.2=true∧u.1=q):UseOK u (q,decide (p∧LibOK q)):=by
  constructor
  · rw [decide_eq_true_eq]
    constructor
    · intro hh; have hp:=h hh; exact ⟨hp,(h2 hp).2 ▸ hh.2⟩
    · rintro ⟨hp,hq⟩; exact ⟨(h2 hp).1,(h2 hp).2.symm ▸ hq⟩
  · intro hh; exact (h2 (of_decide_eq_true hh).1).2
theorem aw_idx (hx:LibOK x) (id r:Int):bsP cmpA ⟨id,r⟩ x.Away=bdA ⟨id,r⟩ x.Away∧(bsF cmpA ⟨id,r⟩ x.Away↔0≤idxF (isA id r) x.Away)∧(bsF cmpA ⟨id,r⟩ x.Away→(bsP cmpA ⟨id,r⟩ x.Away:Int)=idxF (isA id r) x.Away):=bsA (aw_s hx.2.1.1) id r
theorem use_ok (hx:LibOK x) (hs:spec_l32Step x s=true) (h1:¬s.Kind=1) (hv:s.Value≤9223372036854775807):UseOK (impl_Library_use x s (idxF (hasId s.Id) x.Maps)) (spec_l32Make x s):=by
  have hsr:=stepL_rng hs
  have hi:=hsr.2.1 h1
  have hlt:=(idx_lt (p:=hasId s.Id) (L:=x.Maps)).1
  unfold spec_l32Make impl_Library_use
  simp only [if_neg h1]
  generalize hj:(idxF (hasId s.Id) x.Maps).toNat=j
  have hjl:j<x.Maps.length:=by omega
  have hm:=maps_at hx.1.1 hjl
  have hr:=lib_rng hx
  have hst:spec_l32Readers x s (idxF (hasId s.Id) x.Maps)=spec_l32Readers x s (idxF (hasId s.Id) x.Maps):=rfl
  by_cases h4:s.Kind=4
  · simp only [if_neg (show ¬s.Kind=2 by omega),if_neg (show ¬s.Kind=3 by omega),if_neg (show ¬s.Kind=5 by omega),if_pos h4]
    refine useOK_same (fun hh=>?_) (fun hp=>⟨rfl,?_⟩)
    · have h:=lib_at hh.2 rfl hjl
      dsimp only at h
      rw [wrap64_in oB] at h; omega
    · rw [wrap64_in oB,wrap64_in oB,Int.min_eq_left hp]
  by_cases h6:s.Kind=6
  · simp only [if_neg (show ¬s.Kind=2 by omega),if_neg (show ¬s.Kind=3 by omega),if_neg (show ¬s.Kind=5 by omega),if_neg h4,if_pos h6]
    refine useOK_same (fun hh=>?_) (fun hp=>⟨rfl,?_⟩)
    · have h:=lib_at hh.2 (List.set_set ..) hjl
      dsimp only at h
      rw [wrap64_in oB] at h; omega
    · rw [wrap64_in oB,wrap64_in oB,wrap64_in oB,Int.min_eq_left hp,List.set_set]
  by_cases h7:s.Kind=7
  · simp only [if_neg (show ¬s.Kind=2 by omega),if_neg (show ¬s.Kind=3 by omega),if_neg (show ¬s.Kind=5 by omega),if_neg h4,if_neg h6,if_pos h7]
    refine useOK_same (fun hh=>?_) (fun hp=>⟨rfl,?_⟩)
    · have h:=lib_at hh.2 rfl hjl
      dsimp only at h
      simp only [IntKind.wrap_i64] at h; omega
    · rw [wrap64_in oB,Int.min_eq_left oB]
  simp only [if_neg h4,if_neg h6,if_neg h7]
  have hV:=hsr.2.2.2 ⟨h4,h6,h7⟩
  have hV0:=hsr.2.2.1
  obtain ⟨a1,a2,a3⟩:=aw_idx hx s.Id s.Reader
  have hal:=(idx_lt (p:=isA s.Id s.Reader) (L:=x.Away)).1
  unfold spec_l32Readers
  rw [hj]
  by_cases h2:s.Kind=2
  · simp only [if_pos h2]
    unfold impl_Library_give
    refine useOK_same (p:=_=true) (fun hh=>?_) (fun hp=>?_)
    · by_cases hf:bsF cmpA ⟨s.Id,s.Reader⟩ x.Away
      · rw [if_pos hf] at hh; exact absurd hh.1 oR
      · rw [if_neg hf] at hh
        have h:=lib_at hh.2 rfl hjl
        dsimp only at h
        rw [wrap64_in oB] at h
        refine decide_eq_true ⟨?_,oB⟩
        have:=mt a2.2 hf; omega
    · have hp':=of_decide_eq_true hp
      have hf:¬bsF cmpA ⟨s.Id,s.Reader⟩ x.Away:=fun hf=>by have:=a2.1 hf; omega
      rw [if_neg hf]
      refine ⟨rfl,?_⟩
      dsimp only
      rw [a1,wrap64_in oB,Int.toNat_natCast]
      rfl
  simp only [if_neg h2]
  by_cases h3:s.Kind=3
  · simp only [if_pos h3,if_neg (show ¬s.Kind=5 by omega)]
    unfold impl_Library_fetch
    by_cases hf:bsF cmpA ⟨s.Id,s.Reader⟩ x.Away
    · rw [if_pos hf,if_neg (by have:=a2.1 hf; omega)]
      refine useOK_same (p:=_=true) (fun hh=>rfl) (fun hp=>⟨rfl,?_⟩)
      have e:=a3 hf
      dsimp only
      rw [← e,wrap64_in oB,wrap64_in oB,Int.toNat_natCast,show ((bsP cmpA ⟨s.Id,s.Reader⟩ x.Away:Int)+1).toNat=bsP cmpA ⟨s.Id,s.Reader⟩ x.Away+1 by omega]
      rfl
    · rw [if_neg hf,if_pos (by have:=mt a2.2 hf; omega)]
      exact useOK_same (p:=_=true) (fun hh=>absurd hh.1 oR) (fun hp=>absurd hp oR)
  simp only [if_neg h3]
  have h5:s.Kind=5:=by
    rcases step_iff.1 hs with ⟨h,_⟩
    unfold impl_isLibraryStep at h
    apply Classical.byContradiction; intro h5
    simp only [h1,h2,h3,h4,h5,h6,h7,if_false] at h
    exact absurd h oR
  simp only [if_pos h5]
  obtain ⟨b1,b2,b3⟩:=aw_idx hx s.Id s.Value
  unfold impl_Library_hand
  by_cases hrv:s.Reader=s.Value
  · rw [if_pos hrv]
    split
    · exact useOK_same (p:=_=true) (fun hh=>absurd hh.1 oR) (fun hp=>absurd hp oR)
    · refine useOK_same (p:=_=true) (fun hh=>absurd hh.1 oR) (fun hp=>?_)
      have:=of_decide_eq_true hp
      rw [← hrv] at this; omega
  rw [if_neg hrv]
  by_cases hf:bsF cmpA ⟨s.Id,s.Reader⟩ x.Away
  · have e:=a3 hf
    have hkl:bsP cmpA ⟨s.Id,s.Reader⟩ x.Away<x.Away.length:=by have:=hf.1; omega
    have hfe:impl_Library_fetch x s.Id s.Reader=(backN x (idxF (isA s.Id s.Reader) x.Away),true):=by
      unfold impl_Library_fetch backN delAt
      rw [if_pos hf,← e,Int.toNat_natCast,show ((bsP cmpA ⟨s.Id,s.Reader⟩ x.Away:Int)+1).toNat=bsP cmpA ⟨s.Id,s.Reader⟩ x.Away+1 by omega]
    have hidx:¬idxF (isA s.Id s.Reader) x.Away<0:=by have:=a2.1 hf; omega
    simp only [hfe,if_neg hidx,Bool.not_true,Bool.false_eq_true,if_false]
    have hae:(backN x (idxF (isA s.Id s.Reader) x.Away)).Away=delAt x.Away (bsP cmpA ⟨s.Id,s.Reader⟩ x.Away):=by unfold backN; rw [← e,Int.toNat_natCast]
    obtain ⟨c1,c2,c3⟩:=bsA (del_s (aw_s hx.2.1.1) hkl) s.Id s.Value
    have hd:=del_has (q:=isA s.Id s.Value) hkl (by
      have:=cmpA_eq.1 hf.2
      rw [this]; unfold isA; exact decide_eq_false (fun hh=>hrv hh.2))
    unfold impl_Library_give
    rw [hae]
    by_cases hg:bsF cmpA ⟨s.Id,s.Value⟩ (delAt x.Away (bsP cmpA ⟨s.Id,s.Reader⟩ x.Away))
    · rw [if_pos hg]
      have:=hd.1 (c2.1 hg)
      refine useOK_same (p:=_=true) (fun hh=>absurd hh.1 oR) (fun hp=>?_)
      have:=of_decide_eq_true hp; omega
    · rw [if_neg hg]
      refine useOK_same (p:=_=true) (fun hh=>decide_eq_true ?_) (fun hp=>⟨rfl,?_⟩)
      · have:=mt (fun q=>c2.2 (hd.2 q)) hg; omega
      · unfold goneN insAt
        rw [hae,c1,Int.toNat_natCast]
  · have hfe:(impl_Library_fetch x s.Id s.Reader).2=false:=by unfold impl_Library_fetch; rw [if_neg hf]
    have hidx:idxF (isA s.Id s.Reader) x.Away<0:=by have:=mt a2.2 hf; omega
    have hn:(!(impl_Library_fetch x s.Id s.Reader).2)=true:=by rw [hfe]; rfl
    simp only [if_pos hidx,if_pos hn]
    exact useOK_same (p:=_=true) (fun hh=>absurd hh.1 oR) (fun hp=>absurd hp oR)
theorem stepped_yesL (hx:LibOK x) (hs:spec_l32Step x s=true) (hv:s.Value≤9223372036854775807):impl_Library_stepped x s=if (spec_l32Make x s).2=true then ((spec_l32Make x s).1,true) else (noLib,false):=by
  have h0:=step_iff.1 hs
  unfold impl_Library_stepped
  rw [if_neg (by rw [h0.1]; simp)]
  by_cases h1:s.Kind=1
  · have hsr:=(stepL_rng hs).1 h1
    rw [if_pos h1,buy_eq hx hsr.2]
    unfold spec_l32Make
    rw [if_pos h1]
    by_cases hl:LibOK (boughtN x s.Id s.Value)
    · rw [if_pos hl,if_pos (decide_eq_true hl)]
    · rw [if_neg hl,if_neg (by simpa using hl)]; rfl
  · have hf:bsF cmpM s.Id x.Maps:=(bsM hx.1.1 s.Id).2.1.2 (h0.2 h1)
    have hu:=use_ok hx hs h1 hv
    rw [if_neg h1,if_pos hf,(bsM hx.1.1 s.Id).2.2 hf]
    by_cases hy:(spec_l32Make x s).2=true
    · have h2:=hu.1.2 hy
      rw [if_pos hy,if_neg (by rintro (q | q); rw [h2.1] at q; cases q; exact q h2.2),hu.2 hy]
    · rw [if_neg hy,if_pos (by
        apply Classical.byContradiction; intro q
        rw [not_or] at q
        exact hy (hu.1.1 ⟨by simpa using q.1,Classical.not_not.1 q.2⟩))]
      rfl
theorem stepped_noL (hx:LibOK x) (hs:¬spec_l32Step x s=true):impl_Library_stepped x s=(noLib,false):=by
  unfold impl_Library_stepped
  by_cases h0:impl_isLibraryStep s=true
  · have h1:¬s.Kind=1:=fun h1=>hs (step_iff.2 ⟨h0,fun h=>absurd h1 h⟩)
    have hi:¬0≤idxF (hasId s.Id) x.Maps:=fun hi=>hs (step_iff.2 ⟨h0,fun _=>hi⟩)
    rw [if_neg (by rw [h0]; simp),if_neg h1,if_neg (fun hf=>hi ((bsM hx.1.1 s.Id).2.1.1 hf))]; rfl
  · rw [if_pos (by simpa using h0)]; rfl
noncomputable def impl_StepLibrary (x:Library) (s:LibraryStep):Library × Bool :=
  if LibOK x then (((impl_Library_stepped x s).1),(impl_Library_stepped x s).2) else ((⟨([]:List LMap),([]:List Away),0,0,0⟩:Library),false)
theorem step_eqL (hv:s.Value≤9223372036854775807):spec_StepLibrary x s=impl_StepLibrary x s:=by
  unfold spec_StepLibrary impl_StepLibrary
  by_cases hx:LibOK x
  · rw [if_pos hx]
    by_cases hs:spec_l32Step x s=true
    · rw [if_neg (by rintro (q | q); exact q hx; rw [hs] at q; cases q),stepped_yesL hx hs hv]
      by_cases hy:(spec_l32Make x s).2=true
      · rw [if_neg (by rw [hy]; simp),if_pos hy]
      · rw [if_pos (by simpa using hy),if_neg hy]; rfl
    · rw [if_pos (.inr (by simpa using hs)),stepped_noL hx hs]; rfl
  · rw [if_neg hx,if_pos (.inl hx)]
end
end Go.Proofs.YtndcchndcghmoaaGreatDoor
namespace Go.Proofs.YtndcchndcghmoaaGreatDoor
open Go Go.RowKit Fw
section
variable {s A B : List UInt8} {c : UInt8}
theorem occ1_not {L:List UInt8} {j:Nat} (h:∀ x,L[j]?=some x→¬x=c):Lib.occAt L [c] j=false:=by
  cases h2:Lib.occAt L [c] j
  · rfl
  · exfalso
    unfold Lib.occAt at h2
    obtain ⟨t,ht⟩:=List.isPrefixOf_iff_prefix.1 h2
    have:=congrArg (·[0]?) ht
    simp at this
    exact h c this.symm rfl
theorem index1_cut (h:c ∉ A):Lib.index (A++c :: B) [c]=(A.length:Int):=by
  refine Lib.index_first oR ?_ (fun j hj=>occ1_not fun x hx e=>?_)
  · unfold Lib.occAt
    rw [List.isPrefixOf_iff_prefix,List.drop_left]
    exact ⟨B,rfl⟩
  · rw [List.getElem?_append_left hj] at hx
    exact h (e ▸ List.mem_of_getElem? hx)
theorem index1_nil (h:c ∉ A):Lib.index A [c]=-1 :=
  Lib.index_none fun j _=>occ1_not fun x hx e=>h (e ▸ List.mem_of_getElem? hx)
theorem split_one1:∀ (n:Nat) (s:List UInt8),s.length≤n→Lib.split s [c]=splitB c s
  | 0,s,h=>by
    have:s=[]:=List.eq_nil_of_length_eq_zero oB
    subst this
    unfold Lib.split
    rw [Lib.count_miss (index1_nil oR)]; rfl
  | n+1,s,h=>by
    by_cases hc:c∈s
    · have e:s=befB s c++c :: aftB s c:=befB_join hc
      have hb:c ∉ befB s c:=befB_not s
      have hl:=congrArg List.length e
      simp only [List.length_append,List.length_cons] at hl
      have ih:=split_one1 n (aftB s c) oB
      generalize befB s c=b at *
      generalize aftB s c=a at *
      subst e
      rw [splitB_cut hb,← ih]
      unfold Lib.split
      rw [Lib.count_hit oR (index1_cut hb)]
      have e2:(b.length+[c].length)=(b++[c]).length:=by simp
      have e3:b++c :: a=b++[c]++a:=by simp
      rw [e2,e3,List.drop_left,Nat.add_comm 1]
      conv=>lhs; unfold Lib.splitK
      rw [← e3]
      have hm:¬((Lib.index (b++c :: a) [c] == -1)=true):=by rw [index1_cut hb]; simp
      rw [if_neg hm,index1_cut hb,e3]
      have e4:((b.length:Int).toNat+[c].length)=(b++[c]).length:=by simp
      rw [e4,List.drop_left,Int.toNat_natCast,Nat.add_zero,List.append_assoc,List.take_left]
    · rw [splitB_none hc]
      unfold Lib.split
      rw [Lib.count_miss (index1_nil hc)]; rfl
theorem split_eqB (s:List UInt8) (c:UInt8):Lib.split s [c]=splitB c s:=split_one1 s.length s (Nat.le_refl _)
end
def listT (L:List Int):List UInt8:=Lib.join (L.map Lib.itoa) [32]
def listN (L:List Int):List UInt8:=if L=[] then [110,111,110,101] else listT L
def IntsIn (L:List Int):Prop:=∀ (k:Nat) (y:Int),L[k]?=some y→0≤y∧y≤9999
section
variable {L : List Int} {k : Nat} {y : Int}
theorem list_next (h:L[k]?=some y):(L.take k).map Lib.itoa++[Lib.itoa y]=(L.take (k+1)).map Lib.itoa:=by
  rw [List.take_add_one,h]; simp
theorem listT_one (h:L[0]?=some y):Lib.itoa y=listT (L.take 1):=by
  cases L with
  | nil=>simp at h
  | cons x r =>
    obtain rfl:x=y:=by simpa using h
    show _=Lib.join ([x].map Lib.itoa) [32]
    rw [List.map_cons,List.map_nil,Lib.join_one]
theorem listT_next (h1:1≤k) (h:L[k]?=some y):listT (L.take k)++[32]++Lib.itoa y=listT (L.take (k+1)):=by
  cases L with
  | nil=>simp at h
  | cons x r =>
    obtain ⟨q,rfl⟩:∃ q,k=q+1:=⟨k-1,oB⟩
    have h2:(r.map Lib.itoa)[q]?=some (Lib.itoa y):=by
      rw [List.getElem?_cons_succ] at h; rw [List.getElem?_map,h]; rfl
    unfold listT
    rw [List.take_succ_cons,List.take_succ_cons,List.map_cons,List.map_cons,Lib.join_cons,Lib.join_cons,List.map_take,List.map_take,Lib.joinTail_take_succ _ _ _ _ h2]
    simp only [List.append_assoc]
theorem join_bd {W:List (List UInt8)} (h:∀ w∈W,w.length≤21) (hn:W.length≤1000000):(Lib.join W [32]).length≤22*W.length:=by
  have hl:∀ W:List (List UInt8),(∀ w∈W,w.length≤21)→Lib.lens W≤21*W.length:=by
    intro W
    induction W with
    | nil=>intro _; simp [Lib.lens]
    | cons x r ih =>
      intro h
      have h1:=ih (fun w hw=>h w (by simp [hw]))
      have h2:=h x oR
      simp only [Lib.lens,List.map_cons,List.sum_cons,List.length_cons] at *; omega
  cases W with
  | nil=>simp [Lib.join_nil]
  | cons x r =>
    have h1:=hl r (fun w hw=>h w (by simp [hw]))
    have h2:=h x oR
    rw [Lib.join_cons,List.length_append,Lib.joinTail_length]
    simp only [List.length_cons,List.length_nil] at *; omega
end
section
variable {L : List Int} {k n : Nat} {y : Int} {b : Bool} {W : List (List UInt8)} {x : Library}
theorem itoas_le (h:IntsIn L):∀ w∈L.map Lib.itoa,w.length≤21:=fun w hw=>by
  obtain ⟨y,hy,rfl⟩:=List.mem_map.1 hw
  obtain ⟨k,hk⟩:=List.mem_iff_getElem?.1 hy
  have:=h k y hk
  exact itoa_len oB oB
theorem itoas_take (h:IntsIn L) (k:Nat):∀ w∈(L.take k).map Lib.itoa,w.length≤21:=fun w hw=>itoas_le h w (by
  obtain ⟨y,hy,rfl⟩:=List.mem_map.1 hw
  exact List.mem_map.2 ⟨y,List.mem_of_mem_take hy,rfl⟩)
theorem itoas_len (h:k≤L.length):((L.take k).map Lib.itoa).length=k:=by simp; omega
theorem listN_len (L:List Int) (h:IntsIn L) (hn:L.length≤1000000):(listN L).length≤22*L.length+4:=by
  unfold listN; split
  · simp
  · have:=join_bd (itoas_le h) (by simpa using hn)
    unfold listT; simp at this ⊢; omega
theorem listT_bd (h:IntsIn L) (hn:L.length≤100) (k:Nat):(listT (L.take k)).length≤2200:=by
  have h1:((L.take k).map Lib.itoa).length≤100:=by simp; omega
  have:=join_bd (itoas_take h k) oB
  unfold listT; omega
theorem ints_if {c:Prop} [Decidable c] (h:c→IntsIn L):IntsIn (if c then L else []):=by
  split
  · exact h ‹_›
  · intro k y hk; simp at hk
theorem ints_of (h:∀ y∈L,0≤y∧y≤9999):IntsIn L:=fun k y hk=>h y (List.mem_of_getElem? hk)
theorem ints_at (x:Library) (r:Int):IntsIn (if LibOK x∧(1≤r∧r≤999) then selL (atR r) Away.Map x.Away else []):=ints_if fun hc=>ints_of fun y hy=>by
  unfold selL at hy
  obtain ⟨a,ha,rfl⟩:=List.mem_map.1 hy
  obtain ⟨j,hj⟩:=List.mem_iff_getElem?.1 (List.mem_filter.1 ha).1
  have hb:=Classical.not_not.1 (hc.1.2.1.1 j (List.getElem?_eq_some_iff.1 hj).1)
  rw [gt_eq hj] at hb
  obtain ⟨m,hm,hq⟩:=hb.1
  obtain ⟨q,hz⟩:=List.mem_iff_getElem?.1 hm
  have h1:=maps_at hc.1.1.1 (List.getElem?_eq_some_iff.1 hz).1
  rw [gt_eq hz] at h1
  omega
theorem ints_rd (x:Library) (id:Int):IntsIn (if LibOK x∧0≤idxF (hasId id) x.Maps then selL (ofM id) Away.Reader x.Away else []):=ints_if fun hc=>ints_of fun y hy=>by
  unfold selL at hy
  obtain ⟨a,ha,rfl⟩:=List.mem_map.1 hy
  obtain ⟨j,hj⟩:=List.mem_iff_getElem?.1 (List.mem_filter.1 ha).1
  have hb:=Classical.not_not.1 (hc.1.2.1.1 j (List.getElem?_eq_some_iff.1 hj).1)
  rw [gt_eq hj] at hb
  omega
theorem ints_may (x:Library):IntsIn (if LibOK x then selL mayM LMap.Id x.Maps else []):=ints_if fun hc=>ints_of fun y hy=>by
  unfold selL at hy
  obtain ⟨a,ha,rfl⟩:=List.mem_map.1 hy
  obtain ⟨j,hj⟩:=List.mem_iff_getElem?.1 (List.mem_filter.1 ha).1
  have h1:=maps_at hc.1.1 (List.getElem?_eq_some_iff.1 hj).1
  rw [gt_eq hj] at h1
  omega
theorem there_rngN (x:Library):0≤(if LibOK x then sumC x.Maps else 0)∧(if LibOK x then sumC x.Maps else 0)≤9999:=by
  split
  · have:=sumC_rng ‹LibOK x›.1.1 ‹LibOK x›.1.2; omega
  · omega
theorem torn_rng (x:Library):0≤(if LibOK x then sumT x.Maps else 0)∧(if LibOK x then sumT x.Maps else 0)≤9999:=by
  split
  · have:=there_rng true ‹LibOK x›.1.1 ‹LibOK x›.1.2; simp at this; omega
  · omega
theorem list_nil (h:L.length=0):([110,111,110,101]:List UInt8)=listN L:=(if_pos (List.eq_nil_of_length_eq_zero h)).symm
theorem list_all (h:¬L.length=0) (hk:L.length≤k):Lib.join ((L.take k).map Lib.itoa) [32]=listN L:=by
  rw [List.take_of_length_le hk]; exact (if_neg (fun e=>h (by rw [e]; rfl))).symm
theorem listT_all (h:¬L.length=0) (hk:L.length≤k):listT (L.take k)=listN L:=list_all h hk
end
noncomputable def numsW (W:List (List UInt8)):List Int:=W.map fun w=>(readN w).1
noncomputable def nmW (s:List UInt8) (k:Nat):List Int:=numsW (((splitB 32 s).take k).drop 1)
def AllNum (W:List (List UInt8)):Prop:=∀ w∈W,(readN w).2=true
noncomputable instance (W:List (List UInt8)):Decidable (AllNum W):=Classical.propDecidable _
section
variable {s x : List UInt8} {k : Nat}
theorem nums_len (h:1≤k∧k≤(splitB 32 s).length):(nmW s k).length+1=k:=by unfold nmW numsW; simp; omega
theorem take_drop_next {W:List (List UInt8)} (h1:1≤k) (hx:W[k]?=some x):(W.take (k+1)).drop 1=(W.take k).drop 1++[x]:=by
  have hl:=(List.getElem?_eq_some_iff.1 hx).1
  rw [List.take_add_one,hx,Option.toList_some,List.drop_append_of_le_length (by simp; omega)]
theorem nums_next (h1:1≤k) (hx:(splitB 32 s)[k]?=some x):nmW s k++[(readN x).1]=nmW s (k+1):=by
  unfold nmW; rw [take_drop_next h1 hx]; simp [numsW]
theorem nmD_next {D:List (List UInt8)} (hx:D[k]?=some x):numsW (D.take k)++[(readN x).1]=numsW (D.take (k+1)):=by
  rw [List.take_add_one,hx]; simp [numsW]
theorem nmD_len {D:List (List UInt8)} (h:k≤D.length):(numsW (D.take k)).length=k:=by simp [numsW]; omega
theorem allD_next {D:List (List UInt8)} (h:AllNum (D.take k)) (hx:D[k]?=some x) (hy:(!(readN x).2)=false):AllNum (D.take (k+1)):=by
  intro w hw
  rw [List.take_add_one,hx,Option.toList_some,List.mem_append] at hw
  rcases hw with hw | hw
  · exact h w hw
  · rw [List.mem_singleton.1 hw]; simpa using hy
theorem dropB_el {c:UInt8} (h:((splitB c s).drop 1)[k]?=some x):x.length≤s.length:=splitB_el (k:=1+k) (by rw [List.getElem?_drop] at h; exact h)
theorem drop_len (W:List (List UInt8)):(W.drop 1).length+1=W.length∨W.length=0:=by rw [List.length_drop]; omega
theorem allN_zero (W:List (List UInt8)):AllNum ((W.take 1).drop 1):=by
  intro w hw
  cases W <;> simp at hw
theorem allN_next {W:List (List UInt8)} (h1:1≤k) (h:AllNum ((W.take k).drop 1)) (hx:W[k]?=some x) (hy:(readN x).2=true):AllNum ((W.take (k+1)).drop 1):=by
  intro w hw
  rw [take_drop_next h1 hx,List.mem_append] at hw
  rcases hw with hw | hw
  · exact h w hw
  · rw [List.mem_singleton.1 hw]; exact hy
end
end Go.Proofs.YtndcchndcghmoaaGreatDoor
namespace Go.Proofs.YtndcchndcghmoaaGreatDoor
open Go Go.RowKit Fw
section
variable {x o : Library} {S : List LibraryStep} {k n : Nat} {m : Int} {s : LibraryStep}
theorem stepped_okL (h:(impl_Library_stepped x s).2=true):LibOK (impl_Library_stepped x s).1:=by
  unfold impl_Library_stepped at *
  repeat' split at h
  all_goals simp_all
theorem make_okL (h:(spec_l32Make x s).2=true):LibOK (spec_l32Make x s).1:=by
  unfold spec_l32Make at *
  repeat' split at h
  all_goals first | exact (of_decide_eq_true h) | (simp only [*,if_true,if_false]; exact (of_decide_eq_true h)) | (simp only [*,if_true,if_false]; exact (of_decide_eq_true h).2) | simp_all
theorem stepped_nil (h:¬(impl_Library_stepped x s).2=true):(impl_Library_stepped x s).1=noLib:=by
  unfold impl_Library_stepped noLib at *
  repeat' split at h
  all_goals simp_all
theorem stepped_lenL (x:Library) (s:LibraryStep):(impl_Library_stepped x s).1.Maps.length≤8∧(impl_Library_stepped x s).1.Away.length≤8:=by
  by_cases h:(impl_Library_stepped x s).2=true
  · have:=lib_rng (stepped_okL h); exact ⟨this.1,this.2.1⟩
  · rw [stepped_nil h]; simp [noLib]
theorem step_lenS (x:Library) (s:LibraryStep):(spec_StepLibrary x s).1.Maps.length≤8∧(spec_StepLibrary x s).1.Away.length≤8:=by
  unfold spec_StepLibrary; split
  · simp
  · split
    · simp
    · rename_i h
      have:=lib_rng (make_okL (x:=x) (s:=s) (by simpa using h)); exact ⟨this.1,this.2.1⟩
theorem step_lenMS (x:Library) (s:LibraryStep):(spec_StepLibrary x s).1.Maps.length≤8:=(step_lenS x s).1
theorem step_lenAS (x:Library) (s:LibraryStep):(spec_StepLibrary x s).1.Away.length≤8:=(step_lenS x s).2
end
end Go.Proofs.YtndcchndcghmoaaGreatDoor
namespace Go.Proofs.YtndcchndcghmoaaGreatDoor
open Go Go.RowKit Fw
set_option maxRecDepth 10000
set_option maxHeartbeats 2000000
set_option linter.unusedVariables false
variable {Ac1 Ac2 : Option Addr} {nc1 cc1 Bc1 nc2 cc2 Bc2 : Nat}
theorem agg37:TAgg Tryz.prog 37 8:=tG
theorem ent42:Ent Tryz.prog 42:=en Tryz.func42
theorem fa37_0:FA Tryz.prog 37 0 0:=fun _ _=>by kernel_rfl
theorem fa37_1:FA Tryz.prog 37 1 5:=fun _ _=>by kernel_rfl
theorem c_impl_IsValidConsole (w:World) (c:Console) (b:SlR w Bc1 encLMap 3 Ac1 nc1 cc1 c.Library.Maps) (d:SlR w Bc2 encAway 2 Ac2 nc2 cc2 c.Library.Away) (B:(c.Library.Maps.length:Int)≤1048576∧(c.Library.Away.length:Int)≤1048576∧(c.Log.Durable.length:Int)+(c.Log.Pending.length:Int)≤1048576) (hE:EnvW w):Calls Tryz.prog 35 #[.agg (List.toArray (cCn Ac1 nc1 cc1 Ac2 nc2 cc2 c))] w fun e w'=>e=.returned (.bool (decide (ConOK c)))∧Lo w w':=by
 refine cW 11 Tryz.func35 G G G ?_
 have p:=b.bound
 have r:=b.len
 have n:=b.bd
 have q:=d.bound
 have s:=d.len
 have o:=d.bd
 refine Ws (Wr (bx G ?_))
 intro H y A j C m
 have k:=(lr w).lo j
 refine Q (aB G)<|Qn (Ws (WJ (fun f' w'=>At f' [(2,.bool (decide ((LibOK c.Library)∧(LogOK c.Log))))]∧Lo y w') ?_ ?_))
 ·refine Q (fA fa37_0 G)<|Q (r_lda (l:=(cLb Ac1 nc1 cc1 Ac2 nc2 cc2 c.Library)) agg34 G (fun _ _ hu=>m.cells (vs:=(cLb Ac1 nc1 cc1 Ac2 nc2 cc2 c.Library)) G hu) G)<|Qv ent72 (c_impl_IsLibrary y c.Library (b.lo j) (d.lo j) oB) G fun F a t=>(Q (mB G)<|QD (fun h=>?_) (fun h=>?_))
  ·refine Qg (fA fa37_1 G)<|Qg (r_lda (l:=[str c.Log.Durable,str c.Log.Pending,i6 c.Log.Count]) agg35 G (fun _ _ hu=>(m.lo a).cells (vs:=[str c.Log.Durable,str c.Log.Pending,i6 c.Log.Count]) G hu) G)<|SR.gcall G ent69 (c_impl_IsValidLog F c.Log oB (hE.lo (k.lo a))) G ?_
   rintro e D ⟨rfl,f⟩
   refine ⟨_,G,?_⟩
   have u:=f.size
   refine Q (pT G G)<|Q (aB G)<|Qn (⟨_,G,⟨⟨(eDD (jat h)),trivial⟩,(a.trans f)⟩⟩)
  ·refine Qs<|Qs<|Qs<|Q (pF G G)<|Q (aB G)<|Qn (⟨_,G,⟨⟨(eDF (jaf h).2),trivial⟩,a⟩⟩)
 rintro z E ⟨i,g⟩
 rw [← sA i]
 have x:=g.size
 refine We (ret1 G (v:=.bool _) G (⟨eR (eDD (by first | exact Iff.rfl | rfl)),(k.lo g)⟩))
theorem c_spec_l34Good (w:World) (c:Console) (b:SlR w Bc1 encLMap 3 Ac1 nc1 cc1 c.Library.Maps) (d:SlR w Bc2 encAway 2 Ac2 nc2 cc2 c.Library.Away) (A:(c.Library.Maps.length:Int)≤1048576∧(c.Library.Away.length:Int)≤1048576∧(c.Log.Durable.length:Int)+(c.Log.Pending.length:Int)≤1048576):Calls Tryz.prog 42 #[.agg (List.toArray (cCn Ac1 nc1 cc1 Ac2 nc2 cc2 c))] w fun e w'=>e=.returned (.bool (decide (ConOK c)))∧Lo w w':=by
 refine cW 11 Tryz.func42 G G G ?_
 have o:=b.bound
 have q:=b.len
 have m:=b.bd
 have p:=d.bound
 have r:=d.len
 have n:=d.bd
 refine Ws (Wr (bx G ?_))
 intro F x z j B k
 refine Q (aB G)<|Qn (Ws (WJ (fun f' w'=>At f' [(2,.bool (decide ((LibOK c.Library)∧(LogOK c.Log))))]∧Lo x w') ?_ ?_))
 ·refine Q (fA fa37_0 G)<|Q (r_lda (l:=(cLb Ac1 nc1 cc1 Ac2 nc2 cc2 c.Library)) agg34 G (fun _ _ hu=>k.cells (vs:=(cLb Ac1 nc1 cc1 Ac2 nc2 cc2 c.Library)) G hu) G)<|Qv ent80 (c_spec_l32Good x c.Library (b.lo j) (d.lo j)) G fun E a s=>(Q (mB G)<|QD (fun h=>?_) (fun h=>?_))
  ·refine Qg (fA fa37_1 G)<|Qg (r_lda (l:=[str c.Log.Durable,str c.Log.Pending,i6 c.Log.Count]) agg35 G (fun _ _ hu=>(k.lo a).cells (vs:=[str c.Log.Durable,str c.Log.Pending,i6 c.Log.Count]) G hu) G)<|SR.gcall G ent63 (c_spec_l33Log E c.Log oB) G ?_
   rintro e C ⟨rfl,f⟩
   refine ⟨_,G,?_⟩
   have t:=f.size
   refine Q (pT G G)<|Q (aB G)<|Qn (⟨_,G,⟨⟨(eDD (jat h)),trivial⟩,(a.trans f)⟩⟩)
  ·refine Qs<|Qs<|Qs<|Q (pF G G)<|Q (aB G)<|Qn (⟨_,G,⟨⟨(eDF (jaf h).2),trivial⟩,a⟩⟩)
 rintro y D ⟨i,g⟩
 rw [← sA i]
 have u:=g.size
 refine We (ret1 G (v:=.bool _) G (⟨eR (eDD (by first | exact Iff.rfl | rfl)),(((lr w).lo j).lo g)⟩))
end Go.Proofs.YtndcchndcghmoaaGreatDoor
