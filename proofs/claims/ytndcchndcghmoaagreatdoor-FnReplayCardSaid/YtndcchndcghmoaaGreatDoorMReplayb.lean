/- Words and walks of this claim. -/
import Derived.Test.YtndcchndcghmoaaGreatDoorChecked
import Derived.Lib.Overlaps
import Derived.Test.YtndcchndcghmoaaGreatDoorMReplaya
set_option linter.unusedVariables false
namespace Go.Proofs.YtndcchndcghmoaaGreatDoor
open Go Go.RowKit Fw
set_option maxRecDepth 10000
set_option maxHeartbeats 2000000
set_option linter.unusedVariables false
theorem bld71_:Tryz.prog.built 71 []=some (List.toArray [str ([]:List UInt8),str ([]:List UInt8)]):=by kernel_rfl
theorem bld71_0_1 (a0:List UInt8) (a1:List UInt8):Tryz.prog.built 71 [(0,str a0),(1,str a1)]=some (List.toArray [str a0,str a1]):=by kernel_rfl
theorem ent118:Ent Tryz.prog 118:=en Tryz.func118
theorem ent170:Ent Tryz.prog 170:=en Tryz.func170
theorem ent43:Ent Tryz.prog 43:=en Tryz.func43
theorem ent55:Ent Tryz.prog 55:=en Tryz.func55
theorem ent88:Ent Tryz.prog 88:=en Tryz.func88
theorem ent99:Ent Tryz.prog 99:=en Tryz.func99
theorem tel44:TEl Tryz.prog 44 9 (str ([]:List UInt8)) 1 16:=⟨by kernel_rfl,by kernel_rfl,rfl,by decide⟩
theorem tsl44:TSl Tryz.prog 44 9 1:=⟨by kernel_rfl,fun _=>by kernel_rfl⟩
theorem tz71:TZ Tryz.prog 71 (.agg (List.toArray [str ([]:List UInt8),str ([]:List UInt8)])):=fun _=>by kernel_rfl
theorem c_spec_l1Split (w:World) (s:List UInt8) (c:UInt8) (ai:(s.length:Int)≤10000000):Calls Tryz.prog 55 #[str s,.int .u8 (c.toNat:Int)] w fun e w'=>∃ A1' n1' c1',e=.returned (.slice A1' n1' c1')∧SlO w' w.heap.size encS 1 9 A1' n1' c1' (splitB c s)∧Lo w w':=by
 refine cW 35 Tryz.func55 G G G (Ws (Wr (Q (r_as (v:=.slice none 0 0) G)<|Qn (Ws (Wr (Ql (vs:=[]) (L:=([]:List (List UInt8))) (enc:=encS) tel44 (fun _=>G) G G G oG ?_))))))
 intro g1 w2 ah u I
 have aj:=u.size
 refine Q (aL G)<|Qn (Ws (Wr (Q (aI G)<|Qn (Ws (Ws (Wr (Q (aI G)<|Qn (Wl (WL (σ:=(List (List UInt8)) × Nat × Nat × (Option Addr) × Nat × Nat) (fun g=>[(0,str s),(1,.int .u8 (c.toNat:Int)),(4,.slice none 0 0),(5,.slice g.2.2.2.1 g.2.2.2.2.1 g.2.2.2.2.2),(6,i6 (g.2.1:Int)),(7,i6 (g.2.2.1:Int))]) (fun g w'=>(Lo w w')∧(SlO w' w.heap.size encS 1 9 g.2.2.2.1 g.2.2.2.2.1 g.2.2.2.2.2 g.1)∧(SpTo c s g.1 g.2.1 g.2.2.1∧g.1.length≤g.2.2.1)) (fun g=>s.length-g.2.2.1) (([]:List (List UInt8)),0,0,(pA g1),0,0) ?_ ?_ ?_)))))))))
 ·refine ⟨G,G,G,G,(eI ?_),(eI ?_),trivial⟩ <;> (first | omega | (dsimp only; omega))
 ·exact ⟨((lr w).lo u),I,(by (try dsimp only); exact ⟨SpTo.zero,Nat.le_refl _⟩)⟩
 ·rintro ⟨O,f,i,B,x,E⟩ f9 y t
  obtain ⟨b,a,k⟩:(Lo w y)∧(SlO y w.heap.size encS 1 9 B x E O)∧(SpTo c s O f i∧O.length≤i):=t
  refine (?_:W _ _ _ _ _ (act _ (sets f9 [(0,str s),(1,.int .u8 (c.toNat:Int)),(4,.slice none 0 0),(5,.slice B x E),(6,i6 (f:Int)),(7,i6 (i:Int))])) _)
  have J:=b.size
  have R:=a.len
  have S:=a.rd.bound
  have T:f≤i∧i≤s.length:=k.1.rng
  have U:O.length≤i:=k.2
  refine Ws (Ws (Wr (Q (mI G)<|Q (mS G)<|Q (r_len_s und9 G)<|Q (r_lt G G)<|Qn (Wd G (fun F=>?_) (fun F=>?_)))))
  ·refine Wk (Ws (Wl (Ws (Wr (Q (mS G)<|Q (mI G)<|?_)))))
   have V:=u8_le (gt s i)
   refine Q (r_idxS (i:=i) und9 G G G oA)<|Q (r_mv (v:=.int .u8 _) G)<|Q (r_eq G G)<|Qn (Wd G (fun H=>?_) (fun H=>?_))
   ·refine Ws (Wr (Q (mL G)<|Q (mS G)<|Q (mI G)<|Q (mI G)<|Q (r_cutS (l:=f) (h:=i) und9 G G G G G oB oA)<|Ql (vs:=[str ((s.drop f).take (i-f))]) (L:=([(s.drop f).take (i-f)]:List (List UInt8))) (enc:=encS) tel44 (fun _=>G) G G G oG ?_))
    intro ae ak N d o
    have X:=d.size
    refine Qp tel44 G G (a.lo d) (o.rd) (fun _=>G) oB oB ?_
    intro z C al m p K
    have Y:=m.size
    refine Q (aL G)<|Qn (Wr (Q (mI G)<|Q (r_add G G oB)<|Q (aI G)<|Qn (Wr (Q (mI G)<|Q (r_add G G oB)<|Q (aI G)<|Qn (⟨(O++([(s.drop f).take (i-f)]:List (List UInt8)),(i+1),i+1,z,x+1,C),_,G,⟨G,G,G,G,(eI oF),(eI oF),trivial⟩,⟨((b.lo d).step m (fun i_ hi_ e'=>by have:=(a.lo d).base_le e'; first | omega | exact e' | exact .inl e' | exact .inr e')),p,?_⟩,?_⟩)))))
    ·exact (by (try dsimp only); have hh:=‹SpTo _ _ _ _ _∧_›; first | exact ⟨hh.1.hit oB (u8_eq.1 ‹_›),by simp only [List.length_append,List.length_cons,List.length_nil]; omega⟩ | exact ⟨hh.1.miss oB (fun e=>‹¬_› (u8_eq.2 e)),oB⟩)
    ·exact oH
   ·refine Wk (Wr (Q (mI G)<|Q (r_add G G oB)<|Q (aI G)<|Qn (⟨(O,f,i+1,B,x,E),_,G,⟨G,G,G,G,G,(eI oF),trivial⟩,⟨b,a,?_⟩,?_⟩)))
    ·exact (by (try dsimp only); have hh:=‹SpTo _ _ _ _ _∧_›; first | exact ⟨hh.1.hit oB (u8_eq.1 ‹_›),by simp only [List.length_append,List.length_cons,List.length_nil]; omega⟩ | exact ⟨hh.1.miss oB (fun e=>‹¬_› (u8_eq.2 e)),oB⟩)
    ·exact oH
  ·refine Wx (xh (Ws (Wr (Q (mL G)<|Q (mS G)<|Q (mI G)<|Q (r_cutlS (l:=f) und9 G G G oA)<|Ql (vs:=[str (s.drop f)]) (L:=([s.drop f]:List (List UInt8))) (enc:=encS) tel44 (fun _=>G) G G G oG ?_))))
   intro ag am P j q
   have Z:=j.size
   refine Qp tel44 G G (a.lo j) (q.rd) (fun _=>G) oB oB ?_
   intro A D an n r M
   have aa:=n.size
   refine Q (aL G)<|Qn (We (ret1 G (v:=.slice _ _ _) G (⟨A,x+1,D,eR G,(oq (r.down) (by exact SpTo.all (And.left ‹SpTo _ _ _ _ _∧_›) oB)),((b.lo j).step n (fun i_ hi_ e'=>by have:=(a.lo j).base_le e'; first | omega | exact e' | exact .inl e' | exact .inr e'))⟩)))
open Classical in
noncomputable def impl_decode (k:Int) (s:List UInt8):LogRecord × Bool :=
 if ((encN k (⟨(Lib.cut (Lib.trimPrefix ((Lib.cut s ([35]:List UInt8)).1) ((Lib.itoa k)++([32]:List UInt8))) ([64]:List UInt8)).1,(Lib.cut (Lib.trimPrefix ((Lib.cut s ([35]:List UInt8)).1) ((Lib.itoa k)++([32]:List UInt8))) ([64]:List UInt8)).2.1⟩:LogRecord)).2)=true then ((⟨(Lib.cut (Lib.trimPrefix ((Lib.cut s ([35]:List UInt8)).1) ((Lib.itoa k)++([32]:List UInt8))) ([64]:List UInt8)).1,(Lib.cut (Lib.trimPrefix ((Lib.cut s ([35]:List UInt8)).1) ((Lib.itoa k)++([32]:List UInt8))) ([64]:List UInt8)).2.1⟩:LogRecord),decide (((encN k (⟨(Lib.cut (Lib.trimPrefix ((Lib.cut s ([35]:List UInt8)).1) ((Lib.itoa k)++([32]:List UInt8))) ([64]:List UInt8)).1,(Lib.cut (Lib.trimPrefix ((Lib.cut s ([35]:List UInt8)).1) ((Lib.itoa k)++([32]:List UInt8))) ([64]:List UInt8)).2.1⟩:LogRecord)).1)=(s++([10]:List UInt8)))) else ((⟨(Lib.cut (Lib.trimPrefix ((Lib.cut s ([35]:List UInt8)).1) ((Lib.itoa k)++([32]:List UInt8))) ([64]:List UInt8)).1,(Lib.cut (Lib.trimPrefix ((Lib.cut s ([35]:List UInt8)).1) ((Lib.itoa k)++([32]:List UInt8))) ([64]:List UInt8)).2.1⟩:LogRecord),false)
theorem c_impl_decode (w:World) (k:Int) (s:List UInt8) (ab:0≤k∧k≤59) (ac:(s.length:Int)≤5000000) (hE:EnvW w):Calls Tryz.prog 119 #[i6 k,str s] w fun e w'=>e=.returned (.tuple (List.toArray [.agg (List.toArray [str (((impl_decode k s).1).Command),str (((impl_decode k s).1).Reply)]),.bool ((impl_decode k s).2)]))∧Lo w w':=by
 refine cW 48 Tryz.func119 G G G (Ws (Wr (Qa (l:=[str ([]:List UInt8),str ([]:List UInt8)]) tz71 G ?_)))
 intro g1 w2 aa E ae D
 have x:=(lr w).lo E
 refine Q (aB G)<|Qn (Ws (Wr (Q (mS G)<|Qv ent118 (c_strings_Cut w2 s ([35]:List UInt8) oB (hE.lo x)) G fun w9 h U=>?_)))
 have b:=x.lo h
 have K:(Lib.cut s ([35]:List UInt8)).1.length≤s.length∧(Lib.cut s ([35]:List UInt8)).2.1.length≤s.length:=cut_len s ([35]:List UInt8)
 refine Q (mT G)<|Q (xS G G)<|Q (xS G G)<|Q (xB G G)<|Q (aS G)<|Q (aS G)<|Q (aB G)<|Qn (Ws (Wr (Q (mS G)<|Q (mI G)<|Qv ent74 (c_impl_text w9 k oB (hE.lo b)) G fun F i V=>?_)))
 have L:(Lib.itoa k).length≤21:=itoa_len (n:=k) oB oB
 refine Q (r_cat G G oA)<|Qv ent170 (c_strings_TrimPrefix F ((Lib.cut s ([35]:List UInt8)).1) ((Lib.itoa k)++([32]:List UInt8))) G fun H j W=>?_
 have c:=(b.lo i).lo j
 have M:(Lib.trimPrefix ((Lib.cut s ([35]:List UInt8)).1) ((Lib.itoa k)++([32]:List UInt8))).length≤((Lib.cut s ([35]:List UInt8)).1).length:=trim_len ((Lib.cut s ([35]:List UInt8)).1) ((Lib.itoa k)++([32]:List UInt8))
 refine Qv ent118 (c_strings_Cut H (Lib.trimPrefix ((Lib.cut s ([35]:List UInt8)).1) ((Lib.itoa k)++([32]:List UInt8))) ([64]:List UInt8) oB (hE.lo c)) G fun ah m X=>?_
 have N:(Lib.cut (Lib.trimPrefix ((Lib.cut s ([35]:List UInt8)).1) ((Lib.itoa k)++([32]:List UInt8))) ([64]:List UInt8)).1.length≤(Lib.trimPrefix ((Lib.cut s ([35]:List UInt8)).1) ((Lib.itoa k)++([32]:List UInt8))).length∧(Lib.cut (Lib.trimPrefix ((Lib.cut s ([35]:List UInt8)).1) ((Lib.itoa k)++([32]:List UInt8))) ([64]:List UInt8)).2.1.length≤(Lib.trimPrefix ((Lib.cut s ([35]:List UInt8)).1) ((Lib.itoa k)++([32]:List UInt8))).length:=cut_len (Lib.trimPrefix ((Lib.cut s ([35]:List UInt8)).1) ((Lib.itoa k)++([32]:List UInt8))) ([64]:List UInt8)
 refine Q (mT G)<|Q (xS G G)<|Q (xS G G)<|Q (xB G G)<|Q (aS G)<|Q (aS G)<|Q (aB G)<|Qn (Ws (Wr (Q (mS G)<|Q (mS G)<|Q (r_build (vs:=[(0,str ((Lib.cut (Lib.trimPrefix ((Lib.cut s ([35]:List UInt8)).1) ((Lib.itoa k)++([32]:List UInt8))) ([64]:List UInt8)).1)),(1,str ((Lib.cut (Lib.trimPrefix ((Lib.cut s ([35]:List UInt8)).1) ((Lib.itoa k)++([32]:List UInt8))) ([64]:List UInt8)).2.1))]) G (bld71_0_1 _ _))<|Qa (l:=[str ([]:List UInt8),str ([]:List UInt8)]) tz71 G ?_)))
 intro Z ai J p P y
 refine Qw (o:=0) (vs:=[str ((Lib.cut (Lib.trimPrefix ((Lib.cut s ([35]:List UInt8)).1) ((Lib.itoa k)++([32]:List UInt8))) ([64]:List UInt8)).1),str ((Lib.cut (Lib.trimPrefix ((Lib.cut s ([35]:List UInt8)).1) ((Lib.itoa k)++([32]:List UInt8))) ([64]:List UInt8)).2.1)]) agg71.2 G G G G y ler G ?_
 intro I q R g
 have d:=((c.lo m).lo p).new q
 refine Qn (Ws ?_)
 have t:=(((((D.lo h).lo i).lo j).lo m).lo p).kn q
 refine Wr (Q (mI G)<|Q (lG agg71 G g G)<|Qv ent99 (c_impl_EncodeRecord I k (⟨(Lib.cut (Lib.trimPrefix ((Lib.cut s ([35]:List UInt8)).1) ((Lib.itoa k)++([32]:List UInt8))) ([64]:List UInt8)).1,(Lib.cut (Lib.trimPrefix ((Lib.cut s ([35]:List UInt8)).1) ((Lib.itoa k)++([32]:List UInt8))) ([64]:List UInt8)).2.1⟩:LogRecord) (hE.lo d)) G fun aj a Y=>?_)
 have f:=d.lo a
 have O:(encN k (⟨(Lib.cut (Lib.trimPrefix ((Lib.cut s ([35]:List UInt8)).1) ((Lib.itoa k)++([32]:List UInt8))) ([64]:List UInt8)).1,(Lib.cut (Lib.trimPrefix ((Lib.cut s ([35]:List UInt8)).1) ((Lib.itoa k)++([32]:List UInt8))) ([64]:List UInt8)).2.1⟩:LogRecord)).1.length≤406:=enc_len k (⟨(Lib.cut (Lib.trimPrefix ((Lib.cut s ([35]:List UInt8)).1) ((Lib.itoa k)++([32]:List UInt8))) ([64]:List UInt8)).1,(Lib.cut (Lib.trimPrefix ((Lib.cut s ([35]:List UInt8)).1) ((Lib.itoa k)++([32]:List UInt8))) ([64]:List UInt8)).2.1⟩:LogRecord)
 refine Q (mT G)<|Q (xS G G)<|Q (xB G G)<|Q (aS G)<|Q (aB G)<|Qn (Ws (Wr (Q (lG agg71 G (g.lo a) G)<|Q (mB G)<|Q (mB G)<|SR.split (fun u=>?_) (fun u=>?_))))
 ·refine Qg (mS G)<|Qg (mS G)<|Qg (r_cat G G oA)<|Qg (r_eqs (s:=(encN k (⟨(Lib.cut (Lib.trimPrefix ((Lib.cut s ([35]:List UInt8)).1) ((Lib.itoa k)++([32]:List UInt8))) ([64]:List UInt8)).1,(Lib.cut (Lib.trimPrefix ((Lib.cut s ([35]:List UInt8)).1) ((Lib.itoa k)++([32]:List UInt8))) ([64]:List UInt8)).2.1⟩:LogRecord)).1) (r:=s++([10]:List UInt8)) G G)<|Q (pT G G)<|Qw (o:=0) (vs:=[str ((Lib.cut (Lib.trimPrefix ((Lib.cut s ([35]:List UInt8)).1) ((Lib.itoa k)++([32]:List UInt8))) ([64]:List UInt8)).1),str ((Lib.cut (Lib.trimPrefix ((Lib.cut s ([35]:List UInt8)).1) ((Lib.itoa k)++([32]:List UInt8))) ([64]:List UInt8)).2.1)]) agg71.2 G G G G (t.lo a) ler G ?_
  intro ak B S z
  refine Q (aB G)<|Qn (We (retCT G G agg71 z G (v:=.bool _) G ?_))
  refine ⟨eR (eT2 (eA (eC (eS ?_) (eC (eS ?_) G))) (eB ?_)),(f.new B)⟩ <;> (unfold impl_decode; rw [if_pos u] <;> rfl)
 ·refine Qs<|Qs<|Qs<|Qs<|Q (pF G G)<|Qw (o:=0) (vs:=[str ((Lib.cut (Lib.trimPrefix ((Lib.cut s ([35]:List UInt8)).1) ((Lib.itoa k)++([32]:List UInt8))) ([64]:List UInt8)).1),str ((Lib.cut (Lib.trimPrefix ((Lib.cut s ([35]:List UInt8)).1) ((Lib.itoa k)++([32]:List UInt8))) ([64]:List UInt8)).2.1)]) agg71.2 G G G G (t.lo a) ler G ?_
  intro al C T A
  refine Q (aB G)<|Qn (We (retCT G G agg71 A G (v:=.bool _) G ?_))
  refine ⟨eR (eT2 (eA (eC (eS ?_) (eC (eS ?_) G))) (eB ?_)),(f.new C)⟩ <;> (unfold impl_decode; rw [if_neg (ne_true_of_eq_false u)] <;> rfl)
open Classical in
noncomputable def spec_l33Read (s:List UInt8) (k:Int):LogRecord × Bool :=
 if (((gt (splitB (35:UInt8) s) 0).length:Int)<(((Lib.itoa k)++([32]:List UInt8)).length:Int))∨(¬(((gt (splitB (35:UInt8) s) 0).take ((((Lib.itoa k)++([32]:List UInt8)).length:Int).toNat))=((Lib.itoa k)++([32]:List UInt8)))) then ((⟨([]:List UInt8),([]:List UInt8)⟩:LogRecord),false) else if ((gt (splitB (64:UInt8) ((gt (splitB (35:UInt8) s) 0).drop ((((Lib.itoa k)++([32]:List UInt8)).length:Int).toNat))) 0).length:Int)=(((gt (splitB (35:UInt8) s) 0).drop ((((Lib.itoa k)++([32]:List UInt8)).length:Int).toNat)).length:Int) then ((⟨([]:List UInt8),([]:List UInt8)⟩:LogRecord),false) else ((⟨(gt (splitB (64:UInt8) ((gt (splitB (35:UInt8) s) 0).drop ((((Lib.itoa k)++([32]:List UInt8)).length:Int).toNat))) 0),((gt (splitB (35:UInt8) s) 0).drop ((((Lib.itoa k)++([32]:List UInt8)).length:Int).toNat)).drop ((((gt (splitB (64:UInt8) ((gt (splitB (35:UInt8) s) 0).drop ((((Lib.itoa k)++([32]:List UInt8)).length:Int).toNat))) 0).length:Int)+1).toNat)⟩:LogRecord),decide ((RecOK (⟨(gt (splitB (64:UInt8) ((gt (splitB (35:UInt8) s) 0).drop ((((Lib.itoa k)++([32]:List UInt8)).length:Int).toNat))) 0),((gt (splitB (35:UInt8) s) 0).drop ((((Lib.itoa k)++([32]:List UInt8)).length:Int).toNat)).drop ((((gt (splitB (64:UInt8) ((gt (splitB (35:UInt8) s) 0).drop ((((Lib.itoa k)++([32]:List UInt8)).length:Int).toNat))) 0).length:Int)+1).toNat)⟩:LogRecord))∧((lineB k (⟨(gt (splitB (64:UInt8) ((gt (splitB (35:UInt8) s) 0).drop ((((Lib.itoa k)++([32]:List UInt8)).length:Int).toNat))) 0),((gt (splitB (35:UInt8) s) 0).drop ((((Lib.itoa k)++([32]:List UInt8)).length:Int).toNat)).drop ((((gt (splitB (64:UInt8) ((gt (splitB (35:UInt8) s) 0).drop ((((Lib.itoa k)++([32]:List UInt8)).length:Int).toNat))) 0).length:Int)+1).toNat)⟩:LogRecord))=(s++([10]:List UInt8)))))
theorem c_spec_l33Read (w:World) (s:List UInt8) (k:Int) (bh:(s.length:Int)≤5000000) (bi:0≤k∧k≤59):Calls Tryz.prog 163 #[str s,i6 k] w fun e w'=>e=.returned (.tuple (List.toArray [.agg (List.toArray [str (((spec_l33Read s k).1).Command),str (((spec_l33Read s k).1).Reply)]),.bool ((spec_l33Read s k).2)]))∧Lo w w':=by
 refine cW 64 Tryz.func163 G G G (Ws (Wr (Qa (l:=[str ([]:List UInt8),str ([]:List UInt8)]) tz71 G ?_)))
 intro X w2 bg ai bj ah
 refine Q (aB G)<|Qn (Ws (Wr (Q (mI G)<|Qv ent75 (c_spec_l1Num w2 k oB) G fun w9 E aU=>?_)))
 have aC:(Lib.itoa k).length≤21:=itoa_len (n:=k) oB oB
 refine Q (r_cat G G oA)<|Q (aS G)<|Qn (Ws (Wr (Q (mS G)<|Qc ent55 (c_spec_l1Split w9 s (35:UInt8) oD) G ?_)))
 rintro e aq ⟨a8,bl,bb,rfl,d,z⟩
 refine ⟨_,G,?_⟩
 have aV:=z.size
 have ax:=d.len
 have ay:=d.rd.bound
 have aD:=splitB_len (35:UInt8) s
 have L:=(d.rd).elem (i:=0) oB
 have aE:=splitB_gt (35:UInt8) s
 have aF:=splitB_el L
 refine Q (rX tsl44 (d.rd) G G oB)<|Q (r_ld (v:=str (gt (splitB (35:UInt8) s) 0)) sca9 G ((d.rd).cell0 L G))<|Q (aS G)<|Qn (Ws (Ws ?_))
 have I:=(ah.lo E).lo z
 refine WJ (fun f' w'=>At f' [(0,str s),(1,i6 k),(4,pt X),(5,.bool false),(6,str ((Lib.itoa k)++([32]:List UInt8))),(7,str (gt (splitB (35:UInt8) s) 0)),(30,.bool (decide ((((gt (splitB (35:UInt8) s) 0).length:Int)<(((Lib.itoa k)++([32]:List UInt8)).length:Int))∨(¬(((gt (splitB (35:UInt8) s) 0).take ((((Lib.itoa k)++([32]:List UInt8)).length:Int).toNat))=((Lib.itoa k)++([32]:List UInt8)))))))]∧Lo aq w') ?_ ?_
 ·refine Q (mS G)<|Q (r_len_s und9 G)<|Q (mS G)<|Q (r_len_s und9 G)<|Q (r_lt G G)<|Q (mB G)<|QD (fun N=>?_) (fun N=>?_)
  ·refine Qs<|Qs<|Qs<|Qs<|Qs<|Qs<|Q (pT G G)<|Qn (⟨_,G,⟨⟨G,G,G,G,G,G,(eDT ((jot N).1 trivial)),trivial⟩,(lr _)⟩⟩)
  ·refine Qg (mS G)<|Qg (mS G)<|Qg (r_len_s und9 G)<|Qg (r_cuthS (h:=(((Lib.itoa k)++([32]:List UInt8)).length:Int).toNat) und9 G G oB oA)<|Qg (mS G)<|Qg (r_nes (s:=(gt (splitB (35:UInt8) s) 0).take ((((Lib.itoa k)++([32]:List UInt8)).length:Int).toNat)) (r:=(Lib.itoa k)++([32]:List UInt8)) G G)<|Q (pF G G)<|Qn (⟨_,G,⟨⟨G,G,G,G,G,G,(eND (jof N)),trivial⟩,(lr _)⟩⟩)
 rintro be ar ⟨P,q⟩
 rw [← sA P]
 have aW:=q.size
 have C:=((((lr w).lo ai).lo E).lo z).lo q
 refine Wd G (fun t=>?_) (fun t=>?_)
 ·refine Ws (Wr (Q (r_build (vs:=[]) G bld71_)<|Qw (o:=0) (vs:=[str ([]:List UInt8),str ([]:List UInt8)]) agg71.2 G G G G (I.lo q) ler G ?_))
  intro bo ab aO Y
  refine Q (aB G)<|Qn (We (retCT G G agg71 Y G (v:=.bool _) G ?_))
  refine ⟨eR (eT2 (eA (eC (eS ?_) (eC (eS ?_) G))) (eB ?_)),(C.new ab)⟩ <;> (unfold spec_l33Read; rw [if_pos t] <;> rfl)
 ·have aG:¬(((gt (splitB (35:UInt8) s) 0).length:Int)<(((Lib.itoa k)++([32]:List UInt8)).length:Int)):=(not_or.1 t).1
  have aH:((gt (splitB (35:UInt8) s) 0).take ((((Lib.itoa k)++([32]:List UInt8)).length:Int).toNat))=((Lib.itoa k)++([32]:List UInt8)):=(Classical.not_not.1 (not_or.1 t).2)
  refine Wk (Ws (Wr (Q (mS G)<|Q (mS G)<|Q (r_len_s und9 G)<|Q (r_cutlS (l:=(((Lib.itoa k)++([32]:List UInt8)).length:Int).toNat) und9 G G oB oA)<|Q (aS G)<|Qn (Ws (Wr (Q (mS G)<|Qc ent55 (c_spec_l1Split ar ((gt (splitB (35:UInt8) s) 0).drop ((((Lib.itoa k)++([32]:List UInt8)).length:Int).toNat)) (64:UInt8) oD) G ?_))))))
  rintro e bp ⟨ba,bm,bc,rfl,f,A⟩
  refine ⟨_,G,?_⟩
  have aX:=A.size
  have D:=C.lo A
  have az:=f.len
  have aA:=f.rd.bound
  have aJ:=splitB_len (64:UInt8) ((gt (splitB (35:UInt8) s) 0).drop ((((Lib.itoa k)++([32]:List UInt8)).length:Int).toNat))
  have M:=(f.rd).elem (i:=0) oB
  have aK:=splitB_gt (64:UInt8) ((gt (splitB (35:UInt8) s) 0).drop ((((Lib.itoa k)++([32]:List UInt8)).length:Int).toNat))
  have aM:((gt (splitB (35:UInt8) s) 0).drop ((((Lib.itoa k)++([32]:List UInt8)).length:Int).toNat)).length≤(gt (splitB (35:UInt8) s) 0).length:=by rw [List.length_drop]; omega
  have aN:=splitB_el M
  refine Q (rX tsl44 (f.rd) G G oB)<|Q (r_ld (v:=str (gt (splitB (64:UInt8) ((gt (splitB (35:UInt8) s) 0).drop ((((Lib.itoa k)++([32]:List UInt8)).length:Int).toNat))) 0)) sca9 G ((f.rd).cell0 M G))<|Q (aS G)<|Qn (Ws (Ws ?_))
  have J:=(I.lo q).lo A
  refine Wr (Q (mS G)<|Q (r_len_s und9 G)<|Q (mS G)<|Q (r_len_s und9 G)<|Q (r_eq G G)<|Qn (Wd G (fun O=>?_) (fun O=>?_)))
  ·refine Ws (Wr (Q (r_build (vs:=[]) G bld71_)<|Qw (o:=0) (vs:=[str ([]:List UInt8),str ([]:List UInt8)]) agg71.2 G G G G J ler G ?_))
   intro bq ac aQ Z
   refine Q (aB G)<|Qn (We (retCT G G agg71 Z G (v:=.bool _) G ?_))
   refine ⟨eR (eT2 (eA (eC (eS ?_) (eC (eS ?_) G))) (eB ?_)),(D.new ac)⟩ <;> (unfold spec_l33Read; rw [if_neg t,if_pos O] <;> rfl)
  ·refine Wk (Ws (Wr (Q (mS G)<|Q (mS G)<|Q (mS G)<|Q (r_len_s und9 G)<|Q (r_add G G oB)<|Q (r_cutlS (l:=(((gt (splitB (64:UInt8) ((gt (splitB (35:UInt8) s) 0).drop ((((Lib.itoa k)++([32]:List UInt8)).length:Int).toNat))) 0).length:Int)+1).toNat) und9 G G oB oA)<|Q (r_build (vs:=[(0,str (gt (splitB (64:UInt8) ((gt (splitB (35:UInt8) s) 0).drop ((((Lib.itoa k)++([32]:List UInt8)).length:Int).toNat))) 0)),(1,str (((gt (splitB (35:UInt8) s) 0).drop ((((Lib.itoa k)++([32]:List UInt8)).length:Int).toNat)).drop ((((gt (splitB (64:UInt8) ((gt (splitB (35:UInt8) s) 0).drop ((((Lib.itoa k)++([32]:List UInt8)).length:Int).toNat))) 0).length:Int)+1).toNat)))]) G (bld71_0_1 _ _))<|Qa (l:=[str ([]:List UInt8),str ([]:List UInt8)]) tz71 G ?_)))
   intro bf bs aw F aR aa
   refine Qw (o:=0) (vs:=[str (gt (splitB (64:UInt8) ((gt (splitB (35:UInt8) s) 0).drop ((((Lib.itoa k)++([32]:List UInt8)).length:Int).toNat))) 0),str (((gt (splitB (35:UInt8) s) 0).drop ((((Lib.itoa k)++([32]:List UInt8)).length:Int).toNat)).drop ((((gt (splitB (64:UInt8) ((gt (splitB (35:UInt8) s) 0).drop ((((Lib.itoa k)++([32]:List UInt8)).length:Int).toNat))) 0).length:Int)+1).toNat))]) agg71.2 G G G G aa ler G ?_
   intro W H aT y
   refine Qn (Ws ?_)
   have K:=(J.lo F).kn H
   refine WA (Kp (fun b_=>b_=X) W) (fun f' w'=>At f' [(4,pt X),(5,.bool (decide ((RecOK (⟨(gt (splitB (64:UInt8) ((gt (splitB (35:UInt8) s) 0).drop ((((Lib.itoa k)++([32]:List UInt8)).length:Int).toNat))) 0),((gt (splitB (35:UInt8) s) 0).drop ((((Lib.itoa k)++([32]:List UInt8)).length:Int).toNat)).drop ((((gt (splitB (64:UInt8) ((gt (splitB (35:UInt8) s) 0).drop ((((Lib.itoa k)++([32]:List UInt8)).length:Int).toNat))) 0).length:Int)+1).toNat)⟩:LogRecord))∧((lineB k (⟨(gt (splitB (64:UInt8) ((gt (splitB (35:UInt8) s) 0).drop ((((Lib.itoa k)++([32]:List UInt8)).length:Int).toNat))) 0),((gt (splitB (35:UInt8) s) 0).drop ((((Lib.itoa k)++([32]:List UInt8)).length:Int).toNat)).drop ((((gt (splitB (64:UInt8) ((gt (splitB (35:UInt8) s) 0).drop ((((Lib.itoa k)++([32]:List UInt8)).length:Int).toNat))) 0).length:Int)+1).toNat)⟩:LogRecord))=(s++([10]:List UInt8))))))]∧(Kp (fun b_=>b_=X) W w')∧(Blk w' X 71 [str (gt (splitB (64:UInt8) ((gt (splitB (35:UInt8) s) 0).drop ((((Lib.itoa k)++([32]:List UInt8)).length:Int).toNat))) 0),str (((gt (splitB (35:UInt8) s) 0).drop ((((Lib.itoa k)++([32]:List UInt8)).length:Int).toNat)).drop ((((gt (splitB (64:UInt8) ((gt (splitB (35:UInt8) s) 0).drop ((((Lib.itoa k)++([32]:List UInt8)).length:Int).toNat))) 0).length:Int)+1).toNat))])) mo ?_ ?_
   ·intro ae b
    have am:=b.size
    refine Ak 0 G (kr b) (fun w' hw'=>r_lda (l:=[str (gt (splitB (64:UInt8) ((gt (splitB (35:UInt8) s) 0).drop ((((Lib.itoa k)++([32]:List UInt8)).length:Int).toNat))) 0),str (((gt (splitB (35:UInt8) s) 0).drop ((((Lib.itoa k)++([32]:List UInt8)).length:Int).toNat)).drop ((((gt (splitB (64:UInt8) ((gt (splitB (35:UInt8) s) 0).drop ((((Lib.itoa k)++([32]:List UInt8)).length:Int).toNat))) 0).length:Int)+1).toNat))]) agg71 G (fun _ _ hu=>(y.kn hw' oB).cell hu) G)<|Ak 1 G (kr b) (fun w' hw'=>r_lda (l:=[str (gt (splitB (64:UInt8) ((gt (splitB (35:UInt8) s) 0).drop ((((Lib.itoa k)++([32]:List UInt8)).length:Int).toNat))) 0),str (((gt (splitB (35:UInt8) s) 0).drop ((((Lib.itoa k)++([32]:List UInt8)).length:Int).toNat)).drop ((((gt (splitB (64:UInt8) ((gt (splitB (35:UInt8) s) 0).drop ((((Lib.itoa k)++([32]:List UInt8)).length:Int).toNat))) 0).length:Int)+1).toNat))]) agg71 G (fun _ _ hu=>(y.kn hw' oB).cell hu) G)<|Ab 2 G (Qv ent43 (c_spec_l33Good ae (⟨(gt (splitB (64:UInt8) ((gt (splitB (35:UInt8) s) 0).drop ((((Lib.itoa k)++([32]:List UInt8)).length:Int).toNat))) 0),((gt (splitB (35:UInt8) s) 0).drop ((((Lib.itoa k)++([32]:List UInt8)).length:Int).toNat)).drop ((((gt (splitB (64:UInt8) ((gt (splitB (35:UInt8) s) 0).drop ((((Lib.itoa k)++([32]:List UInt8)).length:Int).toNat))) 0).length:Int)+1).toNat)⟩:LogRecord) oO) G fun ag m an=>?_)
    have a:=((kr b:Kp (fun b_=>b_=X) W _)).lo m
    refine Qn ⟨a,_,G,(Ak 3 G a (fun w' hw'=>mB G)<|AH.splitD (fun u=>?_) (fun u=>?_))⟩
    ·refine AH.take 4 G oC G a (fun w' hw'=>mI G)<|AH.take 5 G oC G a (fun w' hw'=>r_lda (l:=[str (gt (splitB (64:UInt8) ((gt (splitB (35:UInt8) s) 0).drop ((((Lib.itoa k)++([32]:List UInt8)).length:Int).toNat))) 0),str (((gt (splitB (35:UInt8) s) 0).drop ((((Lib.itoa k)++([32]:List UInt8)).length:Int).toNat)).drop ((((gt (splitB (64:UInt8) ((gt (splitB (35:UInt8) s) 0).drop ((((Lib.itoa k)++([32]:List UInt8)).length:Int).toNat))) 0).length:Int)+1).toNat))]) agg71 G (fun _ _ hu=>(y.kn hw' oB).cell hu) G)<|AH.take 7 G oC G a (fun w' hw'=>mS G)<|AH.take 8 G oC G a (fun w' hw'=>r_cat G G oA)<|Ar [6] oC G ⟨Bm G G (SR.gcall G ent88 (c_spec_l33Line ag k (⟨(gt (splitB (64:UInt8) ((gt (splitB (35:UInt8) s) 0).drop ((((Lib.itoa k)++([32]:List UInt8)).length:Int).toNat))) 0),((gt (splitB (35:UInt8) s) 0).drop ((((Lib.itoa k)++([32]:List UInt8)).length:Int).toNat)).drop ((((gt (splitB (64:UInt8) ((gt (splitB (35:UInt8) s) 0).drop ((((Lib.itoa k)++([32]:List UInt8)).length:Int).toNat))) 0).length:Int)+1).toNat)⟩:LogRecord) oB (by first | omega | (dsimp only; omega) | (dsimp only; simp only [List.length_drop]; omega))) G ?_),trivial⟩
     rintro e aY ⟨rfl,p⟩
     refine ⟨_,G,?_⟩
     have ao:=p.size
     have c:=a.lo p
     have aj:(lineB k (⟨(gt (splitB (64:UInt8) ((gt (splitB (35:UInt8) s) 0).drop ((((Lib.itoa k)++([32]:List UInt8)).length:Int).toNat))) 0),((gt (splitB (35:UInt8) s) 0).drop ((((Lib.itoa k)++([32]:List UInt8)).length:Int).toNat)).drop ((((gt (splitB (64:UInt8) ((gt (splitB (35:UInt8) s) 0).drop ((((Lib.itoa k)++([32]:List UInt8)).length:Int).toNat))) 0).length:Int)+1).toNat)⟩:LogRecord)).length≤(⟨(gt (splitB (64:UInt8) ((gt (splitB (35:UInt8) s) 0).drop ((((Lib.itoa k)++([32]:List UInt8)).length:Int).toNat))) 0),((gt (splitB (35:UInt8) s) 0).drop ((((Lib.itoa k)++([32]:List UInt8)).length:Int).toNat)).drop ((((gt (splitB (64:UInt8) ((gt (splitB (35:UInt8) s) 0).drop ((((Lib.itoa k)++([32]:List UInt8)).length:Int).toNat))) 0).length:Int)+1).toNat)⟩:LogRecord).Command.length+(⟨(gt (splitB (64:UInt8) ((gt (splitB (35:UInt8) s) 0).drop ((((Lib.itoa k)++([32]:List UInt8)).length:Int).toNat))) 0),((gt (splitB (35:UInt8) s) 0).drop ((((Lib.itoa k)++([32]:List UInt8)).length:Int).toNat)).drop ((((gt (splitB (64:UInt8) ((gt (splitB (35:UInt8) s) 0).drop ((((Lib.itoa k)++([32]:List UInt8)).length:Int).toNat))) 0).length:Int)+1).toNat)⟩:LogRecord).Reply.length+46:=line_lenG (k:=k) (e:=(⟨(gt (splitB (64:UInt8) ((gt (splitB (35:UInt8) s) 0).drop ((((Lib.itoa k)++([32]:List UInt8)).length:Int).toNat))) 0),((gt (splitB (35:UInt8) s) 0).drop ((((Lib.itoa k)++([32]:List UInt8)).length:Int).toNat)).drop ((((gt (splitB (64:UInt8) ((gt (splitB (35:UInt8) s) 0).drop ((((Lib.itoa k)++([32]:List UInt8)).length:Int).toNat))) 0).length:Int)+1).toNat)⟩:LogRecord)) oB
     refine Qn ⟨c,_,G,(AH.take 9 G oC G c (fun w' hw'=>r_eqs (s:=lineB k (⟨(gt (splitB (64:UInt8) ((gt (splitB (35:UInt8) s) 0).drop ((((Lib.itoa k)++([32]:List UInt8)).length:Int).toNat))) 0),((gt (splitB (35:UInt8) s) 0).drop ((((Lib.itoa k)++([32]:List UInt8)).length:Int).toNat)).drop ((((gt (splitB (64:UInt8) ((gt (splitB (35:UInt8) s) 0).drop ((((Lib.itoa k)++([32]:List UInt8)).length:Int).toNat))) 0).length:Int)+1).toNat)⟩:LogRecord)) (r:=s++([10]:List UInt8)) G G)<|Ak 10 G c (fun w' hw'=>pT G G)<|Ab 11 G (Qw (o:=0) (vs:=[str (gt (splitB (64:UInt8) ((gt (splitB (35:UInt8) s) 0).drop ((((Lib.itoa k)++([32]:List UInt8)).length:Int).toNat))) 0),str (((gt (splitB (35:UInt8) s) 0).drop ((((Lib.itoa k)++([32]:List UInt8)).length:Int).toNat)).drop ((((gt (splitB (64:UInt8) ((gt (splitB (35:UInt8) s) 0).drop ((((Lib.itoa k)++([32]:List UInt8)).length:Int).toNat))) 0).length:Int)+1).toNat))]) agg71.2 G G G G (((K.lo b).lo m).lo p) ler G ?_))⟩
     intro aZ T ak R
     have g:=c.step T (fun _ _ e=>e)
     refine Qn ⟨g,_,G,(Ak 12 G g (fun w' hw'=>aB G)<|Ad oC (⟨⟨G,(eDD (jat u)),trivial⟩,g,R⟩))⟩
    ·refine AH.s' 4 G oC G a<|AH.s' 5 G oC G a<|AH.s' 6 G oC G a<|AH.s' 7 G oC G a<|AH.s' 8 G oC G a<|AH.s' 9 G oC G a<|Ak 10 G a (fun w' hw'=>pF G G)<|Ab 11 G (Qw (o:=0) (vs:=[str (gt (splitB (64:UInt8) ((gt (splitB (35:UInt8) s) 0).drop ((((Lib.itoa k)++([32]:List UInt8)).length:Int).toNat))) 0),str (((gt (splitB (35:UInt8) s) 0).drop ((((Lib.itoa k)++([32]:List UInt8)).length:Int).toNat)).drop ((((gt (splitB (64:UInt8) ((gt (splitB (35:UInt8) s) 0).drop ((((Lib.itoa k)++([32]:List UInt8)).length:Int).toNat))) 0).length:Int)+1).toNat))]) agg71.2 G G G G ((K.lo b).lo m) ler G ?_)
     intro a6 U al S
     have j:=a.step U (fun _ _ e=>e)
     refine Qn ⟨j,_,G,(Ak 12 G j (fun w' hw'=>aB G)<|Ad oC (⟨⟨G,(eDF (jaf u).2),trivial⟩,j,S⟩))⟩
   rintro au a7 ⟨B,x,V⟩
   rw [← sA B]
   have ap:=x.size
   refine We (retCT G G agg71 V G (v:=.bool _) G ?_)
   refine ⟨eR (eT2 (eA (eC (eS ?_) (eC (eS ?_) G))) (eB ?_)),(((D.lo F).new H).new x oB)⟩ <;> (unfold spec_l33Read; rw [if_neg t,if_neg O] <;> rfl)
end Go.Proofs.YtndcchndcghmoaaGreatDoor
namespace Go.Proofs.YtndcchndcghmoaaGreatDoor
open Go Go.RowKit Fw
section
variable {k : Int} {e : LogRecord} {s : List UInt8}
theorem enc_iff:(encN k e).2=true↔(0≤k∧k≤59)∧RecOK e:=by
  unfold encN; split
  · rename_i h; exact ⟨fun _=>h,fun _=>rfl⟩
  · rename_i h; exact ⟨fun q=>absurd q oR,fun q=>absurd q h⟩
theorem enc_val (h:(encN k e).2=true):(encN k e).1=lineB k e:=by unfold encN; rw [if_pos (enc_iff.1 h)]
theorem dec_yes (h:DecOK k s e):impl_decode k s=(e,true):=by
  obtain ⟨h1,h2,h3⟩:=h
  obtain ⟨c1,c2,c3,c4⟩:=line_cut h1.1 h2 h3
  have he:encN k e=(lineB k e,true):=by unfold encN; rw [if_pos ⟨h1,h2⟩]
  have hm:(64:UInt8)∈e.Command++[64]++e.Reply:=by simp
  unfold impl_decode
  simp only [cut1,c1,c2,c3,c4]
  rw [show (⟨e.Command,e.Reply⟩:LogRecord)=e from rfl,he,h3]
  simp
theorem dec_ok (h:(impl_decode k s).2=true):DecOK k s (impl_decode k s).1:=by
  unfold impl_decode at *
  split at h
  · rename_i h0
    rw [if_pos h0]
    have h1:=enc_iff.1 h0
    have h2:=of_decide_eq_true h
    exact ⟨h1.1,h1.2,by rw [← enc_val h0]; exact h2⟩
  · cases h
theorem read_yes (h:DecOK k s e):spec_l33Read s k=(e,true):=by
  obtain ⟨h1,h2,h3⟩:=h
  obtain ⟨c1,c2,c3,c4⟩:=line_cut h1.1 h2 h3
  have e2:bodyB k e=(Lib.itoa k++[32])++(e.Command++[64]++e.Reply):=by unfold bodyB; simp
  have hl:(Lib.itoa k++([32]:List UInt8)).length≤(bodyB k e).length:=by rw [e2]; simp
  have ht:(bodyB k e).take (Lib.itoa k++([32]:List UInt8)).length=Lib.itoa k++[32]:=by rw [e2]; exact List.take_left
  have hd:(bodyB k e).drop (Lib.itoa k++([32]:List UInt8)).length=e.Command++[64]++e.Reply:=by rw [e2]; exact List.drop_left
  have hr:(e.Command++[64]++e.Reply).drop (e.Command.length+1)=e.Reply:=by simp
  unfold spec_l33Read
  simp only [Int.toNat_natCast,splitB_head,c1,ht,hd,c3]
  rw [if_neg (by intro q; rcases q with q | q; omega; exact q trivial),if_neg (by simp; omega)]
  simp only [hr,show ((e.Command.length:Int)+1).toNat=e.Command.length+1 by omega]
  simp [h2,h3]
theorem read_ok (h:(spec_l33Read s k).2=true) (hk:0≤k∧k≤59):DecOK k s (spec_l33Read s k).1:=by
  unfold spec_l33Read at *
  split at h
  · cases h
  · rename_i n1
    rw [if_neg n1]
    split at h
    · cases h
    · rename_i n2
      rw [if_neg n2]
      simp only [decide_eq_true_eq] at h
      exact ⟨hk,h.1,h.2⟩
theorem read_iff (hk:0≤k∧k≤59):(spec_l33Read s k).2=(impl_decode k s).2:=by
  rw [Bool.eq_iff_iff]
  exact ⟨fun h=>by rw [dec_yes (read_ok h hk)],fun h=>by rw [read_yes (dec_ok h)]⟩
theorem read_eq (hk:0≤k∧k≤59) (h:(impl_decode k s).2=true):(spec_l33Read s k).1=(impl_decode k s).1:=by
  have:=dec_ok h
  rw [read_yes this]
end
end Go.Proofs.YtndcchndcghmoaaGreatDoor
namespace Go.Proofs.YtndcchndcghmoaaGreatDoor
open Go Go.RowKit Fw
section
variable {k : Nat} {s : List UInt8} {R : List LogRecord} {r m : Nat}
def Rec1 (k:Nat) (s:List UInt8):Prop:=(10:UInt8)∈s∧(impl_decode (k:Int) (befB s 10)).2=true
noncomputable instance:Decidable (Rec1 k s):=Classical.propDecidable _
noncomputable def rec1 (k:Nat) (s:List UInt8):LogRecord:=(impl_decode (k:Int) (befB s 10)).1
noncomputable def opF:Nat→Nat→List UInt8→List LogRecord × Nat
  | 0,_,_=>([],0)
  | m+1,k,s=>if Rec1 k s then (rec1 k s :: (opF m (k+1) (aftB s 10)).1,(befB s 10).length+1+(opF m (k+1) (aftB s 10)).2) else ([],0)
noncomputable def opN (s:List UInt8):List LogRecord × Nat:=opF 60 0 s
theorem rec1_line (hk:Rec1 k s):DecOK (k:Int) (befB s 10) (rec1 k s):=dec_ok hk.2
theorem rec1_len (hk:Rec1 k s):(befB s 10).length+1≤406:=by
  obtain ⟨h1,h2,h3⟩:=rec1_line hk
  have:=line_lenB (k:=(k:Int)) oB h2
  rw [h3] at this; simpa using this
theorem opF_len:∀ (m k:Nat) (s:List UInt8),(opF m k s).1.length≤m∧(opF m k s).2≤s.length∧(opF m k s).2≤406*m
  | 0,_,_=>⟨Nat.le_refl _,Nat.zero_le _,Nat.zero_le _⟩
  | m+1,k,s=>by
    unfold opF
    by_cases h:Rec1 k s
    · rw [if_pos h]
      obtain ⟨h1,h2,h3⟩:=opF_len m (k+1) (aftB s 10)
      have hl:=rec1_len h
      have hb:=befB_lt h.1
      have ha:(aftB s 10).length=s.length-((befB s 10).length+1):=by unfold aftB; simp
      simp only [List.length_cons]
      omega
    · rw [if_neg h]; simp
theorem opN_len (s:List UInt8):(opN s).1.length≤60∧(opN s).2≤s.length∧(opN s).2≤24360:=opF_len 60 0 s
def OpTo (s:List UInt8) (R:List LogRecord) (r:Nat):Prop:=R.length≤60∧r≤s.length∧opN s=(R++(opF (60-R.length) R.length (s.drop r)).1,r+(opF (60-R.length) R.length (s.drop r)).2)
theorem OpTo.zero:OpTo s [] 0:=⟨Nat.zero_le _,Nat.zero_le _,by simp [opN]⟩
theorem OpTo.rng (h:OpTo s R r):R.length≤60∧r≤s.length:=⟨h.1,h.2.1⟩
theorem OpTo.next (h:OpTo s R r) (hl:R.length<60) (hr:Rec1 R.length (s.drop r)):OpTo s (R++[rec1 R.length (s.drop r)]) (r+(befB (s.drop r) 10).length+1):=by
  obtain ⟨h1,h2,h3⟩:=h
  have hb:=befB_lt hr.1
  rw [List.length_drop] at hb
  refine ⟨by simp; omega,oB,?_⟩
  rw [h3,show 60-R.length=(59-R.length)+1 by omega]
  conv=>lhs; unfold opF
  rw [if_pos hr]
  have e:aftB (s.drop r) 10=s.drop (r+(befB (s.drop r) 10).length+1):=by unfold aftB; rw [List.drop_drop]; congr 1
  rw [e]
  simp only [List.length_append,List.length_cons,List.length_nil,List.append_assoc,List.cons_append,List.nil_append,Nat.zero_add]
  rw [show 60-(R.length+1)=59-R.length by omega]
  congr 1; omega
theorem OpTo.stop (h:OpTo s R r) (hn:60≤R.length∨¬Rec1 R.length (s.drop r)):opN s=(R,r):=by
  obtain ⟨h1,h2,h3⟩:=h
  rw [h3]
  rcases Nat.lt_or_ge R.length 60 with hl | hl
  · have hn:¬Rec1 R.length (s.drop r):=hn.resolve_left oB
    rw [show 60-R.length=(59-R.length)+1 by omega]
    unfold opF
    rw [if_neg hn]; simp
  · rw [show 60-R.length=0 by omega]; unfold opF; simp
theorem cut_ended (s:List UInt8):(Lib.cut s ([10]:List UInt8)).2.2=decide ((10:UInt8)∈s):=by rw [cut1]
theorem cut_line (s:List UInt8):(Lib.cut s ([10]:List UInt8)).1=befB s 10:=by rw [cut1]
theorem rec_yesI (h:¬((!(Lib.cut s ([10]:List UInt8)).2.2)=true∨(!(impl_decode (k:Int) (Lib.cut s ([10]:List UInt8)).1).2)=true)):Rec1 k s:=by
  rw [cut_ended,cut_line] at h
  simp only [not_or,Bool.not_eq_true',Bool.not_eq_false,decide_eq_true_eq] at h
  exact h
theorem rec_noI (h:(!(Lib.cut s ([10]:List UInt8)).2.2)=true∨(!(impl_decode (k:Int) (Lib.cut s ([10]:List UInt8)).1).2)=true):¬Rec1 k s:=fun hr=>by
  rw [cut_ended,cut_line] at h
  simp only [Bool.not_eq_true',decide_eq_false_iff_not] at h
  rcases h with h | h
  · exact h hr.1
  · have:=hr.2; rw [h] at this; cases this
theorem rec_none (h:¬(10:UInt8)∈s):¬Rec1 k s:=fun hr=>h hr.1
theorem recS_yes (hk:k<60) (hm:m=(splitB 10 s).length) (h:¬((m:Int)<2∨(!(spec_l33Read (gt (splitB 10 s) 0) (k:Int)).2)=true)):Rec1 k s∧(spec_l33Read (gt (splitB 10 s) 0) (k:Int)).1=rec1 k s:=by
  subst hm
  rw [splitB_head] at *
  have e:=read_iff (s:=befB s 10) (k:=(k:Int)) oB
  have h2:=not_or.1 h
  have hy:(impl_decode (k:Int) (befB s 10)).2=true:=by rw [← e]; simpa using h2.2
  exact ⟨⟨(splitB_two 10 s).1 oB,hy⟩,read_eq oB hy⟩
theorem recS_no (hk:k<60) (hm:m=(splitB 10 s).length) (h:(m:Int)<2∨(!(spec_l33Read (gt (splitB 10 s) 0) (k:Int)).2)=true):¬Rec1 k s:=by
  subst hm
  rintro ⟨h1,h2⟩
  rcases h with h | h
  · have:=(splitB_two 10 s).2 h1; omega
  · rw [splitB_head,read_iff oB,h2] at h; cases h
theorem stopS (h:¬((r:Int)<(s.length:Int)∧(R.length:Int)<60)):60≤R.length∨¬Rec1 R.length (s.drop r):=by
  rcases Nat.lt_or_ge R.length 60 with h1 | h1
  · refine .inr (rec_none ?_)
    rw [List.drop_eq_nil_of_le oB]; simp
  · exact .inl h1
def noLog:Log:=⟨[],[],0⟩
def LogOK (l:Log):Prop:=(opN (l.Durable++l.Pending)).2=l.Durable.length+l.Pending.length∧(opN l.Durable).2=l.Durable.length∧l.Count=((opN (l.Durable++l.Pending)).1.length:Int)
noncomputable instance (l:Log):Decidable (LogOK l):=Classical.propDecidable _
theorem log_rng {l:Log} (h:LogOK l):l.Durable.length+l.Pending.length≤24360∧0≤l.Count∧l.Count≤60:=by
  have:=opN_len (l.Durable++l.Pending)
  obtain ⟨h1,h2,h3⟩:=h
  omega
theorem log_iff (l:Log):LogOK l↔(opN (l.Durable++l.Pending)).2=l.Durable.length+l.Pending.length∧(opN l.Durable).2=l.Durable.length∧l.Count=((opN (l.Durable++l.Pending)).1.length:Int):=Iff.rfl
end
section
variable {l : Log} {e : LogRecord} {k : Int}
noncomputable def appN (l:Log) (e:LogRecord):Log × Int :=
  if LogOK l∧RecOK e then (if l.Count=60 then (l,2) else (⟨l.Durable,l.Pending++lineB l.Count e,l.Count+1⟩,0)) else (l,1)
theorem app_bad (h:¬LogOK l∨¬RecOK e):appN l e=(l,1):=if_neg (fun k=>h.elim (fun h=>h k.1) (fun h=>h k.2))
theorem app_good (h:¬(¬LogOK l∨¬RecOK e)):LogOK l∧RecOK e:=⟨Classical.not_not.1 fun q=>h (.inl q),Classical.not_not.1 fun q=>h (.inr q)⟩
theorem app_full (h:¬(¬LogOK l∨¬RecOK e)) (hc:l.Count=60):appN l e=(l,2):=by unfold appN; rw [if_pos (app_good h),if_pos hc]
theorem app_yes (h:¬(¬LogOK l∨¬RecOK e)) (hc:¬l.Count=60):appN l e=(⟨l.Durable,l.Pending++lineB l.Count e,l.Count+1⟩,0):=by unfold appN; rw [if_pos (app_good h),if_neg hc]
theorem enc_fullI (h:¬(¬LogOK l∨¬RecOK e)) (hc:(!(encN l.Count e).2)=true):l.Count=60:=by
  have h1:=app_good h; have h2:=log_rng h1.1
  apply Classical.byContradiction; intro h3
  have:(encN l.Count e).2=true:=enc_iff.2 ⟨oB,h1.2⟩
  rw [this] at hc; cases hc
theorem enc_yesI (hc:(!(encN l.Count e).2)=false):¬l.Count=60∧(encN l.Count e).1=lineB l.Count e:=by
  have h1:(encN l.Count e).2=true:=by simpa using hc
  have h2:=enc_iff.1 h1
  exact ⟨oB,enc_val h1⟩
theorem app_fullI (h:¬(¬LogOK l∨¬RecOK e)) (hc:(!(encN l.Count e).2)=true):appN l e=(l,2):=app_full h (enc_fullI h hc)
theorem app_yesI (h:¬(¬LogOK l∨¬RecOK e)) (hc:(!(encN l.Count e).2)=false):appN l e=(⟨l.Durable,l.Pending++(encN l.Count e).1,l.Count+1⟩,0):=by
  have h1:=enc_yesI hc
  rw [app_yes h h1.1,h1.2]
theorem appN_len (l:Log) (e:LogRecord):(appN l e).1.Durable.length+(appN l e).1.Pending.length≤l.Durable.length+l.Pending.length+406:=by
  unfold appN; split
  · rename_i h
    have h1:=log_rng h.1
    split
    · dsimp only; omega
    · have:=line_lenB (k:=l.Count) oB h.2
      simp only [List.length_append]; omega
  · dsimp only; omega
noncomputable def syncN (l:Log):Log × Bool:=if LogOK l then (⟨l.Durable++l.Pending,[],l.Count⟩,true) else (noLog,false)
noncomputable def recovN (s:List UInt8):Log × Int × Bool:=if 30000<(s.length:Int) then (noLog,0,false) else (⟨s.take (opN s).2,[],((opN s).1.length:Int)⟩,((opN s).2:Int),true)
noncomputable def recsN (l:Log):List LogRecord × Bool:=if LogOK l then ((opN (l.Durable++l.Pending)).1,true) else ([],false)
def tornB (b:Bool) (s:List UInt8):List UInt8:=if b=true∧0<s.length then s.set (s.length-1) (bw (255-((gt s (s.length-1)).toNat:Int))) else s
noncomputable def crashN (l:Log) (keep:Int) (b:Bool):List UInt8 × Bool:=if LogOK l∧0≤keep∧keep≤(l.Pending.length:Int) then (l.Durable++tornB b (l.Pending.take keep.toNat),true) else ([],false)
theorem sync_yes (h:LogOK l):syncN l=(⟨l.Durable++l.Pending,[],l.Count⟩,true):=if_pos h
theorem sync_no (h:¬LogOK l):syncN l=(noLog,false):=if_neg h
theorem recov_no {s:List UInt8} (h:30000<(s.length:Int)):recovN s=(noLog,0,false):=if_pos h
theorem recov_yes {s:List UInt8} (h:¬30000<(s.length:Int)):recovN s=(⟨s.take (opN s).2,[],((opN s).1.length:Int)⟩,((opN s).2:Int),true):=if_neg h
theorem recs_yes (h:LogOK l):recsN l=((opN (l.Durable++l.Pending)).1,true):=if_pos h
theorem recs_no (h:¬LogOK l):recsN l=([],false):=if_neg h
theorem recs_len (l:Log):(recsN l).1.length≤60:=by
  unfold recsN; split
  · exact (opN_len _).1
  · simp
theorem crash_no {keep:Int} {b:Bool} (h:¬LogOK l∨¬(0≤keep∧keep≤(l.Pending.length:Int))):crashN l keep b=([],false):=if_neg (fun k=>h.elim (fun h=>h k.1) (fun h=>h k.2))
theorem crash_yes {keep:Int} {b:Bool} (h:¬(¬LogOK l∨¬(0≤keep∧keep≤(l.Pending.length:Int)))):crashN l keep b=(l.Durable++tornB b (l.Pending.take keep.toNat),true) :=
  if_pos ⟨Classical.not_not.1 fun q=>h (.inl q),Classical.not_not.1 fun q=>h (.inr q)⟩
theorem torn_app {s t:List UInt8} (h:0<t.length):(s++t).set ((s++t).length-1) (bw (255-((gt (s++t) ((s++t).length-1)).toNat:Int)))=s++t.set (t.length-1) (bw (255-((gt t (t.length-1)).toNat:Int))):=by
  have e1:(s++t).length-1=s.length+(t.length-1):=by simp; omega
  have e2:gt (s++t) (s.length+(t.length-1))=gt t (t.length-1):=by
    refine gt_eq ?_
    rw [List.getElem?_append_right oB,show s.length+(t.length-1)-s.length=t.length-1 by omega]
    exact gb_get oB
  rw [e1,e2,List.set_append_right _ _ oB,show s.length+(t.length-1)-s.length=t.length-1 by omega]
section
variable {keep : Int} {b : Bool}
theorem crash_rng (h:¬(¬LogOK l∨¬(0≤keep∧keep≤(l.Pending.length:Int)))):(0≤keep∧keep≤(l.Pending.length:Int))∧(l.Pending.take keep.toNat).length=keep.toNat:=by
  have h1:0≤keep∧keep≤(l.Pending.length:Int):=Classical.not_not.1 fun q=>h (.inr q)
  exact ⟨h1,by simp; omega⟩
theorem crash_tornS (h:¬(¬LogOK l∨¬(0≤keep∧keep≤(l.Pending.length:Int)))) (hb:b=true∧0<keep):l.Durable++(l.Pending.take keep.toNat).set (keep-1).toNat (bw (255-((gt (l.Pending.take keep.toNat) (keep-1).toNat).toNat:Int)))=(crashN l keep b).1:=by
  have h1:=crash_rng h
  rw [crash_yes h]
  unfold tornB
  rw [if_pos ⟨hb.1,oB⟩,h1.2,show (keep-1).toNat=keep.toNat-1 by omega]
theorem crash_tornI (h:¬(¬LogOK l∨¬(0≤keep∧keep≤(l.Pending.length:Int)))) (hb:b=true∧0<keep) :
    (l.Durable++l.Pending.take keep.toNat).set (((l.Durable++l.Pending.take keep.toNat).length:Int)-1).toNat (bw (255-((gt (l.Durable++l.Pending.take keep.toNat) (((l.Durable++l.Pending.take keep.toNat).length:Int)-1).toNat).toNat:Int)))=(crashN l keep b).1:=by
  have h1:=crash_rng h
  rw [show (((l.Durable++l.Pending.take keep.toNat).length:Int)-1).toNat=(l.Durable++l.Pending.take keep.toNat).length-1 by omega,torn_app oB,← crash_tornS h hb,h1.2,show (keep-1).toNat=keep.toNat-1 by omega]
theorem crash_whole (h:¬(¬LogOK l∨¬(0≤keep∧keep≤(l.Pending.length:Int)))) (hb:¬(b=true∧0<keep)):l.Durable++l.Pending.take keep.toNat=(crashN l keep b).1:=by
  have h1:=crash_rng h
  rw [crash_yes h]
  unfold tornB
  rw [if_neg (fun q=>hb ⟨q.1,oB⟩)]
theorem crash_ok (h:¬(¬LogOK l∨¬(0≤keep∧keep≤(l.Pending.length:Int)))):true=(crashN l keep b).2:=by rw [crash_yes h]
end
end
end Go.Proofs.YtndcchndcghmoaaGreatDoor
namespace Go.Proofs.YtndcchndcghmoaaGreatDoor
open Go Go.RowKit Fw
@[ext] structure Console where
  Library:Library
  Log:Log
  deriving DecidableEq,Inhabited
@[reducible] def cCn (A:Option Addr) (n c:Nat) (A2:Option Addr) (n2 c2:Nat) (x:Console):List Value:=[.slice A n c,.slice A2 n2 c2,.int .i64 x.Library.Bought,.int .i64 x.Library.Dropped,.int .i64 x.Library.Mended,str x.Log.Durable,str x.Log.Pending,.int .i64 x.Log.Count]
@[reducible] def zCn:List Value:=[.slice none 0 0,.slice none 0 0,.int .i64 0,.int .i64 0,.int .i64 0,str [],str [],.int .i64 0]
def ConOK (c:Console):Prop:=LibOK c.Library∧LogOK c.Log
noncomputable instance (c:Console):Decidable (ConOK c):=Classical.propDecidable _
section
variable {c : Console} {k : Nat}
theorem lib_num {x:Library} (h:LibOK x):(0≤x.Bought∧x.Bought≤9999)∧(0≤x.Dropped∧x.Dropped≤9999)∧(0≤x.Mended∧x.Mended≤9999):=⟨h.2.2.1,h.2.2.2.1,h.2.2.2.2.1⟩
theorem con_rng (h:ConOK c):c.Library.Maps.length≤8∧c.Library.Away.length≤8∧((0≤c.Library.Bought∧c.Library.Bought≤9999)∧(0≤c.Library.Dropped∧c.Library.Dropped≤9999)∧(0≤c.Library.Mended∧c.Library.Mended≤9999))∧0≤c.Log.Count∧c.Log.Count≤60 :=
  ⟨h.1.1.2,h.1.2.1.2,lib_num h.1,(log_rng h.2).2⟩
end
end Go.Proofs.YtndcchndcghmoaaGreatDoor
namespace Go.Proofs.YtndcchndcghmoaaGreatDoor
open Go Go.RowKit Fw
section
variable {α β : Type} [Inhabited α] {p q : α → Bool} {L : List α} {k : Nat} {c : α → β → Int} {t : β}
theorem tw_len:∀ {L:List α} {k:Nat},(∀ j,j<k→p (gt L j)=true)→k≤L.length→(k=L.length∨p (gt L k)=false)→(L.takeWhile p).length=k
  | [],k,_,hk,_=>by simp at hk; simp [hk]
  | x :: r,0,_,_,h=>by
    rcases h with h | h
    · simp at h
    · have:p x=false:=by simpa [gt] using h
      simp [List.takeWhile,this]
  | x :: r,k+1,h,hk,hx=>by
    have h0:p x=true:=by simpa [gt] using h 0 oB
    have e:∀ j,gt (x :: r) (j+1)=gt r j:=fun j=>by simp [gt]
    have:=tw_len (L:=r) (k:=k) (fun j hj=>by have:=h (j+1) oB; rwa [e] at this) (by simpa using hk) (by
      rcases hx with hx | hx
      · exact .inl (by simpa using hx)
      · exact .inr (by rwa [e] at hx))
    simp [List.takeWhile,h0,this]
omit [Inhabited α] in
theorem tw_le (p:α→Bool) (L:List α):(L.takeWhile p).length≤L.length:=(List.takeWhile_sublist p).length_le
theorem bs_spec (hq:∀ x,q x=true↔c x t=0) (hs:∀ i j,i<j→j<L.length→c (gt L j) t≤0→c (gt L i) t<0) :
    bsP c t L=(L.takeWhile (fun x=>decide (c x t<0))).length∧(bsF c t L↔0≤idxF q L)∧(bsF c t L→(bsP c t L:Int)=idxF q L):=by
  have hp:=bsr_spec (p:=fun x=>decide (c x t<0)) (L:=L) (fun a b hab hb hpb=>by
    simp only [decide_eq_true_eq] at hpb ⊢
    rcases Nat.lt_or_ge a b with h1 | h1
    · exact hs a b h1 hb oB
    · obtain rfl:a=b:=by omega
      exact hpb) L.length 0 L.length oB oB oB (fun a ha=>absurd ha oB) (fun a h1 h2=>absurd h2 oB)
  have hle:=bsP_le (c:=c) (t:=t) (L:=L)
  have h3:bsF c t L→(bsP c t L:Int)=idxF q L:=by
    rintro ⟨h1,h2⟩
    have hlt:bsP c t L<L.length:=by omega
    refine idx_at (k:=bsP c t L) (fun j x hj hx=>?_) (gt_get hlt) ((hq _).2 h2)
    have:=hp.2.1 j hj
    simp only [decide_eq_true_eq,gt_eq hx] at this
    cases hqx:q x
    · rfl
    · have:=(hq x).1 hqx; omega
  refine ⟨(tw_len hp.2.1 hle ?_).symm,⟨fun h=>by have:=h3 h; omega,fun h=>?_⟩,h3⟩
  · rcases Nat.lt_or_ge (bsP c t L) L.length with h | h
    · exact .inr (hp.2.2 _ (Nat.le_refl _) h)
    · exact .inl oB
  · obtain ⟨x,hx,hqx,_⟩:=idx_spec (p:=q) (L:=L) rfl h
    generalize (idxF q L).toNat=i at *
    have hil:=(List.getElem?_eq_some_iff.1 hx).1
    have hg:=gt_eq hx
    have h0:=(hq x).1 hqx
    have hge:bsP c t L≤i:=by
      rcases Nat.lt_or_ge i (bsP c t L) with h1 | h1
      · have:=hp.2.1 i h1
        simp only [decide_eq_true_eq,hg] at this; omega
      · exact h1
    have hlt:bsP c t L<L.length:=by omega
    have h2:=hp.2.2 (bsP c t L) (Nat.le_refl _) hlt
    simp only [decide_eq_false_iff_not] at h2
    rcases Nat.lt_or_ge (bsP c t L) i with h1 | h1
    · exact absurd (hs _ _ h1 hil (by rw [hg]; omega)) h2
    · have e:bsP c t L=i:=by omega
      exact ⟨oB,by rw [e,hg]; exact h0⟩
end
theorem cmpI_le {a b:Int}:cmpI a b≤0↔a≤b:=by unfold cmpI; split <;> (try split) <;> omega
theorem cmpA_le {p q:Away}:cmpA p q≤0↔lexlt p q∨p=q:=by
  rw [← cmpA_lt,← cmpA_eq]; omega
theorem lex_trans {p q r:Away} (h1:lexlt p q) (h2:lexlt q r):lexlt p r:=by unfold lexlt at *; omega
instance (p q:Away):Decidable (lexlt p q):=by unfold lexlt; infer_instance
def bdM (id:Int) (L:List LMap):Nat:=(L.takeWhile (fun m=>decide (cmpM m id<0))).length
def bdA (t:Away) (L:List Away):Nat:=(L.takeWhile (fun a=>decide (cmpA a t<0))).length
def isA (id r:Int) (a:Away):Bool:=decide (a.Map=id∧a.Reader=r)
def insAt {α:Type} (L:List α) (k:Nat) (x:α):List α:=L.take k++[x]++L.drop k
def delAt {α:Type} (L:List α) (k:Nat):List α:=L.take k++L.drop (k+1)
theorem ins_len1 {α:Type} (L:List α) (y:α) (i:Nat):(L.take i++[y]++L.drop i).length=L.length+1:=by simp; omega
theorem del_lenT {α:Type} (L:List α) {i j:Nat} (h:i≤j):(L.take i++L.drop j).length≤L.length:=by simp; omega
def AwS (A:List Away):Prop:=∀ i j,i<j→j<A.length→lexlt (gt A i) (gt A j)
section
variable {L M : List LMap} {A : List Away} {k : Nat} {x : Library} {id r : Int}
theorem bdM_le (id:Int) (L:List LMap):bdM id L≤L.length:=tw_le _ _
theorem bdA_le (t:Away) (A:List Away):bdA t A≤A.length:=tw_le _ _
theorem isA_iff (a:Away):isA id r a=true↔cmpA a ⟨id,r⟩=0:=by
  unfold isA; rw [decide_eq_true_eq,cmpA_eq,Away.ext_iff]
theorem hasId_iff (m:LMap):hasId id m=true↔cmpM m id=0:=by unfold hasId cmpM; rw [decide_eq_true_eq,cmpI_eq]
theorem bsM (h:MapsOK L) (id:Int):bsP cmpM id L=bdM id L∧(bsF cmpM id L↔0≤idxF (hasId id) L)∧(bsF cmpM id L→(bsP cmpM id L:Int)=idxF (hasId id) L) :=
  bs_spec hasId_iff fun i j hij hj h1=>by
    have:=maps_lt h hij hj
    simp only [cmpM,cmpI_le,cmpI_lt] at *; omega
theorem aw_at (h:AwayOK M A) (hk:k<A.length) (h0:0<k):lexlt (gt A (k-1)) (gt A k):=by
  have:=Classical.not_not.1 (h k hk)
  exact this.2.2 oB
theorem aw_s (h:AwayOK M A):AwS A:=by
  intro i j hij hj
  induction j with
  | zero=>omega
  | succ j ih =>
    have h1:=aw_at h hj oB
    simp only [Nat.add_sub_cancel] at h1
    rcases Nat.lt_or_ge i j with h2 | h2
    · exact lex_trans (ih h2 oB) h1
    · obtain rfl:i=j:=by omega
      exact h1
theorem bsA (h:AwS A) (id r:Int):bsP cmpA ⟨id,r⟩ A=bdA ⟨id,r⟩ A∧(bsF cmpA ⟨id,r⟩ A↔0≤idxF (isA id r) A)∧(bsF cmpA ⟨id,r⟩ A→(bsP cmpA ⟨id,r⟩ A:Int)=idxF (isA id r) A) :=
  bs_spec isA_iff fun i j hij hj h1=>by
    have h2:=h i j hij hj
    rw [cmpA_le] at h1; rw [cmpA_lt]
    rcases h1 with h1 | h1
    · exact lex_trans h2 h1
    · rwa [h1] at h2
theorem del_gt {α:Type} [Inhabited α] {A:List α} {k i:Nat} (hk:k<A.length):gt (delAt A k) i=gt A (if i<k then i else i+1):=by
  have e:(delAt A k)[i]?=A[if i<k then i else i+1]?:=by
    have hm:(A.take k).length=k:=by simp; omega
    unfold delAt
    rcases Nat.lt_or_ge i k with h | h
    · rw [List.getElem?_append_left oB,if_pos h,List.getElem?_take_of_lt h]
    · rw [List.getElem?_append_right oB,if_neg oB,List.getElem?_drop,hm]; congr 1; omega
  simp only [gt,List.getD_eq_getElem?_getD,e]
theorem del_len {α:Type} {A:List α} {k:Nat} (hk:k<A.length):(delAt A k).length=A.length-1:=by unfold delAt; simp; omega
theorem ins_len {α:Type} {A:List α} {k:Nat} {y:α} (hk:k≤A.length):(insAt A k y).length=A.length+1:=by unfold insAt; simp; omega
theorem del_s (h:AwS A) (hk:k<A.length):AwS (delAt A k):=by
  intro i j hij hj
  rw [del_len hk] at hj
  rw [del_gt hk,del_gt hk]
  refine h _ _ ?_ ?_
  · split <;> split <;> omega
  · split <;> omega
theorem del_has {q:Away→Bool} (hk:k<A.length) (hq:q (gt A k)=false):0≤idxF q (delAt A k)↔0≤idxF q A:=by
  have e:A=A.take k++gt A k :: A.drop (k+1):=by
    have h1:=List.take_append_drop k A
    rw [List.drop_eq_getElem_cons hk] at h1
    have h2:gt A k=A[k]:=gt_eq (List.getElem?_eq_getElem hk)
    rw [h2]; exact h1.symm
  rw [any_idx,any_idx]
  conv=>rhs; rw [e]
  unfold delAt; simp [hq]
theorem loopM_next (h:∀ j,j<k→cmpM (gt L j) id<0) (h1:(gt L k).Id<id):∀ j,j<k+1→cmpM (gt L j) id<0:=fun j hj=>by
  rcases Nat.lt_or_ge j k with h2 | h2
  · exact h j h2
  · obtain rfl:j=k:=by omega
    exact cmpI_lt.2 h1
theorem loopM_end (h:∀ j,j<k→cmpM (gt L j) id<0) (hk:k≤L.length) (hn:k=L.length∨¬(gt L k).Id<id):k=bdM id L :=
  (tw_len (p:=fun m=>decide (cmpM m id<0)) (fun j hj=>decide_eq_true (h j hj)) hk (hn.imp (fun h=>h) fun h'=>decide_eq_false (fun q=>h' (cmpI_lt.1 (show cmpI (gt L k).Id id<0 from q))))).symm
theorem loopA_next {t:Away} (h:∀ j,j<k→cmpA (gt A j) t<0) (h1:lexlt (gt A k) t):∀ j,j<k+1→cmpA (gt A j) t<0:=fun j hj=>by
  rcases Nat.lt_or_ge j k with h2 | h2
  · exact h j h2
  · obtain rfl:j=k:=by omega
    exact cmpA_lt.2 h1
theorem loopA_end {t:Away} (h:∀ j,j<k→cmpA (gt A j) t<0) (hk:k≤A.length) (hn:k=A.length∨¬lexlt (gt A k) t):k=bdA t A :=
  (tw_len (p:=fun a=>decide (cmpA a t<0)) (fun j hj=>decide_eq_true (h j hj)) hk (hn.imp (fun h=>h) fun h'=>decide_eq_false (fun q=>h' (cmpA_lt.1 q)))).symm
end
theorem lib_rng {x:Library} (h:LibOK x):x.Maps.length≤8∧x.Away.length≤8∧(0≤x.Bought∧x.Bought≤9999)∧(0≤x.Dropped∧x.Dropped≤9999)∧(0≤x.Mended∧x.Mended≤9999) :=
  ⟨h.1.2,h.2.1.2,h.2.2.1,h.2.2.2.1,h.2.2.2.2.1⟩
def goneN (x:Library) (id r:Int):Library:={ x with Away:=insAt x.Away (bdA ⟨id,r⟩ x.Away) ⟨id,r⟩ }
def backN (x:Library) (a:Int):Library:={ x with Away:=delAt x.Away a.toNat }
def moreM (m:LMap) (n:Int):LMap:=⟨m.Id,m.Copies+n,m.Torn⟩
def boughtN (x:Library) (id n:Int):Library :=
  if 0≤idxF (hasId id) x.Maps then { x with Maps:=x.Maps.set (idxF (hasId id) x.Maps).toNat (moreM (gt x.Maps (idxF (hasId id) x.Maps).toNat) n),Bought:=x.Bought+n }
  else { x with Maps:=insAt x.Maps (bdM id x.Maps) ⟨id,n,0⟩,Bought:=x.Bought+n }
end Go.Proofs.YtndcchndcghmoaaGreatDoor
namespace Go.Proofs.YtndcchndcghmoaaGreatDoor.Fw
open Go Go.RowKit
section
variable {α : Type} {enc : α → List Value} {sz : Nat}
theorem flat_take (he:∀ x,(enc x).length=sz) (L:List α) (k:Nat) (hk:k≤L.length):(L.flatMap enc).take (k*sz)=(L.take k).flatMap enc:=by
  have h2:L.flatMap enc=(L.take k).flatMap enc++(L.drop k).flatMap enc:=by rw [← List.flatMap_append,List.take_append_drop]
  rw [h2,List.take_left' (by rw [flat_len he,List.length_take,Nat.min_eq_left hk])]
theorem flat_drop (he:∀ x,(enc x).length=sz) (L:List α) (k:Nat) (hk:k≤L.length):(L.flatMap enc).drop (k*sz)=(L.drop k).flatMap enc:=by
  have h2:L.flatMap enc=(L.take k).flatMap enc++(L.drop k).flatMap enc:=by rw [← List.flatMap_append,List.take_append_drop]
  rw [h2,List.drop_left' (by rw [flat_len he,List.length_take,Nat.min_eq_left hk])]
theorem spl_flat (he:∀ x,(enc x).length=sz) {cs:List Value} {L X:List α} {m l q:Nat} (hl:m=L.length) (hx:q=X.length) (hlm:l+q≤m) (ht:cs.take (m*sz)=L.flatMap enc) :
    (spl cs (l*sz) (X.flatMap enc)).take (m*sz)=(L.take l++X++L.drop (l+q)).flatMap enc:=by
  have hcl:m*sz≤cs.length:=by
    have h1:=congrArg List.length ht
    rw [List.length_take,flat_len he,← hl] at h1; omega
  have e1:l*sz+q*sz≤m*sz:=by rw [← Nat.add_mul]; exact Nat.mul_le_mul_right _ hlm
  have hxl:(X.flatMap enc).length=q*sz:=by rw [flat_len he,← hx]
  unfold spl
  rw [hxl]
  have h1:cs.take (l*sz)=(L.take l).flatMap enc:=by
    rw [← flat_take he L l oB,← ht,List.take_take,Nat.min_eq_left oB]
  have h2:(cs.drop (l*sz+q*sz)).take (m*sz-(l*sz+q*sz))=(L.drop (l+q)).flatMap enc:=by
    rw [← flat_drop he L (l+q) oB,← ht,Nat.add_mul,List.drop_take]
  have hl1:(cs.take (l*sz)).length=l*sz:=by rw [List.length_take]; omega
  rw [List.take_append,List.take_of_length_le (by rw [List.length_append,hl1,hxl]; omega),List.length_append,hl1,hxl,h2,h1,List.flatMap_append,List.flatMap_append]
theorem ins_flat (he:∀ x,(enc x).length=sz) {cs:List Value} {L V:List α} {n k i:Nat} (hl:n=L.length) (hv:k=V.length) (hi:i≤n) (hc:(n+k)*sz≤cs.length) (ht:cs.take (n*sz)=L.flatMap enc) :
    (spl (spl cs ((i+k)*sz) ((L.drop i).flatMap enc)) (i*sz) (V.flatMap enc)).take ((n+k)*sz)=(L.take i++V++L.drop i).flatMap enc:=by
  have e1:(i+k)*sz=i*sz+k*sz:=Nat.add_mul ..
  have e2:(n+k)*sz=n*sz+k*sz:=Nat.add_mul ..
  have e3:i*sz≤n*sz:=Nat.mul_le_mul_right _ hi
  have e4:(n-i)*sz=n*sz-i*sz:=Nat.sub_mul ..
  have hvl:(V.flatMap enc).length=k*sz:=by rw [flat_len he,← hv]
  have hDl:((L.drop i).flatMap enc).length=n*sz-i*sz:=by rw [flat_len he,List.length_drop,← hl,e4]
  have hA:cs.take (i*sz)=(L.take i).flatMap enc:=by
    rw [← flat_take he L i oB,← ht,List.take_take,Nat.min_eq_left e3]
  have h1:(spl cs ((i+k)*sz) ((L.drop i).flatMap enc)).take (i*sz)=(L.take i).flatMap enc:=by
    unfold spl
    rw [List.append_assoc,List.take_append_of_le_length (by rw [List.length_take]; omega),List.take_take,Nat.min_eq_left oB,hA]
  have h2:(spl cs ((i+k)*sz) ((L.drop i).flatMap enc)).drop (i*sz+k*sz)=(L.drop i).flatMap enc++cs.drop ((i+k)*sz+(n*sz-i*sz)):=by
    unfold spl
    rw [List.append_assoc,List.drop_append,List.drop_of_length_le (by rw [List.length_take]; omega),List.nil_append,List.length_take,hDl]
    rw [show i*sz+k*sz-min ((i+k)*sz) cs.length=0 by omega,List.drop_zero]
  show ((spl cs ((i+k)*sz) ((L.drop i).flatMap enc)).take (i*sz)++V.flatMap enc++(spl cs ((i+k)*sz) ((L.drop i).flatMap enc)).drop (i*sz+(V.flatMap enc).length)).take ((n+k)*sz)=_
  rw [hvl,h1,h2,List.flatMap_append,List.flatMap_append,← List.append_assoc]
  have hAl:((L.take i).flatMap enc).length=i*sz:=by rw [flat_len he,List.length_take,Nat.min_eq_left oB]
  rw [List.take_append_of_le_length (by simp only [List.length_append,hAl,hvl,hDl]; omega),List.take_of_length_le (by simp only [List.length_append,hAl,hvl,hDl]; omega)]
end
section
variable {α : Type} {w : World} {B sz m c : Nat} {enc : α → List Value} {A : Option Addr} {L : List α}
theorem SlR.flat (h:SlR w B enc sz A m c L):∀ (j:Nat) (u:Value),(L.flatMap enc)[j]?=Option.some u→w.cell? ((adr A).add j)=Option.some u:=by
  intro j u hu
  have hj:j<m*sz:=by rw [h.len,← flat_len h.esz]; exact (List.getElem?_eq_some_iff.1 hu).1
  have hpos:0<sz:=Nat.pos_of_ne_zero fun h0=>by subst h0; simp at hj
  have hq:j / sz<L.length:=by rw [← h.len]; exact (Nat.div_lt_iff_lt_mul hpos).2 hj
  have hje:j / sz*sz+j % sz=j:=by rw [Nat.mul_comm]; exact Nat.div_add_mod j sz
  have hr:j % sz<(enc L[j / sz]).length:=by rw [h.esz]; exact Nat.mod_lt _ hpos
  have h6:=flat_get h.esz L (j / sz) (j % sz) _ _ (List.getElem?_eq_getElem hq) (List.getElem?_eq_getElem hr)
  rw [hje,hu] at h6
  have:=h.at_ (j / sz) _ (List.getElem?_eq_getElem hq) (j % sz) _ (List.getElem?_eq_getElem hr)
  rw [hje] at this
  rw [h6]; exact this
end
section
variable {α : Type} {P : Program} {ops : Array Oper} {N R : Act → World → Prop} {X : Nat → Act → World → Prop} {n : Nat} {rest : List Oper} {f : Env} {w : World} {v : Value} {t e ty : TypeId} {p : String} {af : Array Edge} {x y : Operand} {enc : α → List Value} {sz by_ base g c : Nat} {z : Value} {cs : List Value} {A : Option Addr} {L : List α}
theorem SR.copyO {d l dl dc k c2 m q B:Nat} {A2:Option Addr} {L2:List α} {t2:TypeId} (ht:TEl P t e z sz by_) (hx:ev n f x=.slice (cutA A c l sz) dl dc) (hy:ev n f y=.slice A2 k c2) (hO:SlO w base enc sz e A m c L) (hR:SlR w B enc sz A2 k c2 L2)
    (hq:Nat.min k dl=q) (hlm:l+q≤m) (h1:∀ x,(enc x).all (·.oneCell')=true)
    (h:∀ w',Kp (fun b=>A=some ⟨b,0,none⟩) w w'→SlO w' base enc sz e A m c (L.take l++L2.take q++L.drop (l+q))→SR P ops N R X n rest (set f d (.int .i64 q)) w') :
    SR P ops N R X n (⟨some d,.call ⟨.builtin .copy,#[x,y],#[t,t2]⟩,ty,p,af,none⟩ :: rest) f w:=by
  have hqk:q≤k:=by rw [← hq]; exact Nat.min_le_left ..
  cases hA:A with
  | none =>
    have hm0:m=0:=by
      rcases Nat.eq_zero_or_pos m with h0 | h0
      · exact h0
      · have:=hO.rd.some h0; rw [hA] at this; cases this
    obtain rfl:q=0:=by omega
    obtain rfl:l=0:=by omega
    subst hA
    have hc:cutA (none:Option Addr) c 0 sz=none:=by unfold cutA; split <;> rfl
    rw [hc] at hx
    have hL:L.take 0++L2.take 0++L.drop (0+0)=L:=by simp
    obtain ⟨i,hi,hz,hsz,hby⟩:=ht.parts
    refine SR.run (v:=.int .i64 (0:Nat)) (w':=w) ?_ rfl rfl (h w (Kp.refl _) (by rw [hL]; exact hO))
    cases A2 <;> simp [execOp,resolve,invoke,builtin,hx,hy,Builtin.copy_,run_underlying ht.1,Builtin.lenOf,hq,sizeOf,typeInfo,hi,Builtin.firstCells,loadCells,loadCellsFrom,goInt]
  | some a =>
    obtain ⟨g,cs,hg,hRw,htk,hmc⟩:=hO.raw (by rw [hA]; rfl)
    rw [hg] at hx
    have hL2l:(L2.take q).length=q:=by rw [List.length_take,← hR.len]; omega
    refine SR.copyR ht hx hy hRw hq oB (vs:=(L2.take q).flatMap enc) (by rw [flat_len hR.esz,hL2l]) (fun h0 j u hu=>?_) (fun h0=>hR.some oB) (fun u hu=>?_) fun w' hk hR'=>h w' (hk.sub fun b hb=>by rw [hg,hb]) ?_
    · refine hR.flat j u ?_
      rw [← flat_take hR.esz L2 q (by rw [← hR.len]; omega),List.getElem?_take] at hu
      split at hu
      · exact hu
      · cases hu
    · obtain ⟨q',_,hu⟩:=List.mem_flatMap.1 hu
      exact List.all_eq_true.1 (h1 q') u hu
    · rw [hg]
      have hlen:=hO.len
      exact hR'.own hmc (by rw [List.length_append,List.length_append,List.length_take,hL2l,List.length_drop]; omega) hO.esz (spl_flat hO.esz hO.len hL2l.symm hlm htk)
theorem r_cap {d:Option Tmp} {gg:Option (Nat × Bool)} {m:Nat} (ht:P.underlying t=some (.slice e)) (hx:ev n f x=.slice A m c):Run P ⟨d,.call ⟨.builtin .cap,#[x],#[t]⟩,ty,p,af,gg⟩ n f w (.int .i64 c):=by
  simp [Run,execOp,resolve,invoke,builtin,Builtin.cap_,hx,run_underlying ht,goInt]
theorem zero_flat {zx:α} (hzx:z.cells=(enc zx).toArray) (he:∀ x,(enc x).length=sz) (hpos:0<sz) (k:Nat):(Builtin.zeroCells z.cells k).toList=(List.replicate k zx).flatMap enc:=by
  have:=flat_rep z zx hzx he hpos k
  have hs:z.cells.size=sz:=by rw [hzx]; simpa using he zx
  rw [← this]
  unfold Builtin.zeroCells madeCells
  rw [hs]
theorem SR.appZ {d m k:Nat} {zx:α} {tn:TypeId} {kn:IntKind} (ht:TEl P t e z sz by_) (htn:P.underlying tn=some (.int kn)) (hzx:z.cells=(enc zx).toArray) (hx:ev n f x=.slice A m c) (hy:ev n f y=.int .i64 k) (hO:SlO w base enc sz e A m c L)
    (hk:0<k) (hg:c<m+k) (hb:(m+k)*by_≤140737488355328) (h63:m+k≤9223372036854775807)
    (h:∀ g c' w',g=w.heap.size→Lo w w'→SlO w' w.heap.size enc sz e (some ⟨g,0,none⟩) (m+k) c' (L++List.replicate k zx)→SR P ops N R X n rest (set f d (.slice (some ⟨g,0,none⟩) (m+k) c')) w') :
    SR P ops N R X n (⟨some d,.call ⟨.builtin .append,#[x,y],#[t,tn]⟩,ty,p,af,none⟩ :: rest) f w:=by
  obtain ⟨i,hi,hz,hsz,hby⟩:=ht.parts
  have hpos:=ht.2.2.2
  have hcap:=hO.rd.cap
  have hfl:(L.flatMap enc).length=m*sz:=by rw [flat_len hO.esz,← hO.len]
  have hold:(Builtin.firstCells i.size m (.slice A m c)).run P w.drew=.ok (L.flatMap enc).toArray w.drew:=by
    cases A with
    | none =>
      have hm0:m=0:=by
        rcases Nat.eq_zero_or_pos m with h0 | h0
        · exact h0
        · have:=hO.rd.some h0; cases this
      have hL:L=[]:=List.eq_nil_of_length_eq_zero (by rw [← hO.len,hm0])
      subst hL
      simp [Builtin.firstCells]
    | some a =>
      have:=run_loadCells_list (P:=P) w.drew a (L.flatMap enc) (fun j u hu=>hO.rd.flat j u hu)
      rw [hfl] at this
      simp [Builtin.firstCells,hsz,this]
  have hrun:=Go.Lib.run_append_grow_zeros (P:=P) w t tn ty e i z .i64 kn ht.1 htn hi hz A m c (L.flatMap enc) hold k hk oB hg oB
    (by rw [hby]; have:k*by_≤(m+k)*by_:=Nat.mul_le_mul_right _ oB; omega) (growslice_fits hg (by rw [hby]; exact hb))
  have hge:=grownCap_ge w (m+k) c e
  have hmx:=grownCap_le_maxLen w (m+k) c e (by unfold maxLen; omega)
  refine SR.run (v:=.slice (some ⟨w.heap.size,0,none⟩) (m+k) (grownCap w (m+k) c e)) (w':=w.drew.alloc (.cells ((L.flatMap enc).toArray++Builtin.zeroCells z.cells k++Builtin.zeroCells z.cells (grownCap w (m+k) c e-(m+k))) e)) ?_ rfl rfl (h _ _ _ rfl ((Lo.drew w).trans (Lo.alloc _ _)) ?_)
  · simp [execOp,resolve,invoke,builtin,hx,hy,hrun]
  · refine Rw.own (cs:=L.flatMap enc++(Builtin.zeroCells z.cells k).toList++(Builtin.zeroCells z.cells (grownCap w (m+k) c e-(m+k))).toList) ⟨?_,?_,Nat.le_refl _,hmx,?_⟩ hge (by rw [List.length_append,List.length_replicate,← hO.len]) hO.esz ?_
    · have:=heap_alloc_new w.drew (.cells ((L.flatMap enc).toArray++Builtin.zeroCells z.cells k++Builtin.zeroCells z.cells (grownCap w (m+k) c e-(m+k))) e)
      refine this.trans (congrArg (fun q=>some (Obj.cells q e (0,0))) ?_)
      apply Array.ext'
      simp
    · rw [List.length_append,List.length_append,hfl,zero_flat hzx hO.esz hpos,zero_flat hzx hO.esz hpos,flat_len hO.esz,flat_len hO.esz,List.length_replicate,List.length_replicate,← Nat.add_mul,← Nat.add_mul]
      congr 1; omega
    · simp
    · rw [zero_flat hzx hO.esz hpos,← List.flatMap_append]
      exact List.take_left' (by rw [flat_len hO.esz,List.length_append,List.length_replicate,← hO.len])
theorem ins_grow {α:Type} {L V:List α} {nL nV i:Nat} {z:α} {k:Nat} (hl:nL=L.length) (hv:nV=V.length) (hi:i≤nL) (hk:k=nL+nV-i) :
    ((L.take i++List.replicate k z).take i++V.take nV++(L.take i++List.replicate k z).drop (i+nV)).take (i+nV)++(L.drop i).take (nL-i)++((L.take i++List.replicate k z).take i++V.take nV++(L.take i++List.replicate k z).drop (i+nV)).drop (i+nV+(nL-i))=L.take i++V++L.drop i:=by
  have h1:(L.take i).length=i:=by rw [List.length_take]; omega
  have h2:(L.take i++List.replicate k z).take i=L.take i:=List.take_left' h1
  have h3:V.take nV=V:=List.take_of_length_le oB
  have h4:(L.drop i).take (nL-i)=L.drop i:=List.take_of_length_le (by rw [List.length_drop]; omega)
  have h6:(L.take i++V++(L.take i++List.replicate k z).drop (i+nV)).drop (i+nV+(nL-i))=[] :=
    List.drop_of_length_le (by simp only [List.length_append,List.length_drop,List.length_replicate,List.length_take]; omega)
  rw [h2,h3,h4,h6,List.append_nil,List.take_left' (by rw [List.length_append,h1,hv])]
theorem ins_end {α:Type} {L V:List α} {n i:Nat} (hl:n=L.length) (h:n≤i):L++V=L.take (i:Int).toNat++V++L.drop (i:Int).toNat:=by
  rw [Int.toNat_natCast,List.take_of_length_le oB,List.drop_of_length_le oB,List.append_nil]
def Ovl (P:Program) (k:FuncId) (tS tR:TypeId):Prop:=∀ args w,(callFunc k args).run P w=((Extern.SlicesOverlaps.overlaps #[tS,tS] #[tR] args).run P w).andThen fun v w'=>.ok (.value v) w'
theorem SR.over {d:Nat} {k:FuncId} {tR:TypeId} {ts:Array TypeId} {gv m cv lb cb l cV:Nat} {curV:Array Value} {eV:TypeId} (hk:Ovl P k t tR) (ht:TEl P t e z sz by_) (hx:ev n f x=.slice (some ⟨gv,0,none⟩) m cv) (hy:ev n f y=.slice (cutA (some ⟨g,0,none⟩) cV l sz) lb cb)
    (hne:gv≠g) (hv:w.heap[gv]?=some (.cells curV eV (0,0))) (hR:Rw w base sz e g c cs) (hc:0<c)
    (h:SR P ops N R X n rest (set f d (.bool false)) w) :
    SR P ops N R X n (⟨some d,.call ⟨.value (.func k),#[x,y],ts⟩,ty,p,af,none⟩ :: rest) f w:=by
  obtain ⟨o,ho,_⟩:=cutA_some g cV l sz
  rw [ho] at hy
  obtain ⟨i,hi,hz,hsz,hby⟩:=ht.parts
  have hpos:=ht.2.2.2
  have hov:=Go.Lib.run_overlaps_apart (P:=P) w t tR e ht.1 sz (fun w=>by simp [sizeOf,typeInfo,hi,hsz]) ⟨gv,0,none⟩ ⟨g,o,none⟩ m cv lb cb hne eV e curV.size (c*sz)
    (by simp [World.shape?,hv]) (by simp [World.shape?,hR.heap,hR.len]) (by have:=Nat.mul_pos hc hpos; omega) (by simp [World.frozen?,hv]) (by simp [World.frozen?,hv])
  have hr:=hk #[.slice (some ⟨gv,0,none⟩) m cv,.slice (some ⟨g,o,none⟩) lb cb] w
  rw [hov] at hr
  refine SR.run (v:=.bool false) (w':=w) ?_ rfl rfl h
  simp only [Result.andThen] at hr
  simp [execOp,resolve,Deferred.ofValue,invoke,hx,hy,hr,show ev n f (.func k)=.func (.func k) #[] #[] from rfl]
end
end Go.Proofs.YtndcchndcghmoaaGreatDoor.Fw
namespace Go.Proofs.YtndcchndcghmoaaGreatDoor
open Go Go.RowKit Fw
set_option maxRecDepth 10000
set_option maxHeartbeats 2000000
set_option linter.unusedVariables false
theorem ent119:Ent Tryz.prog 119:=en Tryz.func119
theorem ent163:Ent Tryz.prog 163:=en Tryz.func163
theorem tel67:TEl Tryz.prog 67 71 (.agg (List.toArray [str ([]:List UInt8),str ([]:List UInt8)])) 2 32:=⟨by kernel_rfl,by kernel_rfl,rfl,by decide⟩
theorem und44:Tryz.prog.underlying 44=some (.slice 9):=by kernel_rfl
theorem und67:Tryz.prog.underlying 67=some (.slice 71):=by kernel_rfl
theorem c_impl_recovered (w:World) (s:List UInt8) (ar:(s.length:Int)≤5000000) (hE:EnvW w):Calls Tryz.prog 70 #[str s] w fun e w'=>∃ A1' n1' c1',e=.returned (.tuple (List.toArray [.slice A1' n1' c1',i6 ((opN s).2:Int)]))∧SlO w' w.heap.size encLogRecord 2 71 A1' n1' c1' ((opN s).1)∧Lo w w':=by
 refine cW 46 Tryz.func70 G G G (Ws (Wr (Q (r_as (v:=.slice none 0 0) G)<|Q (aI G)<|Qn (Ws (Wr (Q (r_as (v:=.slice none 0 0) G)<|Qn (Ws (Wr (Q (aI G)<|Qn (Ws (Wl (WL (σ:=(List LogRecord) × Nat × (Option Addr) × Nat × Nat) (fun g=>[(0,str s),(2,.slice none 0 0),(3,i6 0),(4,.slice g.2.2.1 g.2.2.2.1 g.2.2.2.2),(5,i6 (g.2.1:Int))]) (fun g w'=>(Lo w w')∧(SlO w' w.heap.size encLogRecord 2 71 g.2.2.1 g.2.2.2.1 g.2.2.2.2 g.1)∧(OpTo s g.1 g.2.1)) (fun g=>60-g.1.length) (([]:List LogRecord),0,(none:Option Addr),0,0) ?_ ?_ ?_))))))))))))
 ·exact ⟨G,G,G,G,(eI (by first | (first | omega | rfl | (rw [cut_line]; omega)) | (dsimp only; (first | omega | rfl | (rw [cut_line]; omega))))),trivial⟩
 ·exact ⟨(lr w),(oq (SlO.nil (base:=w.heap.size) (e:=71) (enc:=encLogRecord) (fun _=>G) (Nat.le_refl _)) oX),(by (try dsimp only); exact OpTo.zero)⟩
 ·rintro ⟨R,r,y,c,z⟩ f2 N J
  obtain ⟨k,f,K⟩:(Lo w N)∧(SlO N w.heap.size encLogRecord 2 71 y c z R)∧(OpTo s R r):=J
  refine (?_:W _ _ _ _ _ (act _ (sets f2 [(0,str s),(2,.slice none 0 0),(3,i6 0),(4,.slice y c z),(5,i6 (r:Int))])) _)
  have al:=k.size
  have ap:=f.len
  have aq:=f.rd.bound
  have U:R.length≤60∧r≤s.length:=K.rng
  have V:(s.drop r).length≤s.length:=(by rw [List.length_drop]; omega)
  refine Ws (Ws (Wr (Q (mL G)<|Q (r_len und67 G)<|Q (r_lt G G)<|Qn (Wd G (fun I=>?_) (fun I=>?_)))))
  ·refine Wk (Wl (Ws (Wr (Q (mS G)<|Q (mI G)<|Q (r_cutlS (l:=r) und9 G G G oA)<|Qv ent118 (c_strings_Cut N (s.drop r) ([10]:List UInt8) oB (hE.lo k)) G fun M h ag=>?_))))
   have m:=k.lo h
   have X:(Lib.cut (s.drop r) ([10]:List UInt8)).1.length≤(s.drop r).length∧(Lib.cut (s.drop r) ([10]:List UInt8)).2.1.length≤(s.drop r).length:=cut_len (s.drop r) ([10]:List UInt8)
   refine Q (mT G)<|Q (xS G G)<|Q (xS G G)<|Q (xB G G)<|Q (aS G)<|Q (aS G)<|Q (aB G)<|Qn (Ws (Wr (Q (mL G)<|Q (r_len und67 G)<|Q (mS G)<|Qv ent119 (c_impl_decode M (c:Int) ((Lib.cut (s.drop r) ([10]:List UInt8)).1) oB oD (hE.lo m)) G fun au i ah=>(Q (mT G)<|Q (xG G G)<|Q (xB G G)<|Qa (l:=[str ([]:List UInt8),str ([]:List UInt8)]) tz71 G ?_))))
   intro A aw S p ac D
   refine Qw (o:=0) (vs:=[str (((impl_decode (c:Int) ((Lib.cut (s.drop r) ([10]:List UInt8)).1)).1).Command),str (((impl_decode (c:Int) ((Lib.cut (s.drop r) ([10]:List UInt8)).1)).1).Reply)]) agg71.2 G G G G D ler G ?_
   intro O q ae E
   refine Q (aB G)<|Qn (Ws (Ws ?_))
   have j:=(((f.lo h).lo i).lo p).kd q (nE (g:=A) ((f.lo h).lo i))
   refine WJ (fun f' w'=>At f' [(0,str s),(2,.slice none 0 0),(3,i6 0),(4,.slice y c z),(5,i6 (r:Int)),(6,str ((Lib.cut (s.drop r) ([10]:List UInt8)).1)),(9,pt A),(34,.bool (decide (((!((Lib.cut (s.drop r) ([10]:List UInt8)).2.2))=true)∨((!((impl_decode (c:Int) ((Lib.cut (s.drop r) ([10]:List UInt8)).1)).2))=true))))]∧Lo O w') ?_ ?_
   ·refine Q (mB G)<|Q (rN G)<|Q (mB G)<|SR.split (fun d=>?_) (fun d=>?_)
    ·have Y:=bnot_t d
     refine Qs<|Qs<|Q (pT G G)<|Qn (⟨_,G,⟨⟨G,G,G,G,G,G,G,(eDT ((jot d).1 trivial)),trivial⟩,(lr _)⟩⟩)
    ·have Z:=bnot_f d
     refine Qg (mB G)<|Qg (rN G)<|Q (pF G G)<|Qn (⟨_,G,⟨⟨G,G,G,G,G,G,G,(eBD (jof (ne_true_of_eq_false d))),trivial⟩,(lr _)⟩⟩)
   rintro an ax ⟨x,a⟩
   rw [← sA x]
   have ai:=a.size
   have n:=(((m.lo i).lo p).new q).lo a
   refine Wd G (fun u=>?_) (fun u=>?_)
   ·refine Wx (xo G (xh (Ws (Wr (Q (mL G)<|Q (mI G)<|Q (aL G)<|Q (aI G)<|Qn (We (ret2 G (v:=.slice _ _ _) (v':=i6 _) G G ?_)))))))
    refine ⟨y,c,z,eR (eT2 G (eI ?_)),(oq ((j.lo a).down) ?_),n⟩ <;> (have hn:=‹_=R.length›; subst hn; rw [OpTo.stop ‹OpTo s R r› (by first | exact .inl oB | exact .inr (rec_noI ‹_∨_›))])
   ·have aa:¬((!((Lib.cut (s.drop r) ([10]:List UInt8)).2.2))=true):=(not_or.1 u).1
    have ab:¬((!((impl_decode (c:Int) ((Lib.cut (s.drop r) ([10]:List UInt8)).1)).2))=true):=(not_or.1 u).2
    refine Wk (Ws (Wr (Q (mL G)<|Q (lG agg71 G (E.lo a) G)<|Ql (vs:=[.agg (List.toArray [str (((impl_decode (c:Int) ((Lib.cut (s.drop r) ([10]:List UInt8)).1)).1).Command),str (((impl_decode (c:Int) ((Lib.cut (s.drop r) ([10]:List UInt8)).1)).1).Reply)])]) (L:=([((impl_decode (c:Int) ((Lib.cut (s.drop r) ([10]:List UInt8)).1)).1)]:List LogRecord)) (enc:=encLogRecord) tel67 (fun _=>G) G G G oG ?_)))
    intro ao ay T b B
    have aj:=b.size
    refine Qp tel67 G G ((j.lo a).lo b) (B.rd) (fun _=>G) oB oB ?_
    intro F H az t C P
    have ak:=t.size
    refine Q (aL G)<|Qn (Wr (Q (mI G)<|Q (mS G)<|Q (r_len_s und9 G)<|Q (r_add G G oB)<|Q (r_add G G oB)<|Q (aI G)<|Qn (⟨(R++[rec1 R.length (s.drop r)],r+(befB (s.drop r) 10).length+1,F,c+1,H),_,G,⟨G,G,G,G,(eI (by first | (first | omega | rfl | (rw [cut_line]; omega)) | (dsimp only; (first | omega | rfl | (rw [cut_line]; omega))))),trivial⟩,⟨((n.lo b).step t (fun i_ hi_ e'=>by have:=((j.lo a).lo b).base_le e'; first | omega | exact e' | exact .inl e' | exact .inr e')),(oq C (by have hn:=‹_=R.length›; subst hn; unfold rec1; rw [cut_line])),?_⟩,?_⟩)))
    ·exact (by (try dsimp only); have hn:=‹_=R.length›; subst hn; exact OpTo.next ‹OpTo s R r› oB (rec_yesI ‹¬(_∨_)›))
    ·exact (by (try dsimp only); simp only [List.length_append,List.length_cons,List.length_nil]; omega)
  ·refine Wx (xh (Ws (Wr (Q (mL G)<|Q (mI G)<|Q (aL G)<|Q (aI G)<|Qn (We (ret2 G (v:=.slice _ _ _) (v':=i6 _) G G ?_))))))
   refine ⟨y,c,z,eR (eT2 G (eI ?_)),(oq (f.down) ?_),k⟩ <;> (have hn:=‹_=R.length›; subst hn; rw [OpTo.stop ‹OpTo s R r› (by first | exact .inl oB | exact .inr (rec_noI ‹_∨_›))])
theorem c_spec_l33Open (w:World) (s:List UInt8) (aX:(s.length:Int)≤5000000):Calls Tryz.prog 111 #[str s] w fun e w'=>∃ A1' n1' c1',e=.returned (.tuple (List.toArray [.slice A1' n1' c1',i6 ((opN s).2:Int)]))∧SlO w' w.heap.size encLogRecord 2 71 A1' n1' c1' ((opN s).1)∧Lo w w':=by
 refine cW 52 Tryz.func111 G G G (Ws (Wr (Q (r_as (v:=.slice none 0 0) G)<|Q (aI G)<|Qn (Ws (Wr (Ql (vs:=[]) (L:=([]:List LogRecord)) (enc:=encLogRecord) tel67 (fun _=>G) G G G oG ?_))))))
 intro g1 w2 aW Y ae
 have aY:=Y.size
 refine Q (aL G)<|Qn (Ws (Wr (Q (aI G)<|Qn (Ws (Wl (WL (σ:=(List LogRecord) × Nat × (Option Addr) × Nat × Nat) (fun g=>[(0,str s),(2,.slice none 0 0),(3,i6 0),(4,.slice g.2.2.1 g.2.2.2.1 g.2.2.2.2),(5,i6 (g.2.1:Int))]) (fun g w'=>(Lo w w')∧(SlO w' w.heap.size encLogRecord 2 71 g.2.2.1 g.2.2.2.1 g.2.2.2.2 g.1)∧(OpTo s g.1 g.2.1)) (fun g=>60-g.1.length) (([]:List LogRecord),0,(pA g1),0,0) ?_ ?_ ?_))))))
 ·exact ⟨G,G,G,G,(eI (by first | (first | omega | rfl | (rw [splitB_head]; omega)) | (dsimp only; (first | omega | rfl | (rw [splitB_head]; omega))))),trivial⟩
 ·exact ⟨((lr w).lo Y),ae,(by (try dsimp only); exact OpTo.zero)⟩
 ·rintro ⟨R,r,N,d,O⟩ f9 M T
  obtain ⟨u,f,X⟩:(Lo w M)∧(SlO M w.heap.size encLogRecord 2 71 N d O R)∧(OpTo s R r):=T
  refine (?_:W _ _ _ _ _ (act _ (sets f9 [(0,str s),(2,.slice none 0 0),(3,i6 0),(4,.slice N d O),(5,i6 (r:Int))])) _)
  have ag:=u.size
  have an:=f.len
  have ao:=f.rd.bound
  have ar:R.length≤60∧r≤s.length:=X.rng
  have au:(s.drop r).length≤s.length:=(by rw [List.length_drop]; omega)
  refine Ws (Ws (WJ (fun f' w'=>At f' [(0,str s),(2,.slice none 0 0),(3,i6 0),(4,.slice N d O),(5,i6 (r:Int)),(18,.bool (decide (((r:Int)<(s.length:Int))∧((d:Int)<60))))]∧Lo M w') ?_ ?_))
  ·refine Q (mI G)<|Q (mS G)<|Q (r_len_s und9 G)<|Q (r_lt G G)<|Q (mB G)<|QD (fun D=>?_) (fun D=>?_)
   ·refine Qg (mL G)<|Qg (r_len und67 G)<|Qg (r_lt G G)<|Q (pT G G)<|Qn (⟨_,G,⟨⟨G,G,G,G,G,(eDD (jat D)),trivial⟩,(lr _)⟩⟩)
   ·refine Qs<|Qs<|Qs<|Q (pF G G)<|Qn (⟨_,G,⟨⟨G,G,G,G,G,(eDF (jaf D).2),trivial⟩,(lr _)⟩⟩)
  rintro aQ ah ⟨I,h⟩
  rw [← sA I]
  have aH:=h.size
  have x:=u.lo h
  refine Wd G (fun E=>?_) (fun E=>?_)
  ·have aw:(r:Int)<(s.length:Int):=E.1
   have ax:(d:Int)<60:=E.2
   refine Wk (Wl (Ws (Wr (Q (mS G)<|Q (mI G)<|Q (r_cutlS (l:=r) und9 G G G oA)<|Qc ent55 (c_spec_l1Split ah (s.drop r) (10:UInt8) oD) G ?_))))
   rintro e ai ⟨Z,K,ab,rfl,b,m⟩
   refine ⟨_,G,?_⟩
   have aJ:=m.size
   have ap:=b.len
   have aq:=b.rd.bound
   have ay:=splitB_len (10:UInt8) (s.drop r)
   refine Q (aL G)<|Qn (Ws ?_)
   have z:=(f.lo h).lo m
   refine Wr (Q (mL G)<|?_)
   have t:=(b.rd).elem (i:=0) oB
   have az:=splitB_gt (10:UInt8) (s.drop r)
   have aA:(s.drop r).length≤s.length:=by rw [List.length_drop]; omega
   have aC:=splitB_el t
   refine Q (rX tsl44 (b.rd) G G oB)<|Q (r_ld (v:=str (gt (splitB (10:UInt8) (s.drop r)) 0)) sca9 G ((b.rd).cell0 t G))<|Q (mL G)<|Q (r_len und67 G)<|Qv ent163 (c_spec_l33Read ai (gt (splitB (10:UInt8) (s.drop r)) 0) (d:Int) oD oB) G fun aZ j aK=>(Q (mT G)<|Q (xG G G)<|Q (xB G G)<|Qa (l:=[str ([]:List UInt8),str ([]:List UInt8)]) tz71 G ?_)
   intro C a6 al n aF U
   refine Qw (o:=0) (vs:=[str (((spec_l33Read (gt (splitB (10:UInt8) (s.drop r)) 0) (d:Int)).1).Command),str (((spec_l33Read (gt (splitB (10:UInt8) (s.drop r)) 0) (d:Int)).1).Reply)]) agg71.2 G G G G U ler G ?_
   intro aj p aG V
   refine Q (aB G)<|Qn (Ws (Ws ?_))
   have k:=((z.lo j).lo n).kd p (nE (g:=C) (z.lo j))
   have A:=((b.lo j).lo n).kd p (nE (g:=C) (b.lo j))
   refine WJ (fun f' w'=>At f' [(0,str s),(2,.slice none 0 0),(3,i6 0),(4,.slice N d O),(5,i6 (r:Int)),(6,.slice Z K ab),(7,pt C),(38,.bool (decide (((K:Int)<2)∨((!((spec_l33Read (gt (splitB (10:UInt8) (s.drop r)) 0) (d:Int)).2))=true))))]∧Lo aj w') ?_ ?_
   ·refine Q (mL G)<|Q (r_len und44 G)<|Q (r_lt G G)<|Q (mB G)<|QD (fun F=>?_) (fun F=>?_)
    ·refine Qs<|Qs<|Q (pT G G)<|Qn (⟨_,G,⟨⟨G,G,G,G,G,G,G,(eDT ((jot F).1 trivial)),trivial⟩,(lr _)⟩⟩)
    ·refine Qg (mB G)<|Qg (rN G)<|Q (pF G G)<|Qn (⟨_,G,⟨⟨G,G,G,G,G,G,G,(eBD (jof F)),trivial⟩,(lr _)⟩⟩)
   rintro aR a7 ⟨J,a⟩
   rw [← sA J]
   have aM:=a.size
   have y:=((((x.lo m).lo j).lo n).new p).lo a
   refine Wd G (fun H=>?_) (fun H=>?_)
   ·refine Wx (xo G (xh (Ws (Wr (Q (mL G)<|Q (mI G)<|Q (aL G)<|Q (aI G)<|Qn (We (ret2 G (v:=.slice _ _ _) (v':=i6 _) G G ?_)))))))
    refine ⟨N,d,O,eR (eT2 G (eI ?_)),(oq ((k.lo a).down) ?_),y⟩ <;> (have hn:=‹_=R.length›; subst hn; rw [OpTo.stop ‹OpTo s R r› (by first | exact stopS ‹¬(_∧_)› | exact .inr (recS_no oB ‹_=(splitB _ _).length› ‹_∨_›))])
   ·have aD:¬((K:Int)<2):=(not_or.1 H).1
    have aE:¬((!((spec_l33Read (gt (splitB (10:UInt8) (s.drop r)) 0) (d:Int)).2))=true):=(not_or.1 H).2
    refine Wk (Ws (Wr (Q (mL G)<|Q (r_lda (l:=[str (((spec_l33Read (gt (splitB (10:UInt8) (s.drop r)) 0) (d:Int)).1).Command),str (((spec_l33Read (gt (splitB (10:UInt8) (s.drop r)) 0) (d:Int)).1).Reply)]) agg71 G (fun _ _ hu=>(V.lo a).cell hu) G)<|Ql (vs:=[.agg (List.toArray [str (((spec_l33Read (gt (splitB (10:UInt8) (s.drop r)) 0) (d:Int)).1).Command),str (((spec_l33Read (gt (splitB (10:UInt8) (s.drop r)) 0) (d:Int)).1).Reply)])]) (L:=([((spec_l33Read (gt (splitB (10:UInt8) (s.drop r)) 0) (d:Int)).1)]:List LogRecord)) (enc:=encLogRecord) tel67 (fun _=>G) G G G oG ?_)))
    intro aV a8 am c P
    have aN:=c.size
    refine Qp tel67 G G ((k.lo a).lo c) (P.rd) (fun _=>G) oB oB ?_
    intro aa ac ba q S ak
    have aO:=q.size
    refine Q (aL G)<|Qn ?_
    have B:=((A.lo a).lo c).kp q (fun b_ hb e'=>by have h1:=((k.lo a).lo c).base_le e'; have h2:=((A.lo a).lo c).base_le hb; have h4:=(f.lo h).base_le e'; omega)
    refine Wr (Q (mI G)<|Q (mL G)<|Q (rX tsl44 (B.rd) G G oB)<|Q (r_ld (v:=str (gt (splitB (10:UInt8) (s.drop r)) 0)) sca9 G ((B.rd).cell0 t G))<|Q (r_len_s und9 G)<|Q (r_add G G oB)<|Q (r_add G G oB)<|Q (aI G)<|Qn (⟨(R++[rec1 R.length (s.drop r)],r+(befB (s.drop r) 10).length+1,aa,d+1,ac),_,G,⟨G,G,G,G,(eI (by first | (first | omega | rfl | (rw [splitB_head]; omega)) | (dsimp only; (first | omega | rfl | (rw [splitB_head]; omega))))),trivial⟩,⟨((y.lo c).step q (fun i_ hi_ e'=>by have:=((k.lo a).lo c).base_le e'; first | omega | exact e' | exact .inl e' | exact .inr e')),(oq S (by have hn:=‹_=R.length›; subst hn; rw [(recS_yes oB ‹_=(splitB _ _).length› ‹¬(_∨_)›).2])),?_⟩,?_⟩))
    ·exact (by (try dsimp only); have hn:=‹_=R.length›; subst hn; exact OpTo.next ‹OpTo s R r› oB ((recS_yes oB ‹_=(splitB _ _).length› ‹¬(_∨_)›).1))
    ·exact (by (try dsimp only); simp only [List.length_append,List.length_cons,List.length_nil]; omega)
  ·refine Wx (xh (Ws (Wr (Q (mL G)<|Q (mI G)<|Q (aL G)<|Q (aI G)<|Qn (We (ret2 G (v:=.slice _ _ _) (v':=i6 _) G G ?_))))))
   refine ⟨N,d,O,eR (eT2 G (eI ?_)),(oq ((f.lo h).down) ?_),x⟩ <;> (have hn:=‹_=R.length›; subst hn; rw [OpTo.stop ‹OpTo s R r› (by first | exact stopS ‹¬(_∧_)› | exact .inr (recS_no oB ‹_=(splitB _ _).length› ‹_∨_›))])
end Go.Proofs.YtndcchndcghmoaaGreatDoor
namespace Go.Proofs.YtndcchndcghmoaaGreatDoor
open Go Go.RowKit Fw
set_option maxRecDepth 10000
set_option maxHeartbeats 2000000
set_option linter.unusedVariables false
theorem agg35:TAgg Tryz.prog 35 3:=tG
theorem bld35_0_1_2 (a0:List UInt8) (a1:List UInt8) (a2:Int):Tryz.prog.built 35 [(0,str a0),(1,str a1),(2,i6 a2)]=some (List.toArray [str a0,str a1,i6 a2]):=by kernel_rfl
theorem ent111:Ent Tryz.prog 111:=en Tryz.func111
theorem ent63:Ent Tryz.prog 63:=en Tryz.func63
theorem ent69:Ent Tryz.prog 69:=en Tryz.func69
theorem ent70:Ent Tryz.prog 70:=en Tryz.func70
theorem fa35_0:FA Tryz.prog 35 0 0:=fun _ _=>by kernel_rfl
theorem fa35_1:FA Tryz.prog 35 1 1:=fun _ _=>by kernel_rfl
theorem fa35_2:FA Tryz.prog 35 2 2:=fun _ _=>by kernel_rfl
theorem sca3:TSca Tryz.prog 3:=tS
theorem tz35:TZ Tryz.prog 35 (.agg (List.toArray [str ([]:List UInt8),str ([]:List UInt8),i6 0])):=fun _=>by kernel_rfl
theorem z_c_impl_IsValidLog_40 (l:Log) (j:(l.Durable.length:Int)+(l.Pending.length:Int)≤4000000) (a:Nat) (c:a=((opN (l.Durable++l.Pending)).1).length) (d:(a:Int)≤9223372036854775807) (g:(opN (l.Durable++l.Pending)).1.length≤60∧(opN (l.Durable++l.Pending)).2≤(l.Durable++l.Pending).length∧(opN (l.Durable++l.Pending)).2≤24360) (b:Nat) (e:b=((opN l.Durable).1).length) (f:(b:Int)≤9223372036854775807) (h:(opN l.Durable).1.length≤60∧(opN l.Durable).2≤l.Durable.length∧(opN l.Durable).2≤24360):((((opN (l.Durable++l.Pending)).2:Int)=((l.Durable.length:Int)+(l.Pending.length:Int)))∧((((opN l.Durable).2:Int)=(l.Durable.length:Int))∧(l.Count=(a:Int))))↔(LogOK l):=by
 first | assumption | (intro hh; have i:=log_rng hh; omega) | (rw [log_iff]; simp only [List.length_append] at *; omega)
theorem c_impl_IsValidLog (w:World) (l:Log) (y:(l.Durable.length:Int)+(l.Pending.length:Int)≤4000000) (hE:EnvW w):Calls Tryz.prog 69 #[.agg (List.toArray (encLog l))] w fun e w'=>e=.returned (.bool (decide (LogOK l)))∧Lo w w':=by
 refine cW 45 Tryz.func69 G G G (Ws (Wr (bx G ?_)))
 intro P M K x L f
 have n:=(lr w).lo x
 refine Q (aB G)<|Qn (Ws (Wr (Q (fA fa35_0 G)<|Q (lB sca9 G f G)<|Q (fA fa35_1 G)<|Q (lB sca9 G f G)<|Q (r_cat G G oA)<|Qc ent70 (c_impl_recovered M (l.Durable++l.Pending) oD (hE.lo n)) G ?_)))
 rintro e O ⟨E,u,H,rfl,h,a⟩
 refine ⟨_,G,?_⟩
 have B:=a.size
 have g:=n.lo a
 have o:=h.len
 have p:=h.rd.bound
 have s:(opN (l.Durable++l.Pending)).1.length≤60∧(opN (l.Durable++l.Pending)).2≤(l.Durable++l.Pending).length∧(opN (l.Durable++l.Pending)).2≤24360:=opN_len (l.Durable++l.Pending)
 refine Q (mT G)<|Q (xL G G)<|Q (xI G G)<|Q (aL G)<|Q (aI G)<|Qn (Ws (Wr (Q (fA fa35_0 G)<|Q (lB sca9 G (f.lo a) G)<|Qc ent70 (c_impl_recovered O l.Durable oD (hE.lo g)) G ?_)))
 rintro e A ⟨F,z,I,rfl,i,c⟩
 refine ⟨_,G,?_⟩
 have C:=c.size
 have q:=i.len
 have r:=i.rd.bound
 have t:(opN l.Durable).1.length≤60∧(opN l.Durable).2≤l.Durable.length∧(opN l.Durable).2≤24360:=opN_len l.Durable
 refine Q (mT G)<|Q (xL G G)<|Q (xI G G)<|Q (aL G)<|Q (aI G)<|Qn (Ws ?_)
 have b:=(f.lo a).lo c
 refine WJ (fun f' w'=>At f' [(2,.bool (decide ((((opN (l.Durable++l.Pending)).2:Int)=((l.Durable.length:Int)+(l.Pending.length:Int)))∧((((opN l.Durable).2:Int)=(l.Durable.length:Int))∧(l.Count=(u:Int))))))]∧Lo A w') ?_ ?_
 ·refine Q (mI G)<|Q (fA fa35_0 G)<|Q (lB sca9 G b G)<|Q (r_len_s und9 G)<|Q (fA fa35_1 G)<|Q (lB sca9 G b G)<|Q (r_len_s und9 G)<|Q (r_add G G oB)<|Q (r_eq G G)<|Q (mB G)<|QD (fun d=>?_) (fun d=>?_)
  ·refine Qg (mI G)<|Qg (fA fa35_0 G)<|Qg (lB sca9 G b G)<|Qg (r_len_s und9 G)<|Qg (r_eq G G)<|Q (pT G G)<|Q (mB G)<|QD (fun k=>?_) (fun k=>?_)
   ·refine Qg (fA fa35_2 G)<|Qg (lB sca3 G b G)<|Qg (mL G)<|Qg (r_len und67 G)<|Qg (r_eq G G)<|Q (pT G G)<|Q (aB G)<|Qn (⟨_,G,⟨⟨(eDD ((jat k).trans (jat d))),trivial⟩,(lr _)⟩⟩)
   ·refine Qs<|Qs<|Qs<|Qs<|Qs<|Q (pF G G)<|Q (aB G)<|Qn (⟨_,G,⟨⟨(eDF ((jaf k).trans (jat d)).2),trivial⟩,(lr _)⟩⟩)
  ·refine Qs<|Qs<|Qs<|Qs<|Qs<|Q (pF G G)<|Q (mB G)<|Qs<|Qs<|Qs<|Qs<|Qs<|Q (pF G G)<|Q (aB G)<|Qn (⟨_,G,⟨⟨(eDF (jaf d).2),trivial⟩,(lr _)⟩⟩)
 rintro J N ⟨m,j⟩
 rw [← sA m]
 have D:=j.size
 refine We (ret1 G (v:=.bool _) G (⟨eR (eDD (z_c_impl_IsValidLog_40 l y u o p s z q r t)),((g.lo c).lo j)⟩))
theorem z_c_spec_l33Log_10 (l:Log) (b:(l.Durable.length:Int)+(l.Pending.length:Int)≤4000000) (c:30000<((l.Durable.length:Int)+(l.Pending.length:Int))):¬(LogOK l):=by
 first | assumption | (intro hh; have a:=log_rng hh; omega) | (rw [log_iff]; simp only [List.length_append] at *; omega)
theorem z_c_spec_l33Log_42 (l:Log) (j:(l.Durable.length:Int)+(l.Pending.length:Int)≤4000000) (k:¬(30000<((l.Durable.length:Int)+(l.Pending.length:Int)))) (a:Nat) (c:a=((opN (l.Durable++l.Pending)).1).length) (d:(a:Int)≤9223372036854775807) (g:(opN (l.Durable++l.Pending)).1.length≤60∧(opN (l.Durable++l.Pending)).2≤(l.Durable++l.Pending).length∧(opN (l.Durable++l.Pending)).2≤24360) (b:Nat) (e:b=((opN l.Durable).1).length) (f:(b:Int)≤9223372036854775807) (h:(opN l.Durable).1.length≤60∧(opN l.Durable).2≤l.Durable.length∧(opN l.Durable).2≤24360):((((opN (l.Durable++l.Pending)).2:Int)=((l.Durable.length:Int)+(l.Pending.length:Int)))∧((((opN l.Durable).2:Int)=(l.Durable.length:Int))∧((a:Int)=l.Count)))↔(LogOK l):=by
 first | assumption | (intro hh; have i:=log_rng hh; omega) | (rw [log_iff]; simp only [List.length_append] at *; omega)
theorem c_spec_l33Log (w:World) (l:Log) (r:(l.Durable.length:Int)+(l.Pending.length:Int)≤4000000):Calls Tryz.prog 63 #[.agg (List.toArray (encLog l))] w fun e w'=>e=.returned (.bool (decide (LogOK l)))∧Lo w w':=by
 refine cW 53 Tryz.func63 G G G (Ws (Wr (bx G ?_)))
 intro P N L y M c
 have m:=(lr w).lo y
 refine Q (aB G)<|Qn (Ws (Ws (Wr (Q (fA fa35_0 G)<|Q (lB sca9 G c G)<|Q (r_len_s und9 G)<|Q (fA fa35_1 G)<|Q (lB sca9 G c G)<|Q (r_len_s und9 G)<|Q (r_add G G oB)<|Q (r_gt G G)<|Qn (Wd G (fun x=>?_) (fun x=>?_))))))
 ·refine Ws (Wr (Q (aB G)<|Qn (We (ret1 G (v:=.bool _) G (⟨eR (eDF (z_c_spec_l33Log_10 l r x)),m⟩)))))
 ·refine Wk (Ws (Wr (Q (fA fa35_0 G)<|Q (lB sca9 G c G)<|Q (fA fa35_1 G)<|Q (lB sca9 G c G)<|Q (r_cat G G oA)<|Qc ent111 (c_spec_l33Open N (l.Durable++l.Pending) oD) G ?_)))
  rintro e A ⟨F,u,I,rfl,g,a⟩
  refine ⟨_,G,?_⟩
  have C:=a.size
  have n:=g.len
  have o:=g.rd.bound
  have s:(opN (l.Durable++l.Pending)).1.length≤60∧(opN (l.Durable++l.Pending)).2≤(l.Durable++l.Pending).length∧(opN (l.Durable++l.Pending)).2≤24360:=opN_len (l.Durable++l.Pending)
  refine Q (mT G)<|Q (xL G G)<|Q (xI G G)<|Q (aL G)<|Q (aI G)<|Qn (Ws (Wr (Q (fA fa35_0 G)<|Q (lB sca9 G (c.lo a) G)<|Qc ent111 (c_spec_l33Open A l.Durable oD) G ?_)))
  rintro e B ⟨H,z,J,rfl,h,d⟩
  refine ⟨_,G,?_⟩
  have D:=d.size
  have p:=h.len
  have q:=h.rd.bound
  have t:(opN l.Durable).1.length≤60∧(opN l.Durable).2≤l.Durable.length∧(opN l.Durable).2≤24360:=opN_len l.Durable
  refine Q (mT G)<|Q (xL G G)<|Q (xI G G)<|Q (aL G)<|Q (aI G)<|Qn (Ws ?_)
  have b:=(c.lo a).lo d
  refine WJ (fun f' w'=>At f' [(2,.bool (decide ((((opN (l.Durable++l.Pending)).2:Int)=((l.Durable.length:Int)+(l.Pending.length:Int)))∧((((opN l.Durable).2:Int)=(l.Durable.length:Int))∧((u:Int)=l.Count)))))]∧Lo B w') ?_ ?_
  ·refine Q (mI G)<|Q (fA fa35_0 G)<|Q (lB sca9 G b G)<|Q (r_len_s und9 G)<|Q (fA fa35_1 G)<|Q (lB sca9 G b G)<|Q (r_len_s und9 G)<|Q (r_add G G oB)<|Q (r_eq G G)<|Q (mB G)<|QD (fun f=>?_) (fun f=>?_)
   ·refine Qg (mI G)<|Qg (fA fa35_0 G)<|Qg (lB sca9 G b G)<|Qg (r_len_s und9 G)<|Qg (r_eq G G)<|Q (pT G G)<|Q (mB G)<|QD (fun j=>?_) (fun j=>?_)
    ·refine Qg (mL G)<|Qg (r_len und67 G)<|Qg (fA fa35_2 G)<|Qg (lB sca3 G b G)<|Qg (r_eq G G)<|Q (pT G G)<|Q (aB G)<|Qn (⟨_,G,⟨⟨(eDD ((jat j).trans (jat f))),trivial⟩,(lr _)⟩⟩)
    ·refine Qs<|Qs<|Qs<|Qs<|Qs<|Q (pF G G)<|Q (aB G)<|Qn (⟨_,G,⟨⟨(eDF ((jaf j).trans (jat f)).2),trivial⟩,(lr _)⟩⟩)
   ·refine Qs<|Qs<|Qs<|Qs<|Qs<|Q (pF G G)<|Q (mB G)<|Qs<|Qs<|Qs<|Qs<|Qs<|Q (pF G G)<|Q (aB G)<|Qn (⟨_,G,⟨⟨(eDF (jaf f).2),trivial⟩,(lr _)⟩⟩)
  rintro K O ⟨k,i⟩
  rw [← sA k]
  have E:=i.size
  refine We (ret1 G (v:=.bool _) G (⟨eR (eDD (z_c_spec_l33Log_42 l r x u n o s z p q t)),(((m.lo a).lo d).lo i)⟩))
theorem c_impl_AppendRecord (w:World) (l:Log) (r:LogRecord) (al:(l.Durable.length:Int)+(l.Pending.length:Int)≤4000000) (hE:EnvW w):Calls Tryz.prog 50 #[.agg (List.toArray (encLog l)),.agg (List.toArray (encLogRecord r))] w fun e w'=>e=.returned (.tuple (List.toArray [.agg (List.toArray [str (((appN l r).1).Durable),str (((appN l r).1).Pending),i6 (((appN l r).1).Count)]),i6 ((appN l r).2)]))∧Lo w w':=by
 refine cW 37 Tryz.func50 G G G (Ws (Wr (bx G ?_)))
 intro g1 w2 ak K am J
 refine bx G ?_
 intro g9 an N p W m
 refine Qa (l:=[str ([]:List UInt8),str ([]:List UInt8),i6 0]) tz35 G ?_
 intro I H O b X n
 have g:=(((lr w).lo K).lo p).lo b
 refine Q (aI G)<|Qn (Ws (Ws ?_))
 have d:=(J.lo p).lo b
 refine WJ (fun f' w'=>At f' [(2,pt g1),(3,pt g9),(4,pt I),(5,i6 0),(15,.bool (decide ((¬(LogOK l))∨(¬(RecOK r)))))]∧Lo H w') ?_ ?_
 ·refine Q (lG agg35 G d G)<|Qv ent69 (c_impl_IsValidLog H l oB (hE.lo g)) G fun L c ab=>(Q (rN G)<|Q (mB G)<|QN (fun j=>?_) (fun j=>?_))
  ·refine Qs<|Qs<|Qs<|Q (pT G G)<|Qn (⟨_,G,⟨⟨G,G,G,G,(eDT ((jmf j).1 trivial)),trivial⟩,c⟩⟩)
  ·have P:=log_rng j
   refine Qg (lG agg71 G ((m.lo b).lo c) G)<|SR.gcall G ent48 (c_impl_IsValidRecord L r (hE.lo (g.lo c))) G ?_
   rintro e ao ⟨rfl,q⟩
   refine ⟨_,G,?_⟩
   have ac:=q.size
   refine Qg (rN G)<|Q (pF G G)<|Qn (⟨_,G,⟨⟨G,G,G,G,(eND (jmt j)),trivial⟩,(c.trans q)⟩⟩)
 rintro ah M ⟨x,a⟩
 rw [← sA x]
 have ae:=a.size
 have h:=g.lo a
 refine Wd G (fun t=>?_) (fun t=>?_)
 ·refine Ws (Wr (Q (lG agg35 G (d.lo a) G)<|Qw (o:=0) (vs:=[str l.Durable,str l.Pending,i6 l.Count]) agg35.2 G G G G (n.lo a) ler G ?_))
  intro ap B Y y
  refine Q (aI G)<|Qn (We (retCT G G agg35 y G (v:=i6 _) G ?_))
  refine ⟨eR (eT2 (eA (eC (eS ?_) (eC (eS ?_) (eC (eI ?_) G)))) (eI ?_)),(h.new B)⟩ <;> (first | (rw [app_bad ‹_›]; done) | (rw [app_full ‹_› ‹_›]; done) | (rw [app_fullI ‹¬(_∨_)› ‹_=true›]; done) | (rw [app_yes ‹_› ‹_›]; done) | (rw [app_yesI ‹¬(_∨_)› ‹(!_)=false›]; done))
 ·have E:LogOK l:=(Classical.not_not.1 (not_or.1 t).1)
  have F:RecOK r:=(Classical.not_not.1 (not_or.1 t).2)
  have R:=log_rng E
  have S:=rec_rng F
  refine Wk (Ws (Wr (Q (fA fa35_2 G)<|Q (lB sca3 G (d.lo a) G)<|Q (lG agg71 G ((m.lo b).lo a) G)<|Qv ent99 (c_impl_EncodeRecord M l.Count r (hE.lo h)) G fun aq i ag=>?_)))
  have k:=h.lo i
  have T:(encN l.Count r).1.length≤406:=enc_len l.Count r
  refine Q (mT G)<|Q (xS G G)<|Q (xB G G)<|Q (aS G)<|Q (aB G)<|Qn (Ws (Ws ?_))
  have f:=(d.lo a).lo i
  have s:=(n.lo a).lo i
  refine Wr (Q (mB G)<|Q (rN G)<|Qn (Wb G (fun u=>?_) (fun u=>?_)))
  ·have U:=bnot_t u
   refine Ws (Wr (Q (lG agg35 G f G)<|Qw (o:=0) (vs:=[str l.Durable,str l.Pending,i6 l.Count]) agg35.2 G G G G s ler G ?_))
   intro ar C Z z
   refine Q (aI G)<|Qn (We (retCT G G agg35 z G (v:=i6 _) G ?_))
   refine ⟨eR (eT2 (eA (eC (eS ?_) (eC (eS ?_) (eC (eI ?_) G)))) (eI ?_)),(k.new C)⟩ <;> (first | (rw [app_bad ‹_›]; done) | (rw [app_full ‹_› ‹_›]; done) | (rw [app_fullI ‹¬(_∨_)› ‹_=true›]; done) | (rw [app_yes ‹_› ‹_›]; done) | (rw [app_yesI ‹¬(_∨_)› ‹(!_)=false›]; done))
  ·have V:=bnot_f u
   refine Wk (Ws (Wr (Q (fA fa35_0 G)<|Q (lB sca9 G f G)<|Q (fA fa35_1 G)<|Q (lB sca9 G f G)<|Q (mS G)<|Q (r_cat G G oA)<|Q (fA fa35_2 G)<|Q (lB sca3 G f G)<|Q (r_add G G oB)<|Q (r_build (vs:=[(0,str l.Durable),(1,str (l.Pending++((encN l.Count r).1))),(2,i6 (l.Count+1))]) G (bld35_0_1_2 _ _ _))<|Qw (o:=0) (vs:=[str l.Durable,str (l.Pending++((encN l.Count r).1)),i6 (l.Count+1)]) agg35.2 G G G G s ler G ?_)))
   intro au D aa A
   refine Q (aI G)<|Qn (We (retCT G G agg35 A G (v:=i6 _) G ?_))
   refine ⟨eR (eT2 (eA (eC (eS ?_) (eC (eS ?_) (eC (eI ?_) G)))) (eI ?_)),(k.new D)⟩ <;> (first | (rw [app_bad ‹_›]; done) | (rw [app_full ‹_› ‹_›]; done) | (rw [app_fullI ‹¬(_∨_)› ‹_=true›]; done) | (rw [app_yes ‹_› ‹_›]; done) | (rw [app_yesI ‹¬(_∨_)› ‹(!_)=false›]; done))
theorem c_spec_AppendRecord (w:World) (l:Log) (r:LogRecord) (bb:(l.Durable.length:Int)+(l.Pending.length:Int)≤4000000) (bc:(r.Command.length:Int)≤281474976710656∧(r.Reply.length:Int)≤281474976710656):Calls Tryz.prog 45 #[.agg (List.toArray (encLog l)),.agg (List.toArray (encLogRecord r))] w fun e w'=>e=.returned (.tuple (List.toArray [.agg (List.toArray [str (((appN l r).1).Durable),str (((appN l r).1).Pending),i6 (((appN l r).1).Count)]),i6 ((appN l r).2)]))∧Lo w w':=by
 refine cW 32 Tryz.func45 G G G (Ws (Wr (bx G ?_)))
 intro m w2 ba am be al
 refine bx G ?_
 intro g9 bf aE J aK I
 refine Qa (l:=[str ([]:List UInt8),str ([]:List UInt8),i6 0]) tz35 G ?_
 intro C aj aF j aM t
 refine Q (aI G)<|Qn (Ws (Ws ?_))
 have c:=(al.lo J).lo j
 refine WJ (fun f' w'=>At f' [(2,pt m),(3,pt g9),(4,pt C),(5,i6 0),(13,.bool (decide ((¬(LogOK l))∨(¬(RecOK r)))))]∧Lo aj w') ?_ ?_
 ·refine Q (lG agg35 G c G)<|Qv ent63 (c_spec_l33Log aj l oB) G fun az y aQ=>(Q (rN G)<|Q (mB G)<|QN (fun D=>?_) (fun D=>?_))
  ·refine Qs<|Qs<|Qs<|Q (pT G G)<|Qn (⟨_,G,⟨⟨G,G,G,G,(eDT ((jmf D).1 trivial)),trivial⟩,y⟩⟩)
  ·have aG:=log_rng D
   refine Qg (lG agg71 G ((I.lo j).lo y) G)<|SR.gcall G ent43 (c_spec_l33Good az r oO) G ?_
   rintro e bg ⟨rfl,K⟩
   refine ⟨_,G,?_⟩
   have aR:=K.size
   refine Qg (rN G)<|Q (pF G G)<|Qn (⟨_,G,⟨⟨G,G,G,G,(eND (jmt D)),trivial⟩,(y.trans K)⟩⟩)
 rintro a7 f ⟨N,b⟩
 rw [← sA N]
 have aT:=b.size
 have n:=((((lr w).lo am).lo J).lo j).lo b
 refine Wd G (fun M=>?_) (fun M=>?_)
 ·refine Ws (Wr (Q (lG agg35 G (c.lo b) G)<|Qw (o:=0) (vs:=[str l.Durable,str l.Pending,i6 l.Count]) agg35.2 G G G G (t.lo b) ler G ?_))
  intro bh Z aN X
  refine Q (aI G)<|Qn (We (retCT G G agg35 X G (v:=i6 _) G ?_))
  refine ⟨eR (eT2 (eA (eC (eS ?_) (eC (eS ?_) (eC (eI ?_) G)))) (eI ?_)),(n.new Z)⟩ <;> (first | (rw [app_bad ‹_›]; done) | (rw [app_full ‹_› ‹_›]; done) | (rw [app_fullI ‹¬(_∨_)› ‹_=true›]; done) | (rw [app_yes ‹_› ‹_›]; done) | (rw [app_yesI ‹¬(_∨_)› ‹(!_)=false›]; done))
 ·have ae:LogOK l:=(Classical.not_not.1 (not_or.1 M).1)
  have ag:RecOK r:=(Classical.not_not.1 (not_or.1 M).2)
  have aH:=log_rng ae
  have aJ:=rec_rng ag
  refine Wk (Ws (Ws (Wr (Q (fA fa35_2 G)<|Q (lB sca3 G (c.lo b) G)<|Q (r_eq G G)<|Qn (Wd G (fun ak=>?_) (fun ak=>?_))))))
  ·refine Ws (Wr (Q (lG agg35 G (c.lo b) G)<|Qw (o:=0) (vs:=[str l.Durable,str l.Pending,i6 l.Count]) agg35.2 G G G G (t.lo b) ler G ?_))
   intro bi aa aO Y
   refine Q (aI G)<|Qn (We (retCT G G agg35 Y G (v:=i6 _) G ?_))
   refine ⟨eR (eT2 (eA (eC (eS ?_) (eC (eS ?_) (eC (eI ?_) G)))) (eI ?_)),(n.new aa)⟩ <;> (first | (rw [app_bad ‹_›]; done) | (rw [app_full ‹_› ‹_›]; done) | (rw [app_fullI ‹¬(_∨_)› ‹_=true›]; done) | (rw [app_yes ‹_› ‹_›]; done) | (rw [app_yesI ‹¬(_∨_)› ‹(!_)=false›]; done))
  ·refine Wk (Ws (WA (Kp (fun b_=>b_=m) f) (fun f' w'=>At f' [(2,pt m),(4,pt C),(5,i6 0)]∧(Kp (fun b_=>b_=m) f w')∧(Blk w' m 35 [str l.Durable,str (l.Pending++(lineB l.Count r)),i6 l.Count])∧((lineB l.Count r).length≤r.Command.length+r.Reply.length+46)) mo ?_ ?_))
   ·intro ah a
    have aq:=a.size
    refine Av #[true,true,true,true,true,true,true,true,false] 1 (fun f' w'=>At f' [(2,pt m),(4,pt C),(5,i6 0),(25,str (l.Pending++(lineB l.Count r))),(26,.pointer (some ((⟨m,0,none⟩:Addr).add 1)))]∧(Kp (fun b_=>b_=m) f w')∧(Blk w' m 35 [str l.Durable,str l.Pending,i6 l.Count])∧((lineB l.Count r).length≤r.Command.length+r.Reply.length+46)) ?_ (fun A=>?_)
    ·rintro aA aU ⟨E,p,ac,L⟩
     rw [← sA E]
     have ar:=p.size
     refine Ab 8 G (Qw (o:=1) (vs:=[str (l.Pending++(lineB l.Count r))]) sca9.2 G G G G ac ler G ?_)
     intro aV S an O
     have s:=p.step S (fun _ _ e=>e)
     refine Qn ⟨s,_,G,(Ad oC (⟨(At.r G),s,O,L⟩))⟩
    refine Av #[true,true,true,true,true,false,false,false,false] 4 (fun f' w'=>At f' [(2,pt m),(4,pt C),(5,i6 0),(20,str l.Pending),(22,i6 l.Count),(23,.agg (List.toArray [str r.Command,str r.Reply]))]∧(Kp (fun b_=>b_=m) f w')∧(Blk w' m 35 [str l.Durable,str l.Pending,i6 l.Count])) ?_ (fun B=>?_)
    ·rintro aC ai ⟨F,q,ab⟩
     rw [← sA F]
     have au:=q.size
     refine Ab 5 G (Qv ent88 (c_spec_l33Line ai l.Count r oB (by first | omega | (dsimp only; omega) | (dsimp only; simp only [List.length_drop]; omega))) G fun aW u aw=>?_)
     have g:=q.lo u
     have V:(lineB l.Count r).length≤r.Command.length+r.Reply.length+46:=line_lenG (k:=l.Count) (e:=r) oB
     refine Qn ⟨g,_,G,(Ak 6 G g (fun w' hw'=>r_cat G G oA)<|Ak 7 G g (fun w' hw'=>fA fa35_1 G)<|Ag oC G (A _ _ (⟨(At.r G),g,(ab.lo u),V⟩)))⟩
    refine Ak 0 G (kr a) (fun w' hw'=>fA fa35_1 G)<|Ak 2 G (kr a) (fun w' hw'=>fA fa35_2 G)<|Ak 4 G (kr a) (fun w' hw'=>lG agg71 G (((I.lo j).lo b).kn hw' oB) G)<|Ar [1,3] oC G ⟨Bm G trivial ?_,Bm G trivial ?_,trivial⟩
    ·refine Q (lB sca9 G ((c.lo b).lo a) G) (Qn ⟨(kq f).lo a,_,G,(Ab 3 G (Q (lB sca3 G ((c.lo b).lo a) G) (Qn ⟨(kq f).lo a,_,G,(Ag oC G (B _ _ (⟨(At.r G),(kq f).lo a,((c.lo b).lo a)⟩)))⟩)))⟩)
    ·refine Q (lB sca3 G ((c.lo b).lo a) G) (Qn ⟨(kq f).lo a,_,G,(Ar [1,5] oC G ⟨Bm G trivial ?_,Bm G trivial ?_,trivial⟩)⟩)
     ·refine Q (lB sca9 G ((c.lo b).lo a) G) (Qn ⟨(kq f).lo a,_,G,(Ag oC G (B _ _ (⟨(At.r G),(kq f).lo a,((c.lo b).lo a)⟩)))⟩)
     ·refine Qv ent88 (c_spec_l33Line ah l.Count r oB (by first | omega | (dsimp only; omega) | (dsimp only; simp only [List.length_drop]; omega))) G fun aX i ax=>?_
      have d:=((kr a:Kp (fun b_=>b_=m) f _)).lo i
      have W:(lineB l.Count r).length≤r.Command.length+r.Reply.length+46:=line_lenG (k:=l.Count) (e:=r) oB
      refine Qn ⟨d,_,G,(Ab 1 G (Q (lB sca9 G (((c.lo b).lo a).lo i) G) (Qn ⟨d,_,G,(Ak 6 G d (fun w' hw'=>r_cat G G oA)<|Ak 7 G d (fun w' hw'=>fA fa35_1 G)<|Ag oC G (A _ _ (⟨(At.r G),d,(((c.lo b).lo a).lo i),W⟩)))⟩)))⟩
   rintro aD aY ⟨H,h,z,L⟩
   rw [← sA H]
   have ay:=h.size
   refine Ws ?_
   have U:=(t.lo b).kn h oB
   refine Wr (Q (fA fa35_2 G)<|Q (lB sca3 G z G)<|Q (r_add G G oB)<|Q (fA fa35_2 G)<|Qw (o:=2) (vs:=[i6 (l.Count+1)]) sca3.2 G G G G z ler G ?_)
   intro aZ x ao P
   refine Qn (Ws (Wr (Q (lG agg35 G P G)<|Qw (o:=0) (vs:=[str l.Durable,str (l.Pending++(lineB l.Count r)),i6 (l.Count+1)]) agg35.2 G G G G (U.kn x) ler G ?_)))
   intro a6 T ap R
   refine Q (aI G)<|Qn (We (retCT G G agg35 R G (v:=i6 _) G ?_))
   refine ⟨eR (eT2 (eA (eC (eS ?_) (eC (eS ?_) (eC (eI ?_) G)))) (eI ?_)),(((n.new h oB).new x).new T)⟩ <;> (first | (rw [app_bad ‹_›]; done) | (rw [app_full ‹_› ‹_›]; done) | (rw [app_fullI ‹¬(_∨_)› ‹_=true›]; done) | (rw [app_yes ‹_› ‹_›]; done) | (rw [app_yesI ‹¬(_∨_)› ‹(!_)=false›]; done))
theorem c_impl_isId (w:World) (n:Int):Calls Tryz.prog 122 #[i6 n] w fun e w'=>e=.returned (.bool (decide (1≤n∧n≤999)))∧Lo w w':=by
 refine cW 5 Tryz.func122 G G G (Ws (Wr (Q (aB G)<|Qn (Ws (Wr (Q (mI G)<|Qv ent66 (c_impl_within w n 1 999) G fun c a b=>(Q (aB G)<|Qn (We (ret1 G (v:=.bool _) G (⟨eR G,((lr w).lo a)⟩))))))))))
theorem c_impl_isMapId (w:World) (n:Int):Calls Tryz.prog 120 #[i6 n] w fun e w'=>e=.returned (.bool (decide (1≤n∧n≤99)))∧Lo w w':=by
 refine cW 5 Tryz.func120 G G G (Ws (Wr (Q (aB G)<|Qn (Ws (Wr (Q (mI G)<|Qv ent66 (c_impl_within w n 1 99) G fun c a b=>(Q (aB G)<|Qn (We (ret1 G (v:=.bool _) G (⟨eR G,((lr w).lo a)⟩))))))))))
theorem c_impl_isSum (w:World) (n:Int):Calls Tryz.prog 124 #[i6 n] w fun e w'=>e=.returned (.bool (decide (0≤n∧n≤9999)))∧Lo w w':=by
 refine cW 5 Tryz.func124 G G G (Ws (Wr (Q (aB G)<|Qn (Ws (Wr (Q (mI G)<|Qv ent66 (c_impl_within w n 0 9999) G fun c a b=>(Q (aB G)<|Qn (We (ret1 G (v:=.bool _) G (⟨eR G,((lr w).lo a)⟩))))))))))
theorem c_spec_l32Count (w:World) (n:Int):Calls Tryz.prog 131 #[i6 n] w fun e w'=>e=.returned (.bool (decide (0≤n∧n≤9999)))∧Lo w w':=by
 refine cW 5 Tryz.func131 G G G (Ws (Wr (Q (aB G)<|Qn (Ws (Wr (Q (mI G)<|Qv ent133 (c_spec_l1In w n 0 9999) G fun c a b=>(Q (aB G)<|Qn (We (ret1 G (v:=.bool _) G (⟨eR G,((lr w).lo a)⟩))))))))))
theorem c_spec_l1Least (w:World) (a:Int) (b:Int):Calls Tryz.prog 167 #[i6 a,i6 b] w fun e w'=>e=.returned (i6 (min a b))∧Lo w w':=by
 refine cW 10 Tryz.func167 G G G (Ws (Wr (Q (aI G)<|Qn (Ws (Ws (Wr (Q (mI G)<|Q (mI G)<|Q (r_lt G G)<|Qn (Wd G (fun c=>?_) (fun c=>?_)))))))))
 ·refine Ws (Wr (Q (mI G)<|Q (aI G)<|Qn (We (ret1 G (v:=i6 _) G (⟨eR (eI oB),(lr w)⟩)))))
 ·refine Wk (Ws (Wr (Q (mI G)<|Q (aI G)<|Qn (We (ret1 G (v:=i6 _) G (⟨eR (eI oB),(lr w)⟩))))))
end Go.Proofs.YtndcchndcghmoaaGreatDoor
namespace Go.Proofs.YtndcchndcghmoaaGreatDoor
open Go Go.RowKit Fw
set_option maxRecDepth 10000
set_option maxHeartbeats 2000000
set_option linter.unusedVariables false
variable {AL Ax1 Ax2 : Option Addr} {nL cL BL nx1 cx1 Bx1 nx2 cx2 Bx2 : Nat}
theorem agg102:TAgg Tryz.prog 102 3:=tG
theorem agg129:TAgg Tryz.prog 129 2:=tG
theorem ent171:Ent Tryz.prog 171:=en Tryz.func171
theorem ent172:Ent Tryz.prog 172:=en Tryz.func172
theorem ent173:Ent Tryz.prog 173:=en Tryz.func173
theorem ent174:Ent Tryz.prog 174:=en Tryz.func174
theorem ent196:Ent Tryz.prog 196:=en Tryz.func196
theorem fa102_0:FA Tryz.prog 102 0 0:=fun _ _=>by kernel_rfl
theorem fa102_1:FA Tryz.prog 102 1 1:=fun _ _=>by kernel_rfl
theorem fa102_2:FA Tryz.prog 102 2 2:=fun _ _=>by kernel_rfl
theorem fa129_0:FA Tryz.prog 129 0 0:=fun _ _=>by kernel_rfl
theorem fa129_1:FA Tryz.prog 129 1 1:=fun _ _=>by kernel_rfl
theorem fa34_0:FA Tryz.prog 34 0 0:=fun _ _=>by kernel_rfl
theorem sca31:TSca Tryz.prog 31:=tS
theorem tel93:TEl Tryz.prog 93 3 (i6 0) 1 8:=⟨by kernel_rfl,by kernel_rfl,rfl,by decide⟩
theorem tsl31:TSl Tryz.prog 31 102 3:=⟨by kernel_rfl,fun _=>by kernel_rfl⟩
theorem tsl32:TSl Tryz.prog 32 129 2:=⟨by kernel_rfl,fun _=>by kernel_rfl⟩
theorem tsl93:TSl Tryz.prog 93 3 1:=⟨by kernel_rfl,fun _=>by kernel_rfl⟩
theorem tz102:TZ Tryz.prog 102 (.agg (List.toArray [i6 0,i6 0,i6 0])):=fun _=>by kernel_rfl
theorem und183:Tryz.prog.underlying 183=some (.int .u64):=by kernel_rfl
theorem und31:Tryz.prog.underlying 31=some (.slice 102):=by kernel_rfl
theorem und32:Tryz.prog.underlying 32=some (.slice 129):=by kernel_rfl
theorem und93:Tryz.prog.underlying 93=some (.slice 3):=by kernel_rfl
theorem c_cmp_isNaN_int_ (w:World) (a:Int):Calls Tryz.prog 196 #[i6 a] w fun e w'=>e=.returned (.bool false)∧Lo w w':=by
 refine cW 6 Tryz.func196 G G G (Ws (Wr (Q (aB G)<|Qn (Ws (Wr (Q (mI G)<|Q (mI G)<|Q (r_ne_s G G)<|Q (aB G)<|Qn (We (ret1 G (v:=.bool _) G (⟨eR G,(lr w)⟩)))))))))
theorem z_c_cmp_Compare_int__10 (a:Int) (b:Int) (c:a<b):(-1)=cmpI a b:=by
 unfold cmpI; split <;> (try split) <;> omega
theorem z_c_cmp_Compare_int__12 (a:Int) (b:Int) (d:¬(a<b)) (c:b<a):1=cmpI a b:=by
 unfold cmpI; split <;> (try split) <;> omega
theorem z_c_cmp_Compare_int__13 (a:Int) (b:Int) (d:¬(a<b)) (c:¬(b<a)):0=cmpI a b:=by
 unfold cmpI; split <;> (try split) <;> omega
theorem c_cmp_Compare_int_ (w:World) (a:Int) (b:Int):Calls Tryz.prog 173 #[i6 a,i6 b] w fun e w'=>e=.returned (i6 (cmpI a b))∧Lo w w':=by
 refine cW 20 Tryz.func173 G G G (Ws (Wr (Q (aI G)<|Qn (Ws (Wr (Q (mI G)<|Qv ent196 (c_cmp_isNaN_int_ w a) G fun k g i=>(Q (aB G)<|Qn (Ws (Wr (Q (mI G)<|Qv ent196 (c_cmp_isNaN_int_ k b) G fun l h j=>?_))))))))))
 have d:=((lr w).lo g).lo h
 refine Q (aB G)<|Qn (Ws (Ws (Wr (Q (mB G)<|Qn (W.cond_f G (Wk (Ws (Ws (Wr (Q (mB G)<|Qn (W.cond_f G (Wk (Ws (Ws (Wr (Q (mI G)<|Q (mI G)<|Q (r_lt G G)<|Qn (Wd G (fun f=>?_) (fun f=>?_))))))))))))))))))
 ·refine Ws (Wr (Q (r_as (v:=i6 (-1)) G)<|Qn (We (ret1 G (v:=i6 _) G (⟨eR (eI (z_c_cmp_Compare_int__10 a b f)),d⟩)))))
 ·refine Wk (Ws (Ws (Wr (Q (mI G)<|Q (mI G)<|Q (r_gt G G)<|Qn (Wd G (fun c=>?_) (fun c=>?_))))))
  ·refine Ws (Wr (Q (aI G)<|Qn (We (ret1 G (v:=i6 _) G (⟨eR (eI (z_c_cmp_Compare_int__12 a b f c)),d⟩)))))
  ·refine Wk (Ws (Wr (Q (aI G)<|Qn (We (ret1 G (v:=i6 _) G (⟨eR (eI (z_c_cmp_Compare_int__13 a b f c)),d⟩))))))
theorem z_c_cmp_Or_int__11 (L:List Int) (nL:Nat) (hbdL:(nL:Int)≤9223372036854775807) (hleL:nL=L.length) (k:Nat) (c:k≤nL∧∀ j,j<k→gt L j=0) (f:(k:Int)<(nL:Int)) (d:L[k]?=some (gt L k)) (b:(gt L k)=0):k+1≤nL∧∀ j,j<k+1→gt L j=0:=by
 subst hleL
 have hh:=‹k≤L.length∧∀ j,j<k→gt L j=0›
 refine ⟨oB,fun j hj=>?_⟩
 rcases Nat.lt_or_ge j k with a | a
 ·exact hh.2 j a
 ·have e:j=k:=by omega
  rw [e]; first | assumption | exact Classical.not_not.1 ‹_›
theorem c_cmp_Or_int_ (w:World)  (L:List Int) (hL:SlR w BL encI 1 AL nL cL L):Calls Tryz.prog 174 #[.slice AL nL cL] w fun e w'=>e=.returned (i6 (orI L))∧Lo w w':=by
 refine cW 18 Tryz.func174 G G G ?_
 have hbdL:=hL.bound
 have hleL:=hL.len
 have hBbL:=hL.bd
 refine Ws (Wr (Q (aI G)<|Qn (Ws (Wr (Q (aI G)<|Qn (Ws (Ws (Wr (Q (mL G)<|Q (r_len und93 G)<|Q (r_mv (v:=i6 0) G)<|Qn (Wl (WL (σ:=Nat) (fun g=>[(3,i6 0),(6,.slice AL nL cL),(7,i6 (nL:Int)),(8,i6 (g:Int))]) (fun g w'=>(Lo w w')∧(SlR w' BL encI 1 AL nL cL L)∧(g≤nL∧∀ j,j<g→gt L j=0)) (fun g=>nL-g) 0 ?_ ?_ ?_)))))))))))
 ·exact (At.r G)
 ·exact ⟨(lr w),hL,(by exact ⟨Nat.zero_le _,fun _ h=>absurd h oB⟩)⟩
 ·rintro k p o f
  obtain ⟨a,b,l⟩:(Lo w o)∧(SlR o BL encI 1 AL nL cL L)∧(k≤nL∧∀ j,j<k→gt L j=0):=f
  refine (?_:W _ _ _ _ _ (act _ (sets p [(3,i6 0),(6,.slice AL nL cL),(7,i6 (nL:Int)),(8,i6 (k:Int))])) _)
  have n:=a.size
  refine Ws (Wr (Q (r_lt G G)<|Qn (Ws (Wd G (fun m=>?_) (fun m=>?_)))))
  ·refine Wk (Ws (Wl (Ws ?_)))
   have d:=b.elem (i:=k) oB
   refine Wr (Q (rX tsl93 b G G oB)<|Q (r_ld (v:=i6 (gt L k)) sca3 G (b.cell0 d G))<|Q (aI G)<|Qn (Ws (Wr (Q (mI G)<|Q (mI G)<|Q (r_ne G G)<|Qn (Wz G (fun c=>?_) (fun c=>?_))))))
   ·refine Ws (Wr (Q (mI G)<|Q (aI G)<|Qn (We (ret1 G (v:=i6 _) G (⟨eR (eI (by subst hleL; have hh:=‹k≤L.length∧∀ j,j<k→gt L j=0›; first | exact (orI_at hh.2 oB ‹_›).symm | exact (orI_none fun j hj=>hh.2 j oB).symm)),a⟩)))))
   ·refine Wk (Wr (Q (r_add G G oB)<|Q (mI G)<|Qn (⟨k+1,_,G,(At.r G),⟨a,b,?_⟩,?_⟩)))
    ·exact (z_c_cmp_Or_int__11 L nL hbdL hleL k l m d c)
    ·exact oB
  ·refine Wx (xh (Ws (Wr (Q (mI G)<|Q (aI G)<|Qn (We (ret1 G (v:=i6 _) G (⟨eR (eI (by subst hleL; have hh:=‹k≤L.length∧∀ j,j<k→gt L j=0›; first | exact (orI_at hh.2 oB ‹_›).symm | exact (orI_none fun j hj=>hh.2 j oB).symm)),a⟩)))))))
theorem c_impl_compareAway (w:World) (p:Away) (q:Away):Calls Tryz.prog 123 #[.agg (List.toArray (encAway p)),.agg (List.toArray (encAway q))] w fun e w'=>e=.returned (i6 (cmpA p q))∧Lo w w':=by
 refine cW 17 Tryz.func123 G G G (Ws (Wr (bx G ?_)))
 intro T V N x O m
 refine bx G ?_
 intro U s B c D i
 refine Q (aI G)<|Qn (Ws (WA (Lo s) (fun f' w'=>∃ (t:Nat),At f' [(4,i6 (orI ([cmpI p.Map q.Map,cmpI p.Reader q.Reader]:List Int)))]∧(Lo s w')) mo ?_ ?_))
 ·intro y a
  have E:=a.size
  refine Ak 0 G a (fun w' hw'=>fA fa129_0 G)<|Ak 1 G a (fun w' hw'=>lB sca3 G ((m.lo c).lo hw') G)<|Ak 2 G a (fun w' hw'=>fA fa129_0 G)<|Ak 3 G a (fun w' hw'=>lB sca3 G (i.lo hw') G)<|Ak 5 G a (fun w' hw'=>fA fa129_1 G)<|Ak 6 G a (fun w' hw'=>lB sca3 G ((m.lo c).lo hw') G)<|Ak 7 G a (fun w' hw'=>fA fa129_1 G)<|Ak 8 G a (fun w' hw'=>lB sca3 G (i.lo hw') G)<|Ab 4 G (Qv ent173 (c_cmp_Compare_int_ y p.Map q.Map) G fun z n F=>?_)
  have f:=a.lo n
  refine Qn ⟨f,_,G,(Ab 9 G (Qv ent173 (c_cmp_Compare_int_ z p.Reader q.Reader) G fun P o H=>?_))⟩
  have g:=f.lo o
  refine Qn ⟨g,_,G,(Ab 10 G (Ql (vs:=[i6 (cmpI p.Map q.Map),i6 (cmpI p.Reader q.Reader)]) (L:=([cmpI p.Map q.Map,cmpI p.Reader q.Reader]:List Int)) (enc:=encI) tel93 (fun _=>G) G G G oG ?_))⟩
  intro u A C j l
  have I:=j.size
  have h:=g.lo j
  refine Qn ⟨h,_,G,(Ab 11 G (Qv ent174 (c_cmp_Or_int_ A ([cmpI p.Map q.Map,cmpI p.Reader q.Reader]:List Int) (l.rd)) G fun R r J=>?_))⟩
  have b:=h.lo r
  refine Qn ⟨b,_,G,(Ak 12 G b (fun w' hw'=>aI G)<|Ad oC (⟨u,⟨G,trivial⟩,b⟩))⟩
 rintro M S ⟨t,k,d⟩
 rw [← sA k]
 have K:=d.size
 refine We (ret1 G (v:=i6 _) G (⟨eR (eI oX),((((lr w).lo x).lo c).lo d)⟩))
theorem z_c_slices_BinarySearchFunc___impl_Map_impl_Map_int__15 (L:List LMap) (nL:Nat) (hbdL:(nL:Int)≤9223372036854775807) (hleL:nL=L.length) (t:Int) (c:LMap→Int→Int) (d:(nL:Int)≤1048576) (i:Nat) (j:Nat) (b:i≤j∧j≤nL∧bsr (fun x=>decide (c x t<0)) L i j=bsr (fun x=>decide (c x t<0)) L 0 L.length) (f:(i:Int)<(j:Int)) (e:L[(((i:Int)+(j:Int)) / 2).toNat]?=some (gt L ((((i:Int)+(j:Int)) / 2).toNat))) (a:(c (gt L ((((i:Int)+(j:Int)) / 2).toNat)) t)<0):(i+j) / 2+1≤j∧j≤nL∧bsr (fun x=>decide (c x t<0)) L ((i+j) / 2+1) j=bsr (fun x=>decide (c x t<0)) L 0 L.length:=by
 subst hleL
 have hh:=‹_∧_∧bsr _ _ _ _=_›
 have hd:(((i:Int)+(j:Int)) / 2).toNat=(i+j) / 2:=by omega
 simp only [hd] at *
 first | exact ⟨oB,oB,(bsr_lo (p:=fun x=>decide (c x t<0)) oB (decide_eq_true ‹c _ t<0›)).trans hh.2.2⟩ | exact ⟨oB,oB,(bsr_hi (p:=fun x=>decide (c x t<0)) oB (decide_eq_false ‹¬c _ t<0›)).trans hh.2.2⟩
theorem z_c_slices_BinarySearchFunc___impl_Map_impl_Map_int__16 (L:List LMap) (nL:Nat) (hbdL:(nL:Int)≤9223372036854775807) (hleL:nL=L.length) (t:Int) (c:LMap→Int→Int) (d:(nL:Int)≤1048576) (i:Nat) (j:Nat) (b:i≤j∧j≤nL∧bsr (fun x=>decide (c x t<0)) L i j=bsr (fun x=>decide (c x t<0)) L 0 L.length) (f:(i:Int)<(j:Int)) (e:L[(((i:Int)+(j:Int)) / 2).toNat]?=some (gt L ((((i:Int)+(j:Int)) / 2).toNat))) (a:¬((c (gt L ((((i:Int)+(j:Int)) / 2).toNat)) t)<0)):i≤(i+j) / 2∧(i+j) / 2≤nL∧bsr (fun x=>decide (c x t<0)) L i ((i+j) / 2)=bsr (fun x=>decide (c x t<0)) L 0 L.length:=by
 subst hleL
 have hh:=‹_∧_∧bsr _ _ _ _=_›
 have hd:(((i:Int)+(j:Int)) / 2).toNat=(i+j) / 2:=by omega
 simp only [hd] at *
 first | exact ⟨oB,oB,(bsr_lo (p:=fun x=>decide (c x t<0)) oB (decide_eq_true ‹c _ t<0›)).trans hh.2.2⟩ | exact ⟨oB,oB,(bsr_hi (p:=fun x=>decide (c x t<0)) oB (decide_eq_false ‹¬c _ t<0›)).trans hh.2.2⟩
theorem c_slices_BinarySearchFunc___impl_Map_impl_Map_int_ (w:World)  (L:List LMap) (hL:SlR w BL encLMap 3 AL nL cL L) (t:Int) {kc:Nat} {capc:List Value} (c:LMap→Int→Int) (hc:Fnc2 Tryz.prog w kc capc (fun x=>.agg (List.toArray (encLMap x))) (fun x=>i6 x) c) (r:(nL:Int)≤1048576):Calls Tryz.prog 171 #[.slice AL nL cL,i6 t,.func (.func kc) #[] (List.toArray capc)] w fun e w'=>e=.returned (.tuple (List.toArray [i6 (bsP c t L:Int),.bool (decide (bsF c t L))]))∧Lo w w':=by
 refine cW 49 Tryz.func171 G G G ?_
 have hbdL:=hL.bound
 have hleL:=hL.len
 have hBbL:=hL.bd
 refine Ws (Wr (Q (aI G)<|Q (aB G)<|Qn (Ws (Wr (Q (mL G)<|Q (r_len und31 G)<|Q (aI G)<|Qn (Ws (Wr (Q (mI G)<|Q (aI G)<|Q (aI G)<|Qn (Ws (Wl (WL (σ:=Nat × Nat) (fun g=>[(0,.slice AL nL cL),(1,i6 t),(2,.func (.func kc) #[] (List.toArray capc)),(6,i6 0),(7,.bool false),(8,i6 (nL:Int)),(9,i6 (g.1:Int)),(10,i6 (g.2:Int))]) (fun g w'=>(Lo w w')∧(SlR w' BL encLMap 3 AL nL cL L)∧(g.1≤g.2∧g.2≤nL∧bsr (fun x=>decide (c x t<0)) L g.1 g.2=bsr (fun x=>decide (c x t<0)) L 0 L.length)) (fun g=>g.2-g.1) (0,nL) ?_ ?_ ?_)))))))))))
 ·exact ⟨G,G,G,G,G,G,(eI oF),G,trivial⟩
 ·exact ⟨(lr w),hL,(by (try dsimp only); subst hleL; exact ⟨oB,oB,G⟩)⟩
 ·rintro ⟨i,j⟩ E z y
  obtain ⟨d,a,q⟩:(Lo w z)∧(SlR z BL encLMap 3 AL nL cL L)∧(i≤j∧j≤nL∧bsr (fun x=>decide (c x t<0)) L i j=bsr (fun x=>decide (c x t<0)) L 0 L.length):=y
  refine (?_:W _ _ _ _ _ (act _ (sets E [(0,.slice AL nL cL),(1,i6 t),(2,.func (.func kc) #[] (List.toArray capc)),(6,i6 0),(7,.bool false),(8,i6 (nL:Int)),(9,i6 (i:Int)),(10,i6 (j:Int))])) _)
  have D:=d.size
  refine Ws (Ws (Wr (Q (mI G)<|Q (mI G)<|Q (r_lt G G)<|Qn (Wd G (fun u=>?_) (fun u=>?_)))))
  ·refine Wk (Wl (Ws (Wr (Q (mI G)<|Q (mI G)<|Q (r_add G G oB)<|Q (r_convU und183 und3 G oB)<|Q (r_half G G oB)<|Q (r_convI und3 und183 G oB)<|Q (aI G)<|Qn (Ws (Wr (Q (r_mv (v:=.func _ #[] (List.toArray _)) G)<|Q (mL G)<|Q (mI G)<|?_)))))))
   have p:=a.elem (i:=(((i:Int)+(j:Int)) / 2).toNat) oB
   refine Q (rX tsl31 a G G oB)<|Q (r_lda (l:=encLMap (gt L ((((i:Int)+(j:Int)) / 2).toNat))) agg102 G (fun _ _ hu=>a.cell p hu) (a.esz _))<|Q (mI G)<|SR.callv hc.1 G (hc.2 _ d (gt L ((((i:Int)+(j:Int)) / 2).toNat)) t) G ?_
   rintro e H ⟨rfl,b⟩
   refine ⟨_,G,?_⟩
   have A:=b.size
   have f:=d.lo b
   refine Q (r_lt G G)<|Qn (Wd G (fun m=>?_) (fun m=>?_))
   ·refine Wr (Q (mI G)<|Q (r_add G G oB)<|Q (aI G)<|Qn (⟨((i+j) / 2+1,j),_,G,⟨G,G,G,G,G,G,(eI oF),G,trivial⟩,⟨f,a.lo b,?_⟩,?_⟩))
    ·exact (z_c_slices_BinarySearchFunc___impl_Map_impl_Map_int__15 L nL hbdL hleL t c r i j q u p m)
    ·exact oH
   ·refine Wr (Q (mI G)<|Q (aI G)<|Qn (⟨(i,(i+j) / 2),_,G,⟨G,G,G,G,G,G,G,(eI oF),trivial⟩,⟨f,a.lo b,?_⟩,?_⟩))
    ·exact (z_c_slices_BinarySearchFunc___impl_Map_impl_Map_int__16 L nL hbdL hleL t c r i j q u p m)
    ·exact oH
  ·refine Wx (xh (Ws (WJ (fun f' w'=>At f' [(6,i6 (i:Int)),(7,.bool (decide (((i:Int)<(nL:Int))∧((c (gt L i) t)=0))))]∧Lo z w') ?_ ?_)))
   ·refine Q (mI G)<|Q (mI G)<|Q (mI G)<|Q (r_lt G G)<|Q (mB G)<|QD (fun n=>?_) (fun n=>?_)
    ·refine Qg (r_mv (v:=.func _ #[] (List.toArray _)) G)<|Qg (mL G)<|Qg (mI G)<|?_
     have s:=a.elem (i:=i) oB
     refine Qg (rX tsl31 a G G oB)<|Qg (r_lda (l:=encLMap (gt L i)) agg102 G (fun _ _ hu=>a.cell s hu) (a.esz _))<|Qg (mI G)<|SR.gcallv G hc.1 G (hc.2 _ d (gt L i) t) G ?_
     rintro e I ⟨rfl,h⟩
     refine ⟨_,G,?_⟩
     have B:=h.size
     refine Qg (r_eq G G)<|Q (pT G G)<|Q (aI G)<|Q (aB G)<|Qn (⟨_,G,⟨⟨G,(eDD (jat n)),trivial⟩,h⟩⟩)
    ·refine Qs<|Qs<|Qs<|Qs<|Qs<|Qs<|Qs<|Qs<|Q (pF G G)<|Q (aI G)<|Q (aB G)<|Qn (⟨_,G,⟨⟨G,(eDF (jaf n).2),trivial⟩,(lr _)⟩⟩)
   rintro F J ⟨o,k⟩
   rw [← sA o]
   have C:=k.size
   refine We (ret2 G (v:=i6 _) (v':=.bool _) G G (⟨eR (eT2 (eI (by subst hleL; have hh:=‹_∧_∧bsr _ _ _ _=_›; unfold bsP; rw [← hh.2.2,bsr_end oB])) (eDD (by subst hleL; have hh:=‹_∧_∧bsr _ _ _ _=_›; have e:bsP c t L=i:=(by unfold bsP; rw [← hh.2.2,bsr_end oB]); unfold bsF; rw [e]))),(d.lo k)⟩))
theorem z_c_slices_BinarySearchFunc___impl_Away_impl_Away_impl_Away__25 (L:List Away) (nL:Nat) (hbdL:(nL:Int)≤9223372036854775807) (hleL:nL=L.length) (t:Away) (c:Away→Away→Int) (f:(nL:Int)≤1048576) (i:Nat) (j:Nat) (a:i≤j∧j≤nL∧bsr (fun x=>decide (c x t<0)) L i j=bsr (fun x=>decide (c x t<0)) L 0 L.length) (d:(i:Int)<(j:Int)) (b:L[(((i:Int)+(j:Int)) / 2).toNat]?=some (gt L ((((i:Int)+(j:Int)) / 2).toNat))) (e:(c (gt L ((((i:Int)+(j:Int)) / 2).toNat)) t)<0):(i+j) / 2+1≤j∧j≤nL∧bsr (fun x=>decide (c x t<0)) L ((i+j) / 2+1) j=bsr (fun x=>decide (c x t<0)) L 0 L.length:=by
 subst hleL
 have hh:=‹_∧_∧bsr _ _ _ _=_›
 have hd:(((i:Int)+(j:Int)) / 2).toNat=(i+j) / 2:=by omega
 simp only [hd] at *
 first | exact ⟨oB,oB,(bsr_lo (p:=fun x=>decide (c x t<0)) oB (decide_eq_true ‹c _ t<0›)).trans hh.2.2⟩ | exact ⟨oB,oB,(bsr_hi (p:=fun x=>decide (c x t<0)) oB (decide_eq_false ‹¬c _ t<0›)).trans hh.2.2⟩
theorem z_c_slices_BinarySearchFunc___impl_Away_impl_Away_impl_Away__26 (L:List Away) (nL:Nat) (hbdL:(nL:Int)≤9223372036854775807) (hleL:nL=L.length) (t:Away) (c:Away→Away→Int) (f:(nL:Int)≤1048576) (i:Nat) (j:Nat) (a:i≤j∧j≤nL∧bsr (fun x=>decide (c x t<0)) L i j=bsr (fun x=>decide (c x t<0)) L 0 L.length) (d:(i:Int)<(j:Int)) (b:L[(((i:Int)+(j:Int)) / 2).toNat]?=some (gt L ((((i:Int)+(j:Int)) / 2).toNat))) (e:¬((c (gt L ((((i:Int)+(j:Int)) / 2).toNat)) t)<0)):i≤(i+j) / 2∧(i+j) / 2≤nL∧bsr (fun x=>decide (c x t<0)) L i ((i+j) / 2)=bsr (fun x=>decide (c x t<0)) L 0 L.length:=by
 subst hleL
 have hh:=‹_∧_∧bsr _ _ _ _=_›
 have hd:(((i:Int)+(j:Int)) / 2).toNat=(i+j) / 2:=by omega
 simp only [hd] at *
 first | exact ⟨oB,oB,(bsr_lo (p:=fun x=>decide (c x t<0)) oB (decide_eq_true ‹c _ t<0›)).trans hh.2.2⟩ | exact ⟨oB,oB,(bsr_hi (p:=fun x=>decide (c x t<0)) oB (decide_eq_false ‹¬c _ t<0›)).trans hh.2.2⟩
theorem c_slices_BinarySearchFunc___impl_Away_impl_Away_impl_Away_ (w:World)  (L:List Away) (hL:SlR w BL encAway 2 AL nL cL L) (t:Away) {kc:Nat} {capc:List Value} (c:Away→Away→Int) (hc:Fnc2 Tryz.prog w kc capc (fun x=>.agg (List.toArray (encAway x))) (fun x=>.agg (List.toArray (encAway x))) c) (C:(nL:Int)≤1048576):Calls Tryz.prog 227 #[.slice AL nL cL,.agg (List.toArray (encAway t)),.func (.func kc) #[] (List.toArray capc)] w fun e w'=>e=.returned (.tuple (List.toArray [i6 (bsP c t L:Int),.bool (decide (bsF c t L))]))∧Lo w w':=by
 refine cW 49 Tryz.func227 G G G ?_
 have hbdL:=hL.bound
 have hleL:=hL.len
 have hBbL:=hL.bd
 refine Ws (Wr (bx G ?_))
 intro E V O B P F
 refine Q (aI G)<|Q (aB G)<|Qn (Ws (Wr (Q (mL G)<|Q (r_len und32 G)<|Q (aI G)<|Qn (Ws (Wr (Q (mI G)<|Q (aI G)<|Q (aI G)<|Qn (Ws (Wl (WL (σ:=Nat × Nat) (fun g=>[(0,.slice AL nL cL),(2,.func (.func kc) #[] (List.toArray capc)),(4,pt E),(6,i6 0),(7,.bool false),(8,i6 (nL:Int)),(9,i6 (g.1:Int)),(10,i6 (g.2:Int))]) (fun g w'=>(Lo w w')∧(SlR w' BL encAway 2 AL nL cL L)∧(Blk w' E 129 [i6 t.Map,i6 t.Reader])∧(g.1≤g.2∧g.2≤nL∧bsr (fun x=>decide (c x t<0)) L g.1 g.2=bsr (fun x=>decide (c x t<0)) L 0 L.length)) (fun g=>g.2-g.1) (0,nL) ?_ ?_ ?_)))))))))
 ·exact ⟨G,G,G,G,G,G,(eI oF),G,trivial⟩
 ·exact ⟨((lr w).lo B),hL.lo B,F,(by (try dsimp only); subst hleL; exact ⟨oB,oB,G⟩)⟩
 ·rintro ⟨i,j⟩ N m y
  obtain ⟨d,a,f,o⟩:(Lo w m)∧(SlR m BL encAway 2 AL nL cL L)∧(Blk m E 129 [i6 t.Map,i6 t.Reader])∧(i≤j∧j≤nL∧bsr (fun x=>decide (c x t<0)) L i j=bsr (fun x=>decide (c x t<0)) L 0 L.length):=y
  refine (?_:W _ _ _ _ _ (act _ (sets N [(0,.slice AL nL cL),(2,.func (.func kc) #[] (List.toArray capc)),(4,pt E),(6,i6 0),(7,.bool false),(8,i6 (nL:Int)),(9,i6 (i:Int)),(10,i6 (j:Int))])) _)
  have H:=d.size
  have I:=f.lt
  refine Ws (Ws (Wr (Q (mI G)<|Q (mI G)<|Q (r_lt G G)<|Qn (Wd G (fun q=>?_) (fun q=>?_)))))
  ·refine Wk (Wl (Ws (Wr (Q (mI G)<|Q (mI G)<|Q (r_add G G oB)<|Q (r_convU und183 und3 G oB)<|Q (r_half G G oB)<|Q (r_convI und3 und183 G oB)<|Q (aI G)<|Qn (Ws (W.regD mo oC (Rq (fun w' hw'=>r_mv (v:=.func _ #[] (List.toArray _)) G)<|Rq (fun w' hw'=>mL G)<|Rq (fun w' hw'=>mI G)<|?_)))))))
   have k:=a.elem (i:=(((i:Int)+(j:Int)) / 2).toNat) oB
   refine Rq (fun w' hw'=>rX tsl32 (a.lo hw') G G oB)<|Rq (fun w' hw'=>r_lda (l:=encAway (gt L ((((i:Int)+(j:Int)) / 2).toNat))) agg129 G (fun _ _ hu=>(a.lo hw').cell k hu) ((a.lo hw').esz _))<|Rq (fun w' hw'=>lG agg129 G (f.lo hw') G)<|QR.callv hc.1 G (fun w' hw'=>(hc.2 _ (d.lo hw') (gt L ((((i:Int)+(j:Int)) / 2).toNat)) t).mono fun _ _ h=>⟨h.1,hw'.trans h.2⟩) G<|Rq (fun w' hw'=>r_lt G G)<|QR.nil ?_
   intro R b
   have J:=b.size
   have n:=d.lo b
   refine Wd G (fun r=>?_) (fun r=>?_)
   ·refine Wr (Q (mI G)<|Q (r_add G G oB)<|Q (aI G)<|Qn (⟨((i+j) / 2+1,j),_,G,⟨G,G,G,G,G,G,(eI oF),G,trivial⟩,⟨n,a.lo b,f.lo b,?_⟩,?_⟩))
    ·exact (z_c_slices_BinarySearchFunc___impl_Away_impl_Away_impl_Away__25 L nL hbdL hleL t c C i j o q k r)
    ·exact oH
   ·refine Wr (Q (mI G)<|Q (aI G)<|Qn (⟨(i,(i+j) / 2),_,G,⟨G,G,G,G,G,G,G,(eI oF),trivial⟩,⟨n,a.lo b,f.lo b,?_⟩,?_⟩))
    ·exact (z_c_slices_BinarySearchFunc___impl_Away_impl_Away_impl_Away__26 L nL hbdL hleL t c C i j o q k r)
    ·exact oH
  ·refine Wx (xh (Ws (W.regJD mo oC (fun f' w'=>At f' [(6,i6 (i:Int)),(7,.bool (decide (((i:Int)<(nL:Int))∧((c (gt L i) t)=0))))]∧Lo m w') ?_ ?_)))
   ·refine Rq (fun w' hw'=>mI G)<|Rq (fun w' hw'=>mI G)<|Rq (fun w' hw'=>mI G)<|Rq (fun w' hw'=>r_lt G G)<|Rq (fun w' hw'=>mB G)<|QR.splitD (fun s=>?_) (fun s=>?_)
    ·refine Rg G (fun w' hw'=>r_mv (v:=.func _ #[] (List.toArray _)) G)<|Rg G (fun w' hw'=>mL G)<|Rg G (fun w' hw'=>mI G)<|?_
     have D:=a.elem (i:=i) oB
     refine Rg G (fun w' hw'=>rX tsl32 (a.lo hw') G G oB)<|Rg G (fun w' hw'=>r_lda (l:=encAway (gt L i)) agg129 G (fun _ _ hu=>(a.lo hw').cell D hu) ((a.lo hw').esz _))<|Rg G (fun w' hw'=>lG agg129 G (f.lo hw') G)<|QR.gcallv G hc.1 G (fun w' hw'=>(hc.2 _ (d.lo hw') (gt L i) t).mono fun _ _ h=>⟨h.1,hw'.trans h.2⟩) G<|Rg G (fun w' hw'=>r_eq G G)<|Rq (fun w' hw'=>pT G G)<|Rq (fun w' hw'=>aI G)<|Rq (fun w' hw'=>aB G)<|QR.nil ?_
     intro S z
     exact ⟨⟨G,(eDD (jat s)),trivial⟩,z⟩
    ·refine Rs G<|Rs G<|Rs G<|Rs G<|Rs G<|Rs G<|Rs G<|Rs G<|Rq (fun w' hw'=>pF G G)<|Rq (fun w' hw'=>aI G)<|Rq (fun w' hw'=>aB G)<|QR.nil ?_
     intro T A
     exact ⟨⟨G,(eDF (jaf s).2),trivial⟩,A⟩
   rintro M U ⟨u,p⟩
   rw [← sA u]
   have K:=p.size
   refine We (ret2 G (v:=i6 _) (v':=.bool _) G G (⟨eR (eT2 (eI (by subst hleL; have hh:=‹_∧_∧bsr _ _ _ _=_›; unfold bsP; rw [← hh.2.2,bsr_end oB])) (eDD (by subst hleL; have hh:=‹_∧_∧bsr _ _ _ _=_›; have e:bsP c t L=i:=(by unfold bsP; rw [← hh.2.2,bsr_end oB]); unfold bsF; rw [e]))),(d.lo p)⟩))
theorem c__impl_Library__mapAt_1 (w:World) (m:LMap) (i:Int):Calls Tryz.prog 172 #[.agg (List.toArray (encLMap m)),i6 i] w fun e w'=>e=.returned (i6 (cmpM m i))∧Lo w w':=by
 refine cW 9 Tryz.func172 G G G (Ws (Wr (bx G ?_)))
 intro j h f c g b
 refine Q (aI G)<|Qn (Ws (Wr (Q (fA fa102_0 G)<|Q (lB sca3 G b G)<|Q (mI G)<|Qv ent173 (c_cmp_Compare_int_ h m.Id i) G fun k a d=>(Q (aI G)<|Qn (We (ret1 G (v:=i6 _) G (⟨eR (eI oX),(((lr w).lo c).lo a)⟩)))))))
theorem c__impl_Library__mapAt (w:World) (x:Library) (a:SlR w Bx1 encLMap 3 Ax1 nx1 cx1 x.Maps) (b:SlR w Bx2 encAway 2 Ax2 nx2 cx2 x.Away) (id:Int) (q:(nx1:Int)≤1048576):Calls Tryz.prog 121 #[.agg (List.toArray (cLb Ax1 nx1 cx1 Ax2 nx2 cx2 x)),i6 id] w fun e w'=>e=.returned (.tuple (List.toArray [i6 (bsP cmpM id x.Maps:Int),.bool (decide (bsF cmpM id x.Maps))]))∧Lo w w':=by
 refine cW 12 Tryz.func121 G G G ?_
 have j:=a.bound
 have l:=a.len
 have f:=a.bd
 have k:=b.bound
 have m:=b.len
 have g:=b.bd
 refine Ws (Wr (bx G ?_))
 intro t s p d r i
 refine Q (aI G)<|Q (aB G)<|Qn (Ws (Wr (Q (fA fa34_0 G)<|Q (lB sca31 G i G)<|Q (mI G)<|Qv ent171 (c_slices_BinarySearchFunc___impl_Map_impl_Map_int_ s x.Maps (a.lo d) id (fun (u_:LMap) (v_:Int)=>cmpM u_ v_) ⟨ent172,fun w'' hw'' x y=>(c__impl_Library__mapAt_1 w'' x y).mono fun _ _ h=>⟨h.1,h.2⟩⟩ oB) G fun u c o=>?_)))
 have n:bsP (fun (u_:LMap) (v_:Int)=>cmpM u_ v_) id x.Maps≤x.Maps.length:=bsP_le
 refine Q (xI G G)<|Q (xB G G)<|Q (aI G)<|Q (aB G)<|Qn (We (ret2 G (v:=i6 _) (v':=.bool _) G G (⟨eR (eT2 (eI oX) (eDD (by exact Iff.rfl))),(((lr w).lo d).lo c)⟩)))
theorem c__impl_Library__copies (w:World) (x:Library) (c:SlR w Bx1 encLMap 3 Ax1 nx1 cx1 x.Maps) (j:SlR w Bx2 encAway 2 Ax2 nx2 cx2 x.Away) (F:MapsOK x.Maps) (R:nx1≤8):Calls Tryz.prog 125 #[.agg (List.toArray (cLb Ax1 nx1 cx1 Ax2 nx2 cx2 x))] w fun e w'=>e=.returned (i6 (sumC x.Maps))∧Lo w w':=by
 refine cW 19 Tryz.func125 G G G ?_
 have B:=c.bound
 have D:=c.len
 have y:=c.bd
 have C:=j.bound
 have E:=j.len
 have z:=j.bd
 refine Ws (Wr (bx G ?_))
 intro V X P q S A
 refine Q (aI G)<|Qn (Ws (Wr (Q (aI G)<|Qn (Ws (Ws (Wr (Q (fA fa34_0 G)<|Q (lB sca31 G A G)<|Q (r_len und31 G)<|Q (r_mv (v:=i6 0) G)<|Qn (Wl (WL (σ:=Nat × Int) (fun g=>[(2,i6 0),(3,i6 g.2),(7,.slice Ax1 nx1 cx1),(8,i6 (nx1:Int)),(9,i6 (g.1:Int))]) (fun g w'=>(Lo w w')∧(SlR w' Bx1 encLMap 3 Ax1 nx1 cx1 x.Maps)∧(g.1≤nx1∧sumC (x.Maps.take g.1)=g.2∧0≤g.2∧g.2≤99*(g.1:Int))) (fun g=>nx1-g.1) (0,(0:Int)) ?_ ?_ ?_)))))))))
 ·exact (At.r G)
 ·exact ⟨((lr w).lo q),c.lo q,(by (try dsimp only); simp [sumC])⟩
 ·rintro ⟨k,t⟩ N s m
  obtain ⟨b,a,J⟩:(Lo w s)∧(SlR s Bx1 encLMap 3 Ax1 nx1 cx1 x.Maps)∧(k≤nx1∧sumC (x.Maps.take k)=t∧0≤t∧t≤99*(k:Int)):=m
  refine (?_:W _ _ _ _ _ (act _ (sets N [(2,i6 0),(3,i6 t),(7,.slice Ax1 nx1 cx1),(8,i6 (nx1:Int)),(9,i6 (k:Int))])) _)
  have H:=b.size
  refine Ws (Wr (Q (r_lt G G)<|Qn (Ws (Wd G (fun u=>?_) (fun u=>?_)))))
  ·refine Wk (Ws (Wl (Ws ?_)))
   have h:=a.elem (i:=k) oB
   have K:=maps_rng ‹MapsOK x.Maps› h
   refine Wr (Q (rX tsl31 a G G oB)<|Q (r_lda (l:=encLMap (gt x.Maps k)) agg102 G (fun _ _ hu=>a.cell h hu) (a.esz _))<|Qa (l:=[i6 0,i6 0,i6 0]) tz102 G ?_)
   intro O T I d L n
   refine Qw (o:=0) (vs:=[i6 ((gt x.Maps k).Id),i6 ((gt x.Maps k).Copies),i6 ((gt x.Maps k).Torn)]) agg102.2 G G G G n ler G ?_
   intro U f M p
   refine Qn (Wr (Q (mI G)<|Q (fA fa102_1 G)<|Q (lB sca3 G p G)<|Q (r_add G G oB)<|Q (aI G)<|Qn (Wr (Q (r_add G G oB)<|Q (mI G)<|Qn (⟨(k+1,t+((gt x.Maps k).Copies)),_,G,(At.r G),⟨((b.lo d).new f),((a.lo d).kn f),?_⟩,?_⟩)))))
   ·exact (by (try dsimp only); have hh:=‹_∧sumC _=_∧_›; have hq:=maps_rng F ‹x.Maps[k]?=some _›; exact ⟨oB,by rw [sumC_snoc oB,hh.2.1],oB,oB⟩)
   ·exact oH
  ·refine Wx (xh (Ws (Wr (Q (mI G)<|Q (aI G)<|Qn (We (ret1 G (v:=i6 _) G (⟨eR (eI (by have hh:=‹_∧sumC _=_∧_›; rw [← hh.2.1,List.take_of_length_le oB])),b⟩)))))))
theorem z_c_spec_l32There_9 (x:Library) (nx1:Nat) (a:(nx1:Int)≤9223372036854775807) (d:nx1=x.Maps.length) (nx2:Nat) (c:(nx2:Int)≤9223372036854775807) (e:nx2=x.Away.length) (b:Bool) (f:MapsOK x.Maps) (g:nx1≤8):0≤nx1∧thereS b (x.Maps.take 0)=(0:Int)∧0≤(0:Int)∧(0:Int)≤99*(0:Int):=by
 cases b <;> simp [thereS,sumC,sumT]
theorem c_spec_l32There (w:World) (x:Library) (f:SlR w Bx1 encLMap 3 Ax1 nx1 cx1 x.Maps) (h:SlR w Bx2 encAway 2 Ax2 nx2 cx2 x.Away) (b:Bool) (y:MapsOK x.Maps) (I:nx1≤8):Calls Tryz.prog 132 #[.agg (List.toArray (cLb Ax1 nx1 cx1 Ax2 nx2 cx2 x)),.bool b] w fun e w'=>e=.returned (i6 (if b=true then sumT x.Maps else sumC x.Maps))∧Lo w w':=by
 refine cW 32 Tryz.func132 G G G ?_
 have o:=f.bound
 have s:=f.len
 have E:=f.bd
 have p:=h.bound
 have u:=h.len
 have F:=h.bd
 refine Ws (Wr (bx G ?_))
 intro A R O q P H
 refine Q (aI G)<|Qn (Ws (Wr (Q (aI G)<|Qn (Ws (Ws (Wr (Q (aI G)<|Qn (Wl (WL (σ:=Nat × Int) (fun g=>[(1,.bool b),(2,pt A),(4,i6 0),(5,i6 g.2),(6,i6 (g.1:Int))]) (fun g w'=>(Lo w w')∧(Blk w' A 34 (cLb Ax1 nx1 cx1 Ax2 nx2 cx2 x))∧(SlR w' Bx1 encLMap 3 Ax1 nx1 cx1 x.Maps)∧(SlR w' Bx2 encAway 2 Ax2 nx2 cx2 x.Away)∧(g.1≤nx1∧thereS b (x.Maps.take g.1)=g.2∧0≤g.2∧g.2≤99*(g.1:Int))) (fun g=>nx1-g.1) (0,(0:Int)) ?_ ?_ ?_)))))))))
 ·exact (At.r G)
 ·exact ⟨((lr w).lo q),H,f.lo q,h.lo q,(z_c_spec_l32There_9 x nx1 o s nx2 p u b y I)⟩
 ·rintro ⟨k,t⟩ B j z
  obtain ⟨d,c,a,l,K⟩:(Lo w j)∧(Blk j A 34 (cLb Ax1 nx1 cx1 Ax2 nx2 cx2 x))∧(SlR j Bx1 encLMap 3 Ax1 nx1 cx1 x.Maps)∧(SlR j Bx2 encAway 2 Ax2 nx2 cx2 x.Away)∧(k≤nx1∧thereS b (x.Maps.take k)=t∧0≤t∧t≤99*(k:Int)):=z
  refine (?_:W _ _ _ _ _ (act _ (sets B [(1,.bool b),(2,pt A),(4,i6 0),(5,i6 t),(6,i6 (k:Int))])) _)
  have J:=d.size
  have L:=c.lt
  refine Ws (Ws (Wr (Q (mI G)<|Q (fA fa34_0 G)<|Q (lB sca31 G c G)<|Q (r_len und31 G)<|Q (r_lt G G)<|Qn (Wd G (fun C=>?_) (fun C=>?_)))))
  ·refine Wk (Ws (Wl (Ws (Wr (Q (mB G)<|Qn (Wb G (fun D=>?_) (fun D=>?_)))))))
   ·refine Wr (Q (mI G)<|Q (fA fa34_0 G)<|Q (lB sca31 G c G)<|Q (mI G)<|?_)
    have m:=a.elem (i:=k) oB
    have M:=maps_rng ‹MapsOK x.Maps› m
    refine Q (rX tsl31 a G G oB)<|Q (fA fa102_2 G)<|Q (r_ld (v:=i6 ((gt x.Maps k).Torn)) sca3 G (a.cell m G))<|Q (r_add G G oB)<|Q (aI G)<|Qn (Wr (Q (mI G)<|Q (r_add G G oB)<|Q (aI G)<|Qn (⟨(k+1,t+((gt x.Maps k).Torn)),_,G,(At.r G),⟨d,c,a,l,?_⟩,?_⟩)))
    ·exact (by (try dsimp only); have hh:=‹_∧thereS b _=_∧_›; have hq:=maps_rng y ‹x.Maps[k]?=some _›; first | exact ⟨oB,thereS_t ‹_› oB hh.2.1,oB,oB⟩ | exact ⟨oB,thereS_f ‹_› oB hh.2.1,oB,oB⟩)
    ·exact oH
   ·refine Wr (Q (mI G)<|Q (fA fa34_0 G)<|Q (lB sca31 G c G)<|Q (mI G)<|?_)
    have n:=a.elem (i:=k) oB
    have N:=maps_rng ‹MapsOK x.Maps› n
    refine Q (rX tsl31 a G G oB)<|Q (fA fa102_1 G)<|Q (r_ld (v:=i6 ((gt x.Maps k).Copies)) sca3 G (a.cell n G))<|Q (r_add G G oB)<|Q (aI G)<|Qn (Wr (Q (mI G)<|Q (r_add G G oB)<|Q (aI G)<|Qn (⟨(k+1,t+((gt x.Maps k).Copies)),_,G,(At.r G),⟨d,c,a,l,?_⟩,?_⟩)))
    ·exact (by (try dsimp only); have hh:=‹_∧thereS b _=_∧_›; have hq:=maps_rng y ‹x.Maps[k]?=some _›; first | exact ⟨oB,thereS_t ‹_› oB hh.2.1,oB,oB⟩ | exact ⟨oB,thereS_f ‹_› oB hh.2.1,oB,oB⟩)
    ·exact oH
  ·refine Wx (xh (Ws (Wr (Q (mI G)<|Q (aI G)<|Qn (We (ret1 G (v:=i6 _) G (⟨eR (eI (by have hh:=‹_∧thereS b _=_∧_›; rw [← hh.2.1,List.take_of_length_le oB]; rfl)),d⟩)))))))
end Go.Proofs.YtndcchndcghmoaaGreatDoor
namespace Go.Proofs.YtndcchndcghmoaaGreatDoor
open Go Go.RowKit Fw
set_option maxRecDepth 10000
set_option maxHeartbeats 2000000
set_option linter.unusedVariables false
variable {Ax1 Ax2 : Option Addr} {nx1 cx1 Bx1 nx2 cx2 Bx2 : Nat}
theorem agg34:TAgg Tryz.prog 34 5:=tG
theorem ent120:Ent Tryz.prog 120:=en Tryz.func120
theorem ent121:Ent Tryz.prog 121:=en Tryz.func121
theorem ent122:Ent Tryz.prog 122:=en Tryz.func122
theorem ent123:Ent Tryz.prog 123:=en Tryz.func123
theorem ent124:Ent Tryz.prog 124:=en Tryz.func124
theorem ent125:Ent Tryz.prog 125:=en Tryz.func125
theorem ent129:Ent Tryz.prog 129:=en Tryz.func129
theorem ent130:Ent Tryz.prog 130:=en Tryz.func130
theorem ent131:Ent Tryz.prog 131:=en Tryz.func131
theorem ent132:Ent Tryz.prog 132:=en Tryz.func132
theorem ent165:Ent Tryz.prog 165:=en Tryz.func165
theorem fa34_1:FA Tryz.prog 34 1 1:=fun _ _=>by kernel_rfl
theorem fa34_2:FA Tryz.prog 34 2 2:=fun _ _=>by kernel_rfl
theorem fa34_3:FA Tryz.prog 34 3 3:=fun _ _=>by kernel_rfl
theorem fa34_4:FA Tryz.prog 34 4 4:=fun _ _=>by kernel_rfl
theorem sca32:TSca Tryz.prog 32:=tS
theorem tz129:TZ Tryz.prog 129 (.agg (List.toArray [i6 0,i6 0])):=fun _=>by kernel_rfl
theorem c_spec_l32Map (w:World) (x:Library) (f:SlR w Bx1 encLMap 3 Ax1 nx1 cx1 x.Maps) (h:SlR w Bx2 encAway 2 Ax2 nx2 cx2 x.Away) (id:Int):Calls Tryz.prog 165 #[.agg (List.toArray (cLb Ax1 nx1 cx1 Ax2 nx2 cx2 x)),i6 id] w fun e w'=>e=.returned (i6 (idxF (hasId id) x.Maps))∧Lo w w':=by
 refine cW 22 Tryz.func165 G G G ?_
 have z:=f.bound
 have d:=f.len
 have t:=f.bd
 have A:=h.bound
 have B:=h.len
 have u:=h.bd
 refine Ws (Wr (bx G ?_))
 intro p J H l I y
 refine Q (aI G)<|Qn (Ws (Ws (Wr (Q (aI G)<|Qn (Wl (WL (σ:=Nat) (fun g=>[(1,i6 id),(2,pt p),(5,i6 (g:Int))]) (fun g w'=>(Lo w w')∧(Blk w' p 34 (cLb Ax1 nx1 cx1 Ax2 nx2 cx2 x))∧(SlR w' Bx1 encLMap 3 Ax1 nx1 cx1 x.Maps)∧(SlR w' Bx2 encAway 2 Ax2 nx2 cx2 x.Away)∧(g≤nx1∧NoneTo (hasId id) x.Maps g)) (fun g=>nx1-g) 0 ?_ ?_ ?_))))))
 ·exact (At.r G)
 ·exact ⟨((lr w).lo l),y,f.lo l,h.lo l,(by exact ⟨Nat.zero_le _,NoneTo.zero⟩)⟩
 ·rintro k F j m
  obtain ⟨a,b,c,n,D⟩:(Lo w j)∧(Blk j p 34 (cLb Ax1 nx1 cx1 Ax2 nx2 cx2 x))∧(SlR j Bx1 encLMap 3 Ax1 nx1 cx1 x.Maps)∧(SlR j Bx2 encAway 2 Ax2 nx2 cx2 x.Away)∧(k≤nx1∧NoneTo (hasId id) x.Maps k):=m
  refine (?_:W _ _ _ _ _ (act _ (sets F [(1,i6 id),(2,pt p),(5,i6 (k:Int))])) _)
  have C:=a.size
  have E:=b.lt
  refine Ws (Ws (Wr (Q (mI G)<|Q (fA fa34_0 G)<|Q (lB sca31 G b G)<|Q (r_len und31 G)<|Q (r_lt G G)<|Qn (Wd G (fun q=>?_) (fun q=>?_)))))
  ·refine Wk (Ws (Wl (Ws (Wr (Q (fA fa34_0 G)<|Q (lB sca31 G b G)<|Q (mI G)<|?_)))))
   have o:=c.elem (i:=k) oB
   refine Q (rX tsl31 c G G oB)<|Q (fA fa102_0 G)<|Q (r_ld (v:=i6 ((gt x.Maps k).Id)) sca3 G (c.cell o G))<|Q (mI G)<|Q (r_eq G G)<|Qn (Wd G (fun s=>?_) (fun s=>?_))
   ·refine Ws (Wr (Q (mI G)<|Q (aI G)<|Qn (We (ret1 G (v:=i6 _) G (⟨eR (eI (by first | exact idx_at (And.right ‹_∧NoneTo _ _ _›) ‹x.Maps[k]?=some _› (by simpa [hasId] using ‹_›) | exact idx_no (And.right ‹_∧NoneTo _ _ _›) d ‹_›)),a⟩)))))
   ·refine Wk (Wr (Q (mI G)<|Q (r_add G G oB)<|Q (aI G)<|Qn (⟨k+1,_,G,(At.r G),⟨a,b,c,n,?_⟩,?_⟩)))
    ·exact (by exact ⟨oB,NoneTo.next (And.right ‹_∧NoneTo _ _ _›) ‹x.Maps[k]?=some _› (by simpa [hasId] using ‹_›)⟩)
    ·exact oB
  ·refine Wx (xh (Ws (Wr (Q (r_as (v:=i6 (-1)) G)<|Qn (We (ret1 G (v:=i6 _) G (⟨eR (eI (by first | exact idx_at (And.right ‹_∧NoneTo _ _ _›) ‹x.Maps[k]?=some _› (by simpa [hasId] using ‹_›) | exact idx_no (And.right ‹_∧NoneTo _ _ _›) d ‹_›)),a⟩)))))))
theorem c_spec_l32Maps (w:World) (x:Library) (u:SlR w Bx1 encLMap 3 Ax1 nx1 cx1 x.Maps) (y:SlR w Bx2 encAway 2 Ax2 nx2 cx2 x.Away):Calls Tryz.prog 129 #[.agg (List.toArray (cLb Ax1 nx1 cx1 Ax2 nx2 cx2 x))] w fun e w'=>e=.returned (.bool (decide (MapsOK x.Maps∧x.Maps.length≤8)))∧Lo w w':=by
 refine cW 55 Tryz.func129 G G G ?_
 have Z:=u.bound
 have s:=u.len
 have V:=u.bd
 have aa:=y.bound
 have ab:=y.len
 have X:=y.bd
 refine Ws (Wr (bx G ?_))
 intro H w2 aw F ax Y
 refine Q (aB G)<|Qn (Ws (Ws (Wr (Q (aI G)<|Qn (Wl (WL (σ:=Nat) (fun g=>[(1,pt H),(3,i6 (g:Int))]) (fun g w'=>(Lo w w')∧(Blk w' H 34 (cLb Ax1 nx1 cx1 Ax2 nx2 cx2 x))∧(SlR w' Bx1 encLMap 3 Ax1 nx1 cx1 x.Maps)∧(SlR w' Bx2 encAway 2 Ax2 nx2 cx2 x.Away)∧(g≤nx1∧MTo x.Maps g)) (fun g=>nx1-g) 0 ?_ ?_ ?_))))))
 ·exact ⟨G,G,trivial⟩
 ·exact ⟨((lr w).lo F),Y,u.lo F,y.lo F,(by exact ⟨Nat.zero_le _,MTo.zero⟩)⟩
 ·rintro k f9 z I
  obtain ⟨r,c,d,P,ah⟩:(Lo w z)∧(Blk z H 34 (cLb Ax1 nx1 cx1 Ax2 nx2 cx2 x))∧(SlR z Bx1 encLMap 3 Ax1 nx1 cx1 x.Maps)∧(SlR z Bx2 encAway 2 Ax2 nx2 cx2 x.Away)∧(k≤nx1∧MTo x.Maps k):=I
  refine (?_:W _ _ _ _ _ (act _ (sets f9 [(1,pt H),(3,i6 (k:Int))])) _)
  have ac:=r.size
  have ai:=c.lt
  refine Ws (Ws (Wr (Q (mI G)<|Q (fA fa34_0 G)<|Q (lB sca31 G c G)<|Q (r_len und31 G)<|Q (r_lt G G)<|Qn (Wd G (fun U=>?_) (fun U=>?_)))))
  ·refine Wk (Ws (Wl (Ws (Wr (Q (fA fa34_0 G)<|Q (lB sca31 G c G)<|Q (mI G)<|?_)))))
   have R:=d.elem (i:=k) oB
   refine Q (rX tsl31 d G G oB)<|Q (r_lda (l:=encLMap (gt x.Maps k)) agg102 G (fun _ _ hu=>d.cell R hu) (d.esz _))<|Qa (l:=[i6 0,i6 0,i6 0]) tz102 G ?_
   intro au ay ag f an J
   refine Qw (o:=0) (vs:=[i6 ((gt x.Maps k).Id),i6 ((gt x.Maps k).Copies),i6 ((gt x.Maps k).Torn)]) agg102.2 G G G G J ler G ?_
   intro ae j ao a
   refine Qn (Ws ?_)
   have B:=(c.lo f).kn j
   have m:=(d.lo f).kn j
   refine W.regJD mo oC (fun f' w'=>At f' [(1,pt H),(3,i6 (k:Int)),(50,.bool (decide ((¬(1≤((gt x.Maps k).Id)∧((gt x.Maps k).Id)≤99))∨((¬(0≤((gt x.Maps k).Copies)∧((gt x.Maps k).Copies)≤99))∨((¬(0≤((gt x.Maps k).Torn)∧((gt x.Maps k).Torn)≤((gt x.Maps k).Copies)))∨((0<(k:Int))∧(((gt x.Maps k).Id)≤((gt x.Maps (k-1)).Id))))))))]∧Lo ae w') ?_ ?_
   ·refine Rq (fun w' hw'=>fA fa102_0 G)<|Rq (fun w' hw'=>lB sca3 G (a.lo hw') G)<|QR.call ent133 (fun w' hw'=>(c_spec_l1In w' ((gt x.Maps k).Id) 1 99).mono fun _ _ h=>⟨h.1,hw'.trans h.2⟩) G<|Rq (fun w' hw'=>rN G)<|Rq (fun w' hw'=>mB G)<|QR.splitN (fun n=>?_) (fun n=>?_)
    ·refine Rs G<|Rs G<|Rs G<|Rs G<|Rq (fun w' hw'=>pT G G)<|Rq (fun w' hw'=>mB G)<|Rs G<|Rs G<|Rs G<|Rs G<|Rs G<|Rs G<|Rq (fun w' hw'=>pT G G)<|Rq (fun w' hw'=>mB G)<|Rs G<|Rs G<|Rs G<|QR.u' G<|QR.u' G<|QR.u' G<|QR.u' G<|QR.u' G<|QR.u' G<|QR.u' G<|QR.u' G<|QR.u' G<|QR.u' G<|Rs G<|Rq (fun w' hw'=>pT G G)<|QR.nil ?_
     intro az K
     exact ⟨⟨G,G,(eDT ((jmf n).1 trivial)),trivial⟩,K⟩
    ·refine Rg G (fun w' hw'=>fA fa102_1 G)<|Rg G (fun w' hw'=>lB sca3 G (a.lo hw') G)<|QR.gcall G ent133 (fun w' hw'=>(c_spec_l1In w' ((gt x.Maps k).Copies) 0 99).mono fun _ _ h=>⟨h.1,hw'.trans h.2⟩) G<|Rg G (fun w' hw'=>rN G)<|Rq (fun w' hw'=>pF G G)<|Rq (fun w' hw'=>mB G)<|QR.splitN (fun p=>?_) (fun p=>?_)
     ·refine Rs G<|Rs G<|Rs G<|Rs G<|Rs G<|Rs G<|Rq (fun w' hw'=>pT G G)<|Rq (fun w' hw'=>mB G)<|Rs G<|Rs G<|Rs G<|QR.u' G<|QR.u' G<|QR.u' G<|QR.u' G<|QR.u' G<|QR.u' G<|QR.u' G<|QR.u' G<|QR.u' G<|QR.u' G<|Rs G<|Rq (fun w' hw'=>pT G G)<|QR.nil ?_
      intro aA L
      exact ⟨⟨G,G,(eDT (((jmf p).trans (jmt n)).1 trivial)),trivial⟩,L⟩
     ·refine Rg G (fun w' hw'=>fA fa102_2 G)<|Rg G (fun w' hw'=>lB sca3 G (a.lo hw') G)<|Rg G (fun w' hw'=>fA fa102_1 G)<|Rg G (fun w' hw'=>lB sca3 G (a.lo hw') G)<|QR.gcall G ent133 (fun w' hw'=>(c_spec_l1In w' ((gt x.Maps k).Torn) 0 ((gt x.Maps k).Copies)).mono fun _ _ h=>⟨h.1,hw'.trans h.2⟩) G<|Rg G (fun w' hw'=>rN G)<|Rq (fun w' hw'=>pF G G)<|Rq (fun w' hw'=>mB G)<|QR.splitN (fun t=>?_) (fun t=>?_)
      ·refine Rs G<|Rs G<|Rs G<|QR.u' G<|QR.u' G<|QR.u' G<|QR.u' G<|QR.u' G<|QR.u' G<|QR.u' G<|QR.u' G<|QR.u' G<|QR.u' G<|Rs G<|Rq (fun w' hw'=>pT G G)<|QR.nil ?_
       intro aC M
       exact ⟨⟨G,G,(eDT ((((jmf t).trans (jmt p)).trans (jmt n)).1 trivial)),trivial⟩,M⟩
      ·refine Rg G (fun w' hw'=>mI G)<|Rg G (fun w' hw'=>r_gt G G)<|Rg G (fun w' hw'=>mB G)<|QR.splitD (fun D=>?_) (fun D=>?_)
       ·refine Rg G (fun w' hw'=>fA fa34_0 G)<|Rg G (fun w' hw'=>lB sca31 G (B.lo hw') G)<|Rg G (fun w' hw'=>mI G)<|Rg G (fun w' hw'=>r_sub G G oB)<|?_
        have C:=m.elem (i:=((k:Int)-1).toNat) oB
        rw [show ((k:Int)-1).toNat=k-1 from by omega] at C
        have S:x.Maps[((k:Int)-1).toNat]?=some (gt x.Maps (k-1)):=(show ((k:Int)-1).toNat=k-1 from by omega) ▸ C
        refine Rg G (fun w' hw'=>rX tsl31 (m.lo hw') G G oB)<|Rg G (fun w' hw'=>fA fa102_0 G)<|Rg G (fun w' hw'=>r_ld (v:=i6 ((gt x.Maps (k-1)).Id)) sca3 G ((m.lo hw').cell S G))<|Rg G (fun w' hw'=>fA fa102_0 G)<|Rg G (fun w' hw'=>lB sca3 G (a.lo hw') G)<|Rg G (fun w' hw'=>r_ge G G)<|Rg G (fun w' hw'=>pT G G)<|Rq (fun w' hw'=>pF G G)<|QR.nil ?_
        intro aD N
        exact ⟨⟨G,G,(eDD ((((jat D).trans (jmt t)).trans (jmt p)).trans (jmt n))),trivial⟩,N⟩
       ·refine Rs G<|Rs G<|Rs G<|Rs G<|Rs G<|Rs G<|Rs G<|Rs G<|Rs G<|Rs G<|Rg G (fun w' hw'=>pF G G)<|Rq (fun w' hw'=>pF G G)<|QR.nil ?_
        intro aE O
        exact ⟨⟨G,G,(eDF ((((jaf D).trans (jmt t)).trans (jmt p)).trans (jmt n)).2),trivial⟩,O⟩
   rintro aq aF ⟨E,b⟩
   rw [← sA E]
   have ap:=b.size
   have A:=((r.lo f).new j).lo b
   refine Wd G (fun q=>?_) (fun q=>?_)
   ·refine Ws (Wr (Q (aB G)<|Qn (We (ret1 G (v:=.bool _) G (⟨eR (eDF (by subst s; first | exact (fun hh=>hh.1 k oB ‹_›) | (have T:=MTo.end_ (And.right ‹_∧MTo _ _›) oB; exact ⟨fun h=>⟨T,oB⟩,fun h=>by omega⟩))),A⟩)))))
   ·have aj:1≤((gt x.Maps k).Id)∧((gt x.Maps k).Id)≤99:=(Classical.not_not.1 (not_or.1 q).1)
    have ak:0≤((gt x.Maps k).Copies)∧((gt x.Maps k).Copies)≤99:=(Classical.not_not.1 (not_or.1 (not_or.1 q).2).1)
    have al:0≤((gt x.Maps k).Torn)∧((gt x.Maps k).Torn)≤((gt x.Maps k).Copies):=(Classical.not_not.1 (not_or.1 (not_or.1 (not_or.1 q).2).2).1)
    have am:¬((0<(k:Int))∧(((gt x.Maps k).Id)≤((gt x.Maps (k-1)).Id))):=(not_or.1 (not_or.1 (not_or.1 q).2).2).2
    refine Wk (Wr (Q (mI G)<|Q (r_add G G oB)<|Q (aI G)<|Qn (⟨k+1,_,G,⟨G,G,trivial⟩,⟨A,B.lo b,m.lo b,((P.lo f).kn j).lo b,?_⟩,?_⟩)))
    ·exact (by exact ⟨oB,MTo.next (And.right ‹_∧MTo _ _›) ‹_›⟩)
    ·exact oB
  ·refine Wx (xh (Ws (Wr (Q (fA fa34_0 G)<|Q (lB sca31 G c G)<|Q (r_len und31 G)<|Q (r_le G G)<|Q (aB G)<|Qn (We (ret1 G (v:=.bool _) G (⟨eR (eDD (by subst s; first | exact (fun hh=>hh.1 k oB ‹_›) | (have T:=MTo.end_ (And.right ‹_∧MTo _ _›) oB; exact ⟨fun h=>⟨T,oB⟩,fun h=>by omega⟩))),r⟩)))))))
theorem c_spec_l32Lent (w:World) (x:Library) (A:SlR w Bx1 encLMap 3 Ax1 nx1 cx1 x.Maps) (B:SlR w Bx2 encAway 2 Ax2 nx2 cx2 x.Away):Calls Tryz.prog 130 #[.agg (List.toArray (cLb Ax1 nx1 cx1 Ax2 nx2 cx2 x))] w fun e w'=>e=.returned (.bool (decide (AwayOK x.Maps x.Away∧x.Away.length≤8)))∧Lo w w':=by
 refine cW 70 Tryz.func130 G G G ?_
 have al:=A.bound
 have an:=A.len
 have ai:=A.bd
 have am:=B.bound
 have n:=B.len
 have aj:=B.bd
 refine Ws (Wr (bx G ?_))
 intro R w2 aQ P aR ak
 refine Q (aB G)<|Qn (Ws (Ws (Wr (Q (aI G)<|Qn (Wl (WL (σ:=Nat) (fun g=>[(1,pt R),(3,i6 (g:Int))]) (fun g w'=>(Lo w w')∧(Blk w' R 34 (cLb Ax1 nx1 cx1 Ax2 nx2 cx2 x))∧(SlR w' Bx1 encLMap 3 Ax1 nx1 cx1 x.Maps)∧(SlR w' Bx2 encAway 2 Ax2 nx2 cx2 x.Away)∧(g≤nx2∧ATo x.Maps x.Away g)) (fun g=>nx2-g) 0 ?_ ?_ ?_))))))
 ·exact ⟨G,G,trivial⟩
 ·exact ⟨((lr w).lo P),ak,A.lo P,B.lo P,(by exact ⟨Nat.zero_le _,ATo.zero⟩)⟩
 ·rintro k f9 C T
  obtain ⟨s,f,aa,j,au⟩:(Lo w C)∧(Blk C R 34 (cLb Ax1 nx1 cx1 Ax2 nx2 cx2 x))∧(SlR C Bx1 encLMap 3 Ax1 nx1 cx1 x.Maps)∧(SlR C Bx2 encAway 2 Ax2 nx2 cx2 x.Away)∧(k≤nx2∧ATo x.Maps x.Away k):=T
  refine (?_:W _ _ _ _ _ (act _ (sets f9 [(1,pt R),(3,i6 (k:Int))])) _)
  have ao:=s.size
  have aw:=f.lt
  refine Ws (Ws (Wr (Q (mI G)<|Q (fA fa34_1 G)<|Q (lB sca32 G f G)<|Q (r_len und32 G)<|Q (r_lt G G)<|Qn (Wd G (fun ah=>?_) (fun ah=>?_)))))
  ·refine Wk (Ws (Wl (Ws (Wr (Q (fA fa34_1 G)<|Q (lB sca32 G f G)<|Q (mI G)<|?_)))))
   have ac:=j.elem (i:=k) oB
   refine Q (rX tsl32 j G G oB)<|Q (r_lda (l:=encAway (gt x.Away k)) agg129 G (fun _ _ hu=>j.cell ac hu) (j.esz _))<|Qa (l:=[i6 0,i6 0]) tz129 G ?_
   intro ag aT ar p aE U
   refine Qw (o:=0) (vs:=[i6 ((gt x.Away k).Map),i6 ((gt x.Away k).Reader)]) agg129.2 G G G G U ler G ?_
   intro ae q aF c
   refine Qn (Ws (Ws ?_))
   have m:=(f.lo p).kn q
   have H:=(aa.lo p).kn q
   have b:=(j.lo p).kn q
   refine WJ (fun f' w'=>At f' [(1,pt R),(3,i6 (k:Int)),(4,pt ag),(27,.bool (decide (((idxF (hasId ((gt x.Away k).Map)) x.Maps)<0)∨(¬(1≤((gt x.Away k).Reader)∧((gt x.Away k).Reader)≤999)))))]∧Lo ae w'∧(idxF (hasId ((gt x.Away k).Map)) x.Maps<(x.Maps.length:Int)∧-1≤idxF (hasId ((gt x.Away k).Map)) x.Maps)) ?_ ?_
   ·refine Q (lG agg34 G m G)<|Q (fA fa129_0 G)<|Q (lB sca3 G c G)<|Qv ent165 (c_spec_l32Map ae x H b ((gt x.Away k).Map)) G fun ap t aG=>?_
    have I:idxF (hasId ((gt x.Away k).Map)) x.Maps<(x.Maps.length:Int)∧-1≤idxF (hasId ((gt x.Away k).Map)) x.Maps:=idx_lt
    refine Q (r_lt G G)<|Q (mB G)<|QD (fun y=>?_) (fun y=>?_)
    ·refine Qs<|Qs<|Qs<|Qs<|Q (pT G G)<|Qn (⟨_,G,⟨⟨G,G,G,(eDT ((jot y).1 trivial)),trivial⟩,t,I⟩⟩)
    ·have ax:=Int.not_lt.1 y
     refine Qg (fA fa129_1 G)<|Qg (lB sca3 G (c.lo t) G)<|SR.gcall G ent133 (c_spec_l1In ap ((gt x.Away k).Reader) 1 999) G ?_
     rintro e aU ⟨rfl,F⟩
     refine ⟨_,G,?_⟩
     have aH:=F.size
     refine Qg (rN G)<|Q (pF G G)<|Qn (⟨_,G,⟨⟨G,G,G,(eND (jof y)),trivial⟩,(t.trans F),I⟩⟩)
   rintro aM aq ⟨N,a,ay⟩
   rw [← sA N]
   have aJ:=a.size
   have D:=((s.lo p).new q).lo a
   refine Wd G (fun K=>?_) (fun K=>?_)
   ·refine Ws (Wr (Q (aB G)<|Qn (We (ret1 G (v:=.bool _) G (⟨eR (eDF (by subst n; first | exact (fun hh=>hh.1 k oB (a_bad1 ‹_›)) | exact (fun hh=>hh.1 k oB (a_bad2 ‹_›)) | (have S:=ATo.end_ (And.right ‹_∧ATo _ _ _›) oB; exact ⟨fun h=>⟨S,oB⟩,fun h=>by omega⟩))),D⟩)))))
   ·have ab:¬((idxF (hasId ((gt x.Away k).Map)) x.Maps)<0):=(not_or.1 K).1
    have az:1≤((gt x.Away k).Reader)∧((gt x.Away k).Reader)≤999:=(Classical.not_not.1 (not_or.1 K).2)
    have aA:=Int.not_lt.1 ab
    refine Wk (Ws (W.regJD mo oC (fun f' w'=>At f' [(1,pt R),(3,i6 (k:Int)),(65,.bool (decide ((0<(k:Int))∧((((gt x.Away k).Map)<((gt x.Away (k-1)).Map))∨((((gt x.Away (k-1)).Map)=((gt x.Away k).Map))∧(((gt x.Away k).Reader)≤((gt x.Away (k-1)).Reader)))))))]∧Lo aq w') ?_ ?_))
    ·refine Rq (fun w' hw'=>mI G)<|Rq (fun w' hw'=>r_gt G G)<|Rq (fun w' hw'=>mB G)<|QR.splitD (fun r=>?_) (fun r=>?_)
     ·refine Rg G (fun w' hw'=>fA fa34_1 G)<|Rg G (fun w' hw'=>lB sca32 G ((m.lo a).lo hw') G)<|Rg G (fun w' hw'=>mI G)<|Rg G (fun w' hw'=>r_sub G G oB)<|?_
      have J:=(b.lo a).elem (i:=((k:Int)-1).toNat) oB
      rw [show ((k:Int)-1).toNat=k-1 from by omega] at J
      have u:x.Away[((k:Int)-1).toNat]?=some (gt x.Away (k-1)):=(show ((k:Int)-1).toNat=k-1 from by omega) ▸ J
      refine Rg G (fun w' hw'=>rX tsl32 ((b.lo a).lo hw') G G oB)<|Rg G (fun w' hw'=>fA fa129_0 G)<|Rg G (fun w' hw'=>r_ld (v:=i6 ((gt x.Away (k-1)).Map)) sca3 G (((b.lo a).lo hw').cell u G))<|Rg G (fun w' hw'=>fA fa129_0 G)<|Rg G (fun w' hw'=>lB sca3 G ((c.lo a).lo hw') G)<|Rg G (fun w' hw'=>r_gt G G)<|Rg G (fun w' hw'=>mB G)<|QR.splitD (fun z=>?_) (fun z=>?_)
      ·refine Rs G<|Rs G<|Rs G<|Rs G<|Rs G<|Rs G<|Rs G<|Rs G<|Rs G<|Rs G<|Rs G<|QR.u' G<|QR.u' G<|QR.u' G<|QR.u' G<|QR.u' G<|QR.u' G<|QR.u' G<|QR.u' G<|QR.u' G<|QR.u' G<|Rs G<|Rg G (fun w' hw'=>pT G G)<|Rq (fun w' hw'=>pT G G)<|QR.nil ?_
       intro aV V
       exact ⟨⟨G,G,(eDT (((jot z).trans (jat r)).1 trivial)),trivial⟩,V⟩
      ·refine Rg G (fun w' hw'=>fA fa34_1 G)<|Rg G (fun w' hw'=>lB sca32 G ((m.lo a).lo hw') G)<|Rg G (fun w' hw'=>mI G)<|Rg G (fun w' hw'=>r_sub G G oB)<|Rg G (fun w' hw'=>rX tsl32 ((b.lo a).lo hw') G G oB)<|Rg G (fun w' hw'=>fA fa129_0 G)<|Rg G (fun w' hw'=>r_ld (v:=i6 ((gt x.Away (k-1)).Map)) sca3 G (((b.lo a).lo hw').cell u G))<|Rg G (fun w' hw'=>fA fa129_0 G)<|Rg G (fun w' hw'=>lB sca3 G ((c.lo a).lo hw') G)<|Rg G (fun w' hw'=>r_eq G G)<|Rg G (fun w' hw'=>mB G)<|QR.splitD (fun L=>?_) (fun L=>?_)
       ·refine Rg G (fun w' hw'=>fA fa34_1 G)<|Rg G (fun w' hw'=>lB sca32 G ((m.lo a).lo hw') G)<|Rg G (fun w' hw'=>mI G)<|Rg G (fun w' hw'=>r_sub G G oB)<|Rg G (fun w' hw'=>rX tsl32 ((b.lo a).lo hw') G G oB)<|Rg G (fun w' hw'=>fA fa129_1 G)<|Rg G (fun w' hw'=>r_ld (v:=i6 ((gt x.Away (k-1)).Reader)) sca3 G (((b.lo a).lo hw').cell u G))<|Rg G (fun w' hw'=>fA fa129_1 G)<|Rg G (fun w' hw'=>lB sca3 G ((c.lo a).lo hw') G)<|Rg G (fun w' hw'=>r_ge G G)<|Rg G (fun w' hw'=>pT G G)<|Rg G (fun w' hw'=>pF G G)<|Rq (fun w' hw'=>pT G G)<|QR.nil ?_
        intro aW X
        exact ⟨⟨G,G,(eDD (((jat L).trans (jof z)).trans (jat r))),trivial⟩,X⟩
       ·refine Rs G<|Rs G<|Rs G<|Rs G<|Rs G<|Rs G<|Rs G<|Rs G<|Rs G<|Rs G<|Rg G (fun w' hw'=>pF G G)<|Rg G (fun w' hw'=>pF G G)<|Rq (fun w' hw'=>pT G G)<|QR.nil ?_
        intro aX Y
        exact ⟨⟨G,G,(eDF (((jaf L).trans (jof z)).trans (jat r)).2),trivial⟩,Y⟩
     ·refine Rs G<|Rs G<|Rs G<|Rs G<|Rs G<|Rs G<|Rs G<|Rs G<|Rs G<|Rs G<|Rs G<|QR.u' G<|QR.u' G<|QR.u' G<|QR.u' G<|QR.u' G<|QR.u' G<|QR.u' G<|QR.u' G<|QR.u' G<|QR.u' G<|QR.u' G<|QR.u' G<|QR.u' G<|QR.u' G<|QR.u' G<|QR.u' G<|QR.u' G<|QR.u' G<|QR.u' G<|QR.u' G<|QR.u' G<|QR.u' G<|Rs G<|Rq (fun w' hw'=>pF G G)<|QR.nil ?_
      intro aY Z
      exact ⟨⟨G,G,(eDF (jaf r).2),trivial⟩,Z⟩
    rintro aN aZ ⟨O,d⟩
    rw [← sA O]
    have aK:=d.size
    have E:=D.lo d
    refine Wd G (fun M=>?_) (fun M=>?_)
    ·have aC:0<(k:Int):=M.1
     have aD:(((gt x.Away k).Map)<((gt x.Away (k-1)).Map))∨((((gt x.Away (k-1)).Map)=((gt x.Away k).Map))∧(((gt x.Away k).Reader)≤((gt x.Away (k-1)).Reader))):=M.2
     refine Ws (Wr (Q (aB G)<|Qn (We (ret1 G (v:=.bool _) G (⟨eR (eDF (by subst n; first | exact (fun hh=>hh.1 k oB (a_bad1 ‹_›)) | exact (fun hh=>hh.1 k oB (a_bad2 ‹_›)) | (have S:=ATo.end_ (And.right ‹_∧ATo _ _ _›) oB; exact ⟨fun h=>⟨S,oB⟩,fun h=>by omega⟩))),E⟩)))))
    ·refine Wk (Wr (Q (mI G)<|Q (r_add G G oB)<|Q (aI G)<|Qn (⟨k+1,_,G,⟨G,G,trivial⟩,⟨E,((m.lo a).lo d),((H.lo a).lo d),((b.lo a).lo d),?_⟩,?_⟩)))
     ·exact (by exact ⟨oB,ATo.next (And.right ‹_∧ATo _ _ _›) (a_good ‹_› ‹_›)⟩)
     ·exact oB
  ·refine Wx (xh (Ws (Wr (Q (fA fa34_1 G)<|Q (lB sca32 G f G)<|Q (r_len und32 G)<|Q (r_le G G)<|Q (aB G)<|Qn (We (ret1 G (v:=.bool _) G (⟨eR (eDD (by subst n; first | exact (fun hh=>hh.1 k oB (a_bad1 ‹_›)) | exact (fun hh=>hh.1 k oB (a_bad2 ‹_›)) | (have S:=ATo.end_ (And.right ‹_∧ATo _ _ _›) oB; exact ⟨fun h=>⟨S,oB⟩,fun h=>by omega⟩))),s⟩)))))))
theorem z_c_spec_l32Good_36 (x:Library) (nx1:Nat) (c:(nx1:Int)≤9223372036854775807) (a:nx1=x.Maps.length) (nx2:Nat) (d:(nx2:Int)≤9223372036854775807) (b:nx2=x.Away.length):((MapsOK x.Maps∧x.Maps.length≤8)∧((AwayOK x.Maps x.Away∧x.Away.length≤8)∧((0≤x.Bought∧x.Bought≤9999)∧((0≤x.Dropped∧x.Dropped≤9999)∧((0≤x.Mended∧x.Mended≤9999)∧(x.Bought=(((if false=true then sumT x.Maps else sumC x.Maps)+(nx2:Int))+x.Dropped)))))))↔(LibOK x):=by
 subst a b
 unfold LibOK
 constructor <;> (intro h; obtain ⟨e,f,h⟩:=h; refine ⟨e,f,?_⟩; simpa using h)
theorem c_spec_l32Good (w:World) (x:Library) (d:SlR w Bx1 encLMap 3 Ax1 nx1 cx1 x.Maps) (f:SlR w Bx2 encAway 2 Ax2 nx2 cx2 x.Away):Calls Tryz.prog 80 #[.agg (List.toArray (cLb Ax1 nx1 cx1 Ax2 nx2 cx2 x))] w fun e w'=>e=.returned (.bool (decide (LibOK x)))∧Lo w w':=by
 refine cW 38 Tryz.func80 G G G ?_
 have n:=d.bound
 have p:=d.len
 have A:=d.bd
 have o:=f.bound
 have q:=f.len
 have B:=f.bd
 refine Ws (Wr (bx G ?_))
 intro U M J b K a
 refine Q (aB G)<|Qn (Ws (W.regJD mo oC (fun f' w'=>At f' [(2,.bool (decide ((MapsOK x.Maps∧x.Maps.length≤8)∧((AwayOK x.Maps x.Away∧x.Away.length≤8)∧((0≤x.Bought∧x.Bought≤9999)∧((0≤x.Dropped∧x.Dropped≤9999)∧((0≤x.Mended∧x.Mended≤9999)∧(x.Bought=(((if false=true then sumT x.Maps else sumC x.Maps)+(nx2:Int))+x.Dropped)))))))))]∧Lo M w') ?_ ?_))
 ·refine Rq (fun w' hw'=>lG agg34 G (a.lo hw') G)<|QR.call ent129 (fun w' hw'=>(c_spec_l32Maps w' x ((d.lo b).lo hw') ((f.lo b).lo hw')).mono fun _ _ h=>⟨h.1,hw'.trans h.2⟩) G<|Rq (fun w' hw'=>mB G)<|QR.splitD (fun i=>?_) (fun i=>?_)
  ·have C:=And.left i
   have D:=And.left i
   have E:=And.right i
   refine Rg G (fun w' hw'=>lG agg34 G (a.lo hw') G)<|QR.gcall G ent130 (fun w' hw'=>(c_spec_l32Lent w' x ((d.lo b).lo hw') ((f.lo b).lo hw')).mono fun _ _ h=>⟨h.1,hw'.trans h.2⟩) G<|Rq (fun w' hw'=>pT G G)<|Rq (fun w' hw'=>mB G)<|QR.splitD (fun c=>?_) (fun c=>?_)
   ·refine Rg G (fun w' hw'=>fA fa34_2 G)<|Rg G (fun w' hw'=>lB sca3 G (a.lo hw') G)<|QR.gcall G ent131 (fun w' hw'=>(c_spec_l32Count w' x.Bought).mono fun _ _ h=>⟨h.1,hw'.trans h.2⟩) G<|Rq (fun w' hw'=>pT G G)<|Rq (fun w' hw'=>mB G)<|QR.splitD (fun g=>?_) (fun g=>?_)
    ·refine Rg G (fun w' hw'=>fA fa34_3 G)<|Rg G (fun w' hw'=>lB sca3 G (a.lo hw') G)<|QR.gcall G ent131 (fun w' hw'=>(c_spec_l32Count w' x.Dropped).mono fun _ _ h=>⟨h.1,hw'.trans h.2⟩) G<|Rq (fun w' hw'=>pT G G)<|Rq (fun w' hw'=>mB G)<|QR.splitD (fun j=>?_) (fun j=>?_)
     ·refine Rg G (fun w' hw'=>fA fa34_4 G)<|Rg G (fun w' hw'=>lB sca3 G (a.lo hw') G)<|QR.gcall G ent131 (fun w' hw'=>(c_spec_l32Count w' x.Mended).mono fun _ _ h=>⟨h.1,hw'.trans h.2⟩) G<|Rq (fun w' hw'=>pT G G)<|Rq (fun w' hw'=>mB G)<|QR.splitD (fun l=>?_) (fun l=>?_)
      ·refine Rg G (fun w' hw'=>fA fa34_2 G)<|Rg G (fun w' hw'=>lB sca3 G (a.lo hw') G)<|Rg G (fun w' hw'=>lG agg34 G (a.lo hw') G)<|QR.gcall G ent132 (fun w' hw'=>(c_spec_l32There w' x ((d.lo b).lo hw') ((f.lo b).lo hw') false (by first | assumption | exact MTo.end_ (And.right ‹_∧MTo _ _›) oB) oB).mono fun _ _ h=>⟨h.1,hw'.trans h.2⟩) G<|?_
       have F:0≤(if false=true then sumT x.Maps else sumC x.Maps)∧(if false=true then sumT x.Maps else sumC x.Maps)≤792:=there_rng false ‹MapsOK _› oB
       refine Rg G (fun w' hw'=>fA fa34_1 G)<|Rg G (fun w' hw'=>lB sca32 G (a.lo hw') G)<|Rg G (fun w' hw'=>r_len und32 G)<|Rg G (fun w' hw'=>r_add G G oB)<|Rg G (fun w' hw'=>fA fa34_3 G)<|Rg G (fun w' hw'=>lB sca3 G (a.lo hw') G)<|Rg G (fun w' hw'=>r_add G G oB)<|Rg G (fun w' hw'=>r_eq G G)<|Rq (fun w' hw'=>pT G G)<|Rq (fun w' hw'=>aB G)<|QR.nil ?_
       intro L r
       exact ⟨⟨(eDD (((((jat l).trans (jat j)).trans (jat g)).trans (jat c)).trans (jat i))),trivial⟩,r⟩
      ·refine Rs G<|Rs G<|Rs G<|Rs G<|Rs G<|Rs G<|Rs G<|Rs G<|Rs G<|Rs G<|Rs G<|Rs G<|Rq (fun w' hw'=>pF G G)<|Rq (fun w' hw'=>aB G)<|QR.nil ?_
       intro N s
       exact ⟨⟨(eDF (((((jaf l).trans (jat j)).trans (jat g)).trans (jat c)).trans (jat i)).2),trivial⟩,s⟩
     ·refine Rs G<|Rs G<|Rs G<|Rq (fun w' hw'=>pF G G)<|Rq (fun w' hw'=>mB G)<|Rs G<|Rs G<|Rs G<|Rs G<|Rs G<|Rs G<|Rs G<|Rs G<|Rs G<|Rs G<|Rs G<|Rs G<|Rq (fun w' hw'=>pF G G)<|Rq (fun w' hw'=>aB G)<|QR.nil ?_
      intro O t
      exact ⟨⟨(eDF ((((jaf j).trans (jat g)).trans (jat c)).trans (jat i)).2),trivial⟩,t⟩
    ·refine Rs G<|Rs G<|Rs G<|Rq (fun w' hw'=>pF G G)<|Rq (fun w' hw'=>mB G)<|Rs G<|Rs G<|Rs G<|Rq (fun w' hw'=>pF G G)<|Rq (fun w' hw'=>mB G)<|Rs G<|Rs G<|Rs G<|Rs G<|Rs G<|Rs G<|Rs G<|Rs G<|Rs G<|Rs G<|Rs G<|Rs G<|Rq (fun w' hw'=>pF G G)<|Rq (fun w' hw'=>aB G)<|QR.nil ?_
     intro P u
     exact ⟨⟨(eDF (((jaf g).trans (jat c)).trans (jat i)).2),trivial⟩,u⟩
   ·refine Rs G<|Rs G<|Rs G<|Rq (fun w' hw'=>pF G G)<|Rq (fun w' hw'=>mB G)<|Rs G<|Rs G<|Rs G<|Rq (fun w' hw'=>pF G G)<|Rq (fun w' hw'=>mB G)<|Rs G<|Rs G<|Rs G<|Rq (fun w' hw'=>pF G G)<|Rq (fun w' hw'=>mB G)<|Rs G<|Rs G<|Rs G<|Rs G<|Rs G<|Rs G<|Rs G<|Rs G<|Rs G<|Rs G<|Rs G<|Rs G<|Rq (fun w' hw'=>pF G G)<|Rq (fun w' hw'=>aB G)<|QR.nil ?_
    intro R y
    exact ⟨⟨(eDF ((jaf c).trans (jat i)).2),trivial⟩,y⟩
  ·refine Rs G<|Rs G<|Rq (fun w' hw'=>pF G G)<|Rq (fun w' hw'=>mB G)<|Rs G<|Rs G<|Rs G<|Rq (fun w' hw'=>pF G G)<|Rq (fun w' hw'=>mB G)<|Rs G<|Rs G<|Rs G<|Rq (fun w' hw'=>pF G G)<|Rq (fun w' hw'=>mB G)<|Rs G<|Rs G<|Rs G<|Rq (fun w' hw'=>pF G G)<|Rq (fun w' hw'=>mB G)<|Rs G<|Rs G<|Rs G<|Rs G<|Rs G<|Rs G<|Rs G<|Rs G<|Rs G<|Rs G<|Rs G<|Rs G<|Rq (fun w' hw'=>pF G G)<|Rq (fun w' hw'=>aB G)<|QR.nil ?_
   intro S z
   exact ⟨⟨(eDF (jaf i).2),trivial⟩,z⟩
 rintro I T ⟨m,k⟩
 rw [← sA m]
 have H:=k.size
 refine We (ret1 G (v:=.bool _) G (⟨eR (eDD (z_c_spec_l32Good_36 x nx1 n p nx2 o q)),(((lr w).lo b).lo k)⟩))
theorem z_c_impl_IsLibrary_62 (x:Library) (nx1:Nat) (c:(nx1:Int)≤9223372036854775807) (a:nx1=x.Maps.length) (nx2:Nat) (d:(nx2:Int)≤9223372036854775807) (b:nx2=x.Away.length) (n:(nx1:Int)≤1048576) (k:Nat) (e:k≤nx1∧MTo x.Maps k) (i:(k:Int)<(nx1:Int)) (f:x.Maps[k]?=some (gt x.Maps k)) (m:(¬(1≤((gt x.Maps k).Id)∧((gt x.Maps k).Id)≤99))∨((¬(0≤((gt x.Maps k).Copies)∧((gt x.Maps k).Copies)≤99))∨((¬(0≤((gt x.Maps k).Torn)∧((gt x.Maps k).Torn)≤((gt x.Maps k).Copies)))∨((0<(k:Int))∧(((gt x.Maps k).Id)≤((gt x.Maps (k-1)).Id)))))):¬(LibOK x):=by
 subst a b
 first | exact (fun hh=>hh.1.1 k oB ‹_›) | exact (fun hh=>hh.2.1.1 j oB (a_badI (MTo.end_ (And.right ‹_∧MTo _ _›) oB) ‹_›)) | (have g:=MTo.end_ (And.right ‹_∧MTo _ _›) oB; have l:=ATo.end_ (And.right ‹_∧ATo _ _ _›) oB; unfold LibOK; constructor <;> (intro h; simp only [g,l,true_and] at h ⊢; omega))
theorem z_c_impl_IsLibrary_125 (x:Library) (nx1:Nat) (c:(nx1:Int)≤9223372036854775807) (a:nx1=x.Maps.length) (nx2:Nat) (d:(nx2:Int)≤9223372036854775807) (b:nx2=x.Away.length) (q:(nx1:Int)≤1048576) (k:Nat) (g:k≤nx1∧MTo x.Maps k) (n:¬((k:Int)<(nx1:Int))) (j:Nat) (i:j≤nx2∧ATo x.Maps x.Away j) (p:(j:Int)<(nx2:Int)) (l:x.Away[j]?=some (gt x.Away j)) (e:bsP cmpM ((gt x.Away j).Map) x.Maps≤x.Maps.length) (f:(¬(bsF cmpM ((gt x.Away j).Map) x.Maps))∨((¬(1≤((gt x.Away j).Reader)∧((gt x.Away j).Reader)≤999))∨((0<(j:Int))∧(0≤(cmpA (gt x.Away (j-1)) (gt x.Away j)))))):¬(LibOK x):=by
 subst a b
 first | exact (fun hh=>hh.1.1 k oB ‹_›) | exact (fun hh=>hh.2.1.1 j oB (a_badI (MTo.end_ (And.right ‹_∧MTo _ _›) oB) ‹_›)) | (have m:=MTo.end_ (And.right ‹_∧MTo _ _›) oB; have o:=ATo.end_ (And.right ‹_∧ATo _ _ _›) oB; unfold LibOK; constructor <;> (intro h; simp only [m,o,true_and] at h ⊢; omega))
theorem z_c_impl_IsLibrary_156 (x:Library) (nx1:Nat) (c:(nx1:Int)≤9223372036854775807) (a:nx1=x.Maps.length) (nx2:Nat) (d:(nx2:Int)≤9223372036854775807) (b:nx2=x.Away.length) (n:(nx1:Int)≤1048576) (k:Nat) (e:k≤nx1∧MTo x.Maps k) (i:¬((k:Int)<(nx1:Int))) (j:Nat) (f:j≤nx2∧ATo x.Maps x.Away j) (m:¬((j:Int)<(nx2:Int))):(((nx1:Int)≤8)∧(((nx2:Int)≤8)∧((0≤x.Bought∧x.Bought≤9999)∧((0≤x.Dropped∧x.Dropped≤9999)∧((0≤x.Mended∧x.Mended≤9999)∧(x.Bought=(((sumC x.Maps)+(nx2:Int))+x.Dropped)))))))↔(LibOK x):=by
 subst a b
 first | exact (fun hh=>hh.1.1 k oB ‹_›) | exact (fun hh=>hh.2.1.1 j oB (a_badI (MTo.end_ (And.right ‹_∧MTo _ _›) oB) ‹_›)) | (have g:=MTo.end_ (And.right ‹_∧MTo _ _›) oB; have l:=ATo.end_ (And.right ‹_∧ATo _ _ _›) oB; unfold LibOK; constructor <;> (intro h; simp only [g,l,true_and] at h ⊢; omega))
theorem c_impl_IsLibrary (w:World) (x:Library) (aj:SlR w Bx1 encLMap 3 Ax1 nx1 cx1 x.Maps) (ak:SlR w Bx2 encAway 2 Ax2 nx2 cx2 x.Away) (aQ:(nx1:Int)≤1048576):Calls Tryz.prog 72 #[.agg (List.toArray (cLb Ax1 nx1 cx1 Ax2 nx2 cx2 x))] w fun e w'=>e=.returned (.bool (decide (LibOK x)))∧Lo w w':=by
 refine cW 130 Tryz.func72 G G G ?_
 have z:=aj.bound
 have B:=aj.len
 have be:=aj.bd
 have A:=ak.bound
 have C:=ak.len
 have bf:=ak.bd
 refine Ws (Wr (bx G ?_))
 intro g1 w2 b7 aO b8 aX
 refine Q (aB G)<|Qn (Ws (Ws (Wr (Q (fA fa34_0 G)<|Q (lB sca31 G aX G)<|Q (r_len und31 G)<|Q (r_mv (v:=i6 0) G)<|Qn (Wl (WL (σ:=Nat) (fun g=>[(1,pt g1),(10,.slice Ax1 nx1 cx1),(11,i6 (nx1:Int)),(12,i6 (g:Int))]) (fun g w'=>(Lo w w')∧(Blk w' g1 34 (cLb Ax1 nx1 cx1 Ax2 nx2 cx2 x))∧(SlR w' Bx1 encLMap 3 Ax1 nx1 cx1 x.Maps)∧(SlR w' Bx2 encAway 2 Ax2 nx2 cx2 x.Away)∧(g≤nx1∧MTo x.Maps g)) (fun g=>nx1-g) 0 ?_ ?_ ?_))))))
 ·exact (At.r G)
 ·exact ⟨((lr w).lo aO),aX,aj.lo aO,ak.lo aO,(by exact ⟨Nat.zero_le _,MTo.zero⟩)⟩
 ·rintro k f9 al aU
  obtain ⟨S,K,m,ao,X⟩:(Lo w al)∧(Blk al g1 34 (cLb Ax1 nx1 cx1 Ax2 nx2 cx2 x))∧(SlR al Bx1 encLMap 3 Ax1 nx1 cx1 x.Maps)∧(SlR al Bx2 encAway 2 Ax2 nx2 cx2 x.Away)∧(k≤nx1∧MTo x.Maps k):=aU
  refine (?_:W _ _ _ _ _ (act _ (sets f9 [(1,pt g1),(10,.slice Ax1 nx1 cx1),(11,i6 (nx1:Int)),(12,i6 (k:Int))])) _)
  have bn:=S.size
  have bB:=K.lt
  refine Ws (Wr (Q (r_lt G G)<|Qn (Ws (Wd G (fun ae=>?_) (fun ae=>?_)))))
  ·refine Wk (Ws (Wl (Ws (Wr (Q (mI G)<|?_)))))
   have au:=m.elem (i:=k) oB
   refine Q (rX tsl31 m G G oB)<|Q (r_lda (l:=encLMap (gt x.Maps k)) agg102 G (fun _ _ hu=>m.cell au hu) (m.esz _))<|Qa (l:=[i6 0,i6 0,i6 0]) tz102 G ?_
   intro b5 b9 bz F bH aW
   refine Q (aI G)<|Qw (o:=0) (vs:=[i6 ((gt x.Maps k).Id),i6 ((gt x.Maps k).Copies),i6 ((gt x.Maps k).Torn)]) agg102.2 G G G G aW ler G ?_
   intro bp H bI u
   refine Qn (Ws ?_)
   have ap:=(K.lo F).kn H
   have L:=(m.lo F).kn H
   refine W.regJD mo oC (fun f' w'=>At f' [(1,pt g1),(10,.slice Ax1 nx1 cx1),(11,i6 (nx1:Int)),(12,i6 (k:Int)),(50,.bool (decide ((¬(1≤((gt x.Maps k).Id)∧((gt x.Maps k).Id)≤99))∨((¬(0≤((gt x.Maps k).Copies)∧((gt x.Maps k).Copies)≤99))∨((¬(0≤((gt x.Maps k).Torn)∧((gt x.Maps k).Torn)≤((gt x.Maps k).Copies)))∨((0<(k:Int))∧(((gt x.Maps k).Id)≤((gt x.Maps (k-1)).Id))))))))]∧Lo bp w') ?_ ?_
   ·refine Rq (fun w' hw'=>fA fa102_0 G)<|Rq (fun w' hw'=>lB sca3 G (u.lo hw') G)<|QR.call ent120 (fun w' hw'=>(c_impl_isMapId w' ((gt x.Maps k).Id)).mono fun _ _ h=>⟨h.1,hw'.trans h.2⟩) G<|Rq (fun w' hw'=>rN G)<|Rq (fun w' hw'=>mB G)<|QR.splitN (fun M=>?_) (fun M=>?_)
    ·refine Rs G<|Rs G<|Rs G<|Rs G<|Rq (fun w' hw'=>pT G G)<|Rq (fun w' hw'=>mB G)<|Rs G<|Rs G<|Rs G<|Rs G<|Rs G<|Rs G<|Rq (fun w' hw'=>pT G G)<|Rq (fun w' hw'=>mB G)<|Rs G<|Rs G<|Rs G<|QR.u' G<|QR.u' G<|QR.u' G<|QR.u' G<|QR.u' G<|QR.u' G<|QR.u' G<|QR.u' G<|QR.u' G<|QR.u' G<|Rs G<|Rq (fun w' hw'=>pT G G)<|QR.nil ?_
     intro ca aZ
     exact ⟨⟨G,G,G,G,(eDT ((jmf M).1 trivial)),trivial⟩,aZ⟩
    ·refine Rg G (fun w' hw'=>fA fa102_1 G)<|Rg G (fun w' hw'=>lB sca3 G (u.lo hw') G)<|QR.gcall G ent66 (fun w' hw'=>(c_impl_within w' ((gt x.Maps k).Copies) 0 99).mono fun _ _ h=>⟨h.1,hw'.trans h.2⟩) G<|Rg G (fun w' hw'=>rN G)<|Rq (fun w' hw'=>pF G G)<|Rq (fun w' hw'=>mB G)<|QR.splitN (fun R=>?_) (fun R=>?_)
     ·refine Rs G<|Rs G<|Rs G<|Rs G<|Rs G<|Rs G<|Rq (fun w' hw'=>pT G G)<|Rq (fun w' hw'=>mB G)<|Rs G<|Rs G<|Rs G<|QR.u' G<|QR.u' G<|QR.u' G<|QR.u' G<|QR.u' G<|QR.u' G<|QR.u' G<|QR.u' G<|QR.u' G<|QR.u' G<|Rs G<|Rq (fun w' hw'=>pT G G)<|QR.nil ?_
      intro cd a6
      exact ⟨⟨G,G,G,G,(eDT (((jmf R).trans (jmt M)).1 trivial)),trivial⟩,a6⟩
     ·refine Rg G (fun w' hw'=>fA fa102_2 G)<|Rg G (fun w' hw'=>lB sca3 G (u.lo hw') G)<|Rg G (fun w' hw'=>fA fa102_1 G)<|Rg G (fun w' hw'=>lB sca3 G (u.lo hw') G)<|QR.gcall G ent66 (fun w' hw'=>(c_impl_within w' ((gt x.Maps k).Torn) 0 ((gt x.Maps k).Copies)).mono fun _ _ h=>⟨h.1,hw'.trans h.2⟩) G<|Rg G (fun w' hw'=>rN G)<|Rq (fun w' hw'=>pF G G)<|Rq (fun w' hw'=>mB G)<|QR.splitN (fun ag=>?_) (fun ag=>?_)
      ·refine Rs G<|Rs G<|Rs G<|QR.u' G<|QR.u' G<|QR.u' G<|QR.u' G<|QR.u' G<|QR.u' G<|QR.u' G<|QR.u' G<|QR.u' G<|QR.u' G<|Rs G<|Rq (fun w' hw'=>pT G G)<|QR.nil ?_
       intro ce a7
       exact ⟨⟨G,G,G,G,(eDT ((((jmf ag).trans (jmt R)).trans (jmt M)).1 trivial)),trivial⟩,a7⟩
      ·refine Rg G (fun w' hw'=>mI G)<|Rg G (fun w' hw'=>r_gt G G)<|Rg G (fun w' hw'=>mB G)<|QR.splitD (fun ay=>?_) (fun ay=>?_)
       ·refine Rg G (fun w' hw'=>fA fa102_0 G)<|Rg G (fun w' hw'=>lB sca3 G (u.lo hw') G)<|Rg G (fun w' hw'=>fA fa34_0 G)<|Rg G (fun w' hw'=>lB sca31 G (ap.lo hw') G)<|Rg G (fun w' hw'=>mI G)<|Rg G (fun w' hw'=>r_sub G G oB)<|?_
        have aw:=L.elem (i:=((k:Int)-1).toNat) oB
        rw [show ((k:Int)-1).toNat=k-1 from by omega] at aw
        have bb:x.Maps[((k:Int)-1).toNat]?=some (gt x.Maps (k-1)):=(show ((k:Int)-1).toNat=k-1 from by omega) ▸ aw
        refine Rg G (fun w' hw'=>rX tsl31 (L.lo hw') G G oB)<|Rg G (fun w' hw'=>fA fa102_0 G)<|Rg G (fun w' hw'=>r_ld (v:=i6 ((gt x.Maps (k-1)).Id)) sca3 G ((L.lo hw').cell bb G))<|Rg G (fun w' hw'=>r_le G G)<|Rg G (fun w' hw'=>pT G G)<|Rq (fun w' hw'=>pF G G)<|QR.nil ?_
        intro cf a8
        exact ⟨⟨G,G,G,G,(eDD ((((jat ay).trans (jmt ag)).trans (jmt R)).trans (jmt M))),trivial⟩,a8⟩
       ·refine Rs G<|Rs G<|Rs G<|Rs G<|Rs G<|Rs G<|Rs G<|Rs G<|Rs G<|Rs G<|Rg G (fun w' hw'=>pF G G)<|Rq (fun w' hw'=>pF G G)<|QR.nil ?_
        intro cg ba
        exact ⟨⟨G,G,G,G,(eDF ((((jaf ay).trans (jmt ag)).trans (jmt R)).trans (jmt M)).2),trivial⟩,ba⟩
   rintro bZ ch ⟨aA,y⟩
   rw [← sA aA]
   have bL:=y.size
   have am:=((S.lo F).new H).lo y
   refine Wd G (fun N=>?_) (fun N=>?_)
   ·refine Ws (Wr (Q (aB G)<|Qn (We (ret1 G (v:=.bool _) G (⟨eR (eDF (z_c_impl_IsLibrary_62 x nx1 z B nx2 A C aQ k X ae au N)),am⟩)))))
   ·have bD:1≤((gt x.Maps k).Id)∧((gt x.Maps k).Id)≤99:=(Classical.not_not.1 (not_or.1 N).1)
    have bE:0≤((gt x.Maps k).Copies)∧((gt x.Maps k).Copies)≤99:=(Classical.not_not.1 (not_or.1 (not_or.1 N).2).1)
    have bF:0≤((gt x.Maps k).Torn)∧((gt x.Maps k).Torn)≤((gt x.Maps k).Copies):=(Classical.not_not.1 (not_or.1 (not_or.1 (not_or.1 N).2).2).1)
    have bG:¬((0<(k:Int))∧(((gt x.Maps k).Id)≤((gt x.Maps (k-1)).Id))):=(not_or.1 (not_or.1 (not_or.1 N).2).2).2
    refine Wk (Wr (Q (r_add G G oB)<|Q (mI G)<|Qn (⟨k+1,_,G,(At.r G),⟨am,ap.lo y,L.lo y,((ao.lo F).kn H).lo y,?_⟩,?_⟩)))
    ·exact (by exact ⟨oB,MTo.next (And.right ‹_∧MTo _ _›) ‹_›⟩)
    ·exact oB
  ·refine Wx (xh (Ws (Ws (Wr (Q (fA fa34_1 G)<|Q (lB sca32 G K G)<|Q (r_len und32 G)<|Q (r_mv (v:=i6 0) G)<|Qn (Wl (WL (σ:=Nat) (fun g=>[(1,pt g1),(53,.slice Ax2 nx2 cx2),(54,i6 (nx2:Int)),(55,i6 (g:Int))]) (fun g w'=>(Lo w w')∧(Blk w' g1 34 (cLb Ax1 nx1 cx1 Ax2 nx2 cx2 x))∧(SlR w' Bx1 encLMap 3 Ax1 nx1 cx1 x.Maps)∧(SlR w' Bx2 encAway 2 Ax2 nx2 cx2 x.Away)∧(g≤nx2∧ATo x.Maps x.Away g)) (fun g=>nx2-g) 0 ?_ ?_ ?_)))))))
   ·exact (At.r G)
   ·exact ⟨S,K,m,ao,(by exact ⟨Nat.zero_le _,ATo.zero⟩)⟩
   ·rintro j bc ab aV
    obtain ⟨U,b,aq,n,an⟩:(Lo w ab)∧(Blk ab g1 34 (cLb Ax1 nx1 cx1 Ax2 nx2 cx2 x))∧(SlR ab Bx1 encLMap 3 Ax1 nx1 cx1 x.Maps)∧(SlR ab Bx2 encAway 2 Ax2 nx2 cx2 x.Away)∧(j≤nx2∧ATo x.Maps x.Away j):=aV
    refine (?_:W _ _ _ _ _ (act _ (sets bc [(1,pt g1),(53,.slice Ax2 nx2 cx2),(54,i6 (nx2:Int)),(55,i6 (j:Int))])) _)
    have bo:=U.size
    have bC:=b.lt
    refine Ws (Wr (Q (r_lt G G)<|Qn (Ws (Wd G (fun az=>?_) (fun az=>?_)))))
    ·refine Wk (Ws (Wl (Ws (Wr (Q (mI G)<|?_)))))
     have ax:=n.elem (i:=j) oB
     refine Q (rX tsl32 n G G oB)<|Q (r_lda (l:=encAway (gt x.Away j)) agg129 G (fun _ _ hu=>n.cell ax hu) (n.esz _))<|Qa (l:=[i6 0,i6 0]) tz129 G ?_
     intro b6 ci bA I bJ aY
     refine Q (aI G)<|Qw (o:=0) (vs:=[i6 ((gt x.Away j).Map),i6 ((gt x.Away j).Reader)]) agg129.2 G G G G aY ler G ?_
     intro bq J bK V
     refine Qn (Ws ?_)
     have Z:=(b.lo I).kn J
     have ar:=(aq.lo I).kn J
     have p:=(n.lo I).kn J
     refine Wr (Q (lG agg34 G Z G)<|Q (fA fa129_0 G)<|Q (lB sca3 G V G)<|Qv ent121 (c__impl_Library__mapAt bq x ar p ((gt x.Away j).Map) oB) G fun bs a bM=>?_)
     have aR:bsP cmpM ((gt x.Away j).Map) x.Maps≤x.Maps.length:=bsP_le
     refine Q (mT G)<|Q (xI G G)<|Q (xB G G)<|Q (aI G)<|Q (aB G)<|Qn (Ws (W.regJD mo oC (fun f' w'=>At f' [(1,pt g1),(53,.slice Ax2 nx2 cx2),(54,i6 (nx2:Int)),(55,i6 (j:Int)),(89,.bool (decide ((¬(bsF cmpM ((gt x.Away j).Map) x.Maps))∨((¬(1≤((gt x.Away j).Reader)∧((gt x.Away j).Reader)≤999))∨((0<(j:Int))∧(0≤(cmpA (gt x.Away (j-1)) (gt x.Away j))))))))]∧Lo bs w') ?_ ?_))
     ·refine Rq (fun w' hw'=>mB G)<|Rq (fun w' hw'=>rN G)<|Rq (fun w' hw'=>mB G)<|QR.splitN (fun q=>?_) (fun q=>?_)
      ·refine Rs G<|Rs G<|Rs G<|Rs G<|Rq (fun w' hw'=>pT G G)<|Rq (fun w' hw'=>mB G)<|Rs G<|Rs G<|Rs G<|QR.u' G<|QR.u' G<|QR.u' G<|QR.u' G<|QR.u' G<|QR.u' G<|QR.u' G<|QR.u' G<|QR.u' G<|Rs G<|Rq (fun w' hw'=>pT G G)<|QR.nil ?_
       intro bN aC
       exact ⟨⟨G,G,G,G,(eDT ((jmf q).1 trivial)),trivial⟩,aC⟩
      ·refine Rg G (fun w' hw'=>fA fa129_1 G)<|Rg G (fun w' hw'=>lB sca3 G ((V.lo a).lo hw') G)<|QR.gcall G ent122 (fun w' hw'=>(c_impl_isId w' ((gt x.Away j).Reader)).mono fun _ _ h=>⟨h.1,hw'.trans h.2⟩) G<|Rg G (fun w' hw'=>rN G)<|Rq (fun w' hw'=>pF G G)<|Rq (fun w' hw'=>mB G)<|QR.splitN (fun D=>?_) (fun D=>?_)
       ·refine Rs G<|Rs G<|Rs G<|QR.u' G<|QR.u' G<|QR.u' G<|QR.u' G<|QR.u' G<|QR.u' G<|QR.u' G<|QR.u' G<|QR.u' G<|Rs G<|Rq (fun w' hw'=>pT G G)<|QR.nil ?_
        intro bO aD
        exact ⟨⟨G,G,G,G,(eDT (((jmf D).trans (jmt q)).1 trivial)),trivial⟩,aD⟩
       ·refine Rg G (fun w' hw'=>mI G)<|Rg G (fun w' hw'=>r_gt G G)<|Rg G (fun w' hw'=>mB G)<|QR.splitD (fun O=>?_) (fun O=>?_)
        ·refine Rg G (fun w' hw'=>fA fa34_1 G)<|Rg G (fun w' hw'=>lB sca32 G ((Z.lo a).lo hw') G)<|Rg G (fun w' hw'=>mI G)<|Rg G (fun w' hw'=>r_sub G G oB)<|?_
         have aa:=(p.lo a).elem (i:=((j:Int)-1).toNat) oB
         rw [show ((j:Int)-1).toNat=j-1 from by omega] at aa
         have aT:x.Away[((j:Int)-1).toNat]?=some (gt x.Away (j-1)):=(show ((j:Int)-1).toNat=j-1 from by omega) ▸ aa
         refine Rg G (fun w' hw'=>rX tsl32 ((p.lo a).lo hw') G G oB)<|Rg G (fun w' hw'=>r_lda (l:=encAway (gt x.Away (j-1))) agg129 G (fun _ _ hu=>((p.lo a).lo hw').cell aT hu) (((p.lo a).lo hw').esz _))<|Rg G (fun w' hw'=>lG agg129 G ((V.lo a).lo hw') G)<|QR.gcall G ent123 (fun w' hw'=>(c_impl_compareAway w' (gt x.Away (j-1)) (gt x.Away j)).mono fun _ _ h=>⟨h.1,hw'.trans h.2⟩) G<|Rg G (fun w' hw'=>r_ge G G)<|Rg G (fun w' hw'=>pT G G)<|Rq (fun w' hw'=>pF G G)<|QR.nil ?_
         intro bP aE
         exact ⟨⟨G,G,G,G,(eDD (((jat O).trans (jmt D)).trans (jmt q))),trivial⟩,aE⟩
        ·refine Rs G<|Rs G<|Rs G<|Rs G<|Rs G<|Rs G<|Rs G<|Rs G<|Rs G<|Rg G (fun w' hw'=>pF G G)<|Rq (fun w' hw'=>pF G G)<|QR.nil ?_
         intro bQ aF
         exact ⟨⟨G,G,G,G,(eDF (((jaf O).trans (jmt D)).trans (jmt q)).2),trivial⟩,aF⟩
     rintro bt bR ⟨ah,d⟩
     rw [← sA ah]
     have bl:=d.size
     have T:=(((U.lo I).new J).lo a).lo d
     refine Wd G (fun s=>?_) (fun s=>?_)
     ·refine Ws (Wr (Q (aB G)<|Qn (We (ret1 G (v:=.bool _) G (⟨eR (eDF (z_c_impl_IsLibrary_125 x nx1 z B nx2 A C aQ k X ae j an az ax aR s)),T⟩)))))
     ·have bg:bsF cmpM ((gt x.Away j).Map) x.Maps:=(Classical.not_not.1 (not_or.1 s).1)
      have bh:1≤((gt x.Away j).Reader)∧((gt x.Away j).Reader)≤999:=(Classical.not_not.1 (not_or.1 (not_or.1 s).2).1)
      have bi:¬((0<(j:Int))∧(0≤(cmpA (gt x.Away (j-1)) (gt x.Away j)))):=(not_or.1 (not_or.1 s).2).2
      refine Wk (Wr (Q (r_add G G oB)<|Q (mI G)<|Qn (⟨j+1,_,G,(At.r G),⟨T,((Z.lo a).lo d),((ar.lo a).lo d),((p.lo a).lo d),?_⟩,?_⟩)))
      ·exact (by exact ⟨oB,ATo.next (And.right ‹_∧ATo _ _ _›) (a_goodI (MTo.end_ (And.right ‹_∧MTo _ _›) oB) ‹_›)⟩)
      ·exact oB
    ·refine Wx (xh (Ws (W.regJD mo oC (fun f' w'=>At f' [(2,.bool (decide (((nx1:Int)≤8)∧(((nx2:Int)≤8)∧((0≤x.Bought∧x.Bought≤9999)∧((0≤x.Dropped∧x.Dropped≤9999)∧((0≤x.Mended∧x.Mended≤9999)∧(x.Bought=(((sumC x.Maps)+(nx2:Int))+x.Dropped)))))))))]∧Lo ab w') ?_ ?_)))
     ·refine Rq (fun w' hw'=>fA fa34_0 G)<|Rq (fun w' hw'=>lB sca31 G (b.lo hw') G)<|Rq (fun w' hw'=>r_len und31 G)<|Rq (fun w' hw'=>r_le G G)<|Rq (fun w' hw'=>mB G)<|QR.splitD (fun c=>?_) (fun c=>?_)
      ·refine Rg G (fun w' hw'=>fA fa34_1 G)<|Rg G (fun w' hw'=>lB sca32 G (b.lo hw') G)<|Rg G (fun w' hw'=>r_len und32 G)<|Rg G (fun w' hw'=>r_le G G)<|Rq (fun w' hw'=>pT G G)<|Rq (fun w' hw'=>mB G)<|QR.splitD (fun f=>?_) (fun f=>?_)
       ·refine Rg G (fun w' hw'=>fA fa34_2 G)<|Rg G (fun w' hw'=>lB sca3 G (b.lo hw') G)<|QR.gcall G ent124 (fun w' hw'=>(c_impl_isSum w' x.Bought).mono fun _ _ h=>⟨h.1,hw'.trans h.2⟩) G<|Rq (fun w' hw'=>pT G G)<|Rq (fun w' hw'=>mB G)<|QR.splitD (fun t=>?_) (fun t=>?_)
        ·refine Rg G (fun w' hw'=>fA fa34_3 G)<|Rg G (fun w' hw'=>lB sca3 G (b.lo hw') G)<|QR.gcall G ent124 (fun w' hw'=>(c_impl_isSum w' x.Dropped).mono fun _ _ h=>⟨h.1,hw'.trans h.2⟩) G<|Rq (fun w' hw'=>pT G G)<|Rq (fun w' hw'=>mB G)<|QR.splitD (fun E=>?_) (fun E=>?_)
         ·refine Rg G (fun w' hw'=>fA fa34_4 G)<|Rg G (fun w' hw'=>lB sca3 G (b.lo hw') G)<|QR.gcall G ent124 (fun w' hw'=>(c_impl_isSum w' x.Mended).mono fun _ _ h=>⟨h.1,hw'.trans h.2⟩) G<|Rq (fun w' hw'=>pT G G)<|Rq (fun w' hw'=>mB G)<|QR.splitD (fun P=>?_) (fun P=>?_)
          ·refine Rg G (fun w' hw'=>fA fa34_2 G)<|Rg G (fun w' hw'=>lB sca3 G (b.lo hw') G)<|Rg G (fun w' hw'=>lG agg34 G (b.lo hw') G)<|QR.gcall G ent125 (fun w' hw'=>(c__impl_Library__copies w' x (aq.lo hw') (n.lo hw') (by first | assumption | exact MTo.end_ (And.right ‹_∧MTo _ _›) oB) oB).mono fun _ _ h=>⟨h.1,hw'.trans h.2⟩) G<|?_
           have bj:0≤sumC x.Maps∧sumC x.Maps≤792:=sumC_rng (by first | assumption | exact MTo.end_ (And.right ‹_∧MTo _ _›) oB) oB
           refine Rg G (fun w' hw'=>fA fa34_1 G)<|Rg G (fun w' hw'=>lB sca32 G (b.lo hw') G)<|Rg G (fun w' hw'=>r_len und32 G)<|Rg G (fun w' hw'=>r_add G G oB)<|Rg G (fun w' hw'=>fA fa34_3 G)<|Rg G (fun w' hw'=>lB sca3 G (b.lo hw') G)<|Rg G (fun w' hw'=>r_add G G oB)<|Rg G (fun w' hw'=>r_eq G G)<|Rq (fun w' hw'=>pT G G)<|Rq (fun w' hw'=>aB G)<|QR.nil ?_
           intro bS aG
           exact ⟨⟨(eDD (((((jat P).trans (jat E)).trans (jat t)).trans (jat f)).trans (jat c))),trivial⟩,aG⟩
          ·refine Rs G<|Rs G<|Rs G<|Rs G<|Rs G<|Rs G<|Rs G<|Rs G<|Rs G<|Rs G<|Rs G<|Rs G<|Rq (fun w' hw'=>pF G G)<|Rq (fun w' hw'=>aB G)<|QR.nil ?_
           intro bT aH
           exact ⟨⟨(eDF (((((jaf P).trans (jat E)).trans (jat t)).trans (jat f)).trans (jat c)).2),trivial⟩,aH⟩
         ·refine Rs G<|Rs G<|Rs G<|Rq (fun w' hw'=>pF G G)<|Rq (fun w' hw'=>mB G)<|Rs G<|Rs G<|Rs G<|Rs G<|Rs G<|Rs G<|Rs G<|Rs G<|Rs G<|Rs G<|Rs G<|Rs G<|Rq (fun w' hw'=>pF G G)<|Rq (fun w' hw'=>aB G)<|QR.nil ?_
          intro bU aJ
          exact ⟨⟨(eDF ((((jaf E).trans (jat t)).trans (jat f)).trans (jat c)).2),trivial⟩,aJ⟩
        ·refine Rs G<|Rs G<|Rs G<|Rq (fun w' hw'=>pF G G)<|Rq (fun w' hw'=>mB G)<|Rs G<|Rs G<|Rs G<|Rq (fun w' hw'=>pF G G)<|Rq (fun w' hw'=>mB G)<|Rs G<|Rs G<|Rs G<|Rs G<|Rs G<|Rs G<|Rs G<|Rs G<|Rs G<|Rs G<|Rs G<|Rs G<|Rq (fun w' hw'=>pF G G)<|Rq (fun w' hw'=>aB G)<|QR.nil ?_
         intro bV aK
         exact ⟨⟨(eDF (((jaf t).trans (jat f)).trans (jat c)).2),trivial⟩,aK⟩
       ·refine Rs G<|Rs G<|Rs G<|Rq (fun w' hw'=>pF G G)<|Rq (fun w' hw'=>mB G)<|Rs G<|Rs G<|Rs G<|Rq (fun w' hw'=>pF G G)<|Rq (fun w' hw'=>mB G)<|Rs G<|Rs G<|Rs G<|Rq (fun w' hw'=>pF G G)<|Rq (fun w' hw'=>mB G)<|Rs G<|Rs G<|Rs G<|Rs G<|Rs G<|Rs G<|Rs G<|Rs G<|Rs G<|Rs G<|Rs G<|Rs G<|Rq (fun w' hw'=>pF G G)<|Rq (fun w' hw'=>aB G)<|QR.nil ?_
        intro bW aM
        exact ⟨⟨(eDF ((jaf f).trans (jat c)).2),trivial⟩,aM⟩
      ·refine Rs G<|Rs G<|Rs G<|Rs G<|Rq (fun w' hw'=>pF G G)<|Rq (fun w' hw'=>mB G)<|Rs G<|Rs G<|Rs G<|Rq (fun w' hw'=>pF G G)<|Rq (fun w' hw'=>mB G)<|Rs G<|Rs G<|Rs G<|Rq (fun w' hw'=>pF G G)<|Rq (fun w' hw'=>mB G)<|Rs G<|Rs G<|Rs G<|Rq (fun w' hw'=>pF G G)<|Rq (fun w' hw'=>mB G)<|Rs G<|Rs G<|Rs G<|Rs G<|Rs G<|Rs G<|Rs G<|Rs G<|Rs G<|Rs G<|Rs G<|Rs G<|Rq (fun w' hw'=>pF G G)<|Rq (fun w' hw'=>aB G)<|QR.nil ?_
       intro bX aN
       exact ⟨⟨(eDF (jaf c).2),trivial⟩,aN⟩
     rintro bu bY ⟨ai,Y⟩
     rw [← sA ai]
     have bm:=Y.size
     refine We (ret1 G (v:=.bool _) G (⟨eR (eDD (z_c_impl_IsLibrary_156 x nx1 z B nx2 A C aQ k X ae j an az)),(U.lo Y)⟩))
end Go.Proofs.YtndcchndcghmoaaGreatDoor
namespace Go.Proofs.YtndcchndcghmoaaGreatDoor
open Go Go.RowKit Fw
set_option maxRecDepth 10000
set_option maxHeartbeats 2000000
set_option linter.unusedVariables false
variable {Ax1 Ax2 : Option Addr} {nx1 cx1 Bx1 nx2 cx2 Bx2 : Nat}
theorem ent126:Ent Tryz.prog 126:=en Tryz.func126
theorem ent128:Ent Tryz.prog 128:=en Tryz.func128
theorem ent72:Ent Tryz.prog 72:=en Tryz.func72
theorem ent76:Ent Tryz.prog 76:=en Tryz.func76
theorem ent80:Ent Tryz.prog 80:=en Tryz.func80
theorem c__impl_Library__readersOf (w:World) (x:Library) (t:SlR w Bx1 encLMap 3 Ax1 nx1 cx1 x.Maps) (n:SlR w Bx2 encAway 2 Ax2 nx2 cx2 x.Away) (r:Int) (ap:nx2≤8):Calls Tryz.prog 126 #[.agg (List.toArray (cLb Ax1 nx1 cx1 Ax2 nx2 cx2 x)),i6 r] w fun e w'=>∃ A1' n1' c1',e=.returned (.slice A1' n1' c1')∧SlO w' w.heap.size encI 1 3 A1' n1' c1' (selL (ofM r) Away.Reader x.Away)∧Lo w w':=by
 refine cW 26 Tryz.func126 G G G ?_
 have U:=t.bound
 have X:=t.len
 have R:=t.bd
 have V:=n.bound
 have Y:=n.len
 have S:=n.bd
 refine Ws (Wr (bx G ?_))
 intro g1 w2 ao C aq T
 refine Q (r_as (v:=.slice none 0 0) G)<|Qn (Ws (Wr (Q (r_as (v:=.slice none 0 0) G)<|Qn (Ws (Ws (Wr (Q (fA fa34_1 G)<|Q (lB sca32 G T G)<|Q (r_len und32 G)<|Q (r_mv (v:=i6 0) G)<|Qn (Wl (WL (σ:=Nat × (Option Addr) × Nat × Nat) (fun g=>[(1,i6 r),(4,.slice none 0 0),(5,.slice g.2.1 g.2.2.1 g.2.2.2),(9,.slice Ax2 nx2 cx2),(10,i6 (nx2:Int)),(11,i6 (g.1:Int))]) (fun g w'=>(Lo w w')∧(SlR w' Bx2 encAway 2 Ax2 nx2 cx2 x.Away)∧(SlO w' w.heap.size encI 1 3 g.2.1 g.2.2.1 g.2.2.2 (selL (ofM r) Away.Reader (x.Away.take g.1)))∧(g.1≤nx2)) (fun g=>nx2-g.1) (0,(none:Option Addr),0,0) ?_ ?_ ?_)))))))))
 ·exact (At.r G)
 ·exact ⟨((lr w).lo C),n.lo C,(oq (SlO.nil (base:=w.heap.size) (e:=3) (enc:=encI) (fun _=>G) oB) oX),oH⟩
 ·rintro ⟨k,H,F,I⟩ M u A
  obtain ⟨f,c,b,ae⟩:(Lo w u)∧(SlR u Bx2 encAway 2 Ax2 nx2 cx2 x.Away)∧(SlO u w.heap.size encI 1 3 H F I (selL (ofM r) Away.Reader (x.Away.take k)))∧(k≤nx2):=A
  refine (?_:W _ _ _ _ _ (act _ (sets M [(1,i6 r),(4,.slice none 0 0),(5,.slice H F I),(9,.slice Ax2 nx2 cx2),(10,i6 (nx2:Int)),(11,i6 (k:Int))])) _)
  have Z:=f.size
  have ag:=b.len
  have ah:=b.rd.bound
  have ai:=sel_lenT x.Away k (ofM r) Away.Reader
  refine Ws (Wr (Q (r_lt G G)<|Qn (Ws (Wd G (fun O=>?_) (fun O=>?_)))))
  ·refine Wk (Ws (Wl (Ws ?_)))
   have E:=c.elem (i:=k) oB
   refine Wr (Q (rX tsl32 c G G oB)<|Q (r_lda (l:=encAway (gt x.Away k)) agg129 G (fun _ _ hu=>c.cell E hu) (c.esz _))<|Qa (l:=[i6 0,i6 0]) tz129 G ?_)
   intro N ar ab h aj B
   refine Qw (o:=0) (vs:=[i6 ((gt x.Away k).Map),i6 ((gt x.Away k).Reader)]) agg129.2 G G G G B ler G ?_
   intro au j ak q
   have p:=(f.lo h).new j
   refine Qn (Ws ?_)
   have d:=(b.lo h).kd j (nE (g:=N) b)
   have s:=(c.lo h).kn j
   refine Wr (Q (fA fa129_0 G)<|Q (lB sca3 G q G)<|Q (mI G)<|Q (r_eq G G)<|Qn (Wd G (fun P=>?_) (fun P=>?_)))
   ·refine Wr (Q (mL G)<|Q (fA fa129_1 G)<|Q (lB sca3 G q G)<|Ql (vs:=[i6 ((gt x.Away k).Reader)]) (L:=([(gt x.Away k).Reader]:List Int)) (enc:=encI) tel93 (fun _=>G) G G G oG ?_)
    intro an aw ac a y
    have al:=a.size
    refine Qp tel93 G G (d.lo a) (y.rd) (fun _=>G) oB oB ?_
    intro J K ax m z aa
    have am:=m.size
    refine Q (aL G)<|Qn ?_
    have D:=(s.lo a).kp m (fun b_ hb e'=>by have:=(d.lo a).base_le e'; omega)
    refine Wr (Q (r_add G G oB)<|Q (mI G)<|Qn (⟨(k+1,J,F+1,K),_,G,(At.r G),⟨((p.lo a).step m (fun i_ hi_ e'=>by have:=(d.lo a).base_le e'; first | omega | exact e' | exact .inl e' | exact .inr e')),D,(oq z (by first | exact sel_yes oB (decide_eq_true ‹_›) | exact sel_no oB (decide_eq_false ‹_›))),?_⟩,?_⟩))
    ·exact oH
    ·exact oH
   ·refine Wk (Wr (Q (r_add G G oB)<|Q (mI G)<|Qn (⟨(k+1,H,F,I),_,G,(At.r G),⟨p,s,(oq d (by first | exact sel_yes oB (decide_eq_true ‹_›) | exact sel_no oB (decide_eq_false ‹_›))),?_⟩,?_⟩)))
    ·exact oH
    ·exact oH
  ·refine Wx (xh (Ws (Wr (Q (mL G)<|Q (aL G)<|Qn (We (ret1 G (v:=.slice _ _ _) G (⟨H,F,I,eR G,(oq (b.down) (by exact sel_end oB)),f⟩)))))))
theorem c_spec_l32At (w:World) (x:Library) (z:SlR w Bx1 encLMap 3 Ax1 nx1 cx1 x.Maps) (A:SlR w Bx2 encAway 2 Ax2 nx2 cx2 x.Away) (r:Int) (ar:nx2≤8):Calls Tryz.prog 128 #[.agg (List.toArray (cLb Ax1 nx1 cx1 Ax2 nx2 cx2 x)),i6 r] w fun e w'=>∃ A1' n1' c1',e=.returned (.slice A1' n1' c1')∧SlO w' w.heap.size encI 1 3 A1' n1' c1' (selL (ofM r) Away.Reader x.Away)∧Lo w w':=by
 refine cW 33 Tryz.func128 G G G ?_
 have Y:=z.bound
 have aa:=z.len
 have U:=z.bd
 have Z:=A.bound
 have ab:=A.len
 have V:=A.bd
 refine Ws (Wr (bx G ?_))
 intro o w2 aq E au X
 refine Q (r_as (v:=.slice none 0 0) G)<|Qn (Ws (Wr (Ql (vs:=[]) (L:=([]:List Int)) (enc:=encI) tel93 (fun _=>G) G G G oG ?_)))
 intro R t ae j B
 have am:=j.size
 refine Q (aL G)<|Qn (Ws (Ws (Wr (Q (aI G)<|Qn (Wl (WL (σ:=Nat × (Option Addr) × Nat × Nat) (fun g=>[(1,i6 r),(2,pt o),(4,.slice none 0 0),(5,.slice g.2.1 g.2.2.1 g.2.2.2),(6,i6 (g.1:Int))]) (fun g w'=>(Lo w w')∧(Blk w' o 34 (cLb Ax1 nx1 cx1 Ax2 nx2 cx2 x))∧(SlR w' Bx1 encLMap 3 Ax1 nx1 cx1 x.Maps)∧(SlR w' Bx2 encAway 2 Ax2 nx2 cx2 x.Away)∧(SlO w' w.heap.size encI 1 3 g.2.1 g.2.2.1 g.2.2.2 (selL (ofM r) Away.Reader (x.Away.take g.1)))∧(¬g.2.1=some ⟨o,0,none⟩)∧(g.1≤nx2)) (fun g=>nx2-g.1) (0,(pA R),0,0) ?_ ?_ ?_))))))
 ·exact (At.r G)
 ·show (Lo w t)∧(Blk t o 34 (cLb Ax1 nx1 cx1 Ax2 nx2 cx2 x))∧(SlR t Bx1 encLMap 3 Ax1 nx1 cx1 x.Maps)∧(SlR t Bx2 encAway 2 Ax2 nx2 cx2 x.Away)∧(SlO t w.heap.size encI 1 3 (pA R) 0 0 (selL (ofM r) Away.Reader (x.Away.take 0)))∧(¬(pA R)=some ⟨o,0,none⟩)∧(0≤nx2)
  exact ⟨(((lr w).lo E).lo j),X.lo j,((z.lo E).lo j),((A.lo E).lo j),(oq (B.down) oX),(nE B),oH⟩
 ·rintro ⟨k,m,n,q⟩ P f K
  obtain ⟨p,c,C,d,b,s,ah⟩:(Lo w f)∧(Blk f o 34 (cLb Ax1 nx1 cx1 Ax2 nx2 cx2 x))∧(SlR f Bx1 encLMap 3 Ax1 nx1 cx1 x.Maps)∧(SlR f Bx2 encAway 2 Ax2 nx2 cx2 x.Away)∧(SlO f w.heap.size encI 1 3 m n q (selL (ofM r) Away.Reader (x.Away.take k)))∧(¬m=some ⟨o,0,none⟩)∧(k≤nx2):=K
  refine (?_:W _ _ _ _ _ (act _ (sets P [(1,i6 r),(2,pt o),(4,.slice none 0 0),(5,.slice m n q),(6,i6 (k:Int))])) _)
  have ac:=p.size
  have ai:=c.lt
  have aj:=b.len
  have ak:=b.rd.bound
  have al:=sel_lenT x.Away k (ofM r) Away.Reader
  refine Ws (Ws (Wr (Q (mI G)<|Q (fA fa34_1 G)<|Q (lB sca32 G c G)<|Q (r_len und32 G)<|Q (r_lt G G)<|Qn (Wd G (fun S=>?_) (fun S=>?_)))))
  ·refine Wk (Ws (Wl (Ws (Wr (Q (fA fa34_1 G)<|Q (lB sca32 G c G)<|Q (mI G)<|?_)))))
   have D:=d.elem (i:=k) oB
   refine Q (rX tsl32 d G G oB)<|Q (fA fa129_0 G)<|Q (r_ld (v:=i6 ((gt x.Away k).Map)) sca3 G (d.cell D G))<|Q (mI G)<|Q (r_eq G G)<|Qn (Wd G (fun T=>?_) (fun T=>?_))
   ·refine Wr (Q (mL G)<|Q (fA fa34_1 G)<|Q (lB sca32 G c G)<|Q (mI G)<|Q (rX tsl32 d G G oB)<|Q (fA fa129_1 G)<|Q (r_ld (v:=i6 ((gt x.Away k).Reader)) sca3 G (d.cell D G))<|Ql (vs:=[i6 ((gt x.Away k).Reader)]) (L:=([(gt x.Away k).Reader]:List Int)) (enc:=encI) tel93 (fun _=>G) G G G oG ?_)
    intro ap aw ag a I
    have an:=a.size
    refine Qp tel93 G G (b.lo a) (I.rd) (fun _=>G) oB oB ?_
    intro y F u l J H
    have ao:=l.size
    have M:¬y=some ⟨o,0,none⟩:=fun e'=>(H o e').elim (fun h=>s (h.trans e')) (fun h=>by have:=(c.lo a).lt; omega)
    refine Q (aL G)<|Qn ?_
    have N:=(C.lo a).kp l (fun b_ hb e'=>by have:=(b.lo a).base_le e'; omega)
    have O:=(d.lo a).kp l (fun b_ hb e'=>by have:=(b.lo a).base_le e'; omega)
    refine Wr (Q (mI G)<|Q (r_add G G oB)<|Q (aI G)<|Qn (⟨(k+1,y,n+1,F),_,G,(At.r G),(show (Lo w u)∧(Blk u o 34 (cLb Ax1 nx1 cx1 Ax2 nx2 cx2 x))∧(SlR u Bx1 encLMap 3 Ax1 nx1 cx1 x.Maps)∧(SlR u Bx2 encAway 2 Ax2 nx2 cx2 x.Away)∧(SlO u w.heap.size encI 1 3 y (n+1) F (selL (ofM r) Away.Reader (x.Away.take (k+1))))∧(¬y=some ⟨o,0,none⟩)∧(k+1≤nx2) from ⟨((p.lo a).step l (fun i_ hi_ e'=>by have:=(b.lo a).base_le e'; first | omega | exact e' | exact .inl e' | exact .inr e')),((c.lo a).kp l (fun e'=>s e')),N,O,(oq J (by first | exact sel_yes oB (decide_eq_true ‹_›) | exact sel_no oB (decide_eq_false ‹_›))),M,?_⟩),?_⟩))
    ·exact oH
    ·exact oH
   ·refine Wk (Wr (Q (mI G)<|Q (r_add G G oB)<|Q (aI G)<|Qn (⟨(k+1,m,n,q),_,G,(At.r G),(show (Lo w f)∧(Blk f o 34 (cLb Ax1 nx1 cx1 Ax2 nx2 cx2 x))∧(SlR f Bx1 encLMap 3 Ax1 nx1 cx1 x.Maps)∧(SlR f Bx2 encAway 2 Ax2 nx2 cx2 x.Away)∧(SlO f w.heap.size encI 1 3 m n q (selL (ofM r) Away.Reader (x.Away.take (k+1))))∧(¬m=some ⟨o,0,none⟩)∧(k+1≤nx2) from ⟨p,c,C,d,(oq b (by first | exact sel_yes oB (decide_eq_true ‹_›) | exact sel_no oB (decide_eq_false ‹_›))),s,?_⟩),?_⟩)))
    ·exact oH
    ·exact oH
  ·refine Wx (xh (Ws (Wr (Q (mL G)<|Q (aL G)<|Qn (We (ret1 G (v:=.slice _ _ _) G (⟨m,n,q,eR G,(oq (b.down) (by exact sel_end oB)),p⟩)))))))
theorem c_spec_l32Text (w:World) (x:Library) (b:SlR w Bx1 encLMap 3 Ax1 nx1 cx1 x.Maps) (t:SlR w Bx2 encAway 2 Ax2 nx2 cx2 x.Away) (i:Int) (Y:LibOK x) (aC:0≤i∧i<(nx1:Int)):Calls Tryz.prog 76 #[.agg (List.toArray (cLb Ax1 nx1 cx1 Ax2 nx2 cx2 x)),i6 i] w fun e w'=>e=.returned (str (textL x i))∧Lo w w':=by
 refine cW 27 Tryz.func76 G G G ?_
 have U:=b.bound
 have W:=b.len
 have S:=b.bd
 have V:=t.bound
 have X:=t.len
 have T:=t.bd
 have hla:=lib_len Y
 refine Ws (Wr (bx G ?_))
 intro g1 w2 aA c aD D
 refine Q (r_as (v:=str ([]:List UInt8)) G)<|Qn (Ws (Wr (Q (fA fa34_0 G)<|Q (lB sca31 G D G)<|Q (mI G)<|?_)))
 have B:=(b.lo c).elem (i:=i.toNat) oB
 have aj:=maps_rng ‹LibOK x›.1.1 B
 refine Q (rX tsl31 (b.lo c) G G oB)<|Q (r_lda (l:=encLMap (gt x.Maps i.toNat)) agg102 G (fun _ _ hu=>(b.lo c).cell B hu) ((b.lo c).esz _))<|Qa (l:=[i6 0,i6 0,i6 0]) tz102 G ?_
 intro az aE ag g ao C
 refine Qw (o:=0) (vs:=[i6 ((gt x.Maps i.toNat).Id),i6 ((gt x.Maps i.toNat).Copies),i6 ((gt x.Maps i.toNat).Torn)]) agg102.2 G G G G C ler G ?_
 intro M h ap m
 refine Qn (Ws (WA (Lo M) (fun f' w'=>∃ (N:Option Addr) (r:Nat) (P:Nat),At f' [(4,str (((((Lib.itoa ((gt x.Maps i.toNat).Copies))++([32,116,111,114,110,32]:List UInt8))++(Lib.itoa ((gt x.Maps i.toNat).Torn)))++([32,97,119,97,121,32]:List UInt8))++(Lib.itoa (r:Int))))]∧(Lo M w')∧((Lib.itoa ((gt x.Maps i.toNat).Copies)).length≤21)∧((Lib.itoa ((gt x.Maps i.toNat).Torn)).length≤21)∧(r=(selL (ofM ((gt x.Maps i.toNat).Id)) Away.Reader x.Away).length)∧((r:Int)≤9223372036854775807)∧((selL (ofM ((gt x.Maps i.toNat).Id)) Away.Reader x.Away).length≤x.Away.length)∧((Lib.itoa (r:Int)).length≤21)) mo ?_ ?_))
 ·intro aa a
  have aq:=a.size
  refine Ak 0 G a (fun w' hw'=>fA fa102_1 G)<|Ak 1 G a (fun w' hw'=>lB sca3 G (m.lo hw') G)<|Ak 4 G a (fun w' hw'=>fA fa102_2 G)<|Ak 5 G a (fun w' hw'=>lB sca3 G (m.lo hw') G)<|Ak 9 G a (fun w' hw'=>lG agg34 G (((D.lo g).kn h).lo hw') G)<|Ak 10 G a (fun w' hw'=>fA fa102_0 G)<|Ak 11 G a (fun w' hw'=>lB sca3 G (m.lo hw') G)<|Ab 2 G (Qv ent75 (c_spec_l1Num aa ((gt x.Maps i.toNat).Copies) oB) G fun ab p ar=>?_)
  have j:=a.lo p
  have I:(Lib.itoa ((gt x.Maps i.toNat).Copies)).length≤21:=itoa_len (n:=(gt x.Maps i.toNat).Copies) oB oB
  refine Qn ⟨j,_,G,(Ak 3 G j (fun w' hw'=>r_cat G G oA)<|Ab 6 G (Qv ent75 (c_spec_l1Num ab ((gt x.Maps i.toNat).Torn) oB) G fun ac q au=>?_))⟩
  have d:=j.lo q
  have J:(Lib.itoa ((gt x.Maps i.toNat).Torn)).length≤21:=itoa_len (n:=(gt x.Maps i.toNat).Torn) oB oB
  refine Qn ⟨d,_,G,(Ak 7 G d (fun w' hw'=>r_cat G G oA)<|Ak 8 G d (fun w' hw'=>r_cat G G oA)<|Ab 12 G (Qc ent128 (c_spec_l32At ac x ((((((b.lo c).lo g).kn h).lo a).lo p).lo q) ((((((t.lo c).lo g).kn h).lo a).lo p).lo q) ((gt x.Maps i.toNat).Id) oB) G ?_))⟩
  rintro e ae ⟨O,u,R,rfl,y,A⟩
  refine ⟨_,G,?_⟩
  have aw:=A.size
  have k:=d.lo A
  have F:=y.len
  have H:=y.rd.bound
  have K:=sel_len x.Away (ofM ((gt x.Maps i.toNat).Id)) Away.Reader
  refine Qn ⟨k,_,G,(Ak 13 G k (fun w' hw'=>r_len und93 G)<|Ab 14 G (Qv ent75 (c_spec_l1Num ae (u:Int) oB) G fun aF E ax=>?_))⟩
  have f:=k.lo E
  have L:(Lib.itoa (u:Int)).length≤21:=itoa_len (n:=(u:Int)) oB oB
  refine Qn ⟨f,_,G,(Ak 15 G f (fun w' hw'=>r_cat G G oA)<|Ak 16 G f (fun w' hw'=>aS G)<|Ad oC (⟨O,u,R,⟨G,trivial⟩,f,I,J,F,H,K,L⟩))⟩
 rintro ay aG ⟨N,r,P,s,z,ak,al,ah,ai,am,an⟩
 rw [← sA s]
 have Z:=z.size
 refine We (ret1 G (v:=str _) G (⟨eR (eS (by unfold textL textM; rw [← ‹_=(selL _ _ _).length›])),(((((lr w).lo c).lo g).new h).lo z)⟩))
theorem c_spec_MapText (w:World) (x:Library) (f:SlR w Bx1 encLMap 3 Ax1 nx1 cx1 x.Maps) (g:SlR w Bx2 encAway 2 Ax2 nx2 cx2 x.Away) (id:Int):Calls Tryz.prog 176 #[.agg (List.toArray (cLb Ax1 nx1 cx1 Ax2 nx2 cx2 x)),i6 id] w fun e w'=>e=.returned (.tuple (List.toArray [str ((mapT x id).1),.bool ((mapT x id).2)]))∧Lo w w':=by
 refine cW 20 Tryz.func176 G G G ?_
 have z:=f.bound
 have B:=f.len
 have u:=f.bd
 have A:=g.bound
 have C:=g.len
 have y:=g.bd
 refine Ws (Wr (bx G ?_))
 intro V Z W d X r
 refine Q (r_as (v:=str ([]:List UInt8)) G)<|Q (aB G)<|Qn (Ws (Wr (Q (lG agg34 G r G)<|Q (mI G)<|Qv ent165 (c_spec_l32Map Z x (f.lo d) (g.lo d) id) G fun T a O=>?_)))
 have E:idxF (hasId id) x.Maps<(x.Maps.length:Int)∧-1≤idxF (hasId id) x.Maps:=idx_lt
 refine Q (aI G)<|Qn (Ws (Ws ?_))
 have k:=(f.lo d).lo a
 have l:=(g.lo d).lo a
 refine WJ (fun f' w'=>At f' [(2,pt V),(4,str ([]:List UInt8)),(5,.bool false),(6,i6 (idxF (hasId id) x.Maps)),(16,.bool (decide ((¬(LibOK x))∨((idxF (hasId id) x.Maps)<0))))]∧Lo T w') ?_ ?_
 ·refine Q (lG agg34 G (r.lo a) G)<|Qv ent80 (c_spec_l32Good T x k l) G fun Y j P=>(Q (rN G)<|Q (mB G)<|QN (fun c=>?_) (fun c=>?_))
  ·refine Qs<|Qs<|Q (pT G G)<|Qn (⟨_,G,⟨⟨G,G,G,G,(eDT ((jmf c).1 trivial)),trivial⟩,j⟩⟩)
  ·have m:=And.left c
   have F:=lib_len c
   have H:=And.left m
   have I:=And.right m
   refine Qg (mI G)<|Qg (r_lt G G)<|Q (pF G G)<|Qn (⟨_,G,⟨⟨G,G,G,G,(eDD (jmt c)),trivial⟩,j⟩⟩)
 rintro U D ⟨q,b⟩
 rw [← sA q]
 have R:=b.size
 have h:=(((lr w).lo d).lo a).lo b
 refine Wd G (fun p=>?_) (fun p=>?_)
 ·refine Ws (Wr (Q (r_as (v:=str ([]:List UInt8)) G)<|Q (aB G)<|Qn (We (ret2 G (v:=str _) (v':=.bool _) G G (⟨eR (eT2 (eS (by first | (rw [mapT_noI ‹_›]; done) | (rw [mapT_noS ‹_›]; done) | (rw [mapT_eqI ‹bsF _ _ _› ‹LibOK _›,← ‹_=(selL _ _ _).length›]; first | done | rfl) | (rw [mapT_eqS ⟨‹LibOK x›,oB⟩]; first | done | rfl))) (eB (by first | (rw [mapT_noI ‹_›]; done) | (rw [mapT_noS ‹_›]; done) | (rw [mapT_eqI ‹bsF _ _ _› ‹LibOK _›]; done) | (rw [mapT_eqS ⟨‹LibOK x›,oB⟩]; done)))),h⟩)))))
 ·have n:LibOK x:=(Classical.not_not.1 (not_or.1 p).1)
  have t:¬((idxF (hasId id) x.Maps)<0):=(not_or.1 p).2
  have o:=And.left n
  have J:=lib_len n
  have K:=Int.not_lt.1 t
  have L:=And.left o
  have M:=And.right o
  refine Wk (Ws (Wr (Q (lG agg34 G ((r.lo a).lo b) G)<|Q (mI G)<|Qv ent76 (c_spec_l32Text D x (k.lo b) (l.lo b) (idxF (hasId id) x.Maps) oJ oB) G fun aa s S=>?_)))
  have N:(textL x (idxF (hasId id) x.Maps)).length≤75:=textL_len (x:=x) oJ (i:=(idxF (hasId id) x.Maps)) oB
  refine Q (aS G)<|Q (aB G)<|Qn (We (ret2 G (v:=str _) (v':=.bool _) G G (⟨eR (eT2 (eS (by first | (rw [mapT_noI ‹_›]; done) | (rw [mapT_noS ‹_›]; done) | (rw [mapT_eqI ‹bsF _ _ _› ‹LibOK _›,← ‹_=(selL _ _ _).length›]; first | done | rfl) | (rw [mapT_eqS ⟨‹LibOK x›,oB⟩]; first | done | rfl))) (eB (by first | (rw [mapT_noI ‹_›]; done) | (rw [mapT_noS ‹_›]; done) | (rw [mapT_eqI ‹bsF _ _ _› ‹LibOK _›]; done) | (rw [mapT_eqS ⟨‹LibOK x›,oB⟩]; done)))),(h.lo s)⟩)))
theorem c_impl_MapText (w:World) (x:Library) (B:SlR w Bx1 encLMap 3 Ax1 nx1 cx1 x.Maps) (C:SlR w Bx2 encAway 2 Ax2 nx2 cx2 x.Away) (id:Int) (bj:(nx1:Int)≤1048576) (hE:EnvW w):Calls Tryz.prog 73 #[.agg (List.toArray (cLb Ax1 nx1 cx1 Ax2 nx2 cx2 x)),i6 id] w fun e w'=>e=.returned (.tuple (List.toArray [str ((mapT x id).1),.bool ((mapT x id).2)]))∧Lo w w':=by
 refine cW 42 Tryz.func73 G G G ?_
 have ao:=B.bound
 have aq:=B.len
 have am:=B.bd
 have ap:=C.bound
 have ar:=C.len
 have an:=C.bd
 refine Ws (Wr (bx G ?_))
 intro g1 w2 bi A bl U
 refine Q (r_as (v:=str ([]:List UInt8)) G)<|Q (aB G)<|Qn (Ws (Wr (Q (lG agg34 G U G)<|Q (mI G)<|Qv ent121 (c__impl_Library__mapAt w2 x (B.lo A) (C.lo A) id oB) G fun w9 h a6=>?_)))
 have aH:bsP cmpM id x.Maps≤x.Maps.length:=bsP_le
 refine Q (mT G)<|Q (xI G G)<|Q (xB G G)<|Q (aI G)<|Q (aB G)<|Qn (Ws (Ws ?_))
 have d:=(B.lo A).lo h
 have L:=(C.lo A).lo h
 refine WJ (fun f' w'=>At f' [(1,i6 id),(2,pt g1),(4,str ([]:List UInt8)),(5,.bool false),(6,i6 (bsP cmpM id x.Maps:Int)),(21,.bool (decide ((¬(bsF cmpM id x.Maps))∨(¬(LibOK x)))))]∧Lo w9 w') ?_ ?_
 ·refine Q (mB G)<|Q (rN G)<|Q (mB G)<|QN (fun t=>?_) (fun t=>?_)
  ·refine Qs<|Qs<|Qs<|Q (pT G G)<|Qn (⟨_,G,⟨⟨G,G,G,G,G,(eDT ((jmf t).1 trivial)),trivial⟩,(lr _)⟩⟩)
  ·have aJ:=And.left t
   have aK:=And.left t
   refine Qg (lG agg34 G (U.lo h) G)<|SR.gcall G ent72 (c_impl_IsLibrary w9 x d L oB) G ?_
   rintro e bm ⟨rfl,K⟩
   refine ⟨_,G,?_⟩
   have a7:=K.size
   refine Qg (rN G)<|Q (pF G G)<|Qn (⟨_,G,⟨⟨G,G,G,G,G,(eND (jmt t)),trivial⟩,K⟩⟩)
 rintro bf bo ⟨T,b⟩
 rw [← sA T]
 have a8:=b.size
 have F:=(((lr w).lo A).lo h).lo b
 refine Wd G (fun S=>?_) (fun S=>?_)
 ·refine Ws (Wr (Q (r_as (v:=str ([]:List UInt8)) G)<|Q (aB G)<|Qn (We (ret2 G (v:=str _) (v':=.bool _) G G (⟨eR (eT2 (eS (by first | (rw [mapT_noI ‹_›]; done) | (rw [mapT_noS ‹_›]; done) | (rw [mapT_eqI ‹bsF _ _ _› ‹LibOK _›,← ‹_=(selL _ _ _).length›]; first | done | rfl) | (rw [mapT_eqS ⟨‹LibOK x›,oB⟩]; first | done | rfl))) (eB (by first | (rw [mapT_noI ‹_›]; done) | (rw [mapT_noS ‹_›]; done) | (rw [mapT_eqI ‹bsF _ _ _› ‹LibOK _›]; done) | (rw [mapT_eqS ⟨‹LibOK x›,oB⟩]; done)))),F⟩)))))
 ·have N:bsF cmpM id x.Maps:=(Classical.not_not.1 (not_or.1 S).1)
  have O:LibOK x:=(Classical.not_not.1 (not_or.1 S).2)
  have aM:=And.left N
  have aN:=And.left N
  have P:=And.left O
  have aO:=lib_len O
  have aQ:=And.left P
  have aR:=And.right P
  refine Wk (Ws ?_)
  have M:=(U.lo h).lo b
  refine Wr (Q (fA fa34_0 G)<|Q (lB sca31 G M G)<|Q (mI G)<|?_)
  have R:=(d.lo b).elem (i:=(bsP cmpM id x.Maps:Int).toNat) oB
  have aT:=maps_rng ‹LibOK x›.1.1 R
  refine Q (rX tsl31 (d.lo b) G G oB)<|Q (r_lda (l:=encLMap (gt x.Maps ((bsP cmpM id x.Maps:Int).toNat))) agg102 G (fun _ _ hu=>(d.lo b).cell R hu) ((d.lo b).esz _))<|Qa (l:=[i6 0,i6 0,i6 0]) tz102 G ?_
  intro bh bp aE p aY ag
  refine Qw (o:=0) (vs:=[i6 ((gt x.Maps ((bsP cmpM id x.Maps:Int).toNat)).Id),i6 ((gt x.Maps ((bsP cmpM id x.Maps:Int).toNat)).Copies),i6 ((gt x.Maps ((bsP cmpM id x.Maps:Int).toNat)).Torn)]) agg102.2 G G G G ag ler G ?_
  intro aj q aZ J
  have H:=(F.lo p).new q
  refine Qn (Ws (WA (Lo aj) (fun f' w'=>∃ (ak:Option Addr) (D:Nat) (al:Nat),At f' [(4,str (((((Lib.itoa ((gt x.Maps ((bsP cmpM id x.Maps:Int).toNat)).Copies))++([32,116,111,114,110,32]:List UInt8))++(Lib.itoa ((gt x.Maps ((bsP cmpM id x.Maps:Int).toNat)).Torn)))++([32,97,119,97,121,32]:List UInt8))++(Lib.itoa (D:Int)))),(5,.bool true)]∧(Lo aj w')∧((Lib.itoa ((gt x.Maps ((bsP cmpM id x.Maps:Int).toNat)).Copies)).length≤21)∧((Lib.itoa ((gt x.Maps ((bsP cmpM id x.Maps:Int).toNat)).Torn)).length≤21)∧(D=(selL (ofM id) Away.Reader x.Away).length)∧((D:Int)≤9223372036854775807)∧((selL (ofM id) Away.Reader x.Away).length≤x.Away.length)∧((Lib.itoa (D:Int)).length≤21)) mo ?_ ?_))
  ·intro aA a
   have ba:=a.size
   have I:=H.lo a
   refine Ak 0 G a (fun w' hw'=>fA fa102_1 G)<|Ak 1 G a (fun w' hw'=>lB sca3 G (J.lo hw') G)<|Ak 4 G a (fun w' hw'=>fA fa102_2 G)<|Ak 5 G a (fun w' hw'=>lB sca3 G (J.lo hw') G)<|Ak 9 G a (fun w' hw'=>lG agg34 G (((M.lo p).kn q).lo hw') G)<|Ak 10 G a (fun w' hw'=>mI G)<|Ab 2 G (Qv ent74 (c_impl_text aA ((gt x.Maps ((bsP cmpM id x.Maps:Int).toNat)).Copies) oB (hE.lo I)) G fun aC r au=>?_)
   have u:=I.lo r
   have j:=a.lo r
   have Y:(Lib.itoa ((gt x.Maps ((bsP cmpM id x.Maps:Int).toNat)).Copies)).length≤21:=itoa_len (n:=(gt x.Maps ((bsP cmpM id x.Maps:Int).toNat)).Copies) oB oB
   refine Qn ⟨j,_,G,(Ak 3 G j (fun w' hw'=>r_cat G G oA)<|Ab 6 G (Qv ent74 (c_impl_text aC ((gt x.Maps ((bsP cmpM id x.Maps:Int).toNat)).Torn) oB (hE.lo u)) G fun ah g aw=>?_))⟩
   have f:=j.lo g
   have Z:(Lib.itoa ((gt x.Maps ((bsP cmpM id x.Maps:Int).toNat)).Torn)).length≤21:=itoa_len (n:=(gt x.Maps ((bsP cmpM id x.Maps:Int).toNat)).Torn) oB oB
   refine Qn ⟨f,_,G,(Ak 7 G f (fun w' hw'=>r_cat G G oA)<|Ak 8 G f (fun w' hw'=>r_cat G G oA)<|Ab 11 G (Qc ent126 (c__impl_Library__readersOf ah x ((((((d.lo b).lo p).kn q).lo a).lo r).lo g) ((((((L.lo b).lo p).kn q).lo a).lo r).lo g) id oB) G ?_))⟩
   rintro e ai ⟨ac,s,ae,rfl,y,m⟩
   refine ⟨_,G,?_⟩
   have ax:=m.size
   have k:=f.lo m
   have W:=y.len
   have X:=y.rd.bound
   have aa:=sel_len x.Away (ofM id) Away.Reader
   refine Qn ⟨k,_,G,(Ak 12 G k (fun w' hw'=>r_len und93 G)<|Ab 13 G (Qv ent74 (c_impl_text ai (s:Int) oB (hE.lo ((u.lo g).lo m))) G fun bb V ay=>?_))⟩
   have c:=k.lo V
   have ab:(Lib.itoa (s:Int)).length≤21:=itoa_len (n:=(s:Int)) oB oB
   refine Qn ⟨c,_,G,(Ak 14 G c (fun w' hw'=>r_cat G G oA)<|Ak 15 G c (fun w' hw'=>aS G)<|Ak 16 G c (fun w' hw'=>aB G)<|Ad oC (⟨ac,s,ae,⟨G,G,trivial⟩,c,Y,Z,W,X,aa,ab⟩))⟩
  rintro aD bc ⟨ak,D,al,E,z,aU,aV,aF,aG,aW,aX⟩
  rw [← sA E]
  have az:=z.size
  refine We (ret2 G (v:=str _) (v':=.bool _) G G (⟨eR (eT2 (eS (by first | (rw [mapT_noI ‹_›]; done) | (rw [mapT_noS ‹_›]; done) | (rw [mapT_eqI ‹bsF _ _ _› ‹LibOK _›,← ‹_=(selL _ _ _).length›]; first | done | rfl) | (rw [mapT_eqS ⟨‹LibOK x›,oB⟩]; first | done | rfl))) (eB (by first | (rw [mapT_noI ‹_›]; done) | (rw [mapT_noS ‹_›]; done) | (rw [mapT_eqI ‹bsF _ _ _› ‹LibOK _›]; done) | (rw [mapT_eqS ⟨‹LibOK x›,oB⟩]; done)))),(H.lo z)⟩))
end Go.Proofs.YtndcchndcghmoaaGreatDoor
namespace Go.Proofs.YtndcchndcghmoaaGreatDoor
open Go Go.RowKit Fw
set_option maxRecDepth 10000
set_option maxHeartbeats 2000000
set_option linter.unusedVariables false
variable {Ax1 Ax2 : Option Addr} {nx1 cx1 Bx1 nx2 cx2 Bx2 : Nat}
theorem c_spec_CopiesThere (w:World) (x:Library) (d:SlR w Bx1 encLMap 3 Ax1 nx1 cx1 x.Maps) (f:SlR w Bx2 encAway 2 Ax2 nx2 cx2 x.Away) (A:(nx1:Int)≤1048576):Calls Tryz.prog 135 #[.agg (List.toArray (cLb Ax1 nx1 cx1 Ax2 nx2 cx2 x))] w fun e w'=>e=.returned (.tuple (List.toArray [i6 (if LibOK x then sumC x.Maps else 0),.bool (decide (LibOK x))]))∧Lo w w':=by
 refine cW 9 Tryz.func135 G G G ?_
 have m:=d.bound
 have o:=d.len
 have k:=d.bd
 have n:=f.bound
 have p:=f.len
 have l:=f.bd
 refine Ws (Wr (bx G ?_))
 intro F C z c B i
 refine Q (aI G)<|Q (aB G)<|Qn (Ws (Ws (Wr (Q (lG agg34 G i G)<|Qv ent80 (c_spec_l32Good C x (d.lo c) (f.lo c)) G fun E a u=>?_))))
 have g:=((lr w).lo c).lo a
 refine Q (rN G)<|Qn (Wz G (fun b=>?_) (fun b=>?_))
 ·refine Ws (Wr (Q (aI G)<|Q (aB G)<|Qn (We (ret2 G (v:=i6 _) (v':=.bool _) G G (⟨eR (eT2 (eI oW) (eDF b)),g⟩)))))
 ·have h:=And.left b
  have q:=lib_len b
  have r:=And.left h
  have s:=And.right h
  refine Wk (Ws (Wr (Q (lG agg34 G (i.lo a) G)<|Qv ent132 (c_spec_l32There E x ((d.lo c).lo a) ((f.lo c).lo a) false (by first | assumption | exact MTo.end_ (And.right ‹_∧MTo _ _›) oB) oB) G fun D j y=>?_)))
  have t:0≤(if false=true then sumT x.Maps else sumC x.Maps)∧(if false=true then sumT x.Maps else sumC x.Maps)≤792:=there_rng false ‹MapsOK _› oB
  refine Q (aI G)<|Q (aB G)<|Qn (We (ret2 G (v:=i6 _) (v':=.bool _) G G (⟨eR (eT2 (eI oW) (eDT b)),(g.lo j)⟩)))
theorem c_impl_MapsAt (w:World) (x:Library) (z:SlR w Bx1 encLMap 3 Ax1 nx1 cx1 x.Maps) (q:SlR w Bx2 encAway 2 Ax2 nx2 cx2 x.Away) (r:Int) (aU:(nx1:Int)≤1048576):Calls Tryz.prog 153 #[.agg (List.toArray (cLb Ax1 nx1 cx1 Ax2 nx2 cx2 x)),i6 r] w fun e w'=>∃ A1' n1' c1',e=.returned (.tuple (List.toArray [.slice A1' n1' c1',.bool (decide (LibOK x∧(1≤r∧r≤999)))]))∧SlO w' w.heap.size encI 1 3 A1' n1' c1' (if LibOK x∧(1≤r∧r≤999) then selL (atR r) Away.Map x.Away else [])∧Lo w w':=by
 refine cW 35 Tryz.func153 G G G ?_
 have ah:=z.bound
 have aj:=z.len
 have ae:=z.bd
 have ai:=q.bound
 have ak:=q.len
 have ag:=q.bd
 refine Ws (Wr (bx G ?_))
 intro g1 w2 aT y aV T
 refine Q (r_as (v:=.slice none 0 0) G)<|Q (aB G)<|Qn (Ws (Ws (WJ (fun f' w'=>At f' [(1,i6 r),(2,pt g1),(4,.slice none 0 0),(5,.bool false),(16,.bool (decide ((¬(LibOK x))∨(¬(1≤r∧r≤999)))))]∧Lo w2 w') ?_ ?_)))
 ·refine Q (lG agg34 G T G)<|Qv ent72 (c_impl_IsLibrary w2 x (z.lo y) (q.lo y) oB) G fun w9 D aG=>(Q (rN G)<|Q (mB G)<|QN (fun h=>?_) (fun h=>?_))
  ·refine Qs<|Qs<|Qs<|Q (pT G G)<|Qn (⟨_,G,⟨⟨G,G,G,G,(eDT ((jmf h).1 trivial)),trivial⟩,D⟩⟩)
  ·have H:=And.left h
   have au:=lib_len h
   have aw:=And.left H
   have ax:=And.right H
   refine Qg (mI G)<|SR.gcall G ent122 (c_impl_isId w9 r) G ?_
   rintro e aW ⟨rfl,E⟩
   refine ⟨_,G,?_⟩
   have aH:=E.size
   refine Qg (rN G)<|Q (pF G G)<|Qn (⟨_,G,⟨⟨G,G,G,G,(eND (jmt h)),trivial⟩,(D.trans E)⟩⟩)
 rintro aO aX ⟨M,d⟩
 rw [← sA M]
 have aJ:=d.size
 have A:=((lr w).lo y).lo d
 refine Wd G (fun K=>?_) (fun K=>?_)
 ·refine Ws (Wr (Q (r_as (v:=.slice none 0 0) G)<|Q (aB G)<|Qn (We (ret2 G (v:=.slice none 0 0) (v':=.bool _) G G (⟨none,0,0,eR (eT2 G (eDF (by first | assumption | exact ⟨‹_›,‹_›⟩ | exact not_and_of_not_or_not ‹_›))),(oq (SlO.nil (e:=3) (enc:=encI) (fun _=>G) oB) (by first | (rw [if_pos oP]; exact sel_end oB) | (rw [if_neg (by first | assumption | exact not_and_of_not_or_not ‹_›)]))),A⟩)))))
 ·have I:LibOK x:=(Classical.not_not.1 (not_or.1 K).1)
  have ay:1≤r∧r≤999:=(Classical.not_not.1 (not_or.1 K).2)
  have J:=And.left I
  have az:=lib_len I
  have aA:=And.left J
  have aC:=And.right J
  refine Wk (Ws (Wr (Q (r_as (v:=.slice none 0 0) G)<|Qn (Ws (Ws (Wr (Q (fA fa34_1 G)<|Q (lB sca32 G (T.lo d) G)<|Q (r_len und32 G)<|Q (r_mv (v:=i6 0) G)<|Qn (Wl (WL (σ:=Nat × (Option Addr) × Nat × Nat) (fun g=>[(1,i6 r),(4,.slice none 0 0),(5,.bool false),(6,.slice g.2.1 g.2.2.1 g.2.2.2),(18,.slice Ax2 nx2 cx2),(19,i6 (nx2:Int)),(20,i6 (g.1:Int))]) (fun g w'=>(Lo w w')∧(SlR w' Bx2 encAway 2 Ax2 nx2 cx2 x.Away)∧(SlO w' w.heap.size encI 1 3 g.2.1 g.2.2.1 g.2.2.2 (selL (atR r) Away.Map (x.Away.take g.1)))∧(g.1≤nx2)) (fun g=>nx2-g.1) (0,(none:Option Addr),0,0) ?_ ?_ ?_)))))))))
  ·exact (At.r G)
  ·exact ⟨A,((q.lo y).lo d),(oq (SlO.nil (base:=w.heap.size) (e:=3) (enc:=encI) (fun _=>G) oB) oX),oH⟩
  ·rintro ⟨k,t,s,u⟩ Z N R
   obtain ⟨j,c,b,ap⟩:(Lo w N)∧(SlR N Bx2 encAway 2 Ax2 nx2 cx2 x.Away)∧(SlO N w.heap.size encI 1 3 t s u (selL (atR r) Away.Map (x.Away.take k)))∧(k≤nx2):=R
   refine (?_:W _ _ _ _ _ (act _ (sets Z [(1,i6 r),(4,.slice none 0 0),(5,.bool false),(6,.slice t s u),(18,.slice Ax2 nx2 cx2),(19,i6 (nx2:Int)),(20,i6 (k:Int))])) _)
   have al:=j.size
   have aq:=b.len
   have ar:=b.rd.bound
   have aD:=sel_lenT x.Away k (atR r) Away.Map
   refine Ws (Wr (Q (r_lt G G)<|Qn (Ws (Wd G (fun ab=>?_) (fun ab=>?_)))))
   ·refine Wk (Ws (Wl (Ws ?_)))
    have V:=c.elem (i:=k) oB
    refine Wr (Q (rX tsl32 c G G oB)<|Q (r_lda (l:=encAway (gt x.Away k)) agg129 G (fun _ _ hu=>c.cell V hu) (c.esz _))<|Qa (l:=[i6 0,i6 0]) tz129 G ?_)
    intro aa aY an m aE S
    refine Qw (o:=0) (vs:=[i6 ((gt x.Away k).Map),i6 ((gt x.Away k).Reader)]) agg129.2 G G G G S ler G ?_
    intro aZ n aF C
    have B:=(j.lo m).new n
    refine Qn (Ws ?_)
    have f:=(b.lo m).kd n (nE (g:=aa) b)
    have F:=(c.lo m).kn n
    refine Wr (Q (fA fa129_1 G)<|Q (lB sca3 G C G)<|Q (mI G)<|Q (r_eq G G)<|Qn (Wd G (fun ac=>?_) (fun ac=>?_)))
    ·refine Wr (Q (mL G)<|Q (fA fa129_0 G)<|Q (lB sca3 G C G)<|Ql (vs:=[i6 ((gt x.Away k).Map)]) (L:=([(gt x.Away k).Map]:List Int)) (enc:=encI) tel93 (fun _=>G) G G G oG ?_)
     intro aR a6 ao a O
     have aK:=a.size
     refine Qp tel93 G G (f.lo a) (O.rd) (fun _=>G) oB oB ?_
     intro X Y a7 p P am
     have aM:=p.size
     refine Q (aL G)<|Qn ?_
     have U:=(F.lo a).kp p (fun b_ hb e'=>by have:=(f.lo a).base_le e'; omega)
     refine Wr (Q (r_add G G oB)<|Q (mI G)<|Qn (⟨(k+1,X,s+1,Y),_,G,(At.r G),⟨((B.lo a).step p (fun i_ hi_ e'=>by have:=(f.lo a).base_le e'; first | omega | exact e' | exact .inl e' | exact .inr e')),U,(oq P (by first | exact sel_yes oB (decide_eq_true ‹_›) | exact sel_no oB (decide_eq_false ‹_›))),?_⟩,?_⟩))
     ·exact oH
     ·exact oH
    ·refine Wk (Wr (Q (r_add G G oB)<|Q (mI G)<|Qn (⟨(k+1,t,s,u),_,G,(At.r G),⟨B,F,(oq f (by first | exact sel_yes oB (decide_eq_true ‹_›) | exact sel_no oB (decide_eq_false ‹_›))),?_⟩,?_⟩)))
     ·exact oH
     ·exact oH
   ·refine Wx (xh (Ws (Wr (Q (mL G)<|Q (aL G)<|Q (aB G)<|Qn (We (ret2 G (v:=.slice _ _ _) (v':=.bool _) G G (⟨t,s,u,eR (eT2 G (eDT (by first | assumption | exact ⟨‹_›,‹_›⟩ | exact not_and_of_not_or_not ‹_›))),(oq (b.down) (by first | (rw [if_pos oP]; exact sel_end oB) | (rw [if_neg (by first | assumption | exact not_and_of_not_or_not ‹_›)]))),j⟩)))))))
theorem c_spec_MapsAt (w:World) (x:Library) (C:SlR w Bx1 encLMap 3 Ax1 nx1 cx1 x.Maps) (D:SlR w Bx2 encAway 2 Ax2 nx2 cx2 x.Away) (r:Int) (aY:(nx1:Int)≤1048576):Calls Tryz.prog 140 #[.agg (List.toArray (cLb Ax1 nx1 cx1 Ax2 nx2 cx2 x)),i6 r] w fun e w'=>∃ A1' n1' c1',e=.returned (.tuple (List.toArray [.slice A1' n1' c1',.bool (decide (LibOK x∧(1≤r∧r≤999)))]))∧SlO w' w.heap.size encI 1 3 A1' n1' c1' (if LibOK x∧(1≤r∧r≤999) then selL (atR r) Away.Map x.Away else [])∧Lo w w':=by
 refine cW 43 Tryz.func140 G G G ?_
 have an:=C.bound
 have ap:=C.len
 have al:=C.bd
 have ao:=D.bound
 have aq:=D.len
 have am:=D.bd
 refine Ws (Wr (bx G ?_))
 intro o w2 aX T aZ ab
 refine Q (r_as (v:=.slice none 0 0) G)<|Q (aB G)<|Qn (Ws (Wr (Ql (vs:=[]) (L:=([]:List Int)) (enc:=encI) tel93 (fun _=>G) G G G oG ?_)))
 intro V ah aw l u
 have aN:=l.size
 refine Q (aL G)<|Qn (Ws (Ws ?_))
 have I:=(C.lo T).lo l
 have J:=(D.lo T).lo l
 refine WJ (fun f' w'=>At f' [(1,i6 r),(2,pt o),(4,.slice none 0 0),(5,.bool false),(6,.slice (pA V) 0 0),(16,.bool (decide ((¬(LibOK x))∨(¬(1≤r∧r≤999)))))]∧Lo ah w') ?_ ?_
 ·refine Q (lG agg34 G (ab.lo l) G)<|Qv ent80 (c_spec_l32Good ah x I J) G fun au F aO=>(Q (rN G)<|Q (mB G)<|QN (fun t=>?_) (fun t=>?_))
  ·refine Qs<|Qs<|Qs<|Q (pT G G)<|Qn (⟨_,G,⟨⟨G,G,G,G,G,(eDT ((jmf t).1 trivial)),trivial⟩,F⟩⟩)
  ·have M:=And.left t
   have aD:=lib_len t
   have aE:=And.left M
   have aF:=And.right M
   refine Qg (mI G)<|SR.gcall G ent133 (c_spec_l1In au r 1 999) G ?_
   rintro e a6 ⟨rfl,H⟩
   refine ⟨_,G,?_⟩
   have aQ:=H.size
   refine Qg (rN G)<|Q (pF G G)<|Qn (⟨_,G,⟨⟨G,G,G,G,G,(eND (jmt t)),trivial⟩,(F.trans H)⟩⟩)
 rintro aV z ⟨S,c⟩
 rw [← sA S]
 have aR:=c.size
 have E:=(((lr w).lo T).lo l).lo c
 refine Wd G (fun R=>?_) (fun R=>?_)
 ·refine Ws (Wr (Q (mL G)<|Q (aL G)<|Q (aB G)<|Qn (We (ret2 G (v:=.slice _ _ _) (v':=.bool _) G G (⟨(pA V),0,0,eR (eT2 G (eDF (by first | assumption | exact ⟨‹_›,‹_›⟩ | exact not_and_of_not_or_not ‹_›))),(oq ((u.lo c).down) (by first | (rw [if_pos oP]; exact sel_end oB) | (rw [if_neg (by first | assumption | exact not_and_of_not_or_not ‹_›)]))),E⟩)))))
 ·have N:LibOK x:=(Classical.not_not.1 (not_or.1 R).1)
  have aG:1≤r∧r≤999:=(Classical.not_not.1 (not_or.1 R).2)
  have O:=And.left N
  have aH:=lib_len N
  have aJ:=And.left O
  have aK:=And.right O
  refine Wk (Ws (Ws (Wr (Q (aI G)<|Qn (Wl (WL (σ:=Nat × (Option Addr) × Nat × Nat) (fun g=>[(1,i6 r),(2,pt o),(4,.slice none 0 0),(5,.bool false),(6,.slice g.2.1 g.2.2.1 g.2.2.2),(7,i6 (g.1:Int))]) (fun g w'=>(Lo w w')∧(Blk w' o 34 (cLb Ax1 nx1 cx1 Ax2 nx2 cx2 x))∧(SlR w' Bx1 encLMap 3 Ax1 nx1 cx1 x.Maps)∧(SlR w' Bx2 encAway 2 Ax2 nx2 cx2 x.Away)∧(SlO w' w.heap.size encI 1 3 g.2.1 g.2.2.1 g.2.2.2 (selL (atR r) Away.Map (x.Away.take g.1)))∧(¬g.2.1=some ⟨o,0,none⟩)∧(g.1≤nx2)) (fun g=>nx2-g.1) (0,(pA V),0,0) ?_ ?_ ?_))))))
  ·exact (At.r G)
  ·show (Lo w z)∧(Blk z o 34 (cLb Ax1 nx1 cx1 Ax2 nx2 cx2 x))∧(SlR z Bx1 encLMap 3 Ax1 nx1 cx1 x.Maps)∧(SlR z Bx2 encAway 2 Ax2 nx2 cx2 x.Away)∧(SlO z w.heap.size encI 1 3 (pA V) 0 0 (selL (atR r) Away.Map (x.Away.take 0)))∧(¬(pA V)=some ⟨o,0,none⟩)∧(0≤nx2)
   exact ⟨E,((ab.lo l).lo c),I.lo c,J.lo c,(oq ((u.lo c).down) oX),(nE (u.lo c)),oH⟩
  ·rintro ⟨k,n,p,s⟩ ai j aa
   obtain ⟨q,d,K,f,b,y,ay⟩:(Lo w j)∧(Blk j o 34 (cLb Ax1 nx1 cx1 Ax2 nx2 cx2 x))∧(SlR j Bx1 encLMap 3 Ax1 nx1 cx1 x.Maps)∧(SlR j Bx2 encAway 2 Ax2 nx2 cx2 x.Away)∧(SlO j w.heap.size encI 1 3 n p s (selL (atR r) Away.Map (x.Away.take k)))∧(¬n=some ⟨o,0,none⟩)∧(k≤nx2):=aa
   refine (?_:W _ _ _ _ _ (act _ (sets ai [(1,i6 r),(2,pt o),(4,.slice none 0 0),(5,.bool false),(6,.slice n p s),(7,i6 (k:Int))])) _)
   have ar:=q.size
   have az:=d.lt
   have aA:=b.len
   have aC:=b.rd.bound
   have aM:=sel_lenT x.Away k (atR r) Away.Map
   refine Ws (Ws (Wr (Q (mI G)<|Q (fA fa34_1 G)<|Q (lB sca32 G d G)<|Q (r_len und32 G)<|Q (r_lt G G)<|Qn (Wd G (fun aj=>?_) (fun aj=>?_)))))
   ·refine Wk (Ws (Wl (Ws (Wr (Q (fA fa34_1 G)<|Q (lB sca32 G d G)<|Q (mI G)<|?_)))))
    have P:=f.elem (i:=k) oB
    refine Q (rX tsl32 f G G oB)<|Q (fA fa129_1 G)<|Q (r_ld (v:=i6 ((gt x.Away k).Reader)) sca3 G (f.cell P G))<|Q (mI G)<|Q (r_eq G G)<|Qn (Wd G (fun ak=>?_) (fun ak=>?_))
    ·refine Wr (Q (mL G)<|Q (fA fa34_1 G)<|Q (lB sca32 G d G)<|Q (mI G)<|Q (rX tsl32 f G G oB)<|Q (fA fa129_0 G)<|Q (r_ld (v:=i6 ((gt x.Away k).Map)) sca3 G (f.cell P G))<|Ql (vs:=[i6 ((gt x.Away k).Map)]) (L:=([(gt x.Away k).Map]:List Int)) (enc:=encI) tel93 (fun _=>G) G G G oG ?_)
     intro aW a7 ax a Y
     have aT:=a.size
     refine Qp tel93 G G (b.lo a) (Y.rd) (fun _=>G) oB oB ?_
     intro B U A m Z X
     have aU:=m.size
     have ac:¬B=some ⟨o,0,none⟩:=fun e'=>(X o e').elim (fun h=>y (h.trans e')) (fun h=>by have:=(d.lo a).lt; omega)
     refine Q (aL G)<|Qn ?_
     have ae:=(K.lo a).kp m (fun b_ hb e'=>by have:=(b.lo a).base_le e'; omega)
     have ag:=(f.lo a).kp m (fun b_ hb e'=>by have:=(b.lo a).base_le e'; omega)
     refine Wr (Q (mI G)<|Q (r_add G G oB)<|Q (aI G)<|Qn (⟨(k+1,B,p+1,U),_,G,(At.r G),(show (Lo w A)∧(Blk A o 34 (cLb Ax1 nx1 cx1 Ax2 nx2 cx2 x))∧(SlR A Bx1 encLMap 3 Ax1 nx1 cx1 x.Maps)∧(SlR A Bx2 encAway 2 Ax2 nx2 cx2 x.Away)∧(SlO A w.heap.size encI 1 3 B (p+1) U (selL (atR r) Away.Map (x.Away.take (k+1))))∧(¬B=some ⟨o,0,none⟩)∧(k+1≤nx2) from ⟨((q.lo a).step m (fun i_ hi_ e'=>by have:=(b.lo a).base_le e'; first | omega | exact e' | exact .inl e' | exact .inr e')),((d.lo a).kp m (fun e'=>y e')),ae,ag,(oq Z (by first | exact sel_yes oB (decide_eq_true ‹_›) | exact sel_no oB (decide_eq_false ‹_›))),ac,?_⟩),?_⟩))
     ·exact oH
     ·exact oH
    ·refine Wk (Wr (Q (mI G)<|Q (r_add G G oB)<|Q (aI G)<|Qn (⟨(k+1,n,p,s),_,G,(At.r G),(show (Lo w j)∧(Blk j o 34 (cLb Ax1 nx1 cx1 Ax2 nx2 cx2 x))∧(SlR j Bx1 encLMap 3 Ax1 nx1 cx1 x.Maps)∧(SlR j Bx2 encAway 2 Ax2 nx2 cx2 x.Away)∧(SlO j w.heap.size encI 1 3 n p s (selL (atR r) Away.Map (x.Away.take (k+1))))∧(¬n=some ⟨o,0,none⟩)∧(k+1≤nx2) from ⟨q,d,K,f,(oq b (by first | exact sel_yes oB (decide_eq_true ‹_›) | exact sel_no oB (decide_eq_false ‹_›))),y,?_⟩),?_⟩)))
     ·exact oH
     ·exact oH
   ·refine Wx (xh (Ws (Wr (Q (mL G)<|Q (aL G)<|Q (aB G)<|Qn (We (ret2 G (v:=.slice _ _ _) (v':=.bool _) G G (⟨n,p,s,eR (eT2 G (eDT (by first | assumption | exact ⟨‹_›,‹_›⟩ | exact not_and_of_not_or_not ‹_›))),(oq (b.down) (by first | (rw [if_pos oP]; exact sel_end oB) | (rw [if_neg (by first | assumption | exact not_and_of_not_or_not ‹_›)]))),q⟩)))))))
theorem c_impl_MayLend (w:World) (x:Library) (s:SlR w Bx1 encLMap 3 Ax1 nx1 cx1 x.Maps) (A:SlR w Bx2 encAway 2 Ax2 nx2 cx2 x.Away) (aA:(nx1:Int)≤1048576):Calls Tryz.prog 156 #[.agg (List.toArray (cLb Ax1 nx1 cx1 Ax2 nx2 cx2 x))] w fun e w'=>∃ A1' n1' c1',e=.returned (.tuple (List.toArray [.slice A1' n1' c1',.bool (decide (LibOK x))]))∧SlO w' w.heap.size encI 1 3 A1' n1' c1' (if LibOK x then selL mayM LMap.Id x.Maps else [])∧Lo w w':=by
 refine cW 29 Tryz.func156 G G G ?_
 have Z:=s.bound
 have ab:=s.len
 have X:=s.bd
 have aa:=A.bound
 have ac:=A.len
 have Y:=A.bd
 refine Ws (Wr (bx G ?_))
 intro g1 w2 az z aC M
 refine Q (r_as (v:=.slice none 0 0) G)<|Q (aB G)<|Qn (Ws (Ws (Wr (Q (lG agg34 G M G)<|Qv ent72 (c_impl_IsLibrary w2 x (s.lo z) (A.lo z) oB) G fun w9 m au=>?_))))
 have B:=((lr w).lo z).lo m
 refine Q (rN G)<|Qn (Wz G (fun f=>?_) (fun f=>?_))
 ·refine Ws (Wr (Q (r_as (v:=.slice none 0 0) G)<|Q (aB G)<|Qn (We (ret2 G (v:=.slice none 0 0) (v':=.bool _) G G (⟨none,0,0,eR (eT2 G (eDF f)),(oq (SlO.nil (e:=3) (enc:=encI) (fun _=>G) oB) (by first | (rw [if_pos oP]; exact sel_end oB) | (rw [if_neg (by first | assumption | exact not_and_of_not_or_not ‹_›)]))),B⟩)))))
 ·have E:=And.left f
  have am:=lib_len f
  have an:=And.left E
  have ao:=And.right E
  refine Wk (Ws (Wr (Q (r_as (v:=.slice none 0 0) G)<|Qn (Ws (Ws (Wr (Q (fA fa34_0 G)<|Q (lB sca31 G (M.lo m) G)<|Q (r_len und31 G)<|Q (r_mv (v:=i6 0) G)<|Qn (Wl (WL (σ:=Nat × (Option Addr) × Nat × Nat) (fun g=>[(2,.slice none 0 0),(3,.bool false),(4,.slice g.2.1 g.2.2.1 g.2.2.2),(11,.slice Ax1 nx1 cx1),(12,i6 (nx1:Int)),(13,i6 (g.1:Int))]) (fun g w'=>(Lo w w')∧(SlR w' Bx1 encLMap 3 Ax1 nx1 cx1 x.Maps)∧(SlO w' w.heap.size encI 1 3 g.2.1 g.2.2.1 g.2.2.2 (selL mayM LMap.Id (x.Maps.take g.1)))∧(g.1≤nx1)) (fun g=>nx1-g.1) (0,(none:Option Addr),0,0) ?_ ?_ ?_)))))))))
  ·exact (At.r G)
  ·exact ⟨B,((s.lo z).lo m),(oq (SlO.nil (base:=w.heap.size) (e:=3) (enc:=encI) (fun _=>G) oB) oX),oH⟩
  ·rintro ⟨k,u,t,y⟩ S F J
   obtain ⟨h,c,b,aj⟩:(Lo w F)∧(SlR F Bx1 encLMap 3 Ax1 nx1 cx1 x.Maps)∧(SlO F w.heap.size encI 1 3 u t y (selL mayM LMap.Id (x.Maps.take k)))∧(k≤nx1):=J
   refine (?_:W _ _ _ _ _ (act _ (sets S [(2,.slice none 0 0),(3,.bool false),(4,.slice u t y),(11,.slice Ax1 nx1 cx1),(12,i6 (nx1:Int)),(13,i6 (k:Int))])) _)
   have ae:=h.size
   have ak:=b.len
   have al:=b.rd.bound
   have ap:=sel_lenT x.Maps k mayM LMap.Id
   refine Ws (Wr (Q (r_lt G G)<|Qn (Ws (Wd G (fun U=>?_) (fun U=>?_)))))
   ·refine Wk (Ws (Wl (Ws ?_)))
    have O:=c.elem (i:=k) oB
    refine Wr (Q (rX tsl31 c G G oB)<|Q (r_lda (l:=encLMap (gt x.Maps k)) agg102 G (fun _ _ hu=>c.cell O hu) (c.esz _))<|Qa (l:=[i6 0,i6 0,i6 0]) tz102 G ?_)
    intro T aE ah n aq K
    refine Qw (o:=0) (vs:=[i6 ((gt x.Maps k).Id),i6 ((gt x.Maps k).Copies),i6 ((gt x.Maps k).Torn)]) agg102.2 G G G G K ler G ?_
    intro aF p ar j
    have C:=(h.lo n).new p
    refine Qn (Ws ?_)
    have d:=(b.lo n).kd p (nE (g:=T) b)
    have D:=(c.lo n).kn p
    refine Wr (Q (fA fa102_1 G)<|Q (lB sca3 G j G)<|Q (fA fa102_2 G)<|Q (lB sca3 G j G)<|Q (r_gt G G)<|Qn (Wd G (fun V=>?_) (fun V=>?_)))
    ·refine Wr (Q (mL G)<|Q (fA fa102_0 G)<|Q (lB sca3 G j G)<|Ql (vs:=[i6 ((gt x.Maps k).Id)]) (L:=([(gt x.Maps k).Id]:List Int)) (enc:=encI) tel93 (fun _=>G) G G G oG ?_)
     intro ay aG ai a H
     have aw:=a.size
     refine Qp tel93 G G (d.lo a) (H.rd) (fun _=>G) oB oB ?_
     intro P R aH q I ag
     have ax:=q.size
     refine Q (aL G)<|Qn ?_
     have N:=(D.lo a).kp q (fun b_ hb e'=>by have:=(d.lo a).base_le e'; omega)
     refine Wr (Q (r_add G G oB)<|Q (mI G)<|Qn (⟨(k+1,P,t+1,R),_,G,(At.r G),⟨((C.lo a).step q (fun i_ hi_ e'=>by have:=(d.lo a).base_le e'; first | omega | exact e' | exact .inl e' | exact .inr e')),N,(oq I (by first | exact sel_yes oB (decide_eq_true ‹_›) | exact sel_no oB (decide_eq_false ‹_›))),?_⟩,?_⟩))
     ·exact oH
     ·exact oH
    ·refine Wk (Wr (Q (r_add G G oB)<|Q (mI G)<|Qn (⟨(k+1,u,t,y),_,G,(At.r G),⟨C,D,(oq d (by first | exact sel_yes oB (decide_eq_true ‹_›) | exact sel_no oB (decide_eq_false ‹_›))),?_⟩,?_⟩)))
     ·exact oH
     ·exact oH
   ·refine Wx (xh (Ws (Wr (Q (mL G)<|Q (aL G)<|Q (aB G)<|Qn (We (ret2 G (v:=.slice _ _ _) (v':=.bool _) G G (⟨u,t,y,eR (eT2 G (eDT f)),(oq (b.down) (by first | (rw [if_pos oP]; exact sel_end oB) | (rw [if_neg (by first | assumption | exact not_and_of_not_or_not ‹_›)]))),h⟩)))))))
theorem c_spec_MayLend (w:World) (x:Library) (F:SlR w Bx1 encLMap 3 Ax1 nx1 cx1 x.Maps) (H:SlR w Bx2 encAway 2 Ax2 nx2 cx2 x.Away) (aM:(nx1:Int)≤1048576):Calls Tryz.prog 138 #[.agg (List.toArray (cLb Ax1 nx1 cx1 Ax2 nx2 cx2 x))] w fun e w'=>∃ A1' n1' c1',e=.returned (.tuple (List.toArray [.slice A1' n1' c1',.bool (decide (LibOK x))]))∧SlO w' w.heap.size encI 1 3 A1' n1' c1' (if LibOK x then selL mayM LMap.Id x.Maps else [])∧Lo w w':=by
 refine cW 41 Tryz.func138 G G G ?_
 have aj:=F.bound
 have al:=F.len
 have ah:=F.bd
 have ak:=H.bound
 have am:=H.len
 have ai:=H.bd
 refine Ws (Wr (bx G ?_))
 intro p w2 aK P aN X
 refine Q (r_as (v:=.slice none 0 0) G)<|Q (aB G)<|Qn (Ws (Wr (Ql (vs:=[]) (L:=([]:List Int)) (enc:=encI) tel93 (fun _=>G) G G G oG ?_)))
 intro g9 ao ap l u
 have aD:=l.size
 refine Q (aL G)<|Qn (Ws (Ws ?_))
 have K:=(F.lo P).lo l
 have M:=(H.lo P).lo l
 refine Wr (Q (lG agg34 G (X.lo l) G)<|Qv ent80 (c_spec_l32Good ao x K M) G fun A j aE=>?_)
 have I:=(((lr w).lo P).lo l).lo j
 refine Q (rN G)<|Qn (Wz G (fun s=>?_) (fun s=>?_))
 ·refine Ws (Wr (Q (mL G)<|Q (aL G)<|Q (aB G)<|Qn (We (ret2 G (v:=.slice _ _ _) (v':=.bool _) G G (⟨(pA g9),0,0,eR (eT2 G (eDF s)),(oq ((u.lo j).down) (by first | (rw [if_pos oP]; exact sel_end oB) | (rw [if_neg (by first | assumption | exact not_and_of_not_or_not ‹_›)]))),I⟩)))))
 ·have O:=And.left s
  have ay:=lib_len s
  have az:=And.left O
  have aA:=And.right O
  refine Wk (Ws (Ws (Wr (Q (aI G)<|Qn (Wl (WL (σ:=Nat × (Option Addr) × Nat × Nat) (fun g=>[(1,pt p),(2,.slice none 0 0),(3,.bool false),(4,.slice g.2.1 g.2.2.1 g.2.2.2),(5,i6 (g.1:Int))]) (fun g w'=>(Lo w w')∧(Blk w' p 34 (cLb Ax1 nx1 cx1 Ax2 nx2 cx2 x))∧(SlR w' Bx1 encLMap 3 Ax1 nx1 cx1 x.Maps)∧(SlR w' Bx2 encAway 2 Ax2 nx2 cx2 x.Away)∧(SlO w' w.heap.size encI 1 3 g.2.1 g.2.2.1 g.2.2.2 (selL mayM LMap.Id (x.Maps.take g.1)))∧(¬g.2.1=some ⟨p,0,none⟩)∧(g.1≤nx1)) (fun g=>nx1-g.1) (0,(pA g9),0,0) ?_ ?_ ?_))))))
  ·exact (At.r G)
  ·show (Lo w A)∧(Blk A p 34 (cLb Ax1 nx1 cx1 Ax2 nx2 cx2 x))∧(SlR A Bx1 encLMap 3 Ax1 nx1 cx1 x.Maps)∧(SlR A Bx2 encAway 2 Ax2 nx2 cx2 x.Away)∧(SlO A w.heap.size encI 1 3 (pA g9) 0 0 (selL mayM LMap.Id (x.Maps.take 0)))∧(¬(pA g9)=some ⟨p,0,none⟩)∧(0≤nx1)
   exact ⟨I,((X.lo l).lo j),K.lo j,M.lo j,(oq ((u.lo j).down) oX),(nE (u.lo j)),oH⟩
  ·rintro ⟨k,n,o,q⟩ ac B V
   obtain ⟨t,f,c,N,d,y,ar⟩:(Lo w B)∧(Blk B p 34 (cLb Ax1 nx1 cx1 Ax2 nx2 cx2 x))∧(SlR B Bx1 encLMap 3 Ax1 nx1 cx1 x.Maps)∧(SlR B Bx2 encAway 2 Ax2 nx2 cx2 x.Away)∧(SlO B w.heap.size encI 1 3 n o q (selL mayM LMap.Id (x.Maps.take k)))∧(¬n=some ⟨p,0,none⟩)∧(k≤nx1):=V
   refine (?_:W _ _ _ _ _ (act _ (sets ac [(1,pt p),(2,.slice none 0 0),(3,.bool false),(4,.slice n o q),(5,i6 (k:Int))])) _)
   have an:=t.size
   have au:=f.lt
   have aw:=d.len
   have ax:=d.rd.bound
   have aC:=sel_lenT x.Maps k mayM LMap.Id
   refine Ws (Ws (Wr (Q (mI G)<|Q (fA fa34_0 G)<|Q (lB sca31 G f G)<|Q (r_len und31 G)<|Q (r_lt G G)<|Qn (Wd G (fun ae=>?_) (fun ae=>?_)))))
   ·refine Wk (Ws (Wl (Ws (W.regD mo oC (Rq (fun w' hw'=>fA fa34_0 G)<|Rq (fun w' hw'=>lB sca31 G (f.lo hw') G)<|Rq (fun w' hw'=>mI G)<|?_)))))
    have z:=c.elem (i:=k) oB
    refine Rq (fun w' hw'=>rX tsl31 (c.lo hw') G G oB)<|Rq (fun w' hw'=>fA fa102_1 G)<|Rq (fun w' hw'=>r_ld (v:=i6 ((gt x.Maps k).Copies)) sca3 G ((c.lo hw').cell z G))<|Rq (fun w' hw'=>fA fa34_0 G)<|Rq (fun w' hw'=>lB sca31 G (f.lo hw') G)<|Rq (fun w' hw'=>mI G)<|Rq (fun w' hw'=>rX tsl31 (c.lo hw') G G oB)<|Rq (fun w' hw'=>fA fa102_2 G)<|Rq (fun w' hw'=>r_ld (v:=i6 ((gt x.Maps k).Torn)) sca3 G ((c.lo hw').cell z G))<|Rq (fun w' hw'=>r_gt G G)<|QR.nil ?_
    intro C a
    have aF:=a.size
    have J:=t.lo a
    refine Wd G (fun ag=>?_) (fun ag=>?_)
    ·refine Wr (Q (mL G)<|Q (fA fa34_0 G)<|Q (lB sca31 G (f.lo a) G)<|Q (mI G)<|Q (rX tsl31 (c.lo a) G G oB)<|Q (fA fa102_0 G)<|Q (r_ld (v:=i6 ((gt x.Maps k).Id)) sca3 G ((c.lo a).cell z G))<|Ql (vs:=[i6 ((gt x.Maps k).Id)]) (L:=([(gt x.Maps k).Id]:List Int)) (enc:=encI) tel93 (fun _=>G) G G G oG ?_)
     intro aJ aO aq b T
     have aG:=b.size
     refine Qp tel93 G G ((d.lo a).lo b) (T.rd) (fun _=>G) oB oB ?_
     intro E R D m U S
     have aH:=m.size
     have Y:¬E=some ⟨p,0,none⟩:=fun e'=>(S p e').elim (fun h=>y (h.trans e')) (fun h=>by have:=((f.lo a).lo b).lt; omega)
     refine Q (aL G)<|Qn ?_
     have Z:=((c.lo a).lo b).kp m (fun b_ hb e'=>by have:=((d.lo a).lo b).base_le e'; omega)
     have aa:=((N.lo a).lo b).kp m (fun b_ hb e'=>by have:=((d.lo a).lo b).base_le e'; omega)
     refine Wr (Q (mI G)<|Q (r_add G G oB)<|Q (aI G)<|Qn (⟨(k+1,E,o+1,R),_,G,(At.r G),(show (Lo w D)∧(Blk D p 34 (cLb Ax1 nx1 cx1 Ax2 nx2 cx2 x))∧(SlR D Bx1 encLMap 3 Ax1 nx1 cx1 x.Maps)∧(SlR D Bx2 encAway 2 Ax2 nx2 cx2 x.Away)∧(SlO D w.heap.size encI 1 3 E (o+1) R (selL mayM LMap.Id (x.Maps.take (k+1))))∧(¬E=some ⟨p,0,none⟩)∧(k+1≤nx1) from ⟨((J.lo b).step m (fun i_ hi_ e'=>by have:=((d.lo a).lo b).base_le e'; first | omega | exact e' | exact .inl e' | exact .inr e')),(((f.lo a).lo b).kp m (fun e'=>y e')),Z,aa,(oq U (by first | exact sel_yes oB (decide_eq_true ‹_›) | exact sel_no oB (decide_eq_false ‹_›))),Y,?_⟩),?_⟩))
     ·exact oH
     ·exact oH
    ·refine Wk (Wr (Q (mI G)<|Q (r_add G G oB)<|Q (aI G)<|Qn (⟨(k+1,n,o,q),_,G,(At.r G),(show (Lo w C)∧(Blk C p 34 (cLb Ax1 nx1 cx1 Ax2 nx2 cx2 x))∧(SlR C Bx1 encLMap 3 Ax1 nx1 cx1 x.Maps)∧(SlR C Bx2 encAway 2 Ax2 nx2 cx2 x.Away)∧(SlO C w.heap.size encI 1 3 n o q (selL mayM LMap.Id (x.Maps.take (k+1))))∧(¬n=some ⟨p,0,none⟩)∧(k+1≤nx1) from ⟨J,f.lo a,c.lo a,N.lo a,(oq (d.lo a) (by first | exact sel_yes oB (decide_eq_true ‹_›) | exact sel_no oB (decide_eq_false ‹_›))),y,?_⟩),?_⟩)))
     ·exact oH
     ·exact oH
   ·refine Wx (xh (Ws (Wr (Q (mL G)<|Q (aL G)<|Q (aB G)<|Qn (We (ret2 G (v:=.slice _ _ _) (v':=.bool _) G G (⟨n,o,q,eR (eT2 G (eDT s)),(oq (d.down) (by first | (rw [if_pos oP]; exact sel_end oB) | (rw [if_neg (by first | assumption | exact not_and_of_not_or_not ‹_›)]))),t⟩)))))))
theorem c_impl_TornCopies (w:World) (x:Library) (f:SlR w Bx1 encLMap 3 Ax1 nx1 cx1 x.Maps) (j:SlR w Bx2 encAway 2 Ax2 nx2 cx2 x.Away) (Z:(nx1:Int)≤1048576):Calls Tryz.prog 157 #[.agg (List.toArray (cLb Ax1 nx1 cx1 Ax2 nx2 cx2 x))] w fun e w'=>e=.returned (.tuple (List.toArray [i6 (if LibOK x then sumT x.Maps else 0),.bool (decide (LibOK x))]))∧Lo w w':=by
 refine cW 23 Tryz.func157 G G G ?_
 have H:=f.bound
 have J:=f.len
 have E:=f.bd
 have I:=j.bound
 have K:=j.len
 have F:=j.bd
 refine Ws (Wr (bx G ?_))
 intro g1 w2 Y h aa A
 refine Q (aI G)<|Q (aB G)<|Qn (Ws (Ws (Wr (Q (lG agg34 G A G)<|Qv ent72 (c_impl_IsLibrary w2 x (f.lo h) (j.lo h) oB) G fun w9 d V=>?_))))
 have m:=((lr w).lo h).lo d
 refine Q (rN G)<|Qn (Wz G (fun b=>?_) (fun b=>?_))
 ·refine Ws (Wr (Q (aI G)<|Q (aB G)<|Qn (We (ret2 G (v:=i6 _) (v':=.bool _) G G (⟨eR (eT2 (eI oW) (eDF b)),m⟩)))))
 ·have q:=And.left b
  have O:=lib_len b
  have P:=And.left q
  have R:=And.right q
  refine Wk (Ws (Wr (Q (aI G)<|Qn (Ws (Ws (Wr (Q (fA fa34_0 G)<|Q (lB sca31 G (A.lo d) G)<|Q (r_len und31 G)<|Q (r_mv (v:=i6 0) G)<|Qn (Wl (WL (σ:=Nat × Int) (fun g=>[(2,i6 0),(3,.bool false),(4,i6 g.2),(11,.slice Ax1 nx1 cx1),(12,i6 (nx1:Int)),(13,i6 (g.1:Int))]) (fun g w'=>(Lo w w')∧(SlR w' Bx1 encLMap 3 Ax1 nx1 cx1 x.Maps)∧(g.1≤nx1∧sumT (x.Maps.take g.1)=g.2∧0≤g.2∧g.2≤99*(g.1:Int))) (fun g=>nx1-g.1) (0,(0:Int)) ?_ ?_ ?_)))))))))
  ·exact (At.r G)
  ·exact ⟨m,((f.lo h).lo d),(by (try dsimp only); simp [sumT])⟩
  ·rintro ⟨k,t⟩ C B u
   obtain ⟨c,a,N⟩:(Lo w B)∧(SlR B Bx1 encLMap 3 Ax1 nx1 cx1 x.Maps)∧(k≤nx1∧sumT (x.Maps.take k)=t∧0≤t∧t≤99*(k:Int)):=u
   refine (?_:W _ _ _ _ _ (act _ (sets C [(2,i6 0),(3,.bool false),(4,i6 t),(11,.slice Ax1 nx1 cx1),(12,i6 (nx1:Int)),(13,i6 (k:Int))])) _)
   have L:=c.size
   refine Ws (Wr (Q (r_lt G G)<|Qn (Ws (Wd G (fun D=>?_) (fun D=>?_)))))
   ·refine Wk (Ws (Wl (Ws ?_)))
    have s:=a.elem (i:=k) oB
    have S:=maps_rng ‹MapsOK x.Maps› s
    refine Wr (Q (rX tsl31 a G G oB)<|Q (r_lda (l:=encLMap (gt x.Maps k)) agg102 G (fun _ _ hu=>a.cell s hu) (a.esz _))<|Qa (l:=[i6 0,i6 0,i6 0]) tz102 G ?_)
    intro X ac M n T y
    refine Qw (o:=0) (vs:=[i6 ((gt x.Maps k).Id),i6 ((gt x.Maps k).Copies),i6 ((gt x.Maps k).Torn)]) agg102.2 G G G G y ler G ?_
    intro ae p U z
    refine Qn (Wr (Q (mI G)<|Q (fA fa102_2 G)<|Q (lB sca3 G z G)<|Q (r_add G G oB)<|Q (aI G)<|Qn (Wr (Q (r_add G G oB)<|Q (mI G)<|Qn (⟨(k+1,t+((gt x.Maps k).Torn)),_,G,(At.r G),⟨((c.lo n).new p),((a.lo n).kn p),?_⟩,?_⟩)))))
    ·exact (by (try dsimp only); have hh:=‹_∧sumT _=_∧_›; have hq:=maps_rng ‹MapsOK _› ‹x.Maps[k]?=some _›; exact ⟨oB,by rw [sumT_snoc oB,hh.2.1],oB,oB⟩)
    ·exact oH
   ·refine Wx (xh (Ws (Wr (Q (mI G)<|Q (aI G)<|Q (aB G)<|Qn (We (ret2 G (v:=i6 _) (v':=.bool _) G G (⟨eR (eT2 (eI (by rw [if_pos ‹_›]; have hh:=‹_∧sumT _=_∧_›; rw [← hh.2.1,List.take_of_length_le oB])) (eDT b)),c⟩)))))))
theorem c_spec_TornCopies (w:World) (x:Library) (d:SlR w Bx1 encLMap 3 Ax1 nx1 cx1 x.Maps) (f:SlR w Bx2 encAway 2 Ax2 nx2 cx2 x.Away):Calls Tryz.prog 137 #[.agg (List.toArray (cLb Ax1 nx1 cx1 Ax2 nx2 cx2 x))] w fun e w'=>e=.returned (.tuple (List.toArray [i6 (if LibOK x then sumT x.Maps else 0),.bool (decide (LibOK x))]))∧Lo w w':=by
 refine cW 9 Tryz.func137 G G G ?_
 have m:=d.bound
 have o:=d.len
 have k:=d.bd
 have n:=f.bound
 have p:=f.len
 have l:=f.bd
 refine Ws (Wr (bx G ?_))
 intro E B z c A i
 refine Q (aI G)<|Q (aB G)<|Qn (Ws (Ws (Wr (Q (lG agg34 G i G)<|Qv ent80 (c_spec_l32Good B x (d.lo c) (f.lo c)) G fun D a u=>?_))))
 have g:=((lr w).lo c).lo a
 refine Q (rN G)<|Qn (Wz G (fun b=>?_) (fun b=>?_))
 ·refine Ws (Wr (Q (aI G)<|Q (aB G)<|Qn (We (ret2 G (v:=i6 _) (v':=.bool _) G G (⟨eR (eT2 (eI oW) (eDF b)),g⟩)))))
 ·have h:=And.left b
  have q:=lib_len b
  have r:=And.left h
  have s:=And.right h
  refine Wk (Ws (Wr (Q (lG agg34 G (i.lo a) G)<|Qv ent132 (c_spec_l32There D x ((d.lo c).lo a) ((f.lo c).lo a) true (by first | assumption | exact MTo.end_ (And.right ‹_∧MTo _ _›) oB) oB) G fun C j y=>?_)))
  have t:0≤(if true=true then sumT x.Maps else sumC x.Maps)∧(if true=true then sumT x.Maps else sumC x.Maps)≤792:=there_rng true ‹MapsOK _› oB
  refine Q (aI G)<|Q (aB G)<|Qn (We (ret2 G (v:=i6 _) (v':=.bool _) G G (⟨eR (eT2 (eI oW) (eDT b)),(g.lo j)⟩)))
theorem c_impl_ReadersOf (w:World) (x:Library) (g:SlR w Bx1 encLMap 3 Ax1 nx1 cx1 x.Maps) (h:SlR w Bx2 encAway 2 Ax2 nx2 cx2 x.Away) (id:Int) (ab:(nx1:Int)≤1048576):Calls Tryz.prog 155 #[.agg (List.toArray (cLb Ax1 nx1 cx1 Ax2 nx2 cx2 x)),i6 id] w fun e w'=>∃ A1' n1' c1',e=.returned (.tuple (List.toArray [.slice A1' n1' c1',.bool (decide (LibOK x∧0≤idxF (hasId id) x.Maps))]))∧SlO w' w.heap.size encI 1 3 A1' n1' c1' (if LibOK x∧0≤idxF (hasId id) x.Maps then selL (ofM id) Away.Reader x.Away else [])∧Lo w w':=by
 refine cW 24 Tryz.func155 G G G ?_
 have A:=g.bound
 have C:=g.len
 have y:=g.bd
 have B:=h.bound
 have D:=h.len
 have z:=h.bd
 refine Ws (Wr (bx G ?_))
 intro Z w2 aa f ac s
 refine Q (r_as (v:=.slice none 0 0) G)<|Q (aB G)<|Qn (Ws (Ws (Wr (Q (lG agg34 G s G)<|Q (mI G)<|Qv ent121 (c__impl_Library__mapAt w2 x (g.lo f) (h.lo f) id oB) G fun X a T=>?_))))
 have J:bsP cmpM id x.Maps≤x.Maps.length:=bsP_le
 refine Q (mT G)<|Q (xI G G)<|Q (xB G G)<|Q (aI G)<|Q (aB G)<|Qn (Ws ?_)
 have l:=(g.lo f).lo a
 have m:=(h.lo f).lo a
 refine WJ (fun f' w'=>At f' [(1,i6 id),(2,pt Z),(4,.slice none 0 0),(5,.bool false),(20,.bool (decide ((¬(bsF cmpM id x.Maps))∨(¬(LibOK x)))))]∧Lo X w') ?_ ?_
 ·refine Q (mB G)<|Q (rN G)<|Q (mB G)<|QN (fun c=>?_) (fun c=>?_)
  ·refine Qs<|Qs<|Qs<|Q (pT G G)<|Qn (⟨_,G,⟨⟨G,G,G,G,(eDT ((jmf c).1 trivial)),trivial⟩,(lr _)⟩⟩)
  ·have K:=And.left c
   have L:=And.left c
   refine Qg (lG agg34 G (s.lo a) G)<|SR.gcall G ent72 (c_impl_IsLibrary X x l m oB) G ?_
   rintro e ae ⟨rfl,j⟩
   refine ⟨_,G,?_⟩
   have U:=j.size
   refine Qg (rN G)<|Q (pF G G)<|Qn (⟨_,G,⟨⟨G,G,G,G,(eND (jmt c)),trivial⟩,j⟩⟩)
 rintro Y F ⟨r,b⟩
 rw [← sA r]
 have V:=b.size
 have i:=(((lr w).lo f).lo a).lo b
 refine Wd G (fun q=>?_) (fun q=>?_)
 ·refine Ws (Wr (Q (r_as (v:=.slice none 0 0) G)<|Q (aB G)<|Qn (We (ret2 G (v:=.slice none 0 0) (v':=.bool _) G G (⟨none,0,0,eR (eT2 G (eDF (by first | exact ro_yes ‹_› ‹_› | exact ro_no ‹_›))),(oq (SlO.nil (e:=3) (enc:=encI) (fun _=>G) oB) (by first | (rw [if_pos (ro_yes ‹_› ‹_›)]) | (rw [if_neg (ro_no ‹_›)]))),i⟩)))))
 ·have n:bsF cmpM id x.Maps:=(Classical.not_not.1 (not_or.1 q).1)
  have o:LibOK x:=(Classical.not_not.1 (not_or.1 q).2)
  have M:=And.left n
  have N:=And.left n
  have p:=And.left o
  have O:=lib_len o
  have P:=And.left p
  have R:=And.right p
  refine Wk (Ws (Wr (Q (lG agg34 G ((s.lo a).lo b) G)<|Q (mI G)<|Qc ent126 (c__impl_Library__readersOf F x (l.lo b) (m.lo b) id oB) G ?_)))
  rintro e ah ⟨t,E,u,rfl,d,k⟩
  refine ⟨_,G,?_⟩
  have W:=k.size
  have H:=d.len
  have I:=d.rd.bound
  have S:=sel_len x.Away (ofM id) Away.Reader
  refine Q (aL G)<|Q (aB G)<|Qn (We (ret2 G (v:=.slice _ _ _) (v':=.bool _) G G (⟨t,E,u,eR (eT2 G (eDT (by first | exact ro_yes ‹_› ‹_› | exact ro_no ‹_›))),(oq (d.down) (by first | (rw [if_pos (ro_yes ‹_› ‹_›)]) | (rw [if_neg (ro_no ‹_›)]))),(i.lo k)⟩)))
theorem c_spec_ReadersOf (w:World) (x:Library) (d:SlR w Bx1 encLMap 3 Ax1 nx1 cx1 x.Maps) (f:SlR w Bx2 encAway 2 Ax2 nx2 cx2 x.Away) (id:Int):Calls Tryz.prog 141 #[.agg (List.toArray (cLb Ax1 nx1 cx1 Ax2 nx2 cx2 x)),i6 id] w fun e w'=>∃ A1' n1' c1',e=.returned (.tuple (List.toArray [.slice A1' n1' c1',.bool (decide (LibOK x∧0≤idxF (hasId id) x.Maps))]))∧SlO w' w.heap.size encI 1 3 A1' n1' c1' (if LibOK x∧0≤idxF (hasId id) x.Maps then selL (ofM id) Away.Reader x.Away else [])∧Lo w w':=by
 refine cW 19 Tryz.func141 G G G ?_
 have C:=d.bound
 have E:=d.len
 have A:=d.bd
 have D:=f.bound
 have F:=f.len
 have B:=f.bd
 refine Ws (Wr (bx G ?_))
 intro g1 w2 ah c ai r
 refine Q (r_as (v:=.slice none 0 0) G)<|Q (aB G)<|Qn (Ws (Ws (WJ (fun f' w'=>At f' [(1,i6 id),(2,pt g1),(4,.slice none 0 0),(5,.bool false),(14,.bool (decide ((¬(LibOK x))∨((idxF (hasId id) x.Maps)<0))))]∧Lo w2 w') ?_ ?_)))
 ·refine Q (lG agg34 G r G)<|Qv ent80 (c_spec_l32Good w2 x (d.lo c) (f.lo c)) G fun w9 a X=>(Q (rN G)<|Q (mB G)<|QN (fun g=>?_) (fun g=>?_))
  ·refine Qs<|Qs<|Qs<|Qs<|Q (pT G G)<|Qn (⟨_,G,⟨⟨G,G,G,G,(eDT ((jmf g).1 trivial)),trivial⟩,a⟩⟩)
  ·have m:=And.left g
   have N:=lib_len g
   have O:=And.left m
   have P:=And.right m
   refine Qg (lG agg34 G (r.lo a) G)<|Qg (mI G)<|SR.gcall G ent165 (c_spec_l32Map w9 x ((d.lo c).lo a) ((f.lo c).lo a) id) G ?_
   rintro e aj ⟨rfl,j⟩
   refine ⟨_,G,?_⟩
   have Y:=j.size
   have R:idxF (hasId id) x.Maps<(x.Maps.length:Int)∧-1≤idxF (hasId id) x.Maps:=idx_lt
   refine Qg (r_lt G G)<|Q (pF G G)<|Qn (⟨_,G,⟨⟨G,G,G,G,(eDD (jmt g)),trivial⟩,(a.trans j)⟩⟩)
 rintro ae I ⟨q,b⟩
 rw [← sA q]
 have Z:=b.size
 have i:=((lr w).lo c).lo b
 refine Wd G (fun p=>?_) (fun p=>?_)
 ·refine Ws (Wr (Ql (vs:=[]) (L:=([]:List Int)) (enc:=encI) tel93 (fun _=>G) G G G oG ?_))
  intro z ak J k s
  have aa:=k.size
  refine Q (aL G)<|Q (aB G)<|Qn (We (ret2 G (v:=.slice _ _ _) (v':=.bool _) G G (⟨(pA z),0,0,eR (eT2 G (eDF (by first | exact ⟨‹LibOK x›,oB⟩ | exact ro_noS ‹_›))),(oq (s.down) (by first | (rw [if_pos ⟨‹LibOK x›,oB⟩]) | (rw [if_neg (ro_noS ‹_›)]))),(i.lo k)⟩)))
 ·have n:LibOK x:=(Classical.not_not.1 (not_or.1 p).1)
  have t:¬((idxF (hasId id) x.Maps)<0):=(not_or.1 p).2
  have o:=And.left n
  have S:=lib_len n
  have T:=Int.not_lt.1 t
  have U:=And.left o
  have V:=And.right o
  refine Wk (Ws (Wr (Q (lG agg34 G (r.lo b) G)<|Q (mI G)<|Qc ent128 (c_spec_l32At I x ((d.lo c).lo b) ((f.lo c).lo b) id oB) G ?_)))
  rintro e al ⟨u,H,y,rfl,h,l⟩
  refine ⟨_,G,?_⟩
  have ab:=l.size
  have K:=h.len
  have M:=h.rd.bound
  have W:=sel_len x.Away (ofM id) Away.Reader
  refine Q (aL G)<|Q (aB G)<|Qn (We (ret2 G (v:=.slice _ _ _) (v':=.bool _) G G (⟨u,H,y,eR (eT2 G (eDT (by first | exact ⟨‹LibOK x›,oB⟩ | exact ro_noS ‹_›))),(oq (h.down) (by first | (rw [if_pos ⟨‹LibOK x›,oB⟩]) | (rw [if_neg (ro_noS ‹_›)]))),(i.lo l)⟩)))
end Go.Proofs.YtndcchndcghmoaaGreatDoor
