/- Words and walks of this claim. -/
import Derived.Test.YtndcchndcghmoaaGreatDoorChecked
import Derived.Test.YtndcchndcghmoaaGreatDoorMScriptc
set_option linter.unusedVariables false
namespace Go.Proofs.YtndcchndcghmoaaGreatDoor
open Go Go.RowKit Fw
set_option maxRecDepth 10000
set_option maxHeartbeats 2000000
set_option linter.unusedVariables false
theorem ent134:Ent Tryz.prog 134:=en Tryz.func134
theorem ent149:Ent Tryz.prog 149:=en Tryz.func149
theorem c_impl_ParseInt (w:World) (s:List UInt8) (D:(s.length:Int)≤281474976710656) (hE:EnvW w):Calls Tryz.prog 95 #[str s] w fun e w'=>e=.returned (.tuple (List.toArray [i6 ((readN s).1),.bool ((readN s).2)]))∧Lo w w':=by
 refine cW 25 Tryz.func95 G G G (Ws (Wr (Q (aI G)<|Q (aB G)<|Qn (Ws (Wr (Q (mS G)<|Qc ent149 (c_strconv_Atoi w s oB (hE.lo (lr w))) G ?_))))))
 rintro e B ⟨b,I,rfl,m,E,l⟩
 refine ⟨_,G,?_⟩
 have F:=And.left m
 have H:=l.size
 have k:=(lr w).lo l
 refine Q (mT G)<|Q (xI G G)<|Q (r_ext (v:=_) G G)<|Q (aI G)<|Q (r_as (v:=_) G)<|Qn (Ws (Ws (WJ (fun f' w'=>At f' [(2,i6 0),(3,.bool false),(4,i6 b),(23,.bool (decide ((¬(atB s=true))∨((¬((-999999)≤b∧b≤999999))∨(¬((Lib.itoa b)=s))))))]∧Lo B w') ?_ ?_)))
 ·refine Q (r_mv (v:=_) G)<|Q (r_neqErr (p:=atB s=true) oC G ‹ErrIs I _›)<|Q (mB G)<|QN (fun c=>?_) (fun c=>?_)
  ·refine Qs<|Qs<|Qs<|Q (pT G G)<|Q (mB G)<|Qs<|Qs<|Qs<|Qs<|Q (pT G G)<|Qn (⟨_,G,⟨⟨G,G,G,(eDT ((jmf c).1 trivial)),trivial⟩,(lr _)⟩⟩)
  ·refine Qg (mI G)<|SR.gcall G ent66 (c_impl_within B b (-999999) 999999) G ?_
   rintro e o ⟨rfl,a⟩
   refine ⟨_,G,?_⟩
   have y:=a.size
   refine Qg (rN G)<|Q (pF G G)<|Q (mB G)<|QN (fun i=>?_) (fun i=>?_)
   ·refine Qs<|Qs<|Qs<|Qs<|Q (pT G G)<|Qn (⟨_,G,⟨⟨G,G,G,(eDT (((jmf i).trans (jmt c)).1 trivial)),trivial⟩,a⟩⟩)
   ·refine Qg (mI G)<|SR.gcall G ent74 (c_impl_text o b oB (hE.lo (k.lo a))) G ?_
    rintro e J ⟨rfl,g⟩
    refine ⟨_,G,?_⟩
    have z:=g.size
    have q:(Lib.itoa b).length≤21:=itoa_len (n:=b) oB oB
    refine Qg (mS G)<|Qg (r_nes (s:=Lib.itoa b) (r:=s) G G)<|Q (pF G G)<|Qn (⟨_,G,⟨⟨G,G,G,(eND ((jmt i).trans (jmt c))),trivial⟩,(a.trans g)⟩⟩)
 rintro C K ⟨j,h⟩
 rw [← sA j]
 have A:=h.size
 have f:=k.lo h
 refine Wd G (fun d=>?_) (fun d=>?_)
 ·refine Ws (Wr (Q (aI G)<|Q (aB G)<|Qn (We (ret2 G (v:=i6 _) (v':=.bool _) G G ?_))))
  refine ⟨eR (eT2 (eI ?_) (eB ?_)),f⟩ <;> (first | (rw [par_not ‹AtIs _ _› ‹_∨_›]; done) | (rw [par_ok ‹AtIs _ _› ‹¬(_∨_)›]; done))
 ·have t:atB s=true:=(Classical.not_not.1 (not_or.1 d).1)
  have u:(-999999)≤b∧b≤999999:=(Classical.not_not.1 (not_or.1 (not_or.1 d).2).1)
  have x:(Lib.itoa b)=s:=(Classical.not_not.1 (not_or.1 (not_or.1 d).2).2)
  refine Wk (Ws (Wr (Q (mI G)<|Q (aI G)<|Q (aB G)<|Qn (We (ret2 G (v:=i6 _) (v':=.bool _) G G ?_)))))
  refine ⟨eR (eT2 (eI ?_) (eB ?_)),f⟩ <;> (first | (rw [par_not ‹AtIs _ _› ‹_∨_›]; done) | (rw [par_ok ‹AtIs _ _› ‹¬(_∨_)›]; done))
theorem c_spec_l1Read (w:World) (s:List UInt8):Calls Tryz.prog 134 #[str s] w fun e w'=>e=.returned (.tuple (List.toArray [i6 ((readN s).1),.bool ((readN s).2)]))∧Lo w w':=by
 refine cW 58 Tryz.func134 G G G (Ws (Wr (Q (aI G)<|Q (aB G)<|Qn (Ws (Wr (Q (mS G)<|Q (aS G)<|Qn (Ws (Ws (WJ (fun f' w'=>At f' [(0,str s),(2,i6 0),(3,.bool false),(4,str s),(15,.bool (decide ((1<(s.length:Int))∧(((gt s 0).toNat:Int)=45))))]∧Lo w w') ?_ ?_)))))))))
 ·refine Q (mS G)<|Q (r_len_s und9 G)<|Q (r_gt G G)<|Q (mB G)<|QD (fun h1=>?_) (fun h1=>?_)
  ·refine Qg (mS G)<|?_
   have a8:=u8_le (gt s 0)
   refine Qg (r_idxS (i:=0) und9 G G G oA)<|Qg (r_eq G G)<|Q (pT G G)<|Qn (⟨_,G,⟨⟨G,G,G,G,(eDD (jat h1)),trivial⟩,(lr _)⟩⟩)
  ·refine Qs<|Qs<|Qs<|Q (pF G G)<|Qn (⟨_,G,⟨⟨G,G,G,G,(eDF (jaf h1).2),trivial⟩,(lr _)⟩⟩)
 rintro f3 w4 ⟨O,V⟩
 rw [← sA O]
 have ba:=V.size
 have L:=(lr w).lo V
 refine Wd G (fun h9=>?_) (fun h9=>?_)
 ·have ar:1<(s.length:Int):=h9.1
  have au:((gt s 0).toNat:Int)=45:=h9.2
  refine Wr (Q (mS G)<|Q (r_cutlS (l:=1) und9 G G G oA)<|Q (aS G)<|Qn (Ws (Ws (Wr (Q (mS G)<|Q (r_len_s und9 G)<|Qv ent133 (c_spec_l1In w4 ((s.drop 1).length:Int) 1 6) G fun bb P aQ=>?_)))))
  have o:=L.lo P
  refine Q (rN G)<|Qn (Wz G (fun ac=>?_) (fun ac=>?_))
  ·refine Ws (Wr (Q (aI G)<|Q (aB G)<|Qn (We (ret2 G (v:=i6 _) (v':=.bool _) G G ?_))))
   refine ⟨eR (eT2 (eI ?_) (eB ?_)),o⟩ <;> (first | (rw [read_len oK ‹_›]; done) | (have hh:=‹_=stripS s∧_›; first | (rw [read_dig hh.1 (k:=k) oB ‹_›]; done) | (rw [read_neg hh.1 (k:=k) oB ‹_› ‹_›]; done) | (rw [read_pos hh.1 (k:=k) oB ‹_› ‹_›]; done) | (rw [readN_ok ‹Lib.itoa _=s› oB]; done)))
  ·refine Wk (Ws (Wr (Q (aI G)<|Qn (Ws (Ws (Wr (Q (aI G)<|Qn (Wl (WL (σ:=(List UInt8) × Nat) (fun g=>[(0,str s),(4,str g.1),(5,i6 (decV (g.1.take g.2))),(6,i6 (g.2:Int))]) (fun g w'=>(Lo w w')∧(g.1=stripS s∧(g.2≤g.1.length∧g.1.length≤6)∧∀ j,j<g.2→48≤(gt g.1 j).toNat∧(gt g.1 j).toNat≤57)) (fun g=>g.1.length-g.2) (s.drop 1,0) ?_ ?_ ?_)))))))))
   ·refine ⟨G,G,(eI ?_),(eI ?_),trivial⟩ <;> (first | (first | rfl | omega | (rw [decV_next oB])) | (dsimp only; (first | rfl | omega | (rw [decV_next oB]))))
   ·exact ⟨o,(by (try dsimp only); exact ⟨by first | exact strip_yes ‹_› | exact strip_no ‹_›,oB,fun _ h=>absurd h oB⟩)⟩
   ·rintro ⟨T,k⟩ Z f M
    obtain ⟨a,c⟩:(Lo w f)∧(T=stripS s∧(k≤T.length∧T.length≤6)∧∀ j,j<k→48≤(gt T j).toNat∧(gt T j).toNat≤57):=M
    refine (?_:W _ _ _ _ _ (act _ (sets Z [(0,str s),(4,str T),(5,i6 (decV (T.take k))),(6,i6 (k:Int))])) _)
    have ap:=a.size
    have aw:k≤T.length∧T.length≤6:=c.2.1
    have ax:0≤decV (T.take k)∧decV (T.take k)≤999999:=decV_rng c.2.2 c.2.1.1 oB
    refine Ws (Ws (Wr (Q (mI G)<|Q (mS G)<|Q (r_len_s und9 G)<|Q (r_lt G G)<|Qn (Wd G (fun ae=>?_) (fun ae=>?_)))))
    ·refine Wk (Ws (Wl (Ws (Ws (WJ (fun f' w'=>At f' [(0,str s),(4,str T),(5,i6 (decV (T.take k))),(6,i6 (k:Int)),(37,.bool (decide ((((gt T k).toNat:Int)<48)∨(57<((gt T k).toNat:Int)))))]∧Lo f w'∧(((gt T k).toNat:Int)≤255)) ?_ ?_)))))
     ·refine Q (mS G)<|Q (mI G)<|?_
      have C:=u8_le (gt T k)
      refine Q (r_idxS (i:=k) und9 G G G oA)<|Q (r_lt G G)<|Q (mB G)<|QD (fun E=>?_) (fun E=>?_)
      ·refine Qs<|Qs<|Qs<|Qs<|Q (pT G G)<|Qn (⟨_,G,⟨⟨G,G,G,G,(eDT ((jot E).1 trivial)),trivial⟩,(lr _),C⟩⟩)
      ·refine Qg (mS G)<|Qg (mI G)<|Qg (r_idxS (i:=k) und9 G G G oA)<|Qg (r_gt G G)<|Q (pF G G)<|Qn (⟨_,G,⟨⟨G,G,G,G,(eDD (jof E)),trivial⟩,(lr _),C⟩⟩)
     rintro a6 bc ⟨J,A,ay⟩
     rw [← sA J]
     have aR:=A.size
     have p:=a.lo A
     refine Wd G (fun F=>?_) (fun F=>?_)
     ·refine Ws (Wr (Q (aI G)<|Q (aB G)<|Qn (We (ret2 G (v:=i6 _) (v':=.bool _) G G ?_))))
      refine ⟨eR (eT2 (eI ?_) (eB ?_)),p⟩ <;> (first | (rw [read_len oK ‹_›]; done) | (have hh:=‹_=stripS s∧_›; first | (rw [read_dig hh.1 (k:=k) oB ‹_›]; done) | (rw [read_neg hh.1 (k:=k) oB ‹_› ‹_›]; done) | (rw [read_pos hh.1 (k:=k) oB ‹_› ‹_›]; done) | (rw [readN_ok ‹Lib.itoa _=s› oB]; done)))
     ·have az:¬(((gt T k).toNat:Int)<48):=(not_or.1 F).1
      have aA:¬(57<((gt T k).toNat:Int)):=(not_or.1 F).2
      refine Wk (Wr (Q (mI G)<|Q (r_mul G G oB)<|Q (mS G)<|Q (mI G)<|?_))
      have aC:=u8_le (gt T k)
      refine Q (r_idxS (i:=k) und9 G G G oA)<|Q (r_sub8 G G oB)<|Q (r_convI und3 und5 G oB)<|Q (r_add G G oB)<|Q (aI G)<|Qn (Wr (Q (mI G)<|Q (r_add G G oB)<|Q (aI G)<|Qn (⟨(T,k+1),_,G,⟨G,G,(eI (by first | (first | rfl | omega | (rw [decV_next oB])) | (dsimp only; (first | rfl | omega | (rw [decV_next oB]))))),(eI (by first | (first | rfl | omega | (rw [decV_next oB])) | (dsimp only; (first | rfl | omega | (rw [decV_next oB]))))),trivial⟩,⟨p,?_⟩,?_⟩)))
      ·exact (by (try dsimp only); have hh:=‹_=stripS s∧_›; exact ⟨hh.1,oB,dig_next hh.2.2 ‹_›⟩)
      ·exact oH
    ·refine Wx (xh (Ws (Ws (Wr (Q (mS G)<|Q (r_len_s und9 G)<|Q (mS G)<|Q (r_len_s und9 G)<|Q (r_lt G G)<|Qn (Wd G (fun ag=>?_) (fun ag=>?_)))))))
     ·refine Wr (Q (mI G)<|Q (r_neg G oB)<|Q (aI G)<|Qn (Ws (Ws (Wr (Q (mI G)<|Qv ent75 (c_spec_l1Num f (-(decV (T.take k))) oB) G fun be R aT=>?_)))))
      have q:=a.lo R
      have aD:(Lib.itoa (-(decV (T.take k)))).length≤21:=itoa_len (n:=-(decV (T.take k))) oB oB
      refine Q (mS G)<|Q (r_nes (s:=Lib.itoa (-(decV (T.take k)))) (r:=s) G G)<|Qn (Wz G (fun ah=>?_) (fun ah=>?_))
      ·refine Ws (Wr (Q (aI G)<|Q (aB G)<|Qn (We (ret2 G (v:=i6 _) (v':=.bool _) G G ?_))))
       refine ⟨eR (eT2 (eI ?_) (eB ?_)),q⟩ <;> (first | (rw [read_len oK ‹_›]; done) | (have hh:=‹_=stripS s∧_›; first | (rw [read_dig hh.1 (k:=k) oB ‹_›]; done) | (rw [read_neg hh.1 (k:=k) oB ‹_› ‹_›]; done) | (rw [read_pos hh.1 (k:=k) oB ‹_› ‹_›]; done) | (rw [readN_ok ‹Lib.itoa _=s› oB]; done)))
      ·refine Wk (Ws (Wr (Q (mI G)<|Q (aI G)<|Q (aB G)<|Qn (We (ret2 G (v:=i6 _) (v':=.bool _) G G ?_)))))
       refine ⟨eR (eT2 (eI ?_) (eB ?_)),q⟩ <;> (first | (rw [read_len oK ‹_›]; done) | (have hh:=‹_=stripS s∧_›; first | (rw [read_dig hh.1 (k:=k) oB ‹_›]; done) | (rw [read_neg hh.1 (k:=k) oB ‹_› ‹_›]; done) | (rw [read_pos hh.1 (k:=k) oB ‹_› ‹_›]; done) | (rw [readN_ok ‹Lib.itoa _=s› oB]; done)))
     ·refine Wk (Ws (Ws (Wr (Q (mI G)<|Qv ent75 (c_spec_l1Num f (decV (T.take k)) oB) G fun bf S aU=>?_))))
      have t:=a.lo S
      have aE:(Lib.itoa (decV (T.take k))).length≤21:=itoa_len (n:=decV (T.take k)) oB oB
      refine Q (mS G)<|Q (r_nes (s:=Lib.itoa (decV (T.take k))) (r:=s) G G)<|Qn (Wz G (fun ai=>?_) (fun ai=>?_))
      ·refine Ws (Wr (Q (aI G)<|Q (aB G)<|Qn (We (ret2 G (v:=i6 _) (v':=.bool _) G G ?_))))
       refine ⟨eR (eT2 (eI ?_) (eB ?_)),t⟩ <;> (first | (rw [read_len oK ‹_›]; done) | (have hh:=‹_=stripS s∧_›; first | (rw [read_dig hh.1 (k:=k) oB ‹_›]; done) | (rw [read_neg hh.1 (k:=k) oB ‹_› ‹_›]; done) | (rw [read_pos hh.1 (k:=k) oB ‹_› ‹_›]; done) | (rw [readN_ok ‹Lib.itoa _=s› oB]; done)))
      ·refine Wk (Ws (Wr (Q (mI G)<|Q (aI G)<|Q (aB G)<|Qn (We (ret2 G (v:=i6 _) (v':=.bool _) G G ?_)))))
       refine ⟨eR (eT2 (eI ?_) (eB ?_)),t⟩ <;> (first | (rw [read_len oK ‹_›]; done) | (have hh:=‹_=stripS s∧_›; first | (rw [read_dig hh.1 (k:=k) oB ‹_›]; done) | (rw [read_neg hh.1 (k:=k) oB ‹_› ‹_›]; done) | (rw [read_pos hh.1 (k:=k) oB ‹_› ‹_›]; done) | (rw [readN_ok ‹Lib.itoa _=s› oB]; done)))
 ·refine Wk (Ws (Ws (Wr (Q (mS G)<|Q (r_len_s und9 G)<|Qv ent133 (c_spec_l1In w4 (s.length:Int) 1 6) G fun bg U aV=>?_))))
  have u:=L.lo U
  refine Q (rN G)<|Qn (Wz G (fun aj=>?_) (fun aj=>?_))
  ·refine Ws (Wr (Q (aI G)<|Q (aB G)<|Qn (We (ret2 G (v:=i6 _) (v':=.bool _) G G ?_))))
   refine ⟨eR (eT2 (eI ?_) (eB ?_)),u⟩ <;> (first | (rw [read_len oK ‹_›]; done) | (have hh:=‹_=stripS s∧_›; first | (rw [read_dig hh.1 (k:=k) oB ‹_›]; done) | (rw [read_neg hh.1 (k:=k) oB ‹_› ‹_›]; done) | (rw [read_pos hh.1 (k:=k) oB ‹_› ‹_›]; done) | (rw [readN_ok ‹Lib.itoa _=s› oB]; done)))
  ·refine Wk (Ws (Wr (Q (aI G)<|Qn (Ws (Ws (Wr (Q (aI G)<|Qn (Wl (WL (σ:=(List UInt8) × Nat) (fun g=>[(0,str s),(4,str g.1),(5,i6 (decV (g.1.take g.2))),(6,i6 (g.2:Int))]) (fun g w'=>(Lo w w')∧(g.1=stripS s∧(g.2≤g.1.length∧g.1.length≤6)∧∀ j,j<g.2→48≤(gt g.1 j).toNat∧(gt g.1 j).toNat≤57)) (fun g=>g.1.length-g.2) (s,0) ?_ ?_ ?_)))))))))
   ·refine ⟨G,G,(eI ?_),(eI ?_),trivial⟩ <;> (first | (first | rfl | omega | (rw [decV_next oB])) | (dsimp only; (first | rfl | omega | (rw [decV_next oB]))))
   ·exact ⟨u,(by (try dsimp only); exact ⟨by first | exact strip_yes ‹_› | exact strip_no ‹_›,oB,fun _ h=>absurd h oB⟩)⟩
   ·rintro ⟨T,k⟩ aa m N
    obtain ⟨b,d⟩:(Lo w m)∧(T=stripS s∧(k≤T.length∧T.length≤6)∧∀ j,j<k→48≤(gt T j).toNat∧(gt T j).toNat≤57):=N
    refine (?_:W _ _ _ _ _ (act _ (sets aa [(0,str s),(4,str T),(5,i6 (decV (T.take k))),(6,i6 (k:Int))])) _)
    have aq:=b.size
    have aF:k≤T.length∧T.length≤6:=d.2.1
    have aG:0≤decV (T.take k)∧decV (T.take k)≤999999:=decV_rng d.2.2 d.2.1.1 oB
    refine Ws (Ws (Wr (Q (mI G)<|Q (mS G)<|Q (r_len_s und9 G)<|Q (r_lt G G)<|Qn (Wd G (fun ak=>?_) (fun ak=>?_)))))
    ·refine Wk (Ws (Wl (Ws (Ws (WJ (fun f' w'=>At f' [(0,str s),(4,str T),(5,i6 (decV (T.take k))),(6,i6 (k:Int)),(37,.bool (decide ((((gt T k).toNat:Int)<48)∨(57<((gt T k).toNat:Int)))))]∧Lo m w'∧(((gt T k).toNat:Int)≤255)) ?_ ?_)))))
     ·refine Q (mS G)<|Q (mI G)<|?_
      have D:=u8_le (gt T k)
      refine Q (r_idxS (i:=k) und9 G G G oA)<|Q (r_lt G G)<|Q (mB G)<|QD (fun H=>?_) (fun H=>?_)
      ·refine Qs<|Qs<|Qs<|Qs<|Q (pT G G)<|Qn (⟨_,G,⟨⟨G,G,G,G,(eDT ((jot H).1 trivial)),trivial⟩,(lr _),D⟩⟩)
      ·refine Qg (mS G)<|Qg (mI G)<|Qg (r_idxS (i:=k) und9 G G G oA)<|Qg (r_gt G G)<|Q (pF G G)<|Qn (⟨_,G,⟨⟨G,G,G,G,(eDD (jof H)),trivial⟩,(lr _),D⟩⟩)
     rintro a7 bh ⟨K,B,aH⟩
     rw [← sA K]
     have aW:=B.size
     have x:=b.lo B
     refine Wd G (fun I=>?_) (fun I=>?_)
     ·refine Ws (Wr (Q (aI G)<|Q (aB G)<|Qn (We (ret2 G (v:=i6 _) (v':=.bool _) G G ?_))))
      refine ⟨eR (eT2 (eI ?_) (eB ?_)),x⟩ <;> (first | (rw [read_len oK ‹_›]; done) | (have hh:=‹_=stripS s∧_›; first | (rw [read_dig hh.1 (k:=k) oB ‹_›]; done) | (rw [read_neg hh.1 (k:=k) oB ‹_› ‹_›]; done) | (rw [read_pos hh.1 (k:=k) oB ‹_› ‹_›]; done) | (rw [readN_ok ‹Lib.itoa _=s› oB]; done)))
     ·have aJ:¬(((gt T k).toNat:Int)<48):=(not_or.1 I).1
      have aK:¬(57<((gt T k).toNat:Int)):=(not_or.1 I).2
      refine Wk (Wr (Q (mI G)<|Q (r_mul G G oB)<|Q (mS G)<|Q (mI G)<|?_))
      have aM:=u8_le (gt T k)
      refine Q (r_idxS (i:=k) und9 G G G oA)<|Q (r_sub8 G G oB)<|Q (r_convI und3 und5 G oB)<|Q (r_add G G oB)<|Q (aI G)<|Qn (Wr (Q (mI G)<|Q (r_add G G oB)<|Q (aI G)<|Qn (⟨(T,k+1),_,G,⟨G,G,(eI (by first | (first | rfl | omega | (rw [decV_next oB])) | (dsimp only; (first | rfl | omega | (rw [decV_next oB]))))),(eI (by first | (first | rfl | omega | (rw [decV_next oB])) | (dsimp only; (first | rfl | omega | (rw [decV_next oB]))))),trivial⟩,⟨x,?_⟩,?_⟩)))
      ·exact (by (try dsimp only); have hh:=‹_=stripS s∧_›; exact ⟨hh.1,oB,dig_next hh.2.2 ‹_›⟩)
      ·exact oH
    ·refine Wx (xh (Ws (Ws (Wr (Q (mS G)<|Q (r_len_s und9 G)<|Q (mS G)<|Q (r_len_s und9 G)<|Q (r_lt G G)<|Qn (Wd G (fun al=>?_) (fun al=>?_)))))))
     ·refine Wr (Q (mI G)<|Q (r_neg G oB)<|Q (aI G)<|Qn (Ws (Ws (Wr (Q (mI G)<|Qv ent75 (c_spec_l1Num m (-(decV (T.take k))) oB) G fun bi X aX=>?_)))))
      have y:=b.lo X
      have aN:(Lib.itoa (-(decV (T.take k)))).length≤21:=itoa_len (n:=-(decV (T.take k))) oB oB
      refine Q (mS G)<|Q (r_nes (s:=Lib.itoa (-(decV (T.take k)))) (r:=s) G G)<|Qn (Wz G (fun am=>?_) (fun am=>?_))
      ·refine Ws (Wr (Q (aI G)<|Q (aB G)<|Qn (We (ret2 G (v:=i6 _) (v':=.bool _) G G ?_))))
       refine ⟨eR (eT2 (eI ?_) (eB ?_)),y⟩ <;> (first | (rw [read_len oK ‹_›]; done) | (have hh:=‹_=stripS s∧_›; first | (rw [read_dig hh.1 (k:=k) oB ‹_›]; done) | (rw [read_neg hh.1 (k:=k) oB ‹_› ‹_›]; done) | (rw [read_pos hh.1 (k:=k) oB ‹_› ‹_›]; done) | (rw [readN_ok ‹Lib.itoa _=s› oB]; done)))
      ·refine Wk (Ws (Wr (Q (mI G)<|Q (aI G)<|Q (aB G)<|Qn (We (ret2 G (v:=i6 _) (v':=.bool _) G G ?_)))))
       refine ⟨eR (eT2 (eI ?_) (eB ?_)),y⟩ <;> (first | (rw [read_len oK ‹_›]; done) | (have hh:=‹_=stripS s∧_›; first | (rw [read_dig hh.1 (k:=k) oB ‹_›]; done) | (rw [read_neg hh.1 (k:=k) oB ‹_› ‹_›]; done) | (rw [read_pos hh.1 (k:=k) oB ‹_› ‹_›]; done) | (rw [readN_ok ‹Lib.itoa _=s› oB]; done)))
     ·refine Wk (Ws (Ws (Wr (Q (mI G)<|Qv ent75 (c_spec_l1Num m (decV (T.take k)) oB) G fun bj Y aY=>?_))))
      have z:=b.lo Y
      have aO:(Lib.itoa (decV (T.take k))).length≤21:=itoa_len (n:=decV (T.take k)) oB oB
      refine Q (mS G)<|Q (r_nes (s:=Lib.itoa (decV (T.take k))) (r:=s) G G)<|Qn (Wz G (fun an=>?_) (fun an=>?_))
      ·refine Ws (Wr (Q (aI G)<|Q (aB G)<|Qn (We (ret2 G (v:=i6 _) (v':=.bool _) G G ?_))))
       refine ⟨eR (eT2 (eI ?_) (eB ?_)),z⟩ <;> (first | (rw [read_len oK ‹_›]; done) | (have hh:=‹_=stripS s∧_›; first | (rw [read_dig hh.1 (k:=k) oB ‹_›]; done) | (rw [read_neg hh.1 (k:=k) oB ‹_› ‹_›]; done) | (rw [read_pos hh.1 (k:=k) oB ‹_› ‹_›]; done) | (rw [readN_ok ‹Lib.itoa _=s› oB]; done)))
      ·refine Wk (Ws (Wr (Q (mI G)<|Q (aI G)<|Q (aB G)<|Qn (We (ret2 G (v:=i6 _) (v':=.bool _) G G ?_)))))
       refine ⟨eR (eT2 (eI ?_) (eB ?_)),z⟩ <;> (first | (rw [read_len oK ‹_›]; done) | (have hh:=‹_=stripS s∧_›; first | (rw [read_dig hh.1 (k:=k) oB ‹_›]; done) | (rw [read_neg hh.1 (k:=k) oB ‹_› ‹_›]; done) | (rw [read_pos hh.1 (k:=k) oB ‹_› ‹_›]; done) | (rw [readN_ok ‹Lib.itoa _=s› oB]; done)))
theorem c_spec_ParseInt (w:World) (s:List UInt8):Calls Tryz.prog 83 #[str s] w fun e w'=>e=.returned (.tuple (List.toArray [i6 ((readN s).1),.bool ((readN s).2)]))∧Lo w w':=by
 refine cW 8 Tryz.func83 G G G (Ws (Wr (Q (aI G)<|Q (aB G)<|Qn (Ws (Wr (Q (mS G)<|Qv ent134 (c_spec_l1Read w s) G fun d a c=>?_))))))
 have b:-999999≤(readN s).1∧(readN s).1≤999999:=readN_rng s
 refine Q (xI G G)<|Q (xB G G)<|Q (aI G)<|Q (aB G)<|Qn (We (ret2 G (v:=i6 _) (v':=.bool _) G G (⟨eR (eT2 G (eB oU)),((lr w).lo a)⟩)))
end Go.Proofs.YtndcchndcghmoaaGreatDoor
namespace Go.Proofs.YtndcchndcghmoaaGreatDoor
open Go Go.RowKit Fw
set_option maxRecDepth 10000
set_option maxHeartbeats 2000000
set_option linter.unusedVariables false
variable {AL : Option Addr} {nL cL BL : Nat}
theorem bld106_:Tryz.prog.built 106 []=some (List.toArray [i6 0,i6 0,i6 0,i6 0]):=by kernel_rfl
theorem bld106_0_1_2 (a0:Int) (a1:Int) (a2:Int):Tryz.prog.built 106 [(0,i6 a0),(1,i6 a1),(2,i6 a2)]=some (List.toArray [i6 a0,i6 a1,i6 a2,i6 0]):=by kernel_rfl
theorem bld106_0_1_2_3 (a0:Int) (a1:Int) (a2:Int) (a3:Int):Tryz.prog.built 106 [(0,i6 a0),(1,i6 a1),(2,i6 a2),(3,i6 a3)]=some (List.toArray [i6 a0,i6 a1,i6 a2,i6 a3]):=by kernel_rfl
theorem bld106_0_1_3 (a0:Int) (a1:Int) (a3:Int):Tryz.prog.built 106 [(0,i6 a0),(1,i6 a1),(3,i6 a3)]=some (List.toArray [i6 a0,i6 a1,i6 0,i6 a3]):=by kernel_rfl
theorem ent186:Ent Tryz.prog 186:=en Tryz.func186
theorem tz106:TZ Tryz.prog 106 (.agg (List.toArray [i6 0,i6 0,i6 0,i6 0])):=fun _=>by kernel_rfl
open Classical in
noncomputable def impl_stepFor (s:List UInt8) (L:List Int):LibraryStep × Bool :=
 if (s=([98,117,121]:List UInt8))∧((L.length:Int)=2) then ((⟨1,(gt L 0),0,(gt L 1)⟩:LibraryStep),true) else if (s=([108,101,110,100]:List UInt8))∧((L.length:Int)=2) then ((⟨2,(gt L 0),(gt L 1),0⟩:LibraryStep),true) else if (s=([98,97,99,107]:List UInt8))∧((L.length:Int)=3) then ((⟨3,(gt L 0),(gt L 1),(gt L 2)⟩:LibraryStep),true) else if (s=([104,97,110,100]:List UInt8))∧((L.length:Int)=3) then ((⟨5,(gt L 0),(gt L 1),(gt L 2)⟩:LibraryStep),true) else if (s=([109,101,110,100]:List UInt8))∧((L.length:Int)=2) then ((⟨4,(gt L 0),0,(gt L 1)⟩:LibraryStep),true) else if (s=([100,114,111,112]:List UInt8))∧((L.length:Int)=2) then ((⟨6,(gt L 0),0,(gt L 1)⟩:LibraryStep),true) else if (s=([119,101,97,114]:List UInt8))∧((L.length:Int)=2) then ((⟨7,(gt L 0),0,(gt L 1)⟩:LibraryStep),true) else ((⟨0,0,0,0⟩:LibraryStep),false)
theorem c_impl_stepFor (w:World) (s:List UInt8)  (L:List Int) (hL:SlR w BL encI 1 AL nL cL L):Calls Tryz.prog 96 #[str s,.slice AL nL cL] w fun e w'=>e=.returned (.tuple (List.toArray [.agg (List.toArray [i6 (((impl_stepFor s L).1).Kind),i6 (((impl_stepFor s L).1).Id),i6 (((impl_stepFor s L).1).Reader),i6 (((impl_stepFor s L).1).Value)]),.bool ((impl_stepFor s L).2)]))∧Lo w w':=by
 refine cW 118 Tryz.func96 G G G ?_
 have hbdL:=hL.bound
 have hleL:=hL.len
 have hBbL:=hL.bd
 refine Ws (Wr (Qa (l:=[i6 0,i6 0,i6 0,i6 0]) tz106 G ?_))
 intro m w2 dJ bD dK bu
 refine Q (aB G)<|Qn (Ws (Wl (Ws (WJ (fun f' w'=>At f' [(0,str s),(1,.slice AL nL cL),(4,pt m),(5,.bool false),(6,.bool (decide ((s=([98,117,121]:List UInt8))∧((nL:Int)=2))))]∧Lo w2 w') ?_ ?_))))
 ·refine Q (mS G)<|Q (r_eqs (s:=s) (r:=([98,117,121]:List UInt8)) G G)<|Q (mB G)<|QD (fun h9=>?_) (fun h9=>?_)
  ·refine Qg (mL G)<|Qg (r_len und93 G)<|Qg (r_eq G G)<|Q (pT G G)<|Q (aB G)<|Qn (⟨_,G,⟨⟨G,G,G,G,(eDD (jat h9)),trivial⟩,(lr _)⟩⟩)
  ·refine Qs<|Qs<|Qs<|Q (pF G G)<|Q (aB G)<|Qn (⟨_,G,⟨⟨G,G,G,G,(eDF (jaf h9).2),trivial⟩,(lr _)⟩⟩)
 rintro dG a8 ⟨bi,F⟩
 rw [← sA bi]
 have df:=F.size
 have bb:=((lr w).lo bD).lo F
 refine Wd G (fun D=>?_) (fun D=>?_)
 ·have cY:s=([98,117,121]:List UInt8):=D.1
  have cZ:(nL:Int)=2:=D.2
  refine Ws ?_
  have K:=(hL.lo bD).lo F
  refine WA (Kp (fun b_=>b_=m) a8) (fun f' w'=>At f' [(4,pt m),(5,.bool true)]∧(Kp (fun b_=>b_=m) a8 w')∧(Blk w' m 106 [i6 1,i6 (gt L 0),i6 0,i6 (gt L 1)])∧(L[0]?=some (gt L 0))∧(L[1]?=some (gt L 1))) mo ?_ ?_
  ·intro dM p
   have dg:=p.size
   refine Ak 0 G (kr p) (fun w' hw'=>mL G)<|?_
   have bf:=(K.lo p).elem (i:=0) oB
   refine Ak 1 G (kr p) (fun w' hw'=>rX tsl93 (K.kn hw' oB) G G oB)<|Ak 2 G (kr p) (fun w' hw'=>r_ld (v:=i6 (gt L 0)) sca3 G ((K.kn hw' oB).cell0 bf G))<|Ak 3 G (kr p) (fun w' hw'=>mL G)<|?_
   have bg:=(K.lo p).elem (i:=1) oB
   refine Ak 4 G (kr p) (fun w' hw'=>rX tsl93 (K.kn hw' oB) G G oB)<|Ak 5 G (kr p) (fun w' hw'=>r_ld (v:=i6 (gt L 1)) sca3 G ((K.kn hw' oB).cell0 bg G))<|Ak 6 G (kr p) (fun w' hw'=>r_build (vs:=[(0,i6 1),(1,i6 (gt L 0)),(3,i6 (gt L 1))]) G (bld106_0_1_3 _ _ _))<|Ab 7 G (Qw (o:=0) (vs:=[i6 1,i6 (gt L 0),i6 0,i6 (gt L 1)]) agg106.2 G G G G ((bu.lo F).lo p) ler G ?_)
   intro dN bN da bM
   have au:=((kr p:Kp (fun b_=>b_=m) a8 _)).step bN (fun _ _ e=>e)
   refine Qn ⟨au,_,G,(Ak 8 G au (fun w' hw'=>aB G)<|Ad oC (⟨⟨G,G,trivial⟩,au,bM,bf,bg⟩))⟩
  rintro dH dO ⟨bj,be,bO,db,de⟩
  rw [← sA bj]
  have dh:=be.size
  refine We (retCT G G agg106 bO G (v:=.bool _) G ?_)
  refine ⟨eR (eT2 (eA (eC (eI ?_) (eC (eI ?_) (eC (eI ?_) (eC (eI ?_) G))))) (eB ?_)),(bb.new be oB)⟩ <;> (subst hleL; unfold impl_stepFor; rw [if_pos D] <;> rfl)
 ·refine Ws ?_
  have C:=(hL.lo bD).lo F
  refine WJ (fun f' w'=>At f' [(0,str s),(1,.slice AL nL cL),(4,pt m),(5,.bool false),(21,.bool (decide ((s=([108,101,110,100]:List UInt8))∧((nL:Int)=2))))]∧Lo a8 w') ?_ ?_
  ·refine Q (mS G)<|Q (r_eqs (s:=s) (r:=([108,101,110,100]:List UInt8)) G G)<|Q (mB G)<|QD (fun bh=>?_) (fun bh=>?_)
   ·refine Qg (mL G)<|Qg (r_len und93 G)<|Qg (r_eq G G)<|Q (pT G G)<|Q (aB G)<|Qn (⟨_,G,⟨⟨G,G,G,G,(eDD (jat bh)),trivial⟩,(lr _)⟩⟩)
   ·refine Qs<|Qs<|Qs<|Q (pF G G)<|Q (aB G)<|Qn (⟨_,G,⟨⟨G,G,G,G,(eDF (jaf bh).2),trivial⟩,(lr _)⟩⟩)
  rintro dI ba ⟨bl,q⟩
  rw [← sA bl]
  have di:=q.size
  have bc:=bb.lo q
  refine Wd G (fun I=>?_) (fun I=>?_)
  ·have c6:s=([108,101,110,100]:List UInt8):=I.1
   have c7:(nL:Int)=2:=I.2
   refine Ws (WA (Kp (fun b_=>b_=m) ba) (fun f' w'=>At f' [(4,pt m),(5,.bool true)]∧(Kp (fun b_=>b_=m) ba w')∧(Blk w' m 106 [i6 2,i6 (gt L 0),i6 (gt L 1),i6 0])∧(L[0]?=some (gt L 0))∧(L[1]?=some (gt L 1))) mo ?_ ?_)
   ·intro dk d
    have cr:=d.size
    refine Ak 0 G (kr d) (fun w' hw'=>mL G)<|?_
    have ax:=((C.lo q).lo d).elem (i:=0) oB
    refine Ak 1 G (kr d) (fun w' hw'=>rX tsl93 ((C.lo q).kn hw' oB) G G oB)<|Ak 2 G (kr d) (fun w' hw'=>r_ld (v:=i6 (gt L 0)) sca3 G (((C.lo q).kn hw' oB).cell0 ax G))<|Ak 3 G (kr d) (fun w' hw'=>mL G)<|?_
    have ay:=((C.lo q).lo d).elem (i:=1) oB
    refine Ak 4 G (kr d) (fun w' hw'=>rX tsl93 ((C.lo q).kn hw' oB) G G oB)<|Ak 5 G (kr d) (fun w' hw'=>r_ld (v:=i6 (gt L 1)) sca3 G (((C.lo q).kn hw' oB).cell0 ay G))<|Ak 6 G (kr d) (fun w' hw'=>r_build (vs:=[(0,i6 2),(1,i6 (gt L 0)),(2,i6 (gt L 1))]) G (bld106_0_1_2 _ _ _))<|Ab 7 G (Qw (o:=0) (vs:=[i6 2,i6 (gt L 0),i6 (gt L 1),i6 0]) agg106.2 G G G G (((bu.lo F).lo q).lo d) ler G ?_)
    intro dm bw b4 bm
    have N:=((kr d:Kp (fun b_=>b_=m) ba _)).step bw (fun _ _ e=>e)
    refine Qn ⟨N,_,G,(Ak 8 G N (fun w' hw'=>aB G)<|Ad oC (⟨⟨G,G,trivial⟩,N,bm,ax,ay⟩))⟩
   rintro cK dn ⟨aQ,am,bG,cd,ce⟩
   rw [← sA aQ]
   have ct:=am.size
   refine We (retCT G G agg106 bG G (v:=.bool _) G ?_)
   refine ⟨eR (eT2 (eA (eC (eI ?_) (eC (eI ?_) (eC (eI ?_) (eC (eI ?_) G))))) (eB ?_)),(bc.new am oB)⟩ <;> (subst hleL; unfold impl_stepFor; rw [if_neg D,if_pos I] <;> rfl)
  ·refine Ws ?_
   have U:=(bu.lo F).lo q
   refine WJ (fun f' w'=>At f' [(0,str s),(1,.slice AL nL cL),(4,pt m),(5,.bool false),(36,.bool (decide ((s=([98,97,99,107]:List UInt8))∧((nL:Int)=3))))]∧Lo ba w') ?_ ?_
   ·refine Q (mS G)<|Q (r_eqs (s:=s) (r:=([98,97,99,107]:List UInt8)) G G)<|Q (mB G)<|QD (fun aa=>?_) (fun aa=>?_)
    ·refine Qg (mL G)<|Qg (r_len und93 G)<|Qg (r_eq G G)<|Q (pT G G)<|Q (aB G)<|Qn (⟨_,G,⟨⟨G,G,G,G,(eDD (jat aa)),trivial⟩,(lr _)⟩⟩)
    ·refine Qs<|Qs<|Qs<|Q (pF G G)<|Q (aB G)<|Qn (⟨_,G,⟨⟨G,G,G,G,(eDF (jaf aa).2),trivial⟩,(lr _)⟩⟩)
   rintro cM W ⟨aR,t⟩
   rw [← sA aR]
   have cu:=t.size
   have ah:=bc.lo t
   refine Wd G (fun y=>?_) (fun y=>?_)
   ·have bQ:s=([98,97,99,107]:List UInt8):=y.1
    have bR:(nL:Int)=3:=y.2
    refine Ws ?_
    have n:=(C.lo q).lo t
    refine WA (Kp (fun b_=>b_=m) W) (fun f' w'=>At f' [(4,pt m),(5,.bool true)]∧(Kp (fun b_=>b_=m) W w')∧(Blk w' m 106 [i6 3,i6 (gt L 0),i6 (gt L 1),i6 (gt L 2)])∧(L[0]?=some (gt L 0))∧(L[1]?=some (gt L 1))∧(L[2]?=some (gt L 2))) mo ?_ ?_
    ·intro dp a
     have cw:=a.size
     refine Ak 0 G (kr a) (fun w' hw'=>mL G)<|?_
     have az:=(n.lo a).elem (i:=0) oB
     refine Ak 1 G (kr a) (fun w' hw'=>rX tsl93 (n.kn hw' oB) G G oB)<|Ak 2 G (kr a) (fun w' hw'=>r_ld (v:=i6 (gt L 0)) sca3 G ((n.kn hw' oB).cell0 az G))<|Ak 3 G (kr a) (fun w' hw'=>mL G)<|?_
     have aA:=(n.lo a).elem (i:=1) oB
     refine Ak 4 G (kr a) (fun w' hw'=>rX tsl93 (n.kn hw' oB) G G oB)<|Ak 5 G (kr a) (fun w' hw'=>r_ld (v:=i6 (gt L 1)) sca3 G ((n.kn hw' oB).cell0 aA G))<|Ak 6 G (kr a) (fun w' hw'=>mL G)<|?_
     have aC:=(n.lo a).elem (i:=2) oB
     refine Ak 7 G (kr a) (fun w' hw'=>rX tsl93 (n.kn hw' oB) G G oB)<|Ak 8 G (kr a) (fun w' hw'=>r_ld (v:=i6 (gt L 2)) sca3 G ((n.kn hw' oB).cell0 aC G))<|Ak 9 G (kr a) (fun w' hw'=>r_build (vs:=[(0,i6 3),(1,i6 (gt L 0)),(2,i6 (gt L 1)),(3,i6 (gt L 2))]) G (bld106_0_1_2_3 _ _ _ _))<|Ab 10 G (Qw (o:=0) (vs:=[i6 3,i6 (gt L 0),i6 (gt L 1),i6 (gt L 2)]) agg106.2 G G G G ((U.lo t).lo a) ler G ?_)
     intro dq bz b5 bn
     have O:=((kr a:Kp (fun b_=>b_=m) W _)).step bz (fun _ _ e=>e)
     refine Qn ⟨O,_,G,(Ak 11 G O (fun w' hw'=>aB G)<|Ad oC (⟨⟨G,G,trivial⟩,O,bn,az,aA,aC⟩))⟩
    rintro cN dr ⟨aT,an,bH,cf,cg,ch⟩
    rw [← sA aT]
    have cx:=an.size
    refine We (retCT G G agg106 bH G (v:=.bool _) G ?_)
    refine ⟨eR (eT2 (eA (eC (eI ?_) (eC (eI ?_) (eC (eI ?_) (eC (eI ?_) G))))) (eB ?_)),(ah.new an oB)⟩ <;> (subst hleL; unfold impl_stepFor; rw [if_neg D,if_neg I,if_pos y] <;> rfl)
   ·refine Ws ?_
    have k:=(C.lo q).lo t
    refine WJ (fun f' w'=>At f' [(0,str s),(1,.slice AL nL cL),(4,pt m),(5,.bool false),(54,.bool (decide ((s=([104,97,110,100]:List UInt8))∧((nL:Int)=3))))]∧Lo W w') ?_ ?_
    ·refine Q (mS G)<|Q (r_eqs (s:=s) (r:=([104,97,110,100]:List UInt8)) G G)<|Q (mB G)<|QD (fun ab=>?_) (fun ab=>?_)
     ·refine Qg (mL G)<|Qg (r_len und93 G)<|Qg (r_eq G G)<|Q (pT G G)<|Q (aB G)<|Qn (⟨_,G,⟨⟨G,G,G,G,(eDD (jat ab)),trivial⟩,(lr _)⟩⟩)
     ·refine Qs<|Qs<|Qs<|Q (pF G G)<|Q (aB G)<|Qn (⟨_,G,⟨⟨G,G,G,G,(eDF (jaf ab).2),trivial⟩,(lr _)⟩⟩)
    rintro cO X ⟨aU,c⟩
    rw [← sA aU]
    have cy:=c.size
    have ai:=ah.lo c
    refine Wd G (fun B=>?_) (fun B=>?_)
    ·have bS:s=([104,97,110,100]:List UInt8):=B.1
     have bT:(nL:Int)=3:=B.2
     refine Ws (WA (Kp (fun b_=>b_=m) X) (fun f' w'=>At f' [(4,pt m),(5,.bool true)]∧(Kp (fun b_=>b_=m) X w')∧(Blk w' m 106 [i6 5,i6 (gt L 0),i6 (gt L 1),i6 (gt L 2)])∧(L[0]?=some (gt L 0))∧(L[1]?=some (gt L 1))∧(L[2]?=some (gt L 2))) mo ?_ ?_)
     ·intro dt b
      have cz:=b.size
      refine Ak 0 G (kr b) (fun w' hw'=>mL G)<|?_
      have aD:=((k.lo c).lo b).elem (i:=0) oB
      refine Ak 1 G (kr b) (fun w' hw'=>rX tsl93 ((k.lo c).kn hw' oB) G G oB)<|Ak 2 G (kr b) (fun w' hw'=>r_ld (v:=i6 (gt L 0)) sca3 G (((k.lo c).kn hw' oB).cell0 aD G))<|Ak 3 G (kr b) (fun w' hw'=>mL G)<|?_
      have aE:=((k.lo c).lo b).elem (i:=1) oB
      refine Ak 4 G (kr b) (fun w' hw'=>rX tsl93 ((k.lo c).kn hw' oB) G G oB)<|Ak 5 G (kr b) (fun w' hw'=>r_ld (v:=i6 (gt L 1)) sca3 G (((k.lo c).kn hw' oB).cell0 aE G))<|Ak 6 G (kr b) (fun w' hw'=>mL G)<|?_
      have aF:=((k.lo c).lo b).elem (i:=2) oB
      refine Ak 7 G (kr b) (fun w' hw'=>rX tsl93 ((k.lo c).kn hw' oB) G G oB)<|Ak 8 G (kr b) (fun w' hw'=>r_ld (v:=i6 (gt L 2)) sca3 G (((k.lo c).kn hw' oB).cell0 aF G))<|Ak 9 G (kr b) (fun w' hw'=>r_build (vs:=[(0,i6 5),(1,i6 (gt L 0)),(2,i6 (gt L 1)),(3,i6 (gt L 2))]) G (bld106_0_1_2_3 _ _ _ _))<|Ab 10 G (Qw (o:=0) (vs:=[i6 5,i6 (gt L 0),i6 (gt L 1),i6 (gt L 2)]) agg106.2 G G G G (((U.lo t).lo c).lo b) ler G ?_)
      intro du bA b6 bo
      have P:=((kr b:Kp (fun b_=>b_=m) X _)).step bA (fun _ _ e=>e)
      refine Qn ⟨P,_,G,(Ak 11 G P (fun w' hw'=>aB G)<|Ad oC (⟨⟨G,G,trivial⟩,P,bo,aD,aE,aF⟩))⟩
     rintro cP dv ⟨aV,ao,bI,ci,cj,ck⟩
     rw [← sA aV]
     have cA:=ao.size
     refine We (retCT G G agg106 bI G (v:=.bool _) G ?_)
     refine ⟨eR (eT2 (eA (eC (eI ?_) (eC (eI ?_) (eC (eI ?_) (eC (eI ?_) G))))) (eB ?_)),(ai.new ao oB)⟩ <;> (subst hleL; unfold impl_stepFor; rw [if_neg D,if_neg I,if_neg y,if_pos B] <;> rfl)
    ·refine Ws ?_
     have V:=(U.lo t).lo c
     refine WJ (fun f' w'=>At f' [(0,str s),(1,.slice AL nL cL),(4,pt m),(5,.bool false),(72,.bool (decide ((s=([109,101,110,100]:List UInt8))∧((nL:Int)=2))))]∧Lo X w') ?_ ?_
     ·refine Q (mS G)<|Q (r_eqs (s:=s) (r:=([109,101,110,100]:List UInt8)) G G)<|Q (mB G)<|QD (fun ac=>?_) (fun ac=>?_)
      ·refine Qg (mL G)<|Qg (r_len und93 G)<|Qg (r_eq G G)<|Q (pT G G)<|Q (aB G)<|Qn (⟨_,G,⟨⟨G,G,G,G,(eDD (jat ac)),trivial⟩,(lr _)⟩⟩)
      ·refine Qs<|Qs<|Qs<|Q (pF G G)<|Q (aB G)<|Qn (⟨_,G,⟨⟨G,G,G,G,(eDF (jaf ac).2),trivial⟩,(lr _)⟩⟩)
     rintro cQ Y ⟨aW,u⟩
     rw [← sA aW]
     have cB:=u.size
     have aj:=ai.lo u
     refine Wd G (fun E=>?_) (fun E=>?_)
     ·have bU:s=([109,101,110,100]:List UInt8):=E.1
      have bV:(nL:Int)=2:=E.2
      refine Ws ?_
      have z:=(k.lo c).lo u
      refine WA (Kp (fun b_=>b_=m) Y) (fun f' w'=>At f' [(4,pt m),(5,.bool true)]∧(Kp (fun b_=>b_=m) Y w')∧(Blk w' m 106 [i6 4,i6 (gt L 0),i6 0,i6 (gt L 1)])∧(L[0]?=some (gt L 0))∧(L[1]?=some (gt L 1))) mo ?_ ?_
      ·intro dw f
       have cC:=f.size
       refine Ak 0 G (kr f) (fun w' hw'=>mL G)<|?_
       have aG:=(z.lo f).elem (i:=0) oB
       refine Ak 1 G (kr f) (fun w' hw'=>rX tsl93 (z.kn hw' oB) G G oB)<|Ak 2 G (kr f) (fun w' hw'=>r_ld (v:=i6 (gt L 0)) sca3 G ((z.kn hw' oB).cell0 aG G))<|Ak 3 G (kr f) (fun w' hw'=>mL G)<|?_
       have aH:=(z.lo f).elem (i:=1) oB
       refine Ak 4 G (kr f) (fun w' hw'=>rX tsl93 (z.kn hw' oB) G G oB)<|Ak 5 G (kr f) (fun w' hw'=>r_ld (v:=i6 (gt L 1)) sca3 G ((z.kn hw' oB).cell0 aH G))<|Ak 6 G (kr f) (fun w' hw'=>r_build (vs:=[(0,i6 4),(1,i6 (gt L 0)),(3,i6 (gt L 1))]) G (bld106_0_1_3 _ _ _))<|Ab 7 G (Qw (o:=0) (vs:=[i6 4,i6 (gt L 0),i6 0,i6 (gt L 1)]) agg106.2 G G G G ((V.lo u).lo f) ler G ?_)
       intro dx bB b7 bp
       have R:=((kr f:Kp (fun b_=>b_=m) Y _)).step bB (fun _ _ e=>e)
       refine Qn ⟨R,_,G,(Ak 8 G R (fun w' hw'=>aB G)<|Ad oC (⟨⟨G,G,trivial⟩,R,bp,aG,aH⟩))⟩
      rintro cR dy ⟨aX,ap,bJ,cl,cm⟩
      rw [← sA aX]
      have cD:=ap.size
      refine We (retCT G G agg106 bJ G (v:=.bool _) G ?_)
      refine ⟨eR (eT2 (eA (eC (eI ?_) (eC (eI ?_) (eC (eI ?_) (eC (eI ?_) G))))) (eB ?_)),(aj.new ap oB)⟩ <;> (subst hleL; unfold impl_stepFor; rw [if_neg D,if_neg I,if_neg y,if_neg B,if_pos E] <;> rfl)
     ·refine Ws ?_
      have x:=(k.lo c).lo u
      refine WJ (fun f' w'=>At f' [(0,str s),(1,.slice AL nL cL),(4,pt m),(5,.bool false),(87,.bool (decide ((s=([100,114,111,112]:List UInt8))∧((nL:Int)=2))))]∧Lo Y w') ?_ ?_
      ·refine Q (mS G)<|Q (r_eqs (s:=s) (r:=([100,114,111,112]:List UInt8)) G G)<|Q (mB G)<|QD (fun ae=>?_) (fun ae=>?_)
       ·refine Qg (mL G)<|Qg (r_len und93 G)<|Qg (r_eq G G)<|Q (pT G G)<|Q (aB G)<|Qn (⟨_,G,⟨⟨G,G,G,G,(eDD (jat ae)),trivial⟩,(lr _)⟩⟩)
       ·refine Qs<|Qs<|Qs<|Q (pF G G)<|Q (aB G)<|Qn (⟨_,G,⟨⟨G,G,G,G,(eDF (jaf ae).2),trivial⟩,(lr _)⟩⟩)
      rintro cS Z ⟨aY,j⟩
      rw [← sA aY]
      have cE:=j.size
      have ak:=aj.lo j
      refine Wd G (fun J=>?_) (fun J=>?_)
      ·have bW:s=([100,114,111,112]:List UInt8):=J.1
       have bX:(nL:Int)=2:=J.2
       refine Ws (WA (Kp (fun b_=>b_=m) Z) (fun f' w'=>At f' [(4,pt m),(5,.bool true)]∧(Kp (fun b_=>b_=m) Z w')∧(Blk w' m 106 [i6 6,i6 (gt L 0),i6 0,i6 (gt L 1)])∧(L[0]?=some (gt L 0))∧(L[1]?=some (gt L 1))) mo ?_ ?_)
       ·intro dz g
        have cF:=g.size
        refine Ak 0 G (kr g) (fun w' hw'=>mL G)<|?_
        have aJ:=((x.lo j).lo g).elem (i:=0) oB
        refine Ak 1 G (kr g) (fun w' hw'=>rX tsl93 ((x.lo j).kn hw' oB) G G oB)<|Ak 2 G (kr g) (fun w' hw'=>r_ld (v:=i6 (gt L 0)) sca3 G (((x.lo j).kn hw' oB).cell0 aJ G))<|Ak 3 G (kr g) (fun w' hw'=>mL G)<|?_
        have aK:=((x.lo j).lo g).elem (i:=1) oB
        refine Ak 4 G (kr g) (fun w' hw'=>rX tsl93 ((x.lo j).kn hw' oB) G G oB)<|Ak 5 G (kr g) (fun w' hw'=>r_ld (v:=i6 (gt L 1)) sca3 G (((x.lo j).kn hw' oB).cell0 aK G))<|Ak 6 G (kr g) (fun w' hw'=>r_build (vs:=[(0,i6 6),(1,i6 (gt L 0)),(3,i6 (gt L 1))]) G (bld106_0_1_3 _ _ _))<|Ab 7 G (Qw (o:=0) (vs:=[i6 6,i6 (gt L 0),i6 0,i6 (gt L 1)]) agg106.2 G G G G (((V.lo u).lo j).lo g) ler G ?_)
        intro dA bC b8 bq
        have S:=((kr g:Kp (fun b_=>b_=m) Z _)).step bC (fun _ _ e=>e)
        refine Qn ⟨S,_,G,(Ak 8 G S (fun w' hw'=>aB G)<|Ad oC (⟨⟨G,G,trivial⟩,S,bq,aJ,aK⟩))⟩
       rintro cT dB ⟨aZ,aq,bK,cn,co⟩
       rw [← sA aZ]
       have cG:=aq.size
       refine We (retCT G G agg106 bK G (v:=.bool _) G ?_)
       refine ⟨eR (eT2 (eA (eC (eI ?_) (eC (eI ?_) (eC (eI ?_) (eC (eI ?_) G))))) (eB ?_)),(ak.new aq oB)⟩ <;> (subst hleL; unfold impl_stepFor; rw [if_neg D,if_neg I,if_neg y,if_neg B,if_neg E,if_pos J] <;> rfl)
      ·refine Ws ?_
       have aw:=(V.lo u).lo j
       refine WJ (fun f' w'=>At f' [(1,.slice AL nL cL),(4,pt m),(5,.bool false),(102,.bool (decide ((s=([119,101,97,114]:List UInt8))∧((nL:Int)=2))))]∧Lo Z w') ?_ ?_
       ·refine Q (mS G)<|Q (r_eqs (s:=s) (r:=([119,101,97,114]:List UInt8)) G G)<|Q (mB G)<|QD (fun ag=>?_) (fun ag=>?_)
        ·refine Qg (mL G)<|Qg (r_len und93 G)<|Qg (r_eq G G)<|Q (pT G G)<|Q (aB G)<|Qn (⟨_,G,⟨⟨G,G,G,(eDD (jat ag)),trivial⟩,(lr _)⟩⟩)
        ·refine Qs<|Qs<|Qs<|Q (pF G G)<|Q (aB G)<|Qn (⟨_,G,⟨⟨G,G,G,(eDF (jaf ag).2),trivial⟩,(lr _)⟩⟩)
       rintro cU aO ⟨a6,H⟩
       rw [← sA a6]
       have cH:=H.size
       have al:=ak.lo H
       refine Wd G (fun M=>?_) (fun M=>?_)
       ·have bY:s=([119,101,97,114]:List UInt8):=M.1
        have bZ:(nL:Int)=2:=M.2
        refine Ws ?_
        have A:=(x.lo j).lo H
        refine WA (Kp (fun b_=>b_=m) aO) (fun f' w'=>At f' [(4,pt m),(5,.bool true)]∧(Kp (fun b_=>b_=m) aO w')∧(Blk w' m 106 [i6 7,i6 (gt L 0),i6 0,i6 (gt L 1)])∧(L[0]?=some (gt L 0))∧(L[1]?=some (gt L 1))) mo ?_ ?_
        ·intro dC h
         have cI:=h.size
         refine Ak 0 G (kr h) (fun w' hw'=>mL G)<|?_
         have aM:=(A.lo h).elem (i:=0) oB
         refine Ak 1 G (kr h) (fun w' hw'=>rX tsl93 (A.kn hw' oB) G G oB)<|Ak 2 G (kr h) (fun w' hw'=>r_ld (v:=i6 (gt L 0)) sca3 G ((A.kn hw' oB).cell0 aM G))<|Ak 3 G (kr h) (fun w' hw'=>mL G)<|?_
         have aN:=(A.lo h).elem (i:=1) oB
         refine Ak 4 G (kr h) (fun w' hw'=>rX tsl93 (A.kn hw' oB) G G oB)<|Ak 5 G (kr h) (fun w' hw'=>r_ld (v:=i6 (gt L 1)) sca3 G ((A.kn hw' oB).cell0 aN G))<|Ak 6 G (kr h) (fun w' hw'=>r_build (vs:=[(0,i6 7),(1,i6 (gt L 0)),(3,i6 (gt L 1))]) G (bld106_0_1_3 _ _ _))<|Ab 7 G (Qw (o:=0) (vs:=[i6 7,i6 (gt L 0),i6 0,i6 (gt L 1)]) agg106.2 G G G G ((aw.lo H).lo h) ler G ?_)
         intro dD bE b9 bs
         have T:=((kr h:Kp (fun b_=>b_=m) aO _)).step bE (fun _ _ e=>e)
         refine Qn ⟨T,_,G,(Ak 8 G T (fun w' hw'=>aB G)<|Ad oC (⟨⟨G,G,trivial⟩,T,bs,aM,aN⟩))⟩
        rintro cX dE ⟨a7,ar,bL,cp,cq⟩
        rw [← sA a7]
        have cJ:=ar.size
        refine We (retCT G G agg106 bL G (v:=.bool _) G ?_)
        refine ⟨eR (eT2 (eA (eC (eI ?_) (eC (eI ?_) (eC (eI ?_) (eC (eI ?_) G))))) (eB ?_)),(al.new ar oB)⟩ <;> (subst hleL; unfold impl_stepFor; rw [if_neg D,if_neg I,if_neg y,if_neg B,if_neg E,if_neg J,if_pos M] <;> rfl)
       ·refine Wk (Ws (Wr (Q (r_build (vs:=[]) G bld106_)<|Qw (o:=0) (vs:=[i6 0,i6 0,i6 0,i6 0]) agg106.2 G G G G (aw.lo H) ler G ?_)))
        intro dF bF ca bt
        refine Q (aB G)<|Qn (We (retCT G G agg106 bt G (v:=.bool _) G ?_))
        refine ⟨eR (eT2 (eA (eC (eI ?_) (eC (eI ?_) (eC (eI ?_) (eC (eI ?_) G))))) (eB ?_)),(al.new bF)⟩ <;> (subst hleL; unfold impl_stepFor; rw [if_neg D,if_neg I,if_neg y,if_neg B,if_neg E,if_neg J,if_neg M] <;> rfl)
open Classical in
noncomputable def spec_l34Number (n:Int) (ok:Bool):List UInt8 :=
 if (!ok)=true then ([63]:List UInt8) else Lib.itoa n
theorem c_spec_l34Number (w:World) (n:Int) (ok:Bool) (c:-9223372036854775807≤n∧n≤9223372036854775807):Calls Tryz.prog 136 #[i6 n,.bool ok] w fun e w'=>e=.returned (str (spec_l34Number n ok))∧Lo w w':=by
 refine cW 9 Tryz.func136 G G G (Ws (Wr (Q (r_as (v:=str ([]:List UInt8)) G)<|Qn (Ws (Ws (Wr (Q (mB G)<|Q (rN G)<|Qn (Wb G (fun a=>?_) (fun a=>?_)))))))))
 ·have d:=bnot_t a
  refine Ws (Wr (Q (r_as (v:=str ([63]:List UInt8)) G)<|Qn (We (ret1 G (v:=str _) G ?_))))
  exact ⟨eR (eS (by unfold spec_l34Number; rw [if_pos a] <;> rfl)),(lr w)⟩
 ·have f:=bnot_f a
  refine Wk (Ws (Wr (Q (mI G)<|Qv ent75 (c_spec_l1Num w n oB) G fun i b h=>?_)))
  have g:(Lib.itoa n).length≤21:=itoa_len (n:=n) oB oB
  refine Q (aS G)<|Qn (We (ret1 G (v:=str _) G ?_))
  exact ⟨eR (eS (by unfold spec_l34Number; rw [if_neg (ne_true_of_eq_false a)] <;> rfl)),((lr w).lo b)⟩
theorem c_impl_listed (w:World)  (L:List Int) (hL:SlR w BL encI 1 AL nL cL L) (U:nL≤100) (V:IntsIn L) (hE:EnvW w):Calls Tryz.prog 154 #[.slice AL nL cL] w fun e w'=>e=.returned (str (listN L))∧Lo w w':=by
 refine cW 23 Tryz.func154 G G G ?_
 have hbdL:=hL.bound
 have hleL:=hL.len
 have hBbL:=hL.bd
 refine Ws (Wr (Q (r_as (v:=str ([]:List UInt8)) G)<|Qn (Ws (Ws (Wr (Q (mL G)<|Q (r_len und93 G)<|Q (r_eq G G)<|Qn (Wd G (fun S=>?_) (fun S=>?_))))))))
 ·refine Ws (Wr (Q (r_as (v:=str ([110,111,110,101]:List UInt8)) G)<|Qn (We (ret1 G (v:=str _) G (⟨eR (eS (by first | exact list_nil oB | exact list_all oB oB)),(lr w)⟩)))))
 ·refine Wk (Ws (Wr (Q (r_as (v:=.slice none 0 0) G)<|Qn (Ws (Ws (Wr (Q (mL G)<|Q (r_len und93 G)<|Q (r_mv (v:=i6 0) G)<|Qn (Wl (WL (σ:=Nat × (Option Addr) × Nat × Nat) (fun g=>[(2,str ([]:List UInt8)),(3,.slice g.2.1 g.2.2.1 g.2.2.2),(9,.slice AL nL cL),(10,i6 (nL:Int)),(11,i6 (g.1:Int))]) (fun g w'=>(Lo w w')∧(SlR w' BL encI 1 AL nL cL L)∧(SlO w' w.heap.size encS 1 9 g.2.1 g.2.2.1 g.2.2.2 ((L.take g.1).map Lib.itoa))∧(g.1≤nL)) (fun g=>nL-g.1) (0,(none:Option Addr),0,0) ?_ ?_ ?_)))))))))
  ·exact (At.r G)
  ·exact ⟨(lr w),hL,(oq (SlO.nil (base:=w.heap.size) (e:=9) (enc:=encS) (fun _=>G) (Nat.le_refl _)) oU),oH⟩
  ·rintro ⟨k,z,y,A⟩ P q x
   obtain ⟨f,h,c,T⟩:(Lo w q)∧(SlR q BL encI 1 AL nL cL L)∧(SlO q w.heap.size encS 1 9 z y A ((L.take k).map Lib.itoa))∧(k≤nL):=x
   refine (?_:W _ _ _ _ _ (act _ (sets P [(2,str ([]:List UInt8)),(3,.slice z y A),(9,.slice AL nL cL),(10,i6 (nL:Int)),(11,i6 (k:Int))])) _)
   have O:=f.size
   have D:=c.len
   have E:=c.rd.bound
   have F:((L.take k).map Lib.itoa).length=k:=itoas_len (L:=L) (k:=k) oB
   refine Ws (Wr (Q (r_lt G G)<|Qn (Ws (Wd G (fun u=>?_) (fun u=>?_)))))
   ·refine Wk (Ws (Wl (Ws ?_)))
    have j:=h.elem (i:=k) oB
    have H:=‹IntsIn L› _ _ j
    refine Wr (Q (rX tsl93 h G G oB)<|Q (r_ld (v:=i6 (gt L k)) sca3 G (h.cell0 j G))<|Q (aI G)<|Qn (Wr (Q (mL G)<|Q (mI G)<|Qv ent74 (c_impl_text q (gt L k) oB (hE.lo f)) G fun X b J=>?_)))
    have I:(Lib.itoa (gt L k)).length≤21:=itoa_len (n:=(gt L k)) oB oB
    refine Ql (vs:=[str (Lib.itoa (gt L k))]) (L:=([Lib.itoa (gt L k)]:List (List UInt8))) (enc:=encS) tel44 (fun _=>G) G G G oG ?_
    intro R Y C a l
    have K:=a.size
    refine Qp tel44 G G ((c.lo b).lo a) (l.rd) (fun _=>G) oB oB ?_
    intro s t Z d m B
    have M:=d.size
    refine Q (aL G)<|Qn ?_
    have p:=((h.lo b).lo a).kp d (fun b_ hb e'=>by have:=((c.lo b).lo a).base_le e'; omega)
    refine Wr (Q (r_add G G oB)<|Q (mI G)<|Qn (⟨(k+1,s,y+1,t),_,G,(At.r G),⟨(((f.lo b).lo a).step d (fun i_ hi_ e'=>by have:=((c.lo b).lo a).base_le e'; first | omega | exact e' | exact .inl e' | exact .inr e')),p,(oq m (by exact list_next ‹L[k]?=some _›)),?_⟩,?_⟩))
    ·exact oH
    ·exact oH
   ·refine Wx (xh (Ws (Wr (Q (mL G)<|Qv ent186 (c_strings_Join q ((L.take k).map Lib.itoa) (c.rd) ([32]:List UInt8) (by exact own_addr ‹SlO _ _ encS _ _ _ _ _ _› oB) (by exact ⟨oB,Nat.le_trans (join_bd (itoas_take ‹IntsIn L› _) oB) oB⟩)) G fun aa o N=>(Q (aS G)<|Qn (We (ret1 G (v:=str _) G (⟨eR (eS (by first | exact list_nil oB | exact list_all oB oB)),(f.lo o)⟩))))))))
theorem c_spec_l34List (w:World)  (L:List Int) (hL:SlR w BL encI 1 AL nL cL L) (b:Bool) (C:nL≤100) (D:IntsIn L):Calls Tryz.prog 139 #[.slice AL nL cL,.bool b] w fun e w'=>e=.returned (str (if b=true then listN L else [63]))∧Lo w w':=by
 refine cW 31 Tryz.func139 G G G ?_
 have hbdL:=hL.bound
 have hleL:=hL.len
 have hBbL:=hL.bd
 refine Ws (Wr (Q (r_as (v:=str ([]:List UInt8)) G)<|Qn (Ws (Ws (Wr (Q (mB G)<|Q (rN G)<|Qn (Wb G (fun p=>?_) (fun p=>?_))))))))
 ·have E:=bnot_t p
  refine Ws (Wr (Q (r_as (v:=str ([63]:List UInt8)) G)<|Qn (We (ret1 G (v:=str _) G (⟨eR (eS (by first | (rw [if_pos oW]; first | exact list_nil oB | exact listT_all oB oB) | (rw [if_neg oW]))),(lr w)⟩)))))
 ·have F:=bnot_f p
  refine Wk (Ws (Ws (Wr (Q (mL G)<|Q (r_len und93 G)<|Q (r_eq G G)<|Qn (Wd G (fun B=>?_) (fun B=>?_))))))
  ·refine Ws (Wr (Q (r_as (v:=str ([110,111,110,101]:List UInt8)) G)<|Qn (We (ret1 G (v:=str _) G (⟨eR (eS (by first | (rw [if_pos oW]; first | exact list_nil oB | exact listT_all oB oB) | (rw [if_neg oW]))),(lr w)⟩)))))
  ·refine Wk (Ws (Wr (Q (mL G)<|?_)))
   have m:=hL.elem (i:=0) oB
   have H:=‹IntsIn L› _ _ m
   refine Q (rX tsl93 hL G G oB)<|Q (r_ld (v:=i6 (gt L 0)) sca3 G (hL.cell0 m G))<|Qv ent75 (c_spec_l1Num w (gt L 0) oB) G fun J l z=>?_
   have t:(Lib.itoa (gt L 0)).length≤21:=itoa_len (n:=(gt L 0)) oB oB
   refine Q (aS G)<|Qn (Ws (Ws (Wr (Q (aI G)<|Qn (Wl (WL (σ:=Nat) (fun g=>[(0,.slice AL nL cL),(4,str ([]:List UInt8)),(5,str (listT (L.take g))),(6,i6 (g:Int))]) (fun g w'=>(Lo w w')∧(SlR w' BL encI 1 AL nL cL L)∧(1≤g∧g≤nL)) (fun g=>nL-g) 1 ?_ ?_ ?_))))))
   ·refine ⟨G,G,(eS ?_),(eI ?_),trivial⟩ <;> (first | (first | rfl | omega | exact listT_one ‹L[0]?=some _› | exact listT_next oB ‹L[k]?=some _›) | (dsimp only; (first | rfl | omega | exact listT_one ‹L[0]?=some _› | exact listT_next oB ‹L[k]?=some _›)))
   ·exact ⟨((lr w).lo l),hL.lo l,oB⟩
   ·rintro k o h j
    obtain ⟨c,a,s⟩:(Lo w h)∧(SlR h BL encI 1 AL nL cL L)∧(1≤k∧k≤nL):=j
    refine (?_:W _ _ _ _ _ (act _ (sets o [(0,.slice AL nL cL),(4,str ([]:List UInt8)),(5,str (listT (L.take k))),(6,i6 (k:Int))])) _)
    have r:=c.size
    have u:(listT (L.take k)).length≤2200:=listT_bd ‹IntsIn L› oB k
    refine Ws (Ws (Wr (Q (mI G)<|Q (mL G)<|Q (r_len und93 G)<|Q (r_lt G G)<|Qn (Wd G (fun q=>?_) (fun q=>?_)))))
    ·refine Wk (Ws (Wl (Wr (Q (mS G)<|Q (r_cat G G oA)<|Q (mL G)<|Q (mI G)<|?_))))
     have f:=a.elem (i:=k) oB
     have x:=‹IntsIn L› _ _ f
     refine Q (rX tsl93 a G G oB)<|Q (r_ld (v:=i6 (gt L k)) sca3 G (a.cell0 f G))<|Qv ent75 (c_spec_l1Num h (gt L k) oB) G fun I d A=>?_
     have y:(Lib.itoa (gt L k)).length≤21:=itoa_len (n:=(gt L k)) oB oB
     refine Q (r_cat G G oA)<|Q (aS G)<|Qn (Wr (Q (mI G)<|Q (r_add G G oB)<|Q (aI G)<|Qn (⟨k+1,_,G,⟨G,G,(eS (by first | (first | rfl | omega | exact listT_one ‹L[0]?=some _› | exact listT_next oB ‹L[k]?=some _›) | (dsimp only; (first | rfl | omega | exact listT_one ‹L[0]?=some _› | exact listT_next oB ‹L[k]?=some _›)))),(eI (by first | (first | rfl | omega | exact listT_one ‹L[0]?=some _› | exact listT_next oB ‹L[k]?=some _›) | (dsimp only; (first | rfl | omega | exact listT_one ‹L[0]?=some _› | exact listT_next oB ‹L[k]?=some _›)))),trivial⟩,⟨(c.lo d),a.lo d,?_⟩,?_⟩)))
     ·exact oB
     ·exact oB
    ·refine Wx (xh (Ws (Wr (Q (mS G)<|Q (aS G)<|Qn (We (ret1 G (v:=str _) G (⟨eR (eS (by first | (rw [if_pos oW]; first | exact list_nil oB | exact listT_all oB oB) | (rw [if_neg oW]))),c⟩)))))))
end Go.Proofs.YtndcchndcghmoaaGreatDoor
namespace Go.Proofs.YtndcchndcghmoaaGreatDoor
open Go Go.RowKit Fw
set_option maxRecDepth 10000
set_option maxHeartbeats 2000000
set_option linter.unusedVariables false
variable {Ax1 Ax2 AL : Option Addr} {nx1 cx1 Bx1 nx2 cx2 Bx2 nL cL BL : Nat}
theorem ent135:Ent Tryz.prog 135:=en Tryz.func135
theorem ent136:Ent Tryz.prog 136:=en Tryz.func136
theorem ent137:Ent Tryz.prog 137:=en Tryz.func137
theorem ent138:Ent Tryz.prog 138:=en Tryz.func138
theorem ent139:Ent Tryz.prog 139:=en Tryz.func139
theorem ent153:Ent Tryz.prog 153:=en Tryz.func153
theorem ent154:Ent Tryz.prog 154:=en Tryz.func154
theorem ent155:Ent Tryz.prog 155:=en Tryz.func155
theorem ent156:Ent Tryz.prog 156:=en Tryz.func156
theorem ent157:Ent Tryz.prog 157:=en Tryz.func157
theorem ent176:Ent Tryz.prog 176:=en Tryz.func176
theorem ent73:Ent Tryz.prog 73:=en Tryz.func73
open Classical in
noncomputable def impl_tell (x:Library) (s:List UInt8) (L:List Int):List UInt8 × Bool :=
 if (s=([116,101,120,116]:List UInt8))∧((L.length:Int)=1) then ((mapT x (gt L 0)).1,(mapT x (gt L 0)).2) else if (s=([97,116]:List UInt8))∧((L.length:Int)=1) then (listN (if LibOK x∧(1≤(gt L 0)∧(gt L 0)≤999) then selL (atR (gt L 0)) Away.Map x.Away else []),decide (LibOK x∧(1≤(gt L 0)∧(gt L 0)≤999))) else if (s=([114,101,97,100,101,114,115]:List UInt8))∧((L.length:Int)=1) then (listN (if LibOK x∧0≤idxF (hasId (gt L 0)) x.Maps then selL (ofM (gt L 0)) Away.Reader x.Away else []),decide (LibOK x∧0≤idxF (hasId (gt L 0)) x.Maps)) else if 0<(L.length:Int) then (([]:List UInt8),false) else if s=([109,97,121]:List UInt8) then (listN (if LibOK x then selL mayM LMap.Id x.Maps else []),decide (LibOK x)) else if s=([116,104,101,114,101]:List UInt8) then (Lib.itoa (sumC x.Maps),true) else if s=([116,111,114,110]:List UInt8) then (Lib.itoa (if LibOK x then sumT x.Maps else 0),decide (LibOK x)) else if s=([98,111,117,103,104,116]:List UInt8) then (Lib.itoa x.Bought,true) else if s=([109,101,110,100,101,100]:List UInt8) then (Lib.itoa x.Mended,true) else (([]:List UInt8),false)
theorem c_impl_tell (w:World) (x:Library) (ac:SlR w Bx1 encLMap 3 Ax1 nx1 cx1 x.Maps) (ag:SlR w Bx2 encAway 2 Ax2 nx2 cx2 x.Away) (s:List UInt8)  (L:List Int) (hL:SlR w BL encI 1 AL nL cL L) (cO:(nx1:Int)≤8) (cP:(nx2:Int)≤8) (cQ:nL≤1000) (bA:LibOK x) (cR:MapsOK x.Maps) (hE:EnvW w):Calls Tryz.prog 98 #[.agg (List.toArray (cLb Ax1 nx1 cx1 Ax2 nx2 cx2 x)),str s,.slice AL nL cL] w fun e w'=>e=.returned (.tuple (List.toArray [str ((impl_tell x s L).1),.bool ((impl_tell x s L).2)]))∧Lo w w':=by
 refine cW 105 Tryz.func98 G G G ?_
 have bo:=ac.bound
 have bw:=ac.len
 have bm:=ac.bd
 have bp:=ag.bound
 have bz:=ag.len
 have bn:=ag.bd
 have hbdL:=hL.bound
 have hleL:=hL.len
 have hBbL:=hL.bd
 have hlb:=lib_rng bA
 refine Ws (Wr (bx G ?_))
 intro g1 w2 cN D cS aC
 refine Q (r_as (v:=str ([]:List UInt8)) G)<|Q (aB G)<|Qn (Ws (Wr (Q (r_as (v:=.slice none 0 0) G)<|Qn (Ws (Wr (Q (aI G)<|Q (aB G)<|Qn (Ws (Wl (Ws (WJ (fun f' w'=>At f' [(1,str s),(2,.slice AL nL cL),(3,pt g1),(6,str ([]:List UInt8)),(7,.bool false),(8,.slice none 0 0),(9,i6 0),(10,.bool true),(11,.bool (decide ((s=([116,101,120,116]:List UInt8))∧((nL:Int)=1))))]∧Lo w2 w') ?_ ?_))))))))))
 ·refine Q (mS G)<|Q (r_eqs (s:=s) (r:=([116,101,120,116]:List UInt8)) G G)<|Q (mB G)<|QD (fun h9=>?_) (fun h9=>?_)
  ·refine Qg (mL G)<|Qg (r_len und93 G)<|Qg (r_eq G G)<|Q (pT G G)<|Q (aB G)<|Qn (⟨_,G,⟨⟨G,G,G,G,G,G,G,G,(eDD (jat h9)),trivial⟩,(lr _)⟩⟩)
  ·refine Qs<|Qs<|Qs<|Q (pF G G)<|Q (aB G)<|Qn (⟨_,G,⟨⟨G,G,G,G,G,G,G,G,(eDF (jaf h9).2),trivial⟩,(lr _)⟩⟩)
 rintro cI b7 ⟨ax,g⟩
 rw [← sA ax]
 have cq:=g.size
 have O:=((lr w).lo D).lo g
 refine Wd G (fun l=>?_) (fun l=>?_)
 ·have ch:s=([116,101,120,116]:List UInt8):=l.1
  have ci:(nL:Int)=1:=l.2
  refine Ws ?_
  have Z:=(hL.lo D).lo g
  refine W.regD mo oC (Rq (fun w' hw'=>lG agg34 G ((aC.lo g).lo hw') G)<|Rq (fun w' hw'=>mL G)<|?_)
  have a8:=Z.elem (i:=0) oB
  refine Rq (fun w' hw'=>rX tsl93 (Z.lo hw') G G oB)<|Rq (fun w' hw'=>r_ld (v:=i6 (gt L 0)) sca3 G ((Z.lo hw').cell0 a8 G))<|QR.call ent73 (fun w' hw'=>(c_impl_MapText w' x (((ac.lo D).lo g).lo hw') (((ag.lo D).lo g).lo hw') (gt L 0) oB (hE.lo (O.trans hw'))).mono fun _ _ h=>⟨h.1,hw'.trans h.2⟩) G<|?_
  have cj:(mapT x (gt L 0)).1.length≤75:=mapT_len x (gt L 0)
  refine Rq (fun w' hw'=>xS G G)<|Rq (fun w' hw'=>xB G G)<|Rq (fun w' hw'=>aS G)<|Rq (fun w' hw'=>aB G)<|QR.nil ?_
  intro cU an
  have cr:=an.size
  refine We (ret2 G (v:=str _) (v':=.bool _) G G ?_)
  refine ⟨eR (eT2 (eS ?_) (eB ?_)),(O.lo an)⟩ <;> (subst hleL; unfold impl_tell; rw [if_pos l] <;> rfl)
 ·refine Ws ?_
  have J:=(hL.lo D).lo g
  have aa:=(ac.lo D).lo g
  have ab:=(ag.lo D).lo g
  refine WJ (fun f' w'=>At f' [(1,str s),(2,.slice AL nL cL),(3,pt g1),(6,str ([]:List UInt8)),(7,.bool false),(8,.slice none 0 0),(9,i6 0),(10,.bool true),(26,.bool (decide ((s=([97,116]:List UInt8))∧((nL:Int)=1))))]∧Lo b7 w') ?_ ?_
  ·refine Q (mS G)<|Q (r_eqs (s:=s) (r:=([97,116]:List UInt8)) G G)<|Q (mB G)<|QD (fun au=>?_) (fun au=>?_)
   ·refine Qg (mL G)<|Qg (r_len und93 G)<|Qg (r_eq G G)<|Q (pT G G)<|Q (aB G)<|Qn (⟨_,G,⟨⟨G,G,G,G,G,G,G,G,(eDD (jat au)),trivial⟩,(lr _)⟩⟩)
   ·refine Qs<|Qs<|Qs<|Q (pF G G)<|Q (aB G)<|Qn (⟨_,G,⟨⟨G,G,G,G,G,G,G,G,(eDF (jaf au).2),trivial⟩,(lr _)⟩⟩)
  rintro cJ aj ⟨ay,a⟩
  rw [← sA ay]
  have ct:=a.size
  have ak:=O.lo a
  refine Wd G (fun o=>?_) (fun o=>?_)
  ·have ck:s=([97,116]:List UInt8):=o.1
   have cl:(nL:Int)=1:=o.2
   refine Ws (WA (Lo aj) (fun f' w'=>∃ (aq:Option Addr) (ah:Nat) (ar:Nat),At f' [(6,str ([]:List UInt8)),(7,.bool false),(8,.slice aq ah ar),(9,i6 0),(10,.bool (decide (LibOK x∧(1≤(gt L 0)∧(gt L 0)≤999))))]∧(Lo aj w')∧(SlO w' aj.heap.size encI 1 3 aq ah ar (if LibOK x∧(1≤(gt L 0)∧(gt L 0)≤999) then selL (atR (gt L 0)) Away.Map x.Away else []))∧(L[0]?=some (gt L 0))∧(ah=(if LibOK x∧(1≤(gt L 0)∧(gt L 0)≤999) then selL (atR (gt L 0)) Away.Map x.Away else []).length)∧((ah:Int)≤9223372036854775807)∧((if LibOK x∧(1≤(gt L 0)∧(gt L 0)≤999) then selL (atR (gt L 0)) Away.Map x.Away else []).length≤x.Away.length)∧(IntsIn (if LibOK x∧(1≤(gt L 0)∧(gt L 0)≤999) then selL (atR (gt L 0)) Away.Map x.Away else []))) mo ?_ ?_)
   ·intro b8 k
    have cu:=k.size
    refine Ak 0 G k (fun w' hw'=>lG agg34 G (((aC.lo g).lo a).lo hw') G)<|Ak 1 G k (fun w' hw'=>mL G)<|?_
    have ap:=((J.lo a).lo k).elem (i:=0) oB
    refine Ak 2 G k (fun w' hw'=>rX tsl93 ((J.lo a).lo hw') G G oB)<|Ak 3 G k (fun w' hw'=>r_ld (v:=i6 (gt L 0)) sca3 G (((J.lo a).lo hw').cell0 ap G))<|Ab 4 G (Qc ent153 (c_impl_MapsAt b8 x ((aa.lo a).lo k) ((ab.lo a).lo k) (gt L 0) oB) G ?_)
    rintro e cX ⟨bh,b6,bi,rfl,U,ao⟩
    refine ⟨_,G,?_⟩
    have cw:=ao.size
    have q:=k.lo ao
    have aX:=U.len
    have aY:=U.rd.bound
    have a6:=(selif_len _ _ _ _:(if LibOK x∧(1≤(gt L 0)∧(gt L 0)≤999) then selL (atR (gt L 0)) Away.Map x.Away else []).length≤x.Away.length)
    have a7:IntsIn (if LibOK x∧(1≤(gt L 0)∧(gt L 0)≤999) then selL (atR (gt L 0)) Away.Map x.Away else []):=ints_at x (gt L 0)
    refine Qn ⟨q,_,G,(Ak 5 G q (fun w' hw'=>mT G)<|Ak 6 G q (fun w' hw'=>xL G G)<|Ak 7 G q (fun w' hw'=>xB G G)<|Ak 8 G q (fun w' hw'=>aL G)<|Ak 9 G q (fun w' hw'=>aB G)<|Ad oC (⟨bh,b6,bi,(At.r G),q,(U.down),ap,aX,aY,a6,a7⟩))⟩
   rintro cK b9 ⟨aq,ah,ar,az,am,aZ,cp,cf,cg,cm,cn⟩
   rw [← sA az]
   have cx:=am.size
   have al:=ak.lo am
   refine Ws (Wr (Q (mL G)<|Qv ent154 (c_impl_listed b9 (if LibOK x∧(1≤(gt L 0)∧(gt L 0)≤999) then selL (atR (gt L 0)) Away.Map x.Away else []) (aZ.rd) oB oI (hE.lo al)) G fun cY aW cy=>?_))
   have co:(listN (if LibOK x∧(1≤(gt L 0)∧(gt L 0)≤999) then selL (atR (gt L 0)) Away.Map x.Away else [])).length≤22*(if LibOK x∧(1≤(gt L 0)∧(gt L 0)≤999) then selL (atR (gt L 0)) Away.Map x.Away else []).length+4:=listN_len (if LibOK x∧(1≤(gt L 0)∧(gt L 0)≤999) then selL (atR (gt L 0)) Away.Map x.Away else []) oI oB
   refine Q (mB G)<|Q (aS G)<|Q (aB G)<|Qn (We (ret2 G (v:=str _) (v':=.bool _) G G ?_))
   refine ⟨eR (eT2 (eS ?_) (eB ?_)),(al.lo aW)⟩ <;> (subst hleL; unfold impl_tell; rw [if_neg l,if_pos o] <;> rfl)
  ·refine Ws ?_
   have u:=(aC.lo g).lo a
   refine WJ (fun f' w'=>At f' [(1,str s),(2,.slice AL nL cL),(3,pt g1),(6,str ([]:List UInt8)),(7,.bool false),(8,.slice none 0 0),(9,i6 0),(10,.bool true),(45,.bool (decide ((s=([114,101,97,100,101,114,115]:List UInt8))∧((nL:Int)=1))))]∧Lo aj w') ?_ ?_
   ·refine Q (mS G)<|Q (r_eqs (s:=s) (r:=([114,101,97,100,101,114,115]:List UInt8)) G G)<|Q (mB G)<|QD (fun aw=>?_) (fun aw=>?_)
    ·refine Qg (mL G)<|Qg (r_len und93 G)<|Qg (r_eq G G)<|Q (pT G G)<|Q (aB G)<|Qn (⟨_,G,⟨⟨G,G,G,G,G,G,G,G,(eDD (jat aw)),trivial⟩,(lr _)⟩⟩)
    ·refine Qs<|Qs<|Qs<|Q (pF G G)<|Q (aB G)<|Qn (⟨_,G,⟨⟨G,G,G,G,G,G,G,G,(eDF (jaf aw).2),trivial⟩,(lr _)⟩⟩)
   rintro cM A ⟨aA,c⟩
   rw [← sA aA]
   have cz:=c.size
   have b:=ak.lo c
   refine Wd G (fun f=>?_) (fun f=>?_)
   ·have bB:s=([114,101,97,100,101,114,115]:List UInt8):=f.1
    have bC:(nL:Int)=1:=f.2
    refine Ws ?_
    have E:=(J.lo a).lo c
    refine WA (Lo A) (fun f' w'=>∃ (K:Option Addr) (z:Nat) (M:Nat),At f' [(6,str ([]:List UInt8)),(7,.bool false),(8,.slice K z M),(9,i6 0),(10,.bool (decide (LibOK x∧0≤idxF (hasId (gt L 0)) x.Maps)))]∧(Lo A w')∧(SlO w' A.heap.size encI 1 3 K z M (if LibOK x∧0≤idxF (hasId (gt L 0)) x.Maps then selL (ofM (gt L 0)) Away.Reader x.Away else []))∧(L[0]?=some (gt L 0))∧(z=(if LibOK x∧0≤idxF (hasId (gt L 0)) x.Maps then selL (ofM (gt L 0)) Away.Reader x.Away else []).length)∧((z:Int)≤9223372036854775807)∧((if LibOK x∧0≤idxF (hasId (gt L 0)) x.Maps then selL (ofM (gt L 0)) Away.Reader x.Away else []).length≤x.Away.length)∧(IntsIn (if LibOK x∧0≤idxF (hasId (gt L 0)) x.Maps then selL (ofM (gt L 0)) Away.Reader x.Away else []))) mo ?_ ?_
    ·intro bb d
     have bQ:=d.size
     refine Ak 0 G d (fun w' hw'=>lG agg34 G ((u.lo c).lo hw') G)<|Ak 1 G d (fun w' hw'=>mL G)<|?_
     have ae:=(E.lo d).elem (i:=0) oB
     refine Ak 2 G d (fun w' hw'=>rX tsl93 (E.lo hw') G G oB)<|Ak 3 G d (fun w' hw'=>r_ld (v:=i6 (gt L 0)) sca3 G ((E.lo hw').cell0 ae G))<|Ab 4 G (Qc ent155 (c_impl_ReadersOf bb x (((aa.lo a).lo c).lo d) (((ab.lo a).lo c).lo d) (gt L 0) oB) G ?_)
     rintro e cB ⟨aU,ba,aV,rfl,B,X⟩
     refine ⟨_,G,?_⟩
     have bR:=X.size
     have j:=d.lo X
     have aN:=B.len
     have aO:=B.rd.bound
     have aR:=(selif_len _ _ _ _:(if LibOK x∧0≤idxF (hasId (gt L 0)) x.Maps then selL (ofM (gt L 0)) Away.Reader x.Away else []).length≤x.Away.length)
     have aT:IntsIn (if LibOK x∧0≤idxF (hasId (gt L 0)) x.Maps then selL (ofM (gt L 0)) Away.Reader x.Away else []):=ints_rd x (gt L 0)
     refine Qn ⟨j,_,G,(Ak 5 G j (fun w' hw'=>mT G)<|Ak 6 G j (fun w' hw'=>xL G G)<|Ak 7 G j (fun w' hw'=>xB G G)<|Ak 8 G j (fun w' hw'=>aL G)<|Ak 9 G j (fun w' hw'=>aB G)<|Ad oC (⟨aU,ba,aV,(At.r G),j,(B.down),ae,aN,aO,aR,aT⟩))⟩
    rintro ce bc ⟨K,z,M,ai,V,aQ,bP,bq,bs,bD,bE⟩
    rw [← sA ai]
    have bS:=V.size
    have P:=b.lo V
    refine Ws (Wr (Q (mL G)<|Qv ent154 (c_impl_listed bc (if LibOK x∧0≤idxF (hasId (gt L 0)) x.Maps then selL (ofM (gt L 0)) Away.Reader x.Away else []) (aQ.rd) oB oI (hE.lo P)) G fun cC aD bT=>?_))
    have bF:(listN (if LibOK x∧0≤idxF (hasId (gt L 0)) x.Maps then selL (ofM (gt L 0)) Away.Reader x.Away else [])).length≤22*(if LibOK x∧0≤idxF (hasId (gt L 0)) x.Maps then selL (ofM (gt L 0)) Away.Reader x.Away else []).length+4:=listN_len (if LibOK x∧0≤idxF (hasId (gt L 0)) x.Maps then selL (ofM (gt L 0)) Away.Reader x.Away else []) oI oB
    refine Q (mB G)<|Q (aS G)<|Q (aB G)<|Qn (We (ret2 G (v:=str _) (v':=.bool _) G G ?_))
    refine ⟨eR (eT2 (eS ?_) (eB ?_)),(P.lo aD)⟩ <;> (subst hleL; unfold impl_tell; rw [if_neg l,if_neg o,if_pos f] <;> rfl)
   ·refine Ws ?_
    have F:=(aa.lo a).lo c
    have H:=(ab.lo a).lo c
    refine Wr (Q (mL G)<|Q (r_len und93 G)<|Q (r_gt G G)<|Q (aB G)<|Qn (Wd G (fun m=>?_) (fun m=>?_)))
    ·refine Ws (Wr (Q (r_as (v:=str ([]:List UInt8)) G)<|Q (aB G)<|Qn (We (ret2 G (v:=str _) (v':=.bool _) G G ?_))))
     refine ⟨eR (eT2 (eS ?_) (eB ?_)),b⟩ <;> (subst hleL; unfold impl_tell; rw [if_neg l,if_neg o,if_neg f,if_pos m] <;> rfl)
    ·refine Ws (Wr (Q (mS G)<|Q (r_eqs (s:=s) (r:=([109,97,121]:List UInt8)) G G)<|Q (aB G)<|Qn (Wd G (fun p=>?_) (fun p=>?_))))
     ·refine Ws (Wr (Q (lG agg34 G (u.lo c) G)<|Qc ent156 (c_impl_MayLend A x F H oB) G ?_))
      rintro e be ⟨ca,cA,cd,rfl,C,Y⟩
      refine ⟨_,G,?_⟩
      have bU:=Y.size
      have R:=b.lo Y
      have bt:=C.len
      have bu:=C.rd.bound
      have bG:=(selif_len _ _ _ _:(if LibOK x then selL mayM LMap.Id x.Maps else []).length≤x.Maps.length)
      have bH:IntsIn (if LibOK x then selL mayM LMap.Id x.Maps else []):=ints_may x
      refine Q (mT G)<|Q (xL G G)<|Q (xB G G)<|Q (aL G)<|Q (aB G)<|Qn (Ws (Wr (Q (mL G)<|Qv ent154 (c_impl_listed be (if LibOK x then selL mayM LMap.Id x.Maps else []) (C.rd) oB oI (hE.lo R)) G fun cD aE bV=>?_)))
      have bI:(listN (if LibOK x then selL mayM LMap.Id x.Maps else [])).length≤22*(if LibOK x then selL mayM LMap.Id x.Maps else []).length+4:=listN_len (if LibOK x then selL mayM LMap.Id x.Maps else []) oI oB
      refine Q (mB G)<|Q (aS G)<|Q (aB G)<|Qn (We (ret2 G (v:=str _) (v':=.bool _) G G ?_))
      refine ⟨eR (eT2 (eS ?_) (eB ?_)),(R.lo aE)⟩ <;> (subst hleL; unfold impl_tell; rw [if_neg l,if_neg o,if_neg f,if_neg m,if_pos p] <;> rfl)
     ·refine Ws (Wr (Q (mS G)<|Q (r_eqs (s:=s) (r:=([116,104,101,114,101]:List UInt8)) G G)<|Q (aB G)<|Qn (Wd G (fun t=>?_) (fun t=>?_))))
      ·refine Wr (Q (lG agg34 G (u.lo c) G)<|Qv ent125 (c__impl_Library__copies A x F H (by first | assumption | exact MTo.end_ (And.right ‹_∧MTo _ _›) oB) oB) G fun bf aF bW=>?_)
       have S:=b.lo aF
       have bJ:0≤sumC x.Maps∧sumC x.Maps≤792:=sumC_rng (by first | assumption | exact MTo.end_ (And.right ‹_∧MTo _ _›) oB) oB
       refine Q (aI G)<|Qn (Ws (Wr (Q (mI G)<|Qv ent74 (c_impl_text bf (sumC x.Maps) oB (hE.lo S)) G fun cE aG bX=>?_)))
       have bK:(Lib.itoa (sumC x.Maps)).length≤21:=itoa_len (n:=sumC x.Maps) oB oB
       refine Q (mB G)<|Q (aS G)<|Q (aB G)<|Qn (We (ret2 G (v:=str _) (v':=.bool _) G G ?_))
       refine ⟨eR (eT2 (eS ?_) (eB ?_)),(S.lo aG)⟩ <;> (subst hleL; unfold impl_tell; rw [if_neg l,if_neg o,if_neg f,if_neg m,if_neg p,if_pos t] <;> rfl)
      ·refine Ws (Wr (Q (mS G)<|Q (r_eqs (s:=s) (r:=([116,111,114,110]:List UInt8)) G G)<|Q (aB G)<|Qn (Wd G (fun y=>?_) (fun y=>?_))))
       ·refine Wr (Q (lG agg34 G (u.lo c) G)<|Qv ent157 (c_impl_TornCopies A x F H oB) G fun bg aH bY=>?_)
        have T:=b.lo aH
        have bL:0≤(if LibOK x then sumT x.Maps else 0)∧(if LibOK x then sumT x.Maps else 0)≤9999:=torn_rng x
        refine Q (mT G)<|Q (xI G G)<|Q (xB G G)<|Q (aI G)<|Q (aB G)<|Qn (Ws (Wr (Q (mI G)<|Qv ent74 (c_impl_text bg (if LibOK x then sumT x.Maps else 0) oB (hE.lo T)) G fun cF aJ bZ=>?_)))
        have bM:(Lib.itoa (if LibOK x then sumT x.Maps else 0)).length≤21:=itoa_len (n:=(if LibOK x then sumT x.Maps else 0)) oB oB
        refine Q (mB G)<|Q (aS G)<|Q (aB G)<|Qn (We (ret2 G (v:=str _) (v':=.bool _) G G ?_))
        refine ⟨eR (eT2 (eS ?_) (eB ?_)),(T.lo aJ)⟩ <;> (subst hleL; unfold impl_tell; rw [if_neg l,if_neg o,if_neg f,if_neg m,if_neg p,if_neg t,if_pos y] <;> rfl)
       ·refine Ws (Wr (Q (mS G)<|Q (r_eqs (s:=s) (r:=([98,111,117,103,104,116]:List UInt8)) G G)<|Q (aB G)<|Qn (Wd G (fun I=>?_) (fun I=>?_))))
        ·refine Wr (Q (fA fa34_2 G)<|Q (lB sca3 G (u.lo c) G)<|Q (aI G)<|Qn (Ws (Wr (Q (mI G)<|Qv ent74 (c_impl_text A x.Bought oB (hE.lo b)) G fun cG aK b4=>?_))))
         have bN:(Lib.itoa x.Bought).length≤21:=itoa_len (n:=x.Bought) oB oB
         refine Q (mB G)<|Q (aS G)<|Q (aB G)<|Qn (We (ret2 G (v:=str _) (v':=.bool _) G G ?_))
         refine ⟨eR (eT2 (eS ?_) (eB ?_)),(b.lo aK)⟩ <;> (subst hleL; unfold impl_tell; rw [if_neg l,if_neg o,if_neg f,if_neg m,if_neg p,if_neg t,if_neg y,if_pos I] <;> rfl)
        ·refine Ws (Wr (Q (mS G)<|Q (r_eqs (s:=s) (r:=([109,101,110,100,101,100]:List UInt8)) G G)<|Q (aB G)<|Qn (Wd G (fun N=>?_) (fun N=>?_))))
         ·refine Wr (Q (fA fa34_4 G)<|Q (lB sca3 G (u.lo c) G)<|Q (aI G)<|Qn (Ws (Wr (Q (mI G)<|Qv ent74 (c_impl_text A x.Mended oB (hE.lo b)) G fun cH aM b5=>?_))))
          have bO:(Lib.itoa x.Mended).length≤21:=itoa_len (n:=x.Mended) oB oB
          refine Q (mB G)<|Q (aS G)<|Q (aB G)<|Qn (We (ret2 G (v:=str _) (v':=.bool _) G G ?_))
          refine ⟨eR (eT2 (eS ?_) (eB ?_)),(b.lo aM)⟩ <;> (subst hleL; unfold impl_tell; rw [if_neg l,if_neg o,if_neg f,if_neg m,if_neg p,if_neg t,if_neg y,if_neg I,if_pos N] <;> rfl)
         ·refine Ws (Wr (Q (r_as (v:=str ([]:List UInt8)) G)<|Q (aB G)<|Qn (We (ret2 G (v:=str _) (v':=.bool _) G G ?_))))
          refine ⟨eR (eT2 (eS ?_) (eB ?_)),b⟩ <;> (subst hleL; unfold impl_tell; rw [if_neg l,if_neg o,if_neg f,if_neg m,if_neg p,if_neg t,if_neg y,if_neg I,if_neg N] <;> rfl)
open Classical in
noncomputable def spec_l34Map (x:Library) (id:Int):List UInt8 :=
 if (!((mapT x id).2))=true then ([63]:List UInt8) else (mapT x id).1
theorem c_spec_l34Map (w:World) (x:Library) (b:SlR w Bx1 encLMap 3 Ax1 nx1 cx1 x.Maps) (c:SlR w Bx2 encAway 2 Ax2 nx2 cx2 x.Away) (id:Int):Calls Tryz.prog 142 #[.agg (List.toArray (cLb Ax1 nx1 cx1 Ax2 nx2 cx2 x)),i6 id] w fun e w'=>e=.returned (str (spec_l34Map x id))∧Lo w w':=by
 refine cW 16 Tryz.func142 G G G ?_
 have k:=b.bound
 have m:=b.len
 have h:=b.bd
 have l:=c.bound
 have n:=c.len
 have i:=c.bd
 refine Ws (Wr (bx G ?_))
 intro y u s f t j
 refine Q (r_as (v:=str ([]:List UInt8)) G)<|Qn (Ws (Wr (Q (lG agg34 G j G)<|Q (mI G)<|Qv ent176 (c_spec_MapText u x (b.lo f) (c.lo f) id) G fun z g r=>?_)))
 have d:=((lr w).lo f).lo g
 have o:(mapT x id).1.length≤75:=mapT_len x id
 refine Q (mT G)<|Q (xS G G)<|Q (xB G G)<|Q (aS G)<|Q (aB G)<|Qn (Ws (Ws (Wr (Q (mB G)<|Q (rN G)<|Qn (Wb G (fun a=>?_) (fun a=>?_))))))
 ·have p:=bnot_t a
  refine Ws (Wr (Q (r_as (v:=str ([63]:List UInt8)) G)<|Qn (We (ret1 G (v:=str _) G ?_))))
  exact ⟨eR (eS (by unfold spec_l34Map; rw [if_pos a] <;> rfl)),d⟩
 ·have q:=bnot_f a
  refine Wk (Ws (Wr (Q (mS G)<|Q (aS G)<|Qn (We (ret1 G (v:=str _) G ?_)))))
  exact ⟨eR (eS (by unfold spec_l34Map; rw [if_neg (ne_true_of_eq_false a)] <;> rfl)),d⟩
open Classical in
noncomputable def spec_l34Word (x:Library) (s:List UInt8):List UInt8 :=
 if s=([116,104,101,114,101]:List UInt8) then (spec_l34Number (if LibOK x then sumC x.Maps else 0) (decide (LibOK x))) else if s=([116,111,114,110]:List UInt8) then (spec_l34Number (if LibOK x then sumT x.Maps else 0) (decide (LibOK x))) else if s=([98,111,117,103,104,116]:List UInt8) then Lib.itoa x.Bought else if s=([109,101,110,100,101,100]:List UInt8) then Lib.itoa x.Mended else if s=([109,97,121]:List UInt8) then (if (decide (LibOK x))=true then listN (if LibOK x then selL mayM LMap.Id x.Maps else []) else [63]) else ([63]:List UInt8)
theorem c_spec_l34Word (w:World) (x:Library) (d:SlR w Bx1 encLMap 3 Ax1 nx1 cx1 x.Maps) (f:SlR w Bx2 encAway 2 Ax2 nx2 cx2 x.Away) (s:List UInt8) (aj:(nx1:Int)≤8) (ak:(nx2:Int)≤8) (I:LibOK x):Calls Tryz.prog 84 #[.agg (List.toArray (cLb Ax1 nx1 cx1 Ax2 nx2 cx2 x)),str s] w fun e w'=>e=.returned (str (spec_l34Word x s))∧Lo w w':=by
 refine cW 52 Tryz.func84 G G G ?_
 have D:=d.bound
 have F:=d.len
 have B:=d.bd
 have E:=f.bound
 have H:=f.len
 have C:=f.bd
 have hlb:=lib_rng I
 refine Ws (Wr (bx G ?_))
 intro g1 A ai a al i
 have c:=(lr w).lo a
 refine Q (r_as (v:=str ([]:List UInt8)) G)<|Qn (Ws (Ws (Wr (Q (mS G)<|Qn (Wl (Ws (Wr (Q (r_eqs (s:=s) (r:=([116,104,101,114,101]:List UInt8)) G G)<|Q (aB G)<|Qn (Wd G (fun m=>?_) (fun m=>?_))))))))))
 ·refine Ws (Wr (Q (lG agg34 G i G)<|Qv ent135 (c_spec_CopiesThere A x (d.lo a) (f.lo a) oB) G fun J o W=>?_))
  have O:0≤(if LibOK x then sumC x.Maps else 0)∧(if LibOK x then sumC x.Maps else 0)≤9999:=there_rngN x
  refine Q (mT G)<|Q (xI G G)<|Q (xB G G)<|Q (aI G)<|Q (aB G)<|Qn (Ws (Wr (Q (mI G)<|Q (mB G)<|Qv ent136 (c_spec_l34Number J (if LibOK x then sumC x.Maps else 0) (decide (LibOK x)) oB) G fun an p X=>(Q (aS G)<|Qn (We (ret1 G (v:=str _) G ?_))))))
  exact ⟨eR (eS (by unfold spec_l34Word; rw [if_pos m] <;> rfl)),((c.lo o).lo p)⟩
 ·refine Ws (Wr (Q (r_eqs (s:=s) (r:=([116,111,114,110]:List UInt8)) G G)<|Q (aB G)<|Qn (Wd G (fun b=>?_) (fun b=>?_))))
  ·refine Ws (Wr (Q (lG agg34 G i G)<|Qv ent137 (c_spec_TornCopies A x (d.lo a) (f.lo a)) G fun K q Y=>?_))
   have P:0≤(if LibOK x then sumT x.Maps else 0)∧(if LibOK x then sumT x.Maps else 0)≤9999:=torn_rng x
   refine Q (mT G)<|Q (xI G G)<|Q (xB G G)<|Q (aI G)<|Q (aB G)<|Qn (Ws (Wr (Q (mI G)<|Q (mB G)<|Qv ent136 (c_spec_l34Number K (if LibOK x then sumT x.Maps else 0) (decide (LibOK x)) oB) G fun ao t Z=>(Q (aS G)<|Qn (We (ret1 G (v:=str _) G ?_))))))
   exact ⟨eR (eS (by unfold spec_l34Word; rw [if_neg m,if_pos b] <;> rfl)),((c.lo q).lo t)⟩
  ·refine Ws (Wr (Q (r_eqs (s:=s) (r:=([98,111,117,103,104,116]:List UInt8)) G G)<|Q (aB G)<|Qn (Wd G (fun g=>?_) (fun g=>?_))))
   ·refine Ws (Wr (Q (fA fa34_2 G)<|Q (lB sca3 G i G)<|Qv ent75 (c_spec_l1Num A x.Bought oB) G fun ap u aa=>?_))
    have R:(Lib.itoa x.Bought).length≤21:=itoa_len (n:=x.Bought) oB oB
    refine Q (aS G)<|Qn (We (ret1 G (v:=str _) G ?_))
    exact ⟨eR (eS (by unfold spec_l34Word; rw [if_neg m,if_neg b,if_pos g] <;> rfl)),(c.lo u)⟩
   ·refine Ws (Wr (Q (r_eqs (s:=s) (r:=([109,101,110,100,101,100]:List UInt8)) G G)<|Q (aB G)<|Qn (Wd G (fun j=>?_) (fun j=>?_))))
    ·refine Ws (Wr (Q (fA fa34_4 G)<|Q (lB sca3 G i G)<|Qv ent75 (c_spec_l1Num A x.Mended oB) G fun aq y ab=>?_))
     have S:(Lib.itoa x.Mended).length≤21:=itoa_len (n:=x.Mended) oB oB
     refine Q (aS G)<|Qn (We (ret1 G (v:=str _) G ?_))
     exact ⟨eR (eS (by unfold spec_l34Word; rw [if_neg m,if_neg b,if_neg g,if_pos j] <;> rfl)),(c.lo y)⟩
    ·refine Ws (Wr (Q (r_eqs (s:=s) (r:=([109,97,121]:List UInt8)) G G)<|Q (aB G)<|Qn (Wd G (fun l=>?_) (fun l=>?_))))
     ·refine Ws (Wr (Q (lG agg34 G i G)<|Qc ent138 (c_spec_MayLend A x (d.lo a) (f.lo a) oB) G ?_))
      rintro e L ⟨ag,am,ah,rfl,h,k⟩
      refine ⟨_,G,?_⟩
      have ac:=k.size
      have M:=h.len
      have N:=h.rd.bound
      have T:=(selif_len _ _ _ _:(if LibOK x then selL mayM LMap.Id x.Maps else []).length≤x.Maps.length)
      have U:IntsIn (if LibOK x then selL mayM LMap.Id x.Maps else []):=ints_may x
      refine Q (mT G)<|Q (xL G G)<|Q (xB G G)<|Q (aL G)<|Q (aB G)<|Qn (Ws (Wr (Q (mL G)<|Q (mB G)<|Qv ent139 (c_spec_l34List L (if LibOK x then selL mayM LMap.Id x.Maps else []) (h.rd) (decide (LibOK x)) oB oI) G fun ar z ae=>?_)))
      have V:(listN (if LibOK x then selL mayM LMap.Id x.Maps else [])).length≤22*(if LibOK x then selL mayM LMap.Id x.Maps else []).length+4:=listN_len (if LibOK x then selL mayM LMap.Id x.Maps else []) oI oB
      refine Q (aS G)<|Qn (We (ret1 G (v:=str _) G ?_))
      exact ⟨eR (eS (by unfold spec_l34Word; rw [if_neg m,if_neg b,if_neg g,if_neg j,if_pos l] <;> rfl)),((c.lo k).lo z)⟩
     ·refine Wk (Ws (Wr (Q (r_as (v:=str ([63]:List UInt8)) G)<|Qn (We (ret1 G (v:=str _) G ?_)))))
      exact ⟨eR (eS (by unfold spec_l34Word; rw [if_neg m,if_neg b,if_neg g,if_neg j,if_neg l] <;> rfl)),c⟩
end Go.Proofs.YtndcchndcghmoaaGreatDoor
namespace Go.Proofs.YtndcchndcghmoaaGreatDoor
open Go Go.RowKit Fw
set_option maxRecDepth 10000
set_option maxHeartbeats 2000000
set_option linter.unusedVariables false
variable {Ac1 Ac2 : Option Addr} {nc1 cc1 Bc1 nc2 cc2 Bc2 : Nat}
theorem ent140:Ent Tryz.prog 140:=en Tryz.func140
theorem ent141:Ent Tryz.prog 141:=en Tryz.func141
theorem ent142:Ent Tryz.prog 142:=en Tryz.func142
theorem ent67:Ent Tryz.prog 67:=en Tryz.func67
theorem ent87:Ent Tryz.prog 87:=en Tryz.func87
theorem tz37:TZ Tryz.prog 37 (.agg (List.toArray zCn)):=fun _=>by kernel_rfl
open Classical in
noncomputable def spec_l34Make (c:Console) (s:LibraryStep):Console × List UInt8 :=
 if (!((spec_StepLibrary c.Library s).2))=true then (c,([63]:List UInt8)) else ((⟨((spec_StepLibrary c.Library s).1),c.Log⟩:Console),(spec_l34Map ((spec_StepLibrary c.Library s).1) s.Id))
theorem c_spec_l34Make (w:World) (c:Console) (t:SlO w Bc1 encLMap 3 102 Ac1 nc1 cc1 c.Library.Maps) (u:SlO w Bc2 encAway 2 129 Ac2 nc2 cc2 c.Library.Away) (s:LibraryStep) (hdc_Library_Maps_c2:Dj Ac1 Ac2) (bq:(nc1:Int)≤8) (bs:(nc2:Int)≤8):Calls Tryz.prog 87 #[.agg (List.toArray (cCn Ac1 nc1 cc1 Ac2 nc2 cc2 c)),.agg (List.toArray (encLibraryStep s))] w fun e w'=>∃ A1' n1' c1' A2' n2' c2',e=.returned (.tuple (List.toArray [.agg (List.toArray (cCn A1' n1' c1' A2' n2' c2' ((spec_l34Make c s).1))),str ((spec_l34Make c s).2)]))∧SlO w' Bc1 encLMap 3 102 A1' n1' c1' (((spec_l34Make c s).1).Library.Maps)∧SlO w' Bc2 encAway 2 129 A2' n2' c2' (((spec_l34Make c s).1).Library.Away)∧Dj A1' A2'∧(Og A1' Ac1 Ac2 w)∧(Og A2' Ac1 Ac2 w)∧Lo w w':=by
 refine cW 27 Tryz.func87 G G G ?_
 have aH:=t.rd.cap
 have aD:=t.rd.bd
 have aF:=t.rd.bound
 have aj:=t.len
 have az:=t.bd
 have aJ:=u.rd.cap
 have aE:=u.rd.bd
 have aG:=u.rd.bound
 have ak:=u.len
 have aA:=u.bd
 refine Ws (Wr (bx G ?_))
 intro g1 w2 bp L bt aC
 refine bx G ?_
 intro bo bu aV m bc X
 refine Qa (l:=zCn) tz37 G ?_
 intro q aT aW n be an
 refine Q (r_as (v:=str ([]:List UInt8)) G)<|Qn (Ws ?_)
 have Y:=(aC.lo m).lo n
 have O:=((t.lo L).lo m).lo n
 have P:=((u.lo L).lo m).lo n
 refine Wr (Q (fA fa37_0 G)<|Q (r_lda (l:=(cLb Ac1 nc1 cc1 Ac2 nc2 cc2 c.Library)) agg34 G (fun _ _ hu=>Y.cells (vs:=(cLb Ac1 nc1 cc1 Ac2 nc2 cc2 c.Library)) G hu) G)<|Q (lG agg106 G (X.lo n) G)<|Qc ent67 (c_spec_StepLibrary aT c.Library (O.rd) (P.rd) s) G ?_)
 rintro e bw ⟨D,R,F,E,S,H,rfl,z,A,au,d⟩
 refine ⟨_,G,?_⟩
 have bj:=d.size
 have aw:=z.len
 have aZ:=z.rd.bound
 have a7:=step_lenMS c.Library s
 have ax:=A.len
 have a6:=A.rd.bound
 have a8:=step_lenAS c.Library s
 refine Q (mT G)<|Q (xG G G)<|Q (xB G G)<|Qa (l:=zLb) tz34 G ?_
 intro U bz aX j bf ao
 refine Qw (o:=0) (vs:=(cLb D R F E S H ((spec_StepLibrary c.Library s).1))) agg34.2 G G G G ao ler G ?_
 intro bA k bg ap
 have W:=((((((lr w).lo L).lo m).lo n).lo d).lo j).new k
 refine Q (aB G)<|Qn (Ws (Ws ?_))
 have Z:=((Y.lo d).lo j).kn k
 have aa:=((an.lo d).lo j).kn k
 have ab:=(z.lo j).kd k (nE (g:=U) z)
 have ac:=(A.lo j).kd k (nE (g:=U) A)
 refine Wr (Q (mB G)<|Q (rN G)<|Qn (Wb G (fun I=>?_) (fun I=>?_)))
 ·have ba:=bnot_t I
  refine Ws (Wr (Q (lG agg37 G Z G)<|Qw (o:=0) (vs:=(cCn Ac1 nc1 cc1 Ac2 nc2 cc2 c)) agg37.2 G G G G aa ler G ?_))
  intro bB M bh aq
  refine Q (r_as (v:=str ([63]:List UInt8)) G)<|Qn (We (retCT G G agg37 aq G (v:=str _) G ?_))
  refine ⟨Ac1,nc1,cc1,Ac2,nc2,cc2,eR (eT2 (e8 ?_ ?_ ?_ ?_ ?_ ?_) (eS ?_)),(oq ((((O.lo d).lo j).kd k (nE (g:=U) (O.lo d))).kd M (nE (g:=q) ((t.lo L).lo m))) ?_),(oq ((((P.lo d).lo j).kd k (nE (g:=U) (P.lo d))).kd M (nE (g:=q) ((u.lo L).lo m))) ?_),hdc_Library_Maps_c2,(fun b_ h_=>.inl (.inl h_)),(fun b_ h_=>.inl (.inr h_)),(W.new M)⟩ <;> (subst aj ak; unfold spec_l34Make; rw [if_pos I] <;> rfl)
 ·have bb:=bnot_f I
  refine Wk (Ws (Wr (Q (lG agg37 G Z G)<|Qa (l:=zCn) tz37 G ?_)))
  intro am bC aY p bi ar
  have B:=nE (g:=am) ab
  have C:=nE (g:=am) ac
  refine Qw (o:=0) (vs:=(cCn Ac1 nc1 cc1 Ac2 nc2 cc2 c)) agg37.2 G G G G ar ler G ?_
  intro bD i aK ae
  refine Qn (Ws ?_)
  have N:=(ap.lo p).kn i
  have x:=(ab.lo p).kd i B
  have y:=(ac.lo p).kd i C
  refine Wr (Q (lG agg34 G N G)<|Q (fA fa37_0 G)<|Qw (o:=0) (vs:=(cLb D R F E S H ((spec_StepLibrary c.Library s).1))) agg34.2 G G G G ae ler G ?_)
  intro T a aM ag
  refine Qn (Ws (WA (Kp (fun b_=>b_=q) T) (fun f' w'=>At f' [(4,pt q),(5,str (spec_l34Map ((spec_StepLibrary c.Library s).1) s.Id))]∧(Kp (fun b_=>b_=q) T w')∧(Blk w' q 37 [.slice D R F,.slice E S H,i6 (((spec_StepLibrary c.Library s).1).Bought),i6 (((spec_StepLibrary c.Library s).1).Dropped),i6 (((spec_StepLibrary c.Library s).1).Mended),str c.Log.Durable,str c.Log.Pending,i6 c.Log.Count])) mo ?_ ?_))
  ·intro ay b
   have aO:=b.size
   refine Ak 0 G (kr b) (fun w' hw'=>lG agg37 G (ag.kn hw' oB) G)<|Ak 1 G (kr b) (fun w' hw'=>lG agg34 G ((N.kn a).kn hw' oB) G)<|Ak 2 G (kr b) (fun w' hw'=>fA fa106_1 G)<|Ak 3 G (kr b) (fun w' hw'=>lB sca3 G ((((((((X.lo n).lo d).lo j).kn k).lo p).kn i).kn a).kn hw' oB) G)<|Ab 4 G (Qv ent142 (c_spec_l34Map ay ((spec_StepLibrary c.Library s).1) (((x.kd a B).lo b).rd) (((y.kd a C).lo b).rd) s.Id) G fun bl K aQ=>?_)
   have J:=((kr b:Kp (fun b_=>b_=q) T _)).lo K
   refine Qn ⟨J,_,G,(Ab 5 G (Qw (o:=0) (vs:=[.slice D R F,.slice E S H,i6 (((spec_StepLibrary c.Library s).1).Bought),i6 (((spec_StepLibrary c.Library s).1).Dropped),i6 (((spec_StepLibrary c.Library s).1).Mended),str c.Log.Durable,str c.Log.Pending,i6 c.Log.Count]) agg37.2 G G G G (((((aa.lo p).kn i).kn a).lo b).lo K) ler G ?_))⟩
   intro bm ai aN ah
   have r:=J.step ai (fun _ _ e=>e)
   refine Qn ⟨r,_,G,(Ak 6 G r (fun w' hw'=>aS G)<|Ad oC (⟨⟨G,G,trivial⟩,r,ah⟩))⟩
  rintro aU bn ⟨V,f,al⟩
  rw [← sA V]
  have aR:=f.size
  refine We (retCT G G agg37 al G (v:=str _) G ?_)
  refine ⟨D,R,F,E,S,H,eR (eT2 (e8 ?_ ?_ ?_ ?_ ?_ ?_) (eS ?_)),(oq (((x.kd a B).kn f oB).down) ?_),(oq (((y.kd a C).kn f oB).down) ?_),au,(fun b_ h=>.inr (by have:=((x.kd a B).kn f oB).base_le h; omega)),(fun b_ h=>.inr (by have:=((y.kd a C).kn f oB).base_le h; omega)),((((W.lo p).new i).new a).new f oB)⟩ <;> (subst aw ax; unfold spec_l34Make; rw [if_neg (ne_true_of_eq_false I)] <;> rfl)
open Classical in
noncomputable def spec_l34One (c:Console) (s:List UInt8) (n:Int):Console × List UInt8 :=
 if s=([97,116]:List UInt8) then (c,(if (decide (LibOK c.Library∧(1≤n∧n≤999)))=true then listN (if LibOK c.Library∧(1≤n∧n≤999) then selL (atR n) Away.Map c.Library.Away else []) else [63])) else if s=([114,101,97,100,101,114,115]:List UInt8) then (c,(if (decide (LibOK c.Library∧0≤idxF (hasId n) c.Library.Maps))=true then listN (if LibOK c.Library∧0≤idxF (hasId n) c.Library.Maps then selL (ofM n) Away.Reader c.Library.Away else []) else [63])) else if s=([116,101,120,116]:List UInt8) then (c,(spec_l34Map c.Library n)) else (c,([63]:List UInt8))
theorem c_spec_l34One (w:World) (c:Console) (B:SlO w Bc1 encLMap 3 102 Ac1 nc1 cc1 c.Library.Maps) (C:SlO w Bc2 encAway 2 129 Ac2 nc2 cc2 c.Library.Away) (s:List UInt8) (n:Int) (hdc_Library_Maps_c2:Dj Ac1 Ac2) (bF:(nc1:Int)≤8) (bG:(nc2:Int)≤8):Calls Tryz.prog 85 #[.agg (List.toArray (cCn Ac1 nc1 cc1 Ac2 nc2 cc2 c)),str s,i6 n] w fun e w'=>∃ A1' n1' c1' A2' n2' c2',e=.returned (.tuple (List.toArray [.agg (List.toArray (cCn A1' n1' c1' A2' n2' c2' ((spec_l34One c s n).1))),str ((spec_l34One c s n).2)]))∧SlO w' Bc1 encLMap 3 102 A1' n1' c1' (((spec_l34One c s n).1).Library.Maps)∧SlO w' Bc2 encAway 2 129 A2' n2' c2' (((spec_l34One c s n).1).Library.Away)∧Dj A1' A2'∧(Og A1' Ac1 Ac2 w)∧(Og A2' Ac1 Ac2 w)∧Lo w w':=by
 refine cW 47 Tryz.func85 G G G ?_
 have aE:=B.rd.cap
 have az:=B.rd.bd
 have aC:=B.rd.bound
 have t:=B.len
 have ax:=B.bd
 have aF:=C.rd.cap
 have aA:=C.rd.bd
 have aD:=C.rd.bound
 have u:=C.len
 have ay:=C.bd
 refine Ws (Wr (bx G ?_))
 intro g1 w2 bE T bH A
 refine Qa (l:=zCn) tz37 G ?_
 intro b U bb d bi H
 have E:=((lr w).lo T).lo d
 have I:=nE (g:=b) (B.lo T)
 have J:=nE (g:=b) (C.lo T)
 refine Q (r_as (v:=str ([]:List UInt8)) G)<|Qn (Ws (Ws ?_))
 have i:=(B.lo T).lo d
 have j:=(C.lo T).lo d
 refine Wr (Q (mS G)<|Qn (Wl (Ws (Wr (Q (r_eqs (s:=s) (r:=([97,116]:List UInt8)) G G)<|Q (aB G)<|Qn (Wd G (fun L=>?_) (fun L=>?_)))))))
 ·refine Ws (Wr (Q (fA fa37_0 G)<|Q (r_lda (l:=(cLb Ac1 nc1 cc1 Ac2 nc2 cc2 c.Library)) agg34 G (fun _ _ hu=>(A.lo d).cells (vs:=(cLb Ac1 nc1 cc1 Ac2 nc2 cc2 c.Library)) G hu) G)<|Q (mI G)<|Qc ent140 (c_spec_MapsAt U c.Library (i.rd) (j.rd) n oB) G ?_))
  rintro e al ⟨bB,bI,bC,rfl,M,k⟩
  refine ⟨_,G,?_⟩
  have bl:=k.size
  have bc:=M.len
  have be:=M.rd.bound
  have bf:=(selif_len _ _ _ _:(if LibOK c.Library∧(1≤n∧n≤999) then selL (atR n) Away.Map c.Library.Away else []).length≤c.Library.Away.length)
  have bg:IntsIn (if LibOK c.Library∧(1≤n∧n≤999) then selL (atR n) Away.Map c.Library.Away else []):=ints_at c.Library n
  refine Q (mT G)<|Q (xL G G)<|Q (xB G G)<|Q (aL G)<|Q (aB G)<|Qn (Ws (WA (Kp (fun b_=>b_=b) al) (fun f' w'=>At f' [(3,pt g1),(6,pt b),(7,str (if (decide (LibOK c.Library∧(1≤n∧n≤999)))=true then listN (if LibOK c.Library∧(1≤n∧n≤999) then selL (atR n) Away.Map c.Library.Away else []) else [63]))]∧(Kp (fun b_=>b_=b) al w')∧(Blk w' b 37 (cCn Ac1 nc1 cc1 Ac2 nc2 cc2 c))∧((listN (if LibOK c.Library∧(1≤n∧n≤999) then selL (atR n) Away.Map c.Library.Away else [])).length≤22*(if LibOK c.Library∧(1≤n∧n≤999) then selL (atR n) Away.Map c.Library.Away else []).length+4)) mo ?_ ?_))
  ·intro aZ h
   have bm:=h.size
   refine Ak 0 G (kr h) (fun w' hw'=>lG agg37 G (((A.lo d).lo k).kn hw' oB) G)<|Ak 1 G (kr h) (fun w' hw'=>mL G)<|Ak 2 G (kr h) (fun w' hw'=>mB G)<|Ab 3 G (Qv ent139 (c_spec_l34List aZ (if LibOK c.Library∧(1≤n∧n≤999) then selL (atR n) Away.Map c.Library.Away else []) ((M.lo h).rd) (decide (LibOK c.Library∧(1≤n∧n≤999))) oB oI) G fun bJ Z bn=>?_)
   have Y:=((kr h:Kp (fun b_=>b_=b) al _)).lo Z
   have aq:(listN (if LibOK c.Library∧(1≤n∧n≤999) then selL (atR n) Away.Map c.Library.Away else [])).length≤22*(if LibOK c.Library∧(1≤n∧n≤999) then selL (atR n) Away.Map c.Library.Away else []).length+4:=listN_len (if LibOK c.Library∧(1≤n∧n≤999) then selL (atR n) Away.Map c.Library.Away else []) oI oB
   refine Qn ⟨Y,_,G,(Ab 4 G (Qw (o:=0) (vs:=(cCn Ac1 nc1 cc1 Ac2 nc2 cc2 c)) agg37.2 G G G G (((H.lo k).lo h).lo Z) ler G ?_))⟩
   intro bK ao bj an
   have P:=Y.step ao (fun _ _ e=>e)
   refine Qn ⟨P,_,G,(Ak 5 G P (fun w' hw'=>aS G)<|Ad oC (⟨(At.r G),P,an,aq⟩))⟩
  rintro bD bL ⟨aa,F,ap,bh⟩
  rw [← sA aa]
  have bo:=F.size
  refine We (retCT G G agg37 ap G (v:=str _) G ?_)
  refine ⟨Ac1,nc1,cc1,Ac2,nc2,cc2,eR (eT2 (e8 ?_ ?_ ?_ ?_ ?_ ?_) (eS ?_)),(oq ((i.lo k).kd F I) ?_),(oq ((j.lo k).kd F J) ?_),hdc_Library_Maps_c2,(fun b_ h_=>.inl (.inl h_)),(fun b_ h_=>.inl (.inr h_)),((E.lo k).new F oB)⟩ <;> (subst t u; unfold spec_l34One; rw [if_pos L] <;> rfl)
 ·refine Ws (Wr (Q (r_eqs (s:=s) (r:=([114,101,97,100,101,114,115]:List UInt8)) G G)<|Q (aB G)<|Qn (Wd G (fun V=>?_) (fun V=>?_))))
  ·refine Ws (Wr (Q (fA fa37_0 G)<|Q (r_lda (l:=(cLb Ac1 nc1 cc1 Ac2 nc2 cc2 c.Library)) agg34 G (fun _ _ hu=>(A.lo d).cells (vs:=(cLb Ac1 nc1 cc1 Ac2 nc2 cc2 c.Library)) G hu) G)<|Q (mI G)<|Qc ent141 (c_spec_ReadersOf U c.Library (i.rd) (j.rd) n) G ?_))
   rintro e am ⟨a6,bp,a7,rfl,x,m⟩
   refine ⟨_,G,?_⟩
   have aR:=m.size
   have aG:=x.len
   have aH:=x.rd.bound
   have aJ:=(selif_len _ _ _ _:(if LibOK c.Library∧0≤idxF (hasId n) c.Library.Maps then selL (ofM n) Away.Reader c.Library.Away else []).length≤c.Library.Away.length)
   have aK:IntsIn (if LibOK c.Library∧0≤idxF (hasId n) c.Library.Maps then selL (ofM n) Away.Reader c.Library.Away else []):=ints_rd c.Library n
   refine Q (mT G)<|Q (xL G G)<|Q (xB G G)<|Q (aL G)<|Q (aB G)<|Qn (Ws (WA (Kp (fun b_=>b_=b) am) (fun f' w'=>At f' [(3,pt g1),(6,pt b),(7,str (if (decide (LibOK c.Library∧0≤idxF (hasId n) c.Library.Maps))=true then listN (if LibOK c.Library∧0≤idxF (hasId n) c.Library.Maps then selL (ofM n) Away.Reader c.Library.Away else []) else [63]))]∧(Kp (fun b_=>b_=b) am w')∧(Blk w' b 37 (cCn Ac1 nc1 cc1 Ac2 nc2 cc2 c))∧((listN (if LibOK c.Library∧0≤idxF (hasId n) c.Library.Maps then selL (ofM n) Away.Reader c.Library.Away else [])).length≤22*(if LibOK c.Library∧0≤idxF (hasId n) c.Library.Maps then selL (ofM n) Away.Reader c.Library.Away else []).length+4)) mo ?_ ?_))
   ·intro ar f
    have aT:=f.size
    refine Ak 0 G (kr f) (fun w' hw'=>lG agg37 G (((A.lo d).lo m).kn hw' oB) G)<|Ak 1 G (kr f) (fun w' hw'=>mL G)<|Ak 2 G (kr f) (fun w' hw'=>mB G)<|Ab 3 G (Qv ent139 (c_spec_l34List ar (if LibOK c.Library∧0≤idxF (hasId n) c.Library.Maps then selL (ofM n) Away.Reader c.Library.Away else []) ((x.lo f).rd) (decide (LibOK c.Library∧0≤idxF (hasId n) c.Library.Maps)) oB oI) G fun bq R aU=>?_)
    have N:=((kr f:Kp (fun b_=>b_=b) am _)).lo R
    have ak:(listN (if LibOK c.Library∧0≤idxF (hasId n) c.Library.Maps then selL (ofM n) Away.Reader c.Library.Away else [])).length≤22*(if LibOK c.Library∧0≤idxF (hasId n) c.Library.Maps then selL (ofM n) Away.Reader c.Library.Away else []).length+4:=listN_len (if LibOK c.Library∧0≤idxF (hasId n) c.Library.Maps then selL (ofM n) Away.Reader c.Library.Away else []) oI oB
    refine Qn ⟨N,_,G,(Ab 4 G (Qw (o:=0) (vs:=(cCn Ac1 nc1 cc1 Ac2 nc2 cc2 c)) agg37.2 G G G G (((H.lo m).lo f).lo R) ler G ?_))⟩
    intro bs ag aN ab
    have y:=N.step ag (fun _ _ e=>e)
    refine Qn ⟨y,_,G,(Ak 5 G y (fun w' hw'=>aS G)<|Ad oC (⟨(At.r G),y,ab,ak⟩))⟩
   rintro a8 bt ⟨W,p,ai,aM⟩
   rw [← sA W]
   have aV:=p.size
   refine We (retCT G G agg37 ai G (v:=str _) G ?_)
   refine ⟨Ac1,nc1,cc1,Ac2,nc2,cc2,eR (eT2 (e8 ?_ ?_ ?_ ?_ ?_ ?_) (eS ?_)),(oq ((i.lo m).kd p I) ?_),(oq ((j.lo m).kd p J) ?_),hdc_Library_Maps_c2,(fun b_ h_=>.inl (.inl h_)),(fun b_ h_=>.inl (.inr h_)),((E.lo m).new p oB)⟩ <;> (subst t u; unfold spec_l34One; rw [if_neg L,if_pos V] <;> rfl)
  ·refine Ws (Wr (Q (r_eqs (s:=s) (r:=([116,101,120,116]:List UInt8)) G G)<|Q (aB G)<|Qn (Wd G (fun K=>?_) (fun K=>?_))))
   ·refine Ws (WA (Kp (fun b_=>b_=b) U) (fun f' w'=>At f' [(3,pt g1),(6,pt b),(7,str (spec_l34Map c.Library n))]∧(Kp (fun b_=>b_=b) U w')∧(Blk w' b 37 (cCn Ac1 nc1 cc1 Ac2 nc2 cc2 c))) mo ?_ ?_)
    ·intro au a
     have aW:=a.size
     refine Ak 0 G (kr a) (fun w' hw'=>lG agg37 G ((A.lo d).kn hw' oB) G)<|Ak 1 G (kr a) (fun w' hw'=>fA fa37_0 G)<|Ak 2 G (kr a) (fun w' hw'=>r_lda (l:=(cLb Ac1 nc1 cc1 Ac2 nc2 cc2 c.Library)) agg34 G (fun _ _ hu=>((A.lo d).kn hw' oB).cells (vs:=(cLb Ac1 nc1 cc1 Ac2 nc2 cc2 c.Library)) G hu) G)<|Ak 3 G (kr a) (fun w' hw'=>mI G)<|Ab 4 G (Qv ent142 (c_spec_l34Map au c.Library ((i.lo a).rd) ((j.lo a).rd) n) G fun bu S aX=>?_)
     have O:=((kr a:Kp (fun b_=>b_=b) U _)).lo S
     refine Qn ⟨O,_,G,(Ab 5 G (Qw (o:=0) (vs:=(cCn Ac1 nc1 cc1 Ac2 nc2 cc2 c)) agg37.2 G G G G ((H.lo a).lo S) ler G ?_))⟩
     intro bw ah aO ac
     have z:=O.step ah (fun _ _ e=>e)
     refine Qn ⟨z,_,G,(Ak 6 G z (fun w' hw'=>aS G)<|Ad oC (⟨(At.r G),z,ac⟩))⟩
    rintro ba bz ⟨X,q,aj⟩
    rw [← sA X]
    have aY:=q.size
    refine We (retCT G G agg37 aj G (v:=str _) G ?_)
    refine ⟨Ac1,nc1,cc1,Ac2,nc2,cc2,eR (eT2 (e8 ?_ ?_ ?_ ?_ ?_ ?_) (eS ?_)),(oq (i.kd q I) ?_),(oq (j.kd q J) ?_),hdc_Library_Maps_c2,(fun b_ h_=>.inl (.inl h_)),(fun b_ h_=>.inl (.inr h_)),(E.new q oB)⟩ <;> (subst t u; unfold spec_l34One; rw [if_neg L,if_neg V,if_pos K] <;> rfl)
   ·refine Wk (Ws (Wr (Q (lG agg37 G (A.lo d) G)<|Qw (o:=0) (vs:=(cCn Ac1 nc1 cc1 Ac2 nc2 cc2 c)) agg37.2 G G G G H ler G ?_)))
    intro bA D aQ ae
    refine Q (r_as (v:=str ([63]:List UInt8)) G)<|Qn (We (retCT G G agg37 ae G (v:=str _) G ?_))
    refine ⟨Ac1,nc1,cc1,Ac2,nc2,cc2,eR (eT2 (e8 ?_ ?_ ?_ ?_ ?_ ?_) (eS ?_)),(oq (i.kd D I) ?_),(oq (j.kd D J) ?_),hdc_Library_Maps_c2,(fun b_ h_=>.inl (.inl h_)),(fun b_ h_=>.inl (.inr h_)),(E.new D)⟩ <;> (subst t u; unfold spec_l34One; rw [if_neg L,if_neg V,if_neg K] <;> rfl)
open Classical in
noncomputable def spec_l34Two (c:Console) (s:List UInt8) (n:Int) (v:Int):Console × List UInt8 :=
 if s=([98,117,121]:List UInt8) then (((spec_l34Make c (⟨1,n,0,v⟩:LibraryStep)).1),(spec_l34Make c (⟨1,n,0,v⟩:LibraryStep)).2) else if s=([108,101,110,100]:List UInt8) then (((spec_l34Make c (⟨2,n,v,0⟩:LibraryStep)).1),(spec_l34Make c (⟨2,n,v,0⟩:LibraryStep)).2) else if s=([109,101,110,100]:List UInt8) then (((spec_l34Make c (⟨4,n,0,v⟩:LibraryStep)).1),(spec_l34Make c (⟨4,n,0,v⟩:LibraryStep)).2) else if s=([100,114,111,112]:List UInt8) then (((spec_l34Make c (⟨6,n,0,v⟩:LibraryStep)).1),(spec_l34Make c (⟨6,n,0,v⟩:LibraryStep)).2) else if s=([119,101,97,114]:List UInt8) then (((spec_l34Make c (⟨7,n,0,v⟩:LibraryStep)).1),(spec_l34Make c (⟨7,n,0,v⟩:LibraryStep)).2) else (c,([63]:List UInt8))
theorem c_spec_l34Two (w:World) (c:Console) (y:SlO w Bc1 encLMap 3 102 Ac1 nc1 cc1 c.Library.Maps) (z:SlO w Bc2 encAway 2 129 Ac2 nc2 cc2 c.Library.Away) (s:List UInt8) (n:Int) (v:Int) (hdc_Library_Maps_c2:Dj Ac1 Ac2) (cq:(nc1:Int)≤8) (cr:(nc2:Int)≤8):Calls Tryz.prog 86 #[.agg (List.toArray (cCn Ac1 nc1 cc1 Ac2 nc2 cc2 c)),str s,i6 n,i6 v] w fun e w'=>∃ A1' n1' c1' A2' n2' c2',e=.returned (.tuple (List.toArray [.agg (List.toArray (cCn A1' n1' c1' A2' n2' c2' ((spec_l34Two c s n v).1))),str ((spec_l34Two c s n v).2)]))∧SlO w' Bc1 encLMap 3 102 A1' n1' c1' (((spec_l34Two c s n v).1).Library.Maps)∧SlO w' Bc2 encAway 2 129 A2' n2' c2' (((spec_l34Two c s n v).1).Library.Away)∧Dj A1' A2'∧(Og A1' Ac1 Ac2 w)∧(Og A2' Ac1 Ac2 w)∧Lo w w':=by
 refine cW 57 Tryz.func86 G G G ?_
 have bO:=y.rd.cap
 have bK:=y.rd.bd
 have bM:=y.rd.bound
 have bb:=y.len
 have bI:=y.bd
 have bP:=z.rd.cap
 have bL:=z.rd.bd
 have bN:=z.rd.bound
 have bc:=z.len
 have bJ:=z.bd
 refine Ws (Wr (bx G ?_))
 intro g1 w2 cp ac ct J
 refine Qa (l:=zCn) tz37 G ?_
 intro b aj b6 i cd a
 have j:=((lr w).lo ac).lo i
 have d:=nE (g:=b) (y.lo ac)
 have f:=nE (g:=b) (z.lo ac)
 refine Q (r_as (v:=str ([]:List UInt8)) G)<|Qn (Ws (Ws ?_))
 have k:=(y.lo ac).lo i
 have m:=(z.lo ac).lo i
 refine Wr (Q (mS G)<|Qn (Wl (Ws (Wr (Q (r_eqs (s:=s) (r:=([98,117,121]:List UInt8)) G G)<|Q (aB G)<|Qn (Wd G (fun p=>?_) (fun p=>?_)))))))
 ·refine Ws (Wr (Q (lG agg37 G (J.lo i) G)<|Q (mI G)<|Q (mI G)<|Q (r_build (vs:=[(0,i6 1),(1,i6 n),(3,i6 v)]) G (bld106_0_1_3 _ _ _))<|Qc ent87 (c_spec_l34Make aj c k m (⟨1,n,0,v⟩:LibraryStep) hdc_Library_Maps_c2 oB oB) G ?_))
  rintro e cu ⟨aC,bC,be,aD,bD,bf,rfl,V,W,bn,ao,ap,ab⟩
  refine ⟨_,G,?_⟩
  have cg:=ab.size
  have bo:¬aC=some ⟨b,0,none⟩:=fun e'=>(ao b e').elim (fun h=>h.elim (fun h=>d h) (fun h=>f h)) (fun h=>by have:=a.lt; omega)
  have bp:¬aD=some ⟨b,0,none⟩:=fun e'=>(ap b e').elim (fun h=>h.elim (fun h=>d h) (fun h=>f h)) (fun h=>by have:=a.lt; omega)
  have bw:=V.len
  have b7:=V.rd.bound
  have bz:=W.len
  have b8:=W.rd.bound
  refine Q (xG G G)<|Q (xS G G)<|Qw (o:=0) (vs:=(cCn aC bC be aD bD bf ((spec_l34Make c (⟨1,n,0,v⟩:LibraryStep)).1))) agg37.2 G G G G (a.lo ab) ler G ?_
  intro cw ae ce bl
  refine Q (aS G)<|Qn (We (retCT G G agg37 bl G (v:=str _) G ?_))
  refine ⟨aC,bC,be,aD,bD,bf,eR (eT2 (e8 ?_ ?_ ?_ ?_ ?_ ?_) (eS ?_)),(oq (V.kd ae bo) ?_),(oq (W.kd ae bp) ?_),bn,(fun b_ h_=>(ao b_ h_).elim (fun h=>h.elim (fun h=>((show Og Ac1 Ac1 Ac2 w from (fun b_ h_=>.inl (.inl h_))) b_ h)) (fun h=>((show Og Ac2 Ac1 Ac2 w from (fun b_ h_=>.inl (.inr h_))) b_ h))) (fun h=>.inr oB)),(fun b_ h_=>(ap b_ h_).elim (fun h=>h.elim (fun h=>((show Og Ac1 Ac1 Ac2 w from (fun b_ h_=>.inl (.inl h_))) b_ h)) (fun h=>((show Og Ac2 Ac1 Ac2 w from (fun b_ h_=>.inl (.inr h_))) b_ h))) (fun h=>.inr oB)),((j.lo ab).new ae)⟩ <;> (subst bw bz; unfold spec_l34Two; rw [if_pos p] <;> rfl)
 ·refine Ws (Wr (Q (r_eqs (s:=s) (r:=([108,101,110,100]:List UInt8)) G G)<|Q (aB G)<|Qn (Wd G (fun I=>?_) (fun I=>?_))))
  ·refine Ws (Wr (Q (lG agg37 G (J.lo i) G)<|Q (mI G)<|Q (mI G)<|Q (r_build (vs:=[(0,i6 2),(1,i6 n),(2,i6 v)]) G (bld106_0_1_2 _ _ _))<|Qc ent87 (c_spec_l34Make aj c k m (⟨2,n,v,0⟩:LibraryStep) hdc_Library_Maps_c2 oB oB) G ?_))
   rintro e cx ⟨aE,bE,bg,aF,bF,bh,rfl,X,Y,bq,aq,ar,ag⟩
   refine ⟨_,G,?_⟩
   have ch:=ag.size
   have bs:¬aE=some ⟨b,0,none⟩:=fun e'=>(aq b e').elim (fun h=>h.elim (fun h=>d h) (fun h=>f h)) (fun h=>by have:=a.lt; omega)
   have bt:¬aF=some ⟨b,0,none⟩:=fun e'=>(ar b e').elim (fun h=>h.elim (fun h=>d h) (fun h=>f h)) (fun h=>by have:=a.lt; omega)
   have bA:=X.len
   have b9:=X.rd.bound
   have bB:=Y.len
   have ca:=Y.rd.bound
   refine Q (xG G G)<|Q (xS G G)<|Qw (o:=0) (vs:=(cCn aE bE bg aF bF bh ((spec_l34Make c (⟨2,n,v,0⟩:LibraryStep)).1))) agg37.2 G G G G (a.lo ag) ler G ?_
   intro cy ah cf bm
   refine Q (aS G)<|Qn (We (retCT G G agg37 bm G (v:=str _) G ?_))
   refine ⟨aE,bE,bg,aF,bF,bh,eR (eT2 (e8 ?_ ?_ ?_ ?_ ?_ ?_) (eS ?_)),(oq (X.kd ah bs) ?_),(oq (Y.kd ah bt) ?_),bq,(fun b_ h_=>(aq b_ h_).elim (fun h=>h.elim (fun h=>((show Og Ac1 Ac1 Ac2 w from (fun b_ h_=>.inl (.inl h_))) b_ h)) (fun h=>((show Og Ac2 Ac1 Ac2 w from (fun b_ h_=>.inl (.inr h_))) b_ h))) (fun h=>.inr oB)),(fun b_ h_=>(ar b_ h_).elim (fun h=>h.elim (fun h=>((show Og Ac1 Ac1 Ac2 w from (fun b_ h_=>.inl (.inl h_))) b_ h)) (fun h=>((show Og Ac2 Ac1 Ac2 w from (fun b_ h_=>.inl (.inr h_))) b_ h))) (fun h=>.inr oB)),((j.lo ag).new ah)⟩ <;> (subst bA bB; unfold spec_l34Two; rw [if_neg p,if_pos I] <;> rfl)
  ·refine Ws (Wr (Q (r_eqs (s:=s) (r:=([109,101,110,100]:List UInt8)) G G)<|Q (aB G)<|Qn (Wd G (fun P=>?_) (fun P=>?_))))
   ·refine Ws (Wr (Q (lG agg37 G (J.lo i) G)<|Q (mI G)<|Q (mI G)<|Q (r_build (vs:=[(0,i6 4),(1,i6 n),(3,i6 v)]) G (bld106_0_1_3 _ _ _))<|Qc ent87 (c_spec_l34Make aj c k m (⟨4,n,0,v⟩:LibraryStep) hdc_Library_Maps_c2 oB oB) G ?_))
    rintro e cz ⟨aG,bG,bi,aH,bH,bj,rfl,Z,aa,bu,au,aw,ai⟩
    refine ⟨_,G,?_⟩
    have ci:=ai.size
    have aO:¬aG=some ⟨b,0,none⟩:=fun e'=>(au b e').elim (fun h=>h.elim (fun h=>d h) (fun h=>f h)) (fun h=>by have:=a.lt; omega)
    have aQ:¬aH=some ⟨b,0,none⟩:=fun e'=>(aw b e').elim (fun h=>h.elim (fun h=>d h) (fun h=>f h)) (fun h=>by have:=a.lt; omega)
    have aY:=Z.len
    have bQ:=Z.rd.bound
    have aZ:=aa.len
    have bR:=aa.rd.bound
    refine Q (xG G G)<|Q (xS G G)<|Qw (o:=0) (vs:=(cCn aG bG bi aH bH bj ((spec_l34Make c (⟨4,n,0,v⟩:LibraryStep)).1))) agg37.2 G G G G (a.lo ai) ler G ?_
    intro cj A bW aJ
    refine Q (aS G)<|Qn (We (retCT G G agg37 aJ G (v:=str _) G ?_))
    refine ⟨aG,bG,bi,aH,bH,bj,eR (eT2 (e8 ?_ ?_ ?_ ?_ ?_ ?_) (eS ?_)),(oq (Z.kd A aO) ?_),(oq (aa.kd A aQ) ?_),bu,(fun b_ h_=>(au b_ h_).elim (fun h=>h.elim (fun h=>((show Og Ac1 Ac1 Ac2 w from (fun b_ h_=>.inl (.inl h_))) b_ h)) (fun h=>((show Og Ac2 Ac1 Ac2 w from (fun b_ h_=>.inl (.inr h_))) b_ h))) (fun h=>.inr oB)),(fun b_ h_=>(aw b_ h_).elim (fun h=>h.elim (fun h=>((show Og Ac1 Ac1 Ac2 w from (fun b_ h_=>.inl (.inl h_))) b_ h)) (fun h=>((show Og Ac2 Ac1 Ac2 w from (fun b_ h_=>.inl (.inr h_))) b_ h))) (fun h=>.inr oB)),((j.lo ai).new A)⟩ <;> (subst aY aZ; unfold spec_l34Two; rw [if_neg p,if_neg I,if_pos P] <;> rfl)
   ·refine Ws (Wr (Q (r_eqs (s:=s) (r:=([100,114,111,112]:List UInt8)) G G)<|Q (aB G)<|Qn (Wd G (fun H=>?_) (fun H=>?_))))
    ·refine Ws (Wr (Q (lG agg37 G (J.lo i) G)<|Q (mI G)<|Q (mI G)<|Q (r_build (vs:=[(0,i6 6),(1,i6 n),(3,i6 v)]) G (bld106_0_1_3 _ _ _))<|Qc ent87 (c_spec_l34Make aj c k m (⟨6,n,0,v⟩:LibraryStep) hdc_Library_Maps_c2 oB oB) G ?_))
     rintro e ck ⟨K,ax,ak,L,ay,al,rfl,q,t,aR,R,S,B⟩
     refine ⟨_,G,?_⟩
     have b4:=B.size
     have aT:¬K=some ⟨b,0,none⟩:=fun e'=>(R b e').elim (fun h=>h.elim (fun h=>d h) (fun h=>f h)) (fun h=>by have:=a.lt; omega)
     have aU:¬L=some ⟨b,0,none⟩:=fun e'=>(S b e').elim (fun h=>h.elim (fun h=>d h) (fun h=>f h)) (fun h=>by have:=a.lt; omega)
     have a6:=q.len
     have bS:=q.rd.bound
     have a7:=t.len
     have bT:=t.rd.bound
     refine Q (xG G G)<|Q (xS G G)<|Qw (o:=0) (vs:=(cCn K ax ak L ay al ((spec_l34Make c (⟨6,n,0,v⟩:LibraryStep)).1))) agg37.2 G G G G (a.lo B) ler G ?_
     intro cl C bX aK
     refine Q (aS G)<|Qn (We (retCT G G agg37 aK G (v:=str _) G ?_))
     refine ⟨K,ax,ak,L,ay,al,eR (eT2 (e8 ?_ ?_ ?_ ?_ ?_ ?_) (eS ?_)),(oq (q.kd C aT) ?_),(oq (t.kd C aU) ?_),aR,(fun b_ h_=>(R b_ h_).elim (fun h=>h.elim (fun h=>((show Og Ac1 Ac1 Ac2 w from (fun b_ h_=>.inl (.inl h_))) b_ h)) (fun h=>((show Og Ac2 Ac1 Ac2 w from (fun b_ h_=>.inl (.inr h_))) b_ h))) (fun h=>.inr oB)),(fun b_ h_=>(S b_ h_).elim (fun h=>h.elim (fun h=>((show Og Ac1 Ac1 Ac2 w from (fun b_ h_=>.inl (.inl h_))) b_ h)) (fun h=>((show Og Ac2 Ac1 Ac2 w from (fun b_ h_=>.inl (.inr h_))) b_ h))) (fun h=>.inr oB)),((j.lo B).new C)⟩ <;> (subst a6 a7; unfold spec_l34Two; rw [if_neg p,if_neg I,if_neg P,if_pos H] <;> rfl)
    ·refine Ws (Wr (Q (r_eqs (s:=s) (r:=([119,101,97,114]:List UInt8)) G G)<|Q (aB G)<|Qn (Wd G (fun O=>?_) (fun O=>?_))))
     ·refine Ws (Wr (Q (lG agg37 G (J.lo i) G)<|Q (mI G)<|Q (mI G)<|Q (r_build (vs:=[(0,i6 7),(1,i6 n),(3,i6 v)]) G (bld106_0_1_3 _ _ _))<|Qc ent87 (c_spec_l34Make aj c k m (⟨7,n,0,v⟩:LibraryStep) hdc_Library_Maps_c2 oB oB) G ?_))
      rintro e cm ⟨M,az,am,N,aA,an,rfl,u,x,aV,T,U,D⟩
      refine ⟨_,G,?_⟩
      have b5:=D.size
      have aW:¬M=some ⟨b,0,none⟩:=fun e'=>(T b e').elim (fun h=>h.elim (fun h=>d h) (fun h=>f h)) (fun h=>by have:=a.lt; omega)
      have aX:¬N=some ⟨b,0,none⟩:=fun e'=>(U b e').elim (fun h=>h.elim (fun h=>d h) (fun h=>f h)) (fun h=>by have:=a.lt; omega)
      have a8:=u.len
      have bU:=u.rd.bound
      have ba:=x.len
      have bV:=x.rd.bound
      refine Q (xG G G)<|Q (xS G G)<|Qw (o:=0) (vs:=(cCn M az am N aA an ((spec_l34Make c (⟨7,n,0,v⟩:LibraryStep)).1))) agg37.2 G G G G (a.lo D) ler G ?_
      intro cn E bY aM
      refine Q (aS G)<|Qn (We (retCT G G agg37 aM G (v:=str _) G ?_))
      refine ⟨M,az,am,N,aA,an,eR (eT2 (e8 ?_ ?_ ?_ ?_ ?_ ?_) (eS ?_)),(oq (u.kd E aW) ?_),(oq (x.kd E aX) ?_),aV,(fun b_ h_=>(T b_ h_).elim (fun h=>h.elim (fun h=>((show Og Ac1 Ac1 Ac2 w from (fun b_ h_=>.inl (.inl h_))) b_ h)) (fun h=>((show Og Ac2 Ac1 Ac2 w from (fun b_ h_=>.inl (.inr h_))) b_ h))) (fun h=>.inr oB)),(fun b_ h_=>(U b_ h_).elim (fun h=>h.elim (fun h=>((show Og Ac1 Ac1 Ac2 w from (fun b_ h_=>.inl (.inl h_))) b_ h)) (fun h=>((show Og Ac2 Ac1 Ac2 w from (fun b_ h_=>.inl (.inr h_))) b_ h))) (fun h=>.inr oB)),((j.lo D).new E)⟩ <;> (subst a8 ba; unfold spec_l34Two; rw [if_neg p,if_neg I,if_neg P,if_neg H,if_pos O] <;> rfl)
     ·refine Wk (Ws (Wr (Q (lG agg37 G (J.lo i) G)<|Qw (o:=0) (vs:=(cCn Ac1 nc1 cc1 Ac2 nc2 cc2 c)) agg37.2 G G G G a ler G ?_)))
      intro co F bZ aN
      refine Q (r_as (v:=str ([63]:List UInt8)) G)<|Qn (We (retCT G G agg37 aN G (v:=str _) G ?_))
      refine ⟨Ac1,nc1,cc1,Ac2,nc2,cc2,eR (eT2 (e8 ?_ ?_ ?_ ?_ ?_ ?_) (eS ?_)),(oq (k.kd F d) ?_),(oq (m.kd F f) ?_),hdc_Library_Maps_c2,(fun b_ h_=>.inl (.inl h_)),(fun b_ h_=>.inl (.inr h_)),(j.new F)⟩ <;> (subst bb bc; unfold spec_l34Two; rw [if_neg p,if_neg I,if_neg P,if_neg H,if_neg O] <;> rfl)
end Go.Proofs.YtndcchndcghmoaaGreatDoor
namespace Go.Proofs.YtndcchndcghmoaaGreatDoor
open Go Go.RowKit Fw
noncomputable def runS (c:Console) (s:List UInt8):Console × List UInt8 :=
  if AllNum ((splitB 32 s).drop 1) then
    if (numsW ((splitB 32 s).drop 1)).length=0 then (c,spec_l34Word c.Library s)
    else if (numsW ((splitB 32 s).drop 1)).length=1 then spec_l34One c (gt (splitB 32 s) 0) (gt (numsW ((splitB 32 s).drop 1)) 0)
    else if (numsW ((splitB 32 s).drop 1)).length=2 then spec_l34Two c (gt (splitB 32 s) 0) (gt (numsW ((splitB 32 s).drop 1)) 0) (gt (numsW ((splitB 32 s).drop 1)) 1)
    else if (numsW ((splitB 32 s).drop 1)).length=3 then
      if gt (splitB 32 s) 0=[98,97,99,107] then spec_l34Make c ⟨3,gt (numsW ((splitB 32 s).drop 1)) 0,gt (numsW ((splitB 32 s).drop 1)) 1,gt (numsW ((splitB 32 s).drop 1)) 2⟩
      else if gt (splitB 32 s) 0=[104,97,110,100] then spec_l34Make c ⟨5,gt (numsW ((splitB 32 s).drop 1)) 0,gt (numsW ((splitB 32 s).drop 1)) 1,gt (numsW ((splitB 32 s).drop 1)) 2⟩
      else (c,[63])
    else (c,[63])
  else (c,[63])
noncomputable def repN (x:Library) (s:List UInt8):Library × List UInt8 × Bool :=
  if AllNum ((splitB 32 s).drop 1) then
    if (impl_stepFor (gt (splitB 32 s) 0) (numsW ((splitB 32 s).drop 1))).2=true then
      if (impl_Library_stepped x (impl_stepFor (gt (splitB 32 s) 0) (numsW ((splitB 32 s).drop 1))).1).2=true then
        ((impl_Library_stepped x (impl_stepFor (gt (splitB 32 s) 0) (numsW ((splitB 32 s).drop 1))).1).1,mapT (impl_Library_stepped x (impl_stepFor (gt (splitB 32 s) 0) (numsW ((splitB 32 s).drop 1))).1).1 (impl_stepFor (gt (splitB 32 s) 0) (numsW ((splitB 32 s).drop 1))).1.Id)
      else (x,[],false)
    else (x,impl_tell x (gt (splitB 32 s) 0) (numsW ((splitB 32 s).drop 1)))
  else (x,[],false)
noncomputable def ansN (x:Library) (s:List UInt8):List UInt8:=if (repN x s).2.2=true then (if 200<(repN x s).2.1.length then [108,111,110,103] else (repN x s).2.1) else [63]
noncomputable def libN (x:Library) (s:List UInt8):Library:=if (repN x s).2.2=true then (repN x s).1 else x
noncomputable def execN (c:Console) (s:List UInt8):Console × List UInt8 :=
  if ¬ConOK c then (c,[110,111])
  else if ¬RecOK ⟨s,[]⟩ then (c,[98,97,100])
  else if c.Log.Count=60 then (c,[102,117,108,108])
  else (⟨libN c.Library s,(appN c.Log ⟨s,ansN c.Library s⟩).1⟩,ansN c.Library s)
section
variable {x : Library} {s y : List UInt8} {k : Nat}
theorem notD {D:List (List UInt8)} (hx:D[k]?=some y) (hb:(!(readN y).2)=true):¬AllNum D:=fun h=>by
  rw [h y (List.mem_of_getElem? hx)] at hb; cases hb
theorem rep_bad (hx:((splitB 32 s).drop 1)[k]?=some y) (hb:(!(readN y).2)=true):repN x s=(x,[],false):=if_neg (notD hx hb)
theorem rep_no (hk:((splitB 32 s).drop 1).length≤k) (hA:AllNum (((splitB 32 s).drop 1).take k)) (h:(impl_stepFor (gt (splitB 32 s) 0) (numsW (((splitB 32 s).drop 1).take k))).2=true)
    (h2:(!(impl_Library_stepped x (impl_stepFor (gt (splitB 32 s) 0) (numsW (((splitB 32 s).drop 1).take k))).1).2)=true):repN x s=(x,[],false):=by
  rw [List.take_of_length_le hk] at *
  unfold repN; rw [if_pos hA,if_pos h,if_neg (by simpa using h2)]
theorem rep_yes (hk:((splitB 32 s).drop 1).length≤k) (hA:AllNum (((splitB 32 s).drop 1).take k)) (h:(impl_stepFor (gt (splitB 32 s) 0) (numsW (((splitB 32 s).drop 1).take k))).2=true)
    (h2:(!(impl_Library_stepped x (impl_stepFor (gt (splitB 32 s) 0) (numsW (((splitB 32 s).drop 1).take k))).1).2)=false):repN x s=((impl_Library_stepped x (impl_stepFor (gt (splitB 32 s) 0) (numsW (((splitB 32 s).drop 1).take k))).1).1,mapT (impl_Library_stepped x (impl_stepFor (gt (splitB 32 s) 0) (numsW (((splitB 32 s).drop 1).take k))).1).1 (impl_stepFor (gt (splitB 32 s) 0) (numsW (((splitB 32 s).drop 1).take k))).1.Id):=by
  rw [List.take_of_length_le hk] at *
  unfold repN; rw [if_pos hA,if_pos h,if_pos (by simpa using h2)]
theorem rep_tell (hk:((splitB 32 s).drop 1).length≤k) (hA:AllNum (((splitB 32 s).drop 1).take k)) (h:(impl_stepFor (gt (splitB 32 s) 0) (numsW (((splitB 32 s).drop 1).take k))).2=false) :
    repN x s=(x,impl_tell x (gt (splitB 32 s) 0) (numsW (((splitB 32 s).drop 1).take k))):=by
  rw [List.take_of_length_le hk] at *
  unfold repN; rw [if_pos hA,if_neg (by rw [h]; simp)]
end
section
variable {c : Console} {s y : List UInt8} {k : Nat}
theorem splitB_max (c:UInt8):∀ s:List UInt8,(splitB c s).length≤s.length+1
  | []=>by simp [splitB]
  | b :: r=>by
    have h:=splitB_max c r
    unfold splitB
    split
    · simp; omega
    · simp; omega
theorem nm_one (s:List UInt8):[]=nmW s 1:=by
  unfold nmW; cases splitB 32 s <;> rfl
theorem nm_all (hk:(splitB 32 s).length≤k):nmW s k=numsW ((splitB 32 s).drop 1):=by unfold nmW; rw [List.take_of_length_le hk]
theorem not_all (h1:1≤k) (hx:(splitB 32 s)[k]?=some y) (hb:(readN y).2=false):¬AllNum ((splitB 32 s).drop 1):=fun h=>by
  have:y∈(splitB 32 s).drop 1:=by
    refine List.mem_of_getElem? (i:=k-1) ?_
    rw [List.getElem?_drop,show 1+(k-1)=k by omega]; exact hx
  rw [h y this] at hb; cases hb
theorem run_bad (h1:1≤k) (hx:(splitB 32 s)[k]?=some y) (hb:(!(readN y).2)=true):runS c s=(c,[63]):=if_neg (not_all h1 hx (by simpa using hb))
theorem all_of (hk:(splitB 32 s).length≤k) (hA:AllNum (((splitB 32 s).take k).drop 1)):AllNum ((splitB 32 s).drop 1):=by rwa [List.take_of_length_le hk] at hA
theorem run_0 (hk:(splitB 32 s).length≤k) (hA:AllNum (((splitB 32 s).take k).drop 1)) (hn:(nmW s k).length=0):runS c s=(c,spec_l34Word c.Library s):=by
  unfold runS; rw [if_pos (all_of hk hA),← nm_all hk,if_pos hn]
theorem run_1 (hk:(splitB 32 s).length≤k) (hA:AllNum (((splitB 32 s).take k).drop 1)) (hn:(nmW s k).length=1):runS c s=spec_l34One c (gt (splitB 32 s) 0) (gt (nmW s k) 0):=by
  unfold runS; rw [if_pos (all_of hk hA),← nm_all hk,if_neg oB,if_pos hn]
theorem run_2 (hk:(splitB 32 s).length≤k) (hA:AllNum (((splitB 32 s).take k).drop 1)) (hn:(nmW s k).length=2):runS c s=spec_l34Two c (gt (splitB 32 s) 0) (gt (nmW s k) 0) (gt (nmW s k) 1):=by
  unfold runS; rw [if_pos (all_of hk hA),← nm_all hk,if_neg oB,if_neg oB,if_pos hn]
theorem run_3 (hk:(splitB 32 s).length≤k) (hA:AllNum (((splitB 32 s).take k).drop 1)) (hn:(nmW s k).length=3) (hw:gt (splitB 32 s) 0=[98,97,99,107]):runS c s=spec_l34Make c ⟨3,gt (nmW s k) 0,gt (nmW s k) 1,gt (nmW s k) 2⟩:=by
  unfold runS; rw [if_pos (all_of hk hA),← nm_all hk,if_neg oB,if_neg oB,if_neg oB,if_pos hn,if_pos hw]
theorem run_3h (hk:(splitB 32 s).length≤k) (hA:AllNum (((splitB 32 s).take k).drop 1)) (hn:(nmW s k).length=3) (h1:¬gt (splitB 32 s) 0=[98,97,99,107]) (hw:gt (splitB 32 s) 0=[104,97,110,100]):runS c s=spec_l34Make c ⟨5,gt (nmW s k) 0,gt (nmW s k) 1,gt (nmW s k) 2⟩:=by
  unfold runS; rw [if_pos (all_of hk hA),← nm_all hk,if_neg oB,if_neg oB,if_neg oB,if_pos hn,if_neg h1,if_pos hw]
theorem run_3n (hk:(splitB 32 s).length≤k) (hA:AllNum (((splitB 32 s).take k).drop 1)) (hn:(nmW s k).length=3) (h1:¬gt (splitB 32 s) 0=[98,97,99,107]) (hw:¬gt (splitB 32 s) 0=[104,97,110,100]):runS c s=(c,[63]):=by
  unfold runS; rw [if_pos (all_of hk hA),← nm_all hk,if_neg oB,if_neg oB,if_neg oB,if_pos hn,if_neg h1,if_neg hw]
theorem run_n (hk:(splitB 32 s).length≤k) (hA:AllNum (((splitB 32 s).take k).drop 1)) (hn:(nmW s k).length≠0∧(nmW s k).length≠1∧(nmW s k).length≠2∧(nmW s k).length≠3):runS c s=(c,[63]):=by
  unfold runS; rw [if_pos (all_of hk hA),← nm_all hk,if_neg oB,if_neg oB,if_neg oB,if_neg oB]
end
end Go.Proofs.YtndcchndcghmoaaGreatDoor
namespace Go.Proofs.YtndcchndcghmoaaGreatDoor
open Go Go.RowKit Fw
section
variable {x : Library} {c : Console} {s w : List UInt8} {t : LibraryStep} {n : List Int} {m : LMap} {M : List LMap} {id : Int}
theorem set_has (h:0≤idxF (hasId id) M) (hm:m.Id=(gt M (idxF (hasId id) M).toNat).Id):0≤idxF (hasId id) (M.set (idxF (hasId id) M).toNat m):=by
  have hlt:=(idx_lt (p:=hasId id) (L:=M)).1
  have hi:(gt M (idxF (hasId id) M).toNat).Id=id:=map_at_id (x:=⟨M,[],0,0,0⟩) h
  exact ex_idx.1 ⟨m,List.mem_iff_getElem?.2 ⟨(idxF (hasId id) M).toNat,by rw [List.getElem?_set_self oB]⟩,hm.trans hi⟩
theorem make_has (hx:LibOK x) (hs:spec_l32Step x t=true):0≤idxF (hasId t.Id) (spec_l32Make x t).1.Maps:=by
  have hr:=stepL_rng hs
  unfold spec_l32Make
  by_cases h1:t.Kind=1
  · rw [if_pos h1]
    by_cases h:0≤idxF (hasId t.Id) x.Maps
    · rw [bought_yes h]; exact set_has h rfl
    · rw [bought_no h]; exact ex_idx.1 ⟨⟨t.Id,t.Value,0⟩,by simp,rfl⟩
  have hi:=hr.2.1 h1
  rw [if_neg h1]
  split
  · exact set_has hi rfl
  split
  · exact set_has hi rfl
  split
  · exact set_has hi rfl
  show 0≤idxF (hasId t.Id) (spec_l32Readers x t (idxF (hasId t.Id) x.Maps)).1.Maps
  unfold spec_l32Readers
  split
  · exact set_has hi rfl
  split
  · exact hi
  split
  · exact hi
  · exact set_has hi rfl
theorem stepped_has (hx:LibOK x) (hv:t.Value≤9223372036854775807) (h:(impl_Library_stepped x t).2=true):0≤idxF (hasId t.Id) (impl_Library_stepped x t).1.Maps:=by
  by_cases hs:spec_l32Step x t=true
  · rw [stepped_yesL hx hs hv] at h ⊢
    split at h
    · rw [if_pos ‹_›]; exact make_has hx hs
    · cases h
  · rw [stepped_noL hx hs] at h; cases h
theorem text_ok (hx:LibOK x) (hv:t.Value≤9223372036854775807) (h:(impl_Library_stepped x t).2=true):(mapT (impl_Library_stepped x t).1 t.Id).2=true:=by
  rw [mapT_yes ⟨stepped_okL h,stepped_has hx hv h⟩]
theorem make_rep (hx:LibOK c.Library) (hv:t.Value≤9223372036854775807):spec_l34Make c t=if (impl_Library_stepped c.Library t).2=true then (⟨(impl_Library_stepped c.Library t).1,c.Log⟩,(mapT (impl_Library_stepped c.Library t).1 t.Id).1) else (c,[63]):=by
  unfold spec_l34Make
  rw [step_eqL hv]
  unfold impl_StepLibrary
  rw [if_pos hx]
  by_cases h:(impl_Library_stepped c.Library t).2=true
  · rw [if_pos h,if_neg (by simpa using h)]
    unfold spec_l34Map
    rw [if_neg (by rw [text_ok hx hv h]; simp)]
  · rw [if_neg h,if_pos (by simpa using h)]
def ofR (x:Library) (r:Library × List UInt8 × Bool):Library × List UInt8:=if r.2.2=true then (r.1,r.2.1) else (x,[63])
noncomputable def repW (x:Library) (w:List UInt8) (n:List Int):Library × List UInt8 × Bool :=
  if (impl_stepFor w n).2=true then
    if (impl_Library_stepped x (impl_stepFor w n).1).2=true then ((impl_Library_stepped x (impl_stepFor w n).1).1,mapT (impl_Library_stepped x (impl_stepFor w n).1).1 (impl_stepFor w n).1.Id) else (x,[],false)
  else (x,impl_tell x w n)
theorem repN_all (hA:AllNum ((splitB 32 s).drop 1)):repN x s=repW x (gt (splitB 32 s) 0) (numsW ((splitB 32 s).drop 1)):=if_pos hA
theorem repW_step (hx:LibOK c.Library) (h:impl_stepFor w n=(t,true)) (hv:t.Value≤9223372036854775807):spec_l34Make c t=(⟨(ofR c.Library (repW c.Library w n)).1,c.Log⟩,(ofR c.Library (repW c.Library w n)).2):=by
  rw [make_rep hx hv]
  unfold repW ofR
  rw [h]
  simp only [if_true]
  by_cases hs:(impl_Library_stepped c.Library t).2=true
  · simp only [if_pos hs,text_ok hx hv hs,if_true]
  · simp only [if_neg hs]; rfl
theorem repW_tell (h:(impl_stepFor w n).2=false):repW x w n=(x,impl_tell x w n):=if_neg (by rw [h]; simp)
theorem ofR_tell (h:(impl_stepFor w n).2=false):ofR x (repW x w n)=(x,if (impl_tell x w n).2=true then (impl_tell x w n).1 else [63]):=by
  rw [repW_tell h]; unfold ofR; split <;> simp_all
theorem for_no (h:n.length≠2∧n.length≠3):(impl_stepFor w n).2=false:=by
  have h2:¬(n.length:Int)=2:=by omega
  have h3:¬(n.length:Int)=3:=by omega
  unfold impl_stepFor
  simp [h2,h3]
theorem tell_no (h:2≤n.length):impl_tell x w n=([],false):=by
  have h1:¬(n.length:Int)=1:=by omega
  have h0:(0:Int)<n.length:=by omega
  unfold impl_tell
  simp only [h1,and_false,if_false,if_pos h0]
theorem word_rep (hx:LibOK x) (h:n.length=0):spec_l34Word x w=(ofR x (repW x w n)).2:=by
  rw [ofR_tell (for_no oB)]
  have h1:¬(n.length:Int)=1:=by omega
  have h0:¬(0:Int)<n.length:=by omega
  unfold spec_l34Word impl_tell spec_l34Number
  simp only [h1,h0,and_false,if_false,if_pos hx]
  by_cases e1:w=[109,97,121]
  · subst e1; simp [hx]
  by_cases e2:w=[116,104,101,114,101]
  · subst e2; simp [hx]
  by_cases e3:w=[116,111,114,110]
  · subst e3; simp [hx]
  by_cases e4:w=[98,111,117,103,104,116]
  · subst e4; simp
  by_cases e5:w=[109,101,110,100,101,100]
  · subst e5; simp
  simp [e1,e2,e3,e4,e5]
theorem one_rep (h:n.length=1):spec_l34One c w (gt n 0)=(c,(ofR c.Library (repW c.Library w n)).2):=by
  rw [ofR_tell (for_no oB)]
  have h1:(n.length:Int)=1:=by omega
  have h0:(0:Int)<n.length:=by omega
  unfold spec_l34One impl_tell spec_l34Map
  simp only [h1,h0,and_true,if_true]
  by_cases e1:w=[97,116]
  · subst e1; simp
  by_cases e2:w=[114,101,97,100,101,114,115]
  · subst e2; simp
  by_cases e3:w=[116,101,120,116]
  · subst e3; cases hb:(mapT c.Library (gt n 0)).2 <;> simp [hb]
  simp [e1,e2,e3]
theorem num_rng {W:List (List UInt8)} (k:Nat):gt (numsW W) k≤999999:=by
  unfold gt numsW
  rw [List.getD_eq_getElem?_getD,List.getElem?_map]
  cases W[k]? with
  | none=>simp
  | some y=>exact (readN_rng y).2
theorem ofR_no (h:(impl_stepFor w n).2=false) (h2:2≤n.length):ofR x (repW x w n)=(x,[63]):=by
  rw [ofR_tell h,tell_no h2]; rfl
theorem two_rep (hx:LibOK c.Library) (h:n.length=2) (h0:gt n 0≤999999) (h1:gt n 1≤999999):spec_l34Two c w (gt n 0) (gt n 1)=(⟨(ofR c.Library (repW c.Library w n)).1,c.Log⟩,(ofR c.Library (repW c.Library w n)).2):=by
  have h2:(n.length:Int)=2:=by omega
  unfold spec_l34Two
  by_cases e1:w=[98,117,121]
  · rw [if_pos e1]; exact repW_step hx (by subst e1; unfold impl_stepFor; simp [h2]) oX
  by_cases e2:w=[108,101,110,100]
  · rw [if_neg e1,if_pos e2]; exact repW_step hx (by subst e2; unfold impl_stepFor; simp [h2]) oX
  by_cases e3:w=[109,101,110,100]
  · rw [if_neg e1,if_neg e2,if_pos e3]; exact repW_step hx (by subst e3; unfold impl_stepFor; simp [h2]) oX
  by_cases e4:w=[100,114,111,112]
  · rw [if_neg e1,if_neg e2,if_neg e3,if_pos e4]; exact repW_step hx (by subst e4; unfold impl_stepFor; simp [h2]) oX
  by_cases e5:w=[119,101,97,114]
  · rw [if_neg e1,if_neg e2,if_neg e3,if_neg e4,if_pos e5]; exact repW_step hx (by subst e5; unfold impl_stepFor; simp [h2]) oX
  rw [if_neg e1,if_neg e2,if_neg e3,if_neg e4,if_neg e5,ofR_no (by unfold impl_stepFor; simp [h2,e1,e2,e3,e4,e5]) oB]
theorem three_rep (hx:LibOK c.Library) (h:n.length=3) (h0:gt n 2≤999999):(if w=[98,97,99,107] then spec_l34Make c ⟨3,gt n 0,gt n 1,gt n 2⟩ else if w=[104,97,110,100] then spec_l34Make c ⟨5,gt n 0,gt n 1,gt n 2⟩ else (c,[63]))
    = (⟨(ofR c.Library (repW c.Library w n)).1,c.Log⟩,(ofR c.Library (repW c.Library w n)).2):=by
  have h2:(n.length:Int)=3:=by omega
  by_cases e1:w=[98,97,99,107]
  · rw [if_pos e1]; exact repW_step hx (by subst e1; unfold impl_stepFor; simp [h2]) oX
  by_cases e2:w=[104,97,110,100]
  · rw [if_neg e1,if_pos e2]; exact repW_step hx (by subst e2; unfold impl_stepFor; simp [h2]) oX
  rw [if_neg e1,if_neg e2,ofR_no (by unfold impl_stepFor; simp [h2,e1,e2]) oB]
theorem one_word (h:(splitB 32 s).length=1):gt (splitB 32 s) 0=s:=by
  have h2:=splitB_two 32 s
  rw [splitB_none (fun hm=>by have:=h2.2 hm; omega)]; rfl
theorem run_lib (hx:LibOK c.Library):runS c s=(⟨(ofR c.Library (repN c.Library s)).1,c.Log⟩,(ofR c.Library (repN c.Library s)).2):=by
  unfold runS
  by_cases hA:AllNum ((splitB 32 s).drop 1)
  · rw [if_pos hA,repN_all hA]
    have hl:(numsW ((splitB 32 s).drop 1)).length+1=(splitB 32 s).length:=by
      have:=splitB_len 32 s; unfold numsW; rw [List.length_map,List.length_drop]; omega
    have hr:=fun k=>num_rng (W:=(splitB 32 s).drop 1) k
    have ht:∀ {w:List UInt8} {n:List Int},(impl_stepFor w n).2=false→(ofR c.Library (repW c.Library w n)).1=c.Library:=fun h=>by rw [ofR_tell h]
    by_cases h0:(numsW ((splitB 32 s).drop 1)).length=0
    · rw [if_pos h0,one_word oB,word_rep hx h0,ht (for_no oB)]
    rw [if_neg h0]
    by_cases h1:(numsW ((splitB 32 s).drop 1)).length=1
    · rw [if_pos h1,one_rep h1,ht (for_no oB)]
    rw [if_neg h1]
    by_cases h2:(numsW ((splitB 32 s).drop 1)).length=2
    · rw [if_pos h2]; exact two_rep hx h2 (hr 0) (hr 1)
    rw [if_neg h2]
    by_cases h3:(numsW ((splitB 32 s).drop 1)).length=3
    · rw [if_pos h3]; exact three_rep hx h3 (hr 2)
    rw [if_neg h3,ofR_no (for_no oB) oB]
  · rw [if_neg hA]; unfold repN ofR; rw [if_neg hA]; rfl
theorem rec_rngS (h:RecOK ⟨s,[]⟩):1≤(s.length:Int)∧(s.length:Int)≤160:=(rec_rng h).1
theorem lib_of:(ofR x (repN x s)).1=libN x s:=by unfold ofR libN; split <;> rfl
theorem rep_len (hx:LibOK x):(repN x s).1.Maps.length≤8∧(repN x s).1.Away.length≤8:=by
  have h:=lib_rng hx
  unfold repN
  split
  · split
    · split
      · exact stepped_lenL _ _
      · exact ⟨h.1,h.2.1⟩
    · exact ⟨h.1,h.2.1⟩
  · exact ⟨h.1,h.2.1⟩
theorem lib_len8 (hx:LibOK x):(libN x s).Maps.length≤8∧(libN x s).Away.length≤8:=by
  unfold libN; split
  · exact rep_len hx
  · have h:=lib_rng hx; exact ⟨h.1,h.2.1⟩
theorem run_len (hx:LibOK c.Library):(runS c s).1.Library.Maps.length≤8∧(runS c s).1.Library.Away.length≤8:=by
  rw [run_lib hx,lib_of]; exact lib_len8 hx
theorem exec_no (h:¬ConOK c):execN c s=(c,[110,111]):=if_pos h
theorem exec_bad (h:ConOK c) (h2:¬RecOK ⟨s,[]⟩):execN c s=(c,[98,97,100]):=by unfold execN; rw [if_neg (fun q=>q h),if_pos h2]
theorem exec_full (h:ConOK c) (h2:RecOK ⟨s,[]⟩) (h3:c.Log.Count=60):execN c s=(c,[102,117,108,108]):=by unfold execN; rw [if_neg (fun q=>q h),if_neg (fun q=>q h2),if_pos h3]
theorem exec_yes (h:ConOK c) (h2:RecOK ⟨s,[]⟩) (h3:¬c.Log.Count=60):execN c s=(⟨libN c.Library s,(appN c.Log ⟨s,ansN c.Library s⟩).1⟩,ansN c.Library s):=by unfold execN; rw [if_neg (fun q=>q h),if_neg (fun q=>q h2),if_neg h3]
theorem exec_q (h:ConOK c) (h2:RecOK ⟨s,[]⟩) (h3:¬c.Log.Count=60) (hq:(!(repN c.Library s).2.2)=true):execN c s=(⟨c.Library,(appN c.Log ⟨s,[63]⟩).1⟩,[63]):=by
  have hn:¬(repN c.Library s).2.2=true:=by simpa using hq
  rw [exec_yes h h2 h3]; unfold libN ansN; rw [if_neg hn,if_neg hn]
theorem exec_l (h:ConOK c) (h2:RecOK ⟨s,[]⟩) (h3:¬c.Log.Count=60) (hq:(!(repN c.Library s).2.2)=false) (hl:200<(repN c.Library s).2.1.length):execN c s=(⟨(repN c.Library s).1,(appN c.Log ⟨s,[108,111,110,103]⟩).1⟩,[108,111,110,103]):=by
  have hn:(repN c.Library s).2.2=true:=by simpa using hq
  rw [exec_yes h h2 h3]; unfold libN ansN; rw [if_pos hn,if_pos hn,if_pos hl]
theorem exec_y (h:ConOK c) (h2:RecOK ⟨s,[]⟩) (h3:¬c.Log.Count=60) (hq:(!(repN c.Library s).2.2)=false) (hl:¬200<(repN c.Library s).2.1.length):execN c s=(⟨(repN c.Library s).1,(appN c.Log ⟨s,(repN c.Library s).2.1⟩).1⟩,(repN c.Library s).2.1):=by
  have hn:(repN c.Library s).2.2=true:=by simpa using hq
  rw [exec_yes h h2 h3]; unfold libN ansN; rw [if_pos hn,if_pos hn,if_neg hl]
theorem ans_run (h:ConOK c):(if 200<(runS c s).2.length then [108,111,110,103] else (runS c s).2)=ansN c.Library s:=by
  rw [run_lib h.1]; unfold ofR ansN
  split <;> simp_all
theorem exec_Sl (h:ConOK c) (h2:RecOK ⟨s,[]⟩) (h3:¬c.Log.Count=60) (hl:200<(runS c s).2.length):execN c s=(⟨(runS c s).1.Library,(appN c.Log ⟨s,[108,111,110,103]⟩).1⟩,[108,111,110,103]):=by
  have e:=ans_run (s:=s) h
  rw [if_pos hl] at e
  rw [exec_yes h h2 h3,← e,run_lib h.1,lib_of]
theorem exec_Sy (h:ConOK c) (h2:RecOK ⟨s,[]⟩) (h3:¬c.Log.Count=60) (hl:¬200<(runS c s).2.length):execN c s=(⟨(runS c s).1.Library,(appN c.Log ⟨s,(runS c s).2⟩).1⟩,(runS c s).2):=by
  have e:=ans_run (s:=s) h
  rw [if_neg hl] at e
  rw [exec_yes h h2 h3,← e]
  congr 2
  rw [run_lib h.1,lib_of]
end
end Go.Proofs.YtndcchndcghmoaaGreatDoor
namespace Go.Proofs.YtndcchndcghmoaaGreatDoor
open Go Go.RowKit Fw
section
variable {c : Console} {s : List UInt8}
theorem exec_lens (hM:c.Library.Maps.length≤1048576) (hA:c.Library.Away.length≤1048576):(execN c s).1.Library.Maps.length≤1048576∧(execN c s).1.Library.Away.length≤1048576:=by
  unfold execN
  split
  · exact ⟨hM,hA⟩
  split
  · exact ⟨hM,hA⟩
  split
  · exact ⟨hM,hA⟩
  have h:ConOK c:=Classical.not_not.1 ‹_›
  have:=lib_len8 (s:=s) h.1
  dsimp only; omega
end
end Go.Proofs.YtndcchndcghmoaaGreatDoor
namespace Go.Proofs.YtndcchndcghmoaaGreatDoor
open Go Go.RowKit Fw
section
variable {m k j : Nat} {s t b a P : List UInt8} {R : List LogRecord} {c : UInt8} {l : Log} {e : LogRecord} {n : Int}
theorem opF_none (h:(10:UInt8) ∉ s):opF (m+1) k s=([],0):=by
  unfold opF; rw [if_neg (rec_none h)]
theorem opF_nil:opF m k []=([],0):=by cases m with
  | zero=>rfl
  | succ m=>exact opF_none oS
theorem opF_cons (hb:(10:UInt8) ∉ b):opF (m+1) k (b++10 :: a)=if (impl_decode (k:Int) b).2=true then ((impl_decode (k:Int) b).1 :: (opF m (k+1) a).1,b.length+1+(opF m (k+1) a).2) else ([],0):=by
  obtain ⟨e1,e2⟩:=befB_app (r:=a) hb
  conv=>lhs; unfold opF
  by_cases h:(impl_decode (k:Int) b).2=true
  · rw [if_pos h,if_pos (show Rec1 k (b++10 :: a) from ⟨by simp,by rw [e1]; exact h⟩)]
    unfold rec1
    rw [e1,e2]
  · rw [if_neg h,if_neg (fun hr:Rec1 k (b++10 :: a)=>h (by have:=hr.2; rwa [e1] at this))]
theorem cut10 (h:(10:UInt8)∈s):∃ b a,(10:UInt8) ∉ b∧s=b++10 :: a:=⟨befB s 10,aftB s 10,befB_not s,befB_join h⟩
theorem opF_app:∀ (m k:Nat) (s t:List UInt8),(opF m k s).2=s.length→opF m k (s++t)=((opF m k s).1++(opF (m-(opF m k s).1.length) (k+(opF m k s).1.length) t).1,s.length+(opF (m-(opF m k s).1.length) (k+(opF m k s).1.length) t).2)
  | 0,k,s,t,h=>by
    have:s=[]:=List.eq_nil_of_length_eq_zero (by rw [← h]; rfl)
    subst this; rfl
  | m+1,k,s,t,h=>by
    by_cases h10:(10:UInt8)∈s
    · obtain ⟨b,a,hb,rfl⟩:=cut10 h10
      rw [List.append_assoc,List.cons_append,opF_cons hb,opF_cons hb] at *
      by_cases hd:(impl_decode (k:Int) b).2=true
      · rw [if_pos hd] at *
        simp only [List.length_append,List.length_cons] at h
        have ih:=opF_app m (k+1) a t oB
        rw [if_pos hd,ih]
        simp only [List.length_cons,List.length_append,List.cons_append]
        rw [show m+1-((opF m (k+1) a).1.length+1)=m-(opF m (k+1) a).1.length by omega,show k+((opF m (k+1) a).1.length+1)=k+1+(opF m (k+1) a).1.length by omega]
        congr 1; omega
      · rw [if_neg hd] at h; simp at h
    · rw [opF_none h10] at h ⊢
      have:s=[]:=List.eq_nil_of_length_eq_zero h.symm
      subst this; simp
theorem seal_no (h0:0≤n) (h:RecOK e):(10:UInt8) ∉ sealB (bodyB n e):=by
  have h1:(10:UInt8) ∉ e.Command:=fun hm=>by have:=(h.2.2.1 _ hm).1.1; exact absurd this oG
  have h2:(10:UInt8) ∉ e.Reply:=fun hm=>by have:=(h.2.2.2.1 _ hm).1.1; exact absurd this oG
  have h3:(10:UInt8) ∉ Lib.itoa n:=itoa_plain h0 (.inl oG)
  have h4:(10:UInt8) ∉ Lib.itoa (csum (bodyB n e)):=itoa_plain (csum_rng _).1 (.inl oG)
  unfold sealB
  simp only [List.mem_append,not_or]
  refine ⟨⟨?_,by simp⟩,h4⟩
  unfold bodyB; simp [h1,h2,h3]
theorem line_dec (hk:0≤n∧n≤59) (h:RecOK e):impl_decode n (sealB (bodyB n e))=(e,true):=dec_yes ⟨hk,h,rfl⟩
theorem opF_line (hk:(k:Int)≤59) (h:RecOK e):opF (m+1) k (lineB (k:Int) e++t)=(e :: (opF m (k+1) t).1,(lineB (k:Int) e).length+(opF m (k+1) t).2):=by
  have e1:lineB (k:Int) e++t=sealB (bodyB (k:Int) e)++10 :: t:=by unfold lineB; simp
  rw [e1,opF_cons (seal_no oB h),line_dec oB h,if_pos rfl]
  unfold lineB; simp
theorem nil_log:LogOK noLog:=by
  refine ⟨?_,?_,?_⟩ <;> simp [noLog,opN,opF_nil]
theorem app_valid (h:LogOK l) (he:RecOK e) (hc:¬l.Count=60):LogOK ⟨l.Durable,l.Pending++lineB l.Count e,l.Count+1⟩∧opN (l.Durable++(l.Pending++lineB l.Count e))=((opN (l.Durable++l.Pending)).1++[e],l.Durable.length+(l.Pending++lineB l.Count e).length):=by
  have hr:=log_rng h
  obtain ⟨h1,h2,h3⟩:=h
  have hlen:=(opN_len (l.Durable++l.Pending)).1
  have ha:=opF_app 60 0 (l.Durable++l.Pending) (lineB l.Count e) (by rw [List.length_append]; exact h1)
  have hcn:l.Count=(((opF 60 0 (l.Durable++l.Pending)).1.length:Nat):Int):=h3
  obtain ⟨q,hq⟩:∃ q,60-(opF 60 0 (l.Durable++l.Pending)).1.length=q+1:=⟨59-(opF 60 0 (l.Durable++l.Pending)).1.length,oB⟩
  have hl:=opF_line (m:=q) (k:=(opF 60 0 (l.Durable++l.Pending)).1.length) (t:=[]) (e:=e) oB he
  rw [List.append_nil,← hcn,opF_nil] at hl
  rw [hq,Nat.zero_add,hl] at ha
  have e1:opN (l.Durable++(l.Pending++lineB l.Count e))=((opN (l.Durable++l.Pending)).1++[e],l.Durable.length+(l.Pending++lineB l.Count e).length):=by
    rw [← List.append_assoc]
    show opF 60 0 _=_
    rw [ha]
    refine Prod.ext rfl ?_
    simp only [List.length_append,Nat.add_zero]; omega
  refine ⟨⟨?_,h2,?_⟩,e1⟩
  · show (opN (l.Durable++(l.Pending++lineB l.Count e))).2=l.Durable.length+(l.Pending++lineB l.Count e).length
    rw [e1]
  · show l.Count+1=((opN (l.Durable++(l.Pending++lineB l.Count e))).1.length:Int)
    rw [e1]; simp only [List.length_append,List.length_cons,List.length_nil]; omega
theorem appN_ok (h:LogOK l):LogOK (appN l e).1:=by
  unfold appN
  split
  · rename_i h1
    split
    · exact h
    · exact (app_valid h h1.2 ‹_›).1
  · exact h
theorem sync_ok (h:LogOK l):LogOK ⟨l.Durable++l.Pending,[],l.Count⟩:=by
  obtain ⟨h1,h2,h3⟩:=h
  refine ⟨?_,?_,?_⟩
  · show (opN ((l.Durable++l.Pending)++[])).2=(l.Durable++l.Pending).length+0
    rw [List.append_nil,h1,List.length_append]; rfl
  · show (opN (l.Durable++l.Pending)).2=(l.Durable++l.Pending).length
    rw [h1,List.length_append]
  · show l.Count=((opN ((l.Durable++l.Pending)++[])).1.length:Int)
    rw [List.append_nil]; exact h3
theorem syncN_ok (h:LogOK l):LogOK (syncN l).1:=by rw [sync_yes h]; exact sync_ok h
end
end Go.Proofs.YtndcchndcghmoaaGreatDoor
namespace Go.Proofs.YtndcchndcghmoaaGreatDoor
open Go Go.RowKit Fw
end Go.Proofs.YtndcchndcghmoaaGreatDoor
namespace Go.Proofs.YtndcchndcghmoaaGreatDoor
open Go Go.RowKit Fw
end Go.Proofs.YtndcchndcghmoaaGreatDoor
namespace Go.Proofs.YtndcchndcghmoaaGreatDoor
open Go Go.RowKit Fw
noncomputable def scrF (c:Console):List (List UInt8)→List (List UInt8)
  | []=>[]
  | l :: r=>(execN c l).2 :: scrF (execN c l).1 r
def ScrOK (c:Console) (s:List UInt8):Prop:=ConOK c∧(splitB 10 s).length≤30∧s.length≤4000
noncomputable instance (c:Console) (s:List UInt8):Decidable (ScrOK c s):=Classical.propDecidable _
noncomputable def scrN (c:Console) (s:List UInt8):List (List UInt8) × Bool:=if ScrOK c s then (scrF c (splitB 10 s),true) else ([],false)
noncomputable def repF (c:Console):List LogRecord→Nat
  | []=>0
  | e :: r=>if (execN c e.Command).2=e.Reply then repF (execN c e.Command).1 r+1 else 0
def Sml (c:Console) (b:Nat):Prop:=(c.Library.Maps.length≤1048576∧c.Library.Away.length≤1048576)∧c.Log.Durable.length+c.Log.Pending.length≤b
section
variable {c o : Console} {s x : List UInt8} {L R : List (List UInt8)} {k n b : Nat} {E : List LogRecord} {e : LogRecord}
theorem exec_sml (h:Sml c b):Sml (execN c s).1 (b+406):=by
  refine ⟨exec_lens h.1.1 h.1.2,?_⟩
  have hb:=h.2
  unfold execN
  split
  · dsimp only; omega
  split
  · dsimp only; omega
  split
  · dsimp only; omega
  have:=appN_len c.Log ⟨s,ansN c.Library s⟩
  dsimp only; omega
theorem sml_of (h:ConOK c):Sml c 24360:=by
  have h1:=con_rng h; have h2:=log_rng h.2
  exact ⟨⟨oB,oB⟩,h2.1⟩
theorem scr_ok2 (h:ScrOK c s):(splitB 10 s).length≤30∧s.length≤4000:=h.2
theorem scr_okI (hn:n=(splitB 10 s).length) (h:¬(¬ConOK c∨30<(n:Int)∨4000<(s.length:Int))):ScrOK c s :=
  ⟨Classical.not_not.1 fun q=>h (.inl q),Nat.not_lt.1 fun q=>h (.inr (.inl oB)),Nat.not_lt.1 fun q=>h (.inr (.inr oB))⟩
theorem scr_noI (hn:n=(splitB 10 s).length) (h:¬ConOK c∨30<(n:Int)∨4000<(s.length:Int)):scrN c s=([],false) :=
  if_neg fun q=>h.elim (fun h=>h q.1) fun h=>h.elim (fun h=>by have:=q.2.1; omega) fun h=>by have:=q.2.2; omega
theorem scr_okS (hn:n=(splitB 10 s).length) (h:¬(¬ConOK c∨4000<(s.length:Int)∨30<(n:Int))):ScrOK c s :=
  scr_okI hn fun q=>h (q.elim .inl fun q=>q.elim (fun q=>.inr (.inr q)) fun q=>.inr (.inl q))
theorem scr_noS (hn:n=(splitB 10 s).length) (h:¬ConOK c∨4000<(s.length:Int)∨30<(n:Int)):scrN c s=([],false) :=
  scr_noI hn (h.elim .inl fun q=>q.elim (fun q=>.inr (.inr q)) fun q=>.inr (.inl q))
def STo (c:Console) (L:List (List UInt8)) (o:Console) (R:List (List UInt8)) (k:Nat):Prop:=R.length=k∧scrF c L=R++scrF o (L.drop k)∧Sml o (24360+406*k)
theorem scrF_len:∀ (c:Console) (L:List (List UInt8)),(scrF c L).length=L.length
  | _,[]=>rfl
  | c,l :: r=>by
    have:=scrF_len (execN c l).1 r
    simp only [scrF,List.length_cons]; omega
theorem scr_len (c:Console) (s:List UInt8):(scrN c s).1.length≤30:=by
  unfold scrN; split
  · rename_i h; rw [scrF_len]; exact h.2.1
  · simp
theorem STo.zero (h:ConOK c):STo c L c [] 0:=⟨rfl,rfl,sml_of h⟩
theorem STo.next (h:STo c L o R k) (hx:L[k]?=some x):STo c L (execN o x).1 (R++[(execN o x).2]) (k+1):=by
  obtain ⟨h1,h2,h3⟩:=h
  refine ⟨by simp [h1],?_,by have:=exec_sml (s:=x) h3; rwa [Nat.mul_succ,← Nat.add_assoc]⟩
  rw [h2,List.drop_eq_getElem_cons (List.getElem?_eq_some_iff.1 hx).1,(List.getElem?_eq_some_iff.1 hx).2]
  show R++((execN o x).2 :: scrF (execN o x).1 (L.drop (k+1)))=_
  simp
theorem STo.all (h:STo c (splitB 10 s) o R k) (hk:(splitB 10 s).length≤k) (hs:ScrOK c s):scrN c s=(R,true):=by
  unfold scrN
  rw [if_pos hs,h.2.1,List.drop_of_length_le hk]
  show (R++[],true)=_
  rw [List.append_nil]
def RTo (c:Console) (E:List LogRecord) (o:Console) (k:Nat):Prop:=repF c E=k+repF o (E.drop k)∧Sml o (24360+406*k)
theorem RTo.zero (h:Sml c 24360):RTo c E c 0:=⟨by simp,h⟩
theorem rep_drop (he:E[k]?=some e):E.drop k=e :: E.drop (k+1):=by
  rw [List.drop_eq_getElem_cons (List.getElem?_eq_some_iff.1 he).1,(List.getElem?_eq_some_iff.1 he).2]
theorem RTo.next (h:RTo c E o k) (he:E[k]?=some e) (hr:(execN o e.Command).2=e.Reply):RTo c E (execN o e.Command).1 (k+1):=by
  refine ⟨?_,by have:=exec_sml (s:=e.Command) h.2; rwa [Nat.mul_succ,← Nat.add_assoc]⟩
  rw [h.1,rep_drop he]
  show k+(if (execN o e.Command).2=e.Reply then _ else _)=_
  rw [if_pos hr]; omega
theorem RTo.stop (h:RTo c E o k) (he:E[k]?=some e) (hr:¬(execN o e.Command).2=e.Reply):repF c E=k:=by
  rw [h.1,rep_drop he]
  show k+(if (execN o e.Command).2=e.Reply then _ else _)=_
  rw [if_neg hr]; omega
theorem RTo.all (h:RTo c E o k) (hk:E.length≤k) (hk2:k≤E.length):repF c E=E.length:=by
  rw [h.1,List.drop_of_length_le hk]
  show k+0=_
  omega
end
end Go.Proofs.YtndcchndcghmoaaGreatDoor
namespace Go.Proofs.YtndcchndcghmoaaGreatDoor
open Go Go.RowKit Fw
section
variable {c : Console} {s : List UInt8}
theorem scr_first (h:(scrN c s).2=true):scrN c (gt (splitB 10 s) 0)=([gt (scrN c s).1 0],true):=by
  have hk:ScrOK c s:=by unfold scrN at h; split at h; assumption; cases h
  have e:=splitB_head 10 s
  have e1:splitB 10 (gt (splitB 10 s) 0)=[gt (splitB 10 s) 0]:=splitB_none (by rw [e]; exact befB_not s)
  have hl:=splitB_gt 10 s
  have h2:ScrOK c (gt (splitB 10 s) 0):=⟨hk.1,by rw [e1]; simp,by have:=hk.2.2; omega⟩
  unfold scrN
  rw [if_pos h2,if_pos hk,e1]
  have:=splitB_ne 10 s
  cases hs:splitB 10 s with
  | nil=>exact absurd hs this
  | cons x r=>simp [scrF,gt]
theorem scr_lenY (h:¬(!(scrN c s).2)=true):(scrN c s).1.length=(splitB 10 s).length:=by
  unfold scrN at h ⊢
  split
  · exact scrF_len _ _
  · rename_i q; rw [if_neg q] at h; exact absurd rfl h
theorem scr_ret {n:Nat} (hn:n=(scrN c s).1.length):(scrN c s).2=true∨(n:Int)=0:=by
  subst hn; unfold scrN; split
  · exact .inl rfl
  · exact .inr rfl
theorem scr_fin {n:Nat} (h:¬(!(scrN c s).2)=true) (hn:n=(scrN c (gt (splitB 10 s) 0)).1.length):(scrN c (gt (splitB 10 s) 0)).2=true∧(n:Int)=1∧gt (scrN c (gt (splitB 10 s) 0)).1 0=gt (scrN c s).1 0:=by
  have e:=scr_first (c:=c) (s:=s) (by simpa using h)
  subst hn; rw [e]
  exact ⟨rfl,rfl,rfl⟩
end
end Go.Proofs.YtndcchndcghmoaaGreatDoor
namespace Go.Proofs.YtndcchndcghmoaaGreatDoor
open Go Go.RowKit Fw
def MapB (L:List LMap):Prop:=∀ (k:Nat) (x:LMap),L[k]?=some x→(-100000≤x.Id∧x.Id≤100000)∧(-100000≤x.Copies∧x.Copies≤100000)∧(-100000≤x.Torn∧x.Torn≤100000)
def AwayB (L:List Away):Prop:=∀ (k:Nat) (x:Away),L[k]?=some x→(-100000≤x.Map∧x.Map≤100000)∧(-100000≤x.Reader∧x.Reader≤100000)
section
variable {x o : Library} {k : Nat} {s : LibraryStep} {L : List LMap} {z : LMap} {D : List Away} {y : Away} {c : Console} {t : List UInt8}
theorem app_get {α:Type} {L:List α} {z x:α} {P:α→Prop} (h:∀ (k:Nat) (x:α),L[k]?=some x→P x) (hz:P z) (hx:(L++[z])[k]?=some x):P x:=by
  rw [List.getElem?_append] at hx
  split at hx
  · exact h k x hx
  · obtain ⟨h1,h2⟩:=List.getElem?_eq_some_iff.1 hx
    have h0:k-L.length=0:=by simp only [List.length_cons,List.length_nil] at h1; omega
    simp only [h0,List.getElem_cons_zero] at h2
    subst h2; exact hz
theorem MapB.nil:MapB []:=fun k x h=>by simp at h
theorem MapB.of (h:MapsOK L):MapB L:=fun k x hx=>by
  have:=maps_at h (List.getElem?_eq_some_iff.1 hx).1
  rw [gt_eq hx] at this; omega
theorem MapB.app (h:MapB L) (hz:(-100000≤z.Id∧z.Id≤100000)∧(-100000≤z.Copies∧z.Copies≤100000)∧(-100000≤z.Torn∧z.Torn≤100000)):MapB (L++[z]):=fun _ _ hx=>app_get (P:=fun x:LMap=>(-100000≤x.Id∧x.Id≤100000)∧(-100000≤x.Copies∧x.Copies≤100000)∧(-100000≤x.Torn∧x.Torn≤100000)) h hz hx
theorem MapB.at (h:MapB L) (hx:L[k]?=some z):(-100000≤z.Id∧z.Id≤100000)∧(-100000≤z.Copies∧z.Copies≤100000)∧(-100000≤z.Torn∧z.Torn≤100000):=h k z hx
theorem AwayB.nil:AwayB []:=fun k x h=>by simp at h
theorem AwayB.of (h:LibOK x):AwayB x.Away:=fun k a hx=>by
  have hb:=Classical.not_not.1 (h.2.1.1 k (List.getElem?_eq_some_iff.1 hx).1)
  rw [gt_eq hx] at hb
  obtain ⟨m,hm,hq⟩:=hb.1
  obtain ⟨j,hj⟩:=List.mem_iff_getElem?.1 hm
  have:=maps_at h.1.1 (List.getElem?_eq_some_iff.1 hj).1
  rw [gt_eq hj] at this; omega
theorem AwayB.app (h:AwayB D) (hz:(-100000≤y.Map∧y.Map≤100000)∧(-100000≤y.Reader∧y.Reader≤100000)):AwayB (D++[y]):=fun _ _ hx=>app_get (P:=fun x:Away=>(-100000≤x.Map∧x.Map≤100000)∧(-100000≤x.Reader∧x.Reader≤100000)) h hz hx
theorem AwayB.at (h:AwayB D) (hx:D[k]?=some y):(-100000≤y.Map∧y.Map≤100000)∧(-100000≤y.Reader∧y.Reader≤100000):=h k y hx
theorem nil_lib:LibOK ⟨[],[],0,0,0⟩:=by
  refine ⟨⟨fun j h=>by simp at h,by simp⟩,⟨fun j h=>by simp at h,by simp⟩,?_⟩
  simp [sumC]
theorem lib_bought (h:LibOK o):(o.Maps.length≤8∧o.Away.length≤8)∧(0≤o.Bought∧o.Bought≤9999):=⟨⟨h.1.2,h.2.1.2⟩,h.2.2.1⟩
theorem spec_okL (h:(spec_StepLibrary x s).2=true):LibOK (spec_StepLibrary x s).1:=by
  unfold spec_StepLibrary at h ⊢
  by_cases h1:(¬(LibOK x))∨((!(spec_l32Step x s))=true)
  · rw [if_pos h1] at h; cases h
  · rw [if_neg h1] at h ⊢
    by_cases h2:(!((spec_l32Make x s).2))=true
    · rw [if_pos h2] at h; cases h
    · rw [if_neg h2]; exact make_okL (by simpa using h2)
theorem lib_ok (h:LibOK x):LibOK (libN x t):=by
  unfold libN
  split
  · rename_i h2
    unfold repN at h2 ⊢
    split at h2 <;> (try split at h2) <;> (try split at h2) <;> simp_all
    exact stepped_okL oI
  · exact h
theorem exec_lib (h:ConOK c):LibOK (execN c t).1.Library:=by
  unfold execN
  rw [if_neg (fun q=>q h)]
  split
  · exact h.1
  split
  · exact h.1
  · exact lib_ok h.1
theorem app_count {l:Log} {e:LogRecord} (h:LogOK l):0≤(appN l e).1.Count∧(appN l e).1.Count≤60:=by
  have:=log_rng h
  unfold appN
  split
  · split <;> (dsimp only; omega)
  · dsimp only; omega
theorem exec_log (h:ConOK c):(execN c t).1.Log.Durable.length+(execN c t).1.Log.Pending.length≤24766∧0≤(execN c t).1.Log.Count∧(execN c t).1.Log.Count≤60:=by
  have hl:=log_rng h.2
  unfold execN
  rw [if_neg (fun q=>q h)]
  split
  · dsimp only; omega
  split
  · dsimp only; omega
  have:=appN_len c.Log ⟨t,ansN c.Library t⟩
  have:=app_count (e:=⟨t,ansN c.Library t⟩) h.2
  dsimp only; omega
theorem con_step (h:ConOK c):((execN c t).1.Library.Maps.length≤9∧(execN c t).1.Library.Away.length≤9)∧((execN c t).1.Log.Durable.length+(execN c t).1.Log.Pending.length≤24766∧0≤(execN c t).1.Log.Count∧(execN c t).1.Log.Count≤60)∧MapB (execN c t).1.Library.Maps∧AwayB (execN c t).1.Library.Away:=by
  have hl:=exec_lib (t:=t) h
  have hb:=lib_bought hl
  exact ⟨oB,exec_log h,MapB.of hl.1.1,AwayB.of hl⟩
end
end Go.Proofs.YtndcchndcghmoaaGreatDoor
namespace Go.Proofs.YtndcchndcghmoaaGreatDoor
open Go Go.RowKit Fw
theorem c_strings_Split1 (w:World) (s:List UInt8) (p:List UInt8) (a:(s.length:Int)<4294967281) {c:UInt8} (b:p=[c]) (hE:EnvW w):Calls Tryz.prog 56 #[str s,str p] w fun e w'=>∃ (A1':Option Addr) (n1' c1':Nat),e=.returned (.slice A1' n1' c1')∧SlO w' w.heap.size encS 1 9 A1' n1' c1' (splitB c s)∧Lo w w':=by
  subst b
  have h:=c_strings_Split w s [c] a oS hE
  rw [split_eqB] at h
  exact h
end Go.Proofs.YtndcchndcghmoaaGreatDoor
namespace Go.Proofs.YtndcchndcghmoaaGreatDoor
open Go Go.RowKit Fw
set_option maxRecDepth 10000
set_option maxHeartbeats 2000000
set_option linter.unusedVariables false
variable {Ac1 Ac2 : Option Addr} {nc1 cc1 Bc1 nc2 cc2 Bc2 : Nat}
theorem bld37_0_1 (a0_0:Value) (a0_1:Value) (a0_2:Value) (a0_3:Value) (a0_4:Value) (a1_0:Value) (a1_1:Value) (a1_2:Value):Tryz.prog.built 37 [(0,.agg (List.toArray [a0_0,a0_1,a0_2,a0_3,a0_4])),(1,.agg (List.toArray [a1_0,a1_1,a1_2]))]=some (List.toArray [a0_0,a0_1,a0_2,a0_3,a0_4,a1_0,a1_1,a1_2]):=by kernel_rfl
theorem ent83:Ent Tryz.prog 83:=en Tryz.func83
theorem ent84:Ent Tryz.prog 84:=en Tryz.func84
theorem ent85:Ent Tryz.prog 85:=en Tryz.func85
theorem ent86:Ent Tryz.prog 86:=en Tryz.func86
theorem c_spec_l34Own (w:World) (c:Console) (y:SlR w Bc1 encLMap 3 Ac1 nc1 cc1 c.Library.Maps) (z:SlR w Bc2 encAway 2 Ac2 nc2 cc2 c.Library.Away) (aq:(nc1:Int)≤1048576) (ar:(nc2:Int)≤1048576):Calls Tryz.prog 41 #[.agg (List.toArray (cCn Ac1 nc1 cc1 Ac2 nc2 cc2 c))] w fun e w'=>∃ A1' n1' c1' A2' n2' c2',e=.returned (.agg (List.toArray (cCn A1' n1' c1' A2' n2' c2' c)))∧SlO w' w.heap.size encLMap 3 102 A1' n1' c1' c.Library.Maps∧SlO w' w.heap.size encAway 2 129 A2' n2' c2' c.Library.Away∧Dj A1' A2'∧Lo w w':=by
 refine cW 9 Tryz.func41 G G G ?_
 have V:=y.bound
 have X:=y.len
 have T:=y.bd
 have W:=z.bound
 have Y:=z.len
 have U:=z.bd
 refine Ws (Wr (bx G ?_))
 intro g1 w2 ap F au O
 refine Qa (l:=zCn) tz37 G ?_
 intro M t ag b al N
 refine Qn (Ws (WA (Kp (fun b_=>b_=M) t) (fun f' w'=>∃ (j:Option Addr) (h:Nat) (u:Nat) (k:Option Addr) (i:Nat) (v:Nat),At f' [(2,pt M)]∧(Kp (fun b_=>b_=M) t w')∧(SlO w' t.heap.size encLMap 3 102 j h u c.Library.Maps)∧(SlO w' t.heap.size encAway 2 129 k i v c.Library.Away)∧(Blk w' M 37 (cCn j h u k i v c))∧Dj j k∧(h=(c.Library.Maps).length)∧((h:Int)≤9223372036854775807)∧(i=(c.Library.Away).length)∧((i:Int)≤9223372036854775807)) mo ?_ ?_))
 ·intro ac a
  have am:=a.size
  refine Ak 0 G (kr a) (fun w' hw'=>fA fa37_0 G)<|Ak 1 G (kr a) (fun w' hw'=>r_lda (l:=(cLb Ac1 nc1 cc1 Ac2 nc2 cc2 c.Library)) agg34 G (fun _ _ hu=>((O.lo b).kn hw' oB).cells (vs:=(cLb Ac1 nc1 cc1 Ac2 nc2 cc2 c.Library)) G hu) G)<|Ak 3 G (kr a) (fun w' hw'=>fA fa37_1 G)<|Ak 4 G (kr a) (fun w' hw'=>r_lda (l:=[str c.Log.Durable,str c.Log.Pending,i6 c.Log.Count]) agg35 G (fun _ _ hu=>((O.lo b).kn hw' oB).cells (vs:=[str c.Log.Durable,str c.Log.Pending,i6 c.Log.Count]) G hu) G)<|Ab 2 G (Qc ent79 (c_spec_l32Own ac c.Library (((y.lo F).lo b).lo a) (((z.lo F).lo b).lo a) oB oB) G ?_)
  rintro e aw ⟨A,L,C,B,s,m,rfl,n,d,E,r⟩
  refine ⟨_,G,?_⟩
  have aa:=r.size
  have f:=((kr a:Kp (fun b_=>b_=M) t _)).lo r
  have H:=n.len
  have I:=n.rd.bound
  have J:=d.len
  have K:=d.rd.bound
  refine Qn ⟨f,_,G,(Ak 5 G f (fun w' hw'=>r_build (vs:=[(0,.agg (List.toArray (cLb A L C B s m c.Library))),(1,.agg (List.toArray [str c.Log.Durable,str c.Log.Pending,i6 c.Log.Count]))]) G (bld37_0_1 _ _ _ _ _ _ _ _))<|Ab 6 G (Qw (o:=0) (vs:=(cCn A L C B s m c)) agg37.2 G G G G ((N.lo a).lo r) ler G ?_))⟩
  intro an g Z D
  have q:=f.step g (fun _ _ e=>e)
  refine Qn ⟨q,_,G,(Ad oC (⟨A,L,C,B,s,m,⟨G,trivial⟩,q,((n.kn g).down),((d.kn g).down),D,E,H,I,J,K⟩))⟩
 rintro ae ao ⟨j,h,u,k,i,v,x,p,Q,R,S,P,ah,ai,aj,ak⟩
 rw [← sA x]
 have ab:=p.size
 refine We (retC G G agg37 S G (⟨j,h,u,k,i,v,eR G,(Q.down),(R.down),P,((((lr w).lo F).lo b).new p oB)⟩))
theorem c_spec_l34Run (w:World) (c:Console) (aT:SlO w Bc1 encLMap 3 102 Ac1 nc1 cc1 c.Library.Maps) (aU:SlO w Bc2 encAway 2 129 Ac2 nc2 cc2 c.Library.Away) (s:List UInt8) (hdc_Library_Maps_c2:Dj Ac1 Ac2) (iP:(nc1:Int)≤8) (iQ:(nc2:Int)≤8) (iR:LibOK c.Library) (iS:(s.length:Int)≤200):Calls Tryz.prog 44 #[.agg (List.toArray (cCn Ac1 nc1 cc1 Ac2 nc2 cc2 c)),str s] w fun e w'=>∃ A1' n1' c1' A2' n2' c2',e=.returned (.tuple (List.toArray [.agg (List.toArray (cCn A1' n1' c1' A2' n2' c2' ((runS c s).1))),str ((runS c s).2)]))∧SlO w' Bc1 encLMap 3 102 A1' n1' c1' (((runS c s).1).Library.Maps)∧SlO w' Bc2 encAway 2 129 A2' n2' c2' (((runS c s).1).Library.Away)∧Dj A1' A2'∧(Og A1' Ac1 Ac2 w)∧(Og A2' Ac1 Ac2 w)∧Lo w w':=by
 refine cW 109 Tryz.func44 G G G ?_
 have fd:=aT.rd.cap
 have e9:=aT.rd.bd
 have fb:=aT.rd.bound
 have f7:=aT.len
 have eZ:=aT.bd
 have fe:=aU.rd.cap
 have fa:=aU.rd.bd
 have fc:=aU.rd.bound
 have ga:=aU.len
 have e6:=aU.bd
 refine Ws (Wr (bx G ?_))
 intro B w2 iO b4 iT e7
 have aV:=nE (g:=B) aT
 have aa:=nE (g:=B) aU
 refine Qa (l:=zCn) tz37 G ?_
 intro a ck hI bI io eM
 have E:=nE (g:=a) (aT.lo b4)
 have F:=nE (g:=a) (aU.lo b4)
 refine Q (r_as (v:=str ([]:List UInt8)) G)<|Qn (Ws ?_)
 have V:=(aT.lo b4).lo bI
 have X:=(aU.lo b4).lo bI
 refine Wr (Q (mS G)<|Qc ent55 (c_spec_l1Split ck s (32:UInt8) oD) G ?_)
 rintro e iU ⟨u,bK,bJ,rfl,bH,ab⟩
 refine ⟨_,G,?_⟩
 have iq:=ab.size
 have hQ:=bH.len
 have hU:=bH.rd.bound
 have ic:=splitB_len (32:UInt8) s
 refine Q (aL G)<|Qn (Ws (Wr (Ql (vs:=[]) (L:=([]:List Int)) (enc:=encI) tel93 (fun _=>G) G G G oG ?_)))
 intro ap bw hJ an bL
 have ir:=an.size
 refine Q (aL G)<|Qn (Ws (Ws (Wr (Q (aI G)<|Qn (Wl (WL (σ:=Nat × (Option Addr) × Nat × Nat) (fun g=>[(1,str s),(2,pt B),(4,pt a),(6,.slice u bK bJ),(7,.slice g.2.1 g.2.2.1 g.2.2.2),(8,i6 (g.1:Int))]) (fun g w'=>(Lo w w')∧(Blk w' B 37 (cCn Ac1 nc1 cc1 Ac2 nc2 cc2 c))∧(SlO w' Bc1 encLMap 3 102 Ac1 nc1 cc1 c.Library.Maps)∧(SlO w' Bc2 encAway 2 129 Ac2 nc2 cc2 c.Library.Away)∧(Blk w' a 37 zCn)∧(SlO w' ck.heap.size encS 1 9 u bK bJ (splitB (32:UInt8) s))∧(SlO w' w.heap.size encI 1 3 g.2.1 g.2.2.1 g.2.2.2 (nmW s g.1))∧(¬g.2.1=some ⟨B,0,none⟩)∧(∀ b_,g.2.1=some ⟨b_,0,none⟩→¬Ac1=some ⟨b_,0,none⟩)∧(∀ b_,g.2.1=some ⟨b_,0,none⟩→¬Ac2=some ⟨b_,0,none⟩)∧(¬g.2.1=some ⟨a,0,none⟩)∧(∀ b_,g.2.1=some ⟨b_,0,none⟩→¬u=some ⟨b_,0,none⟩)∧((1≤g.1∧g.1≤(splitB (32:UInt8) s).length)∧AllNum (((splitB (32:UInt8) s).take g.1).drop 1))) (fun g=>(splitB (32:UInt8) s).length-g.1) (1,(pA ap),0,0) ?_ ?_ ?_))))))
 ·exact (At.r G)
 ·show (Lo w bw)∧(Blk bw B 37 (cCn Ac1 nc1 cc1 Ac2 nc2 cc2 c))∧(SlO bw Bc1 encLMap 3 102 Ac1 nc1 cc1 c.Library.Maps)∧(SlO bw Bc2 encAway 2 129 Ac2 nc2 cc2 c.Library.Away)∧(Blk bw a 37 zCn)∧(SlO bw ck.heap.size encS 1 9 u bK bJ (splitB (32:UInt8) s))∧(SlO bw w.heap.size encI 1 3 (pA ap) 0 0 (nmW s 1))∧(¬(pA ap)=some ⟨B,0,none⟩)∧(∀ b_,(pA ap)=some ⟨b_,0,none⟩→¬Ac1=some ⟨b_,0,none⟩)∧(∀ b_,(pA ap)=some ⟨b_,0,none⟩→¬Ac2=some ⟨b_,0,none⟩)∧(¬(pA ap)=some ⟨a,0,none⟩)∧(∀ b_,(pA ap)=some ⟨b_,0,none⟩→¬u=some ⟨b_,0,none⟩)∧((1≤1∧1≤(splitB (32:UInt8) s).length)∧AllNum (((splitB (32:UInt8) s).take 1).drop 1))
  exact ⟨(((((lr w).lo b4).lo bI).lo ab).lo an),((e7.lo bI).lo ab).lo an,((V.lo ab).lo an),((X.lo ab).lo an),((eM.lo ab).lo an),bH.lo an,(oq (bL.down) (by exact nm_one s)),(nE bL),(fun b_ h h'=>(nE (g:=ap) (V.lo ab)) (h'.trans h.symm)),(fun b_ h h'=>(nE (g:=ap) (X.lo ab)) (h'.trans h.symm)),(nE bL),(fun b_ h h'=>(nE (g:=ap) bH) (h'.trans h.symm)),(by (try dsimp only); exact ⟨oB,allN_zero _⟩)⟩
 ·rintro ⟨k,y,cq,ez⟩ eX z eL
  obtain ⟨Z,q,H,I,t,m,j,cD,T,U,p,cE,eO⟩:(Lo w z)∧(Blk z B 37 (cCn Ac1 nc1 cc1 Ac2 nc2 cc2 c))∧(SlO z Bc1 encLMap 3 102 Ac1 nc1 cc1 c.Library.Maps)∧(SlO z Bc2 encAway 2 129 Ac2 nc2 cc2 c.Library.Away)∧(Blk z a 37 zCn)∧(SlO z ck.heap.size encS 1 9 u bK bJ (splitB (32:UInt8) s))∧(SlO z w.heap.size encI 1 3 y cq ez (nmW s k))∧(¬y=some ⟨B,0,none⟩)∧Dj y Ac1∧Dj y Ac2∧(¬y=some ⟨a,0,none⟩)∧Dj y u∧((1≤k∧k≤(splitB (32:UInt8) s).length)∧AllNum (((splitB (32:UInt8) s).take k).drop 1)):=eL
  refine (?_:W _ _ _ _ _ (act _ (sets eX [(1,str s),(2,pt B),(4,pt a),(6,.slice u bK bJ),(7,.slice y cq ez),(8,i6 (k:Int))])) _)
  have g6:=Z.size
  have hY:=q.lt
  have hZ:=t.lt
  have ia:=j.len
  have ib:=j.rd.bound
  have ie:1≤k∧k≤(splitB (32:UInt8) s).length:=eO.1
  have ig:(nmW s k).length+1=k:=nums_len (s:=s) (k:=k) oB
  have ii:(splitB (32:UInt8) s).length≤s.length+1:=splitB_max (32:UInt8) s
  refine Ws (Ws (Wr (Q (mI G)<|Q (mL G)<|Q (r_len und44 G)<|Q (r_lt G G)<|Qn (Wd G (fun eY=>?_) (fun eY=>?_)))))
  ·refine Wk (Ws (Wl (Ws (Wr (Q (mL G)<|Q (mI G)<|?_)))))
   have cF:=(m.rd).elem (i:=k) oB
   have ij:=splitB_el cF
   refine Q (rX tsl44 (m.rd) G G oB)<|Q (r_ld (v:=str (gt (splitB (32:UInt8) s) k)) sca9 G ((m.rd).cell0 cF G))<|Qv ent83 (c_spec_ParseInt z (gt (splitB (32:UInt8) s) k)) G fun iV x iu=>?_
   have cC:=Z.lo x
   have ik:-999999≤(readN (gt (splitB (32:UInt8) s) k)).1∧(readN (gt (splitB (32:UInt8) s) k)).1≤999999:=readN_rng (gt (splitB (32:UInt8) s) k)
   refine Q (mT G)<|Q (xI G G)<|Q (xB G G)<|Q (aI G)<|Q (aB G)<|Qn (Ws (Ws (Wr (Q (mB G)<|Q (rN G)<|Qn (Wb G (fun cP=>?_) (fun cP=>?_))))))
   ·have il:=bnot_t cP
    refine Ws (Wr (Q (lG agg37 G (q.lo x) G)<|Qw (o:=0) (vs:=(cCn Ac1 nc1 cc1 Ac2 nc2 cc2 c)) agg37.2 G G G G (t.lo x) ler G ?_))
    intro iW b5 ip eN
    refine Q (r_as (v:=str ([63]:List UInt8)) G)<|Qn (We (retCT G G agg37 eN G (v:=str _) G ?_))
    refine ⟨Ac1,nc1,cc1,Ac2,nc2,cc2,eR (eT2 (e8 ?_ ?_ ?_ ?_ ?_ ?_) (eS ?_)),(oq ((H.lo x).kd b5 E) ?_),(oq ((I.lo x).kd b5 F) ?_),hdc_Library_Maps_c2,(fun b_ h_=>.inl (.inl h_)),(fun b_ h_=>.inl (.inr h_)),(cC.new b5)⟩ <;> (rw [run_bad (k:=k) oB ‹_[_]?=some _› ‹(!_)=true›]; try rfl)
   ·have im:=bnot_f cP
    refine Wk (Wr (Q (mL G)<|Q (mI G)<|Ql (vs:=[i6 ((readN (gt (splitB (32:UInt8) s) k)).1)]) (L:=([(readN (gt (splitB (32:UInt8) s) k)).1]:List Int)) (enc:=encI) tel93 (fun _=>G) G G G oG ?_))
    intro iN iX hP A eK
    have iv:=A.size
    refine Qp tel93 G G ((j.lo x).lo A) (eK.rd) (fun _=>G) oB oB ?_
    intro D cr ao Y c6 ac
    have gM:=Y.size
    have di:Dj D Ac1:=fun b_ e' h'=>(ac b_ e').elim (fun h=>T b_ (h.trans e') h') (fun h=>by have:=((H.lo x).lo A).base_le h'; omega)
    have dk:Dj D Ac2:=fun b_ e' h'=>(ac b_ e').elim (fun h=>U b_ (h.trans e') h') (fun h=>by have:=((I.lo x).lo A).base_le h'; omega)
    have dm:¬D=some ⟨B,0,none⟩:=fun e'=>(ac B e').elim (fun h=>cD (h.trans e')) (fun h=>by have:=((q.lo x).lo A).lt; omega)
    have dn:¬D=some ⟨a,0,none⟩:=fun e'=>(ac a e').elim (fun h=>p (h.trans e')) (fun h=>by have:=((t.lo x).lo A).lt; omega)
    have dp:Dj D u:=fun b_ e' h'=>(ac b_ e').elim (fun h=>cE b_ (h.trans e') h') (fun h=>by have:=((m.lo x).lo A).base_le h'; omega)
    refine Q (aL G)<|Qn (Wr (Q (mI G)<|Q (r_add G G oB)<|Q (aI G)<|Qn (⟨(k+1,D,cq+1,cr),_,G,(At.r G),(show (Lo w ao)∧(Blk ao B 37 (cCn Ac1 nc1 cc1 Ac2 nc2 cc2 c))∧(SlO ao Bc1 encLMap 3 102 Ac1 nc1 cc1 c.Library.Maps)∧(SlO ao Bc2 encAway 2 129 Ac2 nc2 cc2 c.Library.Away)∧(Blk ao a 37 zCn)∧(SlO ao ck.heap.size encS 1 9 u bK bJ (splitB (32:UInt8) s))∧(SlO ao w.heap.size encI 1 3 D (cq+1) cr (nmW s (k+1)))∧(¬D=some ⟨B,0,none⟩)∧Dj D Ac1∧Dj D Ac2∧(¬D=some ⟨a,0,none⟩)∧Dj D u∧((1≤k+1∧k+1≤(splitB (32:UInt8) s).length)∧AllNum (((splitB (32:UInt8) s).take (k+1)).drop 1)) from ⟨((cC.lo A).step Y (fun i_ hi_ e'=>by have:=((j.lo x).lo A).base_le e'; first | omega | exact e' | exact .inl e' | exact .inr e')),(((q.lo x).lo A).kp Y (fun e'=>cD e')),(((H.lo x).lo A).kp Y (fun b_ hb e'=>T b_ e' hb)),(((I.lo x).lo A).kp Y (fun b_ hb e'=>U b_ e' hb)),(((t.lo x).lo A).kp Y (fun e'=>p e')),(((m.lo x).lo A).kp Y (fun b_ hb e'=>cE b_ e' hb)),(oq c6 (by exact nums_next oB ‹_[_]?=some _›)),dm,di,dk,dn,dp,?_⟩),?_⟩)))
    ·exact (by (try dsimp only); exact ⟨oB,allN_next oB (And.right ‹_∧AllNum _›) ‹_[_]?=some _› oW⟩)
    ·exact oH
  ·refine Wx (xh (Ws (Ws (Wr (Q (mL G)<|Q (r_len und93 G)<|Qn (Wl (Ws (Wr (Q (r_eq G G)<|Q (aB G)<|Qn (Wd G (fun eD=>?_) (fun eD=>?_)))))))))))
   ·refine Ws (WA (Kp (fun b_=>b_=a) z) (fun f' w'=>At f' [(2,pt B),(4,pt a),(5,str (spec_l34Word c.Library s))]∧(Kp (fun b_=>b_=a) z w')∧(Blk w' a 37 (cCn Ac1 nc1 cc1 Ac2 nc2 cc2 c))) mo ?_ ?_)
    ·intro eP C
     have gN:=C.size
     refine Ak 0 G (kr C) (fun w' hw'=>lG agg37 G (q.kn hw' oB) G)<|Ak 1 G (kr C) (fun w' hw'=>fA fa37_0 G)<|Ak 2 G (kr C) (fun w' hw'=>r_lda (l:=(cLb Ac1 nc1 cc1 Ac2 nc2 cc2 c.Library)) agg34 G (fun _ _ hu=>(q.kn hw' oB).cells (vs:=(cLb Ac1 nc1 cc1 Ac2 nc2 cc2 c.Library)) G hu) G)<|Ak 3 G (kr C) (fun w' hw'=>mS G)<|Ab 4 G (Qv ent84 (c_spec_l34Word eP c.Library ((H.lo C).rd) ((I.lo C).rd) s oB oB oI) G fun iw bZ gO=>?_)
     have bQ:=((kr C:Kp (fun b_=>b_=a) z _)).lo bZ
     refine Qn ⟨bQ,_,G,(Ab 5 G (Qw (o:=0) (vs:=(cCn Ac1 nc1 cc1 Ac2 nc2 cc2 c)) agg37.2 G G G G ((t.lo C).lo bZ) ler G ?_))⟩
     intro ix dX gn c7
     have bb:=bQ.step dX (fun _ _ e=>e)
     refine Qn ⟨bb,_,G,(Ak 6 G bb (fun w' hw'=>aS G)<|Ad oC (⟨(At.r G),bb,c7⟩))⟩
    rintro g7 iy ⟨cl,aM,eh⟩
    rw [← sA cl]
    have gP:=aM.size
    refine We (retCT G G agg37 eh G (v:=str _) G ?_)
    refine ⟨Ac1,nc1,cc1,Ac2,nc2,cc2,eR (eT2 (e8 ?_ ?_ ?_ ?_ ?_ ?_) (eS ?_)),(oq (H.kd aM E) ?_),(oq (I.kd aM F) ?_),hdc_Library_Maps_c2,(fun b_ h_=>.inl (.inl h_)),(fun b_ h_=>.inl (.inr h_)),(Z.new aM oB)⟩ <;> (rw [run_0 (k:=k) oB (And.right ‹_∧AllNum _›) oB]; try rfl)
   ·refine Ws (Wr (Q (r_eq G G)<|Q (aB G)<|Qn (Wd G (fun eE=>?_) (fun eE=>?_))))
    ·refine Ws (WA (Kp (fun b_=>b_=a) z) (fun f' w'=>∃ (J:Option Addr) (aC:Nat) (bz:Nat) (K:Option Addr) (aD:Nat) (bA:Nat),At f' [(2,pt B),(4,pt a),(5,str ((spec_l34One c (gt (splitB (32:UInt8) s) 0) (gt (nmW s k) 0)).2))]∧(Kp (fun b_=>b_=a) z w')∧(SlO w' Bc1 encLMap 3 102 J aC bz (((spec_l34One c (gt (splitB (32:UInt8) s) 0) (gt (nmW s k) 0)).1).Library.Maps))∧(Og J Ac1 Ac2 w)∧(SlO w' Bc2 encAway 2 129 K aD bA (((spec_l34One c (gt (splitB (32:UInt8) s) 0) (gt (nmW s k) 0)).1).Library.Away))∧(Og K Ac1 Ac2 w)∧(Blk w' a 37 (cCn J aC bz K aD bA ((spec_l34One c (gt (splitB (32:UInt8) s) 0) (gt (nmW s k) 0)).1)))∧(¬J=some ⟨B,0,none⟩)∧(¬J=some ⟨a,0,none⟩)∧(¬K=some ⟨B,0,none⟩)∧(¬K=some ⟨a,0,none⟩)∧Dj J u∧Dj J y∧Dj J K∧Dj K u∧Dj K y∧((splitB (32:UInt8) s)[0]?=some (gt (splitB (32:UInt8) s) 0))∧((gt (splitB (32:UInt8) s) 0).length≤s.length)∧((gt (splitB (32:UInt8) s) 0).length≤s.length)∧((nmW s k)[0]?=some (gt (nmW s k) 0))∧(aC=(((spec_l34One c (gt (splitB (32:UInt8) s) 0) (gt (nmW s k) 0)).1).Library.Maps).length)∧((aC:Int)≤9223372036854775807)∧(aD=(((spec_l34One c (gt (splitB (32:UInt8) s) 0) (gt (nmW s k) 0)).1).Library.Away).length)∧((aD:Int)≤9223372036854775807)) mo ?_ ?_)
     ·intro eQ n
      have gQ:=n.size
      refine Ak 0 G (kr n) (fun w' hw'=>lG agg37 G (q.kn hw' oB) G)<|Ak 1 G (kr n) (fun w' hw'=>mL G)<|?_
      have bt:=((m.lo n).rd).elem (i:=0) oB
      have gh:=splitB_gt (32:UInt8) s
      have b6:=splitB_el bt
      refine Ak 2 G (kr n) (fun w' hw'=>rX tsl44 ((m.kn hw' oB).rd) G G oB)<|Ak 3 G (kr n) (fun w' hw'=>r_ld (v:=str (gt (splitB (32:UInt8) s) 0)) sca9 G (((m.kn hw' oB).rd).cell0 bt G))<|Ak 4 G (kr n) (fun w' hw'=>mL G)<|?_
      have b8:=((j.lo n).rd).elem (i:=0) oB
      refine Ak 5 G (kr n) (fun w' hw'=>rX tsl93 ((j.kd hw' p).rd) G G oB)<|Ak 6 G (kr n) (fun w' hw'=>r_ld (v:=i6 (gt (nmW s k) 0)) sca3 G (((j.kd hw' p).rd).cell0 b8 G))<|Ab 7 G (Qc ent85 (c_spec_l34One eQ c (H.lo n) (I.lo n) (gt (splitB (32:UInt8) s) 0) (gt (nmW s k) 0) hdc_Library_Maps_c2 oB oB) G ?_)
      rintro e iz ⟨aq,cG,ct,ar,cH,cu,rfl,aW,aX,dr,ae,ag,bh⟩
      refine ⟨_,G,?_⟩
      have gR:=bh.size
      have aN:=((kr n:Kp (fun b_=>b_=a) z _)).lo bh
      have dt:Dj aq u:=fun b_ e' h'=>(ae b_ e').elim (fun h=>h.elim (fun h=>(dj V (m.lo n)) b_ h h') (fun h=>(dj X (m.lo n)) b_ h h')) (fun h=>by have:=(m.lo n).base_le h'; omega)
      have du:Dj aq y:=fun b_ e' h'=>(ae b_ e').elim (fun h=>h.elim (fun h=>(fun b_ h h'=>T b_ h' h) b_ h h') (fun h=>(fun b_ h h'=>U b_ h' h) b_ h h')) (fun h=>by have:=(j.lo n).base_le h'; omega)
      have dv:¬aq=some ⟨B,0,none⟩:=fun e'=>(ae B e').elim (fun h=>h.elim (fun h=>aV h) (fun h=>aa h)) (fun h=>by have:=(q.lo n).lt; omega)
      have bR:¬aq=some ⟨a,0,none⟩:=fun e'=>(ae a e').elim (fun h=>h.elim (fun h=>E h) (fun h=>F h)) (fun h=>by have:=(t.lo n).lt; omega)
      have dw:Dj ar u:=fun b_ e' h'=>(ag b_ e').elim (fun h=>h.elim (fun h=>(dj V (m.lo n)) b_ h h') (fun h=>(dj X (m.lo n)) b_ h h')) (fun h=>by have:=(m.lo n).base_le h'; omega)
      have dx:Dj ar y:=fun b_ e' h'=>(ag b_ e').elim (fun h=>h.elim (fun h=>(fun b_ h h'=>T b_ h' h) b_ h h') (fun h=>(fun b_ h h'=>U b_ h' h) b_ h h')) (fun h=>by have:=(j.lo n).base_le h'; omega)
      have dy:¬ar=some ⟨B,0,none⟩:=fun e'=>(ag B e').elim (fun h=>h.elim (fun h=>aV h) (fun h=>aa h)) (fun h=>by have:=(q.lo n).lt; omega)
      have bS:¬ar=some ⟨a,0,none⟩:=fun e'=>(ag a e').elim (fun h=>h.elim (fun h=>E h) (fun h=>F h)) (fun h=>by have:=(t.lo n).lt; omega)
      have dY:=aW.len
      have dZ:=aW.rd.bound
      have d1:=aX.len
      have d2:=aX.rd.bound
      refine Qn ⟨aN,_,G,(Ak 8 G aN (fun w' hw'=>xG G G)<|Ak 9 G aN (fun w' hw'=>xS G G)<|Ab 10 G (Qw (o:=0) (vs:=(cCn aq cG ct ar cH cu ((spec_l34One c (gt (splitB (32:UInt8) s) 0) (gt (nmW s k) 0)).1))) agg37.2 G G G G ((t.lo n).lo bh) ler G ?_))⟩
      intro iA bi gp da
      have bc:=aN.step bi (fun _ _ e=>e)
      refine Qn ⟨bc,_,G,(Ak 11 G bc (fun w' hw'=>aS G)<|Ad oC (⟨aq,cG,ct,ar,cH,cu,(At.r G),bc,(aW.kd bi bR),(fun b_ h_=>(ae b_ h_).elim (fun h=>h.elim (fun h=>((show Og Ac1 Ac1 Ac2 w from (fun b_ h_=>.inl (.inl h_))) b_ h)) (fun h=>((show Og Ac2 Ac1 Ac2 w from (fun b_ h_=>.inl (.inr h_))) b_ h))) (fun h=>.inr oB)),(aX.kd bi bS),(fun b_ h_=>(ag b_ h_).elim (fun h=>h.elim (fun h=>((show Og Ac1 Ac1 Ac2 w from (fun b_ h_=>.inl (.inl h_))) b_ h)) (fun h=>((show Og Ac2 Ac1 Ac2 w from (fun b_ h_=>.inl (.inr h_))) b_ h))) (fun h=>.inr oB)),da,dv,bR,dy,bS,dt,du,dr,dw,dx,bt,b6,b6,b8,dY,dZ,d1,d2⟩))⟩
     rintro g8 iB ⟨J,aC,bz,K,aD,bA,cm,bM,ei,cQ,ej,cR,ek,ff,fg,fh,fj,fk,fl,dq,fm,fo,gA,gb,gf,gB,fO,fP,fQ,fR⟩
     rw [← sA cm]
     have gS:=bM.size
     refine We (retCT G G agg37 ek G (v:=str _) G ?_)
     refine ⟨J,aC,bz,K,aD,bA,eR (eT2 (e8 ?_ ?_ ?_ ?_ ?_ ?_) (eS ?_)),(oq ei ?_),(oq ej ?_),dq,cQ,cR,(Z.new bM oB)⟩ <;> (rw [run_1 (k:=k) oB (And.right ‹_∧AllNum _›) oB]; try rfl)
    ·refine Ws (Wr (Q (r_eq G G)<|Q (aB G)<|Qn (Wd G (fun eF=>?_) (fun eF=>?_))))
     ·refine Ws (WA (Kp (fun b_=>b_=a) z) (fun f' w'=>∃ (M:Option Addr) (aE:Nat) (bB:Nat) (N:Option Addr) (aF:Nat) (bC:Nat),At f' [(2,pt B),(4,pt a),(5,str ((spec_l34Two c (gt (splitB (32:UInt8) s) 0) (gt (nmW s k) 0) (gt (nmW s k) 1)).2))]∧(Kp (fun b_=>b_=a) z w')∧(SlO w' Bc1 encLMap 3 102 M aE bB (((spec_l34Two c (gt (splitB (32:UInt8) s) 0) (gt (nmW s k) 0) (gt (nmW s k) 1)).1).Library.Maps))∧(Og M Ac1 Ac2 w)∧(SlO w' Bc2 encAway 2 129 N aF bC (((spec_l34Two c (gt (splitB (32:UInt8) s) 0) (gt (nmW s k) 0) (gt (nmW s k) 1)).1).Library.Away))∧(Og N Ac1 Ac2 w)∧(Blk w' a 37 (cCn M aE bB N aF bC ((spec_l34Two c (gt (splitB (32:UInt8) s) 0) (gt (nmW s k) 0) (gt (nmW s k) 1)).1)))∧(¬M=some ⟨B,0,none⟩)∧(¬M=some ⟨a,0,none⟩)∧(¬N=some ⟨B,0,none⟩)∧(¬N=some ⟨a,0,none⟩)∧Dj M u∧Dj M y∧Dj M N∧Dj N u∧Dj N y∧((splitB (32:UInt8) s)[0]?=some (gt (splitB (32:UInt8) s) 0))∧((gt (splitB (32:UInt8) s) 0).length≤s.length)∧((gt (splitB (32:UInt8) s) 0).length≤s.length)∧((nmW s k)[0]?=some (gt (nmW s k) 0))∧((nmW s k)[1]?=some (gt (nmW s k) 1))∧(aE=(((spec_l34Two c (gt (splitB (32:UInt8) s) 0) (gt (nmW s k) 0) (gt (nmW s k) 1)).1).Library.Maps).length)∧((aE:Int)≤9223372036854775807)∧(aF=(((spec_l34Two c (gt (splitB (32:UInt8) s) 0) (gt (nmW s k) 0) (gt (nmW s k) 1)).1).Library.Away).length)∧((aF:Int)≤9223372036854775807)) mo ?_ ?_)
      ·intro eT f
       have gT:=f.size
       refine Ak 0 G (kr f) (fun w' hw'=>lG agg37 G (q.kn hw' oB) G)<|Ak 1 G (kr f) (fun w' hw'=>mL G)<|?_
       have bu:=((m.lo f).rd).elem (i:=0) oB
       have gk:=splitB_gt (32:UInt8) s
       have b7:=splitB_el bu
       refine Ak 2 G (kr f) (fun w' hw'=>rX tsl44 ((m.kn hw' oB).rd) G G oB)<|Ak 3 G (kr f) (fun w' hw'=>r_ld (v:=str (gt (splitB (32:UInt8) s) 0)) sca9 G (((m.kn hw' oB).rd).cell0 bu G))<|Ak 4 G (kr f) (fun w' hw'=>mL G)<|?_
       have b9:=((j.lo f).rd).elem (i:=0) oB
       refine Ak 5 G (kr f) (fun w' hw'=>rX tsl93 ((j.kd hw' p).rd) G G oB)<|Ak 6 G (kr f) (fun w' hw'=>r_ld (v:=i6 (gt (nmW s k) 0)) sca3 G (((j.kd hw' p).rd).cell0 b9 G))<|Ak 7 G (kr f) (fun w' hw'=>mL G)<|?_
       have ca:=((j.lo f).rd).elem (i:=1) oB
       refine Ak 8 G (kr f) (fun w' hw'=>rX tsl93 ((j.kd hw' p).rd) G G oB)<|Ak 9 G (kr f) (fun w' hw'=>r_ld (v:=i6 (gt (nmW s k) 1)) sca3 G (((j.kd hw' p).rd).cell0 ca G))<|Ab 10 G (Qc ent86 (c_spec_l34Two eT c (H.lo f) (I.lo f) (gt (splitB (32:UInt8) s) 0) (gt (nmW s k) 0) (gt (nmW s k) 1) hdc_Library_Maps_c2 oB oB) G ?_)
       rintro e iC ⟨au,cI,cw,aw,cJ,cx,rfl,aY,aZ,dA,ah,ai,bj⟩
       refine ⟨_,G,?_⟩
       have gU:=bj.size
       have aO:=((kr f:Kp (fun b_=>b_=a) z _)).lo bj
       have dB:Dj au u:=fun b_ e' h'=>(ah b_ e').elim (fun h=>h.elim (fun h=>(dj V (m.lo f)) b_ h h') (fun h=>(dj X (m.lo f)) b_ h h')) (fun h=>by have:=(m.lo f).base_le h'; omega)
       have dC:Dj au y:=fun b_ e' h'=>(ah b_ e').elim (fun h=>h.elim (fun h=>(fun b_ h h'=>T b_ h' h) b_ h h') (fun h=>(fun b_ h h'=>U b_ h' h) b_ h h')) (fun h=>by have:=(j.lo f).base_le h'; omega)
       have dD:¬au=some ⟨B,0,none⟩:=fun e'=>(ah B e').elim (fun h=>h.elim (fun h=>aV h) (fun h=>aa h)) (fun h=>by have:=(q.lo f).lt; omega)
       have bT:¬au=some ⟨a,0,none⟩:=fun e'=>(ah a e').elim (fun h=>h.elim (fun h=>E h) (fun h=>F h)) (fun h=>by have:=(t.lo f).lt; omega)
       have dE:Dj aw u:=fun b_ e' h'=>(ai b_ e').elim (fun h=>h.elim (fun h=>(dj V (m.lo f)) b_ h h') (fun h=>(dj X (m.lo f)) b_ h h')) (fun h=>by have:=(m.lo f).base_le h'; omega)
       have dF:Dj aw y:=fun b_ e' h'=>(ai b_ e').elim (fun h=>h.elim (fun h=>(fun b_ h h'=>T b_ h' h) b_ h h') (fun h=>(fun b_ h h'=>U b_ h' h) b_ h h')) (fun h=>by have:=(j.lo f).base_le h'; omega)
       have dG:¬aw=some ⟨B,0,none⟩:=fun e'=>(ai B e').elim (fun h=>h.elim (fun h=>aV h) (fun h=>aa h)) (fun h=>by have:=(q.lo f).lt; omega)
       have bU:¬aw=some ⟨a,0,none⟩:=fun e'=>(ai a e').elim (fun h=>h.elim (fun h=>E h) (fun h=>F h)) (fun h=>by have:=(t.lo f).lt; omega)
       have d3:=aY.len
       have d4:=aY.rd.bound
       have d5:=aZ.len
       have d6:=aZ.rd.bound
       refine Qn ⟨aO,_,G,(Ak 11 G aO (fun w' hw'=>xG G G)<|Ak 12 G aO (fun w' hw'=>xS G G)<|Ab 13 G (Qw (o:=0) (vs:=(cCn au cI cw aw cJ cx ((spec_l34Two c (gt (splitB (32:UInt8) s) 0) (gt (nmW s k) 0) (gt (nmW s k) 1)).1))) agg37.2 G G G G ((t.lo f).lo bj) ler G ?_))⟩
       intro iD bl gr db
       have be:=aO.step bl (fun _ _ e=>e)
       refine Qn ⟨be,_,G,(Ak 14 G be (fun w' hw'=>aS G)<|Ad oC (⟨au,cI,cw,aw,cJ,cx,(At.r G),be,(aY.kd bl bT),(fun b_ h_=>(ah b_ h_).elim (fun h=>h.elim (fun h=>((show Og Ac1 Ac1 Ac2 w from (fun b_ h_=>.inl (.inl h_))) b_ h)) (fun h=>((show Og Ac2 Ac1 Ac2 w from (fun b_ h_=>.inl (.inr h_))) b_ h))) (fun h=>.inr oB)),(aZ.kd bl bU),(fun b_ h_=>(ai b_ h_).elim (fun h=>h.elim (fun h=>((show Og Ac1 Ac1 Ac2 w from (fun b_ h_=>.inl (.inl h_))) b_ h)) (fun h=>((show Og Ac2 Ac1 Ac2 w from (fun b_ h_=>.inl (.inr h_))) b_ h))) (fun h=>.inr oB)),db,dD,bT,dG,bU,dB,dC,dA,dE,dF,bu,b7,b7,b9,ca,d3,d4,d5,d6⟩))⟩
      rintro hF iE ⟨M,aE,bB,N,aF,bC,cn,bN,el,cS,em,cT,eo,fp,fq,fr,fs,ft,fu,dz,fv,fw,gC,gi,gj,gD,gE,fS,fT,fU,fV⟩
      rw [← sA cn]
      have gW:=bN.size
      refine We (retCT G G agg37 eo G (v:=str _) G ?_)
      refine ⟨M,aE,bB,N,aF,bC,eR (eT2 (e8 ?_ ?_ ?_ ?_ ?_ ?_) (eS ?_)),(oq el ?_),(oq em ?_),dz,cS,cT,(Z.new bN oB)⟩ <;> (rw [run_2 (k:=k) oB (And.right ‹_∧AllNum _›) oB]; try rfl)
     ·refine Ws (Wr (Q (r_eq G G)<|Q (aB G)<|Qn (Wd G (fun eG=>?_) (fun eG=>?_))))
      ·refine Ws (Wr (Q (mL G)<|?_))
       have cd:=(m.rd).elem (i:=0) oB
       have gl:=splitB_gt (32:UInt8) s
       have gm:=splitB_el cd
       refine Q (rX tsl44 (m.rd) G G oB)<|Q (r_ld (v:=str (gt (splitB (32:UInt8) s) 0)) sca9 G ((m.rd).cell0 cd G))<|Qn (Wl (Ws (Wr (Q (r_eqs (s:=(gt (splitB (32:UInt8) s) 0)) (r:=([98,97,99,107]:List UInt8)) G G)<|Q (aB G)<|Qn (Wd G (fun eH=>?_) (fun eH=>?_))))))
       ·refine Ws (WA (Kp (fun b_=>b_=a) z) (fun f' w'=>∃ (O:Option Addr) (aG:Nat) (bD:Nat) (P:Option Addr) (aH:Nat) (bE:Nat),At f' [(2,pt B),(4,pt a),(5,str ((spec_l34Make c (⟨3,(gt (nmW s k) 0),(gt (nmW s k) 1),(gt (nmW s k) 2)⟩:LibraryStep)).2))]∧(Kp (fun b_=>b_=a) z w')∧(SlO w' Bc1 encLMap 3 102 O aG bD (((spec_l34Make c (⟨3,(gt (nmW s k) 0),(gt (nmW s k) 1),(gt (nmW s k) 2)⟩:LibraryStep)).1).Library.Maps))∧(Og O Ac1 Ac2 w)∧(SlO w' Bc2 encAway 2 129 P aH bE (((spec_l34Make c (⟨3,(gt (nmW s k) 0),(gt (nmW s k) 1),(gt (nmW s k) 2)⟩:LibraryStep)).1).Library.Away))∧(Og P Ac1 Ac2 w)∧(Blk w' a 37 (cCn O aG bD P aH bE ((spec_l34Make c (⟨3,(gt (nmW s k) 0),(gt (nmW s k) 1),(gt (nmW s k) 2)⟩:LibraryStep)).1)))∧(¬O=some ⟨B,0,none⟩)∧(¬O=some ⟨a,0,none⟩)∧(¬P=some ⟨B,0,none⟩)∧(¬P=some ⟨a,0,none⟩)∧Dj O u∧Dj O y∧Dj O P∧Dj P u∧Dj P y∧((nmW s k)[0]?=some (gt (nmW s k) 0))∧((nmW s k)[1]?=some (gt (nmW s k) 1))∧((nmW s k)[2]?=some (gt (nmW s k) 2))∧(aG=(((spec_l34Make c (⟨3,(gt (nmW s k) 0),(gt (nmW s k) 1),(gt (nmW s k) 2)⟩:LibraryStep)).1).Library.Maps).length)∧((aG:Int)≤9223372036854775807)∧(aH=(((spec_l34Make c (⟨3,(gt (nmW s k) 0),(gt (nmW s k) 1),(gt (nmW s k) 2)⟩:LibraryStep)).1).Library.Away).length)∧((aH:Int)≤9223372036854775807)) mo ?_ ?_)
        ·intro eU b
         have gX:=b.size
         refine Ak 0 G (kr b) (fun w' hw'=>lG agg37 G (q.kn hw' oB) G)<|Ak 1 G (kr b) (fun w' hw'=>mL G)<|?_
         have ce:=((j.lo b).rd).elem (i:=0) oB
         refine Ak 2 G (kr b) (fun w' hw'=>rX tsl93 ((j.kd hw' p).rd) G G oB)<|Ak 3 G (kr b) (fun w' hw'=>r_ld (v:=i6 (gt (nmW s k) 0)) sca3 G (((j.kd hw' p).rd).cell0 ce G))<|Ak 4 G (kr b) (fun w' hw'=>mL G)<|?_
         have cf:=((j.lo b).rd).elem (i:=1) oB
         refine Ak 5 G (kr b) (fun w' hw'=>rX tsl93 ((j.kd hw' p).rd) G G oB)<|Ak 6 G (kr b) (fun w' hw'=>r_ld (v:=i6 (gt (nmW s k) 1)) sca3 G (((j.kd hw' p).rd).cell0 cf G))<|Ak 7 G (kr b) (fun w' hw'=>mL G)<|?_
         have cg:=((j.lo b).rd).elem (i:=2) oB
         refine Ak 8 G (kr b) (fun w' hw'=>rX tsl93 ((j.kd hw' p).rd) G G oB)<|Ak 9 G (kr b) (fun w' hw'=>r_ld (v:=i6 (gt (nmW s k) 2)) sca3 G (((j.kd hw' p).rd).cell0 cg G))<|Ak 10 G (kr b) (fun w' hw'=>r_build (vs:=[(0,i6 3),(1,i6 (gt (nmW s k) 0)),(2,i6 (gt (nmW s k) 1)),(3,i6 (gt (nmW s k) 2))]) G (bld106_0_1_2_3 _ _ _ _))<|Ab 11 G (Qc ent87 (c_spec_l34Make eU c (H.lo b) (I.lo b) (⟨3,(gt (nmW s k) 0),(gt (nmW s k) 1),(gt (nmW s k) 2)⟩:LibraryStep) hdc_Library_Maps_c2 oB oB) G ?_)
         rintro e iF ⟨ax,cK,cy,ay,cM,cz,rfl,a6,a7,dI,aj,ak,bm⟩
         refine ⟨_,G,?_⟩
         have gY:=bm.size
         have aQ:=((kr b:Kp (fun b_=>b_=a) z _)).lo bm
         have dJ:Dj ax u:=fun b_ e' h'=>(aj b_ e').elim (fun h=>h.elim (fun h=>(dj V (m.lo b)) b_ h h') (fun h=>(dj X (m.lo b)) b_ h h')) (fun h=>by have:=(m.lo b).base_le h'; omega)
         have dK:Dj ax y:=fun b_ e' h'=>(aj b_ e').elim (fun h=>h.elim (fun h=>(fun b_ h h'=>T b_ h' h) b_ h h') (fun h=>(fun b_ h h'=>U b_ h' h) b_ h h')) (fun h=>by have:=(j.lo b).base_le h'; omega)
         have dL:¬ax=some ⟨B,0,none⟩:=fun e'=>(aj B e').elim (fun h=>h.elim (fun h=>aV h) (fun h=>aa h)) (fun h=>by have:=(q.lo b).lt; omega)
         have bV:¬ax=some ⟨a,0,none⟩:=fun e'=>(aj a e').elim (fun h=>h.elim (fun h=>E h) (fun h=>F h)) (fun h=>by have:=(t.lo b).lt; omega)
         have dM:Dj ay u:=fun b_ e' h'=>(ak b_ e').elim (fun h=>h.elim (fun h=>(dj V (m.lo b)) b_ h h') (fun h=>(dj X (m.lo b)) b_ h h')) (fun h=>by have:=(m.lo b).base_le h'; omega)
         have dN:Dj ay y:=fun b_ e' h'=>(ak b_ e').elim (fun h=>h.elim (fun h=>(fun b_ h h'=>T b_ h' h) b_ h h') (fun h=>(fun b_ h h'=>U b_ h' h) b_ h h')) (fun h=>by have:=(j.lo b).base_le h'; omega)
         have dO:¬ay=some ⟨B,0,none⟩:=fun e'=>(ak B e').elim (fun h=>h.elim (fun h=>aV h) (fun h=>aa h)) (fun h=>by have:=(q.lo b).lt; omega)
         have bW:¬ay=some ⟨a,0,none⟩:=fun e'=>(ak a e').elim (fun h=>h.elim (fun h=>E h) (fun h=>F h)) (fun h=>by have:=(t.lo b).lt; omega)
         have d7:=a6.len
         have d8:=a6.rd.bound
         have d9:=a7.len
         have ea:=a7.rd.bound
         refine Qn ⟨aQ,_,G,(Ak 12 G aQ (fun w' hw'=>xG G G)<|Ak 13 G aQ (fun w' hw'=>xS G G)<|Ab 14 G (Qw (o:=0) (vs:=(cCn ax cK cy ay cM cz ((spec_l34Make c (⟨3,(gt (nmW s k) 0),(gt (nmW s k) 1),(gt (nmW s k) 2)⟩:LibraryStep)).1))) agg37.2 G G G G ((t.lo b).lo bm) ler G ?_))⟩
         intro iG bn gw de
         have bf:=aQ.step bn (fun _ _ e=>e)
         refine Qn ⟨bf,_,G,(Ak 15 G bf (fun w' hw'=>aS G)<|Ad oC (⟨ax,cK,cy,ay,cM,cz,(At.r G),bf,(a6.kd bn bV),(fun b_ h_=>(aj b_ h_).elim (fun h=>h.elim (fun h=>((show Og Ac1 Ac1 Ac2 w from (fun b_ h_=>.inl (.inl h_))) b_ h)) (fun h=>((show Og Ac2 Ac1 Ac2 w from (fun b_ h_=>.inl (.inr h_))) b_ h))) (fun h=>.inr oB)),(a7.kd bn bW),(fun b_ h_=>(ak b_ h_).elim (fun h=>h.elim (fun h=>((show Og Ac1 Ac1 Ac2 w from (fun b_ h_=>.inl (.inl h_))) b_ h)) (fun h=>((show Og Ac2 Ac1 Ac2 w from (fun b_ h_=>.inl (.inr h_))) b_ h))) (fun h=>.inr oB)),de,dL,bV,dO,bW,dJ,dK,dI,dM,dN,ce,cf,cg,d7,d8,d9,ea⟩))⟩
        rintro hG iH ⟨O,aG,bD,P,aH,bE,co,bO,ep,cU,et,cX,eu,fx,fy,fz,fB,fC,fD,dH,fE,fF,gF,gG,gH,fW,fX,fY,fZ⟩
        rw [← sA co]
        have gZ:=bO.size
        refine We (retCT G G agg37 eu G (v:=str _) G ?_)
        refine ⟨O,aG,bD,P,aH,bE,eR (eT2 (e8 ?_ ?_ ?_ ?_ ?_ ?_) (eS ?_)),(oq ep ?_),(oq et ?_),dH,cU,cX,(Z.new bO oB)⟩ <;> (rw [run_3 (k:=k) oB (And.right ‹_∧AllNum _›) oB oI]; try rfl)
       ·refine Ws (Wr (Q (r_eqs (s:=(gt (splitB (32:UInt8) s) 0)) (r:=([104,97,110,100]:List UInt8)) G G)<|Q (aB G)<|Qn (Wd G (fun eJ=>?_) (fun eJ=>?_))))
        ·refine Ws (WA (Kp (fun b_=>b_=a) z) (fun f' w'=>∃ (R:Option Addr) (aJ:Nat) (bF:Nat) (S:Option Addr) (aK:Nat) (bG:Nat),At f' [(2,pt B),(4,pt a),(5,str ((spec_l34Make c (⟨5,(gt (nmW s k) 0),(gt (nmW s k) 1),(gt (nmW s k) 2)⟩:LibraryStep)).2))]∧(Kp (fun b_=>b_=a) z w')∧(SlO w' Bc1 encLMap 3 102 R aJ bF (((spec_l34Make c (⟨5,(gt (nmW s k) 0),(gt (nmW s k) 1),(gt (nmW s k) 2)⟩:LibraryStep)).1).Library.Maps))∧(Og R Ac1 Ac2 w)∧(SlO w' Bc2 encAway 2 129 S aK bG (((spec_l34Make c (⟨5,(gt (nmW s k) 0),(gt (nmW s k) 1),(gt (nmW s k) 2)⟩:LibraryStep)).1).Library.Away))∧(Og S Ac1 Ac2 w)∧(Blk w' a 37 (cCn R aJ bF S aK bG ((spec_l34Make c (⟨5,(gt (nmW s k) 0),(gt (nmW s k) 1),(gt (nmW s k) 2)⟩:LibraryStep)).1)))∧(¬R=some ⟨B,0,none⟩)∧(¬R=some ⟨a,0,none⟩)∧(¬S=some ⟨B,0,none⟩)∧(¬S=some ⟨a,0,none⟩)∧Dj R u∧Dj R y∧Dj R S∧Dj S u∧Dj S y∧((nmW s k)[0]?=some (gt (nmW s k) 0))∧((nmW s k)[1]?=some (gt (nmW s k) 1))∧((nmW s k)[2]?=some (gt (nmW s k) 2))∧(aJ=(((spec_l34Make c (⟨5,(gt (nmW s k) 0),(gt (nmW s k) 1),(gt (nmW s k) 2)⟩:LibraryStep)).1).Library.Maps).length)∧((aJ:Int)≤9223372036854775807)∧(aK=(((spec_l34Make c (⟨5,(gt (nmW s k) 0),(gt (nmW s k) 1),(gt (nmW s k) 2)⟩:LibraryStep)).1).Library.Away).length)∧((aK:Int)≤9223372036854775807)) mo ?_ ?_)
         ·intro eW d
          have g0:=d.size
          refine Ak 0 G (kr d) (fun w' hw'=>lG agg37 G (q.kn hw' oB) G)<|Ak 1 G (kr d) (fun w' hw'=>mL G)<|?_
          have ch:=((j.lo d).rd).elem (i:=0) oB
          refine Ak 2 G (kr d) (fun w' hw'=>rX tsl93 ((j.kd hw' p).rd) G G oB)<|Ak 3 G (kr d) (fun w' hw'=>r_ld (v:=i6 (gt (nmW s k) 0)) sca3 G (((j.kd hw' p).rd).cell0 ch G))<|Ak 4 G (kr d) (fun w' hw'=>mL G)<|?_
          have ci:=((j.lo d).rd).elem (i:=1) oB
          refine Ak 5 G (kr d) (fun w' hw'=>rX tsl93 ((j.kd hw' p).rd) G G oB)<|Ak 6 G (kr d) (fun w' hw'=>r_ld (v:=i6 (gt (nmW s k) 1)) sca3 G (((j.kd hw' p).rd).cell0 ci G))<|Ak 7 G (kr d) (fun w' hw'=>mL G)<|?_
          have cj:=((j.lo d).rd).elem (i:=2) oB
          refine Ak 8 G (kr d) (fun w' hw'=>rX tsl93 ((j.kd hw' p).rd) G G oB)<|Ak 9 G (kr d) (fun w' hw'=>r_ld (v:=i6 (gt (nmW s k) 2)) sca3 G (((j.kd hw' p).rd).cell0 cj G))<|Ak 10 G (kr d) (fun w' hw'=>r_build (vs:=[(0,i6 5),(1,i6 (gt (nmW s k) 0)),(2,i6 (gt (nmW s k) 1)),(3,i6 (gt (nmW s k) 2))]) G (bld106_0_1_2_3 _ _ _ _))<|Ab 11 G (Qc ent87 (c_spec_l34Make eW c (H.lo d) (I.lo d) (⟨5,(gt (nmW s k) 0),(gt (nmW s k) 1),(gt (nmW s k) 2)⟩:LibraryStep) hdc_Library_Maps_c2 oB oB) G ?_)
          rintro e iI ⟨az,cN,cA,aA,cO,cB,rfl,a8,ba,dQ,al,am,bo⟩
          refine ⟨_,G,?_⟩
          have g2:=bo.size
          have aR:=((kr d:Kp (fun b_=>b_=a) z _)).lo bo
          have dR:Dj az u:=fun b_ e' h'=>(al b_ e').elim (fun h=>h.elim (fun h=>(dj V (m.lo d)) b_ h h') (fun h=>(dj X (m.lo d)) b_ h h')) (fun h=>by have:=(m.lo d).base_le h'; omega)
          have dS:Dj az y:=fun b_ e' h'=>(al b_ e').elim (fun h=>h.elim (fun h=>(fun b_ h h'=>T b_ h' h) b_ h h') (fun h=>(fun b_ h h'=>U b_ h' h) b_ h h')) (fun h=>by have:=(j.lo d).base_le h'; omega)
          have dT:¬az=some ⟨B,0,none⟩:=fun e'=>(al B e').elim (fun h=>h.elim (fun h=>aV h) (fun h=>aa h)) (fun h=>by have:=(q.lo d).lt; omega)
          have bX:¬az=some ⟨a,0,none⟩:=fun e'=>(al a e').elim (fun h=>h.elim (fun h=>E h) (fun h=>F h)) (fun h=>by have:=(t.lo d).lt; omega)
          have dU:Dj aA u:=fun b_ e' h'=>(am b_ e').elim (fun h=>h.elim (fun h=>(dj V (m.lo d)) b_ h h') (fun h=>(dj X (m.lo d)) b_ h h')) (fun h=>by have:=(m.lo d).base_le h'; omega)
          have dV:Dj aA y:=fun b_ e' h'=>(am b_ e').elim (fun h=>h.elim (fun h=>(fun b_ h h'=>T b_ h' h) b_ h h') (fun h=>(fun b_ h h'=>U b_ h' h) b_ h h')) (fun h=>by have:=(j.lo d).base_le h'; omega)
          have dW:¬aA=some ⟨B,0,none⟩:=fun e'=>(am B e').elim (fun h=>h.elim (fun h=>aV h) (fun h=>aa h)) (fun h=>by have:=(q.lo d).lt; omega)
          have bY:¬aA=some ⟨a,0,none⟩:=fun e'=>(am a e').elim (fun h=>h.elim (fun h=>E h) (fun h=>F h)) (fun h=>by have:=(t.lo d).lt; omega)
          have ed:=a8.len
          have ee:=a8.rd.bound
          have ef:=ba.len
          have eg:=ba.rd.bound
          refine Qn ⟨aR,_,G,(Ak 12 G aR (fun w' hw'=>xG G G)<|Ak 13 G aR (fun w' hw'=>xS G G)<|Ab 14 G (Qw (o:=0) (vs:=(cCn az cN cA aA cO cB ((spec_l34Make c (⟨5,(gt (nmW s k) 0),(gt (nmW s k) 1),(gt (nmW s k) 2)⟩:LibraryStep)).1))) agg37.2 G G G G ((t.lo d).lo bo) ler G ?_))⟩
          intro iJ bp gx df
          have bg:=aR.step bp (fun _ _ e=>e)
          refine Qn ⟨bg,_,G,(Ak 15 G bg (fun w' hw'=>aS G)<|Ad oC (⟨az,cN,cA,aA,cO,cB,(At.r G),bg,(a8.kd bp bX),(fun b_ h_=>(al b_ h_).elim (fun h=>h.elim (fun h=>((show Og Ac1 Ac1 Ac2 w from (fun b_ h_=>.inl (.inl h_))) b_ h)) (fun h=>((show Og Ac2 Ac1 Ac2 w from (fun b_ h_=>.inl (.inr h_))) b_ h))) (fun h=>.inr oB)),(ba.kd bp bY),(fun b_ h_=>(am b_ h_).elim (fun h=>h.elim (fun h=>((show Og Ac1 Ac1 Ac2 w from (fun b_ h_=>.inl (.inl h_))) b_ h)) (fun h=>((show Og Ac2 Ac1 Ac2 w from (fun b_ h_=>.inl (.inr h_))) b_ h))) (fun h=>.inr oB)),df,dT,bX,dW,bY,dR,dS,dQ,dU,dV,ch,ci,cj,ed,ee,ef,eg⟩))⟩
         rintro hH iK ⟨R,aJ,bF,S,aK,bG,cp,bP,ew,cY,ex,cZ,ey,fG,fH,fI,fJ,fK,fL,dP,fM,fN,gI,gJ,gK,f0,f4,f5,f6⟩
         rw [← sA cp]
         have g5:=bP.size
         refine We (retCT G G agg37 ey G (v:=str _) G ?_)
         refine ⟨R,aJ,bF,S,aK,bG,eR (eT2 (e8 ?_ ?_ ?_ ?_ ?_ ?_) (eS ?_)),(oq ew ?_),(oq ex ?_),dP,cY,cZ,(Z.new bP oB)⟩ <;> (rw [run_3h (k:=k) oB (And.right ‹_∧AllNum _›) oB oI oI]; try rfl)
        ·refine Wk (Ws (Wr (Q (lG agg37 G q G)<|Qw (o:=0) (vs:=(cCn Ac1 nc1 cc1 Ac2 nc2 cc2 c)) agg37.2 G G G G t ler G ?_)))
         intro iL bq gy dg
         refine Q (r_as (v:=str ([63]:List UInt8)) G)<|Qn (We (retCT G G agg37 dg G (v:=str _) G ?_))
         refine ⟨Ac1,nc1,cc1,Ac2,nc2,cc2,eR (eT2 (e8 ?_ ?_ ?_ ?_ ?_ ?_) (eS ?_)),(oq (H.kd bq E) ?_),(oq (I.kd bq F) ?_),hdc_Library_Maps_c2,(fun b_ h_=>.inl (.inl h_)),(fun b_ h_=>.inl (.inr h_)),(Z.new bq)⟩ <;> (rw [run_3n (k:=k) oB (And.right ‹_∧AllNum _›) oB oI oI]; try rfl)
      ·refine Wk (Ws (Wr (Q (lG agg37 G q G)<|Qw (o:=0) (vs:=(cCn Ac1 nc1 cc1 Ac2 nc2 cc2 c)) agg37.2 G G G G t ler G ?_)))
       intro iM bs gz dh
       refine Q (r_as (v:=str ([63]:List UInt8)) G)<|Qn (We (retCT G G agg37 dh G (v:=str _) G ?_))
       refine ⟨Ac1,nc1,cc1,Ac2,nc2,cc2,eR (eT2 (e8 ?_ ?_ ?_ ?_ ?_ ?_) (eS ?_)),(oq (H.kd bs E) ?_),(oq (I.kd bs F) ?_),hdc_Library_Maps_c2,(fun b_ h_=>.inl (.inl h_)),(fun b_ h_=>.inl (.inr h_)),(Z.new bs)⟩ <;> (rw [run_n (k:=k) oB (And.right ‹_∧AllNum _›) oB]; try rfl)
end Go.Proofs.YtndcchndcghmoaaGreatDoor
namespace Go.Proofs.YtndcchndcghmoaaGreatDoor
open Go Go.RowKit Fw
set_option maxRecDepth 10000
set_option maxHeartbeats 2000000
set_option linter.unusedVariables false
variable {Ax1 Ax2 : Option Addr} {nx1 cx1 Bx1 nx2 cx2 Bx2 : Nat}
theorem ent56:Ent Tryz.prog 56:=en Tryz.func56
theorem ent95:Ent Tryz.prog 95:=en Tryz.func95
theorem ent96:Ent Tryz.prog 96:=en Tryz.func96
theorem ent97:Ent Tryz.prog 97:=en Tryz.func97
theorem ent98:Ent Tryz.prog 98:=en Tryz.func98
theorem c_impl_reply (w:World) (x:Library) (an:SlO w Bx1 encLMap 3 102 Ax1 nx1 cx1 x.Maps) (ap:SlO w Bx2 encAway 2 129 Ax2 nx2 cx2 x.Away) (s:List UInt8) (hdx_Maps_x2:Dj Ax1 Ax2) (cT:(nx1:Int)≤8) (cU:(nx2:Int)≤8) (cX:LibOK x) (cY:(s.length:Int)≤200) (hE:EnvW w):Calls Tryz.prog 49 #[.agg (List.toArray (cLb Ax1 nx1 cx1 Ax2 nx2 cx2 x)),str s] w fun e w'=>∃ A1' n1' c1' A2' n2' c2',e=.returned (.tuple (List.toArray [.agg (List.toArray (cLb A1' n1' c1' A2' n2' c2' ((repN x s).1))),str ((repN x s).2.1),.bool ((repN x s).2.2)]))∧SlO w' Bx1 encLMap 3 102 A1' n1' c1' (((repN x s).1).Maps)∧SlO w' Bx2 encAway 2 129 A2' n2' c2' (((repN x s).1).Away)∧Dj A1' A2'∧(Og A1' Ax1 Ax2 w)∧(Og A2' Ax1 Ax2 w)∧Lo w w':=by
 refine cW 82 Tryz.func49 G G G ?_
 have bJ:=an.rd.cap
 have bF:=an.rd.bd
 have bH:=an.rd.bound
 have bR:=an.len
 have bC:=an.bd
 have bK:=ap.rd.cap
 have bG:=ap.rd.bd
 have bI:=ap.rd.bound
 have bS:=ap.len
 have bD:=ap.bd
 refine Ws (Wr (bx G ?_))
 intro g1 w2 cS aH cZ bE
 refine Qa (l:=zLb) tz34 G ?_
 intro u aO ci ax cB bp
 have aR:=((lr w).lo aH).lo ax
 have aE:=nE (g:=u) (an.lo aH)
 have aF:=nE (g:=u) (ap.lo aH)
 refine Q (r_as (v:=str ([]:List UInt8)) G)<|Q (aB G)<|Qn (Ws (Wr (Q (mS G)<|Qc ent56 (c_strings_Split1 aO s ([32]:List UInt8) oB G (hE.lo aR)) G ?_)))
 rintro e E ⟨j,y,f,rfl,aw,M⟩
 refine ⟨_,G,?_⟩
 have cD:=M.size
 have ck:=aw.len
 have cl:=aw.rd.bound
 have cq:=splitB_len (32:UInt8) s
 refine Q (aL G)<|Qn (Ws (Wr (Q (r_as (v:=.slice none 0 0) G)<|Qn (Ws (Ws (Wr (Q (mL G)<|Q (r_cutl (l:=1) tsl44 G G G oB)<|Q (r_len und44 G)<|Q (r_mv (v:=i6 0) G)<|Qn (Wl (WL (σ:=Nat × (Option Addr) × Nat × Nat) (fun g=>[(2,pt g1),(4,pt u),(7,.slice j y f),(8,.slice g.2.1 g.2.2.1 g.2.2.2),(23,.slice (cutA j f 1 1) (y-1) (f-1)),(24,i6 ((y-1:Nat):Int)),(25,i6 (g.1:Int))]) (fun g w'=>(Lo w w')∧(Blk w' g1 34 (cLb Ax1 nx1 cx1 Ax2 nx2 cx2 x))∧(SlO w' Bx1 encLMap 3 102 Ax1 nx1 cx1 x.Maps)∧(SlO w' Bx2 encAway 2 129 Ax2 nx2 cx2 x.Away)∧(Blk w' u 34 zLb)∧(SlO w' aO.heap.size encS 1 9 j y f (splitB (32:UInt8) s))∧(SlR w' E.heap.size encS 1 (cutA j f 1 1) (y-1) (f-1) ((splitB (32:UInt8) s).drop 1))∧(SlO w' w.heap.size encI 1 3 g.2.1 g.2.2.1 g.2.2.2 (numsW (((splitB (32:UInt8) s).drop 1).take g.1)))∧(¬g.2.1=some ⟨g1,0,none⟩)∧(∀ b_,g.2.1=some ⟨b_,0,none⟩→¬Ax1=some ⟨b_,0,none⟩)∧(∀ b_,g.2.1=some ⟨b_,0,none⟩→¬Ax2=some ⟨b_,0,none⟩)∧(¬g.2.1=some ⟨u,0,none⟩)∧(∀ b_,g.2.1=some ⟨b_,0,none⟩→¬j=some ⟨b_,0,none⟩)∧(g.1≤((splitB (32:UInt8) s).drop 1).length∧AllNum (((splitB (32:UInt8) s).drop 1).take g.1))) (fun g=>((splitB (32:UInt8) s).drop 1).length-g.1) (0,(none:Option Addr),0,0) ?_ ?_ ?_)))))))))
 ·exact (At.r G)
 ·show (Lo w E)∧(Blk E g1 34 (cLb Ax1 nx1 cx1 Ax2 nx2 cx2 x))∧(SlO E Bx1 encLMap 3 102 Ax1 nx1 cx1 x.Maps)∧(SlO E Bx2 encAway 2 129 Ax2 nx2 cx2 x.Away)∧(Blk E u 34 zLb)∧(SlO E aO.heap.size encS 1 9 j y f (splitB (32:UInt8) s))∧(SlR E E.heap.size encS 1 (cutA j f 1 1) (y-1) (f-1) ((splitB (32:UInt8) s).drop 1))∧(SlO E w.heap.size encI 1 3 (none:Option Addr) 0 0 (numsW (((splitB (32:UInt8) s).drop 1).take 0)))∧(¬(none:Option Addr)=some ⟨g1,0,none⟩)∧(∀ b_,(none:Option Addr)=some ⟨b_,0,none⟩→¬Ax1=some ⟨b_,0,none⟩)∧(∀ b_,(none:Option Addr)=some ⟨b_,0,none⟩→¬Ax2=some ⟨b_,0,none⟩)∧(¬(none:Option Addr)=some ⟨u,0,none⟩)∧(∀ b_,(none:Option Addr)=some ⟨b_,0,none⟩→¬j=some ⟨b_,0,none⟩)∧(0≤((splitB (32:UInt8) s).drop 1).length∧AllNum (((splitB (32:UInt8) s).drop 1).take 0))
  exact ⟨(aR.lo M),((bE.lo ax).lo M),((an.lo aH).lo ax).lo M,((ap.lo aH).lo ax).lo M,bp.lo M,aw,aw.rd.cutl (l:=1) oB,(oq (SlO.nil (base:=w.heap.size) (e:=3) (enc:=encI) (fun _=>G) oB) oU),(fun e=>by cases e),(fun b_ h=>by cases h),(fun b_ h=>by cases h),(fun e=>by cases e),(fun b_ h=>by cases h),(by (try dsimp only); exact ⟨Nat.zero_le _,fun _ h=>by simp at h⟩)⟩
 ·rintro ⟨k,ag,aQ,bi⟩ bA K bo
  obtain ⟨au,X,Y,Z,aa,B,ay,F,aU,aV,aW,aX,aG,bu⟩:(Lo w K)∧(Blk K g1 34 (cLb Ax1 nx1 cx1 Ax2 nx2 cx2 x))∧(SlO K Bx1 encLMap 3 102 Ax1 nx1 cx1 x.Maps)∧(SlO K Bx2 encAway 2 129 Ax2 nx2 cx2 x.Away)∧(Blk K u 34 zLb)∧(SlO K aO.heap.size encS 1 9 j y f (splitB (32:UInt8) s))∧(SlR K E.heap.size encS 1 (cutA j f 1 1) (y-1) (f-1) ((splitB (32:UInt8) s).drop 1))∧(SlO K w.heap.size encI 1 3 ag aQ bi (numsW (((splitB (32:UInt8) s).drop 1).take k)))∧(¬ag=some ⟨g1,0,none⟩)∧Dj ag Ax1∧Dj ag Ax2∧(¬ag=some ⟨u,0,none⟩)∧Dj ag j∧(k≤((splitB (32:UInt8) s).drop 1).length∧AllNum (((splitB (32:UInt8) s).drop 1).take k)):=bo
  refine (?_:W _ _ _ _ _ (act _ (sets bA [(2,pt g1),(4,pt u),(7,.slice j y f),(8,.slice ag aQ bi),(23,.slice (cutA j f 1 1) (y-1) (f-1)),(24,i6 ((y-1:Nat):Int)),(25,i6 (k:Int))])) _)
  have ch:=au.size
  have cm:=X.lt
  have cn:=aa.lt
  have co:=F.len
  have cp:=F.rd.bound
  have cr:k≤((splitB (32:UInt8) s).drop 1).length:=bu.1
  have ct:(numsW (((splitB (32:UInt8) s).drop 1).take k)).length=k:=nmD_len (D:=((splitB (32:UInt8) s).drop 1)) (k:=k) oB
  have cu:(splitB (32:UInt8) s).length≤s.length+1:=splitB_max (32:UInt8) s
  have cw:((splitB (32:UInt8) s).drop 1).length+1=(splitB (32:UInt8) s).length∨(splitB (32:UInt8) s).length=0:=drop_len (splitB (32:UInt8) s)
  refine Ws (Wr (Q (r_lt G G)<|Qn (Ws (Wd G (fun bB=>?_) (fun bB=>?_)))))
  ·refine Wk (Ws (Wl (Ws ?_)))
   have aY:=ay.elem (i:=k) oB
   have cx:=dropB_el aY
   refine Wr (Q (rX tsl44 ay G G oB)<|Q (r_ld (v:=str (gt ((splitB (32:UInt8) s).drop 1) k)) sca9 G (ay.cell0 aY G))<|Q (aS G)<|Qn (Ws (Wr (Q (mS G)<|Qv ent95 (c_impl_ParseInt K (gt ((splitB (32:UInt8) s).drop 1) k) oB (hE.lo au)) G fun c6 a cE=>?_))))
   have aT:=au.lo a
   have cy:-999999≤(readN (gt ((splitB (32:UInt8) s).drop 1) k)).1∧(readN (gt ((splitB (32:UInt8) s).drop 1) k)).1≤999999:=readN_rng (gt ((splitB (32:UInt8) s).drop 1) k)
   refine Q (mT G)<|Q (xI G G)<|Q (xB G G)<|Q (aI G)<|Q (aB G)<|Qn (Ws (Ws (Wr (Q (mB G)<|Q (rN G)<|Qn (Wb G (fun aZ=>?_) (fun aZ=>?_))))))
   ·have cz:=bnot_t aZ
    refine Ws (Wr (Q (lG agg34 G (X.lo a) G)<|Qw (o:=0) (vs:=(cLb Ax1 nx1 cx1 Ax2 nx2 cx2 x)) agg34.2 G G G G (aa.lo a) ler G ?_))
    intro c7 aJ cC bq
    refine Q (r_as (v:=str ([]:List UInt8)) G)<|Q (aB G)<|Qn (We (retCTT G G agg34 bq G (v:=str _) G (v':=.bool _) G ?_))
    refine ⟨Ax1,nx1,cx1,Ax2,nx2,cx2,eR (eT3 (e5 ?_ ?_ ?_) (eS ?_) (eB ?_)),(oq ((Y.lo a).kd aJ aE) ?_),(oq ((Z.lo a).kd aJ aF) ?_),hdx_Maps_x2,(fun b_ h_=>.inl (.inl h_)),(fun b_ h_=>.inl (.inr h_)),(aT.new aJ)⟩ <;> (rw [rep_bad ‹_[_]?=some _› ‹(!_)=true›]; try rfl)
   ·have cA:=bnot_f aZ
    refine Wk (Wr (Q (mL G)<|Q (mI G)<|Ql (vs:=[i6 ((readN (gt ((splitB (32:UInt8) s).drop 1) k)).1)]) (L:=([(readN (gt ((splitB (32:UInt8) s).drop 1) k)).1]:List Int)) (enc:=encI) tel93 (fun _=>G) G G G oG ?_))
    intro cR da cj b bm
    have cF:=b.size
    refine Qp tel93 G G ((F.lo a).lo b) (bm.rd) (fun _=>G) oB oB ?_
    intro C bj ae A bn V
    have cG:=A.size
    have bs:Dj C Ax1:=fun b_ e' h'=>(V b_ e').elim (fun h=>aV b_ (h.trans e') h') (fun h=>by have:=((Y.lo a).lo b).base_le h'; omega)
    have bt:Dj C Ax2:=fun b_ e' h'=>(V b_ e').elim (fun h=>aW b_ (h.trans e') h') (fun h=>by have:=((Z.lo a).lo b).base_le h'; omega)
    have bc:¬C=some ⟨g1,0,none⟩:=fun e'=>(V g1 e').elim (fun h=>aU (h.trans e')) (fun h=>by have:=((X.lo a).lo b).lt; omega)
    have be:¬C=some ⟨u,0,none⟩:=fun e'=>(V u e').elim (fun h=>aX (h.trans e')) (fun h=>by have:=((aa.lo a).lo b).lt; omega)
    have bf:Dj C j:=fun b_ e' h'=>(V b_ e').elim (fun h=>aG b_ (h.trans e') h') (fun h=>by have:=((B.lo a).lo b).base_le h'; omega)
    refine Q (aL G)<|Qn ?_
    have bh:=((ay.lo a).lo b).kpb A (fun hn_ e'=>aG _ e' (((B.lo a).lo b).cutb oB))
    refine Wr (Q (r_add G G oB)<|Q (mI G)<|Qn (⟨(k+1,C,aQ+1,bj),_,G,(At.r G),(show (Lo w ae)∧(Blk ae g1 34 (cLb Ax1 nx1 cx1 Ax2 nx2 cx2 x))∧(SlO ae Bx1 encLMap 3 102 Ax1 nx1 cx1 x.Maps)∧(SlO ae Bx2 encAway 2 129 Ax2 nx2 cx2 x.Away)∧(Blk ae u 34 zLb)∧(SlO ae aO.heap.size encS 1 9 j y f (splitB (32:UInt8) s))∧(SlR ae E.heap.size encS 1 (cutA j f 1 1) (y-1) (f-1) ((splitB (32:UInt8) s).drop 1))∧(SlO ae w.heap.size encI 1 3 C (aQ+1) bj (numsW (((splitB (32:UInt8) s).drop 1).take (k+1))))∧(¬C=some ⟨g1,0,none⟩)∧Dj C Ax1∧Dj C Ax2∧(¬C=some ⟨u,0,none⟩)∧Dj C j∧(k+1≤((splitB (32:UInt8) s).drop 1).length∧AllNum (((splitB (32:UInt8) s).drop 1).take (k+1))) from ⟨((aT.lo b).step A (fun i_ hi_ e'=>by have:=((F.lo a).lo b).base_le e'; first | omega | exact e' | exact .inl e' | exact .inr e')),(((X.lo a).lo b).kp A (fun e'=>aU e')),(((Y.lo a).lo b).kp A (fun b_ hb e'=>aV b_ e' hb)),(((Z.lo a).lo b).kp A (fun b_ hb e'=>aW b_ e' hb)),(((aa.lo a).lo b).kp A (fun e'=>aX e')),(((B.lo a).lo b).kp A (fun b_ hb e'=>aG b_ e' hb)),bh,(oq bn (by exact nmD_next ‹_[_]?=some _›)),bc,bs,bt,be,bf,?_⟩),?_⟩))
    ·exact (by (try dsimp only); exact ⟨oB,allD_next (And.right ‹_∧AllNum _›) ‹_[_]?=some _› ‹(!_)=false›⟩)
    ·exact oH
  ·refine Wx (xh (Ws (Ws (Wr (Q (mL G)<|?_)))))
   have ao:=(B.rd).elem (i:=0) oB
   have bT:=splitB_gt (32:UInt8) s
   have bU:=splitB_el ao
   refine Q (rX tsl44 (B.rd) G G oB)<|Q (r_ld (v:=str (gt (splitB (32:UInt8) s) 0)) sca9 G ((B.rd).cell0 ao G))<|Q (mL G)<|Qv ent96 (c_impl_stepFor K (gt (splitB (32:UInt8) s) 0) (numsW (((splitB (32:UInt8) s).drop 1).take k)) (F.rd)) G fun cH c cd=>(Q (mT G)<|Q (xG G G)<|Q (xB G G)<|Qa (l:=[i6 0,i6 0,i6 0,i6 0]) tz106 G ?_)
   intro aq cI bL p b4 a6
   refine Qw (o:=0) (vs:=[i6 (((impl_stepFor (gt (splitB (32:UInt8) s) 0) (numsW (((splitB (32:UInt8) s).drop 1).take k))).1).Kind),i6 (((impl_stepFor (gt (splitB (32:UInt8) s) 0) (numsW (((splitB (32:UInt8) s).drop 1).take k))).1).Id),i6 (((impl_stepFor (gt (splitB (32:UInt8) s) 0) (numsW (((splitB (32:UInt8) s).drop 1).take k))).1).Reader),i6 (((impl_stepFor (gt (splitB (32:UInt8) s) 0) (numsW (((splitB (32:UInt8) s).drop 1).take k))).1).Value)]) agg106.2 G G G G a6 ler G ?_
   intro bw q b5 aC
   have ah:=((au.lo c).lo p).new q
   refine Q (aB G)<|Qn (Ws ?_)
   have P:=((X.lo c).lo p).kn q
   have I:=((Y.lo c).lo p).kd q (nE (g:=aq) (Y.lo c))
   have J:=((Z.lo c).lo p).kd q (nE (g:=aq) (Z.lo c))
   have aK:=((aa.lo c).lo p).kn q
   have aM:=((B.lo c).lo p).kd q (nE (g:=aq) (B.lo c))
   refine Wr (Q (mB G)<|Qn (Wb G (fun bl=>?_) (fun bl=>?_)))
   ·refine Ws (Wr (Q (lG agg34 G P G)<|Q (r_lda (l:=[i6 (((impl_stepFor (gt (splitB (32:UInt8) s) 0) (numsW (((splitB (32:UInt8) s).drop 1).take k))).1).Kind),i6 (((impl_stepFor (gt (splitB (32:UInt8) s) 0) (numsW (((splitB (32:UInt8) s).drop 1).take k))).1).Id),i6 (((impl_stepFor (gt (splitB (32:UInt8) s) 0) (numsW (((splitB (32:UInt8) s).drop 1).take k))).1).Reader),i6 (((impl_stepFor (gt (splitB (32:UInt8) s) 0) (numsW (((splitB (32:UInt8) s).drop 1).take k))).1).Value)]) agg106 G (fun _ _ hu=>aC.cell hu) G)<|Qc ent97 (c__impl_Library__stepped bw x (I.rd) (J.rd) ((impl_stepFor (gt (splitB (32:UInt8) s) 0) (numsW (((splitB (32:UInt8) s).drop 1).take k))).1) oB oB) G ?_))
    rintro e cJ ⟨R,ab,T,S,ac,U,rfl,N,O,bg,d⟩
    refine ⟨_,G,?_⟩
    have ce:=d.size
    have bN:=N.len
    have bO:=N.rd.bound
    have bV:=(stepped_lenL x ((impl_stepFor (gt (splitB (32:UInt8) s) 0) (numsW (((splitB (32:UInt8) s).drop 1).take k))).1)).1
    have bP:=O.len
    have bQ:=O.rd.bound
    have bW:=(stepped_lenL x ((impl_stepFor (gt (splitB (32:UInt8) s) 0) (numsW (((splitB (32:UInt8) s).drop 1).take k))).1)).2
    refine Q (mT G)<|Q (xG G G)<|Q (xB G G)<|Qa (l:=zLb) tz34 G ?_
    intro ar cK bM m b6 a7
    refine Qw (o:=0) (vs:=(cLb R ab T S ac U ((impl_Library_stepped x ((impl_stepFor (gt (splitB (32:UInt8) s) 0) (numsW (((splitB (32:UInt8) s).drop 1).take k))).1)).1))) agg34.2 G G G G a7 ler G ?_
    intro bz n b7 aD
    have ai:=((ah.lo d).lo m).new n
    refine Q (aB G)<|Qn (Ws (Ws ?_))
    have aN:=((aK.lo d).lo m).kn n
    have al:=(N.lo m).kd n (nE (g:=ar) N)
    have am:=(O.lo m).kd n (nE (g:=ar) O)
    refine Wr (Q (mB G)<|Q (rN G)<|Qn (Wb G (fun aA=>?_) (fun aA=>?_)))
    ·have bX:=bnot_t aA
     refine Ws (Wr (Q (lG agg34 G (((P.lo d).lo m).kn n) G)<|Qw (o:=0) (vs:=(cLb Ax1 nx1 cx1 Ax2 nx2 cx2 x)) agg34.2 G G G G aN ler G ?_))
     intro cM aj b8 a8
     refine Q (r_as (v:=str ([]:List UInt8)) G)<|Q (aB G)<|Qn (We (retCTT G G agg34 a8 G (v:=str _) G (v':=.bool _) G ?_))
     refine ⟨Ax1,nx1,cx1,Ax2,nx2,cx2,eR (eT3 (e5 ?_ ?_ ?_) (eS ?_) (eB ?_)),(oq ((((I.lo d).lo m).kd n (nE (g:=ar) (I.lo d))).kd aj aE) ?_),(oq ((((J.lo d).lo m).kd n (nE (g:=ar) (J.lo d))).kd aj aF) ?_),hdx_Maps_x2,(fun b_ h_=>.inl (.inl h_)),(fun b_ h_=>.inl (.inr h_)),(ai.new aj)⟩ <;> (rw [rep_no (k:=k) oB (And.right ‹_∧AllNum _›) oI oI]; try rfl)
    ·have bY:=bnot_f aA
     refine Wk (Ws (Wr (Q (r_lda (l:=(cLb R ab T S ac U ((impl_Library_stepped x ((impl_stepFor (gt (splitB (32:UInt8) s) 0) (numsW (((splitB (32:UInt8) s).drop 1).take k))).1)).1))) agg34 G (fun _ _ hu=>aD.cell hu) G)<|Q (fA fa106_1 G)<|Q (lB sca3 G (((aC.lo d).lo m).kn n) G)<|Qv ent73 (c_impl_MapText bz ((impl_Library_stepped x ((impl_stepFor (gt (splitB (32:UInt8) s) 0) (numsW (((splitB (32:UInt8) s).drop 1).take k))).1)).1) (al.rd) (am.rd) (((impl_stepFor (gt (splitB (32:UInt8) s) 0) (numsW (((splitB (32:UInt8) s).drop 1).take k))).1).Id) oB (hE.lo ai)) G fun cN t cf=>?_)))
     have bZ:(mapT ((impl_Library_stepped x ((impl_stepFor (gt (splitB (32:UInt8) s) 0) (numsW (((splitB (32:UInt8) s).drop 1).take k))).1)).1) (((impl_stepFor (gt (splitB (32:UInt8) s) 0) (numsW (((splitB (32:UInt8) s).drop 1).take k))).1).Id)).1.length≤75:=mapT_len ((impl_Library_stepped x ((impl_stepFor (gt (splitB (32:UInt8) s) 0) (numsW (((splitB (32:UInt8) s).drop 1).take k))).1)).1) (((impl_stepFor (gt (splitB (32:UInt8) s) 0) (numsW (((splitB (32:UInt8) s).drop 1).take k))).1).Id)
     refine Q (mT G)<|Q (xS G G)<|Q (xB G G)<|Q (aS G)<|Q (aB G)<|Qn (Ws (Wr (Q (r_lda (l:=(cLb R ab T S ac U ((impl_Library_stepped x ((impl_stepFor (gt (splitB (32:UInt8) s) 0) (numsW (((splitB (32:UInt8) s).drop 1).take k))).1)).1))) agg34 G (fun _ _ hu=>(aD.lo t).cell hu) G)<|Q (mS G)<|Q (mB G)<|Qw (o:=0) (vs:=(cLb R ab T S ac U ((impl_Library_stepped x ((impl_stepFor (gt (splitB (32:UInt8) s) 0) (numsW (((splitB (32:UInt8) s).drop 1).take k))).1)).1))) agg34.2 G G G G (aN.lo t) ler G ?_)))
     intro cO H b9 ba
     refine Q (aS G)<|Q (aB G)<|Qn (We (retCTT G G agg34 ba G (v:=str _) G (v':=.bool _) G ?_))
     refine ⟨R,ab,T,S,ac,U,eR (eT3 (e5 ?_ ?_ ?_) (eS ?_) (eB ?_)),(oq (((al.lo t).kn H).down) ?_),(oq (((am.lo t).kn H).down) ?_),bg,(fun b_ h=>.inr (by have:=((al.lo t).kn H).base_le h; omega)),(fun b_ h=>.inr (by have:=((am.lo t).kn H).base_le h; omega)),((ai.lo t).new H)⟩ <;> (rw [rep_yes (k:=k) oB (And.right ‹_∧AllNum _›) oI oI]; try rfl)
   ·refine Wk (Ws (W.regD mo oC (Rq (fun w' hw'=>lG agg34 G (P.lo hw') G)<|Rq (fun w' hw'=>mL G)<|Rq (fun w' hw'=>rX tsl44 ((aM.lo hw').rd) G G oB)<|Rq (fun w' hw'=>r_ld (v:=str (gt (splitB (32:UInt8) s) 0)) sca9 G (((aM.lo hw').rd).cell0 ao G))<|Rq (fun w' hw'=>mL G)<|QR.call ent98 (fun w' hw'=>(c_impl_tell w' x ((I.lo hw').rd) ((J.lo hw').rd) (gt (splitB (32:UInt8) s) 0) (numsW (((splitB (32:UInt8) s).drop 1).take k)) (((((F.lo c).lo p).kd q (nE (g:=aq) (F.lo c))).lo hw').rd) oB oB oB oI (by exact ‹LibOK _›.1.1) (hE.lo (ah.trans hw'))).mono fun _ _ h=>⟨h.1,hw'.trans h.2⟩) G<|Rq (fun w' hw'=>mT G)<|Rq (fun w' hw'=>xS G G)<|Rq (fun w' hw'=>xB G G)<|Rq (fun w' hw'=>aS G)<|Rq (fun w' hw'=>aB G)<|QR.nil ?_)))
    intro cP z
    have cg:=z.size
    refine Ws (Wr (Q (lG agg34 G (P.lo z) G)<|Q (mS G)<|Q (mB G)<|Qw (o:=0) (vs:=(cLb Ax1 nx1 cx1 Ax2 nx2 cx2 x)) agg34.2 G G G G (aK.lo z) ler G ?_))
    intro cQ ak ca bb
    refine Q (aS G)<|Q (aB G)<|Qn (We (retCTT G G agg34 bb G (v:=str _) G (v':=.bool _) G ?_))
    refine ⟨Ax1,nx1,cx1,Ax2,nx2,cx2,eR (eT3 (e5 ?_ ?_ ?_) (eS ?_) (eB ?_)),(oq ((I.lo z).kd ak aE) ?_),(oq ((J.lo z).kd ak aF) ?_),hdx_Maps_x2,(fun b_ h_=>.inl (.inl h_)),(fun b_ h_=>.inl (.inr h_)),((ah.lo z).new ak)⟩ <;> (rw [rep_tell (k:=k) oB (And.right ‹_∧AllNum _›) oI]; try rfl)
end Go.Proofs.YtndcchndcghmoaaGreatDoor
namespace Go.Proofs.YtndcchndcghmoaaGreatDoor
open Go Go.RowKit Fw
set_option maxRecDepth 10000
set_option maxHeartbeats 2000000
set_option linter.unusedVariables false
variable {Ac1 Ac2 : Option Addr} {nc1 cc1 Bc1 nc2 cc2 Bc2 : Nat}
theorem bld71_0 (a0:List UInt8):Tryz.prog.built 71 [(0,str a0)]=some (List.toArray [str a0,str ([]:List UInt8)]):=by kernel_rfl
theorem ent35:Ent Tryz.prog 35:=en Tryz.func35
theorem ent49:Ent Tryz.prog 49:=en Tryz.func49
theorem ent50:Ent Tryz.prog 50:=en Tryz.func50
theorem c_impl_ExecuteCommand (w:World) (c:Console) (aC:SlR w Bc1 encLMap 3 Ac1 nc1 cc1 c.Library.Maps) (aD:SlR w Bc2 encAway 2 Ac2 nc2 cc2 c.Library.Away) (s:List UInt8) (cG:(c.Library.Maps.length:Int)≤1048576∧(c.Library.Away.length:Int)≤1048576∧(c.Log.Durable.length:Int)+(c.Log.Pending.length:Int)≤1048576) (cH:(s.length:Int)≤1048576) (hE:EnvW w):Calls Tryz.prog 12 #[.agg (List.toArray (cCn Ac1 nc1 cc1 Ac2 nc2 cc2 c)),str s] w fun e w'=>∃ A1' n1' c1' A2' n2' c2',e=.returned (.tuple (List.toArray [.agg (List.toArray (cCn A1' n1' c1' A2' n2' c2' ((execN c s).1))),str ((execN c s).2)]))∧SlO w' w.heap.size encLMap 3 102 A1' n1' c1' (((execN c s).1).Library.Maps)∧SlO w' w.heap.size encAway 2 129 A2' n2' c2' (((execN c s).1).Library.Away)∧Dj A1' A2'∧Lo w w':=by
 refine cW 62 Tryz.func12 G G G ?_
 have bp:=aC.bound
 have bD:=aC.len
 have bn:=aC.bd
 have bq:=aD.bound
 have bE:=aD.len
 have bo:=aD.bd
 refine Ws (Wr (bx G ?_))
 intro g1 w2 cF a7 cI bg
 refine Qa (l:=zCn) tz37 G ?_
 intro g9 bZ b7 S ch be
 refine Q (r_as (v:=str ([]:List UInt8)) G)<|Qn (Ws (Wr (Q (fA fa37_0 G)<|Q (r_lda (l:=(cLb Ac1 nc1 cc1 Ac2 nc2 cc2 c.Library)) agg34 G (fun _ _ hu=>(bg.lo S).cells (vs:=(cLb Ac1 nc1 cc1 Ac2 nc2 cc2 c.Library)) G hu) G)<|Qc ent47 (c__impl_Library__own bZ c.Library ((aC.lo a7).lo S) ((aD.lo a7).lo S) oB oB) G ?_)))
 rintro e cJ ⟨d,t,i,f,u,j,rfl,O,P,R,al⟩
 refine ⟨_,G,?_⟩
 have cm:=al.size
 have b8:=O.len
 have b9:=O.rd.bound
 have ca:=P.len
 have cd:=P.rd.bound
 refine Q (fA fa37_0 G)<|Qw (o:=0) (vs:=(cLb d t i f u j c.Library)) agg34.2 G G G G ((bg.lo S).lo al) ler G ?_
 intro b4 x ci ak
 have aH:=((((lr w).lo a7).lo S).lo al).new x
 refine Qn (Ws (Wl (Ws ?_)))
 have aA:=(be.lo al).kn x
 refine Wr (Q (lG agg37 G ak G)<|Qv ent35 (c_impl_IsValidConsole b4 c ((O.kn x).rd) ((P.kn x).rd) oB (hE.lo aH)) G fun b5 b cn=>?_)
 have aq:=aH.lo b
 refine Q (rN G)<|Q (aB G)<|Qn (Wz G (fun aN=>?_) (fun aN=>?_))
 ·refine Ws (Wr (Q (lG agg37 G (ak.lo b) G)<|Qw (o:=0) (vs:=(cCn d t i f u j c)) agg37.2 G G G G (aA.lo b) ler G ?_))
  intro cK au cj bf
  refine Q (r_as (v:=str ([110,111]:List UInt8)) G)<|Qn (We (retCT G G agg37 bf G (v:=str _) G ?_))
  refine ⟨d,t,i,f,u,j,eR (eT2 (e8 ?_ ?_ ?_ ?_ ?_ ?_) (eS ?_)),(oq ((((O.kn x).lo b).kn au).down) ?_),(oq ((((P.kn x).lo b).kn au).down) ?_),R,(aq.new au)⟩ <;> (rw [exec_no ‹¬ConOK _›]; try rfl)
 ·have ce:=con_rng aN
  have cf:=And.left aN
  refine Ws ?_
  have H:=(O.kn x).lo b
  have I:=(P.kn x).lo b
  refine Wr (Q (mS G)<|Q (r_build (vs:=[(0,str s)]) G (bld71_0 _))<|Qv ent48 (c_impl_IsValidRecord b5 (⟨s,([]:List UInt8)⟩:LogRecord) (hE.lo aq)) G fun b6 a co=>?_)
  have ah:=aq.lo a
  refine Q (rN G)<|Q (aB G)<|Qn (Wz G (fun ba=>?_) (fun ba=>?_))
  ·refine Ws (Wr (Q (lG agg37 G ((ak.lo b).lo a) G)<|Qw (o:=0) (vs:=(cCn d t i f u j c)) agg37.2 G G G G ((aA.lo b).lo a) ler G ?_))
   intro cM aw ck bh
   refine Q (r_as (v:=str ([98,97,100]:List UInt8)) G)<|Qn (We (retCT G G agg37 bh G (v:=str _) G ?_))
   refine ⟨d,t,i,f,u,j,eR (eT2 (e8 ?_ ?_ ?_ ?_ ?_ ?_) (eS ?_)),(oq (((H.lo a).kn aw).down) ?_),(oq (((I.lo a).kn aw).down) ?_),R,(ah.new aw)⟩ <;> (rw [exec_bad (c:=c) (s:=s) oJ oI]; try rfl)
  ·have cg:=rec_rngS ba
   refine Ws ?_
   have am:=(ak.lo b).lo a
   have an:=(aA.lo b).lo a
   refine Wr (Q (fA fa37_1 G)<|Q (fA fa35_2 G)<|Q (r_ld (v:=i6 c.Log.Count) sca3 G (am.cell2 G))<|Q (r_ge G G)<|Q (aB G)<|Qn (Wd G (fun bm=>?_) (fun bm=>?_)))
   ·refine Ws (Wr (Q (lG agg37 G am G)<|Qw (o:=0) (vs:=(cCn d t i f u j c)) agg37.2 G G G G an ler G ?_))
    intro cN ax cl bi
    refine Q (r_as (v:=str ([102,117,108,108]:List UInt8)) G)<|Qn (We (retCT G G agg37 bi G (v:=str _) G ?_))
    refine ⟨d,t,i,f,u,j,eR (eT2 (e8 ?_ ?_ ?_ ?_ ?_ ?_) (eS ?_)),(oq (((H.lo a).kn ax).down) ?_),(oq (((I.lo a).kn ax).down) ?_),R,(ah.new ax)⟩ <;> (rw [exec_full (c:=c) (s:=s) oJ oJ oB]; try rfl)
   ·refine Wk (Ws (Wr (Q (fA fa37_0 G)<|Q (r_lda (l:=(cLb d t i f u j c.Library)) agg34 G (fun _ _ hu=>am.cells (vs:=(cLb d t i f u j c.Library)) G hu) G)<|Q (mS G)<|Qc ent49 (c_impl_reply b6 c.Library (H.lo a) (I.lo a) s R oB oB oI oB (hE.lo ah)) G ?_)))
    rintro e cO ⟨M,ac,T,N,ae,U,rfl,ai,aj,aJ,bb,bc,y⟩
    refine ⟨_,G,?_⟩
    have cp:=y.size
    have aK:¬M=some ⟨g9,0,none⟩:=fun e'=>(bb g9 e').elim (fun h=>h.elim (fun h=>(by have:=(H.lo a).base_le h; omega)) (fun h=>(by have:=(I.lo a).base_le h; omega))) (fun h=>by have:=an.lt; omega)
    have ar:¬N=some ⟨g9,0,none⟩:=fun e'=>(bc g9 e').elim (fun h=>h.elim (fun h=>(by have:=(H.lo a).base_le h; omega)) (fun h=>(by have:=(I.lo a).base_le h; omega))) (fun h=>by have:=an.lt; omega)
    have bz:=ai.len
    have bA:=ai.rd.bound
    have bB:=aj.len
    have bC:=aj.rd.bound
    refine Q (mT G)<|Q (xG G G)<|Q (xS G G)<|Q (xB G G)<|Qa (l:=zLb) tz34 G ?_
    intro ag cq bs k bK aO
    have W:=nE (g:=ag) ((H.lo a).lo y)
    have X:=nE (g:=ag) ((I.lo a).lo y)
    refine Qw (o:=0) (vs:=(cLb M ac T N ae U ((repN c.Library s).1))) agg34.2 G G G G aO ler G ?_
    intro aM m bL V
    have z:=((ah.lo y).lo k).new m
    refine Q (aS G)<|Q (aB G)<|Qn (Ws (Wl (Ws ?_)))
    have J:=((am.lo y).lo k).kn m
    have ay:=(((H.lo a).lo y).lo k).kd m W
    have az:=(((I.lo a).lo y).lo k).kd m X
    have ab:=((an.lo y).lo k).kn m
    have K:=(ai.lo k).kd m (nE (g:=ag) ai)
    have L:=(aj.lo k).kd m (nE (g:=ag) aj)
    refine Wr (Q (mB G)<|Q (rN G)<|Q (aB G)<|Qn (Wb G (fun ao=>?_) (fun ao=>?_)))
    ·have bF:=bnot_t ao
     refine Wr (Q (fA fa37_0 G)<|Q (r_lda (l:=(cLb d t i f u j c.Library)) agg34 G (fun _ _ hu=>J.cells (vs:=(cLb d t i f u j c.Library)) G hu) G)<|Qw (o:=0) (vs:=(cLb d t i f u j c.Library)) agg34.2 G G G G V ler G ?_)
     intro bj n bM aQ
     have ap:=z.new n
     refine Q (r_as (v:=str ([63]:List UInt8)) G)<|Qn (Ws (Wr (Q (fA fa37_1 G)<|Q (r_lda (l:=[str c.Log.Durable,str c.Log.Pending,i6 c.Log.Count]) agg35 G (fun _ _ hu=>(J.kn n).cells (vs:=[str c.Log.Durable,str c.Log.Pending,i6 c.Log.Count]) G hu) G)<|Q (mS G)<|Q (mS G)<|Q (r_build (vs:=[(0,str s),(1,str ([63]:List UInt8))]) G (bld71_0_1 _ _))<|Qv ent50 (c_impl_AppendRecord bj c.Log (⟨s,([63]:List UInt8)⟩:LogRecord) oB (hE.lo ap)) G fun cr p bW=>?_)))
     have bG:(appN c.Log (⟨s,([63]:List UInt8)⟩:LogRecord)).1.Durable.length+(appN c.Log (⟨s,([63]:List UInt8)⟩:LogRecord)).1.Pending.length≤c.Log.Durable.length+c.Log.Pending.length+406:=appN_len c.Log (⟨s,([63]:List UInt8)⟩:LogRecord)
     refine Q (mT G)<|Q (xG G G)<|Q (xI G G)<|Qa (l:=[str ([]:List UInt8),str ([]:List UInt8),i6 0]) tz35 G ?_
     intro aE ct bt A bN aR
     refine Qw (o:=0) (vs:=[str (((appN c.Log (⟨s,([63]:List UInt8)⟩:LogRecord)).1).Durable),str (((appN c.Log (⟨s,([63]:List UInt8)⟩:LogRecord)).1).Pending),i6 (((appN c.Log (⟨s,([63]:List UInt8)⟩:LogRecord)).1).Count)]) agg35.2 G G G G aR ler G ?_
     intro cu B bO aT
     refine Q (aI G)<|Qn (Ws (Wr (Q (lG agg34 G (((aQ.lo p).lo A).kn B) G)<|Q (lG agg35 G aT G)<|Q (r_build (vs:=[(0,.agg (List.toArray (cLb d t i f u j c.Library))),(1,.agg (List.toArray [str (((appN c.Log (⟨s,([63]:List UInt8)⟩:LogRecord)).1).Durable),str (((appN c.Log (⟨s,([63]:List UInt8)⟩:LogRecord)).1).Pending),i6 (((appN c.Log (⟨s,([63]:List UInt8)⟩:LogRecord)).1).Count)]))]) G (bld37_0_1 _ _ _ _ _ _ _ _))<|Q (mS G)<|Qw (o:=0) (vs:=[.slice d t i,.slice f u j,i6 c.Library.Bought,i6 c.Library.Dropped,i6 c.Library.Mended,str (((appN c.Log (⟨s,([63]:List UInt8)⟩:LogRecord)).1).Durable),str (((appN c.Log (⟨s,([63]:List UInt8)⟩:LogRecord)).1).Pending),i6 (((appN c.Log (⟨s,([63]:List UInt8)⟩:LogRecord)).1).Count)]) agg37.2 G G G G ((((ab.kn n).lo p).lo A).kn B) ler G ?_)))
     intro cw Y bP aU
     refine Q (aS G)<|Qn (We (retCT G G agg37 aU G (v:=str _) G ?_))
     refine ⟨d,t,i,f,u,j,eR (eT2 (e8 ?_ ?_ ?_ ?_ ?_ ?_) (eS ?_)),(oq ((((((ay.kd n W).lo p).lo A).kd B (nE (g:=aE) ((ay.kd n W).lo p))).kn Y).down) ?_),(oq ((((((az.kd n X).lo p).lo A).kd B (nE (g:=aE) ((az.kd n X).lo p))).kn Y).down) ?_),R,((((ap.lo p).lo A).new B).new Y)⟩ <;> (rw [exec_q (c:=c) (s:=s) oJ oJ oB oI]; try rfl)
    ·have bH:=bnot_f ao
     refine Ws (Wr (Q (mS G)<|Q (r_len_s und9 G)<|Q (r_gt G G)<|Q (aB G)<|Qn (Wd G (fun a8=>?_) (fun a8=>?_))))
     ·refine Wr (Q (r_as (v:=str ([108,111,110,103]:List UInt8)) G)<|Qn (Ws (Wr (Q (fA fa37_1 G)<|Q (r_lda (l:=[str c.Log.Durable,str c.Log.Pending,i6 c.Log.Count]) agg35 G (fun _ _ hu=>J.cells (vs:=[str c.Log.Durable,str c.Log.Pending,i6 c.Log.Count]) G hu) G)<|Q (mS G)<|Q (mS G)<|Q (r_build (vs:=[(0,str s),(1,str ([108,111,110,103]:List UInt8))]) G (bld71_0_1 _ _))<|Qv ent50 (c_impl_AppendRecord aM c.Log (⟨s,([108,111,110,103]:List UInt8)⟩:LogRecord) oB (hE.lo z)) G fun cx q bX=>?_))))
      have bI:(appN c.Log (⟨s,([108,111,110,103]:List UInt8)⟩:LogRecord)).1.Durable.length+(appN c.Log (⟨s,([108,111,110,103]:List UInt8)⟩:LogRecord)).1.Pending.length≤c.Log.Durable.length+c.Log.Pending.length+406:=appN_len c.Log (⟨s,([108,111,110,103]:List UInt8)⟩:LogRecord)
      refine Q (mT G)<|Q (xG G G)<|Q (xI G G)<|Qa (l:=[str ([]:List UInt8),str ([]:List UInt8),i6 0]) tz35 G ?_
      intro aF cy bu C bQ aV
      refine Qw (o:=0) (vs:=[str (((appN c.Log (⟨s,([108,111,110,103]:List UInt8)⟩:LogRecord)).1).Durable),str (((appN c.Log (⟨s,([108,111,110,103]:List UInt8)⟩:LogRecord)).1).Pending),i6 (((appN c.Log (⟨s,([108,111,110,103]:List UInt8)⟩:LogRecord)).1).Count)]) agg35.2 G G G G aV ler G ?_
      intro cz D bR aW
      refine Q (aI G)<|Qn (Ws (Wr (Q (lG agg34 G (((V.lo q).lo C).kn D) G)<|Q (lG agg35 G aW G)<|Q (r_build (vs:=[(0,.agg (List.toArray (cLb M ac T N ae U ((repN c.Library s).1)))),(1,.agg (List.toArray [str (((appN c.Log (⟨s,([108,111,110,103]:List UInt8)⟩:LogRecord)).1).Durable),str (((appN c.Log (⟨s,([108,111,110,103]:List UInt8)⟩:LogRecord)).1).Pending),i6 (((appN c.Log (⟨s,([108,111,110,103]:List UInt8)⟩:LogRecord)).1).Count)]))]) G (bld37_0_1 _ _ _ _ _ _ _ _))<|Q (mS G)<|Qw (o:=0) (vs:=[.slice M ac T,.slice N ae U,i6 (((repN c.Library s).1).Bought),i6 (((repN c.Library s).1).Dropped),i6 (((repN c.Library s).1).Mended),str (((appN c.Log (⟨s,([108,111,110,103]:List UInt8)⟩:LogRecord)).1).Durable),str (((appN c.Log (⟨s,([108,111,110,103]:List UInt8)⟩:LogRecord)).1).Pending),i6 (((appN c.Log (⟨s,([108,111,110,103]:List UInt8)⟩:LogRecord)).1).Count)]) agg37.2 G G G G (((ab.lo q).lo C).kn D) ler G ?_)))
      intro cA Z bS aX
      refine Q (aS G)<|Qn (We (retCT G G agg37 aX G (v:=str _) G ?_))
      refine ⟨M,ac,T,N,ae,U,eR (eT2 (e8 ?_ ?_ ?_ ?_ ?_ ?_) (eS ?_)),(oq (((((K.lo q).lo C).kd D (nE (g:=aF) (K.lo q))).kd Z aK).down) ?_),(oq (((((L.lo q).lo C).kd D (nE (g:=aF) (L.lo q))).kd Z ar).down) ?_),aJ,((((z.lo q).lo C).new D).new Z)⟩ <;> (rw [exec_l (c:=c) (s:=s) oJ oJ oB oI oB]; try rfl)
     ·refine Wk (Ws (Wr (Q (fA fa37_1 G)<|Q (r_lda (l:=[str c.Log.Durable,str c.Log.Pending,i6 c.Log.Count]) agg35 G (fun _ _ hu=>J.cells (vs:=[str c.Log.Durable,str c.Log.Pending,i6 c.Log.Count]) G hu) G)<|Q (mS G)<|Q (mS G)<|Q (r_build (vs:=[(0,str s),(1,str ((repN c.Library s).2.1))]) G (bld71_0_1 _ _))<|Qv ent50 (c_impl_AppendRecord aM c.Log (⟨s,(repN c.Library s).2.1⟩:LogRecord) oB (hE.lo z)) G fun cB r bY=>?_)))
      have bJ:(appN c.Log (⟨s,(repN c.Library s).2.1⟩:LogRecord)).1.Durable.length+(appN c.Log (⟨s,(repN c.Library s).2.1⟩:LogRecord)).1.Pending.length≤c.Log.Durable.length+c.Log.Pending.length+406:=appN_len c.Log (⟨s,(repN c.Library s).2.1⟩:LogRecord)
      refine Q (mT G)<|Q (xG G G)<|Q (xI G G)<|Qa (l:=[str ([]:List UInt8),str ([]:List UInt8),i6 0]) tz35 G ?_
      intro aG cC bw E bT aY
      refine Qw (o:=0) (vs:=[str (((appN c.Log (⟨s,(repN c.Library s).2.1⟩:LogRecord)).1).Durable),str (((appN c.Log (⟨s,(repN c.Library s).2.1⟩:LogRecord)).1).Pending),i6 (((appN c.Log (⟨s,(repN c.Library s).2.1⟩:LogRecord)).1).Count)]) agg35.2 G G G G aY ler G ?_
      intro cD F bU aZ
      refine Q (aI G)<|Qn (Ws (Wr (Q (lG agg34 G (((V.lo r).lo E).kn F) G)<|Q (lG agg35 G aZ G)<|Q (r_build (vs:=[(0,.agg (List.toArray (cLb M ac T N ae U ((repN c.Library s).1)))),(1,.agg (List.toArray [str (((appN c.Log (⟨s,(repN c.Library s).2.1⟩:LogRecord)).1).Durable),str (((appN c.Log (⟨s,(repN c.Library s).2.1⟩:LogRecord)).1).Pending),i6 (((appN c.Log (⟨s,(repN c.Library s).2.1⟩:LogRecord)).1).Count)]))]) G (bld37_0_1 _ _ _ _ _ _ _ _))<|Q (mS G)<|Qw (o:=0) (vs:=[.slice M ac T,.slice N ae U,i6 (((repN c.Library s).1).Bought),i6 (((repN c.Library s).1).Dropped),i6 (((repN c.Library s).1).Mended),str (((appN c.Log (⟨s,(repN c.Library s).2.1⟩:LogRecord)).1).Durable),str (((appN c.Log (⟨s,(repN c.Library s).2.1⟩:LogRecord)).1).Pending),i6 (((appN c.Log (⟨s,(repN c.Library s).2.1⟩:LogRecord)).1).Count)]) agg37.2 G G G G (((ab.lo r).lo E).kn F) ler G ?_)))
      intro cE aa bV a6
      refine Q (aS G)<|Qn (We (retCT G G agg37 a6 G (v:=str _) G ?_))
      refine ⟨M,ac,T,N,ae,U,eR (eT2 (e8 ?_ ?_ ?_ ?_ ?_ ?_) (eS ?_)),(oq (((((K.lo r).lo E).kd F (nE (g:=aG) (K.lo r))).kd aa aK).down) ?_),(oq (((((L.lo r).lo E).kd F (nE (g:=aG) (L.lo r))).kd aa ar).down) ?_),aJ,((((z.lo r).lo E).new F).new aa)⟩ <;> (rw [exec_y (c:=c) (s:=s) oJ oJ oB oI oB]; try rfl)
end Go.Proofs.YtndcchndcghmoaaGreatDoor
namespace Go.Proofs.YtndcchndcghmoaaGreatDoor
open Go Go.RowKit Fw
set_option maxRecDepth 10000
set_option maxHeartbeats 2000000
set_option linter.unusedVariables false
variable {Ac1 Ac2 : Option Addr} {nc1 cc1 Bc1 nc2 cc2 Bc2 : Nat}
theorem ent41:Ent Tryz.prog 41:=en Tryz.func41
theorem ent44:Ent Tryz.prog 44:=en Tryz.func44
theorem ent45:Ent Tryz.prog 45:=en Tryz.func45
theorem c_spec_ExecuteCommand (w:World) (c:Console) (ak:SlR w Bc1 encLMap 3 Ac1 nc1 cc1 c.Library.Maps) (al:SlR w Bc2 encAway 2 Ac2 nc2 cc2 c.Library.Away) (s:List UInt8) (cr:(c.Library.Maps.length:Int)≤1048576∧(c.Library.Away.length:Int)≤1048576∧(c.Log.Durable.length:Int)+(c.Log.Pending.length:Int)≤1048576) (ct:(s.length:Int)≤1048576):Calls Tryz.prog 10 #[.agg (List.toArray (cCn Ac1 nc1 cc1 Ac2 nc2 cc2 c)),str s] w fun e w'=>∃ A1' n1' c1' A2' n2' c2',e=.returned (.tuple (List.toArray [.agg (List.toArray (cCn A1' n1' c1' A2' n2' c2' ((execN c s).1))),str ((execN c s).2)]))∧SlO w' w.heap.size encLMap 3 102 A1' n1' c1' (((execN c s).1).Library.Maps)∧SlO w' w.heap.size encAway 2 129 A2' n2' c2' (((execN c s).1).Library.Away)∧Dj A1' A2'∧Lo w w':=by
 refine cW 51 Tryz.func10 G G G ?_
 have bf:=ak.bound
 have bt:=ak.len
 have ba:=ak.bd
 have bg:=al.bound
 have bu:=al.len
 have bb:=al.bd
 refine Ws (Wr (bx G ?_))
 intro g1 w2 cq aJ cu aW
 refine Qa (l:=zCn) tz37 G ?_
 intro g9 bQ bU E b7 aU
 refine Q (r_as (v:=str ([]:List UInt8)) G)<|Qn (Ws ?_)
 have ao:=(ak.lo aJ).lo E
 have ap:=(al.lo aJ).lo E
 refine Wr (Q (lG agg37 G (aW.lo E) G)<|Qc ent41 (c_spec_l34Own bQ c ao ap oB oB) G ?_)
 rintro e cw ⟨I,O,K,J,P,L,rfl,R,S,T,q⟩
 refine ⟨_,G,?_⟩
 have ce:=q.size
 have bW:=R.len
 have bX:=R.rd.bound
 have bY:=S.len
 have bZ:=S.rd.bound
 refine Qa (l:=zCn) tz37 G ?_
 intro aQ cx bV n b8 aV
 refine Qw (o:=0) (vs:=(cCn I O K J P L c)) agg37.2 G G G G aV ler G ?_
 intro bR p b9 X
 refine Qn (Ws (Wl (Ws ?_)))
 have aq:=(((aW.lo E).lo q).lo n).kn p
 have ag:=((aU.lo q).lo n).kn p
 have ah:=(R.lo n).kd p (nE (g:=aQ) R)
 have ai:=(S.lo n).kd p (nE (g:=aQ) S)
 refine Wr (Q (lG agg37 G aq G)<|Qv ent42 (c_spec_l34Good bR c (((ao.lo q).lo n).kn p) (((ap.lo q).lo n).kn p) oB) G fun bS a cf=>?_)
 have an:=((((((lr w).lo aJ).lo E).lo q).lo n).new p).lo a
 refine Q (rN G)<|Q (aB G)<|Qn (Wz G (fun az=>?_) (fun az=>?_))
 ·refine Ws (Wr (Q (lG agg37 G (X.lo a) G)<|Qw (o:=0) (vs:=(cCn I O K J P L c)) agg37.2 G G G G (ag.lo a) ler G ?_))
  intro cy Z ca aX
  refine Q (r_as (v:=str ([110,111]:List UInt8)) G)<|Qn (We (retCT G G agg37 aX G (v:=str _) G ?_))
  refine ⟨I,O,K,J,P,L,eR (eT2 (e8 ?_ ?_ ?_ ?_ ?_ ?_) (eS ?_)),(oq (((ah.lo a).kn Z).down) ?_),(oq (((ai.lo a).kn Z).down) ?_),T,(an.new Z)⟩ <;> (rw [exec_no ‹¬ConOK _›]; try rfl)
 ·have b4:=con_rng az
  have b5:=And.left az
  refine Ws (Wr (Q (mS G)<|Q (r_build (vs:=[(0,str s)]) G (bld71_0 _))<|Qv ent43 (c_spec_l33Good bS (⟨s,([]:List UInt8)⟩:LogRecord) oO) G fun bT b cg=>?_))
  have V:=an.lo b
  refine Q (rN G)<|Q (aB G)<|Qn (Wz G (fun aT=>?_) (fun aT=>?_))
  ·refine Ws (Wr (Q (lG agg37 G ((X.lo a).lo b) G)<|Qw (o:=0) (vs:=(cCn I O K J P L c)) agg37.2 G G G G ((ag.lo a).lo b) ler G ?_))
   intro cz aa cd aY
   refine Q (r_as (v:=str ([98,97,100]:List UInt8)) G)<|Qn (We (retCT G G agg37 aY G (v:=str _) G ?_))
   refine ⟨I,O,K,J,P,L,eR (eT2 (e8 ?_ ?_ ?_ ?_ ?_ ?_) (eS ?_)),(oq ((((ah.lo a).lo b).kn aa).down) ?_),(oq ((((ai.lo a).lo b).kn aa).down) ?_),T,(V.new aa)⟩ <;> (rw [exec_bad (c:=c) (s:=s) oJ oI]; try rfl)
  ·have b6:=rec_rngS aT
   refine Ws ?_
   have ar:=(aq.lo a).lo b
   have au:=(ag.lo a).lo b
   have aj:=(X.lo a).lo b
   have aw:=(ah.lo a).lo b
   have ax:=(ai.lo a).lo b
   refine Wr (Q (fA fa37_1 G)<|Q (fA fa35_2 G)<|Q (r_ld (v:=i6 c.Log.Count) sca3 G (ar.cell2 G))<|Q (r_eq G G)<|Q (aB G)<|Qn (Wd G (fun a8=>?_) (fun a8=>?_)))
   ·refine Ws (Wr (Q (lG agg37 G aj G)<|Qw (o:=0) (vs:=(cCn I O K J P L c)) agg37.2 G G G G au ler G ?_))
    intro cA ab bE aA
    refine Q (r_as (v:=str ([102,117,108,108]:List UInt8)) G)<|Qn (We (retCT G G agg37 aA G (v:=str _) G ?_))
    refine ⟨I,O,K,J,P,L,eR (eT2 (e8 ?_ ?_ ?_ ?_ ?_ ?_) (eS ?_)),(oq ((aw.kn ab).down) ?_),(oq ((ax.kn ab).down) ?_),T,(V.new ab)⟩ <;> (rw [exec_full (c:=c) (s:=s) oJ oJ oB]; try rfl)
   ·refine Wk (Ws (Wr (Q (lG agg37 G aj G)<|Q (mS G)<|Qc ent44 (c_spec_l34Run bT c aw ax s T oB oB oI oB) G ?_)))
    rintro e ch ⟨aK,aZ,aN,aM,a6,aO,rfl,r,t,bh,bc,be,i⟩
    refine ⟨_,G,?_⟩
    have bM:=i.size
    have bj:=r.len
    have bl:=r.rd.bound
    have bw:=(run_len (s:=s) ‹LibOK c.Library›).1
    have bm:=t.len
    have bn:=t.rd.bound
    have bz:=(run_len (s:=s) ‹LibOK c.Library›).2
    refine Q (mT G)<|Q (xG G G)<|Q (xS G G)<|Qa (l:=zCn) tz37 G ?_
    intro am ci bi f bF aC
    refine Qw (o:=0) (vs:=(cCn aK aZ aN aM a6 aO ((runS c s).1))) agg37.2 G G G G aC ler G ?_
    intro a7 h bG aD
    refine Q (aS G)<|Qn (Ws (Wr (Q (lG agg37 G aD G)<|Qc ent41 (c_spec_l34Own a7 ((runS c s).1) (((r.lo f).kd h (nE (g:=am) r)).rd) (((t.lo f).kd h (nE (g:=am) t)).rd) oB oB) G ?_)))
    rintro e cj ⟨A,F,C,B,H,D,rfl,u,x,Y,j⟩
    refine ⟨_,G,?_⟩
    have bN:=j.size
    have bo:=u.len
    have bp:=u.rd.bound
    have bA:=(run_len (s:=s) ‹LibOK c.Library›).1
    have bq:=x.len
    have bs:=x.rd.bound
    have bB:=(run_len (s:=s) ‹LibOK c.Library›).2
    refine Qw (o:=0) (vs:=(cCn A F C B H D ((runS c s).1))) agg37.2 G G G G ((((aj.lo i).lo f).kn h).lo j) ler G ?_
    intro ay d bH W
    have U:=((((V.lo i).lo f).new h).lo j).new d
    refine Qn (Ws (Ws ?_))
    have ac:=((((ar.lo i).lo f).kn h).lo j).kn d
    have ae:=((((au.lo i).lo f).kn h).lo j).kn d
    refine Wr (Q (mS G)<|Q (r_len_s und9 G)<|Q (r_gt G G)<|Qn (Wd G (fun aR=>?_) (fun aR=>?_)))
    ·refine Wr (Q (r_as (v:=str ([108,111,110,103]:List UInt8)) G)<|Qn (Ws (Wr (Q (fA fa37_1 G)<|Q (r_lda (l:=[str c.Log.Durable,str c.Log.Pending,i6 c.Log.Count]) agg35 G (fun _ _ hu=>ac.cells (vs:=[str c.Log.Durable,str c.Log.Pending,i6 c.Log.Count]) G hu) G)<|Q (mS G)<|Q (mS G)<|Q (r_build (vs:=[(0,str s),(1,str ([108,111,110,103]:List UInt8))]) G (bld71_0_1 _ _))<|Qv ent45 (c_spec_AppendRecord ay c.Log (⟨s,([108,111,110,103]:List UInt8)⟩:LogRecord) oB oT) G fun ck k bO=>?_))))
     have bC:(appN c.Log (⟨s,([108,111,110,103]:List UInt8)⟩:LogRecord)).1.Durable.length+(appN c.Log (⟨s,([108,111,110,103]:List UInt8)⟩:LogRecord)).1.Pending.length≤c.Log.Durable.length+c.Log.Pending.length+406:=appN_len c.Log (⟨s,([108,111,110,103]:List UInt8)⟩:LogRecord)
     refine Q (mT G)<|Q (xG G G)<|Q (xI G G)<|Q (fA fa37_1 G)<|Qw (o:=5) (vs:=[str (((appN c.Log (⟨s,([108,111,110,103]:List UInt8)⟩:LogRecord)).1).Durable),str (((appN c.Log (⟨s,([108,111,110,103]:List UInt8)⟩:LogRecord)).1).Pending),i6 (((appN c.Log (⟨s,([108,111,110,103]:List UInt8)⟩:LogRecord)).1).Count)]) agg35.2 G G G G (W.lo k) ler G ?_
     intro cl y bI aE
     refine Qn (Ws (Wr (Q (lG agg37 G aE G)<|Q (mS G)<|Qw (o:=0) (vs:=[.slice A F C,.slice B H D,i6 (((runS c s).1).Library.Bought),i6 (((runS c s).1).Library.Dropped),i6 (((runS c s).1).Library.Mended),str (((appN c.Log (⟨s,([108,111,110,103]:List UInt8)⟩:LogRecord)).1).Durable),str (((appN c.Log (⟨s,([108,111,110,103]:List UInt8)⟩:LogRecord)).1).Pending),i6 (((appN c.Log (⟨s,([108,111,110,103]:List UInt8)⟩:LogRecord)).1).Count)]) agg37.2 G G G G ((ae.lo k).kn y) ler G ?_)))
     intro cm M bJ aF
     refine Q (aS G)<|Qn (We (retCT G G agg37 aF G (v:=str _) G ?_))
     refine ⟨A,F,C,B,H,D,eR (eT2 (e8 ?_ ?_ ?_ ?_ ?_ ?_) (eS ?_)),(oq (((((u.kn d).lo k).kn y).kn M).down) ?_),(oq (((((x.kn d).lo k).kn y).kn M).down) ?_),Y,(((U.lo k).new y).new M)⟩ <;> (rw [exec_Sl (c:=c) (s:=s) oJ oJ oB oB]; try rfl)
    ·refine Wk (Ws (Wr (Q (fA fa37_1 G)<|Q (r_lda (l:=[str c.Log.Durable,str c.Log.Pending,i6 c.Log.Count]) agg35 G (fun _ _ hu=>ac.cells (vs:=[str c.Log.Durable,str c.Log.Pending,i6 c.Log.Count]) G hu) G)<|Q (mS G)<|Q (mS G)<|Q (r_build (vs:=[(0,str s),(1,str ((runS c s).2))]) G (bld71_0_1 _ _))<|Qv ent45 (c_spec_AppendRecord ay c.Log (⟨s,(runS c s).2⟩:LogRecord) oB oT) G fun cn m bP=>?_)))
     have bD:(appN c.Log (⟨s,(runS c s).2⟩:LogRecord)).1.Durable.length+(appN c.Log (⟨s,(runS c s).2⟩:LogRecord)).1.Pending.length≤c.Log.Durable.length+c.Log.Pending.length+406:=appN_len c.Log (⟨s,(runS c s).2⟩:LogRecord)
     refine Q (mT G)<|Q (xG G G)<|Q (xI G G)<|Q (fA fa37_1 G)<|Qw (o:=5) (vs:=[str (((appN c.Log (⟨s,(runS c s).2⟩:LogRecord)).1).Durable),str (((appN c.Log (⟨s,(runS c s).2⟩:LogRecord)).1).Pending),i6 (((appN c.Log (⟨s,(runS c s).2⟩:LogRecord)).1).Count)]) agg35.2 G G G G (W.lo m) ler G ?_
     intro co z bK aG
     refine Qn (Ws (Wr (Q (lG agg37 G aG G)<|Q (mS G)<|Qw (o:=0) (vs:=[.slice A F C,.slice B H D,i6 (((runS c s).1).Library.Bought),i6 (((runS c s).1).Library.Dropped),i6 (((runS c s).1).Library.Mended),str (((appN c.Log (⟨s,(runS c s).2⟩:LogRecord)).1).Durable),str (((appN c.Log (⟨s,(runS c s).2⟩:LogRecord)).1).Pending),i6 (((appN c.Log (⟨s,(runS c s).2⟩:LogRecord)).1).Count)]) agg37.2 G G G G ((ae.lo m).kn z) ler G ?_)))
     intro cp N bL aH
     refine Q (aS G)<|Qn (We (retCT G G agg37 aH G (v:=str _) G ?_))
     refine ⟨A,F,C,B,H,D,eR (eT2 (e8 ?_ ?_ ?_ ?_ ?_ ?_) (eS ?_)),(oq (((((u.kn d).lo m).kn z).kn N).down) ?_),(oq (((((x.kn d).lo m).kn z).kn N).down) ?_),Y,(((U.lo m).new z).new N)⟩ <;> (rw [exec_Sy (c:=c) (s:=s) oJ oJ oB oB]; try rfl)
end Go.Proofs.YtndcchndcghmoaaGreatDoor
namespace Go.Proofs.YtndcchndcghmoaaGreatDoor
open Go Go.RowKit Fw
set_option maxRecDepth 10000
set_option maxHeartbeats 2000000
set_option linter.unusedVariables false
variable {Ac1 Ac2 : Option Addr} {nc1 cc1 Bc1 nc2 cc2 Bc2 : Nat}
theorem ent10:Ent Tryz.prog 10:=en Tryz.func10
theorem ent12:Ent Tryz.prog 12:=en Tryz.func12
theorem c_impl_RunScript (w:World) (c:Console) (am:SlR w Bc1 encLMap 3 Ac1 nc1 cc1 c.Library.Maps) (an:SlR w Bc2 encAway 2 Ac2 nc2 cc2 c.Library.Away) (s:List UInt8) (cd:(c.Library.Maps.length:Int)≤1048576∧(c.Library.Away.length:Int)≤1048576∧(c.Log.Durable.length:Int)+(c.Log.Pending.length:Int)≤1048576) (ce:(s.length:Int)≤1048576) (hE:EnvW w):Calls Tryz.prog 17 #[.agg (List.toArray (cCn Ac1 nc1 cc1 Ac2 nc2 cc2 c)),str s] w fun e w'=>∃ A1' n1' c1',e=.returned (.tuple (List.toArray [.slice A1' n1' c1',.bool ((scrN c s).2)]))∧SlO w' w.heap.size encS 1 9 A1' n1' c1' ((scrN c s).1)∧Lo w w':=by
 refine cW 46 Tryz.func17 G G G ?_
 have bb:=am.bound
 have bf:=am.len
 have a8:=am.bd
 have bc:=an.bound
 have bg:=an.len
 have ba:=an.bd
 refine Ws (Wr (bx G ?_))
 intro O w2 ca aJ cf aV
 have aT:=(lr w).lo aJ
 refine Q (r_as (v:=.slice none 0 0) G)<|Q (aB G)<|Qn (Ws (Wr (Q (mS G)<|Qc ent56 (c_strings_Split1 w2 s ([10]:List UInt8) oB G (hE.lo aT)) G ?_)))
 rintro e w9 ⟨m,q,E,rfl,X,x⟩
 refine ⟨_,G,?_⟩
 have bU:=x.size
 have ap:=aT.lo x
 have bq:=X.len
 have bs:=X.rd.bound
 have bH:=splitB_len (10:UInt8) s
 refine Q (aL G)<|Qn (Ws (Ws ?_))
 have au:=(am.lo aJ).lo x
 have aw:=(an.lo aJ).lo x
 refine WJ (fun f' w'=>At f' [(2,pt O),(4,.slice none 0 0),(5,.bool false),(6,.slice m q E),(26,.bool (decide ((¬(ConOK c))∨((30<(q:Int))∨(4000<(s.length:Int))))))]∧Lo w9 w') ?_ ?_
 ·refine Q (lG agg37 G (aV.lo x) G)<|Qv ent35 (c_impl_IsValidConsole w9 c au aw oB (hE.lo ap)) G fun cg ac bV=>(Q (rN G)<|Q (mB G)<|QN (fun P=>?_) (fun P=>?_))
  ·refine Qs<|Qs<|Qs<|Q (pT G G)<|Q (mB G)<|Qs<|Qs<|Qs<|Q (pT G G)<|Qn (⟨_,G,⟨⟨G,G,G,G,(eDT ((jmf P).1 trivial)),trivial⟩,ac⟩⟩)
  ·have bI:=con_rng P
   have bJ:=And.left P
   refine Qg (mL G)<|Qg (r_len und44 G)<|Qg (r_gt G G)<|Q (pF G G)<|Q (mB G)<|QD (fun aA=>?_) (fun aA=>?_)
   ·refine Qs<|Qs<|Qs<|Q (pT G G)<|Qn (⟨_,G,⟨⟨G,G,G,G,(eDT (((jot aA).trans (jmt P)).1 trivial)),trivial⟩,ac⟩⟩)
   ·refine Qg (mS G)<|Qg (r_len_s und9 G)<|Qg (r_gt G G)<|Q (pF G G)<|Qn (⟨_,G,⟨⟨G,G,G,G,(eDD ((jof aA).trans (jmt P))),trivial⟩,ac⟩⟩)
 rintro b6 D ⟨aE,y⟩
 rw [← sA aE]
 have bW:=y.size
 have aq:=ap.lo y
 refine Wd G (fun al=>?_) (fun al=>?_)
 ·refine Ws (Wr (Q (r_as (v:=.slice none 0 0) G)<|Q (aB G)<|Qn (We (ret2 G (v:=.slice none 0 0) (v':=.bool _) G G ?_))))
  refine ⟨none,0,0,eR (eT2 G (eB ?_)),(oq (SlO.nil (e:=9) (enc:=encS) (fun _=>G) oB) ?_),aq⟩ <;> (rw [scr_noI oI oI]; try rfl)
 ·have ax:ConOK c:=(Classical.not_not.1 (not_or.1 al).1)
  have bK:¬(30<(q:Int)):=(not_or.1 (not_or.1 al).2).1
  have bL:¬(4000<(s.length:Int)):=(not_or.1 (not_or.1 al).2).2
  have bM:=con_rng ax
  have bN:=And.left ax
  refine Wk (Ws (Wr (Q (r_as (v:=.slice none 0 0) G)<|Qn (Ws (Ws (Wr (Q (mL G)<|Q (r_len und44 G)<|Q (r_mv (v:=i6 0) G)<|Qn (Wl (WL (σ:=Nat × Console × (List (List UInt8)) × (Option Addr) × Nat × Nat × (Option Addr) × Nat × Nat × (Option Addr) × Nat × Nat) (fun g=>[(2,pt O),(4,.slice none 0 0),(5,.bool false),(7,.slice g.2.2.2.1 g.2.2.2.2.1 g.2.2.2.2.2.1),(27,.slice m q E),(28,i6 (q:Int)),(29,i6 (g.1:Int))]) (fun g w'=>(Lo w w')∧(Blk w' O 37 (cCn g.2.2.2.2.2.2.1 g.2.2.2.2.2.2.2.1 g.2.2.2.2.2.2.2.2.1 g.2.2.2.2.2.2.2.2.2.1 g.2.2.2.2.2.2.2.2.2.2.1 g.2.2.2.2.2.2.2.2.2.2.2 g.2.1))∧(SlO w' w2.heap.size encS 1 9 m q E (splitB (10:UInt8) s))∧(SlO w' w.heap.size encS 1 9 g.2.2.2.1 g.2.2.2.2.1 g.2.2.2.2.2.1 g.2.2.1)∧(SlR w' w'.heap.size encLMap 3 g.2.2.2.2.2.2.1 g.2.2.2.2.2.2.2.1 g.2.2.2.2.2.2.2.2.1 g.2.1.Library.Maps)∧(SlR w' w'.heap.size encAway 2 g.2.2.2.2.2.2.2.2.2.1 g.2.2.2.2.2.2.2.2.2.2.1 g.2.2.2.2.2.2.2.2.2.2.2 g.2.1.Library.Away)∧(¬g.2.2.2.1=some ⟨O,0,none⟩)∧(∀ b_,g.2.2.2.1=some ⟨b_,0,none⟩→¬m=some ⟨b_,0,none⟩)∧(g.1≤(splitB (10:UInt8) s).length∧STo c (splitB (10:UInt8) s) g.2.1 g.2.2.1 g.1)) (fun g=>(splitB (10:UInt8) s).length-g.1) (0,c,([]:List (List UInt8)),(none:Option Addr),0,0,Ac1,nc1,cc1,Ac2,nc2,cc2) ?_ ?_ ?_)))))))))
  ·exact (At.r G)
  ·show (Lo w D)∧(Blk D O 37 (cCn Ac1 nc1 cc1 Ac2 nc2 cc2 c))∧(SlO D w2.heap.size encS 1 9 m q E (splitB (10:UInt8) s))∧(SlO D w.heap.size encS 1 9 (none:Option Addr) 0 0 ([]:List (List UInt8)))∧(SlR D D.heap.size encLMap 3 Ac1 nc1 cc1 c.Library.Maps)∧(SlR D D.heap.size encAway 2 Ac2 nc2 cc2 c.Library.Away)∧(¬(none:Option Addr)=some ⟨O,0,none⟩)∧(∀ b_,(none:Option Addr)=some ⟨b_,0,none⟩→¬m=some ⟨b_,0,none⟩)∧(0≤(splitB (10:UInt8) s).length∧STo c (splitB (10:UInt8) s) c ([]:List (List UInt8)) 0)
   exact ⟨aq,((aV.lo x).lo y),X.lo y,(oq (SlO.nil (base:=w.heap.size) (e:=9) (enc:=encS) (fun _=>G) oB) oU),((au.lo y).top),((aw.lo y).top),(fun e=>by cases e),(fun b_ h=>by cases h),(by (try dsimp only); exact ⟨Nat.zero_le _,STo.zero (scr_okI (s:=s) oI oI).1⟩)⟩
  ·rintro ⟨k,o,R,U,aj,az,aN,aX,aQ,aO,aY,aR⟩ a6 B aU
   obtain ⟨F,ai,C,n,Y,Z,u,ar,ab⟩:(Lo w B)∧(Blk B O 37 (cCn aN aX aQ aO aY aR o))∧(SlO B w2.heap.size encS 1 9 m q E (splitB (10:UInt8) s))∧(SlO B w.heap.size encS 1 9 U aj az R)∧(SlR B B.heap.size encLMap 3 aN aX aQ o.Library.Maps)∧(SlR B B.heap.size encAway 2 aO aY aR o.Library.Away)∧(¬U=some ⟨O,0,none⟩)∧Dj U m∧(k≤(splitB (10:UInt8) s).length∧STo c (splitB (10:UInt8) s) o R k):=aU
   refine (?_:W _ _ _ _ _ (act _ (sets a6 [(2,pt O),(4,.slice none 0 0),(5,.bool false),(7,.slice U aj az),(27,.slice m q E),(28,i6 (q:Int)),(29,i6 (k:Int))])) _)
   have bm:=F.size
   have bt:=ai.lt
   have bu:=n.len
   have bw:=n.rd.bound
   have bz:=Y.len
   have bA:=Y.bound
   have bB:=Z.len
   have bC:=Z.bound
   have bO:k≤(splitB (10:UInt8) s).length:=ab.1
   have bP:R.length=k:=ab.2.1
   have bQ:(o.Library.Maps.length≤1048576∧o.Library.Away.length≤1048576)∧o.Log.Durable.length+o.Log.Pending.length≤24360+406*k:=ab.2.2.2
   have bR:(splitB (10:UInt8) s).length≤30∧s.length≤4000:=(scr_ok2 (scr_okI (s:=s) oI oI))
   refine Ws (Wr (Q (r_lt G G)<|Qn (Ws (Wd G (fun a7=>?_) (fun a7=>?_)))))
   ·refine Wk (Ws (Wl (Ws ?_)))
    have ay:=(C.rd).elem (i:=k) oB
    have bS:=splitB_el ay
    refine Wr (Q (rX tsl44 (C.rd) G G oB)<|Q (r_ld (v:=str (gt (splitB (10:UInt8) s) k)) sca9 G ((C.rd).cell0 ay G))<|Q (aS G)<|Qn (Ws (Wr (Q (lG agg37 G ai G)<|Q (mS G)<|Qc ent12 (c_impl_ExecuteCommand B o Y Z (gt (splitB (10:UInt8) s) k) oB oB (hE.lo F)) G ?_))))
    rintro e ch ⟨J,S,M,K,T,N,rfl,H,I,bo,p⟩
    refine ⟨_,G,?_⟩
    have bX:=p.size
    have bD:=H.len
    have bE:=H.rd.bound
    have bF:=I.len
    have bG:=I.rd.bound
    refine Q (mT G)<|Q (xG G G)<|Q (xS G G)<|Qa (l:=zCn) tz37 G ?_
    intro ak ci bp z bT aW
    refine Qw (o:=0) (vs:=(cCn J S M K T N ((execN o (gt (splitB (10:UInt8) s) k)).1))) agg37.2 G G G G aW ler G ?_
    intro bY d bh aF
    refine Q (aS G)<|Qn (Ws ?_)
    have A:=((n.lo p).lo z).kd d (nE (g:=ak) (n.lo p))
    have ae:=(H.lo z).kd d (nE (g:=ak) H)
    have ag:=(I.lo z).kd d (nE (g:=ak) I)
    have ah:=((C.lo p).lo z).kd d (nE (g:=ak) (C.lo p))
    refine Wr (Q (r_lda (l:=(cCn J S M K T N ((execN o (gt (splitB (10:UInt8) s) k)).1))) agg37 G (fun _ _ hu=>aF.cell hu) G)<|Qw (o:=0) (vs:=(cCn J S M K T N ((execN o (gt (splitB (10:UInt8) s) k)).1))) agg37.2 G G G G (((ai.lo p).lo z).kn d) ler G ?_)
    intro bZ b bi aa
    refine Qn (Wr (Q (mL G)<|Q (mS G)<|Ql (vs:=[str ((execN o (gt (splitB (10:UInt8) s) k)).2)]) (L:=([(execN o (gt (splitB (10:UInt8) s) k)).2]:List (List UInt8))) (enc:=encS) tel44 (fun _=>G) G G G oG ?_))
    intro bn b4 be a aC
    have bj:=a.size
    refine Qp tel44 G G ((A.kd b u).lo a) (aC.rd) (fun _=>G) oB oB ?_
    intro t ao j f aD V
    have bl:=f.size
    have aG:¬t=some ⟨O,0,none⟩:=fun e'=>(V O e').elim (fun h=>u (h.trans e')) (fun h=>by have:=(aa.lo a).lt; omega)
    have aH:Dj t m:=fun b_ e' h'=>(V b_ e').elim (fun h=>ar b_ (h.trans e') h') (fun h=>by have:=((ah.kn b).lo a).base_le h'; omega)
    refine Q (aL G)<|Qn ?_
    have aK:=((ae.kn b).lo a).kp f (fun b_ hb e'=>by have h1:=((A.kd b u).lo a).base_le e'; have h2:=((ae.kn b).lo a).base_le hb; have h4:=n.base_le e'; omega)
    have aM:=((ag.kn b).lo a).kp f (fun b_ hb e'=>by have h1:=((A.kd b u).lo a).base_le e'; have h2:=((ag.kn b).lo a).base_le hb; have h4:=n.base_le e'; omega)
    refine Wr (Q (r_add G G oB)<|Q (mI G)<|Qn (⟨(k+1,((execN o (gt (splitB (10:UInt8) s) k)).1),R++([(execN o (gt (splitB (10:UInt8) s) k)).2]:List (List UInt8)),t,aj+1,ao,J,S,M,K,T,N),_,G,(At.r G),(show (Lo w j)∧(Blk j O 37 (cCn J S M K T N ((execN o (gt (splitB (10:UInt8) s) k)).1)))∧(SlO j w2.heap.size encS 1 9 m q E (splitB (10:UInt8) s))∧(SlO j w.heap.size encS 1 9 t (aj+1) ao (R++([(execN o (gt (splitB (10:UInt8) s) k)).2]:List (List UInt8))))∧(SlR j j.heap.size encLMap 3 J S M (((execN o (gt (splitB (10:UInt8) s) k)).1).Library.Maps))∧(SlR j j.heap.size encAway 2 K T N (((execN o (gt (splitB (10:UInt8) s) k)).1).Library.Away))∧(¬t=some ⟨O,0,none⟩)∧Dj t m∧(k+1≤(splitB (10:UInt8) s).length∧STo c (splitB (10:UInt8) s) ((execN o (gt (splitB (10:UInt8) s) k)).1) (R++([(execN o (gt (splitB (10:UInt8) s) k)).2]:List (List UInt8))) (k+1)) from ⟨((((((F.lo p).lo z).new d).new b).lo a).step f (fun i_ hi_ e'=>by have:=((A.kd b u).lo a).base_le e'; first | omega | exact e' | exact .inl e' | exact .inr e')),((aa.lo a).kp f (fun e'=>u e')),(((ah.kn b).lo a).kp f (fun b_ hb e'=>ar b_ e' hb)),aD,(aK.rd),(aM.rd),aG,aH,?_⟩),?_⟩))
    ·exact (by (try dsimp only); exact ⟨oB,(And.right ‹_∧STo _ _ _ _ _›).next ‹_[_]?=some _›⟩)
    ·exact oH
   ·refine Wx (xh (Ws (Wr (Q (mL G)<|Q (aL G)<|Q (aB G)<|Qn (We (ret2 G (v:=.slice _ _ _) (v':=.bool _) G G ?_))))))
    refine ⟨U,aj,az,eR (eT2 G (eB ?_)),(oq (n.down) ?_),F⟩ <;> (rw [(And.right ‹_∧STo _ _ _ _ _›).all oB (scr_okI oI oI)]; try rfl)
theorem c_spec_RunScript (w:World) (c:Console) (ao:SlR w Bc1 encLMap 3 Ac1 nc1 cc1 c.Library.Maps) (ap:SlR w Bc2 encAway 2 Ac2 nc2 cc2 c.Library.Away) (s:List UInt8) (cx:(c.Library.Maps.length:Int)≤1048576∧(c.Library.Away.length:Int)≤1048576∧(c.Log.Durable.length:Int)+(c.Log.Pending.length:Int)≤1048576) (cy:(s.length:Int)≤1048576):Calls Tryz.prog 16 #[.agg (List.toArray (cCn Ac1 nc1 cc1 Ac2 nc2 cc2 c)),str s] w fun e w'=>∃ A1' n1' c1',e=.returned (.tuple (List.toArray [.slice A1' n1' c1',.bool ((scrN c s).2)]))∧SlO w' w.heap.size encS 1 9 A1' n1' c1' ((scrN c s).1)∧Lo w w':=by
 refine cW 47 Tryz.func16 G G G ?_
 have bu:=ao.bound
 have bH:=ao.len
 have bq:=ao.bd
 have bw:=ap.bound
 have bI:=ap.len
 have bs:=ap.bd
 refine Ws (Wr (bx G ?_))
 intro J w2 cw aW cz bt
 refine Q (r_as (v:=.slice none 0 0) G)<|Q (aB G)<|Qn (Ws (Wr (Ql (vs:=[]) (L:=([]:List (List UInt8))) (enc:=encS) tel44 (fun _=>G) G G G oG ?_)))
 intro g9 ak bU N ab
 have cl:=N.size
 refine Q (aL G)<|Qn (Ws ?_)
 have aA:=(ao.lo aW).lo N
 have aC:=(ap.lo aW).lo N
 refine Wr (Q (mS G)<|Qc ent55 (c_spec_l1Split ak s (10:UInt8) oD) G ?_)
 rintro e bn ⟨d,E,M,rfl,U,m⟩
 refine ⟨_,G,?_⟩
 have cm:=m.size
 have bV:=U.len
 have bW:=U.rd.bound
 have b8:=splitB_len (10:UInt8) s
 refine Q (aL G)<|Qn (Ws (Ws ?_))
 have aD:=(bt.lo N).lo m
 refine WJ (fun f' w'=>At f' [(2,pt J),(4,.slice none 0 0),(5,.bool false),(6,.slice (pA g9) 0 0),(7,.slice d E M),(25,.bool (decide ((¬(ConOK c))∨((4000<(s.length:Int))∨(30<(E:Int))))))]∧Lo bn w') ?_ ?_
 ·refine Q (lG agg37 G aD G)<|Qv ent42 (c_spec_l34Good bn c (aA.lo m) (aC.lo m) oB) G fun cA ah cn=>(Q (rN G)<|Q (mB G)<|QN (fun X=>?_) (fun X=>?_))
  ·refine Qs<|Qs<|Qs<|Q (pT G G)<|Q (mB G)<|Qs<|Qs<|Qs<|Q (pT G G)<|Qn (⟨_,G,⟨⟨G,G,G,G,G,(eDT ((jmf X).1 trivial)),trivial⟩,ah⟩⟩)
  ·have b9:=con_rng X
   have ca:=And.left X
   refine Qg (mS G)<|Qg (r_len_s und9 G)<|Qg (r_gt G G)<|Q (pF G G)<|Q (mB G)<|QD (fun aJ=>?_) (fun aJ=>?_)
   ·refine Qs<|Qs<|Qs<|Q (pT G G)<|Qn (⟨_,G,⟨⟨G,G,G,G,G,(eDT (((jot aJ).trans (jmt X)).1 trivial)),trivial⟩,ah⟩⟩)
   ·refine Qg (mL G)<|Qg (r_len und44 G)<|Qg (r_gt G G)<|Q (pF G G)<|Qn (⟨_,G,⟨⟨G,G,G,G,G,(eDD ((jof aJ).trans (jmt X))),trivial⟩,ah⟩⟩)
 rintro cu O ⟨aN,n⟩
 rw [← sA aN]
 have co:=n.size
 have ay:=((((lr w).lo aW).lo N).lo m).lo n
 refine Wd G (fun am=>?_) (fun am=>?_)
 ·refine Ws (Wr (Q (mL G)<|Q (aL G)<|Q (aB G)<|Qn (We (ret2 G (v:=.slice _ _ _) (v':=.bool _) G G ?_))))
  refine ⟨(pA g9),0,0,eR (eT2 G (eB ?_)),(oq (((ab.lo m).lo n).down) ?_),ay⟩ <;> (rw [scr_noS oI oI]; try rfl)
 ·have aF:ConOK c:=(Classical.not_not.1 (not_or.1 am).1)
  have cd:¬(4000<(s.length:Int)):=(not_or.1 (not_or.1 am).2).1
  have ce:¬(30<(E:Int)):=(not_or.1 (not_or.1 am).2).2
  have cf:=con_rng aF
  have cg:=And.left aF
  refine Wk (Ws ?_)
  have aE:=(ab.lo m).lo n
  refine Wr (Q (r_as (v:=str ([]:List UInt8)) G)<|Qn (Ws (Ws (Wr (Q (aI G)<|Qn (Wl (WL (σ:=Nat × Console × (List (List UInt8)) × (Option Addr) × Nat × Nat × (Option Addr) × Nat × Nat × (Option Addr) × Nat × Nat) (fun g=>[(2,pt J),(4,.slice none 0 0),(5,.bool false),(6,.slice g.2.2.2.1 g.2.2.2.2.1 g.2.2.2.2.2.1),(7,.slice d E M),(9,i6 (g.1:Int))]) (fun g w'=>(Lo w w')∧(Blk w' J 37 (cCn g.2.2.2.2.2.2.1 g.2.2.2.2.2.2.2.1 g.2.2.2.2.2.2.2.2.1 g.2.2.2.2.2.2.2.2.2.1 g.2.2.2.2.2.2.2.2.2.2.1 g.2.2.2.2.2.2.2.2.2.2.2 g.2.1))∧(SlO w' ak.heap.size encS 1 9 d E M (splitB (10:UInt8) s))∧(SlO w' w.heap.size encS 1 9 g.2.2.2.1 g.2.2.2.2.1 g.2.2.2.2.2.1 g.2.2.1)∧(SlR w' w'.heap.size encLMap 3 g.2.2.2.2.2.2.1 g.2.2.2.2.2.2.2.1 g.2.2.2.2.2.2.2.2.1 g.2.1.Library.Maps)∧(SlR w' w'.heap.size encAway 2 g.2.2.2.2.2.2.2.2.2.1 g.2.2.2.2.2.2.2.2.2.2.1 g.2.2.2.2.2.2.2.2.2.2.2 g.2.1.Library.Away)∧(¬g.2.2.2.1=some ⟨J,0,none⟩)∧(∀ b_,g.2.2.2.1=some ⟨b_,0,none⟩→¬d=some ⟨b_,0,none⟩)∧(g.1≤(splitB (10:UInt8) s).length∧STo c (splitB (10:UInt8) s) g.2.1 g.2.2.1 g.1)) (fun g=>(splitB (10:UInt8) s).length-g.1) (0,c,([]:List (List UInt8)),(pA g9),0,0,Ac1,nc1,cc1,Ac2,nc2,cc2) ?_ ?_ ?_)))))))
  ·exact (At.r G)
  ·show (Lo w O)∧(Blk O J 37 (cCn Ac1 nc1 cc1 Ac2 nc2 cc2 c))∧(SlO O ak.heap.size encS 1 9 d E M (splitB (10:UInt8) s))∧(SlO O w.heap.size encS 1 9 (pA g9) 0 0 ([]:List (List UInt8)))∧(SlR O O.heap.size encLMap 3 Ac1 nc1 cc1 c.Library.Maps)∧(SlR O O.heap.size encAway 2 Ac2 nc2 cc2 c.Library.Away)∧(¬(pA g9)=some ⟨J,0,none⟩)∧(∀ b_,(pA g9)=some ⟨b_,0,none⟩→¬d=some ⟨b_,0,none⟩)∧(0≤(splitB (10:UInt8) s).length∧STo c (splitB (10:UInt8) s) c ([]:List (List UInt8)) 0)
   exact ⟨ay,(aD.lo n),U.lo n,(aE.down),(((aA.lo m).lo n).top),(((aC.lo m).lo n).top),(nE aE),(dj ab (U.lo n)),(by (try dsimp only); exact ⟨Nat.zero_le _,STo.zero (scr_okS (s:=s) oI oI).1⟩)⟩
  ·rintro ⟨k,o,R,K,Y,al,be,bj,bg,bf,bl,bh⟩ bo p bi
   obtain ⟨Z,aj,D,B,ac,ae,V,az,ag⟩:(Lo w p)∧(Blk p J 37 (cCn be bj bg bf bl bh o))∧(SlO p ak.heap.size encS 1 9 d E M (splitB (10:UInt8) s))∧(SlO p w.heap.size encS 1 9 K Y al R)∧(SlR p p.heap.size encLMap 3 be bj bg o.Library.Maps)∧(SlR p p.heap.size encAway 2 bf bl bh o.Library.Away)∧(¬K=some ⟨J,0,none⟩)∧Dj K d∧(k≤(splitB (10:UInt8) s).length∧STo c (splitB (10:UInt8) s) o R k):=bi
   refine (?_:W _ _ _ _ _ (act _ (sets bo [(2,pt J),(4,.slice none 0 0),(5,.bool false),(6,.slice K Y al),(7,.slice d E M),(9,i6 (k:Int))])) _)
   have bR:=Z.size
   have bX:=aj.lt
   have bY:=B.len
   have bZ:=B.rd.bound
   have b4:=ac.len
   have b5:=ac.bound
   have b6:=ae.len
   have b7:=ae.bound
   have ch:k≤(splitB (10:UInt8) s).length:=ag.1
   have ci:R.length=k:=ag.2.1
   have cj:(o.Library.Maps.length≤1048576∧o.Library.Away.length≤1048576)∧o.Log.Durable.length+o.Log.Pending.length≤24360+406*k:=ag.2.2.2
   have ck:(splitB (10:UInt8) s).length≤30∧s.length≤4000:=(scr_ok2 (scr_okS (s:=s) oI oI))
   refine Ws (Ws (Wr (Q (mI G)<|Q (mL G)<|Q (r_len und44 G)<|Q (r_lt G G)<|Qn (Wd G (fun bp=>?_) (fun bp=>?_)))))
   ·refine Wk (Ws (Wl (Ws (WA (Kp (fun b_=>b_=J) p) (fun f' w'=>∃ (j:Option Addr) (u:Nat) (H:Nat) (l:Option Addr) (x:Nat) (I:Nat),At f' [(2,pt J),(4,.slice none 0 0),(5,.bool false),(6,.slice K Y al),(7,.slice d E M),(8,str ((execN o (gt (splitB (10:UInt8) s) k)).2)),(9,i6 (k:Int))]∧(Kp (fun b_=>b_=J) p w')∧(SlO w' p.heap.size encLMap 3 102 j u H (((execN o (gt (splitB (10:UInt8) s) k)).1).Library.Maps))∧(SlO w' p.heap.size encAway 2 129 l x I (((execN o (gt (splitB (10:UInt8) s) k)).1).Library.Away))∧(Blk w' J 37 (cCn j u H l x I ((execN o (gt (splitB (10:UInt8) s) k)).1)))∧Dj j d∧Dj j K∧Dj j l∧Dj l d∧Dj l K∧((splitB (10:UInt8) s)[k]?=some (gt (splitB (10:UInt8) s) k))∧((gt (splitB (10:UInt8) s) k).length≤s.length)∧(u=(((execN o (gt (splitB (10:UInt8) s) k)).1).Library.Maps).length)∧((u:Int)≤9223372036854775807)∧(x=(((execN o (gt (splitB (10:UInt8) s) k)).1).Library.Away).length)∧((x:Int)≤9223372036854775807)) mo ?_ ?_))))
    ·intro bm a
     have bM:=a.size
     refine Ak 1 G (kr a) (fun w' hw'=>mL G)<|Ak 2 G (kr a) (fun w' hw'=>mI G)<|?_
     have T:=((D.lo a).rd).elem (i:=k) oB
     have bb:=splitB_el T
     refine Ak 3 G (kr a) (fun w' hw'=>rX tsl44 ((D.kn hw' oB).rd) G G oB)<|Ak 4 G (kr a) (fun w' hw'=>r_ld (v:=str (gt (splitB (10:UInt8) s) k)) sca9 G (((D.kn hw' oB).rd).cell0 T G))<|Ab 0 G (Q (lG agg37 G (aj.lo a) G) (Qn ⟨(kq p).lo a,_,G,(Ab 5 G (Qc ent10 (c_spec_ExecuteCommand bm o (ac.lo a) (ae.lo a) (gt (splitB (10:UInt8) s) k) oB oB) G ?_))⟩))
     rintro e cp ⟨aq,aG,au,ar,aH,aw,rfl,z,A,aT,S⟩
     refine ⟨_,G,?_⟩
     have bN:=S.size
     have C:=((kr a:Kp (fun b_=>b_=J) p _)).lo S
     have aX:=z.len
     have aY:=z.rd.bound
     have aZ:=A.len
     have a6:=A.rd.bound
     refine Qn ⟨C,_,G,(Ak 6 G C (fun w' hw'=>mT G)<|Ak 7 G C (fun w' hw'=>xG G G)<|Ak 8 G C (fun w' hw'=>xS G G)<|Ab 9 G (Qw (o:=0) (vs:=(cCn aq aG au ar aH aw ((execN o (gt (splitB (10:UInt8) s) k)).1))) agg37.2 G G G G ((aj.lo a).lo S) ler G ?_))⟩
     intro cq f bK aO
     have P:=C.step f (fun _ _ e=>e)
     refine Qn ⟨P,_,G,(Ak 10 G P (fun w' hw'=>aS G)<|Ad oC (⟨aq,aG,au,ar,aH,aw,(At.r G),P,((z.kn f).down),((A.kn f).down),aO,(dj (z.kn f) (D.lo a)),(dj (z.kn f) (B.lo a)),aT,(dj (A.kn f) (D.lo a)),(dj (A.kn f) (B.lo a)),T,bb,aX,aY,aZ,a6⟩))⟩
    rintro bS cr ⟨j,u,H,l,x,I,an,q,a7,a8,ai,bz,aQ,bA,bB,aR,bL,bJ,bD,bE,bF,bG⟩
    rw [← sA an]
    have bO:=q.size
    refine Wr (Q (mL G)<|Q (mS G)<|Ql (vs:=[str ((execN o (gt (splitB (10:UInt8) s) k)).2)]) (L:=([(execN o (gt (splitB (10:UInt8) s) k)).2]:List (List UInt8))) (enc:=encS) tel44 (fun _=>G) G G G oG ?_)
    intro bT ct bC b aK
    have bP:=b.size
    refine Qp tel44 G G ((B.kd q V).lo b) (aK.rd) (fun _=>G) oB oB ?_
    intro F ax y t aM aa
    have bQ:=t.size
    have aU:¬F=some ⟨J,0,none⟩:=fun e'=>(aa J e').elim (fun h=>V (h.trans e')) (fun h=>by have:=(ai.lo b).lt; omega)
    have aV:Dj F d:=fun b_ e' h'=>(aa b_ e').elim (fun h=>az b_ (h.trans e') h') (fun h=>by have:=((D.kn q oB).lo b).base_le h'; omega)
    refine Q (aL G)<|Qn ?_
    have ba:=((D.kn q oB).lo b).kp t (fun b_ hb e'=>az b_ e' hb)
    refine Wr (Q (mI G)<|Q (r_add G G oB)<|Q (aI G)<|Qn (⟨(k+1,((execN o (gt (splitB (10:UInt8) s) k)).1),R++([(execN o (gt (splitB (10:UInt8) s) k)).2]:List (List UInt8)),F,Y+1,ax,j,u,H,l,x,I),_,G,(At.r G),(show (Lo w y)∧(Blk y J 37 (cCn j u H l x I ((execN o (gt (splitB (10:UInt8) s) k)).1)))∧(SlO y ak.heap.size encS 1 9 d E M (splitB (10:UInt8) s))∧(SlO y w.heap.size encS 1 9 F (Y+1) ax (R++([(execN o (gt (splitB (10:UInt8) s) k)).2]:List (List UInt8))))∧(SlR y y.heap.size encLMap 3 j u H (((execN o (gt (splitB (10:UInt8) s) k)).1).Library.Maps))∧(SlR y y.heap.size encAway 2 l x I (((execN o (gt (splitB (10:UInt8) s) k)).1).Library.Away))∧(¬F=some ⟨J,0,none⟩)∧Dj F d∧(k+1≤(splitB (10:UInt8) s).length∧STo c (splitB (10:UInt8) s) ((execN o (gt (splitB (10:UInt8) s) k)).1) (R++([(execN o (gt (splitB (10:UInt8) s) k)).2]:List (List UInt8))) (k+1)) from ⟨(((Z.new q oB).lo b).step t (fun i_ hi_ e'=>by have:=((B.kd q V).lo b).base_le e'; first | omega | exact e' | exact .inl e' | exact .inr e')),((ai.lo b).kp t (fun e'=>V e')),ba,aM,(((a7.lo b).kp t (fun b_ hb e'=>aQ b_ hb e')).rd),(((a8.lo b).kp t (fun b_ hb e'=>aR b_ hb e')).rd),aU,aV,?_⟩),?_⟩))
    ·exact (by (try dsimp only); exact ⟨oB,(And.right ‹_∧STo _ _ _ _ _›).next ‹_[_]?=some _›⟩)
    ·exact oH
   ·refine Wx (xh (Ws (Wr (Q (mL G)<|Q (aL G)<|Q (aB G)<|Qn (We (ret2 G (v:=.slice _ _ _) (v':=.bool _) G G ?_))))))
    refine ⟨K,Y,al,eR (eT2 G (eB ?_)),(oq (B.down) ?_),Z⟩ <;> (rw [(And.right ‹_∧STo _ _ _ _ _›).all oB (scr_okS oI oI)]; try rfl)
end Go.Proofs.YtndcchndcghmoaaGreatDoor
namespace Go.Proofs.YtndcchndcghmoaaGreatDoor
open Go Go.RowKit Fw
set_option maxRecDepth 10000
set_option maxHeartbeats 2000000
set_option linter.unusedVariables false
theorem bld37_0 (a0_0:Value) (a0_1:Value) (a0_2:Value) (a0_3:Value) (a0_4:Value):Tryz.prog.built 37 [(0,.agg (List.toArray [a0_0,a0_1,a0_2,a0_3,a0_4]))]=some (List.toArray [a0_0,a0_1,a0_2,a0_3,a0_4,str ([]:List UInt8),str ([]:List UInt8),i6 0]):=by kernel_rfl
end Go.Proofs.YtndcchndcghmoaaGreatDoor
namespace Go.Proofs.YtndcchndcghmoaaGreatDoor
open Go Go.RowKit Fw
set_option maxRecDepth 10000
set_option maxHeartbeats 2000000
set_option linter.unusedVariables false
variable {Ac AL : Option Addr} {nc cc Bc nL cL BL : Nat}
theorem ent107:Ent Tryz.prog 107:=en Tryz.func107
theorem ent59:Ent Tryz.prog 59:=en Tryz.func59
theorem fa91_0:FA Tryz.prog 91 0 0:=fun _ _=>by kernel_rfl
theorem fa91_1:FA Tryz.prog 91 1 1:=fun _ _=>by kernel_rfl
theorem fa91_2:FA Tryz.prog 91 2 2:=fun _ _=>by kernel_rfl
theorem sca49:TSca Tryz.prog 49:=tS
theorem sca89:TSca Tryz.prog 89:=tS
theorem und89:Tryz.prog.underlying 89=some (.int .u64):=by kernel_rfl
theorem c___spec_l1Cur__next (w:World) {gc ec:Nat} (Lc:List UInt8) (tc sc:Int) (hc:Blk w gc ec [.slice Ac nc cc,i6 tc,.int .u64 sc]) (hLc:SlR w Bc encB 1 Ac nc cc Lc) (hgc:Bc≤gc) (htc:0≤tc∧tc+1≤4611686018427387904):Calls Tryz.prog 107 #[.pointer (some ⟨gc,0,none⟩)] w fun e w'=>∃ (v:Int) (tc' sc':Int),e=.returned (i6 v)∧Blk w' gc ec [.slice Ac nc cc,i6 tc',.int .u64 sc']∧(tc≤tc'∧tc'≤tc+1)∧((0:Int)≤v∧(v:Int)≤255)∧Kp (fun b_=>b_=gc) w w':=by
 refine cW 62 Tryz.func107 G G G ?_
 have hBlc:=hc.lt
 have hbdc:=hLc.bound
 have hlec:=hLc.len
 have hBbc:=hLc.bd
 refine Ws (Wr (Q (aI G)<|Qn (Ws (Wr (Q (aI G)<|Qn (Ws (Ws (W.regD mo oC (Rq (fun w' hw'=>mP G)<|Rq (fun w' hw'=>r_nilp G)<|Rq (fun w' hw'=>fA fa91_1 G)<|Rq (fun w' hw'=>lB sca3 G (hc.lo hw') G)<|Rq (fun w' hw'=>mP G)<|Rq (fun w' hw'=>r_nilp G)<|Rq (fun w' hw'=>fA fa91_0 G)<|Rq (fun w' hw'=>lB sca49 G (hc.lo hw') G)<|Rq (fun w' hw'=>r_len und49 G)<|Rq (fun w' hw'=>r_lt G G)<|QR.nil ?_)))))))))
 intro P a
 have I:=a.size
 have n:=(kr a:Kp (fun b_=>b_=gc) w _)
 refine Wd G (fun F=>?_) (fun F=>?_)
 ·refine W.regD mo oC (Rq (fun w' hw'=>mP G)<|Rq (fun w' hw'=>r_nilp G)<|Rq (fun w' hw'=>fA fa91_0 G)<|Rq (fun w' hw'=>lB sca49 G ((hc.lo a).lo hw') G)<|Rq (fun w' hw'=>mP G)<|Rq (fun w' hw'=>r_nilp G)<|Rq (fun w' hw'=>fA fa91_1 G)<|Rq (fun w' hw'=>lB sca3 G ((hc.lo a).lo hw') G)<|?_)
  have x:=(hLc.lo a).elem (i:=tc.toNat) oB
  have H:=u8_le (gt Lc tc.toNat)
  refine Rq (fun w' hw'=>rX tsl49 ((hLc.lo a).lo hw') G G oB)<|Rq (fun w' hw'=>r_ld (v:=.int .u8 ((gt Lc tc.toNat).toNat:Int)) sca5 G (((hLc.lo a).lo hw').cell0 x G))<|Rq (fun w' hw'=>r_convI und3 und5 G oB)<|Rq (fun w' hw'=>aI G)<|QR.nil ?_
  intro R g
  have C:=g.size
  refine Ws ?_
  have m:=(hc.lo a).lo g
  refine Wr (Q (mP G)<|Q (r_nilp G)<|Q (fA fa91_1 G)<|Q (lB sca3 G m G)<|Q (r_add G G oB)<|Q (r_nilp G)<|Q (fA fa91_1 G)<|Qw (o:=1) (vs:=[i6 (tc+1)]) sca3.2 G G G G m ler G ?_)
  intro J p y k
  refine Qn (Ws (Wr (Q (mP G)<|Q (mP G)<|Q (r_nilp G)<|Q (fA fa91_2 G)<|Q (lB sca89 G k G)<|Q (r_mulW G G)<|Q (mI G)<|Q (r_convU und89 und3 G oB)<|Q (r_addW G G)<|Q (r_addW G G)<|Q (r_nilp G)<|Q (fA fa91_2 G)<|Qw (o:=2) (vs:=[.int .u64 (IntKind.u64.wrap ((IntKind.u64.wrap ((IntKind.u64.wrap (sc*6364136223846793005))+((gt Lc tc.toNat).toNat:Int)))+604171))]) sca89.2 G G G G k ler G ?_)))
  intro K q z b
  refine Qn (Ws (Ws (W.regD mo oC (Rq (fun w' hw'=>mP G)<|Rq (fun w' hw'=>r_nilp G)<|Rq (fun w' hw'=>fA fa91_1 G)<|Rq (fun w' hw'=>lB sca3 G (b.lo hw') G)<|Rq (fun w' hw'=>mP G)<|Rq (fun w' hw'=>r_nilp G)<|Rq (fun w' hw'=>fA fa91_0 G)<|Rq (fun w' hw'=>lB sca49 G (b.lo hw') G)<|Rq (fun w' hw'=>r_len und49 G)<|Rq (fun w' hw'=>r_le G G)<|QR.nil ?_))))
  intro L d
  have D:=d.size
  have h:=(((n.lo g).step p (fun i_ hi_ e'=>e')).step q (fun i_ hi_ e'=>e')).lo d
  refine Wd G (fun t=>?_) (fun t=>?_)
  ·refine Ws (Wr (Q (mI G)<|Q (aI G)<|Qn (We (ret1 G (v:=i6 _) G (⟨((gt Lc tc.toNat).toNat:Int),(tc+1),(IntKind.u64.wrap ((IntKind.u64.wrap ((IntKind.u64.wrap (sc*6364136223846793005))+((gt Lc tc.toNat).toNat:Int)))+604171)),eR G,(b.lo d),⟨oB,oB⟩,oB,h⟩)))))
  ·refine Wk (Ws (Wr (Q (mP G)<|Q (r_nilp G)<|Q (fA fa91_2 G)<|Q (lB sca89 G (b.lo d) G)<|Q (r_shr40 G G (by simp only [IntKind.wrap_u64]; omega))<|Q (r_and255 G G (by simp only [IntKind.wrap_u64]; omega))<|Q (r_convI und3 und89 G oB)<|Q (aI G)<|Qn (We (ret1 G (v:=i6 _) G (⟨(((IntKind.u64.wrap ((IntKind.u64.wrap ((IntKind.u64.wrap (sc*6364136223846793005))+((gt Lc tc.toNat).toNat:Int)))+604171)) / 1099511627776) % 256),(tc+1),(IntKind.u64.wrap ((IntKind.u64.wrap ((IntKind.u64.wrap (sc*6364136223846793005))+((gt Lc tc.toNat).toNat:Int)))+604171)),eR G,(b.lo d),⟨oB,oB⟩,oB,h⟩))))))
 ·refine Wk (Ws (Wr (Q (mP G)<|Q (r_nilp G)<|Q (fA fa91_1 G)<|Q (lB sca3 G (hc.lo a) G)<|Q (r_add G G oB)<|Q (r_nilp G)<|Q (fA fa91_1 G)<|Qw (o:=1) (vs:=[i6 (tc+1)]) sca3.2 G G G G (hc.lo a) ler G ?_)))
  intro M r A l
  refine Qn (Ws (Wr (Q (mP G)<|Q (mP G)<|Q (r_nilp G)<|Q (fA fa91_2 G)<|Q (lB sca89 G l G)<|Q (r_mulW G G)<|Q (mI G)<|Q (r_convU und89 und3 G oB)<|Q (r_addW G G)<|Q (r_addW G G)<|Q (r_nilp G)<|Q (fA fa91_2 G)<|Qw (o:=2) (vs:=[.int .u64 (IntKind.u64.wrap ((IntKind.u64.wrap ((IntKind.u64.wrap (sc*6364136223846793005))+0))+604171))]) sca89.2 G G G G l ler G ?_)))
  intro N s B c
  refine Qn (Ws (Ws (W.regD mo oC (Rq (fun w' hw'=>mP G)<|Rq (fun w' hw'=>r_nilp G)<|Rq (fun w' hw'=>fA fa91_1 G)<|Rq (fun w' hw'=>lB sca3 G (c.lo hw') G)<|Rq (fun w' hw'=>mP G)<|Rq (fun w' hw'=>r_nilp G)<|Rq (fun w' hw'=>fA fa91_0 G)<|Rq (fun w' hw'=>lB sca49 G (c.lo hw') G)<|Rq (fun w' hw'=>r_len und49 G)<|Rq (fun w' hw'=>r_le G G)<|QR.nil ?_))))
  intro O f
  have E:=f.size
  have j:=((n.step r (fun i_ hi_ e'=>e')).step s (fun i_ hi_ e'=>e')).lo f
  refine Wd G (fun u=>?_) (fun u=>?_)
  ·refine Ws (Wr (Q (mI G)<|Q (aI G)<|Qn (We (ret1 G (v:=i6 _) G (⟨0,(tc+1),(IntKind.u64.wrap ((IntKind.u64.wrap ((IntKind.u64.wrap (sc*6364136223846793005))+0))+604171)),eR G,(c.lo f),⟨oB,oB⟩,oB,j⟩)))))
  ·refine Wk (Ws (Wr (Q (mP G)<|Q (r_nilp G)<|Q (fA fa91_2 G)<|Q (lB sca89 G (c.lo f) G)<|Q (r_shr40 G G (by simp only [IntKind.wrap_u64]; omega))<|Q (r_and255 G G (by simp only [IntKind.wrap_u64]; omega))<|Q (r_convI und3 und89 G oB)<|Q (aI G)<|Qn (We (ret1 G (v:=i6 _) G (⟨(((IntKind.u64.wrap ((IntKind.u64.wrap ((IntKind.u64.wrap (sc*6364136223846793005))+0))+604171)) / 1099511627776) % 256),(tc+1),(IntKind.u64.wrap ((IntKind.u64.wrap ((IntKind.u64.wrap (sc*6364136223846793005))+0))+604171)),eR G,(c.lo f),⟨oB,oB⟩,oB,j⟩))))))
theorem c___spec_l1Cur__pick (w:World) {gc ec:Nat} (Lc:List UInt8) (tc sc:Int) (hc:Blk w gc ec [.slice Ac nc cc,i6 tc,.int .u64 sc]) (hLc:SlR w Bc encB 1 Ac nc cc Lc) (hgc:Bc≤gc) (htc:0≤tc∧tc+2≤4611686018427387904) (n:Int) (t:n≤4611686018427387904):Calls Tryz.prog 59 #[.pointer (some ⟨gc,0,none⟩),i6 n] w fun e w'=>∃ (v:Int) (tc' sc':Int),e=.returned (i6 v)∧Blk w' gc ec [.slice Ac nc cc,i6 tc',.int .u64 sc']∧(tc≤tc'∧tc'≤tc+2)∧((0:Int)≤v∧((v:Int)<n∨(v:Int)=0))∧Kp (fun b_=>b_=gc) w w':=by
 refine cW 20 Tryz.func59 G G G ?_
 have hBlc:=hc.lt
 have hbdc:=hLc.bound
 have hlec:=hLc.len
 have hBbc:=hLc.bd
 refine Ws (Wr (Q (aI G)<|Qn (Ws (Ws (Wr (Q (mI G)<|Q (r_le G G)<|Qn (Wd G (fun s=>?_) (fun s=>?_))))))))
 ·refine Ws (Wr (Q (aI G)<|Qn (We (ret1 G (v:=i6 _) G (⟨0,tc,sc,eR G,hc,⟨oB,oB⟩,(by first | omega | exact ⟨Int.emod_nonneg _ oB,.inl (Int.emod_lt_of_pos _ oB)⟩),(kq w)⟩)))))
 ·refine Wk (Ws (Wr (Q (mP G)<|Qc ent107 (c___spec_l1Cur__next w Lc tc sc hc hLc oB oB) G ?_)))
  rintro e z ⟨r,q,p,rfl,f,x,u,c⟩
  refine ⟨_,G,?_⟩
  have m:=c.size
  have a:=(kq w:Kp (fun b_=>b_=gc) w w).step c (fun i_ hi_ e'=>e')
  refine Q (aI G)<|Qn (Ws (Ws (Wr (Q (mI G)<|Q (r_gt G G)<|Qn (Wd G (fun g=>?_) (fun g=>?_))))))
  ·refine Wr (Q (mI G)<|Q (r_mul G G oB)<|Q (mP G)<|Qc ent107 (c___spec_l1Cur__next z Lc q p f (hLc.kn c) oB oB) G ?_)
   rintro e y ⟨j,i,h,rfl,d,l,k,b⟩
   refine ⟨_,G,?_⟩
   have o:=b.size
   refine Q (r_add G G oB)<|Q (aI G)<|Qn (Ws (Wr (Q (mI G)<|Q (mI G)<|Q (r_rem G G oB)<|Q (aI G)<|Qn (We (ret1 G (v:=i6 _) G (⟨(((r*256)+j) % n),i,h,eR G,d,⟨oB,oB⟩,(by first | omega | exact ⟨Int.emod_nonneg _ oB,.inl (Int.emod_lt_of_pos _ oB)⟩),(a.step b (fun i_ hi_ e'=>e'))⟩))))))
  ·refine Wk (Ws (Wr (Q (mI G)<|Q (mI G)<|Q (r_rem G G oB)<|Q (aI G)<|Qn (We (ret1 G (v:=i6 _) G (⟨(r % n),q,p,eR G,f,⟨oB,oB⟩,(by first | omega | exact ⟨Int.emod_nonneg _ oB,.inl (Int.emod_lt_of_pos _ oB)⟩),a⟩))))))
theorem c___spec_l1Cur__one (w:World) {gc ec:Nat} (Lc:List UInt8) (tc sc:Int) (hc:Blk w gc ec [.slice Ac nc cc,i6 tc,.int .u64 sc]) (hLc:SlR w Bc encB 1 Ac nc cc Lc) (hgc:Bc≤gc) (htc:0≤tc∧tc+2≤4611686018427387904) (n:Int) (c:n≤4611686018427387904):Calls Tryz.prog 61 #[.pointer (some ⟨gc,0,none⟩),i6 n] w fun e w'=>∃ (v:Bool) (tc' sc':Int),e=.returned (.bool v)∧Blk w' gc ec [.slice Ac nc cc,i6 tc',.int .u64 sc']∧(tc≤tc'∧tc'≤tc+2)∧Kp (fun b_=>b_=gc) w w':=by
 refine cW 9 Tryz.func61 G G G ?_
 have hBlc:=hc.lt
 have hbdc:=hLc.bound
 have hlec:=hLc.len
 have hBbc:=hLc.bd
 refine Ws (Wr (Q (aB G)<|Qn (Ws (Wr (Q (mP G)<|Q (mI G)<|Qc ent59 (c___spec_l1Cur__pick w Lc tc sc hc hLc oB oB n oD) G ?_)))))
 rintro e k ⟨j,i,h,rfl,b,f,d,a⟩
 refine ⟨_,G,?_⟩
 have g:=a.size
 refine Q (r_eq G G)<|Q (aB G)<|Qn (We (ret1 G (v:=.bool _) G (⟨(decide (j=0)),i,h,eR (eB (by first | rfl | omega | grind)),b,⟨oB,oB⟩,((kq w:Kp (fun b_=>b_=gc) w w).step a (fun i_ hi_ e'=>e'))⟩)))
theorem c___spec_l1Cur__of (w:World) {gc ec:Nat} (Lc:List UInt8) (tc sc:Int) (hc:Blk w gc ec [.slice Ac nc cc,i6 tc,.int .u64 sc]) (hLc:SlR w Bc encB 1 Ac nc cc Lc) (hgc:Bc≤gc) (htc:0≤tc∧tc+2≤4611686018427387904)  (L:List (List UInt8)) (hL:SlR w BL encS 1 AL nL cL L) (g:0<nL) (h:(nL:Int)≤1048576) (b:¬(adr AL).block=gc):Calls Tryz.prog 110 #[.pointer (some ⟨gc,0,none⟩),.slice AL nL cL] w fun e w'=>∃ (v:List UInt8) (tc' sc':Int),e=.returned (str v)∧Blk w' gc ec [.slice Ac nc cc,i6 tc',.int .u64 sc']∧(tc≤tc'∧tc'≤tc+2)∧(v∈L)∧Kp (fun b_=>b_=gc) w w':=by
 refine cW 12 Tryz.func110 G G G ?_
 have hBlc:=hc.lt
 have hbdc:=hLc.bound
 have hlec:=hLc.len
 have hBbc:=hLc.bd
 have hbdL:=hL.bound
 have hleL:=hL.len
 have hBbL:=hL.bd
 refine Ws (Wr (Q (r_as (v:=str ([]:List UInt8)) G)<|Qn (Ws (Wr (Q (mL G)<|Q (mP G)<|Q (mL G)<|Q (r_len und44 G)<|Qc ent59 (c___spec_l1Cur__pick w Lc tc sc hc hLc oB oB (nL:Int) oD) G ?_)))))
 rintro e p ⟨o,n,m,rfl,f,k,j,a⟩
 refine ⟨_,G,?_⟩
 have l:=a.size
 obtain ⟨d,c⟩:=(hL.kpb a (fun hn_ e'=>b e')).get (i:=o.toNat) oB
 refine Q (rX tsl44 (hL.kpb a (fun hn_ e'=>b e')) G G oB)<|Q (r_ld (v:=str d) sca9 G ((hL.kpb a (fun hn_ e'=>b e')).cell0 c G))<|Q (aS G)<|Qn (We (ret1 G (v:=str _) G (⟨d,n,m,eR G,f,⟨oB,oB⟩,(by exact List.mem_of_getElem? ‹L[_]?=some _›),((kq w:Kp (fun b_=>b_=gc) w w).step a (fun i_ hi_ e'=>e'))⟩)))
theorem c___spec_l1Cur__among (w:World) {gc ec:Nat} (Lc:List UInt8) (tc sc:Int) (hc:Blk w gc ec [.slice Ac nc cc,i6 tc,.int .u64 sc]) (hLc:SlR w Bc encB 1 Ac nc cc Lc) (hgc:Bc≤gc) (htc:0≤tc∧tc+2≤4611686018427387904)  (L:List Int) (hL:SlR w BL encI 1 AL nL cL L) (g:0<nL) (h:(nL:Int)≤1048576) (b:¬(adr AL).block=gc):Calls Tryz.prog 58 #[.pointer (some ⟨gc,0,none⟩),.slice AL nL cL] w fun e w'=>∃ (v:Int) (tc' sc':Int),e=.returned (i6 v)∧Blk w' gc ec [.slice Ac nc cc,i6 tc',.int .u64 sc']∧(tc≤tc'∧tc'≤tc+2)∧(v∈L)∧Kp (fun b_=>b_=gc) w w':=by
 refine cW 12 Tryz.func58 G G G ?_
 have hBlc:=hc.lt
 have hbdc:=hLc.bound
 have hlec:=hLc.len
 have hBbc:=hLc.bd
 have hbdL:=hL.bound
 have hleL:=hL.len
 have hBbL:=hL.bd
 refine Ws (Wr (Q (aI G)<|Qn (Ws (Wr (Q (mL G)<|Q (mP G)<|Q (mL G)<|Q (r_len und93 G)<|Qc ent59 (c___spec_l1Cur__pick w Lc tc sc hc hLc oB oB (nL:Int) oD) G ?_)))))
 rintro e p ⟨o,n,m,rfl,f,k,j,a⟩
 refine ⟨_,G,?_⟩
 have l:=a.size
 obtain ⟨d,c⟩:=(hL.kpb a (fun hn_ e'=>b e')).get (i:=o.toNat) oB
 refine Q (rX tsl93 (hL.kpb a (fun hn_ e'=>b e')) G G oB)<|Q (r_ld (v:=i6 d) sca3 G ((hL.kpb a (fun hn_ e'=>b e')).cell0 c G))<|Q (aI G)<|Qn (We (ret1 G (v:=i6 _) G (⟨d,n,m,eR G,f,⟨oB,oB⟩,(by exact List.mem_of_getElem? ‹L[_]?=some _›),((kq w:Kp (fun b_=>b_=gc) w w).step a (fun i_ hi_ e'=>e'))⟩)))
theorem c___spec_l1Cur__spoilt (w:World) {gc ec:Nat} (Lc:List UInt8) (tc sc:Int) (hc:Blk w gc ec [.slice Ac nc cc,i6 tc,.int .u64 sc]) (hLc:SlR w Bc encB 1 Ac nc cc Lc) (hgc:Bc≤gc) (htc:0≤tc∧tc+6≤4611686018427387904) (s:List UInt8) (r:List UInt8) (N:(s.length:Int)≤1048576) (O:0<r.length∧(r.length:Int)≤1048576):Calls Tryz.prog 71 #[.pointer (some ⟨gc,0,none⟩),str s,str r] w fun e w'=>∃ (v:List UInt8) (tc' sc':Int),e=.returned (str v)∧Blk w' gc ec [.slice Ac nc cc,i6 tc',.int .u64 sc']∧(tc≤tc'∧tc'≤tc+6)∧(v.length≤s.length+1)∧Kp (fun b_=>b_=gc) w w':=by
 refine cW 57 Tryz.func71 G G G ?_
 have hBlc:=hc.lt
 have hbdc:=hLc.bound
 have hlec:=hLc.len
 have hBbc:=hLc.bd
 refine Ws (Wr (Q (r_as (v:=str ([]:List UInt8)) G)<|Qn (Ws (Ws (Wr (Q (mS G)<|Q (r_eqs (s:=s) (r:=([]:List UInt8)) G G)<|Qn (Wd G (fun A=>?_) (fun A=>?_))))))))
 ·refine Ws (Wr (Q (mS G)<|Q (r_cuthS (h:=1) und9 G G G oA)<|Q (aS G)<|Qn (We (ret1 G (v:=str _) G (⟨(r.take 1),tc,sc,eR G,hc,⟨oB,oB⟩,oR,(kq w)⟩)))))
 ·have P:=List.length_pos_iff.2 A
  refine Wk (Ws (Wr (Q (mP G)<|Q (mS G)<|Q (r_len_s und9 G)<|Qc ent59 (c___spec_l1Cur__pick w Lc tc sc hc hLc oB oB (s.length:Int) oD) G ?_)))
  rintro e X ⟨a,T,S,rfl,u,R,B,j⟩
  refine ⟨_,G,?_⟩
  have H:=j.size
  refine Q (aI G)<|Qn (Ws (Wr (Q (mS G)<|Q (mP G)<|Q (mS G)<|Q (r_len_s und9 G)<|Qc ent59 (c___spec_l1Cur__pick X Lc T S u (hLc.kn j) oB oB (r.length:Int) oD) G ?_)))
  rintro e z ⟨o,y,x,rfl,p,E,C,d⟩
  refine ⟨_,G,?_⟩
  have I:=d.size
  refine Q (r_cutlS (l:=o.toNat) und9 G G oB oA)<|Q (r_cuthS (h:=1) und9 G G G oA)<|Q (aS G)<|Qn (Ws (Ws (Wr (Q (mP G)<|Qc ent59 (c___spec_l1Cur__pick z Lc y x p ((hLc.kn j).kn d) oB oB 3 oD) G ?_))))
  rintro e V ⟨U,n,m,rfl,c,F,D,k⟩
  refine ⟨_,G,?_⟩
  have J:=k.size
  have b:=(((kq w:Kp (fun b_=>b_=gc) w w).step j (fun i_ hi_ e'=>e')).step d (fun i_ hi_ e'=>e')).step k (fun i_ hi_ e'=>e')
  refine Qn (Wl (Ws (Wr (Q (r_eq G G)<|Q (aB G)<|Qn (Wd G (fun q=>?_) (fun q=>?_))))))
  ·refine Ws (W.regD mo oC (Rq (fun w' hw'=>mS G)<|Rq (fun w' hw'=>mI G)<|Rq (fun w' hw'=>r_cuthS (h:=a.toNat) und9 G G oB oA)<|Rq (fun w' hw'=>mS G)<|Rq (fun w' hw'=>r_cat G G oA)<|Rq (fun w' hw'=>mS G)<|Rq (fun w' hw'=>mI G)<|Rq (fun w' hw'=>r_cutlS (l:=a.toNat) und9 G G oB oA)<|Rq (fun w' hw'=>r_cat G G oA)<|Rq (fun w' hw'=>aS G)<|QR.nil ?_))
   intro Y f
   have K:=f.size
   refine We (ret1 G (v:=str _) G (⟨(((s.take a.toNat)++((r.drop o.toNat).take 1))++(s.drop a.toNat)),n,m,eR G,(c.lo f),⟨oB,oB⟩,oR,(b.lo f)⟩))
  ·refine Ws (Wr (Q (r_eq G G)<|Q (aB G)<|Qn (Wd G (fun t=>?_) (fun t=>?_))))
   ·refine Ws (W.regD mo oC (Rq (fun w' hw'=>mS G)<|Rq (fun w' hw'=>mI G)<|Rq (fun w' hw'=>r_cuthS (h:=a.toNat) und9 G G oB oA)<|Rq (fun w' hw'=>mS G)<|Rq (fun w' hw'=>r_cat G G oA)<|Rq (fun w' hw'=>mS G)<|Rq (fun w' hw'=>mI G)<|Rq (fun w' hw'=>r_add G G oB)<|Rq (fun w' hw'=>r_cutlS (l:=(a+1).toNat) und9 G G oB oA)<|Rq (fun w' hw'=>r_cat G G oA)<|Rq (fun w' hw'=>aS G)<|QR.nil ?_))
    intro Z g
    have L:=g.size
    refine We (ret1 G (v:=str _) G (⟨(((s.take a.toNat)++((r.drop o.toNat).take 1))++(s.drop ((a+1).toNat))),n,m,eR G,(c.lo g),⟨oB,oB⟩,oR,(b.lo g)⟩))
   ·refine Wk (Ws (W.regD mo oC (Rq (fun w' hw'=>mS G)<|Rq (fun w' hw'=>mI G)<|Rq (fun w' hw'=>r_cuthS (h:=a.toNat) und9 G G oB oA)<|Rq (fun w' hw'=>mS G)<|Rq (fun w' hw'=>mI G)<|Rq (fun w' hw'=>r_add G G oB)<|Rq (fun w' hw'=>r_cutlS (l:=(a+1).toNat) und9 G G oB oA)<|Rq (fun w' hw'=>r_cat G G oA)<|Rq (fun w' hw'=>aS G)<|QR.nil ?_)))
    intro aa i
    have M:=i.size
    refine We (ret1 G (v:=str _) G (⟨((s.take a.toNat)++(s.drop ((a+1).toNat))),n,m,eR G,(c.lo i),⟨oB,oB⟩,oR,(b.lo i)⟩))
theorem c_spec_l1Most (w:World) (a:Int) (b:Int):Calls Tryz.prog 109 #[i6 a,i6 b] w fun e w'=>e=.returned (i6 (max a b))∧Lo w w':=by
 refine cW 10 Tryz.func109 G G G (Ws (Wr (Q (aI G)<|Qn (Ws (Ws (Wr (Q (mI G)<|Q (mI G)<|Q (r_gt G G)<|Qn (Wd G (fun c=>?_) (fun c=>?_)))))))))
 ·refine Ws (Wr (Q (mI G)<|Q (aI G)<|Qn (We (ret1 G (v:=i6 _) G (⟨eR (eI oB),(lr w)⟩)))))
 ·refine Wk (Ws (Wr (Q (mI G)<|Q (aI G)<|Qn (We (ret1 G (v:=i6 _) G (⟨eR (eI oB),(lr w)⟩))))))
end Go.Proofs.YtndcchndcghmoaaGreatDoor
