/- Words and walks of this claim. -/
import Derived.Test.YtndcchndcghmoaaGreatDoorChecked
import Derived.Test.YtndcchndcghmoaaGreatDoorMReplayc
set_option linter.unusedVariables false
namespace Go.Proofs.YtndcchndcghmoaaGreatDoor
open Go Go.RowKit Fw
set_option maxRecDepth 10000
set_option maxHeartbeats 2000000
set_option linter.unusedVariables false
theorem ent134:Ent Tryz.prog 134:=en Tryz.func134
theorem ent149:Ent Tryz.prog 149:=en Tryz.func149
theorem c_impl_ParseInt (w:World) (s:List UInt8) (D:(s.length:Int)≤281474976710656) (hE:EnvW w):Calls Tryz.prog 95 #[str s] w fun e w'=>e=.returned (.tuple (List.toArray [i6 ((readN s).1),.bool ((readN s).2)]))∧Lo w w':=by
 refine cW 25 Tryz.func95 G G G (Ws (Wr (Q (aI G)<|Q (aB G)<|Qn (Ws (Wr (Q (mS G)<|Qc ent149 (c_strconv_Atoi w s oB (hE.lo (lr w))) G ?_))))))
 rintro e B ⟨b,I,rfl,m,E,l⟩
 refine ⟨_,G,?_⟩
 have F:=And.left m
 have H:=l.size
 have k:=(lr w).lo l
 refine Q (mT G)<|Q (xI G G)<|Q (r_ext (v:=_) G G)<|Q (aI G)<|Q (r_as (v:=_) G)<|Qn (Ws (Ws (WJ (fun f' w'=>At f' [(2,i6 0),(3,.bool false),(4,i6 b),(23,.bool (decide ((¬(atB s=true))∨((¬((-999999)≤b∧b≤999999))∨(¬((Lib.itoa b)=s))))))]∧Lo B w') ?_ ?_)))
 ·refine Q (r_mv (v:=_) G)<|Q (r_neqErr (p:=atB s=true) oC G ‹ErrIs I _›)<|Q (mB G)<|QN (fun c=>?_) (fun c=>?_)
  ·refine Qs<|Qs<|Qs<|Q (pT G G)<|Q (mB G)<|Qs<|Qs<|Qs<|Qs<|Q (pT G G)<|Qn (⟨_,G,⟨⟨G,G,G,(eDT ((jmf c).1 trivial)),trivial⟩,(lr _)⟩⟩)
  ·refine Qg (mI G)<|SR.gcall G ent66 (c_impl_within B b (-999999) 999999) G ?_
   rintro e o ⟨rfl,a⟩
   refine ⟨_,G,?_⟩
   have y:=a.size
   refine Qg (rN G)<|Q (pF G G)<|Q (mB G)<|QN (fun i=>?_) (fun i=>?_)
   ·refine Qs<|Qs<|Qs<|Qs<|Q (pT G G)<|Qn (⟨_,G,⟨⟨G,G,G,(eDT (((jmf i).trans (jmt c)).1 trivial)),trivial⟩,a⟩⟩)
   ·refine Qg (mI G)<|SR.gcall G ent74 (c_impl_text o b oB (hE.lo (k.lo a))) G ?_
    rintro e J ⟨rfl,g⟩
    refine ⟨_,G,?_⟩
    have z:=g.size
    have q:(Lib.itoa b).length≤21:=itoa_len (n:=b) oB oB
    refine Qg (mS G)<|Qg (r_nes (s:=Lib.itoa b) (r:=s) G G)<|Q (pF G G)<|Qn (⟨_,G,⟨⟨G,G,G,(eND ((jmt i).trans (jmt c))),trivial⟩,(a.trans g)⟩⟩)
 rintro C K ⟨j,h⟩
 rw [← sA j]
 have A:=h.size
 have f:=k.lo h
 refine Wd G (fun d=>?_) (fun d=>?_)
 ·refine Ws (Wr (Q (aI G)<|Q (aB G)<|Qn (We (ret2 G (v:=i6 _) (v':=.bool _) G G ?_))))
  refine ⟨eR (eT2 (eI ?_) (eB ?_)),f⟩ <;> (first | (rw [par_not ‹AtIs _ _› ‹_∨_›]; done) | (rw [par_ok ‹AtIs _ _› ‹¬(_∨_)›]; done))
 ·have t:atB s=true:=(Classical.not_not.1 (not_or.1 d).1)
  have u:(-999999)≤b∧b≤999999:=(Classical.not_not.1 (not_or.1 (not_or.1 d).2).1)
  have x:(Lib.itoa b)=s:=(Classical.not_not.1 (not_or.1 (not_or.1 d).2).2)
  refine Wk (Ws (Wr (Q (mI G)<|Q (aI G)<|Q (aB G)<|Qn (We (ret2 G (v:=i6 _) (v':=.bool _) G G ?_)))))
  refine ⟨eR (eT2 (eI ?_) (eB ?_)),f⟩ <;> (first | (rw [par_not ‹AtIs _ _› ‹_∨_›]; done) | (rw [par_ok ‹AtIs _ _› ‹¬(_∨_)›]; done))
theorem c_spec_l1Read (w:World) (s:List UInt8):Calls Tryz.prog 134 #[str s] w fun e w'=>e=.returned (.tuple (List.toArray [i6 ((readN s).1),.bool ((readN s).2)]))∧Lo w w':=by
 refine cW 58 Tryz.func134 G G G (Ws (Wr (Q (aI G)<|Q (aB G)<|Qn (Ws (Wr (Q (mS G)<|Q (aS G)<|Qn (Ws (Ws (WJ (fun f' w'=>At f' [(0,str s),(2,i6 0),(3,.bool false),(4,str s),(15,.bool (decide ((1<(s.length:Int))∧(((gt s 0).toNat:Int)=45))))]∧Lo w w') ?_ ?_)))))))))
 ·refine Q (mS G)<|Q (r_len_s und9 G)<|Q (r_gt G G)<|Q (mB G)<|QD (fun h1=>?_) (fun h1=>?_)
  ·refine Qg (mS G)<|?_
   have a8:=u8_le (gt s 0)
   refine Qg (r_idxS (i:=0) und9 G G G oA)<|Qg (r_eq G G)<|Q (pT G G)<|Qn (⟨_,G,⟨⟨G,G,G,G,(eDD (jat h1)),trivial⟩,(lr _)⟩⟩)
  ·refine Qs<|Qs<|Qs<|Q (pF G G)<|Qn (⟨_,G,⟨⟨G,G,G,G,(eDF (jaf h1).2),trivial⟩,(lr _)⟩⟩)
 rintro f3 w4 ⟨O,V⟩
 rw [← sA O]
 have ba:=V.size
 have L:=(lr w).lo V
 refine Wd G (fun h9=>?_) (fun h9=>?_)
 ·have ar:1<(s.length:Int):=h9.1
  have au:((gt s 0).toNat:Int)=45:=h9.2
  refine Wr (Q (mS G)<|Q (r_cutlS (l:=1) und9 G G G oA)<|Q (aS G)<|Qn (Ws (Ws (Wr (Q (mS G)<|Q (r_len_s und9 G)<|Qv ent133 (c_spec_l1In w4 ((s.drop 1).length:Int) 1 6) G fun bb P aQ=>?_)))))
  have o:=L.lo P
  refine Q (rN G)<|Qn (Wz G (fun ac=>?_) (fun ac=>?_))
  ·refine Ws (Wr (Q (aI G)<|Q (aB G)<|Qn (We (ret2 G (v:=i6 _) (v':=.bool _) G G ?_))))
   refine ⟨eR (eT2 (eI ?_) (eB ?_)),o⟩ <;> (first | (rw [read_len oK ‹_›]; done) | (have hh:=‹_=stripS s∧_›; first | (rw [read_dig hh.1 (k:=k) oB ‹_›]; done) | (rw [read_neg hh.1 (k:=k) oB ‹_› ‹_›]; done) | (rw [read_pos hh.1 (k:=k) oB ‹_› ‹_›]; done) | (rw [readN_ok ‹Lib.itoa _=s› oB]; done)))
  ·refine Wk (Ws (Wr (Q (aI G)<|Qn (Ws (Ws (Wr (Q (aI G)<|Qn (Wl (WL (σ:=(List UInt8) × Nat) (fun g=>[(0,str s),(4,str g.1),(5,i6 (decV (g.1.take g.2))),(6,i6 (g.2:Int))]) (fun g w'=>(Lo w w')∧(g.1=stripS s∧(g.2≤g.1.length∧g.1.length≤6)∧∀ j,j<g.2→48≤(gt g.1 j).toNat∧(gt g.1 j).toNat≤57)) (fun g=>g.1.length-g.2) (s.drop 1,0) ?_ ?_ ?_)))))))))
   ·refine ⟨G,G,(eI ?_),(eI ?_),trivial⟩ <;> (first | (first | rfl | omega | (rw [decV_next oB])) | (dsimp only; (first | rfl | omega | (rw [decV_next oB]))))
   ·exact ⟨o,(by (try dsimp only); exact ⟨by first | exact strip_yes ‹_› | exact strip_no ‹_›,oB,fun _ h=>absurd h oB⟩)⟩
   ·rintro ⟨T,k⟩ Z f M
    obtain ⟨a,c⟩:(Lo w f)∧(T=stripS s∧(k≤T.length∧T.length≤6)∧∀ j,j<k→48≤(gt T j).toNat∧(gt T j).toNat≤57):=M
    refine (?_:W _ _ _ _ _ (act _ (sets Z [(0,str s),(4,str T),(5,i6 (decV (T.take k))),(6,i6 (k:Int))])) _)
    have ap:=a.size
    have aw:k≤T.length∧T.length≤6:=c.2.1
    have ax:0≤decV (T.take k)∧decV (T.take k)≤999999:=decV_rng c.2.2 c.2.1.1 oB
    refine Ws (Ws (Wr (Q (mI G)<|Q (mS G)<|Q (r_len_s und9 G)<|Q (r_lt G G)<|Qn (Wd G (fun ae=>?_) (fun ae=>?_)))))
    ·refine Wk (Ws (Wl (Ws (Ws (WJ (fun f' w'=>At f' [(0,str s),(4,str T),(5,i6 (decV (T.take k))),(6,i6 (k:Int)),(37,.bool (decide ((((gt T k).toNat:Int)<48)∨(57<((gt T k).toNat:Int)))))]∧Lo f w'∧(((gt T k).toNat:Int)≤255)) ?_ ?_)))))
     ·refine Q (mS G)<|Q (mI G)<|?_
      have C:=u8_le (gt T k)
      refine Q (r_idxS (i:=k) und9 G G G oA)<|Q (r_lt G G)<|Q (mB G)<|QD (fun E=>?_) (fun E=>?_)
      ·refine Qs<|Qs<|Qs<|Qs<|Q (pT G G)<|Qn (⟨_,G,⟨⟨G,G,G,G,(eDT ((jot E).1 trivial)),trivial⟩,(lr _),C⟩⟩)
      ·refine Qg (mS G)<|Qg (mI G)<|Qg (r_idxS (i:=k) und9 G G G oA)<|Qg (r_gt G G)<|Q (pF G G)<|Qn (⟨_,G,⟨⟨G,G,G,G,(eDD (jof E)),trivial⟩,(lr _),C⟩⟩)
     rintro a6 bc ⟨J,A,ay⟩
     rw [← sA J]
     have aR:=A.size
     have p:=a.lo A
     refine Wd G (fun F=>?_) (fun F=>?_)
     ·refine Ws (Wr (Q (aI G)<|Q (aB G)<|Qn (We (ret2 G (v:=i6 _) (v':=.bool _) G G ?_))))
      refine ⟨eR (eT2 (eI ?_) (eB ?_)),p⟩ <;> (first | (rw [read_len oK ‹_›]; done) | (have hh:=‹_=stripS s∧_›; first | (rw [read_dig hh.1 (k:=k) oB ‹_›]; done) | (rw [read_neg hh.1 (k:=k) oB ‹_› ‹_›]; done) | (rw [read_pos hh.1 (k:=k) oB ‹_› ‹_›]; done) | (rw [readN_ok ‹Lib.itoa _=s› oB]; done)))
     ·have az:¬(((gt T k).toNat:Int)<48):=(not_or.1 F).1
      have aA:¬(57<((gt T k).toNat:Int)):=(not_or.1 F).2
      refine Wk (Wr (Q (mI G)<|Q (r_mul G G oB)<|Q (mS G)<|Q (mI G)<|?_))
      have aC:=u8_le (gt T k)
      refine Q (r_idxS (i:=k) und9 G G G oA)<|Q (r_sub8 G G oB)<|Q (r_convI und3 und5 G oB)<|Q (r_add G G oB)<|Q (aI G)<|Qn (Wr (Q (mI G)<|Q (r_add G G oB)<|Q (aI G)<|Qn (⟨(T,k+1),_,G,⟨G,G,(eI (by first | (first | rfl | omega | (rw [decV_next oB])) | (dsimp only; (first | rfl | omega | (rw [decV_next oB]))))),(eI (by first | (first | rfl | omega | (rw [decV_next oB])) | (dsimp only; (first | rfl | omega | (rw [decV_next oB]))))),trivial⟩,⟨p,?_⟩,?_⟩)))
      ·exact (by (try dsimp only); have hh:=‹_=stripS s∧_›; exact ⟨hh.1,oB,dig_next hh.2.2 ‹_›⟩)
      ·exact oH
    ·refine Wx (xh (Ws (Ws (Wr (Q (mS G)<|Q (r_len_s und9 G)<|Q (mS G)<|Q (r_len_s und9 G)<|Q (r_lt G G)<|Qn (Wd G (fun ag=>?_) (fun ag=>?_)))))))
     ·refine Wr (Q (mI G)<|Q (r_neg G oB)<|Q (aI G)<|Qn (Ws (Ws (Wr (Q (mI G)<|Qv ent75 (c_spec_l1Num f (-(decV (T.take k))) oB) G fun be R aT=>?_)))))
      have q:=a.lo R
      have aD:(Lib.itoa (-(decV (T.take k)))).length≤21:=itoa_len (n:=-(decV (T.take k))) oB oB
      refine Q (mS G)<|Q (r_nes (s:=Lib.itoa (-(decV (T.take k)))) (r:=s) G G)<|Qn (Wz G (fun ah=>?_) (fun ah=>?_))
      ·refine Ws (Wr (Q (aI G)<|Q (aB G)<|Qn (We (ret2 G (v:=i6 _) (v':=.bool _) G G ?_))))
       refine ⟨eR (eT2 (eI ?_) (eB ?_)),q⟩ <;> (first | (rw [read_len oK ‹_›]; done) | (have hh:=‹_=stripS s∧_›; first | (rw [read_dig hh.1 (k:=k) oB ‹_›]; done) | (rw [read_neg hh.1 (k:=k) oB ‹_› ‹_›]; done) | (rw [read_pos hh.1 (k:=k) oB ‹_› ‹_›]; done) | (rw [readN_ok ‹Lib.itoa _=s› oB]; done)))
      ·refine Wk (Ws (Wr (Q (mI G)<|Q (aI G)<|Q (aB G)<|Qn (We (ret2 G (v:=i6 _) (v':=.bool _) G G ?_)))))
       refine ⟨eR (eT2 (eI ?_) (eB ?_)),q⟩ <;> (first | (rw [read_len oK ‹_›]; done) | (have hh:=‹_=stripS s∧_›; first | (rw [read_dig hh.1 (k:=k) oB ‹_›]; done) | (rw [read_neg hh.1 (k:=k) oB ‹_› ‹_›]; done) | (rw [read_pos hh.1 (k:=k) oB ‹_› ‹_›]; done) | (rw [readN_ok ‹Lib.itoa _=s› oB]; done)))
     ·refine Wk (Ws (Ws (Wr (Q (mI G)<|Qv ent75 (c_spec_l1Num f (decV (T.take k)) oB) G fun bf S aU=>?_))))
      have t:=a.lo S
      have aE:(Lib.itoa (decV (T.take k))).length≤21:=itoa_len (n:=decV (T.take k)) oB oB
      refine Q (mS G)<|Q (r_nes (s:=Lib.itoa (decV (T.take k))) (r:=s) G G)<|Qn (Wz G (fun ai=>?_) (fun ai=>?_))
      ·refine Ws (Wr (Q (aI G)<|Q (aB G)<|Qn (We (ret2 G (v:=i6 _) (v':=.bool _) G G ?_))))
       refine ⟨eR (eT2 (eI ?_) (eB ?_)),t⟩ <;> (first | (rw [read_len oK ‹_›]; done) | (have hh:=‹_=stripS s∧_›; first | (rw [read_dig hh.1 (k:=k) oB ‹_›]; done) | (rw [read_neg hh.1 (k:=k) oB ‹_› ‹_›]; done) | (rw [read_pos hh.1 (k:=k) oB ‹_› ‹_›]; done) | (rw [readN_ok ‹Lib.itoa _=s› oB]; done)))
      ·refine Wk (Ws (Wr (Q (mI G)<|Q (aI G)<|Q (aB G)<|Qn (We (ret2 G (v:=i6 _) (v':=.bool _) G G ?_)))))
       refine ⟨eR (eT2 (eI ?_) (eB ?_)),t⟩ <;> (first | (rw [read_len oK ‹_›]; done) | (have hh:=‹_=stripS s∧_›; first | (rw [read_dig hh.1 (k:=k) oB ‹_›]; done) | (rw [read_neg hh.1 (k:=k) oB ‹_› ‹_›]; done) | (rw [read_pos hh.1 (k:=k) oB ‹_› ‹_›]; done) | (rw [readN_ok ‹Lib.itoa _=s› oB]; done)))
 ·refine Wk (Ws (Ws (Wr (Q (mS G)<|Q (r_len_s und9 G)<|Qv ent133 (c_spec_l1In w4 (s.length:Int) 1 6) G fun bg U aV=>?_))))
  have u:=L.lo U
  refine Q (rN G)<|Qn (Wz G (fun aj=>?_) (fun aj=>?_))
  ·refine Ws (Wr (Q (aI G)<|Q (aB G)<|Qn (We (ret2 G (v:=i6 _) (v':=.bool _) G G ?_))))
   refine ⟨eR (eT2 (eI ?_) (eB ?_)),u⟩ <;> (first | (rw [read_len oK ‹_›]; done) | (have hh:=‹_=stripS s∧_›; first | (rw [read_dig hh.1 (k:=k) oB ‹_›]; done) | (rw [read_neg hh.1 (k:=k) oB ‹_› ‹_›]; done) | (rw [read_pos hh.1 (k:=k) oB ‹_› ‹_›]; done) | (rw [readN_ok ‹Lib.itoa _=s› oB]; done)))
  ·refine Wk (Ws (Wr (Q (aI G)<|Qn (Ws (Ws (Wr (Q (aI G)<|Qn (Wl (WL (σ:=(List UInt8) × Nat) (fun g=>[(0,str s),(4,str g.1),(5,i6 (decV (g.1.take g.2))),(6,i6 (g.2:Int))]) (fun g w'=>(Lo w w')∧(g.1=stripS s∧(g.2≤g.1.length∧g.1.length≤6)∧∀ j,j<g.2→48≤(gt g.1 j).toNat∧(gt g.1 j).toNat≤57)) (fun g=>g.1.length-g.2) (s,0) ?_ ?_ ?_)))))))))
   ·refine ⟨G,G,(eI ?_),(eI ?_),trivial⟩ <;> (first | (first | rfl | omega | (rw [decV_next oB])) | (dsimp only; (first | rfl | omega | (rw [decV_next oB]))))
   ·exact ⟨u,(by (try dsimp only); exact ⟨by first | exact strip_yes ‹_› | exact strip_no ‹_›,oB,fun _ h=>absurd h oB⟩)⟩
   ·rintro ⟨T,k⟩ aa m N
    obtain ⟨b,d⟩:(Lo w m)∧(T=stripS s∧(k≤T.length∧T.length≤6)∧∀ j,j<k→48≤(gt T j).toNat∧(gt T j).toNat≤57):=N
    refine (?_:W _ _ _ _ _ (act _ (sets aa [(0,str s),(4,str T),(5,i6 (decV (T.take k))),(6,i6 (k:Int))])) _)
    have aq:=b.size
    have aF:k≤T.length∧T.length≤6:=d.2.1
    have aG:0≤decV (T.take k)∧decV (T.take k)≤999999:=decV_rng d.2.2 d.2.1.1 oB
    refine Ws (Ws (Wr (Q (mI G)<|Q (mS G)<|Q (r_len_s und9 G)<|Q (r_lt G G)<|Qn (Wd G (fun ak=>?_) (fun ak=>?_)))))
    ·refine Wk (Ws (Wl (Ws (Ws (WJ (fun f' w'=>At f' [(0,str s),(4,str T),(5,i6 (decV (T.take k))),(6,i6 (k:Int)),(37,.bool (decide ((((gt T k).toNat:Int)<48)∨(57<((gt T k).toNat:Int)))))]∧Lo m w'∧(((gt T k).toNat:Int)≤255)) ?_ ?_)))))
     ·refine Q (mS G)<|Q (mI G)<|?_
      have D:=u8_le (gt T k)
      refine Q (r_idxS (i:=k) und9 G G G oA)<|Q (r_lt G G)<|Q (mB G)<|QD (fun H=>?_) (fun H=>?_)
      ·refine Qs<|Qs<|Qs<|Qs<|Q (pT G G)<|Qn (⟨_,G,⟨⟨G,G,G,G,(eDT ((jot H).1 trivial)),trivial⟩,(lr _),D⟩⟩)
      ·refine Qg (mS G)<|Qg (mI G)<|Qg (r_idxS (i:=k) und9 G G G oA)<|Qg (r_gt G G)<|Q (pF G G)<|Qn (⟨_,G,⟨⟨G,G,G,G,(eDD (jof H)),trivial⟩,(lr _),D⟩⟩)
     rintro a7 bh ⟨K,B,aH⟩
     rw [← sA K]
     have aW:=B.size
     have x:=b.lo B
     refine Wd G (fun I=>?_) (fun I=>?_)
     ·refine Ws (Wr (Q (aI G)<|Q (aB G)<|Qn (We (ret2 G (v:=i6 _) (v':=.bool _) G G ?_))))
      refine ⟨eR (eT2 (eI ?_) (eB ?_)),x⟩ <;> (first | (rw [read_len oK ‹_›]; done) | (have hh:=‹_=stripS s∧_›; first | (rw [read_dig hh.1 (k:=k) oB ‹_›]; done) | (rw [read_neg hh.1 (k:=k) oB ‹_› ‹_›]; done) | (rw [read_pos hh.1 (k:=k) oB ‹_› ‹_›]; done) | (rw [readN_ok ‹Lib.itoa _=s› oB]; done)))
     ·have aJ:¬(((gt T k).toNat:Int)<48):=(not_or.1 I).1
      have aK:¬(57<((gt T k).toNat:Int)):=(not_or.1 I).2
      refine Wk (Wr (Q (mI G)<|Q (r_mul G G oB)<|Q (mS G)<|Q (mI G)<|?_))
      have aM:=u8_le (gt T k)
      refine Q (r_idxS (i:=k) und9 G G G oA)<|Q (r_sub8 G G oB)<|Q (r_convI und3 und5 G oB)<|Q (r_add G G oB)<|Q (aI G)<|Qn (Wr (Q (mI G)<|Q (r_add G G oB)<|Q (aI G)<|Qn (⟨(T,k+1),_,G,⟨G,G,(eI (by first | (first | rfl | omega | (rw [decV_next oB])) | (dsimp only; (first | rfl | omega | (rw [decV_next oB]))))),(eI (by first | (first | rfl | omega | (rw [decV_next oB])) | (dsimp only; (first | rfl | omega | (rw [decV_next oB]))))),trivial⟩,⟨x,?_⟩,?_⟩)))
      ·exact (by (try dsimp only); have hh:=‹_=stripS s∧_›; exact ⟨hh.1,oB,dig_next hh.2.2 ‹_›⟩)
      ·exact oH
    ·refine Wx (xh (Ws (Ws (Wr (Q (mS G)<|Q (r_len_s und9 G)<|Q (mS G)<|Q (r_len_s und9 G)<|Q (r_lt G G)<|Qn (Wd G (fun al=>?_) (fun al=>?_)))))))
     ·refine Wr (Q (mI G)<|Q (r_neg G oB)<|Q (aI G)<|Qn (Ws (Ws (Wr (Q (mI G)<|Qv ent75 (c_spec_l1Num m (-(decV (T.take k))) oB) G fun bi X aX=>?_)))))
      have y:=b.lo X
      have aN:(Lib.itoa (-(decV (T.take k)))).length≤21:=itoa_len (n:=-(decV (T.take k))) oB oB
      refine Q (mS G)<|Q (r_nes (s:=Lib.itoa (-(decV (T.take k)))) (r:=s) G G)<|Qn (Wz G (fun am=>?_) (fun am=>?_))
      ·refine Ws (Wr (Q (aI G)<|Q (aB G)<|Qn (We (ret2 G (v:=i6 _) (v':=.bool _) G G ?_))))
       refine ⟨eR (eT2 (eI ?_) (eB ?_)),y⟩ <;> (first | (rw [read_len oK ‹_›]; done) | (have hh:=‹_=stripS s∧_›; first | (rw [read_dig hh.1 (k:=k) oB ‹_›]; done) | (rw [read_neg hh.1 (k:=k) oB ‹_› ‹_›]; done) | (rw [read_pos hh.1 (k:=k) oB ‹_› ‹_›]; done) | (rw [readN_ok ‹Lib.itoa _=s› oB]; done)))
      ·refine Wk (Ws (Wr (Q (mI G)<|Q (aI G)<|Q (aB G)<|Qn (We (ret2 G (v:=i6 _) (v':=.bool _) G G ?_)))))
       refine ⟨eR (eT2 (eI ?_) (eB ?_)),y⟩ <;> (first | (rw [read_len oK ‹_›]; done) | (have hh:=‹_=stripS s∧_›; first | (rw [read_dig hh.1 (k:=k) oB ‹_›]; done) | (rw [read_neg hh.1 (k:=k) oB ‹_› ‹_›]; done) | (rw [read_pos hh.1 (k:=k) oB ‹_› ‹_›]; done) | (rw [readN_ok ‹Lib.itoa _=s› oB]; done)))
     ·refine Wk (Ws (Ws (Wr (Q (mI G)<|Qv ent75 (c_spec_l1Num m (decV (T.take k)) oB) G fun bj Y aY=>?_))))
      have z:=b.lo Y
      have aO:(Lib.itoa (decV (T.take k))).length≤21:=itoa_len (n:=decV (T.take k)) oB oB
      refine Q (mS G)<|Q (r_nes (s:=Lib.itoa (decV (T.take k))) (r:=s) G G)<|Qn (Wz G (fun an=>?_) (fun an=>?_))
      ·refine Ws (Wr (Q (aI G)<|Q (aB G)<|Qn (We (ret2 G (v:=i6 _) (v':=.bool _) G G ?_))))
       refine ⟨eR (eT2 (eI ?_) (eB ?_)),z⟩ <;> (first | (rw [read_len oK ‹_›]; done) | (have hh:=‹_=stripS s∧_›; first | (rw [read_dig hh.1 (k:=k) oB ‹_›]; done) | (rw [read_neg hh.1 (k:=k) oB ‹_› ‹_›]; done) | (rw [read_pos hh.1 (k:=k) oB ‹_› ‹_›]; done) | (rw [readN_ok ‹Lib.itoa _=s› oB]; done)))
      ·refine Wk (Ws (Wr (Q (mI G)<|Q (aI G)<|Q (aB G)<|Qn (We (ret2 G (v:=i6 _) (v':=.bool _) G G ?_)))))
       refine ⟨eR (eT2 (eI ?_) (eB ?_)),z⟩ <;> (first | (rw [read_len oK ‹_›]; done) | (have hh:=‹_=stripS s∧_›; first | (rw [read_dig hh.1 (k:=k) oB ‹_›]; done) | (rw [read_neg hh.1 (k:=k) oB ‹_› ‹_›]; done) | (rw [read_pos hh.1 (k:=k) oB ‹_› ‹_›]; done) | (rw [readN_ok ‹Lib.itoa _=s› oB]; done)))
theorem c_spec_ParseInt (w:World) (s:List UInt8):Calls Tryz.prog 83 #[str s] w fun e w'=>e=.returned (.tuple (List.toArray [i6 ((readN s).1),.bool ((readN s).2)]))∧Lo w w':=by
 refine cW 8 Tryz.func83 G G G (Ws (Wr (Q (aI G)<|Q (aB G)<|Qn (Ws (Wr (Q (mS G)<|Qv ent134 (c_spec_l1Read w s) G fun d a c=>?_))))))
 have b:-999999≤(readN s).1∧(readN s).1≤999999:=readN_rng s
 refine Q (xI G G)<|Q (xB G G)<|Q (aI G)<|Q (aB G)<|Qn (We (ret2 G (v:=i6 _) (v':=.bool _) G G (⟨eR (eT2 G (eB oX)),((lr w).lo a)⟩)))
end Go.Proofs.YtndcchndcghmoaaGreatDoor
namespace Go.Proofs.YtndcchndcghmoaaGreatDoor
open Go Go.RowKit Fw
set_option maxRecDepth 10000
set_option maxHeartbeats 2000000
set_option linter.unusedVariables false
variable {AL : Option Addr} {nL cL BL : Nat}
theorem bld106_:Tryz.prog.built 106 []=some (List.toArray [i6 0,i6 0,i6 0,i6 0]):=by kernel_rfl
theorem bld106_0_1_2 (a0:Int) (a1:Int) (a2:Int):Tryz.prog.built 106 [(0,i6 a0),(1,i6 a1),(2,i6 a2)]=some (List.toArray [i6 a0,i6 a1,i6 a2,i6 0]):=by kernel_rfl
theorem bld106_0_1_2_3 (a0:Int) (a1:Int) (a2:Int) (a3:Int):Tryz.prog.built 106 [(0,i6 a0),(1,i6 a1),(2,i6 a2),(3,i6 a3)]=some (List.toArray [i6 a0,i6 a1,i6 a2,i6 a3]):=by kernel_rfl
theorem bld106_0_1_3 (a0:Int) (a1:Int) (a3:Int):Tryz.prog.built 106 [(0,i6 a0),(1,i6 a1),(3,i6 a3)]=some (List.toArray [i6 a0,i6 a1,i6 0,i6 a3]):=by kernel_rfl
theorem ent186:Ent Tryz.prog 186:=en Tryz.func186
theorem tz106:TZ Tryz.prog 106 (.agg (List.toArray [i6 0,i6 0,i6 0,i6 0])):=fun _=>by kernel_rfl
open Classical in
noncomputable def impl_stepFor (s:List UInt8) (L:List Int):LibraryStep × Bool :=
 if (s=([98,117,121]:List UInt8))∧((L.length:Int)=2) then ((⟨1,(gt L 0),0,(gt L 1)⟩:LibraryStep),true) else if (s=([108,101,110,100]:List UInt8))∧((L.length:Int)=2) then ((⟨2,(gt L 0),(gt L 1),0⟩:LibraryStep),true) else if (s=([98,97,99,107]:List UInt8))∧((L.length:Int)=3) then ((⟨3,(gt L 0),(gt L 1),(gt L 2)⟩:LibraryStep),true) else if (s=([104,97,110,100]:List UInt8))∧((L.length:Int)=3) then ((⟨5,(gt L 0),(gt L 1),(gt L 2)⟩:LibraryStep),true) else if (s=([109,101,110,100]:List UInt8))∧((L.length:Int)=2) then ((⟨4,(gt L 0),0,(gt L 1)⟩:LibraryStep),true) else if (s=([100,114,111,112]:List UInt8))∧((L.length:Int)=2) then ((⟨6,(gt L 0),0,(gt L 1)⟩:LibraryStep),true) else if (s=([119,101,97,114]:List UInt8))∧((L.length:Int)=2) then ((⟨7,(gt L 0),0,(gt L 1)⟩:LibraryStep),true) else ((⟨0,0,0,0⟩:LibraryStep),false)
theorem c_impl_stepFor (w:World) (s:List UInt8)  (L:List Int) (hL:SlR w BL encI 1 AL nL cL L):Calls Tryz.prog 96 #[str s,.slice AL nL cL] w fun e w'=>e=.returned (.tuple (List.toArray [.agg (List.toArray [i6 (((impl_stepFor s L).1).Kind),i6 (((impl_stepFor s L).1).Id),i6 (((impl_stepFor s L).1).Reader),i6 (((impl_stepFor s L).1).Value)]),.bool ((impl_stepFor s L).2)]))∧Lo w w':=by
 refine cW 118 Tryz.func96 G G G ?_
 have hbdL:=hL.bound
 have hleL:=hL.len
 have hBbL:=hL.bd
 refine Ws (Wr (Qa (l:=[i6 0,i6 0,i6 0,i6 0]) tz106 G ?_))
 intro m w2 dL bE dM bu
 refine Q (aB G)<|Qn (Ws (Wl (Ws (WJ (fun f' w'=>At f' [(0,str s),(1,.slice AL nL cL),(4,pt m),(5,.bool false),(6,.bool (decide ((s=([98,117,121]:List UInt8))∧((nL:Int)=2))))]∧Lo w2 w') ?_ ?_))))
 ·refine Q (mS G)<|Q (r_eqs (s:=s) (r:=([98,117,121]:List UInt8)) G G)<|Q (mB G)<|QD (fun h9=>?_) (fun h9=>?_)
  ·refine Qg (mL G)<|Qg (r_len und93 G)<|Qg (r_eq G G)<|Q (pT G G)<|Q (aB G)<|Qn (⟨_,G,⟨⟨G,G,G,G,(eDD (jat h9)),trivial⟩,(lr _)⟩⟩)
  ·refine Qs<|Qs<|Qs<|Q (pF G G)<|Q (aB G)<|Qn (⟨_,G,⟨⟨G,G,G,G,(eDF (jaf h9).2),trivial⟩,(lr _)⟩⟩)
 rintro dI a8 ⟨bi,F⟩
 rw [← sA bi]
 have dh:=F.size
 have bb:=((lr w).lo bE).lo F
 refine Wd G (fun D=>?_) (fun D=>?_)
 ·have c6:s=([98,117,121]:List UInt8):=D.1
  have c7:(nL:Int)=2:=D.2
  refine Ws ?_
  have K:=(hL.lo bE).lo F
  refine WA (Kp (fun b_=>b_=m) a8) (fun f' w'=>At f' [(4,pt m),(5,.bool true)]∧(Kp (fun b_=>b_=m) a8 w')∧(Blk w' m 106 [i6 1,i6 (gt L 0),i6 0,i6 (gt L 1)])∧(L[0]?=some (gt L 0))∧(L[1]?=some (gt L 1))) mo ?_ ?_
  ·intro dO p
   have di:=p.size
   refine Ak 0 G (kr p) (fun w' hw'=>mL G)<|?_
   have bf:=(K.lo p).elem (i:=0) oB
   refine Ak 1 G (kr p) (fun w' hw'=>rX tsl93 (K.kn hw' oB) G G oB)<|Ak 2 G (kr p) (fun w' hw'=>r_ld (v:=i6 (gt L 0)) sca3 G ((K.kn hw' oB).cell0 bf G))<|Ak 3 G (kr p) (fun w' hw'=>mL G)<|?_
   have bg:=(K.lo p).elem (i:=1) oB
   refine Ak 4 G (kr p) (fun w' hw'=>rX tsl93 (K.kn hw' oB) G G oB)<|Ak 5 G (kr p) (fun w' hw'=>r_ld (v:=i6 (gt L 1)) sca3 G ((K.kn hw' oB).cell0 bg G))<|Ak 6 G (kr p) (fun w' hw'=>r_build (vs:=[(0,i6 1),(1,i6 (gt L 0)),(3,i6 (gt L 1))]) G (bld106_0_1_3 _ _ _))<|Ab 7 G (Qw (o:=0) (vs:=[i6 1,i6 (gt L 0),i6 0,i6 (gt L 1)]) agg106.2 G G G G ((bu.lo F).lo p) ler G ?_)
   intro dP bO de bN
   have au:=((kr p:Kp (fun b_=>b_=m) a8 _)).step bO (fun _ _ e=>e)
   refine Qn ⟨au,_,G,(Ak 8 G au (fun w' hw'=>aB G)<|Ad oC (⟨⟨G,G,trivial⟩,au,bN,bf,bg⟩))⟩
  rintro dJ dQ ⟨bj,be,bP,df,dg⟩
  rw [← sA bj]
  have dk:=be.size
  refine We (retCT G G agg106 bP G (v:=.bool _) G ?_)
  refine ⟨eR (eT2 (eA (eC (eI ?_) (eC (eI ?_) (eC (eI ?_) (eC (eI ?_) G))))) (eB ?_)),(bb.new be oB)⟩ <;> (subst hleL; unfold impl_stepFor; rw [if_pos D] <;> rfl)
 ·refine Ws ?_
  have C:=(hL.lo bE).lo F
  refine WJ (fun f' w'=>At f' [(0,str s),(1,.slice AL nL cL),(4,pt m),(5,.bool false),(21,.bool (decide ((s=([108,101,110,100]:List UInt8))∧((nL:Int)=2))))]∧Lo a8 w') ?_ ?_
  ·refine Q (mS G)<|Q (r_eqs (s:=s) (r:=([108,101,110,100]:List UInt8)) G G)<|Q (mB G)<|QD (fun bh=>?_) (fun bh=>?_)
   ·refine Qg (mL G)<|Qg (r_len und93 G)<|Qg (r_eq G G)<|Q (pT G G)<|Q (aB G)<|Qn (⟨_,G,⟨⟨G,G,G,G,(eDD (jat bh)),trivial⟩,(lr _)⟩⟩)
   ·refine Qs<|Qs<|Qs<|Q (pF G G)<|Q (aB G)<|Qn (⟨_,G,⟨⟨G,G,G,G,(eDF (jaf bh).2),trivial⟩,(lr _)⟩⟩)
  rintro dK ba ⟨bl,q⟩
  rw [← sA bl]
  have dm:=q.size
  have bc:=bb.lo q
  refine Wd G (fun I=>?_) (fun I=>?_)
  ·have da:s=([108,101,110,100]:List UInt8):=I.1
   have db:(nL:Int)=2:=I.2
   refine Ws (WA (Kp (fun b_=>b_=m) ba) (fun f' w'=>At f' [(4,pt m),(5,.bool true)]∧(Kp (fun b_=>b_=m) ba w')∧(Blk w' m 106 [i6 2,i6 (gt L 0),i6 (gt L 1),i6 0])∧(L[0]?=some (gt L 0))∧(L[1]?=some (gt L 1))) mo ?_ ?_)
   ·intro dn d
    have ct:=d.size
    refine Ak 0 G (kr d) (fun w' hw'=>mL G)<|?_
    have ax:=((C.lo q).lo d).elem (i:=0) oB
    refine Ak 1 G (kr d) (fun w' hw'=>rX tsl93 ((C.lo q).kn hw' oB) G G oB)<|Ak 2 G (kr d) (fun w' hw'=>r_ld (v:=i6 (gt L 0)) sca3 G (((C.lo q).kn hw' oB).cell0 ax G))<|Ak 3 G (kr d) (fun w' hw'=>mL G)<|?_
    have ay:=((C.lo q).lo d).elem (i:=1) oB
    refine Ak 4 G (kr d) (fun w' hw'=>rX tsl93 ((C.lo q).kn hw' oB) G G oB)<|Ak 5 G (kr d) (fun w' hw'=>r_ld (v:=i6 (gt L 1)) sca3 G (((C.lo q).kn hw' oB).cell0 ay G))<|Ak 6 G (kr d) (fun w' hw'=>r_build (vs:=[(0,i6 2),(1,i6 (gt L 0)),(2,i6 (gt L 1))]) G (bld106_0_1_2 _ _ _))<|Ab 7 G (Qw (o:=0) (vs:=[i6 2,i6 (gt L 0),i6 (gt L 1),i6 0]) agg106.2 G G G G (((bu.lo F).lo q).lo d) ler G ?_)
    intro dp bz b5 bm
    have N:=((kr d:Kp (fun b_=>b_=m) ba _)).step bz (fun _ _ e=>e)
    refine Qn ⟨N,_,G,(Ak 8 G N (fun w' hw'=>aB G)<|Ad oC (⟨⟨G,G,trivial⟩,N,bm,ax,ay⟩))⟩
   rintro cN dq ⟨aQ,am,bH,ce,cf⟩
   rw [← sA aQ]
   have cu:=am.size
   refine We (retCT G G agg106 bH G (v:=.bool _) G ?_)
   refine ⟨eR (eT2 (eA (eC (eI ?_) (eC (eI ?_) (eC (eI ?_) (eC (eI ?_) G))))) (eB ?_)),(bc.new am oB)⟩ <;> (subst hleL; unfold impl_stepFor; rw [if_neg D,if_pos I] <;> rfl)
  ·refine Ws ?_
   have U:=(bu.lo F).lo q
   refine WJ (fun f' w'=>At f' [(0,str s),(1,.slice AL nL cL),(4,pt m),(5,.bool false),(36,.bool (decide ((s=([98,97,99,107]:List UInt8))∧((nL:Int)=3))))]∧Lo ba w') ?_ ?_
   ·refine Q (mS G)<|Q (r_eqs (s:=s) (r:=([98,97,99,107]:List UInt8)) G G)<|Q (mB G)<|QD (fun aa=>?_) (fun aa=>?_)
    ·refine Qg (mL G)<|Qg (r_len und93 G)<|Qg (r_eq G G)<|Q (pT G G)<|Q (aB G)<|Qn (⟨_,G,⟨⟨G,G,G,G,(eDD (jat aa)),trivial⟩,(lr _)⟩⟩)
    ·refine Qs<|Qs<|Qs<|Q (pF G G)<|Q (aB G)<|Qn (⟨_,G,⟨⟨G,G,G,G,(eDF (jaf aa).2),trivial⟩,(lr _)⟩⟩)
   rintro cO W ⟨aR,t⟩
   rw [← sA aR]
   have cw:=t.size
   have ah:=bc.lo t
   refine Wd G (fun y=>?_) (fun y=>?_)
   ·have bR:s=([98,97,99,107]:List UInt8):=y.1
    have bS:(nL:Int)=3:=y.2
    refine Ws ?_
    have n:=(C.lo q).lo t
    refine WA (Kp (fun b_=>b_=m) W) (fun f' w'=>At f' [(4,pt m),(5,.bool true)]∧(Kp (fun b_=>b_=m) W w')∧(Blk w' m 106 [i6 3,i6 (gt L 0),i6 (gt L 1),i6 (gt L 2)])∧(L[0]?=some (gt L 0))∧(L[1]?=some (gt L 1))∧(L[2]?=some (gt L 2))) mo ?_ ?_
    ·intro dr a
     have cx:=a.size
     refine Ak 0 G (kr a) (fun w' hw'=>mL G)<|?_
     have az:=(n.lo a).elem (i:=0) oB
     refine Ak 1 G (kr a) (fun w' hw'=>rX tsl93 (n.kn hw' oB) G G oB)<|Ak 2 G (kr a) (fun w' hw'=>r_ld (v:=i6 (gt L 0)) sca3 G ((n.kn hw' oB).cell0 az G))<|Ak 3 G (kr a) (fun w' hw'=>mL G)<|?_
     have aA:=(n.lo a).elem (i:=1) oB
     refine Ak 4 G (kr a) (fun w' hw'=>rX tsl93 (n.kn hw' oB) G G oB)<|Ak 5 G (kr a) (fun w' hw'=>r_ld (v:=i6 (gt L 1)) sca3 G ((n.kn hw' oB).cell0 aA G))<|Ak 6 G (kr a) (fun w' hw'=>mL G)<|?_
     have aC:=(n.lo a).elem (i:=2) oB
     refine Ak 7 G (kr a) (fun w' hw'=>rX tsl93 (n.kn hw' oB) G G oB)<|Ak 8 G (kr a) (fun w' hw'=>r_ld (v:=i6 (gt L 2)) sca3 G ((n.kn hw' oB).cell0 aC G))<|Ak 9 G (kr a) (fun w' hw'=>r_build (vs:=[(0,i6 3),(1,i6 (gt L 0)),(2,i6 (gt L 1)),(3,i6 (gt L 2))]) G (bld106_0_1_2_3 _ _ _ _))<|Ab 10 G (Qw (o:=0) (vs:=[i6 3,i6 (gt L 0),i6 (gt L 1),i6 (gt L 2)]) agg106.2 G G G G ((U.lo t).lo a) ler G ?_)
     intro dt bA b6 bn
     have O:=((kr a:Kp (fun b_=>b_=m) W _)).step bA (fun _ _ e=>e)
     refine Qn ⟨O,_,G,(Ak 11 G O (fun w' hw'=>aB G)<|Ad oC (⟨⟨G,G,trivial⟩,O,bn,az,aA,aC⟩))⟩
    rintro cP du ⟨aT,an,bI,cg,ch,ci⟩
    rw [← sA aT]
    have cy:=an.size
    refine We (retCT G G agg106 bI G (v:=.bool _) G ?_)
    refine ⟨eR (eT2 (eA (eC (eI ?_) (eC (eI ?_) (eC (eI ?_) (eC (eI ?_) G))))) (eB ?_)),(ah.new an oB)⟩ <;> (subst hleL; unfold impl_stepFor; rw [if_neg D,if_neg I,if_pos y] <;> rfl)
   ·refine Ws ?_
    have k:=(C.lo q).lo t
    refine WJ (fun f' w'=>At f' [(0,str s),(1,.slice AL nL cL),(4,pt m),(5,.bool false),(54,.bool (decide ((s=([104,97,110,100]:List UInt8))∧((nL:Int)=3))))]∧Lo W w') ?_ ?_
    ·refine Q (mS G)<|Q (r_eqs (s:=s) (r:=([104,97,110,100]:List UInt8)) G G)<|Q (mB G)<|QD (fun ab=>?_) (fun ab=>?_)
     ·refine Qg (mL G)<|Qg (r_len und93 G)<|Qg (r_eq G G)<|Q (pT G G)<|Q (aB G)<|Qn (⟨_,G,⟨⟨G,G,G,G,(eDD (jat ab)),trivial⟩,(lr _)⟩⟩)
     ·refine Qs<|Qs<|Qs<|Q (pF G G)<|Q (aB G)<|Qn (⟨_,G,⟨⟨G,G,G,G,(eDF (jaf ab).2),trivial⟩,(lr _)⟩⟩)
    rintro cQ X ⟨aU,c⟩
    rw [← sA aU]
    have cz:=c.size
    have ai:=ah.lo c
    refine Wd G (fun B=>?_) (fun B=>?_)
    ·have bT:s=([104,97,110,100]:List UInt8):=B.1
     have bU:(nL:Int)=3:=B.2
     refine Ws (WA (Kp (fun b_=>b_=m) X) (fun f' w'=>At f' [(4,pt m),(5,.bool true)]∧(Kp (fun b_=>b_=m) X w')∧(Blk w' m 106 [i6 5,i6 (gt L 0),i6 (gt L 1),i6 (gt L 2)])∧(L[0]?=some (gt L 0))∧(L[1]?=some (gt L 1))∧(L[2]?=some (gt L 2))) mo ?_ ?_)
     ·intro dv b
      have cA:=b.size
      refine Ak 0 G (kr b) (fun w' hw'=>mL G)<|?_
      have aD:=((k.lo c).lo b).elem (i:=0) oB
      refine Ak 1 G (kr b) (fun w' hw'=>rX tsl93 ((k.lo c).kn hw' oB) G G oB)<|Ak 2 G (kr b) (fun w' hw'=>r_ld (v:=i6 (gt L 0)) sca3 G (((k.lo c).kn hw' oB).cell0 aD G))<|Ak 3 G (kr b) (fun w' hw'=>mL G)<|?_
      have aE:=((k.lo c).lo b).elem (i:=1) oB
      refine Ak 4 G (kr b) (fun w' hw'=>rX tsl93 ((k.lo c).kn hw' oB) G G oB)<|Ak 5 G (kr b) (fun w' hw'=>r_ld (v:=i6 (gt L 1)) sca3 G (((k.lo c).kn hw' oB).cell0 aE G))<|Ak 6 G (kr b) (fun w' hw'=>mL G)<|?_
      have aF:=((k.lo c).lo b).elem (i:=2) oB
      refine Ak 7 G (kr b) (fun w' hw'=>rX tsl93 ((k.lo c).kn hw' oB) G G oB)<|Ak 8 G (kr b) (fun w' hw'=>r_ld (v:=i6 (gt L 2)) sca3 G (((k.lo c).kn hw' oB).cell0 aF G))<|Ak 9 G (kr b) (fun w' hw'=>r_build (vs:=[(0,i6 5),(1,i6 (gt L 0)),(2,i6 (gt L 1)),(3,i6 (gt L 2))]) G (bld106_0_1_2_3 _ _ _ _))<|Ab 10 G (Qw (o:=0) (vs:=[i6 5,i6 (gt L 0),i6 (gt L 1),i6 (gt L 2)]) agg106.2 G G G G (((U.lo t).lo c).lo b) ler G ?_)
      intro dw bB b7 bo
      have P:=((kr b:Kp (fun b_=>b_=m) X _)).step bB (fun _ _ e=>e)
      refine Qn ⟨P,_,G,(Ak 11 G P (fun w' hw'=>aB G)<|Ad oC (⟨⟨G,G,trivial⟩,P,bo,aD,aE,aF⟩))⟩
     rintro cR dx ⟨aV,ao,bJ,cj,ck,cl⟩
     rw [← sA aV]
     have cB:=ao.size
     refine We (retCT G G agg106 bJ G (v:=.bool _) G ?_)
     refine ⟨eR (eT2 (eA (eC (eI ?_) (eC (eI ?_) (eC (eI ?_) (eC (eI ?_) G))))) (eB ?_)),(ai.new ao oB)⟩ <;> (subst hleL; unfold impl_stepFor; rw [if_neg D,if_neg I,if_neg y,if_pos B] <;> rfl)
    ·refine Ws ?_
     have V:=(U.lo t).lo c
     refine WJ (fun f' w'=>At f' [(0,str s),(1,.slice AL nL cL),(4,pt m),(5,.bool false),(72,.bool (decide ((s=([109,101,110,100]:List UInt8))∧((nL:Int)=2))))]∧Lo X w') ?_ ?_
     ·refine Q (mS G)<|Q (r_eqs (s:=s) (r:=([109,101,110,100]:List UInt8)) G G)<|Q (mB G)<|QD (fun ac=>?_) (fun ac=>?_)
      ·refine Qg (mL G)<|Qg (r_len und93 G)<|Qg (r_eq G G)<|Q (pT G G)<|Q (aB G)<|Qn (⟨_,G,⟨⟨G,G,G,G,(eDD (jat ac)),trivial⟩,(lr _)⟩⟩)
      ·refine Qs<|Qs<|Qs<|Q (pF G G)<|Q (aB G)<|Qn (⟨_,G,⟨⟨G,G,G,G,(eDF (jaf ac).2),trivial⟩,(lr _)⟩⟩)
     rintro cS Y ⟨aW,u⟩
     rw [← sA aW]
     have cC:=u.size
     have aj:=ai.lo u
     refine Wd G (fun E=>?_) (fun E=>?_)
     ·have bV:s=([109,101,110,100]:List UInt8):=E.1
      have bW:(nL:Int)=2:=E.2
      refine Ws ?_
      have z:=(k.lo c).lo u
      refine WA (Kp (fun b_=>b_=m) Y) (fun f' w'=>At f' [(4,pt m),(5,.bool true)]∧(Kp (fun b_=>b_=m) Y w')∧(Blk w' m 106 [i6 4,i6 (gt L 0),i6 0,i6 (gt L 1)])∧(L[0]?=some (gt L 0))∧(L[1]?=some (gt L 1))) mo ?_ ?_
      ·intro dy f
       have cD:=f.size
       refine Ak 0 G (kr f) (fun w' hw'=>mL G)<|?_
       have aG:=(z.lo f).elem (i:=0) oB
       refine Ak 1 G (kr f) (fun w' hw'=>rX tsl93 (z.kn hw' oB) G G oB)<|Ak 2 G (kr f) (fun w' hw'=>r_ld (v:=i6 (gt L 0)) sca3 G ((z.kn hw' oB).cell0 aG G))<|Ak 3 G (kr f) (fun w' hw'=>mL G)<|?_
       have aH:=(z.lo f).elem (i:=1) oB
       refine Ak 4 G (kr f) (fun w' hw'=>rX tsl93 (z.kn hw' oB) G G oB)<|Ak 5 G (kr f) (fun w' hw'=>r_ld (v:=i6 (gt L 1)) sca3 G ((z.kn hw' oB).cell0 aH G))<|Ak 6 G (kr f) (fun w' hw'=>r_build (vs:=[(0,i6 4),(1,i6 (gt L 0)),(3,i6 (gt L 1))]) G (bld106_0_1_3 _ _ _))<|Ab 7 G (Qw (o:=0) (vs:=[i6 4,i6 (gt L 0),i6 0,i6 (gt L 1)]) agg106.2 G G G G ((V.lo u).lo f) ler G ?_)
       intro dz bC b8 bp
       have R:=((kr f:Kp (fun b_=>b_=m) Y _)).step bC (fun _ _ e=>e)
       refine Qn ⟨R,_,G,(Ak 8 G R (fun w' hw'=>aB G)<|Ad oC (⟨⟨G,G,trivial⟩,R,bp,aG,aH⟩))⟩
      rintro cT dA ⟨aX,ap,bK,cm,cn⟩
      rw [← sA aX]
      have cE:=ap.size
      refine We (retCT G G agg106 bK G (v:=.bool _) G ?_)
      refine ⟨eR (eT2 (eA (eC (eI ?_) (eC (eI ?_) (eC (eI ?_) (eC (eI ?_) G))))) (eB ?_)),(aj.new ap oB)⟩ <;> (subst hleL; unfold impl_stepFor; rw [if_neg D,if_neg I,if_neg y,if_neg B,if_pos E] <;> rfl)
     ·refine Ws ?_
      have x:=(k.lo c).lo u
      refine WJ (fun f' w'=>At f' [(0,str s),(1,.slice AL nL cL),(4,pt m),(5,.bool false),(87,.bool (decide ((s=([100,114,111,112]:List UInt8))∧((nL:Int)=2))))]∧Lo Y w') ?_ ?_
      ·refine Q (mS G)<|Q (r_eqs (s:=s) (r:=([100,114,111,112]:List UInt8)) G G)<|Q (mB G)<|QD (fun ae=>?_) (fun ae=>?_)
       ·refine Qg (mL G)<|Qg (r_len und93 G)<|Qg (r_eq G G)<|Q (pT G G)<|Q (aB G)<|Qn (⟨_,G,⟨⟨G,G,G,G,(eDD (jat ae)),trivial⟩,(lr _)⟩⟩)
       ·refine Qs<|Qs<|Qs<|Q (pF G G)<|Q (aB G)<|Qn (⟨_,G,⟨⟨G,G,G,G,(eDF (jaf ae).2),trivial⟩,(lr _)⟩⟩)
      rintro cU Z ⟨aY,j⟩
      rw [← sA aY]
      have cF:=j.size
      have ak:=aj.lo j
      refine Wd G (fun J=>?_) (fun J=>?_)
      ·have bX:s=([100,114,111,112]:List UInt8):=J.1
       have bY:(nL:Int)=2:=J.2
       refine Ws (WA (Kp (fun b_=>b_=m) Z) (fun f' w'=>At f' [(4,pt m),(5,.bool true)]∧(Kp (fun b_=>b_=m) Z w')∧(Blk w' m 106 [i6 6,i6 (gt L 0),i6 0,i6 (gt L 1)])∧(L[0]?=some (gt L 0))∧(L[1]?=some (gt L 1))) mo ?_ ?_)
       ·intro dB g
        have cG:=g.size
        refine Ak 0 G (kr g) (fun w' hw'=>mL G)<|?_
        have aJ:=((x.lo j).lo g).elem (i:=0) oB
        refine Ak 1 G (kr g) (fun w' hw'=>rX tsl93 ((x.lo j).kn hw' oB) G G oB)<|Ak 2 G (kr g) (fun w' hw'=>r_ld (v:=i6 (gt L 0)) sca3 G (((x.lo j).kn hw' oB).cell0 aJ G))<|Ak 3 G (kr g) (fun w' hw'=>mL G)<|?_
        have aK:=((x.lo j).lo g).elem (i:=1) oB
        refine Ak 4 G (kr g) (fun w' hw'=>rX tsl93 ((x.lo j).kn hw' oB) G G oB)<|Ak 5 G (kr g) (fun w' hw'=>r_ld (v:=i6 (gt L 1)) sca3 G (((x.lo j).kn hw' oB).cell0 aK G))<|Ak 6 G (kr g) (fun w' hw'=>r_build (vs:=[(0,i6 6),(1,i6 (gt L 0)),(3,i6 (gt L 1))]) G (bld106_0_1_3 _ _ _))<|Ab 7 G (Qw (o:=0) (vs:=[i6 6,i6 (gt L 0),i6 0,i6 (gt L 1)]) agg106.2 G G G G (((V.lo u).lo j).lo g) ler G ?_)
        intro dC bD b9 bq
        have S:=((kr g:Kp (fun b_=>b_=m) Z _)).step bD (fun _ _ e=>e)
        refine Qn ⟨S,_,G,(Ak 8 G S (fun w' hw'=>aB G)<|Ad oC (⟨⟨G,G,trivial⟩,S,bq,aJ,aK⟩))⟩
       rintro cX dD ⟨aZ,aq,bL,co,cp⟩
       rw [← sA aZ]
       have cH:=aq.size
       refine We (retCT G G agg106 bL G (v:=.bool _) G ?_)
       refine ⟨eR (eT2 (eA (eC (eI ?_) (eC (eI ?_) (eC (eI ?_) (eC (eI ?_) G))))) (eB ?_)),(ak.new aq oB)⟩ <;> (subst hleL; unfold impl_stepFor; rw [if_neg D,if_neg I,if_neg y,if_neg B,if_neg E,if_pos J] <;> rfl)
      ·refine Ws ?_
       have aw:=(V.lo u).lo j
       refine WJ (fun f' w'=>At f' [(1,.slice AL nL cL),(4,pt m),(5,.bool false),(102,.bool (decide ((s=([119,101,97,114]:List UInt8))∧((nL:Int)=2))))]∧Lo Z w') ?_ ?_
       ·refine Q (mS G)<|Q (r_eqs (s:=s) (r:=([119,101,97,114]:List UInt8)) G G)<|Q (mB G)<|QD (fun ag=>?_) (fun ag=>?_)
        ·refine Qg (mL G)<|Qg (r_len und93 G)<|Qg (r_eq G G)<|Q (pT G G)<|Q (aB G)<|Qn (⟨_,G,⟨⟨G,G,G,(eDD (jat ag)),trivial⟩,(lr _)⟩⟩)
        ·refine Qs<|Qs<|Qs<|Q (pF G G)<|Q (aB G)<|Qn (⟨_,G,⟨⟨G,G,G,(eDF (jaf ag).2),trivial⟩,(lr _)⟩⟩)
       rintro cY aO ⟨a6,H⟩
       rw [← sA a6]
       have cI:=H.size
       have al:=ak.lo H
       refine Wd G (fun M=>?_) (fun M=>?_)
       ·have bZ:s=([119,101,97,114]:List UInt8):=M.1
        have b4:(nL:Int)=2:=M.2
        refine Ws ?_
        have A:=(x.lo j).lo H
        refine WA (Kp (fun b_=>b_=m) aO) (fun f' w'=>At f' [(4,pt m),(5,.bool true)]∧(Kp (fun b_=>b_=m) aO w')∧(Blk w' m 106 [i6 7,i6 (gt L 0),i6 0,i6 (gt L 1)])∧(L[0]?=some (gt L 0))∧(L[1]?=some (gt L 1))) mo ?_ ?_
        ·intro dE h
         have cJ:=h.size
         refine Ak 0 G (kr h) (fun w' hw'=>mL G)<|?_
         have aM:=(A.lo h).elem (i:=0) oB
         refine Ak 1 G (kr h) (fun w' hw'=>rX tsl93 (A.kn hw' oB) G G oB)<|Ak 2 G (kr h) (fun w' hw'=>r_ld (v:=i6 (gt L 0)) sca3 G ((A.kn hw' oB).cell0 aM G))<|Ak 3 G (kr h) (fun w' hw'=>mL G)<|?_
         have aN:=(A.lo h).elem (i:=1) oB
         refine Ak 4 G (kr h) (fun w' hw'=>rX tsl93 (A.kn hw' oB) G G oB)<|Ak 5 G (kr h) (fun w' hw'=>r_ld (v:=i6 (gt L 1)) sca3 G ((A.kn hw' oB).cell0 aN G))<|Ak 6 G (kr h) (fun w' hw'=>r_build (vs:=[(0,i6 7),(1,i6 (gt L 0)),(3,i6 (gt L 1))]) G (bld106_0_1_3 _ _ _))<|Ab 7 G (Qw (o:=0) (vs:=[i6 7,i6 (gt L 0),i6 0,i6 (gt L 1)]) agg106.2 G G G G ((aw.lo H).lo h) ler G ?_)
         intro dF bF ca bs
         have T:=((kr h:Kp (fun b_=>b_=m) aO _)).step bF (fun _ _ e=>e)
         refine Qn ⟨T,_,G,(Ak 8 G T (fun w' hw'=>aB G)<|Ad oC (⟨⟨G,G,trivial⟩,T,bs,aM,aN⟩))⟩
        rintro cZ dG ⟨a7,ar,bM,cq,cr⟩
        rw [← sA a7]
        have cK:=ar.size
        refine We (retCT G G agg106 bM G (v:=.bool _) G ?_)
        refine ⟨eR (eT2 (eA (eC (eI ?_) (eC (eI ?_) (eC (eI ?_) (eC (eI ?_) G))))) (eB ?_)),(al.new ar oB)⟩ <;> (subst hleL; unfold impl_stepFor; rw [if_neg D,if_neg I,if_neg y,if_neg B,if_neg E,if_neg J,if_pos M] <;> rfl)
       ·refine Wk (Ws (Wr (Q (r_build (vs:=[]) G bld106_)<|Qw (o:=0) (vs:=[i6 0,i6 0,i6 0,i6 0]) agg106.2 G G G G (aw.lo H) ler G ?_)))
        intro dH bG cd bt
        refine Q (aB G)<|Qn (We (retCT G G agg106 bt G (v:=.bool _) G ?_))
        refine ⟨eR (eT2 (eA (eC (eI ?_) (eC (eI ?_) (eC (eI ?_) (eC (eI ?_) G))))) (eB ?_)),(al.new bG)⟩ <;> (subst hleL; unfold impl_stepFor; rw [if_neg D,if_neg I,if_neg y,if_neg B,if_neg E,if_neg J,if_neg M] <;> rfl)
open Classical in
noncomputable def spec_l34Number (n:Int) (ok:Bool):List UInt8 :=
 if (!ok)=true then ([63]:List UInt8) else Lib.itoa n
theorem c_spec_l34Number (w:World) (n:Int) (ok:Bool) (c:-9223372036854775807≤n∧n≤9223372036854775807):Calls Tryz.prog 136 #[i6 n,.bool ok] w fun e w'=>e=.returned (str (spec_l34Number n ok))∧Lo w w':=by
 refine cW 9 Tryz.func136 G G G (Ws (Wr (Q (r_as (v:=str ([]:List UInt8)) G)<|Qn (Ws (Ws (Wr (Q (mB G)<|Q (rN G)<|Qn (Wb G (fun a=>?_) (fun a=>?_)))))))))
 ·have d:=bnot_t a
  refine Ws (Wr (Q (r_as (v:=str ([63]:List UInt8)) G)<|Qn (We (ret1 G (v:=str _) G ?_))))
  exact ⟨eR (eS (by unfold spec_l34Number; rw [if_pos a] <;> rfl)),(lr w)⟩
 ·have f:=bnot_f a
  refine Wk (Ws (Wr (Q (mI G)<|Qv ent75 (c_spec_l1Num w n oB) G fun i b h=>?_)))
  have g:(Lib.itoa n).length≤21:=itoa_len (n:=n) oB oB
  refine Q (aS G)<|Qn (We (ret1 G (v:=str _) G ?_))
  exact ⟨eR (eS (by unfold spec_l34Number; rw [if_neg (ne_true_of_eq_false a)] <;> rfl)),((lr w).lo b)⟩
theorem c_impl_listed (w:World)  (L:List Int) (hL:SlR w BL encI 1 AL nL cL L) (U:nL≤100) (V:IntsIn L) (hE:EnvW w):Calls Tryz.prog 154 #[.slice AL nL cL] w fun e w'=>e=.returned (str (listN L))∧Lo w w':=by
 refine cW 23 Tryz.func154 G G G ?_
 have hbdL:=hL.bound
 have hleL:=hL.len
 have hBbL:=hL.bd
 refine Ws (Wr (Q (r_as (v:=str ([]:List UInt8)) G)<|Qn (Ws (Ws (Wr (Q (mL G)<|Q (r_len und93 G)<|Q (r_eq G G)<|Qn (Wd G (fun S=>?_) (fun S=>?_))))))))
 ·refine Ws (Wr (Q (r_as (v:=str ([110,111,110,101]:List UInt8)) G)<|Qn (We (ret1 G (v:=str _) G (⟨eR (eS (by first | exact list_nil oB | exact list_all oB oB)),(lr w)⟩)))))
 ·refine Wk (Ws (Wr (Q (r_as (v:=.slice none 0 0) G)<|Qn (Ws (Ws (Wr (Q (mL G)<|Q (r_len und93 G)<|Q (r_mv (v:=i6 0) G)<|Qn (Wl (WL (σ:=Nat × (Option Addr) × Nat × Nat) (fun g=>[(2,str ([]:List UInt8)),(3,.slice g.2.1 g.2.2.1 g.2.2.2),(9,.slice AL nL cL),(10,i6 (nL:Int)),(11,i6 (g.1:Int))]) (fun g w'=>(Lo w w')∧(SlR w' BL encI 1 AL nL cL L)∧(SlO w' w.heap.size encS 1 9 g.2.1 g.2.2.1 g.2.2.2 ((L.take g.1).map Lib.itoa))∧(g.1≤nL)) (fun g=>nL-g.1) (0,(none:Option Addr),0,0) ?_ ?_ ?_)))))))))
  ·exact (At.r G)
  ·exact ⟨(lr w),hL,(oq (SlO.nil (base:=w.heap.size) (e:=9) (enc:=encS) (fun _=>G) (Nat.le_refl _)) oX),oH⟩
  ·rintro ⟨k,z,y,A⟩ P q x
   obtain ⟨f,h,c,T⟩:(Lo w q)∧(SlR q BL encI 1 AL nL cL L)∧(SlO q w.heap.size encS 1 9 z y A ((L.take k).map Lib.itoa))∧(k≤nL):=x
   refine (?_:W _ _ _ _ _ (act _ (sets P [(2,str ([]:List UInt8)),(3,.slice z y A),(9,.slice AL nL cL),(10,i6 (nL:Int)),(11,i6 (k:Int))])) _)
   have O:=f.size
   have D:=c.len
   have E:=c.rd.bound
   have F:((L.take k).map Lib.itoa).length=k:=itoas_len (L:=L) (k:=k) oB
   refine Ws (Wr (Q (r_lt G G)<|Qn (Ws (Wd G (fun u=>?_) (fun u=>?_)))))
   ·refine Wk (Ws (Wl (Ws ?_)))
    have j:=h.elem (i:=k) oB
    have H:=‹IntsIn L› _ _ j
    refine Wr (Q (rX tsl93 h G G oB)<|Q (r_ld (v:=i6 (gt L k)) sca3 G (h.cell0 j G))<|Q (aI G)<|Qn (Wr (Q (mL G)<|Q (mI G)<|Qv ent74 (c_impl_text q (gt L k) oB (hE.lo f)) G fun X b J=>?_)))
    have I:(Lib.itoa (gt L k)).length≤21:=itoa_len (n:=(gt L k)) oB oB
    refine Ql (vs:=[str (Lib.itoa (gt L k))]) (L:=([Lib.itoa (gt L k)]:List (List UInt8))) (enc:=encS) tel44 (fun _=>G) G G G oG ?_
    intro R Y C a l
    have K:=a.size
    refine Qp tel44 G G ((c.lo b).lo a) (l.rd) (fun _=>G) oB oB ?_
    intro s t Z d m B
    have M:=d.size
    refine Q (aL G)<|Qn ?_
    have p:=((h.lo b).lo a).kp d (fun b_ hb e'=>by have:=((c.lo b).lo a).base_le e'; omega)
    refine Wr (Q (r_add G G oB)<|Q (mI G)<|Qn (⟨(k+1,s,y+1,t),_,G,(At.r G),⟨(((f.lo b).lo a).step d (fun i_ hi_ e'=>by have:=((c.lo b).lo a).base_le e'; first | omega | exact e' | exact .inl e' | exact .inr e')),p,(oq m (by exact list_next ‹L[k]?=some _›)),?_⟩,?_⟩))
    ·exact oH
    ·exact oH
   ·refine Wx (xh (Ws (Wr (Q (mL G)<|Qv ent186 (c_strings_Join q ((L.take k).map Lib.itoa) (c.rd) ([32]:List UInt8) (by exact own_addr ‹SlO _ _ encS _ _ _ _ _ _› oB) (by exact ⟨oB,Nat.le_trans (join_bd (itoas_take ‹IntsIn L› _) oB) oB⟩)) G fun aa o N=>(Q (aS G)<|Qn (We (ret1 G (v:=str _) G (⟨eR (eS (by first | exact list_nil oB | exact list_all oB oB)),(f.lo o)⟩))))))))
theorem c_spec_l34List (w:World)  (L:List Int) (hL:SlR w BL encI 1 AL nL cL L) (b:Bool) (C:nL≤100) (D:IntsIn L):Calls Tryz.prog 139 #[.slice AL nL cL,.bool b] w fun e w'=>e=.returned (str (if b=true then listN L else [63]))∧Lo w w':=by
 refine cW 31 Tryz.func139 G G G ?_
 have hbdL:=hL.bound
 have hleL:=hL.len
 have hBbL:=hL.bd
 refine Ws (Wr (Q (r_as (v:=str ([]:List UInt8)) G)<|Qn (Ws (Ws (Wr (Q (mB G)<|Q (rN G)<|Qn (Wb G (fun p=>?_) (fun p=>?_))))))))
 ·have E:=bnot_t p
  refine Ws (Wr (Q (r_as (v:=str ([63]:List UInt8)) G)<|Qn (We (ret1 G (v:=str _) G (⟨eR (eS (by first | (rw [if_pos oY]; first | exact list_nil oB | exact listT_all oB oB) | (rw [if_neg oY]))),(lr w)⟩)))))
 ·have F:=bnot_f p
  refine Wk (Ws (Ws (Wr (Q (mL G)<|Q (r_len und93 G)<|Q (r_eq G G)<|Qn (Wd G (fun B=>?_) (fun B=>?_))))))
  ·refine Ws (Wr (Q (r_as (v:=str ([110,111,110,101]:List UInt8)) G)<|Qn (We (ret1 G (v:=str _) G (⟨eR (eS (by first | (rw [if_pos oY]; first | exact list_nil oB | exact listT_all oB oB) | (rw [if_neg oY]))),(lr w)⟩)))))
  ·refine Wk (Ws (Wr (Q (mL G)<|?_)))
   have m:=hL.elem (i:=0) oB
   have H:=‹IntsIn L› _ _ m
   refine Q (rX tsl93 hL G G oB)<|Q (r_ld (v:=i6 (gt L 0)) sca3 G (hL.cell0 m G))<|Qv ent75 (c_spec_l1Num w (gt L 0) oB) G fun J l z=>?_
   have t:(Lib.itoa (gt L 0)).length≤21:=itoa_len (n:=(gt L 0)) oB oB
   refine Q (aS G)<|Qn (Ws (Ws (Wr (Q (aI G)<|Qn (Wl (WL (σ:=Nat) (fun g=>[(0,.slice AL nL cL),(4,str ([]:List UInt8)),(5,str (listT (L.take g))),(6,i6 (g:Int))]) (fun g w'=>(Lo w w')∧(SlR w' BL encI 1 AL nL cL L)∧(1≤g∧g≤nL)) (fun g=>nL-g) 1 ?_ ?_ ?_))))))
   ·refine ⟨G,G,(eS ?_),(eI ?_),trivial⟩ <;> (first | (first | rfl | omega | exact listT_one ‹L[0]?=some _› | exact listT_next oB ‹L[k]?=some _›) | (dsimp only; (first | rfl | omega | exact listT_one ‹L[0]?=some _› | exact listT_next oB ‹L[k]?=some _›)))
   ·exact ⟨((lr w).lo l),hL.lo l,oB⟩
   ·rintro k o h j
    obtain ⟨c,a,s⟩:(Lo w h)∧(SlR h BL encI 1 AL nL cL L)∧(1≤k∧k≤nL):=j
    refine (?_:W _ _ _ _ _ (act _ (sets o [(0,.slice AL nL cL),(4,str ([]:List UInt8)),(5,str (listT (L.take k))),(6,i6 (k:Int))])) _)
    have r:=c.size
    have u:(listT (L.take k)).length≤2200:=listT_bd ‹IntsIn L› oB k
    refine Ws (Ws (Wr (Q (mI G)<|Q (mL G)<|Q (r_len und93 G)<|Q (r_lt G G)<|Qn (Wd G (fun q=>?_) (fun q=>?_)))))
    ·refine Wk (Ws (Wl (Wr (Q (mS G)<|Q (r_cat G G oA)<|Q (mL G)<|Q (mI G)<|?_))))
     have f:=a.elem (i:=k) oB
     have x:=‹IntsIn L› _ _ f
     refine Q (rX tsl93 a G G oB)<|Q (r_ld (v:=i6 (gt L k)) sca3 G (a.cell0 f G))<|Qv ent75 (c_spec_l1Num h (gt L k) oB) G fun I d A=>?_
     have y:(Lib.itoa (gt L k)).length≤21:=itoa_len (n:=(gt L k)) oB oB
     refine Q (r_cat G G oA)<|Q (aS G)<|Qn (Wr (Q (mI G)<|Q (r_add G G oB)<|Q (aI G)<|Qn (⟨k+1,_,G,⟨G,G,(eS (by first | (first | rfl | omega | exact listT_one ‹L[0]?=some _› | exact listT_next oB ‹L[k]?=some _›) | (dsimp only; (first | rfl | omega | exact listT_one ‹L[0]?=some _› | exact listT_next oB ‹L[k]?=some _›)))),(eI (by first | (first | rfl | omega | exact listT_one ‹L[0]?=some _› | exact listT_next oB ‹L[k]?=some _›) | (dsimp only; (first | rfl | omega | exact listT_one ‹L[0]?=some _› | exact listT_next oB ‹L[k]?=some _›)))),trivial⟩,⟨(c.lo d),a.lo d,?_⟩,?_⟩)))
     ·exact oB
     ·exact oB
    ·refine Wx (xh (Ws (Wr (Q (mS G)<|Q (aS G)<|Qn (We (ret1 G (v:=str _) G (⟨eR (eS (by first | (rw [if_pos oY]; first | exact list_nil oB | exact listT_all oB oB) | (rw [if_neg oY]))),c⟩)))))))
end Go.Proofs.YtndcchndcghmoaaGreatDoor
namespace Go.Proofs.YtndcchndcghmoaaGreatDoor
open Go Go.RowKit Fw
set_option maxRecDepth 10000
set_option maxHeartbeats 2000000
set_option linter.unusedVariables false
variable {Ax1 Ax2 AL : Option Addr} {nx1 cx1 Bx1 nx2 cx2 Bx2 nL cL BL : Nat}
theorem ent135:Ent Tryz.prog 135:=en Tryz.func135
theorem ent136:Ent Tryz.prog 136:=en Tryz.func136
theorem ent137:Ent Tryz.prog 137:=en Tryz.func137
theorem ent138:Ent Tryz.prog 138:=en Tryz.func138
theorem ent139:Ent Tryz.prog 139:=en Tryz.func139
theorem ent153:Ent Tryz.prog 153:=en Tryz.func153
theorem ent154:Ent Tryz.prog 154:=en Tryz.func154
theorem ent155:Ent Tryz.prog 155:=en Tryz.func155
theorem ent156:Ent Tryz.prog 156:=en Tryz.func156
theorem ent157:Ent Tryz.prog 157:=en Tryz.func157
theorem ent176:Ent Tryz.prog 176:=en Tryz.func176
theorem ent73:Ent Tryz.prog 73:=en Tryz.func73
open Classical in
noncomputable def impl_tell (x:Library) (s:List UInt8) (L:List Int):List UInt8 × Bool :=
 if (s=([116,101,120,116]:List UInt8))∧((L.length:Int)=1) then ((mapT x (gt L 0)).1,(mapT x (gt L 0)).2) else if (s=([97,116]:List UInt8))∧((L.length:Int)=1) then (listN (if LibOK x∧(1≤(gt L 0)∧(gt L 0)≤999) then selL (atR (gt L 0)) Away.Map x.Away else []),decide (LibOK x∧(1≤(gt L 0)∧(gt L 0)≤999))) else if (s=([114,101,97,100,101,114,115]:List UInt8))∧((L.length:Int)=1) then (listN (if LibOK x∧0≤idxF (hasId (gt L 0)) x.Maps then selL (ofM (gt L 0)) Away.Reader x.Away else []),decide (LibOK x∧0≤idxF (hasId (gt L 0)) x.Maps)) else if 0<(L.length:Int) then (([]:List UInt8),false) else if s=([109,97,121]:List UInt8) then (listN (if LibOK x then selL mayM LMap.Id x.Maps else []),decide (LibOK x)) else if s=([116,104,101,114,101]:List UInt8) then (Lib.itoa (sumC x.Maps),true) else if s=([116,111,114,110]:List UInt8) then (Lib.itoa (if LibOK x then sumT x.Maps else 0),decide (LibOK x)) else if s=([98,111,117,103,104,116]:List UInt8) then (Lib.itoa x.Bought,true) else if s=([109,101,110,100,101,100]:List UInt8) then (Lib.itoa x.Mended,true) else (([]:List UInt8),false)
theorem c_impl_tell (w:World) (x:Library) (ac:SlR w Bx1 encLMap 3 Ax1 nx1 cx1 x.Maps) (ag:SlR w Bx2 encAway 2 Ax2 nx2 cx2 x.Away) (s:List UInt8)  (L:List Int) (hL:SlR w BL encI 1 AL nL cL L) (cQ:(nx1:Int)≤8) (cR:(nx2:Int)≤8) (cS:nL≤1000) (bB:LibOK x) (cT:MapsOK x.Maps) (hE:EnvW w):Calls Tryz.prog 98 #[.agg (List.toArray (cLb Ax1 nx1 cx1 Ax2 nx2 cx2 x)),str s,.slice AL nL cL] w fun e w'=>e=.returned (.tuple (List.toArray [str ((impl_tell x s L).1),.bool ((impl_tell x s L).2)]))∧Lo w w':=by
 refine cW 105 Tryz.func98 G G G ?_
 have bo:=ac.bound
 have bz:=ac.len
 have bm:=ac.bd
 have bp:=ag.bound
 have bA:=ag.len
 have bn:=ag.bd
 have hbdL:=hL.bound
 have hleL:=hL.len
 have hBbL:=hL.bd
 have hlb:=lib_rng bB
 refine Ws (Wr (bx G ?_))
 intro g1 w2 cP D cU aC
 refine Q (r_as (v:=str ([]:List UInt8)) G)<|Q (aB G)<|Qn (Ws (Wr (Q (r_as (v:=.slice none 0 0) G)<|Qn (Ws (Wr (Q (aI G)<|Q (aB G)<|Qn (Ws (Wl (Ws (WJ (fun f' w'=>At f' [(1,str s),(2,.slice AL nL cL),(3,pt g1),(6,str ([]:List UInt8)),(7,.bool false),(8,.slice none 0 0),(9,i6 0),(10,.bool true),(11,.bool (decide ((s=([116,101,120,116]:List UInt8))∧((nL:Int)=1))))]∧Lo w2 w') ?_ ?_))))))))))
 ·refine Q (mS G)<|Q (r_eqs (s:=s) (r:=([116,101,120,116]:List UInt8)) G G)<|Q (mB G)<|QD (fun h9=>?_) (fun h9=>?_)
  ·refine Qg (mL G)<|Qg (r_len und93 G)<|Qg (r_eq G G)<|Q (pT G G)<|Q (aB G)<|Qn (⟨_,G,⟨⟨G,G,G,G,G,G,G,G,(eDD (jat h9)),trivial⟩,(lr _)⟩⟩)
  ·refine Qs<|Qs<|Qs<|Q (pF G G)<|Q (aB G)<|Qn (⟨_,G,⟨⟨G,G,G,G,G,G,G,G,(eDF (jaf h9).2),trivial⟩,(lr _)⟩⟩)
 rintro cJ b8 ⟨ax,g⟩
 rw [← sA ax]
 have cr:=g.size
 have O:=((lr w).lo D).lo g
 refine Wd G (fun l=>?_) (fun l=>?_)
 ·have ci:s=([116,101,120,116]:List UInt8):=l.1
  have cj:(nL:Int)=1:=l.2
  refine Ws ?_
  have Z:=(hL.lo D).lo g
  refine W.regD mo oC (Rq (fun w' hw'=>lG agg34 G ((aC.lo g).lo hw') G)<|Rq (fun w' hw'=>mL G)<|?_)
  have a8:=Z.elem (i:=0) oB
  refine Rq (fun w' hw'=>rX tsl93 (Z.lo hw') G G oB)<|Rq (fun w' hw'=>r_ld (v:=i6 (gt L 0)) sca3 G ((Z.lo hw').cell0 a8 G))<|QR.call ent73 (fun w' hw'=>(c_impl_MapText w' x (((ac.lo D).lo g).lo hw') (((ag.lo D).lo g).lo hw') (gt L 0) oB (hE.lo (O.trans hw'))).mono fun _ _ h=>⟨h.1,hw'.trans h.2⟩) G<|?_
  have ck:(mapT x (gt L 0)).1.length≤75:=mapT_len x (gt L 0)
  refine Rq (fun w' hw'=>xS G G)<|Rq (fun w' hw'=>xB G G)<|Rq (fun w' hw'=>aS G)<|Rq (fun w' hw'=>aB G)<|QR.nil ?_
  intro cY an
  have ct:=an.size
  refine We (ret2 G (v:=str _) (v':=.bool _) G G ?_)
  refine ⟨eR (eT2 (eS ?_) (eB ?_)),(O.lo an)⟩ <;> (subst hleL; unfold impl_tell; rw [if_pos l] <;> rfl)
 ·refine Ws ?_
  have J:=(hL.lo D).lo g
  have aa:=(ac.lo D).lo g
  have ab:=(ag.lo D).lo g
  refine WJ (fun f' w'=>At f' [(1,str s),(2,.slice AL nL cL),(3,pt g1),(6,str ([]:List UInt8)),(7,.bool false),(8,.slice none 0 0),(9,i6 0),(10,.bool true),(26,.bool (decide ((s=([97,116]:List UInt8))∧((nL:Int)=1))))]∧Lo b8 w') ?_ ?_
  ·refine Q (mS G)<|Q (r_eqs (s:=s) (r:=([97,116]:List UInt8)) G G)<|Q (mB G)<|QD (fun au=>?_) (fun au=>?_)
   ·refine Qg (mL G)<|Qg (r_len und93 G)<|Qg (r_eq G G)<|Q (pT G G)<|Q (aB G)<|Qn (⟨_,G,⟨⟨G,G,G,G,G,G,G,G,(eDD (jat au)),trivial⟩,(lr _)⟩⟩)
   ·refine Qs<|Qs<|Qs<|Q (pF G G)<|Q (aB G)<|Qn (⟨_,G,⟨⟨G,G,G,G,G,G,G,G,(eDF (jaf au).2),trivial⟩,(lr _)⟩⟩)
  rintro cK aj ⟨ay,a⟩
  rw [← sA ay]
  have cu:=a.size
  have ak:=O.lo a
  refine Wd G (fun o=>?_) (fun o=>?_)
  ·have cl:s=([97,116]:List UInt8):=o.1
   have cm:(nL:Int)=1:=o.2
   refine Ws (WA (Lo aj) (fun f' w'=>∃ (aq:Option Addr) (ah:Nat) (ar:Nat),At f' [(6,str ([]:List UInt8)),(7,.bool false),(8,.slice aq ah ar),(9,i6 0),(10,.bool (decide (LibOK x∧(1≤(gt L 0)∧(gt L 0)≤999))))]∧(Lo aj w')∧(SlO w' aj.heap.size encI 1 3 aq ah ar (if LibOK x∧(1≤(gt L 0)∧(gt L 0)≤999) then selL (atR (gt L 0)) Away.Map x.Away else []))∧(L[0]?=some (gt L 0))∧(ah=(if LibOK x∧(1≤(gt L 0)∧(gt L 0)≤999) then selL (atR (gt L 0)) Away.Map x.Away else []).length)∧((ah:Int)≤9223372036854775807)∧((if LibOK x∧(1≤(gt L 0)∧(gt L 0)≤999) then selL (atR (gt L 0)) Away.Map x.Away else []).length≤x.Away.length)∧(IntsIn (if LibOK x∧(1≤(gt L 0)∧(gt L 0)≤999) then selL (atR (gt L 0)) Away.Map x.Away else []))) mo ?_ ?_)
   ·intro b9 k
    have cw:=k.size
    refine Ak 0 G k (fun w' hw'=>lG agg34 G (((aC.lo g).lo a).lo hw') G)<|Ak 1 G k (fun w' hw'=>mL G)<|?_
    have ap:=((J.lo a).lo k).elem (i:=0) oB
    refine Ak 2 G k (fun w' hw'=>rX tsl93 ((J.lo a).lo hw') G G oB)<|Ak 3 G k (fun w' hw'=>r_ld (v:=i6 (gt L 0)) sca3 G (((J.lo a).lo hw').cell0 ap G))<|Ab 4 G (Qc ent153 (c_impl_MapsAt b9 x ((aa.lo a).lo k) ((ab.lo a).lo k) (gt L 0) oB) G ?_)
    rintro e cZ ⟨bh,b7,bi,rfl,U,ao⟩
    refine ⟨_,G,?_⟩
    have cx:=ao.size
    have q:=k.lo ao
    have aX:=U.len
    have aY:=U.rd.bound
    have a6:=(selif_len _ _ _ _:(if LibOK x∧(1≤(gt L 0)∧(gt L 0)≤999) then selL (atR (gt L 0)) Away.Map x.Away else []).length≤x.Away.length)
    have a7:IntsIn (if LibOK x∧(1≤(gt L 0)∧(gt L 0)≤999) then selL (atR (gt L 0)) Away.Map x.Away else []):=ints_at x (gt L 0)
    refine Qn ⟨q,_,G,(Ak 5 G q (fun w' hw'=>mT G)<|Ak 6 G q (fun w' hw'=>xL G G)<|Ak 7 G q (fun w' hw'=>xB G G)<|Ak 8 G q (fun w' hw'=>aL G)<|Ak 9 G q (fun w' hw'=>aB G)<|Ad oC (⟨bh,b7,bi,(At.r G),q,(U.down),ap,aX,aY,a6,a7⟩))⟩
   rintro cN ca ⟨aq,ah,ar,az,am,aZ,cq,cg,ch,cn,co⟩
   rw [← sA az]
   have cy:=am.size
   have al:=ak.lo am
   refine Ws (Wr (Q (mL G)<|Qv ent154 (c_impl_listed ca (if LibOK x∧(1≤(gt L 0)∧(gt L 0)≤999) then selL (atR (gt L 0)) Away.Map x.Away else []) (aZ.rd) oB oJ (hE.lo al)) G fun c6 aW cz=>?_))
   have cp:(listN (if LibOK x∧(1≤(gt L 0)∧(gt L 0)≤999) then selL (atR (gt L 0)) Away.Map x.Away else [])).length≤22*(if LibOK x∧(1≤(gt L 0)∧(gt L 0)≤999) then selL (atR (gt L 0)) Away.Map x.Away else []).length+4:=listN_len (if LibOK x∧(1≤(gt L 0)∧(gt L 0)≤999) then selL (atR (gt L 0)) Away.Map x.Away else []) oJ oB
   refine Q (mB G)<|Q (aS G)<|Q (aB G)<|Qn (We (ret2 G (v:=str _) (v':=.bool _) G G ?_))
   refine ⟨eR (eT2 (eS ?_) (eB ?_)),(al.lo aW)⟩ <;> (subst hleL; unfold impl_tell; rw [if_neg l,if_pos o] <;> rfl)
  ·refine Ws ?_
   have u:=(aC.lo g).lo a
   refine WJ (fun f' w'=>At f' [(1,str s),(2,.slice AL nL cL),(3,pt g1),(6,str ([]:List UInt8)),(7,.bool false),(8,.slice none 0 0),(9,i6 0),(10,.bool true),(45,.bool (decide ((s=([114,101,97,100,101,114,115]:List UInt8))∧((nL:Int)=1))))]∧Lo aj w') ?_ ?_
   ·refine Q (mS G)<|Q (r_eqs (s:=s) (r:=([114,101,97,100,101,114,115]:List UInt8)) G G)<|Q (mB G)<|QD (fun aw=>?_) (fun aw=>?_)
    ·refine Qg (mL G)<|Qg (r_len und93 G)<|Qg (r_eq G G)<|Q (pT G G)<|Q (aB G)<|Qn (⟨_,G,⟨⟨G,G,G,G,G,G,G,G,(eDD (jat aw)),trivial⟩,(lr _)⟩⟩)
    ·refine Qs<|Qs<|Qs<|Q (pF G G)<|Q (aB G)<|Qn (⟨_,G,⟨⟨G,G,G,G,G,G,G,G,(eDF (jaf aw).2),trivial⟩,(lr _)⟩⟩)
   rintro cO A ⟨aA,c⟩
   rw [← sA aA]
   have cA:=c.size
   have b:=ak.lo c
   refine Wd G (fun f=>?_) (fun f=>?_)
   ·have bC:s=([114,101,97,100,101,114,115]:List UInt8):=f.1
    have bD:(nL:Int)=1:=f.2
    refine Ws ?_
    have E:=(J.lo a).lo c
    refine WA (Lo A) (fun f' w'=>∃ (K:Option Addr) (z:Nat) (M:Nat),At f' [(6,str ([]:List UInt8)),(7,.bool false),(8,.slice K z M),(9,i6 0),(10,.bool (decide (LibOK x∧0≤idxF (hasId (gt L 0)) x.Maps)))]∧(Lo A w')∧(SlO w' A.heap.size encI 1 3 K z M (if LibOK x∧0≤idxF (hasId (gt L 0)) x.Maps then selL (ofM (gt L 0)) Away.Reader x.Away else []))∧(L[0]?=some (gt L 0))∧(z=(if LibOK x∧0≤idxF (hasId (gt L 0)) x.Maps then selL (ofM (gt L 0)) Away.Reader x.Away else []).length)∧((z:Int)≤9223372036854775807)∧((if LibOK x∧0≤idxF (hasId (gt L 0)) x.Maps then selL (ofM (gt L 0)) Away.Reader x.Away else []).length≤x.Away.length)∧(IntsIn (if LibOK x∧0≤idxF (hasId (gt L 0)) x.Maps then selL (ofM (gt L 0)) Away.Reader x.Away else []))) mo ?_ ?_
    ·intro bb d
     have bR:=d.size
     refine Ak 0 G d (fun w' hw'=>lG agg34 G ((u.lo c).lo hw') G)<|Ak 1 G d (fun w' hw'=>mL G)<|?_
     have ae:=(E.lo d).elem (i:=0) oB
     refine Ak 2 G d (fun w' hw'=>rX tsl93 (E.lo hw') G G oB)<|Ak 3 G d (fun w' hw'=>r_ld (v:=i6 (gt L 0)) sca3 G ((E.lo hw').cell0 ae G))<|Ab 4 G (Qc ent155 (c_impl_ReadersOf bb x (((aa.lo a).lo c).lo d) (((ab.lo a).lo c).lo d) (gt L 0) oB) G ?_)
     rintro e cC ⟨aU,ba,aV,rfl,B,X⟩
     refine ⟨_,G,?_⟩
     have bS:=X.size
     have j:=d.lo X
     have aN:=B.len
     have aO:=B.rd.bound
     have aR:=(selif_len _ _ _ _:(if LibOK x∧0≤idxF (hasId (gt L 0)) x.Maps then selL (ofM (gt L 0)) Away.Reader x.Away else []).length≤x.Away.length)
     have aT:IntsIn (if LibOK x∧0≤idxF (hasId (gt L 0)) x.Maps then selL (ofM (gt L 0)) Away.Reader x.Away else []):=ints_rd x (gt L 0)
     refine Qn ⟨j,_,G,(Ak 5 G j (fun w' hw'=>mT G)<|Ak 6 G j (fun w' hw'=>xL G G)<|Ak 7 G j (fun w' hw'=>xB G G)<|Ak 8 G j (fun w' hw'=>aL G)<|Ak 9 G j (fun w' hw'=>aB G)<|Ad oC (⟨aU,ba,aV,(At.r G),j,(B.down),ae,aN,aO,aR,aT⟩))⟩
    rintro cf bc ⟨K,z,M,ai,V,aQ,bQ,bq,bs,bE,bF⟩
    rw [← sA ai]
    have bT:=V.size
    have P:=b.lo V
    refine Ws (Wr (Q (mL G)<|Qv ent154 (c_impl_listed bc (if LibOK x∧0≤idxF (hasId (gt L 0)) x.Maps then selL (ofM (gt L 0)) Away.Reader x.Away else []) (aQ.rd) oB oJ (hE.lo P)) G fun cD aD bU=>?_))
    have bG:(listN (if LibOK x∧0≤idxF (hasId (gt L 0)) x.Maps then selL (ofM (gt L 0)) Away.Reader x.Away else [])).length≤22*(if LibOK x∧0≤idxF (hasId (gt L 0)) x.Maps then selL (ofM (gt L 0)) Away.Reader x.Away else []).length+4:=listN_len (if LibOK x∧0≤idxF (hasId (gt L 0)) x.Maps then selL (ofM (gt L 0)) Away.Reader x.Away else []) oJ oB
    refine Q (mB G)<|Q (aS G)<|Q (aB G)<|Qn (We (ret2 G (v:=str _) (v':=.bool _) G G ?_))
    refine ⟨eR (eT2 (eS ?_) (eB ?_)),(P.lo aD)⟩ <;> (subst hleL; unfold impl_tell; rw [if_neg l,if_neg o,if_pos f] <;> rfl)
   ·refine Ws ?_
    have F:=(aa.lo a).lo c
    have H:=(ab.lo a).lo c
    refine Wr (Q (mL G)<|Q (r_len und93 G)<|Q (r_gt G G)<|Q (aB G)<|Qn (Wd G (fun m=>?_) (fun m=>?_)))
    ·refine Ws (Wr (Q (r_as (v:=str ([]:List UInt8)) G)<|Q (aB G)<|Qn (We (ret2 G (v:=str _) (v':=.bool _) G G ?_))))
     refine ⟨eR (eT2 (eS ?_) (eB ?_)),b⟩ <;> (subst hleL; unfold impl_tell; rw [if_neg l,if_neg o,if_neg f,if_pos m] <;> rfl)
    ·refine Ws (Wr (Q (mS G)<|Q (r_eqs (s:=s) (r:=([109,97,121]:List UInt8)) G G)<|Q (aB G)<|Qn (Wd G (fun p=>?_) (fun p=>?_))))
     ·refine Ws (Wr (Q (lG agg34 G (u.lo c) G)<|Qc ent156 (c_impl_MayLend A x F H oB) G ?_))
      rintro e be ⟨cd,cB,ce,rfl,C,Y⟩
      refine ⟨_,G,?_⟩
      have bV:=Y.size
      have R:=b.lo Y
      have bt:=C.len
      have bu:=C.rd.bound
      have bH:=(selif_len _ _ _ _:(if LibOK x then selL mayM LMap.Id x.Maps else []).length≤x.Maps.length)
      have bI:IntsIn (if LibOK x then selL mayM LMap.Id x.Maps else []):=ints_may x
      refine Q (mT G)<|Q (xL G G)<|Q (xB G G)<|Q (aL G)<|Q (aB G)<|Qn (Ws (Wr (Q (mL G)<|Qv ent154 (c_impl_listed be (if LibOK x then selL mayM LMap.Id x.Maps else []) (C.rd) oB oJ (hE.lo R)) G fun cE aE bW=>?_)))
      have bJ:(listN (if LibOK x then selL mayM LMap.Id x.Maps else [])).length≤22*(if LibOK x then selL mayM LMap.Id x.Maps else []).length+4:=listN_len (if LibOK x then selL mayM LMap.Id x.Maps else []) oJ oB
      refine Q (mB G)<|Q (aS G)<|Q (aB G)<|Qn (We (ret2 G (v:=str _) (v':=.bool _) G G ?_))
      refine ⟨eR (eT2 (eS ?_) (eB ?_)),(R.lo aE)⟩ <;> (subst hleL; unfold impl_tell; rw [if_neg l,if_neg o,if_neg f,if_neg m,if_pos p] <;> rfl)
     ·refine Ws (Wr (Q (mS G)<|Q (r_eqs (s:=s) (r:=([116,104,101,114,101]:List UInt8)) G G)<|Q (aB G)<|Qn (Wd G (fun t=>?_) (fun t=>?_))))
      ·refine Wr (Q (lG agg34 G (u.lo c) G)<|Qv ent125 (c__impl_Library__copies A x F H (by first | assumption | exact MTo.end_ (And.right ‹_∧MTo _ _›) oB) oB) G fun bf aF bX=>?_)
       have S:=b.lo aF
       have bK:0≤sumC x.Maps∧sumC x.Maps≤792:=sumC_rng (by first | assumption | exact MTo.end_ (And.right ‹_∧MTo _ _›) oB) oB
       refine Q (aI G)<|Qn (Ws (Wr (Q (mI G)<|Qv ent74 (c_impl_text bf (sumC x.Maps) oB (hE.lo S)) G fun cF aG bY=>?_)))
       have bL:(Lib.itoa (sumC x.Maps)).length≤21:=itoa_len (n:=sumC x.Maps) oB oB
       refine Q (mB G)<|Q (aS G)<|Q (aB G)<|Qn (We (ret2 G (v:=str _) (v':=.bool _) G G ?_))
       refine ⟨eR (eT2 (eS ?_) (eB ?_)),(S.lo aG)⟩ <;> (subst hleL; unfold impl_tell; rw [if_neg l,if_neg o,if_neg f,if_neg m,if_neg p,if_pos t] <;> rfl)
      ·refine Ws (Wr (Q (mS G)<|Q (r_eqs (s:=s) (r:=([116,111,114,110]:List UInt8)) G G)<|Q (aB G)<|Qn (Wd G (fun y=>?_) (fun y=>?_))))
       ·refine Wr (Q (lG agg34 G (u.lo c) G)<|Qv ent157 (c_impl_TornCopies A x F H oB) G fun bg aH bZ=>?_)
        have T:=b.lo aH
        have bM:0≤(if LibOK x then sumT x.Maps else 0)∧(if LibOK x then sumT x.Maps else 0)≤9999:=torn_rng x
        refine Q (mT G)<|Q (xI G G)<|Q (xB G G)<|Q (aI G)<|Q (aB G)<|Qn (Ws (Wr (Q (mI G)<|Qv ent74 (c_impl_text bg (if LibOK x then sumT x.Maps else 0) oB (hE.lo T)) G fun cG aJ b4=>?_)))
        have bN:(Lib.itoa (if LibOK x then sumT x.Maps else 0)).length≤21:=itoa_len (n:=(if LibOK x then sumT x.Maps else 0)) oB oB
        refine Q (mB G)<|Q (aS G)<|Q (aB G)<|Qn (We (ret2 G (v:=str _) (v':=.bool _) G G ?_))
        refine ⟨eR (eT2 (eS ?_) (eB ?_)),(T.lo aJ)⟩ <;> (subst hleL; unfold impl_tell; rw [if_neg l,if_neg o,if_neg f,if_neg m,if_neg p,if_neg t,if_pos y] <;> rfl)
       ·refine Ws (Wr (Q (mS G)<|Q (r_eqs (s:=s) (r:=([98,111,117,103,104,116]:List UInt8)) G G)<|Q (aB G)<|Qn (Wd G (fun I=>?_) (fun I=>?_))))
        ·refine Wr (Q (fA fa34_2 G)<|Q (lB sca3 G (u.lo c) G)<|Q (aI G)<|Qn (Ws (Wr (Q (mI G)<|Qv ent74 (c_impl_text A x.Bought oB (hE.lo b)) G fun cH aK b5=>?_))))
         have bO:(Lib.itoa x.Bought).length≤21:=itoa_len (n:=x.Bought) oB oB
         refine Q (mB G)<|Q (aS G)<|Q (aB G)<|Qn (We (ret2 G (v:=str _) (v':=.bool _) G G ?_))
         refine ⟨eR (eT2 (eS ?_) (eB ?_)),(b.lo aK)⟩ <;> (subst hleL; unfold impl_tell; rw [if_neg l,if_neg o,if_neg f,if_neg m,if_neg p,if_neg t,if_neg y,if_pos I] <;> rfl)
        ·refine Ws (Wr (Q (mS G)<|Q (r_eqs (s:=s) (r:=([109,101,110,100,101,100]:List UInt8)) G G)<|Q (aB G)<|Qn (Wd G (fun N=>?_) (fun N=>?_))))
         ·refine Wr (Q (fA fa34_4 G)<|Q (lB sca3 G (u.lo c) G)<|Q (aI G)<|Qn (Ws (Wr (Q (mI G)<|Qv ent74 (c_impl_text A x.Mended oB (hE.lo b)) G fun cI aM b6=>?_))))
          have bP:(Lib.itoa x.Mended).length≤21:=itoa_len (n:=x.Mended) oB oB
          refine Q (mB G)<|Q (aS G)<|Q (aB G)<|Qn (We (ret2 G (v:=str _) (v':=.bool _) G G ?_))
          refine ⟨eR (eT2 (eS ?_) (eB ?_)),(b.lo aM)⟩ <;> (subst hleL; unfold impl_tell; rw [if_neg l,if_neg o,if_neg f,if_neg m,if_neg p,if_neg t,if_neg y,if_neg I,if_pos N] <;> rfl)
         ·refine Ws (Wr (Q (r_as (v:=str ([]:List UInt8)) G)<|Q (aB G)<|Qn (We (ret2 G (v:=str _) (v':=.bool _) G G ?_))))
          refine ⟨eR (eT2 (eS ?_) (eB ?_)),b⟩ <;> (subst hleL; unfold impl_tell; rw [if_neg l,if_neg o,if_neg f,if_neg m,if_neg p,if_neg t,if_neg y,if_neg I,if_neg N] <;> rfl)
open Classical in
noncomputable def spec_l34Map (x:Library) (id:Int):List UInt8 :=
 if (!((mapT x id).2))=true then ([63]:List UInt8) else (mapT x id).1
theorem c_spec_l34Map (w:World) (x:Library) (b:SlR w Bx1 encLMap 3 Ax1 nx1 cx1 x.Maps) (c:SlR w Bx2 encAway 2 Ax2 nx2 cx2 x.Away) (id:Int):Calls Tryz.prog 142 #[.agg (List.toArray (cLb Ax1 nx1 cx1 Ax2 nx2 cx2 x)),i6 id] w fun e w'=>e=.returned (str (spec_l34Map x id))∧Lo w w':=by
 refine cW 16 Tryz.func142 G G G ?_
 have k:=b.bound
 have m:=b.len
 have h:=b.bd
 have l:=c.bound
 have n:=c.len
 have i:=c.bd
 refine Ws (Wr (bx G ?_))
 intro y u s f t j
 refine Q (r_as (v:=str ([]:List UInt8)) G)<|Qn (Ws (Wr (Q (lG agg34 G j G)<|Q (mI G)<|Qv ent176 (c_spec_MapText u x (b.lo f) (c.lo f) id) G fun z g r=>?_)))
 have d:=((lr w).lo f).lo g
 have o:(mapT x id).1.length≤75:=mapT_len x id
 refine Q (mT G)<|Q (xS G G)<|Q (xB G G)<|Q (aS G)<|Q (aB G)<|Qn (Ws (Ws (Wr (Q (mB G)<|Q (rN G)<|Qn (Wb G (fun a=>?_) (fun a=>?_))))))
 ·have p:=bnot_t a
  refine Ws (Wr (Q (r_as (v:=str ([63]:List UInt8)) G)<|Qn (We (ret1 G (v:=str _) G ?_))))
  exact ⟨eR (eS (by unfold spec_l34Map; rw [if_pos a] <;> rfl)),d⟩
 ·have q:=bnot_f a
  refine Wk (Ws (Wr (Q (mS G)<|Q (aS G)<|Qn (We (ret1 G (v:=str _) G ?_)))))
  exact ⟨eR (eS (by unfold spec_l34Map; rw [if_neg (ne_true_of_eq_false a)] <;> rfl)),d⟩
open Classical in
noncomputable def spec_l34Word (x:Library) (s:List UInt8):List UInt8 :=
 if s=([116,104,101,114,101]:List UInt8) then (spec_l34Number (if LibOK x then sumC x.Maps else 0) (decide (LibOK x))) else if s=([116,111,114,110]:List UInt8) then (spec_l34Number (if LibOK x then sumT x.Maps else 0) (decide (LibOK x))) else if s=([98,111,117,103,104,116]:List UInt8) then Lib.itoa x.Bought else if s=([109,101,110,100,101,100]:List UInt8) then Lib.itoa x.Mended else if s=([109,97,121]:List UInt8) then (if (decide (LibOK x))=true then listN (if LibOK x then selL mayM LMap.Id x.Maps else []) else [63]) else ([63]:List UInt8)
theorem c_spec_l34Word (w:World) (x:Library) (d:SlR w Bx1 encLMap 3 Ax1 nx1 cx1 x.Maps) (f:SlR w Bx2 encAway 2 Ax2 nx2 cx2 x.Away) (s:List UInt8) (aj:(nx1:Int)≤8) (ak:(nx2:Int)≤8) (I:LibOK x):Calls Tryz.prog 84 #[.agg (List.toArray (cLb Ax1 nx1 cx1 Ax2 nx2 cx2 x)),str s] w fun e w'=>e=.returned (str (spec_l34Word x s))∧Lo w w':=by
 refine cW 52 Tryz.func84 G G G ?_
 have D:=d.bound
 have F:=d.len
 have B:=d.bd
 have E:=f.bound
 have H:=f.len
 have C:=f.bd
 have hlb:=lib_rng I
 refine Ws (Wr (bx G ?_))
 intro g1 A ai a al i
 have c:=(lr w).lo a
 refine Q (r_as (v:=str ([]:List UInt8)) G)<|Qn (Ws (Ws (Wr (Q (mS G)<|Qn (Wl (Ws (Wr (Q (r_eqs (s:=s) (r:=([116,104,101,114,101]:List UInt8)) G G)<|Q (aB G)<|Qn (Wd G (fun m=>?_) (fun m=>?_))))))))))
 ·refine Ws (Wr (Q (lG agg34 G i G)<|Qv ent135 (c_spec_CopiesThere A x (d.lo a) (f.lo a) oB) G fun J o W=>?_))
  have O:0≤(if LibOK x then sumC x.Maps else 0)∧(if LibOK x then sumC x.Maps else 0)≤9999:=there_rngN x
  refine Q (mT G)<|Q (xI G G)<|Q (xB G G)<|Q (aI G)<|Q (aB G)<|Qn (Ws (Wr (Q (mI G)<|Q (mB G)<|Qv ent136 (c_spec_l34Number J (if LibOK x then sumC x.Maps else 0) (decide (LibOK x)) oB) G fun an p X=>(Q (aS G)<|Qn (We (ret1 G (v:=str _) G ?_))))))
  exact ⟨eR (eS (by unfold spec_l34Word; rw [if_pos m] <;> rfl)),((c.lo o).lo p)⟩
 ·refine Ws (Wr (Q (r_eqs (s:=s) (r:=([116,111,114,110]:List UInt8)) G G)<|Q (aB G)<|Qn (Wd G (fun b=>?_) (fun b=>?_))))
  ·refine Ws (Wr (Q (lG agg34 G i G)<|Qv ent137 (c_spec_TornCopies A x (d.lo a) (f.lo a)) G fun K q Y=>?_))
   have P:0≤(if LibOK x then sumT x.Maps else 0)∧(if LibOK x then sumT x.Maps else 0)≤9999:=torn_rng x
   refine Q (mT G)<|Q (xI G G)<|Q (xB G G)<|Q (aI G)<|Q (aB G)<|Qn (Ws (Wr (Q (mI G)<|Q (mB G)<|Qv ent136 (c_spec_l34Number K (if LibOK x then sumT x.Maps else 0) (decide (LibOK x)) oB) G fun ao t Z=>(Q (aS G)<|Qn (We (ret1 G (v:=str _) G ?_))))))
   exact ⟨eR (eS (by unfold spec_l34Word; rw [if_neg m,if_pos b] <;> rfl)),((c.lo q).lo t)⟩
  ·refine Ws (Wr (Q (r_eqs (s:=s) (r:=([98,111,117,103,104,116]:List UInt8)) G G)<|Q (aB G)<|Qn (Wd G (fun g=>?_) (fun g=>?_))))
   ·refine Ws (Wr (Q (fA fa34_2 G)<|Q (lB sca3 G i G)<|Qv ent75 (c_spec_l1Num A x.Bought oB) G fun ap u aa=>?_))
    have R:(Lib.itoa x.Bought).length≤21:=itoa_len (n:=x.Bought) oB oB
    refine Q (aS G)<|Qn (We (ret1 G (v:=str _) G ?_))
    exact ⟨eR (eS (by unfold spec_l34Word; rw [if_neg m,if_neg b,if_pos g] <;> rfl)),(c.lo u)⟩
   ·refine Ws (Wr (Q (r_eqs (s:=s) (r:=([109,101,110,100,101,100]:List UInt8)) G G)<|Q (aB G)<|Qn (Wd G (fun j=>?_) (fun j=>?_))))
    ·refine Ws (Wr (Q (fA fa34_4 G)<|Q (lB sca3 G i G)<|Qv ent75 (c_spec_l1Num A x.Mended oB) G fun aq y ab=>?_))
     have S:(Lib.itoa x.Mended).length≤21:=itoa_len (n:=x.Mended) oB oB
     refine Q (aS G)<|Qn (We (ret1 G (v:=str _) G ?_))
     exact ⟨eR (eS (by unfold spec_l34Word; rw [if_neg m,if_neg b,if_neg g,if_pos j] <;> rfl)),(c.lo y)⟩
    ·refine Ws (Wr (Q (r_eqs (s:=s) (r:=([109,97,121]:List UInt8)) G G)<|Q (aB G)<|Qn (Wd G (fun l=>?_) (fun l=>?_))))
     ·refine Ws (Wr (Q (lG agg34 G i G)<|Qc ent138 (c_spec_MayLend A x (d.lo a) (f.lo a) oB) G ?_))
      rintro e L ⟨ag,am,ah,rfl,h,k⟩
      refine ⟨_,G,?_⟩
      have ac:=k.size
      have M:=h.len
      have N:=h.rd.bound
      have T:=(selif_len _ _ _ _:(if LibOK x then selL mayM LMap.Id x.Maps else []).length≤x.Maps.length)
      have U:IntsIn (if LibOK x then selL mayM LMap.Id x.Maps else []):=ints_may x
      refine Q (mT G)<|Q (xL G G)<|Q (xB G G)<|Q (aL G)<|Q (aB G)<|Qn (Ws (Wr (Q (mL G)<|Q (mB G)<|Qv ent139 (c_spec_l34List L (if LibOK x then selL mayM LMap.Id x.Maps else []) (h.rd) (decide (LibOK x)) oB oJ) G fun ar z ae=>?_)))
      have V:(listN (if LibOK x then selL mayM LMap.Id x.Maps else [])).length≤22*(if LibOK x then selL mayM LMap.Id x.Maps else []).length+4:=listN_len (if LibOK x then selL mayM LMap.Id x.Maps else []) oJ oB
      refine Q (aS G)<|Qn (We (ret1 G (v:=str _) G ?_))
      exact ⟨eR (eS (by unfold spec_l34Word; rw [if_neg m,if_neg b,if_neg g,if_neg j,if_pos l] <;> rfl)),((c.lo k).lo z)⟩
     ·refine Wk (Ws (Wr (Q (r_as (v:=str ([63]:List UInt8)) G)<|Qn (We (ret1 G (v:=str _) G ?_)))))
      exact ⟨eR (eS (by unfold spec_l34Word; rw [if_neg m,if_neg b,if_neg g,if_neg j,if_neg l] <;> rfl)),c⟩
end Go.Proofs.YtndcchndcghmoaaGreatDoor
namespace Go.Proofs.YtndcchndcghmoaaGreatDoor
open Go Go.RowKit Fw
set_option maxRecDepth 10000
set_option maxHeartbeats 2000000
set_option linter.unusedVariables false
variable {Ac1 Ac2 : Option Addr} {nc1 cc1 Bc1 nc2 cc2 Bc2 : Nat}
theorem ent140:Ent Tryz.prog 140:=en Tryz.func140
theorem ent141:Ent Tryz.prog 141:=en Tryz.func141
theorem ent142:Ent Tryz.prog 142:=en Tryz.func142
theorem ent67:Ent Tryz.prog 67:=en Tryz.func67
theorem ent87:Ent Tryz.prog 87:=en Tryz.func87
theorem tz37:TZ Tryz.prog 37 (.agg (List.toArray zCn)):=fun _=>by kernel_rfl
open Classical in
noncomputable def spec_l34Make (c:Console) (s:LibraryStep):Console × List UInt8 :=
 if (!((spec_StepLibrary c.Library s).2))=true then (c,([63]:List UInt8)) else ((⟨((spec_StepLibrary c.Library s).1),c.Log⟩:Console),(spec_l34Map ((spec_StepLibrary c.Library s).1) s.Id))
theorem c_spec_l34Make (w:World) (c:Console) (t:SlO w Bc1 encLMap 3 102 Ac1 nc1 cc1 c.Library.Maps) (u:SlO w Bc2 encAway 2 129 Ac2 nc2 cc2 c.Library.Away) (s:LibraryStep) (hdc_Library_Maps_c2:Dj Ac1 Ac2) (bq:(nc1:Int)≤8) (bs:(nc2:Int)≤8):Calls Tryz.prog 87 #[.agg (List.toArray (cCn Ac1 nc1 cc1 Ac2 nc2 cc2 c)),.agg (List.toArray (encLibraryStep s))] w fun e w'=>∃ A1' n1' c1' A2' n2' c2',e=.returned (.tuple (List.toArray [.agg (List.toArray (cCn A1' n1' c1' A2' n2' c2' ((spec_l34Make c s).1))),str ((spec_l34Make c s).2)]))∧SlO w' Bc1 encLMap 3 102 A1' n1' c1' (((spec_l34Make c s).1).Library.Maps)∧SlO w' Bc2 encAway 2 129 A2' n2' c2' (((spec_l34Make c s).1).Library.Away)∧Dj A1' A2'∧(Og A1' Ac1 Ac2 w)∧(Og A2' Ac1 Ac2 w)∧Lo w w':=by
 refine cW 27 Tryz.func87 G G G ?_
 have aH:=t.rd.cap
 have aD:=t.rd.bd
 have aF:=t.rd.bound
 have aj:=t.len
 have az:=t.bd
 have aJ:=u.rd.cap
 have aE:=u.rd.bd
 have aG:=u.rd.bound
 have ak:=u.len
 have aA:=u.bd
 refine Ws (Wr (bx G ?_))
 intro g1 w2 bp L bt aC
 refine bx G ?_
 intro bo bu aV m bc X
 refine Qa (l:=zCn) tz37 G ?_
 intro q aT aW n be an
 refine Q (r_as (v:=str ([]:List UInt8)) G)<|Qn (Ws ?_)
 have Y:=(aC.lo m).lo n
 have O:=((t.lo L).lo m).lo n
 have P:=((u.lo L).lo m).lo n
 refine Wr (Q (fA fa37_0 G)<|Q (r_lda (l:=(cLb Ac1 nc1 cc1 Ac2 nc2 cc2 c.Library)) agg34 G (fun _ _ hu=>Y.cells (vs:=(cLb Ac1 nc1 cc1 Ac2 nc2 cc2 c.Library)) G hu) G)<|Q (lG agg106 G (X.lo n) G)<|Qc ent67 (c_spec_StepLibrary aT c.Library (O.rd) (P.rd) s) G ?_)
 rintro e bz ⟨D,R,F,E,S,H,rfl,z,A,au,d⟩
 refine ⟨_,G,?_⟩
 have bj:=d.size
 have aw:=z.len
 have aZ:=z.rd.bound
 have a7:=step_lenMS c.Library s
 have ax:=A.len
 have a6:=A.rd.bound
 have a8:=step_lenAS c.Library s
 refine Q (mT G)<|Q (xG G G)<|Q (xB G G)<|Qa (l:=zLb) tz34 G ?_
 intro U bA aX j bf ao
 refine Qw (o:=0) (vs:=(cLb D R F E S H ((spec_StepLibrary c.Library s).1))) agg34.2 G G G G ao ler G ?_
 intro bB k bg ap
 have W:=((((((lr w).lo L).lo m).lo n).lo d).lo j).new k
 refine Q (aB G)<|Qn (Ws (Ws ?_))
 have Z:=((Y.lo d).lo j).kn k
 have aa:=((an.lo d).lo j).kn k
 have ab:=(z.lo j).kd k (nE (g:=U) z)
 have ac:=(A.lo j).kd k (nE (g:=U) A)
 refine Wr (Q (mB G)<|Q (rN G)<|Qn (Wb G (fun I=>?_) (fun I=>?_)))
 ·have ba:=bnot_t I
  refine Ws (Wr (Q (lG agg37 G Z G)<|Qw (o:=0) (vs:=(cCn Ac1 nc1 cc1 Ac2 nc2 cc2 c)) agg37.2 G G G G aa ler G ?_))
  intro bC M bh aq
  refine Q (r_as (v:=str ([63]:List UInt8)) G)<|Qn (We (retCT G G agg37 aq G (v:=str _) G ?_))
  refine ⟨Ac1,nc1,cc1,Ac2,nc2,cc2,eR (eT2 (e8 ?_ ?_ ?_ ?_ ?_ ?_) (eS ?_)),(oq ((((O.lo d).lo j).kd k (nE (g:=U) (O.lo d))).kd M (nE (g:=q) ((t.lo L).lo m))) ?_),(oq ((((P.lo d).lo j).kd k (nE (g:=U) (P.lo d))).kd M (nE (g:=q) ((u.lo L).lo m))) ?_),hdc_Library_Maps_c2,(fun b_ h_=>.inl (.inl h_)),(fun b_ h_=>.inl (.inr h_)),(W.new M)⟩ <;> (subst aj ak; unfold spec_l34Make; rw [if_pos I] <;> rfl)
 ·have bb:=bnot_f I
  refine Wk (Ws (Wr (Q (lG agg37 G Z G)<|Qa (l:=zCn) tz37 G ?_)))
  intro am bD aY p bi ar
  have B:=nE (g:=am) ab
  have C:=nE (g:=am) ac
  refine Qw (o:=0) (vs:=(cCn Ac1 nc1 cc1 Ac2 nc2 cc2 c)) agg37.2 G G G G ar ler G ?_
  intro bE i aK ae
  refine Qn (Ws ?_)
  have N:=(ap.lo p).kn i
  have x:=(ab.lo p).kd i B
  have y:=(ac.lo p).kd i C
  refine Wr (Q (lG agg34 G N G)<|Q (fA fa37_0 G)<|Qw (o:=0) (vs:=(cLb D R F E S H ((spec_StepLibrary c.Library s).1))) agg34.2 G G G G ae ler G ?_)
  intro T a aM ag
  refine Qn (Ws (WA (Kp (fun b_=>b_=q) T) (fun f' w'=>At f' [(4,pt q),(5,str (spec_l34Map ((spec_StepLibrary c.Library s).1) s.Id))]∧(Kp (fun b_=>b_=q) T w')∧(Blk w' q 37 [.slice D R F,.slice E S H,i6 (((spec_StepLibrary c.Library s).1).Bought),i6 (((spec_StepLibrary c.Library s).1).Dropped),i6 (((spec_StepLibrary c.Library s).1).Mended),str c.Log.Durable,str c.Log.Pending,i6 c.Log.Count])) mo ?_ ?_))
  ·intro ay b
   have aO:=b.size
   refine Ak 0 G (kr b) (fun w' hw'=>lG agg37 G (ag.kn hw' oB) G)<|Ak 1 G (kr b) (fun w' hw'=>lG agg34 G ((N.kn a).kn hw' oB) G)<|Ak 2 G (kr b) (fun w' hw'=>fA fa106_1 G)<|Ak 3 G (kr b) (fun w' hw'=>lB sca3 G ((((((((X.lo n).lo d).lo j).kn k).lo p).kn i).kn a).kn hw' oB) G)<|Ab 4 G (Qv ent142 (c_spec_l34Map ay ((spec_StepLibrary c.Library s).1) (((x.kd a B).lo b).rd) (((y.kd a C).lo b).rd) s.Id) G fun bl K aQ=>?_)
   have J:=((kr b:Kp (fun b_=>b_=q) T _)).lo K
   refine Qn ⟨J,_,G,(Ab 5 G (Qw (o:=0) (vs:=[.slice D R F,.slice E S H,i6 (((spec_StepLibrary c.Library s).1).Bought),i6 (((spec_StepLibrary c.Library s).1).Dropped),i6 (((spec_StepLibrary c.Library s).1).Mended),str c.Log.Durable,str c.Log.Pending,i6 c.Log.Count]) agg37.2 G G G G (((((aa.lo p).kn i).kn a).lo b).lo K) ler G ?_))⟩
   intro bm ai aN ah
   have r:=J.step ai (fun _ _ e=>e)
   refine Qn ⟨r,_,G,(Ak 6 G r (fun w' hw'=>aS G)<|Ad oC (⟨⟨G,G,trivial⟩,r,ah⟩))⟩
  rintro aU bn ⟨V,f,al⟩
  rw [← sA V]
  have aR:=f.size
  refine We (retCT G G agg37 al G (v:=str _) G ?_)
  refine ⟨D,R,F,E,S,H,eR (eT2 (e8 ?_ ?_ ?_ ?_ ?_ ?_) (eS ?_)),(oq (((x.kd a B).kn f oB).down) ?_),(oq (((y.kd a C).kn f oB).down) ?_),au,(fun b_ h=>.inr (by have:=((x.kd a B).kn f oB).base_le h; omega)),(fun b_ h=>.inr (by have:=((y.kd a C).kn f oB).base_le h; omega)),((((W.lo p).new i).new a).new f oB)⟩ <;> (subst aw ax; unfold spec_l34Make; rw [if_neg (ne_true_of_eq_false I)] <;> rfl)
open Classical in
noncomputable def spec_l34One (c:Console) (s:List UInt8) (n:Int):Console × List UInt8 :=
 if s=([97,116]:List UInt8) then (c,(if (decide (LibOK c.Library∧(1≤n∧n≤999)))=true then listN (if LibOK c.Library∧(1≤n∧n≤999) then selL (atR n) Away.Map c.Library.Away else []) else [63])) else if s=([114,101,97,100,101,114,115]:List UInt8) then (c,(if (decide (LibOK c.Library∧0≤idxF (hasId n) c.Library.Maps))=true then listN (if LibOK c.Library∧0≤idxF (hasId n) c.Library.Maps then selL (ofM n) Away.Reader c.Library.Away else []) else [63])) else if s=([116,101,120,116]:List UInt8) then (c,(spec_l34Map c.Library n)) else (c,([63]:List UInt8))
theorem c_spec_l34One (w:World) (c:Console) (B:SlO w Bc1 encLMap 3 102 Ac1 nc1 cc1 c.Library.Maps) (C:SlO w Bc2 encAway 2 129 Ac2 nc2 cc2 c.Library.Away) (s:List UInt8) (n:Int) (hdc_Library_Maps_c2:Dj Ac1 Ac2) (bG:(nc1:Int)≤8) (bH:(nc2:Int)≤8):Calls Tryz.prog 85 #[.agg (List.toArray (cCn Ac1 nc1 cc1 Ac2 nc2 cc2 c)),str s,i6 n] w fun e w'=>∃ A1' n1' c1' A2' n2' c2',e=.returned (.tuple (List.toArray [.agg (List.toArray (cCn A1' n1' c1' A2' n2' c2' ((spec_l34One c s n).1))),str ((spec_l34One c s n).2)]))∧SlO w' Bc1 encLMap 3 102 A1' n1' c1' (((spec_l34One c s n).1).Library.Maps)∧SlO w' Bc2 encAway 2 129 A2' n2' c2' (((spec_l34One c s n).1).Library.Away)∧Dj A1' A2'∧(Og A1' Ac1 Ac2 w)∧(Og A2' Ac1 Ac2 w)∧Lo w w':=by
 refine cW 47 Tryz.func85 G G G ?_
 have aE:=B.rd.cap
 have az:=B.rd.bd
 have aC:=B.rd.bound
 have t:=B.len
 have ax:=B.bd
 have aF:=C.rd.cap
 have aA:=C.rd.bd
 have aD:=C.rd.bound
 have u:=C.len
 have ay:=C.bd
 refine Ws (Wr (bx G ?_))
 intro g1 w2 bF T bI A
 refine Qa (l:=zCn) tz37 G ?_
 intro b U bb d bi H
 have E:=((lr w).lo T).lo d
 have I:=nE (g:=b) (B.lo T)
 have J:=nE (g:=b) (C.lo T)
 refine Q (r_as (v:=str ([]:List UInt8)) G)<|Qn (Ws (Ws ?_))
 have i:=(B.lo T).lo d
 have j:=(C.lo T).lo d
 refine Wr (Q (mS G)<|Qn (Wl (Ws (Wr (Q (r_eqs (s:=s) (r:=([97,116]:List UInt8)) G G)<|Q (aB G)<|Qn (Wd G (fun L=>?_) (fun L=>?_)))))))
 ·refine Ws (Wr (Q (fA fa37_0 G)<|Q (r_lda (l:=(cLb Ac1 nc1 cc1 Ac2 nc2 cc2 c.Library)) agg34 G (fun _ _ hu=>(A.lo d).cells (vs:=(cLb Ac1 nc1 cc1 Ac2 nc2 cc2 c.Library)) G hu) G)<|Q (mI G)<|Qc ent140 (c_spec_MapsAt U c.Library (i.rd) (j.rd) n oB) G ?_))
  rintro e al ⟨bC,bJ,bD,rfl,M,k⟩
  refine ⟨_,G,?_⟩
  have bl:=k.size
  have bc:=M.len
  have be:=M.rd.bound
  have bf:=(selif_len _ _ _ _:(if LibOK c.Library∧(1≤n∧n≤999) then selL (atR n) Away.Map c.Library.Away else []).length≤c.Library.Away.length)
  have bg:IntsIn (if LibOK c.Library∧(1≤n∧n≤999) then selL (atR n) Away.Map c.Library.Away else []):=ints_at c.Library n
  refine Q (mT G)<|Q (xL G G)<|Q (xB G G)<|Q (aL G)<|Q (aB G)<|Qn (Ws (WA (Kp (fun b_=>b_=b) al) (fun f' w'=>At f' [(3,pt g1),(6,pt b),(7,str (if (decide (LibOK c.Library∧(1≤n∧n≤999)))=true then listN (if LibOK c.Library∧(1≤n∧n≤999) then selL (atR n) Away.Map c.Library.Away else []) else [63]))]∧(Kp (fun b_=>b_=b) al w')∧(Blk w' b 37 (cCn Ac1 nc1 cc1 Ac2 nc2 cc2 c))∧((listN (if LibOK c.Library∧(1≤n∧n≤999) then selL (atR n) Away.Map c.Library.Away else [])).length≤22*(if LibOK c.Library∧(1≤n∧n≤999) then selL (atR n) Away.Map c.Library.Away else []).length+4)) mo ?_ ?_))
  ·intro aZ h
   have bm:=h.size
   refine Ak 0 G (kr h) (fun w' hw'=>lG agg37 G (((A.lo d).lo k).kn hw' oB) G)<|Ak 1 G (kr h) (fun w' hw'=>mL G)<|Ak 2 G (kr h) (fun w' hw'=>mB G)<|Ab 3 G (Qv ent139 (c_spec_l34List aZ (if LibOK c.Library∧(1≤n∧n≤999) then selL (atR n) Away.Map c.Library.Away else []) ((M.lo h).rd) (decide (LibOK c.Library∧(1≤n∧n≤999))) oB oJ) G fun bK Z bn=>?_)
   have Y:=((kr h:Kp (fun b_=>b_=b) al _)).lo Z
   have aq:(listN (if LibOK c.Library∧(1≤n∧n≤999) then selL (atR n) Away.Map c.Library.Away else [])).length≤22*(if LibOK c.Library∧(1≤n∧n≤999) then selL (atR n) Away.Map c.Library.Away else []).length+4:=listN_len (if LibOK c.Library∧(1≤n∧n≤999) then selL (atR n) Away.Map c.Library.Away else []) oJ oB
   refine Qn ⟨Y,_,G,(Ab 4 G (Qw (o:=0) (vs:=(cCn Ac1 nc1 cc1 Ac2 nc2 cc2 c)) agg37.2 G G G G (((H.lo k).lo h).lo Z) ler G ?_))⟩
   intro bL ao bj an
   have P:=Y.step ao (fun _ _ e=>e)
   refine Qn ⟨P,_,G,(Ak 5 G P (fun w' hw'=>aS G)<|Ad oC (⟨(At.r G),P,an,aq⟩))⟩
  rintro bE bM ⟨aa,F,ap,bh⟩
  rw [← sA aa]
  have bo:=F.size
  refine We (retCT G G agg37 ap G (v:=str _) G ?_)
  refine ⟨Ac1,nc1,cc1,Ac2,nc2,cc2,eR (eT2 (e8 ?_ ?_ ?_ ?_ ?_ ?_) (eS ?_)),(oq ((i.lo k).kd F I) ?_),(oq ((j.lo k).kd F J) ?_),hdc_Library_Maps_c2,(fun b_ h_=>.inl (.inl h_)),(fun b_ h_=>.inl (.inr h_)),((E.lo k).new F oB)⟩ <;> (subst t u; unfold spec_l34One; rw [if_pos L] <;> rfl)
 ·refine Ws (Wr (Q (r_eqs (s:=s) (r:=([114,101,97,100,101,114,115]:List UInt8)) G G)<|Q (aB G)<|Qn (Wd G (fun V=>?_) (fun V=>?_))))
  ·refine Ws (Wr (Q (fA fa37_0 G)<|Q (r_lda (l:=(cLb Ac1 nc1 cc1 Ac2 nc2 cc2 c.Library)) agg34 G (fun _ _ hu=>(A.lo d).cells (vs:=(cLb Ac1 nc1 cc1 Ac2 nc2 cc2 c.Library)) G hu) G)<|Q (mI G)<|Qc ent141 (c_spec_ReadersOf U c.Library (i.rd) (j.rd) n) G ?_))
   rintro e am ⟨a6,bp,a7,rfl,x,m⟩
   refine ⟨_,G,?_⟩
   have aR:=m.size
   have aG:=x.len
   have aH:=x.rd.bound
   have aJ:=(selif_len _ _ _ _:(if LibOK c.Library∧0≤idxF (hasId n) c.Library.Maps then selL (ofM n) Away.Reader c.Library.Away else []).length≤c.Library.Away.length)
   have aK:IntsIn (if LibOK c.Library∧0≤idxF (hasId n) c.Library.Maps then selL (ofM n) Away.Reader c.Library.Away else []):=ints_rd c.Library n
   refine Q (mT G)<|Q (xL G G)<|Q (xB G G)<|Q (aL G)<|Q (aB G)<|Qn (Ws (WA (Kp (fun b_=>b_=b) am) (fun f' w'=>At f' [(3,pt g1),(6,pt b),(7,str (if (decide (LibOK c.Library∧0≤idxF (hasId n) c.Library.Maps))=true then listN (if LibOK c.Library∧0≤idxF (hasId n) c.Library.Maps then selL (ofM n) Away.Reader c.Library.Away else []) else [63]))]∧(Kp (fun b_=>b_=b) am w')∧(Blk w' b 37 (cCn Ac1 nc1 cc1 Ac2 nc2 cc2 c))∧((listN (if LibOK c.Library∧0≤idxF (hasId n) c.Library.Maps then selL (ofM n) Away.Reader c.Library.Away else [])).length≤22*(if LibOK c.Library∧0≤idxF (hasId n) c.Library.Maps then selL (ofM n) Away.Reader c.Library.Away else []).length+4)) mo ?_ ?_))
   ·intro ar f
    have aT:=f.size
    refine Ak 0 G (kr f) (fun w' hw'=>lG agg37 G (((A.lo d).lo m).kn hw' oB) G)<|Ak 1 G (kr f) (fun w' hw'=>mL G)<|Ak 2 G (kr f) (fun w' hw'=>mB G)<|Ab 3 G (Qv ent139 (c_spec_l34List ar (if LibOK c.Library∧0≤idxF (hasId n) c.Library.Maps then selL (ofM n) Away.Reader c.Library.Away else []) ((x.lo f).rd) (decide (LibOK c.Library∧0≤idxF (hasId n) c.Library.Maps)) oB oJ) G fun bq R aU=>?_)
    have N:=((kr f:Kp (fun b_=>b_=b) am _)).lo R
    have ak:(listN (if LibOK c.Library∧0≤idxF (hasId n) c.Library.Maps then selL (ofM n) Away.Reader c.Library.Away else [])).length≤22*(if LibOK c.Library∧0≤idxF (hasId n) c.Library.Maps then selL (ofM n) Away.Reader c.Library.Away else []).length+4:=listN_len (if LibOK c.Library∧0≤idxF (hasId n) c.Library.Maps then selL (ofM n) Away.Reader c.Library.Away else []) oJ oB
    refine Qn ⟨N,_,G,(Ab 4 G (Qw (o:=0) (vs:=(cCn Ac1 nc1 cc1 Ac2 nc2 cc2 c)) agg37.2 G G G G (((H.lo m).lo f).lo R) ler G ?_))⟩
    intro bs ag aN ab
    have y:=N.step ag (fun _ _ e=>e)
    refine Qn ⟨y,_,G,(Ak 5 G y (fun w' hw'=>aS G)<|Ad oC (⟨(At.r G),y,ab,ak⟩))⟩
   rintro a8 bt ⟨W,p,ai,aM⟩
   rw [← sA W]
   have aV:=p.size
   refine We (retCT G G agg37 ai G (v:=str _) G ?_)
   refine ⟨Ac1,nc1,cc1,Ac2,nc2,cc2,eR (eT2 (e8 ?_ ?_ ?_ ?_ ?_ ?_) (eS ?_)),(oq ((i.lo m).kd p I) ?_),(oq ((j.lo m).kd p J) ?_),hdc_Library_Maps_c2,(fun b_ h_=>.inl (.inl h_)),(fun b_ h_=>.inl (.inr h_)),((E.lo m).new p oB)⟩ <;> (subst t u; unfold spec_l34One; rw [if_neg L,if_pos V] <;> rfl)
  ·refine Ws (Wr (Q (r_eqs (s:=s) (r:=([116,101,120,116]:List UInt8)) G G)<|Q (aB G)<|Qn (Wd G (fun K=>?_) (fun K=>?_))))
   ·refine Ws (WA (Kp (fun b_=>b_=b) U) (fun f' w'=>At f' [(3,pt g1),(6,pt b),(7,str (spec_l34Map c.Library n))]∧(Kp (fun b_=>b_=b) U w')∧(Blk w' b 37 (cCn Ac1 nc1 cc1 Ac2 nc2 cc2 c))) mo ?_ ?_)
    ·intro au a
     have aW:=a.size
     refine Ak 0 G (kr a) (fun w' hw'=>lG agg37 G ((A.lo d).kn hw' oB) G)<|Ak 1 G (kr a) (fun w' hw'=>fA fa37_0 G)<|Ak 2 G (kr a) (fun w' hw'=>r_lda (l:=(cLb Ac1 nc1 cc1 Ac2 nc2 cc2 c.Library)) agg34 G (fun _ _ hu=>((A.lo d).kn hw' oB).cells (vs:=(cLb Ac1 nc1 cc1 Ac2 nc2 cc2 c.Library)) G hu) G)<|Ak 3 G (kr a) (fun w' hw'=>mI G)<|Ab 4 G (Qv ent142 (c_spec_l34Map au c.Library ((i.lo a).rd) ((j.lo a).rd) n) G fun bu S aX=>?_)
     have O:=((kr a:Kp (fun b_=>b_=b) U _)).lo S
     refine Qn ⟨O,_,G,(Ab 5 G (Qw (o:=0) (vs:=(cCn Ac1 nc1 cc1 Ac2 nc2 cc2 c)) agg37.2 G G G G ((H.lo a).lo S) ler G ?_))⟩
     intro bz ah aO ac
     have z:=O.step ah (fun _ _ e=>e)
     refine Qn ⟨z,_,G,(Ak 6 G z (fun w' hw'=>aS G)<|Ad oC (⟨(At.r G),z,ac⟩))⟩
    rintro ba bA ⟨X,q,aj⟩
    rw [← sA X]
    have aY:=q.size
    refine We (retCT G G agg37 aj G (v:=str _) G ?_)
    refine ⟨Ac1,nc1,cc1,Ac2,nc2,cc2,eR (eT2 (e8 ?_ ?_ ?_ ?_ ?_ ?_) (eS ?_)),(oq (i.kd q I) ?_),(oq (j.kd q J) ?_),hdc_Library_Maps_c2,(fun b_ h_=>.inl (.inl h_)),(fun b_ h_=>.inl (.inr h_)),(E.new q oB)⟩ <;> (subst t u; unfold spec_l34One; rw [if_neg L,if_neg V,if_pos K] <;> rfl)
   ·refine Wk (Ws (Wr (Q (lG agg37 G (A.lo d) G)<|Qw (o:=0) (vs:=(cCn Ac1 nc1 cc1 Ac2 nc2 cc2 c)) agg37.2 G G G G H ler G ?_)))
    intro bB D aQ ae
    refine Q (r_as (v:=str ([63]:List UInt8)) G)<|Qn (We (retCT G G agg37 ae G (v:=str _) G ?_))
    refine ⟨Ac1,nc1,cc1,Ac2,nc2,cc2,eR (eT2 (e8 ?_ ?_ ?_ ?_ ?_ ?_) (eS ?_)),(oq (i.kd D I) ?_),(oq (j.kd D J) ?_),hdc_Library_Maps_c2,(fun b_ h_=>.inl (.inl h_)),(fun b_ h_=>.inl (.inr h_)),(E.new D)⟩ <;> (subst t u; unfold spec_l34One; rw [if_neg L,if_neg V,if_neg K] <;> rfl)
open Classical in
noncomputable def spec_l34Two (c:Console) (s:List UInt8) (n:Int) (v:Int):Console × List UInt8 :=
 if s=([98,117,121]:List UInt8) then (((spec_l34Make c (⟨1,n,0,v⟩:LibraryStep)).1),(spec_l34Make c (⟨1,n,0,v⟩:LibraryStep)).2) else if s=([108,101,110,100]:List UInt8) then (((spec_l34Make c (⟨2,n,v,0⟩:LibraryStep)).1),(spec_l34Make c (⟨2,n,v,0⟩:LibraryStep)).2) else if s=([109,101,110,100]:List UInt8) then (((spec_l34Make c (⟨4,n,0,v⟩:LibraryStep)).1),(spec_l34Make c (⟨4,n,0,v⟩:LibraryStep)).2) else if s=([100,114,111,112]:List UInt8) then (((spec_l34Make c (⟨6,n,0,v⟩:LibraryStep)).1),(spec_l34Make c (⟨6,n,0,v⟩:LibraryStep)).2) else if s=([119,101,97,114]:List UInt8) then (((spec_l34Make c (⟨7,n,0,v⟩:LibraryStep)).1),(spec_l34Make c (⟨7,n,0,v⟩:LibraryStep)).2) else (c,([63]:List UInt8))
theorem c_spec_l34Two (w:World) (c:Console) (y:SlO w Bc1 encLMap 3 102 Ac1 nc1 cc1 c.Library.Maps) (z:SlO w Bc2 encAway 2 129 Ac2 nc2 cc2 c.Library.Away) (s:List UInt8) (n:Int) (v:Int) (hdc_Library_Maps_c2:Dj Ac1 Ac2) (cr:(nc1:Int)≤8) (ct:(nc2:Int)≤8):Calls Tryz.prog 86 #[.agg (List.toArray (cCn Ac1 nc1 cc1 Ac2 nc2 cc2 c)),str s,i6 n,i6 v] w fun e w'=>∃ A1' n1' c1' A2' n2' c2',e=.returned (.tuple (List.toArray [.agg (List.toArray (cCn A1' n1' c1' A2' n2' c2' ((spec_l34Two c s n v).1))),str ((spec_l34Two c s n v).2)]))∧SlO w' Bc1 encLMap 3 102 A1' n1' c1' (((spec_l34Two c s n v).1).Library.Maps)∧SlO w' Bc2 encAway 2 129 A2' n2' c2' (((spec_l34Two c s n v).1).Library.Away)∧Dj A1' A2'∧(Og A1' Ac1 Ac2 w)∧(Og A2' Ac1 Ac2 w)∧Lo w w':=by
 refine cW 57 Tryz.func86 G G G ?_
 have bP:=y.rd.cap
 have bL:=y.rd.bd
 have bN:=y.rd.bound
 have bb:=y.len
 have bJ:=y.bd
 have bQ:=z.rd.cap
 have bM:=z.rd.bd
 have bO:=z.rd.bound
 have bc:=z.len
 have bK:=z.bd
 refine Ws (Wr (bx G ?_))
 intro g1 w2 cq ac cu J
 refine Qa (l:=zCn) tz37 G ?_
 intro b aj b7 i ce a
 have j:=((lr w).lo ac).lo i
 have d:=nE (g:=b) (y.lo ac)
 have f:=nE (g:=b) (z.lo ac)
 refine Q (r_as (v:=str ([]:List UInt8)) G)<|Qn (Ws (Ws ?_))
 have k:=(y.lo ac).lo i
 have m:=(z.lo ac).lo i
 refine Wr (Q (mS G)<|Qn (Wl (Ws (Wr (Q (r_eqs (s:=s) (r:=([98,117,121]:List UInt8)) G G)<|Q (aB G)<|Qn (Wd G (fun p=>?_) (fun p=>?_)))))))
 ·refine Ws (Wr (Q (lG agg37 G (J.lo i) G)<|Q (mI G)<|Q (mI G)<|Q (r_build (vs:=[(0,i6 1),(1,i6 n),(3,i6 v)]) G (bld106_0_1_3 _ _ _))<|Qc ent87 (c_spec_l34Make aj c k m (⟨1,n,0,v⟩:LibraryStep) hdc_Library_Maps_c2 oB oB) G ?_))
  rintro e cw ⟨aC,bD,be,aD,bE,bf,rfl,V,W,bn,ao,ap,ab⟩
  refine ⟨_,G,?_⟩
  have ch:=ab.size
  have bo:¬aC=some ⟨b,0,none⟩:=fun e'=>(ao b e').elim (fun h=>h.elim (fun h=>d h) (fun h=>f h)) (fun h=>by have:=a.lt; omega)
  have bp:¬aD=some ⟨b,0,none⟩:=fun e'=>(ap b e').elim (fun h=>h.elim (fun h=>d h) (fun h=>f h)) (fun h=>by have:=a.lt; omega)
  have bz:=V.len
  have b8:=V.rd.bound
  have bA:=W.len
  have b9:=W.rd.bound
  refine Q (xG G G)<|Q (xS G G)<|Qw (o:=0) (vs:=(cCn aC bD be aD bE bf ((spec_l34Make c (⟨1,n,0,v⟩:LibraryStep)).1))) agg37.2 G G G G (a.lo ab) ler G ?_
  intro cx ae cf bl
  refine Q (aS G)<|Qn (We (retCT G G agg37 bl G (v:=str _) G ?_))
  refine ⟨aC,bD,be,aD,bE,bf,eR (eT2 (e8 ?_ ?_ ?_ ?_ ?_ ?_) (eS ?_)),(oq (V.kd ae bo) ?_),(oq (W.kd ae bp) ?_),bn,(fun b_ h_=>(ao b_ h_).elim (fun h=>h.elim (fun h=>((show Og Ac1 Ac1 Ac2 w from (fun b_ h_=>.inl (.inl h_))) b_ h)) (fun h=>((show Og Ac2 Ac1 Ac2 w from (fun b_ h_=>.inl (.inr h_))) b_ h))) (fun h=>.inr oB)),(fun b_ h_=>(ap b_ h_).elim (fun h=>h.elim (fun h=>((show Og Ac1 Ac1 Ac2 w from (fun b_ h_=>.inl (.inl h_))) b_ h)) (fun h=>((show Og Ac2 Ac1 Ac2 w from (fun b_ h_=>.inl (.inr h_))) b_ h))) (fun h=>.inr oB)),((j.lo ab).new ae)⟩ <;> (subst bz bA; unfold spec_l34Two; rw [if_pos p] <;> rfl)
 ·refine Ws (Wr (Q (r_eqs (s:=s) (r:=([108,101,110,100]:List UInt8)) G G)<|Q (aB G)<|Qn (Wd G (fun I=>?_) (fun I=>?_))))
  ·refine Ws (Wr (Q (lG agg37 G (J.lo i) G)<|Q (mI G)<|Q (mI G)<|Q (r_build (vs:=[(0,i6 2),(1,i6 n),(2,i6 v)]) G (bld106_0_1_2 _ _ _))<|Qc ent87 (c_spec_l34Make aj c k m (⟨2,n,v,0⟩:LibraryStep) hdc_Library_Maps_c2 oB oB) G ?_))
   rintro e cy ⟨aE,bF,bg,aF,bG,bh,rfl,X,Y,bq,aq,ar,ag⟩
   refine ⟨_,G,?_⟩
   have ci:=ag.size
   have bs:¬aE=some ⟨b,0,none⟩:=fun e'=>(aq b e').elim (fun h=>h.elim (fun h=>d h) (fun h=>f h)) (fun h=>by have:=a.lt; omega)
   have bt:¬aF=some ⟨b,0,none⟩:=fun e'=>(ar b e').elim (fun h=>h.elim (fun h=>d h) (fun h=>f h)) (fun h=>by have:=a.lt; omega)
   have bB:=X.len
   have ca:=X.rd.bound
   have bC:=Y.len
   have cd:=Y.rd.bound
   refine Q (xG G G)<|Q (xS G G)<|Qw (o:=0) (vs:=(cCn aE bF bg aF bG bh ((spec_l34Make c (⟨2,n,v,0⟩:LibraryStep)).1))) agg37.2 G G G G (a.lo ag) ler G ?_
   intro cz ah cg bm
   refine Q (aS G)<|Qn (We (retCT G G agg37 bm G (v:=str _) G ?_))
   refine ⟨aE,bF,bg,aF,bG,bh,eR (eT2 (e8 ?_ ?_ ?_ ?_ ?_ ?_) (eS ?_)),(oq (X.kd ah bs) ?_),(oq (Y.kd ah bt) ?_),bq,(fun b_ h_=>(aq b_ h_).elim (fun h=>h.elim (fun h=>((show Og Ac1 Ac1 Ac2 w from (fun b_ h_=>.inl (.inl h_))) b_ h)) (fun h=>((show Og Ac2 Ac1 Ac2 w from (fun b_ h_=>.inl (.inr h_))) b_ h))) (fun h=>.inr oB)),(fun b_ h_=>(ar b_ h_).elim (fun h=>h.elim (fun h=>((show Og Ac1 Ac1 Ac2 w from (fun b_ h_=>.inl (.inl h_))) b_ h)) (fun h=>((show Og Ac2 Ac1 Ac2 w from (fun b_ h_=>.inl (.inr h_))) b_ h))) (fun h=>.inr oB)),((j.lo ag).new ah)⟩ <;> (subst bB bC; unfold spec_l34Two; rw [if_neg p,if_pos I] <;> rfl)
  ·refine Ws (Wr (Q (r_eqs (s:=s) (r:=([109,101,110,100]:List UInt8)) G G)<|Q (aB G)<|Qn (Wd G (fun P=>?_) (fun P=>?_))))
   ·refine Ws (Wr (Q (lG agg37 G (J.lo i) G)<|Q (mI G)<|Q (mI G)<|Q (r_build (vs:=[(0,i6 4),(1,i6 n),(3,i6 v)]) G (bld106_0_1_3 _ _ _))<|Qc ent87 (c_spec_l34Make aj c k m (⟨4,n,0,v⟩:LibraryStep) hdc_Library_Maps_c2 oB oB) G ?_))
    rintro e cA ⟨aG,bH,bi,aH,bI,bj,rfl,Z,aa,bu,au,aw,ai⟩
    refine ⟨_,G,?_⟩
    have cj:=ai.size
    have aO:¬aG=some ⟨b,0,none⟩:=fun e'=>(au b e').elim (fun h=>h.elim (fun h=>d h) (fun h=>f h)) (fun h=>by have:=a.lt; omega)
    have aQ:¬aH=some ⟨b,0,none⟩:=fun e'=>(aw b e').elim (fun h=>h.elim (fun h=>d h) (fun h=>f h)) (fun h=>by have:=a.lt; omega)
    have aY:=Z.len
    have bR:=Z.rd.bound
    have aZ:=aa.len
    have bS:=aa.rd.bound
    refine Q (xG G G)<|Q (xS G G)<|Qw (o:=0) (vs:=(cCn aG bH bi aH bI bj ((spec_l34Make c (⟨4,n,0,v⟩:LibraryStep)).1))) agg37.2 G G G G (a.lo ai) ler G ?_
    intro ck A bX aJ
    refine Q (aS G)<|Qn (We (retCT G G agg37 aJ G (v:=str _) G ?_))
    refine ⟨aG,bH,bi,aH,bI,bj,eR (eT2 (e8 ?_ ?_ ?_ ?_ ?_ ?_) (eS ?_)),(oq (Z.kd A aO) ?_),(oq (aa.kd A aQ) ?_),bu,(fun b_ h_=>(au b_ h_).elim (fun h=>h.elim (fun h=>((show Og Ac1 Ac1 Ac2 w from (fun b_ h_=>.inl (.inl h_))) b_ h)) (fun h=>((show Og Ac2 Ac1 Ac2 w from (fun b_ h_=>.inl (.inr h_))) b_ h))) (fun h=>.inr oB)),(fun b_ h_=>(aw b_ h_).elim (fun h=>h.elim (fun h=>((show Og Ac1 Ac1 Ac2 w from (fun b_ h_=>.inl (.inl h_))) b_ h)) (fun h=>((show Og Ac2 Ac1 Ac2 w from (fun b_ h_=>.inl (.inr h_))) b_ h))) (fun h=>.inr oB)),((j.lo ai).new A)⟩ <;> (subst aY aZ; unfold spec_l34Two; rw [if_neg p,if_neg I,if_pos P] <;> rfl)
   ·refine Ws (Wr (Q (r_eqs (s:=s) (r:=([100,114,111,112]:List UInt8)) G G)<|Q (aB G)<|Qn (Wd G (fun H=>?_) (fun H=>?_))))
    ·refine Ws (Wr (Q (lG agg37 G (J.lo i) G)<|Q (mI G)<|Q (mI G)<|Q (r_build (vs:=[(0,i6 6),(1,i6 n),(3,i6 v)]) G (bld106_0_1_3 _ _ _))<|Qc ent87 (c_spec_l34Make aj c k m (⟨6,n,0,v⟩:LibraryStep) hdc_Library_Maps_c2 oB oB) G ?_))
     rintro e cl ⟨K,ax,ak,L,ay,al,rfl,q,t,aR,R,S,B⟩
     refine ⟨_,G,?_⟩
     have b5:=B.size
     have aT:¬K=some ⟨b,0,none⟩:=fun e'=>(R b e').elim (fun h=>h.elim (fun h=>d h) (fun h=>f h)) (fun h=>by have:=a.lt; omega)
     have aU:¬L=some ⟨b,0,none⟩:=fun e'=>(S b e').elim (fun h=>h.elim (fun h=>d h) (fun h=>f h)) (fun h=>by have:=a.lt; omega)
     have a6:=q.len
     have bT:=q.rd.bound
     have a7:=t.len
     have bU:=t.rd.bound
     refine Q (xG G G)<|Q (xS G G)<|Qw (o:=0) (vs:=(cCn K ax ak L ay al ((spec_l34Make c (⟨6,n,0,v⟩:LibraryStep)).1))) agg37.2 G G G G (a.lo B) ler G ?_
     intro cm C bY aK
     refine Q (aS G)<|Qn (We (retCT G G agg37 aK G (v:=str _) G ?_))
     refine ⟨K,ax,ak,L,ay,al,eR (eT2 (e8 ?_ ?_ ?_ ?_ ?_ ?_) (eS ?_)),(oq (q.kd C aT) ?_),(oq (t.kd C aU) ?_),aR,(fun b_ h_=>(R b_ h_).elim (fun h=>h.elim (fun h=>((show Og Ac1 Ac1 Ac2 w from (fun b_ h_=>.inl (.inl h_))) b_ h)) (fun h=>((show Og Ac2 Ac1 Ac2 w from (fun b_ h_=>.inl (.inr h_))) b_ h))) (fun h=>.inr oB)),(fun b_ h_=>(S b_ h_).elim (fun h=>h.elim (fun h=>((show Og Ac1 Ac1 Ac2 w from (fun b_ h_=>.inl (.inl h_))) b_ h)) (fun h=>((show Og Ac2 Ac1 Ac2 w from (fun b_ h_=>.inl (.inr h_))) b_ h))) (fun h=>.inr oB)),((j.lo B).new C)⟩ <;> (subst a6 a7; unfold spec_l34Two; rw [if_neg p,if_neg I,if_neg P,if_pos H] <;> rfl)
    ·refine Ws (Wr (Q (r_eqs (s:=s) (r:=([119,101,97,114]:List UInt8)) G G)<|Q (aB G)<|Qn (Wd G (fun O=>?_) (fun O=>?_))))
     ·refine Ws (Wr (Q (lG agg37 G (J.lo i) G)<|Q (mI G)<|Q (mI G)<|Q (r_build (vs:=[(0,i6 7),(1,i6 n),(3,i6 v)]) G (bld106_0_1_3 _ _ _))<|Qc ent87 (c_spec_l34Make aj c k m (⟨7,n,0,v⟩:LibraryStep) hdc_Library_Maps_c2 oB oB) G ?_))
      rintro e cn ⟨M,az,am,N,aA,an,rfl,u,x,aV,T,U,D⟩
      refine ⟨_,G,?_⟩
      have b6:=D.size
      have aW:¬M=some ⟨b,0,none⟩:=fun e'=>(T b e').elim (fun h=>h.elim (fun h=>d h) (fun h=>f h)) (fun h=>by have:=a.lt; omega)
      have aX:¬N=some ⟨b,0,none⟩:=fun e'=>(U b e').elim (fun h=>h.elim (fun h=>d h) (fun h=>f h)) (fun h=>by have:=a.lt; omega)
      have a8:=u.len
      have bV:=u.rd.bound
      have ba:=x.len
      have bW:=x.rd.bound
      refine Q (xG G G)<|Q (xS G G)<|Qw (o:=0) (vs:=(cCn M az am N aA an ((spec_l34Make c (⟨7,n,0,v⟩:LibraryStep)).1))) agg37.2 G G G G (a.lo D) ler G ?_
      intro co E bZ aM
      refine Q (aS G)<|Qn (We (retCT G G agg37 aM G (v:=str _) G ?_))
      refine ⟨M,az,am,N,aA,an,eR (eT2 (e8 ?_ ?_ ?_ ?_ ?_ ?_) (eS ?_)),(oq (u.kd E aW) ?_),(oq (x.kd E aX) ?_),aV,(fun b_ h_=>(T b_ h_).elim (fun h=>h.elim (fun h=>((show Og Ac1 Ac1 Ac2 w from (fun b_ h_=>.inl (.inl h_))) b_ h)) (fun h=>((show Og Ac2 Ac1 Ac2 w from (fun b_ h_=>.inl (.inr h_))) b_ h))) (fun h=>.inr oB)),(fun b_ h_=>(U b_ h_).elim (fun h=>h.elim (fun h=>((show Og Ac1 Ac1 Ac2 w from (fun b_ h_=>.inl (.inl h_))) b_ h)) (fun h=>((show Og Ac2 Ac1 Ac2 w from (fun b_ h_=>.inl (.inr h_))) b_ h))) (fun h=>.inr oB)),((j.lo D).new E)⟩ <;> (subst a8 ba; unfold spec_l34Two; rw [if_neg p,if_neg I,if_neg P,if_neg H,if_pos O] <;> rfl)
     ·refine Wk (Ws (Wr (Q (lG agg37 G (J.lo i) G)<|Qw (o:=0) (vs:=(cCn Ac1 nc1 cc1 Ac2 nc2 cc2 c)) agg37.2 G G G G a ler G ?_)))
      intro cp F b4 aN
      refine Q (r_as (v:=str ([63]:List UInt8)) G)<|Qn (We (retCT G G agg37 aN G (v:=str _) G ?_))
      refine ⟨Ac1,nc1,cc1,Ac2,nc2,cc2,eR (eT2 (e8 ?_ ?_ ?_ ?_ ?_ ?_) (eS ?_)),(oq (k.kd F d) ?_),(oq (m.kd F f) ?_),hdc_Library_Maps_c2,(fun b_ h_=>.inl (.inl h_)),(fun b_ h_=>.inl (.inr h_)),(j.new F)⟩ <;> (subst bb bc; unfold spec_l34Two; rw [if_neg p,if_neg I,if_neg P,if_neg H,if_neg O] <;> rfl)
end Go.Proofs.YtndcchndcghmoaaGreatDoor
namespace Go.Proofs.YtndcchndcghmoaaGreatDoor
open Go Go.RowKit Fw
noncomputable def runS (c:Console) (s:List UInt8):Console × List UInt8 :=
  if AllNum ((splitB 32 s).drop 1) then
    if (numsW ((splitB 32 s).drop 1)).length=0 then (c,spec_l34Word c.Library s)
    else if (numsW ((splitB 32 s).drop 1)).length=1 then spec_l34One c (gt (splitB 32 s) 0) (gt (numsW ((splitB 32 s).drop 1)) 0)
    else if (numsW ((splitB 32 s).drop 1)).length=2 then spec_l34Two c (gt (splitB 32 s) 0) (gt (numsW ((splitB 32 s).drop 1)) 0) (gt (numsW ((splitB 32 s).drop 1)) 1)
    else if (numsW ((splitB 32 s).drop 1)).length=3 then
      if gt (splitB 32 s) 0=[98,97,99,107] then spec_l34Make c ⟨3,gt (numsW ((splitB 32 s).drop 1)) 0,gt (numsW ((splitB 32 s).drop 1)) 1,gt (numsW ((splitB 32 s).drop 1)) 2⟩
      else if gt (splitB 32 s) 0=[104,97,110,100] then spec_l34Make c ⟨5,gt (numsW ((splitB 32 s).drop 1)) 0,gt (numsW ((splitB 32 s).drop 1)) 1,gt (numsW ((splitB 32 s).drop 1)) 2⟩
      else (c,[63])
    else (c,[63])
  else (c,[63])
noncomputable def repN (x:Library) (s:List UInt8):Library × List UInt8 × Bool :=
  if AllNum ((splitB 32 s).drop 1) then
    if (impl_stepFor (gt (splitB 32 s) 0) (numsW ((splitB 32 s).drop 1))).2=true then
      if (impl_Library_stepped x (impl_stepFor (gt (splitB 32 s) 0) (numsW ((splitB 32 s).drop 1))).1).2=true then
        ((impl_Library_stepped x (impl_stepFor (gt (splitB 32 s) 0) (numsW ((splitB 32 s).drop 1))).1).1,mapT (impl_Library_stepped x (impl_stepFor (gt (splitB 32 s) 0) (numsW ((splitB 32 s).drop 1))).1).1 (impl_stepFor (gt (splitB 32 s) 0) (numsW ((splitB 32 s).drop 1))).1.Id)
      else (x,[],false)
    else (x,impl_tell x (gt (splitB 32 s) 0) (numsW ((splitB 32 s).drop 1)))
  else (x,[],false)
noncomputable def ansN (x:Library) (s:List UInt8):List UInt8:=if (repN x s).2.2=true then (if 200<(repN x s).2.1.length then [108,111,110,103] else (repN x s).2.1) else [63]
noncomputable def libN (x:Library) (s:List UInt8):Library:=if (repN x s).2.2=true then (repN x s).1 else x
noncomputable def execN (c:Console) (s:List UInt8):Console × List UInt8 :=
  if ¬ConOK c then (c,[110,111])
  else if ¬RecOK ⟨s,[]⟩ then (c,[98,97,100])
  else if c.Log.Count=60 then (c,[102,117,108,108])
  else (⟨libN c.Library s,(appN c.Log ⟨s,ansN c.Library s⟩).1⟩,ansN c.Library s)
section
variable {x : Library} {s y : List UInt8} {k : Nat}
theorem notD {D:List (List UInt8)} (hx:D[k]?=some y) (hb:(!(readN y).2)=true):¬AllNum D:=fun h=>by
  rw [h y (List.mem_of_getElem? hx)] at hb; cases hb
theorem rep_bad (hx:((splitB 32 s).drop 1)[k]?=some y) (hb:(!(readN y).2)=true):repN x s=(x,[],false):=if_neg (notD hx hb)
theorem rep_no (hk:((splitB 32 s).drop 1).length≤k) (hA:AllNum (((splitB 32 s).drop 1).take k)) (h:(impl_stepFor (gt (splitB 32 s) 0) (numsW (((splitB 32 s).drop 1).take k))).2=true)
    (h2:(!(impl_Library_stepped x (impl_stepFor (gt (splitB 32 s) 0) (numsW (((splitB 32 s).drop 1).take k))).1).2)=true):repN x s=(x,[],false):=by
  rw [List.take_of_length_le hk] at *
  unfold repN; rw [if_pos hA,if_pos h,if_neg (by simpa using h2)]
theorem rep_yes (hk:((splitB 32 s).drop 1).length≤k) (hA:AllNum (((splitB 32 s).drop 1).take k)) (h:(impl_stepFor (gt (splitB 32 s) 0) (numsW (((splitB 32 s).drop 1).take k))).2=true)
    (h2:(!(impl_Library_stepped x (impl_stepFor (gt (splitB 32 s) 0) (numsW (((splitB 32 s).drop 1).take k))).1).2)=false):repN x s=((impl_Library_stepped x (impl_stepFor (gt (splitB 32 s) 0) (numsW (((splitB 32 s).drop 1).take k))).1).1,mapT (impl_Library_stepped x (impl_stepFor (gt (splitB 32 s) 0) (numsW (((splitB 32 s).drop 1).take k))).1).1 (impl_stepFor (gt (splitB 32 s) 0) (numsW (((splitB 32 s).drop 1).take k))).1.Id):=by
  rw [List.take_of_length_le hk] at *
  unfold repN; rw [if_pos hA,if_pos h,if_pos (by simpa using h2)]
theorem rep_tell (hk:((splitB 32 s).drop 1).length≤k) (hA:AllNum (((splitB 32 s).drop 1).take k)) (h:(impl_stepFor (gt (splitB 32 s) 0) (numsW (((splitB 32 s).drop 1).take k))).2=false) :
    repN x s=(x,impl_tell x (gt (splitB 32 s) 0) (numsW (((splitB 32 s).drop 1).take k))):=by
  rw [List.take_of_length_le hk] at *
  unfold repN; rw [if_pos hA,if_neg (by rw [h]; simp)]
end
section
variable {c : Console} {s y : List UInt8} {k : Nat}
theorem splitB_max (c:UInt8):∀ s:List UInt8,(splitB c s).length≤s.length+1
  | []=>by simp [splitB]
  | b :: r=>by
    have h:=splitB_max c r
    unfold splitB
    split
    · simp; omega
    · simp; omega
theorem nm_one (s:List UInt8):[]=nmW s 1:=by
  unfold nmW; cases splitB 32 s <;> rfl
theorem nm_all (hk:(splitB 32 s).length≤k):nmW s k=numsW ((splitB 32 s).drop 1):=by unfold nmW; rw [List.take_of_length_le hk]
theorem not_all (h1:1≤k) (hx:(splitB 32 s)[k]?=some y) (hb:(readN y).2=false):¬AllNum ((splitB 32 s).drop 1):=fun h=>by
  have:y∈(splitB 32 s).drop 1:=by
    refine List.mem_of_getElem? (i:=k-1) ?_
    rw [List.getElem?_drop,show 1+(k-1)=k by omega]; exact hx
  rw [h y this] at hb; cases hb
theorem run_bad (h1:1≤k) (hx:(splitB 32 s)[k]?=some y) (hb:(!(readN y).2)=true):runS c s=(c,[63]):=if_neg (not_all h1 hx (by simpa using hb))
theorem all_of (hk:(splitB 32 s).length≤k) (hA:AllNum (((splitB 32 s).take k).drop 1)):AllNum ((splitB 32 s).drop 1):=by rwa [List.take_of_length_le hk] at hA
theorem run_0 (hk:(splitB 32 s).length≤k) (hA:AllNum (((splitB 32 s).take k).drop 1)) (hn:(nmW s k).length=0):runS c s=(c,spec_l34Word c.Library s):=by
  unfold runS; rw [if_pos (all_of hk hA),← nm_all hk,if_pos hn]
theorem run_1 (hk:(splitB 32 s).length≤k) (hA:AllNum (((splitB 32 s).take k).drop 1)) (hn:(nmW s k).length=1):runS c s=spec_l34One c (gt (splitB 32 s) 0) (gt (nmW s k) 0):=by
  unfold runS; rw [if_pos (all_of hk hA),← nm_all hk,if_neg oB,if_pos hn]
theorem run_2 (hk:(splitB 32 s).length≤k) (hA:AllNum (((splitB 32 s).take k).drop 1)) (hn:(nmW s k).length=2):runS c s=spec_l34Two c (gt (splitB 32 s) 0) (gt (nmW s k) 0) (gt (nmW s k) 1):=by
  unfold runS; rw [if_pos (all_of hk hA),← nm_all hk,if_neg oB,if_neg oB,if_pos hn]
theorem run_3 (hk:(splitB 32 s).length≤k) (hA:AllNum (((splitB 32 s).take k).drop 1)) (hn:(nmW s k).length=3) (hw:gt (splitB 32 s) 0=[98,97,99,107]):runS c s=spec_l34Make c ⟨3,gt (nmW s k) 0,gt (nmW s k) 1,gt (nmW s k) 2⟩:=by
  unfold runS; rw [if_pos (all_of hk hA),← nm_all hk,if_neg oB,if_neg oB,if_neg oB,if_pos hn,if_pos hw]
theorem run_3h (hk:(splitB 32 s).length≤k) (hA:AllNum (((splitB 32 s).take k).drop 1)) (hn:(nmW s k).length=3) (h1:¬gt (splitB 32 s) 0=[98,97,99,107]) (hw:gt (splitB 32 s) 0=[104,97,110,100]):runS c s=spec_l34Make c ⟨5,gt (nmW s k) 0,gt (nmW s k) 1,gt (nmW s k) 2⟩:=by
  unfold runS; rw [if_pos (all_of hk hA),← nm_all hk,if_neg oB,if_neg oB,if_neg oB,if_pos hn,if_neg h1,if_pos hw]
theorem run_3n (hk:(splitB 32 s).length≤k) (hA:AllNum (((splitB 32 s).take k).drop 1)) (hn:(nmW s k).length=3) (h1:¬gt (splitB 32 s) 0=[98,97,99,107]) (hw:¬gt (splitB 32 s) 0=[104,97,110,100]):runS c s=(c,[63]):=by
  unfold runS; rw [if_pos (all_of hk hA),← nm_all hk,if_neg oB,if_neg oB,if_neg oB,if_pos hn,if_neg h1,if_neg hw]
theorem run_n (hk:(splitB 32 s).length≤k) (hA:AllNum (((splitB 32 s).take k).drop 1)) (hn:(nmW s k).length≠0∧(nmW s k).length≠1∧(nmW s k).length≠2∧(nmW s k).length≠3):runS c s=(c,[63]):=by
  unfold runS; rw [if_pos (all_of hk hA),← nm_all hk,if_neg oB,if_neg oB,if_neg oB,if_neg oB]
end
end Go.Proofs.YtndcchndcghmoaaGreatDoor
namespace Go.Proofs.YtndcchndcghmoaaGreatDoor
open Go Go.RowKit Fw
section
variable {x : Library} {c : Console} {s w : List UInt8} {t : LibraryStep} {n : List Int} {m : LMap} {M : List LMap} {id : Int}
theorem set_has (h:0≤idxF (hasId id) M) (hm:m.Id=(gt M (idxF (hasId id) M).toNat).Id):0≤idxF (hasId id) (M.set (idxF (hasId id) M).toNat m):=by
  have hlt:=(idx_lt (p:=hasId id) (L:=M)).1
  have hi:(gt M (idxF (hasId id) M).toNat).Id=id:=map_at_id (x:=⟨M,[],0,0,0⟩) h
  exact ex_idx.1 ⟨m,List.mem_iff_getElem?.2 ⟨(idxF (hasId id) M).toNat,by rw [List.getElem?_set_self oB]⟩,hm.trans hi⟩
theorem make_has (hx:LibOK x) (hs:spec_l32Step x t=true):0≤idxF (hasId t.Id) (spec_l32Make x t).1.Maps:=by
  have hr:=stepL_rng hs
  unfold spec_l32Make
  by_cases h1:t.Kind=1
  · rw [if_pos h1]
    by_cases h:0≤idxF (hasId t.Id) x.Maps
    · rw [bought_yes h]; exact set_has h rfl
    · rw [bought_no h]; exact ex_idx.1 ⟨⟨t.Id,t.Value,0⟩,by simp,rfl⟩
  have hi:=hr.2.1 h1
  rw [if_neg h1]
  split
  · exact set_has hi rfl
  split
  · exact set_has hi rfl
  split
  · exact set_has hi rfl
  show 0≤idxF (hasId t.Id) (spec_l32Readers x t (idxF (hasId t.Id) x.Maps)).1.Maps
  unfold spec_l32Readers
  split
  · exact set_has hi rfl
  split
  · exact hi
  split
  · exact hi
  · exact set_has hi rfl
theorem stepped_has (hx:LibOK x) (hv:t.Value≤9223372036854775807) (h:(impl_Library_stepped x t).2=true):0≤idxF (hasId t.Id) (impl_Library_stepped x t).1.Maps:=by
  by_cases hs:spec_l32Step x t=true
  · rw [stepped_yesL hx hs hv] at h ⊢
    split at h
    · rw [if_pos ‹_›]; exact make_has hx hs
    · cases h
  · rw [stepped_noL hx hs] at h; cases h
theorem text_ok (hx:LibOK x) (hv:t.Value≤9223372036854775807) (h:(impl_Library_stepped x t).2=true):(mapT (impl_Library_stepped x t).1 t.Id).2=true:=by
  rw [mapT_yes ⟨stepped_okL h,stepped_has hx hv h⟩]
theorem make_rep (hx:LibOK c.Library) (hv:t.Value≤9223372036854775807):spec_l34Make c t=if (impl_Library_stepped c.Library t).2=true then (⟨(impl_Library_stepped c.Library t).1,c.Log⟩,(mapT (impl_Library_stepped c.Library t).1 t.Id).1) else (c,[63]):=by
  unfold spec_l34Make
  rw [step_eqL hv]
  unfold impl_StepLibrary
  rw [if_pos hx]
  by_cases h:(impl_Library_stepped c.Library t).2=true
  · rw [if_pos h,if_neg (by simpa using h)]
    unfold spec_l34Map
    rw [if_neg (by rw [text_ok hx hv h]; simp)]
  · rw [if_neg h,if_pos (by simpa using h)]
def ofR (x:Library) (r:Library × List UInt8 × Bool):Library × List UInt8:=if r.2.2=true then (r.1,r.2.1) else (x,[63])
noncomputable def repW (x:Library) (w:List UInt8) (n:List Int):Library × List UInt8 × Bool :=
  if (impl_stepFor w n).2=true then
    if (impl_Library_stepped x (impl_stepFor w n).1).2=true then ((impl_Library_stepped x (impl_stepFor w n).1).1,mapT (impl_Library_stepped x (impl_stepFor w n).1).1 (impl_stepFor w n).1.Id) else (x,[],false)
  else (x,impl_tell x w n)
theorem repN_all (hA:AllNum ((splitB 32 s).drop 1)):repN x s=repW x (gt (splitB 32 s) 0) (numsW ((splitB 32 s).drop 1)):=if_pos hA
theorem repW_step (hx:LibOK c.Library) (h:impl_stepFor w n=(t,true)) (hv:t.Value≤9223372036854775807):spec_l34Make c t=(⟨(ofR c.Library (repW c.Library w n)).1,c.Log⟩,(ofR c.Library (repW c.Library w n)).2):=by
  rw [make_rep hx hv]
  unfold repW ofR
  rw [h]
  simp only [if_true]
  by_cases hs:(impl_Library_stepped c.Library t).2=true
  · simp only [if_pos hs,text_ok hx hv hs,if_true]
  · simp only [if_neg hs]; rfl
theorem repW_tell (h:(impl_stepFor w n).2=false):repW x w n=(x,impl_tell x w n):=if_neg (by rw [h]; simp)
theorem ofR_tell (h:(impl_stepFor w n).2=false):ofR x (repW x w n)=(x,if (impl_tell x w n).2=true then (impl_tell x w n).1 else [63]):=by
  rw [repW_tell h]; unfold ofR; split <;> simp_all
theorem for_no (h:n.length≠2∧n.length≠3):(impl_stepFor w n).2=false:=by
  have h2:¬(n.length:Int)=2:=by omega
  have h3:¬(n.length:Int)=3:=by omega
  unfold impl_stepFor
  simp [h2,h3]
theorem tell_no (h:2≤n.length):impl_tell x w n=([],false):=by
  have h1:¬(n.length:Int)=1:=by omega
  have h0:(0:Int)<n.length:=by omega
  unfold impl_tell
  simp only [h1,and_false,if_false,if_pos h0]
theorem word_rep (hx:LibOK x) (h:n.length=0):spec_l34Word x w=(ofR x (repW x w n)).2:=by
  rw [ofR_tell (for_no oB)]
  have h1:¬(n.length:Int)=1:=by omega
  have h0:¬(0:Int)<n.length:=by omega
  unfold spec_l34Word impl_tell spec_l34Number
  simp only [h1,h0,and_false,if_false,if_pos hx]
  by_cases e1:w=[109,97,121]
  · subst e1; simp [hx]
  by_cases e2:w=[116,104,101,114,101]
  · subst e2; simp [hx]
  by_cases e3:w=[116,111,114,110]
  · subst e3; simp [hx]
  by_cases e4:w=[98,111,117,103,104,116]
  · subst e4; simp
  by_cases e5:w=[109,101,110,100,101,100]
  · subst e5; simp
  simp [e1,e2,e3,e4,e5]
theorem one_rep (h:n.length=1):spec_l34One c w (gt n 0)=(c,(ofR c.Library (repW c.Library w n)).2):=by
  rw [ofR_tell (for_no oB)]
  have h1:(n.length:Int)=1:=by omega
  have h0:(0:Int)<n.length:=by omega
  unfold spec_l34One impl_tell spec_l34Map
  simp only [h1,h0,and_true,if_true]
  by_cases e1:w=[97,116]
  · subst e1; simp
  by_cases e2:w=[114,101,97,100,101,114,115]
  · subst e2; simp
  by_cases e3:w=[116,101,120,116]
  · subst e3; cases hb:(mapT c.Library (gt n 0)).2 <;> simp [hb]
  simp [e1,e2,e3]
theorem num_rng {W:List (List UInt8)} (k:Nat):gt (numsW W) k≤999999:=by
  unfold gt numsW
  rw [List.getD_eq_getElem?_getD,List.getElem?_map]
  cases W[k]? with
  | none=>simp
  | some y=>exact (readN_rng y).2
theorem ofR_no (h:(impl_stepFor w n).2=false) (h2:2≤n.length):ofR x (repW x w n)=(x,[63]):=by
  rw [ofR_tell h,tell_no h2]; rfl
theorem two_rep (hx:LibOK c.Library) (h:n.length=2) (h0:gt n 0≤999999) (h1:gt n 1≤999999):spec_l34Two c w (gt n 0) (gt n 1)=(⟨(ofR c.Library (repW c.Library w n)).1,c.Log⟩,(ofR c.Library (repW c.Library w n)).2):=by
  have h2:(n.length:Int)=2:=by omega
  unfold spec_l34Two
  by_cases e1:w=[98,117,121]
  · rw [if_pos e1]; exact repW_step hx (by subst e1; unfold impl_stepFor; simp [h2]) oZ
  by_cases e2:w=[108,101,110,100]
  · rw [if_neg e1,if_pos e2]; exact repW_step hx (by subst e2; unfold impl_stepFor; simp [h2]) oZ
  by_cases e3:w=[109,101,110,100]
  · rw [if_neg e1,if_neg e2,if_pos e3]; exact repW_step hx (by subst e3; unfold impl_stepFor; simp [h2]) oZ
  by_cases e4:w=[100,114,111,112]
  · rw [if_neg e1,if_neg e2,if_neg e3,if_pos e4]; exact repW_step hx (by subst e4; unfold impl_stepFor; simp [h2]) oZ
  by_cases e5:w=[119,101,97,114]
  · rw [if_neg e1,if_neg e2,if_neg e3,if_neg e4,if_pos e5]; exact repW_step hx (by subst e5; unfold impl_stepFor; simp [h2]) oZ
  rw [if_neg e1,if_neg e2,if_neg e3,if_neg e4,if_neg e5,ofR_no (by unfold impl_stepFor; simp [h2,e1,e2,e3,e4,e5]) oB]
theorem three_rep (hx:LibOK c.Library) (h:n.length=3) (h0:gt n 2≤999999):(if w=[98,97,99,107] then spec_l34Make c ⟨3,gt n 0,gt n 1,gt n 2⟩ else if w=[104,97,110,100] then spec_l34Make c ⟨5,gt n 0,gt n 1,gt n 2⟩ else (c,[63]))
    = (⟨(ofR c.Library (repW c.Library w n)).1,c.Log⟩,(ofR c.Library (repW c.Library w n)).2):=by
  have h2:(n.length:Int)=3:=by omega
  by_cases e1:w=[98,97,99,107]
  · rw [if_pos e1]; exact repW_step hx (by subst e1; unfold impl_stepFor; simp [h2]) oZ
  by_cases e2:w=[104,97,110,100]
  · rw [if_neg e1,if_pos e2]; exact repW_step hx (by subst e2; unfold impl_stepFor; simp [h2]) oZ
  rw [if_neg e1,if_neg e2,ofR_no (by unfold impl_stepFor; simp [h2,e1,e2]) oB]
theorem one_word (h:(splitB 32 s).length=1):gt (splitB 32 s) 0=s:=by
  have h2:=splitB_two 32 s
  rw [splitB_none (fun hm=>by have:=h2.2 hm; omega)]; rfl
theorem run_lib (hx:LibOK c.Library):runS c s=(⟨(ofR c.Library (repN c.Library s)).1,c.Log⟩,(ofR c.Library (repN c.Library s)).2):=by
  unfold runS
  by_cases hA:AllNum ((splitB 32 s).drop 1)
  · rw [if_pos hA,repN_all hA]
    have hl:(numsW ((splitB 32 s).drop 1)).length+1=(splitB 32 s).length:=by
      have:=splitB_len 32 s; unfold numsW; rw [List.length_map,List.length_drop]; omega
    have hr:=fun k=>num_rng (W:=(splitB 32 s).drop 1) k
    have ht:∀ {w:List UInt8} {n:List Int},(impl_stepFor w n).2=false→(ofR c.Library (repW c.Library w n)).1=c.Library:=fun h=>by rw [ofR_tell h]
    by_cases h0:(numsW ((splitB 32 s).drop 1)).length=0
    · rw [if_pos h0,one_word oB,word_rep hx h0,ht (for_no oB)]
    rw [if_neg h0]
    by_cases h1:(numsW ((splitB 32 s).drop 1)).length=1
    · rw [if_pos h1,one_rep h1,ht (for_no oB)]
    rw [if_neg h1]
    by_cases h2:(numsW ((splitB 32 s).drop 1)).length=2
    · rw [if_pos h2]; exact two_rep hx h2 (hr 0) (hr 1)
    rw [if_neg h2]
    by_cases h3:(numsW ((splitB 32 s).drop 1)).length=3
    · rw [if_pos h3]; exact three_rep hx h3 (hr 2)
    rw [if_neg h3,ofR_no (for_no oB) oB]
  · rw [if_neg hA]; unfold repN ofR; rw [if_neg hA]; rfl
theorem rec_rngS (h:RecOK ⟨s,[]⟩):1≤(s.length:Int)∧(s.length:Int)≤160:=(rec_rng h).1
theorem lib_of:(ofR x (repN x s)).1=libN x s:=by unfold ofR libN; split <;> rfl
theorem rep_len (hx:LibOK x):(repN x s).1.Maps.length≤8∧(repN x s).1.Away.length≤8:=by
  have h:=lib_rng hx
  unfold repN
  split
  · split
    · split
      · exact stepped_lenL _ _
      · exact ⟨h.1,h.2.1⟩
    · exact ⟨h.1,h.2.1⟩
  · exact ⟨h.1,h.2.1⟩
theorem lib_len8 (hx:LibOK x):(libN x s).Maps.length≤8∧(libN x s).Away.length≤8:=by
  unfold libN; split
  · exact rep_len hx
  · have h:=lib_rng hx; exact ⟨h.1,h.2.1⟩
theorem run_len (hx:LibOK c.Library):(runS c s).1.Library.Maps.length≤8∧(runS c s).1.Library.Away.length≤8:=by
  rw [run_lib hx,lib_of]; exact lib_len8 hx
theorem exec_no (h:¬ConOK c):execN c s=(c,[110,111]):=if_pos h
theorem exec_bad (h:ConOK c) (h2:¬RecOK ⟨s,[]⟩):execN c s=(c,[98,97,100]):=by unfold execN; rw [if_neg (fun q=>q h),if_pos h2]
theorem exec_full (h:ConOK c) (h2:RecOK ⟨s,[]⟩) (h3:c.Log.Count=60):execN c s=(c,[102,117,108,108]):=by unfold execN; rw [if_neg (fun q=>q h),if_neg (fun q=>q h2),if_pos h3]
theorem exec_yes (h:ConOK c) (h2:RecOK ⟨s,[]⟩) (h3:¬c.Log.Count=60):execN c s=(⟨libN c.Library s,(appN c.Log ⟨s,ansN c.Library s⟩).1⟩,ansN c.Library s):=by unfold execN; rw [if_neg (fun q=>q h),if_neg (fun q=>q h2),if_neg h3]
theorem exec_q (h:ConOK c) (h2:RecOK ⟨s,[]⟩) (h3:¬c.Log.Count=60) (hq:(!(repN c.Library s).2.2)=true):execN c s=(⟨c.Library,(appN c.Log ⟨s,[63]⟩).1⟩,[63]):=by
  have hn:¬(repN c.Library s).2.2=true:=by simpa using hq
  rw [exec_yes h h2 h3]; unfold libN ansN; rw [if_neg hn,if_neg hn]
theorem exec_l (h:ConOK c) (h2:RecOK ⟨s,[]⟩) (h3:¬c.Log.Count=60) (hq:(!(repN c.Library s).2.2)=false) (hl:200<(repN c.Library s).2.1.length):execN c s=(⟨(repN c.Library s).1,(appN c.Log ⟨s,[108,111,110,103]⟩).1⟩,[108,111,110,103]):=by
  have hn:(repN c.Library s).2.2=true:=by simpa using hq
  rw [exec_yes h h2 h3]; unfold libN ansN; rw [if_pos hn,if_pos hn,if_pos hl]
theorem exec_y (h:ConOK c) (h2:RecOK ⟨s,[]⟩) (h3:¬c.Log.Count=60) (hq:(!(repN c.Library s).2.2)=false) (hl:¬200<(repN c.Library s).2.1.length):execN c s=(⟨(repN c.Library s).1,(appN c.Log ⟨s,(repN c.Library s).2.1⟩).1⟩,(repN c.Library s).2.1):=by
  have hn:(repN c.Library s).2.2=true:=by simpa using hq
  rw [exec_yes h h2 h3]; unfold libN ansN; rw [if_pos hn,if_pos hn,if_neg hl]
theorem ans_run (h:ConOK c):(if 200<(runS c s).2.length then [108,111,110,103] else (runS c s).2)=ansN c.Library s:=by
  rw [run_lib h.1]; unfold ofR ansN
  split <;> simp_all
theorem exec_Sl (h:ConOK c) (h2:RecOK ⟨s,[]⟩) (h3:¬c.Log.Count=60) (hl:200<(runS c s).2.length):execN c s=(⟨(runS c s).1.Library,(appN c.Log ⟨s,[108,111,110,103]⟩).1⟩,[108,111,110,103]):=by
  have e:=ans_run (s:=s) h
  rw [if_pos hl] at e
  rw [exec_yes h h2 h3,← e,run_lib h.1,lib_of]
theorem exec_Sy (h:ConOK c) (h2:RecOK ⟨s,[]⟩) (h3:¬c.Log.Count=60) (hl:¬200<(runS c s).2.length):execN c s=(⟨(runS c s).1.Library,(appN c.Log ⟨s,(runS c s).2⟩).1⟩,(runS c s).2):=by
  have e:=ans_run (s:=s) h
  rw [if_neg hl] at e
  rw [exec_yes h h2 h3,← e]
  congr 2
  rw [run_lib h.1,lib_of]
end
end Go.Proofs.YtndcchndcghmoaaGreatDoor
namespace Go.Proofs.YtndcchndcghmoaaGreatDoor
open Go Go.RowKit Fw
section
variable {c : Console} {s : List UInt8}
theorem exec_lens (hM:c.Library.Maps.length≤1048576) (hA:c.Library.Away.length≤1048576):(execN c s).1.Library.Maps.length≤1048576∧(execN c s).1.Library.Away.length≤1048576:=by
  unfold execN
  split
  · exact ⟨hM,hA⟩
  split
  · exact ⟨hM,hA⟩
  split
  · exact ⟨hM,hA⟩
  have h:ConOK c:=Classical.not_not.1 ‹_›
  have:=lib_len8 (s:=s) h.1
  dsimp only; omega
end
end Go.Proofs.YtndcchndcghmoaaGreatDoor
namespace Go.Proofs.YtndcchndcghmoaaGreatDoor
open Go Go.RowKit Fw
section
variable {m k j : Nat} {s t b a P : List UInt8} {R : List LogRecord} {c : UInt8} {l : Log} {e : LogRecord} {n : Int}
theorem opF_none (h:(10:UInt8) ∉ s):opF (m+1) k s=([],0):=by
  unfold opF; rw [if_neg (rec_none h)]
theorem opF_nil:opF m k []=([],0):=by cases m with
  | zero=>rfl
  | succ m=>exact opF_none oR
theorem opF_cons (hb:(10:UInt8) ∉ b):opF (m+1) k (b++10 :: a)=if (impl_decode (k:Int) b).2=true then ((impl_decode (k:Int) b).1 :: (opF m (k+1) a).1,b.length+1+(opF m (k+1) a).2) else ([],0):=by
  obtain ⟨e1,e2⟩:=befB_app (r:=a) hb
  conv=>lhs; unfold opF
  by_cases h:(impl_decode (k:Int) b).2=true
  · rw [if_pos h,if_pos (show Rec1 k (b++10 :: a) from ⟨by simp,by rw [e1]; exact h⟩)]
    unfold rec1
    rw [e1,e2]
  · rw [if_neg h,if_neg (fun hr:Rec1 k (b++10 :: a)=>h (by have:=hr.2; rwa [e1] at this))]
theorem cut10 (h:(10:UInt8)∈s):∃ b a,(10:UInt8) ∉ b∧s=b++10 :: a:=⟨befB s 10,aftB s 10,befB_not s,befB_join h⟩
theorem opF_app:∀ (m k:Nat) (s t:List UInt8),(opF m k s).2=s.length→opF m k (s++t)=((opF m k s).1++(opF (m-(opF m k s).1.length) (k+(opF m k s).1.length) t).1,s.length+(opF (m-(opF m k s).1.length) (k+(opF m k s).1.length) t).2)
  | 0,k,s,t,h=>by
    have:s=[]:=List.eq_nil_of_length_eq_zero (by rw [← h]; rfl)
    subst this; rfl
  | m+1,k,s,t,h=>by
    by_cases h10:(10:UInt8)∈s
    · obtain ⟨b,a,hb,rfl⟩:=cut10 h10
      rw [List.append_assoc,List.cons_append,opF_cons hb,opF_cons hb] at *
      by_cases hd:(impl_decode (k:Int) b).2=true
      · rw [if_pos hd] at *
        simp only [List.length_append,List.length_cons] at h
        have ih:=opF_app m (k+1) a t oB
        rw [if_pos hd,ih]
        simp only [List.length_cons,List.length_append,List.cons_append]
        rw [show m+1-((opF m (k+1) a).1.length+1)=m-(opF m (k+1) a).1.length by omega,show k+((opF m (k+1) a).1.length+1)=k+1+(opF m (k+1) a).1.length by omega]
        congr 1; omega
      · rw [if_neg hd] at h; simp at h
    · rw [opF_none h10] at h ⊢
      have:s=[]:=List.eq_nil_of_length_eq_zero h.symm
      subst this; simp
theorem opF_fix:∀ (m k:Nat) (s:List UInt8),opF m k (s.take (opF m k s).2)=opF m k s
  | 0,k,s=>rfl
  | m+1,k,s=>by
    by_cases h10:(10:UInt8)∈s
    · obtain ⟨b,a,hb,rfl⟩:=cut10 h10
      rw [opF_cons hb]
      by_cases hd:(impl_decode (k:Int) b).2=true
      · rw [if_pos hd]
        dsimp only
        have e:(b++10 :: a).take (b.length+1+(opF m (k+1) a).2)=b++10 :: a.take (opF m (k+1) a).2:=by
          rw [Nat.add_assoc,List.take_length_add_append,Nat.add_comm 1,List.take_succ_cons]
        rw [e,opF_cons hb,if_pos hd,opF_fix m (k+1) a]
      · rw [if_neg hd]; exact opF_nil
    · rw [opF_none h10]; exact opF_nil
theorem opF_pre:∀ (m k:Nat) (P X:List UInt8),(∃ j,X=P.take j∨∃ c,c≠10∧X=P.take j++[c])→(opF m k X).1 <+: (opF m k P).1
  | 0,k,P,X,_=>List.prefix_refl _
  | m+1,k,P,X,hX=>by
    by_cases h10:(10:UInt8)∈X
    · obtain ⟨j,hj⟩:=hX
      have hin:(10:UInt8)∈P.take j:=by
        rcases hj with rfl | ⟨c,hc,rfl⟩
        · exact h10
        · rcases List.mem_append.1 h10 with h | h
          · exact h
          · exact absurd (List.mem_singleton.1 h).symm hc
      obtain ⟨b,a,hb,rfl⟩:=cut10 (List.mem_of_mem_take hin)
      have hlt:b.length<j:=by
        apply Classical.byContradiction; intro hn
        rw [List.take_append_of_le_length oB] at hin
        exact hb (List.mem_of_mem_take hin)
      have et:(b++10 :: a).take j=b++10 :: a.take (j-b.length-1):=by
        obtain ⟨q,rfl⟩:∃ q,j=b.length+(q+1):=⟨j-b.length-1,oB⟩
        rw [List.take_length_add_append,List.take_succ_cons]; congr 3; omega
      obtain ⟨Y,rfl,hY⟩:∃ Y,X=b++10 :: Y∧∃ j,Y=a.take j∨∃ c,c≠10∧Y=a.take j++[c]:=by
        rcases hj with rfl | ⟨c,hc,rfl⟩
        · exact ⟨_,et,_,.inl rfl⟩
        · exact ⟨_,by rw [et]; simp,j-b.length-1,.inr ⟨c,hc,rfl⟩⟩
      rw [opF_cons hb,opF_cons hb]
      by_cases hd:(impl_decode (k:Int) b).2=true
      · rw [if_pos hd,if_pos hd]
        have:=opF_pre m (k+1) a Y hY
        exact (List.prefix_cons_inj _).2 this
      · rw [if_neg hd,if_neg hd]; exact List.prefix_refl _
    · rw [opF_none h10]; exact List.nil_prefix
theorem seal_no (h0:0≤n) (h:RecOK e):(10:UInt8) ∉ sealB (bodyB n e):=by
  have h1:(10:UInt8) ∉ e.Command:=fun hm=>by have:=(h.2.2.1 _ hm).1.1; exact absurd this oG
  have h2:(10:UInt8) ∉ e.Reply:=fun hm=>by have:=(h.2.2.2.1 _ hm).1.1; exact absurd this oG
  have h3:(10:UInt8) ∉ Lib.itoa n:=itoa_plain h0 (.inl oG)
  have h4:(10:UInt8) ∉ Lib.itoa (csum (bodyB n e)):=itoa_plain (csum_rng _).1 (.inl oG)
  unfold sealB
  simp only [List.mem_append,not_or]
  refine ⟨⟨?_,by simp⟩,h4⟩
  unfold bodyB; simp [h1,h2,h3]
theorem line_dec (hk:0≤n∧n≤59) (h:RecOK e):impl_decode n (sealB (bodyB n e))=(e,true):=dec_yes ⟨hk,h,rfl⟩
theorem opF_line (hk:(k:Int)≤59) (h:RecOK e):opF (m+1) k (lineB (k:Int) e++t)=(e :: (opF m (k+1) t).1,(lineB (k:Int) e).length+(opF m (k+1) t).2):=by
  have e1:lineB (k:Int) e++t=sealB (bodyB (k:Int) e)++10 :: t:=by unfold lineB; simp
  rw [e1,opF_cons (seal_no oB h),line_dec oB h,if_pos rfl]
  unfold lineB; simp
theorem nil_log:LogOK noLog:=by
  refine ⟨?_,?_,?_⟩ <;> simp [noLog,opN,opF_nil]
theorem app_valid (h:LogOK l) (he:RecOK e) (hc:¬l.Count=60):LogOK ⟨l.Durable,l.Pending++lineB l.Count e,l.Count+1⟩∧opN (l.Durable++(l.Pending++lineB l.Count e))=((opN (l.Durable++l.Pending)).1++[e],l.Durable.length+(l.Pending++lineB l.Count e).length):=by
  have hr:=log_rng h
  obtain ⟨h1,h2,h3⟩:=h
  have hlen:=(opN_len (l.Durable++l.Pending)).1
  have ha:=opF_app 60 0 (l.Durable++l.Pending) (lineB l.Count e) (by rw [List.length_append]; exact h1)
  have hcn:l.Count=(((opF 60 0 (l.Durable++l.Pending)).1.length:Nat):Int):=h3
  obtain ⟨q,hq⟩:∃ q,60-(opF 60 0 (l.Durable++l.Pending)).1.length=q+1:=⟨59-(opF 60 0 (l.Durable++l.Pending)).1.length,oB⟩
  have hl:=opF_line (m:=q) (k:=(opF 60 0 (l.Durable++l.Pending)).1.length) (t:=[]) (e:=e) oB he
  rw [List.append_nil,← hcn,opF_nil] at hl
  rw [hq,Nat.zero_add,hl] at ha
  have e1:opN (l.Durable++(l.Pending++lineB l.Count e))=((opN (l.Durable++l.Pending)).1++[e],l.Durable.length+(l.Pending++lineB l.Count e).length):=by
    rw [← List.append_assoc]
    show opF 60 0 _=_
    rw [ha]
    refine Prod.ext rfl ?_
    simp only [List.length_append,Nat.add_zero]; omega
  refine ⟨⟨?_,h2,?_⟩,e1⟩
  · show (opN (l.Durable++(l.Pending++lineB l.Count e))).2=l.Durable.length+(l.Pending++lineB l.Count e).length
    rw [e1]
  · show l.Count+1=((opN (l.Durable++(l.Pending++lineB l.Count e))).1.length:Int)
    rw [e1]; simp only [List.length_append,List.length_cons,List.length_nil]; omega
theorem appN_ok (h:LogOK l):LogOK (appN l e).1:=by
  unfold appN
  split
  · rename_i h1
    split
    · exact h
    · exact (app_valid h h1.2 ‹_›).1
  · exact h
theorem sync_ok (h:LogOK l):LogOK ⟨l.Durable++l.Pending,[],l.Count⟩:=by
  obtain ⟨h1,h2,h3⟩:=h
  refine ⟨?_,?_,?_⟩
  · show (opN ((l.Durable++l.Pending)++[])).2=(l.Durable++l.Pending).length+0
    rw [List.append_nil,h1,List.length_append]; rfl
  · show (opN (l.Durable++l.Pending)).2=(l.Durable++l.Pending).length
    rw [h1,List.length_append]
  · show l.Count=((opN ((l.Durable++l.Pending)++[])).1.length:Int)
    rw [List.append_nil]; exact h3
theorem syncN_ok (h:LogOK l):LogOK (syncN l).1:=by rw [sync_yes h]; exact sync_ok h
theorem opN_fix (s:List UInt8):opN (s.take (opN s).2)=opN s:=opF_fix 60 0 s
theorem recov_ok (s:List UInt8):LogOK ⟨s.take (opN s).2,[],((opN s).1.length:Int)⟩:=by
  have hl:=(opN_len s).2.1
  have ht:(s.take (opN s).2).length=(opN s).2:=by simp; omega
  refine ⟨?_,?_,?_⟩
  · show (opN (s.take (opN s).2++[])).2=(s.take (opN s).2).length+0
    rw [List.append_nil,opN_fix,ht]; rfl
  · show (opN (s.take (opN s).2)).2=(s.take (opN s).2).length
    rw [opN_fix,ht]
  · show ((opN s).1.length:Int)=((opN (s.take (opN s).2++[])).1.length:Int)
    rw [List.append_nil,opN_fix]
theorem recovN_ok (s:List UInt8):LogOK (recovN s).1:=by
  unfold recovN; split
  · exact nil_log
  · exact recov_ok s
theorem seal_low (h0:0≤n) (h:RecOK e):∀ c∈sealB (bodyB n e),c.toNat≤126:=by
  intro c hc
  have hd:∀ (q:Int),0≤q→c∈Lib.itoa q→c.toNat≤126:=fun q hq hm=>by have:=itoa_dig hq c hm; omega
  have hp:∀ (q:List UInt8),Plain q→c∈q→c.toNat≤126:=fun q hq hm=>by have:=(hq c hm).1.2; omega
  unfold sealB bodyB at hc
  simp only [List.mem_append,List.mem_singleton] at hc
  rcases hc with ((((((hc | hc) | hc) | hc) | hc) | hc) | hc)
  · exact hd _ h0 hc
  · subst hc; decide
  · exact hp _ h.2.2.1 hc
  · subst hc; decide
  · exact hp _ h.2.2.2.1 hc
  · subst hc; decide
  · exact hd _ (csum_rng _).1 hc
theorem read_low:∀ (m k:Nat) (s:List UInt8),(opF m k s).2=s.length→∀ c∈s,c.toNat≤126
  | 0,k,s,h=>by
    have:s=[]:=List.eq_nil_of_length_eq_zero (by rw [← h]; rfl)
    subst this; intro c hc; cases hc
  | m+1,k,s,h=>by
    by_cases h10:(10:UInt8)∈s
    · obtain ⟨b,a,hb,rfl⟩:=cut10 h10
      rw [opF_cons hb] at h
      by_cases hd:(impl_decode (k:Int) b).2=true
      · rw [if_pos hd] at h
        simp only [List.length_append,List.length_cons] at h
        have ih:=read_low m (k+1) a oB
        obtain ⟨q1,q2,q3⟩:=dec_ok hd
        have eb:b=sealB (bodyB (k:Int) (impl_decode (k:Int) b).1):=by
          unfold lineB at q3; exact (List.append_cancel_right q3).symm
        intro c hc
        rcases List.mem_append.1 hc with hc | hc
        · rw [eb] at hc; exact seal_low q1.1 q2 c hc
        · rcases List.mem_cons.1 hc with hc | hc
          · subst hc; decide
          · exact ih c hc
      · rw [if_neg hd] at h; simp at h
    · rw [opF_none h10] at h
      have:s=[]:=List.eq_nil_of_length_eq_zero h.symm
      subst this; intro c hc; cases hc
theorem bw_low {c:UInt8} (h:c.toNat≤126):bw (255-(c.toNat:Int))≠10:=by
  intro e
  have h1:=bw_val (255-(c.toNat:Int))
  rw [e] at h1
  rw [IntKind.wrap_u8] at h1
  have h2:((10:UInt8).toNat:Int)=10:=rfl
  omega
theorem torn_pre (b:Bool) (P:List UInt8) (j:Nat) (hP:∀ c∈P,c.toNat≤126):∃ q,tornB b (P.take j)=P.take q∨∃ c,c≠10∧tornB b (P.take j)=P.take q++[c]:=by
  unfold tornB
  split
  · rename_i h
    have hl:(P.take j).length-1<(P.take j).length:=by omega
    refine ⟨(P.take j).length-1,.inr ⟨bw (255-((gt (P.take j) ((P.take j).length-1)).toNat:Int)),bw_low (c:=gt (P.take j) ((P.take j).length-1)) (hP _ ?_),?_⟩⟩
    · exact List.mem_of_mem_take (List.mem_iff_getElem?.2 ⟨_,gb_get hl⟩)
    · rw [List.set_eq_take_append_cons_drop,if_pos hl,List.drop_eq_nil_of_le oB,List.take_take]
      congr 2; simp only [List.length_take]; omega
  · exact ⟨j,.inl rfl⟩
theorem crash_first (h:LogOK l) (keep:Int) (b:Bool):(opN (l.Durable++tornB b (l.Pending.take keep.toNat))).1 <+: (opN (l.Durable++l.Pending)).1∧l.Durable.length≤(opN (l.Durable++tornB b (l.Pending.take keep.toNat))).2:=by
  obtain ⟨h1,h2,h3⟩:=h
  have hP:∀ c∈l.Pending,c.toNat≤126:=fun c hc=>read_low 60 0 _ (by rw [List.length_append]; exact h1) c (List.mem_append_right _ hc)
  have e1:=opF_app 60 0 l.Durable (tornB b (l.Pending.take keep.toNat)) h2
  have e2:=opF_app 60 0 l.Durable l.Pending h2
  unfold opN
  rw [e1,e2]
  refine ⟨?_,by dsimp only; omega⟩
  exact (List.prefix_append_right_inj _).2 (opF_pre _ _ _ _ (torn_pre b _ _ hP))
theorem recov_len (s:List UInt8):(recovN s).1.Durable.length+(recovN s).1.Pending.length≤30000:=by
  have:=log_rng (recovN_ok s); omega
end
end Go.Proofs.YtndcchndcghmoaaGreatDoor
namespace Go.Proofs.YtndcchndcghmoaaGreatDoor
open Go Go.RowKit Fw
section
variable {x : Library} {s a b w : List UInt8} {c : Console} {L : List Int} {n : Int} {t : LibraryStep} {l : Log} {e : LogRecord}
theorem plain_app (h:Plain a) (k:Plain b):Plain (a++b):=fun c hc=>(List.mem_append.1 hc).elim (h c) (k c)
theorem plain_nil:Plain []:=fun _ h=>by simp at h
theorem plain_itoa (n:Int):Plain (Lib.itoa n):=fun c hc=>by
  unfold Lib.itoa at hc
  have hd:∀ u,c∈Lib.decDigits u→PlB c:=fun u h=>by have:=dig_all u c h; unfold PlB; omega
  split at hc
  · rcases List.mem_cons.1 hc with rfl | h
    · decide
    · exact hd _ h
  · exact hd _ hc
theorem plain_tail:∀ (W:List (List UInt8)),(∀ w∈W,Plain w)→Plain (Lib.joinTail [32] W)
  | [],_=>plain_nil
  | y :: r,h=>plain_app (plain_app (fun c hc=>by rw [List.mem_singleton.1 hc]; decide) (h y oR)) (plain_tail r fun w hw=>h w (by simp [hw]))
theorem plain_list (L:List Int):Plain (listN L):=by
  unfold listN; split
  · exact fun c hc=>(show ∀ c∈([110,111,110,101]:List UInt8),PlB c by decide) c hc
  · unfold listT
    have h:∀ w∈L.map Lib.itoa,Plain w:=fun w hw=>by obtain ⟨y,_,rfl⟩:=List.mem_map.1 hw; exact plain_itoa y
    generalize L.map Lib.itoa=W at h
    cases W with
    | nil=>rw [Lib.join_nil]; exact plain_nil
    | cons y r=>rw [Lib.join_cons]; exact plain_app (h y oR) (plain_tail r fun w hw=>h w (by simp [hw]))
theorem plain_map (x:Library) (n:Int):Plain (mapT x n).1:=by
  unfold mapT; split
  · unfold textM
    exact plain_app (plain_app (plain_app (plain_app (plain_itoa _) fun c hc=>(show ∀ c∈([32,116,111,114,110,32]:List UInt8),PlB c by decide) c hc) (plain_itoa _)) fun c hc=>(show ∀ c∈([32,97,119,97,121,32]:List UInt8),PlB c by decide) c hc) (plain_itoa _)
  · exact plain_nil
theorem plain_tell:Plain (impl_tell x w L).1:=by
  unfold impl_tell
  repeat' split
  all_goals (try dsimp only); first | exact plain_map _ _ | exact plain_list _ | exact plain_nil | exact plain_itoa _
theorem plain_rep:Plain (repN x s).2.1:=by
  unfold repN
  repeat' split
  all_goals first | exact plain_map _ _ | exact plain_tell | exact plain_nil
theorem plain_ans:Plain (ansN x s)∧(ansN x s).length≤200:=by
  unfold ansN
  split
  · split
    · exact ⟨fun c hc=>(show ∀ c∈([108,111,110,103]:List UInt8),PlB c by decide) c hc,by simp⟩
    · exact ⟨plain_rep,oB⟩
  · exact ⟨fun c hc=>(show ∀ c∈([63]:List UInt8),PlB c by decide) c hc,by simp⟩
theorem rec_ans (h:RecOK ⟨s,[]⟩):RecOK ⟨s,ansN x s⟩:=⟨h.1,by have:=(plain_ans (x:=x) (s:=s)).2; dsimp only; omega,h.2.2.1,plain_ans.1,h.2.2.2.2⟩
theorem exec_app (h:ConOK c) (h2:RecOK ⟨s,[]⟩) (h3:¬c.Log.Count=60):execN c s=(⟨libN c.Library s,⟨c.Log.Durable,c.Log.Pending++lineB c.Log.Count ⟨s,ansN c.Library s⟩,c.Log.Count+1⟩⟩,ansN c.Library s):=by
  rw [exec_yes h h2 h3,app_yes (fun q=>q.elim (fun q=>q h.2) fun q=>q (rec_ans h2)) h3]
theorem lib_ok' (h:LibOK x):LibOK (libN x s):=by
  unfold libN
  split
  · rename_i h2
    unfold repN at h2 ⊢
    split at h2 <;> (try split at h2) <;> (try split at h2) <;> simp_all
    exact stepped_okL oJ
  · exact h
theorem exec_ok (h:ConOK c):ConOK (execN c s).1:=by
  unfold execN
  rw [if_neg (fun q=>q h)]
  split
  · exact h
  split
  · exact h
  · exact ⟨lib_ok' h.1,appN_ok h.2⟩
end
end Go.Proofs.YtndcchndcghmoaaGreatDoor
namespace Go.Proofs.YtndcchndcghmoaaGreatDoor
open Go Go.RowKit Fw
def newL (n:Int):Library:=⟨[⟨1,n,0⟩],[],n,0,0⟩
def noCon:Console:=⟨⟨[],[],0,0,0⟩,⟨[],[],0⟩⟩
def newC (n:Int):Console × Bool:=if 1≤n∧n≤50 then (⟨newL n,⟨[],[],0⟩⟩,true) else (noCon,false)
section
variable {n : Int}
theorem newC_yes (h:1≤n∧n≤50):newC n=(⟨newL n,⟨[],[],0⟩⟩,true):=if_pos h
theorem newC_no (h:¬(1≤n∧n≤50)):newC n=(noCon,false):=if_neg h
theorem nil_ok:LibOK ⟨[],[],0,0,0⟩:=⟨⟨fun j hj=>absurd hj oR,by simp⟩,⟨fun j hj=>absurd hj oR,by simp⟩,by simp,by simp,by simp,by simp [sumC]⟩
theorem new_ok (h:1≤n∧n≤50):LibOK (newL n):=by
  refine ⟨⟨fun j hj=>?_,by simp [newL]⟩,⟨fun j hj=>absurd hj (by simp [newL]),by simp [newL]⟩,?_,by simp [newL],by simp [newL],by simp [newL,sumC]⟩
  · obtain rfl:j=0:=by simp [newL] at hj; omega
    unfold MBad
    show ¬((¬((1:Int)≤1∧(1:Int)≤99))∨((¬(0≤n∧n≤99))∨((¬((0:Int)≤0∧0≤n))∨((0<((0:Nat):Int))∧_))))
    omega
  · show 0≤n∧n≤9999; omega
theorem new_step (h:1≤n∧n≤50):spec_StepLibrary ⟨[],[],0,0,0⟩ ⟨1,1,0,n⟩=(newL n,true):=by
  have e:boughtN ⟨[],[],0,0,0⟩ 1 n=newL n:=by
    unfold boughtN newL
    rw [if_neg (by simp [idxF])]
    simp [insAt,bdM]
  have hs:spec_l32Step ⟨[],[],0,0,0⟩ ⟨1,1,0,n⟩=true:=by unfold spec_l32Step; simp; omega
  have hm:spec_l32Make ⟨[],[],0,0,0⟩ ⟨1,1,0,n⟩=(newL n,true):=by
    unfold spec_l32Make
    rw [if_pos rfl,e,decide_eq_true (new_ok h)]
  unfold spec_StepLibrary
  rw [if_neg (by rintro (q | q); exact q nil_ok; rw [hs] at q; cases q),hm,if_neg oR]
theorem new_stepN (h:¬(1≤n∧n≤50)):(spec_StepLibrary ⟨[],[],0,0,0⟩ ⟨1,1,0,n⟩).2=false:=by
  have hs:spec_l32Step ⟨[],[],0,0,0⟩ ⟨1,1,0,n⟩=false:=by
    unfold spec_l32Step; rw [if_pos rfl,decide_eq_false_iff_not]
    intro q; exact h q.2.2
  unfold spec_StepLibrary
  rw [if_pos (.inr (by rw [hs]; rfl))]
theorem newS_ok (h:(!(spec_StepLibrary ⟨[],[],0,0,0⟩ ⟨1,1,0,n⟩).2)=false):newC n=(⟨(spec_StepLibrary ⟨[],[],0,0,0⟩ ⟨1,1,0,n⟩).1,⟨[],[],0⟩⟩,true):=by
  by_cases hn:1≤n∧n≤50
  · rw [newC_yes hn,new_step hn]
  · rw [new_stepN hn] at h; cases h
theorem newS_no (h:(!(spec_StepLibrary ⟨[],[],0,0,0⟩ ⟨1,1,0,n⟩).2)=true):newC n=(noCon,false):=by
  by_cases hn:1≤n∧n≤50
  · rw [new_step hn] at h; cases h
  · exact newC_no hn
theorem new_lenM (n:Int):(newC n).1.Library.Maps.length≤8:=by unfold newC; split <;> simp [newL,noCon]
theorem new_lenA (n:Int):(newC n).1.Library.Away.length≤8:=by unfold newC; split <;> simp [newL,noCon]
end
end Go.Proofs.YtndcchndcghmoaaGreatDoor
namespace Go.Proofs.YtndcchndcghmoaaGreatDoor
open Go Go.RowKit Fw
noncomputable def scrF (c:Console):List (List UInt8)→List (List UInt8)
  | []=>[]
  | l :: r=>(execN c l).2 :: scrF (execN c l).1 r
def ScrOK (c:Console) (s:List UInt8):Prop:=ConOK c∧(splitB 10 s).length≤30∧s.length≤4000
noncomputable instance (c:Console) (s:List UInt8):Decidable (ScrOK c s):=Classical.propDecidable _
noncomputable def scrN (c:Console) (s:List UInt8):List (List UInt8) × Bool:=if ScrOK c s then (scrF c (splitB 10 s),true) else ([],false)
noncomputable def repF (c:Console):List LogRecord→Nat
  | []=>0
  | e :: r=>if (execN c e.Command).2=e.Reply then repF (execN c e.Command).1 r+1 else 0
noncomputable def rplN (n:Int) (l:Log):Int × Bool:=if (newC n).2=true∧LogOK l then ((repF (newC n).1 (recsN l).1:Int),true) else (0,false)
def Sml (c:Console) (b:Nat):Prop:=(c.Library.Maps.length≤1048576∧c.Library.Away.length≤1048576)∧c.Log.Durable.length+c.Log.Pending.length≤b
section
variable {c o : Console} {s x : List UInt8} {L R : List (List UInt8)} {k n b : Nat} {E : List LogRecord} {e : LogRecord}
theorem exec_sml (h:Sml c b):Sml (execN c s).1 (b+406):=by
  refine ⟨exec_lens h.1.1 h.1.2,?_⟩
  have hb:=h.2
  unfold execN
  split
  · dsimp only; omega
  split
  · dsimp only; omega
  split
  · dsimp only; omega
  have:=appN_len c.Log ⟨s,ansN c.Library s⟩
  dsimp only; omega
theorem sml_of (h:ConOK c):Sml c 24360:=by
  have h1:=con_rng h; have h2:=log_rng h.2
  exact ⟨⟨oB,oB⟩,h2.1⟩
def STo (c:Console) (L:List (List UInt8)) (o:Console) (R:List (List UInt8)) (k:Nat):Prop:=R.length=k∧scrF c L=R++scrF o (L.drop k)∧Sml o (24360+406*k)
theorem STo.zero (h:ConOK c):STo c L c [] 0:=⟨rfl,rfl,sml_of h⟩
theorem STo.next (h:STo c L o R k) (hx:L[k]?=some x):STo c L (execN o x).1 (R++[(execN o x).2]) (k+1):=by
  obtain ⟨h1,h2,h3⟩:=h
  refine ⟨by simp [h1],?_,by have:=exec_sml (s:=x) h3; rwa [Nat.mul_succ,← Nat.add_assoc]⟩
  rw [h2,List.drop_eq_getElem_cons (List.getElem?_eq_some_iff.1 hx).1,(List.getElem?_eq_some_iff.1 hx).2]
  show R++((execN o x).2 :: scrF (execN o x).1 (L.drop (k+1)))=_
  simp
theorem STo.all (h:STo c (splitB 10 s) o R k) (hk:(splitB 10 s).length≤k) (hs:ScrOK c s):scrN c s=(R,true):=by
  unfold scrN
  rw [if_pos hs,h.2.1,List.drop_of_length_le hk]
  show (R++[],true)=_
  rw [List.append_nil]
def RTo (c:Console) (E:List LogRecord) (o:Console) (k:Nat):Prop:=repF c E=k+repF o (E.drop k)∧Sml o (24360+406*k)
theorem RTo.zero (h:Sml c 24360):RTo c E c 0:=⟨by simp,h⟩
theorem rep_drop (he:E[k]?=some e):E.drop k=e :: E.drop (k+1):=by
  rw [List.drop_eq_getElem_cons (List.getElem?_eq_some_iff.1 he).1,(List.getElem?_eq_some_iff.1 he).2]
theorem RTo.next (h:RTo c E o k) (he:E[k]?=some e) (hr:(execN o e.Command).2=e.Reply):RTo c E (execN o e.Command).1 (k+1):=by
  refine ⟨?_,by have:=exec_sml (s:=e.Command) h.2; rwa [Nat.mul_succ,← Nat.add_assoc]⟩
  rw [h.1,rep_drop he]
  show k+(if (execN o e.Command).2=e.Reply then _ else _)=_
  rw [if_pos hr]; omega
theorem RTo.stop (h:RTo c E o k) (he:E[k]?=some e) (hr:¬(execN o e.Command).2=e.Reply):repF c E=k:=by
  rw [h.1,rep_drop he]
  show k+(if (execN o e.Command).2=e.Reply then _ else _)=_
  rw [if_neg hr]; omega
theorem RTo.all (h:RTo c E o k) (hk:E.length≤k) (hk2:k≤E.length):repF c E=E.length:=by
  rw [h.1,List.drop_of_length_le hk]
  show k+0=_
  omega
theorem new_sml (n:Int):Sml (newC n).1 24360:=by
  refine ⟨⟨Nat.le_trans (new_lenM n) oB,Nat.le_trans (new_lenA n) oB⟩,?_⟩
  unfold newC; split <;> simp [noCon]
end
theorem opF_rec:∀ (m k:Nat) (s:List UInt8),∀ e∈(opF m k s).1,RecOK e
  | 0,_,_=>fun _ h=>by simp [opF] at h
  | m+1,k,s=>fun e h=>by
    unfold opF at h
    by_cases hr:Rec1 k s
    · rw [if_pos hr] at h
      rcases List.mem_cons.1 h with h | h
      · rw [h]; exact (rec1_line hr).2.1
      · exact opF_rec m (k+1) _ e h
    · rw [if_neg hr] at h; simp at h
section
variable {n : Int} {l : Log} {k m : Nat} {o : Console}
theorem recs_ok {e:LogRecord} (h:(recsN l).1[k]?=some e):RecOK e:=by
  unfold recsN at h
  split at h
  · exact opF_rec _ _ _ e (List.mem_of_getElem? h)
  · simp at h
theorem recs_cmd {e:LogRecord} (h:(recsN l).1[k]?=some e):(1≤(e.Command.length:Int)∧(e.Command.length:Int)≤160)∧(e.Reply.length:Int)≤200:=rec_rng (recs_ok h)
theorem rpl_no (h:(!(newC n).2)=true∨(!(recsN l).2)=true):rplN n l=(0,false):=if_neg fun q=>by
  rcases h with h | h
  · rw [q.1] at h; cases h
  · rw [recs_yes q.2] at h; cases h
theorem rpl_noS (h:(!(newC n).2)=true∨¬LogOK l):rplN n l=(0,false):=if_neg fun q=>by
  rcases h with h | h
  · rw [q.1] at h; cases h
  · exact h q.2
theorem rpl_ok (h:¬((!(newC n).2)=true∨(!(recsN l).2)=true)):(newC n).2=true∧LogOK l:=by
  refine ⟨Classical.byContradiction fun q=>h (.inl (by simpa using q)),Classical.byContradiction fun q=>h (.inr ?_)⟩
  rw [recs_no q]; rfl
theorem rpl_okS (h:¬((!(newC n).2)=true∨¬LogOK l)):(newC n).2=true∧LogOK l :=
  ⟨Classical.byContradiction fun q=>h (.inl (by simpa using q)),Classical.not_not.1 fun q=>h (.inr q)⟩
theorem rpl_stop (h0:(newC n).2=true∧LogOK l) (h:RTo (newC n).1 (recsN l).1 o k) {e:LogRecord} (he:(recsN l).1[k]?=some e) (hr:¬(execN o e.Command).2=e.Reply):rplN n l=((k:Int),true):=by
  unfold rplN; rw [if_pos h0,h.stop he hr]
theorem rpl_all (h0:(newC n).2=true∧LogOK l) (h:RTo (newC n).1 (recsN l).1 o k) (hm:m=(recsN l).1.length) (hk:(recsN l).1.length≤k) (hk2:k≤(recsN l).1.length):rplN n l=((m:Int),true):=by
  unfold rplN; rw [if_pos h0,h.all hk hk2,hm]
end
end Go.Proofs.YtndcchndcghmoaaGreatDoor
namespace Go.Proofs.YtndcchndcghmoaaGreatDoor
open Go Go.RowKit Fw
section
variable {l : Log} {r : LogRecord} {k : Int} {b : Bool} {i n m : Nat}
theorem torn_len (b:Bool) (s:List UInt8):(tornB b s).length=s.length:=by unfold tornB; split <;> simp
theorem crash_len (l:Log) (k:Int) (b:Bool):(crashN l k b).1.length≤l.Durable.length+l.Pending.length:=by
  unfold crashN; split
  · rw [List.length_append,torn_len,List.length_take]; omega
  · simp
def CrLaw (l:Log) (k:Int) (b:Bool):Prop :=
  ((crashN l k b).2=true→(recovN (crashN l k b).1).2.2=true∧(recovN (crashN l k b).1).2.1≤((crashN l k b).1.length:Int)∧(l.Durable.length:Int)≤(recovN (crashN l k b).1).2.1∧(recsN (recovN (crashN l k b).1).1).1 <+: (recsN l).1 ∧
    LogOK (recovN (crashN l k b).1).1∧(recovN (crashN l k b).1).1.Durable=(crashN l k b).1.take (recovN (crashN l k b).1).2.1.toNat)∧((crashN l k b).2=false→(crashN l k b).1=[])
theorem cr_law (l:Log) (k:Int) (b:Bool):CrLaw l k b:=by
  constructor
  · intro h
    have hg:LogOK l∧0≤k∧k≤(l.Pending.length:Int):=by
      unfold crashN at h; split at h
      · assumption
      · cases h
    have e:(crashN l k b).1=l.Durable++tornB b (l.Pending.take k.toNat):=by unfold crashN; rw [if_pos hg]
    have hr:=log_rng hg.1
    have hc:=crash_first hg.1 k b
    rw [e]
    have hlen:(l.Durable++tornB b (l.Pending.take k.toNat)).length≤24360:=by rw [List.length_append,torn_len,List.length_take]; omega
    generalize l.Durable++tornB b (l.Pending.take k.toNat)=s at *
    have ho:=opN_len s
    have hv:=recov_ok s
    rw [recov_yes (s:=s) oB]
    refine ⟨rfl,?_,?_,?_,hv,?_⟩
    · dsimp only; omega
    · dsimp only; omega
    · dsimp only
      rw [recs_yes hv,recs_yes hg.1]
      dsimp only
      rw [List.append_nil,opN_fix]; exact hc.1
    · dsimp only; rw [Int.toNat_natCast]
  · intro h
    unfold crashN at *
    split
    · rename_i q; rw [if_pos q] at h; cases h
    · rfl
end
end Go.Proofs.YtndcchndcghmoaaGreatDoor
namespace Go.Proofs.YtndcchndcghmoaaGreatDoor
open Go Go.RowKit Fw
section
variable {c o : Console} {s : List UInt8} {E R : List LogRecord} {e : LogRecord} {n k : Int}
noncomputable def runF (c:Console):List LogRecord→Console
  | []=>c
  | e :: r=>runF (execN c e.Command).1 r
theorem runF_app:∀ (c:Console) (E:List LogRecord),runF c (E++[e])=(execN (runF c E) e.Command).1
  | _,[]=>rfl
  | c,x :: r=>runF_app (execN c x.Command).1 r
theorem repF_cons (h:repF c (e :: E)=(e :: E).length):(execN c e.Command).2=e.Reply∧repF (execN c e.Command).1 E=E.length:=by
  unfold repF at h
  split at h
  · rename_i q; exact ⟨q,by simpa using h⟩
  · simp at h
theorem repF_app:∀ (c:Console) (E:List LogRecord),repF c E=E.length→(execN (runF c E) e.Command).2=e.Reply→repF c (E++[e])=(E++[e]).length
  | c,[],_,h=>by
    show (if (execN c e.Command).2=e.Reply then 0+1 else 0)=1
    exact if_pos h
  | c,x :: r,h,h2=>by
    obtain ⟨q1,q2⟩:=repF_cons h
    have:=repF_app (execN c x.Command).1 r q2 h2
    show (if (execN c x.Command).2=x.Reply then repF (execN c x.Command).1 (r++[e])+1 else 0)=_
    rw [if_pos q1,this]; rfl
theorem repF_pre:∀ (c:Console) (R E:List LogRecord),R <+: E→repF c E=E.length→repF c R=R.length
  | _,[],_,_,_=>rfl
  | c,x :: r,E,h,h2=>by
    obtain ⟨t,rfl⟩:=h
    rw [List.cons_append] at h2
    obtain ⟨q1,q2⟩:=repF_cons h2
    have:=repF_pre (execN c x.Command).1 r (r++t) ⟨t,rfl⟩ q2
    show (if (execN c x.Command).2=x.Reply then repF (execN c x.Command).1 r+1 else 0)=_
    rw [if_pos q1,this]; rfl
def HisOK (c o:Console):Prop:=ConOK o∧repF c (recsN o.Log).1=(recsN o.Log).1.length∧runF c (recsN o.Log).1=o
theorem con_new1 (h:(newC n).2=true):ConOK (newC n).1:=by
  have hn:1≤n∧n≤50:=by unfold newC at h; split at h; assumption; cases h
  rw [newC_yes hn]; exact ⟨new_ok hn,nil_log⟩
theorem his_new (h:(newC n).2=true):HisOK (newC n).1 (newC n).1:=by
  have hc:=con_new1 h
  have hn:1≤n∧n≤50:=by unfold newC at h; split at h; assumption; cases h
  have e:(recsN (newC n).1.Log).1=[]:=by
    rw [recs_yes hc.2,newC_yes hn]
    show (opN ([]++[])).1=[]
    unfold opN; rw [List.append_nil,opF_nil]
  refine ⟨hc,?_,?_⟩ <;> (rw [e]; rfl)
theorem his_step (h:HisOK c o):HisOK c (execN o s).1:=by
  obtain ⟨h1,h2,h3⟩:=h
  by_cases hr:RecOK ⟨s,[]⟩
  · by_cases hf:o.Log.Count=60
    · rw [exec_full h1 hr hf]; exact ⟨h1,h2,h3⟩
    · have hv:=exec_ok (s:=s) h1
      have ha:=(app_valid h1.2 (rec_ans (x:=o.Library) hr) hf).2
      have e:(recsN (execN o s).1.Log).1=(recsN o.Log).1++[⟨s,ansN o.Library s⟩]:=by
        rw [recs_yes hv.2,recs_yes h1.2,exec_app h1 hr hf]
        dsimp only
        rw [ha]
      refine ⟨hv,?_,?_⟩
      · rw [e]; refine repF_app _ _ h2 ?_
        rw [h3,exec_app h1 hr hf]
      · rw [e,runF_app,h3]
  · rw [exec_bad h1 hr]; exact ⟨h1,h2,h3⟩
theorem app_fit {l:Log} {e:LogRecord} (h:l.Durable.length+l.Pending.length≤24360∧0≤l.Count∧l.Count≤60):(appN l e).1.Durable.length≤60000∧(appN l e).1.Pending.length≤60000∧-1≤(appN l e).1.Count∧(appN l e).1.Count≤100:=by
  have h1:=appN_len l e
  have h2:-1≤(appN l e).1.Count∧(appN l e).1.Count≤100:=by
    unfold appN; split
    · split
      · dsimp only; omega
      · dsimp only; omega
    · dsimp only; omega
  omega
theorem con_fit (h:ConOK o):(o.Library.Maps.length≤8∧o.Library.Away.length≤8)∧(o.Log.Durable.length+o.Log.Pending.length≤24360∧0≤o.Log.Count∧o.Log.Count≤60):=by
  have h1:=con_rng h; have h2:=log_rng h.2
  omega
theorem his_all (hn:(newC n).2=true) (h:HisOK (newC n).1 o):rplN n o.Log=(o.Log.Count,true):=by
  unfold rplN; rw [if_pos ⟨hn,h.1.2⟩,h.2.1,recs_yes h.1.2]
  have:=h.1.2.2.2
  dsimp only; rw [this]
theorem his_crash (hn:(newC n).2=true) (h:HisOK (newC n).1 o) (hk:0≤k∧k≤(o.Log.Pending.length:Int)) :
    (recovN (crashN o.Log k false).1).2.2=true∧rplN n (recovN (crashN o.Log k false).1).1=((recovN (crashN o.Log k false).1).1.Count,true):=by
  have hc:(crashN o.Log k false).2=true:=by unfold crashN; rw [if_pos ⟨h.1.2,hk⟩]
  obtain ⟨q1,_,_,q4,q5,_⟩:=(cr_law o.Log k false).1 hc
  refine ⟨q1,?_⟩
  unfold rplN; rw [if_pos ⟨hn,q5⟩,repF_pre _ _ _ q4 h.2.1]
  have:=q5.2.2
  rw [recs_yes q5]; dsimp only; rw [this]
theorem his_fin (hn:(newC n).2=true) (h:HisOK (newC n).1 o):(rplN n o.Log).2=true∧(rplN n o.Log).1=o.Log.Count∧(recovN (crashN o.Log ((o.Log.Pending.length:Int)-((o.Log.Pending.length:Int) % 7)) false).1).2.2=true ∧
    (rplN n (recovN (crashN o.Log ((o.Log.Pending.length:Int)-((o.Log.Pending.length:Int) % 7)) false).1).1).2=true∧(rplN n (recovN (crashN o.Log ((o.Log.Pending.length:Int)-((o.Log.Pending.length:Int) % 7)) false).1).1).1=(recovN (crashN o.Log ((o.Log.Pending.length:Int)-((o.Log.Pending.length:Int) % 7)) false).1).1.Count:=by
  have h1:=his_all hn h
  obtain ⟨h2,h3⟩:=his_crash (k:=(o.Log.Pending.length:Int)-((o.Log.Pending.length:Int) % 7)) hn h oB
  exact ⟨by rw [h1],by rw [h1],h2,by rw [h3],by rw [h3]⟩
end
end Go.Proofs.YtndcchndcghmoaaGreatDoor
namespace Go.Proofs.YtndcchndcghmoaaGreatDoor
open Go Go.RowKit Fw
def MapB (L:List LMap):Prop:=∀ (k:Nat) (x:LMap),L[k]?=some x→(-100000≤x.Id∧x.Id≤100000)∧(-100000≤x.Copies∧x.Copies≤100000)∧(-100000≤x.Torn∧x.Torn≤100000)
def AwayB (L:List Away):Prop:=∀ (k:Nat) (x:Away),L[k]?=some x→(-100000≤x.Map∧x.Map≤100000)∧(-100000≤x.Reader∧x.Reader≤100000)
section
variable {x o : Library} {k : Nat} {s : LibraryStep} {L : List LMap} {z : LMap} {D : List Away} {y : Away} {c : Console} {t : List UInt8}
theorem app_get {α:Type} {L:List α} {z x:α} {P:α→Prop} (h:∀ (k:Nat) (x:α),L[k]?=some x→P x) (hz:P z) (hx:(L++[z])[k]?=some x):P x:=by
  rw [List.getElem?_append] at hx
  split at hx
  · exact h k x hx
  · obtain ⟨h1,h2⟩:=List.getElem?_eq_some_iff.1 hx
    have h0:k-L.length=0:=by simp only [List.length_cons,List.length_nil] at h1; omega
    simp only [h0,List.getElem_cons_zero] at h2
    subst h2; exact hz
theorem MapB.nil:MapB []:=fun k x h=>by simp at h
theorem MapB.of (h:MapsOK L):MapB L:=fun k x hx=>by
  have:=maps_at h (List.getElem?_eq_some_iff.1 hx).1
  rw [gt_eq hx] at this; omega
theorem MapB.app (h:MapB L) (hz:(-100000≤z.Id∧z.Id≤100000)∧(-100000≤z.Copies∧z.Copies≤100000)∧(-100000≤z.Torn∧z.Torn≤100000)):MapB (L++[z]):=fun _ _ hx=>app_get (P:=fun x:LMap=>(-100000≤x.Id∧x.Id≤100000)∧(-100000≤x.Copies∧x.Copies≤100000)∧(-100000≤x.Torn∧x.Torn≤100000)) h hz hx
theorem MapB.at (h:MapB L) (hx:L[k]?=some z):(-100000≤z.Id∧z.Id≤100000)∧(-100000≤z.Copies∧z.Copies≤100000)∧(-100000≤z.Torn∧z.Torn≤100000):=h k z hx
theorem AwayB.nil:AwayB []:=fun k x h=>by simp at h
theorem AwayB.of (h:LibOK x):AwayB x.Away:=fun k a hx=>by
  have hb:=Classical.not_not.1 (h.2.1.1 k (List.getElem?_eq_some_iff.1 hx).1)
  rw [gt_eq hx] at hb
  obtain ⟨m,hm,hq⟩:=hb.1
  obtain ⟨j,hj⟩:=List.mem_iff_getElem?.1 hm
  have:=maps_at h.1.1 (List.getElem?_eq_some_iff.1 hj).1
  rw [gt_eq hj] at this; omega
theorem AwayB.app (h:AwayB D) (hz:(-100000≤y.Map∧y.Map≤100000)∧(-100000≤y.Reader∧y.Reader≤100000)):AwayB (D++[y]):=fun _ _ hx=>app_get (P:=fun x:Away=>(-100000≤x.Map∧x.Map≤100000)∧(-100000≤x.Reader∧x.Reader≤100000)) h hz hx
theorem AwayB.at (h:AwayB D) (hx:D[k]?=some y):(-100000≤y.Map∧y.Map≤100000)∧(-100000≤y.Reader∧y.Reader≤100000):=h k y hx
theorem nil_lib:LibOK ⟨[],[],0,0,0⟩:=by
  refine ⟨⟨fun j h=>by simp at h,by simp⟩,⟨fun j h=>by simp at h,by simp⟩,?_⟩
  simp [sumC]
theorem lib_bought (h:LibOK o):(o.Maps.length≤8∧o.Away.length≤8)∧(0≤o.Bought∧o.Bought≤9999):=⟨⟨h.1.2,h.2.1.2⟩,h.2.2.1⟩
theorem spec_okL (h:(spec_StepLibrary x s).2=true):LibOK (spec_StepLibrary x s).1:=by
  unfold spec_StepLibrary at h ⊢
  by_cases h1:(¬(LibOK x))∨((!(spec_l32Step x s))=true)
  · rw [if_pos h1] at h; cases h
  · rw [if_neg h1] at h ⊢
    by_cases h2:(!((spec_l32Make x s).2))=true
    · rw [if_pos h2] at h; cases h
    · rw [if_neg h2]; exact make_okL (by simpa using h2)
theorem lib_ok (h:LibOK x):LibOK (libN x t):=by
  unfold libN
  split
  · rename_i h2
    unfold repN at h2 ⊢
    split at h2 <;> (try split at h2) <;> (try split at h2) <;> simp_all
    exact stepped_okL oJ
  · exact h
theorem exec_lib (h:ConOK c):LibOK (execN c t).1.Library:=by
  unfold execN
  rw [if_neg (fun q=>q h)]
  split
  · exact h.1
  split
  · exact h.1
  · exact lib_ok h.1
theorem app_count {l:Log} {e:LogRecord} (h:LogOK l):0≤(appN l e).1.Count∧(appN l e).1.Count≤60:=by
  have:=log_rng h
  unfold appN
  split
  · split <;> (dsimp only; omega)
  · dsimp only; omega
theorem exec_log (h:ConOK c):(execN c t).1.Log.Durable.length+(execN c t).1.Log.Pending.length≤24766∧0≤(execN c t).1.Log.Count∧(execN c t).1.Log.Count≤60:=by
  have hl:=log_rng h.2
  unfold execN
  rw [if_neg (fun q=>q h)]
  split
  · dsimp only; omega
  split
  · dsimp only; omega
  have:=appN_len c.Log ⟨t,ansN c.Library t⟩
  have:=app_count (e:=⟨t,ansN c.Library t⟩) h.2
  dsimp only; omega
theorem con_step (h:ConOK c):((execN c t).1.Library.Maps.length≤9∧(execN c t).1.Library.Away.length≤9)∧((execN c t).1.Log.Durable.length+(execN c t).1.Log.Pending.length≤24766∧0≤(execN c t).1.Log.Count∧(execN c t).1.Log.Count≤60)∧MapB (execN c t).1.Library.Maps∧AwayB (execN c t).1.Library.Away:=by
  have hl:=exec_lib (t:=t) h
  have hb:=lib_bought hl
  exact ⟨oB,exec_log h,MapB.of hl.1.1,AwayB.of hl⟩
end
end Go.Proofs.YtndcchndcghmoaaGreatDoor
namespace Go.Proofs.YtndcchndcghmoaaGreatDoor
open Go Go.RowKit Fw
theorem c_strings_Split1 (w:World) (s:List UInt8) (p:List UInt8) (a:(s.length:Int)<4294967281) {c:UInt8} (b:p=[c]) (hE:EnvW w):Calls Tryz.prog 56 #[str s,str p] w fun e w'=>∃ (A1':Option Addr) (n1' c1':Nat),e=.returned (.slice A1' n1' c1')∧SlO w' w.heap.size encS 1 9 A1' n1' c1' (splitB c s)∧Lo w w':=by
  subst b
  have h:=c_strings_Split w s [c] a oR hE
  rw [split_eqB] at h
  exact h
end Go.Proofs.YtndcchndcghmoaaGreatDoor
namespace Go.Proofs.YtndcchndcghmoaaGreatDoor
open Go Go.RowKit Fw
set_option maxRecDepth 10000
set_option maxHeartbeats 2000000
set_option linter.unusedVariables false
variable {Ac1 Ac2 : Option Addr} {nc1 cc1 Bc1 nc2 cc2 Bc2 : Nat}
theorem bld37_0_1 (a0_0:Value) (a0_1:Value) (a0_2:Value) (a0_3:Value) (a0_4:Value) (a1_0:Value) (a1_1:Value) (a1_2:Value):Tryz.prog.built 37 [(0,.agg (List.toArray [a0_0,a0_1,a0_2,a0_3,a0_4])),(1,.agg (List.toArray [a1_0,a1_1,a1_2]))]=some (List.toArray [a0_0,a0_1,a0_2,a0_3,a0_4,a1_0,a1_1,a1_2]):=by kernel_rfl
theorem ent83:Ent Tryz.prog 83:=en Tryz.func83
theorem ent84:Ent Tryz.prog 84:=en Tryz.func84
theorem ent85:Ent Tryz.prog 85:=en Tryz.func85
theorem ent86:Ent Tryz.prog 86:=en Tryz.func86
theorem c_spec_l34Own (w:World) (c:Console) (y:SlR w Bc1 encLMap 3 Ac1 nc1 cc1 c.Library.Maps) (z:SlR w Bc2 encAway 2 Ac2 nc2 cc2 c.Library.Away) (aq:(nc1:Int)≤1048576) (ar:(nc2:Int)≤1048576):Calls Tryz.prog 41 #[.agg (List.toArray (cCn Ac1 nc1 cc1 Ac2 nc2 cc2 c))] w fun e w'=>∃ A1' n1' c1' A2' n2' c2',e=.returned (.agg (List.toArray (cCn A1' n1' c1' A2' n2' c2' c)))∧SlO w' w.heap.size encLMap 3 102 A1' n1' c1' c.Library.Maps∧SlO w' w.heap.size encAway 2 129 A2' n2' c2' c.Library.Away∧Dj A1' A2'∧Lo w w':=by
 refine cW 9 Tryz.func41 G G G ?_
 have V:=y.bound
 have X:=y.len
 have T:=y.bd
 have W:=z.bound
 have Y:=z.len
 have U:=z.bd
 refine Ws (Wr (bx G ?_))
 intro g1 w2 ap F au O
 refine Qa (l:=zCn) tz37 G ?_
 intro M t ag b al N
 refine Qn (Ws (WA (Kp (fun b_=>b_=M) t) (fun f' w'=>∃ (j:Option Addr) (h:Nat) (u:Nat) (k:Option Addr) (i:Nat) (v:Nat),At f' [(2,pt M)]∧(Kp (fun b_=>b_=M) t w')∧(SlO w' t.heap.size encLMap 3 102 j h u c.Library.Maps)∧(SlO w' t.heap.size encAway 2 129 k i v c.Library.Away)∧(Blk w' M 37 (cCn j h u k i v c))∧Dj j k∧(h=(c.Library.Maps).length)∧((h:Int)≤9223372036854775807)∧(i=(c.Library.Away).length)∧((i:Int)≤9223372036854775807)) mo ?_ ?_))
 ·intro ac a
  have am:=a.size
  refine Ak 0 G (kr a) (fun w' hw'=>fA fa37_0 G)<|Ak 1 G (kr a) (fun w' hw'=>r_lda (l:=(cLb Ac1 nc1 cc1 Ac2 nc2 cc2 c.Library)) agg34 G (fun _ _ hu=>((O.lo b).kn hw' oB).cells (vs:=(cLb Ac1 nc1 cc1 Ac2 nc2 cc2 c.Library)) G hu) G)<|Ak 3 G (kr a) (fun w' hw'=>fA fa37_1 G)<|Ak 4 G (kr a) (fun w' hw'=>r_lda (l:=[str c.Log.Durable,str c.Log.Pending,i6 c.Log.Count]) agg35 G (fun _ _ hu=>((O.lo b).kn hw' oB).cells (vs:=[str c.Log.Durable,str c.Log.Pending,i6 c.Log.Count]) G hu) G)<|Ab 2 G (Qc ent79 (c_spec_l32Own ac c.Library (((y.lo F).lo b).lo a) (((z.lo F).lo b).lo a) oB oB) G ?_)
  rintro e aw ⟨A,L,C,B,s,m,rfl,n,d,E,r⟩
  refine ⟨_,G,?_⟩
  have aa:=r.size
  have f:=((kr a:Kp (fun b_=>b_=M) t _)).lo r
  have H:=n.len
  have I:=n.rd.bound
  have J:=d.len
  have K:=d.rd.bound
  refine Qn ⟨f,_,G,(Ak 5 G f (fun w' hw'=>r_build (vs:=[(0,.agg (List.toArray (cLb A L C B s m c.Library))),(1,.agg (List.toArray [str c.Log.Durable,str c.Log.Pending,i6 c.Log.Count]))]) G (bld37_0_1 _ _ _ _ _ _ _ _))<|Ab 6 G (Qw (o:=0) (vs:=(cCn A L C B s m c)) agg37.2 G G G G ((N.lo a).lo r) ler G ?_))⟩
  intro an g Z D
  have q:=f.step g (fun _ _ e=>e)
  refine Qn ⟨q,_,G,(Ad oC (⟨A,L,C,B,s,m,⟨G,trivial⟩,q,((n.kn g).down),((d.kn g).down),D,E,H,I,J,K⟩))⟩
 rintro ae ao ⟨j,h,u,k,i,v,x,p,Q,R,S,P,ah,ai,aj,ak⟩
 rw [← sA x]
 have ab:=p.size
 refine We (retC G G agg37 S G (⟨j,h,u,k,i,v,eR G,(Q.down),(R.down),P,((((lr w).lo F).lo b).new p oB)⟩))
theorem c_spec_l34Run (w:World) (c:Console) (aT:SlO w Bc1 encLMap 3 102 Ac1 nc1 cc1 c.Library.Maps) (aU:SlO w Bc2 encAway 2 129 Ac2 nc2 cc2 c.Library.Away) (s:List UInt8) (hdc_Library_Maps_c2:Dj Ac1 Ac2) (iV:(nc1:Int)≤8) (iW:(nc2:Int)≤8) (iX:LibOK c.Library) (iY:(s.length:Int)≤200):Calls Tryz.prog 44 #[.agg (List.toArray (cCn Ac1 nc1 cc1 Ac2 nc2 cc2 c)),str s] w fun e w'=>∃ A1' n1' c1' A2' n2' c2',e=.returned (.tuple (List.toArray [.agg (List.toArray (cCn A1' n1' c1' A2' n2' c2' ((runS c s).1))),str ((runS c s).2)]))∧SlO w' Bc1 encLMap 3 102 A1' n1' c1' (((runS c s).1).Library.Maps)∧SlO w' Bc2 encAway 2 129 A2' n2' c2' (((runS c s).1).Library.Away)∧Dj A1' A2'∧(Og A1' Ac1 Ac2 w)∧(Og A2' Ac1 Ac2 w)∧Lo w w':=by
 refine cW 109 Tryz.func44 G G G ?_
 have fg:=aT.rd.cap
 have fc:=aT.rd.bd
 have fe:=aT.rd.bound
 have gf:=aT.len
 have e9:=aT.bd
 have fh:=aU.rd.cap
 have fd:=aU.rd.bd
 have ff:=aU.rd.bound
 have gh:=aU.len
 have fa:=aU.bd
 refine Ws (Wr (bx G ?_))
 intro B w2 iU b5 iZ fb
 have aV:=nE (g:=B) aT
 have aa:=nE (g:=B) aU
 refine Qa (l:=zCn) tz37 G ?_
 intro a cl hZ bJ iw eP
 have E:=nE (g:=a) (aT.lo b5)
 have F:=nE (g:=a) (aU.lo b5)
 refine Q (r_as (v:=str ([]:List UInt8)) G)<|Qn (Ws ?_)
 have V:=(aT.lo b5).lo bJ
 have X:=(aU.lo b5).lo bJ
 refine Wr (Q (mS G)<|Qc ent55 (c_spec_l1Split cl s (32:UInt8) oD) G ?_)
 rintro e i1 ⟨u,bL,bK,rfl,bI,ab⟩
 refine ⟨_,G,?_⟩
 have iy:=ab.size
 have ic:=bI.len
 have ie:=bI.rd.bound
 have il:=splitB_len (32:UInt8) s
 refine Q (aL G)<|Qn (Ws (Wr (Ql (vs:=[]) (L:=([]:List Int)) (enc:=encI) tel93 (fun _=>G) G G G oG ?_)))
 intro ap bz ia an bM
 have iz:=an.size
 refine Q (aL G)<|Qn (Ws (Ws (Wr (Q (aI G)<|Qn (Wl (WL (σ:=Nat × (Option Addr) × Nat × Nat) (fun g=>[(1,str s),(2,pt B),(4,pt a),(6,.slice u bL bK),(7,.slice g.2.1 g.2.2.1 g.2.2.2),(8,i6 (g.1:Int))]) (fun g w'=>(Lo w w')∧(Blk w' B 37 (cCn Ac1 nc1 cc1 Ac2 nc2 cc2 c))∧(SlO w' Bc1 encLMap 3 102 Ac1 nc1 cc1 c.Library.Maps)∧(SlO w' Bc2 encAway 2 129 Ac2 nc2 cc2 c.Library.Away)∧(Blk w' a 37 zCn)∧(SlO w' cl.heap.size encS 1 9 u bL bK (splitB (32:UInt8) s))∧(SlO w' w.heap.size encI 1 3 g.2.1 g.2.2.1 g.2.2.2 (nmW s g.1))∧(¬g.2.1=some ⟨B,0,none⟩)∧(∀ b_,g.2.1=some ⟨b_,0,none⟩→¬Ac1=some ⟨b_,0,none⟩)∧(∀ b_,g.2.1=some ⟨b_,0,none⟩→¬Ac2=some ⟨b_,0,none⟩)∧(¬g.2.1=some ⟨a,0,none⟩)∧(∀ b_,g.2.1=some ⟨b_,0,none⟩→¬u=some ⟨b_,0,none⟩)∧((1≤g.1∧g.1≤(splitB (32:UInt8) s).length)∧AllNum (((splitB (32:UInt8) s).take g.1).drop 1))) (fun g=>(splitB (32:UInt8) s).length-g.1) (1,(pA ap),0,0) ?_ ?_ ?_))))))
 ·exact (At.r G)
 ·show (Lo w bz)∧(Blk bz B 37 (cCn Ac1 nc1 cc1 Ac2 nc2 cc2 c))∧(SlO bz Bc1 encLMap 3 102 Ac1 nc1 cc1 c.Library.Maps)∧(SlO bz Bc2 encAway 2 129 Ac2 nc2 cc2 c.Library.Away)∧(Blk bz a 37 zCn)∧(SlO bz cl.heap.size encS 1 9 u bL bK (splitB (32:UInt8) s))∧(SlO bz w.heap.size encI 1 3 (pA ap) 0 0 (nmW s 1))∧(¬(pA ap)=some ⟨B,0,none⟩)∧(∀ b_,(pA ap)=some ⟨b_,0,none⟩→¬Ac1=some ⟨b_,0,none⟩)∧(∀ b_,(pA ap)=some ⟨b_,0,none⟩→¬Ac2=some ⟨b_,0,none⟩)∧(¬(pA ap)=some ⟨a,0,none⟩)∧(∀ b_,(pA ap)=some ⟨b_,0,none⟩→¬u=some ⟨b_,0,none⟩)∧((1≤1∧1≤(splitB (32:UInt8) s).length)∧AllNum (((splitB (32:UInt8) s).take 1).drop 1))
  exact ⟨(((((lr w).lo b5).lo bJ).lo ab).lo an),((fb.lo bJ).lo ab).lo an,((V.lo ab).lo an),((X.lo ab).lo an),((eP.lo ab).lo an),bI.lo an,(oq (bM.down) (by exact nm_one s)),(nE bM),(fun b_ h h'=>(nE (g:=ap) (V.lo ab)) (h'.trans h.symm)),(fun b_ h h'=>(nE (g:=ap) (X.lo ab)) (h'.trans h.symm)),(nE bM),(fun b_ h h'=>(nE (g:=ap) bI) (h'.trans h.symm)),(by (try dsimp only); exact ⟨oB,allN_zero _⟩)⟩
 ·rintro ⟨k,y,cr,eF⟩ e6 z eO
  obtain ⟨Z,q,H,I,t,m,j,cE,T,U,p,cF,eT⟩:(Lo w z)∧(Blk z B 37 (cCn Ac1 nc1 cc1 Ac2 nc2 cc2 c))∧(SlO z Bc1 encLMap 3 102 Ac1 nc1 cc1 c.Library.Maps)∧(SlO z Bc2 encAway 2 129 Ac2 nc2 cc2 c.Library.Away)∧(Blk z a 37 zCn)∧(SlO z cl.heap.size encS 1 9 u bL bK (splitB (32:UInt8) s))∧(SlO z w.heap.size encI 1 3 y cr eF (nmW s k))∧(¬y=some ⟨B,0,none⟩)∧Dj y Ac1∧Dj y Ac2∧(¬y=some ⟨a,0,none⟩)∧Dj y u∧((1≤k∧k≤(splitB (32:UInt8) s).length)∧AllNum (((splitB (32:UInt8) s).take k).drop 1)):=eO
  refine (?_:W _ _ _ _ _ (act _ (sets e6 [(1,str s),(2,pt B),(4,pt a),(6,.slice u bL bK),(7,.slice y cr eF),(8,i6 (k:Int))])) _)
  have hG:=Z.size
  have ig:=q.lt
  have ii:=t.lt
  have ij:=j.len
  have ik:=j.rd.bound
  have im:1≤k∧k≤(splitB (32:UInt8) s).length:=eT.1
  have io:(nmW s k).length+1=k:=nums_len (s:=s) (k:=k) oB
  have ip:(splitB (32:UInt8) s).length≤s.length+1:=splitB_max (32:UInt8) s
  refine Ws (Ws (Wr (Q (mI G)<|Q (mL G)<|Q (r_len und44 G)<|Q (r_lt G G)<|Qn (Wd G (fun e7=>?_) (fun e7=>?_)))))
  ·refine Wk (Ws (Wl (Ws (Wr (Q (mL G)<|Q (mI G)<|?_)))))
   have cG:=(m.rd).elem (i:=k) oB
   have iq:=splitB_el cG
   refine Q (rX tsl44 (m.rd) G G oB)<|Q (r_ld (v:=str (gt (splitB (32:UInt8) s) k)) sca9 G ((m.rd).cell0 cG G))<|Qv ent83 (c_spec_ParseInt z (gt (splitB (32:UInt8) s) k)) G fun i7 x iA=>?_
   have cD:=Z.lo x
   have ir:-999999≤(readN (gt (splitB (32:UInt8) s) k)).1∧(readN (gt (splitB (32:UInt8) s) k)).1≤999999:=readN_rng (gt (splitB (32:UInt8) s) k)
   refine Q (mT G)<|Q (xI G G)<|Q (xB G G)<|Q (aI G)<|Q (aB G)<|Qn (Ws (Ws (Wr (Q (mB G)<|Q (rN G)<|Qn (Wb G (fun cR=>?_) (fun cR=>?_))))))
   ·have iu:=bnot_t cR
    refine Ws (Wr (Q (lG agg37 G (q.lo x) G)<|Qw (o:=0) (vs:=(cCn Ac1 nc1 cc1 Ac2 nc2 cc2 c)) agg37.2 G G G G (t.lo x) ler G ?_))
    intro i8 b6 ix eQ
    refine Q (r_as (v:=str ([63]:List UInt8)) G)<|Qn (We (retCT G G agg37 eQ G (v:=str _) G ?_))
    refine ⟨Ac1,nc1,cc1,Ac2,nc2,cc2,eR (eT2 (e8 ?_ ?_ ?_ ?_ ?_ ?_) (eS ?_)),(oq ((H.lo x).kd b6 E) ?_),(oq ((I.lo x).kd b6 F) ?_),hdc_Library_Maps_c2,(fun b_ h_=>.inl (.inl h_)),(fun b_ h_=>.inl (.inr h_)),(cD.new b6)⟩ <;> (rw [run_bad (k:=k) oB ‹_[_]?=some _› ‹(!_)=true›]; try rfl)
   ·have iv:=bnot_f cR
    refine Wk (Wr (Q (mL G)<|Q (mI G)<|Ql (vs:=[i6 ((readN (gt (splitB (32:UInt8) s) k)).1)]) (L:=([(readN (gt (splitB (32:UInt8) s) k)).1]:List Int)) (enc:=encI) tel93 (fun _=>G) G G G oG ?_))
    intro iT ja ib A eN
    have iB:=A.size
    refine Qp tel93 G G ((j.lo x).lo A) (eN.rd) (fun _=>G) oB oB ?_
    intro D ct ao Y da ac
    have gP:=Y.size
    have dm:Dj D Ac1:=fun b_ e' h'=>(ac b_ e').elim (fun h=>T b_ (h.trans e') h') (fun h=>by have:=((H.lo x).lo A).base_le h'; omega)
    have dn:Dj D Ac2:=fun b_ e' h'=>(ac b_ e').elim (fun h=>U b_ (h.trans e') h') (fun h=>by have:=((I.lo x).lo A).base_le h'; omega)
    have dp:¬D=some ⟨B,0,none⟩:=fun e'=>(ac B e').elim (fun h=>cE (h.trans e')) (fun h=>by have:=((q.lo x).lo A).lt; omega)
    have dq:¬D=some ⟨a,0,none⟩:=fun e'=>(ac a e').elim (fun h=>p (h.trans e')) (fun h=>by have:=((t.lo x).lo A).lt; omega)
    have dr:Dj D u:=fun b_ e' h'=>(ac b_ e').elim (fun h=>cF b_ (h.trans e') h') (fun h=>by have:=((m.lo x).lo A).base_le h'; omega)
    refine Q (aL G)<|Qn (Wr (Q (mI G)<|Q (r_add G G oB)<|Q (aI G)<|Qn (⟨(k+1,D,cr+1,ct),_,G,(At.r G),(show (Lo w ao)∧(Blk ao B 37 (cCn Ac1 nc1 cc1 Ac2 nc2 cc2 c))∧(SlO ao Bc1 encLMap 3 102 Ac1 nc1 cc1 c.Library.Maps)∧(SlO ao Bc2 encAway 2 129 Ac2 nc2 cc2 c.Library.Away)∧(Blk ao a 37 zCn)∧(SlO ao cl.heap.size encS 1 9 u bL bK (splitB (32:UInt8) s))∧(SlO ao w.heap.size encI 1 3 D (cr+1) ct (nmW s (k+1)))∧(¬D=some ⟨B,0,none⟩)∧Dj D Ac1∧Dj D Ac2∧(¬D=some ⟨a,0,none⟩)∧Dj D u∧((1≤k+1∧k+1≤(splitB (32:UInt8) s).length)∧AllNum (((splitB (32:UInt8) s).take (k+1)).drop 1)) from ⟨((cD.lo A).step Y (fun i_ hi_ e'=>by have:=((j.lo x).lo A).base_le e'; first | omega | exact e' | exact .inl e' | exact .inr e')),(((q.lo x).lo A).kp Y (fun e'=>cE e')),(((H.lo x).lo A).kp Y (fun b_ hb e'=>T b_ e' hb)),(((I.lo x).lo A).kp Y (fun b_ hb e'=>U b_ e' hb)),(((t.lo x).lo A).kp Y (fun e'=>p e')),(((m.lo x).lo A).kp Y (fun b_ hb e'=>cF b_ e' hb)),(oq da (by exact nums_next oB ‹_[_]?=some _›)),dp,dm,dn,dq,dr,?_⟩),?_⟩)))
    ·exact (by (try dsimp only); exact ⟨oB,allN_next oB (And.right ‹_∧AllNum _›) ‹_[_]?=some _› oY⟩)
    ·exact oH
  ·refine Wx (xh (Ws (Ws (Wr (Q (mL G)<|Q (r_len und93 G)<|Qn (Wl (Ws (Wr (Q (r_eq G G)<|Q (aB G)<|Qn (Wd G (fun eG=>?_) (fun eG=>?_)))))))))))
   ·refine Ws (WA (Kp (fun b_=>b_=a) z) (fun f' w'=>At f' [(2,pt B),(4,pt a),(5,str (spec_l34Word c.Library s))]∧(Kp (fun b_=>b_=a) z w')∧(Blk w' a 37 (cCn Ac1 nc1 cc1 Ac2 nc2 cc2 c))) mo ?_ ?_)
    ·intro eU C
     have gQ:=C.size
     refine Ak 0 G (kr C) (fun w' hw'=>lG agg37 G (q.kn hw' oB) G)<|Ak 1 G (kr C) (fun w' hw'=>fA fa37_0 G)<|Ak 2 G (kr C) (fun w' hw'=>r_lda (l:=(cLb Ac1 nc1 cc1 Ac2 nc2 cc2 c.Library)) agg34 G (fun _ _ hu=>(q.kn hw' oB).cells (vs:=(cLb Ac1 nc1 cc1 Ac2 nc2 cc2 c.Library)) G hu) G)<|Ak 3 G (kr C) (fun w' hw'=>mS G)<|Ab 4 G (Qv ent84 (c_spec_l34Word eU c.Library ((H.lo C).rd) ((I.lo C).rd) s oB oB oJ) G fun iC b4 gR=>?_)
     have bR:=((kr C:Kp (fun b_=>b_=a) z _)).lo b4
     refine Qn ⟨bR,_,G,(Ab 5 G (Qw (o:=0) (vs:=(cCn Ac1 nc1 cc1 Ac2 nc2 cc2 c)) agg37.2 G G G G ((t.lo C).lo b4) ler G ?_))⟩
     intro iD dZ gw db
     have bb:=bR.step dZ (fun _ _ e=>e)
     refine Qn ⟨bb,_,G,(Ak 6 G bb (fun w' hw'=>aS G)<|Ad oC (⟨(At.r G),bb,db⟩))⟩
    rintro hH iE ⟨cm,aM,ej⟩
    rw [← sA cm]
    have gS:=aM.size
    refine We (retCT G G agg37 ej G (v:=str _) G ?_)
    refine ⟨Ac1,nc1,cc1,Ac2,nc2,cc2,eR (eT2 (e8 ?_ ?_ ?_ ?_ ?_ ?_) (eS ?_)),(oq (H.kd aM E) ?_),(oq (I.kd aM F) ?_),hdc_Library_Maps_c2,(fun b_ h_=>.inl (.inl h_)),(fun b_ h_=>.inl (.inr h_)),(Z.new aM oB)⟩ <;> (rw [run_0 (k:=k) oB (And.right ‹_∧AllNum _›) oB]; try rfl)
   ·refine Ws (Wr (Q (r_eq G G)<|Q (aB G)<|Qn (Wd G (fun eH=>?_) (fun eH=>?_))))
    ·refine Ws (WA (Kp (fun b_=>b_=a) z) (fun f' w'=>∃ (J:Option Addr) (aC:Nat) (bA:Nat) (K:Option Addr) (aD:Nat) (bB:Nat),At f' [(2,pt B),(4,pt a),(5,str ((spec_l34One c (gt (splitB (32:UInt8) s) 0) (gt (nmW s k) 0)).2))]∧(Kp (fun b_=>b_=a) z w')∧(SlO w' Bc1 encLMap 3 102 J aC bA (((spec_l34One c (gt (splitB (32:UInt8) s) 0) (gt (nmW s k) 0)).1).Library.Maps))∧(Og J Ac1 Ac2 w)∧(SlO w' Bc2 encAway 2 129 K aD bB (((spec_l34One c (gt (splitB (32:UInt8) s) 0) (gt (nmW s k) 0)).1).Library.Away))∧(Og K Ac1 Ac2 w)∧(Blk w' a 37 (cCn J aC bA K aD bB ((spec_l34One c (gt (splitB (32:UInt8) s) 0) (gt (nmW s k) 0)).1)))∧(¬J=some ⟨B,0,none⟩)∧(¬J=some ⟨a,0,none⟩)∧(¬K=some ⟨B,0,none⟩)∧(¬K=some ⟨a,0,none⟩)∧Dj J u∧Dj J y∧Dj J K∧Dj K u∧Dj K y∧((splitB (32:UInt8) s)[0]?=some (gt (splitB (32:UInt8) s) 0))∧((gt (splitB (32:UInt8) s) 0).length≤s.length)∧((gt (splitB (32:UInt8) s) 0).length≤s.length)∧((nmW s k)[0]?=some (gt (nmW s k) 0))∧(aC=(((spec_l34One c (gt (splitB (32:UInt8) s) 0) (gt (nmW s k) 0)).1).Library.Maps).length)∧((aC:Int)≤9223372036854775807)∧(aD=(((spec_l34One c (gt (splitB (32:UInt8) s) 0) (gt (nmW s k) 0)).1).Library.Away).length)∧((aD:Int)≤9223372036854775807)) mo ?_ ?_)
     ·intro eW n
      have gT:=n.size
      refine Ak 0 G (kr n) (fun w' hw'=>lG agg37 G (q.kn hw' oB) G)<|Ak 1 G (kr n) (fun w' hw'=>mL G)<|?_
      have bt:=((m.lo n).rd).elem (i:=0) oB
      have gk:=splitB_gt (32:UInt8) s
      have b7:=splitB_el bt
      refine Ak 2 G (kr n) (fun w' hw'=>rX tsl44 ((m.kn hw' oB).rd) G G oB)<|Ak 3 G (kr n) (fun w' hw'=>r_ld (v:=str (gt (splitB (32:UInt8) s) 0)) sca9 G (((m.kn hw' oB).rd).cell0 bt G))<|Ak 4 G (kr n) (fun w' hw'=>mL G)<|?_
      have b9:=((j.lo n).rd).elem (i:=0) oB
      refine Ak 5 G (kr n) (fun w' hw'=>rX tsl93 ((j.kd hw' p).rd) G G oB)<|Ak 6 G (kr n) (fun w' hw'=>r_ld (v:=i6 (gt (nmW s k) 0)) sca3 G (((j.kd hw' p).rd).cell0 b9 G))<|Ab 7 G (Qc ent85 (c_spec_l34One eW c (H.lo n) (I.lo n) (gt (splitB (32:UInt8) s) 0) (gt (nmW s k) 0) hdc_Library_Maps_c2 oB oB) G ?_)
      rintro e iF ⟨aq,cH,cu,ar,cI,cw,rfl,aW,aX,du,ae,ag,bh⟩
      refine ⟨_,G,?_⟩
      have gU:=bh.size
      have aN:=((kr n:Kp (fun b_=>b_=a) z _)).lo bh
      have dv:Dj aq u:=fun b_ e' h'=>(ae b_ e').elim (fun h=>h.elim (fun h=>(dj V (m.lo n)) b_ h h') (fun h=>(dj X (m.lo n)) b_ h h')) (fun h=>by have:=(m.lo n).base_le h'; omega)
      have dw:Dj aq y:=fun b_ e' h'=>(ae b_ e').elim (fun h=>h.elim (fun h=>(fun b_ h h'=>T b_ h' h) b_ h h') (fun h=>(fun b_ h h'=>U b_ h' h) b_ h h')) (fun h=>by have:=(j.lo n).base_le h'; omega)
      have dx:¬aq=some ⟨B,0,none⟩:=fun e'=>(ae B e').elim (fun h=>h.elim (fun h=>aV h) (fun h=>aa h)) (fun h=>by have:=(q.lo n).lt; omega)
      have bS:¬aq=some ⟨a,0,none⟩:=fun e'=>(ae a e').elim (fun h=>h.elim (fun h=>E h) (fun h=>F h)) (fun h=>by have:=(t.lo n).lt; omega)
      have dy:Dj ar u:=fun b_ e' h'=>(ag b_ e').elim (fun h=>h.elim (fun h=>(dj V (m.lo n)) b_ h h') (fun h=>(dj X (m.lo n)) b_ h h')) (fun h=>by have:=(m.lo n).base_le h'; omega)
      have dz:Dj ar y:=fun b_ e' h'=>(ag b_ e').elim (fun h=>h.elim (fun h=>(fun b_ h h'=>T b_ h' h) b_ h h') (fun h=>(fun b_ h h'=>U b_ h' h) b_ h h')) (fun h=>by have:=(j.lo n).base_le h'; omega)
      have dA:¬ar=some ⟨B,0,none⟩:=fun e'=>(ag B e').elim (fun h=>h.elim (fun h=>aV h) (fun h=>aa h)) (fun h=>by have:=(q.lo n).lt; omega)
      have bT:¬ar=some ⟨a,0,none⟩:=fun e'=>(ag a e').elim (fun h=>h.elim (fun h=>E h) (fun h=>F h)) (fun h=>by have:=(t.lo n).lt; omega)
      have d1:=aW.len
      have d2:=aW.rd.bound
      have d3:=aX.len
      have d4:=aX.rd.bound
      refine Qn ⟨aN,_,G,(Ak 8 G aN (fun w' hw'=>xG G G)<|Ak 9 G aN (fun w' hw'=>xS G G)<|Ab 10 G (Qw (o:=0) (vs:=(cCn aq cH cu ar cI cw ((spec_l34One c (gt (splitB (32:UInt8) s) 0) (gt (nmW s k) 0)).1))) agg37.2 G G G G ((t.lo n).lo bh) ler G ?_))⟩
      intro iG bi gx de
      have bc:=aN.step bi (fun _ _ e=>e)
      refine Qn ⟨bc,_,G,(Ak 11 G bc (fun w' hw'=>aS G)<|Ad oC (⟨aq,cH,cu,ar,cI,cw,(At.r G),bc,(aW.kd bi bS),(fun b_ h_=>(ae b_ h_).elim (fun h=>h.elim (fun h=>((show Og Ac1 Ac1 Ac2 w from (fun b_ h_=>.inl (.inl h_))) b_ h)) (fun h=>((show Og Ac2 Ac1 Ac2 w from (fun b_ h_=>.inl (.inr h_))) b_ h))) (fun h=>.inr oB)),(aX.kd bi bT),(fun b_ h_=>(ag b_ h_).elim (fun h=>h.elim (fun h=>((show Og Ac1 Ac1 Ac2 w from (fun b_ h_=>.inl (.inl h_))) b_ h)) (fun h=>((show Og Ac2 Ac1 Ac2 w from (fun b_ h_=>.inl (.inr h_))) b_ h))) (fun h=>.inr oB)),de,dx,bS,dA,bT,dv,dw,du,dy,dz,bt,b7,b7,b9,d1,d2,d3,d4⟩))⟩
     rintro hI iH ⟨J,aC,bA,K,aD,bB,cn,bN,ek,cS,el,cT,em,fj,fk,fl,fm,fo,fp,dt,fq,fr,gD,gi,gj,gE,fR,fS,fT,fU⟩
     rw [← sA cn]
     have gW:=bN.size
     refine We (retCT G G agg37 em G (v:=str _) G ?_)
     refine ⟨J,aC,bA,K,aD,bB,eR (eT2 (e8 ?_ ?_ ?_ ?_ ?_ ?_) (eS ?_)),(oq ek ?_),(oq el ?_),dt,cS,cT,(Z.new bN oB)⟩ <;> (rw [run_1 (k:=k) oB (And.right ‹_∧AllNum _›) oB]; try rfl)
    ·refine Ws (Wr (Q (r_eq G G)<|Q (aB G)<|Qn (Wd G (fun eJ=>?_) (fun eJ=>?_))))
     ·refine Ws (WA (Kp (fun b_=>b_=a) z) (fun f' w'=>∃ (M:Option Addr) (aE:Nat) (bC:Nat) (N:Option Addr) (aF:Nat) (bD:Nat),At f' [(2,pt B),(4,pt a),(5,str ((spec_l34Two c (gt (splitB (32:UInt8) s) 0) (gt (nmW s k) 0) (gt (nmW s k) 1)).2))]∧(Kp (fun b_=>b_=a) z w')∧(SlO w' Bc1 encLMap 3 102 M aE bC (((spec_l34Two c (gt (splitB (32:UInt8) s) 0) (gt (nmW s k) 0) (gt (nmW s k) 1)).1).Library.Maps))∧(Og M Ac1 Ac2 w)∧(SlO w' Bc2 encAway 2 129 N aF bD (((spec_l34Two c (gt (splitB (32:UInt8) s) 0) (gt (nmW s k) 0) (gt (nmW s k) 1)).1).Library.Away))∧(Og N Ac1 Ac2 w)∧(Blk w' a 37 (cCn M aE bC N aF bD ((spec_l34Two c (gt (splitB (32:UInt8) s) 0) (gt (nmW s k) 0) (gt (nmW s k) 1)).1)))∧(¬M=some ⟨B,0,none⟩)∧(¬M=some ⟨a,0,none⟩)∧(¬N=some ⟨B,0,none⟩)∧(¬N=some ⟨a,0,none⟩)∧Dj M u∧Dj M y∧Dj M N∧Dj N u∧Dj N y∧((splitB (32:UInt8) s)[0]?=some (gt (splitB (32:UInt8) s) 0))∧((gt (splitB (32:UInt8) s) 0).length≤s.length)∧((gt (splitB (32:UInt8) s) 0).length≤s.length)∧((nmW s k)[0]?=some (gt (nmW s k) 0))∧((nmW s k)[1]?=some (gt (nmW s k) 1))∧(aE=(((spec_l34Two c (gt (splitB (32:UInt8) s) 0) (gt (nmW s k) 0) (gt (nmW s k) 1)).1).Library.Maps).length)∧((aE:Int)≤9223372036854775807)∧(aF=(((spec_l34Two c (gt (splitB (32:UInt8) s) 0) (gt (nmW s k) 0) (gt (nmW s k) 1)).1).Library.Away).length)∧((aF:Int)≤9223372036854775807)) mo ?_ ?_)
      ·intro eX f
       have gX:=f.size
       refine Ak 0 G (kr f) (fun w' hw'=>lG agg37 G (q.kn hw' oB) G)<|Ak 1 G (kr f) (fun w' hw'=>mL G)<|?_
       have bu:=((m.lo f).rd).elem (i:=0) oB
       have gn:=splitB_gt (32:UInt8) s
       have b8:=splitB_el bu
       refine Ak 2 G (kr f) (fun w' hw'=>rX tsl44 ((m.kn hw' oB).rd) G G oB)<|Ak 3 G (kr f) (fun w' hw'=>r_ld (v:=str (gt (splitB (32:UInt8) s) 0)) sca9 G (((m.kn hw' oB).rd).cell0 bu G))<|Ak 4 G (kr f) (fun w' hw'=>mL G)<|?_
       have ca:=((j.lo f).rd).elem (i:=0) oB
       refine Ak 5 G (kr f) (fun w' hw'=>rX tsl93 ((j.kd hw' p).rd) G G oB)<|Ak 6 G (kr f) (fun w' hw'=>r_ld (v:=i6 (gt (nmW s k) 0)) sca3 G (((j.kd hw' p).rd).cell0 ca G))<|Ak 7 G (kr f) (fun w' hw'=>mL G)<|?_
       have cd:=((j.lo f).rd).elem (i:=1) oB
       refine Ak 8 G (kr f) (fun w' hw'=>rX tsl93 ((j.kd hw' p).rd) G G oB)<|Ak 9 G (kr f) (fun w' hw'=>r_ld (v:=i6 (gt (nmW s k) 1)) sca3 G (((j.kd hw' p).rd).cell0 cd G))<|Ab 10 G (Qc ent86 (c_spec_l34Two eX c (H.lo f) (I.lo f) (gt (splitB (32:UInt8) s) 0) (gt (nmW s k) 0) (gt (nmW s k) 1) hdc_Library_Maps_c2 oB oB) G ?_)
       rintro e iI ⟨au,cJ,cx,aw,cK,cy,rfl,aY,aZ,dC,ah,ai,bj⟩
       refine ⟨_,G,?_⟩
       have gY:=bj.size
       have aO:=((kr f:Kp (fun b_=>b_=a) z _)).lo bj
       have dD:Dj au u:=fun b_ e' h'=>(ah b_ e').elim (fun h=>h.elim (fun h=>(dj V (m.lo f)) b_ h h') (fun h=>(dj X (m.lo f)) b_ h h')) (fun h=>by have:=(m.lo f).base_le h'; omega)
       have dE:Dj au y:=fun b_ e' h'=>(ah b_ e').elim (fun h=>h.elim (fun h=>(fun b_ h h'=>T b_ h' h) b_ h h') (fun h=>(fun b_ h h'=>U b_ h' h) b_ h h')) (fun h=>by have:=(j.lo f).base_le h'; omega)
       have dF:¬au=some ⟨B,0,none⟩:=fun e'=>(ah B e').elim (fun h=>h.elim (fun h=>aV h) (fun h=>aa h)) (fun h=>by have:=(q.lo f).lt; omega)
       have bU:¬au=some ⟨a,0,none⟩:=fun e'=>(ah a e').elim (fun h=>h.elim (fun h=>E h) (fun h=>F h)) (fun h=>by have:=(t.lo f).lt; omega)
       have dG:Dj aw u:=fun b_ e' h'=>(ai b_ e').elim (fun h=>h.elim (fun h=>(dj V (m.lo f)) b_ h h') (fun h=>(dj X (m.lo f)) b_ h h')) (fun h=>by have:=(m.lo f).base_le h'; omega)
       have dH:Dj aw y:=fun b_ e' h'=>(ai b_ e').elim (fun h=>h.elim (fun h=>(fun b_ h h'=>T b_ h' h) b_ h h') (fun h=>(fun b_ h h'=>U b_ h' h) b_ h h')) (fun h=>by have:=(j.lo f).base_le h'; omega)
       have dI:¬aw=some ⟨B,0,none⟩:=fun e'=>(ai B e').elim (fun h=>h.elim (fun h=>aV h) (fun h=>aa h)) (fun h=>by have:=(q.lo f).lt; omega)
       have bV:¬aw=some ⟨a,0,none⟩:=fun e'=>(ai a e').elim (fun h=>h.elim (fun h=>E h) (fun h=>F h)) (fun h=>by have:=(t.lo f).lt; omega)
       have d5:=aY.len
       have d6:=aY.rd.bound
       have d7:=aZ.len
       have d8:=aZ.rd.bound
       refine Qn ⟨aO,_,G,(Ak 11 G aO (fun w' hw'=>xG G G)<|Ak 12 G aO (fun w' hw'=>xS G G)<|Ab 13 G (Qw (o:=0) (vs:=(cCn au cJ cx aw cK cy ((spec_l34Two c (gt (splitB (32:UInt8) s) 0) (gt (nmW s k) 0) (gt (nmW s k) 1)).1))) agg37.2 G G G G ((t.lo f).lo bj) ler G ?_))⟩
       intro iJ bl gy df
       have be:=aO.step bl (fun _ _ e=>e)
       refine Qn ⟨be,_,G,(Ak 14 G be (fun w' hw'=>aS G)<|Ad oC (⟨au,cJ,cx,aw,cK,cy,(At.r G),be,(aY.kd bl bU),(fun b_ h_=>(ah b_ h_).elim (fun h=>h.elim (fun h=>((show Og Ac1 Ac1 Ac2 w from (fun b_ h_=>.inl (.inl h_))) b_ h)) (fun h=>((show Og Ac2 Ac1 Ac2 w from (fun b_ h_=>.inl (.inr h_))) b_ h))) (fun h=>.inr oB)),(aZ.kd bl bV),(fun b_ h_=>(ai b_ h_).elim (fun h=>h.elim (fun h=>((show Og Ac1 Ac1 Ac2 w from (fun b_ h_=>.inl (.inl h_))) b_ h)) (fun h=>((show Og Ac2 Ac1 Ac2 w from (fun b_ h_=>.inl (.inr h_))) b_ h))) (fun h=>.inr oB)),df,dF,bU,dI,bV,dD,dE,dC,dG,dH,bu,b8,b8,ca,cd,d5,d6,d7,d8⟩))⟩
      rintro hJ iK ⟨M,aE,bC,N,aF,bD,co,bO,eo,cU,ep,cX,eu,fs,ft,fu,fv,fw,fx,dB,fy,fz,gF,gl,gm,gG,gH,fV,fW,fX,fY⟩
      rw [← sA co]
      have gZ:=bO.size
      refine We (retCT G G agg37 eu G (v:=str _) G ?_)
      refine ⟨M,aE,bC,N,aF,bD,eR (eT2 (e8 ?_ ?_ ?_ ?_ ?_ ?_) (eS ?_)),(oq eo ?_),(oq ep ?_),dB,cU,cX,(Z.new bO oB)⟩ <;> (rw [run_2 (k:=k) oB (And.right ‹_∧AllNum _›) oB]; try rfl)
     ·refine Ws (Wr (Q (r_eq G G)<|Q (aB G)<|Qn (Wd G (fun eK=>?_) (fun eK=>?_))))
      ·refine Ws (Wr (Q (mL G)<|?_))
       have ce:=(m.rd).elem (i:=0) oB
       have gp:=splitB_gt (32:UInt8) s
       have gr:=splitB_el ce
       refine Q (rX tsl44 (m.rd) G G oB)<|Q (r_ld (v:=str (gt (splitB (32:UInt8) s) 0)) sca9 G ((m.rd).cell0 ce G))<|Qn (Wl (Ws (Wr (Q (r_eqs (s:=(gt (splitB (32:UInt8) s) 0)) (r:=([98,97,99,107]:List UInt8)) G G)<|Q (aB G)<|Qn (Wd G (fun eL=>?_) (fun eL=>?_))))))
       ·refine Ws (WA (Kp (fun b_=>b_=a) z) (fun f' w'=>∃ (O:Option Addr) (aG:Nat) (bE:Nat) (P:Option Addr) (aH:Nat) (bF:Nat),At f' [(2,pt B),(4,pt a),(5,str ((spec_l34Make c (⟨3,(gt (nmW s k) 0),(gt (nmW s k) 1),(gt (nmW s k) 2)⟩:LibraryStep)).2))]∧(Kp (fun b_=>b_=a) z w')∧(SlO w' Bc1 encLMap 3 102 O aG bE (((spec_l34Make c (⟨3,(gt (nmW s k) 0),(gt (nmW s k) 1),(gt (nmW s k) 2)⟩:LibraryStep)).1).Library.Maps))∧(Og O Ac1 Ac2 w)∧(SlO w' Bc2 encAway 2 129 P aH bF (((spec_l34Make c (⟨3,(gt (nmW s k) 0),(gt (nmW s k) 1),(gt (nmW s k) 2)⟩:LibraryStep)).1).Library.Away))∧(Og P Ac1 Ac2 w)∧(Blk w' a 37 (cCn O aG bE P aH bF ((spec_l34Make c (⟨3,(gt (nmW s k) 0),(gt (nmW s k) 1),(gt (nmW s k) 2)⟩:LibraryStep)).1)))∧(¬O=some ⟨B,0,none⟩)∧(¬O=some ⟨a,0,none⟩)∧(¬P=some ⟨B,0,none⟩)∧(¬P=some ⟨a,0,none⟩)∧Dj O u∧Dj O y∧Dj O P∧Dj P u∧Dj P y∧((nmW s k)[0]?=some (gt (nmW s k) 0))∧((nmW s k)[1]?=some (gt (nmW s k) 1))∧((nmW s k)[2]?=some (gt (nmW s k) 2))∧(aG=(((spec_l34Make c (⟨3,(gt (nmW s k) 0),(gt (nmW s k) 1),(gt (nmW s k) 2)⟩:LibraryStep)).1).Library.Maps).length)∧((aG:Int)≤9223372036854775807)∧(aH=(((spec_l34Make c (⟨3,(gt (nmW s k) 0),(gt (nmW s k) 1),(gt (nmW s k) 2)⟩:LibraryStep)).1).Library.Away).length)∧((aH:Int)≤9223372036854775807)) mo ?_ ?_)
        ·intro eY b
         have g0:=b.size
         refine Ak 0 G (kr b) (fun w' hw'=>lG agg37 G (q.kn hw' oB) G)<|Ak 1 G (kr b) (fun w' hw'=>mL G)<|?_
         have cf:=((j.lo b).rd).elem (i:=0) oB
         refine Ak 2 G (kr b) (fun w' hw'=>rX tsl93 ((j.kd hw' p).rd) G G oB)<|Ak 3 G (kr b) (fun w' hw'=>r_ld (v:=i6 (gt (nmW s k) 0)) sca3 G (((j.kd hw' p).rd).cell0 cf G))<|Ak 4 G (kr b) (fun w' hw'=>mL G)<|?_
         have cg:=((j.lo b).rd).elem (i:=1) oB
         refine Ak 5 G (kr b) (fun w' hw'=>rX tsl93 ((j.kd hw' p).rd) G G oB)<|Ak 6 G (kr b) (fun w' hw'=>r_ld (v:=i6 (gt (nmW s k) 1)) sca3 G (((j.kd hw' p).rd).cell0 cg G))<|Ak 7 G (kr b) (fun w' hw'=>mL G)<|?_
         have ch:=((j.lo b).rd).elem (i:=2) oB
         refine Ak 8 G (kr b) (fun w' hw'=>rX tsl93 ((j.kd hw' p).rd) G G oB)<|Ak 9 G (kr b) (fun w' hw'=>r_ld (v:=i6 (gt (nmW s k) 2)) sca3 G (((j.kd hw' p).rd).cell0 ch G))<|Ak 10 G (kr b) (fun w' hw'=>r_build (vs:=[(0,i6 3),(1,i6 (gt (nmW s k) 0)),(2,i6 (gt (nmW s k) 1)),(3,i6 (gt (nmW s k) 2))]) G (bld106_0_1_2_3 _ _ _ _))<|Ab 11 G (Qc ent87 (c_spec_l34Make eY c (H.lo b) (I.lo b) (⟨3,(gt (nmW s k) 0),(gt (nmW s k) 1),(gt (nmW s k) 2)⟩:LibraryStep) hdc_Library_Maps_c2 oB oB) G ?_)
         rintro e iL ⟨ax,cN,cz,ay,cO,cA,rfl,a6,a7,dK,aj,ak,bm⟩
         refine ⟨_,G,?_⟩
         have g5:=bm.size
         have aQ:=((kr b:Kp (fun b_=>b_=a) z _)).lo bm
         have dL:Dj ax u:=fun b_ e' h'=>(aj b_ e').elim (fun h=>h.elim (fun h=>(dj V (m.lo b)) b_ h h') (fun h=>(dj X (m.lo b)) b_ h h')) (fun h=>by have:=(m.lo b).base_le h'; omega)
         have dM:Dj ax y:=fun b_ e' h'=>(aj b_ e').elim (fun h=>h.elim (fun h=>(fun b_ h h'=>T b_ h' h) b_ h h') (fun h=>(fun b_ h h'=>U b_ h' h) b_ h h')) (fun h=>by have:=(j.lo b).base_le h'; omega)
         have dN:¬ax=some ⟨B,0,none⟩:=fun e'=>(aj B e').elim (fun h=>h.elim (fun h=>aV h) (fun h=>aa h)) (fun h=>by have:=(q.lo b).lt; omega)
         have bW:¬ax=some ⟨a,0,none⟩:=fun e'=>(aj a e').elim (fun h=>h.elim (fun h=>E h) (fun h=>F h)) (fun h=>by have:=(t.lo b).lt; omega)
         have dO:Dj ay u:=fun b_ e' h'=>(ak b_ e').elim (fun h=>h.elim (fun h=>(dj V (m.lo b)) b_ h h') (fun h=>(dj X (m.lo b)) b_ h h')) (fun h=>by have:=(m.lo b).base_le h'; omega)
         have dP:Dj ay y:=fun b_ e' h'=>(ak b_ e').elim (fun h=>h.elim (fun h=>(fun b_ h h'=>T b_ h' h) b_ h h') (fun h=>(fun b_ h h'=>U b_ h' h) b_ h h')) (fun h=>by have:=(j.lo b).base_le h'; omega)
         have dQ:¬ay=some ⟨B,0,none⟩:=fun e'=>(ak B e').elim (fun h=>h.elim (fun h=>aV h) (fun h=>aa h)) (fun h=>by have:=(q.lo b).lt; omega)
         have bX:¬ay=some ⟨a,0,none⟩:=fun e'=>(ak a e').elim (fun h=>h.elim (fun h=>E h) (fun h=>F h)) (fun h=>by have:=(t.lo b).lt; omega)
         have d9:=a6.len
         have ea:=a6.rd.bound
         have ed:=a7.len
         have ee:=a7.rd.bound
         refine Qn ⟨aQ,_,G,(Ak 12 G aQ (fun w' hw'=>xG G G)<|Ak 13 G aQ (fun w' hw'=>xS G G)<|Ab 14 G (Qw (o:=0) (vs:=(cCn ax cN cz ay cO cA ((spec_l34Make c (⟨3,(gt (nmW s k) 0),(gt (nmW s k) 1),(gt (nmW s k) 2)⟩:LibraryStep)).1))) agg37.2 G G G G ((t.lo b).lo bm) ler G ?_))⟩
         intro iM bn gz dg
         have bf:=aQ.step bn (fun _ _ e=>e)
         refine Qn ⟨bf,_,G,(Ak 15 G bf (fun w' hw'=>aS G)<|Ad oC (⟨ax,cN,cz,ay,cO,cA,(At.r G),bf,(a6.kd bn bW),(fun b_ h_=>(aj b_ h_).elim (fun h=>h.elim (fun h=>((show Og Ac1 Ac1 Ac2 w from (fun b_ h_=>.inl (.inl h_))) b_ h)) (fun h=>((show Og Ac2 Ac1 Ac2 w from (fun b_ h_=>.inl (.inr h_))) b_ h))) (fun h=>.inr oB)),(a7.kd bn bX),(fun b_ h_=>(ak b_ h_).elim (fun h=>h.elim (fun h=>((show Og Ac1 Ac1 Ac2 w from (fun b_ h_=>.inl (.inl h_))) b_ h)) (fun h=>((show Og Ac2 Ac1 Ac2 w from (fun b_ h_=>.inl (.inr h_))) b_ h))) (fun h=>.inr oB)),dg,dN,bW,dQ,bX,dL,dM,dK,dO,dP,cf,cg,ch,d9,ea,ed,ee⟩))⟩
        rintro hQ iN ⟨O,aG,bE,P,aH,bF,cp,bP,ew,cY,ex,cZ,ey,fB,fC,fD,fE,fF,fG,dJ,fH,fI,gI,gJ,gK,fZ,f0,f4,f6⟩
        rw [← sA cp]
        have g6:=bP.size
        refine We (retCT G G agg37 ey G (v:=str _) G ?_)
        refine ⟨O,aG,bE,P,aH,bF,eR (eT2 (e8 ?_ ?_ ?_ ?_ ?_ ?_) (eS ?_)),(oq ew ?_),(oq ex ?_),dJ,cY,cZ,(Z.new bP oB)⟩ <;> (rw [run_3 (k:=k) oB (And.right ‹_∧AllNum _›) oB oJ]; try rfl)
       ·refine Ws (Wr (Q (r_eqs (s:=(gt (splitB (32:UInt8) s) 0)) (r:=([104,97,110,100]:List UInt8)) G G)<|Q (aB G)<|Qn (Wd G (fun eM=>?_) (fun eM=>?_))))
        ·refine Ws (WA (Kp (fun b_=>b_=a) z) (fun f' w'=>∃ (R:Option Addr) (aJ:Nat) (bG:Nat) (S:Option Addr) (aK:Nat) (bH:Nat),At f' [(2,pt B),(4,pt a),(5,str ((spec_l34Make c (⟨5,(gt (nmW s k) 0),(gt (nmW s k) 1),(gt (nmW s k) 2)⟩:LibraryStep)).2))]∧(Kp (fun b_=>b_=a) z w')∧(SlO w' Bc1 encLMap 3 102 R aJ bG (((spec_l34Make c (⟨5,(gt (nmW s k) 0),(gt (nmW s k) 1),(gt (nmW s k) 2)⟩:LibraryStep)).1).Library.Maps))∧(Og R Ac1 Ac2 w)∧(SlO w' Bc2 encAway 2 129 S aK bH (((spec_l34Make c (⟨5,(gt (nmW s k) 0),(gt (nmW s k) 1),(gt (nmW s k) 2)⟩:LibraryStep)).1).Library.Away))∧(Og S Ac1 Ac2 w)∧(Blk w' a 37 (cCn R aJ bG S aK bH ((spec_l34Make c (⟨5,(gt (nmW s k) 0),(gt (nmW s k) 1),(gt (nmW s k) 2)⟩:LibraryStep)).1)))∧(¬R=some ⟨B,0,none⟩)∧(¬R=some ⟨a,0,none⟩)∧(¬S=some ⟨B,0,none⟩)∧(¬S=some ⟨a,0,none⟩)∧Dj R u∧Dj R y∧Dj R S∧Dj S u∧Dj S y∧((nmW s k)[0]?=some (gt (nmW s k) 0))∧((nmW s k)[1]?=some (gt (nmW s k) 1))∧((nmW s k)[2]?=some (gt (nmW s k) 2))∧(aJ=(((spec_l34Make c (⟨5,(gt (nmW s k) 0),(gt (nmW s k) 1),(gt (nmW s k) 2)⟩:LibraryStep)).1).Library.Maps).length)∧((aJ:Int)≤9223372036854775807)∧(aK=(((spec_l34Make c (⟨5,(gt (nmW s k) 0),(gt (nmW s k) 1),(gt (nmW s k) 2)⟩:LibraryStep)).1).Library.Away).length)∧((aK:Int)≤9223372036854775807)) mo ?_ ?_)
         ·intro eZ d
          have g7:=d.size
          refine Ak 0 G (kr d) (fun w' hw'=>lG agg37 G (q.kn hw' oB) G)<|Ak 1 G (kr d) (fun w' hw'=>mL G)<|?_
          have ci:=((j.lo d).rd).elem (i:=0) oB
          refine Ak 2 G (kr d) (fun w' hw'=>rX tsl93 ((j.kd hw' p).rd) G G oB)<|Ak 3 G (kr d) (fun w' hw'=>r_ld (v:=i6 (gt (nmW s k) 0)) sca3 G (((j.kd hw' p).rd).cell0 ci G))<|Ak 4 G (kr d) (fun w' hw'=>mL G)<|?_
          have cj:=((j.lo d).rd).elem (i:=1) oB
          refine Ak 5 G (kr d) (fun w' hw'=>rX tsl93 ((j.kd hw' p).rd) G G oB)<|Ak 6 G (kr d) (fun w' hw'=>r_ld (v:=i6 (gt (nmW s k) 1)) sca3 G (((j.kd hw' p).rd).cell0 cj G))<|Ak 7 G (kr d) (fun w' hw'=>mL G)<|?_
          have ck:=((j.lo d).rd).elem (i:=2) oB
          refine Ak 8 G (kr d) (fun w' hw'=>rX tsl93 ((j.kd hw' p).rd) G G oB)<|Ak 9 G (kr d) (fun w' hw'=>r_ld (v:=i6 (gt (nmW s k) 2)) sca3 G (((j.kd hw' p).rd).cell0 ck G))<|Ak 10 G (kr d) (fun w' hw'=>r_build (vs:=[(0,i6 5),(1,i6 (gt (nmW s k) 0)),(2,i6 (gt (nmW s k) 1)),(3,i6 (gt (nmW s k) 2))]) G (bld106_0_1_2_3 _ _ _ _))<|Ab 11 G (Qc ent87 (c_spec_l34Make eZ c (H.lo d) (I.lo d) (⟨5,(gt (nmW s k) 0),(gt (nmW s k) 1),(gt (nmW s k) 2)⟩:LibraryStep) hdc_Library_Maps_c2 oB oB) G ?_)
          rintro e iO ⟨az,cP,cB,aA,cQ,cC,rfl,a8,ba,dS,al,am,bo⟩
          refine ⟨_,G,?_⟩
          have g8:=bo.size
          have aR:=((kr d:Kp (fun b_=>b_=a) z _)).lo bo
          have dT:Dj az u:=fun b_ e' h'=>(al b_ e').elim (fun h=>h.elim (fun h=>(dj V (m.lo d)) b_ h h') (fun h=>(dj X (m.lo d)) b_ h h')) (fun h=>by have:=(m.lo d).base_le h'; omega)
          have dU:Dj az y:=fun b_ e' h'=>(al b_ e').elim (fun h=>h.elim (fun h=>(fun b_ h h'=>T b_ h' h) b_ h h') (fun h=>(fun b_ h h'=>U b_ h' h) b_ h h')) (fun h=>by have:=(j.lo d).base_le h'; omega)
          have dV:¬az=some ⟨B,0,none⟩:=fun e'=>(al B e').elim (fun h=>h.elim (fun h=>aV h) (fun h=>aa h)) (fun h=>by have:=(q.lo d).lt; omega)
          have bY:¬az=some ⟨a,0,none⟩:=fun e'=>(al a e').elim (fun h=>h.elim (fun h=>E h) (fun h=>F h)) (fun h=>by have:=(t.lo d).lt; omega)
          have dW:Dj aA u:=fun b_ e' h'=>(am b_ e').elim (fun h=>h.elim (fun h=>(dj V (m.lo d)) b_ h h') (fun h=>(dj X (m.lo d)) b_ h h')) (fun h=>by have:=(m.lo d).base_le h'; omega)
          have dX:Dj aA y:=fun b_ e' h'=>(am b_ e').elim (fun h=>h.elim (fun h=>(fun b_ h h'=>T b_ h' h) b_ h h') (fun h=>(fun b_ h h'=>U b_ h' h) b_ h h')) (fun h=>by have:=(j.lo d).base_le h'; omega)
          have dY:¬aA=some ⟨B,0,none⟩:=fun e'=>(am B e').elim (fun h=>h.elim (fun h=>aV h) (fun h=>aa h)) (fun h=>by have:=(q.lo d).lt; omega)
          have bZ:¬aA=some ⟨a,0,none⟩:=fun e'=>(am a e').elim (fun h=>h.elim (fun h=>E h) (fun h=>F h)) (fun h=>by have:=(t.lo d).lt; omega)
          have ef:=a8.len
          have eg:=a8.rd.bound
          have eh:=ba.len
          have ei:=ba.rd.bound
          refine Qn ⟨aR,_,G,(Ak 12 G aR (fun w' hw'=>xG G G)<|Ak 13 G aR (fun w' hw'=>xS G G)<|Ab 14 G (Qw (o:=0) (vs:=(cCn az cP cB aA cQ cC ((spec_l34Make c (⟨5,(gt (nmW s k) 0),(gt (nmW s k) 1),(gt (nmW s k) 2)⟩:LibraryStep)).1))) agg37.2 G G G G ((t.lo d).lo bo) ler G ?_))⟩
          intro iP bp gA dh
          have bg:=aR.step bp (fun _ _ e=>e)
          refine Qn ⟨bg,_,G,(Ak 15 G bg (fun w' hw'=>aS G)<|Ad oC (⟨az,cP,cB,aA,cQ,cC,(At.r G),bg,(a8.kd bp bY),(fun b_ h_=>(al b_ h_).elim (fun h=>h.elim (fun h=>((show Og Ac1 Ac1 Ac2 w from (fun b_ h_=>.inl (.inl h_))) b_ h)) (fun h=>((show Og Ac2 Ac1 Ac2 w from (fun b_ h_=>.inl (.inr h_))) b_ h))) (fun h=>.inr oB)),(ba.kd bp bZ),(fun b_ h_=>(am b_ h_).elim (fun h=>h.elim (fun h=>((show Og Ac1 Ac1 Ac2 w from (fun b_ h_=>.inl (.inl h_))) b_ h)) (fun h=>((show Og Ac2 Ac1 Ac2 w from (fun b_ h_=>.inl (.inr h_))) b_ h))) (fun h=>.inr oB)),dh,dV,bY,dY,bZ,dT,dU,dS,dW,dX,ci,cj,ck,ef,eg,eh,ei⟩))⟩
         rintro hU iQ ⟨R,aJ,bG,S,aK,bH,cq,bQ,ez,c6,eD,c7,eE,fJ,fK,fL,fM,fN,fO,dR,fP,fQ,gM,gN,gO,f7,f8,ga,gb⟩
         rw [← sA cq]
         have hF:=bQ.size
         refine We (retCT G G agg37 eE G (v:=str _) G ?_)
         refine ⟨R,aJ,bG,S,aK,bH,eR (eT2 (e8 ?_ ?_ ?_ ?_ ?_ ?_) (eS ?_)),(oq ez ?_),(oq eD ?_),dR,c6,c7,(Z.new bQ oB)⟩ <;> (rw [run_3h (k:=k) oB (And.right ‹_∧AllNum _›) oB oJ oJ]; try rfl)
        ·refine Wk (Ws (Wr (Q (lG agg37 G q G)<|Qw (o:=0) (vs:=(cCn Ac1 nc1 cc1 Ac2 nc2 cc2 c)) agg37.2 G G G G t ler G ?_)))
         intro iR bq gB di
         refine Q (r_as (v:=str ([63]:List UInt8)) G)<|Qn (We (retCT G G agg37 di G (v:=str _) G ?_))
         refine ⟨Ac1,nc1,cc1,Ac2,nc2,cc2,eR (eT2 (e8 ?_ ?_ ?_ ?_ ?_ ?_) (eS ?_)),(oq (H.kd bq E) ?_),(oq (I.kd bq F) ?_),hdc_Library_Maps_c2,(fun b_ h_=>.inl (.inl h_)),(fun b_ h_=>.inl (.inr h_)),(Z.new bq)⟩ <;> (rw [run_3n (k:=k) oB (And.right ‹_∧AllNum _›) oB oJ oJ]; try rfl)
      ·refine Wk (Ws (Wr (Q (lG agg37 G q G)<|Qw (o:=0) (vs:=(cCn Ac1 nc1 cc1 Ac2 nc2 cc2 c)) agg37.2 G G G G t ler G ?_)))
       intro iS bs gC dk
       refine Q (r_as (v:=str ([63]:List UInt8)) G)<|Qn (We (retCT G G agg37 dk G (v:=str _) G ?_))
       refine ⟨Ac1,nc1,cc1,Ac2,nc2,cc2,eR (eT2 (e8 ?_ ?_ ?_ ?_ ?_ ?_) (eS ?_)),(oq (H.kd bs E) ?_),(oq (I.kd bs F) ?_),hdc_Library_Maps_c2,(fun b_ h_=>.inl (.inl h_)),(fun b_ h_=>.inl (.inr h_)),(Z.new bs)⟩ <;> (rw [run_n (k:=k) oB (And.right ‹_∧AllNum _›) oB]; try rfl)
end Go.Proofs.YtndcchndcghmoaaGreatDoor
namespace Go.Proofs.YtndcchndcghmoaaGreatDoor
open Go Go.RowKit Fw
set_option maxRecDepth 10000
set_option maxHeartbeats 2000000
set_option linter.unusedVariables false
variable {Ax1 Ax2 : Option Addr} {nx1 cx1 Bx1 nx2 cx2 Bx2 : Nat}
theorem ent56:Ent Tryz.prog 56:=en Tryz.func56
theorem ent95:Ent Tryz.prog 95:=en Tryz.func95
theorem ent96:Ent Tryz.prog 96:=en Tryz.func96
theorem ent97:Ent Tryz.prog 97:=en Tryz.func97
theorem ent98:Ent Tryz.prog 98:=en Tryz.func98
theorem c_impl_reply (w:World) (x:Library) (an:SlO w Bx1 encLMap 3 102 Ax1 nx1 cx1 x.Maps) (ap:SlO w Bx2 encAway 2 129 Ax2 nx2 cx2 x.Away) (s:List UInt8) (hdx_Maps_x2:Dj Ax1 Ax2) (cX:(nx1:Int)≤8) (cY:(nx2:Int)≤8) (cZ:LibOK x) (c6:(s.length:Int)≤200) (hE:EnvW w):Calls Tryz.prog 49 #[.agg (List.toArray (cLb Ax1 nx1 cx1 Ax2 nx2 cx2 x)),str s] w fun e w'=>∃ A1' n1' c1' A2' n2' c2',e=.returned (.tuple (List.toArray [.agg (List.toArray (cLb A1' n1' c1' A2' n2' c2' ((repN x s).1))),str ((repN x s).2.1),.bool ((repN x s).2.2)]))∧SlO w' Bx1 encLMap 3 102 A1' n1' c1' (((repN x s).1).Maps)∧SlO w' Bx2 encAway 2 129 A2' n2' c2' (((repN x s).1).Away)∧Dj A1' A2'∧(Og A1' Ax1 Ax2 w)∧(Og A2' Ax1 Ax2 w)∧Lo w w':=by
 refine cW 82 Tryz.func49 G G G ?_
 have bK:=an.rd.cap
 have bG:=an.rd.bd
 have bI:=an.rd.bound
 have bS:=an.len
 have bD:=an.bd
 have bL:=ap.rd.cap
 have bH:=ap.rd.bd
 have bJ:=ap.rd.bound
 have bT:=ap.len
 have bE:=ap.bd
 refine Ws (Wr (bx G ?_))
 intro g1 w2 cU aH c7 bF
 refine Qa (l:=zLb) tz34 G ?_
 intro u aO cj ax cC bp
 have aR:=((lr w).lo aH).lo ax
 have aE:=nE (g:=u) (an.lo aH)
 have aF:=nE (g:=u) (ap.lo aH)
 refine Q (r_as (v:=str ([]:List UInt8)) G)<|Q (aB G)<|Qn (Ws (Wr (Q (mS G)<|Qc ent56 (c_strings_Split1 aO s ([32]:List UInt8) oB G (hE.lo aR)) G ?_)))
 rintro e E ⟨j,y,f,rfl,aw,M⟩
 refine ⟨_,G,?_⟩
 have cE:=M.size
 have cl:=aw.len
 have cm:=aw.rd.bound
 have cr:=splitB_len (32:UInt8) s
 refine Q (aL G)<|Qn (Ws (Wr (Q (r_as (v:=.slice none 0 0) G)<|Qn (Ws (Ws (Wr (Q (mL G)<|Q (r_cutl (l:=1) tsl44 G G G oB)<|Q (r_len und44 G)<|Q (r_mv (v:=i6 0) G)<|Qn (Wl (WL (σ:=Nat × (Option Addr) × Nat × Nat) (fun g=>[(2,pt g1),(4,pt u),(7,.slice j y f),(8,.slice g.2.1 g.2.2.1 g.2.2.2),(23,.slice (cutA j f 1 1) (y-1) (f-1)),(24,i6 ((y-1:Nat):Int)),(25,i6 (g.1:Int))]) (fun g w'=>(Lo w w')∧(Blk w' g1 34 (cLb Ax1 nx1 cx1 Ax2 nx2 cx2 x))∧(SlO w' Bx1 encLMap 3 102 Ax1 nx1 cx1 x.Maps)∧(SlO w' Bx2 encAway 2 129 Ax2 nx2 cx2 x.Away)∧(Blk w' u 34 zLb)∧(SlO w' aO.heap.size encS 1 9 j y f (splitB (32:UInt8) s))∧(SlR w' E.heap.size encS 1 (cutA j f 1 1) (y-1) (f-1) ((splitB (32:UInt8) s).drop 1))∧(SlO w' w.heap.size encI 1 3 g.2.1 g.2.2.1 g.2.2.2 (numsW (((splitB (32:UInt8) s).drop 1).take g.1)))∧(¬g.2.1=some ⟨g1,0,none⟩)∧(∀ b_,g.2.1=some ⟨b_,0,none⟩→¬Ax1=some ⟨b_,0,none⟩)∧(∀ b_,g.2.1=some ⟨b_,0,none⟩→¬Ax2=some ⟨b_,0,none⟩)∧(¬g.2.1=some ⟨u,0,none⟩)∧(∀ b_,g.2.1=some ⟨b_,0,none⟩→¬j=some ⟨b_,0,none⟩)∧(g.1≤((splitB (32:UInt8) s).drop 1).length∧AllNum (((splitB (32:UInt8) s).drop 1).take g.1))) (fun g=>((splitB (32:UInt8) s).drop 1).length-g.1) (0,(none:Option Addr),0,0) ?_ ?_ ?_)))))))))
 ·exact (At.r G)
 ·show (Lo w E)∧(Blk E g1 34 (cLb Ax1 nx1 cx1 Ax2 nx2 cx2 x))∧(SlO E Bx1 encLMap 3 102 Ax1 nx1 cx1 x.Maps)∧(SlO E Bx2 encAway 2 129 Ax2 nx2 cx2 x.Away)∧(Blk E u 34 zLb)∧(SlO E aO.heap.size encS 1 9 j y f (splitB (32:UInt8) s))∧(SlR E E.heap.size encS 1 (cutA j f 1 1) (y-1) (f-1) ((splitB (32:UInt8) s).drop 1))∧(SlO E w.heap.size encI 1 3 (none:Option Addr) 0 0 (numsW (((splitB (32:UInt8) s).drop 1).take 0)))∧(¬(none:Option Addr)=some ⟨g1,0,none⟩)∧(∀ b_,(none:Option Addr)=some ⟨b_,0,none⟩→¬Ax1=some ⟨b_,0,none⟩)∧(∀ b_,(none:Option Addr)=some ⟨b_,0,none⟩→¬Ax2=some ⟨b_,0,none⟩)∧(¬(none:Option Addr)=some ⟨u,0,none⟩)∧(∀ b_,(none:Option Addr)=some ⟨b_,0,none⟩→¬j=some ⟨b_,0,none⟩)∧(0≤((splitB (32:UInt8) s).drop 1).length∧AllNum (((splitB (32:UInt8) s).drop 1).take 0))
  exact ⟨(aR.lo M),((bF.lo ax).lo M),((an.lo aH).lo ax).lo M,((ap.lo aH).lo ax).lo M,bp.lo M,aw,aw.rd.cutl (l:=1) oB,(oq (SlO.nil (base:=w.heap.size) (e:=3) (enc:=encI) (fun _=>G) oB) oX),(fun e=>by cases e),(fun b_ h=>by cases h),(fun b_ h=>by cases h),(fun e=>by cases e),(fun b_ h=>by cases h),(by (try dsimp only); exact ⟨Nat.zero_le _,fun _ h=>by simp at h⟩)⟩
 ·rintro ⟨k,ag,aQ,bi⟩ bB K bo
  obtain ⟨au,X,Y,Z,aa,B,ay,F,aU,aV,aW,aX,aG,bu⟩:(Lo w K)∧(Blk K g1 34 (cLb Ax1 nx1 cx1 Ax2 nx2 cx2 x))∧(SlO K Bx1 encLMap 3 102 Ax1 nx1 cx1 x.Maps)∧(SlO K Bx2 encAway 2 129 Ax2 nx2 cx2 x.Away)∧(Blk K u 34 zLb)∧(SlO K aO.heap.size encS 1 9 j y f (splitB (32:UInt8) s))∧(SlR K E.heap.size encS 1 (cutA j f 1 1) (y-1) (f-1) ((splitB (32:UInt8) s).drop 1))∧(SlO K w.heap.size encI 1 3 ag aQ bi (numsW (((splitB (32:UInt8) s).drop 1).take k)))∧(¬ag=some ⟨g1,0,none⟩)∧Dj ag Ax1∧Dj ag Ax2∧(¬ag=some ⟨u,0,none⟩)∧Dj ag j∧(k≤((splitB (32:UInt8) s).drop 1).length∧AllNum (((splitB (32:UInt8) s).drop 1).take k)):=bo
  refine (?_:W _ _ _ _ _ (act _ (sets bB [(2,pt g1),(4,pt u),(7,.slice j y f),(8,.slice ag aQ bi),(23,.slice (cutA j f 1 1) (y-1) (f-1)),(24,i6 ((y-1:Nat):Int)),(25,i6 (k:Int))])) _)
  have ci:=au.size
  have cn:=X.lt
  have co:=aa.lt
  have cp:=F.len
  have cq:=F.rd.bound
  have ct:k≤((splitB (32:UInt8) s).drop 1).length:=bu.1
  have cu:(numsW (((splitB (32:UInt8) s).drop 1).take k)).length=k:=nmD_len (D:=((splitB (32:UInt8) s).drop 1)) (k:=k) oB
  have cw:(splitB (32:UInt8) s).length≤s.length+1:=splitB_max (32:UInt8) s
  have cx:((splitB (32:UInt8) s).drop 1).length+1=(splitB (32:UInt8) s).length∨(splitB (32:UInt8) s).length=0:=drop_len (splitB (32:UInt8) s)
  refine Ws (Wr (Q (r_lt G G)<|Qn (Ws (Wd G (fun bC=>?_) (fun bC=>?_)))))
  ·refine Wk (Ws (Wl (Ws ?_)))
   have aY:=ay.elem (i:=k) oB
   have cy:=dropB_el aY
   refine Wr (Q (rX tsl44 ay G G oB)<|Q (r_ld (v:=str (gt ((splitB (32:UInt8) s).drop 1) k)) sca9 G (ay.cell0 aY G))<|Q (aS G)<|Qn (Ws (Wr (Q (mS G)<|Qv ent95 (c_impl_ParseInt K (gt ((splitB (32:UInt8) s).drop 1) k) oB (hE.lo au)) G fun da a cF=>?_))))
   have aT:=au.lo a
   have cz:-999999≤(readN (gt ((splitB (32:UInt8) s).drop 1) k)).1∧(readN (gt ((splitB (32:UInt8) s).drop 1) k)).1≤999999:=readN_rng (gt ((splitB (32:UInt8) s).drop 1) k)
   refine Q (mT G)<|Q (xI G G)<|Q (xB G G)<|Q (aI G)<|Q (aB G)<|Qn (Ws (Ws (Wr (Q (mB G)<|Q (rN G)<|Qn (Wb G (fun aZ=>?_) (fun aZ=>?_))))))
   ·have cA:=bnot_t aZ
    refine Ws (Wr (Q (lG agg34 G (X.lo a) G)<|Qw (o:=0) (vs:=(cLb Ax1 nx1 cx1 Ax2 nx2 cx2 x)) agg34.2 G G G G (aa.lo a) ler G ?_))
    intro db aJ cD bq
    refine Q (r_as (v:=str ([]:List UInt8)) G)<|Q (aB G)<|Qn (We (retCTT G G agg34 bq G (v:=str _) G (v':=.bool _) G ?_))
    refine ⟨Ax1,nx1,cx1,Ax2,nx2,cx2,eR (eT3 (e5 ?_ ?_ ?_) (eS ?_) (eB ?_)),(oq ((Y.lo a).kd aJ aE) ?_),(oq ((Z.lo a).kd aJ aF) ?_),hdx_Maps_x2,(fun b_ h_=>.inl (.inl h_)),(fun b_ h_=>.inl (.inr h_)),(aT.new aJ)⟩ <;> (rw [rep_bad ‹_[_]?=some _› ‹(!_)=true›]; try rfl)
   ·have cB:=bnot_f aZ
    refine Wk (Wr (Q (mL G)<|Q (mI G)<|Ql (vs:=[i6 ((readN (gt ((splitB (32:UInt8) s).drop 1) k)).1)]) (L:=([(readN (gt ((splitB (32:UInt8) s).drop 1) k)).1]:List Int)) (enc:=encI) tel93 (fun _=>G) G G G oG ?_))
    intro cT de ck b bm
    have cG:=b.size
    refine Qp tel93 G G ((F.lo a).lo b) (bm.rd) (fun _=>G) oB oB ?_
    intro C bj ae A bn V
    have cH:=A.size
    have bs:Dj C Ax1:=fun b_ e' h'=>(V b_ e').elim (fun h=>aV b_ (h.trans e') h') (fun h=>by have:=((Y.lo a).lo b).base_le h'; omega)
    have bt:Dj C Ax2:=fun b_ e' h'=>(V b_ e').elim (fun h=>aW b_ (h.trans e') h') (fun h=>by have:=((Z.lo a).lo b).base_le h'; omega)
    have bc:¬C=some ⟨g1,0,none⟩:=fun e'=>(V g1 e').elim (fun h=>aU (h.trans e')) (fun h=>by have:=((X.lo a).lo b).lt; omega)
    have be:¬C=some ⟨u,0,none⟩:=fun e'=>(V u e').elim (fun h=>aX (h.trans e')) (fun h=>by have:=((aa.lo a).lo b).lt; omega)
    have bf:Dj C j:=fun b_ e' h'=>(V b_ e').elim (fun h=>aG b_ (h.trans e') h') (fun h=>by have:=((B.lo a).lo b).base_le h'; omega)
    refine Q (aL G)<|Qn ?_
    have bh:=((ay.lo a).lo b).kpb A (fun hn_ e'=>aG _ e' (((B.lo a).lo b).cutb oB))
    refine Wr (Q (r_add G G oB)<|Q (mI G)<|Qn (⟨(k+1,C,aQ+1,bj),_,G,(At.r G),(show (Lo w ae)∧(Blk ae g1 34 (cLb Ax1 nx1 cx1 Ax2 nx2 cx2 x))∧(SlO ae Bx1 encLMap 3 102 Ax1 nx1 cx1 x.Maps)∧(SlO ae Bx2 encAway 2 129 Ax2 nx2 cx2 x.Away)∧(Blk ae u 34 zLb)∧(SlO ae aO.heap.size encS 1 9 j y f (splitB (32:UInt8) s))∧(SlR ae E.heap.size encS 1 (cutA j f 1 1) (y-1) (f-1) ((splitB (32:UInt8) s).drop 1))∧(SlO ae w.heap.size encI 1 3 C (aQ+1) bj (numsW (((splitB (32:UInt8) s).drop 1).take (k+1))))∧(¬C=some ⟨g1,0,none⟩)∧Dj C Ax1∧Dj C Ax2∧(¬C=some ⟨u,0,none⟩)∧Dj C j∧(k+1≤((splitB (32:UInt8) s).drop 1).length∧AllNum (((splitB (32:UInt8) s).drop 1).take (k+1))) from ⟨((aT.lo b).step A (fun i_ hi_ e'=>by have:=((F.lo a).lo b).base_le e'; first | omega | exact e' | exact .inl e' | exact .inr e')),(((X.lo a).lo b).kp A (fun e'=>aU e')),(((Y.lo a).lo b).kp A (fun b_ hb e'=>aV b_ e' hb)),(((Z.lo a).lo b).kp A (fun b_ hb e'=>aW b_ e' hb)),(((aa.lo a).lo b).kp A (fun e'=>aX e')),(((B.lo a).lo b).kp A (fun b_ hb e'=>aG b_ e' hb)),bh,(oq bn (by exact nmD_next ‹_[_]?=some _›)),bc,bs,bt,be,bf,?_⟩),?_⟩))
    ·exact (by (try dsimp only); exact ⟨oB,allD_next (And.right ‹_∧AllNum _›) ‹_[_]?=some _› ‹(!_)=false›⟩)
    ·exact oH
  ·refine Wx (xh (Ws (Ws (Wr (Q (mL G)<|?_)))))
   have ao:=(B.rd).elem (i:=0) oB
   have bU:=splitB_gt (32:UInt8) s
   have bV:=splitB_el ao
   refine Q (rX tsl44 (B.rd) G G oB)<|Q (r_ld (v:=str (gt (splitB (32:UInt8) s) 0)) sca9 G ((B.rd).cell0 ao G))<|Q (mL G)<|Qv ent96 (c_impl_stepFor K (gt (splitB (32:UInt8) s) 0) (numsW (((splitB (32:UInt8) s).drop 1).take k)) (F.rd)) G fun cI c ce=>(Q (mT G)<|Q (xG G G)<|Q (xB G G)<|Qa (l:=[i6 0,i6 0,i6 0,i6 0]) tz106 G ?_)
   intro aq cJ bM p b5 a6
   refine Qw (o:=0) (vs:=[i6 (((impl_stepFor (gt (splitB (32:UInt8) s) 0) (numsW (((splitB (32:UInt8) s).drop 1).take k))).1).Kind),i6 (((impl_stepFor (gt (splitB (32:UInt8) s) 0) (numsW (((splitB (32:UInt8) s).drop 1).take k))).1).Id),i6 (((impl_stepFor (gt (splitB (32:UInt8) s) 0) (numsW (((splitB (32:UInt8) s).drop 1).take k))).1).Reader),i6 (((impl_stepFor (gt (splitB (32:UInt8) s) 0) (numsW (((splitB (32:UInt8) s).drop 1).take k))).1).Value)]) agg106.2 G G G G a6 ler G ?_
   intro bz q b6 aC
   have ah:=((au.lo c).lo p).new q
   refine Q (aB G)<|Qn (Ws ?_)
   have P:=((X.lo c).lo p).kn q
   have I:=((Y.lo c).lo p).kd q (nE (g:=aq) (Y.lo c))
   have J:=((Z.lo c).lo p).kd q (nE (g:=aq) (Z.lo c))
   have aK:=((aa.lo c).lo p).kn q
   have aM:=((B.lo c).lo p).kd q (nE (g:=aq) (B.lo c))
   refine Wr (Q (mB G)<|Qn (Wb G (fun bl=>?_) (fun bl=>?_)))
   ·refine Ws (Wr (Q (lG agg34 G P G)<|Q (r_lda (l:=[i6 (((impl_stepFor (gt (splitB (32:UInt8) s) 0) (numsW (((splitB (32:UInt8) s).drop 1).take k))).1).Kind),i6 (((impl_stepFor (gt (splitB (32:UInt8) s) 0) (numsW (((splitB (32:UInt8) s).drop 1).take k))).1).Id),i6 (((impl_stepFor (gt (splitB (32:UInt8) s) 0) (numsW (((splitB (32:UInt8) s).drop 1).take k))).1).Reader),i6 (((impl_stepFor (gt (splitB (32:UInt8) s) 0) (numsW (((splitB (32:UInt8) s).drop 1).take k))).1).Value)]) agg106 G (fun _ _ hu=>aC.cell hu) G)<|Qc ent97 (c__impl_Library__stepped bz x (I.rd) (J.rd) ((impl_stepFor (gt (splitB (32:UInt8) s) 0) (numsW (((splitB (32:UInt8) s).drop 1).take k))).1) oB oB) G ?_))
    rintro e cK ⟨R,ab,T,S,ac,U,rfl,N,O,bg,d⟩
    refine ⟨_,G,?_⟩
    have cf:=d.size
    have bO:=N.len
    have bP:=N.rd.bound
    have bW:=(stepped_lenL x ((impl_stepFor (gt (splitB (32:UInt8) s) 0) (numsW (((splitB (32:UInt8) s).drop 1).take k))).1)).1
    have bQ:=O.len
    have bR:=O.rd.bound
    have bX:=(stepped_lenL x ((impl_stepFor (gt (splitB (32:UInt8) s) 0) (numsW (((splitB (32:UInt8) s).drop 1).take k))).1)).2
    refine Q (mT G)<|Q (xG G G)<|Q (xB G G)<|Qa (l:=zLb) tz34 G ?_
    intro ar cN bN m b7 a7
    refine Qw (o:=0) (vs:=(cLb R ab T S ac U ((impl_Library_stepped x ((impl_stepFor (gt (splitB (32:UInt8) s) 0) (numsW (((splitB (32:UInt8) s).drop 1).take k))).1)).1))) agg34.2 G G G G a7 ler G ?_
    intro bA n b8 aD
    have ai:=((ah.lo d).lo m).new n
    refine Q (aB G)<|Qn (Ws (Ws ?_))
    have aN:=((aK.lo d).lo m).kn n
    have al:=(N.lo m).kd n (nE (g:=ar) N)
    have am:=(O.lo m).kd n (nE (g:=ar) O)
    refine Wr (Q (mB G)<|Q (rN G)<|Qn (Wb G (fun aA=>?_) (fun aA=>?_)))
    ·have bY:=bnot_t aA
     refine Ws (Wr (Q (lG agg34 G (((P.lo d).lo m).kn n) G)<|Qw (o:=0) (vs:=(cLb Ax1 nx1 cx1 Ax2 nx2 cx2 x)) agg34.2 G G G G aN ler G ?_))
     intro cO aj b9 a8
     refine Q (r_as (v:=str ([]:List UInt8)) G)<|Q (aB G)<|Qn (We (retCTT G G agg34 a8 G (v:=str _) G (v':=.bool _) G ?_))
     refine ⟨Ax1,nx1,cx1,Ax2,nx2,cx2,eR (eT3 (e5 ?_ ?_ ?_) (eS ?_) (eB ?_)),(oq ((((I.lo d).lo m).kd n (nE (g:=ar) (I.lo d))).kd aj aE) ?_),(oq ((((J.lo d).lo m).kd n (nE (g:=ar) (J.lo d))).kd aj aF) ?_),hdx_Maps_x2,(fun b_ h_=>.inl (.inl h_)),(fun b_ h_=>.inl (.inr h_)),(ai.new aj)⟩ <;> (rw [rep_no (k:=k) oB (And.right ‹_∧AllNum _›) oJ oJ]; try rfl)
    ·have bZ:=bnot_f aA
     refine Wk (Ws (Wr (Q (r_lda (l:=(cLb R ab T S ac U ((impl_Library_stepped x ((impl_stepFor (gt (splitB (32:UInt8) s) 0) (numsW (((splitB (32:UInt8) s).drop 1).take k))).1)).1))) agg34 G (fun _ _ hu=>aD.cell hu) G)<|Q (fA fa106_1 G)<|Q (lB sca3 G (((aC.lo d).lo m).kn n) G)<|Qv ent73 (c_impl_MapText bA ((impl_Library_stepped x ((impl_stepFor (gt (splitB (32:UInt8) s) 0) (numsW (((splitB (32:UInt8) s).drop 1).take k))).1)).1) (al.rd) (am.rd) (((impl_stepFor (gt (splitB (32:UInt8) s) 0) (numsW (((splitB (32:UInt8) s).drop 1).take k))).1).Id) oB (hE.lo ai)) G fun cP t cg=>?_)))
     have b4:(mapT ((impl_Library_stepped x ((impl_stepFor (gt (splitB (32:UInt8) s) 0) (numsW (((splitB (32:UInt8) s).drop 1).take k))).1)).1) (((impl_stepFor (gt (splitB (32:UInt8) s) 0) (numsW (((splitB (32:UInt8) s).drop 1).take k))).1).Id)).1.length≤75:=mapT_len ((impl_Library_stepped x ((impl_stepFor (gt (splitB (32:UInt8) s) 0) (numsW (((splitB (32:UInt8) s).drop 1).take k))).1)).1) (((impl_stepFor (gt (splitB (32:UInt8) s) 0) (numsW (((splitB (32:UInt8) s).drop 1).take k))).1).Id)
     refine Q (mT G)<|Q (xS G G)<|Q (xB G G)<|Q (aS G)<|Q (aB G)<|Qn (Ws (Wr (Q (r_lda (l:=(cLb R ab T S ac U ((impl_Library_stepped x ((impl_stepFor (gt (splitB (32:UInt8) s) 0) (numsW (((splitB (32:UInt8) s).drop 1).take k))).1)).1))) agg34 G (fun _ _ hu=>(aD.lo t).cell hu) G)<|Q (mS G)<|Q (mB G)<|Qw (o:=0) (vs:=(cLb R ab T S ac U ((impl_Library_stepped x ((impl_stepFor (gt (splitB (32:UInt8) s) 0) (numsW (((splitB (32:UInt8) s).drop 1).take k))).1)).1))) agg34.2 G G G G (aN.lo t) ler G ?_)))
     intro cQ H ca ba
     refine Q (aS G)<|Q (aB G)<|Qn (We (retCTT G G agg34 ba G (v:=str _) G (v':=.bool _) G ?_))
     refine ⟨R,ab,T,S,ac,U,eR (eT3 (e5 ?_ ?_ ?_) (eS ?_) (eB ?_)),(oq (((al.lo t).kn H).down) ?_),(oq (((am.lo t).kn H).down) ?_),bg,(fun b_ h=>.inr (by have:=((al.lo t).kn H).base_le h; omega)),(fun b_ h=>.inr (by have:=((am.lo t).kn H).base_le h; omega)),((ai.lo t).new H)⟩ <;> (rw [rep_yes (k:=k) oB (And.right ‹_∧AllNum _›) oJ oJ]; try rfl)
   ·refine Wk (Ws (W.regD mo oC (Rq (fun w' hw'=>lG agg34 G (P.lo hw') G)<|Rq (fun w' hw'=>mL G)<|Rq (fun w' hw'=>rX tsl44 ((aM.lo hw').rd) G G oB)<|Rq (fun w' hw'=>r_ld (v:=str (gt (splitB (32:UInt8) s) 0)) sca9 G (((aM.lo hw').rd).cell0 ao G))<|Rq (fun w' hw'=>mL G)<|QR.call ent98 (fun w' hw'=>(c_impl_tell w' x ((I.lo hw').rd) ((J.lo hw').rd) (gt (splitB (32:UInt8) s) 0) (numsW (((splitB (32:UInt8) s).drop 1).take k)) (((((F.lo c).lo p).kd q (nE (g:=aq) (F.lo c))).lo hw').rd) oB oB oB oJ (by exact ‹LibOK _›.1.1) (hE.lo (ah.trans hw'))).mono fun _ _ h=>⟨h.1,hw'.trans h.2⟩) G<|Rq (fun w' hw'=>mT G)<|Rq (fun w' hw'=>xS G G)<|Rq (fun w' hw'=>xB G G)<|Rq (fun w' hw'=>aS G)<|Rq (fun w' hw'=>aB G)<|QR.nil ?_)))
    intro cR z
    have ch:=z.size
    refine Ws (Wr (Q (lG agg34 G (P.lo z) G)<|Q (mS G)<|Q (mB G)<|Qw (o:=0) (vs:=(cLb Ax1 nx1 cx1 Ax2 nx2 cx2 x)) agg34.2 G G G G (aK.lo z) ler G ?_))
    intro cS ak cd bb
    refine Q (aS G)<|Q (aB G)<|Qn (We (retCTT G G agg34 bb G (v:=str _) G (v':=.bool _) G ?_))
    refine ⟨Ax1,nx1,cx1,Ax2,nx2,cx2,eR (eT3 (e5 ?_ ?_ ?_) (eS ?_) (eB ?_)),(oq ((I.lo z).kd ak aE) ?_),(oq ((J.lo z).kd ak aF) ?_),hdx_Maps_x2,(fun b_ h_=>.inl (.inl h_)),(fun b_ h_=>.inl (.inr h_)),((ah.lo z).new ak)⟩ <;> (rw [rep_tell (k:=k) oB (And.right ‹_∧AllNum _›) oJ]; try rfl)
end Go.Proofs.YtndcchndcghmoaaGreatDoor
namespace Go.Proofs.YtndcchndcghmoaaGreatDoor
open Go Go.RowKit Fw
set_option maxRecDepth 10000
set_option maxHeartbeats 2000000
set_option linter.unusedVariables false
variable {Ac1 Ac2 : Option Addr} {nc1 cc1 Bc1 nc2 cc2 Bc2 : Nat}
theorem bld71_0 (a0:List UInt8):Tryz.prog.built 71 [(0,str a0)]=some (List.toArray [str a0,str ([]:List UInt8)]):=by kernel_rfl
theorem ent35:Ent Tryz.prog 35:=en Tryz.func35
theorem ent49:Ent Tryz.prog 49:=en Tryz.func49
theorem ent50:Ent Tryz.prog 50:=en Tryz.func50
theorem c_impl_ExecuteCommand (w:World) (c:Console) (aC:SlR w Bc1 encLMap 3 Ac1 nc1 cc1 c.Library.Maps) (aD:SlR w Bc2 encAway 2 Ac2 nc2 cc2 c.Library.Away) (s:List UInt8) (cH:(c.Library.Maps.length:Int)≤1048576∧(c.Library.Away.length:Int)≤1048576∧(c.Log.Durable.length:Int)+(c.Log.Pending.length:Int)≤1048576) (cI:(s.length:Int)≤1048576) (hE:EnvW w):Calls Tryz.prog 12 #[.agg (List.toArray (cCn Ac1 nc1 cc1 Ac2 nc2 cc2 c)),str s] w fun e w'=>∃ A1' n1' c1' A2' n2' c2',e=.returned (.tuple (List.toArray [.agg (List.toArray (cCn A1' n1' c1' A2' n2' c2' ((execN c s).1))),str ((execN c s).2)]))∧SlO w' w.heap.size encLMap 3 102 A1' n1' c1' (((execN c s).1).Library.Maps)∧SlO w' w.heap.size encAway 2 129 A2' n2' c2' (((execN c s).1).Library.Away)∧Dj A1' A2'∧Lo w w':=by
 refine cW 62 Tryz.func12 G G G ?_
 have bp:=aC.bound
 have bE:=aC.len
 have bn:=aC.bd
 have bq:=aD.bound
 have bF:=aD.len
 have bo:=aD.bd
 refine Ws (Wr (bx G ?_))
 intro g1 w2 cG a7 cJ bg
 refine Qa (l:=zCn) tz37 G ?_
 intro g9 b4 b8 S ci be
 refine Q (r_as (v:=str ([]:List UInt8)) G)<|Qn (Ws (Wr (Q (fA fa37_0 G)<|Q (r_lda (l:=(cLb Ac1 nc1 cc1 Ac2 nc2 cc2 c.Library)) agg34 G (fun _ _ hu=>(bg.lo S).cells (vs:=(cLb Ac1 nc1 cc1 Ac2 nc2 cc2 c.Library)) G hu) G)<|Qc ent47 (c__impl_Library__own b4 c.Library ((aC.lo a7).lo S) ((aD.lo a7).lo S) oB oB) G ?_)))
 rintro e cK ⟨d,t,i,f,u,j,rfl,O,P,R,al⟩
 refine ⟨_,G,?_⟩
 have cn:=al.size
 have b9:=O.len
 have ca:=O.rd.bound
 have cd:=P.len
 have ce:=P.rd.bound
 refine Q (fA fa37_0 G)<|Qw (o:=0) (vs:=(cLb d t i f u j c.Library)) agg34.2 G G G G ((bg.lo S).lo al) ler G ?_
 intro b5 x cj ak
 have aH:=((((lr w).lo a7).lo S).lo al).new x
 refine Qn (Ws (Wl (Ws ?_)))
 have aA:=(be.lo al).kn x
 refine Wr (Q (lG agg37 G ak G)<|Qv ent35 (c_impl_IsValidConsole b5 c ((O.kn x).rd) ((P.kn x).rd) oB (hE.lo aH)) G fun b6 b co=>?_)
 have aq:=aH.lo b
 refine Q (rN G)<|Q (aB G)<|Qn (Wz G (fun aN=>?_) (fun aN=>?_))
 ·refine Ws (Wr (Q (lG agg37 G (ak.lo b) G)<|Qw (o:=0) (vs:=(cCn d t i f u j c)) agg37.2 G G G G (aA.lo b) ler G ?_))
  intro cN au ck bf
  refine Q (r_as (v:=str ([110,111]:List UInt8)) G)<|Qn (We (retCT G G agg37 bf G (v:=str _) G ?_))
  refine ⟨d,t,i,f,u,j,eR (eT2 (e8 ?_ ?_ ?_ ?_ ?_ ?_) (eS ?_)),(oq ((((O.kn x).lo b).kn au).down) ?_),(oq ((((P.kn x).lo b).kn au).down) ?_),R,(aq.new au)⟩ <;> (rw [exec_no ‹¬ConOK _›]; try rfl)
 ·have cf:=con_rng aN
  have cg:=And.left aN
  refine Ws ?_
  have H:=(O.kn x).lo b
  have I:=(P.kn x).lo b
  refine Wr (Q (mS G)<|Q (r_build (vs:=[(0,str s)]) G (bld71_0 _))<|Qv ent48 (c_impl_IsValidRecord b6 (⟨s,([]:List UInt8)⟩:LogRecord) (hE.lo aq)) G fun b7 a cp=>?_)
  have ah:=aq.lo a
  refine Q (rN G)<|Q (aB G)<|Qn (Wz G (fun ba=>?_) (fun ba=>?_))
  ·refine Ws (Wr (Q (lG agg37 G ((ak.lo b).lo a) G)<|Qw (o:=0) (vs:=(cCn d t i f u j c)) agg37.2 G G G G ((aA.lo b).lo a) ler G ?_))
   intro cO aw cl bh
   refine Q (r_as (v:=str ([98,97,100]:List UInt8)) G)<|Qn (We (retCT G G agg37 bh G (v:=str _) G ?_))
   refine ⟨d,t,i,f,u,j,eR (eT2 (e8 ?_ ?_ ?_ ?_ ?_ ?_) (eS ?_)),(oq (((H.lo a).kn aw).down) ?_),(oq (((I.lo a).kn aw).down) ?_),R,(ah.new aw)⟩ <;> (rw [exec_bad (c:=c) (s:=s) oI oJ]; try rfl)
  ·have ch:=rec_rngS ba
   refine Ws ?_
   have am:=(ak.lo b).lo a
   have an:=(aA.lo b).lo a
   refine Wr (Q (fA fa37_1 G)<|Q (fA fa35_2 G)<|Q (r_ld (v:=i6 c.Log.Count) sca3 G (am.cell2 G))<|Q (r_ge G G)<|Q (aB G)<|Qn (Wd G (fun bm=>?_) (fun bm=>?_)))
   ·refine Ws (Wr (Q (lG agg37 G am G)<|Qw (o:=0) (vs:=(cCn d t i f u j c)) agg37.2 G G G G an ler G ?_))
    intro cP ax cm bi
    refine Q (r_as (v:=str ([102,117,108,108]:List UInt8)) G)<|Qn (We (retCT G G agg37 bi G (v:=str _) G ?_))
    refine ⟨d,t,i,f,u,j,eR (eT2 (e8 ?_ ?_ ?_ ?_ ?_ ?_) (eS ?_)),(oq (((H.lo a).kn ax).down) ?_),(oq (((I.lo a).kn ax).down) ?_),R,(ah.new ax)⟩ <;> (rw [exec_full (c:=c) (s:=s) oI oI oB]; try rfl)
   ·refine Wk (Ws (Wr (Q (fA fa37_0 G)<|Q (r_lda (l:=(cLb d t i f u j c.Library)) agg34 G (fun _ _ hu=>am.cells (vs:=(cLb d t i f u j c.Library)) G hu) G)<|Q (mS G)<|Qc ent49 (c_impl_reply b7 c.Library (H.lo a) (I.lo a) s R oB oB oJ oB (hE.lo ah)) G ?_)))
    rintro e cQ ⟨M,ac,T,N,ae,U,rfl,ai,aj,aJ,bb,bc,y⟩
    refine ⟨_,G,?_⟩
    have cq:=y.size
    have aK:¬M=some ⟨g9,0,none⟩:=fun e'=>(bb g9 e').elim (fun h=>h.elim (fun h=>(by have:=(H.lo a).base_le h; omega)) (fun h=>(by have:=(I.lo a).base_le h; omega))) (fun h=>by have:=an.lt; omega)
    have ar:¬N=some ⟨g9,0,none⟩:=fun e'=>(bc g9 e').elim (fun h=>h.elim (fun h=>(by have:=(H.lo a).base_le h; omega)) (fun h=>(by have:=(I.lo a).base_le h; omega))) (fun h=>by have:=an.lt; omega)
    have bA:=ai.len
    have bB:=ai.rd.bound
    have bC:=aj.len
    have bD:=aj.rd.bound
    refine Q (mT G)<|Q (xG G G)<|Q (xS G G)<|Q (xB G G)<|Qa (l:=zLb) tz34 G ?_
    intro ag cr bs k bL aO
    have W:=nE (g:=ag) ((H.lo a).lo y)
    have X:=nE (g:=ag) ((I.lo a).lo y)
    refine Qw (o:=0) (vs:=(cLb M ac T N ae U ((repN c.Library s).1))) agg34.2 G G G G aO ler G ?_
    intro aM m bM V
    have z:=((ah.lo y).lo k).new m
    refine Q (aS G)<|Q (aB G)<|Qn (Ws (Wl (Ws ?_)))
    have J:=((am.lo y).lo k).kn m
    have ay:=(((H.lo a).lo y).lo k).kd m W
    have az:=(((I.lo a).lo y).lo k).kd m X
    have ab:=((an.lo y).lo k).kn m
    have K:=(ai.lo k).kd m (nE (g:=ag) ai)
    have L:=(aj.lo k).kd m (nE (g:=ag) aj)
    refine Wr (Q (mB G)<|Q (rN G)<|Q (aB G)<|Qn (Wb G (fun ao=>?_) (fun ao=>?_)))
    ·have bG:=bnot_t ao
     refine Wr (Q (fA fa37_0 G)<|Q (r_lda (l:=(cLb d t i f u j c.Library)) agg34 G (fun _ _ hu=>J.cells (vs:=(cLb d t i f u j c.Library)) G hu) G)<|Qw (o:=0) (vs:=(cLb d t i f u j c.Library)) agg34.2 G G G G V ler G ?_)
     intro bj n bN aQ
     have ap:=z.new n
     refine Q (r_as (v:=str ([63]:List UInt8)) G)<|Qn (Ws (Wr (Q (fA fa37_1 G)<|Q (r_lda (l:=[str c.Log.Durable,str c.Log.Pending,i6 c.Log.Count]) agg35 G (fun _ _ hu=>(J.kn n).cells (vs:=[str c.Log.Durable,str c.Log.Pending,i6 c.Log.Count]) G hu) G)<|Q (mS G)<|Q (mS G)<|Q (r_build (vs:=[(0,str s),(1,str ([63]:List UInt8))]) G (bld71_0_1 _ _))<|Qv ent50 (c_impl_AppendRecord bj c.Log (⟨s,([63]:List UInt8)⟩:LogRecord) oB (hE.lo ap)) G fun ct p bX=>?_)))
     have bH:(appN c.Log (⟨s,([63]:List UInt8)⟩:LogRecord)).1.Durable.length+(appN c.Log (⟨s,([63]:List UInt8)⟩:LogRecord)).1.Pending.length≤c.Log.Durable.length+c.Log.Pending.length+406:=appN_len c.Log (⟨s,([63]:List UInt8)⟩:LogRecord)
     refine Q (mT G)<|Q (xG G G)<|Q (xI G G)<|Qa (l:=[str ([]:List UInt8),str ([]:List UInt8),i6 0]) tz35 G ?_
     intro aE cu bt A bO aR
     refine Qw (o:=0) (vs:=[str (((appN c.Log (⟨s,([63]:List UInt8)⟩:LogRecord)).1).Durable),str (((appN c.Log (⟨s,([63]:List UInt8)⟩:LogRecord)).1).Pending),i6 (((appN c.Log (⟨s,([63]:List UInt8)⟩:LogRecord)).1).Count)]) agg35.2 G G G G aR ler G ?_
     intro cw B bP aT
     refine Q (aI G)<|Qn (Ws (Wr (Q (lG agg34 G (((aQ.lo p).lo A).kn B) G)<|Q (lG agg35 G aT G)<|Q (r_build (vs:=[(0,.agg (List.toArray (cLb d t i f u j c.Library))),(1,.agg (List.toArray [str (((appN c.Log (⟨s,([63]:List UInt8)⟩:LogRecord)).1).Durable),str (((appN c.Log (⟨s,([63]:List UInt8)⟩:LogRecord)).1).Pending),i6 (((appN c.Log (⟨s,([63]:List UInt8)⟩:LogRecord)).1).Count)]))]) G (bld37_0_1 _ _ _ _ _ _ _ _))<|Q (mS G)<|Qw (o:=0) (vs:=[.slice d t i,.slice f u j,i6 c.Library.Bought,i6 c.Library.Dropped,i6 c.Library.Mended,str (((appN c.Log (⟨s,([63]:List UInt8)⟩:LogRecord)).1).Durable),str (((appN c.Log (⟨s,([63]:List UInt8)⟩:LogRecord)).1).Pending),i6 (((appN c.Log (⟨s,([63]:List UInt8)⟩:LogRecord)).1).Count)]) agg37.2 G G G G ((((ab.kn n).lo p).lo A).kn B) ler G ?_)))
     intro cx Y bQ aU
     refine Q (aS G)<|Qn (We (retCT G G agg37 aU G (v:=str _) G ?_))
     refine ⟨d,t,i,f,u,j,eR (eT2 (e8 ?_ ?_ ?_ ?_ ?_ ?_) (eS ?_)),(oq ((((((ay.kd n W).lo p).lo A).kd B (nE (g:=aE) ((ay.kd n W).lo p))).kn Y).down) ?_),(oq ((((((az.kd n X).lo p).lo A).kd B (nE (g:=aE) ((az.kd n X).lo p))).kn Y).down) ?_),R,((((ap.lo p).lo A).new B).new Y)⟩ <;> (rw [exec_q (c:=c) (s:=s) oI oI oB oJ]; try rfl)
    ·have bI:=bnot_f ao
     refine Ws (Wr (Q (mS G)<|Q (r_len_s und9 G)<|Q (r_gt G G)<|Q (aB G)<|Qn (Wd G (fun a8=>?_) (fun a8=>?_))))
     ·refine Wr (Q (r_as (v:=str ([108,111,110,103]:List UInt8)) G)<|Qn (Ws (Wr (Q (fA fa37_1 G)<|Q (r_lda (l:=[str c.Log.Durable,str c.Log.Pending,i6 c.Log.Count]) agg35 G (fun _ _ hu=>J.cells (vs:=[str c.Log.Durable,str c.Log.Pending,i6 c.Log.Count]) G hu) G)<|Q (mS G)<|Q (mS G)<|Q (r_build (vs:=[(0,str s),(1,str ([108,111,110,103]:List UInt8))]) G (bld71_0_1 _ _))<|Qv ent50 (c_impl_AppendRecord aM c.Log (⟨s,([108,111,110,103]:List UInt8)⟩:LogRecord) oB (hE.lo z)) G fun cy q bY=>?_))))
      have bJ:(appN c.Log (⟨s,([108,111,110,103]:List UInt8)⟩:LogRecord)).1.Durable.length+(appN c.Log (⟨s,([108,111,110,103]:List UInt8)⟩:LogRecord)).1.Pending.length≤c.Log.Durable.length+c.Log.Pending.length+406:=appN_len c.Log (⟨s,([108,111,110,103]:List UInt8)⟩:LogRecord)
      refine Q (mT G)<|Q (xG G G)<|Q (xI G G)<|Qa (l:=[str ([]:List UInt8),str ([]:List UInt8),i6 0]) tz35 G ?_
      intro aF cz bu C bR aV
      refine Qw (o:=0) (vs:=[str (((appN c.Log (⟨s,([108,111,110,103]:List UInt8)⟩:LogRecord)).1).Durable),str (((appN c.Log (⟨s,([108,111,110,103]:List UInt8)⟩:LogRecord)).1).Pending),i6 (((appN c.Log (⟨s,([108,111,110,103]:List UInt8)⟩:LogRecord)).1).Count)]) agg35.2 G G G G aV ler G ?_
      intro cA D bS aW
      refine Q (aI G)<|Qn (Ws (Wr (Q (lG agg34 G (((V.lo q).lo C).kn D) G)<|Q (lG agg35 G aW G)<|Q (r_build (vs:=[(0,.agg (List.toArray (cLb M ac T N ae U ((repN c.Library s).1)))),(1,.agg (List.toArray [str (((appN c.Log (⟨s,([108,111,110,103]:List UInt8)⟩:LogRecord)).1).Durable),str (((appN c.Log (⟨s,([108,111,110,103]:List UInt8)⟩:LogRecord)).1).Pending),i6 (((appN c.Log (⟨s,([108,111,110,103]:List UInt8)⟩:LogRecord)).1).Count)]))]) G (bld37_0_1 _ _ _ _ _ _ _ _))<|Q (mS G)<|Qw (o:=0) (vs:=[.slice M ac T,.slice N ae U,i6 (((repN c.Library s).1).Bought),i6 (((repN c.Library s).1).Dropped),i6 (((repN c.Library s).1).Mended),str (((appN c.Log (⟨s,([108,111,110,103]:List UInt8)⟩:LogRecord)).1).Durable),str (((appN c.Log (⟨s,([108,111,110,103]:List UInt8)⟩:LogRecord)).1).Pending),i6 (((appN c.Log (⟨s,([108,111,110,103]:List UInt8)⟩:LogRecord)).1).Count)]) agg37.2 G G G G (((ab.lo q).lo C).kn D) ler G ?_)))
      intro cB Z bT aX
      refine Q (aS G)<|Qn (We (retCT G G agg37 aX G (v:=str _) G ?_))
      refine ⟨M,ac,T,N,ae,U,eR (eT2 (e8 ?_ ?_ ?_ ?_ ?_ ?_) (eS ?_)),(oq (((((K.lo q).lo C).kd D (nE (g:=aF) (K.lo q))).kd Z aK).down) ?_),(oq (((((L.lo q).lo C).kd D (nE (g:=aF) (L.lo q))).kd Z ar).down) ?_),aJ,((((z.lo q).lo C).new D).new Z)⟩ <;> (rw [exec_l (c:=c) (s:=s) oI oI oB oJ oB]; try rfl)
     ·refine Wk (Ws (Wr (Q (fA fa37_1 G)<|Q (r_lda (l:=[str c.Log.Durable,str c.Log.Pending,i6 c.Log.Count]) agg35 G (fun _ _ hu=>J.cells (vs:=[str c.Log.Durable,str c.Log.Pending,i6 c.Log.Count]) G hu) G)<|Q (mS G)<|Q (mS G)<|Q (r_build (vs:=[(0,str s),(1,str ((repN c.Library s).2.1))]) G (bld71_0_1 _ _))<|Qv ent50 (c_impl_AppendRecord aM c.Log (⟨s,(repN c.Library s).2.1⟩:LogRecord) oB (hE.lo z)) G fun cC r bZ=>?_)))
      have bK:(appN c.Log (⟨s,(repN c.Library s).2.1⟩:LogRecord)).1.Durable.length+(appN c.Log (⟨s,(repN c.Library s).2.1⟩:LogRecord)).1.Pending.length≤c.Log.Durable.length+c.Log.Pending.length+406:=appN_len c.Log (⟨s,(repN c.Library s).2.1⟩:LogRecord)
      refine Q (mT G)<|Q (xG G G)<|Q (xI G G)<|Qa (l:=[str ([]:List UInt8),str ([]:List UInt8),i6 0]) tz35 G ?_
      intro aG cD bz E bU aY
      refine Qw (o:=0) (vs:=[str (((appN c.Log (⟨s,(repN c.Library s).2.1⟩:LogRecord)).1).Durable),str (((appN c.Log (⟨s,(repN c.Library s).2.1⟩:LogRecord)).1).Pending),i6 (((appN c.Log (⟨s,(repN c.Library s).2.1⟩:LogRecord)).1).Count)]) agg35.2 G G G G aY ler G ?_
      intro cE F bV aZ
      refine Q (aI G)<|Qn (Ws (Wr (Q (lG agg34 G (((V.lo r).lo E).kn F) G)<|Q (lG agg35 G aZ G)<|Q (r_build (vs:=[(0,.agg (List.toArray (cLb M ac T N ae U ((repN c.Library s).1)))),(1,.agg (List.toArray [str (((appN c.Log (⟨s,(repN c.Library s).2.1⟩:LogRecord)).1).Durable),str (((appN c.Log (⟨s,(repN c.Library s).2.1⟩:LogRecord)).1).Pending),i6 (((appN c.Log (⟨s,(repN c.Library s).2.1⟩:LogRecord)).1).Count)]))]) G (bld37_0_1 _ _ _ _ _ _ _ _))<|Q (mS G)<|Qw (o:=0) (vs:=[.slice M ac T,.slice N ae U,i6 (((repN c.Library s).1).Bought),i6 (((repN c.Library s).1).Dropped),i6 (((repN c.Library s).1).Mended),str (((appN c.Log (⟨s,(repN c.Library s).2.1⟩:LogRecord)).1).Durable),str (((appN c.Log (⟨s,(repN c.Library s).2.1⟩:LogRecord)).1).Pending),i6 (((appN c.Log (⟨s,(repN c.Library s).2.1⟩:LogRecord)).1).Count)]) agg37.2 G G G G (((ab.lo r).lo E).kn F) ler G ?_)))
      intro cF aa bW a6
      refine Q (aS G)<|Qn (We (retCT G G agg37 a6 G (v:=str _) G ?_))
      refine ⟨M,ac,T,N,ae,U,eR (eT2 (e8 ?_ ?_ ?_ ?_ ?_ ?_) (eS ?_)),(oq (((((K.lo r).lo E).kd F (nE (g:=aG) (K.lo r))).kd aa aK).down) ?_),(oq (((((L.lo r).lo E).kd F (nE (g:=aG) (L.lo r))).kd aa ar).down) ?_),aJ,((((z.lo r).lo E).new F).new aa)⟩ <;> (rw [exec_y (c:=c) (s:=s) oI oI oB oJ oB]; try rfl)
end Go.Proofs.YtndcchndcghmoaaGreatDoor
namespace Go.Proofs.YtndcchndcghmoaaGreatDoor
open Go Go.RowKit Fw
set_option maxRecDepth 10000
set_option maxHeartbeats 2000000
set_option linter.unusedVariables false
variable {Ac1 Ac2 : Option Addr} {nc1 cc1 Bc1 nc2 cc2 Bc2 : Nat}
theorem ent41:Ent Tryz.prog 41:=en Tryz.func41
theorem ent44:Ent Tryz.prog 44:=en Tryz.func44
theorem ent45:Ent Tryz.prog 45:=en Tryz.func45
theorem c_spec_ExecuteCommand (w:World) (c:Console) (ak:SlR w Bc1 encLMap 3 Ac1 nc1 cc1 c.Library.Maps) (al:SlR w Bc2 encAway 2 Ac2 nc2 cc2 c.Library.Away) (s:List UInt8) (ct:(c.Library.Maps.length:Int)≤1048576∧(c.Library.Away.length:Int)≤1048576∧(c.Log.Durable.length:Int)+(c.Log.Pending.length:Int)≤1048576) (cu:(s.length:Int)≤1048576):Calls Tryz.prog 10 #[.agg (List.toArray (cCn Ac1 nc1 cc1 Ac2 nc2 cc2 c)),str s] w fun e w'=>∃ A1' n1' c1' A2' n2' c2',e=.returned (.tuple (List.toArray [.agg (List.toArray (cCn A1' n1' c1' A2' n2' c2' ((execN c s).1))),str ((execN c s).2)]))∧SlO w' w.heap.size encLMap 3 102 A1' n1' c1' (((execN c s).1).Library.Maps)∧SlO w' w.heap.size encAway 2 129 A2' n2' c2' (((execN c s).1).Library.Away)∧Dj A1' A2'∧Lo w w':=by
 refine cW 51 Tryz.func10 G G G ?_
 have bf:=ak.bound
 have bt:=ak.len
 have ba:=ak.bd
 have bg:=al.bound
 have bu:=al.len
 have bb:=al.bd
 refine Ws (Wr (bx G ?_))
 intro g1 w2 cr aJ cw aW
 refine Qa (l:=zCn) tz37 G ?_
 intro g9 bR bV E b8 aU
 refine Q (r_as (v:=str ([]:List UInt8)) G)<|Qn (Ws ?_)
 have ao:=(ak.lo aJ).lo E
 have ap:=(al.lo aJ).lo E
 refine Wr (Q (lG agg37 G (aW.lo E) G)<|Qc ent41 (c_spec_l34Own bR c ao ap oB oB) G ?_)
 rintro e cx ⟨I,O,K,J,P,L,rfl,R,S,T,q⟩
 refine ⟨_,G,?_⟩
 have cf:=q.size
 have bX:=R.len
 have bY:=R.rd.bound
 have bZ:=S.len
 have b4:=S.rd.bound
 refine Qa (l:=zCn) tz37 G ?_
 intro aQ cy bW n b9 aV
 refine Qw (o:=0) (vs:=(cCn I O K J P L c)) agg37.2 G G G G aV ler G ?_
 intro bS p ca X
 refine Qn (Ws (Wl (Ws ?_)))
 have aq:=(((aW.lo E).lo q).lo n).kn p
 have ag:=((aU.lo q).lo n).kn p
 have ah:=(R.lo n).kd p (nE (g:=aQ) R)
 have ai:=(S.lo n).kd p (nE (g:=aQ) S)
 refine Wr (Q (lG agg37 G aq G)<|Qv ent42 (c_spec_l34Good bS c (((ao.lo q).lo n).kn p) (((ap.lo q).lo n).kn p) oB) G fun bT a cg=>?_)
 have an:=((((((lr w).lo aJ).lo E).lo q).lo n).new p).lo a
 refine Q (rN G)<|Q (aB G)<|Qn (Wz G (fun az=>?_) (fun az=>?_))
 ·refine Ws (Wr (Q (lG agg37 G (X.lo a) G)<|Qw (o:=0) (vs:=(cCn I O K J P L c)) agg37.2 G G G G (ag.lo a) ler G ?_))
  intro cz Z cd aX
  refine Q (r_as (v:=str ([110,111]:List UInt8)) G)<|Qn (We (retCT G G agg37 aX G (v:=str _) G ?_))
  refine ⟨I,O,K,J,P,L,eR (eT2 (e8 ?_ ?_ ?_ ?_ ?_ ?_) (eS ?_)),(oq (((ah.lo a).kn Z).down) ?_),(oq (((ai.lo a).kn Z).down) ?_),T,(an.new Z)⟩ <;> (rw [exec_no ‹¬ConOK _›]; try rfl)
 ·have b5:=con_rng az
  have b6:=And.left az
  refine Ws (Wr (Q (mS G)<|Q (r_build (vs:=[(0,str s)]) G (bld71_0 _))<|Qv ent43 (c_spec_l33Good bT (⟨s,([]:List UInt8)⟩:LogRecord) oO) G fun bU b ch=>?_))
  have V:=an.lo b
  refine Q (rN G)<|Q (aB G)<|Qn (Wz G (fun aT=>?_) (fun aT=>?_))
  ·refine Ws (Wr (Q (lG agg37 G ((X.lo a).lo b) G)<|Qw (o:=0) (vs:=(cCn I O K J P L c)) agg37.2 G G G G ((ag.lo a).lo b) ler G ?_))
   intro cA aa ce aY
   refine Q (r_as (v:=str ([98,97,100]:List UInt8)) G)<|Qn (We (retCT G G agg37 aY G (v:=str _) G ?_))
   refine ⟨I,O,K,J,P,L,eR (eT2 (e8 ?_ ?_ ?_ ?_ ?_ ?_) (eS ?_)),(oq ((((ah.lo a).lo b).kn aa).down) ?_),(oq ((((ai.lo a).lo b).kn aa).down) ?_),T,(V.new aa)⟩ <;> (rw [exec_bad (c:=c) (s:=s) oI oJ]; try rfl)
  ·have b7:=rec_rngS aT
   refine Ws ?_
   have ar:=(aq.lo a).lo b
   have au:=(ag.lo a).lo b
   have aj:=(X.lo a).lo b
   have aw:=(ah.lo a).lo b
   have ax:=(ai.lo a).lo b
   refine Wr (Q (fA fa37_1 G)<|Q (fA fa35_2 G)<|Q (r_ld (v:=i6 c.Log.Count) sca3 G (ar.cell2 G))<|Q (r_eq G G)<|Q (aB G)<|Qn (Wd G (fun a8=>?_) (fun a8=>?_)))
   ·refine Ws (Wr (Q (lG agg37 G aj G)<|Qw (o:=0) (vs:=(cCn I O K J P L c)) agg37.2 G G G G au ler G ?_))
    intro cB ab bF aA
    refine Q (r_as (v:=str ([102,117,108,108]:List UInt8)) G)<|Qn (We (retCT G G agg37 aA G (v:=str _) G ?_))
    refine ⟨I,O,K,J,P,L,eR (eT2 (e8 ?_ ?_ ?_ ?_ ?_ ?_) (eS ?_)),(oq ((aw.kn ab).down) ?_),(oq ((ax.kn ab).down) ?_),T,(V.new ab)⟩ <;> (rw [exec_full (c:=c) (s:=s) oI oI oB]; try rfl)
   ·refine Wk (Ws (Wr (Q (lG agg37 G aj G)<|Q (mS G)<|Qc ent44 (c_spec_l34Run bU c aw ax s T oB oB oJ oB) G ?_)))
    rintro e ci ⟨aK,aZ,aN,aM,a6,aO,rfl,r,t,bh,bc,be,i⟩
    refine ⟨_,G,?_⟩
    have bN:=i.size
    have bj:=r.len
    have bl:=r.rd.bound
    have bz:=(run_len (s:=s) ‹LibOK c.Library›).1
    have bm:=t.len
    have bn:=t.rd.bound
    have bA:=(run_len (s:=s) ‹LibOK c.Library›).2
    refine Q (mT G)<|Q (xG G G)<|Q (xS G G)<|Qa (l:=zCn) tz37 G ?_
    intro am cj bi f bG aC
    refine Qw (o:=0) (vs:=(cCn aK aZ aN aM a6 aO ((runS c s).1))) agg37.2 G G G G aC ler G ?_
    intro a7 h bH aD
    refine Q (aS G)<|Qn (Ws (Wr (Q (lG agg37 G aD G)<|Qc ent41 (c_spec_l34Own a7 ((runS c s).1) (((r.lo f).kd h (nE (g:=am) r)).rd) (((t.lo f).kd h (nE (g:=am) t)).rd) oB oB) G ?_)))
    rintro e ck ⟨A,F,C,B,H,D,rfl,u,x,Y,j⟩
    refine ⟨_,G,?_⟩
    have bO:=j.size
    have bo:=u.len
    have bp:=u.rd.bound
    have bB:=(run_len (s:=s) ‹LibOK c.Library›).1
    have bq:=x.len
    have bs:=x.rd.bound
    have bC:=(run_len (s:=s) ‹LibOK c.Library›).2
    refine Qw (o:=0) (vs:=(cCn A F C B H D ((runS c s).1))) agg37.2 G G G G ((((aj.lo i).lo f).kn h).lo j) ler G ?_
    intro ay d bI W
    have U:=((((V.lo i).lo f).new h).lo j).new d
    refine Qn (Ws (Ws ?_))
    have ac:=((((ar.lo i).lo f).kn h).lo j).kn d
    have ae:=((((au.lo i).lo f).kn h).lo j).kn d
    refine Wr (Q (mS G)<|Q (r_len_s und9 G)<|Q (r_gt G G)<|Qn (Wd G (fun aR=>?_) (fun aR=>?_)))
    ·refine Wr (Q (r_as (v:=str ([108,111,110,103]:List UInt8)) G)<|Qn (Ws (Wr (Q (fA fa37_1 G)<|Q (r_lda (l:=[str c.Log.Durable,str c.Log.Pending,i6 c.Log.Count]) agg35 G (fun _ _ hu=>ac.cells (vs:=[str c.Log.Durable,str c.Log.Pending,i6 c.Log.Count]) G hu) G)<|Q (mS G)<|Q (mS G)<|Q (r_build (vs:=[(0,str s),(1,str ([108,111,110,103]:List UInt8))]) G (bld71_0_1 _ _))<|Qv ent45 (c_spec_AppendRecord ay c.Log (⟨s,([108,111,110,103]:List UInt8)⟩:LogRecord) oB oQ) G fun cl k bP=>?_))))
     have bD:(appN c.Log (⟨s,([108,111,110,103]:List UInt8)⟩:LogRecord)).1.Durable.length+(appN c.Log (⟨s,([108,111,110,103]:List UInt8)⟩:LogRecord)).1.Pending.length≤c.Log.Durable.length+c.Log.Pending.length+406:=appN_len c.Log (⟨s,([108,111,110,103]:List UInt8)⟩:LogRecord)
     refine Q (mT G)<|Q (xG G G)<|Q (xI G G)<|Q (fA fa37_1 G)<|Qw (o:=5) (vs:=[str (((appN c.Log (⟨s,([108,111,110,103]:List UInt8)⟩:LogRecord)).1).Durable),str (((appN c.Log (⟨s,([108,111,110,103]:List UInt8)⟩:LogRecord)).1).Pending),i6 (((appN c.Log (⟨s,([108,111,110,103]:List UInt8)⟩:LogRecord)).1).Count)]) agg35.2 G G G G (W.lo k) ler G ?_
     intro cm y bJ aE
     refine Qn (Ws (Wr (Q (lG agg37 G aE G)<|Q (mS G)<|Qw (o:=0) (vs:=[.slice A F C,.slice B H D,i6 (((runS c s).1).Library.Bought),i6 (((runS c s).1).Library.Dropped),i6 (((runS c s).1).Library.Mended),str (((appN c.Log (⟨s,([108,111,110,103]:List UInt8)⟩:LogRecord)).1).Durable),str (((appN c.Log (⟨s,([108,111,110,103]:List UInt8)⟩:LogRecord)).1).Pending),i6 (((appN c.Log (⟨s,([108,111,110,103]:List UInt8)⟩:LogRecord)).1).Count)]) agg37.2 G G G G ((ae.lo k).kn y) ler G ?_)))
     intro cn M bK aF
     refine Q (aS G)<|Qn (We (retCT G G agg37 aF G (v:=str _) G ?_))
     refine ⟨A,F,C,B,H,D,eR (eT2 (e8 ?_ ?_ ?_ ?_ ?_ ?_) (eS ?_)),(oq (((((u.kn d).lo k).kn y).kn M).down) ?_),(oq (((((x.kn d).lo k).kn y).kn M).down) ?_),Y,(((U.lo k).new y).new M)⟩ <;> (rw [exec_Sl (c:=c) (s:=s) oI oI oB oB]; try rfl)
    ·refine Wk (Ws (Wr (Q (fA fa37_1 G)<|Q (r_lda (l:=[str c.Log.Durable,str c.Log.Pending,i6 c.Log.Count]) agg35 G (fun _ _ hu=>ac.cells (vs:=[str c.Log.Durable,str c.Log.Pending,i6 c.Log.Count]) G hu) G)<|Q (mS G)<|Q (mS G)<|Q (r_build (vs:=[(0,str s),(1,str ((runS c s).2))]) G (bld71_0_1 _ _))<|Qv ent45 (c_spec_AppendRecord ay c.Log (⟨s,(runS c s).2⟩:LogRecord) oB oQ) G fun co m bQ=>?_)))
     have bE:(appN c.Log (⟨s,(runS c s).2⟩:LogRecord)).1.Durable.length+(appN c.Log (⟨s,(runS c s).2⟩:LogRecord)).1.Pending.length≤c.Log.Durable.length+c.Log.Pending.length+406:=appN_len c.Log (⟨s,(runS c s).2⟩:LogRecord)
     refine Q (mT G)<|Q (xG G G)<|Q (xI G G)<|Q (fA fa37_1 G)<|Qw (o:=5) (vs:=[str (((appN c.Log (⟨s,(runS c s).2⟩:LogRecord)).1).Durable),str (((appN c.Log (⟨s,(runS c s).2⟩:LogRecord)).1).Pending),i6 (((appN c.Log (⟨s,(runS c s).2⟩:LogRecord)).1).Count)]) agg35.2 G G G G (W.lo m) ler G ?_
     intro cp z bL aG
     refine Qn (Ws (Wr (Q (lG agg37 G aG G)<|Q (mS G)<|Qw (o:=0) (vs:=[.slice A F C,.slice B H D,i6 (((runS c s).1).Library.Bought),i6 (((runS c s).1).Library.Dropped),i6 (((runS c s).1).Library.Mended),str (((appN c.Log (⟨s,(runS c s).2⟩:LogRecord)).1).Durable),str (((appN c.Log (⟨s,(runS c s).2⟩:LogRecord)).1).Pending),i6 (((appN c.Log (⟨s,(runS c s).2⟩:LogRecord)).1).Count)]) agg37.2 G G G G ((ae.lo m).kn z) ler G ?_)))
     intro cq N bM aH
     refine Q (aS G)<|Qn (We (retCT G G agg37 aH G (v:=str _) G ?_))
     refine ⟨A,F,C,B,H,D,eR (eT2 (e8 ?_ ?_ ?_ ?_ ?_ ?_) (eS ?_)),(oq (((((u.kn d).lo m).kn z).kn N).down) ?_),(oq (((((x.kn d).lo m).kn z).kn N).down) ?_),Y,(((U.lo m).new z).new N)⟩ <;> (rw [exec_Sy (c:=c) (s:=s) oI oI oB oB]; try rfl)
end Go.Proofs.YtndcchndcghmoaaGreatDoor
namespace Go.Proofs.YtndcchndcghmoaaGreatDoor
open Go Go.RowKit Fw
set_option maxRecDepth 10000
set_option maxHeartbeats 2000000
set_option linter.unusedVariables false
variable {Ac1 Ac2 : Option Addr} {nc1 cc1 Bc1 nc2 cc2 Bc2 : Nat}
theorem ent10:Ent Tryz.prog 10:=en Tryz.func10
theorem ent12:Ent Tryz.prog 12:=en Tryz.func12
end Go.Proofs.YtndcchndcghmoaaGreatDoor
namespace Go.Proofs.YtndcchndcghmoaaGreatDoor
open Go Go.RowKit Fw
set_option maxRecDepth 10000
set_option maxHeartbeats 2000000
set_option linter.unusedVariables false
theorem bld34_0_2 (a0:Option Addr) (b0 c0:Nat) (a2:Int):Tryz.prog.built 34 [(0,.slice a0 b0 c0),(2,i6 a2)]=some (List.toArray [.slice a0 b0 c0,.slice none 0 0,i6 a2,i6 0,i6 0]):=by kernel_rfl
theorem bld37_:Tryz.prog.built 37 []=some (List.toArray zCn):=by kernel_rfl
theorem bld37_0 (a0_0:Value) (a0_1:Value) (a0_2:Value) (a0_3:Value) (a0_4:Value):Tryz.prog.built 37 [(0,.agg (List.toArray [a0_0,a0_1,a0_2,a0_3,a0_4]))]=some (List.toArray [a0_0,a0_1,a0_2,a0_3,a0_4,str ([]:List UInt8),str ([]:List UInt8),i6 0]):=by kernel_rfl
theorem ent26:Ent Tryz.prog 26:=en Tryz.func26
theorem ent27:Ent Tryz.prog 27:=en Tryz.func27
theorem ent37:Ent Tryz.prog 37:=en Tryz.func37
theorem ent64:Ent Tryz.prog 64:=en Tryz.func64
theorem tsl67:TSl Tryz.prog 67 71 2:=⟨by kernel_rfl,fun _=>by kernel_rfl⟩
theorem c_impl_LogRecords (w:World) (l:Log) (u:(l.Durable.length:Int)+(l.Pending.length:Int)≤4000000) (hE:EnvW w):Calls Tryz.prog 37 #[.agg (List.toArray (encLog l))] w fun e w'=>∃ A1' n1' c1',e=.returned (.tuple (List.toArray [.slice A1' n1' c1',.bool ((recsN l).2)]))∧SlO w' w.heap.size encLogRecord 2 71 A1' n1' c1' ((recsN l).1)∧Lo w w':=by
 refine cW 19 Tryz.func37 G G G (Ws (Wr (bx G ?_)))
 intro B z t k x f
 have h:=(lr w).lo k
 refine Q (r_as (v:=.slice none 0 0) G)<|Q (aB G)<|Qn (Ws (Ws (Wr (Q (lG agg35 G f G)<|Qv ent69 (c_impl_IsValidLog z l oB (hE.lo h)) G fun A c r=>?_))))
 have a:=h.lo c
 refine Q (rN G)<|Qn (Wz G (fun g=>?_) (fun g=>?_))
 ·refine Ws (Wr (Q (r_as (v:=.slice none 0 0) G)<|Q (aB G)<|Qn (We (ret2 G (v:=.slice none 0 0) (v':=.bool _) G G ?_))))
  refine ⟨none,0,0,eR (eT2 G (eB ?_)),(oq (SlO.nil (e:=71) (enc:=encLogRecord) (fun _=>G) oB) ?_),a⟩ <;> (first | (rw [recs_yes ‹LogOK _›]; first | done | rfl | (dsimp only; omega)) | (rw [recs_no ‹¬LogOK _›]; first | done | rfl | (dsimp only; omega)))
 ·have p:=log_rng g
  refine Wk (Ws (Wr (Q (fA fa35_0 G)<|Q (lB sca9 G (f.lo c) G)<|Q (fA fa35_1 G)<|Q (lB sca9 G (f.lo c) G)<|Q (r_cat G G oA)<|Qc ent70 (c_impl_recovered A (l.Durable++l.Pending) oD (hE.lo a)) G ?_)))
  rintro e y ⟨i,m,j,rfl,b,d⟩
  refine ⟨_,G,?_⟩
  have s:=d.size
  have n:=b.len
  have o:=b.rd.bound
  have q:(opN (l.Durable++l.Pending)).1.length≤60∧(opN (l.Durable++l.Pending)).2≤(l.Durable++l.Pending).length∧(opN (l.Durable++l.Pending)).2≤24360:=opN_len (l.Durable++l.Pending)
  refine Q (mT G)<|Q (xL G G)<|Q (xI G G)<|Q (aL G)<|Q (aI G)<|Qn (Ws (Wr (Q (mL G)<|Q (aL G)<|Q (aB G)<|Qn (We (ret2 G (v:=.slice _ _ _) (v':=.bool _) G G ?_)))))
  refine ⟨i,m,j,eR (eT2 G (eB ?_)),(oq (b.down) ?_),(a.lo d)⟩ <;> (first | (rw [recs_yes ‹LogOK _›]; first | done | rfl | (dsimp only; omega)) | (rw [recs_no ‹¬LogOK _›]; first | done | rfl | (dsimp only; omega)))
theorem c_spec_LogRecords (w:World) (l:Log) (A:(l.Durable.length:Int)+(l.Pending.length:Int)≤4000000):Calls Tryz.prog 64 #[.agg (List.toArray (encLog l))] w fun e w'=>∃ A1' n1' c1',e=.returned (.tuple (List.toArray [.slice A1' n1' c1',.bool ((recsN l).2)]))∧SlO w' w.heap.size encLogRecord 2 71 A1' n1' c1' ((recsN l).1)∧Lo w w':=by
 refine cW 20 Tryz.func64 G G G (Ws (Wr (bx G ?_)))
 intro H D z n B g
 refine Q (r_as (v:=.slice none 0 0) G)<|Q (aB G)<|Qn (Ws (Ws (Wr (Q (lG agg35 G g G)<|Qv ent63 (c_spec_l33Log D l oB) G fun F b u=>?_))))
 have c:=((lr w).lo n).lo b
 refine Q (rN G)<|Qn (Wz G (fun h=>?_) (fun h=>?_))
 ·refine Ws (Wr (Ql (vs:=[]) (L:=([]:List LogRecord)) (enc:=encLogRecord) tel67 (fun _=>G) G G G oG ?_))
  intro m C p d i
  have x:=d.size
  refine Q (aL G)<|Q (aB G)<|Qn (We (ret2 G (v:=.slice _ _ _) (v':=.bool _) G G ?_))
  refine ⟨(pA m),0,0,eR (eT2 G (eB ?_)),(oq (i.down) ?_),(c.lo d)⟩ <;> (first | (rw [recs_yes ‹LogOK _›]; first | done | rfl | (dsimp only; omega)) | (rw [recs_no ‹¬LogOK _›]; first | done | rfl | (dsimp only; omega)))
 ·have s:=log_rng h
  refine Wk (Ws (Wr (Q (fA fa35_0 G)<|Q (lB sca9 G (g.lo b) G)<|Q (fA fa35_1 G)<|Q (lB sca9 G (g.lo b) G)<|Q (r_cat G G oA)<|Qc ent111 (c_spec_l33Open F (l.Durable++l.Pending) oD) G ?_)))
  rintro e E ⟨j,o,k,rfl,a,f⟩
  refine ⟨_,G,?_⟩
  have y:=f.size
  have q:=a.len
  have r:=a.rd.bound
  have t:(opN (l.Durable++l.Pending)).1.length≤60∧(opN (l.Durable++l.Pending)).2≤(l.Durable++l.Pending).length∧(opN (l.Durable++l.Pending)).2≤24360:=opN_len (l.Durable++l.Pending)
  refine Q (mT G)<|Q (xL G G)<|Q (xI G G)<|Q (aL G)<|Q (aI G)<|Qn (Ws (Wr (Q (mL G)<|Q (aL G)<|Q (aB G)<|Qn (We (ret2 G (v:=.slice _ _ _) (v':=.bool _) G G ?_)))))
  refine ⟨j,o,k,eR (eT2 G (eB ?_)),(oq (a.down) ?_),(c.lo f)⟩ <;> (first | (rw [recs_yes ‹LogOK _›]; first | done | rfl | (dsimp only; omega)) | (rw [recs_no ‹¬LogOK _›]; first | done | rfl | (dsimp only; omega)))
theorem c_impl_NewConsole (w:World) (n:Int):Calls Tryz.prog 26 #[i6 n] w fun e w'=>∃ A1' n1' c1' A2' n2' c2',e=.returned (.tuple (List.toArray [.agg (List.toArray (cCn A1' n1' c1' A2' n2' c2' ((newC n).1))),.bool ((newC n).2)]))∧SlO w' w.heap.size encLMap 3 102 A1' n1' c1' (((newC n).1).Library.Maps)∧SlO w' w.heap.size encAway 2 129 A2' n2' c2' (((newC n).1).Library.Away)∧Dj A1' A2'∧Lo w w':=by
 refine cW 14 Tryz.func26 G G G (Ws (Wr (Qa (l:=zCn) tz37 G ?_)))
 intro E B y q z k
 refine Q (aB G)<|Qn (Ws (Ws (Wr (Q (mI G)<|Qv ent66 (c_impl_within B n 1 50) G fun F a u=>?_))))
 have d:=((lr w).lo q).lo a
 refine Q (rN G)<|Qn (Wz G (fun p=>?_) (fun p=>?_))
 ·refine Ws (Wr (Q (r_build (vs:=[]) G bld37_)<|Qw (o:=0) (vs:=zCn) agg37.2 G G G G (k.lo a) ler G ?_))
  intro A m s i
  refine Q (aB G)<|Qn (We (retCT G G agg37 i G (v:=.bool _) G ?_))
  refine ⟨none,0,0,none,0,0,eR (eT2 (e8 ?_ ?_ ?_ ?_ ?_ ?_) (eB ?_)),(oq (SlO.nil (e:=102) (enc:=encLMap) (fun _=>G) oB) ?_),(oq (SlO.nil (e:=129) (enc:=encAway) (fun _=>G) oB) ?_),(fun b_ h=>by cases h),(d.new m)⟩ <;> (first | (rw [newC_yes (n:=n) oJ]; first | done | rfl) | (rw [newC_no (n:=n) oJ]; first | done | rfl))
 ·refine Wk (Ws (Wr (Q (mI G)<|Q (r_build (vs:=[(0,i6 1),(1,i6 n)]) G (bld102_0_1 _ _))<|Ql (vs:=[.agg (List.toArray [i6 1,i6 n,i6 0])]) (L:=([(⟨1,n,0⟩:LMap)]:List LMap)) (enc:=encLMap) tel31 (fun _=>G) G G G oG ?_)))
  intro c C r b g
  have x:=b.size
  refine Q (mI G)<|Q (r_build (vs:=[(0,.slice (pA c) 1 1),(2,i6 n)]) G (bld34_0_2 _ _ _ _))<|Q (r_build (vs:=[(0,.agg (List.toArray [.slice (pA c) 1 1,.slice none 0 0,i6 n,i6 0,i6 0]))]) G (bld37_0 _ _ _ _ _))<|Qw (o:=0) (vs:=[.slice (pA c) 1 1,.slice none 0 0,i6 n,i6 0,i6 0,str ([]:List UInt8),str ([]:List UInt8),i6 0]) agg37.2 G G G G ((k.lo a).lo b) ler G ?_
  intro D f t j
  refine Q (aB G)<|Qn (We (retCT G G agg37 j G (v:=.bool _) G ?_))
  refine ⟨(pA c),1,1,none,0,0,eR (eT2 (e8 ?_ ?_ ?_ ?_ ?_ ?_) (eB ?_)),(oq ((g.kn f).down) ?_),(oq (SlO.nil (e:=129) (enc:=encAway) (fun _=>G) oB) ?_),(fun b_ h h'=>by cases h'),((d.lo b).new f)⟩ <;> (first | (rw [newC_yes (n:=n) oJ]; first | done | rfl) | (rw [newC_no (n:=n) oJ]; first | done | rfl))
theorem c_spec_NewConsole (w:World) (n:Int):Calls Tryz.prog 27 #[i6 n] w fun e w'=>∃ A1' n1' c1' A2' n2' c2',e=.returned (.tuple (List.toArray [.agg (List.toArray (cCn A1' n1' c1' A2' n2' c2' ((newC n).1))),.bool ((newC n).2)]))∧SlO w' w.heap.size encLMap 3 102 A1' n1' c1' (((newC n).1).Library.Maps)∧SlO w' w.heap.size encAway 2 129 A2' n2' c2' (((newC n).1).Library.Away)∧Dj A1' A2'∧Lo w w':=by
 refine cW 18 Tryz.func27 G G G (Ws (Wr (Qa (l:=zCn) tz37 G ?_)))
 intro g1 H X F Y E
 refine Q (aB G)<|Qn (Ws (Wr (Q (r_build (vs:=[]) G bld34_)<|Q (mI G)<|Q (r_build (vs:=[(0,i6 1),(1,i6 1),(3,i6 n)]) G (bld106_0_1_3 _ _ _))<|Qc ent67 (c_spec_StepLibrary H (⟨([]:List LMap),([]:List Away),0,0,0⟩:Library) (SlR.nil (enc:=encLMap) H (fun _=>G)) (SlR.nil (enc:=encAway) H (fun _=>G)) (⟨1,1,0,n⟩:LibraryStep)) G ?_)))
 rintro e w9 ⟨j,q,m,k,r,p,rfl,a,b,C,f⟩
 refine ⟨_,G,?_⟩
 have W:=f.size
 have J:=a.len
 have K:=a.rd.bound
 have N:=step_lenMS (⟨([]:List LMap),([]:List Away),0,0,0⟩:Library) (⟨1,1,0,n⟩:LibraryStep)
 have L:=b.len
 have M:=b.rd.bound
 have O:=step_lenAS (⟨([]:List LMap),([]:List Away),0,0,0⟩:Library) (⟨1,1,0,n⟩:LibraryStep)
 refine Q (mT G)<|Q (xG G G)<|Q (xB G G)<|Qa (l:=zLb) tz34 G ?_
 intro x Z I c S y
 refine Qw (o:=0) (vs:=(cLb j q m k r p ((spec_StepLibrary (⟨([]:List LMap),([]:List Away),0,0,0⟩:Library) (⟨1,1,0,n⟩:LibraryStep)).1))) agg34.2 G G G G y ler G ?_
 intro aa d T z
 have s:=((((lr w).lo F).lo f).lo c).new d
 refine Q (aB G)<|Qn (Ws (Ws ?_))
 have t:=((E.lo f).lo c).kn d
 refine Wr (Q (mB G)<|Q (rN G)<|Qn (Wb G (fun u=>?_) (fun u=>?_)))
 ·have P:=bnot_t u
  refine Ws (Wr (Q (r_build (vs:=[]) G bld37_)<|Qw (o:=0) (vs:=zCn) agg37.2 G G G G t ler G ?_))
  intro ab D U A
  refine Q (aB G)<|Qn (We (retCT G G agg37 A G (v:=.bool _) G ?_))
  refine ⟨none,0,0,none,0,0,eR (eT2 (e8 ?_ ?_ ?_ ?_ ?_ ?_) (eB ?_)),(oq (SlO.nil (e:=102) (enc:=encLMap) (fun _=>G) oB) ?_),(oq (SlO.nil (e:=129) (enc:=encAway) (fun _=>G) oB) ?_),(fun b_ h=>by cases h),(s.new D)⟩ <;> (first | (rw [newS_ok (n:=n) ‹(!_)=false›]; first | done | rfl) | (rw [newS_no (n:=n) ‹(!_)=true›]; first | done | rfl))
 ·have R:=bnot_f u
  refine Wk (Ws (Wr (Q (lG agg34 G z G)<|Q (r_build (vs:=[(0,.agg (List.toArray (cLb j q m k r p ((spec_StepLibrary (⟨([]:List LMap),([]:List Away),0,0,0⟩:Library) (⟨1,1,0,n⟩:LibraryStep)).1))))]) G (bld37_0 _ _ _ _ _))<|Qw (o:=0) (vs:=[.slice j q m,.slice k r p,i6 (((spec_StepLibrary (⟨([]:List LMap),([]:List Away),0,0,0⟩:Library) (⟨1,1,0,n⟩:LibraryStep)).1).Bought),i6 (((spec_StepLibrary (⟨([]:List LMap),([]:List Away),0,0,0⟩:Library) (⟨1,1,0,n⟩:LibraryStep)).1).Dropped),i6 (((spec_StepLibrary (⟨([]:List LMap),([]:List Away),0,0,0⟩:Library) (⟨1,1,0,n⟩:LibraryStep)).1).Mended),str ([]:List UInt8),str ([]:List UInt8),i6 0]) agg37.2 G G G G t ler G ?_)))
  intro ac i V B
  refine Q (aB G)<|Qn (We (retCT G G agg37 B G (v:=.bool _) G ?_))
  refine ⟨j,q,m,k,r,p,eR (eT2 (e8 ?_ ?_ ?_ ?_ ?_ ?_) (eB ?_)),(oq ((((a.lo c).kd d (nE (g:=x) a)).kn i).down) ?_),(oq ((((b.lo c).kd d (nE (g:=x) b)).kn i).down) ?_),C,(s.new i)⟩ <;> (first | (rw [newS_ok (n:=n) ‹(!_)=false›]; first | done | rfl) | (rw [newS_no (n:=n) ‹(!_)=true›]; first | done | rfl))
theorem c_impl_ReplayLog (w:World) (n:Int) (l:Log) (bV:(l.Durable.length:Int)+(l.Pending.length:Int)≤4000000) (hE:EnvW w):Calls Tryz.prog 23 #[i6 n,.agg (List.toArray (encLog l))] w fun e w'=>e=.returned (.tuple (List.toArray [i6 ((rplN n l).1),.bool ((rplN n l).2)]))∧Lo w w':=by
 refine cW 53 Tryz.func23 G G G (Ws (Wr (bx G ?_)))
 intro g1 w2 bU aU bW aO
 refine Q (aI G)<|Q (aB G)<|Qn (Ws (Wr (Q (mI G)<|Qc ent26 (c_impl_NewConsole w2 n) G ?_)))
 rintro e w9 ⟨ao,aE,au,ap,aF,aw,rfl,B,C,bf,U⟩
 refine ⟨_,G,?_⟩
 have bL:=U.size
 have bh:=B.len
 have bi:=B.rd.bound
 have bu:=new_lenM n
 have bj:=C.len
 have bl:=C.rd.bound
 have bz:=new_lenA n
 refine Q (mT G)<|Q (xG G G)<|Q (xB G G)<|Qa (l:=zCn) tz37 G ?_
 intro z bY bg D bJ aC
 refine Qw (o:=0) (vs:=(cCn ao aE au ap aF aw ((newC n).1))) agg37.2 G G G G aC ler G ?_
 intro an E bK aD
 have aa:=((((lr w).lo aU).lo U).lo D).new E
 refine Q (aB G)<|Qn (Ws (Wr (Q (lG agg35 G (((aO.lo U).lo D).kn E) G)<|Qc ent37 (c_impl_LogRecords an l oB (hE.lo aa)) G ?_)))
 rintro e be ⟨x,t,y,rfl,P,u⟩
 refine ⟨_,G,?_⟩
 have bM:=u.size
 have bm:=P.len
 have bn:=P.rd.bound
 have bA:=recs_len l
 refine Q (mT G)<|Q (xL G G)<|Q (xB G G)<|Q (aL G)<|Q (aB G)<|Qn (Ws (Ws (WJ (fun f' w'=>At f' [(4,i6 0),(5,.bool false),(6,pt z),(8,.slice x t y),(29,.bool (decide (((!((newC n).2))=true)∨((!((recsN l).2))=true))))]∧Lo be w') ?_ ?_)))
 ·refine Q (mB G)<|Q (rN G)<|Q (mB G)<|SR.split (fun L=>?_) (fun L=>?_)
  ·have bB:=bnot_t L
   refine Qs<|Qs<|Q (pT G G)<|Qn (⟨_,G,⟨⟨G,G,G,G,(eDT ((jot L).1 trivial)),trivial⟩,(lr _)⟩⟩)
  ·have bC:=bnot_f L
   refine Qg (mB G)<|Qg (rN G)<|Q (pF G G)<|Qn (⟨_,G,⟨⟨G,G,G,G,(eBD (jof (ne_true_of_eq_false L))),trivial⟩,(lr _)⟩⟩)
 rintro bT bZ ⟨ai,h⟩
 rw [← sA ai]
 have bN:=h.size
 have ab:=(aa.lo u).lo h
 refine Wd G (fun ah=>?_) (fun ah=>?_)
 ·refine Ws (Wr (Q (aI G)<|Q (aB G)<|Qn (We (ret2 G (v:=i6 _) (v':=.bool _) G G ?_))))
  refine ⟨eR (eT2 (eI ?_) (eB ?_)),ab⟩ <;> (rw [rpl_no oJ]; try rfl)
 ·have bD:¬((!((newC n).2))=true):=(not_or.1 ah).1
  have bE:¬((!((recsN l).2))=true):=(not_or.1 ah).2
  refine Wk (Ws (Ws (Wr (Q (mL G)<|Q (r_len und67 G)<|Q (r_mv (v:=i6 0) G)<|Qn (Wl (WL (σ:=Nat × Console × (Option Addr) × Nat × Nat × (Option Addr) × Nat × Nat) (fun g=>[(6,pt z),(8,.slice x t y),(30,.slice x t y),(31,i6 (t:Int)),(32,i6 (g.1:Int))]) (fun g w'=>(Lo w w')∧(Blk w' z 37 (cCn g.2.2.1 g.2.2.2.1 g.2.2.2.2.1 g.2.2.2.2.2.1 g.2.2.2.2.2.2.1 g.2.2.2.2.2.2.2 g.2.1))∧(SlO w' an.heap.size encLogRecord 2 71 x t y ((recsN l).1))∧(SlR w' w'.heap.size encLMap 3 g.2.2.1 g.2.2.2.1 g.2.2.2.2.1 g.2.1.Library.Maps)∧(SlR w' w'.heap.size encAway 2 g.2.2.2.2.2.1 g.2.2.2.2.2.2.1 g.2.2.2.2.2.2.2 g.2.1.Library.Away)∧(g.1≤(recsN l).1.length∧RTo (newC n).1 (recsN l).1 g.2.1 g.1)) (fun g=>(recsN l).1.length-g.1) (0,(newC n).1,ao,aE,au,ap,aF,aw) ?_ ?_ ?_))))))
  ·exact (At.r G)
  ·exact ⟨ab,((aD.lo u).lo h),P.lo h,(((((B.lo D).kd E (nE (g:=z) B)).lo u).lo h).rd),(((((C.lo D).kd E (nE (g:=z) C)).lo u).lo h).rd),(by (try dsimp only); exact ⟨Nat.zero_le _,RTo.zero (new_sml n)⟩)⟩
  ·rintro ⟨k,o,aq,aG,ax,ar,aH,ay⟩ aK A aA
   obtain ⟨O,ae,j,R,S,ac⟩:(Lo w A)∧(Blk A z 37 (cCn aq aG ax ar aH ay o))∧(SlO A an.heap.size encLogRecord 2 71 x t y ((recsN l).1))∧(SlR A A.heap.size encLMap 3 aq aG ax o.Library.Maps)∧(SlR A A.heap.size encAway 2 ar aH ay o.Library.Away)∧(k≤(recsN l).1.length∧RTo (newC n).1 (recsN l).1 o k):=aA
   refine (?_:W _ _ _ _ _ (act _ (sets aK [(6,pt z),(8,.slice x t y),(30,.slice x t y),(31,i6 (t:Int)),(32,i6 (k:Int))])) _)
   have bc:=O.size
   have bo:=ae.lt
   have bp:=R.len
   have bq:=R.bound
   have bs:=S.len
   have bt:=S.bound
   have bF:k≤(recsN l).1.length:=ac.1
   have bG:(recsN l).1.length≤60:=recs_len l
   have bH:(o.Library.Maps.length≤1048576∧o.Library.Away.length≤1048576)∧o.Log.Durable.length+o.Log.Pending.length≤24360+406*k:=ac.2.2
   refine Ws (Wr (Q (r_lt G G)<|Qn (Ws (Wd G (fun aN=>?_) (fun aN=>?_)))))
   ·refine Wk (Ws (Wl (Ws (Wr (Q (mI G)<|?_)))))
    have ag:=(j.rd).elem (i:=k) oB
    have bI:=recs_cmd ag
    refine Q (rX tsl67 (j.rd) G G oB)<|Q (r_lda (l:=encLogRecord (gt ((recsN l).1) k)) agg71 G (fun _ _ hu=>(j.rd).cell ag hu) ((j.rd).esz _))<|Qa (l:=[str ([]:List UInt8),str ([]:List UInt8)]) tz71 G ?_
    intro aM bO aR d aZ aj
    refine Q (aI G)<|Qw (o:=0) (vs:=[str ((gt ((recsN l).1) k).Command),str ((gt ((recsN l).1) k).Reply)]) agg71.2 G G G G aj ler G ?_
    intro aJ f a6 T
    have M:=(O.lo d).new f
    refine Qn (Ws ?_)
    have V:=(ae.lo d).kn f
    have X:=(j.lo d).kd f (nE (g:=aM) j)
    refine Wr (Q (lG agg37 G V G)<|Q (fA fa71_0 G)<|Q (lB sca9 G T G)<|Qc ent12 (c_impl_ExecuteCommand aJ o ((R.lo d).kn f) ((S.lo d).kn f) ((gt ((recsN l).1) k).Command) oB oB (hE.lo M)) G ?_)
    rintro e bP ⟨F,Y,I,H,Z,J,rfl,m,p,aQ,a⟩
    refine ⟨_,G,?_⟩
    have bb:=a.size
    have aV:=m.len
    have aW:=m.rd.bound
    have aX:=p.len
    have aY:=p.rd.bound
    refine Q (mT G)<|Q (xG G G)<|Q (xS G G)<|Qa (l:=zCn) tz37 G ?_
    intro K bQ aT b a7 ak
    refine Qw (o:=0) (vs:=(cCn F Y I H Z J ((execN o ((gt ((recsN l).1) k).Command)).1))) agg37.2 G G G G ak ler G ?_
    intro bR c a8 al
    have N:=((M.lo a).lo b).new c
    refine Q (aS G)<|Qn (Ws (Ws (Wr (Q (mS G)<|Q (fA fa71_1 G)<|Q (lB sca9 G (((T.lo a).lo b).kn c) G)<|Q (r_nes (s:=(execN o ((gt ((recsN l).1) k).Command)).2) (r:=(gt ((recsN l).1) k).Reply) G G)<|Qn (Wz G (fun az=>?_) (fun az=>?_))))))
    ·refine Ws (Wr (Q (mI G)<|Q (aI G)<|Q (aB G)<|Qn (We (ret2 G (v:=i6 _) (v':=.bool _) G G ?_))))
     refine ⟨eR (eT2 (eI ?_) (eB ?_)),N⟩ <;> (rw [rpl_stop (k:=k) (rpl_ok oJ) (And.right ‹_∧RTo _ _ _ _›) ‹_[_]?=some _› oJ]; try rfl)
    ·refine Wk (Wr (Q (lG agg37 G al G)<|Qw (o:=0) (vs:=(cCn F Y I H Z J ((execN o ((gt ((recsN l).1) k).Command)).1))) agg37.2 G G G G (((V.lo a).lo b).kn c) ler G ?_))
     intro bS q ba am
     refine Qn (Wr (Q (r_add G G oB)<|Q (mI G)<|Qn (⟨(k+1,((execN o ((gt ((recsN l).1) k).Command)).1),F,Y,I,H,Z,J),_,G,(At.r G),⟨(N.new q),am,(((X.lo a).lo b).kd c (nE (g:=K) (X.lo a))).kn q,((((m.lo b).kd c (nE (g:=K) m)).kn q).rd),((((p.lo b).kd c (nE (g:=K) p)).kn q).rd),?_⟩,?_⟩)))
     ·exact (by (try dsimp only); exact ⟨oB,(And.right ‹_∧RTo _ _ _ _›).next ‹_[_]?=some _› oI⟩)
     ·exact oH
   ·refine Wx (xh (Ws (Wr (Q (mL G)<|Q (r_len und67 G)<|Q (aI G)<|Q (aB G)<|Qn (We (ret2 G (v:=i6 _) (v':=.bool _) G G ?_))))))
    refine ⟨eR (eT2 (eI ?_) (eB ?_)),O⟩ <;> (rw [rpl_all (k:=k) (rpl_ok oJ) (And.right ‹_∧RTo _ _ _ _›) oJ oB oB]; try rfl)
theorem c_spec_ReplayLog (w:World) (n:Int) (l:Log) (b8:(l.Durable.length:Int)+(l.Pending.length:Int)≤4000000):Calls Tryz.prog 24 #[i6 n,.agg (List.toArray (encLog l))] w fun e w'=>e=.returned (.tuple (List.toArray [i6 ((rplN n l).1),.bool ((rplN n l).2)]))∧Lo w w':=by
 refine cW 55 Tryz.func24 G G G (Ws (Wr (bx G ?_)))
 intro g1 w2 b7 bc b9 a7
 refine Q (aI G)<|Q (aB G)<|Qn (Ws (Wr (Q (mI G)<|Qc ent27 (c_spec_NewConsole w2 n) G ?_)))
 rintro e w9 ⟨aC,aT,aG,aD,aU,aH,rfl,H,I,bq,T⟩
 refine ⟨_,G,?_⟩
 have bU:=T.size
 have bt:=H.len
 have bu:=H.rd.bound
 have bI:=new_lenM n
 have bz:=I.len
 have bA:=I.rd.bound
 have bJ:=new_lenA n
 refine Q (mT G)<|Q (xG G G)<|Q (xB G G)<|Qa (l:=zCn) tz37 G ?_
 intro d cd bs J bS aO
 refine Qw (o:=0) (vs:=(cCn aC aT aG aD aU aH ((newC n).1))) agg37.2 G G G G aO ler G ?_
 intro aY K bT aQ
 refine Q (aB G)<|Qn (Ws (Ws ?_))
 have ah:=((a7.lo T).lo J).kn K
 refine WJ (fun f' w'=>At f' [(3,pt g1),(4,i6 0),(5,.bool false),(6,pt d),(23,.bool (decide (((!((newC n).2))=true)∨(¬(LogOK l)))))]∧Lo aY w') ?_ ?_
 ·refine Q (mB G)<|Q (rN G)<|Q (mB G)<|SR.split (fun M=>?_) (fun M=>?_)
  ·have bK:=bnot_t M
   refine Qs<|Qs<|Qs<|Q (pT G G)<|Qn (⟨_,G,⟨⟨G,G,G,G,(eDT ((jot M).1 trivial)),trivial⟩,(lr _)⟩⟩)
  ·have bL:=bnot_f M
   refine Qg (lG agg35 G ah G)<|SR.gcall G ent63 (c_spec_l33Log aY l oB) G ?_
   rintro e ce ⟨rfl,ag⟩
   refine ⟨_,G,?_⟩
   have bV:=ag.size
   refine Qg (rN G)<|Q (pF G G)<|Qn (⟨_,G,⟨⟨G,G,G,G,(eND (jof (ne_true_of_eq_false M))),trivial⟩,ag⟩⟩)
 rintro b5 aA ⟨al,q⟩
 rw [← sA al]
 have bW:=q.size
 have ac:=(((((lr w).lo bc).lo T).lo J).new K).lo q
 refine Wd G (fun ak=>?_) (fun ak=>?_)
 ·refine Ws (Wr (Q (aI G)<|Q (aB G)<|Qn (We (ret2 G (v:=i6 _) (v':=.bool _) G G ?_))))
  refine ⟨eR (eT2 (eI ?_) (eB ?_)),ac⟩ <;> (rw [rpl_noS oJ]; try rfl)
 ·have bM:¬((!((newC n).2))=true):=(not_or.1 ak).1
  have aR:LogOK l:=(Classical.not_not.1 (not_or.1 ak).2)
  have bN:=log_rng aR
  refine Wk (Ws (Wr (Q (lG agg35 G (ah.lo q) G)<|Qc ent64 (c_spec_LogRecords aA l oB) G ?_)))
  rintro e cf ⟨A,V,L,rfl,P,z⟩
  refine ⟨_,G,?_⟩
  have bX:=z.size
  have bB:=P.len
  have bC:=P.rd.bound
  have bO:=recs_len l
  refine Q (mT G)<|Q (xL G G)<|Q (xB G G)<|Q (aL G)<|Q (aB G)<|Qn (Ws (Wr (Q (r_as (v:=str ([]:List UInt8)) G)<|Qn (Ws (Ws (Wr (Q (aI G)<|Qn (Wl (WL (σ:=Nat × Console × (Option Addr) × Nat × Nat × (Option Addr) × Nat × Nat) (fun g=>[(6,pt d),(8,.slice A V L),(11,i6 (g.1:Int))]) (fun g w'=>(Lo w w')∧(Blk w' d 37 (cCn g.2.2.1 g.2.2.2.1 g.2.2.2.2.1 g.2.2.2.2.2.1 g.2.2.2.2.2.2.1 g.2.2.2.2.2.2.2 g.2.1))∧(SlO w' aA.heap.size encLogRecord 2 71 A V L ((recsN l).1))∧(SlR w' w'.heap.size encLMap 3 g.2.2.1 g.2.2.2.1 g.2.2.2.2.1 g.2.1.Library.Maps)∧(SlR w' w'.heap.size encAway 2 g.2.2.2.2.2.1 g.2.2.2.2.2.2.1 g.2.2.2.2.2.2.2 g.2.1.Library.Away)∧(g.1≤(recsN l).1.length∧RTo (newC n).1 (recsN l).1 g.2.1 g.1)) (fun g=>(recsN l).1.length-g.1) (0,(newC n).1,aC,aT,aG,aD,aU,aH) ?_ ?_ ?_)))))))))
  ·exact (At.r G)
  ·exact ⟨(ac.lo z),((aQ.lo q).lo z),P,(((((H.lo J).kd K (nE (g:=d) H)).lo q).lo z).rd),(((((I.lo J).kd K (nE (g:=d) I)).lo q).lo z).rd),(by (try dsimp only); exact ⟨Nat.zero_le _,RTo.zero (new_sml n)⟩)⟩
  ·rintro ⟨k,o,aE,aV,aJ,aF,aW,aK⟩ aZ b aN
   obtain ⟨O,U,c,R,S,ae⟩:(Lo w b)∧(Blk b d 37 (cCn aE aV aJ aF aW aK o))∧(SlO b aA.heap.size encLogRecord 2 71 A V L ((recsN l).1))∧(SlR b b.heap.size encLMap 3 aE aV aJ o.Library.Maps)∧(SlR b b.heap.size encAway 2 aF aW aK o.Library.Away)∧(k≤(recsN l).1.length∧RTo (newC n).1 (recsN l).1 o k):=aN
   refine (?_:W _ _ _ _ _ (act _ (sets aZ [(6,pt d),(8,.slice A V L),(11,i6 (k:Int))])) _)
   have bo:=O.size
   have bD:=U.lt
   have bE:=R.len
   have bF:=R.bound
   have bG:=S.len
   have bH:=S.bound
   have bP:k≤(recsN l).1.length:=ae.1
   have bQ:(recsN l).1.length≤60:=recs_len l
   have bR:(o.Library.Maps.length≤1048576∧o.Library.Away.length≤1048576)∧o.Log.Durable.length+o.Log.Pending.length≤24360+406*k:=ae.2.2
   refine Ws (Ws (Wr (Q (mI G)<|Q (mL G)<|Q (r_len und67 G)<|Q (r_lt G G)<|Qn (Wd G (fun a6=>?_) (fun a6=>?_)))))
   ·refine Wk (Ws (Wl (Ws (WA (Kp (fun b_=>b_=d) b) (fun f' w'=>∃ (m:Option Addr) (t:Nat) (E:Nat) (p:Option Addr) (u:Nat) (F:Nat),At f' [(6,pt d),(8,.slice A V L),(10,str ((execN o ((gt ((recsN l).1) k).Command)).2)),(11,i6 (k:Int))]∧(Kp (fun b_=>b_=d) b w')∧(SlO w' b.heap.size encLMap 3 102 m t E (((execN o ((gt ((recsN l).1) k).Command)).1).Library.Maps))∧(SlO w' b.heap.size encAway 2 129 p u F (((execN o ((gt ((recsN l).1) k).Command)).1).Library.Away))∧(Blk w' d 37 (cCn m t E p u F ((execN o ((gt ((recsN l).1) k).Command)).1)))∧Dj m A∧Dj m p∧Dj p A∧(((recsN l).1)[k]?=some (gt ((recsN l).1) k))∧((1≤((gt ((recsN l).1) k).Command.length:Int)∧((gt ((recsN l).1) k).Command.length:Int)≤160)∧((gt ((recsN l).1) k).Reply.length:Int)≤200)∧(t=(((execN o ((gt ((recsN l).1) k).Command)).1).Library.Maps).length)∧((t:Int)≤9223372036854775807)∧(u=(((execN o ((gt ((recsN l).1) k).Command)).1).Library.Away).length)∧((u:Int)≤9223372036854775807)) mo ?_ ?_))))
    ·intro aX a
     have bl:=a.size
     refine Ak 1 G (kr a) (fun w' hw'=>mL G)<|Ak 2 G (kr a) (fun w' hw'=>mI G)<|?_
     have D:=((c.lo a).rd).elem (i:=k) oB
     have ay:=recs_cmd D
     refine Ak 3 G (kr a) (fun w' hw'=>rX tsl67 ((c.kn hw' oB).rd) G G oB)<|Ak 4 G (kr a) (fun w' hw'=>fA fa71_0 G)<|Ak 5 G (kr a) (fun w' hw'=>r_ld (v:=str ((gt ((recsN l).1) k).Command)) sca9 G (((c.kn hw' oB).rd).cell D G))<|Ab 0 G (Q (lG agg37 G (U.lo a) G) (Qn ⟨(kq b).lo a,_,G,(Ab 6 G (Qc ent10 (c_spec_ExecuteCommand aX o (R.lo a) (S.lo a) ((gt ((recsN l).1) k).Command) oB oB) G ?_))⟩))
     rintro e bY ⟨Y,ai,aa,Z,aj,ab,rfl,x,y,an,C⟩
     refine ⟨_,G,?_⟩
     have bm:=C.size
     have h:=((kr a:Kp (fun b_=>b_=d) b _)).lo C
     have ao:=x.len
     have ap:=x.rd.bound
     have aq:=y.len
     have ar:=y.rd.bound
     refine Qn ⟨h,_,G,(Ak 7 G h (fun w' hw'=>mT G)<|Ak 8 G h (fun w' hw'=>xG G G)<|Ak 9 G h (fun w' hw'=>xS G G)<|Ab 10 G (Qw (o:=0) (vs:=(cCn Y ai aa Z aj ab ((execN o ((gt ((recsN l).1) k).Command)).1))) agg37.2 G G G G ((U.lo a).lo C) ler G ?_))⟩
     intro bZ j bj am
     have B:=h.step j (fun _ _ e=>e)
     refine Qn ⟨B,_,G,(Ak 11 G B (fun w' hw'=>aS G)<|Ad oC (⟨Y,ai,aa,Z,aj,ab,(At.r G),B,((x.kn j).down),((y.kn j).down),am,(dj (x.kn j) (c.lo a)),an,(dj (y.kn j) (c.lo a)),D,ay,ao,ap,aq,ar⟩))⟩
    rintro bp b4 ⟨m,t,E,p,u,F,X,f,au,aw,ax,a8,ba,bb,az,bi,be,bf,bg,bh⟩
    rw [← sA X]
    have bn:=f.size
    have N:=O.new f oB
    refine Ws (Wr (Q (mS G)<|Q (mL G)<|Q (mI G)<|Q (rX tsl67 ((c.kn f oB).rd) G G oB)<|Q (fA fa71_1 G)<|Q (r_ld (v:=str ((gt ((recsN l).1) k).Reply)) sca9 G (((c.kn f oB).rd).cell az G))<|Q (r_nes (s:=(execN o ((gt ((recsN l).1) k).Command)).2) (r:=(gt ((recsN l).1) k).Reply) G G)<|Qn (Wz G (fun aM=>?_) (fun aM=>?_))))
    ·refine Ws (Wr (Q (mI G)<|Q (aI G)<|Q (aB G)<|Qn (We (ret2 G (v:=i6 _) (v':=.bool _) G G ?_))))
     refine ⟨eR (eT2 (eI ?_) (eB ?_)),N⟩ <;> (rw [rpl_stop (k:=k) (rpl_okS oJ) (And.right ‹_∧RTo _ _ _ _›) ‹_[_]?=some _› oJ]; try rfl)
    ·refine Wk (Wr (Q (mI G)<|Q (r_add G G oB)<|Q (aI G)<|Qn (⟨(k+1,((execN o ((gt ((recsN l).1) k).Command)).1),m,t,E,p,u,F),_,G,(At.r G),⟨N,ax,c.kn f oB,(au.rd),(aw.rd),?_⟩,?_⟩)))
     ·exact (by (try dsimp only); exact ⟨oB,(And.right ‹_∧RTo _ _ _ _›).next ‹_[_]?=some _› oI⟩)
     ·exact oH
   ·refine Wx (xh (Ws (Wr (Q (mL G)<|Q (r_len und67 G)<|Q (aI G)<|Q (aB G)<|Qn (We (ret2 G (v:=i6 _) (v':=.bool _) G G ?_))))))
    refine ⟨eR (eT2 (eI ?_) (eB ?_)),O⟩ <;> (rw [rpl_all (k:=k) (rpl_okS oJ) (And.right ‹_∧RTo _ _ _ _›) oJ oB oB]; try rfl)
end Go.Proofs.YtndcchndcghmoaaGreatDoor
