/- Words and walks of this claim. -/
import Derived.Test.YtndcchndcghmoaaGreatDoorChecked
import Derived.Test.YtndcchndcghmoaaGreatDoorMReplaye
set_option linter.unusedVariables false
namespace Go.Proofs.YtndcchndcghmoaaGreatDoor
open Go Go.RowKit Fw
set_option maxRecDepth 10000
set_option maxHeartbeats 2000000
set_option linter.unusedVariables false
variable {AL : Option Addr} {nL cL BL : Nat}
theorem c_impl_RecoverLog (w:World) (s:List UInt8) (hE:EnvW w):Calls Tryz.prog 31 #[str s] w fun e w'=>e=.returned (.tuple (List.toArray [.agg (List.toArray [str (((recovN s).1).Durable),str (((recovN s).1).Pending),i6 (((recovN s).1).Count)]),i6 ((recovN s).2.1),.bool ((recovN s).2.2)]))∧Lo w w':=by
 refine cW 23 Tryz.func31 G G G (Ws (Wr (Qa (l:=[str ([]:List UInt8),str ([]:List UInt8),i6 0]) tz35 G ?_)))
 intro H E A m B g
 have c:=(lr w).lo m
 refine Q (aI G)<|Q (aB G)<|Qn (Ws (Ws (Wr (Q (mS G)<|Q (r_len_s und9 G)<|Q (r_gt G G)<|Qn (Wd G (fun z=>?_) (fun z=>?_))))))
 ·refine Ws (Wr (Q (r_build (vs:=[]) G bld35_)<|Qw (o:=0) (vs:=[str ([]:List UInt8),str ([]:List UInt8),i6 0]) agg35.2 G G G G g ler G ?_))
  intro C i r d
  refine Q (aI G)<|Q (aB G)<|Qn (We (retCTT G G agg35 d G (v:=i6 _) G (v':=.bool _) G ?_))
  refine ⟨eR (eT3 (eA (eC (eS ?_) (eC (eS ?_) (eC (eI ?_) G)))) (eI ?_) (eB ?_)),(c.new i)⟩ <;> (have hopn:=opN_len s; first | (rw [recov_no (s:=s) oJ]; first | done | rfl | (dsimp only; omega)) | (rw [recov_yes (s:=s) oJ]; first | done | rfl | (dsimp only; omega)) | (subst ‹_=(opN s).1.length›; rw [recov_yes (s:=s) oJ]; first | done | rfl | (dsimp only; omega)) | (rw [recov_yes (s:=s) oJ,← ‹_=(opN s).1.length›]; first | done | rfl | (dsimp only; omega)))
 ·refine Wk (Ws (Wr (Q (mS G)<|Qc ent70 (c_impl_recovered E s oD (hE.lo c)) G ?_)))
  rintro e D ⟨x,k,y,rfl,b,a⟩
  refine ⟨_,G,?_⟩
  have u:=a.size
  have n:=b.len
  have p:=b.rd.bound
  have q:(opN s).1.length≤60∧(opN s).2≤s.length∧(opN s).2≤24360:=opN_len s
  refine Q (mT G)<|Q (xL G G)<|Q (xI G G)<|Q (aL G)<|Q (aI G)<|Qn (Ws (Wr (Q (mS G)<|Q (mI G)<|Q (r_cuthS (h:=((opN s).2:Int).toNat) und9 G G oB oA)<|Q (mL G)<|Q (r_len und67 G)<|Q (r_build (vs:=[(0,str (s.take (((opN s).2:Int).toNat))),(2,i6 (k:Int))]) G (bld35_0_2 _ _))<|Q (mI G)<|Qw (o:=0) (vs:=[str (s.take (((opN s).2:Int).toNat)),str ([]:List UInt8),i6 (k:Int)]) agg35.2 G G G G (g.lo a) ler G ?_)))
  intro F j t f
  refine Q (aI G)<|Q (aB G)<|Qn (We (retCTT G G agg35 f G (v:=i6 _) G (v':=.bool _) G ?_))
  refine ⟨eR (eT3 (eA (eC (eS ?_) (eC (eS ?_) (eC (eI ?_) G)))) (eI ?_) (eB ?_)),((c.lo a).new j)⟩ <;> (have hopn:=opN_len s; first | (rw [recov_no (s:=s) oJ]; first | done | rfl | (dsimp only; omega)) | (rw [recov_yes (s:=s) oJ]; first | done | rfl | (dsimp only; omega)) | (subst ‹_=(opN s).1.length›; rw [recov_yes (s:=s) oJ]; first | done | rfl | (dsimp only; omega)) | (rw [recov_yes (s:=s) oJ,← ‹_=(opN s).1.length›]; first | done | rfl | (dsimp only; omega)))
theorem c_impl_CrashLog (w:World) (l:Log) (keep:Int) (torn:Bool) (ay:(l.Durable.length:Int)+(l.Pending.length:Int)≤4000000) (hE:EnvW w):Calls Tryz.prog 30 #[.agg (List.toArray (encLog l)),i6 keep,.bool torn] w fun e w'=>e=.returned (.tuple (List.toArray [str ((crashN l keep torn).1),.bool ((crashN l keep torn).2)]))∧Lo w w':=by
 refine cW 47 Tryz.func30 G G G (Ws (Wr (bx G ?_)))
 intro g1 w2 ax T az o
 have J:=(lr w).lo T
 refine Q (r_as (v:=str ([]:List UInt8)) G)<|Q (aB G)<|Qn (Ws (Ws (WJ (fun f' w'=>At f' [(1,i6 keep),(2,.bool torn),(3,pt g1),(6,str ([]:List UInt8)),(7,.bool false),(19,.bool (decide ((¬(LogOK l))∨(¬(0≤keep∧keep≤(l.Pending.length:Int))))))]∧Lo w2 w') ?_ ?_)))
 ·refine Q (lG agg35 G o G)<|Qv ent69 (c_impl_IsValidLog w2 l oB (hE.lo J)) G fun w9 m ah=>(Q (rN G)<|Q (mB G)<|QN (fun n=>?_) (fun n=>?_))
  ·refine Qs<|Qs<|Qs<|Qs<|Qs<|Qs<|Q (pT G G)<|Qn (⟨_,G,⟨⟨G,G,G,G,G,(eDT ((jmf n).1 trivial)),trivial⟩,m⟩⟩)
  ·have X:=log_rng n
   refine Qg (mI G)<|Qg (fA fa35_1 G)<|Qg (lB sca9 G (o.lo m) G)<|Qg (r_len_s und9 G)<|SR.gcall G ent66 (c_impl_within w9 keep 0 (l.Pending.length:Int)) G ?_
   rintro e aA ⟨rfl,y⟩
   refine ⟨_,G,?_⟩
   have ai:=y.size
   refine Qg (rN G)<|Q (pF G G)<|Qn (⟨_,G,⟨⟨G,G,G,G,G,(eND (jmt n)),trivial⟩,(m.trans y)⟩⟩)
 rintro aq I ⟨E,g⟩
 rw [← sA E]
 have aj:=g.size
 have p:=J.lo g
 refine Wd G (fun B=>?_) (fun B=>?_)
 ·refine Ws (Wr (Q (r_as (v:=str ([]:List UInt8)) G)<|Q (aB G)<|Qn (We (ret2 G (v:=str _) (v':=.bool _) G G ?_))))
  refine ⟨eR (eT2 (eS ?_) (eB ?_)),p⟩ <;> (first | (rw [crash_no ‹¬_∨_›]; done) | exact crash_tornI ‹¬(_∨_)› ‹_∧0<keep› | exact crash_tornS ‹¬(_∨_)› ‹_∧0<keep› | exact crash_whole ‹¬(_∨_)› ‹¬(_∧0<keep)› | exact crash_ok ‹¬(_∨_)›)
 ·have N:LogOK l:=(Classical.not_not.1 (not_or.1 B).1)
  have Y:0≤keep∧keep≤(l.Pending.length:Int):=(Classical.not_not.1 (not_or.1 B).2)
  have Z:=log_rng N
  refine Wk (Ws (WA (Lo I) (fun f' w'=>∃ (f:Nat) (j:Nat),At f' [(1,i6 keep),(2,.bool torn),(6,str ([]:List UInt8)),(7,.bool false),(8,.slice (pA f) ((l.Durable++(l.Pending.take keep.toNat)).length) j)]∧(Lo I w')∧(SlR w' w'.heap.size encB 1 (pA f) ((l.Durable++(l.Pending.take keep.toNat)).length) j (l.Durable++(l.Pending.take keep.toNat)))∧(BytO w' f 5 j (l.Durable++(l.Pending.take keep.toNat)))∧(I.heap.size≤f∧f<w'.heap.size)∧((l.Durable++(l.Pending.take keep.toNat)).length=l.Durable.length+min keep.toNat l.Pending.length)) mo ?_ ?_))
  ·intro aC a
   have ak:=a.size
   refine Ak 0 G a (fun w' hw'=>fA fa35_0 G)<|Ak 1 G a (fun w' hw'=>lB sca9 G ((o.lo g).lo hw') G)<|Ak 2 G a (fun w' hw'=>fA fa35_1 G)<|Ak 3 G a (fun w' hw'=>lB sca9 G ((o.lo g).lo hw') G)<|Ak 4 G a (fun w' hw'=>mI G)<|Ak 5 G a (fun w' hw'=>r_cuthS (h:=keep.toNat) und9 G G oB oA)<|Ak 6 G a (fun w' hw'=>r_cat G G oV)<|Ab 7 G (SR.bytesO (s:=l.Durable++(l.Pending.take keep.toNat)) und9 und49 und5 G oA ?_)
   intro S R aD W z K x
   have al:=z.size
   have k:=a.lo z
   have O:(l.Durable++(l.Pending.take keep.toNat)).length=l.Durable.length+min keep.toNat l.Pending.length:=by simp only [List.length_append,List.length_take]
   refine Qn ⟨k,_,G,(Ak 8 G k (fun w' hw'=>aL G)<|Ad oC (⟨S,R,(At.r G),k,K.top,x,⟨oB,x.lt⟩,O⟩))⟩
  rintro ar U ⟨f,j,F,t,d,L,V,aa⟩
  rw [← sA F]
  have am:=t.size
  refine Ws (Ws (WJ (fun f' w'=>At f' [(6,str ([]:List UInt8)),(7,.bool false),(8,.slice (pA f) ((l.Durable++(l.Pending.take keep.toNat)).length) j),(32,.bool (decide ((torn=true)∧(0<keep))))]∧Lo U w') ?_ ?_))
  ·refine Q (mB G)<|Q (mB G)<|SR.split (fun C=>?_) (fun C=>?_)
   ·refine Qg (mI G)<|Qg (r_gt G G)<|Q (pT G G)<|Qn (⟨_,G,⟨⟨G,G,G,(eDD (jat C)),trivial⟩,(lr _)⟩⟩)
   ·refine Qs<|Qs<|Q (pF G G)<|Qn (⟨_,G,⟨⟨G,G,G,(eDF (jaf (ne_true_of_eq_false C)).2),trivial⟩,(lr _)⟩⟩)
  rintro au aE ⟨H,c⟩
  rw [← sA H]
  have an:=c.size
  have q:=(p.lo t).lo c
  refine Wd G (fun D=>?_) (fun D=>?_)
  ·have ab:torn=true:=D.1
   have ac:0<keep:=D.2
   refine Wr (Q (mL G)<|Q (mL G)<|Q (r_len und49 G)<|Q (r_sub G G oV)<|Q (mL G)<|Q (mL G)<|Q (r_len und49 G)<|Q (r_sub G G oV)<|?_)
   have P:=(d.lo c).elem (i:=((((l.Durable++(l.Pending.take keep.toNat)).length:Nat):Int)-1).toNat) oB
   have ae:=u8_le (gt (l.Durable++(l.Pending.take keep.toNat)) (((((l.Durable++(l.Pending.take keep.toNat)).length:Nat):Int)-1).toNat))
   refine Q (rX tsl49 (d.lo c) G G oB)<|Q (r_ld (v:=.int .u8 ((gt (l.Durable++(l.Pending.take keep.toNat)) (((((l.Durable++(l.Pending.take keep.toNat)).length:Nat):Int)-1).toNat)).toNat:Int)) sca5 G ((d.lo c).cell0 P G))<|Q (r_subB G G)<|Q (rX tsl49 (d.lo c) G G oB)<|SR.storeB (i:=((((l.Durable++(l.Pending.take keep.toNat)).length:Nat):Int)-1).toNat) (b:=(bw (255-((gt (l.Durable++(l.Pending.take keep.toNat)) (((((l.Durable++(l.Pending.take keep.toNat)).length:Nat):Int)-1).toNat)).toNat:Int)))) sca5.2 G G G (L.lo c) oA ?_
   intro aF A ag M
   have ao:=A.size
   have u:=M.slr
   rw [List.length_set] at u
   refine Qn (Ws (Wr (Q (mL G)<|Q (r_ofB und49 und5 und9 G u)<|Q (aS G)<|Q (aB G)<|Qn (We (ret2 G (v:=str _) (v':=.bool _) G G ?_)))))
   refine ⟨eR (eT2 (eS ?_) (eB ?_)),(q.new A)⟩ <;> (first | (rw [crash_no ‹¬_∨_›]; done) | exact crash_tornI ‹¬(_∨_)› ‹_∧0<keep› | exact crash_tornS ‹¬(_∨_)› ‹_∧0<keep› | exact crash_whole ‹¬(_∨_)› ‹¬(_∧0<keep)› | exact crash_ok ‹¬(_∨_)›)
  ·refine Wk (Ws (Wr (Q (mL G)<|Q (r_ofB und49 und5 und9 G (d.lo c))<|Q (aS G)<|Q (aB G)<|Qn (We (ret2 G (v:=str _) (v':=.bool _) G G ?_)))))
   refine ⟨eR (eT2 (eS ?_) (eB ?_)),q⟩ <;> (first | (rw [crash_no ‹¬_∨_›]; done) | exact crash_tornI ‹¬(_∨_)› ‹_∧0<keep› | exact crash_tornS ‹¬(_∨_)› ‹_∧0<keep› | exact crash_whole ‹¬(_∨_)› ‹¬(_∧0<keep)› | exact crash_ok ‹¬(_∨_)›)
theorem c_spec_DrawReplayLog (w:World)  (L:List UInt8) (hL:SlR w BL encB 1 AL nL cL L) (fN:(nL:Int)≤65536):Calls Tryz.prog 22 #[.slice AL nL cL] w fun e w'=>∃ (n:Int) (l:Log),e=.returned (.tuple (List.toArray [i6 n,.agg (List.toArray [str l.Durable,str l.Pending,i6 l.Count])]))∧(-1000000000≤n∧n≤1000000000)∧(l.Durable.length≤60000∧l.Pending.length≤60000∧-1≤l.Count∧l.Count≤100)∧Lo w w':=by
 refine cW 52 Tryz.func22 G G G ?_
 have hbdL:=hL.bound
 have hleL:=hL.len
 have hBbL:=hL.bd
 refine Ws (Wr (Q (aI G)<|Qa (l:=[str ([]:List UInt8),str ([]:List UInt8),i6 0]) tz35 G ?_))
 intro F w2 fM de fO dH
 refine Qn (Ws (Wr (Q (mL G)<|Q (r_build (vs:=[(0,.slice AL nL cL)]) G (bld91_0 _ _ _))<|bx G ?_)))
 intro j fP eZ bj fk cX
 refine Q (aP G)<|Qn (Ws ?_)
 have bX:=(hL.lo de).lo bj
 refine Wr (Q (mP G)<|Ql (vs:=[i6 1,i6 3,i6 20,i6 50,i6 51]) (L:=([1,3,20,50,51]:List Int)) (enc:=encI) tel93 (fun _=>G) G G G oG ?_)
 intro dE eM e6 ak bU
 have fr:=ak.size
 refine Qc ent58 (c___spec_l1Cur__among eM L 0 0 (cX.lo ak) (bX.lo ak) oB oB ([1,3,20,50,51]:List Int) (bU.rd) oB oB (show ¬dE=j from by first | omega | (have:=bU.base_le G; omega))) G ?_
 rintro e eN ⟨p,eL,eK,rfl,cY,fp,dg,aZ⟩
 refine ⟨_,G,?_⟩
 have fs:=aZ.size
 have fd:(1:Int)≤p∧p≤51:=mem_rngB (lo:=1) (hi:=51) oG dg
 refine Q (aI G)<|Qn (Ws (Wr (Q (mI G)<|Qc ent27 (c_spec_NewConsole eN p) G ?_)))
 rintro e fQ ⟨aC,bL,bC,aD,bM,bD,rfl,aX,aY,db,aE⟩
 refine ⟨_,G,?_⟩
 have ft:=aE.size
 have e9:=aX.len
 have fa:=aX.rd.bound
 have fe:=new_lenM p
 have fb:=aY.len
 have fc:=aY.rd.bound
 have ff:=new_lenA p
 refine Q (mT G)<|Q (xG G G)<|Q (xB G G)<|Qa (l:=zCn) tz37 G ?_
 intro c fR e7 al fl cZ
 have bV:=nE (g:=c) aX
 have bW:=nE (g:=c) aY
 refine Qw (o:=0) (vs:=(cCn aC bL bC aD bM bD ((newC p).1))) agg37.2 G G G G cZ ler G ?_
 intro eO am fm c6
 have bT:=(((((((lr w).lo de).lo bj).lo ak).new aZ).lo aE).lo al).new am
 refine Q (aB G)<|Qn (Ws (Ws ?_))
 have bY:=(((((dH.lo bj).lo ak).kn aZ).lo aE).lo al).kn am
 have bZ:=((((bX.lo ak).kn aZ).lo aE).lo al).kn am
 have bn:=(aX.lo al).kd am bV
 have bo:=(aY.lo al).kd am bW
 refine Wr (Q (mB G)<|Q (rN G)<|Qn (Wb G (fun b8=>?_) (fun b8=>?_)))
 ·have fg:=bnot_t b8
  refine Ws (Wr (Q (mI G)<|Q (r_build (vs:=[]) G bld35_)<|Q (aI G)<|Qw (o:=0) (vs:=[str ([]:List UInt8),str ([]:List UInt8),i6 0]) agg35.2 G G G G bY ler G ?_))
  intro fS df fo c7
  refine Qn (We (retTC G (v:=i6 _) G G agg35 c7 G (⟨p,(⟨([]:List UInt8),([]:List UInt8),0⟩:Log),eR (eT2 G (eA G)),oB,(by first | omega | (simp only [List.length_append]; omega) | (dsimp only; omega) | exact app_fit oB | decide),(bT.new df)⟩)))
 ·have fh:=bnot_f b8
  refine Wk (Ws (Ws (Wr (Q (mP G)<|Qc ent59 (c___spec_l1Cur__pick eO L eL eK (((cY.lo aE).lo al).kn am) bZ oB oB 12 oD) G ?_))))
  rintro e aW ⟨bO,bN,dn,rfl,da,fq,fj,E⟩
  refine ⟨_,G,?_⟩
  have fu:=E.size
  refine Q (aI G)<|Qn (Wl (WL (σ:=Int × Console × Int × Int × (Option Addr) × Nat × Nat × (Option Addr) × Nat × Nat) (fun g=>[(2,i6 0),(3,pt F),(4,pt j),(5,i6 p),(6,pt c),(8,i6 g.1)]) (fun g w'=>(Lo w w')∧(Blk w' F 35 [str ([]:List UInt8),str ([]:List UInt8),i6 0])∧(Blk w' j 91 [.slice AL nL cL,i6 g.2.2.1,.int .u64 g.2.2.2.1])∧(SlR w' BL encB 1 AL nL cL L)∧(Blk w' c 37 (cCn g.2.2.2.2.1 g.2.2.2.2.2.1 g.2.2.2.2.2.2.1 g.2.2.2.2.2.2.2.1 g.2.2.2.2.2.2.2.2.1 g.2.2.2.2.2.2.2.2.2 g.2.1))∧(SlO w' w.heap.size encLMap 3 102 g.2.2.2.2.1 g.2.2.2.2.2.1 g.2.2.2.2.2.2.1 g.2.1.Library.Maps)∧(SlO w' w.heap.size encAway 2 129 g.2.2.2.2.2.2.2.1 g.2.2.2.2.2.2.2.2.1 g.2.2.2.2.2.2.2.2.2 g.2.1.Library.Away)∧(¬g.2.2.2.2.1=some ⟨F,0,none⟩)∧(¬g.2.2.2.2.1=some ⟨j,0,none⟩)∧(¬g.2.2.2.2.1=some ⟨c,0,none⟩)∧(∀ b_,g.2.2.2.2.1=some ⟨b_,0,none⟩→¬g.2.2.2.2.2.2.2.1=some ⟨b_,0,none⟩)∧(¬g.2.2.2.2.2.2.2.1=some ⟨F,0,none⟩)∧(¬g.2.2.2.2.2.2.2.1=some ⟨j,0,none⟩)∧(¬g.2.2.2.2.2.2.2.1=some ⟨c,0,none⟩)∧((0≤g.1∧g.1≤11∧0≤g.2.2.1∧g.2.2.1≤100+24*(11-g.1))∧ConOK g.2.1)) (fun g=>g.1.toNat) (bO,((newC p).1),bN,dn,aC,bL,bC,aD,bM,bD) ?_ ?_ ?_))
  ·exact (At.r G)
  ·show (Lo w aW)∧(Blk aW F 35 [str ([]:List UInt8),str ([]:List UInt8),i6 0])∧(Blk aW j 91 [.slice AL nL cL,i6 bN,.int .u64 dn])∧(SlR aW BL encB 1 AL nL cL L)∧(Blk aW c 37 (cCn aC bL bC aD bM bD ((newC p).1)))∧(SlO aW w.heap.size encLMap 3 102 aC bL bC (((newC p).1).Library.Maps))∧(SlO aW w.heap.size encAway 2 129 aD bM bD (((newC p).1).Library.Away))∧(¬aC=some ⟨F,0,none⟩)∧(¬aC=some ⟨j,0,none⟩)∧(¬aC=some ⟨c,0,none⟩)∧Dj aC aD∧(¬aD=some ⟨F,0,none⟩)∧(¬aD=some ⟨j,0,none⟩)∧(¬aD=some ⟨c,0,none⟩)∧((0≤bO∧bO≤11∧0≤bN∧bN≤100+24*(11-bO))∧ConOK ((newC p).1))
   exact ⟨(bT.new E),bY.kn E,da,bZ.kn E,(c6.kn E),((bn.kn E).down),((bo.kn E).down),(nE (bn.kn E)),(nE (bn.kn E)),bV,db,(nE (bo.kn E)),(nE (bo.kn E)),bW,(by (try dsimp only); exact ⟨oB,con_new1 (by simpa using ‹(!_)=false›)⟩)⟩
  ·rintro ⟨m,o,t,z,N,aU,aF,O,aV,aG⟩ cS d b9
   obtain ⟨aH,aR,ag,ay,s,y,A,dI,J,ab,dJ,dK,K,ac,ae⟩:(Lo w d)∧(Blk d F 35 [str ([]:List UInt8),str ([]:List UInt8),i6 0])∧(Blk d j 91 [.slice AL nL cL,i6 t,.int .u64 z])∧(SlR d BL encB 1 AL nL cL L)∧(Blk d c 37 (cCn N aU aF O aV aG o))∧(SlO d w.heap.size encLMap 3 102 N aU aF o.Library.Maps)∧(SlO d w.heap.size encAway 2 129 O aV aG o.Library.Away)∧(¬N=some ⟨F,0,none⟩)∧(¬N=some ⟨j,0,none⟩)∧(¬N=some ⟨c,0,none⟩)∧Dj N O∧(¬O=some ⟨F,0,none⟩)∧(¬O=some ⟨j,0,none⟩)∧(¬O=some ⟨c,0,none⟩)∧((0≤m∧m≤11∧0≤t∧t≤100+24*(11-m))∧ConOK o):=b9
   refine (?_:W _ _ _ _ _ (act _ (sets cS [(2,i6 0),(3,pt F),(4,pt j),(5,i6 p),(6,pt c),(8,i6 m)])) _)
   have dD:=aH.size
   have dQ:=aR.lt
   have dR:=ag.lt
   have dS:=s.lt
   have dT:=y.len
   have dU:=y.rd.bound
   have dV:=A.len
   have dW:=A.rd.bound
   have d3:0≤m∧m≤11∧0≤t∧t≤100+24*(11-m):=ae.1
   have d4:ConOK o:=ae.2
   have d5:(o.Library.Maps.length≤8∧o.Library.Away.length≤8)∧(o.Log.Durable.length+o.Log.Pending.length≤24360∧0≤o.Log.Count∧o.Log.Count≤60):=con_fit ae.2
   have d6:MapB o.Library.Maps:=MapB.of ae.2.1.1.1
   have d7:AwayB o.Library.Away:=AwayB.of ae.2.1
   refine Ws (Ws (Wr (Q (mI G)<|Q (r_gt G G)<|Qn (Wd G (fun cT=>?_) (fun cT=>?_)))))
   ·refine Wk (Ws (Wl (WA (Kp (fun b_=>b_=j∨b_=c) d) (fun f' w'=>∃ (f:List UInt8) (q:Int) (U:Int) (u:Option Addr) (S:Nat) (ai:Nat) (x:Option Addr) (T:Nat) (aj:Nat),At f' [(2,i6 0),(3,pt F),(4,pt j),(5,i6 p),(6,pt c),(8,i6 m)]∧(Kp (fun b_=>b_=j∨b_=c) d w')∧(SlO w' d.heap.size encLMap 3 102 u S ai (((execN o f).1).Library.Maps))∧(SlO w' d.heap.size encAway 2 129 x T aj (((execN o f).1).Library.Away))∧(Blk w' j 91 [.slice AL nL cL,i6 q,.int .u64 U])∧(Blk w' c 37 (cCn u S ai x T aj ((execN o f).1)))∧Dj u N∧Dj u O∧Dj u x∧Dj x N∧Dj x O∧(t≤q∧q≤t+24)∧(f.length≤100)∧(S=(((execN o f).1).Library.Maps).length)∧((S:Int)≤9223372036854775807)∧(T=(((execN o f).1).Library.Away).length)∧((T:Int)≤9223372036854775807)) mo ?_ ?_)))
    ·intro dy a
     have ei:=a.size
     refine Av #[true,true,true,true,false,false,false,false,false] 5 (fun f' w'=>∃ (f:List UInt8) (q:Int) (U:Int),At f' [(2,i6 0),(3,pt F),(4,pt j),(5,i6 p),(6,pt c),(8,i6 m),(32,.agg (List.toArray (cCn N aU aF O aV aG o))),(35,str f)]∧(Kp (fun b_=>b_=j∨b_=c) d w')∧(Blk w' j 91 [.slice AL nL cL,i6 q,.int .u64 U])∧(Blk w' c 37 (cCn N aU aF O aV aG o))∧(t≤q∧q≤t+24)∧(f.length≤100)) ?_ (fun bp=>?_)
     ·rintro eP dz ⟨f,q,U,bE,C,cx,cy,bz,bt⟩
      rw [← sA bE]
      have ej:=C.size
      refine Ab 4 G (Qc ent10 (c_spec_ExecuteCommand dz o ((y.kp C (fun b_ hb e'=>e'.elim (fun e'=>J (by have e'':b_=j:=e'; rw [← e'']; exact hb)) (fun e'=>ab (by have e'':b_=c:=e'; rw [← e'']; exact hb)))).rd) ((A.kp C (fun b_ hb e'=>e'.elim (fun e'=>K (by have e'':b_=j:=e'; rw [← e'']; exact hb)) (fun e'=>ac (by have e'':b_=c:=e'; rw [← e'']; exact hb)))).rd) f oB oB) G ?_)
      rintro e fw ⟨bP,b4,bR,bQ,b5,bS,rfl,V,X,cm,aq⟩
      refine ⟨_,G,?_⟩
      have ek:=aq.size
      have Y:=C.lo aq
      have cp:=V.len
      have cq:=V.rd.bound
      have cr:=X.len
      have ct:=X.rd.bound
      refine Qn ⟨Y,_,G,(Ak 5 G Y (fun w' hw'=>mT G)<|Ak 6 G Y (fun w' hw'=>xG G G)<|Ak 7 G Y (fun w' hw'=>xS G G)<|Ab 8 G (Qw (o:=0) (vs:=(cCn bP b4 bR bQ b5 bS ((execN o f).1))) agg37.2 G G G G (cy.lo aq) ler G ?_))⟩
      intro fx D d9 ca
      have bb:=Y.step D (fun _ _ e=>.inr e)
      refine Qn ⟨bb,_,G,(Ad oC (⟨f,q,U,bP,b4,bR,bQ,b5,bS,(At.r G),bb,((V.kn D).down),((X.kn D).down),((cx.lo aq).kn D),ca,(fun b_ h h'=>by have h1:=(V.kn D).base_le h; have h2:=(y.kp C (fun b_ hb e'=>e'.elim (fun e'=>J (by have e'':b_=j:=e'; rw [← e'']; exact hb)) (fun e'=>ab (by have e'':b_=c:=e'; rw [← e'']; exact hb)))).base_le h'; omega),(fun b_ h h'=>by have h1:=(V.kn D).base_le h; have h2:=(A.kp C (fun b_ hb e'=>e'.elim (fun e'=>K (by have e'':b_=j:=e'; rw [← e'']; exact hb)) (fun e'=>ac (by have e'':b_=c:=e'; rw [← e'']; exact hb)))).base_le h'; omega),cm,(fun b_ h h'=>by have h1:=(X.kn D).base_le h; have h2:=(y.kp C (fun b_ hb e'=>e'.elim (fun e'=>J (by have e'':b_=j:=e'; rw [← e'']; exact hb)) (fun e'=>ab (by have e'':b_=c:=e'; rw [← e'']; exact hb)))).base_le h'; omega),(fun b_ h h'=>by have h1:=(X.kn D).base_le h; have h2:=(A.kp C (fun b_ hb e'=>e'.elim (fun e'=>K (by have e'':b_=j:=e'; rw [← e'']; exact hb)) (fun e'=>ac (by have e'':b_=c:=e'; rw [← e'']; exact hb)))).base_le h'; omega),bz,bt,cp,cq,cr,ct⟩))⟩
     refine Av #[true,true,true,false,false,false,false,false,false] 6 (fun f' w'=>At f' [(2,i6 0),(3,pt F),(4,pt j),(5,i6 p),(6,pt c),(8,i6 m),(32,.agg (List.toArray (cCn N aU aF O aV aG o))),(33,pt j),(34,.agg (List.toArray (cCn N aU aF O aV aG o)))]∧(Kp (fun b_=>b_=j∨b_=c) d w')∧(Blk w' j 91 [.slice AL nL cL,i6 t,.int .u64 z])∧(Blk w' c 37 (cCn N aU aF O aV aG o))) ?_ (fun bq=>?_)
     ·rintro eQ dA ⟨bF,I,cu,cw⟩
      rw [← sA bF]
      have el:=I.size
      refine Ab 3 G (Qc ent60 (c___spec_l1Cur__command dA L t z cu (ay.kp I (fun b_ hb e'=>e'.elim (fun e'=>by have e'':b_=j:=e'; omega) (fun e'=>by have e'':b_=c:=e'; omega))) oB oB o ((y.kp I (fun b_ hb e'=>e'.elim (fun e'=>J (by have e'':b_=j:=e'; rw [← e'']; exact hb)) (fun e'=>ab (by have e'':b_=c:=e'; rw [← e'']; exact hb)))).rd) ((A.kp I (fun b_ hb e'=>e'.elim (fun e'=>K (by have e'':b_=j:=e'; rw [← e'']; exact hb)) (fun e'=>ac (by have e'':b_=c:=e'; rw [← e'']; exact hb)))).rd) oB (by first | assumption | exact MapB.of (And.left (And.left ‹LibOK _›)) | exact MapB.app (MapB.of (And.left (And.left ‹LibOK _›))) oF | exact MapB.nil) (by first | assumption | exact AwayB.of ‹LibOK _› | exact AwayB.app (AwayB.of ‹LibOK _›) oF | exact AwayB.nil) ((y.kp I (fun b_ hb e'=>e'.elim (fun e'=>J (by have e'':b_=j:=e'; rw [← e'']; exact hb)) (fun e'=>ab (by have e'':b_=c:=e'; rw [← e'']; exact hb)))).apart J) ((A.kp I (fun b_ hb e'=>e'.elim (fun e'=>K (by have e'':b_=j:=e'; rw [← e'']; exact hb)) (fun e'=>ac (by have e'':b_=c:=e'; rw [← e'']; exact hb)))).apart K)) G ?_)
      rintro e fy ⟨du,dp,dh,rfl,cd,cO,cH,aN⟩
      refine ⟨_,G,?_⟩
      have em:=aN.size
      have bc:=I.step aN (fun _ _ e=>.inl e)
      refine Qn ⟨bc,_,G,(Ag oC G (bp _ _ (⟨du,dp,dh,(At.r G),bc,cd,(cw.kn aN),cO,cH⟩)))⟩
     refine Ak 1 G (kr a) (fun w' hw'=>mP G)<|Ar [0,2] oC G ⟨Bm G trivial ?_,Bm G trivial ?_,trivial⟩
     ·refine Q (lG agg37 G (s.lo a) G) (Qn ⟨(kq d).lo a,_,G,(Ab 2 G (Q (lG agg37 G (s.lo a) G) (Qn ⟨(kq d).lo a,_,G,(Ag oC G (bq _ _ (⟨(At.r G),(kq d).lo a,(ag.lo a),(s.lo a)⟩)))⟩)))⟩)
     ·refine Q (lG agg37 G (s.lo a) G) (Qn ⟨(kq d).lo a,_,G,(Ar [0,3] oC G ⟨Bm G trivial ?_,Bm G trivial ?_,trivial⟩)⟩)
      ·refine Q (lG agg37 G (s.lo a) G) (Qn ⟨(kq d).lo a,_,G,(Ag oC G (bq _ _ (⟨(At.r G),(kq d).lo a,(ag.lo a),(s.lo a)⟩)))⟩)
      ·refine Qc ent60 (c___spec_l1Cur__command dy L t z (ag.lo a) (ay.lo a) oB oB o ((y.lo a).rd) ((A.lo a).rd) oB (by first | assumption | exact MapB.of (And.left (And.left ‹LibOK _›)) | exact MapB.app (MapB.of (And.left (And.left ‹LibOK _›))) oF | exact MapB.nil) (by first | assumption | exact AwayB.of ‹LibOK _› | exact AwayB.app (AwayB.of ‹LibOK _›) oF | exact AwayB.nil) ((y.lo a).apart J) ((A.lo a).apart K)) G ?_
       rintro e fz ⟨dv,dq,di,rfl,ce,cP,cI,ar⟩
       refine ⟨_,G,?_⟩
       have eo:=ar.size
       have aK:=((kr a:Kp (fun b_=>b_=j∨b_=c) d _)).step ar (fun _ _ e=>.inl e)
       refine Qn ⟨aK,_,G,(Ab 0 G (Q (lG agg37 G ((s.lo a).kn ar) G) (Qn ⟨aK,_,G,(Ag oC G (bp _ _ (⟨dv,dq,di,(At.r G),aK,ce,((s.lo a).kn ar),cP,cI⟩)))⟩)))⟩
    rintro eT ah ⟨f,q,U,u,S,ai,x,T,aj,bG,ap,az,aA,cz,cA,dL,dM,cl,dN,dO,bz,bt,dX,dY,dZ,d1⟩
    rw [← sA bG]
    have ep:=ap.size
    refine Wr (Q (mI G)<|Q (r_sub G G oB)<|Q (aI G)<|Qn (⟨(m-1,((execN o f).1),q,U,u,S,ai,x,T,aj),_,G,(At.r G),(show (Lo w ah)∧(Blk ah F 35 [str ([]:List UInt8),str ([]:List UInt8),i6 0])∧(Blk ah j 91 [.slice AL nL cL,i6 q,.int .u64 U])∧(SlR ah BL encB 1 AL nL cL L)∧(Blk ah c 37 (cCn u S ai x T aj ((execN o f).1)))∧(SlO ah w.heap.size encLMap 3 102 u S ai (((execN o f).1).Library.Maps))∧(SlO ah w.heap.size encAway 2 129 x T aj (((execN o f).1).Library.Away))∧(¬u=some ⟨F,0,none⟩)∧(¬u=some ⟨j,0,none⟩)∧(¬u=some ⟨c,0,none⟩)∧Dj u x∧(¬x=some ⟨F,0,none⟩)∧(¬x=some ⟨j,0,none⟩)∧(¬x=some ⟨c,0,none⟩)∧((0≤m-1∧m-1≤11∧0≤q∧q≤100+24*(11-(m-1)))∧ConOK ((execN o f).1)) from ⟨(aH.step ap (fun i_ hi_ e'=>e'.elim (fun e'=>by have e'':i_=j:=e'; omega) (fun e'=>by have e'':i_=c:=e'; omega))),aR.kp ap (fun e'=>e'.elim (fun e'=>by have e'':F=j:=e'; omega) (fun e'=>by have e'':F=c:=e'; omega)),cz,ay.kp ap (fun b_ hb e'=>e'.elim (fun e'=>by have e'':b_=j:=e'; omega) (fun e'=>by have e'':b_=c:=e'; omega)),cA,(az.down),(aA.down),(nE az),(nE az),(nE az),cl,(nE aA),(nE aA),(nE aA),?_⟩),?_⟩))
    ·exact (by (try dsimp only); exact ⟨oB,exec_ok ‹ConOK _›⟩)
    ·exact oH
   ·refine Wx (xh (Ws (Wr (Q (fA fa37_1 G)<|Q (r_lda (l:=[str o.Log.Durable,str o.Log.Pending,i6 o.Log.Count]) agg35 G (fun _ _ hu=>s.cells (vs:=[str o.Log.Durable,str o.Log.Pending,i6 o.Log.Count]) G hu) G)<|Qa (l:=[str ([]:List UInt8),str ([]:List UInt8),i6 0]) tz35 G ?_))))
    intro B fB dP au ea cf
    refine Qw (o:=0) (vs:=[str o.Log.Durable,str o.Log.Pending,i6 o.Log.Count]) agg35.2 G G G G cf ler G ?_
    intro dB aw ed aa
    refine Qn (Ws (Ws ?_))
    have bm:=(aR.lo au).kn aw
    have aT:=(ay.lo au).kn aw
    refine Wr (Q (mP G)<|Qc ent61 (c___spec_l1Cur__one dB L t z ((ag.lo au).kn aw) aT oB oB 3 oD) G ?_)
    rintro e M ⟨fv,ao,b6,rfl,bi,eh,k⟩
    refine ⟨_,G,?_⟩
    have eu:=k.size
    have a6:=((aH.lo au).new aw).new k
    refine Qn (Wb G (fun cU=>?_) (fun cU=>?_))
    ·refine WA (Kp (fun b_=>b_=j∨b_=B) M) (fun f' w'=>∃ (b:LogRecord) (H:Int) (an:Int),At f' [(2,i6 0),(3,pt F),(5,i6 p),(9,pt B)]∧(Kp (fun b_=>b_=j∨b_=B) M w')∧(Blk w' j 91 [.slice AL nL cL,i6 H,.int .u64 an])∧(Blk w' B 35 [str (((appN o.Log b).1).Durable),str (((appN o.Log b).1).Pending),i6 (((appN o.Log b).1).Count)])∧(ao≤H∧H≤ao+8)∧(b.Command.length≤40∧b.Reply.length≤40)∧((appN o.Log b).1.Durable.length+(appN o.Log b).1.Pending.length≤o.Log.Durable.length+o.Log.Pending.length+406)) mo ?_ ?_
     ·intro b7 i
      have ew:=i.size
      refine Av #[true,true,true,false,false,false,false,false] 5 (fun f' w'=>∃ (b:LogRecord) (H:Int) (an:Int),At f' [(2,i6 0),(3,pt F),(5,i6 p),(9,pt B),(44,.agg (List.toArray [str o.Log.Durable,str o.Log.Pending,i6 o.Log.Count])),(46,.agg (List.toArray [str b.Command,str b.Reply]))]∧(Kp (fun b_=>b_=j∨b_=B) M w')∧(Blk w' j 91 [.slice AL nL cL,i6 H,.int .u64 an])∧(Blk w' B 35 [str o.Log.Durable,str o.Log.Pending,i6 o.Log.Count])∧(ao≤H∧H≤ao+8)∧(b.Command.length≤40∧b.Reply.length≤40)) ?_ (fun bs=>?_)
      ·rintro eU dC ⟨b,H,an,bH,a7,cB,cC,bA,bu⟩
       rw [← sA bH]
       have ex:=a7.size
       refine Ab 3 G (Qv ent45 (c_spec_AppendRecord dC o.Log b oB oQ) G fun fC aO ey=>?_)
       have Z:=a7.lo aO
       have cJ:(appN o.Log b).1.Durable.length+(appN o.Log b).1.Pending.length≤o.Log.Durable.length+o.Log.Pending.length+406:=appN_len o.Log b
       refine Qn ⟨Z,_,G,(Ak 4 G Z (fun w' hw'=>mT G)<|Ak 5 G Z (fun w' hw'=>xG G G)<|Ak 6 G Z (fun w' hw'=>xI G G)<|Ab 7 G (Qw (o:=0) (vs:=[str (((appN o.Log b).1).Durable),str (((appN o.Log b).1).Pending),i6 (((appN o.Log b).1).Count)]) agg35.2 G G G G (cC.lo aO) ler G ?_))⟩
       intro fD bl ee cg
       have be:=Z.step bl (fun _ _ e=>.inr e)
       refine Qn ⟨be,_,G,(Ad oC (⟨b,H,an,(At.r G),be,((cB.lo aO).kn bl),cg,bA,bu,cJ⟩))⟩
      refine Ak 1 G (kr i) (fun w' hw'=>mP G)<|Ar [0,2] oC G ⟨Bm G trivial ?_,Bm G trivial ?_,trivial⟩
      ·refine Q (lG agg35 G ((aa.kn k).lo i) G) (Qn ⟨(kq M).lo i,_,G,(Ab 2 G (Qc ent62 (c___spec_l1Cur__logRecord b7 L ao b6 (bi.lo i) ((aT.kn k).lo i) oB oB) G ?_))⟩)
       rintro e fE ⟨dw,dr,dk,rfl,ch,cQ,cK,aQ⟩
       refine ⟨_,G,?_⟩
       have ez:=aQ.size
       have bf:=((kr i:Kp (fun b_=>b_=j∨b_=B) M _)).step aQ (fun _ _ e=>.inl e)
       refine Qn ⟨bf,_,G,(Ag oC G (bs _ _ (⟨dw,dr,dk,(At.r G),bf,ch,(((aa.kn k).lo i).kn aQ),cQ,cK⟩)))⟩
      ·refine Qc ent62 (c___spec_l1Cur__logRecord b7 L ao b6 (bi.lo i) ((aT.kn k).lo i) oB oB) G ?_
       rintro e fF ⟨dx,dt,dm,rfl,ci,cR,cN,ax⟩
       refine ⟨_,G,?_⟩
       have eD:=ax.size
       have aM:=((kr i:Kp (fun b_=>b_=j∨b_=B) M _)).step ax (fun _ _ e=>.inl e)
       refine Qn ⟨aM,_,G,(Ab 0 G (Q (lG agg35 G (((aa.kn k).lo i).kn ax) G) (Qn ⟨aM,_,G,(Ag oC G (bs _ _ (⟨dx,dt,dm,(At.r G),aM,ci,(((aa.kn k).lo i).kn ax),cR,cN⟩)))⟩)))⟩
     rintro eW bB ⟨b,H,an,bI,aJ,d2,cD,bA,bu,d8⟩
     rw [← sA bI]
     have eE:=aJ.size
     refine Ws ?_
     have cE:=(bm.kn k).kp aJ (fun e'=>e'.elim (fun e'=>by have e'':F=j:=e'; omega) (fun e'=>by have e'':F=B:=e'; omega))
     refine WA (Kp (fun b_=>b_=F) bB) (fun f' w'=>At f' [(2,i6 p),(3,pt F)]∧(Kp (fun b_=>b_=F) bB w')∧(Blk w' F 35 [str (((appN o.Log b).1).Durable),str (((appN o.Log b).1).Pending),i6 (((appN o.Log b).1).Count)])) mo ?_ ?_
     ·intro fG P
      have eF:=P.size
      refine Ak 0 G (kr P) (fun w' hw'=>mI G)<|Ak 1 G (kr P) (fun w' hw'=>lG agg35 G (cD.kn hw' oB) G)<|Ak 2 G (kr P) (fun w' hw'=>aI G)<|Ab 3 G (Qw (o:=0) (vs:=[str (((appN o.Log b).1).Durable),str (((appN o.Log b).1).Pending),i6 (((appN o.Log b).1).Count)]) agg35.2 G G G G (cE.lo P) ler G ?_)
      intro fH cn ef cj
      have bg:=((kr P:Kp (fun b_=>b_=F) bB _)).step cn (fun _ _ e=>e)
      refine Qn ⟨bg,_,G,(Ad oC (⟨⟨G,G,trivial⟩,bg,cj⟩))⟩
     rintro eX fI ⟨bJ,a8,cF⟩
     rw [← sA bJ]
     have eG:=a8.size
     refine We (retTC G (v:=i6 _) G G agg35 cF G (⟨p,((appN o.Log b).1),eR (eT2 G G),oB,(by first | omega | (simp only [List.length_append]; omega) | (dsimp only; omega) | exact app_fit oB | decide),((a6.step aJ (fun i_ hi_ e'=>e'.elim (fun e'=>by have e'':i_=j:=e'; omega) (fun e'=>by have e'':i_=B:=e'; omega))).new a8 oB)⟩))
    ·refine Wk (Ws (WA (Kp (fun b_=>b_=F) M) (fun f' w'=>At f' [(2,i6 p),(3,pt F)]∧(Kp (fun b_=>b_=F) M w')∧(Blk w' F 35 [str o.Log.Durable,str o.Log.Pending,i6 o.Log.Count])) mo ?_ ?_))
     ·intro fJ R
      have eH:=R.size
      refine Ak 0 G (kr R) (fun w' hw'=>mI G)<|Ak 1 G (kr R) (fun w' hw'=>lG agg35 G ((aa.kn k).kn hw' oB) G)<|Ak 2 G (kr R) (fun w' hw'=>aI G)<|Ab 3 G (Qw (o:=0) (vs:=[str o.Log.Durable,str o.Log.Pending,i6 o.Log.Count]) agg35.2 G G G G ((bm.kn k).lo R) ler G ?_)
      intro fK co eg ck
      have bh:=((kr R:Kp (fun b_=>b_=F) M _)).step co (fun _ _ e=>e)
      refine Qn ⟨bh,_,G,(Ad oC (⟨⟨G,G,trivial⟩,bh,ck⟩))⟩
     rintro eY fL ⟨bK,ba,cG⟩
     rw [← sA bK]
     have eJ:=ba.size
     refine We (retTC G (v:=i6 _) G G agg35 cG G (⟨p,o.Log,eR (eT2 G G),oB,(by first | omega | (simp only [List.length_append]; omega) | (dsimp only; omega) | exact app_fit oB | decide),(a6.new ba oB)⟩))
end Go.Proofs.YtndcchndcghmoaaGreatDoor
namespace Go.Proofs.YtndcchndcghmoaaGreatDoor
open Go Go.RowKit Fw
set_option maxRecDepth 10000
set_option maxHeartbeats 2000000
set_option linter.unusedVariables false
variable {AL : Option Addr} {nL cL BL : Nat}
theorem ent21:Ent Tryz.prog 21:=en Tryz.func21
theorem ent22:Ent Tryz.prog 22:=en Tryz.func22
theorem ent23:Ent Tryz.prog 23:=en Tryz.func23
theorem ent24:Ent Tryz.prog 24:=en Tryz.func24
theorem ent25:Ent Tryz.prog 25:=en Tryz.func25
theorem ent28:Ent Tryz.prog 28:=en Tryz.func28
theorem ent29:Ent Tryz.prog 29:=en Tryz.func29
theorem ent30:Ent Tryz.prog 30:=en Tryz.func30
theorem ent31:Ent Tryz.prog 31:=en Tryz.func31
theorem und4:Tryz.prog.underlying 4=some (.bool):=by kernel_rfl
theorem c_laws_FnReplay (w:World)  (L:List UInt8) (hL:SlR w BL encB 1 AL nL cL L) (hE:EnvW w):Calls Tryz.prog 5 #[.slice AL nL cL] w fun e w'=>e=.returned (.bool true)∧Lo w w':=by
 refine cW 155 Tryz.func5 G G G ?_
 have hbdL:=hL.bound
 have hleL:=hL.len
 have hBbL:=hL.bd
 refine Ws (Wr (Q (aB G)<|Qn (Ws (Ws (Wr (Q (mL G)<|Qv ent21 (c_laws_vBig w L hL) G fun w1 bu ez=>?_))))))
 have bS:=(lr w).lo bu
 refine Qn (Wd G (fun h5=>?_) (fun h5=>?_))
 ·refine Ws (Wr (Q (aB G)<|Qn (We (ret1 G (v:=.bool _) G (⟨eR G,bS⟩)))))
 ·refine Wk (Ws (Wr (Q (mL G)<|Qc ent22 (c_spec_DrawReplayLog w1 L (hL.lo bu) oB) G ?_)))
  rintro e w6 ⟨f,v9,rfl,dV,dW,bz⟩
  refine ⟨_,G,?_⟩
  have d9:=bz.size
  refine Q (mT G)<|Q (xI G G)<|Q (xG G G)<|Qa (l:=[str ([]:List UInt8),str ([]:List UInt8),i6 0]) tz35 G ?_
  intro ew eE dK a8 d5 bT
  refine Q (aI G)<|Qw (o:=0) (vs:=[str v9.Durable,str v9.Pending,i6 v9.Count]) agg35.2 G G G G bT ler G ?_
  intro dz ba d6 a7
  have aY:=((bS.lo bz).lo a8).new ba
  refine Qn (Ws (Wr (Q (mI G)<|Q (lG agg35 G a7 G)<|Qv ent23 (c_impl_ReplayLog dz f v9 oB (hE.lo aY)) G fun dA aw ea=>(Q (mT G)<|Q (xI G G)<|Q (xB G G)<|Q (aI G)<|Q (aB G)<|Qn (Ws (Ws (Wr (Q (mI G)<|Q (lG agg35 G (a7.lo aw) G)<|Qv ent24 (c_spec_ReplayLog dA f v9 oB) G fun dB bb ed=>(Q (mT G)<|Q (xI G G)<|Q (xB G G)<|Q (aI G)<|Q (aB G)<|Qn (Ws (Wr (Q (mI G)<|Q (mI G)<|Q (r_ne_s G G)<|Q (mB G)<|Qg (mB G)<|Qg (mB G)<|Qg (r_neb_s und4 G G)<|Q (pF G G)<|Qn (W.cond_f G (Wk (Ws (Wr (Q (mL G)<|Qc ent25 (c_spec_DrawRunScript dB L ((((((hL.lo bu).lo bz).lo a8).kn ba).lo aw).lo bb) oB) G ?_)))))))))))))))))
  rintro e eF ⟨cf,dw,ch,cg,dx,ci,dy,c,rfl,aZ,a6,dI,dX,dY,dZ,d1,d2,bc⟩
  refine ⟨_,G,?_⟩
  have ee:=bc.size
  have dN:=aZ.len
  have dO:=aZ.rd.bound
  have dP:=a6.len
  have dQ:=a6.rd.bound
  refine Q (mT G)<|Q (xG G G)<|Q (xS G G)<|Qa (l:=zCn) tz37 G ?_
  intro ex eG dL bV d7 bU
  refine Qw (o:=0) (vs:=(cCn cf dw ch cg dx ci dy)) agg37.2 G G G G bU ler G ?_
  intro dC bW d8 dH
  refine Q (aS G)<|Qn (Ws (Wr (Q (mI G)<|Qc ent26 (c_impl_NewConsole dC f) G ?_)))
  rintro e eH ⟨bK,bZ,bO,bL,b4,bP,rfl,ah,ai,dJ,be⟩
  refine ⟨_,G,?_⟩
  have ef:=be.size
  have dR:=ah.len
  have dS:=ah.rd.bound
  have d3:=new_lenM f
  have dT:=ai.len
  have dU:=ai.rd.bound
  have d4:=new_lenA f
  refine Q (mT G)<|Q (xG G G)<|Q (xB G G)<|Qa (l:=zCn) tz37 G ?_
  intro p eJ dM V cY bm
  refine Qw (o:=0) (vs:=(cCn bK bZ bO bL b4 bP ((newC f).1))) agg37.2 G G G G bm ler G ?_
  intro b6 X cZ bn
  refine Q (aB G)<|Qn (Ws (Ws ?_))
  have aD:=(ah.lo V).kd X (nE (g:=p) ah)
  have aE:=(ai.lo V).kd X (nE (g:=p) ai)
  refine Wr (Q (mI G)<|Qc ent27 (c_spec_NewConsole b6 f) G ?_)
  rintro e eg ⟨bI,bX,bM,bJ,bY,bN,rfl,F,H,cj,h⟩
  refine ⟨_,G,?_⟩
  have dg:=h.size
  have cp:=F.len
  have cq:=F.rd.bound
  have cG:=new_lenM f
  have cr:=H.len
  have ct:=H.rd.bound
  have cH:=new_lenA f
  refine Q (mT G)<|Q (xG G G)<|Q (xB G G)<|Qa (l:=zCn) tz37 G ?_
  intro ae eh cn j c6 bo
  refine Qw (o:=0) (vs:=(cCn bI bX bM bJ bY bN ((newC f).1))) agg37.2 G G G G bo ler G ?_
  intro bj m c7 bp
  refine Q (aB G)<|Qn (Ws ?_)
  have aF:=((bn.lo h).lo j).kn m
  have aG:=((aD.lo h).lo j).kd m (nE (g:=ae) (aD.lo h))
  have aH:=((aE.lo h).lo j).kd m (nE (g:=ae) (aE.lo h))
  refine WJ (fun f' w'=>At f' [(2,.bool false),(3,i6 f),(10,str c),(11,pt p),(12,.bool ((newC f).2)),(77,.bool (decide (¬(((newC f).1)=((newC f).1)))))]∧Lo bj w') ?_ ?_
  ·refine Q (lG agg37 G aF G)<|Q (lG agg37 G bp G)<|Qv ent28 (c_laws_vConsole bj ((newC f).1) (aG.rd) (aH.rd) ((newC f).1) (((F.lo j).kd m (nE (g:=ae) F)).rd) (((H.lo j).kd m (nE (g:=ae) H)).rd)) G fun ei au dh=>(Q (rN G)<|Q (mB G)<|QN (fun aj=>?_) (fun aj=>?_))
   ·refine Qs<|Qs<|Qs<|Q (pT G G)<|Qn (⟨_,G,⟨⟨G,G,G,G,G,(eDT ((j2f aj).1 trivial)),trivial⟩,au⟩⟩)
   ·refine Qg (mB G)<|Qg (mB G)<|Qg (r_neb_s und4 G G)<|Q (pF G G)<|Qn (⟨_,G,⟨⟨G,G,G,G,G,(eDF (j2t aj).2),trivial⟩,au⟩⟩)
  rintro dD aJ ⟨aK,u⟩
  rw [← sA aK]
  have di:=u.size
  have O:=(((((((((((aY.lo aw).lo bb).lo bc).lo bV).new bW).lo be).lo V).new X).lo h).lo j).new m).lo u
  refine Wd G (fun ak=>?_) (fun ak=>?_)
  ·have cI:¬(((newC f).1)=((newC f).1)):=ak
   refine Ws (Wr (Q (aB G)<|Qn (We (ret1 G (v:=.bool _) G (⟨eR (eB (by first | exact decide_eq_true (his_fin (bnot_f ‹(!((newC _).2))=false›) ‹HisOK _ _›) | exact (‹¬(newC _).1=(newC _).1› G).elim)),O⟩)))))
  ·have cJ:((newC f).1)=((newC f).1):=(Classical.not_not.1 ak)
   refine Wk (Ws (Ws (Wr (Q (mB G)<|Q (rN G)<|Qn (Wb G (fun al=>?_) (fun al=>?_))))))
   ·have cK:=bnot_t al
    refine Ws (Wr (Q (aB G)<|Qn (We (ret1 G (v:=.bool _) G (⟨eR G,O⟩)))))
   ·have cN:=bnot_f al
    refine Wk (Ws (Wr (Q (mS G)<|Qc ent29 (c_spec_SplitString aJ c ([10]:List UInt8) oB oX) G ?_)))
    rintro e ej ⟨q,N,K,rfl,P,x⟩
    refine ⟨_,G,?_⟩
    have dk:=x.size
    have cu:=P.len
    have cw:=P.rd.bound
    have cO:=splitB_len (10:UInt8) c
    have cP:(splitB (10:UInt8) c).length≤c.length+1:=splitB_max (10:UInt8) c
    refine Q (mT G)<|Q (xL G G)<|Q (xB G G)<|Q (aL G)<|Q (aB G)<|Qn (Ws (Ws (Wr (Q (aI G)<|Qn (Wl (WL (σ:=Nat × Console × (Option Addr) × Nat × Nat × (Option Addr) × Nat × Nat) (fun g=>[(2,.bool false),(3,i6 f),(11,pt p),(15,.slice q N K),(17,i6 (g.1:Int))]) (fun g w'=>(Lo w w')∧(Blk w' p 37 (cCn g.2.2.1 g.2.2.2.1 g.2.2.2.2.1 g.2.2.2.2.2.1 g.2.2.2.2.2.2.1 g.2.2.2.2.2.2.2 g.2.1))∧(SlO w' aJ.heap.size encS 1 9 q N K (splitB (10:UInt8) c))∧(SlR w' w'.heap.size encLMap 3 g.2.2.1 g.2.2.2.1 g.2.2.2.2.1 g.2.1.Library.Maps)∧(SlR w' w'.heap.size encAway 2 g.2.2.2.2.2.1 g.2.2.2.2.2.2.1 g.2.2.2.2.2.2.2 g.2.1.Library.Away)∧(g.1≤601∧HisOK (newC f).1 g.2.1)) (fun g=>700-g.1) (0,((newC f).1),bK,bZ,bO,bL,b4,bP) ?_ ?_ ?_))))))
    ·exact ⟨G,G,G,G,(eI oF),trivial⟩
    ·exact ⟨(O.lo x),((aF.lo u).lo x),P,(((aG.lo u).lo x).rd),(((aH.lo u).lo x).rd),(by (try dsimp only); exact ⟨oB,his_new (by first | assumption | exact bnot_f ‹(!_)=false›)⟩)⟩
    ·rintro ⟨k,o,aO,bf,aU,aQ,bg,aV⟩ bQ b bl
     obtain ⟨s,d,n,R,S,U⟩:(Lo w b)∧(Blk b p 37 (cCn aO bf aU aQ bg aV o))∧(SlO b aJ.heap.size encS 1 9 q N K (splitB (10:UInt8) c))∧(SlR b b.heap.size encLMap 3 aO bf aU o.Library.Maps)∧(SlR b b.heap.size encAway 2 aQ bg aV o.Library.Away)∧(k≤601∧HisOK (newC f).1 o):=bl
     refine (?_:W _ _ _ _ _ (act _ (sets bQ [(2,.bool false),(3,i6 f),(11,pt p),(15,.slice q N K),(17,i6 (k:Int))])) _)
     have ce:=s.size
     have cx:=d.lt
     have cy:=R.len
     have cz:=R.bound
     have cA:=S.len
     have cB:=S.bound
     have cQ:k≤601:=U.1
     have cR:HisOK (newC f).1 o:=U.2
     have cS:(o.Library.Maps.length≤8∧o.Library.Away.length≤8)∧(o.Log.Durable.length+o.Log.Pending.length≤24360∧0≤o.Log.Count∧o.Log.Count≤60):=con_fit U.2.1
     refine Ws (Ws (Wr (Q (mI G)<|Q (mL G)<|Q (r_len und44 G)<|Q (r_lt G G)<|Qn (Wd G (fun bR=>?_) (fun bR=>?_)))))
     ·refine Wk (Ws (Wl (WA (Kp (fun b_=>b_=p) b) (fun f' w'=>∃ (A:Option Addr) (D:Nat) (ab:Nat) (B:Option Addr) (E:Nat) (ac:Nat),At f' [(2,.bool false),(3,i6 f),(11,pt p),(15,.slice q N K),(17,i6 (k:Int))]∧(Kp (fun b_=>b_=p) b w')∧(SlO w' b.heap.size encLMap 3 102 A D ab (((execN o (gt (splitB (10:UInt8) c) k)).1).Library.Maps))∧(SlO w' b.heap.size encAway 2 129 B E ac (((execN o (gt (splitB (10:UInt8) c) k)).1).Library.Away))∧(Blk w' p 37 (cCn A D ab B E ac ((execN o (gt (splitB (10:UInt8) c) k)).1)))∧Dj A q∧Dj A B∧Dj B q∧((splitB (10:UInt8) c)[k]?=some (gt (splitB (10:UInt8) c) k))∧((gt (splitB (10:UInt8) c) k).length≤c.length)∧(D=(((execN o (gt (splitB (10:UInt8) c) k)).1).Library.Maps).length)∧((D:Int)≤9223372036854775807)∧(E=(((execN o (gt (splitB (10:UInt8) c) k)).1).Library.Away).length)∧((E:Int)≤9223372036854775807)) mo ?_ ?_)))
      ·intro b7 a
       have dm:=a.size
       refine Ak 1 G (kr a) (fun w' hw'=>mL G)<|Ak 2 G (kr a) (fun w' hw'=>mI G)<|?_
       have aa:=((n.lo a).rd).elem (i:=k) oB
       have bH:=splitB_el aa
       refine Ak 3 G (kr a) (fun w' hw'=>rX tsl44 ((n.kn hw' oB).rd) G G oB)<|Ak 4 G (kr a) (fun w' hw'=>r_ld (v:=str (gt (splitB (10:UInt8) c) k)) sca9 G (((n.kn hw' oB).rd).cell0 aa G))<|Ab 0 G (Q (lG agg37 G (d.lo a) G) (Qn ⟨(kq b).lo a,_,G,(Ab 5 G (Qc ent12 (c_impl_ExecuteCommand b7 o (R.lo a) (S.lo a) (gt (splitB (10:UInt8) c) k) oB oB (hE.lo (s.lo a))) G ?_))⟩))
       rintro e ek ⟨aR,bh,aW,aT,bi,aX,rfl,I,J,bt,Y⟩
       refine ⟨_,G,?_⟩
       have dn:=Y.size
       have t:=((kr a:Kp (fun b_=>b_=p) b _)).lo Y
       have bA:=I.len
       have bB:=I.rd.bound
       have bC:=J.len
       have bD:=J.rd.bound
       refine Qn ⟨t,_,G,(Ak 6 G t (fun w' hw'=>mT G)<|Ak 7 G t (fun w' hw'=>xG G G)<|Ak 8 G t (fun w' hw'=>xS G G)<|Ab 9 G (Qw (o:=0) (vs:=(cCn aR bh aW aT bi aX ((execN o (gt (splitB (10:UInt8) c) k)).1))) agg37.2 G G G G ((d.lo a).lo Y) ler G ?_))⟩
       intro el y da bq
       have aq:=t.step y (fun _ _ e=>e)
       refine Qn ⟨aq,_,G,(Ad oC (⟨aR,bh,aW,aT,bi,aX,(At.r G),aq,((I.kn y).down),((J.kn y).down),bq,(dj (I.kn y) (n.lo a)),bt,(dj (J.kn y) (n.lo a)),aa,bH,bA,bB,bC,bD⟩))⟩
      rintro dE em ⟨A,D,ab,B,E,ac,aM,T,bE,bF,bG,ck,cl,cm,df,cT,cC,cD,cE,cF⟩
      rw [← sA aM]
      have dp:=T.size
      refine Wr (Q (mI G)<|Q (r_add G G oB)<|Q (aI G)<|Qn (⟨(k+1,((execN o (gt (splitB (10:UInt8) c) k)).1),A,D,ab,B,E,ac),_,G,⟨G,G,G,G,(eI oF),trivial⟩,⟨(s.new T oB),bG,n.kn T oB,(bE.rd),(bF.rd),?_⟩,?_⟩))
      ·exact (by (try dsimp only); exact ⟨oB,his_step ‹HisOK _ _›⟩)
      ·exact oH
     ·refine Wx (xh (Ws (Wr (Q (mI G)<|Q (fA fa37_1 G)<|Q (r_lda (l:=[str o.Log.Durable,str o.Log.Pending,i6 o.Log.Count]) agg35 G (fun _ _ hu=>d.cells (vs:=[str o.Log.Durable,str o.Log.Pending,i6 o.Log.Count]) G hu) G)<|Qv ent23 (c_impl_ReplayLog b f o.Log oB (hE.lo s)) G fun b8 z dq=>?_))))
      have an:=s.lo z
      refine Q (mT G)<|Q (xI G G)<|Q (xB G G)<|Q (aI G)<|Q (aB G)<|Qn (Ws (Wr (Q (fA fa37_1 G)<|Q (r_lda (l:=[str o.Log.Durable,str o.Log.Pending,i6 o.Log.Count]) agg35 G (fun _ _ hu=>(d.lo z).cells (vs:=[str o.Log.Durable,str o.Log.Pending,i6 o.Log.Count]) G hu) G)<|Q (fA fa37_1 G)<|Q (fA fa35_1 G)<|Q (r_ld (v:=str o.Log.Pending) sca9 G ((d.lo z).cell2 G))<|Q (r_len_s und9 G)<|Q (fA fa37_1 G)<|Q (fA fa35_1 G)<|Q (r_ld (v:=str o.Log.Pending) sca9 G ((d.lo z).cell2 G))<|Q (r_len_s und9 G)<|Q (r_rem G G oB)<|Q (r_sub G G oB)<|Qv ent30 (c_impl_CrashLog b8 o.Log ((o.Log.Pending.length:Int)-((o.Log.Pending.length:Int) % 7)) false oB (hE.lo an)) G fun b9 ax dr=>?_)))
      have ao:=an.lo ax
      have cU:(crashN o.Log ((o.Log.Pending.length:Int)-((o.Log.Pending.length:Int) % 7)) false).1.length≤o.Log.Durable.length+o.Log.Pending.length:=crash_len o.Log ((o.Log.Pending.length:Int)-((o.Log.Pending.length:Int) % 7)) false
      refine Q (mT G)<|Q (xS G G)<|Q (xB G G)<|Q (aS G)<|Q (aB G)<|Qn (Ws (Wr (Q (mS G)<|Qv ent31 (c_impl_RecoverLog b9 ((crashN o.Log ((o.Log.Pending.length:Int)-((o.Log.Pending.length:Int) % 7)) false).1) (hE.lo ao)) G fun eo ay dt=>?_)))
      have cX:(recovN ((crashN o.Log ((o.Log.Pending.length:Int)-((o.Log.Pending.length:Int) % 7)) false).1)).1.Durable.length+(recovN ((crashN o.Log ((o.Log.Pending.length:Int)-((o.Log.Pending.length:Int) % 7)) false).1)).1.Pending.length≤30000:=recov_len ((crashN o.Log ((o.Log.Pending.length:Int)-((o.Log.Pending.length:Int) % 7)) false).1)
      refine Q (mT G)<|Q (xG G G)<|Q (xI G G)<|Q (xB G G)<|Qa (l:=[str ([]:List UInt8),str ([]:List UInt8),i6 0]) tz35 G ?_
      intro dG ep co az db bs
      refine Qw (o:=0) (vs:=[str (((recovN ((crashN o.Log ((o.Log.Pending.length:Int)-((o.Log.Pending.length:Int) % 7)) false).1)).1).Durable),str (((recovN ((crashN o.Log ((o.Log.Pending.length:Int)-((o.Log.Pending.length:Int) % 7)) false).1)).1).Pending),i6 (((recovN ((crashN o.Log ((o.Log.Pending.length:Int)-((o.Log.Pending.length:Int) % 7)) false).1)).1).Count)]) agg35.2 G G G G bs ler G ?_
      intro ca aA de ar
      have ap:=((ao.lo ay).lo az).new aA
      refine Q (aI G)<|Q (aB G)<|Qn (Ws (Wr (Q (mI G)<|Q (lG agg35 G ar G)<|Qv ent23 (c_impl_ReplayLog ca f ((recovN ((crashN o.Log ((o.Log.Pending.length:Int)-((o.Log.Pending.length:Int) % 7)) false).1)).1) oB (hE.lo ap)) G fun cd Z du=>(Q (mT G)<|Q (xI G G)<|Q (xB G G)<|Q (aI G)<|Q (aB G)<|Qn (Ws (WJ (fun f' w'=>At f' [(2,.bool (decide ((((rplN f o.Log).2)=true)∧((((rplN f o.Log).1)=o.Log.Count)∧((((recovN ((crashN o.Log ((o.Log.Pending.length:Int)-((o.Log.Pending.length:Int) % 7)) false).1)).2.2)=true)∧((((rplN f ((recovN ((crashN o.Log ((o.Log.Pending.length:Int)-((o.Log.Pending.length:Int) % 7)) false).1)).1)).2)=true)∧(((rplN f ((recovN ((crashN o.Log ((o.Log.Pending.length:Int)-((o.Log.Pending.length:Int) % 7)) false).1)).1)).1)=(((recovN ((crashN o.Log ((o.Log.Pending.length:Int)-((o.Log.Pending.length:Int) % 7)) false).1)).1).Count))))))))]∧Lo cd w') ?_ ?_))))))
      ·refine Q (mB G)<|Q (mB G)<|SR.split (fun C=>?_) (fun C=>?_)
       ·refine Qg (mI G)<|Qg (fA fa37_1 G)<|Qg (fA fa35_2 G)<|Qg (r_ld (v:=i6 o.Log.Count) sca3 G (((((((d.lo z).lo ax).lo ay).lo az).kn aA).lo Z).cell2 G))<|Qg (r_eq G G)<|Q (pT G G)<|Q (mB G)<|QD (fun M=>?_) (fun M=>?_)
        ·refine Qg (mB G)<|Q (pT G G)<|Q (mB G)<|SR.split (fun ag=>?_) (fun ag=>?_)
         ·refine Qg (mB G)<|Q (pT G G)<|Q (mB G)<|SR.split (fun am=>?_) (fun am=>?_)
          ·refine Qg (mI G)<|Qg (fA fa35_2 G)<|Qg (lB sca3 G (ar.lo Z) G)<|Qg (r_eq G G)<|Q (pT G G)<|Q (aB G)<|Qn (⟨_,G,⟨⟨(eDD ((((jat am).trans (jat ag)).trans (jat M)).trans (jat C))),trivial⟩,(lr _)⟩⟩)
          ·refine Qs<|Qs<|Qs<|Qs<|Q (pF G G)<|Q (aB G)<|Qn (⟨_,G,⟨⟨(eDF ((((jaf (ne_true_of_eq_false am)).trans (jat ag)).trans (jat M)).trans (jat C)).2),trivial⟩,(lr _)⟩⟩)
         ·refine Qs<|Q (pF G G)<|Q (mB G)<|Qs<|Qs<|Qs<|Qs<|Q (pF G G)<|Q (aB G)<|Qn (⟨_,G,⟨⟨(eDF (((jaf (ne_true_of_eq_false ag)).trans (jat M)).trans (jat C)).2),trivial⟩,(lr _)⟩⟩)
        ·refine Qs<|Q (pF G G)<|Q (mB G)<|Qs<|Q (pF G G)<|Q (mB G)<|Qs<|Qs<|Qs<|Qs<|Q (pF G G)<|Q (aB G)<|Qn (⟨_,G,⟨⟨(eDF ((jaf M).trans (jat C)).2),trivial⟩,(lr _)⟩⟩)
       ·refine Qs<|Qs<|Qs<|Qs<|Qs<|Q (pF G G)<|Q (mB G)<|Qs<|Q (pF G G)<|Q (mB G)<|Qs<|Q (pF G G)<|Q (mB G)<|Qs<|Qs<|Qs<|Qs<|Q (pF G G)<|Q (aB G)<|Qn (⟨_,G,⟨⟨(eDF (jaf (ne_true_of_eq_false C)).2),trivial⟩,(lr _)⟩⟩)
      rintro dF eu ⟨aN,aC⟩
      rw [← sA aN]
      have dv:=aC.size
      refine We (ret1 G (v:=.bool _) G (⟨eR (eB (by first | exact decide_eq_true (his_fin (bnot_f ‹(!((newC _).2))=false›) ‹HisOK _ _›) | exact (‹¬(newC _).1=(newC _).1› G).elim)),((ap.lo Z).lo aC)⟩))
end Go.Proofs.YtndcchndcghmoaaGreatDoor
