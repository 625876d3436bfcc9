/- Words and walks of this claim. -/
import Derived.Test.YtndcchndcghmoaaGreatDoorChecked
import Derived.Test.YtndcchndcghmoaaGreatDoorMScriptd
set_option linter.unusedVariables false
namespace Go.Proofs.YtndcchndcghmoaaGreatDoor
open Go Go.RowKit Fw
set_option maxRecDepth 10000
set_option maxHeartbeats 2000000
set_option linter.unusedVariables false
variable {Ac Ax1 Ax2 : Option Addr} {nc cc Bc nx1 cx1 Bx1 nx2 cx2 Bx2 : Nat}
theorem bld102_0_2 (a0:Int) (a2:Int):Tryz.prog.built 102 [(0,i6 a0),(2,i6 a2)]=some (List.toArray [i6 a0,i6 0,i6 a2]):=by kernel_rfl
theorem ent109:Ent Tryz.prog 109:=en Tryz.func109
theorem ent58:Ent Tryz.prog 58:=en Tryz.func58
theorem ent61:Ent Tryz.prog 61:=en Tryz.func61
theorem c___spec_l1Cur__libraryStep (w:World) {gc ec:Nat} (Lc:List UInt8) (tc sc:Int) (hc:Blk w gc ec [.slice Ac nc cc,i6 tc,.int .u64 sc]) (hLc:SlR w Bc encB 1 Ac nc cc Lc) (hgc:Bc≤gc) (htc:0≤tc∧tc+20≤4611686018427387904) (x:Library) (py:SlR w Bx1 encLMap 3 Ax1 nx1 cx1 x.Maps) (pz:SlR w Bx2 encAway 2 Ax2 nx2 cx2 x.Away) (AN:nx1≤9∧nx2≤9) (xJ:MapB x.Maps) (xK:AwayB x.Away) (kx:0<nx1→¬(adr Ax1).block=gc) (ky:0<nx2→¬(adr Ax2).block=gc):Calls Tryz.prog 108 #[.pointer (some ⟨gc,0,none⟩),.agg (List.toArray (cLb Ax1 nx1 cx1 Ax2 nx2 cx2 x))] w fun e w'=>∃ (s:LibraryStep) (tc' sc':Int),e=.returned (.agg (List.toArray [i6 s.Kind,i6 s.Id,i6 s.Reader,i6 s.Value]))∧Blk w' gc ec [.slice Ac nc cc,i6 tc',.int .u64 sc']∧(tc≤tc'∧tc'≤tc+20)∧((-10000000≤s.Id∧s.Id≤10000000)∧(-10000000≤s.Reader∧s.Reader≤10000000)∧(-10000000≤s.Value∧s.Value≤10000000))∧Kp (fun b_=>b_=gc) w w':=by
 refine cW 146 Tryz.func108 G G G ?_
 have hBlc:=hc.lt
 have hbdc:=hLc.bound
 have hlec:=hLc.len
 have hBbc:=hLc.bd
 have xi:=py.bound
 have xE:=py.len
 have xe:=py.bd
 have xj:=pz.bound
 have xF:=pz.len
 have xf:=pz.bd
 refine Ws (Wr (bx G ?_))
 intro g1 w2 AM lP AO xg
 refine Qa (l:=[i6 0,i6 0,i6 0,i6 0]) tz106 G ?_
 intro u AP Al dV Aq r8
 refine Qn (Ws ?_)
 have pH:=(hLc.lo lP).lo dV
 refine Wr (Q (mP G)<|Ql (vs:=[i6 1,i6 7]) (L:=([1,7]:List Int)) (enc:=encI) tel93 (fun _=>G) G G G oG ?_)
 intro xc zE Am b6 pD
 have AA:=b6.size
 refine Qc ent58 (c___spec_l1Cur__among zE Lc tc sc (((hc.lo lP).lo dV).lo b6) (pH.lo b6) oB oB ([1,7]:List Int) (pD.rd) oB oB (show ¬xc=gc from by first | omega | (have:=pD.base_le G; omega))) G ?_
 rintro e AQ ⟨ms,pB,sg,rfl,r9,Az,sd,dz⟩
 refine ⟨_,G,?_⟩
 have AB:=dz.size
 have Ap:(1:Int)≤ms∧ms≤7:=mem_rngB (lo:=1) (hi:=7) oG sd
 refine Q (r_build (vs:=[(0,i6 ms),(2,i6 1)]) G (bld102_0_2 _ _))<|Q (r_build (vs:=[(0,i6 1),(1,i6 5)]) G (bld129_0_1 _ _))<|Qa (l:=[i6 0,i6 0,i6 0]) tz102 G ?_
 intro n AR An dA Au sa
 refine Qa (l:=[i6 0,i6 0]) tz129 G ?_
 intro F AS Ao cy Aw sb
 refine Qw (o:=0) (vs:=[i6 ms,i6 0,i6 1]) agg102.2 G G G G (sa.lo cy) ler G ?_
 intro AT cz Ax pE
 refine Qw (o:=0) (vs:=[i6 1,i6 5]) agg129.2 G G G G (sb.kn cz) ler G ?_
 intro r5 ce Ay pG
 have pC:=((((((((kr lP:Kp (fun b_=>b_=gc) w _)).lo dV).lo b6).step dz (fun i_ hi_ e'=>e')).lo dA).lo cy).new cz).new ce
 refine Qn (Ws (Ws ?_))
 have pI:=(((r9.lo dA).lo cy).kn cz).kn ce
 have l0:=(((((pH.lo b6).kn dz).lo dA).lo cy).kn cz).kn ce
 have fu:=((((((xg.lo dV).lo b6).kn dz).lo dA).lo cy).kn cz).kn ce
 have bi:=(((((((py.lo lP).lo dV).lo b6).kpb dz (fun hn_ e'=>(kx oB) e')).lo dA).lo cy).kn cz).kn ce
 have l3:=(((((((pz.lo lP).lo dV).lo b6).kpb dz (fun hn_ e'=>(ky oB) e')).lo dA).lo cy).kn cz).kn ce
 have pJ:=(((((r8.lo b6).kn dz).lo dA).lo cy).kn cz).kn ce
 refine Wr (Q (fA fa34_0 G)<|Q (lB sca31 G fu G)<|Q (r_len und31 G)<|Q (r_gt G G)<|Qn (W.thenJ (fun f' w'=>∃ g:LMap × Int × Int,At f' [(0,pt gc),(3,pt g1),(4,pt u),(5,pt n),(6,pt F)]∧(Kp (fun b_=>b_=gc) w w')∧(Blk w' gc ec [.slice Ac nc cc,i6 g.2.1,.int .u64 g.2.2])∧(SlR w' Bc encB 1 Ac nc cc Lc)∧(Blk w' g1 34 (cLb Ax1 nx1 cx1 Ax2 nx2 cx2 x))∧(SlR w' Bx1 encLMap 3 Ax1 nx1 cx1 x.Maps)∧(SlR w' Bx2 encAway 2 Ax2 nx2 cx2 x.Away)∧(Blk w' u 106 [i6 0,i6 0,i6 0,i6 0])∧(Blk w' n 102 [i6 g.1.Id,i6 g.1.Copies,i6 g.1.Torn])∧(Blk w' F 129 [i6 1,i6 5])∧(((-100000≤g.1.Id∧g.1.Id≤100000)∧(-100000≤g.1.Copies∧g.1.Copies≤100000)∧(-100000≤g.1.Torn∧g.1.Torn≤100000))∧tc≤g.2.1∧g.2.1≤tc+4)) ?_ ?_))
 ·refine Wd G (fun xd=>?_) (fun xd=>?_)
  ·refine WA (Kp (fun b_=>b_=gc∨b_=n) r5) (fun f' w'=>∃ (aj:Int) (fv:Int) (mm:Int),At f' [(0,pt gc),(3,pt g1),(4,pt u),(5,pt n),(6,pt F)]∧(Kp (fun b_=>b_=gc∨b_=n) r5 w')∧(Blk w' gc ec [.slice Ac nc cc,i6 fv,.int .u64 mm])∧(Blk w' n 102 [i6 ((gt x.Maps aj.toNat).Id),i6 ((gt x.Maps aj.toNat).Copies),i6 ((gt x.Maps aj.toNat).Torn)])∧(pB≤fv∧fv≤pB+2)∧((0:Int)≤aj∧((aj:Int)<(nx1:Int)∨(aj:Int)=0))∧(x.Maps[aj.toNat]?=some (gt x.Maps aj.toNat))∧((-100000≤(gt x.Maps aj.toNat).Id∧(gt x.Maps aj.toNat).Id≤100000)∧(-100000≤(gt x.Maps aj.toNat).Copies∧(gt x.Maps aj.toNat).Copies≤100000)∧(-100000≤(gt x.Maps aj.toNat).Torn∧(gt x.Maps aj.toNat).Torn≤100000))) mo ?_ ?_
   ·intro sj ah
    have ya:=ah.size
    refine Ak 0 G (kr ah) (fun w' hw'=>fA fa34_0 G)<|Ak 1 G (kr ah) (fun w' hw'=>lB sca31 G (fu.kp hw' (fun e'=>e'.elim (fun e'=>by have e'':g1=gc:=e'; omega) (fun e'=>by have e'':g1=n:=e'; omega))) G)<|Ak 2 G (kr ah) (fun w' hw'=>mP G)<|Ak 3 G (kr ah) (fun w' hw'=>fA fa34_0 G)<|Ak 4 G (kr ah) (fun w' hw'=>lB sca31 G (fu.kp hw' (fun e'=>e'.elim (fun e'=>by have e'':g1=gc:=e'; omega) (fun e'=>by have e'':g1=n:=e'; omega))) G)<|Ak 5 G (kr ah) (fun w' hw'=>r_len und31 G)<|Ab 6 G (Qc ent59 (c___spec_l1Cur__pick sj Lc pB sg (pI.lo ah) (l0.lo ah) oB oB (nx1:Int) oD) G ?_)
    rintro e AD ⟨dX,sh,se,rfl,p6,qQ,qM,eD⟩
    refine ⟨_,G,?_⟩
    have yb:=eD.size
    have ej:=((kr ah:Kp (fun b_=>b_=gc∨b_=n) r5 _)).step eD (fun _ _ e=>.inl e)
    refine Qn ⟨ej,_,G,?_⟩
    have gx:=((bi.lo ah).kpb eD (fun hn_ e'=>(kx oB) e')).elem (i:=dX.toNat) oB
    have qN:=MapB.at xJ gx
    refine Ak 7 G ej (fun w' hw'=>rX tsl31 (bi.kpb hw' (fun hn_ e'=>e'.elim (fun e'=>(kx oB) e') (fun e'=>by have e'':(adr Ax1).block=n:=e'; have h2:=bi.blk hn_; omega))) G G oB)<|Ak 8 G ej (fun w' hw'=>r_lda (l:=encLMap (gt x.Maps dX.toNat)) agg102 G (fun _ _ hu=>(bi.kpb hw' (fun hn_ e'=>e'.elim (fun e'=>(kx oB) e') (fun e'=>by have e'':(adr Ax1).block=n:=e'; have h2:=bi.blk hn_; omega))).cell gx hu) ((bi.kpb hw' (fun hn_ e'=>e'.elim (fun e'=>(kx oB) e') (fun e'=>by have e'':(adr Ax1).block=n:=e'; have h2:=bi.blk hn_; omega))).esz _))<|Ab 9 G (Qw (o:=0) (vs:=[i6 ((gt x.Maps dX.toNat).Id),i6 ((gt x.Maps dX.toNat).Copies),i6 ((gt x.Maps dX.toNat).Torn)]) agg102.2 G G G G (((pE.kn ce).lo ah).kn eD) ler G ?_)
    intro AE lN xT p7
    have k1:=ej.step lN (fun _ _ e=>.inr e)
    refine Qn ⟨k1,_,G,(Ad oC (⟨dX,sh,se,(At.r G),k1,(p6.kn lN),p7,qQ,qM,gx,qN⟩))⟩
   rintro Af AF ⟨aj,fv,mm,nl,aJ,qn,qo,xV,xM,xZ,xN⟩
   rw [← sA nl]
   have yc:=aJ.size
   exact ⟨_,G,((gt x.Maps aj.toNat),fv,mm),(At.r G),(pC.step aJ (fun i_ hi_ e'=>e'.elim (fun e'=>e') (fun e'=>by have e'':i_=n:=e'; omega))),qn,l0.kp aJ (fun b_ hb e'=>e'.elim (fun e'=>by have e'':b_=gc:=e'; omega) (fun e'=>by have e'':b_=n:=e'; omega)),fu.kp aJ (fun e'=>e'.elim (fun e'=>by have e'':g1=gc:=e'; omega) (fun e'=>by have e'':g1=n:=e'; omega)),bi.kpb aJ (fun hn_ e'=>e'.elim (fun e'=>(kx oB) e') (fun e'=>by have e'':(adr Ax1).block=n:=e'; have h2:=bi.blk hn_; omega)),l3.kpb aJ (fun hn_ e'=>e'.elim (fun e'=>(ky oB) e') (fun e'=>by have e'':(adr Ax2).block=n:=e'; have h2:=l3.blk hn_; omega)),pJ.kp aJ (fun e'=>e'.elim (fun e'=>by have e'':u=gc:=e'; omega) (fun e'=>by have e'':u=n:=e'; omega)),qo,pG.kp aJ (fun e'=>e'.elim (fun e'=>by have e'':F=gc:=e'; omega) (fun e'=>by have e'':F=n:=e'; omega)),oF⟩
  ·refine Wk (⟨_,G,((⟨ms,0,1⟩:LMap),pB,sg),(At.r G),pC,pI,l0,fu,bi,l3,pJ,(pE.kn ce),pG,oF⟩)
 rintro Ah aG ⟨⟨m,t,z⟩,nn,p4⟩
 rw [← sA nn]
 obtain ⟨fY,fZ,f0,eP,xH,bm,f4,f5,f6,xr⟩:(Kp (fun b_=>b_=gc) w aG)∧(Blk aG gc ec [.slice Ac nc cc,i6 t,.int .u64 z])∧(SlR aG Bc encB 1 Ac nc cc Lc)∧(Blk aG g1 34 (cLb Ax1 nx1 cx1 Ax2 nx2 cx2 x))∧(SlR aG Bx1 encLMap 3 Ax1 nx1 cx1 x.Maps)∧(SlR aG Bx2 encAway 2 Ax2 nx2 cx2 x.Away)∧(Blk aG u 106 [i6 0,i6 0,i6 0,i6 0])∧(Blk aG n 102 [i6 m.Id,i6 m.Copies,i6 m.Torn])∧(Blk aG F 129 [i6 1,i6 5])∧(((-100000≤m.Id∧m.Id≤100000)∧(-100000≤m.Copies∧m.Copies≤100000)∧(-100000≤m.Torn∧m.Torn≤100000))∧tc≤t∧t≤tc+4):=p4
 have wv:=fY.size
 have xu:=fZ.lt
 have xv:=eP.lt
 have xw:=f4.lt
 have xx:=f5.lt
 have xy:=f6.lt
 refine Ws (Ws (Wr (Q (fA fa34_1 G)<|Q (lB sca32 G eP G)<|Q (r_len und32 G)<|Q (r_gt G G)<|Qn (W.thenJ (fun f' w'=>∃ g:Away × Int × Int,At f' [(0,pt gc),(4,pt u),(5,pt n),(6,pt F)]∧(Kp (fun b_=>b_=gc) w w')∧(Blk w' gc ec [.slice Ac nc cc,i6 g.2.1,.int .u64 g.2.2])∧(SlR w' Bc encB 1 Ac nc cc Lc)∧(Blk w' u 106 [i6 0,i6 0,i6 0,i6 0])∧(Blk w' n 102 [i6 m.Id,i6 m.Copies,i6 m.Torn])∧(Blk w' F 129 [i6 g.1.Map,i6 g.1.Reader])∧(((-100000≤g.1.Map∧g.1.Map≤100000)∧(-100000≤g.1.Reader∧g.1.Reader≤100000))∧tc≤g.2.1∧g.2.1≤tc+6)) ?_ ?_))))
 ·refine Wd G (fun r6=>?_) (fun r6=>?_)
  ·refine WA (Kp (fun b_=>b_=gc∨b_=F) aG) (fun f' w'=>∃ (aw:Int) (fw:Int) (mp:Int),At f' [(0,pt gc),(4,pt u),(5,pt n),(6,pt F)]∧(Kp (fun b_=>b_=gc∨b_=F) aG w')∧(Blk w' gc ec [.slice Ac nc cc,i6 fw,.int .u64 mp])∧(Blk w' F 129 [i6 ((gt x.Away aw.toNat).Map),i6 ((gt x.Away aw.toNat).Reader)])∧(t≤fw∧fw≤t+2)∧((0:Int)≤aw∧((aw:Int)<(nx2:Int)∨(aw:Int)=0))∧(x.Away[aw.toNat]?=some (gt x.Away aw.toNat))∧((-100000≤(gt x.Away aw.toNat).Map∧(gt x.Away aw.toNat).Map≤100000)∧(-100000≤(gt x.Away aw.toNat).Reader∧(gt x.Away aw.toNat).Reader≤100000))) mo ?_ ?_
   ·intro sk ai
    have yd:=ai.size
    refine Ak 0 G (kr ai) (fun w' hw'=>fA fa34_1 G)<|Ak 1 G (kr ai) (fun w' hw'=>lB sca32 G (eP.kp hw' (fun e'=>e'.elim (fun e'=>by have e'':g1=gc:=e'; omega) (fun e'=>by have e'':g1=F:=e'; omega))) G)<|Ak 2 G (kr ai) (fun w' hw'=>mP G)<|Ak 3 G (kr ai) (fun w' hw'=>fA fa34_1 G)<|Ak 4 G (kr ai) (fun w' hw'=>lB sca32 G (eP.kp hw' (fun e'=>e'.elim (fun e'=>by have e'':g1=gc:=e'; omega) (fun e'=>by have e'':g1=F:=e'; omega))) G)<|Ak 5 G (kr ai) (fun w' hw'=>r_len und32 G)<|Ab 6 G (Qc ent59 (c___spec_l1Cur__pick sk Lc t z (fZ.lo ai) (f0.lo ai) oB oB (nx2:Int) oD) G ?_)
    rintro e AG ⟨fy,si,sf,rfl,p8,qR,qO,eJ⟩
    refine ⟨_,G,?_⟩
    have ye:=eJ.size
    have ep:=((kr ai:Kp (fun b_=>b_=gc∨b_=F) aG _)).step eJ (fun _ _ e=>.inl e)
    refine Qn ⟨ep,_,G,?_⟩
    have gy:=((bm.lo ai).kpb eJ (fun hn_ e'=>(ky oB) e')).elem (i:=fy.toNat) oB
    have qP:=AwayB.at xK gy
    refine Ak 7 G ep (fun w' hw'=>rX tsl32 (bm.kpb hw' (fun hn_ e'=>e'.elim (fun e'=>(ky oB) e') (fun e'=>by have e'':(adr Ax2).block=F:=e'; have h2:=bm.blk hn_; omega))) G G oB)<|Ak 8 G ep (fun w' hw'=>r_lda (l:=encAway (gt x.Away fy.toNat)) agg129 G (fun _ _ hu=>(bm.kpb hw' (fun hn_ e'=>e'.elim (fun e'=>(ky oB) e') (fun e'=>by have e'':(adr Ax2).block=F:=e'; have h2:=bm.blk hn_; omega))).cell gy hu) ((bm.kpb hw' (fun hn_ e'=>e'.elim (fun e'=>(ky oB) e') (fun e'=>by have e'':(adr Ax2).block=F:=e'; have h2:=bm.blk hn_; omega))).esz _))<|Ab 9 G (Qw (o:=0) (vs:=[i6 ((gt x.Away fy.toNat).Map),i6 ((gt x.Away fy.toNat).Reader)]) agg129.2 G G G G ((f6.lo ai).kn eJ) ler G ?_)
    intro AI lO xU p9
    have k3:=ep.step lO (fun _ _ e=>.inr e)
    refine Qn ⟨k3,_,G,(Ad oC (⟨fy,si,sf,(At.r G),k3,(p8.kn lO),p9,qR,qO,gy,qP⟩))⟩
   rintro Ai AJ ⟨aw,fw,mp,np,dy,qp,qq,xW,xO,x9,xP⟩
   rw [← sA np]
   have yf:=dy.size
   exact ⟨_,G,((gt x.Away aw.toNat),fw,mp),(At.r G),(fY.step dy (fun i_ hi_ e'=>e'.elim (fun e'=>e') (fun e'=>by have e'':i_=F:=e'; omega))),qp,f0.kp dy (fun b_ hb e'=>e'.elim (fun e'=>by have e'':b_=gc:=e'; omega) (fun e'=>by have e'':b_=F:=e'; omega)),f4.kp dy (fun e'=>e'.elim (fun e'=>by have e'':u=gc:=e'; omega) (fun e'=>by have e'':u=F:=e'; omega)),f5.kp dy (fun e'=>e'.elim (fun e'=>by have e'':n=gc:=e'; omega) (fun e'=>by have e'':n=F:=e'; omega)),qq,oF⟩
  ·refine Wk (⟨_,G,((⟨1,5⟩:Away),t,z),(At.r G),fY,fZ,f0,f4,f5,f6,oF⟩)
 rintro Aj dS ⟨⟨a,t2,z2⟩,nq,p5⟩
 rw [← sA nq]
 obtain ⟨kZ,lQ,O,P,f7,lR,xt⟩:(Kp (fun b_=>b_=gc) w dS)∧(Blk dS gc ec [.slice Ac nc cc,i6 t2,.int .u64 z2])∧(SlR dS Bc encB 1 Ac nc cc Lc)∧(Blk dS u 106 [i6 0,i6 0,i6 0,i6 0])∧(Blk dS n 102 [i6 m.Id,i6 m.Copies,i6 m.Torn])∧(Blk dS F 129 [i6 a.Map,i6 a.Reader])∧(((-100000≤a.Map∧a.Map≤100000)∧(-100000≤a.Reader∧a.Reader≤100000))∧tc≤t2∧t2≤tc+6):=p5
 have ww:=kZ.size
 have xz:=lQ.lt
 have xA:=P.lt
 have xC:=f7.lt
 have xD:=lR.lt
 refine Ws (Ws (Wr (Q (mP G)<|Qc ent61 (c___spec_l1Cur__one dS Lc t2 z2 lQ O oB oB 40 oD) G ?_)))
 rintro e f ⟨AC,A,V,rfl,X,xX,v⟩
 refine ⟨_,G,?_⟩
 have yg:=v.size
 have k0:=kZ.step v (fun i_ hi_ e'=>e')
 refine Qn (Wb G (fun r7=>?_) (fun r7=>?_))
 ·refine Ws (WA (Kp (fun b_=>b_=gc∨b_=u) f) (fun f' w'=>∃ (b:Nat) (am:Int) (aF:Int) (dW:Int) (dt:Nat) (dY:Int) (fx:Int) (mq:Int) (c:Int) (d:Int) (q:Int) (y:Nat) (B:Int) (H:Int) (aa:Int) (ab:Nat),At f' [(0,pt gc),(4,pt u),(5,pt n),(6,pt F)]∧(Kp (fun b_=>b_=gc∨b_=u) f w')∧(Blk w' gc ec [.slice Ac nc cc,i6 fx,.int .u64 mq])∧(Blk w' u 106 [i6 c,i6 B,i6 am,i6 dY])∧(A≤d∧d≤A+2)∧(c∈([0,8,2]:List Int))∧((0:Int)≤c∧c≤8)∧(d≤H∧H≤d+2)∧(B∈([0,m.Id,100]:List Int))∧((B:Int)=0∨(B:Int)=m.Id∨(B:Int)=100)∧(H≤aF∧aF≤H+2)∧(am∈([0,5]:List Int))∧((0:Int)≤am∧am≤5)∧(aF≤fx∧fx≤aF+2)∧(dY∈([0,1,(-1)]:List Int))∧(((-1):Int)≤dY∧dY≤1)) mo ?_ ?_)
  ·intro yh j
   have uj:=j.size
   refine Av #[true,true,true,true,true,true,true,true,true,true,true,true,true,false,false,false] 3 (fun f' w'=>∃ (b:Nat) (am:Int) (aF:Int) (dW:Int) (dt:Nat) (c:Int) (d:Int) (q:Int) (y:Nat) (B:Int) (H:Int) (aa:Int) (ab:Nat),At f' [(0,pt gc),(4,pt u),(5,pt n),(6,pt F),(42,i6 c),(47,i6 B),(50,i6 am),(51,pt gc),(52,.slice (pA dt) 3 3)]∧(Kp (fun b_=>b_=gc∨b_=u) f w')∧(SlO w' f.heap.size encI 1 3 (pA dt) 3 3 ([0,1,(-1)]:List Int))∧(Blk w' gc ec [.slice Ac nc cc,i6 aF,.int .u64 dW])∧(Blk w' u 106 [i6 0,i6 0,i6 0,i6 0])∧(A≤d∧d≤A+2)∧(c∈([0,8,2]:List Int))∧((0:Int)≤c∧c≤8)∧(d≤H∧H≤d+2)∧(B∈([0,m.Id,100]:List Int))∧((B:Int)=0∨(B:Int)=m.Id∨(B:Int)=100)∧(H≤aF∧aF≤H+2)∧(am∈([0,5]:List Int))∧((0:Int)≤am∧am≤5)) ?_ (fun jU=>?_)
   ·rintro wy rC ⟨b,am,aF,dW,dt,c,d,q,y,B,H,aa,ab,k4,d6,lU,qr,qt,E,C,D,aE,aC,aD,mj,mh,mi⟩
    rw [← sA k4]
    have uk:=d6.size
    refine Ab 13 G (Qc ent58 (c___spec_l1Cur__among rC Lc aF dW qr ((O.kn v).kp d6 (fun b_ hb e'=>e'.elim (fun e'=>by have e'':b_=gc:=e'; omega) (fun e'=>by have e'':b_=u:=e'; omega))) oB oB ([0,1,(-1)]:List Int) (lU.rd) oB oB (show ¬dt=gc from by first | omega | (have:=lU.base_le G; omega))) G ?_)
    rintro e yi ⟨dJ,rf,qS,rfl,nr,o9,j6,ey⟩
    refine ⟨_,G,?_⟩
    have ul:=ey.size
    have eh:=d6.step ey (fun _ _ e=>.inl e)
    have ol:((-1):Int)≤dJ∧dJ≤1:=mem_rngB (lo:=(-1)) (hi:=1) oG j6
    refine Qn ⟨eh,_,G,(Ak 14 G eh (fun w' hw'=>r_build (vs:=[(0,i6 c),(1,i6 B),(2,i6 am),(3,i6 dJ)]) G (bld106_0_1_2_3 _ _ _ _))<|Ab 15 G (Qw (o:=0) (vs:=[i6 c,i6 B,i6 am,i6 dJ]) agg106.2 G G G G (qt.kn ey) ler G ?_))⟩
    intro yj jC tV ns
    have hY:=eh.step jC (fun _ _ e=>.inr e)
    refine Qn ⟨hY,_,G,(Ad oC (⟨b,am,aF,dW,dt,dJ,rf,qS,c,d,q,y,B,H,aa,ab,(At.r G),hY,(nr.kn jC),ns,E,C,D,aE,aC,aD,mj,mh,mi,o9,j6,ol⟩))⟩
   refine Av #[true,true,true,true,true,true,true,true,true,true,false,true,true,false,false,false] 4 (fun f' w'=>∃ (b:Nat) (fr:Nat) (c:Int) (d:Int) (q:Int) (y:Nat) (B:Int) (H:Int) (aa:Int) (ab:Nat),At f' [(0,pt gc),(4,pt u),(5,pt n),(6,pt F),(42,i6 c),(47,i6 B),(48,pt gc),(49,.slice (pA ab) 2 2),(51,pt gc),(52,.slice (pA fr) 3 3)]∧(Kp (fun b_=>b_=gc∨b_=u) f w')∧(SlO w' f.heap.size encI 1 3 (pA fr) 3 3 ([0,1,(-1)]:List Int))∧(SlO w' f.heap.size encI 1 3 (pA ab) 2 2 ([0,5]:List Int))∧(Blk w' gc ec [.slice Ac nc cc,i6 H,.int .u64 aa])∧(Blk w' u 106 [i6 0,i6 0,i6 0,i6 0])∧(∀ b_,(pA fr)=some ⟨b_,0,none⟩→¬(pA ab)=some ⟨b_,0,none⟩)∧(A≤d∧d≤A+2)∧(c∈([0,8,2]:List Int))∧((0:Int)≤c∧c≤8)∧(d≤H∧H≤d+2)∧(B∈([0,m.Id,100]:List Int))∧((B:Int)=0∨(B:Int)=m.Id∨(B:Int)=100)) ?_ (fun fa=>?_)
   ·rintro wz rD ⟨b,fr,c,d,q,y,B,H,aa,ab,k5,d7,qw,lV,qx,qy,xk,E,C,D,aE,aC,aD⟩
    rw [← sA k5]
    have um:=d7.size
    refine Ab 10 G (Qc ent58 (c___spec_l1Cur__among rD Lc H aa qx ((O.kn v).kp d7 (fun b_ hb e'=>e'.elim (fun e'=>by have e'':b_=gc:=e'; omega) (fun e'=>by have e'':b_=u:=e'; omega))) oB oB ([0,5]:List Int) (lV.rd) oB oB (show ¬ab=gc from by first | omega | (have:=lV.base_le G; omega))) G ?_)
    rintro e yk ⟨gH,rg,qT,rfl,nt,pb,j7,cK⟩
    refine ⟨_,G,?_⟩
    have un:=cK.size
    have hZ:=d7.step cK (fun _ _ e=>.inl e)
    have om:(0:Int)≤gH∧gH≤5:=mem_rngB (lo:=0) (hi:=5) oG j7
    refine Qn ⟨hZ,_,G,(Ag oC G (jU _ _ (⟨b,gH,rg,qT,fr,c,d,q,y,B,H,aa,ab,(At.r G),hZ,((qw.kn cK).down),nt,(qy.kn cK),E,C,D,aE,aC,aD,pb,j7,om⟩)))⟩
   refine Av #[true,true,true,true,true,true,true,true,true,true,false,true,false,false,false,false] 5 (fun f' w'=>∃ (b:Nat) (c:Int) (d:Int) (q:Int) (y:Nat) (B:Int) (H:Int) (aa:Int) (ab:Nat),At f' [(0,pt gc),(4,pt u),(5,pt n),(6,pt F),(42,i6 c),(47,i6 B),(48,pt gc),(49,.slice (pA ab) 2 2),(51,pt gc)]∧(Kp (fun b_=>b_=gc∨b_=u) f w')∧(SlO w' f.heap.size encI 1 3 (pA ab) 2 2 ([0,5]:List Int))∧(Blk w' gc ec [.slice Ac nc cc,i6 H,.int .u64 aa])∧(Blk w' u 106 [i6 0,i6 0,i6 0,i6 0])∧(A≤d∧d≤A+2)∧(c∈([0,8,2]:List Int))∧((0:Int)≤c∧c≤8)∧(d≤H∧H≤d+2)∧(B∈([0,m.Id,100]:List Int))∧((B:Int)=0∨(B:Int)=m.Id∨(B:Int)=100)) ?_ (fun jV=>?_)
   ·rintro wA rE ⟨b,c,d,q,y,B,H,aa,ab,k6,cA,eU,lS,lT,E,C,D,aE,aC,aD⟩
    rw [← sA k6]
    have uo:=cA.size
    refine Ar [10,12] oC G ⟨Bm G trivial ?_,Bm G trivial ?_,trivial⟩
    ·refine Qc ent58 (c___spec_l1Cur__among rE Lc H aa lS ((O.kn v).kp cA (fun b_ hb e'=>e'.elim (fun e'=>by have e'':b_=gc:=e'; omega) (fun e'=>by have e'':b_=u:=e'; omega))) oB oB ([0,5]:List Int) (eU.rd) oB oB (show ¬ab=gc from by first | omega | (have:=eU.base_le G; omega))) G ?_
     rintro e yl ⟨gI,rh,qU,rfl,nu,pc,j8,ez⟩
     refine ⟨_,G,?_⟩
     have uq:=ez.size
     have ia:=cA.step ez (fun _ _ e=>.inl e)
     have oo:(0:Int)≤gI∧gI≤5:=mem_rngB (lo:=0) (hi:=5) oG j8
     refine Qn ⟨ia,_,G,(Ab 12 G (Ql (vs:=[i6 0,i6 1,i6 (-1)]) (L:=([0,1,(-1)]:List Int)) (enc:=encI) tel93 (fun _=>G) G G G oG ?_))⟩
     intro pK ym sl cM mu
     have ur:=cM.size
     have ib:=ia.lo cM
     refine Qn ⟨ib,_,G,(Ag oC G (jU _ _ (⟨b,gI,rh,qU,pK,c,d,q,y,B,H,aa,ab,(At.r G),ib,(mu.down),(nu.lo cM),((lT.kn ez).lo cM),E,C,D,aE,aC,aD,pc,j8,oo⟩)))⟩
    ·refine Ql (vs:=[i6 0,i6 1,i6 (-1)]) (L:=([0,1,(-1)]:List Int)) (enc:=encI) tel93 (fun _=>G) G G G oG ?_
     intro kz yo sm bB mv
     have us:=bB.size
     have ic:=cA.lo bB
     refine Qn ⟨ic,_,G,(Ag oC G (fa _ _ (⟨b,kz,c,d,q,y,B,H,aa,ab,(At.r G),ic,(mv.down),((eU.lo bB).down),(lS.lo bB),(lT.lo bB),(fun b_ h h'=>(nE (g:=kz) eU) (h'.trans h.symm)),E,C,D,aE,aC,aD⟩)))⟩
   refine Av #[true,true,true,true,true,true,true,true,true,false,false,true,true,false,false,false] 5 (fun f' w'=>∃ (b:Nat) (gS:Nat) (c:Int) (d:Int) (q:Int) (y:Nat) (B:Int) (H:Int) (aa:Int),At f' [(0,pt gc),(4,pt u),(5,pt n),(6,pt F),(42,i6 c),(47,i6 B),(48,pt gc),(51,pt gc),(52,.slice (pA gS) 3 3)]∧(Kp (fun b_=>b_=gc∨b_=u) f w')∧(SlO w' f.heap.size encI 1 3 (pA gS) 3 3 ([0,1,(-1)]:List Int))∧(Blk w' gc ec [.slice Ac nc cc,i6 H,.int .u64 aa])∧(Blk w' u 106 [i6 0,i6 0,i6 0,i6 0])∧(A≤d∧d≤A+2)∧(c∈([0,8,2]:List Int))∧((0:Int)≤c∧c≤8)∧(d≤H∧H≤d+2)∧(B∈([0,m.Id,100]:List Int))∧((B:Int)=0∨(B:Int)=m.Id∨(B:Int)=100)) ?_ (fun jW=>?_)
   ·rintro wB yp ⟨b,gS,c,d,q,y,B,H,aa,k7,g7,lW,qz,qA,E,C,D,aE,aC,aD⟩
    rw [← sA k7]
    have ut:=g7.size
    refine Ab 9 G (Ql (vs:=[i6 0,i6 5]) (L:=([0,5]:List Int)) (enc:=encI) tel93 (fun _=>G) G G G oG ?_)
    intro kA yq sn bC mw
    have uu:=bC.size
    have ie:=g7.lo bC
    refine Qn ⟨ie,_,G,(Ag oC G (fa _ _ (⟨b,gS,c,d,q,y,B,H,aa,kA,(At.r G),ie,((lW.lo bC).down),(mw.down),(qz.lo bC),(qA.lo bC),(fun b_ h h'=>(nE (g:=kA) lW) (h.trans h'.symm)),E,C,D,aE,aC,aD⟩)))⟩
   refine Av #[true,true,true,true,true,true,true,false,true,true,false,true,true,false,false,false] 5 (fun f' w'=>∃ (b:Nat) (dT:Nat) (c:Int) (d:Int) (q:Int) (y:Nat) (au:Nat),At f' [(0,pt gc),(4,pt u),(5,pt n),(6,pt F),(42,i6 c),(43,pt gc),(46,.slice (pA y) 3 3),(48,pt gc),(49,.slice (pA au) 2 2),(51,pt gc),(52,.slice (pA dT) 3 3)]∧(Kp (fun b_=>b_=gc∨b_=u) f w')∧(SlO w' f.heap.size encI 1 3 (pA dT) 3 3 ([0,1,(-1)]:List Int))∧(SlO w' f.heap.size encI 1 3 (pA y) 3 3 ([0,m.Id,100]:List Int))∧(SlO w' f.heap.size encI 1 3 (pA au) 2 2 ([0,5]:List Int))∧(Blk w' gc ec [.slice Ac nc cc,i6 d,.int .u64 q])∧(Blk w' u 106 [i6 0,i6 0,i6 0,i6 0])∧(∀ b_,(pA dT)=some ⟨b_,0,none⟩→¬(pA y)=some ⟨b_,0,none⟩)∧(∀ b_,(pA dT)=some ⟨b_,0,none⟩→¬(pA au)=some ⟨b_,0,none⟩)∧(∀ b_,(pA y)=some ⟨b_,0,none⟩→¬(pA au)=some ⟨b_,0,none⟩)∧(A≤d∧d≤A+2)∧(c∈([0,8,2]:List Int))∧((0:Int)≤c∧c≤8)) ?_ (fun dp=>?_)
   ·rintro wC rF ⟨b,dT,c,d,q,y,au,k8,d8,qB,lZ,qC,qD,qE,xl,qb,xm,E,C,D⟩
    rw [← sA k8]
    have uv:=d8.size
    refine Ab 7 G (Qc ent58 (c___spec_l1Cur__among rF Lc d q qD ((O.kn v).kp d8 (fun b_ hb e'=>e'.elim (fun e'=>by have e'':b_=gc:=e'; omega) (fun e'=>by have e'':b_=u:=e'; omega))) oB oB ([0,m.Id,100]:List Int) (lZ.rd) oB oB (show ¬y=gc from by first | omega | (have:=lZ.base_le G; omega))) G ?_)
    rintro e yr ⟨fm,ri,qV,rfl,nv,pd,j9,bD⟩
    refine ⟨_,G,?_⟩
    have uw:=bD.size
    have ig:=d8.step bD (fun _ _ e=>.inl e)
    have ot:(fm:Int)=0∨(fm:Int)=m.Id∨(fm:Int)=100:=by simpa only [List.mem_cons,List.not_mem_nil,or_false] using j9
    refine Qn ⟨ig,_,G,(Ag oC G (fa _ _ (⟨b,dT,c,d,q,y,fm,ri,qV,au,(At.r G),ig,((qB.kn bD).down),((qC.kn bD).down),nv,(qE.kn bD),qb,E,C,D,pd,j9,ot⟩)))⟩
   refine Av #[true,true,true,true,true,true,true,false,true,true,false,true,false,false,false,false] 6 (fun f' w'=>∃ (b:Nat) (c:Int) (d:Int) (q:Int) (y:Nat) (au:Nat),At f' [(0,pt gc),(4,pt u),(5,pt n),(6,pt F),(42,i6 c),(43,pt gc),(46,.slice (pA y) 3 3),(48,pt gc),(49,.slice (pA au) 2 2),(51,pt gc)]∧(Kp (fun b_=>b_=gc∨b_=u) f w')∧(SlO w' f.heap.size encI 1 3 (pA y) 3 3 ([0,m.Id,100]:List Int))∧(SlO w' f.heap.size encI 1 3 (pA au) 2 2 ([0,5]:List Int))∧(Blk w' gc ec [.slice Ac nc cc,i6 d,.int .u64 q])∧(Blk w' u 106 [i6 0,i6 0,i6 0,i6 0])∧(∀ b_,(pA y)=some ⟨b_,0,none⟩→¬(pA au)=some ⟨b_,0,none⟩)∧(A≤d∧d≤A+2)∧(c∈([0,8,2]:List Int))∧((0:Int)≤c∧c≤8)) ?_ (fun fb=>?_)
   ·rintro wD rG ⟨b,c,d,q,y,au,k9,cB,eW,gb,lX,lY,qa,E,C,D⟩
    rw [← sA k9]
    have ux:=cB.size
    refine Ar [7,12] oC G ⟨Bm G trivial ?_,Bm G trivial ?_,trivial⟩
    ·refine Qc ent58 (c___spec_l1Cur__among rG Lc d q lX ((O.kn v).kp cB (fun b_ hb e'=>e'.elim (fun e'=>by have e'':b_=gc:=e'; omega) (fun e'=>by have e'':b_=u:=e'; omega))) oB oB ([0,m.Id,100]:List Int) (eW.rd) oB oB (show ¬y=gc from by first | omega | (have:=eW.base_le G; omega))) G ?_
     rintro e ys ⟨fo,rj,qW,rfl,nw,pf,ka,cN⟩
     refine ⟨_,G,?_⟩
     have uy:=cN.size
     have ii:=cB.step cN (fun _ _ e=>.inl e)
     have ou:(fo:Int)=0∨(fo:Int)=m.Id∨(fo:Int)=100:=by simpa only [List.mem_cons,List.not_mem_nil,or_false] using ka
     refine Qn ⟨ii,_,G,(Ag oC G (jV _ _ (⟨b,c,d,q,y,fo,rj,qW,au,(At.r G),ii,((gb.kn cN).down),nw,(lY.kn cN),E,C,D,pf,ka,ou⟩)))⟩
    ·refine Ql (vs:=[i6 0,i6 1,i6 (-1)]) (L:=([0,1,(-1)]:List Int)) (enc:=encI) tel93 (fun _=>G) G G G oG ?_
     intro fz yt so aQ mx
     have uz:=aQ.size
     have ij:=cB.lo aQ
     refine Qn ⟨ij,_,G,(Ag oC G (dp _ _ (⟨b,fz,c,d,q,y,au,(At.r G),ij,(mx.down),((eW.lo aQ).down),((gb.lo aQ).down),(lX.lo aQ),(lY.lo aQ),(fun b_ h h'=>(nE (g:=fz) eW) (h'.trans h.symm)),(fun b_ h h'=>(nE (g:=fz) gb) (h'.trans h.symm)),qa,E,C,D⟩)))⟩
   refine Av #[true,true,true,true,true,true,true,false,true,false,false,true,true,false,false,false] 6 (fun f' w'=>∃ (b:Nat) (dU:Nat) (c:Int) (d:Int) (q:Int) (y:Nat),At f' [(0,pt gc),(4,pt u),(5,pt n),(6,pt F),(42,i6 c),(43,pt gc),(46,.slice (pA y) 3 3),(48,pt gc),(51,pt gc),(52,.slice (pA dU) 3 3)]∧(Kp (fun b_=>b_=gc∨b_=u) f w')∧(SlO w' f.heap.size encI 1 3 (pA dU) 3 3 ([0,1,(-1)]:List Int))∧(SlO w' f.heap.size encI 1 3 (pA y) 3 3 ([0,m.Id,100]:List Int))∧(Blk w' gc ec [.slice Ac nc cc,i6 d,.int .u64 q])∧(Blk w' u 106 [i6 0,i6 0,i6 0,i6 0])∧(∀ b_,(pA dU)=some ⟨b_,0,none⟩→¬(pA y)=some ⟨b_,0,none⟩)∧(A≤d∧d≤A+2)∧(c∈([0,8,2]:List Int))∧((0:Int)≤c∧c≤8)) ?_ (fun fc=>?_)
   ·rintro wE rH ⟨b,dU,c,d,q,y,lc,cC,gf,eX,l1,l2,qc,E,C,D⟩
    rw [← sA lc]
    have uA:=cC.size
    refine Ar [7,9] oC G ⟨Bm G trivial ?_,Bm G trivial ?_,trivial⟩
    ·refine Qc ent58 (c___spec_l1Cur__among rH Lc d q l1 ((O.kn v).kp cC (fun b_ hb e'=>e'.elim (fun e'=>by have e'':b_=gc:=e'; omega) (fun e'=>by have e'':b_=u:=e'; omega))) oB oB ([0,m.Id,100]:List Int) (eX.rd) oB oB (show ¬y=gc from by first | omega | (have:=eX.base_le G; omega))) G ?_
     rintro e yu ⟨fp,rk,qX,rfl,nx,pg,kb,cO⟩
     refine ⟨_,G,?_⟩
     have uB:=cO.size
     have ik:=cC.step cO (fun _ _ e=>.inl e)
     have ov:(fp:Int)=0∨(fp:Int)=m.Id∨(fp:Int)=100:=by simpa only [List.mem_cons,List.not_mem_nil,or_false] using kb
     refine Qn ⟨ik,_,G,(Ag oC G (jW _ _ (⟨b,dU,c,d,q,y,fp,rk,qX,(At.r G),ik,((gf.kn cO).down),nx,(l2.kn cO),E,C,D,pg,kb,ov⟩)))⟩
    ·refine Ql (vs:=[i6 0,i6 5]) (L:=([0,5]:List Int)) (enc:=encI) tel93 (fun _=>G) G G G oG ?_
     intro fB yv sq aR my
     have uC:=aR.size
     have il:=cC.lo aR
     refine Qn ⟨il,_,G,(Ag oC G (dp _ _ (⟨b,dU,c,d,q,y,fB,(At.r G),il,((gf.lo aR).down),((eX.lo aR).down),(my.down),(l1.lo aR),(l2.lo aR),qc,(fun b_ h h'=>(nE (g:=fB) gf) (h.trans h'.symm)),(fun b_ h h'=>(nE (g:=fB) eX) (h.trans h'.symm)),E,C,D⟩)))⟩
   refine Av #[true,true,true,true,true,true,false,false,true,true,false,true,true,false,false,false] 6 (fun f' w'=>∃ (b:Nat) (fs:Nat) (c:Int) (d:Int) (q:Int) (aH:Nat),At f' [(0,pt gc),(4,pt u),(5,pt n),(6,pt F),(42,i6 c),(43,pt gc),(45,i6 m.Id),(48,pt gc),(49,.slice (pA aH) 2 2),(51,pt gc),(52,.slice (pA fs) 3 3)]∧(Kp (fun b_=>b_=gc∨b_=u) f w')∧(SlO w' f.heap.size encI 1 3 (pA fs) 3 3 ([0,1,(-1)]:List Int))∧(SlO w' f.heap.size encI 1 3 (pA aH) 2 2 ([0,5]:List Int))∧(Blk w' gc ec [.slice Ac nc cc,i6 d,.int .u64 q])∧(Blk w' u 106 [i6 0,i6 0,i6 0,i6 0])∧(∀ b_,(pA fs)=some ⟨b_,0,none⟩→¬(pA aH)=some ⟨b_,0,none⟩)∧(A≤d∧d≤A+2)∧(c∈([0,8,2]:List Int))∧((0:Int)≤c∧c≤8)) ?_ (fun fd=>?_)
   ·rintro wF yw ⟨b,fs,c,d,q,aH,ld,g8,l6,l7,qF,qG,qd,E,C,D⟩
    rw [← sA ld]
    have uD:=g8.size
    refine Ab 6 G (Ql (vs:=[i6 0,i6 m.Id,i6 100]) (L:=([0,m.Id,100]:List Int)) (enc:=encI) tel93 (fun _=>G) G G G oG ?_)
    intro fC yx sr aT mz
    have uE:=aT.size
    have im:=g8.lo aT
    refine Qn ⟨im,_,G,(Ag oC G (dp _ _ (⟨b,fs,c,d,q,fC,aH,(At.r G),im,((l6.lo aT).down),(mz.down),((l7.lo aT).down),(qF.lo aT),(qG.lo aT),(fun b_ h h'=>(nE (g:=fC) l6) (h.trans h'.symm)),qd,(fun b_ h h'=>(nE (g:=fC) l7) (h'.trans h.symm)),E,C,D⟩)))⟩
   refine Av #[true,true,false,true,true,true,true,false,true,true,false,true,true,false,false,false] 6 (fun f' w'=>∃ (b:Nat) (du:Nat) (J:Nat) (ak:Nat),At f' [(0,pt gc),(4,pt u),(5,pt n),(6,pt F),(40,pt gc),(41,.slice (pA b) 3 3),(43,pt gc),(46,.slice (pA J) 3 3),(48,pt gc),(49,.slice (pA ak) 2 2),(51,pt gc),(52,.slice (pA du) 3 3)]∧(Kp (fun b_=>b_=gc∨b_=u) f w')∧(SlO w' f.heap.size encI 1 3 (pA b) 3 3 ([0,8,2]:List Int))∧(SlO w' f.heap.size encI 1 3 (pA du) 3 3 ([0,1,(-1)]:List Int))∧(SlO w' f.heap.size encI 1 3 (pA J) 3 3 ([0,m.Id,100]:List Int))∧(SlO w' f.heap.size encI 1 3 (pA ak) 2 2 ([0,5]:List Int))∧(Blk w' gc ec [.slice Ac nc cc,i6 A,.int .u64 V])∧(Blk w' u 106 [i6 0,i6 0,i6 0,i6 0])∧(∀ b_,(pA b)=some ⟨b_,0,none⟩→¬(pA du)=some ⟨b_,0,none⟩)∧(∀ b_,(pA b)=some ⟨b_,0,none⟩→¬(pA J)=some ⟨b_,0,none⟩)∧(∀ b_,(pA b)=some ⟨b_,0,none⟩→¬(pA ak)=some ⟨b_,0,none⟩)∧(∀ b_,(pA du)=some ⟨b_,0,none⟩→¬(pA J)=some ⟨b_,0,none⟩)∧(∀ b_,(pA du)=some ⟨b_,0,none⟩→¬(pA ak)=some ⟨b_,0,none⟩)∧(∀ b_,(pA J)=some ⟨b_,0,none⟩→¬(pA ak)=some ⟨b_,0,none⟩)) ?_ (fun dq=>?_)
   ·rintro wG rI ⟨b,du,J,ak,lf,d9,mc,qH,qI,qJ,qK,qL,xn,xp,xq,qg,qh,qi⟩
    rw [← sA lf]
    have uF:=d9.size
    refine Ab 2 G (Qc ent58 (c___spec_l1Cur__among rI Lc A V qK ((O.kn v).kp d9 (fun b_ hb e'=>e'.elim (fun e'=>by have e'':b_=gc:=e'; omega) (fun e'=>by have e'':b_=u:=e'; omega))) oB oB ([0,8,2]:List Int) (mc.rd) oB oB (show ¬b=gc from by first | omega | (have:=mc.base_le G; omega))) G ?_)
    rintro e yy ⟨gJ,rl,qY,rfl,ny,ph,ke,aU⟩
    refine ⟨_,G,?_⟩
    have uG:=aU.size
    have io:=d9.step aU (fun _ _ e=>.inl e)
    have ow:(0:Int)≤gJ∧gJ≤8:=mem_rngB (lo:=0) (hi:=8) oG ke
    refine Qn ⟨io,_,G,(Ag oC G (dp _ _ (⟨b,du,gJ,rl,qY,J,ak,(At.r G),io,((qH.kn aU).down),((qI.kn aU).down),((qJ.kn aU).down),ny,(qL.kn aU),qg,qh,qi,ph,ke,ow⟩)))⟩
   refine Av #[true,true,true,true,true,true,true,false,true,false,false,true,false,false,false,false] 7 (fun f' w'=>∃ (b:Nat) (c:Int) (d:Int) (q:Int) (y:Nat),At f' [(0,pt gc),(4,pt u),(5,pt n),(6,pt F),(42,i6 c),(43,pt gc),(46,.slice (pA y) 3 3),(48,pt gc),(51,pt gc)]∧(Kp (fun b_=>b_=gc∨b_=u) f w')∧(SlO w' f.heap.size encI 1 3 (pA y) 3 3 ([0,m.Id,100]:List Int))∧(Blk w' gc ec [.slice Ac nc cc,i6 d,.int .u64 q])∧(Blk w' u 106 [i6 0,i6 0,i6 0,i6 0])∧(A≤d∧d≤A+2)∧(c∈([0,8,2]:List Int))∧((0:Int)≤c∧c≤8)) ?_ (fun jX=>?_)
   ·rintro wH rJ ⟨b,c,d,q,y,lg,bt,cn,ga,eT,E,C,D⟩
    rw [← sA lg]
    have uH:=bt.size
    refine Ar [7,9,12] oC G ⟨Bm G trivial ?_,Bm G trivial ?_,Bm G trivial ?_,trivial⟩
    ·refine Qc ent58 (c___spec_l1Cur__among rJ Lc d q ga ((O.kn v).kp bt (fun b_ hb e'=>e'.elim (fun e'=>by have e'':b_=gc:=e'; omega) (fun e'=>by have e'':b_=u:=e'; omega))) oB oB ([0,m.Id,100]:List Int) (cn.rd) oB oB (show ¬y=gc from by first | omega | (have:=cn.base_le G; omega))) G ?_
     rintro e yz ⟨dK,mr,mn,rfl,jx,kw,fj,cP⟩
     refine ⟨_,G,?_⟩
     have uI:=cP.size
     have ei:=bt.step cP (fun _ _ e=>.inl e)
     have kf:(dK:Int)=0∨(dK:Int)=m.Id∨(dK:Int)=100:=by simpa only [List.mem_cons,List.not_mem_nil,or_false] using fj
     refine Qn ⟨ei,_,G,(Ar [9,12] oC G ⟨Bm G trivial ?_,Bm G trivial ?_,trivial⟩)⟩
     ·refine Ql (vs:=[i6 0,i6 5]) (L:=([0,5]:List Int)) (enc:=encI) tel93 (fun _=>G) G G G oG ?_
      intro pL yA ss cQ mA
      have uJ:=cQ.size
      have ip:=ei.lo cQ
      refine Qn ⟨ip,_,G,(Ag oC G (jV _ _ (⟨b,c,d,q,y,dK,mr,mn,pL,(At.r G),ip,(mA.down),(jx.lo cQ),((eT.kn cP).lo cQ),E,C,D,kw,fj,kf⟩)))⟩
     ·refine Ql (vs:=[i6 0,i6 1,i6 (-1)]) (L:=([0,1,(-1)]:List Int)) (enc:=encI) tel93 (fun _=>G) G G G oG ?_
      intro pM yB su cR mC
      have uK:=cR.size
      have iq:=ei.lo cR
      refine Qn ⟨iq,_,G,(Ag oC G (jW _ _ (⟨b,pM,c,d,q,y,dK,mr,mn,(At.r G),iq,(mC.down),(jx.lo cR),((eT.kn cP).lo cR),E,C,D,kw,fj,kf⟩)))⟩
    ·refine Ql (vs:=[i6 0,i6 5]) (L:=([0,5]:List Int)) (enc:=encI) tel93 (fun _=>G) G G G oG ?_
     intro kB yC sv bE mD
     have uL:=bE.size
     have ir:=bt.lo bE
     refine Qn ⟨ir,_,G,(Ag oC G (fb _ _ (⟨b,c,d,q,y,kB,(At.r G),ir,((cn.lo bE).down),(mD.down),(ga.lo bE),(eT.lo bE),(fun b_ h h'=>(nE (g:=kB) cn) (h.trans h'.symm)),E,C,D⟩)))⟩
    ·refine Ql (vs:=[i6 0,i6 1,i6 (-1)]) (L:=([0,1,(-1)]:List Int)) (enc:=encI) tel93 (fun _=>G) G G G oG ?_
     intro kC yD sw bF mE
     have uM:=bF.size
     have iu:=bt.lo bF
     refine Qn ⟨iu,_,G,(Ag oC G (fc _ _ (⟨b,kC,c,d,q,y,(At.r G),iu,(mE.down),((cn.lo bF).down),(ga.lo bF),(eT.lo bF),(fun b_ h h'=>(nE (g:=kC) cn) (h'.trans h.symm)),E,C,D⟩)))⟩
   refine Av #[true,true,true,true,true,true,false,false,true,true,false,true,false,false,false,false] 7 (fun f' w'=>∃ (b:Nat) (c:Int) (d:Int) (q:Int) (aH:Nat),At f' [(0,pt gc),(4,pt u),(5,pt n),(6,pt F),(42,i6 c),(43,pt gc),(45,i6 m.Id),(48,pt gc),(49,.slice (pA aH) 2 2),(51,pt gc)]∧(Kp (fun b_=>b_=gc∨b_=u) f w')∧(SlO w' f.heap.size encI 1 3 (pA aH) 2 2 ([0,5]:List Int))∧(Blk w' gc ec [.slice Ac nc cc,i6 d,.int .u64 q])∧(Blk w' u 106 [i6 0,i6 0,i6 0,i6 0])∧(A≤d∧d≤A+2)∧(c∈([0,8,2]:List Int))∧((0:Int)≤c∧c≤8)) ?_ (fun jY=>?_)
   ·rintro wI yE ⟨b,c,d,q,aH,lh,ea,eY,l4,l5,E,C,D⟩
    rw [← sA lh]
    have uN:=ea.size
    refine Ar [6,12] oC G ⟨Bm G trivial ?_,Bm G trivial ?_,trivial⟩
    ·refine Ql (vs:=[i6 0,i6 m.Id,i6 100]) (L:=([0,m.Id,100]:List Int)) (enc:=encI) tel93 (fun _=>G) G G G oG ?_
     intro kD yF sx bG mF
     have uO:=bG.size
     have iv:=ea.lo bG
     refine Qn ⟨iv,_,G,(Ag oC G (fb _ _ (⟨b,c,d,q,kD,aH,(At.r G),iv,(mF.down),((eY.lo bG).down),(l4.lo bG),(l5.lo bG),(fun b_ h h'=>(nE (g:=kD) eY) (h'.trans h.symm)),E,C,D⟩)))⟩
    ·refine Ql (vs:=[i6 0,i6 1,i6 (-1)]) (L:=([0,1,(-1)]:List Int)) (enc:=encI) tel93 (fun _=>G) G G G oG ?_
     intro kE yG sy bH mG
     have uP:=bH.size
     have iw:=ea.lo bH
     refine Qn ⟨iw,_,G,(Ag oC G (fd _ _ (⟨b,kE,c,d,q,aH,(At.r G),iw,(mG.down),((eY.lo bH).down),(l4.lo bH),(l5.lo bH),(fun b_ h h'=>(nE (g:=kE) eY) (h'.trans h.symm)),E,C,D⟩)))⟩
   refine Av #[true,true,true,true,true,true,false,false,true,false,false,true,true,false,false,false] 7 (fun f' w'=>∃ (b:Nat) (ft:Nat) (c:Int) (d:Int) (q:Int),At f' [(0,pt gc),(4,pt u),(5,pt n),(6,pt F),(42,i6 c),(43,pt gc),(45,i6 m.Id),(48,pt gc),(51,pt gc),(52,.slice (pA ft) 3 3)]∧(Kp (fun b_=>b_=gc∨b_=u) f w')∧(SlO w' f.heap.size encI 1 3 (pA ft) 3 3 ([0,1,(-1)]:List Int))∧(Blk w' gc ec [.slice Ac nc cc,i6 d,.int .u64 q])∧(Blk w' u 106 [i6 0,i6 0,i6 0,i6 0])∧(A≤d∧d≤A+2)∧(c∈([0,8,2]:List Int))∧((0:Int)≤c∧c≤8)) ?_ (fun jZ=>?_)
   ·rintro wJ yH ⟨b,ft,c,d,q,li,ed,eZ,l8,l9,E,C,D⟩
    rw [← sA li]
    have uQ:=ed.size
    refine Ar [6,9] oC G ⟨Bm G trivial ?_,Bm G trivial ?_,trivial⟩
    ·refine Ql (vs:=[i6 0,i6 m.Id,i6 100]) (L:=([0,m.Id,100]:List Int)) (enc:=encI) tel93 (fun _=>G) G G G oG ?_
     intro kF yI sB bI mH
     have uR:=bI.size
     have ix:=ed.lo bI
     refine Qn ⟨ix,_,G,(Ag oC G (fc _ _ (⟨b,ft,c,d,q,kF,(At.r G),ix,((eZ.lo bI).down),(mH.down),(l8.lo bI),(l9.lo bI),(fun b_ h h'=>(nE (g:=kF) eZ) (h.trans h'.symm)),E,C,D⟩)))⟩
    ·refine Ql (vs:=[i6 0,i6 5]) (L:=([0,5]:List Int)) (enc:=encI) tel93 (fun _=>G) G G G oG ?_
     intro kG yJ sC bJ mJ
     have uS:=bJ.size
     have iy:=ed.lo bJ
     refine Qn ⟨iy,_,G,(Ag oC G (fd _ _ (⟨b,ft,c,d,q,kG,(At.r G),iy,((eZ.lo bJ).down),(mJ.down),(l8.lo bJ),(l9.lo bJ),(fun b_ h h'=>(nE (g:=kG) eZ) (h.trans h'.symm)),E,C,D⟩)))⟩
   refine Av #[true,true,false,true,true,true,true,false,true,true,false,true,false,false,false,false] 7 (fun f' w'=>∃ (b:Nat) (J:Nat) (ak:Nat),At f' [(0,pt gc),(4,pt u),(5,pt n),(6,pt F),(40,pt gc),(41,.slice (pA b) 3 3),(43,pt gc),(46,.slice (pA J) 3 3),(48,pt gc),(49,.slice (pA ak) 2 2),(51,pt gc)]∧(Kp (fun b_=>b_=gc∨b_=u) f w')∧(SlO w' f.heap.size encI 1 3 (pA b) 3 3 ([0,8,2]:List Int))∧(SlO w' f.heap.size encI 1 3 (pA J) 3 3 ([0,m.Id,100]:List Int))∧(SlO w' f.heap.size encI 1 3 (pA ak) 2 2 ([0,5]:List Int))∧(Blk w' gc ec [.slice Ac nc cc,i6 A,.int .u64 V])∧(Blk w' u 106 [i6 0,i6 0,i6 0,i6 0])∧(∀ b_,(pA b)=some ⟨b_,0,none⟩→¬(pA J)=some ⟨b_,0,none⟩)∧(∀ b_,(pA b)=some ⟨b_,0,none⟩→¬(pA ak)=some ⟨b_,0,none⟩)∧(∀ b_,(pA J)=some ⟨b_,0,none⟩→¬(pA ak)=some ⟨b_,0,none⟩)) ?_ (fun fe=>?_)
   ·rintro wK rK ⟨b,J,ak,lj,cD,e6,gj,gk,ma,mb,qe,qf,lJ⟩
    rw [← sA lj]
    have uT:=cD.size
    refine Ar [2,12] oC G ⟨Bm G trivial ?_,Bm G trivial ?_,trivial⟩
    ·refine Qc ent58 (c___spec_l1Cur__among rK Lc A V ma ((O.kn v).kp cD (fun b_ hb e'=>e'.elim (fun e'=>by have e'':b_=gc:=e'; omega) (fun e'=>by have e'':b_=u:=e'; omega))) oB oB ([0,8,2]:List Int) (e6.rd) oB oB (show ¬b=gc from by first | omega | (have:=e6.base_le G; omega))) G ?_
     rintro e yK ⟨gK,rm,qZ,rfl,nz,pj,kg,bK⟩
     refine ⟨_,G,?_⟩
     have uU:=bK.size
     have iz:=cD.step bK (fun _ _ e=>.inl e)
     have ox:(0:Int)≤gK∧gK≤8:=mem_rngB (lo:=0) (hi:=8) oG kg
     refine Qn ⟨iz,_,G,(Ag oC G (fb _ _ (⟨b,gK,rm,qZ,J,ak,(At.r G),iz,((gj.kn bK).down),((gk.kn bK).down),nz,(mb.kn bK),lJ,pj,kg,ox⟩)))⟩
    ·refine Ql (vs:=[i6 0,i6 1,i6 (-1)]) (L:=([0,1,(-1)]:List Int)) (enc:=encI) tel93 (fun _=>G) G G G oG ?_
     intro dZ yL sD ax mK
     have uV:=ax.size
     have iA:=cD.lo ax
     refine Qn ⟨iA,_,G,(Ag oC G (dq _ _ (⟨b,dZ,J,ak,(At.r G),iA,((e6.lo ax).down),(mK.down),((gj.lo ax).down),((gk.lo ax).down),(ma.lo ax),(mb.lo ax),(fun b_ h h'=>(nE (g:=dZ) e6) (h.trans h'.symm)),qe,qf,(fun b_ h h'=>(nE (g:=dZ) gj) (h'.trans h.symm)),(fun b_ h h'=>(nE (g:=dZ) gk) (h'.trans h.symm)),lJ⟩)))⟩
   refine Av #[true,true,false,true,true,true,true,false,true,false,false,true,true,false,false,false] 7 (fun f' w'=>∃ (b:Nat) (dv:Nat) (J:Nat),At f' [(0,pt gc),(4,pt u),(5,pt n),(6,pt F),(40,pt gc),(41,.slice (pA b) 3 3),(43,pt gc),(46,.slice (pA J) 3 3),(48,pt gc),(51,pt gc),(52,.slice (pA dv) 3 3)]∧(Kp (fun b_=>b_=gc∨b_=u) f w')∧(SlO w' f.heap.size encI 1 3 (pA b) 3 3 ([0,8,2]:List Int))∧(SlO w' f.heap.size encI 1 3 (pA dv) 3 3 ([0,1,(-1)]:List Int))∧(SlO w' f.heap.size encI 1 3 (pA J) 3 3 ([0,m.Id,100]:List Int))∧(Blk w' gc ec [.slice Ac nc cc,i6 A,.int .u64 V])∧(Blk w' u 106 [i6 0,i6 0,i6 0,i6 0])∧(∀ b_,(pA b)=some ⟨b_,0,none⟩→¬(pA dv)=some ⟨b_,0,none⟩)∧(∀ b_,(pA b)=some ⟨b_,0,none⟩→¬(pA J)=some ⟨b_,0,none⟩)∧(∀ b_,(pA dv)=some ⟨b_,0,none⟩→¬(pA J)=some ⟨b_,0,none⟩)) ?_ (fun ff=>?_)
   ·rintro wL rL ⟨b,dv,J,lk,cE,e7,gl,gm,md,me,qj,qk,lK⟩
    rw [← sA lk]
    have uW:=cE.size
    refine Ar [2,9] oC G ⟨Bm G trivial ?_,Bm G trivial ?_,trivial⟩
    ·refine Qc ent58 (c___spec_l1Cur__among rL Lc A V md ((O.kn v).kp cE (fun b_ hb e'=>e'.elim (fun e'=>by have e'':b_=gc:=e'; omega) (fun e'=>by have e'':b_=u:=e'; omega))) oB oB ([0,8,2]:List Int) (e7.rd) oB oB (show ¬b=gc from by first | omega | (have:=e7.base_le G; omega))) G ?_
     rintro e yM ⟨gM,rn,q1,rfl,nA,pk,kh,bL⟩
     refine ⟨_,G,?_⟩
     have uX:=bL.size
     have iB:=cE.step bL (fun _ _ e=>.inl e)
     have oy:(0:Int)≤gM∧gM≤8:=mem_rngB (lo:=0) (hi:=8) oG kh
     refine Qn ⟨iB,_,G,(Ag oC G (fc _ _ (⟨b,dv,gM,rn,q1,J,(At.r G),iB,((gl.kn bL).down),((gm.kn bL).down),nA,(me.kn bL),lK,pk,kh,oy⟩)))⟩
    ·refine Ql (vs:=[i6 0,i6 5]) (L:=([0,5]:List Int)) (enc:=encI) tel93 (fun _=>G) G G G oG ?_
     intro d1 yN sE ay mM
     have uY:=ay.size
     have iC:=cE.lo ay
     refine Qn ⟨iC,_,G,(Ag oC G (dq _ _ (⟨b,dv,J,d1,(At.r G),iC,((e7.lo ay).down),((gl.lo ay).down),((gm.lo ay).down),(mM.down),(md.lo ay),(me.lo ay),qj,qk,(fun b_ h h'=>(nE (g:=d1) e7) (h.trans h'.symm)),lK,(fun b_ h h'=>(nE (g:=d1) gl) (h.trans h'.symm)),(fun b_ h h'=>(nE (g:=d1) gm) (h.trans h'.symm))⟩)))⟩
   refine Av #[true,true,false,true,true,true,false,false,true,true,false,true,true,false,false,false] 7 (fun f' w'=>∃ (b:Nat) (dw:Nat) (al:Nat),At f' [(0,pt gc),(4,pt u),(5,pt n),(6,pt F),(40,pt gc),(41,.slice (pA b) 3 3),(43,pt gc),(45,i6 m.Id),(48,pt gc),(49,.slice (pA al) 2 2),(51,pt gc),(52,.slice (pA dw) 3 3)]∧(Kp (fun b_=>b_=gc∨b_=u) f w')∧(SlO w' f.heap.size encI 1 3 (pA b) 3 3 ([0,8,2]:List Int))∧(SlO w' f.heap.size encI 1 3 (pA dw) 3 3 ([0,1,(-1)]:List Int))∧(SlO w' f.heap.size encI 1 3 (pA al) 2 2 ([0,5]:List Int))∧(Blk w' gc ec [.slice Ac nc cc,i6 A,.int .u64 V])∧(Blk w' u 106 [i6 0,i6 0,i6 0,i6 0])∧(∀ b_,(pA b)=some ⟨b_,0,none⟩→¬(pA dw)=some ⟨b_,0,none⟩)∧(∀ b_,(pA b)=some ⟨b_,0,none⟩→¬(pA al)=some ⟨b_,0,none⟩)∧(∀ b_,(pA dw)=some ⟨b_,0,none⟩→¬(pA al)=some ⟨b_,0,none⟩)) ?_ (fun fg=>?_)
   ·rintro wM rM ⟨b,dw,al,ll,cF,e9,gr,gw,mf,mg,ql,qm,lM⟩
    rw [← sA ll]
    have uZ:=cF.size
    refine Ar [2,6] oC G ⟨Bm G trivial ?_,Bm G trivial ?_,trivial⟩
    ·refine Qc ent58 (c___spec_l1Cur__among rM Lc A V mf ((O.kn v).kp cF (fun b_ hb e'=>e'.elim (fun e'=>by have e'':b_=gc:=e'; omega) (fun e'=>by have e'':b_=u:=e'; omega))) oB oB ([0,8,2]:List Int) (e9.rd) oB oB (show ¬b=gc from by first | omega | (have:=e9.base_le G; omega))) G ?_
     rintro e yO ⟨gN,ro,q2,rfl,nB,pl,ki,bM⟩
     refine ⟨_,G,?_⟩
     have u0:=bM.size
     have iD:=cF.step bM (fun _ _ e=>.inl e)
     have oz:(0:Int)≤gN∧gN≤8:=mem_rngB (lo:=0) (hi:=8) oG ki
     refine Qn ⟨iD,_,G,(Ag oC G (fd _ _ (⟨b,dw,gN,ro,q2,al,(At.r G),iD,((gr.kn bM).down),((gw.kn bM).down),nB,(mg.kn bM),lM,pl,ki,oz⟩)))⟩
    ·refine Ql (vs:=[i6 0,i6 m.Id,i6 100]) (L:=([0,m.Id,100]:List Int)) (enc:=encI) tel93 (fun _=>G) G G G oG ?_
     intro d2 yP sF az mN
     have u1:=az.size
     have iE:=cF.lo az
     refine Qn ⟨iE,_,G,(Ag oC G (dq _ _ (⟨b,dw,d2,al,(At.r G),iE,((e9.lo az).down),((gr.lo az).down),(mN.down),((gw.lo az).down),(mf.lo az),(mg.lo az),ql,(fun b_ h h'=>(nE (g:=d2) e9) (h.trans h'.symm)),qm,(fun b_ h h'=>(nE (g:=d2) gr) (h.trans h'.symm)),lM,(fun b_ h h'=>(nE (g:=d2) gw) (h'.trans h.symm))⟩)))⟩
   refine Av #[true,false,false,true,true,true,true,false,true,true,false,true,true,false,false,false] 7 (fun f' w'=>∃ (cj:Nat) (K:Nat) (ac:Nat),At f' [(0,pt gc),(4,pt u),(5,pt n),(6,pt F),(40,pt gc),(43,pt gc),(46,.slice (pA K) 3 3),(48,pt gc),(49,.slice (pA ac) 2 2),(51,pt gc),(52,.slice (pA cj) 3 3)]∧(Kp (fun b_=>b_=gc∨b_=u) f w')∧(SlO w' f.heap.size encI 1 3 (pA cj) 3 3 ([0,1,(-1)]:List Int))∧(SlO w' f.heap.size encI 1 3 (pA K) 3 3 ([0,m.Id,100]:List Int))∧(SlO w' f.heap.size encI 1 3 (pA ac) 2 2 ([0,5]:List Int))∧(Blk w' gc ec [.slice Ac nc cc,i6 A,.int .u64 V])∧(Blk w' u 106 [i6 0,i6 0,i6 0,i6 0])∧(∀ b_,(pA cj)=some ⟨b_,0,none⟩→¬(pA K)=some ⟨b_,0,none⟩)∧(∀ b_,(pA cj)=some ⟨b_,0,none⟩→¬(pA ac)=some ⟨b_,0,none⟩)∧(∀ b_,(pA K)=some ⟨b_,0,none⟩→¬(pA ac)=some ⟨b_,0,none⟩)) ?_ (fun fh=>?_)
   ·rintro wN yQ ⟨cj,K,ac,lm,hF,jM,jN,jO,n3,n4,nX,nY,nZ⟩
    rw [← sA lm]
    have u2:=hF.size
    refine Ab 1 G (Ql (vs:=[i6 0,i6 8,i6 2]) (L:=([0,8,2]:List Int)) (enc:=encI) tel93 (fun _=>G) G G G oG ?_)
    intro d3 yR sG aA mO
    have u3:=aA.size
    have iF:=hF.lo aA
    refine Qn ⟨iF,_,G,(Ag oC G (dq _ _ (⟨d3,cj,K,ac,(At.r G),iF,(mO.down),((jM.lo aA).down),((jN.lo aA).down),((jO.lo aA).down),(n3.lo aA),(n4.lo aA),(fun b_ h h'=>(nE (g:=d3) jM) (h'.trans h.symm)),(fun b_ h h'=>(nE (g:=d3) jN) (h'.trans h.symm)),(fun b_ h h'=>(nE (g:=d3) jO) (h'.trans h.symm)),nX,nY,nZ⟩)))⟩
   refine Av #[true,true,false,true,true,true,true,false,true,false,false,true,false,false,false,false] 8 (fun f' w'=>∃ (b:Nat) (J:Nat),At f' [(0,pt gc),(4,pt u),(5,pt n),(6,pt F),(40,pt gc),(41,.slice (pA b) 3 3),(43,pt gc),(46,.slice (pA J) 3 3),(48,pt gc),(51,pt gc)]∧(Kp (fun b_=>b_=gc∨b_=u) f w')∧(SlO w' f.heap.size encI 1 3 (pA b) 3 3 ([0,8,2]:List Int))∧(SlO w' f.heap.size encI 1 3 (pA J) 3 3 ([0,m.Id,100]:List Int))∧(Blk w' gc ec [.slice Ac nc cc,i6 A,.int .u64 V])∧(Blk w' u 106 [i6 0,i6 0,i6 0,i6 0])∧(∀ b_,(pA b)=some ⟨b_,0,none⟩→¬(pA J)=some ⟨b_,0,none⟩)) ?_ (fun j0=>?_)
   ·rintro wO rO ⟨b,J,ln,bu,co,dB,gh,gi,lI⟩
    rw [← sA ln]
    have u4:=bu.size
    refine Ar [2,9,12] oC G ⟨Bm G trivial ?_,Bm G trivial ?_,Bm G trivial ?_,trivial⟩
    ·refine Qc ent58 (c___spec_l1Cur__among rO Lc A V gh ((O.kn v).kp bu (fun b_ hb e'=>e'.elim (fun e'=>by have e'':b_=gc:=e'; omega) (fun e'=>by have e'':b_=u:=e'; omega))) oB oB ([0,8,2]:List Int) (co.rd) oB oB (show ¬b=gc from by first | omega | (have:=co.base_le G; omega))) G ?_
     rintro e yS ⟨gO,rp,q3,rfl,nC,pm,kj,cS⟩
     refine ⟨_,G,?_⟩
     have u5:=cS.size
     have iG:=bu.step cS (fun _ _ e=>.inl e)
     have oY:(0:Int)≤gO∧gO≤8:=mem_rngB (lo:=0) (hi:=8) oG kj
     refine Qn ⟨iG,_,G,(Ag oC G (jX _ _ (⟨b,gO,rp,q3,J,(At.r G),iG,((dB.kn cS).down),nC,(gi.kn cS),pm,kj,oY⟩)))⟩
    ·refine Ql (vs:=[i6 0,i6 5]) (L:=([0,5]:List Int)) (enc:=encI) tel93 (fun _=>G) G G G oG ?_
     intro fD yT sH aV mQ
     have u6:=aV.size
     have iH:=bu.lo aV
     refine Qn ⟨iH,_,G,(Ag oC G (fe _ _ (⟨b,J,fD,(At.r G),iH,((co.lo aV).down),((dB.lo aV).down),(mQ.down),(gh.lo aV),(gi.lo aV),lI,(fun b_ h h'=>(nE (g:=fD) co) (h.trans h'.symm)),(fun b_ h h'=>(nE (g:=fD) dB) (h.trans h'.symm))⟩)))⟩
    ·refine Ql (vs:=[i6 0,i6 1,i6 (-1)]) (L:=([0,1,(-1)]:List Int)) (enc:=encI) tel93 (fun _=>G) G G G oG ?_
     intro fE yU sI aW mR
     have u7:=aW.size
     have iI:=bu.lo aW
     refine Qn ⟨iI,_,G,(Ag oC G (ff _ _ (⟨b,fE,J,(At.r G),iI,((co.lo aW).down),(mR.down),((dB.lo aW).down),(gh.lo aW),(gi.lo aW),(fun b_ h h'=>(nE (g:=fE) co) (h.trans h'.symm)),lI,(fun b_ h h'=>(nE (g:=fE) dB) (h'.trans h.symm))⟩)))⟩
   refine Av #[true,true,false,true,true,true,false,false,true,true,false,true,false,false,false,false] 8 (fun f' w'=>∃ (b:Nat) (al:Nat),At f' [(0,pt gc),(4,pt u),(5,pt n),(6,pt F),(40,pt gc),(41,.slice (pA b) 3 3),(43,pt gc),(45,i6 m.Id),(48,pt gc),(49,.slice (pA al) 2 2),(51,pt gc)]∧(Kp (fun b_=>b_=gc∨b_=u) f w')∧(SlO w' f.heap.size encI 1 3 (pA b) 3 3 ([0,8,2]:List Int))∧(SlO w' f.heap.size encI 1 3 (pA al) 2 2 ([0,5]:List Int))∧(Blk w' gc ec [.slice Ac nc cc,i6 A,.int .u64 V])∧(Blk w' u 106 [i6 0,i6 0,i6 0,i6 0])∧(∀ b_,(pA b)=some ⟨b_,0,none⟩→¬(pA al)=some ⟨b_,0,none⟩)) ?_ (fun j1=>?_)
   ·rintro wP rP ⟨b,al,lp,bw,cp,dC,gn,gp,lL⟩
    rw [← sA lp]
    have u9:=bw.size
    refine Ar [2,6,12] oC G ⟨Bm G trivial ?_,Bm G trivial ?_,Bm G trivial ?_,trivial⟩
    ·refine Qc ent58 (c___spec_l1Cur__among rP Lc A V gn ((O.kn v).kp bw (fun b_ hb e'=>e'.elim (fun e'=>by have e'':b_=gc:=e'; omega) (fun e'=>by have e'':b_=u:=e'; omega))) oB oB ([0,8,2]:List Int) (cp.rd) oB oB (show ¬b=gc from by first | omega | (have:=cp.base_le G; omega))) G ?_
     rintro e yV ⟨gP,rq,q4,rfl,nD,pn,kk,cT⟩
     refine ⟨_,G,?_⟩
     have va:=cT.size
     have iJ:=bw.step cT (fun _ _ e=>.inl e)
     have oZ:(0:Int)≤gP∧gP≤8:=mem_rngB (lo:=0) (hi:=8) oG kk
     refine Qn ⟨iJ,_,G,(Ag oC G (jY _ _ (⟨b,gP,rq,q4,al,(At.r G),iJ,((dC.kn cT).down),nD,(gp.kn cT),pn,kk,oZ⟩)))⟩
    ·refine Ql (vs:=[i6 0,i6 m.Id,i6 100]) (L:=([0,m.Id,100]:List Int)) (enc:=encI) tel93 (fun _=>G) G G G oG ?_
     intro fF yW sJ aX mU
     have vb:=aX.size
     have iK:=bw.lo aX
     refine Qn ⟨iK,_,G,(Ag oC G (fe _ _ (⟨b,fF,al,(At.r G),iK,((cp.lo aX).down),(mU.down),((dC.lo aX).down),(gn.lo aX),(gp.lo aX),(fun b_ h h'=>(nE (g:=fF) cp) (h.trans h'.symm)),lL,(fun b_ h h'=>(nE (g:=fF) dC) (h'.trans h.symm))⟩)))⟩
    ·refine Ql (vs:=[i6 0,i6 1,i6 (-1)]) (L:=([0,1,(-1)]:List Int)) (enc:=encI) tel93 (fun _=>G) G G G oG ?_
     intro fG yX sK aY mV
     have vc:=aY.size
     have iL:=bw.lo aY
     refine Qn ⟨iL,_,G,(Ag oC G (fg _ _ (⟨b,fG,al,(At.r G),iL,((cp.lo aY).down),(mV.down),((dC.lo aY).down),(gn.lo aY),(gp.lo aY),(fun b_ h h'=>(nE (g:=fG) cp) (h.trans h'.symm)),lL,(fun b_ h h'=>(nE (g:=fG) dC) (h'.trans h.symm))⟩)))⟩
   refine Av #[true,true,false,true,true,true,false,false,true,false,false,true,true,false,false,false] 8 (fun f' w'=>∃ (b:Nat) (bj:Nat),At f' [(0,pt gc),(4,pt u),(5,pt n),(6,pt F),(40,pt gc),(41,.slice (pA b) 3 3),(43,pt gc),(45,i6 m.Id),(48,pt gc),(51,pt gc),(52,.slice (pA bj) 3 3)]∧(Kp (fun b_=>b_=gc∨b_=u) f w')∧(SlO w' f.heap.size encI 1 3 (pA b) 3 3 ([0,8,2]:List Int))∧(SlO w' f.heap.size encI 1 3 (pA bj) 3 3 ([0,1,(-1)]:List Int))∧(Blk w' gc ec [.slice Ac nc cc,i6 A,.int .u64 V])∧(Blk w' u 106 [i6 0,i6 0,i6 0,i6 0])∧(∀ b_,(pA b)=some ⟨b_,0,none⟩→¬(pA bj)=some ⟨b_,0,none⟩)) ?_ (fun j2=>?_)
   ·rintro wQ rQ ⟨b,bj,lq,bz,bh,cf,eN,eO,jy⟩
    rw [← sA lq]
    have vd:=bz.size
    refine Ar [2,6,9] oC G ⟨Bm G trivial ?_,Bm G trivial ?_,Bm G trivial ?_,trivial⟩
    ·refine Qc ent58 (c___spec_l1Cur__among rQ Lc A V eN ((O.kn v).kp bz (fun b_ hb e'=>e'.elim (fun e'=>by have e'':b_=gc:=e'; omega) (fun e'=>by have e'':b_=u:=e'; omega))) oB oB ([0,8,2]:List Int) (bh.rd) oB oB (show ¬b=gc from by first | omega | (have:=bh.base_le G; omega))) G ?_
     rintro e yY ⟨gQ,rr,q5,rfl,nF,po,kl,cU⟩
     refine ⟨_,G,?_⟩
     have ve:=cU.size
     have iM:=bz.step cU (fun _ _ e=>.inl e)
     have o0:(0:Int)≤gQ∧gQ≤8:=mem_rngB (lo:=0) (hi:=8) oG kl
     refine Qn ⟨iM,_,G,(Ag oC G (jZ _ _ (⟨b,bj,gQ,rr,q5,(At.r G),iM,((cf.kn cU).down),nF,(eO.kn cU),po,kl,o0⟩)))⟩
    ·refine Ql (vs:=[i6 0,i6 m.Id,i6 100]) (L:=([0,m.Id,100]:List Int)) (enc:=encI) tel93 (fun _=>G) G G G oG ?_
     intro fH yZ sL aZ mW
     have vf:=aZ.size
     have iN:=bz.lo aZ
     refine Qn ⟨iN,_,G,(Ag oC G (ff _ _ (⟨b,bj,fH,(At.r G),iN,((bh.lo aZ).down),((cf.lo aZ).down),(mW.down),(eN.lo aZ),(eO.lo aZ),jy,(fun b_ h h'=>(nE (g:=fH) bh) (h.trans h'.symm)),(fun b_ h h'=>(nE (g:=fH) cf) (h.trans h'.symm))⟩)))⟩
    ·refine Ql (vs:=[i6 0,i6 5]) (L:=([0,5]:List Int)) (enc:=encI) tel93 (fun _=>G) G G G oG ?_
     intro fI y0 sM a6 mX
     have vg:=a6.size
     have iO:=bz.lo a6
     refine Qn ⟨iO,_,G,(Ag oC G (fg _ _ (⟨b,bj,fI,(At.r G),iO,((bh.lo a6).down),((cf.lo a6).down),(mX.down),(eN.lo a6),(eO.lo a6),jy,(fun b_ h h'=>(nE (g:=fI) bh) (h.trans h'.symm)),(fun b_ h h'=>(nE (g:=fI) cf) (h.trans h'.symm))⟩)))⟩
   refine Av #[true,false,false,true,true,true,true,false,true,true,false,true,false,false,false,false] 8 (fun f' w'=>∃ (K:Nat) (ac:Nat),At f' [(0,pt gc),(4,pt u),(5,pt n),(6,pt F),(40,pt gc),(43,pt gc),(46,.slice (pA K) 3 3),(48,pt gc),(49,.slice (pA ac) 2 2),(51,pt gc)]∧(Kp (fun b_=>b_=gc∨b_=u) f w')∧(SlO w' f.heap.size encI 1 3 (pA K) 3 3 ([0,m.Id,100]:List Int))∧(SlO w' f.heap.size encI 1 3 (pA ac) 2 2 ([0,5]:List Int))∧(Blk w' gc ec [.slice Ac nc cc,i6 A,.int .u64 V])∧(Blk w' u 106 [i6 0,i6 0,i6 0,i6 0])∧(∀ b_,(pA K)=some ⟨b_,0,none⟩→¬(pA ac)=some ⟨b_,0,none⟩)) ?_ (fun j3=>?_)
   ·rintro wR y1 ⟨K,ac,ls,ee,de,df,jK,jL,jz⟩
    rw [← sA ls]
    have vh:=ee.size
    refine Ar [1,12] oC G ⟨Bm G trivial ?_,Bm G trivial ?_,trivial⟩
    ·refine Ql (vs:=[i6 0,i6 8,i6 2]) (L:=([0,8,2]:List Int)) (enc:=encI) tel93 (fun _=>G) G G G oG ?_
     intro fJ y2 sN a7 mY
     have vi:=a7.size
     have iP:=ee.lo a7
     refine Qn ⟨iP,_,G,(Ag oC G (fe _ _ (⟨fJ,K,ac,(At.r G),iP,(mY.down),((de.lo a7).down),((df.lo a7).down),(jK.lo a7),(jL.lo a7),(fun b_ h h'=>(nE (g:=fJ) de) (h'.trans h.symm)),(fun b_ h h'=>(nE (g:=fJ) df) (h'.trans h.symm)),jz⟩)))⟩
    ·refine Ql (vs:=[i6 0,i6 1,i6 (-1)]) (L:=([0,1,(-1)]:List Int)) (enc:=encI) tel93 (fun _=>G) G G G oG ?_
     intro fK y9 sO a8 mZ
     have vj:=a8.size
     have iQ:=ee.lo a8
     refine Qn ⟨iQ,_,G,(Ag oC G (fh _ _ (⟨fK,K,ac,(At.r G),iQ,(mZ.down),((de.lo a8).down),((df.lo a8).down),(jK.lo a8),(jL.lo a8),(fun b_ h h'=>(nE (g:=fK) de) (h'.trans h.symm)),(fun b_ h h'=>(nE (g:=fK) df) (h'.trans h.symm)),jz⟩)))⟩
   refine Av #[true,false,false,true,true,true,true,false,true,false,false,true,true,false,false,false] 8 (fun f' w'=>∃ (ck:Nat) (K:Nat),At f' [(0,pt gc),(4,pt u),(5,pt n),(6,pt F),(40,pt gc),(43,pt gc),(46,.slice (pA K) 3 3),(48,pt gc),(51,pt gc),(52,.slice (pA ck) 3 3)]∧(Kp (fun b_=>b_=gc∨b_=u) f w')∧(SlO w' f.heap.size encI 1 3 (pA ck) 3 3 ([0,1,(-1)]:List Int))∧(SlO w' f.heap.size encI 1 3 (pA K) 3 3 ([0,m.Id,100]:List Int))∧(Blk w' gc ec [.slice Ac nc cc,i6 A,.int .u64 V])∧(Blk w' u 106 [i6 0,i6 0,i6 0,i6 0])∧(∀ b_,(pA ck)=some ⟨b_,0,none⟩→¬(pA K)=some ⟨b_,0,none⟩)) ?_ (fun j4=>?_)
   ·rintro wS za ⟨ck,K,lu,ef,dg,dh,jP,jQ,jA⟩
    rw [← sA lu]
    have vk:=ef.size
    refine Ar [1,9] oC G ⟨Bm G trivial ?_,Bm G trivial ?_,trivial⟩
    ·refine Ql (vs:=[i6 0,i6 8,i6 2]) (L:=([0,8,2]:List Int)) (enc:=encI) tel93 (fun _=>G) G G G oG ?_
     intro fL zb sP ba m0
     have vl:=ba.size
     have iR:=ef.lo ba
     refine Qn ⟨iR,_,G,(Ag oC G (ff _ _ (⟨fL,ck,K,(At.r G),iR,(m0.down),((dg.lo ba).down),((dh.lo ba).down),(jP.lo ba),(jQ.lo ba),(fun b_ h h'=>(nE (g:=fL) dg) (h'.trans h.symm)),(fun b_ h h'=>(nE (g:=fL) dh) (h'.trans h.symm)),jA⟩)))⟩
    ·refine Ql (vs:=[i6 0,i6 5]) (L:=([0,5]:List Int)) (enc:=encI) tel93 (fun _=>G) G G G oG ?_
     intro fM zc sQ bb m1
     have vm:=bb.size
     have iS:=ef.lo bb
     refine Qn ⟨iS,_,G,(Ag oC G (fh _ _ (⟨ck,K,fM,(At.r G),iS,((dg.lo bb).down),((dh.lo bb).down),(m1.down),(jP.lo bb),(jQ.lo bb),jA,(fun b_ h h'=>(nE (g:=fM) dg) (h.trans h'.symm)),(fun b_ h h'=>(nE (g:=fM) dh) (h.trans h'.symm))⟩)))⟩
   refine Av #[true,false,false,true,true,true,false,false,true,true,false,true,true,false,false,false] 8 (fun f' w'=>∃ (cm:Nat) (cl:Nat),At f' [(0,pt gc),(4,pt u),(5,pt n),(6,pt F),(40,pt gc),(43,pt gc),(45,i6 m.Id),(48,pt gc),(49,.slice (pA cl) 2 2),(51,pt gc),(52,.slice (pA cm) 3 3)]∧(Kp (fun b_=>b_=gc∨b_=u) f w')∧(SlO w' f.heap.size encI 1 3 (pA cm) 3 3 ([0,1,(-1)]:List Int))∧(SlO w' f.heap.size encI 1 3 (pA cl) 2 2 ([0,5]:List Int))∧(Blk w' gc ec [.slice Ac nc cc,i6 A,.int .u64 V])∧(Blk w' u 106 [i6 0,i6 0,i6 0,i6 0])∧(∀ b_,(pA cm)=some ⟨b_,0,none⟩→¬(pA cl)=some ⟨b_,0,none⟩)) ?_ (fun j5=>?_)
   ·rintro wT zd ⟨cm,cl,lv,eg,di,dk,jR,jS,jB⟩
    rw [← sA lv]
    have vn:=eg.size
    refine Ar [1,6] oC G ⟨Bm G trivial ?_,Bm G trivial ?_,trivial⟩
    ·refine Ql (vs:=[i6 0,i6 8,i6 2]) (L:=([0,8,2]:List Int)) (enc:=encI) tel93 (fun _=>G) G G G oG ?_
     intro fN ze sR bc m2
     have vo:=bc.size
     have iT:=eg.lo bc
     refine Qn ⟨iT,_,G,(Ag oC G (fg _ _ (⟨fN,cm,cl,(At.r G),iT,(m2.down),((di.lo bc).down),((dk.lo bc).down),(jR.lo bc),(jS.lo bc),(fun b_ h h'=>(nE (g:=fN) di) (h'.trans h.symm)),(fun b_ h h'=>(nE (g:=fN) dk) (h'.trans h.symm)),jB⟩)))⟩
    ·refine Ql (vs:=[i6 0,i6 m.Id,i6 100]) (L:=([0,m.Id,100]:List Int)) (enc:=encI) tel93 (fun _=>G) G G G oG ?_
     intro fO zf sS be m3
     have vp:=be.size
     have iU:=eg.lo be
     refine Qn ⟨iU,_,G,(Ag oC G (fh _ _ (⟨cm,fO,cl,(At.r G),iU,((di.lo be).down),(m3.down),((dk.lo be).down),(jR.lo be),(jS.lo be),(fun b_ h h'=>(nE (g:=fO) di) (h.trans h'.symm)),jB,(fun b_ h h'=>(nE (g:=fO) dk) (h'.trans h.symm))⟩)))⟩
   refine Ak 0 G (kr j) (fun w' hw'=>mP G)<|Ak 3 G (kr j) (fun w' hw'=>mP G)<|Ak 4 G (kr j) (fun w' hw'=>fA fa102_0 G)<|Ak 5 G (kr j) (fun w' hw'=>lB sca3 G ((f7.kn v).kp hw' (fun e'=>e'.elim (fun e'=>by have e'':n=gc:=e'; omega) (fun e'=>by have e'':n=u:=e'; omega))) G)<|Ak 8 G (kr j) (fun w' hw'=>mP G)<|Ak 11 G (kr j) (fun w' hw'=>mP G)<|Ar [1,6,9,12] oC G ⟨Bm G trivial ?_,Bm G trivial ?_,Bm G trivial ?_,Bm G trivial ?_,trivial⟩
   ·refine Ql (vs:=[i6 0,i6 8,i6 2]) (L:=([0,8,2]:List Int)) (enc:=encI) tel93 (fun _=>G) G G G oG ?_
    intro bl rR sT R an
    have vq:=R.size
    have bA:=((kr j:Kp (fun b_=>b_=gc∨b_=u) f _)).lo R
    refine Qn ⟨bA,_,G,(Ar [2,6,9,12] oC G ⟨Bm G trivial ?_,Bm G trivial ?_,Bm G trivial ?_,Bm G trivial ?_,trivial⟩)⟩
    ·refine Qc ent58 (c___spec_l1Cur__among rR Lc A V ((X.lo j).lo R) (((O.kn v).lo j).lo R) oB oB ([0,8,2]:List Int) (an.rd) oB oB (show ¬bl=gc from by first | omega | (have:=an.base_le G; omega))) G ?_
     rintro e zg ⟨dL,gG,gz,rfl,ew,fl,dr,bN⟩
     refine ⟨_,G,?_⟩
     have vr:=bN.size
     have cG:=bA.step bN (fun _ _ e=>.inl e)
     have fk:(0:Int)≤dL∧dL≤8:=mem_rngB (lo:=0) (hi:=8) oG dr
     refine Qn ⟨cG,_,G,(Ar [6,9,12] oC G ⟨Bm G trivial ?_,Bm G trivial ?_,Bm G trivial ?_,trivial⟩)⟩
     ·refine Ql (vs:=[i6 0,i6 m.Id,i6 100]) (L:=([0,m.Id,100]:List Int)) (enc:=encI) tel93 (fun _=>G) G G G oG ?_
      intro pN zi sU cX m4
      have vt:=cX.size
      have iV:=cG.lo cX
      refine Qn ⟨iV,_,G,(Ag oC G (jX _ _ (⟨bl,dL,gG,gz,pN,(At.r G),iV,(m4.down),(ew.lo cX),(((((P.kn v).lo j).lo R).kn bN).lo cX),fl,dr,fk⟩)))⟩
     ·refine Ql (vs:=[i6 0,i6 5]) (L:=([0,5]:List Int)) (enc:=encI) tel93 (fun _=>G) G G G oG ?_
      intro pO zj sV cY m5
      have vu:=cY.size
      have iW:=cG.lo cY
      refine Qn ⟨iW,_,G,(Ag oC G (jY _ _ (⟨bl,dL,gG,gz,pO,(At.r G),iW,(m5.down),(ew.lo cY),(((((P.kn v).lo j).lo R).kn bN).lo cY),fl,dr,fk⟩)))⟩
     ·refine Ql (vs:=[i6 0,i6 1,i6 (-1)]) (L:=([0,1,(-1)]:List Int)) (enc:=encI) tel93 (fun _=>G) G G G oG ?_
      intro pP zk sW cZ m6
      have vv:=cZ.size
      have iX:=cG.lo cZ
      refine Qn ⟨iX,_,G,(Ag oC G (jZ _ _ (⟨bl,pP,dL,gG,gz,(At.r G),iX,(m6.down),(ew.lo cZ),(((((P.kn v).lo j).lo R).kn bN).lo cZ),fl,dr,fk⟩)))⟩
    ·refine Ql (vs:=[i6 0,i6 m.Id,i6 100]) (L:=([0,m.Id,100]:List Int)) (enc:=encI) tel93 (fun _=>G) G G G oG ?_
     intro kH zn sX bO m7
     have vw:=bO.size
     have iY:=bA.lo bO
     refine Qn ⟨iY,_,G,(Ag oC G (j0 _ _ (⟨bl,kH,(At.r G),iY,((an.lo bO).down),(m7.down),(((X.lo j).lo R).lo bO),((((P.kn v).lo j).lo R).lo bO),(fun b_ h h'=>(nE (g:=kH) an) (h.trans h'.symm))⟩)))⟩
    ·refine Ql (vs:=[i6 0,i6 5]) (L:=([0,5]:List Int)) (enc:=encI) tel93 (fun _=>G) G G G oG ?_
     intro kI zo sY bP m8
     have vx:=bP.size
     have iZ:=bA.lo bP
     refine Qn ⟨iZ,_,G,(Ag oC G (j1 _ _ (⟨bl,kI,(At.r G),iZ,((an.lo bP).down),(m8.down),(((X.lo j).lo R).lo bP),((((P.kn v).lo j).lo R).lo bP),(fun b_ h h'=>(nE (g:=kI) an) (h.trans h'.symm))⟩)))⟩
    ·refine Ql (vs:=[i6 0,i6 1,i6 (-1)]) (L:=([0,1,(-1)]:List Int)) (enc:=encI) tel93 (fun _=>G) G G G oG ?_
     intro kJ zp sZ bQ m9
     have vy:=bQ.size
     have i1:=bA.lo bQ
     refine Qn ⟨i1,_,G,(Ag oC G (j2 _ _ (⟨bl,kJ,(At.r G),i1,((an.lo bQ).down),(m9.down),(((X.lo j).lo R).lo bQ),((((P.kn v).lo j).lo R).lo bQ),(fun b_ h h'=>(nE (g:=kJ) an) (h.trans h'.symm))⟩)))⟩
   ·refine Ql (vs:=[i6 0,i6 m.Id,i6 100]) (L:=([0,m.Id,100]:List Int)) (enc:=encI) tel93 (fun _=>G) G G G oG ?_
    intro fP zq s1 ao aM
    have vz:=ao.size
    have cH:=((kr j:Kp (fun b_=>b_=gc∨b_=u) f _)).lo ao
    refine Qn ⟨cH,_,G,(Ar [1,9,12] oC G ⟨Bm G trivial ?_,Bm G trivial ?_,Bm G trivial ?_,trivial⟩)⟩
    ·refine Ql (vs:=[i6 0,i6 8,i6 2]) (L:=([0,8,2]:List Int)) (enc:=encI) tel93 (fun _=>G) G G G oG ?_
     intro kK zr s2 bR na
     have vA:=bR.size
     have i7:=cH.lo bR
     refine Qn ⟨i7,_,G,(Ag oC G (j0 _ _ (⟨kK,fP,(At.r G),i7,(na.down),((aM.lo bR).down),(((X.lo j).lo ao).lo bR),((((P.kn v).lo j).lo ao).lo bR),(fun b_ h h'=>(nE (g:=kK) aM) (h'.trans h.symm))⟩)))⟩
    ·refine Ql (vs:=[i6 0,i6 5]) (L:=([0,5]:List Int)) (enc:=encI) tel93 (fun _=>G) G G G oG ?_
     intro kL zs s3 bS nb
     have vB:=bS.size
     have i8:=cH.lo bS
     refine Qn ⟨i8,_,G,(Ag oC G (j3 _ _ (⟨fP,kL,(At.r G),i8,((aM.lo bS).down),(nb.down),(((X.lo j).lo ao).lo bS),((((P.kn v).lo j).lo ao).lo bS),(fun b_ h h'=>(nE (g:=kL) aM) (h.trans h'.symm))⟩)))⟩
    ·refine Ql (vs:=[i6 0,i6 1,i6 (-1)]) (L:=([0,1,(-1)]:List Int)) (enc:=encI) tel93 (fun _=>G) G G G oG ?_
     intro kM zt s4 bT nd
     have vC:=bT.size
     have ja:=cH.lo bT
     refine Qn ⟨ja,_,G,(Ag oC G (j4 _ _ (⟨kM,fP,(At.r G),ja,(nd.down),((aM.lo bT).down),(((X.lo j).lo ao).lo bT),((((P.kn v).lo j).lo ao).lo bT),(fun b_ h h'=>(nE (g:=kM) aM) (h'.trans h.symm))⟩)))⟩
   ·refine Ql (vs:=[i6 0,i6 5]) (L:=([0,5]:List Int)) (enc:=encI) tel93 (fun _=>G) G G G oG ?_
    intro fQ zu s8 ap aN
    have vD:=ap.size
    have cI:=((kr j:Kp (fun b_=>b_=gc∨b_=u) f _)).lo ap
    refine Qn ⟨cI,_,G,(Ar [1,6,12] oC G ⟨Bm G trivial ?_,Bm G trivial ?_,Bm G trivial ?_,trivial⟩)⟩
    ·refine Ql (vs:=[i6 0,i6 8,i6 2]) (L:=([0,8,2]:List Int)) (enc:=encI) tel93 (fun _=>G) G G G oG ?_
     intro kN zv s9 bU nf
     have vE:=bU.size
     have jc:=cI.lo bU
     refine Qn ⟨jc,_,G,(Ag oC G (j1 _ _ (⟨kN,fQ,(At.r G),jc,(nf.down),((aN.lo bU).down),(((X.lo j).lo ap).lo bU),((((P.kn v).lo j).lo ap).lo bU),(fun b_ h h'=>(nE (g:=kN) aN) (h'.trans h.symm))⟩)))⟩
    ·refine Ql (vs:=[i6 0,i6 m.Id,i6 100]) (L:=([0,m.Id,100]:List Int)) (enc:=encI) tel93 (fun _=>G) G G G oG ?_
     intro kO zw ta bV ng
     have vF:=bV.size
     have jd:=cI.lo bV
     refine Qn ⟨jd,_,G,(Ag oC G (j3 _ _ (⟨kO,fQ,(At.r G),jd,(ng.down),((aN.lo bV).down),(((X.lo j).lo ap).lo bV),((((P.kn v).lo j).lo ap).lo bV),(fun b_ h h'=>(nE (g:=kO) aN) (h'.trans h.symm))⟩)))⟩
    ·refine Ql (vs:=[i6 0,i6 1,i6 (-1)]) (L:=([0,1,(-1)]:List Int)) (enc:=encI) tel93 (fun _=>G) G G G oG ?_
     intro kP zy td bW nh
     have vG:=bW.size
     have je:=cI.lo bW
     refine Qn ⟨je,_,G,(Ag oC G (j5 _ _ (⟨kP,fQ,(At.r G),je,(nh.down),((aN.lo bW).down),(((X.lo j).lo ap).lo bW),((((P.kn v).lo j).lo ap).lo bW),(fun b_ h h'=>(nE (g:=kP) aN) (h'.trans h.symm))⟩)))⟩
   ·refine Ql (vs:=[i6 0,i6 1,i6 (-1)]) (L:=([0,1,(-1)]:List Int)) (enc:=encI) tel93 (fun _=>G) G G G oG ?_
    intro fR zz tf aq aO
    have vH:=aq.size
    have cJ:=((kr j:Kp (fun b_=>b_=gc∨b_=u) f _)).lo aq
    refine Qn ⟨cJ,_,G,(Ar [1,6,9] oC G ⟨Bm G trivial ?_,Bm G trivial ?_,Bm G trivial ?_,trivial⟩)⟩
    ·refine Ql (vs:=[i6 0,i6 8,i6 2]) (L:=([0,8,2]:List Int)) (enc:=encI) tel93 (fun _=>G) G G G oG ?_
     intro kQ zA tg bX ni
     have vI:=bX.size
     have jf:=cJ.lo bX
     refine Qn ⟨jf,_,G,(Ag oC G (j2 _ _ (⟨kQ,fR,(At.r G),jf,(ni.down),((aO.lo bX).down),(((X.lo j).lo aq).lo bX),((((P.kn v).lo j).lo aq).lo bX),(fun b_ h h'=>(nE (g:=kQ) aO) (h'.trans h.symm))⟩)))⟩
    ·refine Ql (vs:=[i6 0,i6 m.Id,i6 100]) (L:=([0,m.Id,100]:List Int)) (enc:=encI) tel93 (fun _=>G) G G G oG ?_
     intro kR zB th bY nj
     have vJ:=bY.size
     have jg:=cJ.lo bY
     refine Qn ⟨jg,_,G,(Ag oC G (j4 _ _ (⟨fR,kR,(At.r G),jg,((aO.lo bY).down),(nj.down),(((X.lo j).lo aq).lo bY),((((P.kn v).lo j).lo aq).lo bY),(fun b_ h h'=>(nE (g:=kR) aO) (h.trans h'.symm))⟩)))⟩
    ·refine Ql (vs:=[i6 0,i6 5]) (L:=([0,5]:List Int)) (enc:=encI) tel93 (fun _=>G) G G G oG ?_
     intro kS zC ti bZ nk
     have vK:=bZ.size
     have jh:=cJ.lo bZ
     refine Qn ⟨jh,_,G,(Ag oC G (j5 _ _ (⟨fR,kS,(At.r G),jh,((aO.lo bZ).down),(nk.down),(((X.lo j).lo aq).lo bZ),((((P.kn v).lo j).lo aq).lo bZ),(fun b_ h h'=>(nE (g:=kS) aO) (h.trans h'.symm))⟩)))⟩
  rintro wU zD ⟨b,am,aF,dW,dt,dY,fx,mq,c,d,q,y,B,H,aa,ab,lw,hG,qu,qv,E,C,D,aE,aC,aD,mj,mh,mi,xY,xQ,xR⟩
  rw [← sA lw]
  have vL:=hG.size
  refine We (retC G G agg106 qv G (⟨(⟨c,B,am,dY⟩:LibraryStep),fx,mq,eR (eA G),qu,⟨oB,oB⟩,oF,(k0.step hG (fun i_ hi_ e'=>e'.elim (fun e'=>e') (fun e'=>by have e'':i_=u:=e'; omega)))⟩))
 ·refine Wk (Ws (Ws (Wr (Q (mP G)<|Qc ent59 (c___spec_l1Cur__pick f Lc A V X (O.kn v) oB oB 14 oD) G ?_))))
  rintro e fq ⟨k,N,bn,rfl,ex,ua,tv,bf⟩
  refine ⟨_,G,?_⟩
  have vM:=bf.size
  refine Qn (Wl (Ws (Ws ?_)))
  have dm:=(O.kn v).kn bf
  have eQ:=(P.kn v).kn bf
  have jT:=(f7.kn v).kn bf
  refine Wr (Q (r_eq G G)<|Q (aB G)<|Qn (W.thenJ (fun f' w'=>At f' [(0,pt gc),(4,pt u),(5,pt n),(6,pt F),(56,i6 k),(57,.bool (decide (((k=0)∧(k=0))∨((¬(k=0))∧(((k=1)∧(k=1))∨((¬(k=1))∧(k=2)))))))]∧Lo fq w') ?_ ?_))
  ·refine Wd G (fun d4=>?_) (fun d4=>?_)
   ·refine Wk (⟨_,G,⟨G,G,G,G,G,(eDD (jgt d4)),trivial⟩,(lr fq)⟩)
   ·refine Ws (Wr (Q (r_eq G G)<|Q (aB G)<|Qn (Wd G (fun fS=>?_) (fun fS=>?_))))
    ·refine Wk (⟨_,G,⟨G,G,G,G,G,(eDD ((jgt fS).trans (jgf d4))),trivial⟩,(lr fq)⟩)
    ·refine Wr (Q (r_eq G G)<|Q (aB G)<|Qn (⟨_,G,⟨G,G,G,G,G,(eDD ((jgf fS).trans (jgf d4))),trivial⟩,(lr fq)⟩))
  rintro wV dR ⟨lx,M⟩
  rw [← sA lx]
  have vN:=M.size
  have gT:=(k0.step bf (fun i_ hi_ e'=>e')).lo M
  refine Wd G (fun fT=>?_) (fun fT=>?_)
  ·refine Ws (Wr (Q (mP G)<|Ql (vs:=[i6 1,i6 7,i6 20,i6 33,i6 42,i6 98,i6 99,i6 100]) (L:=([1,7,20,33,42,98,99,100]:List Int)) (enc:=encI) tel93 (fun _=>G) G G G oG ?_))
   intro pQ rS tj bg gW
   have vO:=bg.size
   refine Qc ent58 (c___spec_l1Cur__among rS Lc N bn ((ex.lo M).lo bg) ((dm.lo M).lo bg) oB oB ([1,7,20,33,42,98,99,100]:List Int) (gW.rd) oB oB (show ¬pQ=gc from by first | omega | (have:=gW.base_le G; omega))) G ?_
   rintro e zF ⟨dM,rt,q6,rfl,nG,ub,o1,c6⟩
   refine ⟨_,G,?_⟩
   have vP:=c6.size
   have tw:(1:Int)≤dM∧dM≤100:=mem_rngB (lo:=1) (hi:=100) oG o1
   refine Q (mP G)<|Ql (vs:=[i6 1,i6 2,i6 3,i6 50,i6 51]) (L:=([1,2,3,50,51]:List Int)) (enc:=encI) tel93 (fun _=>G) G G G oG ?_
   intro pR rT tl b4 gX
   have vQ:=b4.size
   refine Qc ent58 (c___spec_l1Cur__among rT Lc rt q6 (nG.lo b4) ((((dm.lo M).lo bg).kn c6).lo b4) oB oB ([1,2,3,50,51]:List Int) (gX.rd) oB oB (show ¬pR=gc from by first | omega | (have:=gX.base_le G; omega))) G ?_
   rintro e zG ⟨dN,ru,q7,rfl,nH,uc,o2,eE⟩
   refine ⟨_,G,?_⟩
   have vR:=eE.size
   have tz:(1:Int)≤dN∧dN≤51:=mem_rngB (lo:=1) (hi:=51) oG o2
   refine Q (r_build (vs:=[(0,i6 1),(1,i6 dM),(3,i6 dN)]) G (bld106_0_1_3 _ _ _))<|Qw (o:=0) (vs:=[i6 1,i6 dM,i6 0,i6 dN]) agg106.2 G G G G (((((eQ.lo M).lo bg).kn c6).lo b4).kn eE) ler G ?_
   intro zH jD tW nI
   refine Qn (We (retC G G agg106 nI G (⟨(⟨1,dM,0,dN⟩:LibraryStep),ru,q7,eR (eA G),(nH.kn jD),⟨oB,oB⟩,oF,(((((gT.lo bg).step c6 (fun i_ hi_ e'=>e')).lo b4).step eE (fun i_ hi_ e'=>e')).new jD)⟩)))
  ·have tA:¬((k=0)∧(k=0)):=(not_or.1 fT).1
   have tB:¬((¬(k=0))∧(((k=1)∧(k=1))∨((¬(k=1))∧(k=2)))):=(not_or.1 fT).2
   refine Ws (Ws (Wr (Q (r_eq G G)<|Q (aB G)<|Qn (W.thenJ (fun f' w'=>At f' [(0,pt gc),(4,pt u),(5,pt n),(6,pt F),(56,i6 k),(68,.bool (decide (((k=3)∧(k=3))∨((¬(k=3))∧(((k=4)∧(k=4))∨((¬(k=4))∧(((k=5)∧(k=5))∨((¬(k=5))∧(k=6)))))))))]∧Lo dR w') ?_ ?_))))
   ·refine Wd G (fun dx=>?_) (fun dx=>?_)
    ·refine Wk (⟨_,G,⟨G,G,G,G,G,(eDD (jgt dx)),trivial⟩,(lr dR)⟩)
    ·refine Ws (Wr (Q (r_eq G G)<|Q (aB G)<|Qn (Wd G (fun d5=>?_) (fun d5=>?_))))
     ·refine Wk (⟨_,G,⟨G,G,G,G,G,(eDD ((jgt d5).trans (jgf dx))),trivial⟩,(lr dR)⟩)
     ·refine Ws (Wr (Q (r_eq G G)<|Q (aB G)<|Qn (Wd G (fun fU=>?_) (fun fU=>?_))))
      ·refine Wk (⟨_,G,⟨G,G,G,G,G,(eDD (((jgt fU).trans (jgf d5)).trans (jgf dx))),trivial⟩,(lr dR)⟩)
      ·refine Wr (Q (r_eq G G)<|Q (aB G)<|Qn (⟨_,G,⟨G,G,G,G,G,(eDD (((jgf fU).trans (jgf d5)).trans (jgf dx))),trivial⟩,(lr dR)⟩))
   rintro wW cx ⟨ly,Y⟩
   rw [← sA ly]
   have vS:=Y.size
   have gU:=gT.lo Y
   refine Wd G (fun fV=>?_) (fun fV=>?_)
   ·refine Ws (WA (Kp (fun b_=>b_=gc∨b_=u) cx) (fun f' w'=>∃ (pS:Nat) (cq:Int) (dD:Int) (gA:Int),At f' [(0,pt gc),(4,pt u),(5,pt n)]∧(Kp (fun b_=>b_=gc∨b_=u) cx w')∧(Blk w' gc ec [.slice Ac nc cc,i6 dD,.int .u64 gA])∧(Blk w' u 106 [i6 2,i6 m.Id,i6 cq,i6 0])∧(N≤dD∧dD≤N+2)∧(cq∈([5,17,40,999,1000]:List Int))∧((5:Int)≤cq∧cq≤1000)) mo ?_ ?_)
    ·intro zI ar
     have vT:=ar.size
     refine Ak 0 G (kr ar) (fun w' hw'=>fA fa102_0 G)<|Ak 1 G (kr ar) (fun w' hw'=>lB sca3 G (((jT.lo M).lo Y).kp hw' (fun e'=>e'.elim (fun e'=>by have e'':n=gc:=e'; omega) (fun e'=>by have e'':n=u:=e'; omega))) G)<|Ak 2 G (kr ar) (fun w' hw'=>mP G)<|Ab 3 G (Ql (vs:=[i6 5,i6 17,i6 40,i6 999,i6 1000]) (L:=([5,17,40,999,1000]:List Int)) (enc:=encI) tel93 (fun _=>G) G G G oG ?_)
     intro kT rU tm b5 gY
     have vU:=b5.size
     have ji:=((kr ar:Kp (fun b_=>b_=gc∨b_=u) cx _)).lo b5
     refine Qn ⟨ji,_,G,(Ab 4 G (Qc ent58 (c___spec_l1Cur__among rU Lc N bn ((((ex.lo M).lo Y).lo ar).lo b5) ((((dm.lo M).lo Y).lo ar).lo b5) oB oB ([5,17,40,999,1000]:List Int) (gY.rd) oB oB (show ¬kT=gc from by first | omega | (have:=gY.base_le G; omega))) G ?_))⟩
     rintro e zJ ⟨dO,rv,q8,rfl,nJ,pp,km,eF⟩
     refine ⟨_,G,?_⟩
     have vV:=eF.size
     have ek:=ji.step eF (fun _ _ e=>.inl e)
     have o3:(5:Int)≤dO∧dO≤1000:=mem_rngB (lo:=5) (hi:=1000) oG km
     refine Qn ⟨ek,_,G,(Ak 5 G ek (fun w' hw'=>r_build (vs:=[(0,i6 2),(1,i6 m.Id),(2,i6 dO)]) G (bld106_0_1_2 _ _ _))<|Ab 6 G (Qw (o:=0) (vs:=[i6 2,i6 m.Id,i6 dO,i6 0]) agg106.2 G G G G (((((eQ.lo M).lo Y).lo ar).lo b5).kn eF) ler G ?_))⟩
     intro zK jE tX nK
     have jj:=ek.step jE (fun _ _ e=>.inr e)
     refine Qn ⟨jj,_,G,(Ad oC (⟨kT,dO,rv,q8,(At.r G),jj,(nJ.kn jE),nK,pp,km,o3⟩))⟩
    rintro wX zL ⟨pS,cq,dD,gA,lz,hH,n5,n6,ud,tC,tD⟩
    rw [← sA lz]
    have vW:=hH.size
    refine We (retC G G agg106 n6 G (⟨(⟨2,m.Id,cq,0⟩:LibraryStep),dD,gA,eR (eA G),n5,⟨oB,oB⟩,oF,(gU.step hH (fun i_ hi_ e'=>e'.elim (fun e'=>e') (fun e'=>by have e'':i_=u:=e'; omega)))⟩))
   ·have tE:¬((k=3)∧(k=3)):=(not_or.1 fV).1
    have tF:¬((¬(k=3))∧(((k=4)∧(k=4))∨((¬(k=4))∧(((k=5)∧(k=5))∨((¬(k=5))∧(k=6)))))):=(not_or.1 fV).2
    refine Ws (Ws ?_)
    have cg:=(ex.lo M).lo Y
    have ch:=(dm.lo M).lo Y
    have ci:=(eQ.lo M).lo Y
    have Z:=(jT.lo M).lo Y
    have dn:=(((lR.kn v).kn bf).lo M).lo Y
    refine Wr (Q (r_eq G G)<|Q (aB G)<|Qn (W.thenJ (fun f' w'=>At f' [(0,pt gc),(4,pt u),(5,pt n),(6,pt F),(56,i6 k),(79,.bool (decide (((k=7)∧(k=7))∨((¬(k=7))∧(k=8)))))]∧Lo cx w') ?_ ?_))
    ·refine Wd G (fun fW=>?_) (fun fW=>?_)
     ·refine Wk (⟨_,G,⟨G,G,G,G,G,(eDD (jgt fW)),trivial⟩,(lr cx)⟩)
     ·refine Wr (Q (r_eq G G)<|Q (aB G)<|Qn (⟨_,G,⟨G,G,G,G,G,(eDD (jgf fW)),trivial⟩,(lr cx)⟩))
    rintro wY U ⟨lA,p⟩
    rw [← sA lA]
    have vX:=p.size
    have bs:=gU.lo p
    refine Wd G (fun fX=>?_) (fun fX=>?_)
    ·refine Ws (WA (Kp (fun b_=>b_=gc∨b_=u) U) (fun f' w'=>∃ (pU:Nat) (cr:Int) (dE:Int) (gB:Int),At f' [(0,pt gc),(4,pt u),(5,pt n)]∧(Kp (fun b_=>b_=gc∨b_=u) U w')∧(Blk w' gc ec [.slice Ac nc cc,i6 dE,.int .u64 gB])∧(Blk w' u 106 [i6 3,i6 a.Map,i6 a.Reader,i6 cr])∧(N≤dE∧dE≤N+2)∧(cr∈([0,1,1,2]:List Int))∧((0:Int)≤cr∧cr≤2)) mo ?_ ?_)
     ·intro zM ae
      have vY:=ae.size
      refine Ak 0 G (kr ae) (fun w' hw'=>fA fa129_0 G)<|Ak 1 G (kr ae) (fun w' hw'=>lB sca3 G ((dn.lo p).kp hw' (fun e'=>e'.elim (fun e'=>by have e'':F=gc:=e'; omega) (fun e'=>by have e'':F=u:=e'; omega))) G)<|Ak 2 G (kr ae) (fun w' hw'=>fA fa129_1 G)<|Ak 3 G (kr ae) (fun w' hw'=>lB sca3 G ((dn.lo p).kp hw' (fun e'=>e'.elim (fun e'=>by have e'':F=gc:=e'; omega) (fun e'=>by have e'':F=u:=e'; omega))) G)<|Ak 4 G (kr ae) (fun w' hw'=>mP G)<|Ab 5 G (Ql (vs:=[i6 0,i6 1,i6 1,i6 2]) (L:=([0,1,1,2]:List Int)) (enc:=encI) tel93 (fun _=>G) G G G oG ?_)
      intro kU rV tp b7 gZ
      have vZ:=b7.size
      have jk:=((kr ae:Kp (fun b_=>b_=gc∨b_=u) U _)).lo b7
      refine Qn ⟨jk,_,G,(Ab 6 G (Qc ent58 (c___spec_l1Cur__among rV Lc N bn (((cg.lo p).lo ae).lo b7) (((ch.lo p).lo ae).lo b7) oB oB ([0,1,1,2]:List Int) (gZ.rd) oB oB (show ¬kU=gc from by first | omega | (have:=gZ.base_le G; omega))) G ?_))⟩
      rintro e zN ⟨dP,rx,q9,rfl,nM,pq,ko,eG⟩
      refine ⟨_,G,?_⟩
      have v1:=eG.size
      have el:=jk.step eG (fun _ _ e=>.inl e)
      have o4:(0:Int)≤dP∧dP≤2:=mem_rngB (lo:=0) (hi:=2) oG ko
      refine Qn ⟨el,_,G,(Ak 7 G el (fun w' hw'=>r_build (vs:=[(0,i6 3),(1,i6 a.Map),(2,i6 a.Reader),(3,i6 dP)]) G (bld106_0_1_2_3 _ _ _ _))<|Ab 8 G (Qw (o:=0) (vs:=[i6 3,i6 a.Map,i6 a.Reader,i6 dP]) agg106.2 G G G G ((((ci.lo p).lo ae).lo b7).kn eG) ler G ?_))⟩
      intro zO jF tY nN
      have jl:=el.step jF (fun _ _ e=>.inr e)
      refine Qn ⟨jl,_,G,(Ad oC (⟨kU,dP,rx,q9,(At.r G),jl,(nM.kn jF),nN,pq,ko,o4⟩))⟩
     rintro wZ zP ⟨pU,cr,dE,gB,lC,hI,n7,oa,ue,tH,tI⟩
     rw [← sA lC]
     have v6:=hI.size
     refine We (retC G G agg106 oa G (⟨(⟨3,a.Map,a.Reader,cr⟩:LibraryStep),dE,gB,eR (eA G),n7,⟨oB,oB⟩,oF,(bs.step hI (fun i_ hi_ e'=>e'.elim (fun e'=>e') (fun e'=>by have e'':i_=u:=e'; omega)))⟩))
    ·have tJ:¬((k=7)∧(k=7)):=(not_or.1 fX).1
     have tK:¬((¬(k=7))∧(k=8)):=(not_or.1 fX).2
     refine Ws (Wr (Q (r_eq G G)<|Q (aB G)<|Qn (Wd G (fun p1=>?_) (fun p1=>?_))))
     ·refine Ws (WA (Kp (fun b_=>b_=gc∨b_=u) U) (fun f' w'=>∃ (bo:Int) (dF:Int) (gC:Int) (pV:Nat),At f' [(0,pt gc),(4,pt u),(5,pt n)]∧(Kp (fun b_=>b_=gc∨b_=u) U w')∧(Blk w' gc ec [.slice Ac nc cc,i6 dF,.int .u64 gC])∧(Blk w' u 106 [i6 4,i6 m.Id,i6 0,i6 bo])∧(N≤dF∧dF≤N+2)∧(bo∈([1,max 1 m.Torn,m.Torn+1]:List Int))∧((bo:Int)=1∨(bo:Int)=(max 1 m.Torn)∨(bo:Int)=(m.Torn+1))) mo ?_ ?_)
      ·intro rW S
       have v7:=S.size
       refine Ak 0 G (kr S) (fun w' hw'=>fA fa102_0 G)<|Ak 1 G (kr S) (fun w' hw'=>lB sca3 G ((Z.lo p).kp hw' (fun e'=>e'.elim (fun e'=>by have e'':n=gc:=e'; omega) (fun e'=>by have e'':n=u:=e'; omega))) G)<|Ak 2 G (kr S) (fun w' hw'=>mP G)<|Ak 3 G (kr S) (fun w' hw'=>fA fa102_2 G)<|Ak 4 G (kr S) (fun w' hw'=>lB sca3 G ((Z.lo p).kp hw' (fun e'=>e'.elim (fun e'=>by have e'':n=gc:=e'; omega) (fun e'=>by have e'':n=u:=e'; omega))) G)<|Ak 6 G (kr S) (fun w' hw'=>fA fa102_2 G)<|Ak 7 G (kr S) (fun w' hw'=>lB sca3 G ((Z.lo p).kp hw' (fun e'=>e'.elim (fun e'=>by have e'':n=gc:=e'; omega) (fun e'=>by have e'':n=u:=e'; omega))) G)<|Ak 8 G (kr S) (fun w' hw'=>r_add G G oB)<|Ab 5 G (Qv ent109 (c_spec_l1Most rW 1 m.Torn) G fun zQ c7 v8=>?_)
       have jm:=((kr S:Kp (fun b_=>b_=gc∨b_=u) U _)).lo c7
       refine Qn ⟨jm,_,G,(Ab 9 G (Ql (vs:=[i6 1,i6 (max 1 m.Torn),i6 (m.Torn+1)]) (L:=([1,max 1 m.Torn,m.Torn+1]:List Int)) (enc:=encI) tel93 (fun _=>G) G G G oG ?_))⟩
       intro kV rY tq b8 g0
       have wa:=b8.size
       have jn:=jm.lo b8
       refine Qn ⟨jn,_,G,(Ab 10 G (Qc ent58 (c___spec_l1Cur__among rY Lc N bn ((((cg.lo p).lo S).lo c7).lo b8) ((((ch.lo p).lo S).lo c7).lo b8) oB oB ([1,max 1 m.Torn,m.Torn+1]:List Int) (g0.rd) oB oB (show ¬kV=gc from by first | omega | (have:=g0.base_le G; omega))) G ?_))⟩
       rintro e zR ⟨ct,ry,ra,rfl,nO,pr,ks,eH⟩
       refine ⟨_,G,?_⟩
       have wb:=eH.size
       have em:=jn.step eH (fun _ _ e=>.inl e)
       have o5:(ct:Int)=1∨(ct:Int)=(max 1 m.Torn)∨(ct:Int)=(m.Torn+1):=by simpa only [List.mem_cons,List.not_mem_nil,or_false] using ks
       refine Qn ⟨em,_,G,(Ak 11 G em (fun w' hw'=>r_build (vs:=[(0,i6 4),(1,i6 m.Id),(3,i6 ct)]) G (bld106_0_1_3 _ _ _))<|Ab 12 G (Qw (o:=0) (vs:=[i6 4,i6 m.Id,i6 0,i6 ct]) agg106.2 G G G G (((((ci.lo p).lo S).lo c7).lo b8).kn eH) ler G ?_))⟩
       intro zS jG tZ nP
       have jo:=em.step jG (fun _ _ e=>.inr e)
       refine Qn ⟨jo,_,G,(Ad oC (⟨ct,ry,ra,kV,(At.r G),jo,(nO.kn jG),nP,pr,ks,o5⟩))⟩
      rintro w0 zT ⟨bo,dF,gC,pV,lD,hJ,ob,oc,uf,tL,tM⟩
      rw [← sA lD]
      have wc:=hJ.size
      refine We (retC G G agg106 oc G (⟨(⟨4,m.Id,0,bo⟩:LibraryStep),dF,gC,eR (eA G),ob,⟨oB,oB⟩,oF,(bs.step hJ (fun i_ hi_ e'=>e'.elim (fun e'=>e') (fun e'=>by have e'':i_=u:=e'; omega)))⟩))
     ·refine Ws (Wr (Q (r_eq G G)<|Q (aB G)<|Qn (Wd G (fun p2=>?_) (fun p2=>?_))))
      ·refine Ws (WA (Kp (fun b_=>b_=gc∨b_=u) U) (fun f' w'=>∃ (pW:Nat) (cu:Int) (dG:Int) (gD:Int),At f' [(0,pt gc),(4,pt u),(5,pt n)]∧(Kp (fun b_=>b_=gc∨b_=u) U w')∧(Blk w' gc ec [.slice Ac nc cc,i6 dG,.int .u64 gD])∧(Blk w' u 106 [i6 5,i6 a.Map,i6 a.Reader,i6 cu])∧(N≤dG∧dG≤N+2)∧(cu∈([5,17,18,999]:List Int))∧((5:Int)≤cu∧cu≤999)) mo ?_ ?_)
       ·intro zU ag
        have wg:=ag.size
        refine Ak 0 G (kr ag) (fun w' hw'=>fA fa129_0 G)<|Ak 1 G (kr ag) (fun w' hw'=>lB sca3 G ((dn.lo p).kp hw' (fun e'=>e'.elim (fun e'=>by have e'':F=gc:=e'; omega) (fun e'=>by have e'':F=u:=e'; omega))) G)<|Ak 2 G (kr ag) (fun w' hw'=>fA fa129_1 G)<|Ak 3 G (kr ag) (fun w' hw'=>lB sca3 G ((dn.lo p).kp hw' (fun e'=>e'.elim (fun e'=>by have e'':F=gc:=e'; omega) (fun e'=>by have e'':F=u:=e'; omega))) G)<|Ak 4 G (kr ag) (fun w' hw'=>mP G)<|Ab 5 G (Ql (vs:=[i6 5,i6 17,i6 18,i6 999]) (L:=([5,17,18,999]:List Int)) (enc:=encI) tel93 (fun _=>G) G G G oG ?_)
        intro kW rZ tr b9 g2
        have wh:=b9.size
        have jp:=((kr ag:Kp (fun b_=>b_=gc∨b_=u) U _)).lo b9
        refine Qn ⟨jp,_,G,(Ab 6 G (Qc ent58 (c___spec_l1Cur__among rZ Lc N bn (((cg.lo p).lo ag).lo b9) (((ch.lo p).lo ag).lo b9) oB oB ([5,17,18,999]:List Int) (g2.rd) oB oB (show ¬kW=gc from by first | omega | (have:=g2.base_le G; omega))) G ?_))⟩
        rintro e zV ⟨dQ,rz,rb,rfl,nQ,pu,kt,eK⟩
        refine ⟨_,G,?_⟩
        have wi:=eK.size
        have eo:=jp.step eK (fun _ _ e=>.inl e)
        have o6:(5:Int)≤dQ∧dQ≤999:=mem_rngB (lo:=5) (hi:=999) oG kt
        refine Qn ⟨eo,_,G,(Ak 7 G eo (fun w' hw'=>r_build (vs:=[(0,i6 5),(1,i6 a.Map),(2,i6 a.Reader),(3,i6 dQ)]) G (bld106_0_1_2_3 _ _ _ _))<|Ab 8 G (Qw (o:=0) (vs:=[i6 5,i6 a.Map,i6 a.Reader,i6 dQ]) agg106.2 G G G G ((((ci.lo p).lo ag).lo b9).kn eK) ler G ?_))⟩
        intro zW jH t1 nR
        have jq:=eo.step jH (fun _ _ e=>.inr e)
        refine Qn ⟨jq,_,G,(Ad oC (⟨kW,dQ,rz,rb,(At.r G),jq,(nQ.kn jH),nR,pu,kt,o6⟩))⟩
       rintro w7 zX ⟨pW,cu,dG,gD,lE,hP,od,oe,ug,tN,tO⟩
       rw [← sA lE]
       have wj:=hP.size
       refine We (retC G G agg106 oe G (⟨(⟨5,a.Map,a.Reader,cu⟩:LibraryStep),dG,gD,eR (eA G),od,⟨oB,oB⟩,oF,(bs.step hP (fun i_ hi_ e'=>e'.elim (fun e'=>e') (fun e'=>by have e'':i_=u:=e'; omega)))⟩))
      ·refine Ws (Wr (Q (r_eq G G)<|Q (aB G)<|Qn (Wd G (fun p3=>?_) (fun p3=>?_))))
       ·refine Ws (WA (Kp (fun b_=>b_=gc∨b_=u) U) (fun f' w'=>∃ (bp:Int) (dH:Int) (gE:Int) (pX:Nat),At f' [(0,pt gc),(4,pt u),(5,pt n)]∧(Kp (fun b_=>b_=gc∨b_=u) U w')∧(Blk w' gc ec [.slice Ac nc cc,i6 dH,.int .u64 gE])∧(Blk w' u 106 [i6 6,i6 m.Id,i6 0,i6 bp])∧(N≤dH∧dH≤N+2)∧(bp∈([1,max 1 m.Torn,m.Torn+1]:List Int))∧((bp:Int)=1∨(bp:Int)=(max 1 m.Torn)∨(bp:Int)=(m.Torn+1))) mo ?_ ?_)
        ·intro r1 T
         have wk:=T.size
         refine Ak 0 G (kr T) (fun w' hw'=>fA fa102_0 G)<|Ak 1 G (kr T) (fun w' hw'=>lB sca3 G ((Z.lo p).kp hw' (fun e'=>e'.elim (fun e'=>by have e'':n=gc:=e'; omega) (fun e'=>by have e'':n=u:=e'; omega))) G)<|Ak 2 G (kr T) (fun w' hw'=>mP G)<|Ak 3 G (kr T) (fun w' hw'=>fA fa102_2 G)<|Ak 4 G (kr T) (fun w' hw'=>lB sca3 G ((Z.lo p).kp hw' (fun e'=>e'.elim (fun e'=>by have e'':n=gc:=e'; omega) (fun e'=>by have e'':n=u:=e'; omega))) G)<|Ak 6 G (kr T) (fun w' hw'=>fA fa102_2 G)<|Ak 7 G (kr T) (fun w' hw'=>lB sca3 G ((Z.lo p).kp hw' (fun e'=>e'.elim (fun e'=>by have e'':n=gc:=e'; omega) (fun e'=>by have e'':n=u:=e'; omega))) G)<|Ak 8 G (kr T) (fun w' hw'=>r_add G G oB)<|Ab 5 G (Qv ent109 (c_spec_l1Most r1 1 m.Torn) G fun zY da wl=>?_)
         have jr:=((kr T:Kp (fun b_=>b_=gc∨b_=u) U _)).lo da
         refine Qn ⟨jr,_,G,(Ab 9 G (Ql (vs:=[i6 1,i6 (max 1 m.Torn),i6 (m.Torn+1)]) (L:=([1,max 1 m.Torn,m.Torn+1]:List Int)) (enc:=encI) tel93 (fun _=>G) G G G oG ?_))⟩
         intro kX r2 tt ca g5
         have wm:=ca.size
         have js:=jr.lo ca
         refine Qn ⟨js,_,G,(Ab 10 G (Qc ent58 (c___spec_l1Cur__among r2 Lc N bn ((((cg.lo p).lo T).lo da).lo ca) ((((ch.lo p).lo T).lo da).lo ca) oB oB ([1,max 1 m.Torn,m.Torn+1]:List Int) (g5.rd) oB oB (show ¬kX=gc from by first | omega | (have:=g5.base_le G; omega))) G ?_))⟩
         rintro e zZ ⟨cw,rA,rc,rfl,nS,pw,ku,eL⟩
         refine ⟨_,G,?_⟩
         have wn:=eL.size
         have et:=js.step eL (fun _ _ e=>.inl e)
         have o7:(cw:Int)=1∨(cw:Int)=(max 1 m.Torn)∨(cw:Int)=(m.Torn+1):=by simpa only [List.mem_cons,List.not_mem_nil,or_false] using ku
         refine Qn ⟨et,_,G,(Ak 11 G et (fun w' hw'=>r_build (vs:=[(0,i6 6),(1,i6 m.Id),(3,i6 cw)]) G (bld106_0_1_3 _ _ _))<|Ab 12 G (Qw (o:=0) (vs:=[i6 6,i6 m.Id,i6 0,i6 cw]) agg106.2 G G G G (((((ci.lo p).lo T).lo da).lo ca).kn eL) ler G ?_))⟩
         intro z1 jI t7 nT
         have jt:=et.step jI (fun _ _ e=>.inr e)
         refine Qn ⟨jt,_,G,(Ad oC (⟨cw,rA,rc,kX,(At.r G),jt,(nS.kn jI),nT,pw,ku,o7⟩))⟩
        rintro xa z6 ⟨bp,dH,gE,pX,lF,hQ,og,oh,uh,tP,tQ⟩
        rw [← sA lF]
        have wo:=hQ.size
        refine We (retC G G agg106 oh G (⟨(⟨6,m.Id,0,bp⟩:LibraryStep),dH,gE,eR (eA G),og,⟨oB,oB⟩,oF,(bs.step hQ (fun i_ hi_ e'=>e'.elim (fun e'=>e') (fun e'=>by have e'':i_=u:=e'; omega)))⟩))
       ·refine Wk (Ws (WA (Kp (fun b_=>b_=gc∨b_=u) U) (fun f' w'=>∃ (pY:Nat) (aK:Int) (dI:Int) (gF:Int),At f' [(4,pt u)]∧(Kp (fun b_=>b_=gc∨b_=u) U w')∧(Blk w' gc ec [.slice Ac nc cc,i6 dI,.int .u64 gF])∧(Blk w' u 106 [i6 7,i6 m.Id,i6 0,i6 aK])∧(N≤dI∧dI≤N+2)∧(aK∈([1,max 1 (m.Copies-m.Torn),(m.Copies-m.Torn)+1,2000000]:List Int))∧((aK:Int)=1∨(aK:Int)=(max 1 (m.Copies-m.Torn))∨(aK:Int)=((m.Copies-m.Torn)+1)∨(aK:Int)=2000000)) mo ?_ ?_))
        ·intro r3 I
         have wq:=I.size
         refine Ak 0 G (kr I) (fun w' hw'=>fA fa102_0 G)<|Ak 1 G (kr I) (fun w' hw'=>lB sca3 G ((Z.lo p).kp hw' (fun e'=>e'.elim (fun e'=>by have e'':n=gc:=e'; omega) (fun e'=>by have e'':n=u:=e'; omega))) G)<|Ak 2 G (kr I) (fun w' hw'=>mP G)<|Ak 3 G (kr I) (fun w' hw'=>fA fa102_1 G)<|Ak 4 G (kr I) (fun w' hw'=>lB sca3 G ((Z.lo p).kp hw' (fun e'=>e'.elim (fun e'=>by have e'':n=gc:=e'; omega) (fun e'=>by have e'':n=u:=e'; omega))) G)<|Ak 5 G (kr I) (fun w' hw'=>fA fa102_2 G)<|Ak 6 G (kr I) (fun w' hw'=>lB sca3 G ((Z.lo p).kp hw' (fun e'=>e'.elim (fun e'=>by have e'':n=gc:=e'; omega) (fun e'=>by have e'':n=u:=e'; omega))) G)<|Ak 7 G (kr I) (fun w' hw'=>r_sub G G oB)<|Ak 9 G (kr I) (fun w' hw'=>fA fa102_1 G)<|Ak 10 G (kr I) (fun w' hw'=>lB sca3 G ((Z.lo p).kp hw' (fun e'=>e'.elim (fun e'=>by have e'':n=gc:=e'; omega) (fun e'=>by have e'':n=u:=e'; omega))) G)<|Ak 11 G (kr I) (fun w' hw'=>fA fa102_2 G)<|Ak 12 G (kr I) (fun w' hw'=>lB sca3 G ((Z.lo p).kp hw' (fun e'=>e'.elim (fun e'=>by have e'':n=gc:=e'; omega) (fun e'=>by have e'':n=u:=e'; omega))) G)<|Ak 13 G (kr I) (fun w' hw'=>r_sub G G oB)<|Ak 14 G (kr I) (fun w' hw'=>r_add G G oB)<|Ab 8 G (Qv ent109 (c_spec_l1Most r3 1 (m.Copies-m.Torn)) G fun z7 db wr=>?_)
         have ju:=((kr I:Kp (fun b_=>b_=gc∨b_=u) U _)).lo db
         refine Qn ⟨ju,_,G,(Ab 15 G (Ql (vs:=[i6 1,i6 (max 1 (m.Copies-m.Torn)),i6 ((m.Copies-m.Torn)+1),i6 2000000]) (L:=([1,max 1 (m.Copies-m.Torn),(m.Copies-m.Torn)+1,2000000]:List Int)) (enc:=encI) tel93 (fun _=>G) G G G oG ?_))⟩
         intro kY r4 tu cd g6
         have ws:=cd.size
         have jv:=ju.lo cd
         refine Qn ⟨jv,_,G,(Ab 16 G (Qc ent58 (c___spec_l1Cur__among r4 Lc N bn ((((cg.lo p).lo I).lo db).lo cd) ((((ch.lo p).lo I).lo db).lo cd) oB oB ([1,max 1 (m.Copies-m.Torn),(m.Copies-m.Torn)+1,2000000]:List Int) (g6.rd) oB oB (show ¬kY=gc from by first | omega | (have:=g6.base_le G; omega))) G ?_))⟩
         rintro e z8 ⟨bq,rB,re,rfl,nU,px,kv,eM⟩
         refine ⟨_,G,?_⟩
         have wt:=eM.size
         have eu:=jv.step eM (fun _ _ e=>.inl e)
         have o8:(bq:Int)=1∨(bq:Int)=(max 1 (m.Copies-m.Torn))∨(bq:Int)=((m.Copies-m.Torn)+1)∨(bq:Int)=2000000:=by simpa only [List.mem_cons,List.not_mem_nil,or_false] using kv
         refine Qn ⟨eu,_,G,(Ak 17 G eu (fun w' hw'=>r_build (vs:=[(0,i6 7),(1,i6 m.Id),(3,i6 bq)]) G (bld106_0_1_3 _ _ _))<|Ab 18 G (Qw (o:=0) (vs:=[i6 7,i6 m.Id,i6 0,i6 bq]) agg106.2 G G G G (((((ci.lo p).lo I).lo db).lo cd).kn eM) ler G ?_))⟩
         intro Aa jJ t8 nW
         have jw:=eu.step jJ (fun _ _ e=>.inr e)
         refine Qn ⟨jw,_,G,(Ad oC (⟨kY,bq,rB,re,⟨G,trivial⟩,jw,(nU.kn jJ),nW,px,kv,o8⟩))⟩
        rintro xb Ae ⟨pY,aK,dI,gF,lH,hU,oi,oj,ui,tT,tU⟩
        rw [← sA lH]
        have wu:=hU.size
        refine We (retC G G agg106 oj G (⟨(⟨7,m.Id,0,aK⟩:LibraryStep),dI,gF,eR (eA G),oi,⟨oB,oB⟩,oF,(bs.step hU (fun i_ hi_ e'=>e'.elim (fun e'=>e') (fun e'=>by have e'':i_=u:=e'; omega)))⟩))
end Go.Proofs.YtndcchndcghmoaaGreatDoor
namespace Go.Proofs.YtndcchndcghmoaaGreatDoor
open Go Go.RowKit Fw
set_option maxRecDepth 10000
set_option maxHeartbeats 2000000
set_option linter.unusedVariables false
variable {Ac : Option Addr} {nc cc Bc : Nat}
theorem bld34_0_1 (a0:Option Addr) (b0 c0:Nat) (a1:Option Addr) (b1 c1:Nat):Tryz.prog.built 34 [(0,.slice a0 b0 c0),(1,.slice a1 b1 c1)]=some (List.toArray [.slice a0 b0 c0,.slice a1 b1 c1,i6 0,i6 0,i6 0]):=by kernel_rfl
theorem bld35_:Tryz.prog.built 35 []=some (List.toArray [str ([]:List UInt8),str ([]:List UInt8),i6 0]):=by kernel_rfl
theorem bld35_0_2 (a0:List UInt8) (a2:Int):Tryz.prog.built 35 [(0,str a0),(2,i6 a2)]=some (List.toArray [str a0,str ([]:List UInt8),i6 a2]):=by kernel_rfl
theorem ent108:Ent Tryz.prog 108:=en Tryz.func108
theorem c___spec_l1Cur__library (w:World) {gc ec:Nat} (Lc:List UInt8) (tc sc:Int) (hc:Blk w gc ec [.slice Ac nc cc,i6 tc,.int .u64 sc]) (hLc:SlR w Bc encB 1 Ac nc cc Lc) (hgc:Bc≤gc) (htc:0≤tc∧tc+800≤4611686018427387904):Calls Tryz.prog 112 #[.pointer (some ⟨gc,0,none⟩)] w fun e w'=>∃ (A1':Option Addr) (n1' c1':Nat) (A2':Option Addr) (n2' c2':Nat) (x:Library) (tc' sc':Int),e=.returned (.agg (List.toArray (cLb A1' n1' c1' A2' n2' c2' x)))∧SlO w' w.heap.size encLMap 3 102 A1' n1' c1' x.Maps∧SlO w' w.heap.size encAway 2 129 A2' n2' c2' x.Away∧Dj A1' A2'∧Blk w' gc ec [.slice Ac nc cc,i6 tc',.int .u64 sc']∧(tc≤tc'∧tc'≤tc+800)∧(x.Maps.length≤9∧x.Away.length≤9)∧(MapB x.Maps)∧(AwayB x.Away)∧Kp (fun b_=>b_=gc) w w':=by
 refine cW 67 Tryz.func112 G G G ?_
 have hBlc:=hc.lt
 have hbdc:=hLc.bound
 have hlec:=hLc.len
 have hBbc:=hLc.bd
 refine Ws (Wr (Qa (l:=zLb) tz34 G ?_))
 intro g1 w2 qu j4 qv nx
 refine Qn (Ws (Wr (Ql (vs:=[]) (L:=([]:List LMap)) (enc:=encLMap) tel31 (fun _=>G) G G G oG ?_)))
 intro g9 qw pR dJ fy
 have qa:=dJ.size
 refine Ql (vs:=[]) (L:=([]:List Away)) (enc:=encAway) tel32 (fun _=>G) G G G oG ?_
 intro cu qx pS cn jC
 have qb:=cn.size
 refine Q (r_build (vs:=[(0,.slice (pA g9) 0 0),(1,.slice (pA cu) 0 0)]) G (bld34_0_1 _ _ _ _ _ _))<|Qa (l:=zLb) tz34 G ?_
 intro c qy pU cx p7 lu
 have jD:=nE (g:=c) (fy.lo cn)
 have jE:=nE (g:=c) jC
 refine Qw (o:=0) (vs:=[.slice (pA g9) 0 0,.slice (pA cu) 0 0,i6 0,i6 0,i6 0]) agg34.2 G G G G lu ler G ?_
 intro pK cy p8 lv
 refine Qn (Ws (Ws ?_))
 have jF:=((((hLc.lo j4).lo dJ).lo cn).lo cx).kn cy
 have gk:=((fy.lo cn).lo cx).kd cy jD
 have gl:=(jC.lo cx).kd cy jE
 refine Wr (Q (mP G)<|Qc ent59 (c___spec_l1Cur__pick pK Lc tc sc (((((hc.lo j4).lo dJ).lo cn).lo cx).kn cy) jF oB oB 36 oD) G ?_)
 rintro e d4 ⟨jB,jA,lD,rfl,lw,p9,p3,aM⟩
 refine ⟨_,G,?_⟩
 have qc:=aM.size
 refine Q (aI G)<|Qn (Wl (WL (σ:=Int × Library × Int × Int × (Option Addr) × Nat × Nat × (Option Addr) × Nat × Nat) (fun g=>[(0,pt gc),(2,pt g1),(3,pt c),(4,i6 g.1)]) (fun g w'=>(Kp (fun b_=>b_=gc) w w')∧(Blk w' gc ec [.slice Ac nc cc,i6 g.2.2.1,.int .u64 g.2.2.2.1])∧(SlR w' Bc encB 1 Ac nc cc Lc)∧(Blk w' g1 34 zLb)∧(Blk w' c 34 (cLb g.2.2.2.2.1 g.2.2.2.2.2.1 g.2.2.2.2.2.2.1 g.2.2.2.2.2.2.2.1 g.2.2.2.2.2.2.2.2.1 g.2.2.2.2.2.2.2.2.2 g.2.1))∧(SlO w' w.heap.size encLMap 3 102 g.2.2.2.2.1 g.2.2.2.2.2.1 g.2.2.2.2.2.2.1 g.2.1.Maps)∧(SlO w' w.heap.size encAway 2 129 g.2.2.2.2.2.2.2.1 g.2.2.2.2.2.2.2.2.1 g.2.2.2.2.2.2.2.2.2 g.2.1.Away)∧(¬g.2.2.2.2.1=some ⟨gc,0,none⟩)∧(¬g.2.2.2.2.1=some ⟨g1,0,none⟩)∧(¬g.2.2.2.2.1=some ⟨c,0,none⟩)∧(∀ b_,g.2.2.2.2.1=some ⟨b_,0,none⟩→¬g.2.2.2.2.2.2.2.1=some ⟨b_,0,none⟩)∧(¬g.2.2.2.2.2.2.2.1=some ⟨gc,0,none⟩)∧(¬g.2.2.2.2.2.2.2.1=some ⟨g1,0,none⟩)∧(¬g.2.2.2.2.2.2.2.1=some ⟨c,0,none⟩)∧((0≤g.1∧g.1≤35)∧LibOK g.2.1∧tc≤g.2.2.1∧g.2.2.1≤tc+4+20*(35-g.1))) (fun g=>g.1.toNat) (jB,(⟨([]:List LMap),([]:List Away),0,0,0⟩:Library),jA,lD,(pA g9),0,0,(pA cu),0,0) ?_ ?_ ?_))
 ·exact (At.r G)
 ·show (Kp (fun b_=>b_=gc) w d4)∧(Blk d4 gc ec [.slice Ac nc cc,i6 jA,.int .u64 lD])∧(SlR d4 Bc encB 1 Ac nc cc Lc)∧(Blk d4 g1 34 zLb)∧(Blk d4 c 34 (cLb (pA g9) 0 0 (pA cu) 0 0 (⟨([]:List LMap),([]:List Away),0,0,0⟩:Library)))∧(SlO d4 w.heap.size encLMap 3 102 (pA g9) 0 0 ((⟨([]:List LMap),([]:List Away),0,0,0⟩:Library).Maps))∧(SlO d4 w.heap.size encAway 2 129 (pA cu) 0 0 ((⟨([]:List LMap),([]:List Away),0,0,0⟩:Library).Away))∧(¬(pA g9)=some ⟨gc,0,none⟩)∧(¬(pA g9)=some ⟨g1,0,none⟩)∧(¬(pA g9)=some ⟨c,0,none⟩)∧(∀ b_,(pA g9)=some ⟨b_,0,none⟩→¬(pA cu)=some ⟨b_,0,none⟩)∧(¬(pA cu)=some ⟨gc,0,none⟩)∧(¬(pA cu)=some ⟨g1,0,none⟩)∧(¬(pA cu)=some ⟨c,0,none⟩)∧((0≤jB∧jB≤35)∧LibOK (⟨([]:List LMap),([]:List Away),0,0,0⟩:Library)∧tc≤jA∧jA≤tc+4+20*(35-jB))
  exact ⟨(((((((kr j4:Kp (fun b_=>b_=gc) w _)).lo dJ).lo cn).lo cx).new cy).step aM (fun i_ hi_ e'=>e')),lw,jF.kn aM,((((nx.lo dJ).lo cn).lo cx).kn cy).kn aM,(lv.kn aM),(oq ((gk.kn aM).down) oU),(oq ((gl.kn aM).down) oU),(fun e'=>by have:=(gk.kn aM).base_le e'; omega),(fun e'=>by have:=(gk.kn aM).base_le e'; omega),jD,(fun b_ h h'=>(nE (g:=cu) fy) (h.trans h'.symm)),(fun e'=>by have:=(gl.kn aM).base_le e'; omega),(nE (gl.kn aM)),jE,(by exact ⟨oB,nil_lib,oB,oB⟩)⟩
 ·rintro ⟨n,o,t,z,f,B,H,p,K,R⟩ nv ax ls
  obtain ⟨fx,eW,an,bC,C,m,q,d,cl,bO,am,i,cm,aJ,cw⟩:(Kp (fun b_=>b_=gc) w ax)∧(Blk ax gc ec [.slice Ac nc cc,i6 t,.int .u64 z])∧(SlR ax Bc encB 1 Ac nc cc Lc)∧(Blk ax g1 34 zLb)∧(Blk ax c 34 (cLb f B H p K R o))∧(SlO ax w.heap.size encLMap 3 102 f B H o.Maps)∧(SlO ax w.heap.size encAway 2 129 p K R o.Away)∧(¬f=some ⟨gc,0,none⟩)∧(¬f=some ⟨g1,0,none⟩)∧(¬f=some ⟨c,0,none⟩)∧Dj f p∧(¬p=some ⟨gc,0,none⟩)∧(¬p=some ⟨g1,0,none⟩)∧(¬p=some ⟨c,0,none⟩)∧((0≤n∧n≤35)∧LibOK o∧tc≤t∧t≤tc+4+20*(35-n)):=ls
  refine (?_:W _ _ _ _ _ (act _ (sets nv [(0,pt gc),(2,pt g1),(3,pt c),(4,i6 n)])) _)
  have oz:=fx.size
  have pV:=eW.lt
  have pW:=bC.lt
  have pX:=C.lt
  have pY:=m.len
  have pZ:=m.rd.bound
  have p1:=q.len
  have p2:=q.rd.bound
  have p4:LibOK o:=cw.2.1
  have p5:(o.Maps.length≤8∧o.Away.length≤8)∧(0≤o.Bought∧o.Bought≤9999):=lib_bought cw.2.1
  have gM:MapB o.Maps:=MapB.of cw.2.1.1.1
  have gN:AwayB o.Away:=AwayB.of cw.2.1
  have p6:(0≤n∧n≤35)∧tc≤t∧t≤tc+4+20*(35-n):=And.intro cw.1 cw.2.2
  refine Ws (Ws (Wr (Q (mI G)<|Q (r_gt G G)<|Qn (Wd G (fun nw=>?_) (fun nw=>?_)))))
  ·refine Wk (Ws (Wl (Ws (WA (Kp (fun b_=>b_=gc) ax) (fun f' w'=>∃ (j:LibraryStep) (O:Int) (au:Int) (M:Option Addr) (ac:Nat) (ay:Nat) (N:Option Addr) (ae:Nat) (az:Nat) (U:Nat),At f' [(0,pt gc),(2,pt g1),(3,pt c),(4,i6 n),(5,pt U),(6,.bool ((spec_StepLibrary o j).2))]∧(Kp (fun b_=>b_=gc) ax w')∧(SlO w' ax.heap.size encLMap 3 102 M ac ay (((spec_StepLibrary o j).1).Maps))∧(SlO w' ax.heap.size encAway 2 129 N ae az (((spec_StepLibrary o j).1).Away))∧(Blk w' U 34 (cLb M ac ay N ae az ((spec_StepLibrary o j).1)))∧(ax.heap.size≤U∧U<w'.heap.size)∧(Blk w' gc ec [.slice Ac nc cc,i6 O,.int .u64 au])∧(¬f=some ⟨U,0,none⟩)∧(¬p=some ⟨U,0,none⟩)∧(¬M=some ⟨U,0,none⟩)∧(¬N=some ⟨U,0,none⟩)∧Dj M f∧Dj M p∧Dj M N∧Dj N f∧Dj N p∧(t≤O∧O≤t+20)∧((-10000000≤j.Id∧j.Id≤10000000)∧(-10000000≤j.Reader∧j.Reader≤10000000)∧(-10000000≤j.Value∧j.Value≤10000000))∧(ac=(((spec_StepLibrary o j).1).Maps).length)∧((ac:Int)≤9223372036854775807)∧((((spec_StepLibrary o j).1).Maps).length≤8)∧(ae=(((spec_StepLibrary o j).1).Away).length)∧((ae:Int)≤9223372036854775807)∧((((spec_StepLibrary o j).1).Away).length≤8)) mo ?_ ?_))))
   ·intro lL u
    have ob:=u.size
    refine Av #[true,true,true,true,true,true,true,true,true,false,false] 2 (fun f' w'=>∃ (j:LibraryStep) (O:Int) (au:Int) (M:Option Addr) (ac:Nat) (ay:Nat) (N:Option Addr) (ae:Nat) (az:Nat) (U:Nat),At f' [(0,pt gc),(2,pt g1),(3,pt c),(4,i6 n),(5,pt U),(22,.agg (List.toArray (cLb M ac ay N ae az ((spec_StepLibrary o j).1)))),(23,.bool ((spec_StepLibrary o j).2))]∧(Kp (fun b_=>b_=gc) ax w')∧(SlO w' ax.heap.size encLMap 3 102 M ac ay (((spec_StepLibrary o j).1).Maps))∧(SlO w' ax.heap.size encAway 2 129 N ae az (((spec_StepLibrary o j).1).Away))∧(Blk w' U 34 zLb)∧(ax.heap.size≤U∧U<w'.heap.size)∧(Blk w' gc ec [.slice Ac nc cc,i6 O,.int .u64 au])∧(¬f=some ⟨U,0,none⟩)∧(¬p=some ⟨U,0,none⟩)∧(¬M=some ⟨U,0,none⟩)∧(¬N=some ⟨U,0,none⟩)∧Dj M f∧Dj M p∧Dj M N∧Dj N f∧Dj N p∧(t≤O∧O≤t+20)∧((-10000000≤j.Id∧j.Id≤10000000)∧(-10000000≤j.Reader∧j.Reader≤10000000)∧(-10000000≤j.Value∧j.Value≤10000000))∧(ac=(((spec_StepLibrary o j).1).Maps).length)∧((ac:Int)≤9223372036854775807)∧((((spec_StepLibrary o j).1).Maps).length≤8)∧(ae=(((spec_StepLibrary o j).1).Away).length)∧((ae:Int)≤9223372036854775807)∧((((spec_StepLibrary o j).1).Away).length≤8)) ?_ (fun gA=>?_)
    ·rintro pL qe ⟨j,O,au,M,ac,ay,N,ae,az,U,hZ,fz,kf,kg,kh,nO,ki,jQ,jR,f4,f5,jS,jT,jU,jV,jW,dB,du,ga,gb,gE,gf,gh,gF⟩
     rw [← sA hZ]
     have oc:=fz.size
     refine Ab 9 G (Qw (o:=0) (vs:=(cLb M ac ay N ae az ((spec_StepLibrary o j).1))) agg34.2 G G G G kh ler G ?_)
     intro qf c7 nY fW
     have dW:=fz.new c7
     refine Qn ⟨dW,_,G,(Ak 10 G dW (fun w' hw'=>aB G)<|Ad oC (⟨j,O,au,M,ac,ay,N,ae,az,U,(At.r G),dW,((kf.kd c7 f4).down),((kg.kd c7 f5).down),fW,⟨oB,fW.lt⟩,(ki.kn c7),jQ,jR,f4,f5,jS,jT,jU,jV,jW,dB,du,ga,gb,gE,gf,gh,gF⟩))⟩
    refine Av #[true,true,true,true,false,false,false,false,true,false,false] 6 (fun f' w'=>∃ (j:LibraryStep) (O:Int) (au:Int) (bM:Nat),At f' [(0,pt gc),(2,pt g1),(3,pt c),(4,i6 n),(5,pt bM),(17,.agg (List.toArray (cLb f B H p K R o))),(20,.agg (List.toArray [i6 j.Kind,i6 j.Id,i6 j.Reader,i6 j.Value]))]∧(Kp (fun b_=>b_=gc) ax w')∧(Blk w' bM 34 zLb)∧(ax.heap.size≤bM∧bM<w'.heap.size)∧(Blk w' gc ec [.slice Ac nc cc,i6 O,.int .u64 au])∧(¬f=some ⟨bM,0,none⟩)∧(¬p=some ⟨bM,0,none⟩)∧(t≤O∧O≤t+20)∧((-10000000≤j.Id∧j.Id≤10000000)∧(-10000000≤j.Reader∧j.Reader≤10000000)∧(-10000000≤j.Value∧j.Value≤10000000))) ?_ (fun gB=>?_)
    ·rintro pM lM ⟨j,O,au,bM,ia,aH,gj,nQ,kk,jY,jZ,dB,du⟩
     rw [← sA ia]
     have od:=aH.size
     refine Ab 4 G (Qc ent67 (c_spec_StepLibrary lM o ((m.kd aH d).rd) ((q.kd aH i).rd) j) G ?_)
     rintro e qg ⟨lf,lx,lj,lg,ly,lk,rfl,bH,bI,j0,co⟩
     refine ⟨_,G,?_⟩
     have oe:=co.size
     have ci:=aH.lo co
     have j5:=bH.len
     have j6:=bH.rd.bound
     have kJ:=step_lenMS o j
     have j7:=bI.len
     have j8:=bI.rd.bound
     have kK:=step_lenAS o j
     refine Qn ⟨ci,_,G,(Ak 5 G ci (fun w' hw'=>mT G)<|Ak 6 G ci (fun w' hw'=>xG G G)<|Ak 7 G ci (fun w' hw'=>xB G G)<|Ag oC G (gA _ _ (⟨j,O,au,lf,lx,lj,lg,ly,lk,bM,(At.r G),ci,(bH.down),(bI.down),(gj.lo co),⟨oB,(gj.lo co).lt⟩,(kk.lo co),jY,jZ,(nE bH),(nE bI),(dj bH (m.kd aH d)),(dj bH (q.kd aH i)),j0,(dj bI (m.kd aH d)),(dj bI (q.kd aH i)),dB,du,j5,j6,kJ,j7,j8,kK⟩)))⟩
    refine Ak 0 G (kr u) (fun w' hw'=>lG agg34 G (C.kn hw' oB) G)<|Ak 1 G (kr u) (fun w' hw'=>mP G)<|Ak 2 G (kr u) (fun w' hw'=>lG agg34 G (C.kn hw' oB) G)<|Ar [3,8] oC G ⟨Bm G trivial ?_,Bm G trivial ?_,trivial⟩
    ·refine Qc ent108 (c___spec_l1Cur__libraryStep lL Lc t z (eW.lo u) (an.lo u) oB oB o ((m.lo u).rd) ((q.lo u).rd) oB (by first | assumption | exact MapB.of (And.left (And.left ‹LibOK _›)) | exact MapB.app (MapB.of (And.left (And.left ‹LibOK _›))) oF | exact MapB.nil) (by first | assumption | exact AwayB.of ‹LibOK _› | exact AwayB.app (AwayB.of ‹LibOK _›) oF | exact AwayB.nil) ((m.lo u).apart d) ((q.lo u).apart i)) G ?_
     rintro e lN ⟨dK,jH,jG,rfl,fX,gO,gG,ah⟩
     refine ⟨_,G,?_⟩
     have og:=ah.size
     have dX:=((kr u:Kp (fun b_=>b_=gc) ax _)).step ah (fun _ _ e=>e)
     refine Qn ⟨dX,_,G,(Ar [4,8] oC G ⟨Bm G trivial ?_,Bm G trivial ?_,trivial⟩)⟩
     ·refine Qc ent67 (c_spec_StepLibrary lN o (((m.lo u).kd ah d).rd) (((q.lo u).kd ah i).rd) dK) G ?_
      rintro e qh ⟨lh,lz,ll,li,lA,lm,rfl,bJ,bK,j1,cp⟩
      refine ⟨_,G,?_⟩
      have oh:=cp.size
      have cj:=dX.lo cp
      have j9:=bJ.len
      have ka:=bJ.rd.bound
      have kL:=step_lenMS o dK
      have kb:=bK.len
      have ke:=bK.rd.bound
      have kM:=step_lenAS o dK
      refine Qn ⟨cj,_,G,(Ak 5 G cj (fun w' hw'=>mT G)<|Ak 6 G cj (fun w' hw'=>xG G G)<|Ak 7 G cj (fun w' hw'=>xB G G)<|Ab 8 G (Qa (l:=zLb) tz34 G ?_))⟩
      intro dH qi nR aK nZ fY
      have fC:=cj.lo aK
      refine Qn ⟨fC,_,G,(Ag oC G (gA _ _ (⟨dK,jH,jG,lh,lz,ll,li,lA,lm,dH,(At.r G),fC,((bJ.lo aK).down),((bK.lo aK).down),fY,⟨oB,fY.lt⟩,((fX.lo cp).lo aK),(nE (g:=dH) (((m.lo u).kd ah d).lo cp)),(nE (g:=dH) (((q.lo u).kd ah i).lo cp)),(nE (g:=dH) bJ),(nE (g:=dH) bK),(dj (bJ.lo aK) ((m.lo u).kd ah d)),(dj (bJ.lo aK) ((q.lo u).kd ah i)),j1,(dj (bK.lo aK) ((m.lo u).kd ah d)),(dj (bK.lo aK) ((q.lo u).kd ah i)),gO,gG,j9,ka,kL,kb,ke,kM⟩)))⟩
     ·refine Qa (l:=zLb) tz34 G ?_
      intro ft qj nS f6 n3 fZ
      have fD:=dX.lo f6
      refine Qn ⟨fD,_,G,(Ag oC G (gB _ _ (⟨dK,jH,jG,ft,(At.r G),fD,fZ,⟨oB,fZ.lt⟩,(fX.lo f6),(nE (g:=ft) ((m.lo u).kd ah d)),(nE (g:=ft) ((q.lo u).kd ah i)),gO,gG⟩)))⟩
    ·refine Qa (l:=zLb) tz34 G ?_
     intro fu lO nT bc n4 f0
     have fE:=((kr u:Kp (fun b_=>b_=gc) ax _)).lo bc
     refine Qn ⟨fE,_,G,(Ab 3 G (Qc ent108 (c___spec_l1Cur__libraryStep lO Lc t z ((eW.lo u).lo bc) ((an.lo u).lo bc) oB oB o (((m.lo u).lo bc).rd) (((q.lo u).lo bc).rd) oB (by first | assumption | exact MapB.of (And.left (And.left ‹LibOK _›)) | exact MapB.app (MapB.of (And.left (And.left ‹LibOK _›))) oF | exact MapB.nil) (by first | assumption | exact AwayB.of ‹LibOK _› | exact AwayB.app (AwayB.of ‹LibOK _›) oF | exact AwayB.nil) (((m.lo u).lo bc).apart d) (((q.lo u).lo bc).apart i)) G ?_))⟩
     rintro e qk ⟨lK,lH,lC,rfl,jK,kQ,kN,da⟩
     refine ⟨_,G,?_⟩
     have oi:=da.size
     have fF:=fE.step da (fun _ _ e=>e)
     refine Qn ⟨fF,_,G,(Ag oC G (gB _ _ (⟨lK,lH,lC,fu,(At.r G),fF,(f0.kn da),⟨oB,(f0.kn da).lt⟩,jK,(nE (g:=fu) (m.lo u)),(nE (g:=fu) (q.lo u)),kQ,kN⟩)))⟩
   rintro pN cr ⟨j,O,au,M,ac,ay,N,ae,az,U,ib,aw,dk,dm,kj,nP,gi,ny,nz,nA,nB,nC,nD,jX,nF,nG,dB,du,ga,gb,gE,gf,gh,gF⟩
   rw [← sA ib]
   have oj:=aw.size
   have fw:=fx.step aw (fun i_ hi_ e'=>e')
   refine Ws (Wr (Q (mB G)<|Qn (Wb G (fun ln=>?_) (fun ln=>?_))))
   ·refine Wr (Q (lG agg34 G kj G)<|Qw (o:=0) (vs:=(cLb M ac ay N ae az ((spec_StepLibrary o j).1))) agg34.2 G G G G (C.kn aw oB) ler G ?_)
    intro ct ai n5 jL
    refine Qn ?_
    have kl:=(an.kn aw oB).kn ai
    have km:=(bC.kn aw oB).kn ai
    refine Wr (Q (mI G)<|Q (r_sub G G oB)<|Q (aI G)<|Qn (⟨(n-1,((spec_StepLibrary o j).1),O,au,M,ac,ay,N,ae,az),_,G,(At.r G),(show (Kp (fun b_=>b_=gc) w ct)∧(Blk ct gc ec [.slice Ac nc cc,i6 O,.int .u64 au])∧(SlR ct Bc encB 1 Ac nc cc Lc)∧(Blk ct g1 34 zLb)∧(Blk ct c 34 (cLb M ac ay N ae az ((spec_StepLibrary o j).1)))∧(SlO ct w.heap.size encLMap 3 102 M ac ay (((spec_StepLibrary o j).1).Maps))∧(SlO ct w.heap.size encAway 2 129 N ae az (((spec_StepLibrary o j).1).Away))∧(¬M=some ⟨gc,0,none⟩)∧(¬M=some ⟨g1,0,none⟩)∧(¬M=some ⟨c,0,none⟩)∧Dj M N∧(¬N=some ⟨gc,0,none⟩)∧(¬N=some ⟨g1,0,none⟩)∧(¬N=some ⟨c,0,none⟩)∧((0≤n-1∧n-1≤35)∧LibOK ((spec_StepLibrary o j).1)∧tc≤O∧O≤tc+4+20*(35-(n-1))) from ⟨(fw.new ai),(gi.kn ai),kl,km,jL,((dk.kn ai).down),((dm.kn ai).down),(nE (dk.kn ai)),(nE (dk.kn ai)),(nE (dk.kn ai)),jX,(nE (dm.kn ai)),(nE (dm.kn ai)),(nE (dm.kn ai)),?_⟩),?_⟩))
    ·exact (by first | exact ⟨oB,spec_okL ‹(spec_StepLibrary _ _).2=true›,oB,oB⟩ | exact ⟨oB,‹LibOK _›,oB,oB⟩)
    ·exact oB
   ·refine Wk (Wr (Q (mI G)<|Q (r_sub G G oB)<|Q (aI G)<|Qn (⟨(n-1,o,O,au,f,B,H,p,K,R),_,G,(At.r G),(show (Kp (fun b_=>b_=gc) w cr)∧(Blk cr gc ec [.slice Ac nc cc,i6 O,.int .u64 au])∧(SlR cr Bc encB 1 Ac nc cc Lc)∧(Blk cr g1 34 zLb)∧(Blk cr c 34 (cLb f B H p K R o))∧(SlO cr w.heap.size encLMap 3 102 f B H o.Maps)∧(SlO cr w.heap.size encAway 2 129 p K R o.Away)∧(¬f=some ⟨gc,0,none⟩)∧(¬f=some ⟨g1,0,none⟩)∧(¬f=some ⟨c,0,none⟩)∧Dj f p∧(¬p=some ⟨gc,0,none⟩)∧(¬p=some ⟨g1,0,none⟩)∧(¬p=some ⟨c,0,none⟩)∧((0≤n-1∧n-1≤35)∧LibOK o∧tc≤O∧O≤tc+4+20*(35-(n-1))) from ⟨fw,gi,an.kn aw oB,bC.kn aw oB,(C.kn aw oB),(m.kd aw d),(q.kd aw i),d,cl,bO,am,i,cm,aJ,?_⟩),?_⟩)))
    ·exact (by first | exact ⟨oB,spec_okL ‹(spec_StepLibrary _ _).2=true›,oB,oB⟩ | exact ⟨oB,‹LibOK _›,oB,oB⟩)
    ·exact oB
  ·refine Wx (xh (Ws (Ws (Wr (Q (mP G)<|Qc ent59 (c___spec_l1Cur__pick ax Lc t z eW an oB oB 32 oD) G ?_)))))
   rintro e s ⟨qd,v,ap,rfl,X,oa,nX,a⟩
   refine ⟨_,G,?_⟩
   have ol:=a.size
   have cE:=fx.step a (fun i_ hi_ e'=>e')
   refine Qn (Wl (Ws (Wr (Q (r_eq G G)<|Q (aB G)<|Qn (Wd G (fun lp=>?_) (fun lp=>?_))))))
   ·refine WA (Kp (fun b_=>b_=gc∨b_=c) s) (fun f' w'=>∃ (aE:Nat) (ar:Int) (aU:Int) (cq:Int),At f' [(2,pt g1),(3,pt c)]∧(Kp (fun b_=>b_=gc∨b_=c) s w')∧(Blk w' gc ec [.slice Ac nc cc,i6 aU,.int .u64 cq])∧(Blk w' c 34 [.slice f B H,.slice p K R,i6 (o.Bought+ar),i6 o.Dropped,i6 o.Mended])∧(v≤aU∧aU≤v+2)∧(ar∈([1,(-1)]:List Int))∧(((-1):Int)≤ar∧ar≤1)) mo ?_ ?_
    ·intro ql J
     have om:=J.size
     refine Av #[true,true,true,true,true,true,true,false] 1 (fun f' w'=>∃ (aE:Nat) (ar:Int) (aU:Int) (cq:Int),At f' [(2,pt g1),(3,pt c),(35,i6 (o.Bought+ar)),(36,.pointer (some ((⟨c,0,none⟩:Addr).add 2)))]∧(Kp (fun b_=>b_=gc∨b_=c) s w')∧(Blk w' gc ec [.slice Ac nc cc,i6 aU,.int .u64 cq])∧(Blk w' c 34 (cLb f B H p K R o))∧(v≤aU∧aU≤v+2)∧(ar∈([1,(-1)]:List Int))∧(((-1):Int)≤ar∧ar≤1)) ?_ (fun gC=>?_)
     ·rintro pO qm ⟨aE,ar,aU,cq,ic,fB,kt,ku,gP,gH,gI⟩
      rw [← sA ic]
      have oo:=fB.size
      refine Ab 7 G (Qw (o:=2) (vs:=[i6 (o.Bought+ar)]) sca3.2 G G G G ku ler G ?_)
      intro qn f7 n6 jM
      have fG:=fB.step f7 (fun _ _ e=>.inr e)
      refine Qn ⟨fG,_,G,(Ad oC (⟨aE,ar,aU,cq,⟨G,G,trivial⟩,fG,(kt.kn f7),jM,gP,gH,gI⟩))⟩
     refine Av #[true,true,true,true,false,false,false,false] 4 (fun f' w'=>∃ (aE:Nat),At f' [(2,pt g1),(3,pt c),(31,i6 o.Bought),(32,pt gc),(33,.slice (pA aE) 2 2)]∧(Kp (fun b_=>b_=gc∨b_=c) s w')∧(SlO w' s.heap.size encI 1 3 (pA aE) 2 2 ([1,(-1)]:List Int))∧(Blk w' gc ec [.slice Ac nc cc,i6 v,.int .u64 ap])∧(Blk w' c 34 (cLb f B H p K R o))∧(∀ b_,(pA aE)=some ⟨b_,0,none⟩→¬f=some ⟨b_,0,none⟩)∧(∀ b_,(pA aE)=some ⟨b_,0,none⟩→¬p=some ⟨b_,0,none⟩)) ?_ (fun gD=>?_)
     ·rintro pP lP ⟨aE,ie,dV,gm,ko,ks,nH,nI⟩
      rw [← sA ie]
      have ot:=dV.size
      refine Ab 4 G (Qc ent58 (c___spec_l1Cur__among lP Lc v ap ko ((an.kn a).kp dV (fun b_ hb e'=>e'.elim (fun e'=>by have e'':b_=gc:=e'; omega) (fun e'=>by have e'':b_=c:=e'; omega))) oB oB ([1,(-1)]:List Int) (gm.rd) oB oB (show ¬aE=gc from by first | omega | (have:=gm.base_le G; omega))) G ?_)
      rintro e qo ⟨gX,lI,lE,rfl,jN,kR,gJ,dY⟩
      refine ⟨_,G,?_⟩
      have ou:=dY.size
      have cX:=dV.step dY (fun _ _ e=>.inl e)
      have kO:((-1):Int)≤gX∧gX≤1:=mem_rngB (lo:=(-1)) (hi:=1) oG gJ
      refine Qn ⟨cX,_,G,(Ak 5 G cX (fun w' hw'=>r_add G G oB)<|Ak 6 G cX (fun w' hw'=>fA fa34_2 G)<|Ag oC G (gC _ _ (⟨aE,gX,lI,lE,(At.r G),cX,jN,(ks.kn dY),kR,gJ,kO⟩)))⟩
     refine Ak 0 G (kr J) (fun w' hw'=>fA fa34_2 G)<|Ak 2 G (kr J) (fun w' hw'=>mP G)<|Ar [1,3] oC G ⟨Bm G trivial ?_,Bm G trivial ?_,trivial⟩
     ·refine Q (lB sca3 G ((C.kn a).lo J) G) (Qn ⟨(kq s).lo J,_,G,(Ab 3 G (Ql (vs:=[i6 1,i6 (-1)]) (L:=([1,(-1)]:List Int)) (enc:=encI) tel93 (fun _=>G) G G G oG ?_))⟩)
      intro fv qp nU db jJ
      have ov:=db.size
      have fH:=((kr J:Kp (fun b_=>b_=gc∨b_=c) s _)).lo db
      refine Qn ⟨fH,_,G,(Ag oC G (gD _ _ (⟨fv,(At.r G),fH,(jJ.down),((X.lo J).lo db),(((C.kn a).lo J).lo db),(fun b_ h h'=>(nE (g:=fv) ((m.kd a d).lo J)) (h'.trans h.symm)),(fun b_ h h'=>(nE (g:=fv) ((q.kd a i).lo J)) (h'.trans h.symm))⟩)))⟩
     ·refine Ql (vs:=[i6 1,i6 (-1)]) (L:=([1,(-1)]:List Int)) (enc:=encI) tel93 (fun _=>G) G G G oG ?_
      intro dI lQ nW aD dU
      have ow:=aD.size
      have cY:=((kr J:Kp (fun b_=>b_=gc∨b_=c) s _)).lo aD
      refine Qn ⟨cY,_,G,(Ar [1,4] oC G ⟨Bm G trivial ?_,Bm G trivial ?_,trivial⟩)⟩
      ·refine Q (lB sca3 G (((C.kn a).lo J).lo aD) G) (Qn ⟨cY,_,G,(Ag oC G (gD _ _ (⟨dI,(At.r G),cY,(dU.down),((X.lo J).lo aD),(((C.kn a).lo J).lo aD),(fun b_ h h'=>(nE (g:=dI) ((m.kd a d).lo J)) (h'.trans h.symm)),(fun b_ h h'=>(nE (g:=dI) ((q.kd a i).lo J)) (h'.trans h.symm))⟩)))⟩)
      ·refine Qc ent58 (c___spec_l1Cur__among lQ Lc v ap ((X.lo J).lo aD) (((an.kn a).lo J).lo aD) oB oB ([1,(-1)]:List Int) (dU.rd) oB oB (show ¬dI=gc from by first | omega | (have:=dU.base_le G; omega))) G ?_
       rintro e qq ⟨gY,lJ,lF,rfl,jO,kS,gK,de⟩
       refine ⟨_,G,?_⟩
       have ox:=de.size
       have ck:=cY.step de (fun _ _ e=>.inl e)
       have kP:((-1):Int)≤gY∧gY≤1:=mem_rngB (lo:=(-1)) (hi:=1) oG gK
       refine Qn ⟨ck,_,G,(Ab 1 G (Q (lB sca3 G ((((C.kn a).lo J).lo aD).kn de) G) (Qn ⟨ck,_,G,(Ak 5 G ck (fun w' hw'=>r_add G G oB)<|Ak 6 G ck (fun w' hw'=>fA fa34_2 G)<|Ag oC G (gC _ _ (⟨dI,gY,lJ,lF,(At.r G),ck,jO,((((C.kn a).lo J).lo aD).kn de),kS,gK,kP⟩)))⟩)))⟩
    rintro pQ qr ⟨aE,ar,aU,cq,ig,ch,kv,kw,gP,gH,gI⟩
    rw [← sA ig]
    have oy:=ch.size
    refine Ws ?_
    have kx:=(bC.kn a).kp ch (fun e'=>e'.elim (fun e'=>by have e'':g1=gc:=e'; omega) (fun e'=>by have e'':g1=c:=e'; omega))
    have ky:=(m.kd a d).kp ch (fun b_ hb e'=>e'.elim (fun e'=>d (by have e'':b_=gc:=e'; rw [← e'']; exact hb)) (fun e'=>bO (by have e'':b_=c:=e'; rw [← e'']; exact hb)))
    have kz:=(q.kd a i).kp ch (fun b_ hb e'=>e'.elim (fun e'=>i (by have e'':b_=gc:=e'; rw [← e'']; exact hb)) (fun e'=>aJ (by have e'':b_=c:=e'; rw [← e'']; exact hb)))
    refine Wr (Q (lG agg34 G kw G)<|Qw (o:=0) (vs:=[.slice f B H,.slice p K R,i6 (o.Bought+ar),i6 o.Dropped,i6 o.Mended]) agg34.2 G G G G kx ler G ?_)
    intro qt df n7 jP
    refine Qn (We (retC G G agg34 jP G ?_))
    refine ⟨f,B,H,p,K,R,(⟨o.Maps,o.Away,o.Bought+ar,o.Dropped,o.Mended⟩:Library),aU,cq,eR (eA G),(oq ((ky.kd df cl).down) ?_),(oq ((kz.kd df cm).down) ?_),am,(kv.kn df),⟨oB,oB⟩,oE,gM,gN,((cE.step ch (fun i_ hi_ e'=>e'.elim (fun e'=>e') (fun e'=>by have e'':i_=c:=e'; omega))).new df)⟩ <;> (first | rfl | omega | grind)
   ·refine Ws (Wr (Q (r_eq G G)<|Q (aB G)<|Qn (Wd G (fun lq=>?_) (fun lq=>?_))))
    ·refine WA (Kp (fun b_=>b_=gc∨f=some ⟨b_,0,none⟩∨b_=c) s) (fun f' w'=>∃ (bg:Option Addr) (dG:Nat) (E:Nat) (y:Int) (D:Int) (aj:Int) (al:Nat) (S:Int) (ag:Int) (aR:Int) (bN:Nat),At f' [(2,pt g1),(3,pt c)]∧(Kp (fun b_=>b_=gc∨f=some ⟨b_,0,none⟩∨b_=c) s w')∧(SlO w' w.heap.size encLMap 3 102 bg (B+1) dG (o.Maps++([(⟨y,0,S⟩:LMap)]:List LMap)))∧(Blk w' gc ec [.slice Ac nc cc,i6 ag,.int .u64 aR])∧(Blk w' c 34 [.slice bg (B+1) dG,.slice p K R,i6 o.Bought,i6 o.Dropped,i6 o.Mended])∧(¬bg=some ⟨gc,0,none⟩)∧(¬bg=some ⟨g1,0,none⟩)∧(¬bg=some ⟨c,0,none⟩)∧Dj bg p∧(v≤D∧D≤v+2)∧(y∈([0,1,99]:List Int))∧((0:Int)≤y∧y≤99)∧(D≤ag∧ag≤D+2)∧(S∈([0,1]:List Int))∧((0:Int)≤S∧S≤1)) mo ?_ ?_
     ·intro oY b
      have mq:=b.size
      refine Av #[true,true,true,true,true,true,true,true,true,true,false,false,false] 3 (fun f' w'=>∃ (E:Nat) (y:Int) (D:Int) (aj:Int) (al:Nat) (S:Int) (ag:Int) (aR:Int) (bN:Nat),At f' [(2,pt g1),(3,pt c),(40,.slice f B H),(48,.slice (pA bN) 1 1)]∧(Kp (fun b_=>b_=gc∨f=some ⟨b_,0,none⟩∨b_=c) s w')∧(SlO w' s.heap.size encLMap 3 102 (pA bN) 1 1 ([(⟨y,0,S⟩:LMap)]:List LMap))∧(Blk w' gc ec [.slice Ac nc cc,i6 ag,.int .u64 aR])∧(Blk w' c 34 (cLb f B H p K R o))∧(SlO w' w.heap.size encLMap 3 102 f B H o.Maps)∧(∀ b_,(pA bN)=some ⟨b_,0,none⟩→¬f=some ⟨b_,0,none⟩)∧(∀ b_,(pA bN)=some ⟨b_,0,none⟩→¬p=some ⟨b_,0,none⟩)∧(v≤D∧D≤v+2)∧(y∈([0,1,99]:List Int))∧((0:Int)≤y∧y≤99)∧(D≤ag∧ag≤D+2)∧(S∈([0,1]:List Int))∧((0:Int)≤S∧S≤1)) ?_ (fun eX=>?_)
      ·rintro nf oZ ⟨E,y,D,aj,al,S,ag,aR,bN,fI,bR,kH,gy,gz,kI,nM,nN,aQ,aN,aO,dC,dy,dz⟩
       rw [← sA fI]
       have mr:=bR.size
       refine Ab 10 G (Qp tel31 G G kI (kH.rd) (fun _=>G) oB oB ?_)
       intro bD fr o0 bY g0 bP
       have ms:=bY.size
       have cP:=bR.step bY (fun _ _ e=>.inr (.inl e))
       have iH:¬bD=some ⟨gc,0,none⟩:=fun e'=>(bP gc e').elim (fun h=>d (h.trans e')) (fun h=>by have:=gy.lt; omega)
       have iI:¬bD=some ⟨g1,0,none⟩:=fun e'=>(bP g1 e').elim (fun h=>cl (h.trans e')) (fun h=>by have:=((bC.kn a).kp bR (fun e'=>e'.elim (fun e'=>by have e'':g1=gc:=e'; omega) (fun e'=>e'.elim (fun e'=>cl e') (fun e'=>by have e'':g1=c:=e'; omega)))).lt; omega)
       have ex:¬bD=some ⟨c,0,none⟩:=fun e'=>(bP c e').elim (fun h=>bO (h.trans e')) (fun h=>by have:=gz.lt; omega)
       have iJ:Dj bD p:=fun b_ e' h'=>(bP b_ e').elim (fun h=>am b_ (h.trans e') h') (fun h=>by have:=((q.kd a i).kp bR (fun b_ hb e'=>e'.elim (fun e'=>i (by have e'':b_=gc:=e'; rw [← e'']; exact hb)) (fun e'=>e'.elim (fun e'=>am b_ e' hb) (fun e'=>aJ (by have e'':b_=c:=e'; rw [← e'']; exact hb))))).base_le h'; omega)
       refine Qn ⟨cP,_,G,(Ak 11 G cP (fun w' hw'=>fA fa34_0 G)<|Ab 12 G (Qw (o:=0) (vs:=[.slice bD (B+1) fr]) sca31.2 G G G G (gz.kp bY (fun e'=>bO e')) ler G ?_))⟩
       intro o1 cZ mh ii
       have d5:=cP.step cZ (fun _ _ e=>.inr (.inr e))
       refine Qn ⟨d5,_,G,(Ad oC (⟨bD,fr,E,y,D,aj,al,S,ag,aR,bN,⟨G,G,trivial⟩,d5,(g0.kd cZ ex),((gy.kp bY (fun e'=>d e')).kn cZ),ii,iH,iI,ex,iJ,aQ,aN,aO,dC,dy,dz⟩))⟩
      refine Av #[true,true,true,true,true,true,true,true,true,false,false,false,false] 4 (fun f' w'=>∃ (E:Nat) (y:Int) (D:Int) (aj:Int) (al:Nat) (S:Int) (ag:Int) (aR:Int),At f' [(2,pt g1),(3,pt c),(40,.slice f B H),(47,.agg (List.toArray [i6 y,i6 0,i6 S]))]∧(Kp (fun b_=>b_=gc∨f=some ⟨b_,0,none⟩∨b_=c) s w')∧(Blk w' gc ec [.slice Ac nc cc,i6 ag,.int .u64 aR])∧(Blk w' c 34 (cLb f B H p K R o))∧(SlO w' w.heap.size encLMap 3 102 f B H o.Maps)∧(v≤D∧D≤v+2)∧(y∈([0,1,99]:List Int))∧((0:Int)≤y∧y≤99)∧(D≤ag∧ag≤D+2)∧(S∈([0,1]:List Int))∧((0:Int)≤S∧S≤1)) ?_ (fun eY=>?_)
      ·rintro ng o2 ⟨E,y,D,aj,al,S,ag,aR,fJ,cH,kF,kG,gx,aQ,aN,aO,dC,dy,dz⟩
       rw [← sA fJ]
       have mu:=cH.size
       refine Ab 9 G (Ql (vs:=[.agg (List.toArray [i6 y,i6 0,i6 S])]) (L:=([(⟨y,0,S⟩:LMap)]:List LMap)) (enc:=encLMap) tel31 (fun _=>G) G G G oG ?_)
       intro dL o3 l1 bo g2
       have mv:=bo.size
       have d6:=cH.lo bo
       have iK:=nE (g:=dL) ((q.kd a i).kp cH (fun b_ hb e'=>e'.elim (fun e'=>i (by have e'':b_=gc:=e'; rw [← e'']; exact hb)) (fun e'=>e'.elim (fun e'=>am b_ e' hb) (fun e'=>aJ (by have e'':b_=c:=e'; rw [← e'']; exact hb)))))
       refine Qn ⟨d6,_,G,(Ag oC G (eX _ _ (⟨E,y,D,aj,al,S,ag,aR,dL,(At.r G),d6,(g2.down),(kF.lo bo),(kG.lo bo),(gx.lo bo),(fun b_ h h'=>(nE (g:=dL) gx) (h'.trans h.symm)),(fun b_ h h'=>iK (h'.trans h.symm)),aQ,aN,aO,dC,dy,dz⟩)))⟩
      refine Av #[true,true,true,true,true,true,true,false,false,false,false,false,false] 6 (fun f' w'=>∃ (E:Nat) (y:Int) (D:Int) (aj:Int) (al:Nat),At f' [(2,pt g1),(3,pt c),(40,.slice f B H),(43,i6 y),(44,pt gc),(45,.slice (pA al) 2 2)]∧(Kp (fun b_=>b_=gc∨f=some ⟨b_,0,none⟩∨b_=c) s w')∧(SlO w' s.heap.size encI 1 3 (pA al) 2 2 ([0,1]:List Int))∧(Blk w' gc ec [.slice Ac nc cc,i6 D,.int .u64 aj])∧(Blk w' c 34 (cLb f B H p K R o))∧(SlO w' w.heap.size encLMap 3 102 f B H o.Maps)∧(∀ b_,(pA al)=some ⟨b_,0,none⟩→¬f=some ⟨b_,0,none⟩)∧(∀ b_,(pA al)=some ⟨b_,0,none⟩→¬p=some ⟨b_,0,none⟩)∧(v≤D∧D≤v+2)∧(y∈([0,1,99]:List Int))∧((0:Int)≤y∧y≤99)) ?_ (fun dp=>?_)
      ·rintro nh k4 ⟨E,y,D,aj,al,fK,cI,gw,kC,kD,kE,nJ,nK,aQ,aN,aO⟩
       rw [← sA fK]
       have mw:=cI.size
       refine Ab 7 G (Qc ent58 (c___spec_l1Cur__among k4 Lc D aj kC ((an.kn a).kp cI (fun b_ hb e'=>e'.elim (fun e'=>by have e'':b_=gc:=e'; omega) (fun e'=>e'.elim (nE (m.kd a d)) (fun e'=>by have e'':b_=c:=e'; omega)))) oB oB ([0,1]:List Int) (gw.rd) oB oB (show ¬al=gc from by first | omega | (have:=gw.base_le G; omega))) G ?_)
       rintro e o4 ⟨dD,kY,kT,rfl,ij,jv,fe,bZ⟩
       refine ⟨_,G,?_⟩
       have mx:=bZ.size
       have cQ:=cI.step bZ (fun _ _ e=>.inl e)
       have jq:(0:Int)≤dD∧dD≤1:=mem_rngB (lo:=0) (hi:=1) oG fe
       refine Qn ⟨cQ,_,G,(Ak 8 G cQ (fun w' hw'=>r_build (vs:=[(0,i6 y),(2,i6 dD)]) G (bld102_0_2 _ _))<|Ag oC G (eY _ _ (⟨E,y,D,aj,al,dD,kY,kT,(At.r G),cQ,ij,(kD.kn bZ),(kE.kd bZ d),aQ,aN,aO,jv,fe,jq⟩)))⟩
      refine Av #[true,true,true,true,true,true,false,false,false,false,false,false,false] 7 (fun f' w'=>∃ (E:Nat) (y:Int) (D:Int) (aj:Int),At f' [(2,pt g1),(3,pt c),(40,.slice f B H),(43,i6 y),(44,pt gc)]∧(Kp (fun b_=>b_=gc∨f=some ⟨b_,0,none⟩∨b_=c) s w')∧(Blk w' gc ec [.slice Ac nc cc,i6 D,.int .u64 aj])∧(Blk w' c 34 (cLb f B H p K R o))∧(SlO w' w.heap.size encLMap 3 102 f B H o.Maps)∧(v≤D∧D≤v+2)∧(y∈([0,1,99]:List Int))∧((0:Int)≤y∧y≤99)) ?_ (fun eZ=>?_)
      ·rintro ni o5 ⟨E,y,D,aj,fL,cJ,kA,kB,gr,aQ,aN,aO⟩
       rw [← sA fL]
       have my:=cJ.size
       refine Ab 6 G (Ql (vs:=[i6 0,i6 1]) (L:=([0,1]:List Int)) (enc:=encI) tel93 (fun _=>G) G G G oG ?_)
       intro dM o6 l2 bp g5
       have mz:=bp.size
       have d7:=cJ.lo bp
       have iL:=nE (g:=dM) ((q.kd a i).kp cJ (fun b_ hb e'=>e'.elim (fun e'=>i (by have e'':b_=gc:=e'; rw [← e'']; exact hb)) (fun e'=>e'.elim (fun e'=>am b_ e' hb) (fun e'=>aJ (by have e'':b_=c:=e'; rw [← e'']; exact hb)))))
       refine Qn ⟨d7,_,G,(Ag oC G (dp _ _ (⟨E,y,D,aj,dM,(At.r G),d7,(g5.down),(kA.lo bp),(kB.lo bp),(gr.lo bp),(fun b_ h h'=>(nE (g:=dM) gr) (h'.trans h.symm)),(fun b_ h h'=>iL (h'.trans h.symm)),aQ,aN,aO⟩)))⟩
      refine Av #[true,true,true,true,false,true,true,false,false,false,false,false,false] 7 (fun f' w'=>∃ (E:Nat) (ba:Nat),At f' [(2,pt g1),(3,pt c),(40,.slice f B H),(41,pt gc),(42,.slice (pA E) 3 3),(44,pt gc),(45,.slice (pA ba) 2 2)]∧(Kp (fun b_=>b_=gc∨f=some ⟨b_,0,none⟩∨b_=c) s w')∧(SlO w' s.heap.size encI 1 3 (pA E) 3 3 ([0,1,99]:List Int))∧(SlO w' s.heap.size encI 1 3 (pA ba) 2 2 ([0,1]:List Int))∧(Blk w' gc ec [.slice Ac nc cc,i6 v,.int .u64 ap])∧(Blk w' c 34 (cLb f B H p K R o))∧(SlO w' w.heap.size encLMap 3 102 f B H o.Maps)∧(∀ b_,(pA E)=some ⟨b_,0,none⟩→¬f=some ⟨b_,0,none⟩)∧(∀ b_,(pA E)=some ⟨b_,0,none⟩→¬p=some ⟨b_,0,none⟩)∧(∀ b_,(pA E)=some ⟨b_,0,none⟩→¬(pA ba)=some ⟨b_,0,none⟩)∧(∀ b_,(pA ba)=some ⟨b_,0,none⟩→¬f=some ⟨b_,0,none⟩)∧(∀ b_,(pA ba)=some ⟨b_,0,none⟩→¬p=some ⟨b_,0,none⟩)) ?_ (fun dq=>?_)
      ·rintro nj k5 ⟨E,ba,fM,cK,eG,iZ,i1,i7,i8,lT,lU,lV,iy,iz⟩
       rw [← sA fM]
       have mA:=cK.size
       refine Ab 4 G (Qc ent58 (c___spec_l1Cur__among k5 Lc v ap i1 ((an.kn a).kp cK (fun b_ hb e'=>e'.elim (fun e'=>by have e'':b_=gc:=e'; omega) (fun e'=>e'.elim (nE (m.kd a d)) (fun e'=>by have e'':b_=c:=e'; omega)))) oB oB ([0,1,99]:List Int) (eG.rd) oB oB (show ¬E=gc from by first | omega | (have:=eG.base_le G; omega))) G ?_)
       rintro e o7 ⟨d1,kZ,kU,rfl,ik,jw,ff,bq⟩
       refine ⟨_,G,?_⟩
       have mC:=bq.size
       have d8:=cK.step bq (fun _ _ e=>.inl e)
       have jr:(0:Int)≤d1∧d1≤99:=mem_rngB (lo:=0) (hi:=99) oG ff
       refine Qn ⟨d8,_,G,(Ag oC G (dp _ _ (⟨E,d1,kZ,kU,ba,(At.r G),d8,((iZ.kn bq).down),ik,(i7.kn bq),(i8.kd bq d),iy,iz,jw,ff,jr⟩)))⟩
      refine Av #[true,false,true,true,true,true,true,false,false,false,false,false,false] 7 (fun f' w'=>∃ (V:Nat) (aq:Int) (aT:Int) (bL:Int) (aC:Nat),At f' [(2,pt g1),(3,pt c),(39,.pointer (some ((⟨c,0,none⟩:Addr).add 0))),(43,i6 aq),(44,pt gc),(45,.slice (pA aC) 2 2)]∧(Kp (fun b_=>b_=gc∨f=some ⟨b_,0,none⟩∨b_=c) s w')∧(SlO w' s.heap.size encI 1 3 (pA aC) 2 2 ([0,1]:List Int))∧(Blk w' gc ec [.slice Ac nc cc,i6 aT,.int .u64 bL])∧(Blk w' c 34 (cLb f B H p K R o))∧(SlO w' w.heap.size encLMap 3 102 f B H o.Maps)∧(∀ b_,(pA aC)=some ⟨b_,0,none⟩→¬f=some ⟨b_,0,none⟩)∧(∀ b_,(pA aC)=some ⟨b_,0,none⟩→¬p=some ⟨b_,0,none⟩)∧(v≤aT∧aT≤v+2)∧(aq∈([0,1,99]:List Int))∧((0:Int)≤aq∧aq≤99)) ?_ (fun e6=>?_)
      ·rintro nk k6 ⟨V,aq,aT,bL,aC,fN,aV,dg,eK,a8,ca,iC,iD,dA,dr,dt⟩
       rw [← sA fN]
       have mD:=aV.size
       refine Ar [1,7] oC G ⟨Bm G trivial ?_,Bm G trivial ?_,trivial⟩
       ·refine Q (lB sca31 G a8 G) (Qn ⟨aV,_,G,(Ag oC G (dp _ _ (⟨V,aq,aT,bL,aC,(At.r G),aV,(dg.down),eK,a8,ca,iC,iD,dA,dr,dt⟩)))⟩)
       ·refine Qc ent58 (c___spec_l1Cur__among k6 Lc aT bL eK ((an.kn a).kp aV (fun b_ hb e'=>e'.elim (fun e'=>by have e'':b_=gc:=e'; omega) (fun e'=>e'.elim (nE (m.kd a d)) (fun e'=>by have e'':b_=c:=e'; omega)))) oB oB ([0,1]:List Int) (dg.rd) oB oB (show ¬aC=gc from by first | omega | (have:=dg.base_le G; omega))) G ?_
        rintro e o8 ⟨be,gT,gQ,rfl,eo,fo,dv,Z⟩
        refine ⟨_,G,?_⟩
        have mE:=Z.size
        have bl:=aV.step Z (fun _ _ e=>.inl e)
        have fg:(0:Int)≤be∧be≤1:=mem_rngB (lo:=0) (hi:=1) oG dv
        refine Qn ⟨bl,_,G,(Ak 8 G bl (fun w' hw'=>r_build (vs:=[(0,i6 aq),(2,i6 be)]) G (bld102_0_2 _ _))<|Ar [1,9] oC G ⟨Bm G trivial ?_,Bm G trivial ?_,trivial⟩)⟩
        ·refine Q (lB sca31 G (a8.kn Z) G) (Qn ⟨bl,_,G,(Ag oC G (eY _ _ (⟨V,aq,aT,bL,aC,be,gT,gQ,(At.r G),bl,eo,(a8.kn Z),(ca.kd Z d),dA,dr,dt,fo,dv,fg⟩)))⟩)
        ·refine Ql (vs:=[.agg (List.toArray [i6 aq,i6 0,i6 be])]) (L:=([(⟨aq,0,be⟩:LMap)]:List LMap)) (enc:=encLMap) tel31 (fun _=>G) G G G oG ?_
         intro dN o9 l3 aW g6
         have mF:=aW.size
         have cR:=bl.lo aW
         have iM:=nE (g:=dN) (((q.kd a i).kp aV (fun b_ hb e'=>e'.elim (fun e'=>i (by have e'':b_=gc:=e'; rw [← e'']; exact hb)) (fun e'=>e'.elim (fun e'=>am b_ e' hb) (fun e'=>aJ (by have e'':b_=c:=e'; rw [← e'']; exact hb))))).kd Z i)
         refine Qn ⟨cR,_,G,(Ab 1 G (Q (lB sca31 G ((a8.kn Z).lo aW) G) (Qn ⟨cR,_,G,(Ag oC G (eX _ _ (⟨V,aq,aT,bL,aC,be,gT,gQ,dN,(At.r G),cR,(g6.down),(eo.lo aW),((a8.kn Z).lo aW),((ca.kd Z d).lo aW),(fun b_ h h'=>(nE (g:=dN) (ca.kd Z d)) (h'.trans h.symm)),(fun b_ h h'=>iM (h'.trans h.symm)),dA,dr,dt,fo,dv,fg⟩)))⟩)))⟩
      refine Av #[true,true,true,true,false,true,false,false,false,false,false,false,false] 8 (fun f' w'=>∃ (E:Nat),At f' [(2,pt g1),(3,pt c),(40,.slice f B H),(41,pt gc),(42,.slice (pA E) 3 3),(44,pt gc)]∧(Kp (fun b_=>b_=gc∨f=some ⟨b_,0,none⟩∨b_=c) s w')∧(SlO w' s.heap.size encI 1 3 (pA E) 3 3 ([0,1,99]:List Int))∧(Blk w' gc ec [.slice Ac nc cc,i6 v,.int .u64 ap])∧(Blk w' c 34 (cLb f B H p K R o))∧(SlO w' w.heap.size encLMap 3 102 f B H o.Maps)∧(∀ b_,(pA E)=some ⟨b_,0,none⟩→¬f=some ⟨b_,0,none⟩)∧(∀ b_,(pA E)=some ⟨b_,0,none⟩→¬p=some ⟨b_,0,none⟩)) ?_ (fun e7=>?_)
      ·rintro nl k7 ⟨E,fO,bi,dn,gn,gp,dZ,j2,j3⟩
       rw [← sA fO]
       have mG:=bi.size
       refine Ar [4,6] oC G ⟨Bm G trivial ?_,Bm G trivial ?_,trivial⟩
       ·refine Qc ent58 (c___spec_l1Cur__among k7 Lc v ap gn ((an.kn a).kp bi (fun b_ hb e'=>e'.elim (fun e'=>by have e'':b_=gc:=e'; omega) (fun e'=>e'.elim (nE (m.kd a d)) (fun e'=>by have e'':b_=c:=e'; omega)))) oB oB ([0,1,99]:List Int) (dn.rd) oB oB (show ¬E=gc from by first | omega | (have:=dn.base_le G; omega))) G ?_
        rintro e pb ⟨d2,k0,kV,rfl,il,jx,fh,b4⟩
        refine ⟨_,G,?_⟩
        have mH:=b4.size
        have d9:=bi.step b4 (fun _ _ e=>.inl e)
        have js:(0:Int)≤d2∧d2≤99:=mem_rngB (lo:=0) (hi:=99) oG fh
        refine Qn ⟨d9,_,G,(Ag oC G (eZ _ _ (⟨E,d2,k0,kV,(At.r G),d9,il,(gp.kn b4),(dZ.kd b4 d),jx,fh,js⟩)))⟩
       ·refine Ql (vs:=[i6 0,i6 1]) (L:=([0,1]:List Int)) (enc:=encI) tel93 (fun _=>G) G G G oG ?_
        intro cz pc l4 aX g7
        have mJ:=aX.size
        have ea:=bi.lo aX
        have iN:=nE (g:=cz) ((q.kd a i).kp bi (fun b_ hb e'=>e'.elim (fun e'=>i (by have e'':b_=gc:=e'; rw [← e'']; exact hb)) (fun e'=>e'.elim (fun e'=>am b_ e' hb) (fun e'=>aJ (by have e'':b_=c:=e'; rw [← e'']; exact hb)))))
        refine Qn ⟨ea,_,G,(Ag oC G (dq _ _ (⟨E,cz,(At.r G),ea,((dn.lo aX).down),(g7.down),(gn.lo aX),(gp.lo aX),(dZ.lo aX),j2,j3,(fun b_ h h'=>(nE (g:=cz) dn) (h.trans h'.symm)),(fun b_ h h'=>(nE (g:=cz) dZ) (h'.trans h.symm)),(fun b_ h h'=>iN (h'.trans h.symm))⟩)))⟩
      refine Av #[true,true,true,false,false,true,true,false,false,false,false,false,false] 8 (fun f' w'=>∃ (bF:Nat),At f' [(2,pt g1),(3,pt c),(40,.slice f B H),(41,pt gc),(44,pt gc),(45,.slice (pA bF) 2 2)]∧(Kp (fun b_=>b_=gc∨f=some ⟨b_,0,none⟩∨b_=c) s w')∧(SlO w' s.heap.size encI 1 3 (pA bF) 2 2 ([0,1]:List Int))∧(Blk w' gc ec [.slice Ac nc cc,i6 v,.int .u64 ap])∧(Blk w' c 34 (cLb f B H p K R o))∧(SlO w' w.heap.size encLMap 3 102 f B H o.Maps)∧(∀ b_,(pA bF)=some ⟨b_,0,none⟩→¬f=some ⟨b_,0,none⟩)∧(∀ b_,(pA bF)=some ⟨b_,0,none⟩→¬p=some ⟨b_,0,none⟩)) ?_ (fun e9=>?_)
      ·rintro nn pd ⟨bF,fP,cM,eH,ja,jc,eJ,iA,iB⟩
       rw [← sA fP]
       have mK:=cM.size
       refine Ab 3 G (Ql (vs:=[i6 0,i6 1,i6 99]) (L:=([0,1,99]:List Int)) (enc:=encI) tel93 (fun _=>G) G G G oG ?_)
       intro cA pf l5 aY g8
       have mM:=aY.size
       have ed:=cM.lo aY
       have iO:=nE (g:=cA) ((q.kd a i).kp cM (fun b_ hb e'=>e'.elim (fun e'=>i (by have e'':b_=gc:=e'; rw [← e'']; exact hb)) (fun e'=>e'.elim (fun e'=>am b_ e' hb) (fun e'=>aJ (by have e'':b_=c:=e'; rw [← e'']; exact hb)))))
       refine Qn ⟨ed,_,G,(Ag oC G (dq _ _ (⟨cA,bF,(At.r G),ed,(g8.down),((eH.lo aY).down),(ja.lo aY),(jc.lo aY),(eJ.lo aY),(fun b_ h h'=>(nE (g:=cA) eJ) (h'.trans h.symm)),(fun b_ h h'=>iO (h'.trans h.symm)),(fun b_ h h'=>(nE (g:=cA) eH) (h'.trans h.symm)),iA,iB⟩)))⟩
      refine Av #[true,false,true,true,false,true,true,false,false,false,false,false,false] 8 (fun f' w'=>∃ (V:Nat) (aF:Nat),At f' [(2,pt g1),(3,pt c),(39,.pointer (some ((⟨c,0,none⟩:Addr).add 0))),(41,pt gc),(42,.slice (pA V) 3 3),(44,pt gc),(45,.slice (pA aF) 2 2)]∧(Kp (fun b_=>b_=gc∨f=some ⟨b_,0,none⟩∨b_=c) s w')∧(SlO w' s.heap.size encI 1 3 (pA V) 3 3 ([0,1,99]:List Int))∧(SlO w' s.heap.size encI 1 3 (pA aF) 2 2 ([0,1]:List Int))∧(Blk w' gc ec [.slice Ac nc cc,i6 v,.int .u64 ap])∧(Blk w' c 34 (cLb f B H p K R o))∧(SlO w' w.heap.size encLMap 3 102 f B H o.Maps)∧(∀ b_,(pA V)=some ⟨b_,0,none⟩→¬f=some ⟨b_,0,none⟩)∧(∀ b_,(pA V)=some ⟨b_,0,none⟩→¬p=some ⟨b_,0,none⟩)∧(∀ b_,(pA V)=some ⟨b_,0,none⟩→¬(pA aF)=some ⟨b_,0,none⟩)∧(∀ b_,(pA aF)=some ⟨b_,0,none⟩→¬f=some ⟨b_,0,none⟩)∧(∀ b_,(pA aF)=some ⟨b_,0,none⟩→¬p=some ⟨b_,0,none⟩)) ?_ (fun fa=>?_)
      ·rintro np k8 ⟨V,aF,fQ,bj,dh,eL,eM,di,eN,iE,iF,iG,eu,ew⟩
       rw [← sA fQ]
       have mN:=bj.size
       refine Ar [1,4] oC G ⟨Bm G trivial ?_,Bm G trivial ?_,trivial⟩
       ·refine Q (lB sca31 G di G) (Qn ⟨bj,_,G,(Ag oC G (dq _ _ (⟨V,aF,(At.r G),bj,(dh.down),(eL.down),eM,di,eN,iE,iF,iG,eu,ew⟩)))⟩)
       ·refine Qc ent58 (c___spec_l1Cur__among k8 Lc v ap eM ((an.kn a).kp bj (fun b_ hb e'=>e'.elim (fun e'=>by have e'':b_=gc:=e'; omega) (fun e'=>e'.elim (nE (m.kd a d)) (fun e'=>by have e'':b_=c:=e'; omega)))) oB oB ([0,1,99]:List Int) (dh.rd) oB oB (show ¬V=gc from by first | omega | (have:=dh.base_le G; omega))) G ?_
        rintro e pg ⟨d3,k1,kW,rfl,im,jy,fj,bs⟩
        refine ⟨_,G,?_⟩
        have mO:=bs.size
        have ee:=bj.step bs (fun _ _ e=>.inl e)
        have jt:(0:Int)≤d3∧d3≤99:=mem_rngB (lo:=0) (hi:=99) oG fj
        refine Qn ⟨ee,_,G,(Ag oC G (e6 _ _ (⟨V,d3,k1,kW,aF,(At.r G),ee,((eL.kn bs).down),im,(di.kn bs),(eN.kd bs d),eu,ew,jy,fj,jt⟩)))⟩
      refine Ak 0 G (kr b) (fun w' hw'=>fA fa34_0 G)<|Ak 2 G (kr b) (fun w' hw'=>mP G)<|Ak 5 G (kr b) (fun w' hw'=>mP G)<|Ar [1,3,6] oC G ⟨Bm G trivial ?_,Bm G trivial ?_,Bm G trivial ?_,trivial⟩
      ·refine Q (lB sca31 G ((C.kn a).lo b) G) (Qn ⟨(kq s).lo b,_,G,(Ar [3,6] oC G ⟨Bm G trivial ?_,Bm G trivial ?_,trivial⟩)⟩)
       ·refine Ql (vs:=[i6 0,i6 1,i6 99]) (L:=([0,1,99]:List Int)) (enc:=encI) tel93 (fun _=>G) G G G oG ?_
        intro dO ph l6 bt hF
        have mQ:=bt.size
        have ef:=((kr b:Kp (fun b_=>b_=gc∨f=some ⟨b_,0,none⟩∨b_=c) s _)).lo bt
        refine Qn ⟨ef,_,G,(Ag oC G (e7 _ _ (⟨dO,(At.r G),ef,(hF.down),((X.lo b).lo bt),(((C.kn a).lo b).lo bt),(((m.kd a d).lo b).lo bt),(fun b_ h h'=>(nE (g:=dO) ((m.kd a d).lo b)) (h'.trans h.symm)),(fun b_ h h'=>(nE (g:=dO) ((q.kd a i).lo b)) (h'.trans h.symm))⟩)))⟩
       ·refine Ql (vs:=[i6 0,i6 1]) (L:=([0,1]:List Int)) (enc:=encI) tel93 (fun _=>G) G G G oG ?_
        intro dP pj l7 bu hG
        have mR:=bu.size
        have eg:=((kr b:Kp (fun b_=>b_=gc∨f=some ⟨b_,0,none⟩∨b_=c) s _)).lo bu
        refine Qn ⟨eg,_,G,(Ag oC G (e9 _ _ (⟨dP,(At.r G),eg,(hG.down),((X.lo b).lo bu),(((C.kn a).lo b).lo bu),(((m.kd a d).lo b).lo bu),(fun b_ h h'=>(nE (g:=dP) ((m.kd a d).lo b)) (h'.trans h.symm)),(fun b_ h h'=>(nE (g:=dP) ((q.kd a i).lo b)) (h'.trans h.symm))⟩)))⟩
      ·refine Ql (vs:=[i6 0,i6 1,i6 99]) (L:=([0,1,99]:List Int)) (enc:=encI) tel93 (fun _=>G) G G G oG ?_
       intro bb k9 l8 A bh
       have mU:=A.size
       have bm:=((kr b:Kp (fun b_=>b_=gc∨f=some ⟨b_,0,none⟩∨b_=c) s _)).lo A
       have ey:=nE (g:=bb) ((m.kd a d).lo b)
       have ez:=nE (g:=bb) ((q.kd a i).lo b)
       refine Qn ⟨bm,_,G,(Ar [1,4,6] oC G ⟨Bm G trivial ?_,Bm G trivial ?_,Bm G trivial ?_,trivial⟩)⟩
       ·refine Q (lB sca31 G (((C.kn a).lo b).lo A) G) (Qn ⟨bm,_,G,(Ag oC G (e7 _ _ (⟨bb,(At.r G),bm,(bh.down),((X.lo b).lo A),(((C.kn a).lo b).lo A),(((m.kd a d).lo b).lo A),(fun b_ h h'=>ey (h'.trans h.symm)),(fun b_ h h'=>ez (h'.trans h.symm))⟩)))⟩)
       ·refine Qc ent58 (c___spec_l1Cur__among k9 Lc v ap ((X.lo b).lo A) (((an.kn a).lo b).lo A) oB oB ([0,1,99]:List Int) (bh.rd) oB oB (show ¬bb=gc from by first | omega | (have:=bh.base_le G; omega))) G ?_
        rintro e pk ⟨dE,gU,gR,rfl,ep,fp,dw,ak⟩
        refine ⟨_,G,?_⟩
        have mV:=ak.size
        have bV:=bm.step ak (fun _ _ e=>.inl e)
        have fk:(0:Int)≤dE∧dE≤99:=mem_rngB (lo:=0) (hi:=99) oG dw
        refine Qn ⟨bV,_,G,(Ar [1,6] oC G ⟨Bm G trivial ?_,Bm G trivial ?_,trivial⟩)⟩
        ·refine Q (lB sca31 G ((((C.kn a).lo b).lo A).kn ak) G) (Qn ⟨bV,_,G,(Ag oC G (eZ _ _ (⟨bb,dE,gU,gR,(At.r G),bV,ep,((((C.kn a).lo b).lo A).kn ak),((((m.kd a d).lo b).lo A).kd ak d),fp,dw,fk⟩)))⟩)
        ·refine Ql (vs:=[i6 0,i6 1]) (L:=([0,1]:List Int)) (enc:=encI) tel93 (fun _=>G) G G G oG ?_
         intro dQ pl l9 bw hH
         have mW:=bw.size
         have eh:=bV.lo bw
         refine Qn ⟨eh,_,G,(Ag oC G (e6 _ _ (⟨bb,dE,gU,gR,dQ,(At.r G),eh,(hH.down),(ep.lo bw),(((((C.kn a).lo b).lo A).kn ak).lo bw),(((((m.kd a d).lo b).lo A).kd ak d).lo bw),(fun b_ h h'=>(nE (g:=dQ) ((((m.kd a d).lo b).lo A).kd ak d)) (h'.trans h.symm)),(fun b_ h h'=>(nE (g:=dQ) ((((q.kd a i).lo b).lo A).kd ak i)) (h'.trans h.symm)),fp,dw,fk⟩)))⟩
       ·refine Ql (vs:=[i6 0,i6 1]) (L:=([0,1]:List Int)) (enc:=encI) tel93 (fun _=>G) G G G oG ?_
        intro cB pm ma aZ hI
        have mX:=aZ.size
        have ei:=bm.lo aZ
        refine Qn ⟨ei,_,G,(Ag oC G (fa _ _ (⟨bb,cB,(At.r G),ei,((bh.lo aZ).down),(hI.down),(((X.lo b).lo A).lo aZ),((((C.kn a).lo b).lo A).lo aZ),((((m.kd a d).lo b).lo A).lo aZ),(fun b_ h h'=>ey (h'.trans h.symm)),(fun b_ h h'=>ez (h'.trans h.symm)),(fun b_ h h'=>(nE (g:=cB) bh) (h.trans h'.symm)),(fun b_ h h'=>(nE (g:=cB) (((m.kd a d).lo b).lo A)) (h'.trans h.symm)),(fun b_ h h'=>(nE (g:=cB) (((q.kd a i).lo b).lo A)) (h'.trans h.symm))⟩)))⟩
      ·refine Ql (vs:=[i6 0,i6 1]) (L:=([0,1]:List Int)) (enc:=encI) tel93 (fun _=>G) G G G oG ?_
       intro cC pn mb Y cF
       have mY:=Y.size
       have bW:=((kr b:Kp (fun b_=>b_=gc∨f=some ⟨b_,0,none⟩∨b_=c) s _)).lo Y
       have eD:=nE (g:=cC) ((m.kd a d).lo b)
       have eE:=nE (g:=cC) ((q.kd a i).lo b)
       refine Qn ⟨bW,_,G,(Ar [1,3] oC G ⟨Bm G trivial ?_,Bm G trivial ?_,trivial⟩)⟩
       ·refine Q (lB sca31 G (((C.kn a).lo b).lo Y) G) (Qn ⟨bW,_,G,(Ag oC G (e9 _ _ (⟨cC,(At.r G),bW,(cF.down),((X.lo b).lo Y),(((C.kn a).lo b).lo Y),(((m.kd a d).lo b).lo Y),(fun b_ h h'=>eD (h'.trans h.symm)),(fun b_ h h'=>eE (h'.trans h.symm))⟩)))⟩)
       ·refine Ql (vs:=[i6 0,i6 1,i6 99]) (L:=([0,1,99]:List Int)) (enc:=encI) tel93 (fun _=>G) G G G oG ?_
        intro cD po mc a6 hJ
        have mZ:=a6.size
        have ej:=bW.lo a6
        refine Qn ⟨ej,_,G,(Ag oC G (fa _ _ (⟨cD,cC,(At.r G),ej,(hJ.down),((cF.lo a6).down),(((X.lo b).lo Y).lo a6),((((C.kn a).lo b).lo Y).lo a6),((((m.kd a d).lo b).lo Y).lo a6),(fun b_ h h'=>(nE (g:=cD) (((m.kd a d).lo b).lo Y)) (h'.trans h.symm)),(fun b_ h h'=>(nE (g:=cD) (((q.kd a i).lo b).lo Y)) (h'.trans h.symm)),(fun b_ h h'=>(nE (g:=cD) cF) (h'.trans h.symm)),(fun b_ h h'=>eD (h'.trans h.symm)),(fun b_ h h'=>eE (h'.trans h.symm))⟩)))⟩
     rintro nq pp ⟨bg,dG,E,y,D,aj,al,S,ag,aR,bN,fR,bS,iW,iX,iY,lR,iw,lS,ix,aQ,aN,aO,dC,dy,dz⟩
     rw [← sA fR]
     have m0:=bS.size
     refine Ws ?_
     have jd:=(bC.kn a).kp bS (fun e'=>e'.elim (fun e'=>by have e'':g1=gc:=e'; omega) (fun e'=>e'.elim (fun e'=>cl e') (fun e'=>by have e'':g1=c:=e'; omega)))
     have je:=(q.kd a i).kp bS (fun b_ hb e'=>e'.elim (fun e'=>i (by have e'':b_=gc:=e'; rw [← e'']; exact hb)) (fun e'=>e'.elim (fun e'=>am b_ e' hb) (fun e'=>aJ (by have e'':b_=c:=e'; rw [← e'']; exact hb))))
     refine Wr (Q (lG agg34 G iY G)<|Qw (o:=0) (vs:=[.slice bg (B+1) dG,.slice p K R,i6 o.Bought,i6 o.Dropped,i6 o.Mended]) agg34.2 G G G G jd ler G ?_)
     intro pq b5 mi io
     refine Qn (We (retC G G agg34 io G ?_))
     refine ⟨bg,B+1,dG,p,K,R,(⟨o.Maps++([(⟨y,0,S⟩:LMap)]:List LMap),o.Away,o.Bought,o.Dropped,o.Mended⟩:Library),ag,aR,eR (eA G),(oq ((iW.kd b5 iw).down) ?_),(oq ((je.kd b5 cm).down) ?_),ix,(iX.kn b5),⟨oB,oB⟩,oE,(by first | assumption | exact MapB.of (And.left (And.left ‹LibOK _›)) | exact MapB.app (MapB.of (And.left (And.left ‹LibOK _›))) oF | exact MapB.nil),gN,((cE.step bS (fun i_ hi_ e'=>e'.elim (fun e'=>e') (fun e'=>e'.elim (fun e'=>by have:=(m.kd a d).base_le e'; omega) (fun e'=>by have e'':i_=c:=e'; omega)))).new b5)⟩ <;> (first | rfl | omega | grind)
    ·refine Ws (Wr (Q (r_eq G G)<|Q (aB G)<|Qn (Wd G (fun jI=>?_) (fun jI=>?_))))
     ·refine Ws (WA (Kp (fun b_=>b_=gc∨p=some ⟨b_,0,none⟩∨b_=c) s) (fun f' w'=>∃ (T:Nat) (F:Int) (P:Int) (ao:Int) (aG:Nat) (aA:Option Addr) (cg:Nat),At f' [(2,pt g1),(3,pt c)]∧(Kp (fun b_=>b_=gc∨p=some ⟨b_,0,none⟩∨b_=c) s w')∧(SlO w' w.heap.size encAway 2 129 aA (K+1) cg (o.Away++([(⟨F,5⟩:Away)]:List Away)))∧(Blk w' gc ec [.slice Ac nc cc,i6 P,.int .u64 ao])∧(Blk w' c 34 [.slice f B H,.slice aA (K+1) cg,i6 o.Bought,i6 o.Dropped,i6 o.Mended])∧(¬aA=some ⟨gc,0,none⟩)∧(¬aA=some ⟨g1,0,none⟩)∧(¬aA=some ⟨c,0,none⟩)∧Dj aA f∧(v≤P∧P≤v+2)∧(F∈([0,1,99]:List Int))∧((0:Int)≤F∧F≤99)) mo ?_ ?_)
      ·intro pr k
       have m1:=k.size
       refine Av #[true,true,true,true,true,true,true,false,false,false] 3 (fun f' w'=>∃ (T:Nat) (F:Int) (P:Int) (ao:Int) (aG:Nat),At f' [(2,pt g1),(3,pt c),(54,.slice p K R),(59,.slice (pA aG) 1 1)]∧(Kp (fun b_=>b_=gc∨p=some ⟨b_,0,none⟩∨b_=c) s w')∧(SlO w' s.heap.size encAway 2 129 (pA aG) 1 1 ([(⟨F,5⟩:Away)]:List Away))∧(Blk w' gc ec [.slice Ac nc cc,i6 P,.int .u64 ao])∧(Blk w' c 34 (cLb f B H p K R o))∧(SlO w' w.heap.size encAway 2 129 p K R o.Away)∧(∀ b_,(pA aG)=some ⟨b_,0,none⟩→¬f=some ⟨b_,0,none⟩)∧(∀ b_,(pA aG)=some ⟨b_,0,none⟩→¬p=some ⟨b_,0,none⟩)∧(v≤P∧P≤v+2)∧(F∈([0,1,99]:List Int))∧((0:Int)≤F∧F≤99)) ?_ (fun fb=>?_)
       ·rintro nr pu ⟨T,F,P,ao,aG,fS,bT,jk,eQ,eT,jl,lY,lZ,cf,cd,ce⟩
        rw [← sA fS]
        have m2:=bT.size
        refine Ab 7 G (Qp tel32 G G jl (jk.rd) (fun _=>G) oB oB ?_)
        intro bE fs pw b6 hP bQ
        have m3:=b6.size
        have cS:=bT.step b6 (fun _ _ e=>.inr (.inl e))
        have iS:¬bE=some ⟨gc,0,none⟩:=fun e'=>(bQ gc e').elim (fun h=>i (h.trans e')) (fun h=>by have:=eQ.lt; omega)
        have iT:¬bE=some ⟨g1,0,none⟩:=fun e'=>(bQ g1 e').elim (fun h=>cm (h.trans e')) (fun h=>by have:=((bC.kn a).kp bT (fun e'=>e'.elim (fun e'=>by have e'':g1=gc:=e'; omega) (fun e'=>e'.elim (fun e'=>cm e') (fun e'=>by have e'':g1=c:=e'; omega)))).lt; omega)
        have eF:¬bE=some ⟨c,0,none⟩:=fun e'=>(bQ c e').elim (fun h=>aJ (h.trans e')) (fun h=>by have:=eT.lt; omega)
        have iU:Dj bE f:=fun b_ e' h'=>(bQ b_ e').elim (fun h=>am b_ h' (h.trans e')) (fun h=>by have:=((m.kd a d).kp bT (fun b_ hb e'=>e'.elim (fun e'=>d (by have e'':b_=gc:=e'; rw [← e'']; exact hb)) (fun e'=>e'.elim (fun e'=>am b_ hb e') (fun e'=>bO (by have e'':b_=c:=e'; rw [← e'']; exact hb))))).base_le h'; omega)
        refine Qn ⟨cS,_,G,(Ak 8 G cS (fun w' hw'=>fA fa34_1 G)<|Ab 9 G (Qw (o:=1) (vs:=[.slice bE (K+1) fs]) sca32.2 G G G G (eT.kp b6 (fun e'=>aJ e')) ler G ?_))⟩
        intro px c6 mj ip
        have ek:=cS.step c6 (fun _ _ e=>.inr (.inr e))
        refine Qn ⟨ek,_,G,(Ad oC (⟨T,F,P,ao,aG,bE,fs,⟨G,G,trivial⟩,ek,(hP.kd c6 eF),((eQ.kp b6 (fun e'=>i e')).kn c6),ip,iS,iT,eF,iU,cf,cd,ce⟩))⟩
       refine Av #[true,true,true,true,true,true,false,false,false,false] 4 (fun f' w'=>∃ (T:Nat) (F:Int) (P:Int) (ao:Int),At f' [(2,pt g1),(3,pt c),(54,.slice p K R),(58,.agg (List.toArray [i6 F,i6 5]))]∧(Kp (fun b_=>b_=gc∨p=some ⟨b_,0,none⟩∨b_=c) s w')∧(Blk w' gc ec [.slice Ac nc cc,i6 P,.int .u64 ao])∧(Blk w' c 34 (cLb f B H p K R o))∧(SlO w' w.heap.size encAway 2 129 p K R o.Away)∧(v≤P∧P≤v+2)∧(F∈([0,1,99]:List Int))∧((0:Int)≤F∧F≤99)) ?_ (fun fc=>?_)
       ·rintro ns py ⟨T,F,P,ao,fT,cN,ji,jj,eP,cf,cd,ce⟩
        rw [← sA fT]
        have m4:=cN.size
        refine Ab 6 G (Ql (vs:=[.agg (List.toArray [i6 F,i6 5])]) (L:=([(⟨F,5⟩:Away)]:List Away)) (enc:=encAway) tel32 (fun _=>G) G G G oG ?_)
        intro dR pz md bz hQ
        have m5:=bz.size
        have el:=cN.lo bz
        have iV:=nE (g:=dR) ((m.kd a d).kp cN (fun b_ hb e'=>e'.elim (fun e'=>d (by have e'':b_=gc:=e'; rw [← e'']; exact hb)) (fun e'=>e'.elim (fun e'=>am b_ hb e') (fun e'=>bO (by have e'':b_=c:=e'; rw [← e'']; exact hb)))))
        refine Qn ⟨el,_,G,(Ag oC G (fb _ _ (⟨T,F,P,ao,dR,(At.r G),el,(hQ.down),(ji.lo bz),(jj.lo bz),(eP.lo bz),(fun b_ h h'=>iV (h'.trans h.symm)),(fun b_ h h'=>(nE (g:=dR) eP) (h'.trans h.symm)),cf,cd,ce⟩)))⟩
       refine Av #[true,true,true,true,false,false,false,false,false,false] 6 (fun f' w'=>∃ (T:Nat),At f' [(2,pt g1),(3,pt c),(54,.slice p K R),(55,pt gc),(56,.slice (pA T) 3 3)]∧(Kp (fun b_=>b_=gc∨p=some ⟨b_,0,none⟩∨b_=c) s w')∧(SlO w' s.heap.size encI 1 3 (pA T) 3 3 ([0,1,99]:List Int))∧(Blk w' gc ec [.slice Ac nc cc,i6 v,.int .u64 ap])∧(Blk w' c 34 (cLb f B H p K R o))∧(SlO w' w.heap.size encAway 2 129 p K R o.Away)∧(∀ b_,(pA T)=some ⟨b_,0,none⟩→¬f=some ⟨b_,0,none⟩)∧(∀ b_,(pA T)=some ⟨b_,0,none⟩→¬p=some ⟨b_,0,none⟩)) ?_ (fun fd=>?_)
       ·rintro nt lc ⟨T,fU,cO,eO,jf,jg,jh,lW,lX⟩
        rw [← sA fU]
        have m6:=cO.size
        refine Ab 4 G (Qc ent58 (c___spec_l1Cur__among lc Lc v ap jf ((an.kn a).kp cO (fun b_ hb e'=>e'.elim (fun e'=>by have e'':b_=gc:=e'; omega) (fun e'=>e'.elim (nE (q.kd a i)) (fun e'=>by have e'':b_=c:=e'; omega)))) oB oB ([0,1,99]:List Int) (eO.rd) oB oB (show ¬T=gc from by first | omega | (have:=eO.base_le G; omega))) G ?_)
        rintro e pB ⟨dF,k3,kX,rfl,iq,jz,fl,b7⟩
        refine ⟨_,G,?_⟩
        have m7:=b7.size
        have cT:=cO.step b7 (fun _ _ e=>.inl e)
        have ju:(0:Int)≤dF∧dF≤99:=mem_rngB (lo:=0) (hi:=99) oG fl
        refine Qn ⟨cT,_,G,(Ak 5 G cT (fun w' hw'=>r_build (vs:=[(0,i6 dF),(1,i6 5)]) G (bld129_0_1 _ _))<|Ag oC G (fc _ _ (⟨T,dF,k3,kX,(At.r G),cT,iq,(jg.kn b7),(jh.kd b7 i),jz,fl,ju⟩)))⟩
       refine Ak 0 G (kr k) (fun w' hw'=>fA fa34_1 G)<|Ak 2 G (kr k) (fun w' hw'=>mP G)<|Ar [1,3] oC G ⟨Bm G trivial ?_,Bm G trivial ?_,trivial⟩
       ·refine Q (lB sca32 G ((C.kn a).lo k) G) (Qn ⟨(kq s).lo k,_,G,(Ab 3 G (Ql (vs:=[i6 0,i6 1,i6 99]) (L:=([0,1,99]:List Int)) (enc:=encI) tel93 (fun _=>G) G G G oG ?_))⟩)
        intro dS pC me bA hU
        have m8:=bA.size
        have em:=((kr k:Kp (fun b_=>b_=gc∨p=some ⟨b_,0,none⟩∨b_=c) s _)).lo bA
        refine Qn ⟨em,_,G,(Ag oC G (fd _ _ (⟨dS,(At.r G),em,(hU.down),((X.lo k).lo bA),(((C.kn a).lo k).lo bA),(((q.kd a i).lo k).lo bA),(fun b_ h h'=>(nE (g:=dS) ((m.kd a d).lo k)) (h'.trans h.symm)),(fun b_ h h'=>(nE (g:=dS) ((q.kd a i).lo k)) (h'.trans h.symm))⟩)))⟩
       ·refine Ql (vs:=[i6 0,i6 1,i6 99]) (L:=([0,1,99]:List Int)) (enc:=encI) tel93 (fun _=>G) G G G oG ?_
        intro bG ld mf I cG
        have m9:=I.size
        have bX:=((kr k:Kp (fun b_=>b_=gc∨p=some ⟨b_,0,none⟩∨b_=c) s _)).lo I
        refine Qn ⟨bX,_,G,(Ar [1,4] oC G ⟨Bm G trivial ?_,Bm G trivial ?_,trivial⟩)⟩
        ·refine Q (lB sca32 G (((C.kn a).lo k).lo I) G) (Qn ⟨bX,_,G,(Ag oC G (fd _ _ (⟨bG,(At.r G),bX,(cG.down),((X.lo k).lo I),(((C.kn a).lo k).lo I),(((q.kd a i).lo k).lo I),(fun b_ h h'=>(nE (g:=bG) ((m.kd a d).lo k)) (h'.trans h.symm)),(fun b_ h h'=>(nE (g:=bG) ((q.kd a i).lo k)) (h'.trans h.symm))⟩)))⟩)
        ·refine Qc ent58 (c___spec_l1Cur__among ld Lc v ap ((X.lo k).lo I) (((an.kn a).lo k).lo I) oB oB ([0,1,99]:List Int) (cG.rd) oB oB (show ¬bG=gc from by first | omega | (have:=cG.base_le G; omega))) G ?_
         rintro e pD ⟨bf,gW,gS,rfl,et,fq,dx,aa⟩
         refine ⟨_,G,?_⟩
         have na:=aa.size
         have bn:=bX.step aa (fun _ _ e=>.inl e)
         have fm:(0:Int)≤bf∧bf≤99:=mem_rngB (lo:=0) (hi:=99) oG dx
         refine Qn ⟨bn,_,G,(Ak 5 G bn (fun w' hw'=>r_build (vs:=[(0,i6 bf),(1,i6 5)]) G (bld129_0_1 _ _))<|Ar [1,6] oC G ⟨Bm G trivial ?_,Bm G trivial ?_,trivial⟩)⟩
         ·refine Q (lB sca32 G ((((C.kn a).lo k).lo I).kn aa) G) (Qn ⟨bn,_,G,(Ag oC G (fc _ _ (⟨bG,bf,gW,gS,(At.r G),bn,et,((((C.kn a).lo k).lo I).kn aa),((((q.kd a i).lo k).lo I).kd aa i),fq,dx,fm⟩)))⟩)
         ·refine Ql (vs:=[.agg (List.toArray [i6 bf,i6 5])]) (L:=([(⟨bf,5⟩:Away)]:List Away)) (enc:=encAway) tel32 (fun _=>G) G G G oG ?_
          intro dT pE mg a7 hY
          have nb:=a7.size
          have cU:=bn.lo a7
          refine Qn ⟨cU,_,G,(Ab 1 G (Q (lB sca32 G (((((C.kn a).lo k).lo I).kn aa).lo a7) G) (Qn ⟨cU,_,G,(Ag oC G (fb _ _ (⟨bG,bf,gW,gS,dT,(At.r G),cU,(hY.down),(et.lo a7),(((((C.kn a).lo k).lo I).kn aa).lo a7),(((((q.kd a i).lo k).lo I).kd aa i).lo a7),(fun b_ h h'=>(nE (g:=dT) ((((m.kd a d).lo k).lo I).kd aa d)) (h'.trans h.symm)),(fun b_ h h'=>(nE (g:=dT) ((((q.kd a i).lo k).lo I).kd aa i)) (h'.trans h.symm)),fq,dx,fm⟩)))⟩)))⟩
      rintro nu pG ⟨T,F,P,ao,aG,aA,cg,fV,bU,jm,jn,eU,l0,iP,iQ,iR,cf,cd,ce⟩
      rw [← sA fV]
      have nd:=bU.size
      have jo:=(bC.kn a).kp bU (fun e'=>e'.elim (fun e'=>by have e'':g1=gc:=e'; omega) (fun e'=>e'.elim (fun e'=>cm e') (fun e'=>by have e'':g1=c:=e'; omega)))
      have jp:=(m.kd a d).kp bU (fun b_ hb e'=>e'.elim (fun e'=>d (by have e'':b_=gc:=e'; rw [← e'']; exact hb)) (fun e'=>e'.elim (fun e'=>am b_ hb e') (fun e'=>bO (by have e'':b_=c:=e'; rw [← e'']; exact hb))))
      refine Wr (Q (fA fa34_2 G)<|Q (lB sca3 G eU G)<|Q (r_add G G oB)<|Q (fA fa34_2 G)<|Qw (o:=2) (vs:=[i6 (o.Bought+1)]) sca3.2 G G G G eU ler G ?_)
      intro pH bB mm ir
      refine Qn (Ws (Wr (Q (lG agg34 G ir G)<|Qw (o:=0) (vs:=[.slice f B H,.slice aA (K+1) cg,i6 (o.Bought+1),i6 o.Dropped,i6 o.Mended]) agg34.2 G G G G (jo.kn bB) ler G ?_)))
      intro pI b8 mn iu
      refine Qn (We (retC G G agg34 iu G ?_))
      refine ⟨f,B,H,aA,K+1,cg,(⟨o.Maps,o.Away++([(⟨F,5⟩:Away)]:List Away),o.Bought+1,o.Dropped,o.Mended⟩:Library),P,ao,eR (eA G),(oq (((jp.kd bB bO).kd b8 cl).down) ?_),(oq (((jm.kd bB iQ).kd b8 iP).down) ?_),(fun b_ h h'=>iR b_ h' h),((jn.kn bB).kn b8),⟨oB,oB⟩,oE,gM,(by first | assumption | exact AwayB.of ‹LibOK _› | exact AwayB.app (AwayB.of ‹LibOK _›) oF | exact AwayB.nil),(((cE.step bU (fun i_ hi_ e'=>e'.elim (fun e'=>e') (fun e'=>e'.elim (fun e'=>by have:=(q.kd a i).base_le e'; omega) (fun e'=>by have e'':i_=c:=e'; omega)))).new bB).new b8)⟩ <;> (first | rfl | omega | grind)
     ·refine Wk (Ws (Wr (Q (lG agg34 G (C.kn a) G)<|Qw (o:=0) (vs:=(cLb f B H p K R o)) agg34.2 G G G G (bC.kn a) ler G ?_)))
      intro pJ b9 mp iv
      refine Qn (We (retC G G agg34 iv G (⟨f,B,H,p,K,R,o,v,ap,eR G,(((m.kd a d).kd b9 cl).down),(((q.kd a i).kd b9 cm).down),am,(X.kn b9),⟨oB,oB⟩,oE,gM,gN,(cE.new b9)⟩)))
theorem c_spec_SyncLog (w:World) (l:Log) (z:(l.Durable.length:Int)+(l.Pending.length:Int)≤4000000):Calls Tryz.prog 191 #[.agg (List.toArray (encLog l))] w fun e w'=>e=.returned (.tuple (List.toArray [.agg (List.toArray [str (((syncN l).1).Durable),str (((syncN l).1).Pending),i6 (((syncN l).1).Count)]),.bool ((syncN l).2)]))∧Lo w w':=by
 refine cW 16 Tryz.func191 G G G (Ws (Wr (bx G ?_)))
 intro E H y n A j
 refine Qa (l:=[str ([]:List UInt8),str ([]:List UInt8),i6 0]) tz35 G ?_
 intro F p q b s f
 refine Q (aB G)<|Qn (Ws (Ws (Wr (Q (lG agg35 G (j.lo b) G)<|Qv ent63 (c_spec_l33Log p l oB) G fun B a x=>?_))))
 have d:=(((lr w).lo n).lo b).lo a
 refine Q (rN G)<|Qn (Wz G (fun g=>?_) (fun g=>?_))
 ·refine Ws (Wr (Q (r_build (vs:=[]) G bld35_)<|Qw (o:=0) (vs:=[str ([]:List UInt8),str ([]:List UInt8),i6 0]) agg35.2 G G G G (f.lo a) ler G ?_))
  intro C k t h
  refine Q (aB G)<|Qn (We (retCT G G agg35 h G (v:=.bool _) G ?_))
  refine ⟨eR (eT2 (eA (eC (eS ?_) (eC (eS ?_) (eC (eI ?_) G)))) (eB ?_)),(d.new k)⟩ <;> (first | (rw [sync_yes ‹LogOK _›]; first | done | rfl | (dsimp only; omega)) | (rw [sync_no ‹¬LogOK _›]; first | done | rfl | (dsimp only; omega)))
 ·have r:=log_rng g
  refine Wk (Ws ?_)
  have c:=(j.lo b).lo a
  refine Wr (Q (fA fa35_0 G)<|Q (lB sca9 G c G)<|Q (fA fa35_1 G)<|Q (lB sca9 G c G)<|Q (r_cat G G oA)<|Q (fA fa35_2 G)<|Q (lB sca3 G c G)<|Q (r_build (vs:=[(0,str (l.Durable++l.Pending)),(2,i6 l.Count)]) G (bld35_0_2 _ _))<|Qw (o:=0) (vs:=[str (l.Durable++l.Pending),str ([]:List UInt8),i6 l.Count]) agg35.2 G G G G (f.lo a) ler G ?_)
  intro D m u i
  refine Q (aB G)<|Qn (We (retCT G G agg35 i G (v:=.bool _) G ?_))
  refine ⟨eR (eT2 (eA (eC (eS ?_) (eC (eS ?_) (eC (eI ?_) G)))) (eB ?_)),(d.new m)⟩ <;> (first | (rw [sync_yes ‹LogOK _›]; first | done | rfl | (dsimp only; omega)) | (rw [sync_no ‹¬LogOK _›]; first | done | rfl | (dsimp only; omega)))
end Go.Proofs.YtndcchndcghmoaaGreatDoor
namespace Go.Proofs.YtndcchndcghmoaaGreatDoor
open Go Go.RowKit Fw
set_option maxRecDepth 10000
set_option maxHeartbeats 2000000
set_option linter.unusedVariables false
variable {Ac : Option Addr} {nc cc Bc : Nat}
theorem ent110:Ent Tryz.prog 110:=en Tryz.func110
theorem ent164:Ent Tryz.prog 164:=en Tryz.func164
theorem ent191:Ent Tryz.prog 191:=en Tryz.func191
theorem ent62:Ent Tryz.prog 62:=en Tryz.func62
theorem ent71:Ent Tryz.prog 71:=en Tryz.func71
theorem tel49:TEl Tryz.prog 49 5 (.int .u8 0) 1 1:=⟨by kernel_rfl,by kernel_rfl,rfl,by decide⟩
theorem c___spec_l1Cur__logRecord (w:World) {gc ec:Nat} (Lc:List UInt8) (tc sc:Int) (hc:Blk w gc ec [.slice Ac nc cc,i6 tc,.int .u64 sc]) (hLc:SlR w Bc encB 1 Ac nc cc Lc) (hgc:Bc≤gc) (htc:0≤tc∧tc+8≤4611686018427387904):Calls Tryz.prog 62 #[.pointer (some ⟨gc,0,none⟩)] w fun e w'=>∃ (r:LogRecord) (tc' sc':Int),e=.returned (.agg (List.toArray [str r.Command,str r.Reply]))∧Blk w' gc ec [.slice Ac nc cc,i6 tc',.int .u64 sc']∧(tc≤tc'∧tc'≤tc+8)∧(r.Command.length≤40∧r.Reply.length≤40)∧Kp (fun b_=>b_=gc) w w':=by
 refine cW 28 Tryz.func62 G G G ?_
 have hBlc:=hc.lt
 have hbdc:=hLc.bound
 have hlec:=hLc.len
 have hBbc:=hLc.bd
 refine Ws (Wr (Qa (l:=[str ([]:List UInt8),str ([]:List UInt8)]) tz71 G ?_))
 intro g1 w2 bC F bD aq
 refine Qn (Ws (Wr (Q (mP G)<|Ql (vs:=[str ([99,111,117,110,116]:List UInt8),str ([115,111,114,116,32,109,101,114,103,101]:List UInt8),str ([120]:List UInt8),str ([115,101,108,101,99,116,32,50]:List UInt8),str ([48,32,49]:List UInt8)]) (L:=([([99,111,117,110,116]:List UInt8),([115,111,114,116,32,109,101,114,103,101]:List UInt8),([120]:List UInt8),([115,101,108,101,99,116,32,50]:List UInt8),([48,32,49]:List UInt8)]:List (List UInt8))) (enc:=encS) tel44 (fun _=>G) G G G oG ?_)))
 intro g9 aR aW c K
 have bh:=c.size
 refine Qc ent110 (c___spec_l1Cur__of aR Lc tc sc ((hc.lo F).lo c) ((hLc.lo F).lo c) oB oB ([([99,111,117,110,116]:List UInt8),([115,111,114,116,32,109,101,114,103,101]:List UInt8),([120]:List UInt8),([115,101,108,101,99,116,32,50]:List UInt8),([48,32,49]:List UInt8)]:List (List UInt8)) (K.rd) oB oB (show ¬g9=gc from by first | omega | (have:=K.base_le G; omega))) G ?_
 rintro e bF ⟨p,aN,aJ,rfl,ae,be,ai,i⟩
 refine ⟨_,G,?_⟩
 have bi:=i.size
 have a7:p.length≤40:=mem_le (n:=40) oG ai
 refine Q (mP G)<|Ql (vs:=[str ([]:List UInt8),str ([51]:List UInt8),str ([63]:List UInt8),str ([97,64,98]:List UInt8),str ([51,32,49,32,50]:List UInt8)]) (L:=([([]:List UInt8),([51]:List UInt8),([63]:List UInt8),([97,64,98]:List UInt8),([51,32,49,32,50]:List UInt8)]:List (List UInt8))) (enc:=encS) tel44 (fun _=>G) G G G oG ?_
 intro an aT aX d M
 have bj:=d.size
 refine Qc ent110 (c___spec_l1Cur__of aT Lc aN aJ (ae.lo d) ((((hLc.lo F).lo c).kn i).lo d) oB oB ([([]:List UInt8),([51]:List UInt8),([63]:List UInt8),([97,64,98]:List UInt8),([51,32,49,32,50]:List UInt8)]:List (List UInt8)) (M.rd) oB oB (show ¬an=gc from by first | omega | (have:=M.base_le G; omega))) G ?_
 rintro e bG ⟨q,aO,aK,rfl,ag,bf,aj,s⟩
 refine ⟨_,G,?_⟩
 have bl:=s.size
 have a8:q.length≤40:=mem_le (n:=40) oG aj
 refine Q (r_build (vs:=[(0,str p),(1,str q)]) G (bld71_0_1 _ _))<|Qa (l:=[str ([]:List UInt8),str ([]:List UInt8)]) tz71 G ?_
 intro bz bH aY t bb ah
 refine Qw (o:=0) (vs:=[str p,str q]) agg71.2 G G G G ah ler G ?_
 intro aU u bc A
 refine Qn (Ws (Ws ?_))
 have H:=((((((hLc.lo F).lo c).kn i).lo d).kn s).lo t).kn u
 have I:=(((((aq.lo c).kn i).lo d).kn s).lo t).kn u
 refine Wr (Q (mP G)<|Qc ent59 (c___spec_l1Cur__pick aU Lc aO aK ((ag.lo t).kn u) H oB oB 24 oD) G ?_)
 rintro e bI ⟨bE,Z,Y,rfl,B,bg,ba,a⟩
 refine ⟨_,G,?_⟩
 have bm:=a.size
 have y:=((((((((kr F:Kp (fun b_=>b_=gc) w _)).lo c).step i (fun i_ hi_ e'=>e')).lo d).step s (fun i_ hi_ e'=>e')).lo t).new u).step a (fun i_ hi_ e'=>e')
 refine Qn (Wl (Ws (Wr (Q (r_eq G G)<|Q (aB G)<|Qn (Wd G (fun ap=>?_) (fun ap=>?_))))))
 ·refine Wr (Q (mP G)<|SR.make (m:=3) (zx:=(0:UInt8)) (enc:=encB) tel49 G (fun _=>G) G G oB oB ?_)
  intro bA bJ aZ f ac
  have bn:=f.size
  refine Q (r_ofB und49 und5 und9 G (ac.rd))<|Ql (vs:=[str ([]:List UInt8),str ([97,64,98]:List UInt8),str ([97,35]:List UInt8),str ([10]:List UInt8),str (List.replicate 3 (0:UInt8))]) (L:=([([]:List UInt8),([97,64,98]:List UInt8),([97,35]:List UInt8),([10]:List UInt8),List.replicate 3 (0:UInt8)]:List (List UInt8))) (enc:=encS) tel44 (fun _=>G) G G G oG ?_
  intro ao aV a6 g N
  have bo:=g.size
  refine Qc ent110 (c___spec_l1Cur__of aV Lc Z Y ((B.lo f).lo g) (((H.kn a).lo f).lo g) oB oB ([([]:List UInt8),([97,64,98]:List UInt8),([97,35]:List UInt8),([10]:List UInt8),List.replicate 3 (0:UInt8)]:List (List UInt8)) (N.rd) oB oB (show ¬ao=gc from by first | omega | (have:=N.base_le G; omega))) G ?_
  rintro e bK ⟨J,aQ,aM,rfl,O,aD,W,v⟩
  refine ⟨_,G,?_⟩
  have aF:=v.size
  have au:J.length≤40:=mem_le (n:=40) oG W
  refine Q (fA fa71_0 G)<|Qw (o:=0) (vs:=[str J]) sca9.2 G G G G ((((A.kn a).lo f).lo g).kn v) ler G ?_
  intro bp j ax P
  refine Qn (Ws (Wr (Q (lG agg71 G P G)<|Qw (o:=0) (vs:=[str J,str q]) agg71.2 G G G G (((((I.kn a).lo f).lo g).kn v).kn j) ler G ?_)))
  intro bq C ay R
  refine Qn (We (retC G G agg71 R G (⟨(⟨J,q⟩:LogRecord),aQ,aM,eR (eA G),((O.kn j).kn C),⟨oB,oB⟩,oF,(((((y.lo f).lo g).step v (fun i_ hi_ e'=>e')).new j).new C)⟩)))
 ·refine Ws (Wr (Q (r_eq G G)<|Q (aB G)<|Qn (Wd G (fun ab=>?_) (fun ab=>?_))))
  ·refine Wr (Q (mP G)<|Ql (vs:=[str ([35]:List UInt8),str ([10]:List UInt8),str ([127]:List UInt8)]) (L:=([([35]:List UInt8),([10]:List UInt8),([127]:List UInt8)]:List (List UInt8))) (enc:=encS) tel44 (fun _=>G) G G G oG ?_)
   intro aa am ar b z
   have aG:=b.size
   refine Qc ent110 (c___spec_l1Cur__of am Lc Z Y (B.lo b) ((H.kn a).lo b) oB oB ([([35]:List UInt8),([10]:List UInt8),([127]:List UInt8)]:List (List UInt8)) (z.rd) oB oB (show ¬aa=gc from by first | omega | (have:=z.base_le G; omega))) G ?_
   rintro e bs ⟨x,al,ak,rfl,S,aE,X,h⟩
   refine ⟨_,G,?_⟩
   have aH:=h.size
   have aw:x.length≤40:=mem_le (n:=40) oG X
   refine Q (fA fa71_1 G)<|Qw (o:=1) (vs:=[str x]) sca9.2 G G G G (((A.kn a).lo b).kn h) ler G ?_
   intro bt k az T
   refine Qn (Ws (Wr (Q (lG agg71 G T G)<|Qw (o:=0) (vs:=[str p,str x]) agg71.2 G G G G ((((I.kn a).lo b).kn h).kn k) ler G ?_)))
   intro bu D aA U
   refine Qn (We (retC G G agg71 U G (⟨(⟨p,x⟩:LogRecord),al,ak,eR (eA G),((S.kn k).kn D),⟨oB,oB⟩,oF,((((y.lo b).step h (fun i_ hi_ e'=>e')).new k).new D)⟩)))
  ·refine Wk (Ws (Wr (Q (lG agg71 G (A.kn a) G)<|Qw (o:=0) (vs:=[str p,str q]) agg71.2 G G G G (I.kn a) ler G ?_)))
   intro bw E aC V
   refine Qn (We (retC G G agg71 V G (⟨(⟨p,q⟩:LogRecord),Z,Y,eR (eA G),(B.kn E),⟨oB,oB⟩,oF,(y.new E)⟩)))
theorem c___spec_l1Cur__log (w:World) {gc ec:Nat} (Lc:List UInt8) (tc sc:Int) (hc:Blk w gc ec [.slice Ac nc cc,i6 tc,.int .u64 sc]) (hLc:SlR w Bc encB 1 Ac nc cc Lc) (hgc:Bc≤gc) (htc:0≤tc∧tc+64≤4611686018427387904):Calls Tryz.prog 164 #[.pointer (some ⟨gc,0,none⟩)] w fun e w'=>∃ (l:Log) (tc' sc':Int),e=.returned (.agg (List.toArray [str l.Durable,str l.Pending,i6 l.Count]))∧Blk w' gc ec [.slice Ac nc cc,i6 tc',.int .u64 sc']∧(tc≤tc'∧tc'≤tc+64)∧(LogOK l)∧Kp (fun b_=>b_=gc) w w':=by
 refine cW 27 Tryz.func164 G G G ?_
 have hBlc:=hc.lt
 have hbdc:=hLc.bound
 have hlec:=hLc.len
 have hBbc:=hLc.bd
 refine Ws (Wr (Qa (l:=[str ([]:List UInt8),str ([]:List UInt8),i6 0]) tz35 G ?_))
 intro U w2 bM aj bN aV
 refine Qn (Ws (Wr (Q (r_build (vs:=[]) G bld35_)<|Qa (l:=[str ([]:List UInt8),str ([]:List UInt8),i6 0]) tz35 G ?_)))
 intro p bO bp D bA aC
 refine Qw (o:=0) (vs:=[str ([]:List UInt8),str ([]:List UInt8),i6 0]) agg35.2 G G G G aC ler G ?_
 intro bm E bB aD
 refine Qn (Ws (Ws ?_))
 have Y:=((hLc.lo aj).lo D).kn E
 refine Wr (Q (mP G)<|Qc ent59 (c___spec_l1Cur__pick bm Lc tc sc (((hc.lo aj).lo D).kn E) Y oB oB 7 oD) G ?_)
 rintro e bP ⟨bl,bj,bi,rfl,aE,bC,bu,u⟩
 refine ⟨_,G,?_⟩
 have bD:=u.size
 refine Q (aI G)<|Qn (Wl (WL (σ:=Int × Log × Int × Int) (fun g=>[(0,pt gc),(2,pt U),(3,pt p),(4,i6 g.1)]) (fun g w'=>(Kp (fun b_=>b_=gc) w w')∧(Blk w' gc ec [.slice Ac nc cc,i6 g.2.2.1,.int .u64 g.2.2.2])∧(SlR w' Bc encB 1 Ac nc cc Lc)∧(Blk w' U 35 [str ([]:List UInt8),str ([]:List UInt8),i6 0])∧(Blk w' p 35 [str g.2.1.Durable,str g.2.1.Pending,i6 g.2.1.Count])∧((0≤g.1∧g.1≤6)∧LogOK g.2.1∧tc≤g.2.2.1∧g.2.2.1≤tc+2+10*(6-g.1))) (fun g=>g.1.toNat) (bl,(⟨([]:List UInt8),([]:List UInt8),0⟩:Log),bj,bi) ?_ ?_ ?_))
 ·exact (At.r G)
 ·exact ⟨(((((kr aj:Kp (fun b_=>b_=gc) w _)).lo D).new E).step u (fun i_ hi_ e'=>e')),aE,Y.kn u,((aV.lo D).kn E).kn u,(aD.kn u),(by (try dsimp only); exact ⟨oB,nil_log,oB,oB⟩)⟩
 ·rintro ⟨n,l,t,z⟩ aT k aA
  obtain ⟨J,F,v,H,m,C⟩:(Kp (fun b_=>b_=gc) w k)∧(Blk k gc ec [.slice Ac nc cc,i6 t,.int .u64 z])∧(SlR k Bc encB 1 Ac nc cc Lc)∧(Blk k U 35 [str ([]:List UInt8),str ([]:List UInt8),i6 0])∧(Blk k p 35 [str l.Durable,str l.Pending,i6 l.Count])∧((0≤n∧n≤6)∧LogOK l∧tc≤t∧t≤tc+2+10*(6-n)):=aA
  refine (?_:W _ _ _ _ _ (act _ (sets aT [(0,pt gc),(2,pt U),(3,pt p),(4,i6 n)])) _)
  have bh:=J.size
  have bq:=F.lt
  have bs:=H.lt
  have bt:=m.lt
  have aF:LogOK l:=C.2.1
  have bw:l.Durable.length+l.Pending.length≤24360∧0≤l.Count∧l.Count≤60:=log_rng C.2.1
  have bz:(0≤n∧n≤6)∧tc≤t∧t≤tc+2+10*(6-n):=And.intro C.1 C.2.2
  refine Ws (Ws (Wr (Q (mI G)<|Q (r_gt G G)<|Qn (Wd G (fun aU=>?_) (fun aU=>?_)))))
  ·refine Wk (Ws (Wl (Ws (WA (Kp (fun b_=>b_=gc∨b_=p) k) (fun f' w'=>∃ (a:LogRecord) (d:Int) (j:Int),At f' [(0,pt gc),(2,pt U),(3,pt p),(4,i6 n)]∧(Kp (fun b_=>b_=gc∨b_=p) k w')∧(Blk w' gc ec [.slice Ac nc cc,i6 d,.int .u64 j])∧(Blk w' p 35 [str (((appN l a).1).Durable),str (((appN l a).1).Pending),i6 (((appN l a).1).Count)])∧(t≤d∧d≤t+8)∧(a.Command.length≤40∧a.Reply.length≤40)∧((appN l a).1.Durable.length+(appN l a).1.Pending.length≤l.Durable.length+l.Pending.length+406)) mo ?_ ?_))))
   ·intro ab b
    have a7:=b.size
    refine Av #[true,true,true,false,false,false,false,false] 5 (fun f' w'=>∃ (a:LogRecord) (d:Int) (j:Int),At f' [(0,pt gc),(2,pt U),(3,pt p),(4,i6 n),(13,.agg (List.toArray [str l.Durable,str l.Pending,i6 l.Count])),(15,.agg (List.toArray [str a.Command,str a.Reply]))]∧(Kp (fun b_=>b_=gc∨b_=p) k w')∧(Blk w' gc ec [.slice Ac nc cc,i6 d,.int .u64 j])∧(Blk w' p 35 [str l.Durable,str l.Pending,i6 l.Count])∧(t≤d∧d≤t+8)∧(a.Command.length≤40∧a.Reply.length≤40)) ?_ (fun R=>?_)
    ·rintro bn aO ⟨a,d,j,V,K,ak,al,T,S⟩
     rw [← sA V]
     have a8:=K.size
     refine Ab 3 G (Qv ent45 (c_spec_AppendRecord aO l a oB oT) G fun bF y ba=>?_)
     have h:=K.lo y
     have ar:(appN l a).1.Durable.length+(appN l a).1.Pending.length≤l.Durable.length+l.Pending.length+406:=appN_len l a
     refine Qn ⟨h,_,G,(Ak 4 G h (fun w' hw'=>mT G)<|Ak 5 G h (fun w' hw'=>xG G G)<|Ak 6 G h (fun w' hw'=>xI G G)<|Ab 7 G (Qw (o:=0) (vs:=[str (((appN l a).1).Durable),str (((appN l a).1).Pending),i6 (((appN l a).1).Count)]) agg35.2 G G G G (al.lo y) ler G ?_))⟩
     intro bG O aX ac
     have L:=h.step O (fun _ _ e=>.inr e)
     refine Qn ⟨L,_,G,(Ad oC (⟨a,d,j,(At.r G),L,((ak.lo y).kn O),ac,T,S,ar⟩))⟩
    refine Ak 1 G (kr b) (fun w' hw'=>mP G)<|Ar [0,2] oC G ⟨Bm G trivial ?_,Bm G trivial ?_,trivial⟩
    ·refine Q (lG agg35 G (m.lo b) G) (Qn ⟨(kq k).lo b,_,G,(Ab 2 G (Qc ent62 (c___spec_l1Cur__logRecord ab Lc t z (F.lo b) (v.lo b) oB oB) G ?_))⟩)
     rintro e bH ⟨aM,aJ,aG,rfl,ae,ax,au,A⟩
     refine ⟨_,G,?_⟩
     have bb:=A.size
     have M:=((kr b:Kp (fun b_=>b_=gc∨b_=p) k _)).step A (fun _ _ e=>.inl e)
     refine Qn ⟨M,_,G,(Ag oC G (R _ _ (⟨aM,aJ,aG,(At.r G),M,ae,((m.lo b).kn A),ax,au⟩)))⟩
    ·refine Qc ent62 (c___spec_l1Cur__logRecord ab Lc t z (F.lo b) (v.lo b) oB oB) G ?_
     rintro e bI ⟨aN,aK,aH,rfl,ag,ay,aw,q⟩
     refine ⟨_,G,?_⟩
     have bc:=q.size
     have x:=((kr b:Kp (fun b_=>b_=gc∨b_=p) k _)).step q (fun _ _ e=>.inl e)
     refine Qn ⟨x,_,G,(Ab 0 G (Q (lG agg35 G ((m.lo b).kn q) G) (Qn ⟨x,_,G,(Ag oC G (R _ _ (⟨aN,aK,aH,(At.r G),x,ag,((m.lo b).kn q),ay,aw⟩)))⟩)))⟩
   rintro bo aQ ⟨a,d,j,X,f,am,B,T,S,aW⟩
   rw [← sA X]
   have be:=f.size
   refine Ws (Wr (Q (mP G)<|Qc ent61 (c___spec_l1Cur__one aQ Lc d j am (v.kp f (fun b_ hb e'=>e'.elim (fun e'=>by have e'':b_=gc:=e'; omega) (fun e'=>by have e'':b_=p:=e'; omega))) oB oB 4 oD) G ?_))
   rintro e aR ⟨bE,aa,Z,rfl,N,a6,c⟩
   refine ⟨_,G,?_⟩
   have bf:=c.size
   have I:=(J.step f (fun i_ hi_ e'=>e'.elim (fun e'=>e') (fun e'=>by have e'':i_=p:=e'; omega))).step c (fun i_ hi_ e'=>e')
   refine Qn (Wb G (fun az=>?_) (fun az=>?_))
   ·have an:=(v.kp f (fun b_ hb e'=>e'.elim (fun e'=>by have e'':b_=gc:=e'; omega) (fun e'=>by have e'':b_=p:=e'; omega))).kn c
    have ao:=(H.kp f (fun e'=>e'.elim (fun e'=>by have e'':U=gc:=e'; omega) (fun e'=>by have e'':U=p:=e'; omega))).kn c
    refine Wr (Q (lG agg35 G (B.kn c) G)<|Qv ent191 (c_spec_SyncLog aR ((appN l a).1) oB) G fun bJ i bg=>(Q (mT G)<|Q (xG G G)<|Q (xB G G)<|Qw (o:=0) (vs:=[str (((syncN ((appN l a).1)).1).Durable),str (((syncN ((appN l a).1)).1).Pending),i6 (((syncN ((appN l a).1)).1).Count)]) agg35.2 G G G G ((B.kn c).lo i) ler G ?_))
    intro bK s aY ah
    refine Qn (Wr (Q (mI G)<|Q (r_sub G G oB)<|Q (aI G)<|Qn (⟨(n-1,((syncN ((appN l a).1)).1),aa,Z),_,G,(At.r G),⟨((I.lo i).new s),((N.lo i).kn s),((an.lo i).kn s),((ao.lo i).kn s),ah,?_⟩,?_⟩)))
    ·exact (by (try dsimp only); first | exact ⟨oB,appN_ok ‹LogOK _›,oB,oB⟩ | exact ⟨oB,syncN_ok (appN_ok ‹LogOK _›),oB,oB⟩)
    ·exact oH
   ·refine Wk ?_
    have ap:=(v.kp f (fun b_ hb e'=>e'.elim (fun e'=>by have e'':b_=gc:=e'; omega) (fun e'=>by have e'':b_=p:=e'; omega))).kn c
    have aq:=(H.kp f (fun e'=>e'.elim (fun e'=>by have e'':U=gc:=e'; omega) (fun e'=>by have e'':U=p:=e'; omega))).kn c
    refine Wr (Q (mI G)<|Q (r_sub G G oB)<|Q (aI G)<|Qn (⟨(n-1,((appN l a).1),aa,Z),_,G,(At.r G),⟨I,N,ap,aq,(B.kn c),?_⟩,?_⟩))
    ·exact (by (try dsimp only); first | exact ⟨oB,appN_ok ‹LogOK _›,oB,oB⟩ | exact ⟨oB,syncN_ok (appN_ok ‹LogOK _›),oB,oB⟩)
    ·exact oH
  ·refine Wx (xh (Ws (Wr (Q (lG agg35 G m G)<|Qw (o:=0) (vs:=[str l.Durable,str l.Pending,i6 l.Count]) agg35.2 G G G G H ler G ?_))))
   intro bL P aZ ai
   refine Qn (We (retC G G agg35 ai G (⟨l,t,z,eR G,(F.kn P),⟨oB,oB⟩,aF,(J.new P)⟩)))
theorem c___spec_l1Cur__anyLog (w:World) {gc ec:Nat} (Lc:List UInt8) (tc sc:Int) (hc:Blk w gc ec [.slice Ac nc cc,i6 tc,.int .u64 sc]) (hLc:SlR w Bc encB 1 Ac nc cc Lc) (hgc:Bc≤gc) (htc:0≤tc∧tc+72≤4611686018427387904):Calls Tryz.prog 113 #[.pointer (some ⟨gc,0,none⟩)] w fun e w'=>∃ (l:Log) (tc' sc':Int),e=.returned (.agg (List.toArray [str l.Durable,str l.Pending,i6 l.Count]))∧Blk w' gc ec [.slice Ac nc cc,i6 tc',.int .u64 sc']∧(tc≤tc'∧tc'≤tc+72)∧(l.Durable.length≤60000∧l.Pending.length≤60000∧-1≤l.Count∧l.Count≤100)∧Kp (fun b_=>b_=gc) w w':=by
 refine cW 30 Tryz.func113 G G G ?_
 have hBlc:=hc.lt
 have hbdc:=hLc.bound
 have hlec:=hLc.len
 have hBbc:=hLc.bd
 refine Ws (Wr (Qa (l:=[str ([]:List UInt8),str ([]:List UInt8),i6 0]) tz35 G ?_))
 intro g1 w2 aw r ax P
 refine Qn (Ws (Wr (Q (mP G)<|Qc ent164 (c___spec_l1Cur__log w2 Lc tc sc (hc.lo r) (hLc.lo r) oB oB) G ?_)))
 rintro e w9 ⟨a,U,S,rfl,B,am,L,g⟩
 refine ⟨_,G,?_⟩
 have ap:=g.size
 have Z:=log_rng L
 refine Qa (l:=[str ([]:List UInt8),str ([]:List UInt8),i6 0]) tz35 G ?_
 intro au aA Y h ac C
 refine Qw (o:=0) (vs:=[str a.Durable,str a.Pending,i6 a.Count]) agg35.2 G G G G C ler G ?_
 intro W i ae c
 refine Qn (Ws (Ws ?_))
 have y:=(((hLc.lo r).kn g).lo h).kn i
 have k:=((P.kn g).lo h).kn i
 refine Wr (Q (mP G)<|Qc ent59 (c___spec_l1Cur__pick W Lc U S ((B.lo h).kn i) y oB oB 24 oD) G ?_)
 rintro e X ⟨ay,t,s,rfl,f,an,aa,b⟩
 refine ⟨_,G,?_⟩
 have aq:=b.size
 have d:=(((((kr r:Kp (fun b_=>b_=gc) w _)).step g (fun i_ hi_ e'=>e')).lo h).new i).step b (fun i_ hi_ e'=>e')
 refine Qn (Wl (Ws (Wr (Q (r_eq G G)<|Q (aB G)<|Qn (Wd G (fun M=>?_) (fun M=>?_))))))
 ·refine Wr (Q (fA fa35_2 G)<|Q (lB sca3 G (c.kn b) G)<|Q (r_add G G oB)<|Q (fA fa35_2 G)<|Qw (o:=2) (vs:=[i6 (a.Count+1)]) sca3.2 G G G G (c.kn b) ler G ?_)
  intro aC n ag D
  refine Qn (Ws (Wr (Q (lG agg35 G D G)<|Qw (o:=0) (vs:=[str a.Durable,str a.Pending,i6 (a.Count+1)]) agg35.2 G G G G ((k.kn b).kn n) ler G ?_)))
  intro aD u ah E
  refine Qn (We (retC G G agg35 E G (⟨(⟨a.Durable,a.Pending,a.Count+1⟩:Log),t,s,eR (eA G),((f.kn n).kn u),⟨oB,oB⟩,oL,((d.new n).new u)⟩)))
 ·refine Ws (Wr (Q (r_eq G G)<|Q (aB G)<|Qn (Wd G (fun N=>?_) (fun N=>?_))))
  ·refine Wr (Q (mP G)<|Q (fA fa35_1 G)<|Q (lB sca9 G (c.kn b) G)<|Qc ent71 (c___spec_l1Cur__spoilt X Lc t s f (y.kn b) oB oB a.Pending ([35,64,10,48,49]:List UInt8) oD (by first | omega | decide | (simp; done))) G ?_)
   rintro e aE ⟨A,V,T,rfl,F,ao,ab,j⟩
   refine ⟨_,G,?_⟩
   have ar:=j.size
   refine Q (fA fa35_1 G)<|Qw (o:=1) (vs:=[str A]) sca9.2 G G G G ((c.kn b).kn j) ler G ?_
   intro aF p ai H
   refine Qn (Ws (Wr (Q (lG agg35 G H G)<|Qw (o:=0) (vs:=[str a.Durable,str A,i6 a.Count]) agg35.2 G G G G (((k.kn b).kn j).kn p) ler G ?_)))
   intro aG v aj I
   refine Qn (We (retC G G agg35 I G (⟨(⟨a.Durable,A,a.Count⟩:Log),V,T,eR (eA G),((F.kn p).kn v),⟨oB,oB⟩,oL,(((d.step j (fun i_ hi_ e'=>e')).new p).new v)⟩)))
  ·refine Ws (Wr (Q (r_eq G G)<|Q (aB G)<|Qn (Wd G (fun O=>?_) (fun O=>?_))))
   ·refine Wr (Q (fA fa35_0 G)<|Q (lB sca9 G (c.kn b) G)<|Q (fA fa35_1 G)<|Q (lB sca9 G (c.kn b) G)<|Q (r_cat G G oA)<|Q (fA fa35_0 G)<|Qw (o:=0) (vs:=[str (a.Durable++a.Pending)]) sca9.2 G G G G (c.kn b) ler G ?_)
    intro aH q ak J
    refine Qn (Ws (Wr (Q (lG agg35 G J G)<|Qw (o:=0) (vs:=[str (a.Durable++a.Pending),str a.Pending,i6 a.Count]) agg35.2 G G G G ((k.kn b).kn q) ler G ?_)))
    intro aJ x al K
    refine Qn (We (retC G G agg35 K G (⟨(⟨a.Durable++a.Pending,a.Pending,a.Count⟩:Log),t,s,eR (eA G),((f.kn q).kn x),⟨oB,oB⟩,oL,((d.new q).new x)⟩)))
   ·refine Wk (Ws (Wr (Q (lG agg35 G (c.kn b) G)<|Qw (o:=0) (vs:=[str a.Durable,str a.Pending,i6 a.Count]) agg35.2 G G G G (k.kn b) ler G ?_)))
    intro aK m R z
    refine Qn (We (retC G G agg35 z G (⟨a,t,s,eR G,(f.kn m),⟨oB,oB⟩,oL,(d.new m)⟩)))
end Go.Proofs.YtndcchndcghmoaaGreatDoor
namespace Go.Proofs.YtndcchndcghmoaaGreatDoor
open Go Go.RowKit Fw
set_option maxRecDepth 10000
set_option maxHeartbeats 2000000
set_option linter.unusedVariables false
variable {Ac As1 As2 : Option Addr} {nc cc Bc ns1 cs1 Bs1 ns2 cs2 Bs2 : Nat}
theorem c___spec_l1Cur__command (w:World) {gc ec:Nat} (Lc:List UInt8) (tc sc:Int) (hc:Blk w gc ec [.slice Ac nc cc,i6 tc,.int .u64 sc]) (hLc:SlR w Bc encB 1 Ac nc cc Lc) (hgc:Bc≤gc) (htc:0≤tc∧tc+24≤4611686018427387904) (s:Console) (z:SlR w Bs1 encLMap 3 As1 ns1 cs1 s.Library.Maps) (A:SlR w Bs2 encAway 2 As2 ns2 cs2 s.Library.Away) (bC:ns1≤9∧ns2≤9) (bD:MapB s.Library.Maps) (bE:AwayB s.Library.Away) (aR:0<ns1→¬(adr As1).block=gc) (aT:0<ns2→¬(adr As2).block=gc):Calls Tryz.prog 60 #[.pointer (some ⟨gc,0,none⟩),.agg (List.toArray (cCn As1 ns1 cs1 As2 ns2 cs2 s))] w fun e w'=>∃ (v:List UInt8) (tc' sc':Int),e=.returned (str v)∧Blk w' gc ec [.slice Ac nc cc,i6 tc',.int .u64 sc']∧(tc≤tc'∧tc'≤tc+24)∧(v.length≤100)∧Kp (fun b_=>b_=gc) w w':=by
 refine cW 98 Tryz.func60 G G G ?_
 have hBlc:=hc.lt
 have hbdc:=hLc.bound
 have hlec:=hLc.len
 have hBbc:=hLc.bd
 have aK:=z.bound
 have aO:=z.len
 have aG:=z.bd
 have aM:=A.bound
 have aQ:=A.len
 have aH:=A.bd
 refine Ws (Wr (bx G ?_))
 intro g1 w2 bB q bF aJ
 refine Q (r_as (v:=str ([]:List UInt8)) G)<|Qn (Ws (Wr (Q (mP G)<|Q (fA fa37_0 G)<|Q (r_lda (l:=(cLb As1 ns1 cs1 As2 ns2 cs2 s.Library)) agg34 G (fun _ _ hu=>aJ.cells (vs:=(cLb As1 ns1 cs1 As2 ns2 cs2 s.Library)) G hu) G)<|Qc ent108 (c___spec_l1Cur__libraryStep w2 Lc tc sc (hc.lo q) (hLc.lo q) oB oB s.Library (z.lo q) (A.lo q) oB (by first | assumption | exact MapB.of (And.left (And.left ‹LibOK _›)) | exact MapB.app (MapB.of (And.left (And.left ‹LibOK _›))) oF | exact MapB.nil) (by first | assumption | exact AwayB.of ‹LibOK _› | exact AwayB.app (AwayB.of ‹LibOK _›) oF | exact AwayB.nil) (fun Z=>(aR Z)) (fun Z=>(aT Z))) G ?_)))
 rintro e w9 ⟨a,a7,aZ,rfl,O,bn,bf,t⟩
 refine ⟨_,G,?_⟩
 have bq:=t.size
 refine Qa (l:=[i6 0,i6 0,i6 0,i6 0]) tz106 G ?_
 intro bA bI bc x bl P
 refine Qw (o:=0) (vs:=[i6 a.Kind,i6 a.Id,i6 a.Reader,i6 a.Value]) agg106.2 G G G G P ler G ?_
 intro bJ y bm j
 refine Qn (Ws ?_)
 have D:=(((hLc.lo q).kn t).lo x).kn y
 refine W.regD mo oC (Rq (fun w' hw'=>fA fa106_1 G)<|Rq (fun w' hw'=>lB sca3 G (j.lo hw') G)<|QR.call ent109 (fun w' hw'=>(c_spec_l1Most w' 0 a.Id).mono fun _ _ h=>⟨h.1,hw'.trans h.2⟩) G<|QR.call ent75 (fun w' hw'=>(c_spec_l1Num w' (max 0 a.Id) oB).mono fun _ _ h=>⟨h.1,hw'.trans h.2⟩) G<|?_)
 have bg:(Lib.itoa (max 0 a.Id)).length≤21:=itoa_len (n:=max 0 a.Id) oB oB
 refine Rq (fun w' hw'=>fA fa106_2 G)<|Rq (fun w' hw'=>lB sca3 G (j.lo hw') G)<|QR.call ent75 (fun w' hw'=>(c_spec_l1Num w' a.Reader oB).mono fun _ _ h=>⟨h.1,hw'.trans h.2⟩) G<|?_
 have bh:(Lib.itoa a.Reader).length≤21:=itoa_len (n:=a.Reader) oB oB
 refine Rq (fun w' hw'=>fA fa106_3 G)<|Rq (fun w' hw'=>lB sca3 G (j.lo hw') G)<|QR.call ent109 (fun w' hw'=>(c_spec_l1Most w' 0 a.Value).mono fun _ _ h=>⟨h.1,hw'.trans h.2⟩) G<|QR.call ent75 (fun w' hw'=>(c_spec_l1Num w' (max 0 a.Value) oB).mono fun _ _ h=>⟨h.1,hw'.trans h.2⟩) G<|?_
 have bi:(Lib.itoa (max 0 a.Value)).length≤21:=itoa_len (n:=max 0 a.Value) oB oB
 refine Rq (fun w' hw'=>aS G)<|Rq (fun w' hw'=>aS G)<|Rq (fun w' hw'=>aS G)<|QR.nil ?_
 intro ba g
 have bs:=g.size
 refine Ws (Ws (Wr (Q (mP G)<|Qc ent59 (c___spec_l1Cur__pick ba Lc a7 aZ (((O.lo x).kn y).lo g) (D.lo g) oB oB 6 oD) G ?_)))
 rintro e bK ⟨bG,f,d,rfl,c,bo,bj,k⟩
 refine ⟨_,G,?_⟩
 have bt:=k.size
 have b:=((((((kr q:Kp (fun b_=>b_=gc) w _)).step t (fun i_ hi_ e'=>e')).lo x).new y).lo g).step k (fun i_ hi_ e'=>e')
 refine Qn (Wl (Ws (Ws ?_)))
 have E:=(D.lo g).kn k
 have p:=(j.lo g).kn k
 refine Wr (Q (r_eq G G)<|Q (aB G)<|Qn (Wd G (fun K=>?_) (fun K=>?_)))
 ·refine Wk (W.cond_t (congrArg Value.bool (decide_eq_true K)) (Ws (Ws (Wr (Q (fA fa106_0 G)<|Q (lB sca3 G p G)<|Qn (Wl (Ws (Wr (Q (r_eq G G)<|Q (aB G)<|Qn (Wd G (fun aa=>?_) (fun aa=>?_)))))))))))
  ·refine Ws (Wr (Q (mS G)<|Q (r_cat G G oA)<|Q (r_cat G G oA)<|Q (mS G)<|Q (r_cat G G oA)<|Q (aS G)<|Qn (We (ret1 G (v:=str _) G (⟨(((([98,117,121,32]:List UInt8)++(Lib.itoa (max 0 a.Id)))++([32]:List UInt8))++(Lib.itoa (max 0 a.Value))),f,d,eR G,c,⟨oB,oB⟩,oE,b⟩)))))
  ·refine Ws (Wr (Q (r_eq G G)<|Q (aB G)<|Qn (Wd G (fun ab=>?_) (fun ab=>?_))))
   ·refine Ws (Wr (Q (mS G)<|Q (r_cat G G oA)<|Q (r_cat G G oA)<|Q (mS G)<|Q (r_cat G G oA)<|Q (aS G)<|Qn (We (ret1 G (v:=str _) G (⟨(((([108,101,110,100,32]:List UInt8)++(Lib.itoa (max 0 a.Id)))++([32]:List UInt8))++(Lib.itoa a.Reader)),f,d,eR G,c,⟨oB,oB⟩,oE,b⟩)))))
   ·refine Ws (Wr (Q (r_eq G G)<|Q (aB G)<|Qn (Wd G (fun ac=>?_) (fun ac=>?_))))
    ·refine Ws (Wr (Q (mS G)<|Q (r_cat G G oA)<|Q (r_cat G G oA)<|Q (mS G)<|Q (r_cat G G oA)<|Q (r_cat G G oA)<|Q (mS G)<|Q (r_cat G G oA)<|Q (aS G)<|Qn (We (ret1 G (v:=str _) G (⟨(((((([98,97,99,107,32]:List UInt8)++(Lib.itoa (max 0 a.Id)))++([32]:List UInt8))++(Lib.itoa a.Reader))++([32]:List UInt8))++(Lib.itoa (max 0 a.Value))),f,d,eR G,c,⟨oB,oB⟩,oE,b⟩)))))
    ·refine Ws (Wr (Q (r_eq G G)<|Q (aB G)<|Qn (Wd G (fun ae=>?_) (fun ae=>?_))))
     ·refine Ws (Wr (Q (mS G)<|Q (r_cat G G oA)<|Q (r_cat G G oA)<|Q (mS G)<|Q (r_cat G G oA)<|Q (r_cat G G oA)<|Q (mS G)<|Q (r_cat G G oA)<|Q (aS G)<|Qn (We (ret1 G (v:=str _) G (⟨(((((([104,97,110,100,32]:List UInt8)++(Lib.itoa (max 0 a.Id)))++([32]:List UInt8))++(Lib.itoa a.Reader))++([32]:List UInt8))++(Lib.itoa (max 0 a.Value))),f,d,eR G,c,⟨oB,oB⟩,oE,b⟩)))))
     ·refine Ws (Wr (Q (r_eq G G)<|Q (aB G)<|Qn (Wd G (fun ag=>?_) (fun ag=>?_))))
      ·refine Ws (Wr (Q (mS G)<|Q (r_cat G G oA)<|Q (r_cat G G oA)<|Q (mS G)<|Q (r_cat G G oA)<|Q (aS G)<|Qn (We (ret1 G (v:=str _) G (⟨(((([109,101,110,100,32]:List UInt8)++(Lib.itoa (max 0 a.Id)))++([32]:List UInt8))++(Lib.itoa (max 0 a.Value))),f,d,eR G,c,⟨oB,oB⟩,oE,b⟩)))))
      ·refine Ws (Wr (Q (r_eq G G)<|Q (aB G)<|Qn (Wd G (fun ah=>?_) (fun ah=>?_))))
       ·refine Ws (Wr (Q (mS G)<|Q (r_cat G G oA)<|Q (r_cat G G oA)<|Q (mS G)<|Q (r_cat G G oA)<|Q (aS G)<|Qn (We (ret1 G (v:=str _) G (⟨(((([100,114,111,112,32]:List UInt8)++(Lib.itoa (max 0 a.Id)))++([32]:List UInt8))++(Lib.itoa (max 0 a.Value))),f,d,eR G,c,⟨oB,oB⟩,oE,b⟩)))))
       ·refine Wk (Ws (Wr (Q (mS G)<|Q (r_cat G G oA)<|Q (r_cat G G oA)<|Q (mS G)<|Q (r_cat G G oA)<|Q (aS G)<|Qn (We (ret1 G (v:=str _) G (⟨(((([119,101,97,114,32]:List UInt8)++(Lib.itoa (max 0 a.Id)))++([32]:List UInt8))++(Lib.itoa (max 0 a.Value))),f,d,eR G,c,⟨oB,oB⟩,oE,b⟩))))))
 ·refine Ws (Wr (Q (r_eq G G)<|Q (aB G)<|Qn (Wd G (fun M=>?_) (fun M=>?_))))
  ·refine Wk (W.cond_t (congrArg Value.bool (decide_eq_true M)) (Ws (Ws (Wr (Q (fA fa106_0 G)<|Q (lB sca3 G p G)<|Qn (Wl (Ws (Wr (Q (r_eq G G)<|Q (aB G)<|Qn (Wd G (fun ai=>?_) (fun ai=>?_)))))))))))
   ·refine Ws (Wr (Q (mS G)<|Q (r_cat G G oA)<|Q (r_cat G G oA)<|Q (mS G)<|Q (r_cat G G oA)<|Q (aS G)<|Qn (We (ret1 G (v:=str _) G (⟨(((([98,117,121,32]:List UInt8)++(Lib.itoa (max 0 a.Id)))++([32]:List UInt8))++(Lib.itoa (max 0 a.Value))),f,d,eR G,c,⟨oB,oB⟩,oE,b⟩)))))
   ·refine Ws (Wr (Q (r_eq G G)<|Q (aB G)<|Qn (Wd G (fun aj=>?_) (fun aj=>?_))))
    ·refine Ws (Wr (Q (mS G)<|Q (r_cat G G oA)<|Q (r_cat G G oA)<|Q (mS G)<|Q (r_cat G G oA)<|Q (aS G)<|Qn (We (ret1 G (v:=str _) G (⟨(((([108,101,110,100,32]:List UInt8)++(Lib.itoa (max 0 a.Id)))++([32]:List UInt8))++(Lib.itoa a.Reader)),f,d,eR G,c,⟨oB,oB⟩,oE,b⟩)))))
    ·refine Ws (Wr (Q (r_eq G G)<|Q (aB G)<|Qn (Wd G (fun ak=>?_) (fun ak=>?_))))
     ·refine Ws (Wr (Q (mS G)<|Q (r_cat G G oA)<|Q (r_cat G G oA)<|Q (mS G)<|Q (r_cat G G oA)<|Q (r_cat G G oA)<|Q (mS G)<|Q (r_cat G G oA)<|Q (aS G)<|Qn (We (ret1 G (v:=str _) G (⟨(((((([98,97,99,107,32]:List UInt8)++(Lib.itoa (max 0 a.Id)))++([32]:List UInt8))++(Lib.itoa a.Reader))++([32]:List UInt8))++(Lib.itoa (max 0 a.Value))),f,d,eR G,c,⟨oB,oB⟩,oE,b⟩)))))
     ·refine Ws (Wr (Q (r_eq G G)<|Q (aB G)<|Qn (Wd G (fun al=>?_) (fun al=>?_))))
      ·refine Ws (Wr (Q (mS G)<|Q (r_cat G G oA)<|Q (r_cat G G oA)<|Q (mS G)<|Q (r_cat G G oA)<|Q (r_cat G G oA)<|Q (mS G)<|Q (r_cat G G oA)<|Q (aS G)<|Qn (We (ret1 G (v:=str _) G (⟨(((((([104,97,110,100,32]:List UInt8)++(Lib.itoa (max 0 a.Id)))++([32]:List UInt8))++(Lib.itoa a.Reader))++([32]:List UInt8))++(Lib.itoa (max 0 a.Value))),f,d,eR G,c,⟨oB,oB⟩,oE,b⟩)))))
      ·refine Ws (Wr (Q (r_eq G G)<|Q (aB G)<|Qn (Wd G (fun am=>?_) (fun am=>?_))))
       ·refine Ws (Wr (Q (mS G)<|Q (r_cat G G oA)<|Q (r_cat G G oA)<|Q (mS G)<|Q (r_cat G G oA)<|Q (aS G)<|Qn (We (ret1 G (v:=str _) G (⟨(((([109,101,110,100,32]:List UInt8)++(Lib.itoa (max 0 a.Id)))++([32]:List UInt8))++(Lib.itoa (max 0 a.Value))),f,d,eR G,c,⟨oB,oB⟩,oE,b⟩)))))
       ·refine Ws (Wr (Q (r_eq G G)<|Q (aB G)<|Qn (Wd G (fun an=>?_) (fun an=>?_))))
        ·refine Ws (Wr (Q (mS G)<|Q (r_cat G G oA)<|Q (r_cat G G oA)<|Q (mS G)<|Q (r_cat G G oA)<|Q (aS G)<|Qn (We (ret1 G (v:=str _) G (⟨(((([100,114,111,112,32]:List UInt8)++(Lib.itoa (max 0 a.Id)))++([32]:List UInt8))++(Lib.itoa (max 0 a.Value))),f,d,eR G,c,⟨oB,oB⟩,oE,b⟩)))))
        ·refine Wk (Ws (Wr (Q (mS G)<|Q (r_cat G G oA)<|Q (r_cat G G oA)<|Q (mS G)<|Q (r_cat G G oA)<|Q (aS G)<|Qn (We (ret1 G (v:=str _) G (⟨(((([119,101,97,114,32]:List UInt8)++(Lib.itoa (max 0 a.Id)))++([32]:List UInt8))++(Lib.itoa (max 0 a.Value))),f,d,eR G,c,⟨oB,oB⟩,oE,b⟩))))))
  ·refine Ws (Wr (Q (r_eq G G)<|Q (aB G)<|Qn (Wd G (fun N=>?_) (fun N=>?_))))
   ·refine Wk (W.cond_t (congrArg Value.bool (decide_eq_true N)) (Ws (Ws (Wr (Q (fA fa106_0 G)<|Q (lB sca3 G p G)<|Qn (Wl (Ws (Wr (Q (r_eq G G)<|Q (aB G)<|Qn (Wd G (fun ao=>?_) (fun ao=>?_)))))))))))
    ·refine Ws (Wr (Q (mS G)<|Q (r_cat G G oA)<|Q (r_cat G G oA)<|Q (mS G)<|Q (r_cat G G oA)<|Q (aS G)<|Qn (We (ret1 G (v:=str _) G (⟨(((([98,117,121,32]:List UInt8)++(Lib.itoa (max 0 a.Id)))++([32]:List UInt8))++(Lib.itoa (max 0 a.Value))),f,d,eR G,c,⟨oB,oB⟩,oE,b⟩)))))
    ·refine Ws (Wr (Q (r_eq G G)<|Q (aB G)<|Qn (Wd G (fun ap=>?_) (fun ap=>?_))))
     ·refine Ws (Wr (Q (mS G)<|Q (r_cat G G oA)<|Q (r_cat G G oA)<|Q (mS G)<|Q (r_cat G G oA)<|Q (aS G)<|Qn (We (ret1 G (v:=str _) G (⟨(((([108,101,110,100,32]:List UInt8)++(Lib.itoa (max 0 a.Id)))++([32]:List UInt8))++(Lib.itoa a.Reader)),f,d,eR G,c,⟨oB,oB⟩,oE,b⟩)))))
     ·refine Ws (Wr (Q (r_eq G G)<|Q (aB G)<|Qn (Wd G (fun aq=>?_) (fun aq=>?_))))
      ·refine Ws (Wr (Q (mS G)<|Q (r_cat G G oA)<|Q (r_cat G G oA)<|Q (mS G)<|Q (r_cat G G oA)<|Q (r_cat G G oA)<|Q (mS G)<|Q (r_cat G G oA)<|Q (aS G)<|Qn (We (ret1 G (v:=str _) G (⟨(((((([98,97,99,107,32]:List UInt8)++(Lib.itoa (max 0 a.Id)))++([32]:List UInt8))++(Lib.itoa a.Reader))++([32]:List UInt8))++(Lib.itoa (max 0 a.Value))),f,d,eR G,c,⟨oB,oB⟩,oE,b⟩)))))
      ·refine Ws (Wr (Q (r_eq G G)<|Q (aB G)<|Qn (Wd G (fun ar=>?_) (fun ar=>?_))))
       ·refine Ws (Wr (Q (mS G)<|Q (r_cat G G oA)<|Q (r_cat G G oA)<|Q (mS G)<|Q (r_cat G G oA)<|Q (r_cat G G oA)<|Q (mS G)<|Q (r_cat G G oA)<|Q (aS G)<|Qn (We (ret1 G (v:=str _) G (⟨(((((([104,97,110,100,32]:List UInt8)++(Lib.itoa (max 0 a.Id)))++([32]:List UInt8))++(Lib.itoa a.Reader))++([32]:List UInt8))++(Lib.itoa (max 0 a.Value))),f,d,eR G,c,⟨oB,oB⟩,oE,b⟩)))))
       ·refine Ws (Wr (Q (r_eq G G)<|Q (aB G)<|Qn (Wd G (fun au=>?_) (fun au=>?_))))
        ·refine Ws (Wr (Q (mS G)<|Q (r_cat G G oA)<|Q (r_cat G G oA)<|Q (mS G)<|Q (r_cat G G oA)<|Q (aS G)<|Qn (We (ret1 G (v:=str _) G (⟨(((([109,101,110,100,32]:List UInt8)++(Lib.itoa (max 0 a.Id)))++([32]:List UInt8))++(Lib.itoa (max 0 a.Value))),f,d,eR G,c,⟨oB,oB⟩,oE,b⟩)))))
        ·refine Ws (Wr (Q (r_eq G G)<|Q (aB G)<|Qn (Wd G (fun aw=>?_) (fun aw=>?_))))
         ·refine Ws (Wr (Q (mS G)<|Q (r_cat G G oA)<|Q (r_cat G G oA)<|Q (mS G)<|Q (r_cat G G oA)<|Q (aS G)<|Qn (We (ret1 G (v:=str _) G (⟨(((([100,114,111,112,32]:List UInt8)++(Lib.itoa (max 0 a.Id)))++([32]:List UInt8))++(Lib.itoa (max 0 a.Value))),f,d,eR G,c,⟨oB,oB⟩,oE,b⟩)))))
         ·refine Wk (Ws (Wr (Q (mS G)<|Q (r_cat G G oA)<|Q (r_cat G G oA)<|Q (mS G)<|Q (r_cat G G oA)<|Q (aS G)<|Qn (We (ret1 G (v:=str _) G (⟨(((([119,101,97,114,32]:List UInt8)++(Lib.itoa (max 0 a.Id)))++([32]:List UInt8))++(Lib.itoa (max 0 a.Value))),f,d,eR G,c,⟨oB,oB⟩,oE,b⟩))))))
   ·refine Wr (Q (r_eq G G)<|Q (aB G)<|Qn (Wd G (fun ax=>?_) (fun ax=>?_)))
    ·refine Ws (Ws (Wr (Q (fA fa106_0 G)<|Q (lB sca3 G p G)<|Qn (Wl (Ws (Wr (Q (r_eq G G)<|Q (aB G)<|Qn (Wd G (fun ay=>?_) (fun ay=>?_)))))))))
     ·refine Ws (Wr (Q (mS G)<|Q (r_cat G G oA)<|Q (r_cat G G oA)<|Q (mS G)<|Q (r_cat G G oA)<|Q (aS G)<|Qn (We (ret1 G (v:=str _) G (⟨(((([98,117,121,32]:List UInt8)++(Lib.itoa (max 0 a.Id)))++([32]:List UInt8))++(Lib.itoa (max 0 a.Value))),f,d,eR G,c,⟨oB,oB⟩,oE,b⟩)))))
     ·refine Ws (Wr (Q (r_eq G G)<|Q (aB G)<|Qn (Wd G (fun az=>?_) (fun az=>?_))))
      ·refine Ws (Wr (Q (mS G)<|Q (r_cat G G oA)<|Q (r_cat G G oA)<|Q (mS G)<|Q (r_cat G G oA)<|Q (aS G)<|Qn (We (ret1 G (v:=str _) G (⟨(((([108,101,110,100,32]:List UInt8)++(Lib.itoa (max 0 a.Id)))++([32]:List UInt8))++(Lib.itoa a.Reader)),f,d,eR G,c,⟨oB,oB⟩,oE,b⟩)))))
      ·refine Ws (Wr (Q (r_eq G G)<|Q (aB G)<|Qn (Wd G (fun aA=>?_) (fun aA=>?_))))
       ·refine Ws (Wr (Q (mS G)<|Q (r_cat G G oA)<|Q (r_cat G G oA)<|Q (mS G)<|Q (r_cat G G oA)<|Q (r_cat G G oA)<|Q (mS G)<|Q (r_cat G G oA)<|Q (aS G)<|Qn (We (ret1 G (v:=str _) G (⟨(((((([98,97,99,107,32]:List UInt8)++(Lib.itoa (max 0 a.Id)))++([32]:List UInt8))++(Lib.itoa a.Reader))++([32]:List UInt8))++(Lib.itoa (max 0 a.Value))),f,d,eR G,c,⟨oB,oB⟩,oE,b⟩)))))
       ·refine Ws (Wr (Q (r_eq G G)<|Q (aB G)<|Qn (Wd G (fun aC=>?_) (fun aC=>?_))))
        ·refine Ws (Wr (Q (mS G)<|Q (r_cat G G oA)<|Q (r_cat G G oA)<|Q (mS G)<|Q (r_cat G G oA)<|Q (r_cat G G oA)<|Q (mS G)<|Q (r_cat G G oA)<|Q (aS G)<|Qn (We (ret1 G (v:=str _) G (⟨(((((([104,97,110,100,32]:List UInt8)++(Lib.itoa (max 0 a.Id)))++([32]:List UInt8))++(Lib.itoa a.Reader))++([32]:List UInt8))++(Lib.itoa (max 0 a.Value))),f,d,eR G,c,⟨oB,oB⟩,oE,b⟩)))))
        ·refine Ws (Wr (Q (r_eq G G)<|Q (aB G)<|Qn (Wd G (fun aD=>?_) (fun aD=>?_))))
         ·refine Ws (Wr (Q (mS G)<|Q (r_cat G G oA)<|Q (r_cat G G oA)<|Q (mS G)<|Q (r_cat G G oA)<|Q (aS G)<|Qn (We (ret1 G (v:=str _) G (⟨(((([109,101,110,100,32]:List UInt8)++(Lib.itoa (max 0 a.Id)))++([32]:List UInt8))++(Lib.itoa (max 0 a.Value))),f,d,eR G,c,⟨oB,oB⟩,oE,b⟩)))))
         ·refine Ws (Wr (Q (r_eq G G)<|Q (aB G)<|Qn (Wd G (fun aE=>?_) (fun aE=>?_))))
          ·refine Ws (Wr (Q (mS G)<|Q (r_cat G G oA)<|Q (r_cat G G oA)<|Q (mS G)<|Q (r_cat G G oA)<|Q (aS G)<|Qn (We (ret1 G (v:=str _) G (⟨(((([100,114,111,112,32]:List UInt8)++(Lib.itoa (max 0 a.Id)))++([32]:List UInt8))++(Lib.itoa (max 0 a.Value))),f,d,eR G,c,⟨oB,oB⟩,oE,b⟩)))))
          ·refine Wk (Ws (Wr (Q (mS G)<|Q (r_cat G G oA)<|Q (r_cat G G oA)<|Q (mS G)<|Q (r_cat G G oA)<|Q (aS G)<|Qn (We (ret1 G (v:=str _) G (⟨(((([119,101,97,114,32]:List UInt8)++(Lib.itoa (max 0 a.Id)))++([32]:List UInt8))++(Lib.itoa (max 0 a.Value))),f,d,eR G,c,⟨oB,oB⟩,oE,b⟩))))))
    ·refine Ws (Wr (Q (r_eq G G)<|Q (aB G)<|Qn (Wd G (fun aF=>?_) (fun aF=>?_))))
     ·refine Ws (Wr (Q (mP G)<|Q (mS G)<|Q (r_cat G G oA)<|Q (mS G)<|Q (r_cat G G oA)<|Ql (vs:=[str ([116,104,101,114,101]:List UInt8),str ([116,111,114,110]:List UInt8),str ([98,111,117,103,104,116]:List UInt8),str ([109,101,110,100,101,100]:List UInt8),str ([109,97,121]:List UInt8),str ([97,116,32,53]:List UInt8),str (([114,101,97,100,101,114,115,32]:List UInt8)++(Lib.itoa (max 0 a.Id))),str (([116,101,120,116,32]:List UInt8)++(Lib.itoa (max 0 a.Id)))]) (L:=([([116,104,101,114,101]:List UInt8),([116,111,114,110]:List UInt8),([98,111,117,103,104,116]:List UInt8),([109,101,110,100,101,100]:List UInt8),([109,97,121]:List UInt8),([97,116,32,53]:List UInt8),([114,101,97,100,101,114,115,32]:List UInt8)++(Lib.itoa (max 0 a.Id)),([116,101,120,116,32]:List UInt8)++(Lib.itoa (max 0 a.Id))]:List (List UInt8))) (enc:=encS) tel44 (fun _=>G) G G G oG ?_))
      intro Y bb be m B
      have bu:=m.size
      refine Qc ent110 (c___spec_l1Cur__of bb Lc f d (c.lo m) (E.lo m) oB oB ([([116,104,101,114,101]:List UInt8),([116,111,114,110]:List UInt8),([98,111,117,103,104,116]:List UInt8),([109,101,110,100,101,100]:List UInt8),([109,97,121]:List UInt8),([97,116,32,53]:List UInt8),([114,101,97,100,101,114,115,32]:List UInt8)++(Lib.itoa (max 0 a.Id)),([116,101,120,116,32]:List UInt8)++(Lib.itoa (max 0 a.Id))]:List (List UInt8)) (B.rd) oB oB (show ¬Y=gc from by first | omega | (have:=B.base_le G; omega))) G ?_
      rintro e bL ⟨V,a8,a6,rfl,R,bp,S,C⟩
      refine ⟨_,G,?_⟩
      have bw:=C.size
      have aU:V.length≤40:=by have hh:=S; simp only [List.mem_cons,List.not_mem_nil,or_false] at hh; rcases hh with hh | hh | hh | hh | hh | hh | hh | hh <;> (rw [hh]; simp only [List.length_append,List.length_cons,List.length_nil]; omega)
      refine Q (aS G)<|Qn (We (ret1 G (v:=str _) G (⟨V,a8,a6,eR G,R,⟨oB,oB⟩,oE,((b.lo m).step C (fun i_ hi_ e'=>e'))⟩)))
     ·refine Wk (Ws (Wr (Q (mP G)<|Ql (vs:=[str ([]:List UInt8),str ([119,104,97,116]:List UInt8),str ([98,117,121,32,49]:List UInt8),str ([108,101,110,100,32,120,32,49]:List UInt8),str ([119,101,97,114,32,49,32,48]:List UInt8),str ([97,116]:List UInt8),str ([97,116,32,48]:List UInt8),str ([97,64,98]:List UInt8),str ([109,97,121,32,49]:List UInt8),str ([98,97,99,107,32,49,32,49,32,49]:List UInt8),str ([116,101,120,116,32,45,49]:List UInt8)]) (L:=([([]:List UInt8),([119,104,97,116]:List UInt8),([98,117,121,32,49]:List UInt8),([108,101,110,100,32,120,32,49]:List UInt8),([119,101,97,114,32,49,32,48]:List UInt8),([97,116]:List UInt8),([97,116,32,48]:List UInt8),([97,64,98]:List UInt8),([109,97,121,32,49]:List UInt8),([98,97,99,107,32,49,32,49,32,49]:List UInt8),([116,101,120,116,32,45,49]:List UInt8)]:List (List UInt8))) (enc:=encS) tel44 (fun _=>G) G G G oG ?_)))
      intro J X aN i r
      have aX:=i.size
      refine Qc ent110 (c___spec_l1Cur__of X Lc f d (c.lo i) (E.lo i) oB oB ([([]:List UInt8),([119,104,97,116]:List UInt8),([98,117,121,32,49]:List UInt8),([108,101,110,100,32,120,32,49]:List UInt8),([119,101,97,114,32,49,32,48]:List UInt8),([97,116]:List UInt8),([97,116,32,48]:List UInt8),([97,64,98]:List UInt8),([109,97,121,32,49]:List UInt8),([98,97,99,107,32,49,32,49,32,49]:List UInt8),([116,101,120,116,32,45,49]:List UInt8)]:List (List UInt8)) (r.rd) oB oB (show ¬J=gc from by first | omega | (have:=r.base_le G; omega))) G ?_
      rintro e bz ⟨F,U,T,rfl,H,aW,I,u⟩
      refine ⟨_,G,?_⟩
      have aY:=u.size
      have aV:F.length≤40:=mem_le (n:=40) oG I
      refine Q (aS G)<|Qn (We (ret1 G (v:=str _) G (⟨F,U,T,eR G,H,⟨oB,oB⟩,oE,((b.lo i).step u (fun i_ hi_ e'=>e'))⟩)))
end Go.Proofs.YtndcchndcghmoaaGreatDoor
namespace Go.Proofs.YtndcchndcghmoaaGreatDoor
open Go Go.RowKit Fw
set_option maxRecDepth 10000
set_option maxHeartbeats 2000000
set_option linter.unusedVariables false
variable {Ac : Option Addr} {nc cc Bc : Nat}
theorem ent112:Ent Tryz.prog 112:=en Tryz.func112
theorem ent113:Ent Tryz.prog 113:=en Tryz.func113
theorem ent60:Ent Tryz.prog 60:=en Tryz.func60
theorem c___spec_l1Cur__console (w:World) {gc ec:Nat} (Lc:List UInt8) (tc sc:Int) (hc:Blk w gc ec [.slice Ac nc cc,i6 tc,.int .u64 sc]) (hLc:SlR w Bc encB 1 Ac nc cc Lc) (hgc:Bc≤gc) (htc:0≤tc∧tc+1200≤4611686018427387904):Calls Tryz.prog 65 #[.pointer (some ⟨gc,0,none⟩)] w fun e w'=>∃ (A1':Option Addr) (n1' c1':Nat) (A2':Option Addr) (n2' c2':Nat) (c:Console) (tc' sc':Int),e=.returned (.agg (List.toArray (cCn A1' n1' c1' A2' n2' c2' c)))∧SlO w' w.heap.size encLMap 3 102 A1' n1' c1' c.Library.Maps∧SlO w' w.heap.size encAway 2 129 A2' n2' c2' c.Library.Away∧Dj A1' A2'∧Blk w' gc ec [.slice Ac nc cc,i6 tc',.int .u64 sc']∧(tc≤tc'∧tc'≤tc+1200)∧(c.Library.Maps.length≤9∧c.Library.Away.length≤9)∧(MapB c.Library.Maps)∧(AwayB c.Library.Away)∧(c.Log.Durable.length≤60000∧c.Log.Pending.length≤60000∧-1≤c.Log.Count∧c.Log.Count≤100)∧Kp (fun b_=>b_=gc) w w':=by
 refine cW 32 Tryz.func65 G G G ?_
 have hBlc:=hc.lt
 have hbdc:=hLc.bound
 have hlec:=hLc.len
 have hBbc:=hLc.bd
 refine Ws (Wr (Qa (l:=zCn) tz37 G ?_))
 intro Z w2 dY ba dZ cy
 refine Qn (Ws (Wr (Q (mP G)<|Qc ent112 (c___spec_l1Cur__library w2 Lc tc sc (hc.lo ba) (hLc.lo ba) oB oB) G ?_)))
 rintro e w9 ⟨ag,aX,aE,ah,aY,aF,C,dh,dg,rfl,az,aA,ca,b6,dL,dD,dE,dF,aC⟩
 refine ⟨_,G,?_⟩
 have dN:=aC.size
 have dr:=az.len
 have dt:=az.rd.bound
 have du:=aA.len
 have dv:=aA.rd.bound
 refine Q (r_build (vs:=[(0,.agg (List.toArray (cLb ag aX aE ah aY aF C)))]) G (bld37_0 _ _ _ _ _))<|Qa (l:=zCn) tz37 G ?_
 intro d d2 dq ac dJ b7
 have bj:=nE (g:=d) az
 have bl:=nE (g:=d) aA
 refine Qw (o:=0) (vs:=[.slice ag aX aE,.slice ah aY aF,i6 C.Bought,i6 C.Dropped,i6 C.Mended,str ([]:List UInt8),str ([]:List UInt8),i6 0]) agg37.2 G G G G b7 ler G ?_
 intro di ae dK b8
 refine Qn (Ws (Ws ?_))
 have bq:=(((hLc.lo ba).kn aC).lo ac).kn ae
 have aO:=(az.lo ac).kd ae bj
 have aQ:=(aA.lo ac).kd ae bl
 refine Wr (Q (mP G)<|Qc ent59 (c___spec_l1Cur__pick di Lc dh dg ((b6.lo ac).kn ae) bq oB oB 7 oD) G ?_)
 rintro e ay ⟨bc,bb,cj,rfl,b9,dM,dG,B⟩
 refine ⟨_,G,?_⟩
 have dO:=B.size
 refine Q (aI G)<|Qn (Wl (WL (σ:=Int × Console × Int × Int × (Option Addr) × Nat × Nat × (Option Addr) × Nat × Nat) (fun g=>[(0,pt gc),(2,pt Z),(3,pt d),(4,i6 g.1)]) (fun g w'=>(Kp (fun b_=>b_=gc) w w')∧(Blk w' gc ec [.slice Ac nc cc,i6 g.2.2.1,.int .u64 g.2.2.2.1])∧(SlR w' Bc encB 1 Ac nc cc Lc)∧(Blk w' Z 37 zCn)∧(Blk w' d 37 (cCn g.2.2.2.2.1 g.2.2.2.2.2.1 g.2.2.2.2.2.2.1 g.2.2.2.2.2.2.2.1 g.2.2.2.2.2.2.2.2.1 g.2.2.2.2.2.2.2.2.2 g.2.1))∧(SlO w' w.heap.size encLMap 3 102 g.2.2.2.2.1 g.2.2.2.2.2.1 g.2.2.2.2.2.2.1 g.2.1.Library.Maps)∧(SlO w' w.heap.size encAway 2 129 g.2.2.2.2.2.2.2.1 g.2.2.2.2.2.2.2.2.1 g.2.2.2.2.2.2.2.2.2 g.2.1.Library.Away)∧(¬g.2.2.2.2.1=some ⟨gc,0,none⟩)∧(¬g.2.2.2.2.1=some ⟨Z,0,none⟩)∧(¬g.2.2.2.2.1=some ⟨d,0,none⟩)∧(∀ b_,g.2.2.2.2.1=some ⟨b_,0,none⟩→¬g.2.2.2.2.2.2.2.1=some ⟨b_,0,none⟩)∧(¬g.2.2.2.2.2.2.2.1=some ⟨gc,0,none⟩)∧(¬g.2.2.2.2.2.2.2.1=some ⟨Z,0,none⟩)∧(¬g.2.2.2.2.2.2.2.1=some ⟨d,0,none⟩)∧((0≤g.1∧g.1≤6∧tc≤g.2.2.1∧g.2.2.1≤tc+810+40*(6-g.1))∧(g.2.1.Library.Maps.length≤9∧g.2.1.Library.Away.length≤9)∧(g.2.1.Log.Durable.length+g.2.1.Log.Pending.length≤24766∧0≤g.2.1.Log.Count∧g.2.1.Log.Count≤60)∧MapB g.2.1.Library.Maps∧AwayB g.2.1.Library.Away)) (fun g=>g.1.toNat) (bc,(⟨C,(⟨([]:List UInt8),([]:List UInt8),0⟩:Log)⟩:Console),bb,cj,ag,aX,aE,ah,aY,aF) ?_ ?_ ?_))
 ·exact (At.r G)
 ·show (Kp (fun b_=>b_=gc) w ay)∧(Blk ay gc ec [.slice Ac nc cc,i6 bb,.int .u64 cj])∧(SlR ay Bc encB 1 Ac nc cc Lc)∧(Blk ay Z 37 zCn)∧(Blk ay d 37 (cCn ag aX aE ah aY aF (⟨C,(⟨([]:List UInt8),([]:List UInt8),0⟩:Log)⟩:Console)))∧(SlO ay w.heap.size encLMap 3 102 ag aX aE ((⟨C,(⟨([]:List UInt8),([]:List UInt8),0⟩:Log)⟩:Console).Library.Maps))∧(SlO ay w.heap.size encAway 2 129 ah aY aF ((⟨C,(⟨([]:List UInt8),([]:List UInt8),0⟩:Log)⟩:Console).Library.Away))∧(¬ag=some ⟨gc,0,none⟩)∧(¬ag=some ⟨Z,0,none⟩)∧(¬ag=some ⟨d,0,none⟩)∧Dj ag ah∧(¬ah=some ⟨gc,0,none⟩)∧(¬ah=some ⟨Z,0,none⟩)∧(¬ah=some ⟨d,0,none⟩)∧((0≤bc∧bc≤6∧tc≤bb∧bb≤tc+810+40*(6-bc))∧((⟨C,(⟨([]:List UInt8),([]:List UInt8),0⟩:Log)⟩:Console).Library.Maps.length≤9∧(⟨C,(⟨([]:List UInt8),([]:List UInt8),0⟩:Log)⟩:Console).Library.Away.length≤9)∧((⟨C,(⟨([]:List UInt8),([]:List UInt8),0⟩:Log)⟩:Console).Log.Durable.length+(⟨C,(⟨([]:List UInt8),([]:List UInt8),0⟩:Log)⟩:Console).Log.Pending.length≤24766∧0≤(⟨C,(⟨([]:List UInt8),([]:List UInt8),0⟩:Log)⟩:Console).Log.Count∧(⟨C,(⟨([]:List UInt8),([]:List UInt8),0⟩:Log)⟩:Console).Log.Count≤60)∧MapB (⟨C,(⟨([]:List UInt8),([]:List UInt8),0⟩:Log)⟩:Console).Library.Maps∧AwayB (⟨C,(⟨([]:List UInt8),([]:List UInt8),0⟩:Log)⟩:Console).Library.Away)
  exact ⟨((((((kr ba:Kp (fun b_=>b_=gc) w _)).step aC (fun i_ hi_ e'=>e')).lo ac).new ae).step B (fun i_ hi_ e'=>e')),b9,bq.kn B,(((cy.kn aC).lo ac).kn ae).kn B,(b8.kn B),(oq ((aO.kn B).down) oU),(oq ((aQ.kn B).down) oU),(fun e'=>by have:=(aO.kn B).base_le e'; omega),(fun e'=>by have:=(aO.kn B).base_le e'; omega),bj,ca,(fun e'=>by have:=(aQ.kn B).base_le e'; omega),(fun e'=>by have:=(aQ.kn B).base_le e'; omega),bl,(by (try dsimp only); exact ⟨oB,by (try dsimp only); omega,by simp,‹MapB _›,‹AwayB _›⟩)⟩
 ·rintro ⟨n,o,t,z,v,S,L,x,T,M⟩ cu ap b5
  obtain ⟨bi,ar,au,aD,u,q,s,D,bm,aa,bn,E,bo,ab,aq⟩:(Kp (fun b_=>b_=gc) w ap)∧(Blk ap gc ec [.slice Ac nc cc,i6 t,.int .u64 z])∧(SlR ap Bc encB 1 Ac nc cc Lc)∧(Blk ap Z 37 zCn)∧(Blk ap d 37 (cCn v S L x T M o))∧(SlO ap w.heap.size encLMap 3 102 v S L o.Library.Maps)∧(SlO ap w.heap.size encAway 2 129 x T M o.Library.Away)∧(¬v=some ⟨gc,0,none⟩)∧(¬v=some ⟨Z,0,none⟩)∧(¬v=some ⟨d,0,none⟩)∧Dj v x∧(¬x=some ⟨gc,0,none⟩)∧(¬x=some ⟨Z,0,none⟩)∧(¬x=some ⟨d,0,none⟩)∧((0≤n∧n≤6∧tc≤t∧t≤tc+810+40*(6-n))∧(o.Library.Maps.length≤9∧o.Library.Away.length≤9)∧(o.Log.Durable.length+o.Log.Pending.length≤24766∧0≤o.Log.Count∧o.Log.Count≤60)∧MapB o.Library.Maps∧AwayB o.Library.Away):=b5
  refine (?_:W _ _ _ _ _ (act _ (sets cu [(0,pt gc),(2,pt Z),(3,pt d),(4,i6 n)])) _)
  have df:=bi.size
  have dw:=ar.lt
  have dx:=aD.lt
  have dy:=u.lt
  have dz:=q.len
  have dA:=q.rd.bound
  have dB:=s.len
  have dC:=s.rd.bound
  have dH:0≤n∧n≤6∧tc≤t∧t≤tc+810+40*(6-n):=aq.1
  have cd:o.Library.Maps.length≤9∧o.Library.Away.length≤9:=aq.2.1
  have dI:o.Log.Durable.length+o.Log.Pending.length≤24766∧0≤o.Log.Count∧o.Log.Count≤60:=aq.2.2.1
  have ce:MapB o.Library.Maps:=aq.2.2.2.1
  have cf:AwayB o.Library.Away:=aq.2.2.2.2
  refine Ws (Ws (WJ (fun f' w'=>At f' [(0,pt gc),(2,pt Z),(3,pt d),(4,i6 n),(15,.bool (decide ((0<n)∧(ConOK o))))]∧Lo ap w') ?_ ?_))
  ·refine Q (mI G)<|Q (r_gt G G)<|Q (mB G)<|QD (fun bz=>?_) (fun bz=>?_)
   ·refine Qg (lG agg37 G u G)<|SR.gcall G ent42 (c_spec_l34Good ap o (q.rd) (s.rd) oB) G ?_
    rintro e d3 ⟨rfl,bp⟩
    refine ⟨_,G,?_⟩
    have cS:=bp.size
    refine Q (pT G G)<|Qn (⟨_,G,⟨⟨G,G,G,G,(eDD (jat bz)),trivial⟩,bp⟩⟩)
   ·refine Qs<|Qs<|Q (pF G G)<|Qn (⟨_,G,⟨⟨G,G,G,G,(eDF (jaf bz).2),trivial⟩,(lr _)⟩⟩)
  rintro dk k ⟨aZ,a⟩
  rw [← sA aZ]
  have cT:=a.size
  have aH:=bi.lo a
  refine Wd G (fun aG=>?_) (fun aG=>?_)
  ·have cH:0<n:=aG.1
   have aU:ConOK o:=aG.2
   have cI:=con_rng aU
   have cJ:=And.left aU
   refine Wk (Ws (Wl (WA (Kp (fun b_=>b_=gc∨b_=d) k) (fun f' w'=>∃ (f:List UInt8) (j:Int) (K:Int) (m:Option Addr) (I:Nat) (X:Nat) (p:Option Addr) (J:Nat) (Y:Nat),At f' [(0,pt gc),(2,pt Z),(3,pt d),(4,i6 n)]∧(Kp (fun b_=>b_=gc∨b_=d) k w')∧(SlO w' k.heap.size encLMap 3 102 m I X (((execN o f).1).Library.Maps))∧(SlO w' k.heap.size encAway 2 129 p J Y (((execN o f).1).Library.Away))∧(Blk w' gc ec [.slice Ac nc cc,i6 j,.int .u64 K])∧(Blk w' d 37 (cCn m I X p J Y ((execN o f).1)))∧Dj m v∧Dj m x∧Dj m p∧Dj p v∧Dj p x∧(t≤j∧j≤t+24)∧(f.length≤100)∧(I=(((execN o f).1).Library.Maps).length)∧((I:Int)≤9223372036854775807)∧(J=(((execN o f).1).Library.Away).length)∧((J:Int)≤9223372036854775807)) mo ?_ ?_)))
   ·intro cp b
    have cU:=b.size
    refine Av #[true,true,true,true,false,false,false,false,false] 5 (fun f' w'=>∃ (f:List UInt8) (j:Int) (K:Int),At f' [(0,pt gc),(2,pt Z),(3,pt d),(4,i6 n),(19,.agg (List.toArray (cCn v S L x T M o))),(22,str f)]∧(Kp (fun b_=>b_=gc∨b_=d) k w')∧(Blk w' gc ec [.slice Ac nc cc,i6 j,.int .u64 K])∧(Blk w' d 37 (cCn v S L x T M o))∧(t≤j∧j≤t+24)∧(f.length≤100)) ?_ (fun aR=>?_)
    ·rintro dm cq ⟨f,j,K,a6,y,bP,bQ,aW,aV⟩
     rw [← sA a6]
     have cX:=y.size
     refine Ab 4 G (Qc ent10 (c_spec_ExecuteCommand cq o (((q.lo a).kp y (fun b_ hb e'=>e'.elim (fun e'=>D (by have e'':b_=gc:=e'; rw [← e'']; exact hb)) (fun e'=>aa (by have e'':b_=d:=e'; rw [← e'']; exact hb)))).rd) (((s.lo a).kp y (fun b_ hb e'=>e'.elim (fun e'=>E (by have e'':b_=gc:=e'; rw [← e'']; exact hb)) (fun e'=>ab (by have e'':b_=d:=e'; rw [← e'']; exact hb)))).rd) f oB oB) G ?_)
     rintro e dQ ⟨be,bs,bg,bf,bt,bh,rfl,N,O,bI,aj⟩
     refine ⟨_,G,?_⟩
     have cY:=aj.size
     have P:=y.lo aj
     have bJ:=N.len
     have bK:=N.rd.bound
     have bL:=O.len
     have bM:=O.rd.bound
     refine Qn ⟨P,_,G,(Ak 5 G P (fun w' hw'=>mT G)<|Ak 6 G P (fun w' hw'=>xG G G)<|Ak 7 G P (fun w' hw'=>xS G G)<|Ab 8 G (Qw (o:=0) (vs:=(cCn be bs bg bf bt bh ((execN o f).1))) agg37.2 G G G G (bQ.lo aj) ler G ?_))⟩
     intro dR A cM bA
     have aK:=P.step A (fun _ _ e=>.inr e)
     refine Qn ⟨aK,_,G,(Ad oC (⟨f,j,K,be,bs,bg,bf,bt,bh,(At.r G),aK,((N.kn A).down),((O.kn A).down),((bP.lo aj).kn A),bA,(fun b_ h h'=>by have h1:=(N.kn A).base_le h; have h2:=((q.lo a).kp y (fun b_ hb e'=>e'.elim (fun e'=>D (by have e'':b_=gc:=e'; rw [← e'']; exact hb)) (fun e'=>aa (by have e'':b_=d:=e'; rw [← e'']; exact hb)))).base_le h'; omega),(fun b_ h h'=>by have h1:=(N.kn A).base_le h; have h2:=((s.lo a).kp y (fun b_ hb e'=>e'.elim (fun e'=>E (by have e'':b_=gc:=e'; rw [← e'']; exact hb)) (fun e'=>ab (by have e'':b_=d:=e'; rw [← e'']; exact hb)))).base_le h'; omega),bI,(fun b_ h h'=>by have h1:=(O.kn A).base_le h; have h2:=((q.lo a).kp y (fun b_ hb e'=>e'.elim (fun e'=>D (by have e'':b_=gc:=e'; rw [← e'']; exact hb)) (fun e'=>aa (by have e'':b_=d:=e'; rw [← e'']; exact hb)))).base_le h'; omega),(fun b_ h h'=>by have h1:=(O.kn A).base_le h; have h2:=((s.lo a).kp y (fun b_ hb e'=>e'.elim (fun e'=>E (by have e'':b_=gc:=e'; rw [← e'']; exact hb)) (fun e'=>ab (by have e'':b_=d:=e'; rw [← e'']; exact hb)))).base_le h'; omega),aW,aV,bJ,bK,bL,bM⟩))⟩
    refine Av #[true,true,true,false,false,false,false,false,false] 6 (fun f' w'=>At f' [(0,pt gc),(2,pt Z),(3,pt d),(4,i6 n),(19,.agg (List.toArray (cCn v S L x T M o))),(20,pt gc),(21,.agg (List.toArray (cCn v S L x T M o)))]∧(Kp (fun b_=>b_=gc∨b_=d) k w')∧(Blk w' gc ec [.slice Ac nc cc,i6 t,.int .u64 z])∧(Blk w' d 37 (cCn v S L x T M o))) ?_ (fun aT=>?_)
    ·rintro dn cr ⟨a7,F,bN,bO⟩
     rw [← sA a7]
     have cZ:=F.size
     refine Ab 3 G (Qc ent60 (c___spec_l1Cur__command cr Lc t z bN ((au.lo a).kp F (fun b_ hb e'=>e'.elim (fun e'=>by have e'':b_=gc:=e'; omega) (fun e'=>by have e'':b_=d:=e'; omega))) oB oB o (((q.lo a).kp F (fun b_ hb e'=>e'.elim (fun e'=>D (by have e'':b_=gc:=e'; rw [← e'']; exact hb)) (fun e'=>aa (by have e'':b_=d:=e'; rw [← e'']; exact hb)))).rd) (((s.lo a).kp F (fun b_ hb e'=>e'.elim (fun e'=>E (by have e'':b_=gc:=e'; rw [← e'']; exact hb)) (fun e'=>ab (by have e'':b_=d:=e'; rw [← e'']; exact hb)))).rd) oB (by first | assumption | exact MapB.of (And.left (And.left ‹LibOK _›)) | exact MapB.app (MapB.of (And.left (And.left ‹LibOK _›))) oF | exact MapB.nil) (by first | assumption | exact AwayB.of ‹LibOK _› | exact AwayB.app (AwayB.of ‹LibOK _›) oF | exact AwayB.nil) (((q.lo a).kp F (fun b_ hb e'=>e'.elim (fun e'=>D (by have e'':b_=gc:=e'; rw [← e'']; exact hb)) (fun e'=>aa (by have e'':b_=d:=e'; rw [← e'']; exact hb)))).apart D) (((s.lo a).kp F (fun b_ hb e'=>e'.elim (fun e'=>E (by have e'':b_=gc:=e'; rw [← e'']; exact hb)) (fun e'=>ab (by have e'':b_=d:=e'; rw [← e'']; exact hb)))).apart E)) G ?_)
     rintro e dS ⟨cn,ck,cg,rfl,bB,bY,bW,ax⟩
     refine ⟨_,G,?_⟩
     have c6:=ax.size
     have aM:=F.step ax (fun _ _ e=>.inl e)
     refine Qn ⟨aM,_,G,(Ag oC G (aR _ _ (⟨cn,ck,cg,(At.r G),aM,bB,(bO.kn ax),bY,bW⟩)))⟩
    refine Ak 1 G (kr b) (fun w' hw'=>mP G)<|Ar [0,2] oC G ⟨Bm G trivial ?_,Bm G trivial ?_,trivial⟩
    ·refine Q (lG agg37 G ((u.lo a).lo b) G) (Qn ⟨(kq k).lo b,_,G,(Ab 2 G (Q (lG agg37 G ((u.lo a).lo b) G) (Qn ⟨(kq k).lo b,_,G,(Ag oC G (aT _ _ (⟨(At.r G),(kq k).lo b,((ar.lo a).lo b),((u.lo a).lo b)⟩)))⟩)))⟩)
    ·refine Q (lG agg37 G ((u.lo a).lo b) G) (Qn ⟨(kq k).lo b,_,G,(Ar [0,3] oC G ⟨Bm G trivial ?_,Bm G trivial ?_,trivial⟩)⟩)
     ·refine Q (lG agg37 G ((u.lo a).lo b) G) (Qn ⟨(kq k).lo b,_,G,(Ag oC G (aT _ _ (⟨(At.r G),(kq k).lo b,((ar.lo a).lo b),((u.lo a).lo b)⟩)))⟩)
     ·refine Qc ent60 (c___spec_l1Cur__command cp Lc t z ((ar.lo a).lo b) ((au.lo a).lo b) oB oB o (((q.lo a).lo b).rd) (((s.lo a).lo b).rd) oB (by first | assumption | exact MapB.of (And.left (And.left ‹LibOK _›)) | exact MapB.app (MapB.of (And.left (And.left ‹LibOK _›))) oF | exact MapB.nil) (by first | assumption | exact AwayB.of ‹LibOK _› | exact AwayB.app (AwayB.of ‹LibOK _›) oF | exact AwayB.nil) (((q.lo a).lo b).apart D) (((s.lo a).lo b).apart E)) G ?_
      rintro e dT ⟨co,cl,ch,rfl,bC,bZ,bX,ak⟩
      refine ⟨_,G,?_⟩
      have c7:=ak.size
      have aw:=((kr b:Kp (fun b_=>b_=gc∨b_=d) k _)).step ak (fun _ _ e=>.inl e)
      refine Qn ⟨aw,_,G,(Ab 0 G (Q (lG agg37 G (((u.lo a).lo b).kn ak) G) (Qn ⟨aw,_,G,(Ag oC G (aR _ _ (⟨co,cl,ch,(At.r G),aw,bC,(((u.lo a).lo b).kn ak),bZ,bX⟩)))⟩)))⟩
   rintro dp V ⟨f,j,K,m,I,X,p,J,Y,a8,ai,an,ao,bR,bS,cz,cA,bH,cB,cC,aW,aV,cD,cE,cF,cG⟩
   rw [← sA a8]
   have da:=ai.size
   have bT:=(au.lo a).kp ai (fun b_ hb e'=>e'.elim (fun e'=>by have e'':b_=gc:=e'; omega) (fun e'=>by have e'':b_=d:=e'; omega))
   have bU:=(aD.lo a).kp ai (fun e'=>e'.elim (fun e'=>by have e'':Z=gc:=e'; omega) (fun e'=>by have e'':Z=d:=e'; omega))
   refine Wr (Q (mI G)<|Q (r_sub G G oB)<|Q (aI G)<|Qn (⟨(n-1,((execN o f).1),j,K,m,I,X,p,J,Y),_,G,(At.r G),(show (Kp (fun b_=>b_=gc) w V)∧(Blk V gc ec [.slice Ac nc cc,i6 j,.int .u64 K])∧(SlR V Bc encB 1 Ac nc cc Lc)∧(Blk V Z 37 zCn)∧(Blk V d 37 (cCn m I X p J Y ((execN o f).1)))∧(SlO V w.heap.size encLMap 3 102 m I X (((execN o f).1).Library.Maps))∧(SlO V w.heap.size encAway 2 129 p J Y (((execN o f).1).Library.Away))∧(¬m=some ⟨gc,0,none⟩)∧(¬m=some ⟨Z,0,none⟩)∧(¬m=some ⟨d,0,none⟩)∧Dj m p∧(¬p=some ⟨gc,0,none⟩)∧(¬p=some ⟨Z,0,none⟩)∧(¬p=some ⟨d,0,none⟩)∧((0≤n-1∧n-1≤6∧tc≤j∧j≤tc+810+40*(6-(n-1)))∧(((execN o f).1).Library.Maps.length≤9∧((execN o f).1).Library.Away.length≤9)∧(((execN o f).1).Log.Durable.length+((execN o f).1).Log.Pending.length≤24766∧0≤((execN o f).1).Log.Count∧((execN o f).1).Log.Count≤60)∧MapB ((execN o f).1).Library.Maps∧AwayB ((execN o f).1).Library.Away) from ⟨(aH.step ai (fun i_ hi_ e'=>e'.elim (fun e'=>e') (fun e'=>by have e'':i_=d:=e'; omega))),bR,bT,bU,bS,(an.down),(ao.down),(fun e'=>by have:=an.base_le e'; omega),(fun e'=>by have:=an.base_le e'; omega),(fun e'=>by have:=an.base_le e'; omega),bH,(fun e'=>by have:=ao.base_le e'; omega),(fun e'=>by have:=ao.base_le e'; omega),(fun e'=>by have:=ao.base_le e'; omega),?_⟩),?_⟩))
   ·exact (by (try dsimp only); exact ⟨oB,con_step ‹ConOK _›⟩)
   ·exact oH
  ·refine Wx (xh (Ws (Ws (Wr (Q (mP G)<|Qc ent61 (c___spec_l1Cur__one k Lc t z (ar.lo a) (au.lo a) oB oB 24 oD) G ?_)))))
   rintro e ct ⟨dP,bw,bu,rfl,aN,cQ,i⟩
   refine ⟨_,G,?_⟩
   have db:=i.size
   have aJ:=aH.step i (fun i_ hi_ e'=>e')
   refine Qn (Wb G (fun b4=>?_) (fun b4=>?_))
   ·have bV:=(au.lo a).kn i
    refine Wr (Q (mP G)<|Qc ent113 (c___spec_l1Cur__anyLog ct Lc bw bu aN bV oB oB) G ?_)
    rintro e dU ⟨U,cm,ci,rfl,bD,cR,cK,H⟩
    refine ⟨_,G,?_⟩
    have de:=H.size
    refine Q (fA fa37_1 G)<|Qw (o:=5) (vs:=[str U.Durable,str U.Pending,i6 U.Count]) agg35.2 G G G G (((u.lo a).kn i).kn H) ler G ?_
    intro dV R cN bE
    refine Qn (Ws (Wr (Q (lG agg37 G bE G)<|Qw (o:=0) (vs:=[.slice v S L,.slice x T M,i6 o.Library.Bought,i6 o.Library.Dropped,i6 o.Library.Mended,str U.Durable,str U.Pending,i6 U.Count]) agg37.2 G G G G ((((aD.lo a).kn i).kn H).kn R) ler G ?_)))
    intro dW al cO bF
    refine Qn (We (retC G G agg37 bF G ?_))
    refine ⟨v,S,L,x,T,M,(⟨o.Library,U⟩:Console),cm,ci,eR (eA G),(oq ((((((q.lo a).kd i D).kd H D).kd R aa).kd al bm).down) (by first | rfl | omega | grind)),(oq ((((((s.lo a).kd i E).kd H E).kd R ab).kd al bo).down) (by first | rfl | omega | grind)),bn,((bD.kn R).kn al),⟨oB,oB⟩,oF,?_,?_,oF,(((aJ.step H (fun i_ hi_ e'=>e')).new R).new al)⟩ <;> (first | assumption | (dsimp only; assumption))
   ·refine Wk (Ws (Wr (Q (lG agg37 G ((u.lo a).kn i) G)<|Qw (o:=0) (vs:=(cCn v S L x T M o)) agg37.2 G G G G ((aD.lo a).kn i) ler G ?_)))
    intro dX am cP bG
    refine Qn (We (retC G G agg37 bG G (⟨v,S,L,x,T,M,o,bw,bu,eR G,((((q.lo a).kd i D).kd am bm).down),((((s.lo a).kd i E).kd am bo).down),bn,(aN.kn am),⟨oB,oB⟩,cd,ce,cf,oF,(aJ.new am)⟩)))
end Go.Proofs.YtndcchndcghmoaaGreatDoor
namespace Go.Proofs.YtndcchndcghmoaaGreatDoor
open Go Go.RowKit Fw
set_option maxRecDepth 10000
set_option maxHeartbeats 2000000
set_option linter.unusedVariables false
variable {AL : Option Addr} {nL cL BL : Nat}
theorem bld91_0 (a0:Option Addr) (b0 c0:Nat):Tryz.prog.built 91 [(0,.slice a0 b0 c0)]=some (List.toArray [.slice a0 b0 c0,i6 0,.int .u64 0]):=by kernel_rfl
theorem ent65:Ent Tryz.prog 65:=en Tryz.func65
theorem c_laws_vBig (w:World)  (L:List UInt8) (hL:SlR w BL encB 1 AL nL cL L):Calls Tryz.prog 21 #[.slice AL nL cL] w fun e w'=>e=.returned (.bool (decide (65536<(L.length:Int))))∧Lo w w':=by
 refine cW 6 Tryz.func21 G G G ?_
 have hbdL:=hL.bound
 have hleL:=hL.len
 have hBbL:=hL.bd
 refine Ws (Wr (Q (aB G)<|Qn (Ws (Wr (Q (mL G)<|Q (r_len und49 G)<|Q (r_gt G G)<|Q (aB G)<|Qn (We (ret1 G (v:=.bool _) G (⟨eR (eDD oB),(lr w)⟩))))))))
end Go.Proofs.YtndcchndcghmoaaGreatDoor
namespace Go.Proofs.YtndcchndcghmoaaGreatDoor
open Go Go.RowKit Fw
set_option maxRecDepth 10000
set_option maxHeartbeats 2000000
set_option linter.unusedVariables false
variable {Ac1 Ac2 : Option Addr} {nc1 cc1 Bc1 nc2 cc2 Bc2 : Nat}
theorem c_impl_FormatConsole (w:World) (c:Console) (t:SlR w Bc1 encLMap 3 Ac1 nc1 cc1 c.Library.Maps) (u:SlR w Bc2 encAway 2 Ac2 nc2 cc2 c.Library.Away) (aO:(c.Library.Maps.length:Int)≤1048576∧(c.Library.Away.length:Int)≤1048576∧(c.Log.Durable.length:Int)+(c.Log.Pending.length:Int)≤1048576) (hE:EnvW w):Calls Tryz.prog 38 #[.agg (List.toArray (cCn Ac1 nc1 cc1 Ac2 nc2 cc2 c))] w fun e w'=>e=.returned (.tuple (List.toArray [str ((formC c).1),.bool ((formC c).2)]))∧Lo w w':=by
 refine cW 62 Tryz.func38 G G G ?_
 have aa:=t.bound
 have ac:=t.len
 have Y:=t.bd
 have ab:=u.bound
 have ae:=u.len
 have Z:=u.bd
 refine Ws (Wr (bx G ?_))
 intro U w2 aN x aQ N
 have O:=(lr w).lo x
 refine Q (r_as (v:=str ([]:List UInt8)) G)<|Q (aB G)<|Qn (Ws (Ws (Wr (Q (lG agg37 G N G)<|Qv ent35 (c_impl_IsValidConsole w2 c (t.lo x) (u.lo x) oB (hE.lo O)) G fun w9 d aG=>?_))))
 have B:=O.lo d
 refine Q (rN G)<|Qn (Wz G (fun M=>?_) (fun M=>?_))
 ·refine Ws (Wr (Q (r_as (v:=str ([]:List UInt8)) G)<|Q (aB G)<|Qn (We (ret2 G (v:=str _) (v':=.bool _) G G ?_))))
  refine ⟨eR (eT2 (eS ?_) (eB ?_)),B⟩ <;> (first | (rw [form_no ‹¬ConOK _›]; done) | (rw [form_yes ‹ConOK _› (show k=c.Library.Maps.length by omega)]; first | done | (rw [← con_end]; done) | (exact con_end c k)))
 ·have ao:=con_rng M
  have ap:=And.left M
  refine Wk (Ws (Wr (Q (r_as (v:=str ([]:List UInt8)) G)<|Qn (Ws (Wr (Q (fA fa37_0 G)<|Q (r_lda (l:=(cLb Ac1 nc1 cc1 Ac2 nc2 cc2 c.Library)) agg34 G (fun _ _ hu=>(N.lo d).cells (vs:=(cLb Ac1 nc1 cc1 Ac2 nc2 cc2 c.Library)) G hu) G)<|Qa (l:=zLb) tz34 G ?_))))))
  intro A aT aj r aC R
  refine Qw (o:=0) (vs:=(cLb Ac1 nc1 cc1 Ac2 nc2 cc2 c.Library)) agg34.2 G G G G R ler G ?_
  intro aU s aD E
  refine Qn (Ws (Ws (Wr (Q (fA fa34_0 G)<|Q (lB sca31 G E G)<|Q (r_len und31 G)<|Q (r_mv (v:=i6 0) G)<|Qn (Wl (WL (σ:=Nat) (fun g=>[(1,pt U),(2,str ([]:List UInt8)),(3,.bool false),(4,str (conT c g)),(5,pt A),(16,.slice Ac1 nc1 cc1),(17,i6 (nc1:Int)),(18,i6 (g:Int))]) (fun g w'=>(Lo w w')∧(Blk w' U 37 (cCn Ac1 nc1 cc1 Ac2 nc2 cc2 c))∧(SlR w' Bc1 encLMap 3 Ac1 nc1 cc1 c.Library.Maps)∧(SlR w' Bc2 encAway 2 Ac2 nc2 cc2 c.Library.Away)∧(Blk w' A 34 (cLb Ac1 nc1 cc1 Ac2 nc2 cc2 c.Library))∧(g≤nc1)) (fun g=>nc1-g) 0 ?_ ?_ ?_))))))
  ·refine ⟨G,G,G,(eS ?_),G,G,G,(eI ?_),trivial⟩ <;> (first | (first | omega | rfl | exact con_next ‹ConOK c› oB) | (dsimp only; (first | omega | rfl | exact con_next ‹ConOK c› oB)))
  ·exact ⟨((B.lo r).new s),(((N.lo d).lo r).kn s),((((t.lo x).lo d).lo r).kn s),((((u.lo x).lo d).lo r).kn s),E,oB⟩
  ·rintro k V z P
   obtain ⟨a,y,p,T,q,al⟩:(Lo w z)∧(Blk z U 37 (cCn Ac1 nc1 cc1 Ac2 nc2 cc2 c))∧(SlR z Bc1 encLMap 3 Ac1 nc1 cc1 c.Library.Maps)∧(SlR z Bc2 encAway 2 Ac2 nc2 cc2 c.Library.Away)∧(Blk z A 34 (cLb Ac1 nc1 cc1 Ac2 nc2 cc2 c.Library))∧(k≤nc1):=P
   refine (?_:W _ _ _ _ _ (act _ (sets V [(1,pt U),(2,str ([]:List UInt8)),(3,.bool false),(4,str (conT c k)),(5,pt A),(16,.slice Ac1 nc1 cc1),(17,i6 (nc1:Int)),(18,i6 (k:Int))])) _)
   have ag:=a.size
   have am:=y.lt
   have an:=q.lt
   have aq:(conT c k).length≤99*k:=con_len ‹ConOK c› k oB
   refine Ws (Wr (Q (r_lt G G)<|Qn (Ws (Wd G (fun X=>?_) (fun X=>?_)))))
   ·refine Wk (Ws (Wl (Ws ?_)))
    have L:=p.elem (i:=k) oB
    have ar:=maps_rng ‹ConOK c›.1.1.1 L
    refine Wr (Q (rX tsl31 p G G oB)<|Q (r_lda (l:=encLMap (gt c.Library.Maps k)) agg102 G (fun _ _ hu=>p.cell L hu) (p.esz _))<|Qa (l:=[i6 0,i6 0,i6 0]) tz102 G ?_)
    intro aM aV ak f aE S
    refine Qw (o:=0) (vs:=[i6 ((gt c.Library.Maps k).Id),i6 ((gt c.Library.Maps k).Copies),i6 ((gt c.Library.Maps k).Torn)]) agg102.2 G G G G S ler G ?_
    intro ah j aF F
    have C:=(a.lo f).new j
    refine Qn (Ws ?_)
    have I:=(p.lo f).kn j
    have J:=(T.lo f).kn j
    have K:=(q.lo f).kn j
    refine Wr (Q (lG agg34 G K G)<|Q (fA fa102_0 G)<|Q (lB sca3 G F G)<|Qv ent73 (c_impl_MapText ah c.Library I J ((gt c.Library.Maps k).Id) oB (hE.lo C)) G fun ai b aH=>?_)
    have D:=C.lo b
    have au:(mapT c.Library ((gt c.Library.Maps k).Id)).1.length≤75:=mapT_len c.Library ((gt c.Library.Maps k).Id)
    refine Q (mT G)<|Q (xS G G)<|Q (xB G G)<|Q (aS G)<|Q (aB G)<|Qn (Wr (Q (mS G)<|Q (fA fa102_0 G)<|Q (lB sca3 G (F.lo b) G)<|Qv ent74 (c_impl_text ai ((gt c.Library.Maps k).Id) oB (hE.lo D)) G fun aW m aJ=>?_))
    have aw:(Lib.itoa ((gt c.Library.Maps k).Id)).length≤21:=itoa_len (n:=(gt c.Library.Maps k).Id) oB oB
    refine Q (r_cat G G oA)<|Q (mS G)<|Q (r_cat G G oA)<|Q (r_cat G G oA)<|Q (r_cat G G oA)<|Q (aS G)<|Qn (Wr (Q (r_add G G oB)<|Q (mI G)<|Qn (⟨k+1,_,G,⟨G,G,G,(eS (by first | (first | omega | rfl | exact con_next ‹ConOK c› oB) | (dsimp only; (first | omega | rfl | exact con_next ‹ConOK c› oB)))),G,G,G,(eI (by first | (first | omega | rfl | exact con_next ‹ConOK c› oB) | (dsimp only; (first | omega | rfl | exact con_next ‹ConOK c› oB)))),trivial⟩,⟨(D.lo m),((((y.lo f).kn j).lo b).lo m),((I.lo b).lo m),((J.lo b).lo m),((K.lo b).lo m),?_⟩,?_⟩)))
    ·exact oB
    ·exact oB
   ·refine Wx (xh (Ws (W.regD mo oC (Rq (fun w' hw'=>mS G)<|Rq (fun w' hw'=>r_cat G G oA)<|Rq (fun w' hw'=>fA fa34_2 G)<|Rq (fun w' hw'=>lB sca3 G (q.lo hw') G)<|QR.call ent74 (fun w' hw'=>(c_impl_text w' c.Library.Bought oB (hE.lo (a.trans hw'))).mono fun _ _ h=>⟨h.1,hw'.trans h.2⟩) G<|?_))))
    have ax:(Lib.itoa c.Library.Bought).length≤21:=itoa_len (n:=c.Library.Bought) oB oB
    refine Rq (fun w' hw'=>r_cat G G oA)<|Rq (fun w' hw'=>r_cat G G oA)<|Rq (fun w' hw'=>fA fa34_3 G)<|Rq (fun w' hw'=>lB sca3 G (q.lo hw') G)<|QR.call ent74 (fun w' hw'=>(c_impl_text w' c.Library.Dropped oB (hE.lo (a.trans hw'))).mono fun _ _ h=>⟨h.1,hw'.trans h.2⟩) G<|?_
    have ay:(Lib.itoa c.Library.Dropped).length≤21:=itoa_len (n:=c.Library.Dropped) oB oB
    refine Rq (fun w' hw'=>r_cat G G oA)<|Rq (fun w' hw'=>r_cat G G oA)<|Rq (fun w' hw'=>fA fa34_4 G)<|Rq (fun w' hw'=>lB sca3 G (q.lo hw') G)<|QR.call ent74 (fun w' hw'=>(c_impl_text w' c.Library.Mended oB (hE.lo (a.trans hw'))).mono fun _ _ h=>⟨h.1,hw'.trans h.2⟩) G<|?_
    have az:(Lib.itoa c.Library.Mended).length≤21:=itoa_len (n:=c.Library.Mended) oB oB
    refine Rq (fun w' hw'=>r_cat G G oA)<|Rq (fun w' hw'=>r_cat G G oA)<|Rq (fun w' hw'=>fA fa37_1 G)<|Rq (fun w' hw'=>fA fa35_2 G)<|Rq (fun w' hw'=>r_ld (v:=i6 c.Log.Count) sca3 G ((y.lo hw').cell2 G))<|QR.call ent74 (fun w' hw'=>(c_impl_text w' c.Log.Count oB (hE.lo (a.trans hw'))).mono fun _ _ h=>⟨h.1,hw'.trans h.2⟩) G<|?_
    have aA:(Lib.itoa c.Log.Count).length≤21:=itoa_len (n:=c.Log.Count) oB oB
    refine Rq (fun w' hw'=>r_cat G G oA)<|Rq (fun w' hw'=>r_cat G G oA)<|Rq (fun w' hw'=>aS G)<|Rq (fun w' hw'=>aB G)<|QR.nil ?_
    intro aX H
    have aK:=H.size
    refine We (ret2 G (v:=str _) (v':=.bool _) G G ?_)
    refine ⟨eR (eT2 (eS ?_) (eB ?_)),(a.lo H)⟩ <;> (first | (rw [form_no ‹¬ConOK _›]; done) | (rw [form_yes ‹ConOK _› (show k=c.Library.Maps.length by omega)]; first | done | (rw [← con_end]; done) | (exact con_end c k)))
theorem c_spec_FormatConsole (w:World) (c:Console) (t:SlR w Bc1 encLMap 3 Ac1 nc1 cc1 c.Library.Maps) (u:SlR w Bc2 encAway 2 Ac2 nc2 cc2 c.Library.Away) (aJ:(c.Library.Maps.length:Int)≤1048576∧(c.Library.Away.length:Int)≤1048576∧(c.Log.Durable.length:Int)+(c.Log.Pending.length:Int)≤1048576):Calls Tryz.prog 39 #[.agg (List.toArray (cCn Ac1 nc1 cc1 Ac2 nc2 cc2 c))] w fun e w'=>e=.returned (.tuple (List.toArray [str ((formC c).1),.bool ((formC c).2)]))∧Lo w w':=by
 refine cW 57 Tryz.func39 G G G ?_
 have Y:=t.bound
 have aa:=t.len
 have V:=t.bd
 have Z:=u.bound
 have ab:=u.len
 have X:=u.bd
 refine Ws (Wr (bx G ?_))
 intro L w2 aH y aK K
 refine Q (r_as (v:=str ([]:List UInt8)) G)<|Q (aB G)<|Qn (Ws (Ws (Wr (Q (lG agg37 G K G)<|Qv ent42 (c_spec_l34Good w2 c (t.lo y) (u.lo y) oB) G fun w9 j aC=>?_))))
 have B:=((lr w).lo y).lo j
 refine Q (rN G)<|Qn (Wz G (fun I=>?_) (fun I=>?_))
 ·refine Ws (Wr (Q (r_as (v:=str ([]:List UInt8)) G)<|Q (aB G)<|Qn (We (ret2 G (v:=str _) (v':=.bool _) G G ?_))))
  refine ⟨eR (eT2 (eS ?_) (eB ?_)),B⟩ <;> (first | (rw [form_no ‹¬ConOK _›]; done) | (rw [form_yes ‹ConOK _› (show k=c.Library.Maps.length by omega)]; first | done | (rw [← con_end]; done) | (exact con_end c k)))
 ·have am:=con_rng I
  have an:=And.left I
  refine Wk (Ws (WA (Lo w9) (fun f' w'=>∃ (d:Nat),At f' [(1,pt L),(2,str ([]:List UInt8)),(3,.bool false),(4,str ([]:List UInt8)),(5,pt d)]∧(Lo w9 w')∧(Blk w' d 34 (cLb Ac1 nc1 cc1 Ac2 nc2 cc2 c.Library))∧(w9.heap.size≤d∧d<w'.heap.size)) mo ?_ ?_))
  ·intro aN p
   have aD:=p.size
   refine Ak 0 G p (fun w' hw'=>fA fa37_0 G)<|Ak 1 G p (fun w' hw'=>r_lda (l:=(cLb Ac1 nc1 cc1 Ac2 nc2 cc2 c.Library)) agg34 G (fun _ _ hu=>((K.lo j).lo hw').cells (vs:=(cLb Ac1 nc1 cc1 Ac2 nc2 cc2 c.Library)) G hu) G)<|Ab 2 G (Qa (l:=zLb) tz34 G ?_)
   intro T aO ai O az N
   have s:=p.lo O
   refine Qn ⟨s,_,G,(Ak 3 G s (fun w' hw'=>r_as (v:=str ([]:List UInt8)) G)<|Ab 4 G (Qw (o:=0) (vs:=(cLb Ac1 nc1 cc1 Ac2 nc2 cc2 c.Library)) agg34.2 G G G G N ler G ?_))⟩
   intro aQ P aA D
   have C:=s.new P
   refine Qn ⟨C,_,G,(Ad oC (⟨T,(At.r G),C,D,⟨oB,D.lt⟩⟩))⟩
  rintro aG aR ⟨d,J,f,R,ah⟩
  rw [← sA J]
  have aE:=f.size
  refine Ws (Ws (Wr (Q (aI G)<|Qn (Wl (WL (σ:=Nat) (fun g=>[(1,pt L),(2,str ([]:List UInt8)),(3,.bool false),(4,str (conT c g)),(5,pt d),(6,i6 (g:Int))]) (fun g w'=>(Lo w w')∧(Blk w' L 37 (cCn Ac1 nc1 cc1 Ac2 nc2 cc2 c))∧(SlR w' Bc1 encLMap 3 Ac1 nc1 cc1 c.Library.Maps)∧(SlR w' Bc2 encAway 2 Ac2 nc2 cc2 c.Library.Away)∧(Blk w' d 34 (cLb Ac1 nc1 cc1 Ac2 nc2 cc2 c.Library))∧(g≤nc1)) (fun g=>nc1-g) 0 ?_ ?_ ?_)))))
  ·refine ⟨G,G,G,(eS ?_),G,(eI ?_),trivial⟩ <;> (first | (first | omega | rfl | exact con_nextS) | (dsimp only; (first | omega | rfl | exact con_nextS)))
  ·exact ⟨(B.lo f),((K.lo j).lo f),((t.lo y).lo j).lo f,((u.lo y).lo j).lo f,R,oB⟩
  ·rintro k S A M
   obtain ⟨q,z,m,F,a,aj⟩:(Lo w A)∧(Blk A L 37 (cCn Ac1 nc1 cc1 Ac2 nc2 cc2 c))∧(SlR A Bc1 encLMap 3 Ac1 nc1 cc1 c.Library.Maps)∧(SlR A Bc2 encAway 2 Ac2 nc2 cc2 c.Library.Away)∧(Blk A d 34 (cLb Ac1 nc1 cc1 Ac2 nc2 cc2 c.Library))∧(k≤nc1):=M
   refine (?_:W _ _ _ _ _ (act _ (sets S [(1,pt L),(2,str ([]:List UInt8)),(3,.bool false),(4,str (conT c k)),(5,pt d),(6,i6 (k:Int))])) _)
   have ae:=q.size
   have ak:=z.lt
   have al:=a.lt
   have ao:(conT c k).length≤99*k:=con_len ‹ConOK c› k oB
   refine Ws (Ws (Wr (Q (mI G)<|Q (fA fa34_0 G)<|Q (lB sca31 G a G)<|Q (r_len und31 G)<|Q (r_lt G G)<|Qn (Wd G (fun U=>?_) (fun U=>?_)))))
   ·refine Wk (Ws (Wl (W.regD mo oC (Rq (fun w' hw'=>mS G)<|Rq (fun w' hw'=>fA fa34_0 G)<|Rq (fun w' hw'=>lB sca31 G (a.lo hw') G)<|Rq (fun w' hw'=>mI G)<|?_))))
    have H:=m.elem (i:=k) oB
    have ap:=maps_rng ‹ConOK c›.1.1.1 H
    refine Rq (fun w' hw'=>rX tsl31 (m.lo hw') G G oB)<|Rq (fun w' hw'=>fA fa102_0 G)<|Rq (fun w' hw'=>r_ld (v:=i6 ((gt c.Library.Maps k).Id)) sca3 G ((m.lo hw').cell H G))<|QR.call ent75 (fun w' hw'=>(c_spec_l1Num w' ((gt c.Library.Maps k).Id) oB).mono fun _ _ h=>⟨h.1,hw'.trans h.2⟩) G<|?_
    have aq:(Lib.itoa ((gt c.Library.Maps k).Id)).length≤21:=itoa_len (n:=(gt c.Library.Maps k).Id) oB oB
    refine Rq (fun w' hw'=>r_cat G G oA)<|Rq (fun w' hw'=>r_cat G G oA)<|Rq (fun w' hw'=>lG agg34 G (a.lo hw') G)<|Rq (fun w' hw'=>mI G)<|QR.call ent76 (fun w' hw'=>(c_spec_l32Text w' c.Library (m.lo hw') (F.lo hw') (k:Int) oI oB).mono fun _ _ h=>⟨h.1,hw'.trans h.2⟩) G<|?_
    have ar:(textL c.Library (k:Int)).length≤75:=textL_len (x:=c.Library) oI (i:=(k:Int)) oB
    refine Rq (fun w' hw'=>r_cat G G oA)<|Rq (fun w' hw'=>r_cat G G oA)<|Rq (fun w' hw'=>aS G)<|QR.nil ?_
    intro aT b
    have aF:=b.size
    refine Wr (Q (mI G)<|Q (r_add G G oB)<|Q (aI G)<|Qn (⟨k+1,_,G,⟨G,G,G,(eS (by first | (first | omega | rfl | exact con_nextS) | (dsimp only; (first | omega | rfl | exact con_nextS)))),G,(eI (by first | (first | omega | rfl | exact con_nextS) | (dsimp only; (first | omega | rfl | exact con_nextS)))),trivial⟩,⟨(q.lo b),z.lo b,m.lo b,F.lo b,a.lo b,?_⟩,?_⟩))
    ·exact oB
    ·exact oB
   ·refine Wx (xh (Ws (W.regD mo oC (Rq (fun w' hw'=>mS G)<|Rq (fun w' hw'=>r_cat G G oA)<|Rq (fun w' hw'=>fA fa34_2 G)<|Rq (fun w' hw'=>lB sca3 G (a.lo hw') G)<|QR.call ent75 (fun w' hw'=>(c_spec_l1Num w' c.Library.Bought oB).mono fun _ _ h=>⟨h.1,hw'.trans h.2⟩) G<|?_))))
    have au:(Lib.itoa c.Library.Bought).length≤21:=itoa_len (n:=c.Library.Bought) oB oB
    refine Rq (fun w' hw'=>r_cat G G oA)<|Rq (fun w' hw'=>r_cat G G oA)<|Rq (fun w' hw'=>fA fa34_3 G)<|Rq (fun w' hw'=>lB sca3 G (a.lo hw') G)<|QR.call ent75 (fun w' hw'=>(c_spec_l1Num w' c.Library.Dropped oB).mono fun _ _ h=>⟨h.1,hw'.trans h.2⟩) G<|?_
    have aw:(Lib.itoa c.Library.Dropped).length≤21:=itoa_len (n:=c.Library.Dropped) oB oB
    refine Rq (fun w' hw'=>r_cat G G oA)<|Rq (fun w' hw'=>r_cat G G oA)<|Rq (fun w' hw'=>fA fa34_4 G)<|Rq (fun w' hw'=>lB sca3 G (a.lo hw') G)<|QR.call ent75 (fun w' hw'=>(c_spec_l1Num w' c.Library.Mended oB).mono fun _ _ h=>⟨h.1,hw'.trans h.2⟩) G<|?_
    have ax:(Lib.itoa c.Library.Mended).length≤21:=itoa_len (n:=c.Library.Mended) oB oB
    refine Rq (fun w' hw'=>r_cat G G oA)<|Rq (fun w' hw'=>r_cat G G oA)<|Rq (fun w' hw'=>fA fa37_1 G)<|Rq (fun w' hw'=>fA fa35_2 G)<|Rq (fun w' hw'=>r_ld (v:=i6 c.Log.Count) sca3 G ((z.lo hw').cell2 G))<|QR.call ent75 (fun w' hw'=>(c_spec_l1Num w' c.Log.Count oB).mono fun _ _ h=>⟨h.1,hw'.trans h.2⟩) G<|?_
    have ay:(Lib.itoa c.Log.Count).length≤21:=itoa_len (n:=c.Log.Count) oB oB
    refine Rq (fun w' hw'=>r_cat G G oA)<|Rq (fun w' hw'=>r_cat G G oA)<|Rq (fun w' hw'=>aS G)<|Rq (fun w' hw'=>aB G)<|QR.nil ?_
    intro aU E
    have ac:=E.size
    refine We (ret2 G (v:=str _) (v':=.bool _) G G ?_)
    refine ⟨eR (eT2 (eS ?_) (eB ?_)),(q.lo E)⟩ <;> (first | (rw [form_no ‹¬ConOK _›]; done) | (rw [form_yes ‹ConOK _› (show k=c.Library.Maps.length by omega)]; first | done | (rw [← con_end]; done) | (exact con_end c k)))
end Go.Proofs.YtndcchndcghmoaaGreatDoor
namespace Go.Proofs.YtndcchndcghmoaaGreatDoor
open Go Go.RowKit Fw
set_option maxRecDepth 10000
set_option maxHeartbeats 2000000
set_option linter.unusedVariables false
variable {AL : Option Addr} {nL cL BL : Nat}
theorem c_spec_SplitString (w:World) (s:List UInt8) (p:List UInt8) (D:(s.length:Int)≤4000) (b:p=[10]):Calls Tryz.prog 29 #[str s,str p] w fun e w'=>∃ A1' n1' c1',e=.returned (.tuple (List.toArray [.slice A1' n1' c1',.bool true]))∧SlO w' w.heap.size encS 1 9 A1' n1' c1' (splitB (10:UInt8) s)∧Lo w w':=by
 refine cW 19 Tryz.func29 G G G ?_
 have hpl:p.length=1:=by rw [b]; rfl
 refine Ws (Wr (Q (r_as (v:=.slice none 0 0) G)<|Q (aB G)<|Qn (Ws (Ws (WJ (fun f' w'=>At f' [(0,str s),(1,str p),(4,.slice none 0 0),(5,.bool false),(13,.bool (decide ((¬((p.length:Int)=1))∨(4000<(s.length:Int)))))]∧Lo w w') ?_ ?_)))))
 ·refine Q (mS G)<|Q (r_len_s und9 G)<|Q (r_ne G G)<|Q (mB G)<|QN (fun m=>?_) (fun m=>?_)
  ·refine Qs<|Qs<|Qs<|Q (pT G G)<|Qn (⟨_,G,⟨⟨G,G,G,G,(eDT ((jmf m).1 trivial)),trivial⟩,(lr _)⟩⟩)
  ·refine Qg (mS G)<|Qg (r_len_s und9 G)<|Qg (r_gt G G)<|Q (pF G G)<|Qn (⟨_,G,⟨⟨G,G,G,G,(eDD (jmt m)),trivial⟩,(lr _)⟩⟩)
 rintro J I ⟨h,j⟩
 rw [← sA h]
 have E:=j.size
 have f:=(lr w).lo j
 refine Wd G (fun n=>?_) (fun n=>?_)
 ·refine Ws (Wr (Ql (vs:=[]) (L:=([]:List (List UInt8))) (enc:=encS) tel44 (fun _=>G) G G G oG ?_))
  intro C F q c g
  have A:=c.size
  refine Q (aL G)<|Q (aB G)<|Qn (We (ret2 G (v:=.slice _ _ _) (v':=.bool _) G G ?_))
  refine ⟨(pA C),0,0,eR (eT2 G (eB ?_)),(oq (g.down) ?_),(f.lo c)⟩ <;> (first | omega | (rw [b]; rfl) | (subst b; rfl))
 ·have u:(p.length:Int)=1:=(Classical.not_not.1 (not_or.1 n).1)
  have x:¬(4000<(s.length:Int)):=(not_or.1 n).2
  refine Wk (Ws (Wr (Q (mS G)<|Q (mS G)<|?_)))
  have y:=u8_le (gt p 0)
  refine Q (r_idxS (i:=0) und9 G G G oA)<|Qc ent55 (c_spec_l1Split I s (gt p 0) oD) G ?_
  rintro e H ⟨k,o,l,rfl,a,d⟩
  refine ⟨_,G,?_⟩
  have B:=d.size
  have r:=a.len
  have t:=a.rd.bound
  have z:=splitB_len (gt p 0) s
  refine Q (aL G)<|Q (aB G)<|Qn (We (ret2 G (v:=.slice _ _ _) (v':=.bool _) G G (⟨k,o,l,eR (eT2 G G),(oq (a.down) (by first | omega | (rw [b]; rfl) | (subst b; rfl))),(f.lo d)⟩)))
theorem c_spec_DrawRunScript (w:World)  (L:List UInt8) (hL:SlR w BL encB 1 AL nL cL L) (cd:(nL:Int)≤65536):Calls Tryz.prog 25 #[.slice AL nL cL] w fun e w'=>∃ (A1':Option Addr) (n1' c1':Nat) (A2':Option Addr) (n2' c2':Nat) (c:Console) (v:List UInt8),e=.returned (.tuple (List.toArray [.agg (List.toArray (cCn A1' n1' c1' A2' n2' c2' c)),str v]))∧SlO w' w.heap.size encLMap 3 102 A1' n1' c1' c.Library.Maps∧SlO w' w.heap.size encAway 2 129 A2' n2' c2' c.Library.Away∧Dj A1' A2'∧(c.Library.Maps.length≤9∧c.Library.Away.length≤9)∧(MapB c.Library.Maps)∧(AwayB c.Library.Away)∧(c.Log.Durable.length≤60000∧c.Log.Pending.length≤60000∧-1≤c.Log.Count∧c.Log.Count≤100)∧(v.length≤600)∧Lo w w':=by
 refine cW 42 Tryz.func25 G G G ?_
 have hbdL:=hL.bound
 have hleL:=hL.len
 have hBbL:=hL.bd
 refine Ws (Wr (Qa (l:=zCn) tz37 G ?_))
 intro g1 w2 ca aM ce a6
 refine Q (r_as (v:=str ([]:List UInt8)) G)<|Qn (Ws (Wr (Q (mL G)<|Q (r_build (vs:=[(0,.slice AL nL cL)]) G (bld91_0 _ _ _))<|bx G ?_)))
 intro g9 E bE ab bQ aF
 refine Q (aP G)<|Qn (Ws ?_)
 have am:=(hL.lo aM).lo ab
 refine Wr (Q (mP G)<|Qc ent65 (c___spec_l1Cur__console E L 0 0 aF am oB oB) G ?_)
 rintro e cf ⟨f,p,i,h,q,j,b,bu,bq,rfl,P,R,ak,aG,bT,an,ao,ap,aq,S⟩
 refine ⟨_,G,?_⟩
 have bW:=S.size
 have bG:=P.len
 have bH:=P.rd.bound
 have bI:=R.len
 have bJ:=R.rd.bound
 refine Qa (l:=zCn) tz37 G ?_
 intro y cg bF A bR aH
 refine Qw (o:=0) (vs:=(cCn f p i h q j b)) agg37.2 G G G G aH ler G ?_
 intro bC B bS aj
 refine Qn (Ws ?_)
 have ag:=((am.kn S).lo A).kn B
 have T:=(P.lo A).kd B (nE (g:=y) P)
 have U:=(R.lo A).kd B (nE (g:=y) R)
 refine Wr (Q (mP G)<|Q (lG agg37 G aj G)<|Qc ent60 (c___spec_l1Cur__command bC L bu bq ((aG.lo A).kn B) ag oB oB b (T.rd) (U.rd) oB (by first | assumption | exact MapB.of (And.left (And.left ‹LibOK _›)) | exact MapB.app (MapB.of (And.left (And.left ‹LibOK _›))) oF | exact MapB.nil) (by first | assumption | exact AwayB.of ‹LibOK _› | exact AwayB.app (AwayB.of ‹LibOK _›) oF | exact AwayB.nil) (T.apart (nE T)) (U.apart (nE U))) G ?_)
 rintro e bD ⟨bA,bw,bs,rfl,aJ,bU,bN,s⟩
 refine ⟨_,G,?_⟩
 have bX:=s.size
 refine Q (aS G)<|Qn (Ws (Ws (Wr (Q (mP G)<|Qc ent59 (c___spec_l1Cur__pick bD L bw bs aJ (ag.kn s) oB oB 5 oD) G ?_))))
 rintro e ch ⟨bB,bz,bt,rfl,aK,bV,bO,x⟩
 refine ⟨_,G,?_⟩
 have bY:=x.size
 refine Q (aI G)<|Qn (Wl (WL (σ:=Int × (List UInt8) × Int × Int) (fun g=>[(2,pt g1),(3,str ([]:List UInt8)),(4,pt g9),(5,pt y),(6,str g.2.1),(7,i6 g.1)]) (fun g w'=>(Lo w w')∧(Blk w' g1 37 zCn)∧(Blk w' g9 91 [.slice AL nL cL,i6 g.2.2.1,.int .u64 g.2.2.2])∧(SlR w' BL encB 1 AL nL cL L)∧(Blk w' y 37 (cCn f p i h q j b))∧(SlO w' E.heap.size encLMap 3 102 f p i b.Library.Maps)∧(SlO w' E.heap.size encAway 2 129 h q j b.Library.Away)∧((0≤g.1∧g.1≤4∧0≤g.2.2.1∧g.2.2.1≤1300+24*(4-g.1))∧(g.2.1.length:Int)≤100+101*(4-g.1))) (fun g=>g.1.toNat) (bB,bA,bz,bt) ?_ ?_ ?_))
 ·exact (At.r G)
 ·exact ⟨((((((((lr w).lo aM).lo ab).new S).lo A).new B).new s).new x),(((((a6.lo ab).kn S).lo A).kn B).kn s).kn x,aK,(ag.kn s).kn x,(aj.kn s).kn x,(T.kn s).kn x,(U.kn s).kn x,(by (try dsimp only); exact ⟨oB,oB⟩)⟩
 ·rintro ⟨n,v,t,z⟩ aY F aE
  obtain ⟨Z,V,ah,X,H,C,D,al⟩:(Lo w F)∧(Blk F g1 37 zCn)∧(Blk F g9 91 [.slice AL nL cL,i6 t,.int .u64 z])∧(SlR F BL encB 1 AL nL cL L)∧(Blk F y 37 (cCn f p i h q j b))∧(SlO F E.heap.size encLMap 3 102 f p i b.Library.Maps)∧(SlO F E.heap.size encAway 2 129 h q j b.Library.Away)∧((0≤n∧n≤4∧0≤t∧t≤1300+24*(4-n))∧(v.length:Int)≤100+101*(4-n)):=aE
  refine (?_:W _ _ _ _ _ (act _ (sets aY [(2,pt g1),(3,str ([]:List UInt8)),(4,pt g9),(5,pt y),(6,str v),(7,i6 n)])) _)
  have bp:=Z.size
  have bK:=V.lt
  have bL:=ah.lt
  have bM:=H.lt
  have bP:0≤n∧n≤4∧0≤t∧t≤1300+24*(4-n):=al.1
  have ba:(v.length:Int)≤100+101*(4-n):=al.2
  refine Ws (Ws (Wr (Q (mI G)<|Q (r_gt G G)<|Qn (Wd G (fun aA=>?_) (fun aA=>?_)))))
  ·refine Wk (Ws (Wl (Wr (Q (mS G)<|Q (r_cat G G oA)<|Q (mP G)<|Q (lG agg37 G H G)<|Qc ent60 (c___spec_l1Cur__command F L t z ah X oB oB b (C.rd) (D.rd) oB (by first | assumption | exact MapB.of (And.left (And.left ‹LibOK _›)) | exact MapB.app (MapB.of (And.left (And.left ‹LibOK _›))) oF | exact MapB.nil) (by first | assumption | exact AwayB.of ‹LibOK _› | exact AwayB.app (AwayB.of ‹LibOK _›) oF | exact AwayB.nil) (C.apart (nE C)) (D.apart (nE D))) G ?_))))
   rintro e b6 ⟨aT,aQ,aN,rfl,au,bi,bb,d⟩
   refine ⟨_,G,?_⟩
   have bm:=d.size
   refine Q (r_cat G G oA)<|Q (aS G)<|Qn (Wr (Q (mI G)<|Q (r_sub G G oB)<|Q (aI G)<|Qn (⟨(n-1,(v++([10]:List UInt8))++aT,aQ,aN),_,G,(At.r G),⟨(Z.new d),V.kn d,au,X.kn d,H.kn d,C.kn d,D.kn d,?_⟩,?_⟩)))
   ·exact (by (try dsimp only); exact ⟨oB,by (try dsimp only); simp only [List.length_append,List.length_cons,List.length_nil]; omega⟩)
   ·exact oH
  ·refine Wx (xh (Ws (Ws (Wr (Q (mP G)<|Qc ent61 (c___spec_l1Cur__one F L t z ah X oB oB 20 oD) G ?_)))))
   rintro e aV ⟨b5,aR,aO,rfl,aw,bj,a⟩
   refine ⟨_,G,?_⟩
   have bn:=a.size
   have Y:=Z.new a
   refine Qn (Wb G (fun aC=>?_) (fun aC=>?_))
   ·refine Ws (Wr (Q (r_as (v:=str ([]:List UInt8)) G)<|Qn (Ws (Wr (Q (mP G)<|Qc ent59 (c___spec_l1Cur__pick aV L aR aO aw (X.kn a) oB oB 2 oD) G ?_)))))
    rintro e b7 ⟨aU,b4,bZ,rfl,aZ,bl,bc,k⟩
    refine ⟨_,G,?_⟩
    have bo:=k.size
    refine Q (r_add G G oB)<|Q (aI G)<|Qn (Wl (WL (σ:=Int × (List UInt8)) (fun g=>[(2,pt g1),(3,str ([]:List UInt8)),(5,pt y),(6,str g.2),(8,i6 g.1)]) (fun g w'=>(Lo w w')∧(Blk w' g1 37 zCn)∧(Blk w' y 37 (cCn f p i h q j b))∧(SlO w' E.heap.size encLMap 3 102 f p i b.Library.Maps)∧(SlO w' E.heap.size encAway 2 129 h q j b.Library.Away)∧((0≤g.1∧g.1≤30)∧(g.2.length:Int)≤30-g.1)) (fun g=>g.1.toNat) (29+aU,([]:List UInt8)) ?_ ?_ ?_))
    ·exact (At.r G)
    ·exact ⟨(Y.new k),(V.kn a).kn k,(H.kn a).kn k,(C.kn a).kn k,(D.kn a).kn k,(by (try dsimp only); exact ⟨oB,by simp; omega⟩)⟩
    ·rintro ⟨m,u⟩ az I ar
     obtain ⟨J,N,O,ac,ae,aa⟩:(Lo w I)∧(Blk I g1 37 zCn)∧(Blk I y 37 (cCn f p i h q j b))∧(SlO I E.heap.size encLMap 3 102 f p i b.Library.Maps)∧(SlO I E.heap.size encAway 2 129 h q j b.Library.Away)∧((0≤m∧m≤30)∧(u.length:Int)≤30-m):=ar
     refine (?_:W _ _ _ _ _ (act _ (sets az [(2,pt g1),(3,str ([]:List UInt8)),(5,pt y),(6,str u),(8,i6 m)])) _)
     have aX:=J.size
     have a7:=N.lt
     have a8:=O.lt
     have be:0≤m∧m≤30:=aa.1
     have bf:(u.length:Int)≤30-m:=aa.2
     refine Ws (Ws (Wr (Q (mI G)<|Q (r_gt G G)<|Qn (Wd G (fun aD=>?_) (fun aD=>?_)))))
     ·refine Wk (Ws (Wl (Wr (Q (mS G)<|Q (r_cat G G oA)<|Q (aS G)<|Qn (Wr (Q (mI G)<|Q (r_sub G G oB)<|Q (aI G)<|Qn (⟨(m-1,u++([10]:List UInt8)),_,G,(At.r G),⟨J,N,O,ac,ae,?_⟩,?_⟩)))))))
      ·exact (by (try dsimp only); exact ⟨oB,by (try dsimp only); simp only [List.length_append,List.length_cons,List.length_nil]; omega⟩)
      ·exact oH
     ·refine Wx (xh (Ws (Wr (Q (lG agg37 G O G)<|Q (mS G)<|Qw (o:=0) (vs:=(cCn f p i h q j b)) agg37.2 G G G G N ler G ?_))))
      intro b8 K bg ax
      refine Q (aS G)<|Qn (We (retCT G G agg37 ax G (v:=str _) G (⟨f,p,i,h,q,j,b,u,eR (eT2 G G),((ac.kn K).down),((ae.kn K).down),ak,an,ao,ap,aq,oF,(J.new K)⟩)))
   ·refine Wk (Ws (Wr (Q (lG agg37 G (H.kn a) G)<|Q (mS G)<|Qw (o:=0) (vs:=(cCn f p i h q j b)) agg37.2 G G G G (V.kn a) ler G ?_)))
    intro b9 M bh ay
    refine Q (aS G)<|Qn (We (retCT G G agg37 ay G (v:=str _) G (⟨f,p,i,h,q,j,b,v,eR (eT2 G G),(((C.kn a).kn M).down),(((D.kn a).kn M).down),ak,an,ao,ap,aq,oF,(Y.new M)⟩)))
end Go.Proofs.YtndcchndcghmoaaGreatDoor
namespace Go.Proofs.YtndcchndcghmoaaGreatDoor
open Go Go.RowKit Fw
set_option maxRecDepth 10000
set_option maxHeartbeats 2000000
set_option linter.unusedVariables false
variable {AL : Option Addr} {nL cL BL : Nat}
theorem ent16:Ent Tryz.prog 16:=en Tryz.func16
theorem ent17:Ent Tryz.prog 17:=en Tryz.func17
theorem ent21:Ent Tryz.prog 21:=en Tryz.func21
theorem ent25:Ent Tryz.prog 25:=en Tryz.func25
theorem ent29:Ent Tryz.prog 29:=en Tryz.func29
theorem ent38:Ent Tryz.prog 38:=en Tryz.func38
theorem ent39:Ent Tryz.prog 39:=en Tryz.func39
theorem und4:Tryz.prog.underlying 4=some (.bool):=by kernel_rfl
theorem c_laws_FnScript (w:World)  (L:List UInt8) (hL:SlR w BL encB 1 AL nL cL L) (hE:EnvW w):Calls Tryz.prog 8 #[.slice AL nL cL] w fun e w'=>e=.returned (.bool true)∧Lo w w':=by
 refine cW 123 Tryz.func8 G G G ?_
 have hbdL:=hL.bound
 have hleL:=hL.len
 have hBbL:=hL.bd
 refine Ws (Wr (Q (aB G)<|Qn (Ws (Ws (Wr (Q (mL G)<|Qv ent21 (c_laws_vBig w L hL) G fun w1 bj cN=>?_))))))
 have bg:=(lr w).lo bj
 refine Qn (Wd G (fun h5=>?_) (fun h5=>?_))
 ·refine Ws (Wr (Q (aB G)<|Qn (We (ret1 G (v:=.bool _) G (⟨eR G,bg⟩)))))
 ·refine Wk (Ws (Wr (Q (mL G)<|Qc ent25 (c_spec_DrawRunScript w1 L (hL.lo bj) oB) G ?_)))
  rintro e w6 ⟨A8,n9,Z,X,az,aa,b,a,rfl,S,T,ca,co,cp,cq,cr,ct,bl⟩
  refine ⟨_,G,?_⟩
  have cz:=bl.size
  have cf:=S.len
  have cg:=S.rd.bound
  have ch:=T.len
  have ci:=T.rd.bound
  refine Q (mT G)<|Q (xG G G)<|Q (xS G G)<|Qa (l:=zCn) tz37 G ?_
  intro z cO cd ap cx bi
  refine Qw (o:=0) (vs:=(cCn A8 n9 Z X az aa b)) agg37.2 G G G G bi ler G ?_
  intro a8 aq cy al
  have aJ:=((bg.lo bl).lo ap).new aq
  refine Q (aS G)<|Qn (Ws ?_)
  have au:=(S.lo ap).kd aq (nE (g:=z) S)
  have aw:=(T.lo ap).kd aq (nE (g:=z) T)
  refine Wr (Q (lG agg37 G al G)<|Q (mS G)<|Qc ent17 (c_impl_RunScript a8 b (au.rd) (aw.rd) a oB oB (hE.lo aJ)) G ?_)
  rintro e ba ⟨C,H,I,rfl,aj,n⟩
  refine ⟨_,G,?_⟩
  have cA:=n.size
  have cj:=aj.len
  have ck:=aj.rd.bound
  have cu:=scr_len b a
  refine Q (mT G)<|Q (xL G G)<|Q (xB G G)<|Q (aL G)<|Q (aB G)<|Qn (Ws (Wr (Q (lG agg37 G (al.lo n) G)<|Q (mS G)<|Qc ent16 (c_spec_RunScript ba b ((au.lo n).rd) ((aw.lo n).rd) a oB oB) G ?_)))
  rintro e cP ⟨Y,aG,aA,rfl,ak,x⟩
  refine ⟨_,G,?_⟩
  have cB:=x.size
  have aK:=(aJ.lo n).lo x
  have cl:=ak.len
  have cm:=ak.rd.bound
  have cw:=scr_len b a
  refine Q (mT G)<|Q (xL G G)<|Q (xB G G)<|Q (aL G)<|Q (aB G)<|Qn (Ws (Ws (Wr (Q (mB G)<|Q (mB G)<|Q (r_neb_s und4 G G)<|Q (mB G)<|Qg (mL G)<|Qg (r_len und44 G)<|Qg (mL G)<|Qg (r_len und44 G)<|Qg (r_ne G G)<|Q (pF G G)<|Qn (Wz G (fun bw=>?_) (fun bw=>?_))))))
  ·refine Ws (Wr (Q (aB G)<|Qn (We (ret1 G (v:=.bool _) G (⟨eR (eB (by first | (exfalso; exact ‹¬gt _ _=gt _ _› G) | omega | exact decide_eq_true (scr_ret oI) | exact decide_eq_true (scr_fin oI oI))),aK⟩)))))
  ·refine Wk (Ws (Ws (Wr (Q (aI G)<|Qn (Wl (WL (σ:=Nat) (fun g=>[(3,pt z),(4,str a),(5,.slice C H I),(6,.bool ((scrN b a).2)),(7,.slice Y aG aA),(9,i6 (g:Int))]) (fun g w'=>(Lo w w')∧(Blk w' z 37 (cCn A8 n9 Z X az aa b))∧(SlO w' w1.heap.size encLMap 3 102 A8 n9 Z b.Library.Maps)∧(SlO w' w1.heap.size encAway 2 129 X az aa b.Library.Away)∧(SlO w' a8.heap.size encS 1 9 C H I ((scrN b a).1))∧(SlO w' ba.heap.size encS 1 9 Y aG aA ((scrN b a).1))∧(g≤30)) (fun g=>100-g) 0 ?_ ?_ ?_))))))
   ·exact ⟨G,G,G,G,G,(eI oF),trivial⟩
   ·exact ⟨aK,((al.lo n).lo x),((au.lo n).lo x),((aw.lo n).lo x),aj.lo x,ak,oB⟩
   ·rintro i bu P bh
    obtain ⟨ai,ax,aM,aN,F,U,ce⟩:(Lo w P)∧(Blk P z 37 (cCn A8 n9 Z X az aa b))∧(SlO P w1.heap.size encLMap 3 102 A8 n9 Z b.Library.Maps)∧(SlO P w1.heap.size encAway 2 129 X az aa b.Library.Away)∧(SlO P a8.heap.size encS 1 9 C H I ((scrN b a).1))∧(SlO P ba.heap.size encS 1 9 Y aG aA ((scrN b a).1))∧(i≤30):=bh
    refine (?_:W _ _ _ _ _ (act _ (sets bu [(3,pt z),(4,str a),(5,.slice C H I),(6,.bool ((scrN b a).2)),(7,.slice Y aG aA),(9,i6 (i:Int))])) _)
    have b4:=ai.size
    have cn:=ax.lt
    refine Ws (Ws (Wr (Q (mI G)<|Q (mL G)<|Q (r_len und44 G)<|Q (r_lt G G)<|Qn (Wd G (fun bz=>?_) (fun bz=>?_)))))
    ·refine Wk (Ws (Wl (Ws (W.regD mo oC (Rq (fun w' hw'=>mL G)<|Rq (fun w' hw'=>mI G)<|?_)))))
     have aO:=(F.rd).elem (i:=i) oB
     refine Rq (fun w' hw'=>rX tsl44 ((F.lo hw').rd) G G oB)<|Rq (fun w' hw'=>r_ld (v:=str (gt ((scrN b a).1) i)) sca9 G (((F.lo hw').rd).cell0 aO G))<|Rq (fun w' hw'=>mL G)<|Rq (fun w' hw'=>mI G)<|Rq (fun w' hw'=>rX tsl44 ((U.lo hw').rd) G G oB)<|Rq (fun w' hw'=>r_ld (v:=str (gt ((scrN b a).1) i)) sca9 G (((U.lo hw').rd).cell0 aO G))<|Rq (fun w' hw'=>r_nes_s (s:=(gt ((scrN b a).1) i)) G G)<|QR.nil ?_
     intro cQ q
     have cC:=q.size
     refine W.cond_f G (Wk (Wr (Q (mI G)<|Q (r_add G G oB)<|Q (aI G)<|Qn (⟨i+1,_,G,⟨G,G,G,G,G,(eI oF),trivial⟩,⟨(ai.lo q),ax.lo q,aM.lo q,aN.lo q,F.lo q,U.lo q,?_⟩,?_⟩))))
     ·exact oB
     ·exact oB
    ·refine Wx (xh (Ws (Wr (Q (mS G)<|Qc ent29 (c_spec_SplitString P a ([10]:List UInt8) oB oU) G ?_))))
     rintro e b5 ⟨aQ,aH,bf,rfl,u,t⟩
     refine ⟨_,G,?_⟩
     have cD:=t.size
     have bF:=u.len
     have bG:=u.rd.bound
     have bJ:=splitB_len (10:UInt8) a
     refine Q (mT G)<|Q (xL G G)<|Q (xB G G)<|Q (aL G)<|Q (aB G)<|Qn (Ws (Ws (WJ (fun f' w'=>At f' [(3,pt z),(5,.slice C H I),(6,.bool ((scrN b a).2)),(10,.slice aQ aH bf),(73,.bool (decide (((!((scrN b a).2))=true)∨((aH:Int)<2))))]∧Lo b5 w') ?_ ?_)))
     ·refine Q (mB G)<|Q (rN G)<|Q (mB G)<|SR.split (fun D=>?_) (fun D=>?_)
      ·have bK:=bnot_t D
       refine Qs<|Qs<|Qs<|Q (pT G G)<|Qn (⟨_,G,⟨⟨G,G,G,G,(eDT ((jot D).1 trivial)),trivial⟩,(lr _)⟩⟩)
      ·have bL:=bnot_f D
       refine Qg (mL G)<|Qg (r_len und44 G)<|Qg (r_lt G G)<|Q (pF G G)<|Qn (⟨_,G,⟨⟨G,G,G,G,(eDD (jof (ne_true_of_eq_false D))),trivial⟩,(lr _)⟩⟩)
     rintro b6 V ⟨aC,d⟩
     rw [← sA aC]
     have bS:=d.size
     have J:=(ai.lo t).lo d
     refine Wd G (fun ac=>?_) (fun ac=>?_)
     ·refine Ws (WJ (fun f' w'=>At f' [(2,.bool (decide ((((scrN b a).2)=true)∨((H:Int)=0)))),(3,pt z),(5,.slice C H I),(10,.slice aQ aH bf)]∧Lo V w') ?_ ?_)
      ·refine Q (mB G)<|Q (mB G)<|SR.split (fun ae=>?_) (fun ae=>?_)
       ·refine Qs<|Qs<|Qs<|Q (pT G G)<|Q (aB G)<|Qn (⟨_,G,⟨⟨(eDT ((jot ae).1 trivial)),G,G,G,trivial⟩,(lr _)⟩⟩)
       ·refine Qg (mL G)<|Qg (r_len und44 G)<|Qg (r_eq G G)<|Q (pF G G)<|Q (aB G)<|Qn (⟨_,G,⟨⟨(eDD (jof (ne_true_of_eq_false ae))),G,G,G,trivial⟩,(lr _)⟩⟩)
      rintro b7 cE ⟨aD,am⟩
      rw [← sA aD]
      have bT:=am.size
      refine We (ret1 G (v:=.bool _) G (⟨eR (eB (by first | (exfalso; exact ‹¬gt _ _=gt _ _› G) | omega | exact decide_eq_true (scr_ret oI) | exact decide_eq_true (scr_fin oI oI))),(J.lo am)⟩))
     ·have aZ:¬((!((scrN b a).2))=true):=(not_or.1 ac).1
      have bM:¬((aH:Int)<2):=(not_or.1 ac).2
      have bN:=scr_lenY aZ
      refine Wk (Ws ?_)
      have K:=(ax.lo t).lo d
      have A:=(aM.lo t).lo d
      have B:=(aN.lo t).lo d
      have ar:=(F.lo t).lo d
      refine WA (Lo V) (fun f' w'=>∃ (m:Option Addr) (y:Nat) (ab:Nat),At f' [(3,pt z),(5,.slice C H I),(12,.slice m y ab),(13,.bool ((scrN b (gt (splitB (10:UInt8) a) 0)).2))]∧(Lo V w')∧(SlO w' V.heap.size encS 1 9 m y ab ((scrN b (gt (splitB (10:UInt8) a) 0)).1))∧Dj m A8∧Dj m X∧Dj m C∧Dj m Y∧Dj m aQ∧((splitB (10:UInt8) a)[0]?=some (gt (splitB (10:UInt8) a) 0))∧((gt (splitB (10:UInt8) a) 0).length≤a.length)∧((gt (splitB (10:UInt8) a) 0).length≤a.length)∧(y=((scrN b (gt (splitB (10:UInt8) a) 0)).1).length)∧((y:Int)≤9223372036854775807)) mo ?_ ?_
      ·intro bp c
       have bU:=c.size
       refine Ak 0 G c (fun w' hw'=>lG agg37 G (K.lo hw') G)<|Ak 1 G c (fun w' hw'=>mL G)<|?_
       have O:=(((u.lo d).lo c).rd).elem (i:=0) oB
       have bQ:=splitB_gt (10:UInt8) a
       have ay:=splitB_el O
       refine Ak 2 G c (fun w' hw'=>rX tsl44 (((u.lo d).lo hw').rd) G G oB)<|Ak 3 G c (fun w' hw'=>r_ld (v:=str (gt (splitB (10:UInt8) a) 0)) sca9 G ((((u.lo d).lo hw').rd).cell0 O G))<|Ab 4 G (Qc ent17 (c_impl_RunScript bp b ((A.lo c).rd) ((B.lo c).rd) (gt (splitB (10:UInt8) a) 0) oB oB (hE.lo (J.lo c))) G ?_)
       rintro e cF ⟨bc,bm,be,rfl,h,an⟩
       refine ⟨_,G,?_⟩
       have bV:=an.size
       have j:=c.lo an
       have aW:=h.len
       have aX:=h.rd.bound
       refine Qn ⟨j,_,G,(Ak 5 G j (fun w' hw'=>mT G)<|Ak 6 G j (fun w' hw'=>xL G G)<|Ak 7 G j (fun w' hw'=>xB G G)<|Ak 8 G j (fun w' hw'=>aL G)<|Ak 9 G j (fun w' hw'=>aB G)<|Ad oC (⟨bc,bm,be,(At.r G),j,(h.down),(dj h (A.lo c)),(dj h (B.lo c)),(dj h (ar.lo c)),(dj h (((U.lo t).lo d).lo c)),(dj h ((u.lo d).lo c)),O,ay,ay,aW,aX⟩))⟩
      rintro b8 bq ⟨m,y,ab,aE,f,aY,bA,bB,bC,bD,bE,bR,bO,bP,bH,bI⟩
      rw [← sA aE]
      have bW:=f.size
      have ah:=J.lo f
      refine Ws (Wr (Q (lG agg37 G (K.lo f) G)<|Qv ent38 (c_impl_FormatConsole bq b ((A.lo f).rd) ((B.lo f).rd) oB (hE.lo ah)) G fun bs k bX=>(Q (mT G)<|Q (xS G G)<|Q (xB G G)<|Q (aS G)<|Q (aB G)<|Qn (Ws ?_))))
      have M:=(ar.lo f).lo k
      refine Wr (Q (lG agg37 G ((K.lo f).lo k) G)<|Qv ent39 (c_spec_FormatConsole bs b (((A.lo f).lo k).rd) (((B.lo f).lo k).rd) oB) G fun bt p bY=>(Q (mT G)<|Q (xS G G)<|Q (xB G G)<|Q (aS G)<|Q (aB G)<|Qn (Ws ?_)))
      have N:=(aY.lo k).lo p
      refine W.regJD mo oC (fun f' w'=>At f' [(2,.bool (decide ((((scrN b (gt (splitB (10:UInt8) a) 0)).2)=true)∧(((y:Int)=1)∧((gt ((scrN b (gt (splitB (10:UInt8) a) 0)).1) 0)=(gt ((scrN b a).1) 0))))))]∧Lo bt w') ?_ ?_
      ·refine Rq (fun w' hw'=>mB G)<|Rq (fun w' hw'=>mB G)<|QR.split (fun E=>?_) (fun E=>?_)
       ·refine Rg G (fun w' hw'=>mL G)<|Rg G (fun w' hw'=>r_len und44 G)<|Rg G (fun w' hw'=>r_eq G G)<|Rq (fun w' hw'=>pT G G)<|Rq (fun w' hw'=>mB G)<|QR.splitD (fun R=>?_) (fun R=>?_)
        ·refine Rg G (fun w' hw'=>mL G)<|?_
         have a6:=(N.rd).elem (i:=0) oB
         refine Rg G (fun w' hw'=>rX tsl44 ((N.lo hw').rd) G G oB)<|Rg G (fun w' hw'=>r_ld (v:=str (gt ((scrN b (gt (splitB (10:UInt8) a) 0)).1) 0)) sca9 G (((N.lo hw').rd).cell0 a6 G))<|Rg G (fun w' hw'=>mL G)<|?_
         have a7:=((M.lo p).rd).elem (i:=0) oB
         refine Rg G (fun w' hw'=>rX tsl44 (((M.lo p).lo hw').rd) G G oB)<|Rg G (fun w' hw'=>r_ld (v:=str (gt ((scrN b a).1) 0)) sca9 G ((((M.lo p).lo hw').rd).cell0 a7 G))<|Rg G (fun w' hw'=>r_eqs (s:=(gt ((scrN b (gt (splitB (10:UInt8) a) 0)).1) 0)) (r:=(gt ((scrN b a).1) 0)) G G)<|Rq (fun w' hw'=>pT G G)<|Rq (fun w' hw'=>mB G)<|QR.splitD (fun ag=>?_) (fun ag=>?_)
         ·refine Rg G (fun w' hw'=>mS G)<|Rg G (fun w' hw'=>mS G)<|Rg G (fun w' hw'=>r_eqs_s (s:=(formC b).1) G G)<|Rq (fun w' hw'=>pT G G)<|Rq (fun w' hw'=>mB G)<|Rg G (fun w' hw'=>mB G)<|Rg G (fun w' hw'=>mB G)<|Rg G (fun w' hw'=>r_eqb_s und4 G G)<|Rq (fun w' hw'=>pT G G)<|Rq (fun w' hw'=>aB G)<|QR.nil ?_
          intro cG aR
          exact ⟨⟨(eDT ((((j1t ag).trans (jat R)).trans (jat E)).1 trivial)),trivial⟩,aR⟩
         ·refine Rs G<|Rs G<|Rs G<|Rq (fun w' hw'=>pF G G)<|Rq (fun w' hw'=>mB G)<|Rs G<|Rs G<|Rs G<|Rq (fun w' hw'=>pF G G)<|Rq (fun w' hw'=>aB G)<|QR.nil ?_
          intro cH aT
          exact ⟨⟨(eDF (((j1f ag).trans (jat R)).trans (jat E)).2),trivial⟩,aT⟩
        ·refine Rs G<|Rs G<|Rs G<|Rs G<|Rs G<|Rs G<|Rs G<|Rq (fun w' hw'=>pF G G)<|Rq (fun w' hw'=>mB G)<|Rs G<|Rs G<|Rs G<|Rq (fun w' hw'=>pF G G)<|Rq (fun w' hw'=>mB G)<|Rs G<|Rs G<|Rs G<|Rq (fun w' hw'=>pF G G)<|Rq (fun w' hw'=>aB G)<|QR.nil ?_
         intro cI aU
         exact ⟨⟨(eDF ((jaf R).trans (jat E)).2),trivial⟩,aU⟩
       ·refine Rs G<|Rs G<|Rs G<|Rq (fun w' hw'=>pF G G)<|Rq (fun w' hw'=>mB G)<|Rs G<|Rs G<|Rs G<|Rs G<|Rs G<|Rs G<|Rs G<|Rq (fun w' hw'=>pF G G)<|Rq (fun w' hw'=>mB G)<|Rs G<|Rs G<|Rs G<|Rq (fun w' hw'=>pF G G)<|Rq (fun w' hw'=>mB G)<|Rs G<|Rs G<|Rs G<|Rq (fun w' hw'=>pF G G)<|Rq (fun w' hw'=>aB G)<|QR.nil ?_
        intro cJ aV
        exact ⟨⟨(eDF (jaf (ne_true_of_eq_false E)).2),trivial⟩,aV⟩
      rintro b9 cK ⟨aF,ao⟩
      rw [← sA aF]
      have bZ:=ao.size
      refine We (ret1 G (v:=.bool _) G (⟨eR (eB (by first | (exfalso; exact ‹¬gt _ _=gt _ _› G) | omega | exact decide_eq_true (scr_ret oI) | exact decide_eq_true (scr_fin oI oI))),(((ah.lo k).lo p).lo ao)⟩))
end Go.Proofs.YtndcchndcghmoaaGreatDoor
