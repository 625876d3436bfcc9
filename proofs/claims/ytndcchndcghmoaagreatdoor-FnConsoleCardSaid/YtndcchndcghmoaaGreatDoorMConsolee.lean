/- Words and walks of this claim. -/
import Derived.Test.YtndcchndcghmoaaGreatDoorChecked
import Derived.Test.YtndcchndcghmoaaGreatDoorMConsoled
set_option linter.unusedVariables false
namespace Go.Proofs.YtndcchndcghmoaaGreatDoor
open Go Go.RowKit Fw
set_option maxRecDepth 10000
set_option maxHeartbeats 2000000
set_option linter.unusedVariables false
variable {Ac Ax1 Ax2 : Option Addr} {nc cc Bc nx1 cx1 Bx1 nx2 cx2 Bx2 : Nat}
theorem bld102_0_2 (a0:Int) (a2:Int):Tryz.prog.built 102 [(0,i6 a0),(2,i6 a2)]=some (List.toArray [i6 a0,i6 0,i6 a2]):=by kernel_rfl
theorem ent109:Ent Tryz.prog 109:=en Tryz.func109
theorem ent58:Ent Tryz.prog 58:=en Tryz.func58
theorem ent61:Ent Tryz.prog 61:=en Tryz.func61
theorem c___spec_l1Cur__libraryStep (w:World) {gc ec:Nat} (Lc:List UInt8) (tc sc:Int) (hc:Blk w gc ec [.slice Ac nc cc,i6 tc,.int .u64 sc]) (hLc:SlR w Bc encB 1 Ac nc cc Lc) (hgc:Bc≤gc) (htc:0≤tc∧tc+20≤4611686018427387904) (x:Library) (pB:SlR w Bx1 encLMap 3 Ax1 nx1 cx1 x.Maps) (pC:SlR w Bx2 encAway 2 Ax2 nx2 cx2 x.Away) (AS:nx1≤9∧nx2≤9) (xO:MapB x.Maps) (xP:AwayB x.Away) (ky:0<nx1→¬(adr Ax1).block=gc) (kz:0<nx2→¬(adr Ax2).block=gc):Calls Tryz.prog 108 #[.pointer (some ⟨gc,0,none⟩),.agg (List.toArray (cLb Ax1 nx1 cx1 Ax2 nx2 cx2 x))] w fun e w'=>∃ (s:LibraryStep) (tc' sc':Int),e=.returned (.agg (List.toArray [i6 s.Kind,i6 s.Id,i6 s.Reader,i6 s.Value]))∧Blk w' gc ec [.slice Ac nc cc,i6 tc',.int .u64 sc']∧(tc≤tc'∧tc'≤tc+20)∧((-10000000≤s.Id∧s.Id≤10000000)∧(-10000000≤s.Reader∧s.Reader≤10000000)∧(-10000000≤s.Value∧s.Value≤10000000))∧Kp (fun b_=>b_=gc) w w':=by
 refine cW 146 Tryz.func108 G G G ?_
 have hBlc:=hc.lt
 have hbdc:=hLc.bound
 have hlec:=hLc.len
 have hBbc:=hLc.bd
 have xm:=pB.bound
 have xK:=pB.len
 have xj:=pB.bd
 have xn:=pC.bound
 have xM:=pC.len
 have xk:=pC.bd
 refine Ws (Wr (bx G ?_))
 intro g1 w2 AR lQ AT xl
 refine Qa (l:=[i6 0,i6 0,i6 0,i6 0]) tz106 G ?_
 intro u AU Ap dW Ay sb
 refine Qn (Ws ?_)
 have pJ:=(hLc.lo lQ).lo dW
 refine Wr (Q (mP G)<|Ql (vs:=[i6 1,i6 7]) (L:=([1,7]:List Int)) (enc:=encI) tel93 (fun _=>G) G G G oG ?_)
 intro xg zI Aq b6 pG
 have AE:=b6.size
 refine Qc ent58 (c___spec_l1Cur__among zI Lc tc sc (((hc.lo lQ).lo dW).lo b6) (pJ.lo b6) oB oB ([1,7]:List Int) (pG.rd) oB oB (show ¬xg=gc from by first | omega | (have:=pG.base_le G; omega))) G ?_
 rintro e AW ⟨mu,pD,sj,rfl,sd,AD,sg,dA⟩
 refine ⟨_,G,?_⟩
 have AF:=dA.size
 have Ax:(1:Int)≤mu∧mu≤7:=mem_rngB (lo:=1) (hi:=7) oG sg
 refine Q (r_build (vs:=[(0,i6 mu),(2,i6 1)]) G (bld102_0_2 _ _))<|Q (r_build (vs:=[(0,i6 1),(1,i6 5)]) G (bld129_0_1 _ _))<|Qa (l:=[i6 0,i6 0,i6 0]) tz102 G ?_
 intro n AX Au dB Az se
 refine Qa (l:=[i6 0,i6 0]) tz129 G ?_
 intro F AY Aw cy AA sf
 refine Qw (o:=0) (vs:=[i6 mu,i6 0,i6 1]) agg102.2 G G G G (se.lo cy) ler G ?_
 intro AZ cz AB pH
 refine Qw (o:=0) (vs:=[i6 1,i6 5]) agg129.2 G G G G (sf.kn cz) ler G ?_
 intro r8 ce AC pI
 have pE:=((((((((kr lQ:Kp (fun b_=>b_=gc) w _)).lo dW).lo b6).step dA (fun i_ hi_ e'=>e')).lo dB).lo cy).new cz).new ce
 refine Qn (Ws (Ws ?_))
 have pK:=(((sd.lo dB).lo cy).kn cz).kn ce
 have l1:=(((((pJ.lo b6).kn dA).lo dB).lo cy).kn cz).kn ce
 have fv:=((((((xl.lo dW).lo b6).kn dA).lo dB).lo cy).kn cz).kn ce
 have bi:=(((((((pB.lo lQ).lo dW).lo b6).kpb dA (fun hn_ e'=>(ky oB) e')).lo dB).lo cy).kn cz).kn ce
 have l4:=(((((((pC.lo lQ).lo dW).lo b6).kpb dA (fun hn_ e'=>(kz oB) e')).lo dB).lo cy).kn cz).kn ce
 have pL:=(((((sb.lo b6).kn dA).lo dB).lo cy).kn cz).kn ce
 refine Wr (Q (fA fa34_0 G)<|Q (lB sca31 G fv G)<|Q (r_len und31 G)<|Q (r_gt G G)<|Qn (W.thenJ (fun f' w'=>∃ g:LMap × Int × Int,At f' [(0,pt gc),(3,pt g1),(4,pt u),(5,pt n),(6,pt F)]∧(Kp (fun b_=>b_=gc) w w')∧(Blk w' gc ec [.slice Ac nc cc,i6 g.2.1,.int .u64 g.2.2])∧(SlR w' Bc encB 1 Ac nc cc Lc)∧(Blk w' g1 34 (cLb Ax1 nx1 cx1 Ax2 nx2 cx2 x))∧(SlR w' Bx1 encLMap 3 Ax1 nx1 cx1 x.Maps)∧(SlR w' Bx2 encAway 2 Ax2 nx2 cx2 x.Away)∧(Blk w' u 106 [i6 0,i6 0,i6 0,i6 0])∧(Blk w' n 102 [i6 g.1.Id,i6 g.1.Copies,i6 g.1.Torn])∧(Blk w' F 129 [i6 1,i6 5])∧(((-100000≤g.1.Id∧g.1.Id≤100000)∧(-100000≤g.1.Copies∧g.1.Copies≤100000)∧(-100000≤g.1.Torn∧g.1.Torn≤100000))∧tc≤g.2.1∧g.2.1≤tc+4)) ?_ ?_))
 ·refine Wd G (fun xi=>?_) (fun xi=>?_)
  ·refine WA (Kp (fun b_=>b_=gc∨b_=n) r8) (fun f' w'=>∃ (aj:Int) (fw:Int) (mn:Int),At f' [(0,pt gc),(3,pt g1),(4,pt u),(5,pt n),(6,pt F)]∧(Kp (fun b_=>b_=gc∨b_=n) r8 w')∧(Blk w' gc ec [.slice Ac nc cc,i6 fw,.int .u64 mn])∧(Blk w' n 102 [i6 ((gt x.Maps aj.toNat).Id),i6 ((gt x.Maps aj.toNat).Copies),i6 ((gt x.Maps aj.toNat).Torn)])∧(pD≤fw∧fw≤pD+2)∧((0:Int)≤aj∧((aj:Int)<(nx1:Int)∨(aj:Int)=0))∧(x.Maps[aj.toNat]?=some (gt x.Maps aj.toNat))∧((-100000≤(gt x.Maps aj.toNat).Id∧(gt x.Maps aj.toNat).Id≤100000)∧(-100000≤(gt x.Maps aj.toNat).Copies∧(gt x.Maps aj.toNat).Copies≤100000)∧(-100000≤(gt x.Maps aj.toNat).Torn∧(gt x.Maps aj.toNat).Torn≤100000))) mo ?_ ?_
   ·intro sm ah
    have ye:=ah.size
    refine Ak 0 G (kr ah) (fun w' hw'=>fA fa34_0 G)<|Ak 1 G (kr ah) (fun w' hw'=>lB sca31 G (fv.kp hw' (fun e'=>e'.elim (fun e'=>by have e'':g1=gc:=e'; omega) (fun e'=>by have e'':g1=n:=e'; omega))) G)<|Ak 2 G (kr ah) (fun w' hw'=>mP G)<|Ak 3 G (kr ah) (fun w' hw'=>fA fa34_0 G)<|Ak 4 G (kr ah) (fun w' hw'=>lB sca31 G (fv.kp hw' (fun e'=>e'.elim (fun e'=>by have e'':g1=gc:=e'; omega) (fun e'=>by have e'':g1=n:=e'; omega))) G)<|Ak 5 G (kr ah) (fun w' hw'=>r_len und31 G)<|Ab 6 G (Qc ent59 (c___spec_l1Cur__pick sm Lc pD sj (pK.lo ah) (l1.lo ah) oB oB (nx1:Int) oD) G ?_)
    rintro e AI ⟨dY,sk,sh,rfl,p8,qS,qO,eE⟩
    refine ⟨_,G,?_⟩
    have yf:=eE.size
    have ek:=((kr ah:Kp (fun b_=>b_=gc∨b_=n) r8 _)).step eE (fun _ _ e=>.inl e)
    refine Qn ⟨ek,_,G,?_⟩
    have gy:=((bi.lo ah).kpb eE (fun hn_ e'=>(ky oB) e')).elem (i:=dY.toNat) oB
    have qP:=MapB.at xO gy
    refine Ak 7 G ek (fun w' hw'=>rX tsl31 (bi.kpb hw' (fun hn_ e'=>e'.elim (fun e'=>(ky oB) e') (fun e'=>by have e'':(adr Ax1).block=n:=e'; have h2:=bi.blk hn_; omega))) G G oB)<|Ak 8 G ek (fun w' hw'=>r_lda (l:=encLMap (gt x.Maps dY.toNat)) agg102 G (fun _ _ hu=>(bi.kpb hw' (fun hn_ e'=>e'.elim (fun e'=>(ky oB) e') (fun e'=>by have e'':(adr Ax1).block=n:=e'; have h2:=bi.blk hn_; omega))).cell gy hu) ((bi.kpb hw' (fun hn_ e'=>e'.elim (fun e'=>(ky oB) e') (fun e'=>by have e'':(adr Ax1).block=n:=e'; have h2:=bi.blk hn_; omega))).esz _))<|Ab 9 G (Qw (o:=0) (vs:=[i6 ((gt x.Maps dY.toNat).Id),i6 ((gt x.Maps dY.toNat).Copies),i6 ((gt x.Maps dY.toNat).Torn)]) agg102.2 G G G G (((pH.kn ce).lo ah).kn eE) ler G ?_)
    intro AJ lO xX p9
    have k3:=ek.step lO (fun _ _ e=>.inr e)
    refine Qn ⟨k3,_,G,(Ad oC (⟨dY,sk,sh,(At.r G),k3,(p8.kn lO),p9,qS,qO,gy,qP⟩))⟩
   rintro Al AK ⟨aj,fw,mn,nn,aJ,qp,qq,xZ,xQ,yc,xR⟩
   rw [← sA nn]
   have yg:=aJ.size
   exact ⟨_,G,((gt x.Maps aj.toNat),fw,mn),(At.r G),(pE.step aJ (fun i_ hi_ e'=>e'.elim (fun e'=>e') (fun e'=>by have e'':i_=n:=e'; omega))),qp,l1.kp aJ (fun b_ hb e'=>e'.elim (fun e'=>by have e'':b_=gc:=e'; omega) (fun e'=>by have e'':b_=n:=e'; omega)),fv.kp aJ (fun e'=>e'.elim (fun e'=>by have e'':g1=gc:=e'; omega) (fun e'=>by have e'':g1=n:=e'; omega)),bi.kpb aJ (fun hn_ e'=>e'.elim (fun e'=>(ky oB) e') (fun e'=>by have e'':(adr Ax1).block=n:=e'; have h2:=bi.blk hn_; omega)),l4.kpb aJ (fun hn_ e'=>e'.elim (fun e'=>(kz oB) e') (fun e'=>by have e'':(adr Ax2).block=n:=e'; have h2:=l4.blk hn_; omega)),pL.kp aJ (fun e'=>e'.elim (fun e'=>by have e'':u=gc:=e'; omega) (fun e'=>by have e'':u=n:=e'; omega)),qq,pI.kp aJ (fun e'=>e'.elim (fun e'=>by have e'':F=gc:=e'; omega) (fun e'=>by have e'':F=n:=e'; omega)),oF⟩
  ·refine Wk (⟨_,G,((⟨mu,0,1⟩:LMap),pD,sj),(At.r G),pE,pK,l1,fv,bi,l4,pL,(pH.kn ce),pI,oF⟩)
 rintro Am aG ⟨⟨m,t,z⟩,np,p6⟩
 rw [← sA np]
 obtain ⟨fZ,f0,f4,eQ,xN,bm,f5,f6,f8,xw⟩:(Kp (fun b_=>b_=gc) w aG)∧(Blk aG gc ec [.slice Ac nc cc,i6 t,.int .u64 z])∧(SlR aG Bc encB 1 Ac nc cc Lc)∧(Blk aG g1 34 (cLb Ax1 nx1 cx1 Ax2 nx2 cx2 x))∧(SlR aG Bx1 encLMap 3 Ax1 nx1 cx1 x.Maps)∧(SlR aG Bx2 encAway 2 Ax2 nx2 cx2 x.Away)∧(Blk aG u 106 [i6 0,i6 0,i6 0,i6 0])∧(Blk aG n 102 [i6 m.Id,i6 m.Copies,i6 m.Torn])∧(Blk aG F 129 [i6 1,i6 5])∧(((-100000≤m.Id∧m.Id≤100000)∧(-100000≤m.Copies∧m.Copies≤100000)∧(-100000≤m.Torn∧m.Torn≤100000))∧tc≤t∧t≤tc+4):=p6
 have wz:=fZ.size
 have xy:=f0.lt
 have xz:=eQ.lt
 have xA:=f5.lt
 have xC:=f6.lt
 have xD:=f8.lt
 refine Ws (Ws (Wr (Q (fA fa34_1 G)<|Q (lB sca32 G eQ G)<|Q (r_len und32 G)<|Q (r_gt G G)<|Qn (W.thenJ (fun f' w'=>∃ g:Away × Int × Int,At f' [(0,pt gc),(4,pt u),(5,pt n),(6,pt F)]∧(Kp (fun b_=>b_=gc) w w')∧(Blk w' gc ec [.slice Ac nc cc,i6 g.2.1,.int .u64 g.2.2])∧(SlR w' Bc encB 1 Ac nc cc Lc)∧(Blk w' u 106 [i6 0,i6 0,i6 0,i6 0])∧(Blk w' n 102 [i6 m.Id,i6 m.Copies,i6 m.Torn])∧(Blk w' F 129 [i6 g.1.Map,i6 g.1.Reader])∧(((-100000≤g.1.Map∧g.1.Map≤100000)∧(-100000≤g.1.Reader∧g.1.Reader≤100000))∧tc≤g.2.1∧g.2.1≤tc+6)) ?_ ?_))))
 ·refine Wd G (fun r9=>?_) (fun r9=>?_)
  ·refine WA (Kp (fun b_=>b_=gc∨b_=F) aG) (fun f' w'=>∃ (aw:Int) (fx:Int) (mq:Int),At f' [(0,pt gc),(4,pt u),(5,pt n),(6,pt F)]∧(Kp (fun b_=>b_=gc∨b_=F) aG w')∧(Blk w' gc ec [.slice Ac nc cc,i6 fx,.int .u64 mq])∧(Blk w' F 129 [i6 ((gt x.Away aw.toNat).Map),i6 ((gt x.Away aw.toNat).Reader)])∧(t≤fx∧fx≤t+2)∧((0:Int)≤aw∧((aw:Int)<(nx2:Int)∨(aw:Int)=0))∧(x.Away[aw.toNat]?=some (gt x.Away aw.toNat))∧((-100000≤(gt x.Away aw.toNat).Map∧(gt x.Away aw.toNat).Map≤100000)∧(-100000≤(gt x.Away aw.toNat).Reader∧(gt x.Away aw.toNat).Reader≤100000))) mo ?_ ?_
   ·intro sn ai
    have yh:=ai.size
    refine Ak 0 G (kr ai) (fun w' hw'=>fA fa34_1 G)<|Ak 1 G (kr ai) (fun w' hw'=>lB sca32 G (eQ.kp hw' (fun e'=>e'.elim (fun e'=>by have e'':g1=gc:=e'; omega) (fun e'=>by have e'':g1=F:=e'; omega))) G)<|Ak 2 G (kr ai) (fun w' hw'=>mP G)<|Ak 3 G (kr ai) (fun w' hw'=>fA fa34_1 G)<|Ak 4 G (kr ai) (fun w' hw'=>lB sca32 G (eQ.kp hw' (fun e'=>e'.elim (fun e'=>by have e'':g1=gc:=e'; omega) (fun e'=>by have e'':g1=F:=e'; omega))) G)<|Ak 5 G (kr ai) (fun w' hw'=>r_len und32 G)<|Ab 6 G (Qc ent59 (c___spec_l1Cur__pick sn Lc t z (f0.lo ai) (f4.lo ai) oB oB (nx2:Int) oD) G ?_)
    rintro e AN ⟨fz,sl,si,rfl,qa,qT,qQ,eK⟩
    refine ⟨_,G,?_⟩
    have yi:=eK.size
    have et:=((kr ai:Kp (fun b_=>b_=gc∨b_=F) aG _)).step eK (fun _ _ e=>.inl e)
    refine Qn ⟨et,_,G,?_⟩
    have gz:=((bm.lo ai).kpb eK (fun hn_ e'=>(kz oB) e')).elem (i:=fz.toNat) oB
    have qR:=AwayB.at xP gz
    refine Ak 7 G et (fun w' hw'=>rX tsl32 (bm.kpb hw' (fun hn_ e'=>e'.elim (fun e'=>(kz oB) e') (fun e'=>by have e'':(adr Ax2).block=F:=e'; have h2:=bm.blk hn_; omega))) G G oB)<|Ak 8 G et (fun w' hw'=>r_lda (l:=encAway (gt x.Away fz.toNat)) agg129 G (fun _ _ hu=>(bm.kpb hw' (fun hn_ e'=>e'.elim (fun e'=>(kz oB) e') (fun e'=>by have e'':(adr Ax2).block=F:=e'; have h2:=bm.blk hn_; omega))).cell gz hu) ((bm.kpb hw' (fun hn_ e'=>e'.elim (fun e'=>(kz oB) e') (fun e'=>by have e'':(adr Ax2).block=F:=e'; have h2:=bm.blk hn_; omega))).esz _))<|Ab 9 G (Qw (o:=0) (vs:=[i6 ((gt x.Away fz.toNat).Map),i6 ((gt x.Away fz.toNat).Reader)]) agg129.2 G G G G ((f8.lo ai).kn eK) ler G ?_)
    intro AO lP xY qb
    have k4:=et.step lP (fun _ _ e=>.inr e)
    refine Qn ⟨k4,_,G,(Ad oC (⟨fz,sl,si,(At.r G),k4,(qa.kn lP),qb,qT,qQ,gz,qR⟩))⟩
   rintro An AP ⟨aw,fx,mq,nq,dz,qr,qt,x9,xT,yd,xU⟩
   rw [← sA nq]
   have yj:=dz.size
   exact ⟨_,G,((gt x.Away aw.toNat),fx,mq),(At.r G),(fZ.step dz (fun i_ hi_ e'=>e'.elim (fun e'=>e') (fun e'=>by have e'':i_=F:=e'; omega))),qr,f4.kp dz (fun b_ hb e'=>e'.elim (fun e'=>by have e'':b_=gc:=e'; omega) (fun e'=>by have e'':b_=F:=e'; omega)),f5.kp dz (fun e'=>e'.elim (fun e'=>by have e'':u=gc:=e'; omega) (fun e'=>by have e'':u=F:=e'; omega)),f6.kp dz (fun e'=>e'.elim (fun e'=>by have e'':n=gc:=e'; omega) (fun e'=>by have e'':n=F:=e'; omega)),qt,oF⟩
  ·refine Wk (⟨_,G,((⟨1,5⟩:Away),t,z),(At.r G),fZ,f0,f4,f5,f6,f8,oF⟩)
 rintro Ao dT ⟨⟨a,t2,z2⟩,nr,p7⟩
 rw [← sA nr]
 obtain ⟨k0,lR,O,P,ga,lS,xx⟩:(Kp (fun b_=>b_=gc) w dT)∧(Blk dT gc ec [.slice Ac nc cc,i6 t2,.int .u64 z2])∧(SlR dT Bc encB 1 Ac nc cc Lc)∧(Blk dT u 106 [i6 0,i6 0,i6 0,i6 0])∧(Blk dT n 102 [i6 m.Id,i6 m.Copies,i6 m.Torn])∧(Blk dT F 129 [i6 a.Map,i6 a.Reader])∧(((-100000≤a.Map∧a.Map≤100000)∧(-100000≤a.Reader∧a.Reader≤100000))∧tc≤t2∧t2≤tc+6):=p7
 have wA:=k0.size
 have xE:=lR.lt
 have xF:=P.lt
 have xH:=ga.lt
 have xJ:=lS.lt
 refine Ws (Ws (Wr (Q (mP G)<|Qc ent61 (c___spec_l1Cur__one dT Lc t2 z2 lR O oB oB 40 oD) G ?_)))
 rintro e f ⟨AG,A,V,rfl,X,ya,v⟩
 refine ⟨_,G,?_⟩
 have yk:=v.size
 have k1:=k0.step v (fun i_ hi_ e'=>e')
 refine Qn (Wb G (fun sa=>?_) (fun sa=>?_))
 ·refine Ws (WA (Kp (fun b_=>b_=gc∨b_=u) f) (fun f' w'=>∃ (b:Nat) (am:Int) (aF:Int) (dX:Int) (du:Nat) (dZ:Int) (fy:Int) (mr:Int) (c:Int) (d:Int) (q:Int) (y:Nat) (B:Int) (H:Int) (aa:Int) (ab:Nat),At f' [(0,pt gc),(4,pt u),(5,pt n),(6,pt F)]∧(Kp (fun b_=>b_=gc∨b_=u) f w')∧(Blk w' gc ec [.slice Ac nc cc,i6 fy,.int .u64 mr])∧(Blk w' u 106 [i6 c,i6 B,i6 am,i6 dZ])∧(A≤d∧d≤A+2)∧(c∈([0,8,2]:List Int))∧((0:Int)≤c∧c≤8)∧(d≤H∧H≤d+2)∧(B∈([0,m.Id,100]:List Int))∧((B:Int)=0∨(B:Int)=m.Id∨(B:Int)=100)∧(H≤aF∧aF≤H+2)∧(am∈([0,5]:List Int))∧((0:Int)≤am∧am≤5)∧(aF≤fy∧fy≤aF+2)∧(dZ∈([0,1,(-1)]:List Int))∧(((-1):Int)≤dZ∧dZ≤1)) mo ?_ ?_)
  ·intro yl j
   have um:=j.size
   refine Av #[true,true,true,true,true,true,true,true,true,true,true,true,true,false,false,false] 3 (fun f' w'=>∃ (b:Nat) (am:Int) (aF:Int) (dX:Int) (du:Nat) (c:Int) (d:Int) (q:Int) (y:Nat) (B:Int) (H:Int) (aa:Int) (ab:Nat),At f' [(0,pt gc),(4,pt u),(5,pt n),(6,pt F),(42,i6 c),(47,i6 B),(50,i6 am),(51,pt gc),(52,.slice (pA du) 3 3)]∧(Kp (fun b_=>b_=gc∨b_=u) f w')∧(SlO w' f.heap.size encI 1 3 (pA du) 3 3 ([0,1,(-1)]:List Int))∧(Blk w' gc ec [.slice Ac nc cc,i6 aF,.int .u64 dX])∧(Blk w' u 106 [i6 0,i6 0,i6 0,i6 0])∧(A≤d∧d≤A+2)∧(c∈([0,8,2]:List Int))∧((0:Int)≤c∧c≤8)∧(d≤H∧H≤d+2)∧(B∈([0,m.Id,100]:List Int))∧((B:Int)=0∨(B:Int)=m.Id∨(B:Int)=100)∧(H≤aF∧aF≤H+2)∧(am∈([0,5]:List Int))∧((0:Int)≤am∧am≤5)) ?_ (fun jV=>?_)
   ·rintro wC rF ⟨b,am,aF,dX,du,c,d,q,y,B,H,aa,ab,k5,d7,lV,qu,qv,E,C,D,aE,aC,aD,mm,mi,mj⟩
    rw [← sA k5]
    have un:=d7.size
    refine Ab 13 G (Qc ent58 (c___spec_l1Cur__among rF Lc aF dX qu ((O.kn v).kp d7 (fun b_ hb e'=>e'.elim (fun e'=>by have e'':b_=gc:=e'; omega) (fun e'=>by have e'':b_=u:=e'; omega))) oB oB ([0,1,(-1)]:List Int) (lV.rd) oB oB (show ¬du=gc from by first | omega | (have:=lV.base_le G; omega))) G ?_)
    rintro e ym ⟨dK,ri,qU,rfl,ns,pc,j7,ez⟩
    refine ⟨_,G,?_⟩
    have uo:=ez.size
    have ei:=d7.step ez (fun _ _ e=>.inl e)
    have oo:((-1):Int)≤dK∧dK≤1:=mem_rngB (lo:=(-1)) (hi:=1) oG j7
    refine Qn ⟨ei,_,G,(Ak 14 G ei (fun w' hw'=>r_build (vs:=[(0,i6 c),(1,i6 B),(2,i6 am),(3,i6 dK)]) G (bld106_0_1_2_3 _ _ _ _))<|Ab 15 G (Qw (o:=0) (vs:=[i6 c,i6 B,i6 am,i6 dK]) agg106.2 G G G G (qv.kn ez) ler G ?_))⟩
    intro yo jD tY nt
    have hZ:=ei.step jD (fun _ _ e=>.inr e)
    refine Qn ⟨hZ,_,G,(Ad oC (⟨b,am,aF,dX,du,dK,ri,qU,c,d,q,y,B,H,aa,ab,(At.r G),hZ,(ns.kn jD),nt,E,C,D,aE,aC,aD,mm,mi,mj,pc,j7,oo⟩))⟩
   refine Av #[true,true,true,true,true,true,true,true,true,true,false,true,true,false,false,false] 4 (fun f' w'=>∃ (b:Nat) (fs:Nat) (c:Int) (d:Int) (q:Int) (y:Nat) (B:Int) (H:Int) (aa:Int) (ab:Nat),At f' [(0,pt gc),(4,pt u),(5,pt n),(6,pt F),(42,i6 c),(47,i6 B),(48,pt gc),(49,.slice (pA ab) 2 2),(51,pt gc),(52,.slice (pA fs) 3 3)]∧(Kp (fun b_=>b_=gc∨b_=u) f w')∧(SlO w' f.heap.size encI 1 3 (pA fs) 3 3 ([0,1,(-1)]:List Int))∧(SlO w' f.heap.size encI 1 3 (pA ab) 2 2 ([0,5]:List Int))∧(Blk w' gc ec [.slice Ac nc cc,i6 H,.int .u64 aa])∧(Blk w' u 106 [i6 0,i6 0,i6 0,i6 0])∧(∀ b_,(pA fs)=some ⟨b_,0,none⟩→¬(pA ab)=some ⟨b_,0,none⟩)∧(A≤d∧d≤A+2)∧(c∈([0,8,2]:List Int))∧((0:Int)≤c∧c≤8)∧(d≤H∧H≤d+2)∧(B∈([0,m.Id,100]:List Int))∧((B:Int)=0∨(B:Int)=m.Id∨(B:Int)=100)) ?_ (fun fb=>?_)
   ·rintro wD rG ⟨b,fs,c,d,q,y,B,H,aa,ab,k6,d8,qy,lW,qz,qA,xp,E,C,D,aE,aC,aD⟩
    rw [← sA k6]
    have up:=d8.size
    refine Ab 10 G (Qc ent58 (c___spec_l1Cur__among rG Lc H aa qz ((O.kn v).kp d8 (fun b_ hb e'=>e'.elim (fun e'=>by have e'':b_=gc:=e'; omega) (fun e'=>by have e'':b_=u:=e'; omega))) oB oB ([0,5]:List Int) (lW.rd) oB oB (show ¬ab=gc from by first | omega | (have:=lW.base_le G; omega))) G ?_)
    rintro e yp ⟨gI,rj,qV,rfl,nu,pd,j8,cK⟩
    refine ⟨_,G,?_⟩
    have uq:=cK.size
    have ia:=d8.step cK (fun _ _ e=>.inl e)
    have ot:(0:Int)≤gI∧gI≤5:=mem_rngB (lo:=0) (hi:=5) oG j8
    refine Qn ⟨ia,_,G,(Ag oC G (jV _ _ (⟨b,gI,rj,qV,fs,c,d,q,y,B,H,aa,ab,(At.r G),ia,((qy.kn cK).down),nu,(qA.kn cK),E,C,D,aE,aC,aD,pd,j8,ot⟩)))⟩
   refine Av #[true,true,true,true,true,true,true,true,true,true,false,true,false,false,false,false] 5 (fun f' w'=>∃ (b:Nat) (c:Int) (d:Int) (q:Int) (y:Nat) (B:Int) (H:Int) (aa:Int) (ab:Nat),At f' [(0,pt gc),(4,pt u),(5,pt n),(6,pt F),(42,i6 c),(47,i6 B),(48,pt gc),(49,.slice (pA ab) 2 2),(51,pt gc)]∧(Kp (fun b_=>b_=gc∨b_=u) f w')∧(SlO w' f.heap.size encI 1 3 (pA ab) 2 2 ([0,5]:List Int))∧(Blk w' gc ec [.slice Ac nc cc,i6 H,.int .u64 aa])∧(Blk w' u 106 [i6 0,i6 0,i6 0,i6 0])∧(A≤d∧d≤A+2)∧(c∈([0,8,2]:List Int))∧((0:Int)≤c∧c≤8)∧(d≤H∧H≤d+2)∧(B∈([0,m.Id,100]:List Int))∧((B:Int)=0∨(B:Int)=m.Id∨(B:Int)=100)) ?_ (fun jW=>?_)
   ·rintro wE rH ⟨b,c,d,q,y,B,H,aa,ab,k7,cA,eW,lT,lU,E,C,D,aE,aC,aD⟩
    rw [← sA k7]
    have ur:=cA.size
    refine Ar [10,12] oC G ⟨Bm G trivial ?_,Bm G trivial ?_,trivial⟩
    ·refine Qc ent58 (c___spec_l1Cur__among rH Lc H aa lT ((O.kn v).kp cA (fun b_ hb e'=>e'.elim (fun e'=>by have e'':b_=gc:=e'; omega) (fun e'=>by have e'':b_=u:=e'; omega))) oB oB ([0,5]:List Int) (eW.rd) oB oB (show ¬ab=gc from by first | omega | (have:=eW.base_le G; omega))) G ?_
     rintro e yq ⟨gJ,rk,qW,rfl,nv,pf,j9,eD⟩
     refine ⟨_,G,?_⟩
     have us:=eD.size
     have ib:=cA.step eD (fun _ _ e=>.inl e)
     have ou:(0:Int)≤gJ∧gJ≤5:=mem_rngB (lo:=0) (hi:=5) oG j9
     refine Qn ⟨ib,_,G,(Ab 12 G (Ql (vs:=[i6 0,i6 1,i6 (-1)]) (L:=([0,1,(-1)]:List Int)) (enc:=encI) tel93 (fun _=>G) G G G oG ?_))⟩
     intro pM yr so cN mv
     have ut:=cN.size
     have ic:=ib.lo cN
     refine Qn ⟨ic,_,G,(Ag oC G (jV _ _ (⟨b,gJ,rk,qW,pM,c,d,q,y,B,H,aa,ab,(At.r G),ic,(mv.down),(nv.lo cN),((lU.kn eD).lo cN),E,C,D,aE,aC,aD,pf,j9,ou⟩)))⟩
    ·refine Ql (vs:=[i6 0,i6 1,i6 (-1)]) (L:=([0,1,(-1)]:List Int)) (enc:=encI) tel93 (fun _=>G) G G G oG ?_
     intro kA ys sq bB mw
     have uu:=bB.size
     have ie:=cA.lo bB
     refine Qn ⟨ie,_,G,(Ag oC G (fb _ _ (⟨b,kA,c,d,q,y,B,H,aa,ab,(At.r G),ie,(mw.down),((eW.lo bB).down),(lT.lo bB),(lU.lo bB),(fun b_ h h'=>(nE (g:=kA) eW) (h'.trans h.symm)),E,C,D,aE,aC,aD⟩)))⟩
   refine Av #[true,true,true,true,true,true,true,true,true,false,false,true,true,false,false,false] 5 (fun f' w'=>∃ (b:Nat) (gT:Nat) (c:Int) (d:Int) (q:Int) (y:Nat) (B:Int) (H:Int) (aa:Int),At f' [(0,pt gc),(4,pt u),(5,pt n),(6,pt F),(42,i6 c),(47,i6 B),(48,pt gc),(51,pt gc),(52,.slice (pA gT) 3 3)]∧(Kp (fun b_=>b_=gc∨b_=u) f w')∧(SlO w' f.heap.size encI 1 3 (pA gT) 3 3 ([0,1,(-1)]:List Int))∧(Blk w' gc ec [.slice Ac nc cc,i6 H,.int .u64 aa])∧(Blk w' u 106 [i6 0,i6 0,i6 0,i6 0])∧(A≤d∧d≤A+2)∧(c∈([0,8,2]:List Int))∧((0:Int)≤c∧c≤8)∧(d≤H∧H≤d+2)∧(B∈([0,m.Id,100]:List Int))∧((B:Int)=0∨(B:Int)=m.Id∨(B:Int)=100)) ?_ (fun jX=>?_)
   ·rintro wF yt ⟨b,gT,c,d,q,y,B,H,aa,k8,g8,lX,qB,qC,E,C,D,aE,aC,aD⟩
    rw [← sA k8]
    have uv:=g8.size
    refine Ab 9 G (Ql (vs:=[i6 0,i6 5]) (L:=([0,5]:List Int)) (enc:=encI) tel93 (fun _=>G) G G G oG ?_)
    intro kB yu sr bC mx
    have uw:=bC.size
    have ig:=g8.lo bC
    refine Qn ⟨ig,_,G,(Ag oC G (fb _ _ (⟨b,gT,c,d,q,y,B,H,aa,kB,(At.r G),ig,((lX.lo bC).down),(mx.down),(qB.lo bC),(qC.lo bC),(fun b_ h h'=>(nE (g:=kB) lX) (h.trans h'.symm)),E,C,D,aE,aC,aD⟩)))⟩
   refine Av #[true,true,true,true,true,true,true,false,true,true,false,true,true,false,false,false] 5 (fun f' w'=>∃ (b:Nat) (dU:Nat) (c:Int) (d:Int) (q:Int) (y:Nat) (au:Nat),At f' [(0,pt gc),(4,pt u),(5,pt n),(6,pt F),(42,i6 c),(43,pt gc),(46,.slice (pA y) 3 3),(48,pt gc),(49,.slice (pA au) 2 2),(51,pt gc),(52,.slice (pA dU) 3 3)]∧(Kp (fun b_=>b_=gc∨b_=u) f w')∧(SlO w' f.heap.size encI 1 3 (pA dU) 3 3 ([0,1,(-1)]:List Int))∧(SlO w' f.heap.size encI 1 3 (pA y) 3 3 ([0,m.Id,100]:List Int))∧(SlO w' f.heap.size encI 1 3 (pA au) 2 2 ([0,5]:List Int))∧(Blk w' gc ec [.slice Ac nc cc,i6 d,.int .u64 q])∧(Blk w' u 106 [i6 0,i6 0,i6 0,i6 0])∧(∀ b_,(pA dU)=some ⟨b_,0,none⟩→¬(pA y)=some ⟨b_,0,none⟩)∧(∀ b_,(pA dU)=some ⟨b_,0,none⟩→¬(pA au)=some ⟨b_,0,none⟩)∧(∀ b_,(pA y)=some ⟨b_,0,none⟩→¬(pA au)=some ⟨b_,0,none⟩)∧(A≤d∧d≤A+2)∧(c∈([0,8,2]:List Int))∧((0:Int)≤c∧c≤8)) ?_ (fun dq=>?_)
   ·rintro wG rI ⟨b,dU,c,d,q,y,au,k9,d9,qD,l0,qE,qF,qG,xq,qd,xr,E,C,D⟩
    rw [← sA k9]
    have ux:=d9.size
    refine Ab 7 G (Qc ent58 (c___spec_l1Cur__among rI Lc d q qF ((O.kn v).kp d9 (fun b_ hb e'=>e'.elim (fun e'=>by have e'':b_=gc:=e'; omega) (fun e'=>by have e'':b_=u:=e'; omega))) oB oB ([0,m.Id,100]:List Int) (l0.rd) oB oB (show ¬y=gc from by first | omega | (have:=l0.base_le G; omega))) G ?_)
    rintro e yv ⟨fo,rl,qX,rfl,nw,pg,ka,bD⟩
    refine ⟨_,G,?_⟩
    have uy:=bD.size
    have ii:=d9.step bD (fun _ _ e=>.inl e)
    have ov:(fo:Int)=0∨(fo:Int)=m.Id∨(fo:Int)=100:=by simpa only [List.mem_cons,List.not_mem_nil,or_false] using ka
    refine Qn ⟨ii,_,G,(Ag oC G (fb _ _ (⟨b,dU,c,d,q,y,fo,rl,qX,au,(At.r G),ii,((qD.kn bD).down),((qE.kn bD).down),nw,(qG.kn bD),qd,E,C,D,pg,ka,ov⟩)))⟩
   refine Av #[true,true,true,true,true,true,true,false,true,true,false,true,false,false,false,false] 6 (fun f' w'=>∃ (b:Nat) (c:Int) (d:Int) (q:Int) (y:Nat) (au:Nat),At f' [(0,pt gc),(4,pt u),(5,pt n),(6,pt F),(42,i6 c),(43,pt gc),(46,.slice (pA y) 3 3),(48,pt gc),(49,.slice (pA au) 2 2),(51,pt gc)]∧(Kp (fun b_=>b_=gc∨b_=u) f w')∧(SlO w' f.heap.size encI 1 3 (pA y) 3 3 ([0,m.Id,100]:List Int))∧(SlO w' f.heap.size encI 1 3 (pA au) 2 2 ([0,5]:List Int))∧(Blk w' gc ec [.slice Ac nc cc,i6 d,.int .u64 q])∧(Blk w' u 106 [i6 0,i6 0,i6 0,i6 0])∧(∀ b_,(pA y)=some ⟨b_,0,none⟩→¬(pA au)=some ⟨b_,0,none⟩)∧(A≤d∧d≤A+2)∧(c∈([0,8,2]:List Int))∧((0:Int)≤c∧c≤8)) ?_ (fun fc=>?_)
   ·rintro wH rJ ⟨b,c,d,q,y,au,lc,cB,eX,gf,lY,lZ,qc,E,C,D⟩
    rw [← sA lc]
    have uz:=cB.size
    refine Ar [7,12] oC G ⟨Bm G trivial ?_,Bm G trivial ?_,trivial⟩
    ·refine Qc ent58 (c___spec_l1Cur__among rJ Lc d q lY ((O.kn v).kp cB (fun b_ hb e'=>e'.elim (fun e'=>by have e'':b_=gc:=e'; omega) (fun e'=>by have e'':b_=u:=e'; omega))) oB oB ([0,m.Id,100]:List Int) (eX.rd) oB oB (show ¬y=gc from by first | omega | (have:=eX.base_le G; omega))) G ?_
     rintro e yw ⟨fp,rm,qY,rfl,nx,ph,kb,cO⟩
     refine ⟨_,G,?_⟩
     have uA:=cO.size
     have ij:=cB.step cO (fun _ _ e=>.inl e)
     have ow:(fp:Int)=0∨(fp:Int)=m.Id∨(fp:Int)=100:=by simpa only [List.mem_cons,List.not_mem_nil,or_false] using kb
     refine Qn ⟨ij,_,G,(Ag oC G (jW _ _ (⟨b,c,d,q,y,fp,rm,qY,au,(At.r G),ij,((gf.kn cO).down),nx,(lZ.kn cO),E,C,D,ph,kb,ow⟩)))⟩
    ·refine Ql (vs:=[i6 0,i6 1,i6 (-1)]) (L:=([0,1,(-1)]:List Int)) (enc:=encI) tel93 (fun _=>G) G G G oG ?_
     intro fB yx ss aQ my
     have uB:=aQ.size
     have ik:=cB.lo aQ
     refine Qn ⟨ik,_,G,(Ag oC G (dq _ _ (⟨b,fB,c,d,q,y,au,(At.r G),ik,(my.down),((eX.lo aQ).down),((gf.lo aQ).down),(lY.lo aQ),(lZ.lo aQ),(fun b_ h h'=>(nE (g:=fB) eX) (h'.trans h.symm)),(fun b_ h h'=>(nE (g:=fB) gf) (h'.trans h.symm)),qc,E,C,D⟩)))⟩
   refine Av #[true,true,true,true,true,true,true,false,true,false,false,true,true,false,false,false] 6 (fun f' w'=>∃ (b:Nat) (dV:Nat) (c:Int) (d:Int) (q:Int) (y:Nat),At f' [(0,pt gc),(4,pt u),(5,pt n),(6,pt F),(42,i6 c),(43,pt gc),(46,.slice (pA y) 3 3),(48,pt gc),(51,pt gc),(52,.slice (pA dV) 3 3)]∧(Kp (fun b_=>b_=gc∨b_=u) f w')∧(SlO w' f.heap.size encI 1 3 (pA dV) 3 3 ([0,1,(-1)]:List Int))∧(SlO w' f.heap.size encI 1 3 (pA y) 3 3 ([0,m.Id,100]:List Int))∧(Blk w' gc ec [.slice Ac nc cc,i6 d,.int .u64 q])∧(Blk w' u 106 [i6 0,i6 0,i6 0,i6 0])∧(∀ b_,(pA dV)=some ⟨b_,0,none⟩→¬(pA y)=some ⟨b_,0,none⟩)∧(A≤d∧d≤A+2)∧(c∈([0,8,2]:List Int))∧((0:Int)≤c∧c≤8)) ?_ (fun fd=>?_)
   ·rintro wI rK ⟨b,dV,c,d,q,y,ld,cC,gh,eY,l2,l3,qe,E,C,D⟩
    rw [← sA ld]
    have uC:=cC.size
    refine Ar [7,9] oC G ⟨Bm G trivial ?_,Bm G trivial ?_,trivial⟩
    ·refine Qc ent58 (c___spec_l1Cur__among rK Lc d q l2 ((O.kn v).kp cC (fun b_ hb e'=>e'.elim (fun e'=>by have e'':b_=gc:=e'; omega) (fun e'=>by have e'':b_=u:=e'; omega))) oB oB ([0,m.Id,100]:List Int) (eY.rd) oB oB (show ¬y=gc from by first | omega | (have:=eY.base_le G; omega))) G ?_
     rintro e yy ⟨fq,rn,qZ,rfl,ny,pj,ke,cP⟩
     refine ⟨_,G,?_⟩
     have uD:=cP.size
     have il:=cC.step cP (fun _ _ e=>.inl e)
     have ox:(fq:Int)=0∨(fq:Int)=m.Id∨(fq:Int)=100:=by simpa only [List.mem_cons,List.not_mem_nil,or_false] using ke
     refine Qn ⟨il,_,G,(Ag oC G (jX _ _ (⟨b,dV,c,d,q,y,fq,rn,qZ,(At.r G),il,((gh.kn cP).down),ny,(l3.kn cP),E,C,D,pj,ke,ox⟩)))⟩
    ·refine Ql (vs:=[i6 0,i6 5]) (L:=([0,5]:List Int)) (enc:=encI) tel93 (fun _=>G) G G G oG ?_
     intro fC yz su aR mz
     have uE:=aR.size
     have im:=cC.lo aR
     refine Qn ⟨im,_,G,(Ag oC G (dq _ _ (⟨b,dV,c,d,q,y,fC,(At.r G),im,((gh.lo aR).down),((eY.lo aR).down),(mz.down),(l2.lo aR),(l3.lo aR),qe,(fun b_ h h'=>(nE (g:=fC) gh) (h.trans h'.symm)),(fun b_ h h'=>(nE (g:=fC) eY) (h.trans h'.symm)),E,C,D⟩)))⟩
   refine Av #[true,true,true,true,true,true,false,false,true,true,false,true,true,false,false,false] 6 (fun f' w'=>∃ (b:Nat) (ft:Nat) (c:Int) (d:Int) (q:Int) (aH:Nat),At f' [(0,pt gc),(4,pt u),(5,pt n),(6,pt F),(42,i6 c),(43,pt gc),(45,i6 m.Id),(48,pt gc),(49,.slice (pA aH) 2 2),(51,pt gc),(52,.slice (pA ft) 3 3)]∧(Kp (fun b_=>b_=gc∨b_=u) f w')∧(SlO w' f.heap.size encI 1 3 (pA ft) 3 3 ([0,1,(-1)]:List Int))∧(SlO w' f.heap.size encI 1 3 (pA aH) 2 2 ([0,5]:List Int))∧(Blk w' gc ec [.slice Ac nc cc,i6 d,.int .u64 q])∧(Blk w' u 106 [i6 0,i6 0,i6 0,i6 0])∧(∀ b_,(pA ft)=some ⟨b_,0,none⟩→¬(pA aH)=some ⟨b_,0,none⟩)∧(A≤d∧d≤A+2)∧(c∈([0,8,2]:List Int))∧((0:Int)≤c∧c≤8)) ?_ (fun fe=>?_)
   ·rintro wJ yA ⟨b,ft,c,d,q,aH,lf,hF,l7,l8,qH,qI,qf,E,C,D⟩
    rw [← sA lf]
    have uF:=hF.size
    refine Ab 6 G (Ql (vs:=[i6 0,i6 m.Id,i6 100]) (L:=([0,m.Id,100]:List Int)) (enc:=encI) tel93 (fun _=>G) G G G oG ?_)
    intro fD yB sv aT mA
    have uG:=aT.size
    have io:=hF.lo aT
    refine Qn ⟨io,_,G,(Ag oC G (dq _ _ (⟨b,ft,c,d,q,fD,aH,(At.r G),io,((l7.lo aT).down),(mA.down),((l8.lo aT).down),(qH.lo aT),(qI.lo aT),(fun b_ h h'=>(nE (g:=fD) l7) (h.trans h'.symm)),qf,(fun b_ h h'=>(nE (g:=fD) l8) (h'.trans h.symm)),E,C,D⟩)))⟩
   refine Av #[true,true,false,true,true,true,true,false,true,true,false,true,true,false,false,false] 6 (fun f' w'=>∃ (b:Nat) (dv:Nat) (J:Nat) (ak:Nat),At f' [(0,pt gc),(4,pt u),(5,pt n),(6,pt F),(40,pt gc),(41,.slice (pA b) 3 3),(43,pt gc),(46,.slice (pA J) 3 3),(48,pt gc),(49,.slice (pA ak) 2 2),(51,pt gc),(52,.slice (pA dv) 3 3)]∧(Kp (fun b_=>b_=gc∨b_=u) f w')∧(SlO w' f.heap.size encI 1 3 (pA b) 3 3 ([0,8,2]:List Int))∧(SlO w' f.heap.size encI 1 3 (pA dv) 3 3 ([0,1,(-1)]:List Int))∧(SlO w' f.heap.size encI 1 3 (pA J) 3 3 ([0,m.Id,100]:List Int))∧(SlO w' f.heap.size encI 1 3 (pA ak) 2 2 ([0,5]:List Int))∧(Blk w' gc ec [.slice Ac nc cc,i6 A,.int .u64 V])∧(Blk w' u 106 [i6 0,i6 0,i6 0,i6 0])∧(∀ b_,(pA b)=some ⟨b_,0,none⟩→¬(pA dv)=some ⟨b_,0,none⟩)∧(∀ b_,(pA b)=some ⟨b_,0,none⟩→¬(pA J)=some ⟨b_,0,none⟩)∧(∀ b_,(pA b)=some ⟨b_,0,none⟩→¬(pA ak)=some ⟨b_,0,none⟩)∧(∀ b_,(pA dv)=some ⟨b_,0,none⟩→¬(pA J)=some ⟨b_,0,none⟩)∧(∀ b_,(pA dv)=some ⟨b_,0,none⟩→¬(pA ak)=some ⟨b_,0,none⟩)∧(∀ b_,(pA J)=some ⟨b_,0,none⟩→¬(pA ak)=some ⟨b_,0,none⟩)) ?_ (fun dr=>?_)
   ·rintro wK rL ⟨b,dv,J,ak,lg,ea,md,qJ,qK,qL,qM,qN,xt,xu,xv,qi,qj,qk⟩
    rw [← sA lg]
    have uH:=ea.size
    refine Ab 2 G (Qc ent58 (c___spec_l1Cur__among rL Lc A V qM ((O.kn v).kp ea (fun b_ hb e'=>e'.elim (fun e'=>by have e'':b_=gc:=e'; omega) (fun e'=>by have e'':b_=u:=e'; omega))) oB oB ([0,8,2]:List Int) (md.rd) oB oB (show ¬b=gc from by first | omega | (have:=md.base_le G; omega))) G ?_)
    rintro e yC ⟨gK,ro,q1,rfl,nz,pk,kf,aU⟩
    refine ⟨_,G,?_⟩
    have uI:=aU.size
    have ip:=ea.step aU (fun _ _ e=>.inl e)
    have oy:(0:Int)≤gK∧gK≤8:=mem_rngB (lo:=0) (hi:=8) oG kf
    refine Qn ⟨ip,_,G,(Ag oC G (dq _ _ (⟨b,dv,gK,ro,q1,J,ak,(At.r G),ip,((qJ.kn aU).down),((qK.kn aU).down),((qL.kn aU).down),nz,(qN.kn aU),qi,qj,qk,pk,kf,oy⟩)))⟩
   refine Av #[true,true,true,true,true,true,true,false,true,false,false,true,false,false,false,false] 7 (fun f' w'=>∃ (b:Nat) (c:Int) (d:Int) (q:Int) (y:Nat),At f' [(0,pt gc),(4,pt u),(5,pt n),(6,pt F),(42,i6 c),(43,pt gc),(46,.slice (pA y) 3 3),(48,pt gc),(51,pt gc)]∧(Kp (fun b_=>b_=gc∨b_=u) f w')∧(SlO w' f.heap.size encI 1 3 (pA y) 3 3 ([0,m.Id,100]:List Int))∧(Blk w' gc ec [.slice Ac nc cc,i6 d,.int .u64 q])∧(Blk w' u 106 [i6 0,i6 0,i6 0,i6 0])∧(A≤d∧d≤A+2)∧(c∈([0,8,2]:List Int))∧((0:Int)≤c∧c≤8)) ?_ (fun jY=>?_)
   ·rintro wL rM ⟨b,c,d,q,y,lh,bt,cn,gb,eU,E,C,D⟩
    rw [← sA lh]
    have uJ:=bt.size
    refine Ar [7,9,12] oC G ⟨Bm G trivial ?_,Bm G trivial ?_,Bm G trivial ?_,trivial⟩
    ·refine Qc ent58 (c___spec_l1Cur__among rM Lc d q gb ((O.kn v).kp bt (fun b_ hb e'=>e'.elim (fun e'=>by have e'':b_=gc:=e'; omega) (fun e'=>by have e'':b_=u:=e'; omega))) oB oB ([0,m.Id,100]:List Int) (cn.rd) oB oB (show ¬y=gc from by first | omega | (have:=cn.base_le G; omega))) G ?_
     rintro e yD ⟨dL,ms,mp,rfl,jy,kx,fk,cQ⟩
     refine ⟨_,G,?_⟩
     have uK:=cQ.size
     have ej:=bt.step cQ (fun _ _ e=>.inl e)
     have kg:(dL:Int)=0∨(dL:Int)=m.Id∨(dL:Int)=100:=by simpa only [List.mem_cons,List.not_mem_nil,or_false] using fk
     refine Qn ⟨ej,_,G,(Ar [9,12] oC G ⟨Bm G trivial ?_,Bm G trivial ?_,trivial⟩)⟩
     ·refine Ql (vs:=[i6 0,i6 5]) (L:=([0,5]:List Int)) (enc:=encI) tel93 (fun _=>G) G G G oG ?_
      intro pN yE sw cR mC
      have uL:=cR.size
      have iq:=ej.lo cR
      refine Qn ⟨iq,_,G,(Ag oC G (jW _ _ (⟨b,c,d,q,y,dL,ms,mp,pN,(At.r G),iq,(mC.down),(jy.lo cR),((eU.kn cQ).lo cR),E,C,D,kx,fk,kg⟩)))⟩
     ·refine Ql (vs:=[i6 0,i6 1,i6 (-1)]) (L:=([0,1,(-1)]:List Int)) (enc:=encI) tel93 (fun _=>G) G G G oG ?_
      intro pO yF sx cS mD
      have uM:=cS.size
      have ir:=ej.lo cS
      refine Qn ⟨ir,_,G,(Ag oC G (jX _ _ (⟨b,pO,c,d,q,y,dL,ms,mp,(At.r G),ir,(mD.down),(jy.lo cS),((eU.kn cQ).lo cS),E,C,D,kx,fk,kg⟩)))⟩
    ·refine Ql (vs:=[i6 0,i6 5]) (L:=([0,5]:List Int)) (enc:=encI) tel93 (fun _=>G) G G G oG ?_
     intro kC yG sy bE mE
     have uN:=bE.size
     have iu:=bt.lo bE
     refine Qn ⟨iu,_,G,(Ag oC G (fc _ _ (⟨b,c,d,q,y,kC,(At.r G),iu,((cn.lo bE).down),(mE.down),(gb.lo bE),(eU.lo bE),(fun b_ h h'=>(nE (g:=kC) cn) (h.trans h'.symm)),E,C,D⟩)))⟩
    ·refine Ql (vs:=[i6 0,i6 1,i6 (-1)]) (L:=([0,1,(-1)]:List Int)) (enc:=encI) tel93 (fun _=>G) G G G oG ?_
     intro kD yH sB bF mF
     have uO:=bF.size
     have iv:=bt.lo bF
     refine Qn ⟨iv,_,G,(Ag oC G (fd _ _ (⟨b,kD,c,d,q,y,(At.r G),iv,(mF.down),((cn.lo bF).down),(gb.lo bF),(eU.lo bF),(fun b_ h h'=>(nE (g:=kD) cn) (h'.trans h.symm)),E,C,D⟩)))⟩
   refine Av #[true,true,true,true,true,true,false,false,true,true,false,true,false,false,false,false] 7 (fun f' w'=>∃ (b:Nat) (c:Int) (d:Int) (q:Int) (aH:Nat),At f' [(0,pt gc),(4,pt u),(5,pt n),(6,pt F),(42,i6 c),(43,pt gc),(45,i6 m.Id),(48,pt gc),(49,.slice (pA aH) 2 2),(51,pt gc)]∧(Kp (fun b_=>b_=gc∨b_=u) f w')∧(SlO w' f.heap.size encI 1 3 (pA aH) 2 2 ([0,5]:List Int))∧(Blk w' gc ec [.slice Ac nc cc,i6 d,.int .u64 q])∧(Blk w' u 106 [i6 0,i6 0,i6 0,i6 0])∧(A≤d∧d≤A+2)∧(c∈([0,8,2]:List Int))∧((0:Int)≤c∧c≤8)) ?_ (fun jZ=>?_)
   ·rintro wM yI ⟨b,c,d,q,aH,li,ed,eZ,l5,l6,E,C,D⟩
    rw [← sA li]
    have uP:=ed.size
    refine Ar [6,12] oC G ⟨Bm G trivial ?_,Bm G trivial ?_,trivial⟩
    ·refine Ql (vs:=[i6 0,i6 m.Id,i6 100]) (L:=([0,m.Id,100]:List Int)) (enc:=encI) tel93 (fun _=>G) G G G oG ?_
     intro kE yJ sC bG mG
     have uQ:=bG.size
     have iw:=ed.lo bG
     refine Qn ⟨iw,_,G,(Ag oC G (fc _ _ (⟨b,c,d,q,kE,aH,(At.r G),iw,(mG.down),((eZ.lo bG).down),(l5.lo bG),(l6.lo bG),(fun b_ h h'=>(nE (g:=kE) eZ) (h'.trans h.symm)),E,C,D⟩)))⟩
    ·refine Ql (vs:=[i6 0,i6 1,i6 (-1)]) (L:=([0,1,(-1)]:List Int)) (enc:=encI) tel93 (fun _=>G) G G G oG ?_
     intro kF yK sD bH mH
     have uR:=bH.size
     have ix:=ed.lo bH
     refine Qn ⟨ix,_,G,(Ag oC G (fe _ _ (⟨b,kF,c,d,q,aH,(At.r G),ix,(mH.down),((eZ.lo bH).down),(l5.lo bH),(l6.lo bH),(fun b_ h h'=>(nE (g:=kF) eZ) (h'.trans h.symm)),E,C,D⟩)))⟩
   refine Av #[true,true,true,true,true,true,false,false,true,false,false,true,true,false,false,false] 7 (fun f' w'=>∃ (b:Nat) (fu:Nat) (c:Int) (d:Int) (q:Int),At f' [(0,pt gc),(4,pt u),(5,pt n),(6,pt F),(42,i6 c),(43,pt gc),(45,i6 m.Id),(48,pt gc),(51,pt gc),(52,.slice (pA fu) 3 3)]∧(Kp (fun b_=>b_=gc∨b_=u) f w')∧(SlO w' f.heap.size encI 1 3 (pA fu) 3 3 ([0,1,(-1)]:List Int))∧(Blk w' gc ec [.slice Ac nc cc,i6 d,.int .u64 q])∧(Blk w' u 106 [i6 0,i6 0,i6 0,i6 0])∧(A≤d∧d≤A+2)∧(c∈([0,8,2]:List Int))∧((0:Int)≤c∧c≤8)) ?_ (fun j0=>?_)
   ·rintro wN yL ⟨b,fu,c,d,q,lj,ee,e6,l9,ma,E,C,D⟩
    rw [← sA lj]
    have uS:=ee.size
    refine Ar [6,9] oC G ⟨Bm G trivial ?_,Bm G trivial ?_,trivial⟩
    ·refine Ql (vs:=[i6 0,i6 m.Id,i6 100]) (L:=([0,m.Id,100]:List Int)) (enc:=encI) tel93 (fun _=>G) G G G oG ?_
     intro kG yM sE bI mJ
     have uT:=bI.size
     have iy:=ee.lo bI
     refine Qn ⟨iy,_,G,(Ag oC G (fd _ _ (⟨b,fu,c,d,q,kG,(At.r G),iy,((e6.lo bI).down),(mJ.down),(l9.lo bI),(ma.lo bI),(fun b_ h h'=>(nE (g:=kG) e6) (h.trans h'.symm)),E,C,D⟩)))⟩
    ·refine Ql (vs:=[i6 0,i6 5]) (L:=([0,5]:List Int)) (enc:=encI) tel93 (fun _=>G) G G G oG ?_
     intro kH yN sF bJ mK
     have uU:=bJ.size
     have iz:=ee.lo bJ
     refine Qn ⟨iz,_,G,(Ag oC G (fe _ _ (⟨b,fu,c,d,q,kH,(At.r G),iz,((e6.lo bJ).down),(mK.down),(l9.lo bJ),(ma.lo bJ),(fun b_ h h'=>(nE (g:=kH) e6) (h.trans h'.symm)),E,C,D⟩)))⟩
   refine Av #[true,true,false,true,true,true,true,false,true,true,false,true,false,false,false,false] 7 (fun f' w'=>∃ (b:Nat) (J:Nat) (ak:Nat),At f' [(0,pt gc),(4,pt u),(5,pt n),(6,pt F),(40,pt gc),(41,.slice (pA b) 3 3),(43,pt gc),(46,.slice (pA J) 3 3),(48,pt gc),(49,.slice (pA ak) 2 2),(51,pt gc)]∧(Kp (fun b_=>b_=gc∨b_=u) f w')∧(SlO w' f.heap.size encI 1 3 (pA b) 3 3 ([0,8,2]:List Int))∧(SlO w' f.heap.size encI 1 3 (pA J) 3 3 ([0,m.Id,100]:List Int))∧(SlO w' f.heap.size encI 1 3 (pA ak) 2 2 ([0,5]:List Int))∧(Blk w' gc ec [.slice Ac nc cc,i6 A,.int .u64 V])∧(Blk w' u 106 [i6 0,i6 0,i6 0,i6 0])∧(∀ b_,(pA b)=some ⟨b_,0,none⟩→¬(pA J)=some ⟨b_,0,none⟩)∧(∀ b_,(pA b)=some ⟨b_,0,none⟩→¬(pA ak)=some ⟨b_,0,none⟩)∧(∀ b_,(pA J)=some ⟨b_,0,none⟩→¬(pA ak)=some ⟨b_,0,none⟩)) ?_ (fun ff=>?_)
   ·rintro wO rO ⟨b,J,ak,lk,cD,e7,gk,gl,mb,mc,qg,qh,lK⟩
    rw [← sA lk]
    have uV:=cD.size
    refine Ar [2,12] oC G ⟨Bm G trivial ?_,Bm G trivial ?_,trivial⟩
    ·refine Qc ent58 (c___spec_l1Cur__among rO Lc A V mb ((O.kn v).kp cD (fun b_ hb e'=>e'.elim (fun e'=>by have e'':b_=gc:=e'; omega) (fun e'=>by have e'':b_=u:=e'; omega))) oB oB ([0,8,2]:List Int) (e7.rd) oB oB (show ¬b=gc from by first | omega | (have:=e7.base_le G; omega))) G ?_
     rintro e yO ⟨gM,rp,q2,rfl,nA,pl,kh,bK⟩
     refine ⟨_,G,?_⟩
     have uW:=bK.size
     have iA:=cD.step bK (fun _ _ e=>.inl e)
     have oz:(0:Int)≤gM∧gM≤8:=mem_rngB (lo:=0) (hi:=8) oG kh
     refine Qn ⟨iA,_,G,(Ag oC G (fc _ _ (⟨b,gM,rp,q2,J,ak,(At.r G),iA,((gk.kn bK).down),((gl.kn bK).down),nA,(mc.kn bK),lK,pl,kh,oz⟩)))⟩
    ·refine Ql (vs:=[i6 0,i6 1,i6 (-1)]) (L:=([0,1,(-1)]:List Int)) (enc:=encI) tel93 (fun _=>G) G G G oG ?_
     intro d1 yP sG ax mM
     have uX:=ax.size
     have iB:=cD.lo ax
     refine Qn ⟨iB,_,G,(Ag oC G (dr _ _ (⟨b,d1,J,ak,(At.r G),iB,((e7.lo ax).down),(mM.down),((gk.lo ax).down),((gl.lo ax).down),(mb.lo ax),(mc.lo ax),(fun b_ h h'=>(nE (g:=d1) e7) (h.trans h'.symm)),qg,qh,(fun b_ h h'=>(nE (g:=d1) gk) (h'.trans h.symm)),(fun b_ h h'=>(nE (g:=d1) gl) (h'.trans h.symm)),lK⟩)))⟩
   refine Av #[true,true,false,true,true,true,true,false,true,false,false,true,true,false,false,false] 7 (fun f' w'=>∃ (b:Nat) (dw:Nat) (J:Nat),At f' [(0,pt gc),(4,pt u),(5,pt n),(6,pt F),(40,pt gc),(41,.slice (pA b) 3 3),(43,pt gc),(46,.slice (pA J) 3 3),(48,pt gc),(51,pt gc),(52,.slice (pA dw) 3 3)]∧(Kp (fun b_=>b_=gc∨b_=u) f w')∧(SlO w' f.heap.size encI 1 3 (pA b) 3 3 ([0,8,2]:List Int))∧(SlO w' f.heap.size encI 1 3 (pA dw) 3 3 ([0,1,(-1)]:List Int))∧(SlO w' f.heap.size encI 1 3 (pA J) 3 3 ([0,m.Id,100]:List Int))∧(Blk w' gc ec [.slice Ac nc cc,i6 A,.int .u64 V])∧(Blk w' u 106 [i6 0,i6 0,i6 0,i6 0])∧(∀ b_,(pA b)=some ⟨b_,0,none⟩→¬(pA dw)=some ⟨b_,0,none⟩)∧(∀ b_,(pA b)=some ⟨b_,0,none⟩→¬(pA J)=some ⟨b_,0,none⟩)∧(∀ b_,(pA dw)=some ⟨b_,0,none⟩→¬(pA J)=some ⟨b_,0,none⟩)) ?_ (fun fg=>?_)
   ·rintro wP rP ⟨b,dw,J,ll,cE,e9,gm,gn,me,mf,ql,qm,lL⟩
    rw [← sA ll]
    have uY:=cE.size
    refine Ar [2,9] oC G ⟨Bm G trivial ?_,Bm G trivial ?_,trivial⟩
    ·refine Qc ent58 (c___spec_l1Cur__among rP Lc A V me ((O.kn v).kp cE (fun b_ hb e'=>e'.elim (fun e'=>by have e'':b_=gc:=e'; omega) (fun e'=>by have e'':b_=u:=e'; omega))) oB oB ([0,8,2]:List Int) (e9.rd) oB oB (show ¬b=gc from by first | omega | (have:=e9.base_le G; omega))) G ?_
     rintro e yQ ⟨gN,rq,q3,rfl,nB,pm,ki,bL⟩
     refine ⟨_,G,?_⟩
     have uZ:=bL.size
     have iC:=cE.step bL (fun _ _ e=>.inl e)
     have oY:(0:Int)≤gN∧gN≤8:=mem_rngB (lo:=0) (hi:=8) oG ki
     refine Qn ⟨iC,_,G,(Ag oC G (fd _ _ (⟨b,dw,gN,rq,q3,J,(At.r G),iC,((gm.kn bL).down),((gn.kn bL).down),nB,(mf.kn bL),lL,pm,ki,oY⟩)))⟩
    ·refine Ql (vs:=[i6 0,i6 5]) (L:=([0,5]:List Int)) (enc:=encI) tel93 (fun _=>G) G G G oG ?_
     intro d2 yR sH ay mN
     have u0:=ay.size
     have iD:=cE.lo ay
     refine Qn ⟨iD,_,G,(Ag oC G (dr _ _ (⟨b,dw,J,d2,(At.r G),iD,((e9.lo ay).down),((gm.lo ay).down),((gn.lo ay).down),(mN.down),(me.lo ay),(mf.lo ay),ql,qm,(fun b_ h h'=>(nE (g:=d2) e9) (h.trans h'.symm)),lL,(fun b_ h h'=>(nE (g:=d2) gm) (h.trans h'.symm)),(fun b_ h h'=>(nE (g:=d2) gn) (h.trans h'.symm))⟩)))⟩
   refine Av #[true,true,false,true,true,true,false,false,true,true,false,true,true,false,false,false] 7 (fun f' w'=>∃ (b:Nat) (dx:Nat) (al:Nat),At f' [(0,pt gc),(4,pt u),(5,pt n),(6,pt F),(40,pt gc),(41,.slice (pA b) 3 3),(43,pt gc),(45,i6 m.Id),(48,pt gc),(49,.slice (pA al) 2 2),(51,pt gc),(52,.slice (pA dx) 3 3)]∧(Kp (fun b_=>b_=gc∨b_=u) f w')∧(SlO w' f.heap.size encI 1 3 (pA b) 3 3 ([0,8,2]:List Int))∧(SlO w' f.heap.size encI 1 3 (pA dx) 3 3 ([0,1,(-1)]:List Int))∧(SlO w' f.heap.size encI 1 3 (pA al) 2 2 ([0,5]:List Int))∧(Blk w' gc ec [.slice Ac nc cc,i6 A,.int .u64 V])∧(Blk w' u 106 [i6 0,i6 0,i6 0,i6 0])∧(∀ b_,(pA b)=some ⟨b_,0,none⟩→¬(pA dx)=some ⟨b_,0,none⟩)∧(∀ b_,(pA b)=some ⟨b_,0,none⟩→¬(pA al)=some ⟨b_,0,none⟩)∧(∀ b_,(pA dx)=some ⟨b_,0,none⟩→¬(pA al)=some ⟨b_,0,none⟩)) ?_ (fun fh=>?_)
   ·rintro wQ rQ ⟨b,dx,al,lm,cF,fa,gw,gx,mg,mh,qn,qo,lN⟩
    rw [← sA lm]
    have u1:=cF.size
    refine Ar [2,6] oC G ⟨Bm G trivial ?_,Bm G trivial ?_,trivial⟩
    ·refine Qc ent58 (c___spec_l1Cur__among rQ Lc A V mg ((O.kn v).kp cF (fun b_ hb e'=>e'.elim (fun e'=>by have e'':b_=gc:=e'; omega) (fun e'=>by have e'':b_=u:=e'; omega))) oB oB ([0,8,2]:List Int) (fa.rd) oB oB (show ¬b=gc from by first | omega | (have:=fa.base_le G; omega))) G ?_
     rintro e yS ⟨gO,rr,q4,rfl,nC,pn,kj,bM⟩
     refine ⟨_,G,?_⟩
     have u2:=bM.size
     have iE:=cF.step bM (fun _ _ e=>.inl e)
     have oZ:(0:Int)≤gO∧gO≤8:=mem_rngB (lo:=0) (hi:=8) oG kj
     refine Qn ⟨iE,_,G,(Ag oC G (fe _ _ (⟨b,dx,gO,rr,q4,al,(At.r G),iE,((gw.kn bM).down),((gx.kn bM).down),nC,(mh.kn bM),lN,pn,kj,oZ⟩)))⟩
    ·refine Ql (vs:=[i6 0,i6 m.Id,i6 100]) (L:=([0,m.Id,100]:List Int)) (enc:=encI) tel93 (fun _=>G) G G G oG ?_
     intro d3 yT sI az mO
     have u4:=az.size
     have iF:=cF.lo az
     refine Qn ⟨iF,_,G,(Ag oC G (dr _ _ (⟨b,dx,d3,al,(At.r G),iF,((fa.lo az).down),((gw.lo az).down),(mO.down),((gx.lo az).down),(mg.lo az),(mh.lo az),qn,(fun b_ h h'=>(nE (g:=d3) fa) (h.trans h'.symm)),qo,(fun b_ h h'=>(nE (g:=d3) gw) (h.trans h'.symm)),lN,(fun b_ h h'=>(nE (g:=d3) gx) (h'.trans h.symm))⟩)))⟩
   refine Av #[true,false,false,true,true,true,true,false,true,true,false,true,true,false,false,false] 7 (fun f' w'=>∃ (cj:Nat) (K:Nat) (ac:Nat),At f' [(0,pt gc),(4,pt u),(5,pt n),(6,pt F),(40,pt gc),(43,pt gc),(46,.slice (pA K) 3 3),(48,pt gc),(49,.slice (pA ac) 2 2),(51,pt gc),(52,.slice (pA cj) 3 3)]∧(Kp (fun b_=>b_=gc∨b_=u) f w')∧(SlO w' f.heap.size encI 1 3 (pA cj) 3 3 ([0,1,(-1)]:List Int))∧(SlO w' f.heap.size encI 1 3 (pA K) 3 3 ([0,m.Id,100]:List Int))∧(SlO w' f.heap.size encI 1 3 (pA ac) 2 2 ([0,5]:List Int))∧(Blk w' gc ec [.slice Ac nc cc,i6 A,.int .u64 V])∧(Blk w' u 106 [i6 0,i6 0,i6 0,i6 0])∧(∀ b_,(pA cj)=some ⟨b_,0,none⟩→¬(pA K)=some ⟨b_,0,none⟩)∧(∀ b_,(pA cj)=some ⟨b_,0,none⟩→¬(pA ac)=some ⟨b_,0,none⟩)∧(∀ b_,(pA K)=some ⟨b_,0,none⟩→¬(pA ac)=some ⟨b_,0,none⟩)) ?_ (fun fj=>?_)
   ·rintro wR yU ⟨cj,K,ac,ln,hG,jN,jO,jP,n5,n6,nZ,n3,n4⟩
    rw [← sA ln]
    have u5:=hG.size
    refine Ab 1 G (Ql (vs:=[i6 0,i6 8,i6 2]) (L:=([0,8,2]:List Int)) (enc:=encI) tel93 (fun _=>G) G G G oG ?_)
    intro d4 yV sJ aA mQ
    have u6:=aA.size
    have iG:=hG.lo aA
    refine Qn ⟨iG,_,G,(Ag oC G (dr _ _ (⟨d4,cj,K,ac,(At.r G),iG,(mQ.down),((jN.lo aA).down),((jO.lo aA).down),((jP.lo aA).down),(n5.lo aA),(n6.lo aA),(fun b_ h h'=>(nE (g:=d4) jN) (h'.trans h.symm)),(fun b_ h h'=>(nE (g:=d4) jO) (h'.trans h.symm)),(fun b_ h h'=>(nE (g:=d4) jP) (h'.trans h.symm)),nZ,n3,n4⟩)))⟩
   refine Av #[true,true,false,true,true,true,true,false,true,false,false,true,false,false,false,false] 8 (fun f' w'=>∃ (b:Nat) (J:Nat),At f' [(0,pt gc),(4,pt u),(5,pt n),(6,pt F),(40,pt gc),(41,.slice (pA b) 3 3),(43,pt gc),(46,.slice (pA J) 3 3),(48,pt gc),(51,pt gc)]∧(Kp (fun b_=>b_=gc∨b_=u) f w')∧(SlO w' f.heap.size encI 1 3 (pA b) 3 3 ([0,8,2]:List Int))∧(SlO w' f.heap.size encI 1 3 (pA J) 3 3 ([0,m.Id,100]:List Int))∧(Blk w' gc ec [.slice Ac nc cc,i6 A,.int .u64 V])∧(Blk w' u 106 [i6 0,i6 0,i6 0,i6 0])∧(∀ b_,(pA b)=some ⟨b_,0,none⟩→¬(pA J)=some ⟨b_,0,none⟩)) ?_ (fun j1=>?_)
   ·rintro wS rR ⟨b,J,lp,bu,co,dC,gi,gj,lJ⟩
    rw [← sA lp]
    have u7:=bu.size
    refine Ar [2,9,12] oC G ⟨Bm G trivial ?_,Bm G trivial ?_,Bm G trivial ?_,trivial⟩
    ·refine Qc ent58 (c___spec_l1Cur__among rR Lc A V gi ((O.kn v).kp bu (fun b_ hb e'=>e'.elim (fun e'=>by have e'':b_=gc:=e'; omega) (fun e'=>by have e'':b_=u:=e'; omega))) oB oB ([0,8,2]:List Int) (co.rd) oB oB (show ¬b=gc from by first | omega | (have:=co.base_le G; omega))) G ?_
     rintro e yW ⟨gP,rt,q5,rfl,nD,po,kk,cT⟩
     refine ⟨_,G,?_⟩
     have va:=cT.size
     have iH:=bu.step cT (fun _ _ e=>.inl e)
     have o0:(0:Int)≤gP∧gP≤8:=mem_rngB (lo:=0) (hi:=8) oG kk
     refine Qn ⟨iH,_,G,(Ag oC G (jY _ _ (⟨b,gP,rt,q5,J,(At.r G),iH,((dC.kn cT).down),nD,(gj.kn cT),po,kk,o0⟩)))⟩
    ·refine Ql (vs:=[i6 0,i6 5]) (L:=([0,5]:List Int)) (enc:=encI) tel93 (fun _=>G) G G G oG ?_
     intro fE yX sK aV mR
     have vb:=aV.size
     have iI:=bu.lo aV
     refine Qn ⟨iI,_,G,(Ag oC G (ff _ _ (⟨b,J,fE,(At.r G),iI,((co.lo aV).down),((dC.lo aV).down),(mR.down),(gi.lo aV),(gj.lo aV),lJ,(fun b_ h h'=>(nE (g:=fE) co) (h.trans h'.symm)),(fun b_ h h'=>(nE (g:=fE) dC) (h.trans h'.symm))⟩)))⟩
    ·refine Ql (vs:=[i6 0,i6 1,i6 (-1)]) (L:=([0,1,(-1)]:List Int)) (enc:=encI) tel93 (fun _=>G) G G G oG ?_
     intro fF yY sL aW mU
     have vc:=aW.size
     have iJ:=bu.lo aW
     refine Qn ⟨iJ,_,G,(Ag oC G (fg _ _ (⟨b,fF,J,(At.r G),iJ,((co.lo aW).down),(mU.down),((dC.lo aW).down),(gi.lo aW),(gj.lo aW),(fun b_ h h'=>(nE (g:=fF) co) (h.trans h'.symm)),lJ,(fun b_ h h'=>(nE (g:=fF) dC) (h'.trans h.symm))⟩)))⟩
   refine Av #[true,true,false,true,true,true,false,false,true,true,false,true,false,false,false,false] 8 (fun f' w'=>∃ (b:Nat) (al:Nat),At f' [(0,pt gc),(4,pt u),(5,pt n),(6,pt F),(40,pt gc),(41,.slice (pA b) 3 3),(43,pt gc),(45,i6 m.Id),(48,pt gc),(49,.slice (pA al) 2 2),(51,pt gc)]∧(Kp (fun b_=>b_=gc∨b_=u) f w')∧(SlO w' f.heap.size encI 1 3 (pA b) 3 3 ([0,8,2]:List Int))∧(SlO w' f.heap.size encI 1 3 (pA al) 2 2 ([0,5]:List Int))∧(Blk w' gc ec [.slice Ac nc cc,i6 A,.int .u64 V])∧(Blk w' u 106 [i6 0,i6 0,i6 0,i6 0])∧(∀ b_,(pA b)=some ⟨b_,0,none⟩→¬(pA al)=some ⟨b_,0,none⟩)) ?_ (fun j2=>?_)
   ·rintro wT rS ⟨b,al,lq,bw,cp,dD,gp,gr,lM⟩
    rw [← sA lq]
    have vd:=bw.size
    refine Ar [2,6,12] oC G ⟨Bm G trivial ?_,Bm G trivial ?_,Bm G trivial ?_,trivial⟩
    ·refine Qc ent58 (c___spec_l1Cur__among rS Lc A V gp ((O.kn v).kp bw (fun b_ hb e'=>e'.elim (fun e'=>by have e'':b_=gc:=e'; omega) (fun e'=>by have e'':b_=u:=e'; omega))) oB oB ([0,8,2]:List Int) (cp.rd) oB oB (show ¬b=gc from by first | omega | (have:=cp.base_le G; omega))) G ?_
     rintro e yZ ⟨gQ,ru,q6,rfl,nF,pp,kl,cU⟩
     refine ⟨_,G,?_⟩
     have ve:=cU.size
     have iK:=bw.step cU (fun _ _ e=>.inl e)
     have o1:(0:Int)≤gQ∧gQ≤8:=mem_rngB (lo:=0) (hi:=8) oG kl
     refine Qn ⟨iK,_,G,(Ag oC G (jZ _ _ (⟨b,gQ,ru,q6,al,(At.r G),iK,((dD.kn cU).down),nF,(gr.kn cU),pp,kl,o1⟩)))⟩
    ·refine Ql (vs:=[i6 0,i6 m.Id,i6 100]) (L:=([0,m.Id,100]:List Int)) (enc:=encI) tel93 (fun _=>G) G G G oG ?_
     intro fG y0 sM aX mV
     have vf:=aX.size
     have iL:=bw.lo aX
     refine Qn ⟨iL,_,G,(Ag oC G (ff _ _ (⟨b,fG,al,(At.r G),iL,((cp.lo aX).down),(mV.down),((dD.lo aX).down),(gp.lo aX),(gr.lo aX),(fun b_ h h'=>(nE (g:=fG) cp) (h.trans h'.symm)),lM,(fun b_ h h'=>(nE (g:=fG) dD) (h'.trans h.symm))⟩)))⟩
    ·refine Ql (vs:=[i6 0,i6 1,i6 (-1)]) (L:=([0,1,(-1)]:List Int)) (enc:=encI) tel93 (fun _=>G) G G G oG ?_
     intro fH y1 sN aY mW
     have vg:=aY.size
     have iM:=bw.lo aY
     refine Qn ⟨iM,_,G,(Ag oC G (fh _ _ (⟨b,fH,al,(At.r G),iM,((cp.lo aY).down),(mW.down),((dD.lo aY).down),(gp.lo aY),(gr.lo aY),(fun b_ h h'=>(nE (g:=fH) cp) (h.trans h'.symm)),lM,(fun b_ h h'=>(nE (g:=fH) dD) (h'.trans h.symm))⟩)))⟩
   refine Av #[true,true,false,true,true,true,false,false,true,false,false,true,true,false,false,false] 8 (fun f' w'=>∃ (b:Nat) (bj:Nat),At f' [(0,pt gc),(4,pt u),(5,pt n),(6,pt F),(40,pt gc),(41,.slice (pA b) 3 3),(43,pt gc),(45,i6 m.Id),(48,pt gc),(51,pt gc),(52,.slice (pA bj) 3 3)]∧(Kp (fun b_=>b_=gc∨b_=u) f w')∧(SlO w' f.heap.size encI 1 3 (pA b) 3 3 ([0,8,2]:List Int))∧(SlO w' f.heap.size encI 1 3 (pA bj) 3 3 ([0,1,(-1)]:List Int))∧(Blk w' gc ec [.slice Ac nc cc,i6 A,.int .u64 V])∧(Blk w' u 106 [i6 0,i6 0,i6 0,i6 0])∧(∀ b_,(pA b)=some ⟨b_,0,none⟩→¬(pA bj)=some ⟨b_,0,none⟩)) ?_ (fun j3=>?_)
   ·rintro wU rT ⟨b,bj,ls,bz,bh,cf,eO,eP,jz⟩
    rw [← sA ls]
    have vh:=bz.size
    refine Ar [2,6,9] oC G ⟨Bm G trivial ?_,Bm G trivial ?_,Bm G trivial ?_,trivial⟩
    ·refine Qc ent58 (c___spec_l1Cur__among rT Lc A V eO ((O.kn v).kp bz (fun b_ hb e'=>e'.elim (fun e'=>by have e'':b_=gc:=e'; omega) (fun e'=>by have e'':b_=u:=e'; omega))) oB oB ([0,8,2]:List Int) (bh.rd) oB oB (show ¬b=gc from by first | omega | (have:=bh.base_le G; omega))) G ?_
     rintro e y2 ⟨gR,rv,q7,rfl,nG,pq,km,cX⟩
     refine ⟨_,G,?_⟩
     have vi:=cX.size
     have iN:=bz.step cX (fun _ _ e=>.inl e)
     have o2:(0:Int)≤gR∧gR≤8:=mem_rngB (lo:=0) (hi:=8) oG km
     refine Qn ⟨iN,_,G,(Ag oC G (j0 _ _ (⟨b,bj,gR,rv,q7,(At.r G),iN,((cf.kn cX).down),nG,(eP.kn cX),pq,km,o2⟩)))⟩
    ·refine Ql (vs:=[i6 0,i6 m.Id,i6 100]) (L:=([0,m.Id,100]:List Int)) (enc:=encI) tel93 (fun _=>G) G G G oG ?_
     intro fI y9 sO aZ mX
     have vj:=aZ.size
     have iO:=bz.lo aZ
     refine Qn ⟨iO,_,G,(Ag oC G (fg _ _ (⟨b,bj,fI,(At.r G),iO,((bh.lo aZ).down),((cf.lo aZ).down),(mX.down),(eO.lo aZ),(eP.lo aZ),jz,(fun b_ h h'=>(nE (g:=fI) bh) (h.trans h'.symm)),(fun b_ h h'=>(nE (g:=fI) cf) (h.trans h'.symm))⟩)))⟩
    ·refine Ql (vs:=[i6 0,i6 5]) (L:=([0,5]:List Int)) (enc:=encI) tel93 (fun _=>G) G G G oG ?_
     intro fJ za sP a6 mY
     have vk:=a6.size
     have iP:=bz.lo a6
     refine Qn ⟨iP,_,G,(Ag oC G (fh _ _ (⟨b,bj,fJ,(At.r G),iP,((bh.lo a6).down),((cf.lo a6).down),(mY.down),(eO.lo a6),(eP.lo a6),jz,(fun b_ h h'=>(nE (g:=fJ) bh) (h.trans h'.symm)),(fun b_ h h'=>(nE (g:=fJ) cf) (h.trans h'.symm))⟩)))⟩
   refine Av #[true,false,false,true,true,true,true,false,true,true,false,true,false,false,false,false] 8 (fun f' w'=>∃ (K:Nat) (ac:Nat),At f' [(0,pt gc),(4,pt u),(5,pt n),(6,pt F),(40,pt gc),(43,pt gc),(46,.slice (pA K) 3 3),(48,pt gc),(49,.slice (pA ac) 2 2),(51,pt gc)]∧(Kp (fun b_=>b_=gc∨b_=u) f w')∧(SlO w' f.heap.size encI 1 3 (pA K) 3 3 ([0,m.Id,100]:List Int))∧(SlO w' f.heap.size encI 1 3 (pA ac) 2 2 ([0,5]:List Int))∧(Blk w' gc ec [.slice Ac nc cc,i6 A,.int .u64 V])∧(Blk w' u 106 [i6 0,i6 0,i6 0,i6 0])∧(∀ b_,(pA K)=some ⟨b_,0,none⟩→¬(pA ac)=some ⟨b_,0,none⟩)) ?_ (fun j4=>?_)
   ·rintro wV zb ⟨K,ac,lu,ef,df,dg,jL,jM,jA⟩
    rw [← sA lu]
    have vl:=ef.size
    refine Ar [1,12] oC G ⟨Bm G trivial ?_,Bm G trivial ?_,trivial⟩
    ·refine Ql (vs:=[i6 0,i6 8,i6 2]) (L:=([0,8,2]:List Int)) (enc:=encI) tel93 (fun _=>G) G G G oG ?_
     intro fK zc sQ a7 mZ
     have vm:=a7.size
     have iQ:=ef.lo a7
     refine Qn ⟨iQ,_,G,(Ag oC G (ff _ _ (⟨fK,K,ac,(At.r G),iQ,(mZ.down),((df.lo a7).down),((dg.lo a7).down),(jL.lo a7),(jM.lo a7),(fun b_ h h'=>(nE (g:=fK) df) (h'.trans h.symm)),(fun b_ h h'=>(nE (g:=fK) dg) (h'.trans h.symm)),jA⟩)))⟩
    ·refine Ql (vs:=[i6 0,i6 1,i6 (-1)]) (L:=([0,1,(-1)]:List Int)) (enc:=encI) tel93 (fun _=>G) G G G oG ?_
     intro fL zd sR a8 m0
     have vn:=a8.size
     have iR:=ef.lo a8
     refine Qn ⟨iR,_,G,(Ag oC G (fj _ _ (⟨fL,K,ac,(At.r G),iR,(m0.down),((df.lo a8).down),((dg.lo a8).down),(jL.lo a8),(jM.lo a8),(fun b_ h h'=>(nE (g:=fL) df) (h'.trans h.symm)),(fun b_ h h'=>(nE (g:=fL) dg) (h'.trans h.symm)),jA⟩)))⟩
   refine Av #[true,false,false,true,true,true,true,false,true,false,false,true,true,false,false,false] 8 (fun f' w'=>∃ (ck:Nat) (K:Nat),At f' [(0,pt gc),(4,pt u),(5,pt n),(6,pt F),(40,pt gc),(43,pt gc),(46,.slice (pA K) 3 3),(48,pt gc),(51,pt gc),(52,.slice (pA ck) 3 3)]∧(Kp (fun b_=>b_=gc∨b_=u) f w')∧(SlO w' f.heap.size encI 1 3 (pA ck) 3 3 ([0,1,(-1)]:List Int))∧(SlO w' f.heap.size encI 1 3 (pA K) 3 3 ([0,m.Id,100]:List Int))∧(Blk w' gc ec [.slice Ac nc cc,i6 A,.int .u64 V])∧(Blk w' u 106 [i6 0,i6 0,i6 0,i6 0])∧(∀ b_,(pA ck)=some ⟨b_,0,none⟩→¬(pA K)=some ⟨b_,0,none⟩)) ?_ (fun j5=>?_)
   ·rintro wW ze ⟨ck,K,lv,eg,dh,di,jQ,jR,jB⟩
    rw [← sA lv]
    have vo:=eg.size
    refine Ar [1,9] oC G ⟨Bm G trivial ?_,Bm G trivial ?_,trivial⟩
    ·refine Ql (vs:=[i6 0,i6 8,i6 2]) (L:=([0,8,2]:List Int)) (enc:=encI) tel93 (fun _=>G) G G G oG ?_
     intro fM zf sS ba m1
     have vp:=ba.size
     have iS:=eg.lo ba
     refine Qn ⟨iS,_,G,(Ag oC G (fg _ _ (⟨fM,ck,K,(At.r G),iS,(m1.down),((dh.lo ba).down),((di.lo ba).down),(jQ.lo ba),(jR.lo ba),(fun b_ h h'=>(nE (g:=fM) dh) (h'.trans h.symm)),(fun b_ h h'=>(nE (g:=fM) di) (h'.trans h.symm)),jB⟩)))⟩
    ·refine Ql (vs:=[i6 0,i6 5]) (L:=([0,5]:List Int)) (enc:=encI) tel93 (fun _=>G) G G G oG ?_
     intro fN zg sT bb m2
     have vq:=bb.size
     have iT:=eg.lo bb
     refine Qn ⟨iT,_,G,(Ag oC G (fj _ _ (⟨ck,K,fN,(At.r G),iT,((dh.lo bb).down),((di.lo bb).down),(m2.down),(jQ.lo bb),(jR.lo bb),jB,(fun b_ h h'=>(nE (g:=fN) dh) (h.trans h'.symm)),(fun b_ h h'=>(nE (g:=fN) di) (h.trans h'.symm))⟩)))⟩
   refine Av #[true,false,false,true,true,true,false,false,true,true,false,true,true,false,false,false] 8 (fun f' w'=>∃ (cm:Nat) (cl:Nat),At f' [(0,pt gc),(4,pt u),(5,pt n),(6,pt F),(40,pt gc),(43,pt gc),(45,i6 m.Id),(48,pt gc),(49,.slice (pA cl) 2 2),(51,pt gc),(52,.slice (pA cm) 3 3)]∧(Kp (fun b_=>b_=gc∨b_=u) f w')∧(SlO w' f.heap.size encI 1 3 (pA cm) 3 3 ([0,1,(-1)]:List Int))∧(SlO w' f.heap.size encI 1 3 (pA cl) 2 2 ([0,5]:List Int))∧(Blk w' gc ec [.slice Ac nc cc,i6 A,.int .u64 V])∧(Blk w' u 106 [i6 0,i6 0,i6 0,i6 0])∧(∀ b_,(pA cm)=some ⟨b_,0,none⟩→¬(pA cl)=some ⟨b_,0,none⟩)) ?_ (fun j6=>?_)
   ·rintro wX zi ⟨cm,cl,lw,eh,dk,dm,jS,jT,jC⟩
    rw [← sA lw]
    have vr:=eh.size
    refine Ar [1,6] oC G ⟨Bm G trivial ?_,Bm G trivial ?_,trivial⟩
    ·refine Ql (vs:=[i6 0,i6 8,i6 2]) (L:=([0,8,2]:List Int)) (enc:=encI) tel93 (fun _=>G) G G G oG ?_
     intro fO zj sU bc m3
     have vt:=bc.size
     have iU:=eh.lo bc
     refine Qn ⟨iU,_,G,(Ag oC G (fh _ _ (⟨fO,cm,cl,(At.r G),iU,(m3.down),((dk.lo bc).down),((dm.lo bc).down),(jS.lo bc),(jT.lo bc),(fun b_ h h'=>(nE (g:=fO) dk) (h'.trans h.symm)),(fun b_ h h'=>(nE (g:=fO) dm) (h'.trans h.symm)),jC⟩)))⟩
    ·refine Ql (vs:=[i6 0,i6 m.Id,i6 100]) (L:=([0,m.Id,100]:List Int)) (enc:=encI) tel93 (fun _=>G) G G G oG ?_
     intro fP zk sV be m4
     have vu:=be.size
     have iV:=eh.lo be
     refine Qn ⟨iV,_,G,(Ag oC G (fj _ _ (⟨cm,fP,cl,(At.r G),iV,((dk.lo be).down),(m4.down),((dm.lo be).down),(jS.lo be),(jT.lo be),(fun b_ h h'=>(nE (g:=fP) dk) (h.trans h'.symm)),jC,(fun b_ h h'=>(nE (g:=fP) dm) (h'.trans h.symm))⟩)))⟩
   refine Ak 0 G (kr j) (fun w' hw'=>mP G)<|Ak 3 G (kr j) (fun w' hw'=>mP G)<|Ak 4 G (kr j) (fun w' hw'=>fA fa102_0 G)<|Ak 5 G (kr j) (fun w' hw'=>lB sca3 G ((ga.kn v).kp hw' (fun e'=>e'.elim (fun e'=>by have e'':n=gc:=e'; omega) (fun e'=>by have e'':n=u:=e'; omega))) G)<|Ak 8 G (kr j) (fun w' hw'=>mP G)<|Ak 11 G (kr j) (fun w' hw'=>mP G)<|Ar [1,6,9,12] oC G ⟨Bm G trivial ?_,Bm G trivial ?_,Bm G trivial ?_,Bm G trivial ?_,trivial⟩
   ·refine Ql (vs:=[i6 0,i6 8,i6 2]) (L:=([0,8,2]:List Int)) (enc:=encI) tel93 (fun _=>G) G G G oG ?_
    intro bl rU sW R an
    have vv:=R.size
    have bA:=((kr j:Kp (fun b_=>b_=gc∨b_=u) f _)).lo R
    refine Qn ⟨bA,_,G,(Ar [2,6,9,12] oC G ⟨Bm G trivial ?_,Bm G trivial ?_,Bm G trivial ?_,Bm G trivial ?_,trivial⟩)⟩
    ·refine Qc ent58 (c___spec_l1Cur__among rU Lc A V ((X.lo j).lo R) (((O.kn v).lo j).lo R) oB oB ([0,8,2]:List Int) (an.rd) oB oB (show ¬bl=gc from by first | omega | (have:=an.base_le G; omega))) G ?_
     rintro e zn ⟨dM,gH,gA,rfl,ex,fm,dt,bN⟩
     refine ⟨_,G,?_⟩
     have vw:=bN.size
     have cG:=bA.step bN (fun _ _ e=>.inl e)
     have fl:(0:Int)≤dM∧dM≤8:=mem_rngB (lo:=0) (hi:=8) oG dt
     refine Qn ⟨cG,_,G,(Ar [6,9,12] oC G ⟨Bm G trivial ?_,Bm G trivial ?_,Bm G trivial ?_,trivial⟩)⟩
     ·refine Ql (vs:=[i6 0,i6 m.Id,i6 100]) (L:=([0,m.Id,100]:List Int)) (enc:=encI) tel93 (fun _=>G) G G G oG ?_
      intro pP zo sX cY m5
      have vx:=cY.size
      have iW:=cG.lo cY
      refine Qn ⟨iW,_,G,(Ag oC G (jY _ _ (⟨bl,dM,gH,gA,pP,(At.r G),iW,(m5.down),(ex.lo cY),(((((P.kn v).lo j).lo R).kn bN).lo cY),fm,dt,fl⟩)))⟩
     ·refine Ql (vs:=[i6 0,i6 5]) (L:=([0,5]:List Int)) (enc:=encI) tel93 (fun _=>G) G G G oG ?_
      intro pQ zp sY cZ m6
      have vy:=cZ.size
      have iX:=cG.lo cZ
      refine Qn ⟨iX,_,G,(Ag oC G (jZ _ _ (⟨bl,dM,gH,gA,pQ,(At.r G),iX,(m6.down),(ex.lo cZ),(((((P.kn v).lo j).lo R).kn bN).lo cZ),fm,dt,fl⟩)))⟩
     ·refine Ql (vs:=[i6 0,i6 1,i6 (-1)]) (L:=([0,1,(-1)]:List Int)) (enc:=encI) tel93 (fun _=>G) G G G oG ?_
      intro pR zq sZ c6 m7
      have vz:=c6.size
      have iY:=cG.lo c6
      refine Qn ⟨iY,_,G,(Ag oC G (j0 _ _ (⟨bl,pR,dM,gH,gA,(At.r G),iY,(m7.down),(ex.lo c6),(((((P.kn v).lo j).lo R).kn bN).lo c6),fm,dt,fl⟩)))⟩
    ·refine Ql (vs:=[i6 0,i6 m.Id,i6 100]) (L:=([0,m.Id,100]:List Int)) (enc:=encI) tel93 (fun _=>G) G G G oG ?_
     intro kI zr s1 bO m8
     have vA:=bO.size
     have iZ:=bA.lo bO
     refine Qn ⟨iZ,_,G,(Ag oC G (j1 _ _ (⟨bl,kI,(At.r G),iZ,((an.lo bO).down),(m8.down),(((X.lo j).lo R).lo bO),((((P.kn v).lo j).lo R).lo bO),(fun b_ h h'=>(nE (g:=kI) an) (h.trans h'.symm))⟩)))⟩
    ·refine Ql (vs:=[i6 0,i6 5]) (L:=([0,5]:List Int)) (enc:=encI) tel93 (fun _=>G) G G G oG ?_
     intro kJ zs s2 bP m9
     have vB:=bP.size
     have i1:=bA.lo bP
     refine Qn ⟨i1,_,G,(Ag oC G (j2 _ _ (⟨bl,kJ,(At.r G),i1,((an.lo bP).down),(m9.down),(((X.lo j).lo R).lo bP),((((P.kn v).lo j).lo R).lo bP),(fun b_ h h'=>(nE (g:=kJ) an) (h.trans h'.symm))⟩)))⟩
    ·refine Ql (vs:=[i6 0,i6 1,i6 (-1)]) (L:=([0,1,(-1)]:List Int)) (enc:=encI) tel93 (fun _=>G) G G G oG ?_
     intro kK zt s3 bQ na
     have vC:=bQ.size
     have i7:=bA.lo bQ
     refine Qn ⟨i7,_,G,(Ag oC G (j3 _ _ (⟨bl,kK,(At.r G),i7,((an.lo bQ).down),(na.down),(((X.lo j).lo R).lo bQ),((((P.kn v).lo j).lo R).lo bQ),(fun b_ h h'=>(nE (g:=kK) an) (h.trans h'.symm))⟩)))⟩
   ·refine Ql (vs:=[i6 0,i6 m.Id,i6 100]) (L:=([0,m.Id,100]:List Int)) (enc:=encI) tel93 (fun _=>G) G G G oG ?_
    intro fQ zu s4 ao aM
    have vD:=ao.size
    have cH:=((kr j:Kp (fun b_=>b_=gc∨b_=u) f _)).lo ao
    refine Qn ⟨cH,_,G,(Ar [1,9,12] oC G ⟨Bm G trivial ?_,Bm G trivial ?_,Bm G trivial ?_,trivial⟩)⟩
    ·refine Ql (vs:=[i6 0,i6 8,i6 2]) (L:=([0,8,2]:List Int)) (enc:=encI) tel93 (fun _=>G) G G G oG ?_
     intro kL zv s8 bR nb
     have vE:=bR.size
     have i8:=cH.lo bR
     refine Qn ⟨i8,_,G,(Ag oC G (j1 _ _ (⟨kL,fQ,(At.r G),i8,(nb.down),((aM.lo bR).down),(((X.lo j).lo ao).lo bR),((((P.kn v).lo j).lo ao).lo bR),(fun b_ h h'=>(nE (g:=kL) aM) (h'.trans h.symm))⟩)))⟩
    ·refine Ql (vs:=[i6 0,i6 5]) (L:=([0,5]:List Int)) (enc:=encI) tel93 (fun _=>G) G G G oG ?_
     intro kM zw s9 bS nd
     have vF:=bS.size
     have ja:=cH.lo bS
     refine Qn ⟨ja,_,G,(Ag oC G (j4 _ _ (⟨fQ,kM,(At.r G),ja,((aM.lo bS).down),(nd.down),(((X.lo j).lo ao).lo bS),((((P.kn v).lo j).lo ao).lo bS),(fun b_ h h'=>(nE (g:=kM) aM) (h.trans h'.symm))⟩)))⟩
    ·refine Ql (vs:=[i6 0,i6 1,i6 (-1)]) (L:=([0,1,(-1)]:List Int)) (enc:=encI) tel93 (fun _=>G) G G G oG ?_
     intro kN zy ta bT nf
     have vG:=bT.size
     have jc:=cH.lo bT
     refine Qn ⟨jc,_,G,(Ag oC G (j5 _ _ (⟨kN,fQ,(At.r G),jc,(nf.down),((aM.lo bT).down),(((X.lo j).lo ao).lo bT),((((P.kn v).lo j).lo ao).lo bT),(fun b_ h h'=>(nE (g:=kN) aM) (h'.trans h.symm))⟩)))⟩
   ·refine Ql (vs:=[i6 0,i6 5]) (L:=([0,5]:List Int)) (enc:=encI) tel93 (fun _=>G) G G G oG ?_
    intro fR zz td ap aN
    have vH:=ap.size
    have cI:=((kr j:Kp (fun b_=>b_=gc∨b_=u) f _)).lo ap
    refine Qn ⟨cI,_,G,(Ar [1,6,12] oC G ⟨Bm G trivial ?_,Bm G trivial ?_,Bm G trivial ?_,trivial⟩)⟩
    ·refine Ql (vs:=[i6 0,i6 8,i6 2]) (L:=([0,8,2]:List Int)) (enc:=encI) tel93 (fun _=>G) G G G oG ?_
     intro kO zA tf bU ng
     have vI:=bU.size
     have jd:=cI.lo bU
     refine Qn ⟨jd,_,G,(Ag oC G (j2 _ _ (⟨kO,fR,(At.r G),jd,(ng.down),((aN.lo bU).down),(((X.lo j).lo ap).lo bU),((((P.kn v).lo j).lo ap).lo bU),(fun b_ h h'=>(nE (g:=kO) aN) (h'.trans h.symm))⟩)))⟩
    ·refine Ql (vs:=[i6 0,i6 m.Id,i6 100]) (L:=([0,m.Id,100]:List Int)) (enc:=encI) tel93 (fun _=>G) G G G oG ?_
     intro kP zB tg bV nh
     have vJ:=bV.size
     have je:=cI.lo bV
     refine Qn ⟨je,_,G,(Ag oC G (j4 _ _ (⟨kP,fR,(At.r G),je,(nh.down),((aN.lo bV).down),(((X.lo j).lo ap).lo bV),((((P.kn v).lo j).lo ap).lo bV),(fun b_ h h'=>(nE (g:=kP) aN) (h'.trans h.symm))⟩)))⟩
    ·refine Ql (vs:=[i6 0,i6 1,i6 (-1)]) (L:=([0,1,(-1)]:List Int)) (enc:=encI) tel93 (fun _=>G) G G G oG ?_
     intro kQ zC th bW ni
     have vK:=bW.size
     have jf:=cI.lo bW
     refine Qn ⟨jf,_,G,(Ag oC G (j6 _ _ (⟨kQ,fR,(At.r G),jf,(ni.down),((aN.lo bW).down),(((X.lo j).lo ap).lo bW),((((P.kn v).lo j).lo ap).lo bW),(fun b_ h h'=>(nE (g:=kQ) aN) (h'.trans h.symm))⟩)))⟩
   ·refine Ql (vs:=[i6 0,i6 1,i6 (-1)]) (L:=([0,1,(-1)]:List Int)) (enc:=encI) tel93 (fun _=>G) G G G oG ?_
    intro fS zD ti aq aO
    have vL:=aq.size
    have cJ:=((kr j:Kp (fun b_=>b_=gc∨b_=u) f _)).lo aq
    refine Qn ⟨cJ,_,G,(Ar [1,6,9] oC G ⟨Bm G trivial ?_,Bm G trivial ?_,Bm G trivial ?_,trivial⟩)⟩
    ·refine Ql (vs:=[i6 0,i6 8,i6 2]) (L:=([0,8,2]:List Int)) (enc:=encI) tel93 (fun _=>G) G G G oG ?_
     intro kR zE tj bX nj
     have vM:=bX.size
     have jg:=cJ.lo bX
     refine Qn ⟨jg,_,G,(Ag oC G (j3 _ _ (⟨kR,fS,(At.r G),jg,(nj.down),((aO.lo bX).down),(((X.lo j).lo aq).lo bX),((((P.kn v).lo j).lo aq).lo bX),(fun b_ h h'=>(nE (g:=kR) aO) (h'.trans h.symm))⟩)))⟩
    ·refine Ql (vs:=[i6 0,i6 m.Id,i6 100]) (L:=([0,m.Id,100]:List Int)) (enc:=encI) tel93 (fun _=>G) G G G oG ?_
     intro kS zF tl bY nk
     have vN:=bY.size
     have jh:=cJ.lo bY
     refine Qn ⟨jh,_,G,(Ag oC G (j5 _ _ (⟨fS,kS,(At.r G),jh,((aO.lo bY).down),(nk.down),(((X.lo j).lo aq).lo bY),((((P.kn v).lo j).lo aq).lo bY),(fun b_ h h'=>(nE (g:=kS) aO) (h.trans h'.symm))⟩)))⟩
    ·refine Ql (vs:=[i6 0,i6 5]) (L:=([0,5]:List Int)) (enc:=encI) tel93 (fun _=>G) G G G oG ?_
     intro kT zG tm bZ nl
     have vO:=bZ.size
     have ji:=cJ.lo bZ
     refine Qn ⟨ji,_,G,(Ag oC G (j6 _ _ (⟨fS,kT,(At.r G),ji,((aO.lo bZ).down),(nl.down),(((X.lo j).lo aq).lo bZ),((((P.kn v).lo j).lo aq).lo bZ),(fun b_ h h'=>(nE (g:=kT) aO) (h.trans h'.symm))⟩)))⟩
  rintro wY zH ⟨b,am,aF,dX,du,dZ,fy,mr,c,d,q,y,B,H,aa,ab,lx,hH,qw,qx,E,C,D,aE,aC,aD,mm,mi,mj,yb,xV,xW⟩
  rw [← sA lx]
  have vP:=hH.size
  refine We (retC G G agg106 qx G (⟨(⟨c,B,am,dZ⟩:LibraryStep),fy,mr,eR (eA G),qw,⟨oB,oB⟩,oF,(k1.step hH (fun i_ hi_ e'=>e'.elim (fun e'=>e') (fun e'=>by have e'':i_=u:=e'; omega)))⟩))
 ·refine Wk (Ws (Ws (Wr (Q (mP G)<|Qc ent59 (c___spec_l1Cur__pick f Lc A V X (O.kn v) oB oB 14 oD) G ?_))))
  rintro e fr ⟨k,N,bn,rfl,ey,ud,tA,bf⟩
  refine ⟨_,G,?_⟩
  have vQ:=bf.size
  refine Qn (Wl (Ws (Ws ?_)))
  have dn:=(O.kn v).kn bf
  have eT:=(P.kn v).kn bf
  have jU:=(ga.kn v).kn bf
  refine Wr (Q (r_eq G G)<|Q (aB G)<|Qn (W.thenJ (fun f' w'=>At f' [(0,pt gc),(4,pt u),(5,pt n),(6,pt F),(56,i6 k),(57,.bool (decide (((k=0)∧(k=0))∨((¬(k=0))∧(((k=1)∧(k=1))∨((¬(k=1))∧(k=2)))))))]∧Lo fr w') ?_ ?_))
  ·refine Wd G (fun d5=>?_) (fun d5=>?_)
   ·refine Wk (⟨_,G,⟨G,G,G,G,G,(eDD (jgt d5)),trivial⟩,(lr fr)⟩)
   ·refine Ws (Wr (Q (r_eq G G)<|Q (aB G)<|Qn (Wd G (fun fT=>?_) (fun fT=>?_))))
    ·refine Wk (⟨_,G,⟨G,G,G,G,G,(eDD ((jgt fT).trans (jgf d5))),trivial⟩,(lr fr)⟩)
    ·refine Wr (Q (r_eq G G)<|Q (aB G)<|Qn (⟨_,G,⟨G,G,G,G,G,(eDD ((jgf fT).trans (jgf d5))),trivial⟩,(lr fr)⟩))
  rintro wZ dS ⟨ly,M⟩
  rw [← sA ly]
  have vR:=M.size
  have gU:=(k1.step bf (fun i_ hi_ e'=>e')).lo M
  refine Wd G (fun fU=>?_) (fun fU=>?_)
  ·refine Ws (Wr (Q (mP G)<|Ql (vs:=[i6 1,i6 7,i6 20,i6 33,i6 42,i6 98,i6 99,i6 100]) (L:=([1,7,20,33,42,98,99,100]:List Int)) (enc:=encI) tel93 (fun _=>G) G G G oG ?_))
   intro pS rV tp bg gX
   have vS:=bg.size
   refine Qc ent58 (c___spec_l1Cur__among rV Lc N bn ((ey.lo M).lo bg) ((dn.lo M).lo bg) oB oB ([1,7,20,33,42,98,99,100]:List Int) (gX.rd) oB oB (show ¬pS=gc from by first | omega | (have:=gX.base_le G; omega))) G ?_
   rintro e zJ ⟨dN,rx,q8,rfl,nH,ue,o3,c7⟩
   refine ⟨_,G,?_⟩
   have vT:=c7.size
   have tB:(1:Int)≤dN∧dN≤100:=mem_rngB (lo:=1) (hi:=100) oG o3
   refine Q (mP G)<|Ql (vs:=[i6 1,i6 2,i6 3,i6 50,i6 51]) (L:=([1,2,3,50,51]:List Int)) (enc:=encI) tel93 (fun _=>G) G G G oG ?_
   intro pU rW tq b4 gY
   have vU:=b4.size
   refine Qc ent58 (c___spec_l1Cur__among rW Lc rx q8 (nH.lo b4) ((((dn.lo M).lo bg).kn c7).lo b4) oB oB ([1,2,3,50,51]:List Int) (gY.rd) oB oB (show ¬pU=gc from by first | omega | (have:=gY.base_le G; omega))) G ?_
   rintro e zK ⟨dO,ry,ra,rfl,nI,uf,o4,eF⟩
   refine ⟨_,G,?_⟩
   have vV:=eF.size
   have tC:(1:Int)≤dO∧dO≤51:=mem_rngB (lo:=1) (hi:=51) oG o4
   refine Q (r_build (vs:=[(0,i6 1),(1,i6 dN),(3,i6 dO)]) G (bld106_0_1_3 _ _ _))<|Qw (o:=0) (vs:=[i6 1,i6 dN,i6 0,i6 dO]) agg106.2 G G G G (((((eT.lo M).lo bg).kn c7).lo b4).kn eF) ler G ?_
   intro zL jE tZ nJ
   refine Qn (We (retC G G agg106 nJ G (⟨(⟨1,dN,0,dO⟩:LibraryStep),ry,ra,eR (eA G),(nI.kn jE),⟨oB,oB⟩,oF,(((((gU.lo bg).step c7 (fun i_ hi_ e'=>e')).lo b4).step eF (fun i_ hi_ e'=>e')).new jE)⟩)))
  ·have tD:¬((k=0)∧(k=0)):=(not_or.1 fU).1
   have tE:¬((¬(k=0))∧(((k=1)∧(k=1))∨((¬(k=1))∧(k=2)))):=(not_or.1 fU).2
   refine Ws (Ws (Wr (Q (r_eq G G)<|Q (aB G)<|Qn (W.thenJ (fun f' w'=>At f' [(0,pt gc),(4,pt u),(5,pt n),(6,pt F),(56,i6 k),(68,.bool (decide (((k=3)∧(k=3))∨((¬(k=3))∧(((k=4)∧(k=4))∨((¬(k=4))∧(((k=5)∧(k=5))∨((¬(k=5))∧(k=6)))))))))]∧Lo dS w') ?_ ?_))))
   ·refine Wd G (fun dy=>?_) (fun dy=>?_)
    ·refine Wk (⟨_,G,⟨G,G,G,G,G,(eDD (jgt dy)),trivial⟩,(lr dS)⟩)
    ·refine Ws (Wr (Q (r_eq G G)<|Q (aB G)<|Qn (Wd G (fun d6=>?_) (fun d6=>?_))))
     ·refine Wk (⟨_,G,⟨G,G,G,G,G,(eDD ((jgt d6).trans (jgf dy))),trivial⟩,(lr dS)⟩)
     ·refine Ws (Wr (Q (r_eq G G)<|Q (aB G)<|Qn (Wd G (fun fV=>?_) (fun fV=>?_))))
      ·refine Wk (⟨_,G,⟨G,G,G,G,G,(eDD (((jgt fV).trans (jgf d6)).trans (jgf dy))),trivial⟩,(lr dS)⟩)
      ·refine Wr (Q (r_eq G G)<|Q (aB G)<|Qn (⟨_,G,⟨G,G,G,G,G,(eDD (((jgf fV).trans (jgf d6)).trans (jgf dy))),trivial⟩,(lr dS)⟩))
   rintro w0 cx ⟨lz,Y⟩
   rw [← sA lz]
   have vW:=Y.size
   have gW:=gU.lo Y
   refine Wd G (fun fW=>?_) (fun fW=>?_)
   ·refine Ws (WA (Kp (fun b_=>b_=gc∨b_=u) cx) (fun f' w'=>∃ (pV:Nat) (cq:Int) (dE:Int) (gB:Int),At f' [(0,pt gc),(4,pt u),(5,pt n)]∧(Kp (fun b_=>b_=gc∨b_=u) cx w')∧(Blk w' gc ec [.slice Ac nc cc,i6 dE,.int .u64 gB])∧(Blk w' u 106 [i6 2,i6 m.Id,i6 cq,i6 0])∧(N≤dE∧dE≤N+2)∧(cq∈([5,17,40,999,1000]:List Int))∧((5:Int)≤cq∧cq≤1000)) mo ?_ ?_)
    ·intro zM ar
     have vX:=ar.size
     refine Ak 0 G (kr ar) (fun w' hw'=>fA fa102_0 G)<|Ak 1 G (kr ar) (fun w' hw'=>lB sca3 G (((jU.lo M).lo Y).kp hw' (fun e'=>e'.elim (fun e'=>by have e'':n=gc:=e'; omega) (fun e'=>by have e'':n=u:=e'; omega))) G)<|Ak 2 G (kr ar) (fun w' hw'=>mP G)<|Ab 3 G (Ql (vs:=[i6 5,i6 17,i6 40,i6 999,i6 1000]) (L:=([5,17,40,999,1000]:List Int)) (enc:=encI) tel93 (fun _=>G) G G G oG ?_)
     intro kU rY tr b5 gZ
     have vY:=b5.size
     have jj:=((kr ar:Kp (fun b_=>b_=gc∨b_=u) cx _)).lo b5
     refine Qn ⟨jj,_,G,(Ab 4 G (Qc ent58 (c___spec_l1Cur__among rY Lc N bn ((((ey.lo M).lo Y).lo ar).lo b5) ((((dn.lo M).lo Y).lo ar).lo b5) oB oB ([5,17,40,999,1000]:List Int) (gZ.rd) oB oB (show ¬kU=gc from by first | omega | (have:=gZ.base_le G; omega))) G ?_))⟩
     rintro e zN ⟨dP,rz,rb,rfl,nK,pr,ko,eG⟩
     refine ⟨_,G,?_⟩
     have vZ:=eG.size
     have el:=jj.step eG (fun _ _ e=>.inl e)
     have o5:(5:Int)≤dP∧dP≤1000:=mem_rngB (lo:=5) (hi:=1000) oG ko
     refine Qn ⟨el,_,G,(Ak 5 G el (fun w' hw'=>r_build (vs:=[(0,i6 2),(1,i6 m.Id),(2,i6 dP)]) G (bld106_0_1_2 _ _ _))<|Ab 6 G (Qw (o:=0) (vs:=[i6 2,i6 m.Id,i6 dP,i6 0]) agg106.2 G G G G (((((eT.lo M).lo Y).lo ar).lo b5).kn eG) ler G ?_))⟩
     intro zO jF t1 nN
     have jk:=el.step jF (fun _ _ e=>.inr e)
     refine Qn ⟨jk,_,G,(Ad oC (⟨kU,dP,rz,rb,(At.r G),jk,(nK.kn jF),nN,pr,ko,o5⟩))⟩
    rintro w7 zP ⟨pV,cq,dE,gB,lA,hI,n7,oa,ug,tF,tH⟩
    rw [← sA lA]
    have v1:=hI.size
    refine We (retC G G agg106 oa G (⟨(⟨2,m.Id,cq,0⟩:LibraryStep),dE,gB,eR (eA G),n7,⟨oB,oB⟩,oF,(gW.step hI (fun i_ hi_ e'=>e'.elim (fun e'=>e') (fun e'=>by have e'':i_=u:=e'; omega)))⟩))
   ·have tI:¬((k=3)∧(k=3)):=(not_or.1 fW).1
    have tJ:¬((¬(k=3))∧(((k=4)∧(k=4))∨((¬(k=4))∧(((k=5)∧(k=5))∨((¬(k=5))∧(k=6)))))):=(not_or.1 fW).2
    refine Ws (Ws ?_)
    have cg:=(ey.lo M).lo Y
    have ch:=(dn.lo M).lo Y
    have ci:=(eT.lo M).lo Y
    have Z:=(jU.lo M).lo Y
    have dp:=(((lS.kn v).kn bf).lo M).lo Y
    refine Wr (Q (r_eq G G)<|Q (aB G)<|Qn (W.thenJ (fun f' w'=>At f' [(0,pt gc),(4,pt u),(5,pt n),(6,pt F),(56,i6 k),(79,.bool (decide (((k=7)∧(k=7))∨((¬(k=7))∧(k=8)))))]∧Lo cx w') ?_ ?_))
    ·refine Wd G (fun fX=>?_) (fun fX=>?_)
     ·refine Wk (⟨_,G,⟨G,G,G,G,G,(eDD (jgt fX)),trivial⟩,(lr cx)⟩)
     ·refine Wr (Q (r_eq G G)<|Q (aB G)<|Qn (⟨_,G,⟨G,G,G,G,G,(eDD (jgf fX)),trivial⟩,(lr cx)⟩))
    rintro xa U ⟨lC,p⟩
    rw [← sA lC]
    have v6:=p.size
    have bs:=gW.lo p
    refine Wd G (fun fY=>?_) (fun fY=>?_)
    ·refine Ws (WA (Kp (fun b_=>b_=gc∨b_=u) U) (fun f' w'=>∃ (pW:Nat) (cr:Int) (dF:Int) (gC:Int),At f' [(0,pt gc),(4,pt u),(5,pt n)]∧(Kp (fun b_=>b_=gc∨b_=u) U w')∧(Blk w' gc ec [.slice Ac nc cc,i6 dF,.int .u64 gC])∧(Blk w' u 106 [i6 3,i6 a.Map,i6 a.Reader,i6 cr])∧(N≤dF∧dF≤N+2)∧(cr∈([0,1,1,2]:List Int))∧((0:Int)≤cr∧cr≤2)) mo ?_ ?_)
     ·intro zQ ae
      have v7:=ae.size
      refine Ak 0 G (kr ae) (fun w' hw'=>fA fa129_0 G)<|Ak 1 G (kr ae) (fun w' hw'=>lB sca3 G ((dp.lo p).kp hw' (fun e'=>e'.elim (fun e'=>by have e'':F=gc:=e'; omega) (fun e'=>by have e'':F=u:=e'; omega))) G)<|Ak 2 G (kr ae) (fun w' hw'=>fA fa129_1 G)<|Ak 3 G (kr ae) (fun w' hw'=>lB sca3 G ((dp.lo p).kp hw' (fun e'=>e'.elim (fun e'=>by have e'':F=gc:=e'; omega) (fun e'=>by have e'':F=u:=e'; omega))) G)<|Ak 4 G (kr ae) (fun w' hw'=>mP G)<|Ab 5 G (Ql (vs:=[i6 0,i6 1,i6 1,i6 2]) (L:=([0,1,1,2]:List Int)) (enc:=encI) tel93 (fun _=>G) G G G oG ?_)
      intro kV rZ tt b7 g0
      have v8:=b7.size
      have jl:=((kr ae:Kp (fun b_=>b_=gc∨b_=u) U _)).lo b7
      refine Qn ⟨jl,_,G,(Ab 6 G (Qc ent58 (c___spec_l1Cur__among rZ Lc N bn (((cg.lo p).lo ae).lo b7) (((ch.lo p).lo ae).lo b7) oB oB ([0,1,1,2]:List Int) (g0.rd) oB oB (show ¬kV=gc from by first | omega | (have:=g0.base_le G; omega))) G ?_))⟩
      rintro e zR ⟨dQ,rA,rc,rfl,nO,pu,ks,eH⟩
      refine ⟨_,G,?_⟩
      have wa:=eH.size
      have em:=jl.step eH (fun _ _ e=>.inl e)
      have o6:(0:Int)≤dQ∧dQ≤2:=mem_rngB (lo:=0) (hi:=2) oG ks
      refine Qn ⟨em,_,G,(Ak 7 G em (fun w' hw'=>r_build (vs:=[(0,i6 3),(1,i6 a.Map),(2,i6 a.Reader),(3,i6 dQ)]) G (bld106_0_1_2_3 _ _ _ _))<|Ab 8 G (Qw (o:=0) (vs:=[i6 3,i6 a.Map,i6 a.Reader,i6 dQ]) agg106.2 G G G G ((((ci.lo p).lo ae).lo b7).kn eH) ler G ?_))⟩
      intro zS jG t7 nP
      have jm:=em.step jG (fun _ _ e=>.inr e)
      refine Qn ⟨jm,_,G,(Ad oC (⟨kV,dQ,rA,rc,(At.r G),jm,(nO.kn jG),nP,pu,ks,o6⟩))⟩
     rintro xb zT ⟨pW,cr,dF,gC,lD,hJ,ob,oc,uh,tK,tL⟩
     rw [← sA lD]
     have wb:=hJ.size
     refine We (retC G G agg106 oc G (⟨(⟨3,a.Map,a.Reader,cr⟩:LibraryStep),dF,gC,eR (eA G),ob,⟨oB,oB⟩,oF,(bs.step hJ (fun i_ hi_ e'=>e'.elim (fun e'=>e') (fun e'=>by have e'':i_=u:=e'; omega)))⟩))
    ·have tM:¬((k=7)∧(k=7)):=(not_or.1 fY).1
     have tN:¬((¬(k=7))∧(k=8)):=(not_or.1 fY).2
     refine Ws (Wr (Q (r_eq G G)<|Q (aB G)<|Qn (Wd G (fun p3=>?_) (fun p3=>?_))))
     ·refine Ws (WA (Kp (fun b_=>b_=gc∨b_=u) U) (fun f' w'=>∃ (bo:Int) (dG:Int) (gD:Int) (pX:Nat),At f' [(0,pt gc),(4,pt u),(5,pt n)]∧(Kp (fun b_=>b_=gc∨b_=u) U w')∧(Blk w' gc ec [.slice Ac nc cc,i6 dG,.int .u64 gD])∧(Blk w' u 106 [i6 4,i6 m.Id,i6 0,i6 bo])∧(N≤dG∧dG≤N+2)∧(bo∈([1,max 1 m.Torn,m.Torn+1]:List Int))∧((bo:Int)=1∨(bo:Int)=(max 1 m.Torn)∨(bo:Int)=(m.Torn+1))) mo ?_ ?_)
      ·intro r1 S
       have wc:=S.size
       refine Ak 0 G (kr S) (fun w' hw'=>fA fa102_0 G)<|Ak 1 G (kr S) (fun w' hw'=>lB sca3 G ((Z.lo p).kp hw' (fun e'=>e'.elim (fun e'=>by have e'':n=gc:=e'; omega) (fun e'=>by have e'':n=u:=e'; omega))) G)<|Ak 2 G (kr S) (fun w' hw'=>mP G)<|Ak 3 G (kr S) (fun w' hw'=>fA fa102_2 G)<|Ak 4 G (kr S) (fun w' hw'=>lB sca3 G ((Z.lo p).kp hw' (fun e'=>e'.elim (fun e'=>by have e'':n=gc:=e'; omega) (fun e'=>by have e'':n=u:=e'; omega))) G)<|Ak 6 G (kr S) (fun w' hw'=>fA fa102_2 G)<|Ak 7 G (kr S) (fun w' hw'=>lB sca3 G ((Z.lo p).kp hw' (fun e'=>e'.elim (fun e'=>by have e'':n=gc:=e'; omega) (fun e'=>by have e'':n=u:=e'; omega))) G)<|Ak 8 G (kr S) (fun w' hw'=>r_add G G oB)<|Ab 5 G (Qv ent109 (c_spec_l1Most r1 1 m.Torn) G fun zU da wg=>?_)
       have jn:=((kr S:Kp (fun b_=>b_=gc∨b_=u) U _)).lo da
       refine Qn ⟨jn,_,G,(Ab 9 G (Ql (vs:=[i6 1,i6 (max 1 m.Torn),i6 (m.Torn+1)]) (L:=([1,max 1 m.Torn,m.Torn+1]:List Int)) (enc:=encI) tel93 (fun _=>G) G G G oG ?_))⟩
       intro kW r2 tu b8 g2
       have wh:=b8.size
       have jo:=jn.lo b8
       refine Qn ⟨jo,_,G,(Ab 10 G (Qc ent58 (c___spec_l1Cur__among r2 Lc N bn ((((cg.lo p).lo S).lo da).lo b8) ((((ch.lo p).lo S).lo da).lo b8) oB oB ([1,max 1 m.Torn,m.Torn+1]:List Int) (g2.rd) oB oB (show ¬kW=gc from by first | omega | (have:=g2.base_le G; omega))) G ?_))⟩
       rintro e zV ⟨ct,rB,re,rfl,nQ,pw,kt,eJ⟩
       refine ⟨_,G,?_⟩
       have wi:=eJ.size
       have eo:=jo.step eJ (fun _ _ e=>.inl e)
       have o7:(ct:Int)=1∨(ct:Int)=(max 1 m.Torn)∨(ct:Int)=(m.Torn+1):=by simpa only [List.mem_cons,List.not_mem_nil,or_false] using kt
       refine Qn ⟨eo,_,G,(Ak 11 G eo (fun w' hw'=>r_build (vs:=[(0,i6 4),(1,i6 m.Id),(3,i6 ct)]) G (bld106_0_1_3 _ _ _))<|Ab 12 G (Qw (o:=0) (vs:=[i6 4,i6 m.Id,i6 0,i6 ct]) agg106.2 G G G G (((((ci.lo p).lo S).lo da).lo b8).kn eJ) ler G ?_))⟩
       intro zW jH t8 nR
       have jp:=eo.step jH (fun _ _ e=>.inr e)
       refine Qn ⟨jp,_,G,(Ad oC (⟨ct,rB,re,kW,(At.r G),jp,(nQ.kn jH),nR,pw,kt,o7⟩))⟩
      rintro xc zX ⟨bo,dG,gD,pX,lE,hP,od,oe,ui,tO,tP⟩
      rw [← sA lE]
      have wj:=hP.size
      refine We (retC G G agg106 oe G (⟨(⟨4,m.Id,0,bo⟩:LibraryStep),dG,gD,eR (eA G),od,⟨oB,oB⟩,oF,(bs.step hP (fun i_ hi_ e'=>e'.elim (fun e'=>e') (fun e'=>by have e'':i_=u:=e'; omega)))⟩))
     ·refine Ws (Wr (Q (r_eq G G)<|Q (aB G)<|Qn (Wd G (fun p4=>?_) (fun p4=>?_))))
      ·refine Ws (WA (Kp (fun b_=>b_=gc∨b_=u) U) (fun f' w'=>∃ (pY:Nat) (cu:Int) (dH:Int) (gE:Int),At f' [(0,pt gc),(4,pt u),(5,pt n)]∧(Kp (fun b_=>b_=gc∨b_=u) U w')∧(Blk w' gc ec [.slice Ac nc cc,i6 dH,.int .u64 gE])∧(Blk w' u 106 [i6 5,i6 a.Map,i6 a.Reader,i6 cu])∧(N≤dH∧dH≤N+2)∧(cu∈([5,17,18,999]:List Int))∧((5:Int)≤cu∧cu≤999)) mo ?_ ?_)
       ·intro zY ag
        have wk:=ag.size
        refine Ak 0 G (kr ag) (fun w' hw'=>fA fa129_0 G)<|Ak 1 G (kr ag) (fun w' hw'=>lB sca3 G ((dp.lo p).kp hw' (fun e'=>e'.elim (fun e'=>by have e'':F=gc:=e'; omega) (fun e'=>by have e'':F=u:=e'; omega))) G)<|Ak 2 G (kr ag) (fun w' hw'=>fA fa129_1 G)<|Ak 3 G (kr ag) (fun w' hw'=>lB sca3 G ((dp.lo p).kp hw' (fun e'=>e'.elim (fun e'=>by have e'':F=gc:=e'; omega) (fun e'=>by have e'':F=u:=e'; omega))) G)<|Ak 4 G (kr ag) (fun w' hw'=>mP G)<|Ab 5 G (Ql (vs:=[i6 5,i6 17,i6 18,i6 999]) (L:=([5,17,18,999]:List Int)) (enc:=encI) tel93 (fun _=>G) G G G oG ?_)
        intro kX r3 tv b9 g5
        have wl:=b9.size
        have jq:=((kr ag:Kp (fun b_=>b_=gc∨b_=u) U _)).lo b9
        refine Qn ⟨jq,_,G,(Ab 6 G (Qc ent58 (c___spec_l1Cur__among r3 Lc N bn (((cg.lo p).lo ag).lo b9) (((ch.lo p).lo ag).lo b9) oB oB ([5,17,18,999]:List Int) (g5.rd) oB oB (show ¬kX=gc from by first | omega | (have:=g5.base_le G; omega))) G ?_))⟩
        rintro e zZ ⟨dR,rC,rf,rfl,nS,px,ku,eL⟩
        refine ⟨_,G,?_⟩
        have wm:=eL.size
        have ep:=jq.step eL (fun _ _ e=>.inl e)
        have o8:(5:Int)≤dR∧dR≤999:=mem_rngB (lo:=5) (hi:=999) oG ku
        refine Qn ⟨ep,_,G,(Ak 7 G ep (fun w' hw'=>r_build (vs:=[(0,i6 5),(1,i6 a.Map),(2,i6 a.Reader),(3,i6 dR)]) G (bld106_0_1_2_3 _ _ _ _))<|Ab 8 G (Qw (o:=0) (vs:=[i6 5,i6 a.Map,i6 a.Reader,i6 dR]) agg106.2 G G G G ((((ci.lo p).lo ag).lo b9).kn eL) ler G ?_))⟩
        intro z1 jI ua nT
        have jr:=ep.step jI (fun _ _ e=>.inr e)
        refine Qn ⟨jr,_,G,(Ad oC (⟨kX,dR,rC,rf,(At.r G),jr,(nS.kn jI),nT,px,ku,o8⟩))⟩
       rintro xd z6 ⟨pY,cu,dH,gE,lF,hQ,og,oh,uj,tQ,tT⟩
       rw [← sA lF]
       have wn:=hQ.size
       refine We (retC G G agg106 oh G (⟨(⟨5,a.Map,a.Reader,cu⟩:LibraryStep),dH,gE,eR (eA G),og,⟨oB,oB⟩,oF,(bs.step hQ (fun i_ hi_ e'=>e'.elim (fun e'=>e') (fun e'=>by have e'':i_=u:=e'; omega)))⟩))
      ·refine Ws (Wr (Q (r_eq G G)<|Q (aB G)<|Qn (Wd G (fun p5=>?_) (fun p5=>?_))))
       ·refine Ws (WA (Kp (fun b_=>b_=gc∨b_=u) U) (fun f' w'=>∃ (bp:Int) (dI:Int) (gF:Int) (pZ:Nat),At f' [(0,pt gc),(4,pt u),(5,pt n)]∧(Kp (fun b_=>b_=gc∨b_=u) U w')∧(Blk w' gc ec [.slice Ac nc cc,i6 dI,.int .u64 gF])∧(Blk w' u 106 [i6 6,i6 m.Id,i6 0,i6 bp])∧(N≤dI∧dI≤N+2)∧(bp∈([1,max 1 m.Torn,m.Torn+1]:List Int))∧((bp:Int)=1∨(bp:Int)=(max 1 m.Torn)∨(bp:Int)=(m.Torn+1))) mo ?_ ?_)
        ·intro r4 T
         have wo:=T.size
         refine Ak 0 G (kr T) (fun w' hw'=>fA fa102_0 G)<|Ak 1 G (kr T) (fun w' hw'=>lB sca3 G ((Z.lo p).kp hw' (fun e'=>e'.elim (fun e'=>by have e'':n=gc:=e'; omega) (fun e'=>by have e'':n=u:=e'; omega))) G)<|Ak 2 G (kr T) (fun w' hw'=>mP G)<|Ak 3 G (kr T) (fun w' hw'=>fA fa102_2 G)<|Ak 4 G (kr T) (fun w' hw'=>lB sca3 G ((Z.lo p).kp hw' (fun e'=>e'.elim (fun e'=>by have e'':n=gc:=e'; omega) (fun e'=>by have e'':n=u:=e'; omega))) G)<|Ak 6 G (kr T) (fun w' hw'=>fA fa102_2 G)<|Ak 7 G (kr T) (fun w' hw'=>lB sca3 G ((Z.lo p).kp hw' (fun e'=>e'.elim (fun e'=>by have e'':n=gc:=e'; omega) (fun e'=>by have e'':n=u:=e'; omega))) G)<|Ak 8 G (kr T) (fun w' hw'=>r_add G G oB)<|Ab 5 G (Qv ent109 (c_spec_l1Most r4 1 m.Torn) G fun z7 db wq=>?_)
         have js:=((kr T:Kp (fun b_=>b_=gc∨b_=u) U _)).lo db
         refine Qn ⟨js,_,G,(Ab 9 G (Ql (vs:=[i6 1,i6 (max 1 m.Torn),i6 (m.Torn+1)]) (L:=([1,max 1 m.Torn,m.Torn+1]:List Int)) (enc:=encI) tel93 (fun _=>G) G G G oG ?_))⟩
         intro kY r5 tw ca g6
         have wr:=ca.size
         have jt:=js.lo ca
         refine Qn ⟨jt,_,G,(Ab 10 G (Qc ent58 (c___spec_l1Cur__among r5 Lc N bn ((((cg.lo p).lo T).lo db).lo ca) ((((ch.lo p).lo T).lo db).lo ca) oB oB ([1,max 1 m.Torn,m.Torn+1]:List Int) (g6.rd) oB oB (show ¬kY=gc from by first | omega | (have:=g6.base_le G; omega))) G ?_))⟩
         rintro e z8 ⟨cw,rD,rg,rfl,nU,py,kv,eM⟩
         refine ⟨_,G,?_⟩
         have ws:=eM.size
         have eu:=jt.step eM (fun _ _ e=>.inl e)
         have o9:(cw:Int)=1∨(cw:Int)=(max 1 m.Torn)∨(cw:Int)=(m.Torn+1):=by simpa only [List.mem_cons,List.not_mem_nil,or_false] using kv
         refine Qn ⟨eu,_,G,(Ak 11 G eu (fun w' hw'=>r_build (vs:=[(0,i6 6),(1,i6 m.Id),(3,i6 cw)]) G (bld106_0_1_3 _ _ _))<|Ab 12 G (Qw (o:=0) (vs:=[i6 6,i6 m.Id,i6 0,i6 cw]) agg106.2 G G G G (((((ci.lo p).lo T).lo db).lo ca).kn eM) ler G ?_))⟩
         intro Aa jJ ub nW
         have ju:=eu.step jJ (fun _ _ e=>.inr e)
         refine Qn ⟨ju,_,G,(Ad oC (⟨cw,rD,rg,kY,(At.r G),ju,(nU.kn jJ),nW,py,kv,o9⟩))⟩
        rintro xe Ae ⟨bp,dI,gF,pZ,lH,hU,oi,oj,uk,tU,tV⟩
        rw [← sA lH]
        have wt:=hU.size
        refine We (retC G G agg106 oj G (⟨(⟨6,m.Id,0,bp⟩:LibraryStep),dI,gF,eR (eA G),oi,⟨oB,oB⟩,oF,(bs.step hU (fun i_ hi_ e'=>e'.elim (fun e'=>e') (fun e'=>by have e'':i_=u:=e'; omega)))⟩))
       ·refine Wk (Ws (WA (Kp (fun b_=>b_=gc∨b_=u) U) (fun f' w'=>∃ (p1:Nat) (aK:Int) (dJ:Int) (gG:Int),At f' [(4,pt u)]∧(Kp (fun b_=>b_=gc∨b_=u) U w')∧(Blk w' gc ec [.slice Ac nc cc,i6 dJ,.int .u64 gG])∧(Blk w' u 106 [i6 7,i6 m.Id,i6 0,i6 aK])∧(N≤dJ∧dJ≤N+2)∧(aK∈([1,max 1 (m.Copies-m.Torn),(m.Copies-m.Torn)+1,2000000]:List Int))∧((aK:Int)=1∨(aK:Int)=(max 1 (m.Copies-m.Torn))∨(aK:Int)=((m.Copies-m.Torn)+1)∨(aK:Int)=2000000)) mo ?_ ?_))
        ·intro r6 I
         have wu:=I.size
         refine Ak 0 G (kr I) (fun w' hw'=>fA fa102_0 G)<|Ak 1 G (kr I) (fun w' hw'=>lB sca3 G ((Z.lo p).kp hw' (fun e'=>e'.elim (fun e'=>by have e'':n=gc:=e'; omega) (fun e'=>by have e'':n=u:=e'; omega))) G)<|Ak 2 G (kr I) (fun w' hw'=>mP G)<|Ak 3 G (kr I) (fun w' hw'=>fA fa102_1 G)<|Ak 4 G (kr I) (fun w' hw'=>lB sca3 G ((Z.lo p).kp hw' (fun e'=>e'.elim (fun e'=>by have e'':n=gc:=e'; omega) (fun e'=>by have e'':n=u:=e'; omega))) G)<|Ak 5 G (kr I) (fun w' hw'=>fA fa102_2 G)<|Ak 6 G (kr I) (fun w' hw'=>lB sca3 G ((Z.lo p).kp hw' (fun e'=>e'.elim (fun e'=>by have e'':n=gc:=e'; omega) (fun e'=>by have e'':n=u:=e'; omega))) G)<|Ak 7 G (kr I) (fun w' hw'=>r_sub G G oB)<|Ak 9 G (kr I) (fun w' hw'=>fA fa102_1 G)<|Ak 10 G (kr I) (fun w' hw'=>lB sca3 G ((Z.lo p).kp hw' (fun e'=>e'.elim (fun e'=>by have e'':n=gc:=e'; omega) (fun e'=>by have e'':n=u:=e'; omega))) G)<|Ak 11 G (kr I) (fun w' hw'=>fA fa102_2 G)<|Ak 12 G (kr I) (fun w' hw'=>lB sca3 G ((Z.lo p).kp hw' (fun e'=>e'.elim (fun e'=>by have e'':n=gc:=e'; omega) (fun e'=>by have e'':n=u:=e'; omega))) G)<|Ak 13 G (kr I) (fun w' hw'=>r_sub G G oB)<|Ak 14 G (kr I) (fun w' hw'=>r_add G G oB)<|Ab 8 G (Qv ent109 (c_spec_l1Most r6 1 (m.Copies-m.Torn)) G fun Af de wv=>?_)
         have jv:=((kr I:Kp (fun b_=>b_=gc∨b_=u) U _)).lo de
         refine Qn ⟨jv,_,G,(Ab 15 G (Ql (vs:=[i6 1,i6 (max 1 (m.Copies-m.Torn)),i6 ((m.Copies-m.Torn)+1),i6 2000000]) (L:=([1,max 1 (m.Copies-m.Torn),(m.Copies-m.Torn)+1,2000000]:List Int)) (enc:=encI) tel93 (fun _=>G) G G G oG ?_))⟩
         intro kZ r7 tz cd g7
         have ww:=cd.size
         have jw:=jv.lo cd
         refine Qn ⟨jw,_,G,(Ab 16 G (Qc ent58 (c___spec_l1Cur__among r7 Lc N bn ((((cg.lo p).lo I).lo de).lo cd) ((((ch.lo p).lo I).lo de).lo cd) oB oB ([1,max 1 (m.Copies-m.Torn),(m.Copies-m.Torn)+1,2000000]:List Int) (g7.rd) oB oB (show ¬kZ=gc from by first | omega | (have:=g7.base_le G; omega))) G ?_))⟩
         rintro e Ah ⟨bq,rE,rh,rfl,nX,pz,kw,eN⟩
         refine ⟨_,G,?_⟩
         have wx:=eN.size
         have ew:=jw.step eN (fun _ _ e=>.inl e)
         have pb:(bq:Int)=1∨(bq:Int)=(max 1 (m.Copies-m.Torn))∨(bq:Int)=((m.Copies-m.Torn)+1)∨(bq:Int)=2000000:=by simpa only [List.mem_cons,List.not_mem_nil,or_false] using kw
         refine Qn ⟨ew,_,G,(Ak 17 G ew (fun w' hw'=>r_build (vs:=[(0,i6 7),(1,i6 m.Id),(3,i6 bq)]) G (bld106_0_1_3 _ _ _))<|Ab 18 G (Qw (o:=0) (vs:=[i6 7,i6 m.Id,i6 0,i6 bq]) agg106.2 G G G G (((((ci.lo p).lo I).lo de).lo cd).kn eN) ler G ?_))⟩
         intro Ai jK uc nY
         have jx:=ew.step jK (fun _ _ e=>.inr e)
         refine Qn ⟨jx,_,G,(Ad oC (⟨kZ,bq,rE,rh,⟨G,trivial⟩,jx,(nX.kn jK),nY,pz,kw,pb⟩))⟩
        rintro xf Aj ⟨p1,aK,dJ,gG,lI,hY,ol,om,ul,tW,tX⟩
        rw [← sA lI]
        have wy:=hY.size
        refine We (retC G G agg106 om G (⟨(⟨7,m.Id,0,aK⟩:LibraryStep),dJ,gG,eR (eA G),ol,⟨oB,oB⟩,oF,(bs.step hY (fun i_ hi_ e'=>e'.elim (fun e'=>e') (fun e'=>by have e'':i_=u:=e'; omega)))⟩))
end Go.Proofs.YtndcchndcghmoaaGreatDoor
namespace Go.Proofs.YtndcchndcghmoaaGreatDoor
open Go Go.RowKit Fw
set_option maxRecDepth 10000
set_option maxHeartbeats 2000000
set_option linter.unusedVariables false
variable {Ac : Option Addr} {nc cc Bc : Nat}
theorem bld34_0_1 (a0:Option Addr) (b0 c0:Nat) (a1:Option Addr) (b1 c1:Nat):Tryz.prog.built 34 [(0,.slice a0 b0 c0),(1,.slice a1 b1 c1)]=some (List.toArray [.slice a0 b0 c0,.slice a1 b1 c1,i6 0,i6 0,i6 0]):=by kernel_rfl
theorem bld35_:Tryz.prog.built 35 []=some (List.toArray [str ([]:List UInt8),str ([]:List UInt8),i6 0]):=by kernel_rfl
theorem bld35_0_2 (a0:List UInt8) (a2:Int):Tryz.prog.built 35 [(0,str a0),(2,i6 a2)]=some (List.toArray [str a0,str ([]:List UInt8),i6 a2]):=by kernel_rfl
theorem ent108:Ent Tryz.prog 108:=en Tryz.func108
theorem c___spec_l1Cur__library (w:World) {gc ec:Nat} (Lc:List UInt8) (tc sc:Int) (hc:Blk w gc ec [.slice Ac nc cc,i6 tc,.int .u64 sc]) (hLc:SlR w Bc encB 1 Ac nc cc Lc) (hgc:Bc≤gc) (htc:0≤tc∧tc+800≤4611686018427387904):Calls Tryz.prog 112 #[.pointer (some ⟨gc,0,none⟩)] w fun e w'=>∃ (A1':Option Addr) (n1' c1':Nat) (A2':Option Addr) (n2' c2':Nat) (x:Library) (tc' sc':Int),e=.returned (.agg (List.toArray (cLb A1' n1' c1' A2' n2' c2' x)))∧SlO w' w.heap.size encLMap 3 102 A1' n1' c1' x.Maps∧SlO w' w.heap.size encAway 2 129 A2' n2' c2' x.Away∧Dj A1' A2'∧Blk w' gc ec [.slice Ac nc cc,i6 tc',.int .u64 sc']∧(tc≤tc'∧tc'≤tc+800)∧(x.Maps.length≤9∧x.Away.length≤9)∧(MapB x.Maps)∧(AwayB x.Away)∧Kp (fun b_=>b_=gc) w w':=by
 refine cW 67 Tryz.func112 G G G ?_
 have hBlc:=hc.lt
 have hbdc:=hLc.bound
 have hlec:=hLc.len
 have hBbc:=hLc.bd
 refine Ws (Wr (Qa (l:=zLb) tz34 G ?_))
 intro g1 w2 qw j5 qx ny
 refine Qn (Ws (Wr (Ql (vs:=[]) (L:=([]:List LMap)) (enc:=encLMap) tel31 (fun _=>G) G G G oG ?_)))
 intro g9 qy pU dK fz
 have qc:=dK.size
 refine Ql (vs:=[]) (L:=([]:List Away)) (enc:=encAway) tel32 (fun _=>G) G G G oG ?_
 intro cu qz pV cn jD
 have qd:=cn.size
 refine Q (r_build (vs:=[(0,.slice (pA g9) 0 0),(1,.slice (pA cu) 0 0)]) G (bld34_0_1 _ _ _ _ _ _))<|Qa (l:=zLb) tz34 G ?_
 intro c qA pW cx p9 lv
 have jE:=nE (g:=c) (fz.lo cn)
 have jF:=nE (g:=c) jD
 refine Qw (o:=0) (vs:=[.slice (pA g9) 0 0,.slice (pA cu) 0 0,i6 0,i6 0,i6 0]) agg34.2 G G G G lv ler G ?_
 intro pM cy qa lw
 refine Qn (Ws (Ws ?_))
 have jG:=((((hLc.lo j5).lo dK).lo cn).lo cx).kn cy
 have gl:=((fz.lo cn).lo cx).kd cy jE
 have gm:=(jD.lo cx).kd cy jF
 refine Wr (Q (mP G)<|Qc ent59 (c___spec_l1Cur__pick pM Lc tc sc (((((hc.lo j5).lo dK).lo cn).lo cx).kn cy) jG oB oB 36 oD) G ?_)
 rintro e d5 ⟨jC,jB,lE,rfl,lx,qb,p5,aM⟩
 refine ⟨_,G,?_⟩
 have qe:=aM.size
 refine Q (aI G)<|Qn (Wl (WL (σ:=Int × Library × Int × Int × (Option Addr) × Nat × Nat × (Option Addr) × Nat × Nat) (fun g=>[(0,pt gc),(2,pt g1),(3,pt c),(4,i6 g.1)]) (fun g w'=>(Kp (fun b_=>b_=gc) w w')∧(Blk w' gc ec [.slice Ac nc cc,i6 g.2.2.1,.int .u64 g.2.2.2.1])∧(SlR w' Bc encB 1 Ac nc cc Lc)∧(Blk w' g1 34 zLb)∧(Blk w' c 34 (cLb g.2.2.2.2.1 g.2.2.2.2.2.1 g.2.2.2.2.2.2.1 g.2.2.2.2.2.2.2.1 g.2.2.2.2.2.2.2.2.1 g.2.2.2.2.2.2.2.2.2 g.2.1))∧(SlO w' w.heap.size encLMap 3 102 g.2.2.2.2.1 g.2.2.2.2.2.1 g.2.2.2.2.2.2.1 g.2.1.Maps)∧(SlO w' w.heap.size encAway 2 129 g.2.2.2.2.2.2.2.1 g.2.2.2.2.2.2.2.2.1 g.2.2.2.2.2.2.2.2.2 g.2.1.Away)∧(¬g.2.2.2.2.1=some ⟨gc,0,none⟩)∧(¬g.2.2.2.2.1=some ⟨g1,0,none⟩)∧(¬g.2.2.2.2.1=some ⟨c,0,none⟩)∧(∀ b_,g.2.2.2.2.1=some ⟨b_,0,none⟩→¬g.2.2.2.2.2.2.2.1=some ⟨b_,0,none⟩)∧(¬g.2.2.2.2.2.2.2.1=some ⟨gc,0,none⟩)∧(¬g.2.2.2.2.2.2.2.1=some ⟨g1,0,none⟩)∧(¬g.2.2.2.2.2.2.2.1=some ⟨c,0,none⟩)∧((0≤g.1∧g.1≤35)∧LibOK g.2.1∧tc≤g.2.2.1∧g.2.2.1≤tc+4+20*(35-g.1))) (fun g=>g.1.toNat) (jC,(⟨([]:List LMap),([]:List Away),0,0,0⟩:Library),jB,lE,(pA g9),0,0,(pA cu),0,0) ?_ ?_ ?_))
 ·exact (At.r G)
 ·show (Kp (fun b_=>b_=gc) w d5)∧(Blk d5 gc ec [.slice Ac nc cc,i6 jB,.int .u64 lE])∧(SlR d5 Bc encB 1 Ac nc cc Lc)∧(Blk d5 g1 34 zLb)∧(Blk d5 c 34 (cLb (pA g9) 0 0 (pA cu) 0 0 (⟨([]:List LMap),([]:List Away),0,0,0⟩:Library)))∧(SlO d5 w.heap.size encLMap 3 102 (pA g9) 0 0 ((⟨([]:List LMap),([]:List Away),0,0,0⟩:Library).Maps))∧(SlO d5 w.heap.size encAway 2 129 (pA cu) 0 0 ((⟨([]:List LMap),([]:List Away),0,0,0⟩:Library).Away))∧(¬(pA g9)=some ⟨gc,0,none⟩)∧(¬(pA g9)=some ⟨g1,0,none⟩)∧(¬(pA g9)=some ⟨c,0,none⟩)∧(∀ b_,(pA g9)=some ⟨b_,0,none⟩→¬(pA cu)=some ⟨b_,0,none⟩)∧(¬(pA cu)=some ⟨gc,0,none⟩)∧(¬(pA cu)=some ⟨g1,0,none⟩)∧(¬(pA cu)=some ⟨c,0,none⟩)∧((0≤jC∧jC≤35)∧LibOK (⟨([]:List LMap),([]:List Away),0,0,0⟩:Library)∧tc≤jB∧jB≤tc+4+20*(35-jC))
  exact ⟨(((((((kr j5:Kp (fun b_=>b_=gc) w _)).lo dK).lo cn).lo cx).new cy).step aM (fun i_ hi_ e'=>e')),lx,jG.kn aM,((((ny.lo dK).lo cn).lo cx).kn cy).kn aM,(lw.kn aM),(oq ((gl.kn aM).down) oW),(oq ((gm.kn aM).down) oW),(fun e'=>by have:=(gl.kn aM).base_le e'; omega),(fun e'=>by have:=(gl.kn aM).base_le e'; omega),jE,(fun b_ h h'=>(nE (g:=cu) fz) (h.trans h'.symm)),(fun e'=>by have:=(gm.kn aM).base_le e'; omega),(nE (gm.kn aM)),jF,(by exact ⟨oB,nil_lib,oB,oB⟩)⟩
 ·rintro ⟨n,o,t,z,f,B,H,p,K,R⟩ nw ax lu
  obtain ⟨fy,eX,an,bC,C,m,q,d,cl,bO,am,i,cm,aJ,cw⟩:(Kp (fun b_=>b_=gc) w ax)∧(Blk ax gc ec [.slice Ac nc cc,i6 t,.int .u64 z])∧(SlR ax Bc encB 1 Ac nc cc Lc)∧(Blk ax g1 34 zLb)∧(Blk ax c 34 (cLb f B H p K R o))∧(SlO ax w.heap.size encLMap 3 102 f B H o.Maps)∧(SlO ax w.heap.size encAway 2 129 p K R o.Away)∧(¬f=some ⟨gc,0,none⟩)∧(¬f=some ⟨g1,0,none⟩)∧(¬f=some ⟨c,0,none⟩)∧Dj f p∧(¬p=some ⟨gc,0,none⟩)∧(¬p=some ⟨g1,0,none⟩)∧(¬p=some ⟨c,0,none⟩)∧((0≤n∧n≤35)∧LibOK o∧tc≤t∧t≤tc+4+20*(35-n)):=lu
  refine (?_:W _ _ _ _ _ (act _ (sets nw [(0,pt gc),(2,pt g1),(3,pt c),(4,i6 n)])) _)
  have oZ:=fy.size
  have pX:=eX.lt
  have pY:=bC.lt
  have pZ:=C.lt
  have p1:=m.len
  have p2:=m.rd.bound
  have p3:=q.len
  have p4:=q.rd.bound
  have p6:LibOK o:=cw.2.1
  have p7:(o.Maps.length≤8∧o.Away.length≤8)∧(0≤o.Bought∧o.Bought≤9999):=lib_bought cw.2.1
  have gN:MapB o.Maps:=MapB.of cw.2.1.1.1
  have gO:AwayB o.Away:=AwayB.of cw.2.1
  have p8:(0≤n∧n≤35)∧tc≤t∧t≤tc+4+20*(35-n):=And.intro cw.1 cw.2.2
  refine Ws (Ws (Wr (Q (mI G)<|Q (r_gt G G)<|Qn (Wd G (fun nx=>?_) (fun nx=>?_)))))
  ·refine Wk (Ws (Wl (Ws (WA (Kp (fun b_=>b_=gc) ax) (fun f' w'=>∃ (j:LibraryStep) (O:Int) (au:Int) (M:Option Addr) (ac:Nat) (ay:Nat) (N:Option Addr) (ae:Nat) (az:Nat) (U:Nat),At f' [(0,pt gc),(2,pt g1),(3,pt c),(4,i6 n),(5,pt U),(6,.bool ((spec_StepLibrary o j).2))]∧(Kp (fun b_=>b_=gc) ax w')∧(SlO w' ax.heap.size encLMap 3 102 M ac ay (((spec_StepLibrary o j).1).Maps))∧(SlO w' ax.heap.size encAway 2 129 N ae az (((spec_StepLibrary o j).1).Away))∧(Blk w' U 34 (cLb M ac ay N ae az ((spec_StepLibrary o j).1)))∧(ax.heap.size≤U∧U<w'.heap.size)∧(Blk w' gc ec [.slice Ac nc cc,i6 O,.int .u64 au])∧(¬f=some ⟨U,0,none⟩)∧(¬p=some ⟨U,0,none⟩)∧(¬M=some ⟨U,0,none⟩)∧(¬N=some ⟨U,0,none⟩)∧Dj M f∧Dj M p∧Dj M N∧Dj N f∧Dj N p∧(t≤O∧O≤t+20)∧((-10000000≤j.Id∧j.Id≤10000000)∧(-10000000≤j.Reader∧j.Reader≤10000000)∧(-10000000≤j.Value∧j.Value≤10000000))∧(ac=(((spec_StepLibrary o j).1).Maps).length)∧((ac:Int)≤9223372036854775807)∧((((spec_StepLibrary o j).1).Maps).length≤8)∧(ae=(((spec_StepLibrary o j).1).Away).length)∧((ae:Int)≤9223372036854775807)∧((((spec_StepLibrary o j).1).Away).length≤8)) mo ?_ ?_))))
   ·intro lM u
    have od:=u.size
    refine Av #[true,true,true,true,true,true,true,true,true,false,false] 2 (fun f' w'=>∃ (j:LibraryStep) (O:Int) (au:Int) (M:Option Addr) (ac:Nat) (ay:Nat) (N:Option Addr) (ae:Nat) (az:Nat) (U:Nat),At f' [(0,pt gc),(2,pt g1),(3,pt c),(4,i6 n),(5,pt U),(22,.agg (List.toArray (cLb M ac ay N ae az ((spec_StepLibrary o j).1)))),(23,.bool ((spec_StepLibrary o j).2))]∧(Kp (fun b_=>b_=gc) ax w')∧(SlO w' ax.heap.size encLMap 3 102 M ac ay (((spec_StepLibrary o j).1).Maps))∧(SlO w' ax.heap.size encAway 2 129 N ae az (((spec_StepLibrary o j).1).Away))∧(Blk w' U 34 zLb)∧(ax.heap.size≤U∧U<w'.heap.size)∧(Blk w' gc ec [.slice Ac nc cc,i6 O,.int .u64 au])∧(¬f=some ⟨U,0,none⟩)∧(¬p=some ⟨U,0,none⟩)∧(¬M=some ⟨U,0,none⟩)∧(¬N=some ⟨U,0,none⟩)∧Dj M f∧Dj M p∧Dj M N∧Dj N f∧Dj N p∧(t≤O∧O≤t+20)∧((-10000000≤j.Id∧j.Id≤10000000)∧(-10000000≤j.Reader∧j.Reader≤10000000)∧(-10000000≤j.Value∧j.Value≤10000000))∧(ac=(((spec_StepLibrary o j).1).Maps).length)∧((ac:Int)≤9223372036854775807)∧((((spec_StepLibrary o j).1).Maps).length≤8)∧(ae=(((spec_StepLibrary o j).1).Away).length)∧((ae:Int)≤9223372036854775807)∧((((spec_StepLibrary o j).1).Away).length≤8)) ?_ (fun gB=>?_)
    ·rintro pN qg ⟨j,O,au,M,ac,ay,N,ae,az,U,ia,fB,kg,kh,ki,nQ,kj,jR,jS,f5,f6,jT,jU,jV,jW,jX,dC,dv,gb,gf,gF,gh,gi,gG⟩
     rw [← sA ia]
     have oe:=fB.size
     refine Ab 9 G (Qw (o:=0) (vs:=(cLb M ac ay N ae az ((spec_StepLibrary o j).1))) agg34.2 G G G G ki ler G ?_)
     intro qh da n3 fX
     have dX:=fB.new da
     refine Qn ⟨dX,_,G,(Ak 10 G dX (fun w' hw'=>aB G)<|Ad oC (⟨j,O,au,M,ac,ay,N,ae,az,U,(At.r G),dX,((kg.kd da f5).down),((kh.kd da f6).down),fX,⟨oB,fX.lt⟩,(kj.kn da),jR,jS,f5,f6,jT,jU,jV,jW,jX,dC,dv,gb,gf,gF,gh,gi,gG⟩))⟩
    refine Av #[true,true,true,true,false,false,false,false,true,false,false] 6 (fun f' w'=>∃ (j:LibraryStep) (O:Int) (au:Int) (bM:Nat),At f' [(0,pt gc),(2,pt g1),(3,pt c),(4,i6 n),(5,pt bM),(17,.agg (List.toArray (cLb f B H p K R o))),(20,.agg (List.toArray [i6 j.Kind,i6 j.Id,i6 j.Reader,i6 j.Value]))]∧(Kp (fun b_=>b_=gc) ax w')∧(Blk w' bM 34 zLb)∧(ax.heap.size≤bM∧bM<w'.heap.size)∧(Blk w' gc ec [.slice Ac nc cc,i6 O,.int .u64 au])∧(¬f=some ⟨bM,0,none⟩)∧(¬p=some ⟨bM,0,none⟩)∧(t≤O∧O≤t+20)∧((-10000000≤j.Id∧j.Id≤10000000)∧(-10000000≤j.Reader∧j.Reader≤10000000)∧(-10000000≤j.Value∧j.Value≤10000000))) ?_ (fun gC=>?_)
    ·rintro pO lN ⟨j,O,au,bM,ib,aH,gk,nS,kl,jZ,j0,dC,dv⟩
     rw [← sA ib]
     have og:=aH.size
     refine Ab 4 G (Qc ent67 (c_spec_StepLibrary lN o ((m.kd aH d).rd) ((q.kd aH i).rd) j) G ?_)
     rintro e qi ⟨lg,ly,lk,lh,lz,ll,rfl,bH,bI,j1,co⟩
     refine ⟨_,G,?_⟩
     have oh:=co.size
     have ci:=aH.lo co
     have j6:=bH.len
     have j7:=bH.rd.bound
     have kK:=step_lenMS o j
     have j8:=bI.len
     have j9:=bI.rd.bound
     have kL:=step_lenAS o j
     refine Qn ⟨ci,_,G,(Ak 5 G ci (fun w' hw'=>mT G)<|Ak 6 G ci (fun w' hw'=>xG G G)<|Ak 7 G ci (fun w' hw'=>xB G G)<|Ag oC G (gB _ _ (⟨j,O,au,lg,ly,lk,lh,lz,ll,bM,(At.r G),ci,(bH.down),(bI.down),(gk.lo co),⟨oB,(gk.lo co).lt⟩,(kl.lo co),jZ,j0,(nE bH),(nE bI),(dj bH (m.kd aH d)),(dj bH (q.kd aH i)),j1,(dj bI (m.kd aH d)),(dj bI (q.kd aH i)),dC,dv,j6,j7,kK,j8,j9,kL⟩)))⟩
    refine Ak 0 G (kr u) (fun w' hw'=>lG agg34 G (C.kn hw' oB) G)<|Ak 1 G (kr u) (fun w' hw'=>mP G)<|Ak 2 G (kr u) (fun w' hw'=>lG agg34 G (C.kn hw' oB) G)<|Ar [3,8] oC G ⟨Bm G trivial ?_,Bm G trivial ?_,trivial⟩
    ·refine Qc ent108 (c___spec_l1Cur__libraryStep lM Lc t z (eX.lo u) (an.lo u) oB oB o ((m.lo u).rd) ((q.lo u).rd) oB (by first | assumption | exact MapB.of (And.left (And.left ‹LibOK _›)) | exact MapB.app (MapB.of (And.left (And.left ‹LibOK _›))) oF | exact MapB.nil) (by first | assumption | exact AwayB.of ‹LibOK _› | exact AwayB.app (AwayB.of ‹LibOK _›) oF | exact AwayB.nil) ((m.lo u).apart d) ((q.lo u).apart i)) G ?_
     rintro e lO ⟨dL,jI,jH,rfl,fY,gP,gH,ah⟩
     refine ⟨_,G,?_⟩
     have oi:=ah.size
     have dY:=((kr u:Kp (fun b_=>b_=gc) ax _)).step ah (fun _ _ e=>e)
     refine Qn ⟨dY,_,G,(Ar [4,8] oC G ⟨Bm G trivial ?_,Bm G trivial ?_,trivial⟩)⟩
     ·refine Qc ent67 (c_spec_StepLibrary lO o (((m.lo u).kd ah d).rd) (((q.lo u).kd ah i).rd) dL) G ?_
      rintro e qj ⟨li,lA,lm,lj,lC,ln,rfl,bJ,bK,j2,cp⟩
      refine ⟨_,G,?_⟩
      have oj:=cp.size
      have cj:=dY.lo cp
      have ka:=bJ.len
      have kb:=bJ.rd.bound
      have kM:=step_lenMS o dL
      have ke:=bK.len
      have kf:=bK.rd.bound
      have kN:=step_lenAS o dL
      refine Qn ⟨cj,_,G,(Ak 5 G cj (fun w' hw'=>mT G)<|Ak 6 G cj (fun w' hw'=>xG G G)<|Ak 7 G cj (fun w' hw'=>xB G G)<|Ab 8 G (Qa (l:=zLb) tz34 G ?_))⟩
      intro dI qk nT aK n4 fZ
      have fD:=cj.lo aK
      refine Qn ⟨fD,_,G,(Ag oC G (gB _ _ (⟨dL,jI,jH,li,lA,lm,lj,lC,ln,dI,(At.r G),fD,((bJ.lo aK).down),((bK.lo aK).down),fZ,⟨oB,fZ.lt⟩,((fY.lo cp).lo aK),(nE (g:=dI) (((m.lo u).kd ah d).lo cp)),(nE (g:=dI) (((q.lo u).kd ah i).lo cp)),(nE (g:=dI) bJ),(nE (g:=dI) bK),(dj (bJ.lo aK) ((m.lo u).kd ah d)),(dj (bJ.lo aK) ((q.lo u).kd ah i)),j2,(dj (bK.lo aK) ((m.lo u).kd ah d)),(dj (bK.lo aK) ((q.lo u).kd ah i)),gP,gH,ka,kb,kM,ke,kf,kN⟩)))⟩
     ·refine Qa (l:=zLb) tz34 G ?_
      intro fu ql nU f8 n5 f0
      have fE:=dY.lo f8
      refine Qn ⟨fE,_,G,(Ag oC G (gC _ _ (⟨dL,jI,jH,fu,(At.r G),fE,f0,⟨oB,f0.lt⟩,(fY.lo f8),(nE (g:=fu) ((m.lo u).kd ah d)),(nE (g:=fu) ((q.lo u).kd ah i)),gP,gH⟩)))⟩
    ·refine Qa (l:=zLb) tz34 G ?_
     intro fv lP nW bc n6 f4
     have fF:=((kr u:Kp (fun b_=>b_=gc) ax _)).lo bc
     refine Qn ⟨fF,_,G,(Ab 3 G (Qc ent108 (c___spec_l1Cur__libraryStep lP Lc t z ((eX.lo u).lo bc) ((an.lo u).lo bc) oB oB o (((m.lo u).lo bc).rd) (((q.lo u).lo bc).rd) oB (by first | assumption | exact MapB.of (And.left (And.left ‹LibOK _›)) | exact MapB.app (MapB.of (And.left (And.left ‹LibOK _›))) oF | exact MapB.nil) (by first | assumption | exact AwayB.of ‹LibOK _› | exact AwayB.app (AwayB.of ‹LibOK _›) oF | exact AwayB.nil) (((m.lo u).lo bc).apart d) (((q.lo u).lo bc).apart i)) G ?_))⟩
     rintro e qm ⟨lL,lI,lD,rfl,jL,kR,kO,db⟩
     refine ⟨_,G,?_⟩
     have ol:=db.size
     have fG:=fF.step db (fun _ _ e=>e)
     refine Qn ⟨fG,_,G,(Ag oC G (gC _ _ (⟨lL,lI,lD,fv,(At.r G),fG,(f4.kn db),⟨oB,(f4.kn db).lt⟩,jL,(nE (g:=fv) (m.lo u)),(nE (g:=fv) (q.lo u)),kR,kO⟩)))⟩
   rintro pP cr ⟨j,O,au,M,ac,ay,N,ae,az,U,ic,aw,dm,dn,kk,nR,gj,nz,nA,nB,nC,nD,nF,jY,nG,nH,dC,dv,gb,gf,gF,gh,gi,gG⟩
   rw [← sA ic]
   have om:=aw.size
   have fx:=fy.step aw (fun i_ hi_ e'=>e')
   refine Ws (Wr (Q (mB G)<|Qn (Wb G (fun lp=>?_) (fun lp=>?_))))
   ·refine Wr (Q (lG agg34 G kk G)<|Qw (o:=0) (vs:=(cLb M ac ay N ae az ((spec_StepLibrary o j).1))) agg34.2 G G G G (C.kn aw oB) ler G ?_)
    intro ct ai n7 jM
    refine Qn ?_
    have km:=(an.kn aw oB).kn ai
    have ko:=(bC.kn aw oB).kn ai
    refine Wr (Q (mI G)<|Q (r_sub G G oB)<|Q (aI G)<|Qn (⟨(n-1,((spec_StepLibrary o j).1),O,au,M,ac,ay,N,ae,az),_,G,(At.r G),(show (Kp (fun b_=>b_=gc) w ct)∧(Blk ct gc ec [.slice Ac nc cc,i6 O,.int .u64 au])∧(SlR ct Bc encB 1 Ac nc cc Lc)∧(Blk ct g1 34 zLb)∧(Blk ct c 34 (cLb M ac ay N ae az ((spec_StepLibrary o j).1)))∧(SlO ct w.heap.size encLMap 3 102 M ac ay (((spec_StepLibrary o j).1).Maps))∧(SlO ct w.heap.size encAway 2 129 N ae az (((spec_StepLibrary o j).1).Away))∧(¬M=some ⟨gc,0,none⟩)∧(¬M=some ⟨g1,0,none⟩)∧(¬M=some ⟨c,0,none⟩)∧Dj M N∧(¬N=some ⟨gc,0,none⟩)∧(¬N=some ⟨g1,0,none⟩)∧(¬N=some ⟨c,0,none⟩)∧((0≤n-1∧n-1≤35)∧LibOK ((spec_StepLibrary o j).1)∧tc≤O∧O≤tc+4+20*(35-(n-1))) from ⟨(fx.new ai),(gj.kn ai),km,ko,jM,((dm.kn ai).down),((dn.kn ai).down),(nE (dm.kn ai)),(nE (dm.kn ai)),(nE (dm.kn ai)),jY,(nE (dn.kn ai)),(nE (dn.kn ai)),(nE (dn.kn ai)),?_⟩),?_⟩))
    ·exact (by first | exact ⟨oB,spec_okL ‹(spec_StepLibrary _ _).2=true›,oB,oB⟩ | exact ⟨oB,‹LibOK _›,oB,oB⟩)
    ·exact oB
   ·refine Wk (Wr (Q (mI G)<|Q (r_sub G G oB)<|Q (aI G)<|Qn (⟨(n-1,o,O,au,f,B,H,p,K,R),_,G,(At.r G),(show (Kp (fun b_=>b_=gc) w cr)∧(Blk cr gc ec [.slice Ac nc cc,i6 O,.int .u64 au])∧(SlR cr Bc encB 1 Ac nc cc Lc)∧(Blk cr g1 34 zLb)∧(Blk cr c 34 (cLb f B H p K R o))∧(SlO cr w.heap.size encLMap 3 102 f B H o.Maps)∧(SlO cr w.heap.size encAway 2 129 p K R o.Away)∧(¬f=some ⟨gc,0,none⟩)∧(¬f=some ⟨g1,0,none⟩)∧(¬f=some ⟨c,0,none⟩)∧Dj f p∧(¬p=some ⟨gc,0,none⟩)∧(¬p=some ⟨g1,0,none⟩)∧(¬p=some ⟨c,0,none⟩)∧((0≤n-1∧n-1≤35)∧LibOK o∧tc≤O∧O≤tc+4+20*(35-(n-1))) from ⟨fx,gj,an.kn aw oB,bC.kn aw oB,(C.kn aw oB),(m.kd aw d),(q.kd aw i),d,cl,bO,am,i,cm,aJ,?_⟩),?_⟩)))
    ·exact (by first | exact ⟨oB,spec_okL ‹(spec_StepLibrary _ _).2=true›,oB,oB⟩ | exact ⟨oB,‹LibOK _›,oB,oB⟩)
    ·exact oB
  ·refine Wx (xh (Ws (Ws (Wr (Q (mP G)<|Qc ent59 (c___spec_l1Cur__pick ax Lc t z eX an oB oB 32 oD) G ?_)))))
   rintro e s ⟨qf,v,ap,rfl,X,oc,nZ,a⟩
   refine ⟨_,G,?_⟩
   have oo:=a.size
   have cE:=fy.step a (fun i_ hi_ e'=>e')
   refine Qn (Wl (Ws (Wr (Q (r_eq G G)<|Q (aB G)<|Qn (Wd G (fun lq=>?_) (fun lq=>?_))))))
   ·refine WA (Kp (fun b_=>b_=gc∨b_=c) s) (fun f' w'=>∃ (aE:Nat) (ar:Int) (aU:Int) (cq:Int),At f' [(2,pt g1),(3,pt c)]∧(Kp (fun b_=>b_=gc∨b_=c) s w')∧(Blk w' gc ec [.slice Ac nc cc,i6 aU,.int .u64 cq])∧(Blk w' c 34 [.slice f B H,.slice p K R,i6 (o.Bought+ar),i6 o.Dropped,i6 o.Mended])∧(v≤aU∧aU≤v+2)∧(ar∈([1,(-1)]:List Int))∧(((-1):Int)≤ar∧ar≤1)) mo ?_ ?_
    ·intro qn J
     have ot:=J.size
     refine Av #[true,true,true,true,true,true,true,false] 1 (fun f' w'=>∃ (aE:Nat) (ar:Int) (aU:Int) (cq:Int),At f' [(2,pt g1),(3,pt c),(35,i6 (o.Bought+ar)),(36,.pointer (some ((⟨c,0,none⟩:Addr).add 2)))]∧(Kp (fun b_=>b_=gc∨b_=c) s w')∧(Blk w' gc ec [.slice Ac nc cc,i6 aU,.int .u64 cq])∧(Blk w' c 34 (cLb f B H p K R o))∧(v≤aU∧aU≤v+2)∧(ar∈([1,(-1)]:List Int))∧(((-1):Int)≤ar∧ar≤1)) ?_ (fun gD=>?_)
     ·rintro pQ qo ⟨aE,ar,aU,cq,ie,fC,ku,kv,gQ,gI,gJ⟩
      rw [← sA ie]
      have ou:=fC.size
      refine Ab 7 G (Qw (o:=2) (vs:=[i6 (o.Bought+ar)]) sca3.2 G G G G kv ler G ?_)
      intro qp ga oa jN
      have fH:=fC.step ga (fun _ _ e=>.inr e)
      refine Qn ⟨fH,_,G,(Ad oC (⟨aE,ar,aU,cq,⟨G,G,trivial⟩,fH,(ku.kn ga),jN,gQ,gI,gJ⟩))⟩
     refine Av #[true,true,true,true,false,false,false,false] 4 (fun f' w'=>∃ (aE:Nat),At f' [(2,pt g1),(3,pt c),(31,i6 o.Bought),(32,pt gc),(33,.slice (pA aE) 2 2)]∧(Kp (fun b_=>b_=gc∨b_=c) s w')∧(SlO w' s.heap.size encI 1 3 (pA aE) 2 2 ([1,(-1)]:List Int))∧(Blk w' gc ec [.slice Ac nc cc,i6 v,.int .u64 ap])∧(Blk w' c 34 (cLb f B H p K R o))∧(∀ b_,(pA aE)=some ⟨b_,0,none⟩→¬f=some ⟨b_,0,none⟩)∧(∀ b_,(pA aE)=some ⟨b_,0,none⟩→¬p=some ⟨b_,0,none⟩)) ?_ (fun gE=>?_)
     ·rintro pR lQ ⟨aE,ig,dW,gn,ks,kt,nI,nJ⟩
      rw [← sA ig]
      have ov:=dW.size
      refine Ab 4 G (Qc ent58 (c___spec_l1Cur__among lQ Lc v ap ks ((an.kn a).kp dW (fun b_ hb e'=>e'.elim (fun e'=>by have e'':b_=gc:=e'; omega) (fun e'=>by have e'':b_=c:=e'; omega))) oB oB ([1,(-1)]:List Int) (gn.rd) oB oB (show ¬aE=gc from by first | omega | (have:=gn.base_le G; omega))) G ?_)
      rintro e qq ⟨gY,lJ,lF,rfl,jO,kS,gK,dZ⟩
      refine ⟨_,G,?_⟩
      have ow:=dZ.size
      have cY:=dW.step dZ (fun _ _ e=>.inl e)
      have kP:((-1):Int)≤gY∧gY≤1:=mem_rngB (lo:=(-1)) (hi:=1) oG gK
      refine Qn ⟨cY,_,G,(Ak 5 G cY (fun w' hw'=>r_add G G oB)<|Ak 6 G cY (fun w' hw'=>fA fa34_2 G)<|Ag oC G (gD _ _ (⟨aE,gY,lJ,lF,(At.r G),cY,jO,(kt.kn dZ),kS,gK,kP⟩)))⟩
     refine Ak 0 G (kr J) (fun w' hw'=>fA fa34_2 G)<|Ak 2 G (kr J) (fun w' hw'=>mP G)<|Ar [1,3] oC G ⟨Bm G trivial ?_,Bm G trivial ?_,trivial⟩
     ·refine Q (lB sca3 G ((C.kn a).lo J) G) (Qn ⟨(kq s).lo J,_,G,(Ab 3 G (Ql (vs:=[i6 1,i6 (-1)]) (L:=([1,(-1)]:List Int)) (enc:=encI) tel93 (fun _=>G) G G G oG ?_))⟩)
      intro fw qr nX de jK
      have ox:=de.size
      have fI:=((kr J:Kp (fun b_=>b_=gc∨b_=c) s _)).lo de
      refine Qn ⟨fI,_,G,(Ag oC G (gE _ _ (⟨fw,(At.r G),fI,(jK.down),((X.lo J).lo de),(((C.kn a).lo J).lo de),(fun b_ h h'=>(nE (g:=fw) ((m.kd a d).lo J)) (h'.trans h.symm)),(fun b_ h h'=>(nE (g:=fw) ((q.kd a i).lo J)) (h'.trans h.symm))⟩)))⟩
     ·refine Ql (vs:=[i6 1,i6 (-1)]) (L:=([1,(-1)]:List Int)) (enc:=encI) tel93 (fun _=>G) G G G oG ?_
      intro dJ lR nY aD dV
      have oy:=aD.size
      have cZ:=((kr J:Kp (fun b_=>b_=gc∨b_=c) s _)).lo aD
      refine Qn ⟨cZ,_,G,(Ar [1,4] oC G ⟨Bm G trivial ?_,Bm G trivial ?_,trivial⟩)⟩
      ·refine Q (lB sca3 G (((C.kn a).lo J).lo aD) G) (Qn ⟨cZ,_,G,(Ag oC G (gE _ _ (⟨dJ,(At.r G),cZ,(dV.down),((X.lo J).lo aD),(((C.kn a).lo J).lo aD),(fun b_ h h'=>(nE (g:=dJ) ((m.kd a d).lo J)) (h'.trans h.symm)),(fun b_ h h'=>(nE (g:=dJ) ((q.kd a i).lo J)) (h'.trans h.symm))⟩)))⟩)
      ·refine Qc ent58 (c___spec_l1Cur__among lR Lc v ap ((X.lo J).lo aD) (((an.kn a).lo J).lo aD) oB oB ([1,(-1)]:List Int) (dV.rd) oB oB (show ¬dJ=gc from by first | omega | (have:=dV.base_le G; omega))) G ?_
       rintro e qt ⟨gZ,lK,lH,rfl,jP,kT,gM,df⟩
       refine ⟨_,G,?_⟩
       have oz:=df.size
       have ck:=cZ.step df (fun _ _ e=>.inl e)
       have kQ:((-1):Int)≤gZ∧gZ≤1:=mem_rngB (lo:=(-1)) (hi:=1) oG gM
       refine Qn ⟨ck,_,G,(Ab 1 G (Q (lB sca3 G ((((C.kn a).lo J).lo aD).kn df) G) (Qn ⟨ck,_,G,(Ak 5 G ck (fun w' hw'=>r_add G G oB)<|Ak 6 G ck (fun w' hw'=>fA fa34_2 G)<|Ag oC G (gD _ _ (⟨dJ,gZ,lK,lH,(At.r G),ck,jP,((((C.kn a).lo J).lo aD).kn df),kT,gM,kQ⟩)))⟩)))⟩
    rintro pS qu ⟨aE,ar,aU,cq,ii,ch,kw,kx,gQ,gI,gJ⟩
    rw [← sA ii]
    have oY:=ch.size
    refine Ws ?_
    have ky:=(bC.kn a).kp ch (fun e'=>e'.elim (fun e'=>by have e'':g1=gc:=e'; omega) (fun e'=>by have e'':g1=c:=e'; omega))
    have kz:=(m.kd a d).kp ch (fun b_ hb e'=>e'.elim (fun e'=>d (by have e'':b_=gc:=e'; rw [← e'']; exact hb)) (fun e'=>bO (by have e'':b_=c:=e'; rw [← e'']; exact hb)))
    have kA:=(q.kd a i).kp ch (fun b_ hb e'=>e'.elim (fun e'=>i (by have e'':b_=gc:=e'; rw [← e'']; exact hb)) (fun e'=>aJ (by have e'':b_=c:=e'; rw [← e'']; exact hb)))
    refine Wr (Q (lG agg34 G kx G)<|Qw (o:=0) (vs:=[.slice f B H,.slice p K R,i6 (o.Bought+ar),i6 o.Dropped,i6 o.Mended]) agg34.2 G G G G ky ler G ?_)
    intro qv dg ob jQ
    refine Qn (We (retC G G agg34 jQ G ?_))
    refine ⟨f,B,H,p,K,R,(⟨o.Maps,o.Away,o.Bought+ar,o.Dropped,o.Mended⟩:Library),aU,cq,eR (eA G),(oq ((kz.kd dg cl).down) ?_),(oq ((kA.kd dg cm).down) ?_),am,(kw.kn dg),⟨oB,oB⟩,oE,gN,gO,((cE.step ch (fun i_ hi_ e'=>e'.elim (fun e'=>e') (fun e'=>by have e'':i_=c:=e'; omega))).new dg)⟩ <;> (first | rfl | omega | grind)
   ·refine Ws (Wr (Q (r_eq G G)<|Q (aB G)<|Qn (Wd G (fun ls=>?_) (fun ls=>?_))))
    ·refine WA (Kp (fun b_=>b_=gc∨f=some ⟨b_,0,none⟩∨b_=c) s) (fun f' w'=>∃ (bg:Option Addr) (dH:Nat) (E:Nat) (y:Int) (D:Int) (aj:Int) (al:Nat) (S:Int) (ag:Int) (aR:Int) (bN:Nat),At f' [(2,pt g1),(3,pt c)]∧(Kp (fun b_=>b_=gc∨f=some ⟨b_,0,none⟩∨b_=c) s w')∧(SlO w' w.heap.size encLMap 3 102 bg (B+1) dH (o.Maps++([(⟨y,0,S⟩:LMap)]:List LMap)))∧(Blk w' gc ec [.slice Ac nc cc,i6 ag,.int .u64 aR])∧(Blk w' c 34 [.slice bg (B+1) dH,.slice p K R,i6 o.Bought,i6 o.Dropped,i6 o.Mended])∧(¬bg=some ⟨gc,0,none⟩)∧(¬bg=some ⟨g1,0,none⟩)∧(¬bg=some ⟨c,0,none⟩)∧Dj bg p∧(v≤D∧D≤v+2)∧(y∈([0,1,99]:List Int))∧((0:Int)≤y∧y≤99)∧(D≤ag∧ag≤D+2)∧(S∈([0,1]:List Int))∧((0:Int)≤S∧S≤1)) mo ?_ ?_
     ·intro o0 b
      have mr:=b.size
      refine Av #[true,true,true,true,true,true,true,true,true,true,false,false,false] 3 (fun f' w'=>∃ (E:Nat) (y:Int) (D:Int) (aj:Int) (al:Nat) (S:Int) (ag:Int) (aR:Int) (bN:Nat),At f' [(2,pt g1),(3,pt c),(40,.slice f B H),(48,.slice (pA bN) 1 1)]∧(Kp (fun b_=>b_=gc∨f=some ⟨b_,0,none⟩∨b_=c) s w')∧(SlO w' s.heap.size encLMap 3 102 (pA bN) 1 1 ([(⟨y,0,S⟩:LMap)]:List LMap))∧(Blk w' gc ec [.slice Ac nc cc,i6 ag,.int .u64 aR])∧(Blk w' c 34 (cLb f B H p K R o))∧(SlO w' w.heap.size encLMap 3 102 f B H o.Maps)∧(∀ b_,(pA bN)=some ⟨b_,0,none⟩→¬f=some ⟨b_,0,none⟩)∧(∀ b_,(pA bN)=some ⟨b_,0,none⟩→¬p=some ⟨b_,0,none⟩)∧(v≤D∧D≤v+2)∧(y∈([0,1,99]:List Int))∧((0:Int)≤y∧y≤99)∧(D≤ag∧ag≤D+2)∧(S∈([0,1]:List Int))∧((0:Int)≤S∧S≤1)) ?_ (fun eY=>?_)
      ·rintro ng o1 ⟨E,y,D,aj,al,S,ag,aR,bN,fJ,bR,kI,gz,gA,kJ,nO,nP,aQ,aN,aO,dD,dz,dA⟩
       rw [← sA fJ]
       have ms:=bR.size
       refine Ab 10 G (Qp tel31 G G kJ (kI.rd) (fun _=>G) oB oB ?_)
       intro bD fs o2 bY g2 bP
       have mu:=bY.size
       have cQ:=bR.step bY (fun _ _ e=>.inr (.inl e))
       have iI:¬bD=some ⟨gc,0,none⟩:=fun e'=>(bP gc e').elim (fun h=>d (h.trans e')) (fun h=>by have:=gz.lt; omega)
       have iJ:¬bD=some ⟨g1,0,none⟩:=fun e'=>(bP g1 e').elim (fun h=>cl (h.trans e')) (fun h=>by have:=((bC.kn a).kp bR (fun e'=>e'.elim (fun e'=>by have e'':g1=gc:=e'; omega) (fun e'=>e'.elim (fun e'=>cl e') (fun e'=>by have e'':g1=c:=e'; omega)))).lt; omega)
       have ey:¬bD=some ⟨c,0,none⟩:=fun e'=>(bP c e').elim (fun h=>bO (h.trans e')) (fun h=>by have:=gA.lt; omega)
       have iK:Dj bD p:=fun b_ e' h'=>(bP b_ e').elim (fun h=>am b_ (h.trans e') h') (fun h=>by have:=((q.kd a i).kp bR (fun b_ hb e'=>e'.elim (fun e'=>i (by have e'':b_=gc:=e'; rw [← e'']; exact hb)) (fun e'=>e'.elim (fun e'=>am b_ e' hb) (fun e'=>aJ (by have e'':b_=c:=e'; rw [← e'']; exact hb))))).base_le h'; omega)
       refine Qn ⟨cQ,_,G,(Ak 11 G cQ (fun w' hw'=>fA fa34_0 G)<|Ab 12 G (Qw (o:=0) (vs:=[.slice bD (B+1) fs]) sca31.2 G G G G (gA.kp bY (fun e'=>bO e')) ler G ?_))⟩
       intro o3 c6 mi ij
       have d6:=cQ.step c6 (fun _ _ e=>.inr (.inr e))
       refine Qn ⟨d6,_,G,(Ad oC (⟨bD,fs,E,y,D,aj,al,S,ag,aR,bN,⟨G,G,trivial⟩,d6,(g2.kd c6 ey),((gz.kp bY (fun e'=>d e')).kn c6),ij,iI,iJ,ey,iK,aQ,aN,aO,dD,dz,dA⟩))⟩
      refine Av #[true,true,true,true,true,true,true,true,true,false,false,false,false] 4 (fun f' w'=>∃ (E:Nat) (y:Int) (D:Int) (aj:Int) (al:Nat) (S:Int) (ag:Int) (aR:Int),At f' [(2,pt g1),(3,pt c),(40,.slice f B H),(47,.agg (List.toArray [i6 y,i6 0,i6 S]))]∧(Kp (fun b_=>b_=gc∨f=some ⟨b_,0,none⟩∨b_=c) s w')∧(Blk w' gc ec [.slice Ac nc cc,i6 ag,.int .u64 aR])∧(Blk w' c 34 (cLb f B H p K R o))∧(SlO w' w.heap.size encLMap 3 102 f B H o.Maps)∧(v≤D∧D≤v+2)∧(y∈([0,1,99]:List Int))∧((0:Int)≤y∧y≤99)∧(D≤ag∧ag≤D+2)∧(S∈([0,1]:List Int))∧((0:Int)≤S∧S≤1)) ?_ (fun eZ=>?_)
      ·rintro nh o4 ⟨E,y,D,aj,al,S,ag,aR,fK,cH,kG,kH,gy,aQ,aN,aO,dD,dz,dA⟩
       rw [← sA fK]
       have mv:=cH.size
       refine Ab 9 G (Ql (vs:=[.agg (List.toArray [i6 y,i6 0,i6 S])]) (L:=([(⟨y,0,S⟩:LMap)]:List LMap)) (enc:=encLMap) tel31 (fun _=>G) G G G oG ?_)
       intro dM o5 l2 bo g5
       have mw:=bo.size
       have d7:=cH.lo bo
       have iL:=nE (g:=dM) ((q.kd a i).kp cH (fun b_ hb e'=>e'.elim (fun e'=>i (by have e'':b_=gc:=e'; rw [← e'']; exact hb)) (fun e'=>e'.elim (fun e'=>am b_ e' hb) (fun e'=>aJ (by have e'':b_=c:=e'; rw [← e'']; exact hb)))))
       refine Qn ⟨d7,_,G,(Ag oC G (eY _ _ (⟨E,y,D,aj,al,S,ag,aR,dM,(At.r G),d7,(g5.down),(kG.lo bo),(kH.lo bo),(gy.lo bo),(fun b_ h h'=>(nE (g:=dM) gy) (h'.trans h.symm)),(fun b_ h h'=>iL (h'.trans h.symm)),aQ,aN,aO,dD,dz,dA⟩)))⟩
      refine Av #[true,true,true,true,true,true,true,false,false,false,false,false,false] 6 (fun f' w'=>∃ (E:Nat) (y:Int) (D:Int) (aj:Int) (al:Nat),At f' [(2,pt g1),(3,pt c),(40,.slice f B H),(43,i6 y),(44,pt gc),(45,.slice (pA al) 2 2)]∧(Kp (fun b_=>b_=gc∨f=some ⟨b_,0,none⟩∨b_=c) s w')∧(SlO w' s.heap.size encI 1 3 (pA al) 2 2 ([0,1]:List Int))∧(Blk w' gc ec [.slice Ac nc cc,i6 D,.int .u64 aj])∧(Blk w' c 34 (cLb f B H p K R o))∧(SlO w' w.heap.size encLMap 3 102 f B H o.Maps)∧(∀ b_,(pA al)=some ⟨b_,0,none⟩→¬f=some ⟨b_,0,none⟩)∧(∀ b_,(pA al)=some ⟨b_,0,none⟩→¬p=some ⟨b_,0,none⟩)∧(v≤D∧D≤v+2)∧(y∈([0,1,99]:List Int))∧((0:Int)≤y∧y≤99)) ?_ (fun dq=>?_)
      ·rintro ni k5 ⟨E,y,D,aj,al,fL,cI,gx,kD,kE,kF,nK,nN,aQ,aN,aO⟩
       rw [← sA fL]
       have mx:=cI.size
       refine Ab 7 G (Qc ent58 (c___spec_l1Cur__among k5 Lc D aj kD ((an.kn a).kp cI (fun b_ hb e'=>e'.elim (fun e'=>by have e'':b_=gc:=e'; omega) (fun e'=>e'.elim (nE (m.kd a d)) (fun e'=>by have e'':b_=c:=e'; omega)))) oB oB ([0,1]:List Int) (gx.rd) oB oB (show ¬al=gc from by first | omega | (have:=gx.base_le G; omega))) G ?_)
       rintro e o6 ⟨dE,kZ,kU,rfl,ik,jw,ff,bZ⟩
       refine ⟨_,G,?_⟩
       have my:=bZ.size
       have cR:=cI.step bZ (fun _ _ e=>.inl e)
       have jr:(0:Int)≤dE∧dE≤1:=mem_rngB (lo:=0) (hi:=1) oG ff
       refine Qn ⟨cR,_,G,(Ak 8 G cR (fun w' hw'=>r_build (vs:=[(0,i6 y),(2,i6 dE)]) G (bld102_0_2 _ _))<|Ag oC G (eZ _ _ (⟨E,y,D,aj,al,dE,kZ,kU,(At.r G),cR,ik,(kE.kn bZ),(kF.kd bZ d),aQ,aN,aO,jw,ff,jr⟩)))⟩
      refine Av #[true,true,true,true,true,true,false,false,false,false,false,false,false] 7 (fun f' w'=>∃ (E:Nat) (y:Int) (D:Int) (aj:Int),At f' [(2,pt g1),(3,pt c),(40,.slice f B H),(43,i6 y),(44,pt gc)]∧(Kp (fun b_=>b_=gc∨f=some ⟨b_,0,none⟩∨b_=c) s w')∧(Blk w' gc ec [.slice Ac nc cc,i6 D,.int .u64 aj])∧(Blk w' c 34 (cLb f B H p K R o))∧(SlO w' w.heap.size encLMap 3 102 f B H o.Maps)∧(v≤D∧D≤v+2)∧(y∈([0,1,99]:List Int))∧((0:Int)≤y∧y≤99)) ?_ (fun e6=>?_)
      ·rintro nj o7 ⟨E,y,D,aj,fM,cJ,kB,kC,gw,aQ,aN,aO⟩
       rw [← sA fM]
       have mz:=cJ.size
       refine Ab 6 G (Ql (vs:=[i6 0,i6 1]) (L:=([0,1]:List Int)) (enc:=encI) tel93 (fun _=>G) G G G oG ?_)
       intro dN o8 l3 bp g6
       have mA:=bp.size
       have d8:=cJ.lo bp
       have iM:=nE (g:=dN) ((q.kd a i).kp cJ (fun b_ hb e'=>e'.elim (fun e'=>i (by have e'':b_=gc:=e'; rw [← e'']; exact hb)) (fun e'=>e'.elim (fun e'=>am b_ e' hb) (fun e'=>aJ (by have e'':b_=c:=e'; rw [← e'']; exact hb)))))
       refine Qn ⟨d8,_,G,(Ag oC G (dq _ _ (⟨E,y,D,aj,dN,(At.r G),d8,(g6.down),(kB.lo bp),(kC.lo bp),(gw.lo bp),(fun b_ h h'=>(nE (g:=dN) gw) (h'.trans h.symm)),(fun b_ h h'=>iM (h'.trans h.symm)),aQ,aN,aO⟩)))⟩
      refine Av #[true,true,true,true,false,true,true,false,false,false,false,false,false] 7 (fun f' w'=>∃ (E:Nat) (ba:Nat),At f' [(2,pt g1),(3,pt c),(40,.slice f B H),(41,pt gc),(42,.slice (pA E) 3 3),(44,pt gc),(45,.slice (pA ba) 2 2)]∧(Kp (fun b_=>b_=gc∨f=some ⟨b_,0,none⟩∨b_=c) s w')∧(SlO w' s.heap.size encI 1 3 (pA E) 3 3 ([0,1,99]:List Int))∧(SlO w' s.heap.size encI 1 3 (pA ba) 2 2 ([0,1]:List Int))∧(Blk w' gc ec [.slice Ac nc cc,i6 v,.int .u64 ap])∧(Blk w' c 34 (cLb f B H p K R o))∧(SlO w' w.heap.size encLMap 3 102 f B H o.Maps)∧(∀ b_,(pA E)=some ⟨b_,0,none⟩→¬f=some ⟨b_,0,none⟩)∧(∀ b_,(pA E)=some ⟨b_,0,none⟩→¬p=some ⟨b_,0,none⟩)∧(∀ b_,(pA E)=some ⟨b_,0,none⟩→¬(pA ba)=some ⟨b_,0,none⟩)∧(∀ b_,(pA ba)=some ⟨b_,0,none⟩→¬f=some ⟨b_,0,none⟩)∧(∀ b_,(pA ba)=some ⟨b_,0,none⟩→¬p=some ⟨b_,0,none⟩)) ?_ (fun dr=>?_)
      ·rintro nk k6 ⟨E,ba,fN,cK,eH,i1,i7,i8,ja,lU,lV,lW,iz,iA⟩
       rw [← sA fN]
       have mC:=cK.size
       refine Ab 4 G (Qc ent58 (c___spec_l1Cur__among k6 Lc v ap i7 ((an.kn a).kp cK (fun b_ hb e'=>e'.elim (fun e'=>by have e'':b_=gc:=e'; omega) (fun e'=>e'.elim (nE (m.kd a d)) (fun e'=>by have e'':b_=c:=e'; omega)))) oB oB ([0,1,99]:List Int) (eH.rd) oB oB (show ¬E=gc from by first | omega | (have:=eH.base_le G; omega))) G ?_)
       rintro e o9 ⟨d2,k0,kV,rfl,il,jx,fg,bq⟩
       refine ⟨_,G,?_⟩
       have mD:=bq.size
       have d9:=cK.step bq (fun _ _ e=>.inl e)
       have js:(0:Int)≤d2∧d2≤99:=mem_rngB (lo:=0) (hi:=99) oG fg
       refine Qn ⟨d9,_,G,(Ag oC G (dq _ _ (⟨E,d2,k0,kV,ba,(At.r G),d9,((i1.kn bq).down),il,(i8.kn bq),(ja.kd bq d),iz,iA,jx,fg,js⟩)))⟩
      refine Av #[true,false,true,true,true,true,true,false,false,false,false,false,false] 7 (fun f' w'=>∃ (V:Nat) (aq:Int) (aT:Int) (bL:Int) (aC:Nat),At f' [(2,pt g1),(3,pt c),(39,.pointer (some ((⟨c,0,none⟩:Addr).add 0))),(43,i6 aq),(44,pt gc),(45,.slice (pA aC) 2 2)]∧(Kp (fun b_=>b_=gc∨f=some ⟨b_,0,none⟩∨b_=c) s w')∧(SlO w' s.heap.size encI 1 3 (pA aC) 2 2 ([0,1]:List Int))∧(Blk w' gc ec [.slice Ac nc cc,i6 aT,.int .u64 bL])∧(Blk w' c 34 (cLb f B H p K R o))∧(SlO w' w.heap.size encLMap 3 102 f B H o.Maps)∧(∀ b_,(pA aC)=some ⟨b_,0,none⟩→¬f=some ⟨b_,0,none⟩)∧(∀ b_,(pA aC)=some ⟨b_,0,none⟩→¬p=some ⟨b_,0,none⟩)∧(v≤aT∧aT≤v+2)∧(aq∈([0,1,99]:List Int))∧((0:Int)≤aq∧aq≤99)) ?_ (fun e7=>?_)
      ·rintro nl k7 ⟨V,aq,aT,bL,aC,fO,aV,dh,eL,a8,ca,iD,iE,dB,dt,du⟩
       rw [← sA fO]
       have mE:=aV.size
       refine Ar [1,7] oC G ⟨Bm G trivial ?_,Bm G trivial ?_,trivial⟩
       ·refine Q (lB sca31 G a8 G) (Qn ⟨aV,_,G,(Ag oC G (dq _ _ (⟨V,aq,aT,bL,aC,(At.r G),aV,(dh.down),eL,a8,ca,iD,iE,dB,dt,du⟩)))⟩)
       ·refine Qc ent58 (c___spec_l1Cur__among k7 Lc aT bL eL ((an.kn a).kp aV (fun b_ hb e'=>e'.elim (fun e'=>by have e'':b_=gc:=e'; omega) (fun e'=>e'.elim (nE (m.kd a d)) (fun e'=>by have e'':b_=c:=e'; omega)))) oB oB ([0,1]:List Int) (dh.rd) oB oB (show ¬aC=gc from by first | omega | (have:=dh.base_le G; omega))) G ?_
        rintro e pb ⟨be,gU,gR,rfl,ep,fp,dw,Z⟩
        refine ⟨_,G,?_⟩
        have mF:=Z.size
        have bl:=aV.step Z (fun _ _ e=>.inl e)
        have fh:(0:Int)≤be∧be≤1:=mem_rngB (lo:=0) (hi:=1) oG dw
        refine Qn ⟨bl,_,G,(Ak 8 G bl (fun w' hw'=>r_build (vs:=[(0,i6 aq),(2,i6 be)]) G (bld102_0_2 _ _))<|Ar [1,9] oC G ⟨Bm G trivial ?_,Bm G trivial ?_,trivial⟩)⟩
        ·refine Q (lB sca31 G (a8.kn Z) G) (Qn ⟨bl,_,G,(Ag oC G (eZ _ _ (⟨V,aq,aT,bL,aC,be,gU,gR,(At.r G),bl,ep,(a8.kn Z),(ca.kd Z d),dB,dt,du,fp,dw,fh⟩)))⟩)
        ·refine Ql (vs:=[.agg (List.toArray [i6 aq,i6 0,i6 be])]) (L:=([(⟨aq,0,be⟩:LMap)]:List LMap)) (enc:=encLMap) tel31 (fun _=>G) G G G oG ?_
         intro dO pc l4 aW g7
         have mG:=aW.size
         have cS:=bl.lo aW
         have iN:=nE (g:=dO) (((q.kd a i).kp aV (fun b_ hb e'=>e'.elim (fun e'=>i (by have e'':b_=gc:=e'; rw [← e'']; exact hb)) (fun e'=>e'.elim (fun e'=>am b_ e' hb) (fun e'=>aJ (by have e'':b_=c:=e'; rw [← e'']; exact hb))))).kd Z i)
         refine Qn ⟨cS,_,G,(Ab 1 G (Q (lB sca31 G ((a8.kn Z).lo aW) G) (Qn ⟨cS,_,G,(Ag oC G (eY _ _ (⟨V,aq,aT,bL,aC,be,gU,gR,dO,(At.r G),cS,(g7.down),(ep.lo aW),((a8.kn Z).lo aW),((ca.kd Z d).lo aW),(fun b_ h h'=>(nE (g:=dO) (ca.kd Z d)) (h'.trans h.symm)),(fun b_ h h'=>iN (h'.trans h.symm)),dB,dt,du,fp,dw,fh⟩)))⟩)))⟩
      refine Av #[true,true,true,true,false,true,false,false,false,false,false,false,false] 8 (fun f' w'=>∃ (E:Nat),At f' [(2,pt g1),(3,pt c),(40,.slice f B H),(41,pt gc),(42,.slice (pA E) 3 3),(44,pt gc)]∧(Kp (fun b_=>b_=gc∨f=some ⟨b_,0,none⟩∨b_=c) s w')∧(SlO w' s.heap.size encI 1 3 (pA E) 3 3 ([0,1,99]:List Int))∧(Blk w' gc ec [.slice Ac nc cc,i6 v,.int .u64 ap])∧(Blk w' c 34 (cLb f B H p K R o))∧(SlO w' w.heap.size encLMap 3 102 f B H o.Maps)∧(∀ b_,(pA E)=some ⟨b_,0,none⟩→¬f=some ⟨b_,0,none⟩)∧(∀ b_,(pA E)=some ⟨b_,0,none⟩→¬p=some ⟨b_,0,none⟩)) ?_ (fun e9=>?_)
      ·rintro nn k8 ⟨E,fP,bi,dp,gp,gr,d1,j3,j4⟩
       rw [← sA fP]
       have mH:=bi.size
       refine Ar [4,6] oC G ⟨Bm G trivial ?_,Bm G trivial ?_,trivial⟩
       ·refine Qc ent58 (c___spec_l1Cur__among k8 Lc v ap gp ((an.kn a).kp bi (fun b_ hb e'=>e'.elim (fun e'=>by have e'':b_=gc:=e'; omega) (fun e'=>e'.elim (nE (m.kd a d)) (fun e'=>by have e'':b_=c:=e'; omega)))) oB oB ([0,1,99]:List Int) (dp.rd) oB oB (show ¬E=gc from by first | omega | (have:=dp.base_le G; omega))) G ?_
        rintro e pd ⟨d3,k1,kW,rfl,im,jy,fj,b4⟩
        refine ⟨_,G,?_⟩
        have mJ:=b4.size
        have ea:=bi.step b4 (fun _ _ e=>.inl e)
        have jt:(0:Int)≤d3∧d3≤99:=mem_rngB (lo:=0) (hi:=99) oG fj
        refine Qn ⟨ea,_,G,(Ag oC G (e6 _ _ (⟨E,d3,k1,kW,(At.r G),ea,im,(gr.kn b4),(d1.kd b4 d),jy,fj,jt⟩)))⟩
       ·refine Ql (vs:=[i6 0,i6 1]) (L:=([0,1]:List Int)) (enc:=encI) tel93 (fun _=>G) G G G oG ?_
        intro cz pf l5 aX g8
        have mK:=aX.size
        have ed:=bi.lo aX
        have iO:=nE (g:=cz) ((q.kd a i).kp bi (fun b_ hb e'=>e'.elim (fun e'=>i (by have e'':b_=gc:=e'; rw [← e'']; exact hb)) (fun e'=>e'.elim (fun e'=>am b_ e' hb) (fun e'=>aJ (by have e'':b_=c:=e'; rw [← e'']; exact hb)))))
        refine Qn ⟨ed,_,G,(Ag oC G (dr _ _ (⟨E,cz,(At.r G),ed,((dp.lo aX).down),(g8.down),(gp.lo aX),(gr.lo aX),(d1.lo aX),j3,j4,(fun b_ h h'=>(nE (g:=cz) dp) (h.trans h'.symm)),(fun b_ h h'=>(nE (g:=cz) d1) (h'.trans h.symm)),(fun b_ h h'=>iO (h'.trans h.symm))⟩)))⟩
      refine Av #[true,true,true,false,false,true,true,false,false,false,false,false,false] 8 (fun f' w'=>∃ (bF:Nat),At f' [(2,pt g1),(3,pt c),(40,.slice f B H),(41,pt gc),(44,pt gc),(45,.slice (pA bF) 2 2)]∧(Kp (fun b_=>b_=gc∨f=some ⟨b_,0,none⟩∨b_=c) s w')∧(SlO w' s.heap.size encI 1 3 (pA bF) 2 2 ([0,1]:List Int))∧(Blk w' gc ec [.slice Ac nc cc,i6 v,.int .u64 ap])∧(Blk w' c 34 (cLb f B H p K R o))∧(SlO w' w.heap.size encLMap 3 102 f B H o.Maps)∧(∀ b_,(pA bF)=some ⟨b_,0,none⟩→¬f=some ⟨b_,0,none⟩)∧(∀ b_,(pA bF)=some ⟨b_,0,none⟩→¬p=some ⟨b_,0,none⟩)) ?_ (fun fa=>?_)
      ·rintro np pg ⟨bF,fQ,cN,eJ,jc,jd,eK,iB,iC⟩
       rw [← sA fQ]
       have mM:=cN.size
       refine Ab 3 G (Ql (vs:=[i6 0,i6 1,i6 99]) (L:=([0,1,99]:List Int)) (enc:=encI) tel93 (fun _=>G) G G G oG ?_)
       intro cA ph l6 aY hF
       have mN:=aY.size
       have ee:=cN.lo aY
       have iP:=nE (g:=cA) ((q.kd a i).kp cN (fun b_ hb e'=>e'.elim (fun e'=>i (by have e'':b_=gc:=e'; rw [← e'']; exact hb)) (fun e'=>e'.elim (fun e'=>am b_ e' hb) (fun e'=>aJ (by have e'':b_=c:=e'; rw [← e'']; exact hb)))))
       refine Qn ⟨ee,_,G,(Ag oC G (dr _ _ (⟨cA,bF,(At.r G),ee,(hF.down),((eJ.lo aY).down),(jc.lo aY),(jd.lo aY),(eK.lo aY),(fun b_ h h'=>(nE (g:=cA) eK) (h'.trans h.symm)),(fun b_ h h'=>iP (h'.trans h.symm)),(fun b_ h h'=>(nE (g:=cA) eJ) (h'.trans h.symm)),iB,iC⟩)))⟩
      refine Av #[true,false,true,true,false,true,true,false,false,false,false,false,false] 8 (fun f' w'=>∃ (V:Nat) (aF:Nat),At f' [(2,pt g1),(3,pt c),(39,.pointer (some ((⟨c,0,none⟩:Addr).add 0))),(41,pt gc),(42,.slice (pA V) 3 3),(44,pt gc),(45,.slice (pA aF) 2 2)]∧(Kp (fun b_=>b_=gc∨f=some ⟨b_,0,none⟩∨b_=c) s w')∧(SlO w' s.heap.size encI 1 3 (pA V) 3 3 ([0,1,99]:List Int))∧(SlO w' s.heap.size encI 1 3 (pA aF) 2 2 ([0,1]:List Int))∧(Blk w' gc ec [.slice Ac nc cc,i6 v,.int .u64 ap])∧(Blk w' c 34 (cLb f B H p K R o))∧(SlO w' w.heap.size encLMap 3 102 f B H o.Maps)∧(∀ b_,(pA V)=some ⟨b_,0,none⟩→¬f=some ⟨b_,0,none⟩)∧(∀ b_,(pA V)=some ⟨b_,0,none⟩→¬p=some ⟨b_,0,none⟩)∧(∀ b_,(pA V)=some ⟨b_,0,none⟩→¬(pA aF)=some ⟨b_,0,none⟩)∧(∀ b_,(pA aF)=some ⟨b_,0,none⟩→¬f=some ⟨b_,0,none⟩)∧(∀ b_,(pA aF)=some ⟨b_,0,none⟩→¬p=some ⟨b_,0,none⟩)) ?_ (fun fb=>?_)
      ·rintro nq k9 ⟨V,aF,fR,bj,di,eM,eN,dk,eO,iF,iG,iH,ew,ex⟩
       rw [← sA fR]
       have mO:=bj.size
       refine Ar [1,4] oC G ⟨Bm G trivial ?_,Bm G trivial ?_,trivial⟩
       ·refine Q (lB sca31 G dk G) (Qn ⟨bj,_,G,(Ag oC G (dr _ _ (⟨V,aF,(At.r G),bj,(di.down),(eM.down),eN,dk,eO,iF,iG,iH,ew,ex⟩)))⟩)
       ·refine Qc ent58 (c___spec_l1Cur__among k9 Lc v ap eN ((an.kn a).kp bj (fun b_ hb e'=>e'.elim (fun e'=>by have e'':b_=gc:=e'; omega) (fun e'=>e'.elim (nE (m.kd a d)) (fun e'=>by have e'':b_=c:=e'; omega)))) oB oB ([0,1,99]:List Int) (di.rd) oB oB (show ¬V=gc from by first | omega | (have:=di.base_le G; omega))) G ?_
        rintro e pj ⟨d4,k3,kX,rfl,io,jz,fk,bs⟩
        refine ⟨_,G,?_⟩
        have mQ:=bs.size
        have ef:=bj.step bs (fun _ _ e=>.inl e)
        have ju:(0:Int)≤d4∧d4≤99:=mem_rngB (lo:=0) (hi:=99) oG fk
        refine Qn ⟨ef,_,G,(Ag oC G (e7 _ _ (⟨V,d4,k3,kX,aF,(At.r G),ef,((eM.kn bs).down),io,(dk.kn bs),(eO.kd bs d),ew,ex,jz,fk,ju⟩)))⟩
      refine Ak 0 G (kr b) (fun w' hw'=>fA fa34_0 G)<|Ak 2 G (kr b) (fun w' hw'=>mP G)<|Ak 5 G (kr b) (fun w' hw'=>mP G)<|Ar [1,3,6] oC G ⟨Bm G trivial ?_,Bm G trivial ?_,Bm G trivial ?_,trivial⟩
      ·refine Q (lB sca31 G ((C.kn a).lo b) G) (Qn ⟨(kq s).lo b,_,G,(Ar [3,6] oC G ⟨Bm G trivial ?_,Bm G trivial ?_,trivial⟩)⟩)
       ·refine Ql (vs:=[i6 0,i6 1,i6 99]) (L:=([0,1,99]:List Int)) (enc:=encI) tel93 (fun _=>G) G G G oG ?_
        intro dP pk l7 bt hG
        have mR:=bt.size
        have eg:=((kr b:Kp (fun b_=>b_=gc∨f=some ⟨b_,0,none⟩∨b_=c) s _)).lo bt
        refine Qn ⟨eg,_,G,(Ag oC G (e9 _ _ (⟨dP,(At.r G),eg,(hG.down),((X.lo b).lo bt),(((C.kn a).lo b).lo bt),(((m.kd a d).lo b).lo bt),(fun b_ h h'=>(nE (g:=dP) ((m.kd a d).lo b)) (h'.trans h.symm)),(fun b_ h h'=>(nE (g:=dP) ((q.kd a i).lo b)) (h'.trans h.symm))⟩)))⟩
       ·refine Ql (vs:=[i6 0,i6 1]) (L:=([0,1]:List Int)) (enc:=encI) tel93 (fun _=>G) G G G oG ?_
        intro dQ pl l8 bu hH
        have mU:=bu.size
        have eh:=((kr b:Kp (fun b_=>b_=gc∨f=some ⟨b_,0,none⟩∨b_=c) s _)).lo bu
        refine Qn ⟨eh,_,G,(Ag oC G (fa _ _ (⟨dQ,(At.r G),eh,(hH.down),((X.lo b).lo bu),(((C.kn a).lo b).lo bu),(((m.kd a d).lo b).lo bu),(fun b_ h h'=>(nE (g:=dQ) ((m.kd a d).lo b)) (h'.trans h.symm)),(fun b_ h h'=>(nE (g:=dQ) ((q.kd a i).lo b)) (h'.trans h.symm))⟩)))⟩
      ·refine Ql (vs:=[i6 0,i6 1,i6 99]) (L:=([0,1,99]:List Int)) (enc:=encI) tel93 (fun _=>G) G G G oG ?_
       intro bb lc l9 A bh
       have mV:=A.size
       have bm:=((kr b:Kp (fun b_=>b_=gc∨f=some ⟨b_,0,none⟩∨b_=c) s _)).lo A
       have ez:=nE (g:=bb) ((m.kd a d).lo b)
       have eD:=nE (g:=bb) ((q.kd a i).lo b)
       refine Qn ⟨bm,_,G,(Ar [1,4,6] oC G ⟨Bm G trivial ?_,Bm G trivial ?_,Bm G trivial ?_,trivial⟩)⟩
       ·refine Q (lB sca31 G (((C.kn a).lo b).lo A) G) (Qn ⟨bm,_,G,(Ag oC G (e9 _ _ (⟨bb,(At.r G),bm,(bh.down),((X.lo b).lo A),(((C.kn a).lo b).lo A),(((m.kd a d).lo b).lo A),(fun b_ h h'=>ez (h'.trans h.symm)),(fun b_ h h'=>eD (h'.trans h.symm))⟩)))⟩)
       ·refine Qc ent58 (c___spec_l1Cur__among lc Lc v ap ((X.lo b).lo A) (((an.kn a).lo b).lo A) oB oB ([0,1,99]:List Int) (bh.rd) oB oB (show ¬bb=gc from by first | omega | (have:=bh.base_le G; omega))) G ?_
        rintro e pm ⟨dF,gW,gS,rfl,et,fq,dx,ak⟩
        refine ⟨_,G,?_⟩
        have mW:=ak.size
        have bV:=bm.step ak (fun _ _ e=>.inl e)
        have fl:(0:Int)≤dF∧dF≤99:=mem_rngB (lo:=0) (hi:=99) oG dx
        refine Qn ⟨bV,_,G,(Ar [1,6] oC G ⟨Bm G trivial ?_,Bm G trivial ?_,trivial⟩)⟩
        ·refine Q (lB sca31 G ((((C.kn a).lo b).lo A).kn ak) G) (Qn ⟨bV,_,G,(Ag oC G (e6 _ _ (⟨bb,dF,gW,gS,(At.r G),bV,et,((((C.kn a).lo b).lo A).kn ak),((((m.kd a d).lo b).lo A).kd ak d),fq,dx,fl⟩)))⟩)
        ·refine Ql (vs:=[i6 0,i6 1]) (L:=([0,1]:List Int)) (enc:=encI) tel93 (fun _=>G) G G G oG ?_
         intro dR pn ma bw hI
         have mX:=bw.size
         have ei:=bV.lo bw
         refine Qn ⟨ei,_,G,(Ag oC G (e7 _ _ (⟨bb,dF,gW,gS,dR,(At.r G),ei,(hI.down),(et.lo bw),(((((C.kn a).lo b).lo A).kn ak).lo bw),(((((m.kd a d).lo b).lo A).kd ak d).lo bw),(fun b_ h h'=>(nE (g:=dR) ((((m.kd a d).lo b).lo A).kd ak d)) (h'.trans h.symm)),(fun b_ h h'=>(nE (g:=dR) ((((q.kd a i).lo b).lo A).kd ak i)) (h'.trans h.symm)),fq,dx,fl⟩)))⟩
       ·refine Ql (vs:=[i6 0,i6 1]) (L:=([0,1]:List Int)) (enc:=encI) tel93 (fun _=>G) G G G oG ?_
        intro cB po mb aZ hJ
        have mY:=aZ.size
        have ej:=bm.lo aZ
        refine Qn ⟨ej,_,G,(Ag oC G (fb _ _ (⟨bb,cB,(At.r G),ej,((bh.lo aZ).down),(hJ.down),(((X.lo b).lo A).lo aZ),((((C.kn a).lo b).lo A).lo aZ),((((m.kd a d).lo b).lo A).lo aZ),(fun b_ h h'=>ez (h'.trans h.symm)),(fun b_ h h'=>eD (h'.trans h.symm)),(fun b_ h h'=>(nE (g:=cB) bh) (h.trans h'.symm)),(fun b_ h h'=>(nE (g:=cB) (((m.kd a d).lo b).lo A)) (h'.trans h.symm)),(fun b_ h h'=>(nE (g:=cB) (((q.kd a i).lo b).lo A)) (h'.trans h.symm))⟩)))⟩
      ·refine Ql (vs:=[i6 0,i6 1]) (L:=([0,1]:List Int)) (enc:=encI) tel93 (fun _=>G) G G G oG ?_
       intro cC pp mc Y cF
       have mZ:=Y.size
       have bW:=((kr b:Kp (fun b_=>b_=gc∨f=some ⟨b_,0,none⟩∨b_=c) s _)).lo Y
       have eE:=nE (g:=cC) ((m.kd a d).lo b)
       have eF:=nE (g:=cC) ((q.kd a i).lo b)
       refine Qn ⟨bW,_,G,(Ar [1,3] oC G ⟨Bm G trivial ?_,Bm G trivial ?_,trivial⟩)⟩
       ·refine Q (lB sca31 G (((C.kn a).lo b).lo Y) G) (Qn ⟨bW,_,G,(Ag oC G (fa _ _ (⟨cC,(At.r G),bW,(cF.down),((X.lo b).lo Y),(((C.kn a).lo b).lo Y),(((m.kd a d).lo b).lo Y),(fun b_ h h'=>eE (h'.trans h.symm)),(fun b_ h h'=>eF (h'.trans h.symm))⟩)))⟩)
       ·refine Ql (vs:=[i6 0,i6 1,i6 99]) (L:=([0,1,99]:List Int)) (enc:=encI) tel93 (fun _=>G) G G G oG ?_
        intro cD pq md a6 hP
        have m0:=a6.size
        have ek:=bW.lo a6
        refine Qn ⟨ek,_,G,(Ag oC G (fb _ _ (⟨cD,cC,(At.r G),ek,(hP.down),((cF.lo a6).down),(((X.lo b).lo Y).lo a6),((((C.kn a).lo b).lo Y).lo a6),((((m.kd a d).lo b).lo Y).lo a6),(fun b_ h h'=>(nE (g:=cD) (((m.kd a d).lo b).lo Y)) (h'.trans h.symm)),(fun b_ h h'=>(nE (g:=cD) (((q.kd a i).lo b).lo Y)) (h'.trans h.symm)),(fun b_ h h'=>(nE (g:=cD) cF) (h'.trans h.symm)),(fun b_ h h'=>eE (h'.trans h.symm)),(fun b_ h h'=>eF (h'.trans h.symm))⟩)))⟩
     rintro nr pr ⟨bg,dH,E,y,D,aj,al,S,ag,aR,bN,fS,bS,iX,iY,iZ,lS,ix,lT,iy,aQ,aN,aO,dD,dz,dA⟩
     rw [← sA fS]
     have m1:=bS.size
     refine Ws ?_
     have je:=(bC.kn a).kp bS (fun e'=>e'.elim (fun e'=>by have e'':g1=gc:=e'; omega) (fun e'=>e'.elim (fun e'=>cl e') (fun e'=>by have e'':g1=c:=e'; omega)))
     have jf:=(q.kd a i).kp bS (fun b_ hb e'=>e'.elim (fun e'=>i (by have e'':b_=gc:=e'; rw [← e'']; exact hb)) (fun e'=>e'.elim (fun e'=>am b_ e' hb) (fun e'=>aJ (by have e'':b_=c:=e'; rw [← e'']; exact hb))))
     refine Wr (Q (lG agg34 G iZ G)<|Qw (o:=0) (vs:=[.slice bg (B+1) dH,.slice p K R,i6 o.Bought,i6 o.Dropped,i6 o.Mended]) agg34.2 G G G G je ler G ?_)
     intro pu b5 mj ip
     refine Qn (We (retC G G agg34 ip G ?_))
     refine ⟨bg,B+1,dH,p,K,R,(⟨o.Maps++([(⟨y,0,S⟩:LMap)]:List LMap),o.Away,o.Bought,o.Dropped,o.Mended⟩:Library),ag,aR,eR (eA G),(oq ((iX.kd b5 ix).down) ?_),(oq ((jf.kd b5 cm).down) ?_),iy,(iY.kn b5),⟨oB,oB⟩,oE,(by first | assumption | exact MapB.of (And.left (And.left ‹LibOK _›)) | exact MapB.app (MapB.of (And.left (And.left ‹LibOK _›))) oF | exact MapB.nil),gO,((cE.step bS (fun i_ hi_ e'=>e'.elim (fun e'=>e') (fun e'=>e'.elim (fun e'=>by have:=(m.kd a d).base_le e'; omega) (fun e'=>by have e'':i_=c:=e'; omega)))).new b5)⟩ <;> (first | rfl | omega | grind)
    ·refine Ws (Wr (Q (r_eq G G)<|Q (aB G)<|Qn (Wd G (fun jJ=>?_) (fun jJ=>?_))))
     ·refine Ws (WA (Kp (fun b_=>b_=gc∨p=some ⟨b_,0,none⟩∨b_=c) s) (fun f' w'=>∃ (T:Nat) (F:Int) (P:Int) (ao:Int) (aG:Nat) (aA:Option Addr) (cg:Nat),At f' [(2,pt g1),(3,pt c)]∧(Kp (fun b_=>b_=gc∨p=some ⟨b_,0,none⟩∨b_=c) s w')∧(SlO w' w.heap.size encAway 2 129 aA (K+1) cg (o.Away++([(⟨F,5⟩:Away)]:List Away)))∧(Blk w' gc ec [.slice Ac nc cc,i6 P,.int .u64 ao])∧(Blk w' c 34 [.slice f B H,.slice aA (K+1) cg,i6 o.Bought,i6 o.Dropped,i6 o.Mended])∧(¬aA=some ⟨gc,0,none⟩)∧(¬aA=some ⟨g1,0,none⟩)∧(¬aA=some ⟨c,0,none⟩)∧Dj aA f∧(v≤P∧P≤v+2)∧(F∈([0,1,99]:List Int))∧((0:Int)≤F∧F≤99)) mo ?_ ?_)
      ·intro pw k
       have m2:=k.size
       refine Av #[true,true,true,true,true,true,true,false,false,false] 3 (fun f' w'=>∃ (T:Nat) (F:Int) (P:Int) (ao:Int) (aG:Nat),At f' [(2,pt g1),(3,pt c),(54,.slice p K R),(59,.slice (pA aG) 1 1)]∧(Kp (fun b_=>b_=gc∨p=some ⟨b_,0,none⟩∨b_=c) s w')∧(SlO w' s.heap.size encAway 2 129 (pA aG) 1 1 ([(⟨F,5⟩:Away)]:List Away))∧(Blk w' gc ec [.slice Ac nc cc,i6 P,.int .u64 ao])∧(Blk w' c 34 (cLb f B H p K R o))∧(SlO w' w.heap.size encAway 2 129 p K R o.Away)∧(∀ b_,(pA aG)=some ⟨b_,0,none⟩→¬f=some ⟨b_,0,none⟩)∧(∀ b_,(pA aG)=some ⟨b_,0,none⟩→¬p=some ⟨b_,0,none⟩)∧(v≤P∧P≤v+2)∧(F∈([0,1,99]:List Int))∧((0:Int)≤F∧F≤99)) ?_ (fun fc=>?_)
       ·rintro ns px ⟨T,F,P,ao,aG,fT,bT,jl,eT,eU,jm,lZ,l0,cf,cd,ce⟩
        rw [← sA fT]
        have m3:=bT.size
        refine Ab 7 G (Qp tel32 G G jm (jl.rd) (fun _=>G) oB oB ?_)
        intro bE ft py b6 hQ bQ
        have m4:=b6.size
        have cT:=bT.step b6 (fun _ _ e=>.inr (.inl e))
        have iT:¬bE=some ⟨gc,0,none⟩:=fun e'=>(bQ gc e').elim (fun h=>i (h.trans e')) (fun h=>by have:=eT.lt; omega)
        have iU:¬bE=some ⟨g1,0,none⟩:=fun e'=>(bQ g1 e').elim (fun h=>cm (h.trans e')) (fun h=>by have:=((bC.kn a).kp bT (fun e'=>e'.elim (fun e'=>by have e'':g1=gc:=e'; omega) (fun e'=>e'.elim (fun e'=>cm e') (fun e'=>by have e'':g1=c:=e'; omega)))).lt; omega)
        have eG:¬bE=some ⟨c,0,none⟩:=fun e'=>(bQ c e').elim (fun h=>aJ (h.trans e')) (fun h=>by have:=eU.lt; omega)
        have iV:Dj bE f:=fun b_ e' h'=>(bQ b_ e').elim (fun h=>am b_ h' (h.trans e')) (fun h=>by have:=((m.kd a d).kp bT (fun b_ hb e'=>e'.elim (fun e'=>d (by have e'':b_=gc:=e'; rw [← e'']; exact hb)) (fun e'=>e'.elim (fun e'=>am b_ hb e') (fun e'=>bO (by have e'':b_=c:=e'; rw [← e'']; exact hb))))).base_le h'; omega)
        refine Qn ⟨cT,_,G,(Ak 8 G cT (fun w' hw'=>fA fa34_1 G)<|Ab 9 G (Qw (o:=1) (vs:=[.slice bE (K+1) ft]) sca32.2 G G G G (eU.kp b6 (fun e'=>aJ e')) ler G ?_))⟩
        intro pz c7 mm iq
        have el:=cT.step c7 (fun _ _ e=>.inr (.inr e))
        refine Qn ⟨el,_,G,(Ad oC (⟨T,F,P,ao,aG,bE,ft,⟨G,G,trivial⟩,el,(hQ.kd c7 eG),((eT.kp b6 (fun e'=>i e')).kn c7),iq,iT,iU,eG,iV,cf,cd,ce⟩))⟩
       refine Av #[true,true,true,true,true,true,false,false,false,false] 4 (fun f' w'=>∃ (T:Nat) (F:Int) (P:Int) (ao:Int),At f' [(2,pt g1),(3,pt c),(54,.slice p K R),(58,.agg (List.toArray [i6 F,i6 5]))]∧(Kp (fun b_=>b_=gc∨p=some ⟨b_,0,none⟩∨b_=c) s w')∧(Blk w' gc ec [.slice Ac nc cc,i6 P,.int .u64 ao])∧(Blk w' c 34 (cLb f B H p K R o))∧(SlO w' w.heap.size encAway 2 129 p K R o.Away)∧(v≤P∧P≤v+2)∧(F∈([0,1,99]:List Int))∧((0:Int)≤F∧F≤99)) ?_ (fun fd=>?_)
       ·rintro nt pB ⟨T,F,P,ao,fU,cO,jj,jk,eQ,cf,cd,ce⟩
        rw [← sA fU]
        have m5:=cO.size
        refine Ab 6 G (Ql (vs:=[.agg (List.toArray [i6 F,i6 5])]) (L:=([(⟨F,5⟩:Away)]:List Away)) (enc:=encAway) tel32 (fun _=>G) G G G oG ?_)
        intro dS pC me bz hU
        have m6:=bz.size
        have em:=cO.lo bz
        have iW:=nE (g:=dS) ((m.kd a d).kp cO (fun b_ hb e'=>e'.elim (fun e'=>d (by have e'':b_=gc:=e'; rw [← e'']; exact hb)) (fun e'=>e'.elim (fun e'=>am b_ hb e') (fun e'=>bO (by have e'':b_=c:=e'; rw [← e'']; exact hb)))))
        refine Qn ⟨em,_,G,(Ag oC G (fc _ _ (⟨T,F,P,ao,dS,(At.r G),em,(hU.down),(jj.lo bz),(jk.lo bz),(eQ.lo bz),(fun b_ h h'=>iW (h'.trans h.symm)),(fun b_ h h'=>(nE (g:=dS) eQ) (h'.trans h.symm)),cf,cd,ce⟩)))⟩
       refine Av #[true,true,true,true,false,false,false,false,false,false] 6 (fun f' w'=>∃ (T:Nat),At f' [(2,pt g1),(3,pt c),(54,.slice p K R),(55,pt gc),(56,.slice (pA T) 3 3)]∧(Kp (fun b_=>b_=gc∨p=some ⟨b_,0,none⟩∨b_=c) s w')∧(SlO w' s.heap.size encI 1 3 (pA T) 3 3 ([0,1,99]:List Int))∧(Blk w' gc ec [.slice Ac nc cc,i6 v,.int .u64 ap])∧(Blk w' c 34 (cLb f B H p K R o))∧(SlO w' w.heap.size encAway 2 129 p K R o.Away)∧(∀ b_,(pA T)=some ⟨b_,0,none⟩→¬f=some ⟨b_,0,none⟩)∧(∀ b_,(pA T)=some ⟨b_,0,none⟩→¬p=some ⟨b_,0,none⟩)) ?_ (fun fe=>?_)
       ·rintro nu ld ⟨T,fV,cP,eP,jg,jh,ji,lX,lY⟩
        rw [← sA fV]
        have m7:=cP.size
        refine Ab 4 G (Qc ent58 (c___spec_l1Cur__among ld Lc v ap jg ((an.kn a).kp cP (fun b_ hb e'=>e'.elim (fun e'=>by have e'':b_=gc:=e'; omega) (fun e'=>e'.elim (nE (q.kd a i)) (fun e'=>by have e'':b_=c:=e'; omega)))) oB oB ([0,1,99]:List Int) (eP.rd) oB oB (show ¬T=gc from by first | omega | (have:=eP.base_le G; omega))) G ?_)
        rintro e pD ⟨dG,k4,kY,rfl,ir,jA,fm,b7⟩
        refine ⟨_,G,?_⟩
        have m8:=b7.size
        have cU:=cP.step b7 (fun _ _ e=>.inl e)
        have jv:(0:Int)≤dG∧dG≤99:=mem_rngB (lo:=0) (hi:=99) oG fm
        refine Qn ⟨cU,_,G,(Ak 5 G cU (fun w' hw'=>r_build (vs:=[(0,i6 dG),(1,i6 5)]) G (bld129_0_1 _ _))<|Ag oC G (fd _ _ (⟨T,dG,k4,kY,(At.r G),cU,ir,(jh.kn b7),(ji.kd b7 i),jA,fm,jv⟩)))⟩
       refine Ak 0 G (kr k) (fun w' hw'=>fA fa34_1 G)<|Ak 2 G (kr k) (fun w' hw'=>mP G)<|Ar [1,3] oC G ⟨Bm G trivial ?_,Bm G trivial ?_,trivial⟩
       ·refine Q (lB sca32 G ((C.kn a).lo k) G) (Qn ⟨(kq s).lo k,_,G,(Ab 3 G (Ql (vs:=[i6 0,i6 1,i6 99]) (L:=([0,1,99]:List Int)) (enc:=encI) tel93 (fun _=>G) G G G oG ?_))⟩)
        intro dT pE mf bA hY
        have m9:=bA.size
        have eo:=((kr k:Kp (fun b_=>b_=gc∨p=some ⟨b_,0,none⟩∨b_=c) s _)).lo bA
        refine Qn ⟨eo,_,G,(Ag oC G (fe _ _ (⟨dT,(At.r G),eo,(hY.down),((X.lo k).lo bA),(((C.kn a).lo k).lo bA),(((q.kd a i).lo k).lo bA),(fun b_ h h'=>(nE (g:=dT) ((m.kd a d).lo k)) (h'.trans h.symm)),(fun b_ h h'=>(nE (g:=dT) ((q.kd a i).lo k)) (h'.trans h.symm))⟩)))⟩
       ·refine Ql (vs:=[i6 0,i6 1,i6 99]) (L:=([0,1,99]:List Int)) (enc:=encI) tel93 (fun _=>G) G G G oG ?_
        intro bG lf mg I cG
        have na:=I.size
        have bX:=((kr k:Kp (fun b_=>b_=gc∨p=some ⟨b_,0,none⟩∨b_=c) s _)).lo I
        refine Qn ⟨bX,_,G,(Ar [1,4] oC G ⟨Bm G trivial ?_,Bm G trivial ?_,trivial⟩)⟩
        ·refine Q (lB sca32 G (((C.kn a).lo k).lo I) G) (Qn ⟨bX,_,G,(Ag oC G (fe _ _ (⟨bG,(At.r G),bX,(cG.down),((X.lo k).lo I),(((C.kn a).lo k).lo I),(((q.kd a i).lo k).lo I),(fun b_ h h'=>(nE (g:=bG) ((m.kd a d).lo k)) (h'.trans h.symm)),(fun b_ h h'=>(nE (g:=bG) ((q.kd a i).lo k)) (h'.trans h.symm))⟩)))⟩)
        ·refine Qc ent58 (c___spec_l1Cur__among lf Lc v ap ((X.lo k).lo I) (((an.kn a).lo k).lo I) oB oB ([0,1,99]:List Int) (cG.rd) oB oB (show ¬bG=gc from by first | omega | (have:=cG.base_le G; omega))) G ?_
         rintro e pG ⟨bf,gX,gT,rfl,eu,fr,dy,aa⟩
         refine ⟨_,G,?_⟩
         have nb:=aa.size
         have bn:=bX.step aa (fun _ _ e=>.inl e)
         have fo:(0:Int)≤bf∧bf≤99:=mem_rngB (lo:=0) (hi:=99) oG dy
         refine Qn ⟨bn,_,G,(Ak 5 G bn (fun w' hw'=>r_build (vs:=[(0,i6 bf),(1,i6 5)]) G (bld129_0_1 _ _))<|Ar [1,6] oC G ⟨Bm G trivial ?_,Bm G trivial ?_,trivial⟩)⟩
         ·refine Q (lB sca32 G ((((C.kn a).lo k).lo I).kn aa) G) (Qn ⟨bn,_,G,(Ag oC G (fd _ _ (⟨bG,bf,gX,gT,(At.r G),bn,eu,((((C.kn a).lo k).lo I).kn aa),((((q.kd a i).lo k).lo I).kd aa i),fr,dy,fo⟩)))⟩)
         ·refine Ql (vs:=[.agg (List.toArray [i6 bf,i6 5])]) (L:=([(⟨bf,5⟩:Away)]:List Away)) (enc:=encAway) tel32 (fun _=>G) G G G oG ?_
          intro dU pH mh a7 hZ
          have nd:=a7.size
          have cX:=bn.lo a7
          refine Qn ⟨cX,_,G,(Ab 1 G (Q (lB sca32 G (((((C.kn a).lo k).lo I).kn aa).lo a7) G) (Qn ⟨cX,_,G,(Ag oC G (fc _ _ (⟨bG,bf,gX,gT,dU,(At.r G),cX,(hZ.down),(eu.lo a7),(((((C.kn a).lo k).lo I).kn aa).lo a7),(((((q.kd a i).lo k).lo I).kd aa i).lo a7),(fun b_ h h'=>(nE (g:=dU) ((((m.kd a d).lo k).lo I).kd aa d)) (h'.trans h.symm)),(fun b_ h h'=>(nE (g:=dU) ((((q.kd a i).lo k).lo I).kd aa i)) (h'.trans h.symm)),fr,dy,fo⟩)))⟩)))⟩
      rintro nv pI ⟨T,F,P,ao,aG,aA,cg,fW,bU,jn,jo,eW,l1,iQ,iR,iS,cf,cd,ce⟩
      rw [← sA fW]
      have nf:=bU.size
      have jp:=(bC.kn a).kp bU (fun e'=>e'.elim (fun e'=>by have e'':g1=gc:=e'; omega) (fun e'=>e'.elim (fun e'=>cm e') (fun e'=>by have e'':g1=c:=e'; omega)))
      have jq:=(m.kd a d).kp bU (fun b_ hb e'=>e'.elim (fun e'=>d (by have e'':b_=gc:=e'; rw [← e'']; exact hb)) (fun e'=>e'.elim (fun e'=>am b_ hb e') (fun e'=>bO (by have e'':b_=c:=e'; rw [← e'']; exact hb))))
      refine Wr (Q (fA fa34_2 G)<|Q (lB sca3 G eW G)<|Q (r_add G G oB)<|Q (fA fa34_2 G)<|Qw (o:=2) (vs:=[i6 (o.Bought+1)]) sca3.2 G G G G eW ler G ?_)
      intro pJ bB mn iu
      refine Qn (Ws (Wr (Q (lG agg34 G iu G)<|Qw (o:=0) (vs:=[.slice f B H,.slice aA (K+1) cg,i6 (o.Bought+1),i6 o.Dropped,i6 o.Mended]) agg34.2 G G G G (jp.kn bB) ler G ?_)))
      intro pK b8 mp iv
      refine Qn (We (retC G G agg34 iv G ?_))
      refine ⟨f,B,H,aA,K+1,cg,(⟨o.Maps,o.Away++([(⟨F,5⟩:Away)]:List Away),o.Bought+1,o.Dropped,o.Mended⟩:Library),P,ao,eR (eA G),(oq (((jq.kd bB bO).kd b8 cl).down) ?_),(oq (((jn.kd bB iR).kd b8 iQ).down) ?_),(fun b_ h h'=>iS b_ h' h),((jo.kn bB).kn b8),⟨oB,oB⟩,oE,gN,(by first | assumption | exact AwayB.of ‹LibOK _› | exact AwayB.app (AwayB.of ‹LibOK _›) oF | exact AwayB.nil),(((cE.step bU (fun i_ hi_ e'=>e'.elim (fun e'=>e') (fun e'=>e'.elim (fun e'=>by have:=(q.kd a i).base_le e'; omega) (fun e'=>by have e'':i_=c:=e'; omega)))).new bB).new b8)⟩ <;> (first | rfl | omega | grind)
     ·refine Wk (Ws (Wr (Q (lG agg34 G (C.kn a) G)<|Qw (o:=0) (vs:=(cLb f B H p K R o)) agg34.2 G G G G (bC.kn a) ler G ?_)))
      intro pL b9 mq iw
      refine Qn (We (retC G G agg34 iw G (⟨f,B,H,p,K,R,o,v,ap,eR G,(((m.kd a d).kd b9 cl).down),(((q.kd a i).kd b9 cm).down),am,(X.kn b9),⟨oB,oB⟩,oE,gN,gO,(cE.new b9)⟩)))
theorem c_spec_SyncLog (w:World) (l:Log) (z:(l.Durable.length:Int)+(l.Pending.length:Int)≤4000000):Calls Tryz.prog 191 #[.agg (List.toArray (encLog l))] w fun e w'=>e=.returned (.tuple (List.toArray [.agg (List.toArray [str (((syncN l).1).Durable),str (((syncN l).1).Pending),i6 (((syncN l).1).Count)]),.bool ((syncN l).2)]))∧Lo w w':=by
 refine cW 16 Tryz.func191 G G G (Ws (Wr (bx G ?_)))
 intro E H y n A j
 refine Qa (l:=[str ([]:List UInt8),str ([]:List UInt8),i6 0]) tz35 G ?_
 intro F p q b s f
 refine Q (aB G)<|Qn (Ws (Ws (Wr (Q (lG agg35 G (j.lo b) G)<|Qv ent63 (c_spec_l33Log p l oB) G fun B a x=>?_))))
 have d:=(((lr w).lo n).lo b).lo a
 refine Q (rN G)<|Qn (Wz G (fun g=>?_) (fun g=>?_))
 ·refine Ws (Wr (Q (r_build (vs:=[]) G bld35_)<|Qw (o:=0) (vs:=[str ([]:List UInt8),str ([]:List UInt8),i6 0]) agg35.2 G G G G (f.lo a) ler G ?_))
  intro C k t h
  refine Q (aB G)<|Qn (We (retCT G G agg35 h G (v:=.bool _) G ?_))
  refine ⟨eR (eT2 (eA (eC (eS ?_) (eC (eS ?_) (eC (eI ?_) G)))) (eB ?_)),(d.new k)⟩ <;> (first | (rw [sync_yes ‹LogOK _›]; first | done | rfl | (dsimp only; omega)) | (rw [sync_no ‹¬LogOK _›]; first | done | rfl | (dsimp only; omega)))
 ·have r:=log_rng g
  refine Wk (Ws ?_)
  have c:=(j.lo b).lo a
  refine Wr (Q (fA fa35_0 G)<|Q (lB sca9 G c G)<|Q (fA fa35_1 G)<|Q (lB sca9 G c G)<|Q (r_cat G G oA)<|Q (fA fa35_2 G)<|Q (lB sca3 G c G)<|Q (r_build (vs:=[(0,str (l.Durable++l.Pending)),(2,i6 l.Count)]) G (bld35_0_2 _ _))<|Qw (o:=0) (vs:=[str (l.Durable++l.Pending),str ([]:List UInt8),i6 l.Count]) agg35.2 G G G G (f.lo a) ler G ?_)
  intro D m u i
  refine Q (aB G)<|Qn (We (retCT G G agg35 i G (v:=.bool _) G ?_))
  refine ⟨eR (eT2 (eA (eC (eS ?_) (eC (eS ?_) (eC (eI ?_) G)))) (eB ?_)),(d.new m)⟩ <;> (first | (rw [sync_yes ‹LogOK _›]; first | done | rfl | (dsimp only; omega)) | (rw [sync_no ‹¬LogOK _›]; first | done | rfl | (dsimp only; omega)))
end Go.Proofs.YtndcchndcghmoaaGreatDoor
namespace Go.Proofs.YtndcchndcghmoaaGreatDoor
open Go Go.RowKit Fw
set_option maxRecDepth 10000
set_option maxHeartbeats 2000000
set_option linter.unusedVariables false
variable {Ac : Option Addr} {nc cc Bc : Nat}
theorem ent110:Ent Tryz.prog 110:=en Tryz.func110
theorem ent164:Ent Tryz.prog 164:=en Tryz.func164
theorem ent191:Ent Tryz.prog 191:=en Tryz.func191
theorem ent62:Ent Tryz.prog 62:=en Tryz.func62
theorem ent71:Ent Tryz.prog 71:=en Tryz.func71
theorem tel49:TEl Tryz.prog 49 5 (.int .u8 0) 1 1:=⟨by kernel_rfl,by kernel_rfl,rfl,by decide⟩
theorem c___spec_l1Cur__logRecord (w:World) {gc ec:Nat} (Lc:List UInt8) (tc sc:Int) (hc:Blk w gc ec [.slice Ac nc cc,i6 tc,.int .u64 sc]) (hLc:SlR w Bc encB 1 Ac nc cc Lc) (hgc:Bc≤gc) (htc:0≤tc∧tc+8≤4611686018427387904):Calls Tryz.prog 62 #[.pointer (some ⟨gc,0,none⟩)] w fun e w'=>∃ (r:LogRecord) (tc' sc':Int),e=.returned (.agg (List.toArray [str r.Command,str r.Reply]))∧Blk w' gc ec [.slice Ac nc cc,i6 tc',.int .u64 sc']∧(tc≤tc'∧tc'≤tc+8)∧(r.Command.length≤40∧r.Reply.length≤40)∧Kp (fun b_=>b_=gc) w w':=by
 refine cW 28 Tryz.func62 G G G ?_
 have hBlc:=hc.lt
 have hbdc:=hLc.bound
 have hlec:=hLc.len
 have hBbc:=hLc.bd
 refine Ws (Wr (Qa (l:=[str ([]:List UInt8),str ([]:List UInt8)]) tz71 G ?_))
 intro g1 w2 bC F bD aq
 refine Qn (Ws (Wr (Q (mP G)<|Ql (vs:=[str ([99,111,117,110,116]:List UInt8),str ([115,111,114,116,32,109,101,114,103,101]:List UInt8),str ([120]:List UInt8),str ([115,101,108,101,99,116,32,50]:List UInt8),str ([48,32,49]:List UInt8)]) (L:=([([99,111,117,110,116]:List UInt8),([115,111,114,116,32,109,101,114,103,101]:List UInt8),([120]:List UInt8),([115,101,108,101,99,116,32,50]:List UInt8),([48,32,49]:List UInt8)]:List (List UInt8))) (enc:=encS) tel44 (fun _=>G) G G G oG ?_)))
 intro g9 aR aW c K
 have bh:=c.size
 refine Qc ent110 (c___spec_l1Cur__of aR Lc tc sc ((hc.lo F).lo c) ((hLc.lo F).lo c) oB oB ([([99,111,117,110,116]:List UInt8),([115,111,114,116,32,109,101,114,103,101]:List UInt8),([120]:List UInt8),([115,101,108,101,99,116,32,50]:List UInt8),([48,32,49]:List UInt8)]:List (List UInt8)) (K.rd) oB oB (show ¬g9=gc from by first | omega | (have:=K.base_le G; omega))) G ?_
 rintro e bF ⟨p,aN,aJ,rfl,ae,be,ai,i⟩
 refine ⟨_,G,?_⟩
 have bi:=i.size
 have a7:p.length≤40:=mem_le (n:=40) oG ai
 refine Q (mP G)<|Ql (vs:=[str ([]:List UInt8),str ([51]:List UInt8),str ([63]:List UInt8),str ([97,64,98]:List UInt8),str ([51,32,49,32,50]:List UInt8)]) (L:=([([]:List UInt8),([51]:List UInt8),([63]:List UInt8),([97,64,98]:List UInt8),([51,32,49,32,50]:List UInt8)]:List (List UInt8))) (enc:=encS) tel44 (fun _=>G) G G G oG ?_
 intro an aT aX d M
 have bj:=d.size
 refine Qc ent110 (c___spec_l1Cur__of aT Lc aN aJ (ae.lo d) ((((hLc.lo F).lo c).kn i).lo d) oB oB ([([]:List UInt8),([51]:List UInt8),([63]:List UInt8),([97,64,98]:List UInt8),([51,32,49,32,50]:List UInt8)]:List (List UInt8)) (M.rd) oB oB (show ¬an=gc from by first | omega | (have:=M.base_le G; omega))) G ?_
 rintro e bG ⟨q,aO,aK,rfl,ag,bf,aj,s⟩
 refine ⟨_,G,?_⟩
 have bl:=s.size
 have a8:q.length≤40:=mem_le (n:=40) oG aj
 refine Q (r_build (vs:=[(0,str p),(1,str q)]) G (bld71_0_1 _ _))<|Qa (l:=[str ([]:List UInt8),str ([]:List UInt8)]) tz71 G ?_
 intro bz bH aY t bb ah
 refine Qw (o:=0) (vs:=[str p,str q]) agg71.2 G G G G ah ler G ?_
 intro aU u bc A
 refine Qn (Ws (Ws ?_))
 have H:=((((((hLc.lo F).lo c).kn i).lo d).kn s).lo t).kn u
 have I:=(((((aq.lo c).kn i).lo d).kn s).lo t).kn u
 refine Wr (Q (mP G)<|Qc ent59 (c___spec_l1Cur__pick aU Lc aO aK ((ag.lo t).kn u) H oB oB 24 oD) G ?_)
 rintro e bI ⟨bE,Z,Y,rfl,B,bg,ba,a⟩
 refine ⟨_,G,?_⟩
 have bm:=a.size
 have y:=((((((((kr F:Kp (fun b_=>b_=gc) w _)).lo c).step i (fun i_ hi_ e'=>e')).lo d).step s (fun i_ hi_ e'=>e')).lo t).new u).step a (fun i_ hi_ e'=>e')
 refine Qn (Wl (Ws (Wr (Q (r_eq G G)<|Q (aB G)<|Qn (Wd G (fun ap=>?_) (fun ap=>?_))))))
 ·refine Wr (Q (mP G)<|SR.make (m:=3) (zx:=(0:UInt8)) (enc:=encB) tel49 G (fun _=>G) G G oB oB ?_)
  intro bA bJ aZ f ac
  have bn:=f.size
  refine Q (r_ofB und49 und5 und9 G (ac.rd))<|Ql (vs:=[str ([]:List UInt8),str ([97,64,98]:List UInt8),str ([97,35]:List UInt8),str ([10]:List UInt8),str (List.replicate 3 (0:UInt8))]) (L:=([([]:List UInt8),([97,64,98]:List UInt8),([97,35]:List UInt8),([10]:List UInt8),List.replicate 3 (0:UInt8)]:List (List UInt8))) (enc:=encS) tel44 (fun _=>G) G G G oG ?_
  intro ao aV a6 g N
  have bo:=g.size
  refine Qc ent110 (c___spec_l1Cur__of aV Lc Z Y ((B.lo f).lo g) (((H.kn a).lo f).lo g) oB oB ([([]:List UInt8),([97,64,98]:List UInt8),([97,35]:List UInt8),([10]:List UInt8),List.replicate 3 (0:UInt8)]:List (List UInt8)) (N.rd) oB oB (show ¬ao=gc from by first | omega | (have:=N.base_le G; omega))) G ?_
  rintro e bK ⟨J,aQ,aM,rfl,O,aD,W,v⟩
  refine ⟨_,G,?_⟩
  have aF:=v.size
  have au:J.length≤40:=mem_le (n:=40) oG W
  refine Q (fA fa71_0 G)<|Qw (o:=0) (vs:=[str J]) sca9.2 G G G G ((((A.kn a).lo f).lo g).kn v) ler G ?_
  intro bp j ax P
  refine Qn (Ws (Wr (Q (lG agg71 G P G)<|Qw (o:=0) (vs:=[str J,str q]) agg71.2 G G G G (((((I.kn a).lo f).lo g).kn v).kn j) ler G ?_)))
  intro bq C ay R
  refine Qn (We (retC G G agg71 R G (⟨(⟨J,q⟩:LogRecord),aQ,aM,eR (eA G),((O.kn j).kn C),⟨oB,oB⟩,oF,(((((y.lo f).lo g).step v (fun i_ hi_ e'=>e')).new j).new C)⟩)))
 ·refine Ws (Wr (Q (r_eq G G)<|Q (aB G)<|Qn (Wd G (fun ab=>?_) (fun ab=>?_))))
  ·refine Wr (Q (mP G)<|Ql (vs:=[str ([35]:List UInt8),str ([10]:List UInt8),str ([127]:List UInt8)]) (L:=([([35]:List UInt8),([10]:List UInt8),([127]:List UInt8)]:List (List UInt8))) (enc:=encS) tel44 (fun _=>G) G G G oG ?_)
   intro aa am ar b z
   have aG:=b.size
   refine Qc ent110 (c___spec_l1Cur__of am Lc Z Y (B.lo b) ((H.kn a).lo b) oB oB ([([35]:List UInt8),([10]:List UInt8),([127]:List UInt8)]:List (List UInt8)) (z.rd) oB oB (show ¬aa=gc from by first | omega | (have:=z.base_le G; omega))) G ?_
   rintro e bs ⟨x,al,ak,rfl,S,aE,X,h⟩
   refine ⟨_,G,?_⟩
   have aH:=h.size
   have aw:x.length≤40:=mem_le (n:=40) oG X
   refine Q (fA fa71_1 G)<|Qw (o:=1) (vs:=[str x]) sca9.2 G G G G (((A.kn a).lo b).kn h) ler G ?_
   intro bt k az T
   refine Qn (Ws (Wr (Q (lG agg71 G T G)<|Qw (o:=0) (vs:=[str p,str x]) agg71.2 G G G G ((((I.kn a).lo b).kn h).kn k) ler G ?_)))
   intro bu D aA U
   refine Qn (We (retC G G agg71 U G (⟨(⟨p,x⟩:LogRecord),al,ak,eR (eA G),((S.kn k).kn D),⟨oB,oB⟩,oF,((((y.lo b).step h (fun i_ hi_ e'=>e')).new k).new D)⟩)))
  ·refine Wk (Ws (Wr (Q (lG agg71 G (A.kn a) G)<|Qw (o:=0) (vs:=[str p,str q]) agg71.2 G G G G (I.kn a) ler G ?_)))
   intro bw E aC V
   refine Qn (We (retC G G agg71 V G (⟨(⟨p,q⟩:LogRecord),Z,Y,eR (eA G),(B.kn E),⟨oB,oB⟩,oF,(y.new E)⟩)))
theorem c___spec_l1Cur__log (w:World) {gc ec:Nat} (Lc:List UInt8) (tc sc:Int) (hc:Blk w gc ec [.slice Ac nc cc,i6 tc,.int .u64 sc]) (hLc:SlR w Bc encB 1 Ac nc cc Lc) (hgc:Bc≤gc) (htc:0≤tc∧tc+64≤4611686018427387904):Calls Tryz.prog 164 #[.pointer (some ⟨gc,0,none⟩)] w fun e w'=>∃ (l:Log) (tc' sc':Int),e=.returned (.agg (List.toArray [str l.Durable,str l.Pending,i6 l.Count]))∧Blk w' gc ec [.slice Ac nc cc,i6 tc',.int .u64 sc']∧(tc≤tc'∧tc'≤tc+64)∧(LogOK l)∧Kp (fun b_=>b_=gc) w w':=by
 refine cW 27 Tryz.func164 G G G ?_
 have hBlc:=hc.lt
 have hbdc:=hLc.bound
 have hlec:=hLc.len
 have hBbc:=hLc.bd
 refine Ws (Wr (Qa (l:=[str ([]:List UInt8),str ([]:List UInt8),i6 0]) tz35 G ?_))
 intro U w2 bM aj bN aV
 refine Qn (Ws (Wr (Q (r_build (vs:=[]) G bld35_)<|Qa (l:=[str ([]:List UInt8),str ([]:List UInt8),i6 0]) tz35 G ?_)))
 intro p bO bp D bA aC
 refine Qw (o:=0) (vs:=[str ([]:List UInt8),str ([]:List UInt8),i6 0]) agg35.2 G G G G aC ler G ?_
 intro bm E bB aD
 refine Qn (Ws (Ws ?_))
 have Y:=((hLc.lo aj).lo D).kn E
 refine Wr (Q (mP G)<|Qc ent59 (c___spec_l1Cur__pick bm Lc tc sc (((hc.lo aj).lo D).kn E) Y oB oB 7 oD) G ?_)
 rintro e bP ⟨bl,bj,bi,rfl,aE,bC,bu,u⟩
 refine ⟨_,G,?_⟩
 have bD:=u.size
 refine Q (aI G)<|Qn (Wl (WL (σ:=Int × Log × Int × Int) (fun g=>[(0,pt gc),(2,pt U),(3,pt p),(4,i6 g.1)]) (fun g w'=>(Kp (fun b_=>b_=gc) w w')∧(Blk w' gc ec [.slice Ac nc cc,i6 g.2.2.1,.int .u64 g.2.2.2])∧(SlR w' Bc encB 1 Ac nc cc Lc)∧(Blk w' U 35 [str ([]:List UInt8),str ([]:List UInt8),i6 0])∧(Blk w' p 35 [str g.2.1.Durable,str g.2.1.Pending,i6 g.2.1.Count])∧((0≤g.1∧g.1≤6)∧LogOK g.2.1∧tc≤g.2.2.1∧g.2.2.1≤tc+2+10*(6-g.1))) (fun g=>g.1.toNat) (bl,(⟨([]:List UInt8),([]:List UInt8),0⟩:Log),bj,bi) ?_ ?_ ?_))
 ·exact (At.r G)
 ·exact ⟨(((((kr aj:Kp (fun b_=>b_=gc) w _)).lo D).new E).step u (fun i_ hi_ e'=>e')),aE,Y.kn u,((aV.lo D).kn E).kn u,(aD.kn u),(by (try dsimp only); exact ⟨oB,nil_log,oB,oB⟩)⟩
 ·rintro ⟨n,l,t,z⟩ aT k aA
  obtain ⟨J,F,v,H,m,C⟩:(Kp (fun b_=>b_=gc) w k)∧(Blk k gc ec [.slice Ac nc cc,i6 t,.int .u64 z])∧(SlR k Bc encB 1 Ac nc cc Lc)∧(Blk k U 35 [str ([]:List UInt8),str ([]:List UInt8),i6 0])∧(Blk k p 35 [str l.Durable,str l.Pending,i6 l.Count])∧((0≤n∧n≤6)∧LogOK l∧tc≤t∧t≤tc+2+10*(6-n)):=aA
  refine (?_:W _ _ _ _ _ (act _ (sets aT [(0,pt gc),(2,pt U),(3,pt p),(4,i6 n)])) _)
  have bh:=J.size
  have bq:=F.lt
  have bs:=H.lt
  have bt:=m.lt
  have aF:LogOK l:=C.2.1
  have bw:l.Durable.length+l.Pending.length≤24360∧0≤l.Count∧l.Count≤60:=log_rng C.2.1
  have bz:(0≤n∧n≤6)∧tc≤t∧t≤tc+2+10*(6-n):=And.intro C.1 C.2.2
  refine Ws (Ws (Wr (Q (mI G)<|Q (r_gt G G)<|Qn (Wd G (fun aU=>?_) (fun aU=>?_)))))
  ·refine Wk (Ws (Wl (Ws (WA (Kp (fun b_=>b_=gc∨b_=p) k) (fun f' w'=>∃ (a:LogRecord) (d:Int) (j:Int),At f' [(0,pt gc),(2,pt U),(3,pt p),(4,i6 n)]∧(Kp (fun b_=>b_=gc∨b_=p) k w')∧(Blk w' gc ec [.slice Ac nc cc,i6 d,.int .u64 j])∧(Blk w' p 35 [str (((appN l a).1).Durable),str (((appN l a).1).Pending),i6 (((appN l a).1).Count)])∧(t≤d∧d≤t+8)∧(a.Command.length≤40∧a.Reply.length≤40)∧((appN l a).1.Durable.length+(appN l a).1.Pending.length≤l.Durable.length+l.Pending.length+406)) mo ?_ ?_))))
   ·intro ab b
    have a7:=b.size
    refine Av #[true,true,true,false,false,false,false,false] 5 (fun f' w'=>∃ (a:LogRecord) (d:Int) (j:Int),At f' [(0,pt gc),(2,pt U),(3,pt p),(4,i6 n),(13,.agg (List.toArray [str l.Durable,str l.Pending,i6 l.Count])),(15,.agg (List.toArray [str a.Command,str a.Reply]))]∧(Kp (fun b_=>b_=gc∨b_=p) k w')∧(Blk w' gc ec [.slice Ac nc cc,i6 d,.int .u64 j])∧(Blk w' p 35 [str l.Durable,str l.Pending,i6 l.Count])∧(t≤d∧d≤t+8)∧(a.Command.length≤40∧a.Reply.length≤40)) ?_ (fun R=>?_)
    ·rintro bn aO ⟨a,d,j,V,K,ak,al,T,S⟩
     rw [← sA V]
     have a8:=K.size
     refine Ab 3 G (Qv ent45 (c_spec_AppendRecord aO l a oB oQ) G fun bF y ba=>?_)
     have h:=K.lo y
     have ar:(appN l a).1.Durable.length+(appN l a).1.Pending.length≤l.Durable.length+l.Pending.length+406:=appN_len l a
     refine Qn ⟨h,_,G,(Ak 4 G h (fun w' hw'=>mT G)<|Ak 5 G h (fun w' hw'=>xG G G)<|Ak 6 G h (fun w' hw'=>xI G G)<|Ab 7 G (Qw (o:=0) (vs:=[str (((appN l a).1).Durable),str (((appN l a).1).Pending),i6 (((appN l a).1).Count)]) agg35.2 G G G G (al.lo y) ler G ?_))⟩
     intro bG O aX ac
     have L:=h.step O (fun _ _ e=>.inr e)
     refine Qn ⟨L,_,G,(Ad oC (⟨a,d,j,(At.r G),L,((ak.lo y).kn O),ac,T,S,ar⟩))⟩
    refine Ak 1 G (kr b) (fun w' hw'=>mP G)<|Ar [0,2] oC G ⟨Bm G trivial ?_,Bm G trivial ?_,trivial⟩
    ·refine Q (lG agg35 G (m.lo b) G) (Qn ⟨(kq k).lo b,_,G,(Ab 2 G (Qc ent62 (c___spec_l1Cur__logRecord ab Lc t z (F.lo b) (v.lo b) oB oB) G ?_))⟩)
     rintro e bH ⟨aM,aJ,aG,rfl,ae,ax,au,A⟩
     refine ⟨_,G,?_⟩
     have bb:=A.size
     have M:=((kr b:Kp (fun b_=>b_=gc∨b_=p) k _)).step A (fun _ _ e=>.inl e)
     refine Qn ⟨M,_,G,(Ag oC G (R _ _ (⟨aM,aJ,aG,(At.r G),M,ae,((m.lo b).kn A),ax,au⟩)))⟩
    ·refine Qc ent62 (c___spec_l1Cur__logRecord ab Lc t z (F.lo b) (v.lo b) oB oB) G ?_
     rintro e bI ⟨aN,aK,aH,rfl,ag,ay,aw,q⟩
     refine ⟨_,G,?_⟩
     have bc:=q.size
     have x:=((kr b:Kp (fun b_=>b_=gc∨b_=p) k _)).step q (fun _ _ e=>.inl e)
     refine Qn ⟨x,_,G,(Ab 0 G (Q (lG agg35 G ((m.lo b).kn q) G) (Qn ⟨x,_,G,(Ag oC G (R _ _ (⟨aN,aK,aH,(At.r G),x,ag,((m.lo b).kn q),ay,aw⟩)))⟩)))⟩
   rintro bo aQ ⟨a,d,j,X,f,am,B,T,S,aW⟩
   rw [← sA X]
   have be:=f.size
   refine Ws (Wr (Q (mP G)<|Qc ent61 (c___spec_l1Cur__one aQ Lc d j am (v.kp f (fun b_ hb e'=>e'.elim (fun e'=>by have e'':b_=gc:=e'; omega) (fun e'=>by have e'':b_=p:=e'; omega))) oB oB 4 oD) G ?_))
   rintro e aR ⟨bE,aa,Z,rfl,N,a6,c⟩
   refine ⟨_,G,?_⟩
   have bf:=c.size
   have I:=(J.step f (fun i_ hi_ e'=>e'.elim (fun e'=>e') (fun e'=>by have e'':i_=p:=e'; omega))).step c (fun i_ hi_ e'=>e')
   refine Qn (Wb G (fun az=>?_) (fun az=>?_))
   ·have an:=(v.kp f (fun b_ hb e'=>e'.elim (fun e'=>by have e'':b_=gc:=e'; omega) (fun e'=>by have e'':b_=p:=e'; omega))).kn c
    have ao:=(H.kp f (fun e'=>e'.elim (fun e'=>by have e'':U=gc:=e'; omega) (fun e'=>by have e'':U=p:=e'; omega))).kn c
    refine Wr (Q (lG agg35 G (B.kn c) G)<|Qv ent191 (c_spec_SyncLog aR ((appN l a).1) oB) G fun bJ i bg=>(Q (mT G)<|Q (xG G G)<|Q (xB G G)<|Qw (o:=0) (vs:=[str (((syncN ((appN l a).1)).1).Durable),str (((syncN ((appN l a).1)).1).Pending),i6 (((syncN ((appN l a).1)).1).Count)]) agg35.2 G G G G ((B.kn c).lo i) ler G ?_))
    intro bK s aY ah
    refine Qn (Wr (Q (mI G)<|Q (r_sub G G oB)<|Q (aI G)<|Qn (⟨(n-1,((syncN ((appN l a).1)).1),aa,Z),_,G,(At.r G),⟨((I.lo i).new s),((N.lo i).kn s),((an.lo i).kn s),((ao.lo i).kn s),ah,?_⟩,?_⟩)))
    ·exact (by (try dsimp only); first | exact ⟨oB,appN_ok ‹LogOK _›,oB,oB⟩ | exact ⟨oB,syncN_ok (appN_ok ‹LogOK _›),oB,oB⟩)
    ·exact oH
   ·refine Wk ?_
    have ap:=(v.kp f (fun b_ hb e'=>e'.elim (fun e'=>by have e'':b_=gc:=e'; omega) (fun e'=>by have e'':b_=p:=e'; omega))).kn c
    have aq:=(H.kp f (fun e'=>e'.elim (fun e'=>by have e'':U=gc:=e'; omega) (fun e'=>by have e'':U=p:=e'; omega))).kn c
    refine Wr (Q (mI G)<|Q (r_sub G G oB)<|Q (aI G)<|Qn (⟨(n-1,((appN l a).1),aa,Z),_,G,(At.r G),⟨I,N,ap,aq,(B.kn c),?_⟩,?_⟩))
    ·exact (by (try dsimp only); first | exact ⟨oB,appN_ok ‹LogOK _›,oB,oB⟩ | exact ⟨oB,syncN_ok (appN_ok ‹LogOK _›),oB,oB⟩)
    ·exact oH
  ·refine Wx (xh (Ws (Wr (Q (lG agg35 G m G)<|Qw (o:=0) (vs:=[str l.Durable,str l.Pending,i6 l.Count]) agg35.2 G G G G H ler G ?_))))
   intro bL P aZ ai
   refine Qn (We (retC G G agg35 ai G (⟨l,t,z,eR G,(F.kn P),⟨oB,oB⟩,aF,(J.new P)⟩)))
theorem c___spec_l1Cur__anyLog (w:World) {gc ec:Nat} (Lc:List UInt8) (tc sc:Int) (hc:Blk w gc ec [.slice Ac nc cc,i6 tc,.int .u64 sc]) (hLc:SlR w Bc encB 1 Ac nc cc Lc) (hgc:Bc≤gc) (htc:0≤tc∧tc+72≤4611686018427387904):Calls Tryz.prog 113 #[.pointer (some ⟨gc,0,none⟩)] w fun e w'=>∃ (l:Log) (tc' sc':Int),e=.returned (.agg (List.toArray [str l.Durable,str l.Pending,i6 l.Count]))∧Blk w' gc ec [.slice Ac nc cc,i6 tc',.int .u64 sc']∧(tc≤tc'∧tc'≤tc+72)∧(l.Durable.length≤60000∧l.Pending.length≤60000∧-1≤l.Count∧l.Count≤100)∧Kp (fun b_=>b_=gc) w w':=by
 refine cW 30 Tryz.func113 G G G ?_
 have hBlc:=hc.lt
 have hbdc:=hLc.bound
 have hlec:=hLc.len
 have hBbc:=hLc.bd
 refine Ws (Wr (Qa (l:=[str ([]:List UInt8),str ([]:List UInt8),i6 0]) tz35 G ?_))
 intro g1 w2 aw r ax P
 refine Qn (Ws (Wr (Q (mP G)<|Qc ent164 (c___spec_l1Cur__log w2 Lc tc sc (hc.lo r) (hLc.lo r) oB oB) G ?_)))
 rintro e w9 ⟨a,U,S,rfl,B,am,L,g⟩
 refine ⟨_,G,?_⟩
 have ap:=g.size
 have Z:=log_rng L
 refine Qa (l:=[str ([]:List UInt8),str ([]:List UInt8),i6 0]) tz35 G ?_
 intro au aA Y h ac C
 refine Qw (o:=0) (vs:=[str a.Durable,str a.Pending,i6 a.Count]) agg35.2 G G G G C ler G ?_
 intro W i ae c
 refine Qn (Ws (Ws ?_))
 have y:=(((hLc.lo r).kn g).lo h).kn i
 have k:=((P.kn g).lo h).kn i
 refine Wr (Q (mP G)<|Qc ent59 (c___spec_l1Cur__pick W Lc U S ((B.lo h).kn i) y oB oB 24 oD) G ?_)
 rintro e X ⟨ay,t,s,rfl,f,an,aa,b⟩
 refine ⟨_,G,?_⟩
 have aq:=b.size
 have d:=(((((kr r:Kp (fun b_=>b_=gc) w _)).step g (fun i_ hi_ e'=>e')).lo h).new i).step b (fun i_ hi_ e'=>e')
 refine Qn (Wl (Ws (Wr (Q (r_eq G G)<|Q (aB G)<|Qn (Wd G (fun M=>?_) (fun M=>?_))))))
 ·refine Wr (Q (fA fa35_2 G)<|Q (lB sca3 G (c.kn b) G)<|Q (r_add G G oB)<|Q (fA fa35_2 G)<|Qw (o:=2) (vs:=[i6 (a.Count+1)]) sca3.2 G G G G (c.kn b) ler G ?_)
  intro aC n ag D
  refine Qn (Ws (Wr (Q (lG agg35 G D G)<|Qw (o:=0) (vs:=[str a.Durable,str a.Pending,i6 (a.Count+1)]) agg35.2 G G G G ((k.kn b).kn n) ler G ?_)))
  intro aD u ah E
  refine Qn (We (retC G G agg35 E G (⟨(⟨a.Durable,a.Pending,a.Count+1⟩:Log),t,s,eR (eA G),((f.kn n).kn u),⟨oB,oB⟩,oL,((d.new n).new u)⟩)))
 ·refine Ws (Wr (Q (r_eq G G)<|Q (aB G)<|Qn (Wd G (fun N=>?_) (fun N=>?_))))
  ·refine Wr (Q (mP G)<|Q (fA fa35_1 G)<|Q (lB sca9 G (c.kn b) G)<|Qc ent71 (c___spec_l1Cur__spoilt X Lc t s f (y.kn b) oB oB a.Pending ([35,64,10,48,49]:List UInt8) oD (by first | omega | decide | (simp; done))) G ?_)
   rintro e aE ⟨A,V,T,rfl,F,ao,ab,j⟩
   refine ⟨_,G,?_⟩
   have ar:=j.size
   refine Q (fA fa35_1 G)<|Qw (o:=1) (vs:=[str A]) sca9.2 G G G G ((c.kn b).kn j) ler G ?_
   intro aF p ai H
   refine Qn (Ws (Wr (Q (lG agg35 G H G)<|Qw (o:=0) (vs:=[str a.Durable,str A,i6 a.Count]) agg35.2 G G G G (((k.kn b).kn j).kn p) ler G ?_)))
   intro aG v aj I
   refine Qn (We (retC G G agg35 I G (⟨(⟨a.Durable,A,a.Count⟩:Log),V,T,eR (eA G),((F.kn p).kn v),⟨oB,oB⟩,oL,(((d.step j (fun i_ hi_ e'=>e')).new p).new v)⟩)))
  ·refine Ws (Wr (Q (r_eq G G)<|Q (aB G)<|Qn (Wd G (fun O=>?_) (fun O=>?_))))
   ·refine Wr (Q (fA fa35_0 G)<|Q (lB sca9 G (c.kn b) G)<|Q (fA fa35_1 G)<|Q (lB sca9 G (c.kn b) G)<|Q (r_cat G G oA)<|Q (fA fa35_0 G)<|Qw (o:=0) (vs:=[str (a.Durable++a.Pending)]) sca9.2 G G G G (c.kn b) ler G ?_)
    intro aH q ak J
    refine Qn (Ws (Wr (Q (lG agg35 G J G)<|Qw (o:=0) (vs:=[str (a.Durable++a.Pending),str a.Pending,i6 a.Count]) agg35.2 G G G G ((k.kn b).kn q) ler G ?_)))
    intro aJ x al K
    refine Qn (We (retC G G agg35 K G (⟨(⟨a.Durable++a.Pending,a.Pending,a.Count⟩:Log),t,s,eR (eA G),((f.kn q).kn x),⟨oB,oB⟩,oL,((d.new q).new x)⟩)))
   ·refine Wk (Ws (Wr (Q (lG agg35 G (c.kn b) G)<|Qw (o:=0) (vs:=[str a.Durable,str a.Pending,i6 a.Count]) agg35.2 G G G G (k.kn b) ler G ?_)))
    intro aK m R z
    refine Qn (We (retC G G agg35 z G (⟨a,t,s,eR G,(f.kn m),⟨oB,oB⟩,oL,(d.new m)⟩)))
end Go.Proofs.YtndcchndcghmoaaGreatDoor
namespace Go.Proofs.YtndcchndcghmoaaGreatDoor
open Go Go.RowKit Fw
set_option maxRecDepth 10000
set_option maxHeartbeats 2000000
set_option linter.unusedVariables false
variable {Ac As1 As2 : Option Addr} {nc cc Bc ns1 cs1 Bs1 ns2 cs2 Bs2 : Nat}
theorem c___spec_l1Cur__command (w:World) {gc ec:Nat} (Lc:List UInt8) (tc sc:Int) (hc:Blk w gc ec [.slice Ac nc cc,i6 tc,.int .u64 sc]) (hLc:SlR w Bc encB 1 Ac nc cc Lc) (hgc:Bc≤gc) (htc:0≤tc∧tc+24≤4611686018427387904) (s:Console) (z:SlR w Bs1 encLMap 3 As1 ns1 cs1 s.Library.Maps) (A:SlR w Bs2 encAway 2 As2 ns2 cs2 s.Library.Away) (bC:ns1≤9∧ns2≤9) (bD:MapB s.Library.Maps) (bE:AwayB s.Library.Away) (aR:0<ns1→¬(adr As1).block=gc) (aT:0<ns2→¬(adr As2).block=gc):Calls Tryz.prog 60 #[.pointer (some ⟨gc,0,none⟩),.agg (List.toArray (cCn As1 ns1 cs1 As2 ns2 cs2 s))] w fun e w'=>∃ (v:List UInt8) (tc' sc':Int),e=.returned (str v)∧Blk w' gc ec [.slice Ac nc cc,i6 tc',.int .u64 sc']∧(tc≤tc'∧tc'≤tc+24)∧(v.length≤100)∧Kp (fun b_=>b_=gc) w w':=by
 refine cW 98 Tryz.func60 G G G ?_
 have hBlc:=hc.lt
 have hbdc:=hLc.bound
 have hlec:=hLc.len
 have hBbc:=hLc.bd
 have aK:=z.bound
 have aO:=z.len
 have aG:=z.bd
 have aM:=A.bound
 have aQ:=A.len
 have aH:=A.bd
 refine Ws (Wr (bx G ?_))
 intro g1 w2 bB q bF aJ
 refine Q (r_as (v:=str ([]:List UInt8)) G)<|Qn (Ws (Wr (Q (mP G)<|Q (fA fa37_0 G)<|Q (r_lda (l:=(cLb As1 ns1 cs1 As2 ns2 cs2 s.Library)) agg34 G (fun _ _ hu=>aJ.cells (vs:=(cLb As1 ns1 cs1 As2 ns2 cs2 s.Library)) G hu) G)<|Qc ent108 (c___spec_l1Cur__libraryStep w2 Lc tc sc (hc.lo q) (hLc.lo q) oB oB s.Library (z.lo q) (A.lo q) oB (by first | assumption | exact MapB.of (And.left (And.left ‹LibOK _›)) | exact MapB.app (MapB.of (And.left (And.left ‹LibOK _›))) oF | exact MapB.nil) (by first | assumption | exact AwayB.of ‹LibOK _› | exact AwayB.app (AwayB.of ‹LibOK _›) oF | exact AwayB.nil) (fun Z=>(aR Z)) (fun Z=>(aT Z))) G ?_)))
 rintro e w9 ⟨a,a7,aZ,rfl,O,bn,bf,t⟩
 refine ⟨_,G,?_⟩
 have bq:=t.size
 refine Qa (l:=[i6 0,i6 0,i6 0,i6 0]) tz106 G ?_
 intro bA bI bc x bl P
 refine Qw (o:=0) (vs:=[i6 a.Kind,i6 a.Id,i6 a.Reader,i6 a.Value]) agg106.2 G G G G P ler G ?_
 intro bJ y bm j
 refine Qn (Ws ?_)
 have D:=(((hLc.lo q).kn t).lo x).kn y
 refine W.regD mo oC (Rq (fun w' hw'=>fA fa106_1 G)<|Rq (fun w' hw'=>lB sca3 G (j.lo hw') G)<|QR.call ent109 (fun w' hw'=>(c_spec_l1Most w' 0 a.Id).mono fun _ _ h=>⟨h.1,hw'.trans h.2⟩) G<|QR.call ent75 (fun w' hw'=>(c_spec_l1Num w' (max 0 a.Id) oB).mono fun _ _ h=>⟨h.1,hw'.trans h.2⟩) G<|?_)
 have bg:(Lib.itoa (max 0 a.Id)).length≤21:=itoa_len (n:=max 0 a.Id) oB oB
 refine Rq (fun w' hw'=>fA fa106_2 G)<|Rq (fun w' hw'=>lB sca3 G (j.lo hw') G)<|QR.call ent75 (fun w' hw'=>(c_spec_l1Num w' a.Reader oB).mono fun _ _ h=>⟨h.1,hw'.trans h.2⟩) G<|?_
 have bh:(Lib.itoa a.Reader).length≤21:=itoa_len (n:=a.Reader) oB oB
 refine Rq (fun w' hw'=>fA fa106_3 G)<|Rq (fun w' hw'=>lB sca3 G (j.lo hw') G)<|QR.call ent109 (fun w' hw'=>(c_spec_l1Most w' 0 a.Value).mono fun _ _ h=>⟨h.1,hw'.trans h.2⟩) G<|QR.call ent75 (fun w' hw'=>(c_spec_l1Num w' (max 0 a.Value) oB).mono fun _ _ h=>⟨h.1,hw'.trans h.2⟩) G<|?_
 have bi:(Lib.itoa (max 0 a.Value)).length≤21:=itoa_len (n:=max 0 a.Value) oB oB
 refine Rq (fun w' hw'=>aS G)<|Rq (fun w' hw'=>aS G)<|Rq (fun w' hw'=>aS G)<|QR.nil ?_
 intro ba g
 have bs:=g.size
 refine Ws (Ws (Wr (Q (mP G)<|Qc ent59 (c___spec_l1Cur__pick ba Lc a7 aZ (((O.lo x).kn y).lo g) (D.lo g) oB oB 6 oD) G ?_)))
 rintro e bK ⟨bG,f,d,rfl,c,bo,bj,k⟩
 refine ⟨_,G,?_⟩
 have bt:=k.size
 have b:=((((((kr q:Kp (fun b_=>b_=gc) w _)).step t (fun i_ hi_ e'=>e')).lo x).new y).lo g).step k (fun i_ hi_ e'=>e')
 refine Qn (Wl (Ws (Ws ?_)))
 have E:=(D.lo g).kn k
 have p:=(j.lo g).kn k
 refine Wr (Q (r_eq G G)<|Q (aB G)<|Qn (Wd G (fun K=>?_) (fun K=>?_)))
 ·refine Wk (W.cond_t (congrArg Value.bool (decide_eq_true K)) (Ws (Ws (Wr (Q (fA fa106_0 G)<|Q (lB sca3 G p G)<|Qn (Wl (Ws (Wr (Q (r_eq G G)<|Q (aB G)<|Qn (Wd G (fun aa=>?_) (fun aa=>?_)))))))))))
  ·refine Ws (Wr (Q (mS G)<|Q (r_cat G G oA)<|Q (r_cat G G oA)<|Q (mS G)<|Q (r_cat G G oA)<|Q (aS G)<|Qn (We (ret1 G (v:=str _) G (⟨(((([98,117,121,32]:List UInt8)++(Lib.itoa (max 0 a.Id)))++([32]:List UInt8))++(Lib.itoa (max 0 a.Value))),f,d,eR G,c,⟨oB,oB⟩,oE,b⟩)))))
  ·refine Ws (Wr (Q (r_eq G G)<|Q (aB G)<|Qn (Wd G (fun ab=>?_) (fun ab=>?_))))
   ·refine Ws (Wr (Q (mS G)<|Q (r_cat G G oA)<|Q (r_cat G G oA)<|Q (mS G)<|Q (r_cat G G oA)<|Q (aS G)<|Qn (We (ret1 G (v:=str _) G (⟨(((([108,101,110,100,32]:List UInt8)++(Lib.itoa (max 0 a.Id)))++([32]:List UInt8))++(Lib.itoa a.Reader)),f,d,eR G,c,⟨oB,oB⟩,oE,b⟩)))))
   ·refine Ws (Wr (Q (r_eq G G)<|Q (aB G)<|Qn (Wd G (fun ac=>?_) (fun ac=>?_))))
    ·refine Ws (Wr (Q (mS G)<|Q (r_cat G G oA)<|Q (r_cat G G oA)<|Q (mS G)<|Q (r_cat G G oA)<|Q (r_cat G G oA)<|Q (mS G)<|Q (r_cat G G oA)<|Q (aS G)<|Qn (We (ret1 G (v:=str _) G (⟨(((((([98,97,99,107,32]:List UInt8)++(Lib.itoa (max 0 a.Id)))++([32]:List UInt8))++(Lib.itoa a.Reader))++([32]:List UInt8))++(Lib.itoa (max 0 a.Value))),f,d,eR G,c,⟨oB,oB⟩,oE,b⟩)))))
    ·refine Ws (Wr (Q (r_eq G G)<|Q (aB G)<|Qn (Wd G (fun ae=>?_) (fun ae=>?_))))
     ·refine Ws (Wr (Q (mS G)<|Q (r_cat G G oA)<|Q (r_cat G G oA)<|Q (mS G)<|Q (r_cat G G oA)<|Q (r_cat G G oA)<|Q (mS G)<|Q (r_cat G G oA)<|Q (aS G)<|Qn (We (ret1 G (v:=str _) G (⟨(((((([104,97,110,100,32]:List UInt8)++(Lib.itoa (max 0 a.Id)))++([32]:List UInt8))++(Lib.itoa a.Reader))++([32]:List UInt8))++(Lib.itoa (max 0 a.Value))),f,d,eR G,c,⟨oB,oB⟩,oE,b⟩)))))
     ·refine Ws (Wr (Q (r_eq G G)<|Q (aB G)<|Qn (Wd G (fun ag=>?_) (fun ag=>?_))))
      ·refine Ws (Wr (Q (mS G)<|Q (r_cat G G oA)<|Q (r_cat G G oA)<|Q (mS G)<|Q (r_cat G G oA)<|Q (aS G)<|Qn (We (ret1 G (v:=str _) G (⟨(((([109,101,110,100,32]:List UInt8)++(Lib.itoa (max 0 a.Id)))++([32]:List UInt8))++(Lib.itoa (max 0 a.Value))),f,d,eR G,c,⟨oB,oB⟩,oE,b⟩)))))
      ·refine Ws (Wr (Q (r_eq G G)<|Q (aB G)<|Qn (Wd G (fun ah=>?_) (fun ah=>?_))))
       ·refine Ws (Wr (Q (mS G)<|Q (r_cat G G oA)<|Q (r_cat G G oA)<|Q (mS G)<|Q (r_cat G G oA)<|Q (aS G)<|Qn (We (ret1 G (v:=str _) G (⟨(((([100,114,111,112,32]:List UInt8)++(Lib.itoa (max 0 a.Id)))++([32]:List UInt8))++(Lib.itoa (max 0 a.Value))),f,d,eR G,c,⟨oB,oB⟩,oE,b⟩)))))
       ·refine Wk (Ws (Wr (Q (mS G)<|Q (r_cat G G oA)<|Q (r_cat G G oA)<|Q (mS G)<|Q (r_cat G G oA)<|Q (aS G)<|Qn (We (ret1 G (v:=str _) G (⟨(((([119,101,97,114,32]:List UInt8)++(Lib.itoa (max 0 a.Id)))++([32]:List UInt8))++(Lib.itoa (max 0 a.Value))),f,d,eR G,c,⟨oB,oB⟩,oE,b⟩))))))
 ·refine Ws (Wr (Q (r_eq G G)<|Q (aB G)<|Qn (Wd G (fun M=>?_) (fun M=>?_))))
  ·refine Wk (W.cond_t (congrArg Value.bool (decide_eq_true M)) (Ws (Ws (Wr (Q (fA fa106_0 G)<|Q (lB sca3 G p G)<|Qn (Wl (Ws (Wr (Q (r_eq G G)<|Q (aB G)<|Qn (Wd G (fun ai=>?_) (fun ai=>?_)))))))))))
   ·refine Ws (Wr (Q (mS G)<|Q (r_cat G G oA)<|Q (r_cat G G oA)<|Q (mS G)<|Q (r_cat G G oA)<|Q (aS G)<|Qn (We (ret1 G (v:=str _) G (⟨(((([98,117,121,32]:List UInt8)++(Lib.itoa (max 0 a.Id)))++([32]:List UInt8))++(Lib.itoa (max 0 a.Value))),f,d,eR G,c,⟨oB,oB⟩,oE,b⟩)))))
   ·refine Ws (Wr (Q (r_eq G G)<|Q (aB G)<|Qn (Wd G (fun aj=>?_) (fun aj=>?_))))
    ·refine Ws (Wr (Q (mS G)<|Q (r_cat G G oA)<|Q (r_cat G G oA)<|Q (mS G)<|Q (r_cat G G oA)<|Q (aS G)<|Qn (We (ret1 G (v:=str _) G (⟨(((([108,101,110,100,32]:List UInt8)++(Lib.itoa (max 0 a.Id)))++([32]:List UInt8))++(Lib.itoa a.Reader)),f,d,eR G,c,⟨oB,oB⟩,oE,b⟩)))))
    ·refine Ws (Wr (Q (r_eq G G)<|Q (aB G)<|Qn (Wd G (fun ak=>?_) (fun ak=>?_))))
     ·refine Ws (Wr (Q (mS G)<|Q (r_cat G G oA)<|Q (r_cat G G oA)<|Q (mS G)<|Q (r_cat G G oA)<|Q (r_cat G G oA)<|Q (mS G)<|Q (r_cat G G oA)<|Q (aS G)<|Qn (We (ret1 G (v:=str _) G (⟨(((((([98,97,99,107,32]:List UInt8)++(Lib.itoa (max 0 a.Id)))++([32]:List UInt8))++(Lib.itoa a.Reader))++([32]:List UInt8))++(Lib.itoa (max 0 a.Value))),f,d,eR G,c,⟨oB,oB⟩,oE,b⟩)))))
     ·refine Ws (Wr (Q (r_eq G G)<|Q (aB G)<|Qn (Wd G (fun al=>?_) (fun al=>?_))))
      ·refine Ws (Wr (Q (mS G)<|Q (r_cat G G oA)<|Q (r_cat G G oA)<|Q (mS G)<|Q (r_cat G G oA)<|Q (r_cat G G oA)<|Q (mS G)<|Q (r_cat G G oA)<|Q (aS G)<|Qn (We (ret1 G (v:=str _) G (⟨(((((([104,97,110,100,32]:List UInt8)++(Lib.itoa (max 0 a.Id)))++([32]:List UInt8))++(Lib.itoa a.Reader))++([32]:List UInt8))++(Lib.itoa (max 0 a.Value))),f,d,eR G,c,⟨oB,oB⟩,oE,b⟩)))))
      ·refine Ws (Wr (Q (r_eq G G)<|Q (aB G)<|Qn (Wd G (fun am=>?_) (fun am=>?_))))
       ·refine Ws (Wr (Q (mS G)<|Q (r_cat G G oA)<|Q (r_cat G G oA)<|Q (mS G)<|Q (r_cat G G oA)<|Q (aS G)<|Qn (We (ret1 G (v:=str _) G (⟨(((([109,101,110,100,32]:List UInt8)++(Lib.itoa (max 0 a.Id)))++([32]:List UInt8))++(Lib.itoa (max 0 a.Value))),f,d,eR G,c,⟨oB,oB⟩,oE,b⟩)))))
       ·refine Ws (Wr (Q (r_eq G G)<|Q (aB G)<|Qn (Wd G (fun an=>?_) (fun an=>?_))))
        ·refine Ws (Wr (Q (mS G)<|Q (r_cat G G oA)<|Q (r_cat G G oA)<|Q (mS G)<|Q (r_cat G G oA)<|Q (aS G)<|Qn (We (ret1 G (v:=str _) G (⟨(((([100,114,111,112,32]:List UInt8)++(Lib.itoa (max 0 a.Id)))++([32]:List UInt8))++(Lib.itoa (max 0 a.Value))),f,d,eR G,c,⟨oB,oB⟩,oE,b⟩)))))
        ·refine Wk (Ws (Wr (Q (mS G)<|Q (r_cat G G oA)<|Q (r_cat G G oA)<|Q (mS G)<|Q (r_cat G G oA)<|Q (aS G)<|Qn (We (ret1 G (v:=str _) G (⟨(((([119,101,97,114,32]:List UInt8)++(Lib.itoa (max 0 a.Id)))++([32]:List UInt8))++(Lib.itoa (max 0 a.Value))),f,d,eR G,c,⟨oB,oB⟩,oE,b⟩))))))
  ·refine Ws (Wr (Q (r_eq G G)<|Q (aB G)<|Qn (Wd G (fun N=>?_) (fun N=>?_))))
   ·refine Wk (W.cond_t (congrArg Value.bool (decide_eq_true N)) (Ws (Ws (Wr (Q (fA fa106_0 G)<|Q (lB sca3 G p G)<|Qn (Wl (Ws (Wr (Q (r_eq G G)<|Q (aB G)<|Qn (Wd G (fun ao=>?_) (fun ao=>?_)))))))))))
    ·refine Ws (Wr (Q (mS G)<|Q (r_cat G G oA)<|Q (r_cat G G oA)<|Q (mS G)<|Q (r_cat G G oA)<|Q (aS G)<|Qn (We (ret1 G (v:=str _) G (⟨(((([98,117,121,32]:List UInt8)++(Lib.itoa (max 0 a.Id)))++([32]:List UInt8))++(Lib.itoa (max 0 a.Value))),f,d,eR G,c,⟨oB,oB⟩,oE,b⟩)))))
    ·refine Ws (Wr (Q (r_eq G G)<|Q (aB G)<|Qn (Wd G (fun ap=>?_) (fun ap=>?_))))
     ·refine Ws (Wr (Q (mS G)<|Q (r_cat G G oA)<|Q (r_cat G G oA)<|Q (mS G)<|Q (r_cat G G oA)<|Q (aS G)<|Qn (We (ret1 G (v:=str _) G (⟨(((([108,101,110,100,32]:List UInt8)++(Lib.itoa (max 0 a.Id)))++([32]:List UInt8))++(Lib.itoa a.Reader)),f,d,eR G,c,⟨oB,oB⟩,oE,b⟩)))))
     ·refine Ws (Wr (Q (r_eq G G)<|Q (aB G)<|Qn (Wd G (fun aq=>?_) (fun aq=>?_))))
      ·refine Ws (Wr (Q (mS G)<|Q (r_cat G G oA)<|Q (r_cat G G oA)<|Q (mS G)<|Q (r_cat G G oA)<|Q (r_cat G G oA)<|Q (mS G)<|Q (r_cat G G oA)<|Q (aS G)<|Qn (We (ret1 G (v:=str _) G (⟨(((((([98,97,99,107,32]:List UInt8)++(Lib.itoa (max 0 a.Id)))++([32]:List UInt8))++(Lib.itoa a.Reader))++([32]:List UInt8))++(Lib.itoa (max 0 a.Value))),f,d,eR G,c,⟨oB,oB⟩,oE,b⟩)))))
      ·refine Ws (Wr (Q (r_eq G G)<|Q (aB G)<|Qn (Wd G (fun ar=>?_) (fun ar=>?_))))
       ·refine Ws (Wr (Q (mS G)<|Q (r_cat G G oA)<|Q (r_cat G G oA)<|Q (mS G)<|Q (r_cat G G oA)<|Q (r_cat G G oA)<|Q (mS G)<|Q (r_cat G G oA)<|Q (aS G)<|Qn (We (ret1 G (v:=str _) G (⟨(((((([104,97,110,100,32]:List UInt8)++(Lib.itoa (max 0 a.Id)))++([32]:List UInt8))++(Lib.itoa a.Reader))++([32]:List UInt8))++(Lib.itoa (max 0 a.Value))),f,d,eR G,c,⟨oB,oB⟩,oE,b⟩)))))
       ·refine Ws (Wr (Q (r_eq G G)<|Q (aB G)<|Qn (Wd G (fun au=>?_) (fun au=>?_))))
        ·refine Ws (Wr (Q (mS G)<|Q (r_cat G G oA)<|Q (r_cat G G oA)<|Q (mS G)<|Q (r_cat G G oA)<|Q (aS G)<|Qn (We (ret1 G (v:=str _) G (⟨(((([109,101,110,100,32]:List UInt8)++(Lib.itoa (max 0 a.Id)))++([32]:List UInt8))++(Lib.itoa (max 0 a.Value))),f,d,eR G,c,⟨oB,oB⟩,oE,b⟩)))))
        ·refine Ws (Wr (Q (r_eq G G)<|Q (aB G)<|Qn (Wd G (fun aw=>?_) (fun aw=>?_))))
         ·refine Ws (Wr (Q (mS G)<|Q (r_cat G G oA)<|Q (r_cat G G oA)<|Q (mS G)<|Q (r_cat G G oA)<|Q (aS G)<|Qn (We (ret1 G (v:=str _) G (⟨(((([100,114,111,112,32]:List UInt8)++(Lib.itoa (max 0 a.Id)))++([32]:List UInt8))++(Lib.itoa (max 0 a.Value))),f,d,eR G,c,⟨oB,oB⟩,oE,b⟩)))))
         ·refine Wk (Ws (Wr (Q (mS G)<|Q (r_cat G G oA)<|Q (r_cat G G oA)<|Q (mS G)<|Q (r_cat G G oA)<|Q (aS G)<|Qn (We (ret1 G (v:=str _) G (⟨(((([119,101,97,114,32]:List UInt8)++(Lib.itoa (max 0 a.Id)))++([32]:List UInt8))++(Lib.itoa (max 0 a.Value))),f,d,eR G,c,⟨oB,oB⟩,oE,b⟩))))))
   ·refine Wr (Q (r_eq G G)<|Q (aB G)<|Qn (Wd G (fun ax=>?_) (fun ax=>?_)))
    ·refine Ws (Ws (Wr (Q (fA fa106_0 G)<|Q (lB sca3 G p G)<|Qn (Wl (Ws (Wr (Q (r_eq G G)<|Q (aB G)<|Qn (Wd G (fun ay=>?_) (fun ay=>?_)))))))))
     ·refine Ws (Wr (Q (mS G)<|Q (r_cat G G oA)<|Q (r_cat G G oA)<|Q (mS G)<|Q (r_cat G G oA)<|Q (aS G)<|Qn (We (ret1 G (v:=str _) G (⟨(((([98,117,121,32]:List UInt8)++(Lib.itoa (max 0 a.Id)))++([32]:List UInt8))++(Lib.itoa (max 0 a.Value))),f,d,eR G,c,⟨oB,oB⟩,oE,b⟩)))))
     ·refine Ws (Wr (Q (r_eq G G)<|Q (aB G)<|Qn (Wd G (fun az=>?_) (fun az=>?_))))
      ·refine Ws (Wr (Q (mS G)<|Q (r_cat G G oA)<|Q (r_cat G G oA)<|Q (mS G)<|Q (r_cat G G oA)<|Q (aS G)<|Qn (We (ret1 G (v:=str _) G (⟨(((([108,101,110,100,32]:List UInt8)++(Lib.itoa (max 0 a.Id)))++([32]:List UInt8))++(Lib.itoa a.Reader)),f,d,eR G,c,⟨oB,oB⟩,oE,b⟩)))))
      ·refine Ws (Wr (Q (r_eq G G)<|Q (aB G)<|Qn (Wd G (fun aA=>?_) (fun aA=>?_))))
       ·refine Ws (Wr (Q (mS G)<|Q (r_cat G G oA)<|Q (r_cat G G oA)<|Q (mS G)<|Q (r_cat G G oA)<|Q (r_cat G G oA)<|Q (mS G)<|Q (r_cat G G oA)<|Q (aS G)<|Qn (We (ret1 G (v:=str _) G (⟨(((((([98,97,99,107,32]:List UInt8)++(Lib.itoa (max 0 a.Id)))++([32]:List UInt8))++(Lib.itoa a.Reader))++([32]:List UInt8))++(Lib.itoa (max 0 a.Value))),f,d,eR G,c,⟨oB,oB⟩,oE,b⟩)))))
       ·refine Ws (Wr (Q (r_eq G G)<|Q (aB G)<|Qn (Wd G (fun aC=>?_) (fun aC=>?_))))
        ·refine Ws (Wr (Q (mS G)<|Q (r_cat G G oA)<|Q (r_cat G G oA)<|Q (mS G)<|Q (r_cat G G oA)<|Q (r_cat G G oA)<|Q (mS G)<|Q (r_cat G G oA)<|Q (aS G)<|Qn (We (ret1 G (v:=str _) G (⟨(((((([104,97,110,100,32]:List UInt8)++(Lib.itoa (max 0 a.Id)))++([32]:List UInt8))++(Lib.itoa a.Reader))++([32]:List UInt8))++(Lib.itoa (max 0 a.Value))),f,d,eR G,c,⟨oB,oB⟩,oE,b⟩)))))
        ·refine Ws (Wr (Q (r_eq G G)<|Q (aB G)<|Qn (Wd G (fun aD=>?_) (fun aD=>?_))))
         ·refine Ws (Wr (Q (mS G)<|Q (r_cat G G oA)<|Q (r_cat G G oA)<|Q (mS G)<|Q (r_cat G G oA)<|Q (aS G)<|Qn (We (ret1 G (v:=str _) G (⟨(((([109,101,110,100,32]:List UInt8)++(Lib.itoa (max 0 a.Id)))++([32]:List UInt8))++(Lib.itoa (max 0 a.Value))),f,d,eR G,c,⟨oB,oB⟩,oE,b⟩)))))
         ·refine Ws (Wr (Q (r_eq G G)<|Q (aB G)<|Qn (Wd G (fun aE=>?_) (fun aE=>?_))))
          ·refine Ws (Wr (Q (mS G)<|Q (r_cat G G oA)<|Q (r_cat G G oA)<|Q (mS G)<|Q (r_cat G G oA)<|Q (aS G)<|Qn (We (ret1 G (v:=str _) G (⟨(((([100,114,111,112,32]:List UInt8)++(Lib.itoa (max 0 a.Id)))++([32]:List UInt8))++(Lib.itoa (max 0 a.Value))),f,d,eR G,c,⟨oB,oB⟩,oE,b⟩)))))
          ·refine Wk (Ws (Wr (Q (mS G)<|Q (r_cat G G oA)<|Q (r_cat G G oA)<|Q (mS G)<|Q (r_cat G G oA)<|Q (aS G)<|Qn (We (ret1 G (v:=str _) G (⟨(((([119,101,97,114,32]:List UInt8)++(Lib.itoa (max 0 a.Id)))++([32]:List UInt8))++(Lib.itoa (max 0 a.Value))),f,d,eR G,c,⟨oB,oB⟩,oE,b⟩))))))
    ·refine Ws (Wr (Q (r_eq G G)<|Q (aB G)<|Qn (Wd G (fun aF=>?_) (fun aF=>?_))))
     ·refine Ws (Wr (Q (mP G)<|Q (mS G)<|Q (r_cat G G oA)<|Q (mS G)<|Q (r_cat G G oA)<|Ql (vs:=[str ([116,104,101,114,101]:List UInt8),str ([116,111,114,110]:List UInt8),str ([98,111,117,103,104,116]:List UInt8),str ([109,101,110,100,101,100]:List UInt8),str ([109,97,121]:List UInt8),str ([97,116,32,53]:List UInt8),str (([114,101,97,100,101,114,115,32]:List UInt8)++(Lib.itoa (max 0 a.Id))),str (([116,101,120,116,32]:List UInt8)++(Lib.itoa (max 0 a.Id)))]) (L:=([([116,104,101,114,101]:List UInt8),([116,111,114,110]:List UInt8),([98,111,117,103,104,116]:List UInt8),([109,101,110,100,101,100]:List UInt8),([109,97,121]:List UInt8),([97,116,32,53]:List UInt8),([114,101,97,100,101,114,115,32]:List UInt8)++(Lib.itoa (max 0 a.Id)),([116,101,120,116,32]:List UInt8)++(Lib.itoa (max 0 a.Id))]:List (List UInt8))) (enc:=encS) tel44 (fun _=>G) G G G oG ?_))
      intro Y bb be m B
      have bu:=m.size
      refine Qc ent110 (c___spec_l1Cur__of bb Lc f d (c.lo m) (E.lo m) oB oB ([([116,104,101,114,101]:List UInt8),([116,111,114,110]:List UInt8),([98,111,117,103,104,116]:List UInt8),([109,101,110,100,101,100]:List UInt8),([109,97,121]:List UInt8),([97,116,32,53]:List UInt8),([114,101,97,100,101,114,115,32]:List UInt8)++(Lib.itoa (max 0 a.Id)),([116,101,120,116,32]:List UInt8)++(Lib.itoa (max 0 a.Id))]:List (List UInt8)) (B.rd) oB oB (show ¬Y=gc from by first | omega | (have:=B.base_le G; omega))) G ?_
      rintro e bL ⟨V,a8,a6,rfl,R,bp,S,C⟩
      refine ⟨_,G,?_⟩
      have bw:=C.size
      have aU:V.length≤40:=by have hh:=S; simp only [List.mem_cons,List.not_mem_nil,or_false] at hh; rcases hh with hh | hh | hh | hh | hh | hh | hh | hh <;> (rw [hh]; simp only [List.length_append,List.length_cons,List.length_nil]; omega)
      refine Q (aS G)<|Qn (We (ret1 G (v:=str _) G (⟨V,a8,a6,eR G,R,⟨oB,oB⟩,oE,((b.lo m).step C (fun i_ hi_ e'=>e'))⟩)))
     ·refine Wk (Ws (Wr (Q (mP G)<|Ql (vs:=[str ([]:List UInt8),str ([119,104,97,116]:List UInt8),str ([98,117,121,32,49]:List UInt8),str ([108,101,110,100,32,120,32,49]:List UInt8),str ([119,101,97,114,32,49,32,48]:List UInt8),str ([97,116]:List UInt8),str ([97,116,32,48]:List UInt8),str ([97,64,98]:List UInt8),str ([109,97,121,32,49]:List UInt8),str ([98,97,99,107,32,49,32,49,32,49]:List UInt8),str ([116,101,120,116,32,45,49]:List UInt8)]) (L:=([([]:List UInt8),([119,104,97,116]:List UInt8),([98,117,121,32,49]:List UInt8),([108,101,110,100,32,120,32,49]:List UInt8),([119,101,97,114,32,49,32,48]:List UInt8),([97,116]:List UInt8),([97,116,32,48]:List UInt8),([97,64,98]:List UInt8),([109,97,121,32,49]:List UInt8),([98,97,99,107,32,49,32,49,32,49]:List UInt8),([116,101,120,116,32,45,49]:List UInt8)]:List (List UInt8))) (enc:=encS) tel44 (fun _=>G) G G G oG ?_)))
      intro J X aN i r
      have aX:=i.size
      refine Qc ent110 (c___spec_l1Cur__of X Lc f d (c.lo i) (E.lo i) oB oB ([([]:List UInt8),([119,104,97,116]:List UInt8),([98,117,121,32,49]:List UInt8),([108,101,110,100,32,120,32,49]:List UInt8),([119,101,97,114,32,49,32,48]:List UInt8),([97,116]:List UInt8),([97,116,32,48]:List UInt8),([97,64,98]:List UInt8),([109,97,121,32,49]:List UInt8),([98,97,99,107,32,49,32,49,32,49]:List UInt8),([116,101,120,116,32,45,49]:List UInt8)]:List (List UInt8)) (r.rd) oB oB (show ¬J=gc from by first | omega | (have:=r.base_le G; omega))) G ?_
      rintro e bz ⟨F,U,T,rfl,H,aW,I,u⟩
      refine ⟨_,G,?_⟩
      have aY:=u.size
      have aV:F.length≤40:=mem_le (n:=40) oG I
      refine Q (aS G)<|Qn (We (ret1 G (v:=str _) G (⟨F,U,T,eR G,H,⟨oB,oB⟩,oE,((b.lo i).step u (fun i_ hi_ e'=>e'))⟩)))
end Go.Proofs.YtndcchndcghmoaaGreatDoor
namespace Go.Proofs.YtndcchndcghmoaaGreatDoor
open Go Go.RowKit Fw
set_option maxRecDepth 10000
set_option maxHeartbeats 2000000
set_option linter.unusedVariables false
variable {Ac : Option Addr} {nc cc Bc : Nat}
theorem ent112:Ent Tryz.prog 112:=en Tryz.func112
theorem ent113:Ent Tryz.prog 113:=en Tryz.func113
theorem ent60:Ent Tryz.prog 60:=en Tryz.func60
theorem c___spec_l1Cur__console (w:World) {gc ec:Nat} (Lc:List UInt8) (tc sc:Int) (hc:Blk w gc ec [.slice Ac nc cc,i6 tc,.int .u64 sc]) (hLc:SlR w Bc encB 1 Ac nc cc Lc) (hgc:Bc≤gc) (htc:0≤tc∧tc+1200≤4611686018427387904):Calls Tryz.prog 65 #[.pointer (some ⟨gc,0,none⟩)] w fun e w'=>∃ (A1':Option Addr) (n1' c1':Nat) (A2':Option Addr) (n2' c2':Nat) (c:Console) (tc' sc':Int),e=.returned (.agg (List.toArray (cCn A1' n1' c1' A2' n2' c2' c)))∧SlO w' w.heap.size encLMap 3 102 A1' n1' c1' c.Library.Maps∧SlO w' w.heap.size encAway 2 129 A2' n2' c2' c.Library.Away∧Dj A1' A2'∧Blk w' gc ec [.slice Ac nc cc,i6 tc',.int .u64 sc']∧(tc≤tc'∧tc'≤tc+1200)∧(c.Library.Maps.length≤9∧c.Library.Away.length≤9)∧(MapB c.Library.Maps)∧(AwayB c.Library.Away)∧(c.Log.Durable.length≤60000∧c.Log.Pending.length≤60000∧-1≤c.Log.Count∧c.Log.Count≤100)∧Kp (fun b_=>b_=gc) w w':=by
 refine cW 32 Tryz.func65 G G G ?_
 have hBlc:=hc.lt
 have hbdc:=hLc.bound
 have hlec:=hLc.len
 have hBbc:=hLc.bd
 refine Ws (Wr (Qa (l:=zCn) tz37 G ?_))
 intro Z w2 dZ ba d1 cy
 refine Qn (Ws (Wr (Q (mP G)<|Qc ent112 (c___spec_l1Cur__library w2 Lc tc sc (hc.lo ba) (hLc.lo ba) oB oB) G ?_)))
 rintro e w9 ⟨ag,aX,aE,ah,aY,aF,C,di,dh,rfl,az,aA,ca,b6,dM,dE,dF,dG,aC⟩
 refine ⟨_,G,?_⟩
 have dO:=aC.size
 have dt:=az.len
 have du:=az.rd.bound
 have dv:=aA.len
 have dw:=aA.rd.bound
 refine Q (r_build (vs:=[(0,.agg (List.toArray (cLb ag aX aE ah aY aF C)))]) G (bld37_0 _ _ _ _ _))<|Qa (l:=zCn) tz37 G ?_
 intro d d3 dr ac dK b7
 have bj:=nE (g:=d) az
 have bl:=nE (g:=d) aA
 refine Qw (o:=0) (vs:=[.slice ag aX aE,.slice ah aY aF,i6 C.Bought,i6 C.Dropped,i6 C.Mended,str ([]:List UInt8),str ([]:List UInt8),i6 0]) agg37.2 G G G G b7 ler G ?_
 intro dk ae dL b8
 refine Qn (Ws (Ws ?_))
 have bq:=(((hLc.lo ba).kn aC).lo ac).kn ae
 have aO:=(az.lo ac).kd ae bj
 have aQ:=(aA.lo ac).kd ae bl
 refine Wr (Q (mP G)<|Qc ent59 (c___spec_l1Cur__pick dk Lc di dh ((b6.lo ac).kn ae) bq oB oB 7 oD) G ?_)
 rintro e ay ⟨bc,bb,cj,rfl,b9,dN,dH,B⟩
 refine ⟨_,G,?_⟩
 have dP:=B.size
 refine Q (aI G)<|Qn (Wl (WL (σ:=Int × Console × Int × Int × (Option Addr) × Nat × Nat × (Option Addr) × Nat × Nat) (fun g=>[(0,pt gc),(2,pt Z),(3,pt d),(4,i6 g.1)]) (fun g w'=>(Kp (fun b_=>b_=gc) w w')∧(Blk w' gc ec [.slice Ac nc cc,i6 g.2.2.1,.int .u64 g.2.2.2.1])∧(SlR w' Bc encB 1 Ac nc cc Lc)∧(Blk w' Z 37 zCn)∧(Blk w' d 37 (cCn g.2.2.2.2.1 g.2.2.2.2.2.1 g.2.2.2.2.2.2.1 g.2.2.2.2.2.2.2.1 g.2.2.2.2.2.2.2.2.1 g.2.2.2.2.2.2.2.2.2 g.2.1))∧(SlO w' w.heap.size encLMap 3 102 g.2.2.2.2.1 g.2.2.2.2.2.1 g.2.2.2.2.2.2.1 g.2.1.Library.Maps)∧(SlO w' w.heap.size encAway 2 129 g.2.2.2.2.2.2.2.1 g.2.2.2.2.2.2.2.2.1 g.2.2.2.2.2.2.2.2.2 g.2.1.Library.Away)∧(¬g.2.2.2.2.1=some ⟨gc,0,none⟩)∧(¬g.2.2.2.2.1=some ⟨Z,0,none⟩)∧(¬g.2.2.2.2.1=some ⟨d,0,none⟩)∧(∀ b_,g.2.2.2.2.1=some ⟨b_,0,none⟩→¬g.2.2.2.2.2.2.2.1=some ⟨b_,0,none⟩)∧(¬g.2.2.2.2.2.2.2.1=some ⟨gc,0,none⟩)∧(¬g.2.2.2.2.2.2.2.1=some ⟨Z,0,none⟩)∧(¬g.2.2.2.2.2.2.2.1=some ⟨d,0,none⟩)∧((0≤g.1∧g.1≤6∧tc≤g.2.2.1∧g.2.2.1≤tc+810+40*(6-g.1))∧(g.2.1.Library.Maps.length≤9∧g.2.1.Library.Away.length≤9)∧(g.2.1.Log.Durable.length+g.2.1.Log.Pending.length≤24766∧0≤g.2.1.Log.Count∧g.2.1.Log.Count≤60)∧MapB g.2.1.Library.Maps∧AwayB g.2.1.Library.Away)) (fun g=>g.1.toNat) (bc,(⟨C,(⟨([]:List UInt8),([]:List UInt8),0⟩:Log)⟩:Console),bb,cj,ag,aX,aE,ah,aY,aF) ?_ ?_ ?_))
 ·exact (At.r G)
 ·show (Kp (fun b_=>b_=gc) w ay)∧(Blk ay gc ec [.slice Ac nc cc,i6 bb,.int .u64 cj])∧(SlR ay Bc encB 1 Ac nc cc Lc)∧(Blk ay Z 37 zCn)∧(Blk ay d 37 (cCn ag aX aE ah aY aF (⟨C,(⟨([]:List UInt8),([]:List UInt8),0⟩:Log)⟩:Console)))∧(SlO ay w.heap.size encLMap 3 102 ag aX aE ((⟨C,(⟨([]:List UInt8),([]:List UInt8),0⟩:Log)⟩:Console).Library.Maps))∧(SlO ay w.heap.size encAway 2 129 ah aY aF ((⟨C,(⟨([]:List UInt8),([]:List UInt8),0⟩:Log)⟩:Console).Library.Away))∧(¬ag=some ⟨gc,0,none⟩)∧(¬ag=some ⟨Z,0,none⟩)∧(¬ag=some ⟨d,0,none⟩)∧Dj ag ah∧(¬ah=some ⟨gc,0,none⟩)∧(¬ah=some ⟨Z,0,none⟩)∧(¬ah=some ⟨d,0,none⟩)∧((0≤bc∧bc≤6∧tc≤bb∧bb≤tc+810+40*(6-bc))∧((⟨C,(⟨([]:List UInt8),([]:List UInt8),0⟩:Log)⟩:Console).Library.Maps.length≤9∧(⟨C,(⟨([]:List UInt8),([]:List UInt8),0⟩:Log)⟩:Console).Library.Away.length≤9)∧((⟨C,(⟨([]:List UInt8),([]:List UInt8),0⟩:Log)⟩:Console).Log.Durable.length+(⟨C,(⟨([]:List UInt8),([]:List UInt8),0⟩:Log)⟩:Console).Log.Pending.length≤24766∧0≤(⟨C,(⟨([]:List UInt8),([]:List UInt8),0⟩:Log)⟩:Console).Log.Count∧(⟨C,(⟨([]:List UInt8),([]:List UInt8),0⟩:Log)⟩:Console).Log.Count≤60)∧MapB (⟨C,(⟨([]:List UInt8),([]:List UInt8),0⟩:Log)⟩:Console).Library.Maps∧AwayB (⟨C,(⟨([]:List UInt8),([]:List UInt8),0⟩:Log)⟩:Console).Library.Away)
  exact ⟨((((((kr ba:Kp (fun b_=>b_=gc) w _)).step aC (fun i_ hi_ e'=>e')).lo ac).new ae).step B (fun i_ hi_ e'=>e')),b9,bq.kn B,(((cy.kn aC).lo ac).kn ae).kn B,(b8.kn B),(oq ((aO.kn B).down) oW),(oq ((aQ.kn B).down) oW),(fun e'=>by have:=(aO.kn B).base_le e'; omega),(fun e'=>by have:=(aO.kn B).base_le e'; omega),bj,ca,(fun e'=>by have:=(aQ.kn B).base_le e'; omega),(fun e'=>by have:=(aQ.kn B).base_le e'; omega),bl,(by (try dsimp only); exact ⟨oB,by (try dsimp only); omega,by simp,‹MapB _›,‹AwayB _›⟩)⟩
 ·rintro ⟨n,o,t,z,v,S,L,x,T,M⟩ cu ap b5
  obtain ⟨bi,ar,au,aD,u,q,s,D,bm,aa,bn,E,bo,ab,aq⟩:(Kp (fun b_=>b_=gc) w ap)∧(Blk ap gc ec [.slice Ac nc cc,i6 t,.int .u64 z])∧(SlR ap Bc encB 1 Ac nc cc Lc)∧(Blk ap Z 37 zCn)∧(Blk ap d 37 (cCn v S L x T M o))∧(SlO ap w.heap.size encLMap 3 102 v S L o.Library.Maps)∧(SlO ap w.heap.size encAway 2 129 x T M o.Library.Away)∧(¬v=some ⟨gc,0,none⟩)∧(¬v=some ⟨Z,0,none⟩)∧(¬v=some ⟨d,0,none⟩)∧Dj v x∧(¬x=some ⟨gc,0,none⟩)∧(¬x=some ⟨Z,0,none⟩)∧(¬x=some ⟨d,0,none⟩)∧((0≤n∧n≤6∧tc≤t∧t≤tc+810+40*(6-n))∧(o.Library.Maps.length≤9∧o.Library.Away.length≤9)∧(o.Log.Durable.length+o.Log.Pending.length≤24766∧0≤o.Log.Count∧o.Log.Count≤60)∧MapB o.Library.Maps∧AwayB o.Library.Away):=b5
  refine (?_:W _ _ _ _ _ (act _ (sets cu [(0,pt gc),(2,pt Z),(3,pt d),(4,i6 n)])) _)
  have dg:=bi.size
  have dx:=ar.lt
  have dy:=aD.lt
  have dz:=u.lt
  have dA:=q.len
  have dB:=q.rd.bound
  have dC:=s.len
  have dD:=s.rd.bound
  have dI:0≤n∧n≤6∧tc≤t∧t≤tc+810+40*(6-n):=aq.1
  have cd:o.Library.Maps.length≤9∧o.Library.Away.length≤9:=aq.2.1
  have dJ:o.Log.Durable.length+o.Log.Pending.length≤24766∧0≤o.Log.Count∧o.Log.Count≤60:=aq.2.2.1
  have ce:MapB o.Library.Maps:=aq.2.2.2.1
  have cf:AwayB o.Library.Away:=aq.2.2.2.2
  refine Ws (Ws (WJ (fun f' w'=>At f' [(0,pt gc),(2,pt Z),(3,pt d),(4,i6 n),(15,.bool (decide ((0<n)∧(ConOK o))))]∧Lo ap w') ?_ ?_))
  ·refine Q (mI G)<|Q (r_gt G G)<|Q (mB G)<|QD (fun bz=>?_) (fun bz=>?_)
   ·refine Qg (lG agg37 G u G)<|SR.gcall G ent42 (c_spec_l34Good ap o (q.rd) (s.rd) oB) G ?_
    rintro e d4 ⟨rfl,bp⟩
    refine ⟨_,G,?_⟩
    have cT:=bp.size
    refine Q (pT G G)<|Qn (⟨_,G,⟨⟨G,G,G,G,(eDD (jat bz)),trivial⟩,bp⟩⟩)
   ·refine Qs<|Qs<|Q (pF G G)<|Qn (⟨_,G,⟨⟨G,G,G,G,(eDF (jaf bz).2),trivial⟩,(lr _)⟩⟩)
  rintro dm k ⟨aZ,a⟩
  rw [← sA aZ]
  have cU:=a.size
  have aH:=bi.lo a
  refine Wd G (fun aG=>?_) (fun aG=>?_)
  ·have cH:0<n:=aG.1
   have aU:ConOK o:=aG.2
   have cI:=con_rng aU
   have cJ:=And.left aU
   refine Wk (Ws (Wl (WA (Kp (fun b_=>b_=gc∨b_=d) k) (fun f' w'=>∃ (f:List UInt8) (j:Int) (K:Int) (m:Option Addr) (I:Nat) (X:Nat) (p:Option Addr) (J:Nat) (Y:Nat),At f' [(0,pt gc),(2,pt Z),(3,pt d),(4,i6 n)]∧(Kp (fun b_=>b_=gc∨b_=d) k w')∧(SlO w' k.heap.size encLMap 3 102 m I X (((execN o f).1).Library.Maps))∧(SlO w' k.heap.size encAway 2 129 p J Y (((execN o f).1).Library.Away))∧(Blk w' gc ec [.slice Ac nc cc,i6 j,.int .u64 K])∧(Blk w' d 37 (cCn m I X p J Y ((execN o f).1)))∧Dj m v∧Dj m x∧Dj m p∧Dj p v∧Dj p x∧(t≤j∧j≤t+24)∧(f.length≤100)∧(I=(((execN o f).1).Library.Maps).length)∧((I:Int)≤9223372036854775807)∧(J=(((execN o f).1).Library.Away).length)∧((J:Int)≤9223372036854775807)) mo ?_ ?_)))
   ·intro cp b
    have cX:=b.size
    refine Av #[true,true,true,true,false,false,false,false,false] 5 (fun f' w'=>∃ (f:List UInt8) (j:Int) (K:Int),At f' [(0,pt gc),(2,pt Z),(3,pt d),(4,i6 n),(19,.agg (List.toArray (cCn v S L x T M o))),(22,str f)]∧(Kp (fun b_=>b_=gc∨b_=d) k w')∧(Blk w' gc ec [.slice Ac nc cc,i6 j,.int .u64 K])∧(Blk w' d 37 (cCn v S L x T M o))∧(t≤j∧j≤t+24)∧(f.length≤100)) ?_ (fun aR=>?_)
    ·rintro dn cq ⟨f,j,K,a6,y,bP,bQ,aW,aV⟩
     rw [← sA a6]
     have cY:=y.size
     refine Ab 4 G (Qc ent10 (c_spec_ExecuteCommand cq o (((q.lo a).kp y (fun b_ hb e'=>e'.elim (fun e'=>D (by have e'':b_=gc:=e'; rw [← e'']; exact hb)) (fun e'=>aa (by have e'':b_=d:=e'; rw [← e'']; exact hb)))).rd) (((s.lo a).kp y (fun b_ hb e'=>e'.elim (fun e'=>E (by have e'':b_=gc:=e'; rw [← e'']; exact hb)) (fun e'=>ab (by have e'':b_=d:=e'; rw [← e'']; exact hb)))).rd) f oB oB) G ?_)
     rintro e dR ⟨be,bs,bg,bf,bt,bh,rfl,N,O,bI,aj⟩
     refine ⟨_,G,?_⟩
     have cZ:=aj.size
     have P:=y.lo aj
     have bJ:=N.len
     have bK:=N.rd.bound
     have bL:=O.len
     have bM:=O.rd.bound
     refine Qn ⟨P,_,G,(Ak 5 G P (fun w' hw'=>mT G)<|Ak 6 G P (fun w' hw'=>xG G G)<|Ak 7 G P (fun w' hw'=>xS G G)<|Ab 8 G (Qw (o:=0) (vs:=(cCn be bs bg bf bt bh ((execN o f).1))) agg37.2 G G G G (bQ.lo aj) ler G ?_))⟩
     intro dS A cN bA
     have aK:=P.step A (fun _ _ e=>.inr e)
     refine Qn ⟨aK,_,G,(Ad oC (⟨f,j,K,be,bs,bg,bf,bt,bh,(At.r G),aK,((N.kn A).down),((O.kn A).down),((bP.lo aj).kn A),bA,(fun b_ h h'=>by have h1:=(N.kn A).base_le h; have h2:=((q.lo a).kp y (fun b_ hb e'=>e'.elim (fun e'=>D (by have e'':b_=gc:=e'; rw [← e'']; exact hb)) (fun e'=>aa (by have e'':b_=d:=e'; rw [← e'']; exact hb)))).base_le h'; omega),(fun b_ h h'=>by have h1:=(N.kn A).base_le h; have h2:=((s.lo a).kp y (fun b_ hb e'=>e'.elim (fun e'=>E (by have e'':b_=gc:=e'; rw [← e'']; exact hb)) (fun e'=>ab (by have e'':b_=d:=e'; rw [← e'']; exact hb)))).base_le h'; omega),bI,(fun b_ h h'=>by have h1:=(O.kn A).base_le h; have h2:=((q.lo a).kp y (fun b_ hb e'=>e'.elim (fun e'=>D (by have e'':b_=gc:=e'; rw [← e'']; exact hb)) (fun e'=>aa (by have e'':b_=d:=e'; rw [← e'']; exact hb)))).base_le h'; omega),(fun b_ h h'=>by have h1:=(O.kn A).base_le h; have h2:=((s.lo a).kp y (fun b_ hb e'=>e'.elim (fun e'=>E (by have e'':b_=gc:=e'; rw [← e'']; exact hb)) (fun e'=>ab (by have e'':b_=d:=e'; rw [← e'']; exact hb)))).base_le h'; omega),aW,aV,bJ,bK,bL,bM⟩))⟩
    refine Av #[true,true,true,false,false,false,false,false,false] 6 (fun f' w'=>At f' [(0,pt gc),(2,pt Z),(3,pt d),(4,i6 n),(19,.agg (List.toArray (cCn v S L x T M o))),(20,pt gc),(21,.agg (List.toArray (cCn v S L x T M o)))]∧(Kp (fun b_=>b_=gc∨b_=d) k w')∧(Blk w' gc ec [.slice Ac nc cc,i6 t,.int .u64 z])∧(Blk w' d 37 (cCn v S L x T M o))) ?_ (fun aT=>?_)
    ·rintro dp cr ⟨a7,F,bN,bO⟩
     rw [← sA a7]
     have c6:=F.size
     refine Ab 3 G (Qc ent60 (c___spec_l1Cur__command cr Lc t z bN ((au.lo a).kp F (fun b_ hb e'=>e'.elim (fun e'=>by have e'':b_=gc:=e'; omega) (fun e'=>by have e'':b_=d:=e'; omega))) oB oB o (((q.lo a).kp F (fun b_ hb e'=>e'.elim (fun e'=>D (by have e'':b_=gc:=e'; rw [← e'']; exact hb)) (fun e'=>aa (by have e'':b_=d:=e'; rw [← e'']; exact hb)))).rd) (((s.lo a).kp F (fun b_ hb e'=>e'.elim (fun e'=>E (by have e'':b_=gc:=e'; rw [← e'']; exact hb)) (fun e'=>ab (by have e'':b_=d:=e'; rw [← e'']; exact hb)))).rd) oB (by first | assumption | exact MapB.of (And.left (And.left ‹LibOK _›)) | exact MapB.app (MapB.of (And.left (And.left ‹LibOK _›))) oF | exact MapB.nil) (by first | assumption | exact AwayB.of ‹LibOK _› | exact AwayB.app (AwayB.of ‹LibOK _›) oF | exact AwayB.nil) (((q.lo a).kp F (fun b_ hb e'=>e'.elim (fun e'=>D (by have e'':b_=gc:=e'; rw [← e'']; exact hb)) (fun e'=>aa (by have e'':b_=d:=e'; rw [← e'']; exact hb)))).apart D) (((s.lo a).kp F (fun b_ hb e'=>e'.elim (fun e'=>E (by have e'':b_=gc:=e'; rw [← e'']; exact hb)) (fun e'=>ab (by have e'':b_=d:=e'; rw [← e'']; exact hb)))).apart E)) G ?_)
     rintro e dT ⟨cn,ck,cg,rfl,bB,bY,bW,ax⟩
     refine ⟨_,G,?_⟩
     have c7:=ax.size
     have aM:=F.step ax (fun _ _ e=>.inl e)
     refine Qn ⟨aM,_,G,(Ag oC G (aR _ _ (⟨cn,ck,cg,(At.r G),aM,bB,(bO.kn ax),bY,bW⟩)))⟩
    refine Ak 1 G (kr b) (fun w' hw'=>mP G)<|Ar [0,2] oC G ⟨Bm G trivial ?_,Bm G trivial ?_,trivial⟩
    ·refine Q (lG agg37 G ((u.lo a).lo b) G) (Qn ⟨(kq k).lo b,_,G,(Ab 2 G (Q (lG agg37 G ((u.lo a).lo b) G) (Qn ⟨(kq k).lo b,_,G,(Ag oC G (aT _ _ (⟨(At.r G),(kq k).lo b,((ar.lo a).lo b),((u.lo a).lo b)⟩)))⟩)))⟩)
    ·refine Q (lG agg37 G ((u.lo a).lo b) G) (Qn ⟨(kq k).lo b,_,G,(Ar [0,3] oC G ⟨Bm G trivial ?_,Bm G trivial ?_,trivial⟩)⟩)
     ·refine Q (lG agg37 G ((u.lo a).lo b) G) (Qn ⟨(kq k).lo b,_,G,(Ag oC G (aT _ _ (⟨(At.r G),(kq k).lo b,((ar.lo a).lo b),((u.lo a).lo b)⟩)))⟩)
     ·refine Qc ent60 (c___spec_l1Cur__command cp Lc t z ((ar.lo a).lo b) ((au.lo a).lo b) oB oB o (((q.lo a).lo b).rd) (((s.lo a).lo b).rd) oB (by first | assumption | exact MapB.of (And.left (And.left ‹LibOK _›)) | exact MapB.app (MapB.of (And.left (And.left ‹LibOK _›))) oF | exact MapB.nil) (by first | assumption | exact AwayB.of ‹LibOK _› | exact AwayB.app (AwayB.of ‹LibOK _›) oF | exact AwayB.nil) (((q.lo a).lo b).apart D) (((s.lo a).lo b).apart E)) G ?_
      rintro e dU ⟨co,cl,ch,rfl,bC,bZ,bX,ak⟩
      refine ⟨_,G,?_⟩
      have da:=ak.size
      have aw:=((kr b:Kp (fun b_=>b_=gc∨b_=d) k _)).step ak (fun _ _ e=>.inl e)
      refine Qn ⟨aw,_,G,(Ab 0 G (Q (lG agg37 G (((u.lo a).lo b).kn ak) G) (Qn ⟨aw,_,G,(Ag oC G (aR _ _ (⟨co,cl,ch,(At.r G),aw,bC,(((u.lo a).lo b).kn ak),bZ,bX⟩)))⟩)))⟩
   rintro dq V ⟨f,j,K,m,I,X,p,J,Y,a8,ai,an,ao,bR,bS,cz,cA,bH,cB,cC,aW,aV,cD,cE,cF,cG⟩
   rw [← sA a8]
   have db:=ai.size
   have bT:=(au.lo a).kp ai (fun b_ hb e'=>e'.elim (fun e'=>by have e'':b_=gc:=e'; omega) (fun e'=>by have e'':b_=d:=e'; omega))
   have bU:=(aD.lo a).kp ai (fun e'=>e'.elim (fun e'=>by have e'':Z=gc:=e'; omega) (fun e'=>by have e'':Z=d:=e'; omega))
   refine Wr (Q (mI G)<|Q (r_sub G G oB)<|Q (aI G)<|Qn (⟨(n-1,((execN o f).1),j,K,m,I,X,p,J,Y),_,G,(At.r G),(show (Kp (fun b_=>b_=gc) w V)∧(Blk V gc ec [.slice Ac nc cc,i6 j,.int .u64 K])∧(SlR V Bc encB 1 Ac nc cc Lc)∧(Blk V Z 37 zCn)∧(Blk V d 37 (cCn m I X p J Y ((execN o f).1)))∧(SlO V w.heap.size encLMap 3 102 m I X (((execN o f).1).Library.Maps))∧(SlO V w.heap.size encAway 2 129 p J Y (((execN o f).1).Library.Away))∧(¬m=some ⟨gc,0,none⟩)∧(¬m=some ⟨Z,0,none⟩)∧(¬m=some ⟨d,0,none⟩)∧Dj m p∧(¬p=some ⟨gc,0,none⟩)∧(¬p=some ⟨Z,0,none⟩)∧(¬p=some ⟨d,0,none⟩)∧((0≤n-1∧n-1≤6∧tc≤j∧j≤tc+810+40*(6-(n-1)))∧(((execN o f).1).Library.Maps.length≤9∧((execN o f).1).Library.Away.length≤9)∧(((execN o f).1).Log.Durable.length+((execN o f).1).Log.Pending.length≤24766∧0≤((execN o f).1).Log.Count∧((execN o f).1).Log.Count≤60)∧MapB ((execN o f).1).Library.Maps∧AwayB ((execN o f).1).Library.Away) from ⟨(aH.step ai (fun i_ hi_ e'=>e'.elim (fun e'=>e') (fun e'=>by have e'':i_=d:=e'; omega))),bR,bT,bU,bS,(an.down),(ao.down),(fun e'=>by have:=an.base_le e'; omega),(fun e'=>by have:=an.base_le e'; omega),(fun e'=>by have:=an.base_le e'; omega),bH,(fun e'=>by have:=ao.base_le e'; omega),(fun e'=>by have:=ao.base_le e'; omega),(fun e'=>by have:=ao.base_le e'; omega),?_⟩),?_⟩))
   ·exact (by (try dsimp only); exact ⟨oB,con_step ‹ConOK _›⟩)
   ·exact oH
  ·refine Wx (xh (Ws (Ws (Wr (Q (mP G)<|Qc ent61 (c___spec_l1Cur__one k Lc t z (ar.lo a) (au.lo a) oB oB 24 oD) G ?_)))))
   rintro e ct ⟨dQ,bw,bu,rfl,aN,cR,i⟩
   refine ⟨_,G,?_⟩
   have de:=i.size
   have aJ:=aH.step i (fun i_ hi_ e'=>e')
   refine Qn (Wb G (fun b4=>?_) (fun b4=>?_))
   ·have bV:=(au.lo a).kn i
    refine Wr (Q (mP G)<|Qc ent113 (c___spec_l1Cur__anyLog ct Lc bw bu aN bV oB oB) G ?_)
    rintro e dV ⟨U,cm,ci,rfl,bD,cS,cK,H⟩
    refine ⟨_,G,?_⟩
    have df:=H.size
    refine Q (fA fa37_1 G)<|Qw (o:=5) (vs:=[str U.Durable,str U.Pending,i6 U.Count]) agg35.2 G G G G (((u.lo a).kn i).kn H) ler G ?_
    intro dW R cO bE
    refine Qn (Ws (Wr (Q (lG agg37 G bE G)<|Qw (o:=0) (vs:=[.slice v S L,.slice x T M,i6 o.Library.Bought,i6 o.Library.Dropped,i6 o.Library.Mended,str U.Durable,str U.Pending,i6 U.Count]) agg37.2 G G G G ((((aD.lo a).kn i).kn H).kn R) ler G ?_)))
    intro dX al cP bF
    refine Qn (We (retC G G agg37 bF G ?_))
    refine ⟨v,S,L,x,T,M,(⟨o.Library,U⟩:Console),cm,ci,eR (eA G),(oq ((((((q.lo a).kd i D).kd H D).kd R aa).kd al bm).down) (by first | rfl | omega | grind)),(oq ((((((s.lo a).kd i E).kd H E).kd R ab).kd al bo).down) (by first | rfl | omega | grind)),bn,((bD.kn R).kn al),⟨oB,oB⟩,oF,?_,?_,oF,(((aJ.step H (fun i_ hi_ e'=>e')).new R).new al)⟩ <;> (first | assumption | (dsimp only; assumption))
   ·refine Wk (Ws (Wr (Q (lG agg37 G ((u.lo a).kn i) G)<|Qw (o:=0) (vs:=(cCn v S L x T M o)) agg37.2 G G G G ((aD.lo a).kn i) ler G ?_)))
    intro dY am cQ bG
    refine Qn (We (retC G G agg37 bG G (⟨v,S,L,x,T,M,o,bw,bu,eR G,((((q.lo a).kd i D).kd am bm).down),((((s.lo a).kd i E).kd am bo).down),bn,(aN.kn am),⟨oB,oB⟩,cd,ce,cf,oF,(aJ.new am)⟩)))
end Go.Proofs.YtndcchndcghmoaaGreatDoor
namespace Go.Proofs.YtndcchndcghmoaaGreatDoor
open Go Go.RowKit Fw
set_option maxRecDepth 10000
set_option maxHeartbeats 2000000
set_option linter.unusedVariables false
variable {AL : Option Addr} {nL cL BL : Nat}
theorem bld91_0 (a0:Option Addr) (b0 c0:Nat):Tryz.prog.built 91 [(0,.slice a0 b0 c0)]=some (List.toArray [.slice a0 b0 c0,i6 0,.int .u64 0]):=by kernel_rfl
theorem ent65:Ent Tryz.prog 65:=en Tryz.func65
theorem c_spec_DrawExecuteCommand (w:World)  (L:List UInt8) (hL:SlR w BL encB 1 AL nL cL L) (dr:(nL:Int)≤65536):Calls Tryz.prog 34 #[.slice AL nL cL] w fun e w'=>∃ (A1':Option Addr) (n1' c1':Nat) (A2':Option Addr) (n2' c2':Nat) (c:Console) (v:List UInt8),e=.returned (.tuple (List.toArray [.agg (List.toArray (cCn A1' n1' c1' A2' n2' c2' c)),str v]))∧SlO w' w.heap.size encLMap 3 102 A1' n1' c1' c.Library.Maps∧SlO w' w.heap.size encAway 2 129 A2' n2' c2' c.Library.Away∧Dj A1' A2'∧(c.Library.Maps.length≤9∧c.Library.Away.length≤9)∧(MapB c.Library.Maps)∧(AwayB c.Library.Away)∧(c.Log.Durable.length≤60000∧c.Log.Pending.length≤60000∧-1≤c.Log.Count∧c.Log.Count≤100)∧(v.length≤101)∧Lo w w':=by
 refine cW 42 Tryz.func34 G G G ?_
 have hbdL:=hL.bound
 have hleL:=hL.len
 have hBbL:=hL.bd
 refine Ws (Wr (Qa (l:=zCn) tz37 G ?_))
 intro g1 w2 dq bq dt bS
 refine Q (r_as (v:=str ([]:List UInt8)) G)<|Qn (Ws (Wr (Q (mL G)<|Q (r_build (vs:=[(0,.slice AL nL cL)]) G (bld91_0 _ _ _))<|bx G ?_)))
 intro g9 aE cF ao cO bl
 refine Q (aP G)<|Qn (Ws ?_)
 have aK:=(hL.lo bq).lo ao
 refine Wr (Q (mP G)<|Qc ent65 (c___spec_l1Cur__console aE L 0 0 bl aK oB oB) G ?_)
 rintro e dv ⟨q,z,t,s,A,u,h,cA,cz,rfl,ac,ae,ag,bm,cT,aO,aQ,aR,aT,ah⟩
 refine ⟨_,G,?_⟩
 have cX:=ah.size
 have cI:=ac.len
 have cJ:=ac.rd.bound
 have cK:=ae.len
 have cN:=ae.rd.bound
 refine Qa (l:=zCn) tz37 G ?_
 intro aj dw cG H cP bn
 have N:=nE (g:=aj) ac
 have O:=nE (g:=aj) ae
 refine Qw (o:=0) (vs:=(cCn q z t s A u h)) agg37.2 G G G G bn ler G ?_
 intro cC I cQ an
 refine Qn (Ws (Ws ?_))
 have aM:=(((bS.lo ao).kn ah).lo H).kn I
 have ai:=((aK.kn ah).lo H).kn I
 have J:=(ac.lo H).kd I N
 have K:=(ae.lo H).kd I O
 refine Wr (Q (mP G)<|Qc ent61 (c___spec_l1Cur__one cC L cA cz ((bm.lo H).kn I) ai oB oB 40 oD) G ?_)
 rintro e cD ⟨du,bE,bz,rfl,aG,cU,a⟩
 refine ⟨_,G,?_⟩
 have cY:=a.size
 have aF:=((((((lr w).lo bq).lo ao).new ah).lo H).new I).new a
 refine Qn (Wb G (fun bP=>?_) (fun bP=>?_))
 ·refine Ws (Wr (Q (r_build (vs:=[]) G bld35_)<|Qa (l:=[str ([]:List UInt8),str ([]:List UInt8),i6 0]) tz35 G ?_))
  intro ak dx cH C cR bo
  have aH:=nE (g:=ak) (J.kn a)
  have aJ:=nE (g:=ak) (K.kn a)
  refine Qw (o:=0) (vs:=[str ([]:List UInt8),str ([]:List UInt8),i6 0]) agg35.2 G G G G bo ler G ?_
  intro cE D cS bp
  refine Qn (Ws (Ws ?_))
  have aN:=((ai.kn a).lo C).kn D
  refine Wr (Q (mP G)<|Qc ent59 (c___spec_l1Cur__pick cE L bE bz ((aG.lo C).kn D) aN oB oB 2 oD) G ?_)
  rintro e dy ⟨cB,aD,aC,rfl,aX,ci,bX,B⟩
  refine ⟨_,G,?_⟩
  have cp:=B.size
  refine Q (r_add G G oB)<|Q (aI G)<|Qn (Wl (WL (σ:=Int × Log) (fun g=>[(2,pt g1),(3,str ([]:List UInt8)),(4,pt g9),(5,pt aj),(6,pt ak),(7,i6 g.1)]) (fun g w'=>(Lo w w')∧(Blk w' g1 37 zCn)∧(Blk w' g9 91 [.slice AL nL cL,i6 aD,.int .u64 aC])∧(SlR w' BL encB 1 AL nL cL L)∧(Blk w' aj 37 (cCn q z t s A u h))∧(SlO w' aE.heap.size encLMap 3 102 q z t h.Library.Maps)∧(SlO w' aE.heap.size encAway 2 129 s A u h.Library.Away)∧(Blk w' ak 35 [str g.2.Durable,str g.2.Pending,i6 g.2.Count])∧((0≤g.1∧g.1≤60)∧LogOK g.2)) (fun g=>g.1.toNat) (59+cB,(⟨([]:List UInt8),([]:List UInt8),0⟩:Log)) ?_ ?_ ?_))
  ·exact (At.r G)
  ·exact ⟨(((aF.lo C).new D).new B),(((aM.kn a).lo C).kn D).kn B,aX,aN.kn B,(((an.kn a).lo C).kn D).kn B,(((J.kn a).lo C).kd D aH).kn B,(((K.kn a).lo C).kd D aJ).kn B,(bp.kn B),(by (try dsimp only); exact ⟨oB,nil_log⟩)⟩
  ·rintro ⟨n,l⟩ bg p aW
   obtain ⟨P,Y,Z,aa,ab,E,F,M,S⟩:(Lo w p)∧(Blk p g1 37 zCn)∧(Blk p g9 91 [.slice AL nL cL,i6 aD,.int .u64 aC])∧(SlR p BL encB 1 AL nL cL L)∧(Blk p aj 37 (cCn q z t s A u h))∧(SlO p aE.heap.size encLMap 3 102 q z t h.Library.Maps)∧(SlO p aE.heap.size encAway 2 129 s A u h.Library.Away)∧(Blk p ak 35 [str l.Durable,str l.Pending,i6 l.Count])∧((0≤n∧n≤60)∧LogOK l):=aW
   refine (?_:W _ _ _ _ _ (act _ (sets bg [(2,pt g1),(3,str ([]:List UInt8)),(4,pt g9),(5,pt aj),(6,pt ak),(7,i6 n)])) _)
   have bO:=P.size
   have bT:=Y.lt
   have bU:=Z.lt
   have bV:=ab.lt
   have bW:=M.lt
   have bY:0≤n∧n≤60:=S.1
   have bZ:LogOK l:=S.2
   have b4:l.Durable.length+l.Pending.length≤24360∧0≤l.Count∧l.Count≤60:=log_rng S.2
   refine Ws (Ws (Wr (Q (mI G)<|Q (r_gt G G)<|Qn (Wd G (fun bh=>?_) (fun bh=>?_)))))
   ·refine Wk (Ws (Wl (Wr (Q (lG agg35 G M G)<|Q (r_build (vs:=[(0,str ([120]:List UInt8))]) G (bld71_0 _))<|Qv ent45 (c_spec_AppendRecord p l (⟨([120]:List UInt8),([]:List UInt8)⟩:LogRecord) oB oQ) G fun df i cq=>?_))))
    have b5:(appN l (⟨([120]:List UInt8),([]:List UInt8)⟩:LogRecord)).1.Durable.length+(appN l (⟨([120]:List UInt8),([]:List UInt8)⟩:LogRecord)).1.Pending.length≤l.Durable.length+l.Pending.length+406:=appN_len l (⟨([120]:List UInt8),([]:List UInt8)⟩:LogRecord)
    refine Q (mT G)<|Q (xG G G)<|Q (xI G G)<|Qw (o:=0) (vs:=[str (((appN l (⟨([120]:List UInt8),([]:List UInt8)⟩:LogRecord)).1).Durable),str (((appN l (⟨([120]:List UInt8),([]:List UInt8)⟩:LogRecord)).1).Pending),i6 (((appN l (⟨([120]:List UInt8),([]:List UInt8)⟩:LogRecord)).1).Count)]) agg35.2 G G G G (M.lo i) ler G ?_
    intro dg k ca aY
    refine Qn (Wr (Q (mI G)<|Q (r_sub G G oB)<|Q (aI G)<|Qn (⟨(n-1,((appN l (⟨([120]:List UInt8),([]:List UInt8)⟩:LogRecord)).1)),_,G,(At.r G),⟨((P.lo i).new k),((Y.lo i).kn k),((Z.lo i).kn k),((aa.lo i).kn k),((ab.lo i).kn k),((E.lo i).kd k aH),((F.lo i).kd k aJ),aY,?_⟩,?_⟩)))
    ·exact (by (try dsimp only); exact ⟨oB,appN_ok ‹LogOK _›⟩)
    ·exact oH
   ·refine Wx (xh (Wr (Q (lG agg35 G M G)<|Q (fA fa37_1 G)<|Qw (o:=5) (vs:=[str l.Durable,str l.Pending,i6 l.Count]) agg35.2 G G G G ab ler G ?_)))
    intro bH b cd R
    refine Qn (Ws (Wr (Q (mP G)<|Q (lG agg37 G R G)<|Qc ent60 (c___spec_l1Cur__command bH L aD aC (Z.kn b) (aa.kn b) oB oB (⟨h.Library,l⟩:Console) ((E.kd b N).rd) ((F.kd b O).rd) oB (by first | assumption | exact MapB.of (And.left (And.left ‹LibOK _›)) | exact MapB.app (MapB.of (And.left (And.left ‹LibOK _›))) oF | exact MapB.nil) (by first | assumption | exact AwayB.of ‹LibOK _› | exact AwayB.app (AwayB.of ‹LibOK _›) oF | exact AwayB.nil) ((E.kd b N).apart (nE (E.kd b N))) ((F.kd b O).apart (nE (F.kd b O)))) G ?_)))
    rintro e bI ⟨aU,bA,bs,rfl,aZ,cj,b6,j⟩
    refine ⟨_,G,?_⟩
    have cr:=j.size
    refine Q (aS G)<|Qn (Ws (Ws ?_))
    have ap:=(Y.kn b).kn j
    have aq:=(aa.kn b).kn j
    have ar:=(E.kd b N).kn j
    have au:=(F.kd b O).kn j
    refine Wr (Q (mP G)<|Qc ent61 (c___spec_l1Cur__one bI L bA bs aZ aq oB oB 8 oD) G ?_)
    rintro e bJ ⟨db,bB,bt,rfl,a6,ck,d⟩
    refine ⟨_,G,?_⟩
    have ct:=d.size
    have al:=((P.new b).new j).new d
    refine Qn (Wb G (fun bi=>?_) (fun bi=>?_))
    ·have bf:=(R.kn j).kn d
     refine Wr (Q (mP G)<|Q (mS G)<|Qc ent71 (c___spec_l1Cur__spoilt bJ L bB bt a6 (aq.kn d) oB oB aU ([32,48,49,97,64,35,44]:List UInt8) oD (by first | omega | decide | (simp; done))) G ?_)
     rintro e dh ⟨bF,c7,cZ,rfl,bQ,cl,b7,x⟩
     refine ⟨_,G,?_⟩
     have cu:=x.size
     refine Q (aS G)<|Qn (Ws (Wr (Q (lG agg37 G (bf.kn x) G)<|Q (mS G)<|Qw (o:=0) (vs:=[.slice q z t,.slice s A u,i6 h.Library.Bought,i6 h.Library.Dropped,i6 h.Library.Mended,str l.Durable,str l.Pending,i6 l.Count]) agg37.2 G G G G ((ap.kn d).kn x) ler G ?_)))
     intro di T ce a7
     refine Q (aS G)<|Qn (We (retCT G G agg37 a7 G (v:=str _) G ?_))
     refine ⟨q,z,t,s,A,u,(⟨h.Library,l⟩:Console),bF,eR (eT2 (eA G) G),(oq ((((ar.kn d).kn x).kn T).down) (by first | rfl | omega | grind)),(oq ((((au.kn d).kn x).kn T).down) (by first | rfl | omega | grind)),ag,oF,?_,?_,oF,oB,((al.new x).new T)⟩ <;> (first | assumption | (dsimp only; assumption))
    ·refine Wk (Ws (Wr (Q (lG agg37 G ((R.kn j).kn d) G)<|Q (mS G)<|Qw (o:=0) (vs:=[.slice q z t,.slice s A u,i6 h.Library.Bought,i6 h.Library.Dropped,i6 h.Library.Mended,str l.Durable,str l.Pending,i6 l.Count]) agg37.2 G G G G (ap.kn d) ler G ?_)))
     intro dk U cf a8
     refine Q (aS G)<|Qn (We (retCT G G agg37 a8 G (v:=str _) G ?_))
     refine ⟨q,z,t,s,A,u,(⟨h.Library,l⟩:Console),aU,eR (eT2 (eA G) G),(oq (((ar.kn d).kn U).down) (by first | rfl | omega | grind)),(oq (((au.kn d).kn U).down) (by first | rfl | omega | grind)),ag,oF,?_,?_,oF,oB,(al.new U)⟩ <;> (first | assumption | (dsimp only; assumption))
 ·refine Wk (Ws (Wr (Q (mP G)<|Q (lG agg37 G (an.kn a) G)<|Qc ent60 (c___spec_l1Cur__command cD L bE bz aG (ai.kn a) oB oB h ((J.kn a).rd) ((K.kn a).rd) oB (by first | assumption | exact MapB.of (And.left (And.left ‹LibOK _›)) | exact MapB.app (MapB.of (And.left (And.left ‹LibOK _›))) oF | exact MapB.nil) (by first | assumption | exact AwayB.of ‹LibOK _› | exact AwayB.app (AwayB.of ‹LibOK _›) oF | exact AwayB.nil) ((J.kn a).apart (nE (J.kn a))) ((K.kn a).apart (nE (K.kn a)))) G ?_)))
  rintro e bK ⟨aV,bC,bu,rfl,ba,cm,b8,m⟩
  refine ⟨_,G,?_⟩
  have cw:=m.size
  refine Q (aS G)<|Qn (Ws (Ws ?_))
  have aw:=(aM.kn a).kn m
  have ax:=(ai.kn a).kn m
  have ay:=(an.kn a).kn m
  have az:=(J.kn a).kn m
  have aA:=(K.kn a).kn m
  refine Wr (Q (mP G)<|Qc ent61 (c___spec_l1Cur__one bK L bC bu ba ax oB oB 8 oD) G ?_)
  rintro e bL ⟨de,bD,bw,rfl,bb,cn,f⟩
  refine ⟨_,G,?_⟩
  have cx:=f.size
  have am:=(aF.new m).new f
  refine Qn (Wb G (fun bj=>?_) (fun bj=>?_))
  ·refine Wr (Q (mP G)<|Q (mS G)<|Qc ent71 (c___spec_l1Cur__spoilt bL L bD bw bb (ax.kn f) oB oB aV ([32,48,49,97,64,35,44]:List UInt8) oD (by first | omega | decide | (simp; done))) G ?_)
   rintro e dm ⟨bG,da,c6,rfl,bR,co,b9,y⟩
   refine ⟨_,G,?_⟩
   have cy:=y.size
   refine Q (aS G)<|Qn (Ws (Wr (Q (lG agg37 G ((ay.kn f).kn y) G)<|Q (mS G)<|Qw (o:=0) (vs:=(cCn q z t s A u h)) agg37.2 G G G G ((aw.kn f).kn y) ler G ?_)))
   intro dn V cg bc
   refine Q (aS G)<|Qn (We (retCT G G agg37 bc G (v:=str _) G (⟨q,z,t,s,A,u,h,bG,eR (eT2 G G),((((az.kn f).kn y).kn V).down),((((aA.kn f).kn y).kn V).down),ag,aO,aQ,aR,aT,oB,((am.new y).new V)⟩)))
  ·refine Wk (Ws (Wr (Q (lG agg37 G (ay.kn f) G)<|Q (mS G)<|Qw (o:=0) (vs:=(cCn q z t s A u h)) agg37.2 G G G G (aw.kn f) ler G ?_)))
   intro dp X ch be
   refine Q (aS G)<|Qn (We (retCT G G agg37 be G (v:=str _) G (⟨q,z,t,s,A,u,h,aV,eR (eT2 G G),(((az.kn f).kn X).down),(((aA.kn f).kn X).down),ag,aO,aQ,aR,aT,oB,(am.new X)⟩)))
theorem c_laws_vBig (w:World)  (L:List UInt8) (hL:SlR w BL encB 1 AL nL cL L):Calls Tryz.prog 21 #[.slice AL nL cL] w fun e w'=>e=.returned (.bool (decide (65536<(L.length:Int))))∧Lo w w':=by
 refine cW 6 Tryz.func21 G G G ?_
 have hbdL:=hL.bound
 have hleL:=hL.len
 have hBbL:=hL.bd
 refine Ws (Wr (Q (aB G)<|Qn (Ws (Wr (Q (mL G)<|Q (r_len und49 G)<|Q (r_gt G G)<|Q (aB G)<|Qn (We (ret1 G (v:=.bool _) G (⟨eR (eDD oB),(lr w)⟩))))))))
end Go.Proofs.YtndcchndcghmoaaGreatDoor
namespace Go.Proofs.YtndcchndcghmoaaGreatDoor
open Go Go.RowKit Fw
set_option maxRecDepth 10000
set_option maxHeartbeats 2000000
set_option linter.unusedVariables false
variable {AL AM Aa1 Aa2 Ab1 Ab2 Aa_Library_Maps Aa_Library_Away Ab_Library_Maps Ab_Library_Away : Option Addr} {nL cL BL nM cM BM na1 ca1 Ba1 na2 ca2 Ba2 nb1 cb1 Bb1 nb2 cb2 Bb2 na_Library_Maps ca_Library_Maps Ba_Library_Maps na_Library_Away ca_Library_Away Ba_Library_Away nb_Library_Maps cb_Library_Maps Bb_Library_Maps nb_Library_Away cb_Library_Away Bb_Library_Away : Nat}
theorem ent116:Ent Tryz.prog 116:=en Tryz.func116
theorem ent117:Ent Tryz.prog 117:=en Tryz.func117
theorem ent68:Ent Tryz.prog 68:=en Tryz.func68
theorem eqg102:Tryz.prog.eqGuardType Tryz.prog.depth 102=false:=by kernel_rfl
theorem eqg129:Tryz.prog.eqGuardType Tryz.prog.depth 129=false:=by kernel_rfl
theorem eqg35:Tryz.prog.eqGuardType Tryz.prog.depth 35=false:=by kernel_rfl
theorem eql102 (a b:LMap) (w:World):(binOp .eql 102 (.agg (List.toArray (encLMap a))) (.agg (List.toArray (encLMap b)))).run Tryz.prog w=.ok (.bool (decide (a=b))) w:=by
 have u3:=Tryz.underlying3
 have a3:=Tryz.isAgg3
 have z3:=Tryz.sizeOf3
 have hS:Tryz.prog.underlying 102=some (.struct (Tryz.prog.fieldsOf 102)):=by kernel_rfl
 have hp:Tryz.prog.stoodInHeld 102=false:=by kernel_rfl
 have hd:(a=b)↔a.Id=b.Id∧a.Copies=b.Copies∧a.Torn=b.Torn:=by cases a; cases b; simp
 simp only [encLMap,hd]
 rw [run_eql_struct,show (10000:Nat)=9999+1 from rfl,run_equalIn_agg w 9999 102 _ _ hS hp]
 simp only [Program.fieldsOf,Tryz.underlying102]
 go_simp
 skip
 by_cases h0:a.Id=b.Id <;> by_cases h1:a.Copies=b.Copies <;> by_cases h2:a.Torn=b.Torn <;> simp [h0,h1,h2]
theorem eql129 (a b:Away) (w:World):(binOp .eql 129 (.agg (List.toArray (encAway a))) (.agg (List.toArray (encAway b)))).run Tryz.prog w=.ok (.bool (decide (a=b))) w:=by
 have u3:=Tryz.underlying3
 have a3:=Tryz.isAgg3
 have z3:=Tryz.sizeOf3
 have hS:Tryz.prog.underlying 129=some (.struct (Tryz.prog.fieldsOf 129)):=by kernel_rfl
 have hp:Tryz.prog.stoodInHeld 129=false:=by kernel_rfl
 have hd:(a=b)↔a.Map=b.Map∧a.Reader=b.Reader:=by cases a; cases b; simp
 simp only [encAway,hd]
 rw [run_eql_struct,show (10000:Nat)=9999+1 from rfl,run_equalIn_agg w 9999 129 _ _ hS hp]
 simp only [Program.fieldsOf,Tryz.underlying129]
 go_simp
 skip
 by_cases h0:a.Map=b.Map <;> by_cases h1:a.Reader=b.Reader <;> simp [h0,h1]
theorem eql35 (a b:Log) (w:World):(binOp .eql 35 (.agg (List.toArray (encLog a))) (.agg (List.toArray (encLog b)))).run Tryz.prog w=.ok (.bool (decide (a=b))) w:=by
 have u3:=Tryz.underlying3
 have a3:=Tryz.isAgg3
 have z3:=Tryz.sizeOf3
 have u9:=Tryz.underlying9
 have a9:=Tryz.isAgg9
 have z9:=Tryz.sizeOf9
 have q9:=eqin_str (P:=Tryz.prog) u9
 have hS:Tryz.prog.underlying 35=some (.struct (Tryz.prog.fieldsOf 35)):=by kernel_rfl
 have hp:Tryz.prog.stoodInHeld 35=false:=by kernel_rfl
 have hd:(a=b)↔a.Durable=b.Durable∧a.Pending=b.Pending∧a.Count=b.Count:=by cases a; cases b; simp
 simp only [encLog,hd]
 rw [run_eql_struct,show (10000:Nat)=9999+1 from rfl,run_equalIn_agg w 9999 35 _ _ hS hp]
 simp only [Program.fieldsOf,Tryz.underlying35]
 go_simp
 try simp only [q9,Result.andThen_ok]
 by_cases h0:a.Durable=b.Durable <;> by_cases h1:a.Pending=b.Pending <;> by_cases h2:a.Count=b.Count <;> simp [h0,h1,h2]
theorem c_laws_vMaps (w:World)  (L:List LMap) (hL:SlR w BL encLMap 3 AL nL cL L)  (M:List LMap) (hM:SlR w BM encLMap 3 AM nM cM M):Calls Tryz.prog 116 #[.slice AL nL cL,.slice AM nM cM] w fun e w'=>e=.returned (.bool (decide (L=M)))∧Lo w w':=by
 refine cW 26 Tryz.func116 G G G ?_
 have hbdL:=hL.bound
 have hleL:=hL.len
 have hBbL:=hL.bd
 have hbdM:=hM.bound
 have hleM:=hM.len
 have hBbM:=hM.bd
 refine Ws (Wr (Q (aB G)<|Qn (Ws (Ws (Wr (Q (mL G)<|Q (r_len und31 G)<|Q (mL G)<|Q (r_len und31 G)<|Q (r_ne G G)<|Qn (Wz G (fun t=>?_) (fun t=>?_))))))))
 ·refine Ws (Wr (Q (aB G)<|Qn (We (ret1 G (v:=.bool _) G (⟨eR (eDF (by first | (intro e; subst e; omega) | exact ne_at ‹L[_]?=some _› ‹M[_]?=some _› ‹_› | exact take_end (And.right ‹_∧L.take _=M.take _›) hleL hleM oB ‹_›)),(lr w)⟩)))))
 ·refine Wk (Ws (Ws (Wr (Q (aI G)<|Qn (Wl (WL (σ:=Nat) (fun g=>[(0,.slice AL nL cL),(1,.slice AM nM cM),(5,i6 (g:Int))]) (fun g w'=>(Lo w w')∧(SlR w' BL encLMap 3 AL nL cL L)∧(SlR w' BM encLMap 3 AM nM cM M)∧(g≤nL∧L.take g=M.take g)) (fun g=>nL-g) 0 ?_ ?_ ?_))))))
  ·exact (At.r G)
  ·exact ⟨(lr w),hL,hM,oS⟩
  ·rintro k s o n
   obtain ⟨f,b,c,x⟩:(Lo w o)∧(SlR o BL encLMap 3 AL nL cL L)∧(SlR o BM encLMap 3 AM nM cM M)∧(k≤nL∧L.take k=M.take k):=n
   refine (?_:W _ _ _ _ _ (act _ (sets s [(0,.slice AL nL cL),(1,.slice AM nM cM),(5,i6 (k:Int))])) _)
   have q:=f.size
   refine Ws (Ws (Wr (Q (mI G)<|Q (mL G)<|Q (r_len und31 G)<|Q (r_lt G G)<|Qn (Wd G (fun u=>?_) (fun u=>?_)))))
   ·refine Wk (Ws (Wl (Ws (W.regD mo oC (Rq (fun w' hw'=>mL G)<|Rq (fun w' hw'=>mI G)<|?_)))))
    have h:=b.elem (i:=k) oB
    refine Rq (fun w' hw'=>rX tsl31 (b.lo hw') G G oB)<|Rq (fun w' hw'=>r_lda (l:=encLMap (gt L k)) agg102 G (fun _ _ hu=>(b.lo hw').cell h hu) ((b.lo hw').esz _))<|Rq (fun w' hw'=>mL G)<|Rq (fun w' hw'=>mI G)<|?_
    have j:=c.elem (i:=k) oB
    refine Rq (fun w' hw'=>rX tsl31 (c.lo hw') G G oB)<|Rq (fun w' hw'=>r_lda (l:=encLMap (gt M k)) agg102 G (fun _ _ hu=>(c.lo hw').cell j hu) ((c.lo hw').esz _))<|Rq (fun w' hw'=>r_neA (l:=encLMap (gt L k)) (r:=encLMap (gt M k)) G G eqg102 (eql102 (gt L k) (gt M k)))<|QR.nil ?_
    intro y a
    have p:=a.size
    have d:=f.lo a
    refine Wz G (fun m=>?_) (fun m=>?_)
    ·refine Ws (Wr (Q (aB G)<|Qn (We (ret1 G (v:=.bool _) G (⟨eR (eDF (by first | (intro e; subst e; omega) | exact ne_at ‹L[_]?=some _› ‹M[_]?=some _› ‹_› | exact take_end (And.right ‹_∧L.take _=M.take _›) hleL hleM oB ‹_›)),d⟩)))))
    ·refine Wk (Wr (Q (mI G)<|Q (r_add G G oB)<|Q (aI G)<|Qn (⟨k+1,_,G,(At.r G),⟨d,b.lo a,c.lo a,?_⟩,?_⟩)))
     ·exact (by exact ⟨oB,take_next (And.right ‹_∧L.take _=M.take _›) ‹L[_]?=some _› ‹M[_]?=some _› oJ⟩)
     ·exact oB
   ·refine Wx (xh (Ws (Wr (Q (aB G)<|Qn (We (ret1 G (v:=.bool _) G (⟨eR (eDT (by first | (intro e; subst e; omega) | exact ne_at ‹L[_]?=some _› ‹M[_]?=some _› ‹_› | exact take_end (And.right ‹_∧L.take _=M.take _›) hleL hleM oB ‹_›)),f⟩)))))))
theorem c_laws_vAway (w:World)  (L:List Away) (hL:SlR w BL encAway 2 AL nL cL L)  (M:List Away) (hM:SlR w BM encAway 2 AM nM cM M):Calls Tryz.prog 117 #[.slice AL nL cL,.slice AM nM cM] w fun e w'=>e=.returned (.bool (decide (L=M)))∧Lo w w':=by
 refine cW 26 Tryz.func117 G G G ?_
 have hbdL:=hL.bound
 have hleL:=hL.len
 have hBbL:=hL.bd
 have hbdM:=hM.bound
 have hleM:=hM.len
 have hBbM:=hM.bd
 refine Ws (Wr (Q (aB G)<|Qn (Ws (Ws (Wr (Q (mL G)<|Q (r_len und32 G)<|Q (mL G)<|Q (r_len und32 G)<|Q (r_ne G G)<|Qn (Wz G (fun t=>?_) (fun t=>?_))))))))
 ·refine Ws (Wr (Q (aB G)<|Qn (We (ret1 G (v:=.bool _) G (⟨eR (eDF (by first | (intro e; subst e; omega) | exact ne_at ‹L[_]?=some _› ‹M[_]?=some _› ‹_› | exact take_end (And.right ‹_∧L.take _=M.take _›) hleL hleM oB ‹_›)),(lr w)⟩)))))
 ·refine Wk (Ws (Ws (Wr (Q (aI G)<|Qn (Wl (WL (σ:=Nat) (fun g=>[(0,.slice AL nL cL),(1,.slice AM nM cM),(5,i6 (g:Int))]) (fun g w'=>(Lo w w')∧(SlR w' BL encAway 2 AL nL cL L)∧(SlR w' BM encAway 2 AM nM cM M)∧(g≤nL∧L.take g=M.take g)) (fun g=>nL-g) 0 ?_ ?_ ?_))))))
  ·exact (At.r G)
  ·exact ⟨(lr w),hL,hM,oS⟩
  ·rintro k s o n
   obtain ⟨f,b,c,x⟩:(Lo w o)∧(SlR o BL encAway 2 AL nL cL L)∧(SlR o BM encAway 2 AM nM cM M)∧(k≤nL∧L.take k=M.take k):=n
   refine (?_:W _ _ _ _ _ (act _ (sets s [(0,.slice AL nL cL),(1,.slice AM nM cM),(5,i6 (k:Int))])) _)
   have q:=f.size
   refine Ws (Ws (Wr (Q (mI G)<|Q (mL G)<|Q (r_len und32 G)<|Q (r_lt G G)<|Qn (Wd G (fun u=>?_) (fun u=>?_)))))
   ·refine Wk (Ws (Wl (Ws (W.regD mo oC (Rq (fun w' hw'=>mL G)<|Rq (fun w' hw'=>mI G)<|?_)))))
    have h:=b.elem (i:=k) oB
    refine Rq (fun w' hw'=>rX tsl32 (b.lo hw') G G oB)<|Rq (fun w' hw'=>r_lda (l:=encAway (gt L k)) agg129 G (fun _ _ hu=>(b.lo hw').cell h hu) ((b.lo hw').esz _))<|Rq (fun w' hw'=>mL G)<|Rq (fun w' hw'=>mI G)<|?_
    have j:=c.elem (i:=k) oB
    refine Rq (fun w' hw'=>rX tsl32 (c.lo hw') G G oB)<|Rq (fun w' hw'=>r_lda (l:=encAway (gt M k)) agg129 G (fun _ _ hu=>(c.lo hw').cell j hu) ((c.lo hw').esz _))<|Rq (fun w' hw'=>r_neA (l:=encAway (gt L k)) (r:=encAway (gt M k)) G G eqg129 (eql129 (gt L k) (gt M k)))<|QR.nil ?_
    intro y a
    have p:=a.size
    have d:=f.lo a
    refine Wz G (fun m=>?_) (fun m=>?_)
    ·refine Ws (Wr (Q (aB G)<|Qn (We (ret1 G (v:=.bool _) G (⟨eR (eDF (by first | (intro e; subst e; omega) | exact ne_at ‹L[_]?=some _› ‹M[_]?=some _› ‹_› | exact take_end (And.right ‹_∧L.take _=M.take _›) hleL hleM oB ‹_›)),d⟩)))))
    ·refine Wk (Wr (Q (mI G)<|Q (r_add G G oB)<|Q (aI G)<|Qn (⟨k+1,_,G,(At.r G),⟨d,b.lo a,c.lo a,?_⟩,?_⟩)))
     ·exact (by exact ⟨oB,take_next (And.right ‹_∧L.take _=M.take _›) ‹L[_]?=some _› ‹M[_]?=some _› oJ⟩)
     ·exact oB
   ·refine Wx (xh (Ws (Wr (Q (aB G)<|Qn (We (ret1 G (v:=.bool _) G (⟨eR (eDT (by first | (intro e; subst e; omega) | exact ne_at ‹L[_]?=some _› ‹M[_]?=some _› ‹_› | exact take_end (And.right ‹_∧L.take _=M.take _›) hleL hleM oB ‹_›)),f⟩)))))))
theorem c_laws_vLibrary (w:World) (a:Library) (m:SlR w Ba1 encLMap 3 Aa1 na1 ca1 a.Maps) (n:SlR w Ba2 encAway 2 Aa2 na2 ca2 a.Away) (b:Library) (o:SlR w Bb1 encLMap 3 Ab1 nb1 cb1 b.Maps) (p:SlR w Bb2 encAway 2 Ab2 nb2 cb2 b.Away):Calls Tryz.prog 68 #[.agg (List.toArray (cLb Aa1 na1 ca1 Aa2 na2 ca2 a)),.agg (List.toArray (cLb Ab1 nb1 cb1 Ab2 nb2 cb2 b))] w fun e w'=>e=.returned (.bool (decide (a=b)))∧Lo w w':=by
 refine cW 38 Tryz.func68 G G G ?_
 have A:=m.bound
 have E:=m.len
 have u:=m.bd
 have B:=n.bound
 have F:=n.len
 have x:=n.bd
 have C:=o.bound
 have H:=o.len
 have y:=o.bd
 have D:=p.bound
 have I:=p.len
 have z:=p.bd
 refine Ws (Wr (bx G ?_))
 intro V X R k S j
 refine bx G ?_
 intro W t K f L g
 refine Q (aB G)<|Qn (Ws (WJ (fun f' w'=>At f' [(4,.bool (decide ((a.Maps=b.Maps)∧((a.Away=b.Away)∧((a.Bought=b.Bought)∧((a.Dropped=b.Dropped)∧(a.Mended=b.Mended)))))))]∧Lo t w') ?_ ?_))
 ·refine Q (fA fa34_0 G)<|Q (lB sca31 G (j.lo f) G)<|Q (fA fa34_0 G)<|Q (lB sca31 G g G)<|Qv ent116 (c_laws_vMaps t a.Maps ((m.lo k).lo f) b.Maps ((o.lo k).lo f)) G fun J c M=>(Q (mB G)<|QD (fun h=>?_) (fun h=>?_))
  ·refine Qg (fA fa34_1 G)<|Qg (lB sca32 G ((j.lo f).lo c) G)<|Qg (fA fa34_1 G)<|Qg (lB sca32 G (g.lo c) G)<|SR.gcall G ent117 (c_laws_vAway J a.Away (((n.lo k).lo f).lo c) b.Away (((p.lo k).lo f).lo c)) G ?_
   rintro e T ⟨rfl,d⟩
   refine ⟨_,G,?_⟩
   have N:=d.size
   refine Q (pT G G)<|Q (mB G)<|QD (fun i=>?_) (fun i=>?_)
   ·refine Qg (fA fa34_2 G)<|Qg (lB sca3 G (((j.lo f).lo c).lo d) G)<|Qg (fA fa34_2 G)<|Qg (lB sca3 G ((g.lo c).lo d) G)<|Qg (r_eq G G)<|Q (pT G G)<|Q (mB G)<|QD (fun l=>?_) (fun l=>?_)
    ·refine Qg (fA fa34_3 G)<|Qg (lB sca3 G (((j.lo f).lo c).lo d) G)<|Qg (fA fa34_3 G)<|Qg (lB sca3 G ((g.lo c).lo d) G)<|Qg (r_eq G G)<|Q (pT G G)<|Q (mB G)<|QD (fun r=>?_) (fun r=>?_)
     ·refine Qg (fA fa34_4 G)<|Qg (lB sca3 G (((j.lo f).lo c).lo d) G)<|Qg (fA fa34_4 G)<|Qg (lB sca3 G ((g.lo c).lo d) G)<|Qg (r_eq G G)<|Q (pT G G)<|Q (aB G)<|Qn (⟨_,G,⟨⟨(eDD ((((jat r).trans (jat l)).trans (jat i)).trans (jat h))),trivial⟩,(c.trans d)⟩⟩)
     ·refine Qs<|Qs<|Qs<|Qs<|Qs<|Q (pF G G)<|Q (aB G)<|Qn (⟨_,G,⟨⟨(eDF ((((jaf r).trans (jat l)).trans (jat i)).trans (jat h)).2),trivial⟩,(c.trans d)⟩⟩)
    ·refine Qs<|Qs<|Qs<|Qs<|Qs<|Q (pF G G)<|Q (mB G)<|Qs<|Qs<|Qs<|Qs<|Qs<|Q (pF G G)<|Q (aB G)<|Qn (⟨_,G,⟨⟨(eDF (((jaf l).trans (jat i)).trans (jat h)).2),trivial⟩,(c.trans d)⟩⟩)
   ·refine Qs<|Qs<|Qs<|Qs<|Qs<|Q (pF G G)<|Q (mB G)<|Qs<|Qs<|Qs<|Qs<|Qs<|Q (pF G G)<|Q (mB G)<|Qs<|Qs<|Qs<|Qs<|Qs<|Q (pF G G)<|Q (aB G)<|Qn (⟨_,G,⟨⟨(eDF ((jaf i).trans (jat h)).2),trivial⟩,(c.trans d)⟩⟩)
  ·refine Qs<|Qs<|Qs<|Qs<|Qs<|Q (pF G G)<|Q (mB G)<|Qs<|Qs<|Qs<|Qs<|Qs<|Q (pF G G)<|Q (mB G)<|Qs<|Qs<|Qs<|Qs<|Qs<|Q (pF G G)<|Q (mB G)<|Qs<|Qs<|Qs<|Qs<|Qs<|Q (pF G G)<|Q (aB G)<|Qn (⟨_,G,⟨⟨(eDF (jaf h).2),trivial⟩,c⟩⟩)
 rintro P U ⟨s,q⟩
 rw [← sA s]
 have O:=q.size
 refine We (ret1 G (v:=.bool _) G (⟨eR (eDD (by cases a; cases b; simp_all)),((((lr w).lo k).lo f).lo q)⟩))
theorem c_laws_vConsole (w:World) (a:Console) (ha_Library_Maps:SlR w Ba_Library_Maps encLMap 3 Aa_Library_Maps na_Library_Maps ca_Library_Maps a.Library.Maps) (ha_Library_Away:SlR w Ba_Library_Away encAway 2 Aa_Library_Away na_Library_Away ca_Library_Away a.Library.Away) (b:Console) (hb_Library_Maps:SlR w Bb_Library_Maps encLMap 3 Ab_Library_Maps nb_Library_Maps cb_Library_Maps b.Library.Maps) (hb_Library_Away:SlR w Bb_Library_Away encAway 2 Ab_Library_Away nb_Library_Away cb_Library_Away b.Library.Away):Calls Tryz.prog 28 #[.agg (List.toArray (cCn Aa_Library_Maps na_Library_Maps ca_Library_Maps Aa_Library_Away na_Library_Away ca_Library_Away a)),.agg (List.toArray (cCn Ab_Library_Maps nb_Library_Maps cb_Library_Maps Ab_Library_Away nb_Library_Away cb_Library_Away b))] w fun e w'=>e=.returned (.bool (decide (a=b)))∧Lo w w':=by
 refine cW 17 Tryz.func28 G G G ?_
 have hbda_Library_Maps:=ha_Library_Maps.bound
 have hlea_Library_Maps:=ha_Library_Maps.len
 have hBba_Library_Maps:=ha_Library_Maps.bd
 have hbda_Library_Away:=ha_Library_Away.bound
 have hlea_Library_Away:=ha_Library_Away.len
 have hBba_Library_Away:=ha_Library_Away.bd
 have hbdb_Library_Maps:=hb_Library_Maps.bound
 have hleb_Library_Maps:=hb_Library_Maps.len
 have hBbb_Library_Maps:=hb_Library_Maps.bd
 have hbdb_Library_Away:=hb_Library_Away.bound
 have hleb_Library_Away:=hb_Library_Away.len
 have hBbb_Library_Away:=hb_Library_Away.bd
 refine Ws (Wr (bx G ?_))
 intro z B t f u k
 refine bx G ?_
 intro A m n c o g
 refine Q (aB G)<|Qn (Ws (WJ (fun f' w'=>At f' [(4,.bool (decide ((a.Library=b.Library)∧(a.Log=b.Log))))]∧Lo m w') ?_ ?_))
 ·refine Q (fA fa37_0 G)<|Q (r_lda (l:=(cLb Aa_Library_Maps na_Library_Maps ca_Library_Maps Aa_Library_Away na_Library_Away ca_Library_Away a.Library)) agg34 G (fun _ _ hu=>(k.lo c).cells (vs:=(cLb Aa_Library_Maps na_Library_Maps ca_Library_Maps Aa_Library_Away na_Library_Away ca_Library_Away a.Library)) G hu) G)<|Q (fA fa37_0 G)<|Q (r_lda (l:=(cLb Ab_Library_Maps nb_Library_Maps cb_Library_Maps Ab_Library_Away nb_Library_Away cb_Library_Away b.Library)) agg34 G (fun _ _ hu=>g.cells (vs:=(cLb Ab_Library_Maps nb_Library_Maps cb_Library_Maps Ab_Library_Away nb_Library_Away cb_Library_Away b.Library)) G hu) G)<|Qv ent68 (c_laws_vLibrary m a.Library ((ha_Library_Maps.lo f).lo c) ((ha_Library_Away.lo f).lo c) b.Library ((hb_Library_Maps.lo f).lo c) ((hb_Library_Away.lo f).lo c)) G fun x d p=>(Q (mB G)<|QD (fun i=>?_) (fun i=>?_))
  ·refine Qg (fA fa37_1 G)<|Qg (r_lda (l:=[str a.Log.Durable,str a.Log.Pending,i6 a.Log.Count]) agg35 G (fun _ _ hu=>((k.lo c).lo d).cells (vs:=[str a.Log.Durable,str a.Log.Pending,i6 a.Log.Count]) G hu) G)<|Qg (fA fa37_1 G)<|Qg (r_lda (l:=[str b.Log.Durable,str b.Log.Pending,i6 b.Log.Count]) agg35 G (fun _ _ hu=>(g.lo d).cells (vs:=[str b.Log.Durable,str b.Log.Pending,i6 b.Log.Count]) G hu) G)<|Qg (r_eqA (l:=encLog a.Log) (r:=encLog b.Log) G G eqg35 (eql35 a.Log b.Log))<|Q (pT G G)<|Q (aB G)<|Qn (⟨_,G,⟨⟨(eDD (jat i)),trivial⟩,d⟩⟩)
  ·refine Qs<|Qs<|Qs<|Qs<|Qs<|Q (pF G G)<|Q (aB G)<|Qn (⟨_,G,⟨⟨(eDF (jaf i).2),trivial⟩,d⟩⟩)
 rintro s y ⟨j,h⟩
 rw [← sA j]
 have q:=h.size
 refine We (ret1 G (v:=.bool _) G (⟨eR (eDD (by cases a; cases b; simp_all)),((((lr w).lo f).lo c).lo h)⟩))
end Go.Proofs.YtndcchndcghmoaaGreatDoor
namespace Go.Proofs.YtndcchndcghmoaaGreatDoor
open Go Go.RowKit Fw
set_option maxRecDepth 10000
set_option maxHeartbeats 2000000
set_option linter.unusedVariables false
variable {AL : Option Addr} {nL cL BL : Nat}
theorem ent21:Ent Tryz.prog 21:=en Tryz.func21
theorem ent28:Ent Tryz.prog 28:=en Tryz.func28
theorem ent34:Ent Tryz.prog 34:=en Tryz.func34
theorem ent36:Ent Tryz.prog 36:=en Tryz.func36
theorem eqg71:Tryz.prog.eqGuardType Tryz.prog.depth 71=false:=by kernel_rfl
theorem eql71 (a b:LogRecord) (w:World):(binOp .eql 71 (.agg (List.toArray (encLogRecord a))) (.agg (List.toArray (encLogRecord b)))).run Tryz.prog w=.ok (.bool (decide (a=b))) w:=by
 have u9:=Tryz.underlying9
 have a9:=Tryz.isAgg9
 have z9:=Tryz.sizeOf9
 have q9:=eqin_str (P:=Tryz.prog) u9
 have hS:Tryz.prog.underlying 71=some (.struct (Tryz.prog.fieldsOf 71)):=by kernel_rfl
 have hp:Tryz.prog.stoodInHeld 71=false:=by kernel_rfl
 have hd:(a=b)↔a.Command=b.Command∧a.Reply=b.Reply:=by cases a; cases b; simp
 simp only [encLogRecord,hd]
 rw [run_eql_struct,show (10000:Nat)=9999+1 from rfl,run_equalIn_agg w 9999 71 _ _ hS hp]
 simp only [Program.fieldsOf,Tryz.underlying71]
 go_simp
 try simp only [q9,Result.andThen_ok]
 by_cases h0:a.Command=b.Command <;> by_cases h1:a.Reply=b.Reply <;> simp [h0,h1]
theorem und4:Tryz.prog.underlying 4=some (.bool):=by kernel_rfl
theorem c_laws_FnConsole (w:World)  (L:List UInt8) (hL:SlR w BL encB 1 AL nL cL L) (hE:EnvW w):Calls Tryz.prog 7 #[.slice AL nL cL] w fun e w'=>e=.returned (.bool true)∧Lo w w':=by
 refine cW 98 Tryz.func7 G G G ?_
 have hbdL:=hL.bound
 have hleL:=hL.len
 have hBbL:=hL.bd
 refine Ws (Wr (Q (aB G)<|Qn (Ws (Ws (Wr (Q (mL G)<|Qv ent21 (c_laws_vBig w L hL) G fun w1 aQ cu=>?_))))))
 have aK:=(lr w).lo aQ
 refine Qn (Wd G (fun h5=>?_) (fun h5=>?_))
 ·refine Ws (Wr (Q (aB G)<|Qn (We (ret1 G (v:=.bool _) G (⟨eR G,aK⟩)))))
 ·refine Wk (Ws (Wr (Q (mL G)<|Qc ent34 (c_spec_DrawExecuteCommand w1 L (hL.lo aQ) oB) G ?_)))
  rintro e w6 ⟨A8,n9,aZ,aU,bD,a6,a,d,rfl,O,P,bP,b5,b6,b7,b8,b9,aR⟩
  refine ⟨_,G,?_⟩
  have ci:=aR.size
  have bT:=O.len
  have bU:=O.rd.bound
  have bV:=P.len
  have bW:=P.rd.bound
  have ca:ConLaw a d:=con_law a d
  refine Q (mT G)<|Q (xG G G)<|Q (xS G G)<|Qa (l:=zCn) tz37 G ?_
  intro ap cy bR ah ce aM
  refine Qw (o:=0) (vs:=(cCn A8 n9 aZ aU bD a6 a)) agg37.2 G G G G aM ler G ?_
  intro bI ai cf ay
  have ax:=((aK.lo aR).lo ah).new ai
  refine Q (aS G)<|Qn (Ws ?_)
  have aj:=(O.lo ah).kd ai (nE (g:=ap) O)
  have ak:=(P.lo ah).kd ai (nE (g:=ap) P)
  refine Wr (Q (lG agg37 G ay G)<|Q (mS G)<|Qc ent12 (c_impl_ExecuteCommand bI a (aj.rd) (ak.rd) d oB oB (hE.lo ax)) G ?_)
  rintro e cz ⟨aV,bE,a7,aW,bF,a8,rfl,R,S,bQ,u⟩
  refine ⟨_,G,?_⟩
  have cj:=u.size
  have bX:=R.len
  have bY:=R.rd.bound
  have bZ:=S.len
  have b4:=S.rd.bound
  have cd:((execN a d).1.Library.Maps.length≤1048576∧(execN a d).1.Library.Away.length≤1048576)∧(execN a d).1.Log.Durable.length+(execN a d).1.Log.Pending.length≤120406:=exec_sml (c:=a) (s:=d) (b:=120000) ⟨oB,oB⟩
  refine Q (mT G)<|Q (xG G G)<|Q (xS G G)<|Qa (l:=zCn) tz37 G ?_
  intro V cA bS A cg aN
  refine Qw (o:=0) (vs:=(cCn aV bE a7 aW bF a8 ((execN a d).1))) agg37.2 G G G G aN ler G ?_
  intro bJ B ch aO
  refine Q (aS G)<|Qn (Ws ?_)
  have az:=((ay.lo u).lo A).kn B
  have al:=((aj.lo u).lo A).kd B (nE (g:=V) (aj.lo u))
  have am:=((ak.lo u).lo A).kd B (nE (g:=V) (ak.lo u))
  have aA:=(R.lo A).kd B (nE (g:=V) R)
  have aC:=(S.lo A).kd B (nE (g:=V) S)
  refine Wr (Q (lG agg37 G az G)<|Q (mS G)<|Qc ent10 (c_spec_ExecuteCommand bJ a (al.rd) (am.rd) d oB oB) G ?_)
  rintro e cB ⟨aX,bG,ba,aY,bH,bb,rfl,T,U,bc,n⟩
  refine ⟨_,G,?_⟩
  have bt:=n.size
  have bf:=T.len
  have bg:=T.rd.bound
  have bh:=U.len
  have bi:=U.rd.bound
  refine Q (mT G)<|Q (xG G G)<|Q (xS G G)<|Qa (l:=zCn) tz37 G ?_
  intro z ck be j bq aE
  refine Qw (o:=0) (vs:=(cCn aX bG ba aY bH bb ((execN a d).1))) agg37.2 G G G G aE ler G ?_
  intro aT k bs aF
  have ab:=(((((ax.lo u).lo A).new B).lo n).lo j).new k
  refine Q (aS G)<|Qn (Ws (Ws ?_))
  have x:=((az.lo n).lo j).kn k
  have H:=((al.lo n).lo j).kd k (nE (g:=z) (al.lo n))
  have I:=((am.lo n).lo j).kd k (nE (g:=z) (am.lo n))
  have y:=((aO.lo n).lo j).kn k
  have J:=((aA.lo n).lo j).kd k (nE (g:=z) (aA.lo n))
  have K:=((aC.lo n).lo j).kd k (nE (g:=z) (aC.lo n))
  refine W.regJD mo oC (fun f' w'=>At f' [(2,.bool false),(3,pt ap),(4,str d),(5,pt V),(6,str ((execN a d).2)),(45,.bool (decide (¬(((execN a d).1)=((execN a d).1)))))]∧Lo aT w') ?_ ?_
  ·refine Rq (fun w' hw'=>mS G)<|Rq (fun w' hw'=>mS G)<|Rq (fun w' hw'=>r_nes_s (s:=(execN a d).2) G G)<|Rq (fun w' hw'=>mB G)<|Rg G (fun w' hw'=>lG agg37 G (y.lo hw') G)<|Rg G (fun w' hw'=>lG agg37 G (aF.lo hw') G)<|QR.gcall G ent28 (fun w' hw'=>(c_laws_vConsole w' ((execN a d).1) ((J.lo hw').rd) ((K.lo hw').rd) ((execN a d).1) ((((T.lo j).kd k (nE (g:=z) T)).lo hw').rd) ((((U.lo j).kd k (nE (g:=z) U)).lo hw').rd)).mono fun _ _ h=>⟨h.1,hw'.trans h.2⟩) G<|Rg G (fun w' hw'=>rN G)<|Rq (fun w' hw'=>pF G G)<|Rq (fun w' hw'=>mB G)<|QR.splitN (fun X=>?_) (fun X=>?_)
   ·refine Rs G<|Rs G<|Rs G<|Rs G<|Rs G<|Rq (fun w' hw'=>pT G G)<|QR.nil ?_
    intro cl aG
    exact ⟨⟨G,G,G,G,G,(eDT ((j2f X).1 trivial)),trivial⟩,aG⟩
   ·refine Rg G (fun w' hw'=>lG agg37 G (x.lo hw') G)<|QR.gcall G ent35 (fun w' hw'=>(c_impl_IsValidConsole w' a ((H.lo hw').rd) ((I.lo hw').rd) oB (hE.lo (ab.trans hw'))).mono fun _ _ h=>⟨h.1,hw'.trans h.2⟩) G<|Rg G (fun w' hw'=>lG agg37 G (x.lo hw') G)<|QR.gcall G ent36 (fun w' hw'=>(c_spec_IsValidConsole w' a ((H.lo hw').rd) ((I.lo hw').rd) oB).mono fun _ _ h=>⟨h.1,hw'.trans h.2⟩) G<|Rg G (fun w' hw'=>r_neb_s und4 G G)<|Rq (fun w' hw'=>pF G G)<|QR.nil ?_
    intro cm aH
    exact ⟨⟨G,G,G,G,G,(eDF (j2t X).2),trivial⟩,aH⟩
  rintro bM ao ⟨aq,f⟩
  rw [← sA aq]
  have bu:=f.size
  have C:=ab.lo f
  refine Wd G (fun Y=>?_) (fun Y=>?_)
  ·have bm:¬(((execN a d).1)=((execN a d).1)):=Y
   refine Ws (Wr (Q (aB G)<|Qn (We (ret1 G (v:=.bool _) G (⟨eR (eB (by first | exact decide_eq_true (con_same ‹ConLaw _ _› oJ) | exact decide_eq_true (con_new ‹ConLaw _ _› oJ oJ) | exact (‹¬(execN _ _).1=(execN _ _).1› G).elim)),C⟩)))))
  ·have bn:((execN a d).1)=((execN a d).1):=(Classical.not_not.1 Y)
   refine Wk (Ws (Ws (Wr (Q (fA fa37_1 G)<|Q (r_lda (l:=[str (((execN a d).1).Log.Durable),str (((execN a d).1).Log.Pending),i6 (((execN a d).1).Log.Count)]) agg35 G (fun _ _ hu=>(y.lo f).cells (vs:=[str (((execN a d).1).Log.Durable),str (((execN a d).1).Log.Pending),i6 (((execN a d).1).Log.Count)]) G hu) G)<|Q (fA fa37_1 G)<|Q (r_lda (l:=[str a.Log.Durable,str a.Log.Pending,i6 a.Log.Count]) agg35 G (fun _ _ hu=>(x.lo f).cells (vs:=[str a.Log.Durable,str a.Log.Pending,i6 a.Log.Count]) G hu) G)<|Q (r_eqA (l:=encLog (((execN a d).1).Log)) (r:=encLog a.Log) G G eqg35 (eql35 (((execN a d).1).Log) a.Log))<|Qn (Wd G (fun aw=>?_) (fun aw=>?_))))))
   ·refine Ws (WJ (fun f' w'=>At f' [(2,.bool (decide ((((execN a d).1)=a)∧((((execN a d).2)=([110,111]:List UInt8))∨((((execN a d).2)=([98,97,100]:List UInt8))∨(((execN a d).2)=([102,117,108,108]:List UInt8))))))),(3,pt ap),(4,str d),(5,pt V),(6,str ((execN a d).2))]∧Lo ao w') ?_ ?_)
    ·refine Q (lG agg37 G (y.lo f) G)<|Q (lG agg37 G (x.lo f) G)<|Qv ent28 (c_laws_vConsole ao ((execN a d).1) ((J.lo f).rd) ((K.lo f).rd) a ((H.lo f).rd) ((I.lo f).rd)) G fun cn D bw=>(Q (mB G)<|QD (fun E=>?_) (fun E=>?_))
     ·refine Qg (mS G)<|Qg (r_eqs (s:=(execN a d).2) (r:=([110,111]:List UInt8)) G G)<|Qg (mB G)<|QD (fun M=>?_) (fun M=>?_)
      ·refine Qs<|Qs<|Qg (pT G G)<|Qg (mB G)<|Qs<|Qs<|Qg (pT G G)<|Q (pT G G)<|Q (aB G)<|Qn (⟨_,G,⟨⟨(eDT (((jot M).trans (jat E)).1 trivial)),G,G,G,G,trivial⟩,D⟩⟩)
      ·refine Qg (mS G)<|Qg (r_eqs (s:=(execN a d).2) (r:=([98,97,100]:List UInt8)) G G)<|Qg (pF G G)<|Qg (mB G)<|QD (fun Z=>?_) (fun Z=>?_)
       ·refine Qs<|Qs<|Qg (pT G G)<|Q (pT G G)<|Q (aB G)<|Qn (⟨_,G,⟨⟨(eDT ((((jot Z).trans (jof M)).trans (jat E)).1 trivial)),G,G,G,G,trivial⟩,D⟩⟩)
       ·refine Qg (mS G)<|Qg (r_eqs (s:=(execN a d).2) (r:=([102,117,108,108]:List UInt8)) G G)<|Qg (pF G G)<|Q (pT G G)<|Q (aB G)<|Qn (⟨_,G,⟨⟨(eDD (((jof Z).trans (jof M)).trans (jat E))),G,G,G,G,trivial⟩,D⟩⟩)
     ·refine Qs<|Qs<|Qs<|Qu<|Qu<|Qs<|Qs<|Qu<|Qu<|Qs<|Q (pF G G)<|Q (aB G)<|Qn (⟨_,G,⟨⟨(eDF (jaf E).2),G,G,G,G,trivial⟩,D⟩⟩)
    rintro bN co ⟨ar,ae⟩
    rw [← sA ar]
    have bz:=ae.size
    refine We (ret1 G (v:=.bool _) G (⟨eR (eB (by first | exact decide_eq_true (con_same ‹ConLaw _ _› oJ) | exact decide_eq_true (con_new ‹ConLaw _ _› oJ oJ) | exact (‹¬(execN _ _).1=(execN _ _).1› G).elim)),(C.lo ae)⟩))
   ·have bo:=exec_chg aw
    refine Wk (Ws (Wr (Q (fA fa37_1 G)<|Q (r_lda (l:=[str (((execN a d).1).Log.Durable),str (((execN a d).1).Log.Pending),i6 (((execN a d).1).Log.Count)]) agg35 G (fun _ _ hu=>(y.lo f).cells (vs:=[str (((execN a d).1).Log.Durable),str (((execN a d).1).Log.Pending),i6 (((execN a d).1).Log.Count)]) G hu) G)<|Qc ent37 (c_impl_LogRecords ao (((execN a d).1).Log) oB (hE.lo C)) G ?_)))
    rintro e aD ⟨bK,p,bL,rfl,q,t⟩
    refine ⟨_,G,?_⟩
    have bA:=t.size
    have ac:=C.lo t
    have bj:=q.len
    have bl:=q.rd.bound
    have bp:=recs_len (((execN a d).1).Log)
    refine Q (mT G)<|Q (xL G G)<|Q (xB G G)<|Q (aL G)<|Q (aB G)<|Qn (Ws (WJ (fun f' w'=>At f' [(2,.bool (decide ((((recsN (((execN a d).1).Log)).2)=true)∧((ConOK ((execN a d).1))∧(((p:Int)=(a.Log.Count+1))∧((gt ((recsN (((execN a d).1).Log)).1) (p-1))=(⟨d,(execN a d).2⟩:LogRecord)))))))]∧Lo aD w') ?_ ?_))
    ·refine Q (mB G)<|Q (mB G)<|SR.split (fun F=>?_) (fun F=>?_)
     ·refine Qg (lG agg37 G ((y.lo f).lo t) G)<|SR.gcall G ent35 (c_impl_IsValidConsole aD ((execN a d).1) (((J.lo f).lo t).rd) (((K.lo f).lo t).rd) oB (hE.lo ac)) G ?_
      rintro e cp ⟨rfl,m⟩
      refine ⟨_,G,?_⟩
      have bB:=m.size
      refine Q (pT G G)<|Q (mB G)<|QD (fun N=>?_) (fun N=>?_)
      ·refine Qg (mL G)<|Qg (r_len und67 G)<|Qg (fA fa37_1 G)<|Qg (fA fa35_2 G)<|Qg (r_ld (v:=i6 a.Log.Count) sca3 G ((((x.lo f).lo t).lo m).cell2 G))<|Qg (r_add G G oB)<|Qg (r_eq G G)<|Q (pT G G)<|Q (mB G)<|QD (fun aa=>?_) (fun aa=>?_)
       ·refine Qg (mL G)<|Qg (mL G)<|Qg (r_len und67 G)<|Qg (r_sub G G oB)<|?_
        have an:=((q.lo m).rd).elem (i:=((p:Int)-1).toNat) oB
        rw [show ((p:Int)-1).toNat=p-1 from by omega] at an
        have aJ:((recsN (((execN a d).1).Log)).1)[((p:Int)-1).toNat]?=some (gt ((recsN (((execN a d).1).Log)).1) (p-1)):=(show ((p:Int)-1).toNat=p-1 from by omega) ▸ an
        refine Qg (rX tsl67 ((q.lo m).rd) G G oB)<|Qg (r_lda (l:=encLogRecord (gt ((recsN (((execN a d).1).Log)).1) (p-1))) agg71 G (fun _ _ hu=>((q.lo m).rd).cell aJ hu) (((q.lo m).rd).esz _))<|Qg (mS G)<|Qg (mS G)<|Qg (r_build (vs:=[(0,str d),(1,str ((execN a d).2))]) G (bld71_0_1 _ _))<|Qg (r_eqA (l:=encLogRecord (gt ((recsN (((execN a d).1).Log)).1) (p-1))) (r:=encLogRecord (⟨d,(execN a d).2⟩:LogRecord)) G G eqg71 (eql71 (gt ((recsN (((execN a d).1).Log)).1) (p-1)) (⟨d,(execN a d).2⟩:LogRecord)))<|Q (pT G G)<|Q (aB G)<|Qn (⟨_,G,⟨⟨(eDD (((jat aa).trans (jat N)).trans (jat F))),trivial⟩,m⟩⟩)
       ·refine Qs<|Qs<|Qs<|Qs<|Qs<|Qs<|Qs<|Qs<|Qs<|Qs<|Q (pF G G)<|Q (aB G)<|Qn (⟨_,G,⟨⟨(eDF (((jaf aa).trans (jat N)).trans (jat F)).2),trivial⟩,m⟩⟩)
      ·refine Qs<|Qs<|Qs<|Qs<|Qs<|Qs<|Qs<|Q (pF G G)<|Q (mB G)<|Qs<|Qs<|Qs<|Qs<|Qs<|Qs<|Qs<|Qs<|Qs<|Qs<|Q (pF G G)<|Q (aB G)<|Qn (⟨_,G,⟨⟨(eDF ((jaf N).trans (jat F)).2),trivial⟩,m⟩⟩)
     ·refine Qs<|Qs<|Q (pF G G)<|Q (mB G)<|Qs<|Qs<|Qs<|Qs<|Qs<|Qs<|Qs<|Q (pF G G)<|Q (mB G)<|Qs<|Qs<|Qs<|Qs<|Qs<|Qs<|Qs<|Qs<|Qs<|Qs<|Q (pF G G)<|Q (aB G)<|Qn (⟨_,G,⟨⟨(eDF (jaf (ne_true_of_eq_false F)).2),trivial⟩,(lr _)⟩⟩)
    rintro bO cq ⟨au,ag⟩
    rw [← sA au]
    have bC:=ag.size
    refine We (ret1 G (v:=.bool _) G (⟨eR (eB (by first | exact decide_eq_true (con_same ‹ConLaw _ _› oJ) | exact decide_eq_true (con_new ‹ConLaw _ _› oJ oJ) | exact (‹¬(execN _ _).1=(execN _ _).1› G).elim)),(ac.lo ag)⟩))
end Go.Proofs.YtndcchndcghmoaaGreatDoor
