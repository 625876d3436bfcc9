/- Words and walks of this claim. -/
import Derived.Test.YtndcchndcghmoaaGreatDoorChecked
import Derived.Test.YtndcchndcghmoaaGreatDoorMReplayd
set_option linter.unusedVariables false
namespace Go.Proofs.YtndcchndcghmoaaGreatDoor
open Go Go.RowKit Fw
set_option maxRecDepth 10000
set_option maxHeartbeats 2000000
set_option linter.unusedVariables false
variable {Ac AL : Option Addr} {nc cc Bc nL cL BL : Nat}
theorem ent107:Ent Tryz.prog 107:=en Tryz.func107
theorem ent59:Ent Tryz.prog 59:=en Tryz.func59
theorem fa91_0:FA Tryz.prog 91 0 0:=fun _ _=>by kernel_rfl
theorem fa91_1:FA Tryz.prog 91 1 1:=fun _ _=>by kernel_rfl
theorem fa91_2:FA Tryz.prog 91 2 2:=fun _ _=>by kernel_rfl
theorem sca49:TSca Tryz.prog 49:=tS
theorem sca89:TSca Tryz.prog 89:=tS
theorem und89:Tryz.prog.underlying 89=some (.int .u64):=by kernel_rfl
theorem c___spec_l1Cur__next (w:World) {gc ec:Nat} (Lc:List UInt8) (tc sc:Int) (hc:Blk w gc ec [.slice Ac nc cc,i6 tc,.int .u64 sc]) (hLc:SlR w Bc encB 1 Ac nc cc Lc) (hgc:Bc≤gc) (htc:0≤tc∧tc+1≤4611686018427387904):Calls Tryz.prog 107 #[.pointer (some ⟨gc,0,none⟩)] w fun e w'=>∃ (v:Int) (tc' sc':Int),e=.returned (i6 v)∧Blk w' gc ec [.slice Ac nc cc,i6 tc',.int .u64 sc']∧(tc≤tc'∧tc'≤tc+1)∧((0:Int)≤v∧(v:Int)≤255)∧Kp (fun b_=>b_=gc) w w':=by
 refine cW 62 Tryz.func107 G G G ?_
 have hBlc:=hc.lt
 have hbdc:=hLc.bound
 have hlec:=hLc.len
 have hBbc:=hLc.bd
 refine Ws (Wr (Q (aI G)<|Qn (Ws (Wr (Q (aI G)<|Qn (Ws (Ws (W.regD mo oC (Rq (fun w' hw'=>mP G)<|Rq (fun w' hw'=>r_nilp G)<|Rq (fun w' hw'=>fA fa91_1 G)<|Rq (fun w' hw'=>lB sca3 G (hc.lo hw') G)<|Rq (fun w' hw'=>mP G)<|Rq (fun w' hw'=>r_nilp G)<|Rq (fun w' hw'=>fA fa91_0 G)<|Rq (fun w' hw'=>lB sca49 G (hc.lo hw') G)<|Rq (fun w' hw'=>r_len und49 G)<|Rq (fun w' hw'=>r_lt G G)<|QR.nil ?_)))))))))
 intro P a
 have I:=a.size
 have n:=(kr a:Kp (fun b_=>b_=gc) w _)
 refine Wd G (fun F=>?_) (fun F=>?_)
 ·refine W.regD mo oC (Rq (fun w' hw'=>mP G)<|Rq (fun w' hw'=>r_nilp G)<|Rq (fun w' hw'=>fA fa91_0 G)<|Rq (fun w' hw'=>lB sca49 G ((hc.lo a).lo hw') G)<|Rq (fun w' hw'=>mP G)<|Rq (fun w' hw'=>r_nilp G)<|Rq (fun w' hw'=>fA fa91_1 G)<|Rq (fun w' hw'=>lB sca3 G ((hc.lo a).lo hw') G)<|?_)
  have x:=(hLc.lo a).elem (i:=tc.toNat) oB
  have H:=u8_le (gt Lc tc.toNat)
  refine Rq (fun w' hw'=>rX tsl49 ((hLc.lo a).lo hw') G G oB)<|Rq (fun w' hw'=>r_ld (v:=.int .u8 ((gt Lc tc.toNat).toNat:Int)) sca5 G (((hLc.lo a).lo hw').cell0 x G))<|Rq (fun w' hw'=>r_convI und3 und5 G oB)<|Rq (fun w' hw'=>aI G)<|QR.nil ?_
  intro R g
  have C:=g.size
  refine Ws ?_
  have m:=(hc.lo a).lo g
  refine Wr (Q (mP G)<|Q (r_nilp G)<|Q (fA fa91_1 G)<|Q (lB sca3 G m G)<|Q (r_add G G oB)<|Q (r_nilp G)<|Q (fA fa91_1 G)<|Qw (o:=1) (vs:=[i6 (tc+1)]) sca3.2 G G G G m ler G ?_)
  intro J p y k
  refine Qn (Ws (Wr (Q (mP G)<|Q (mP G)<|Q (r_nilp G)<|Q (fA fa91_2 G)<|Q (lB sca89 G k G)<|Q (r_mulW G G)<|Q (mI G)<|Q (r_convU und89 und3 G oB)<|Q (r_addW G G)<|Q (r_addW G G)<|Q (r_nilp G)<|Q (fA fa91_2 G)<|Qw (o:=2) (vs:=[.int .u64 (IntKind.u64.wrap ((IntKind.u64.wrap ((IntKind.u64.wrap (sc*6364136223846793005))+((gt Lc tc.toNat).toNat:Int)))+604171))]) sca89.2 G G G G k ler G ?_)))
  intro K q z b
  refine Qn (Ws (Ws (W.regD mo oC (Rq (fun w' hw'=>mP G)<|Rq (fun w' hw'=>r_nilp G)<|Rq (fun w' hw'=>fA fa91_1 G)<|Rq (fun w' hw'=>lB sca3 G (b.lo hw') G)<|Rq (fun w' hw'=>mP G)<|Rq (fun w' hw'=>r_nilp G)<|Rq (fun w' hw'=>fA fa91_0 G)<|Rq (fun w' hw'=>lB sca49 G (b.lo hw') G)<|Rq (fun w' hw'=>r_len und49 G)<|Rq (fun w' hw'=>r_le G G)<|QR.nil ?_))))
  intro L d
  have D:=d.size
  have h:=(((n.lo g).step p (fun i_ hi_ e'=>e')).step q (fun i_ hi_ e'=>e')).lo d
  refine Wd G (fun t=>?_) (fun t=>?_)
  ·refine Ws (Wr (Q (mI G)<|Q (aI G)<|Qn (We (ret1 G (v:=i6 _) G (⟨((gt Lc tc.toNat).toNat:Int),(tc+1),(IntKind.u64.wrap ((IntKind.u64.wrap ((IntKind.u64.wrap (sc*6364136223846793005))+((gt Lc tc.toNat).toNat:Int)))+604171)),eR G,(b.lo d),⟨oB,oB⟩,oB,h⟩)))))
  ·refine Wk (Ws (Wr (Q (mP G)<|Q (r_nilp G)<|Q (fA fa91_2 G)<|Q (lB sca89 G (b.lo d) G)<|Q (r_shr40 G G (by simp only [IntKind.wrap_u64]; omega))<|Q (r_and255 G G (by simp only [IntKind.wrap_u64]; omega))<|Q (r_convI und3 und89 G oB)<|Q (aI G)<|Qn (We (ret1 G (v:=i6 _) G (⟨(((IntKind.u64.wrap ((IntKind.u64.wrap ((IntKind.u64.wrap (sc*6364136223846793005))+((gt Lc tc.toNat).toNat:Int)))+604171)) / 1099511627776) % 256),(tc+1),(IntKind.u64.wrap ((IntKind.u64.wrap ((IntKind.u64.wrap (sc*6364136223846793005))+((gt Lc tc.toNat).toNat:Int)))+604171)),eR G,(b.lo d),⟨oB,oB⟩,oB,h⟩))))))
 ·refine Wk (Ws (Wr (Q (mP G)<|Q (r_nilp G)<|Q (fA fa91_1 G)<|Q (lB sca3 G (hc.lo a) G)<|Q (r_add G G oB)<|Q (r_nilp G)<|Q (fA fa91_1 G)<|Qw (o:=1) (vs:=[i6 (tc+1)]) sca3.2 G G G G (hc.lo a) ler G ?_)))
  intro M r A l
  refine Qn (Ws (Wr (Q (mP G)<|Q (mP G)<|Q (r_nilp G)<|Q (fA fa91_2 G)<|Q (lB sca89 G l G)<|Q (r_mulW G G)<|Q (mI G)<|Q (r_convU und89 und3 G oB)<|Q (r_addW G G)<|Q (r_addW G G)<|Q (r_nilp G)<|Q (fA fa91_2 G)<|Qw (o:=2) (vs:=[.int .u64 (IntKind.u64.wrap ((IntKind.u64.wrap ((IntKind.u64.wrap (sc*6364136223846793005))+0))+604171))]) sca89.2 G G G G l ler G ?_)))
  intro N s B c
  refine Qn (Ws (Ws (W.regD mo oC (Rq (fun w' hw'=>mP G)<|Rq (fun w' hw'=>r_nilp G)<|Rq (fun w' hw'=>fA fa91_1 G)<|Rq (fun w' hw'=>lB sca3 G (c.lo hw') G)<|Rq (fun w' hw'=>mP G)<|Rq (fun w' hw'=>r_nilp G)<|Rq (fun w' hw'=>fA fa91_0 G)<|Rq (fun w' hw'=>lB sca49 G (c.lo hw') G)<|Rq (fun w' hw'=>r_len und49 G)<|Rq (fun w' hw'=>r_le G G)<|QR.nil ?_))))
  intro O f
  have E:=f.size
  have j:=((n.step r (fun i_ hi_ e'=>e')).step s (fun i_ hi_ e'=>e')).lo f
  refine Wd G (fun u=>?_) (fun u=>?_)
  ·refine Ws (Wr (Q (mI G)<|Q (aI G)<|Qn (We (ret1 G (v:=i6 _) G (⟨0,(tc+1),(IntKind.u64.wrap ((IntKind.u64.wrap ((IntKind.u64.wrap (sc*6364136223846793005))+0))+604171)),eR G,(c.lo f),⟨oB,oB⟩,oB,j⟩)))))
  ·refine Wk (Ws (Wr (Q (mP G)<|Q (r_nilp G)<|Q (fA fa91_2 G)<|Q (lB sca89 G (c.lo f) G)<|Q (r_shr40 G G (by simp only [IntKind.wrap_u64]; omega))<|Q (r_and255 G G (by simp only [IntKind.wrap_u64]; omega))<|Q (r_convI und3 und89 G oB)<|Q (aI G)<|Qn (We (ret1 G (v:=i6 _) G (⟨(((IntKind.u64.wrap ((IntKind.u64.wrap ((IntKind.u64.wrap (sc*6364136223846793005))+0))+604171)) / 1099511627776) % 256),(tc+1),(IntKind.u64.wrap ((IntKind.u64.wrap ((IntKind.u64.wrap (sc*6364136223846793005))+0))+604171)),eR G,(c.lo f),⟨oB,oB⟩,oB,j⟩))))))
theorem c___spec_l1Cur__pick (w:World) {gc ec:Nat} (Lc:List UInt8) (tc sc:Int) (hc:Blk w gc ec [.slice Ac nc cc,i6 tc,.int .u64 sc]) (hLc:SlR w Bc encB 1 Ac nc cc Lc) (hgc:Bc≤gc) (htc:0≤tc∧tc+2≤4611686018427387904) (n:Int) (t:n≤4611686018427387904):Calls Tryz.prog 59 #[.pointer (some ⟨gc,0,none⟩),i6 n] w fun e w'=>∃ (v:Int) (tc' sc':Int),e=.returned (i6 v)∧Blk w' gc ec [.slice Ac nc cc,i6 tc',.int .u64 sc']∧(tc≤tc'∧tc'≤tc+2)∧((0:Int)≤v∧((v:Int)<n∨(v:Int)=0))∧Kp (fun b_=>b_=gc) w w':=by
 refine cW 20 Tryz.func59 G G G ?_
 have hBlc:=hc.lt
 have hbdc:=hLc.bound
 have hlec:=hLc.len
 have hBbc:=hLc.bd
 refine Ws (Wr (Q (aI G)<|Qn (Ws (Ws (Wr (Q (mI G)<|Q (r_le G G)<|Qn (Wd G (fun s=>?_) (fun s=>?_))))))))
 ·refine Ws (Wr (Q (aI G)<|Qn (We (ret1 G (v:=i6 _) G (⟨0,tc,sc,eR G,hc,⟨oB,oB⟩,(by first | omega | exact ⟨Int.emod_nonneg _ oB,.inl (Int.emod_lt_of_pos _ oB)⟩),(kq w)⟩)))))
 ·refine Wk (Ws (Wr (Q (mP G)<|Qc ent107 (c___spec_l1Cur__next w Lc tc sc hc hLc oB oB) G ?_)))
  rintro e z ⟨r,q,p,rfl,f,x,u,c⟩
  refine ⟨_,G,?_⟩
  have m:=c.size
  have a:=(kq w:Kp (fun b_=>b_=gc) w w).step c (fun i_ hi_ e'=>e')
  refine Q (aI G)<|Qn (Ws (Ws (Wr (Q (mI G)<|Q (r_gt G G)<|Qn (Wd G (fun g=>?_) (fun g=>?_))))))
  ·refine Wr (Q (mI G)<|Q (r_mul G G oB)<|Q (mP G)<|Qc ent107 (c___spec_l1Cur__next z Lc q p f (hLc.kn c) oB oB) G ?_)
   rintro e y ⟨j,i,h,rfl,d,l,k,b⟩
   refine ⟨_,G,?_⟩
   have o:=b.size
   refine Q (r_add G G oB)<|Q (aI G)<|Qn (Ws (Wr (Q (mI G)<|Q (mI G)<|Q (r_rem G G oB)<|Q (aI G)<|Qn (We (ret1 G (v:=i6 _) G (⟨(((r*256)+j) % n),i,h,eR G,d,⟨oB,oB⟩,(by first | omega | exact ⟨Int.emod_nonneg _ oB,.inl (Int.emod_lt_of_pos _ oB)⟩),(a.step b (fun i_ hi_ e'=>e'))⟩))))))
  ·refine Wk (Ws (Wr (Q (mI G)<|Q (mI G)<|Q (r_rem G G oB)<|Q (aI G)<|Qn (We (ret1 G (v:=i6 _) G (⟨(r % n),q,p,eR G,f,⟨oB,oB⟩,(by first | omega | exact ⟨Int.emod_nonneg _ oB,.inl (Int.emod_lt_of_pos _ oB)⟩),a⟩))))))
theorem c___spec_l1Cur__one (w:World) {gc ec:Nat} (Lc:List UInt8) (tc sc:Int) (hc:Blk w gc ec [.slice Ac nc cc,i6 tc,.int .u64 sc]) (hLc:SlR w Bc encB 1 Ac nc cc Lc) (hgc:Bc≤gc) (htc:0≤tc∧tc+2≤4611686018427387904) (n:Int) (c:n≤4611686018427387904):Calls Tryz.prog 61 #[.pointer (some ⟨gc,0,none⟩),i6 n] w fun e w'=>∃ (v:Bool) (tc' sc':Int),e=.returned (.bool v)∧Blk w' gc ec [.slice Ac nc cc,i6 tc',.int .u64 sc']∧(tc≤tc'∧tc'≤tc+2)∧Kp (fun b_=>b_=gc) w w':=by
 refine cW 9 Tryz.func61 G G G ?_
 have hBlc:=hc.lt
 have hbdc:=hLc.bound
 have hlec:=hLc.len
 have hBbc:=hLc.bd
 refine Ws (Wr (Q (aB G)<|Qn (Ws (Wr (Q (mP G)<|Q (mI G)<|Qc ent59 (c___spec_l1Cur__pick w Lc tc sc hc hLc oB oB n oD) G ?_)))))
 rintro e k ⟨j,i,h,rfl,b,f,d,a⟩
 refine ⟨_,G,?_⟩
 have g:=a.size
 refine Q (r_eq G G)<|Q (aB G)<|Qn (We (ret1 G (v:=.bool _) G (⟨(decide (j=0)),i,h,eR (eB (by first | rfl | omega | grind)),b,⟨oB,oB⟩,((kq w:Kp (fun b_=>b_=gc) w w).step a (fun i_ hi_ e'=>e'))⟩)))
theorem c___spec_l1Cur__of (w:World) {gc ec:Nat} (Lc:List UInt8) (tc sc:Int) (hc:Blk w gc ec [.slice Ac nc cc,i6 tc,.int .u64 sc]) (hLc:SlR w Bc encB 1 Ac nc cc Lc) (hgc:Bc≤gc) (htc:0≤tc∧tc+2≤4611686018427387904)  (L:List (List UInt8)) (hL:SlR w BL encS 1 AL nL cL L) (g:0<nL) (h:(nL:Int)≤1048576) (b:¬(adr AL).block=gc):Calls Tryz.prog 110 #[.pointer (some ⟨gc,0,none⟩),.slice AL nL cL] w fun e w'=>∃ (v:List UInt8) (tc' sc':Int),e=.returned (str v)∧Blk w' gc ec [.slice Ac nc cc,i6 tc',.int .u64 sc']∧(tc≤tc'∧tc'≤tc+2)∧(v∈L)∧Kp (fun b_=>b_=gc) w w':=by
 refine cW 12 Tryz.func110 G G G ?_
 have hBlc:=hc.lt
 have hbdc:=hLc.bound
 have hlec:=hLc.len
 have hBbc:=hLc.bd
 have hbdL:=hL.bound
 have hleL:=hL.len
 have hBbL:=hL.bd
 refine Ws (Wr (Q (r_as (v:=str ([]:List UInt8)) G)<|Qn (Ws (Wr (Q (mL G)<|Q (mP G)<|Q (mL G)<|Q (r_len und44 G)<|Qc ent59 (c___spec_l1Cur__pick w Lc tc sc hc hLc oB oB (nL:Int) oD) G ?_)))))
 rintro e p ⟨o,n,m,rfl,f,k,j,a⟩
 refine ⟨_,G,?_⟩
 have l:=a.size
 obtain ⟨d,c⟩:=(hL.kpb a (fun hn_ e'=>b e')).get (i:=o.toNat) oB
 refine Q (rX tsl44 (hL.kpb a (fun hn_ e'=>b e')) G G oB)<|Q (r_ld (v:=str d) sca9 G ((hL.kpb a (fun hn_ e'=>b e')).cell0 c G))<|Q (aS G)<|Qn (We (ret1 G (v:=str _) G (⟨d,n,m,eR G,f,⟨oB,oB⟩,(by exact List.mem_of_getElem? ‹L[_]?=some _›),((kq w:Kp (fun b_=>b_=gc) w w).step a (fun i_ hi_ e'=>e'))⟩)))
theorem c___spec_l1Cur__among (w:World) {gc ec:Nat} (Lc:List UInt8) (tc sc:Int) (hc:Blk w gc ec [.slice Ac nc cc,i6 tc,.int .u64 sc]) (hLc:SlR w Bc encB 1 Ac nc cc Lc) (hgc:Bc≤gc) (htc:0≤tc∧tc+2≤4611686018427387904)  (L:List Int) (hL:SlR w BL encI 1 AL nL cL L) (g:0<nL) (h:(nL:Int)≤1048576) (b:¬(adr AL).block=gc):Calls Tryz.prog 58 #[.pointer (some ⟨gc,0,none⟩),.slice AL nL cL] w fun e w'=>∃ (v:Int) (tc' sc':Int),e=.returned (i6 v)∧Blk w' gc ec [.slice Ac nc cc,i6 tc',.int .u64 sc']∧(tc≤tc'∧tc'≤tc+2)∧(v∈L)∧Kp (fun b_=>b_=gc) w w':=by
 refine cW 12 Tryz.func58 G G G ?_
 have hBlc:=hc.lt
 have hbdc:=hLc.bound
 have hlec:=hLc.len
 have hBbc:=hLc.bd
 have hbdL:=hL.bound
 have hleL:=hL.len
 have hBbL:=hL.bd
 refine Ws (Wr (Q (aI G)<|Qn (Ws (Wr (Q (mL G)<|Q (mP G)<|Q (mL G)<|Q (r_len und93 G)<|Qc ent59 (c___spec_l1Cur__pick w Lc tc sc hc hLc oB oB (nL:Int) oD) G ?_)))))
 rintro e p ⟨o,n,m,rfl,f,k,j,a⟩
 refine ⟨_,G,?_⟩
 have l:=a.size
 obtain ⟨d,c⟩:=(hL.kpb a (fun hn_ e'=>b e')).get (i:=o.toNat) oB
 refine Q (rX tsl93 (hL.kpb a (fun hn_ e'=>b e')) G G oB)<|Q (r_ld (v:=i6 d) sca3 G ((hL.kpb a (fun hn_ e'=>b e')).cell0 c G))<|Q (aI G)<|Qn (We (ret1 G (v:=i6 _) G (⟨d,n,m,eR G,f,⟨oB,oB⟩,(by exact List.mem_of_getElem? ‹L[_]?=some _›),((kq w:Kp (fun b_=>b_=gc) w w).step a (fun i_ hi_ e'=>e'))⟩)))
theorem c___spec_l1Cur__spoilt (w:World) {gc ec:Nat} (Lc:List UInt8) (tc sc:Int) (hc:Blk w gc ec [.slice Ac nc cc,i6 tc,.int .u64 sc]) (hLc:SlR w Bc encB 1 Ac nc cc Lc) (hgc:Bc≤gc) (htc:0≤tc∧tc+6≤4611686018427387904) (s:List UInt8) (r:List UInt8) (N:(s.length:Int)≤1048576) (O:0<r.length∧(r.length:Int)≤1048576):Calls Tryz.prog 71 #[.pointer (some ⟨gc,0,none⟩),str s,str r] w fun e w'=>∃ (v:List UInt8) (tc' sc':Int),e=.returned (str v)∧Blk w' gc ec [.slice Ac nc cc,i6 tc',.int .u64 sc']∧(tc≤tc'∧tc'≤tc+6)∧(v.length≤s.length+1)∧Kp (fun b_=>b_=gc) w w':=by
 refine cW 57 Tryz.func71 G G G ?_
 have hBlc:=hc.lt
 have hbdc:=hLc.bound
 have hlec:=hLc.len
 have hBbc:=hLc.bd
 refine Ws (Wr (Q (r_as (v:=str ([]:List UInt8)) G)<|Qn (Ws (Ws (Wr (Q (mS G)<|Q (r_eqs (s:=s) (r:=([]:List UInt8)) G G)<|Qn (Wd G (fun A=>?_) (fun A=>?_))))))))
 ·refine Ws (Wr (Q (mS G)<|Q (r_cuthS (h:=1) und9 G G G oA)<|Q (aS G)<|Qn (We (ret1 G (v:=str _) G (⟨(r.take 1),tc,sc,eR G,hc,⟨oB,oB⟩,oU,(kq w)⟩)))))
 ·have P:=List.length_pos_iff.2 A
  refine Wk (Ws (Wr (Q (mP G)<|Q (mS G)<|Q (r_len_s und9 G)<|Qc ent59 (c___spec_l1Cur__pick w Lc tc sc hc hLc oB oB (s.length:Int) oD) G ?_)))
  rintro e X ⟨a,T,S,rfl,u,R,B,j⟩
  refine ⟨_,G,?_⟩
  have H:=j.size
  refine Q (aI G)<|Qn (Ws (Wr (Q (mS G)<|Q (mP G)<|Q (mS G)<|Q (r_len_s und9 G)<|Qc ent59 (c___spec_l1Cur__pick X Lc T S u (hLc.kn j) oB oB (r.length:Int) oD) G ?_)))
  rintro e z ⟨o,y,x,rfl,p,E,C,d⟩
  refine ⟨_,G,?_⟩
  have I:=d.size
  refine Q (r_cutlS (l:=o.toNat) und9 G G oB oA)<|Q (r_cuthS (h:=1) und9 G G G oA)<|Q (aS G)<|Qn (Ws (Ws (Wr (Q (mP G)<|Qc ent59 (c___spec_l1Cur__pick z Lc y x p ((hLc.kn j).kn d) oB oB 3 oD) G ?_))))
  rintro e V ⟨U,n,m,rfl,c,F,D,k⟩
  refine ⟨_,G,?_⟩
  have J:=k.size
  have b:=(((kq w:Kp (fun b_=>b_=gc) w w).step j (fun i_ hi_ e'=>e')).step d (fun i_ hi_ e'=>e')).step k (fun i_ hi_ e'=>e')
  refine Qn (Wl (Ws (Wr (Q (r_eq G G)<|Q (aB G)<|Qn (Wd G (fun q=>?_) (fun q=>?_))))))
  ·refine Ws (W.regD mo oC (Rq (fun w' hw'=>mS G)<|Rq (fun w' hw'=>mI G)<|Rq (fun w' hw'=>r_cuthS (h:=a.toNat) und9 G G oB oA)<|Rq (fun w' hw'=>mS G)<|Rq (fun w' hw'=>r_cat G G oA)<|Rq (fun w' hw'=>mS G)<|Rq (fun w' hw'=>mI G)<|Rq (fun w' hw'=>r_cutlS (l:=a.toNat) und9 G G oB oA)<|Rq (fun w' hw'=>r_cat G G oA)<|Rq (fun w' hw'=>aS G)<|QR.nil ?_))
   intro Y f
   have K:=f.size
   refine We (ret1 G (v:=str _) G (⟨(((s.take a.toNat)++((r.drop o.toNat).take 1))++(s.drop a.toNat)),n,m,eR G,(c.lo f),⟨oB,oB⟩,oU,(b.lo f)⟩))
  ·refine Ws (Wr (Q (r_eq G G)<|Q (aB G)<|Qn (Wd G (fun t=>?_) (fun t=>?_))))
   ·refine Ws (W.regD mo oC (Rq (fun w' hw'=>mS G)<|Rq (fun w' hw'=>mI G)<|Rq (fun w' hw'=>r_cuthS (h:=a.toNat) und9 G G oB oA)<|Rq (fun w' hw'=>mS G)<|Rq (fun w' hw'=>r_cat G G oA)<|Rq (fun w' hw'=>mS G)<|Rq (fun w' hw'=>mI G)<|Rq (fun w' hw'=>r_add G G oB)<|Rq (fun w' hw'=>r_cutlS (l:=(a+1).toNat) und9 G G oB oA)<|Rq (fun w' hw'=>r_cat G G oA)<|Rq (fun w' hw'=>aS G)<|QR.nil ?_))
    intro Z g
    have L:=g.size
    refine We (ret1 G (v:=str _) G (⟨(((s.take a.toNat)++((r.drop o.toNat).take 1))++(s.drop ((a+1).toNat))),n,m,eR G,(c.lo g),⟨oB,oB⟩,oU,(b.lo g)⟩))
   ·refine Wk (Ws (W.regD mo oC (Rq (fun w' hw'=>mS G)<|Rq (fun w' hw'=>mI G)<|Rq (fun w' hw'=>r_cuthS (h:=a.toNat) und9 G G oB oA)<|Rq (fun w' hw'=>mS G)<|Rq (fun w' hw'=>mI G)<|Rq (fun w' hw'=>r_add G G oB)<|Rq (fun w' hw'=>r_cutlS (l:=(a+1).toNat) und9 G G oB oA)<|Rq (fun w' hw'=>r_cat G G oA)<|Rq (fun w' hw'=>aS G)<|QR.nil ?_)))
    intro aa i
    have M:=i.size
    refine We (ret1 G (v:=str _) G (⟨((s.take a.toNat)++(s.drop ((a+1).toNat))),n,m,eR G,(c.lo i),⟨oB,oB⟩,oU,(b.lo i)⟩))
theorem c_spec_l1Most (w:World) (a:Int) (b:Int):Calls Tryz.prog 109 #[i6 a,i6 b] w fun e w'=>e=.returned (i6 (max a b))∧Lo w w':=by
 refine cW 10 Tryz.func109 G G G (Ws (Wr (Q (aI G)<|Qn (Ws (Ws (Wr (Q (mI G)<|Q (mI G)<|Q (r_gt G G)<|Qn (Wd G (fun c=>?_) (fun c=>?_)))))))))
 ·refine Ws (Wr (Q (mI G)<|Q (aI G)<|Qn (We (ret1 G (v:=i6 _) G (⟨eR (eI oB),(lr w)⟩)))))
 ·refine Wk (Ws (Wr (Q (mI G)<|Q (aI G)<|Qn (We (ret1 G (v:=i6 _) G (⟨eR (eI oB),(lr w)⟩))))))
end Go.Proofs.YtndcchndcghmoaaGreatDoor
namespace Go.Proofs.YtndcchndcghmoaaGreatDoor
open Go Go.RowKit Fw
set_option maxRecDepth 10000
set_option maxHeartbeats 2000000
set_option linter.unusedVariables false
variable {Ac Ax1 Ax2 : Option Addr} {nc cc Bc nx1 cx1 Bx1 nx2 cx2 Bx2 : Nat}
theorem bld102_0_2 (a0:Int) (a2:Int):Tryz.prog.built 102 [(0,i6 a0),(2,i6 a2)]=some (List.toArray [i6 a0,i6 0,i6 a2]):=by kernel_rfl
theorem ent109:Ent Tryz.prog 109:=en Tryz.func109
theorem ent58:Ent Tryz.prog 58:=en Tryz.func58
theorem ent61:Ent Tryz.prog 61:=en Tryz.func61
theorem c___spec_l1Cur__libraryStep (w:World) {gc ec:Nat} (Lc:List UInt8) (tc sc:Int) (hc:Blk w gc ec [.slice Ac nc cc,i6 tc,.int .u64 sc]) (hLc:SlR w Bc encB 1 Ac nc cc Lc) (hgc:Bc≤gc) (htc:0≤tc∧tc+20≤4611686018427387904) (x:Library) (pJ:SlR w Bx1 encLMap 3 Ax1 nx1 cx1 x.Maps) (pK:SlR w Bx2 encAway 2 Ax2 nx2 cx2 x.Away) (Be:nx1≤9∧nx2≤9) (yc:MapB x.Maps) (yd:AwayB x.Away) (kD:0<nx1→¬(adr Ax1).block=gc) (kE:0<nx2→¬(adr Ax2).block=gc):Calls Tryz.prog 108 #[.pointer (some ⟨gc,0,none⟩),.agg (List.toArray (cLb Ax1 nx1 cx1 Ax2 nx2 cx2 x))] w fun e w'=>∃ (s:LibraryStep) (tc' sc':Int),e=.returned (.agg (List.toArray [i6 s.Kind,i6 s.Id,i6 s.Reader,i6 s.Value]))∧Blk w' gc ec [.slice Ac nc cc,i6 tc',.int .u64 sc']∧(tc≤tc'∧tc'≤tc+20)∧((-10000000≤s.Id∧s.Id≤10000000)∧(-10000000≤s.Reader∧s.Reader≤10000000)∧(-10000000≤s.Value∧s.Value≤10000000))∧Kp (fun b_=>b_=gc) w w':=by
 refine cW 146 Tryz.func108 G G G ?_
 have hBlc:=hc.lt
 have hbdc:=hLc.bound
 have hlec:=hLc.len
 have hBbc:=hLc.bd
 have xD:=pJ.bound
 have x9:=pJ.len
 have xz:=pJ.bd
 have xE:=pK.bound
 have ya:=pK.len
 have xA:=pK.bd
 refine Ws (Wr (bx G ?_))
 intro g1 w2 Bd lV Bf xC
 refine Qa (l:=[i6 0,i6 0,i6 0,i6 0]) tz106 G ?_
 intro u Bg AI dX AP so
 refine Qn (Ws ?_)
 have pQ:=(hLc.lo lV).lo dX
 refine Wr (Q (mP G)<|Ql (vs:=[i6 1,i6 7]) (L:=([1,7]:List Int)) (enc:=encI) tel93 (fun _=>G) G G G oG ?_)
 intro xx zW AJ b7 pN
 have AW:=b7.size
 refine Qc ent58 (c___spec_l1Cur__among zW Lc tc sc (((hc.lo lV).lo dX).lo b7) (pQ.lo b7) oB oB ([1,7]:List Int) (pN.rd) oB oB (show ¬xx=gc from by first | omega | (have:=pN.base_le G; omega))) G ?_
 rintro e Bh ⟨mz,pL,sx,rfl,sq,AU,su,dB⟩
 refine ⟨_,G,?_⟩
 have AX:=dB.size
 have AO:(1:Int)≤mz∧mz≤7:=mem_rngB (lo:=1) (hi:=7) oG su
 refine Q (r_build (vs:=[(0,i6 mz),(2,i6 1)]) G (bld102_0_2 _ _))<|Q (r_build (vs:=[(0,i6 1),(1,i6 5)]) G (bld129_0_1 _ _))<|Qa (l:=[i6 0,i6 0,i6 0]) tz102 G ?_
 intro n Bi AK dC AQ sr
 refine Qa (l:=[i6 0,i6 0]) tz129 G ?_
 intro F Bj AN cz AR ss
 refine Qw (o:=0) (vs:=[i6 mz,i6 0,i6 1]) agg102.2 G G G G (sr.lo cz) ler G ?_
 intro Bk cA AS pO
 refine Qw (o:=0) (vs:=[i6 1,i6 5]) agg129.2 G G G G (ss.kn cA) ler G ?_
 intro sl cf AT pP
 have pM:=((((((((kr lV:Kp (fun b_=>b_=gc) w _)).lo dX).lo b7).step dB (fun i_ hi_ e'=>e')).lo dC).lo cz).new cA).new cf
 refine Qn (Ws (Ws ?_))
 have pR:=(((sq.lo dC).lo cz).kn cA).kn cf
 have l6:=(((((pQ.lo b7).kn dB).lo dC).lo cz).kn cA).kn cf
 have fx:=((((((xC.lo dX).lo b7).kn dB).lo dC).lo cz).kn cA).kn cf
 have bi:=(((((((pJ.lo lV).lo dX).lo b7).kpb dB (fun hn_ e'=>(kD oB) e')).lo dC).lo cz).kn cA).kn cf
 have l9:=(((((((pK.lo lV).lo dX).lo b7).kpb dB (fun hn_ e'=>(kE oB) e')).lo dC).lo cz).kn cA).kn cf
 have pS:=(((((so.lo b7).kn dB).lo dC).lo cz).kn cA).kn cf
 refine Wr (Q (fA fa34_0 G)<|Q (lB sca31 G fx G)<|Q (r_len und31 G)<|Q (r_gt G G)<|Qn (W.thenJ (fun f' w'=>∃ g:LMap × Int × Int,At f' [(0,pt gc),(3,pt g1),(4,pt u),(5,pt n),(6,pt F)]∧(Kp (fun b_=>b_=gc) w w')∧(Blk w' gc ec [.slice Ac nc cc,i6 g.2.1,.int .u64 g.2.2])∧(SlR w' Bc encB 1 Ac nc cc Lc)∧(Blk w' g1 34 (cLb Ax1 nx1 cx1 Ax2 nx2 cx2 x))∧(SlR w' Bx1 encLMap 3 Ax1 nx1 cx1 x.Maps)∧(SlR w' Bx2 encAway 2 Ax2 nx2 cx2 x.Away)∧(Blk w' u 106 [i6 0,i6 0,i6 0,i6 0])∧(Blk w' n 102 [i6 g.1.Id,i6 g.1.Copies,i6 g.1.Torn])∧(Blk w' F 129 [i6 1,i6 5])∧(((-100000≤g.1.Id∧g.1.Id≤100000)∧(-100000≤g.1.Copies∧g.1.Copies≤100000)∧(-100000≤g.1.Torn∧g.1.Torn≤100000))∧tc≤g.2.1∧g.2.1≤tc+4)) ?_ ?_))
 ·refine Wd G (fun xy=>?_) (fun xy=>?_)
  ·refine WA (Kp (fun b_=>b_=gc∨b_=n) sl) (fun f' w'=>∃ (aj:Int) (fy:Int) (mu:Int),At f' [(0,pt gc),(3,pt g1),(4,pt u),(5,pt n),(6,pt F)]∧(Kp (fun b_=>b_=gc∨b_=n) sl w')∧(Blk w' gc ec [.slice Ac nc cc,i6 fy,.int .u64 mu])∧(Blk w' n 102 [i6 ((gt x.Maps aj.toNat).Id),i6 ((gt x.Maps aj.toNat).Copies),i6 ((gt x.Maps aj.toNat).Torn)])∧(pL≤fy∧fy≤pL+2)∧((0:Int)≤aj∧((aj:Int)<(nx1:Int)∨(aj:Int)=0))∧(x.Maps[aj.toNat]?=some (gt x.Maps aj.toNat))∧((-100000≤(gt x.Maps aj.toNat).Id∧(gt x.Maps aj.toNat).Id≤100000)∧(-100000≤(gt x.Maps aj.toNat).Copies∧(gt x.Maps aj.toNat).Copies≤100000)∧(-100000≤(gt x.Maps aj.toNat).Torn∧(gt x.Maps aj.toNat).Torn≤100000))) mo ?_ ?_
   ·intro sC ah
    have yt:=ah.size
    refine Ak 0 G (kr ah) (fun w' hw'=>fA fa34_0 G)<|Ak 1 G (kr ah) (fun w' hw'=>lB sca31 G (fx.kp hw' (fun e'=>e'.elim (fun e'=>by have e'':g1=gc:=e'; omega) (fun e'=>by have e'':g1=n:=e'; omega))) G)<|Ak 2 G (kr ah) (fun w' hw'=>mP G)<|Ak 3 G (kr ah) (fun w' hw'=>fA fa34_0 G)<|Ak 4 G (kr ah) (fun w' hw'=>lB sca31 G (fx.kp hw' (fun e'=>e'.elim (fun e'=>by have e'':g1=gc:=e'; omega) (fun e'=>by have e'':g1=n:=e'; omega))) G)<|Ak 5 G (kr ah) (fun w' hw'=>r_len und31 G)<|Ab 6 G (Qc ent59 (c___spec_l1Cur__pick sC Lc pL sx (pR.lo ah) (l6.lo ah) oB oB (nx1:Int) oD) G ?_)
    rintro e AZ ⟨dZ,sy,sv,rfl,qf,qZ,qV,eG⟩
    refine ⟨_,G,?_⟩
    have yu:=eG.size
    have el:=((kr ah:Kp (fun b_=>b_=gc∨b_=n) sl _)).step eG (fun _ _ e=>.inl e)
    refine Qn ⟨el,_,G,?_⟩
    have gA:=((bi.lo ah).kpb eG (fun hn_ e'=>(kD oB) e')).elem (i:=dZ.toNat) oB
    have qW:=MapB.at yc gA
    refine Ak 7 G el (fun w' hw'=>rX tsl31 (bi.kpb hw' (fun hn_ e'=>e'.elim (fun e'=>(kD oB) e') (fun e'=>by have e'':(adr Ax1).block=n:=e'; have h2:=bi.blk hn_; omega))) G G oB)<|Ak 8 G el (fun w' hw'=>r_lda (l:=encLMap (gt x.Maps dZ.toNat)) agg102 G (fun _ _ hu=>(bi.kpb hw' (fun hn_ e'=>e'.elim (fun e'=>(kD oB) e') (fun e'=>by have e'':(adr Ax1).block=n:=e'; have h2:=bi.blk hn_; omega))).cell gA hu) ((bi.kpb hw' (fun hn_ e'=>e'.elim (fun e'=>(kD oB) e') (fun e'=>by have e'':(adr Ax1).block=n:=e'; have h2:=bi.blk hn_; omega))).esz _))<|Ab 9 G (Qw (o:=0) (vs:=[i6 ((gt x.Maps dZ.toNat).Id),i6 ((gt x.Maps dZ.toNat).Copies),i6 ((gt x.Maps dZ.toNat).Torn)]) agg102.2 G G G G (((pO.kn cf).lo ah).kn eG) ler G ?_)
    intro A4 lT yk qg
    have k8:=el.step lT (fun _ _ e=>.inr e)
    refine Qn ⟨k8,_,G,(Ad oC (⟨dZ,sy,sv,(At.r G),k8,(qf.kn lT),qg,qZ,qV,gA,qW⟩))⟩
   rintro AD A5 ⟨aj,fy,mu,nt,aJ,qx,qy,ym,ye,yr,yf⟩
   rw [← sA nt]
   have yv:=aJ.size
   exact ⟨_,G,((gt x.Maps aj.toNat),fy,mu),(At.r G),(pM.step aJ (fun i_ hi_ e'=>e'.elim (fun e'=>e') (fun e'=>by have e'':i_=n:=e'; omega))),qx,l6.kp aJ (fun b_ hb e'=>e'.elim (fun e'=>by have e'':b_=gc:=e'; omega) (fun e'=>by have e'':b_=n:=e'; omega)),fx.kp aJ (fun e'=>e'.elim (fun e'=>by have e'':g1=gc:=e'; omega) (fun e'=>by have e'':g1=n:=e'; omega)),bi.kpb aJ (fun hn_ e'=>e'.elim (fun e'=>(kD oB) e') (fun e'=>by have e'':(adr Ax1).block=n:=e'; have h2:=bi.blk hn_; omega)),l9.kpb aJ (fun hn_ e'=>e'.elim (fun e'=>(kE oB) e') (fun e'=>by have e'':(adr Ax2).block=n:=e'; have h2:=l9.blk hn_; omega)),pS.kp aJ (fun e'=>e'.elim (fun e'=>by have e'':u=gc:=e'; omega) (fun e'=>by have e'':u=n:=e'; omega)),qy,pP.kp aJ (fun e'=>e'.elim (fun e'=>by have e'':F=gc:=e'; omega) (fun e'=>by have e'':F=n:=e'; omega)),oF⟩
  ·refine Wk (⟨_,G,((⟨mz,0,1⟩:LMap),pL,sx),(At.r G),pM,pR,l6,fx,bi,l9,pS,(pO.kn cf),pP,oF⟩)
 rintro AE aG ⟨⟨m,t,z⟩,nu,qd⟩
 rw [← sA nu]
 obtain ⟨f4,f6,f7,eU,yb,bm,f8,ga,gb,xO⟩:(Kp (fun b_=>b_=gc) w aG)∧(Blk aG gc ec [.slice Ac nc cc,i6 t,.int .u64 z])∧(SlR aG Bc encB 1 Ac nc cc Lc)∧(Blk aG g1 34 (cLb Ax1 nx1 cx1 Ax2 nx2 cx2 x))∧(SlR aG Bx1 encLMap 3 Ax1 nx1 cx1 x.Maps)∧(SlR aG Bx2 encAway 2 Ax2 nx2 cx2 x.Away)∧(Blk aG u 106 [i6 0,i6 0,i6 0,i6 0])∧(Blk aG n 102 [i6 m.Id,i6 m.Copies,i6 m.Torn])∧(Blk aG F 129 [i6 1,i6 5])∧(((-100000≤m.Id∧m.Id≤100000)∧(-100000≤m.Copies∧m.Copies≤100000)∧(-100000≤m.Torn∧m.Torn≤100000))∧tc≤t∧t≤tc+4):=qd
 have wN:=f4.size
 have xQ:=f6.lt
 have xR:=eU.lt
 have xT:=f8.lt
 have xU:=ga.lt
 have xV:=gb.lt
 refine Ws (Ws (Wr (Q (fA fa34_1 G)<|Q (lB sca32 G eU G)<|Q (r_len und32 G)<|Q (r_gt G G)<|Qn (W.thenJ (fun f' w'=>∃ g:Away × Int × Int,At f' [(0,pt gc),(4,pt u),(5,pt n),(6,pt F)]∧(Kp (fun b_=>b_=gc) w w')∧(Blk w' gc ec [.slice Ac nc cc,i6 g.2.1,.int .u64 g.2.2])∧(SlR w' Bc encB 1 Ac nc cc Lc)∧(Blk w' u 106 [i6 0,i6 0,i6 0,i6 0])∧(Blk w' n 102 [i6 m.Id,i6 m.Copies,i6 m.Torn])∧(Blk w' F 129 [i6 g.1.Map,i6 g.1.Reader])∧(((-100000≤g.1.Map∧g.1.Map≤100000)∧(-100000≤g.1.Reader∧g.1.Reader≤100000))∧tc≤g.2.1∧g.2.1≤tc+6)) ?_ ?_))))
 ·refine Wd G (fun sm=>?_) (fun sm=>?_)
  ·refine WA (Kp (fun b_=>b_=gc∨b_=F) aG) (fun f' w'=>∃ (aw:Int) (fz:Int) (mw:Int),At f' [(0,pt gc),(4,pt u),(5,pt n),(6,pt F)]∧(Kp (fun b_=>b_=gc∨b_=F) aG w')∧(Blk w' gc ec [.slice Ac nc cc,i6 fz,.int .u64 mw])∧(Blk w' F 129 [i6 ((gt x.Away aw.toNat).Map),i6 ((gt x.Away aw.toNat).Reader)])∧(t≤fz∧fz≤t+2)∧((0:Int)≤aw∧((aw:Int)<(nx2:Int)∨(aw:Int)=0))∧(x.Away[aw.toNat]?=some (gt x.Away aw.toNat))∧((-100000≤(gt x.Away aw.toNat).Map∧(gt x.Away aw.toNat).Map≤100000)∧(-100000≤(gt x.Away aw.toNat).Reader∧(gt x.Away aw.toNat).Reader≤100000))) mo ?_ ?_
   ·intro sD ai
    have yw:=ai.size
    refine Ak 0 G (kr ai) (fun w' hw'=>fA fa34_1 G)<|Ak 1 G (kr ai) (fun w' hw'=>lB sca32 G (eU.kp hw' (fun e'=>e'.elim (fun e'=>by have e'':g1=gc:=e'; omega) (fun e'=>by have e'':g1=F:=e'; omega))) G)<|Ak 2 G (kr ai) (fun w' hw'=>mP G)<|Ak 3 G (kr ai) (fun w' hw'=>fA fa34_1 G)<|Ak 4 G (kr ai) (fun w' hw'=>lB sca32 G (eU.kp hw' (fun e'=>e'.elim (fun e'=>by have e'':g1=gc:=e'; omega) (fun e'=>by have e'':g1=F:=e'; omega))) G)<|Ak 5 G (kr ai) (fun w' hw'=>r_len und32 G)<|Ab 6 G (Qc ent59 (c___spec_l1Cur__pick sD Lc t z (f6.lo ai) (f7.lo ai) oB oB (nx2:Int) oD) G ?_)
    rintro e A6 ⟨fC,sB,sw,rfl,qh,q6,qX,eM⟩
    refine ⟨_,G,?_⟩
    have yx:=eM.size
    have ew:=((kr ai:Kp (fun b_=>b_=gc∨b_=F) aG _)).step eM (fun _ _ e=>.inl e)
    refine Qn ⟨ew,_,G,?_⟩
    have gB:=((bm.lo ai).kpb eM (fun hn_ e'=>(kE oB) e')).elem (i:=fC.toNat) oB
    have qY:=AwayB.at yd gB
    refine Ak 7 G ew (fun w' hw'=>rX tsl32 (bm.kpb hw' (fun hn_ e'=>e'.elim (fun e'=>(kE oB) e') (fun e'=>by have e'':(adr Ax2).block=F:=e'; have h2:=bm.blk hn_; omega))) G G oB)<|Ak 8 G ew (fun w' hw'=>r_lda (l:=encAway (gt x.Away fC.toNat)) agg129 G (fun _ _ hu=>(bm.kpb hw' (fun hn_ e'=>e'.elim (fun e'=>(kE oB) e') (fun e'=>by have e'':(adr Ax2).block=F:=e'; have h2:=bm.blk hn_; omega))).cell gB hu) ((bm.kpb hw' (fun hn_ e'=>e'.elim (fun e'=>(kE oB) e') (fun e'=>by have e'':(adr Ax2).block=F:=e'; have h2:=bm.blk hn_; omega))).esz _))<|Ab 9 G (Qw (o:=0) (vs:=[i6 ((gt x.Away fC.toNat).Map),i6 ((gt x.Away fC.toNat).Reader)]) agg129.2 G G G G ((gb.lo ai).kn eM) ler G ?_)
    intro A7 lU yl qi
    have k9:=ew.step lU (fun _ _ e=>.inr e)
    refine Qn ⟨k9,_,G,(Ad oC (⟨fC,sB,sw,(At.r G),k9,(qh.kn lU),qi,q6,qX,gB,qY⟩))⟩
   rintro AF Ba ⟨aw,fz,mw,nv,dA,qz,qA,yo,yg,ys,yh⟩
   rw [← sA nv]
   have yy:=dA.size
   exact ⟨_,G,((gt x.Away aw.toNat),fz,mw),(At.r G),(f4.step dA (fun i_ hi_ e'=>e'.elim (fun e'=>e') (fun e'=>by have e'':i_=F:=e'; omega))),qz,f7.kp dA (fun b_ hb e'=>e'.elim (fun e'=>by have e'':b_=gc:=e'; omega) (fun e'=>by have e'':b_=F:=e'; omega)),f8.kp dA (fun e'=>e'.elim (fun e'=>by have e'':u=gc:=e'; omega) (fun e'=>by have e'':u=F:=e'; omega)),ga.kp dA (fun e'=>e'.elim (fun e'=>by have e'':n=gc:=e'; omega) (fun e'=>by have e'':n=F:=e'; omega)),qA,oF⟩
  ·refine Wk (⟨_,G,((⟨1,5⟩:Away),t,z),(At.r G),f4,f6,f7,f8,ga,gb,oF⟩)
 rintro AG dU ⟨⟨a,t2,z2⟩,nw,qe⟩
 rw [← sA nw]
 obtain ⟨k6,lW,O,P,gf,lX,xP⟩:(Kp (fun b_=>b_=gc) w dU)∧(Blk dU gc ec [.slice Ac nc cc,i6 t2,.int .u64 z2])∧(SlR dU Bc encB 1 Ac nc cc Lc)∧(Blk dU u 106 [i6 0,i6 0,i6 0,i6 0])∧(Blk dU n 102 [i6 m.Id,i6 m.Copies,i6 m.Torn])∧(Blk dU F 129 [i6 a.Map,i6 a.Reader])∧(((-100000≤a.Map∧a.Map≤100000)∧(-100000≤a.Reader∧a.Reader≤100000))∧tc≤t2∧t2≤tc+6):=qe
 have wO:=k6.size
 have xW:=lW.lt
 have xX:=P.lt
 have xY:=gf.lt
 have xZ:=lX.lt
 refine Ws (Ws (Wr (Q (mP G)<|Qc ent61 (c___spec_l1Cur__one dU Lc t2 z2 lW O oB oB 40 oD) G ?_)))
 rintro e f ⟨AY,A,V,rfl,X,yp,v⟩
 refine ⟨_,G,?_⟩
 have yz:=v.size
 have k7:=k6.step v (fun i_ hi_ e'=>e')
 refine Qn (Wb G (fun sn=>?_) (fun sn=>?_))
 ·refine Ws (WA (Kp (fun b_=>b_=gc∨b_=u) f) (fun f' w'=>∃ (b:Nat) (am:Int) (aF:Int) (dY:Int) (dv:Nat) (d1:Int) (fB:Int) (mx:Int) (c:Int) (d:Int) (q:Int) (y:Nat) (B:Int) (H:Int) (aa:Int) (ab:Nat),At f' [(0,pt gc),(4,pt u),(5,pt n),(6,pt F)]∧(Kp (fun b_=>b_=gc∨b_=u) f w')∧(Blk w' gc ec [.slice Ac nc cc,i6 fB,.int .u64 mx])∧(Blk w' u 106 [i6 c,i6 B,i6 am,i6 d1])∧(A≤d∧d≤A+2)∧(c∈([0,8,2]:List Int))∧((0:Int)≤c∧c≤8)∧(d≤H∧H≤d+2)∧(B∈([0,m.Id,100]:List Int))∧((B:Int)=0∨(B:Int)=m.Id∨(B:Int)=100)∧(H≤aF∧aF≤H+2)∧(am∈([0,5]:List Int))∧((0:Int)≤am∧am≤5)∧(aF≤fB∧fB≤aF+2)∧(d1∈([0,1,(-1)]:List Int))∧(((-1):Int)≤d1∧d1≤1)) mo ?_ ?_)
  ·intro yA j
   have uz:=j.size
   refine Av #[true,true,true,true,true,true,true,true,true,true,true,true,true,false,false,false] 3 (fun f' w'=>∃ (b:Nat) (am:Int) (aF:Int) (dY:Int) (dv:Nat) (c:Int) (d:Int) (q:Int) (y:Nat) (B:Int) (H:Int) (aa:Int) (ab:Nat),At f' [(0,pt gc),(4,pt u),(5,pt n),(6,pt F),(42,i6 c),(47,i6 B),(50,i6 am),(51,pt gc),(52,.slice (pA dv) 3 3)]∧(Kp (fun b_=>b_=gc∨b_=u) f w')∧(SlO w' f.heap.size encI 1 3 (pA dv) 3 3 ([0,1,(-1)]:List Int))∧(Blk w' gc ec [.slice Ac nc cc,i6 aF,.int .u64 dY])∧(Blk w' u 106 [i6 0,i6 0,i6 0,i6 0])∧(A≤d∧d≤A+2)∧(c∈([0,8,2]:List Int))∧((0:Int)≤c∧c≤8)∧(d≤H∧H≤d+2)∧(B∈([0,m.Id,100]:List Int))∧((B:Int)=0∨(B:Int)=m.Id∨(B:Int)=100)∧(H≤aF∧aF≤H+2)∧(am∈([0,5]:List Int))∧((0:Int)≤am∧am≤5)) ?_ (fun j0=>?_)
   ·rintro wQ rS ⟨b,am,aF,dY,dv,c,d,q,y,B,H,aa,ab,lc,d8,l0,qB,qC,E,C,D,aE,aC,aD,ms,mq,mr⟩
    rw [← sA lc]
    have uA:=d8.size
    refine Ab 13 G (Qc ent58 (c___spec_l1Cur__among rS Lc aF dY qB ((O.kn v).kp d8 (fun b_ hb e'=>e'.elim (fun e'=>by have e'':b_=gc:=e'; omega) (fun e'=>by have e'':b_=u:=e'; omega))) oB oB ([0,1,(-1)]:List Int) (l0.rd) oB oB (show ¬dv=gc from by first | omega | (have:=l0.base_le G; omega))) G ?_)
    rintro e yB ⟨dL,rv,q7,rfl,nx,pl,ke,eE⟩
    refine ⟨_,G,?_⟩
    have uB:=eE.size
    have ej:=d8.step eE (fun _ _ e=>.inl e)
    have ox:((-1):Int)≤dL∧dL≤1:=mem_rngB (lo:=(-1)) (hi:=1) oG ke
    refine Qn ⟨ej,_,G,(Ak 14 G ej (fun w' hw'=>r_build (vs:=[(0,i6 c),(1,i6 B),(2,i6 am),(3,i6 dL)]) G (bld106_0_1_2_3 _ _ _ _))<|Ab 15 G (Qw (o:=0) (vs:=[i6 c,i6 B,i6 am,i6 dL]) agg106.2 G G G G (qC.kn eE) ler G ?_))⟩
    intro yC jI uh ny
    have ig:=ej.step jI (fun _ _ e=>.inr e)
    refine Qn ⟨ig,_,G,(Ad oC (⟨b,am,aF,dY,dv,dL,rv,q7,c,d,q,y,B,H,aa,ab,(At.r G),ig,(nx.kn jI),ny,E,C,D,aE,aC,aD,ms,mq,mr,pl,ke,ox⟩))⟩
   refine Av #[true,true,true,true,true,true,true,true,true,true,false,true,true,false,false,false] 4 (fun f' w'=>∃ (b:Nat) (fu:Nat) (c:Int) (d:Int) (q:Int) (y:Nat) (B:Int) (H:Int) (aa:Int) (ab:Nat),At f' [(0,pt gc),(4,pt u),(5,pt n),(6,pt F),(42,i6 c),(47,i6 B),(48,pt gc),(49,.slice (pA ab) 2 2),(51,pt gc),(52,.slice (pA fu) 3 3)]∧(Kp (fun b_=>b_=gc∨b_=u) f w')∧(SlO w' f.heap.size encI 1 3 (pA fu) 3 3 ([0,1,(-1)]:List Int))∧(SlO w' f.heap.size encI 1 3 (pA ab) 2 2 ([0,5]:List Int))∧(Blk w' gc ec [.slice Ac nc cc,i6 H,.int .u64 aa])∧(Blk w' u 106 [i6 0,i6 0,i6 0,i6 0])∧(∀ b_,(pA fu)=some ⟨b_,0,none⟩→¬(pA ab)=some ⟨b_,0,none⟩)∧(A≤d∧d≤A+2)∧(c∈([0,8,2]:List Int))∧((0:Int)≤c∧c≤8)∧(d≤H∧H≤d+2)∧(B∈([0,m.Id,100]:List Int))∧((B:Int)=0∨(B:Int)=m.Id∨(B:Int)=100)) ?_ (fun fd=>?_)
   ·rintro wR rT ⟨b,fu,c,d,q,y,B,H,aa,ab,ld,d9,qF,l1,qG,qH,xF,E,C,D,aE,aC,aD⟩
    rw [← sA ld]
    have uC:=d9.size
    refine Ab 10 G (Qc ent58 (c___spec_l1Cur__among rT Lc H aa qG ((O.kn v).kp d9 (fun b_ hb e'=>e'.elim (fun e'=>by have e'':b_=gc:=e'; omega) (fun e'=>by have e'':b_=u:=e'; omega))) oB oB ([0,5]:List Int) (l1.rd) oB oB (show ¬ab=gc from by first | omega | (have:=l1.base_le G; omega))) G ?_)
    rintro e yD ⟨gK,rx,q8,rfl,nz,pm,kf,cN⟩
    refine ⟨_,G,?_⟩
    have uD:=cN.size
    have ii:=d9.step cN (fun _ _ e=>.inl e)
    have oy:(0:Int)≤gK∧gK≤5:=mem_rngB (lo:=0) (hi:=5) oG kf
    refine Qn ⟨ii,_,G,(Ag oC G (j0 _ _ (⟨b,gK,rx,q8,fu,c,d,q,y,B,H,aa,ab,(At.r G),ii,((qF.kn cN).down),nz,(qH.kn cN),E,C,D,aE,aC,aD,pm,kf,oy⟩)))⟩
   refine Av #[true,true,true,true,true,true,true,true,true,true,false,true,false,false,false,false] 5 (fun f' w'=>∃ (b:Nat) (c:Int) (d:Int) (q:Int) (y:Nat) (B:Int) (H:Int) (aa:Int) (ab:Nat),At f' [(0,pt gc),(4,pt u),(5,pt n),(6,pt F),(42,i6 c),(47,i6 B),(48,pt gc),(49,.slice (pA ab) 2 2),(51,pt gc)]∧(Kp (fun b_=>b_=gc∨b_=u) f w')∧(SlO w' f.heap.size encI 1 3 (pA ab) 2 2 ([0,5]:List Int))∧(Blk w' gc ec [.slice Ac nc cc,i6 H,.int .u64 aa])∧(Blk w' u 106 [i6 0,i6 0,i6 0,i6 0])∧(A≤d∧d≤A+2)∧(c∈([0,8,2]:List Int))∧((0:Int)≤c∧c≤8)∧(d≤H∧H≤d+2)∧(B∈([0,m.Id,100]:List Int))∧((B:Int)=0∨(B:Int)=m.Id∨(B:Int)=100)) ?_ (fun j1=>?_)
   ·rintro wS rU ⟨b,c,d,q,y,B,H,aa,ab,lf,cB,eY,lY,lZ,E,C,D,aE,aC,aD⟩
    rw [← sA lf]
    have uE:=cB.size
    refine Ar [10,12] oC G ⟨Bm G trivial ?_,Bm G trivial ?_,trivial⟩
    ·refine Qc ent58 (c___spec_l1Cur__among rU Lc H aa lY ((O.kn v).kp cB (fun b_ hb e'=>e'.elim (fun e'=>by have e'':b_=gc:=e'; omega) (fun e'=>by have e'':b_=u:=e'; omega))) oB oB ([0,5]:List Int) (eY.rd) oB oB (show ¬ab=gc from by first | omega | (have:=eY.base_le G; omega))) G ?_
     rintro e yE ⟨gM,ry,ra,rfl,nA,pn,kg,eF⟩
     refine ⟨_,G,?_⟩
     have uF:=eF.size
     have ij:=cB.step eF (fun _ _ e=>.inl e)
     have oz:(0:Int)≤gM∧gM≤5:=mem_rngB (lo:=0) (hi:=5) oG kg
     refine Qn ⟨ij,_,G,(Ab 12 G (Ql (vs:=[i6 0,i6 1,i6 (-1)]) (L:=([0,1,(-1)]:List Int)) (enc:=encI) tel93 (fun _=>G) G G G oG ?_))⟩
     intro pU yF sE cO mA
     have uG:=cO.size
     have ik:=ij.lo cO
     refine Qn ⟨ik,_,G,(Ag oC G (j0 _ _ (⟨b,gM,ry,ra,pU,c,d,q,y,B,H,aa,ab,(At.r G),ik,(mA.down),(nA.lo cO),((lZ.kn eF).lo cO),E,C,D,aE,aC,aD,pn,kg,oz⟩)))⟩
    ·refine Ql (vs:=[i6 0,i6 1,i6 (-1)]) (L:=([0,1,(-1)]:List Int)) (enc:=encI) tel93 (fun _=>G) G G G oG ?_
     intro kF yG sF bC mC
     have uH:=bC.size
     have il:=cB.lo bC
     refine Qn ⟨il,_,G,(Ag oC G (fd _ _ (⟨b,kF,c,d,q,y,B,H,aa,ab,(At.r G),il,(mC.down),((eY.lo bC).down),(lY.lo bC),(lZ.lo bC),(fun b_ h h'=>(nE (g:=kF) eY) (h'.trans h.symm)),E,C,D,aE,aC,aD⟩)))⟩
   refine Av #[true,true,true,true,true,true,true,true,true,false,false,true,true,false,false,false] 5 (fun f' w'=>∃ (b:Nat) (gW:Nat) (c:Int) (d:Int) (q:Int) (y:Nat) (B:Int) (H:Int) (aa:Int),At f' [(0,pt gc),(4,pt u),(5,pt n),(6,pt F),(42,i6 c),(47,i6 B),(48,pt gc),(51,pt gc),(52,.slice (pA gW) 3 3)]∧(Kp (fun b_=>b_=gc∨b_=u) f w')∧(SlO w' f.heap.size encI 1 3 (pA gW) 3 3 ([0,1,(-1)]:List Int))∧(Blk w' gc ec [.slice Ac nc cc,i6 H,.int .u64 aa])∧(Blk w' u 106 [i6 0,i6 0,i6 0,i6 0])∧(A≤d∧d≤A+2)∧(c∈([0,8,2]:List Int))∧((0:Int)≤c∧c≤8)∧(d≤H∧H≤d+2)∧(B∈([0,m.Id,100]:List Int))∧((B:Int)=0∨(B:Int)=m.Id∨(B:Int)=100)) ?_ (fun j2=>?_)
   ·rintro wT yH ⟨b,gW,c,d,q,y,B,H,aa,lg,hH,l2,qI,qJ,E,C,D,aE,aC,aD⟩
    rw [← sA lg]
    have uI:=hH.size
    refine Ab 9 G (Ql (vs:=[i6 0,i6 5]) (L:=([0,5]:List Int)) (enc:=encI) tel93 (fun _=>G) G G G oG ?_)
    intro kG yI sG bD mD
    have uJ:=bD.size
    have im:=hH.lo bD
    refine Qn ⟨im,_,G,(Ag oC G (fd _ _ (⟨b,gW,c,d,q,y,B,H,aa,kG,(At.r G),im,((l2.lo bD).down),(mD.down),(qI.lo bD),(qJ.lo bD),(fun b_ h h'=>(nE (g:=kG) l2) (h.trans h'.symm)),E,C,D,aE,aC,aD⟩)))⟩
   refine Av #[true,true,true,true,true,true,true,false,true,true,false,true,true,false,false,false] 5 (fun f' w'=>∃ (b:Nat) (dV:Nat) (c:Int) (d:Int) (q:Int) (y:Nat) (au:Nat),At f' [(0,pt gc),(4,pt u),(5,pt n),(6,pt F),(42,i6 c),(43,pt gc),(46,.slice (pA y) 3 3),(48,pt gc),(49,.slice (pA au) 2 2),(51,pt gc),(52,.slice (pA dV) 3 3)]∧(Kp (fun b_=>b_=gc∨b_=u) f w')∧(SlO w' f.heap.size encI 1 3 (pA dV) 3 3 ([0,1,(-1)]:List Int))∧(SlO w' f.heap.size encI 1 3 (pA y) 3 3 ([0,m.Id,100]:List Int))∧(SlO w' f.heap.size encI 1 3 (pA au) 2 2 ([0,5]:List Int))∧(Blk w' gc ec [.slice Ac nc cc,i6 d,.int .u64 q])∧(Blk w' u 106 [i6 0,i6 0,i6 0,i6 0])∧(∀ b_,(pA dV)=some ⟨b_,0,none⟩→¬(pA y)=some ⟨b_,0,none⟩)∧(∀ b_,(pA dV)=some ⟨b_,0,none⟩→¬(pA au)=some ⟨b_,0,none⟩)∧(∀ b_,(pA y)=some ⟨b_,0,none⟩→¬(pA au)=some ⟨b_,0,none⟩)∧(A≤d∧d≤A+2)∧(c∈([0,8,2]:List Int))∧((0:Int)≤c∧c≤8)) ?_ (fun dr=>?_)
   ·rintro wU rV ⟨b,dV,c,d,q,y,au,lh,ea,qK,l5,qL,qM,qN,xH,qk,xJ,E,C,D⟩
    rw [← sA lh]
    have uK:=ea.size
    refine Ab 7 G (Qc ent58 (c___spec_l1Cur__among rV Lc d q qM ((O.kn v).kp ea (fun b_ hb e'=>e'.elim (fun e'=>by have e'':b_=gc:=e'; omega) (fun e'=>by have e'':b_=u:=e'; omega))) oB oB ([0,m.Id,100]:List Int) (l5.rd) oB oB (show ¬y=gc from by first | omega | (have:=l5.base_le G; omega))) G ?_)
    rintro e yJ ⟨fq,rz,rb,rfl,nB,po,kh,bE⟩
    refine ⟨_,G,?_⟩
    have uL:=bE.size
    have io:=ea.step bE (fun _ _ e=>.inl e)
    have o0:(fq:Int)=0∨(fq:Int)=m.Id∨(fq:Int)=100:=by simpa only [List.mem_cons,List.not_mem_nil,or_false] using kh
    refine Qn ⟨io,_,G,(Ag oC G (fd _ _ (⟨b,dV,c,d,q,y,fq,rz,rb,au,(At.r G),io,((qK.kn bE).down),((qL.kn bE).down),nB,(qN.kn bE),qk,E,C,D,po,kh,o0⟩)))⟩
   refine Av #[true,true,true,true,true,true,true,false,true,true,false,true,false,false,false,false] 6 (fun f' w'=>∃ (b:Nat) (c:Int) (d:Int) (q:Int) (y:Nat) (au:Nat),At f' [(0,pt gc),(4,pt u),(5,pt n),(6,pt F),(42,i6 c),(43,pt gc),(46,.slice (pA y) 3 3),(48,pt gc),(49,.slice (pA au) 2 2),(51,pt gc)]∧(Kp (fun b_=>b_=gc∨b_=u) f w')∧(SlO w' f.heap.size encI 1 3 (pA y) 3 3 ([0,m.Id,100]:List Int))∧(SlO w' f.heap.size encI 1 3 (pA au) 2 2 ([0,5]:List Int))∧(Blk w' gc ec [.slice Ac nc cc,i6 d,.int .u64 q])∧(Blk w' u 106 [i6 0,i6 0,i6 0,i6 0])∧(∀ b_,(pA y)=some ⟨b_,0,none⟩→¬(pA au)=some ⟨b_,0,none⟩)∧(A≤d∧d≤A+2)∧(c∈([0,8,2]:List Int))∧((0:Int)≤c∧c≤8)) ?_ (fun fe=>?_)
   ·rintro wV rW ⟨b,c,d,q,y,au,li,cC,eZ,gi,l3,l4,qj,E,C,D⟩
    rw [← sA li]
    have uM:=cC.size
    refine Ar [7,12] oC G ⟨Bm G trivial ?_,Bm G trivial ?_,trivial⟩
    ·refine Qc ent58 (c___spec_l1Cur__among rW Lc d q l3 ((O.kn v).kp cC (fun b_ hb e'=>e'.elim (fun e'=>by have e'':b_=gc:=e'; omega) (fun e'=>by have e'':b_=u:=e'; omega))) oB oB ([0,m.Id,100]:List Int) (eZ.rd) oB oB (show ¬y=gc from by first | omega | (have:=eZ.base_le G; omega))) G ?_
     rintro e yK ⟨fr,rA,rc,rfl,nC,pp,ki,cP⟩
     refine ⟨_,G,?_⟩
     have uN:=cP.size
     have ip:=cC.step cP (fun _ _ e=>.inl e)
     have o1:(fr:Int)=0∨(fr:Int)=m.Id∨(fr:Int)=100:=by simpa only [List.mem_cons,List.not_mem_nil,or_false] using ki
     refine Qn ⟨ip,_,G,(Ag oC G (j1 _ _ (⟨b,c,d,q,y,fr,rA,rc,au,(At.r G),ip,((gi.kn cP).down),nC,(l4.kn cP),E,C,D,pp,ki,o1⟩)))⟩
    ·refine Ql (vs:=[i6 0,i6 1,i6 (-1)]) (L:=([0,1,(-1)]:List Int)) (enc:=encI) tel93 (fun _=>G) G G G oG ?_
     intro fD yL sH aQ mE
     have uO:=aQ.size
     have iq:=cC.lo aQ
     refine Qn ⟨iq,_,G,(Ag oC G (dr _ _ (⟨b,fD,c,d,q,y,au,(At.r G),iq,(mE.down),((eZ.lo aQ).down),((gi.lo aQ).down),(l3.lo aQ),(l4.lo aQ),(fun b_ h h'=>(nE (g:=fD) eZ) (h'.trans h.symm)),(fun b_ h h'=>(nE (g:=fD) gi) (h'.trans h.symm)),qj,E,C,D⟩)))⟩
   refine Av #[true,true,true,true,true,true,true,false,true,false,false,true,true,false,false,false] 6 (fun f' w'=>∃ (b:Nat) (dW:Nat) (c:Int) (d:Int) (q:Int) (y:Nat),At f' [(0,pt gc),(4,pt u),(5,pt n),(6,pt F),(42,i6 c),(43,pt gc),(46,.slice (pA y) 3 3),(48,pt gc),(51,pt gc),(52,.slice (pA dW) 3 3)]∧(Kp (fun b_=>b_=gc∨b_=u) f w')∧(SlO w' f.heap.size encI 1 3 (pA dW) 3 3 ([0,1,(-1)]:List Int))∧(SlO w' f.heap.size encI 1 3 (pA y) 3 3 ([0,m.Id,100]:List Int))∧(Blk w' gc ec [.slice Ac nc cc,i6 d,.int .u64 q])∧(Blk w' u 106 [i6 0,i6 0,i6 0,i6 0])∧(∀ b_,(pA dW)=some ⟨b_,0,none⟩→¬(pA y)=some ⟨b_,0,none⟩)∧(A≤d∧d≤A+2)∧(c∈([0,8,2]:List Int))∧((0:Int)≤c∧c≤8)) ?_ (fun ff=>?_)
   ·rintro wW rY ⟨b,dW,c,d,q,y,lj,cD,gj,e6,l7,l8,ql,E,C,D⟩
    rw [← sA lj]
    have uP:=cD.size
    refine Ar [7,9] oC G ⟨Bm G trivial ?_,Bm G trivial ?_,trivial⟩
    ·refine Qc ent58 (c___spec_l1Cur__among rY Lc d q l7 ((O.kn v).kp cD (fun b_ hb e'=>e'.elim (fun e'=>by have e'':b_=gc:=e'; omega) (fun e'=>by have e'':b_=u:=e'; omega))) oB oB ([0,m.Id,100]:List Int) (e6.rd) oB oB (show ¬y=gc from by first | omega | (have:=e6.base_le G; omega))) G ?_
     rintro e yM ⟨fs,rB,re,rfl,nD,pq,kj,cQ⟩
     refine ⟨_,G,?_⟩
     have uQ:=cQ.size
     have ir:=cD.step cQ (fun _ _ e=>.inl e)
     have o2:(fs:Int)=0∨(fs:Int)=m.Id∨(fs:Int)=100:=by simpa only [List.mem_cons,List.not_mem_nil,or_false] using kj
     refine Qn ⟨ir,_,G,(Ag oC G (j2 _ _ (⟨b,dW,c,d,q,y,fs,rB,re,(At.r G),ir,((gj.kn cQ).down),nD,(l8.kn cQ),E,C,D,pq,kj,o2⟩)))⟩
    ·refine Ql (vs:=[i6 0,i6 5]) (L:=([0,5]:List Int)) (enc:=encI) tel93 (fun _=>G) G G G oG ?_
     intro fE yN sI aR mF
     have uR:=aR.size
     have iu:=cD.lo aR
     refine Qn ⟨iu,_,G,(Ag oC G (dr _ _ (⟨b,dW,c,d,q,y,fE,(At.r G),iu,((gj.lo aR).down),((e6.lo aR).down),(mF.down),(l7.lo aR),(l8.lo aR),ql,(fun b_ h h'=>(nE (g:=fE) gj) (h.trans h'.symm)),(fun b_ h h'=>(nE (g:=fE) e6) (h.trans h'.symm)),E,C,D⟩)))⟩
   refine Av #[true,true,true,true,true,true,false,false,true,true,false,true,true,false,false,false] 6 (fun f' w'=>∃ (b:Nat) (fv:Nat) (c:Int) (d:Int) (q:Int) (aH:Nat),At f' [(0,pt gc),(4,pt u),(5,pt n),(6,pt F),(42,i6 c),(43,pt gc),(45,i6 m.Id),(48,pt gc),(49,.slice (pA aH) 2 2),(51,pt gc),(52,.slice (pA fv) 3 3)]∧(Kp (fun b_=>b_=gc∨b_=u) f w')∧(SlO w' f.heap.size encI 1 3 (pA fv) 3 3 ([0,1,(-1)]:List Int))∧(SlO w' f.heap.size encI 1 3 (pA aH) 2 2 ([0,5]:List Int))∧(Blk w' gc ec [.slice Ac nc cc,i6 d,.int .u64 q])∧(Blk w' u 106 [i6 0,i6 0,i6 0,i6 0])∧(∀ b_,(pA fv)=some ⟨b_,0,none⟩→¬(pA aH)=some ⟨b_,0,none⟩)∧(A≤d∧d≤A+2)∧(c∈([0,8,2]:List Int))∧((0:Int)≤c∧c≤8)) ?_ (fun fg=>?_)
   ·rintro wX yO ⟨b,fv,c,d,q,aH,lk,hI,mc,md,qO,qP,qm,E,C,D⟩
    rw [← sA lk]
    have uS:=hI.size
    refine Ab 6 G (Ql (vs:=[i6 0,i6 m.Id,i6 100]) (L:=([0,m.Id,100]:List Int)) (enc:=encI) tel93 (fun _=>G) G G G oG ?_)
    intro fF yP sJ aT mG
    have uT:=aT.size
    have iv:=hI.lo aT
    refine Qn ⟨iv,_,G,(Ag oC G (dr _ _ (⟨b,fv,c,d,q,fF,aH,(At.r G),iv,((mc.lo aT).down),(mG.down),((md.lo aT).down),(qO.lo aT),(qP.lo aT),(fun b_ h h'=>(nE (g:=fF) mc) (h.trans h'.symm)),qm,(fun b_ h h'=>(nE (g:=fF) md) (h'.trans h.symm)),E,C,D⟩)))⟩
   refine Av #[true,true,false,true,true,true,true,false,true,true,false,true,true,false,false,false] 6 (fun f' w'=>∃ (b:Nat) (dw:Nat) (J:Nat) (ak:Nat),At f' [(0,pt gc),(4,pt u),(5,pt n),(6,pt F),(40,pt gc),(41,.slice (pA b) 3 3),(43,pt gc),(46,.slice (pA J) 3 3),(48,pt gc),(49,.slice (pA ak) 2 2),(51,pt gc),(52,.slice (pA dw) 3 3)]∧(Kp (fun b_=>b_=gc∨b_=u) f w')∧(SlO w' f.heap.size encI 1 3 (pA b) 3 3 ([0,8,2]:List Int))∧(SlO w' f.heap.size encI 1 3 (pA dw) 3 3 ([0,1,(-1)]:List Int))∧(SlO w' f.heap.size encI 1 3 (pA J) 3 3 ([0,m.Id,100]:List Int))∧(SlO w' f.heap.size encI 1 3 (pA ak) 2 2 ([0,5]:List Int))∧(Blk w' gc ec [.slice Ac nc cc,i6 A,.int .u64 V])∧(Blk w' u 106 [i6 0,i6 0,i6 0,i6 0])∧(∀ b_,(pA b)=some ⟨b_,0,none⟩→¬(pA dw)=some ⟨b_,0,none⟩)∧(∀ b_,(pA b)=some ⟨b_,0,none⟩→¬(pA J)=some ⟨b_,0,none⟩)∧(∀ b_,(pA b)=some ⟨b_,0,none⟩→¬(pA ak)=some ⟨b_,0,none⟩)∧(∀ b_,(pA dw)=some ⟨b_,0,none⟩→¬(pA J)=some ⟨b_,0,none⟩)∧(∀ b_,(pA dw)=some ⟨b_,0,none⟩→¬(pA ak)=some ⟨b_,0,none⟩)∧(∀ b_,(pA J)=some ⟨b_,0,none⟩→¬(pA ak)=some ⟨b_,0,none⟩)) ?_ (fun dt=>?_)
   ·rintro wY rZ ⟨b,dw,J,ak,ll,ed,mi,qQ,qR,qS,qT,qU,xK,xM,xN,qp,qq,qr⟩
    rw [← sA ll]
    have uU:=ed.size
    refine Ab 2 G (Qc ent58 (c___spec_l1Cur__among rZ Lc A V qT ((O.kn v).kp ed (fun b_ hb e'=>e'.elim (fun e'=>by have e'':b_=gc:=e'; omega) (fun e'=>by have e'':b_=u:=e'; omega))) oB oB ([0,8,2]:List Int) (mi.rd) oB oB (show ¬b=gc from by first | omega | (have:=mi.base_le G; omega))) G ?_)
    rintro e yQ ⟨gN,rC,rf,rfl,nF,pr,kk,aU⟩
    refine ⟨_,G,?_⟩
    have uV:=aU.size
    have iw:=ed.step aU (fun _ _ e=>.inl e)
    have o3:(0:Int)≤gN∧gN≤8:=mem_rngB (lo:=0) (hi:=8) oG kk
    refine Qn ⟨iw,_,G,(Ag oC G (dr _ _ (⟨b,dw,gN,rC,rf,J,ak,(At.r G),iw,((qQ.kn aU).down),((qR.kn aU).down),((qS.kn aU).down),nF,(qU.kn aU),qp,qq,qr,pr,kk,o3⟩)))⟩
   refine Av #[true,true,true,true,true,true,true,false,true,false,false,true,false,false,false,false] 7 (fun f' w'=>∃ (b:Nat) (c:Int) (d:Int) (q:Int) (y:Nat),At f' [(0,pt gc),(4,pt u),(5,pt n),(6,pt F),(42,i6 c),(43,pt gc),(46,.slice (pA y) 3 3),(48,pt gc),(51,pt gc)]∧(Kp (fun b_=>b_=gc∨b_=u) f w')∧(SlO w' f.heap.size encI 1 3 (pA y) 3 3 ([0,m.Id,100]:List Int))∧(Blk w' gc ec [.slice Ac nc cc,i6 d,.int .u64 q])∧(Blk w' u 106 [i6 0,i6 0,i6 0,i6 0])∧(A≤d∧d≤A+2)∧(c∈([0,8,2]:List Int))∧((0:Int)≤c∧c≤8)) ?_ (fun j3=>?_)
   ·rintro wZ r1 ⟨b,c,d,q,y,lm,bt,co,gh,eX,E,C,D⟩
    rw [← sA lm]
    have uW:=bt.size
    refine Ar [7,9,12] oC G ⟨Bm G trivial ?_,Bm G trivial ?_,Bm G trivial ?_,trivial⟩
    ·refine Qc ent58 (c___spec_l1Cur__among r1 Lc d q gh ((O.kn v).kp bt (fun b_ hb e'=>e'.elim (fun e'=>by have e'':b_=gc:=e'; omega) (fun e'=>by have e'':b_=u:=e'; omega))) oB oB ([0,m.Id,100]:List Int) (co.rd) oB oB (show ¬y=gc from by first | omega | (have:=co.base_le G; omega))) G ?_
     rintro e yR ⟨dM,my,mv,rfl,jD,kC,fm,cR⟩
     refine ⟨_,G,?_⟩
     have uX:=cR.size
     have ek:=bt.step cR (fun _ _ e=>.inl e)
     have kl:(dM:Int)=0∨(dM:Int)=m.Id∨(dM:Int)=100:=by simpa only [List.mem_cons,List.not_mem_nil,or_false] using fm
     refine Qn ⟨ek,_,G,(Ar [9,12] oC G ⟨Bm G trivial ?_,Bm G trivial ?_,trivial⟩)⟩
     ·refine Ql (vs:=[i6 0,i6 5]) (L:=([0,5]:List Int)) (enc:=encI) tel93 (fun _=>G) G G G oG ?_
      intro pV yS sK cS mH
      have uY:=cS.size
      have ix:=ek.lo cS
      refine Qn ⟨ix,_,G,(Ag oC G (j1 _ _ (⟨b,c,d,q,y,dM,my,mv,pV,(At.r G),ix,(mH.down),(jD.lo cS),((eX.kn cR).lo cS),E,C,D,kC,fm,kl⟩)))⟩
     ·refine Ql (vs:=[i6 0,i6 1,i6 (-1)]) (L:=([0,1,(-1)]:List Int)) (enc:=encI) tel93 (fun _=>G) G G G oG ?_
      intro pW yT sL cT mJ
      have uZ:=cT.size
      have iy:=ek.lo cT
      refine Qn ⟨iy,_,G,(Ag oC G (j2 _ _ (⟨b,pW,c,d,q,y,dM,my,mv,(At.r G),iy,(mJ.down),(jD.lo cT),((eX.kn cR).lo cT),E,C,D,kC,fm,kl⟩)))⟩
    ·refine Ql (vs:=[i6 0,i6 5]) (L:=([0,5]:List Int)) (enc:=encI) tel93 (fun _=>G) G G G oG ?_
     intro kH yU sM bF mK
     have u0:=bF.size
     have iz:=bt.lo bF
     refine Qn ⟨iz,_,G,(Ag oC G (fe _ _ (⟨b,c,d,q,y,kH,(At.r G),iz,((co.lo bF).down),(mK.down),(gh.lo bF),(eX.lo bF),(fun b_ h h'=>(nE (g:=kH) co) (h.trans h'.symm)),E,C,D⟩)))⟩
    ·refine Ql (vs:=[i6 0,i6 1,i6 (-1)]) (L:=([0,1,(-1)]:List Int)) (enc:=encI) tel93 (fun _=>G) G G G oG ?_
     intro kI yV sN bG mM
     have u1:=bG.size
     have iA:=bt.lo bG
     refine Qn ⟨iA,_,G,(Ag oC G (ff _ _ (⟨b,kI,c,d,q,y,(At.r G),iA,(mM.down),((co.lo bG).down),(gh.lo bG),(eX.lo bG),(fun b_ h h'=>(nE (g:=kI) co) (h'.trans h.symm)),E,C,D⟩)))⟩
   refine Av #[true,true,true,true,true,true,false,false,true,true,false,true,false,false,false,false] 7 (fun f' w'=>∃ (b:Nat) (c:Int) (d:Int) (q:Int) (aH:Nat),At f' [(0,pt gc),(4,pt u),(5,pt n),(6,pt F),(42,i6 c),(43,pt gc),(45,i6 m.Id),(48,pt gc),(49,.slice (pA aH) 2 2),(51,pt gc)]∧(Kp (fun b_=>b_=gc∨b_=u) f w')∧(SlO w' f.heap.size encI 1 3 (pA aH) 2 2 ([0,5]:List Int))∧(Blk w' gc ec [.slice Ac nc cc,i6 d,.int .u64 q])∧(Blk w' u 106 [i6 0,i6 0,i6 0,i6 0])∧(A≤d∧d≤A+2)∧(c∈([0,8,2]:List Int))∧((0:Int)≤c∧c≤8)) ?_ (fun j4=>?_)
   ·rintro w0 yW ⟨b,c,d,q,aH,ln,ee,e7,ma,mb,E,C,D⟩
    rw [← sA ln]
    have u2:=ee.size
    refine Ar [6,12] oC G ⟨Bm G trivial ?_,Bm G trivial ?_,trivial⟩
    ·refine Ql (vs:=[i6 0,i6 m.Id,i6 100]) (L:=([0,m.Id,100]:List Int)) (enc:=encI) tel93 (fun _=>G) G G G oG ?_
     intro kJ yX sO bH mN
     have u4:=bH.size
     have iB:=ee.lo bH
     refine Qn ⟨iB,_,G,(Ag oC G (fe _ _ (⟨b,c,d,q,kJ,aH,(At.r G),iB,(mN.down),((e7.lo bH).down),(ma.lo bH),(mb.lo bH),(fun b_ h h'=>(nE (g:=kJ) e7) (h'.trans h.symm)),E,C,D⟩)))⟩
    ·refine Ql (vs:=[i6 0,i6 1,i6 (-1)]) (L:=([0,1,(-1)]:List Int)) (enc:=encI) tel93 (fun _=>G) G G G oG ?_
     intro kK yY sP bI mO
     have u5:=bI.size
     have iC:=ee.lo bI
     refine Qn ⟨iC,_,G,(Ag oC G (fg _ _ (⟨b,kK,c,d,q,aH,(At.r G),iC,(mO.down),((e7.lo bI).down),(ma.lo bI),(mb.lo bI),(fun b_ h h'=>(nE (g:=kK) e7) (h'.trans h.symm)),E,C,D⟩)))⟩
   refine Av #[true,true,true,true,true,true,false,false,true,false,false,true,true,false,false,false] 7 (fun f' w'=>∃ (b:Nat) (fw:Nat) (c:Int) (d:Int) (q:Int),At f' [(0,pt gc),(4,pt u),(5,pt n),(6,pt F),(42,i6 c),(43,pt gc),(45,i6 m.Id),(48,pt gc),(51,pt gc),(52,.slice (pA fw) 3 3)]∧(Kp (fun b_=>b_=gc∨b_=u) f w')∧(SlO w' f.heap.size encI 1 3 (pA fw) 3 3 ([0,1,(-1)]:List Int))∧(Blk w' gc ec [.slice Ac nc cc,i6 d,.int .u64 q])∧(Blk w' u 106 [i6 0,i6 0,i6 0,i6 0])∧(A≤d∧d≤A+2)∧(c∈([0,8,2]:List Int))∧((0:Int)≤c∧c≤8)) ?_ (fun j5=>?_)
   ·rintro w7 yZ ⟨b,fw,c,d,q,lp,ef,e9,me,mf,E,C,D⟩
    rw [← sA lp]
    have u6:=ef.size
    refine Ar [6,9] oC G ⟨Bm G trivial ?_,Bm G trivial ?_,trivial⟩
    ·refine Ql (vs:=[i6 0,i6 m.Id,i6 100]) (L:=([0,m.Id,100]:List Int)) (enc:=encI) tel93 (fun _=>G) G G G oG ?_
     intro kL y0 sQ bJ mQ
     have u7:=bJ.size
     have iD:=ef.lo bJ
     refine Qn ⟨iD,_,G,(Ag oC G (ff _ _ (⟨b,fw,c,d,q,kL,(At.r G),iD,((e9.lo bJ).down),(mQ.down),(me.lo bJ),(mf.lo bJ),(fun b_ h h'=>(nE (g:=kL) e9) (h.trans h'.symm)),E,C,D⟩)))⟩
    ·refine Ql (vs:=[i6 0,i6 5]) (L:=([0,5]:List Int)) (enc:=encI) tel93 (fun _=>G) G G G oG ?_
     intro kM y1 sR bK mR
     have va:=bK.size
     have iE:=ef.lo bK
     refine Qn ⟨iE,_,G,(Ag oC G (fg _ _ (⟨b,fw,c,d,q,kM,(At.r G),iE,((e9.lo bK).down),(mR.down),(me.lo bK),(mf.lo bK),(fun b_ h h'=>(nE (g:=kM) e9) (h.trans h'.symm)),E,C,D⟩)))⟩
   refine Av #[true,true,false,true,true,true,true,false,true,true,false,true,false,false,false,false] 7 (fun f' w'=>∃ (b:Nat) (J:Nat) (ak:Nat),At f' [(0,pt gc),(4,pt u),(5,pt n),(6,pt F),(40,pt gc),(41,.slice (pA b) 3 3),(43,pt gc),(46,.slice (pA J) 3 3),(48,pt gc),(49,.slice (pA ak) 2 2),(51,pt gc)]∧(Kp (fun b_=>b_=gc∨b_=u) f w')∧(SlO w' f.heap.size encI 1 3 (pA b) 3 3 ([0,8,2]:List Int))∧(SlO w' f.heap.size encI 1 3 (pA J) 3 3 ([0,m.Id,100]:List Int))∧(SlO w' f.heap.size encI 1 3 (pA ak) 2 2 ([0,5]:List Int))∧(Blk w' gc ec [.slice Ac nc cc,i6 A,.int .u64 V])∧(Blk w' u 106 [i6 0,i6 0,i6 0,i6 0])∧(∀ b_,(pA b)=some ⟨b_,0,none⟩→¬(pA J)=some ⟨b_,0,none⟩)∧(∀ b_,(pA b)=some ⟨b_,0,none⟩→¬(pA ak)=some ⟨b_,0,none⟩)∧(∀ b_,(pA J)=some ⟨b_,0,none⟩→¬(pA ak)=some ⟨b_,0,none⟩)) ?_ (fun fh=>?_)
   ·rintro xa r2 ⟨b,J,ak,lq,cE,fa,gm,gn,mg,mh,qn,qo,lP⟩
    rw [← sA lq]
    have vb:=cE.size
    refine Ar [2,12] oC G ⟨Bm G trivial ?_,Bm G trivial ?_,trivial⟩
    ·refine Qc ent58 (c___spec_l1Cur__among r2 Lc A V mg ((O.kn v).kp cE (fun b_ hb e'=>e'.elim (fun e'=>by have e'':b_=gc:=e'; omega) (fun e'=>by have e'':b_=u:=e'; omega))) oB oB ([0,8,2]:List Int) (fa.rd) oB oB (show ¬b=gc from by first | omega | (have:=fa.base_le G; omega))) G ?_
     rintro e y2 ⟨gO,rD,rg,rfl,nG,pu,km,bL⟩
     refine ⟨_,G,?_⟩
     have vc:=bL.size
     have iF:=cE.step bL (fun _ _ e=>.inl e)
     have o4:(0:Int)≤gO∧gO≤8:=mem_rngB (lo:=0) (hi:=8) oG km
     refine Qn ⟨iF,_,G,(Ag oC G (fe _ _ (⟨b,gO,rD,rg,J,ak,(At.r G),iF,((gm.kn bL).down),((gn.kn bL).down),nG,(mh.kn bL),lP,pu,km,o4⟩)))⟩
    ·refine Ql (vs:=[i6 0,i6 1,i6 (-1)]) (L:=([0,1,(-1)]:List Int)) (enc:=encI) tel93 (fun _=>G) G G G oG ?_
     intro d2 y9 sS ax mU
     have vd:=ax.size
     have iG:=cE.lo ax
     refine Qn ⟨iG,_,G,(Ag oC G (dt _ _ (⟨b,d2,J,ak,(At.r G),iG,((fa.lo ax).down),(mU.down),((gm.lo ax).down),((gn.lo ax).down),(mg.lo ax),(mh.lo ax),(fun b_ h h'=>(nE (g:=d2) fa) (h.trans h'.symm)),qn,qo,(fun b_ h h'=>(nE (g:=d2) gm) (h'.trans h.symm)),(fun b_ h h'=>(nE (g:=d2) gn) (h'.trans h.symm)),lP⟩)))⟩
   refine Av #[true,true,false,true,true,true,true,false,true,false,false,true,true,false,false,false] 7 (fun f' w'=>∃ (b:Nat) (dx:Nat) (J:Nat),At f' [(0,pt gc),(4,pt u),(5,pt n),(6,pt F),(40,pt gc),(41,.slice (pA b) 3 3),(43,pt gc),(46,.slice (pA J) 3 3),(48,pt gc),(51,pt gc),(52,.slice (pA dx) 3 3)]∧(Kp (fun b_=>b_=gc∨b_=u) f w')∧(SlO w' f.heap.size encI 1 3 (pA b) 3 3 ([0,8,2]:List Int))∧(SlO w' f.heap.size encI 1 3 (pA dx) 3 3 ([0,1,(-1)]:List Int))∧(SlO w' f.heap.size encI 1 3 (pA J) 3 3 ([0,m.Id,100]:List Int))∧(Blk w' gc ec [.slice Ac nc cc,i6 A,.int .u64 V])∧(Blk w' u 106 [i6 0,i6 0,i6 0,i6 0])∧(∀ b_,(pA b)=some ⟨b_,0,none⟩→¬(pA dx)=some ⟨b_,0,none⟩)∧(∀ b_,(pA b)=some ⟨b_,0,none⟩→¬(pA J)=some ⟨b_,0,none⟩)∧(∀ b_,(pA dx)=some ⟨b_,0,none⟩→¬(pA J)=some ⟨b_,0,none⟩)) ?_ (fun fj=>?_)
   ·rintro xb r3 ⟨b,dx,J,ls,cF,fb,gp,gr,mj,mm,qt,qu,lQ⟩
    rw [← sA ls]
    have ve:=cF.size
    refine Ar [2,9] oC G ⟨Bm G trivial ?_,Bm G trivial ?_,trivial⟩
    ·refine Qc ent58 (c___spec_l1Cur__among r3 Lc A V mj ((O.kn v).kp cF (fun b_ hb e'=>e'.elim (fun e'=>by have e'':b_=gc:=e'; omega) (fun e'=>by have e'':b_=u:=e'; omega))) oB oB ([0,8,2]:List Int) (fb.rd) oB oB (show ¬b=gc from by first | omega | (have:=fb.base_le G; omega))) G ?_
     rintro e za ⟨gP,rE,rh,rfl,nH,pw,ko,bM⟩
     refine ⟨_,G,?_⟩
     have vf:=bM.size
     have iH:=cF.step bM (fun _ _ e=>.inl e)
     have o5:(0:Int)≤gP∧gP≤8:=mem_rngB (lo:=0) (hi:=8) oG ko
     refine Qn ⟨iH,_,G,(Ag oC G (ff _ _ (⟨b,dx,gP,rE,rh,J,(At.r G),iH,((gp.kn bM).down),((gr.kn bM).down),nH,(mm.kn bM),lQ,pw,ko,o5⟩)))⟩
    ·refine Ql (vs:=[i6 0,i6 5]) (L:=([0,5]:List Int)) (enc:=encI) tel93 (fun _=>G) G G G oG ?_
     intro d3 zb sT ay mV
     have vg:=ay.size
     have iI:=cF.lo ay
     refine Qn ⟨iI,_,G,(Ag oC G (dt _ _ (⟨b,dx,J,d3,(At.r G),iI,((fb.lo ay).down),((gp.lo ay).down),((gr.lo ay).down),(mV.down),(mj.lo ay),(mm.lo ay),qt,qu,(fun b_ h h'=>(nE (g:=d3) fb) (h.trans h'.symm)),lQ,(fun b_ h h'=>(nE (g:=d3) gp) (h.trans h'.symm)),(fun b_ h h'=>(nE (g:=d3) gr) (h.trans h'.symm))⟩)))⟩
   refine Av #[true,true,false,true,true,true,false,false,true,true,false,true,true,false,false,false] 7 (fun f' w'=>∃ (b:Nat) (dy:Nat) (al:Nat),At f' [(0,pt gc),(4,pt u),(5,pt n),(6,pt F),(40,pt gc),(41,.slice (pA b) 3 3),(43,pt gc),(45,i6 m.Id),(48,pt gc),(49,.slice (pA al) 2 2),(51,pt gc),(52,.slice (pA dy) 3 3)]∧(Kp (fun b_=>b_=gc∨b_=u) f w')∧(SlO w' f.heap.size encI 1 3 (pA b) 3 3 ([0,8,2]:List Int))∧(SlO w' f.heap.size encI 1 3 (pA dy) 3 3 ([0,1,(-1)]:List Int))∧(SlO w' f.heap.size encI 1 3 (pA al) 2 2 ([0,5]:List Int))∧(Blk w' gc ec [.slice Ac nc cc,i6 A,.int .u64 V])∧(Blk w' u 106 [i6 0,i6 0,i6 0,i6 0])∧(∀ b_,(pA b)=some ⟨b_,0,none⟩→¬(pA dy)=some ⟨b_,0,none⟩)∧(∀ b_,(pA b)=some ⟨b_,0,none⟩→¬(pA al)=some ⟨b_,0,none⟩)∧(∀ b_,(pA dy)=some ⟨b_,0,none⟩→¬(pA al)=some ⟨b_,0,none⟩)) ?_ (fun fk=>?_)
   ·rintro xc r4 ⟨b,dy,al,lu,cG,fc,gy,gz,mn,mp,qv,qw,lS⟩
    rw [← sA lu]
    have vh:=cG.size
    refine Ar [2,6] oC G ⟨Bm G trivial ?_,Bm G trivial ?_,trivial⟩
    ·refine Qc ent58 (c___spec_l1Cur__among r4 Lc A V mn ((O.kn v).kp cG (fun b_ hb e'=>e'.elim (fun e'=>by have e'':b_=gc:=e'; omega) (fun e'=>by have e'':b_=u:=e'; omega))) oB oB ([0,8,2]:List Int) (fc.rd) oB oB (show ¬b=gc from by first | omega | (have:=fc.base_le G; omega))) G ?_
     rintro e zc ⟨gQ,rF,ri,rfl,nI,px,ks,bN⟩
     refine ⟨_,G,?_⟩
     have vi:=bN.size
     have iJ:=cG.step bN (fun _ _ e=>.inl e)
     have o6:(0:Int)≤gQ∧gQ≤8:=mem_rngB (lo:=0) (hi:=8) oG ks
     refine Qn ⟨iJ,_,G,(Ag oC G (fg _ _ (⟨b,dy,gQ,rF,ri,al,(At.r G),iJ,((gy.kn bN).down),((gz.kn bN).down),nI,(mp.kn bN),lS,px,ks,o6⟩)))⟩
    ·refine Ql (vs:=[i6 0,i6 m.Id,i6 100]) (L:=([0,m.Id,100]:List Int)) (enc:=encI) tel93 (fun _=>G) G G G oG ?_
     intro d4 zd sU az mW
     have vj:=az.size
     have iK:=cG.lo az
     refine Qn ⟨iK,_,G,(Ag oC G (dt _ _ (⟨b,dy,d4,al,(At.r G),iK,((fc.lo az).down),((gy.lo az).down),(mW.down),((gz.lo az).down),(mn.lo az),(mp.lo az),qv,(fun b_ h h'=>(nE (g:=d4) fc) (h.trans h'.symm)),qw,(fun b_ h h'=>(nE (g:=d4) gy) (h.trans h'.symm)),lS,(fun b_ h h'=>(nE (g:=d4) gz) (h'.trans h.symm))⟩)))⟩
   refine Av #[true,false,false,true,true,true,true,false,true,true,false,true,true,false,false,false] 7 (fun f' w'=>∃ (ck:Nat) (K:Nat) (ac:Nat),At f' [(0,pt gc),(4,pt u),(5,pt n),(6,pt F),(40,pt gc),(43,pt gc),(46,.slice (pA K) 3 3),(48,pt gc),(49,.slice (pA ac) 2 2),(51,pt gc),(52,.slice (pA ck) 3 3)]∧(Kp (fun b_=>b_=gc∨b_=u) f w')∧(SlO w' f.heap.size encI 1 3 (pA ck) 3 3 ([0,1,(-1)]:List Int))∧(SlO w' f.heap.size encI 1 3 (pA K) 3 3 ([0,m.Id,100]:List Int))∧(SlO w' f.heap.size encI 1 3 (pA ac) 2 2 ([0,5]:List Int))∧(Blk w' gc ec [.slice Ac nc cc,i6 A,.int .u64 V])∧(Blk w' u 106 [i6 0,i6 0,i6 0,i6 0])∧(∀ b_,(pA ck)=some ⟨b_,0,none⟩→¬(pA K)=some ⟨b_,0,none⟩)∧(∀ b_,(pA ck)=some ⟨b_,0,none⟩→¬(pA ac)=some ⟨b_,0,none⟩)∧(∀ b_,(pA K)=some ⟨b_,0,none⟩→¬(pA ac)=some ⟨b_,0,none⟩)) ?_ (fun fl=>?_)
   ·rintro xd ze ⟨ck,K,ac,lv,hJ,jS,jT,jU,oc,od,n7,oa,ob⟩
    rw [← sA lv]
    have vk:=hJ.size
    refine Ab 1 G (Ql (vs:=[i6 0,i6 8,i6 2]) (L:=([0,8,2]:List Int)) (enc:=encI) tel93 (fun _=>G) G G G oG ?_)
    intro d5 zf sV aA mX
    have vl:=aA.size
    have iL:=hJ.lo aA
    refine Qn ⟨iL,_,G,(Ag oC G (dt _ _ (⟨d5,ck,K,ac,(At.r G),iL,(mX.down),((jS.lo aA).down),((jT.lo aA).down),((jU.lo aA).down),(oc.lo aA),(od.lo aA),(fun b_ h h'=>(nE (g:=d5) jS) (h'.trans h.symm)),(fun b_ h h'=>(nE (g:=d5) jT) (h'.trans h.symm)),(fun b_ h h'=>(nE (g:=d5) jU) (h'.trans h.symm)),n7,oa,ob⟩)))⟩
   refine Av #[true,true,false,true,true,true,true,false,true,false,false,true,false,false,false,false] 8 (fun f' w'=>∃ (b:Nat) (J:Nat),At f' [(0,pt gc),(4,pt u),(5,pt n),(6,pt F),(40,pt gc),(41,.slice (pA b) 3 3),(43,pt gc),(46,.slice (pA J) 3 3),(48,pt gc),(51,pt gc)]∧(Kp (fun b_=>b_=gc∨b_=u) f w')∧(SlO w' f.heap.size encI 1 3 (pA b) 3 3 ([0,8,2]:List Int))∧(SlO w' f.heap.size encI 1 3 (pA J) 3 3 ([0,m.Id,100]:List Int))∧(Blk w' gc ec [.slice Ac nc cc,i6 A,.int .u64 V])∧(Blk w' u 106 [i6 0,i6 0,i6 0,i6 0])∧(∀ b_,(pA b)=some ⟨b_,0,none⟩→¬(pA J)=some ⟨b_,0,none⟩)) ?_ (fun j6=>?_)
   ·rintro xe r5 ⟨b,J,lw,bu,cp,dD,gk,gl,lO⟩
    rw [← sA lw]
    have vm:=bu.size
    refine Ar [2,9,12] oC G ⟨Bm G trivial ?_,Bm G trivial ?_,Bm G trivial ?_,trivial⟩
    ·refine Qc ent58 (c___spec_l1Cur__among r5 Lc A V gk ((O.kn v).kp bu (fun b_ hb e'=>e'.elim (fun e'=>by have e'':b_=gc:=e'; omega) (fun e'=>by have e'':b_=u:=e'; omega))) oB oB ([0,8,2]:List Int) (cp.rd) oB oB (show ¬b=gc from by first | omega | (have:=cp.base_le G; omega))) G ?_
     rintro e zg ⟨gR,rG,rj,rfl,nJ,py,kt,cU⟩
     refine ⟨_,G,?_⟩
     have vn:=cU.size
     have iM:=bu.step cU (fun _ _ e=>.inl e)
     have o7:(0:Int)≤gR∧gR≤8:=mem_rngB (lo:=0) (hi:=8) oG kt
     refine Qn ⟨iM,_,G,(Ag oC G (j3 _ _ (⟨b,gR,rG,rj,J,(At.r G),iM,((dD.kn cU).down),nJ,(gl.kn cU),py,kt,o7⟩)))⟩
    ·refine Ql (vs:=[i6 0,i6 5]) (L:=([0,5]:List Int)) (enc:=encI) tel93 (fun _=>G) G G G oG ?_
     intro fG zi sW aV mY
     have vo:=aV.size
     have iN:=bu.lo aV
     refine Qn ⟨iN,_,G,(Ag oC G (fh _ _ (⟨b,J,fG,(At.r G),iN,((cp.lo aV).down),((dD.lo aV).down),(mY.down),(gk.lo aV),(gl.lo aV),lO,(fun b_ h h'=>(nE (g:=fG) cp) (h.trans h'.symm)),(fun b_ h h'=>(nE (g:=fG) dD) (h.trans h'.symm))⟩)))⟩
    ·refine Ql (vs:=[i6 0,i6 1,i6 (-1)]) (L:=([0,1,(-1)]:List Int)) (enc:=encI) tel93 (fun _=>G) G G G oG ?_
     intro fH zj sX aW mZ
     have vp:=aW.size
     have iO:=bu.lo aW
     refine Qn ⟨iO,_,G,(Ag oC G (fj _ _ (⟨b,fH,J,(At.r G),iO,((cp.lo aW).down),(mZ.down),((dD.lo aW).down),(gk.lo aW),(gl.lo aW),(fun b_ h h'=>(nE (g:=fH) cp) (h.trans h'.symm)),lO,(fun b_ h h'=>(nE (g:=fH) dD) (h'.trans h.symm))⟩)))⟩
   refine Av #[true,true,false,true,true,true,false,false,true,true,false,true,false,false,false,false] 8 (fun f' w'=>∃ (b:Nat) (al:Nat),At f' [(0,pt gc),(4,pt u),(5,pt n),(6,pt F),(40,pt gc),(41,.slice (pA b) 3 3),(43,pt gc),(45,i6 m.Id),(48,pt gc),(49,.slice (pA al) 2 2),(51,pt gc)]∧(Kp (fun b_=>b_=gc∨b_=u) f w')∧(SlO w' f.heap.size encI 1 3 (pA b) 3 3 ([0,8,2]:List Int))∧(SlO w' f.heap.size encI 1 3 (pA al) 2 2 ([0,5]:List Int))∧(Blk w' gc ec [.slice Ac nc cc,i6 A,.int .u64 V])∧(Blk w' u 106 [i6 0,i6 0,i6 0,i6 0])∧(∀ b_,(pA b)=some ⟨b_,0,none⟩→¬(pA al)=some ⟨b_,0,none⟩)) ?_ (fun j7=>?_)
   ·rintro xf r6 ⟨b,al,lx,bz,cq,dE,gw,gx,lR⟩
    rw [← sA lx]
    have vq:=bz.size
    refine Ar [2,6,12] oC G ⟨Bm G trivial ?_,Bm G trivial ?_,Bm G trivial ?_,trivial⟩
    ·refine Qc ent58 (c___spec_l1Cur__among r6 Lc A V gw ((O.kn v).kp bz (fun b_ hb e'=>e'.elim (fun e'=>by have e'':b_=gc:=e'; omega) (fun e'=>by have e'':b_=u:=e'; omega))) oB oB ([0,8,2]:List Int) (cq.rd) oB oB (show ¬b=gc from by first | omega | (have:=cq.base_le G; omega))) G ?_
     rintro e zk ⟨gS,rH,rk,rfl,nK,pz,ku,cX⟩
     refine ⟨_,G,?_⟩
     have vr:=cX.size
     have iP:=bz.step cX (fun _ _ e=>.inl e)
     have o8:(0:Int)≤gS∧gS≤8:=mem_rngB (lo:=0) (hi:=8) oG ku
     refine Qn ⟨iP,_,G,(Ag oC G (j4 _ _ (⟨b,gS,rH,rk,al,(At.r G),iP,((dE.kn cX).down),nK,(gx.kn cX),pz,ku,o8⟩)))⟩
    ·refine Ql (vs:=[i6 0,i6 m.Id,i6 100]) (L:=([0,m.Id,100]:List Int)) (enc:=encI) tel93 (fun _=>G) G G G oG ?_
     intro fI zn sY aX m0
     have vt:=aX.size
     have iQ:=bz.lo aX
     refine Qn ⟨iQ,_,G,(Ag oC G (fh _ _ (⟨b,fI,al,(At.r G),iQ,((cq.lo aX).down),(m0.down),((dE.lo aX).down),(gw.lo aX),(gx.lo aX),(fun b_ h h'=>(nE (g:=fI) cq) (h.trans h'.symm)),lR,(fun b_ h h'=>(nE (g:=fI) dE) (h'.trans h.symm))⟩)))⟩
    ·refine Ql (vs:=[i6 0,i6 1,i6 (-1)]) (L:=([0,1,(-1)]:List Int)) (enc:=encI) tel93 (fun _=>G) G G G oG ?_
     intro fJ zo sZ aY m1
     have vu:=aY.size
     have iR:=bz.lo aY
     refine Qn ⟨iR,_,G,(Ag oC G (fk _ _ (⟨b,fJ,al,(At.r G),iR,((cq.lo aY).down),(m1.down),((dE.lo aY).down),(gw.lo aY),(gx.lo aY),(fun b_ h h'=>(nE (g:=fJ) cq) (h.trans h'.symm)),lR,(fun b_ h h'=>(nE (g:=fJ) dE) (h'.trans h.symm))⟩)))⟩
   refine Av #[true,true,false,true,true,true,false,false,true,false,false,true,true,false,false,false] 8 (fun f' w'=>∃ (b:Nat) (bj:Nat),At f' [(0,pt gc),(4,pt u),(5,pt n),(6,pt F),(40,pt gc),(41,.slice (pA b) 3 3),(43,pt gc),(45,i6 m.Id),(48,pt gc),(51,pt gc),(52,.slice (pA bj) 3 3)]∧(Kp (fun b_=>b_=gc∨b_=u) f w')∧(SlO w' f.heap.size encI 1 3 (pA b) 3 3 ([0,8,2]:List Int))∧(SlO w' f.heap.size encI 1 3 (pA bj) 3 3 ([0,1,(-1)]:List Int))∧(Blk w' gc ec [.slice Ac nc cc,i6 A,.int .u64 V])∧(Blk w' u 106 [i6 0,i6 0,i6 0,i6 0])∧(∀ b_,(pA b)=some ⟨b_,0,none⟩→¬(pA bj)=some ⟨b_,0,none⟩)) ?_ (fun j8=>?_)
   ·rintro xg r7 ⟨b,bj,ly,bA,bh,cg,eQ,eT,jE⟩
    rw [← sA ly]
    have vv:=bA.size
    refine Ar [2,6,9] oC G ⟨Bm G trivial ?_,Bm G trivial ?_,Bm G trivial ?_,trivial⟩
    ·refine Qc ent58 (c___spec_l1Cur__among r7 Lc A V eQ ((O.kn v).kp bA (fun b_ hb e'=>e'.elim (fun e'=>by have e'':b_=gc:=e'; omega) (fun e'=>by have e'':b_=u:=e'; omega))) oB oB ([0,8,2]:List Int) (bh.rd) oB oB (show ¬b=gc from by first | omega | (have:=bh.base_le G; omega))) G ?_
     rintro e zp ⟨gT,rI,rl,rfl,nN,pB,kv,cY⟩
     refine ⟨_,G,?_⟩
     have vw:=cY.size
     have iS:=bA.step cY (fun _ _ e=>.inl e)
     have o9:(0:Int)≤gT∧gT≤8:=mem_rngB (lo:=0) (hi:=8) oG kv
     refine Qn ⟨iS,_,G,(Ag oC G (j5 _ _ (⟨b,bj,gT,rI,rl,(At.r G),iS,((cg.kn cY).down),nN,(eT.kn cY),pB,kv,o9⟩)))⟩
    ·refine Ql (vs:=[i6 0,i6 m.Id,i6 100]) (L:=([0,m.Id,100]:List Int)) (enc:=encI) tel93 (fun _=>G) G G G oG ?_
     intro fK zq s1 aZ m2
     have vx:=aZ.size
     have iT:=bA.lo aZ
     refine Qn ⟨iT,_,G,(Ag oC G (fj _ _ (⟨b,bj,fK,(At.r G),iT,((bh.lo aZ).down),((cg.lo aZ).down),(m2.down),(eQ.lo aZ),(eT.lo aZ),jE,(fun b_ h h'=>(nE (g:=fK) bh) (h.trans h'.symm)),(fun b_ h h'=>(nE (g:=fK) cg) (h.trans h'.symm))⟩)))⟩
    ·refine Ql (vs:=[i6 0,i6 5]) (L:=([0,5]:List Int)) (enc:=encI) tel93 (fun _=>G) G G G oG ?_
     intro fL zr s2 a6 m3
     have vy:=a6.size
     have iU:=bA.lo a6
     refine Qn ⟨iU,_,G,(Ag oC G (fk _ _ (⟨b,bj,fL,(At.r G),iU,((bh.lo a6).down),((cg.lo a6).down),(m3.down),(eQ.lo a6),(eT.lo a6),jE,(fun b_ h h'=>(nE (g:=fL) bh) (h.trans h'.symm)),(fun b_ h h'=>(nE (g:=fL) cg) (h.trans h'.symm))⟩)))⟩
   refine Av #[true,false,false,true,true,true,true,false,true,true,false,true,false,false,false,false] 8 (fun f' w'=>∃ (K:Nat) (ac:Nat),At f' [(0,pt gc),(4,pt u),(5,pt n),(6,pt F),(40,pt gc),(43,pt gc),(46,.slice (pA K) 3 3),(48,pt gc),(49,.slice (pA ac) 2 2),(51,pt gc)]∧(Kp (fun b_=>b_=gc∨b_=u) f w')∧(SlO w' f.heap.size encI 1 3 (pA K) 3 3 ([0,m.Id,100]:List Int))∧(SlO w' f.heap.size encI 1 3 (pA ac) 2 2 ([0,5]:List Int))∧(Blk w' gc ec [.slice Ac nc cc,i6 A,.int .u64 V])∧(Blk w' u 106 [i6 0,i6 0,i6 0,i6 0])∧(∀ b_,(pA K)=some ⟨b_,0,none⟩→¬(pA ac)=some ⟨b_,0,none⟩)) ?_ (fun j9=>?_)
   ·rintro xi zs ⟨K,ac,lz,eg,dg,dh,jQ,jR,jF⟩
    rw [← sA lz]
    have vz:=eg.size
    refine Ar [1,12] oC G ⟨Bm G trivial ?_,Bm G trivial ?_,trivial⟩
    ·refine Ql (vs:=[i6 0,i6 8,i6 2]) (L:=([0,8,2]:List Int)) (enc:=encI) tel93 (fun _=>G) G G G oG ?_
     intro fM zt s3 a7 m4
     have vA:=a7.size
     have iV:=eg.lo a7
     refine Qn ⟨iV,_,G,(Ag oC G (fh _ _ (⟨fM,K,ac,(At.r G),iV,(m4.down),((dg.lo a7).down),((dh.lo a7).down),(jQ.lo a7),(jR.lo a7),(fun b_ h h'=>(nE (g:=fM) dg) (h'.trans h.symm)),(fun b_ h h'=>(nE (g:=fM) dh) (h'.trans h.symm)),jF⟩)))⟩
    ·refine Ql (vs:=[i6 0,i6 1,i6 (-1)]) (L:=([0,1,(-1)]:List Int)) (enc:=encI) tel93 (fun _=>G) G G G oG ?_
     intro fN zu s4 a8 m5
     have vB:=a8.size
     have iW:=eg.lo a8
     refine Qn ⟨iW,_,G,(Ag oC G (fl _ _ (⟨fN,K,ac,(At.r G),iW,(m5.down),((dg.lo a8).down),((dh.lo a8).down),(jQ.lo a8),(jR.lo a8),(fun b_ h h'=>(nE (g:=fN) dg) (h'.trans h.symm)),(fun b_ h h'=>(nE (g:=fN) dh) (h'.trans h.symm)),jF⟩)))⟩
   refine Av #[true,false,false,true,true,true,true,false,true,false,false,true,true,false,false,false] 8 (fun f' w'=>∃ (cl:Nat) (K:Nat),At f' [(0,pt gc),(4,pt u),(5,pt n),(6,pt F),(40,pt gc),(43,pt gc),(46,.slice (pA K) 3 3),(48,pt gc),(51,pt gc),(52,.slice (pA cl) 3 3)]∧(Kp (fun b_=>b_=gc∨b_=u) f w')∧(SlO w' f.heap.size encI 1 3 (pA cl) 3 3 ([0,1,(-1)]:List Int))∧(SlO w' f.heap.size encI 1 3 (pA K) 3 3 ([0,m.Id,100]:List Int))∧(Blk w' gc ec [.slice Ac nc cc,i6 A,.int .u64 V])∧(Blk w' u 106 [i6 0,i6 0,i6 0,i6 0])∧(∀ b_,(pA cl)=some ⟨b_,0,none⟩→¬(pA K)=some ⟨b_,0,none⟩)) ?_ (fun ka=>?_)
   ·rintro xj zv ⟨cl,K,lA,eh,di,dk,jV,jW,jG⟩
    rw [← sA lA]
    have vC:=eh.size
    refine Ar [1,9] oC G ⟨Bm G trivial ?_,Bm G trivial ?_,trivial⟩
    ·refine Ql (vs:=[i6 0,i6 8,i6 2]) (L:=([0,8,2]:List Int)) (enc:=encI) tel93 (fun _=>G) G G G oG ?_
     intro fO zw s8 ba m6
     have vD:=ba.size
     have iX:=eh.lo ba
     refine Qn ⟨iX,_,G,(Ag oC G (fj _ _ (⟨fO,cl,K,(At.r G),iX,(m6.down),((di.lo ba).down),((dk.lo ba).down),(jV.lo ba),(jW.lo ba),(fun b_ h h'=>(nE (g:=fO) di) (h'.trans h.symm)),(fun b_ h h'=>(nE (g:=fO) dk) (h'.trans h.symm)),jG⟩)))⟩
    ·refine Ql (vs:=[i6 0,i6 5]) (L:=([0,5]:List Int)) (enc:=encI) tel93 (fun _=>G) G G G oG ?_
     intro fP zy s9 bb m7
     have vE:=bb.size
     have iY:=eh.lo bb
     refine Qn ⟨iY,_,G,(Ag oC G (fl _ _ (⟨cl,K,fP,(At.r G),iY,((di.lo bb).down),((dk.lo bb).down),(m7.down),(jV.lo bb),(jW.lo bb),jG,(fun b_ h h'=>(nE (g:=fP) di) (h.trans h'.symm)),(fun b_ h h'=>(nE (g:=fP) dk) (h.trans h'.symm))⟩)))⟩
   refine Av #[true,false,false,true,true,true,false,false,true,true,false,true,true,false,false,false] 8 (fun f' w'=>∃ (cn:Nat) (cm:Nat),At f' [(0,pt gc),(4,pt u),(5,pt n),(6,pt F),(40,pt gc),(43,pt gc),(45,i6 m.Id),(48,pt gc),(49,.slice (pA cm) 2 2),(51,pt gc),(52,.slice (pA cn) 3 3)]∧(Kp (fun b_=>b_=gc∨b_=u) f w')∧(SlO w' f.heap.size encI 1 3 (pA cn) 3 3 ([0,1,(-1)]:List Int))∧(SlO w' f.heap.size encI 1 3 (pA cm) 2 2 ([0,5]:List Int))∧(Blk w' gc ec [.slice Ac nc cc,i6 A,.int .u64 V])∧(Blk w' u 106 [i6 0,i6 0,i6 0,i6 0])∧(∀ b_,(pA cn)=some ⟨b_,0,none⟩→¬(pA cm)=some ⟨b_,0,none⟩)) ?_ (fun kb=>?_)
   ·rintro xk zz ⟨cn,cm,lC,ei,dm,dn,jX,jY,jH⟩
    rw [← sA lC]
    have vF:=ei.size
    refine Ar [1,6] oC G ⟨Bm G trivial ?_,Bm G trivial ?_,trivial⟩
    ·refine Ql (vs:=[i6 0,i6 8,i6 2]) (L:=([0,8,2]:List Int)) (enc:=encI) tel93 (fun _=>G) G G G oG ?_
     intro fQ zA ta bc m8
     have vG:=bc.size
     have iZ:=ei.lo bc
     refine Qn ⟨iZ,_,G,(Ag oC G (fk _ _ (⟨fQ,cn,cm,(At.r G),iZ,(m8.down),((dm.lo bc).down),((dn.lo bc).down),(jX.lo bc),(jY.lo bc),(fun b_ h h'=>(nE (g:=fQ) dm) (h'.trans h.symm)),(fun b_ h h'=>(nE (g:=fQ) dn) (h'.trans h.symm)),jH⟩)))⟩
    ·refine Ql (vs:=[i6 0,i6 m.Id,i6 100]) (L:=([0,m.Id,100]:List Int)) (enc:=encI) tel93 (fun _=>G) G G G oG ?_
     intro fR zB td be m9
     have vH:=be.size
     have i1:=ei.lo be
     refine Qn ⟨i1,_,G,(Ag oC G (fl _ _ (⟨cn,fR,cm,(At.r G),i1,((dm.lo be).down),(m9.down),((dn.lo be).down),(jX.lo be),(jY.lo be),(fun b_ h h'=>(nE (g:=fR) dm) (h.trans h'.symm)),jH,(fun b_ h h'=>(nE (g:=fR) dn) (h'.trans h.symm))⟩)))⟩
   refine Ak 0 G (kr j) (fun w' hw'=>mP G)<|Ak 3 G (kr j) (fun w' hw'=>mP G)<|Ak 4 G (kr j) (fun w' hw'=>fA fa102_0 G)<|Ak 5 G (kr j) (fun w' hw'=>lB sca3 G ((gf.kn v).kp hw' (fun e'=>e'.elim (fun e'=>by have e'':n=gc:=e'; omega) (fun e'=>by have e'':n=u:=e'; omega))) G)<|Ak 8 G (kr j) (fun w' hw'=>mP G)<|Ak 11 G (kr j) (fun w' hw'=>mP G)<|Ar [1,6,9,12] oC G ⟨Bm G trivial ?_,Bm G trivial ?_,Bm G trivial ?_,Bm G trivial ?_,trivial⟩
   ·refine Ql (vs:=[i6 0,i6 8,i6 2]) (L:=([0,8,2]:List Int)) (enc:=encI) tel93 (fun _=>G) G G G oG ?_
    intro bl r8 tf R an
    have vI:=R.size
    have bB:=((kr j:Kp (fun b_=>b_=gc∨b_=u) f _)).lo R
    refine Qn ⟨bB,_,G,(Ar [2,6,9,12] oC G ⟨Bm G trivial ?_,Bm G trivial ?_,Bm G trivial ?_,Bm G trivial ?_,trivial⟩)⟩
    ·refine Qc ent58 (c___spec_l1Cur__among r8 Lc A V ((X.lo j).lo R) (((O.kn v).lo j).lo R) oB oB ([0,8,2]:List Int) (an.rd) oB oB (show ¬bl=gc from by first | omega | (have:=an.base_le G; omega))) G ?_
     rintro e zC ⟨dN,gJ,gC,rfl,ez,fp,du,bO⟩
     refine ⟨_,G,?_⟩
     have vJ:=bO.size
     have cH:=bB.step bO (fun _ _ e=>.inl e)
     have fo:(0:Int)≤dN∧dN≤8:=mem_rngB (lo:=0) (hi:=8) oG du
     refine Qn ⟨cH,_,G,(Ar [6,9,12] oC G ⟨Bm G trivial ?_,Bm G trivial ?_,Bm G trivial ?_,trivial⟩)⟩
     ·refine Ql (vs:=[i6 0,i6 m.Id,i6 100]) (L:=([0,m.Id,100]:List Int)) (enc:=encI) tel93 (fun _=>G) G G G oG ?_
      intro pX zD tg cZ na
      have vK:=cZ.size
      have i7:=cH.lo cZ
      refine Qn ⟨i7,_,G,(Ag oC G (j3 _ _ (⟨bl,dN,gJ,gC,pX,(At.r G),i7,(na.down),(ez.lo cZ),(((((P.kn v).lo j).lo R).kn bO).lo cZ),fp,du,fo⟩)))⟩
     ·refine Ql (vs:=[i6 0,i6 5]) (L:=([0,5]:List Int)) (enc:=encI) tel93 (fun _=>G) G G G oG ?_
      intro pY zE th c6 nb
      have vL:=c6.size
      have i8:=cH.lo c6
      refine Qn ⟨i8,_,G,(Ag oC G (j4 _ _ (⟨bl,dN,gJ,gC,pY,(At.r G),i8,(nb.down),(ez.lo c6),(((((P.kn v).lo j).lo R).kn bO).lo c6),fp,du,fo⟩)))⟩
     ·refine Ql (vs:=[i6 0,i6 1,i6 (-1)]) (L:=([0,1,(-1)]:List Int)) (enc:=encI) tel93 (fun _=>G) G G G oG ?_
      intro pZ zF ti c7 nd
      have vM:=c7.size
      have ja:=cH.lo c7
      refine Qn ⟨ja,_,G,(Ag oC G (j5 _ _ (⟨bl,pZ,dN,gJ,gC,(At.r G),ja,(nd.down),(ez.lo c7),(((((P.kn v).lo j).lo R).kn bO).lo c7),fp,du,fo⟩)))⟩
    ·refine Ql (vs:=[i6 0,i6 m.Id,i6 100]) (L:=([0,m.Id,100]:List Int)) (enc:=encI) tel93 (fun _=>G) G G G oG ?_
     intro kN zG tj bP nf
     have vN:=bP.size
     have jc:=bB.lo bP
     refine Qn ⟨jc,_,G,(Ag oC G (j6 _ _ (⟨bl,kN,(At.r G),jc,((an.lo bP).down),(nf.down),(((X.lo j).lo R).lo bP),((((P.kn v).lo j).lo R).lo bP),(fun b_ h h'=>(nE (g:=kN) an) (h.trans h'.symm))⟩)))⟩
    ·refine Ql (vs:=[i6 0,i6 5]) (L:=([0,5]:List Int)) (enc:=encI) tel93 (fun _=>G) G G G oG ?_
     intro kO zH tl bQ ng
     have vO:=bQ.size
     have jd:=bB.lo bQ
     refine Qn ⟨jd,_,G,(Ag oC G (j7 _ _ (⟨bl,kO,(At.r G),jd,((an.lo bQ).down),(ng.down),(((X.lo j).lo R).lo bQ),((((P.kn v).lo j).lo R).lo bQ),(fun b_ h h'=>(nE (g:=kO) an) (h.trans h'.symm))⟩)))⟩
    ·refine Ql (vs:=[i6 0,i6 1,i6 (-1)]) (L:=([0,1,(-1)]:List Int)) (enc:=encI) tel93 (fun _=>G) G G G oG ?_
     intro kP zI tm bR nh
     have vP:=bR.size
     have je:=bB.lo bR
     refine Qn ⟨je,_,G,(Ag oC G (j8 _ _ (⟨bl,kP,(At.r G),je,((an.lo bR).down),(nh.down),(((X.lo j).lo R).lo bR),((((P.kn v).lo j).lo R).lo bR),(fun b_ h h'=>(nE (g:=kP) an) (h.trans h'.symm))⟩)))⟩
   ·refine Ql (vs:=[i6 0,i6 m.Id,i6 100]) (L:=([0,m.Id,100]:List Int)) (enc:=encI) tel93 (fun _=>G) G G G oG ?_
    intro fS zJ tp ao aM
    have vQ:=ao.size
    have cI:=((kr j:Kp (fun b_=>b_=gc∨b_=u) f _)).lo ao
    refine Qn ⟨cI,_,G,(Ar [1,9,12] oC G ⟨Bm G trivial ?_,Bm G trivial ?_,Bm G trivial ?_,trivial⟩)⟩
    ·refine Ql (vs:=[i6 0,i6 8,i6 2]) (L:=([0,8,2]:List Int)) (enc:=encI) tel93 (fun _=>G) G G G oG ?_
     intro kQ zK tq bS ni
     have vR:=bS.size
     have jf:=cI.lo bS
     refine Qn ⟨jf,_,G,(Ag oC G (j6 _ _ (⟨kQ,fS,(At.r G),jf,(ni.down),((aM.lo bS).down),(((X.lo j).lo ao).lo bS),((((P.kn v).lo j).lo ao).lo bS),(fun b_ h h'=>(nE (g:=kQ) aM) (h'.trans h.symm))⟩)))⟩
    ·refine Ql (vs:=[i6 0,i6 5]) (L:=([0,5]:List Int)) (enc:=encI) tel93 (fun _=>G) G G G oG ?_
     intro kR zL tr bT nj
     have vS:=bT.size
     have jg:=cI.lo bT
     refine Qn ⟨jg,_,G,(Ag oC G (j9 _ _ (⟨fS,kR,(At.r G),jg,((aM.lo bT).down),(nj.down),(((X.lo j).lo ao).lo bT),((((P.kn v).lo j).lo ao).lo bT),(fun b_ h h'=>(nE (g:=kR) aM) (h.trans h'.symm))⟩)))⟩
    ·refine Ql (vs:=[i6 0,i6 1,i6 (-1)]) (L:=([0,1,(-1)]:List Int)) (enc:=encI) tel93 (fun _=>G) G G G oG ?_
     intro kS zM tt bU nk
     have vT:=bU.size
     have jh:=cI.lo bU
     refine Qn ⟨jh,_,G,(Ag oC G (ka _ _ (⟨kS,fS,(At.r G),jh,(nk.down),((aM.lo bU).down),(((X.lo j).lo ao).lo bU),((((P.kn v).lo j).lo ao).lo bU),(fun b_ h h'=>(nE (g:=kS) aM) (h'.trans h.symm))⟩)))⟩
   ·refine Ql (vs:=[i6 0,i6 5]) (L:=([0,5]:List Int)) (enc:=encI) tel93 (fun _=>G) G G G oG ?_
    intro fT zN tu ap aN
    have vU:=ap.size
    have cJ:=((kr j:Kp (fun b_=>b_=gc∨b_=u) f _)).lo ap
    refine Qn ⟨cJ,_,G,(Ar [1,6,12] oC G ⟨Bm G trivial ?_,Bm G trivial ?_,Bm G trivial ?_,trivial⟩)⟩
    ·refine Ql (vs:=[i6 0,i6 8,i6 2]) (L:=([0,8,2]:List Int)) (enc:=encI) tel93 (fun _=>G) G G G oG ?_
     intro kT zO tv bV nl
     have vV:=bV.size
     have ji:=cJ.lo bV
     refine Qn ⟨ji,_,G,(Ag oC G (j7 _ _ (⟨kT,fT,(At.r G),ji,(nl.down),((aN.lo bV).down),(((X.lo j).lo ap).lo bV),((((P.kn v).lo j).lo ap).lo bV),(fun b_ h h'=>(nE (g:=kT) aN) (h'.trans h.symm))⟩)))⟩
    ·refine Ql (vs:=[i6 0,i6 m.Id,i6 100]) (L:=([0,m.Id,100]:List Int)) (enc:=encI) tel93 (fun _=>G) G G G oG ?_
     intro kU zP tw bW nn
     have vW:=bW.size
     have jj:=cJ.lo bW
     refine Qn ⟨jj,_,G,(Ag oC G (j9 _ _ (⟨kU,fT,(At.r G),jj,(nn.down),((aN.lo bW).down),(((X.lo j).lo ap).lo bW),((((P.kn v).lo j).lo ap).lo bW),(fun b_ h h'=>(nE (g:=kU) aN) (h'.trans h.symm))⟩)))⟩
    ·refine Ql (vs:=[i6 0,i6 1,i6 (-1)]) (L:=([0,1,(-1)]:List Int)) (enc:=encI) tel93 (fun _=>G) G G G oG ?_
     intro kV zQ tz bX np
     have vX:=bX.size
     have jk:=cJ.lo bX
     refine Qn ⟨jk,_,G,(Ag oC G (kb _ _ (⟨kV,fT,(At.r G),jk,(np.down),((aN.lo bX).down),(((X.lo j).lo ap).lo bX),((((P.kn v).lo j).lo ap).lo bX),(fun b_ h h'=>(nE (g:=kV) aN) (h'.trans h.symm))⟩)))⟩
   ·refine Ql (vs:=[i6 0,i6 1,i6 (-1)]) (L:=([0,1,(-1)]:List Int)) (enc:=encI) tel93 (fun _=>G) G G G oG ?_
    intro fU zR tA aq aO
    have vY:=aq.size
    have cK:=((kr j:Kp (fun b_=>b_=gc∨b_=u) f _)).lo aq
    refine Qn ⟨cK,_,G,(Ar [1,6,9] oC G ⟨Bm G trivial ?_,Bm G trivial ?_,Bm G trivial ?_,trivial⟩)⟩
    ·refine Ql (vs:=[i6 0,i6 8,i6 2]) (L:=([0,8,2]:List Int)) (enc:=encI) tel93 (fun _=>G) G G G oG ?_
     intro kW zS tB bY nq
     have vZ:=bY.size
     have jl:=cK.lo bY
     refine Qn ⟨jl,_,G,(Ag oC G (j8 _ _ (⟨kW,fU,(At.r G),jl,(nq.down),((aO.lo bY).down),(((X.lo j).lo aq).lo bY),((((P.kn v).lo j).lo aq).lo bY),(fun b_ h h'=>(nE (g:=kW) aO) (h'.trans h.symm))⟩)))⟩
    ·refine Ql (vs:=[i6 0,i6 m.Id,i6 100]) (L:=([0,m.Id,100]:List Int)) (enc:=encI) tel93 (fun _=>G) G G G oG ?_
     intro kX zT tC bZ nr
     have v1:=bZ.size
     have jm:=cK.lo bZ
     refine Qn ⟨jm,_,G,(Ag oC G (ka _ _ (⟨fU,kX,(At.r G),jm,((aO.lo bZ).down),(nr.down),(((X.lo j).lo aq).lo bZ),((((P.kn v).lo j).lo aq).lo bZ),(fun b_ h h'=>(nE (g:=kX) aO) (h.trans h'.symm))⟩)))⟩
    ·refine Ql (vs:=[i6 0,i6 5]) (L:=([0,5]:List Int)) (enc:=encI) tel93 (fun _=>G) G G G oG ?_
     intro kY zU tD b4 ns
     have v6:=b4.size
     have jn:=cK.lo b4
     refine Qn ⟨jn,_,G,(Ag oC G (kb _ _ (⟨fU,kY,(At.r G),jn,((aO.lo b4).down),(ns.down),(((X.lo j).lo aq).lo b4),((((P.kn v).lo j).lo aq).lo b4),(fun b_ h h'=>(nE (g:=kY) aO) (h.trans h'.symm))⟩)))⟩
  rintro xl zV ⟨b,am,aF,dY,dv,d1,fB,mx,c,d,q,y,B,H,aa,ab,lD,hQ,qD,qE,E,C,D,aE,aC,aD,ms,mq,mr,yq,yi,yj⟩
  rw [← sA lD]
  have v7:=hQ.size
  refine We (retC G G agg106 qE G (⟨(⟨c,B,am,d1⟩:LibraryStep),fB,mx,eR (eA G),qD,⟨oB,oB⟩,oF,(k7.step hQ (fun i_ hi_ e'=>e'.elim (fun e'=>e') (fun e'=>by have e'':i_=u:=e'; omega)))⟩))
 ·refine Wk (Ws (Ws (Wr (Q (mP G)<|Qc ent59 (c___spec_l1Cur__pick f Lc A V X (O.kn v) oB oB 14 oD) G ?_))))
  rintro e ft ⟨k,N,bn,rfl,eD,uq,tN,bf⟩
  refine ⟨_,G,?_⟩
  have wa:=bf.size
  refine Qn (Wl (Ws (Ws ?_)))
  have dp:=(O.kn v).kn bf
  have eW:=(P.kn v).kn bf
  have jZ:=(gf.kn v).kn bf
  refine Wr (Q (r_eq G G)<|Q (aB G)<|Qn (W.thenJ (fun f' w'=>At f' [(0,pt gc),(4,pt u),(5,pt n),(6,pt F),(56,i6 k),(57,.bool (decide (((k=0)∧(k=0))∨((¬(k=0))∧(((k=1)∧(k=1))∨((¬(k=1))∧(k=2)))))))]∧Lo ft w') ?_ ?_))
  ·refine Wd G (fun d6=>?_) (fun d6=>?_)
   ·refine Wk (⟨_,G,⟨G,G,G,G,G,(eDD (jgt d6)),trivial⟩,(lr ft)⟩)
   ·refine Ws (Wr (Q (r_eq G G)<|Q (aB G)<|Qn (Wd G (fun fV=>?_) (fun fV=>?_))))
    ·refine Wk (⟨_,G,⟨G,G,G,G,G,(eDD ((jgt fV).trans (jgf d6))),trivial⟩,(lr ft)⟩)
    ·refine Wr (Q (r_eq G G)<|Q (aB G)<|Qn (⟨_,G,⟨G,G,G,G,G,(eDD ((jgf fV).trans (jgf d6))),trivial⟩,(lr ft)⟩))
  rintro xm dT ⟨lE,M⟩
  rw [← sA lE]
  have wb:=M.size
  have gX:=(k7.step bf (fun i_ hi_ e'=>e')).lo M
  refine Wd G (fun fW=>?_) (fun fW=>?_)
  ·refine Ws (Wr (Q (mP G)<|Ql (vs:=[i6 1,i6 7,i6 20,i6 33,i6 42,i6 98,i6 99,i6 100]) (L:=([1,7,20,33,42,98,99,100]:List Int)) (enc:=encI) tel93 (fun _=>G) G G G oG ?_))
   intro p1 r9 tE bg gZ
   have wc:=bg.size
   refine Qc ent58 (c___spec_l1Cur__among r9 Lc N bn ((eD.lo M).lo bg) ((dp.lo M).lo bg) oB oB ([1,7,20,33,42,98,99,100]:List Int) (gZ.rd) oB oB (show ¬p1=gc from by first | omega | (have:=gZ.base_le G; omega))) G ?_
   rintro e zX ⟨dO,rJ,rm,rfl,nO,ur,pb,da⟩
   refine ⟨_,G,?_⟩
   have wg:=da.size
   have tO:(1:Int)≤dO∧dO≤100:=mem_rngB (lo:=1) (hi:=100) oG pb
   refine Q (mP G)<|Ql (vs:=[i6 1,i6 2,i6 3,i6 50,i6 51]) (L:=([1,2,3,50,51]:List Int)) (enc:=encI) tel93 (fun _=>G) G G G oG ?_
   intro p2 sa tF b5 g0
   have wh:=b5.size
   refine Qc ent58 (c___spec_l1Cur__among sa Lc rJ rm (nO.lo b5) ((((dp.lo M).lo bg).kn da).lo b5) oB oB ([1,2,3,50,51]:List Int) (g0.rd) oB oB (show ¬p2=gc from by first | omega | (have:=g0.base_le G; omega))) G ?_
   rintro e zY ⟨dP,rK,rn,rfl,nP,us,pc,eH⟩
   refine ⟨_,G,?_⟩
   have wi:=eH.size
   have tP:(1:Int)≤dP∧dP≤51:=mem_rngB (lo:=1) (hi:=51) oG pc
   refine Q (r_build (vs:=[(0,i6 1),(1,i6 dO),(3,i6 dP)]) G (bld106_0_1_3 _ _ _))<|Qw (o:=0) (vs:=[i6 1,i6 dO,i6 0,i6 dP]) agg106.2 G G G G (((((eW.lo M).lo bg).kn da).lo b5).kn eH) ler G ?_
   intro zZ jJ ui nQ
   refine Qn (We (retC G G agg106 nQ G (⟨(⟨1,dO,0,dP⟩:LibraryStep),rK,rn,eR (eA G),(nP.kn jJ),⟨oB,oB⟩,oF,(((((gX.lo bg).step da (fun i_ hi_ e'=>e')).lo b5).step eH (fun i_ hi_ e'=>e')).new jJ)⟩)))
  ·have tQ:¬((k=0)∧(k=0)):=(not_or.1 fW).1
   have tT:¬((¬(k=0))∧(((k=1)∧(k=1))∨((¬(k=1))∧(k=2)))):=(not_or.1 fW).2
   refine Ws (Ws (Wr (Q (r_eq G G)<|Q (aB G)<|Qn (W.thenJ (fun f' w'=>At f' [(0,pt gc),(4,pt u),(5,pt n),(6,pt F),(56,i6 k),(68,.bool (decide (((k=3)∧(k=3))∨((¬(k=3))∧(((k=4)∧(k=4))∨((¬(k=4))∧(((k=5)∧(k=5))∨((¬(k=5))∧(k=6)))))))))]∧Lo dT w') ?_ ?_))))
   ·refine Wd G (fun dz=>?_) (fun dz=>?_)
    ·refine Wk (⟨_,G,⟨G,G,G,G,G,(eDD (jgt dz)),trivial⟩,(lr dT)⟩)
    ·refine Ws (Wr (Q (r_eq G G)<|Q (aB G)<|Qn (Wd G (fun d7=>?_) (fun d7=>?_))))
     ·refine Wk (⟨_,G,⟨G,G,G,G,G,(eDD ((jgt d7).trans (jgf dz))),trivial⟩,(lr dT)⟩)
     ·refine Ws (Wr (Q (r_eq G G)<|Q (aB G)<|Qn (Wd G (fun fX=>?_) (fun fX=>?_))))
      ·refine Wk (⟨_,G,⟨G,G,G,G,G,(eDD (((jgt fX).trans (jgf d7)).trans (jgf dz))),trivial⟩,(lr dT)⟩)
      ·refine Wr (Q (r_eq G G)<|Q (aB G)<|Qn (⟨_,G,⟨G,G,G,G,G,(eDD (((jgf fX).trans (jgf d7)).trans (jgf dz))),trivial⟩,(lr dT)⟩))
   rintro xn cy ⟨lF,Y⟩
   rw [← sA lF]
   have wj:=Y.size
   have gY:=gX.lo Y
   refine Wd G (fun fY=>?_) (fun fY=>?_)
   ·refine Ws (WA (Kp (fun b_=>b_=gc∨b_=u) cy) (fun f' w'=>∃ (p3:Nat) (cr:Int) (dF:Int) (gD:Int),At f' [(0,pt gc),(4,pt u),(5,pt n)]∧(Kp (fun b_=>b_=gc∨b_=u) cy w')∧(Blk w' gc ec [.slice Ac nc cc,i6 dF,.int .u64 gD])∧(Blk w' u 106 [i6 2,i6 m.Id,i6 cr,i6 0])∧(N≤dF∧dF≤N+2)∧(cr∈([5,17,40,999,1000]:List Int))∧((5:Int)≤cr∧cr≤1000)) mo ?_ ?_)
    ·intro z1 ar
     have wk:=ar.size
     refine Ak 0 G (kr ar) (fun w' hw'=>fA fa102_0 G)<|Ak 1 G (kr ar) (fun w' hw'=>lB sca3 G (((jZ.lo M).lo Y).kp hw' (fun e'=>e'.elim (fun e'=>by have e'':n=gc:=e'; omega) (fun e'=>by have e'':n=u:=e'; omega))) G)<|Ak 2 G (kr ar) (fun w' hw'=>mP G)<|Ab 3 G (Ql (vs:=[i6 5,i6 17,i6 40,i6 999,i6 1000]) (L:=([5,17,40,999,1000]:List Int)) (enc:=encI) tel93 (fun _=>G) G G G oG ?_)
     intro kZ sb tH b6 g5
     have wl:=b6.size
     have jo:=((kr ar:Kp (fun b_=>b_=gc∨b_=u) cy _)).lo b6
     refine Qn ⟨jo,_,G,(Ab 4 G (Qc ent58 (c___spec_l1Cur__among sb Lc N bn ((((eD.lo M).lo Y).lo ar).lo b6) ((((dp.lo M).lo Y).lo ar).lo b6) oB oB ([5,17,40,999,1000]:List Int) (g5.rd) oB oB (show ¬kZ=gc from by first | omega | (have:=g5.base_le G; omega))) G ?_))⟩
     rintro e z6 ⟨dQ,rL,ro,rfl,nR,pC,kw,eJ⟩
     refine ⟨_,G,?_⟩
     have wm:=eJ.size
     have em:=jo.step eJ (fun _ _ e=>.inl e)
     have pd:(5:Int)≤dQ∧dQ≤1000:=mem_rngB (lo:=5) (hi:=1000) oG kw
     refine Qn ⟨em,_,G,(Ak 5 G em (fun w' hw'=>r_build (vs:=[(0,i6 2),(1,i6 m.Id),(2,i6 dQ)]) G (bld106_0_1_2 _ _ _))<|Ab 6 G (Qw (o:=0) (vs:=[i6 2,i6 m.Id,i6 dQ,i6 0]) agg106.2 G G G G (((((eW.lo M).lo Y).lo ar).lo b6).kn eJ) ler G ?_))⟩
     intro z7 jK uj nS
     have jp:=em.step jK (fun _ _ e=>.inr e)
     refine Qn ⟨jp,_,G,(Ad oC (⟨kZ,dQ,rL,ro,(At.r G),jp,(nR.kn jK),nS,pC,kw,pd⟩))⟩
    rintro xp z8 ⟨p3,cr,dF,gD,lH,hU,oe,og,ut,tU,tV⟩
    rw [← sA lH]
    have wn:=hU.size
    refine We (retC G G agg106 og G (⟨(⟨2,m.Id,cr,0⟩:LibraryStep),dF,gD,eR (eA G),oe,⟨oB,oB⟩,oF,(gY.step hU (fun i_ hi_ e'=>e'.elim (fun e'=>e') (fun e'=>by have e'':i_=u:=e'; omega)))⟩))
   ·have tW:¬((k=3)∧(k=3)):=(not_or.1 fY).1
    have tX:¬((¬(k=3))∧(((k=4)∧(k=4))∨((¬(k=4))∧(((k=5)∧(k=5))∨((¬(k=5))∧(k=6)))))):=(not_or.1 fY).2
    refine Ws (Ws ?_)
    have ch:=(eD.lo M).lo Y
    have ci:=(dp.lo M).lo Y
    have cj:=(eW.lo M).lo Y
    have Z:=(jZ.lo M).lo Y
    have dq:=(((lX.kn v).kn bf).lo M).lo Y
    refine Wr (Q (r_eq G G)<|Q (aB G)<|Qn (W.thenJ (fun f' w'=>At f' [(0,pt gc),(4,pt u),(5,pt n),(6,pt F),(56,i6 k),(79,.bool (decide (((k=7)∧(k=7))∨((¬(k=7))∧(k=8)))))]∧Lo cy w') ?_ ?_))
    ·refine Wd G (fun fZ=>?_) (fun fZ=>?_)
     ·refine Wk (⟨_,G,⟨G,G,G,G,G,(eDD (jgt fZ)),trivial⟩,(lr cy)⟩)
     ·refine Wr (Q (r_eq G G)<|Q (aB G)<|Qn (⟨_,G,⟨G,G,G,G,G,(eDD (jgf fZ)),trivial⟩,(lr cy)⟩))
    rintro xq U ⟨lI,p⟩
    rw [← sA lI]
    have wo:=p.size
    have bs:=gY.lo p
    refine Wd G (fun f0=>?_) (fun f0=>?_)
    ·refine Ws (WA (Kp (fun b_=>b_=gc∨b_=u) U) (fun f' w'=>∃ (p4:Nat) (ct:Int) (dG:Int) (gE:Int),At f' [(0,pt gc),(4,pt u),(5,pt n)]∧(Kp (fun b_=>b_=gc∨b_=u) U w')∧(Blk w' gc ec [.slice Ac nc cc,i6 dG,.int .u64 gE])∧(Blk w' u 106 [i6 3,i6 a.Map,i6 a.Reader,i6 ct])∧(N≤dG∧dG≤N+2)∧(ct∈([0,1,1,2]:List Int))∧((0:Int)≤ct∧ct≤2)) mo ?_ ?_)
     ·intro Aa ae
      have wq:=ae.size
      refine Ak 0 G (kr ae) (fun w' hw'=>fA fa129_0 G)<|Ak 1 G (kr ae) (fun w' hw'=>lB sca3 G ((dq.lo p).kp hw' (fun e'=>e'.elim (fun e'=>by have e'':F=gc:=e'; omega) (fun e'=>by have e'':F=u:=e'; omega))) G)<|Ak 2 G (kr ae) (fun w' hw'=>fA fa129_1 G)<|Ak 3 G (kr ae) (fun w' hw'=>lB sca3 G ((dq.lo p).kp hw' (fun e'=>e'.elim (fun e'=>by have e'':F=gc:=e'; omega) (fun e'=>by have e'':F=u:=e'; omega))) G)<|Ak 4 G (kr ae) (fun w' hw'=>mP G)<|Ab 5 G (Ql (vs:=[i6 0,i6 1,i6 1,i6 2]) (L:=([0,1,1,2]:List Int)) (enc:=encI) tel93 (fun _=>G) G G G oG ?_)
      intro k0 sd tI b8 g6
      have wr:=b8.size
      have jq:=((kr ae:Kp (fun b_=>b_=gc∨b_=u) U _)).lo b8
      refine Qn ⟨jq,_,G,(Ab 6 G (Qc ent58 (c___spec_l1Cur__among sd Lc N bn (((ch.lo p).lo ae).lo b8) (((ci.lo p).lo ae).lo b8) oB oB ([0,1,1,2]:List Int) (g6.rd) oB oB (show ¬k0=gc from by first | omega | (have:=g6.base_le G; omega))) G ?_))⟩
      rintro e Ae ⟨dR,rM,rp,rfl,nT,pD,kx,eK⟩
      refine ⟨_,G,?_⟩
      have ws:=eK.size
      have eo:=jq.step eK (fun _ _ e=>.inl e)
      have pf:(0:Int)≤dR∧dR≤2:=mem_rngB (lo:=0) (hi:=2) oG kx
      refine Qn ⟨eo,_,G,(Ak 7 G eo (fun w' hw'=>r_build (vs:=[(0,i6 3),(1,i6 a.Map),(2,i6 a.Reader),(3,i6 dR)]) G (bld106_0_1_2_3 _ _ _ _))<|Ab 8 G (Qw (o:=0) (vs:=[i6 3,i6 a.Map,i6 a.Reader,i6 dR]) agg106.2 G G G G ((((cj.lo p).lo ae).lo b8).kn eK) ler G ?_))⟩
      intro Af jL uk nU
      have jr:=eo.step jL (fun _ _ e=>.inr e)
      refine Qn ⟨jr,_,G,(Ad oC (⟨k0,dR,rM,rp,(At.r G),jr,(nT.kn jL),nU,pD,kx,pf⟩))⟩
     rintro xr Ah ⟨p4,ct,dG,gE,lJ,hZ,oh,oi,uu,tY,tZ⟩
     rw [← sA lJ]
     have wt:=hZ.size
     refine We (retC G G agg106 oi G (⟨(⟨3,a.Map,a.Reader,ct⟩:LibraryStep),dG,gE,eR (eA G),oh,⟨oB,oB⟩,oF,(bs.step hZ (fun i_ hi_ e'=>e'.elim (fun e'=>e') (fun e'=>by have e'':i_=u:=e'; omega)))⟩))
    ·have t1:¬((k=7)∧(k=7)):=(not_or.1 f0).1
     have t7:¬((¬(k=7))∧(k=8)):=(not_or.1 f0).2
     refine Ws (Wr (Q (r_eq G G)<|Q (aB G)<|Qn (Wd G (fun qa=>?_) (fun qa=>?_))))
     ·refine Ws (WA (Kp (fun b_=>b_=gc∨b_=u) U) (fun f' w'=>∃ (bo:Int) (dH:Int) (gF:Int) (p5:Nat),At f' [(0,pt gc),(4,pt u),(5,pt n)]∧(Kp (fun b_=>b_=gc∨b_=u) U w')∧(Blk w' gc ec [.slice Ac nc cc,i6 dH,.int .u64 gF])∧(Blk w' u 106 [i6 4,i6 m.Id,i6 0,i6 bo])∧(N≤dH∧dH≤N+2)∧(bo∈([1,max 1 m.Torn,m.Torn+1]:List Int))∧((bo:Int)=1∨(bo:Int)=(max 1 m.Torn)∨(bo:Int)=(m.Torn+1))) mo ?_ ?_)
      ·intro se S
       have wu:=S.size
       refine Ak 0 G (kr S) (fun w' hw'=>fA fa102_0 G)<|Ak 1 G (kr S) (fun w' hw'=>lB sca3 G ((Z.lo p).kp hw' (fun e'=>e'.elim (fun e'=>by have e'':n=gc:=e'; omega) (fun e'=>by have e'':n=u:=e'; omega))) G)<|Ak 2 G (kr S) (fun w' hw'=>mP G)<|Ak 3 G (kr S) (fun w' hw'=>fA fa102_2 G)<|Ak 4 G (kr S) (fun w' hw'=>lB sca3 G ((Z.lo p).kp hw' (fun e'=>e'.elim (fun e'=>by have e'':n=gc:=e'; omega) (fun e'=>by have e'':n=u:=e'; omega))) G)<|Ak 6 G (kr S) (fun w' hw'=>fA fa102_2 G)<|Ak 7 G (kr S) (fun w' hw'=>lB sca3 G ((Z.lo p).kp hw' (fun e'=>e'.elim (fun e'=>by have e'':n=gc:=e'; omega) (fun e'=>by have e'':n=u:=e'; omega))) G)<|Ak 8 G (kr S) (fun w' hw'=>r_add G G oB)<|Ab 5 G (Qv ent109 (c_spec_l1Most se 1 m.Torn) G fun Ai db wv=>?_)
       have js:=((kr S:Kp (fun b_=>b_=gc∨b_=u) U _)).lo db
       refine Qn ⟨js,_,G,(Ab 9 G (Ql (vs:=[i6 1,i6 (max 1 m.Torn),i6 (m.Torn+1)]) (L:=([1,max 1 m.Torn,m.Torn+1]:List Int)) (enc:=encI) tel93 (fun _=>G) G G G oG ?_))⟩
       intro k1 sf tJ b9 g7
       have ww:=b9.size
       have jt:=js.lo b9
       refine Qn ⟨jt,_,G,(Ab 10 G (Qc ent58 (c___spec_l1Cur__among sf Lc N bn ((((ch.lo p).lo S).lo db).lo b9) ((((ci.lo p).lo S).lo db).lo b9) oB oB ([1,max 1 m.Torn,m.Torn+1]:List Int) (g7.rd) oB oB (show ¬k1=gc from by first | omega | (have:=g7.base_le G; omega))) G ?_))⟩
       rintro e Aj ⟨cu,rO,rq,rfl,nW,pE,ky,eL⟩
       refine ⟨_,G,?_⟩
       have wx:=eL.size
       have ep:=jt.step eL (fun _ _ e=>.inl e)
       have pg:(cu:Int)=1∨(cu:Int)=(max 1 m.Torn)∨(cu:Int)=(m.Torn+1):=by simpa only [List.mem_cons,List.not_mem_nil,or_false] using ky
       refine Qn ⟨ep,_,G,(Ak 11 G ep (fun w' hw'=>r_build (vs:=[(0,i6 4),(1,i6 m.Id),(3,i6 cu)]) G (bld106_0_1_3 _ _ _))<|Ab 12 G (Qw (o:=0) (vs:=[i6 4,i6 m.Id,i6 0,i6 cu]) agg106.2 G G G G (((((cj.lo p).lo S).lo db).lo b9).kn eL) ler G ?_))⟩
       intro Al jM ul nX
       have ju:=ep.step jM (fun _ _ e=>.inr e)
       refine Qn ⟨ju,_,G,(Ad oC (⟨cu,rO,rq,k1,(At.r G),ju,(nW.kn jM),nX,pE,ky,pg⟩))⟩
      rintro xt Am ⟨bo,dH,gF,p5,lK,ia,oj,ol,uv,t8,ua⟩
      rw [← sA lK]
      have wy:=ia.size
      refine We (retC G G agg106 ol G (⟨(⟨4,m.Id,0,bo⟩:LibraryStep),dH,gF,eR (eA G),oj,⟨oB,oB⟩,oF,(bs.step ia (fun i_ hi_ e'=>e'.elim (fun e'=>e') (fun e'=>by have e'':i_=u:=e'; omega)))⟩))
     ·refine Ws (Wr (Q (r_eq G G)<|Q (aB G)<|Qn (Wd G (fun qb=>?_) (fun qb=>?_))))
      ·refine Ws (WA (Kp (fun b_=>b_=gc∨b_=u) U) (fun f' w'=>∃ (p6:Nat) (cw:Int) (dI:Int) (gG:Int),At f' [(0,pt gc),(4,pt u),(5,pt n)]∧(Kp (fun b_=>b_=gc∨b_=u) U w')∧(Blk w' gc ec [.slice Ac nc cc,i6 dI,.int .u64 gG])∧(Blk w' u 106 [i6 5,i6 a.Map,i6 a.Reader,i6 cw])∧(N≤dI∧dI≤N+2)∧(cw∈([5,17,18,999]:List Int))∧((5:Int)≤cw∧cw≤999)) mo ?_ ?_)
       ·intro An ag
        have wz:=ag.size
        refine Ak 0 G (kr ag) (fun w' hw'=>fA fa129_0 G)<|Ak 1 G (kr ag) (fun w' hw'=>lB sca3 G ((dq.lo p).kp hw' (fun e'=>e'.elim (fun e'=>by have e'':F=gc:=e'; omega) (fun e'=>by have e'':F=u:=e'; omega))) G)<|Ak 2 G (kr ag) (fun w' hw'=>fA fa129_1 G)<|Ak 3 G (kr ag) (fun w' hw'=>lB sca3 G ((dq.lo p).kp hw' (fun e'=>e'.elim (fun e'=>by have e'':F=gc:=e'; omega) (fun e'=>by have e'':F=u:=e'; omega))) G)<|Ak 4 G (kr ag) (fun w' hw'=>mP G)<|Ab 5 G (Ql (vs:=[i6 5,i6 17,i6 18,i6 999]) (L:=([5,17,18,999]:List Int)) (enc:=encI) tel93 (fun _=>G) G G G oG ?_)
        intro k3 sg tK ca g8
        have wA:=ca.size
        have jv:=((kr ag:Kp (fun b_=>b_=gc∨b_=u) U _)).lo ca
        refine Qn ⟨jv,_,G,(Ab 6 G (Qc ent58 (c___spec_l1Cur__among sg Lc N bn (((ch.lo p).lo ag).lo ca) (((ci.lo p).lo ag).lo ca) oB oB ([5,17,18,999]:List Int) (g8.rd) oB oB (show ¬k3=gc from by first | omega | (have:=g8.base_le G; omega))) G ?_))⟩
        rintro e Ao ⟨dS,rP,rr,rfl,nY,pG,kz,eN⟩
        refine ⟨_,G,?_⟩
        have wB:=eN.size
        have eu:=jv.step eN (fun _ _ e=>.inl e)
        have ph:(5:Int)≤dS∧dS≤999:=mem_rngB (lo:=5) (hi:=999) oG kz
        refine Qn ⟨eu,_,G,(Ak 7 G eu (fun w' hw'=>r_build (vs:=[(0,i6 5),(1,i6 a.Map),(2,i6 a.Reader),(3,i6 dS)]) G (bld106_0_1_2_3 _ _ _ _))<|Ab 8 G (Qw (o:=0) (vs:=[i6 5,i6 a.Map,i6 a.Reader,i6 dS]) agg106.2 G G G G ((((cj.lo p).lo ag).lo ca).kn eN) ler G ?_))⟩
        intro Ap jN um nZ
        have jw:=eu.step jN (fun _ _ e=>.inr e)
        refine Qn ⟨jw,_,G,(Ad oC (⟨k3,dS,rP,rr,(At.r G),jw,(nY.kn jN),nZ,pG,kz,ph⟩))⟩
       rintro xu Aq ⟨p6,cw,dI,gG,lL,ib,om,oo,uw,ub,uc⟩
       rw [← sA lL]
       have wC:=ib.size
       refine We (retC G G agg106 oo G (⟨(⟨5,a.Map,a.Reader,cw⟩:LibraryStep),dI,gG,eR (eA G),om,⟨oB,oB⟩,oF,(bs.step ib (fun i_ hi_ e'=>e'.elim (fun e'=>e') (fun e'=>by have e'':i_=u:=e'; omega)))⟩))
      ·refine Ws (Wr (Q (r_eq G G)<|Q (aB G)<|Qn (Wd G (fun qc=>?_) (fun qc=>?_))))
       ·refine Ws (WA (Kp (fun b_=>b_=gc∨b_=u) U) (fun f' w'=>∃ (bp:Int) (dJ:Int) (gH:Int) (p7:Nat),At f' [(0,pt gc),(4,pt u),(5,pt n)]∧(Kp (fun b_=>b_=gc∨b_=u) U w')∧(Blk w' gc ec [.slice Ac nc cc,i6 dJ,.int .u64 gH])∧(Blk w' u 106 [i6 6,i6 m.Id,i6 0,i6 bp])∧(N≤dJ∧dJ≤N+2)∧(bp∈([1,max 1 m.Torn,m.Torn+1]:List Int))∧((bp:Int)=1∨(bp:Int)=(max 1 m.Torn)∨(bp:Int)=(m.Torn+1))) mo ?_ ?_)
        ·intro sh T
         have wD:=T.size
         refine Ak 0 G (kr T) (fun w' hw'=>fA fa102_0 G)<|Ak 1 G (kr T) (fun w' hw'=>lB sca3 G ((Z.lo p).kp hw' (fun e'=>e'.elim (fun e'=>by have e'':n=gc:=e'; omega) (fun e'=>by have e'':n=u:=e'; omega))) G)<|Ak 2 G (kr T) (fun w' hw'=>mP G)<|Ak 3 G (kr T) (fun w' hw'=>fA fa102_2 G)<|Ak 4 G (kr T) (fun w' hw'=>lB sca3 G ((Z.lo p).kp hw' (fun e'=>e'.elim (fun e'=>by have e'':n=gc:=e'; omega) (fun e'=>by have e'':n=u:=e'; omega))) G)<|Ak 6 G (kr T) (fun w' hw'=>fA fa102_2 G)<|Ak 7 G (kr T) (fun w' hw'=>lB sca3 G ((Z.lo p).kp hw' (fun e'=>e'.elim (fun e'=>by have e'':n=gc:=e'; omega) (fun e'=>by have e'':n=u:=e'; omega))) G)<|Ak 8 G (kr T) (fun w' hw'=>r_add G G oB)<|Ab 5 G (Qv ent109 (c_spec_l1Most sh 1 m.Torn) G fun Au de wE=>?_)
         have jx:=((kr T:Kp (fun b_=>b_=gc∨b_=u) U _)).lo de
         refine Qn ⟨jx,_,G,(Ab 9 G (Ql (vs:=[i6 1,i6 (max 1 m.Torn),i6 (m.Torn+1)]) (L:=([1,max 1 m.Torn,m.Torn+1]:List Int)) (enc:=encI) tel93 (fun _=>G) G G G oG ?_))⟩
         intro k4 si tL cd hF
         have wF:=cd.size
         have jy:=jx.lo cd
         refine Qn ⟨jy,_,G,(Ab 10 G (Qc ent58 (c___spec_l1Cur__among si Lc N bn ((((ch.lo p).lo T).lo de).lo cd) ((((ci.lo p).lo T).lo de).lo cd) oB oB ([1,max 1 m.Torn,m.Torn+1]:List Int) (hF.rd) oB oB (show ¬k4=gc from by first | omega | (have:=hF.base_le G; omega))) G ?_))⟩
         rintro e Aw ⟨cx,rQ,rt,rfl,n3,pH,kA,eO⟩
         refine ⟨_,G,?_⟩
         have wG:=eO.size
         have ex:=jy.step eO (fun _ _ e=>.inl e)
         have pj:(cx:Int)=1∨(cx:Int)=(max 1 m.Torn)∨(cx:Int)=(m.Torn+1):=by simpa only [List.mem_cons,List.not_mem_nil,or_false] using kA
         refine Qn ⟨ex,_,G,(Ak 11 G ex (fun w' hw'=>r_build (vs:=[(0,i6 6),(1,i6 m.Id),(3,i6 cx)]) G (bld106_0_1_3 _ _ _))<|Ab 12 G (Qw (o:=0) (vs:=[i6 6,i6 m.Id,i6 0,i6 cx]) agg106.2 G G G G (((((cj.lo p).lo T).lo de).lo cd).kn eO) ler G ?_))⟩
         intro Ax jO un n4
         have jz:=ex.step jO (fun _ _ e=>.inr e)
         refine Qn ⟨jz,_,G,(Ad oC (⟨cx,rQ,rt,k4,(At.r G),jz,(n3.kn jO),n4,pH,kA,pj⟩))⟩
        rintro xv Ay ⟨bp,dJ,gH,p7,lM,ic,ot,ou,ux,ud,ue⟩
        rw [← sA lM]
        have wH:=ic.size
        refine We (retC G G agg106 ou G (⟨(⟨6,m.Id,0,bp⟩:LibraryStep),dJ,gH,eR (eA G),ot,⟨oB,oB⟩,oF,(bs.step ic (fun i_ hi_ e'=>e'.elim (fun e'=>e') (fun e'=>by have e'':i_=u:=e'; omega)))⟩))
       ·refine Wk (Ws (WA (Kp (fun b_=>b_=gc∨b_=u) U) (fun f' w'=>∃ (p8:Nat) (aK:Int) (dK:Int) (gI:Int),At f' [(4,pt u)]∧(Kp (fun b_=>b_=gc∨b_=u) U w')∧(Blk w' gc ec [.slice Ac nc cc,i6 dK,.int .u64 gI])∧(Blk w' u 106 [i6 7,i6 m.Id,i6 0,i6 aK])∧(N≤dK∧dK≤N+2)∧(aK∈([1,max 1 (m.Copies-m.Torn),(m.Copies-m.Torn)+1,2000000]:List Int))∧((aK:Int)=1∨(aK:Int)=(max 1 (m.Copies-m.Torn))∨(aK:Int)=((m.Copies-m.Torn)+1)∨(aK:Int)=2000000)) mo ?_ ?_))
        ·intro sj I
         have wI:=I.size
         refine Ak 0 G (kr I) (fun w' hw'=>fA fa102_0 G)<|Ak 1 G (kr I) (fun w' hw'=>lB sca3 G ((Z.lo p).kp hw' (fun e'=>e'.elim (fun e'=>by have e'':n=gc:=e'; omega) (fun e'=>by have e'':n=u:=e'; omega))) G)<|Ak 2 G (kr I) (fun w' hw'=>mP G)<|Ak 3 G (kr I) (fun w' hw'=>fA fa102_1 G)<|Ak 4 G (kr I) (fun w' hw'=>lB sca3 G ((Z.lo p).kp hw' (fun e'=>e'.elim (fun e'=>by have e'':n=gc:=e'; omega) (fun e'=>by have e'':n=u:=e'; omega))) G)<|Ak 5 G (kr I) (fun w' hw'=>fA fa102_2 G)<|Ak 6 G (kr I) (fun w' hw'=>lB sca3 G ((Z.lo p).kp hw' (fun e'=>e'.elim (fun e'=>by have e'':n=gc:=e'; omega) (fun e'=>by have e'':n=u:=e'; omega))) G)<|Ak 7 G (kr I) (fun w' hw'=>r_sub G G oB)<|Ak 9 G (kr I) (fun w' hw'=>fA fa102_1 G)<|Ak 10 G (kr I) (fun w' hw'=>lB sca3 G ((Z.lo p).kp hw' (fun e'=>e'.elim (fun e'=>by have e'':n=gc:=e'; omega) (fun e'=>by have e'':n=u:=e'; omega))) G)<|Ak 11 G (kr I) (fun w' hw'=>fA fa102_2 G)<|Ak 12 G (kr I) (fun w' hw'=>lB sca3 G ((Z.lo p).kp hw' (fun e'=>e'.elim (fun e'=>by have e'':n=gc:=e'; omega) (fun e'=>by have e'':n=u:=e'; omega))) G)<|Ak 13 G (kr I) (fun w' hw'=>r_sub G G oB)<|Ak 14 G (kr I) (fun w' hw'=>r_add G G oB)<|Ab 8 G (Qv ent109 (c_spec_l1Most sj 1 (m.Copies-m.Torn)) G fun Az df wJ=>?_)
         have jA:=((kr I:Kp (fun b_=>b_=gc∨b_=u) U _)).lo df
         refine Qn ⟨jA,_,G,(Ab 15 G (Ql (vs:=[i6 1,i6 (max 1 (m.Copies-m.Torn)),i6 ((m.Copies-m.Torn)+1),i6 2000000]) (L:=([1,max 1 (m.Copies-m.Torn),(m.Copies-m.Torn)+1,2000000]:List Int)) (enc:=encI) tel93 (fun _=>G) G G G oG ?_))⟩
         intro k5 sk tM ce hG
         have wK:=ce.size
         have jB:=jA.lo ce
         refine Qn ⟨jB,_,G,(Ab 16 G (Qc ent58 (c___spec_l1Cur__among sk Lc N bn ((((ch.lo p).lo I).lo df).lo ce) ((((ci.lo p).lo I).lo df).lo ce) oB oB ([1,max 1 (m.Copies-m.Torn),(m.Copies-m.Torn)+1,2000000]:List Int) (hG.rd) oB oB (show ¬k5=gc from by first | omega | (have:=hG.base_le G; omega))) G ?_))⟩
         rintro e AA ⟨bq,rR,ru,rfl,n5,pI,kB,eP⟩
         refine ⟨_,G,?_⟩
         have wL:=eP.size
         have ey:=jB.step eP (fun _ _ e=>.inl e)
         have pk:(bq:Int)=1∨(bq:Int)=(max 1 (m.Copies-m.Torn))∨(bq:Int)=((m.Copies-m.Torn)+1)∨(bq:Int)=2000000:=by simpa only [List.mem_cons,List.not_mem_nil,or_false] using kB
         refine Qn ⟨ey,_,G,(Ak 17 G ey (fun w' hw'=>r_build (vs:=[(0,i6 7),(1,i6 m.Id),(3,i6 bq)]) G (bld106_0_1_3 _ _ _))<|Ab 18 G (Qw (o:=0) (vs:=[i6 7,i6 m.Id,i6 0,i6 bq]) agg106.2 G G G G (((((cj.lo p).lo I).lo df).lo ce).kn eP) ler G ?_))⟩
         intro AB jP uo n6
         have jC:=ey.step jP (fun _ _ e=>.inr e)
         refine Qn ⟨jC,_,G,(Ad oC (⟨k5,bq,rR,ru,⟨G,trivial⟩,jC,(n5.kn jP),n6,pI,kB,pk⟩))⟩
        rintro xw AC ⟨p8,aK,dK,gI,lN,ie,ov,ow,uy,uf,ug⟩
        rw [← sA lN]
        have wM:=ie.size
        refine We (retC G G agg106 ow G (⟨(⟨7,m.Id,0,aK⟩:LibraryStep),dK,gI,eR (eA G),ov,⟨oB,oB⟩,oF,(bs.step ie (fun i_ hi_ e'=>e'.elim (fun e'=>e') (fun e'=>by have e'':i_=u:=e'; omega)))⟩))
end Go.Proofs.YtndcchndcghmoaaGreatDoor
namespace Go.Proofs.YtndcchndcghmoaaGreatDoor
open Go Go.RowKit Fw
set_option maxRecDepth 10000
set_option maxHeartbeats 2000000
set_option linter.unusedVariables false
variable {Ac : Option Addr} {nc cc Bc : Nat}
theorem bld34_0_1 (a0:Option Addr) (b0 c0:Nat) (a1:Option Addr) (b1 c1:Nat):Tryz.prog.built 34 [(0,.slice a0 b0 c0),(1,.slice a1 b1 c1)]=some (List.toArray [.slice a0 b0 c0,.slice a1 b1 c1,i6 0,i6 0,i6 0]):=by kernel_rfl
theorem bld35_:Tryz.prog.built 35 []=some (List.toArray [str ([]:List UInt8),str ([]:List UInt8),i6 0]):=by kernel_rfl
theorem bld35_0_2 (a0:List UInt8) (a2:Int):Tryz.prog.built 35 [(0,str a0),(2,i6 a2)]=some (List.toArray [str a0,str ([]:List UInt8),i6 a2]):=by kernel_rfl
theorem ent108:Ent Tryz.prog 108:=en Tryz.func108
theorem c___spec_l1Cur__library (w:World) {gc ec:Nat} (Lc:List UInt8) (tc sc:Int) (hc:Blk w gc ec [.slice Ac nc cc,i6 tc,.int .u64 sc]) (hLc:SlR w Bc encB 1 Ac nc cc Lc) (hgc:Bc≤gc) (htc:0≤tc∧tc+800≤4611686018427387904):Calls Tryz.prog 112 #[.pointer (some ⟨gc,0,none⟩)] w fun e w'=>∃ (A1':Option Addr) (n1' c1':Nat) (A2':Option Addr) (n2' c2':Nat) (x:Library) (tc' sc':Int),e=.returned (.agg (List.toArray (cLb A1' n1' c1' A2' n2' c2' x)))∧SlO w' w.heap.size encLMap 3 102 A1' n1' c1' x.Maps∧SlO w' w.heap.size encAway 2 129 A2' n2' c2' x.Away∧Dj A1' A2'∧Blk w' gc ec [.slice Ac nc cc,i6 tc',.int .u64 sc']∧(tc≤tc'∧tc'≤tc+800)∧(x.Maps.length≤9∧x.Away.length≤9)∧(MapB x.Maps)∧(AwayB x.Away)∧Kp (fun b_=>b_=gc) w w':=by
 refine cW 67 Tryz.func112 G G G ?_
 have hBlc:=hc.lt
 have hbdc:=hLc.bound
 have hlec:=hLc.len
 have hBbc:=hLc.bd
 refine Ws (Wr (Qa (l:=zLb) tz34 G ?_))
 intro g1 w2 qD ka qE nD
 refine Qn (Ws (Wr (Ql (vs:=[]) (L:=([]:List LMap)) (enc:=encLMap) tel31 (fun _=>G) G G G oG ?_)))
 intro g9 qF p2 dL fC
 have qj:=dL.size
 refine Ql (vs:=[]) (L:=([]:List Away)) (enc:=encAway) tel32 (fun _=>G) G G G oG ?_
 intro cw qG p3 co jI
 have qk:=co.size
 refine Q (r_build (vs:=[(0,.slice (pA g9) 0 0),(1,.slice (pA cw) 0 0)]) G (bld34_0_1 _ _ _ _ _ _))<|Qa (l:=zLb) tz34 G ?_
 intro c qH p4 cy qg lA
 have jJ:=nE (g:=c) (fC.lo co)
 have jK:=nE (g:=c) jI
 refine Qw (o:=0) (vs:=[.slice (pA g9) 0 0,.slice (pA cw) 0 0,i6 0,i6 0,i6 0]) agg34.2 G G G G lA ler G ?_
 intro pU cz qh lC
 refine Qn (Ws (Ws ?_))
 have jL:=((((hLc.lo ka).lo dL).lo co).lo cy).kn cz
 have gn:=((fC.lo co).lo cy).kd cz jJ
 have gp:=(jI.lo cy).kd cz jK
 refine Wr (Q (mP G)<|Qc ent59 (c___spec_l1Cur__pick pU Lc tc sc (((((hc.lo ka).lo dL).lo co).lo cy).kn cz) jL oB oB 36 oD) G ?_)
 rintro e d6 ⟨jH,jG,lK,rfl,lD,qi,qc,aM⟩
 refine ⟨_,G,?_⟩
 have ql:=aM.size
 refine Q (aI G)<|Qn (Wl (WL (σ:=Int × Library × Int × Int × (Option Addr) × Nat × Nat × (Option Addr) × Nat × Nat) (fun g=>[(0,pt gc),(2,pt g1),(3,pt c),(4,i6 g.1)]) (fun g w'=>(Kp (fun b_=>b_=gc) w w')∧(Blk w' gc ec [.slice Ac nc cc,i6 g.2.2.1,.int .u64 g.2.2.2.1])∧(SlR w' Bc encB 1 Ac nc cc Lc)∧(Blk w' g1 34 zLb)∧(Blk w' c 34 (cLb g.2.2.2.2.1 g.2.2.2.2.2.1 g.2.2.2.2.2.2.1 g.2.2.2.2.2.2.2.1 g.2.2.2.2.2.2.2.2.1 g.2.2.2.2.2.2.2.2.2 g.2.1))∧(SlO w' w.heap.size encLMap 3 102 g.2.2.2.2.1 g.2.2.2.2.2.1 g.2.2.2.2.2.2.1 g.2.1.Maps)∧(SlO w' w.heap.size encAway 2 129 g.2.2.2.2.2.2.2.1 g.2.2.2.2.2.2.2.2.1 g.2.2.2.2.2.2.2.2.2 g.2.1.Away)∧(¬g.2.2.2.2.1=some ⟨gc,0,none⟩)∧(¬g.2.2.2.2.1=some ⟨g1,0,none⟩)∧(¬g.2.2.2.2.1=some ⟨c,0,none⟩)∧(∀ b_,g.2.2.2.2.1=some ⟨b_,0,none⟩→¬g.2.2.2.2.2.2.2.1=some ⟨b_,0,none⟩)∧(¬g.2.2.2.2.2.2.2.1=some ⟨gc,0,none⟩)∧(¬g.2.2.2.2.2.2.2.1=some ⟨g1,0,none⟩)∧(¬g.2.2.2.2.2.2.2.1=some ⟨c,0,none⟩)∧((0≤g.1∧g.1≤35)∧LibOK g.2.1∧tc≤g.2.2.1∧g.2.2.1≤tc+4+20*(35-g.1))) (fun g=>g.1.toNat) (jH,(⟨([]:List LMap),([]:List Away),0,0,0⟩:Library),jG,lK,(pA g9),0,0,(pA cw),0,0) ?_ ?_ ?_))
 ·exact (At.r G)
 ·show (Kp (fun b_=>b_=gc) w d6)∧(Blk d6 gc ec [.slice Ac nc cc,i6 jG,.int .u64 lK])∧(SlR d6 Bc encB 1 Ac nc cc Lc)∧(Blk d6 g1 34 zLb)∧(Blk d6 c 34 (cLb (pA g9) 0 0 (pA cw) 0 0 (⟨([]:List LMap),([]:List Away),0,0,0⟩:Library)))∧(SlO d6 w.heap.size encLMap 3 102 (pA g9) 0 0 ((⟨([]:List LMap),([]:List Away),0,0,0⟩:Library).Maps))∧(SlO d6 w.heap.size encAway 2 129 (pA cw) 0 0 ((⟨([]:List LMap),([]:List Away),0,0,0⟩:Library).Away))∧(¬(pA g9)=some ⟨gc,0,none⟩)∧(¬(pA g9)=some ⟨g1,0,none⟩)∧(¬(pA g9)=some ⟨c,0,none⟩)∧(∀ b_,(pA g9)=some ⟨b_,0,none⟩→¬(pA cw)=some ⟨b_,0,none⟩)∧(¬(pA cw)=some ⟨gc,0,none⟩)∧(¬(pA cw)=some ⟨g1,0,none⟩)∧(¬(pA cw)=some ⟨c,0,none⟩)∧((0≤jH∧jH≤35)∧LibOK (⟨([]:List LMap),([]:List Away),0,0,0⟩:Library)∧tc≤jG∧jG≤tc+4+20*(35-jH))
  exact ⟨(((((((kr ka:Kp (fun b_=>b_=gc) w _)).lo dL).lo co).lo cy).new cz).step aM (fun i_ hi_ e'=>e')),lD,jL.kn aM,((((nD.lo dL).lo co).lo cy).kn cz).kn aM,(lC.kn aM),(oq ((gn.kn aM).down) oX),(oq ((gp.kn aM).down) oX),(fun e'=>by have:=(gn.kn aM).base_le e'; omega),(fun e'=>by have:=(gn.kn aM).base_le e'; omega),jJ,(fun b_ h h'=>(nE (g:=cw) fC) (h.trans h'.symm)),(fun e'=>by have:=(gp.kn aM).base_le e'; omega),(nE (gp.kn aM)),jK,(by exact ⟨oB,nil_lib,oB,oB⟩)⟩
 ·rintro ⟨n,o,t,z,f,B,H,p,K,R⟩ nB ax lz
  obtain ⟨fB,eZ,an,bD,C,m,q,d,cm,bP,am,i,cn,aJ,cx⟩:(Kp (fun b_=>b_=gc) w ax)∧(Blk ax gc ec [.slice Ac nc cc,i6 t,.int .u64 z])∧(SlR ax Bc encB 1 Ac nc cc Lc)∧(Blk ax g1 34 zLb)∧(Blk ax c 34 (cLb f B H p K R o))∧(SlO ax w.heap.size encLMap 3 102 f B H o.Maps)∧(SlO ax w.heap.size encAway 2 129 p K R o.Away)∧(¬f=some ⟨gc,0,none⟩)∧(¬f=some ⟨g1,0,none⟩)∧(¬f=some ⟨c,0,none⟩)∧Dj f p∧(¬p=some ⟨gc,0,none⟩)∧(¬p=some ⟨g1,0,none⟩)∧(¬p=some ⟨c,0,none⟩)∧((0≤n∧n≤35)∧LibOK o∧tc≤t∧t≤tc+4+20*(35-n)):=lz
  refine (?_:W _ _ _ _ _ (act _ (sets nB [(0,pt gc),(2,pt g1),(3,pt c),(4,i6 n)])) _)
  have o6:=fB.size
  have p5:=eZ.lt
  have p6:=bD.lt
  have p7:=C.lt
  have p8:=m.len
  have p9:=m.rd.bound
  have qa:=q.len
  have qb:=q.rd.bound
  have qd:LibOK o:=cx.2.1
  have qe:(o.Maps.length≤8∧o.Away.length≤8)∧(0≤o.Bought∧o.Bought≤9999):=lib_bought cx.2.1
  have gP:MapB o.Maps:=MapB.of cx.2.1.1.1
  have gQ:AwayB o.Away:=AwayB.of cx.2.1
  have qf:(0≤n∧n≤35)∧tc≤t∧t≤tc+4+20*(35-n):=And.intro cx.1 cx.2.2
  refine Ws (Ws (Wr (Q (mI G)<|Q (r_gt G G)<|Qn (Wd G (fun nC=>?_) (fun nC=>?_)))))
  ·refine Wk (Ws (Wl (Ws (WA (Kp (fun b_=>b_=gc) ax) (fun f' w'=>∃ (j:LibraryStep) (O:Int) (au:Int) (M:Option Addr) (ac:Nat) (ay:Nat) (N:Option Addr) (ae:Nat) (az:Nat) (U:Nat),At f' [(0,pt gc),(2,pt g1),(3,pt c),(4,i6 n),(5,pt U),(6,.bool ((spec_StepLibrary o j).2))]∧(Kp (fun b_=>b_=gc) ax w')∧(SlO w' ax.heap.size encLMap 3 102 M ac ay (((spec_StepLibrary o j).1).Maps))∧(SlO w' ax.heap.size encAway 2 129 N ae az (((spec_StepLibrary o j).1).Away))∧(Blk w' U 34 (cLb M ac ay N ae az ((spec_StepLibrary o j).1)))∧(ax.heap.size≤U∧U<w'.heap.size)∧(Blk w' gc ec [.slice Ac nc cc,i6 O,.int .u64 au])∧(¬f=some ⟨U,0,none⟩)∧(¬p=some ⟨U,0,none⟩)∧(¬M=some ⟨U,0,none⟩)∧(¬N=some ⟨U,0,none⟩)∧Dj M f∧Dj M p∧Dj M N∧Dj N f∧Dj N p∧(t≤O∧O≤t+20)∧((-10000000≤j.Id∧j.Id≤10000000)∧(-10000000≤j.Reader∧j.Reader≤10000000)∧(-10000000≤j.Value∧j.Value≤10000000))∧(ac=(((spec_StepLibrary o j).1).Maps).length)∧((ac:Int)≤9223372036854775807)∧((((spec_StepLibrary o j).1).Maps).length≤8)∧(ae=(((spec_StepLibrary o j).1).Away).length)∧((ae:Int)≤9223372036854775807)∧((((spec_StepLibrary o j).1).Away).length≤8)) mo ?_ ?_))))
   ·intro lR u
    have oj:=u.size
    refine Av #[true,true,true,true,true,true,true,true,true,false,false] 2 (fun f' w'=>∃ (j:LibraryStep) (O:Int) (au:Int) (M:Option Addr) (ac:Nat) (ay:Nat) (N:Option Addr) (ae:Nat) (az:Nat) (U:Nat),At f' [(0,pt gc),(2,pt g1),(3,pt c),(4,i6 n),(5,pt U),(22,.agg (List.toArray (cLb M ac ay N ae az ((spec_StepLibrary o j).1)))),(23,.bool ((spec_StepLibrary o j).2))]∧(Kp (fun b_=>b_=gc) ax w')∧(SlO w' ax.heap.size encLMap 3 102 M ac ay (((spec_StepLibrary o j).1).Maps))∧(SlO w' ax.heap.size encAway 2 129 N ae az (((spec_StepLibrary o j).1).Away))∧(Blk w' U 34 zLb)∧(ax.heap.size≤U∧U<w'.heap.size)∧(Blk w' gc ec [.slice Ac nc cc,i6 O,.int .u64 au])∧(¬f=some ⟨U,0,none⟩)∧(¬p=some ⟨U,0,none⟩)∧(¬M=some ⟨U,0,none⟩)∧(¬N=some ⟨U,0,none⟩)∧Dj M f∧Dj M p∧Dj M N∧Dj N f∧Dj N p∧(t≤O∧O≤t+20)∧((-10000000≤j.Id∧j.Id≤10000000)∧(-10000000≤j.Reader∧j.Reader≤10000000)∧(-10000000≤j.Value∧j.Value≤10000000))∧(ac=(((spec_StepLibrary o j).1).Maps).length)∧((ac:Int)≤9223372036854775807)∧((((spec_StepLibrary o j).1).Maps).length≤8)∧(ae=(((spec_StepLibrary o j).1).Away).length)∧((ae:Int)≤9223372036854775807)∧((((spec_StepLibrary o j).1).Away).length≤8)) ?_ (fun gD=>?_)
    ·rintro pV qn ⟨j,O,au,M,ac,ay,N,ae,az,U,ii,fD,kl,km,ko,nW,ks,jW,jX,f8,ga,jY,jZ,j0,j1,j2,dD,dw,gh,gi,gH,gj,gk,gI⟩
     rw [← sA ii]
     have ol:=fD.size
     refine Ab 9 G (Qw (o:=0) (vs:=(cLb M ac ay N ae az ((spec_StepLibrary o j).1))) agg34.2 G G G G ko ler G ?_)
     intro qo db oa fZ
     have dY:=fD.new db
     refine Qn ⟨dY,_,G,(Ak 10 G dY (fun w' hw'=>aB G)<|Ad oC (⟨j,O,au,M,ac,ay,N,ae,az,U,(At.r G),dY,((kl.kd db f8).down),((km.kd db ga).down),fZ,⟨oB,fZ.lt⟩,(ks.kn db),jW,jX,f8,ga,jY,jZ,j0,j1,j2,dD,dw,gh,gi,gH,gj,gk,gI⟩))⟩
    refine Av #[true,true,true,true,false,false,false,false,true,false,false] 6 (fun f' w'=>∃ (j:LibraryStep) (O:Int) (au:Int) (bN:Nat),At f' [(0,pt gc),(2,pt g1),(3,pt c),(4,i6 n),(5,pt bN),(17,.agg (List.toArray (cLb f B H p K R o))),(20,.agg (List.toArray [i6 j.Kind,i6 j.Id,i6 j.Reader,i6 j.Value]))]∧(Kp (fun b_=>b_=gc) ax w')∧(Blk w' bN 34 zLb)∧(ax.heap.size≤bN∧bN<w'.heap.size)∧(Blk w' gc ec [.slice Ac nc cc,i6 O,.int .u64 au])∧(¬f=some ⟨bN,0,none⟩)∧(¬p=some ⟨bN,0,none⟩)∧(t≤O∧O≤t+20)∧((-10000000≤j.Id∧j.Id≤10000000)∧(-10000000≤j.Reader∧j.Reader≤10000000)∧(-10000000≤j.Value∧j.Value≤10000000))) ?_ (fun gE=>?_)
    ·rintro pW lS ⟨j,O,au,bN,ij,aH,gm,nY,ku,j4,j5,dD,dw⟩
     rw [← sA ij]
     have om:=aH.size
     refine Ab 4 G (Qc ent67 (c_spec_StepLibrary lS o ((m.kd aH d).rd) ((q.kd aH i).rd) j) G ?_)
     rintro e qp ⟨ll,lE,lq,lm,lF,ls,rfl,bI,bJ,j6,cp⟩
     refine ⟨_,G,?_⟩
     have oo:=cp.size
     have cj:=aH.lo cp
     have kb:=bI.len
     have ke:=bI.rd.bound
     have kP:=step_lenMS o j
     have kf:=bJ.len
     have kg:=bJ.rd.bound
     have kQ:=step_lenAS o j
     refine Qn ⟨cj,_,G,(Ak 5 G cj (fun w' hw'=>mT G)<|Ak 6 G cj (fun w' hw'=>xG G G)<|Ak 7 G cj (fun w' hw'=>xB G G)<|Ag oC G (gD _ _ (⟨j,O,au,ll,lE,lq,lm,lF,ls,bN,(At.r G),cj,(bI.down),(bJ.down),(gm.lo cp),⟨oB,(gm.lo cp).lt⟩,(ku.lo cp),j4,j5,(nE bI),(nE bJ),(dj bI (m.kd aH d)),(dj bI (q.kd aH i)),j6,(dj bJ (m.kd aH d)),(dj bJ (q.kd aH i)),dD,dw,kb,ke,kP,kf,kg,kQ⟩)))⟩
    refine Ak 0 G (kr u) (fun w' hw'=>lG agg34 G (C.kn hw' oB) G)<|Ak 1 G (kr u) (fun w' hw'=>mP G)<|Ak 2 G (kr u) (fun w' hw'=>lG agg34 G (C.kn hw' oB) G)<|Ar [3,8] oC G ⟨Bm G trivial ?_,Bm G trivial ?_,trivial⟩
    ·refine Qc ent108 (c___spec_l1Cur__libraryStep lR Lc t z (eZ.lo u) (an.lo u) oB oB o ((m.lo u).rd) ((q.lo u).rd) oB (by first | assumption | exact MapB.of (And.left (And.left ‹LibOK _›)) | exact MapB.app (MapB.of (And.left (And.left ‹LibOK _›))) oF | exact MapB.nil) (by first | assumption | exact AwayB.of ‹LibOK _› | exact AwayB.app (AwayB.of ‹LibOK _›) oF | exact AwayB.nil) ((m.lo u).apart d) ((q.lo u).apart i)) G ?_
     rintro e lT ⟨dM,jN,jM,rfl,f0,gR,gJ,ah⟩
     refine ⟨_,G,?_⟩
     have ot:=ah.size
     have dZ:=((kr u:Kp (fun b_=>b_=gc) ax _)).step ah (fun _ _ e=>e)
     refine Qn ⟨dZ,_,G,(Ar [4,8] oC G ⟨Bm G trivial ?_,Bm G trivial ?_,trivial⟩)⟩
     ·refine Qc ent67 (c_spec_StepLibrary lT o (((m.lo u).kd ah d).rd) (((q.lo u).kd ah i).rd) dM) G ?_
      rintro e qq ⟨ln,lH,lu,lp,lI,lv,rfl,bK,bL,j7,cq⟩
      refine ⟨_,G,?_⟩
      have ou:=cq.size
      have ck:=dZ.lo cq
      have kh:=bK.len
      have ki:=bK.rd.bound
      have kR:=step_lenMS o dM
      have kj:=bL.len
      have kk:=bL.rd.bound
      have kS:=step_lenAS o dM
      refine Qn ⟨ck,_,G,(Ak 5 G ck (fun w' hw'=>mT G)<|Ak 6 G ck (fun w' hw'=>xG G G)<|Ak 7 G ck (fun w' hw'=>xB G G)<|Ab 8 G (Qa (l:=zLb) tz34 G ?_))⟩
      intro dJ qr nZ aK ob f4
      have fF:=ck.lo aK
      refine Qn ⟨fF,_,G,(Ag oC G (gD _ _ (⟨dM,jN,jM,ln,lH,lu,lp,lI,lv,dJ,(At.r G),fF,((bK.lo aK).down),((bL.lo aK).down),f4,⟨oB,f4.lt⟩,((f0.lo cq).lo aK),(nE (g:=dJ) (((m.lo u).kd ah d).lo cq)),(nE (g:=dJ) (((q.lo u).kd ah i).lo cq)),(nE (g:=dJ) bK),(nE (g:=dJ) bL),(dj (bK.lo aK) ((m.lo u).kd ah d)),(dj (bK.lo aK) ((q.lo u).kd ah i)),j7,(dj (bL.lo aK) ((m.lo u).kd ah d)),(dj (bL.lo aK) ((q.lo u).kd ah i)),gR,gJ,kh,ki,kR,kj,kk,kS⟩)))⟩
     ·refine Qa (l:=zLb) tz34 G ?_
      intro fw qt n3 gb oc f6
      have fG:=dZ.lo gb
      refine Qn ⟨fG,_,G,(Ag oC G (gE _ _ (⟨dM,jN,jM,fw,(At.r G),fG,f6,⟨oB,f6.lt⟩,(f0.lo gb),(nE (g:=fw) ((m.lo u).kd ah d)),(nE (g:=fw) ((q.lo u).kd ah i)),gR,gJ⟩)))⟩
    ·refine Qa (l:=zLb) tz34 G ?_
     intro fx lU n4 bc od f7
     have fH:=((kr u:Kp (fun b_=>b_=gc) ax _)).lo bc
     refine Qn ⟨fH,_,G,(Ab 3 G (Qc ent108 (c___spec_l1Cur__libraryStep lU Lc t z ((eZ.lo u).lo bc) ((an.lo u).lo bc) oB oB o (((m.lo u).lo bc).rd) (((q.lo u).lo bc).rd) oB (by first | assumption | exact MapB.of (And.left (And.left ‹LibOK _›)) | exact MapB.app (MapB.of (And.left (And.left ‹LibOK _›))) oF | exact MapB.nil) (by first | assumption | exact AwayB.of ‹LibOK _› | exact AwayB.app (AwayB.of ‹LibOK _›) oF | exact AwayB.nil) (((m.lo u).lo bc).apart d) (((q.lo u).lo bc).apart i)) G ?_))⟩
     rintro e qu ⟨lQ,lN,lJ,rfl,jQ,kW,kT,de⟩
     refine ⟨_,G,?_⟩
     have ov:=de.size
     have fI:=fH.step de (fun _ _ e=>e)
     refine Qn ⟨fI,_,G,(Ag oC G (gE _ _ (⟨lQ,lN,lJ,fx,(At.r G),fI,(f7.kn de),⟨oB,(f7.kn de).lt⟩,jQ,(nE (g:=fx) (m.lo u)),(nE (g:=fx) (q.lo u)),kW,kT⟩)))⟩
   rintro pX ct ⟨j,O,au,M,ac,ay,N,ae,az,U,ik,aw,dn,dp,kt,nX,gl,nF,nG,nH,nI,nJ,nK,j3,nN,nO,dD,dw,gh,gi,gH,gj,gk,gI⟩
   rw [← sA ik]
   have ow:=aw.size
   have fz:=fB.step aw (fun i_ hi_ e'=>e')
   refine Ws (Wr (Q (mB G)<|Qn (Wb G (fun lw=>?_) (fun lw=>?_))))
   ·refine Wr (Q (lG agg34 G kt G)<|Qw (o:=0) (vs:=(cLb M ac ay N ae az ((spec_StepLibrary o j).1))) agg34.2 G G G G (C.kn aw oB) ler G ?_)
    intro cu ai oe jR
    refine Qn ?_
    have kv:=(an.kn aw oB).kn ai
    have kw:=(bD.kn aw oB).kn ai
    refine Wr (Q (mI G)<|Q (r_sub G G oB)<|Q (aI G)<|Qn (⟨(n-1,((spec_StepLibrary o j).1),O,au,M,ac,ay,N,ae,az),_,G,(At.r G),(show (Kp (fun b_=>b_=gc) w cu)∧(Blk cu gc ec [.slice Ac nc cc,i6 O,.int .u64 au])∧(SlR cu Bc encB 1 Ac nc cc Lc)∧(Blk cu g1 34 zLb)∧(Blk cu c 34 (cLb M ac ay N ae az ((spec_StepLibrary o j).1)))∧(SlO cu w.heap.size encLMap 3 102 M ac ay (((spec_StepLibrary o j).1).Maps))∧(SlO cu w.heap.size encAway 2 129 N ae az (((spec_StepLibrary o j).1).Away))∧(¬M=some ⟨gc,0,none⟩)∧(¬M=some ⟨g1,0,none⟩)∧(¬M=some ⟨c,0,none⟩)∧Dj M N∧(¬N=some ⟨gc,0,none⟩)∧(¬N=some ⟨g1,0,none⟩)∧(¬N=some ⟨c,0,none⟩)∧((0≤n-1∧n-1≤35)∧LibOK ((spec_StepLibrary o j).1)∧tc≤O∧O≤tc+4+20*(35-(n-1))) from ⟨(fz.new ai),(gl.kn ai),kv,kw,jR,((dn.kn ai).down),((dp.kn ai).down),(nE (dn.kn ai)),(nE (dn.kn ai)),(nE (dn.kn ai)),j3,(nE (dp.kn ai)),(nE (dp.kn ai)),(nE (dp.kn ai)),?_⟩),?_⟩))
    ·exact (by first | exact ⟨oB,spec_okL ‹(spec_StepLibrary _ _).2=true›,oB,oB⟩ | exact ⟨oB,‹LibOK _›,oB,oB⟩)
    ·exact oB
   ·refine Wk (Wr (Q (mI G)<|Q (r_sub G G oB)<|Q (aI G)<|Qn (⟨(n-1,o,O,au,f,B,H,p,K,R),_,G,(At.r G),(show (Kp (fun b_=>b_=gc) w ct)∧(Blk ct gc ec [.slice Ac nc cc,i6 O,.int .u64 au])∧(SlR ct Bc encB 1 Ac nc cc Lc)∧(Blk ct g1 34 zLb)∧(Blk ct c 34 (cLb f B H p K R o))∧(SlO ct w.heap.size encLMap 3 102 f B H o.Maps)∧(SlO ct w.heap.size encAway 2 129 p K R o.Away)∧(¬f=some ⟨gc,0,none⟩)∧(¬f=some ⟨g1,0,none⟩)∧(¬f=some ⟨c,0,none⟩)∧Dj f p∧(¬p=some ⟨gc,0,none⟩)∧(¬p=some ⟨g1,0,none⟩)∧(¬p=some ⟨c,0,none⟩)∧((0≤n-1∧n-1≤35)∧LibOK o∧tc≤O∧O≤tc+4+20*(35-(n-1))) from ⟨fz,gl,an.kn aw oB,bD.kn aw oB,(C.kn aw oB),(m.kd aw d),(q.kd aw i),d,cm,bP,am,i,cn,aJ,?_⟩),?_⟩)))
    ·exact (by first | exact ⟨oB,spec_okL ‹(spec_StepLibrary _ _).2=true›,oB,oB⟩ | exact ⟨oB,‹LibOK _›,oB,oB⟩)
    ·exact oB
  ·refine Wx (xh (Ws (Ws (Wr (Q (mP G)<|Qc ent59 (c___spec_l1Cur__pick ax Lc t z eZ an oB oB 32 oD) G ?_)))))
   rintro e s ⟨qm,v,ap,rfl,X,oi,n7,a⟩
   refine ⟨_,G,?_⟩
   have ox:=a.size
   have cF:=fB.step a (fun i_ hi_ e'=>e')
   refine Qn (Wl (Ws (Wr (Q (r_eq G G)<|Q (aB G)<|Qn (Wd G (fun lx=>?_) (fun lx=>?_))))))
   ·refine WA (Kp (fun b_=>b_=gc∨b_=c) s) (fun f' w'=>∃ (aE:Nat) (ar:Int) (aU:Int) (cr:Int),At f' [(2,pt g1),(3,pt c)]∧(Kp (fun b_=>b_=gc∨b_=c) s w')∧(Blk w' gc ec [.slice Ac nc cc,i6 aU,.int .u64 cr])∧(Blk w' c 34 [.slice f B H,.slice p K R,i6 (o.Bought+ar),i6 o.Dropped,i6 o.Mended])∧(v≤aU∧aU≤v+2)∧(ar∈([1,(-1)]:List Int))∧(((-1):Int)≤ar∧ar≤1)) mo ?_ ?_
    ·intro qv J
     have oy:=J.size
     refine Av #[true,true,true,true,true,true,true,false] 1 (fun f' w'=>∃ (aE:Nat) (ar:Int) (aU:Int) (cr:Int),At f' [(2,pt g1),(3,pt c),(35,i6 (o.Bought+ar)),(36,.pointer (some ((⟨c,0,none⟩:Addr).add 2)))]∧(Kp (fun b_=>b_=gc∨b_=c) s w')∧(Blk w' gc ec [.slice Ac nc cc,i6 aU,.int .u64 cr])∧(Blk w' c 34 (cLb f B H p K R o))∧(v≤aU∧aU≤v+2)∧(ar∈([1,(-1)]:List Int))∧(((-1):Int)≤ar∧ar≤1)) ?_ (fun gF=>?_)
     ·rintro pY qw ⟨aE,ar,aU,cr,il,fE,kz,kA,gS,gK,gM⟩
      rw [← sA il]
      have oz:=fE.size
      refine Ab 7 G (Qw (o:=2) (vs:=[i6 (o.Bought+ar)]) sca3.2 G G G G kA ler G ?_)
      intro qx gf og jS
      have fJ:=fE.step gf (fun _ _ e=>.inr e)
      refine Qn ⟨fJ,_,G,(Ad oC (⟨aE,ar,aU,cr,⟨G,G,trivial⟩,fJ,(kz.kn gf),jS,gS,gK,gM⟩))⟩
     refine Av #[true,true,true,true,false,false,false,false] 4 (fun f' w'=>∃ (aE:Nat),At f' [(2,pt g1),(3,pt c),(31,i6 o.Bought),(32,pt gc),(33,.slice (pA aE) 2 2)]∧(Kp (fun b_=>b_=gc∨b_=c) s w')∧(SlO w' s.heap.size encI 1 3 (pA aE) 2 2 ([1,(-1)]:List Int))∧(Blk w' gc ec [.slice Ac nc cc,i6 v,.int .u64 ap])∧(Blk w' c 34 (cLb f B H p K R o))∧(∀ b_,(pA aE)=some ⟨b_,0,none⟩→¬f=some ⟨b_,0,none⟩)∧(∀ b_,(pA aE)=some ⟨b_,0,none⟩→¬p=some ⟨b_,0,none⟩)) ?_ (fun gG=>?_)
     ·rintro pZ lV ⟨aE,im,dX,gr,kx,ky,nP,nQ⟩
      rw [← sA im]
      have o0:=dX.size
      refine Ab 4 G (Qc ent58 (c___spec_l1Cur__among lV Lc v ap kx ((an.kn a).kp dX (fun b_ hb e'=>e'.elim (fun e'=>by have e'':b_=gc:=e'; omega) (fun e'=>by have e'':b_=c:=e'; omega))) oB oB ([1,(-1)]:List Int) (gr.rd) oB oB (show ¬aE=gc from by first | omega | (have:=gr.base_le G; omega))) G ?_)
      rintro e qy ⟨g0,lO,lL,rfl,jT,kX,gN,d1⟩
      refine ⟨_,G,?_⟩
      have o1:=d1.size
      have cZ:=dX.step d1 (fun _ _ e=>.inl e)
      have kU:((-1):Int)≤g0∧g0≤1:=mem_rngB (lo:=(-1)) (hi:=1) oG gN
      refine Qn ⟨cZ,_,G,(Ak 5 G cZ (fun w' hw'=>r_add G G oB)<|Ak 6 G cZ (fun w' hw'=>fA fa34_2 G)<|Ag oC G (gF _ _ (⟨aE,g0,lO,lL,(At.r G),cZ,jT,(ky.kn d1),kX,gN,kU⟩)))⟩
     refine Ak 0 G (kr J) (fun w' hw'=>fA fa34_2 G)<|Ak 2 G (kr J) (fun w' hw'=>mP G)<|Ar [1,3] oC G ⟨Bm G trivial ?_,Bm G trivial ?_,trivial⟩
     ·refine Q (lB sca3 G ((C.kn a).lo J) G) (Qn ⟨(kq s).lo J,_,G,(Ab 3 G (Ql (vs:=[i6 1,i6 (-1)]) (L:=([1,(-1)]:List Int)) (enc:=encI) tel93 (fun _=>G) G G G oG ?_))⟩)
      intro fy qz n5 df jP
      have o2:=df.size
      have fK:=((kr J:Kp (fun b_=>b_=gc∨b_=c) s _)).lo df
      refine Qn ⟨fK,_,G,(Ag oC G (gG _ _ (⟨fy,(At.r G),fK,(jP.down),((X.lo J).lo df),(((C.kn a).lo J).lo df),(fun b_ h h'=>(nE (g:=fy) ((m.kd a d).lo J)) (h'.trans h.symm)),(fun b_ h h'=>(nE (g:=fy) ((q.kd a i).lo J)) (h'.trans h.symm))⟩)))⟩
     ·refine Ql (vs:=[i6 1,i6 (-1)]) (L:=([1,(-1)]:List Int)) (enc:=encI) tel93 (fun _=>G) G G G oG ?_
      intro dK lW n6 aD dW
      have o3:=aD.size
      have c6:=((kr J:Kp (fun b_=>b_=gc∨b_=c) s _)).lo aD
      refine Qn ⟨c6,_,G,(Ar [1,4] oC G ⟨Bm G trivial ?_,Bm G trivial ?_,trivial⟩)⟩
      ·refine Q (lB sca3 G (((C.kn a).lo J).lo aD) G) (Qn ⟨c6,_,G,(Ag oC G (gG _ _ (⟨dK,(At.r G),c6,(dW.down),((X.lo J).lo aD),(((C.kn a).lo J).lo aD),(fun b_ h h'=>(nE (g:=dK) ((m.kd a d).lo J)) (h'.trans h.symm)),(fun b_ h h'=>(nE (g:=dK) ((q.kd a i).lo J)) (h'.trans h.symm))⟩)))⟩)
      ·refine Qc ent58 (c___spec_l1Cur__among lW Lc v ap ((X.lo J).lo aD) (((an.kn a).lo J).lo aD) oB oB ([1,(-1)]:List Int) (dW.rd) oB oB (show ¬dK=gc from by first | omega | (have:=dW.base_le G; omega))) G ?_
       rintro e qA ⟨g5,lP,lM,rfl,jU,kY,gO,dg⟩
       refine ⟨_,G,?_⟩
       have o4:=dg.size
       have cl:=c6.step dg (fun _ _ e=>.inl e)
       have kV:((-1):Int)≤g5∧g5≤1:=mem_rngB (lo:=(-1)) (hi:=1) oG gO
       refine Qn ⟨cl,_,G,(Ab 1 G (Q (lB sca3 G ((((C.kn a).lo J).lo aD).kn dg) G) (Qn ⟨cl,_,G,(Ak 5 G cl (fun w' hw'=>r_add G G oB)<|Ak 6 G cl (fun w' hw'=>fA fa34_2 G)<|Ag oC G (gF _ _ (⟨dK,g5,lP,lM,(At.r G),cl,jU,((((C.kn a).lo J).lo aD).kn dg),kY,gO,kV⟩)))⟩)))⟩
    rintro p1 qB ⟨aE,ar,aU,cr,io,ci,kB,kC,gS,gK,gM⟩
    rw [← sA io]
    have o5:=ci.size
    refine Ws ?_
    have kD:=(bD.kn a).kp ci (fun e'=>e'.elim (fun e'=>by have e'':g1=gc:=e'; omega) (fun e'=>by have e'':g1=c:=e'; omega))
    have kE:=(m.kd a d).kp ci (fun b_ hb e'=>e'.elim (fun e'=>d (by have e'':b_=gc:=e'; rw [← e'']; exact hb)) (fun e'=>bP (by have e'':b_=c:=e'; rw [← e'']; exact hb)))
    have kF:=(q.kd a i).kp ci (fun b_ hb e'=>e'.elim (fun e'=>i (by have e'':b_=gc:=e'; rw [← e'']; exact hb)) (fun e'=>aJ (by have e'':b_=c:=e'; rw [← e'']; exact hb)))
    refine Wr (Q (lG agg34 G kC G)<|Qw (o:=0) (vs:=[.slice f B H,.slice p K R,i6 (o.Bought+ar),i6 o.Dropped,i6 o.Mended]) agg34.2 G G G G kD ler G ?_)
    intro qC dh oh jV
    refine Qn (We (retC G G agg34 jV G ?_))
    refine ⟨f,B,H,p,K,R,(⟨o.Maps,o.Away,o.Bought+ar,o.Dropped,o.Mended⟩:Library),aU,cr,eR (eA G),(oq ((kE.kd dh cm).down) ?_),(oq ((kF.kd dh cn).down) ?_),am,(kB.kn dh),⟨oB,oB⟩,oE,gP,gQ,((cF.step ci (fun i_ hi_ e'=>e'.elim (fun e'=>e') (fun e'=>by have e'':i_=c:=e'; omega))).new dh)⟩ <;> (first | rfl | omega | grind)
   ·refine Ws (Wr (Q (r_eq G G)<|Q (aB G)<|Qn (Wd G (fun ly=>?_) (fun ly=>?_))))
    ·refine WA (Kp (fun b_=>b_=gc∨f=some ⟨b_,0,none⟩∨b_=c) s) (fun f' w'=>∃ (bg:Option Addr) (dI:Nat) (E:Nat) (y:Int) (D:Int) (aj:Int) (al:Nat) (S:Int) (ag:Int) (aR:Int) (bO:Nat),At f' [(2,pt g1),(3,pt c)]∧(Kp (fun b_=>b_=gc∨f=some ⟨b_,0,none⟩∨b_=c) s w')∧(SlO w' w.heap.size encLMap 3 102 bg (B+1) dI (o.Maps++([(⟨y,0,S⟩:LMap)]:List LMap)))∧(Blk w' gc ec [.slice Ac nc cc,i6 ag,.int .u64 aR])∧(Blk w' c 34 [.slice bg (B+1) dI,.slice p K R,i6 o.Bought,i6 o.Dropped,i6 o.Mended])∧(¬bg=some ⟨gc,0,none⟩)∧(¬bg=some ⟨g1,0,none⟩)∧(¬bg=some ⟨c,0,none⟩)∧Dj bg p∧(v≤D∧D≤v+2)∧(y∈([0,1,99]:List Int))∧((0:Int)≤y∧y≤99)∧(D≤ag∧ag≤D+2)∧(S∈([0,1]:List Int))∧((0:Int)≤S∧S≤1)) mo ?_ ?_
     ·intro o7 b
      have mx:=b.size
      refine Av #[true,true,true,true,true,true,true,true,true,true,false,false,false] 3 (fun f' w'=>∃ (E:Nat) (y:Int) (D:Int) (aj:Int) (al:Nat) (S:Int) (ag:Int) (aR:Int) (bO:Nat),At f' [(2,pt g1),(3,pt c),(40,.slice f B H),(48,.slice (pA bO) 1 1)]∧(Kp (fun b_=>b_=gc∨f=some ⟨b_,0,none⟩∨b_=c) s w')∧(SlO w' s.heap.size encLMap 3 102 (pA bO) 1 1 ([(⟨y,0,S⟩:LMap)]:List LMap))∧(Blk w' gc ec [.slice Ac nc cc,i6 ag,.int .u64 aR])∧(Blk w' c 34 (cLb f B H p K R o))∧(SlO w' w.heap.size encLMap 3 102 f B H o.Maps)∧(∀ b_,(pA bO)=some ⟨b_,0,none⟩→¬f=some ⟨b_,0,none⟩)∧(∀ b_,(pA bO)=some ⟨b_,0,none⟩→¬p=some ⟨b_,0,none⟩)∧(v≤D∧D≤v+2)∧(y∈([0,1,99]:List Int))∧((0:Int)≤y∧y≤99)∧(D≤ag∧ag≤D+2)∧(S∈([0,1]:List Int))∧((0:Int)≤S∧S≤1)) ?_ (fun e6=>?_)
      ·rintro nl o8 ⟨E,y,D,aj,al,S,ag,aR,bO,fL,bS,kN,gB,gC,kO,nT,nU,aQ,aN,aO,dE,dA,dB⟩
       rw [← sA fL]
       have my:=bS.size
       refine Ab 10 G (Qp tel31 G G kO (kN.rd) (fun _=>G) oB oB ?_)
       intro bE fu o9 bZ g7 bQ
       have mz:=bZ.size
       have cR:=bS.step bZ (fun _ _ e=>.inr (.inl e))
       have iN:¬bE=some ⟨gc,0,none⟩:=fun e'=>(bQ gc e').elim (fun h=>d (h.trans e')) (fun h=>by have:=gB.lt; omega)
       have iO:¬bE=some ⟨g1,0,none⟩:=fun e'=>(bQ g1 e').elim (fun h=>cm (h.trans e')) (fun h=>by have:=((bD.kn a).kp bS (fun e'=>e'.elim (fun e'=>by have e'':g1=gc:=e'; omega) (fun e'=>e'.elim (fun e'=>cm e') (fun e'=>by have e'':g1=c:=e'; omega)))).lt; omega)
       have eD:¬bE=some ⟨c,0,none⟩:=fun e'=>(bQ c e').elim (fun h=>bP (h.trans e')) (fun h=>by have:=gC.lt; omega)
       have iP:Dj bE p:=fun b_ e' h'=>(bQ b_ e').elim (fun h=>am b_ (h.trans e') h') (fun h=>by have:=((q.kd a i).kp bS (fun b_ hb e'=>e'.elim (fun e'=>i (by have e'':b_=gc:=e'; rw [← e'']; exact hb)) (fun e'=>e'.elim (fun e'=>am b_ e' hb) (fun e'=>aJ (by have e'':b_=c:=e'; rw [← e'']; exact hb))))).base_le h'; omega)
       refine Qn ⟨cR,_,G,(Ak 11 G cR (fun w' hw'=>fA fa34_0 G)<|Ab 12 G (Qw (o:=0) (vs:=[.slice bE (B+1) fu]) sca31.2 G G G G (gC.kp bZ (fun e'=>bP e')) ler G ?_))⟩
       intro pb c7 mq ip
       have d7:=cR.step c7 (fun _ _ e=>.inr (.inr e))
       refine Qn ⟨d7,_,G,(Ad oC (⟨bE,fu,E,y,D,aj,al,S,ag,aR,bO,⟨G,G,trivial⟩,d7,(g7.kd c7 eD),((gB.kp bZ (fun e'=>d e')).kn c7),ip,iN,iO,eD,iP,aQ,aN,aO,dE,dA,dB⟩))⟩
      refine Av #[true,true,true,true,true,true,true,true,true,false,false,false,false] 4 (fun f' w'=>∃ (E:Nat) (y:Int) (D:Int) (aj:Int) (al:Nat) (S:Int) (ag:Int) (aR:Int),At f' [(2,pt g1),(3,pt c),(40,.slice f B H),(47,.agg (List.toArray [i6 y,i6 0,i6 S]))]∧(Kp (fun b_=>b_=gc∨f=some ⟨b_,0,none⟩∨b_=c) s w')∧(Blk w' gc ec [.slice Ac nc cc,i6 ag,.int .u64 aR])∧(Blk w' c 34 (cLb f B H p K R o))∧(SlO w' w.heap.size encLMap 3 102 f B H o.Maps)∧(v≤D∧D≤v+2)∧(y∈([0,1,99]:List Int))∧((0:Int)≤y∧y≤99)∧(D≤ag∧ag≤D+2)∧(S∈([0,1]:List Int))∧((0:Int)≤S∧S≤1)) ?_ (fun e7=>?_)
      ·rintro nn pc ⟨E,y,D,aj,al,S,ag,aR,fM,cI,kL,kM,gA,aQ,aN,aO,dE,dA,dB⟩
       rw [← sA fM]
       have mA:=cI.size
       refine Ab 9 G (Ql (vs:=[.agg (List.toArray [i6 y,i6 0,i6 S])]) (L:=([(⟨y,0,S⟩:LMap)]:List LMap)) (enc:=encLMap) tel31 (fun _=>G) G G G oG ?_)
       intro dN pd l7 bo g8
       have mC:=bo.size
       have d8:=cI.lo bo
       have iQ:=nE (g:=dN) ((q.kd a i).kp cI (fun b_ hb e'=>e'.elim (fun e'=>i (by have e'':b_=gc:=e'; rw [← e'']; exact hb)) (fun e'=>e'.elim (fun e'=>am b_ e' hb) (fun e'=>aJ (by have e'':b_=c:=e'; rw [← e'']; exact hb)))))
       refine Qn ⟨d8,_,G,(Ag oC G (e6 _ _ (⟨E,y,D,aj,al,S,ag,aR,dN,(At.r G),d8,(g8.down),(kL.lo bo),(kM.lo bo),(gA.lo bo),(fun b_ h h'=>(nE (g:=dN) gA) (h'.trans h.symm)),(fun b_ h h'=>iQ (h'.trans h.symm)),aQ,aN,aO,dE,dA,dB⟩)))⟩
      refine Av #[true,true,true,true,true,true,true,false,false,false,false,false,false] 6 (fun f' w'=>∃ (E:Nat) (y:Int) (D:Int) (aj:Int) (al:Nat),At f' [(2,pt g1),(3,pt c),(40,.slice f B H),(43,i6 y),(44,pt gc),(45,.slice (pA al) 2 2)]∧(Kp (fun b_=>b_=gc∨f=some ⟨b_,0,none⟩∨b_=c) s w')∧(SlO w' s.heap.size encI 1 3 (pA al) 2 2 ([0,1]:List Int))∧(Blk w' gc ec [.slice Ac nc cc,i6 D,.int .u64 aj])∧(Blk w' c 34 (cLb f B H p K R o))∧(SlO w' w.heap.size encLMap 3 102 f B H o.Maps)∧(∀ b_,(pA al)=some ⟨b_,0,none⟩→¬f=some ⟨b_,0,none⟩)∧(∀ b_,(pA al)=some ⟨b_,0,none⟩→¬p=some ⟨b_,0,none⟩)∧(v≤D∧D≤v+2)∧(y∈([0,1,99]:List Int))∧((0:Int)≤y∧y≤99)) ?_ (fun dr=>?_)
      ·rintro np lc ⟨E,y,D,aj,al,fN,cJ,gz,kI,kJ,kK,nR,nS,aQ,aN,aO⟩
       rw [← sA fN]
       have mD:=cJ.size
       refine Ab 7 G (Qc ent58 (c___spec_l1Cur__among lc Lc D aj kI ((an.kn a).kp cJ (fun b_ hb e'=>e'.elim (fun e'=>by have e'':b_=gc:=e'; omega) (fun e'=>e'.elim (nE (m.kd a d)) (fun e'=>by have e'':b_=c:=e'; omega)))) oB oB ([0,1]:List Int) (gz.rd) oB oB (show ¬al=gc from by first | omega | (have:=gz.base_le G; omega))) G ?_)
       rintro e pf ⟨dF,k5,kZ,rfl,iq,jB,fh,b4⟩
       refine ⟨_,G,?_⟩
       have mE:=b4.size
       have cS:=cJ.step b4 (fun _ _ e=>.inl e)
       have jw:(0:Int)≤dF∧dF≤1:=mem_rngB (lo:=0) (hi:=1) oG fh
       refine Qn ⟨cS,_,G,(Ak 8 G cS (fun w' hw'=>r_build (vs:=[(0,i6 y),(2,i6 dF)]) G (bld102_0_2 _ _))<|Ag oC G (e7 _ _ (⟨E,y,D,aj,al,dF,k5,kZ,(At.r G),cS,iq,(kJ.kn b4),(kK.kd b4 d),aQ,aN,aO,jB,fh,jw⟩)))⟩
      refine Av #[true,true,true,true,true,true,false,false,false,false,false,false,false] 7 (fun f' w'=>∃ (E:Nat) (y:Int) (D:Int) (aj:Int),At f' [(2,pt g1),(3,pt c),(40,.slice f B H),(43,i6 y),(44,pt gc)]∧(Kp (fun b_=>b_=gc∨f=some ⟨b_,0,none⟩∨b_=c) s w')∧(Blk w' gc ec [.slice Ac nc cc,i6 D,.int .u64 aj])∧(Blk w' c 34 (cLb f B H p K R o))∧(SlO w' w.heap.size encLMap 3 102 f B H o.Maps)∧(v≤D∧D≤v+2)∧(y∈([0,1,99]:List Int))∧((0:Int)≤y∧y≤99)) ?_ (fun e9=>?_)
      ·rintro nq pg ⟨E,y,D,aj,fO,cK,kG,kH,gy,aQ,aN,aO⟩
       rw [← sA fO]
       have mF:=cK.size
       refine Ab 6 G (Ql (vs:=[i6 0,i6 1]) (L:=([0,1]:List Int)) (enc:=encI) tel93 (fun _=>G) G G G oG ?_)
       intro dO ph l8 bp hF
       have mG:=bp.size
       have d9:=cK.lo bp
       have iR:=nE (g:=dO) ((q.kd a i).kp cK (fun b_ hb e'=>e'.elim (fun e'=>i (by have e'':b_=gc:=e'; rw [← e'']; exact hb)) (fun e'=>e'.elim (fun e'=>am b_ e' hb) (fun e'=>aJ (by have e'':b_=c:=e'; rw [← e'']; exact hb)))))
       refine Qn ⟨d9,_,G,(Ag oC G (dr _ _ (⟨E,y,D,aj,dO,(At.r G),d9,(hF.down),(kG.lo bp),(kH.lo bp),(gy.lo bp),(fun b_ h h'=>(nE (g:=dO) gy) (h'.trans h.symm)),(fun b_ h h'=>iR (h'.trans h.symm)),aQ,aN,aO⟩)))⟩
      refine Av #[true,true,true,true,false,true,true,false,false,false,false,false,false] 7 (fun f' w'=>∃ (E:Nat) (ba:Nat),At f' [(2,pt g1),(3,pt c),(40,.slice f B H),(41,pt gc),(42,.slice (pA E) 3 3),(44,pt gc),(45,.slice (pA ba) 2 2)]∧(Kp (fun b_=>b_=gc∨f=some ⟨b_,0,none⟩∨b_=c) s w')∧(SlO w' s.heap.size encI 1 3 (pA E) 3 3 ([0,1,99]:List Int))∧(SlO w' s.heap.size encI 1 3 (pA ba) 2 2 ([0,1]:List Int))∧(Blk w' gc ec [.slice Ac nc cc,i6 v,.int .u64 ap])∧(Blk w' c 34 (cLb f B H p K R o))∧(SlO w' w.heap.size encLMap 3 102 f B H o.Maps)∧(∀ b_,(pA E)=some ⟨b_,0,none⟩→¬f=some ⟨b_,0,none⟩)∧(∀ b_,(pA E)=some ⟨b_,0,none⟩→¬p=some ⟨b_,0,none⟩)∧(∀ b_,(pA E)=some ⟨b_,0,none⟩→¬(pA ba)=some ⟨b_,0,none⟩)∧(∀ b_,(pA ba)=some ⟨b_,0,none⟩→¬f=some ⟨b_,0,none⟩)∧(∀ b_,(pA ba)=some ⟨b_,0,none⟩→¬p=some ⟨b_,0,none⟩)) ?_ (fun dt=>?_)
      ·rintro nr ld ⟨E,ba,fP,cN,eK,jd,je,jf,jg,lZ,l0,l1,iE,iF⟩
       rw [← sA fP]
       have mH:=cN.size
       refine Ab 4 G (Qc ent58 (c___spec_l1Cur__among ld Lc v ap je ((an.kn a).kp cN (fun b_ hb e'=>e'.elim (fun e'=>by have e'':b_=gc:=e'; omega) (fun e'=>e'.elim (nE (m.kd a d)) (fun e'=>by have e'':b_=c:=e'; omega)))) oB oB ([0,1,99]:List Int) (eK.rd) oB oB (show ¬E=gc from by first | omega | (have:=eK.base_le G; omega))) G ?_)
       rintro e pj ⟨d3,k6,k0,rfl,ir,jC,fj,bq⟩
       refine ⟨_,G,?_⟩
       have mJ:=bq.size
       have ea:=cN.step bq (fun _ _ e=>.inl e)
       have jx:(0:Int)≤d3∧d3≤99:=mem_rngB (lo:=0) (hi:=99) oG fj
       refine Qn ⟨ea,_,G,(Ag oC G (dr _ _ (⟨E,d3,k6,k0,ba,(At.r G),ea,((jd.kn bq).down),ir,(jf.kn bq),(jg.kd bq d),iE,iF,jC,fj,jx⟩)))⟩
      refine Av #[true,false,true,true,true,true,true,false,false,false,false,false,false] 7 (fun f' w'=>∃ (V:Nat) (aq:Int) (aT:Int) (bM:Int) (aC:Nat),At f' [(2,pt g1),(3,pt c),(39,.pointer (some ((⟨c,0,none⟩:Addr).add 0))),(43,i6 aq),(44,pt gc),(45,.slice (pA aC) 2 2)]∧(Kp (fun b_=>b_=gc∨f=some ⟨b_,0,none⟩∨b_=c) s w')∧(SlO w' s.heap.size encI 1 3 (pA aC) 2 2 ([0,1]:List Int))∧(Blk w' gc ec [.slice Ac nc cc,i6 aT,.int .u64 bM])∧(Blk w' c 34 (cLb f B H p K R o))∧(SlO w' w.heap.size encLMap 3 102 f B H o.Maps)∧(∀ b_,(pA aC)=some ⟨b_,0,none⟩→¬f=some ⟨b_,0,none⟩)∧(∀ b_,(pA aC)=some ⟨b_,0,none⟩→¬p=some ⟨b_,0,none⟩)∧(v≤aT∧aT≤v+2)∧(aq∈([0,1,99]:List Int))∧((0:Int)≤aq∧aq≤99)) ?_ (fun fa=>?_)
      ·rintro ns lf ⟨V,aq,aT,bM,aC,fQ,aV,di,eN,a8,cd,iI,iJ,dC,du,dv⟩
       rw [← sA fQ]
       have mK:=aV.size
       refine Ar [1,7] oC G ⟨Bm G trivial ?_,Bm G trivial ?_,trivial⟩
       ·refine Q (lB sca31 G a8 G) (Qn ⟨aV,_,G,(Ag oC G (dr _ _ (⟨V,aq,aT,bM,aC,(At.r G),aV,(di.down),eN,a8,cd,iI,iJ,dC,du,dv⟩)))⟩)
       ·refine Qc ent58 (c___spec_l1Cur__among lf Lc aT bM eN ((an.kn a).kp aV (fun b_ hb e'=>e'.elim (fun e'=>by have e'':b_=gc:=e'; omega) (fun e'=>e'.elim (nE (m.kd a d)) (fun e'=>by have e'':b_=c:=e'; omega)))) oB oB ([0,1]:List Int) (di.rd) oB oB (show ¬aC=gc from by first | omega | (have:=di.base_le G; omega))) G ?_
        rintro e pk ⟨be,gX,gT,rfl,eu,fr,dx,Z⟩
        refine ⟨_,G,?_⟩
        have mM:=Z.size
        have bl:=aV.step Z (fun _ _ e=>.inl e)
        have fk:(0:Int)≤be∧be≤1:=mem_rngB (lo:=0) (hi:=1) oG dx
        refine Qn ⟨bl,_,G,(Ak 8 G bl (fun w' hw'=>r_build (vs:=[(0,i6 aq),(2,i6 be)]) G (bld102_0_2 _ _))<|Ar [1,9] oC G ⟨Bm G trivial ?_,Bm G trivial ?_,trivial⟩)⟩
        ·refine Q (lB sca31 G (a8.kn Z) G) (Qn ⟨bl,_,G,(Ag oC G (e7 _ _ (⟨V,aq,aT,bM,aC,be,gX,gT,(At.r G),bl,eu,(a8.kn Z),(cd.kd Z d),dC,du,dv,fr,dx,fk⟩)))⟩)
        ·refine Ql (vs:=[.agg (List.toArray [i6 aq,i6 0,i6 be])]) (L:=([(⟨aq,0,be⟩:LMap)]:List LMap)) (enc:=encLMap) tel31 (fun _=>G) G G G oG ?_
         intro dP pl l9 aW hG
         have mN:=aW.size
         have cT:=bl.lo aW
         have iS:=nE (g:=dP) (((q.kd a i).kp aV (fun b_ hb e'=>e'.elim (fun e'=>i (by have e'':b_=gc:=e'; rw [← e'']; exact hb)) (fun e'=>e'.elim (fun e'=>am b_ e' hb) (fun e'=>aJ (by have e'':b_=c:=e'; rw [← e'']; exact hb))))).kd Z i)
         refine Qn ⟨cT,_,G,(Ab 1 G (Q (lB sca31 G ((a8.kn Z).lo aW) G) (Qn ⟨cT,_,G,(Ag oC G (e6 _ _ (⟨V,aq,aT,bM,aC,be,gX,gT,dP,(At.r G),cT,(hG.down),(eu.lo aW),((a8.kn Z).lo aW),((cd.kd Z d).lo aW),(fun b_ h h'=>(nE (g:=dP) (cd.kd Z d)) (h'.trans h.symm)),(fun b_ h h'=>iS (h'.trans h.symm)),dC,du,dv,fr,dx,fk⟩)))⟩)))⟩
      refine Av #[true,true,true,true,false,true,false,false,false,false,false,false,false] 8 (fun f' w'=>∃ (E:Nat),At f' [(2,pt g1),(3,pt c),(40,.slice f B H),(41,pt gc),(42,.slice (pA E) 3 3),(44,pt gc)]∧(Kp (fun b_=>b_=gc∨f=some ⟨b_,0,none⟩∨b_=c) s w')∧(SlO w' s.heap.size encI 1 3 (pA E) 3 3 ([0,1,99]:List Int))∧(Blk w' gc ec [.slice Ac nc cc,i6 v,.int .u64 ap])∧(Blk w' c 34 (cLb f B H p K R o))∧(SlO w' w.heap.size encLMap 3 102 f B H o.Maps)∧(∀ b_,(pA E)=some ⟨b_,0,none⟩→¬f=some ⟨b_,0,none⟩)∧(∀ b_,(pA E)=some ⟨b_,0,none⟩→¬p=some ⟨b_,0,none⟩)) ?_ (fun fb=>?_)
      ·rintro nt lg ⟨E,fR,bi,dq,gw,gx,d2,j8,j9⟩
       rw [← sA fR]
       have mO:=bi.size
       refine Ar [4,6] oC G ⟨Bm G trivial ?_,Bm G trivial ?_,trivial⟩
       ·refine Qc ent58 (c___spec_l1Cur__among lg Lc v ap gw ((an.kn a).kp bi (fun b_ hb e'=>e'.elim (fun e'=>by have e'':b_=gc:=e'; omega) (fun e'=>e'.elim (nE (m.kd a d)) (fun e'=>by have e'':b_=c:=e'; omega)))) oB oB ([0,1,99]:List Int) (dq.rd) oB oB (show ¬E=gc from by first | omega | (have:=dq.base_le G; omega))) G ?_
        rintro e pm ⟨d4,k7,k1,rfl,iu,jD,fl,b5⟩
        refine ⟨_,G,?_⟩
        have mQ:=b5.size
        have ed:=bi.step b5 (fun _ _ e=>.inl e)
        have jy:(0:Int)≤d4∧d4≤99:=mem_rngB (lo:=0) (hi:=99) oG fl
        refine Qn ⟨ed,_,G,(Ag oC G (e9 _ _ (⟨E,d4,k7,k1,(At.r G),ed,iu,(gx.kn b5),(d2.kd b5 d),jD,fl,jy⟩)))⟩
       ·refine Ql (vs:=[i6 0,i6 1]) (L:=([0,1]:List Int)) (enc:=encI) tel93 (fun _=>G) G G G oG ?_
        intro cA pn ma aX hH
        have mR:=aX.size
        have ee:=bi.lo aX
        have iT:=nE (g:=cA) ((q.kd a i).kp bi (fun b_ hb e'=>e'.elim (fun e'=>i (by have e'':b_=gc:=e'; rw [← e'']; exact hb)) (fun e'=>e'.elim (fun e'=>am b_ e' hb) (fun e'=>aJ (by have e'':b_=c:=e'; rw [← e'']; exact hb)))))
        refine Qn ⟨ee,_,G,(Ag oC G (dt _ _ (⟨E,cA,(At.r G),ee,((dq.lo aX).down),(hH.down),(gw.lo aX),(gx.lo aX),(d2.lo aX),j8,j9,(fun b_ h h'=>(nE (g:=cA) dq) (h.trans h'.symm)),(fun b_ h h'=>(nE (g:=cA) d2) (h'.trans h.symm)),(fun b_ h h'=>iT (h'.trans h.symm))⟩)))⟩
      refine Av #[true,true,true,false,false,true,true,false,false,false,false,false,false] 8 (fun f' w'=>∃ (bG:Nat),At f' [(2,pt g1),(3,pt c),(40,.slice f B H),(41,pt gc),(44,pt gc),(45,.slice (pA bG) 2 2)]∧(Kp (fun b_=>b_=gc∨f=some ⟨b_,0,none⟩∨b_=c) s w')∧(SlO w' s.heap.size encI 1 3 (pA bG) 2 2 ([0,1]:List Int))∧(Blk w' gc ec [.slice Ac nc cc,i6 v,.int .u64 ap])∧(Blk w' c 34 (cLb f B H p K R o))∧(SlO w' w.heap.size encLMap 3 102 f B H o.Maps)∧(∀ b_,(pA bG)=some ⟨b_,0,none⟩→¬f=some ⟨b_,0,none⟩)∧(∀ b_,(pA bG)=some ⟨b_,0,none⟩→¬p=some ⟨b_,0,none⟩)) ?_ (fun fc=>?_)
      ·rintro nu po ⟨bG,fS,cO,eL,jh,ji,eM,iG,iH⟩
       rw [← sA fS]
       have mU:=cO.size
       refine Ab 3 G (Ql (vs:=[i6 0,i6 1,i6 99]) (L:=([0,1,99]:List Int)) (enc:=encI) tel93 (fun _=>G) G G G oG ?_)
       intro cB pp mb aY hI
       have mV:=aY.size
       have ef:=cO.lo aY
       have iU:=nE (g:=cB) ((q.kd a i).kp cO (fun b_ hb e'=>e'.elim (fun e'=>i (by have e'':b_=gc:=e'; rw [← e'']; exact hb)) (fun e'=>e'.elim (fun e'=>am b_ e' hb) (fun e'=>aJ (by have e'':b_=c:=e'; rw [← e'']; exact hb)))))
       refine Qn ⟨ef,_,G,(Ag oC G (dt _ _ (⟨cB,bG,(At.r G),ef,(hI.down),((eL.lo aY).down),(jh.lo aY),(ji.lo aY),(eM.lo aY),(fun b_ h h'=>(nE (g:=cB) eM) (h'.trans h.symm)),(fun b_ h h'=>iU (h'.trans h.symm)),(fun b_ h h'=>(nE (g:=cB) eL) (h'.trans h.symm)),iG,iH⟩)))⟩
      refine Av #[true,false,true,true,false,true,true,false,false,false,false,false,false] 8 (fun f' w'=>∃ (V:Nat) (aF:Nat),At f' [(2,pt g1),(3,pt c),(39,.pointer (some ((⟨c,0,none⟩:Addr).add 0))),(41,pt gc),(42,.slice (pA V) 3 3),(44,pt gc),(45,.slice (pA aF) 2 2)]∧(Kp (fun b_=>b_=gc∨f=some ⟨b_,0,none⟩∨b_=c) s w')∧(SlO w' s.heap.size encI 1 3 (pA V) 3 3 ([0,1,99]:List Int))∧(SlO w' s.heap.size encI 1 3 (pA aF) 2 2 ([0,1]:List Int))∧(Blk w' gc ec [.slice Ac nc cc,i6 v,.int .u64 ap])∧(Blk w' c 34 (cLb f B H p K R o))∧(SlO w' w.heap.size encLMap 3 102 f B H o.Maps)∧(∀ b_,(pA V)=some ⟨b_,0,none⟩→¬f=some ⟨b_,0,none⟩)∧(∀ b_,(pA V)=some ⟨b_,0,none⟩→¬p=some ⟨b_,0,none⟩)∧(∀ b_,(pA V)=some ⟨b_,0,none⟩→¬(pA aF)=some ⟨b_,0,none⟩)∧(∀ b_,(pA aF)=some ⟨b_,0,none⟩→¬f=some ⟨b_,0,none⟩)∧(∀ b_,(pA aF)=some ⟨b_,0,none⟩→¬p=some ⟨b_,0,none⟩)) ?_ (fun fd=>?_)
      ·rintro nv lh ⟨V,aF,fT,bj,dk,eO,eP,dm,eQ,iK,iL,iM,ey,ez⟩
       rw [← sA fT]
       have mW:=bj.size
       refine Ar [1,4] oC G ⟨Bm G trivial ?_,Bm G trivial ?_,trivial⟩
       ·refine Q (lB sca31 G dm G) (Qn ⟨bj,_,G,(Ag oC G (dt _ _ (⟨V,aF,(At.r G),bj,(dk.down),(eO.down),eP,dm,eQ,iK,iL,iM,ey,ez⟩)))⟩)
       ·refine Qc ent58 (c___spec_l1Cur__among lh Lc v ap eP ((an.kn a).kp bj (fun b_ hb e'=>e'.elim (fun e'=>by have e'':b_=gc:=e'; omega) (fun e'=>e'.elim (nE (m.kd a d)) (fun e'=>by have e'':b_=c:=e'; omega)))) oB oB ([0,1,99]:List Int) (dk.rd) oB oB (show ¬V=gc from by first | omega | (have:=dk.base_le G; omega))) G ?_
        rintro e pq ⟨d5,k8,k3,rfl,iv,jE,fm,bs⟩
        refine ⟨_,G,?_⟩
        have mX:=bs.size
        have eg:=bj.step bs (fun _ _ e=>.inl e)
        have jz:(0:Int)≤d5∧d5≤99:=mem_rngB (lo:=0) (hi:=99) oG fm
        refine Qn ⟨eg,_,G,(Ag oC G (fa _ _ (⟨V,d5,k8,k3,aF,(At.r G),eg,((eO.kn bs).down),iv,(dm.kn bs),(eQ.kd bs d),ey,ez,jE,fm,jz⟩)))⟩
      refine Ak 0 G (kr b) (fun w' hw'=>fA fa34_0 G)<|Ak 2 G (kr b) (fun w' hw'=>mP G)<|Ak 5 G (kr b) (fun w' hw'=>mP G)<|Ar [1,3,6] oC G ⟨Bm G trivial ?_,Bm G trivial ?_,Bm G trivial ?_,trivial⟩
      ·refine Q (lB sca31 G ((C.kn a).lo b) G) (Qn ⟨(kq s).lo b,_,G,(Ar [3,6] oC G ⟨Bm G trivial ?_,Bm G trivial ?_,trivial⟩)⟩)
       ·refine Ql (vs:=[i6 0,i6 1,i6 99]) (L:=([0,1,99]:List Int)) (enc:=encI) tel93 (fun _=>G) G G G oG ?_
        intro dQ pr mc bt hJ
        have mY:=bt.size
        have eh:=((kr b:Kp (fun b_=>b_=gc∨f=some ⟨b_,0,none⟩∨b_=c) s _)).lo bt
        refine Qn ⟨eh,_,G,(Ag oC G (fb _ _ (⟨dQ,(At.r G),eh,(hJ.down),((X.lo b).lo bt),(((C.kn a).lo b).lo bt),(((m.kd a d).lo b).lo bt),(fun b_ h h'=>(nE (g:=dQ) ((m.kd a d).lo b)) (h'.trans h.symm)),(fun b_ h h'=>(nE (g:=dQ) ((q.kd a i).lo b)) (h'.trans h.symm))⟩)))⟩
       ·refine Ql (vs:=[i6 0,i6 1]) (L:=([0,1]:List Int)) (enc:=encI) tel93 (fun _=>G) G G G oG ?_
        intro dR pu md bu hQ
        have mZ:=bu.size
        have ei:=((kr b:Kp (fun b_=>b_=gc∨f=some ⟨b_,0,none⟩∨b_=c) s _)).lo bu
        refine Qn ⟨ei,_,G,(Ag oC G (fc _ _ (⟨dR,(At.r G),ei,(hQ.down),((X.lo b).lo bu),(((C.kn a).lo b).lo bu),(((m.kd a d).lo b).lo bu),(fun b_ h h'=>(nE (g:=dR) ((m.kd a d).lo b)) (h'.trans h.symm)),(fun b_ h h'=>(nE (g:=dR) ((q.kd a i).lo b)) (h'.trans h.symm))⟩)))⟩
      ·refine Ql (vs:=[i6 0,i6 1,i6 99]) (L:=([0,1,99]:List Int)) (enc:=encI) tel93 (fun _=>G) G G G oG ?_
       intro bb li me A bh
       have m0:=A.size
       have bm:=((kr b:Kp (fun b_=>b_=gc∨f=some ⟨b_,0,none⟩∨b_=c) s _)).lo A
       have eE:=nE (g:=bb) ((m.kd a d).lo b)
       have eF:=nE (g:=bb) ((q.kd a i).lo b)
       refine Qn ⟨bm,_,G,(Ar [1,4,6] oC G ⟨Bm G trivial ?_,Bm G trivial ?_,Bm G trivial ?_,trivial⟩)⟩
       ·refine Q (lB sca31 G (((C.kn a).lo b).lo A) G) (Qn ⟨bm,_,G,(Ag oC G (fb _ _ (⟨bb,(At.r G),bm,(bh.down),((X.lo b).lo A),(((C.kn a).lo b).lo A),(((m.kd a d).lo b).lo A),(fun b_ h h'=>eE (h'.trans h.symm)),(fun b_ h h'=>eF (h'.trans h.symm))⟩)))⟩)
       ·refine Qc ent58 (c___spec_l1Cur__among li Lc v ap ((X.lo b).lo A) (((an.kn a).lo b).lo A) oB oB ([0,1,99]:List Int) (bh.rd) oB oB (show ¬bb=gc from by first | omega | (have:=bh.base_le G; omega))) G ?_
        rintro e pw ⟨dG,gY,gU,rfl,ew,fs,dy,ak⟩
        refine ⟨_,G,?_⟩
        have m1:=ak.size
        have bW:=bm.step ak (fun _ _ e=>.inl e)
        have fo:(0:Int)≤dG∧dG≤99:=mem_rngB (lo:=0) (hi:=99) oG dy
        refine Qn ⟨bW,_,G,(Ar [1,6] oC G ⟨Bm G trivial ?_,Bm G trivial ?_,trivial⟩)⟩
        ·refine Q (lB sca31 G ((((C.kn a).lo b).lo A).kn ak) G) (Qn ⟨bW,_,G,(Ag oC G (e9 _ _ (⟨bb,dG,gY,gU,(At.r G),bW,ew,((((C.kn a).lo b).lo A).kn ak),((((m.kd a d).lo b).lo A).kd ak d),fs,dy,fo⟩)))⟩)
        ·refine Ql (vs:=[i6 0,i6 1]) (L:=([0,1]:List Int)) (enc:=encI) tel93 (fun _=>G) G G G oG ?_
         intro dS px mf bz hU
         have m2:=bz.size
         have ej:=bW.lo bz
         refine Qn ⟨ej,_,G,(Ag oC G (fa _ _ (⟨bb,dG,gY,gU,dS,(At.r G),ej,(hU.down),(ew.lo bz),(((((C.kn a).lo b).lo A).kn ak).lo bz),(((((m.kd a d).lo b).lo A).kd ak d).lo bz),(fun b_ h h'=>(nE (g:=dS) ((((m.kd a d).lo b).lo A).kd ak d)) (h'.trans h.symm)),(fun b_ h h'=>(nE (g:=dS) ((((q.kd a i).lo b).lo A).kd ak i)) (h'.trans h.symm)),fs,dy,fo⟩)))⟩
       ·refine Ql (vs:=[i6 0,i6 1]) (L:=([0,1]:List Int)) (enc:=encI) tel93 (fun _=>G) G G G oG ?_
        intro cC py mg aZ hZ
        have m3:=aZ.size
        have ek:=bm.lo aZ
        refine Qn ⟨ek,_,G,(Ag oC G (fd _ _ (⟨bb,cC,(At.r G),ek,((bh.lo aZ).down),(hZ.down),(((X.lo b).lo A).lo aZ),((((C.kn a).lo b).lo A).lo aZ),((((m.kd a d).lo b).lo A).lo aZ),(fun b_ h h'=>eE (h'.trans h.symm)),(fun b_ h h'=>eF (h'.trans h.symm)),(fun b_ h h'=>(nE (g:=cC) bh) (h.trans h'.symm)),(fun b_ h h'=>(nE (g:=cC) (((m.kd a d).lo b).lo A)) (h'.trans h.symm)),(fun b_ h h'=>(nE (g:=cC) (((q.kd a i).lo b).lo A)) (h'.trans h.symm))⟩)))⟩
      ·refine Ql (vs:=[i6 0,i6 1]) (L:=([0,1]:List Int)) (enc:=encI) tel93 (fun _=>G) G G G oG ?_
       intro cD pz mh Y cG
       have m4:=Y.size
       have bX:=((kr b:Kp (fun b_=>b_=gc∨f=some ⟨b_,0,none⟩∨b_=c) s _)).lo Y
       have eG:=nE (g:=cD) ((m.kd a d).lo b)
       have eH:=nE (g:=cD) ((q.kd a i).lo b)
       refine Qn ⟨bX,_,G,(Ar [1,3] oC G ⟨Bm G trivial ?_,Bm G trivial ?_,trivial⟩)⟩
       ·refine Q (lB sca31 G (((C.kn a).lo b).lo Y) G) (Qn ⟨bX,_,G,(Ag oC G (fc _ _ (⟨cD,(At.r G),bX,(cG.down),((X.lo b).lo Y),(((C.kn a).lo b).lo Y),(((m.kd a d).lo b).lo Y),(fun b_ h h'=>eG (h'.trans h.symm)),(fun b_ h h'=>eH (h'.trans h.symm))⟩)))⟩)
       ·refine Ql (vs:=[i6 0,i6 1,i6 99]) (L:=([0,1,99]:List Int)) (enc:=encI) tel93 (fun _=>G) G G G oG ?_
        intro cE pB mi a6 ia
        have m5:=a6.size
        have el:=bX.lo a6
        refine Qn ⟨el,_,G,(Ag oC G (fd _ _ (⟨cE,cD,(At.r G),el,(ia.down),((cG.lo a6).down),(((X.lo b).lo Y).lo a6),((((C.kn a).lo b).lo Y).lo a6),((((m.kd a d).lo b).lo Y).lo a6),(fun b_ h h'=>(nE (g:=cE) (((m.kd a d).lo b).lo Y)) (h'.trans h.symm)),(fun b_ h h'=>(nE (g:=cE) (((q.kd a i).lo b).lo Y)) (h'.trans h.symm)),(fun b_ h h'=>(nE (g:=cE) cG) (h'.trans h.symm)),(fun b_ h h'=>eG (h'.trans h.symm)),(fun b_ h h'=>eH (h'.trans h.symm))⟩)))⟩
     rintro nw pC ⟨bg,dI,E,y,D,aj,al,S,ag,aR,bO,fU,bT,i8,ja,jc,lX,iC,lY,iD,aQ,aN,aO,dE,dA,dB⟩
     rw [← sA fU]
     have m6:=bT.size
     refine Ws ?_
     have jj:=(bD.kn a).kp bT (fun e'=>e'.elim (fun e'=>by have e'':g1=gc:=e'; omega) (fun e'=>e'.elim (fun e'=>cm e') (fun e'=>by have e'':g1=c:=e'; omega)))
     have jk:=(q.kd a i).kp bT (fun b_ hb e'=>e'.elim (fun e'=>i (by have e'':b_=gc:=e'; rw [← e'']; exact hb)) (fun e'=>e'.elim (fun e'=>am b_ e' hb) (fun e'=>aJ (by have e'':b_=c:=e'; rw [← e'']; exact hb))))
     refine Wr (Q (lG agg34 G jc G)<|Qw (o:=0) (vs:=[.slice bg (B+1) dI,.slice p K R,i6 o.Bought,i6 o.Dropped,i6 o.Mended]) agg34.2 G G G G jj ler G ?_)
     intro pD b6 mr iw
     refine Qn (We (retC G G agg34 iw G ?_))
     refine ⟨bg,B+1,dI,p,K,R,(⟨o.Maps++([(⟨y,0,S⟩:LMap)]:List LMap),o.Away,o.Bought,o.Dropped,o.Mended⟩:Library),ag,aR,eR (eA G),(oq ((i8.kd b6 iC).down) ?_),(oq ((jk.kd b6 cn).down) ?_),iD,(ja.kn b6),⟨oB,oB⟩,oE,(by first | assumption | exact MapB.of (And.left (And.left ‹LibOK _›)) | exact MapB.app (MapB.of (And.left (And.left ‹LibOK _›))) oF | exact MapB.nil),gQ,((cF.step bT (fun i_ hi_ e'=>e'.elim (fun e'=>e') (fun e'=>e'.elim (fun e'=>by have:=(m.kd a d).base_le e'; omega) (fun e'=>by have e'':i_=c:=e'; omega)))).new b6)⟩ <;> (first | rfl | omega | grind)
    ·refine Ws (Wr (Q (r_eq G G)<|Q (aB G)<|Qn (Wd G (fun jO=>?_) (fun jO=>?_))))
     ·refine Ws (WA (Kp (fun b_=>b_=gc∨p=some ⟨b_,0,none⟩∨b_=c) s) (fun f' w'=>∃ (T:Nat) (F:Int) (P:Int) (ao:Int) (aG:Nat) (aA:Option Addr) (ch:Nat),At f' [(2,pt g1),(3,pt c)]∧(Kp (fun b_=>b_=gc∨p=some ⟨b_,0,none⟩∨b_=c) s w')∧(SlO w' w.heap.size encAway 2 129 aA (K+1) ch (o.Away++([(⟨F,5⟩:Away)]:List Away)))∧(Blk w' gc ec [.slice Ac nc cc,i6 P,.int .u64 ao])∧(Blk w' c 34 [.slice f B H,.slice aA (K+1) ch,i6 o.Bought,i6 o.Dropped,i6 o.Mended])∧(¬aA=some ⟨gc,0,none⟩)∧(¬aA=some ⟨g1,0,none⟩)∧(¬aA=some ⟨c,0,none⟩)∧Dj aA f∧(v≤P∧P≤v+2)∧(F∈([0,1,99]:List Int))∧((0:Int)≤F∧F≤99)) mo ?_ ?_)
      ·intro pE k
       have m7:=k.size
       refine Av #[true,true,true,true,true,true,true,false,false,false] 3 (fun f' w'=>∃ (T:Nat) (F:Int) (P:Int) (ao:Int) (aG:Nat),At f' [(2,pt g1),(3,pt c),(54,.slice p K R),(59,.slice (pA aG) 1 1)]∧(Kp (fun b_=>b_=gc∨p=some ⟨b_,0,none⟩∨b_=c) s w')∧(SlO w' s.heap.size encAway 2 129 (pA aG) 1 1 ([(⟨F,5⟩:Away)]:List Away))∧(Blk w' gc ec [.slice Ac nc cc,i6 P,.int .u64 ao])∧(Blk w' c 34 (cLb f B H p K R o))∧(SlO w' w.heap.size encAway 2 129 p K R o.Away)∧(∀ b_,(pA aG)=some ⟨b_,0,none⟩→¬f=some ⟨b_,0,none⟩)∧(∀ b_,(pA aG)=some ⟨b_,0,none⟩→¬p=some ⟨b_,0,none⟩)∧(v≤P∧P≤v+2)∧(F∈([0,1,99]:List Int))∧((0:Int)≤F∧F≤99)) ?_ (fun fe=>?_)
       ·rintro nx pG ⟨T,F,P,ao,aG,fV,bU,jq,eW,eX,jr,l4,l5,cg,ce,cf⟩
        rw [← sA fV]
        have m8:=bU.size
        refine Ab 7 G (Qp tel32 G G jr (jq.rd) (fun _=>G) oB oB ?_)
        intro bF fv pH b7 ib bR
        have m9:=b7.size
        have cU:=bU.step b7 (fun _ _ e=>.inr (.inl e))
        have iY:¬bF=some ⟨gc,0,none⟩:=fun e'=>(bR gc e').elim (fun h=>i (h.trans e')) (fun h=>by have:=eW.lt; omega)
        have iZ:¬bF=some ⟨g1,0,none⟩:=fun e'=>(bR g1 e').elim (fun h=>cn (h.trans e')) (fun h=>by have:=((bD.kn a).kp bU (fun e'=>e'.elim (fun e'=>by have e'':g1=gc:=e'; omega) (fun e'=>e'.elim (fun e'=>cn e') (fun e'=>by have e'':g1=c:=e'; omega)))).lt; omega)
        have eJ:¬bF=some ⟨c,0,none⟩:=fun e'=>(bR c e').elim (fun h=>aJ (h.trans e')) (fun h=>by have:=eX.lt; omega)
        have i1:Dj bF f:=fun b_ e' h'=>(bR b_ e').elim (fun h=>am b_ h' (h.trans e')) (fun h=>by have:=((m.kd a d).kp bU (fun b_ hb e'=>e'.elim (fun e'=>d (by have e'':b_=gc:=e'; rw [← e'']; exact hb)) (fun e'=>e'.elim (fun e'=>am b_ hb e') (fun e'=>bP (by have e'':b_=c:=e'; rw [← e'']; exact hb))))).base_le h'; omega)
        refine Qn ⟨cU,_,G,(Ak 8 G cU (fun w' hw'=>fA fa34_1 G)<|Ab 9 G (Qw (o:=1) (vs:=[.slice bF (K+1) fv]) sca32.2 G G G G (eX.kp b7 (fun e'=>aJ e')) ler G ?_))⟩
        intro pI da ms ix
        have em:=cU.step da (fun _ _ e=>.inr (.inr e))
        refine Qn ⟨em,_,G,(Ad oC (⟨T,F,P,ao,aG,bF,fv,⟨G,G,trivial⟩,em,(ib.kd da eJ),((eW.kp b7 (fun e'=>i e')).kn da),ix,iY,iZ,eJ,i1,cg,ce,cf⟩))⟩
       refine Av #[true,true,true,true,true,true,false,false,false,false] 4 (fun f' w'=>∃ (T:Nat) (F:Int) (P:Int) (ao:Int),At f' [(2,pt g1),(3,pt c),(54,.slice p K R),(58,.agg (List.toArray [i6 F,i6 5]))]∧(Kp (fun b_=>b_=gc∨p=some ⟨b_,0,none⟩∨b_=c) s w')∧(Blk w' gc ec [.slice Ac nc cc,i6 P,.int .u64 ao])∧(Blk w' c 34 (cLb f B H p K R o))∧(SlO w' w.heap.size encAway 2 129 p K R o.Away)∧(v≤P∧P≤v+2)∧(F∈([0,1,99]:List Int))∧((0:Int)≤F∧F≤99)) ?_ (fun ff=>?_)
       ·rintro ny pJ ⟨T,F,P,ao,fW,cP,jo,jp,eU,cg,ce,cf⟩
        rw [← sA fW]
        have na:=cP.size
        refine Ab 6 G (Ql (vs:=[.agg (List.toArray [i6 F,i6 5])]) (L:=([(⟨F,5⟩:Away)]:List Away)) (enc:=encAway) tel32 (fun _=>G) G G G oG ?_)
        intro dT pK mj bA ic
        have nb:=bA.size
        have eo:=cP.lo bA
        have i7:=nE (g:=dT) ((m.kd a d).kp cP (fun b_ hb e'=>e'.elim (fun e'=>d (by have e'':b_=gc:=e'; rw [← e'']; exact hb)) (fun e'=>e'.elim (fun e'=>am b_ hb e') (fun e'=>bP (by have e'':b_=c:=e'; rw [← e'']; exact hb)))))
        refine Qn ⟨eo,_,G,(Ag oC G (fe _ _ (⟨T,F,P,ao,dT,(At.r G),eo,(ic.down),(jo.lo bA),(jp.lo bA),(eU.lo bA),(fun b_ h h'=>i7 (h'.trans h.symm)),(fun b_ h h'=>(nE (g:=dT) eU) (h'.trans h.symm)),cg,ce,cf⟩)))⟩
       refine Av #[true,true,true,true,false,false,false,false,false,false] 6 (fun f' w'=>∃ (T:Nat),At f' [(2,pt g1),(3,pt c),(54,.slice p K R),(55,pt gc),(56,.slice (pA T) 3 3)]∧(Kp (fun b_=>b_=gc∨p=some ⟨b_,0,none⟩∨b_=c) s w')∧(SlO w' s.heap.size encI 1 3 (pA T) 3 3 ([0,1,99]:List Int))∧(Blk w' gc ec [.slice Ac nc cc,i6 v,.int .u64 ap])∧(Blk w' c 34 (cLb f B H p K R o))∧(SlO w' w.heap.size encAway 2 129 p K R o.Away)∧(∀ b_,(pA T)=some ⟨b_,0,none⟩→¬f=some ⟨b_,0,none⟩)∧(∀ b_,(pA T)=some ⟨b_,0,none⟩→¬p=some ⟨b_,0,none⟩)) ?_ (fun fg=>?_)
       ·rintro nz lj ⟨T,fX,cQ,eT,jl,jm,jn,l2,l3⟩
        rw [← sA fX]
        have nd:=cQ.size
        refine Ab 4 G (Qc ent58 (c___spec_l1Cur__among lj Lc v ap jl ((an.kn a).kp cQ (fun b_ hb e'=>e'.elim (fun e'=>by have e'':b_=gc:=e'; omega) (fun e'=>e'.elim (nE (q.kd a i)) (fun e'=>by have e'':b_=c:=e'; omega)))) oB oB ([0,1,99]:List Int) (eT.rd) oB oB (show ¬T=gc from by first | omega | (have:=eT.base_le G; omega))) G ?_)
        rintro e pL ⟨dH,k9,k4,rfl,iy,jF,fp,b8⟩
        refine ⟨_,G,?_⟩
        have nf:=b8.size
        have cX:=cQ.step b8 (fun _ _ e=>.inl e)
        have jA:(0:Int)≤dH∧dH≤99:=mem_rngB (lo:=0) (hi:=99) oG fp
        refine Qn ⟨cX,_,G,(Ak 5 G cX (fun w' hw'=>r_build (vs:=[(0,i6 dH),(1,i6 5)]) G (bld129_0_1 _ _))<|Ag oC G (ff _ _ (⟨T,dH,k9,k4,(At.r G),cX,iy,(jm.kn b8),(jn.kd b8 i),jF,fp,jA⟩)))⟩
       refine Ak 0 G (kr k) (fun w' hw'=>fA fa34_1 G)<|Ak 2 G (kr k) (fun w' hw'=>mP G)<|Ar [1,3] oC G ⟨Bm G trivial ?_,Bm G trivial ?_,trivial⟩
       ·refine Q (lB sca32 G ((C.kn a).lo k) G) (Qn ⟨(kq s).lo k,_,G,(Ab 3 G (Ql (vs:=[i6 0,i6 1,i6 99]) (L:=([0,1,99]:List Int)) (enc:=encI) tel93 (fun _=>G) G G G oG ?_))⟩)
        intro dU pM mm bB ie
        have ng:=bB.size
        have ep:=((kr k:Kp (fun b_=>b_=gc∨p=some ⟨b_,0,none⟩∨b_=c) s _)).lo bB
        refine Qn ⟨ep,_,G,(Ag oC G (fg _ _ (⟨dU,(At.r G),ep,(ie.down),((X.lo k).lo bB),(((C.kn a).lo k).lo bB),(((q.kd a i).lo k).lo bB),(fun b_ h h'=>(nE (g:=dU) ((m.kd a d).lo k)) (h'.trans h.symm)),(fun b_ h h'=>(nE (g:=dU) ((q.kd a i).lo k)) (h'.trans h.symm))⟩)))⟩
       ·refine Ql (vs:=[i6 0,i6 1,i6 99]) (L:=([0,1,99]:List Int)) (enc:=encI) tel93 (fun _=>G) G G G oG ?_
        intro bH lk mn I cH
        have nh:=I.size
        have bY:=((kr k:Kp (fun b_=>b_=gc∨p=some ⟨b_,0,none⟩∨b_=c) s _)).lo I
        refine Qn ⟨bY,_,G,(Ar [1,4] oC G ⟨Bm G trivial ?_,Bm G trivial ?_,trivial⟩)⟩
        ·refine Q (lB sca32 G (((C.kn a).lo k).lo I) G) (Qn ⟨bY,_,G,(Ag oC G (fg _ _ (⟨bH,(At.r G),bY,(cH.down),((X.lo k).lo I),(((C.kn a).lo k).lo I),(((q.kd a i).lo k).lo I),(fun b_ h h'=>(nE (g:=bH) ((m.kd a d).lo k)) (h'.trans h.symm)),(fun b_ h h'=>(nE (g:=bH) ((q.kd a i).lo k)) (h'.trans h.symm))⟩)))⟩)
        ·refine Qc ent58 (c___spec_l1Cur__among lk Lc v ap ((X.lo k).lo I) (((an.kn a).lo k).lo I) oB oB ([0,1,99]:List Int) (cH.rd) oB oB (show ¬bH=gc from by first | omega | (have:=cH.base_le G; omega))) G ?_
         rintro e pN ⟨bf,gZ,gW,rfl,ex,ft,dz,aa⟩
         refine ⟨_,G,?_⟩
         have ni:=aa.size
         have bn:=bY.step aa (fun _ _ e=>.inl e)
         have fq:(0:Int)≤bf∧bf≤99:=mem_rngB (lo:=0) (hi:=99) oG dz
         refine Qn ⟨bn,_,G,(Ak 5 G bn (fun w' hw'=>r_build (vs:=[(0,i6 bf),(1,i6 5)]) G (bld129_0_1 _ _))<|Ar [1,6] oC G ⟨Bm G trivial ?_,Bm G trivial ?_,trivial⟩)⟩
         ·refine Q (lB sca32 G ((((C.kn a).lo k).lo I).kn aa) G) (Qn ⟨bn,_,G,(Ag oC G (ff _ _ (⟨bH,bf,gZ,gW,(At.r G),bn,ex,((((C.kn a).lo k).lo I).kn aa),((((q.kd a i).lo k).lo I).kd aa i),ft,dz,fq⟩)))⟩)
         ·refine Ql (vs:=[.agg (List.toArray [i6 bf,i6 5])]) (L:=([(⟨bf,5⟩:Away)]:List Away)) (enc:=encAway) tel32 (fun _=>G) G G G oG ?_
          intro dV pO mp a7 ig
          have nj:=a7.size
          have cY:=bn.lo a7
          refine Qn ⟨cY,_,G,(Ab 1 G (Q (lB sca32 G (((((C.kn a).lo k).lo I).kn aa).lo a7) G) (Qn ⟨cY,_,G,(Ag oC G (fe _ _ (⟨bH,bf,gZ,gW,dV,(At.r G),cY,(ig.down),(ex.lo a7),(((((C.kn a).lo k).lo I).kn aa).lo a7),(((((q.kd a i).lo k).lo I).kd aa i).lo a7),(fun b_ h h'=>(nE (g:=dV) ((((m.kd a d).lo k).lo I).kd aa d)) (h'.trans h.symm)),(fun b_ h h'=>(nE (g:=dV) ((((q.kd a i).lo k).lo I).kd aa i)) (h'.trans h.symm)),ft,dz,fq⟩)))⟩)))⟩
      rintro nA pP ⟨T,F,P,ao,aG,aA,ch,fY,bV,js,jt,eY,l6,iV,iW,iX,cg,ce,cf⟩
      rw [← sA fY]
      have nk:=bV.size
      have ju:=(bD.kn a).kp bV (fun e'=>e'.elim (fun e'=>by have e'':g1=gc:=e'; omega) (fun e'=>e'.elim (fun e'=>cn e') (fun e'=>by have e'':g1=c:=e'; omega)))
      have jv:=(m.kd a d).kp bV (fun b_ hb e'=>e'.elim (fun e'=>d (by have e'':b_=gc:=e'; rw [← e'']; exact hb)) (fun e'=>e'.elim (fun e'=>am b_ hb e') (fun e'=>bP (by have e'':b_=c:=e'; rw [← e'']; exact hb))))
      refine Wr (Q (fA fa34_2 G)<|Q (lB sca3 G eY G)<|Q (r_add G G oB)<|Q (fA fa34_2 G)<|Qw (o:=2) (vs:=[i6 (o.Bought+1)]) sca3.2 G G G G eY ler G ?_)
      intro pQ bC mu iz
      refine Qn (Ws (Wr (Q (lG agg34 G iz G)<|Qw (o:=0) (vs:=[.slice f B H,.slice aA (K+1) ch,i6 (o.Bought+1),i6 o.Dropped,i6 o.Mended]) agg34.2 G G G G (ju.kn bC) ler G ?_)))
      intro pR b9 mv iA
      refine Qn (We (retC G G agg34 iA G ?_))
      refine ⟨f,B,H,aA,K+1,ch,(⟨o.Maps,o.Away++([(⟨F,5⟩:Away)]:List Away),o.Bought+1,o.Dropped,o.Mended⟩:Library),P,ao,eR (eA G),(oq (((jv.kd bC bP).kd b9 cm).down) ?_),(oq (((js.kd bC iW).kd b9 iV).down) ?_),(fun b_ h h'=>iX b_ h' h),((jt.kn bC).kn b9),⟨oB,oB⟩,oE,gP,(by first | assumption | exact AwayB.of ‹LibOK _› | exact AwayB.app (AwayB.of ‹LibOK _›) oF | exact AwayB.nil),(((cF.step bV (fun i_ hi_ e'=>e'.elim (fun e'=>e') (fun e'=>e'.elim (fun e'=>by have:=(q.kd a i).base_le e'; omega) (fun e'=>by have e'':i_=c:=e'; omega)))).new bC).new b9)⟩ <;> (first | rfl | omega | grind)
     ·refine Wk (Ws (Wr (Q (lG agg34 G (C.kn a) G)<|Qw (o:=0) (vs:=(cLb f B H p K R o)) agg34.2 G G G G (bD.kn a) ler G ?_)))
      intro pS ca mw iB
      refine Qn (We (retC G G agg34 iB G (⟨f,B,H,p,K,R,o,v,ap,eR G,(((m.kd a d).kd ca cm).down),(((q.kd a i).kd ca cn).down),am,(X.kn ca),⟨oB,oB⟩,oE,gP,gQ,(cF.new ca)⟩)))
theorem c_spec_SyncLog (w:World) (l:Log) (z:(l.Durable.length:Int)+(l.Pending.length:Int)≤4000000):Calls Tryz.prog 191 #[.agg (List.toArray (encLog l))] w fun e w'=>e=.returned (.tuple (List.toArray [.agg (List.toArray [str (((syncN l).1).Durable),str (((syncN l).1).Pending),i6 (((syncN l).1).Count)]),.bool ((syncN l).2)]))∧Lo w w':=by
 refine cW 16 Tryz.func191 G G G (Ws (Wr (bx G ?_)))
 intro E H y n A j
 refine Qa (l:=[str ([]:List UInt8),str ([]:List UInt8),i6 0]) tz35 G ?_
 intro F p q b s f
 refine Q (aB G)<|Qn (Ws (Ws (Wr (Q (lG agg35 G (j.lo b) G)<|Qv ent63 (c_spec_l33Log p l oB) G fun B a x=>?_))))
 have d:=(((lr w).lo n).lo b).lo a
 refine Q (rN G)<|Qn (Wz G (fun g=>?_) (fun g=>?_))
 ·refine Ws (Wr (Q (r_build (vs:=[]) G bld35_)<|Qw (o:=0) (vs:=[str ([]:List UInt8),str ([]:List UInt8),i6 0]) agg35.2 G G G G (f.lo a) ler G ?_))
  intro C k t h
  refine Q (aB G)<|Qn (We (retCT G G agg35 h G (v:=.bool _) G ?_))
  refine ⟨eR (eT2 (eA (eC (eS ?_) (eC (eS ?_) (eC (eI ?_) G)))) (eB ?_)),(d.new k)⟩ <;> (first | (rw [sync_yes ‹LogOK _›]; first | done | rfl | (dsimp only; omega)) | (rw [sync_no ‹¬LogOK _›]; first | done | rfl | (dsimp only; omega)))
 ·have r:=log_rng g
  refine Wk (Ws ?_)
  have c:=(j.lo b).lo a
  refine Wr (Q (fA fa35_0 G)<|Q (lB sca9 G c G)<|Q (fA fa35_1 G)<|Q (lB sca9 G c G)<|Q (r_cat G G oA)<|Q (fA fa35_2 G)<|Q (lB sca3 G c G)<|Q (r_build (vs:=[(0,str (l.Durable++l.Pending)),(2,i6 l.Count)]) G (bld35_0_2 _ _))<|Qw (o:=0) (vs:=[str (l.Durable++l.Pending),str ([]:List UInt8),i6 l.Count]) agg35.2 G G G G (f.lo a) ler G ?_)
  intro D m u i
  refine Q (aB G)<|Qn (We (retCT G G agg35 i G (v:=.bool _) G ?_))
  refine ⟨eR (eT2 (eA (eC (eS ?_) (eC (eS ?_) (eC (eI ?_) G)))) (eB ?_)),(d.new m)⟩ <;> (first | (rw [sync_yes ‹LogOK _›]; first | done | rfl | (dsimp only; omega)) | (rw [sync_no ‹¬LogOK _›]; first | done | rfl | (dsimp only; omega)))
end Go.Proofs.YtndcchndcghmoaaGreatDoor
namespace Go.Proofs.YtndcchndcghmoaaGreatDoor
open Go Go.RowKit Fw
set_option maxRecDepth 10000
set_option maxHeartbeats 2000000
set_option linter.unusedVariables false
variable {Ac : Option Addr} {nc cc Bc : Nat}
theorem ent110:Ent Tryz.prog 110:=en Tryz.func110
theorem ent164:Ent Tryz.prog 164:=en Tryz.func164
theorem ent191:Ent Tryz.prog 191:=en Tryz.func191
theorem ent62:Ent Tryz.prog 62:=en Tryz.func62
theorem ent71:Ent Tryz.prog 71:=en Tryz.func71
theorem tel49:TEl Tryz.prog 49 5 (.int .u8 0) 1 1:=⟨by kernel_rfl,by kernel_rfl,rfl,by decide⟩
theorem c___spec_l1Cur__logRecord (w:World) {gc ec:Nat} (Lc:List UInt8) (tc sc:Int) (hc:Blk w gc ec [.slice Ac nc cc,i6 tc,.int .u64 sc]) (hLc:SlR w Bc encB 1 Ac nc cc Lc) (hgc:Bc≤gc) (htc:0≤tc∧tc+8≤4611686018427387904):Calls Tryz.prog 62 #[.pointer (some ⟨gc,0,none⟩)] w fun e w'=>∃ (r:LogRecord) (tc' sc':Int),e=.returned (.agg (List.toArray [str r.Command,str r.Reply]))∧Blk w' gc ec [.slice Ac nc cc,i6 tc',.int .u64 sc']∧(tc≤tc'∧tc'≤tc+8)∧(r.Command.length≤40∧r.Reply.length≤40)∧Kp (fun b_=>b_=gc) w w':=by
 refine cW 28 Tryz.func62 G G G ?_
 have hBlc:=hc.lt
 have hbdc:=hLc.bound
 have hlec:=hLc.len
 have hBbc:=hLc.bd
 refine Ws (Wr (Qa (l:=[str ([]:List UInt8),str ([]:List UInt8)]) tz71 G ?_))
 intro g1 w2 bD F bE aq
 refine Qn (Ws (Wr (Q (mP G)<|Ql (vs:=[str ([99,111,117,110,116]:List UInt8),str ([115,111,114,116,32,109,101,114,103,101]:List UInt8),str ([120]:List UInt8),str ([115,101,108,101,99,116,32,50]:List UInt8),str ([48,32,49]:List UInt8)]) (L:=([([99,111,117,110,116]:List UInt8),([115,111,114,116,32,109,101,114,103,101]:List UInt8),([120]:List UInt8),([115,101,108,101,99,116,32,50]:List UInt8),([48,32,49]:List UInt8)]:List (List UInt8))) (enc:=encS) tel44 (fun _=>G) G G G oG ?_)))
 intro g9 aR aW c K
 have bh:=c.size
 refine Qc ent110 (c___spec_l1Cur__of aR Lc tc sc ((hc.lo F).lo c) ((hLc.lo F).lo c) oB oB ([([99,111,117,110,116]:List UInt8),([115,111,114,116,32,109,101,114,103,101]:List UInt8),([120]:List UInt8),([115,101,108,101,99,116,32,50]:List UInt8),([48,32,49]:List UInt8)]:List (List UInt8)) (K.rd) oB oB (show ¬g9=gc from by first | omega | (have:=K.base_le G; omega))) G ?_
 rintro e bG ⟨p,aN,aJ,rfl,ae,be,ai,i⟩
 refine ⟨_,G,?_⟩
 have bi:=i.size
 have a7:p.length≤40:=mem_le (n:=40) oG ai
 refine Q (mP G)<|Ql (vs:=[str ([]:List UInt8),str ([51]:List UInt8),str ([63]:List UInt8),str ([97,64,98]:List UInt8),str ([51,32,49,32,50]:List UInt8)]) (L:=([([]:List UInt8),([51]:List UInt8),([63]:List UInt8),([97,64,98]:List UInt8),([51,32,49,32,50]:List UInt8)]:List (List UInt8))) (enc:=encS) tel44 (fun _=>G) G G G oG ?_
 intro an aT aX d M
 have bj:=d.size
 refine Qc ent110 (c___spec_l1Cur__of aT Lc aN aJ (ae.lo d) ((((hLc.lo F).lo c).kn i).lo d) oB oB ([([]:List UInt8),([51]:List UInt8),([63]:List UInt8),([97,64,98]:List UInt8),([51,32,49,32,50]:List UInt8)]:List (List UInt8)) (M.rd) oB oB (show ¬an=gc from by first | omega | (have:=M.base_le G; omega))) G ?_
 rintro e bH ⟨q,aO,aK,rfl,ag,bf,aj,s⟩
 refine ⟨_,G,?_⟩
 have bl:=s.size
 have a8:q.length≤40:=mem_le (n:=40) oG aj
 refine Q (r_build (vs:=[(0,str p),(1,str q)]) G (bld71_0_1 _ _))<|Qa (l:=[str ([]:List UInt8),str ([]:List UInt8)]) tz71 G ?_
 intro bA bI aY t bb ah
 refine Qw (o:=0) (vs:=[str p,str q]) agg71.2 G G G G ah ler G ?_
 intro aU u bc A
 refine Qn (Ws (Ws ?_))
 have H:=((((((hLc.lo F).lo c).kn i).lo d).kn s).lo t).kn u
 have I:=(((((aq.lo c).kn i).lo d).kn s).lo t).kn u
 refine Wr (Q (mP G)<|Qc ent59 (c___spec_l1Cur__pick aU Lc aO aK ((ag.lo t).kn u) H oB oB 24 oD) G ?_)
 rintro e bJ ⟨bF,Z,Y,rfl,B,bg,ba,a⟩
 refine ⟨_,G,?_⟩
 have bm:=a.size
 have y:=((((((((kr F:Kp (fun b_=>b_=gc) w _)).lo c).step i (fun i_ hi_ e'=>e')).lo d).step s (fun i_ hi_ e'=>e')).lo t).new u).step a (fun i_ hi_ e'=>e')
 refine Qn (Wl (Ws (Wr (Q (r_eq G G)<|Q (aB G)<|Qn (Wd G (fun ap=>?_) (fun ap=>?_))))))
 ·refine Wr (Q (mP G)<|SR.make (m:=3) (zx:=(0:UInt8)) (enc:=encB) tel49 G (fun _=>G) G G oB oB ?_)
  intro bB bK aZ f ac
  have bn:=f.size
  refine Q (r_ofB und49 und5 und9 G (ac.rd))<|Ql (vs:=[str ([]:List UInt8),str ([97,64,98]:List UInt8),str ([97,35]:List UInt8),str ([10]:List UInt8),str (List.replicate 3 (0:UInt8))]) (L:=([([]:List UInt8),([97,64,98]:List UInt8),([97,35]:List UInt8),([10]:List UInt8),List.replicate 3 (0:UInt8)]:List (List UInt8))) (enc:=encS) tel44 (fun _=>G) G G G oG ?_
  intro ao aV a6 g N
  have bo:=g.size
  refine Qc ent110 (c___spec_l1Cur__of aV Lc Z Y ((B.lo f).lo g) (((H.kn a).lo f).lo g) oB oB ([([]:List UInt8),([97,64,98]:List UInt8),([97,35]:List UInt8),([10]:List UInt8),List.replicate 3 (0:UInt8)]:List (List UInt8)) (N.rd) oB oB (show ¬ao=gc from by first | omega | (have:=N.base_le G; omega))) G ?_
  rintro e bL ⟨J,aQ,aM,rfl,O,aD,W,v⟩
  refine ⟨_,G,?_⟩
  have aF:=v.size
  have au:J.length≤40:=mem_le (n:=40) oG W
  refine Q (fA fa71_0 G)<|Qw (o:=0) (vs:=[str J]) sca9.2 G G G G ((((A.kn a).lo f).lo g).kn v) ler G ?_
  intro bp j ax P
  refine Qn (Ws (Wr (Q (lG agg71 G P G)<|Qw (o:=0) (vs:=[str J,str q]) agg71.2 G G G G (((((I.kn a).lo f).lo g).kn v).kn j) ler G ?_)))
  intro bq C ay R
  refine Qn (We (retC G G agg71 R G (⟨(⟨J,q⟩:LogRecord),aQ,aM,eR (eA G),((O.kn j).kn C),⟨oB,oB⟩,oF,(((((y.lo f).lo g).step v (fun i_ hi_ e'=>e')).new j).new C)⟩)))
 ·refine Ws (Wr (Q (r_eq G G)<|Q (aB G)<|Qn (Wd G (fun ab=>?_) (fun ab=>?_))))
  ·refine Wr (Q (mP G)<|Ql (vs:=[str ([35]:List UInt8),str ([10]:List UInt8),str ([127]:List UInt8)]) (L:=([([35]:List UInt8),([10]:List UInt8),([127]:List UInt8)]:List (List UInt8))) (enc:=encS) tel44 (fun _=>G) G G G oG ?_)
   intro aa am ar b z
   have aG:=b.size
   refine Qc ent110 (c___spec_l1Cur__of am Lc Z Y (B.lo b) ((H.kn a).lo b) oB oB ([([35]:List UInt8),([10]:List UInt8),([127]:List UInt8)]:List (List UInt8)) (z.rd) oB oB (show ¬aa=gc from by first | omega | (have:=z.base_le G; omega))) G ?_
   rintro e bs ⟨x,al,ak,rfl,S,aE,X,h⟩
   refine ⟨_,G,?_⟩
   have aH:=h.size
   have aw:x.length≤40:=mem_le (n:=40) oG X
   refine Q (fA fa71_1 G)<|Qw (o:=1) (vs:=[str x]) sca9.2 G G G G (((A.kn a).lo b).kn h) ler G ?_
   intro bt k az T
   refine Qn (Ws (Wr (Q (lG agg71 G T G)<|Qw (o:=0) (vs:=[str p,str x]) agg71.2 G G G G ((((I.kn a).lo b).kn h).kn k) ler G ?_)))
   intro bu D aA U
   refine Qn (We (retC G G agg71 U G (⟨(⟨p,x⟩:LogRecord),al,ak,eR (eA G),((S.kn k).kn D),⟨oB,oB⟩,oF,((((y.lo b).step h (fun i_ hi_ e'=>e')).new k).new D)⟩)))
  ·refine Wk (Ws (Wr (Q (lG agg71 G (A.kn a) G)<|Qw (o:=0) (vs:=[str p,str q]) agg71.2 G G G G (I.kn a) ler G ?_)))
   intro bz E aC V
   refine Qn (We (retC G G agg71 V G (⟨(⟨p,q⟩:LogRecord),Z,Y,eR (eA G),(B.kn E),⟨oB,oB⟩,oF,(y.new E)⟩)))
theorem c___spec_l1Cur__log (w:World) {gc ec:Nat} (Lc:List UInt8) (tc sc:Int) (hc:Blk w gc ec [.slice Ac nc cc,i6 tc,.int .u64 sc]) (hLc:SlR w Bc encB 1 Ac nc cc Lc) (hgc:Bc≤gc) (htc:0≤tc∧tc+64≤4611686018427387904):Calls Tryz.prog 164 #[.pointer (some ⟨gc,0,none⟩)] w fun e w'=>∃ (l:Log) (tc' sc':Int),e=.returned (.agg (List.toArray [str l.Durable,str l.Pending,i6 l.Count]))∧Blk w' gc ec [.slice Ac nc cc,i6 tc',.int .u64 sc']∧(tc≤tc'∧tc'≤tc+64)∧(LogOK l)∧Kp (fun b_=>b_=gc) w w':=by
 refine cW 27 Tryz.func164 G G G ?_
 have hBlc:=hc.lt
 have hbdc:=hLc.bound
 have hlec:=hLc.len
 have hBbc:=hLc.bd
 refine Ws (Wr (Qa (l:=[str ([]:List UInt8),str ([]:List UInt8),i6 0]) tz35 G ?_))
 intro U w2 bN aj bO aV
 refine Qn (Ws (Wr (Q (r_build (vs:=[]) G bld35_)<|Qa (l:=[str ([]:List UInt8),str ([]:List UInt8),i6 0]) tz35 G ?_)))
 intro p bP bp D bB aC
 refine Qw (o:=0) (vs:=[str ([]:List UInt8),str ([]:List UInt8),i6 0]) agg35.2 G G G G aC ler G ?_
 intro bm E bC aD
 refine Qn (Ws (Ws ?_))
 have Y:=((hLc.lo aj).lo D).kn E
 refine Wr (Q (mP G)<|Qc ent59 (c___spec_l1Cur__pick bm Lc tc sc (((hc.lo aj).lo D).kn E) Y oB oB 7 oD) G ?_)
 rintro e bQ ⟨bl,bj,bi,rfl,aE,bD,bu,u⟩
 refine ⟨_,G,?_⟩
 have bE:=u.size
 refine Q (aI G)<|Qn (Wl (WL (σ:=Int × Log × Int × Int) (fun g=>[(0,pt gc),(2,pt U),(3,pt p),(4,i6 g.1)]) (fun g w'=>(Kp (fun b_=>b_=gc) w w')∧(Blk w' gc ec [.slice Ac nc cc,i6 g.2.2.1,.int .u64 g.2.2.2])∧(SlR w' Bc encB 1 Ac nc cc Lc)∧(Blk w' U 35 [str ([]:List UInt8),str ([]:List UInt8),i6 0])∧(Blk w' p 35 [str g.2.1.Durable,str g.2.1.Pending,i6 g.2.1.Count])∧((0≤g.1∧g.1≤6)∧LogOK g.2.1∧tc≤g.2.2.1∧g.2.2.1≤tc+2+10*(6-g.1))) (fun g=>g.1.toNat) (bl,(⟨([]:List UInt8),([]:List UInt8),0⟩:Log),bj,bi) ?_ ?_ ?_))
 ·exact (At.r G)
 ·exact ⟨(((((kr aj:Kp (fun b_=>b_=gc) w _)).lo D).new E).step u (fun i_ hi_ e'=>e')),aE,Y.kn u,((aV.lo D).kn E).kn u,(aD.kn u),(by (try dsimp only); exact ⟨oB,nil_log,oB,oB⟩)⟩
 ·rintro ⟨n,l,t,z⟩ aT k aA
  obtain ⟨J,F,v,H,m,C⟩:(Kp (fun b_=>b_=gc) w k)∧(Blk k gc ec [.slice Ac nc cc,i6 t,.int .u64 z])∧(SlR k Bc encB 1 Ac nc cc Lc)∧(Blk k U 35 [str ([]:List UInt8),str ([]:List UInt8),i6 0])∧(Blk k p 35 [str l.Durable,str l.Pending,i6 l.Count])∧((0≤n∧n≤6)∧LogOK l∧tc≤t∧t≤tc+2+10*(6-n)):=aA
  refine (?_:W _ _ _ _ _ (act _ (sets aT [(0,pt gc),(2,pt U),(3,pt p),(4,i6 n)])) _)
  have bh:=J.size
  have bq:=F.lt
  have bs:=H.lt
  have bt:=m.lt
  have aF:LogOK l:=C.2.1
  have bz:l.Durable.length+l.Pending.length≤24360∧0≤l.Count∧l.Count≤60:=log_rng C.2.1
  have bA:(0≤n∧n≤6)∧tc≤t∧t≤tc+2+10*(6-n):=And.intro C.1 C.2.2
  refine Ws (Ws (Wr (Q (mI G)<|Q (r_gt G G)<|Qn (Wd G (fun aU=>?_) (fun aU=>?_)))))
  ·refine Wk (Ws (Wl (Ws (WA (Kp (fun b_=>b_=gc∨b_=p) k) (fun f' w'=>∃ (a:LogRecord) (d:Int) (j:Int),At f' [(0,pt gc),(2,pt U),(3,pt p),(4,i6 n)]∧(Kp (fun b_=>b_=gc∨b_=p) k w')∧(Blk w' gc ec [.slice Ac nc cc,i6 d,.int .u64 j])∧(Blk w' p 35 [str (((appN l a).1).Durable),str (((appN l a).1).Pending),i6 (((appN l a).1).Count)])∧(t≤d∧d≤t+8)∧(a.Command.length≤40∧a.Reply.length≤40)∧((appN l a).1.Durable.length+(appN l a).1.Pending.length≤l.Durable.length+l.Pending.length+406)) mo ?_ ?_))))
   ·intro ab b
    have a7:=b.size
    refine Av #[true,true,true,false,false,false,false,false] 5 (fun f' w'=>∃ (a:LogRecord) (d:Int) (j:Int),At f' [(0,pt gc),(2,pt U),(3,pt p),(4,i6 n),(13,.agg (List.toArray [str l.Durable,str l.Pending,i6 l.Count])),(15,.agg (List.toArray [str a.Command,str a.Reply]))]∧(Kp (fun b_=>b_=gc∨b_=p) k w')∧(Blk w' gc ec [.slice Ac nc cc,i6 d,.int .u64 j])∧(Blk w' p 35 [str l.Durable,str l.Pending,i6 l.Count])∧(t≤d∧d≤t+8)∧(a.Command.length≤40∧a.Reply.length≤40)) ?_ (fun R=>?_)
    ·rintro bn aO ⟨a,d,j,V,K,ak,al,T,S⟩
     rw [← sA V]
     have a8:=K.size
     refine Ab 3 G (Qv ent45 (c_spec_AppendRecord aO l a oB oQ) G fun bG y ba=>?_)
     have h:=K.lo y
     have ar:(appN l a).1.Durable.length+(appN l a).1.Pending.length≤l.Durable.length+l.Pending.length+406:=appN_len l a
     refine Qn ⟨h,_,G,(Ak 4 G h (fun w' hw'=>mT G)<|Ak 5 G h (fun w' hw'=>xG G G)<|Ak 6 G h (fun w' hw'=>xI G G)<|Ab 7 G (Qw (o:=0) (vs:=[str (((appN l a).1).Durable),str (((appN l a).1).Pending),i6 (((appN l a).1).Count)]) agg35.2 G G G G (al.lo y) ler G ?_))⟩
     intro bH O aX ac
     have L:=h.step O (fun _ _ e=>.inr e)
     refine Qn ⟨L,_,G,(Ad oC (⟨a,d,j,(At.r G),L,((ak.lo y).kn O),ac,T,S,ar⟩))⟩
    refine Ak 1 G (kr b) (fun w' hw'=>mP G)<|Ar [0,2] oC G ⟨Bm G trivial ?_,Bm G trivial ?_,trivial⟩
    ·refine Q (lG agg35 G (m.lo b) G) (Qn ⟨(kq k).lo b,_,G,(Ab 2 G (Qc ent62 (c___spec_l1Cur__logRecord ab Lc t z (F.lo b) (v.lo b) oB oB) G ?_))⟩)
     rintro e bI ⟨aM,aJ,aG,rfl,ae,ax,au,A⟩
     refine ⟨_,G,?_⟩
     have bb:=A.size
     have M:=((kr b:Kp (fun b_=>b_=gc∨b_=p) k _)).step A (fun _ _ e=>.inl e)
     refine Qn ⟨M,_,G,(Ag oC G (R _ _ (⟨aM,aJ,aG,(At.r G),M,ae,((m.lo b).kn A),ax,au⟩)))⟩
    ·refine Qc ent62 (c___spec_l1Cur__logRecord ab Lc t z (F.lo b) (v.lo b) oB oB) G ?_
     rintro e bJ ⟨aN,aK,aH,rfl,ag,ay,aw,q⟩
     refine ⟨_,G,?_⟩
     have bc:=q.size
     have x:=((kr b:Kp (fun b_=>b_=gc∨b_=p) k _)).step q (fun _ _ e=>.inl e)
     refine Qn ⟨x,_,G,(Ab 0 G (Q (lG agg35 G ((m.lo b).kn q) G) (Qn ⟨x,_,G,(Ag oC G (R _ _ (⟨aN,aK,aH,(At.r G),x,ag,((m.lo b).kn q),ay,aw⟩)))⟩)))⟩
   rintro bo aQ ⟨a,d,j,X,f,am,B,T,S,aW⟩
   rw [← sA X]
   have be:=f.size
   refine Ws (Wr (Q (mP G)<|Qc ent61 (c___spec_l1Cur__one aQ Lc d j am (v.kp f (fun b_ hb e'=>e'.elim (fun e'=>by have e'':b_=gc:=e'; omega) (fun e'=>by have e'':b_=p:=e'; omega))) oB oB 4 oD) G ?_))
   rintro e aR ⟨bF,aa,Z,rfl,N,a6,c⟩
   refine ⟨_,G,?_⟩
   have bf:=c.size
   have I:=(J.step f (fun i_ hi_ e'=>e'.elim (fun e'=>e') (fun e'=>by have e'':i_=p:=e'; omega))).step c (fun i_ hi_ e'=>e')
   refine Qn (Wb G (fun az=>?_) (fun az=>?_))
   ·have an:=(v.kp f (fun b_ hb e'=>e'.elim (fun e'=>by have e'':b_=gc:=e'; omega) (fun e'=>by have e'':b_=p:=e'; omega))).kn c
    have ao:=(H.kp f (fun e'=>e'.elim (fun e'=>by have e'':U=gc:=e'; omega) (fun e'=>by have e'':U=p:=e'; omega))).kn c
    refine Wr (Q (lG agg35 G (B.kn c) G)<|Qv ent191 (c_spec_SyncLog aR ((appN l a).1) oB) G fun bK i bg=>(Q (mT G)<|Q (xG G G)<|Q (xB G G)<|Qw (o:=0) (vs:=[str (((syncN ((appN l a).1)).1).Durable),str (((syncN ((appN l a).1)).1).Pending),i6 (((syncN ((appN l a).1)).1).Count)]) agg35.2 G G G G ((B.kn c).lo i) ler G ?_))
    intro bL s aY ah
    refine Qn (Wr (Q (mI G)<|Q (r_sub G G oB)<|Q (aI G)<|Qn (⟨(n-1,((syncN ((appN l a).1)).1),aa,Z),_,G,(At.r G),⟨((I.lo i).new s),((N.lo i).kn s),((an.lo i).kn s),((ao.lo i).kn s),ah,?_⟩,?_⟩)))
    ·exact (by (try dsimp only); first | exact ⟨oB,appN_ok ‹LogOK _›,oB,oB⟩ | exact ⟨oB,syncN_ok (appN_ok ‹LogOK _›),oB,oB⟩)
    ·exact oH
   ·refine Wk ?_
    have ap:=(v.kp f (fun b_ hb e'=>e'.elim (fun e'=>by have e'':b_=gc:=e'; omega) (fun e'=>by have e'':b_=p:=e'; omega))).kn c
    have aq:=(H.kp f (fun e'=>e'.elim (fun e'=>by have e'':U=gc:=e'; omega) (fun e'=>by have e'':U=p:=e'; omega))).kn c
    refine Wr (Q (mI G)<|Q (r_sub G G oB)<|Q (aI G)<|Qn (⟨(n-1,((appN l a).1),aa,Z),_,G,(At.r G),⟨I,N,ap,aq,(B.kn c),?_⟩,?_⟩))
    ·exact (by (try dsimp only); first | exact ⟨oB,appN_ok ‹LogOK _›,oB,oB⟩ | exact ⟨oB,syncN_ok (appN_ok ‹LogOK _›),oB,oB⟩)
    ·exact oH
  ·refine Wx (xh (Ws (Wr (Q (lG agg35 G m G)<|Qw (o:=0) (vs:=[str l.Durable,str l.Pending,i6 l.Count]) agg35.2 G G G G H ler G ?_))))
   intro bM P aZ ai
   refine Qn (We (retC G G agg35 ai G (⟨l,t,z,eR G,(F.kn P),⟨oB,oB⟩,aF,(J.new P)⟩)))
theorem c___spec_l1Cur__anyLog (w:World) {gc ec:Nat} (Lc:List UInt8) (tc sc:Int) (hc:Blk w gc ec [.slice Ac nc cc,i6 tc,.int .u64 sc]) (hLc:SlR w Bc encB 1 Ac nc cc Lc) (hgc:Bc≤gc) (htc:0≤tc∧tc+72≤4611686018427387904):Calls Tryz.prog 113 #[.pointer (some ⟨gc,0,none⟩)] w fun e w'=>∃ (l:Log) (tc' sc':Int),e=.returned (.agg (List.toArray [str l.Durable,str l.Pending,i6 l.Count]))∧Blk w' gc ec [.slice Ac nc cc,i6 tc',.int .u64 sc']∧(tc≤tc'∧tc'≤tc+72)∧(l.Durable.length≤60000∧l.Pending.length≤60000∧-1≤l.Count∧l.Count≤100)∧Kp (fun b_=>b_=gc) w w':=by
 refine cW 30 Tryz.func113 G G G ?_
 have hBlc:=hc.lt
 have hbdc:=hLc.bound
 have hlec:=hLc.len
 have hBbc:=hLc.bd
 refine Ws (Wr (Qa (l:=[str ([]:List UInt8),str ([]:List UInt8),i6 0]) tz35 G ?_))
 intro g1 w2 aw r ax P
 refine Qn (Ws (Wr (Q (mP G)<|Qc ent164 (c___spec_l1Cur__log w2 Lc tc sc (hc.lo r) (hLc.lo r) oB oB) G ?_)))
 rintro e w9 ⟨a,U,S,rfl,B,am,L,g⟩
 refine ⟨_,G,?_⟩
 have ap:=g.size
 have Z:=log_rng L
 refine Qa (l:=[str ([]:List UInt8),str ([]:List UInt8),i6 0]) tz35 G ?_
 intro au aA Y h ac C
 refine Qw (o:=0) (vs:=[str a.Durable,str a.Pending,i6 a.Count]) agg35.2 G G G G C ler G ?_
 intro W i ae c
 refine Qn (Ws (Ws ?_))
 have y:=(((hLc.lo r).kn g).lo h).kn i
 have k:=((P.kn g).lo h).kn i
 refine Wr (Q (mP G)<|Qc ent59 (c___spec_l1Cur__pick W Lc U S ((B.lo h).kn i) y oB oB 24 oD) G ?_)
 rintro e X ⟨ay,t,s,rfl,f,an,aa,b⟩
 refine ⟨_,G,?_⟩
 have aq:=b.size
 have d:=(((((kr r:Kp (fun b_=>b_=gc) w _)).step g (fun i_ hi_ e'=>e')).lo h).new i).step b (fun i_ hi_ e'=>e')
 refine Qn (Wl (Ws (Wr (Q (r_eq G G)<|Q (aB G)<|Qn (Wd G (fun M=>?_) (fun M=>?_))))))
 ·refine Wr (Q (fA fa35_2 G)<|Q (lB sca3 G (c.kn b) G)<|Q (r_add G G oB)<|Q (fA fa35_2 G)<|Qw (o:=2) (vs:=[i6 (a.Count+1)]) sca3.2 G G G G (c.kn b) ler G ?_)
  intro aC n ag D
  refine Qn (Ws (Wr (Q (lG agg35 G D G)<|Qw (o:=0) (vs:=[str a.Durable,str a.Pending,i6 (a.Count+1)]) agg35.2 G G G G ((k.kn b).kn n) ler G ?_)))
  intro aD u ah E
  refine Qn (We (retC G G agg35 E G (⟨(⟨a.Durable,a.Pending,a.Count+1⟩:Log),t,s,eR (eA G),((f.kn n).kn u),⟨oB,oB⟩,oL,((d.new n).new u)⟩)))
 ·refine Ws (Wr (Q (r_eq G G)<|Q (aB G)<|Qn (Wd G (fun N=>?_) (fun N=>?_))))
  ·refine Wr (Q (mP G)<|Q (fA fa35_1 G)<|Q (lB sca9 G (c.kn b) G)<|Qc ent71 (c___spec_l1Cur__spoilt X Lc t s f (y.kn b) oB oB a.Pending ([35,64,10,48,49]:List UInt8) oD (by first | omega | decide | (simp; done))) G ?_)
   rintro e aE ⟨A,V,T,rfl,F,ao,ab,j⟩
   refine ⟨_,G,?_⟩
   have ar:=j.size
   refine Q (fA fa35_1 G)<|Qw (o:=1) (vs:=[str A]) sca9.2 G G G G ((c.kn b).kn j) ler G ?_
   intro aF p ai H
   refine Qn (Ws (Wr (Q (lG agg35 G H G)<|Qw (o:=0) (vs:=[str a.Durable,str A,i6 a.Count]) agg35.2 G G G G (((k.kn b).kn j).kn p) ler G ?_)))
   intro aG v aj I
   refine Qn (We (retC G G agg35 I G (⟨(⟨a.Durable,A,a.Count⟩:Log),V,T,eR (eA G),((F.kn p).kn v),⟨oB,oB⟩,oL,(((d.step j (fun i_ hi_ e'=>e')).new p).new v)⟩)))
  ·refine Ws (Wr (Q (r_eq G G)<|Q (aB G)<|Qn (Wd G (fun O=>?_) (fun O=>?_))))
   ·refine Wr (Q (fA fa35_0 G)<|Q (lB sca9 G (c.kn b) G)<|Q (fA fa35_1 G)<|Q (lB sca9 G (c.kn b) G)<|Q (r_cat G G oA)<|Q (fA fa35_0 G)<|Qw (o:=0) (vs:=[str (a.Durable++a.Pending)]) sca9.2 G G G G (c.kn b) ler G ?_)
    intro aH q ak J
    refine Qn (Ws (Wr (Q (lG agg35 G J G)<|Qw (o:=0) (vs:=[str (a.Durable++a.Pending),str a.Pending,i6 a.Count]) agg35.2 G G G G ((k.kn b).kn q) ler G ?_)))
    intro aJ x al K
    refine Qn (We (retC G G agg35 K G (⟨(⟨a.Durable++a.Pending,a.Pending,a.Count⟩:Log),t,s,eR (eA G),((f.kn q).kn x),⟨oB,oB⟩,oL,((d.new q).new x)⟩)))
   ·refine Wk (Ws (Wr (Q (lG agg35 G (c.kn b) G)<|Qw (o:=0) (vs:=[str a.Durable,str a.Pending,i6 a.Count]) agg35.2 G G G G (k.kn b) ler G ?_)))
    intro aK m R z
    refine Qn (We (retC G G agg35 z G (⟨a,t,s,eR G,(f.kn m),⟨oB,oB⟩,oL,(d.new m)⟩)))
end Go.Proofs.YtndcchndcghmoaaGreatDoor
namespace Go.Proofs.YtndcchndcghmoaaGreatDoor
open Go Go.RowKit Fw
set_option maxRecDepth 10000
set_option maxHeartbeats 2000000
set_option linter.unusedVariables false
variable {Ac As1 As2 : Option Addr} {nc cc Bc ns1 cs1 Bs1 ns2 cs2 Bs2 : Nat}
theorem c___spec_l1Cur__command (w:World) {gc ec:Nat} (Lc:List UInt8) (tc sc:Int) (hc:Blk w gc ec [.slice Ac nc cc,i6 tc,.int .u64 sc]) (hLc:SlR w Bc encB 1 Ac nc cc Lc) (hgc:Bc≤gc) (htc:0≤tc∧tc+24≤4611686018427387904) (s:Console) (z:SlR w Bs1 encLMap 3 As1 ns1 cs1 s.Library.Maps) (A:SlR w Bs2 encAway 2 As2 ns2 cs2 s.Library.Away) (bD:ns1≤9∧ns2≤9) (bE:MapB s.Library.Maps) (bF:AwayB s.Library.Away) (aR:0<ns1→¬(adr As1).block=gc) (aT:0<ns2→¬(adr As2).block=gc):Calls Tryz.prog 60 #[.pointer (some ⟨gc,0,none⟩),.agg (List.toArray (cCn As1 ns1 cs1 As2 ns2 cs2 s))] w fun e w'=>∃ (v:List UInt8) (tc' sc':Int),e=.returned (str v)∧Blk w' gc ec [.slice Ac nc cc,i6 tc',.int .u64 sc']∧(tc≤tc'∧tc'≤tc+24)∧(v.length≤100)∧Kp (fun b_=>b_=gc) w w':=by
 refine cW 98 Tryz.func60 G G G ?_
 have hBlc:=hc.lt
 have hbdc:=hLc.bound
 have hlec:=hLc.len
 have hBbc:=hLc.bd
 have aK:=z.bound
 have aO:=z.len
 have aG:=z.bd
 have aM:=A.bound
 have aQ:=A.len
 have aH:=A.bd
 refine Ws (Wr (bx G ?_))
 intro g1 w2 bC q bG aJ
 refine Q (r_as (v:=str ([]:List UInt8)) G)<|Qn (Ws (Wr (Q (mP G)<|Q (fA fa37_0 G)<|Q (r_lda (l:=(cLb As1 ns1 cs1 As2 ns2 cs2 s.Library)) agg34 G (fun _ _ hu=>aJ.cells (vs:=(cLb As1 ns1 cs1 As2 ns2 cs2 s.Library)) G hu) G)<|Qc ent108 (c___spec_l1Cur__libraryStep w2 Lc tc sc (hc.lo q) (hLc.lo q) oB oB s.Library (z.lo q) (A.lo q) oB (by first | assumption | exact MapB.of (And.left (And.left ‹LibOK _›)) | exact MapB.app (MapB.of (And.left (And.left ‹LibOK _›))) oF | exact MapB.nil) (by first | assumption | exact AwayB.of ‹LibOK _› | exact AwayB.app (AwayB.of ‹LibOK _›) oF | exact AwayB.nil) (fun Z=>(aR Z)) (fun Z=>(aT Z))) G ?_)))
 rintro e w9 ⟨a,a7,aZ,rfl,O,bn,bf,t⟩
 refine ⟨_,G,?_⟩
 have bq:=t.size
 refine Qa (l:=[i6 0,i6 0,i6 0,i6 0]) tz106 G ?_
 intro bB bJ bc x bl P
 refine Qw (o:=0) (vs:=[i6 a.Kind,i6 a.Id,i6 a.Reader,i6 a.Value]) agg106.2 G G G G P ler G ?_
 intro bK y bm j
 refine Qn (Ws ?_)
 have D:=(((hLc.lo q).kn t).lo x).kn y
 refine W.regD mo oC (Rq (fun w' hw'=>fA fa106_1 G)<|Rq (fun w' hw'=>lB sca3 G (j.lo hw') G)<|QR.call ent109 (fun w' hw'=>(c_spec_l1Most w' 0 a.Id).mono fun _ _ h=>⟨h.1,hw'.trans h.2⟩) G<|QR.call ent75 (fun w' hw'=>(c_spec_l1Num w' (max 0 a.Id) oB).mono fun _ _ h=>⟨h.1,hw'.trans h.2⟩) G<|?_)
 have bg:(Lib.itoa (max 0 a.Id)).length≤21:=itoa_len (n:=max 0 a.Id) oB oB
 refine Rq (fun w' hw'=>fA fa106_2 G)<|Rq (fun w' hw'=>lB sca3 G (j.lo hw') G)<|QR.call ent75 (fun w' hw'=>(c_spec_l1Num w' a.Reader oB).mono fun _ _ h=>⟨h.1,hw'.trans h.2⟩) G<|?_
 have bh:(Lib.itoa a.Reader).length≤21:=itoa_len (n:=a.Reader) oB oB
 refine Rq (fun w' hw'=>fA fa106_3 G)<|Rq (fun w' hw'=>lB sca3 G (j.lo hw') G)<|QR.call ent109 (fun w' hw'=>(c_spec_l1Most w' 0 a.Value).mono fun _ _ h=>⟨h.1,hw'.trans h.2⟩) G<|QR.call ent75 (fun w' hw'=>(c_spec_l1Num w' (max 0 a.Value) oB).mono fun _ _ h=>⟨h.1,hw'.trans h.2⟩) G<|?_
 have bi:(Lib.itoa (max 0 a.Value)).length≤21:=itoa_len (n:=max 0 a.Value) oB oB
 refine Rq (fun w' hw'=>aS G)<|Rq (fun w' hw'=>aS G)<|Rq (fun w' hw'=>aS G)<|QR.nil ?_
 intro ba g
 have bs:=g.size
 refine Ws (Ws (Wr (Q (mP G)<|Qc ent59 (c___spec_l1Cur__pick ba Lc a7 aZ (((O.lo x).kn y).lo g) (D.lo g) oB oB 6 oD) G ?_)))
 rintro e bL ⟨bH,f,d,rfl,c,bo,bj,k⟩
 refine ⟨_,G,?_⟩
 have bt:=k.size
 have b:=((((((kr q:Kp (fun b_=>b_=gc) w _)).step t (fun i_ hi_ e'=>e')).lo x).new y).lo g).step k (fun i_ hi_ e'=>e')
 refine Qn (Wl (Ws (Ws ?_)))
 have E:=(D.lo g).kn k
 have p:=(j.lo g).kn k
 refine Wr (Q (r_eq G G)<|Q (aB G)<|Qn (Wd G (fun K=>?_) (fun K=>?_)))
 ·refine Wk (W.cond_t (congrArg Value.bool (decide_eq_true K)) (Ws (Ws (Wr (Q (fA fa106_0 G)<|Q (lB sca3 G p G)<|Qn (Wl (Ws (Wr (Q (r_eq G G)<|Q (aB G)<|Qn (Wd G (fun aa=>?_) (fun aa=>?_)))))))))))
  ·refine Ws (Wr (Q (mS G)<|Q (r_cat G G oA)<|Q (r_cat G G oA)<|Q (mS G)<|Q (r_cat G G oA)<|Q (aS G)<|Qn (We (ret1 G (v:=str _) G (⟨(((([98,117,121,32]:List UInt8)++(Lib.itoa (max 0 a.Id)))++([32]:List UInt8))++(Lib.itoa (max 0 a.Value))),f,d,eR G,c,⟨oB,oB⟩,oE,b⟩)))))
  ·refine Ws (Wr (Q (r_eq G G)<|Q (aB G)<|Qn (Wd G (fun ab=>?_) (fun ab=>?_))))
   ·refine Ws (Wr (Q (mS G)<|Q (r_cat G G oA)<|Q (r_cat G G oA)<|Q (mS G)<|Q (r_cat G G oA)<|Q (aS G)<|Qn (We (ret1 G (v:=str _) G (⟨(((([108,101,110,100,32]:List UInt8)++(Lib.itoa (max 0 a.Id)))++([32]:List UInt8))++(Lib.itoa a.Reader)),f,d,eR G,c,⟨oB,oB⟩,oE,b⟩)))))
   ·refine Ws (Wr (Q (r_eq G G)<|Q (aB G)<|Qn (Wd G (fun ac=>?_) (fun ac=>?_))))
    ·refine Ws (Wr (Q (mS G)<|Q (r_cat G G oA)<|Q (r_cat G G oA)<|Q (mS G)<|Q (r_cat G G oA)<|Q (r_cat G G oA)<|Q (mS G)<|Q (r_cat G G oA)<|Q (aS G)<|Qn (We (ret1 G (v:=str _) G (⟨(((((([98,97,99,107,32]:List UInt8)++(Lib.itoa (max 0 a.Id)))++([32]:List UInt8))++(Lib.itoa a.Reader))++([32]:List UInt8))++(Lib.itoa (max 0 a.Value))),f,d,eR G,c,⟨oB,oB⟩,oE,b⟩)))))
    ·refine Ws (Wr (Q (r_eq G G)<|Q (aB G)<|Qn (Wd G (fun ae=>?_) (fun ae=>?_))))
     ·refine Ws (Wr (Q (mS G)<|Q (r_cat G G oA)<|Q (r_cat G G oA)<|Q (mS G)<|Q (r_cat G G oA)<|Q (r_cat G G oA)<|Q (mS G)<|Q (r_cat G G oA)<|Q (aS G)<|Qn (We (ret1 G (v:=str _) G (⟨(((((([104,97,110,100,32]:List UInt8)++(Lib.itoa (max 0 a.Id)))++([32]:List UInt8))++(Lib.itoa a.Reader))++([32]:List UInt8))++(Lib.itoa (max 0 a.Value))),f,d,eR G,c,⟨oB,oB⟩,oE,b⟩)))))
     ·refine Ws (Wr (Q (r_eq G G)<|Q (aB G)<|Qn (Wd G (fun ag=>?_) (fun ag=>?_))))
      ·refine Ws (Wr (Q (mS G)<|Q (r_cat G G oA)<|Q (r_cat G G oA)<|Q (mS G)<|Q (r_cat G G oA)<|Q (aS G)<|Qn (We (ret1 G (v:=str _) G (⟨(((([109,101,110,100,32]:List UInt8)++(Lib.itoa (max 0 a.Id)))++([32]:List UInt8))++(Lib.itoa (max 0 a.Value))),f,d,eR G,c,⟨oB,oB⟩,oE,b⟩)))))
      ·refine Ws (Wr (Q (r_eq G G)<|Q (aB G)<|Qn (Wd G (fun ah=>?_) (fun ah=>?_))))
       ·refine Ws (Wr (Q (mS G)<|Q (r_cat G G oA)<|Q (r_cat G G oA)<|Q (mS G)<|Q (r_cat G G oA)<|Q (aS G)<|Qn (We (ret1 G (v:=str _) G (⟨(((([100,114,111,112,32]:List UInt8)++(Lib.itoa (max 0 a.Id)))++([32]:List UInt8))++(Lib.itoa (max 0 a.Value))),f,d,eR G,c,⟨oB,oB⟩,oE,b⟩)))))
       ·refine Wk (Ws (Wr (Q (mS G)<|Q (r_cat G G oA)<|Q (r_cat G G oA)<|Q (mS G)<|Q (r_cat G G oA)<|Q (aS G)<|Qn (We (ret1 G (v:=str _) G (⟨(((([119,101,97,114,32]:List UInt8)++(Lib.itoa (max 0 a.Id)))++([32]:List UInt8))++(Lib.itoa (max 0 a.Value))),f,d,eR G,c,⟨oB,oB⟩,oE,b⟩))))))
 ·refine Ws (Wr (Q (r_eq G G)<|Q (aB G)<|Qn (Wd G (fun M=>?_) (fun M=>?_))))
  ·refine Wk (W.cond_t (congrArg Value.bool (decide_eq_true M)) (Ws (Ws (Wr (Q (fA fa106_0 G)<|Q (lB sca3 G p G)<|Qn (Wl (Ws (Wr (Q (r_eq G G)<|Q (aB G)<|Qn (Wd G (fun ai=>?_) (fun ai=>?_)))))))))))
   ·refine Ws (Wr (Q (mS G)<|Q (r_cat G G oA)<|Q (r_cat G G oA)<|Q (mS G)<|Q (r_cat G G oA)<|Q (aS G)<|Qn (We (ret1 G (v:=str _) G (⟨(((([98,117,121,32]:List UInt8)++(Lib.itoa (max 0 a.Id)))++([32]:List UInt8))++(Lib.itoa (max 0 a.Value))),f,d,eR G,c,⟨oB,oB⟩,oE,b⟩)))))
   ·refine Ws (Wr (Q (r_eq G G)<|Q (aB G)<|Qn (Wd G (fun aj=>?_) (fun aj=>?_))))
    ·refine Ws (Wr (Q (mS G)<|Q (r_cat G G oA)<|Q (r_cat G G oA)<|Q (mS G)<|Q (r_cat G G oA)<|Q (aS G)<|Qn (We (ret1 G (v:=str _) G (⟨(((([108,101,110,100,32]:List UInt8)++(Lib.itoa (max 0 a.Id)))++([32]:List UInt8))++(Lib.itoa a.Reader)),f,d,eR G,c,⟨oB,oB⟩,oE,b⟩)))))
    ·refine Ws (Wr (Q (r_eq G G)<|Q (aB G)<|Qn (Wd G (fun ak=>?_) (fun ak=>?_))))
     ·refine Ws (Wr (Q (mS G)<|Q (r_cat G G oA)<|Q (r_cat G G oA)<|Q (mS G)<|Q (r_cat G G oA)<|Q (r_cat G G oA)<|Q (mS G)<|Q (r_cat G G oA)<|Q (aS G)<|Qn (We (ret1 G (v:=str _) G (⟨(((((([98,97,99,107,32]:List UInt8)++(Lib.itoa (max 0 a.Id)))++([32]:List UInt8))++(Lib.itoa a.Reader))++([32]:List UInt8))++(Lib.itoa (max 0 a.Value))),f,d,eR G,c,⟨oB,oB⟩,oE,b⟩)))))
     ·refine Ws (Wr (Q (r_eq G G)<|Q (aB G)<|Qn (Wd G (fun al=>?_) (fun al=>?_))))
      ·refine Ws (Wr (Q (mS G)<|Q (r_cat G G oA)<|Q (r_cat G G oA)<|Q (mS G)<|Q (r_cat G G oA)<|Q (r_cat G G oA)<|Q (mS G)<|Q (r_cat G G oA)<|Q (aS G)<|Qn (We (ret1 G (v:=str _) G (⟨(((((([104,97,110,100,32]:List UInt8)++(Lib.itoa (max 0 a.Id)))++([32]:List UInt8))++(Lib.itoa a.Reader))++([32]:List UInt8))++(Lib.itoa (max 0 a.Value))),f,d,eR G,c,⟨oB,oB⟩,oE,b⟩)))))
      ·refine Ws (Wr (Q (r_eq G G)<|Q (aB G)<|Qn (Wd G (fun am=>?_) (fun am=>?_))))
       ·refine Ws (Wr (Q (mS G)<|Q (r_cat G G oA)<|Q (r_cat G G oA)<|Q (mS G)<|Q (r_cat G G oA)<|Q (aS G)<|Qn (We (ret1 G (v:=str _) G (⟨(((([109,101,110,100,32]:List UInt8)++(Lib.itoa (max 0 a.Id)))++([32]:List UInt8))++(Lib.itoa (max 0 a.Value))),f,d,eR G,c,⟨oB,oB⟩,oE,b⟩)))))
       ·refine Ws (Wr (Q (r_eq G G)<|Q (aB G)<|Qn (Wd G (fun an=>?_) (fun an=>?_))))
        ·refine Ws (Wr (Q (mS G)<|Q (r_cat G G oA)<|Q (r_cat G G oA)<|Q (mS G)<|Q (r_cat G G oA)<|Q (aS G)<|Qn (We (ret1 G (v:=str _) G (⟨(((([100,114,111,112,32]:List UInt8)++(Lib.itoa (max 0 a.Id)))++([32]:List UInt8))++(Lib.itoa (max 0 a.Value))),f,d,eR G,c,⟨oB,oB⟩,oE,b⟩)))))
        ·refine Wk (Ws (Wr (Q (mS G)<|Q (r_cat G G oA)<|Q (r_cat G G oA)<|Q (mS G)<|Q (r_cat G G oA)<|Q (aS G)<|Qn (We (ret1 G (v:=str _) G (⟨(((([119,101,97,114,32]:List UInt8)++(Lib.itoa (max 0 a.Id)))++([32]:List UInt8))++(Lib.itoa (max 0 a.Value))),f,d,eR G,c,⟨oB,oB⟩,oE,b⟩))))))
  ·refine Ws (Wr (Q (r_eq G G)<|Q (aB G)<|Qn (Wd G (fun N=>?_) (fun N=>?_))))
   ·refine Wk (W.cond_t (congrArg Value.bool (decide_eq_true N)) (Ws (Ws (Wr (Q (fA fa106_0 G)<|Q (lB sca3 G p G)<|Qn (Wl (Ws (Wr (Q (r_eq G G)<|Q (aB G)<|Qn (Wd G (fun ao=>?_) (fun ao=>?_)))))))))))
    ·refine Ws (Wr (Q (mS G)<|Q (r_cat G G oA)<|Q (r_cat G G oA)<|Q (mS G)<|Q (r_cat G G oA)<|Q (aS G)<|Qn (We (ret1 G (v:=str _) G (⟨(((([98,117,121,32]:List UInt8)++(Lib.itoa (max 0 a.Id)))++([32]:List UInt8))++(Lib.itoa (max 0 a.Value))),f,d,eR G,c,⟨oB,oB⟩,oE,b⟩)))))
    ·refine Ws (Wr (Q (r_eq G G)<|Q (aB G)<|Qn (Wd G (fun ap=>?_) (fun ap=>?_))))
     ·refine Ws (Wr (Q (mS G)<|Q (r_cat G G oA)<|Q (r_cat G G oA)<|Q (mS G)<|Q (r_cat G G oA)<|Q (aS G)<|Qn (We (ret1 G (v:=str _) G (⟨(((([108,101,110,100,32]:List UInt8)++(Lib.itoa (max 0 a.Id)))++([32]:List UInt8))++(Lib.itoa a.Reader)),f,d,eR G,c,⟨oB,oB⟩,oE,b⟩)))))
     ·refine Ws (Wr (Q (r_eq G G)<|Q (aB G)<|Qn (Wd G (fun aq=>?_) (fun aq=>?_))))
      ·refine Ws (Wr (Q (mS G)<|Q (r_cat G G oA)<|Q (r_cat G G oA)<|Q (mS G)<|Q (r_cat G G oA)<|Q (r_cat G G oA)<|Q (mS G)<|Q (r_cat G G oA)<|Q (aS G)<|Qn (We (ret1 G (v:=str _) G (⟨(((((([98,97,99,107,32]:List UInt8)++(Lib.itoa (max 0 a.Id)))++([32]:List UInt8))++(Lib.itoa a.Reader))++([32]:List UInt8))++(Lib.itoa (max 0 a.Value))),f,d,eR G,c,⟨oB,oB⟩,oE,b⟩)))))
      ·refine Ws (Wr (Q (r_eq G G)<|Q (aB G)<|Qn (Wd G (fun ar=>?_) (fun ar=>?_))))
       ·refine Ws (Wr (Q (mS G)<|Q (r_cat G G oA)<|Q (r_cat G G oA)<|Q (mS G)<|Q (r_cat G G oA)<|Q (r_cat G G oA)<|Q (mS G)<|Q (r_cat G G oA)<|Q (aS G)<|Qn (We (ret1 G (v:=str _) G (⟨(((((([104,97,110,100,32]:List UInt8)++(Lib.itoa (max 0 a.Id)))++([32]:List UInt8))++(Lib.itoa a.Reader))++([32]:List UInt8))++(Lib.itoa (max 0 a.Value))),f,d,eR G,c,⟨oB,oB⟩,oE,b⟩)))))
       ·refine Ws (Wr (Q (r_eq G G)<|Q (aB G)<|Qn (Wd G (fun au=>?_) (fun au=>?_))))
        ·refine Ws (Wr (Q (mS G)<|Q (r_cat G G oA)<|Q (r_cat G G oA)<|Q (mS G)<|Q (r_cat G G oA)<|Q (aS G)<|Qn (We (ret1 G (v:=str _) G (⟨(((([109,101,110,100,32]:List UInt8)++(Lib.itoa (max 0 a.Id)))++([32]:List UInt8))++(Lib.itoa (max 0 a.Value))),f,d,eR G,c,⟨oB,oB⟩,oE,b⟩)))))
        ·refine Ws (Wr (Q (r_eq G G)<|Q (aB G)<|Qn (Wd G (fun aw=>?_) (fun aw=>?_))))
         ·refine Ws (Wr (Q (mS G)<|Q (r_cat G G oA)<|Q (r_cat G G oA)<|Q (mS G)<|Q (r_cat G G oA)<|Q (aS G)<|Qn (We (ret1 G (v:=str _) G (⟨(((([100,114,111,112,32]:List UInt8)++(Lib.itoa (max 0 a.Id)))++([32]:List UInt8))++(Lib.itoa (max 0 a.Value))),f,d,eR G,c,⟨oB,oB⟩,oE,b⟩)))))
         ·refine Wk (Ws (Wr (Q (mS G)<|Q (r_cat G G oA)<|Q (r_cat G G oA)<|Q (mS G)<|Q (r_cat G G oA)<|Q (aS G)<|Qn (We (ret1 G (v:=str _) G (⟨(((([119,101,97,114,32]:List UInt8)++(Lib.itoa (max 0 a.Id)))++([32]:List UInt8))++(Lib.itoa (max 0 a.Value))),f,d,eR G,c,⟨oB,oB⟩,oE,b⟩))))))
   ·refine Wr (Q (r_eq G G)<|Q (aB G)<|Qn (Wd G (fun ax=>?_) (fun ax=>?_)))
    ·refine Ws (Ws (Wr (Q (fA fa106_0 G)<|Q (lB sca3 G p G)<|Qn (Wl (Ws (Wr (Q (r_eq G G)<|Q (aB G)<|Qn (Wd G (fun ay=>?_) (fun ay=>?_)))))))))
     ·refine Ws (Wr (Q (mS G)<|Q (r_cat G G oA)<|Q (r_cat G G oA)<|Q (mS G)<|Q (r_cat G G oA)<|Q (aS G)<|Qn (We (ret1 G (v:=str _) G (⟨(((([98,117,121,32]:List UInt8)++(Lib.itoa (max 0 a.Id)))++([32]:List UInt8))++(Lib.itoa (max 0 a.Value))),f,d,eR G,c,⟨oB,oB⟩,oE,b⟩)))))
     ·refine Ws (Wr (Q (r_eq G G)<|Q (aB G)<|Qn (Wd G (fun az=>?_) (fun az=>?_))))
      ·refine Ws (Wr (Q (mS G)<|Q (r_cat G G oA)<|Q (r_cat G G oA)<|Q (mS G)<|Q (r_cat G G oA)<|Q (aS G)<|Qn (We (ret1 G (v:=str _) G (⟨(((([108,101,110,100,32]:List UInt8)++(Lib.itoa (max 0 a.Id)))++([32]:List UInt8))++(Lib.itoa a.Reader)),f,d,eR G,c,⟨oB,oB⟩,oE,b⟩)))))
      ·refine Ws (Wr (Q (r_eq G G)<|Q (aB G)<|Qn (Wd G (fun aA=>?_) (fun aA=>?_))))
       ·refine Ws (Wr (Q (mS G)<|Q (r_cat G G oA)<|Q (r_cat G G oA)<|Q (mS G)<|Q (r_cat G G oA)<|Q (r_cat G G oA)<|Q (mS G)<|Q (r_cat G G oA)<|Q (aS G)<|Qn (We (ret1 G (v:=str _) G (⟨(((((([98,97,99,107,32]:List UInt8)++(Lib.itoa (max 0 a.Id)))++([32]:List UInt8))++(Lib.itoa a.Reader))++([32]:List UInt8))++(Lib.itoa (max 0 a.Value))),f,d,eR G,c,⟨oB,oB⟩,oE,b⟩)))))
       ·refine Ws (Wr (Q (r_eq G G)<|Q (aB G)<|Qn (Wd G (fun aC=>?_) (fun aC=>?_))))
        ·refine Ws (Wr (Q (mS G)<|Q (r_cat G G oA)<|Q (r_cat G G oA)<|Q (mS G)<|Q (r_cat G G oA)<|Q (r_cat G G oA)<|Q (mS G)<|Q (r_cat G G oA)<|Q (aS G)<|Qn (We (ret1 G (v:=str _) G (⟨(((((([104,97,110,100,32]:List UInt8)++(Lib.itoa (max 0 a.Id)))++([32]:List UInt8))++(Lib.itoa a.Reader))++([32]:List UInt8))++(Lib.itoa (max 0 a.Value))),f,d,eR G,c,⟨oB,oB⟩,oE,b⟩)))))
        ·refine Ws (Wr (Q (r_eq G G)<|Q (aB G)<|Qn (Wd G (fun aD=>?_) (fun aD=>?_))))
         ·refine Ws (Wr (Q (mS G)<|Q (r_cat G G oA)<|Q (r_cat G G oA)<|Q (mS G)<|Q (r_cat G G oA)<|Q (aS G)<|Qn (We (ret1 G (v:=str _) G (⟨(((([109,101,110,100,32]:List UInt8)++(Lib.itoa (max 0 a.Id)))++([32]:List UInt8))++(Lib.itoa (max 0 a.Value))),f,d,eR G,c,⟨oB,oB⟩,oE,b⟩)))))
         ·refine Ws (Wr (Q (r_eq G G)<|Q (aB G)<|Qn (Wd G (fun aE=>?_) (fun aE=>?_))))
          ·refine Ws (Wr (Q (mS G)<|Q (r_cat G G oA)<|Q (r_cat G G oA)<|Q (mS G)<|Q (r_cat G G oA)<|Q (aS G)<|Qn (We (ret1 G (v:=str _) G (⟨(((([100,114,111,112,32]:List UInt8)++(Lib.itoa (max 0 a.Id)))++([32]:List UInt8))++(Lib.itoa (max 0 a.Value))),f,d,eR G,c,⟨oB,oB⟩,oE,b⟩)))))
          ·refine Wk (Ws (Wr (Q (mS G)<|Q (r_cat G G oA)<|Q (r_cat G G oA)<|Q (mS G)<|Q (r_cat G G oA)<|Q (aS G)<|Qn (We (ret1 G (v:=str _) G (⟨(((([119,101,97,114,32]:List UInt8)++(Lib.itoa (max 0 a.Id)))++([32]:List UInt8))++(Lib.itoa (max 0 a.Value))),f,d,eR G,c,⟨oB,oB⟩,oE,b⟩))))))
    ·refine Ws (Wr (Q (r_eq G G)<|Q (aB G)<|Qn (Wd G (fun aF=>?_) (fun aF=>?_))))
     ·refine Ws (Wr (Q (mP G)<|Q (mS G)<|Q (r_cat G G oA)<|Q (mS G)<|Q (r_cat G G oA)<|Ql (vs:=[str ([116,104,101,114,101]:List UInt8),str ([116,111,114,110]:List UInt8),str ([98,111,117,103,104,116]:List UInt8),str ([109,101,110,100,101,100]:List UInt8),str ([109,97,121]:List UInt8),str ([97,116,32,53]:List UInt8),str (([114,101,97,100,101,114,115,32]:List UInt8)++(Lib.itoa (max 0 a.Id))),str (([116,101,120,116,32]:List UInt8)++(Lib.itoa (max 0 a.Id)))]) (L:=([([116,104,101,114,101]:List UInt8),([116,111,114,110]:List UInt8),([98,111,117,103,104,116]:List UInt8),([109,101,110,100,101,100]:List UInt8),([109,97,121]:List UInt8),([97,116,32,53]:List UInt8),([114,101,97,100,101,114,115,32]:List UInt8)++(Lib.itoa (max 0 a.Id)),([116,101,120,116,32]:List UInt8)++(Lib.itoa (max 0 a.Id))]:List (List UInt8))) (enc:=encS) tel44 (fun _=>G) G G G oG ?_))
      intro Y bb be m B
      have bu:=m.size
      refine Qc ent110 (c___spec_l1Cur__of bb Lc f d (c.lo m) (E.lo m) oB oB ([([116,104,101,114,101]:List UInt8),([116,111,114,110]:List UInt8),([98,111,117,103,104,116]:List UInt8),([109,101,110,100,101,100]:List UInt8),([109,97,121]:List UInt8),([97,116,32,53]:List UInt8),([114,101,97,100,101,114,115,32]:List UInt8)++(Lib.itoa (max 0 a.Id)),([116,101,120,116,32]:List UInt8)++(Lib.itoa (max 0 a.Id))]:List (List UInt8)) (B.rd) oB oB (show ¬Y=gc from by first | omega | (have:=B.base_le G; omega))) G ?_
      rintro e bM ⟨V,a8,a6,rfl,R,bp,S,C⟩
      refine ⟨_,G,?_⟩
      have bz:=C.size
      have aU:V.length≤40:=by have hh:=S; simp only [List.mem_cons,List.not_mem_nil,or_false] at hh; rcases hh with hh | hh | hh | hh | hh | hh | hh | hh <;> (rw [hh]; simp only [List.length_append,List.length_cons,List.length_nil]; omega)
      refine Q (aS G)<|Qn (We (ret1 G (v:=str _) G (⟨V,a8,a6,eR G,R,⟨oB,oB⟩,oE,((b.lo m).step C (fun i_ hi_ e'=>e'))⟩)))
     ·refine Wk (Ws (Wr (Q (mP G)<|Ql (vs:=[str ([]:List UInt8),str ([119,104,97,116]:List UInt8),str ([98,117,121,32,49]:List UInt8),str ([108,101,110,100,32,120,32,49]:List UInt8),str ([119,101,97,114,32,49,32,48]:List UInt8),str ([97,116]:List UInt8),str ([97,116,32,48]:List UInt8),str ([97,64,98]:List UInt8),str ([109,97,121,32,49]:List UInt8),str ([98,97,99,107,32,49,32,49,32,49]:List UInt8),str ([116,101,120,116,32,45,49]:List UInt8)]) (L:=([([]:List UInt8),([119,104,97,116]:List UInt8),([98,117,121,32,49]:List UInt8),([108,101,110,100,32,120,32,49]:List UInt8),([119,101,97,114,32,49,32,48]:List UInt8),([97,116]:List UInt8),([97,116,32,48]:List UInt8),([97,64,98]:List UInt8),([109,97,121,32,49]:List UInt8),([98,97,99,107,32,49,32,49,32,49]:List UInt8),([116,101,120,116,32,45,49]:List UInt8)]:List (List UInt8))) (enc:=encS) tel44 (fun _=>G) G G G oG ?_)))
      intro J X aN i r
      have aX:=i.size
      refine Qc ent110 (c___spec_l1Cur__of X Lc f d (c.lo i) (E.lo i) oB oB ([([]:List UInt8),([119,104,97,116]:List UInt8),([98,117,121,32,49]:List UInt8),([108,101,110,100,32,120,32,49]:List UInt8),([119,101,97,114,32,49,32,48]:List UInt8),([97,116]:List UInt8),([97,116,32,48]:List UInt8),([97,64,98]:List UInt8),([109,97,121,32,49]:List UInt8),([98,97,99,107,32,49,32,49,32,49]:List UInt8),([116,101,120,116,32,45,49]:List UInt8)]:List (List UInt8)) (r.rd) oB oB (show ¬J=gc from by first | omega | (have:=r.base_le G; omega))) G ?_
      rintro e bA ⟨F,U,T,rfl,H,aW,I,u⟩
      refine ⟨_,G,?_⟩
      have aY:=u.size
      have aV:F.length≤40:=mem_le (n:=40) oG I
      refine Q (aS G)<|Qn (We (ret1 G (v:=str _) G (⟨F,U,T,eR G,H,⟨oB,oB⟩,oE,((b.lo i).step u (fun i_ hi_ e'=>e'))⟩)))
end Go.Proofs.YtndcchndcghmoaaGreatDoor
namespace Go.Proofs.YtndcchndcghmoaaGreatDoor
open Go Go.RowKit Fw
set_option maxRecDepth 10000
set_option maxHeartbeats 2000000
set_option linter.unusedVariables false
variable {Ac : Option Addr} {nc cc Bc : Nat}
theorem ent112:Ent Tryz.prog 112:=en Tryz.func112
theorem ent113:Ent Tryz.prog 113:=en Tryz.func113
theorem ent60:Ent Tryz.prog 60:=en Tryz.func60
theorem c___spec_l1Cur__console (w:World) {gc ec:Nat} (Lc:List UInt8) (tc sc:Int) (hc:Blk w gc ec [.slice Ac nc cc,i6 tc,.int .u64 sc]) (hLc:SlR w Bc encB 1 Ac nc cc Lc) (hgc:Bc≤gc) (htc:0≤tc∧tc+1200≤4611686018427387904):Calls Tryz.prog 65 #[.pointer (some ⟨gc,0,none⟩)] w fun e w'=>∃ (A1':Option Addr) (n1' c1':Nat) (A2':Option Addr) (n2' c2':Nat) (c:Console) (tc' sc':Int),e=.returned (.agg (List.toArray (cCn A1' n1' c1' A2' n2' c2' c)))∧SlO w' w.heap.size encLMap 3 102 A1' n1' c1' c.Library.Maps∧SlO w' w.heap.size encAway 2 129 A2' n2' c2' c.Library.Away∧Dj A1' A2'∧Blk w' gc ec [.slice Ac nc cc,i6 tc',.int .u64 sc']∧(tc≤tc'∧tc'≤tc+1200)∧(c.Library.Maps.length≤9∧c.Library.Away.length≤9)∧(MapB c.Library.Maps)∧(AwayB c.Library.Away)∧(c.Log.Durable.length≤60000∧c.Log.Pending.length≤60000∧-1≤c.Log.Count∧c.Log.Count≤100)∧Kp (fun b_=>b_=gc) w w':=by
 refine cW 32 Tryz.func65 G G G ?_
 have hBlc:=hc.lt
 have hbdc:=hLc.bound
 have hlec:=hLc.len
 have hBbc:=hLc.bd
 refine Ws (Wr (Qa (l:=zCn) tz37 G ?_))
 intro Z w2 d1 ba d2 cz
 refine Qn (Ws (Wr (Q (mP G)<|Qc ent112 (c___spec_l1Cur__library w2 Lc tc sc (hc.lo ba) (hLc.lo ba) oB oB) G ?_)))
 rintro e w9 ⟨ag,aX,aE,ah,aY,aF,C,dk,di,rfl,az,aA,cd,b7,dN,dF,dG,dH,aC⟩
 refine ⟨_,G,?_⟩
 have dP:=aC.size
 have du:=az.len
 have dv:=az.rd.bound
 have dw:=aA.len
 have dx:=aA.rd.bound
 refine Q (r_build (vs:=[(0,.agg (List.toArray (cLb ag aX aE ah aY aF C)))]) G (bld37_0 _ _ _ _ _))<|Qa (l:=zCn) tz37 G ?_
 intro d d4 dt ac dL b8
 have bj:=nE (g:=d) az
 have bl:=nE (g:=d) aA
 refine Qw (o:=0) (vs:=[.slice ag aX aE,.slice ah aY aF,i6 C.Bought,i6 C.Dropped,i6 C.Mended,str ([]:List UInt8),str ([]:List UInt8),i6 0]) agg37.2 G G G G b8 ler G ?_
 intro dm ae dM b9
 refine Qn (Ws (Ws ?_))
 have bq:=(((hLc.lo ba).kn aC).lo ac).kn ae
 have aO:=(az.lo ac).kd ae bj
 have aQ:=(aA.lo ac).kd ae bl
 refine Wr (Q (mP G)<|Qc ent59 (c___spec_l1Cur__pick dm Lc dk di ((b7.lo ac).kn ae) bq oB oB 7 oD) G ?_)
 rintro e ay ⟨bc,bb,ck,rfl,ca,dO,dI,B⟩
 refine ⟨_,G,?_⟩
 have dQ:=B.size
 refine Q (aI G)<|Qn (Wl (WL (σ:=Int × Console × Int × Int × (Option Addr) × Nat × Nat × (Option Addr) × Nat × Nat) (fun g=>[(0,pt gc),(2,pt Z),(3,pt d),(4,i6 g.1)]) (fun g w'=>(Kp (fun b_=>b_=gc) w w')∧(Blk w' gc ec [.slice Ac nc cc,i6 g.2.2.1,.int .u64 g.2.2.2.1])∧(SlR w' Bc encB 1 Ac nc cc Lc)∧(Blk w' Z 37 zCn)∧(Blk w' d 37 (cCn g.2.2.2.2.1 g.2.2.2.2.2.1 g.2.2.2.2.2.2.1 g.2.2.2.2.2.2.2.1 g.2.2.2.2.2.2.2.2.1 g.2.2.2.2.2.2.2.2.2 g.2.1))∧(SlO w' w.heap.size encLMap 3 102 g.2.2.2.2.1 g.2.2.2.2.2.1 g.2.2.2.2.2.2.1 g.2.1.Library.Maps)∧(SlO w' w.heap.size encAway 2 129 g.2.2.2.2.2.2.2.1 g.2.2.2.2.2.2.2.2.1 g.2.2.2.2.2.2.2.2.2 g.2.1.Library.Away)∧(¬g.2.2.2.2.1=some ⟨gc,0,none⟩)∧(¬g.2.2.2.2.1=some ⟨Z,0,none⟩)∧(¬g.2.2.2.2.1=some ⟨d,0,none⟩)∧(∀ b_,g.2.2.2.2.1=some ⟨b_,0,none⟩→¬g.2.2.2.2.2.2.2.1=some ⟨b_,0,none⟩)∧(¬g.2.2.2.2.2.2.2.1=some ⟨gc,0,none⟩)∧(¬g.2.2.2.2.2.2.2.1=some ⟨Z,0,none⟩)∧(¬g.2.2.2.2.2.2.2.1=some ⟨d,0,none⟩)∧((0≤g.1∧g.1≤6∧tc≤g.2.2.1∧g.2.2.1≤tc+810+40*(6-g.1))∧(g.2.1.Library.Maps.length≤9∧g.2.1.Library.Away.length≤9)∧(g.2.1.Log.Durable.length+g.2.1.Log.Pending.length≤24766∧0≤g.2.1.Log.Count∧g.2.1.Log.Count≤60)∧MapB g.2.1.Library.Maps∧AwayB g.2.1.Library.Away)) (fun g=>g.1.toNat) (bc,(⟨C,(⟨([]:List UInt8),([]:List UInt8),0⟩:Log)⟩:Console),bb,ck,ag,aX,aE,ah,aY,aF) ?_ ?_ ?_))
 ·exact (At.r G)
 ·show (Kp (fun b_=>b_=gc) w ay)∧(Blk ay gc ec [.slice Ac nc cc,i6 bb,.int .u64 ck])∧(SlR ay Bc encB 1 Ac nc cc Lc)∧(Blk ay Z 37 zCn)∧(Blk ay d 37 (cCn ag aX aE ah aY aF (⟨C,(⟨([]:List UInt8),([]:List UInt8),0⟩:Log)⟩:Console)))∧(SlO ay w.heap.size encLMap 3 102 ag aX aE ((⟨C,(⟨([]:List UInt8),([]:List UInt8),0⟩:Log)⟩:Console).Library.Maps))∧(SlO ay w.heap.size encAway 2 129 ah aY aF ((⟨C,(⟨([]:List UInt8),([]:List UInt8),0⟩:Log)⟩:Console).Library.Away))∧(¬ag=some ⟨gc,0,none⟩)∧(¬ag=some ⟨Z,0,none⟩)∧(¬ag=some ⟨d,0,none⟩)∧Dj ag ah∧(¬ah=some ⟨gc,0,none⟩)∧(¬ah=some ⟨Z,0,none⟩)∧(¬ah=some ⟨d,0,none⟩)∧((0≤bc∧bc≤6∧tc≤bb∧bb≤tc+810+40*(6-bc))∧((⟨C,(⟨([]:List UInt8),([]:List UInt8),0⟩:Log)⟩:Console).Library.Maps.length≤9∧(⟨C,(⟨([]:List UInt8),([]:List UInt8),0⟩:Log)⟩:Console).Library.Away.length≤9)∧((⟨C,(⟨([]:List UInt8),([]:List UInt8),0⟩:Log)⟩:Console).Log.Durable.length+(⟨C,(⟨([]:List UInt8),([]:List UInt8),0⟩:Log)⟩:Console).Log.Pending.length≤24766∧0≤(⟨C,(⟨([]:List UInt8),([]:List UInt8),0⟩:Log)⟩:Console).Log.Count∧(⟨C,(⟨([]:List UInt8),([]:List UInt8),0⟩:Log)⟩:Console).Log.Count≤60)∧MapB (⟨C,(⟨([]:List UInt8),([]:List UInt8),0⟩:Log)⟩:Console).Library.Maps∧AwayB (⟨C,(⟨([]:List UInt8),([]:List UInt8),0⟩:Log)⟩:Console).Library.Away)
  exact ⟨((((((kr ba:Kp (fun b_=>b_=gc) w _)).step aC (fun i_ hi_ e'=>e')).lo ac).new ae).step B (fun i_ hi_ e'=>e')),ca,bq.kn B,(((cz.kn aC).lo ac).kn ae).kn B,(b9.kn B),(oq ((aO.kn B).down) oX),(oq ((aQ.kn B).down) oX),(fun e'=>by have:=(aO.kn B).base_le e'; omega),(fun e'=>by have:=(aO.kn B).base_le e'; omega),bj,cd,(fun e'=>by have:=(aQ.kn B).base_le e'; omega),(fun e'=>by have:=(aQ.kn B).base_le e'; omega),bl,(by (try dsimp only); exact ⟨oB,by (try dsimp only); omega,by simp,‹MapB _›,‹AwayB _›⟩)⟩
 ·rintro ⟨n,o,t,z,v,S,L,x,T,M⟩ cw ap b6
  obtain ⟨bi,ar,au,aD,u,q,s,D,bm,aa,bn,E,bo,ab,aq⟩:(Kp (fun b_=>b_=gc) w ap)∧(Blk ap gc ec [.slice Ac nc cc,i6 t,.int .u64 z])∧(SlR ap Bc encB 1 Ac nc cc Lc)∧(Blk ap Z 37 zCn)∧(Blk ap d 37 (cCn v S L x T M o))∧(SlO ap w.heap.size encLMap 3 102 v S L o.Library.Maps)∧(SlO ap w.heap.size encAway 2 129 x T M o.Library.Away)∧(¬v=some ⟨gc,0,none⟩)∧(¬v=some ⟨Z,0,none⟩)∧(¬v=some ⟨d,0,none⟩)∧Dj v x∧(¬x=some ⟨gc,0,none⟩)∧(¬x=some ⟨Z,0,none⟩)∧(¬x=some ⟨d,0,none⟩)∧((0≤n∧n≤6∧tc≤t∧t≤tc+810+40*(6-n))∧(o.Library.Maps.length≤9∧o.Library.Away.length≤9)∧(o.Log.Durable.length+o.Log.Pending.length≤24766∧0≤o.Log.Count∧o.Log.Count≤60)∧MapB o.Library.Maps∧AwayB o.Library.Away):=b6
  refine (?_:W _ _ _ _ _ (act _ (sets cw [(0,pt gc),(2,pt Z),(3,pt d),(4,i6 n)])) _)
  have dh:=bi.size
  have dy:=ar.lt
  have dz:=aD.lt
  have dA:=u.lt
  have dB:=q.len
  have dC:=q.rd.bound
  have dD:=s.len
  have dE:=s.rd.bound
  have dJ:0≤n∧n≤6∧tc≤t∧t≤tc+810+40*(6-n):=aq.1
  have ce:o.Library.Maps.length≤9∧o.Library.Away.length≤9:=aq.2.1
  have dK:o.Log.Durable.length+o.Log.Pending.length≤24766∧0≤o.Log.Count∧o.Log.Count≤60:=aq.2.2.1
  have cf:MapB o.Library.Maps:=aq.2.2.2.1
  have cg:AwayB o.Library.Away:=aq.2.2.2.2
  refine Ws (Ws (WJ (fun f' w'=>At f' [(0,pt gc),(2,pt Z),(3,pt d),(4,i6 n),(15,.bool (decide ((0<n)∧(ConOK o))))]∧Lo ap w') ?_ ?_))
  ·refine Q (mI G)<|Q (r_gt G G)<|Q (mB G)<|QD (fun bA=>?_) (fun bA=>?_)
   ·refine Qg (lG agg37 G u G)<|SR.gcall G ent42 (c_spec_l34Good ap o (q.rd) (s.rd) oB) G ?_
    rintro e d5 ⟨rfl,bp⟩
    refine ⟨_,G,?_⟩
    have cU:=bp.size
    refine Q (pT G G)<|Qn (⟨_,G,⟨⟨G,G,G,G,(eDD (jat bA)),trivial⟩,bp⟩⟩)
   ·refine Qs<|Qs<|Q (pF G G)<|Qn (⟨_,G,⟨⟨G,G,G,G,(eDF (jaf bA).2),trivial⟩,(lr _)⟩⟩)
  rintro dn k ⟨aZ,a⟩
  rw [← sA aZ]
  have cX:=a.size
  have aH:=bi.lo a
  refine Wd G (fun aG=>?_) (fun aG=>?_)
  ·have cI:0<n:=aG.1
   have aU:ConOK o:=aG.2
   have cJ:=con_rng aU
   have cK:=And.left aU
   refine Wk (Ws (Wl (WA (Kp (fun b_=>b_=gc∨b_=d) k) (fun f' w'=>∃ (f:List UInt8) (j:Int) (K:Int) (m:Option Addr) (I:Nat) (X:Nat) (p:Option Addr) (J:Nat) (Y:Nat),At f' [(0,pt gc),(2,pt Z),(3,pt d),(4,i6 n)]∧(Kp (fun b_=>b_=gc∨b_=d) k w')∧(SlO w' k.heap.size encLMap 3 102 m I X (((execN o f).1).Library.Maps))∧(SlO w' k.heap.size encAway 2 129 p J Y (((execN o f).1).Library.Away))∧(Blk w' gc ec [.slice Ac nc cc,i6 j,.int .u64 K])∧(Blk w' d 37 (cCn m I X p J Y ((execN o f).1)))∧Dj m v∧Dj m x∧Dj m p∧Dj p v∧Dj p x∧(t≤j∧j≤t+24)∧(f.length≤100)∧(I=(((execN o f).1).Library.Maps).length)∧((I:Int)≤9223372036854775807)∧(J=(((execN o f).1).Library.Away).length)∧((J:Int)≤9223372036854775807)) mo ?_ ?_)))
   ·intro cq b
    have cY:=b.size
    refine Av #[true,true,true,true,false,false,false,false,false] 5 (fun f' w'=>∃ (f:List UInt8) (j:Int) (K:Int),At f' [(0,pt gc),(2,pt Z),(3,pt d),(4,i6 n),(19,.agg (List.toArray (cCn v S L x T M o))),(22,str f)]∧(Kp (fun b_=>b_=gc∨b_=d) k w')∧(Blk w' gc ec [.slice Ac nc cc,i6 j,.int .u64 K])∧(Blk w' d 37 (cCn v S L x T M o))∧(t≤j∧j≤t+24)∧(f.length≤100)) ?_ (fun aR=>?_)
    ·rintro dp cr ⟨f,j,K,a6,y,bQ,bR,aW,aV⟩
     rw [← sA a6]
     have cZ:=y.size
     refine Ab 4 G (Qc ent10 (c_spec_ExecuteCommand cr o (((q.lo a).kp y (fun b_ hb e'=>e'.elim (fun e'=>D (by have e'':b_=gc:=e'; rw [← e'']; exact hb)) (fun e'=>aa (by have e'':b_=d:=e'; rw [← e'']; exact hb)))).rd) (((s.lo a).kp y (fun b_ hb e'=>e'.elim (fun e'=>E (by have e'':b_=gc:=e'; rw [← e'']; exact hb)) (fun e'=>ab (by have e'':b_=d:=e'; rw [← e'']; exact hb)))).rd) f oB oB) G ?_)
     rintro e dS ⟨be,bs,bg,bf,bt,bh,rfl,N,O,bJ,aj⟩
     refine ⟨_,G,?_⟩
     have c6:=aj.size
     have P:=y.lo aj
     have bK:=N.len
     have bL:=N.rd.bound
     have bM:=O.len
     have bN:=O.rd.bound
     refine Qn ⟨P,_,G,(Ak 5 G P (fun w' hw'=>mT G)<|Ak 6 G P (fun w' hw'=>xG G G)<|Ak 7 G P (fun w' hw'=>xS G G)<|Ab 8 G (Qw (o:=0) (vs:=(cCn be bs bg bf bt bh ((execN o f).1))) agg37.2 G G G G (bR.lo aj) ler G ?_))⟩
     intro dT A cO bB
     have aK:=P.step A (fun _ _ e=>.inr e)
     refine Qn ⟨aK,_,G,(Ad oC (⟨f,j,K,be,bs,bg,bf,bt,bh,(At.r G),aK,((N.kn A).down),((O.kn A).down),((bQ.lo aj).kn A),bB,(fun b_ h h'=>by have h1:=(N.kn A).base_le h; have h2:=((q.lo a).kp y (fun b_ hb e'=>e'.elim (fun e'=>D (by have e'':b_=gc:=e'; rw [← e'']; exact hb)) (fun e'=>aa (by have e'':b_=d:=e'; rw [← e'']; exact hb)))).base_le h'; omega),(fun b_ h h'=>by have h1:=(N.kn A).base_le h; have h2:=((s.lo a).kp y (fun b_ hb e'=>e'.elim (fun e'=>E (by have e'':b_=gc:=e'; rw [← e'']; exact hb)) (fun e'=>ab (by have e'':b_=d:=e'; rw [← e'']; exact hb)))).base_le h'; omega),bJ,(fun b_ h h'=>by have h1:=(O.kn A).base_le h; have h2:=((q.lo a).kp y (fun b_ hb e'=>e'.elim (fun e'=>D (by have e'':b_=gc:=e'; rw [← e'']; exact hb)) (fun e'=>aa (by have e'':b_=d:=e'; rw [← e'']; exact hb)))).base_le h'; omega),(fun b_ h h'=>by have h1:=(O.kn A).base_le h; have h2:=((s.lo a).kp y (fun b_ hb e'=>e'.elim (fun e'=>E (by have e'':b_=gc:=e'; rw [← e'']; exact hb)) (fun e'=>ab (by have e'':b_=d:=e'; rw [← e'']; exact hb)))).base_le h'; omega),aW,aV,bK,bL,bM,bN⟩))⟩
    refine Av #[true,true,true,false,false,false,false,false,false] 6 (fun f' w'=>At f' [(0,pt gc),(2,pt Z),(3,pt d),(4,i6 n),(19,.agg (List.toArray (cCn v S L x T M o))),(20,pt gc),(21,.agg (List.toArray (cCn v S L x T M o)))]∧(Kp (fun b_=>b_=gc∨b_=d) k w')∧(Blk w' gc ec [.slice Ac nc cc,i6 t,.int .u64 z])∧(Blk w' d 37 (cCn v S L x T M o))) ?_ (fun aT=>?_)
    ·rintro dq ct ⟨a7,F,bO,bP⟩
     rw [← sA a7]
     have c7:=F.size
     refine Ab 3 G (Qc ent60 (c___spec_l1Cur__command ct Lc t z bO ((au.lo a).kp F (fun b_ hb e'=>e'.elim (fun e'=>by have e'':b_=gc:=e'; omega) (fun e'=>by have e'':b_=d:=e'; omega))) oB oB o (((q.lo a).kp F (fun b_ hb e'=>e'.elim (fun e'=>D (by have e'':b_=gc:=e'; rw [← e'']; exact hb)) (fun e'=>aa (by have e'':b_=d:=e'; rw [← e'']; exact hb)))).rd) (((s.lo a).kp F (fun b_ hb e'=>e'.elim (fun e'=>E (by have e'':b_=gc:=e'; rw [← e'']; exact hb)) (fun e'=>ab (by have e'':b_=d:=e'; rw [← e'']; exact hb)))).rd) oB (by first | assumption | exact MapB.of (And.left (And.left ‹LibOK _›)) | exact MapB.app (MapB.of (And.left (And.left ‹LibOK _›))) oF | exact MapB.nil) (by first | assumption | exact AwayB.of ‹LibOK _› | exact AwayB.app (AwayB.of ‹LibOK _›) oF | exact AwayB.nil) (((q.lo a).kp F (fun b_ hb e'=>e'.elim (fun e'=>D (by have e'':b_=gc:=e'; rw [← e'']; exact hb)) (fun e'=>aa (by have e'':b_=d:=e'; rw [← e'']; exact hb)))).apart D) (((s.lo a).kp F (fun b_ hb e'=>e'.elim (fun e'=>E (by have e'':b_=gc:=e'; rw [← e'']; exact hb)) (fun e'=>ab (by have e'':b_=d:=e'; rw [← e'']; exact hb)))).apart E)) G ?_)
     rintro e dU ⟨co,cl,ch,rfl,bC,bZ,bX,ax⟩
     refine ⟨_,G,?_⟩
     have da:=ax.size
     have aM:=F.step ax (fun _ _ e=>.inl e)
     refine Qn ⟨aM,_,G,(Ag oC G (aR _ _ (⟨co,cl,ch,(At.r G),aM,bC,(bP.kn ax),bZ,bX⟩)))⟩
    refine Ak 1 G (kr b) (fun w' hw'=>mP G)<|Ar [0,2] oC G ⟨Bm G trivial ?_,Bm G trivial ?_,trivial⟩
    ·refine Q (lG agg37 G ((u.lo a).lo b) G) (Qn ⟨(kq k).lo b,_,G,(Ab 2 G (Q (lG agg37 G ((u.lo a).lo b) G) (Qn ⟨(kq k).lo b,_,G,(Ag oC G (aT _ _ (⟨(At.r G),(kq k).lo b,((ar.lo a).lo b),((u.lo a).lo b)⟩)))⟩)))⟩)
    ·refine Q (lG agg37 G ((u.lo a).lo b) G) (Qn ⟨(kq k).lo b,_,G,(Ar [0,3] oC G ⟨Bm G trivial ?_,Bm G trivial ?_,trivial⟩)⟩)
     ·refine Q (lG agg37 G ((u.lo a).lo b) G) (Qn ⟨(kq k).lo b,_,G,(Ag oC G (aT _ _ (⟨(At.r G),(kq k).lo b,((ar.lo a).lo b),((u.lo a).lo b)⟩)))⟩)
     ·refine Qc ent60 (c___spec_l1Cur__command cq Lc t z ((ar.lo a).lo b) ((au.lo a).lo b) oB oB o (((q.lo a).lo b).rd) (((s.lo a).lo b).rd) oB (by first | assumption | exact MapB.of (And.left (And.left ‹LibOK _›)) | exact MapB.app (MapB.of (And.left (And.left ‹LibOK _›))) oF | exact MapB.nil) (by first | assumption | exact AwayB.of ‹LibOK _› | exact AwayB.app (AwayB.of ‹LibOK _›) oF | exact AwayB.nil) (((q.lo a).lo b).apart D) (((s.lo a).lo b).apart E)) G ?_
      rintro e dV ⟨cp,cm,ci,rfl,bD,b4,bY,ak⟩
      refine ⟨_,G,?_⟩
      have db:=ak.size
      have aw:=((kr b:Kp (fun b_=>b_=gc∨b_=d) k _)).step ak (fun _ _ e=>.inl e)
      refine Qn ⟨aw,_,G,(Ab 0 G (Q (lG agg37 G (((u.lo a).lo b).kn ak) G) (Qn ⟨aw,_,G,(Ag oC G (aR _ _ (⟨cp,cm,ci,(At.r G),aw,bD,(((u.lo a).lo b).kn ak),b4,bY⟩)))⟩)))⟩
   rintro dr V ⟨f,j,K,m,I,X,p,J,Y,a8,ai,an,ao,bS,bT,cA,cB,bI,cC,cD,aW,aV,cE,cF,cG,cH⟩
   rw [← sA a8]
   have de:=ai.size
   have bU:=(au.lo a).kp ai (fun b_ hb e'=>e'.elim (fun e'=>by have e'':b_=gc:=e'; omega) (fun e'=>by have e'':b_=d:=e'; omega))
   have bV:=(aD.lo a).kp ai (fun e'=>e'.elim (fun e'=>by have e'':Z=gc:=e'; omega) (fun e'=>by have e'':Z=d:=e'; omega))
   refine Wr (Q (mI G)<|Q (r_sub G G oB)<|Q (aI G)<|Qn (⟨(n-1,((execN o f).1),j,K,m,I,X,p,J,Y),_,G,(At.r G),(show (Kp (fun b_=>b_=gc) w V)∧(Blk V gc ec [.slice Ac nc cc,i6 j,.int .u64 K])∧(SlR V Bc encB 1 Ac nc cc Lc)∧(Blk V Z 37 zCn)∧(Blk V d 37 (cCn m I X p J Y ((execN o f).1)))∧(SlO V w.heap.size encLMap 3 102 m I X (((execN o f).1).Library.Maps))∧(SlO V w.heap.size encAway 2 129 p J Y (((execN o f).1).Library.Away))∧(¬m=some ⟨gc,0,none⟩)∧(¬m=some ⟨Z,0,none⟩)∧(¬m=some ⟨d,0,none⟩)∧Dj m p∧(¬p=some ⟨gc,0,none⟩)∧(¬p=some ⟨Z,0,none⟩)∧(¬p=some ⟨d,0,none⟩)∧((0≤n-1∧n-1≤6∧tc≤j∧j≤tc+810+40*(6-(n-1)))∧(((execN o f).1).Library.Maps.length≤9∧((execN o f).1).Library.Away.length≤9)∧(((execN o f).1).Log.Durable.length+((execN o f).1).Log.Pending.length≤24766∧0≤((execN o f).1).Log.Count∧((execN o f).1).Log.Count≤60)∧MapB ((execN o f).1).Library.Maps∧AwayB ((execN o f).1).Library.Away) from ⟨(aH.step ai (fun i_ hi_ e'=>e'.elim (fun e'=>e') (fun e'=>by have e'':i_=d:=e'; omega))),bS,bU,bV,bT,(an.down),(ao.down),(fun e'=>by have:=an.base_le e'; omega),(fun e'=>by have:=an.base_le e'; omega),(fun e'=>by have:=an.base_le e'; omega),bI,(fun e'=>by have:=ao.base_le e'; omega),(fun e'=>by have:=ao.base_le e'; omega),(fun e'=>by have:=ao.base_le e'; omega),?_⟩),?_⟩))
   ·exact (by (try dsimp only); exact ⟨oB,con_step ‹ConOK _›⟩)
   ·exact oH
  ·refine Wx (xh (Ws (Ws (Wr (Q (mP G)<|Qc ent61 (c___spec_l1Cur__one k Lc t z (ar.lo a) (au.lo a) oB oB 24 oD) G ?_)))))
   rintro e cu ⟨dR,bz,bu,rfl,aN,cS,i⟩
   refine ⟨_,G,?_⟩
   have df:=i.size
   have aJ:=aH.step i (fun i_ hi_ e'=>e')
   refine Qn (Wb G (fun b5=>?_) (fun b5=>?_))
   ·have bW:=(au.lo a).kn i
    refine Wr (Q (mP G)<|Qc ent113 (c___spec_l1Cur__anyLog cu Lc bz bu aN bW oB oB) G ?_)
    rintro e dW ⟨U,cn,cj,rfl,bE,cT,cN,H⟩
    refine ⟨_,G,?_⟩
    have dg:=H.size
    refine Q (fA fa37_1 G)<|Qw (o:=5) (vs:=[str U.Durable,str U.Pending,i6 U.Count]) agg35.2 G G G G (((u.lo a).kn i).kn H) ler G ?_
    intro dX R cP bF
    refine Qn (Ws (Wr (Q (lG agg37 G bF G)<|Qw (o:=0) (vs:=[.slice v S L,.slice x T M,i6 o.Library.Bought,i6 o.Library.Dropped,i6 o.Library.Mended,str U.Durable,str U.Pending,i6 U.Count]) agg37.2 G G G G ((((aD.lo a).kn i).kn H).kn R) ler G ?_)))
    intro dY al cQ bG
    refine Qn (We (retC G G agg37 bG G ?_))
    refine ⟨v,S,L,x,T,M,(⟨o.Library,U⟩:Console),cn,cj,eR (eA G),(oq ((((((q.lo a).kd i D).kd H D).kd R aa).kd al bm).down) (by first | rfl | omega | grind)),(oq ((((((s.lo a).kd i E).kd H E).kd R ab).kd al bo).down) (by first | rfl | omega | grind)),bn,((bE.kn R).kn al),⟨oB,oB⟩,oF,?_,?_,oF,(((aJ.step H (fun i_ hi_ e'=>e')).new R).new al)⟩ <;> (first | assumption | (dsimp only; assumption))
   ·refine Wk (Ws (Wr (Q (lG agg37 G ((u.lo a).kn i) G)<|Qw (o:=0) (vs:=(cCn v S L x T M o)) agg37.2 G G G G ((aD.lo a).kn i) ler G ?_)))
    intro dZ am cR bH
    refine Qn (We (retC G G agg37 bH G (⟨v,S,L,x,T,M,o,bz,bu,eR G,((((q.lo a).kd i D).kd am bm).down),((((s.lo a).kd i E).kd am bo).down),bn,(aN.kn am),⟨oB,oB⟩,ce,cf,cg,oF,(aJ.new am)⟩)))
end Go.Proofs.YtndcchndcghmoaaGreatDoor
namespace Go.Proofs.YtndcchndcghmoaaGreatDoor
open Go Go.RowKit Fw
set_option maxRecDepth 10000
set_option maxHeartbeats 2000000
set_option linter.unusedVariables false
variable {AL : Option Addr} {nL cL BL : Nat}
theorem bld91_0 (a0:Option Addr) (b0 c0:Nat):Tryz.prog.built 91 [(0,.slice a0 b0 c0)]=some (List.toArray [.slice a0 b0 c0,i6 0,.int .u64 0]):=by kernel_rfl
theorem ent65:Ent Tryz.prog 65:=en Tryz.func65
theorem c_laws_vBig (w:World)  (L:List UInt8) (hL:SlR w BL encB 1 AL nL cL L):Calls Tryz.prog 21 #[.slice AL nL cL] w fun e w'=>e=.returned (.bool (decide (65536<(L.length:Int))))∧Lo w w':=by
 refine cW 6 Tryz.func21 G G G ?_
 have hbdL:=hL.bound
 have hleL:=hL.len
 have hBbL:=hL.bd
 refine Ws (Wr (Q (aB G)<|Qn (Ws (Wr (Q (mL G)<|Q (r_len und49 G)<|Q (r_gt G G)<|Q (aB G)<|Qn (We (ret1 G (v:=.bool _) G (⟨eR (eDD oB),(lr w)⟩))))))))
end Go.Proofs.YtndcchndcghmoaaGreatDoor
namespace Go.Proofs.YtndcchndcghmoaaGreatDoor
open Go Go.RowKit Fw
set_option maxRecDepth 10000
set_option maxHeartbeats 2000000
set_option linter.unusedVariables false
variable {AL : Option Addr} {nL cL BL : Nat}
theorem c_spec_SplitString (w:World) (s:List UInt8) (p:List UInt8) (D:(s.length:Int)≤4000) (b:p=[10]):Calls Tryz.prog 29 #[str s,str p] w fun e w'=>∃ A1' n1' c1',e=.returned (.tuple (List.toArray [.slice A1' n1' c1',.bool true]))∧SlO w' w.heap.size encS 1 9 A1' n1' c1' (splitB (10:UInt8) s)∧Lo w w':=by
 refine cW 19 Tryz.func29 G G G ?_
 have hpl:p.length=1:=by rw [b]; rfl
 refine Ws (Wr (Q (r_as (v:=.slice none 0 0) G)<|Q (aB G)<|Qn (Ws (Ws (WJ (fun f' w'=>At f' [(0,str s),(1,str p),(4,.slice none 0 0),(5,.bool false),(13,.bool (decide ((¬((p.length:Int)=1))∨(4000<(s.length:Int)))))]∧Lo w w') ?_ ?_)))))
 ·refine Q (mS G)<|Q (r_len_s und9 G)<|Q (r_ne G G)<|Q (mB G)<|QN (fun m=>?_) (fun m=>?_)
  ·refine Qs<|Qs<|Qs<|Q (pT G G)<|Qn (⟨_,G,⟨⟨G,G,G,G,(eDT ((jmf m).1 trivial)),trivial⟩,(lr _)⟩⟩)
  ·refine Qg (mS G)<|Qg (r_len_s und9 G)<|Qg (r_gt G G)<|Q (pF G G)<|Qn (⟨_,G,⟨⟨G,G,G,G,(eDD (jmt m)),trivial⟩,(lr _)⟩⟩)
 rintro J I ⟨h,j⟩
 rw [← sA h]
 have E:=j.size
 have f:=(lr w).lo j
 refine Wd G (fun n=>?_) (fun n=>?_)
 ·refine Ws (Wr (Ql (vs:=[]) (L:=([]:List (List UInt8))) (enc:=encS) tel44 (fun _=>G) G G G oG ?_))
  intro C F q c g
  have A:=c.size
  refine Q (aL G)<|Q (aB G)<|Qn (We (ret2 G (v:=.slice _ _ _) (v':=.bool _) G G ?_))
  refine ⟨(pA C),0,0,eR (eT2 G (eB ?_)),(oq (g.down) ?_),(f.lo c)⟩ <;> (first | omega | (rw [b]; rfl) | (subst b; rfl))
 ·have u:(p.length:Int)=1:=(Classical.not_not.1 (not_or.1 n).1)
  have x:¬(4000<(s.length:Int)):=(not_or.1 n).2
  refine Wk (Ws (Wr (Q (mS G)<|Q (mS G)<|?_)))
  have y:=u8_le (gt p 0)
  refine Q (r_idxS (i:=0) und9 G G G oA)<|Qc ent55 (c_spec_l1Split I s (gt p 0) oD) G ?_
  rintro e H ⟨k,o,l,rfl,a,d⟩
  refine ⟨_,G,?_⟩
  have B:=d.size
  have r:=a.len
  have t:=a.rd.bound
  have z:=splitB_len (gt p 0) s
  refine Q (aL G)<|Q (aB G)<|Qn (We (ret2 G (v:=.slice _ _ _) (v':=.bool _) G G (⟨k,o,l,eR (eT2 G G),(oq (a.down) (by first | omega | (rw [b]; rfl) | (subst b; rfl))),(f.lo d)⟩)))
theorem c_spec_DrawRunScript (w:World)  (L:List UInt8) (hL:SlR w BL encB 1 AL nL cL L) (ce:(nL:Int)≤65536):Calls Tryz.prog 25 #[.slice AL nL cL] w fun e w'=>∃ (A1':Option Addr) (n1' c1':Nat) (A2':Option Addr) (n2' c2':Nat) (c:Console) (v:List UInt8),e=.returned (.tuple (List.toArray [.agg (List.toArray (cCn A1' n1' c1' A2' n2' c2' c)),str v]))∧SlO w' w.heap.size encLMap 3 102 A1' n1' c1' c.Library.Maps∧SlO w' w.heap.size encAway 2 129 A2' n2' c2' c.Library.Away∧Dj A1' A2'∧(c.Library.Maps.length≤9∧c.Library.Away.length≤9)∧(MapB c.Library.Maps)∧(AwayB c.Library.Away)∧(c.Log.Durable.length≤60000∧c.Log.Pending.length≤60000∧-1≤c.Log.Count∧c.Log.Count≤100)∧(v.length≤600)∧Lo w w':=by
 refine cW 42 Tryz.func25 G G G ?_
 have hbdL:=hL.bound
 have hleL:=hL.len
 have hBbL:=hL.bd
 refine Ws (Wr (Qa (l:=zCn) tz37 G ?_))
 intro g1 w2 cd aM cf a6
 refine Q (r_as (v:=str ([]:List UInt8)) G)<|Qn (Ws (Wr (Q (mL G)<|Q (r_build (vs:=[(0,.slice AL nL cL)]) G (bld91_0 _ _ _))<|bx G ?_)))
 intro g9 E bF ab bR aF
 refine Q (aP G)<|Qn (Ws ?_)
 have am:=(hL.lo aM).lo ab
 refine Wr (Q (mP G)<|Qc ent65 (c___spec_l1Cur__console E L 0 0 aF am oB oB) G ?_)
 rintro e cg ⟨f,p,i,h,q,j,b,bu,bq,rfl,P,R,ak,aG,bU,an,ao,ap,aq,S⟩
 refine ⟨_,G,?_⟩
 have bX:=S.size
 have bH:=P.len
 have bI:=P.rd.bound
 have bJ:=R.len
 have bK:=R.rd.bound
 refine Qa (l:=zCn) tz37 G ?_
 intro y ch bG A bS aH
 refine Qw (o:=0) (vs:=(cCn f p i h q j b)) agg37.2 G G G G aH ler G ?_
 intro bD B bT aj
 refine Qn (Ws ?_)
 have ag:=((am.kn S).lo A).kn B
 have T:=(P.lo A).kd B (nE (g:=y) P)
 have U:=(R.lo A).kd B (nE (g:=y) R)
 refine Wr (Q (mP G)<|Q (lG agg37 G aj G)<|Qc ent60 (c___spec_l1Cur__command bD L bu bq ((aG.lo A).kn B) ag oB oB b (T.rd) (U.rd) oB (by first | assumption | exact MapB.of (And.left (And.left ‹LibOK _›)) | exact MapB.app (MapB.of (And.left (And.left ‹LibOK _›))) oF | exact MapB.nil) (by first | assumption | exact AwayB.of ‹LibOK _› | exact AwayB.app (AwayB.of ‹LibOK _›) oF | exact AwayB.nil) (T.apart (nE T)) (U.apart (nE U))) G ?_)
 rintro e bE ⟨bB,bz,bs,rfl,aJ,bV,bO,s⟩
 refine ⟨_,G,?_⟩
 have bY:=s.size
 refine Q (aS G)<|Qn (Ws (Ws (Wr (Q (mP G)<|Qc ent59 (c___spec_l1Cur__pick bE L bz bs aJ (ag.kn s) oB oB 5 oD) G ?_))))
 rintro e ci ⟨bC,bA,bt,rfl,aK,bW,bP,x⟩
 refine ⟨_,G,?_⟩
 have bZ:=x.size
 refine Q (aI G)<|Qn (Wl (WL (σ:=Int × (List UInt8) × Int × Int) (fun g=>[(2,pt g1),(3,str ([]:List UInt8)),(4,pt g9),(5,pt y),(6,str g.2.1),(7,i6 g.1)]) (fun g w'=>(Lo w w')∧(Blk w' g1 37 zCn)∧(Blk w' g9 91 [.slice AL nL cL,i6 g.2.2.1,.int .u64 g.2.2.2])∧(SlR w' BL encB 1 AL nL cL L)∧(Blk w' y 37 (cCn f p i h q j b))∧(SlO w' E.heap.size encLMap 3 102 f p i b.Library.Maps)∧(SlO w' E.heap.size encAway 2 129 h q j b.Library.Away)∧((0≤g.1∧g.1≤4∧0≤g.2.2.1∧g.2.2.1≤1300+24*(4-g.1))∧(g.2.1.length:Int)≤100+101*(4-g.1))) (fun g=>g.1.toNat) (bC,bB,bA,bt) ?_ ?_ ?_))
 ·exact (At.r G)
 ·exact ⟨((((((((lr w).lo aM).lo ab).new S).lo A).new B).new s).new x),(((((a6.lo ab).kn S).lo A).kn B).kn s).kn x,aK,(ag.kn s).kn x,(aj.kn s).kn x,(T.kn s).kn x,(U.kn s).kn x,(by (try dsimp only); exact ⟨oB,oB⟩)⟩
 ·rintro ⟨n,v,t,z⟩ aY F aE
  obtain ⟨Z,V,ah,X,H,C,D,al⟩:(Lo w F)∧(Blk F g1 37 zCn)∧(Blk F g9 91 [.slice AL nL cL,i6 t,.int .u64 z])∧(SlR F BL encB 1 AL nL cL L)∧(Blk F y 37 (cCn f p i h q j b))∧(SlO F E.heap.size encLMap 3 102 f p i b.Library.Maps)∧(SlO F E.heap.size encAway 2 129 h q j b.Library.Away)∧((0≤n∧n≤4∧0≤t∧t≤1300+24*(4-n))∧(v.length:Int)≤100+101*(4-n)):=aE
  refine (?_:W _ _ _ _ _ (act _ (sets aY [(2,pt g1),(3,str ([]:List UInt8)),(4,pt g9),(5,pt y),(6,str v),(7,i6 n)])) _)
  have bp:=Z.size
  have bL:=V.lt
  have bM:=ah.lt
  have bN:=H.lt
  have bQ:0≤n∧n≤4∧0≤t∧t≤1300+24*(4-n):=al.1
  have ba:(v.length:Int)≤100+101*(4-n):=al.2
  refine Ws (Ws (Wr (Q (mI G)<|Q (r_gt G G)<|Qn (Wd G (fun aA=>?_) (fun aA=>?_)))))
  ·refine Wk (Ws (Wl (Wr (Q (mS G)<|Q (r_cat G G oA)<|Q (mP G)<|Q (lG agg37 G H G)<|Qc ent60 (c___spec_l1Cur__command F L t z ah X oB oB b (C.rd) (D.rd) oB (by first | assumption | exact MapB.of (And.left (And.left ‹LibOK _›)) | exact MapB.app (MapB.of (And.left (And.left ‹LibOK _›))) oF | exact MapB.nil) (by first | assumption | exact AwayB.of ‹LibOK _› | exact AwayB.app (AwayB.of ‹LibOK _›) oF | exact AwayB.nil) (C.apart (nE C)) (D.apart (nE D))) G ?_))))
   rintro e b7 ⟨aT,aQ,aN,rfl,au,bi,bb,d⟩
   refine ⟨_,G,?_⟩
   have bm:=d.size
   refine Q (r_cat G G oA)<|Q (aS G)<|Qn (Wr (Q (mI G)<|Q (r_sub G G oB)<|Q (aI G)<|Qn (⟨(n-1,(v++([10]:List UInt8))++aT,aQ,aN),_,G,(At.r G),⟨(Z.new d),V.kn d,au,X.kn d,H.kn d,C.kn d,D.kn d,?_⟩,?_⟩)))
   ·exact (by (try dsimp only); exact ⟨oB,by (try dsimp only); simp only [List.length_append,List.length_cons,List.length_nil]; omega⟩)
   ·exact oH
  ·refine Wx (xh (Ws (Ws (Wr (Q (mP G)<|Qc ent61 (c___spec_l1Cur__one F L t z ah X oB oB 20 oD) G ?_)))))
   rintro e aV ⟨b6,aR,aO,rfl,aw,bj,a⟩
   refine ⟨_,G,?_⟩
   have bn:=a.size
   have Y:=Z.new a
   refine Qn (Wb G (fun aC=>?_) (fun aC=>?_))
   ·refine Ws (Wr (Q (r_as (v:=str ([]:List UInt8)) G)<|Qn (Ws (Wr (Q (mP G)<|Qc ent59 (c___spec_l1Cur__pick aV L aR aO aw (X.kn a) oB oB 2 oD) G ?_)))))
    rintro e b8 ⟨aU,b5,b4,rfl,aZ,bl,bc,k⟩
    refine ⟨_,G,?_⟩
    have bo:=k.size
    refine Q (r_add G G oB)<|Q (aI G)<|Qn (Wl (WL (σ:=Int × (List UInt8)) (fun g=>[(2,pt g1),(3,str ([]:List UInt8)),(5,pt y),(6,str g.2),(8,i6 g.1)]) (fun g w'=>(Lo w w')∧(Blk w' g1 37 zCn)∧(Blk w' y 37 (cCn f p i h q j b))∧(SlO w' E.heap.size encLMap 3 102 f p i b.Library.Maps)∧(SlO w' E.heap.size encAway 2 129 h q j b.Library.Away)∧((0≤g.1∧g.1≤30)∧(g.2.length:Int)≤30-g.1)) (fun g=>g.1.toNat) (29+aU,([]:List UInt8)) ?_ ?_ ?_))
    ·exact (At.r G)
    ·exact ⟨(Y.new k),(V.kn a).kn k,(H.kn a).kn k,(C.kn a).kn k,(D.kn a).kn k,(by (try dsimp only); exact ⟨oB,by simp; omega⟩)⟩
    ·rintro ⟨m,u⟩ az I ar
     obtain ⟨J,N,O,ac,ae,aa⟩:(Lo w I)∧(Blk I g1 37 zCn)∧(Blk I y 37 (cCn f p i h q j b))∧(SlO I E.heap.size encLMap 3 102 f p i b.Library.Maps)∧(SlO I E.heap.size encAway 2 129 h q j b.Library.Away)∧((0≤m∧m≤30)∧(u.length:Int)≤30-m):=ar
     refine (?_:W _ _ _ _ _ (act _ (sets az [(2,pt g1),(3,str ([]:List UInt8)),(5,pt y),(6,str u),(8,i6 m)])) _)
     have aX:=J.size
     have a7:=N.lt
     have a8:=O.lt
     have be:0≤m∧m≤30:=aa.1
     have bf:(u.length:Int)≤30-m:=aa.2
     refine Ws (Ws (Wr (Q (mI G)<|Q (r_gt G G)<|Qn (Wd G (fun aD=>?_) (fun aD=>?_)))))
     ·refine Wk (Ws (Wl (Wr (Q (mS G)<|Q (r_cat G G oA)<|Q (aS G)<|Qn (Wr (Q (mI G)<|Q (r_sub G G oB)<|Q (aI G)<|Qn (⟨(m-1,u++([10]:List UInt8)),_,G,(At.r G),⟨J,N,O,ac,ae,?_⟩,?_⟩)))))))
      ·exact (by (try dsimp only); exact ⟨oB,by (try dsimp only); simp only [List.length_append,List.length_cons,List.length_nil]; omega⟩)
      ·exact oH
     ·refine Wx (xh (Ws (Wr (Q (lG agg37 G O G)<|Q (mS G)<|Qw (o:=0) (vs:=(cCn f p i h q j b)) agg37.2 G G G G N ler G ?_))))
      intro b9 K bg ax
      refine Q (aS G)<|Qn (We (retCT G G agg37 ax G (v:=str _) G (⟨f,p,i,h,q,j,b,u,eR (eT2 G G),((ac.kn K).down),((ae.kn K).down),ak,an,ao,ap,aq,oF,(J.new K)⟩)))
   ·refine Wk (Ws (Wr (Q (lG agg37 G (H.kn a) G)<|Q (mS G)<|Qw (o:=0) (vs:=(cCn f p i h q j b)) agg37.2 G G G G (V.kn a) ler G ?_)))
    intro ca M bh ay
    refine Q (aS G)<|Qn (We (retCT G G agg37 ay G (v:=str _) G (⟨f,p,i,h,q,j,b,v,eR (eT2 G G),(((C.kn a).kn M).down),(((D.kn a).kn M).down),ak,an,ao,ap,aq,oF,(Y.new M)⟩)))
end Go.Proofs.YtndcchndcghmoaaGreatDoor
namespace Go.Proofs.YtndcchndcghmoaaGreatDoor
open Go Go.RowKit Fw
set_option maxRecDepth 10000
set_option maxHeartbeats 2000000
set_option linter.unusedVariables false
variable {AL AM Aa1 Aa2 Ab1 Ab2 Aa_Library_Maps Aa_Library_Away Ab_Library_Maps Ab_Library_Away : Option Addr} {nL cL BL nM cM BM na1 ca1 Ba1 na2 ca2 Ba2 nb1 cb1 Bb1 nb2 cb2 Bb2 na_Library_Maps ca_Library_Maps Ba_Library_Maps na_Library_Away ca_Library_Away Ba_Library_Away nb_Library_Maps cb_Library_Maps Bb_Library_Maps nb_Library_Away cb_Library_Away Bb_Library_Away : Nat}
theorem ent116:Ent Tryz.prog 116:=en Tryz.func116
theorem ent117:Ent Tryz.prog 117:=en Tryz.func117
theorem ent68:Ent Tryz.prog 68:=en Tryz.func68
theorem eqg102:Tryz.prog.eqGuardType Tryz.prog.depth 102=false:=by kernel_rfl
theorem eqg129:Tryz.prog.eqGuardType Tryz.prog.depth 129=false:=by kernel_rfl
theorem eqg35:Tryz.prog.eqGuardType Tryz.prog.depth 35=false:=by kernel_rfl
theorem eql102 (a b:LMap) (w:World):(binOp .eql 102 (.agg (List.toArray (encLMap a))) (.agg (List.toArray (encLMap b)))).run Tryz.prog w=.ok (.bool (decide (a=b))) w:=by
 have u3:=Tryz.underlying3
 have a3:=Tryz.isAgg3
 have z3:=Tryz.sizeOf3
 have hS:Tryz.prog.underlying 102=some (.struct (Tryz.prog.fieldsOf 102)):=by kernel_rfl
 have hp:Tryz.prog.stoodInHeld 102=false:=by kernel_rfl
 have hd:(a=b)↔a.Id=b.Id∧a.Copies=b.Copies∧a.Torn=b.Torn:=by cases a; cases b; simp
 simp only [encLMap,hd]
 rw [run_eql_struct,show (10000:Nat)=9999+1 from rfl,run_equalIn_agg w 9999 102 _ _ hS hp]
 simp only [Program.fieldsOf,Tryz.underlying102]
 go_simp
 skip
 by_cases h0:a.Id=b.Id <;> by_cases h1:a.Copies=b.Copies <;> by_cases h2:a.Torn=b.Torn <;> simp [h0,h1,h2]
theorem eql129 (a b:Away) (w:World):(binOp .eql 129 (.agg (List.toArray (encAway a))) (.agg (List.toArray (encAway b)))).run Tryz.prog w=.ok (.bool (decide (a=b))) w:=by
 have u3:=Tryz.underlying3
 have a3:=Tryz.isAgg3
 have z3:=Tryz.sizeOf3
 have hS:Tryz.prog.underlying 129=some (.struct (Tryz.prog.fieldsOf 129)):=by kernel_rfl
 have hp:Tryz.prog.stoodInHeld 129=false:=by kernel_rfl
 have hd:(a=b)↔a.Map=b.Map∧a.Reader=b.Reader:=by cases a; cases b; simp
 simp only [encAway,hd]
 rw [run_eql_struct,show (10000:Nat)=9999+1 from rfl,run_equalIn_agg w 9999 129 _ _ hS hp]
 simp only [Program.fieldsOf,Tryz.underlying129]
 go_simp
 skip
 by_cases h0:a.Map=b.Map <;> by_cases h1:a.Reader=b.Reader <;> simp [h0,h1]
theorem eql35 (a b:Log) (w:World):(binOp .eql 35 (.agg (List.toArray (encLog a))) (.agg (List.toArray (encLog b)))).run Tryz.prog w=.ok (.bool (decide (a=b))) w:=by
 have u3:=Tryz.underlying3
 have a3:=Tryz.isAgg3
 have z3:=Tryz.sizeOf3
 have u9:=Tryz.underlying9
 have a9:=Tryz.isAgg9
 have z9:=Tryz.sizeOf9
 have q9:=eqin_str (P:=Tryz.prog) u9
 have hS:Tryz.prog.underlying 35=some (.struct (Tryz.prog.fieldsOf 35)):=by kernel_rfl
 have hp:Tryz.prog.stoodInHeld 35=false:=by kernel_rfl
 have hd:(a=b)↔a.Durable=b.Durable∧a.Pending=b.Pending∧a.Count=b.Count:=by cases a; cases b; simp
 simp only [encLog,hd]
 rw [run_eql_struct,show (10000:Nat)=9999+1 from rfl,run_equalIn_agg w 9999 35 _ _ hS hp]
 simp only [Program.fieldsOf,Tryz.underlying35]
 go_simp
 try simp only [q9,Result.andThen_ok]
 by_cases h0:a.Durable=b.Durable <;> by_cases h1:a.Pending=b.Pending <;> by_cases h2:a.Count=b.Count <;> simp [h0,h1,h2]
theorem c_laws_vMaps (w:World)  (L:List LMap) (hL:SlR w BL encLMap 3 AL nL cL L)  (M:List LMap) (hM:SlR w BM encLMap 3 AM nM cM M):Calls Tryz.prog 116 #[.slice AL nL cL,.slice AM nM cM] w fun e w'=>e=.returned (.bool (decide (L=M)))∧Lo w w':=by
 refine cW 26 Tryz.func116 G G G ?_
 have hbdL:=hL.bound
 have hleL:=hL.len
 have hBbL:=hL.bd
 have hbdM:=hM.bound
 have hleM:=hM.len
 have hBbM:=hM.bd
 refine Ws (Wr (Q (aB G)<|Qn (Ws (Ws (Wr (Q (mL G)<|Q (r_len und31 G)<|Q (mL G)<|Q (r_len und31 G)<|Q (r_ne G G)<|Qn (Wz G (fun t=>?_) (fun t=>?_))))))))
 ·refine Ws (Wr (Q (aB G)<|Qn (We (ret1 G (v:=.bool _) G (⟨eR (eDF (by first | (intro e; subst e; omega) | exact ne_at ‹L[_]?=some _› ‹M[_]?=some _› ‹_› | exact take_end (And.right ‹_∧L.take _=M.take _›) hleL hleM oB ‹_›)),(lr w)⟩)))))
 ·refine Wk (Ws (Ws (Wr (Q (aI G)<|Qn (Wl (WL (σ:=Nat) (fun g=>[(0,.slice AL nL cL),(1,.slice AM nM cM),(5,i6 (g:Int))]) (fun g w'=>(Lo w w')∧(SlR w' BL encLMap 3 AL nL cL L)∧(SlR w' BM encLMap 3 AM nM cM M)∧(g≤nL∧L.take g=M.take g)) (fun g=>nL-g) 0 ?_ ?_ ?_))))))
  ·exact (At.r G)
  ·exact ⟨(lr w),hL,hM,oR⟩
  ·rintro k s o n
   obtain ⟨f,b,c,x⟩:(Lo w o)∧(SlR o BL encLMap 3 AL nL cL L)∧(SlR o BM encLMap 3 AM nM cM M)∧(k≤nL∧L.take k=M.take k):=n
   refine (?_:W _ _ _ _ _ (act _ (sets s [(0,.slice AL nL cL),(1,.slice AM nM cM),(5,i6 (k:Int))])) _)
   have q:=f.size
   refine Ws (Ws (Wr (Q (mI G)<|Q (mL G)<|Q (r_len und31 G)<|Q (r_lt G G)<|Qn (Wd G (fun u=>?_) (fun u=>?_)))))
   ·refine Wk (Ws (Wl (Ws (W.regD mo oC (Rq (fun w' hw'=>mL G)<|Rq (fun w' hw'=>mI G)<|?_)))))
    have h:=b.elem (i:=k) oB
    refine Rq (fun w' hw'=>rX tsl31 (b.lo hw') G G oB)<|Rq (fun w' hw'=>r_lda (l:=encLMap (gt L k)) agg102 G (fun _ _ hu=>(b.lo hw').cell h hu) ((b.lo hw').esz _))<|Rq (fun w' hw'=>mL G)<|Rq (fun w' hw'=>mI G)<|?_
    have j:=c.elem (i:=k) oB
    refine Rq (fun w' hw'=>rX tsl31 (c.lo hw') G G oB)<|Rq (fun w' hw'=>r_lda (l:=encLMap (gt M k)) agg102 G (fun _ _ hu=>(c.lo hw').cell j hu) ((c.lo hw').esz _))<|Rq (fun w' hw'=>r_neA (l:=encLMap (gt L k)) (r:=encLMap (gt M k)) G G eqg102 (eql102 (gt L k) (gt M k)))<|QR.nil ?_
    intro y a
    have p:=a.size
    have d:=f.lo a
    refine Wz G (fun m=>?_) (fun m=>?_)
    ·refine Ws (Wr (Q (aB G)<|Qn (We (ret1 G (v:=.bool _) G (⟨eR (eDF (by first | (intro e; subst e; omega) | exact ne_at ‹L[_]?=some _› ‹M[_]?=some _› ‹_› | exact take_end (And.right ‹_∧L.take _=M.take _›) hleL hleM oB ‹_›)),d⟩)))))
    ·refine Wk (Wr (Q (mI G)<|Q (r_add G G oB)<|Q (aI G)<|Qn (⟨k+1,_,G,(At.r G),⟨d,b.lo a,c.lo a,?_⟩,?_⟩)))
     ·exact (by exact ⟨oB,take_next (And.right ‹_∧L.take _=M.take _›) ‹L[_]?=some _› ‹M[_]?=some _› oJ⟩)
     ·exact oB
   ·refine Wx (xh (Ws (Wr (Q (aB G)<|Qn (We (ret1 G (v:=.bool _) G (⟨eR (eDT (by first | (intro e; subst e; omega) | exact ne_at ‹L[_]?=some _› ‹M[_]?=some _› ‹_› | exact take_end (And.right ‹_∧L.take _=M.take _›) hleL hleM oB ‹_›)),f⟩)))))))
theorem c_laws_vAway (w:World)  (L:List Away) (hL:SlR w BL encAway 2 AL nL cL L)  (M:List Away) (hM:SlR w BM encAway 2 AM nM cM M):Calls Tryz.prog 117 #[.slice AL nL cL,.slice AM nM cM] w fun e w'=>e=.returned (.bool (decide (L=M)))∧Lo w w':=by
 refine cW 26 Tryz.func117 G G G ?_
 have hbdL:=hL.bound
 have hleL:=hL.len
 have hBbL:=hL.bd
 have hbdM:=hM.bound
 have hleM:=hM.len
 have hBbM:=hM.bd
 refine Ws (Wr (Q (aB G)<|Qn (Ws (Ws (Wr (Q (mL G)<|Q (r_len und32 G)<|Q (mL G)<|Q (r_len und32 G)<|Q (r_ne G G)<|Qn (Wz G (fun t=>?_) (fun t=>?_))))))))
 ·refine Ws (Wr (Q (aB G)<|Qn (We (ret1 G (v:=.bool _) G (⟨eR (eDF (by first | (intro e; subst e; omega) | exact ne_at ‹L[_]?=some _› ‹M[_]?=some _› ‹_› | exact take_end (And.right ‹_∧L.take _=M.take _›) hleL hleM oB ‹_›)),(lr w)⟩)))))
 ·refine Wk (Ws (Ws (Wr (Q (aI G)<|Qn (Wl (WL (σ:=Nat) (fun g=>[(0,.slice AL nL cL),(1,.slice AM nM cM),(5,i6 (g:Int))]) (fun g w'=>(Lo w w')∧(SlR w' BL encAway 2 AL nL cL L)∧(SlR w' BM encAway 2 AM nM cM M)∧(g≤nL∧L.take g=M.take g)) (fun g=>nL-g) 0 ?_ ?_ ?_))))))
  ·exact (At.r G)
  ·exact ⟨(lr w),hL,hM,oR⟩
  ·rintro k s o n
   obtain ⟨f,b,c,x⟩:(Lo w o)∧(SlR o BL encAway 2 AL nL cL L)∧(SlR o BM encAway 2 AM nM cM M)∧(k≤nL∧L.take k=M.take k):=n
   refine (?_:W _ _ _ _ _ (act _ (sets s [(0,.slice AL nL cL),(1,.slice AM nM cM),(5,i6 (k:Int))])) _)
   have q:=f.size
   refine Ws (Ws (Wr (Q (mI G)<|Q (mL G)<|Q (r_len und32 G)<|Q (r_lt G G)<|Qn (Wd G (fun u=>?_) (fun u=>?_)))))
   ·refine Wk (Ws (Wl (Ws (W.regD mo oC (Rq (fun w' hw'=>mL G)<|Rq (fun w' hw'=>mI G)<|?_)))))
    have h:=b.elem (i:=k) oB
    refine Rq (fun w' hw'=>rX tsl32 (b.lo hw') G G oB)<|Rq (fun w' hw'=>r_lda (l:=encAway (gt L k)) agg129 G (fun _ _ hu=>(b.lo hw').cell h hu) ((b.lo hw').esz _))<|Rq (fun w' hw'=>mL G)<|Rq (fun w' hw'=>mI G)<|?_
    have j:=c.elem (i:=k) oB
    refine Rq (fun w' hw'=>rX tsl32 (c.lo hw') G G oB)<|Rq (fun w' hw'=>r_lda (l:=encAway (gt M k)) agg129 G (fun _ _ hu=>(c.lo hw').cell j hu) ((c.lo hw').esz _))<|Rq (fun w' hw'=>r_neA (l:=encAway (gt L k)) (r:=encAway (gt M k)) G G eqg129 (eql129 (gt L k) (gt M k)))<|QR.nil ?_
    intro y a
    have p:=a.size
    have d:=f.lo a
    refine Wz G (fun m=>?_) (fun m=>?_)
    ·refine Ws (Wr (Q (aB G)<|Qn (We (ret1 G (v:=.bool _) G (⟨eR (eDF (by first | (intro e; subst e; omega) | exact ne_at ‹L[_]?=some _› ‹M[_]?=some _› ‹_› | exact take_end (And.right ‹_∧L.take _=M.take _›) hleL hleM oB ‹_›)),d⟩)))))
    ·refine Wk (Wr (Q (mI G)<|Q (r_add G G oB)<|Q (aI G)<|Qn (⟨k+1,_,G,(At.r G),⟨d,b.lo a,c.lo a,?_⟩,?_⟩)))
     ·exact (by exact ⟨oB,take_next (And.right ‹_∧L.take _=M.take _›) ‹L[_]?=some _› ‹M[_]?=some _› oJ⟩)
     ·exact oB
   ·refine Wx (xh (Ws (Wr (Q (aB G)<|Qn (We (ret1 G (v:=.bool _) G (⟨eR (eDT (by first | (intro e; subst e; omega) | exact ne_at ‹L[_]?=some _› ‹M[_]?=some _› ‹_› | exact take_end (And.right ‹_∧L.take _=M.take _›) hleL hleM oB ‹_›)),f⟩)))))))
theorem c_laws_vLibrary (w:World) (a:Library) (m:SlR w Ba1 encLMap 3 Aa1 na1 ca1 a.Maps) (n:SlR w Ba2 encAway 2 Aa2 na2 ca2 a.Away) (b:Library) (o:SlR w Bb1 encLMap 3 Ab1 nb1 cb1 b.Maps) (p:SlR w Bb2 encAway 2 Ab2 nb2 cb2 b.Away):Calls Tryz.prog 68 #[.agg (List.toArray (cLb Aa1 na1 ca1 Aa2 na2 ca2 a)),.agg (List.toArray (cLb Ab1 nb1 cb1 Ab2 nb2 cb2 b))] w fun e w'=>e=.returned (.bool (decide (a=b)))∧Lo w w':=by
 refine cW 38 Tryz.func68 G G G ?_
 have A:=m.bound
 have E:=m.len
 have u:=m.bd
 have B:=n.bound
 have F:=n.len
 have x:=n.bd
 have C:=o.bound
 have H:=o.len
 have y:=o.bd
 have D:=p.bound
 have I:=p.len
 have z:=p.bd
 refine Ws (Wr (bx G ?_))
 intro V X R k S j
 refine bx G ?_
 intro W t K f L g
 refine Q (aB G)<|Qn (Ws (WJ (fun f' w'=>At f' [(4,.bool (decide ((a.Maps=b.Maps)∧((a.Away=b.Away)∧((a.Bought=b.Bought)∧((a.Dropped=b.Dropped)∧(a.Mended=b.Mended)))))))]∧Lo t w') ?_ ?_))
 ·refine Q (fA fa34_0 G)<|Q (lB sca31 G (j.lo f) G)<|Q (fA fa34_0 G)<|Q (lB sca31 G g G)<|Qv ent116 (c_laws_vMaps t a.Maps ((m.lo k).lo f) b.Maps ((o.lo k).lo f)) G fun J c M=>(Q (mB G)<|QD (fun h=>?_) (fun h=>?_))
  ·refine Qg (fA fa34_1 G)<|Qg (lB sca32 G ((j.lo f).lo c) G)<|Qg (fA fa34_1 G)<|Qg (lB sca32 G (g.lo c) G)<|SR.gcall G ent117 (c_laws_vAway J a.Away (((n.lo k).lo f).lo c) b.Away (((p.lo k).lo f).lo c)) G ?_
   rintro e T ⟨rfl,d⟩
   refine ⟨_,G,?_⟩
   have N:=d.size
   refine Q (pT G G)<|Q (mB G)<|QD (fun i=>?_) (fun i=>?_)
   ·refine Qg (fA fa34_2 G)<|Qg (lB sca3 G (((j.lo f).lo c).lo d) G)<|Qg (fA fa34_2 G)<|Qg (lB sca3 G ((g.lo c).lo d) G)<|Qg (r_eq G G)<|Q (pT G G)<|Q (mB G)<|QD (fun l=>?_) (fun l=>?_)
    ·refine Qg (fA fa34_3 G)<|Qg (lB sca3 G (((j.lo f).lo c).lo d) G)<|Qg (fA fa34_3 G)<|Qg (lB sca3 G ((g.lo c).lo d) G)<|Qg (r_eq G G)<|Q (pT G G)<|Q (mB G)<|QD (fun r=>?_) (fun r=>?_)
     ·refine Qg (fA fa34_4 G)<|Qg (lB sca3 G (((j.lo f).lo c).lo d) G)<|Qg (fA fa34_4 G)<|Qg (lB sca3 G ((g.lo c).lo d) G)<|Qg (r_eq G G)<|Q (pT G G)<|Q (aB G)<|Qn (⟨_,G,⟨⟨(eDD ((((jat r).trans (jat l)).trans (jat i)).trans (jat h))),trivial⟩,(c.trans d)⟩⟩)
     ·refine Qs<|Qs<|Qs<|Qs<|Qs<|Q (pF G G)<|Q (aB G)<|Qn (⟨_,G,⟨⟨(eDF ((((jaf r).trans (jat l)).trans (jat i)).trans (jat h)).2),trivial⟩,(c.trans d)⟩⟩)
    ·refine Qs<|Qs<|Qs<|Qs<|Qs<|Q (pF G G)<|Q (mB G)<|Qs<|Qs<|Qs<|Qs<|Qs<|Q (pF G G)<|Q (aB G)<|Qn (⟨_,G,⟨⟨(eDF (((jaf l).trans (jat i)).trans (jat h)).2),trivial⟩,(c.trans d)⟩⟩)
   ·refine Qs<|Qs<|Qs<|Qs<|Qs<|Q (pF G G)<|Q (mB G)<|Qs<|Qs<|Qs<|Qs<|Qs<|Q (pF G G)<|Q (mB G)<|Qs<|Qs<|Qs<|Qs<|Qs<|Q (pF G G)<|Q (aB G)<|Qn (⟨_,G,⟨⟨(eDF ((jaf i).trans (jat h)).2),trivial⟩,(c.trans d)⟩⟩)
  ·refine Qs<|Qs<|Qs<|Qs<|Qs<|Q (pF G G)<|Q (mB G)<|Qs<|Qs<|Qs<|Qs<|Qs<|Q (pF G G)<|Q (mB G)<|Qs<|Qs<|Qs<|Qs<|Qs<|Q (pF G G)<|Q (mB G)<|Qs<|Qs<|Qs<|Qs<|Qs<|Q (pF G G)<|Q (aB G)<|Qn (⟨_,G,⟨⟨(eDF (jaf h).2),trivial⟩,c⟩⟩)
 rintro P U ⟨s,q⟩
 rw [← sA s]
 have O:=q.size
 refine We (ret1 G (v:=.bool _) G (⟨eR (eDD (by cases a; cases b; simp_all)),((((lr w).lo k).lo f).lo q)⟩))
theorem c_laws_vConsole (w:World) (a:Console) (ha_Library_Maps:SlR w Ba_Library_Maps encLMap 3 Aa_Library_Maps na_Library_Maps ca_Library_Maps a.Library.Maps) (ha_Library_Away:SlR w Ba_Library_Away encAway 2 Aa_Library_Away na_Library_Away ca_Library_Away a.Library.Away) (b:Console) (hb_Library_Maps:SlR w Bb_Library_Maps encLMap 3 Ab_Library_Maps nb_Library_Maps cb_Library_Maps b.Library.Maps) (hb_Library_Away:SlR w Bb_Library_Away encAway 2 Ab_Library_Away nb_Library_Away cb_Library_Away b.Library.Away):Calls Tryz.prog 28 #[.agg (List.toArray (cCn Aa_Library_Maps na_Library_Maps ca_Library_Maps Aa_Library_Away na_Library_Away ca_Library_Away a)),.agg (List.toArray (cCn Ab_Library_Maps nb_Library_Maps cb_Library_Maps Ab_Library_Away nb_Library_Away cb_Library_Away b))] w fun e w'=>e=.returned (.bool (decide (a=b)))∧Lo w w':=by
 refine cW 17 Tryz.func28 G G G ?_
 have hbda_Library_Maps:=ha_Library_Maps.bound
 have hlea_Library_Maps:=ha_Library_Maps.len
 have hBba_Library_Maps:=ha_Library_Maps.bd
 have hbda_Library_Away:=ha_Library_Away.bound
 have hlea_Library_Away:=ha_Library_Away.len
 have hBba_Library_Away:=ha_Library_Away.bd
 have hbdb_Library_Maps:=hb_Library_Maps.bound
 have hleb_Library_Maps:=hb_Library_Maps.len
 have hBbb_Library_Maps:=hb_Library_Maps.bd
 have hbdb_Library_Away:=hb_Library_Away.bound
 have hleb_Library_Away:=hb_Library_Away.len
 have hBbb_Library_Away:=hb_Library_Away.bd
 refine Ws (Wr (bx G ?_))
 intro z B t f u k
 refine bx G ?_
 intro A m n c o g
 refine Q (aB G)<|Qn (Ws (WJ (fun f' w'=>At f' [(4,.bool (decide ((a.Library=b.Library)∧(a.Log=b.Log))))]∧Lo m w') ?_ ?_))
 ·refine Q (fA fa37_0 G)<|Q (r_lda (l:=(cLb Aa_Library_Maps na_Library_Maps ca_Library_Maps Aa_Library_Away na_Library_Away ca_Library_Away a.Library)) agg34 G (fun _ _ hu=>(k.lo c).cells (vs:=(cLb Aa_Library_Maps na_Library_Maps ca_Library_Maps Aa_Library_Away na_Library_Away ca_Library_Away a.Library)) G hu) G)<|Q (fA fa37_0 G)<|Q (r_lda (l:=(cLb Ab_Library_Maps nb_Library_Maps cb_Library_Maps Ab_Library_Away nb_Library_Away cb_Library_Away b.Library)) agg34 G (fun _ _ hu=>g.cells (vs:=(cLb Ab_Library_Maps nb_Library_Maps cb_Library_Maps Ab_Library_Away nb_Library_Away cb_Library_Away b.Library)) G hu) G)<|Qv ent68 (c_laws_vLibrary m a.Library ((ha_Library_Maps.lo f).lo c) ((ha_Library_Away.lo f).lo c) b.Library ((hb_Library_Maps.lo f).lo c) ((hb_Library_Away.lo f).lo c)) G fun x d p=>(Q (mB G)<|QD (fun i=>?_) (fun i=>?_))
  ·refine Qg (fA fa37_1 G)<|Qg (r_lda (l:=[str a.Log.Durable,str a.Log.Pending,i6 a.Log.Count]) agg35 G (fun _ _ hu=>((k.lo c).lo d).cells (vs:=[str a.Log.Durable,str a.Log.Pending,i6 a.Log.Count]) G hu) G)<|Qg (fA fa37_1 G)<|Qg (r_lda (l:=[str b.Log.Durable,str b.Log.Pending,i6 b.Log.Count]) agg35 G (fun _ _ hu=>(g.lo d).cells (vs:=[str b.Log.Durable,str b.Log.Pending,i6 b.Log.Count]) G hu) G)<|Qg (r_eqA (l:=encLog a.Log) (r:=encLog b.Log) G G eqg35 (eql35 a.Log b.Log))<|Q (pT G G)<|Q (aB G)<|Qn (⟨_,G,⟨⟨(eDD (jat i)),trivial⟩,d⟩⟩)
  ·refine Qs<|Qs<|Qs<|Qs<|Qs<|Q (pF G G)<|Q (aB G)<|Qn (⟨_,G,⟨⟨(eDF (jaf i).2),trivial⟩,d⟩⟩)
 rintro s y ⟨j,h⟩
 rw [← sA j]
 have q:=h.size
 refine We (ret1 G (v:=.bool _) G (⟨eR (eDD (by cases a; cases b; simp_all)),((((lr w).lo f).lo c).lo h)⟩))
end Go.Proofs.YtndcchndcghmoaaGreatDoor
