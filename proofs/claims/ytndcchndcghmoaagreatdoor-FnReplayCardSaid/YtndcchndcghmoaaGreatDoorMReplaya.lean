/- Words and walks of this claim. -/
import Derived.WalkKit
import Derived.Deep.Quiet
import Derived.Deep.LoopGhost
import Derived.IntWalk
import Derived.OpenShut
import Derived.ProofKit
import Derived.Deep.Slices
import Derived.Carry
import Derived.Maps.AppendAt
import Derived.Great.BuildSlice
import Derived.Laws.OwnMore
import Derived.OrdersHeld
import Derived.StillTail
import Derived.Laws.Tables
import Derived.Lib.MinMax
import Derived.Lib.ConvBytes
import Derived.Laws.BytesString
import Derived.Laws.AppendOwn
import Derived.Lib.ItoaNum
import Derived.Lib.ItoaLen
import Derived.Lib.IndexMore
import Derived.Lib.Strings
import Derived.Shelf.Strings.Builder1
import Derived.Shelf.Strings.Builder2
import Derived.Shelf.Strings.OnBuilder
import Derived.Shelf.Strconv.Atoi
import Derived.Shelf.Strconv.Itoa0
import Derived.Shelf.Strconv.Itoa1
import Derived.Shelf.LaysM
import Derived.Shelf.Strconv.Itoa2
import Derived.Shelf.Strconv.Itoa3
import Derived.Shelf.Strconv.AtoiErrFast
import Derived.Shelf.Strconv.ParseIntEmpty
import Derived.Shelf.Strconv.AtoiFail
import Derived.Shelf.Strconv.Clone
import Derived.Shelf.Strconv.SyntaxError
import Derived.Shelf.LaysC
import Derived.Shelf.Strconv.ToError
import Derived.Shelf.Strconv.Lower
import Derived.Shelf.Strconv.ParseUint10
import Derived.Shelf.Strconv.ParseUint10Empty
import Derived.Shelf.Strconv.ParseUint10Any
import Derived.Shelf.Strconv.ParseInt10
import Derived.Shelf.Strconv.AtoiLong
import Derived.Shelf.Strconv.AtoiInnerAll
import Derived.Shelf.Strconv.RangeError
import Derived.Shelf.Strconv.ToErrorRange
import Derived.Shelf.Strconv.AtoiAll
import Derived.Shelf.Strings.Search1
import Derived.Shelf.Strings.Search2
import Derived.Shelf.Strings.Search3
import Derived.Shelf.Strings.Cut
import Derived.Shelf.Strings.Count
import Derived.Shelf.Strings.Shaped
import Derived.Shelf.Strings.Prefix
import Derived.Shelf.Strings.Split
import Derived.Shelf.Strings.SplitShaped
import Derived.Shelf.Unicode.DecodeSlow
import Derived.Test.YtndcchndcghmoaaGreatDoorChecked
import Derived.Lib.AtoiAll
import Derived.WideLaws
import Derived.Laws.CopyRow
import Derived.Lib.AppendZerosOnto
import Derived.Lib.AtoiAllCases
import Derived.Lib.AtoiErrMem
import Derived.Lib.SplitLaws
import Derived.Lib.SmallJoins
import Derived.Lib.Join
import Derived.Lib.AppendIntMem
import Derived.Laws.StructEq
import Derived.Handy
set_option linter.unusedVariables false
namespace Go.Proofs.YtndcchndcghmoaaGreatDoor
universe u
theorem oA {p:Prop} (h:p:=by first | omega | (simp only [List.length_append,List.length_cons,List.length_nil,List.length_take,List.length_drop]; omega) | (simp only [List.length_append,List.length_cons,List.length_nil,List.length_take,List.length_drop] at *; omega)):p:=h
theorem oB {p:Prop} (h:p:=by omega):p:=h
theorem oC {p:Prop} (h:p:=by kernel_rfl):p:=h
theorem oD {p:Prop} (h:p:=by first | omega | (simp only [List.length_append,List.length_cons,List.length_nil,List.length_take,List.length_drop]; omega)):p:=h
theorem oE {p:Prop} (h:p:=by first | omega | (simp only [List.length_append,List.length_cons,List.length_nil]; omega)):p:=h
theorem oF {p:Prop} (h:p:=by first | omega | (dsimp only; omega)):p:=h
theorem oG {p:Prop} (h:p:=by decide):p:=h
theorem oH {p:Prop} (h:p:=by (try dsimp only); omega):p:=h
theorem oI {p:Prop} (h:p:=by first | assumption | exact Classical.not_not.1 ‹_›):p:=h
theorem oJ {p:Prop} (h:p:=by assumption):p:=h
theorem oK {p:Prop} (h:p:=by first | exact strip_yes ‹_› | exact strip_no ‹_›):p:=h
theorem oL {p:Prop} (h:p:=by first | omega | (simp only [List.length_append]; omega) | (dsimp only; omega) | (dsimp only; simp only [List.length_append]; omega)):p:=h
theorem oM {p:Prop} (h:p:=by first | (first | omega | rfl | (rw [csum_snoc (by omega)])) | (dsimp only; (first | omega | rfl | (rw [csum_snoc (by omega)])))):p:=h
theorem oN {p:Prop} (h:p:=by first | (first | rfl | omega | (rw [decV_next (by omega)])) | (dsimp only; (first | rfl | omega | (rw [decV_next (by omega)])))):p:=h
theorem oO {p:Prop} (h:p:=by first | omega | (dsimp only; simp only [List.length_drop]; omega) | (dsimp only; omega) | (simp only [List.length_cons,List.length_nil]; omega)):p:=h
theorem oP {p:Prop} (h:p:=by first | assumption | exact ⟨‹_›,‹_›⟩):p:=h
theorem oQ {p:Prop} (h:p:=by first | omega | (dsimp only; omega) | (simp only [List.length_cons,List.length_nil]; omega)):p:=h
theorem oR {p:Prop} (h:p:=by simp):p:=h
theorem oS {p:Prop} (h:p:=by simp only [Nat.min_def]; split <;> omega):p:=h
theorem oT {p:Prop} (h:p:=by first | omega | (simp only [List.length_append]; omega) | (dsimp only; omega) | exact app_fit (by omega) | decide):p:=h
theorem oU {p:Prop} (h:p:=by simp only [List.length_append,List.length_take,List.length_drop]; omega):p:=h
theorem oV {p:Prop} (h:p:=by first | omega | (simp only [List.length_append,List.length_set,List.length_take]; omega)):p:=h
theorem oW {p:Prop} (h:p:=by first | assumption | simp [*]):p:=h
theorem oX {p:Prop} (h:p:=by rfl):p:=h
theorem oY {p:Prop} (h:p:=by simpa using ‹_›):p:=h
theorem oZ {p:Prop} (h:p:=by dsimp only; omega):p:=h
theorem G {α : Sort u} {a : α} : a = a := Eq.refl a
end Go.Proofs.YtndcchndcghmoaaGreatDoor
namespace Go.Proofs.YtndcchndcghmoaaGreatDoor.Fw
open Go Go.RowKit
abbrev Env:=Nat→Value
def set (f:Env) (d:Nat) (v:Value):Env:=fun t=>cond (Nat.beq t d) v (f t)
def act (n:Nat) (f:Env):Act:={ tmps:=((List.range n).map f).toArray,defers:=[] }
def ev (n:Nat) (f:Env):Operand→Value
  | .tmp t=>cond (Nat.blt t n) (f t) undef
  | .const v=>v
  | .global g=>.pointer (some ⟨g,0,none⟩)
  | .func i=>.func (.func i) #[] #[]
def sets (f:Env):List (Nat × Value)→Env
  | []=>f
  | p :: r=>set (sets f r) p.1 p.2
theorem getD_act (n:Nat) (f:Env) (t:Nat):(act n f).tmps.getD t undef=cond (Nat.blt t n) (f t) undef:=by
  unfold act
  by_cases h:t<n
  · have:Nat.blt t n=true:=by simp [Nat.blt]; omega
    simp [this,h]
  · have:Nat.blt t n=false:=by
      cases hb:Nat.blt t n
      · rfl
      · simp [Nat.blt] at hb; omega
    simp [this,h]
theorem eval_act (n:Nat) (f:Env):(act n f).eval=ev n f:=by
  funext x
  cases x with
  | tmp t=>exact getD_act n f t
  | _=>rfl
theorem put_act (n:Nat) (f:Env) (d:Nat) (v:Value):(act n f).put (some d) v=act n (set f d v):=by
  unfold Act.put act
  simp only [Act.mk.injEq,and_true]
  apply Array.ext_getElem?
  intro i
  by_cases hi:i<n
  · by_cases hd:i=d
    · subst hd; simp [hi,set]
    · have hb:Nat.beq i d=false:=by
        cases h:Nat.beq i d
        · rfl
        · exact absurd (Nat.eq_of_beq_eq_true h) hd
      simp [hi,set,hb,Ne.symm hd]
  · simp [hi]
theorem put_none (n:Nat) (f:Env) (v:Value):(act n f).put none v=act n f:=rfl
theorem set_self (f:Env) (d:Nat) (v:Value) (h:f d=v):set f d v=f:=by
  funext t
  unfold set
  cases hb:Nat.beq t d
  · rfl
  · have:t=d:=by simpa using hb
    subst this; exact h.symm
def At (f:Env):List (Nat × Value)→Prop
  | []=>True
  | p :: r=>f p.1=p.2∧At f r
theorem sets_of_at {f:Env}:∀ {l:List (Nat × Value)},At f l→sets f l=f
  | [],_=>rfl
  | p :: r,h=>by
    show set (sets f r) p.1 p.2=f
    rw [sets_of_at h.2]; exact set_self f p.1 p.2 h.1
def ini (l:List Value):Env:=fun t=>l.getD t undef
theorem ini_act (n:Nat) (l:List Value) (h:l.length≤n):{ tmps:=l.toArray++Array.replicate (n-l.length) undef,defers:=[] }=act n (ini l):=by
  unfold act ini
  simp only [Act.mk.injEq,and_true]
  apply Array.ext_getElem?
  intro i
  by_cases hi:i<n
  · simp only [List.getElem?_toArray,List.getElem?_map,List.getElem?_range hi,Option.map_some]
    by_cases hl:i<l.length
    · rw [Array.getElem?_append_left (by simpa using hl)]; simp [hl]
    · rw [Array.getElem?_append_right (by simpa using hl),Array.getElem?_replicate,if_pos (by simp; omega)]
      simp [hl]
  · rw [Array.getElem?_eq_none (by simp; omega)]
    simp [hi]
def mk (N R:Act→World→Prop) (X:Nat→Act→World→Prop):Exit→Act→World→Prop
  | .normal,a,w=>N a w
  | .ret,a,w=>R a w
  | .exit i,a,w=>X i a w
  | _,_,_=>False
def W (P:Program) (c:Code) (N R:Act→World→Prop) (X:Nat→Act→World→Prop) (a:Act) (w:World):Prop:=c.wp P (mk N R X) a w
theorem W_def {P:Program} {c:Code} {N R:Act→World→Prop} {X:Nat→Act→World→Prop} {a:Act} {w:World}:W P c N R X a w=c.wp P (mk N R X) a w:=rfl
def xin (id:Nat) (N:Act→World→Prop) (X:Nat→Act→World→Prop):Nat→Act→World→Prop:=fun i=>cond (Nat.beq i id) N (X i)
def xno:Nat→Act→World→Prop:=fun _ _ _=>False
section
variable {P : Program} {N R : Act → World → Prop} {X : Nat → Act → World → Prop} {a : Act} {w : World}
theorem W.seq {x y:Code} (h:W P x (fun a w=>W P y N R X a w) R X a w):W P (.seq x y) N R X a w :=
  wp_seq (wp_mono h fun e a w q=>by cases e <;> first | exact q | exact q.elim)
theorem W.skip (h:N a w):W P .skip N R X a w:=wp_skip h
theorem W.ret (h:R a w):W P .ret N R X a w:=wp_ret h
theorem W.exit {id:Nat} (h:X id a w):W P (.exit id) N R X a w:=wp_exit h
theorem xin_here {id:Nat} (h:N a w):xin id N X id a w:=by
  unfold xin; rw [show Nat.beq id id=true from by simp]; exact h
theorem xin_out {id i:Nat} (hne:Nat.beq i id=false) (h:X i a w):xin id N X i a w:=by
  unfold xin; rw [hne]; exact h
theorem W.block {id:Nat} {c:Code} (h:W P c N R (xin id N X) a w):W P (.block id c) N R X a w :=
  wp_block (wp_mono h fun e a w q=>by
    cases e with
    | exit i =>
      simp only [mk,xin] at q
      simp only [Exit.inBlock,mk]
      cases hb:Nat.beq i id
      · rw [hb] at q
        have:¬i=id:=by intro e; subst e; simp at hb
        rw [if_neg this]; exact q
      · rw [hb] at q
        have:i=id:=by simpa using hb
        rw [if_pos this]; exact q
    | _=>first | exact q | exact q.elim)
theorem W.mono {c:Code} {N' R':Act→World→Prop} {X':Nat→Act→World→Prop} (h:W P c N R X a w) (hN:∀ a w,N a w→N' a w) (hR:∀ a w,R a w→R' a w) (hX:∀ i a w,X i a w→X' i a w):W P c N' R' X' a w :=
  wp_mono h fun e a w q=>by cases e <;> first | exact hN _ _ q | exact hR _ _ q | exact hX _ _ _ q | exact q.elim
end
section
variable {P : Program} {n : Nat} {f : Env} {N R : Act → World → Prop} {X : Nat → Act → World → Prop} {w : World}
theorem W.cond_t {c:Operand} {x y:Code} (hc:ev n f c=.bool true) (h:W P x N R X (act n f) w):W P (.cond c x y) N R X (act n f) w :=
  wp_cond_true (by rw [eval_act]; exact hc) h
theorem W.cond_f {c:Operand} {x y:Code} (hc:ev n f c=.bool false) (h:W P y N R X (act n f) w):W P (.cond c x y) N R X (act n f) w :=
  wp_cond_false (by rw [eval_act]; exact hc) h
theorem W.cond_b {c:Operand} {x y:Code} {t:Bool} (hc:ev n f c=.bool t) (ht:t=true→W P x N R X (act n f) w) (hf:t=false→W P y N R X (act n f) w):W P (.cond c x y) N R X (act n f) w :=
  wp_cond_split (by rw [eval_act]; exact hc) ht hf
theorem W.cond_d {c:Operand} {x y:Code} {p:Prop} [Decidable p] (hc:ev n f c=.bool (decide p)) (ht:p→W P x N R X (act n f) w) (hf:¬p→W P y N R X (act n f) w):W P (.cond c x y) N R X (act n f) w :=
  W.cond_b hc (fun h=>ht (of_decide_eq_true h)) (fun h=>hf (of_decide_eq_false h))
theorem W.cond_n {c:Operand} {x y:Code} {p:Prop} [Decidable p] (hc:ev n f c=.bool (!decide p)) (ht:¬p→W P x N R X (act n f) w) (hf:p→W P y N R X (act n f) w):W P (.cond c x y) N R X (act n f) w :=
  W.cond_b hc (fun h=>ht (of_decide_eq_false (by simpa using h))) (fun h=>hf (of_decide_eq_true (by simpa using h)))
theorem W.loop {σ:Type} {c:Code} (V:σ→List (Nat × Value)) (Φ:σ→World→Prop) (μ:σ→Nat) (g₀:σ) (h0:At f (V g₀)) (hΦ:Φ g₀ w)
    (round:∀ g f w,Φ g w→W P c (fun a' w'=>∃ g' f',a'=act n f'∧At f' (V g')∧Φ g' w'∧μ g'<μ g) R X (act n (sets f (V g))) w):W P (.loop c) N R X (act n f) w:=by
  refine wp_loop_ghost (fun k a w=>∃ g f,μ g=k∧a=act n f∧At f (V g)∧Φ g w) (μ g₀) ⟨g₀,f,rfl,rfl,h0,hΦ⟩ ?_
  rintro k a w ⟨g,f,rfl,rfl,hat,hp⟩
  have hr:=round g f w hp
  rw [sets_of_at hat] at hr
  refine wp_mono hr ?_
  intro e a' w' q
  cases e with
  | normal =>
    obtain ⟨g',f',ha,hat',hp',hlt⟩:=q
    exact ⟨μ g',hlt,g',f',rfl,ha,hat',hp'⟩
  | _=>first | exact q | exact q.elim
end
theorem calls_W {P:Program} {k:FuncId} {fn:Func} {c:Code} {l:List Value} {w:World} {R:Ending→World→Prop} (m:Nat)
    (hf:P.funcs[k]?=some fn) (hb:fn.body=some c) (hm:fn.ntmps=m) (hn:Nat.ble l.length m=true)
    (h:W P c (fun a w=>bodyPost P fn R .normal a w) (fun a w=>bodyPost P fn R .ret a w) xno (act m (ini l)) w):Calls P k l.toArray w R:=by
  subst hm
  refine calls_of_wp hf hb ?_
  have e:=ini_act fn.ntmps l (Nat.le_of_ble_eq_true hn)
  simp only [List.size_toArray] at e ⊢
  rw [e]
  exact wp_mono h fun e a w q=>by cases e <;> first | exact q | exact q.elim
section
variable {P : Program} {fn : Func} {n : Nat} {f : Env} {w : World} {R : Ending → World → Prop}
theorem ret1 {t:Nat} {v:Value} (hr:fn.results=#[.tmp t]) (hv:ev n f (.tmp t)=v) (h:R (.returned v) w):bodyPost P fn R .ret (act n f) w :=
  bodyPost_ret (v:=v) (by rw [results_tmp hr,getD_act]; exact congrArg (fun x=>Result.ok x w) hv) rfl h
theorem ret2 {t u:Nat} {v v':Value} (hr:fn.results=#[.tmp t,.tmp u]) (hv:ev n f (.tmp t)=v) (hv':ev n f (.tmp u)=v') (h:R (.returned (.tuple #[v,v'])) w):bodyPost P fn R .ret (act n f) w :=
  bodyPost_ret (v:=.tuple #[v,v']) (by rw [results_tmp2 hr,getD_act,getD_act]; exact congrArg (fun x=>Result.ok x w) (by rw [← hv,← hv']; rfl)) rfl h
end
attribute [irreducible] W
end Go.Proofs.YtndcchndcghmoaaGreatDoor.Fw
namespace Go.Proofs.YtndcchndcghmoaaGreatDoor.Fw
open Go Go.RowKit
theorem blt_t {d n:Nat} (h:d<n):Nat.blt d n=true:=by unfold Nat.blt; exact Nat.ble_eq_true_of_le h
theorem blt_f {d n:Nat} (h:¬d<n):Nat.blt d n=false:=by
  cases hb:Nat.blt d n
  · rfl
  · exact absurd (Nat.le_of_ble_eq_true hb) h
def Run (P:Program) (o:Oper) (n:Nat) (f:Env) (w:World) (v:Value):Prop:=(execOp (ev n f) o).run P w=.ok (.value v) w
def SR (P:Program) (ops:Array Oper) (N R:Act→World→Prop) (X:Nat→Act→World→Prop) (n:Nat) (l:List Oper) (f:Env) (w:World):Prop:=wpList P ops (mk N R X) l (act n f) w
def QR (P:Program) (ops:Array Oper) (C:World→Prop) (n:Nat) (K:Env→Prop) (l:List Oper) (f:Env):Prop:=wpQuiet P ops C (fun a=>∃ f',a=act n f'∧K f') l (act n f)
def Ent (P:Program) (k:FuncId):Prop:=∀ args w,(callFunc k args).run P w=.ok (.enter k args) w
structure Kp (S:Nat→Prop) (w w':World):Prop where
  os:w'.os=w.os
  tape:w'.tape=w.tape
  output:w'.output=w.output
  size:w.heap.size≤w'.heap.size
  block:∀ k,k<w.heap.size→¬S k→w'.heap[k]?=w.heap[k]?
def no:Nat→Prop:=fun _=>False
def Lo (w w':World):Prop:=Kp no w w'
section
variable {P : Program} {ops : Array Oper} {N R : Act → World → Prop} {X : Nat → Act → World → Prop} {n : Nat} {o : Oper} {rest : List Oper} {f : Env} {w : World} {v : Value} {C : World → Prop} {K : Env → Prop}
theorem ent_of {k : FuncId} {fn : Func} (hf : P.funcs[k]? = some fn) (hn : (fn.name == "runtime.NumGoroutine") = false) (hb : fn.body.isNone = false) : Ent P k := by
  intro args w
  have hn' : ¬ fn.name = "runtime.NumGoroutine" := by simpa using hn
  have hb':¬fn.body=none:=by intro e; rw [e] at hb; simp at hb
  simp [callFunc,program,Sem.run,hf,hn',hb']
theorem SR.nil (h:N (act n f) w):SR P ops N R X n [] f w:=h
theorem SR.q {d:Nat} (hr:Run P o n f w v) (hg:o.guard=none) (hd:o.dst=some d) (k:SR P ops N R X n rest (set f d v) w):SR P ops N R X n (o :: rest) f w:=by
  unfold SR at *
  refine wpList_plain hg fun K hK=>?_
  unfold Oper.wp
  rw [eval_act,hr]
  simp only [Oper.upon,hd,put_act]
  exact hK _ _ k
theorem SR.run {v:Value} {w':World} {d:Nat} (hr:(execOp (ev n f) o).run P w=.ok (.value v) w') (hg:o.guard=none) (hd:o.dst=some d) (k:SR P ops N R X n rest (set f d v) w'):SR P ops N R X n (o :: rest) f w:=by
  unfold SR at *
  refine wpList_plain hg fun K hK=>?_
  unfold Oper.wp
  rw [eval_act,hr]
  simp only [Oper.upon,hd,put_act]
  exact hK _ _ k
theorem SR.run_skip {w':World} (hr:(execOp (ev n f) o).run P w=.ok .skip w') (hg:o.guard=none) (hd:o.dst=none) (k:SR P ops N R X n rest f w'):SR P ops N R X n (o :: rest) f w:=by
  unfold SR at *
  refine wpList_plain hg fun K hK=>?_
  unfold Oper.wp
  rw [eval_act,hr]
  simp only [Oper.upon,hd,put_none]
  exact hK _ _ k
theorem SR.run_none {v:Value} {w':World} (hr:(execOp (ev n f) o).run P w=.ok (.value v) w') (hg:o.guard=none) (hd:o.dst=none) (k:SR P ops N R X n rest f w'):SR P ops N R X n (o :: rest) f w:=by
  unfold SR at *
  refine wpList_plain hg fun K hK=>?_
  unfold Oper.wp
  rw [eval_act,hr]
  simp only [Oper.upon,hd,put_none]
  exact hK _ _ k
theorem run_call {k:FuncId} {l:List Operand} {ts:Array TypeId} {t:TypeId} {p:String} {d:Option Tmp} {af:Array Edge} {g:Option (Nat × Bool)} {vs:List Value} (he:Ent P k) (ha:l.map (ev n f)=vs) :
    (execOp (ev n f) ⟨d,.call ⟨.value (.func k),l.toArray,ts⟩,t,p,af,g⟩).run P w=.ok (.enter k vs.toArray) w:=by
  subst ha
  simp [execOp,resolve,ev,Deferred.ofValue,invoke,he _ w]
theorem run_callv {k:FuncId} {x:Operand} {cap:List Value} {l:List Operand} {ts:Array TypeId} {t:TypeId} {p:String} {d:Option Tmp} {af:Array Edge} {g:Option (Nat × Bool)} {vs:List Value} (he:Ent P k) (hx:ev n f x=.func (.func k) #[] cap.toArray) (ha:l.map (ev n f)++cap=vs) :
    (execOp (ev n f) ⟨d,.call ⟨.value x,l.toArray,ts⟩,t,p,af,g⟩).run P w=.ok (.enter k vs.toArray) w:=by
  subst ha
  simp [execOp,resolve,hx,Deferred.ofValue,invoke,he _ w]
theorem SR.enter {k:FuncId} {d:Nat} {vs:List Value} {Rr:Ending→World→Prop} (hr:(execOp (ev n f) o).run P w=.ok (.enter k vs.toArray) w) (hg:o.guard=none) (hd:o.dst=some d)
    (hc:Calls P k vs.toArray w Rr) (h:∀ e w',Rr e w'→∃ v,e=.returned v∧SR P ops N R X n rest (set f d v) w'):SR P ops N R X n (o :: rest) f w:=by
  unfold SR at *
  refine wpList_plain hg fun K hK=>?_
  unfold Oper.wp
  rw [eval_act,hr]
  refine hc.mono fun e w' he=>?_
  obtain ⟨v,rfl,hs⟩:=h e w' he
  simp only [hd,put_act]
  exact hK _ _ hs
theorem SR.call {k:FuncId} {l:List Operand} {ts:Array TypeId} {t:TypeId} {p:String} {d:Nat} {af:Array Edge} {vs:List Value} {Rr:Ending→World→Prop} (he:Ent P k)
    (hc:Calls P k vs.toArray w Rr) (ha:l.map (ev n f)=vs) (h:∀ e w',Rr e w'→∃ v,e=.returned v∧SR P ops N R X n rest (set f d v) w') :
    SR P ops N R X n (⟨some d,.call ⟨.value (.func k),l.toArray,ts⟩,t,p,af,none⟩ :: rest) f w:=SR.enter (run_call he ha) rfl rfl hc h
def yn (ops:List Oper) (f:Env) (n:Nat) (j:Nat):Option Bool :=
  match ops[j]? with
  | some o=>match o.dst with
    | some d=>match ev n f (.tmp d) with
      | .bool b=>some b
      | _=>none
    | none=>none
  | none=>none
theorem yielded_act (l:List Oper) (j:Nat):yielded l.toArray (act n f).tmps j=yn l f n j:=by
  unfold yielded yn
  simp only [List.getElem?_toArray]
  cases hl:l[j]? with
  | none=>simp
  | some o =>
    simp only [Option.bind_some]
    cases hd:o.dst with
    | none=>simp
    | some d =>
      simp only [Option.bind_some]
      have e:=getD_act n f d
      show _=_
      simp only [ev] at *
      cases h:Nat.blt d n
      · simp only [h,cond_false] at e ⊢
        have hs:¬d<n:=by intro hlt; rw [blt_t hlt] at h; cases h
        rw [Array.getElem?_eq_none (by simp [act]; exact Nat.le_of_not_lt hs)]
        simp [undef]
      · simp only [h,cond_true] at e ⊢
        have hs:d<n:=by
          rcases Nat.lt_or_ge d n with h' | h'
          · exact h'
          · rw [blt_f oB] at h; cases h
        have hg:(act n f).tmps[d]?=some (f d):=by simp [act,hs]
        rw [hg]
        cases f d <;> rfl
theorem QR.nil (h:K f):QR P ops C n K [] f:=⟨f,rfl,h⟩
theorem quiet_q (hr:∀ w',C w'→Run P o n f w' v) {Kk:Act→Prop} {d:Nat} (hd:o.dst=some d) (h:Kk (act n (set f d v))):o.quiet P (act n f) C Kk:=by
  refine ⟨v,fun w' hw'=>?_,by rw [hd,put_act]; exact h⟩
  unfold Oper.quietAt
  rw [eval_act,hr w' hw']
  exact ⟨rfl,rfl⟩
theorem quiet_c {k:FuncId} {vs:List Value} (hr:∀ w',C w'→(execOp (ev n f) o).run P w'=.ok (.enter k vs.toArray) w') (hc:∀ w',C w'→Calls P k vs.toArray w' fun e w''=>e=.returned v∧C w'') {Kk:Act→Prop} {d:Nat} (hd:o.dst=some d) (h:Kk (act n (set f d v))):o.quiet P (act n f) C Kk:=by
  refine ⟨v,fun w' hw'=>?_,by rw [hd,put_act]; exact h⟩
  unfold Oper.quietAt
  rw [eval_act,hr w' hw']
  exact ⟨rfl,hc w' hw'⟩
theorem QR.q {d:Nat} (hr:∀ w',C w'→Run P o n f w' v) (hg:o.guard=none) (hd:o.dst=some d) (k:QR P ops C n K rest (set f d v)):QR P ops C n K (o :: rest) f:=by
  unfold QR wpQuiet
  rw [if_pos (by simp [Region.wanted,hg])]
  exact quiet_q hr hd k
theorem QR.call {k:FuncId} {l:List Operand} {ts:Array TypeId} {t:TypeId} {p:String} {d:Nat} {af:Array Edge} {vs:List Value} (he:Ent P k)
    (hc:∀ w',C w'→Calls P k vs.toArray w' fun e w''=>e=.returned v∧C w'') (ha:l.map (ev n f)=vs) (h:QR P ops C n K rest (set f d v)) :
    QR P ops C n K (⟨some d,.call ⟨.value (.func k),l.toArray,ts⟩,t,p,af,none⟩ :: rest) f:=by
  unfold QR wpQuiet
  rw [if_pos (by simp [Region.wanted])]
  exact quiet_c (fun w' _=>run_call he ha) hc rfl h
theorem QR.callv {k:FuncId} {x:Operand} {cap:List Value} {l:List Operand} {ts:Array TypeId} {t:TypeId} {p:String} {d:Nat} {af:Array Edge} {vs:List Value} (he:Ent P k) (hx:ev n f x=.func (.func k) #[] cap.toArray)
    (hc:∀ w',C w'→Calls P k vs.toArray w' fun e w''=>e=.returned v∧C w'') (ha:l.map (ev n f)++cap=vs) (h:QR P ops C n K rest (set f d v)) :
    QR P ops C n K (⟨some d,.call ⟨.value x,l.toArray,ts⟩,t,p,af,none⟩ :: rest) f:=by
  unfold QR wpQuiet
  rw [if_pos (by simp [Region.wanted])]
  exact quiet_c (fun w' _=>run_callv he hx ha) hc rfl h
section
variable {l : List Oper}
theorem QR.gq {d j:Nat} {b:Bool} (hg:o.guard=some (j,b)) (hy:yn l f n j=some b) (hr:∀ w',C w'→Run P o n f w' v) (hd:o.dst=some d) (k:QR P l.toArray C n K rest (set f d v)):QR P l.toArray C n K (o :: rest) f:=by
  unfold QR wpQuiet
  rw [if_pos (by simp [Region.wanted,hg,yielded_act,hy])]
  exact quiet_q hr hd k
theorem QR.gcall {k:FuncId} {la:List Operand} {ts:Array TypeId} {t:TypeId} {p:String} {d j:Nat} {b:Bool} {af:Array Edge} {vs:List Value} (hy:yn l f n j=some b) (he:Ent P k)
    (hc:∀ w',C w'→Calls P k vs.toArray w' fun e w''=>e=.returned v∧C w'') (ha:la.map (ev n f)=vs) (h:QR P l.toArray C n K rest (set f d v)) :
    QR P l.toArray C n K (⟨some d,.call ⟨.value (.func k),la.toArray,ts⟩,t,p,af,some (j,b)⟩ :: rest) f:=by
  unfold QR wpQuiet
  rw [if_pos (by simp [Region.wanted,yielded_act,hy])]
  exact quiet_c (fun w' _=>run_call he ha) hc rfl h
theorem QR.gcallv {k:FuncId} {x:Operand} {cap:List Value} {la:List Operand} {ts:Array TypeId} {t:TypeId} {p:String} {d j:Nat} {b:Bool} {af:Array Edge} {vs:List Value} (hy:yn l f n j=some b) (he:Ent P k) (hx:ev n f x=.func (.func k) #[] cap.toArray)
    (hc:∀ w',C w'→Calls P k vs.toArray w' fun e w''=>e=.returned v∧C w'') (ha:la.map (ev n f)++cap=vs) (h:QR P l.toArray C n K rest (set f d v)) :
    QR P l.toArray C n K (⟨some d,.call ⟨.value x,la.toArray,ts⟩,t,p,af,some (j,b)⟩ :: rest) f:=by
  unfold QR wpQuiet
  rw [if_pos (by simp [Region.wanted,yielded_act,hy])]
  exact quiet_c (fun w' _=>run_callv he hx ha) hc rfl h
theorem QR.gs {d j:Nat} {b c:Bool} (hg:o.guard=some (j,b)) (hy:yn l f n j=some c) (hne:(c == b)=false) (hd:o.dst=some d) (k:QR P l.toArray C n K rest (set f d undef)):QR P l.toArray C n K (o :: rest) f:=by
  unfold QR wpQuiet
  rw [if_neg (by
    simp only [Region.wanted,hg,yielded_act,hy]
    intro h
    have h':c=b:=by simpa using h
    rw [h'] at hne; simp at hne),hd,put_act]
  exact k
theorem QR.gu {d j:Nat} {b:Bool} (hg:o.guard=some (j,b)) (hy:yn l f n j=none) (hd:o.dst=some d) (k:QR P l.toArray C n K rest (set f d undef)):QR P l.toArray C n K (o :: rest) f:=by
  unfold QR wpQuiet
  rw [if_neg (by simp [Region.wanted,hg,yielded_act,hy]),hd,put_act]
  exact k
theorem SR.gu {d j:Nat} {b:Bool} (hg:o.guard=some (j,b)) (hy:yn l f n j=none) (hd:o.dst=some d) (k:SR P l.toArray N R X n rest (set f d undef) w):SR P l.toArray N R X n (o :: rest) f w:=by
  unfold SR at *
  refine wpList_step fun K hK=>?_
  rw [if_neg (by simp [Region.wanted,hg,yielded_act,hy]),hd,put_act]
  exact hK _ _ k
theorem SR.g {d j:Nat} {b:Bool} (hg:o.guard=some (j,b)) (hy:yn l f n j=some b) (hr:Run P o n f w v) (hd:o.dst=some d) (k:SR P l.toArray N R X n rest (set f d v) w):SR P l.toArray N R X n (o :: rest) f w:=by
  unfold SR at *
  refine wpList_step fun K hK=>?_
  rw [if_pos (by simp [Region.wanted,hg,yielded_act,hy])]
  unfold Oper.wp
  rw [eval_act,hr]
  simp only [Oper.upon,hd,put_act]
  exact hK _ _ k
theorem SR.genter {k:FuncId} {d j:Nat} {b:Bool} {vs:List Value} {Rr:Ending→World→Prop} (hr:(execOp (ev n f) o).run P w=.ok (.enter k vs.toArray) w) (hg:o.guard=some (j,b)) (hy:yn l f n j=some b) (hd:o.dst=some d)
    (hc:Calls P k vs.toArray w Rr) (h:∀ e w',Rr e w'→∃ v,e=.returned v∧SR P l.toArray N R X n rest (set f d v) w'):SR P l.toArray N R X n (o :: rest) f w:=by
  unfold SR at *
  refine wpList_step fun K hK=>?_
  rw [if_pos (by simp [Region.wanted,hg,yielded_act,hy])]
  unfold Oper.wp
  rw [eval_act,hr]
  refine hc.mono fun e w' he=>?_
  obtain ⟨v,rfl,hs⟩:=h e w' he
  simp only [hd,put_act]
  exact hK _ _ hs
theorem SR.gcall {k:FuncId} {la:List Operand} {ts:Array TypeId} {t:TypeId} {p:String} {d j:Nat} {b:Bool} {af:Array Edge} {vs:List Value} {Rr:Ending→World→Prop} (hy:yn l f n j=some b) (he:Ent P k)
    (hc:Calls P k vs.toArray w Rr) (ha:la.map (ev n f)=vs) (h:∀ e w',Rr e w'→∃ v,e=.returned v∧SR P l.toArray N R X n rest (set f d v) w') :
    SR P l.toArray N R X n (⟨some d,.call ⟨.value (.func k),la.toArray,ts⟩,t,p,af,some (j,b)⟩ :: rest) f w:=SR.genter (run_call he ha) rfl hy rfl hc h
theorem SR.gs {d j:Nat} {b c:Bool} (hg:o.guard=some (j,b)) (hy:yn l f n j=some c) (hne:(c == b)=false) (hd:o.dst=some d) (k:SR P l.toArray N R X n rest (set f d undef) w):SR P l.toArray N R X n (o :: rest) f w:=by
  unfold SR at *
  refine wpList_step fun K hK=>?_
  rw [if_neg (by
    simp only [Region.wanted,hg,yielded_act,hy]
    intro h
    have h':c=b:=by simpa using h
    rw [h'] at hne; simp at hne),hd,put_act]
  exact hK _ _ k
end
theorem QR.split {d:Nat} {b:Bool} (ht:b=true→QR P ops C n K rest (set f d (.bool true))) (hf:b=false→QR P ops C n K rest (set f d (.bool false))):QR P ops C n K rest (set f d (.bool b)):=by
  cases b
  · exact hf rfl
  · exact ht rfl
theorem QR.splitD {d:Nat} {q:Prop} [Decidable q] (ht:q→QR P ops C n K rest (set f d (.bool true))) (hf:¬q→QR P ops C n K rest (set f d (.bool false))):QR P ops C n K rest (set f d (.bool (decide q))) :=
  QR.split (fun h=>ht (of_decide_eq_true h)) (fun h=>hf (of_decide_eq_false h))
theorem QR.splitN {d:Nat} {q:Prop} [Decidable q] (ht:¬q→QR P ops C n K rest (set f d (.bool true))) (hf:q→QR P ops C n K rest (set f d (.bool false))):QR P ops C n K rest (set f d (.bool (!decide q))) :=
  QR.split (fun h=>ht (of_decide_eq_false (by simpa using h))) (fun h=>hf (of_decide_eq_true (by simpa using h)))
theorem SR.split {d:Nat} {b:Bool} (ht:b=true→SR P ops N R X n rest (set f d (.bool true)) w) (hf:b=false→SR P ops N R X n rest (set f d (.bool false)) w):SR P ops N R X n rest (set f d (.bool b)) w:=by
  cases b
  · exact hf rfl
  · exact ht rfl
theorem SR.splitD {d:Nat} {q:Prop} [Decidable q] (ht:q→SR P ops N R X n rest (set f d (.bool true)) w) (hf:¬q→SR P ops N R X n rest (set f d (.bool false)) w):SR P ops N R X n rest (set f d (.bool (decide q))) w :=
  SR.split (fun h=>ht (of_decide_eq_true h)) (fun h=>hf (of_decide_eq_false h))
theorem SR.splitN {d:Nat} {q:Prop} [Decidable q] (ht:¬q→SR P ops N R X n rest (set f d (.bool true)) w) (hf:q→SR P ops N R X n rest (set f d (.bool false)) w):SR P ops N R X n rest (set f d (.bool (!decide q))) w :=
  SR.split (fun h=>ht (of_decide_eq_false (by simpa using h))) (fun h=>hf (of_decide_eq_true (by simpa using h)))
section
variable {l : List Oper} {op : Op} {t : TypeId} {p : String} {af : Array Edge} {d j : Nat} {b : Bool}
theorem SR.q' (hr:Run P ⟨some d,op,t,p,af,none⟩ n f w v) (k:SR P ops N R X n rest (set f d v) w):SR P ops N R X n (⟨some d,op,t,p,af,none⟩ :: rest) f w:=SR.q hr rfl rfl k
theorem QR.q' (hr:∀ w',C w'→Run P ⟨some d,op,t,p,af,none⟩ n f w' v) (k:QR P ops C n K rest (set f d v)):QR P ops C n K (⟨some d,op,t,p,af,none⟩ :: rest) f:=QR.q hr rfl rfl k
theorem SR.g' (hy:yn l f n j=some b) (hr:Run P ⟨some d,op,t,p,af,some (j,b)⟩ n f w v) (k:SR P l.toArray N R X n rest (set f d v) w):SR P l.toArray N R X n (⟨some d,op,t,p,af,some (j,b)⟩ :: rest) f w:=SR.g rfl hy hr rfl k
theorem QR.g' (hy:yn l f n j=some b) (hr:∀ w',C w'→Run P ⟨some d,op,t,p,af,some (j,b)⟩ n f w' v) (k:QR P l.toArray C n K rest (set f d v)):QR P l.toArray C n K (⟨some d,op,t,p,af,some (j,b)⟩ :: rest) f:=QR.gq rfl hy hr rfl k
theorem SR.s' (hy:yn l f n j=some (!b)) (k:SR P l.toArray N R X n rest (set f d undef) w):SR P l.toArray N R X n (⟨some d,op,t,p,af,some (j,b)⟩ :: rest) f w:=SR.gs rfl hy (by cases b <;> rfl) rfl k
theorem QR.s' (hy:yn l f n j=some (!b)) (k:QR P l.toArray C n K rest (set f d undef)):QR P l.toArray C n K (⟨some d,op,t,p,af,some (j,b)⟩ :: rest) f:=QR.gs rfl hy (by cases b <;> rfl) rfl k
theorem SR.u' (hy:yn l f n j=none) (k:SR P l.toArray N R X n rest (set f d undef) w):SR P l.toArray N R X n (⟨some d,op,t,p,af,some (j,b)⟩ :: rest) f w:=SR.gu rfl hy rfl k
theorem QR.u' (hy:yn l f n j=none) (k:QR P l.toArray C n K rest (set f d undef)):QR P l.toArray C n K (⟨some d,op,t,p,af,some (j,b)⟩ :: rest) f:=QR.gu rfl hy rfl k
end
theorem W.regS {id:Nat} {l:List Oper} (h:SR P l.toArray N R X n l f w):W P (.region id l.toArray false) N R X (act n f) w:=by
  rw [W_def]; exact wp_region_lit h
theorem Kp.refl {S:Nat→Prop} (w:World):Kp S w w:=⟨rfl,rfl,rfl,Nat.le_refl _,fun _ _ _=>rfl⟩
theorem Kp.trans {S:Nat→Prop} {a b c:World} (h:Kp S a b) (k:Kp S b c):Kp S a c :=
  ⟨k.os.trans h.os,k.tape.trans h.tape,k.output.trans h.output,Nat.le_trans h.size k.size,fun i hi hs=>(k.block i (Nat.lt_of_lt_of_le hi h.size) hs).trans (h.block i hi hs)⟩
theorem Kp.step {S T:Nat→Prop} {a b c:World} (h:Kp S a b) (k:Kp T b c) (hT:∀ i,i<a.heap.size→T i→S i):Kp S a c :=
  ⟨k.os.trans h.os,k.tape.trans h.tape,k.output.trans h.output,Nat.le_trans h.size k.size,fun i hi hs=>(k.block i (Nat.lt_of_lt_of_le hi h.size) (fun ht=>hs (hT i hi ht))).trans (h.block i hi hs)⟩
theorem Kp.lo {S:Nat→Prop} {a b c:World} (h:Kp S a b) (k:Lo b c):Kp S a c:=h.step k fun _ _ f=>f.elim
theorem Kp.new {S:Nat→Prop} {g:Nat} {a b c:World} (h:Kp S a b) (k:Kp (·=g) b c) (hg:a.heap.size≤g:=by omega):Kp S a c:=h.step k fun i hi e=>absurd hi (by have e':i=g:=e; omega)
theorem Kp.sub {S T:Nat→Prop} {a b:World} (h:Kp S a b) (hT:∀ i,S i→T i):Kp T a b:=⟨h.os,h.tape,h.output,h.size,fun i hi hs=>h.block i hi fun x=>hs (hT i x)⟩
theorem Kp.below {a b:World} (h:Lo a b):Below a.heap.size a b:=⟨h.os,h.tape,h.output,h.size,fun k hk=>h.block k hk id⟩
theorem lo_of {a b:World} (h:Below a.heap.size a b):Lo a b:=⟨h.os,h.tape,h.output,h.size,fun k hk _=>h.block k hk⟩
theorem kp_of {a b:World} {r:Option Nat} (h:a.grownBy b r):Kp (fun k=>r=some k) a b:=⟨h.os,h.tape,h.output,h.size,fun k hk hn=>h.block k hk fun e=>hn e.symm⟩
theorem Lo.refl (w:World):Lo w w:=Kp.refl w
theorem Lo.trans {a b c:World} (h:Lo a b) (k:Lo b c):Lo a c:=Kp.trans h k
theorem Lo.drew (w:World):Lo w { w with drawn:=w.drawn+1 }:=⟨rfl,rfl,rfl,Nat.le_refl _,fun _ _ _=>rfl⟩
theorem Lo.alloc (w:World) (o:Obj):Lo w (w.alloc o):=⟨rfl,rfl,rfl,by simp,fun k hk _=>Below.heap_alloc _ _ _ hk⟩
theorem wpQuiet_mono' {Q Q':Act→Prop} (hq:∀ a,Q a→Q' a):∀ {l:List Oper} {a:Act},wpQuiet P ops C Q l a→wpQuiet P ops C Q' l a
  | [],a,h=>hq a h
  | o :: r,a,h=>by
    unfold wpQuiet at h ⊢
    split
    · rename_i hw
      rw [if_pos hw] at h
      exact Oper.quiet_mono (fun a h=>wpQuiet_mono' hq h) h
    · rename_i hw
      rw [if_neg hw] at h
      exact wpQuiet_mono' hq h
theorem W.regD {id:Nat} {l:List Oper} (hm:P.follows .mixedOrders=true) (hB:Region.lexB .any l.toArray=true)
    (h:QR P l.toArray (Lo w) n (fun f'=>∀ w',Lo w w'→N (act n f') w') l f):W P (.region id l.toArray true) N R X (act n f) w:=by
  rw [W_def]
  refine wp_region_quiet (C:=Lo w) hm hB (Lo.drew w) ?_
  refine wpQuiet_mono' ?_ h
  rintro a ⟨f',rfl,h⟩ w' hw'
  exact h w' hw'
end
attribute [irreducible] SR QR Run
end Go.Proofs.YtndcchndcghmoaaGreatDoor.Fw
namespace Go.Proofs.YtndcchndcghmoaaGreatDoor.Fw
open Go Go.RowKit
section
variable {P : Program} {n : Nat} {f : Env} {w : World} {v : Value} {d : Option Tmp} {t : TypeId} {p : String} {af : Array Edge} {g : Option (Nat × Bool)} {x y : Operand} {tx ty : TypeId} {a b : Int} {s r : List UInt8} {k : IntKind} {ps qs : Bool}
theorem wrap64_in {n:Int} (h:-9223372036854775808≤n∧n≤9223372036854775807):IntKind.i64.wrap n=n:=IntWalk.i64_in n h
theorem r_mv (hx:ev n f x=v):Run P ⟨d,.move x,t,p,af,g⟩ n f w v:=by subst hx; unfold Run; rfl
theorem r_as (hx:ev n f x=v):Run P ⟨d,.assign x,t,p,af,g⟩ n f w v:=by subst hx; unfold Run; rfl
theorem r_pick {c z z':Operand} (q:Bool) (hc:ev n f c=.bool q) (hv:cond q (ev n f z) (ev n f z')=v):Run P ⟨d,.pick c z z',t,p,af,g⟩ n f w v:=by
  subst hv; cases q <;> simp [Run,execOp,hc,asBool]
theorem r_add (hx:ev n f x=.int .i64 a) (hy:ev n f y=.int .i64 b) (h:-9223372036854775808≤a+b∧a+b≤9223372036854775807):Run P ⟨d,.binOp .add tx x y ty,t,p,af,g⟩ n f w (.int .i64 (a+b)):=by
  simp [Run,execOp,hx,hy,binOp,Op.intArith,eqGuard,wrap64_in h]
theorem r_sub (hx:ev n f x=.int .i64 a) (hy:ev n f y=.int .i64 b) (h:-9223372036854775808≤a-b∧a-b≤9223372036854775807):Run P ⟨d,.binOp .sub tx x y ty,t,p,af,g⟩ n f w (.int .i64 (a-b)):=by
  simp [Run,execOp,hx,hy,binOp,Op.intArith,eqGuard,wrap64_in h]
theorem r_mul (hx:ev n f x=.int .i64 a) (hy:ev n f y=.int .i64 b) (h:-9223372036854775808≤a*b∧a*b≤9223372036854775807):Run P ⟨d,.binOp .mul tx x y ty,t,p,af,g⟩ n f w (.int .i64 (a*b)):=by
  simp [Run,execOp,hx,hy,binOp,Op.intArith,eqGuard,wrap64_in h]
theorem r_addW (hx:ev n f x=.int k a) (hy:ev n f y=.int k b):Run P ⟨d,.binOp .add tx x y ty,t,p,af,g⟩ n f w (.int k (k.wrap (a+b))):=by
  simp [Run,execOp,hx,hy,binOp,Op.intArith,eqGuard]
theorem r_subW (hx:ev n f x=.int k a) (hy:ev n f y=.int k b):Run P ⟨d,.binOp .sub tx x y ty,t,p,af,g⟩ n f w (.int k (k.wrap (a-b))):=by
  simp [Run,execOp,hx,hy,binOp,Op.intArith,eqGuard]
theorem r_mulW (hx:ev n f x=.int k a) (hy:ev n f y=.int k b):Run P ⟨d,.binOp .mul tx x y ty,t,p,af,g⟩ n f w (.int k (k.wrap (a*b))):=by
  simp [Run,execOp,hx,hy,binOp,Op.intArith,eqGuard]
theorem r_quo (hx:ev n f x=.int .i64 a) (hy:ev n f y=.int .i64 b) (h:0≤a∧a≤9223372036854775807∧1≤b):Run P ⟨d,.binOp .quo tx x y ty,t,p,af,g⟩ n f w (.int .i64 (a / b)):=by
  have hb:¬b=0:=by omega
  simp [Run,execOp,hx,hy,binOp,Op.intDiv,eqGuard,hb,IntWalk.i64_quo a b h]
theorem r_rem (hx:ev n f x=.int .i64 a) (hy:ev n f y=.int .i64 b) (h:0≤a∧1≤b):Run P ⟨d,.binOp .rem tx x y ty,t,p,af,g⟩ n f w (.int .i64 (a % b)):=by
  have hb:¬b=0:=by omega
  simp [Run,execOp,hx,hy,binOp,Op.intDiv,eqGuard,hb,IntWalk.rem_in a b h.1]
theorem r_lt (hx:ev n f x=.int k a) (hy:ev n f y=.int k b):Run P ⟨d,.binOp .lss tx x y ty,t,p,af,g⟩ n f w (.bool (decide (a<b))):=by
  simp [Run,execOp,hx,hy,binOp,Op.intCmp,eqGuard]
theorem r_le (hx:ev n f x=.int k a) (hy:ev n f y=.int k b):Run P ⟨d,.binOp .leq tx x y ty,t,p,af,g⟩ n f w (.bool (decide (a≤b))):=by
  simp [Run,execOp,hx,hy,binOp,Op.intCmp,eqGuard]
theorem r_gt (hx:ev n f x=.int k a) (hy:ev n f y=.int k b):Run P ⟨d,.binOp .gtr tx x y ty,t,p,af,g⟩ n f w (.bool (decide (b<a))):=by
  simp [Run,execOp,hx,hy,binOp,Op.intCmp,eqGuard]
theorem r_ge (hx:ev n f x=.int k a) (hy:ev n f y=.int k b):Run P ⟨d,.binOp .geq tx x y ty,t,p,af,g⟩ n f w (.bool (decide (b≤a))):=by
  simp [Run,execOp,hx,hy,binOp,Op.intCmp,eqGuard]
theorem r_eq (hx:ev n f x=.int k a) (hy:ev n f y=.int k b):Run P ⟨d,.binOp .eql tx x y ty,t,p,af,g⟩ n f w (.bool (decide (a=b))):=by
  simp [Run,execOp,hx,hy,binOp,Op.intCmp,eqGuard]; rfl
theorem r_ne (hx:ev n f x=.int k a) (hy:ev n f y=.int k b):Run P ⟨d,.binOp .neq tx x y ty,t,p,af,g⟩ n f w (.bool (!decide (a=b))):=by
  simp [Run,execOp,hx,hy,binOp,Op.intCmp,eqGuard,bne]; rfl
theorem r_ne_s (hx:ev n f x=.int k a) (hy:ev n f y=.int k a):Run P ⟨d,.binOp .neq tx x y ty,t,p,af,g⟩ n f w (.bool false):=by
  have:=r_ne (P:=P) (d:=d) (t:=t) (p:=p) (af:=af) (g:=g) (tx:=tx) (ty:=ty) (w:=w) hx hy; rwa [decide_eq_true rfl] at this
theorem r_not (hx:ev n f x=.bool ps):Run P ⟨d,.unOp .not tx x,t,p,af,g⟩ n f w (.bool (!ps)):=by
  simp [Run,execOp,hx,Op.unary]
theorem r_neg (hx:ev n f x=.int .i64 a) (h:-9223372036854775807≤a∧a≤9223372036854775807):Run P ⟨d,.unOp .neg tx x,t,p,af,g⟩ n f w (.int .i64 (-a)):=by
  simp [Run,execOp,hx,Op.unary,Op.intArith,wrap64_in (n:=-a) oB]
theorem eq_bool (ht:P.underlying tx=some .bool) (q q':Bool):(Op.equal tx (.bool q) (.bool q')).run P w=.ok (q == q') w:=by
  have key:∀ dd,(Op.equalIn (dd+1) tx (.bool q) (.bool q')).run P w=.ok (q == q') w:=fun dd=>by
    simp only [Op.equalIn,Sem.run_bind,run_underlying ht,Result.andThen_ok,Sem.run_pure]
  exact key 9999
theorem r_neb (ht:P.underlying tx=some .bool) (hx:ev n f x=.bool ps) (hy:ev n f y=.bool qs):Run P ⟨d,.binOp .neq tx x y ty,t,p,af,g⟩ n f w (.bool (!(ps == qs))):=by
  simp [Run,execOp,hx,hy,binOp,eqGuard,eq_bool ht]
theorem r_neb_s (ht:P.underlying tx=some .bool) (hx:ev n f x=.bool ps) (hy:ev n f y=.bool ps):Run P ⟨d,.binOp .neq tx x y ty,t,p,af,g⟩ n f w (.bool false):=by
  have:=r_neb (P:=P) (d:=d) (t:=t) (p:=p) (af:=af) (g:=g) (ty:=ty) (w:=w) ht hx hy; rwa [show (!(ps == ps))=false from by simp] at this
theorem r_ext {l:List Value} {i:Nat} (hx:ev n f x=.tuple l.toArray) (hv:l[i]?=some v):Run P ⟨d,.extract x i,t,p,af,g⟩ n f w v:=by
  simp [Run,execOp,hx,Instr.extract,hv]
def str (l:List UInt8):Value:=.string ⟨l.toArray⟩
theorem toList_mk (l:List UInt8):(⟨l.toArray⟩:ByteArray).toList=l:=by
  rw [ByteArray.toList_eq]
theorem size_mk (l:List UInt8):(⟨l.toArray⟩:ByteArray).size=l.length:=rfl
theorem append_mk (s r:List UInt8):(⟨s.toArray⟩++⟨r.toArray⟩:ByteArray)=⟨(s++r).toArray⟩:=by
  apply ByteArray.ext; simp
theorem r_cat (hx:ev n f x=str s) (hy:ev n f y=str r) (h:s.length+r.length≤9223372036854775807):Run P ⟨d,.binOp .add tx x y ty,t,p,af,g⟩ n f w (str (s++r)):=by
  have h2:¬(9223372036854775807:Int)<(s.length:Int)+(r.length:Int):=by omega
  simp [Run,execOp,hx,hy,str,binOp,eqGuard,Op.stringOp,size_mk,append_mk,h2]
theorem r_len_s (ht:P.underlying tx=some .string) (hx:ev n f x=str s):Run P ⟨d,.call ⟨.builtin .len,#[x],#[tx]⟩,t,p,af,g⟩ n f w (.int .i64 s.length):=by
  simp [Run,execOp,resolve,invoke,builtin,Builtin.len_,hx,str,run_underlying ht,goInt,size_mk]
theorem r_len {A:Option Addr} {m c:Nat} {e:TypeId} (ht:P.underlying tx=some (.slice e)) (hx:ev n f x=.slice A m c):Run P ⟨d,.call ⟨.builtin .len,#[x],#[tx]⟩,t,p,af,g⟩ n f w (.int .i64 m):=by
  simp [Run,execOp,resolve,invoke,builtin,Builtin.len_,hx,run_underlying ht,goInt]
theorem str_eq (s r:List UInt8):(({ data:=s.toArray }:ByteArray).toList == ({ data:=r.toArray }:ByteArray).toList)=decide (s=r):=by
  rw [toList_mk,toList_mk,Bool.eq_iff_iff]; simp
theorem r_eqs (hx:ev n f x=str s) (hy:ev n f y=str r):Run P ⟨d,.binOp .eql tx x y ty,t,p,af,g⟩ n f w (.bool (decide (s=r))):=by
  simp only [Run,execOp,hx,hy,str,binOp,eqGuard,Op.stringOp,str_eq]; rfl
theorem r_nes (hx:ev n f x=str s) (hy:ev n f y=str r):Run P ⟨d,.binOp .neq tx x y ty,t,p,af,g⟩ n f w (.bool (!decide (s=r))):=by
  simp only [Run,execOp,hx,hy,str,binOp,eqGuard,Op.stringOp,str_eq]; rfl
def adr (A:Option Addr):Addr:=A.getD ⟨0,0,none⟩
def TAgg (P:Program) (t:TypeId) (m:Nat):Prop:=(∀ w,(isAgg t).run P w=.ok true w)∧∀ w,(sizeOf t).run P w=.ok m w
def TSca (P:Program) (t:TypeId):Prop:=(∀ w,(isAgg t).run P w=.ok false w)∧∀ w,(sizeOf t).run P w=.ok 1 w
def FA (P:Program) (s i o:Nat):Prop:=∀ a w,(Instr.fieldAt s (.pointer (some a)) i).run P w=.ok (.pointer (some (a.add o))) w
def TSl (P:Program) (t e sz:Nat):Prop:=P.underlying t=some (.slice e)∧∀ w,(sizeOf e).run P w=.ok sz w
def TZ (P:Program) (e:TypeId) (z:Value):Prop:=∀ w,(zeroValue e).run P w=.ok z w
theorem r_fa {i off:Nat} {s:TypeId} {a:Addr} (h:FA P s i off) (hx:ev n f x=.pointer (some a)):Run P ⟨d,.fieldAddr s x i,t,p,af,g⟩ n f w (.pointer (some (a.add off))):=by
  simp [Run,execOp,hx,h a w]
theorem r_ld {a:Addr} (ht:TSca P tx) (hx:ev n f x=.pointer (some a)) (hc:w.cell? a=some v):Run P ⟨d,.load tx x,t,p,af,g⟩ n f w v:=by
  simp [Run,execOp,hx,Instr.loadAt,Instr.sureAddr,loadVar,ht.1 w,load,Sem.run,hc]
theorem r_lda {a:Addr} {l:List Value} {m:Nat} (ht:TAgg P tx m) (hx:ev n f x=.pointer (some a)) (hc:∀ j u,l[j]?=some u→w.cell? (a.add j)=some u) (hl:l.length=m):Run P ⟨d,.load tx x,t,p,af,g⟩ n f w (.agg l.toArray):=by
  have:=run_loadCells_list (P:=P) w a l hc
  subst hl
  simp [Run,execOp,hx,Instr.loadAt,Instr.sureAddr,loadVar,ht.1 w,ht.2 w,this]
theorem r_ix {e sz m c:Nat} {A:Option Addr} {k:IntKind} {i:Nat} (ht:TSl P tx e sz) (hx:ev n f x=.slice A m c) (hy:ev n f y=.int k i) (hi:i<m) (hA:A.isSome=true):Run P ⟨d,.indexAddr tx x y,t,p,af,g⟩ n f w (.pointer (some ((adr A).add (i*sz)))):=by
  obtain ⟨a,rfl⟩:=Option.isSome_iff_exists.1 hA
  have h1:(0:Int)≤i∧(i:Int)<m:=by omega
  simp [Run,execOp,hx,hy,Instr.indexAt,asIntOf,run_underlying ht.1,h1,hi,ht.2 w,adr]
def Blk (w:World) (g:Nat) (e:TypeId) (l:List Value):Prop:=w.heap[g]?=some (.cells l.toArray e (0,0))
def spl (l:List Value) (o:Nat) (vs:List Value):List Value:=l.take o++vs++l.drop (o+vs.length)
section
variable {w w' : World} {g : Nat} {e : TypeId} {l : List Value}
theorem Blk.lt (h:Blk w g e l):g<w.heap.size:=by
  rcases Nat.lt_or_ge g w.heap.size with hlt | hge
  · exact hlt
  · unfold Blk at h; rw [Array.getElem?_eq_none hge] at h; cases h
theorem Blk.lo (h:Blk w g e l) (k:Lo w w'):Blk w' g e l:=(k.block g h.lt id).trans h
theorem Blk.kp {S:Nat→Prop} (h:Blk w g e l) (k:Kp S w w') (hr:¬S g):Blk w' g e l:=(k.block g h.lt hr).trans h
theorem Blk.kn {q:Nat} (h:Blk w g e l) (k:Kp (·=q) w w') (hr:¬g=q:=by omega):Blk w' g e l:=h.kp k hr
theorem Blk.cell0 (h:Blk w g e l):w.cell? ⟨g,0,none⟩=l[0]?:=by
  rw [cell_of_row w g 0 _ e (0,0) h]; simp
theorem add_at (g o j:Nat):(⟨g,o,none⟩:Addr).add j=⟨g,o+j,none⟩:=by
  unfold Addr.add; split <;> simp_all
theorem add_add (a:Addr) (i j:Nat):(a.add i).add j=a.add (i+j):=by
  unfold Addr.add
  by_cases hi:i=0 <;> by_cases hj:j=0 <;> simp [hi,hj,Nat.add_assoc]
theorem add_block (a:Addr) (n:Nat):(a.add n).block=a.block:=by unfold Addr.add; split <;> rfl
theorem Blk.cell (h:Blk w g e l) {j:Nat} {u:Value} (hu:l[j]?=some u):w.cell? ((⟨g,0,none⟩:Addr).add j)=some u:=by
  rw [add_at,cell_of_row w g _ _ e (0,0) h]; simpa using hu
theorem Blk.cells (h:Blk w g e l) {o:Nat} {vs:List Value} (hv:(l.drop o).take vs.length=vs) {j:Nat} {u:Value} (hu:vs[j]?=some u):w.cell? (((⟨g,0,none⟩:Addr).add o).add j)=some u:=by
  rw [add_add]
  refine h.cell ?_
  rw [← hv] at hu
  rw [List.getElem?_take] at hu
  split at hu
  · rw [List.getElem?_drop] at hu; exact hu
  · cases hu
theorem Blk.cell2 (h:Blk w g e l) {i j:Nat} {u:Value} (hu:l[i+j]?=some u):w.cell? (((⟨g,0,none⟩:Addr).add i).add j)=some u:=by
  rw [add_add]; exact h.cell hu
end
section
variable {P : Program} {ops : Array Oper} {N R : Act → World → Prop} {X : Nat → Act → World → Prop} {n : Nat} {rest : List Oper} {f : Env} {w : World} {v : Value} {d : Nat} {t e : TypeId} {p : String} {af : Array Edge} {x y : Operand}
theorem SR.new {o:Obj} {op:Op} (hr:∀ w,(execOp (ev n f) ⟨some d,op,t,p,af,none⟩).run P w=.ok (.value (.pointer (some ⟨w.heap.size,0,none⟩))) (w.alloc o))
    (h:∀ g w',g=w.heap.size→Lo w w'→w'.heap.size=g+1→w'.heap[g]?=some o→SR P ops N R X n rest (set f d (.pointer (some ⟨g,0,none⟩))) w'):SR P ops N R X n (⟨some d,op,t,p,af,none⟩ :: rest) f w:=by
  refine SR.run (hr w) rfl rfl (h _ _ rfl ?_ ?_ ?_)
  · exact Lo.alloc _ _
  · simp
  · exact heap_alloc_new w _
theorem SR.alloc {z:Value} {l:List Value} (hz:TZ P e z) (hl:z.cells=l.toArray)
    (h:∀ g w',g=w.heap.size→Lo w w'→w'.heap.size=g+1→Blk w' g e l→SR P ops N R X n rest (set f d (.pointer (some ⟨g,0,none⟩))) w'):SR P ops N R X n (⟨some d,.alloc e,t,p,af,none⟩ :: rest) f w:=by
  refine SR.new (o:=.cells l.toArray e) (fun w=>?_) h
  simp [execOp,Instr.alloc,hz w,newVar,newRow,newObj,Sem.run,hl]
theorem SR.box {l:List Value} (hx:ev n f x=v) (hl:v.cells=l.toArray)
    (h:∀ g w',g=w.heap.size→Lo w w'→w'.heap.size=g+1→Blk w' g e l→SR P ops N R X n rest (set f d (.pointer (some ⟨g,0,none⟩))) w'):SR P ops N R X n (⟨some d,.box e x,t,p,af,none⟩ :: rest) f w:=by
  refine SR.new (o:=.cells l.toArray e) (fun w=>?_) h
  simp [execOp,Instr.box,hx,newVar,newRow,newObj,Sem.run,hl]
theorem SR.store {g o:Nat} {a:Addr} {l vs:List Value} (hs:∀ w,(sizeOf t).run P w=.ok vs.length w) (hx:ev n f x=.pointer (some a)) (ha:a=⟨g,o,none⟩) (hy:ev n f y=v) (hv:v.cells=vs.toArray)
    (hb:Blk w g e l) (ho:o+vs.length≤l.length) (h1:vs.all (·.oneCell')=true) {t':TypeId}
    (h:∀ w',Kp (·=g) w w'→w'.heap.size=w.heap.size→Blk w' g e (spl l o vs)→SR P ops N R X n rest f w'):SR P ops N R X n (⟨none,.store t x y,t',p,af,none⟩ :: rest) f w:=by
  subst ha
  have hst:=run_storeCells_at (P:=P) g o e vs 0 l.toArray w hb (by simpa using ho) (fun u hu=>List.all_eq_true.1 h1 u hu)
  refine SR.run_skip (w':=w.setRow g (spl l o vs).toArray) ?_ rfl rfl (h _ ?_ ?_ ?_)
  · simp only [Nat.add_zero] at hst
    have hv':v.cells.toList=vs:=by rw [hv]
    simp [execOp,hx,hy,Instr.storeAt,Instr.sureAddr,storeVar,hs w,hv,hst,spl]
  · refine ⟨rfl,rfl,rfl,by simp [World.setRow],fun k hk hne=>?_⟩
    have:¬g=k:=fun e=>hne e.symm
    simp [World.setRow,Array.getElem?_modify,this]
  · simp [World.setRow]
  · exact setRow_heap w g _ _ e _ hb
end
end
end Go.Proofs.YtndcchndcghmoaaGreatDoor.Fw
namespace Go.Proofs.YtndcchndcghmoaaGreatDoor.Fw
open Go Go.RowKit
section
variable {α : Type} {w w' : World} {B : Nat} {enc : α → List Value} {sz n c : Nat} {A : Option Addr} {L : List α}
structure SlR (w:World) (B:Nat) (enc:α→List Value) (sz:Nat) (A:Option Addr) (n c:Nat) (L:List α):Prop where
  len:n=L.length
  cap:n≤c
  max:c≤maxLen
  bd:B≤w.heap.size
  esz:∀ x,(enc x).length=sz
  some:0<n→A.isSome=true
  blk:0<n→(adr A).block<B
  at_:∀ i x,L[i]?=Option.some x→∀ j u,(enc x)[j]?=Option.some u→w.cell? ((adr A).add (i*sz+j))=Option.some u
theorem SlR.kp {S:Nat→Prop} (h:SlR w B enc sz A n c L) (k:Kp S w w') (hS:∀ b,b<B→¬S b):SlR w' B enc sz A n c L:=by
  refine ⟨h.len,h.cap,h.max,Nat.le_trans h.bd k.size,h.esz,h.some,h.blk,fun i x hx j u hu=>?_⟩
  have hn:0<n:=by have:=List.getElem?_eq_some_iff.1 hx |>.1; rw [h.len]; omega
  rw [← h.at_ i x hx j u hu]
  refine World.cell?_of_block (k.block _ ?_ ?_)
  · rw [add_block]; exact Nat.lt_of_lt_of_le (h.blk hn) h.bd
  · rw [add_block]; exact hS _ (h.blk hn)
theorem SlR.kn {q:Nat} (h:SlR w B enc sz A n c L) (k:Kp (·=q) w w') (hq:B≤q:=by omega):SlR w' B enc sz A n c L:=h.kp k fun b hb e=>by have e':b=q:=e; omega
theorem SlR.lo (h:SlR w B enc sz A n c L) (k:Lo w w'):SlR w' B enc sz A n c L:=h.kp k fun _ _=>id
theorem SlR.up (h:SlR w B enc sz A n c L) {B':Nat} (hb:B≤B') (hb':B'≤w.heap.size):SlR w B' enc sz A n c L :=
  ⟨h.len,h.cap,h.max,hb',h.esz,h.some,fun hn=>Nat.lt_of_lt_of_le (h.blk hn) hb,h.at_⟩
theorem SlR.top (h:SlR w B enc sz A n c L):SlR w w.heap.size enc sz A n c L:=h.up h.bd (Nat.le_refl _)
theorem SlR.get (h:SlR w B enc sz A n c L) {i:Nat} (hi:i<n):∃ x,L[i]?=Option.some x:=by
  have:=h.len
  exact ⟨L[i]'oB,List.getElem?_eq_getElem _⟩
theorem SlR.cell (h:SlR w B enc sz A n c L) {i:Nat} {x:α} (hx:L[i]?=Option.some x) {j:Nat} {u:Value} (hu:(enc x)[j]?=Option.some u):w.cell? (((adr A).add (i*sz)).add j)=Option.some u:=by
  rw [add_add]; exact h.at_ i x hx j u hu
theorem SlR.cell0 (h:SlR w B enc sz A n c L) {i:Nat} {x:α} (hx:L[i]?=Option.some x) {u:Value} (hu:(enc x)[0]?=Option.some u):w.cell? ((adr A).add (i*sz))=Option.some u:=by
  have:=h.at_ i x hx 0 u hu
  rwa [Nat.add_zero] at this
theorem SlR.nil (w:World) (he:∀ x,(enc x).length=sz):SlR w w.heap.size enc sz Option.none 0 0 ([]:List α) :=
  ⟨rfl,Nat.le_refl _,by decide,Nat.le_refl _,he,fun h=>absurd h oB,fun h=>absurd h oB,fun i x hx=>by simp at hx⟩
theorem SlR.bound (h:SlR w B enc sz A n c L):(n:Int)≤9223372036854775807:=by
  have h1:=h.cap; have h2:=h.max; unfold maxLen at h2; omega
end
section
variable {α : Type} {P : Program} {B : Nat} {enc : α → List Value} {sz m c : Nat} {A : Option Addr} {L : List α} {n : Nat} {f : Env} {w : World} {v : Value} {d : Option Tmp} {t : TypeId} {p : String} {af : Array Edge} {g : Option (Nat × Bool)} {x y : Operand} {tx e : TypeId} {k : IntKind} {z : Int}
theorem r_ixR (ht:TSl P tx e sz) (hs:SlR w B enc sz A m c L) (hx:ev n f x=.slice A m c) (hy:ev n f y=.int k z) (hi:0≤z∧z<(m:Int)):Run P ⟨d,.indexAddr tx x y,t,p,af,g⟩ n f w (.pointer (some ((adr A).add (z.toNat*sz)))):=by
  obtain ⟨i,rfl⟩:=Int.eq_ofNat_of_zero_le hi.1
  exact r_ix ht hx hy oB (hs.some oB)
end
section
variable {α : Type} {w w' : World} {base e : Nat} {enc : α → List Value} {sz n c : Nat} {A : Option Addr} {L : List α}
structure SlO (w:World) (base:Nat) (enc:α→List Value) (sz e:Nat) (A:Option Addr) (n c:Nat) (L:List α):Prop where
  row:w.ownsRow base e sz (.slice A n c) n (L.flatMap enc)
  len:n=L.length
  esz:∀ x,(enc x).length=sz
  bd:base≤w.heap.size
theorem flat_get (he:∀ x,(enc x).length=sz):∀ (L:List α) (i j:Nat) (x:α) (u:Value),L[i]?=some x→(enc x)[j]?=some u→(L.flatMap enc)[i*sz+j]?=some u
  | [],i,j,x,u,h,_=>by simp at h
  | a :: r,0,j,x,u,h,hu=>by
    simp only [List.getElem?_cons_zero,Option.some.injEq] at h
    subst h
    rw [List.flatMap_cons,Nat.zero_mul,Nat.zero_add,List.getElem?_append_left (List.getElem?_eq_some_iff.1 hu).1]; exact hu
  | a :: r,i+1,j,x,u,h,hu=>by
    rw [List.flatMap_cons,List.getElem?_append_right (by rw [he,Nat.add_mul,Nat.one_mul]; omega),he]
    rw [show (i+1)*sz+j-sz=i*sz+j by rw [Nat.add_mul,Nat.one_mul]; omega]
    exact flat_get he r i j x u (by simpa using h) hu
theorem flat_len (he:∀ x,(enc x).length=sz):∀ L:List α,(L.flatMap enc).length=L.length*sz
  | []=>by simp
  | a :: r=>by rw [List.flatMap_cons,List.length_append,he,flat_len he r,List.length_cons,Nat.add_mul,Nat.one_mul,Nat.add_comm]
theorem SlO.kp {S:Nat→Prop} (h:SlO w base enc sz e A n c L) (k:Kp S w w') (hS:∀ b,A=some ⟨b,0,none⟩→¬S b):SlO w' base enc sz e A n c L:=by
  refine ⟨⟨h.row.1,?_⟩,h.len,h.esz,Nat.le_trans h.bd k.size⟩
  rcases h.row.2 with h0 | ⟨g,cap,cur,hv,hg,hh,r⟩
  · exact .inl h0
  · have hA:A=some ⟨g,0,none⟩:=by injection hv
    have hlt:g<w.heap.size:=by
      rcases Nat.lt_or_ge g w.heap.size with h' | h'
      · exact h'
      · rw [Array.getElem?_eq_none h'] at hh; cases hh
    exact .inr ⟨g,cap,cur,hv,hg,(k.block g hlt (hS g hA)).trans hh,r⟩
theorem SlO.lo (h:SlO w base enc sz e A n c L) (k:Lo w w'):SlO w' base enc sz e A n c L:=h.kp k fun _ _=>id
theorem SlO.rd (h:SlO w base enc sz e A n c L):SlR w w.heap.size enc sz A n c L:=by
  rcases h.row.2 with ⟨h0,h1⟩ | ⟨g,cap,cur,hv,hg,hh,hn,hm,hs,ht⟩
  · injection h0 with e1 e2 e3
    subst e1 e2 e3
    have hL:L=[]:=List.eq_nil_of_length_eq_zero (by have:=h.len; omega)
    subst hL
    exact SlR.nil w h.esz
  · injection hv with e1 e2 e3
    subst e1 e3
    have hlt:g<w.heap.size:=by
      rcases Nat.lt_or_ge g w.heap.size with h' | h'
      · exact h'
      · rw [Array.getElem?_eq_none h'] at hh; cases hh
    refine ⟨h.len,hn,hm,Nat.le_refl _,h.esz,fun _=>rfl,fun _=>hlt,fun i x hx j u hu=>?_⟩
    show w.cell? ((⟨g,0,none⟩:Addr).add _)=_
    have h1:=flat_get h.esz L i j x u hx hu
    rw [add_at,cell_of_row w g _ _ e (0,0) hh,Nat.zero_add]
    rw [← ht,List.getElem?_take] at h1
    split at h1
    · simpa using h1
    · cases h1
theorem SlO.base_le (h:SlO w base enc sz e A n c L) {b:Nat} (hA:A=some ⟨b,0,none⟩):base≤b∧b<w.heap.size:=by
  subst hA
  exact h.row.lt b rfl
theorem SlO.kn {q:Nat} (h:SlO w base enc sz e A n c L) (k:Kp (·=q) w w') (hq:q<base∨w.heap.size≤q:=by omega):SlO w' base enc sz e A n c L:=h.kp k fun b hb e=>by have e':b=q:=e; have:=h.base_le hb; omega
theorem SlO.kd {q:Nat} (h:SlO w base enc sz e A n c L) (k:Kp (·=q) w w') (hd:¬A=some ⟨q,0,none⟩):SlO w' base enc sz e A n c L:=h.kp k fun b hb e=>hd (by have e':b=q:=e; rw [← e']; exact hb)
theorem SlO.nil (he:∀ x,(enc x).length=sz) {base:Nat} (hb:base≤w.heap.size):SlO w base enc sz e none 0 0 ([]:List α):=⟨World.ownsRow_nil w base e sz,rfl,he,hb⟩
theorem SlO.down (h:SlO w base enc sz e A n c L) {b:Nat} (hb:b≤base:=by omega):SlO w b enc sz e A n c L:=by
  refine ⟨⟨h.row.1,?_⟩,h.len,h.esz,Nat.le_trans hb h.bd⟩
  rcases h.row.2 with h0 | ⟨g,cap,cur,hv,hg,r⟩
  · exact .inl h0
  · exact .inr ⟨g,cap,cur,hv,Nat.le_trans hb hg,r⟩
theorem SlO.eqv {L':List α} (h:SlO w base enc sz e A n c L) (hL:L=L'):SlO w base enc sz e A n c L':=hL ▸ h
end
theorem SlR.kpb {α:Type} {w w':World} {B sz n c:Nat} {enc:α→List Value} {A:Option Addr} {L:List α} {S:Nat→Prop} (h:SlR w B enc sz A n c L) (k:Kp S w w') (hS:0<n→¬S (adr A).block):SlR w' B enc sz A n c L:=by
  refine ⟨h.len,h.cap,h.max,Nat.le_trans h.bd k.size,h.esz,h.some,h.blk,fun i x hx j u hu=>?_⟩
  have hn:0<n:=by have:=List.getElem?_eq_some_iff.1 hx |>.1; rw [h.len]; omega
  rw [← h.at_ i x hx j u hu]
  refine World.cell?_of_block (k.block _ ?_ ?_)
  · rw [add_block]; exact Nat.lt_of_lt_of_le (h.blk hn) h.bd
  · rw [add_block]; exact hS hn
end Go.Proofs.YtndcchndcghmoaaGreatDoor.Fw
namespace Go.Proofs.YtndcchndcghmoaaGreatDoor.Fw
open Go Go.RowKit
theorem eI {k:IntKind} {a b:Int} (h:a=b):Value.int k a=Value.int k b:=by rw [h]
theorem eB {a b:Bool} (h:a=b):Value.bool a=Value.bool b:=by rw [h]
theorem eS {a b:List UInt8} (h:a=b):str a=str b:=by rw [h]
theorem eA {a b:List Value} (h:a=b):Value.agg a.toArray=Value.agg b.toArray:=by rw [h]
theorem eDT {q:Prop} [Decidable q] (h:q):Value.bool true=Value.bool (decide q):=by rw [decide_eq_true h]
theorem eDF {q:Prop} [Decidable q] (h:¬q):Value.bool false=Value.bool (decide q):=by rw [decide_eq_false h]
theorem eDD {p q:Prop} [Decidable p] [Decidable q] (h:p↔q):Value.bool (decide p)=Value.bool (decide q):=by rw [decide_eq_decide.2 h]
theorem eND {p q:Prop} [Decidable p] [Decidable q] (h:¬p↔q):Value.bool (!decide p)=Value.bool (decide q):=by
  by_cases hp:p
  · rw [decide_eq_true hp,decide_eq_false (fun hq=>(h.2 hq) hp)]; rfl
  · rw [decide_eq_false hp,decide_eq_true (h.1 hp)]; rfl
theorem eBD {p:Bool} {q:Prop} [Decidable q] (h:p=true↔q):Value.bool p=Value.bool (decide q):=by
  cases p
  · rw [decide_eq_false (fun hq=>by have:=h.2 hq; cases this)]
  · rw [decide_eq_true (h.1 rfl)]
theorem eC {a b:Value} {l m:List Value} (h:a=b) (k:l=m):a :: l=b :: m:=by rw [h,k]
theorem Blk.eqv {w:World} {g e:Nat} {l l':List Value} (h:Blk w g e l) (k:l=l'):Blk w g e l':=k ▸ h
def gt {α:Type} [Inhabited α] (L:List α) (i:Nat):α:=L.getD i default
theorem gt_eq {α:Type} [Inhabited α] {L:List α} {i:Nat} {x:α} (h:L[i]?=some x):gt L i=x:=by simp [gt,List.getD,h]
section
variable {c q r : Prop}
theorem j2t (h:c):False↔¬c:=⟨False.elim,fun k=>k h⟩
theorem j2f (h:¬c):True↔¬c:=⟨fun _=>h,fun _=>trivial⟩
theorem jat (h:c):q↔c∧q:=⟨fun k=>⟨h,k⟩,fun k=>k.2⟩
theorem jaf (h:¬c):False↔c∧q:=⟨False.elim,fun k=>h k.1⟩
theorem jot (h:c):True↔c∨q:=⟨fun _=>.inl h,fun _=>trivial⟩
theorem jof (h:¬c):q↔c∨q:=⟨.inr,fun k=>k.elim (fun x=>absurd x h) id⟩
theorem jnt (h:c):False↔¬c∧q:=⟨False.elim,fun k=>k.1 h⟩
theorem jnf (h:¬c):q↔¬c∧q:=⟨fun k=>⟨h,k⟩,fun k=>k.2⟩
theorem jmt (h:c):q↔¬c∨q:=⟨.inr,fun k=>k.elim (fun x=>absurd h x) id⟩
theorem jmf (h:¬c):True↔¬c∨q:=⟨fun _=>.inl h,fun _=>trivial⟩
theorem jgt (h:c):q↔(c∧q)∨(¬c∧r):=⟨fun k=>.inl ⟨h,k⟩,fun k=>k.elim And.right fun x=>absurd h x.1⟩
theorem jgf (h:¬c):r↔(c∧q)∨(¬c∧r):=⟨fun k=>.inr ⟨h,k⟩,fun k=>k.elim (fun x=>absurd x.1 h) And.right⟩
end
section
variable {P : Program} {n : Nat} {f : Env} {N R : Act → World → Prop} {X : Nat → Act → World → Prop} {w : World} {id : Nat} {l : List Oper}
theorem W.regJD (hm:P.follows .mixedOrders=true) (hB:Region.lexB .any l.toArray=true) (J:Env→World→Prop)
    (h:QR P l.toArray (Lo w) n (fun f'=>∀ w',Lo w w'→J f' w') l f) (k:∀ f' w',J f' w'→N (act n f') w'):W P (.region id l.toArray true) N R X (act n f) w :=
  W.mono (W.regD (N:=fun a w=>∃ f',a=act n f'∧J f' w) (R:=R) (X:=X) hm hB (by
    unfold QR at h ⊢
    refine wpQuiet_mono' ?_ h
    rintro a ⟨f',rfl,h⟩
    exact ⟨f',rfl,fun w' hw'=>⟨f',rfl,h w' hw'⟩⟩)) (by rintro a w ⟨f',rfl,h⟩; exact k f' w h) (fun _ _ h=>h) (fun _ _ _ h=>h)
theorem W.regJS (J:Env→World→Prop)
    (h:SR P l.toArray (fun a w=>∃ f',a=act n f'∧J f' w) R X n l f w) (k:∀ f' w',J f' w'→N (act n f') w'):W P (.region id l.toArray false) N R X (act n f) w :=
  W.mono (W.regS h) (by rintro a w ⟨f',rfl,h⟩; exact k f' w h) (fun _ _ h=>h) (fun _ _ _ h=>h)
theorem W.thenJ {x:Code} (J:Env→World→Prop) (h:W P x (fun a w=>∃ f',a=act n f'∧J f' w) R X (act n f) w) (k:∀ f' w',J f' w'→N (act n f') w'):W P x N R X (act n f) w :=
  W.mono h (by rintro a w ⟨f',rfl,h⟩; exact k f' w h) (fun _ _ h=>h) (fun _ _ _ h=>h)
end
section
variable {P : Program} {ops : Array Oper} {N R : Act → World → Prop} {X : Nat → Act → World → Prop} {n d : Nat} {rest : List Oper} {f : Env} {w : World} {C : World → Prop} {K : Env → Prop} {b c : Bool}
theorem QR.known (h:b=c) (k:QR P ops C n K rest (set f d (.bool c))):QR P ops C n K rest (set f d (.bool b)):=h ▸ k
theorem SR.known (h:b=c) (k:SR P ops N R X n rest (set f d (.bool c)) w):SR P ops N R X n rest (set f d (.bool b)) w:=h ▸ k
end
theorem SlR.elem {α:Type} [Inhabited α] {w:World} {B:Nat} {enc:α→List Value} {sz n c:Nat} {A:Option Addr} {L:List α} (h:SlR w B enc sz A n c L) {i:Nat} (hi:i<n):L[i]?=Option.some (Fw.gt L i):=by
  have h1:=h.len
  simp [Fw.gt,List.getD,List.getElem?_eq_getElem (show i<L.length by omega)]
theorem eR {a b:Value} (h:a=b):Ending.returned a=Ending.returned b:=by rw [h]
theorem eT2 {a b a' b':Value} (h:a=a') (k:b=b'):Value.tuple #[a,b]=.tuple (List.toArray [a',b']):=by rw [h,k]
theorem eT3 {a b c a' b' c':Value} (h:a=a') (k:b=b') (l:c=c'):Value.tuple #[a,b,c]=.tuple (List.toArray [a',b',c']):=by rw [h,k,l]
section
variable {P : Program} {fn : Func} {n : Nat} {f : Env} {w : World} {R : Ending → World → Prop}
theorem load_cell {t:TypeId} {m g e:Nat} {l:List Value} (ht:TAgg P t m) (hb:Blk w g e l) (hl:l.length=m):(loadVar t ⟨g,0,none⟩).run P w=.ok (.agg l.toArray) w:=by
  have h1:=run_loadCells_list (P:=P) w ⟨g,0,none⟩ l (fun j u hu=>hb.cell hu)
  subst hl
  simp [loadVar,Sem.run_bind,ht.1 w,ht.2 w,h1]
theorem retC {p t m g e:Nat} {l:List Value} (hr:fn.results=#[.cell p t]) (hp:ev n f (.tmp p)=.pointer (some ⟨g,0,none⟩)) (ht:TAgg P t m) (hb:Blk w g e l) (hl:l.length=m)
    (h:R (.returned (.agg l.toArray)) w):bodyPost P fn R .ret (act n f) w:=by
  refine bodyPost_ret (v:=.agg l.toArray) ?_ rfl h
  have e1:=getD_act n f p
  rw [show cond (Nat.blt p n) (f p) undef=ev n f (.tmp p) from rfl,hp] at e1
  simp only [Array.getD_eq_getD_getElem?] at e1
  simp [results,hr,e1,asAddr,load_cell ht hb hl]
theorem retCT {p t m g e u:Nat} {l:List Value} {v:Value} (hr:fn.results=#[.cell p t,.tmp u]) (hp:ev n f (.tmp p)=.pointer (some ⟨g,0,none⟩)) (ht:TAgg P t m) (hb:Blk w g e l) (hl:l.length=m)
    (hu:ev n f (.tmp u)=v) (h:R (.returned (.tuple #[.agg l.toArray,v])) w):bodyPost P fn R .ret (act n f) w:=by
  refine bodyPost_ret (v:=.tuple #[.agg l.toArray,v]) ?_ rfl h
  have e1:=getD_act n f p
  have e2:=getD_act n f u
  rw [show cond (Nat.blt p n) (f p) undef=ev n f (.tmp p) from rfl,hp] at e1
  rw [show cond (Nat.blt u n) (f u) undef=ev n f (.tmp u) from rfl,hu] at e2
  simp only [Array.getD_eq_getD_getElem?] at e1 e2
  simp [results,hr,e1,e2,asAddr,load_cell ht hb hl]
theorem retCTT {p t m g e u s:Nat} {l:List Value} {v v':Value} (hr:fn.results=#[.cell p t,.tmp u,.tmp s]) (hp:ev n f (.tmp p)=.pointer (some ⟨g,0,none⟩)) (ht:TAgg P t m) (hb:Blk w g e l) (hl:l.length=m)
    (hu:ev n f (.tmp u)=v) (hs:ev n f (.tmp s)=v') (h:R (.returned (.tuple #[.agg l.toArray,v,v'])) w):bodyPost P fn R .ret (act n f) w:=by
  refine bodyPost_ret (v:=.tuple #[.agg l.toArray,v,v']) ?_ rfl h
  have e1:=getD_act n f p
  have e2:=getD_act n f u
  have e3:=getD_act n f s
  rw [show cond (Nat.blt p n) (f p) undef=ev n f (.tmp p) from rfl,hp] at e1
  rw [show cond (Nat.blt u n) (f u) undef=ev n f (.tmp u) from rfl,hu] at e2
  rw [show cond (Nat.blt s n) (f s) undef=ev n f (.tmp s) from rfl,hs] at e3
  simp only [Array.getD_eq_getD_getElem?] at e1 e2 e3
  simp [results,hr,e1,e2,e3,asAddr,load_cell ht hb hl]
end
end Go.Proofs.YtndcchndcghmoaaGreatDoor.Fw
namespace Go.Proofs.YtndcchndcghmoaaGreatDoor.Fw
open Go Go.RowKit Go.WideShapes Go.ChangeShapes Go.Deep
section
variable {H : Type} {enc : TypeId × Value → H} {P : Program}
theorem post_of_below {f:Func} {s:ChangeSpec} {apart fresh handsOn again:Bool} {W W':World} {args:Array Value} {v:Value} {ds gs:List (DataW H)} {before pa pv:List MemPlace}
    (hW:DataW.Whole enc P f.params.toList s.vars apart W args.toList ds gs before)
    (hres:∀ (b:Nat) (sp:Nat→Bool) (hd:Bool),DataW.TrodAll enc P W' b sp hd f.resultTypes.toList (v.resultList f.resultTypes.size) (s.fn H (ds++gs)).results [])
    (hargs:∀ sp:Nat→Bool,(∀ p∈before,sp p.block=true)→DataW.TrodAll enc P W' 0 sp true f.params.toList args.toList (s.fn H (ds++gs)).args pa)
    (hvars:∀ sp:Nat→Bool,(∀ p∈before,sp p.block=true)→DataW.TrodVars enc P W' sp s.vars (s.fn H (ds++gs)).vars pv)
    (hps:before=pa++pv) (hb:Below W.heap.size W W')
    (hok:∀ (j:Nat) (t:TypeId) (r:Value),f.resultTypes[j]?=some t→(v.resultList f.resultTypes.size)[j]?=some r→Value.okWide P W' .any 0 t r) :
    s.post enc P f apart fresh handsOn again W args v W':=by
  have hlt:∀ p∈before,p.block<W.heap.size:=fun p hp=>hW.lt p hp
  have hold:∀ p∈before,(fun b=>decide (b<W.heap.size)) p.block=true:=fun p hp=>by simpa using hlt p hp
  refine ⟨ds,gs,before,[],pa,pv,hW,hres _ _ _,hargs _ hold,hvars _ hold,World.keptBut_mono (fun p hp=>⟨hp,?_⟩) (hb.frame (·∈before)),fun _=>?_⟩
  · rw [hps,List.mem_append] at hp
    exact Or.inr hp
  · obtain ⟨_,_,_,_,_,hz,hn⟩:=hW
    refine ⟨hok,_,_,([]++pa)++pv,⟨[]++pa,pv,trodAll_append (hargs _ (fun _ _=>rfl)) (hres _ _ _),hvars _ (fun _ _=>rfl),rfl,?_,?_⟩,?_⟩
    · intro b off hp
      have hin:MemPlace.cell b off∈before:=by rw [hps]; simpa using hp
      rw [hb.frozen (hlt _ hin)]
      exact hz b off hin
    · intro ha
      have:=hn ha
      rw [hps] at this
      simpa using this
    · intro p hp _
      rw [hps]
      simpa using hp
theorem trodAll_stays (hl:laidOutB P=true) {W W':World} {sp:Nat→Bool} (hk:Lo W W'):∀ {ts:List TypeId} {vs:List Value} {ds:List (DataW H)} {ps:List MemPlace},
    (ts.all fun t=>P.readableRec t && decide (t<P.types.size))=true→DataW.TrodAll enc P W 0 (fun _=>true) true ts vs ds ps→(∀ p∈ps,p.block<W.heap.size)→(∀ p∈ps,sp p.block=true) →
    DataW.TrodAll enc P W' 0 sp true ts vs ds ps
  | [],_,_,_,_,h,_,_=>by
    obtain ⟨rfl,rfl,rfl⟩:=trodAll_nil h
    exact trodAll_mk0
  | t :: ts,_,_,_,hr,h,hlt,hs=>by
    obtain ⟨v,vs',d,ds',p,q,rfl,rfl,rfl,h0,h1⟩:=trodAll_cons h
    simp only [List.all_cons,Bool.and_eq_true,decide_eq_true_eq] at hr
    refine trodAll_cons_mk (WideElems.Trod_stays hl hr.1.1 hr.1.2 h0 (fun x hx=>(Kp.below hk).same (hlt x (by simp [hx]))) (fun x hx=>hs x (by simp [hx]))) ?_
    exact trodAll_stays hl hk hr.2 h1 (fun x hx=>hlt x (by simp [hx])) (fun x hx=>hs x (by simp [hx]))
theorem law_post {fn:Func} {s:ChangeSpec} {W W':World} {args:Array Value} {ds gs:List (DataW H)} {before:List MemPlace} {tb:TypeId} {fresh handsOn again:Bool}
    (hl:laidOutB P=true) (hro:(fn.params.toList.all fun t=>P.readableRec t && decide (t<P.types.size))=true) (hrt:fn.resultTypes=#[tb]) (htb:P.underlying tb=some .bool) (hvars:s.vars=[])
    (hsp:(s.fn H (ds++gs)).results=[.lit (.bool true)]∧(s.fn H (ds++gs)).args=ds∧(s.fn H (ds++gs)).vars=[])
    (hW:DataW.Whole enc P fn.params.toList s.vars false W args.toList ds gs before) (hk:Lo W W'):s.post enc P fn false fresh handsOn again W args (.bool true) W':=by
  have hlt:∀ p∈before,p.block<W.heap.size:=fun p hp=>hW.lt p hp
  have hW':=hW
  obtain ⟨p,q,hA,hV,rfl,_,_⟩:=hW'
  rw [hvars] at hV
  obtain ⟨rfl,rfl⟩:=trodVars_none hV
  refine post_of_below (pa:=p) (pv:=[]) hW (fun b sp hd=>?_) (fun sp hs=>?_) (fun sp _=>?_) oR (Kp.below hk) ?_
  · rw [hrt,hsp.1]
    exact trodAll_cons_mk (shut_bool htb _) trodAll_mk0
  · rw [hsp.2.1]
    exact trodAll_stays hl hk hro hA (fun x hx=>hlt x (by simp [hx])) (fun x hx=>hs x (by simp [hx]))
  · rw [hsp.2.2,hvars]; rfl
  · rw [hrt]
    intro j t r ht hr
    cases j with
    | zero =>
      simp at ht; subst ht
      have hr':r=.bool true:=by simpa [Value.resultList] using hr.symm
      subst hr'
      exact okWide_bool_mk htb _
    | succ j=>simp at ht
end
def Opens {α:Type} (P:Program) (t:TypeId) (en:α→List Value) (ok:α→Prop):Prop :=
  ∀ (H:Type) (enc:TypeId × Value→H) (w:World) (base:Nat) (spare:Nat→Bool) (held:Bool) (fuel:Nat) (cs:List Value) (x:DataW H × List MemPlace),DataW.trod enc P w base spare held fuel t cs=some x→∃ a,cs=en a∧ok a
section
variable {P : Program}
theorem opens_slice {H:Type} {enc:TypeId × Value→H} {w:World} {base:Nat} {spare:Nat→Bool} {held:Bool} {fuel:Nat} {cs:List Value} {x:DataW H × List MemPlace} {α:Type} {en:α→List Value} {ok:α→Prop} {t e sz:Nat}
    (ht:P.underlying t=some (.slice e)) (he:Opens P e en ok) (hsz:P.cellsOf e=sz) (hpos:0<sz) (hen:∀ a,(en a).length=sz) (h:DataW.trod enc P w base spare held fuel t cs=some x) :
    ∃ A n c L,cs=[.slice A n c]∧SlR w w.heap.size en sz A n c L∧∀ a∈L,ok a:=by
  rcases open_slice ht h with ⟨rfl,_⟩ | ⟨a,len,cap,m,n,D,Pl,rfl,_,hl,hm,hmm,_,hi⟩
  · exact ⟨none,0,0,[],rfl,SlR.nil w hen,by simp⟩
  · have hlm:len≤m:=by rw [hmm]; split <;> omega
    have key:∀ i,i<len→∃ y,ok y∧(w.cells? base (a.add (i*sz)) sz=some (en y)):=by
      intro i hlt
      obtain ⟨cs',hc,ht'⟩:=hi i oB
      obtain ⟨y,rfl,hok⟩:=he _ _ _ _ _ _ _ _ _ ht'
      rw [hsz] at hc
      exact ⟨y,hok,hc⟩
    have hL:∀ k,k≤len→∃ L:List α,L.length=k∧(∀ a∈L,ok a)∧∀ i y,L[i]?=some y→w.cells? base (a.add (i*sz)) sz=some (en y):=by
      intro k
      induction k with
      | zero=>intro _; exact ⟨[],rfl,by simp,by simp⟩
      | succ k ih =>
        intro hk
        obtain ⟨L,h1,h2,h3⟩:=ih oB
        obtain ⟨y,hok,hc⟩:=key k oB
        refine ⟨L++[y],by simp [h1],?_,?_⟩
        · intro b hb
          rcases List.mem_append.1 hb with hb | hb
          · exact h2 b hb
          · simp at hb; subst hb; exact hok
        · intro i z hz
          rcases Nat.lt_or_ge i L.length with hlt | hge
          · rw [List.getElem?_append_left hlt] at hz; exact h3 i z hz
          · rw [List.getElem?_append_right hge] at hz
            have hi0:i-L.length=0:=by
              have:=(List.getElem?_eq_some_iff.1 hz).1; simp at this; omega
            rw [hi0] at hz; simp at hz; subst hz
            rw [show i=k by omega]; exact hc
    obtain ⟨L,h1,h2,h3⟩:=hL len (Nat.le_refl _)
    have cell:∀ i y,L[i]?=some y→∀ j u,(en y)[j]?=some u→w.cell? (a.add (i*sz+j))=some u:=by
      intro i y hy j u hu
      obtain ⟨_,_,hat⟩:=World.cells?_some (h3 i y hy)
      have hj:=(List.getElem?_eq_some_iff.1 hu).1
      rw [← hu,← hat j (by rw [hen] at hj; exact hj)]
      rw [Fw.add_add]
    refine ⟨some a,len,cap,L,rfl,⟨h1.symm,hl,hm,Nat.le_refl _,hen,fun _=>rfl,fun hn=>?_,fun i y hy j u hu=>cell i y hy j u hu⟩,h2⟩
    obtain ⟨y,hy⟩:∃ y,L[0]?=some y:=⟨L[0]'oB,List.getElem?_eq_getElem _⟩
    have h0:0<(en y).length:=by rw [hen]; exact hpos
    have:=cell 0 y hy 0 _ (List.getElem?_eq_getElem h0)
    have hb:=Go.block_lt_of_cell this
    rwa [Fw.add_block] at hb
end
end Go.Proofs.YtndcchndcghmoaaGreatDoor.Fw
namespace Go.Proofs.YtndcchndcghmoaaGreatDoor.Fw
open Go Go.RowKit
def TEl (P:Program) (t e:TypeId) (z:Value) (sz by_:Nat):Prop :=
  P.underlying t=some (.slice e)∧(P.info? e).map (fun i=>(i.zero,i.size,i.bytes))=some (some z,sz,by_)∧z.cells.size=sz∧0<sz
theorem TEl.parts {P:Program} {t e:TypeId} {z:Value} {sz by_:Nat} (h:TEl P t e z sz by_):∃ i,P.info? e=some i∧i.zero=some z∧i.size=sz∧i.bytes=by_:=by
  obtain ⟨_,h,_⟩:=h
  cases hi:P.info? e with
  | none=>simp [hi] at h
  | some i=>exact ⟨i,rfl,by simpa [hi] using h⟩
theorem TEl.size {P:Program} {t e:TypeId} {z:Value} {sz by_:Nat} (h:TEl P t e z sz by_) (w:World):(sizeOf e).run P w=.ok sz w:=by
  obtain ⟨i,hi,_,hs,_⟩:=h.parts
  simp [sizeOf,typeInfo,Sem.run_bind,program,Sem.run,hi,hs]
section
variable {α : Type} {enc : α → List Value} {sz : Nat}
theorem flat_rep (z:Value) (x:α) (hz:z.cells=(enc x).toArray) (he:∀ x,(enc x).length=sz) (hpos:0<sz) (n:Nat):(madeCells z.cells (n*sz)).toList=(List.replicate n x).flatMap enc:=by
  apply List.ext_getElem?
  intro j
  by_cases hj:j<n*sz
  · have h1:j / sz<n:=(Nat.div_lt_iff_lt_mul hpos).2 hj
    have h2:j % sz<(enc x).length:=by rw [he]; exact Nat.mod_lt _ hpos
    have h3:=flat_get he (List.replicate n x) (j / sz) (j % sz) x _ (by simp [h1]) (List.getElem?_eq_getElem h2)
    rw [show j / sz*sz+j % sz=j by rw [Nat.mul_comm]; exact Nat.div_add_mod j sz] at h3
    rw [h3]
    have hs:z.cells.size=sz:=by rw [hz]; simpa using he x
    simp only [madeCells,Array.toList_map,Array.toList_range,List.getElem?_map,List.getElem?_range hj,Option.map_some]
    congr 1
    rw [hs]
    have h4:j % sz<z.cells.size:=by rw [hs]; exact Nat.mod_lt _ hpos
    rw [getElem!_pos z.cells (j % sz) h4]
    simp [hz]
  · have h1:((List.replicate n x).flatMap enc).length=n*sz:=by rw [flat_len he]; simp
    rw [List.getElem?_eq_none (by simp [madeCells]; omega),List.getElem?_eq_none oB]
end
section
variable {α : Type} {P : Program} {ops : Array Oper} {N R : Act → World → Prop} {X : Nat → Act → World → Prop} {n : Nat} {rest : List Oper} {f : Env} {w : World} {v : Value} {d : Nat} {t e ty : TypeId} {p : String} {af : Array Edge} {x y : Operand} {enc : α → List Value} {sz by_ : Nat} {z : Value}
theorem SR.make {m:Nat} {zx:α} (ht:TEl P t e z sz by_) (hzx:z.cells=(enc zx).toArray) (he:∀ x,(enc x).length=sz) (hx:ev n f x=.int .i64 m) (hy:ev n f y=.int .i64 m) (hb:by_*m≤281474976710656) (hm:(m:Int)≤9223372036854775807)
    (h:∀ g w',g=w.heap.size→Lo w w'→SlO w' w.heap.size enc sz e (some ⟨g,0,none⟩) m m (List.replicate m zx)→SR P ops N R X n rest (set f d (.slice (some ⟨g,0,none⟩) m m)) w') :
    SR P ops N R X n (⟨some d,.makeSlice t x y,ty,p,af,none⟩ :: rest) f w:=by
  obtain ⟨i,hi,hz,hs,hby⟩:=ht.parts
  have hmm:m≤maxLen:=by unfold maxLen; omega
  obtain ⟨w',hr,hown,hg⟩:=run_make_full (P:=P) w w.heap.size t e i z sz ht.1 hi hz hs .i64 .i64 m (by rw [hby]; exact hb) hmm (Nat.le_refl _)
  refine SR.run (w':=w') (v:=.slice (some ⟨w.heap.size,0,none⟩) m m) ?_ rfl rfl (h _ w' rfl ((kp_of hg).sub (fun k hk=>by cases hk)) ?_)
  · simp [execOp,hx,hy,hr]
  · rw [flat_rep z zx hzx he ht.2.2.2] at hown
    exact ⟨hown,by simp,he,hg.size⟩
theorem SR.storeO {base c m i o:Nat} {A:Option Addr} {L:List α} {a:Addr} {vs:List Value} {x0 x1:α} {t':TypeId} (hs:∀ w,(sizeOf t').run P w=.ok vs.length w) (hx:ev n f x=.pointer (some a)) (ha:a=(adr A).add (i*sz+o))
    (hy:ev n f y=v) (hv:v.cells=vs.toArray) (hO:SlO w base enc sz e A m c L) (hi:L[i]?=some x0) (he:enc x1=spl (enc x0) o vs) (hso:o+vs.length≤sz) (h1:vs.all (·.oneCell')=true)
    (h:∀ w',Kp (fun k=>A=some ⟨k,0,none⟩) w w'→w'.heap.size=w.heap.size→SlO w' base enc sz e A m c (L.set i x1)→SR P ops N R X n rest f w') :
    SR P ops N R X n (⟨none,.store t' x y,ty,p,af,none⟩ :: rest) f w:=by
  have hil:i<L.length:=(List.getElem?_eq_some_iff.1 hi).1
  rcases hO.row.2 with ⟨_,h0⟩ | ⟨g,cap,cur,hval,hb,hh,hn,hmx,hcs,htk⟩
  · have:=hO.len; omega
  · injection hval with e1 e2 e3
    subst e1 e3
    have ha':a=⟨g,i*sz+o,none⟩:=by rw [ha]; show (⟨g,0,none⟩:Addr).add _=_; rw [add_at,Nat.zero_add]
    subst ha'
    have hlen:=hO.len
    have hmul:i*sz+sz≤c*sz:=by
      have:(i+1)*sz≤c*sz:=Nat.mul_le_mul_right _ oB
      rwa [Nat.add_mul,Nat.one_mul] at this
    have hmul2:i*sz+sz≤m*sz:=by
      have:(i+1)*sz≤m*sz:=Nat.mul_le_mul_right _ oB
      rwa [Nat.add_mul,Nat.one_mul] at this
    have hst:=run_storeCells_at (P:=P) g (i*sz+o) e vs 0 cur w hh (by rw [hcs]; omega) (fun u hu=>List.all_eq_true.1 h1 u hu)
    simp only [Nat.add_zero] at hst
    refine SR.run_skip (w':=w.setRow g (cur.toList.take (i*sz+o)++vs++cur.toList.drop (i*sz+o+vs.length)).toArray) ?_ rfl rfl (h _ ?_ ?_ ?_)
    · have hv':v.cells.toList=vs:=by rw [hv]
      simp [execOp,hx,hy,Instr.storeAt,Instr.sureAddr,storeVar,hs w,hv,hst]
    · refine ⟨rfl,rfl,rfl,by simp [World.setRow],fun k hk hne=>?_⟩
      have:¬g=k:=fun e=>hne (by subst e; rfl)
      simp [World.setRow,Array.getElem?_modify,this]
    · simp [World.setRow]
    · have hcl:cur.toList.length=c*sz:=by simpa using hcs
      have hszr:((cur.toList.take (i*sz+o)++vs++cur.toList.drop (i*sz+o+vs.length)).toArray).size=c*sz:=by
        simp only [List.size_toArray,List.length_append,List.length_take,List.length_drop,hcl]; omega
      refine ⟨⟨?_,.inr ⟨g,c,_,rfl,hb,setRow_heap w g cur _ e _ hh,hn,hmx,hszr,?_⟩⟩,by simpa using hO.len,hO.esz,by simpa [World.setRow] using hO.bd⟩
      · rw [flat_len hO.esz,List.length_set,← hO.len]
      · -- the first m*sz cells
        have hfl:(L.flatMap enc).length=m*sz:=by rw [flat_len hO.esz,← hO.len]
        apply List.ext_getElem?
        intro j
        rw [List.getElem?_take]
        by_cases hj:j<m*sz
        · rw [if_pos hj]
          have hcur:∀ k,k<m*sz→cur.toList[k]?=(L.flatMap enc)[k]?:=fun k hk=>by rw [← htk,List.getElem?_take,if_pos hk]
          -- which element and which cell
          have hpos:0<sz:=Nat.pos_of_ne_zero fun h0=>by subst h0; simp at hj
          have hq:j / sz<m:=(Nat.div_lt_iff_lt_mul hpos).2 hj
          have hje:j / sz*sz+j % sz=j:=by rw [Nat.mul_comm]; exact Nat.div_add_mod j sz
          have hr:j % sz<sz:=Nat.mod_lt _ hpos
          by_cases hqi:j / sz=i
          · have h5:=flat_get hO.esz (L.set i x1) i (j % sz) x1 _ (by simp [hil]) (List.getElem?_eq_getElem (by rw [hO.esz]; exact hr))
            have h6:=flat_get hO.esz L i (j % sz) x0 _ hi (List.getElem?_eq_getElem (by rw [hO.esz]; exact hr))
            rw [← hqi,hje] at h5 h6
            simp only [hqi] at h5
            rw [h5,← List.getElem?_eq_getElem,he]
            have hjr:j=i*sz+j % sz:=by rw [← hqi]; exact hje.symm
            simp only [spl]
            have hx0l:=hO.esz x0
            rcases Nat.lt_or_ge (j % sz) o with ho | ho
            · rw [List.append_assoc,List.append_assoc,List.getElem?_append_left (by simp [hcs]; omega),List.getElem?_append_left (by simp [hx0l]; omega),List.getElem?_take,List.getElem?_take,if_pos (show j<i*sz+o by omega),if_pos ho,hcur j hj,h6,← List.getElem?_eq_getElem]
            · rcases Nat.lt_or_ge (j % sz) (o+vs.length) with ho2 | ho2
              · have hA:(cur.toList.take (i*sz+o)).length=i*sz+o:=by rw [List.length_take,hcl]; omega
                have hX:((enc x0).take o).length=o:=by rw [List.length_take,hx0l]; omega
                rw [List.append_assoc,List.append_assoc,List.getElem?_append_right (show (cur.toList.take (i*sz+o)).length≤j by rw [hA]; omega),hA,
                  List.getElem?_append_right (show ((enc x0).take o).length≤j % sz by rw [hX]; omega),hX,
                  List.getElem?_append_left (show j-(i*sz+o)<vs.length by omega),List.getElem?_append_left (show j % sz-o<vs.length by omega)]
                congr 1
                omega
              · rw [List.getElem?_append_right (by simp [hcs]; omega),List.getElem?_append_right (by simp [hx0l]; omega),List.getElem?_drop,List.getElem?_drop]
                rw [show i*sz+o+vs.length+(j-(cur.toList.take (i*sz+o)++vs).length)=j by simp [hcs]; omega]
                rw [show o+vs.length+(j % sz-((enc x0).take o++vs).length)=j % sz by simp [hx0l]; omega]
                rw [hcur j hj,h6,← List.getElem?_eq_getElem]
          · have hne:(L.set i x1)[j / sz]?=L[j / sz]?:=by rw [List.getElem?_set_ne (fun e=>hqi e.symm)]
            obtain ⟨x2,hx2⟩:∃ x2,L[j / sz]?=some x2:=⟨L[j / sz]'oB,List.getElem?_eq_getElem _⟩
            have h5:=flat_get hO.esz (L.set i x1) (j / sz) (j % sz) x2 _ (hne.trans hx2) (List.getElem?_eq_getElem (by rw [hO.esz]; exact hr))
            have h6:=flat_get hO.esz L (j / sz) (j % sz) x2 _ hx2 (List.getElem?_eq_getElem (by rw [hO.esz]; exact hr))
            rw [hje] at h5 h6
            rw [h5,← h6,← hcur j hj]
            rcases Nat.lt_or_ge j (i*sz) with hlt | hge
            · rw [List.append_assoc,List.getElem?_append_left (by simp [hcs]; omega),List.getElem?_take,if_pos (show j<i*sz+o by omega)]
            · have hgt:i*sz+sz≤j:=by
                rcases Nat.lt_or_ge j (i*sz+sz) with h7 | h7
                · exfalso; apply hqi
                  have h8:j / sz<i+1:=(Nat.div_lt_iff_lt_mul hpos).2 (by rw [Nat.add_mul,Nat.one_mul]; exact h7)
                  have h9:i≤j / sz:=(Nat.le_div_iff_mul_le hpos).2 hge
                  omega
                · exact h7
              rw [List.getElem?_append_right (by simp [hcs]; omega),List.getElem?_drop]
              rw [show i*sz+o+vs.length+(j-(cur.toList.take (i*sz+o)++vs).length)=j by simp [hcs]; omega]
        · rw [if_neg hj,List.getElem?_eq_none (by rw [flat_len hO.esz,List.length_set,← hO.len]; omega)]
end
theorem foldl_set (o:Nat):∀ (cs:List Value) (j:Nat) (arr:Array Value),o+j+cs.length≤arr.size →
    ((cs.zipIdx j).foldl (fun a (q:Value × Nat)=>a.setIfInBounds (o+q.2) q.1) arr).toList=arr.toList.take (o+j)++cs++arr.toList.drop (o+j+cs.length)
  | [],j,arr,_=>by simp
  | c :: cs,j,arr,h=>by
    have h':o+j<arr.size:=by simp at h; omega
    simp only [List.zipIdx_cons,List.foldl_cons]
    rw [foldl_set o cs (j+1) (arr.setIfInBounds (o+j) c) (by simp at h ⊢; omega)]
    rw [Array.toList_setIfInBounds,← Nat.add_assoc,List.take_add_one,List.getElem?_set_self (by simpa using h'),List.take_set_of_le (Nat.le_refl _),List.drop_set_of_lt oB]
    simp only [Option.toList_some,List.append_assoc,List.cons_append,List.nil_append,List.length_cons]
    rw [show o+j+1+cs.length=o+j+(cs.length+1) by omega]
section
variable {α : Type} {enc : α → List Value} {sz : Nat}
theorem fill_list (he:∀ x,(enc x).length=sz):∀ (L:List α) (vs:List Value) (k:Nat) (cells:Array Value),vs.map Value.cells=L.map (fun x=>(enc x).toArray)→cells.size=(k+L.length)*sz →
    Instr.fill (fun i=>some (i*sz,sz)) cells ((vs.zipIdx k).map fun q=>(q.2,q.1))=some (cells.toList.take (k*sz)++L.flatMap enc).toArray
  | [],vs,k,cells,hv,hc=>by
    have:vs=[]:=by simpa using hv
    subst this
    simp only [List.zipIdx_nil,List.map_nil,Instr.fill,List.flatMap_nil,List.append_nil]
    rw [List.take_of_length_le (by simp at hc ⊢; omega)]
  | x :: L,vs,k,cells,hv,hc=>by
    match vs,hv with
    | v :: vs,hv =>
      simp only [List.map_cons,List.cons.injEq] at hv
      obtain ⟨hv1,hv2⟩:=hv
      have hs:(enc x).length=sz:=he x
      have e1:(k+(L.length+1))*sz=k*sz+sz+L.length*sz:=by rw [Nat.add_mul,Nat.add_mul,Nat.one_mul]; omega
      simp only [List.length_cons] at hc
      simp only [List.zipIdx_cons,List.map_cons,Instr.fill,hv1,List.size_toArray,hs]
      rw [if_neg (by simp; omega)]
      have hf:=foldl_set (k*sz) (enc x) 0 cells (by rw [hs]; omega)
      have hz:((enc x).toArray.zipIdx.foldl (fun cs (q:Value × Nat)=>cs.setIfInBounds (k*sz+q.2) q.1) cells).toList=cells.toList.take (k*sz)++enc x++cells.toList.drop (k*sz+sz):=by
        rw [← Array.foldl_toList]
        simpa [hs] using hf
      have hsz:((enc x).toArray.zipIdx.foldl (fun cs (q:Value × Nat)=>cs.setIfInBounds (k*sz+q.2) q.1) cells).size=(k+1+L.length)*sz:=by
        rw [← Array.length_toList,hz]
        simp only [List.length_append,List.length_take,List.length_drop,hs,Array.length_toList]
        rw [show (k+1+L.length)*sz=k*sz+sz+L.length*sz by rw [Nat.add_mul,Nat.add_mul,Nat.one_mul]]
        omega
      have ih:=fill_list he L vs (k+1) _ hv2 hsz
      refine Eq.trans ih ?_
      rw [hz]
      congr 2
      rw [List.flatMap_cons,← List.append_assoc]
      congr 1
      rw [List.take_append_of_le_length (by simp [hs]; rw [Nat.add_mul,Nat.one_mul]; omega),List.take_of_length_le (by simp [hs]; rw [Nat.add_mul,Nat.one_mul]; omega)]
end
section
variable {α : Type} {P : Program} {ops : Array Oper} {N R : Act → World → Prop} {X : Nat → Act → World → Prop} {n : Nat} {rest : List Oper} {f : Env} {w : World} {v : Value} {d : Nat} {t e ty : TypeId} {p : String} {af : Array Edge} {x y : Operand} {enc : α → List Value} {sz by_ : Nat} {z : Value}
theorem SR.lit {ps:List (Nat × Operand)} {vs:List Value} {L:List α} {len:Nat} (ht:TEl P t e z sz by_) (he:∀ x,(enc x).length=sz) (hp:ps.map (fun q=>(q.1,ev n f q.2))=(vs.zipIdx 0).map fun q=>(q.2,q.1)) (hv:vs.map Value.cells=L.map (fun x=>(enc x).toArray))
    (hl:len=L.length) (hsm:len*sz≤16777216)
    (h:∀ g w',g=w.heap.size→Lo w w'→SlO w' w.heap.size enc sz e (some ⟨g,0,none⟩) len len L→SR P ops N R X n rest (set f d (.slice (some ⟨g,0,none⟩) len len)) w') :
    SR P ops N R X n (⟨some d,.buildSlice t len ps.toArray,ty,p,af,none⟩ :: rest) f w:=by
  obtain ⟨i,hi,hz,hs,hby⟩:=ht.parts
  have hpos:=ht.2.2.2
  subst hl
  have hfl:(L.flatMap enc).length=L.length*sz:=flat_len he L
  have key:(Instr.buildSlice t L.length (ps.toArray.map fun (q:Nat × Operand)=>(q.1,ev n f q.2))).run P w=.ok (.slice (some ⟨w.heap.size,0,none⟩) L.length L.length) (w.alloc (.cells (L.flatMap enc).toArray e)):=by
    rw [List.map_toArray,hp]
    rcases Nat.eq_zero_or_pos L.length with h0 | h0
    · have hL:L=[]:=List.eq_nil_of_length_eq_zero h0
      subst hL
      have hvs:vs=[]:=by simpa using hv
      subst hvs
      simp [Instr.buildSlice,run_underlying ht.1,sizeOf,typeInfo,hi,Instr.fill,newRow,newObj,Sem.run]
      rw [show (Array.map (fun _:Nat=>(default:Value)) (Array.range 0))=#[] from Array.eq_empty_of_size_eq_zero oR]
    · have hm:0<L.length*sz:=Nat.mul_pos h0 hpos
      have hf:=fill_list he L vs 0 ((Array.range (L.length*sz)).map (z.cells[· % z.cells.size]!)) hv oR
      simp only [Nat.zero_mul,List.take_zero,List.nil_append] at hf
      refine run_buildSlice w t e L.length _ _ i z ht.1 hi hz (by rw [hs]; omega) (by rw [hs]; omega) ?_
      rw [hs]; exact hf
  refine SR.run (v:=.slice (some ⟨w.heap.size,0,none⟩) L.length L.length) (w':=w.alloc (.cells (L.flatMap enc).toArray e)) ?_ rfl rfl (h _ _ rfl (Lo.alloc _ _) ?_)
  · simp only [execOp,Sem.run_bind,key,Result.andThen_ok]; rfl
  · have hml:L.length≤maxLen:=by
      have:L.length*1≤L.length*sz:=Nat.mul_le_mul_left _ hpos
      unfold maxLen; omega
    refine ⟨?_,rfl,he,by simp⟩
    have:=World.ownsRow_lit (base:=w.heap.size) (e:=e) (size:=sz) w (L.flatMap enc).toArray L.length (Nat.le_refl _) hml (by simpa using hfl)
    simpa using this
theorem SR.app {base B m k c c2:Nat} {A A2:Option Addr} {L L2:List α} (ht:TEl P t e z sz by_) (hs:ev n f x=.slice A m c) (hx:ev n f y=.slice A2 k c2) (hO:SlO w base enc sz e A m c L) (hR:SlR w B enc sz A2 k c2 L2)
    (h1:∀ x,(enc x).all (·.oneCell')=true) (hb:(m+k)*by_≤140737488355328) (hm:m+k≤9223372036854775807)
    (h:∀ A' c' w',Kp (fun b=>A=some ⟨b,0,none⟩) w w'→SlO w' base enc sz e A' (m+k) c' (L++L2)→(∀ b,A'=some ⟨b,0,none⟩→A=A'∨w.heap.size≤b)→SR P ops N R X n rest (set f d (.slice A' (m+k) c')) w') :
    SR P ops N R X n (⟨some d,.call ⟨.builtin .append,#[x,y],#[t,t]⟩,ty,p,af,none⟩ :: rest) f w:=by
  obtain ⟨i,hi,hz,hsz,hby⟩:=ht.parts
  have hpos:=ht.2.2.2
  have hmax:m+k≤maxLen:=by unfold maxLen; omega
  rcases A2 with _ | a
  · have hk:k=0:=by
      rcases Nat.eq_zero_or_pos k with h0 | h0
      · exact h0
      · have:=hR.some h0; simp at this
    have hL2:L2=[]:=List.eq_nil_of_length_eq_zero (by have:=hR.len; omega)
    subst hk hL2
    have hrun:(Builtin.append_ #[t,t] ty #[.slice A m c,.slice none 0 c2]).run P w=.ok (.slice A m c) w:=by
      rcases hO.row.2 with ⟨h0,_⟩ | ⟨g,cap,cur,h0,_,_,hnc,_⟩
      · injection h0 with e1 e2 e3
        subst e1 e2 e3
        simp [Builtin.append_,run_underlying ht.1,sizeOf,typeInfo,hi,Builtin.lenOf,Builtin.firstCells]
      · injection h0 with e1 e2 e3
        subst e1 e3
        simp [Builtin.append_,run_underlying ht.1,sizeOf,typeInfo,hi,Builtin.lenOf,Builtin.firstCells,hnc,storeCells]
    refine SR.run (v:=.slice A (m+0) c) (w':=w) ?_ rfl rfl (h A c w (Kp.refl _) (by simpa using hO) (fun _ _=>.inl rfl))
    simp [execOp,resolve,invoke,builtin,hs,hx,hrun]
  · have hcells:∀ j u,(L2.flatMap enc)[j]?=some u→w.cell? (a.add j)=some u:=by
      intro j u hu
      have hj:j<k*sz:=by rw [hR.len,← flat_len hR.esz]; exact (List.getElem?_eq_some_iff.1 hu).1
      have hq:j / sz<L2.length:=by rw [← hR.len]; exact (Nat.div_lt_iff_lt_mul hpos).2 hj
      have hje:j / sz*sz+j % sz=j:=by rw [Nat.mul_comm]; exact Nat.div_add_mod j sz
      have hr:j % sz<(enc L2[j / sz]).length:=by rw [hR.esz]; exact Nat.mod_lt _ hpos
      have h6:=flat_get hR.esz L2 (j / sz) (j % sz) _ _ (List.getElem?_eq_getElem hq) (List.getElem?_eq_getElem hr)
      rw [hje,hu] at h6
      have:=hR.at_ (j / sz) _ (List.getElem?_eq_getElem hq) (j % sz) _ (List.getElem?_eq_getElem hr)
      rw [hje] at this
      rw [h6]; exact this
    obtain ⟨v',w',hrun,hown,hg,_,hat⟩:=run_append_own_at (P:=P) w base t ty e i z sz by_ ht.1 hi hz hsz hby ht.2.2.1 hpos (.slice A m c) m (L.flatMap enc) hO.row a k c2 (L2.flatMap enc)
      (by rw [flat_len hR.esz,← hR.len]) hcells (fun u hu=>by
        obtain ⟨q,hq,hu⟩:=List.mem_flatMap.1 hu
        exact List.all_eq_true.1 (h1 q) u hu) hmax hb hO.bd
    have hform:∃ A' c',v'=.slice A' (m+k) c':=by
      rcases hown.2 with ⟨h0,h2⟩ | ⟨g,cap,cur,h0,_⟩
      · exact ⟨none,0,by rw [h0,h2]⟩
      · exact ⟨_,_,h0⟩
    obtain ⟨A',c',rfl⟩:=hform
    have hAb:∀ b,A=some ⟨b,0,none⟩→(Value.slice A m c).ownBlock=some b:=fun b hb=>by subst hb; rfl
    refine SR.run (v:=.slice A' (m+k) c') (w':=w') ?_ rfl rfl (h A' c' w' ?_ ?_ ?_)
    · simp [execOp,resolve,invoke,builtin,hs,hx,hrun]
    · refine (kp_of hg).sub fun b hb=>?_
      rcases hO.row.2 with ⟨h0,_⟩ | ⟨g,cap,cur,h0,_⟩
      · injection h0 with e1 e2 e3
        subst e1; cases hb
      · injection h0 with e1 e2 e3
        subst e1
        simp only [Value.ownBlock,Option.some.injEq] at hb
        subst hb; rfl
    · exact ⟨by rw [List.flatMap_append]; exact hown,by rw [List.length_append,← hO.len,← hR.len],hO.esz,Nat.le_trans hO.bd hg.size⟩
    · intro b hb
      subst hb
      rcases hat with h2 | h2
      · left
        rcases hO.row.2 with ⟨h0,_⟩ | ⟨g,cap,cur,h0,_⟩
        · injection h0 with e1 e2 e3
          subst e1; simp [Value.ownBlock] at h2
        · injection h0 with e1 e2 e3
          subst e1
          simp only [Value.ownBlock,Option.some.injEq] at h2
          subst h2; rfl
      · right
        simp only [Value.ownBlock,Option.some.injEq] at h2
        omega
end
def cutA (A:Option Addr) (c l sz:Nat):Option Addr:=if c=l then A else A.map (·.add (l*sz))
section
variable {α : Type} {P : Program} {n : Nat} {f : Env} {w : World} {v : Value} {d : Option Tmp} {t ty e : TypeId} {p : String} {af : Array Edge} {g : Option (Nat × Bool)} {x a b : Operand} {enc : α → List Value} {sz B m c l h : Nat} {A : Option Addr} {L : List α} {k k' : IntKind}
theorem SlR.cut (hR:SlR w B enc sz A m c L) (hl:l≤h) (hh:h≤m):SlR w B enc sz (cutA A c l sz) (h-l) (c-l) ((L.drop l).take (h-l)):=by
  have hlen:=hR.len; have hcap:=hR.cap
  refine ⟨by rw [List.length_take,List.length_drop]; omega,oB,by have:=hR.max; omega,hR.bd,hR.esz,fun h0=>?_,fun h0=>?_,fun i y hy j u hu=>?_⟩
  · have:=hR.some oB
    unfold cutA; split <;> simpa using this
  · have h1:=hR.some oB; have h2:=hR.blk oB
    obtain ⟨ad,rfl⟩:=Option.isSome_iff_exists.1 h1
    unfold cutA; split
    · exact h2
    · show (ad.add (l*sz)).block<B
      rw [add_block]; exact h2
  · rw [List.getElem?_take] at hy
    split at hy
    · rename_i hi
      rw [List.getElem?_drop] at hy
      have h1:=hR.some oB
      obtain ⟨ad,rfl⟩:=Option.isSome_iff_exists.1 h1
      have h3:=hR.at_ (l+i) y hy j u hu
      unfold cutA
      rw [if_neg oB]
      show w.cell? ((ad.add (l*sz)).add (i*sz+j))=_
      rw [add_add,show l*sz+(i*sz+j)=(l+i)*sz+j by rw [Nat.add_mul]; omega]
      exact h3
    · cases hy
theorem SlR.head (hR:SlR w B enc sz A m c L) (hh:h≤m):SlR w B enc sz A h c (L.take h):=by
  have hlen:=hR.len; have hcap:=hR.cap
  refine ⟨by rw [List.length_take]; omega,oB,hR.max,hR.bd,hR.esz,fun h0=>hR.some oB,fun h0=>hR.blk oB,fun i y hy j u hu=>?_⟩
  rw [List.getElem?_take] at hy
  split at hy
  · exact hR.at_ i y hy j u hu
  · cases hy
theorem SlO.head {base:Nat} (hO:SlO w base enc sz e A m c L) (hh:h≤m):SlO w base enc sz e A h c (L.take h):=by
  have hlen:=hO.len
  have hfl:((L.take h).flatMap enc).length=h*sz:=by rw [flat_len hO.esz,List.length_take]; congr 1; omega
  refine ⟨⟨hfl,?_⟩,by rw [List.length_take]; omega,hO.esz,hO.bd⟩
  rcases hO.row.2 with ⟨h0,h1⟩ | ⟨g,cap,cur,hv,hb,hg,hn,hm,hs,ht⟩
  · injection h0 with e1 e2 e3
    subst e1 e2 e3
    have:h=0:=by omega
    subst this
    exact .inl ⟨rfl,rfl⟩
  · injection hv with e1 e2 e3
    subst e1 e3
    refine .inr ⟨g,c,cur,rfl,hb,hg,oB,hm,hs,?_⟩
    have h2:L.flatMap enc=(L.take h).flatMap enc++(L.drop h).flatMap enc:=by rw [← List.flatMap_append,List.take_append_drop]
    rw [h2] at ht
    have h3:h*sz≤m*sz:=Nat.mul_le_mul_right _ hh
    have h4:(cur.toList.take (m*sz)).take (h*sz)=cur.toList.take (h*sz):=by rw [List.take_take,Nat.min_eq_left h3]
    rw [ht,List.take_left' hfl] at h4
    exact h4.symm
theorem r_cut {zl zh:Int} (ht:TSl P t e sz) (hx:ev n f x=.slice A m c) (ha:ev n f a=.int k zl) (hb:ev n f b=.int k' zh) (hzl:zl=(l:Int)) (hzh:zh=(h:Int)) (hl:l≤h) (hh:h≤c) :
    Run P ⟨d,.slice t x (some a) (some b) none,ty,p,af,g⟩ n f w (.slice (cutA A c l sz) (h-l) (c-l)):=by
  subst hzl hzh
  have h1:(l:Int)≤(h:Int):=by omega
  have h2:(h:Int)≤(c:Int):=by omega
  unfold Run cutA
  simp [execOp,hx,ha,hb,Instr.sliceAt,Instr.slice,run_underlying ht.1,Instr.sliceBounds,Instr.sliceBound,asIntOf,hl,hh,ht.2 w]
theorem r_cutl {zl:Int} (ht:TSl P t e sz) (hx:ev n f x=.slice A m c) (ha:ev n f a=.int k zl) (hzl:zl=(l:Int)) (hl:l≤m) :
    Run P ⟨d,.slice t x (some a) none none,ty,p,af,g⟩ n f w (.slice (cutA A c l sz) (m-l) (c-l)):=by
  subst hzl
  unfold Run cutA
  simp [execOp,hx,ha,Instr.sliceAt,Instr.slice,run_underlying ht.1,Instr.sliceBounds,Instr.sliceBound,asIntOf,hl,ht.2 w]
theorem r_cuth {zh:Int} (ht:TSl P t e sz) (hx:ev n f x=.slice A m c) (hb:ev n f b=.int k' zh) (hzh:zh=(h:Int)) (hh:h≤c) :
    Run P ⟨d,.slice t x none (some b) none,ty,p,af,g⟩ n f w (.slice A h c):=by
  subst hzh
  have e:(Option.map (fun x:Addr=>x.add 0) A)=A:=by cases A <;> simp [Addr.add]
  unfold Run
  simp [execOp,hx,hb,Instr.sliceAt,Instr.slice,run_underlying ht.1,Instr.sliceBounds,Instr.sliceBound,asIntOf,hh,ht.2 w,e]
end
end Go.Proofs.YtndcchndcghmoaaGreatDoor.Fw
namespace Go.Proofs.YtndcchndcghmoaaGreatDoor.Fw
section
variable {α : Type} {L L' : List α} {k n m : Nat} {x y z : α}
theorem take_next (h:L.take k=L'.take k) (hx:L[k]?=some x) (hy:L'[k]?=some y) (e:x=y):L.take (k+1)=L'.take (k+1):=by
  subst e
  rw [List.take_add_one,List.take_add_one,hx,hy,h]
theorem take_end (h:L.take k=L'.take k) (hn:n=L.length) (hm:m=L'.length) (e:n=m) (hk:¬(k:Int)<(n:Int)):L=L':=by
  rw [← List.take_of_length_le (l:=L) (i:=k) oB,h,List.take_of_length_le oB]
theorem ne_at (hx:L[k]?=some x) (hy:L'[k]?=some y) (e:¬x=y):¬L=L':=by
  rintro rfl
  rw [hx] at hy; exact e (by simpa using hy)
end
end Go.Proofs.YtndcchndcghmoaaGreatDoor.Fw
namespace Go.Proofs.YtndcchndcghmoaaGreatDoor.Fw
open Go Go.RowKit
def AH (P:Program) (ops:Array Oper) (N R:Act→World→Prop) (X:Nat→Act→World→Prop) (S:World→Prop) (n fuel:Nat) (listed:Array Bool) (f:Env) (w:World):Prop :=
  wpAnyH P .any ops (mk N R X) S fuel listed (act n f) w
section
variable {P : Program} {N R : Act → World → Prop} {X : Nat → Act → World → Prop} {S : World → Prop} {n fuel : Nat} {listed : Array Bool} {f : Env} {w : World} {l : List Oper} {v : Value} {op : Op} {t : TypeId} {p : String} {af : Array Edge} {d : Nat} {J : Env → World → Prop}
def Wn (l:List Oper) (n:Nat) (f:Env) (o:Oper):Prop :=
  match o.guard with
  | none=>True
  | some (j,b)=>yn l f n j=some b
theorem Wn.wanted {o:Oper} (h:Wn l n f o):Region.wanted o (yielded l.toArray (act n f).tmps)=true:=by
  unfold Wn at h
  unfold Region.wanted
  cases hg:o.guard with
  | none=>rfl
  | some jb =>
    obtain ⟨j,b⟩:=jb
    rw [hg] at h
    simp only at h ⊢
    rw [yielded_act,h]; simp
def tk (l:List Oper) (listed:Array Bool) (i:Nat):Bool:=Region.noSelect l.toArray && Region.free .any l.toArray listed i && (Region.ready .any l.toArray listed).contains i
theorem tk_spec {i:Nat} (h:tk l listed i=true):Region.noSelect l.toArray=true∧Region.free .any l.toArray listed i=true∧(Region.ready .any l.toArray listed).contains i=true:=by
  unfold tk at h
  simp only [Bool.and_eq_true] at h
  exact ⟨h.1.1,h.1.2,h.2⟩
variable {gd : Option (Nat × Bool)} {j : Nat} {b : Bool}
theorem AH.take (i:Nat) (hi:l[i]?=some ⟨some d,op,t,p,af,gd⟩) (hk:tk l listed i=true) (hy:Wn l n f ⟨some d,op,t,p,af,gd⟩)
    (hS:S w) (hrun:∀ w',S w'→Run P ⟨some d,op,t,p,af,gd⟩ n f w' v) (k:AH P l.toArray N R X S n fuel (listed.setIfInBounds i true) (set f d v) w):AH P l.toArray N R X S n (fuel+1) listed f w:=by
  unfold AH at *
  obtain ⟨hs,hf,hr⟩:=tk_spec hk
  have hi':l.toArray[i]?=some ⟨some d,op,t,p,af,gd⟩:=by simpa using hi
  refine wpAnyH_take hi' hs hf hr (fun c a w h=>h.elim) (v:=v) (.inl ⟨hy.wanted,fun w' hw'=>?_⟩) hS ?_
  · have:=hrun w' hw'
    unfold Run at this
    rw [eval_act]; exact this
  · rw [put_act]; exact k
theorem AH.skip {dd:Option Nat} (i:Nat) (hi:l[i]?=some ⟨dd,op,t,p,af,some (j,b)⟩) (hk:tk l listed i=true) (hy:¬yn l f n j=some b)
    (hS:S w) (k:AH P l.toArray N R X S n fuel (listed.setIfInBounds i true) (match dd with | some d=>set f d undef | none=>f) w):AH P l.toArray N R X S n (fuel+1) listed f w:=by
  unfold AH at *
  obtain ⟨hs,hf,hr⟩:=tk_spec hk
  have hi':l.toArray[i]?=some ⟨dd,op,t,p,af,some (j,b)⟩:=by simpa using hi
  refine wpAnyH_take hi' hs hf hr (fun c a w h=>h.elim) (v:=undef) (.inr ⟨?_,rfl⟩) hS ?_
  · simp only [Region.wanted,yielded_act]
    cases hyn:yn l f n j with
    | none=>rfl
    | some c=>
      have:¬c=b:=fun e=>hy (by rw [hyn,e])
      simpa using this
  · cases dd with
    | none=>exact k
    | some d=>rw [put_act]; exact k
theorem AH.s' (i:Nat) (hi:l[i]?=some ⟨some d,op,t,p,af,some (j,b)⟩) (hk:tk l listed i=true) (hy:yn l f n j=some (!b))
    (hS:S w) (k:AH P l.toArray N R X S n fuel (listed.setIfInBounds i true) (set f d undef) w):AH P l.toArray N R X S n (fuel+1) listed f w :=
  AH.skip i hi hk (by rw [hy]; cases b <;> simp) hS k
theorem AH.u' (i:Nat) (hi:l[i]?=some ⟨some d,op,t,p,af,some (j,b)⟩) (hk:tk l listed i=true) (hy:yn l f n j=none)
    (hS:S w) (k:AH P l.toArray N R X S n fuel (listed.setIfInBounds i true) (set f d undef) w):AH P l.toArray N R X S n (fuel+1) listed f w :=
  AH.skip i hi hk (by rw [hy]; simp) hS k
theorem AH.s0 (i:Nat) (hi:l[i]?=some ⟨none,op,t,p,af,some (j,b)⟩) (hk:tk l listed i=true) (hy:yn l f n j=some (!b))
    (hS:S w) (k:AH P l.toArray N R X S n fuel (listed.setIfInBounds i true) f w):AH P l.toArray N R X S n (fuel+1) listed f w :=
  AH.skip i hi hk (by rw [hy]; cases b <;> simp) hS k
theorem AH.split (ht:b=true→AH P l.toArray N R X S n fuel listed (set f d (.bool true)) w) (hf:b=false→AH P l.toArray N R X S n fuel listed (set f d (.bool false)) w):AH P l.toArray N R X S n fuel listed (set f d (.bool b)) w:=by
  cases b
  · exact hf rfl
  · exact ht rfl
theorem AH.known {b c:Bool} (h:b=c) (k:AH P l.toArray N R X S n fuel listed (set f d (.bool c)) w):AH P l.toArray N R X S n fuel listed (set f d (.bool b)) w:=h ▸ k
theorem AH.splitD {q:Prop} [Decidable q] (ht:q→AH P l.toArray N R X S n fuel listed (set f d (.bool true)) w) (hf:¬q→AH P l.toArray N R X S n fuel listed (set f d (.bool false)) w):AH P l.toArray N R X S n fuel listed (set f d (.bool (decide q))) w :=
  AH.split (fun h=>ht (of_decide_eq_true h)) (fun h=>hf (of_decide_eq_false h))
theorem AH.splitN {q:Prop} [Decidable q] (ht:¬q→AH P l.toArray N R X S n fuel listed (set f d (.bool true)) w) (hf:q→AH P l.toArray N R X S n fuel listed (set f d (.bool false)) w):AH P l.toArray N R X S n fuel listed (set f d (.bool (!decide q))) w :=
  AH.split (fun h=>ht (of_decide_eq_false (by simpa using h))) (fun h=>hf (of_decide_eq_true (by simpa using h)))
theorem wp_of_SR {N':Act→World→Prop} {ops:Array Oper} {o:Oper} (hg:Region.wanted o (yielded ops (act n f).tmps)=true) (h:SR P ops N' R X n [o] f w):∃ K:Act→World→Prop,(∀ a w,K a w→N' a w)∧o.wp P (act n f) w K (mk N R X):=by
  unfold SR at h
  unfold wpList at h
  rw [if_pos hg] at h
  rcases h with h | ⟨_,a,w,hq⟩
  · refine ⟨N',fun _ _ h=>h,?_⟩
    unfold Oper.wp at *
    generalize (execOp (act n f).eval o).run P w=r at *
    cases r with
    | ok x w'=>cases x with
      | value v=>exact h
      | skip=>exact h
      | defer d=>exact h
      | enter g args =>
        refine Calls.mono h fun e w'' he=>?_
        cases e
        · exact he
        · exact he.elim
        · obtain ⟨a,w,q⟩:=he
          exact q.elim
      | row s args=>exact h
      | _=>exact h.elim
    | halt hh w'=>cases hh with
      | panic v=>exact h.elim
      | _=>exact h.elim
  · exact hq.elim
def Br (P:Program) (l:List Oper) (N R:Act→World→Prop) (X:Nat→Act→World→Prop) (S:World→Prop) (n fuel:Nat) (listed:Array Bool) (f:Env) (w:World) (i:Nat):Prop :=
  ∃ o,l[i]?=some o∧Wn l n f o∧SR P l.toArray (fun a' w'=>S w'∧∃ f',a'=act n f'∧AH P l.toArray N R X S n fuel (listed.setIfInBounds i true) f' w') R X n [o] f w
theorem Br.mk' {i:Nat} {o:Oper} (hi:l[i]?=some o) (hw:Wn l n f o) (h:SR P l.toArray (fun a' w'=>S w'∧∃ f',a'=act n f'∧AH P l.toArray N R X S n fuel (listed.setIfInBounds i true) f' w') R X n [o] f w):Br P l N R X S n fuel listed f w i:=⟨o,hi,hw,h⟩
theorem AH.br (rs:List Nat) (hr:Region.ready .any l.toArray listed=rs) (hne:rs.isEmpty=false) (h:rs.foldr (fun i q=>Br P l N R X S n fuel listed f w i∧q) True):AH P l.toArray N R X S n (fuel+1) listed f w:=by
  unfold AH
  refine wpAnyH_all hr (by intro e; rw [e] at hne; simp at hne) fun i hi=>?_
  have hb:∀ (rs:List Nat),rs.foldr (fun i q=>Br P l N R X S n fuel listed f w i∧q) True→i∈rs→Br P l N R X S n fuel listed f w i:=by
    intro rs
    induction rs with
    | nil=>intro _ h; simp at h
    | cons j r ih =>
      intro h hi
      rcases List.mem_cons.1 hi with rfl | hi
      · exact h.1
      · exact ih h.2 hi
  obtain ⟨o,hi',hw,hs⟩:=hb rs h hi
  have hi2:l.toArray[i]?=some o:=by simpa using hi'
  unfold wpOp
  simp only [hi2]
  rw [if_pos hw.wanted]
  obtain ⟨K,hK,hw2⟩:=wp_of_SR (N:=N) hw.wanted hs
  refine .inl (Oper.wp_mono (fun a w hk=>?_) hw2)
  obtain ⟨h1,f',rfl,h2⟩:=hK a w hk
  unfold AH at h2
  exact ⟨h1,h2⟩
theorem AH.done (hr:Region.ready .any l.toArray listed=[]) (h:J f w):AH P l.toArray (fun a w=>∃ f',a=act n f'∧J f' w) R X S n fuel listed f w:=by
  unfold AH
  exact wpAnyH_done hr ⟨f,rfl,h⟩ _
theorem AH.via (L:Array Bool) (F:Nat) (J:Env→World→Prop) (h:∀ f' w',J f' w'→AH P l.toArray N R X S n F L f' w') (k:(∀ f' w',J f' w'→AH P l.toArray N R X S n F L f' w')→AH P l.toArray N R X S n fuel listed f w):AH P l.toArray N R X S n fuel listed f w:=k h
theorem AH.goto {L:Array Bool} {F:Nat} (hl:listed=L) (hf:fuel=F) (h:AH P l.toArray N R X S n F L f w):AH P l.toArray N R X S n fuel listed f w:=by subst hl; subst hf; exact h
theorem W.regA {id:Nat} (S:World→Prop) (J:Env→World→Prop) (hm:P.follows .mixedOrders=true) (h:∀ w1,Lo w w1→AH P l.toArray (fun a w=>∃ f',a=act n f'∧J f' w) R X S n l.length (Array.replicate l.length false) f w1)
    (k:∀ f' w',J f' w'→N (act n f') w'):W P (.region id l.toArray true) N R X (act n f) w:=by
  have h1:=h _ (Lo.drew w)
  unfold AH at h1
  have:W P (.region id l.toArray true) (fun a w=>∃ f',a=act n f'∧J f' w) R X (act n f) w:=by
    rw [W_def]
    refine wp_region_held (S:=S) hm ?_
    simpa using h1
  refine W.mono this (fun a w' h=>?_) (fun _ _ h=>h) (fun _ _ _ h=>h)
  obtain ⟨f',rfl,hj⟩:=h
  exact k f' w' hj
def TR (P:Program) (ops:Array Oper) (n:Nat) (K:Env→Prop) (l:List Oper) (f:Env) (w:World):Prop:=wpStill P ops w (fun a=>∃ f',a=act n f'∧K f') l (act n f)
theorem TR.nil {ops:Array Oper} {K:Env→Prop} (h:K f):TR P ops n K [] f w:=⟨f,rfl,h⟩
theorem TR.q' {ops:Array Oper} {rest:List Oper} {K:Env→Prop} (hr:Run P ⟨some d,op,t,p,af,none⟩ n f w v) (k:TR P ops n K rest (set f d v) w):TR P ops n K (⟨some d,op,t,p,af,none⟩ :: rest) f w:=by
  unfold TR wpStill
  rw [if_pos (by simp [Region.wanted])]
  unfold Oper.still
  unfold Run at hr
  rw [eval_act,hr]
  simp only [Oper.stillUpon,true_and,put_act]
  exact k
theorem wpStill_mono' {ops:Array Oper} {Q Q':Act→Prop} (hq:∀ a,Q a→Q' a):∀ {l:List Oper} {a:Act},wpStill P ops w Q l a→wpStill P ops w Q' l a
  | [],a,h=>hq a h
  | o :: r,a,h=>by
    unfold wpStill at h ⊢
    split
    · rename_i hw
      rw [if_pos hw] at h
      unfold Oper.still at *
      generalize (execOp a.eval o).run P w=res at *
      cases res with
      | ok x w'=>cases x with
        | value v=>exact ⟨h.1,wpStill_mono' hq h.2⟩
        | skip=>exact ⟨h.1,wpStill_mono' hq h.2⟩
        | enter f args=>obtain ⟨h1,v,h2,h3⟩:=h; exact ⟨h1,v,h2,wpStill_mono' hq h3⟩
        | _=>exact h
      | halt hh w'=>exact h
    · rename_i hw
      rw [if_neg hw] at h
      exact wpStill_mono' hq h
theorem W.regT {id:Nat} (k:Nat) (hm:P.follows .mixedOrders=true) (hB:Region.lexTailB .any l.toArray k=true)
    (h:∀ w1,Lo w w1→TR P l.toArray n (fun f'=>SR P l.toArray N R X n (l.drop k) f' w1) (l.take k) f w1):W P (.region id l.toArray true) N R X (act n f) w:=by
  rw [W_def]
  refine wp_region_still_tail k hm hB ?_
  refine wpStill_mono' (fun a ha=>?_) (h _ (Lo.drew w))
  obtain ⟨f',rfl,hs⟩:=ha
  unfold SR at hs
  exact hs
end
attribute [irreducible] AH TR Br
end Go.Proofs.YtndcchndcghmoaaGreatDoor.Fw
namespace Go.Proofs.YtndcchndcghmoaaGreatDoor.Fw
open Go Go.RowKit
def Fnc {α:Type} (P:Program) (w:World) (k:FuncId) (caps:List Value) (av:α→Value) (p:α→Bool):Prop :=
  Ent P k∧∀ w',Lo w w'→∀ x,Calls P k (av x :: caps).toArray w' fun e w''=>e=.returned (.bool (p x))∧Lo w' w''
theorem Fnc.lo {α:Type} {P:Program} {w w':World} {k:FuncId} {caps:List Value} {av:α→Value} {p:α→Bool} (h:Fnc P w k caps av p) (hk:Lo w w'):Fnc P w' k caps av p :=
  ⟨h.1,fun w'' h' x=>h.2 w'' (hk.trans h') x⟩
section
variable {P : Program} {ops : Array Oper} {N R : Act → World → Prop} {X : Nat → Act → World → Prop} {n : Nat} {rest : List Oper} {f : Env} {w : World} {v : Value}
theorem SR.callv {k:FuncId} {x:Operand} {cap:List Value} {l:List Operand} {ts:Array TypeId} {t:TypeId} {p:String} {d:Nat} {af:Array Edge} {vs:List Value} {Rr:Ending→World→Prop} (he:Ent P k) (hx:ev n f x=.func (.func k) #[] cap.toArray)
    (hc:Calls P k vs.toArray w Rr) (ha:l.map (ev n f)++cap=vs) (h:∀ e w',Rr e w'→∃ v,e=.returned v∧SR P ops N R X n rest (set f d v) w') :
    SR P ops N R X n (⟨some d,.call ⟨.value x,l.toArray,ts⟩,t,p,af,none⟩ :: rest) f w:=SR.enter (run_callv he hx ha) rfl rfl hc h
theorem r_build {d:Option Tmp} {t ty:TypeId} {p:String} {af:Array Edge} {g:Option (Nat × Bool)} {ps:List (Nat × Operand)} {vs:List (Nat × Value)} {l:List Value} (hv:ps.map (fun q=>(q.1,ev n f q.2))=vs) (h:P.built t vs=some l.toArray) :
    Run P ⟨d,.build t ps.toArray,ty,p,af,g⟩ n f w (.agg l.toArray):=by
  subst hv
  have e:(ps.toArray.map fun x:Nat × Operand=>(x.1,ev n f x.2)).toList=ps.map fun q=>(q.1,ev n f q.2):=by simp
  have:=run_build (P:=P) w t (ps.toArray.map fun x:Nat × Operand=>(x.1,ev n f x.2)) l.toArray (by rw [e]; exact h)
  simp [Run,execOp] at this ⊢
  rw [this]; rfl
variable {d : Option Tmp} {t : TypeId} {p : String} {af : Array Edge} {g : Option (Nat × Bool)} {x y : Operand} {a b : Int} {ts : Array TypeId}
end
section
variable {P : Program} {n : Nat} {f : Env} {w : World} {d : Option Tmp} {t tx ty e : TypeId} {p : String} {af : Array Edge} {g : Option (Nat × Bool)} {x y : Operand} {A : Option Addr} {m c : Nat}
theorem eq_nil (ht:P.underlying tx=some (.slice e)):(Op.equal tx (.slice A m c) (.slice none 0 0)).run P w=.ok A.isNone w:=by
  have key:∀ dd,(Op.equalIn (dd+1) tx (.slice A m c) (.slice none 0 0)).run P w=.ok A.isNone w:=fun dd=>by
    cases A <;> simp [Op.equalIn,run_underlying ht]
  exact key 9999
theorem r_eqlnil (ht:P.underlying tx=some (.slice e)) (hx:ev n f x=.slice A m c) (hy:ev n f y=.slice none 0 0):Run P ⟨d,.binOp .eql tx x y ty,t,p,af,g⟩ n f w (.bool A.isNone):=by
  simp [Run,execOp,hx,hy,binOp,eqGuard,eq_nil ht]
theorem slR_nil {α:Type} {B sz:Nat} {enc:α→List Value} {L:List α} (h:SlR w B enc sz A m c L) (hA:A.isNone=true):m=0:=by
  rcases Nat.eq_zero_or_pos m with h0 | h0
  · exact h0
  · have:=h.some h0; cases A <;> simp at this hA
end
theorem SlR.cutl {α:Type} {w:World} {B sz m c l:Nat} {enc:α→List Value} {A:Option Addr} {L:List α} (hR:SlR w B enc sz A m c L) (hl:l≤m):SlR w B enc sz (cutA A c l sz) (m-l) (c-l) (L.drop l):=by
  have:=hR.cut (l:=l) (h:=m) hl (Nat.le_refl _)
  rwa [List.take_of_length_le (by rw [List.length_drop]; have:=hR.len; omega)] at this
def idxF {α:Type} (p:α→Bool) (L:List α):Int:=match L.findIdx? p with
  | some i=>i
  | none=>-1
section
variable {α : Type} {p q : α → Bool} {L : List α} {k n : Nat} {x : α}
def NoneTo (p:α→Bool) (L:List α) (k:Nat):Prop:=∀ j x,j<k→L[j]?=some x→p x=false
theorem NoneTo.zero:NoneTo p L 0:=fun _ _ h=>absurd h oB
theorem NoneTo.next (h:NoneTo p L k) (hx:L[k]?=some x) (hp:p x=false):NoneTo p L (k+1):=by
  intro j y hj hy
  rcases Nat.lt_or_ge j k with h1 | h1
  · exact h j y h1 hy
  · obtain rfl:j=k:=by omega
    rw [hx] at hy; injection hy with hy; subst hy; exact hp
theorem idx_at (h:NoneTo p L k) (hx:L[k]?=some x) (hp:p x=true):(k:Int)=idxF p L:=by
  obtain ⟨hk1,hk2⟩:=(List.getElem?_eq_some_iff.1 hx)
  have:L.findIdx? p=some k:=by
    rw [List.findIdx?_eq_some_iff_getElem]
    refine ⟨hk1,by rw [hk2]; exact hp,fun j hj=>?_⟩
    rw [h j _ hj (List.getElem?_eq_getElem oB)]; simp
  simp [idxF,this]
theorem idx_no (h:NoneTo p L k) (hn:n=L.length) (hk:¬(k:Int)<(n:Int)):(-1:Int)=idxF p L:=by
  have:L.findIdx? p=none:=by
    rw [List.findIdx?_eq_none_iff]
    intro x hx
    obtain ⟨j,hj,rfl⟩:=List.mem_iff_getElem.1 hx
    exact h j _ oB (List.getElem?_eq_getElem hj)
  simp [idxF,this]
theorem any_idx:(0≤idxF p L)↔L.any p=true:=by
  unfold idxF
  cases h:L.findIdx? p with
  | none =>
    rw [List.findIdx?_eq_none_iff] at h
    simp
    exact h
  | some i =>
    rw [List.findIdx?_eq_some_iff_getElem] at h
    simp
    exact ⟨_,List.getElem_mem h.1,h.2.1⟩
theorem idx_spec {i:Int} (h:idxF p L=i) (h0:0≤i):∃ x,L[i.toNat]?=some x∧p x=true∧NoneTo p L i.toNat:=by
  unfold idxF at h
  cases hf:L.findIdx? p with
  | none=>rw [hf] at h; simp at h; omega
  | some j =>
    rw [hf] at h
    simp at h
    subst h
    rw [List.findIdx?_eq_some_iff_getElem] at hf
    refine ⟨L[j]'hf.1,by simp [hf.1],hf.2.1,fun k x hk hx=>?_⟩
    have h2:=hf.2.2 k oB
    have h3:=(List.getElem?_eq_some_iff.1 hx).2
    rw [h3] at h2; simpa using h2
theorem idx_lt:idxF p L<L.length∧-1≤idxF p L:=by
  unfold idxF
  cases hf:L.findIdx? p with
  | none=>simp; omega
  | some j=>rw [List.findIdx?_eq_some_iff_getElem] at hf; have:=hf.1; simp; omega
end
end Go.Proofs.YtndcchndcghmoaaGreatDoor.Fw
namespace Go.Proofs.YtndcchndcghmoaaGreatDoor.Fw
open Go Go.RowKit
def Fnc2 {α β:Type} (P:Program) (w:World) (k:FuncId) (caps:List Value) (av:α→Value) (bv:β→Value) (c:α→β→Int):Prop :=
  Ent P k∧∀ w',Lo w w'→∀ x y,Calls P k (av x :: bv y :: caps).toArray w' fun e w''=>e=.returned (.int .i64 (c x y))∧Lo w' w''
theorem Fnc2.lo {α β:Type} {P:Program} {w w':World} {k:FuncId} {caps:List Value} {av:α→Value} {bv:β→Value} {c:α→β→Int} (h:Fnc2 P w k caps av bv c) (hk:Lo w w'):Fnc2 P w' k caps av bv c :=
  ⟨h.1,fun w'' h' x y=>h.2 w'' (hk.trans h') x y⟩
section
variable {P : Program} {n : Nat} {f : Env} {w : World} {d : Option Tmp} {s t u tx : TypeId} {p : String} {af : Array Edge} {g : Option (Nat × Bool)} {x y : Operand} {k k' : IntKind} {a b : Int}
theorem r_conv (ht:P.underlying t=some (.int k')) (hs:P.underlying s=some (.int k)) (hx:ev n f x=.int k a):Run P ⟨d,.convert s t x,u,p,af,g⟩ n f w (.int k' (k'.wrap a)):=by
  simp [Run,execOp,hx,convert,run_underlying ht,run_underlying hs,Conv.intToInt]
theorem wrapU_in {a:Int} (h:0≤a∧a≤18446744073709551615):IntKind.u64.wrap a=a:=by
  simp only [IntKind.wrap_u64]; omega
theorem r_convU (ht:P.underlying t=some (.int .u64)) (hs:P.underlying s=some (.int .i64)) (hx:ev n f x=.int .i64 a) (h:0≤a∧a≤9223372036854775807):Run P ⟨d,.convert s t x,u,p,af,g⟩ n f w (.int .u64 a):=by
  have:=r_conv (d:=d) (u:=u) (p:=p) (af:=af) (g:=g) (w:=w) ht hs hx; rwa [wrapU_in oB] at this
theorem r_convI (ht:P.underlying t=some (.int .i64)) (hs:P.underlying s=some (.int k)) (hx:ev n f x=.int k a) (h:0≤a∧a≤9223372036854775807):Run P ⟨d,.convert s t x,u,p,af,g⟩ n f w (.int .i64 a):=by
  have:=r_conv (d:=d) (u:=u) (p:=p) (af:=af) (g:=g) (w:=w) ht hs hx; rwa [wrap64_in oB] at this
theorem r_half (hx:ev n f x=.int .u64 a) (hy:ev n f y=.int k 1) (_h:0≤a):Run P ⟨d,.binOp .shr tx x y u,t,p,af,g⟩ n f w (.int .u64 (a / 2)):=by
  have e:a.fdiv 2=a / 2:=Int.fdiv_eq_ediv_of_nonneg _ oB
  have eb:min 1 IntKind.u64.bits=1:=by decide
  simp [Run,execOp,hx,hy,binOp,Op.shift,eqGuard,eb,e]
end
section
variable {P : Program} {ops : Array Oper} {N R : Act → World → Prop} {X : Nat → Act → World → Prop} {n : Nat} {rest : List Oper} {f : Env} {w : World} {v : Value}
theorem SR.gcallv {l:List Oper} {k:FuncId} {x:Operand} {cap:List Value} {la:List Operand} {ts:Array TypeId} {t:TypeId} {p:String} {d j:Nat} {b:Bool} {af:Array Edge} {vs:List Value} {Rr:Ending→World→Prop} (hy:yn l f n j=some b) (he:Ent P k) (hx:ev n f x=.func (.func k) #[] cap.toArray)
    (hc:Calls P k vs.toArray w Rr) (ha:la.map (ev n f)++cap=vs) (h:∀ e w',Rr e w'→∃ v,e=.returned v∧SR P l.toArray N R X n rest (set f d v) w') :
    SR P l.toArray N R X n (⟨some d,.call ⟨.value x,la.toArray,ts⟩,t,p,af,some (j,b)⟩ :: rest) f w:=SR.genter (run_callv he hx ha) rfl hy rfl hc h
end
def bsr {α:Type} [Inhabited α] (p:α→Bool) (L:List α) (i j:Nat):Nat :=
  if h:i<j then (if p (gt L ((i+j) / 2)) then bsr p L ((i+j) / 2+1) j else bsr p L i ((i+j) / 2)) else i
termination_by j-i
decreasing_by all_goals omega
section
variable {α : Type} [Inhabited α] {p : α → Bool} {L : List α} {i j : Nat}
theorem bsr_lo (h:i<j) (hp:p (gt L ((i+j) / 2))=true):bsr p L ((i+j) / 2+1) j=bsr p L i j:=by
  rw [bsr.eq_def p L i j,dif_pos h,if_pos hp]
theorem bsr_hi (h:i<j) (hp:p (gt L ((i+j) / 2))=false):bsr p L i ((i+j) / 2)=bsr p L i j:=by
  rw [bsr.eq_def p L i j,dif_pos h,if_neg (by simp [hp])]
theorem bsr_end (h:¬i<j):bsr p L i j=i:=by rw [bsr.eq_def,dif_neg h]
theorem bsr_spec (hpart:∀ a b,a≤b→b<L.length→p (gt L b)=true→p (gt L a)=true):∀ n i j,j-i≤n→i≤j→j≤L.length→(∀ a,a<i→p (gt L a)=true)→(∀ a,j≤a→a<L.length→p (gt L a)=false) →
    bsr p L i j≤L.length∧(∀ a,a<bsr p L i j→p (gt L a)=true)∧(∀ a,bsr p L i j≤a→a<L.length→p (gt L a)=false):=by
  intro n
  induction n with
  | zero =>
    intro i j hn hij hj h1 h2
    obtain rfl:i=j:=by omega
    rw [bsr_end oB]
    exact ⟨hj,h1,h2⟩
  | succ n ih =>
    intro i j hn hij hj h1 h2
    rcases Nat.lt_or_ge i j with h | h
    · cases hp:p (gt L ((i+j) / 2))
      · rw [← bsr_hi h hp]
        refine ih _ _ oB oB oB h1 fun a ha hl=>?_
        cases ha':p (gt L a)
        · rfl
        · have:=hpart ((i+j) / 2) a ha hl ha'; rw [hp] at this; cases this
      · rw [← bsr_lo h hp]
        refine ih _ _ oB oB hj (fun a ha=>?_) h2
        exact hpart a ((i+j) / 2) oB oB hp
    · obtain rfl:i=j:=by omega
      rw [bsr_end oB]
      exact ⟨hj,h1,h2⟩
theorem bsr_le (n i j:Nat):j-i≤n→i≤j→bsr p L i j≤j:=by
  induction n generalizing i j with
  | zero=>intro h1 h2; rw [bsr_end oB]; exact h2
  | succ n ih =>
    intro h1 h2
    rcases Nat.lt_or_ge i j with h | h
    · cases hp:p (gt L ((i+j) / 2))
      · rw [← bsr_hi h hp]; exact Nat.le_trans (ih _ _ oB oB) oB
      · rw [← bsr_lo h hp]; exact ih _ _ oB oB
    · rw [bsr_end oB]; exact h2
end
end Go.Proofs.YtndcchndcghmoaaGreatDoor.Fw
namespace Go.Proofs.YtndcchndcghmoaaGreatDoor.Fw
open Go Go.RowKit
section
variable {P : Program} {n : Nat} {f : Env} {w : World} {d : Option Tmp} {t : TypeId} {p : String} {af : Array Edge} {g : Option (Nat × Bool)} {x y a b : Operand} {tx ty : TypeId} {s : List UInt8} {z zl zh : Int} {k k' : IntKind} {i l h : Nat}
theorem bytes_get (s:List UInt8) (i:Nat):(⟨s.toArray⟩:ByteArray)[i]?=s[i]?:=by
  by_cases hi:i<s.length
  · rw [getElem?_pos (⟨s.toArray⟩:ByteArray) i hi,List.getElem?_eq_getElem hi]; rfl
  · rw [getElem?_neg (⟨s.toArray⟩:ByteArray) i hi,List.getElem?_eq_none oB]
theorem r_idxS (ht:P.underlying tx=some .string) (hx:ev n f x=str s) (hy:ev n f y=.int k z) (hz:z=(i:Int)) (hi:i<s.length) :
    Run P ⟨d,.index tx x y,t,p,af,g⟩ n f w (.int .u8 ((gt s i).toNat:Int)):=by
  subst hz
  have h2:gt s i=s[i]:=gt_eq (List.getElem?_eq_getElem hi)
  unfold Run
  rw [h2]
  simp [execOp,hx,hy,str,Instr.index,asIntOf,run_underlying ht,bytes_get,List.getElem?_eq_getElem hi]
theorem extract_mk (s:List UInt8) (l h:Nat):ByteArray.extract ⟨s.toArray⟩ l h=⟨((s.drop l).take (h-l)).toArray⟩:=ByteArray.extract_mk s l h
theorem r_cutS (ht:P.underlying tx=some .string) (hx:ev n f x=str s) (ha:ev n f a=.int k zl) (hb:ev n f b=.int k' zh) (hzl:zl=(l:Int)) (hzh:zh=(h:Int)) (hl:l≤h) (hh:h≤s.length) :
    Run P ⟨d,.slice tx x (some a) (some b) none,t,p,af,g⟩ n f w (str ((s.drop l).take (h-l))):=by
  subst hzl hzh
  have h1:(l:Int)≤(h:Int):=by omega
  have h2:(h:Int)≤(s.length:Int):=by omega
  unfold Run
  simp [execOp,hx,ha,hb,str,Instr.sliceAt,Instr.slice,run_underlying ht,Instr.sliceBounds,Instr.sliceBound,asIntOf,hl,hh,size_mk,extract_mk]
theorem r_cutlS (ht:P.underlying tx=some .string) (hx:ev n f x=str s) (ha:ev n f a=.int k zl) (hzl:zl=(l:Int)) (hl:l≤s.length) :
    Run P ⟨d,.slice tx x (some a) none none,t,p,af,g⟩ n f w (str (s.drop l)):=by
  subst hzl
  have e:(s.drop l).take (s.length-l)=s.drop l:=List.take_of_length_le oR
  unfold Run
  simp [execOp,hx,ha,str,Instr.sliceAt,Instr.slice,run_underlying ht,Instr.sliceBounds,Instr.sliceBound,asIntOf,hl,size_mk,extract_mk,e]
theorem r_cuthS (ht:P.underlying tx=some .string) (hx:ev n f x=str s) (hb:ev n f b=.int k' zh) (hzh:zh=(h:Int)) (hh:h≤s.length) :
    Run P ⟨d,.slice tx x none (some b) none,t,p,af,g⟩ n f w (str (s.take h)):=by
  subst hzh
  unfold Run
  simp [execOp,hx,hb,str,Instr.sliceAt,Instr.slice,run_underlying ht,Instr.sliceBounds,Instr.sliceBound,asIntOf,hh,size_mk,extract_mk]
end
def bw (z:Int):UInt8:=UInt8.ofNat (z % 256).toNat
theorem bw_val (z:Int):((bw z).toNat:Int)=IntKind.u8.wrap z:=by
  unfold bw
  rw [UInt8.toNat_ofNat']
  simp only [IntKind.wrap_u8]
  omega
section
variable {P : Program} {n : Nat} {f : Env} {w : World} {d : Option Tmp} {s t u tx ty : TypeId} {p : String} {af : Array Edge} {g : Option (Nat × Bool)} {x y : Operand} {z z2 : Int} {k : IntKind}
theorem r_subB (hx:ev n f x=.int .u8 z) (hy:ev n f y=.int .u8 z2):Run P ⟨d,.binOp .sub tx x y ty,t,p,af,g⟩ n f w (.int .u8 ((bw (z-z2)).toNat:Int)):=by
  rw [bw_val]; exact r_subW hx hy
end
theorem u8_le (x:UInt8):(x.toNat:Int)≤255:=by have:=UInt8.toNat_lt x; omega
@[reducible] def encB (x:UInt8):List Value:=[.int .u8 (x.toNat:Int)]
section
variable {P : Program} {ops : Array Oper} {N R : Act → World → Prop} {X : Nat → Act → World → Prop} {n : Nat} {rest : List Oper} {f : Env} {w : World} {d : Nat} {t e src ty : TypeId} {p : String} {af : Array Edge} {x : Operand} {s L : List UInt8} {A : Option Addr} {B m c : Nat} {g : Option (Nat × Bool)}
theorem bytes_lo (w:World) (e:TypeId) (s:ByteArray):Lo w (Lib.bytesWorld w e s):=by
  refine ⟨?_,?_,?_,?_,fun k hk _=>Lib.bytesWorld_at_old w e s k hk⟩
  · simp [Lib.bytesWorld,World.freeze,World.alloc,World.drew,-World.alloc_eq,-World.drew_eq]
  · simp [Lib.bytesWorld,World.freeze,World.alloc,World.drew,-World.alloc_eq,-World.drew_eq]
  · simp [Lib.bytesWorld,World.freeze,World.alloc,World.drew,-World.alloc_eq,-World.drew_eq]
  · rw [Lib.bytesWorld_size]; omega
theorem bytes_sl (w:World) (e:TypeId) (s:List UInt8) (h:(s.length:Int)≤281474976710656):SlR (Lib.bytesWorld w e ⟨s.toArray⟩) (Lib.bytesWorld w e ⟨s.toArray⟩).heap.size encB 1 (some ⟨w.heap.size,0,none⟩) s.length (grownCap w s.length 0 e) s:=by
  have hml:s.length≤maxLen:=by unfold maxLen; omega
  refine ⟨rfl,grownCap_ge _ _ _ _,grownCap_le_maxLen _ _ _ _ hml,Nat.le_refl _,fun _=>rfl,fun _=>rfl,fun _=>?_,fun i b hi j u hu=>?_⟩
  · show w.heap.size<_
    rw [Lib.bytesWorld_size]; omega
  · have hlt:=(List.getElem?_eq_some_iff.1 hi).1
    have hj:j=0:=by
      rcases j with _ | j
      · rfl
      · simp [encB] at hu
    subst hj
    have hu':u=.int .u8 (b.toNat:Int):=by simpa [encB] using hu.symm
    subst hu'
    show (Lib.bytesWorld w e ⟨s.toArray⟩).cell? ((⟨w.heap.size,0,none⟩:Addr).add (i*1+0))=_
    rw [add_at,Lib.bytesWorld_cell w e ⟨s.toArray⟩ _ (by show _<s.length; omega)]
    simp [hi]
theorem SR.bytes (hs:P.underlying src=some .string) (hd:P.underlying t=some (.slice e)) (he:P.underlying e=some (.int .u8)) (hx:ev n f x=str s) (hb:(s.length:Int)≤281474976710656)
    (h:∀ g c w',g=w.heap.size→Lo w w'→SlR w' w'.heap.size encB 1 (some ⟨g,0,none⟩) s.length c s→SR P ops N R X n rest (set f d (.slice (some ⟨g,0,none⟩) s.length c)) w') :
    SR P ops N R X n (⟨some d,.convert src t x,ty,p,af,none⟩ :: rest) f w:=by
  refine SR.run (w':=Lib.bytesWorld w e ⟨s.toArray⟩) (v:=.slice (some ⟨w.heap.size,0,none⟩) s.length (grownCap w s.length 0 e)) ?_ rfl rfl (h _ _ _ rfl (bytes_lo _ _ _) (bytes_sl w e s hb))
  have:=Lib.run_convert_string_bytes (P:=P) w src t e ⟨s.toArray⟩ hs hd he
  simp only [execOp,hx,str,Sem.run_bind,this]
  rfl
structure BytO (w:World) (g e c:Nat) (s:List UInt8):Prop where
  cap:s.length≤c
  max:c≤maxLen
  row:∃ cs:Array Value,w.heap[g]?=some (.cells cs e (cs.size,cs.size+1))∧cs.size=c∧∀ (j:Nat) (b:UInt8),s[j]?=some b→cs[j]?=some (Value.int .u8 (b.toNat:Int))
theorem BytO.lt {c:Nat} {g:Nat} {e:TypeId} {s:List UInt8} {w:World} (h:BytO w g e c s):g<w.heap.size:=by
  obtain ⟨cs,h1,_⟩:=h.row
  rcases Nat.lt_or_ge g w.heap.size with h' | h'
  · exact h'
  · rw [Array.getElem?_eq_none h'] at h1; cases h1
theorem BytO.kp {c g:Nat} {e:TypeId} {s:List UInt8} {w w':World} {S:Nat→Prop} (h:BytO w g e c s) (k:Kp S w w') (hS:¬S g):BytO w' g e c s:=by
  obtain ⟨cs,h1,h2,h3⟩:=h.row
  exact ⟨h.cap,h.max,cs,(k.block g h.lt hS).trans h1,h2,h3⟩
theorem BytO.lo {c g:Nat} {e:TypeId} {s:List UInt8} {w w':World} (h:BytO w g e c s) (k:Lo w w'):BytO w' g e c s:=h.kp k id
theorem BytO.slr {c g:Nat} {e:TypeId} {s:List UInt8} {w:World} (h:BytO w g e c s):SlR w w.heap.size encB 1 (some ⟨g,0,none⟩) s.length c s:=by
  obtain ⟨cs,h1,h2,h3⟩:=h.row
  refine ⟨rfl,h.cap,h.max,Nat.le_refl _,fun _=>rfl,fun _=>rfl,fun _=>h.lt,fun i b hi j u hu=>?_⟩
  have hj:j=0:=by
    rcases j with _ | j
    · rfl
    · simp [encB] at hu
  subst hj
  have hu':u=.int .u8 (b.toNat:Int):=by simpa [encB] using hu.symm
  subst hu'
  show w.cell? ((⟨g,0,none⟩:Addr).add (i*1+0))=_
  rw [add_at]
  simp [World.cell?,h1,h3 i b hi]
theorem bytes_o (w:World) (e:TypeId) (s:List UInt8) (h:(s.length:Int)≤281474976710656):BytO (Lib.bytesWorld w e ⟨s.toArray⟩) w.heap.size e (grownCap w s.length 0 e) s:=by
  have hml:s.length≤maxLen:=by unfold maxLen; omega
  have hge:=grownCap_ge w s.length 0 e
  have hsz:(Lib.bytesCells w e ⟨s.toArray⟩).size=grownCap w s.length 0 e:=by simp [Lib.bytesCells,size_mk]; omega
  refine ⟨hge,grownCap_le_maxLen _ _ _ _ hml,Lib.bytesCells w e ⟨s.toArray⟩,Lib.bytesWorld_at_new w e ⟨s.toArray⟩,hsz,fun j b hj=>?_⟩
  have hlt:=(List.getElem?_eq_some_iff.1 hj).1
  simp [Lib.bytesCells,Array.getElem?_append,hlt]
  have:=(List.getElem?_eq_some_iff.1 hj).2
  rw [this]
theorem SR.bytesO (hs:P.underlying src=some .string) (hd:P.underlying t=some (.slice e)) (he:P.underlying e=some (.int .u8)) (hx:ev n f x=str s) (hb:(s.length:Int)≤281474976710656)
    (h:∀ g c w',g=w.heap.size→Lo w w'→SlR w' w'.heap.size encB 1 (some ⟨g,0,none⟩) s.length c s→BytO w' g e c s→SR P ops N R X n rest (set f d (.slice (some ⟨g,0,none⟩) s.length c)) w') :
    SR P ops N R X n (⟨some d,.convert src t x,ty,p,af,none⟩ :: rest) f w:=by
  refine SR.run (w':=Lib.bytesWorld w e ⟨s.toArray⟩) (v:=.slice (some ⟨w.heap.size,0,none⟩) s.length (grownCap w s.length 0 e)) ?_ rfl rfl (h _ _ _ rfl (bytes_lo _ _ _) (bytes_sl w e s hb) (bytes_o w e s hb))
  have:=Lib.run_convert_string_bytes (P:=P) w src t e ⟨s.toArray⟩ hs hd he
  simp only [execOp,hx,str,Sem.run_bind,this]
  rfl
theorem SR.storeB {g2 i:Nat} {b:UInt8} {a:Addr} {t':TypeId} {y:Operand} (hs:∀ w,(sizeOf t').run P w=.ok 1 w) (hx:ev n f x=.pointer (some a)) (ha:a=(adr (some (⟨g2,0,none⟩:Addr))).add (i*1)) (hy:ev n f y=.int .u8 (b.toNat:Int)) (hB:BytO w g2 e c s) (hi:i<s.length)
    (h:∀ w',Kp (fun k=>k=g2) w w'→w'.heap.size=w.heap.size→BytO w' g2 e c (s.set i b)→SR P ops N R X n rest f w') :
    SR P ops N R X n (⟨none,.store t' x y,ty,p,af,none⟩ :: rest) f w:=by
  obtain ⟨cs,h1,h2,h3⟩:=hB.row
  have hcap:=hB.cap
  have ha':a=⟨g2,i,none⟩:=by rw [ha]; show (⟨g2,0,none⟩:Addr).add _=_; rw [add_at]; simp
  subst ha'
  have hic:i<cs.size:=by omega
  have hcell:w.cell? ⟨g2,i,none⟩=some cs[i]:=by simp [World.cell?,h1,hic]
  have hfro:w.frozen? ⟨g2,i,none⟩=false:=by simp [World.frozen?,h1]; omega
  have hst:(Go.store (⟨g2,i,none⟩:Addr) (.int .u8 (b.toNat:Int))).run P w=.ok () (w.setRow g2 (cs.setIfInBounds i (.int .u8 (b.toNat:Int)))):=by
    rw [run_store P w _ _ _ rfl,hcell]
    simp [hfro,setCell_eq_setRow w g2 i cs e (cs.size,cs.size+1) _ h1]
  have hadd:(⟨g2,i,none⟩:Addr).add 0=⟨g2,i,none⟩:=by rw [add_at]; simp
  have hsc:(Go.storeCells (⟨g2,i,none⟩:Addr) [.int .u8 (b.toNat:Int)]).run P w=.ok () (w.setRow g2 (cs.setIfInBounds i (.int .u8 (b.toNat:Int)))):=by
    simp only [storeCells,Sem.run_bind,hadd,hst]; rfl
  have hrow:(w.setRow g2 (cs.setIfInBounds i (.int .u8 (b.toNat:Int)))).heap[g2]?=some (.cells (cs.setIfInBounds i (.int .u8 (b.toNat:Int))) e (cs.size,cs.size+1)):=setRow_heap w g2 cs _ e _ h1
  refine SR.run_skip (w':=w.setRow g2 (cs.setIfInBounds i (.int .u8 (b.toNat:Int)))) ?_ rfl rfl (h _ ?_ ?_ ?_)
  · have hv':(Value.int .u8 (b.toNat:Int)).cells.toList=[.int .u8 (b.toNat:Int)]:=rfl
    simp [execOp,hx,hy,Instr.storeAt,Instr.sureAddr,storeVar,hs w,Value.cells,hsc]
  · refine ⟨rfl,rfl,rfl,by simp [World.setRow],fun k hk hne=>?_⟩
    have:¬g2=k:=fun e=>hne e.symm
    simp [World.setRow,Array.getElem?_modify,this]
  · simp [World.setRow]
  · refine ⟨by simpa using hB.cap,hB.max,cs.setIfInBounds i (.int .u8 (b.toNat:Int)),by simpa using hrow,by simpa using h2,fun j u hj=>?_⟩
    rw [List.getElem?_set] at hj
    by_cases hij:i=j
    · subst hij
      rw [if_pos rfl,if_pos hi] at hj
      obtain rfl:=Option.some.inj hj
      simp [hic]
    · rw [if_neg hij] at hj
      rw [Array.getElem?_setIfInBounds_ne hij]; exact h3 j u hj
theorem push_fold:∀ (L r:List UInt8),((L.map fun b=>(b.toNat:Int)).foldl (fun r n=>r.push (UInt8.ofNat n.toNat)) (⟨r.toArray⟩:ByteArray))=⟨(r++L).toArray⟩
  | [],r=>by simp
  | b :: L,r=>by
    simp only [List.map_cons,List.foldl_cons]
    have e:ByteArray.push ⟨r.toArray⟩ (UInt8.ofNat ((b.toNat:Int)).toNat)=⟨(r++[b]).toArray⟩:=by
      apply ByteArray.ext; simp
    rw [e,push_fold L (r++[b])]; simp
theorem r_ofB {d:Option Tmp} (hs:P.underlying src=some (.slice e)) (he:P.underlying e=some (.int .u8)) (hd:P.underlying t=some .string) (hx:ev n f x=.slice A m c) (hL:SlR w B encB 1 A m c L) :
    Run P ⟨d,.convert src t x,ty,p,af,g⟩ n f w (str L):=by
  have h0:(convert src t (.slice A m c)).run P w=.ok (str L) w:=by
    rw [run_convert_bytes_string w src t e A m c hs he hd]
    cases A with
    | none =>
      have:L=[]:=by
        rcases Nat.eq_zero_or_pos m with h | h
        · have:=hL.len; exact List.eq_nil_of_length_eq_zero oB
        · exact absurd (hL.some h) oR
      subst this; rfl
    | some a =>
      have hc:(loadCells a m).run P w=.ok ((L.map fun b=>(b.toNat:Int)).map (Value.int .u8)).toArray w:=by
        have:=run_loadCells_list (P:=P) w a ((L.map fun b=>(b.toNat:Int)).map (Value.int .u8)) (fun j u hj=>by
          simp only [List.map_map,List.getElem?_map,Option.map_eq_some_iff,Function.comp] at hj
          obtain ⟨b,hb,rfl⟩:=hj
          have:=hL.at_ j b hb 0 (.int .u8 (b.toNat:Int)) rfl
          simpa [adr] using this)
        simpa [← hL.len] using this
      rw [run_bytesToString w a m c _ hc]
      have:=push_fold L []
      simp only [List.nil_append] at this
      show _=Result.ok (Value.string _) w
      rw [← this]; rfl
  unfold Run
  simp only [execOp,hx,Sem.run_bind,h0]
  rfl
end
end Go.Proofs.YtndcchndcghmoaaGreatDoor.Fw
namespace Go.Proofs.YtndcchndcghmoaaGreatDoor
open Go Go.RowKit Fw
section
variable {s r : List UInt8} {c : UInt8} {k i : Nat} {n : Int}
theorem gb_get (h:k<s.length):s[k]?=some (gt s k):=by simp [gt,List.getD,List.getElem?_eq_getElem h]
theorem itoa_m (h:n<0):[45]++Lib.itoa (-n)=Lib.itoa n:=by
  unfold Lib.itoa
  rw [if_neg oB,if_pos h,show (-n).toNat=n.natAbs by omega]; rfl
theorem itoa_d (h0:0≤n) (h:n<10):(([48,49,50,51,52,53,54,55,56,57]:List UInt8).drop n.toNat).take ((n+1).toNat-n.toNat)=Lib.itoa n:=by
  obtain ⟨m,rfl⟩:=Int.eq_ofNat_of_zero_le h0
  have h1:m<10:=by omega
  unfold Lib.itoa
  rw [if_neg oB,Lib.decDigits_one (by simpa using h1)]
  match m,h1 with
  | 0,_=>rfl
  | 1,_=>rfl
  | 2,_=>rfl
  | 3,_=>rfl
  | 4,_=>rfl
  | 5,_=>rfl
  | 6,_=>rfl
  | 7,_=>rfl
  | 8,_=>rfl
  | 9,_=>rfl
theorem itoa_10 (h:10≤n):Lib.itoa (n / 10)++Lib.itoa (n % 10)=Lib.itoa n:=by
  unfold Lib.itoa
  rw [if_neg oB,if_neg oB,if_neg oB]
  have h1:¬n.toNat<10:=by omega
  rw [show (n / 10).toNat=n.toNat / 10 by omega,show (n % 10).toNat=n.toNat % 10 by omega,Lib.decDigits_one (i:=n.toNat % 10) oB]
  conv=>rhs; rw [Lib.decDigits,dif_neg h1]
theorem itoa_b (h:10≤n):Lib.itoa (n / 10)++(([48,49,50,51,52,53,54,55,56,57]:List UInt8).drop (n % 10).toNat).take ((n % 10+1).toNat-(n % 10).toNat)=Lib.itoa n:=by
  rw [itoa_d oB oB,itoa_10 h]
theorem itoa_len (h0:-9223372036854775808≤n) (h1:n≤9223372036854775807):(Lib.itoa n).length≤21:=Lib.itoa_length_le n h0 h1
theorem cut_len (s p:List UInt8):(Lib.cut s p).1.length≤s.length∧(Lib.cut s p).2.1.length≤s.length:=by
  unfold Lib.cut
  split <;> simp <;> omega
theorem trim_len (s p:List UInt8):(Lib.trimPrefix s p).length≤s.length:=by
  unfold Lib.trimPrefix
  split <;> simp
def befB (s:List UInt8) (c:UInt8):List UInt8:=s.takeWhile (fun x=>!decide (x=c))
def aftB (s:List UInt8) (c:UInt8):List UInt8:=s.drop ((befB s c).length+1)
theorem befB_hit:befB (c :: s) c=[]:=by simp [befB]
theorem befB_miss {x:UInt8} (h:¬x=c):befB (x :: s) c=x :: befB s c:=by simp [befB,h]
theorem befB_none:∀ {s:List UInt8},c ∉ s→befB s c=s
  | [],_=>rfl
  | x :: t,h=>by
    have h1:¬x=c:=fun e=>h (by simp [e])
    rw [befB_miss h1,befB_none (fun e=>h (by simp [e]))]
theorem befB_len:∀ (s:List UInt8),(befB s c).length≤s.length
  | []=>Nat.le_refl _
  | x :: t=>by
    by_cases h:x=c
    · subst h; rw [befB_hit]; simp
    · rw [befB_miss h]; have:=befB_len t; simp; omega
theorem befB_lt:∀ {s:List UInt8},c∈s→(befB s c).length<s.length
  | [],h=>by cases h
  | x :: t,h=>by
    by_cases h1:x=c
    · subst h1; rw [befB_hit]; simp
    · rw [befB_miss h1]
      have:=befB_lt (s:=t) (by rcases List.mem_cons.1 h with e | e; exact absurd e.symm h1; exact e)
      simp; omega
theorem befB_take:∀ (s:List UInt8),s.take (befB s c).length=befB s c
  | []=>rfl
  | x :: t=>by
    by_cases h:x=c
    · subst h; rw [befB_hit]; rfl
    · rw [befB_miss h]; simp [befB_take t]
theorem befB_join:∀ {s:List UInt8},c∈s→s=befB s c++c :: aftB s c
  | [],h=>by cases h
  | x :: t,h=>by
    by_cases h1:x=c
    · subst h1; unfold aftB; rw [befB_hit]; rfl
    · have:=befB_join (s:=t) (by rcases List.mem_cons.1 h with e | e; exact absurd e.symm h1; exact e)
      unfold aftB at *
      rw [befB_miss h1]
      simp only [List.length_cons,List.drop_succ_cons,List.cons_append,List.cons.injEq,true_and]
      exact this
theorem befB_not:∀ (s:List UInt8),c ∉ befB s c
  | []=>by simp [befB]
  | x :: t=>by
    by_cases h:x=c
    · subst h; rw [befB_hit]; simp
    · rw [befB_miss h]
      intro k
      rcases List.mem_cons.1 k with e | e
      · exact h e.symm
      · exact befB_not t e
theorem befB_app (h:c ∉ s):befB (s++c :: r) c=s∧aftB (s++c :: r) c=r:=by
  have e:befB (s++c :: r) c=s:=by
    induction s with
    | nil=>exact befB_hit
    | cons x t ih =>
      have h1:¬x=c:=fun e=>h (by simp [e])
      rw [List.cons_append,befB_miss h1,ih (fun e=>h (by simp [e]))]
  refine ⟨e,?_⟩
  unfold aftB; rw [e]; simp
theorem aftB_none (h:c ∉ s):aftB s c=[]:=by unfold aftB; rw [befB_none h]; simp
theorem index1:∀ (s:List UInt8),Lib.index s [c]=if c∈s then ((befB s c).length:Int) else -1
  | []=>by simp [Lib.index]
  | x :: t=>by
    unfold Lib.index
    by_cases h:x=c
    · subst h; simp [befB_hit]
    · have h2:([c].isPrefixOf (x :: t))=false:=by simp [List.isPrefixOf,beq_eq_false_iff_ne]; exact fun e=>h e.symm
      rw [h2,index1 t,befB_miss h]
      by_cases hc:c∈t
      · simp [hc]
      · simp [hc,Ne.symm h]
theorem cut1 (s:List UInt8) (c:UInt8):Lib.cut s [c]=(befB s c,aftB s c,decide (c∈s)):=by
  unfold Lib.cut
  rw [index1]
  by_cases h:c∈s
  · simp only [h,if_true,decide_true]
    rw [if_pos oB]
    simp only [Int.toNat_natCast,befB_take]
    rfl
  · simp only [h,if_false,decide_false]
    rw [if_neg oB,befB_none h,aftB_none h]
theorem contains1 (s:List UInt8) (c:UInt8):Lib.contains s [c]=decide (c∈s):=by
  unfold Lib.contains
  rw [index1]
  by_cases h:c∈s <;> simp [h]
theorem trimP (s r:List UInt8):Lib.trimPrefix (r++s) r=s:=by
  unfold Lib.trimPrefix Lib.hasPrefix
  rw [if_pos (List.isPrefixOf_iff_prefix.2 ⟨s,rfl⟩)]; simp
def splitB (c:UInt8):List UInt8→List (List UInt8)
  | []=>[[]]
  | x :: t=>if x=c then [] :: splitB c t else (x :: (splitB c t).headD []) :: (splitB c t).tail
theorem splitB_ne (c:UInt8):∀ s,splitB c s≠[]
  | []=>by simp [splitB]
  | x :: t=>by unfold splitB; split <;> simp
theorem splitB_len (c:UInt8) (s:List UInt8):1≤(splitB c s).length:=by
  have:=splitB_ne c s
  cases h:splitB c s with
  | nil=>exact absurd h this
  | cons a t=>simp
theorem splitB_none:∀ {s:List UInt8},c ∉ s→splitB c s=[s]
  | [],_=>rfl
  | x :: t,h=>by
    have h1:¬x=c:=fun e=>h (by simp [e])
    unfold splitB
    rw [if_neg h1,splitB_none (fun e=>h (by simp [e]))]; rfl
theorem splitB_cut (h:c ∉ s):splitB c (s++c :: r)=s :: splitB c r:=by
  induction s with
  | nil=>simp [splitB]
  | cons x t ih =>
    have h1:¬x=c:=fun e=>h (by simp [e])
    rw [List.cons_append]
    conv=>lhs; unfold splitB
    rw [if_neg h1,ih (fun e=>h (by simp [e]))]; rfl
theorem splitB_head (c:UInt8):∀ s,gt (splitB c s) 0=befB s c
  | []=>rfl
  | x :: t=>by
    have ih:=splitB_head c t
    unfold splitB
    by_cases h:x=c
    · subst h; rw [if_pos rfl,befB_hit]; rfl
    · rw [if_neg h,befB_miss h,← ih]
      cases h2:splitB c t with
      | nil=>exact absurd h2 (splitB_ne c t)
      | cons a u=>rfl
theorem splitB_gt (c:UInt8) (s:List UInt8):(gt (splitB c s) 0).length≤s.length:=by rw [splitB_head]; exact befB_len s
theorem splitB_two (c:UInt8) (s:List UInt8):(2:Int)≤((splitB c s).length:Int)↔c∈s:=by
  by_cases h:c∈s
  · have e:=befB_join h
    rw [e,splitB_cut (befB_not s)]
    have:=splitB_len c (aftB s c)
    simp; omega
  · rw [splitB_none h]; simp [h]
def SpTo (c:UInt8) (s:List UInt8) (O:List (List UInt8)) (f i:Nat):Prop:=f≤i∧i≤s.length∧splitB c s=O++splitB c (s.drop f)∧c ∉ (s.drop f).take (i-f)
theorem SpTo.zero:SpTo c s [] 0 0:=⟨Nat.le_refl _,Nat.zero_le _,rfl,by simp⟩
theorem SpTo.rng {O:List (List UInt8)} {f:Nat} (h:SpTo c s O f i):f≤i∧i≤s.length:=⟨h.1,h.2.1⟩
theorem SpTo.hit {O:List (List UInt8)} {f:Nat} (h:SpTo c s O f i) (hi:i<s.length) (hc:gt s i=c):SpTo c s (O++[(s.drop f).take (i-f)]) (i+1) (i+1):=by
  obtain ⟨h1,h2,h3,h4⟩:=h
  refine ⟨Nat.le_refl _,hi,?_,by simp⟩
  have e:s.drop f=(s.drop f).take (i-f)++c :: s.drop (i+1):=by
    have h5:=List.take_append_drop (i-f) (s.drop f)
    rw [List.drop_drop,show f+(i-f)=i by omega,List.drop_eq_getElem_cons hi] at h5
    have h6:s[i]=c:=by rw [← hc]; have:=gb_get hi; rw [List.getElem?_eq_getElem hi] at this; exact Option.some.inj this
    rw [h6] at h5; exact h5.symm
  rw [h3]
  conv=>lhs; rw [e,splitB_cut h4]
  simp
theorem SpTo.miss {O:List (List UInt8)} {f:Nat} (h:SpTo c s O f i) (hi:i<s.length) (hc:¬gt s i=c):SpTo c s O f (i+1):=by
  obtain ⟨h1,h2,h3,h4⟩:=h
  refine ⟨oB,hi,h3,fun hm=>?_⟩
  have e:(s.drop f).take (i+1-f)=(s.drop f).take (i-f)++[gt s i]:=by
    rw [show i+1-f=(i-f)+1 by omega,List.take_add_one,List.getElem?_drop,show f+(i-f)=i by omega,gb_get hi]; rfl
  rw [e] at hm
  rcases List.mem_append.1 hm with k | k
  · exact h4 k
  · exact hc (List.mem_singleton.1 k).symm
theorem SpTo.all {O:List (List UInt8)} {f:Nat} (h:SpTo c s O f i) (hi:s.length≤i):O++[s.drop f]=splitB c s:=by
  obtain ⟨h1,h2,h3,h4⟩:=h
  rw [h3,splitB_none (by rwa [List.take_of_length_le (by simp; omega)] at h4)]
theorem stands_no (h:∀ j,j<k→¬gt s j=c) (hk:s.length≤k):¬c∈s:=fun hm=>by
  obtain ⟨j,hj⟩:=List.mem_iff_getElem?.1 hm
  exact h j (by have:=(List.getElem?_eq_some_iff.1 hj).1; omega) (gt_eq hj)
theorem stands_yes (hk:k<s.length) (h:gt s k=c):c∈s:=List.mem_iff_getElem?.2 ⟨k,by rw [gb_get hk,h]⟩
theorem none_next {p:Nat→Prop} (h:∀ j,j<k→¬p j) (h1:¬p k):∀ j,j<k+1→¬p j:=fun j hj=>by
  rcases Nat.lt_or_ge j k with h2 | h2
  · exact h j h2
  · obtain rfl:j=k:=by omega
    exact h1
theorem all_next {p:Nat→Prop} (h:∀ j,j<k→p j) (h1:p k):∀ j,j<k+1→p j:=fun j hj=>by
  rcases Nat.lt_or_ge j k with h2 | h2
  · exact h j h2
  · obtain rfl:j=k:=by omega
    exact h1
theorem u8_eq {a b:UInt8}:((a.toNat:Int)=(b.toNat:Int))↔a=b:=by
  constructor
  · intro h; exact UInt8.toNat_inj.1 oB
  · rintro rfl; rfl
def csum (s:List UInt8):Int:=s.foldl (fun h c=>(41*h+(c.toNat:Int)+1) % 999979) 7
theorem csum_rng (s:List UInt8):0≤csum s∧csum s≤999978:=by
  unfold csum
  have:∀ (s:List UInt8) (h:Int),0≤h∧h≤999978→0≤s.foldl (fun h c=>(41*h+(c.toNat:Int)+1) % 999979) h∧s.foldl (fun h c=>(41*h+(c.toNat:Int)+1) % 999979) h≤999978:=by
    intro s
    induction s with
    | nil=>exact fun h hh=>hh
    | cons x t ih=>exact fun h hh=>ih _ (by show 0≤(41*h+(x.toNat:Int)+1) % 999979∧(41*h+(x.toNat:Int)+1) % 999979≤999978; omega)
  exact this s 7 oB
theorem csum_snoc (h:k<s.length):csum (s.take (k+1))=(41*csum (s.take k)+((gt s k).toNat:Int)+1) % 999979:=by
  unfold csum; rw [List.take_add_one,gb_get h,Option.toList_some,List.foldl_append]; rfl
theorem csum_all (h:s.length≤k):csum (s.take k)=csum s:=by rw [List.take_of_length_le h]
def PlB (c:UInt8):Prop:=(32≤(c.toNat:Int)∧(c.toNat:Int)≤126)∧¬(c.toNat:Int)=35
instance (c:UInt8):Decidable (PlB c):=by unfold PlB; infer_instance
def Plain (s:List UInt8):Prop:=∀ c∈s,PlB c
noncomputable instance (s:List UInt8):Decidable (Plain s):=Classical.propDecidable _
theorem plain_at (h:∀ j,j<k→PlB (gt s j)) (hk:s.length≤k):Plain s:=fun c hc=>by
  obtain ⟨j,hj⟩:=List.mem_iff_getElem?.1 hc
  have:=h j (by have:=(List.getElem?_eq_some_iff.1 hj).1; omega)
  rwa [gt_eq hj] at this
theorem plain_no (hk:k<s.length) (h:¬PlB (gt s k)):¬Plain s:=fun hp=>h (hp _ (List.mem_iff_getElem?.2 ⟨k,gb_get hk⟩))
end
end Go.Proofs.YtndcchndcghmoaaGreatDoor
namespace Go.Proofs.YtndcchndcghmoaaGreatDoor
open Go Go.RowKit Fw
@[reducible] def encI (x:Int):List Value:=[.int .i64 x]
@[reducible] def encS (x:List UInt8):List Value:=[str x]
@[ext] structure LogRecord where
  Command:List UInt8
  Reply:List UInt8
  deriving DecidableEq,Inhabited
@[ext] structure Log where
  Durable:List UInt8
  Pending:List UInt8
  Count:Int
  deriving DecidableEq,Inhabited
@[reducible] def encLogRecord (x:LogRecord):List Value:=[str x.Command,str x.Reply]
@[reducible] def encLog (x:Log):List Value:=[str x.Durable,str x.Pending,.int .i64 x.Count]
def RecOK (e:LogRecord):Prop:=(1≤(e.Command.length:Int)∧(e.Command.length:Int)≤160)∧(e.Reply.length:Int)≤200∧Plain e.Command∧Plain e.Reply∧(64:UInt8) ∉ e.Command
noncomputable instance (e:LogRecord):Decidable (RecOK e):=Classical.propDecidable _
theorem rec_rng {e:LogRecord} (h:RecOK e):(1≤(e.Command.length:Int)∧(e.Command.length:Int)≤160)∧(e.Reply.length:Int)≤200:=⟨h.1,h.2.1⟩
theorem pl_not (x:UInt8):decide (((x.toNat:Int)<32)∨((126<(x.toNat:Int))∨((x.toNat:Int)=35)))=(!decide (PlB x)):=by
  by_cases h:PlB x
  · have h':=h; unfold PlB at h'; rw [decide_eq_true h]; simp only [Bool.not_true,decide_eq_false_iff_not]; omega
  · have h':=h; unfold PlB at h'; rw [decide_eq_false h]; simp only [Bool.not_false,decide_eq_true_eq]; omega
theorem good_iff (r:LogRecord):((¬(r.Command=([]:List UInt8)))∧((Plain r.Command∧(r.Command.length:Int)≤160)∧((¬((64:UInt8)∈r.Command))∧(Plain r.Reply∧(r.Reply.length:Int)≤200))))↔(RecOK r):=by
  constructor
  · rintro ⟨h1,⟨h2,h3⟩,h4,h5,h6⟩
    have:0<r.Command.length:=List.length_pos_iff.2 h1
    exact ⟨⟨oB,h3⟩,h6,h2,h5,h4⟩
  · rintro ⟨⟨a,b⟩,c,d,e,f⟩
    exact ⟨fun h=>by rw [h] at a; simp at a,⟨d,b⟩,f,e,c⟩
theorem plain_any (s:List UInt8):(!(s.any fun c=>!decide (PlB c)))=true↔Plain s:=by
  unfold Plain
  simp
def sealB (s:List UInt8):List UInt8:=s++[35]++Lib.itoa (csum s)
def bodyB (k:Int) (e:LogRecord):List UInt8:=Lib.itoa k++[32]++e.Command++[64]++e.Reply
def lineB (k:Int) (e:LogRecord):List UInt8:=sealB (bodyB k e)++[10]
theorem dig_plain:∀ (u:Nat),∀ c∈Lib.decDigits u,48≤c.toNat∧c.toNat≤57:=by
  intro u
  induction u using Nat.strongRecOn with
  | _ u ih =>
    intro c hc
    rw [Lib.decDigits] at hc
    split at hc
    · rename_i h
      obtain rfl:=List.mem_singleton.1 hc
      rw [UInt8.toNat_ofNat']; omega
    · rename_i h
      rcases List.mem_append.1 hc with h1 | h1
      · exact ih _ oB c h1
      · obtain rfl:=List.mem_singleton.1 h1
        rw [UInt8.toNat_ofNat']; omega
theorem itoa_dig {n:Int} (h:0≤n):∀ c∈Lib.itoa n,48≤c.toNat∧c.toNat≤57:=by
  unfold Lib.itoa; rw [if_neg oB]; exact dig_plain _
theorem itoa_plain {n:Int} (h:0≤n) {c:UInt8} (hc:c.toNat<48∨57<c.toNat):c ∉ Lib.itoa n:=fun hm=>by have:=itoa_dig h c hm; omega
theorem body_no {k:Int} {e:LogRecord} (h0:0≤k) (h:RecOK e):(35:UInt8) ∉ bodyB k e:=by
  have h1:(35:UInt8) ∉ e.Command:=fun hm=>(h.2.2.1 _ hm).2 rfl
  have h2:(35:UInt8) ∉ e.Reply:=fun hm=>(h.2.2.2.1 _ hm).2 rfl
  have h3:(35:UInt8) ∉ Lib.itoa k:=itoa_plain h0 (.inl oG)
  unfold bodyB; simp [h1,h2,h3]
theorem body_len {k:Int} {e:LogRecord} (h0:0≤k∧k≤1000000) (h:RecOK e):(bodyB k e).length≤383:=by
  have h1:=itoa_len (n:=k) oB oB
  have h2:=rec_rng h
  unfold bodyB; simp only [List.length_append,List.length_cons,List.length_nil]; omega
theorem seal_len {s:List UInt8} {n:Nat} (h:s.length≤n):(sealB s).length≤n+22:=by
  have h1:=csum_rng s
  have h2:=itoa_len (n:=csum s) oB oB
  unfold sealB; simp only [List.length_append,List.length_cons,List.length_nil]; omega
theorem line_lenB {k:Int} {e:LogRecord} (h0:0≤k∧k≤1000000) (h:RecOK e):(lineB k e).length≤406:=by
  have:=seal_len (body_len h0 h)
  unfold lineB; simp only [List.length_append,List.length_cons,List.length_nil]; omega
theorem line_lenG {k:Int} {e:LogRecord} (h0:0≤k∧k≤1000000):(lineB k e).length≤e.Command.length+e.Reply.length+46:=by
  have h1:=itoa_len (n:=k) oB oB
  have h2:=seal_len (s:=bodyB k e) (Nat.le_refl _)
  have h3:(bodyB k e).length=(Lib.itoa k).length+1+e.Command.length+1+e.Reply.length:=by unfold bodyB; simp only [List.length_append,List.length_cons,List.length_nil]
  unfold lineB; simp only [List.length_append,List.length_cons,List.length_nil]; omega
theorem line_cut {k:Int} {e:LogRecord} {s:List UInt8} (h0:0≤k) (h:RecOK e) (hs:lineB k e=s++[10]) :
    befB s 35=bodyB k e∧Lib.trimPrefix (bodyB k e) (Lib.itoa k++[32])=e.Command++[64]++e.Reply∧befB (e.Command++[64]++e.Reply) 64=e.Command∧aftB (e.Command++[64]++e.Reply) 64=e.Reply:=by
  have e1:s=bodyB k e++35 :: Lib.itoa (csum (bodyB k e)):=by
    unfold lineB sealB at hs
    have:=List.append_cancel_right hs
    simpa using this.symm
  have e2:bodyB k e=(Lib.itoa k++[32])++(e.Command++[64]++e.Reply):=by unfold bodyB; simp
  have e3:e.Command++[64]++e.Reply=e.Command++64 :: e.Reply:=by simp
  refine ⟨by rw [e1]; exact (befB_app (body_no h0 h)).1,by rw [e2,trimP],?_,?_⟩
  · rw [e3]; exact (befB_app h.2.2.2.2).1
  · rw [e3]; exact (befB_app h.2.2.2.2).2
noncomputable def encN (k:Int) (e:LogRecord):List UInt8 × Bool:=if (0≤k∧k≤59)∧RecOK e then (lineB k e,true) else ([],false)
theorem enc_len (k:Int) (e:LogRecord):(encN k e).1.length≤406:=by
  unfold encN; split
  · rename_i h; exact line_lenB oB h.2
  · simp
def DecOK (k:Int) (s:List UInt8) (e:LogRecord):Prop:=(0≤k∧k≤59)∧RecOK e∧lineB k e=s++[10]
end Go.Proofs.YtndcchndcghmoaaGreatDoor
namespace Go.Proofs.YtndcchndcghmoaaGreatDoor
open Go Go.RowKit Fw
@[ext] structure LMap where
  Id:Int
  Copies:Int
  Torn:Int
  deriving DecidableEq,Inhabited
@[ext] structure Away where
  Map:Int
  Reader:Int
  deriving DecidableEq,Inhabited
@[ext] structure Library where
  Maps:List LMap
  Away:List Away
  Bought:Int
  Dropped:Int
  Mended:Int
  deriving DecidableEq,Inhabited
@[ext] structure LibraryStep where
  Kind:Int
  Id:Int
  Reader:Int
  Value:Int
  deriving DecidableEq,Inhabited
@[reducible] def encLMap (x:LMap):List Value:=[.int .i64 x.Id,.int .i64 x.Copies,.int .i64 x.Torn]
@[reducible] def encAway (x:Away):List Value:=[.int .i64 x.Map,.int .i64 x.Reader]
@[reducible] def encLibraryStep (x:LibraryStep):List Value:=[.int .i64 x.Kind,.int .i64 x.Id,.int .i64 x.Reader,.int .i64 x.Value]
@[reducible] def cLb (A:Option Addr) (n c:Nat) (A2:Option Addr) (n2 c2:Nat) (x:Library):List Value:=[.slice A n c,.slice A2 n2 c2,.int .i64 x.Bought,.int .i64 x.Dropped,.int .i64 x.Mended]
@[reducible] def zLb:List Value:=[.slice none 0 0,.slice none 0 0,.int .i64 0,.int .i64 0,.int .i64 0]
theorem gt_get {α:Type} [Inhabited α] {a:List α} {i:Nat} (h:i<a.length):a[i]?=some (gt a i):=by simp [gt,List.getD,List.getElem?_eq_getElem h]
theorem bnot_f {b:Bool} (h:(!b)=false):b=true:=by simpa using h
theorem bnot_t {b:Bool} (h:(!b)=true):b=false:=by simpa using h
theorem bnot_n {b:Bool} (h:¬((!b)=true)):b=true:=by simpa using h
theorem tk_le {α:Type} (L:List α) (k:Nat):(L.take k).length≤L.length:=by simp; omega
theorem take_gt {α:Type} [Inhabited α] {L:List α} {k:Nat} (h:k<L.length):L.take (k+1)=L.take k++[gt L k]:=by
  rw [List.take_add_one,gt_get h]; rfl
def cmpI (a b:Int):Int:=if a<b then -1 else if b<a then 1 else 0
def orI:List Int→Int
  | []=>0
  | x :: r=>if x=0 then orI r else x
theorem orI_at:∀ {L:List Int} {k:Nat},(∀ j,j<k→gt L j=0)→k<L.length→gt L k≠0→orI L=gt L k
  | [],_,_,h,_=>by simp at h
  | x :: r,0,_,_,h=>by
    have:x≠0:=by simpa [gt] using h
    simp [orI,this,gt]
  | x :: r,k+1,h,hk,hx=>by
    have h0:x=0:=by simpa [gt] using h 0 oB
    have e:∀ j,gt (x :: r) (j+1)=gt r j:=fun j=>by simp [gt]
    rw [e] at hx ⊢
    simp only [orI,h0,if_true]
    exact orI_at (fun j hj=>by have:=h (j+1) oB; rwa [e] at this) (by simpa using hk) hx
theorem orI_none:∀ {L:List Int},(∀ j,j<L.length→gt L j=0)→orI L=0
  | [],_=>rfl
  | x :: r,h=>by
    have h0:x=0:=by simpa [gt] using h 0 oR
    simp only [orI,h0,if_true]
    exact orI_none fun j hj=>by have:=h (j+1) (by simpa using hj); simpa [gt] using this
section
variable {α β : Type} [Inhabited α]
def bsP (c:α→β→Int) (t:β) (L:List α):Nat:=bsr (fun x=>decide (c x t<0)) L 0 L.length
def bsF (c:α→β→Int) (t:β) (L:List α):Prop:=(bsP c t L:Int)<(L.length:Int)∧c (gt L (bsP c t L)) t=0
instance (c:α→β→Int) (t:β) (L:List α):Decidable (bsF c t L):=by unfold bsF; infer_instance
theorem bsP_le {c:α→β→Int} {t:β} {L:List α}:bsP c t L≤L.length:=bsr_le L.length 0 L.length oB oB
end
def cmpM (m:LMap) (i:Int):Int:=cmpI m.Id i
def cmpA (p q:Away):Int:=orI [cmpI p.Map q.Map,cmpI p.Reader q.Reader]
def lexlt (p q:Away):Prop:=p.Map<q.Map∨(p.Map=q.Map∧p.Reader<q.Reader)
theorem cmpI_eq {a b:Int}:cmpI a b=0↔a=b:=by unfold cmpI; split <;> (try split) <;> omega
theorem cmpI_lt {a b:Int}:cmpI a b<0↔a<b:=by unfold cmpI; split <;> (try split) <;> omega
theorem cmpA_lt {p q:Away}:cmpA p q<0↔lexlt p q:=by
  unfold cmpA lexlt orI orI orI
  have h1:=cmpI_eq (a:=p.Map) (b:=q.Map); have h2:=cmpI_lt (a:=p.Map) (b:=q.Map); have h3:=cmpI_lt (a:=p.Reader) (b:=q.Reader); have h4:=cmpI_eq (a:=p.Reader) (b:=q.Reader)
  split
  · split
    · omega
    · omega
  · omega
theorem cmpA_eq {p q:Away}:cmpA p q=0↔p=q:=by
  unfold cmpA orI orI orI
  have h1:=cmpI_eq (a:=p.Map) (b:=q.Map); have h4:=cmpI_eq (a:=p.Reader) (b:=q.Reader)
  rw [Away.ext_iff]
  split
  · split
    · simp [h1.1 ‹_›,h4.1 ‹_›]
    · constructor
      · intro h; exact absurd h ‹_›
      · rintro ⟨_,h⟩; exact absurd (h4.2 h) ‹_›
  · constructor
    · intro h; exact absurd h ‹_›
    · rintro ⟨h,_⟩; exact absurd (h1.2 h) ‹_›
def MBad (L:List LMap) (k:Nat):Prop:=(¬(1≤(gt L k).Id∧(gt L k).Id≤99))∨((¬(0≤(gt L k).Copies∧(gt L k).Copies≤99))∨((¬(0≤(gt L k).Torn∧(gt L k).Torn≤(gt L k).Copies))∨((0<(k:Int))∧((gt L k).Id≤(gt L (k-1)).Id))))
def MTo (L:List LMap) (k:Nat):Prop:=∀ j,j<k→¬MBad L j
def MapsOK (L:List LMap):Prop:=∀ j,j<L.length→¬MBad L j
def ABad (M:List LMap) (A:List Away) (k:Nat):Prop:=¬((∃ m∈M,m.Id=(gt A k).Map)∧(1≤(gt A k).Reader∧(gt A k).Reader≤999)∧(0<(k:Int)→lexlt (gt A (k-1)) (gt A k)))
def ATo (M:List LMap) (A:List Away) (k:Nat):Prop:=∀ j,j<k→¬ABad M A j
def AwayOK (M:List LMap) (A:List Away):Prop:=∀ j,j<A.length→¬ABad M A j
def sumC (L:List LMap):Int:=(L.map LMap.Copies).sum
def sumT (L:List LMap):Int:=(L.map LMap.Torn).sum
def LibOK (x:Library):Prop:=(MapsOK x.Maps∧x.Maps.length≤8)∧(AwayOK x.Maps x.Away∧x.Away.length≤8)∧(0≤x.Bought∧x.Bought≤9999)∧(0≤x.Dropped∧x.Dropped≤9999)∧(0≤x.Mended∧x.Mended≤9999)∧x.Bought=sumC x.Maps+(x.Away.length:Int)+x.Dropped
noncomputable instance (L:List LMap):Decidable (MapsOK L):=Classical.propDecidable _
noncomputable instance (M:List LMap) (A:List Away):Decidable (AwayOK M A):=Classical.propDecidable _
noncomputable instance (x:Library):Decidable (LibOK x):=Classical.propDecidable _
section
variable {L M : List LMap} {A : List Away} {k i : Nat} {x : Library} {id r : Int}
theorem MTo.zero:MTo L 0:=fun _ h=>absurd h oB
theorem MTo.next (h:MTo L k) (hb:¬MBad L k):MTo L (k+1):=fun j hj=>by
  rcases Nat.lt_or_ge j k with h1 | h1
  · exact h j h1
  · obtain rfl:j=k:=by omega
    exact hb
theorem MTo.end_ (h:MTo L k) (hk:L.length≤k):MapsOK L:=fun j hj=>h j oB
theorem ATo.zero:ATo M A 0:=fun _ h=>absurd h oB
theorem ATo.next (h:ATo M A k) (hb:¬ABad M A k):ATo M A (k+1):=fun j hj=>by
  rcases Nat.lt_or_ge j k with h1 | h1
  · exact h j h1
  · obtain rfl:j=k:=by omega
    exact hb
theorem ATo.end_ (h:ATo M A k) (hk:A.length≤k):AwayOK M A:=fun j hj=>h j oB
theorem maps_at (h:MapsOK L) (hk:k<L.length):(1≤(gt L k).Id∧(gt L k).Id≤99)∧(0≤(gt L k).Copies∧(gt L k).Copies≤99)∧(0≤(gt L k).Torn∧(gt L k).Torn≤(gt L k).Copies)∧(0<(k:Int)→(gt L (k-1)).Id<(gt L k).Id):=by
  have:=h k hk
  unfold MBad at this
  omega
theorem maps_lt (h:MapsOK L):∀ {i j:Nat},i<j→j<L.length→(gt L i).Id<(gt L j).Id
  | i,0,hij,_=>by omega
  | i,j+1,hij,hj=>by
    have h1:=(maps_at h hj).2.2.2 oB
    simp only [Nat.add_sub_cancel] at h1
    rcases Nat.lt_or_ge i j with h2 | h2
    · have:=maps_lt h h2 oB; omega
    · obtain rfl:i=j:=by omega
      exact h1
theorem maps_rng (h:MapsOK L) (hx:L[k]?=some (gt L k)):((1:Int)≤(gt L k).Id∧(gt L k).Id≤99)∧((0:Int)≤(gt L k).Copies∧(gt L k).Copies≤99)∧((0:Int)≤(gt L k).Torn∧(gt L k).Torn≤(gt L k).Copies):=by
  have:=maps_at h (List.getElem?_eq_some_iff.1 hx).1
  exact ⟨this.1,this.2.1,this.2.2.1⟩
def hasId (id:Int) (m:LMap):Bool:=decide (m.Id=id)
theorem ex_idx:(∃ m∈M,m.Id=id)↔0≤idxF (hasId id) M:=by
  rw [any_idx]; simp [List.any_eq_true,hasId]
theorem bs_found (h:MapsOK M):bsF cmpM id M↔∃ m∈M,m.Id=id:=by
  have hp:=bsr_spec (p:=fun m=>decide (cmpM m id<0)) (L:=M) (fun a b hab hb hpb=>by
    simp only [cmpM,decide_eq_true_eq,cmpI_lt] at hpb ⊢
    rcases Nat.lt_or_ge a b with h1 | h1
    · have:=maps_lt h h1 hb; omega
    · obtain rfl:a=b:=by omega
      exact hpb) M.length 0 M.length oB oB oB (fun a ha=>absurd ha oB) (fun a h1 h2=>absurd h2 oB)
  constructor
  · rintro ⟨h1,h2⟩
    have hlt:bsP cmpM id M<M.length:=by omega
    exact ⟨_,List.mem_iff_getElem?.2 ⟨_,gt_get hlt⟩,cmpI_eq.1 h2⟩
  · rintro ⟨m,hm,hid⟩
    obtain ⟨i,hi⟩:=List.mem_iff_getElem?.1 hm
    have hil:=(List.getElem?_eq_some_iff.1 hi).1
    have hg:gt M i=m:=gt_eq hi
    have hge:bsP cmpM id M≤i:=by
      rcases Nat.lt_or_ge i (bsP cmpM id M) with h1 | h1
      · have:=hp.2.1 i h1
        simp only [cmpM,decide_eq_true_eq,cmpI_lt,hg] at this; omega
      · exact h1
    have hlt:bsP cmpM id M<M.length:=by omega
    have h2:=hp.2.2 (bsP cmpM id M) (Nat.le_refl _) hlt
    simp only [cmpM,decide_eq_false_iff_not,cmpI_lt] at h2
    refine ⟨oB,?_⟩
    refine cmpI_eq.2 ?_
    rcases Nat.lt_or_ge (bsP cmpM id M) i with h1 | h1
    · have:=maps_lt h h1 hil; rw [hg] at this; omega
    · have e:bsP cmpM id M=i:=by omega
      rw [e,hg]; exact hid
theorem sumC_snoc (h:k<L.length):sumC (L.take (k+1))=sumC (L.take k)+(gt L k).Copies:=by
  rw [take_gt h]; simp [sumC]
theorem sumT_snoc (h:k<L.length):sumT (L.take (k+1))=sumT (L.take k)+(gt L k).Torn:=by
  rw [take_gt h]; simp [sumT]
end
def selL {α:Type} (p:α→Bool) (f:α→Int) (L:List α):List Int:=(L.filter p).map f
section
variable {α : Type} [Inhabited α] {p : α → Bool} {f : α → Int} {L : List α} {k : Nat}
theorem sel_yes (h:k<L.length) (hp:p (gt L k)=true):selL p f (L.take k)++[f (gt L k)]=selL p f (L.take (k+1)):=by
  rw [take_gt h]; simp [selL,hp]
theorem sel_no (h:k<L.length) (hp:p (gt L k)=false):selL p f (L.take k)=selL p f (L.take (k+1)):=by
  rw [take_gt h]; simp [selL,hp]
end
section
variable {α : Type} {p : α → Bool} {f : α → Int} {L : List α} {k : Nat}
theorem sel_end (h:L.length≤k):selL p f (L.take k)=selL p f L:=by rw [List.take_of_length_le h]
theorem sel_len (L:List α) (p:α→Bool) (f:α→Int):(selL p f L).length≤L.length:=by simp [selL]; exact List.length_filter_le _ _
theorem sel_lenT (L:List α) (k:Nat) (p:α→Bool) (f:α→Int):(selL p f (L.take k)).length≤L.length:=by
  have h1:=sel_len (L.take k) p f; have h2:=tk_le L k; omega
end
def atR (r:Int) (a:Away):Bool:=decide (a.Reader=r)
def ofM (id:Int) (a:Away):Bool:=decide (a.Map=id)
def mayM (m:LMap):Bool:=decide (m.Torn<m.Copies)
def thereS (b:Bool) (L:List LMap):Int:=if b=true then sumT L else sumC L
section
variable {L M : List LMap} {A : List Away} {k : Nat} {x : Library} {id t : Int} {b : Bool}
theorem thereS_t (hb:b=true) (h:k<L.length) (e:thereS b (L.take k)=t):thereS b (L.take (k+1))=t+(gt L k).Torn:=by
  subst hb; simp only [thereS,if_true] at *; rw [sumT_snoc h,e]
theorem thereS_f (hb:b=false) (h:k<L.length) (e:thereS b (L.take k)=t):thereS b (L.take (k+1))=t+(gt L k).Copies:=by
  subst hb; simp only [thereS,Bool.false_eq_true,if_false] at *; rw [sumC_snoc h,e]
theorem sums_rng (h:MapsOK L):∀ k,k≤L.length→(0≤sumC (L.take k)∧sumC (L.take k)≤99*(k:Int))∧(0≤sumT (L.take k)∧sumT (L.take k)≤99*(k:Int))∧sumT (L.take k)≤sumC (L.take k)
  | 0,_=>by simp [sumC,sumT]
  | k+1,hk=>by
    have h1:=sums_rng h k oB
    have h2:=maps_at h (show k<L.length by omega)
    rw [sumC_snoc oB,sumT_snoc oB]
    omega
theorem sumC_rng (h:MapsOK L) (hl:L.length≤8):0≤sumC L∧sumC L≤792:=by
  have:=sums_rng h L.length (Nat.le_refl _); rw [List.take_length] at this; omega
theorem sumT_rng (h:MapsOK L) (hl:L.length≤8):0≤sumT L∧sumT L≤792:=by
  have:=sums_rng h L.length (Nat.le_refl _); rw [List.take_length] at this; omega
theorem there_rng (b:Bool) (h:MapsOK L) (hl:L.length≤8):0≤(if b=true then sumT L else sumC L)∧(if b=true then sumT L else sumC L)≤792:=by
  split
  · exact sumT_rng h hl
  · exact sumC_rng h hl
theorem a_bad1 (h:(idxF (hasId (gt A k).Map) M<0)∨(¬(1≤(gt A k).Reader∧(gt A k).Reader≤999))):ABad M A k:=fun hh=>by
  have:=ex_idx.1 hh.1
  rcases h with h | h
  · omega
  · exact h hh.2.1
theorem a_bad2 (h:(0<(k:Int))∧(((gt A k).Map<(gt A (k-1)).Map)∨(((gt A (k-1)).Map=(gt A k).Map)∧((gt A k).Reader≤(gt A (k-1)).Reader)))):ABad M A k:=fun hh=>by
  have:=hh.2.2 h.1
  unfold lexlt at this; omega
theorem a_good (h1:¬((idxF (hasId (gt A k).Map) M<0)∨(¬(1≤(gt A k).Reader∧(gt A k).Reader≤999)))) (h2:¬((0<(k:Int))∧(((gt A k).Map<(gt A (k-1)).Map)∨(((gt A (k-1)).Map=(gt A k).Map)∧((gt A k).Reader≤(gt A (k-1)).Reader))))):¬ABad M A k:=fun hb=>hb
  ⟨ex_idx.2 oB,Classical.not_not.1 fun q=>h1 (.inr q),fun h0=>by unfold lexlt; omega⟩
theorem bs_idx (h:MapsOK M):bsF cmpM id M↔0≤idxF (hasId id) M:=(bs_found h).trans ex_idx
theorem a_badI (hm:MapsOK M) (h:(¬(bsF cmpM (gt A k).Map M))∨((¬(1≤(gt A k).Reader∧(gt A k).Reader≤999))∨((0<(k:Int))∧(0≤(cmpA (gt A (k-1)) (gt A k)))))):ABad M A k:=fun hh=>by
  rcases h with h | h | h
  · exact h ((bs_found hm).2 hh.1)
  · exact h hh.2.1
  · have:=cmpA_lt.2 (hh.2.2 h.1); omega
theorem a_goodI (hm:MapsOK M) (h:¬((¬(bsF cmpM (gt A k).Map M))∨((¬(1≤(gt A k).Reader∧(gt A k).Reader≤999))∨((0<(k:Int))∧(0≤(cmpA (gt A (k-1)) (gt A k))))))):¬ABad M A k:=fun hb=>hb
  ⟨(bs_found hm).1 (Classical.not_not.1 fun q=>h (.inl q)),Classical.not_not.1 fun q=>h (.inr (.inl q)),fun h0=>cmpA_lt.1 (by have:=fun q=>h (.inr (.inr ⟨h0,q⟩)); omega)⟩
theorem lib_len (h:LibOK x):x.Away.length≤8:=h.2.1.2
theorem ro_yes (h:bsF cmpM id x.Maps) (hx:LibOK x):LibOK x∧0≤idxF (hasId id) x.Maps:=⟨hx,(bs_idx hx.1.1).1 h⟩
theorem ro_no (h:(¬(bsF cmpM id x.Maps))∨(¬(LibOK x))):¬(LibOK x∧0≤idxF (hasId id) x.Maps):=fun hh=>h.elim (fun q=>q ((bs_idx hh.1.1.1).2 hh.2)) (fun q=>q hh.1)
theorem ro_noS (h:(¬(LibOK x))∨(idxF (hasId id) x.Maps<0)):¬(LibOK x∧0≤idxF (hasId id) x.Maps):=fun hh=>h.elim (fun q=>q hh.1) (fun q=>by have:=hh.2; omega)
theorem selif_len {α:Type} (c:Prop) [Decidable c] (p:α→Bool) (f:α→Int) (L:List α):(if c then selL p f L else []).length≤L.length:=by
  split
  · exact sel_len L p f
  · simp
end
end Go.Proofs.YtndcchndcghmoaaGreatDoor
namespace Go.Proofs.YtndcchndcghmoaaGreatDoor
open Go Go.RowKit Fw
def textM (m:LMap) (n:Nat):List UInt8:=Lib.itoa m.Copies++([32,116,111,114,110,32]:List UInt8)++Lib.itoa m.Torn++([32,97,119,97,121,32]:List UInt8)++Lib.itoa (n:Int)
noncomputable def mapT (x:Library) (id:Int):List UInt8 × Bool :=
  if LibOK x∧0≤idxF (hasId id) x.Maps then (textM (gt x.Maps (idxF (hasId id) x.Maps).toNat) (selL (ofM id) Away.Reader x.Away).length,true) else ([],false)
def textL (x:Library) (i:Int):List UInt8:=textM (gt x.Maps i.toNat) (selL (ofM (gt x.Maps i.toNat).Id) Away.Reader x.Away).length
section
variable {x : Library} {id : Int} {m : LMap} {n : Nat}
theorem textM_len (h0:0≤m.Copies∧m.Copies≤99) (h1:0≤m.Torn∧m.Torn≤m.Copies) (h2:n≤1000000):(textM m n).length≤75:=by
  have h3:=itoa_len (n:=m.Copies) oB oB
  have h4:=itoa_len (n:=m.Torn) oB oB
  have h5:=itoa_len (n:=(n:Int)) oB oB
  unfold textM; simp only [List.length_append,List.length_cons,List.length_nil]; omega
theorem mapT_no (h:¬(LibOK x∧0≤idxF (hasId id) x.Maps)):mapT x id=([],false):=if_neg h
theorem mapT_yes (h:LibOK x∧0≤idxF (hasId id) x.Maps):mapT x id=(textM (gt x.Maps (idxF (hasId id) x.Maps).toNat) (selL (ofM id) Away.Reader x.Away).length,true):=if_pos h
theorem map_at_id (h:0≤idxF (hasId id) x.Maps):(gt x.Maps (idxF (hasId id) x.Maps).toNat).Id=id:=by
  obtain ⟨y,hy,hq,_⟩:=idx_spec (p:=hasId id) (L:=x.Maps) rfl h
  rw [gt_eq hy]; simpa [hasId] using hq
theorem mapT_eqS (h:LibOK x∧0≤idxF (hasId id) x.Maps):mapT x id=(textL x (idxF (hasId id) x.Maps),true):=by
  rw [mapT_yes h]; unfold textL; rw [map_at_id h.2]
theorem bsM_at (h:MapsOK x.Maps) (hf:bsF cmpM id x.Maps):(bsP cmpM id x.Maps:Int)=idxF (hasId id) x.Maps:=by
  obtain ⟨h1,h2⟩:=hf
  have hlt:bsP cmpM id x.Maps<x.Maps.length:=by omega
  have hid:(gt x.Maps (bsP cmpM id x.Maps)).Id=id:=cmpI_eq.1 h2
  refine idx_at (k:=bsP cmpM id x.Maps) (fun j y hj hy=>?_) (gt_get hlt) (by simp [hasId,hid])
  have hjl:=(List.getElem?_eq_some_iff.1 hy).1
  have:=maps_lt h hj hlt
  rw [hid,gt_eq hy] at this
  simp only [hasId,decide_eq_false_iff_not]; omega
theorem mapT_eqI (hf:bsF cmpM id x.Maps) (hx:LibOK x):mapT x id=(textM (gt x.Maps (bsP cmpM id x.Maps)) (selL (ofM id) Away.Reader x.Away).length,true):=by
  rw [mapT_yes (ro_yes hf hx),← bsM_at hx.1.1 hf,Int.toNat_natCast]
theorem mapT_noI (h:(¬(bsF cmpM id x.Maps))∨(¬(LibOK x))):mapT x id=([],false):=mapT_no (ro_no h)
theorem mapT_noS (h:(¬(LibOK x))∨(idxF (hasId id) x.Maps<0)):mapT x id=([],false):=mapT_no (ro_noS h)
theorem mapT_len (x:Library) (id:Int):(mapT x id).1.length≤75:=by
  unfold mapT; split
  · rename_i h
    have hlt:=(idx_lt (p:=hasId id) (L:=x.Maps)).1
    have hm:=maps_at h.1.1.1 (show (idxF (hasId id) x.Maps).toNat<x.Maps.length by omega)
    refine textM_len hm.2.1 hm.2.2.1 ?_
    have:=sel_len x.Away (ofM id) Away.Reader
    have:=h.1.2.1.2
    omega
  · simp
theorem textL_len (h:LibOK x) {i:Int} (h0:0≤i∧i<(x.Maps.length:Int)):(textL x i).length≤75:=by
  have hm:=maps_at h.1.1 (show i.toNat<x.Maps.length by omega)
  refine textM_len hm.2.1 hm.2.2.1 ?_
  have:=sel_len x.Away (ofM (gt x.Maps i.toNat).Id) Away.Reader
  have:=h.2.1.2
  omega
end
end Go.Proofs.YtndcchndcghmoaaGreatDoor
namespace Go.Proofs.YtndcchndcghmoaaGreatDoor
open Go.Shelf
def Tryz.lays156_ren:Go.Shelf.Ren:=⟨fun | 156=>186 | 165=>212 | 166=>213 | 169=>214 | 240=>230 | 241=>231 | 276=>241 | 277=>242 | n=>n,fun | 31=>44 | 9=>9 | 3=>3 | 4=>4 | 0=>0 | 20=>20 | 72=>217 | 76=>173 | 70=>215 | 37=>49 | 75=>172 | 127=>235 | 164=>249 | 5=>5 | 80=>219 | n=>n,fun | n=>n⟩
theorem Tryz.lays156:Go.Proofs.Lays.n156 Tryz.prog Tryz.lays156_ren:={
  mixed:=by kernel_rfl
  f156:=Tryz.func186.trans (congrArg some oC)
  f165:=Tryz.func212.trans (congrArg some oC)
  f166:=Tryz.func213.trans (congrArg some oC)
  f169:=Tryz.func214.trans (congrArg some oC)
  f240:=Tryz.func230.trans (congrArg some oC)
  f241:=Tryz.func231.trans (congrArg some oC)
  f276:=Tryz.func241.trans (congrArg some oC)
  f277:=Tryz.func242.trans (congrArg some oC)
  t0:=Tryz.underlying0
  a0:=Tryz.isAgg0
  z0:=Tryz.sizeOf0
  v0:=Tryz.zeroValue0
  t3:=Tryz.underlying3
  a3:=Tryz.isAgg3
  z3:=Tryz.sizeOf3
  v3:=Tryz.zeroValue3
  t4:=Tryz.underlying4
  a4:=Tryz.isAgg4
  z4:=Tryz.sizeOf4
  v4:=Tryz.zeroValue4
  t9:=Tryz.underlying9
  a9:=Tryz.isAgg9
  z9:=Tryz.sizeOf9
  v9:=Tryz.zeroValue9
  t20:=Tryz.underlying20
  a20:=Tryz.isAgg20
  z20:=Tryz.sizeOf20
  v20:=Tryz.zeroValue20
  t31:=Tryz.underlying44
  a31:=Tryz.isAgg44
  z31:=Tryz.sizeOf44
  v31:=Tryz.zeroValue44
  t37:=Tryz.underlying49
  a37:=Tryz.isAgg49
  z37:=Tryz.sizeOf49
  v37:=Tryz.zeroValue49
  t70:=Tryz.underlying215
  a70:=Tryz.isAgg215
  z70:=Tryz.sizeOf215
  v70:=Tryz.zeroValue215
  t72:=Tryz.underlying217
  a72:=Tryz.isAgg217
  z72:=Tryz.sizeOf217
  v72:=Tryz.zeroValue217
  t75:=Tryz.underlying172
  a75:=Tryz.isAgg172
  z75:=Tryz.sizeOf172
  v75:=Tryz.zeroValue172
  t76:=Tryz.underlying173
  a76:=Tryz.isAgg173
  z76:=Tryz.sizeOf173
  v76:=Tryz.zeroValue173
  t127:=Tryz.underlying235
  a127:=Tryz.isAgg235
  z127:=Tryz.sizeOf235
  v127:=Tryz.zeroValue235
  t164:=Tryz.underlying249
  a164:=Tryz.isAgg249
  z164:=Tryz.sizeOf249
  v164:=Tryz.zeroValue249 }
theorem Tryz.Builder_Extra_156:Builder.Extra Tryz.prog Tryz.lays156_ren:={
  sizeBuilder:=by kernel_rfl
  liesBuilder:=by kernel_rfl
  t5:=Tryz.underlying5
  a5:=Tryz.isAgg5
  z5:=Tryz.sizeOf5
  v5:=Tryz.zeroValue5
  infoByte:=by kernel_rfl
  cellsByte:=by kernel_rfl
  sizeByte:=by kernel_rfl
  neB5:=by decide }
open Go.RowKit in
theorem Tryz.strings_Join (bk o c:Nat) (xs:List ByteArray) (sep:ByteArray) (w:World) (hcells:∀ (j:Nat) x,xs[j]?=some x→w.cell? ⟨bk,o+j,none⟩=some (.string x)) (hbk:bk<w.heap.size) (hN:xs.length≤140737488355328) (hcap:xs.length≤c) (hlen:(Lib.join (xs.map (·.data.toList)) sep.data.toList).length≤140737488355328) :
    Calls Tryz.prog 186 #[.slice (some ⟨bk,o,none⟩) xs.length c,.string sep] w fun e w'=>e=.returned (.string ⟨(Lib.join (xs.map (·.data.toList)) sep.data.toList).toArray⟩)∧Below w.heap.size w w':=Any.strings_Join Tryz.lays156 Tryz.Builder_Extra_156 bk o c xs sep w hcells hbk hN hcap hlen
def Tryz.laysM171_ren:Go.Shelf.Ren:=⟨fun | 171=>127 | 243=>175 | 246=>197 | 283=>217 | 284=>218 | 285=>219 | 286=>220 | 129=>233 | 317=>232 | 318=>234 | 319=>235 | 320=>236 | 337=>243 | 338=>244 | n=>n,fun | 3=>3 | 9=>9 | 2=>2 | 4=>4 | 171=>220 | 0=>0 | 53=>89 | 37=>49 | 5=>5 | 173=>223 | 212=>241 | 51=>225 | 20=>20 | 213=>242 | 46=>183 | 232=>254 | 233=>255 | n=>n,fun | 17=>5 | 18=>6 | 19=>7 | n=>n⟩
theorem Tryz.laysM171:Go.Proofs.LaysM.n171 Tryz.prog Tryz.laysM171_ren:={
  mixed:=by kernel_rfl
  f129:=Tryz.func233.trans (congrArg some oC)
  f171:=Tryz.func127.trans (congrArg some oC)
  f243:=Tryz.func175.trans (congrArg some oC)
  f246:=Tryz.func197.trans (congrArg some oC)
  f283:=Tryz.func217.trans (congrArg some oC)
  f284:=Tryz.func218.trans (congrArg some oC)
  f285:=Tryz.func219.trans (congrArg some oC)
  f286:=Tryz.func220.trans (congrArg some oC)
  f317:=Tryz.func232.trans (congrArg some oC)
  f318:=Tryz.func234.trans (congrArg some oC)
  f319:=Tryz.func235.trans (congrArg some oC)
  f320:=Tryz.func236.trans (congrArg some oC)
  f337:=Tryz.func243.trans (congrArg some oC)
  f338:=Tryz.func244.trans (congrArg some oC)
  t0:=Tryz.underlying0
  a0:=Tryz.isAgg0
  z0:=Tryz.sizeOf0
  v0:=Tryz.zeroValue0
  t2:=Tryz.underlying2
  a2:=Tryz.isAgg2
  z2:=Tryz.sizeOf2
  v2:=Tryz.zeroValue2
  t3:=Tryz.underlying3
  a3:=Tryz.isAgg3
  z3:=Tryz.sizeOf3
  v3:=Tryz.zeroValue3
  t4:=Tryz.underlying4
  a4:=Tryz.isAgg4
  z4:=Tryz.sizeOf4
  v4:=Tryz.zeroValue4
  t5:=Tryz.underlying5
  a5:=Tryz.isAgg5
  z5:=Tryz.sizeOf5
  v5:=Tryz.zeroValue5
  t9:=Tryz.underlying9
  a9:=Tryz.isAgg9
  z9:=Tryz.sizeOf9
  v9:=Tryz.zeroValue9
  t20:=Tryz.underlying20
  a20:=Tryz.isAgg20
  z20:=Tryz.sizeOf20
  v20:=Tryz.zeroValue20
  t37:=Tryz.underlying49
  a37:=Tryz.isAgg49
  z37:=Tryz.sizeOf49
  v37:=Tryz.zeroValue49
  t46:=Tryz.underlying183
  a46:=Tryz.isAgg183
  z46:=Tryz.sizeOf183
  v46:=Tryz.zeroValue183
  t51:=Tryz.underlying225
  a51:=Tryz.isAgg225
  z51:=Tryz.sizeOf225
  v51:=Tryz.zeroValue225
  t53:=Tryz.underlying89
  a53:=Tryz.isAgg89
  z53:=Tryz.sizeOf89
  v53:=Tryz.zeroValue89
  t171:=Tryz.underlying220
  a171:=Tryz.isAgg220
  z171:=Tryz.sizeOf220
  v171:=Tryz.zeroValue220
  t173:=Tryz.underlying223
  a173:=Tryz.isAgg223
  z173:=Tryz.sizeOf223
  v173:=Tryz.zeroValue223
  t212:=Tryz.underlying241
  a212:=Tryz.isAgg241
  z212:=Tryz.sizeOf241
  v212:=Tryz.zeroValue241
  t213:=Tryz.underlying242
  a213:=Tryz.isAgg242
  z213:=Tryz.sizeOf242
  t232:=Tryz.underlying254
  a232:=Tryz.isAgg254
  z232:=Tryz.sizeOf254
  v232:=Tryz.zeroValue254
  t233:=Tryz.underlying255
  a233:=Tryz.isAgg255
  z233:=Tryz.sizeOf255
  v233:=Tryz.zeroValue255
  g17:=by kernel_rfl
  g18:=by kernel_rfl
  g19:=by kernel_rfl
  i0:=by kernel_rfl
  i2:=by kernel_rfl
  i3:=by kernel_rfl
  i4:=by kernel_rfl
  i5:=by kernel_rfl
  i9:=by kernel_rfl
  i20:=by kernel_rfl
  i37:=by kernel_rfl
  i46:=by kernel_rfl
  i51:=by kernel_rfl
  i53:=by kernel_rfl
  i171:=by kernel_rfl
  i173:=by kernel_rfl
  i212:=by kernel_rfl
  i232:=by kernel_rfl
  i233:=by kernel_rfl
  m17:=by kernel_rfl
  m18:=by kernel_rfl
  m19:=by kernel_rfl }
open Go.RowKit Go.Sort Go.Lib in
theorem Tryz.strconv_Itoa (n : Int) (h0 : -9223372036854775808 ≤ n) (h1 : n ≤ 9223372036854775807) (w : World) (htab : Lib.TabIs Tryz.prog w "internal/strconv.uint64pow10" .u64 Lib.pow10Tab) :
    Calls Tryz.prog 127 #[.int .i64 n] w fun e w'=>e=.returned (.string ⟨(Lib.itoa n).toArray⟩)∧∃ k os,w'=grow (w.drewN k) os:=Any.strconv_Itoa Tryz.laysM171 n h0 h1 w htab
def Tryz.laysC172_ren:Go.Shelf.Ren:=⟨fun | 172=>149 | 244=>180 | 245=>181 | 247=>202 | 279=>203 | 280=>204 | 281=>205 | 282=>206 | 287=>223 | 316=>224 | 171=>127 | 205=>225 | 321=>237 | 322=>238 | 243=>175 | 246=>197 | 283=>217 | 284=>218 | 285=>219 | 286=>220 | 129=>233 | 317=>232 | 318=>234 | 319=>235 | 320=>236 | 337=>243 | 338=>244 | n=>n,fun | 9=>9 | 3=>3 | 75=>172 | 76=>173 | 4=>4 | 5=>5 | 167=>205 | 37=>49 | 0=>0 | 85=>206 | 2=>2 | 168=>208 | 53=>89 | 175=>228 | 46=>183 | 210=>231 | 127=>235 | 145=>247 | 143=>245 | 21=>21 | 171=>220 | 173=>223 | 212=>241 | 51=>225 | 20=>20 | 213=>242 | 232=>254 | 233=>255 | 80=>219 | n=>n,fun | 15=>1 | 16=>2 | 17=>5 | 18=>6 | 19=>7 | n=>n⟩
theorem Tryz.laysC172:Go.Proofs.LaysC.n172 Tryz.prog Tryz.laysC172_ren:={
  mixed:=by kernel_rfl
  f129:=Tryz.func233.trans (congrArg some oC)
  f171:=Tryz.func127.trans (congrArg some oC)
  f172:=Tryz.func149.trans (congrArg some oC)
  f205:=Tryz.func225.trans (congrArg some oC)
  f243:=Tryz.func175.trans (congrArg some oC)
  f244:=Tryz.func180.trans (congrArg some oC)
  f245:=Tryz.func181.trans (congrArg some oC)
  f246:=Tryz.func197.trans (congrArg some oC)
  f247:=Tryz.func202.trans (congrArg some oC)
  f279:=Tryz.func203.trans (congrArg some oC)
  f280:=Tryz.func204.trans (congrArg some oC)
  f281:=Tryz.func205.trans (congrArg some oC)
  f282:=Tryz.func206.trans (congrArg some oC)
  f283:=Tryz.func217.trans (congrArg some oC)
  f284:=Tryz.func218.trans (congrArg some oC)
  f285:=Tryz.func219.trans (congrArg some oC)
  f286:=Tryz.func220.trans (congrArg some oC)
  f287:=Tryz.func223.trans (congrArg some oC)
  f316:=Tryz.func224.trans (congrArg some oC)
  f317:=Tryz.func232.trans (congrArg some oC)
  f318:=Tryz.func234.trans (congrArg some oC)
  f319:=Tryz.func235.trans (congrArg some oC)
  f320:=Tryz.func236.trans (congrArg some oC)
  f321:=Tryz.func237.trans (congrArg some oC)
  f322:=Tryz.func238.trans (congrArg some oC)
  f337:=Tryz.func243.trans (congrArg some oC)
  f338:=Tryz.func244.trans (congrArg some oC)
  t0:=Tryz.underlying0
  a0:=Tryz.isAgg0
  z0:=Tryz.sizeOf0
  v0:=Tryz.zeroValue0
  t2:=Tryz.underlying2
  a2:=Tryz.isAgg2
  z2:=Tryz.sizeOf2
  v2:=Tryz.zeroValue2
  t3:=Tryz.underlying3
  a3:=Tryz.isAgg3
  z3:=Tryz.sizeOf3
  v3:=Tryz.zeroValue3
  t4:=Tryz.underlying4
  a4:=Tryz.isAgg4
  z4:=Tryz.sizeOf4
  v4:=Tryz.zeroValue4
  t5:=Tryz.underlying5
  a5:=Tryz.isAgg5
  z5:=Tryz.sizeOf5
  v5:=Tryz.zeroValue5
  t9:=Tryz.underlying9
  a9:=Tryz.isAgg9
  z9:=Tryz.sizeOf9
  v9:=Tryz.zeroValue9
  t20:=Tryz.underlying20
  a20:=Tryz.isAgg20
  z20:=Tryz.sizeOf20
  v20:=Tryz.zeroValue20
  t21:=Tryz.underlying21
  a21:=Tryz.isAgg21
  z21:=Tryz.sizeOf21
  v21:=Tryz.zeroValue21
  t37:=Tryz.underlying49
  a37:=Tryz.isAgg49
  z37:=Tryz.sizeOf49
  v37:=Tryz.zeroValue49
  t46:=Tryz.underlying183
  a46:=Tryz.isAgg183
  z46:=Tryz.sizeOf183
  v46:=Tryz.zeroValue183
  t51:=Tryz.underlying225
  a51:=Tryz.isAgg225
  z51:=Tryz.sizeOf225
  v51:=Tryz.zeroValue225
  t53:=Tryz.underlying89
  a53:=Tryz.isAgg89
  z53:=Tryz.sizeOf89
  v53:=Tryz.zeroValue89
  t75:=Tryz.underlying172
  a75:=Tryz.isAgg172
  z75:=Tryz.sizeOf172
  v75:=Tryz.zeroValue172
  t76:=Tryz.underlying173
  a76:=Tryz.isAgg173
  z76:=Tryz.sizeOf173
  v76:=Tryz.zeroValue173
  t85:=Tryz.underlying206
  a85:=Tryz.isAgg206
  z85:=Tryz.sizeOf206
  v85:=Tryz.zeroValue206
  t127:=Tryz.underlying235
  a127:=Tryz.isAgg235
  z127:=Tryz.sizeOf235
  v127:=Tryz.zeroValue235
  t143:=Tryz.underlying245
  a143:=Tryz.isAgg245
  z143:=Tryz.sizeOf245
  v143:=Tryz.zeroValue245
  t145:=Tryz.underlying247
  a145:=Tryz.isAgg247
  z145:=Tryz.sizeOf247
  v145:=Tryz.zeroValue247
  t167:=Tryz.underlying205
  a167:=Tryz.isAgg205
  z167:=Tryz.sizeOf205
  v167:=Tryz.zeroValue205
  t168:=Tryz.underlying208
  a168:=Tryz.isAgg208
  z168:=Tryz.sizeOf208
  v168:=Tryz.zeroValue208
  t171:=Tryz.underlying220
  a171:=Tryz.isAgg220
  z171:=Tryz.sizeOf220
  v171:=Tryz.zeroValue220
  t173:=Tryz.underlying223
  a173:=Tryz.isAgg223
  z173:=Tryz.sizeOf223
  v173:=Tryz.zeroValue223
  t175:=Tryz.underlying228
  a175:=Tryz.isAgg228
  z175:=Tryz.sizeOf228
  v175:=Tryz.zeroValue228
  t210:=Tryz.underlying231
  a210:=Tryz.isAgg231
  z210:=Tryz.sizeOf231
  v210:=Tryz.zeroValue231
  t212:=Tryz.underlying241
  a212:=Tryz.isAgg241
  z212:=Tryz.sizeOf241
  v212:=Tryz.zeroValue241
  t213:=Tryz.underlying242
  a213:=Tryz.isAgg242
  z213:=Tryz.sizeOf242
  t232:=Tryz.underlying254
  a232:=Tryz.isAgg254
  z232:=Tryz.sizeOf254
  v232:=Tryz.zeroValue254
  t233:=Tryz.underlying255
  a233:=Tryz.isAgg255
  z233:=Tryz.sizeOf255
  v233:=Tryz.zeroValue255
  g15:=by kernel_rfl
  g16:=by kernel_rfl
  g17:=by kernel_rfl
  g18:=by kernel_rfl
  g19:=by kernel_rfl
  t80:=Tryz.underlying219
  a80:=Tryz.isAgg219
  z80:=Tryz.sizeOf219
  v80:=Tryz.zeroValue219
  i0:=by kernel_rfl
  i2:=by kernel_rfl
  i3:=by kernel_rfl
  i4:=by kernel_rfl
  i5:=by kernel_rfl
  i9:=by kernel_rfl
  i20:=by kernel_rfl
  i21:=by kernel_rfl
  i37:=by kernel_rfl
  i46:=by kernel_rfl
  i51:=by kernel_rfl
  i53:=by kernel_rfl
  i75:=by kernel_rfl
  i76:=by kernel_rfl
  i80:=by kernel_rfl
  i85:=by kernel_rfl
  i127:=by kernel_rfl
  i143:=by kernel_rfl
  i145:=by kernel_rfl
  i167:=by kernel_rfl
  i168:=by kernel_rfl
  i171:=by kernel_rfl
  i173:=by kernel_rfl
  i175:=by kernel_rfl
  i210:=by kernel_rfl
  i212:=by kernel_rfl
  i232:=by kernel_rfl
  i233:=by kernel_rfl
  m15:=by kernel_rfl
  m16:=by kernel_rfl
  m17:=by kernel_rfl
  m18:=by kernel_rfl
  m19:=by kernel_rfl
  c0:=by kernel_rfl
  c2:=by kernel_rfl
  c3:=by kernel_rfl
  c4:=by kernel_rfl
  c5:=by kernel_rfl
  c9:=by kernel_rfl
  c20:=by kernel_rfl
  c21:=by kernel_rfl
  c37:=by kernel_rfl
  c46:=by kernel_rfl
  c51:=by kernel_rfl
  c53:=by kernel_rfl
  c75:=by kernel_rfl
  c76:=by kernel_rfl
  c80:=by kernel_rfl
  c85:=by kernel_rfl
  c127:=by kernel_rfl
  c143:=by kernel_rfl
  c145:=by kernel_rfl
  c167:=by kernel_rfl
  c168:=by kernel_rfl
  c171:=by kernel_rfl
  c173:=by kernel_rfl
  c175:=by kernel_rfl
  c210:=by kernel_rfl
  c212:=by kernel_rfl
  c213:=by kernel_rfl
  c232:=by kernel_rfl
  c233:=by kernel_rfl }
open Go.RowKit in
theorem Tryz.strconv_Atoi_ok (s:ByteArray) (hmax:s.size≤9223372036854775806) (v:Int) (h:Lib.atoiAll s.data.toList=.ok v) (w:World) :
    Calls Tryz.prog 149 #[.string s] w fun e w'=>e=.returned (.tuple #[.int .i64 v,.nilIface])∧(w'=w∨∃ t,w'=Lib.bytesWorld w 5 t):=Any.strconv_Atoi_ok Tryz.laysC172 s hmax v h w
open Go.RowKit in
theorem Tryz.strconv_Atoi_range (s:ByteArray) (hlim:s.size≤281474976710656) (h:Lib.atoiAll s.data.toList=.range) (ev:Value) (w:World) (hv:w.cell? ⟨2,0,none⟩=some ev) (hev:ev=.nilIface∨∃ te pe,ev=.iface te pe) :
    Calls Tryz.prog 149 #[.string s] w fun e w'=>∃ N,e=.returned (.tuple #[.int .i64 (Lib.atoiSat s.data.toList),.iface 208 (.pointer (some ⟨N,0,none⟩))])∧w.heap.size≤N∧w'.heap[N]?=some (.cells #[.string ⟨#[65,116,111,105]⟩,.string s,ev] 231 (0,0))∧Below w.heap.size w w':=Any.strconv_Atoi_range Tryz.laysC172 s hlim h ev w hv hev
def Tryz.lays144_ren:Go.Shelf.Ren:=⟨fun | 144=>94 | 143=>148 | 219=>179 | 217=>198 | 225=>199 | 224=>200 | 267=>201 | 266=>221 | 314=>222 | n=>n,fun | 9=>9 | 4=>4 | 3=>3 | 5=>5 | 46=>183 | 146=>226 | 51=>225 | n=>n,fun | 1=>0 | n=>n⟩
theorem Tryz.lays144:Go.Proofs.Lays.n144 Tryz.prog Tryz.lays144_ren:={
  mixed:=by kernel_rfl
  f143:=Tryz.func148.trans (congrArg some oC)
  f144:=Tryz.func94.trans (congrArg some oC)
  f217:=Tryz.func198.trans (congrArg some oC)
  f219:=Tryz.func179.trans (congrArg some oC)
  f224:=Tryz.func200.trans (congrArg some oC)
  f225:=Tryz.func199.trans (congrArg some oC)
  f266:=Tryz.func221.trans (congrArg some oC)
  f267:=Tryz.func201.trans (congrArg some oC)
  f314:=Tryz.func222.trans (congrArg some oC)
  t3:=Tryz.underlying3
  a3:=Tryz.isAgg3
  z3:=Tryz.sizeOf3
  v3:=Tryz.zeroValue3
  t4:=Tryz.underlying4
  a4:=Tryz.isAgg4
  z4:=Tryz.sizeOf4
  v4:=Tryz.zeroValue4
  t5:=Tryz.underlying5
  a5:=Tryz.isAgg5
  z5:=Tryz.sizeOf5
  v5:=Tryz.zeroValue5
  t9:=Tryz.underlying9
  a9:=Tryz.isAgg9
  z9:=Tryz.sizeOf9
  v9:=Tryz.zeroValue9
  t46:=Tryz.underlying183
  a46:=Tryz.isAgg183
  z46:=Tryz.sizeOf183
  v46:=Tryz.zeroValue183
  t51:=Tryz.underlying225
  a51:=Tryz.isAgg225
  z51:=Tryz.sizeOf225
  v51:=Tryz.zeroValue225
  t146:=Tryz.underlying226
  a146:=Tryz.isAgg226
  z146:=Tryz.sizeOf226
  v146:=Tryz.zeroValue226
  g1:=by kernel_rfl }
open Go.RowKit Go.Lib in
theorem Tryz.strings_Contains (s sub:ByteArray) (m:Int) (w:World) (hs:s.size<4294967281) (hm:w.cell? ⟨0,0,none⟩=some (.int .i64 m)) :
    Calls Tryz.prog 94 #[.string s,.string sub] w fun e w'=>e=.returned (.bool (Lib.contains s.data.toList sub.data.toList))∧w'=w:=Any.strings_Contains Tryz.lays144 s sub m w hs hm
def Tryz.lays145_ren:Go.Shelf.Ren:=⟨fun | 145=>118 | 220=>169 | 219=>179 | 217=>198 | 225=>199 | 224=>200 | 267=>201 | 266=>221 | 314=>222 | n=>n,fun | 9=>9 | 4=>4 | 59=>148 | 3=>3 | 5=>5 | 46=>183 | 146=>226 | 51=>225 | n=>n,fun | 1=>0 | n=>n⟩
theorem Tryz.lays145:Go.Proofs.Lays.n145 Tryz.prog Tryz.lays145_ren:={
  mixed:=by kernel_rfl
  f145:=Tryz.func118.trans (congrArg some oC)
  f217:=Tryz.func198.trans (congrArg some oC)
  f219:=Tryz.func179.trans (congrArg some oC)
  f220:=Tryz.func169.trans (congrArg some oC)
  f224:=Tryz.func200.trans (congrArg some oC)
  f225:=Tryz.func199.trans (congrArg some oC)
  f266:=Tryz.func221.trans (congrArg some oC)
  f267:=Tryz.func201.trans (congrArg some oC)
  f314:=Tryz.func222.trans (congrArg some oC)
  t3:=Tryz.underlying3
  a3:=Tryz.isAgg3
  z3:=Tryz.sizeOf3
  v3:=Tryz.zeroValue3
  t4:=Tryz.underlying4
  a4:=Tryz.isAgg4
  z4:=Tryz.sizeOf4
  v4:=Tryz.zeroValue4
  t5:=Tryz.underlying5
  a5:=Tryz.isAgg5
  z5:=Tryz.sizeOf5
  v5:=Tryz.zeroValue5
  t9:=Tryz.underlying9
  a9:=Tryz.isAgg9
  z9:=Tryz.sizeOf9
  v9:=Tryz.zeroValue9
  t46:=Tryz.underlying183
  a46:=Tryz.isAgg183
  z46:=Tryz.sizeOf183
  v46:=Tryz.zeroValue183
  t51:=Tryz.underlying225
  a51:=Tryz.isAgg225
  z51:=Tryz.sizeOf225
  v51:=Tryz.zeroValue225
  t59:=Tryz.underlying148
  a59:=Tryz.isAgg148
  z59:=Tryz.sizeOf148
  v59:=Tryz.zeroValue148
  t146:=Tryz.underlying226
  a146:=Tryz.isAgg226
  z146:=Tryz.sizeOf226
  v146:=Tryz.zeroValue226
  g1:=by kernel_rfl }
open Go.RowKit Go.Lib in
theorem Tryz.strings_Cut (s sep:ByteArray) (m:Int) (w:World) (hs:s.size<4294967281) (hm:w.cell? ⟨0,0,none⟩=some (.int .i64 m)) :
    Calls Tryz.prog 118 #[.string s,.string sep] w fun e w'=>e=.returned (.tuple #[.string ⟨(Lib.cut s.data.toList sep.data.toList).1.toArray⟩,.string ⟨(Lib.cut s.data.toList sep.data.toList).2.1.toArray⟩,.bool (Lib.cut s.data.toList sep.data.toList).2.2])∧∃ n,w'=w.drewN n:=Any.strings_Cut Tryz.lays145 s sep m w hs hm
def Tryz.lays101_ren:Go.Shelf.Ren:=⟨fun | 101=>170 | 208=>195 | 206=>216 | n=>n,fun | 9=>9 | 4=>4 | 3=>3 | n=>n,fun | n=>n⟩
theorem Tryz.lays101:Go.Proofs.Lays.n101 Tryz.prog Tryz.lays101_ren:={
  mixed:=by kernel_rfl
  f101:=Tryz.func170.trans (congrArg some oC)
  f206:=Tryz.func216.trans (congrArg some oC)
  f208:=Tryz.func195.trans (congrArg some oC)
  t3:=Tryz.underlying3
  a3:=Tryz.isAgg3
  z3:=Tryz.sizeOf3
  v3:=Tryz.zeroValue3
  t4:=Tryz.underlying4
  a4:=Tryz.isAgg4
  z4:=Tryz.sizeOf4
  v4:=Tryz.zeroValue4
  t9:=Tryz.underlying9
  a9:=Tryz.isAgg9
  z9:=Tryz.sizeOf9
  v9:=Tryz.zeroValue9 }
open Go.RowKit Go.Lib in
theorem Tryz.strings_TrimPrefix (s p:ByteArray) (w:World) :
    Calls Tryz.prog 170 #[.string s,.string p] w fun e w'=>e=.returned (.string ⟨(Lib.trimPrefix s.data.toList p.data.toList).toArray⟩)∧w'=w:=Any.strings_TrimPrefix Tryz.lays101 s p w
def Tryz.lays146_ren:Go.Shelf.Ren:=⟨fun | 146=>56 | 221=>106 | 268=>161 | 138=>162 | 143=>148 | 195=>188 | 197=>189 | 218=>190 | 219=>179 | 260=>215 | 217=>198 | 225=>199 | 224=>200 | 267=>201 | 266=>221 | 314=>222 | n=>n,fun | 9=>9 | 31=>44 | 3=>3 | 4=>4 | 0=>0 | 105=>197 | 21=>21 | 5=>5 | 46=>183 | 119=>236 | 139=>239 | 138=>238 | 146=>226 | 51=>225 | n=>n,fun | 1=>0 | 3=>3 | 4=>4 | n=>n⟩
theorem Tryz.lays146:Go.Proofs.Lays.n146 Tryz.prog Tryz.lays146_ren:={
  mixed:=by kernel_rfl
  f138:=Tryz.func162.trans (congrArg some oC)
  f143:=Tryz.func148.trans (congrArg some oC)
  f146:=Tryz.func56.trans (congrArg some oC)
  f195:=Tryz.func188.trans (congrArg some oC)
  f197:=Tryz.func189.trans (congrArg some oC)
  f217:=Tryz.func198.trans (congrArg some oC)
  f218:=Tryz.func190.trans (congrArg some oC)
  f219:=Tryz.func179.trans (congrArg some oC)
  f221:=Tryz.func106.trans (congrArg some oC)
  f224:=Tryz.func200.trans (congrArg some oC)
  f225:=Tryz.func199.trans (congrArg some oC)
  f260:=Tryz.func215.trans (congrArg some oC)
  f266:=Tryz.func221.trans (congrArg some oC)
  f267:=Tryz.func201.trans (congrArg some oC)
  f268:=Tryz.func161.trans (congrArg some oC)
  f314:=Tryz.func222.trans (congrArg some oC)
  t0:=Tryz.underlying0
  a0:=Tryz.isAgg0
  z0:=Tryz.sizeOf0
  v0:=Tryz.zeroValue0
  t3:=Tryz.underlying3
  a3:=Tryz.isAgg3
  z3:=Tryz.sizeOf3
  v3:=Tryz.zeroValue3
  t4:=Tryz.underlying4
  a4:=Tryz.isAgg4
  z4:=Tryz.sizeOf4
  v4:=Tryz.zeroValue4
  t5:=Tryz.underlying5
  a5:=Tryz.isAgg5
  z5:=Tryz.sizeOf5
  v5:=Tryz.zeroValue5
  t9:=Tryz.underlying9
  a9:=Tryz.isAgg9
  z9:=Tryz.sizeOf9
  v9:=Tryz.zeroValue9
  t21:=Tryz.underlying21
  a21:=Tryz.isAgg21
  z21:=Tryz.sizeOf21
  v21:=Tryz.zeroValue21
  t31:=Tryz.underlying44
  a31:=Tryz.isAgg44
  z31:=Tryz.sizeOf44
  v31:=Tryz.zeroValue44
  t46:=Tryz.underlying183
  a46:=Tryz.isAgg183
  z46:=Tryz.sizeOf183
  v46:=Tryz.zeroValue183
  t51:=Tryz.underlying225
  a51:=Tryz.isAgg225
  z51:=Tryz.sizeOf225
  v51:=Tryz.zeroValue225
  t105:=Tryz.underlying197
  a105:=Tryz.isAgg197
  z105:=Tryz.sizeOf197
  v105:=Tryz.zeroValue197
  t119:=Tryz.underlying236
  a119:=Tryz.isAgg236
  z119:=Tryz.sizeOf236
  t138:=Tryz.underlying238
  a138:=Tryz.isAgg238
  z138:=Tryz.sizeOf238
  v138:=Tryz.zeroValue238
  t139:=Tryz.underlying239
  a139:=Tryz.isAgg239
  z139:=Tryz.sizeOf239
  v139:=Tryz.zeroValue239
  t146:=Tryz.underlying226
  a146:=Tryz.isAgg226
  z146:=Tryz.sizeOf226
  v146:=Tryz.zeroValue226
  g1:=by kernel_rfl
  g3:=by kernel_rfl
  g4:=by kernel_rfl }
open Go.RowKit Go.Lib in
theorem Tryz.strings_Split (s sep:ByteArray) (m:Int) (w:World) (hs:s.size<4294967281) (hm:w.cell? ⟨0,0,none⟩=some (.int .i64 m)) (h1:1≤sep.size) :
    Calls Tryz.prog 56 #[.string s,.string sep] w fun e w' =>
      e=.returned (.slice (some ⟨w.heap.size,0,none⟩) (Lib.countB s sep+1) (Lib.countB s sep+1))∧w'=w.alloc (.cells ((Lib.splitB sep 0 (Lib.countB s sep) s).map Value.string).toArray 9):=Any.strings_Split Tryz.lays146 oC s sep m w hs hm h1
end Go.Proofs.YtndcchndcghmoaaGreatDoor
namespace Go.Proofs.YtndcchndcghmoaaGreatDoor
open Go Go.RowKit Fw
theorem dig_all:∀ (u:Nat),∀ c∈Lib.decDigits u,48≤c.toNat∧c.toNat≤57:=by
  intro u
  induction u using Nat.strongRecOn with
  | _ u ih =>
    intro c hc
    rw [Lib.decDigits] at hc
    split at hc
    · rename_i h
      obtain rfl:=List.mem_singleton.1 hc
      rw [UInt8.toNat_ofNat']; omega
    · rename_i h
      rcases List.mem_append.1 hc with h1 | h1
      · exact ih _ oB c h1
      · obtain rfl:=List.mem_singleton.1 h1
        rw [UInt8.toNat_ofNat']; omega
theorem parse_snoc {c:UInt8}:∀ (l:List UInt8) (acc v:Nat),Lib.parseUint10 acc l=.ok v→v<1000000000→48≤c.toNat∧c.toNat≤57→Lib.parseUint10 acc (l++[c])=.ok (v*10+(c.toNat-48))
  | [],acc,v,h,hv,hc=>by
    simp only [Lib.parseUint10] at h
    injection h with h
    subst h
    simp only [List.nil_append,Lib.parseUint10,if_pos hc]
    rw [if_neg oB,if_neg oB]
  | d :: r,acc,v,h,hv,hc=>by
    simp only [List.cons_append,Lib.parseUint10] at h ⊢
    split at h
    · rw [if_pos ‹_›]
      split at h
      · cases h
      · rw [if_neg ‹_›]
        split at h
        · cases h
        · rw [if_neg ‹_›]; exact parse_snoc r _ v h hv hc
    · cases h
theorem parse_dig:∀ (u:Nat),u<1000000000→Lib.parseUint10 0 (Lib.decDigits u)=.ok u:=by
  intro u
  induction u using Nat.strongRecOn with
  | _ u ih =>
    intro hu
    by_cases h:u<10
    · rw [Lib.decDigits_one h]
      simp only [Lib.parseUint10]
      have e:(UInt8.ofNat (48+u)).toNat=48+u:=by rw [UInt8.toNat_ofNat']; omega
      rw [e,if_pos oB,if_neg oB,if_neg oB]
      congr 1; omega
    · rw [Lib.decDigits,dif_neg h]
      have e:(UInt8.ofNat (48+u % 10)).toNat=48+u % 10:=by rw [UInt8.toNat_ofNat']; omega
      rw [parse_snoc _ _ (u / 10) (ih (u / 10) oB oB) oB oB,e]
      congr 1; omega
theorem dig_ne (u:Nat):Lib.decDigits u≠[]:=by
  rw [Lib.decDigits]; split <;> simp
theorem atoi_itoa {n:Int} (h:-999999999≤n∧n≤999999999):Lib.atoiAll (Lib.itoa n)=.ok n:=by
  unfold Lib.itoa
  split
  · unfold Lib.atoiAll Lib.parseMag
    simp only [show (45:UInt8).toNat=45 from rfl,or_true,if_true,if_neg (dig_ne _),parse_dig n.natAbs oB]
    rw [if_neg oR,if_neg oB]
    congr 1; omega
  · have hp:=parse_dig n.toNat oB
    have hd:=dig_all n.toNat
    cases hl:Lib.decDigits n.toNat with
    | nil=>exact absurd hl (dig_ne _)
    | cons c r =>
      rw [hl] at hp hd
      have hc:=hd c oR
      unfold Lib.atoiAll Lib.parseMag
      simp only
      rw [if_neg (show ¬(c.toNat=43∨c.toNat=45) by omega),if_neg oR,hp]
      simp only
      rw [if_neg oB,if_neg oB,if_neg oB]
      congr 1; omega
theorem itoa_inj {n m:Int} (hn:-999999999≤n∧n≤999999999) (hm:-999999999≤m∧m≤999999999) (h:Lib.itoa n=Lib.itoa m):n=m:=by
  have h1:=atoi_itoa hn
  rw [h,atoi_itoa hm] at h1
  injection h1 with h1; exact h1.symm
def IsNum (s:List UInt8) (n:Int):Prop:=(-999999≤n∧n≤999999)∧Lib.itoa n=s
open Classical in
noncomputable def readN (s:List UInt8):Int × Bool:=if h:∃ n,IsNum s n then (h.choose,true) else (0,false)
section
variable {s : List UInt8} {n : Int}
theorem readN_yes (h:IsNum s n):readN s=(n,true):=by
  have hx:∃ n,IsNum s n:=⟨n,h⟩
  unfold readN; rw [dif_pos hx]
  have h2:=hx.choose_spec
  rw [itoa_inj (by have:=h2.1; omega) (by have:=h.1; omega) (h2.2.trans h.2.symm)]
theorem readN_no (h:∀ n,¬IsNum s n):readN s=(0,false):=by
  unfold readN; rw [dif_neg (fun ⟨n,hn⟩=>h n hn)]
theorem readN_rng (s:List UInt8):-999999≤(readN s).1∧(readN s).1≤999999:=by
  by_cases h:∃ n,IsNum s n
  · obtain ⟨n,hn⟩:=h; rw [readN_yes hn]; exact hn.1
  · rw [readN_no (fun n hn=>h ⟨n,hn⟩)]; simp
theorem num_atoi (h:IsNum s n):Lib.atoiAll s=.ok n:=by rw [← h.2]; exact atoi_itoa (by have:=h.1; omega)
end
def decV (l:List UInt8):Int:=l.foldl (fun h c=>10*h+((c.toNat:Int)-48)) 0
theorem decV_snoc (l:List UInt8) (c:UInt8):decV (l++[c])=10*decV l+((c.toNat:Int)-48):=by unfold decV; rw [List.foldl_append]; rfl
theorem decV_dig:∀ (u:Nat),decV (Lib.decDigits u)=u:=by
  intro u
  induction u using Nat.strongRecOn with
  | _ u ih =>
    by_cases h:u<10
    · rw [Lib.decDigits_one h]
      have e:(UInt8.ofNat (48+u)).toNat=48+u:=by rw [UInt8.toNat_ofNat']; omega
      simp only [decV,List.foldl_cons,List.foldl_nil,e]; omega
    · rw [Lib.decDigits,dif_neg h]
      have e:(UInt8.ofNat (48+u % 10)).toNat=48+u % 10:=by rw [UInt8.toNat_ofNat']; omega
      rw [decV_snoc,ih (u / 10) oB,e]; omega
theorem dig_len:∀ (k u:Nat),u<10 ^ (k+1)→(Lib.decDigits u).length≤k+1
  | 0,u,h=>by rw [Lib.decDigits_one (by simpa using h)]; simp
  | k+1,u,h=>by
    by_cases h1:u<10
    · rw [Lib.decDigits_one h1]; simp
    · rw [Lib.decDigits,dif_neg h1]
      have:=dig_len k (u / 10) (by rw [Nat.pow_succ] at h; omega)
      simp; omega
def stripS (s:List UInt8):List UInt8:=if 1<s.length∧gt s 0=45 then s.drop 1 else s
section
variable {s : List UInt8} {n : Int} {k : Nat}
theorem strip_num (h:IsNum s n):stripS s=Lib.decDigits n.natAbs∧((stripS s).length<s.length↔n<0):=by
  obtain ⟨h1,rfl⟩:=h
  unfold Lib.itoa stripS
  split
  · rename_i hn
    have:0<(Lib.decDigits n.natAbs).length:=List.length_pos_iff.2 (dig_ne _)
    rw [if_pos ⟨by simp; omega,rfl⟩]
    simp [hn]
  · rename_i hn
    have hd:=dig_all n.toNat
    rw [if_neg (fun hh=>by
      cases hl:Lib.decDigits n.toNat with
      | nil=>exact absurd hl (dig_ne _)
      | cons c r =>
        rw [hl] at hd hh
        have:=hd c oR
        have e:c=45:=hh.2
        subst e; exact absurd this.1 oG)]
    rw [show n.natAbs=n.toNat by omega]
    exact ⟨rfl,oB⟩
theorem num_len (h:IsNum s n):1≤(stripS s).length∧(stripS s).length≤6:=by
  have h1:=h.1
  rw [(strip_num h).1]
  have h2:0<(Lib.decDigits n.natAbs).length:=List.length_pos_iff.2 (dig_ne _)
  have h3:=dig_len 5 n.natAbs oB
  omega
theorem num_dig (h:IsNum s n) (hk:k<(stripS s).length):48≤(gt (stripS s) k).toNat∧(gt (stripS s) k).toNat≤57:=by
  refine dig_all n.natAbs _ ?_
  rw [← (strip_num h).1]
  exact List.mem_iff_getElem?.2 ⟨k,gb_get hk⟩
theorem num_val (h:IsNum s n):n=if (stripS s).length<s.length then-decV (stripS s) else decV (stripS s):=by
  have h2:=strip_num h
  rw [h2.1,decV_dig]
  split
  · rename_i q; rw [← h2.1] at q; have:=h2.2.1 q; omega
  · rename_i q; rw [← h2.1] at q; have:=mt h2.2.2 q; omega
theorem decV_next (hk:k<s.length):decV (s.take (k+1))=10*decV (s.take k)+(((gt s k).toNat:Int)-48):=by
  rw [List.take_add_one,gb_get hk,Option.toList_some,decV_snoc]
theorem decV_rng (h:∀ j,j<k→48≤(gt s j).toNat∧(gt s j).toNat≤57) (hk:k≤s.length) (h6:k≤6):0≤decV (s.take k)∧decV (s.take k)≤999999:=by
  have:∀ m,m≤k→0≤decV (s.take m)∧decV (s.take m)<10 ^ m:=by
    intro m
    induction m with
    | zero=>intro _; simp [decV]
    | succ m ih =>
      intro hm
      have h1:=ih oB
      have h2:=h m oB
      rw [decV_next oB,Int.pow_succ]
      omega
  have h1:=this k (Nat.le_refl _)
  have h2:(10:Int) ^ k≤10 ^ 6:=by
    have:=Nat.pow_le_pow_right (show 0<10 by omega) h6
    exact_mod_cast this
  omega
end
end Go.Proofs.YtndcchndcghmoaaGreatDoor
namespace Go.Proofs.YtndcchndcghmoaaGreatDoor
open Go Go.RowKit Fw
def Fw.ErrIs (v:Value) (p:Prop):Prop:=(p∧v=.nilIface)∨(¬p∧∃ t x,v=.iface t x)
section
variable {P : Program} {n : Nat} {f : Env} {w : World} {d : Option Tmp} {t tx ty : TypeId} {q : String} {af : Array Edge} {g : Option (Nat × Bool)} {x : Operand} {v : Value} {p : Prop} [Decidable p]
theorem Fw.r_neqErr (hi:P.underlying tx=some (.interface (P.methodsAt tx))) (hx:ev n f x=v) (hE:ErrIs v p):Run P ⟨d,.binOp .neq tx x (.const .nilIface) ty,t,q,af,g⟩ n f w (.bool (!decide p)):=by
  have hy:ev n f (.const .nilIface)=.nilIface:=rfl
  rcases hE with ⟨hp,rfl⟩ | ⟨hp,a,b,rfl⟩
  · have h:=run_neq_nil_nil (P:=P) w tx hi
    simp [Run,execOp,hx,hy,hp,eqGuard,h]
  · have h:=run_neq_held_nil (P:=P) w tx a b hi
    simp [Run,execOp,hx,hy,hp,eqGuard,h]
theorem Fw.r_sub8 {y:Operand} {z z2:Int} (hx:ev n f x=.int .u8 z) (hy:ev n f y=.int .u8 z2) (h:0≤z-z2∧z-z2≤255):Run P ⟨d,.binOp .sub tx x y ty,t,q,af,g⟩ n f w (.int .u8 (z-z2)):=by
  have h2:=r_subW (P:=P) (d:=d) (tx:=tx) (ty:=ty) (t:=t) (p:=q) (af:=af) (g:=g) (w:=w) hx hy
  rwa [IntWalk.u8_in _ h] at h2
end
def atB (s:List UInt8):Bool:=match Lib.atoiAll s with | .ok _=>true | _=>false
def AtIs (s:List UInt8) (n:Int):Prop:=(-9223372036854775808≤n∧n≤9223372036854775807)∧(atB s=true→Lib.atoiAll s=.ok n)
section
variable {s T : List UInt8} {n v : Int} {k : Nat}
theorem par_ok (hA:AtIs s n) (h:¬(¬atB s=true∨¬(-999999≤n∧n≤999999)∨¬Lib.itoa n=s)):readN s=(n,true) :=
  readN_yes ⟨Classical.not_not.1 fun q=>h (.inr (.inl q)),Classical.not_not.1 fun q=>h (.inr (.inr q))⟩
theorem par_not (hA:AtIs s n) (h:¬atB s=true∨¬(-999999≤n∧n≤999999)∨¬Lib.itoa n=s):readN s=(0,false):=readN_no fun m hm=>by
  have h1:=num_atoi hm
  have h2:atB s=true:=by unfold atB; rw [h1]
  have h3:=hA.2 h2
  rw [h1] at h3; injection h3 with h3; subst h3
  rcases h with h | h | h
  · exact h h2
  · exact h hm.1
  · exact h hm.2
theorem strip_yes (h:1<(s.length:Int)∧((gt s 0).toNat:Int)=45):s.drop 1=stripS s:=by
  unfold stripS; rw [if_pos ⟨oB,UInt8.toNat_inj.1 (show (gt s 0).toNat=45 by omega)⟩]
theorem strip_no (h:¬(1<(s.length:Int)∧((gt s 0).toNat:Int)=45)):s=stripS s:=by
  unfold stripS; rw [if_neg (fun k=>h ⟨oB,by rw [k.2]; rfl⟩)]
theorem read_len (hT:T=stripS s) (h:¬(1≤(T.length:Int)∧(T.length:Int)≤6)):readN s=(0,false):=readN_no fun m hm=>by
  have:=num_len hm; subst hT; omega
theorem read_dig (hT:T=stripS s) (hk:k<T.length) (h:((gt T k).toNat:Int)<48∨57<((gt T k).toNat:Int)):readN s=(0,false):=readN_no fun m hm=>by
  subst hT; have:=num_dig hm hk; omega
theorem read_neg (hT:T=stripS s) (hk:k=T.length) (hl:(T.length:Int)<(s.length:Int)) (h:¬Lib.itoa (- decV (T.take k))=s):readN s=(0,false):=readN_no fun m hm=>by
  subst hT hk
  have:=num_val hm
  rw [if_pos oB] at this
  rw [List.take_of_length_le (Nat.le_refl _),← this] at h
  exact h hm.2
theorem read_pos (hT:T=stripS s) (hk:k=T.length) (hl:¬(T.length:Int)<(s.length:Int)) (h:¬Lib.itoa (decV (T.take k))=s):readN s=(0,false):=readN_no fun m hm=>by
  subst hT hk
  have:=num_val hm
  rw [if_neg oB] at this
  rw [List.take_of_length_le (Nat.le_refl _),← this] at h
  exact h hm.2
theorem readN_ok (h:Lib.itoa n=s) (h1:-999999≤n∧n≤999999):readN s=(n,true):=readN_yes ⟨h1,h⟩
theorem dig_next (hD:∀ j,j<k→48≤(gt T j).toNat∧(gt T j).toNat≤57) (h:¬(((gt T k).toNat:Int)<48∨57<((gt T k).toNat:Int))):∀ j,j<k+1→48≤(gt T j).toNat∧(gt T j).toNat≤57:=fun j hj=>by
  rcases Nat.lt_or_ge j k with q | q
  · exact hD j q
  · obtain rfl:j=k:=by omega
    omega
end
theorem splitB_el {c:UInt8}:∀ {s:List UInt8} {k:Nat} {x:List UInt8},(splitB c s)[k]?=some x→x.length≤s.length:=by
  intro s
  induction s with
  | nil=>intro k x h; have:=List.mem_of_getElem? h; simp [splitB] at this; subst this; simp
  | cons b r ih =>
    intro k x h
    have hr:=splitB_ne c r
    unfold splitB at h
    split at h
    · cases k with
      | zero=>simp at h; subst h; simp
      | succ k=>simp at h; have:=ih h; simp; omega
    · cases hs:splitB c r with
      | nil=>exact absurd hs hr
      | cons p ps =>
        rw [hs] at h
        cases k with
        | zero=>simp at h; subst h; have:=ih (k:=0) (x:=p) (by rw [hs]; rfl); simp; omega
        | succ k=>simp at h; have:=ih (k:=k+1) (x:=x) (by rw [hs]; simpa using h); simp; omega
end Go.Proofs.YtndcchndcghmoaaGreatDoor
namespace Go.Proofs.YtndcchndcghmoaaGreatDoor.Fw
open Go Go.RowKit
section
variable {α : Type} {w w' : World} {base e sz n c : Nat} {enc : α → List Value} {A : Option Addr} {L : List α} {cs : List Value}
structure Rw (w:World) (base sz e g c:Nat) (cs:List Value):Prop where
  heap:w.heap[g]?=some (.cells cs.toArray e (0,0))
  len:cs.length=c*sz
  ge:base≤g
  max:c≤maxLen
  bd:base≤w.heap.size
theorem Rw.lt {g:Nat} (h:Rw w base sz e g c cs):g<w.heap.size:=by
  rcases Nat.lt_or_ge g w.heap.size with h' | h'
  · exact h'
  · have:=h.heap; rw [Array.getElem?_eq_none h'] at this; cases this
theorem SlO.raw (h:SlO w base enc sz e A n c L) (hA:A.isSome=true):∃ g cs,A=some ⟨g,0,none⟩∧Rw w base sz e g c cs∧cs.take (n*sz)=L.flatMap enc∧n≤c:=by
  rcases h.row.2 with ⟨h0,_⟩ | ⟨g,cap,cur,hv,hg,hh,hn,hm,hs,ht⟩
  · injection h0 with e1; subst e1; simp at hA
  · injection hv with e1 e2 e3
    subst e1 e3
    exact ⟨g,cur.toList,rfl,⟨by simpa using hh,by simpa using hs,hg,hm,h.bd⟩,ht,hn⟩
theorem Rw.own {g:Nat} (h:Rw w base sz e g c cs) (hn:n≤c) (hl:n=L.length) (he:∀ x,(enc x).length=sz) (ht:cs.take (n*sz)=L.flatMap enc):SlO w base enc sz e (some ⟨g,0,none⟩) n c L :=
  ⟨⟨by rw [flat_len he,← hl],.inr ⟨g,c,cs.toArray,rfl,h.ge,h.heap,hn,h.max,by simpa using h.len,by simpa using ht⟩⟩,hl,he,h.bd⟩
theorem Rw.kp {S:Nat→Prop} {g:Nat} (h:Rw w base sz e g c cs) (k:Kp S w w') (hS:¬S g):Rw w' base sz e g c cs :=
  ⟨(k.block g h.lt hS).trans h.heap,h.len,h.ge,h.max,Nat.le_trans h.bd k.size⟩
theorem Rw.lo {g:Nat} (h:Rw w base sz e g c cs) (k:Lo w w'):Rw w' base sz e g c cs:=h.kp k id
theorem Rw.set {g o:Nat} (h:Rw w base sz e g c cs) (vs:List Value) (ho:o+vs.length≤c*sz) :
    Rw (w.setRow g (spl cs o vs).toArray) base sz e g c (spl cs o vs)∧Kp (fun b=>b=g) w (w.setRow g (spl cs o vs).toArray)∧(w.setRow g (spl cs o vs).toArray).heap.size=w.heap.size:=by
  refine ⟨⟨setRow_heap w g cs.toArray _ e _ h.heap,?_,h.ge,h.max,by simpa [World.setRow] using h.bd⟩,⟨rfl,rfl,rfl,by simp [World.setRow],fun k hk hne=>?_⟩,by simp [World.setRow]⟩
  · have:=h.len; simp only [spl,List.length_append,List.length_take,List.length_drop]; omega
  · have:¬g=k:=fun e=>hne e.symm
    simp [World.setRow,Array.getElem?_modify,this]
theorem Rw.run_store {P:Program} {g o:Nat} (h:Rw w base sz e g c cs) (vs:List Value) (ho:o+vs.length≤c*sz) (h1:∀ v∈vs,v.oneCell'=true) :
    (storeCells ⟨g,o,none⟩ vs).run P w=.ok () (w.setRow g (spl cs o vs).toArray):=by
  have:=run_storeCells_at P g o e vs 0 cs.toArray w h.heap (by have:=h.len; simpa using by omega) h1
  simpa [spl] using this
theorem cutA_some (g c l sz:Nat):∃ o,cutA (some (⟨g,0,none⟩:Addr)) c l sz=some ⟨g,o,none⟩∧(c≠l→o=l*sz):=by
  unfold cutA
  split
  · exact ⟨0,rfl,fun h=>absurd ‹_› h⟩
  · exact ⟨l*sz,by rw [Option.map_some,add_at,Nat.zero_add],fun _=>rfl⟩
end
section
variable {α : Type} {P : Program} {ops : Array Oper} {N R : Act → World → Prop} {X : Nat → Act → World → Prop} {n : Nat} {rest : List Oper} {f : Env} {w : World} {v : Value} {t e ty : TypeId} {p : String} {af : Array Edge} {x y : Operand} {enc : α → List Value} {sz by_ base g c : Nat} {z : Value} {cs : List Value} {A : Option Addr} {L : List α}
theorem SR.appI {d m k c2 B:Nat} {A2:Option Addr} {L2:List α} (ht:TEl P t e z sz by_) (hs:ev n f x=.slice A m c) (hx:ev n f y=.slice A2 k c2) (hO:SlO w base enc sz e A m c L) (hR:SlR w B enc sz A2 k c2 L2)
    (h1:∀ x,(enc x).all (·.oneCell')=true) (hroom:m+k≤c)
    (h:∀ w',Kp (fun b=>A=some ⟨b,0,none⟩) w w'→SlO w' base enc sz e A (m+k) c (L++L2)→SR P ops N R X n rest (set f d (.slice A (m+k) c)) w') :
    SR P ops N R X n (⟨some d,.call ⟨.builtin .append,#[x,y],#[t,t]⟩,ty,p,af,none⟩ :: rest) f w:=by
  obtain ⟨i,hi,hz,hsz,hby⟩:=ht.parts
  have hpos:=ht.2.2.2
  rcases hO.row.2 with ⟨h0,_⟩ | ⟨g,cap,cur,h0,hg0,hh,hnc,hmx,hcs,htk⟩
  · injection h0 with e1 e2 e3
    subst e1 e2 e3
    obtain rfl:k=0:=by omega
    have hL2:L2=[]:=List.eq_nil_of_length_eq_zero (by have:=hR.len; omega)
    subst hL2
    have hrun:(Builtin.append_ #[t,t] ty #[.slice none 0 0,.slice A2 0 c2]).run P w=.ok (.slice none 0 0) w:=by
      cases A2 <;> simp [Builtin.append_,run_underlying ht.1,sizeOf,typeInfo,hi,Builtin.lenOf,Builtin.firstCells,loadCells,loadCellsFrom]
    refine SR.run (v:=.slice none 0 0) (w':=w) ?_ rfl rfl (h w (Kp.refl _) (by simpa using hO))
    simp [execOp,resolve,invoke,builtin,hs,hx,hrun]
  · injection h0 with e1 e2 e3
    subst e1 e3
    rcases A2 with _ | a
    · have hk:k=0:=by
        rcases Nat.eq_zero_or_pos k with h0 | h0
        · exact h0
        · have:=hR.some h0; simp at this
      have hL2:L2=[]:=List.eq_nil_of_length_eq_zero (by have:=hR.len; omega)
      subst hk hL2
      have hrun:(Builtin.append_ #[t,t] ty #[.slice (some ⟨g,0,none⟩) m c,.slice none 0 c2]).run P w=.ok (.slice (some ⟨g,0,none⟩) m c) w:=by
        simp [Builtin.append_,run_underlying ht.1,sizeOf,typeInfo,hi,Builtin.lenOf,Builtin.firstCells,hnc,storeCells]
      refine SR.run (v:=.slice (some ⟨g,0,none⟩) (m+0) c) (w':=w) ?_ rfl rfl (h w (Kp.refl _) (by simpa using hO))
      simp [execOp,resolve,invoke,builtin,hs,hx,hrun]
    · have hcells:∀ j u,(L2.flatMap enc)[j]?=some u→w.cell? (a.add j)=some u:=by
        intro j u hu
        have hj:j<k*sz:=by rw [hR.len,← flat_len hR.esz]; exact (List.getElem?_eq_some_iff.1 hu).1
        have hq:j / sz<L2.length:=by rw [← hR.len]; exact (Nat.div_lt_iff_lt_mul hpos).2 hj
        have hje:j / sz*sz+j % sz=j:=by rw [Nat.mul_comm]; exact Nat.div_add_mod j sz
        have hr:j % sz<(enc L2[j / sz]).length:=by rw [hR.esz]; exact Nat.mod_lt _ hpos
        have h6:=flat_get hR.esz L2 (j / sz) (j % sz) _ _ (List.getElem?_eq_getElem hq) (List.getElem?_eq_getElem hr)
        rw [hje,hu] at h6
        have:=hR.at_ (j / sz) _ (List.getElem?_eq_getElem hq) (j % sz) _ (List.getElem?_eq_getElem hr)
        rw [hje] at this
        rw [h6]; exact this
      obtain ⟨w',hrun,hown,hg⟩:=run_append_fits (P:=P) w base t ty e i sz ht.1 hi hsz g m c (L.flatMap enc) hO.row a k c2 (L2.flatMap enc)
        (by rw [flat_len hR.esz,← hR.len]) hcells (fun u hu=>by
          obtain ⟨q,hq,hu⟩:=List.mem_flatMap.1 hu
          exact List.all_eq_true.1 (h1 q) u hu) hroom
      refine SR.run (v:=.slice (some ⟨g,0,none⟩) (m+k) c) (w':=w') ?_ rfl rfl (h w' ((kp_of hg).sub fun b hb=>by injection hb with hb; rw [hb]) ⟨by rw [List.flatMap_append]; exact hown,by rw [List.length_append,← hO.len,← hR.len],hO.esz,Nat.le_trans hO.bd hg.size⟩)
      simp [execOp,resolve,invoke,builtin,hs,hx,hrun]
theorem SR.clearR {l k c':Nat} (ht:TEl P t e z sz by_) (hx:ev n f x=.slice (cutA (some ⟨g,0,none⟩) c l sz) k c') (hR:Rw w base sz e g c cs) (hlk:l+k≤c) (hz1:z.cells.all (·.oneCell')=true)
    (h:∀ w' cs',Kp (fun b=>b=g) w w'→Rw w' base sz e g c cs'→cs'.take (l*sz)=cs.take (l*sz)→SR P ops N R X n rest f w') :
    SR P ops N R X n (⟨none,.call ⟨.builtin .clear,#[x],#[t]⟩,ty,p,af,none⟩ :: rest) f w:=by
  obtain ⟨i,hi,hz,hsz,hby⟩:=ht.parts
  have hpos:=ht.2.2.2
  obtain ⟨o,ho,ho'⟩:=cutA_some g c l sz
  rw [ho] at hx
  rcases Nat.eq_zero_or_pos k with h0 | h0
  · subst h0
    refine SR.run_none (v:=.tuple #[]) (w':=w) ?_ rfl rfl (h w cs (Kp.refl _) hR rfl)
    simp [execOp,resolve,invoke,builtin,hx,Builtin.clear_,run_underlying ht.1]
  · have hlc:c≠l:=by omega
    have hol:=ho' hlc
    subst hol
    have hvl:(Builtin.zeroCells z.cells k).toList.length=k*sz:=by simp [Builtin.zeroCells,ht.2.2.1]
    have hfit:l*sz+(Builtin.zeroCells z.cells k).toList.length≤c*sz:=by rw [hvl,← Nat.add_mul]; exact Nat.mul_le_mul_right _ hlk
    have hst:=hR.run_store (P:=P) (Builtin.zeroCells z.cells k).toList hfit (fun v hv=>by
      simp only [Builtin.zeroCells,Array.toList_map,List.mem_map] at hv
      obtain ⟨j,_,rfl⟩:=hv
      have hp:0<z.cells.size:=by rw [ht.2.2.1]; exact hpos
      rw [getElem!_pos z.cells (j % z.cells.size) (Nat.mod_lt _ hp)]
      exact Array.all_eq_true.1 hz1 _ (Nat.mod_lt _ hp))
    obtain ⟨hr,hk,_⟩:=hR.set (Builtin.zeroCells z.cells k).toList hfit
    refine SR.run_none (v:=.tuple #[]) (w':=_) ?_ rfl rfl (h _ _ hk hr ?_)
    · have hkk:k≠0:=by omega
      cases k with
      | zero=>omega
      | succ k=>simp [execOp,resolve,invoke,builtin,hx,Builtin.clear_,run_underlying ht.1,zeroValue,typeInfo,hi,hz,hst]
    · have hll:(cs.take (l*sz)).length=l*sz:=by
        rw [List.length_take,hR.len]; exact Nat.min_eq_left (Nat.mul_le_mul_right _ oB)
      unfold spl
      rw [List.append_assoc,List.take_append_of_le_length oB,List.take_of_length_le oB]
theorem SR.clearO {l k c' m:Nat} (ht:TEl P t e z sz by_) (hx:ev n f x=.slice (cutA A c l sz) k c') (hO:SlO w base enc sz e A m c L) (hml:m≤l) (hlk:l+k≤c) (hz1:z.cells.all (·.oneCell')=true)
    (h:∀ w',Kp (fun b=>A=some ⟨b,0,none⟩) w w'→SlO w' base enc sz e A m c L→SR P ops N R X n rest f w') :
    SR P ops N R X n (⟨none,.call ⟨.builtin .clear,#[x],#[t]⟩,ty,p,af,none⟩ :: rest) f w:=by
  cases hA:A with
  | none =>
    subst hA
    have hc:cutA (none:Option Addr) c l sz=none:=by unfold cutA; split <;> rfl
    rw [hc] at hx
    refine SR.run_none (v:=.tuple #[]) (w':=w) ?_ rfl rfl (h w (Kp.refl _) hO)
    simp [execOp,resolve,invoke,builtin,hx,Builtin.clear_,run_underlying ht.1]
  | some a =>
    obtain ⟨g,cs,hg,hR,htk,hmc⟩:=hO.raw (by rw [hA]; rfl)
    rw [hg] at hx
    refine SR.clearR ht hx hR hlk hz1 fun w' cs' hk hR' htk'=>h w' (hk.sub fun b hb=>by rw [hg,hb]) ?_
    rw [hg]
    refine hR'.own hmc hO.len hO.esz ?_
    have:m*sz≤l*sz:=Nat.mul_le_mul_right _ hml
    have h2:(cs'.take (l*sz)).take (m*sz)=(cs.take (l*sz)).take (m*sz):=by rw [htk']
    rw [List.take_take,List.take_take,Nat.min_eq_left this] at h2
    rw [h2,htk]
theorem r_cut3 {d:Option Tmp} {gg:Option (Nat × Bool)} {a b q:Operand} {k k' k'':IntKind} {l h' m' m:Nat} {zl zh zm:Int} (ht:TSl P t e sz) (hx:ev n f x=.slice A m c) (ha:ev n f a=.int k zl) (hb:ev n f b=.int k' zh) (hq:ev n f q=.int k'' zm) (hzl:zl=(l:Int)) (hzh:zh=(h':Int)) (hzm:zm=(m':Int)) (hl:l≤h') (hh:h'≤m') (hm:m'≤c) :
    Run P ⟨d,.slice t x (some a) (some b) (some q),ty,p,af,gg⟩ n f w (.slice (if m'=l then A else A.map (·.add (l*sz))) (h'-l) (m'-l)):=by
  subst hzl hzh hzm
  have h1:(l:Int)≤(h':Int):=by omega
  have h2:(h':Int)≤(m':Int):=by omega
  have h3:(m':Int)≤(c:Int):=by omega
  unfold Run
  simp [execOp,hx,ha,hb,hq,Instr.sliceAt,Instr.slice,run_underlying ht.1,Instr.sliceBounds,Instr.sliceBound,asIntOf,hl,hh,hm,ht.2 w]
theorem SR.copyR {d l dl dc k c2 m:Nat} {A2:Option Addr} {vs:List Value} {t2:TypeId} (ht:TEl P t e z sz by_) (hx:ev n f x=.slice (cutA (some ⟨g,0,none⟩) c l sz) dl dc) (hy:ev n f y=.slice A2 k c2) (hR:Rw w base sz e g c cs)
    (hm:Nat.min k dl=m) (hlk:l+m≤c) (hv:vs.length=m*sz) (hA:0<m→∀ j u,vs[j]?=some u→w.cell? ((adr A2).add j)=some u) (hA2:0<m→A2.isSome=true) (h1:∀ v∈vs,v.oneCell'=true)
    (h:∀ w',Kp (fun b=>b=g) w w'→Rw w' base sz e g c (spl cs (l*sz) vs)→SR P ops N R X n rest (set f d (.int .i64 m)) w') :
    SR P ops N R X n (⟨some d,.call ⟨.builtin .copy,#[x,y],#[t,t2]⟩,ty,p,af,none⟩ :: rest) f w:=by
  obtain ⟨i,hi,hz,hsz,hby⟩:=ht.parts
  have hpos:=ht.2.2.2
  obtain ⟨o,ho,ho'⟩:=cutA_some g c l sz
  rw [ho] at hx
  rcases Nat.eq_zero_or_pos m with h0 | h0
  · subst h0
    have hvs:vs=[]:=List.eq_nil_of_length_eq_zero (by simpa using hv)
    subst hvs
    have hs:spl cs (l*sz) []=cs:=by simp [spl]
    refine SR.run (v:=.int .i64 (0:Nat)) (w':=w) ?_ rfl rfl (h w (Kp.refl _) (by rw [hs]; exact hR))
    cases A2 <;> simp [execOp,resolve,invoke,builtin,hx,hy,Builtin.copy_,run_underlying ht.1,Builtin.lenOf,hm,sizeOf,typeInfo,hi,Builtin.firstCells,loadCells,loadCellsFrom,storeCells,goInt]
  · have hol:=ho' oB
    subst hol
    obtain ⟨a,rfl⟩:=Option.isSome_iff_exists.1 (hA2 h0)
    have hfit:l*sz+vs.length≤c*sz:=by rw [hv,← Nat.add_mul]; exact Nat.mul_le_mul_right _ hlk
    have hld:=run_loadCells_list (P:=P) w a vs (hA h0)
    rw [hv] at hld
    have hst:=hR.run_store (P:=P) vs hfit h1
    obtain ⟨hr,hk,_⟩:=hR.set vs hfit
    refine SR.run (v:=.int .i64 m) (w':=_) ?_ rfl rfl (h _ hk hr)
    simp [execOp,resolve,invoke,builtin,hx,hy,Builtin.copy_,run_underlying ht.1,Builtin.lenOf,hm,sizeOf,typeInfo,hi,hsz,Builtin.firstCells,hld,hst,goInt]
end
theorem SlO.cutb {α:Type} {w:World} {base sz e n c l z:Nat} {enc:α→List Value} {A:Option Addr} {L:List α} (h:SlO w base enc sz e A n c L) (hn:0<n):A=some ⟨(adr (cutA A c l z)).block,0,none⟩:=by
  obtain ⟨g,_,hg,_⟩:=h.raw (h.rd.some hn)
  subst hg; unfold cutA; split <;> simp [adr,add_block]
end Go.Proofs.YtndcchndcghmoaaGreatDoor.Fw
namespace Go.Proofs.YtndcchndcghmoaaGreatDoor
open Go Go.RowKit Fw
theorem cell_stays {g:Nat} {w w':World} (h:∃ m,w.cell? ⟨g,0,none⟩=some (.int .i64 m)) (k:Lo w w'):∃ m,w'.cell? ⟨g,0,none⟩=some (.int .i64 m):=by
  obtain ⟨m,hm⟩:=h
  have hlt:g<w.heap.size:=by
    rcases Nat.lt_or_ge g w.heap.size with h | h
    · exact h
    · simp [World.cell?,Array.getElem?_eq_none h] at hm
  exact ⟨m,(Below.cell (Kp.below k) (p:=⟨g,0,none⟩) hlt).trans hm⟩
def ErrC (w:World) (g:Nat):Prop:=∃ v,w.cell? ⟨g,0,none⟩=some v∧(v=.nilIface∨∃ t x,v=.iface t x)
theorem ErrC.lo {g:Nat} {w w':World} (h:ErrC w g) (k:Lo w w'):ErrC w' g:=by
  obtain ⟨v,hm,hv⟩:=h
  have hlt:g<w.heap.size:=by
    rcases Nat.lt_or_ge g w.heap.size with h | h
    · exact h
    · simp [World.cell?,Array.getElem?_eq_none h] at hm
  exact ⟨v,(Below.cell (Kp.below k) (p:=⟨g,0,none⟩) hlt).trans hm,hv⟩
structure EnvW (w:World):Prop where
  tab : Lib.TabIs Tryz.prog w "internal/strconv.uint64pow10" .u64 Lib.pow10Tab
  ml:∃ m,w.cell? ⟨0,0,none⟩=some (.int .i64 m)
  es:ErrC w 1
  er:ErrC w 2
theorem EnvW.lo {w w' : World} (h : EnvW w) (k : Lo w w') : EnvW w' := ⟨Go.Joins.tab_stays (by kernel_rfl : Tryz.prog.globalNamed "internal/strconv.uint64pow10" = some 5) h.tab (Kp.below k) (Nat.le_refl _), cell_stays h.ml k, h.es.lo k, h.er.lo k⟩
theorem lo_drewN (w:World) (n:Nat):Lo w (w.drewN n):=⟨rfl,rfl,rfl,Nat.le_refl _,fun _ _ _=>rfl⟩
theorem c_strconv_Itoa (w:World) (n:Int) (a:-9223372036854775808≤n∧n≤9223372036854775807) (hE:EnvW w):Calls Tryz.prog 127 #[.int .i64 n] w fun e w'=>e=.returned (str (Lib.itoa n))∧Lo w w' :=
  (Tryz.strconv_Itoa n a.1 a.2 w hE.tab).mono fun _ _ ⟨he,q,os,hw⟩=>⟨he,hw ▸ lo_of (Lib.below_grow _ _ (Nat.le_refl _) q os)⟩
theorem c_strings_Cut (w:World) (s:List UInt8) (p:List UInt8) (a:(s.length:Int)<4294967281) (hE:EnvW w):Calls Tryz.prog 118 #[str s,str p] w fun e w'=>e=.returned (.tuple (List.toArray [str (Lib.cut s p).1,str (Lib.cut s p).2.1,.bool (Lib.cut s p).2.2]))∧Lo w w':=by
  obtain ⟨m,hm⟩:=hE.ml
  exact (Tryz.strings_Cut ⟨s.toArray⟩ ⟨p.toArray⟩ m w (by show s.length<_; omega) hm).mono fun _ _ ⟨he,n,hw⟩=>⟨he,hw ▸ lo_drewN _ _⟩
theorem c_strings_Contains (w:World) (s:List UInt8) (p:List UInt8) (a:(s.length:Int)<4294967281) (hE:EnvW w):Calls Tryz.prog 94 #[str s,str p] w fun e w'=>e=.returned (.bool (Lib.contains s p))∧Lo w w':=by
  obtain ⟨m,hm⟩:=hE.ml
  exact (Tryz.strings_Contains ⟨s.toArray⟩ ⟨p.toArray⟩ m w (by show s.length<_; omega) hm).mono fun _ _ ⟨he,hw⟩=>⟨he,hw ▸ Lo.refl _⟩
theorem bytes_flat:∀ l:List ByteArray,l.map Value.string=(l.map (·.data.toList)).flatMap encS
  | []=>rfl
  | b :: r=>by
    have:=bytes_flat r
    simp only [List.map_cons,List.flatMap_cons,this,encS]
    rfl
theorem c_strings_Split (w:World) (s:List UInt8) (p:List UInt8) (b:(s.length:Int)<4294967281) (a:1≤p.length) (hE:EnvW w):Calls Tryz.prog 56 #[str s,str p] w fun e w'=>∃ (A1':Option Addr) (n1' c1':Nat),e=.returned (.slice A1' n1' c1')∧SlO w' w.heap.size encS 1 9 A1' n1' c1' (Lib.split s p)∧Lo w w':=by
  obtain ⟨m,hm⟩:=hE.ml
  refine (Tryz.strings_Split ⟨s.toArray⟩ ⟨p.toArray⟩ m w (by show s.length<_; omega) hm a).mono fun e w' ⟨he,hw⟩=>?_
  have hl:=Lib.splitB_all ⟨p.toArray⟩ a 0 (Lib.countB ⟨s.toArray⟩ ⟨p.toArray⟩) ⟨s.toArray⟩ G
  have hd:(Lib.splitB ⟨p.toArray⟩ 0 (Lib.countB ⟨s.toArray⟩ ⟨p.toArray⟩) ⟨s.toArray⟩).map (·.data.toList)=Lib.split s p:=Lib.splitB_data _ _ _ _
  have hn:Lib.countB ⟨s.toArray⟩ ⟨p.toArray⟩+1=(Lib.split s p).length:=by rw [← hd,List.length_map,hl]
  have hc:Lib.countB ⟨s.toArray⟩ ⟨p.toArray⟩≤s.length:=Lib.countB_le ⟨p.toArray⟩ a s.length ⟨s.toArray⟩ (Nat.le_refl _)
  rw [bytes_flat,hd] at hw
  rw [hn] at he
  subst hw
  have hfl:((Lib.split s p).flatMap encS).length=(Lib.split s p).length*1:=flat_len (enc:=encS) (sz:=1) (fun _=>G) (Lib.split s p)
  refine ⟨_,_,_,he,⟨?_,G,fun _=>G,by simp⟩,Lo.alloc _ _⟩
  have:=World.ownsRow_lit (base:=w.heap.size) (e:=9) (size:=1) w ((Lib.split s p).flatMap encS).toArray (Lib.split s p).length (Nat.le_refl _) (by unfold maxLen; omega) (by simpa using hfl)
  simpa using this
theorem own_addr {w:World} {b sz e n c:Nat} {A:Option Addr} {L:List (List UInt8)} (h:SlO w b encS sz e A n c L) (hn:0<n):∃ g,A=some ⟨g,0,none⟩:=by
  obtain ⟨g,_,hg,_⟩:=h.raw (h.rd.some hn)
  exact ⟨g,hg⟩
theorem c_strings_Join (w:World) (L:List (List UInt8)) {AL:Option Addr} {nL cL BL:Nat} (hL:SlR w BL encS 1 AL nL cL L) (p:List UInt8) (b:∃ g,AL=some ⟨g,0,none⟩) (a:(0<nL∧(nL:Int)≤1048576)∧(Lib.join L p).length≤140737488355328):Calls Tryz.prog 186 #[.slice AL nL cL,str p] w fun e w'=>e=.returned (str (Lib.join L p))∧Lo w w':=by
  obtain ⟨g,rfl⟩:=b
  have hm:(L.map fun l=>(⟨l.toArray⟩:ByteArray)).map (·.data.toList)=L:=by simp [Function.comp_def]
  have hn:nL=(L.map fun l=>(⟨l.toArray⟩:ByteArray)).length:=by rw [List.length_map]; exact hL.len
  have hb:=hL.blk a.1.1
  have hbd:=hL.bd
  have hc:=hL.cap
  subst hn
  have h:=Tryz.strings_Join g 0 cL (L.map fun l=>(⟨l.toArray⟩:ByteArray)) ⟨p.toArray⟩ w (fun j x hx=>?_) (Nat.lt_of_lt_of_le hb hbd) oB hc (by rw [hm]; exact a.2)
  · refine h.mono fun e w' ⟨he,hw⟩=>⟨?_,lo_of hw⟩
    rw [he,hm]; rfl
  · rw [List.getElem?_map] at hx
    obtain ⟨y,hy,rfl⟩:=Option.map_eq_some_iff.1 hx
    have:=hL.at_ j y hy 0 (str y) G
    rw [show (adr (some ⟨g,0,none⟩)).add (j*1+0)=(⟨g,0+j,none⟩:Addr) by rw [show j*1+0=j by omega]; exact add_at g 0 j] at this
    exact this
theorem c_strconv_Atoi (w:World) (s:List UInt8) (a:(s.length:Int)≤281474976710656) (hE:EnvW w):Calls Tryz.prog 149 #[str s] w fun e w'=>∃ (n:Int) (v:Value),e=.returned (.tuple (List.toArray [.int .i64 n,v]))∧(AtIs s n)∧(ErrIs v (atB s=true))∧Lo w w':=by
  have hz:(⟨s.toArray⟩:ByteArray).size≤281474976710656:=by show s.length≤_; omega
  rcases h:Lib.atoiAll s with v | _ | _
  · refine (Tryz.strconv_Atoi_ok ⟨s.toArray⟩ oB v h w).mono fun e w' ⟨he,hw⟩=>⟨v,.nilIface,he,⟨Lib.atoiAll_bounds h,fun _=>h⟩,.inl ⟨by unfold atB; rw [h],G⟩,?_⟩
    rcases hw with rfl | ⟨t,rfl⟩
    · exact Lo.refl _
    · exact lo_of (Lib.bytesWorld_below _ _ _)
  · obtain ⟨ev,hv,hev⟩:=hE.es
    have hC:Calls Tryz.prog 149 #[str s] w fun e w'=>∃ N,e=.returned (.tuple #[.int .i64 0,.iface 208 (.pointer (some ⟨N,0,none⟩))])∧w.heap.size≤N∧w'.heap[N]?=some (.cells #[.string ⟨#[65,116,111,105]⟩,str s,ev] 231 (0,0))∧Below w.heap.size w w':=Any.strconv_Atoi_syntax Tryz.laysC172 ⟨s.toArray⟩ hz h ev w hv hev
    exact hC.mono fun e w' ⟨N,he,_,_,hb⟩=>⟨0,_,he,⟨oB,fun q=>by simp [atB,h] at q⟩,.inr ⟨by simp [atB,h],_,_,G⟩,lo_of hb⟩
  · obtain ⟨ev,hv,hev⟩:=hE.er
    exact (Tryz.strconv_Atoi_range ⟨s.toArray⟩ hz h ev w hv hev).mono fun e w' ⟨N,he,_,_,hb⟩=>⟨_,_,he,⟨Lib.atoiSat_bounds _,fun q=>by simp [atB,h] at q⟩,.inr ⟨by simp [atB,h],_,_,G⟩,lo_of hb⟩
theorem c_strings_TrimPrefix (w:World) (s:List UInt8) (p:List UInt8):Calls Tryz.prog 170 #[str s,str p] w fun e w'=>e=.returned (str (Lib.trimPrefix s p))∧Lo w w' :=
  (Tryz.strings_TrimPrefix ⟨s.toArray⟩ ⟨p.toArray⟩ w).mono fun _ _ ⟨he,hw⟩=>⟨he,hw ▸ Lo.refl _⟩
end Go.Proofs.YtndcchndcghmoaaGreatDoor
namespace Go.Proofs.YtndcchndcghmoaaGreatDoor.Fw
open Go Go.RowKit
@[reducible] def pA (g:Nat):Option Addr:=some ⟨g,0,none⟩
theorem SlO.ne {α:Type} {w:World} {base sz e n c g:Nat} {enc:α→List Value} {A:Option Addr} {L:List α} (h:SlO w base enc sz e A n c L) (hg:g<base∨w.heap.size≤g:=by omega):¬A=some ⟨g,0,none⟩:=fun hA=>by have:=h.base_le hA; omega
theorem At.r {f:Env}:∀ {l:List (Nat × Value)},l.map (fun p=>f p.1)=l.map Prod.snd→At f l
  | [],_=>trivial
  | p :: r,h=>by
    simp only [List.map_cons,List.cons.injEq] at h
    exact ⟨h.1,At.r h.2⟩
@[reducible] def KA (A:Option Addr) (b:Nat):Prop:=A=some ⟨b,0,none⟩
@[reducible] def Dj (A B:Option Addr):Prop:=∀ b,A=some ⟨b,0,none⟩→¬B=some ⟨b,0,none⟩
@[reducible] def KB (A B:Option Addr) (b:Nat):Prop:=A=some ⟨b,0,none⟩∨B=some ⟨b,0,none⟩
@[reducible] def Og (A B C:Option Addr) (w:World):Prop:=∀ b,A=some ⟨b,0,none⟩→(B=some ⟨b,0,none⟩∨C=some ⟨b,0,none⟩)∨w.heap.size≤b
@[reducible] def i6 (n:Int):Value:=.int .i64 n
@[reducible] def pt (g:Nat):Value:=.pointer (pA g)
theorem dj {α β:Type} {w w2:World} {base sz e n c base2 sz2 e2 n2 c2:Nat} {enc:α→List Value} {enc2:β→List Value} {A A2:Option Addr} {L:List α} {M:List β} (h:SlO w base enc sz e A n c L) (k:SlO w2 base2 enc2 sz2 e2 A2 n2 c2 M) (hd:w.heap.size≤base2∨w2.heap.size≤base:=by omega):Dj A A2:=fun _ h1 h2=>by
  have:=h.base_le h1; have:=k.base_le h2; omega
theorem kr {S:Nat→Prop} {a b:World} (k:Lo a b):Kp S a b:=(Kp.refl a).lo k
theorem ler {n m:Nat} (h:Nat.ble n m=true:=by exact rfl):n≤m:=Nat.le_of_ble_eq_true h
theorem en {P : Program} {k : FuncId} {fn : Func} (hf : P.funcs[k]? = some fn) (hn : (fn.name == "runtime.NumGoroutine") = false := by decide +kernel) (hb : fn.body.isNone = false := by rfl) : Ent P k := ent_of hf hn hb
theorem tG {P:Program} {t m:Nat} (h1:∀ w,(isAgg t).run P w=.ok true w:=by exact fun _=>by kernel_rfl) (h2:∀ w,(sizeOf t).run P w=.ok m w:=by exact fun _=>by kernel_rfl):TAgg P t m:=⟨h1,h2⟩
theorem tS {P:Program} {t:Nat} (h1:∀ w,(isAgg t).run P w=.ok false w:=by exact fun _=>by kernel_rfl) (h2:∀ w,(sizeOf t).run P w=.ok 1 w:=by exact fun _=>by kernel_rfl):TSca P t:=⟨h1,h2⟩
section
variable {P : Program} {n : Nat} {f : Env} {w : World} {v : Value} {d : Option Tmp} {t : TypeId} {p : String} {af : Array Edge} {g : Option (Nat × Bool)} {x : Operand} {tx : TypeId} {a : Int} {b : Bool} {s : List UInt8} {A : Option Addr} {m c i : Nat} {l u : List Value} {q : Addr}
theorem mI (hx:ev n f x=.int .i64 a):Run P ⟨d,.move x,t,p,af,g⟩ n f w (.int .i64 a):=r_mv hx
theorem mB (hx:ev n f x=.bool b):Run P ⟨d,.move x,t,p,af,g⟩ n f w (.bool b):=r_mv hx
theorem mS (hx:ev n f x=str s):Run P ⟨d,.move x,t,p,af,g⟩ n f w (str s):=r_mv hx
theorem mL (hx:ev n f x=.slice A m c):Run P ⟨d,.move x,t,p,af,g⟩ n f w (.slice A m c):=r_mv hx
theorem mT (hx:ev n f x=.tuple l.toArray):Run P ⟨d,.move x,t,p,af,g⟩ n f w (.tuple l.toArray):=r_mv hx
theorem mP (hx:ev n f x=.pointer (some q)):Run P ⟨d,.move x,t,p,af,g⟩ n f w (.pointer (some q)):=r_mv hx
theorem aI (hx:ev n f x=.int .i64 a):Run P ⟨d,.assign x,t,p,af,g⟩ n f w (.int .i64 a):=r_as hx
theorem aB (hx:ev n f x=.bool b):Run P ⟨d,.assign x,t,p,af,g⟩ n f w (.bool b):=r_as hx
theorem aS (hx:ev n f x=str s):Run P ⟨d,.assign x,t,p,af,g⟩ n f w (str s):=r_as hx
theorem aL (hx:ev n f x=.slice A m c):Run P ⟨d,.assign x,t,p,af,g⟩ n f w (.slice A m c):=r_as hx
theorem aP (hx:ev n f x=.pointer (some q)):Run P ⟨d,.assign x,t,p,af,g⟩ n f w (.pointer (some q)):=r_as hx
theorem xI (hx:ev n f x=.tuple u.toArray) (hv:u[i]?=some (.int .i64 a)):Run P ⟨d,.extract x i,t,p,af,g⟩ n f w (.int .i64 a):=r_ext hx hv
theorem xB (hx:ev n f x=.tuple u.toArray) (hv:u[i]?=some (.bool b)):Run P ⟨d,.extract x i,t,p,af,g⟩ n f w (.bool b):=r_ext hx hv
theorem xS (hx:ev n f x=.tuple u.toArray) (hv:u[i]?=some (str s)):Run P ⟨d,.extract x i,t,p,af,g⟩ n f w (str s):=r_ext hx hv
theorem xL (hx:ev n f x=.tuple u.toArray) (hv:u[i]?=some (.slice A m c)):Run P ⟨d,.extract x i,t,p,af,g⟩ n f w (.slice A m c):=r_ext hx hv
theorem xG (hx:ev n f x=.tuple u.toArray) (hv:u[i]?=some (.agg l.toArray)):Run P ⟨d,.extract x i,t,p,af,g⟩ n f w (.agg l.toArray):=r_ext hx hv
theorem lB {k j e:Nat} (ht:TSca P tx) (hx:ev n f x=.pointer (some ((⟨k,0,none⟩:Addr).add j))) (hb:Blk w k e l) (hv:l[j]?=some v):Run P ⟨d,.load tx x,t,p,af,g⟩ n f w v:=r_ld ht hx (hb.cell hv)
theorem lG {k e:Nat} (ht:TAgg P tx m) (hx:ev n f x=.pointer (some ⟨k,0,none⟩)) (hb:Blk w k e l) (hl:l.length=m):Run P ⟨d,.load tx x,t,p,af,g⟩ n f w (.agg l.toArray):=r_lda ht hx (fun _ _ hu=>hb.cell hu) hl
end
section
variable {P : Program} {l : List Oper} {N R : Act → World → Prop} {X : Nat → Act → World → Prop} {S : World → Prop} {n fuel d : Nat} {listed : Array Bool} {f : Env} {w : World} {op : Op} {t : TypeId} {p : String} {af : Array Edge} {gd : Option (Nat × Bool)} {v : Value}
theorem AH.tk (i:Nat) (hi:l[i]?=some ⟨some d,op,t,p,af,gd⟩) (hS:S w) (hrun:∀ w',S w'→Run P ⟨some d,op,t,p,af,gd⟩ n f w' v) (k:AH P l.toArray N R X S n fuel (listed.setIfInBounds i true) (set f d v) w)
    (hk:tk l listed i=true:=by kernel_rfl) (hy:Wn l n f ⟨some d,op,t,p,af,gd⟩:=by exact trivial):AH P l.toArray N R X S n (fuel+1) listed f w:=AH.take i hi hk hy hS hrun k
theorem AH.b1 (i:Nat) {o:Oper} (hi:l[i]?=some o) (h:SR P l.toArray (fun a' w'=>S w'∧∃ f',a'=act n f'∧AH P l.toArray N R X S n fuel (listed.setIfInBounds i true) f' w') R X n [o] f w)
    (hr:Region.ready .any l.toArray listed=[i]:=by kernel_rfl) (hw:Wn l n f o:=by exact trivial):AH P l.toArray N R X S n (fuel+1) listed f w:=AH.br [i] hr rfl ⟨Br.mk' hi hw h,trivial⟩
end
section
variable {P : Program} {ops : Array Oper} {N R : Act → World → Prop} {X : Nat → Act → World → Prop} {n : Nat} {rest : List Oper} {f : Env} {w : World}
theorem SR.cv {k:FuncId} {l:List Operand} {ts:Array TypeId} {t:TypeId} {p:String} {d:Nat} {af:Array Edge} {vs:List Value} {v:Value} (he:Ent P k) (hc:Calls P k vs.toArray w fun e w'=>e=.returned v∧Lo w w') (ha:l.map (ev n f)=vs)
    (h:∀ w',Lo w w'→w.heap.size≤w'.heap.size→SR P ops N R X n rest (set f d v) w'):SR P ops N R X n (⟨some d,.call ⟨.value (.func k),l.toArray,ts⟩,t,p,af,none⟩ :: rest) f w :=
  SR.call he hc ha fun _ w' ⟨h1,h2⟩=>⟨v,h1,h w' h2 h2.size⟩
end
theorem e8 {a1 a2:Value} {x3 x4 x5 x8 y3 y4 y5 y8:Int} {x6 x7 y6 y7:List UInt8} (h3:x3=y3) (h4:x4=y4) (h5:x5=y5) (h6:x6=y6) (h7:x7=y7) (h8:x8=y8):Value.agg (List.toArray [a1,a2,.int .i64 x3,.int .i64 x4,.int .i64 x5,str x6,str x7,.int .i64 x8])=Value.agg (List.toArray [a1,a2,.int .i64 y3,.int .i64 y4,.int .i64 y5,str y6,str y7,.int .i64 y8]):=by rw [h3,h4,h5,h6,h7,h8]
theorem e5 {a1 a2:Value} {x3 x4 x5 y3 y4 y5:Int} (h3:x3=y3) (h4:x4=y4) (h5:x5=y5):Value.agg (List.toArray [a1,a2,.int .i64 x3,.int .i64 x4,.int .i64 x5])=Value.agg (List.toArray [a1,a2,.int .i64 y3,.int .i64 y4,.int .i64 y5]):=by rw [h3,h4,h5]
section
variable {P : Program} {ops : Array Oper} {N R : Act → World → Prop} {X : Nat → Act → World → Prop} {n : Nat} {rest : List Oper} {f : Env} {w : World} {d : Nat} {t e : TypeId} {p : String} {af : Array Edge} {g : Option (Nat × Bool)} {x y z : Operand} {l : List Value} {b : Bool} {dd : Option Tmp}
theorem bx (hx:ev n f x=.agg l.toArray) (h:∀ g w',g=w.heap.size→Lo w w'→w'.heap.size=g+1→Blk w' g e l→SR P ops N R X n rest (set f d (.pointer (some ⟨g,0,none⟩))) w'):SR P ops N R X n (⟨some d,.box e x,t,p,af,none⟩ :: rest) f w:=SR.box hx rfl h
theorem pT (hc:ev n f x=.bool true) (hv:ev n f y=.bool b):Run P ⟨dd,.pick x y z,t,p,af,g⟩ n f w (.bool b):=r_pick true hc hv
theorem pF (hc:ev n f x=.bool false) (hv:ev n f z=.bool b):Run P ⟨dd,.pick x y z,t,p,af,g⟩ n f w (.bool b):=r_pick false hc hv
end
theorem Q:type_of% @SR.q':=@SR.q'
theorem Qn:type_of% @SR.nil:=@SR.nil
theorem Ws:type_of% @W.seq:=@W.seq
theorem Wr:type_of% @W.regS:=@W.regS
section
variable {P : Program} {l : List Oper} {N R : Act → World → Prop} {X : Nat → Act → World → Prop} {n d j : Nat} {rest : List Oper} {f : Env} {w : World} {op : Op} {t : TypeId} {p : String} {af : Array Edge} {v : Value} {b : Bool}
theorem Qg (hr:Run P ⟨some d,op,t,p,af,some (j,b)⟩ n f w v) (k:SR P l.toArray N R X n rest (set f d v) w) (hy:yn l f n j=some b:=by exact rfl):SR P l.toArray N R X n (⟨some d,op,t,p,af,some (j,b)⟩ :: rest) f w:=SR.g' hy hr k
theorem Qs (k:SR P l.toArray N R X n rest (set f d undef) w) (hy:yn l f n j=some (!b):=by exact rfl):SR P l.toArray N R X n (⟨some d,op,t,p,af,some (j,b)⟩ :: rest) f w:=SR.s' hy k
theorem Qu (k:SR P l.toArray N R X n rest (set f d undef) w) (hy:yn l f n j=none:=by exact rfl):SR P l.toArray N R X n (⟨some d,op,t,p,af,some (j,b)⟩ :: rest) f w:=SR.u' hy k
end
theorem Qv:type_of% @SR.cv:=@SR.cv
theorem fA:type_of% @r_fa:=@r_fa
theorem Qw:type_of% @SR.store:=@SR.store
theorem Ak:type_of% @AH.tk:=@AH.tk
theorem Ab:type_of% @AH.b1:=@AH.b1
theorem Wd:type_of% @W.cond_d:=@W.cond_d
theorem Wb:type_of% @W.cond_b:=@W.cond_b
theorem Wz:type_of% @W.cond_n:=@W.cond_n
theorem We:type_of% @W.ret:=@W.ret
theorem Wk:type_of% @W.skip:=@W.skip
theorem Wx:type_of% @W.exit:=@W.exit
theorem xh:type_of% @xin_here:=@xin_here
theorem xo:type_of% @xin_out:=@xin_out
theorem Wl:type_of% @W.block:=@W.block
theorem WA:type_of% @W.regA:=@W.regA
theorem Qc:type_of% @SR.call:=@SR.call
theorem Qa:type_of% @SR.alloc:=@SR.alloc
theorem QD:type_of% @SR.splitD:=@SR.splitD
theorem QN:type_of% @SR.splitN:=@SR.splitN
theorem Av:type_of% @AH.via:=@AH.via
theorem Ag:type_of% @AH.goto:=@AH.goto
theorem Ad:type_of% @AH.done:=@AH.done
theorem Bm:type_of% @Br.mk':=@Br.mk'
theorem sA:type_of% @sets_of_at:=@sets_of_at
theorem Ql:type_of% @SR.lit:=@SR.lit
theorem Qp:type_of% @SR.app:=@SR.app
theorem Rg:type_of% @QR.g':=@QR.g'
theorem Rq:type_of% @QR.q':=@QR.q'
theorem Rs:type_of% @QR.s':=@QR.s'
theorem rX:type_of% @r_ixR:=@r_ixR
theorem cW:type_of% @calls_W:=@calls_W
theorem oq:type_of% @SlO.eqv:=@SlO.eqv
theorem nE:type_of% @SlO.ne:=@SlO.ne
theorem lr:type_of% @Lo.refl:=@Lo.refl
theorem kq:type_of% @Kp.refl:=@Kp.refl
theorem Ar:type_of% @AH.br:=@AH.br
theorem As:type_of% @AH.split:=@AH.split
theorem rN:type_of% @r_not:=@r_not
theorem WL:type_of% @W.loop:=@W.loop
theorem WJ:type_of% @W.regJS:=@W.regJS
end Go.Proofs.YtndcchndcghmoaaGreatDoor.Fw
namespace Go.Proofs.YtndcchndcghmoaaGreatDoor.Fw
open Go Go.RowKit
section
variable {P : Program} {n : Nat} {f : Env} {w : World} {d : Option Tmp} {t u tx ty : TypeId} {p : String} {af : Array Edge} {g : Option (Nat × Bool)} {x y : Operand} {a b : Int} {k k2 : IntKind}
theorem r_nilp {a:Addr} (hx:ev n f x=.pointer (some a)):Run P ⟨d,.nilCheck x,t,p,af,g⟩ n f w (.pointer (some a)):=by
  simp [Run,execOp,hx]
theorem r_shr40 (hx:ev n f x=.int .u64 a) (hy:ev n f y=.int k 40) (_h:0≤a):Run P ⟨d,.binOp .shr tx x y u,t,p,af,g⟩ n f w (.int .u64 (a / 1099511627776)):=by
  have e:a.fdiv 1099511627776=a / 1099511627776:=Int.fdiv_eq_ediv_of_nonneg _ oB
  have eb:min 40 IntKind.u64.bits=40:=by decide
  simp [Run,execOp,hx,hy,binOp,Op.shift,eqGuard,eb,e]
theorem and255 {a:Int} (h:0≤a):((a.toNat &&& 255:Nat):Int)=a % 256:=by
  have:a.toNat &&& 255=a.toNat % 256:=Nat.and_two_pow_sub_one_eq_mod a.toNat 8
  rw [this]; omega
theorem r_and255 (hx:ev n f x=.int .u64 a) (hy:ev n f y=.int .u64 255) (h:0≤a∧a≤18446744073709551615):Run P ⟨d,.binOp .and tx x y u,t,p,af,g⟩ n f w (.int .u64 (a % 256)):=by
  have eb:IntKind.u64.bits=64:=by decide
  have e3:IntKind.u64.wrap ((a.toNat &&& 255:Nat):Int)=a % 256:=by
    rw [and255 h.1,IntKind.wrap_u64]; omega
  simp [Run,execOp,hx,hy,binOp,Op.intBits,eqGuard,eb]
  rw [show a % 18446744073709551616=a by omega]; exact e3
end
section
variable {P : Program} {fn : Func} {R : Ending → World → Prop} {n : Nat} {f : Env} {w : World}
theorem retTC {p t m g e u:Nat} {l:List Value} {v:Value} (hr:fn.results=#[.tmp u,.cell p t]) (hu:ev n f (.tmp u)=v) (hp:ev n f (.tmp p)=.pointer (some ⟨g,0,none⟩)) (ht:TAgg P t m) (hb:Blk w g e l) (hl:l.length=m)
    (h:R (.returned (.tuple #[v,.agg l.toArray])) w):bodyPost P fn R .ret (act n f) w:=by
  refine bodyPost_ret (v:=.tuple #[v,.agg l.toArray]) ?_ rfl h
  have e1:=getD_act n f p
  have e2:=getD_act n f u
  rw [show cond (Nat.blt p n) (f p) undef=ev n f (.tmp p) from rfl,hp] at e1
  rw [show cond (Nat.blt u n) (f u) undef=ev n f (.tmp u) from rfl,hu] at e2
  simp only [Array.getD_eq_getD_getElem?] at e1 e2
  simp [results,hr,e1,e2,asAddr,load_cell ht hb hl]
end
section
variable {P : Program} {n : Nat} {f : Env} {w : World} {d : Option Tmp} {t u tx ty : TypeId} {p : String} {af : Array Edge} {g : Option (Nat × Bool)} {x y : Operand} {l r : List Value} {q : Bool}
theorem r_eqA (hx:ev n f x=.agg l.toArray) (hy:ev n f y=.agg r.toArray) (hm:P.eqGuardType P.depth tx=false) (h:∀ w,(binOp .eql tx (.agg l.toArray) (.agg r.toArray)).run P w=.ok (.bool q) w):Run P ⟨d,.binOp .eql tx x y ty,t,p,af,g⟩ n f w (.bool q):=by
  simp [Run,execOp,hx,hy,run_eqGuard_agg w _ _ _ _ _ _ hm,h]
theorem r_neA (hx:ev n f x=.agg l.toArray) (hy:ev n f y=.agg r.toArray) (hm:P.eqGuardType P.depth tx=false) (h:∀ w,(binOp .eql tx (.agg l.toArray) (.agg r.toArray)).run P w=.ok (.bool q) w):Run P ⟨d,.binOp .neq tx x y ty,t,p,af,g⟩ n f w (.bool (!q)):=by
  have h2:(binOp .neq tx (.agg l.toArray) (.agg r.toArray)).run P w=.ok (.bool (!q)) w:=by
    have h1:=h w
    rw [run_eql_struct] at h1
    rw [run_neq_struct]
    cases he:(Op.equalIn 10000 tx (.agg l.toArray) (.agg r.toArray)).run P w with
    | ok b w'=>rw [he] at h1; simp at h1; simp [h1.1,h1.2]
    | halt e w'=>rw [he] at h1; simp [Result.andThen] at h1
  simp [Run,execOp,hx,hy,run_eqGuard_agg w _ _ _ _ _ _ hm,h2]
theorem eqin_str {e:TypeId} (h:P.underlying e=some .string) (s r:List UInt8) (w:World):(Op.equalIn 9999 e (str s) (str r)).run P w=.ok (decide (s=r)) w:=by
  rw [show (9999:Nat)=9998+1 from rfl]; unfold str; rw [run_equalIn_string w 9998 e _ _ h,str_eq]
end
theorem SlO.apart {α:Type} {w:World} {base sz e n c g:Nat} {enc:α→List Value} {A:Option Addr} {L:List α} (h:SlO w base enc sz e A n c L) (hd:¬A=some ⟨g,0,none⟩) (h0:0<n):¬(adr A).block=g:=by
  rcases h.row.2 with ⟨_,hn⟩ | ⟨b,cap,cur,hv,-⟩
  · omega
  · injection hv with h1 h2 h3
    subst h1
    intro hb
    exact hd (by rw [show b=g from hb])
theorem mem_le {L:List (List UInt8)} {n:Nat} (h:L.all (fun x=>decide (x.length≤n))=true) {v:List UInt8} (hv:v∈L):v.length≤n:=by
  have:=List.all_eq_true.1 h v hv
  simpa using this
theorem mem_rngB {L:List Int} {lo hi:Int} (h:L.all (fun x=>decide (lo≤x∧x≤hi))=true) {v:Int} (hv:v∈L):lo≤v∧v≤hi:=by
  have:=List.all_eq_true.1 h v hv
  simpa using this
theorem opens_byte {P:Program} {t:TypeId} (ht:P.underlying t=some (.int .u8)):Opens P t encB (fun _=>True):=by
  intro H enc w base spare held fuel cs x h
  obtain ⟨n,rfl,_,hw⟩:=DataW.trod_int ht h
  have hn:0≤n∧n≤255:=by simpa [Lit.wf,IntKind.min,IntKind.max,IntKind.signed,IntKind.bits] using hw
  refine ⟨UInt8.ofNat n.toNat,?_,trivial⟩
  have e:((UInt8.ofNat n.toNat).toNat:Int)=n:=by rw [UInt8.toNat_ofNat']; omega
  show [Value.int .u8 n]=[Value.int .u8 ((UInt8.ofNat n.toNat).toNat:Int)]
  rw [e]
end Go.Proofs.YtndcchndcghmoaaGreatDoor.Fw
namespace Go.Proofs.YtndcchndcghmoaaGreatDoor
open Go Go.RowKit Fw
set_option maxRecDepth 10000
set_option maxHeartbeats 2000000
set_option linter.unusedVariables false
theorem mo:Tryz.prog.follows .mixedOrders=true:=by kernel_rfl
end Go.Proofs.YtndcchndcghmoaaGreatDoor
namespace Go.Proofs.YtndcchndcghmoaaGreatDoor
open Go Go.RowKit Fw
set_option maxRecDepth 10000
set_option maxHeartbeats 2000000
set_option linter.unusedVariables false
variable {AL : Option Addr} {nL cL BL : Nat}
theorem ent127:Ent Tryz.prog 127:=en Tryz.func127
theorem ent133:Ent Tryz.prog 133:=en Tryz.func133
theorem ent146:Ent Tryz.prog 146:=en Tryz.func146
theorem ent147:Ent Tryz.prog 147:=en Tryz.func147
theorem ent177:Ent Tryz.prog 177:=en Tryz.func177
theorem ent178:Ent Tryz.prog 178:=en Tryz.func178
theorem ent187:Ent Tryz.prog 187:=en Tryz.func187
theorem ent66:Ent Tryz.prog 66:=en Tryz.func66
theorem ent74:Ent Tryz.prog 74:=en Tryz.func74
theorem ent75:Ent Tryz.prog 75:=en Tryz.func75
theorem ent81:Ent Tryz.prog 81:=en Tryz.func81
theorem ent82:Ent Tryz.prog 82:=en Tryz.func82
theorem ent93:Ent Tryz.prog 93:=en Tryz.func93
theorem ent94:Ent Tryz.prog 94:=en Tryz.func94
theorem fa71_0:FA Tryz.prog 71 0 0:=fun _ _=>by kernel_rfl
theorem fa71_1:FA Tryz.prog 71 1 1:=fun _ _=>by kernel_rfl
theorem sca5:TSca Tryz.prog 5:=tS
theorem sca9:TSca Tryz.prog 9:=tS
theorem tsl49:TSl Tryz.prog 49 5 1:=⟨by kernel_rfl,fun _=>by kernel_rfl⟩
theorem und3:Tryz.prog.underlying 3=some (.int .i64):=by kernel_rfl
theorem und49:Tryz.prog.underlying 49=some (.slice 5):=by kernel_rfl
theorem und5:Tryz.prog.underlying 5=some (.int .u8):=by kernel_rfl
theorem und9:Tryz.prog.underlying 9=some (.string):=by kernel_rfl
theorem c_spec_l1In (w:World) (n:Int) (a:Int) (b:Int):Calls Tryz.prog 133 #[i6 n,i6 a,i6 b] w fun e w'=>e=.returned (.bool (decide (a≤n∧n≤b)))∧Lo w w':=by
 refine cW 15 Tryz.func133 G G G (Ws (Wr (Q (aB G)<|Qn (Ws (WJ (fun f' w'=>At f' [(6,.bool (decide ((a≤n)∧(n≤b))))]∧Lo w w') ?_ ?_)))))
 ·refine Q (mI G)<|Q (mI G)<|Q (r_ge G G)<|Q (mB G)<|QD (fun f=>?_) (fun f=>?_)
  ·refine Qg (mI G)<|Qg (mI G)<|Qg (r_le G G)<|Q (pT G G)<|Q (aB G)<|Qn (⟨_,G,⟨⟨(eDD (jat f)),trivial⟩,(lr _)⟩⟩)
  ·refine Qs<|Qs<|Qs<|Q (pF G G)<|Q (aB G)<|Qn (⟨_,G,⟨⟨(eDF (jaf f).2),trivial⟩,(lr _)⟩⟩)
 rintro h i ⟨c,d⟩
 rw [← sA c]
 have g:=d.size
 refine We (ret1 G (v:=.bool _) G (⟨eR (eDD oB),((lr w).lo d)⟩))
theorem c_impl_within (w:World) (n:Int) (a:Int) (b:Int):Calls Tryz.prog 66 #[i6 n,i6 a,i6 b] w fun e w'=>e=.returned (.bool (decide (a≤n∧n≤b)))∧Lo w w':=by
 refine cW 15 Tryz.func66 G G G (Ws (Wr (Q (aB G)<|Qn (Ws (WJ (fun f' w'=>At f' [(6,.bool (decide ((a≤n)∧(n≤b))))]∧Lo w w') ?_ ?_)))))
 ·refine Q (mI G)<|Q (mI G)<|Q (r_ge G G)<|Q (mB G)<|QD (fun f=>?_) (fun f=>?_)
  ·refine Qg (mI G)<|Qg (mI G)<|Qg (r_le G G)<|Q (pT G G)<|Q (aB G)<|Qn (⟨_,G,⟨⟨(eDD (jat f)),trivial⟩,(lr _)⟩⟩)
  ·refine Qs<|Qs<|Qs<|Q (pF G G)<|Q (aB G)<|Qn (⟨_,G,⟨⟨(eDF (jaf f).2),trivial⟩,(lr _)⟩⟩)
 rintro h i ⟨c,d⟩
 rw [← sA c]
 have g:=d.size
 refine We (ret1 G (v:=.bool _) G (⟨eR (eDD oB),((lr w).lo d)⟩))
theorem c_impl_text (w:World) (n:Int) (b:-9223372036854775808≤n∧n≤9223372036854775807) (hE:EnvW w):Calls Tryz.prog 74 #[i6 n] w fun e w'=>e=.returned (str (Lib.itoa n))∧Lo w w':=by
 refine cW 5 Tryz.func74 G G G (Ws (Wr (Q (r_as (v:=str ([]:List UInt8)) G)<|Qn (Ws (Wr (Q (mI G)<|Qv ent127 (c_strconv_Itoa w n oB (hE.lo (lr w))) G fun f a d=>?_))))))
 have c:(Lib.itoa n).length≤21:=itoa_len (n:=n) oB oB
 refine Q (aS G)<|Qn (We (ret1 G (v:=str _) G (⟨eR G,((lr w).lo a)⟩)))
theorem c_spec_l1Num (w:World) (n:Int) (g:-9223372036854775807≤n∧n≤9223372036854775807):Calls Tryz.prog 75 #[i6 n] w fun e w'=>e=.returned (str (Lib.itoa n))∧Lo w w':=by
 refine cW 25 Tryz.func75 G G G (Ws (Wr (Q (r_as (v:=str ([]:List UInt8)) G)<|Qn (Ws (Ws (Wr (Q (mI G)<|Q (r_lt G G)<|Qn (Wd G (fun d=>?_) (fun d=>?_)))))))))
 ·refine Ws (Wr (Q (mI G)<|Q (r_neg G oB)<|Qv ent75 (c_spec_l1Num w (-n) oB) G fun m b k=>?_))
  have i:(Lib.itoa (-n)).length≤21:=itoa_len (n:=-n) oB oB
  refine Q (r_cat G G oA)<|Q (aS G)<|Qn (We (ret1 G (v:=str _) G (⟨eR (eS (by first | exact itoa_m ‹_› | exact itoa_d oB ‹_› | exact itoa_b oB)),((lr w).lo b)⟩)))
 ·refine Wk (Ws (Ws (Wr (Q (mI G)<|Q (r_lt G G)<|Qn (Wd G (fun f=>?_) (fun f=>?_))))))
  ·refine Ws (Wr (Q (mI G)<|Q (mI G)<|Q (r_add G G oB)<|Q (r_cutS (l:=n.toNat) (h:=(n+1).toNat) und9 G G G oB oB oB oA)<|Q (aS G)<|Qn (We (ret1 G (v:=str _) G (⟨eR (eS (by first | exact itoa_m ‹_› | exact itoa_d oB ‹_› | exact itoa_b oB)),(lr w)⟩)))))
  ·refine Wk (Ws (W.regD mo oC (Rq (fun w' hw'=>mI G)<|Rq (fun w' hw'=>r_quo G G oB)<|QR.call ent75 (fun w' hw'=>(c_spec_l1Num w' (n / 10) oB).mono fun _ _ h=>⟨h.1,hw'.trans h.2⟩) G<|?_)))
   have j:(Lib.itoa (n / 10)).length≤21:=itoa_len (n:=n / 10) oB oB
   refine Rq (fun w' hw'=>mI G)<|Rq (fun w' hw'=>r_rem G G oB)<|Rq (fun w' hw'=>mI G)<|Rq (fun w' hw'=>r_rem G G oB)<|Rq (fun w' hw'=>r_add G G oB)<|Rq (fun w' hw'=>r_cutS (l:=(n % 10).toNat) (h:=((n % 10)+1).toNat) und9 G G G oB oB oB oA)<|Rq (fun w' hw'=>r_cat G G oA)<|Rq (fun w' hw'=>aS G)<|QR.nil ?_
   intro o a
   have c:=a.size
   refine We (ret1 G (v:=str _) G (⟨eR (eS (by first | exact itoa_m ‹_› | exact itoa_d oB ‹_› | exact itoa_b oB)),((lr w).lo a)⟩))
termination_by n.toNat+2*(-n).toNat
decreasing_by all_goals omega
theorem c_slices_IndexFunc___byte_byte_ (w:World)  (L:List UInt8) (hL:SlR w BL encB 1 AL nL cL L) {kp:Nat} {capp:List Value} (p:UInt8→Bool) (hp:Fnc Tryz.prog w kp capp (fun x=>.int .u8 (x.toNat:Int)) p):Calls Tryz.prog 178 #[.slice AL nL cL,.func (.func kp) #[] (List.toArray capp)] w fun e w'=>e=.returned (i6 (idxF p L))∧Lo w w':=by
 refine cW 19 Tryz.func178 G G G ?_
 have hbdL:=hL.bound
 have hleL:=hL.len
 have hBbL:=hL.bd
 refine Ws (Wr (Q (aI G)<|Qn (Ws (Ws (Wr (Q (mL G)<|Q (r_len und49 G)<|Q (r_mv (v:=i6 0) G)<|Qn (Wl (WL (σ:=Nat) (fun g=>[(0,.slice AL nL cL),(1,.func (.func kp) #[] (List.toArray capp)),(7,i6 (nL:Int)),(8,i6 (g:Int))]) (fun g w'=>(Lo w w')∧(SlR w' BL encB 1 AL nL cL L)∧(g≤nL∧NoneTo p L g)) (fun g=>nL-g) 0 ?_ ?_ ?_))))))))
 ·exact (At.r G)
 ·exact ⟨(lr w),hL,(by exact ⟨Nat.zero_le _,NoneTo.zero⟩)⟩
 ·rintro k q o h
  obtain ⟨b,c,t⟩:(Lo w o)∧(SlR o BL encB 1 AL nL cL L)∧(k≤nL∧NoneTo p L k):=h
  refine (?_:W _ _ _ _ _ (act _ (sets q [(0,.slice AL nL cL),(1,.func (.func kp) #[] (List.toArray capp)),(7,i6 (nL:Int)),(8,i6 (k:Int))])) _)
  have n:=b.size
  refine Ws (Wr (Q (r_lt G G)<|Qn (Ws (Wd G (fun s=>?_) (fun s=>?_)))))
  ·refine Wk (Ws (Wl (Ws (Wr (Q (mI G)<|Q (aI G)<|Qn (Ws (Wr (Q (r_mv (v:=.func _ #[] (List.toArray _)) G)<|Q (mL G)<|Q (mI G)<|?_))))))))
   have j:=c.elem (i:=k) oB
   have l:=u8_le (gt L k)
   refine Q (rX tsl49 c G G oB)<|Q (r_ld (v:=.int .u8 ((gt L k).toNat:Int)) sca5 G (c.cell0 j G))<|SR.callv hp.1 G (hp.2 _ b (gt L k)) G ?_
   rintro e u ⟨rfl,a⟩
   refine ⟨_,G,?_⟩
   have m:=a.size
   have d:=b.lo a
   refine Qn (Wb G (fun f=>?_) (fun f=>?_))
   ·refine Ws (Wr (Q (mI G)<|Q (aI G)<|Qn (We (ret1 G (v:=i6 _) G (⟨eR (eI (by first | exact idx_at (And.right ‹_∧NoneTo p L _›) ‹L[_]?=some _› ‹_› | exact idx_no (And.right ‹_∧NoneTo p L _›) hleL ‹_›)),d⟩)))))
   ·refine Wk (Wr (Q (r_add G G oB)<|Q (mI G)<|Qn (⟨k+1,_,G,(At.r G),⟨d,c.lo a,?_⟩,?_⟩)))
    ·exact (by exact ⟨oB,NoneTo.next (And.right ‹_∧NoneTo p L _›) ‹L[k]?=some _› ‹_›⟩)
    ·exact oB
  ·refine Wx (xh (Ws (Wr (Q (r_as (v:=i6 (-1)) G)<|Qn (We (ret1 G (v:=i6 _) G (⟨eR (eI (by first | exact idx_at (And.right ‹_∧NoneTo p L _›) ‹L[_]?=some _› ‹_› | exact idx_no (And.right ‹_∧NoneTo p L _›) hleL ‹_›)),b⟩)))))))
theorem c_slices_ContainsFunc___byte_byte_ (w:World)  (L:List UInt8) (hL:SlR w BL encB 1 AL nL cL L) {kp:Nat} {capp:List Value} (p:UInt8→Bool) (hp:Fnc Tryz.prog w kp capp (fun x=>.int .u8 (x.toNat:Int)) p):Calls Tryz.prog 146 #[.slice AL nL cL,.func (.func kp) #[] (List.toArray capp)] w fun e w'=>e=.returned (.bool (L.any p))∧Lo w w':=by
 refine cW 9 Tryz.func146 G G G ?_
 have hbdL:=hL.bound
 have hleL:=hL.len
 have hBbL:=hL.bd
 refine Ws (Wr (Q (aB G)<|Qn (Ws (Wr (Q (mL G)<|Q (r_mv (v:=.func _ #[] (List.toArray _)) G)<|Qv ent178 (c_slices_IndexFunc___byte_byte_ w L hL p (hp.lo (lr w))) G fun d a c=>?_)))))
 have b:idxF p L<(L.length:Int)∧-1≤idxF p L:=idx_lt
 refine Q (r_ge G G)<|Q (aB G)<|Qn (We (ret1 G (v:=.bool _) G (⟨eR (eB (by rw [Bool.eq_iff_iff,decide_eq_true_eq]; exact any_idx)),((lr w).lo a)⟩)))
theorem c_impl_isPrinted_1 (w:World) (x:UInt8):Calls Tryz.prog 147 #[.int .u8 (x.toNat:Int)] w fun e w'=>e=.returned (.bool (!decide (PlB x)))∧Lo w w':=by
 refine cW 13 Tryz.func147 G G G (Ws (Wr (Q (aB G)<|Qn (Ws (WJ (fun f' w'=>At f' [(2,.bool (decide (((x.toNat:Int)<32)∨((126<(x.toNat:Int))∨((x.toNat:Int)=35)))))]∧Lo w w') ?_ ?_)))))
 ·refine Q (r_mv (v:=.int .u8 _) G)<|Q (r_lt G G)<|Q (mB G)<|QD (fun c=>?_) (fun c=>?_)
  ·refine Qs<|Qs<|Q (pT G G)<|Q (mB G)<|Qs<|Qs<|Q (pT G G)<|Q (aB G)<|Qn (⟨_,G,⟨⟨(eDT ((jot c).1 trivial)),trivial⟩,(lr _)⟩⟩)
  ·refine Qg (r_mv (v:=.int .u8 _) G)<|Qg (r_gt G G)<|Q (pF G G)<|Q (mB G)<|QD (fun d=>?_) (fun d=>?_)
   ·refine Qs<|Qs<|Q (pT G G)<|Q (aB G)<|Qn (⟨_,G,⟨⟨(eDT (((jot d).trans (jof c)).1 trivial)),trivial⟩,(lr _)⟩⟩)
   ·refine Qg (r_mv (v:=.int .u8 _) G)<|Qg (r_eq G G)<|Q (pF G G)<|Q (aB G)<|Qn (⟨_,G,⟨⟨(eDD ((jof d).trans (jof c))),trivial⟩,(lr _)⟩⟩)
 rintro g h ⟨a,b⟩
 rw [← sA a]
 have f:=b.size
 refine We (ret1 G (v:=.bool _) G (⟨eR (eB (by exact pl_not x)),((lr w).lo b)⟩))
theorem c_impl_isPrinted (w:World) (s:List UInt8) (g:(s.length:Int)≤281474976710656):Calls Tryz.prog 93 #[str s] w fun e w'=>e=.returned (.bool (decide (Plain s)))∧Lo w w':=by
 refine cW 7 Tryz.func93 G G G (Ws (Wr (Q (aB G)<|Qn (Ws (Wr (Q (mS G)<|SR.bytes (s:=s) und9 und49 und5 G oA ?_))))))
 intro l k j f b c 
 have i:=b.size
 refine Qv ent146 (c_slices_ContainsFunc___byte_byte_ j s c (fun u_:UInt8=>(!decide (PlB u_))) ⟨ent147,fun w'' hw'' x=>(c_impl_isPrinted_1 w'' x).mono fun _ _ h=>⟨h.1,h.2⟩⟩) G fun m a d=>(Q (rN G)<|Q (aB G)<|Qn (We (ret1 G (v:=.bool _) G (⟨eR (eBD (by exact plain_any s)),(((lr w).lo b).lo a)⟩))))
theorem c_impl_IsValidRecord (w:World) (r:LogRecord) (hE:EnvW w):Calls Tryz.prog 48 #[.agg (List.toArray (encLogRecord r))] w fun e w'=>e=.returned (.bool (decide (RecOK r)))∧Lo w w':=by
 refine cW 29 Tryz.func48 G G G (Ws (Wr (bx G ?_)))
 intro F y A n B g
 have m:=(lr w).lo n
 refine Q (aB G)<|Qn (Ws (WJ (fun f' w'=>At f' [(2,.bool (decide ((1≤(r.Command.length:Int)∧(r.Command.length:Int)≤160)∧(((r.Reply.length:Int)≤200)∧((Plain r.Command)∧((Plain r.Reply)∧((!(Lib.contains r.Command ([64]:List UInt8)))=true)))))))]∧Lo y w') ?_ ?_))
 ·refine Q (fA fa71_0 G)<|Q (lB sca9 G g G)<|Q (r_len_s und9 G)<|Qv ent66 (c_impl_within y (r.Command.length:Int) 1 160) G fun E a q=>(Q (mB G)<|QD (fun d=>?_) (fun d=>?_))
  ·refine Qg (fA fa71_1 G)<|Qg (lB sca9 G (g.lo a) G)<|Qg (r_len_s und9 G)<|Qg (r_le G G)<|Q (pT G G)<|Q (mB G)<|QD (fun f=>?_) (fun f=>?_)
   ·refine Qg (fA fa71_0 G)<|Qg (lB sca9 G (g.lo a) G)<|SR.gcall G ent93 (c_impl_isPrinted E r.Command oD) G ?_
    rintro e o ⟨rfl,b⟩
    refine ⟨_,G,?_⟩
    have s:=b.size
    refine Q (pT G G)<|Q (mB G)<|QD (fun h=>?_) (fun h=>?_)
    ·refine Qg (fA fa71_1 G)<|Qg (lB sca9 G ((g.lo a).lo b) G)<|SR.gcall G ent93 (c_impl_isPrinted o r.Reply oD) G ?_
     rintro e p ⟨rfl,c⟩
     refine ⟨_,G,?_⟩
     have t:=c.size
     refine Q (pT G G)<|Q (mB G)<|QD (fun k=>?_) (fun k=>?_)
     ·refine Qg (fA fa71_0 G)<|Qg (lB sca9 G (((g.lo a).lo b).lo c) G)<|SR.gcall G ent94 (c_strings_Contains p r.Command ([64]:List UInt8) oB (hE.lo (((m.lo a).lo b).lo c))) G ?_
      rintro e C ⟨rfl,i⟩
      refine ⟨_,G,?_⟩
      have u:=i.size
      refine Qg (rN G)<|Q (pT G G)<|Q (aB G)<|Qn (⟨_,G,⟨⟨(eBD ((((jat k).trans (jat h)).trans (jat f)).trans (jat d))),trivial⟩,(((a.trans b).trans c).trans i)⟩⟩)
     ·refine Qs<|Qs<|Qs<|Qs<|Q (pF G G)<|Q (aB G)<|Qn (⟨_,G,⟨⟨(eDF ((((jaf k).trans (jat h)).trans (jat f)).trans (jat d)).2),trivial⟩,((a.trans b).trans c)⟩⟩)
    ·refine Qs<|Qs<|Qs<|Q (pF G G)<|Q (mB G)<|Qs<|Qs<|Qs<|Qs<|Q (pF G G)<|Q (aB G)<|Qn (⟨_,G,⟨⟨(eDF (((jaf h).trans (jat f)).trans (jat d)).2),trivial⟩,(a.trans b)⟩⟩)
   ·refine Qs<|Qs<|Qs<|Q (pF G G)<|Q (mB G)<|Qs<|Qs<|Qs<|Q (pF G G)<|Q (mB G)<|Qs<|Qs<|Qs<|Qs<|Q (pF G G)<|Q (aB G)<|Qn (⟨_,G,⟨⟨(eDF ((jaf f).trans (jat d)).2),trivial⟩,a⟩⟩)
  ·refine Qs<|Qs<|Qs<|Qs<|Q (pF G G)<|Q (mB G)<|Qs<|Qs<|Qs<|Q (pF G G)<|Q (mB G)<|Qs<|Qs<|Qs<|Q (pF G G)<|Q (mB G)<|Qs<|Qs<|Qs<|Qs<|Q (pF G G)<|Q (aB G)<|Qn (⟨_,G,⟨⟨(eDF (jaf d).2),trivial⟩,a⟩⟩)
 rintro z D ⟨l,j⟩
 rw [← sA l]
 have x:=j.size
 refine We (ret1 G (v:=.bool _) G (⟨eR (eDD (by simp only [contains1,RecOK]; simp)),(m.lo j)⟩))
theorem c_spec_l33Plain (w:World) (s:List UInt8) (m:Int) (F:(s.length:Int)≤281474976710656):Calls Tryz.prog 81 #[str s,i6 m] w fun e w'=>e=.returned (.bool (decide (Plain s∧(s.length:Int)≤m)))∧Lo w w':=by
 refine cW 28 Tryz.func81 G G G (Ws (Wr (Q (aB G)<|Qn (Ws (Ws (Wr (Q (aI G)<|Qn (Wl (WL (σ:=Nat) (fun g=>[(0,str s),(1,i6 m),(5,i6 (g:Int))]) (fun g w'=>(Lo w w')∧(g≤s.length∧∀ j,j<g→PlB (gt s j))) (fun g=>s.length-g) 0 ?_ ?_ ?_)))))))))
 ·exact (At.r G)
 ·exact ⟨(lr w),(by exact ⟨Nat.zero_le _,fun _ h=>absurd h oB⟩)⟩
 ·rintro k B q p
  obtain ⟨f,E⟩:(Lo w q)∧(k≤s.length∧∀ j,j<k→PlB (gt s j)):=p
  refine (?_:W _ _ _ _ _ (act _ (sets B [(0,str s),(1,i6 m),(5,i6 (k:Int))])) _)
  have A:=f.size
  refine Ws (Ws (Wr (Q (mI G)<|Q (mS G)<|Q (r_len_s und9 G)<|Q (r_lt G G)<|Qn (Wd G (fun D=>?_) (fun D=>?_)))))
  ·refine Wk (Ws (Wl (Ws (WJ (fun f' w'=>At f' [(0,str s),(1,i6 m),(5,i6 (k:Int)),(23,.bool (decide ((¬(32≤((gt s k).toNat:Int)∧((gt s k).toNat:Int)≤126))∨(((gt s k).toNat:Int)=35))))]∧Lo q w'∧(((gt s k).toNat:Int)≤255)) ?_ ?_))))
   ·refine Q (mS G)<|Q (mI G)<|?_
    have o:=u8_le (gt s k)
    refine Q (r_idxS (i:=k) und9 G G G oA)<|Q (r_convI und3 und5 G oB)<|Qv ent133 (c_spec_l1In q ((gt s k).toNat:Int) 32 126) G fun I n y=>(Q (rN G)<|Q (mB G)<|QN (fun c=>?_) (fun c=>?_))
    ·refine Qs<|Qs<|Qs<|Qs<|Q (pT G G)<|Qn (⟨_,G,⟨⟨G,G,G,(eDT ((jmf c).1 trivial)),trivial⟩,n,o⟩⟩)
    ·refine Qg (mS G)<|Qg (mI G)<|Qg (r_idxS (i:=k) und9 G G G oA)<|Qg (r_eq G G)<|Q (pF G G)<|Qn (⟨_,G,⟨⟨G,G,G,(eDD (jmt c)),trivial⟩,n,o⟩⟩)
   rintro C H ⟨l,b,t⟩
   rw [← sA l]
   have z:=b.size
   have a:=f.lo b
   refine Wd G (fun d=>?_) (fun d=>?_)
   ·refine Ws (Wr (Q (aB G)<|Qn (We (ret1 G (v:=.bool _) G (⟨eR (eDF (by first | exact fun hp=>plain_no (k:=k) oB (by unfold PlB; omega) hp.1 | (have hp:=plain_at (And.right ‹_∧∀ _,_›) oB; exact ⟨fun h=>⟨hp,h⟩,fun h=>h.2⟩))),a⟩)))))
   ·have u:32≤((gt s k).toNat:Int)∧((gt s k).toNat:Int)≤126:=(Classical.not_not.1 (not_or.1 d).1)
    have x:¬(((gt s k).toNat:Int)=35):=(not_or.1 d).2
    refine Wk (Wr (Q (mI G)<|Q (r_add G G oB)<|Q (aI G)<|Qn (⟨k+1,_,G,(At.r G),⟨a,?_⟩,?_⟩)))
    ·exact (by exact ⟨oB,all_next (And.right ‹_∧∀ _,_›) (by unfold PlB; omega)⟩)
    ·exact oB
  ·refine Wx (xh (Ws (Wr (Q (mS G)<|Q (r_len_s und9 G)<|Q (mI G)<|Q (r_le G G)<|Q (aB G)<|Qn (We (ret1 G (v:=.bool _) G (⟨eR (eDD (by first | exact fun hp=>plain_no (k:=k) oB (by unfold PlB; omega) hp.1 | (have hp:=plain_at (And.right ‹_∧∀ _,_›) oB; exact ⟨fun h=>⟨hp,h⟩,fun h=>h.2⟩))),f⟩)))))))
theorem c_spec_l1Stands (w:World) (s:List UInt8) (c:UInt8) (o:(s.length:Int)≤281474976710656):Calls Tryz.prog 82 #[str s,.int .u8 (c.toNat:Int)] w fun e w'=>e=.returned (.bool (decide (c∈s)))∧Lo w w':=by
 refine cW 17 Tryz.func82 G G G (Ws (Wr (Q (aB G)<|Qn (Ws (Ws (Wr (Q (aI G)<|Qn (Wl (WL (σ:=Nat) (fun g=>[(0,str s),(1,.int .u8 (c.toNat:Int)),(5,i6 (g:Int))]) (fun g w'=>(Lo w w')∧(g≤s.length∧∀ j,j<g→¬gt s j=c)) (fun g=>s.length-g) 0 ?_ ?_ ?_)))))))))
 ·exact (At.r G)
 ·exact ⟨(lr w),(by exact ⟨Nat.zero_le _,fun _ h=>absurd h oB⟩)⟩
 ·rintro k f q b
  obtain ⟨a,n⟩:(Lo w q)∧(k≤s.length∧∀ j,j<k→¬gt s j=c):=b
  refine (?_:W _ _ _ _ _ (act _ (sets f [(0,str s),(1,.int .u8 (c.toNat:Int)),(5,i6 (k:Int))])) _)
  have d:=a.size
  refine Ws (Ws (Wr (Q (mI G)<|Q (mS G)<|Q (r_len_s und9 G)<|Q (r_lt G G)<|Qn (Wd G (fun l=>?_) (fun l=>?_)))))
  ·refine Wk (Ws (Wl (Ws (Wr (Q (mS G)<|Q (mI G)<|?_)))))
   have p:=u8_le (gt s k)
   refine Q (r_idxS (i:=k) und9 G G G oA)<|Q (r_mv (v:=.int .u8 _) G)<|Q (r_eq G G)<|Qn (Wd G (fun m=>?_) (fun m=>?_))
   ·refine Ws (Wr (Q (aB G)<|Qn (We (ret1 G (v:=.bool _) G (⟨eR (eDT (by first | exact stands_yes (k:=k) oB (u8_eq.1 ‹_›) | exact stands_no (And.right ‹_∧∀ _,_›) oB)),a⟩)))))
   ·refine Wk (Wr (Q (mI G)<|Q (r_add G G oB)<|Q (aI G)<|Qn (⟨k+1,_,G,(At.r G),⟨a,?_⟩,?_⟩)))
    ·exact (by exact ⟨oB,none_next (And.right ‹_∧∀ _,_›) (fun e=>‹¬_› (u8_eq.2 e))⟩)
    ·exact oB
  ·refine Wx (xh (Ws (Wr (Q (aB G)<|Qn (We (ret1 G (v:=.bool _) G (⟨eR (eDF (by first | exact stands_yes (k:=k) oB (u8_eq.1 ‹_›) | exact stands_no (And.right ‹_∧∀ _,_›) oB)),a⟩)))))))
theorem c_spec_l33Good (w:World) (r:LogRecord) (y:(r.Command.length:Int)≤281474976710656∧(r.Reply.length:Int)≤281474976710656):Calls Tryz.prog 43 #[.agg (List.toArray (encLogRecord r))] w fun e w'=>e=.returned (.bool (decide (RecOK r)))∧Lo w w':=by
 refine cW 22 Tryz.func43 G G G (Ws (Wr (bx G ?_)))
 intro C t x k z d
 refine Q (aB G)<|Qn (Ws (WJ (fun f' w'=>At f' [(2,.bool (decide ((¬(r.Command=([]:List UInt8)))∧((Plain r.Command∧(r.Command.length:Int)≤160)∧((¬((64:UInt8)∈r.Command))∧(Plain r.Reply∧(r.Reply.length:Int)≤200))))))]∧Lo t w') ?_ ?_))
 ·refine Q (fA fa71_0 G)<|Q (lB sca9 G d G)<|Q (r_nes (s:=r.Command) (r:=([]:List UInt8)) G G)<|Q (mB G)<|QN (fun j=>?_) (fun j=>?_)
  ·refine Qg (fA fa71_0 G)<|Qg (lB sca9 G d G)<|SR.gcall G ent81 (c_spec_l33Plain t r.Command 160 oD) G ?_
   rintro e l ⟨rfl,a⟩
   refine ⟨_,G,?_⟩
   have n:=a.size
   refine Q (pT G G)<|Q (mB G)<|QD (fun c=>?_) (fun c=>?_)
   ·refine Qg (fA fa71_0 G)<|Qg (lB sca9 G (d.lo a) G)<|SR.gcall G ent82 (c_spec_l1Stands l r.Command (64:UInt8) oD) G ?_
    rintro e m ⟨rfl,b⟩
    refine ⟨_,G,?_⟩
    have o:=b.size
    refine Qg (rN G)<|Q (pT G G)<|Q (mB G)<|QN (fun h=>?_) (fun h=>?_)
    ·refine Qg (fA fa71_1 G)<|Qg (lB sca9 G ((d.lo a).lo b) G)<|SR.gcall G ent81 (c_spec_l33Plain m r.Reply 200 oD) G ?_
     rintro e A ⟨rfl,f⟩
     refine ⟨_,G,?_⟩
     have p:=f.size
     refine Q (pT G G)<|Q (aB G)<|Qn (⟨_,G,⟨⟨(eDD (((jnf h).trans (jat c)).trans (jnf j))),trivial⟩,((a.trans b).trans f)⟩⟩)
    ·refine Qs<|Qs<|Qs<|Q (pF G G)<|Q (aB G)<|Qn (⟨_,G,⟨⟨(eDF (((jnt h).trans (jat c)).trans (jnf j)).2),trivial⟩,(a.trans b)⟩⟩)
   ·refine Qs<|Qs<|Qs<|Qs<|Q (pF G G)<|Q (mB G)<|Qs<|Qs<|Qs<|Q (pF G G)<|Q (aB G)<|Qn (⟨_,G,⟨⟨(eDF ((jaf c).trans (jnf j)).2),trivial⟩,a⟩⟩)
  ·refine Qs<|Qs<|Qs<|Q (pF G G)<|Q (mB G)<|Qs<|Qs<|Qs<|Qs<|Q (pF G G)<|Q (mB G)<|Qs<|Qs<|Qs<|Q (pF G G)<|Q (aB G)<|Qn (⟨_,G,⟨⟨(eDF (jnt j).2),trivial⟩,(lr _)⟩⟩)
 rintro u B ⟨i,g⟩
 rw [← sA i]
 have q:=g.size
 refine We (ret1 G (v:=.bool _) G (⟨eR (eDD (by exact good_iff r)),(((lr w).lo k).lo g)⟩))
theorem c_impl_checksum (w:World) (s:List UInt8) (y:(s.length:Int)≤281474976710656):Calls Tryz.prog 187 #[str s] w fun e w'=>e=.returned (i6 (csum s))∧Lo w w':=by
 refine cW 22 Tryz.func187 G G G (Ws (Wr (Q (aI G)<|Qn (Ws (Wr (Q (aI G)<|Qn (Ws (Ws (Wr (Q (mS G)<|SR.bytes (s:=s) und9 und49 und5 G oA ?_))))))))))
 intro l j t x d n 
 have z:=d.size
 refine Q (r_len und49 G)<|Q (r_mv (v:=i6 0) G)<|Qn (Wl (WL (σ:=Nat) (fun g=>[(2,i6 0),(3,i6 (csum (s.take g))),(7,.slice (pA l) s.length j),(8,i6 (s.length:Int)),(9,i6 (g:Int))]) (fun g w'=>(Lo w w')∧(SlR w' t.heap.size encB 1 (pA l) s.length j s)∧(g≤s.length)) (fun g=>s.length-g) 0 ?_ ?_ ?_))
 ·refine ⟨G,(eI ?_),G,G,(eI ?_),trivial⟩ <;> (first | (first | omega | rfl | (rw [csum_snoc oB])) | (dsimp only; (first | omega | rfl | (rw [csum_snoc oB]))))
 ·exact ⟨((lr w).lo d),n,oB⟩
 ·rintro k u h c
  obtain ⟨b,a,p⟩:(Lo w h)∧(SlR h t.heap.size encB 1 (pA l) s.length j s)∧(k≤s.length):=c
  refine (?_:W _ _ _ _ _ (act _ (sets u [(2,i6 0),(3,i6 (csum (s.take k))),(7,.slice (pA l) s.length j),(8,i6 (s.length:Int)),(9,i6 (k:Int))])) _)
  have o:=b.size
  have q:0≤csum (s.take k)∧csum (s.take k)≤999978:=csum_rng (s.take k)
  refine Ws (Wr (Q (r_lt G G)<|Qn (Ws (Wd G (fun m=>?_) (fun m=>?_)))))
  ·refine Wk (Ws (Wl (Ws ?_)))
   have f:=a.elem (i:=k) oB
   have r:=u8_le (gt s k)
   refine Wr (Q (rX tsl49 a G G oB)<|Q (r_ld (v:=.int .u8 ((gt s k).toNat:Int)) sca5 G (a.cell0 f G))<|Q (r_as (v:=.int .u8 _) G)<|Qn (Wr (Q (mI G)<|Q (r_mul G G oB)<|Q (r_mv (v:=.int .u8 _) G)<|Q (r_convI und3 und5 G oB)<|Q (r_add G G oB)<|Q (r_add G G oB)<|Q (r_rem G G oB)<|Q (aI G)<|Qn (Wr (Q (r_add G G oB)<|Q (mI G)<|Qn (⟨k+1,_,G,⟨G,(eI (by first | (first | omega | rfl | (rw [csum_snoc oB])) | (dsimp only; (first | omega | rfl | (rw [csum_snoc oB]))))),G,G,(eI (by first | (first | omega | rfl | (rw [csum_snoc oB])) | (dsimp only; (first | omega | rfl | (rw [csum_snoc oB]))))),trivial⟩,⟨b,a,?_⟩,?_⟩))))))
   ·exact oB
   ·exact oB
  ·refine Wx (xh (Ws (Wr (Q (mI G)<|Q (aI G)<|Qn (We (ret1 G (v:=i6 _) G (⟨eR (eI (by rw [csum_all oB])),b⟩)))))))
theorem c_spec_l1Sum (w:World) (s:List UInt8) (j:(s.length:Int)≤281474976710656):Calls Tryz.prog 177 #[str s] w fun e w'=>e=.returned (i6 (csum s))∧Lo w w':=by
 refine cW 21 Tryz.func177 G G G (Ws (Wr (Q (aI G)<|Qn (Ws (Wr (Q (aI G)<|Qn (Ws (Ws (Wr (Q (aI G)<|Qn (Wl (WL (σ:=Nat) (fun g=>[(0,str s),(2,i6 0),(3,i6 (csum (s.take g))),(4,i6 (g:Int))]) (fun g w'=>(Lo w w')∧(g≤s.length)) (fun g=>s.length-g) 0 ?_ ?_ ?_))))))))))))
 ·refine ⟨G,G,(eI ?_),(eI ?_),trivial⟩ <;> (first | (first | omega | rfl | (rw [csum_snoc oB])) | (dsimp only; (first | omega | rfl | (rw [csum_snoc oB]))))
 ·exact ⟨(lr w),oB⟩
 ·rintro k d n b
  obtain ⟨a,h⟩:(Lo w n)∧(k≤s.length):=b
  refine (?_:W _ _ _ _ _ (act _ (sets d [(0,str s),(2,i6 0),(3,i6 (csum (s.take k))),(4,i6 (k:Int))])) _)
  have c:=a.size
  have l:0≤csum (s.take k)∧csum (s.take k)≤999978:=csum_rng (s.take k)
  refine Ws (Ws (Wr (Q (mI G)<|Q (mS G)<|Q (r_len_s und9 G)<|Q (r_lt G G)<|Qn (Wd G (fun f=>?_) (fun f=>?_)))))
  ·refine Wk (Ws (Wl (Wr (Q (mI G)<|Q (r_mul G G oB)<|Q (mS G)<|Q (mI G)<|?_))))
   have m:=u8_le (gt s k)
   refine Q (r_idxS (i:=k) und9 G G G oA)<|Q (r_convI und3 und5 G oB)<|Q (r_add G G oB)<|Q (r_add G G oB)<|Q (r_rem G G oB)<|Q (aI G)<|Qn (Wr (Q (mI G)<|Q (r_add G G oB)<|Q (aI G)<|Qn (⟨k+1,_,G,⟨G,G,(eI (by first | (first | omega | rfl | (rw [csum_snoc oB])) | (dsimp only; (first | omega | rfl | (rw [csum_snoc oB]))))),(eI (by first | (first | omega | rfl | (rw [csum_snoc oB])) | (dsimp only; (first | omega | rfl | (rw [csum_snoc oB]))))),trivial⟩,⟨a,?_⟩,?_⟩)))
   ·exact oB
   ·exact oB
  ·refine Wx (xh (Ws (Wr (Q (mI G)<|Q (aI G)<|Qn (We (ret1 G (v:=i6 _) G (⟨eR (eI (by rw [csum_all oB])),a⟩)))))))
open Classical in
noncomputable def impl_AppendChecksum (s:List UInt8):List UInt8 × Bool :=
 if ((Lib.contains s ([35]:List UInt8))=true)∨(4000<(((s++([35]:List UInt8))++(Lib.itoa (csum s))).length:Int)) then (([]:List UInt8),false) else ((s++([35]:List UInt8))++(Lib.itoa (csum s)),true)
theorem c_impl_AppendChecksum (w:World) (s:List UInt8) (u:(s.length:Int)≤1000000) (hE:EnvW w):Calls Tryz.prog 158 #[str s] w fun e w'=>e=.returned (.tuple (List.toArray [str ((impl_AppendChecksum s).1),.bool ((impl_AppendChecksum s).2)]))∧Lo w w':=by
 refine cW 19 Tryz.func158 G G G (Ws (Wr (Q (r_as (v:=str ([]:List UInt8)) G)<|Q (aB G)<|Qn (Ws (Wr (Q (mS G)<|Q (r_cat G G oA)<|Q (mS G)<|Qv ent187 (c_impl_checksum w s oD) G fun A j y=>?_))))))
 have h:=(lr w).lo j
 have x:0≤csum s∧csum s≤999978:=csum_rng s
 refine Qv ent74 (c_impl_text A (csum s) oB (hE.lo h)) G fun r k z=>?_
 have i:=h.lo k
 have l:(Lib.itoa (csum s)).length≤21:=itoa_len (n:=csum s) oB oB
 refine Q (r_cat G G oA)<|Q (aS G)<|Qn (Ws (Ws (WJ (fun f' w'=>At f' [(2,str ([]:List UInt8)),(3,.bool false),(4,str ((s++([35]:List UInt8))++(Lib.itoa (csum s)))),(17,.bool (decide (((Lib.contains s ([35]:List UInt8))=true)∨(4000<(((s++([35]:List UInt8))++(Lib.itoa (csum s))).length:Int)))))]∧Lo r w') ?_ ?_)))
 ·refine Q (mS G)<|Qv ent94 (c_strings_Contains r s ([35]:List UInt8) oB (hE.lo i)) G fun B c p=>(Q (mB G)<|SR.split (fun f=>?_) (fun f=>?_))
  ·refine Qs<|Qs<|Qs<|Q (pT G G)<|Qn (⟨_,G,⟨⟨G,G,G,(eDT ((jot f).1 trivial)),trivial⟩,c⟩⟩)
  ·refine Qg (mS G)<|Qg (r_len_s und9 G)<|Qg (r_gt G G)<|Q (pF G G)<|Qn (⟨_,G,⟨⟨G,G,G,(eDD (jof (ne_true_of_eq_false f))),trivial⟩,c⟩⟩)
 rintro t C ⟨g,d⟩
 rw [← sA g]
 have q:=d.size
 have b:=i.lo d
 refine Wd G (fun a=>?_) (fun a=>?_)
 ·refine Ws (Wr (Q (r_as (v:=str ([]:List UInt8)) G)<|Q (aB G)<|Qn (We (ret2 G (v:=str _) (v':=.bool _) G G ?_))))
  refine ⟨eR (eT2 (eS ?_) (eB ?_)),b⟩ <;> (unfold impl_AppendChecksum; rw [if_pos a] <;> rfl)
 ·have m:¬((Lib.contains s ([35]:List UInt8))=true):=(not_or.1 a).1
  have o:¬(4000<(((s++([35]:List UInt8))++(Lib.itoa (csum s))).length:Int)):=(not_or.1 a).2
  refine Wk (Ws (Wr (Q (mS G)<|Q (aS G)<|Q (aB G)<|Qn (We (ret2 G (v:=str _) (v':=.bool _) G G ?_)))))
  refine ⟨eR (eT2 (eS ?_) (eB ?_)),b⟩ <;> (unfold impl_AppendChecksum; rw [if_neg a] <;> rfl)
theorem c_spec_l1Seal (w:World) (s:List UInt8) (d:(s.length:Int)≤100000000):Calls Tryz.prog 143 #[str s] w fun e w'=>e=.returned (str (sealB s))∧Lo w w':=by
 refine cW 9 Tryz.func143 G G G (Ws (Wr (Q (r_as (v:=str ([]:List UInt8)) G)<|Qn (Ws (Wr (Q (mS G)<|Q (r_cat G G oA)<|Q (mS G)<|Qv ent177 (c_spec_l1Sum w s oD) G fun i a g=>?_))))))
 have f:0≤csum s∧csum s≤999978:=csum_rng s
 refine Qv ent75 (c_spec_l1Num i (csum s) oB) G fun j b h=>?_
 have c:(Lib.itoa (csum s)).length≤21:=itoa_len (n:=csum s) oB oB
 refine Q (r_cat G G oA)<|Q (aS G)<|Qn (We (ret1 G (v:=str _) G (⟨eR (eS oX),(((lr w).lo a).lo b)⟩)))
end Go.Proofs.YtndcchndcghmoaaGreatDoor
namespace Go.Proofs.YtndcchndcghmoaaGreatDoor
open Go Go.RowKit Fw
section
variable {k : Int} {e : LogRecord}
theorem apc {s:List UInt8} (h:(35:UInt8) ∉ s) (hl:s.length≤1000):impl_AppendChecksum s=(sealB s,true):=by
  have h2:=seal_len hl
  have h3:Lib.contains s ([35]:List UInt8)=false:=by rw [contains1]; simp [h]
  unfold impl_AppendChecksum
  have e1:(s++([35]:List UInt8))++Lib.itoa (csum s)=sealB s:=rfl
  simp only [h3,e1]
  rw [if_neg (by intro hh; rcases hh with hh | hh; exact absurd hh oR; omega)]
theorem apc_len (s:List UInt8):(impl_AppendChecksum s).1.length≤s.length+22:=by
  have h2:=seal_len (s:=s) (Nat.le_refl _)
  have e1:(s++([35]:List UInt8))++Lib.itoa (csum s)=sealB s:=rfl
  unfold impl_AppendChecksum
  simp only [e1]
  split <;> simp <;> omega
theorem enc_no1 (h:¬(0≤k∧k≤59)∨¬RecOK e):([]:List UInt8)=(encN k e).1:=by unfold encN; rw [if_neg (fun hh=>h.elim (fun h=>h hh.1) (fun h=>h hh.2))]
theorem enc_no2 (h:¬(0≤k∧k≤59)∨¬RecOK e):false=(encN k e).2:=by unfold encN; rw [if_neg (fun hh=>h.elim (fun h=>h hh.1) (fun h=>h hh.2))]
theorem enc_ok (h:¬(¬(0≤k∧k≤59)∨¬RecOK e)):encN k e=(lineB k e,true):=by
  unfold encN; rw [if_pos ⟨Classical.not_not.1 fun q=>h (.inl q),Classical.not_not.1 fun q=>h (.inr q)⟩]
theorem enc_yes1 (h:¬(¬(0≤k∧k≤59)∨¬RecOK e)):lineB k e=(encN k e).1:=by rw [enc_ok h]
theorem enc_yes2 (h:¬(¬(0≤k∧k≤59)∨¬RecOK e)):true=(encN k e).2:=by rw [enc_ok h]
theorem enc_ap (h:¬(¬(0≤k∧k≤59)∨¬RecOK e)):impl_AppendChecksum ((((Lib.itoa k++([32]:List UInt8))++e.Command)++([64]:List UInt8))++e.Reply)=(sealB (bodyB k e),true):=by
  have h1:0≤k∧k≤59:=Classical.not_not.1 fun q=>h (.inl q)
  have h2:RecOK e:=Classical.not_not.1 fun q=>h (.inr q)
  exact apc (s:=bodyB k e) (body_no h1.1 h2) (by have:=body_len (k:=k) oB h2; omega)
theorem enc_ap1 (h:¬(¬(0≤k∧k≤59)∨¬RecOK e)):(impl_AppendChecksum ((((Lib.itoa k++([32]:List UInt8))++e.Command)++([64]:List UInt8))++e.Reply)).1++([10]:List UInt8)=(encN k e).1:=by
  rw [enc_ap h,enc_ok h]; rfl
theorem enc_ap2 (h:¬(¬(0≤k∧k≤59)∨¬RecOK e)):(impl_AppendChecksum ((((Lib.itoa k++([32]:List UInt8))++e.Command)++([64]:List UInt8))++e.Reply)).2=(encN k e).2:=by
  rw [enc_ap h,enc_ok h]
end
end Go.Proofs.YtndcchndcghmoaaGreatDoor
namespace Go.Proofs.YtndcchndcghmoaaGreatDoor
open Go Go.RowKit Fw
set_option maxRecDepth 10000
set_option maxHeartbeats 2000000
set_option linter.unusedVariables false
theorem agg71:TAgg Tryz.prog 71 2:=tG
theorem ent143:Ent Tryz.prog 143:=en Tryz.func143
theorem ent158:Ent Tryz.prog 158:=en Tryz.func158
theorem ent48:Ent Tryz.prog 48:=en Tryz.func48
theorem c_spec_l33Line (w:World) (k:Int) (r:LogRecord) (i:0≤k∧k≤1000000) (j:(r.Command.length:Int)≤10000000∧(r.Reply.length:Int)≤10000000):Calls Tryz.prog 88 #[i6 k,.agg (List.toArray (encLogRecord r))] w fun e w'=>e=.returned (str (lineB k r))∧Lo w w':=by
 refine cW 17 Tryz.func88 G G G (Ws (Wr (bx G ?_)))
 intro p q g c m b
 refine Q (r_as (v:=str ([]:List UInt8)) G)<|Qn (Ws (W.regD mo oC (Rq (fun w' hw'=>mI G)<|QR.call ent75 (fun w' hw'=>(c_spec_l1Num w' k oB).mono fun _ _ h=>⟨h.1,hw'.trans h.2⟩) G<|?_)))
 have l:(Lib.itoa k).length≤21:=itoa_len (n:=k) oB oB
 refine Rq (fun w' hw'=>r_cat G G oA)<|Rq (fun w' hw'=>fA fa71_0 G)<|Rq (fun w' hw'=>lB sca9 G (b.lo hw') G)<|Rq (fun w' hw'=>r_cat G G oA)<|Rq (fun w' hw'=>r_cat G G oA)<|Rq (fun w' hw'=>fA fa71_1 G)<|Rq (fun w' hw'=>lB sca9 G (b.lo hw') G)<|Rq (fun w' hw'=>r_cat G G oA)<|QR.call ent143 (fun w' hw'=>(c_spec_l1Seal w' (((((Lib.itoa k)++([32]:List UInt8))++r.Command)++([64]:List UInt8))++r.Reply) oD).mono fun _ _ h=>⟨h.1,hw'.trans h.2⟩) G<|?_
 have d:(sealB (((((Lib.itoa k)++([32]:List UInt8))++r.Command)++([64]:List UInt8))++r.Reply)).length≤(((((Lib.itoa k)++([32]:List UInt8))++r.Command)++([64]:List UInt8))++r.Reply).length+22:=seal_len (s:=(((((Lib.itoa k)++([32]:List UInt8))++r.Command)++([64]:List UInt8))++r.Reply)) (Nat.le_refl _)
 refine Rq (fun w' hw'=>r_cat G G oA)<|Rq (fun w' hw'=>aS G)<|QR.nil ?_
 intro o a
 have f:=a.size
 refine We (ret1 G (v:=str _) G (⟨eR (eS oX),(((lr w).lo c).lo a)⟩))
theorem c_impl_EncodeRecord (w:World) (k:Int) (r:LogRecord) (hE:EnvW w):Calls Tryz.prog 99 #[i6 k,.agg (List.toArray (encLogRecord r))] w fun e w'=>e=.returned (.tuple (List.toArray [str ((encN k r).1),.bool ((encN k r).2)]))∧Lo w w':=by
 refine cW 33 Tryz.func99 G G G (Ws (Wr (bx G ?_)))
 intro D B E p F l
 have m:=(lr w).lo p
 refine Q (r_as (v:=str ([]:List UInt8)) G)<|Q (aB G)<|Qn (Ws (Ws (WJ (fun f' w'=>At f' [(0,i6 k),(3,pt D),(4,str ([]:List UInt8)),(5,.bool false),(15,.bool (decide ((¬(0≤k∧k≤59))∨(¬(RecOK r)))))]∧Lo B w') ?_ ?_)))
 ·refine Q (mI G)<|Qv ent66 (c_impl_within B k 0 59) G fun K b x=>(Q (rN G)<|Q (mB G)<|QN (fun g=>?_) (fun g=>?_))
  ·refine Qs<|Qs<|Qs<|Q (pT G G)<|Qn (⟨_,G,⟨⟨G,G,G,G,(eDT ((jmf g).1 trivial)),trivial⟩,b⟩⟩)
  ·refine Qg (lG agg71 G (l.lo b) G)<|SR.gcall G ent48 (c_impl_IsValidRecord K r (hE.lo (m.lo b))) G ?_
   rintro e H ⟨rfl,d⟩
   refine ⟨_,G,?_⟩
   have y:=d.size
   refine Qg (rN G)<|Q (pF G G)<|Qn (⟨_,G,⟨⟨G,G,G,G,(eND (jmt g)),trivial⟩,(b.trans d)⟩⟩)
 rintro C I ⟨j,c⟩
 rw [← sA j]
 have z:=c.size
 have a:=m.lo c
 refine Wd G (fun i=>?_) (fun i=>?_)
 ·refine Ws (Wr (Q (r_as (v:=str ([]:List UInt8)) G)<|Q (aB G)<|Qn (We (ret2 G (v:=str _) (v':=.bool _) G G (⟨eR (eT2 (eS (by first | exact enc_no1 ‹_› | exact enc_yes1 ‹_› | exact enc_ap1 ‹_›)) (eB (by first | exact enc_no2 ‹_› | exact enc_yes2 ‹_› | exact enc_ap2 ‹_›))),a⟩)))))
 ·have q:0≤k∧k≤59:=(Classical.not_not.1 (not_or.1 i).1)
  have o:RecOK r:=(Classical.not_not.1 (not_or.1 i).2)
  have s:=rec_rng o
  refine Wk (Ws (W.regD mo oC (Rq (fun w' hw'=>mI G)<|QR.call ent74 (fun w' hw'=>(c_impl_text w' k oB (hE.lo (a.trans hw'))).mono fun _ _ h=>⟨h.1,hw'.trans h.2⟩) G<|?_)))
  have t:(Lib.itoa k).length≤21:=itoa_len (n:=k) oB oB
  refine Rq (fun w' hw'=>r_cat G G oA)<|Rq (fun w' hw'=>fA fa71_0 G)<|Rq (fun w' hw'=>lB sca9 G ((l.lo c).lo hw') G)<|Rq (fun w' hw'=>r_cat G G oA)<|Rq (fun w' hw'=>r_cat G G oA)<|Rq (fun w' hw'=>fA fa71_1 G)<|Rq (fun w' hw'=>lB sca9 G ((l.lo c).lo hw') G)<|Rq (fun w' hw'=>r_cat G G oA)<|QR.call ent158 (fun w' hw'=>(c_impl_AppendChecksum w' (((((Lib.itoa k)++([32]:List UInt8))++r.Command)++([64]:List UInt8))++r.Reply) oD (hE.lo (a.trans hw'))).mono fun _ _ h=>⟨h.1,hw'.trans h.2⟩) G<|?_
  have u:(impl_AppendChecksum (((((Lib.itoa k)++([32]:List UInt8))++r.Command)++([64]:List UInt8))++r.Reply)).1.length≤(((((Lib.itoa k)++([32]:List UInt8))++r.Command)++([64]:List UInt8))++r.Reply).length+22:=apc_len (((((Lib.itoa k)++([32]:List UInt8))++r.Command)++([64]:List UInt8))++r.Reply)
  refine Rq (fun w' hw'=>mT G)<|Rq (fun w' hw'=>xS G G)<|Rq (fun w' hw'=>xB G G)<|Rq (fun w' hw'=>aS G)<|Rq (fun w' hw'=>aB G)<|QR.nil ?_
  intro J f
  have A:=f.size
  refine Ws (Wr (Q (mS G)<|Q (r_cat G G oA)<|Q (mB G)<|Q (aS G)<|Q (aB G)<|Qn (We (ret2 G (v:=str _) (v':=.bool _) G G (⟨eR (eT2 (eS (by first | exact enc_no1 ‹_› | exact enc_yes1 ‹_› | exact enc_ap1 ‹_›)) (eB (by first | exact enc_no2 ‹_› | exact enc_yes2 ‹_› | exact enc_ap2 ‹_›))),(a.lo f)⟩)))))
end Go.Proofs.YtndcchndcghmoaaGreatDoor
