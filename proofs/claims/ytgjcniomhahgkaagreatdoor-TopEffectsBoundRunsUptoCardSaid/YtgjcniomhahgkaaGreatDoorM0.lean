/-
  Texts that stand side by side: AbsCore, AbsOps, AbsMem, AbsWrite, AbsAppend, AbsCall, AbsAid, AbsIn, AbsDraw, AbsMore, AbsArr, AbsLoop.
-/
import Derived.WalkKit
import Derived.Deep.LoopGhost
import Derived.Scope
import Derived.Orders
import Derived.Sort.LoopGhostIn
import Derived.TacticsIn
import Derived.RangeFuncRecord
import Derived.Still
import Derived.OrdersHeld
import Derived.OrdersIn
import Derived.LoopNIn
set_option linter.unusedSimpArgs false
set_option linter.unusedVariables false
namespace Go.Abs
def FR (r:Option Nat):Fence:={ fn:=fun _=>True,depth:=none,alive:=false,round:=r }
theorem zf8 {F:Fence} {n:Nat} {P:Program} {Q:Exit→Act→World→Prop} {a:Act} {w:World} {c:Code} (h:c.wpIn F n P (Exit.noGoto Q) a w):(Code.scope c).wpIn F n P Q a w:=by
  intro b k cs hro hb hr
  have h0:(lone (b.atR a (.code (.scope c)::k)) cs w).fenced P F:=fenced_calm hb hr rfl
  have s0:step P (lone (b.atR a (.code (.scope c)::k)) cs w) = .next (lone (b.atR a (.code c::.inScope c::k)) cs w):=step_lone_go (by simp [stepG,stepG.exec,Frame.atR])
  have s1:∀ a w,step P (lone (b.atR a (.inScope c::k)) cs w) = .next (lone (b.atR a k) cs w):=fun a w=>step_lone_go (by simp [stepG,stepG.exec,Frame.atR])
  obtain ⟨e,a₁,w₁,hq,harr⟩:=h b (.inScope c::k) cs hro hb hr
  cases e with
  | normal=>exact ⟨.normal,a₁,w₁,hq,.head h0 s0 (StepsIn.trans harr (.one (fenced_calm hb hr rfl) (s1 _ _)))⟩
  | exit id =>
    have hx:exitTo id (.inScope c::k)=exitTo id k:=by simp [exitTo]
    exact ⟨.exit id,a₁,w₁,hq,fun k' hk=>.head h0 s0 (harr.1 k' (by rw [hx]; exact hk)),
      fun hr' hk=>let ⟨k₁,h1,h2⟩:=harr.2 hr' (by rw [hx]; exact hk); ⟨k₁,h1,.head h0 s0 h2⟩⟩
  | goto l=>exact hq.elim
  | ret=>exact ⟨_,a₁,w₁,hq,.of_steps (.one h0 s0) harr⟩
  | panic ch=>exact ⟨_,a₁,w₁,hq,.of_steps (.one h0 s0) harr⟩
  | outgrown=>exact ⟨_,a₁,w₁,hq,.of_steps (.one h0 s0) harr⟩
inductive Ow where
 | no
 | mine (k:Nat)
 | far
abbrev Own:=Nat→Ow
abbrev VF:=Nat→Option Value
def VF.set (V:VF) (d:Nat) (v:Value):VF:=fun t=>bif Nat.beq t d then some v else V t
def VF.put (V:VF) (d:Option Nat) (v:Value):VF:=match d with | some d=>V.set d v | none=>V
def VF.of:List (Nat×Value)→VF
 | [],_=>none
 | (d,v)::r,t=>bif Nat.beq t d then some v else VF.of r t
def VF.args:List Value→Nat→VF
 | [],_,_=>none
 | v::r,i,t=>bif Nat.beq t i then some v else VF.args r (i+1) t
theorem beqF {a b:Nat} (h:¬ a=b):Nat.beq a b=false:=by
 cases e:Nat.beq a b with
 | false=>rfl
 | true=>exact absurd (Nat.eq_of_beq_eq_true e) h
theorem VF.set_eq {V:VF} {d t:Nat} {v x:Value} (h:V.set d v t=some x):(t=d∧x=v)∨(t≠d∧V t=some x):=by
 unfold VF.set at h
 by_cases e:t=d
 ·subst e; simp at h; exact .inl ⟨rfl,h.symm⟩
 ·have:Nat.beq t d=false:=beqF e
  rw [this] at h; exact .inr ⟨e,h⟩
structure HA where
 p:World→Own→Nat→Prop
 keep:∀ {w w' : World} {o o' : Own} {k k' : Nat},w.heap.size≤w'.heap.size→
  (∀ b,b<w.heap.size→o b = .mine k→o' b = .mine k'∧w'.heap[b]? = w.heap[b]?)→
  (∀ b,b<w.heap.size→o b = .no→o' b = .no∧w'.heap[b]? = w.heap[b]?)→p w o k→p w' o' k'
def HA.emp:HA:=⟨fun _ _ _=>True,fun _ _ _ _=>trivial⟩
def Sats (w:World) (o:Own) (H:List HA):Prop:=∀ (k:Nat) (h:HA),H[k]? = some h→h.p w o k
def Bnd (w:World) (o:Own):Prop:=∀ b,w.heap.size≤b→o b = .no
structure Tr (w:World) (o:Own) (w' : World) (o' : Own):Prop where
 os:w'.os=w.os
 tape:w'.tape=w.tape
 output:w'.output=w.output
 size:w.heap.size≤w'.heap.size
 no:∀ b,b<w.heap.size→o b = .no→o' b = .no∧w'.heap[b]? = w.heap[b]?
 far:∀ b,b<w.heap.size→o b = .far→o' b = .far∧w'.heap[b]? = w.heap[b]?
theorem Tr.refl (w:World) (o:Own):Tr w o w o:=⟨rfl,rfl,rfl,Nat.le_refl _,fun _ _ h=>⟨h,rfl⟩,fun _ _ h=>⟨h,rfl⟩⟩
theorem Tr.trans {w w1 w2:World} {o o1 o2:Own} (h:Tr w o w1 o1) (k:Tr w1 o1 w2 o2):Tr w o w2 o2:=
  ⟨k.os.trans h.os, k.tape.trans h.tape, k.output.trans h.output, Nat.le_trans h.size k.size,
   fun b hb ho=>let ⟨e1,e2⟩:=h.no b hb ho; let ⟨e3,e4⟩:=k.no b (Nat.lt_of_lt_of_le hb h.size) e1; ⟨e3,e4.trans e2⟩,
   fun b hb ho=>let ⟨e1,e2⟩:=h.far b hb ho; let ⟨e3,e4⟩:=k.far b (Nat.lt_of_lt_of_le hb h.size) e1; ⟨e3,e4.trans e2⟩⟩
def z8u (w0:World) (ds:List Deferred) (w:World) (o:Own):Prop:=
 (∀ d∈ds,∃ D,d = { target:=.collected D,args:=#[] }∧w0.heap.size≤D∧D<w.heap.size∧o D = .far∧w.heap[D]? = some (.deferred (some [])))∧ds.Nodup
structure TrM (w0:World) (o0:Own) (ds:List Deferred) (w:World) (o:Own):Prop where
 tr:Tr w0 o0 w o
 mks:z8u w0 ds w o
theorem z8u.nil (w0 w:World) (o:Own):z8u w0 [] w o:=⟨fun d h=>by simp at h,List.nodup_nil⟩
theorem z8u.trans {w0 w w' : World} {ds:List Deferred} {o o' : Own} (h:z8u w0 ds w o) (t:Tr w o w' o'):z8u w0 ds w' o':=
 ⟨fun d hd=>let ⟨D,e,h1,h2,h3,h4⟩:=h.1 d hd; let ⟨f1,f2⟩:=t.far D h2 h3; ⟨D,e,h1,Nat.lt_of_lt_of_le h2 t.size,f1,f2.trans h4⟩,h.2⟩
theorem TrM.trans {w0 w w' : World} {ds:List Deferred} {o0 o o' : Own} (h:TrM w0 o0 ds w o) (t:Tr w o w' o'):TrM w0 o0 ds w' o':=⟨h.tr.trans t,h.mks.trans t⟩
theorem TrM.refl (w:World) (o:Own):TrM w o [] w o:=⟨Tr.refl w o,z8u.nil w w o⟩
structure Env where
 P:Program
 n:Nat
 w0:World
 o0:Own
 r:Option Nat
 B:Exit→Act→World→Prop
 /-- what was deferred by the function itself -/
 db:List Deferred:=[]
 /-- nothing is deferred, nor marked -/
 nd:Bool:=r.isSome
 /-- does the end by a panic not look at the slots? -/
 blind:Bool:=true
 np:blind=true→∀ (c:List PanicEntry) (a:Act) (d:Option Nat) (v:Value) (w:World),B (.panic c) (a.put d v) w→B (.panic c) a w
 no:∀ a w,¬ B .outgrown a w
def TrD (E:Env) (ds:List Deferred) (w:World) (o:Own):Prop:=∃ ms,ds=ms++E.db∧TrM E.w0 E.o0 ms w o
theorem TrD.trans {E:Env} {ds:List Deferred} {w w' : World} {o o' : Own} (h:TrD E ds w o) (t:Tr w o w' o'):TrD E ds w' o':=let ⟨ms,e,k⟩:=h; ⟨ms,e,k.trans t⟩
theorem TrD.tr {E:Env} {ds:List Deferred} {w:World} {o:Own} (h:TrD E ds w o):Tr E.w0 E.o0 w o:=let ⟨_,_,k⟩:=h; k.tr
theorem TrD.of {E:Env} {ds:List Deferred} {w:World} {o:Own} (h:TrM E.w0 E.o0 ds w o) (he:E.db=[]):TrD E ds w o:=⟨ds,by rw [he]; simp,h⟩
theorem TrD.m {E:Env} {ds:List Deferred} {w:World} {o:Own} (h:TrD E ds w o) (he:E.db=[]):TrM E.w0 E.o0 ds w o:=by
 obtain ⟨ms,e,k⟩:=h
 rw [he] at e
 simp at e
 subst e
 exact k
def Agree (V:VF) (a:Act):Prop:=∀ t v,V t=some v→a.tmps.getD t undef=v
def Rel (E:Env) (V:VF) (H:List HA) (a:Act) (w:World):Prop:=
 a.tmps.size=E.n∧(E.nd=true→a.defers=[])∧Agree V a∧∃ o,Bnd w o∧TrD E a.defers w o∧Sats w o H
inductive KI where
 | code (c:Code)
 | blk (id:Nat)
 | scope
 | loop (L:Act→World→Prop)
def Qof (E:Env):List KI→Exit→Act→World→Prop
 | []=>E.B
 | .code y::k=>Exit.then (fun a w=>y.wpIn (FR E.r) 0 E.P (Qof E k) a w) (Qof E k)
 | .blk id::k=>Exit.inBlock id (Qof E k)
 | .scope::k=>Exit.noGoto (Qof E k)
 | .loop L::k=>Exit.then L (Qof E k)
def Run (E:Env) (c:Code) (k:List KI) (V:VF) (H:List HA):Prop:=∀ a w,Rel E V H a w→c.wpIn (FR E.r) 0 E.P (Qof E k) a w
def Ops (E:Env) (ops:Array Oper) (l:List Oper) (k:List KI) (V:VF) (H:List HA):Prop:=
 ∀ a w,Rel E V H a w→wpListIn (FR E.r) 0 E.P ops (Qof E k) l a w
def Goes (E:Env) (k:List KI) (V:VF) (H:List HA):Prop:=∀ a w,Rel E V H a w→Qof E k .normal a w
def Fin (E:Env) (V:VF) (H:List HA):Prop:=∀ a w,Rel E V H a w→E.B .ret a w
variable {E : Env} {k : List KI} {V : VF} {H : List HA}
theorem z7F {x y:Code} (h:Run E x (.code y::k) V H):Run E (.seq x y) k V H:=fun a w r=>wpIn_seq (h a w r)
theorem z7v {id:Nat} {c:Code} (h:Run E c (.blk id::k) V H):Run E (.block id c) k V H:=fun a w r=>wpIn_block (h a w r)
theorem zg5 {c:Code} (h:Run E c (.scope::k) V H):Run E (.scope c) k V H:=fun a w r=>zf8 (h a w r)
theorem zeG (h:Goes E k V H):Run E .skip k V H:=fun a w r=>wpIn_skip (h a w r)
theorem zg3 {l:Nat} (h:Goes E k V H):Run E (.label l) k V H:=fun a w r=>wpIn_label (h a w r)
theorem z3L {id:Nat} {l:List Oper} (h:Ops E l.toArray l k V H):Run E (.region id l.toArray false) k V H:=
 fun a w r=>wpIn_region_list (by simpa using h a w r)
def VF.ev (V:VF):Operand→Option Value
 | .tmp t=>V t
 | .const v=>some v
 | .global g=>some (.pointer (some ⟨g,0,none⟩))
 | .func f=>some (.func (.func f) #[] #[])
theorem Agree.ev {a:Act} (h:Agree V a) {x:Operand} {v:Value} (hx:V.ev x=some v):a.eval x=v:=by
 cases x with
 | tmp t=>exact h t v hx
 | const c=>simpa [VF.ev,Act.eval] using hx
 | global g=>simpa [VF.ev,Act.eval] using hx
 | func f=>simpa [VF.ev,Act.eval] using hx
theorem ziy {c:Operand} {x y:Code} (b:Bool) (hc:V.ev c=some (.bool b)) (ht:b=true→Run E x k V H) (hf:b=false→Run E y k V H) :
 Run E (.cond c x y) k V H:=fun a w r=>wpIn_cond_split (r.2.2.1.ev hc) (fun h=>ht h a w r) (fun h=>hf h a w r)
theorem z7f {c:Operand} {x y:Code} (hc:V.ev c=some (.bool true)) (ht:Run E x k V H) :
 Run E (.cond c x y) k V H:=fun a w r=>wpIn_cond_true (r.2.2.1.ev hc) (ht a w r)
theorem z8J {c:Operand} {x y:Code} (hc:V.ev c=some (.bool false)) (hf:Run E y k V H) :
 Run E (.cond c x y) k V H:=fun a w r=>wpIn_cond_false (r.2.2.1.ev hc) (hf a w r)
theorem z4F {y:Code} (h:Run E y k V H):Goes E (.code y::k) V H:=fun a w r=>h a w r
theorem z9E {id:Nat} (h:Goes E k V H):Goes E (.blk id::k) V H:=fun a w r=>h a w r
theorem zdZ (h:Goes E k V H):Goes E (.scope::k) V H:=fun a w r=>h a w r
theorem zdY (h:Fin E V H) (hB:∀ a w,E.B .ret a w→E.B .normal a w:=by exact fun _ _ h=>h):Goes E [] V H:=fun a w r=>hB a w (h a w r)
theorem z6Z {ops:Array Oper} (h:Goes E k V H):Ops E ops [] k V H:=fun a w r=>wpListIn_nil (h a w r)
def exitK (id:Nat):List KI→Option (List KI)
 | .blk id'::k=>bif Nat.beq id id' then some k else exitK id k
 | _::k=>exitK id k
 | []=>none
theorem z9v (id:Nat):∀ (k k' : List KI) (a:Act) (w:World),exitK id k=some k'→Qof E k' .normal a w→Qof E k (.exit id) a w
  | [],_,_,_,h,_=>by simp [exitK] at h
  | .code y::k,k',a,w,h,q=>z9v id k k' a w h q
  | .scope::k,k',a,w,h,q=>z9v id k k' a w h q
  | .loop L::k,k',a,w,h,q=>z9v id k k' a w h q
  | .blk id' :: k, k', a, w, h, q => by
    unfold exitK at h
    show Exit.inBlock id' (Qof E k) (.exit id) a w
    by_cases e:id=id'
    · subst e
      simp at h; subst h
      simpa [Exit.inBlock] using q
    · have:Nat.beq id id'=false:=beqF e
      rw [this] at h
      simp only [Exit.inBlock,e,if_false]
      exact z9v id k k' a w h q
theorem zad:∀ (k:List KI) (a:Act) (w:World),E.B .ret a w→Qof E k .ret a w
 | [],_,_,q=>q
 | .code _::k,a,w,q=>zad k a w q
 | .scope::k,a,w,q=>zad k a w q
 | .loop _::k,a,w,q=>zad k a w q
 | .blk _::k,a,w,q=>zad k a w q
theorem zeE {id:Nat} (k' : List KI) (hk:exitK id k=some k') (h:Goes E k' V H):Run E (.exit id) k V H:=
 fun a w r=>wpIn_exit (z9v id k k' a w hk (h a w r))
theorem zh2 (h:Fin E V H):Run E .ret k V H:=fun a w r=>wpIn_ret (zad k a w (h a w r))
def VF.le (V' V:VF):Prop:=∀ t v,V' t=some v→V t=some v
theorem VF.le_of:∀ (l:List (Nat×Value)),(∀ x∈l,V x.1=some x.2)→VF.le (VF.of l) V
  | [],_,_,_,h=>by simp [VF.of] at h
  | (d, v) :: r, hl, t, x, h => by
    unfold VF.of at h
    by_cases e:t=d
    · subst e; simp at h; subst h; exact hl _ (List.mem_cons_self ..)
    · have:Nat.beq t d=false:=beqF e
      rw [this] at h
      exact VF.le_of r (fun y hy=>hl y (List.mem_cons_of_mem _ hy)) t x h
theorem Rel.vle {V' : VF} {a:Act} {w:World} (h:VF.le V' V) (r:Rel E V H a w):Rel E V' H a w:=
 ⟨r.1,r.2.1,fun t v hv=>r.2.2.1 t v (h t v hv),r.2.2.2⟩
def reown (is:List Nat) (o:Own):Own:=fun b=>match o b with
 | .mine k=>if k∈is then .mine (is.idxOf k) else .no
 | x=>x
theorem z9r {w:World} {o:Own} {is:List Nat} {G:List HA} (hn:is.Nodup) (hG:∀ (j:Nat) (g:HA),G[j]? = some g→∃ i,is[j]? = some i∧H[i]? = some g) (h:Sats w o H) :
  Sats w (reown is o) G:=by
 intro j g hj
 obtain ⟨i,hi,hHi⟩:=hG j g hj
 refine g.keep (Nat.le_refl _) (fun b _ hb=>⟨?_,rfl⟩) (fun b _ hb=>⟨by simp [reown,hb],rfl⟩) (h i g hHi)
 have hm:i∈is:=List.mem_of_getElem? hi
 obtain ⟨hlt,he⟩:=List.getElem?_eq_some_iff.1 hi
 simp only [reown,hb,hm,if_pos]
 congr 1
 subst he
 exact hn.idxOf_getElem j hlt
theorem z9i {w:World} {o:Own} (is:List Nat) (h:Bnd w o):Bnd w (reown is o):=fun b hb=>by simp [reown,h b hb]
theorem z9u {w w' : World} {o o' : Own} (is:List Nat) (h:Tr w o w' o'):Tr w o w' (reown is o'):=
  ⟨h.os, h.tape, h.output, h.size, fun b hb ho => let ⟨e1, e2⟩ := h.no b hb ho; ⟨by simp [reown, e1], e2⟩,
   fun b hb ho=>let ⟨e1,e2⟩:=h.far b hb ho; ⟨by simp [reown,e1],e2⟩⟩
theorem ziK {w w' : World} {o o' : Own} {ds:List Deferred} (is:List Nat) (h:TrM w o ds w' o'):TrM w o ds w' (reown is o'):=
 ⟨z9u is h.tr,fun d hd=>let ⟨D,e,h1,h2,h3,h4⟩:=h.mks.1 d hd; ⟨D,e,h1,h2,by simp [reown,h3],h4⟩,h.mks.2⟩
theorem zgh {E:Env} {w:World} {o:Own} {ds:List Deferred} (is:List Nat) (h:TrD E ds w o):TrD E ds w (reown is o):=let ⟨ms,e,k⟩:=h; ⟨ms,e,ziK is k⟩
def Picks (is:List Nat) (H G:List HA):Prop:=is.map (fun i=>H[i]?)=G.map some
theorem Picks.get {is:List Nat} {G:List HA} (h:Picks is H G) (j:Nat) (g:HA) (hj:G[j]? = some g):∃ i,is[j]? = some i∧H[i]? = some g:=by
 have h1:(is.map (fun i=>H[i]?))[j]? = (G.map some)[j]?:=by rw [h]
 simp only [List.getElem?_map,hj,Option.map_some] at h1
 cases hi:is[j]? with
 | none=>rw [hi] at h1; simp at h1
 | some i=>rw [hi] at h1; simp at h1; exact ⟨i,rfl,h1⟩
theorem Rel.pick {a:Act} {w:World} {is:List Nat} {G:List HA} (hn:is.Nodup) (hG:Picks is H G) (r:Rel E V H a w):Rel E V G a w:=by
 obtain ⟨h1,h2,h3,o,hb,ht,hs⟩:=r
 exact ⟨h1,h2,h3,reown is o,z9i is hb,zgh is ht,z9r hn hG.get hs⟩
theorem z6Q {c:Code} (l:List (Nat×Value)) (is:List Nat) (G:List HA) (hl:∀ x∈l,V x.1=some x.2) (hn:is.Nodup) (hG:Picks is H G)
 (h:Run E c k (VF.of l) G):Run E c k V H:=fun a w r=>h a w ((r.vle (VF.le_of l hl)).pick hn hG)
theorem zfF (l:List (Nat×Value)) (is:List Nat) (G:List HA) (hl:∀ x∈l,V x.1=some x.2) (hn:is.Nodup) (hG:Picks is H G)
 (h:Goes E k (VF.of l) G):Goes E k V H:=fun a w r=>h a w ((r.vle (VF.le_of l hl)).pick hn hG)
theorem z90 {c:Code} (S:Type) (Vi:S→List (Nat×Value)) (Hi:S→List HA) (inv:S→Prop) (μ:S→Nat) (is:List Nat) (s0:S)
  (hl:∀ x∈Vi s0,V x.1=some x.2) (hn:is.Nodup) (hG:Picks is H (Hi s0)) (h0:inv s0)
  (round:∀ s,inv s→∀ L:Act→World→Prop,(∀ s',inv s'→μ s'<μ s→∀ a w,Rel E (VF.of (Vi s')) (Hi s') a w→L a w)→Run E c (.loop L::k) (VF.of (Vi s)) (Hi s)) :
  Run E (.loop c) k V H:=by
 intro a w r
 refine wpIn_loop_ghost (fun m a w=>∃ s,inv s∧μ s=m∧Rel E (VF.of (Vi s)) (Hi s) a w) (μ s0) ⟨s0,h0,rfl,(r.vle (VF.le_of _ hl)).pick hn hG⟩ ?_
 rintro m a w ⟨s,hi,rfl,hr⟩
 exact round s hi _ (fun s' hi' hlt a w hr'=>⟨μ s',hlt,s',hi',rfl,hr'⟩) a w hr
def Post:=Value→List HA→Prop
def Ends (w:World) (o:Own) (post:Post) (e:Ending) (w' : World):Prop:=
 ∃ v G o',e = .returned v∧post v G∧Bnd w' o'∧Tr w o w' o'∧Sats w' o' G
def Meets (P:Program) (f:FuncId) (args:List Value) (H:List HA) (post:Post):Prop:=
 ∀ w o,Bnd w o→Sats w o H→Calls P f args.toArray w (Ends w o post)
theorem z5E {l:List Value} {m:Nat} {t:Nat} (v:Value) (h:l[t]? = some v):(l.toArray++Array.replicate m undef).getD t undef=v:=by
 obtain ⟨hlt,he⟩:=List.getElem?_eq_some_iff.1 h
 simp [Array.getElem?_append,hlt,he]
theorem VF.args_get:∀ (l:List Value) (i t:Nat) (v:Value),VF.args l i t=some v→i≤t∧l[t - i]? = some v
  | [],_,_,_,h=>by simp [VF.args] at h
  | x :: r, i, t, v, h => by
    unfold VF.args at h
    by_cases e:t=i
    · subst e; simp at h; subst h; simp
    · have:Nat.beq t i=false:=beqF e
      rw [this] at h
      obtain ⟨h1,h2⟩:=VF.args_get r (i+1) t v h
      refine ⟨by omega,?_⟩
      rw [show t - i=(t - (i+1))+1 by omega]
      simpa using h2
def EndsP (w:World) (o:Own) (post:Post) (pan:Value→Prop) (e:Ending) (w' : World):Prop:=
 Ends w o post e w'∨∃ v o',e = .panicked [{ v:=v,recovered:=false }]∧pan v∧Bnd w' o'∧Tr w o w' o'
def z60 (P:Program) (f:FuncId) (args:List Value) (H:List HA) (post:Post) (pan:Value→Prop):Prop:=
 ∀ w o,Bnd w o→Sats w o H→Calls P f args.toArray w (EndsP w o post pan)
def zhm (P:Program) (fn:Func) (w0:World) (o0:Own) (post:Post) (pan:Value→Prop):Exit→Act→World→Prop
 | .panic c,a,w=>∃ v o',c=[{ v:=v,recovered:=false }]∧pan v∧Bnd w o'∧TrM w0 o0 a.defers w o'
 | .outgrown,_,_=>False
 | e,a,w=>bodyPostM (FR none) 0 P fn (EndsP w0 o0 post pan) e a w
def EnvP (P:Program) (n:Nat) (w0:World) (o0:Own) (fn:Func) (post:Post) (pan:Value→Prop):Env:=
 { P:=P,n:=n,w0:=w0,o0:=o0,r:=none,B:=zhm P fn w0 o0 post pan,np:=fun _ _ _ d _ _ h=>by cases d <;> exact h,no:=fun _ _ h=>h }
abbrev EnvF (P:Program) (n:Nat) (w0:World) (o0:Own) (fn:Func) (post:Post):Env:=EnvP P n w0 o0 fn post (fun _=>False)
theorem z6L {P:Program} {w0:World} {o0:Own} {fn:Func} {tmps:Array Value} {R:Ending→World→Prop} {u:FrameMode} {H:List HA} (hu:u≠.run)
    (h:∀ w' o,Bnd w' o→Tr w0 o0 w' o→Sats w' o H→LeavesInM (FR none) 0 P fn tmps R [] u w'):∀ (ds:List Deferred) (w:World) (o:Own),Bnd w o→TrM w0 o0 ds w o→Sats w o H→LeavesInM (FR none) 0 P fn tmps R ds u w
  | [],w,o,hb,ht,hs=>h w o hb ht.tr hs
  | d :: ds, w, o, hb, ht, hs => by
    obtain ⟨D,e,h1,h2,h3,h4⟩:=ht.mks.1 d (List.mem_cons_self ..)
    have hnd:=List.nodup_cons.1 ht.mks.2
    refine ⟨hu,.inl ⟨D,w.putObj D (.deferred none),by rw [e],run_takeDeferred h4,?_⟩⟩
    have hsz:(w.putObj D (.deferred none)).heap.size=w.heap.size:=World.putObj_size
    have hot:∀ b,o b≠.far→(w.putObj D (.deferred none)).heap[b]? = w.heap[b]?:=fun b hb=>World.putObj_heap_other (by rintro rfl; exact hb h3)
    refine z6L hu h ds _ o ?_ ?_ ?_
    · intro b hb'; exact hb b (by rwa [hsz] at hb')
    · refine ⟨⟨ht.tr.os,ht.tr.tape,ht.tr.output,by rw [hsz]; exact ht.tr.size,fun b hb' ho=>?_,fun b hb' ho=>?_⟩,fun d' hd'=>?_,hnd.2⟩
      · obtain ⟨f1,f2⟩:=ht.tr.no b hb' ho
        exact ⟨f1,(hot b (by rw [f1]; simp)).trans f2⟩
      · obtain ⟨f1,f2⟩:=ht.tr.far b hb' ho
        exact ⟨f1,(World.putObj_heap_other (by omega)).trans f2⟩
      · obtain ⟨D',e',g1,g2,g3,g4⟩:=ht.mks.1 d' (List.mem_cons_of_mem _ hd')
        refine ⟨D',e',g1,by rw [hsz]; exact g2,g3,(World.putObj_heap_other ?_).trans g4⟩
        rintro rfl
        exact hnd.1 (by rw [e,← e']; exact hd')
    · intro j g hj
      exact g.keep (Nat.le_of_eq hsz.symm) (fun b _ hb'=>⟨hb',hot b (by rw [hb']; simp)⟩) (fun b _ hb'=>⟨hb',hot b (by rw [hb']; simp)⟩) (hs j g hj)
theorem zcM {P:Program} {fn:Func} {w0:World} {o0:Own} {post:Post} {pan:Value→Prop} {e:Exit} {a:Act} {w:World} (h:zhm P fn w0 o0 post pan e a w):bodyPostM (FR none) 0 P fn (EndsP w0 o0 post pan) e a w:=by
  cases e with
  | panic c =>
    obtain ⟨v,o',rfl,hv,hb,ht⟩:=h
    refine z6L (H:=[]) (u:=.panicking [{ v:=v,recovered:=false }]) (by simp) (fun w' o hb' ht' _=>?_) _ _ _ hb ht (fun j h hj=>by simp at hj)
    show EndsP w0 o0 post pan (.panicked [{ v:=v,recovered:=false }]) w'
    exact .inr ⟨v,o,rfl,hv,hb',ht'⟩
  | outgrown=>exact h.elim
  | normal=>exact h
  | ret=>exact h
  | exit _=>exact h
  | goto _=>exact h
theorem zb8 {P:Program} {f:FuncId} {fn:Func} {c:Code} {args:List Value} {H:List HA} {post:Post} {pan:Value→Prop} {n:Nat}
  (hf:P.funcs[f]? = some fn) (hb:fn.body=some c) (hm:fn.ntmps=n) (hn:Nat.ble args.length n=true)
  (h:∀ w0 o0,Run (EnvP P n w0 o0 fn post pan) c [] (VF.args args 0) H):z60 P f args H post pan:=by
 intro w o hbd hs
 refine callsIn_wide.1 (callsIn_of_wp_marks (F:=FR none) (n:=0) hf hb trivial ?_)
 refine wpIn_mono (h w o _ _ ⟨?_,(fun _=>rfl),?_,o,hbd,TrD.of (TrM.refl w o) rfl,hs⟩) (fun _ _ _ h=>zcM h)
 ·have:=Nat.le_of_ble_eq_true hn
  simp [hm,EnvP]; omega
 ·intro t v hv
  obtain ⟨_,h2⟩:=VF.args_get args 0 t v hv
  exact z5E v (by simpa using h2)
theorem z9l {P:Program} {f:FuncId} {fn:Func} {c:Code} {args:List Value} {H:List HA} {post:Post} {n:Nat}
  (hf:P.funcs[f]? = some fn) (hb:fn.body=some c) (hm:fn.ntmps=n) (hn:Nat.ble args.length n=true)
  (h:∀ w0 o0,Run (EnvF P n w0 o0 fn post) c [] (VF.args args 0) H):Meets P f args H post:=fun w o hbd hs=>
 (zb8 hf hb hm hn h w o hbd hs).mono fun e w' h=>by
  rcases h with h | ⟨v,o',_,h,_⟩
  ·exact h
  ·exact h.elim
def FinP (E:Env) (V:VF) (H:List HA) (v:Value):Prop:=∀ a w,Rel E V H a w→E.B (.panic [{ v:=v,recovered:=false }]) a w
theorem finP {P:Program} {n:Nat} {w0:World} {o0:Own} {fn:Func} {post:Post} {pan:Value→Prop} {v:Value} (h:pan v):FinP (EnvP P n w0 o0 fn post pan) V H v:=by
 rintro a w ⟨_,_,_,o,hb,ht,_⟩
 exact ⟨v,o,rfl,h,hb,ht.m rfl⟩
def tup:List Value→Value
 | [v]=>v
 | vs=>.tuple vs.toArray
theorem zeg (tmps:Array Value) (g:ResultVar→Sem Value) (hg:∀ t,g (.tmp t)=pure (tmps.getD t undef)) (ts:List Nat) :
  (ts.map ResultVar.tmp).toArray.mapM g=pure (ts.map fun t=>tmps.getD t undef).toArray:=by
 rw [List.mapM_toArray]
 have:(ts.map ResultVar.tmp).mapM g=pure (ts.map fun t=>tmps.getD t undef):=by
  induction ts with
  | nil=>rfl
  | cons x r ih=>simp only [List.map_cons,List.mapM_cons,ih,hg,pure_bind]
 rw [this]; rfl
theorem zbm {P:Program} {fn:Func} {ts:List Nat} {tmps:Array Value} {w:World} (h:fn.results=(ts.map ResultVar.tmp).toArray) :
  (results fn tmps).run P w = .ok (tup (ts.map fun t=>tmps.getD t undef)) w:=by
 unfold results
 rw [h,zeg tmps _ (fun _=>rfl)]
 match ts with
 | []=>simp [tup]
 | [t]=>simp [tup]
 | t::u::r=>simp [tup]
theorem Rel.leaves {P:Program} {n:Nat} {w0:World} {o0:Own} {fn:Func} {post:Post} {pan:Value→Prop} {a:Act} {w:World} (r:Rel (EnvP P n w0 o0 fn post pan) V H a w)
  (h:∀ w' o,Bnd w' o→Tr w0 o0 w' o→Sats w' o H→∃ v,(results fn a.tmps).run P w' = .ok v w'∧Ends w0 o0 post (.returned v) w'):zhm P fn w0 o0 post pan .ret a w:=by
 obtain ⟨_,_,_,o,hb,ht,hs⟩:=r
 refine z6L (u:=.returning) (by simp) (fun w' o hb ht hs=>?_) _ _ _ hb (ht.m rfl) hs
 show ∃ v,(results fn a.tmps).run P w' = .ok v w'∧EndsP w0 o0 post pan (.returned v) w'
 obtain ⟨v,h1,h2⟩:=h w' o hb ht hs
 exact ⟨v,h1,.inl h2⟩
theorem zc6 {P:Program} {n:Nat} {w0:World} {o0:Own} {fn:Func} {post:Post} {pan:Value→Prop} (ts:List Nat) (vs:List Value) (is:List Nat) (G:List HA)
    (hr:fn.results=(ts.map ResultVar.tmp).toArray) (hv:ts.map V=vs.map some) (hn:is.Nodup) (hG:Picks is H G)
    (hp:post (tup vs) G) :
    Fin (EnvP P n w0 o0 fn post pan) V H:=by
  intro a w r
  have ha:=r.2.2.1
  refine (r.pick hn hG).leaves fun w' o hb ht hs=>⟨_,zbm hr,_,G,o,rfl,?_,hb,ht,hs⟩
  have:ts.map (fun t=>a.tmps.getD t undef)=vs:=by
    have key:∀ (ts:List Nat) (vs:List Value),ts.map V=vs.map some→ts.map (fun t=>a.tmps.getD t undef)=vs:=by
      intro ts
      induction ts with
      | nil=>intro vs h; cases vs <;> simp_all
      | cons t r ih =>
        intro vs h
        cases vs with
        | nil=>simp at h
        | cons v vs =>
          simp only [List.map_cons,List.cons.injEq] at h ⊢
          exact ⟨ha t v h.1,ih vs h.2⟩
    exact key ts vs hv
  rw [this]
  exact hp
end Go.Abs
namespace Go.Abs
variable {E : Env} {k : List KI} {V : VF} {H : List HA}
def Fits (V:VF) (ρ:Operand→Value):Prop:=∀ x v,V.ev x=some v→ρ x=v
def Does (P:Program) (s:Sem Next) (w:World) (D:Value→World→Prop):Prop:=
 match s.run P w with
 | .ok (.value v) w'=>D v w'
 | .ok .skip w'=>D undef w'
 | .ok (.enter f args) w'=>Calls P f args w' (fun e w''=>∃ v,e = .returned v∧D v w'')
 | _=>False
theorem Does.semAt {P:Program} {op:Oper} {ρ:Operand→Value} {w:World} {D:Value→World→Prop} (r:Option Nat) (h:Does P (execOp ρ op) w D):op.semAt r ρ=execOp ρ op:=by
 refine Oper.semAt_eq r ρ op fun c hc=>?_
 unfold Does execOp at h
 rw [hc] at h
 simp only [Sem.run_bind] at h
 cases hx:(resolve ρ c op.type).run P w with
 | halt x w'=>simp [hx,Result.andThen] at h
 | ok d w'=>simp [hx,Result.andThen] at h
def OpT (P:Program) (op:Oper) (V:VF) (H:List HA) (post:Post):Prop:=
  ∀ ρ w o, Fits V ρ → Bnd w o → Sats w o H →
    Does P (execOp ρ op) w (fun v w'=>∃ H' o',post v H'∧Bnd w' o'∧Tr w o w' o'∧Sats w' o' H')
def OpY (P:Program) (op:Oper) (V:VF) (H:List HA) (v:Value):Prop:=
 ∀ ρ w o,Fits V ρ→Bnd w o→Sats w o H→(execOp ρ op).run P w = .ok (.value v) w
theorem OpY.t {P:Program} {op:Oper} {v:Value} (h:OpY P op V H v):OpT P op V H (fun v' H'=>v'=v∧H'=H):=by
 intro ρ w o hf hb hs
 unfold Does
 rw [h ρ w o hf hb hs]
 exact ⟨H,o,⟨rfl,rfl⟩,hb,Tr.refl w o,hs⟩
theorem Rel.fits {a:Act} {w:World} (r:Rel E V H a w):Fits V a.eval:=fun _ _ hx=>r.2.2.1.ev hx
def inB (n:Nat):Option Nat→Bool
 | some d=>Nat.blt d n
 | none=>true
theorem Rel.put {a:Act} {w w' : World} {o o' : Own} {d:Option Nat} {v:Value} {H' : List HA} (h1:a.tmps.size=E.n) (h2:E.nd=true→a.defers=[]) (h3:Agree V a)
    (hd:inB E.n d=true) (hb:Bnd w' o') (ht0:TrD E a.defers w o) (ht:Tr w o w' o') (hs:Sats w' o' H'):Rel E (V.put d v) H' (a.put d v) w':=by
  cases d with
  | none=>exact ⟨h1,h2,h3,o',hb,ht0.trans ht,hs⟩
  | some d =>
    have hlt:d<E.n:=by simpa [inB] using hd
    refine ⟨by simp [Act.put,h1],h2,?_,o',hb,ht0.trans ht,hs⟩
    intro t x hx
    rcases VF.set_eq hx with ⟨rfl,rfl⟩ | ⟨hne,hx⟩
    · simp [Act.put,h1,hlt]
    · have:=h3 t x hx
      simp only [Act.put,Array.getD_eq_getD_getElem?] at this ⊢
      rw [Array.getElem?_setIfInBounds_ne (by omega)]
      exact this
def Wants (n:Nat) (ops:Array Oper) (V:VF) (op:Oper):Prop:=
 op.guard=none∨∃ j b t,op.guard=some (j,b)∧((ops[j]?).bind (·.dst))=some t∧V t=some (.bool b)∧Nat.blt t n=true
theorem wn {n:Nat} {ops:Array Oper} {op:Oper} (h:op.guard=none):Wants n ops V op:=.inl h
theorem getD_some {a:Act} {t n:Nat} {v:Value} (h1:a.tmps.size=n) (ht:Nat.blt t n=true) (h:a.tmps.getD t undef=v):a.tmps[t]? = some v:=by
 have hlt:t<a.tmps.size:=by rw [h1]; simpa using ht
 rw [Array.getD_eq_getD_getElem?,Array.getElem?_eq_getElem hlt] at h
 rw [Array.getElem?_eq_getElem hlt]
 simpa using h
theorem Wants.wanted {ops:Array Oper} {op:Oper} {a:Act} {w:World} (h:Wants E.n ops V op) (r:Rel E V H a w):Region.wanted op (yielded ops a.tmps)=true:=by
 rcases h with h | ⟨j,b,t,hg,hj,hv,ht⟩
 ·simp [Region.wanted,h]
 ·have h2:=getD_some r.1 ht (r.2.2.1 t _ hv)
  simp [Region.wanted,hg,yielded,hj,h2]
theorem ops_t {ops:Array Oper} {op:Oper} {rest:List Oper} {post:Post} (hw:Wants E.n ops V op) (hd:inB E.n op.dst=true) (h:OpT E.P op V H post)
    (hk:∀ v H',post v H'→Ops E ops rest k (V.put op.dst v) H'):Ops E ops (op::rest) k V H:=by
  intro a w r
  unfold wpListIn
  rw [if_pos (hw.wanted r)]
  have hf:=r.fits
  obtain ⟨h1,h2,h3,o,hb,ht,hs⟩:=r
  have:=h a.eval w o hf hb hs
  unfold Oper.wpIn
  refine ⟨fun _ _=>trivial,?_⟩
  rw [Does.semAt _ this]
  unfold Does at this
  generalize (execOp a.eval op).run E.P w=x at *
  cases x with
  | halt x w'=>simp at this
  | ok nx w' =>
    cases nx <;> simp only [Oper.uponIn] at this ⊢
    case value v=>
      obtain ⟨H',o',hp,hb',ht',hs'⟩:=this
      exact hk v H' hp _ _ (Rel.put h1 h2 h3 hd hb' ht ht' hs')
    case skip=>
      obtain ⟨H',o',hp,hb',ht',hs'⟩:=this
      exact hk _ H' hp _ _ (Rel.put h1 h2 h3 hd hb' ht ht' hs')
    case enter f args=>
      refine ⟨(fun h=>nomatch h),CallsIn.mono (F:=FR E.r) (callsIn_wide.2 this) ?_⟩
      rintro e w'' ⟨v,rfl,H',o',hp,hb',ht',hs'⟩
      exact hk v H' hp _ _ (Rel.put h1 h2 h3 hd hb' ht ht' hs')
def OpR (P:Program) (op:Oper) (V:VF) (H:List HA) (post:Post):Prop:=
 (∀ c,op.op≠.defer c)∧∀ ρ w o,Fits V ρ→Bnd w o→Sats w o H→∃ l f tmps assign body,(execOp ρ op).run P w = .ok (.round l f tmps assign body) w∧
  RoundIn (FR none) 0 P l f tmps assign body w (fun e w''=>∃ v,e = .returned v∧∃ H' o',post v H'∧Bnd w'' o'∧Tr w o w'' o'∧Sats w'' o' H')
theorem ops_r {ops:Array Oper} {op:Oper} {rest:List Oper} {post:Post} (hw:Wants E.n ops V op) (hd:inB E.n op.dst=true) (h:OpR E.P op V H post)
  (hk:∀ v H',post v H'→Ops E ops rest k (V.put op.dst v) H'):Ops E ops (op::rest) k V H:=by
 intro a w r
 unfold wpListIn
 rw [if_pos (hw.wanted r)]
 have hf:=r.fits
 obtain ⟨h1,h2,h3,o,hb,ht,hs⟩:=r
 obtain ⟨l,f,tmps,assign,body,e,hr⟩:=h.2 a.eval w o hf hb hs
 unfold Oper.wpIn
 refine ⟨fun _ _=>trivial,?_⟩
 rw [Oper.semAt_eq _ _ _ h.1,e]
 refine ⟨(fun h=>nomatch h),RoundIn.mono (F:=FR E.r) hr ?_⟩
 rintro e w'' ⟨v,rfl,H',o',hp,hb',ht',hs'⟩
 exact hk v H' hp _ _ (Rel.put h1 h2 h3 hd hb' ht ht' hs')
theorem ops_y {ops:Array Oper} {op:Oper} {rest:List Oper} {v:Value} (hw:Wants E.n ops V op) (hd:inB E.n op.dst=true) (h:OpY E.P op V H v)
  (hk:Ops E ops rest k (V.put op.dst v) H):Ops E ops (op::rest) k V H:=
 ops_t hw hd h.t fun _ _ ⟨e1,e2⟩=>by subst e1; subst e2; exact hk
theorem zl8 {ops:Array Oper} {op:Oper} {rest:List Oper} (j:Nat) (b:Bool) (t:Nat) (hg:op.guard=some (j,b)) (hj:((ops[j]?).bind (·.dst))=some t)
  (hv:V t=some (.bool (!b))) (ht:Nat.blt t E.n=true) (hd:inB E.n op.dst=true) (hk:Ops E ops rest k (V.put op.dst undef) H):Ops E ops (op::rest) k V H:=by
 intro a w r
 have h2:=getD_some r.1 ht (r.2.2.1 t _ hv)
 unfold wpListIn
 rw [if_neg (by cases b <;> simp [Region.wanted,hg,yielded,hj,h2])]
 refine ⟨fun _ _=>trivial,?_⟩
 obtain ⟨h1,h2,h3,o,hb,ht,hs⟩:=r
 exact hk _ _ (Rel.put h1 h2 h3 hd hb ht (Tr.refl w o) hs)
theorem zcr {ops:Array Oper} {l:List Oper} (t:Nat) (b:Bool) (hv:V t=some (.bool b)) (ht:b=true→Ops E ops l k (V.set t (.bool true)) H)
  (hf:b=false→Ops E ops l k (V.set t (.bool false)) H):Ops E ops l k V H:=by
 have same:∀ c,b=c→∀ a,Agree V a→Agree (V.set t (.bool c)) a:=by
  intro c hc a ha u x hx
  rcases VF.set_eq hx with ⟨rfl,rfl⟩ | ⟨_,hx⟩
  ·exact hc ▸ ha u _ hv
  ·exact ha u x hx
 intro a w r
 cases hb:b with
 | true=>exact ht hb a w ⟨r.1,r.2.1,same _ hb a r.2.2.1,r.2.2.2⟩
 | false=>exact hf hb a w ⟨r.1,r.2.1,same _ hb a r.2.2.1,r.2.2.2⟩
theorem OpY.to {P:Program} {op:Oper} {v v' : Value} (h:OpY P op V H v) (e:v=v'):OpY P op V H v':=e ▸ h
section pure
variable {P : Program} {d : Option Nat} {ty : TypeId} {pos : String} {af : Array Edge} {g : Option (Nat × Bool)}
theorem zgv {x:Operand} {v:Value} (hx:V.ev x=some v):OpY P ⟨d,.move x,ty,pos,af,g⟩ V H v:=by
 intro ρ w o hf _ _; simp [execOp,hf x v hx]
theorem z9Y {x:Operand} {v:Value} (hx:V.ev x=some v):OpY P ⟨d,.assign x,ty,pos,af,g⟩ V H v:=by
 intro ρ w o hf _ _; simp [execOp,hf x v hx]
theorem zlO {c x y:Operand} {b:Bool} {v:Value} (hc:V.ev c=some (.bool b)) (hv:V.ev (if b then x else y)=some v):OpY P ⟨d,.pick c x y,ty,pos,af,g⟩ V H v:=by
 intro ρ w o hf _ _
 have h1:=hf c _ hc
 have h2:=hf _ _ hv
 cases b <;> simp [execOp,h1,asBool] <;> simpa using h2
def ziu:Value→Bool
 | .int .. | .string _ | .bool _=>true
 | _=>false
theorem zcY (P:Program) (w:World) (op:BinOp) (t:TypeId) (x y:Operand) {a b:Value} (ha:ziu a=true):(eqGuard op t x y a b).run P w = .ok () w:=by
 unfold eqGuard
 cases op <;> simp <;> (cases a <;> simp [ziu] at ha <;> simp)
theorem y_bin {op:BinOp} {T U:TypeId} {x y:Operand} {a b v:Value} (hx:V.ev x=some a) (hy:V.ev y=some b) (ha:ziu a=true)
  (hr:∀ w,(binOp op T a b).run P w = .ok v w):OpY P ⟨d,.binOp op T x y U,ty,pos,af,g⟩ V H v:=by
 intro ρ w o hf _ _
 simp [execOp,hf x a hx,hf y b hy,zcY P w op T x y ha,hr]
theorem y_add {T U:TypeId} {x y:Operand} {kd:IntKind} {a b:Int} (hx:V.ev x=some (.int kd a)) (hy:V.ev y=some (.int kd b)) :
 OpY P ⟨d,.binOp .add T x y U,ty,pos,af,g⟩ V H (.int kd (kd.wrap (a+b))):=y_bin hx hy rfl (fun w=>by simp [binOp,Op.intArith])
theorem y_sub {T U:TypeId} {x y:Operand} {kd:IntKind} {a b:Int} (hx:V.ev x=some (.int kd a)) (hy:V.ev y=some (.int kd b)) :
 OpY P ⟨d,.binOp .sub T x y U,ty,pos,af,g⟩ V H (.int kd (kd.wrap (a - b))):=y_bin hx hy rfl (fun w=>by simp [binOp,Op.intArith])
theorem y_mul {T U:TypeId} {x y:Operand} {kd:IntKind} {a b:Int} (hx:V.ev x=some (.int kd a)) (hy:V.ev y=some (.int kd b)) :
 OpY P ⟨d,.binOp .mul T x y U,ty,pos,af,g⟩ V H (.int kd (kd.wrap (a*b))):=y_bin hx hy rfl (fun w=>by simp [binOp,Op.intArith])
theorem y_quo {T U:TypeId} {x y:Operand} {kd:IntKind} {a b:Int} (hx:V.ev x=some (.int kd a)) (hy:V.ev y=some (.int kd b)) (h0:b≠0) :
 OpY P ⟨d,.binOp .quo T x y U,ty,pos,af,g⟩ V H (.int kd (kd.wrap (a.tdiv b))):=y_bin hx hy rfl (fun w=>by simp [binOp,Op.intDiv,h0])
theorem y_rem {T U:TypeId} {x y:Operand} {kd:IntKind} {a b:Int} (hx:V.ev x=some (.int kd a)) (hy:V.ev y=some (.int kd b)) (h0:b≠0) :
 OpY P ⟨d,.binOp .rem T x y U,ty,pos,af,g⟩ V H (.int kd (a.tmod b)):=y_bin hx hy rfl (fun w=>by simp [binOp,Op.intDiv,h0])
def zaw (kd:IntKind) (a b:Int):Int:=kd.wrap (BitVec.ofInt kd.bits a &&& BitVec.ofInt kd.bits b).toNat
def bitOr (kd:IntKind) (a b:Int):Int:=kd.wrap (BitVec.ofInt kd.bits a ||| BitVec.ofInt kd.bits b).toNat
def zdn (kd:IntKind) (a b:Int):Int:=kd.wrap (BitVec.ofInt kd.bits a ^^^ BitVec.ofInt kd.bits b).toNat
theorem y_and {T U:TypeId} {x y:Operand} {kd:IntKind} {a b:Int} (hx:V.ev x=some (.int kd a)) (hy:V.ev y=some (.int kd b)) :
 OpY P ⟨d,.binOp .and T x y U,ty,pos,af,g⟩ V H (.int kd (zaw kd a b)):=y_bin hx hy rfl (fun w=>by simp [binOp,Op.intBits,zaw])
theorem y_or {T U:TypeId} {x y:Operand} {kd:IntKind} {a b:Int} (hx:V.ev x=some (.int kd a)) (hy:V.ev y=some (.int kd b)) :
 OpY P ⟨d,.binOp .or T x y U,ty,pos,af,g⟩ V H (.int kd (bitOr kd a b)):=y_bin hx hy rfl (fun w=>by simp [binOp,Op.intBits,bitOr])
theorem y_xor {T U:TypeId} {x y:Operand} {kd:IntKind} {a b:Int} (hx:V.ev x=some (.int kd a)) (hy:V.ev y=some (.int kd b)) :
 OpY P ⟨d,.binOp .xor T x y U,ty,pos,af,g⟩ V H (.int kd (zdn kd a b)):=y_bin hx hy rfl (fun w=>by simp [binOp,Op.intBits,zdn])
theorem y_shl {T U:TypeId} {x y:Operand} {kd kd' : IntKind} {a b:Int} (hx:V.ev x=some (.int kd a)) (hy:V.ev y=some (.int kd' b)) (h0:0≤b) :
 OpY P ⟨d,.binOp .shl T x y U,ty,pos,af,g⟩ V H (.int kd (kd.wrap (a*2 ^ (min b.toNat kd.bits)))):=y_bin hx hy rfl (fun w=>by simp [binOp,Op.shift,Int.not_lt.2 h0])
theorem y_shr {T U:TypeId} {x y:Operand} {kd kd' : IntKind} {a b:Int} (hx:V.ev x=some (.int kd a)) (hy:V.ev y=some (.int kd' b)) (h0:0≤b) :
 OpY P ⟨d,.binOp .shr T x y U,ty,pos,af,g⟩ V H (.int kd (a.fdiv (2 ^ (min b.toNat kd.bits)))):=y_bin hx hy rfl (fun w=>by simp [binOp,Op.shift,Int.not_lt.2 h0])
theorem z7D {α:Type} [BEq α] [LawfulBEq α] [DecidableEq α] (a b:α):(a == b)=decide (a=b):=by
 by_cases h:a=b <;> simp [h]
def bs (l:List UInt8):ByteArray:=⟨l.toArray⟩
theorem z6W (l:List UInt8):(bs l).toList=l:=by rw [ByteArray.toList_eq]; rfl
theorem zae (l:List UInt8):(bs l).size=l.length:=by simp [bs,ByteArray.size]
theorem y_eql {T U:TypeId} {x y:Operand} {kd:IntKind} {a b:Int} (hx:V.ev x=some (.int kd a)) (hy:V.ev y=some (.int kd b)) :
 OpY P ⟨d,.binOp .eql T x y U,ty,pos,af,g⟩ V H (.bool (decide (a=b))):=y_bin hx hy rfl (fun w=>by simp [binOp,Op.intCmp,z7D])
theorem y_neq {T U:TypeId} {x y:Operand} {kd:IntKind} {a b:Int} (hx:V.ev x=some (.int kd a)) (hy:V.ev y=some (.int kd b)) :
 OpY P ⟨d,.binOp .neq T x y U,ty,pos,af,g⟩ V H (.bool (decide (a≠b))):=y_bin hx hy rfl (fun w=>by simp [binOp,Op.intCmp,bne,z7D])
theorem y_lss {T U:TypeId} {x y:Operand} {kd:IntKind} {a b:Int} (hx:V.ev x=some (.int kd a)) (hy:V.ev y=some (.int kd b)) :
 OpY P ⟨d,.binOp .lss T x y U,ty,pos,af,g⟩ V H (.bool (decide (a<b))):=y_bin hx hy rfl (fun w=>by simp [binOp,Op.intCmp])
theorem y_leq {T U:TypeId} {x y:Operand} {kd:IntKind} {a b:Int} (hx:V.ev x=some (.int kd a)) (hy:V.ev y=some (.int kd b)) :
 OpY P ⟨d,.binOp .leq T x y U,ty,pos,af,g⟩ V H (.bool (decide (a≤b))):=y_bin hx hy rfl (fun w=>by simp [binOp,Op.intCmp])
theorem y_gtr {T U:TypeId} {x y:Operand} {kd:IntKind} {a b:Int} (hx:V.ev x=some (.int kd a)) (hy:V.ev y=some (.int kd b)) :
 OpY P ⟨d,.binOp .gtr T x y U,ty,pos,af,g⟩ V H (.bool (decide (b<a))):=y_bin hx hy rfl (fun w=>by simp [binOp,Op.intCmp])
theorem y_geq {T U:TypeId} {x y:Operand} {kd:IntKind} {a b:Int} (hx:V.ev x=some (.int kd a)) (hy:V.ev y=some (.int kd b)) :
 OpY P ⟨d,.binOp .geq T x y U,ty,pos,af,g⟩ V H (.bool (decide (b≤a))):=y_bin hx hy rfl (fun w=>by simp [binOp,Op.intCmp])
theorem zop {T U:TypeId} {x y:Operand} {a b:List UInt8} (hx:V.ev x=some (.string (bs a))) (hy:V.ev y=some (.string (bs b))) :
 OpY P ⟨d,.binOp .eql T x y U,ty,pos,af,g⟩ V H (.bool (decide (a=b))):=y_bin hx hy rfl (fun w=>by simp [binOp,Op.stringOp,z7D,z6W])
theorem zou {T U:TypeId} {x y:Operand} {a b:List UInt8} (hx:V.ev x=some (.string (bs a))) (hy:V.ev y=some (.string (bs b))) :
 OpY P ⟨d,.binOp .neq T x y U,ty,pos,af,g⟩ V H (.bool (!decide (a=b))):=y_bin hx hy rfl (fun w=>by simp [binOp,Op.stringOp,z7D,z6W])
theorem y_neg {T:TypeId} {x:Operand} {kd:IntKind} {a:Int} (hx:V.ev x=some (.int kd a)) :
  OpY P ⟨d,.unOp .neg T x,ty,pos,af,g⟩ V H (.int kd (kd.wrap (0 - a))):=by
 intro ρ w o hf _ _; simp [execOp,hf x _ hx,Op.unary,Op.intArith]
theorem y_not {T:TypeId} {x:Operand} {b:Bool} (hx:V.ev x=some (.bool b)):OpY P ⟨d,.unOp .not T x,ty,pos,af,g⟩ V H (.bool (!b)):=by
 intro ρ w o hf _ _; simp [execOp,hf x _ hx,Op.unary]
theorem zoj {S T:TypeId} {ds:TypeDesc} {x:Operand} {kd kd' : IntKind} {a:Int} (hS:∀ w,(underlying S).run P w = .ok ds w) (hT:∀ w,(underlying T).run P w = .ok (.int kd') w) (hx:V.ev x=some (.int kd a)) :
  OpY P ⟨d,.convert S T x,ty,pos,af,g⟩ V H (.int kd' (kd'.wrap a)):=by
 intro ρ w o hf _ _
 simp [execOp,hf x _ hx,convert,hS,hT,Conv.intToInt]
theorem z86 {x:Operand} {vs:Array Value} {i:Nat} {v:Value} (hx:V.ev x=some (.tuple vs)) (hv:vs[i]? = some v):OpY P ⟨d,.extract x i,ty,pos,af,g⟩ V H v:=by
 intro ρ w o hf _ _; simp [execOp,hf x _ hx,Instr.extract,hv]
end pure
end Go.Abs
namespace Go.Abs
variable {k : List KI} {V : VF} {H : List HA}
def Value.sbase:Value→Addr
 | .slice (some a) _ _=>a
 | _=>default
def elemP (v:Value) (n:Nat):Value:=.pointer (some ⟨(Value.sbase v).block,(Value.sbase v).off+n,none⟩)
def boxP (b off:Nat):Value:=.pointer (some ⟨b,off,none⟩)
def zbV (w:World) (B:Nat→Prop) (a:Option Addr) (es:Nat) (cells:List (List Value)):Prop:=
  ∀ (i : Nat) (c : List Value), cells[i]? = some c → c.length = es ∧ ∃ b off, a = some ⟨b, off, none⟩ ∧ b < w.heap.size ∧ B b ∧
    ∀ (j:Nat) (x:Value),c[j]? = some x→w.cell? ⟨b,off+i*es+j,none⟩=some x
def z2A (w:World) (B:Nat→Prop) (v:Value) (es:Nat) (cells:List (List Value)):Prop:=
 ∃ a cap,v = .slice a cells.length cap∧cells.length≤cap∧cap≤maxLen∧(a=none→cap=0)∧zbV w B a es cells
theorem z6i {w w' : World} {b:Nat} (h:w'.heap[b]? = w.heap[b]?) (off:Nat):w'.cell? ⟨b,off,none⟩=w.cell? ⟨b,off,none⟩:=by
 simp only [World.cell?,h]
theorem zbV.keep {w w' : World} {B B' : Nat→Prop} {a:Option Addr} {es:Nat} {cells:List (List Value)} (hs:w.heap.size≤w'.heap.size)
  (h:∀ b,b<w.heap.size→B b→B' b∧w'.heap[b]? = w.heap[b]?) (hc:zbV w B a es cells):zbV w' B' a es cells:=by
 intro i c hi
 obtain ⟨h1,b,off,h2,h3,h4,h5⟩:=hc i c hi
 obtain ⟨h6,h7⟩:=h b h3 h4
 exact ⟨h1,b,off,h2,Nat.lt_of_lt_of_le h3 hs,h6,fun j x hj=>by rw [z6i h7]; exact h5 j x hj⟩
theorem z2A.keep {w w' : World} {B B' : Nat→Prop} {v:Value} {es:Nat} {cells:List (List Value)} (hs:w.heap.size≤w'.heap.size)
  (h:∀ b,b<w.heap.size→B b→B' b∧w'.heap[b]? = w.heap[b]?) (hc:z2A w B v es cells):z2A w' B' v es cells:=by
 obtain ⟨a,cap,h1,h2,h3,h4,h5⟩:=hc
 exact ⟨a,cap,h1,h2,h3,h4,h5.keep hs h⟩
def ro (v:Value) (es:Nat) (cells:List (List Value)):HA:=
 ⟨fun w o _=>z2A w (fun b=>o b = .no) v es cells,fun hs _ h2 hc=>hc.keep hs h2⟩
def RowIs (w:World) (M:Nat→Prop) (v:Value) (es:Nat) (cells:List (List Value)):Prop:=
  ((∃ a,v = .slice a 0 0)∧cells=[])∨
  ∃ b off cap arr T fz, v = .slice (some ⟨b, off, none⟩) cells.length cap ∧ M b ∧ b < w.heap.size ∧ w.heap[b]? = some (.cells arr T fz) ∧
    (fz.2≤fz.1∨arr.size≤fz.1)∧arr.size=off+cap*es∧cells.length≤cap∧cap≤maxLen∧(∀ c∈cells,c.length=es)∧
    ∀ (i:Nat) (c:List Value),cells[i]? = some c→∀ (j:Nat) (x:Value),c[j]? = some x→arr[off+i*es+j]? = some x
theorem RowIs.keep {w w' : World} {M M' : Nat→Prop} {v:Value} {es:Nat} {cells:List (List Value)} (hs:w.heap.size≤w'.heap.size)
  (h:∀ b,b<w.heap.size→M b→M' b∧w'.heap[b]? = w.heap[b]?) (hc:RowIs w M v es cells):RowIs w' M' v es cells:=by
 rcases hc with hc | ⟨b,off,cap,arr,T,fz,h1,h2,h3,h4,h5⟩
 ·exact .inl hc
 ·obtain ⟨e1,e2⟩:=h b h3 h2
  exact .inr ⟨b,off,cap,arr,T,fz,h1,e1,Nat.lt_of_lt_of_le h3 hs,e2.trans h4,h5⟩
def row (v:Value) (es:Nat) (cells:List (List Value)):HA:=
 ⟨fun w o k=>RowIs w (fun b=>o b = .mine k) v es cells,fun hs h1 _ hc=>hc.keep hs h1⟩
theorem z99 {w:World} {b:Nat} {arr:Array Value} {T:TypeId} {fz:Nat×Nat} (h:w.heap[b]? = some (.cells arr T fz)) (off:Nat) :
 w.cell? ⟨b,off,none⟩=arr[off]?:=by simp [World.cell?,h]
theorem zfA {w:World} {b:Nat} {arr:Array Value} {T:TypeId} {fz:Nat×Nat} (h:w.heap[b]? = some (.cells arr T fz)) (hf:fz.2≤fz.1∨arr.size≤fz.1) (off:Nat) (ho:off<arr.size) :
  w.frozen? ⟨b,off,none⟩=false:=by
 obtain ⟨lo,hi⟩:=fz
 simp only [World.frozen?,h]
 rw [Bool.and_eq_false_iff]
 rcases hf with hf | hf
 ·simp at hf ⊢; omega
 ·simp at hf ⊢; omega
theorem RowIs.slice {w:World} {M B:Nat→Prop} {v:Value} {es:Nat} {cells:List (List Value)} (hB:∀ b,M b→B b) (h:RowIs w M v es cells):z2A w B v es cells:=by
 rcases h with ⟨h1,h2⟩ | ⟨b,off,cap,arr,T,fz,h1,h2,h3,h4,h5,h6,h7,h8,h9,h10⟩
 ·subst h2
  obtain ⟨a,h1⟩:=h1
  exact ⟨a,0,h1,Nat.le_refl _,Nat.zero_le _,fun _=>rfl,fun i c hi=>by simp at hi⟩
 ·refine ⟨_,cap,h1,h7,h8,fun e=>by simp at e,?_⟩
  intro i c hi
  refine ⟨h9 c (List.mem_of_getElem? hi),b,off,rfl,h3,hB b h2,fun j x hj=>?_⟩
  rw [z99 h4]
  exact h10 i c hi j x hj
structure Reads (h:HA) (v:Value) (es:Nat) (cells:List (List Value)):Prop where
 is:∀ w o k,h.p w o k→z2A w (fun b=>o b = .no∨o b = .mine k) v es cells
theorem z9L {v:Value} {es:Nat} {cells:List (List Value)}:Reads (ro v es cells) v es cells:=
 ⟨fun _ _ _ h=>z2A.keep (Nat.le_refl _) (fun _ _ hb=>⟨.inl hb,rfl⟩) h⟩
theorem z6z {v:Value} {es:Nat} {cells:List (List Value)}:Reads (row v es cells) v es cells:=
 ⟨fun _ _ _ h=>RowIs.slice (fun _ hb=>.inr hb) h⟩
def box (b:Nat) (vs:List Value):HA:=
 ⟨fun w o k=>o b = .mine k∧b<w.heap.size∧∃ T fz,w.heap[b]? = some (.cells vs.toArray T fz)∧fz.2≤fz.1,fun hs h1 _ hc=>
  let ⟨e1,e2,T,fz,e3,e4⟩:=hc; let ⟨e5,e6⟩:=h1 b e2 e1; ⟨e5,Nat.lt_of_lt_of_le e2 hs,T,fz,e6.trans e3,e4⟩⟩
section loads
variable {P : Program} {d : Option Nat} {ty : TypeId} {pos : String} {af : Array Edge} {g : Option (Nat × Bool)}
theorem z7E {w:World} (b off:Nat):∀ (c:List Value) (i:Nat) (acc:Array Value),(∀ (j:Nat) (x:Value),c[j]? = some x→w.cell? ⟨b,off+i+j,none⟩=some x)→
    (loadCellsFrom ⟨b,off,none⟩ i c.length acc).run P w = .ok (acc++c.toArray) w
  | [],i,acc,_=>by simp [loadCellsFrom]
  | x :: c, i, acc, h => by
    have h0:=h 0 x rfl
    have ha:(Addr.add ⟨b,off,none⟩ i)=⟨b,off+i,none⟩:=by unfold Addr.add; split <;> simp_all
    have ih:=z7E b off c (i+1) (acc.push x) (fun j y hj=>by have:=h (j+1) y (by simpa using hj); rw [← this]; congr 2; omega)
    simp only [List.length_cons,loadCellsFrom,Sem.run_bind,run_load,ha]
    rw [show off+i=off+i+0 by omega,h0]
    simp only [Result.andThen_ok]
    rw [ih]; simp
theorem z4e {w:World} (b off:Nat) (c:List Value) (h:∀ (j:Nat) (x:Value),c[j]? = some x→w.cell? ⟨b,off+j,none⟩=some x) :
  (loadCells ⟨b,off,none⟩ c.length).run P w = .ok c.toArray w:=by
 unfold loadCells
 rw [z7E b off c 0 #[] (by simpa using h)]; simp
theorem z2A.elem {w:World} {B:Nat→Prop} {v:Value} {es:Nat} {cells:List (List Value)} (h:z2A w B v es cells) {i:Nat} {c:List Value} (hi:cells[i]? = some c) :
  c.length=es∧∃ b off cap,v = .slice (some ⟨b,off,none⟩) cells.length cap∧∀ (j:Nat) (x:Value),c[j]? = some x→w.cell? ⟨b,off+i*es+j,none⟩=some x:=by
 obtain ⟨a,cap,h1,_,_,_,h5⟩:=h
 obtain ⟨e1,b,off,e2,_,_,e5⟩:=h5 i c hi
 exact ⟨e1,b,off,cap,by rw [h1,e2],e5⟩
theorem zda {T:TypeId} {x:Operand} {v r:Value} {es i:Nat} {cells:List (List Value)} {h:HA} (m:Nat) (ha:∀ w,(isAgg T).run P w = .ok false w)
  (hx:V.ev x=some (elemP v (i*es))) (hm:H[m]? = some h) (hr:Reads h v es cells) (hc:cells[i]? = some [r]):OpY P ⟨d,.load T x,ty,pos,af,g⟩ V H r:=by
 intro ρ w o hf _ hs
 obtain ⟨_,b,off,cap,e1,e2⟩:=(hr.is w o m (hs m h hm)).elem hc
 have:=e2 0 r rfl
 subst e1
 simp [execOp,hf x _ hx,Instr.loadAt,Instr.sureAddr,elemP,Value.sbase,loadVar,ha]
 simp at this
 simp [this]
theorem zbT {T:TypeId} {x:Operand} {v r:Value} {es i j:Nat} {c:List Value} {cells:List (List Value)} {h:HA} (m:Nat) (ha:∀ w,(isAgg T).run P w = .ok false w)
  (hx:V.ev x=some (elemP v (i*es+j))) (hm:H[m]? = some h) (hr:Reads h v es cells) (hc:cells[i]? = some c) (hj:c[j]? = some r):OpY P ⟨d,.load T x,ty,pos,af,g⟩ V H r:=by
 intro ρ w o hf _ hs
 obtain ⟨_,b,off,cap,e1,e2⟩:=(hr.is w o m (hs m h hm)).elem hc
 have:=e2 j r hj
 subst e1
 simp [execOp,hf x _ hx,Instr.loadAt,Instr.sureAddr,elemP,Value.sbase,loadVar,ha]
 rw [show off+(i*es+j)=off+i*es+j by omega]
 simp [this]
theorem za1 {T:TypeId} {x:Operand} {v:Value} {es i:Nat} {c:List Value} {cells:List (List Value)} {h:HA} (m:Nat) (ha:∀ w,(isAgg T).run P w = .ok true w) (hz:∀ w,(sizeOf T).run P w = .ok es w)
  (hx:V.ev x=some (elemP v (i*es))) (hm:H[m]? = some h) (hr:Reads h v es cells) (hc:cells[i]? = some c):OpY P ⟨d,.load T x,ty,pos,af,g⟩ V H (.agg c.toArray):=by
 intro ρ w o hf _ hs
 obtain ⟨e0,b,off,cap,e1,e2⟩:=(hr.is w o m (hs m h hm)).elem hc
 subst e1
 have:=z4e (P:=P) (w:=w) b (off+i*es) c e2
 rw [e0] at this
 simp [execOp,hf x _ hx,Instr.loadAt,Instr.sureAddr,elemP,Value.sbase,loadVar,ha,hz,this]
theorem za3 {T:TypeId} {x:Operand} {r:Value} {b off:Nat} {vs:List Value} (m:Nat) (ha:∀ w,(isAgg T).run P w = .ok false w)
  (hx:V.ev x=some (boxP b off)) (hm:H[m]? = some (box b vs)) (hc:vs[off]? = some r):OpY P ⟨d,.load T x,ty,pos,af,g⟩ V H r:=by
 intro ρ w o hf _ hs
 obtain ⟨_,_,T',fz,e3,_⟩:=hs m _ hm
 have:=z99 e3 off
 simp [execOp,hf x _ hx,Instr.loadAt,Instr.sureAddr,boxP,loadVar,ha,this,hc]
theorem z7Y {T:TypeId} {x:Operand} {b off:Nat} {c vs:List Value} (m:Nat) (ha:∀ w,(isAgg T).run P w = .ok true w) (hz:∀ w,(sizeOf T).run P w = .ok c.length w)
  (hx:V.ev x=some (boxP b off)) (hm:H[m]? = some (box b vs)) (hc:(vs.drop off).take c.length=c):OpY P ⟨d,.load T x,ty,pos,af,g⟩ V H (.agg c.toArray):=by
 intro ρ w o hf _ hs
 obtain ⟨_,_,T',fz,e3,_⟩:=hs m _ hm
 have:=z4e (P:=P) (w:=w) b off c (fun j y hj=>by
  rw [z99 e3]
  rw [← hc,List.getElem?_take] at hj
  split at hj
  ·simpa [List.getElem?_drop] using hj
  ·simp at hj)
 simp [execOp,hf x _ hx,Instr.loadAt,Instr.sureAddr,boxP,loadVar,ha,hz,this]
theorem z8f {S:TypeId} {x:Operand} {b off fi:Nat} {fs:Array Field} {f:Field} {sz:Nat} (hu:∀ w,(underlying S).run P w = .ok (.struct fs) w) (hf' : fs[fi]? = some f)
  (hz:∀ w,(sizeOf f.type).run P w = .ok (sz+1) w) (hx:V.ev x=some (boxP b off)):OpY P ⟨d,.fieldAddr S x fi,ty,pos,af,g⟩ V H (boxP b (off+f.offset)):=by
 intro ρ w o hf _ _
 have ha:(Addr.add ⟨b,off,none⟩ f.offset)=⟨b,off+f.offset,none⟩:=by unfold Addr.add; split <;> simp_all
 simp [execOp,hf x _ hx,Instr.fieldAt,hu,hf',Instr.sureAddr,boxP,fieldPlace,hz,ha]
theorem z9Z {S:TypeId} {x:Operand} {v:Value} {n fi:Nat} {fs:Array Field} {f:Field} {sz:Nat} (hu:∀ w,(underlying S).run P w = .ok (.struct fs) w) (hf' : fs[fi]? = some f)
  (hz:∀ w,(sizeOf f.type).run P w = .ok (sz+1) w) (hx:V.ev x=some (elemP v n)):OpY P ⟨d,.fieldAddr S x fi,ty,pos,af,g⟩ V H (elemP v (n+f.offset)):=by
 intro ρ w o hf _ _
 have ha:(Addr.add ⟨(Value.sbase v).block,(Value.sbase v).off+n,none⟩ f.offset)=⟨(Value.sbase v).block,(Value.sbase v).off+(n+f.offset),none⟩:=by unfold Addr.add; split <;> simp_all <;> omega
 simp [execOp,hf x _ hx,Instr.fieldAt,hu,hf',Instr.sureAddr,elemP,fieldPlace,hz,ha]
theorem zd8 {T el:TypeId} {x y:Operand} {v:Value} {kd:IntKind} {n es:Nat} {cells:List (List Value)} {h:HA} (m:Nat) (hu:∀ w,(underlying T).run P w = .ok (.slice el) w)
  (hz:∀ w,(sizeOf el).run P w = .ok es w) (hx:V.ev x=some v) (hy:V.ev y=some (.int kd n)) (hm:H[m]? = some h) (hr:Reads h v es cells) (hn:n<cells.length) :
  OpY P ⟨d,.indexAddr T x y,ty,pos,af,g⟩ V H (elemP v (n*es)):=by
 intro ρ w o hf _ hs
 obtain ⟨_,b,off,cap,e1,_⟩:=(hr.is w o m (hs m h hm)).elem (List.getElem?_eq_getElem hn)
 subst e1
 have ha:(Addr.add ⟨b,off,none⟩ (n*es))=⟨b,off+n*es,none⟩:=by
  unfold Addr.add; split
  ·rename_i h0; rw [h0]; rfl
  ·rfl
 simp [execOp,hf x _ hx,hf y _ hy,Instr.indexAt,asIntOf,hu,hz,elemP,Value.sbase,ha,hn]
theorem zeF {Ts:Array TypeId} {T el:TypeId} {w:World} {a:Option Addr} {n cap:Nat} (hT:Ts[0]? = some T) (hu:∀ w,(underlying T).run P w = .ok (.slice el) w) :
  (Builtin.len_ Ts ty #[.slice a n cap]).run P w = .ok (.int .i64 n) w:=by
 simp [Builtin.len_,hT,hu,goInt]
theorem y_len {Ts:Array TypeId} {T el:TypeId} {x:Operand} {v:Value} {es:Nat} {cells:List (List Value)} {h:HA} (m:Nat) (hT:Ts[0]? = some T) (hu:∀ w,(underlying T).run P w = .ok (.slice el) w)
  (hx:V.ev x=some v) (hm:H[m]? = some h) (hr:Reads h v es cells):OpY P ⟨d,.call ⟨.builtin .len,#[x],Ts⟩,ty,pos,af,g⟩ V H (.int .i64 cells.length):=by
 intro ρ w o hf _ hs
 obtain ⟨a,cap,e1,_⟩:=hr.is w o m (hs m h hm)
 subst e1
 simp [execOp,resolve,invoke,builtin,hf x _ hx,zeF hT hu]
theorem zgr {Ts:Array TypeId} {T el:TypeId} {x:Operand} (hT:Ts[0]? = some T) (hu:∀ w,(underlying T).run P w = .ok (.slice el) w)
  (hx:V.ev x=some (.slice none 0 0)):OpY P ⟨d,.call ⟨.builtin .len,#[x],Ts⟩,ty,pos,af,g⟩ V H (.int .i64 0):=by
 intro ρ w o hf _ hs
 simp [execOp,resolve,invoke,builtin,hf x _ hx,zeF hT hu]
theorem zgs {Ts:Array TypeId} {T:TypeId} {x:Operand} {l:List UInt8} (hT:Ts[0]? = some T) (hu:∀ w,(underlying T).run P w = .ok .string w)
  (hx:V.ev x=some (.string (bs l))):OpY P ⟨d,.call ⟨.builtin .len,#[x],Ts⟩,ty,pos,af,g⟩ V H (.int .i64 l.length):=by
 intro ρ w o hf _ hs
 simp [execOp,resolve,invoke,builtin,hf x _ hx,Builtin.len_,hT,hu,goInt,zae]
theorem y_min {Ts:Array TypeId} {x y:Operand} {kd:IntKind} {a b:Int} (hx:V.ev x=some (.int kd a)) (hy:V.ev y=some (.int kd b)) :
  OpY P ⟨d,.call ⟨.builtin .min,#[x,y],Ts⟩,ty,pos,af,g⟩ V H (.int kd (min a b)):=by
 intro ρ w o hf _ _
 simp [execOp,resolve,invoke,builtin,hf x _ hx,hf y _ hy,Builtin.min_,Builtin.min2]
 omega
theorem y_max {Ts:Array TypeId} {x y:Operand} {kd:IntKind} {a b:Int} (hx:V.ev x=some (.int kd a)) (hy:V.ev y=some (.int kd b)) :
  OpY P ⟨d,.call ⟨.builtin .max,#[x,y],Ts⟩,ty,pos,af,g⟩ V H (.int kd (max a b)):=by
 intro ρ w o hf _ _
 simp [execOp,resolve,invoke,builtin,hf x _ hx,hf y _ hy,Builtin.max_,Builtin.max2]
 omega
theorem zd9 {T:TypeId} {x y:Operand} {kd:IntKind} {n:Nat} {l:List UInt8} {b:UInt8} (hu:∀ w,(underlying T).run P w = .ok .string w) (hx:V.ev x=some (.string (bs l)))
  (hy:V.ev y=some (.int kd n)) (hb:l[n]? = some b):OpY P ⟨d,.index T x y,ty,pos,af,g⟩ V H (.int .u8 b.toNat):=by
 intro ρ w o hf _ _
 have:(bs l)[n]? = some b:=by
  have h1:(bs l)[n]? = (bs l).data[n]?:=by
   by_cases h:n<(bs l).size
   ·rw [getElem?_pos (bs l) n h,getElem?_pos (bs l).data n h]; rfl
   ·rw [getElem?_neg (bs l) n h,getElem?_neg (bs l).data n h]
  rw [h1]; simpa [bs] using hb
 simp [execOp,hf x _ hx,hf y _ hy,Instr.index,asIntOf,hu,this]
def u8c (l:List UInt8):List (List Value):=l.map fun b=>[.int .u8 b.toNat]
theorem zb9:∀ (l:List UInt8) (acc:ByteArray),l.foldl (fun b a=>b.push a) acc=⟨acc.data++l.toArray⟩
  | [],acc=>by simp
  | b :: l, acc => by
    rw [List.foldl_cons,zb9 l]
    simp [ByteArray.push]
theorem y_b2s {S T el:TypeId} {x:Operand} {v:Value} {l:List UInt8} {h:HA} (m:Nat) (hS:∀ w,(underlying S).run P w = .ok (.slice el) w) (he:∀ w,(underlying el).run P w = .ok (.int .u8) w)
    (hT:∀ w,(underlying T).run P w = .ok .string w) (hx:V.ev x=some v) (hm:H[m]? = some h) (hr:Reads h v 1 (u8c l)):OpY P ⟨d,.convert S T x,ty,pos,af,g⟩ V H (.string (bs l)):=by
  intro ρ w o hf _ hs
  have hi:=hr.is w o m (hs m h hm)
  cases hl:l with
  | nil =>
    subst hl
    obtain ⟨a,cap,e1,_⟩:=hi
    subst e1
    cases a with
    | none=>simp [execOp,hf x _ hx,convert,hS,hT,he,Conv.bytesToString]; rfl
    | some a=>simp [execOp,hf x _ hx,convert,hS,hT,he,Conv.bytesToString,u8c,loadCells,loadCellsFrom]; rfl
  | cons b0 l0 =>
    rw [← hl]
    obtain ⟨_,b,off,cap,e1,_⟩:=hi.elem (i:=0) (c:=[.int .u8 b0.toNat]) (by simp [u8c,hl])
    have hc:∀ (j:Nat) (x:Value),(l.map fun b=>Value.int .u8 b.toNat)[j]? = some x→w.cell? ⟨b,off+j,none⟩=some x:=by
      intro j y hj
      rw [List.getElem?_map] at hj
      cases hlj:l[j]? with
      | none=>rw [hlj] at hj; simp at hj
      | some bb =>
        rw [hlj] at hj
        simp at hj
        obtain ⟨_,b',off',cap',e3,e4⟩:=hi.elem (i:=j) (c:=[.int .u8 bb.toNat]) (by simp [u8c,hlj])
        rw [e1] at e3
        simp only [Value.slice.injEq,Option.some.injEq,Addr.mk.injEq,and_true] at e3
        obtain ⟨⟨rfl,rfl⟩,_⟩:=e3
        have:=e4 0 y (by simp [hj])
        simpa using this
    have hr:=z4e (P:=P) b off _ hc
    have hlen:(u8c l).length=(l.map fun b=>Value.int .u8 b.toNat).length:=by simp [u8c]
    rw [e1] at hx
    simp only [execOp,hf x _ hx,convert,Sem.run_bind,hS,hT,he,Result.andThen_ok,Conv.bytesToString,hlen,hr]
    have hfold:=zb9 l ByteArray.empty
    simp [hfold]
    simp [bs]
end loads
end Go.Abs
namespace Go.Abs
variable {k : List KI} {V : VF} {H : List HA}
structure Wr (w:World) (b:Nat) (obj:Obj) (w' : World):Prop where
 os:w'.os=w.os
 tape:w'.tape=w.tape
 output:w'.output=w.output
 size:w'.heap.size=w.heap.size
 here:w'.heap[b]? = some obj
 other:∀ b',b'≠b→w'.heap[b']? = w.heap[b']?
def z4R:Array Value→Nat→List Value→Array Value
 | arr,_,[]=>arr
 | arr,n,v::vs=>z4R (arr.setIfInBounds n v) (n+1) vs
theorem z3M:∀ (vs:List Value) (arr:Array Value) (n:Nat),(z4R arr n vs).size=arr.size
 | [],_,_=>rfl
 | v::vs,arr,n=>by rw [z4R,z3M vs]; simp
theorem z4S:∀ (vs:List Value) (arr:Array Value) (n m:Nat),n+vs.length≤arr.size→
    (z4R arr n vs)[m]? = if n≤m∧m<n+vs.length then vs[m - n]? else arr[m]?
  | [], arr, n, m, _ => by
    have:¬ (n≤m∧m<n+([]:List Value).length):=by simp only [List.length_nil]; omega
    rw [if_neg this]; rfl
  | v :: vs, arr, n, m, h => by
    simp only [List.length_cons] at h
    rw [z4R,z4S vs _ _ _ (by simpa using (by omega:n+1+vs.length≤arr.size))]
    by_cases h1:n=m
    · subst h1
      rw [if_neg (by omega),if_pos ⟨Nat.le_refl _,by simp⟩]
      simp [Array.getElem?_setIfInBounds_self]
      omega
    · rw [Array.getElem?_setIfInBounds_ne h1]
      by_cases h2:n≤m∧m<n+(v::vs).length
      · have h3:n+1≤m∧m<n+1+vs.length:=by simp at h2; omega
        rw [if_pos h2,if_pos h3,show m - n=(m - (n+1))+1 by omega]
        simp
      · have h3:¬ (n+1≤m∧m<n+1+vs.length):=by simp at h2; omega
        rw [if_neg h2,if_neg h3]
theorem z4U {P:Program} {b off:Nat} {T:TypeId} {fz:Nat×Nat}:∀ (vs:List Value) (i:Nat) (arr:Array Value) (w:World),w.heap[b]? = some (.cells arr T fz)→
    (fz.2≤fz.1∨arr.size≤fz.1)→off+i+vs.length≤arr.size→(∀ v∈vs,v.oneCell'=true)→
    ∃ w',(storeCells ⟨b,off,none⟩ vs i).run P w = .ok () w'∧Wr w b (.cells (z4R arr (off+i) vs) T fz) w'
  | [],i,arr,w,hb,_,_,_=>⟨w,rfl,rfl,rfl,rfl,rfl,hb,fun _ _=>rfl⟩
  | v :: vs, i, arr, w, hb, hf, hl, hv => by
    simp only [List.length_cons] at hl
    have ha:(Addr.add ⟨b,off,none⟩ i)=⟨b,off+i,none⟩:=by unfold Addr.add; split <;> simp_all
    have hlt:off+i<arr.size:=by omega
    have hc:w.cell? ⟨b,off+i,none⟩=some arr[off+i]:=by rw [z99 hb]; simp [hlt]
    have hz:=zfA hb hf (off+i) hlt
    have hbs:b<w.heap.size:=by
      rcases Nat.lt_or_ge b w.heap.size with h | h
      · exact h
      · rw [Array.getElem?_eq_none h] at hb; simp at hb
    have hb' : (w.setCell ⟨b,off+i,none⟩ v).heap[b]? = some (.cells (arr.setIfInBounds (off+i) v) T fz):=by
      simp [World.setCell,Array.getElem?_modify,hb]
    obtain ⟨w',h1,h2⟩:=z4U (P:=P) vs (i+1) _ _ hb' (by simpa using hf) (by simpa using (by omega:off+(i+1)+vs.length≤arr.size)) (fun x hx=>hv x (List.mem_cons_of_mem _ hx))
    refine ⟨w',?_,?_⟩
    · simp only [storeCells,Sem.run_bind,ha,run_store P w _ v .plain (hv v (List.mem_cons_self ..)),hc,hz]
      simpa using h1
    · refine ⟨h2.os,h2.tape,h2.output,by rw [h2.size]; simp [World.setCell],?_,fun b' hne=>?_⟩
      · rw [h2.here]; rfl
      · rw [h2.other b' hne]; simp [World.setCell,Array.getElem?_modify,Ne.symm hne]
structure Nw (w:World) (obj:Obj) (w' : World):Prop where
 os:w'.os=w.os
 tape:w'.tape=w.tape
 output:w'.output=w.output
 size:w'.heap.size=w.heap.size+1
 here:w'.heap[w.heap.size]? = some obj
 other:∀ b,b<w.heap.size→w'.heap[b]? = w.heap[b]?
theorem z8a (w:World) (obj:Obj) (n:Nat):Nw w obj { w with heap:=w.heap.push obj,drawn:=n }:=
 ⟨rfl,rfl,rfl,by simp,by simp,fun b hb=>by simp [Array.getElem?_push,Nat.ne_of_lt hb]⟩
def z6V (o:Own) (b m:Nat):Own:=fun x=>if x=b then .mine m else o x
theorem z7w {w w' : World} {o:Own} {obj:Obj} {g:HA} (hb:Bnd w o) (hn:Nw w obj w') (hs:Sats w o H)
  (hg:g.p w' (z6V o w.heap.size H.length) H.length) :
  Bnd w' (z6V o w.heap.size H.length)∧Tr w o w' (z6V o w.heap.size H.length)∧Sats w' (z6V o w.heap.size H.length) (H++[g]):=by
 have hne:∀ b,b<w.heap.size→z6V o w.heap.size H.length b=o b:=fun b hlt=>by simp [z6V,Nat.ne_of_lt hlt]
 refine ⟨fun b hle=>?_,⟨hn.os,hn.tape,hn.output,by rw [hn.size]; omega,fun b hlt ho=>⟨(hne b hlt).trans ho,hn.other b hlt⟩,fun b hlt ho=>⟨(hne b hlt).trans ho,hn.other b hlt⟩⟩,?_⟩
 ·rw [hn.size] at hle
  simp only [z6V]
  rw [if_neg (by omega)]
  exact hb b (by omega)
 ·intro j h hj
  rw [List.getElem?_append] at hj
  split at hj
  ·exact h.keep (by rw [hn.size]; omega) (fun b hlt ho=>⟨(hne b hlt).trans ho,hn.other b hlt⟩) (fun b hlt ho=>⟨(hne b hlt).trans ho,hn.other b hlt⟩) (hs j h hj)
  ·rename_i hlt
   have:j - H.length=0:=by
    by_cases h0:j - H.length=0
    ·exact h0
    ·rw [show j - H.length=(j - H.length - 1)+1 by omega] at hj; simp at hj
   rw [this] at hj
   simp at hj
   subst hj
   obtain rfl:j=H.length:=by omega
   exact hg
theorem z3k {w w' : World} {o o' : Own} {m:Nat} {g:HA} (hsz:w.heap.size≤w'.heap.size) (ho:∀ b,b<w.heap.size→o b≠.mine m→o' b=o b∧w'.heap[b]? = w.heap[b]?)
  (hs:Sats w o H) (hg:g.p w' o' m):Sats w' o' (H.set m g):=by
 intro j h hj
 by_cases e:j=m
 ·subst e
  rw [List.getElem?_set] at hj
  simp at hj
  obtain ⟨_,rfl⟩:=hj
  exact hg
 ·rw [List.getElem?_set_ne (Ne.symm e)] at hj
  refine h.keep hsz (fun b hlt hb=>?_) (fun b hlt hb=>?_) (hs j h hj)
  ·obtain ⟨e1,e2⟩:=ho b hlt (by rw [hb]; intro h'; injection h' with h'; exact e h')
   exact ⟨e1.trans hb,e2⟩
  ·obtain ⟨e1,e2⟩:=ho b hlt (by rw [hb]; intro h'; cases h')
   exact ⟨e1.trans hb,e2⟩
section writes
variable {P : Program} {d : Option Nat} {ty : TypeId} {pos : String} {af : Array Edge} {g : Option (Nat × Bool)}
def wrL (vs:List Value) (off:Nat) (xs:List Value):List Value:=(z4R vs.toArray off xs).toList
theorem zcD {T:TypeId} {x y:Operand} {b off n:Nat} {vs:List Value} {v:Value} (m:Nat) (hz:∀ w,(sizeOf T).run P w = .ok n w) (hx:V.ev x=some (boxP b off)) (hy:V.ev y=some v)
  (hm:H[m]? = some (box b vs)) (hn:v.cells.size=n) (hl:off+n≤vs.length) (h1:∀ u∈v.cells.toList,u.oneCell'=true) :
  OpT P ⟨d,.store T x y,ty,pos,af,g⟩ V H (fun v' H'=>v'=undef∧H'=H.set m (box b (wrL vs off v.cells.toList))):=by
 intro ρ w o hf hbd hs
 obtain ⟨e1,e2,T',fz,e3,e4⟩:=hs m _ hm
 obtain ⟨w',h2,h3⟩:=z4U (P:=P) v.cells.toList 0 vs.toArray w e3 (.inl e4) (off:=off) (by simp; omega) h1
 have hrun:(execOp ρ ⟨d,.store T x y,ty,pos,af,g⟩).run P w = .ok .skip w':=by
  simp [execOp,hf x _ hx,hf y _ hy,Instr.storeAt,Instr.sureAddr,boxP,storeVar,hz,hn,h2]
 unfold Does
 rw [hrun]
 refine ⟨_,o,⟨rfl,rfl⟩,fun b' hb'=>hbd b' (by rw [h3.size] at hb'; exact hb'),⟨h3.os,h3.tape,h3.output,by rw [h3.size]; exact Nat.le_refl _,fun b' hlt hb'=>⟨hb',h3.other b' ?_⟩,fun b' hlt hb'=>⟨hb',h3.other b' ?_⟩⟩,?_⟩
 ·rintro rfl; rw [e1] at hb'; cases hb'
 ·rintro rfl; rw [e1] at hb'; cases hb'
 ·refine z3k (by rw [h3.size]; exact Nat.le_refl _) (fun b' hlt hb'=>⟨rfl,h3.other b' ?_⟩) hs ⟨e1,by rw [h3.size]; exact e2,T',fz,?_,e4⟩
  ·rintro rfl; exact hb' e1
  ·rw [h3.here]; simp [wrL]
theorem zh5 {T:TypeId} {z:Value} (hz:∀ w,(zeroValue T).run P w = .ok z w) :
  OpT P ⟨d,.alloc T,ty,pos,af,g⟩ V H (fun v' H'=>∃ b,v'=boxP b 0∧H'=H++[box b z.cells.toList]):=by
 intro ρ w o hf hbd hs
 have hn:=z8a w (.cells z.cells T) w.drawn
 have hrun:(execOp ρ ⟨d,.alloc T,ty,pos,af,g⟩).run P w = .ok (.value (boxP w.heap.size 0)) { w with heap:=w.heap.push (.cells z.cells T) }:=by
  simp [execOp,Instr.alloc,hz,newVar,newRow,boxP]
 unfold Does
 rw [hrun]
 obtain ⟨h1,h2,h3⟩:=z7w (g:=box w.heap.size z.cells.toList) hbd hn hs ⟨by simp [z6V],by rw [hn.size]; omega,T,(0,0),by rw [hn.here],by simp⟩
 exact ⟨_,_,⟨w.heap.size,rfl,rfl⟩,h1,h2,h3⟩
theorem t_box {T:TypeId} {x:Operand} {v:Value} (hx:V.ev x=some v) :
  OpT P ⟨d,.box T x,ty,pos,af,g⟩ V H (fun v' H'=>∃ b,v'=boxP b 0∧H'=H++[box b v.cells.toList]):=by
 intro ρ w o hf hbd hs
 have hn:=z8a w (.cells v.cells T) w.drawn
 have hrun:(execOp ρ ⟨d,.box T x,ty,pos,af,g⟩).run P w = .ok (.value (boxP w.heap.size 0)) { w with heap:=w.heap.push (.cells v.cells T) }:=by
  simp [execOp,Instr.box,hf x _ hx,newVar,newRow,boxP]
 unfold Does
 rw [hrun]
 obtain ⟨h1,h2,h3⟩:=z7w (g:=box w.heap.size v.cells.toList) hbd hn hs ⟨by simp [z6V],by rw [hn.size]; omega,T,(0,0),by rw [hn.here],by simp⟩
 exact ⟨_,_,⟨w.heap.size,rfl,rfl⟩,h1,h2,h3⟩
theorem zdL {es:Nat}:∀ (cells:List (List Value)),(∀ c∈cells,c.length=es)→∀ (j:Nat) (x:Value),cells.flatten[j]? = some x→
    ∃ (i j' : Nat) (c:List Value),cells[i]? = some c∧c[j']? = some x∧j=i*es+j'
  | [],_,j,x,h=>by simp at h
  | c :: r, hl, j, x, h => by
    have hc:=hl c (List.mem_cons_self ..)
    rw [List.flatten_cons,List.getElem?_append] at h
    split at h
    · exact ⟨0,j,c,rfl,h,by omega⟩
    · obtain ⟨i,j',c',h1,h2,h3⟩:=zdL r (fun y hy=>hl y (List.mem_cons_of_mem _ hy)) _ _ h
      refine ⟨i+1,j',c',by simpa using h1,h2,?_⟩
      rw [Nat.succ_mul]; omega
theorem z6q {es:Nat}:∀ (cells:List (List Value)),(∀ c∈cells,c.length=es)→cells.flatten.length=cells.length*es
  | [],_=>by simp
  | c :: r, hl => by
    rw [List.flatten_cons,List.length_append,z6q r (fun y hy=>hl y (List.mem_cons_of_mem _ hy)),hl c (List.mem_cons_self ..),List.length_cons,Nat.succ_mul]; omega
theorem z9b {es:Nat}:∀ (cells:List (List Value)),(∀ c∈cells,c.length=es)→∀ (i j:Nat) (c:List Value) (x:Value),cells[i]? = some c→c[j]? = some x→cells.flatten[i*es+j]? = some x
  | [],_,i,j,c,x,h,_=>by simp at h
  | c0 :: r, hl, 0, j, c, x, h, hx => by
    simp at h; subst h
    rw [List.flatten_cons,List.getElem?_append,if_pos (by have:=(List.getElem?_eq_some_iff.1 hx).1; omega)]
    simpa using hx
  | c0 :: r, hl, i + 1, j, c, x, h, hx => by
    have hc:=hl c0 (List.mem_cons_self ..)
    rw [List.flatten_cons,List.getElem?_append,if_neg (by rw [Nat.succ_mul]; omega)]
    have:=z9b r (fun y hy=>hl y (List.mem_cons_of_mem _ hy)) i j c x (by simpa using h) hx
    rw [← this]; congr 1; rw [Nat.succ_mul]; omega
def z8Q:Nat→List Value→List (Nat×Value)
 | _,[]=>[]
 | i,v::vs=>(i,v)::z8Q (i+1) vs
theorem z8O:∀ (xs ys:List Value) (arr:Array Value) (n:Nat),z4R (z4R arr n xs) (n+xs.length) ys=z4R arr n (xs++ys)
  | [],_,_,_=>rfl
  | x :: xs, ys, arr, n => by
    simp only [List.cons_append,z4R,List.length_cons]
    rw [← z8O xs ys,show n+1+xs.length=n+(xs.length+1) by omega]
theorem z8T (off:Nat):∀ (l:List Value) (i:Nat) (arr:Array Value),(l.zipIdx i).foldl (fun cs (c,j)=>cs.setIfInBounds (off+j) c) arr=z4R arr (off+i) l
  | [],_,_=>rfl
  | c :: l, i, arr => by
    simp only [List.zipIdx_cons,List.foldl_cons,z4R]
    rw [z8T off l (i+1)]; rfl
theorem zdJ {es:Nat}:∀ (vs:List Value) (i:Nat) (arr:Array Value),arr.size=(i+vs.length)*es→(∀ v∈vs,v.cells.size=es)→
    Instr.fill (fun i=>some (i*es,es)) arr (z8Q i vs)=some (z4R arr (i*es) (vs.flatMap fun v=>v.cells.toList))
  | [],i,arr,_,_=>rfl
  | v :: vs, i, arr, h, hv => by
    have h0:=hv v (List.mem_cons_self ..)
    simp only [List.length_cons] at h
    have hle:i*es+es≤arr.size:=by rw [h,← Nat.succ_mul]; exact Nat.mul_le_mul_right _ (by omega)
    simp only [z8Q,Instr.fill,h0]
    rw [if_neg (by simp; omega)]
    have hfold:v.cells.zipIdx.foldl (fun cs (x:Value×Nat)=>cs.setIfInBounds (i*es+x.2) x.1) arr=z4R arr (i*es) v.cells.toList:=by
      rw [← Array.foldl_toList,Array.toList_zipIdx]
      exact z8T (i*es) v.cells.toList 0 arr
    rw [hfold,zdJ vs (i+1) _ (by rw [z3M,h]; congr 1; omega) (fun x hx=>hv x (List.mem_cons_of_mem _ hx))]
    rw [List.flatMap_cons,← z8O,Array.length_toList,h0,Nat.succ_mul]
theorem t_lit {T el:TypeId} {n es:Nat} {parts:Array (Nat×Operand)} {z:Value} (vs:List Value) (hu:∀ w,(underlying T).run P w = .ok (.slice el) w)
    (hz:∀ w,(sizeOf el).run P w = .ok es w) (h0:∀ w,(zeroValue el).run P w = .ok z w) (hp:parts.toList.map (fun p=>(p.1,V.ev p.2))=(z8Q 0 vs).map (fun p=>(p.1,some p.2)))
    (hsz:n*es≤2 ^ 24) (hn24:n≤2 ^ 24) (hn:vs.length=n) (hv:∀ v∈vs,v.cells.size=es) :
    OpT P ⟨d,.buildSlice T n parts,ty,pos,af,g⟩ V H (fun v' H'=>H'=H++[row v' es (vs.map fun v=>v.cells.toList)]∧v'≠.slice none 0 0):=by
  intro ρ w o hf hbd hs
  obtain ⟨cells,hcells⟩ : ∃ cells,cells=vs.map fun v=>v.cells.toList:=⟨_,rfl⟩
  have hc:∀ c∈cells,c.length=es:=by
    intro c hc
    rw [hcells] at hc
    obtain ⟨v,hvm,rfl⟩:=List.mem_map.1 hc
    rw [Array.length_toList]; exact hv v hvm
  have hcl:cells.length=n:=by rw [hcells,List.length_map,hn]
  have hfill:Instr.fill (fun i=>some (i*es,es)) ((Array.range (n*es)).map (z.cells[· % z.cells.size]!)) (z8Q 0 vs)=some cells.flatten.toArray:=by
    have hfl:=z6q cells hc
    have hfm:(vs.flatMap fun v=>v.cells.toList)=cells.flatten:=by rw [hcells]; simp [List.flatMap]
    rw [zdJ vs 0 _ (by simp [hn]) hv,hfm]
    congr 1
    apply Array.ext_getElem?
    intro m
    rw [Nat.zero_mul,z4S _ _ _ _ (by simp [hfl,hcl])]
    by_cases hm:m<cells.flatten.length
    · rw [if_pos ⟨Nat.zero_le _,by omega⟩]; simp
    · rw [if_neg (by omega),Array.getElem?_eq_none (by simp; rw [hfl,hcl] at hm; omega),Array.getElem?_eq_none (by simp at hm ⊢; omega)]
  rw [← hcells]
  have hn':=z8a w (.cells cells.flatten.toArray el) w.drawn
  have hpv:parts.toList.map (fun x=>(x.fst,ρ x.snd))=z8Q 0 vs:=by
    generalize parts.toList=l at hp
    generalize z8Q 0 vs=pv at hp
    induction l generalizing pv with
    | nil=>cases pv <;> simp_all
    | cons p r ih =>
      cases pv with
      | nil=>simp at hp
      | cons q pv =>
        simp only [List.map_cons,List.cons.injEq,Prod.mk.injEq] at hp ⊢
        obtain ⟨⟨h1,h2⟩,h3⟩:=hp
        exact ⟨by rw [h1,hf _ _ h2],ih _ h3⟩
  have hrun:(execOp ρ ⟨d,.buildSlice T n parts,ty,pos,af,g⟩).run P w = .ok (.value (.slice (some ⟨w.heap.size,0,none⟩) n n)) { w with heap:=w.heap.push (.cells cells.flatten.toArray el) }:=by
    by_cases hne:n*es=0
    · rw [hne] at hfill
      simp [execOp,Instr.buildSlice,hu,hz,hne,hpv]
      have e0:Array.map (fun _=>(default:Value)) (Array.range 0)=(Array.range 0).map (z.cells[· % z.cells.size]!):=by apply Array.ext <;> simp
      rw [e0,hfill]
      simp [newRow]
    · simp [execOp,Instr.buildSlice,hu,hz,h0,Nat.not_lt.2 hsz,hne,hpv]
      simp [hfill,newRow]
  unfold Does
  rw [hrun]
  have hrow:RowIs { w with heap:=w.heap.push (.cells cells.flatten.toArray el) } (fun b=>z6V o w.heap.size H.length b = .mine H.length) (.slice (some ⟨w.heap.size,0,none⟩) n n) es cells:=by
    refine .inr ⟨w.heap.size,0,n,cells.flatten.toArray,el,(0,0),by rw [hcl],by simp [z6V],by simp,by simp,.inl (Nat.le_refl _),by simp [z6q cells hc,hcl],by omega,?_,hc,?_⟩
    · unfold maxLen; omega
    · intro i c hi j x hj
      rw [Nat.zero_add]
      simpa using z9b cells hc i j c x hi hj
  obtain ⟨h1,h2,h3⟩:=z7w (g:=row (.slice (some ⟨w.heap.size,0,none⟩) n n) es cells) hbd hn' hs hrow
  exact ⟨_,_,⟨rfl,by simp⟩,h1,h2,h3⟩
end writes
end Go.Abs
namespace Go.Abs
variable {k : List KI} {V : VF} {H : List HA}
theorem z2A.uni {w:World} {B:Nat→Prop} {v:Value} {es:Nat} {cells:List (List Value)} (h:z2A w B v es cells):∀ c∈cells,c.length=es:=by
 intro c hc
 obtain ⟨i,hi⟩:=List.getElem?_of_mem hc
 exact (h.elem hi).1
theorem z4w {P:Program} {w:World} {B:Nat→Prop} {v:Value} {es:Nat} {cells:List (List Value)} (h:z2A w B v es cells) :
    (Builtin.lenOf v).run P w = .ok cells.length w∧(Builtin.firstCells es cells.length v).run P w = .ok cells.flatten.toArray w:=by
  have hu:=h.uni
  have hl:=z6q cells hu
  cases hc:cells with
  | nil =>
    subst hc
    obtain ⟨a,cap,e1,_⟩:=h
    subst e1
    refine ⟨by simp [Builtin.lenOf],?_⟩
    cases a <;> simp [Builtin.firstCells,loadCells,loadCellsFrom]
  | cons c0 r =>
    rw [← hc]
    obtain ⟨_,b,off,cap,e1,_⟩:=h.elem (i:=0) (c:=c0) (by simp [hc])
    have hload:∀ (j:Nat) (x:Value),cells.flatten[j]? = some x→w.cell? ⟨b,off+j,none⟩=some x:=by
      intro j x hj
      obtain ⟨i,j',c,h1,h2,h3⟩:=zdL cells hu j x hj
      obtain ⟨_,b',off',cap',e3,e4⟩:=h.elem h1
      rw [e1] at e3
      simp only [Value.slice.injEq,Option.some.injEq,Addr.mk.injEq,and_true] at e3
      obtain ⟨⟨rfl,rfl⟩,_⟩:=e3
      have:=e4 j' x h2
      rw [h3,show off+(i*es+j')=off+i*es+j' by omega]
      exact this
    have:=z4e (P:=P) b off _ hload
    rw [hl] at this
    rw [e1]
    refine ⟨by simp [Builtin.lenOf],?_⟩
    simp only [Builtin.firstCells]
    exact this
def Src (P:Program) (H:List HA) (v:Value) (es:Nat) (new:List (List Value)):Prop:=
 (∀ c∈new,c.length=es∧∀ u∈c,u.oneCell'=true)∧
 ∀ w o,Sats w o H→(Builtin.lenOf v).run P w = .ok new.length w∧(Builtin.firstCells es new.length v).run P w = .ok new.flatten.toArray w
theorem zaT {P:Program} {v:Value} {es:Nat} {new:List (List Value)} {h:HA} (m:Nat) (hm:H[m]? = some h) (hr:Reads h v es new)
  (hc:∀ c∈new,c.length=es∧∀ u∈c,u.oneCell'=true):Src P H v es new:=
 ⟨hc,fun w o hs=>z4w (hr.is w o m (hs m h hm))⟩
theorem zo8 (l:List UInt8):∀ c∈u8c l,c.length=1∧∀ u∈c,u.oneCell'=true:=by
 intro c hc
 simp only [u8c,List.mem_map] at hc
 obtain ⟨b,_,rfl⟩:=hc
 simp [Value.oneCell']
theorem ziP (l:List UInt8):(u8c l).flatten=l.map fun b=>Value.int .u8 b.toNat:=by
 induction l with
 | nil=>rfl
 | cons b r ih=>simp only [u8c,List.map_cons,List.flatten_cons] at ih ⊢; rw [ih]; rfl
theorem zh3 {P:Program} (l:List UInt8):Src P H (.string (bs l)) 1 (u8c l):=by
 refine ⟨zo8 l,fun w o _=>⟨by simp [Builtin.lenOf,zae,u8c],?_⟩⟩
 have:(bs l).extract 0 l.length=bs l:=by
  rw [← zae l]; exact ByteArray.extract_zero_size
 simp [Builtin.firstCells,ziP,show (u8c l).length=l.length by simp [u8c],this]
 simp [bs]
theorem zeO {P:Program} {es:Nat}:Src P H (.slice none 0 0) es []:=
 ⟨fun c hc=>by simp at hc,fun w o _=>⟨by simp [Builtin.lenOf],by simp [Builtin.firstCells]⟩⟩
theorem zch {n:Nat}:∀ (r c:Nat),c≤n+(n+768) / 4→Builtin.growBy n r c≤n+(n+768) / 4
  | 0,c,h=>h
  | r + 1, c, h => by
    unfold Builtin.growBy
    split
    · exact h
    · exact zch r _ (by omega)
theorem zbf {n c:Nat} (h:c<n):Builtin.nextslicecap n c≤2*n+1000:=by
 unfold Builtin.nextslicecap
 split
 ·omega
 ·split
  ·omega
  ·have:=zch (n:=n) 4 c (by omega); omega
def dropO (x:Ow) (m:Nat):Ow:=match x with | .mine k=>if k=m then .no else .mine k | x=>x
theorem zdD {x:Ow} {m:Nat} (h:x≠.mine m):dropO x m=x:=by
  cases x with
  | mine k =>
    have:k≠m:=fun e=>h (e ▸ rfl)
    simp [dropO,this]
  | no=>rfl
  | far=>rfl
def zbr (o:Own) (b m:Nat):Own:=fun x=>if x=b then .mine m else dropO (o x) m
section append
variable {P : Program} {d : Option Nat} {ty : TypeId} {pos : String} {af : Array Edge} {g : Option (Nat × Bool)}
theorem zb0 (z:Array Value) (n:Nat):(Builtin.zeroCells z n).size=n*z.size:=by simp [Builtin.zeroCells]
theorem zaa {w w' : World} {M:Nat→Prop} {b off cap es:Nat} {arr:Array Value} {T:TypeId} {fz:Nat×Nat} {cells new:List (List Value)} (hM:M b) (hb:b<w'.heap.size)
  (hw:Wr w b (.cells (z4R arr (off+cells.length*es) new.flatten) T fz) w') (h5:fz.2≤fz.1∨arr.size≤fz.1) (h6:arr.size=off+cap*es) (h7:cells.length+new.length≤cap) (h8:cap≤maxLen)
  (h9:∀ c∈cells,c.length=es) (hn:∀ c∈new,c.length=es)
  (h10:∀ (i:Nat) (c:List Value),cells[i]? = some c→∀ (j:Nat) (x:Value),c[j]? = some x→arr[off+i*es+j]? = some x) :
  RowIs w' M (.slice (some ⟨b,off,none⟩) (cells.length+new.length) cap) es (cells++new):=by
 have hfl:=z6q new hn
 have hroom:off+cells.length*es+new.flatten.length≤arr.size:=by
  rw [hfl,h6,Nat.add_assoc,← Nat.add_mul]
  exact Nat.add_le_add_left (Nat.mul_le_mul_right _ h7) _
 refine .inr ⟨b,off,cap,_,T,fz,by simp,hM,hb,hw.here,by rw [z3M]; exact h5,by rw [z3M]; exact h6,by simpa using h7,h8,?_,?_⟩
 ·intro c hc
  rcases List.mem_append.1 hc with hc | hc
  ·exact h9 c hc
  ·exact hn c hc
 ·intro i c hi j x hj
  rw [z4S _ _ _ _ hroom]
  rw [List.getElem?_append] at hi
  split at hi
  ·rename_i hlt
   have hjl:j<es:=by have:=h9 c (List.mem_of_getElem? hi); have:=(List.getElem?_eq_some_iff.1 hj).1; omega
   have hle:(i+1)*es≤cells.length*es:=Nat.mul_le_mul_right _ hlt
   rw [Nat.succ_mul] at hle
   rw [if_neg (by omega)]
   exact h10 i c hi j x hj
  ·rename_i hge
   have hjl:j<es:=by have:=hn c (List.mem_of_getElem? hi); have:=(List.getElem?_eq_some_iff.1 hj).1; omega
   have hlt':=(List.getElem?_eq_some_iff.1 hi).1
   have e1:i*es=cells.length*es+(i - cells.length)*es:=by rw [← Nat.add_mul]; congr 1; omega
   have hle:(i - cells.length+1)*es≤new.length*es:=Nat.mul_le_mul_right _ hlt'
   rw [Nat.succ_mul] at hle
   rw [if_pos (by omega)]
   have:=z9b new hn (i - cells.length) j c x hi hj
   rw [← this]; congr 1; omega
theorem z7u {w:World} {M:Nat→Prop} {es c' : Nat} {T:TypeId} {z:Array Value} {cells new:List (List Value)} (hz:z.size=es) {w' : World}
  (hw:Nw w (.cells (cells.flatten.toArray++new.flatten.toArray++Builtin.zeroCells z (c' - (cells.length+new.length))) T) w') (hM:M w.heap.size) (hle:cells.length+new.length≤c') (h8:c'≤maxLen)
  (h9:∀ c∈cells,c.length=es) (hn:∀ c∈new,c.length=es) :
  RowIs w' M (.slice (some ⟨w.heap.size,0,none⟩) (cells.length+new.length) c') es (cells++new):=by
 have h1:=z6q cells h9
 have h2:=z6q new hn
 have hall:∀ c∈cells++new,c.length=es:=by
  intro c hc
  rcases List.mem_append.1 hc with hc | hc
  ·exact h9 c hc
  ·exact hn c hc
 refine .inr ⟨w.heap.size,0,c',_,T,(0,0),by simp,hM,by rw [hw.size]; omega,hw.here,.inl (Nat.le_refl _),?_,by simpa using hle,h8,hall,?_⟩
 ·simp only [Array.size_append,List.size_toArray,h1,h2,zb0,hz,Nat.zero_add]
  rw [← Nat.add_mul,← Nat.add_mul]; congr 1; omega
 ·intro i c hi j x hj
  have:=z9b (cells++new) hall i j c x hi hj
  rw [List.flatten_append] at this
  have hlt:=(List.getElem?_eq_some_iff.1 this).1
  rw [Nat.zero_add,Array.getElem?_append,if_pos (by simpa using hlt)]
  simpa using this
theorem z6B {a:Addr} {w:World}:(storeCells a []).run P w = .ok () w:=by simp [storeCells]
set_option maxHeartbeats 1000000 in
theorem z9P {Ts:Array TypeId} {T T2 el:TypeId} {ds2:TypeDesc} {es:Nat} {x y:Operand} {v vy z:Value} {ti:TypeInfo} {cells new:List (List Value)} (m:Nat)
  (hT:Ts[0]? = some T) (hu:∀ w,(underlying T).run P w = .ok (.slice el) w) (hT2:Ts[1]? = some T2) (hu2:∀ w,(underlying T2).run P w = .ok ds2 w) (hni:ds2 = .string∨∃ e,ds2 = .slice e)
  (hti:∀ w,(typeInfo el).run P w = .ok ti w) (hes:ti.size=es) (hby:ti.bytes≠0) (h0:∀ w,(zeroValue el).run P w = .ok z w) (hzs:z.cells.size=es)
  (hx:V.ev x=some v) (hm:H[m]? = some (row v es cells)) (hy:V.ev y=some vy) (hsrc:Src P H vy es new) (hcap:(2*(cells.length+new.length)+1000)*ti.bytes≤2 ^ 48) (hlen:cells.length+new.length≤maxLen) :
  OpT P ⟨d,.call ⟨.builtin .append,#[x,y],Ts⟩,ty,pos,af,g⟩ V H (fun v' H'=>H'=H.set m (row v' es (cells++new))):=by
 intro ρ w o hf hbd hs
 have hrow:=hs m _ hm
 have hsl:=RowIs.slice (B:=fun b=>o b = .mine m) (fun _ h=>h) hrow
 obtain ⟨hs1,hs2⟩:=z4w (P:=P) hsl
 have huni:=hsl.uni
 obtain ⟨hnew,hsrc⟩:=hsrc
 obtain ⟨hn1,hn2⟩:=hsrc w o hs
 have hnu:∀ c∈new,c.length=es:=fun c hc=>(hnew c hc).1
 have hone:∀ u∈new.flatten,u.oneCell'=true:=fun u hu=>by
  obtain ⟨c,hc,hu⟩:=List.mem_flatten.1 hu
  exact (hnew c hc).2 u hu
 obtain ⟨a,cap,e1,e2,e3,e4,_⟩:=id hsl
 have hsz:∀ w,(sizeOf el).run P w = .ok es w:=fun w=>by simp [sizeOf,hti,hes]
 -- the run
 by_cases hroom:cells.length+new.length≤cap
 · -- in place
  rcases hrow with ⟨r1,r2⟩ | ⟨b,off,cap',arr,T',fz,r1,r2,r3,r4,r5,r6,r7,r8,r9,r10⟩
  · -- nil: nothing is appended
   have hcap0:cap=0:=by obtain ⟨a',r1⟩:=r1; rw [e1] at r1; simp at r1; exact r1.2.2
   subst r2
   have hnil:new=[]:=by cases new with | nil=>rfl | cons _ _=>simp at hroom; omega
   subst hnil
   have hrun:(execOp ρ ⟨d,.call ⟨.builtin .append,#[x,y],Ts⟩,ty,pos,af,g⟩).run P w = .ok (.value v) w:=by
    rw [e1] at hx
    subst hcap0
    simp at hn1 hn2 hx
    cases a <;> rcases hni with rfl | ⟨e,rfl⟩ <;> simp [execOp,resolve,invoke,builtin,hf x _ hx,hf y _ hy,Builtin.append_,hT,hu,hT2,hu2,hsz,hn1,hn2,e1,z6B,Result.andThen]
   unfold Does
   rw [hrun]
   refine ⟨_,o,rfl,hbd,Tr.refl w o,?_⟩
   exact z3k (Nat.le_refl _) (fun b _ _=>⟨rfl,rfl⟩) hs (.inl ⟨r1,rfl⟩)
  ·have haa:a=some ⟨b,off,none⟩∧cap=cap':=by rw [e1] at r1; simp at r1; exact r1
   obtain ⟨rfl,rfl⟩:=haa
   have hfl:=z6q new hnu
   have hadd:(Addr.add ⟨b,off,none⟩ (cells.length*es))=⟨b,off+cells.length*es,none⟩:=by unfold Addr.add; split <;> simp_all
   obtain ⟨w',h2,h3⟩:=z4U (P:=P) new.flatten 0 arr w r4 r5 (off:=off+cells.length*es)
    (by rw [hfl,r6,Nat.add_zero,Nat.add_assoc,← Nat.add_mul]; exact Nat.add_le_add_left (Nat.mul_le_mul_right _ hroom) _) hone
   have hrun:(execOp ρ ⟨d,.call ⟨.builtin .append,#[x,y],Ts⟩,ty,pos,af,g⟩).run P w = .ok (.value (.slice (some ⟨b,off,none⟩) (cells.length+new.length) cap)) w':=by
    rw [e1] at hx
    rcases hni with rfl | ⟨e,rfl⟩ <;> simp [execOp,resolve,invoke,builtin,hf x _ hx,hf y _ hy,Builtin.append_,hT,hu,hT2,hu2,hsz,hn1,hn2,hroom,hadd,h2]
   unfold Does
   rw [hrun]
   refine ⟨_,o,rfl,fun b' hb'=>hbd b' (by rw [h3.size] at hb'; exact hb'),⟨h3.os,h3.tape,h3.output,by rw [h3.size]; exact Nat.le_refl _,fun b' hlt hb'=>⟨hb',h3.other b' ?_⟩,fun b' hlt hb'=>⟨hb',h3.other b' ?_⟩⟩,?_⟩
   ·rintro rfl; rw [r2] at hb'; cases hb'
   ·rintro rfl; rw [r2] at hb'; cases hb'
   ·refine z3k (by rw [h3.size]; exact Nat.le_refl _) (fun b' hlt hb'=>⟨rfl,h3.other b' ?_⟩) hs ?_
    ·rintro rfl; exact hb' r2
    ·exact zaa r2 (by rw [h3.size]; exact r3) (by simpa using h3) r5 r6 hroom r8 r9 hnu r10
 · -- a new block
  have hlt:cap<cells.length+new.length:=by omega
  have hnc:=zbf hlt
  have hbig:¬ Builtin.nextslicecap (cells.length+new.length) cap*ti.bytes > 2 ^ 48:=by
   have:Builtin.nextslicecap (cells.length+new.length) cap*ti.bytes≤(2*(cells.length+new.length)+1000)*ti.bytes:=Nat.mul_le_mul_right _ hnc
   omega
  have hq:(Question.appendCap (cells.length+new.length) cap el).forced=false:=rfl
  obtain ⟨c',hc'⟩ : ∃ c',c'=(Question.appendCap (cells.length+new.length) cap el).cut (w.tape w.drawn (Question.appendCap (cells.length+new.length) cap el)):=⟨_,rfl⟩
  have hc1:cells.length+new.length≤c':=by rw [hc']; simp only [Question.cut]; omega
  have hc2:c'≤maxLen:=by
   rw [hc']; simp only [Question.cut]; unfold maxLen at hlen ⊢
   have:w.tape w.drawn (Question.appendCap (cells.length+new.length) cap el) % (2 ^ 63 - (cells.length+new.length))<2 ^ 63 - (cells.length+new.length):=Nat.mod_lt _ (by omega)
   omega
  have hnw:Nw w (.cells (cells.flatten.toArray++new.flatten.toArray++Builtin.zeroCells z.cells (c' - (cells.length+new.length))) el)
    (w.drew.alloc (.cells (cells.flatten.toArray++new.flatten.toArray++Builtin.zeroCells z.cells (c' - (cells.length+new.length))) el)):=z8a w _ _
  have hs2' : (Builtin.firstCells es cells.length v).run P w.drew = .ok cells.flatten.toArray w.drew:=(z4w (P:=P) (w:=w.drew) hsl).2
  have hn2' : (Builtin.firstCells es new.length vy).run P w.drew = .ok new.flatten.toArray w.drew:=
   (hsrc w.drew o (fun j h hj=>h.keep (w:=w) (w':=w.drew) (Nat.le_refl _) (fun b _ hb=>⟨hb,rfl⟩) (fun b _ hb=>⟨hb,rfl⟩) (hs j h hj))).2
  have hrun:(execOp ρ ⟨d,.call ⟨.builtin .append,#[x,y],Ts⟩,ty,pos,af,g⟩).run P w = .ok (.value (.slice (some ⟨w.heap.size,0,none⟩) (cells.length+new.length) c'))
    (w.drew.alloc (.cells (cells.flatten.toArray++new.flatten.toArray++Builtin.zeroCells z.cells (c' - (cells.length+new.length))) el)):=by
   rw [e1] at hx hs2'
   rcases hni with rfl | ⟨e,rfl⟩ <;> simp [execOp,resolve,invoke,builtin,hf x _ hx,hf y _ hy,Builtin.append_,hT,hu,hT2,hu2,hsz,hn1,hroom,hti,hby,hbig,hq,← hc',hs2',hn2',h0,newRow] <;> (rw [← Array.append_assoc]; simp)
  unfold Does
  rw [hrun]
  have hne:∀ b,b<w.heap.size→o b≠.mine m→zbr o w.heap.size m b=o b:=fun b hlt hb=>by
   simp [zbr,Nat.ne_of_lt hlt,zdD hb]
  refine ⟨_,zbr o w.heap.size m,rfl,?_,?_,?_⟩
  ·intro b hb
   rw [hnw.size] at hb
   have:=hbd b (by omega)
   simp only [zbr]
   rw [if_neg (by omega),this]
   rfl
  ·refine ⟨hnw.os,hnw.tape,hnw.output,by rw [hnw.size]; omega,fun b hlt hb=>⟨?_,hnw.other b hlt⟩,fun b hlt hb=>⟨?_,hnw.other b hlt⟩⟩
   ·rw [hne b hlt (by rw [hb]; intro h; cases h)]; exact hb
   ·rw [hne b hlt (by rw [hb]; intro h; cases h)]; exact hb
  ·refine z3k (by rw [hnw.size]; omega) (fun b hlt hb=>⟨hne b hlt hb,hnw.other b hlt⟩) hs ?_
   exact z7u hzs hnw (by simp [zbr]) hc1 hc2 huni hnu
end append
end Go.Abs
namespace Go.Abs
variable {E : Env} {k : List KI} {V : VF} {H : List HA}
def Turn (H H' : List HA):Prop:=∀ w o,Bnd w o→Sats w o H→∃ o',Bnd w o'∧Tr w o w o'∧Sats w o' H'
theorem Rel.turn {H' : List HA} {a:Act} {w:World} (h:Turn H H') (r:Rel E V H a w):Rel E V H' a w:=by
 obtain ⟨h1,h2,h3,o,hb,ht,hs⟩:=r
 obtain ⟨o',hb',ht',hs'⟩:=h w o hb hs
 exact ⟨h1,h2,h3,o',hb',ht.trans ht',hs'⟩
theorem z9O {c:Code} {H' : List HA} (h:Turn H H') (hk:Run E c k V H'):Run E c k V H:=fun a w r=>hk a w (r.turn h)
theorem zaO {ops:Array Oper} {l:List Oper} {H' : List HA} (h:Turn H H') (hk:Ops E ops l k V H'):Ops E ops l k V H:=fun a w r=>hk a w (r.turn h)
theorem z9n {H' : List HA} (h:Turn H H') (hk:Goes E k V H'):Goes E k V H:=fun a w r=>hk a w (r.turn h)
def za7 (o:Own) (m:Nat):Own:=fun b=>dropO (o b) m
theorem zah {o:Own} {m b:Nat} (h:o b = .mine m):za7 o m b = .no:=by simp [za7,h,dropO]
theorem zfC {o:Own} {m b:Nat} (h:o b≠.mine m):za7 o m b=o b:=by simp [za7,zdD h]
theorem zcG {m:Nat} {h:HA} {g:HA} (hm:H[m]? = some h) (hg:∀ w o,h.p w o m→g.p w (za7 o m) m):Turn H (H.set m g):=by
 intro w o hb hs
 refine ⟨za7 o m,fun b hle=>by simp [za7,hb b hle,dropO],⟨rfl,rfl,rfl,Nat.le_refl _,fun b _ ho=>⟨?_,rfl⟩,fun b _ ho=>⟨?_,rfl⟩⟩,?_⟩
 ·simp [za7,ho,dropO]
 ·simp [za7,ho,dropO]
 ·exact z3k (Nat.le_refl _) (fun b _ hne=>⟨zfC hne,rfl⟩) hs (hg w o (hs m h hm))
theorem freeze (m:Nat) {v:Value} {es:Nat} {cells:List (List Value)} (hm:H[m]? = some (row v es cells)):Turn H (H.set m (ro v es cells)):=
 zcG hm fun _ _ hp=>z2A.keep (Nat.le_refl _) (fun _ _ hb=>⟨zah hb,rfl⟩) (RowIs.slice (fun _ hb=>hb) hp)
theorem z6x {g:HA} (hg:∀ w o,Sats w o H→g.p w o H.length):Turn H (H++[g]):=by
 intro w o hb hs
 refine ⟨o,hb,Tr.refl w o,?_⟩
 intro j h hj
 rw [List.getElem?_append] at hj
 split at hj
 ·exact hs j h hj
 ·rename_i hlt
  have h0:j - H.length=0:=by
   by_cases h0:j - H.length=0
   ·exact h0
   ·rw [show j - H.length=(j - H.length - 1)+1 by omega] at hj; simp at hj
  rw [h0] at hj
  simp at hj
  subst hj
  obtain rfl:j=H.length:=by omega
  exact hg w o hs
theorem nilrow (es:Nat):Turn H (H++[row (.slice none 0 0) es []]):=z6x fun _ _ _=>.inl ⟨⟨none,rfl⟩,rfl⟩
theorem nilro (es:Nat):Turn H (H++[ro (.slice none 0 0) es []]):=z6x fun _ _ _=>⟨none,0,rfl,Nat.le_refl _,Nat.zero_le _,fun _=>rfl,fun i c hi=>by simp at hi⟩
def roc (v:Value) (es:Nat) (cells:List (List Value)):HA:=
 ⟨fun w o _=>z2A w (fun b=>o b = .no) v es cells∧∃ a,v = .slice a cells.length cells.length,fun hs _ h2 hc=>⟨hc.1.keep hs h2,hc.2⟩⟩
def Bd (V:VF) (x:Option Operand) (dflt n:Nat):Prop:=(x=none∧n=dflt)∨∃ y kd,x=some y∧V.ev y=some (.int kd (n:Int))
theorem z82 {P:Program} {w:World} {kd:IntKind} {n m:Nat} {c:BoundsCode} (h:n≤m):(Instr.sliceBound (.int kd (n:Int)) m c).run P w = .ok n w:=by
 simp [Instr.sliceBound,asIntOf,h]
theorem z2A.sub {w:World} {B:Nat→Prop} {a:Option Addr} {n cap es:Nat} {cells:List (List Value)} (h:z2A w B (.slice a n cap) es cells) {l r mx:Nat} (h1:l≤r) (h2:r≤cells.length) (h3:r≤mx) (h4:mx≤cap) :
  z2A w B (.slice (if mx=l then a else a.map (·.add (l*es))) (r - l) (mx - l)) es ((cells.take r).drop l):=by
 obtain ⟨a',cap',e1,e2,e3,e4,e5⟩:=h
 simp only [Value.slice.injEq] at e1
 obtain ⟨rfl,rfl,rfl⟩:=e1
 have hlen:((cells.take r).drop l).length=r - l:=by simp; omega
 refine ⟨_,mx - l,by rw [hlen],by rw [hlen]; omega,by omega,?_,?_⟩
 ·intro hn
  have:a=none:=by
   split at hn
   ·exact hn
   ·simpa using hn
  have:=e4 this
  omega
 ·intro i c hi
  have hi' : cells[l+i]? = some c:=by
   rw [List.getElem?_drop,List.getElem?_take] at hi
   split at hi
   ·exact hi
   ·simp at hi
  have hlt:i<r - l:=by
   have:=(List.getElem?_eq_some_iff.1 hi).1
   omega
  obtain ⟨f1,b,off,f2,f3,f4,f5⟩:=e5 (l+i) c hi'
  refine ⟨f1,b,off+l*es,?_,f3,f4,fun j x hj=>?_⟩
  ·rw [if_neg (by omega),f2]
   simp only [Option.map_some,Addr.add]
   split
   ·rename_i h0; rw [h0]; rfl
   ·rfl
  ·have:=f5 j x hj
   rw [← this,Nat.add_mul]; congr 2; omega
section slices
variable {P : Program} {d : Option Nat} {ty : TypeId} {pos : String} {af : Array Edge} {g : Option (Nat × Bool)}
theorem z9q {T el:TypeId} {ρ:Operand→Value} {w:World} {lo hi mx:Option Operand} {a:Option Addr} {n cap es l r:Nat} (hu:∀ w,(underlying T).run P w = .ok (.slice el) w)
  (hz:∀ w,(sizeOf el).run P w = .ok es w) (hf:Fits V ρ) (hl:Bd V lo 0 l) (hr:Bd V hi n r) (hm:mx=none) (h1:l≤r) (h2:r≤n) (h3:n≤cap) :
  (Instr.sliceAt T (.slice a n cap) (lo.map ρ) (hi.map ρ) (mx.map ρ)).run P w = .ok (.slice (if cap=l then a else a.map (·.add (l*es))) (r - l) (cap - l)) w:=by
 subst hm
 rcases hl with ⟨rfl,rfl⟩ | ⟨y,kd,rfl,hy⟩ <;> rcases hr with ⟨rfl,rfl⟩ | ⟨y',kd',rfl,hy'⟩ <;>
  simp [Instr.sliceAt,Instr.slice,hu,hz,Instr.sliceBounds]
 ·rw [hf _ _ hy',z82 (by omega)]; simp
 ·rw [hf _ _ hy,z82 (by omega)]; simp
 ·rw [hf _ _ hy',z82 (by omega)]; simp; rw [hf _ _ hy,z82 (by omega)]; simp
end slices
def HA.Strict (g:HA):Prop:=∀ w o k o' k',(∀ b,b<w.heap.size→o b = .mine k→o' b = .mine k')→g.p w o k→g.p w o' k'
theorem zeX {v:Value} {es:Nat} {cells:List (List Value)}:(row v es cells).Strict:=
 fun _ _ _ _ _ h hp=>RowIs.keep (Nat.le_refl _) (fun b hlt hb=>⟨h b hlt hb,rfl⟩) hp
theorem zeV {b:Nat} {vs:List Value}:(box b vs).Strict:=
 fun _ _ _ _ _ h ⟨e1,e2,e3⟩=>⟨h b e2 e1,e2,e3⟩
def Views (h' h:HA) (look:Bool):Prop:=∀ w o m oc j,(∀ b,b<w.heap.size→o b = .no→oc b = .no)→(look=true→∀ b,b<w.heap.size→o b = .mine m→oc b = .no)→h'.p w o m→h.p w oc j
theorem z7z {v:Value} {es:Nat} {cells:List (List Value)}:Views (ro v es cells) (ro v es cells) false:=
 fun _ _ _ _ _ h _ hp=>z2A.keep (Nat.le_refl _) (fun b hlt hb=>⟨h b hlt hb,rfl⟩) hp
theorem z7A {v:Value} {es:Nat} {cells:List (List Value)}:Views (row v es cells) (ro v es cells) true:=
 fun _ _ _ _ _ _ h hp=>z2A.keep (Nat.le_refl _) (fun b hlt hb=>⟨h rfl b hlt hb,rfl⟩) (RowIs.slice (fun _ hb=>hb) hp)
end Go.Abs
namespace Go.Abs
theorem z77 {x:Int} (h1 : -9223372036854775808≤x) (h2:x≤9223372036854775807):IntKind.i64.wrap x=x:=by
 unfold IntKind.wrap
 simp only [IntKind.signed,IntKind.bits]
 simp
 omega
theorem zfb {x:Int} (h1:0≤x) (h2:x≤18446744073709551615):IntKind.u64.wrap x=x:=by
 unfold IntKind.wrap
 simp only [IntKind.signed,IntKind.bits]
 simp
 omega
theorem zh9 (x:Int):IntKind.u8.wrap x=x % 256:=by
 unfold IntKind.wrap
 simp only [IntKind.signed,IntKind.bits]
 simp
theorem qv64 {x:Int} (h1 : -9223372036854775808≤x) (h2:x≤9223372036854775807):Value.int .i64 (IntKind.i64.wrap x) = .int .i64 x:=by rw [z77 h1 h2]
variable {V : VF} {H : List HA}
theorem vnil:∀ x∈([]:List (Nat×Value)),V x.1=some x.2:=fun _ h=>by simp at h
theorem vcons {t:Nat} {v:Value} {l:List (Nat×Value)} (h:V t=some v) (hl:∀ x∈l,V x.1=some x.2):∀ x∈(t,v)::l,V x.1=some x.2:=by
 intro x hx
 rcases List.mem_cons.1 hx with rfl | hx
 ·exact h
 ·exact hl x hx
theorem qv1 {t0:Nat} {a0:Value} (h0:V t0=some a0):∀ x∈[(t0,a0)],V x.1=some x.2:=vcons h0 (vnil)
theorem qv2 {t0 t1:Nat} {a0 a1:Value} (h0:V t0=some a0) (h1:V t1=some a1):∀ x∈[(t0,a0),(t1,a1)],V x.1=some x.2:=vcons h0 (vcons h1 (vnil))
theorem qv3 {t0 t1 t2:Nat} {a0 a1 a2:Value} (h0:V t0=some a0) (h1:V t1=some a1) (h2:V t2=some a2):∀ x∈[(t0,a0),(t1,a1),(t2,a2)],V x.1=some x.2:=vcons h0 (vcons h1 (vcons h2 (vnil)))
theorem qv4 {t0 t1 t2 t3:Nat} {a0 a1 a2 a3:Value} (h0:V t0=some a0) (h1:V t1=some a1) (h2:V t2=some a2) (h3:V t3=some a3):∀ x∈[(t0,a0),(t1,a1),(t2,a2),(t3,a3)],V x.1=some x.2:=vcons h0 (vcons h1 (vcons h2 (vcons h3 (vnil))))
theorem qv5 {t0 t1 t2 t3 t4:Nat} {a0 a1 a2 a3 a4:Value} (h0:V t0=some a0) (h1:V t1=some a1) (h2:V t2=some a2) (h3:V t3=some a3) (h4:V t4=some a4):∀ x∈[(t0,a0),(t1,a1),(t2,a2),(t3,a3),(t4,a4)],V x.1=some x.2:=vcons h0 (vcons h1 (vcons h2 (vcons h3 (vcons h4 (vnil)))))
theorem qv6 {t0 t1 t2 t3 t4 t5:Nat} {a0 a1 a2 a3 a4 a5:Value} (h0:V t0=some a0) (h1:V t1=some a1) (h2:V t2=some a2) (h3:V t3=some a3) (h4:V t4=some a4) (h5:V t5=some a5):∀ x∈[(t0,a0),(t1,a1),(t2,a2),(t3,a3),(t4,a4),(t5,a5)],V x.1=some x.2:=vcons h0 (vcons h1 (vcons h2 (vcons h3 (vcons h4 (vcons h5 (vnil))))))
theorem qv7 {t0 t1 t2 t3 t4 t5 t6:Nat} {a0 a1 a2 a3 a4 a5 a6:Value} (h0:V t0=some a0) (h1:V t1=some a1) (h2:V t2=some a2) (h3:V t3=some a3) (h4:V t4=some a4) (h5:V t5=some a5) (h6:V t6=some a6):∀ x∈[(t0,a0),(t1,a1),(t2,a2),(t3,a3),(t4,a4),(t5,a5),(t6,a6)],V x.1=some x.2:=vcons h0 (vcons h1 (vcons h2 (vcons h3 (vcons h4 (vcons h5 (vcons h6 (vnil)))))))
theorem qv8 {t0 t1 t2 t3 t4 t5 t6 t7:Nat} {a0 a1 a2 a3 a4 a5 a6 a7:Value} (h0:V t0=some a0) (h1:V t1=some a1) (h2:V t2=some a2) (h3:V t3=some a3) (h4:V t4=some a4) (h5:V t5=some a5) (h6:V t6=some a6) (h7:V t7=some a7):∀ x∈[(t0,a0),(t1,a1),(t2,a2),(t3,a3),(t4,a4),(t5,a5),(t6,a6),(t7,a7)],V x.1=some x.2:=vcons h0 (vcons h1 (vcons h2 (vcons h3 (vcons h4 (vcons h5 (vcons h6 (vcons h7 (vnil))))))))
theorem qv9 {t0 t1 t2 t3 t4 t5 t6 t7 t8:Nat} {a0 a1 a2 a3 a4 a5 a6 a7 a8:Value} (h0:V t0=some a0) (h1:V t1=some a1) (h2:V t2=some a2) (h3:V t3=some a3) (h4:V t4=some a4) (h5:V t5=some a5) (h6:V t6=some a6) (h7:V t7=some a7) (h8:V t8=some a8):∀ x∈[(t0,a0),(t1,a1),(t2,a2),(t3,a3),(t4,a4),(t5,a5),(t6,a6),(t7,a7),(t8,a8)],V x.1=some x.2:=vcons h0 (vcons h1 (vcons h2 (vcons h3 (vcons h4 (vcons h5 (vcons h6 (vcons h7 (vcons h8 (vnil)))))))))
theorem qv10 {t0 t1 t2 t3 t4 t5 t6 t7 t8 t9:Nat} {a0 a1 a2 a3 a4 a5 a6 a7 a8 a9:Value} (h0:V t0=some a0) (h1:V t1=some a1) (h2:V t2=some a2) (h3:V t3=some a3) (h4:V t4=some a4) (h5:V t5=some a5) (h6:V t6=some a6) (h7:V t7=some a7) (h8:V t8=some a8) (h9:V t9=some a9):∀ x∈[(t0,a0),(t1,a1),(t2,a2),(t3,a3),(t4,a4),(t5,a5),(t6,a6),(t7,a7),(t8,a8),(t9,a9)],V x.1=some x.2:=vcons h0 (vcons h1 (vcons h2 (vcons h3 (vcons h4 (vcons h5 (vcons h6 (vcons h7 (vcons h8 (vcons h9 (vnil))))))))))
theorem qv11 {t0 t1 t2 t3 t4 t5 t6 t7 t8 t9 t10:Nat} {a0 a1 a2 a3 a4 a5 a6 a7 a8 a9 a10:Value} (h0:V t0=some a0) (h1:V t1=some a1) (h2:V t2=some a2) (h3:V t3=some a3) (h4:V t4=some a4) (h5:V t5=some a5) (h6:V t6=some a6) (h7:V t7=some a7) (h8:V t8=some a8) (h9:V t9=some a9) (h10:V t10=some a10):∀ x∈[(t0,a0),(t1,a1),(t2,a2),(t3,a3),(t4,a4),(t5,a5),(t6,a6),(t7,a7),(t8,a8),(t9,a9),(t10,a10)],V x.1=some x.2:=vcons h0 (vcons h1 (vcons h2 (vcons h3 (vcons h4 (vcons h5 (vcons h6 (vcons h7 (vcons h8 (vcons h9 (vcons h10 (vnil)))))))))))
theorem qv12 {t0 t1 t2 t3 t4 t5 t6 t7 t8 t9 t10 t11:Nat} {a0 a1 a2 a3 a4 a5 a6 a7 a8 a9 a10 a11:Value} (h0:V t0=some a0) (h1:V t1=some a1) (h2:V t2=some a2) (h3:V t3=some a3) (h4:V t4=some a4) (h5:V t5=some a5) (h6:V t6=some a6) (h7:V t7=some a7) (h8:V t8=some a8) (h9:V t9=some a9) (h10:V t10=some a10) (h11:V t11=some a11):∀ x∈[(t0,a0),(t1,a1),(t2,a2),(t3,a3),(t4,a4),(t5,a5),(t6,a6),(t7,a7),(t8,a8),(t9,a9),(t10,a10),(t11,a11)],V x.1=some x.2:=vcons h0 (vcons h1 (vcons h2 (vcons h3 (vcons h4 (vcons h5 (vcons h6 (vcons h7 (vcons h8 (vcons h9 (vcons h10 (vcons h11 (vnil))))))))))))
theorem qw6 {t0 t1 t2 t3 t4 t5:Nat} {a0 a1 a2 a3 a4 a5:Value} {l:List (Nat×Value)} (h0:V t0=some a0) (h1:V t1=some a1) (h2:V t2=some a2) (h3:V t3=some a3) (h4:V t4=some a4) (h5:V t5=some a5) (hl:∀ x∈l,V x.1=some x.2):∀ x∈(t0,a0)::(t1,a1)::(t2,a2)::(t3,a3)::(t4,a4)::(t5,a5)::l,V x.1=some x.2:=vcons h0 (vcons h1 (vcons h2 (vcons h3 (vcons h4 (vcons h5 (hl))))))
theorem zaV {v:Value} {es:Nat} {cells:List (List Value)}:Views (roc v es cells) (ro v es cells) false:=
 fun _ _ _ _ _ h _ hp=>z2A.keep (Nat.le_refl _) (fun b hlt hb=>⟨h b hlt hb,rfl⟩) hp.1
theorem z9N {P:Program} {w:World} {T:TypeId} (hu:∀ w,(underlying T).run P w = .ok .bool w) (d:Nat) (a b:Bool):(Op.equalIn (d+1) T (.bool a) (.bool b)).run P w = .ok (a == b) w:=by
 simp [Op.equalIn,hu]
theorem z8K {P:Program} {w:World} {T:TypeId} (hu:∀ w,(underlying T).run P w = .ok .bool w) (a b:Bool):(Op.equal T (.bool a) (.bool b)).run P w = .ok (a == b) w:=
 z9N hu 9999 a b
theorem zoh {P:Program} {d:Option Nat} {ty:TypeId} {pos:String} {af:Array Edge} {g:Option (Nat×Bool)} {T U:TypeId} {x y:Operand} {a b:Bool} (hu:∀ w,(underlying T).run P w = .ok .bool w) (hx:V.ev x=some (.bool a)) (hy:V.ev y=some (.bool b)) :
 OpY P ⟨d,.binOp .eql T x y U,ty,pos,af,g⟩ V H (.bool (a == b)):=y_bin hx hy rfl (fun w=>by simp [binOp,z8K hu])
theorem zoi {P:Program} {d:Option Nat} {ty:TypeId} {pos:String} {af:Array Edge} {g:Option (Nat×Bool)} {T U:TypeId} {x y:Operand} {a b:Bool} (hu:∀ w,(underlying T).run P w = .ok .bool w) (hx:V.ev x=some (.bool a)) (hy:V.ev y=some (.bool b)) :
 OpY P ⟨d,.binOp .neq T x y U,ty,pos,af,g⟩ V H (.bool (!(a == b))):=y_bin hx hy rfl (fun w=>by simp [binOp,z8K hu])
end Go.Abs
namespace Go.Abs
variable {P : Program} {ops : Array Oper} {Q : Exit → Act → World → Prop} {r : Option Nat}
def zgN:Op→Bool
 | .defer _=>true
 | _=>false
def noDef:Option Nat→Array Oper→Bool
 | none,_=>true
 | some _,ops=>ops.toList.all fun o=>!zgN o.op
theorem noDef.semAt (h:noDef r ops=true) {o:Oper} {i:Nat} (ho:ops[i]? = some o) (ρ:Operand→Value):o.semAt r ρ=execOp ρ o:=by
  cases r with
  | none=>rfl
  | some l =>
    refine Oper.semAt_eq _ ρ o fun c hc=>?_
    have hm:o∈ops.toList:=Array.mem_toList_iff.2 (Array.mem_of_getElem? ho)
    have:=List.all_eq_true.1 h o hm
    rw [hc] at this
    simp [zgN] at this
theorem zl4 {o:Oper} {a:Act} {w:World} {K:Act→World→Prop} (hs:o.semAt r a.eval=execOp a.eval o) (h:o.wp P a w K Q):o.wpIn (FR r) 0 P a w K Q:=by
  unfold Oper.wp at h
  unfold Oper.wpIn
  refine ⟨fun _ _=>trivial,?_⟩
  show o.uponIn (FR r) 0 P a K Q ((o.semAt r a.eval).run P w)
  rw [hs]
  generalize (execOp a.eval o).run P w=x at *
  cases x with
  | ok n w' =>
    cases n <;> simp only [Oper.upon,Oper.uponIn] at h ⊢ <;>
      first
        | exact h
        | exact ⟨(fun h=>nomatch h),CallsIn.mono (F:=FR r) (callsIn_wide.2 h) (fun e w'' he=>by cases e <;> exact he)⟩
        | exact ⟨(fun h=>nomatch h),fun c cs _=>let ⟨v,w',hr,hs⟩:=h c cs; ⟨v,w',hr,stepsIn_wide.2 hs⟩⟩
  | halt x w'=>cases x <;> simp only [Oper.upon,Oper.uponIn] at h ⊢ <;> exact h
theorem zaX (hl:¬ LetsOut Q) (hd:noDef r ops=true):∀ (l:List Nat) (a:Act) (w:World),wpOps P ops Q l a w→wpOpsIn (FR r) 0 P ops Q l a w
  | [],_,_,h=>h
  | i :: rest, a, w, h => by
    unfold wpOps at h
    unfold wpOpsIn
    cases ho:ops[i]? with
    | none=>simp only [ho] at h ⊢; exact zaX hl hd rest a w h
    | some o =>
      simp only [ho] at h ⊢
      split
      · rename_i hw
        rw [if_pos hw] at h
        rcases h with h | ⟨_,h⟩
        · exact Oper.wpIn_mono (fun a w=>zaX hl hd rest a w) (zl4 (noDef.semAt hd ho _) h)
        · exact absurd h hl
      · rename_i hw
        rw [if_neg hw] at h
        exact ⟨fun _ _=>trivial,zaX hl hd rest _ w h⟩
theorem zf7 (hl:¬ LetsOut Q) (hd:noDef r ops=true) {id:Nat} {a:Act} {w:World} (hm:P.follows .mixedOrders=true)
  (h:wpAny P .any ops Q ops.size (Array.replicate ops.size false) a w.drew):(Code.region id ops true).wpIn (FR r) 0 P Q a w:=
 wpIn_region_draw fun t=>by
  simp only [Region.schedule,hm,Bool.true_or,if_true]
  exact zaX hl hd _ a _ (wpAny_sound ops.size t _ a _ h)
theorem zf9 (hl:¬ LetsOut Q) (hd:noDef r ops=true) {id:Nat} {a:Act} {w:World} (hm:P.follows .mixedOrders=true) (hB:Region.lexB .any ops=true)
  (h:wpStill P ops w.drew (fun a'=>Q .normal a' w.drew) ops.toList a):(Code.region id ops true).wpIn (FR r) 0 P Q a w:=by
 simp only [Region.lexB,Bool.and_eq_true] at hB
 refine zf7 hl hd hm (wpAny_of_still (Q:=fun a'=>Q .normal a' w.drew) (fun _ h=>h) _ _ _ ?_)
 have:=wpAnyS_lex (md:=.any) hB.1 ops.toList 0 (Array.replicate ops.size false) a (by simp) (by simpa using hB.2) h
 simpa using this
theorem zb1 {E:Env}:∀ (k:List KI),¬ LetsOut (Qof E k)
 | [],⟨a,w,h⟩=>E.no a w h
 | .code _::k,⟨a,w,h⟩=>zb1 k ⟨a,w,h⟩
 | .blk _::k,⟨a,w,h⟩=>zb1 k ⟨a,w,h⟩
 | .scope::k,⟨a,w,h⟩=>zb1 k ⟨a,w,h⟩
 | .loop _::k,⟨a,w,h⟩=>zb1 k ⟨a,w,h⟩
section
variable {S : World → Prop} {T : Array Bool → World → Prop}
def wpOpI (r:Option Nat) (P:Program) (ops:Array Oper) (Q:Exit→Act→World→Prop) (i:Nat) (K:Act→World→Prop) (a:Act) (w:World):Prop:=
 match ops[i]? with
 | none=>K a w
 | some o=>if Region.wanted o (yielded ops a.tmps) then o.uponIn (FR r) 0 P a K Q ((execOp a.eval o).run P w) else K (a.put o.dst undef) w
theorem zd3 {o:Oper} {a:Act} {K K' : Act→World→Prop} (h:∀ a w,K a w→K' a w):∀ {x:Result Next},o.uponIn (FR r) 0 P a K Q x→o.uponIn (FR r) 0 P a K' Q x:=by
  intro x hh
  cases x with
  | ok n w' =>
    cases n <;> simp only [Oper.uponIn] at hh ⊢
    case value u=>exact h _ _ hh
    case skip=>exact h _ _ hh
    case defer d=>exact h _ _ hh
    case enter f args=>exact ⟨hh.1,CallsIn.mono hh.2 fun e w'' he=>by cases e <;> first | exact h _ _ he | exact he⟩
    case row row args=>exact ⟨hh.1,RowsIn.mono hh.2 fun u w'' he=>h _ _ he⟩
    case round l f tmps assign body=>exact ⟨hh.1,RoundIn.mono hh.2 fun e w'' he=>by cases e <;> first | exact h _ _ he | exact he⟩
  | halt x w'=>cases x <;> simp only [Oper.uponIn] at hh ⊢ <;> exact hh
theorem z8N {i:Nat} {K K' : Act→World→Prop} {a:Act} {w:World} (h:∀ a w,K a w→K' a w) (hh:wpOpI r P ops Q i K a w):wpOpI r P ops Q i K' a w:=by
  unfold wpOpI at *
  cases ho:ops[i]? with
  | none=>simp only [ho] at hh ⊢; exact h _ _ hh
  | some o =>
    simp only [ho] at hh ⊢
    split
    · rename_i hw; rw [if_pos hw] at hh; exact zd3 h hh
    · rename_i hw; rw [if_neg hw] at hh; exact h _ _ hh
def z6U (r:Option Nat) (P:Program) (ops:Array Oper) (Q:Exit→Act→World→Prop) (T:Array Bool→World→Prop):Nat→Array Bool→Act→World→Prop
  | 0,listed,a,w=>Region.ready .any ops listed=[]∧Q .normal a w
  | fuel + 1, listed, a, w =>
    (Region.ready .any ops listed=[]→Q .normal a w)∧
    ∀ i∈Region.ready .any ops listed,wpOpI r P ops Q i (fun a' w'=>T (listed.setIfInBounds i true) w'∧z6U r P ops Q T fuel (listed.setIfInBounds i true) a' w') a w
theorem zbR (hd:noDef r ops=true):∀ (fuel t:Nat) (listed:Array Bool) (a:Act) (w:World),z6U r P ops Q T fuel listed a w→
    wpOpsIn (FR r) 0 P ops Q (Region.linearise.go .any ops fuel t listed []) a w:=by
  intro fuel
  induction fuel with
  | zero=>intro t listed a w h; simpa [Region.linearise.go,wpOpsIn] using h.2
  | succ fuel ih =>
    intro t listed a w h
    obtain ⟨h₀,h₁⟩:=h
    simp only [Region.linearise.go]
    change wpOpsIn (FR r) 0 P ops Q (match (Region.ready .any ops listed)[t % (Region.ready .any ops listed).length]? with
      | some i=>Region.linearise.go .any ops fuel (t / (Region.ready .any ops listed).length) (listed.setIfInBounds i true) [i]
      | none=>[].reverse) a w
    cases hi:(Region.ready .any ops listed)[t % (Region.ready .any ops listed).length]? with
    | none =>
      have hnil:Region.ready .any ops listed=[]:=by
        cases hr:Region.ready .any ops listed with
        | nil=>rfl
        | cons x xs =>
          rw [hr] at hi
          have hlt:t % (x::xs).length<(x::xs).length:=Nat.mod_lt _ (by simp)
          simp at hi
          simp at hlt
          omega
      simpa [wpOpsIn] using h₀ hnil
    | some i =>
      simp only []
      rw [linearise_go_acc,List.reverse_singleton,List.singleton_append]
      have h2:=z8N (fun a w (h:T (listed.setIfInBounds i true) w∧z6U r P ops Q T fuel (listed.setIfInBounds i true) a w)=>ih (t / (Region.ready .any ops listed).length) _ a w h.2) (h₁ i (List.mem_of_getElem? hi))
      unfold wpOpI at h2
      unfold wpOpsIn
      cases ho:ops[i]? with
      | none=>simp only [ho] at h2 ⊢; exact h2
      | some o =>
        simp only [ho] at h2 ⊢
        split
        · rename_i hw
          rw [if_pos hw] at h2
          unfold Oper.wpIn
          refine ⟨fun _ _=>trivial,?_⟩
          have:=noDef.semAt hd ho a.eval
          show o.uponIn (FR r) 0 P a _ Q ((o.semAt r a.eval).run P w)
          rw [this]; exact h2
        · rename_i hw
          rw [if_neg hw] at h2
          exact ⟨fun _ _=>trivial,h2⟩
theorem zaW (hd:noDef r ops=true) {id:Nat} {a:Act} {w:World} (hm:P.follows .mixedOrders=true)
  (h:z6U r P ops Q T ops.size (Array.replicate ops.size false) a w.drew):(Code.region id ops true).wpIn (FR r) 0 P Q a w:=
 wpIn_region_draw fun t=>by
  simp only [Region.schedule,hm,Bool.true_or,if_true]
  exact zbR hd ops.size t _ a _ h
theorem zcK {i:Nat} {o:Oper} {v:Value} {a:Act} (hi:ops[i]? = some o) (hy:YieldsIf P ops S o v a)
  {K:Act→World→Prop} {w:World} (hS:S w) (h:K (a.put o.dst v) w):wpOpI r P ops Q i K a w:=by
 unfold Go.Abs.wpOpI
 simp only [hi]
 rcases hy with ⟨hw,hv⟩ | ⟨hw,rfl⟩
 ·simp only [hw,if_true,hv w hS,Oper.uponIn]; exact h
 ·simp only [hw,Bool.false_eq_true,if_false]; exact h
theorem zd6 {j:Nat} {oi oj:Oper} {v:Value} (hj:ops[j]? = some oj) (hap:oi.apart ops oj=true)
    (hsi:∀ cs b,oi.op≠.select cs b) (hsj:∀ cs b,oj.op≠.select cs b)
    (hQ:∀ c a w,Q (.panic c) (a.put oi.dst v) w→Q (.panic c) a w) {K:Act→World→Prop} {a:Act} {w:World}
    (hy:YieldsIf P ops S oi v a) (h:wpOpI r P ops Q j K (a.put oi.dst v) w) :
    wpOpI r P ops Q j (fun a' w'=>YieldsIf P ops S oi v a'∧K (a'.put oi.dst v) w') a w:=by
  obtain ⟨h1,h2,h3⟩:=Oper.apart_spec hap
  have keep:∀ (a:Act),YieldsIf P ops S oi v a→∀ u,YieldsIf P ops S oi v (a.put oj.dst u):=fun a hy u=>
    hy.of_same (execOp_put oi hsi a oj.dst u h3) (wanted_put oi a oj.dst u h3)
  have keepD:∀ d,YieldsIf P ops S oi v { a with defers:=d::a.defers }:=fun d=>hy.of_same rfl rfl
  unfold wpOpI at *
  simp only [hj] at *
  rw [wanted_put oj a oi.dst v h1] at h
  split
  · rename_i hw
    simp only [hw,if_true] at h
    rw [execOp_put oj hsj a oi.dst v h1] at h
    generalize (execOp a.eval oj).run P w=x at *
    cases x with
    | ok n w' =>
      cases n <;> simp only [Oper.uponIn] at h ⊢
      case value u=>exact ⟨keep a hy u,by rw [← Act.put_comm a v u h2]; exact h⟩
      case skip=>exact ⟨keep a hy _,by rw [← Act.put_comm a v undef h2]; exact h⟩
      case defer d=>
        refine ⟨keep _ (keepD d) _,?_⟩
        rw [← Act.put_comm _ v undef h2,← Act.put_defers]
        exact h
      case enter f args=>
        refine ⟨h.1,CallsIn.mono h.2 fun e w'' he=>?_⟩
        cases e with
        | returned u=>exact ⟨keep a hy u,by rw [← Act.put_comm a v u h2]; exact he⟩
        | panicked c=>exact hQ _ _ _ he
        | outgrown=>exact he
      case row row args=>exact ⟨h.1,RowsIn.mono h.2 fun u w'' he=>⟨keep a hy u,by rw [← Act.put_comm a v u h2]; exact he⟩⟩
      case round l f tmps assign body=>
        refine ⟨h.1,RoundIn.mono h.2 fun e w'' he=>?_⟩
        cases e with
        | returned u=>exact ⟨keep a hy u,by rw [← Act.put_comm a v u h2]; exact he⟩
        | panicked c=>exact hQ _ _ _ he
        | outgrown=>exact he
    | halt x w' =>
      cases x <;> simp only [Oper.uponIn] at h ⊢
      case panic u=>exact hQ _ _ _ h
  · rename_i hw
    simp only [hw] at h
    exact ⟨keep a hy _,by rw [← Act.put_comm a v undef h2]; exact h⟩
def zfe (ops:Array Oper) (i:Nat) (D:List Nat):Prop:=∀ d∈D,d≠i∧∃ od e,ops[d]? = some od∧e∈od.after∧Region.binds .any e=true∧(e.on=i∨e.on∈D)
theorem z7X {i:Nat} {oi:Oper} {v:Value} {D:List Nat} (hi:ops[i]? = some oi) (hsel:∀ (j:Nat) (o:Oper) cs b,ops[j]? = some o→o.op≠.select cs b)
    (hQ:∀ c a w,Q (.panic c) (a.put oi.dst v) w→Q (.panic c) a w) (hD:zfe ops i D) (hT:∀ L w,(∀ d∈D,L.getD d true=false)→T L w→S w) (hni:∀ L w,T (L.setIfInBounds i true) w→T L w) (hin:∀ L w,T L w→T (L.setIfInBounds i true) w) :
    ∀ (fuel : Nat) (listed : Array Bool) (a : Act) (w : World),
      (∀ j oj,ops[j]? = some oj→j≠i→listed.getD j true=false→(∀ e∈oj.after,Region.binds .any e=true→e.on≠i)→oi.apart ops oj=true)→
      i∈Region.ready .any ops listed→YieldsIf P ops S oi v a→(∀ d∈D,listed.getD d true=false)→T listed w→
      z6U r P ops Q T fuel (listed.setIfInBounds i true) (a.put oi.dst v) w→z6U r P ops Q T (fuel+1) listed a w:=by
  intro fuel
  induction fuel with
  | zero =>
    intro listed a w _ hr hy hun hS H
    refine ⟨fun h=>(by rw [h] at hr; cases hr),fun j hj=>?_⟩
    by_cases hji:j=i
    · subst hji; exact zcK hi hy (hT _ _ hun hS) ⟨hin _ _ hS,H⟩
    · have:=ready_mono hj hji
      rw [H.1] at this
      cases this
  | succ fuel ih =>
    intro listed a w hfree hr hy hun hS H
    refine ⟨fun h=>(by rw [h] at hr; cases hr),fun j hj=>?_⟩
    by_cases hji:j=i
    · subst hji; exact zcK hi hy (hT _ _ hun hS) ⟨hin _ _ hS,H⟩
    · have h1:=H.2 j (ready_mono hj hji)
      obtain ⟨hjun,oj,hoj,hall⟩:=mem_ready.1 hj
      have hnot:∀ e∈oj.after,Region.binds .any e=true→e.on≠i:=fun e he hb heq=>by
        have h1:=hall e he hb
        have h0:=(mem_ready.1 hr).1
        rw [heq] at h1
        rcases Nat.lt_or_ge i listed.size with h' | h'
        · simp [h'] at h0 h1; rw [h0] at h1; cases h1
        · simp [Array.getElem?_eq_none h'] at h1
      have h2:=zd6 hoj (hfree j oj hoj hji hjun hnot) (fun cs b=>hsel i oi cs b hi) (fun cs b=>hsel j oj cs b hoj) hQ hy h1
      have hfree' : ∀ k ok,ops[k]? = some ok→k≠i→(listed.setIfInBounds j true).getD k true=false→
          (∀ e∈ok.after,Region.binds .any e=true→e.on≠i)→oi.apart ops ok=true:=fun k ok hk hki hun hno=>by
        refine hfree k ok hk hki ?_ hno
        by_cases hjk:j=k
        · subst hjk; exact hjun
        · rw [getD_set_ne true hjk] at hun; exact hun
      have hun' : ∀ d∈D,(listed.setIfInBounds j true).getD d true=false:=fun d hd=>by
        have hjd:j≠d:=by
          rintro rfl
          obtain ⟨_,od,e,h1,h2,h3,h4⟩:=hD _ hd
          rw [hoj] at h1
          cases h1
          rcases h4 with h4 | h4
          · exact hnot e h2 h3 h4
          · have h5:=hall e h2 h3
            have h6:=hun _ h4
            rcases Nat.lt_or_ge e.on listed.size with h' | h'
            · simp [h'] at h5 h6; rw [h6] at h5; cases h5
            · simp [Array.getElem?_eq_none h'] at h6
        rw [getD_set_ne true hjd]
        exact hun d hd
      refine z8N (fun a' w' h3=>?_) h2
      have ht:T (listed.setIfInBounds j true) w':=by
        have:=h3.2.1
        rw [Array.setIfInBounds_comm _ _ (Ne.symm hji)] at this
        exact hni _ _ this
      refine ⟨ht,ih (listed.setIfInBounds j true) a' w' hfree' (ready_mono hr (Ne.symm hji)) h3.1 hun' ht ?_⟩
      rw [Array.setIfInBounds_comm _ _ hji]
      exact h3.2.2
theorem z9W {rs:List Nat} {fuel:Nat} {listed:Array Bool} {a:Act} {w:World} (hr:Region.ready .any ops listed=rs) (hne:rs≠[])
  (h:∀ i∈rs,wpOpI r P ops Q i (fun a' w'=>T (listed.setIfInBounds i true) w'∧z6U r P ops Q T fuel (listed.setIfInBounds i true) a' w') a w):z6U r P ops Q T (fuel+1) listed a w:=
 ⟨fun h0=>absurd (hr ▸ h0) hne,hr ▸ h⟩
theorem z96 {listed:Array Bool} {a:Act} {w:World} (hr:Region.ready .any ops listed=[]) (h:Q .normal a w) :
  ∀ fuel,z6U r P ops Q T fuel listed a w
 | 0=>⟨hr,h⟩
 | _+1=>⟨fun _=>h,by rw [hr]; simp⟩
end
end Go.Abs
namespace Go.Abs
variable {E : Env} {k : List KI} {V : VF} {H : List HA}
def z3W (E:Env) (ops:Array Oper) (l:List Oper) (k:List KI) (V:VF) (H:List HA):Prop:=
 ∀ a w,Rel E V H a w→wpStill E.P ops w (fun a'=>Qof E k .normal a' w) l a
theorem Rel.drew {a:Act} {w:World} (r:Rel E V H a w):Rel E V H a w.drew:=by
 obtain ⟨h1,h2,h3,o,hb,ht,hs⟩:=r
 exact ⟨h1,h2,h3,o,hb,ht.trans ⟨rfl,rfl,rfl,Nat.le_refl _,fun _ _ h=>⟨h,rfl⟩,fun _ _ h=>⟨h,rfl⟩⟩,
  fun j h hj=>h.keep (w:=w) (w':=w.drew) (Nat.le_refl _) (fun b _ hb=>⟨hb,rfl⟩) (fun b _ hb=>⟨hb,rfl⟩) (hs j h hj)⟩
theorem ziz {id:Nat} {l:List Oper} (hm:E.P.follows .mixedOrders=true) (hB:Region.lexB .any l.toArray=true) (h:z3W E l.toArray l k V H) (hnd:noDef E.r l.toArray=true:=by exact rfl) :
 Run E (.region id l.toArray true) k V H:=fun a w r=>zf9 (zb1 k) hnd hm hB (by simpa using h a _ r.drew)
theorem zeT {ops:Array Oper} {op:Oper} {rest:List Oper} {v:Value} (hw:Wants E.n ops V op) (hd:inB E.n op.dst=true) (h:OpY E.P op V H v)
  (hk:z3W E ops rest k (V.put op.dst v) H):z3W E ops (op::rest) k V H:=by
 intro a w r
 unfold wpStill
 rw [if_pos (hw.wanted r)]
 have hf:=r.fits
 obtain ⟨h1,h2,h3,o,hb,ht,hs⟩:=r
 unfold Oper.still
 rw [h a.eval w o hf hb hs,Oper.stillUpon_value]
 exact hk _ w (Rel.put h1 h2 h3 hd hb ht (Tr.refl w o) hs)
theorem zeR {ops:Array Oper} {op:Oper} {rest:List Oper} (j:Nat) (b:Bool) (t:Nat) (hg:op.guard=some (j,b)) (hj:((ops[j]?).bind (·.dst))=some t)
  (hv:V t=some (.bool (!b))) (ht:Nat.blt t E.n=true) (hd:inB E.n op.dst=true) (hk:z3W E ops rest k (V.put op.dst undef) H):z3W E ops (op::rest) k V H:=by
 intro a w r
 have h2:=getD_some r.1 ht (r.2.2.1 t _ hv)
 unfold wpStill
 rw [if_neg (by cases b <;> simp [Region.wanted,hg,yielded,hj,h2])]
 obtain ⟨h1,h2,h3,o,hb,ht,hs⟩:=r
 exact hk _ w (Rel.put h1 h2 h3 hd hb ht (Tr.refl w o) hs)
theorem zgd {ops:Array Oper} (h:Goes E k V H):z3W E ops [] k V H:=fun a w r=>h a w r
theorem zar {ops:Array Oper} {l:List Oper} (t:Nat) (b:Bool) (hv:V t=some (.bool b)) (ht:b=true→z3W E ops l k (V.set t (.bool true)) H)
  (hf:b=false→z3W E ops l k (V.set t (.bool false)) H):z3W E ops l k V H:=by
 have same:∀ c,b=c→∀ a,Agree V a→Agree (V.set t (.bool c)) a:=by
  intro c hc a ha u x hx
  rcases VF.set_eq hx with ⟨rfl,rfl⟩ | ⟨_,hx⟩
  ·exact hc ▸ ha u _ hv
  ·exact ha u x hx
 intro a w r
 cases hb:b with
 | true=>exact ht hb a w ⟨r.1,r.2.1,same _ hb a r.2.2.1,r.2.2.2⟩
 | false=>exact hf hb a w ⟨r.1,r.2.1,same _ hb a r.2.2.1,r.2.2.2⟩
theorem zcx {x y:Code} (S:Type) (Vi:S→List (Nat×Value)) (Hi:S→List HA) (inv:S→Prop)
    (h1:∀ L:Act→World→Prop,(∀ s,inv s→∀ a w,Rel E (VF.of (Vi s)) (Hi s) a w→L a w)→Run E x (.loop L::k) V H)
    (h2:∀ s,inv s→Run E y k (VF.of (Vi s)) (Hi s)):Run E (.seq x y) k V H:=by
  intro a w r
  refine wpIn_seq (wpIn_mono (h1 (fun a w=>∃ s,inv s∧Rel E (VF.of (Vi s)) (Hi s) a w) (fun s hi a w hr=>⟨s,hi,hr⟩) a w r) ?_)
  intro e a w hq
  cases e with
  | normal =>
    obtain ⟨s,hi,hr⟩:=hq
    exact h2 s hi a w hr
  | exit id=>exact hq
  | goto l=>exact hq
  | ret=>exact hq
  | panic ch=>exact hq
  | outgrown=>exact hq
theorem zdX {L:Act→World→Prop} {S:Type} {Vi:S→List (Nat×Value)} {Hi:S→List HA} {inv:S→Prop}
  (hL:∀ s',inv s'→∀ a w,Rel E (VF.of (Vi s')) (Hi s') a w→L a w) (s' : S) (is:List Nat)
  (hl:∀ x∈Vi s',V x.1=some x.2) (hn:is.Nodup) (hG:Picks is H (Hi s')) (hi:inv s'):Goes E (.loop L::k) V H:=
 fun a w r=>hL s' hi a w ((r.vle (VF.le_of _ hl)).pick hn hG)
end Go.Abs
namespace Go.Abs
variable {E : Env} {k : List KI} {V : VF} {H : List HA}
section more
variable {P : Program} {d : Option Nat} {ty : TypeId} {pos : String} {af : Array Edge} {g : Option (Nat × Bool)}
theorem z9h {w:World} {T el:TypeId} (hu:∀ w,(underlying T).run P w = .ok (.slice el) w) (d:Nat) (a:Option Addr) (n cap:Nat) :
  (Op.equalIn (d+1) T (.slice a n cap) (.slice none 0 0)).run P w = .ok a.isNone w:=by
 cases a <;> simp [Op.equalIn,hu]
theorem z8d {w:World} {T el:TypeId} (hu:∀ w,(underlying T).run P w = .ok (.slice el) w) (a:Option Addr) (n cap:Nat) :
 (Op.equal T (.slice a n cap) (.slice none 0 0)).run P w = .ok a.isNone w:=z9h hu 9999 a n cap
theorem zlw {T el U:TypeId} {x y:Operand} {v:Value} {es:Nat} {cells:List (List Value)} {h:HA} (m:Nat) (hu:∀ w,(underlying T).run P w = .ok (.slice el) w)
    (hx:V.ev x=some v) (hy:V.ev y=some (.slice none 0 0)) (hm:H[m]? = some h) (hr:Reads h v es cells) :
    OpT P ⟨d,.binOp .eql T x y U,ty,pos,af,g⟩ V H (fun v' H'=>∃ b:Bool,v' = .bool b∧H'=H∧(b=true→cells=[])):=by
  intro ρ w o hf hbd hs
  obtain ⟨a,cap,e1,e2,e3,e4,e5⟩:=hr.is w o m (hs m h hm)
  subst e1
  have hrun:(execOp ρ ⟨d,.binOp .eql T x y U,ty,pos,af,g⟩).run P w = .ok (.value (.bool a.isNone)) w:=by
    simp [execOp,hf x _ hx,hf y _ hy,eqGuard,binOp,z8d hu]
  unfold Does
  rw [hrun]
  refine ⟨H,o,⟨_,rfl,rfl,fun hb=>?_⟩,hbd,Tr.refl w o,hs⟩
  cases a with
  | some a=>simp at hb
  | none =>
    have:=e4 rfl
    exact List.length_eq_zero_iff.1 (by omega)
theorem zau:∀ (vs:List Value) (c:List Value),c.length=vs.length→wrL vs 0 c=c:=by
 intro vs c h
 apply List.ext_getElem?
 intro m
 have:=z4S c vs.toArray 0 m (by simp [h])
 simp only [wrL]
 rw [Array.getElem?_toList,this]
 by_cases hm:m<c.length
 ·rw [if_pos ⟨Nat.zero_le _,by omega⟩]; simp
 ·rw [if_neg (by omega),Array.getElem?_eq_none (by simp; omega),List.getElem?_eq_none (by omega)]
theorem zd2 {T:TypeId} {x y:Operand} {b n:Nat} {vs c:List Value} (m:Nat) (hz:∀ w,(sizeOf T).run P w = .ok n w) (hx:V.ev x=some (boxP b 0)) (hy:V.ev y=some (.agg c.toArray))
  (hm:H[m]? = some (box b vs)) (hn:c.length=n) (hl:vs.length=n) (h1:∀ u∈c,u.oneCell'=true) :
  OpT P ⟨d,.store T x y,ty,pos,af,g⟩ V H (fun v' H'=>v'=undef∧H'=H.set m (box b c)):=by
 have:=zcD (d:=d) (ty:=ty) (pos:=pos) (af:=af) (g:=g) m hz hx hy hm (by simpa [Value.cells] using hn) (by omega) (by simpa [Value.cells] using h1)
 simp only [Value.cells] at this
 rw [zau vs c (by omega)] at this
 exact this
end more
def ResIs (P:Program) (V:VF) (H:List HA) (r:ResultVar) (v:Value):Prop:=
 ∀ (a:Act) (w:World) (o:Own),Agree V a→Sats w o H→∀ g:ResultVar→Sem Value,(∀ t,g (.tmp t)=pure (a.tmps.getD t undef))→(∀ c t,g (.cell c t)=(do loadVar t (← asAddr (a.tmps.getD c undef))))→(g r).run P w = .ok v w
theorem zle {P:Program} {t:Nat} {v:Value} (h:V t=some v):ResIs P V H (.tmp t) v:=by
 intro a w o ha _ g h1 _
 rw [h1,Sem.run_pure,ha t v h]
theorem zld {P:Program} {c t:Nat} {b:Nat} {vs:List Value} {n:Nat} (m:Nat) (ha:∀ w,(isAgg t).run P w = .ok true w) (hz:∀ w,(sizeOf t).run P w = .ok n w) (h:V c=some (boxP b 0)) (hm:H[m]? = some (box b vs)) (hn:vs.length=n) :
  ResIs P V H (.cell c t) (.agg vs.toArray):=by
 subst hn
 intro a w o hA hs g _ h2
 obtain ⟨_,_,T',fz,e3,_⟩:=hs m _ hm
 have:=z4e (P:=P) (w:=w) b 0 vs (fun j y hj=>by rw [z99 e3]; simpa using hj)
 rw [h2,hA c _ h]
 simp [boxP,asAddr,loadVar,ha,hz,this]
theorem ziw {P:Program} {c t:Nat} {b:Nat} {v:Value} (m:Nat) (ha:∀ w,(isAgg t).run P w = .ok false w) (h:V c=some (boxP b 0)) (hm:H[m]? = some (box b [v])):ResIs P V H (.cell c t) v:=by
 intro a w o hA hs g _ h2
 obtain ⟨_,_,T',fz,e3,_⟩:=hs m _ hm
 have:=z99 e3 0
 rw [h2,hA c _ h]
 simp [boxP,asAddr,loadVar,ha,this]
theorem zij {P:Program} {a:Act} {w:World} {o:Own} (hA:Agree V a) (hs:Sats w o H) (g:ResultVar→Sem Value) (h1:∀ t,g (.tmp t)=pure (a.tmps.getD t undef)) (h2:∀ c t,g (.cell c t)=(do loadVar t (← asAddr (a.tmps.getD c undef)))) :
    ∀ (rs:List ResultVar) (vs:List Value),rs.length=vs.length→(∀ (i:Nat) (r:ResultVar) (v:Value),rs[i]? = some r→vs[i]? = some v→ResIs P V H r v)→(rs.mapM g).run P w = .ok vs w:=by
  intro rs
  induction rs with
  | nil=>intro vs hl _; cases vs <;> simp_all
  | cons r rs ih =>
    intro vs hl h
    cases vs with
    | nil=>simp at hl
    | cons v vs =>
      have h0:=h 0 r v rfl rfl a w o hA hs g h1 h2
      have h3:=ih vs (by simpa using hl) (fun i r v h2 h3=>h (i+1) r v (by simpa using h2) (by simpa using h3))
      rw [List.mapM_cons,Sem.run_bind,h0]
      simp [h3]
theorem z7d {P:Program} {fn:Func} {a:Act} {w:World} {o:Own} (hA:Agree V a) (hs:Sats w o H) (rs:List ResultVar) (vs:List Value) (hr:fn.results=rs.toArray) (hl:rs.length=vs.length)
  (h:∀ (i:Nat) (r:ResultVar) (v:Value),rs[i]? = some r→vs[i]? = some v→ResIs P V H r v):(results fn a.tmps).run P w = .ok (tup vs) w:=by
 unfold results
 rw [hr,List.mapM_toArray,Sem.run_bind,Sem.run_map,zij hA hs _ (fun _=>rfl) (fun _ _=>rfl) rs vs hl h]
 match vs with
 | []=>simp [tup]
 | [v]=>simp [tup]
 | v::u::r=>simp [tup]
theorem zgI {P:Program} {n:Nat} {w0:World} {o0:Own} {fn:Func} {post:Post} {pan:Value→Prop} (rs:List ResultVar) (vs:List Value) (is:List Nat) (G:List HA)
  (hr:fn.results=rs.toArray) (hl:rs.length=vs.length) (hv:∀ (i:Nat) (r:ResultVar) (v:Value),rs[i]? = some r→vs[i]? = some v→ResIs P V H r v) (hn:is.Nodup) (hG:Picks is H G)
  (hp:post (tup vs) G):Fin (EnvP P n w0 o0 fn post pan) V H:=by
 intro a w r
 exact r.leaves fun w' o hb ht hs=>⟨_,z7d r.2.2.1 hs rs vs hr hl hv,_,G,reown is o,rfl,hp,z9i is hb,z9u is ht,z9r hn hG.get hs⟩
theorem resnil {P:Program}:∀ (i:Nat) (r:ResultVar) (v:Value),([]:List ResultVar)[i]? = some r→([]:List Value)[i]? = some v→ResIs P V H r v:=fun i r v h=>by simp at h
theorem rescons {P:Program} {r0:ResultVar} {v0:Value} {rs:List ResultVar} {vs:List Value} (h0:ResIs P V H r0 v0) (h:∀ (i:Nat) (r:ResultVar) (v:Value),rs[i]? = some r→vs[i]? = some v→ResIs P V H r v) :
  ∀ (i:Nat) (r:ResultVar) (v:Value),(r0::rs)[i]? = some r→(v0::vs)[i]? = some v→ResIs P V H r v:=by
 intro i r v h1 h2
 cases i with
 | zero=>simp at h1 h2; subst h1; subst h2; exact h0
 | succ i=>exact h i r v (by simpa using h1) (by simpa using h2)
theorem znG {ops:Array Oper} {op:Oper} {rest:List Oper} (j:Nat) (b:Bool) (t:Nat) (hg:op.guard=some (j,b)) (hj:((ops[j]?).bind (·.dst))=some t)
  (hv:V t=some undef) (ht:Nat.blt t E.n=true) (hd:inB E.n op.dst=true) (hk:Ops E ops rest k (V.put op.dst undef) H):Ops E ops (op::rest) k V H:=by
 intro a w r
 have h2:=getD_some r.1 ht (r.2.2.1 t _ hv)
 unfold wpListIn
 rw [if_neg (by cases b <;> simp [Region.wanted,hg,yielded,hj,h2,undef])]
 refine ⟨fun _ _=>trivial,?_⟩
 obtain ⟨h1,h2,h3,o,hb,ht,hs⟩:=r
 exact hk _ _ (Rel.put h1 h2 h3 hd hb ht (Tr.refl w o) hs)
theorem ziC {ops:Array Oper} {op:Oper} {rest:List Oper} (j:Nat) (b:Bool) (t:Nat) (hg:op.guard=some (j,b)) (hj:((ops[j]?).bind (·.dst))=some t)
  (hv:V t=some undef) (ht:Nat.blt t E.n=true) (hd:inB E.n op.dst=true) (hk:z3W E ops rest k (V.put op.dst undef) H):z3W E ops (op::rest) k V H:=by
 intro a w r
 have h2:=getD_some r.1 ht (r.2.2.1 t _ hv)
 unfold wpStill
 rw [if_neg (by cases b <;> simp [Region.wanted,hg,yielded,hj,h2,undef])]
 obtain ⟨h1,h2,h3,o,hb,ht,hs⟩:=r
 exact hk _ w (Rel.put h1 h2 h3 hd hb ht (Tr.refl w o) hs)
end Go.Abs
namespace Go.Abs
open Go.Sem
variable {P : Program} {V : VF} {H : List HA} {d : Option Nat} {ty : TypeId} {pos : String} {af : Array Edge} {g : Option (Nat × Bool)}
theorem zbL {ρ:Operand→Value} (hf:∀ x v,V.ev x=some v→ρ x=v):∀ (l:List (Nat×Operand)) (vs:List (Nat×Value)),l.map (fun p=>(p.1,V.ev p.2))=vs.map (fun p=>(p.1,some p.2))→l.map (fun x=>(x.fst,ρ x.snd))=vs
  | [],[],_=>rfl
  | [],q::vs,h=>by simp at h
  | p::l,[],h=>by simp at h
  | p :: l, q :: vs, h => by
    simp only [List.map_cons,List.cons.injEq,Prod.mk.injEq] at h ⊢
    obtain ⟨⟨h1,h2⟩,h3⟩:=h
    exact ⟨by rw [h1,hf _ _ h2],zbL hf l vs h3⟩
theorem zeq {E:Env} {k:List KI} {ops:Array Oper} {r:List Oper} (l:List (Nat×Value)) (is:List Nat) (G:List HA) (hl:∀ x∈l,V x.1=some x.2) (hn:is.Nodup) (hG:Picks is H G)
 (h:Ops E ops r k (VF.of l) G):Ops E ops r k V H:=fun a w r=>h a w ((r.vle (VF.le_of l hl)).pick hn hG)
end Go.Abs
namespace Go.Abs
variable {E : Env} {k : List KI} {V : VF} {H : List HA}
theorem zg6 {c:Code} (n:Nat) (h:Run E c (.loop (Code.roundsIn (FR E.r) 0 E.P c (Qof E k) n)::k) V H):Run E (.loop c) k V H:=fun a w r=>wpIn_loop_rounds (n+1) (h a w r)
theorem ze0 {c:Code} {n:Nat} (h:Run E c (.loop (Code.roundsIn (FR E.r) 0 E.P c (Qof E k) n)::k) V H):Goes E (.loop (Code.roundsIn (FR E.r) 0 E.P c (Qof E k) (n+1))::k) V H:=fun a w r=>h a w r
end Go.Abs
