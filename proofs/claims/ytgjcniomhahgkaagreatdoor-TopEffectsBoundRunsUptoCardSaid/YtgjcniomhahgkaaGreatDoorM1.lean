/-
  Texts that stand side by side: AbsLift, AbsLift2, AbsLift3, AbsCallX, AbsPan, AbsOps2, AbsRepl, AbsBound, AbsNest, AbsTree, AbsRange, AbsIface, AbsRec, AbsLib, AbsCopy, AbsMore2.
-/
import Derived.Test.YtgjcniomhahgkaaGreatDoorM0
import Derived.OrdersHeld
import Derived.MapKept
import Derived.Laws.IdiomStrings
import Derived.RecoverIn
import Derived.Lib.AtoiErrMem
import Derived.Lib.Join
import Derived.Lib.Split
import Derived.Lib.AtoiAll
import Derived.Lib.ItoaNum
import Derived.Lib.LaidTab
import Derived.Lib.IndexBytes
import Derived.Below
import Derived.Sort.Grow
import Derived.Deep.Draws
import Derived.Lib.ConvBytes
set_option linter.unusedSimpArgs false
set_option linter.unusedVariables false
namespace Go.Abs
def need {α:Type} (p:Prop) [Decidable p] (x:Option α):Option α:=if p then x else none
theorem z39 {α:Type} {p:Prop} [Decidable p] {x:Option α} {r:α} (h:need p x=some r):p∧x=some r:=by
 unfold need at h; split at h <;> simp_all
def idx {α β:Type} (l:List α) (i:Int) (k:α→Option β):Option β:=
 if 0≤i then (match l[i.toNat]? with | some x=>k x | none=>none) else none
theorem z8U {α β:Type} {l:List α} {i:Int} {k:α→Option β} {r:β} (h:idx l i k=some r) :
  ∃ x,0≤i∧i.toNat<l.length∧l[i.toNat]? = some x∧k x=some r:=by
 unfold idx at h
 split at h
 ·split at h
  ·rename_i h0 _ x hx
   exact ⟨x,h0,(List.getElem?_eq_some_iff.1 hx).1,hx,h⟩
  ·simp at h
 ·simp at h
theorem bind_some {α β:Type} {x:Option α} {k:α→Option β} {r:β} (h:x.bind k=some r):∃ a,x=some a∧k a=some r:=by
 cases x with
 | none=>simp at h
 | some a=>exact ⟨a,rfl,h⟩
inductive Lp (S R:Type) where
 | go (s:S)
 | stop (r:R)
def bindJ {S R:Type} (x:Option (Lp S R)) (k:S→Option R):Option R:=
 match x with
 | some (.go s)=>k s
 | some (.stop r)=>some r
 | none=>none
def After {S R:Type} (o:Lp S R) (k:S→Option R) (r:R):Prop:=
 match o with
 | .go s=>k s=some r
 | .stop r'=>r'=r
theorem z5D {S R:Type} {x:Option (Lp S R)} {k:S→Option R} {r:R} (h:bindJ x k=some r):∃ o,x=some o∧After o k r:=by
  cases x with
  | none=>simp [bindJ] at h
  | some o => cases o with
    | go s=>exact ⟨_,rfl,h⟩
    | stop r'=>exact ⟨_,rfl,Option.some.inj h⟩
def iter {S R:Type} (step:S→Option (Lp S R)):Nat→S→Option R
  | 0,_=>none
  | n + 1, s => match step s with
    | some (.go s')=>iter step n s'
    | some (.stop r)=>some r
    | none=>none
theorem zhp {α:Type} {b:Bool} {x y:Option α} {r:α} (h:cond b x y=some r) (hb:b=true):x=some r:=by subst hb; exact h
theorem zho {α:Type} {b:Bool} {x y:Option α} {r:α} (h:cond b x y=some r) (hb:b=false):y=some r:=by subst hb; exact h
theorem z4N {α:Type} {a b:α} (h:some a=some b):a=b:=Option.some.inj h
variable {E : Env} {k : List KI} {V : VF} {H : List HA}
theorem zbN {S R G:Type} {step:S→Option (Lp S R)} {n:Nat} {s0:S} {out:R} (h:iter step n s0=some out) {c:Code} (g0:G) (Vi:S→G→List (Nat×Value)) (Hi:S→G→List HA) (is:List Nat)
    (hl:∀ x∈Vi s0 g0,V x.1=some x.2) (hn:is.Nodup) (hG:Picks is H (Hi s0 g0))
    (round:∀ s g o,step s=some o→∀ L:Act→World→Prop,(∀ s' g',o = .go s'→∀ a w,Rel E (VF.of (Vi s' g')) (Hi s' g') a w→L a w)→(∀ r,o = .stop r→r=out)→
      Run E c (.loop L::k) (VF.of (Vi s g)) (Hi s g)):Run E (.loop c) k V H:=by
  refine z90 ((Nat×S)×G) (fun x=>Vi x.1.2 x.2) (fun x=>Hi x.1.2 x.2) (fun x=>iter step x.1.1 x.1.2=some out) (fun x=>x.1.1) is ((n,s0),g0) hl hn hG h ?_
  rintro ⟨⟨n,s⟩,g⟩ hi L hL
  cases n with
  | zero=>simp [iter] at hi
  | succ n =>
    simp only [iter] at hi
    cases hs:step s with
    | none=>rw [hs] at hi; simp at hi
    | some o =>
      rw [hs] at hi
      refine round s g o hs L (fun s' g' ho a w hr=>hL ((n,s'),g') ?_ (Nat.lt_succ_self n) a w hr) (fun r ho=>?_)
      · subst ho; exact hi
      · subst ho; simpa using hi
theorem zd4 {F:Fence} {n:Nat} {P:Program} {o:Oper} {a:Act} {L next next' : Act→World→Prop} {Q:Exit→Act→World→Prop} (hn:∀ a w,next a w→next' a w) {r:Result Next}
    (h:o.uponIn F n P a next (Exit.then L Q) r):o.uponIn F n P a next' Q r:=by
  cases r with
  | ok x w' =>
    cases x <;> simp only [Oper.uponIn] at h ⊢ <;>
      first
        | exact hn _ _ h
        | exact ⟨h.1,CallsIn.mono h.2 (fun e w'' he=>by cases e <;> first | exact hn _ _ he | exact he)⟩
        | exact ⟨h.1,RowsIn.mono h.2 (fun _ _ he=>hn _ _ he)⟩
        | exact ⟨h.1,RoundIn.mono h.2 (fun e w'' he=>by cases e <;> first | exact hn _ _ he | exact he)⟩
  | halt x w'=>cases x <;> simp only [Oper.uponIn] at h ⊢ <;> exact h
theorem z74 {P:Program} {ops:Array Oper} {Q:Exit→Act→World→Prop} {r:Option Nat} {l2:List Oper}:∀ (l1:List Oper) {a:Act} {w:World},
    wpListIn (FR r) 0 P ops (Exit.then (fun a w=>wpListIn (FR r) 0 P ops Q l2 a w) Q) l1 a w→wpListIn (FR r) 0 P ops Q (l1++l2) a w
  | [],a,w,h=>h
  | o :: l1, a, w, h => by
    simp only [List.cons_append]
    unfold wpListIn at h ⊢
    split
    · rename_i hw
      rw [if_pos hw] at h
      exact ⟨h.1,zd4 (fun a w h=>z74 l1 h) h.2⟩
    · rename_i hw
      rw [if_neg hw] at h
      exact ⟨h.1,z74 l1 h.2⟩
theorem zcq {ops:Array Oper} {l:List Oper} (m:Nat) (S:Type) (Vi:S→List (Nat×Value)) (Hi:S→List HA) (inv:S→Prop)
  (h1:∀ L:Act→World→Prop,(∀ s,inv s→∀ a w,Rel E (VF.of (Vi s)) (Hi s) a w→L a w)→Ops E ops (l.take m) (.loop L::k) V H)
  (h2:∀ s,inv s→Ops E ops (l.drop m) k (VF.of (Vi s)) (Hi s)):Ops E ops l k V H:=by
 intro a w r
 have h:=h1 (fun a w=>wpListIn (FR E.r) 0 E.P ops (Qof E k) (l.drop m) a w) (fun s hi a w hr=>h2 s hi a w hr) a w r
 have:=z74 (l.take m) h
 rwa [List.take_append_drop] at this
theorem zaY {P:Program} {ops:Array Oper} {w:World} {Q:Act→Prop} {l2:List Oper}:∀ (l1:List Oper) {a:Act},
    wpStill P ops w (wpStill P ops w Q l2) l1 a→wpStill P ops w Q (l1++l2) a
  | [],_,h=>h
  | o :: l1, a, h => by
    simp only [List.cons_append]
    unfold wpStill at h ⊢
    have e:wpStill P ops w (wpStill P ops w Q l2) l1=wpStill P ops w Q (l1++l2):=by
      clear h
      induction l1 with
      | nil=>rfl
      | cons x l1 ih=>funext a; simp only [List.cons_append,wpStill,ih]
    rw [e] at h
    exact h
theorem z9s {ops:Array Oper} {l:List Oper} (m:Nat) (S:Type) (Vi:S→List (Nat×Value)) (Hi:S→List HA) (inv:S→Prop)
  (h1:∀ L:Act→World→Prop,(∀ s,inv s→∀ a w,Rel E (VF.of (Vi s)) (Hi s) a w→L a w)→z3W E ops (l.take m) (.loop L::k) V H)
  (h2:∀ s,inv s→z3W E ops (l.drop m) k (VF.of (Vi s)) (Hi s)):z3W E ops l k V H:=by
 intro a w r
 have h:=h1 (fun a w=>wpStill E.P ops w (fun a'=>Qof E k .normal a' w) (l.drop m) a) (fun s hi a w hr=>h2 s hi a w hr) a w r
 have:=zaY (l.take m) h
 rwa [List.take_append_drop] at this
section
variable {P : Program} {d : Option Nat} {ty : TypeId} {pos : String} {af : Array Edge} {g : Option (Nat × Bool)}
theorem z9t {i:Int} (h:0≤i):i=((i.toNat:Nat):Int):=by omega
theorem z8t {T el:TypeId} {x y:Operand} {v:Value} {kd:IntKind} {i:Int} {es:Nat} {cells:List (List Value)} {h:HA} (m:Nat) (hu:∀ w,(underlying T).run P w = .ok (.slice el) w)
  (hz:∀ w,(sizeOf el).run P w = .ok es w) (hx:V.ev x=some v) (hy:V.ev y=some (.int kd i)) (hm:H[m]? = some h) (hr:Reads h v es cells) (h0:0≤i) (hn:i.toNat<cells.length) :
  OpY P ⟨d,.indexAddr T x y,ty,pos,af,g⟩ V H (elemP v (i.toNat*es)):=by
 refine zd8 (kd:=kd) (n:=i.toNat) m hu hz hx ?_ hm hr hn
 rw [hy,← z9t h0]
theorem za0 {T:TypeId} {x y:Operand} {kd:IntKind} {i:Int} {l:List UInt8} {b:UInt8} (hu:∀ w,(underlying T).run P w = .ok .string w) (hx:V.ev x=some (.string (bs l)))
  (hy:V.ev y=some (.int kd i)) (h0:0≤i) (hb:l[i.toNat]? = some b):OpY P ⟨d,.index T x y,ty,pos,af,g⟩ V H (.int .u8 b.toNat):=by
 refine zd9 (kd:=kd) (n:=i.toNat) hu hx ?_ hb
 rw [hy,← z9t h0]
theorem zcm {α:Type} {F:α→List Value} {l:List α} {i:Nat} {x:α} (h:l[i]? = some x):(l.map F)[i]? = some (F x):=by rw [List.getElem?_map,h]; rfl
theorem znt {α:Type} {F:α→List Value} {l:List α} {i:Nat} (h:i<l.length):i<(l.map F).length:=by simpa using h
theorem zkP {α:Type} {F:α→List Value} {n:Nat} (hF:∀ x,(F x).length=n∧∀ u∈F x,u.oneCell'=true) (l:List α):∀ c∈l.map F,c.length=n∧∀ u∈c,u.oneCell'=true:=by
 intro c hc
 obtain ⟨x,_,rfl⟩:=List.mem_map.1 hc
 exact hF x
theorem z9I {α:Type} {F:α→List Value} {l m:List α} {b:Nat} (h:l.length+m.length≤4294967296) (hb:b≤16384):(2*((l.map F).length+(m.map F).length)+1000)*b≤2 ^ 48:=by
 have h1:(2*((l.map F).length+(m.map F).length)+1000)≤8589935592:=by simp only [List.length_map]; omega
 calc (2*((l.map F).length+(m.map F).length)+1000)*b≤8589935592*16384:=Nat.mul_le_mul h1 hb
  _≤2 ^ 48:=by decide
theorem zeh {α:Type} {F:α→List Value} {l m:List α} (h:l.length+m.length≤4294967296):(l.map F).length+(m.map F).length≤maxLen:=by
 simp only [List.length_map]; unfold maxLen; omega
theorem v_len {α:Type} (F:α→List Value) (l:List α):Value.int .i64 ((l.map F).length:Nat) = .int .i64 (l.length:Int):=by simp
def zFs (P:Program) (fl:List Field) (pl:List (Nat×Nat)):Prop:=
 ∀ w,(fl.mapM (fun (f:Field)=>(do pure (f.offset,← sizeOf f.type):Sem (Nat×Nat)))).run P w = .ok pl w
theorem znb:zFs P [] []:=fun w=>by simp
theorem zkt {f:Field} {n:Nat} {r:List Field} {pl:List (Nat×Nat)} (hz:∀ w,(sizeOf f.type).run P w = .ok n w) (hr:zFs P r pl):zFs P (f::r) ((f.offset,n)::pl):=by
 intro w
 have:=hr w
 simp only [bind_pure_comp] at this ⊢
 simp [List.mapM_cons,hz,this]
def fillC (place:Nat→Option (Nat×Nat)) (cells:Array Value):List (Nat×List Value)→Option (Array Value)
  | []=>some cells
  | (i, c) :: rest =>
    match place i with
    | none=>none
    | some (off, size) =>
      if c.length≠size || off+c.length > cells.size then none
      else fillC place (z4R cells off c) rest
theorem zb6 (place:Nat→Option (Nat×Nat)):∀ (vs:List (Nat×Value)) (cells:Array Value),Instr.fill place cells vs=fillC place cells (vs.map fun p=>(p.1,p.2.cells.toList))
  | [],cells=>rfl
  | (i, v) :: rest, cells => by
    simp only [Instr.fill,List.map_cons,fillC]
    cases place i with
    | none=>rfl
    | some p =>
      obtain ⟨off,size⟩:=p
      simp only [Array.length_toList]
      split
      · rfl
      · have e:v.cells.zipIdx.foldl (fun cs (x:Value×Nat)=>cs.setIfInBounds (off+x.2) x.1) cells=z4R cells off v.cells.toList:=by
          rw [← Array.foldl_toList,Array.toList_zipIdx]
          exact z8T off v.cells.toList 0 cells
        rw [e]
        exact zb6 place rest _
theorem z8P {T:TypeId} {parts:Array (Nat×Operand)} {z:Value} {fl:List Field} {pl:List (Nat×Nat)} {cells:Array Value} (vs:List (Nat×Value)) (cs:List (Nat×List Value)) (h0:∀ w,(zeroValue T).run P w = .ok z w)
  (hu:∀ w,(underlying T).run P w = .ok (.struct fl.toArray) w) (hF:zFs P fl pl) (hp:parts.toList.map (fun p=>(p.1,V.ev p.2))=vs.map (fun p=>(p.1,some p.2)))
  (hcs:vs.map (fun p=>(p.1,p.2.cells.toList))=cs) (hc:fillC (fun i=>pl.toArray[i]?) z.cells cs=some cells):OpY P ⟨d,.build T parts,ty,pos,af,g⟩ V H (.agg cells):=by
 intro ρ w o hf _ hs
 have hpv:=zbL (V:=V) (ρ:=ρ) (fun x v h=>hf x v h) _ _ hp
 have hm:=hF w
 rw [← hcs,← zb6] at hc
 simp only [bind_pure_comp] at hm
 simp only [List.getElem?_toArray] at hc
 simp [execOp,Instr.build,hu,h0,hpv,hm,hc]
def EqF (P:Program) (n:Nat) (xs ys:Array Value) (f:Field) (b:Bool):Prop:=
 f.name≠ "_"∧∀ w,(do Op.equalIn (n+1) f.type (← part f.type xs f.offset) (← part f.type ys f.offset)).run P w = .ok b w
theorem zgG {n:Nat} {xs ys:Array Value} {f:Field} {kd:IntKind} {a b:Int} {ds:IntKind} (hn:f.name≠ "_") (hu:∀ w,(underlying f.type).run P w = .ok (.int ds) w) (ha:∀ w,(isAgg f.type).run P w = .ok false w)
  (hx:xs[f.offset]? = some (.int kd a)) (hy:ys[f.offset]? = some (.int kd b)):EqF P n xs ys f (decide (a=b)):=
 ⟨hn,fun w=>by simp [part,ha,hx,hy,Op.equalIn,hu,z7D]⟩
theorem zgH {n:Nat} {xs ys:Array Value} {f:Field} {a b:List UInt8} (hn:f.name≠ "_") (hu:∀ w,(underlying f.type).run P w = .ok .string w) (ha:∀ w,(isAgg f.type).run P w = .ok false w)
  (hx:xs[f.offset]? = some (.string (bs a))) (hy:ys[f.offset]? = some (.string (bs b))):EqF P n xs ys f (decide (a=b)):=
 ⟨hn,fun w=>by
  have e:(bs a == bs b)=decide (a=b):=by
   show (a.toArray == b.toArray)=decide (a=b)
   simp [z7D]
  simp [part,ha,hx,hy,Op.equalIn,hu,e]⟩
theorem zdG {n:Nat} {xs ys:Array Value} {f:Field} {a b:Bool} (hn:f.name≠ "_") (hu:∀ w,(underlying f.type).run P w = .ok .bool w) (ha:∀ w,(isAgg f.type).run P w = .ok false w)
  (hx:xs[f.offset]? = some (.bool a)) (hy:ys[f.offset]? = some (.bool b)):EqF P n xs ys f (a == b):=
 ⟨hn,fun w=>by simp [part,ha,hx,hy,Op.equalIn,hu]⟩
inductive EqFs (P:Program) (n:Nat) (xs ys:Array Value):List Field→List Bool→Prop where
 | nil:EqFs P n xs ys [] []
 | cons {f:Field} {b:Bool} {fl:List Field} {bl:List Bool}:EqF P n xs ys f b→EqFs P n xs ys fl bl→EqFs P n xs ys (f::fl) (b::bl)
def allB:List Bool→Bool
 | []=>true
 | [b]=>b
 | b::c::r=>b && allB (c::r)
theorem zff (b:Bool) (r:List Bool):allB (b::r)=(b && allB r):=by cases r <;> simp [allB]
theorem zbn {w:World} {n:Nat} {xs ys:Array Value}:∀ {fl:List Field} {bl:List Bool},EqFs P n xs ys fl bl→
    (forIn fl ((none,()):Option Bool×Unit) (fun f _=>
      if f.name≠ "_" then do
        let x ← (do Op.equalIn (n+1) f.type (← part f.type xs f.offset) (← part f.type ys f.offset))
        if x=false then pure (ForInStep.done (some false,())) else pure (ForInStep.yield (none,()))
      else pure (ForInStep.yield (none,())):Field→Option Bool×Unit→Sem (ForInStep (Option Bool×Unit)))).run P w = .ok (if allB bl then none else some false,()) w
  | _,_,.nil=>by simp [allB]
  | f :: fl, b :: bl, .cons h hr => by
    have ih:=zbn (w:=w) hr
    rw [List.forIn_cons,Sem.run_bind,if_pos h.1,Sem.run_bind,h.2 w,zff]
    cases b with
    | false=>simp
    | true=>simp only [Result.andThen_ok,if_neg (show ¬ (true=false) by decide),Sem.run_pure,Bool.true_and]; exact ih
theorem z7g {w:World} {T:TypeId} {n:Nat} {fl:List Field} {xs ys:Array Value} {bl:List Bool} (hst:P.stoodInHeld T=false) (hu:∀ w,(underlying T).run P w = .ok (.struct fl.toArray) w)
  (h:EqFs P n xs ys fl bl):(Op.equalIn (n+2) T (.agg xs) (.agg ys)).run P w = .ok (allB bl) w:=by
 have key:=zbn (w:=w) h
 rw [Op.equalIn]
 simp only [Sem.run_bind,hu,Result.andThen_ok]
 simp [hst]
 simp at key
 rw [key]
 cases hb:allB bl <;> simp
theorem y_eqS {T U:TypeId} {x y:Operand} {fl:List Field} {xs ys:Array Value} {bl:List Bool} (hg:P.eqGuardType P.depth T=false) (hst:P.stoodInHeld T=false) (hu:∀ w,(underlying T).run P w = .ok (.struct fl.toArray) w)
  (hx:V.ev x=some (.agg xs)) (hy:V.ev y=some (.agg ys)) (h:EqFs P 9998 xs ys fl bl):OpY P ⟨d,.binOp .eql T x y U,ty,pos,af,g⟩ V H (.bool (allB bl)):=by
 intro ρ w o hf _ _
 have e:(Op.equal T (.agg xs) (.agg ys)).run P w = .ok (allB bl) w:=z7g hst hu h
 simp [execOp,hf x _ hx,hf y _ hy,eqGuard,hg,binOp,e]
theorem y_neS {T U:TypeId} {x y:Operand} {fl:List Field} {xs ys:Array Value} {bl:List Bool} (hg:P.eqGuardType P.depth T=false) (hst:P.stoodInHeld T=false) (hu:∀ w,(underlying T).run P w = .ok (.struct fl.toArray) w)
  (hx:V.ev x=some (.agg xs)) (hy:V.ev y=some (.agg ys)) (h:EqFs P 9998 xs ys fl bl):OpY P ⟨d,.binOp .neq T x y U,ty,pos,af,g⟩ V H (.bool (!allB bl)):=by
 intro ρ w o hf _ _
 have e:(Op.equal T (.agg xs) (.agg ys)).run P w = .ok (allB bl) w:=z7g hst hu h
 simp [execOp,hf x _ hx,hf y _ hy,eqGuard,hg,binOp,e]
end
end Go.Abs
namespace Go.Abs
theorem z7n {S R:Type} {s:S} {k:S→Option R} {r:R} (h:After (.go s) k r):k s=some r:=h
theorem z78 {S R:Type} {e:R} {k:S→Option R} {r:R} (h:After (.stop e) k r):e=r:=h
def eInt (k:IntKind) (n:Int):List Value:=[.int k n]
theorem zkk (k:IntKind) (n:Int):(eInt k n).length=1∧∀ u∈eInt k n,u.oneCell'=true:=⟨rfl,fun u h=>by simp [eInt] at h; subst h; rfl⟩
def eB8 (b:UInt8):List Value:=[.int .u8 b.toNat]
theorem zn3 (n:UInt8):(eB8 n).length=1∧∀ u∈eB8 n,u.oneCell'=true:=⟨rfl,fun u h=>by simp [eB8] at h; subst h; rfl⟩
def eBool (b:Bool):List Value:=[.bool b]
theorem zhU (b:Bool):(eBool b).length=1∧∀ u∈eBool b,u.oneCell'=true:=⟨rfl,fun u h=>by simp [eBool] at h; subst h; rfl⟩
def eStr (b:List UInt8):List Value:=[.string (bs b)]
theorem zkl (b:List UInt8):(eStr b).length=1∧∀ u∈eStr b,u.oneCell'=true:=⟨rfl,fun u h=>by simp [eStr] at h; subst h; rfl⟩
theorem zei {α:Type} {F:α→List Value} {l:List α} {i:Nat} {c:List Value} {y:α} (h:c=F y):(l.map F).set i c=(l.set i y).map F:=by rw [h,List.map_set]
variable {E : Env} {k : List KI} {V : VF} {H : List HA}
section
variable {P : Program} {d : Option Nat} {ty : TypeId} {pos : String} {af : Array Edge} {g : Option (Nat × Bool)}
theorem zfa (c:List Value) (j:Nat) (ys:List Value):(wrL c j ys).length=c.length:=by simp [wrL,z3M]
theorem zh8 (c:List Value) (j:Nat) (ys:List Value) (m:Nat) (h:j+ys.length≤c.length):(wrL c j ys)[m]? = if j≤m∧m<j+ys.length then ys[m - j]? else c[m]?:=by
 have:=z4S ys c.toArray j m (by simpa using h)
 simpa [wrL] using this
theorem z94 {T:TypeId} {x y:Operand} {v r:Value} {es i j n:Nat} {c:List Value} {cells:List (List Value)} (m:Nat) (hz:∀ w,(sizeOf T).run P w = .ok n w) (hx:V.ev x=some (elemP v (i*es+j))) (hy:V.ev y=some r)
    (hm:H[m]? = some (row v es cells)) (hn:r.cells.size=n) (hc:cells[i]? = some c) (hl:Nat.ble (j+n) es=true) (h1:∀ u∈r.cells.toList,u.oneCell'=true) :
    OpT P ⟨d,.store T x y,ty,pos,af,g⟩ V H (fun v' H'=>v'=undef∧H'=H.set m (row v es (cells.set i (wrL c j r.cells.toList)))):=by
  intro ρ w o hf hbd hs
  have hle:j+n≤es:=Nat.le_of_ble_eq_true hl
  rcases hs m _ hm with ⟨_,h0⟩ | ⟨b,off,cap,arr,T',fz,e1,e2,e3,e4,e5,e6,e7,e8,e9,e10⟩
  · rw [h0] at hc; simp at hc
  have hlt:i<cells.length:=(List.getElem?_eq_some_iff.1 hc).1
  have hce:=e9 c (List.mem_of_getElem? hc)
  have hroom:off+(i*es+j)+r.cells.toList.length≤arr.size:=by
    rw [e6,Array.length_toList,hn]
    have:(i+1)*es≤cap*es:=Nat.mul_le_mul_right _ (by omega)
    rw [Nat.succ_mul] at this; omega
  obtain ⟨w',h2,h3⟩:=z4U (P:=P) r.cells.toList 0 arr w e4 e5 (off:=off+(i*es+j)) (by omega) h1
  have hrun:(execOp ρ ⟨d,.store T x y,ty,pos,af,g⟩).run P w = .ok .skip w':=by
    subst e1
    simp [execOp,hf x _ hx,hf y _ hy,Instr.storeAt,Instr.sureAddr,elemP,Value.sbase,storeVar,hz,hn,h2]
  unfold Does
  rw [hrun]
  refine ⟨_,o,⟨rfl,rfl⟩,fun b' hb'=>hbd b' (by rw [h3.size] at hb'; exact hb'),⟨h3.os,h3.tape,h3.output,by rw [h3.size]; exact Nat.le_refl _,fun b' hlt hb'=>⟨hb',h3.other b' ?_⟩,fun b' hlt hb'=>⟨hb',h3.other b' ?_⟩⟩,?_⟩
  · rintro rfl; rw [e2] at hb'; cases hb'
  · rintro rfl; rw [e2] at hb'; cases hb'
  · refine z3k (by rw [h3.size]; exact Nat.le_refl _) (fun b' hlt hb'=>⟨rfl,h3.other b' ?_⟩) hs (.inr ⟨b,off,cap,_,T',fz,by rw [List.length_set]; exact e1,e2,by rw [h3.size]; exact e3,h3.here,by rw [z3M]; exact e5,by rw [z3M]; exact e6,
      by rw [List.length_set]; exact e7,e8,?_,?_⟩)
    · rintro rfl; exact hb' e2
    · intro c' hc'
      rcases List.mem_or_eq_of_mem_set hc' with h | rfl
      · exact e9 c' h
      · rw [zfa]; exact hce
    · intro i' c' hi' j' x' hj'
      rw [Nat.add_zero,z4S _ _ _ _ hroom]
      rw [Array.length_toList,hn]
      by_cases hii:i=i'
      · subst hii
        rw [List.getElem?_set_self hlt] at hi'
        simp at hi'
        subst hi'
        rw [zh8 _ _ _ _ (by rw [Array.length_toList,hn,hce]; exact hle),Array.length_toList,hn] at hj'
        by_cases hjj:j≤j'∧j'<j+n
        · rw [if_pos hjj] at hj'
          rw [if_pos (by omega)]
          rw [← hj']; congr 1; omega
        · rw [if_neg hjj] at hj'
          rw [if_neg (by omega)]
          exact e10 i c hc j' x' hj'
      · rw [List.getElem?_set_ne hii] at hi'
        have hjl:j'<es:=by
          have h1:=(List.getElem?_eq_some_iff.1 hj').1
          rw [e9 c' (List.mem_of_getElem? hi')] at h1; exact h1
        have:¬ (off+(i*es+j)≤off+i'*es+j'∧off+i'*es+j'<off+(i*es+j)+n):=by
          rintro ⟨ha,hb⟩
          rcases Nat.lt_or_ge i i' with h | h
          · have:(i+1)*es≤i'*es:=Nat.mul_le_mul_right _ h
            rw [Nat.succ_mul] at this; omega
          · have:(i'+1)*es≤i*es:=Nat.mul_le_mul_right _ (by omega)
            rw [Nat.succ_mul] at this; omega
        rw [if_neg this]
        exact e10 i' c' hi' j' x' hj'
end
def SH (E:Env) (Hs:List HA) (w:World):Prop:=∃ o,Bnd w o∧Tr E.w0 E.o0 w o∧Sats w o Hs
def Sub (H Hs:List HA):Prop:=∀ (j:Nat) (h:HA),Hs[j]? = some h→(∀ w o k,h.p w o k)∨H[j]? = some h
theorem z5Z {H:List HA}:Sub H []:=fun j h hj=>by simp at hj
theorem z4O {H Hs:List HA} {h:HA} (r:Sub H Hs):Sub (h::H) (h::Hs):=fun j x hj=>by
 cases j with
 | zero=>exact .inr hj
 | succ j=>exact r j x hj
theorem z7R {H Hs:List HA} {h:HA} (r:Sub H Hs):Sub (h::H) (HA.emp::Hs):=fun j x hj=>by
 cases j with
 | zero=>simp at hj; subst hj; exact .inl fun _ _ _=>trivial
 | succ j=>exact r j x hj
theorem Sub.sats {Hs:List HA} {w:World} {o:Own} (h:Sub H Hs) (hs:Sats w o H):Sats w o Hs:=fun j x hj=>(h j x hj).elim (fun h=>h w o j) (fun h=>hs j x h)
def AnyL (E:Env) (ops:Array Oper) (listed:Array Bool) (fuel:Nat) (k:List KI) (V:VF) (H Hs:List HA):Prop:=
 ∀ a w,Rel E V H a w→z6U E.r E.P ops (Qof E k) (fun _=>SH E Hs) fuel listed a w
theorem z5C (hbl:E.blind=true) {d:Option Nat} {v:Value}:∀ (k:List KI) (c:List PanicEntry) (a:Act) (w:World),Qof E k (.panic c) (a.put d v) w→Qof E k (.panic c) a w
 | [],c,a,w,h=>E.np hbl c a d v w h
 | .code _::k,c,a,w,h=>z5C hbl k c a w h
 | .blk _::k,c,a,w,h=>z5C hbl k c a w h
 | .scope::k,c,a,w,h=>z5C hbl k c a w h
 | .loop _::k,c,a,w,h=>z5C hbl k c a w h
variable {ops : Array Oper} {op : Oper} {listed : Array Bool} {fuel : Nat} {Hs : List HA}
theorem any_nil (hr:Region.ready .any ops listed=[]) (h:Goes E k V H):AnyL E ops listed fuel k V H Hs:=fun a w r=>z96 hr (h a w r) fuel
end Go.Abs
namespace Go.Abs
variable {E : Env} {k : List KI} {V : VF} {H : List HA}
end Go.Abs
namespace Go.Abs
variable {E : Env} {k : List KI} {V : VF} {H : List HA} {ops : Array Oper} {listed : Array Bool} {fuel : Nat} {Hs : List HA}
theorem zeS {l:List Oper} {H' : List HA} (h:Turn H H') (hk:z3W E ops l k V H'):z3W E ops l k V H:=fun a w r=>hk a w (r.turn h)
end Go.Abs
namespace Go.Abs
variable {E : Env} {k : List KI} {V : VF} {H : List HA} {ops : Array Oper} {listed : Array Bool} {fuel : Nat} {Hs : List HA}
end Go.Abs
namespace Go.Abs
variable {E : Env} {k : List KI} {V : VF} {H : List HA} {ops : Array Oper} {listed : Array Bool} {fuel : Nat} {Hs : List HA}
end Go.Abs
namespace Go.Abs
variable {E : Env} {k : List KI} {V : VF} {H : List HA}
theorem Meets.weaken {P:Program} {f:FuncId} {args:List Value} {H:List HA} {post post' : Post} (h:Meets P f args H post) (hp:∀ v G,post v G→post' v G):Meets P f args H post':=
 fun w o hb hs=>(h w o hb hs).mono fun _ _ ⟨v,G,o',e,hv,r⟩=>⟨v,G,o',e,hp v G hv,r⟩
def subS (v:Value) (es l r:Nat):Value:=match v with
 | .slice a _ cap=>.slice (if cap=l then a else a.map (·.add (l*es))) (r - l) (cap - l)
 | v=>v
theorem zf4 (m:Nat) {v:Value} {es l r:Nat} {cells:List (List Value)} (hm:H[m]? = some (ro v es cells)) (h1:l≤r) (h2:r≤cells.length):Turn H (H++[ro (subS v es l r) es ((cells.take r).drop l)]):=
 z6x fun w o hs=>by
  obtain ⟨a,cap,e1,e2,e3,e4,e5⟩:=id (hs m _ hm)
  have h3:=hs m _ hm
  subst e1
  exact z2A.sub h3 h1 h2 (by omega) (Nat.le_refl _)
theorem RowIs.sub {w:World} {M:Nat→Prop} {v:Value} {es l r:Nat} {cells:List (List Value)} (h:RowIs w M v es cells) (h1:l≤r) (h2:r≤cells.length):RowIs w M (subS v es l r) es ((cells.take r).drop l):=by
 rcases h with ⟨⟨a,rfl⟩,rfl⟩ | ⟨b,off,cap,arr,T,fz,rfl,g2,g3,g4,g5,g6,g7,g8,g9,g10⟩
 ·simp at h2
  obtain rfl:r=0:=h2
  obtain rfl:l=0:=by omega
  exact .inl ⟨⟨a,by simp [subS]⟩,by simp⟩
 ·by_cases hc:cap=l
  ·have:r=l:=by omega
   subst this
   refine .inl ⟨⟨_,by simp only [subS,hc,if_true,Nat.sub_self]; rfl⟩,by simp⟩
  ·have hadd:(Addr.add ⟨b,off,none⟩ (l*es))=⟨b,off+l*es,none⟩:=by unfold Addr.add; split <;> simp_all
   have hmul:off+cap*es=off+l*es+(cap - l)*es:=by rw [Nat.add_assoc,← Nat.add_mul]; congr 2; omega
   refine .inr ⟨b,off+l*es,cap - l,arr,T,fz,?_,g2,g3,g4,g5,by rw [g6,hmul],?_,by omega,fun c hc=>g9 c (List.mem_of_mem_take (List.mem_of_mem_drop hc)),?_⟩
   ·simp only [subS,hc,if_false,Option.map_some,hadd]
    congr 1
    simp
    omega
   ·simp; omega
   ·intro i c hi j x hj
    rw [List.getElem?_drop] at hi
    have hi' : cells[l+i]? = some c:=by
     rw [List.getElem?_take] at hi
     split at hi
     ·exact hi
     ·cases hi
    have:=g10 (l+i) c hi' j x hj
    rw [← this]
    congr 1
    rw [Nat.add_mul]; omega
theorem z95 (m:Nat) {v:Value} {es l r:Nat} {cells:List (List Value)} (hm:H[m]? = some (row v es cells)) (h1:l≤r) (h2:r≤cells.length):Turn H (H.set m (row (subS v es l r) es ((cells.take r).drop l))):=
 fun w o hb hs=>⟨o,hb,Tr.refl w o,z3k (Nat.le_refl _) (fun _ _ _=>⟨rfl,rfl⟩) hs (RowIs.sub (hs m _ hm) h1 h2)⟩
section
variable {P : Program} {d : Option Nat} {ty : TypeId} {pos : String} {af : Array Edge} {g : Option (Nat × Bool)}
def Bi (V:VF) (x:Option Operand) (dflt:Nat) (n:Int):Prop:=(x=none∧n=(dflt:Int))∨∃ y kd,x=some y∧V.ev y=some (.int kd n)
theorem bi0 {dflt:Nat}:Bi V none dflt (dflt:Int):=.inl ⟨rfl,rfl⟩
theorem bi1 {y:Operand} {kd:IntKind} {dflt:Nat} {n:Int} (h:V.ev y=some (.int kd n)):Bi V (some y) dflt n:=.inr ⟨y,kd,rfl,h⟩
theorem Bi.bd {x:Option Operand} {dflt:Nat} {n:Int} (h:Bi V x dflt n) (h0:0≤n):Bd V x dflt n.toNat:=by
 rcases h with ⟨rfl,rfl⟩ | ⟨y,kd,rfl,hy⟩
 ·exact .inl ⟨rfl,by simp⟩
 ·exact .inr ⟨y,kd,rfl,by rw [hy,← z9t h0]⟩
theorem zbv {T el:TypeId} {x:Operand} {v:Value} {lo hi:Option Operand} {es:Nat} {l r:Int} {cells:List (List Value)} {h:HA} (m:Nat) (hu:∀ w,(underlying T).run P w = .ok (.slice el) w)
  (hz:∀ w,(sizeOf el).run P w = .ok es w) (hx:V.ev x=some v) (hm:H[m]? = some h) (hr' : Reads h v es cells) (hl:Bi V lo 0 l) (hr:Bi V hi cells.length r) (h0:0≤l) (h1:l≤r) (h2:r≤(cells.length:Int)) :
  OpY P ⟨d,.slice T x lo hi none,ty,pos,af,g⟩ V H (subS v es l.toNat r.toNat):=by
 intro ρ w o hf hbd hs
 obtain ⟨a,cap,e1,e2,e3,e4,e5⟩:=hr'.is w o m (hs m h hm)
 subst e1
 have hrun:=z9q (P:=P) (T:=T) (w:=w) (a:=a) (mx:=none) hu hz hf (hl.bd h0) (hr.bd (by omega)) rfl (by omega) (by omega) e2
 simp only [Option.map_none] at hrun
 simp [execOp,hf x _ hx,hrun,subS]
theorem zdq (s:List UInt8) (l r:Nat) (h1:l≤r) (h2:r≤s.length):(bs s).extract l r=bs ((s.take r).drop l):=by
 simp only [bs]
 apply ByteArray.ext
 simp [ByteArray.data_extract,List.drop_take]
theorem zdc {T:TypeId} {x:Operand} {s:List UInt8} {lo hi:Option Operand} {l r:Int} (hu:∀ w,(underlying T).run P w = .ok .string w) (hx:V.ev x=some (.string (bs s))) (hl:Bi V lo 0 l) (hr:Bi V hi s.length r)
  (h0:0≤l) (h1:l≤r) (h2:r≤(s.length:Int)):OpY P ⟨d,.slice T x lo hi none,ty,pos,af,g⟩ V H (.string (bs ((s.take r.toNat).drop l.toNat))):=by
 intro ρ w o hf hbd hs
 have hsz:=zae s
 have hex:=zdq s l.toNat r.toNat (by omega) (by omega)
 have hb1:∀ (kd:IntKind) (c:BoundsCode),(Instr.sliceBound (.int kd r) s.length c).run P w = .ok r.toNat w:=fun kd c=>by simp [Instr.sliceBound,asIntOf]; omega
 have hb2:∀ (kd:IntKind) (c:BoundsCode),(Instr.sliceBound (.int kd l) r.toNat c).run P w = .ok l.toNat w:=fun kd c=>by simp [Instr.sliceBound,asIntOf]; omega
 rcases hl with ⟨rfl,rfl⟩ | ⟨y,kd,rfl,hy⟩ <;> rcases hr with ⟨rfl,rfl⟩ | ⟨y',kd',rfl,hy'⟩
 ·simp at hex
  simp [execOp,hf x _ hx,Instr.sliceAt,Instr.slice,hu,Instr.sliceBounds,hsz,hex]
 ·simp at hex
  simp [execOp,hf x _ hx,Instr.sliceAt,Instr.slice,hu,Instr.sliceBounds,hsz,hf _ _ hy',hb1,hex]
 ·simp at hex hb2
  simp [execOp,hf x _ hx,Instr.sliceAt,Instr.slice,hu,Instr.sliceBounds,hsz,hf _ _ hy,hb2,hex]
 ·simp [execOp,hf x _ hx,Instr.sliceAt,Instr.slice,hu,Instr.sliceBounds,hsz,hf _ _ hy,hf _ _ hy',hb1,hb2,hex]
theorem zbd {α:Type} {F:α→List Value} (l:List α) (a b:Nat):((l.map F).take b).drop a=((l.take b).drop a).map F:=by rw [List.map_drop,List.map_take]
end
theorem z97 {r:Option Nat} {P:Program} {ops:Array Oper} {Q:Exit→Act→World→Prop} {S S' : Array Bool→World→Prop} (h:∀ L w,S' L w→S L w):∀ (fuel:Nat) (listed:Array Bool) (a:Act) (w:World),
  z6U r P ops Q S' fuel listed a w→z6U r P ops Q S fuel listed a w
 | 0,_,_,_,hh=>hh
 | fuel+1,_,_,_,hh=>⟨hh.1,fun i hi=>z8N (fun a' w' ⟨h1,h2⟩=>⟨h _ w' h1,z97 h fuel _ a' w' h2⟩) (hh.2 i hi)⟩
end Go.Abs
namespace Go.Abs
variable {E : Env} {k : List KI} {V : VF} {H : List HA}
def ownX (sh:List (Nat×Nat)) (o:Own):Own:=fun b=>match o b with
  | .mine m => match sh.findIdx? (fun s => s.2 == 2 && s.1 == m) with
    | some j=>.mine j
    | none=>if sh.any (fun s=>s.2 == 1 && s.1 == m) then .no else .far
  | x=>x
def okX (sh:List (Nat×Nat)):Bool:=(List.range sh.length).all fun j=>match sh[j]? with
 | some (m,mode)=>if mode == 2 then sh.findIdx? (fun s=>s.2 == 2 && s.1 == m) == some j else
  if mode == 1 then (sh.findIdx? (fun s=>s.2 == 2 && s.1 == m)).isNone else true
 | none=>true
def z4H (H:List HA) (sh:List (Nat×Nat)) (Hc:List HA):Prop:=
 sh.length=Hc.length∧∀ (j m mode:Nat) (h:HA),sh[j]? = some (m,mode)→Hc[j]? = some h→∃ h',H[m]? = some h'∧(if mode=2 then h'=h else Views h' h (mode == 1))
theorem z7h:z4H H [] []:=⟨rfl,fun j m mode h hj=>by simp at hj⟩
theorem z92 {sh:List (Nat×Nat)} {Hc:List HA} {h' h:HA} (m:Nat) (hm:H[m]? = some h') (hv:Views h' h false) (hr:z4H H sh Hc):z4H H ((m,0)::sh) (h::Hc):=by
 refine ⟨by simp [hr.1],fun j m' mode x hj hx=>?_⟩
 cases j with
 | zero=>simp at hj hx; obtain ⟨rfl,rfl⟩:=hj; subst hx; exact ⟨h',hm,hv⟩
 | succ j=>exact hr.2 j m' mode x (by simpa using hj) (by simpa using hx)
theorem z91 {sh:List (Nat×Nat)} {Hc:List HA} {h' h:HA} (m:Nat) (hm:H[m]? = some h') (hv:Views h' h true) (hr:z4H H sh Hc):z4H H ((m,1)::sh) (h::Hc):=by
 refine ⟨by simp [hr.1],fun j m' mode x hj hx=>?_⟩
 cases j with
 | zero=>simp at hj hx; obtain ⟨rfl,rfl⟩:=hj; subst hx; exact ⟨h',hm,hv⟩
 | succ j=>exact hr.2 j m' mode x (by simpa using hj) (by simpa using hx)
theorem z4E {sh:List (Nat×Nat)} {Hc:List HA} {h:HA} (m:Nat) (hm:H[m]? = some h) (hr:z4H H sh Hc):z4H H ((m,2)::sh) (h::Hc):=by
 refine ⟨by simp [hr.1],fun j m' mode x hj hx=>?_⟩
 cases j with
 | zero=>simp at hj hx; obtain ⟨rfl,rfl⟩:=hj; subst hx; exact ⟨h,hm,rfl⟩
 | succ j=>exact hr.2 j m' mode x (by simpa using hj) (by simpa using hx)
def zX (sh:List (Nat×Nat)) (H:List HA):List HA:=sh.foldl (fun H s=>if s.2 == 2 then H.set s.1 HA.emp else H) H
theorem z4t:∀ (sh:List (Nat×Nat)) (H:List HA),(zX sh H).length=H.length
  | [],H=>rfl
  | s :: sh, H => by
    unfold zX
    rw [List.foldl_cons]
    have:=z4t sh (if s.2 == 2 then H.set s.1 HA.emp else H)
    unfold zX at this
    rw [this]; split <;> simp
theorem z7a:∀ (sh:List (Nat×Nat)) (H:List HA) (m:Nat) (h:HA),(zX sh H)[m]? = some h→h=HA.emp∨(H[m]? = some h∧∀ s∈sh,s.2=2→s.1≠m)
  | [],H,m,h,hm=>.inr ⟨hm,by simp⟩
  | s :: sh, H, m, h, hm => by
    unfold zX at hm
    rw [List.foldl_cons] at hm
    rcases z7a sh _ m h hm with h1 | ⟨h1,h2⟩
    · exact .inl h1
    · by_cases hs:s.2=2
      · simp only [hs,beq_self_eq_true,if_true] at h1
        by_cases he:s.1=m
        · left
          subst he
          rw [List.getElem?_set] at h1
          simp at h1
          exact h1.2.symm
        · rw [List.getElem?_set_ne he] at h1
          exact .inr ⟨h1,fun x hx h3=>by
            rcases List.mem_cons.1 hx with rfl | hx
            · exact he
            · exact h2 x hx h3⟩
      · have:(s.2 == 2)=false:=by simpa using hs
        simp only [this] at h1
        exact .inr ⟨h1,fun x hx h3=>by
          rcases List.mem_cons.1 hx with rfl | hx
          · exact absurd h3 hs
          · exact h2 x hx h3⟩
theorem z9Q {P:Program} {d:Option Nat} {ty:TypeId} {pos:String} {af:Array Edge} {g:Option (Nat×Bool)} {fx:Operand} {f:FuncId} {xs:Array Operand} {Ts:Array TypeId} {vs cs:List Value} {Hc:List HA} {post:Post}
    (sh:List (Nat×Nat)) (hfx:V.ev fx=some (.func (.func f) #[] cs.toArray)) (hcall:∀ args w,(callFunc f args).run P w = .ok (.enter f args) w)
    (hxs:xs.toList.map V.ev=vs.map some) (hc:Meets P f (vs++cs) Hc post) (hsh:z4H H sh Hc) (hok:okX sh=true)
    (hst:(sh.all fun s=>s.2 != 1)=true∨∀ v G,post v G→∀ g∈G,g.Strict) :
    OpT P ⟨d,.call ⟨.value fx,xs,Ts⟩,ty,pos,af,g⟩ V H (fun v' H'=>∃ G,post v' G∧H'=zX sh H++G):=by
  intro ρ w o hf hbd hs
  have hargs:(xs.map ρ)=vs.toArray:=by
    apply Array.ext'
    rw [Array.toList_map]
    generalize xs.toList=l at hxs
    clear hc
    induction l generalizing vs with
    | nil=>cases vs <;> simp_all
    | cons x r ih =>
      cases vs with
      | nil=>simp at hxs
      | cons v vs =>
        simp only [List.map_cons,List.cons.injEq] at hxs ⊢
        exact ⟨hf _ _ hxs.1,ih hxs.2⟩
  have hrun:(execOp ρ ⟨d,.call ⟨.value fx,xs,Ts⟩,ty,pos,af,g⟩).run P w = .ok (.enter f (vs++cs).toArray) w:=by
    simp [execOp,resolve,invoke,Deferred.ofValue,hf fx _ hfx,hargs,hcall]
  unfold Does
  rw [hrun]
  have hoc:∀ b,o b = .no→ownX sh o b = .no:=fun b hb=>by simp [ownX,hb]
  have hall:=List.all_eq_true.1 hok
  have hfar:∀ b,o b = .far→ownX sh o b = .far:=fun b hb=>by simp [ownX,hb]
  -- who holds a block of the caller's own during the call
  have hmine:∀ b m,o b = .mine m→(∃ j,sh.findIdx? (fun s=>s.2 == 2 && s.1 == m)=some j∧ownX sh o b = .mine j)∨
      (sh.findIdx? (fun s=>s.2 == 2 && s.1 == m)=none∧((ownX sh o b = .no∧(sh.any fun s=>s.2 == 1 && s.1 == m)=true)∨ownX sh o b = .far)):=by
    intro b m hb
    simp only [ownX,hb]
    cases hfi:sh.findIdx? (fun s=>s.2 == 2 && s.1 == m) with
    | some j=>exact .inl ⟨j,rfl,rfl⟩
    | none =>
      right
      refine ⟨rfl,?_⟩
      simp only []
      split
      · rename_i h; exact .inl ⟨rfl,h⟩
      · exact .inr rfl
  refine (hc w (ownX sh o) (fun b hb=>hoc b (hbd b hb)) ?_).mono ?_
  · intro j h hj
    have hlt:j<sh.length:=by rw [hsh.1]; exact (List.getElem?_eq_some_iff.1 hj).1
    obtain ⟨⟨m,mode⟩,hsj⟩ : ∃ s,sh[j]? = some s:=⟨_,List.getElem?_eq_getElem hlt⟩
    obtain ⟨h',hm,hv⟩:=hsh.2 j m mode h hsj hj
    have hchk:=hall j (by simp [hlt])
    rw [hsj] at hchk
    simp only at hchk
    by_cases h2:mode=2
    · subst h2
      simp only [if_true] at hv
      subst hv
      simp only [beq_self_eq_true,if_true,beq_iff_eq] at hchk
      exact h'.keep (Nat.le_refl _) (fun b _ hb=>⟨by simp only [ownX,hb,hchk],rfl⟩) (fun b _ hb=>⟨hoc b hb,rfl⟩) (hs _ h' hm)
    · rw [if_neg h2] at hv
      refine hv w o _ _ j (fun b _=>hoc b) (fun hl b _ hb=>?_) (hs _ h' hm)
      have h1:mode=1:=by simpa using hl
      subst h1
      simp only [show ((1:Nat) == 2)=false from rfl,beq_self_eq_true,if_true,Bool.false_eq_true,if_false,Option.isNone_iff_eq_none] at hchk
      rcases hmine b m hb with ⟨j',hj',_⟩ | ⟨_,h3 | h3⟩
      · rw [hchk] at hj'; cases hj'
      · exact h3.1
      · exfalso
        simp only [ownX,hb] at h3
        rw [hchk] at h3
        simp only at h3
        rw [if_pos (List.any_eq_true.2 ⟨(m,1),List.mem_of_getElem? hsj,by simp⟩)] at h3
        cases h3
  · rintro e w' ⟨v,G,o',rfl,hp,hb',ht,hs'⟩
    let o2 : Own := fun b => if b < w.heap.size then (match o b with
        | .mine m=>if (sh.findIdx? (fun s=>s.2 == 2 && s.1 == m)).isSome then (match o' b with | .mine j=>.mine (H.length+j) | _=>.no) else .mine m
        | x=>x) else match o' b with | .mine j=>.mine (H.length+j) | _=>.no
    -- what is not lent is as it was
    have keepb:∀ b,b<w.heap.size→(∀ m,o b = .mine m→sh.findIdx? (fun s=>s.2 == 2 && s.1 == m)=none)→o2 b=o b∧w'.heap[b]? = w.heap[b]?:=by
      intro b hlt hnl
      cases hob:o b with
      | no=>exact ⟨by simp [o2,hlt,hob],(ht.no b hlt (hoc b hob)).2⟩
      | far=>exact ⟨by simp [o2,hlt,hob],(ht.far b hlt (hfar b hob)).2⟩
      | mine m =>
        have hn:=hnl m hob
        refine ⟨by simp [o2,hlt,hob,hn],?_⟩
        rcases hmine b m hob with ⟨j,hj,_⟩ | ⟨_,h3 | h3⟩
        · rw [hn] at hj; cases hj
        · exact (ht.no b hlt h3.1).2
        · exact (ht.far b hlt h3).2
    have hG:∀ j b,o' b = .mine j→o2 b = .mine (H.length+j):=by
      intro j b he
      by_cases hlt:b<w.heap.size
      · cases hob:o b with
        | no=>have:=(ht.no b hlt (hoc b hob)).1; rw [he] at this; cases this
        | far=>have:=(ht.far b hlt (hfar b hob)).1; rw [he] at this; cases this
        | mine m =>
          rcases hmine b m hob with ⟨j',hj',_⟩ | ⟨hn,h3 | h3⟩
          · simp [o2,hlt,hob,hj',he]
          · have:=(ht.no b hlt h3.1).1; rw [he] at this; cases this
          · have:=(ht.far b hlt h3).1; rw [he] at this; cases this
      · simp [o2,hlt,he]
    refine ⟨v,rfl,zX sh H++G,o2,⟨G,hp,rfl⟩,?_,?_,?_⟩
    · intro b hle
      have hsz:=ht.size
      have:¬ b<w.heap.size:=by omega
      simp [o2,this,hb' b hle]
    · refine ⟨ht.os,ht.tape,ht.output,ht.size,fun b hlt hb=>?_,fun b hlt hb=>?_⟩
      · have:=keepb b hlt (fun m hm=>by rw [hb] at hm; cases hm)
        exact ⟨this.1.trans hb,this.2⟩
      · have:=keepb b hlt (fun m hm=>by rw [hb] at hm; cases hm)
        exact ⟨this.1.trans hb,this.2⟩
    · intro j h hj
      rw [List.getElem?_append] at hj
      split at hj
      · rename_i hlt0
        rcases z7a sh H j h hj with rfl | ⟨hj1,hj2⟩
        · trivial
        · refine h.keep ht.size (fun b hlt hb=>?_) (fun b hlt hb=>?_) (hs j h hj1)
          · have:=keepb b hlt (fun m hm=>by
              rw [hb] at hm; injection hm with hm; subst hm
              rw [List.findIdx?_eq_none_iff]
              intro s hsm
              by_cases h2:s.2=2
              · have:=hj2 s hsm h2; simp [this]
              · simp [h2])
            exact ⟨this.1.trans hb,this.2⟩
          · have:=keepb b hlt (fun m hm=>by rw [hb] at hm; cases hm)
            exact ⟨this.1.trans hb,this.2⟩
      · rename_i hge
        rw [z4t] at hge hj
        have hjj:H.length+(j - H.length)=j:=by omega
        have hp':=hs' _ h hj
        rcases hst with hst | hst
        · refine h.keep (Nat.le_refl _) (fun b _ hb=>⟨by rw [hG _ b hb,hjj],rfl⟩) (fun b hlt hb=>⟨?_,rfl⟩) hp'
          by_cases hlt' : b<w.heap.size
          · cases hob:o b with
            | no=>simp [o2,hlt',hob]
            | far=>have:=(ht.far b hlt' (hfar b hob)).1; rw [hb] at this; cases this
            | mine m =>
              rcases hmine b m hob with ⟨j',hj',_⟩ | ⟨hn,h3 | h3⟩
              · simp [o2,hlt',hob,hj',hb]
              · exfalso
                obtain ⟨s,hsm,hs2⟩:=List.any_eq_true.1 h3.2
                have:=List.all_eq_true.1 hst s hsm
                simp at this hs2
                exact this hs2.1
              · have:=(ht.far b hlt' h3).1; rw [hb] at this; cases this
          · simp [o2,hlt',hb]
        · have hgm:h∈G:=List.mem_of_getElem? hj
          exact hst v G hp h hgm w' o' _ o2 j (fun b _ hb=>by rw [hG _ b hb,hjj]) hp'
end Go.Abs
namespace Go.Abs
variable {E : Env} {k : List KI} {V : VF} {H : List HA}
def DoesP (P:Program) (s:Sem Next) (w:World) (D Dp:Value→World→Prop):Prop:=
 match s.run P w with
 | .ok (.enter f args) w'=>Calls P f args w' (fun e w''=>(∃ v,e = .returned v∧D v w'')∨∃ v,e = .panicked [{ v:=v,recovered:=false }]∧Dp v w'')
 | _=>False
def OpTP (P:Program) (op:Oper) (V:VF) (H:List HA) (post:Post) (pan:Value→Prop) (Hp:List HA):Prop:=
  ∀ ρ w o, Fits V ρ → Bnd w o → Sats w o H →
    DoesP P (execOp ρ op) w (fun v w'=>∃ H' o',post v H'∧Bnd w' o'∧Tr w o w' o'∧Sats w' o' H') (fun v w'=>pan v∧∃ o',Bnd w' o'∧Tr w o w' o'∧Sats w' o' Hp)
theorem DoesP.semAt {P:Program} {op:Oper} {ρ:Operand→Value} {w:World} {D Dp:Value→World→Prop} (r:Option Nat) (h:DoesP P (execOp ρ op) w D Dp):op.semAt r ρ=execOp ρ op:=by
 refine Oper.semAt_eq r ρ op fun c hc=>?_
 unfold DoesP execOp at h
 rw [hc] at h
 simp only [Sem.run_bind] at h
 cases hx:(resolve ρ c op.type).run P w with
 | halt x w'=>simp [hx,Result.andThen] at h
 | ok d w'=>simp [hx,Result.andThen] at h
theorem z8w {c:List PanicEntry}:∀ (k:List KI) (a:Act) (w:World),E.B (.panic c) a w→Qof E k (.panic c) a w
 | [],_,_,q=>q
 | .code _::k,a,w,q=>z8w k a w q
 | .scope::k,a,w,q=>z8w k a w q
 | .loop _::k,a,w,q=>z8w k a w q
 | .blk _::k,a,w,q=>z8w k a w q
theorem zbI {ops:Array Oper} {op:Oper} {rest:List Oper} {post:Post} {pan:Value→Prop} {Hp:List HA} (hw:Wants E.n ops V op) (hd:inB E.n op.dst=true) (h:OpTP E.P op V H post pan Hp)
    (hk:∀ v H',post v H'→Ops E ops rest k (V.put op.dst v) H') (hp:∀ v,pan v→FinP E V Hp v):Ops E ops (op::rest) k V H:=by
  intro a w r
  unfold wpListIn
  rw [if_pos (hw.wanted r)]
  have hf:=r.fits
  obtain ⟨h1,h2,h3,o,hb,ht,hs⟩:=r
  have:=h a.eval w o hf hb hs
  unfold Oper.wpIn
  refine ⟨fun _ _=>trivial,?_⟩
  rw [DoesP.semAt _ this]
  unfold DoesP at this
  generalize (execOp a.eval op).run E.P w=x at *
  cases x with
  | halt x w'=>simp at this
  | ok nx w' =>
    cases nx <;> simp only [Oper.uponIn] at this ⊢
    case enter f args=>
      refine ⟨(fun h=>nomatch h),CallsIn.mono (F:=FR E.r) (callsIn_wide.2 this) ?_⟩
      rintro e w'' (⟨v,rfl,H',o',hp',hb',ht',hs'⟩ | ⟨v,rfl,hv,o',hb',ht',hs'⟩)
      · exact hk v H' hp' _ _ (Rel.put h1 h2 h3 hd hb' ht ht' hs')
      · exact z8w k a w'' (hp v hv a w'' (Rel.put (d:=none) (v:=undef) h1 h2 h3 rfl hb' ht ht' hs'))
def EndsG (w:World) (o:Own) (post:Post) (pan:Value→List HA→Prop) (e:Ending) (w' : World):Prop:=
 Ends w o post e w'∨∃ v G o',e = .panicked [{ v:=v,recovered:=false }]∧pan v G∧Bnd w' o'∧Tr w o w' o'∧Sats w' o' G
def z9d (P:Program) (f:FuncId) (args:List Value) (H:List HA) (post:Post) (pan:Value→List HA→Prop):Prop:=
 ∀ w o,Bnd w o→Sats w o H→Calls P f args.toArray w (EndsG w o post pan)
theorem z60.g {P:Program} {f:FuncId} {args:List Value} {H:List HA} {post:Post} {pan:Value→Prop} (h:z60 P f args H post pan):z9d P f args H post (fun v G=>pan v∧G=[]):=fun w o hb hs=>
 (h w o hb hs).mono fun e w' h=>h.imp id fun ⟨v,o',h1,h2,h3,h4⟩=>⟨v,[],o',h1,⟨h2,rfl⟩,h3,h4,fun _ _ hj=>by simp at hj⟩
def OpTG (P:Program) (op:Oper) (V:VF) (H:List HA) (post:Post) (pan:Value→List HA→Prop):Prop:=
  ∀ ρ w o, Fits V ρ → Bnd w o → Sats w o H →
    DoesP P (execOp ρ op) w (fun v w'=>∃ H' o',post v H'∧Bnd w' o'∧Tr w o w' o'∧Sats w' o' H') (fun v w'=>∃ H' o',pan v H'∧Bnd w' o'∧Tr w o w' o'∧Sats w' o' H')
theorem znF {ops:Array Oper} {op:Oper} {rest:List Oper} {post:Post} {pan:Value→List HA→Prop} (hw:Wants E.n ops V op) (hd:inB E.n op.dst=true) (h:OpTG E.P op V H post pan)
    (hk:∀ v H',post v H'→Ops E ops rest k (V.put op.dst v) H') (hp:∀ v H',pan v H'→FinP E V H' v):Ops E ops (op::rest) k V H:=by
  intro a w r
  unfold wpListIn
  rw [if_pos (hw.wanted r)]
  have hf:=r.fits
  obtain ⟨h1,h2,h3,o,hb,ht,hs⟩:=r
  have:=h a.eval w o hf hb hs
  unfold Oper.wpIn
  refine ⟨fun _ _=>trivial,?_⟩
  rw [DoesP.semAt _ this]
  unfold DoesP at this
  generalize (execOp a.eval op).run E.P w=x at *
  cases x with
  | halt x w'=>simp at this
  | ok nx w' =>
    cases nx <;> simp only [Oper.uponIn] at this ⊢
    case enter f args=>
      refine ⟨(fun h=>nomatch h),CallsIn.mono (F:=FR E.r) (callsIn_wide.2 this) ?_⟩
      rintro e w'' (⟨v,rfl,H',o',hp',hb',ht',hs'⟩ | ⟨v,rfl,H',o',hv,hb',ht',hs'⟩)
      · exact hk v H' hp' _ _ (Rel.put h1 h2 h3 hd hb' ht ht' hs')
      · exact z8w k a w'' (hp v H' hv a w'' (Rel.put (d:=none) (v:=undef) h1 h2 h3 rfl hb' ht ht' hs'))
theorem zh6 {P:Program} {d:Option Nat} {ty:TypeId} {pos:String} {af:Array Edge} {g:Option (Nat×Bool)} {fx:Operand} {f:FuncId} {xs:Array Operand} {Ts:Array TypeId} {vs cs:List Value} {Hc:List HA} {post:Post} {pan:Value→List HA→Prop}
    (sh:List (Nat×Nat)) (hfx:V.ev fx=some (.func (.func f) #[] cs.toArray)) (hcall:∀ args w,(callFunc f args).run P w = .ok (.enter f args) w)
    (hxs:xs.toList.map V.ev=vs.map some) (hc:z9d P f (vs++cs) Hc post pan) (hsh:z4H H sh Hc) (hok:okX sh=true)
    (hst:(sh.all fun s=>s.2 != 1)=true∨∀ v G,post v G→∀ g∈G,g.Strict) (hsp:(sh.all fun s=>s.2 != 1)=true∨∀ v G,pan v G→∀ g∈G,g.Strict) :
    OpTG P ⟨d,.call ⟨.value fx,xs,Ts⟩,ty,pos,af,g⟩ V H (fun v' H'=>∃ G,post v' G∧H'=zX sh H++G) (fun v' H'=>∃ G,pan v' G∧H'=zX sh H++G):=by
  intro ρ w o hf hbd hs
  have hargs:(xs.map ρ)=vs.toArray:=by
    apply Array.ext'
    rw [Array.toList_map]
    generalize xs.toList=l at hxs
    clear hc
    induction l generalizing vs with
    | nil=>cases vs <;> simp_all
    | cons x r ih =>
      cases vs with
      | nil=>simp at hxs
      | cons v vs =>
        simp only [List.map_cons,List.cons.injEq] at hxs ⊢
        exact ⟨hf _ _ hxs.1,ih hxs.2⟩
  have hrun:(execOp ρ ⟨d,.call ⟨.value fx,xs,Ts⟩,ty,pos,af,g⟩).run P w = .ok (.enter f (vs++cs).toArray) w:=by
    simp [execOp,resolve,invoke,Deferred.ofValue,hf fx _ hfx,hargs,hcall]
  unfold DoesP
  rw [hrun]
  have hoc:∀ b,o b = .no→ownX sh o b = .no:=fun b hb=>by simp [ownX,hb]
  have hall:=List.all_eq_true.1 hok
  have hfar:∀ b,o b = .far→ownX sh o b = .far:=fun b hb=>by simp [ownX,hb]
  -- who holds a block of the caller's own during the call
  have hmine:∀ b m,o b = .mine m→(∃ j,sh.findIdx? (fun s=>s.2 == 2 && s.1 == m)=some j∧ownX sh o b = .mine j)∨
      (sh.findIdx? (fun s=>s.2 == 2 && s.1 == m)=none∧((ownX sh o b = .no∧(sh.any fun s=>s.2 == 1 && s.1 == m)=true)∨ownX sh o b = .far)):=by
    intro b m hb
    simp only [ownX,hb]
    cases hfi:sh.findIdx? (fun s=>s.2 == 2 && s.1 == m) with
    | some j=>exact .inl ⟨j,rfl,rfl⟩
    | none =>
      right
      refine ⟨rfl,?_⟩
      simp only []
      split
      · rename_i h; exact .inl ⟨rfl,h⟩
      · exact .inr rfl
  have core:∀ (G:List HA) (w' : World) (o' : Own),((sh.all fun s=>s.2 != 1)=true∨∀ g∈G,g.Strict)→Bnd w' o'→Tr w (ownX sh o) w' o'→Sats w' o' G→∃ o2,Bnd w' o2∧Tr w o w' o2∧Sats w' o2 (zX sh H++G):=by
    intro G w' o' hst hb' ht hs'
    let o2 : Own := fun b => if b < w.heap.size then (match o b with
        | .mine m=>if (sh.findIdx? (fun s=>s.2 == 2 && s.1 == m)).isSome then (match o' b with | .mine j=>.mine (H.length+j) | _=>.no) else .mine m
        | x=>x) else match o' b with | .mine j=>.mine (H.length+j) | _=>.no
    -- what is not lent is as it was
    have keepb:∀ b,b<w.heap.size→(∀ m,o b = .mine m→sh.findIdx? (fun s=>s.2 == 2 && s.1 == m)=none)→o2 b=o b∧w'.heap[b]? = w.heap[b]?:=by
      intro b hlt hnl
      cases hob:o b with
      | no=>exact ⟨by simp [o2,hlt,hob],(ht.no b hlt (hoc b hob)).2⟩
      | far=>exact ⟨by simp [o2,hlt,hob],(ht.far b hlt (hfar b hob)).2⟩
      | mine m =>
        have hn:=hnl m hob
        refine ⟨by simp [o2,hlt,hob,hn],?_⟩
        rcases hmine b m hob with ⟨j,hj,_⟩ | ⟨_,h3 | h3⟩
        · rw [hn] at hj; cases hj
        · exact (ht.no b hlt h3.1).2
        · exact (ht.far b hlt h3).2
    have hG:∀ j b,o' b = .mine j→o2 b = .mine (H.length+j):=by
      intro j b he
      by_cases hlt:b<w.heap.size
      · cases hob:o b with
        | no=>have:=(ht.no b hlt (hoc b hob)).1; rw [he] at this; cases this
        | far=>have:=(ht.far b hlt (hfar b hob)).1; rw [he] at this; cases this
        | mine m =>
          rcases hmine b m hob with ⟨j',hj',_⟩ | ⟨hn,h3 | h3⟩
          · simp [o2,hlt,hob,hj',he]
          · have:=(ht.no b hlt h3.1).1; rw [he] at this; cases this
          · have:=(ht.far b hlt h3).1; rw [he] at this; cases this
      · simp [o2,hlt,he]
    refine ⟨o2,?_,?_,?_⟩
    · intro b hle
      have hsz:=ht.size
      have:¬ b<w.heap.size:=by omega
      simp [o2,this,hb' b hle]
    · refine ⟨ht.os,ht.tape,ht.output,ht.size,fun b hlt hb=>?_,fun b hlt hb=>?_⟩
      · have:=keepb b hlt (fun m hm=>by rw [hb] at hm; cases hm)
        exact ⟨this.1.trans hb,this.2⟩
      · have:=keepb b hlt (fun m hm=>by rw [hb] at hm; cases hm)
        exact ⟨this.1.trans hb,this.2⟩
    · intro j h hj
      rw [List.getElem?_append] at hj
      split at hj
      · rename_i hlt0
        rcases z7a sh H j h hj with rfl | ⟨hj1,hj2⟩
        · trivial
        · refine h.keep ht.size (fun b hlt hb=>?_) (fun b hlt hb=>?_) (hs j h hj1)
          · have:=keepb b hlt (fun m hm=>by
              rw [hb] at hm; injection hm with hm; subst hm
              rw [List.findIdx?_eq_none_iff]
              intro s hsm
              by_cases h2:s.2=2
              · have:=hj2 s hsm h2; simp [this]
              · simp [h2])
            exact ⟨this.1.trans hb,this.2⟩
          · have:=keepb b hlt (fun m hm=>by rw [hb] at hm; cases hm)
            exact ⟨this.1.trans hb,this.2⟩
      · rename_i hge
        rw [z4t] at hge hj
        have hjj:H.length+(j - H.length)=j:=by omega
        have hp':=hs' _ h hj
        rcases hst with hst | hst
        · refine h.keep (Nat.le_refl _) (fun b _ hb=>⟨by rw [hG _ b hb,hjj],rfl⟩) (fun b hlt hb=>⟨?_,rfl⟩) hp'
          by_cases hlt' : b<w.heap.size
          · cases hob:o b with
            | no=>simp [o2,hlt',hob]
            | far=>have:=(ht.far b hlt' (hfar b hob)).1; rw [hb] at this; cases this
            | mine m =>
              rcases hmine b m hob with ⟨j',hj',_⟩ | ⟨hn,h3 | h3⟩
              · simp [o2,hlt',hob,hj',hb]
              · exfalso
                obtain ⟨s,hsm,hs2⟩:=List.any_eq_true.1 h3.2
                have:=List.all_eq_true.1 hst s hsm
                simp at this hs2
                exact this hs2.1
              · have:=(ht.far b hlt' h3).1; rw [hb] at this; cases this
          · simp [o2,hlt',hb]
        · have hgm:h∈G:=List.mem_of_getElem? hj
          exact hst h hgm w' o' _ o2 j (fun b _ hb=>by rw [hG _ b hb,hjj]) hp'
  refine (hc w (ownX sh o) (fun b hb=>hoc b (hbd b hb)) ?_).mono ?_
  · intro j h hj
    have hlt:j<sh.length:=by rw [hsh.1]; exact (List.getElem?_eq_some_iff.1 hj).1
    obtain ⟨⟨m,mode⟩,hsj⟩ : ∃ s,sh[j]? = some s:=⟨_,List.getElem?_eq_getElem hlt⟩
    obtain ⟨h',hm,hv⟩:=hsh.2 j m mode h hsj hj
    have hchk:=hall j (by simp [hlt])
    rw [hsj] at hchk
    simp only at hchk
    by_cases h2:mode=2
    · subst h2
      simp only [if_true] at hv
      subst hv
      simp only [beq_self_eq_true,if_true,beq_iff_eq] at hchk
      exact h'.keep (Nat.le_refl _) (fun b _ hb=>⟨by simp only [ownX,hb,hchk],rfl⟩) (fun b _ hb=>⟨hoc b hb,rfl⟩) (hs _ h' hm)
    · rw [if_neg h2] at hv
      refine hv w o _ _ j (fun b _=>hoc b) (fun hl b _ hb=>?_) (hs _ h' hm)
      have h1:mode=1:=by simpa using hl
      subst h1
      simp only [show ((1:Nat) == 2)=false from rfl,beq_self_eq_true,if_true,Bool.false_eq_true,if_false,Option.isNone_iff_eq_none] at hchk
      rcases hmine b m hb with ⟨j',hj',_⟩ | ⟨_,h3 | h3⟩
      · rw [hchk] at hj'; cases hj'
      · exact h3.1
      · exfalso
        simp only [ownX,hb] at h3
        rw [hchk] at h3
        simp only at h3
        rw [if_pos (List.any_eq_true.2 ⟨(m,1),List.mem_of_getElem? hsj,by simp⟩)] at h3
        cases h3
  · rintro e w' (⟨v,G,o',rfl,hp,hb',ht,hs'⟩ | ⟨v,G,o',rfl,hp,hb',ht,hs'⟩)
    · obtain ⟨o2,q1,q2,q3⟩:=core G w' o' (hst.imp id fun h=>h v G hp) hb' ht hs'
      exact .inl ⟨v,rfl,_,o2,⟨G,hp,rfl⟩,q1,q2,q3⟩
    · obtain ⟨o2,q1,q2,q3⟩:=core G w' o' (hsp.imp id fun h=>h v G hp) hb' ht hs'
      exact .inr ⟨v,rfl,_,o2,⟨G,hp,rfl⟩,q1,q2,q3⟩
theorem zh7 {P:Program} {d:Option Nat} {ty:TypeId} {pos:String} {af:Array Edge} {g:Option (Nat×Bool)} {fx:Operand} {f:FuncId} {xs:Array Operand} {Ts:Array TypeId} {vs cs:List Value} {Hc:List HA} {post:Post} {pan:Value→Prop}
  (sh:List (Nat×Nat)) (hfx:V.ev fx=some (.func (.func f) #[] cs.toArray)) (hcall:∀ args w,(callFunc f args).run P w = .ok (.enter f args) w)
  (hxs:xs.toList.map V.ev=vs.map some) (hc:z60 P f (vs++cs) Hc post pan) (hsh:z4H H sh Hc) (hok:okX sh=true)
  (hst:(sh.all fun s=>s.2 != 1)=true∨∀ v G,post v G→∀ g∈G,g.Strict) :
  OpTP P ⟨d,.call ⟨.value fx,xs,Ts⟩,ty,pos,af,g⟩ V H (fun v' H'=>∃ G,post v' G∧H'=zX sh H++G) pan (zX sh H):=by
 intro ρ w o hf hbd hs
 have h:=zh6 (d:=d) (ty:=ty) (pos:=pos) (af:=af) (g:=g) (Ts:=Ts) sh hfx hcall hxs hc.g hsh hok hst (.inr fun v G hp g hg=>by rw [hp.2] at hg; simp at hg) ρ w o hf hbd hs
 unfold DoesP at h ⊢
 split
 ·rename_i f' args' w' e
  rw [e] at h
  refine Calls.mono h fun e w2 h2=>h2.imp id fun ⟨v,h3,H',o',⟨G,⟨h4,h5⟩,h6⟩,h7,h8,h9⟩=>⟨v,h3,h4,o',h7,h8,?_⟩
  rw [h6,h5,List.append_nil] at h9
  exact h9
 ·rename_i hx
  split at h
  ·exact absurd (by assumption) (hx _ _ _)
  ·exact h
theorem zfY {ops:Array Oper} {op:Oper} {rest:List Oper} (v:Value) (hw:Wants E.n ops V op) (h:∀ ρ w o,Fits V ρ→Sats w o H→op.semAt E.r ρ=execOp ρ op∧(execOp ρ op).run E.P w = .halt (.panic v) w) (hp:FinP E V H v):Ops E ops (op::rest) k V H:=by
 intro a w r
 unfold wpListIn
 rw [if_pos (hw.wanted r)]
 have hf:=r.fits
 obtain ⟨o,hb,ht,hs⟩:=r.2.2.2
 obtain ⟨e1,e2⟩:=h a.eval w o hf hs
 unfold Oper.wpIn
 refine ⟨fun _ _=>trivial,?_⟩
 have e1' : op.semAt (FR E.r).round a.eval=execOp a.eval op:=e1
 rw [e1',e2]
 exact z8w k a w (hp a w r)
end Go.Abs
namespace Go.Abs
variable {E : Env} {k : List KI} {V : VF} {H : List HA}
inductive Pn (R:Type) where
 | ret (r:R)
 | pan (e:Int)
def pbind {A R:Type} (x:Pn A) (f:Int→Option R) (g:A→Option R):Option R:=match x with
 | .ret a=>g a
 | .pan e=>f e
end Go.Abs
namespace Go.Abs
variable {E : Env} {k : List KI} {V : VF} {H : List HA}
theorem ziq {P:Program} {r:Option Nat} {d:Option Nat} {ty:TypeId} {pos:String} {af:Array Edge} {g:Option (Nat×Bool)} {x:Operand} {T:TypeId} {u:Value} (hx:V.ev x=some (.iface T u)) :
  ∀ ρ w o,Fits V ρ→Sats w o H→Oper.semAt r ρ ⟨d,.panic x,ty,pos,af,g⟩=execOp ρ ⟨d,.panic x,ty,pos,af,g⟩∧(execOp ρ ⟨d,.panic x,ty,pos,af,g⟩).run P w = .halt (.panic (.iface T u)) w:=by
 intro ρ w o hf _
 refine ⟨Oper.semAt_eq _ _ _ (fun c hc=>(by cases hc)),?_⟩
 simp [execOp,hf x _ hx,Instr.panic]
end Go.Abs
namespace Go.Abs
variable {E : Env} {k : List KI} {V : VF} {H : List HA}
section
variable {P : Program} {d : Option Nat} {ty : TypeId} {pos : String} {af : Array Edge} {g : Option (Nat × Bool)}
theorem zbu {f:FuncId} {caps:Array Operand} {vs:List Value} (h:caps.toList.map V.ev=vs.map some):OpY P ⟨d,.makeFunc (.func f) #[] caps,ty,pos,af,g⟩ V H (.func (.func f) #[] vs.toArray):=by
  intro ρ w o hf _ _
  have:caps.map ρ=vs.toArray:=by
    apply Array.ext'
    rw [Array.toList_map]
    generalize caps.toList=l at h
    induction l generalizing vs with
    | nil=>cases vs <;> simp_all
    | cons x r ih =>
      cases vs with
      | nil=>simp at h
      | cons v vs =>
        simp only [List.map_cons,List.cons.injEq] at h ⊢
        exact ⟨hf _ _ h.1,ih h.2⟩
  simp [execOp,Instr.makeFunc,this]
end
def mget {κ β:Type} [DecidableEq κ]:List (κ×β)→κ→Option β
 | [],_=>none
 | p::r,k=>if p.1=k then some p.2 else mget r k
def mput {κ β:Type} [DecidableEq κ]:List (κ×β)→κ→β→List (κ×β)
 | [],k,v=>[(k,v)]
 | p::r,k,v=>if p.1=k then (k,v)::r else p::mput r k v
def mfind {κ β:Type} [DecidableEq κ]:List (κ×β)→κ→Nat→Option (Nat×β)
 | [],_,_=>none
 | p::r,k,i=>if p.1=k then some (i,p.2) else mfind r k (i+1)
theorem zaK {κ β:Type} [DecidableEq κ]:∀ (l:List (κ×β)) (k:κ) (i:Nat),(mfind l k i).map (·.2)=mget l k
  | [],_,_=>rfl
  | p :: r, k, i => by
    simp only [mfind,mget]
    split
    · rfl
    · exact zaK r k (i+1)
structure KeyOk {κ:Type} [DecidableEq κ] (ds:TypeDesc) (K:κ→Value):Prop where
 same:∀ a b,Instr.sameNow ds (K a) (K b)=some (decide (a=b))
 bits:∀ a n,Instr.sameBits n (K a) (K a)=true
 plain:∀ (P:Program) (t:TypeId),(∀ w,(underlying t).run P w = .ok ds w)→∀ e a w,(Instr.checkKey e 10000 t (K a)).run P w = .ok () w
theorem z88 (kd:IntKind):KeyOk (.int kd) (fun n:Int=>Value.int kd n):=
 ⟨fun a b=>by simp [Instr.sameNow,z7D],fun a n=>by cases n <;> simp [Instr.sameBits],fun P t h e a w=>by
  rw [show (10000:Nat)=9999+1 from rfl,Instr.checkKey]
  simp only [Sem.run_bind,h,Result.andThen_ok]; rfl⟩
theorem z89:KeyOk .string (fun l:List UInt8=>Value.string (bs l)):=
 ⟨fun a b=>by
  have:(bs a == bs b)=decide (a=b):=by show (a.toArray == b.toArray)=_; simp [z7D]
  simp [Instr.sameNow,this],fun a n=>by
  have:(bs a == bs a)=true:=by show (a.toArray == a.toArray)=_; simp
  cases n <;> simp [Instr.sameBits,this],fun P t h e a w=>by
  rw [show (10000:Nat)=9999+1 from rfl,Instr.checkKey]
  simp only [Sem.run_bind,h,Result.andThen_ok]; rfl⟩
section
variable {P : Program} {d : Option Nat} {ty : TypeId} {pos : String} {af : Array Edge} {g : Option (Nat × Bool)} {κ β : Type} [DecidableEq κ]
def mcells (K:κ→Value) (G:β→Value) (l:List (κ×β)):List (Value×Value):=l.map fun p=>(K p.1,G p.2)
def mapis (r:Nat) (kv:List (Value×Value)):HA:=
 ⟨fun w o k=>o r = .mine k∧r<w.heap.size∧∃ es clock,w.heap[r]? = some (.map es clock)∧es.toList.map (fun e=>(e.key,e.val))=kv∧(∀ e∈es.toList,e.born<clock)∧(es.toList.map fun e:MapEntry=>e.born).Nodup,fun hs h1 _ hc=>
  let ⟨e1,e2,es,cl,e3,e4⟩:=hc; let ⟨e5,e6⟩:=h1 r e2 e1; ⟨e5,Nat.lt_of_lt_of_le e2 hs,es,cl,e6.trans e3,e4⟩⟩
def mapV (r:Nat):Value:=.map (some r)
theorem zb7 {ds:TypeDesc} {K:κ→Value} {G:β→Value} (hK:KeyOk ds K) (k:κ):∀ (es:List MapEntry) (l:List (κ×β)) (i:Nat),es.map (fun e=>(e.key,e.val))=mcells K G l→
    Instr.findNow ds (K k) es i=some ((mfind l k i).map fun p=>(p.1,G p.2))
  | [], l, i, h => by
    cases l with
    | nil=>rfl
    | cons p r=>simp [mcells] at h
  | e :: es, l, i, h => by
    cases l with
    | nil=>simp [mcells] at h
    | cons p r =>
      simp only [mcells,List.map_cons,List.cons.injEq,Prod.mk.injEq] at h
      obtain ⟨⟨h1,h2⟩,h3⟩:=h
      simp only [Instr.findNow,mfind,h1,hK.same]
      by_cases hp:p.1=k
      · subst hp; simp [h2]
      · have:¬ k=p.1:=fun h=>hp h.symm
        simp only [this,decide_false,hp,if_false]
        exact zb7 hK k es r (i+1) h3
theorem z8q {w:World} {t:TypeId} {ds:TypeDesc} {K:κ→Value} {G:β→Value} (hK:KeyOk ds K) (hu:∀ w,(underlying t).run P w = .ok ds w) {es:List MapEntry} {l:List (κ×β)} (h:es.map (fun e=>(e.key,e.val))=mcells K G l) (k:κ) :
  (Instr.findKey t (K k) es).run P w = .ok ((mfind l k 0).map fun p=>(p.1,G p.2)) w:=by
 simp [Instr.findKey,hu,zb7 hK k es l 0 h]
theorem zbU {T kt el:TypeId} {ds:TypeDesc} {K:κ→Value} {G:β→Value} {x y:Operand} {r:Nat} {l:List (κ×β)} {k:κ} {d0:β} (m:Nat) (hK:KeyOk ds K) (hT:∀ w,(underlying T).run P w = .ok (.map kt el) w) (hk:∀ w,(underlying kt).run P w = .ok ds w)
    (hz:∀ w,(zeroValue el).run P w = .ok (G d0) w) (hx:V.ev x=some (mapV r)) (hy:V.ev y=some (K k)) (hm:H[m]? = some (mapis r (mcells K G l))):OpY P ⟨d,.lookup T x y false,ty,pos,af,g⟩ V H (G ((mget l k).getD d0)):=by
  intro ρ w o hf _ hs
  obtain ⟨_,_,es,cl,e3,e4,_⟩:=hs m _ hm
  have h1:=z8q (P:=P) (w:=w) hK hk e4 k
  have h2:(getObj r).run P w = .ok (.map es cl) w:=by simp [getObj,Sem.run,e3]
  have h3:=hK.plain P kt hk es.isEmpty k w
  have hg:=zaK l k 0
  cases hfi:mfind l k 0 with
  | none =>
    rw [hfi] at h1 hg
    simp at hg h1
    simp [execOp,Instr.lookup,hf x _ hx,hf y _ hy,hT,mapV,h2,h3,h1,hz,← hg]
  | some p =>
    rw [hfi] at h1 hg
    simp at hg h1
    simp [execOp,Instr.lookup,hf x _ hx,hf y _ hy,hT,mapV,h2,h3,h1,← hg]
theorem zcI {T kt el:TypeId} {ds:TypeDesc} {K:κ→Value} {G:β→Value} {x y:Operand} {r:Nat} {l:List (κ×β)} {k:κ} {d0:β} (m:Nat) (hK:KeyOk ds K) (hT:∀ w,(underlying T).run P w = .ok (.map kt el) w) (hk:∀ w,(underlying kt).run P w = .ok ds w)
    (hz:∀ w,(zeroValue el).run P w = .ok (G d0) w) (hx:V.ev x=some (mapV r)) (hy:V.ev y=some (K k)) (hm:H[m]? = some (mapis r (mcells K G l))) :
    OpY P ⟨d,.lookup T x y true,ty,pos,af,g⟩ V H (.tuple #[G ((mget l k).getD d0),.bool (mget l k).isSome]):=by
  intro ρ w o hf _ hs
  obtain ⟨_,_,es,cl,e3,e4,_⟩:=hs m _ hm
  have h1:=z8q (P:=P) (w:=w) hK hk e4 k
  have h2:(getObj r).run P w = .ok (.map es cl) w:=by simp [getObj,Sem.run,e3]
  have h3:=hK.plain P kt hk es.isEmpty k w
  have hg:=zaK l k 0
  cases hfi:mfind l k 0 with
  | none =>
    rw [hfi] at h1 hg
    simp at hg h1
    simp [execOp,Instr.lookup,hf x _ hx,hf y _ hy,hT,mapV,h2,h3,h1,hz,← hg]
  | some p =>
    rw [hfi] at h1 hg
    simp at hg h1
    simp [execOp,Instr.lookup,hf x _ hx,hf y _ hy,hT,mapV,h2,h3,h1,← hg]
theorem zbe {K:κ→Value} {G:β→Value}:∀ (es:List MapEntry) (l:List (κ×β)) (k:κ) (v:β) (i:Nat),es.map (fun e=>(e.key,e.val))=mcells K G l→
    (match mfind l k i with
      | none=>∀ b,(es++[(⟨K k,G v,b⟩ : MapEntry)]).map (fun e=>(e.key,e.val))=mcells K G (mput l k v)
      | some (j,_)=>i≤j∧(es.modify (j - i) fun e=>{ e with key:=K k,val:=G v }).map (fun e=>(e.key,e.val))=mcells K G (mput l k v)∧((es[j - i]?).map (·.key))=some (K k))
  | [], l, k, v, i, h => by
    cases l with
    | nil=>simp [mfind,mput,mcells]
    | cons p r=>simp [mcells] at h
  | e :: es, l, k, v, i, h => by
    cases l with
    | nil=>simp [mcells] at h
    | cons p r =>
      simp only [mcells,List.map_cons,List.cons.injEq,Prod.mk.injEq] at h
      obtain ⟨⟨h1,h2⟩,h3⟩:=h
      by_cases hp:p.1=k
      · subst hp
        simp only [mfind,mput,if_true]
        refine ⟨Nat.le_refl _,?_,?_⟩
        · simp [mcells,h3]
        · simp [h1]
      · have ih:=zbe (K:=K) (G:=G) es r k v (i+1) h3
        simp only [mfind,mput,if_neg hp]
        cases hm:mfind r k (i+1) with
        | none =>
          rw [hm] at ih
          intro b
          have:=ih b
          simp only [mcells] at this ⊢
          simp [h1,h2,← this]
        | some q =>
          obtain ⟨j,b⟩:=q
          rw [hm] at ih
          obtain ⟨i1,i2,i3⟩:=ih
          have e:j - i=(j - (i+1))+1:=by omega
          refine ⟨by omega,?_,?_⟩
          · rw [e,List.modify_succ_cons]
            simp only [List.map_cons,i2]
            simp [mcells,h1,h2]
          · rw [e]; simpa using i3
theorem z83 {T kt el:TypeId} {ds:TypeDesc} {K:κ→Value} {G:β→Value} {x y z:Operand} {r:Nat} {l:List (κ×β)} {k:κ} {v:β} (m:Nat) (hK:KeyOk ds K) (hT:∀ w,(underlying T).run P w = .ok (.map kt el) w) (hk:∀ w,(underlying kt).run P w = .ok ds w)
    (hx:V.ev x=some (mapV r)) (hy:V.ev y=some (K k)) (hz:V.ev z=some (G v)) (hm:H[m]? = some (mapis r (mcells K G l))) (ins:Bool) :
    OpT P ⟨d,if ins then .insert T x y z else .mapUpdate T x y z,ty,pos,af,g⟩ V H (fun v' H'=>v'=undef∧H'=H.set m (mapis r (mcells K G (mput l k v)))):=by
  intro ρ w o hf hbd hs
  obtain ⟨e1,e2,es,cl,e3,e4,e5,e6⟩:=hs m _ hm
  have h1:=z8q (P:=P) (w:=w) hK hk e4 k
  have h2:(getObj r).run P w = .ok (.map es cl) w:=by simp [getObj,Sem.run,e3]
  have h3:=hK.plain P kt hk false k w
  have hmp:=zbe (K:=K) (G:=G) es.toList l k v 0 e4
  obtain ⟨es',cl',hrun,hes,hb1,hb2⟩ : ∃ es' cl',(Instr.mapUpdate T (mapV r) (K k) (G v)).run P w = .ok () { w with heap:=w.heap.setIfInBounds r (.map es' cl') }∧es'.toList.map (fun e=>(e.key,e.val))=mcells K G (mput l k v)∧(∀ e∈es'.toList,e.born<cl')∧(es'.toList.map (·.born)).Nodup:=by
    cases hfi:mfind l k 0 with
    | none =>
      rw [hfi] at h1 hmp
      refine ⟨es.push ⟨K k,G v,cl⟩,cl+1,?_,by simpa using hmp cl,?_,?_⟩
      rotate_left
      · intro e he
        rw [Array.toList_push,List.mem_append] at he
        rcases he with he | he
        · have:=e5 e he; omega
        · rw [List.mem_singleton.1 he]; simp
      · rw [Array.toList_push,List.map_append,List.nodup_append]
        refine ⟨e6,by simp,fun a ha b hb=>?_⟩
        simp only [List.map_cons,List.map_nil,List.mem_singleton] at hb
        obtain ⟨x,hx,rfl⟩:=List.mem_map.1 ha
        have:=e5 x hx
        omega
      simp at h1
      simp [Instr.mapUpdate,mapV,hT,h2,h3,h1,setObj,Sem.run,e3]
    | some q =>
      obtain ⟨j,b⟩:=q
      rw [hfi] at h1 hmp
      obtain ⟨_,m1,m2⟩:=hmp
      simp at h1 m1 m2
      have hbo:((es.modify j fun e=>{ e with key:=K k,val:=G v }).toList.map (·.born))=es.toList.map (·.born):=by
        apply List.ext_getElem?
        intro q
        rw [Array.toList_modify]
        simp only [List.getElem?_map,List.getElem?_modify]
        cases es.toList[q]? with
        | none=>simp
        | some e=>by_cases hq:j=q <;> simp [hq]
      refine ⟨es.modify j fun e=>{ e with key:=K k,val:=G v },cl,?_,by simpa using m1,?_,by rw [hbo]; exact e6⟩
      rotate_left
      · intro e he
        have:e.born∈es.toList.map (·.born):=by rw [← hbo]; exact List.mem_map.2 ⟨e,he,rfl⟩
        obtain ⟨x,hx,h⟩:=List.mem_map.1 this
        rw [← h]; exact e5 x hx
      obtain ⟨ee,he1,he2⟩:=m2
      have hkey:(Instr.keyThatStays (((es[j]?).map (·.key)).getD (K k)) (K k)).run P w = .ok (K k) w:=by
        simp [he1,he2,Instr.keyThatStays,hK.bits]
      simp [Instr.mapUpdate,mapV,hT,h2,h3,h1]
      rw [hkey]
      simp [setObj,Sem.run,e3]
  have hrun2:(execOp ρ ⟨d,if ins then .insert T x y z else .mapUpdate T x y z,ty,pos,af,g⟩).run P w = .ok .skip { w with heap:=w.heap.setIfInBounds r (.map es' cl') }:=by
    cases ins <;> simp [execOp,hf x _ hx,hf y _ hy,hf z _ hz,hrun]
  unfold Does
  rw [hrun2]
  have hoth:∀ b,b≠r→(w.heap.setIfInBounds r (.map es' cl'))[b]? = w.heap[b]?:=fun b hb=>Array.getElem?_setIfInBounds_ne (Ne.symm hb)
  refine ⟨_,o,⟨rfl,rfl⟩,fun b hb=>hbd b (by simpa using hb),⟨rfl,rfl,rfl,by simp,fun b hlt hb=>⟨hb,hoth b ?_⟩,fun b hlt hb=>⟨hb,hoth b ?_⟩⟩,?_⟩
  · rintro rfl; rw [e1] at hb; cases hb
  · rintro rfl; rw [e1] at hb; cases hb
  · refine z3k (by simp) (fun b hlt hb=>⟨rfl,hoth b ?_⟩) hs ⟨e1,by simpa using e2,es',cl',by simp [e2],hes,hb1,hb2⟩
    rintro rfl; exact hb e1
theorem zcC {T:TypeId}:OpT P ⟨d,.makeMap T none,ty,pos,af,g⟩ V H (fun v' H'=>∃ r,v'=mapV r∧H'=H++[mapis r []]):=by
 intro ρ w o hf hbd hs
 have hn:=z8a w (.map #[] 0) w.drawn
 have hrun:(execOp ρ ⟨d,.makeMap T none,ty,pos,af,g⟩).run P w = .ok (.value (mapV w.heap.size)) { w with heap:=w.heap.push (.map #[] 0) }:=by
  simp [execOp,Instr.makeMap,newObj,mapV,Sem.run]
 unfold Does
 rw [hrun]
 obtain ⟨h1,h2,h3⟩:=z7w (g:=mapis w.heap.size []) hbd hn hs ⟨by simp [z6V],by simp,#[],0,by simp,rfl,by simp,by simp⟩
 exact ⟨_,_,⟨_,rfl,rfl⟩,h1,h2,h3⟩
end
end Go.Abs
namespace Go.Abs
section
variable {V : VF} {H : List HA} {P : Program} {d : Option Nat} {ty : TypeId} {pos : String} {af : Array Edge} {g : Option (Nat × Bool)}
theorem zav {f:FuncId} {fs:Array Operand} {vs:List Value} (h:fs.toList.map V.ev=vs.map some):OpY P ⟨d,.makeFunc (.func f) fs #[],ty,pos,af,g⟩ V H (.func (.func f) vs.toArray #[]):=by
  intro ρ w o hf _ _
  have:fs.map ρ=vs.toArray:=by
    apply Array.ext'
    rw [Array.toList_map]
    generalize fs.toList=l at h
    induction l generalizing vs with
    | nil=>cases vs <;> simp_all
    | cons x r ih =>
      cases vs with
      | nil=>simp at h
      | cons v vs =>
        simp only [List.map_cons,List.cons.injEq] at h ⊢
        exact ⟨hf _ _ h.1,ih h.2⟩
  simp [execOp,Instr.makeFunc,this]
end
end Go.Abs
namespace Go.Abs
variable {V : VF} {H : List HA}
theorem zbZ {V:VF} {ρ:Operand→Value} (hf:Fits V ρ) {xs:Array Operand} {vs:List Value} (hxs:xs.toList.map V.ev=vs.map some):xs.map ρ=vs.toArray:=by
  apply Array.ext'
  rw [Array.toList_map]
  generalize xs.toList=l at hxs
  induction l generalizing vs with
  | nil=>cases vs <;> simp_all
  | cons x r ih =>
    cases vs with
    | nil=>simp at hxs
    | cons v vs =>
      simp only [List.map_cons,List.cons.injEq] at hxs ⊢
      exact ⟨hf _ _ hxs.1,ih hxs.2⟩
theorem zaB (V:VF) (bs:List Value):(bs.map Operand.const).map V.ev=bs.map some:=by
 induction bs with
 | nil=>rfl
 | cons b bs ih=>simp only [List.map_cons,ih]; rfl
section
variable {P : Program} {d : Option Nat} {ty : TypeId} {pos : String} {af : Array Edge} {g : Option (Nat × Bool)} {fx : Operand} {f : FuncId} {xs : Array Operand} {Ts : Array TypeId} {bs vs cs : List Value} {Hc : List HA}
theorem zaz {ρ:Operand→Value} {w:World} (hf:Fits V ρ) (hfx:V.ev fx=some (.func (.func f) bs.toArray cs.toArray)) (hcall:∀ args w,(callFunc f args).run P w = .ok (.enter f args) w) (hxs:xs.toList.map V.ev=vs.map some) :
  (execOp ρ ⟨d,.call ⟨.value fx,xs,Ts⟩,ty,pos,af,g⟩).run P w=(execOp ρ ⟨d,.call ⟨.value (.const (.func (.func f) #[] cs.toArray)),((bs.map Operand.const)++xs.toList).toArray,Ts⟩,ty,pos,af,g⟩).run P w:=by
 have h1:=zbZ hf hxs
 have h2:(((bs.map Operand.const)++xs.toList).toArray).map ρ=(bs++vs).toArray:=zbZ hf (by
  rw [show (((bs.map Operand.const)++xs.toList).toArray).toList=(bs.map Operand.const)++xs.toList from rfl,List.map_append,zaB,hxs,List.map_append])
 have h3:ρ (.const (.func (.func f) #[] cs.toArray)) = .func (.func f) #[] cs.toArray:=hf _ _ rfl
 simp only [execOp,resolve,hf fx _ hfx,h3,h1,h2]
 simp [invoke,Deferred.ofValue,hcall]
theorem ziG {post:Post} (sh:List (Nat×Nat)) (hfx:V.ev fx=some (.func (.func f) bs.toArray cs.toArray)) (hcall:∀ args w,(callFunc f args).run P w = .ok (.enter f args) w)
  (hxs:xs.toList.map V.ev=vs.map some) (hc:Meets P f ((bs++vs)++cs) Hc post) (hsh:z4H H sh Hc) (hok:okX sh=true)
  (hst:(sh.all fun s=>s.2 != 1)=true∨∀ v G,post v G→∀ g∈G,g.Strict) :
  OpT P ⟨d,.call ⟨.value fx,xs,Ts⟩,ty,pos,af,g⟩ V H (fun v' H'=>∃ G,post v' G∧H'=zX sh H++G):=by
 have h:=z9Q (d:=d) (ty:=ty) (pos:=pos) (af:=af) (g:=g) (V:=V) (H:=H) (Ts:=Ts) (fx:=.const (.func (.func f) #[] cs.toArray)) (xs:=((bs.map Operand.const)++xs.toList).toArray) (vs:=bs++vs) sh rfl hcall (by
  rw [show (((bs.map Operand.const)++xs.toList).toArray).toList=(bs.map Operand.const)++xs.toList from rfl,List.map_append,zaB,hxs,List.map_append]) hc hsh hok hst
 intro ρ w o hf hbd hs
 have h2:=h ρ w o hf hbd hs
 unfold Does at h2 ⊢
 rw [zaz hf hfx hcall hxs]
 exact h2
theorem ziF {post:Post} {pan:Value→Prop} (sh:List (Nat×Nat)) (hfx:V.ev fx=some (.func (.func f) bs.toArray cs.toArray)) (hcall:∀ args w,(callFunc f args).run P w = .ok (.enter f args) w)
  (hxs:xs.toList.map V.ev=vs.map some) (hc:z60 P f ((bs++vs)++cs) Hc post pan) (hsh:z4H H sh Hc) (hok:okX sh=true)
  (hst:(sh.all fun s=>s.2 != 1)=true∨∀ v G,post v G→∀ g∈G,g.Strict) :
  OpTP P ⟨d,.call ⟨.value fx,xs,Ts⟩,ty,pos,af,g⟩ V H (fun v' H'=>∃ G,post v' G∧H'=zX sh H++G) pan (zX sh H):=by
 have h:=zh7 (d:=d) (ty:=ty) (pos:=pos) (af:=af) (g:=g) (V:=V) (H:=H) (Ts:=Ts) (fx:=.const (.func (.func f) #[] cs.toArray)) (xs:=((bs.map Operand.const)++xs.toList).toArray) (vs:=bs++vs) sh rfl hcall (by
  rw [show (((bs.map Operand.const)++xs.toList).toArray).toList=(bs.map Operand.const)++xs.toList from rfl,List.map_append,zaB,hxs,List.map_append]) hc hsh hok hst
 intro ρ w o hf hbd hs
 have h2:=h ρ w o hf hbd hs
 unfold DoesP at h2 ⊢
 rw [zaz hf hfx hcall hxs]
 exact h2
end
end Go.Abs
namespace Go.Abs
variable {V : VF} {H : List HA}
theorem zeb {H:List HA} {g:HA} {n:Nat} (hn:H.length=n):(H++[g])[n]? = some g:=by subst hn; simp
theorem zcg {H:List HA} {g x:HA} {i:Nat} (h:H[i]? = some x):(H++[g])[i]? = some x:=by
 rw [List.getElem?_append_left (List.getElem?_eq_some_iff.1 h).1]; exact h
theorem zfz {H:List HA} {g x y:HA} {i:Nat} (h:H[i]? = some y):(H++[g]).set i x=H.set i x++[g]:=List.set_append_left _ _ (List.getElem?_eq_some_iff.1 h).1
end Go.Abs
namespace Go.Abs
section
variable {V : VF} {H : List HA} {P : Program} {d : Option Nat} {ty : TypeId} {pos : String} {af : Array Edge} {g : Option (Nat × Bool)}
theorem zg2 {T:TypeId} {ps rs:Array TypeId} {vr:Bool} (hu:∀ w,(underlying T).run P w = .ok (.func ps rs vr) w) (v:Value) (b:Bool) (h:(v = .nilFunc∧b=true)∨((∃ f x y,v = .func f x y)∧b=false)) (w:World):(Op.equal T v .nilFunc).run P w = .ok b w:=by
 have h0:∀ (n:Nat),(Op.equalIn (n+1) T v .nilFunc).run P w = .ok b w:=by
  intro n
  rcases h with ⟨rfl,rfl⟩ | ⟨⟨f,x,y,rfl⟩,rfl⟩ <;> simp [Op.equalIn,hu]
 exact h0 9999
theorem zlK {T U:TypeId} {x:Operand} {v:Value} {ps rs:Array TypeId} {vr:Bool} (b:Bool) (hu:∀ w,(underlying T).run P w = .ok (.func ps rs vr) w) (hx:V.ev x=some v) (h:(v = .nilFunc∧b=true)∨((∃ f x y,v = .func f x y)∧b=false)) :
  OpY P ⟨d,.binOp .eql T x (.const .nilFunc) U,ty,pos,af,g⟩ V H (.bool b):=by
 intro ρ w o hf _ _
 have h1:=zg2 hu v b h
 have h2:ρ (.const .nilFunc) = .nilFunc:=hf _ _ rfl
 have hx':=hf x v hx
 rcases h with ⟨rfl,rfl⟩ | ⟨⟨f,x',y,rfl⟩,rfl⟩ <;> simp [execOp,hx',h2,eqGuard,binOp,h1]
end
theorem cond2 {α:Type} {p:Prop} [Decidable p] {a b:Option α} {r:α} (h:cond (decide p) a b=some r):(p∧a=some r)∨(¬ p∧b=some r):=by
 by_cases hp:p
 ·rw [decide_eq_true hp] at h; exact .inl ⟨hp,h⟩
 ·rw [decide_eq_false hp] at h; exact .inr ⟨hp,h⟩
end Go.Abs
namespace Go.Abs
section
variable {V : VF} {H : List HA} {P : Program} {d : Option Nat} {ty : TypeId} {pos : String} {af : Array Edge} {g : Option (Nat × Bool)}
theorem zlJ {T:TypeId} {x:Operand} {i:Nat} {fs:Array Field} {f:Field} {cs:List Value} {r:Value} (hu:∀ w,(underlying T).run P w = .ok (.struct fs) w) (hf' : fs[i]? = some f) (ha:∀ w,(isAgg f.type).run P w = .ok false w)
  (hx:V.ev x=some (.agg cs.toArray)) (hr:cs[f.offset]? = some r):OpY P ⟨d,.field T x i,ty,pos,af,g⟩ V H r:=by
 intro ρ w o hf _ _
 simp [execOp,Instr.field,hf x _ hx,hu,hf',part,ha,hr,asAgg]
theorem ziX {T:TypeId} {x:Operand} {i:Nat} {fs:Array Field} {f:Field} {cs c:List Value} (hu:∀ w,(underlying T).run P w = .ok (.struct fs) w) (hf' : fs[i]? = some f) (ha:∀ w,(isAgg f.type).run P w = .ok true w)
  (hz:∀ w,(sizeOf f.type).run P w = .ok c.length w) (hx:V.ev x=some (.agg cs.toArray)) (hc:(cs.drop f.offset).take c.length=c) (hl:f.offset+c.length≤cs.length):OpY P ⟨d,.field T x i,ty,pos,af,g⟩ V H (.agg c.toArray):=by
 intro ρ w o hf _ _
 simp [execOp,Instr.field,hf x _ hx,hu,hf',part,ha,hz,asAgg]
 exact hc
end
end Go.Abs
namespace Go.Abs
variable {E : Env} {k : List KI} {V : VF} {H : List HA}
def Free (a:HA):Prop:=∀ w o o' k k',(∀ b,b<w.heap.size→o b = .no→o' b = .no)→a.p w o k→a.p w o' k'
theorem Free.at {a:HA} (h:Free a):∀ w o k k',a.p w o k→a.p w o k':=fun w o k k'=>h w o o k k' fun _ _ h=>h
theorem z5u {v:Value} {es:Nat} {cells:List (List Value)}:Free (ro v es cells):=fun _ _ _ _ _ ho h=>z2A.keep (Nat.le_refl _) (fun b hlt hb=>⟨ho b hlt hb,rfl⟩) h
theorem z9V {a:HA} (h:Free a):Views a a false:=fun w o m oc j h1 _ hp=>h w o oc m j h1 hp
structure NC (α:Type) where
 G:Type
 es:Nat
 F:α→G→List Value
 S:α→G→List HA
 free:∀ x g,∀ h∈S x g,Free h
 ok:∀ x g w o k,(∀ h∈S x g,h.p w o k)→(F x g).length=es∧∀ u∈F x g,u.oneCell'=true
 /-- what is only read and empty is nil -/
 nn:Bool:=false
def HsP (L:List HA) (w:World) (o:Own) (k:Nat):Prop:=∀ h∈L,h.p w o k
theorem HsP.keep {L:List HA} {w w' : World} {o o' : Own} {k k' : Nat} (hs:w.heap.size≤w'.heap.size) (h1:∀ b,b<w.heap.size→o b = .mine k→o' b = .mine k'∧w'.heap[b]? = w.heap[b]?)
 (h2:∀ b,b<w.heap.size→o b = .no→o' b = .no∧w'.heap[b]? = w.heap[b]?) (h:HsP L w o k):HsP L w' o' k':=fun x hx=>x.keep hs h1 h2 (h x hx)
theorem HsP.free {L:List HA} (hL:∀ h∈L,Free h) {w:World} {o o' : Own} {k k' : Nat} (ho:∀ b,b<w.heap.size→o b = .no→o' b = .no) (h:HsP L w o k):HsP L w o' k':=
 fun x hx=>hL x hx w o o' k k' ho (h x hx)
section
variable {α : Type} {C : NC α} {v : Value} {l : List α}
def NC.cs (C:NC α) (lg:List (α×C.G)):List (List Value):=lg.map fun p=>C.F p.1 p.2
def nrow (v:Value) (C:NC α) (l:List α):HA:=
  ⟨fun w o k => ∃ lg : List (α × C.G), l = lg.map (·.1) ∧ RowIs w (fun b => o b = .mine k) v C.es (C.cs lg) ∧ ∀ p ∈ lg, HsP (C.S p.1 p.2) w o k,
   fun hs h1 h2 ⟨lg,e,a,b⟩=>⟨lg,e,a.keep hs h1,fun p hp=>(b p hp).keep hs h1 h2⟩⟩
def nro (v:Value) (C:NC α) (l:List α):HA:=
  ⟨fun w o k => (∃ lg : List (α × C.G), l = lg.map (·.1) ∧ z2A w (fun b => o b = .no) v C.es (C.cs lg) ∧ ∀ p ∈ lg, HsP (C.S p.1 p.2) w o k) ∧ (C.nn = true → l = [] → v = .slice none 0 0),
   fun hs h1 h2 ⟨⟨lg,e,a,b⟩,z⟩=>⟨⟨lg,e,a.keep hs h2,fun p hp=>(b p hp).keep hs h1 h2⟩,z⟩⟩
theorem NC.cs_len {lg:List (α×C.G)} (h:l=lg.map (·.1)):(C.cs lg).length=l.length:=by rw [h]; simp [NC.cs]
theorem z47:Free (nro v C l):=fun w o o' k k' ho ⟨⟨lg,e,a,b⟩,z⟩=>⟨⟨lg,e,a.keep (Nat.le_refl _) (fun b hlt hb=>⟨ho b hlt hb,rfl⟩),fun p hp=>(b p hp).free (C.free _ _) ho⟩,z⟩
theorem z6D:Views (nro v C l) (nro v C l) false:=z9V z47
theorem z7j (hn:C.nn=true→l≠[]:=by exact fun h=>absurd h (by decide)):Views (nrow v C l) (nro v C l) true:=fun w o m oc j h1 h2 ⟨lg,e,a,b⟩=>
 ⟨⟨lg,e,(RowIs.slice (B:=fun b=>o b = .mine m) (fun _ hb=>hb) a).keep (Nat.le_refl _) (fun b hlt hb=>⟨h2 rfl b hlt hb,rfl⟩),fun p hp=>(b p hp).free (C.free _ _) h1⟩,fun h he=>absurd he (hn h)⟩
theorem z7i {h:HA} {h' : HA} (hv:Views h' h false):Views h' h true:=fun w o m oc j h1 _=>hv w o m oc j h1 (by simp)
theorem zcf (m:Nat) (hm:H[m]? = some (nrow v C l)) (hn:C.nn=true→l≠[]:=by exact fun h=>absurd h (by decide)):Turn H (H.set m (nro v C l)):=
 zcG hm fun w o ⟨lg,e,a,b⟩=>⟨⟨lg,e,z2A.keep (Nat.le_refl _) (fun _ _ hb=>⟨zah hb,rfl⟩) (RowIs.slice (fun _ hb=>hb) a),
  fun p hp=>(b p hp).free (C.free _ _) (fun b _ hb=>by simp [za7,hb,dropO])⟩,fun h he=>absurd he (hn h)⟩
theorem zgT (C:NC α):Turn H (H++[nrow (.slice none 0 0) C []]):=z6x fun _ _ _=>⟨[],rfl,.inl ⟨⟨none,rfl⟩,rfl⟩,fun p hp=>by simp at hp⟩
theorem zin (C:NC α):Turn H (H++[nro (.slice none 0 0) C []]):=z6x fun _ _ _=>⟨⟨[],rfl,⟨none,0,rfl,Nat.le_refl _,Nat.zero_le _,fun _=>rfl,fun i c hi=>by simp [NC.cs] at hi⟩,fun p hp=>by simp at hp⟩,fun _ _=>rfl⟩
theorem znx {w:World} {o:Own} {k:Nat} (es:Nat):(ro (.slice none 0 0) es []).p w o k:=⟨none,0,rfl,Nat.le_refl _,Nat.zero_le _,fun _=>rfl,fun i c hi=>by simp at hi⟩
structure z8R (h:HA) (v:Value) (es n:Nat):Prop where
 is:∀ w o k,h.p w o k→∃ a cap,v = .slice a n cap∧n≤cap∧cap≤maxLen∧(a=none→cap=0)∧(0<n→∃ b off,a=some ⟨b,off,none⟩)
theorem z2A.readsN {w:World} {B:Nat→Prop} {es:Nat} {cells:List (List Value)} (h:z2A w B v es cells):∃ a cap,v = .slice a cells.length cap∧cells.length≤cap∧cap≤maxLen∧(a=none→cap=0)∧(0<cells.length→∃ b off,a=some ⟨b,off,none⟩):=by
 obtain ⟨a,cap,e1,e2,e3,e4,e5⟩:=h
 refine ⟨a,cap,e1,e2,e3,e4,fun h0=>?_⟩
 obtain ⟨_,b,off,e6,_⟩:=e5 0 _ (List.getElem?_eq_getElem h0)
 exact ⟨b,off,e6⟩
theorem z81:z8R (nro v C l) v C.es l.length:=⟨fun w o k ⟨⟨lg,e,a,_⟩,_⟩=>by have:=a.readsN; rwa [NC.cs_len e] at this⟩
theorem z8H:z8R (nrow v C l) v C.es l.length:=⟨fun w o k ⟨lg,e,a,_⟩=>by have:=(RowIs.slice (B:=fun b=>o b = .mine k) (fun _ hb=>hb) a).readsN; rwa [NC.cs_len e] at this⟩
end
def ExT {γ:Type} (H:List HA) (K:γ→List HA):Prop:=∀ w o,Bnd w o→Sats w o H→∃ g,Sats w o (H++K g)
theorem Rel.ex {γ:Type} {K:γ→List HA} (h:ExT H K) {a:Act} {w:World} (r:Rel E V H a w):∃ g,Rel E V (H++K g) a w:=by
 obtain ⟨h1,h2,h3,o,hb,ht,hs⟩:=r
 obtain ⟨g,hg⟩:=h w o hb hs
 exact ⟨g,h1,h2,h3,o,hb,ht,hg⟩
section
variable {γ : Type} {K : γ → List HA} {ops : Array Oper} {listed : Array Bool} {fuel : Nat} {Hs : List HA}
theorem zl7 {l:List Oper} (h:ExT H K) (hk:∀ g,Ops E ops l k V (H++K g)):Ops E ops l k V H:=fun a w r=>let ⟨g,r'⟩:=r.ex h; hk g a w r'
theorem zeQ {l:List Oper} (h:ExT H K) (hk:∀ g,z3W E ops l k V (H++K g)):z3W E ops l k V H:=fun a w r=>let ⟨g,r'⟩:=r.ex h; hk g a w r'
end
theorem z6b {w:World} {o:Own} {K:List HA} (hK:∀ h∈K,Free h) (hs:Sats w o H) (k0:Nat) (h:HsP K w o k0):Sats w o (H++K):=by
 intro j x hj
 rw [List.getElem?_append] at hj
 split at hj
 ·exact hs j x hj
 ·have hm:=List.mem_of_getElem? hj
  exact (hK x hm).at w o k0 j (h x hm)
def atc (v:Value) (n:Nat) (cs:List Value):HA:=
  ⟨fun w o _ => ∃ b off len cap, v = .slice (some ⟨b, off, none⟩) len cap ∧ b < w.heap.size ∧ o b = .no ∧ ∀ (j : Nat) (x : Value), cs[j]? = some x → w.cell? ⟨b, off + n + j, none⟩ = some x,
   fun hs _ h2 ⟨b,off,len,cap,e1,e2,e3,e4⟩=>let ⟨f1,f2⟩:=h2 b e2 e3; ⟨b,off,len,cap,e1,Nat.lt_of_lt_of_le e2 hs,f1,fun j x hj=>by rw [z6i f2]; exact e4 j x hj⟩⟩
theorem zi5 {v:Value} {n:Nat} {cs:List Value}:Free (atc v n cs):=fun w o o' k k' ho ⟨b,off,len,cap,e1,e2,e3,e4⟩=>⟨b,off,len,cap,e1,e2,ho b e2 e3,e4⟩
section
variable {α : Type} {C : NC α} {v : Value} {l : List α}
theorem nget {G:Type} {lg:List (α×G)} {i:Nat} {x:α} (hl:l=lg.map (·.1)) (hx:l[i]? = some x):∃ g,lg[i]? = some (x,g):=by
 subst hl
 rw [List.getElem?_map] at hx
 cases h:lg[i]? with
 | none=>rw [h] at hx; simp at hx
 | some p=>rw [h] at hx; simp at hx; exact ⟨p.2,by rw [← hx]⟩
theorem zdv {lg:List (α×C.G)} {i:Nat} {x:α} {g:C.G} (h:lg[i]? = some (x,g)):(C.cs lg)[i]? = some (C.F x g):=by simp [NC.cs,h]
theorem exAt {i:Nat} {x:α} (m:Nat) (hm:H[m]? = some (nro v C l)) (hx:l[i]? = some x):ExT H (fun g:C.G=>atc v (i*C.es) (C.F x g)::C.S x g):=by
 intro w o hb hs
 obtain ⟨⟨lg,e,ha,hS⟩,_⟩:=hs m _ hm
 obtain ⟨g,hg⟩:=nget e hx
 obtain ⟨a,cap,g1,_,_,_,hc⟩:=id ha
 obtain ⟨_,b,off,f1,f2,f3,f4⟩:=hc i _ (zdv hg)
 refine ⟨g,z6b (k0:=m) ?_ hs ?_⟩
 ·intro h hh
  rcases List.mem_cons.1 hh with rfl | hh
  ·exact zi5
  ·exact C.free _ _ h hh
 ·intro h hh
  rcases List.mem_cons.1 hh with rfl | hh
  ·exact ⟨b,off,_,_,by rw [g1,f1],f2,f3,f4⟩
  ·exact hS _ (List.mem_of_getElem? hg) h hh
section
variable {P : Program} {d : Option Nat} {ty : TypeId} {pos : String} {af : Array Edge} {g : Option (Nat × Bool)}
theorem zcH {T:TypeId} {x:Operand} {r:Value} {n j:Nat} {cs:List Value} (m:Nat) (ha:∀ w,(isAgg T).run P w = .ok false w) (hx:V.ev x=some (elemP v (n+j))) (hm:H[m]? = some (atc v n cs)) (hc:cs[j]? = some r) :
  OpY P ⟨d,.load T x,ty,pos,af,g⟩ V H r:=by
 intro ρ w o hf _ hs
 obtain ⟨b,off,len,cap,e1,_,_,e4⟩:=hs m _ hm
 have:=e4 j r hc
 subst e1
 simp [execOp,hf x _ hx,Instr.loadAt,Instr.sureAddr,elemP,Value.sbase,loadVar,ha]
 rw [show off+(n+j)=off+n+j by omega]
 simp [this]
theorem za2 {T:TypeId} {x:Operand} {n j:Nat} {c cs:List Value} (m:Nat) (ha:∀ w,(isAgg T).run P w = .ok true w) (hz:∀ w,(sizeOf T).run P w = .ok c.length w) (hx:V.ev x=some (elemP v (n+j))) (hm:H[m]? = some (atc v n cs))
  (hc:(cs.drop j).take c.length=c):OpY P ⟨d,.load T x,ty,pos,af,g⟩ V H (.agg c.toArray):=by
 intro ρ w o hf _ hs
 obtain ⟨b,off,len,cap,e1,_,_,e4⟩:=hs m _ hm
 subst e1
 have:=z4e (P:=P) (w:=w) b (off+n+j) c (fun i y hi=>by
  rw [← hc,List.getElem?_take] at hi
  split at hi
  ·rw [List.getElem?_drop] at hi
   have:=e4 _ y hi
   rwa [show off+n+(j+i)=off+n+j+i by omega] at this
  ·simp at hi)
 rw [show off+n+j=off+(n+j) by omega] at this
 simp [execOp,hf x _ hx,Instr.loadAt,Instr.sureAddr,elemP,Value.sbase,loadVar,ha,hz,this]
theorem zok {Ts:Array TypeId} {T el:TypeId} {x:Operand} {es n:Nat} {h:HA} (m:Nat) (hT:Ts[0]? = some T) (hu:∀ w,(underlying T).run P w = .ok (.slice el) w)
  (hx:V.ev x=some v) (hm:H[m]? = some h) (hr:z8R h v es n):OpY P ⟨d,.call ⟨.builtin .len,#[x],Ts⟩,ty,pos,af,g⟩ V H (.int .i64 n):=by
 intro ρ w o hf _ hs
 obtain ⟨a,cap,e1,_⟩:=hr.is w o m (hs m h hm)
 subst e1
 simp [execOp,resolve,invoke,builtin,hf x _ hx,zeF hT hu]
theorem z7B {T el:TypeId} {x y:Operand} {kd:IntKind} {i:Int} {es n:Nat} {h:HA} (m:Nat) (hu:∀ w,(underlying T).run P w = .ok (.slice el) w)
  (hz:∀ w,(sizeOf el).run P w = .ok es w) (hx:V.ev x=some v) (hy:V.ev y=some (.int kd i)) (hm:H[m]? = some h) (hr:z8R h v es n) (h0:0≤i) (hn:i.toNat<n) :
  OpY P ⟨d,.indexAddr T x y,ty,pos,af,g⟩ V H (elemP v (i.toNat*es)):=by
 intro ρ w o hf _ hs
 obtain ⟨a,cap,e1,_,_,_,e5⟩:=hr.is w o m (hs m h hm)
 obtain ⟨b,off,rfl⟩:=e5 (by omega)
 subst e1
 obtain ⟨q,rfl⟩ : ∃ q:Nat,i=q:=⟨i.toNat,by omega⟩
 simp only [Int.toNat_natCast] at hn ⊢
 have ha:(Addr.add ⟨b,off,none⟩ (q*es))=⟨b,off+q*es,none⟩:=by
  unfold Addr.add; split
  ·rename_i h0; rw [h0]; rfl
  ·rfl
 simp [execOp,hf x _ hx,hf y _ hy,Instr.indexAt,asIntOf,hu,hz,elemP,Value.sbase,ha,hn]
theorem zj2 {T el:TypeId} {x:Operand} {lo hi:Option Operand} {es n:Nat} {l r:Int} {h:HA} (m:Nat) (hu:∀ w,(underlying T).run P w = .ok (.slice el) w)
  (hz:∀ w,(sizeOf el).run P w = .ok es w) (hx:V.ev x=some v) (hm:H[m]? = some h) (hr' : z8R h v es n) (hl:Bi V lo 0 l) (hr:Bi V hi n r) (h0:0≤l) (h1:l≤r) (h2:r≤(n:Int)) :
  OpY P ⟨d,.slice T x lo hi none,ty,pos,af,g⟩ V H (subS v es l.toNat r.toNat):=by
 intro ρ w o hf hbd hs
 obtain ⟨a,cap,e1,e2,e3,e4,e5⟩:=hr'.is w o m (hs m h hm)
 subst e1
 have hrun:=z9q (P:=P) (T:=T) (w:=w) (a:=a) (mx:=none) hu hz hf (hl.bd h0) (hr.bd (by omega)) rfl (by omega) (by omega) e2
 simp only [Option.map_none] at hrun
 simp [execOp,hf x _ hx,hrun,subS]
def Has (H L:List HA):Prop:=∀ h∈L,(∀ w o k,h.p w o k)∨∃ j:Nat,H[j]? = some h
theorem zgM:Has H []:=fun h hh=>by simp at hh
theorem zbF {h:HA} {L:List HA} (ht:∀ w o k,h.p w o k) (r:Has H L):Has H (h::L):=fun x hx=>by
 rcases List.mem_cons.1 hx with rfl | hx
 ·exact .inl ht
 ·exact r x hx
theorem Has.sat {L:List HA} (hL:∀ h∈L,Free h) (h:Has H L) {w:World} {o:Own} (hs:Sats w o H) (k:Nat):HsP L w o k:=fun x hx=>by
 rcases h x hx with ht | ⟨j,hj⟩
 ·exact ht w o k
 ·exact (hL x hx).at w o j k (hs j x hj)
def zdd (H:List HA) (C:NC α) (lg:List (α×C.G)):Prop:=∀ p∈lg,Has H (C.S p.1 p.2)
theorem zat (m:Nat) (lg:List (α×C.G)) {cells:List (List Value)} (hm:H[m]? = some (row v C.es cells)) (hc:cells=C.cs lg) (hl:l=lg.map (·.1)) (hS:zdd H C lg):Turn H (H.set m (nrow v C l)):=by
 intro w o hb hs
 exact ⟨o,hb,Tr.refl w o,z3k (Nat.le_refl _) (fun _ _ _=>⟨rfl,rfl⟩) hs ⟨lg,hl,hc ▸ hs m _ hm,fun p hp=>(hS p hp).sat (C.free _ _) hs m⟩⟩
theorem zbs (m:Nat) (hm:H[m]? = some (nrow v C l)):∀ w o,Sats w o H→∃ lg:List (α×C.G),l=lg.map (·.1)∧Sats w o (H.set m (row v C.es (C.cs lg)))∧∀ p∈lg,HsP (C.S p.1 p.2) w o m:=
 fun w o hs=>let ⟨lg,e,a,b⟩:=hs m _ hm; ⟨lg,e,z3k (Nat.le_refl _) (fun _ _ _=>⟨rfl,rfl⟩) hs a,b⟩
theorem zgm (m:Nat) {a b:Nat} (hm:H[m]? = some (nro v C l)) (h1:a≤b) (h2:b≤l.length) (hn:C.nn=true→(l.take b).drop a≠[]:=by exact fun h=>absurd h (by decide)):Turn H (H++[nro (subS v C.es a b) C ((l.take b).drop a)]):=
 z6x fun w o hs=>by
  obtain ⟨⟨lg,e,ha,hS⟩,_⟩:=hs m _ hm
  have hlen:=NC.cs_len (C:=C) e
  obtain ⟨a',cap,e1,e2,e3,e4,e5⟩:=id ha
  refine ⟨⟨(lg.take b).drop a,by rw [e,List.map_drop,List.map_take],?_,fun p hp=>(hS p (List.mem_of_mem_take (List.mem_of_mem_drop hp))).free (C.free _ _) (fun _ _ h=>h)⟩,fun h he=>absurd he (hn h)⟩
  have e6:C.cs ((lg.take b).drop a)=((C.cs lg).take b).drop a:=by simp [NC.cs,List.map_drop,List.map_take]
  rw [e6]
  subst e1
  exact z2A.sub ha h1 (by omega) (by omega) (Nat.le_refl _)
theorem Free.tr {h:HA} (hF:Free h) {w w' : World} {o o' : Own} (ht:Tr w o w' o') (k0 k1:Nat) (hh:h.p w o k0):h.p w' o' k1:=
 (hF.at w' o' 0 k1) (HA.keep h ht.size (k:=k0) (k':=0) (o:=fun b=>match o b with | .no=>.no | _=>.far) (o':=o') (fun b _ hb=>by split at hb <;> cases hb) (fun b hlt hb=>ht.no b hlt (by
  split at hb
  ·assumption
  ·cases hb)) (hF w o _ k0 k0 (fun b _ hb=>by simp [hb]) hh))
theorem HsP.tr {L:List HA} (hL:∀ h∈L,Free h) {w w' : World} {o o' : Own} (ht:Tr w o w' o') {k0:Nat} (k1:Nat) (h:HsP L w o k0):HsP L w' o' k1:=fun x hx=>(hL x hx).tr ht k0 k1 (h x hx)
theorem Does.imp {P:Program} {s:Sem Next} {w:World} {D D' : Value→World→Prop} (h:Does P s w D) (hd:∀ v w',D v w'→D' v w'):Does P s w D':=by
  unfold Does at h ⊢
  generalize s.run P w=x at *
  cases x with
  | halt x w'=>simp at h
  | ok nx w' =>
    cases nx <;> simp only [] at h ⊢
    case value v=>exact hd _ _ h
    case skip=>exact hd _ _ h
    case enter f args=>exact h.mono fun e w'' ⟨v,e1,h1⟩=>⟨v,e1,hd _ _ h1⟩
structure SrcN (H:List HA) (m2:Nat) (v2:Value) (C:NC α) (l2:List α):Prop where
 is:∃ g,H[m2]? = some g∧∀ w o,g.p w o m2→∃ (lg2:List (α×C.G)) (X:HA),l2=lg2.map (·.1)∧X.p w o m2∧Reads X v2 C.es (C.cs lg2)∧(∀ p∈lg2,HsP (C.S p.1 p.2) w o m2)∧∀ w' o',Tr w o w' o'→X.p w' o' m2→g.p w' o' m2
theorem ziB {v2:Value} {l2:List α} (m2:Nat) (h:H[m2]? = some (nrow v2 C l2)):SrcN H m2 v2 C l2:=
 ⟨_,h,fun w o ⟨lg,e,a,b⟩=>⟨lg,row v2 C.es (C.cs lg),e,a,z6z,b,fun w' o' ht hX=>⟨lg,e,hX,fun p hp=>(b p hp).tr (C.free _ _) ht m2⟩⟩⟩
theorem zg9 {m m2:Nat} (hne:m≠m2) (a b c g:HA) (hg:H[m2]? = some g):(((H.set m a).set m2 b).set m c).set m2 g=H.set m c:=by
 apply List.ext_getElem?
 intro j
 have hlt:m2<H.length:=(List.getElem?_eq_some_iff.1 hg).1
 by_cases h2:m2=j
 ·subst h2
  rw [List.getElem?_set_self (by simpa using hlt),List.getElem?_set_ne hne,hg]
 ·rw [List.getElem?_set_ne h2]
  by_cases h1:m=j
  ·subst h1
   by_cases hl:m<H.length
   ·rw [List.getElem?_set_self (by simpa using hl),List.getElem?_set_self hl]
   ·rw [List.getElem?_eq_none (by simp; omega),List.getElem?_eq_none (by simp; omega)]
  ·rw [List.getElem?_set_ne h1,List.getElem?_set_ne h2,List.getElem?_set_ne h1,List.getElem?_set_ne h1]
theorem zgf {Ts:Array TypeId} {T T2 el e2:TypeId} {x y:Operand} {v vy z:Value} {ti:TypeInfo} {l2:List α} (m m2:Nat) (hne:m≠m2)
  (hT:Ts[0]? = some T) (hu:∀ w,(underlying T).run P w = .ok (.slice el) w) (hT2:Ts[1]? = some T2) (hu2:∀ w,(underlying T2).run P w = .ok (.slice e2) w)
  (hti:∀ w,(typeInfo el).run P w = .ok ti w) (hes:ti.size=C.es) (hby:ti.bytes≠0) (hb2:ti.bytes≤16384) (h0:∀ w,(zeroValue el).run P w = .ok z w) (hzs:z.cells.size=C.es)
  (hx:V.ev x=some v) (hm:H[m]? = some (nrow v C l)) (hy:V.ev y=some vy) (hsrc:SrcN H m2 vy C l2) (hlen:l.length+l2.length≤4294967296) :
  OpT P ⟨d,.call ⟨.builtin .append,#[x,y],Ts⟩,ty,pos,af,g⟩ V H (fun v' H'=>H'=H.set m (nrow v' C (l++l2))):=by
 obtain ⟨g2,hg2,hsrc⟩:=hsrc
 intro ρ w o hf hbd hs
 obtain ⟨lg,e,hs',hS⟩:=zbs m hm w o hs
 obtain ⟨lg2,X,f1,f2,f3,f4,f5⟩:=hsrc w o (hs m2 _ hg2)
 have hmlt:m<H.length:=(List.getElem?_eq_some_iff.1 hm).1
 have hmlt2:m2<H.length:=(List.getElem?_eq_some_iff.1 hg2).1
 have hs2:Sats w o ((H.set m (row v C.es (C.cs lg))).set m2 X):=z3k (Nat.le_refl _) (fun b _ _=>⟨rfl,rfl⟩) hs' f2
 have hl1:=NC.cs_len (C:=C) e
 have hl2:=NC.cs_len (C:=C) f1
 have hok2:∀ c∈C.cs lg2,c.length=C.es∧∀ u∈c,u.oneCell'=true:=by
  intro c hc
  obtain ⟨p,hp,rfl⟩:=List.mem_map.1 hc
  exact C.ok _ _ w o m2 (f4 p hp)
 have hroom:=z9I (F:=fun _=>([]:List Value)) (l:=l) (m:=l2) (b:=ti.bytes) hlen hb2
 simp only [List.length_map] at hroom
 have:=z9P (d:=d) (ty:=ty) (pos:=pos) (af:=af) (g:=g) (P:=P) (V:=V) (H:=(H.set m (row v C.es (C.cs lg))).set m2 X) (x:=x) (y:=y) (es:=C.es) (new:=C.cs lg2) m hT hu hT2 hu2 (.inr ⟨_,rfl⟩) hti hes hby h0 hzs hx
  (by rw [List.getElem?_set_ne (Ne.symm hne),List.getElem?_set_self hmlt]) hy (zaT m2 (by rw [List.getElem?_set_self (by simpa using hmlt2)]) f3 hok2) (by rw [hl1,hl2]; exact hroom) (by rw [hl1,hl2]; unfold maxLen; omega)
 refine (this ρ w o hf hbd hs2).imp ?_
 rintro v' w' ⟨H',o',rfl,hb',ht,hs3⟩
 refine ⟨_,o',rfl,hb',ht,?_⟩
 have h4:=z3k (w:=w') (w':=w') (o:=o') (o':=o') (m:=m2) (g:=g2) (Nat.le_refl _) (fun b _ _=>⟨rfl,rfl⟩) hs3 (f5 w' o' ht (hs3 m2 _ (by rw [List.getElem?_set_ne hne,List.getElem?_set_self (by simpa using hmlt2)])))
 rw [zg9 hne _ _ _ _ hg2] at h4
 have h5:=z3k (w:=w') (w':=w') (o:=o') (o':=o') (m:=m) (g:=nrow v' C (l++l2)) (Nat.le_refl _) (fun b _ _=>⟨rfl,rfl⟩) h4 ⟨lg++lg2,by rw [e,f1,List.map_append],by
   have h6:=h4 m _ (List.getElem?_set_self hmlt)
   have e6:C.cs (lg++lg2)=C.cs lg++C.cs lg2:=by simp [NC.cs]
   rw [e6]; exact h6,fun p hp=>by
   rcases List.mem_append.1 hp with hp | hp
   ·exact (hS p hp).tr (C.free _ _) ht m
   ·exact (f4 p hp).tr (C.free _ _) ht m⟩
 rwa [List.set_set] at h5
end
end
theorem z7e {v:Value} {es:Nat} {cells:List (List Value)} {w:World} {o:Own} {k:Nat} (h:(ro v es cells).p w o k):v.oneCell'=true:=by
 obtain ⟨a,cap,e,_⟩:=h; rw [e]; rfl
theorem z5f {α:Type} {C:NC α} {v:Value} {l:List α} {w:World} {o:Own} {k:Nat} (h:(nro v C l).p w o k):v.oneCell'=true:=by
 obtain ⟨⟨lg,_,⟨a,cap,e,_⟩,_⟩,_⟩:=h; rw [e]; rfl
section
variable {ops : Array Oper} {listed : Array Bool} {fuel : Nat} {Hs : List HA} {h : HA} {v : Value} {es n : Nat}
end
section
variable {P : Program} {d : Option Nat} {ty : TypeId} {pos : String} {af : Array Edge} {g : Option (Nat × Bool)}
end
theorem ss {H Hs:List HA} {h:HA} (r:Sub H Hs):Sub (h::H) (h::Hs):=z4O r
theorem se {H Hs:List HA} {h:HA} (r:Sub H Hs):Sub (h::H) (HA.emp::Hs):=z7R r
theorem ziN (m:Nat) {h:HA} (hF:Free h) (hm:H[m]? = some h):Turn H (H++[h]):=z6x fun w o hs=>hF.at w o m _ (hs m h hm)
theorem z8F {es:Nat}:∀ w o k,(ro (.slice none 0 0) es []).p w o k:=fun _ _ _=>znx es
end Go.Abs
namespace Go.Abs
variable {E : Env} {k : List KI} {V : VF} {H : List HA}
theorem put_defers {a:Act} {d:Option Nat} {v:Value}:(a.put d v).defers=a.defers:=by cases d <;> rfl
def blk (v:Value):Nat:=(Value.sbase v).block
end Go.Abs
namespace Go.Abs
structure TC (α:Type) where
 G:Type
 es:Nat
 F:α→G→List Value
 fixed:α→G→List HA
 kids:α→G→List (Value×List α)
 free:∀ x g,∀ h∈fixed x g,Free h
 ok:∀ x g w o k,(∀ h∈fixed x g,h.p w o k)→(∀ q∈kids x g,∃ a n c,q.1 = .slice a n c)→(F x g).length=es∧∀ u∈F x g,u.oneCell'=true
variable {α : Type}
def TC.P (T:TC α):Nat→Value→List α→World→Own→Nat→Prop
 | 0,v,l,w,o,k=>l=[]∧z2A w (fun b=>o b = .no) v T.es []
 | d+1,v,l,w,o,k=>∃ lg:List (α×T.G),l=lg.map (·.1)∧z2A w (fun b=>o b = .no) v T.es (lg.map fun p=>T.F p.1 p.2)∧∀ p∈lg,HsP (T.fixed p.1 p.2) w o k∧∀ q∈T.kids p.1 p.2,TC.P T d q.1 q.2 w o k
theorem TC.P_slice {T:TC α}:∀ {d:Nat} {v:Value} {l:List α} {w:World} {o:Own} {k:Nat},T.P d v l w o k→∃ a n c,v = .slice a n c
 | 0,v,l,w,o,k,h=>by obtain ⟨a,cap,e,_⟩:=h.2; exact ⟨_,_,_,e⟩
 | d+1,v,l,w,o,k,h=>by obtain ⟨lg,_,⟨a,cap,e,_⟩,_⟩:=h; exact ⟨_,_,_,e⟩
theorem TC.P_keep {T:TC α} {w w' : World} {o o' : Own} {k k' : Nat} (hs:w.heap.size≤w'.heap.size) (h1:∀ b,b<w.heap.size→o b = .mine k→o' b = .mine k'∧w'.heap[b]? = w.heap[b]?)
    (h2:∀ b,b<w.heap.size→o b = .no→o' b = .no∧w'.heap[b]? = w.heap[b]?):∀ {d:Nat} {v:Value} {l:List α},T.P d v l w o k→T.P d v l w' o' k'
  | 0,v,l,h=>⟨h.1,h.2.keep hs h2⟩
  | d + 1, v, l, h => by
    obtain ⟨lg,e,a,b⟩:=h
    exact ⟨lg,e,a.keep hs h2,fun p hp=>⟨(b p hp).1.keep hs h1 h2,fun q hq=>TC.P_keep hs h1 h2 ((b p hp).2 q hq)⟩⟩
theorem TC.P_free {T:TC α} {w:World} {o o' : Own} {k k' : Nat} (ho:∀ b,b<w.heap.size→o b = .no→o' b = .no):∀ {d:Nat} {v:Value} {l:List α},T.P d v l w o k→T.P d v l w o' k'
  | 0,v,l,h=>⟨h.1,h.2.keep (Nat.le_refl _) (fun b hlt hb=>⟨ho b hlt hb,rfl⟩)⟩
  | d + 1, v, l, h => by
    obtain ⟨lg,e,a,b⟩:=h
    exact ⟨lg,e,a.keep (Nat.le_refl _) (fun b hlt hb=>⟨ho b hlt hb,rfl⟩),fun p hp=>⟨(b p hp).1.free (T.free _ _) ho,fun q hq=>TC.P_free ho ((b p hp).2 q hq)⟩⟩
theorem TC.P_more {T:TC α} {w:World} {o:Own} {k:Nat}:∀ {d:Nat} {v:Value} {l:List α},T.P d v l w o k→T.P (d+1) v l w o k
  | 0,v,l,h=>by obtain ⟨rfl,h⟩:=h; exact ⟨[],rfl,h,fun p hp=>by simp at hp⟩
  | d + 1, v, l, h => by
    obtain ⟨lg,e,a,b⟩:=h
    exact ⟨lg,e,a,fun p hp=>⟨(b p hp).1,fun q hq=>TC.P_more ((b p hp).2 q hq)⟩⟩
theorem TC.P_le {T:TC α} {w:World} {o:Own} {k:Nat} {d d' : Nat} (h:d≤d') {v:Value} {l:List α} (hp:T.P d v l w o k):T.P d' v l w o k:=by
 obtain ⟨n,rfl⟩ : ∃ n,d'=d+n:=⟨d' - d,by omega⟩
 clear h
 induction n with
 | zero=>exact hp
 | succ n ih=>exact TC.P_more ih
def tro (v:Value) (T:TC α) (l:List α):HA:=⟨fun w o k=>∃ d,T.P d v l w o k,fun hs h1 h2 ⟨d,h⟩=>⟨d,TC.P_keep hs h1 h2 h⟩⟩
theorem zi6 {v:Value} {T:TC α} {l:List α}:Free (tro v T l):=fun w o o' k k' ho ⟨d,h⟩=>⟨d,TC.P_free ho h⟩
def TC.nc (T:TC α):NC α where
 G:=T.G
 es:=T.es
 F:=T.F
 S:=fun x g=>T.fixed x g++(T.kids x g).map fun q=>tro q.1 T q.2
 free:=by
  intro x g h hh
  rcases List.mem_append.1 hh with hh | hh
  ·exact T.free x g h hh
  ·obtain ⟨q,_,rfl⟩:=List.mem_map.1 hh; exact zi6
 ok:=by
  intro x g w o k hh
  refine T.ok x g w o k (fun h hm=>hh h (List.mem_append_left _ hm)) (fun q hq=>?_)
  obtain ⟨d,hd⟩:=hh _ (List.mem_append_right _ (List.mem_map.2 ⟨q,hq,rfl⟩))
  exact TC.P_slice hd
theorem zlB {v:Value} {T:TC α} {l:List α} {w:World} {o:Own} {k:Nat} (h:(tro v T l).p w o k):(nro v T.nc l).p w o k:=by
  obtain ⟨d,h⟩:=h
  cases d with
  | zero =>
    obtain ⟨rfl,h⟩:=h
    exact ⟨⟨[],rfl,h,fun p hp=>by simp at hp⟩,fun q=>by cases q⟩
  | succ d =>
    obtain ⟨lg,e,a,b⟩:=h
    refine ⟨⟨lg,e,a,fun p hp h hh=>?_⟩,fun q=>by cases q⟩
    rcases List.mem_append.1 hh with hh | hh
    · exact (b p hp).1 h hh
    · obtain ⟨q,hq,rfl⟩:=List.mem_map.1 hh
      exact ⟨d,(b p hp).2 q hq⟩
theorem zay {β:Type} {Q:Nat→β→Prop} (hm:∀ d d' x,d≤d'→Q d x→Q d' x):∀ l:List β,(∀ x∈l,∃ d,Q d x)→∃ d,∀ x∈l,Q d x
  | [],_=>⟨0,fun x hx=>by simp at hx⟩
  | x :: l, h => by
    obtain ⟨d1,h1⟩:=h x (List.mem_cons_self ..)
    obtain ⟨d2,h2⟩:=zay hm l (fun y hy=>h y (List.mem_cons_of_mem _ hy))
    refine ⟨max d1 d2,fun y hy=>?_⟩
    rcases List.mem_cons.1 hy with rfl | hy
    · exact hm _ _ _ (Nat.le_max_left _ _) h1
    · exact hm _ _ _ (Nat.le_max_right _ _) (h2 y hy)
theorem zkY {v:Value} {T:TC α} {l:List α} {w:World} {o:Own} {k:Nat} (h:(nro v T.nc l).p w o k):(tro v T l).p w o k:=by
 obtain ⟨⟨lg,e,a,b⟩,_⟩:=h
 obtain ⟨d,hd⟩:=zay (Q:=fun d (p:α×T.G)=>∀ q∈T.kids p.1 p.2,T.P d q.1 q.2 w o k) (fun d d' p hl h q hq=>TC.P_le hl (h q hq)) lg (fun p hp=>by
  obtain ⟨d,hd⟩:=zay (Q:=fun d (q:Value×List α)=>T.P d q.1 q.2 w o k) (fun d d' q hl h=>TC.P_le hl h) (T.kids p.1 p.2) (fun q hq=>
   b p hp _ (List.mem_append_right _ (List.mem_map.2 ⟨q,hq,rfl⟩)))
  exact ⟨d,hd⟩)
 exact ⟨d+1,lg,e,a,fun p hp=>⟨fun h hh=>b p hp h (List.mem_append_left _ hh),hd p hp⟩⟩
theorem zo7 (v:Value) (T:TC α) (l:List α):tro v T l=nro v T.nc l:=by
 have h:(tro v T l).p=(nro v T.nc l).p:=by
  funext w o k
  exact propext ⟨zlB,zkY⟩
 cases hx:tro v T l
 cases hy:nro v T.nc l
 rw [hx,hy] at h
 simp only at h
 subst h
 rfl
end Go.Abs
namespace Go.Abs
variable {α : Type} {T : TC α} {H : List HA} {v : Value} {l : List α}
theorem TC.S_eq (x:α) (g:T.G):T.nc.S x g=T.fixed x g++(T.kids x g).map fun q=>nro q.1 T.nc q.2:=by
 show (T.fixed x g++(T.kids x g).map fun q=>tro q.1 T q.2)=_
 congr 1
 exact List.map_congr_left fun q _=>zo7 q.1 T q.2
theorem exAtT {i:Nat} {x:α} (m:Nat) (hm:H[m]? = some (nro v T.nc l)) (hx:l[i]? = some x):ExT H (fun g:T.G=>atc v (i*T.es) (T.F x g)::(T.fixed x g++(T.kids x g).map fun q=>nro q.1 T.nc q.2)):=by
 have h:ExT H (fun g:T.G=>atc v (i*T.es) (T.F x g)::T.nc.S x g):=exAt (C:=T.nc) m hm hx
 have e:(fun g:T.G=>atc v (i*T.es) (T.F x g)::T.nc.S x g)=(fun g:T.G=>atc v (i*T.es) (T.F x g)::(T.fixed x g++(T.kids x g).map fun q=>nro q.1 T.nc q.2)):=by
  funext g; rw [TC.S_eq]
 rw [e] at h
 exact h
end Go.Abs
namespace Go.Abs
theorem z7r {v:Value} (h:∃ a n c,v = .slice a n c):v.oneCell'=true:=by obtain ⟨a,n,c,rfl⟩:=h; rfl
end Go.Abs
namespace Go.Abs
variable {α : Type} {T : TC α} {H : List HA} {v : Value} {l : List α} {V : VF}
end Go.Abs
namespace Go.Abs
variable {E : Env} {k : List KI} {V : VF} {H : List HA}
theorem bltF {a b:Nat} (h:b≤a):Nat.blt a b=false:=by
 cases e:Nat.blt a b with
 | false=>rfl
 | true=>simp at e; omega
theorem bltT {a b:Nat} (h:a<b):Nat.blt a b=true:=by simpa using h
theorem z7o (w:World) (o:Obj) (k:Nat) (h:k<w.heap.size):(w.alloc o).heap[k]? = w.heap[k]?:=by
 simp only [World.alloc,Array.getElem?_push]
 rw [if_neg (by omega)]
def zii (l:Nat) (r:Loop):HA:=
 ⟨fun w o k=>o l = .mine k∧l<w.heap.size∧w.heap[l]? = some (.loop r),fun hs h1 _ ⟨a,b,c⟩=>⟨(h1 _ b a).1,Nat.lt_of_lt_of_le b hs,(h1 _ b a).2.trans c⟩⟩
def zbK {G:Type} (l:Nat) (r:Loop) (Hs:G→List HA):HA:=
  ⟨fun w o k => ∃ g o', Bnd w o' ∧ Sats w o' (zii l r :: Hs g) ∧ (∀ b j, o' b = .mine j → o b = .mine k ∧ b < w.heap.size) ∧ (∀ b, b < w.heap.size → o' b = .no → o b = .no),
   fun {w w' o o2 k k2} hs h1 h2 ⟨g,o',hb,hS,hm,hn⟩=>by
    refine ⟨g,fun b=>bif Nat.blt b w.heap.size then o' b else (bif Nat.blt b w'.heap.size then .far else .no),?_,?_,?_,?_⟩
    · intro b hb'
      have e1:Nat.blt b w.heap.size=false:=bltF (Nat.le_trans hs hb')
      have e2:Nat.blt b w'.heap.size=false:=bltF hb'
      simp [e1,e2]
    · intro j h hj
      refine h.keep hs (fun b hlt ho=>?_) (fun b hlt ho=>?_) (hS j h hj)
      · have e1:Nat.blt b w.heap.size=true:=bltT hlt
        exact ⟨by simp [e1,ho],(h1 b hlt (hm b j ho).1).2⟩
      · have e1:Nat.blt b w.heap.size=true:=bltT hlt
        exact ⟨by simp [e1,ho],(h2 b hlt (hn b hlt ho)).2⟩
    · intro b j ho
      cases e1:Nat.blt b w.heap.size with
      | true =>
        simp only [e1,cond_true] at ho
        have:=hm b j ho
        exact ⟨(h1 b this.2 this.1).1,Nat.lt_of_lt_of_le this.2 hs⟩
      | false =>
        simp only [e1,cond_false] at ho
        cases e2:Nat.blt b w'.heap.size <;> simp [e2] at ho
    · intro b hlt ho
      cases e1:Nat.blt b w.heap.size with
      | true =>
        simp only [e1,cond_true] at ho
        have hlt' : b<w.heap.size:=by simpa using e1
        exact (h2 b hlt' (hn b hlt' ho)).1
      | false =>
        have e2:Nat.blt b w'.heap.size=true:=by simpa using hlt
        simp [e1,e2] at ho⟩
def TrK (w:World) (o:Own) (k:Nat) (w' : World) (o' : Own):Prop:=
 Tr w o w' o'∧∀ b j,b<w.heap.size→j≠k→o b = .mine j→o' b = .mine j∧w'.heap[b]? = w.heap[b]?
def recOf (fn:FuncId) (tmps:Array Value) (ps:Array Tmp) (assign body:Code) (D:Nat) (st:LoopState) (pe:Option Code):Loop:=
 { state:=st,pending:=pe,fn:=fn,tmps:=tmps,params:=ps,assign:=assign,body:=body,defers:=D }
def zlh:Exit→Option Nat→List Code→Prop
 | .normal,none,_=>True
 | .ret,some i,jumps=>jumps[i]? = some .ret
 | .exit id,some i,jumps=>jumps[i]? = some (.exit id)
 | _,_,_=>False
def EnvA (P:Program) (n:Nat) (w0:World) (o0:Own) (l:Nat):Env:=
 { P:=P,n:=n,w0:=w0,o0:=o0,r:=some l,B:=fun _ _ _=>False,np:=fun _ _ _ _ _ _ h=>h,no:=fun _ _ h=>h }
def EnvR {G:Type} (P:Program) (n:Nat) (w0:World) (o0:Own) (l:Nat) (Hs:G→List HA) (j:Option Nat) (jumps:List Code):Env:=
  { P := P, n := n, w0 := w0, o0 := o0, r := some l, B := fun e _ w => zlh e j jumps ∧ ∃ g o, Bnd w o ∧ Tr w0 o0 w o ∧ Sats w o (Hs g),
    np:=fun _ _ _ _ _ _ h=>by cases j <;> exact h.1.elim,no:=fun _ _ h=>by cases j <;> exact h.1.elim }
def isK (k:Nat):Ow→Bool
 | .mine j=>j == k
 | _=>false
def backO (l k n:Nat) (o o3:Own):Own:=fun b=>if b=l then .mine k else if b<n∧isK k (o b)=false then o b else (match o3 b with | .mine _=>.mine k | x=>x)
def upO (l:Nat) (o3:Own):Own:=fun b=>if b=l then .mine 0 else (match o3 b with | .mine i=>.mine (i+1) | x=>x)
def downO (o:Own):Own:=fun b=>match o b with | .mine 0=>.far | .mine (i+1)=>.mine i | x=>x
section
variable {S G : Type} {P : Program} {n l : Nat} {w0 : World} {o0 : Own} {Hs : G → List HA} {jumps : List Code} {j : Option Nat} {body : Code}
theorem zeA (g:G) (is:List Nat) (hn:is.Nodup) (hG:Picks is H (Hs g)) (hj:j=none):Goes (EnvR P n w0 o0 l Hs j jumps) [] V H:=by
 subst hj
 intro a w r
 obtain ⟨_,_,_,o,hb,ht,hs⟩:=r.pick hn hG
 exact ⟨trivial,g,o,hb,ht.tr,hs⟩
end
def VF.sets:List (Nat×Value)→VF→VF
 | [],V=>V
 | (p,v)::r,V=>VF.sets r (V.set p v)
theorem z9x {n:Nat}:∀ (ps:List Nat) (vs:List Value) (V:VF) (t:Array Value),t.size=n→(ps.all fun p=>Nat.blt p n)=true→Agree V { tmps:=t,defers:=[] }→
    Agree (VF.sets (ps.zip vs) V) { tmps:=(ps.zip vs).foldl (fun tmps (t,a)=>tmps.setIfInBounds t a) t,defers:=[] }
  | [],vs,V,t,_,_,h=>by simpa [VF.sets] using h
  | p::ps,[],V,t,_,_,h=>by simpa [VF.sets] using h
  | p :: ps, v :: vs, V, t, hz, hp, h => by
    simp only [List.all_cons,Bool.and_eq_true] at hp
    have hlt:p<t.size:=by rw [hz]; simpa using hp.1
    refine z9x ps vs (V.set p v) (t.setIfInBounds p v) (by simp [hz]) hp.2 ?_
    intro u x hx
    rcases VF.set_eq hx with ⟨rfl,rfl⟩ | ⟨hne,hx⟩
    · simp [hlt]
    · have:=h u x hx
      simp only [Array.getD_eq_getD_getElem?] at this ⊢
      rw [Array.getElem?_setIfInBounds_ne (by omega)]
      exact this
theorem z8i:∀ (sh:List (Nat×Nat)) (H:List HA),zX sh (H++[HA.emp])=zX sh H++[HA.emp]
  | [],H=>rfl
  | s :: sh, H => by
    unfold zX
    rw [List.foldl_cons,List.foldl_cons]
    have key:(if s.2 == 2 then (H++[HA.emp]).set s.1 HA.emp else H++[HA.emp])=(if s.2 == 2 then H.set s.1 HA.emp else H)++[HA.emp]:=by
      split
      · by_cases hlt:s.1<H.length
        · rw [List.set_append_left _ _ hlt]
        · rw [List.set_append_right _ _ (by omega),List.set_eq_of_length_le (l:=H) (by omega)]
          by_cases h0:s.1 - H.length=0
          · rw [h0]; rfl
          · rw [List.set_eq_of_length_le (by simp; omega)]
      · rfl
    rw [key]
    exact z8i sh _
theorem zcz {w:World} {o:Own} {H:List HA} {g:HA} (hs:Sats w o H) (hg:g.p w o H.length):Sats w o (H++[g]):=by
 intro j h hj
 rw [List.getElem?_append] at hj
 split at hj
 ·exact hs j h hj
 ·rename_i hlt
  have h0:j - H.length=0:=by
   by_cases h0:j - H.length=0
   ·exact h0
   ·rw [show j - H.length=(j - H.length - 1)+1 by omega] at hj; simp at hj
  rw [h0] at hj
  simp at hj
  subst hj
  obtain rfl:j=H.length:=by omega
  exact hg
end Go.Abs
namespace Go.Abs
section
variable {V : VF} {H : List HA} {P : Program} {d : Option Nat} {ty : TypeId} {pos : String} {af : Array Edge} {g : Option (Nat × Bool)}
theorem zj1 {x:Operand} {b off:Nat} (hx:V.ev x=some (boxP b off)):OpY P ⟨d,.nilCheck x,ty,pos,af,g⟩ V H (boxP b off):=by
 intro ρ w o hf _ _
 simp [execOp,hf x _ hx,boxP]
theorem zgw {x:Operand} {v:Value} {i:Nat} (hx:V.ev x=some (elemP v i)) (hs:elemP v i≠.pointer none) (hp:∃ a,elemP v i = .pointer a):OpY P ⟨d,.nilCheck x,ty,pos,af,g⟩ V H (elemP v i):=by
 intro ρ w o hf _ _
 obtain ⟨a,ha⟩:=hp
 rw [ha] at hx hs ⊢
 cases a with
 | none=>exact absurd rfl hs
 | some a=>simp [execOp,hf x _ hx]
theorem zlN {x:Operand} {f:FuncId} {cs:Array Value} (hx:V.ev x=some (.func (.func f) #[] cs)):OpY P ⟨d,.nilCheck x,ty,pos,af,g⟩ V H (.func (.func f) #[] cs):=by
 intro ρ w o hf _ _
 simp [execOp,hf x _ hx]
theorem zfd {x:Operand} {l:Nat} (hx:V.ev x=some (.func (.yield l) #[] #[])):OpY P ⟨d,.nilCheck x,ty,pos,af,g⟩ V H (.func (.yield l) #[] #[]):=by
 intro ρ w o hf _ _
 simp [execOp,hf x _ hx]
end
end Go.Abs
namespace Go.Abs
end Go.Abs
namespace Go.Abs
section
variable {E : Env} {k : List KI} {V : VF} {H : List HA} {ops : Array Oper} {op : Oper} {listed : Array Bool} {fuel : Nat} {Hs : List HA}
end
end Go.Abs
namespace Go.Abs
end Go.Abs
namespace Go.Abs
def obind {α β:Type} (x:Option α) (f:α→Option β):Option β:=x.bind f
theorem z1R {α β:Type} {x:Option α} {f:α→Option β} {b:β} (h:obind x f=some b):∃ a,x=some a∧f a=some b:=bind_some h
end Go.Abs
namespace Go.Abs
variable {E : Env} {k : List KI} {V : VF} {H : List HA} {P : Program}
section
variable {d : Option Nat} {ty : TypeId} {pos : String} {af : Array Edge} {g : Option (Nat × Bool)}
theorem zgu {T:TypeId} {ds:TypeDesc} {x:Operand} {v:Value} (hu:∀ w,(underlying T).run P w = .ok ds w) (hni:(match ds with | .interface _=>false | _=>true)=true) (hx:V.ev x=some v) :
  OpY P ⟨d,.makeInterface T x,ty,pos,af,g⟩ V H (.iface T v):=by
 intro ρ w o hf _ _
 cases ds <;> simp at hni <;> simp [execOp,Instr.makeInterface,hu,hf x _ hx]
end
section
variable {d : Option Nat} {ty : TypeId} {pos : String} {af : Array Edge} {g : Option (Nat × Bool)}
theorem zgo {T U:TypeId} {ds:TypeDesc} {x:Operand} {v:Value} (hu:∀ w,(underlying T).run P w = .ok ds w) (hni:(match ds with | .interface _=>false | _=>true)=true) (hx:V.ev x=some (.iface T v)) :
  OpY P ⟨d,.typeAssert x U T true,ty,pos,af,g⟩ V H (.tuple #[v,.bool true]):=by
 intro ρ w o hf _ _
 cases ds <;> simp at hni <;> simp [execOp,Instr.typeAssert,hu,hf x _ hx]
end
end Go.Abs
namespace Go.Abs
variable {E : Env} {k : List KI} {V : VF} {H : List HA}
def bodyQ (P:Program) (fn:Func) (w0:World) (o0:Own) (post:Post):Exit→Act→World→Prop
 | .outgrown,_,_=>False
 | e,a,w=>bodyPostM (FR none) 0 P fn (Ends w0 o0 post) e a w
def EnvQ (P:Program) (n:Nat) (w0:World) (o0:Own) (fn:Func) (post:Post):Env:=
 { P:=P,n:=n,w0:=w0,o0:=o0,r:=none,nd:=true,B:=bodyQ P fn w0 o0 post,blind:=false,np:=fun h=>(by cases h),no:=fun _ _ h=>h }
theorem zdN {P:Program} {f:FuncId} {fn:Func} {c:Code} {args:List Value} {H:List HA} {post:Post} {n:Nat}
  (hf:P.funcs[f]? = some fn) (hb:fn.body=some c) (hm:fn.ntmps=n) (hn:Nat.ble args.length n=true)
  (h:∀ w0 o0,Run (EnvQ P n w0 o0 fn post) c [] (VF.args args 0) H):Meets P f args H post:=by
 intro w o hbd hs
 refine callsIn_wide.1 (callsIn_of_wp_marks (F:=FR none) (n:=0) hf hb trivial ?_)
 refine wpIn_mono (h w o _ _ ⟨?_,(fun _=>rfl),?_,o,hbd,TrD.of (TrM.refl w o) rfl,hs⟩) (fun e _ _ h=>?_)
 ·have:=Nat.le_of_ble_eq_true hn
  simp [hm,EnvQ]; omega
 ·intro t v hv
  obtain ⟨_,h2⟩:=VF.args_get args 0 t v hv
  exact z5E v (by simpa using h2)
 ·cases e with
  | outgrown=>exact h.elim
  | normal=>exact h
  | ret=>exact h
  | panic _=>exact h
  | exit _=>exact h
  | goto _=>exact h
def Env.push (E:Env) (D:Deferred):Env:={ E with db:=D::E.db,nd:=false }
theorem z9w {D:Deferred}:∀ (k:List KI),Qof (E.push D) k=Qof E k
 | []=>rfl
 | .code y::k=>by simp only [Qof]; rw [z9w k]; rfl
 | .blk id::k=>by simp only [Qof]; rw [z9w k]
 | .scope::k=>by simp only [Qof]; rw [z9w k]
 | .loop L::k=>by simp only [Qof]; rw [z9w k]
theorem zfX {ops:Array Oper} {rest:List Oper} {ty:TypeId} {pos:String} {af:Array Edge} {g:Option (Nat×Bool)} {x:Operand} {f:FuncId} {cs:List Value} (hw:Wants E.n ops V ⟨none,.defer ⟨.value x,#[],#[]⟩,ty,pos,af,g⟩)
  (hx:V.ev x=some (.func (.func f) #[] cs.toArray)) (h0:E.db=[]) (hr:E.nd=true) (hr0:E.r=none) (hk:Ops (E.push { target:=.fn (.func f) cs.toArray,args:=#[] }) ops rest k V H) :
  Ops E ops (⟨none,.defer ⟨.value x,#[],#[]⟩,ty,pos,af,g⟩::rest) k V H:=by
 intro a w r
 unfold wpListIn
 rw [if_pos (hw.wanted r)]
 have hf:=r.fits
 obtain ⟨h1,h2,h3,o,hb,ht,hs⟩:=r
 have hrun:(execOp a.eval ⟨none,.defer ⟨.value x,#[],#[]⟩,ty,pos,af,g⟩).run E.P w = .ok (.defer { target:=.fn (.func f) cs.toArray,args:=#[] }) w:=by
  simp [execOp,resolve,Deferred.ofValue,hf x _ hx]
 unfold Oper.wpIn
 refine ⟨fun _ _=>trivial,?_⟩
 have hsem:Oper.semAt (FR E.r).round a.eval ⟨none,.defer ⟨.value x,#[],#[]⟩,ty,pos,af,g⟩=execOp a.eval ⟨none,.defer ⟨.value x,#[],#[]⟩,ty,pos,af,g⟩:=by rw [hr0]; rfl
 rw [hsem,hrun,Oper.uponIn_defer]
 have:=hk { a with defers:={ target:=.fn (.func f) cs.toArray,args:=#[] }::a.defers } w ⟨h1,fun h=>(by cases h),h3,o,hb,?_,hs⟩
 ·rw [z9w] at this
  exact this
 ·have hd:=h2 hr
  rw [hd] at ht ⊢
  exact ⟨[],by simp [Env.push,h0],ht.tr,z8u.nil _ _ _⟩
theorem z7L {P:Program} {w0:World} {o0:Own} {fn:Func} {tmps:Array Value} {R:Ending→World→Prop} {u:FrameMode} {H:List HA} {ds0:List Deferred} (hu:u≠.run)
    (h:∀ w' o,Bnd w' o→Tr w0 o0 w' o→Sats w' o H→LeavesInM (FR none) 0 P fn tmps R ds0 u w'):∀ (ds:List Deferred) (w:World) (o:Own),Bnd w o→TrM w0 o0 ds w o→Sats w o H→LeavesInM (FR none) 0 P fn tmps R (ds++ds0) u w
  | [],w,o,hb,ht,hs=>h w o hb ht.tr hs
  | d :: ds, w, o, hb, ht, hs => by
    obtain ⟨D,e,h1,h2,h3,h4⟩:=ht.mks.1 d (List.mem_cons_self ..)
    have hnd:=List.nodup_cons.1 ht.mks.2
    refine ⟨hu,.inl ⟨D,w.putObj D (.deferred none),by rw [e],run_takeDeferred h4,?_⟩⟩
    have hsz:(w.putObj D (.deferred none)).heap.size=w.heap.size:=World.putObj_size
    have hot:∀ b,o b≠.far→(w.putObj D (.deferred none)).heap[b]? = w.heap[b]?:=fun b hb=>World.putObj_heap_other (by rintro rfl; exact hb h3)
    refine z7L hu h ds _ o ?_ ?_ ?_
    · intro b hb'; exact hb b (by rwa [hsz] at hb')
    · refine ⟨⟨ht.tr.os,ht.tr.tape,ht.tr.output,by rw [hsz]; exact ht.tr.size,fun b hb' ho=>?_,fun b hb' ho=>?_⟩,fun d' hd'=>?_,hnd.2⟩
      · obtain ⟨f1,f2⟩:=ht.tr.no b hb' ho
        exact ⟨f1,(hot b (by rw [f1]; simp)).trans f2⟩
      · obtain ⟨f1,f2⟩:=ht.tr.far b hb' ho
        exact ⟨f1,(World.putObj_heap_other (by omega)).trans f2⟩
      · obtain ⟨D',e',g1,g2,g3,g4⟩:=ht.mks.1 d' (List.mem_cons_of_mem _ hd')
        refine ⟨D',e',g1,by rw [hsz]; exact g2,g3,(World.putObj_heap_other ?_).trans g4⟩
        rintro rfl
        exact hnd.1 (by rw [e,← e']; exact hd')
    · intro j g hj
      exact g.keep (Nat.le_of_eq hsz.symm) (fun b _ hb'=>⟨hb',hot b (by rw [hb']; simp)⟩) (fun b _ hb'=>⟨hb',hot b (by rw [hb']; simp)⟩) (hs j g hj)
theorem zbo {P:Program} {f:FuncId} {cs:Array Value} (hcall:∀ args w,(callFunc f args).run P w = .ok (.enter f args) w) (w:World):(invoke (.fn (.func f) cs) #[]).run P w = .ok (.enter f cs) w:=by
 simp [invoke,hcall]
def RecD (P:Program) (f:FuncId) (cs:List Value) (u u' : FrameMode) (H H' : List HA):Prop:=∀ w o,Bnd w o→Sats w o H→
 CallsDIn (FR none) 0 P f cs.toArray u w (fun e u2 w'=>e = .returned (.tuple #[])∧u2=u'∧∃ o',Bnd w' o'∧Tr w o w' o'∧Sats w' o' H')
section
variable {P : Program} {n : Nat} {w0 : World} {o0 : Own} {fn : Func} {post : Post} {f : FuncId} {cs : List Value}
theorem zkp (hcall:∀ args w,(callFunc f args).run P w = .ok (.enter f args) w) (hc:RecD P f cs .returning .returning H H) (h:Fin (EnvQ P n w0 o0 fn post) V H):Fin ((EnvQ P n w0 o0 fn post).push { target:=.fn (.func f) cs.toArray,args:=#[] }) V H:=by
 rintro a w ⟨h1,_,h3,o,hb,⟨ms,hds,ht⟩,hs⟩
 show LeavesInM (FR none) 0 P fn a.tmps (Ends w0 o0 post) a.defers .returning w
 have hds' : a.defers=ms++[{ target:=.fn (.func f) cs.toArray,args:=#[] }]:=by simpa [Env.push,EnvQ] using hds
 rw [hds']
 refine z7L (by simp) (fun w' o' hb' ht' hs'=>?_) ms w o hb ht hs
 refine ⟨by simp,.inr ⟨by simp [FR],_,_,_,_,rfl,zbo hcall w',fun _ _=>trivial,(hc w' o' hb' hs').mono ?_⟩⟩
 rintro e u w'' ⟨rfl,rfl,o'',hb'',ht'',hs''⟩
 exact h { a with defers:=[] } w'' ⟨h1,fun _=>rfl,h3,o'',hb'',⟨[],rfl,ht'.trans ht'',z8u.nil _ _ _⟩,hs''⟩
theorem zi1 {v:Value} {H' : List HA} (hcall:∀ args w,(callFunc f args).run P w = .ok (.enter f args) w) (hc:RecD P f cs (.panicking [{ v:=v,recovered:=false }]) (.panicking [{ v:=v,recovered:=true }]) H H') (h:Fin (EnvQ P n w0 o0 fn post) V H'):FinP ((EnvQ P n w0 o0 fn post).push { target:=.fn (.func f) cs.toArray,args:=#[] }) V H v:=by
 rintro a w ⟨h1,_,h3,o,hb,⟨ms,hds,ht⟩,hs⟩
 show LeavesInM (FR none) 0 P fn a.tmps (Ends w0 o0 post) a.defers (.panicking [{ v:=v,recovered:=false }]) w
 have hds' : a.defers=ms++[{ target:=.fn (.func f) cs.toArray,args:=#[] }]:=by simpa [Env.push,EnvQ] using hds
 rw [hds']
 refine z7L (by simp) (fun w' o' hb' ht' hs'=>?_) ms w o hb ht hs
 refine ⟨by simp,.inr ⟨by simp [FR],_,_,_,_,rfl,zbo hcall w',fun _ _=>trivial,(hc w' o' hb' hs').mono ?_⟩⟩
 rintro e u w'' ⟨rfl,rfl,o'',hb'',ht'',hs''⟩
 exact h { a with defers:=[] } w'' ⟨h1,fun _=>rfl,h3,o'',hb'',⟨[],rfl,ht'.trans ht'',z8u.nil _ _ _⟩,hs''⟩
theorem Rel.leavesQ {a:Act} {w:World} (r:Rel (EnvQ P n w0 o0 fn post) V H a w)
  (h:∀ w' o,Bnd w' o→Tr w0 o0 w' o→Sats w' o H→∃ v,(results fn a.tmps).run P w' = .ok v w'∧Ends w0 o0 post (.returned v) w'):(EnvQ P n w0 o0 fn post).B .ret a w:=by
 obtain ⟨_,h2,_,o,hb,⟨ms,hds,ht⟩,hs⟩:=r
 have hd:=h2 rfl
 show LeavesInM (FR none) 0 P fn a.tmps (Ends w0 o0 post) a.defers .returning w
 rw [hd]
 exact h w o hb ht.tr hs
end
def EnvS (P:Program) (n:Nat) (w0:World) (o0:Own):Env:=
 { P:=P,n:=n,w0:=w0,o0:=o0,r:=none,nd:=true,B:=fun _ _ _=>False,np:=fun _ _ _ _ _ _ h=>h,no:=fun _ _ h=>h }
def OpsS (E:Env) (ops:Array Oper) (l:List Nat) (Q:Exit→Act→List Frame→World→Prop) (cs:List Frame) (V:VF) (H:List HA):Prop:=
 ∀ a w,Rel E V H a w→wpOpsSIn (FR none) 0 E.P ops Q l a cs w
def RunS (E:Env) (c:Code) (Q:Exit→Act→List Frame→World→Prop) (cs:List Frame) (V:VF) (H:List HA):Prop:=
 ∀ a w,Rel E V H a w→c.wpSIn (FR none) 0 E.P Q a cs w
section
variable {Q : Exit → Act → List Frame → World → Prop} {cs : List Frame} {ops : Array Oper} {rest : List Nat}
theorem z8p {x y:Code} (h:RunS E x (Exit.thenS (y.wpSIn (FR none) 0 E.P Q) Q) cs V H):RunS E (.seq x y) Q cs V H:=fun a w r=>wpSIn_seq (h a w r)
theorem z6a {id:Nat} (l:List Nat) (hl:List.range ops.size=l) (h:OpsS E ops l Q cs V H):RunS E (.region id ops false) Q cs V H:=fun a w r=>wpSIn_region (by rw [hl]; exact h a w r)
theorem z7s {y:Code} (h:RunS E y Q cs V H):∀ a w,Rel E V H a w→Exit.thenS (y.wpSIn (FR none) 0 E.P Q) Q .normal a cs w:=h
theorem zcv {c:Operand} {x y:Code} (t:Bool) (hc:V.ev c=some (.bool t)) (h:RunS E (if t then x else y) Q cs V H):RunS E (.cond c x y) Q cs V H:=
 fun a w r=>wpSIn_cond (r.2.2.1.ev hc) (h a w r)
theorem zao {c:Operand} {x y:Code} (hc:V.ev c=some (.bool false)) (h:RunS E y Q cs V H):RunS E (.cond c x y) Q cs V H:=zcv false hc h
theorem zcw (h:∀ a w,Rel E V H a w→Q .normal a cs w):RunS E .skip Q cs V H:=fun a w r=>wpSIn_of_wpIn rfl (wpIn_skip (h a w r))
theorem z8m (h:∀ a w,Rel E V H a w→Q .normal a cs w):OpsS E ops [] Q cs V H:=fun a w r=>h a w r
theorem zcW {i:Nat} {op:Oper} {v:Value} (hi:ops[i]? = some op) (hg:op.guard=none) (hd:inB E.n op.dst=true) (h:OpY E.P op V H v) (hk:OpsS E ops rest Q cs (V.put op.dst v) H):OpsS E ops (i::rest) Q cs V H:=by
 intro a w r
 simp only [wpOpsSIn,hi]
 have hf:=r.fits
 obtain ⟨h1,h2,h3,o,hb,ht,hs⟩:=r
 refine ⟨fun _ _=>trivial,?_⟩
 rw [if_pos (by simp [Region.wanted,hg]),h a.eval w o hf hb hs]
 exact hk _ w (Rel.put h1 h2 h3 hd hb ht (Tr.refl w o) hs)
theorem z6N {i:Nat} {d:Option Nat} {ty:TypeId} {pos:String} {af:Array Edge} {v:Value} {cs' : List Frame} (hi:ops[i]? = some ⟨d,.call ⟨.builtin .recover,#[],#[]⟩,ty,pos,af,none⟩) (hd:inB E.n d=true)
  (hr:(match recoverD cs with | some (v,cs')=>(v,cs') | none=>(Value.nilIface,cs))=(v,cs')) (hk:OpsS E ops rest Q cs' (V.put d v) H):OpsS E ops (i::rest) Q cs V H:=by
 intro a w r
 simp only [wpOpsSIn,hi]
 obtain ⟨h1,h2,h3,o,hb,ht,hs⟩:=r
 refine ⟨fun _ _=>trivial,?_⟩
 rw [if_pos (by simp [Region.wanted])]
 have hrun:(execOp a.eval ⟨d,.call ⟨.builtin .recover,#[],#[]⟩,ty,pos,af,none⟩).run E.P w = .ok .recover w:=by
  simp [execOp,resolve,invoke,builtin]
 rw [hrun]
 have:=hk _ w (Rel.put (d:=d) (v:=v) h1 h2 h3 hd hb ht (Tr.refl w o) hs)
 cases hc:recoverD cs with
 | none=>rw [hc] at hr; simp at hr; obtain ⟨rfl,rfl⟩:=hr; exact this
 | some p=>obtain ⟨v1,c1⟩:=p; rw [hc] at hr; simp at hr; obtain ⟨rfl,rfl⟩:=hr; exact this
end
section
variable {P : Program} {f : FuncId} {fn : Func} {c : Code} {cs : List Value} {n : Nat}
theorem zbk {u u' : FrameMode} {H H' : List HA} (hf:P.funcs[f]? = some fn) (hb:fn.body=some c) (hm:fn.ntmps=n) (hn:Nat.ble cs.length n=true)
  (h:∀ (w0:World) (o0:Own) (c0:Frame) (cf:List Frame),c0.mode=u→
   RunS (EnvS P n w0 o0) c (bodyPostS P fn c0 cf (fun e u2 w'=>e = .returned (.tuple #[])∧u2=u'∧∃ o',Bnd w' o'∧Tr w0 o0 w' o'∧Sats w' o' H')) (c0::cf) (VF.args cs 0) H):RecD P f cs u u' H H':=by
 intro w o hbd hs
 refine callsDIn_of_wpSIn hf hb trivial fun c0 cf hu=>?_
 refine h w o c0 cf hu _ _ ⟨?_,(fun _=>rfl),?_,o,hbd,TrD.of (TrM.refl w o) rfl,hs⟩
 ·have:=Nat.le_of_ble_eq_true hn
  simp [hm,EnvS]; omega
 ·intro t v hv
  obtain ⟨_,h2⟩:=VF.args_get cs 0 t v hv
  exact z5E v (by simpa using h2)
theorem leafS {w0:World} {o0:Own} {u' : FrameMode} {c0:Frame} {cf cs' : List Frame} {H' : List HA} {V:VF} (hr:fn.results = #[]) (hcs:cs' = { c0 with mode:=u' }::cf) :
  ∀ a w,Rel (EnvS P n w0 o0) V H' a w→bodyPostS P fn c0 cf (fun e u2 w'=>e = .returned (.tuple #[])∧u2=u'∧∃ o',Bnd w' o'∧Tr w0 o0 w' o'∧Sats w' o' H') .normal a cs' w:=by
 rintro a w ⟨h1,h2,h3,o,hb,ht,hs⟩
 refine ⟨h2 rfl,u',hcs,_,?_,rfl,rfl,o,hb,ht.tr,hs⟩
 unfold results
 rw [hr]
 simp
theorem z9o {c0:Frame} {u:FrameMode} (h:c0.mode=u):c0 = { c0 with mode:=u }:=by
 subst h; rfl
end
end Go.Abs
namespace Go.Abs
variable {E : Env} {k : List KI} {V : VF} {H : List HA}
def Env.calm (E:Env):Env:={ E with B:=fun _ _ _=>False,blind:=true,np:=fun _ _ _ _ _ _ h=>h,no:=fun _ _ h=>h }
theorem zeD {c:Code} (h:∀ L:Act→World→Prop,(∀ V' H',Goes E k V' H'→∀ a w,Rel E V' H' a w→L a w)→Run E.calm c [.loop L] V H):Run E c k V H:=by
 intro a w r
 refine wpIn_mono (h (fun a w=>Qof E k .normal a w) (fun V' H' hg a w r=>hg a w r) a w r) ?_
 intro e a w hq
 cases e with
 | normal=>exact hq
 | exit id=>exact hq.elim
 | goto l=>exact hq.elim
 | ret=>exact hq.elim
 | panic ch=>exact hq.elim
 | outgrown=>exact hq.elim
theorem zfD {L:Act→World→Prop} (hL:∀ V' H',Goes E k V' H'→∀ a w,Rel E V' H' a w→L a w) (h:Goes E k V H):Goes E.calm [.loop L] V H:=fun a w r=>hL V H h a w r
theorem zeC {Q:Exit→Act→List Frame→World→Prop} {cs:List Frame} {c:Code} (h:∀ L:Act→World→Prop,(∀ V' H',(∀ a w,Rel E V' H' a w→Q .normal a cs w)→∀ a w,Rel E V' H' a w→L a w)→Run E.calm c [.loop L] V H) (hr:E.r=none:=by exact rfl):RunS E c Q cs V H:=by
 intro a w r
 refine wpSIn_of_wpIn rfl ?_
 have:=h (fun a w=>Q .normal a cs w) (fun V' H' hg a w r=>hg a w r) a w r
 rw [show (FR E.calm.r)=FR none from congrArg FR hr] at this
 refine wpIn_mono this ?_
 intro e a w hq
 cases e with
 | normal=>exact hq
 | exit id=>exact hq.elim
 | goto l=>exact hq.elim
 | ret=>exact hq.elim
 | panic ch=>exact hq.elim
 | outgrown=>exact hq.elim
end Go.Abs
namespace Go.Abs
open Go.RowKit Go.Sort
def idxN (c:UInt8):List UInt8→Option Nat
 | []=>none
 | b::l=>if b == c then some 0 else (idxN c l).map (· + 1)
def idxP (l:List UInt8) (c:UInt8):Int:=match idxN c l with | some n=>n | none=>-1
theorem ze3 (c:UInt8):∀ l,Lib.indexByte l c=idxP l c
  | []=>rfl
  | b :: l => by
    unfold Lib.indexByte idxP idxN
    rw [ze3 c l]
    unfold idxP
    by_cases h:(b == c)=true
    · simp [h]
    · simp only [h]
      cases hn:idxN c l with
      | none=>simp
      | some n=>simp [show ¬ ((n:Int) = -1) by omega]
def atoiP (l:List UInt8):Int×Bool:=match Lib.atoiAll l with
 | .ok v=>(v,true)
 | .range=>(Lib.atoiSat l,false)
 | _=>(0,false)
structure zmh (P:Program) (N:Nat) (w:World):Prop where
 maxLen:∃ g m,P.globalNamed "internal/bytealg.MaxLen" = some g∧g<N∧w.cell? ⟨g,0,none⟩=some (.int .i64 m)
 errSyntax:∃ g t p,P.globalNamed "strconv.ErrSyntax" = some g∧g<N∧w.cell? ⟨g,0,none⟩=some (.iface t p)
 errRange:∃ g t p,P.globalNamed "strconv.ErrRange" = some g∧g<N∧w.cell? ⟨g,0,none⟩=some (.iface t p)
 pow10:∃ g,P.globalNamed "internal/strconv.uint64pow10" = some g∧g<N∧Lib.TabIs P w "internal/strconv.uint64pow10" .u64 Lib.pow10Tab
def glob (P:Program) (N:Nat):HA:=
 ⟨fun w o _=>N≤w.heap.size∧(∀ b,b<N→o b = .no)∧zmh P N w,fun {w w' o o' k k'} hs _ h2 h=>by
  obtain ⟨a1,a2,a3⟩:=h
  have hb:∀ b,b<N→w'.heap[b]? = w.heap[b]?:=fun b hb=>(h2 b (by omega) (a2 b hb)).2
  refine ⟨by omega,fun b hb=>(h2 b (by omega) (a2 b hb)).1,?_⟩
  obtain ⟨⟨g1,m,e1,l1,f1⟩,⟨g2,t2,p2,e2,l2,f2⟩,⟨g3,t3,p3,e3,l3,f3⟩,⟨g4,e4,l4,f4⟩⟩:=a3
  refine ⟨⟨g1,m,e1,l1,by rw [z6i (hb g1 l1)]; exact f1⟩,⟨g2,t2,p2,e2,l2,by rw [z6i (hb g2 l2)]; exact f2⟩,⟨g3,t3,p3,e3,l3,by rw [z6i (hb g3 l3)]; exact f3⟩,⟨g4,e4,l4,?_⟩⟩
  unfold Lib.TabIs World.var? at f4 ⊢
  rw [e4] at f4 ⊢
  simp only [Option.bind_some] at f4 ⊢
  rw [hb g4 l4]; exact f4⟩
theorem z8z {P:Program} {N:Nat}:Free (glob P N):=fun _ _ _ _ _ ho h=>⟨h.1,fun b hb=>ho b (Nat.lt_of_lt_of_le hb h.1) (h.2.1 b hb),h.2.2⟩
theorem z8M {P:Program} {N:Nat}:Views (glob P N) (glob P N) false:=z9V z8z
def oif (v:Value) (b:Bool):HA:=⟨fun _ _ _=>(v = .nilIface∧b=true)∨((∃ T x,v = .iface T x)∧b=false),fun _ _ _ h=>h⟩
theorem ziJ {w w' : World} {o:Own} (h:Below w.heap.size w w'):Tr w o w' o:=
 ⟨h.os,h.tape,h.output,h.size,fun b hb ho=>⟨ho,h.block b hb⟩,fun b hb ho=>⟨ho,h.block b hb⟩⟩
theorem zfj {w w' : World} {o:Own} (hb:Bnd w o) (h:Below w.heap.size w w'):Bnd w' o:=fun b hle=>hb b (Nat.le_trans h.size hle)
theorem z9A {w w' : World} {o:Own} {post:Post} {v:Value} {G:List HA} (hb:Bnd w o) (h:Below w.heap.size w w') (hp:post v G) (hs:Sats w' o G):Ends w o post (.returned v) w':=
 ⟨v,G,o,rfl,hp,zfj hb h,ziJ h,hs⟩
theorem zeI {w:World} {o:Own}:Sats w o []:=fun j h hj=>by simp at hj
end Go.Abs
namespace Go.Abs
section
variable {P : Program} {V : VF} {H : List HA} {d : Option Nat} {ty : TypeId} {pos : String} {af : Array Edge} {g : Option (Nat × Bool)}
theorem z8c {T:TypeId} {ms:Array (String×TypeId)} (hu:∀ w,(underlying T).run P w = .ok (.interface ms) w) (v:Value) (b:Bool) (h:(v = .nilIface∧b=true)∨((∃ T x,v = .iface T x)∧b=false)) (w:World):(Op.equal T v .nilIface).run P w = .ok b w:=by
 have h0:∀ (n:Nat),(Op.equalIn (n+1) T v .nilIface).run P w = .ok b w:=by
  intro n
  rcases h with ⟨rfl,rfl⟩ | ⟨⟨t,x,rfl⟩,rfl⟩ <;> simp [Op.equalIn,hu]
 exact h0 9999
theorem zgq {T U:TypeId} {x:Operand} {v:Value} {b:Bool} {ms:Array (String×TypeId)} (hu:∀ w,(underlying T).run P w = .ok (.interface ms) w) (hx:V.ev x=some v) (h:(v = .nilIface∧b=true)∨((∃ T x,v = .iface T x)∧b=false)) :
  OpY P ⟨d,.binOp .eql T x (.const .nilIface) U,ty,pos,af,g⟩ V H (.bool b):=by
 intro ρ w o hf _ _
 have h1:=z8c hu v b h
 have h2:ρ (.const .nilIface) = .nilIface:=hf _ _ rfl
 have hx':=hf x v hx
 rcases h with ⟨rfl,rfl⟩ | ⟨⟨t,y,rfl⟩,rfl⟩ <;> simp [execOp,hx',h2,eqGuard,binOp,h1]
theorem zlL {T U:TypeId} {x:Operand} {v:Value} {b:Bool} {ms:Array (String×TypeId)} (hu:∀ w,(underlying T).run P w = .ok (.interface ms) w) (hx:V.ev x=some v) (h:(v = .nilIface∧b=true)∨((∃ T x,v = .iface T x)∧b=false)) :
  OpY P ⟨d,.binOp .neq T x (.const .nilIface) U,ty,pos,af,g⟩ V H (.bool (!b)):=by
 intro ρ w o hf _ _
 have h1:=z8c hu v b h
 have h2:ρ (.const .nilIface) = .nilIface:=hf _ _ rfl
 have hx':=hf x v hx
 rcases h with ⟨rfl,rfl⟩ | ⟨⟨t,y,rfl⟩,rfl⟩ <;> simp [execOp,hx',h2,eqGuard,binOp,h1]
end
end Go.Abs
namespace Go.Abs
variable {E : Env} {k : List KI} {V : VF} {H : List HA}
def cpy {α:Type} (l:List α) (a b:Nat) (new:List α):List α:=l.take a++(new.take (b - a)++l.drop (a+min new.length (b - a)))
theorem zgC {α:Type} {F:α→List Value} (l:List α) (a b:Nat) (new:List α):cpy (l.map F) a b (new.map F)=(cpy l a b new).map F:=by simp [cpy,List.map_take,List.map_drop]
def zdf (v:Value) (es n:Nat) (vd:Value) (a b:Nat):Prop:=vd=subS v es a b∨(vd=v∧a=0∧b=n)
theorem zit {v:Value} {es n a b:Nat}:zdf v es n (subS v es a b) a b:=.inl rfl
section
variable {P : Program} {d : Option Nat} {ty : TypeId} {pos : String} {af : Array Edge} {g : Option (Nat × Bool)}
theorem zca {es:Nat} {new:List (List Value)} (hn:∀ c∈new,c.length=es) (q:Nat) (hq:q≤new.length):(new.take q).flatten.length=q*es:=by
 rw [z6q (new.take q) (fun c hc=>hn c (List.mem_of_mem_take hc)),List.length_take,Nat.min_eq_left hq]
end
end Go.Abs
namespace Go.Abs
variable {V : VF} {H : List HA}
section
variable {P : Program} {d : Option Nat} {ty : TypeId} {pos : String} {af : Array Edge} {g : Option (Nat × Bool)}
def strLt (a b:List UInt8):Bool:=Op.bytesLess a b
theorem zot {T U:TypeId} {x y:Operand} {a b:List UInt8} (hx:V.ev x=some (.string (bs a))) (hy:V.ev y=some (.string (bs b))) :
 OpY P ⟨d,.binOp .lss T x y U,ty,pos,af,g⟩ V H (.bool (strLt a b)):=y_bin hx hy rfl (fun w=>by simp [binOp,Op.stringOp,strLt,z6W])
theorem zos {T U:TypeId} {x y:Operand} {a b:List UInt8} (hx:V.ev x=some (.string (bs a))) (hy:V.ev y=some (.string (bs b))) :
 OpY P ⟨d,.binOp .leq T x y U,ty,pos,af,g⟩ V H (.bool (strLt a b || decide (a=b))):=y_bin hx hy rfl (fun w=>by
  have h:=z7D a b
  simp only [binOp,Op.stringOp,z6W,h]; rfl)
theorem zor {T U:TypeId} {x y:Operand} {a b:List UInt8} (hx:V.ev x=some (.string (bs a))) (hy:V.ev y=some (.string (bs b))) :
 OpY P ⟨d,.binOp .gtr T x y U,ty,pos,af,g⟩ V H (.bool (!(strLt a b || decide (a=b)))):=y_bin hx hy rfl (fun w=>by
  have h:=z7D a b
  simp only [binOp,Op.stringOp,z6W,h]; rfl)
theorem zoq {T U:TypeId} {x y:Operand} {a b:List UInt8} (hx:V.ev x=some (.string (bs a))) (hy:V.ev y=some (.string (bs b))) :
 OpY P ⟨d,.binOp .geq T x y U,ty,pos,af,g⟩ V H (.bool (!strLt a b)):=y_bin hx hy rfl (fun w=>by simp [binOp,Op.stringOp,strLt,z6W])
theorem zoo {T U:TypeId} {x y:Operand} {a b:List UInt8} (hx:V.ev x=some (.string (bs a))) (hy:V.ev y=some (.string (bs b))) (hl:a.length+b.length≤4294967296) :
 OpY P ⟨d,.binOp .add T x y U,ty,pos,af,g⟩ V H (.string (bs (a++b))):=y_bin hx hy rfl (fun w=>by
  have e:bs a++bs b=bs (a++b):=by
   apply ByteArray.ext
   simp [bs]
  have h2:¬ ((((bs a).size+(bs b).size:Nat):Int) > IntKind.i64.max):=by
   rw [zae,zae]
   have:IntKind.i64.max=9223372036854775807:=by decide
   omega
  simp only [binOp,Op.stringOp,if_neg h2,e]; rfl)
theorem zol {x:Operand} {v:Value} {n:Nat} (hx:V.ev x=some (elemP v n)):OpY P ⟨d,.nilCheck x,ty,pos,af,g⟩ V H (elemP v n):=zgw hx (by simp [elemP]) ⟨_,rfl⟩
theorem zhc {α:Type} {p:α→Prop}:∀ u∈([]:List α),p u:=fun u h=>by cases h
theorem zbX {α:Type} {p:α→Prop} {a:α} {l:List α} (h:p a) (r:∀ u∈l,p u):∀ u∈a::l,p u:=fun u hu=>by
 rcases List.mem_cons.1 hu with rfl | hu
 ·exact h
 ·exact r u hu
theorem znQ {α:Type} {l:List α} {i:Nat} {x:α} (h:i<l.length):(l.set i x)[i]? = some x:=by simp [h]
theorem znR {α:Type} {l:List α} {i j:Nat} {x:α} (h:i<l.length):i<(l.set j x).length:=by simpa using h
end
end Go.Abs
