/-
  Texts that stand side by side: AbsBound, AbsMapR, AbsTree, AbsLib, PsShelf, HandPs, RecLPs, RecPs, ReplPs, TablPs, AbsPlain.
-/
import Derived.Test.YtcmaoifiiigggaaGreatDoorM1
import Derived.Maps.RangeRun
import Derived.Lib.AtoiErrMem
import Derived.Lib.Join
import Derived.Lib.Split
import Derived.Lib.AtoiAll
import Derived.Lib.ItoaNum
import Derived.Lib.LaidTab
import Derived.Lib.IndexBytes
import Derived.Below
import Derived.Sort.Grow
import Derived.Deep.Draws
import Derived.Lib.ConvBytes
import Derived.Shelf.Strings.Builder1
import Derived.Shelf.Strings.Builder2
import Derived.Shelf.Strings.OnBuilder
import Derived.Shelf.Small.Strs
import Derived.Shelf.Utf8.RuneCount
import Derived.Shelf.Strings.Search1
import Derived.Shelf.Strings.Search2
import Derived.Shelf.Strings.Search3
import Derived.Shelf.Strings.Count
import Derived.Shelf.LaysM
import Derived.Shelf.Strings.Shaped
import Derived.Shelf.Strings.Split
import Derived.Shelf.Strings.Fields
import Derived.Shelf.Strings.SplitShaped
import Derived.Shelf.Unicode.Latin
import Derived.Shelf.Strings.RuneCount
import Derived.Shelf.Unicode.Is16White
import Derived.Shelf.Unicode.IsSpaceAny
import Derived.Shelf.Unicode.Is16Any
import Derived.Shelf.Unicode.Is32Any
import Derived.Shelf.Unicode.ExclAny
import Derived.Test.YtcmaoifiiigggaaGreatDoorProg
import Derived.Test.YtcmaoifiiigggaaGreatDoorM0
set_option linter.unusedSimpArgs false
set_option linter.unusedVariables false
namespace Go.Abs
variable {V : VF} {H : List HA}
theorem zou {V:VF} {ρ:Operand→Value} (hf:Fits V ρ) {xs:Array Operand} {vs:List Value} (hxs:xs.toList.map V.ev=vs.map some):xs.map ρ=vs.toArray:=by
  apply Array.ext'
  rw [Array.toList_map]
  generalize xs.toList=l at hxs
  induction l generalizing vs with
  | nil=>cases vs <;> simp_all
  | cons x r ih =>
    cases vs with
    | nil=>simp at hxs
    | cons v vs =>
      simp only [List.map_cons,List.cons.injEq] at hxs ⊢
      exact ⟨hf _ _ hxs.1,ih hxs.2⟩
theorem zjN (V:VF) (bs:List Value):(bs.map Operand.const).map V.ev=bs.map some:=by
 induction bs with
 | nil=>rfl
 | cons b bs ih=>simp only [List.map_cons,ih]; rfl
section
variable {P : Program} {d : Option Nat} {ty : TypeId} {pos : String} {af : Array Edge} {g : Option (Nat × Bool)} {fx : Operand} {f : FuncId} {xs : Array Operand} {Ts : Array TypeId} {bs vs cs : List Value} {Hc : List HA}
theorem zks {ρ:Operand→Value} {w:World} (hf:Fits V ρ) (hfx:V.ev fx=some (.func (.func f) bs.toArray cs.toArray)) (hcall:∀ args w,(callFunc f args).run P w = .ok (.enter f args) w) (hxs:xs.toList.map V.ev=vs.map some) :
  (execOp ρ ⟨d,.call ⟨.value fx,xs,Ts⟩,ty,pos,af,g⟩).run P w=(execOp ρ ⟨d,.call ⟨.value (.const (.func (.func f) #[] cs.toArray)),((bs.map Operand.const)++xs.toList).toArray,Ts⟩,ty,pos,af,g⟩).run P w:=by
 have h1:=zou hf hxs
 have h2:(((bs.map Operand.const)++xs.toList).toArray).map ρ=(bs++vs).toArray:=zou hf (by
  rw [show (((bs.map Operand.const)++xs.toList).toArray).toList=(bs.map Operand.const)++xs.toList from rfl,List.map_append,zjN,hxs,List.map_append])
 have h3:ρ (.const (.func (.func f) #[] cs.toArray)) = .func (.func f) #[] cs.toArray:=hf _ _ rfl
 simp only [execOp,resolve,hf fx _ hfx,h3,h1,h2]
 simp [invoke,Deferred.ofValue,hcall]
theorem zkg {post:Post} (sh:List (Nat×Nat)) (hfx:V.ev fx=some (.func (.func f) bs.toArray cs.toArray)) (hcall:∀ args w,(callFunc f args).run P w = .ok (.enter f args) w)
  (hxs:xs.toList.map V.ev=vs.map some) (hc:Meets P f ((bs++vs)++cs) Hc post) (hsh:z9S H sh Hc) (hok:okX sh=true)
  (hst:(sh.all fun s=>s.2 != 1)=true∨∀ v G,post v G→∀ g∈G,g.Strict) :
  OpT P ⟨d,.call ⟨.value fx,xs,Ts⟩,ty,pos,af,g⟩ V H (fun v' H'=>∃ G,post v' G∧H'=z28 sh H++G):=by
 have h:=zbx (d:=d) (ty:=ty) (pos:=pos) (af:=af) (g:=g) (V:=V) (H:=H) (Ts:=Ts) (fx:=.const (.func (.func f) #[] cs.toArray)) (xs:=((bs.map Operand.const)++xs.toList).toArray) (vs:=bs++vs) sh rfl hcall (by
  rw [show (((bs.map Operand.const)++xs.toList).toArray).toList=(bs.map Operand.const)++xs.toList from rfl,List.map_append,zjN,hxs,List.map_append]) hc hsh hok hst
 intro ρ w o hf hbd hs
 have h2:=h ρ w o hf hbd hs
 unfold Does at h2 ⊢
 rw [zks hf hfx hcall hxs]
 exact h2
theorem zkf {post:Post} {pan:Value→Prop} (sh:List (Nat×Nat)) (hfx:V.ev fx=some (.func (.func f) bs.toArray cs.toArray)) (hcall:∀ args w,(callFunc f args).run P w = .ok (.enter f args) w)
  (hxs:xs.toList.map V.ev=vs.map some) (hc:z4t P f ((bs++vs)++cs) Hc post pan) (hsh:z9S H sh Hc) (hok:okX sh=true)
  (hst:(sh.all fun s=>s.2 != 1)=true∨∀ v G,post v G→∀ g∈G,g.Strict) :
  OpTP P ⟨d,.call ⟨.value fx,xs,Ts⟩,ty,pos,af,g⟩ V H (fun v' H'=>∃ G,post v' G∧H'=z28 sh H++G) pan (z28 sh H):=by
 have h:=zf2 (d:=d) (ty:=ty) (pos:=pos) (af:=af) (g:=g) (V:=V) (H:=H) (Ts:=Ts) (fx:=.const (.func (.func f) #[] cs.toArray)) (xs:=((bs.map Operand.const)++xs.toList).toArray) (vs:=bs++vs) sh rfl hcall (by
  rw [show (((bs.map Operand.const)++xs.toList).toArray).toList=(bs.map Operand.const)++xs.toList from rfl,List.map_append,zjN,hxs,List.map_append]) hc hsh hok hst
 intro ρ w o hf hbd hs
 have h2:=h ρ w o hf hbd hs
 unfold DoesP at h2 ⊢
 rw [zks hf hfx hcall hxs]
 exact h2
end
end Go.Abs
namespace Go.Abs
variable {V : VF} {H : List HA}
theorem zb3 {H:List HA} {g:HA} {n:Nat} (hn:H.length=n):Sub (H++[g]) (List.replicate n HA.emp++[g]):=by
 subst hn
 induction H with
 | nil=>exact znb zhJ
 | cons h H ih=>exact zpc ih
theorem zn1 {w:World} {o:Own} {A B:List HA} (h:Sats w o (A++B)):Sats w o A:=fun k x hk=>h k x (by
 rw [List.getElem?_append_left (List.getElem?_eq_some_iff.1 hk).1]; exact hk)
theorem zkR {E:Env} {A B:List HA} {a:Act} {w:World} (r:Rel E V (A++B) a w):Rel E V A a w:=by
 obtain ⟨h1,h2,h3,o,hb,ht,hs⟩:=r
 exact ⟨h1,h2,h3,o,hb,ht,zn1 hs⟩
theorem zoY {g:HA} {n:Nat}:(List.replicate n HA.emp++[g])[n]? = some g:=by simp
theorem zfZ {H:List HA} {g x:HA} {i:Nat} (h:H[i]? = some x):(H++[g])[i]? = some x:=by
 rw [List.getElem?_append_left (List.getElem?_eq_some_iff.1 h).1]; exact h
theorem zg0 {H:List HA} {g x y:HA} {i:Nat} (h:H[i]? = some y):(H++[g]).set i x=H.set i x++[g]:=List.set_append_left _ _ (List.getElem?_eq_some_iff.1 h).1
end Go.Abs
namespace Go.Abs
section
variable {V : VF} {H : List HA} {P : Program} {d : Option Nat} {ty : TypeId} {pos : String} {af : Array Edge} {g : Option (Nat × Bool)}
theorem zoa {T:TypeId} {ps rs:Array TypeId} {vr:Bool} (hu:∀ w,(underlying T).run P w = .ok (.func ps rs vr) w) (v:Value) (b:Bool) (h:(v = .nilFunc∧b=true)∨((∃ f x y,v = .func f x y)∧b=false)) (w:World):(Op.equal T v .nilFunc).run P w = .ok b w:=by
 have h0:∀ (n:Nat),(Op.equalIn (n+1) T v .nilFunc).run P w = .ok b w:=by
  intro n
  rcases h with ⟨rfl,rfl⟩ | ⟨⟨f,x,y,rfl⟩,rfl⟩ <;> simp [Op.equalIn,hu]
 exact h0 9999
theorem zjG {T U:TypeId} {x:Operand} {v:Value} {ps rs:Array TypeId} {vr:Bool} (b:Bool) (hu:∀ w,(underlying T).run P w = .ok (.func ps rs vr) w) (hx:V.ev x=some v) (h:(v = .nilFunc∧b=true)∨((∃ f x y,v = .func f x y)∧b=false)) :
  OpY P ⟨d,.binOp .eql T x (.const .nilFunc) U,ty,pos,af,g⟩ V H (.bool b):=by
 intro ρ w o hf _ _
 have h1:=zoa hu v b h
 have h2:ρ (.const .nilFunc) = .nilFunc:=hf _ _ rfl
 have hx':=hf x v hx
 rcases h with ⟨rfl,rfl⟩ | ⟨⟨f,x',y,rfl⟩,rfl⟩ <;> simp [execOp,hx',h2,eqGuard,binOp,h1]
end
theorem cond2 {α:Type} {p:Prop} [Decidable p] {a b:Option α} {r:α} (h:cond (decide p) a b=some r):(p∧a=some r)∨(¬ p∧b=some r):=by
 by_cases hp:p
 ·rw [decide_eq_true hp] at h; exact .inl ⟨hp,h⟩
 ·rw [decide_eq_false hp] at h; exact .inr ⟨hp,h⟩
theorem zgt {κ β:Type} [DecidableEq κ] {l:List (κ×β)} {k k' : κ} {d v:β} (he:k=k') (h:(mget l k').getD d=v):(mget l k).getD d=v:=by rw [he]; exact h
theorem zoR {κ β:Type} [DecidableEq κ] {k:κ} {d:β}:∀ {l:List (κ×β)},(∀ p∈l,¬ k=p.1)→(mget l k).getD d=d
  | [],_=>rfl
  | p :: l, h => by
    rw [mget,if_neg (fun hq=>h p (List.mem_cons_self ..) hq.symm)]
    exact zoR fun q hq=>h q (List.mem_cons_of_mem _ hq)
end Go.Abs
namespace Go.Abs
section
variable {V : VF} {H : List HA} {P : Program} {d : Option Nat} {ty : TypeId} {pos : String} {af : Array Edge} {g : Option (Nat × Bool)}
theorem zt2 {T:TypeId} {x:Operand} {i:Nat} {fs:Array Field} {f:Field} {cs:List Value} {r:Value} (hu:∀ w,(underlying T).run P w = .ok (.struct fs) w) (hf' : fs[i]? = some f) (ha:∀ w,(isAgg f.type).run P w = .ok false w)
  (hx:V.ev x=some (.agg cs.toArray)) (hr:cs[f.offset]? = some r):OpY P ⟨d,.field T x i,ty,pos,af,g⟩ V H r:=by
 intro ρ w o hf _ _
 simp [execOp,Instr.field,hf x _ hx,hu,hf',part,ha,hr,asAgg]
theorem zqR {T:TypeId} {x:Operand} {i:Nat} {fs:Array Field} {f:Field} {cs c:List Value} (hu:∀ w,(underlying T).run P w = .ok (.struct fs) w) (hf' : fs[i]? = some f) (ha:∀ w,(isAgg f.type).run P w = .ok true w)
  (hz:∀ w,(sizeOf f.type).run P w = .ok c.length w) (hx:V.ev x=some (.agg cs.toArray)) (hc:(cs.drop f.offset).take c.length=c) (hl:f.offset+c.length≤cs.length):OpY P ⟨d,.field T x i,ty,pos,af,g⟩ V H (.agg c.toArray):=by
 intro ρ w o hf _ _
 simp [execOp,Instr.field,hf x _ hx,hu,hf',part,ha,hz,asAgg]
 exact hc
end
end Go.Abs
namespace Go.Abs
variable {E : Env} {k : List KI} {V : VF} {H : List HA}
def mfold {κ β S:Type} (acts:κ×β→Bool) (g:κ×β→S→Option S) (l:List (κ×β)) (s:S):Option S:=
 match l.filter acts with
 | []=>some s
 | [p]=>g p s
 | _=>none
theorem zkK {κ β S:Type} {acts:κ×β→Bool} {g:κ×β→S→Option S} {s out:S} (h:mfold acts g [] s=some out):s=out:=Option.some.inj h
theorem zj3 {κ β S:Type} {acts:κ×β→Bool} {g:κ×β→S→Option S} {left l1 l2:List (κ×β)} {p:κ×β} {s out:S} (h:mfold acts g left s=some out) (hl:left=l1++p::l2) :
    (acts p=false∧mfold acts g (l1++l2) s=some out)∨(acts p=true∧g p s=some out∧∀ s',mfold acts g (l1++l2) s'=some s'):=by
  subst hl
  unfold mfold at h ⊢
  cases ha:acts p with
  | false =>
    left
    refine ⟨rfl,?_⟩
    rw [List.filter_append,List.filter_cons_of_neg (by simp [ha]),← List.filter_append] at h
    exact h
  | true =>
    right
    rw [List.filter_append,List.filter_cons_of_pos ha] at h
    rw [List.filter_append]
    generalize l1.filter acts=a at *
    generalize l2.filter acts=b at *
    cases a with
    | nil =>
      cases b with
      | nil=>exact ⟨rfl,h,fun s'=>rfl⟩
      | cons y b=>cases h
    | cons x a=>cases a <;> cases h
def mapit {κ β:Type} (K:κ→Value) (G:β→Value) (it r:Nat) (cur:Option (κ×β)) (left:List (κ×β)):HA:=
 ⟨fun w o k=>o r = .mine k∧o it = .mine k∧r<w.heap.size∧it<w.heap.size∧∃ es clock since seen c0,w.heap[r]? = some (.map es clock)∧w.heap[it]? = some (.mapIter (some r) since seen c0)∧
   (∀ e∈es.toList,e.born<since)∧since≤c0∧since≤clock∧(es.toList.map fun e:MapEntry=>e.born).Nodup∧(leftOf es seen).toList.map (fun e=>(e.key,e.val))=mcells K G left∧
   (∀ p,cur=some p→c0=clock∧∃ e∈es.toList,∃ s' : Array Nat,seen=s'.push e.born∧e.key=K p.1∧e.val=G p.2),
  fun hs h1 _ ⟨e1,e2,e3,e4,es,cl,si,se,c0,f1,f2,f3⟩=>let ⟨a1,a2⟩:=h1 r e3 e1; let ⟨b1,b2⟩:=h1 it e4 e2; ⟨a1,b1,Nat.lt_of_lt_of_le e3 hs,Nat.lt_of_lt_of_le e4 hs,es,cl,si,se,c0,a2.trans f1,b2.trans f2,f3⟩⟩
section
variable {P : Program} {d : Option Nat} {ty : TypeId} {pos : String} {af : Array Edge} {g : Option (Nat × Bool)} {κ β : Type} {K : κ → Value} {G : β → Value}
theorem uncur {it r:Nat} {cur:Option (κ×β)} {left:List (κ×β)} (m:Nat) (hm:H[m]? = some (mapit K G it r cur left)):Turn H (H.set m (mapit K G it r none left)):=by
 intro w o hb hs
 obtain ⟨e1,e2,e3,e4,es,cl,si,se,c0,f1,f2,f3,f4,f5,f6,f7,_⟩:=hs m _ hm
 exact ⟨o,hb,Tr.refl w o,z4p (Nat.le_refl _) (fun _ _ _=>⟨rfl,rfl⟩) hs ⟨e1,e2,e3,e4,es,cl,si,se,c0,f1,f2,f3,f4,f5,f6,f7,fun p h=>by cases h⟩⟩
theorem zpg {T kt el:TypeId} {x:Operand} {r:Nat} {l:List (κ×β)} (m:Nat) (hT:P.underlying T=some (.map kt el)) (hx:V.ev x=some (mapV r)) (hm:H[m]? = some (mapis r (mcells K G l))) :
  OpT P ⟨d,.range T x,ty,pos,af,g⟩ V H (fun v' H'=>∃ it,v'=boxP it 0∧H'=H.set m (mapit K G it r none l)):=by
 intro ρ w o hf hbd hs
 obtain ⟨e1,e2,es,cl,e3,e4,e5,e6⟩:=hs m _ hm
 have hrun:(execOp ρ ⟨d,.range T x,ty,pos,af,g⟩).run P w = .ok (.value (boxP w.heap.size 0)) (w.alloc (.mapIter (some r) cl #[] cl)):=by
  have:=run_range_map (P:=P) w T kt el r es cl hT e3
  simp [execOp,hf x _ hx,mapV,this,boxP]
 unfold Does
 rw [hrun]
 let o' : Own:=fun b=>if b=w.heap.size then .mine m else o b
 have hsz:(w.alloc (.mapIter (some r) cl #[] cl)).heap.size=w.heap.size+1:=by show (w.heap.push _).size=_; simp
 have hold:∀ b,b<w.heap.size→(w.alloc (.mapIter (some r) cl #[] cl)).heap[b]? = w.heap[b]?:=fun b hb=>heap_alloc_old w _ hb
 have ho:∀ b,b<w.heap.size→o' b=o b:=fun b hb=>by simp only [o']; rw [if_neg (by omega)]
 refine ⟨_,o',⟨w.heap.size,rfl,rfl⟩,fun b hb=>?_,⟨rfl,rfl,rfl,by omega,fun b hlt hb=>⟨by rw [ho b hlt]; exact hb,hold b hlt⟩,fun b hlt hb=>⟨by rw [ho b hlt]; exact hb,hold b hlt⟩⟩,?_⟩
 ·rw [hsz] at hb
  simp only [o']
  rw [if_neg (by omega)]
  exact hbd b (by omega)
 ·intro j h hj
  rw [List.getElem?_set] at hj
  split at hj
  ·rename_i hjm
   subst hjm
   split at hj
   ·cases hj
    refine ⟨by rw [ho r e2]; exact e1,by simp [o'],by omega,by omega,es,cl,cl,#[],cl,(hold r e2).trans e3,heap_alloc_new w _,e5,Nat.le_refl _,Nat.le_refl _,e6,?_,fun p h=>by cases h⟩
    rw [← e4]
    simp only [leftOf,Array.toList_filter]
    congr 1
    exact List.filter_eq_self.2 fun x _=>by simp
   ·cases hj
  ·exact h.keep (by omega) (fun b hlt hb=>⟨by rw [ho b hlt]; exact hb,hold b hlt⟩) (fun b hlt hb=>⟨by rw [ho b hlt]; exact hb,hold b hlt⟩) (hs j h hj)
theorem znZ {es:Array MapEntry} {seen:Array Nat} {e:MapEntry} (hn:(es.toList.map fun e:MapEntry=>e.born).Nodup) (he:e∈(leftOf es seen).toList) :
  ∃ a b,(leftOf es seen).toList=a++e::b∧(leftOf es (seen.push e.born)).toList=a++b:=by
 have h1:(leftOf es (seen.push e.born)).toList=(leftOf es seen).toList.filter fun x=>decide (x.born≠e.born):=by
  unfold leftOf
  rw [Array.toList_filter,Array.toList_filter,List.filter_filter]
  apply List.filter_congr
  intro x _
  by_cases hx:x.born=e.born <;> simp [hx]
 have h2:((leftOf es seen).toList.map fun e:MapEntry=>e.born).Nodup:=by
  unfold leftOf
  rw [Array.toList_filter]
  exact List.Sublist.nodup (List.Sublist.map _ (List.filter_sublist)) hn
 rw [h1]
 generalize (leftOf es seen).toList=L at *
 obtain ⟨a,b,rfl⟩:=List.append_of_mem he
 refine ⟨a,b,rfl,?_⟩
 rw [List.map_append,List.map_cons,List.nodup_append] at h2
 obtain ⟨_,h4,h5⟩:=h2
 rw [List.nodup_cons] at h4
 rw [List.filter_append,List.filter_cons_of_neg (by simp),List.filter_eq_self.2,List.filter_eq_self.2]
 ·intro x hx
  have:x.born≠e.born:=fun hq=>h4.1 (by rw [← hq]; exact List.mem_map.2 ⟨x,hx,rfl⟩)
  simpa using this
 ·intro x hx
  have:x.born≠e.born:=h5 _ (List.mem_map.2 ⟨x,hx,rfl⟩) _ (List.mem_cons_self ..)
  simpa using this
theorem zkJ {α γ δ:Type} {f:α→γ} {h:δ→γ} {e:α}:∀ {a b:List α} {l:List δ},(a++e::b).map f=l.map h→∃ l1 p l2,l=l1++p::l2∧a.map f=l1.map h∧f e=h p∧b.map f=l2.map h
  | [], b, l, hq => by
    cases l with
    | nil=>simp at hq
    | cons p l=>simp only [List.nil_append,List.map_cons,List.cons.injEq] at hq; exact ⟨[],p,l,rfl,rfl,hq.1,hq.2⟩
  | x :: a, b, l, hq => by
    cases l with
    | nil=>simp at hq
    | cons q l =>
      simp only [List.cons_append,List.map_cons,List.cons.injEq] at hq
      obtain ⟨l1,p,l2,h1,h2,h3,h4⟩:=zkJ hq.2
      exact ⟨q::l1,p,l2,by rw [h1]; rfl,by simp [hq.1,h2],h3,h4⟩
theorem zsD {x:Operand} {it r:Nat} {cur:Option (κ×β)} {left:List (κ×β)} (m:Nat) (hx:V.ev x=some (boxP it 0)) (hm:H[m]? = some (mapit K G it r cur left)) :
    OpT P ⟨d,.next x false,ty,pos,af,g⟩ V H (fun v' H'=>(left=[]∧v' = .tuple #[.bool false]∧H'=H.set m (mapit K G it r none []))∨
      ∃ p l1 l2,left=l1++p::l2∧v' = .tuple #[.bool true,K p.1,G p.2]∧H'=H.set m (mapit K G it r (some p) (l1++l2))):=by
  intro ρ w o hf hbd hs
  obtain ⟨e1,e2,e3,e4,es,cl,si,se,c0,f1,f2,f3,f4,f8,f5,f6,_⟩:=hs m _ hm
  have hne:it≠r:=by
    rintro rfl
    rw [f1] at f2; cases f2
  rcases run_next_at (P:=P) w ty it r si c0 se es cl f2 f1 f3 f4 with ⟨h0,hrun⟩ | ⟨e,he,w1,hw1,hrun⟩
  · have hl:left=[]:=by
      have h1:(leftOf es se).toList=[]:=by
        have:=Array.eq_empty_of_size_eq_zero h0
        rw [this]
      rw [h1] at f6
      cases left with
      | nil=>rfl
      | cons p l=>simp [mcells] at f6
    have hrun2:(execOp ρ ⟨d,.next x false,ty,pos,af,g⟩).run P w = .ok (.value (.tuple #[.bool false])) w:=by
      simp [execOp,hf x _ hx,boxP,hrun]
    unfold Does
    rw [hrun2]
    refine ⟨_,o,.inl ⟨hl,rfl,rfl⟩,hbd,Tr.refl w o,?_⟩
    subst hl
    exact z4p (Nat.le_refl _) (fun _ _ _=>⟨rfl,rfl⟩) hs ⟨e1,e2,e3,e4,es,cl,si,se,c0,f1,f2,f3,f4,f8,f5,f6,fun p h=>by cases h⟩
  · obtain ⟨a,b,g1,g2⟩:=znZ f5 he
    rw [g1] at f6
    obtain ⟨l1,p,l2,hl,q1,q2,q3⟩:=zkJ (f:=fun e:MapEntry=>(e.key,e.val)) (h:=fun p:κ×β=>(K p.1,G p.2)) f6
    have hk:e.key=K p.1:=congrArg Prod.fst q2
    have hv:e.val=G p.2:=congrArg Prod.snd q2
    have hrun2:(execOp ρ ⟨d,.next x false,ty,pos,af,g⟩).run P w = .ok (.value (.tuple #[.bool true,K p.1,G p.2])) (ChangeMaps.setBlock w1 it (.mapIter (some r) si (se.push e.born) cl)):=by
      simp [execOp,hf x _ hx,boxP,hrun,hk,hv]
    unfold Does
    rw [hrun2]
    have hheap:w1.heap=w.heap:=by rcases hw1 with rfl | rfl <;> rfl
    have hnew:(ChangeMaps.setBlock w1 it (.mapIter (some r) si (se.push e.born) cl)).heap=w.heap.setIfInBounds it (.mapIter (some r) si (se.push e.born) cl):=by rw [← hheap]; rfl
    have hoth:∀ b,b≠it→(ChangeMaps.setBlock w1 it (.mapIter (some r) si (se.push e.born) cl)).heap[b]? = w.heap[b]?:=fun b hb=>by
      rw [hnew]; exact Array.getElem?_setIfInBounds_ne (Ne.symm hb)
    have hsz:(ChangeMaps.setBlock w1 it (.mapIter (some r) si (se.push e.born) cl)).heap.size=w.heap.size:=by rw [hnew]; simp
    have hos:(ChangeMaps.setBlock w1 it (.mapIter (some r) si (se.push e.born) cl)).os=w.os:=by rcases hw1 with rfl | rfl <;> rfl
    have htp:(ChangeMaps.setBlock w1 it (.mapIter (some r) si (se.push e.born) cl)).tape=w.tape:=by rcases hw1 with rfl | rfl <;> rfl
    have hou:(ChangeMaps.setBlock w1 it (.mapIter (some r) si (se.push e.born) cl)).output=w.output:=by rcases hw1 with rfl | rfl <;> rfl
    refine ⟨_,o,.inr ⟨p,l1,l2,hl,rfl,rfl⟩,fun b hb=>hbd b (by omega),⟨hos,htp,hou,by omega,fun b hlt hb=>⟨hb,hoth b ?_⟩,fun b hlt hb=>⟨hb,hoth b ?_⟩⟩,?_⟩
    · rintro rfl; rw [e2] at hb; cases hb
    · rintro rfl; rw [e2] at hb; cases hb
    · refine z4p (by omega) (fun b hlt hb=>⟨rfl,hoth b ?_⟩) hs ⟨e1,e2,by omega,by omega,es,cl,si,se.push e.born,cl,(hoth r (Ne.symm hne)).trans f1,by rw [hnew]; simp [e4],f3,f8,f8,f5,?_,?_⟩
      · rintro rfl; exact hb e2
      · rw [g2,List.map_append,q1,q3]; simp [mcells]
      · intro p' h
        cases h
        refine ⟨rfl,e,?_,se,rfl,hk,hv⟩
        have h3:e∈(leftOf es se).toList:=he
        unfold leftOf at h3
        rw [Array.toList_filter] at h3
        exact (List.mem_filter.1 h3).1
theorem zlb {x:Operand} {it r:Nat} {p:κ×β} {left:List (κ×β)} (m:Nat) (hx:V.ev x=some (boxP it 0)) (hm:H[m]? = some (mapit K G it r (some p) left)) :
  OpY P ⟨d,.entry x,ty,pos,af,g⟩ V H (.tuple #[K p.1,G p.2]):=by
 intro ρ w o hf hbd hs
 obtain ⟨e1,e2,e3,e4,es,cl,si,se,c0,f1,f2,f3,f4,f8,f5,f6,f7⟩:=hs m _ hm
 obtain ⟨hc,e,he,s',hse,hk,hv⟩:=f7 p rfl
 subst hse
 subst hc
 have:=run_entry_at (P:=P) w it r si s' es c0 e f2 f1 he f5
 simp [execOp,hf x _ hx,boxP,this,hk,hv]
end
theorem zn0 {κ β S γ:Type} {c:Code} {kv:List (κ×β)} {s0 out:S} {acts:κ×β→Bool} {g:κ×β→S→Option S} (h:mfold acts g kv s0=some out) (γ0:γ) (Vi:S→γ→List (Nat×Value)) (Hi:S→γ→List (κ×β)→List HA) (is:List Nat)
  (hl:∀ x∈Vi s0 γ0,V x.1=some x.2) (hn:is.Nodup) (hG:Picks is H (Hi s0 γ0 kv))
  (round:∀ s γ left,mfold acts g left s=some out→∀ L:Act→World→Prop,(∀ s' γ' left',mfold acts g left' s'=some out→left'.length<left.length→∀ a w,Rel E (VF.of (Vi s' γ')) (Hi s' γ' left') a w→L a w)→
   Run E c (.loop L::k) (VF.of (Vi s γ)) (Hi s γ left)):Run E (.loop c) k V H:=by
 refine zmZ ((S×γ)×List (κ×β)) (fun x=>Vi x.1.1 x.1.2) (fun x=>Hi x.1.1 x.1.2 x.2) (fun x=>mfold acts g x.2 x.1.1=some out) (fun x=>x.2.length) is ((s0,γ0),kv) hl hn hG h ?_
 rintro ⟨⟨s,γ⟩,left⟩ hi L hL
 exact round s γ left hi L fun s' γ' left' h1 h2=>hL ((s',γ'),left') h1 h2
theorem zej {κ β S γ:Type} {L:Act→World→Prop} {out:S} {acts:κ×β→Bool} {g:κ×β→S→Option S} {Vi:S→γ→List (Nat×Value)} {Hi:S→γ→List (κ×β)→List HA} {left l1 l2:List (κ×β)} {p:κ×β}
  (hL:∀ s' γ' left',mfold acts g left' s'=some out→left'.length<left.length→∀ a w,Rel E (VF.of (Vi s' γ')) (Hi s' γ' left') a w→L a w) (hp:left=l1++p::l2) (s' : S) (γ' : γ) (is:List Nat) (ho:mfold acts g (l1++l2) s'=some out)
  (hl:∀ x∈Vi s' γ',V x.1=some x.2) (hn:is.Nodup) (hG:Picks is H (Hi s' γ' (l1++l2))):Goes E (.loop L::k) V H:=
 fun a w r=>hL s' γ' (l1++l2) ho (by rw [hp]; simp) a w ((r.vle (VF.le_of _ hl)).pick hn hG)
end Go.Abs
namespace Go.Abs
structure TC (α:Type) where
 G:Type
 es:Nat
 F:α→G→List Value
 fixed:α→G→List HA
 kids:α→G→List (Value×List α)
 free:∀ x g,∀ h∈fixed x g,Free h
 ok:∀ x g w o k,(∀ h∈fixed x g,h.p w o k)→(∀ q∈kids x g,∃ a n c,q.1 = .slice a n c)→(F x g).length=es∧∀ u∈F x g,u.oneCell'=true
variable {α : Type}
def TC.P (T:TC α):Nat→Value→List α→World→Own→Nat→Prop
 | 0,v,l,w,o,k=>l=[]∧z3V w (fun b=>o b = .no) v T.es []
 | d+1,v,l,w,o,k=>∃ lg:List (α×T.G),l=lg.map (·.1)∧z3V w (fun b=>o b = .no) v T.es (lg.map fun p=>T.F p.1 p.2)∧∀ p∈lg,HsP (T.fixed p.1 p.2) w o k∧∀ q∈T.kids p.1 p.2,TC.P T d q.1 q.2 w o k
theorem TC.P_slice {T:TC α}:∀ {d:Nat} {v:Value} {l:List α} {w:World} {o:Own} {k:Nat},T.P d v l w o k→∃ a n c,v = .slice a n c
 | 0,v,l,w,o,k,h=>by obtain ⟨a,cap,e,_⟩:=h.2; exact ⟨_,_,_,e⟩
 | d+1,v,l,w,o,k,h=>by obtain ⟨lg,_,⟨a,cap,e,_⟩,_⟩:=h; exact ⟨_,_,_,e⟩
theorem TC.P_keep {T:TC α} {w w' : World} {o o' : Own} {k k' : Nat} (hs:w.heap.size≤w'.heap.size) (h1:∀ b,b<w.heap.size→o b = .mine k→o' b = .mine k'∧w'.heap[b]? = w.heap[b]?)
    (h2:∀ b,b<w.heap.size→o b = .no→o' b = .no∧w'.heap[b]? = w.heap[b]?):∀ {d:Nat} {v:Value} {l:List α},T.P d v l w o k→T.P d v l w' o' k'
  | 0,v,l,h=>⟨h.1,h.2.keep hs h2⟩
  | d + 1, v, l, h => by
    obtain ⟨lg,e,a,b⟩:=h
    exact ⟨lg,e,a.keep hs h2,fun p hp=>⟨(b p hp).1.keep hs h1 h2,fun q hq=>TC.P_keep hs h1 h2 ((b p hp).2 q hq)⟩⟩
theorem TC.P_free {T:TC α} {w:World} {o o' : Own} {k k' : Nat} (ho:∀ b,b<w.heap.size→o b = .no→o' b = .no):∀ {d:Nat} {v:Value} {l:List α},T.P d v l w o k→T.P d v l w o' k'
  | 0,v,l,h=>⟨h.1,h.2.keep (Nat.le_refl _) (fun b hlt hb=>⟨ho b hlt hb,rfl⟩)⟩
  | d + 1, v, l, h => by
    obtain ⟨lg,e,a,b⟩:=h
    exact ⟨lg,e,a.keep (Nat.le_refl _) (fun b hlt hb=>⟨ho b hlt hb,rfl⟩),fun p hp=>⟨(b p hp).1.free (T.free _ _) ho,fun q hq=>TC.P_free ho ((b p hp).2 q hq)⟩⟩
theorem TC.P_more {T:TC α} {w:World} {o:Own} {k:Nat}:∀ {d:Nat} {v:Value} {l:List α},T.P d v l w o k→T.P (d+1) v l w o k
  | 0,v,l,h=>by obtain ⟨rfl,h⟩:=h; exact ⟨[],rfl,h,fun p hp=>by simp at hp⟩
  | d + 1, v, l, h => by
    obtain ⟨lg,e,a,b⟩:=h
    exact ⟨lg,e,a,fun p hp=>⟨(b p hp).1,fun q hq=>TC.P_more ((b p hp).2 q hq)⟩⟩
theorem TC.P_le {T:TC α} {w:World} {o:Own} {k:Nat} {d d' : Nat} (h:d≤d') {v:Value} {l:List α} (hp:T.P d v l w o k):T.P d' v l w o k:=by
 obtain ⟨n,rfl⟩ : ∃ n,d'=d+n:=⟨d' - d,by omega⟩
 clear h
 induction n with
 | zero=>exact hp
 | succ n ih=>exact TC.P_more ih
def tro (v:Value) (T:TC α) (l:List α):HA:=⟨fun w o k=>∃ d,T.P d v l w o k,fun hs h1 h2 ⟨d,h⟩=>⟨d,TC.P_keep hs h1 h2 h⟩⟩
theorem zpM {v:Value} {T:TC α} {l:List α}:Free (tro v T l):=fun w o o' k k' ho ⟨d,h⟩=>⟨d,TC.P_free ho h⟩
def TC.nc (T:TC α):NC α where
 G:=T.G
 es:=T.es
 F:=T.F
 S:=fun x g=>T.fixed x g++(T.kids x g).map fun q=>tro q.1 T q.2
 free:=by
  intro x g h hh
  rcases List.mem_append.1 hh with hh | hh
  ·exact T.free x g h hh
  ·obtain ⟨q,_,rfl⟩:=List.mem_map.1 hh; exact zpM
 ok:=by
  intro x g w o k hh
  refine T.ok x g w o k (fun h hm=>hh h (List.mem_append_left _ hm)) (fun q hq=>?_)
  obtain ⟨d,hd⟩:=hh _ (List.mem_append_right _ (List.mem_map.2 ⟨q,hq,rfl⟩))
  exact TC.P_slice hd
theorem zsK {v:Value} {T:TC α} {l:List α} {w:World} {o:Own} {k:Nat} (h:(tro v T l).p w o k):(nro v T.nc l).p w o k:=by
  obtain ⟨d,h⟩:=h
  cases d with
  | zero =>
    obtain ⟨rfl,h⟩:=h
    exact ⟨⟨[],rfl,h,fun p hp=>by simp at hp⟩,fun q=>by cases q⟩
  | succ d =>
    obtain ⟨lg,e,a,b⟩:=h
    refine ⟨⟨lg,e,a,fun p hp h hh=>?_⟩,fun q=>by cases q⟩
    rcases List.mem_append.1 hh with hh | hh
    · exact (b p hp).1 h hh
    · obtain ⟨q,hq,rfl⟩:=List.mem_map.1 hh
      exact ⟨d,(b p hp).2 q hq⟩
theorem zhU {β:Type} {Q:Nat→β→Prop} (hm:∀ d d' x,d≤d'→Q d x→Q d' x):∀ l:List β,(∀ x∈l,∃ d,Q d x)→∃ d,∀ x∈l,Q d x
  | [],_=>⟨0,fun x hx=>by simp at hx⟩
  | x :: l, h => by
    obtain ⟨d1,h1⟩:=h x (List.mem_cons_self ..)
    obtain ⟨d2,h2⟩:=zhU hm l (fun y hy=>h y (List.mem_cons_of_mem _ hy))
    refine ⟨max d1 d2,fun y hy=>?_⟩
    rcases List.mem_cons.1 hy with rfl | hy
    · exact hm _ _ _ (Nat.le_max_left _ _) h1
    · exact hm _ _ _ (Nat.le_max_right _ _) (h2 y hy)
theorem zrY {v:Value} {T:TC α} {l:List α} {w:World} {o:Own} {k:Nat} (h:(nro v T.nc l).p w o k):(tro v T l).p w o k:=by
 obtain ⟨⟨lg,e,a,b⟩,_⟩:=h
 obtain ⟨d,hd⟩:=zhU (Q:=fun d (p:α×T.G)=>∀ q∈T.kids p.1 p.2,T.P d q.1 q.2 w o k) (fun d d' p hl h q hq=>TC.P_le hl (h q hq)) lg (fun p hp=>by
  obtain ⟨d,hd⟩:=zhU (Q:=fun d (q:Value×List α)=>T.P d q.1 q.2 w o k) (fun d d' q hl h=>TC.P_le hl h) (T.kids p.1 p.2) (fun q hq=>
   b p hp _ (List.mem_append_right _ (List.mem_map.2 ⟨q,hq,rfl⟩)))
  exact ⟨d,hd⟩)
 exact ⟨d+1,lg,e,a,fun p hp=>⟨fun h hh=>b p hp h (List.mem_append_left _ hh),hd p hp⟩⟩
theorem zuw (v:Value) (T:TC α) (l:List α):tro v T l=nro v T.nc l:=by
 have h:(tro v T l).p=(nro v T.nc l).p:=by
  funext w o k
  exact propext ⟨zsK,zrY⟩
 cases hx:tro v T l
 cases hy:nro v T.nc l
 rw [hx,hy] at h
 simp only at h
 subst h
 rfl
end Go.Abs
namespace Go.Abs
variable {α : Type} {T : TC α} {H : List HA} {v : Value} {l : List α}
theorem TC.S_eq (x:α) (g:T.G):T.nc.S x g=T.fixed x g++(T.kids x g).map fun q=>nro q.1 T.nc q.2:=by
 show (T.fixed x g++(T.kids x g).map fun q=>tro q.1 T q.2)=_
 congr 1
 exact List.map_congr_left fun q _=>zuw q.1 T q.2
theorem exAtT {i:Nat} {x:α} (m:Nat) (hm:H[m]? = some (nro v T.nc l)) (hx:l[i]? = some x):ExT H (fun g:T.G=>atc v (i*T.es) (T.F x g)::(T.fixed x g++(T.kids x g).map fun q=>nro q.1 T.nc q.2)):=by
 have h:ExT H (fun g:T.G=>atc v (i*T.es) (T.F x g)::T.nc.S x g):=exAt (C:=T.nc) m hm hx
 have e:(fun g:T.G=>atc v (i*T.es) (T.F x g)::T.nc.S x g)=(fun g:T.G=>atc v (i*T.es) (T.F x g)::(T.fixed x g++(T.kids x g).map fun q=>nro q.1 T.nc q.2)):=by
  funext g; rw [TC.S_eq]
 rw [e] at h
 exact h
end Go.Abs
namespace Go.Abs
theorem zg4 {v:Value} (h:∃ a n c,v = .slice a n c):v.oneCell'=true:=by obtain ⟨a,n,c,rfl⟩:=h; rfl
end Go.Abs
namespace Go.Abs
variable {α : Type} {T : TC α} {H : List HA} {v : Value} {l : List α} {V : VF}
theorem z2P {x:α} {g:T.G} (h:Has H (T.fixed x g++(T.kids x g).map fun q=>nro q.1 T.nc q.2)):Has H (T.nc.S x g):=by rw [TC.S_eq]; exact h
theorem znj {P:Program} {op:Oper} {y:α} {f:T.G→Value} (h:OpT P op V H (fun v' H'=>∃ g,v'=f g∧H'=H++T.nc.S y g)) :
  OpT P op V H (fun v' H'=>∃ g,v'=f g∧H'=H++(T.fixed y g++(T.kids y g).map fun q=>nro q.1 T.nc q.2)):=by
 have e:(fun v' H'=>∃ g,v'=f g∧H'=H++T.nc.S y g)=(fun v' H'=>∃ g,v'=f g∧H'=H++(T.fixed y g++(T.kids y g).map fun q=>nro q.1 T.nc q.2)):=by
  funext v' H'
  simp only [TC.S_eq]
 rw [e] at h
 exact h
end Go.Abs
namespace Go.Abs
open Go.RowKit Go.Sort
def idxN (c:UInt8):List UInt8→Option Nat
 | []=>none
 | b::l=>if b == c then some 0 else (idxN c l).map (· + 1)
def idxP (l:List UInt8) (c:UInt8):Int:=match idxN c l with | some n=>n | none=>-1
theorem zmf (c:UInt8):∀ l,Lib.indexByte l c=idxP l c
  | []=>rfl
  | b :: l => by
    unfold Lib.indexByte idxP idxN
    rw [zmf c l]
    unfold idxP
    by_cases h:(b == c)=true
    · simp [h]
    · simp only [h]
      cases hn:idxN c l with
      | none=>simp
      | some n=>simp [show ¬ ((n:Int) = -1) by omega]
def joinP (l:List (List UInt8)) (sep:List UInt8):List UInt8:=sep.intercalate l
structure ztr (P:Program) (N:Nat) (w:World):Prop where
 maxLen:∃ g m,P.globalNamed "internal/bytealg.MaxLen" = some g∧g<N∧w.cell? ⟨g,0,none⟩=some (.int .i64 m)
 errSyntax:∃ g t p,P.globalNamed "strconv.ErrSyntax" = some g∧g<N∧w.cell? ⟨g,0,none⟩=some (.iface t p)
 errRange:∃ g t p,P.globalNamed "strconv.ErrRange" = some g∧g<N∧w.cell? ⟨g,0,none⟩=some (.iface t p)
 pow10:∃ g,P.globalNamed "internal/strconv.uint64pow10" = some g∧g<N∧Lib.TabIs P w "internal/strconv.uint64pow10" .u64 Lib.pow10Tab
def glob (P:Program) (N:Nat):HA:=
 ⟨fun w o _=>N≤w.heap.size∧(∀ b,b<N→o b = .no)∧ztr P N w,fun {w w' o o' k k'} hs _ h2 h=>by
  obtain ⟨a1,a2,a3⟩:=h
  have hb:∀ b,b<N→w'.heap[b]? = w.heap[b]?:=fun b hb=>(h2 b (by omega) (a2 b hb)).2
  refine ⟨by omega,fun b hb=>(h2 b (by omega) (a2 b hb)).1,?_⟩
  obtain ⟨⟨g1,m,e1,l1,f1⟩,⟨g2,t2,p2,e2,l2,f2⟩,⟨g3,t3,p3,e3,l3,f3⟩,⟨g4,e4,l4,f4⟩⟩:=a3
  refine ⟨⟨g1,m,e1,l1,by rw [z9j (hb g1 l1)]; exact f1⟩,⟨g2,t2,p2,e2,l2,by rw [z9j (hb g2 l2)]; exact f2⟩,⟨g3,t3,p3,e3,l3,by rw [z9j (hb g3 l3)]; exact f3⟩,⟨g4,e4,l4,?_⟩⟩
  unfold Lib.TabIs World.var? at f4 ⊢
  rw [e4] at f4 ⊢
  simp only [Option.bind_some] at f4 ⊢
  rw [hb g4 l4]; exact f4⟩
theorem znV {P:Program} {N:Nat}:Free (glob P N):=fun _ _ _ _ _ ho h=>⟨h.1,fun b hb=>ho b (Nat.lt_of_lt_of_le hb h.1) (h.2.1 b hb),h.2.2⟩
theorem zf5 {P:Program} {N:Nat}:Views (glob P N) (glob P N) false:=zgW znV
theorem zqG {w w' : World} {o:Own} (h:Below w.heap.size w w'):Tr w o w' o:=
 ⟨h.os,h.tape,h.output,h.size,fun b hb ho=>⟨ho,h.block b hb⟩,fun b hb ho=>⟨ho,h.block b hb⟩⟩
theorem znJ {w w' : World} {o:Own} (hb:Bnd w o) (h:Below w.heap.size w w'):Bnd w' o:=fun b hle=>hb b (Nat.le_trans h.size hle)
theorem zeg {w w' : World} {o:Own} {post:Post} {v:Value} {G:List HA} (hb:Bnd w o) (h:Below w.heap.size w w') (hp:post v G) (hs:Sats w' o G):Ends w o post (.returned v) w':=
 ⟨v,G,o,rfl,hp,znJ hb h,zqG h,hs⟩
theorem ziw {w:World} {o:Own}:Sats w o []:=fun j h hj=>by simp at hj
end Go.Abs
namespace Go.Abs
section
variable {P : Program} {V : VF} {H : List HA} {d : Option Nat} {ty : TypeId} {pos : String} {af : Array Edge} {g : Option (Nat × Bool)}
theorem zdN {T:TypeId} {ms:Array (String×TypeId)} (hu:∀ w,(underlying T).run P w = .ok (.interface ms) w) (v:Value) (b:Bool) (h:(v = .nilIface∧b=true)∨((∃ T x,v = .iface T x)∧b=false)) (w:World):(Op.equal T v .nilIface).run P w = .ok b w:=by
 have h0:∀ (n:Nat),(Op.equalIn (n+1) T v .nilIface).run P w = .ok b w:=by
  intro n
  rcases h with ⟨rfl,rfl⟩ | ⟨⟨t,x,rfl⟩,rfl⟩ <;> simp [Op.equalIn,hu]
 exact h0 9999
theorem zjH {T U:TypeId} {x:Operand} {v:Value} {b:Bool} {ms:Array (String×TypeId)} (hu:∀ w,(underlying T).run P w = .ok (.interface ms) w) (hx:V.ev x=some v) (h:(v = .nilIface∧b=true)∨((∃ T x,v = .iface T x)∧b=false)) :
  OpY P ⟨d,.binOp .neq T x (.const .nilIface) U,ty,pos,af,g⟩ V H (.bool (!b)):=by
 intro ρ w o hf _ _
 have h1:=zdN hu v b h
 have h2:ρ (.const .nilIface) = .nilIface:=hf _ _ rfl
 have hx':=hf x v hx
 rcases h with ⟨rfl,rfl⟩ | ⟨⟨t,y,rfl⟩,rfl⟩ <;> simp [execOp,hx',h2,eqGuard,binOp,h1]
end
end Go.Abs
namespace Go.Proofs
open Go.Shelf
def Tryz.lays156_ren:Go.Shelf.Ren:=⟨fun | 156=>46 | 165=>103 | 166=>104 | 169=>105 | 240=>167 | 241=>168 | 276=>207 | 277=>208 | n=>n,fun | 31=>62 | 9=>9 | 3=>3 | 4=>4 | 0=>0 | 20=>20 | 72=>166 | 76=>170 | 70=>164 | 37=>58 | 75=>169 | 127=>229 | 164=>247 | 5=>5 | 80=>172 | n=>n,fun | n=>n⟩
theorem Tryz.lays156:Go.Proofs.Lays.n156 Tryz.prog Tryz.lays156_ren:={
 mixed:=by kernel_rfl
 f156:=Tryz.func46.trans (congrArg some (by kernel_rfl))
 f165:=Tryz.func103.trans (congrArg some (by kernel_rfl))
 f166:=Tryz.func104.trans (congrArg some (by kernel_rfl))
 f169:=Tryz.func105.trans (congrArg some (by kernel_rfl))
 f240:=Tryz.func167.trans (congrArg some (by kernel_rfl))
 f241:=Tryz.func168.trans (congrArg some (by kernel_rfl))
 f276:=Tryz.func207.trans (congrArg some (by kernel_rfl))
 f277:=Tryz.func208.trans (congrArg some (by kernel_rfl))
 t0:=Tryz.underlying0
 a0:=Tryz.isAgg0
 z0:=Tryz.sizeOf0
 v0:=Tryz.zeroValue0
 t3:=Tryz.underlying3
 a3:=Tryz.isAgg3
 z3:=Tryz.sizeOf3
 v3:=Tryz.zeroValue3
 t4:=Tryz.underlying4
 a4:=Tryz.isAgg4
 z4:=Tryz.sizeOf4
 v4:=Tryz.zeroValue4
 t9:=Tryz.underlying9
 a9:=Tryz.isAgg9
 z9:=Tryz.sizeOf9
 v9:=Tryz.zeroValue9
 t20:=Tryz.underlying20
 a20:=Tryz.isAgg20
 z20:=Tryz.sizeOf20
 v20:=Tryz.zeroValue20
 t31:=Tryz.underlying62
 a31:=Tryz.isAgg62
 z31:=Tryz.sizeOf62
 v31:=Tryz.zeroValue62
 t37:=Tryz.underlying58
 a37:=Tryz.isAgg58
 z37:=Tryz.sizeOf58
 v37:=Tryz.zeroValue58
 t70:=Tryz.underlying164
 a70:=Tryz.isAgg164
 z70:=Tryz.sizeOf164
 v70:=Tryz.zeroValue164
 t72:=Tryz.underlying166
 a72:=Tryz.isAgg166
 z72:=Tryz.sizeOf166
 v72:=Tryz.zeroValue166
 t75:=Tryz.underlying169
 a75:=Tryz.isAgg169
 z75:=Tryz.sizeOf169
 v75:=Tryz.zeroValue169
 t76:=Tryz.underlying170
 a76:=Tryz.isAgg170
 z76:=Tryz.sizeOf170
 v76:=Tryz.zeroValue170
 t127:=Tryz.underlying229
 a127:=Tryz.isAgg229
 z127:=Tryz.sizeOf229
 v127:=Tryz.zeroValue229
 t164:=Tryz.underlying247
 a164:=Tryz.isAgg247
 z164:=Tryz.sizeOf247
 v164:=Tryz.zeroValue247 }
theorem Tryz.Builder_Extra_156:Builder.Extra Tryz.prog Tryz.lays156_ren:={
 sizeBuilder:=by kernel_rfl
 liesBuilder:=by kernel_rfl
 t5:=Tryz.underlying5
 a5:=Tryz.isAgg5
 z5:=Tryz.sizeOf5
 v5:=Tryz.zeroValue5
 infoByte:=by kernel_rfl
 cellsByte:=by kernel_rfl
 sizeByte:=by kernel_rfl
 neB5:=by decide }
open Go.RowKit in
theorem Tryz.strings_Join_none (a:Option Addr) (c:Nat) (sep:ByteArray) (w:World) :
 Calls Tryz.prog 46 #[.slice a 0 c,.string sep] w fun e w'=>e = .returned (.string ⟨#[]⟩)∧w'=w:=Any.strings_Join_none Tryz.lays156 Tryz.Builder_Extra_156 a c sep w
open Go.RowKit in
theorem Tryz.strings_Join (bk o c:Nat) (xs:List ByteArray) (sep:ByteArray) (w:World) (hcells:∀ (j:Nat) x,xs[j]? = some x→w.cell? ⟨bk,o+j,none⟩=some (.string x)) (hbk:bk<w.heap.size) (hN:xs.length≤140737488355328) (hcap:xs.length≤c) (hlen:(Lib.join (xs.map (·.data.toList)) sep.data.toList).length≤140737488355328) :
 Calls Tryz.prog 46 #[.slice (some ⟨bk,o,none⟩) xs.length c,.string sep] w fun e w'=>e = .returned (.string ⟨(Lib.join (xs.map (·.data.toList)) sep.data.toList).toArray⟩)∧Below w.heap.size w w':=Any.strings_Join Tryz.lays156 Tryz.Builder_Extra_156 bk o c xs sep w hcells hbk hN hcap hlen
def Tryz.lays137_ren:Go.Shelf.Ren:=⟨fun | 137=>162 | 217=>201 | 266=>230 | n=>n,fun | 9=>9 | 5=>5 | 3=>3 | n=>n,fun | n=>n⟩
theorem Tryz.lays137:Go.Proofs.Lays.n137 Tryz.prog Tryz.lays137_ren:={
 mixed:=by kernel_rfl
 f137:=Tryz.func162.trans (congrArg some (by kernel_rfl))
 f217:=Tryz.func201.trans (congrArg some (by kernel_rfl))
 f266:=Tryz.func230.trans (congrArg some (by kernel_rfl))
 t3:=Tryz.underlying3
 a3:=Tryz.isAgg3
 z3:=Tryz.sizeOf3
 v3:=Tryz.zeroValue3
 t5:=Tryz.underlying5
 a5:=Tryz.isAgg5
 z5:=Tryz.sizeOf5
 v5:=Tryz.zeroValue5
 t9:=Tryz.underlying9
 a9:=Tryz.isAgg9
 z9:=Tryz.sizeOf9
 v9:=Tryz.zeroValue9 }
open Go.RowKit in
theorem Tryz.strings_IndexByte (s:ByteArray) (c:Int) (w:World) :
 Calls Tryz.prog 162 #[.string s,.int .u8 c] w fun e w'=>e = .returned (.int .i64 (Lib.indexByte s.data.toList c.toNat.toUInt8))∧w'=w:=Any.strings_IndexByte Tryz.lays137 s c w
def Tryz.lays138_ren:Go.Shelf.Ren:=⟨fun | 138=>305 | 195=>306 | 218=>307 | 143=>308 | 219=>309 | 217=>201 | 225=>310 | 224=>311 | 267=>312 | 266=>230 | 314=>313 | n=>n,fun | 9=>9 | 3=>3 | 4=>4 | 5=>5 | 0=>0 | 46=>309 | 146=>351 | 51=>215 | n=>n,fun | 1=>2 | n=>n⟩
theorem Tryz.lays138:Go.Proofs.Lays.n138 Tryz.prog Tryz.lays138_ren:={
 mixed:=by kernel_rfl
 f138:=Tryz.func305.trans (congrArg some (by kernel_rfl))
 f143:=Tryz.func308.trans (congrArg some (by kernel_rfl))
 f195:=Tryz.func306.trans (congrArg some (by kernel_rfl))
 f217:=Tryz.func201.trans (congrArg some (by kernel_rfl))
 f218:=Tryz.func307.trans (congrArg some (by kernel_rfl))
 f219:=Tryz.func309.trans (congrArg some (by kernel_rfl))
 f224:=Tryz.func311.trans (congrArg some (by kernel_rfl))
 f225:=Tryz.func310.trans (congrArg some (by kernel_rfl))
 f266:=Tryz.func230.trans (congrArg some (by kernel_rfl))
 f267:=Tryz.func312.trans (congrArg some (by kernel_rfl))
 f314:=Tryz.func313.trans (congrArg some (by kernel_rfl))
 t0:=Tryz.underlying0
 a0:=Tryz.isAgg0
 z0:=Tryz.sizeOf0
 v0:=Tryz.zeroValue0
 t3:=Tryz.underlying3
 a3:=Tryz.isAgg3
 z3:=Tryz.sizeOf3
 v3:=Tryz.zeroValue3
 t4:=Tryz.underlying4
 a4:=Tryz.isAgg4
 z4:=Tryz.sizeOf4
 v4:=Tryz.zeroValue4
 t5:=Tryz.underlying5
 a5:=Tryz.isAgg5
 z5:=Tryz.sizeOf5
 v5:=Tryz.zeroValue5
 t9:=Tryz.underlying9
 a9:=Tryz.isAgg9
 z9:=Tryz.sizeOf9
 v9:=Tryz.zeroValue9
 t46:=Tryz.underlying309
 a46:=Tryz.isAgg309
 z46:=Tryz.sizeOf309
 v46:=Tryz.zeroValue309
 t51:=Tryz.underlying215
 a51:=Tryz.isAgg215
 z51:=Tryz.sizeOf215
 v51:=Tryz.zeroValue215
 t146:=Tryz.underlying351
 a146:=Tryz.isAgg351
 z146:=Tryz.sizeOf351
 v146:=Tryz.zeroValue351
 g1:=by kernel_rfl }
open Go.RowKit Go.Lib in
theorem Tryz.strings_Count_one (s:ByteArray) (c:UInt8) (w:World) :
 Calls Tryz.prog 305 #[.string s,.string ⟨#[c]⟩] w fun e w'=>e = .returned (.int .i64 (Lib.countByte s.data.toList c))∧w'=w:=Any.strings_Count_one Tryz.lays138 s c w
def Tryz.lays157_ren:Go.Shelf.Ren:=⟨fun | 157=>164 | 229=>202 | 199=>203 | 261=>231 | 311=>244 | 312=>245 | n=>n,fun | 9=>9 | 31=>62 | 3=>3 | 5=>5 | 4=>4 | 119=>242 | 0=>0 | 40=>244 | 152=>261 | 21=>21 | 154=>263 | 51=>215 | 141=>265 | 196=>286 | 193=>283 | 198=>289 | 49=>287 | 194=>284 | 201=>292 | 226=>308 | 46=>309 | 227=>310 | n=>n,fun | 0=>0 | 6=>1 | n=>n⟩
theorem Tryz.lays157:Go.Proofs.Lays.n157 Tryz.prog Tryz.lays157_ren:={
 mixed:=by kernel_rfl
 f157:=Tryz.func164.trans (congrArg some (by kernel_rfl))
 f199:=Tryz.func203.trans (congrArg some (by kernel_rfl))
 f229:=Tryz.func202.trans (congrArg some (by kernel_rfl))
 f261:=Tryz.func231.trans (congrArg some (by kernel_rfl))
 f311:=Tryz.func244.trans (congrArg some (by kernel_rfl))
 f312:=Tryz.func245.trans (congrArg some (by kernel_rfl))
 t0:=Tryz.underlying0
 a0:=Tryz.isAgg0
 z0:=Tryz.sizeOf0
 v0:=Tryz.zeroValue0
 t3:=Tryz.underlying3
 a3:=Tryz.isAgg3
 z3:=Tryz.sizeOf3
 v3:=Tryz.zeroValue3
 t4:=Tryz.underlying4
 a4:=Tryz.isAgg4
 z4:=Tryz.sizeOf4
 v4:=Tryz.zeroValue4
 t5:=Tryz.underlying5
 a5:=Tryz.isAgg5
 z5:=Tryz.sizeOf5
 v5:=Tryz.zeroValue5
 t9:=Tryz.underlying9
 a9:=Tryz.isAgg9
 z9:=Tryz.sizeOf9
 v9:=Tryz.zeroValue9
 t21:=Tryz.underlying21
 a21:=Tryz.isAgg21
 z21:=Tryz.sizeOf21
 v21:=Tryz.zeroValue21
 t31:=Tryz.underlying62
 a31:=Tryz.isAgg62
 z31:=Tryz.sizeOf62
 v31:=Tryz.zeroValue62
 t40:=Tryz.underlying244
 a40:=Tryz.isAgg244
 z40:=Tryz.sizeOf244
 v40:=Tryz.zeroValue244
 t46:=Tryz.underlying309
 a46:=Tryz.isAgg309
 z46:=Tryz.sizeOf309
 v46:=Tryz.zeroValue309
 t49:=Tryz.underlying287
 a49:=Tryz.isAgg287
 z49:=Tryz.sizeOf287
 v49:=Tryz.zeroValue287
 t51:=Tryz.underlying215
 a51:=Tryz.isAgg215
 z51:=Tryz.sizeOf215
 v51:=Tryz.zeroValue215
 t119:=Tryz.underlying242
 a119:=Tryz.isAgg242
 z119:=Tryz.sizeOf242
 t141:=Tryz.underlying265
 a141:=Tryz.isAgg265
 z141:=Tryz.sizeOf265
 v141:=Tryz.zeroValue265
 t152:=Tryz.underlying261
 a152:=Tryz.isAgg261
 z152:=Tryz.sizeOf261
 v152:=Tryz.zeroValue261
 t154:=Tryz.underlying263
 a154:=Tryz.isAgg263
 z154:=Tryz.sizeOf263
 v154:=Tryz.zeroValue263
 t193:=Tryz.underlying283
 a193:=Tryz.isAgg283
 z193:=Tryz.sizeOf283
 v193:=Tryz.zeroValue283
 t194:=Tryz.underlying284
 a194:=Tryz.isAgg284
 z194:=Tryz.sizeOf284
 v194:=Tryz.zeroValue284
 t196:=Tryz.underlying286
 a196:=Tryz.isAgg286
 z196:=Tryz.sizeOf286
 v196:=Tryz.zeroValue286
 t198:=Tryz.underlying289
 a198:=Tryz.isAgg289
 z198:=Tryz.sizeOf289
 v198:=Tryz.zeroValue289
 t201:=Tryz.underlying292
 a201:=Tryz.isAgg292
 z201:=Tryz.sizeOf292
 v201:=Tryz.zeroValue292
 t226:=Tryz.underlying308
 a226:=Tryz.isAgg308
 z226:=Tryz.sizeOf308
 v226:=Tryz.zeroValue308
 t227:=Tryz.underlying310
 a227:=Tryz.isAgg310
 z227:=Tryz.sizeOf310
 v227:=Tryz.zeroValue310
 g0:=by kernel_rfl
 g6:=by kernel_rfl }
open Go.RowKit Go.Lib in
theorem Tryz.strings_Fields (s:ByteArray) (w:World) (hs:s.size<4294967281) (hascii:∀ (j:Nat) b,s.data.toList[j]? = some b→b.toNat<128) (htab:Lib.TabIs Tryz.prog w "strings.asciiSpace" .u8 Lib.asciiSpaceTab) :
 Calls Tryz.prog 164 #[.string s] w fun e w'=>
  e = .returned (.slice (some ⟨w.heap.size,0,none⟩) (Lib.fields s.data.toList).length (Lib.fields s.data.toList).length)∧w'=w.alloc (.cells ((Lib.fields s.data.toList).map fun l=>Value.string ⟨l.toArray⟩).toArray 9):=Any.strings_Fields Tryz.lays157 (by kernel_rfl) (by kernel_rfl) s w hs hascii htab
end Go.Proofs
namespace Go.Proofs.YtcmaoifiiigggaaGreatDoor
open Go.Abs Go.RowKit
structure GlobL (w:World):Prop where
 space:∃ g,Tryz.prog.globalNamed "strings.asciiSpace" = some g∧g<4∧Lib.TabIs Tryz.prog w "strings.asciiSpace" .u8 Lib.asciiSpaceTab
def globA:HA:=
 ⟨fun w o _=>4≤w.heap.size∧(∀ b,b<4→o b = .no)∧GlobL w,fun {w w' o o' k k'} hs _ h2 h=>by
  obtain ⟨a1,a2,a3⟩:=h
  have hb:∀ b,b<4→w'.heap[b]? = w.heap[b]?:=fun b hb=>(h2 b (by omega) (a2 b hb)).2
  refine ⟨by omega,fun b hb=>(h2 b (by omega) (a2 b hb)).1,?_⟩
  obtain ⟨⟨g4,e4,l4,f4⟩⟩:=a3
  refine ⟨⟨g4,e4,l4,?_⟩⟩
  unfold Lib.TabIs World.var? at f4 ⊢
  rw [e4] at f4 ⊢
  simp only [Option.bind_some] at f4 ⊢
  rw [hb g4 l4]; exact f4⟩
theorem zm9:Free globA:=fun _ _ _ _ _ ho h=>⟨h.1,fun b hb=>ho b (Nat.lt_of_lt_of_le hb h.1) (h.2.1 b hb),h.2.2⟩
theorem zf5:Views globA globA false:=zgW zm9
theorem gSpc:Tryz.prog.globalNamed "strings.asciiSpace" = some 0:=by kernel_rfl
def idxH (s:List UInt8) (c:Int):Option Int:=some (idxP s c.toNat.toUInt8)
theorem zoH (s:List UInt8) (c:Int) {r:Int} (h:idxH s c=some r):Meets Tryz.prog 162 [.string (bs s),.int .u8 c] [] (fun v G=>v = .int .i64 r∧G=[]):=by
 obtain rfl:=Option.some.inj h
 intro w o hb hs
 refine (Tryz.strings_IndexByte (bs s) c w).mono ?_
 rintro e w' ⟨rfl,rfl⟩
 exact zeg hb (Below.refl _ _) ⟨by rw [← zmf]; rfl,rfl⟩ ziw
theorem zoz:∀ (l:List UInt8) (b:Bool),Lib.cntF b l≤l.length
  | [],_=>Nat.le_refl _
  | c :: l, b => by
    have:=zoz l (Lib.isSp c)
    unfold Lib.cntF
    split <;> simp <;> omega
def zht (s:List UInt8):Option (List (List UInt8)):=need (s.length≤1073741824∧∀ b∈s,b.toNat<128) (some (Lib.fields s))
theorem ziU (s:List UInt8) {r:List (List UInt8)} (h:zht s=some r):Meets Tryz.prog 164 [.string (bs s)] [globA] (fun v G=>∃ v0,v=v0∧G=[row v0 1 (r.map eStr)]):=by
  obtain ⟨⟨hl,ha⟩,h⟩:=zX h
  obtain rfl:=Option.some.inj h
  intro w o hb hs
  have hg:GlobL w:=(hs 0 _ rfl).2.2
  obtain ⟨g,e1,_,e2⟩:=hg.space
  have hsz:(bs s).size=s.length:=by simp [bs,ByteArray.size]
  have hd:(bs s).data.toList=s:=by simp [bs]
  refine (Tryz.strings_Fields (bs s) w (by omega) (fun j b hj=>ha b (by rw [hd] at hj; exact List.mem_of_getElem? hj)) e2).mono ?_
  rintro e w' ⟨rfl,rfl⟩
  rw [hd]
  have hlen:(Lib.fields s).length≤s.length:=by
    unfold Lib.fields
    rw [Lib.fieldsGo_length]
    have:=zoz s true
    simpa using this
  refine ⟨_,_,fun b=>if b=w.heap.size then .mine 0 else o b,rfl,⟨_,rfl,rfl⟩,?_,?_,?_⟩
  · intro b hb'
    simp [World.alloc,-World.alloc_eq] at hb'
    simp only [show ¬ b=w.heap.size by omega,if_false]
    exact hb b (by omega)
  · refine ⟨rfl,rfl,rfl,by simp [World.alloc,-World.alloc_eq],fun b hlt ho=>⟨by simp only [show ¬ b=w.heap.size by omega,if_false]; exact ho,Below.heap_alloc _ _ _ hlt⟩,fun b hlt ho=>⟨by simp only [show ¬ b=w.heap.size by omega,if_false]; exact ho,Below.heap_alloc _ _ _ hlt⟩⟩
  · intro j g hj
    cases j with
    | succ j=>simp at hj
    | zero =>
      obtain rfl:=Option.some.inj hj
      refine .inr ⟨w.heap.size,0,(Lib.fields s).length,((Lib.fields s).map fun l=>Value.string ⟨l.toArray⟩).toArray,9,(0,0),by simp,by simp,by simp [World.alloc,-World.alloc_eq],by simp [World.alloc,-World.alloc_eq],.inl (Nat.le_refl _),by simp,by simp,?_,?_,?_⟩
      · have:(4294967296:Nat)≤maxLen:=by decide
        omega
      · intro c' hc'
        obtain ⟨x,_,rfl⟩:=List.mem_map.1 hc'
        rfl
      · intro i c' hi j x hj
        simp only [List.getElem?_map,Option.map_eq_some_iff] at hi
        obtain ⟨y,hy,rfl⟩:=hi
        cases j with
        | succ j=>simp [eStr] at hj
        | zero =>
          obtain rfl:Value.string (bs y)=x:=by simpa [eStr] using hj
          simp [hy,bs]
def zlj (s sep:List UInt8):Option Int:=match sep with | [c]=>some ((s.count c:Nat):Int) | _=>none
theorem znL (s sep:List UInt8) {r:Int} (h:zlj s sep=some r):Meets Tryz.prog 305 [.string (bs s),.string (bs sep)] [] (fun v G=>v = .int .i64 r∧G=[]):=by
  match sep,h with
  | [c], h =>
    obtain rfl:=Option.some.inj h
    intro w o hb hs
    refine (Tryz.strings_Count_one (bs s) c w).mono ?_
    rintro e w' ⟨rfl,rfl⟩
    exact zeg hb (Below.refl _ _) ⟨by simp [bs,Lib.countByte],rfl⟩ ziw
def joinH (l:List (List UInt8)) (sep:List UInt8):Option (List UInt8):=need (l.length≤4294967296∧(joinP l sep).length≤4294967296) (some (joinP l sep))
theorem zpR (l:List (List UInt8)) (sep:List UInt8) (v:Value) {r:List UInt8} (h:joinH l sep=some r):Meets Tryz.prog 46 [v,.string (bs sep)] [ro v 1 (l.map eStr)] (fun v G=>v = .string (bs r)∧G=[]):=by
 obtain ⟨⟨h2,h3⟩,h⟩:=zX h
 obtain rfl:=Option.some.inj h
 intro w o hb hs
 obtain ⟨a,cap,rfl,c1,c2,c3,c4⟩:=hs 0 _ rfl
 by_cases h1:0<l.length
 rotate_left
 ·obtain rfl:l=[]:=List.length_eq_zero_iff.1 (by omega)
  refine (Tryz.strings_Join_none a cap (bs sep) w).mono ?_
  rintro e w' ⟨rfl,rfl⟩
  exact zeg hb (Below.refl _ _) ⟨by simp [joinP,bs],rfl⟩ ziw
 obtain ⟨x0,hx0⟩ : ∃ x,l[0]? = some x:=⟨_,List.getElem?_eq_getElem h1⟩
 obtain ⟨_,b,off,rfl,c5,c6,c7⟩:=c4 0 (eStr x0) (by simp [hx0])
 have hm:(l.map bs).map (fun x=>x.data.toList)=l:=by
  rw [List.map_map]
  conv=>rhs; rw [← List.map_id l]
  exact List.map_congr_left fun x _=>by simp [bs]
 have hsep:(bs sep).data.toList=sep:=by simp [bs]
 have:=Tryz.strings_Join b off cap (l.map bs) (bs sep) w (fun j x hj=>by
  simp only [List.getElem?_map,Option.map_eq_some_iff] at hj
  obtain ⟨y,hy,rfl⟩:=hj
  obtain ⟨_,b',off',e',_,_,c8⟩:=c4 j (eStr y) (by simp [hy])
  obtain ⟨rfl,rfl⟩ : b'=b∧off'=off:=by simp only [Option.some.injEq,Addr.mk.injEq] at e'; exact ⟨e'.1.symm,e'.2.1.symm⟩
  have:=c8 0 _ rfl
  simpa using this) c5 (by simp; omega) (by simpa using c1) (by rw [hm,hsep]; show (joinP l sep).length≤_; omega)
 simp only [List.length_map] at this ⊢
 refine this.mono ?_
 rintro e w' ⟨rfl,hbl⟩
 rw [hm,hsep]
 exact zeg hb hbl ⟨rfl,rfl⟩ ziw
end Go.Proofs.YtcmaoifiiigggaaGreatDoor
namespace Go.Proofs.YtcmaoifiiigggaaGreatDoor
open Go.Abs
set_option maxRecDepth 20000
theorem znn (a b c:Nat) (H:List HA):RecD Tryz.prog 41 [boxP a 0,boxP b 0,boxP c 0] .returning .returning H H:=by
 refine zfC Tryz.func41 rfl Tryz.ntmps41 rfl (fun w0 o0 c0 cf hu=>?_)
 refine z7b (z4i [0,1] rfl ?_)
 refine z6u (v:=.nilIface) (cs':=c0::cf) rfl rfl (by simp [recoverD,hu]) ?_
 refine z9L rfl rfl rfl (z1Y rfl) ?_
 refine z73 (z5x ?_)
 refine z7b (z4i [0,1] rfl ?_)
 refine z9L rfl rfl rfl (z1Z rfl) ?_
 refine z9L rfl rfl rfl (zjH (v:=.nilIface) (b:=true) Tryz.runUnderlying20 rfl (.inl ⟨rfl,rfl⟩)) ?_
 refine z73 (z5x ?_)
 refine zdl rfl ?_
 exact zg7 (leafS Tryz.results41 (congrArg (·::cf) (zg3 hu)))
theorem zf3 (a b c:Nat) (e va:Int) {H:List HA} (i j k:Nat) {x y1 y2:Value} (hi:H[i]? = some (box a [.int .i64 va])) (hj:H[j]? = some (box b [x])) (hk:H[k]? = some (box c [y1,y2])) (hjk:j≠k) :
  RecD Tryz.prog 41 [boxP a 0,boxP b 0,boxP c 0] (.panicking [{ v:=.iface 27 (.int .i64 e),recovered:=false }]) (.panicking [{ v:=.iface 27 (.int .i64 e),recovered:=true }]) H
   ((H.set j (box b [.slice none 0 0])).set k (box c [.int .i64 va,.int .i64 e])):=by
 refine zfC Tryz.func41 rfl Tryz.ntmps41 rfl (fun w0 o0 c0 cf hu=>?_)
 refine z7b (z4i [0,1] rfl ?_)
 refine z6u (v:=.iface 27 (.int .i64 e)) (cs':={ c0 with mode:=.panicking [{ v:=.iface 27 (.int .i64 e),recovered:=true }] }::cf) rfl rfl (by simp [recoverD,hu]) ?_
 refine z9L rfl rfl rfl (z1Y rfl) ?_
 refine z73 (z5x ?_)
 refine z7b (z4i [0,1] rfl ?_)
 refine z9L rfl rfl rfl (z1Z rfl) ?_
 refine z9L rfl rfl rfl (zjH (v:=.iface 27 (.int .i64 e)) (b:=false) Tryz.runUnderlying20 rfl (.inr ⟨⟨_,_,rfl⟩,rfl⟩)) ?_
 refine z73 (z5x ?_)
 refine zdm rfl ?_
 refine zkV (fun L hL=>?_)
 refine zH ?_
 refine z8 ?_
 refine ops_y (wn rfl) rfl (z1Z rfl) ?_
 refine ops_y (wn rfl) rfl (zon Tryz.runUnderlying27 rfl rfl) ?_
 refine ops_y (wn rfl) rfl (z1Z rfl) ?_
 refine ops_y (wn rfl) rfl (ziK rfl rfl) ?_
 refine ops_y (wn rfl) rfl (ziK rfl rfl) ?_
 refine ops_y (wn rfl) rfl (z1Y rfl) ?_
 refine ops_y (wn rfl) rfl (z1Y rfl) ?_
 refine zr ?_
 refine zD ?_
 refine zH ?_
 refine zH ?_
 refine z8 ?_
 refine ops_y (wn rfl) rfl (z1Z rfl) ?_
 refine ops_y (wn rfl) rfl (y_not rfl) ?_
 refine zr ?_
 refine zD ?_
 refine z53 rfl ?_
 refine run_skip ?_
 refine zD ?_
 refine z8 ?_
 refine ops_y (wn rfl) rfl (z3I i Tryz.isAgg3 rfl hi rfl) ?_
 refine ops_y (wn rfl) rfl (z1Z rfl) ?_
 refine ops_y (wn rfl) rfl (z9Q (cells:=#[.int .i64 va,.int .i64 e]) [(0,.int .i64 va),(1,.int .i64 e)] [(0,[.int .i64 va]),(1,[.int .i64 e])] Tryz.zeroValue29 Tryz.runUnderlying29 (zdD Tryz.sizeOf3 (zdD Tryz.sizeOf27 zlk)) rfl rfl rfl) ?_
 refine ops_t (wn rfl) rfl (z55 (b:=b) (off:=0) (vs:=[x]) (v:=.slice none 0 0) j Tryz.sizeOf37 rfl rfl hj rfl (by simp) (by simp [Value.cells,Value.oneCell'])) ?_
 rintro _ _ ⟨rfl,rfl⟩
 refine ops_t (wn rfl) rfl (z9R (b:=c) (c:=[.int .i64 va,.int .i64 e]) k Tryz.sizeOf29 rfl rfl (by rw [List.getElem?_set_ne hjk]; exact hk) rfl rfl (by simp [Value.oneCell'])) ?_
 rintro _ _ ⟨rfl,rfl⟩
 refine zr ?_
 exact fun a w r=>hL _ _ (leafS Tryz.results41 rfl) a w r
end Go.Proofs.YtcmaoifiiigggaaGreatDoor
namespace Go.Proofs.YtcmaoifiiigggaaGreatDoor
open Go.Abs
set_option maxRecDepth 20000
theorem zk1 (b c:Nat) (H:List HA):RecD Tryz.prog 73 [boxP b 0,boxP c 0] .returning .returning H H:=by
 refine zfC Tryz.func73 rfl Tryz.ntmps73 rfl (fun w0 o0 c0 cf hu=>?_)
 refine z7b (z4i [0,1] rfl ?_)
 refine z6u (v:=.nilIface) (cs':=c0::cf) rfl rfl (by simp [recoverD,hu]) ?_
 refine z9L rfl rfl rfl (z1Y rfl) ?_
 refine z73 (z5x ?_)
 refine z7b (z4i [0,1] rfl ?_)
 refine z9L rfl rfl rfl (z1Z rfl) ?_
 refine z9L rfl rfl rfl (zjH (v:=.nilIface) (b:=true) Tryz.runUnderlying20 rfl (.inl ⟨rfl,rfl⟩)) ?_
 refine z73 (z5x ?_)
 refine zdl rfl ?_
 exact zg7 (leafS Tryz.results73 (congrArg (·::cf) (zg3 hu)))
theorem zgz (b c:Nat) (e:Int) {H:List HA} (i j:Nat) {vs:List Value} {y1 y2:Value} (hi:H[i]? = some (box b vs)) (hl:vs.length=2) (hj:H[j]? = some (box c [y1,y2])) (hij:i≠j) :
  RecD Tryz.prog 73 [boxP b 0,boxP c 0] (.panicking [{ v:=(.iface 29 (.agg #[.int .i64 e,.int .i64 180])),recovered:=false }]) (.panicking [{ v:=(.iface 29 (.agg #[.int .i64 e,.int .i64 180])),recovered:=true }]) H
   ((H.set i (box b [.slice none 0 0,.slice none 0 0])).set j (box c [.int .i64 e,.int .i64 180])):=by
 refine zfC Tryz.func73 rfl Tryz.ntmps73 rfl (fun w0 o0 c0 cf hu=>?_)
 refine z7b (z4i [0,1] rfl ?_)
 refine z6u (v:=(.iface 29 (.agg #[.int .i64 e,.int .i64 180]))) (cs':={ c0 with mode:=.panicking [{ v:=(.iface 29 (.agg #[.int .i64 e,.int .i64 180])),recovered:=true }] }::cf) rfl rfl (by simp [recoverD,hu]) ?_
 refine z9L rfl rfl rfl (z1Y rfl) ?_
 refine z73 (z5x ?_)
 refine z7b (z4i [0,1] rfl ?_)
 refine z9L rfl rfl rfl (z1Z rfl) ?_
 refine z9L rfl rfl rfl (zjH (v:=(.iface 29 (.agg #[.int .i64 e,.int .i64 180]))) (b:=false) Tryz.runUnderlying20 rfl (.inr ⟨⟨_,_,rfl⟩,rfl⟩)) ?_
 refine z73 (z5x ?_)
 refine zdm rfl ?_
 refine zkV (fun L hL=>?_)
 refine zH ?_
 refine z8 ?_
 refine ops_t (wn rfl) rfl (zaL Tryz.zeroValue26) ?_
 rintro _ _ ⟨z,rfl,rfl⟩
 refine zr ?_
 refine zD ?_
 have hj2:(H.set i (box b [.slice none 0 0,.slice none 0 0]))[j]? = some (box c [y1,y2]):=by rw [List.getElem?_set_ne hij]; exact hj
 refine z98 (List.replicate H.length HA.emp++[box z [.slice none 0 0,.slice none 0 0]]) (by kernel_rfl) ?_
 refine any_y 0 rfl (by kernel_rfl) (by kernel_rfl) (by kernel_rfl) (zb3 rfl) (wn rfl) rfl (z9u (c:=[.slice none 0 0,.slice none 0 0]) H.length Tryz.isAgg26 Tryz.sizeOf26 rfl zoY rfl) ?_
 refine any_y 1 rfl (by kernel_rfl) (by kernel_rfl) (by kernel_rfl) (zb3 rfl) (wn rfl) rfl (z1Z rfl) ?_
 refine any_y 2 rfl (by kernel_rfl) (by kernel_rfl) (by kernel_rfl) (zb3 rfl) (wn rfl) rfl (zkm Tryz.runUnderlying29 rfl rfl) ?_
 refine zK [3] (by kernel_rfl) rfl (zk ?_ zC)
 refine any_t rfl (wn rfl) rfl (z9R (b:=b) (c:=[.slice none 0 0,.slice none 0 0]) i Tryz.sizeOf26 rfl rfl (zfZ hi) rfl hl (by simp [Value.oneCell'])) ?_
 rintro _ _ ⟨rfl,rfl⟩
 rw [zg0 hi]
 refine ⟨zb3 (by simp),?_⟩
 refine zK [4] (by kernel_rfl) rfl (zk ?_ zC)
 refine any_t rfl (wn rfl) rfl (z9R (b:=c) (c:=[.int .i64 e,.int .i64 180]) j Tryz.sizeOf29 rfl rfl (zfZ hj2) rfl rfl (by simp [Value.oneCell'])) ?_
 rintro _ _ ⟨rfl,rfl⟩
 rw [zg0 hj2]
 refine ⟨zb3 (by simp),?_⟩
 refine z1K (by kernel_rfl) ?_
 exact fun a w r=>hL _ _ (leafS Tryz.results73 rfl) a w (zkR r)
theorem zk2 (b c:Nat) (H:List HA):RecD Tryz.prog 106 [boxP b 0,boxP c 0] .returning .returning H H:=by
 refine zfC Tryz.func106 rfl Tryz.ntmps106 rfl (fun w0 o0 c0 cf hu=>?_)
 refine z7b (z4i [0,1] rfl ?_)
 refine z6u (v:=.nilIface) (cs':=c0::cf) rfl rfl (by simp [recoverD,hu]) ?_
 refine z9L rfl rfl rfl (z1Y rfl) ?_
 refine z73 (z5x ?_)
 refine z7b (z4i [0,1] rfl ?_)
 refine z9L rfl rfl rfl (z1Z rfl) ?_
 refine z9L rfl rfl rfl (zjH (v:=.nilIface) (b:=true) Tryz.runUnderlying20 rfl (.inl ⟨rfl,rfl⟩)) ?_
 refine z73 (z5x ?_)
 refine zdl rfl ?_
 exact zg7 (leafS Tryz.results106 (congrArg (·::cf) (zg3 hu)))
theorem zgA (b c:Nat) (e:Int) {H:List HA} (i j:Nat) {vs:List Value} {y1 y2:Value} (hi:H[i]? = some (box b vs)) (hl:vs.length=4) (hj:H[j]? = some (box c [y1,y2])) (hij:i≠j) :
  RecD Tryz.prog 106 [boxP b 0,boxP c 0] (.panicking [{ v:=(.iface 29 (.agg #[.int .i64 e,.int .i64 180])),recovered:=false }]) (.panicking [{ v:=(.iface 29 (.agg #[.int .i64 e,.int .i64 180])),recovered:=true }]) H
   ((H.set i (box b [.int .i64 0,.int .i64 0,.string (bs []),.slice none 0 0])).set j (box c [.int .i64 e,.int .i64 180])):=by
 refine zfC Tryz.func106 rfl Tryz.ntmps106 rfl (fun w0 o0 c0 cf hu=>?_)
 refine z7b (z4i [0,1] rfl ?_)
 refine z6u (v:=(.iface 29 (.agg #[.int .i64 e,.int .i64 180]))) (cs':={ c0 with mode:=.panicking [{ v:=(.iface 29 (.agg #[.int .i64 e,.int .i64 180])),recovered:=true }] }::cf) rfl rfl (by simp [recoverD,hu]) ?_
 refine z9L rfl rfl rfl (z1Y rfl) ?_
 refine z73 (z5x ?_)
 refine z7b (z4i [0,1] rfl ?_)
 refine z9L rfl rfl rfl (z1Z rfl) ?_
 refine z9L rfl rfl rfl (zjH (v:=(.iface 29 (.agg #[.int .i64 e,.int .i64 180]))) (b:=false) Tryz.runUnderlying20 rfl (.inr ⟨⟨_,_,rfl⟩,rfl⟩)) ?_
 refine z73 (z5x ?_)
 refine zdm rfl ?_
 refine zkV (fun L hL=>?_)
 refine zH ?_
 refine z8 ?_
 refine ops_t (wn rfl) rfl (zaL Tryz.zeroValue47) ?_
 rintro _ _ ⟨z,rfl,rfl⟩
 refine zr ?_
 refine zD ?_
 have hj2:(H.set i (box b [.int .i64 0,.int .i64 0,.string (bs []),.slice none 0 0]))[j]? = some (box c [y1,y2]):=by rw [List.getElem?_set_ne hij]; exact hj
 refine z98 (List.replicate H.length HA.emp++[box z [.int .i64 0,.int .i64 0,.string (bs []),.slice none 0 0]]) (by kernel_rfl) ?_
 refine any_y 0 rfl (by kernel_rfl) (by kernel_rfl) (by kernel_rfl) (zb3 rfl) (wn rfl) rfl (z9u (c:=[.int .i64 0,.int .i64 0,.string (bs []),.slice none 0 0]) H.length Tryz.isAgg47 Tryz.sizeOf47 rfl zoY rfl) ?_
 refine any_y 1 rfl (by kernel_rfl) (by kernel_rfl) (by kernel_rfl) (zb3 rfl) (wn rfl) rfl (z1Z rfl) ?_
 refine any_y 2 rfl (by kernel_rfl) (by kernel_rfl) (by kernel_rfl) (zb3 rfl) (wn rfl) rfl (zkm Tryz.runUnderlying29 rfl rfl) ?_
 refine zK [3] (by kernel_rfl) rfl (zk ?_ zC)
 refine any_t rfl (wn rfl) rfl (z9R (b:=b) (c:=[.int .i64 0,.int .i64 0,.string (bs []),.slice none 0 0]) i Tryz.sizeOf47 rfl rfl (zfZ hi) rfl hl (by simp [Value.oneCell'])) ?_
 rintro _ _ ⟨rfl,rfl⟩
 rw [zg0 hi]
 refine ⟨zb3 (by simp),?_⟩
 refine zK [4] (by kernel_rfl) rfl (zk ?_ zC)
 refine any_t rfl (wn rfl) rfl (z9R (b:=c) (c:=[.int .i64 e,.int .i64 180]) j Tryz.sizeOf29 rfl rfl (zfZ hj2) rfl rfl (by simp [Value.oneCell'])) ?_
 rintro _ _ ⟨rfl,rfl⟩
 rw [zg0 hj2]
 refine ⟨zb3 (by simp),?_⟩
 refine z1K (by kernel_rfl) ?_
 exact fun a w r=>hL _ _ (leafS Tryz.results106 rfl) a w (zkR r)
theorem z6X (b c:Nat) (H:List HA):RecD Tryz.prog 111 [boxP b 0,boxP c 0] .returning .returning H H:=by
 refine zfC Tryz.func111 rfl Tryz.ntmps111 rfl (fun w0 o0 c0 cf hu=>?_)
 refine z7b (z4i [0,1] rfl ?_)
 refine z6u (v:=.nilIface) (cs':=c0::cf) rfl rfl (by simp [recoverD,hu]) ?_
 refine z9L rfl rfl rfl (z1Y rfl) ?_
 refine z73 (z5x ?_)
 refine z7b (z4i [0,1] rfl ?_)
 refine z9L rfl rfl rfl (z1Z rfl) ?_
 refine z9L rfl rfl rfl (zjH (v:=.nilIface) (b:=true) Tryz.runUnderlying20 rfl (.inl ⟨rfl,rfl⟩)) ?_
 refine z73 (z5x ?_)
 refine zdl rfl ?_
 exact zg7 (leafS Tryz.results111 (congrArg (·::cf) (zg3 hu)))
theorem zf8 (b c:Nat) (e:Int) {H:List HA} (i j:Nat) {x y:Value} (hi:H[i]? = some (box b [x])) (hj:H[j]? = some (box c [y])) (hij:i≠j) :
  RecD Tryz.prog 111 [boxP b 0,boxP c 0] (.panicking [{ v:=(.iface 27 (.int .i64 e)),recovered:=false }]) (.panicking [{ v:=(.iface 27 (.int .i64 e)),recovered:=true }]) H
   ((H.set i (box b [.string (bs [])])).set j (box c [.int .i64 e])):=by
 refine zfC Tryz.func111 rfl Tryz.ntmps111 rfl (fun w0 o0 c0 cf hu=>?_)
 refine z7b (z4i [0,1] rfl ?_)
 refine z6u (v:=(.iface 27 (.int .i64 e))) (cs':={ c0 with mode:=.panicking [{ v:=(.iface 27 (.int .i64 e)),recovered:=true }] }::cf) rfl rfl (by simp [recoverD,hu]) ?_
 refine z9L rfl rfl rfl (z1Y rfl) ?_
 refine z73 (z5x ?_)
 refine z7b (z4i [0,1] rfl ?_)
 refine z9L rfl rfl rfl (z1Z rfl) ?_
 refine z9L rfl rfl rfl (zjH (v:=(.iface 27 (.int .i64 e))) (b:=false) Tryz.runUnderlying20 rfl (.inr ⟨⟨_,_,rfl⟩,rfl⟩)) ?_
 refine z73 (z5x ?_)
 refine zdm rfl ?_
 refine zkV (fun L hL=>?_)
 refine z98 [] (by kernel_rfl) ?_
 refine any_y 0 rfl (by kernel_rfl) (by kernel_rfl) (by kernel_rfl) zhJ (wn rfl) rfl (z1Z rfl) ?_
 refine any_y 1 rfl (by kernel_rfl) (by kernel_rfl) (by kernel_rfl) zhJ (wn rfl) rfl (zkm Tryz.runUnderlying27 rfl rfl) ?_
 refine zK [2] (by kernel_rfl) rfl (zk ?_ zC)
 refine any_t rfl (wn rfl) rfl (z55 (b:=b) (off:=0) (vs:=[x]) (v:=.string (bs [])) i Tryz.sizeOf9 rfl rfl hi rfl (by simp) (by simp [Value.cells,Value.oneCell'])) ?_
 rintro _ _ ⟨rfl,rfl⟩
 refine ⟨zhJ,?_⟩
 refine zK [3] (by kernel_rfl) rfl (zk ?_ zC)
 refine any_t rfl (wn rfl) rfl (z55 (b:=c) (off:=0) (vs:=[y]) (v:=.int .i64 e) j Tryz.sizeOf27 rfl rfl (by rw [List.getElem?_set_ne hij]; exact hj) rfl (by simp) (by simp [Value.cells,Value.oneCell'])) ?_
 rintro _ _ ⟨rfl,rfl⟩
 refine ⟨zhJ,?_⟩
 refine z1K (by kernel_rfl) ?_
 exact fun a w r=>hL _ _ (leafS Tryz.results111 rfl) a w r
end Go.Proofs.YtcmaoifiiigggaaGreatDoor
namespace Go.Proofs.YtcmaoifiiigggaaGreatDoor
open Go.Abs
set_option maxRecDepth 20000
set_option maxHeartbeats 1000000
def zjW (l:List (List UInt8)):Option Unit:=need (l.length=4) (some ())
def tab0:List Value:=List.replicate 256 (.slice none 0 0)
def tabV (a c t:Value):List Value:=((tab0.set 92 a).set 34 c)++[t]
abbrev replA (b:Nat) (x0 x1 x2:Int) (c:Nat) (v1 v2 v3:Value):List HA:=
 [box b [.int .u32 x0,.int .i32 x1,.int .u32 x2,.iface 278 (boxP c 0),.slice none 0 0],box c (tabV v1 v2 v3),row v1 1 (u8c [92,92]),row v2 1 (u8c [92,34]),row v3 1 (([[92],[34]]:List (List UInt8)).map eStr)]
theorem zsF {x:Value} (h:x.oneCell'=true):∀ u∈tab0++[x],u.oneCell'=true:=by
 intro u hu
 rcases List.mem_append.1 hu with hu | hu
 ·obtain rfl:=List.eq_of_mem_replicate hu
  rfl
 ·obtain rfl:=List.mem_singleton.1 hu
  exact h
theorem zla (vs:List Value) (n:Nat) {v:Value} (h:v.cells = #[v]) (_:n<vs.length):wrL vs n v.cells.toList=vs.set n v:=by
 rw [h]
 simp [wrL,z6Y]
theorem znE {V:VF} {H:List HA} {P:Program} {d:Option Nat} {ty:TypeId} {pos:String} {af:Array Edge} {g:Option (Nat×Bool)} {T el U:TypeId} {x y:Operand} (hu:∀ w,(underlying T).run P w = .ok (.slice el) w)
  (hx:V.ev x=some (.slice none 0 0)) (hy:V.ev y=some (.slice none 0 0)):OpY P ⟨d,.binOp .eql T x y U,ty,pos,af,g⟩ V H (.bool true):=by
 intro ρ w o hf _ _
 simp [execOp,hf x _ hx,hf y _ hy,eqGuard,binOp,z7w hu]
theorem zlo (a_0:List (List UInt8)) (a_0v:Value) {r:Unit} (h:zjW a_0=some r):Meets Tryz.prog 101 [a_0v] [ro a_0v 1 (a_0.map eStr)] (fun v G=>∃ v0 v1,v=boxP v1 0∧G=[row v0 1 (a_0.map eStr),box v1 [.int .u32 0,.int .i32 0,.int .u32 0,.nilIface,v0]]):=by
 obtain ⟨hl,_⟩:=zX h
 refine zN Tryz.func101 rfl Tryz.ntmps101 rfl (fun w0 o0=>?_)
 refine zH ?_
 refine z8 ?_
 refine oy rfl rfl (z1Y rfl) ?_
 refine zr ?_
 refine zD ?_
 refine zH ?_
 refine zH ?_
 refine z8 ?_
 refine oy rfl rfl (z1Z rfl) ?_
 refine oy rfl rfl ((y_len 0 rfl Tryz.runUnderlying62 rfl rfl z3N).to (v_len eStr _)) ?_
 refine oy rfl rfl (y_rem rfl rfl (by decide)) ?_
 refine oy rfl rfl (y_eql rfl rfl) ?_
 refine zr ?_
 refine zD ?_
 refine z8D (decide (((a_0.length:Int).tmod 2)=1)) rfl (fun hc=>?_) (fun hc=>?_)
 ·rw [hl] at hc; exact absurd hc (by decide)
 refine run_skip ?_
 refine zD ?_
 refine zH ?_
 refine z8 ?_
 refine oy rfl rfl (z1Z rfl) ?_
 refine zB (nilrow 1) ?_
 have hr:([]:List (List UInt8)).length+a_0.length≤4294967296:=by simp [hl]
 refine ot rfl rfl (z1U (es:=1) (v:=.slice none 0 0) (cells:=([]:List (List UInt8)).map eStr) 1 rfl Tryz.runUnderlying62 rfl Tryz.runUnderlying62 (.inr ⟨_,rfl⟩) Tryz.typeInfo9 rfl (by decide) Tryz.zeroValue9 rfl rfl rfl rfl (z1C 0 rfl z3N (z42 zfB _)) (z1T hr (by decide)) (z2H hr)) ?_
 rintro v1 _ rfl
 refine zcx 1 rfl z1d (fun hs hso=>?_)
 refine oy rfl rfl (z9Q (cells:=#[.int .u32 0,.int .i32 0,.int .u32 0,.nilIface,v1]) [(2,v1)] [(2,[v1])] Tryz.zeroValue227 Tryz.runUnderlying227 (zdD Tryz.sizeOf223 (zdD Tryz.sizeOf225 (zdD Tryz.sizeOf62 zlk))) rfl (by simp [hs]) rfl) ?_
 refine ot rfl rfl (t_box rfl) ?_
 rintro _ _ ⟨b,rfl,rfl⟩
 refine oy rfl rfl (z1Y rfl) ?_
 refine zr ?_
 refine zD ?_
 refine zA ?_
 refine zax [2] [boxP b 0] [1,2] [row v1 1 (a_0.map eStr),box b [.int .u32 0,.int .i32 0,.int .u32 0,.nilIface,v1]] Tryz.results101 rfl (by decide) rfl ?_
 exact ⟨_,_,rfl,rfl⟩
theorem zpz (b:Nat) (on rif:Value) (x0 x1 x2:Int):Meets Tryz.prog 206 [boxP b 0] [row on 1 (([[34],[92,34],[92],[92,92]]:List (List UInt8)).map eStr),box b [.int .u32 x0,.int .i32 x1,.int .u32 x2,rif,on]] (fun v G=>∃ c v1 v2 v3,v = .iface 278 (boxP c 0)∧G=[row on 1 (([[34],[92,34],[92],[92,92]]:List (List UInt8)).map eStr),box b [.int .u32 x0,.int .i32 x1,.int .u32 x2,rif,on],box c (tabV v1 v2 v3),row v1 1 (u8c [92,92]),row v2 1 (u8c [92,34]),row v3 1 (([[92],[34]]:List (List UInt8)).map eStr)]):=by
 refine zN Tryz.func206 rfl Tryz.ntmps206 rfl (fun w0 o0=>?_)
 refine zH ?_
 refine z8 ?_
 refine oy rfl rfl (z1Y rfl) ?_
 refine zr ?_
 refine zD ?_
 refine zH ?_
 refine z8 ?_
 refine oy rfl rfl (z1Z rfl) ?_
 refine oy rfl rfl (z6J rfl) ?_
 refine oy rfl rfl (z1H (sz:=0) Tryz.runUnderlying227 rfl Tryz.sizeOf62 rfl) ?_
 refine oy rfl rfl (z3I 1 Tryz.isAgg62 rfl rfl rfl) ?_
 refine oy rfl rfl (z1Y rfl) ?_
 refine zr ?_
 refine zD ?_
 refine zH ?_
 refine zH ?_
 refine z8 ?_
 refine oy rfl rfl (z1Z rfl) ?_
 refine oy rfl rfl ((y_len 0 rfl Tryz.runUnderlying62 rfl rfl z1d).to (v_len eStr _)) ?_
 refine oy rfl rfl (y_eql rfl rfl) ?_
 refine oy rfl rfl (z1Z rfl) ?_
 refine zlp 3 true 22 rfl rfl rfl rfl rfl ?_
 refine zlp 3 true 22 rfl rfl rfl rfl rfl ?_
 refine zlp 3 true 22 rfl rfl rfl rfl rfl ?_
 refine zlp 3 true 22 rfl rfl rfl rfl rfl ?_
 refine zlp 3 true 22 rfl rfl rfl rfl rfl ?_
 refine oy rfl rfl (zkp (b:=false) rfl rfl) ?_
 refine zr ?_
 refine zD ?_
 refine z53 rfl ?_
 refine run_skip ?_
 refine zD ?_
 refine zH ?_
 refine z8 ?_
 refine oy rfl rfl (z1Y rfl) ?_
 refine zr ?_
 refine zD ?_
 refine zH ?_
 refine zH ?_
 refine z8 ?_
 refine oy rfl rfl (z1Y rfl) ?_
 refine zr ?_
 refine zD ?_
 refine zF ?_
 refine ziu 4 ?_
 refine zH ?_
 refine zH ?_
 refine z8 ?_
 refine oy rfl rfl (z1Z rfl) ?_
 refine oy rfl rfl (z1Z rfl) ?_
 refine oy rfl rfl ((y_len 0 rfl Tryz.runUnderlying62 rfl rfl z1d).to (v_len eStr _)) ?_
 refine oy rfl rfl (y_lss rfl rfl) ?_
 refine zr ?_
 refine zD ?_
 refine z3M rfl ?_
 refine run_skip ?_
 refine zD ?_
 refine zH ?_
 refine zF ?_
 refine z6G [(3,on),(4,.bool true),(5,.int .i64 0)] [0,1] [row on 1 (([[34],[92,34],[92],[92,92]]:List (List UInt8)).map eStr),box b [.int .u32 x0,.int .i32 x1,.int .u32 x2,rif,on]] (vcons rfl (vcons rfl (vcons rfl vnil))) (by decide) rfl ?_
 refine zH ?_
 refine zH ?_
 refine z8 ?_
 refine oy rfl rfl (z1Z rfl) ?_
 refine oy rfl rfl (z1Z rfl) ?_
 refine oy rfl rfl (z4M (kd:=.i64) (i:=0) 0 Tryz.runUnderlying62 Tryz.sizeOf9 rfl rfl rfl z1d (by decide) (by decide)) ?_
 refine oy rfl rfl (z6a (i:=(0:Int).toNat) 0 Tryz.isAgg9 rfl rfl z1d rfl) ?_
 refine oy rfl rfl (z8N rfl Tryz.runUnderlying9 rfl) ?_
 refine oy rfl rfl (y_neq rfl rfl) ?_
 refine zr ?_
 refine zD ?_
 refine z53 rfl ?_
 refine run_skip ?_
 refine zD ?_
 refine zH ?_
 refine z8 ?_
 refine oy rfl rfl (z1Z rfl) ?_
 refine oy rfl rfl (z1Z rfl) ?_
 refine oy rfl rfl (y_add rfl rfl) ?_
 refine oy rfl rfl (z4M (kd:=.i64) (i:=1) 0 Tryz.runUnderlying62 Tryz.sizeOf9 rfl rfl rfl z1d (by decide) (by decide)) ?_
 refine oy rfl rfl (z6a (i:=(1:Int).toNat) 0 Tryz.isAgg9 rfl rfl z1d rfl) ?_
 refine oy rfl rfl (z8N rfl Tryz.runUnderlying9 rfl) ?_
 refine oy rfl rfl (y_neq rfl rfl) ?_
 refine zr ?_
 refine zD ?_
 refine z3M rfl ?_
 refine z8 ?_
 refine oy rfl rfl (z1Y rfl) ?_
 refine zr ?_
 refine zS ?_
 refine zD ?_
 refine z8 ?_
 refine oy rfl rfl (z1Z rfl) ?_
 refine oy rfl rfl (y_add rfl rfl) ?_
 refine oy rfl rfl (z1Y rfl) ?_
 refine zr ?_
 refine z9k ?_
 refine zH ?_
 refine zH ?_
 refine z8 ?_
 refine oy rfl rfl (z1Z rfl) ?_
 refine oy rfl rfl (z1Z rfl) ?_
 refine oy rfl rfl ((y_len 0 rfl Tryz.runUnderlying62 rfl rfl z1d).to (v_len eStr _)) ?_
 refine oy rfl rfl (y_lss rfl rfl) ?_
 refine zr ?_
 refine zD ?_
 refine z3M rfl ?_
 refine run_skip ?_
 refine zD ?_
 refine zH ?_
 refine zF ?_
 refine z6G [(3,on),(4,.bool false),(5,.int .i64 2)] [0,1] [row on 1 (([[34],[92,34],[92],[92,92]]:List (List UInt8)).map eStr),box b [.int .u32 x0,.int .i32 x1,.int .u32 x2,rif,on]] (vcons rfl (vcons rfl (vcons rfl vnil))) (by decide) rfl ?_
 refine zH ?_
 refine zH ?_
 refine z8 ?_
 refine oy rfl rfl (z1Z rfl) ?_
 refine oy rfl rfl (z1Z rfl) ?_
 refine oy rfl rfl (z4M (kd:=.i64) (i:=2) 0 Tryz.runUnderlying62 Tryz.sizeOf9 rfl rfl rfl z1d (by decide) (by decide)) ?_
 refine oy rfl rfl (z6a (i:=(2:Int).toNat) 0 Tryz.isAgg9 rfl rfl z1d rfl) ?_
 refine oy rfl rfl (z8N rfl Tryz.runUnderlying9 rfl) ?_
 refine oy rfl rfl (y_neq rfl rfl) ?_
 refine zr ?_
 refine zD ?_
 refine z53 rfl ?_
 refine run_skip ?_
 refine zD ?_
 refine zH ?_
 refine z8 ?_
 refine oy rfl rfl (z1Z rfl) ?_
 refine oy rfl rfl (z1Z rfl) ?_
 refine oy rfl rfl (y_add rfl rfl) ?_
 refine oy rfl rfl (z4M (kd:=.i64) (i:=3) 0 Tryz.runUnderlying62 Tryz.sizeOf9 rfl rfl rfl z1d (by decide) (by decide)) ?_
 refine oy rfl rfl (z6a (i:=(3:Int).toNat) 0 Tryz.isAgg9 rfl rfl z1d rfl) ?_
 refine oy rfl rfl (z8N rfl Tryz.runUnderlying9 rfl) ?_
 refine oy rfl rfl (y_neq rfl rfl) ?_
 refine zr ?_
 refine zD ?_
 refine z3M rfl ?_
 refine z8 ?_
 refine oy rfl rfl (z1Y rfl) ?_
 refine zr ?_
 refine zS ?_
 refine zD ?_
 refine z8 ?_
 refine oy rfl rfl (z1Z rfl) ?_
 refine oy rfl rfl (y_add rfl rfl) ?_
 refine oy rfl rfl (z1Y rfl) ?_
 refine zr ?_
 refine z9k ?_
 refine zH ?_
 refine zH ?_
 refine z8 ?_
 refine oy rfl rfl (z1Z rfl) ?_
 refine oy rfl rfl (z1Z rfl) ?_
 refine oy rfl rfl ((y_len 0 rfl Tryz.runUnderlying62 rfl rfl z1d).to (v_len eStr _)) ?_
 refine oy rfl rfl (y_lss rfl rfl) ?_
 refine zr ?_
 refine zD ?_
 refine z53 rfl ?_
 refine z1h _ rfl ?_
 refine zD ?_
 refine z6G [(3,on),(4,.bool false)] [0,1] [row on 1 (([[34],[92,34],[92],[92,92]]:List (List UInt8)).map eStr),box b [.int .u32 x0,.int .i32 x1,.int .u32 x2,rif,on]] (vcons rfl (vcons rfl vnil)) (by decide) rfl ?_
 refine zH ?_
 refine zH ?_
 refine z8 ?_
 refine oy rfl rfl (z1Z rfl) ?_
 refine zr ?_
 refine zD ?_
 refine z53 rfl ?_
 refine run_skip ?_
 refine zD ?_
 refine zH ?_
 refine z8 ?_
 refine oy rfl rfl (z1Z rfl) ?_
 refine oy rfl rfl ((y_len 0 rfl Tryz.runUnderlying62 rfl rfl z1d).to (v_len eStr _)) ?_
 refine oy rfl rfl (y_quo rfl rfl (by decide)) ?_
 refine ot rfl rfl (zog (n:=2) Tryz.runUnderlying62 Tryz.typeInfo9 rfl Tryz.zeroValue9 rfl (by decide) rfl rfl (by decide) (by decide) (by decide)) ?_
 rintro _ _ ⟨⟨ta,tc,rfl⟩,rfl⟩
 refine oy rfl rfl (z9Q (cells:=(tab0++[Value.slice ta 0 tc]).toArray) [(1,.slice ta 0 tc)] [(1,[.slice ta 0 tc])] Tryz.zeroValue277 Tryz.runUnderlying277 (zdD Tryz.sizeOf275 (zdD Tryz.sizeOf62 zlk)) rfl rfl (by kernel_rfl)) ?_
 refine ot rfl rfl (zaL Tryz.zeroValue277) ?_
 rintro _ _ ⟨c,rfl,rfl⟩
 refine ot rfl rfl (z9R (b:=c) (c:=tab0++[.slice ta 0 tc]) 3 Tryz.sizeOf277 rfl rfl rfl (by kernel_rfl) (by kernel_rfl) (zsF rfl)) ?_
 rintro _ _ ⟨rfl,rfl⟩
 refine zr ?_
 refine zD ?_
 refine zH ?_
 refine zH ?_
 refine z8 ?_
 refine oy rfl rfl (z1Z rfl) ?_
 refine oy rfl rfl ((y_len 0 rfl Tryz.runUnderlying62 rfl rfl z1d).to (v_len eStr _)) ?_
 refine oy rfl rfl (y_sub rfl rfl) ?_
 refine oy rfl rfl (z1Y rfl) ?_
 refine zr ?_
 refine zD ?_
 refine zF ?_
 refine ziu 4 ?_
 refine zH ?_
 refine zH ?_
 refine z8 ?_
 refine oy rfl rfl (z1Z rfl) ?_
 refine oy rfl rfl (y_geq rfl rfl) ?_
 refine zr ?_
 refine zD ?_
 refine z3M rfl ?_
 refine run_skip ?_
 refine zD ?_
 refine zH ?_
 refine zF ?_
 refine z6G [(3,on),(11,boxP c 0),(12,.int .i64 2)] [0,1,2,3] [row on 1 (([[34],[92,34],[92],[92,92]]:List (List UInt8)).map eStr),box b [.int .u32 x0,.int .i32 x1,.int .u32 x2,rif,on],row (.slice ta 0 tc) 1 (([]:List (List UInt8)).map eStr),box c (tab0++[Value.slice ta 0 tc])] (vcons rfl (vcons rfl (vcons rfl vnil))) (by decide) rfl ?_
 refine zH ?_
 refine z8 ?_
 refine oy rfl rfl (z1Z rfl) ?_
 refine oy rfl rfl (z1Z rfl) ?_
 refine oy rfl rfl (z4M (kd:=.i64) (i:=2) 0 Tryz.runUnderlying62 Tryz.sizeOf9 rfl rfl rfl z1d (by decide) (by decide)) ?_
 refine oy rfl rfl (z6a (i:=(2:Int).toNat) 0 Tryz.isAgg9 rfl rfl z1d rfl) ?_
 refine oy rfl rfl (z80 (b:=92) (kd:=.i64) (i:=0) Tryz.runUnderlying9 rfl rfl (by decide) rfl) ?_
 refine oy rfl rfl (z1Y rfl) ?_
 refine zr ?_
 refine zD ?_
 refine zH ?_
 refine z8 ?_
 refine oy rfl rfl (z1Z rfl) ?_
 refine oy rfl rfl (z1Z rfl) ?_
 refine oy rfl rfl (y_add rfl rfl) ?_
 refine oy rfl rfl (z4M (kd:=.i64) (i:=3) 0 Tryz.runUnderlying62 Tryz.sizeOf9 rfl rfl rfl z1d (by decide) (by decide)) ?_
 refine oy rfl rfl (z6a (i:=(3:Int).toNat) 0 Tryz.isAgg9 rfl rfl z1d rfl) ?_
 refine oy rfl rfl (z1Y rfl) ?_
 refine zr ?_
 refine zD ?_
 refine zH ?_
 refine zH ?_
 refine z8 ?_
 refine oy rfl rfl (z1Z rfl) ?_
 refine oy rfl rfl (z1H (sz:=255) Tryz.runUnderlying277 rfl Tryz.sizeOf275 rfl) ?_
 refine oy rfl rfl (z7z (n:=92) Tryz.runUnderlying275 Tryz.sizeOf58 rfl rfl (by decide)) ?_
 refine oy rfl rfl (z3I (r:=.slice none 0 0) 3 Tryz.isAgg58 rfl rfl (by kernel_rfl)) ?_
 refine oy rfl rfl (znE Tryz.runUnderlying58 rfl rfl) ?_
 refine zr ?_
 refine zD ?_
 refine z3M rfl ?_
 refine z8 ?_
 refine oy rfl rfl (z1H (sz:=0) Tryz.runUnderlying277 rfl Tryz.sizeOf62 rfl) ?_
 refine oy rfl rfl (z3I (r:=.slice ta 0 tc) 3 Tryz.isAgg62 rfl rfl (by kernel_rfl)) ?_
 refine oy rfl rfl (z1Z rfl) ?_
 refine ot rfl rfl (t_lit [.int .u8 ((92:UInt8).toNat:Int)] Tryz.runUnderlying58 Tryz.sizeOf5 Tryz.zeroValue5 rfl (by decide) (by decide) rfl (by simp [Value.cells,boxP])) ?_
 rintro p0 _ ⟨rfl,_⟩
 refine zB (retell 4 (g:=row p0 1 (u8c [92])) rfl rfl) ?_
 refine oy rfl rfl (y_b2s (l:=[92]) 4 Tryz.runUnderlying58 Tryz.runUnderlying5 Tryz.runUnderlying9 rfl rfl z1d) ?_
 refine ot rfl rfl (t_lit [.string (bs [92])] Tryz.runUnderlying62 Tryz.sizeOf9 Tryz.zeroValue9 rfl (by decide) (by decide) rfl (by simp [Value.cells,boxP])) ?_
 rintro q0 _ ⟨rfl,_⟩
 refine zB (retell 5 (g:=row q0 1 (([[92]]:List (List UInt8)).map eStr)) rfl rfl) ?_
 have hr0:([]:List (List UInt8)).length+([[92]]:List (List UInt8)).length≤4294967296:=by decide
 refine ot rfl rfl (z1U (es:=1) (cells:=([]:List (List UInt8)).map eStr) 2 rfl Tryz.runUnderlying62 rfl Tryz.runUnderlying62 (.inr ⟨_,rfl⟩) Tryz.typeInfo9 rfl (by decide) Tryz.zeroValue9 rfl rfl rfl rfl (z1C 5 rfl z1d (z42 zfB _)) (z1T hr0 (by decide)) (z2H hr0)) ?_
 rintro t0 _ rfl
 refine zB (retell 2 (g:=row t0 1 (([[92]]:List (List UInt8)).map eStr)) rfl rfl) ?_
 refine zcx 2 rfl z1d (fun hs0 hso0=>?_)
 refine oy rfl rfl (z1H (sz:=0) Tryz.runUnderlying277 rfl Tryz.sizeOf62 rfl) ?_
 have hs0O:=hso0
 refine ot rfl rfl (z55 (b:=c) (off:=0+256) (n:=1) (v:=t0) (vs:=tab0++[Value.slice ta 0 tc]) 3 Tryz.sizeOf62 rfl rfl rfl (by rw [hs0]; rfl) (by simp [tab0]) (by simp [hs0,hs0O])) ?_
 rintro _ _ ⟨rfl,rfl⟩
 refine zB (retell 3 (g:=box c ((tab0++[Value.slice ta 0 tc]).set (0+256) t0)) rfl (congrArg (box c) (zla _ _ hs0 (by simp [tab0])))) ?_
 refine zr ?_
 refine zD ?_
 refine z8 ?_
 refine oy rfl rfl (z1Z rfl) ?_
 refine oy rfl rfl (z1Z rfl) ?_
 refine ot rfl rfl (t_s2b (l:=[92,92]) Tryz.underlying9 Tryz.underlying58 Tryz.underlying5 rfl (by decide)) ?_
 rintro _ _ ⟨⟨a0,c0,rfl⟩,rfl⟩
 refine oy rfl rfl (z1H (sz:=255) Tryz.runUnderlying277 rfl Tryz.sizeOf275 rfl) ?_
 refine oy rfl rfl (z7z (n:=92) Tryz.runUnderlying275 Tryz.sizeOf58 rfl rfl (by decide)) ?_
 have hu0:(Value.slice (some a0) 2 c0).cells = #[Value.slice (some a0) 2 c0]:=rfl
 have hu0O:(Value.slice (some a0) 2 c0).oneCell'=true:=rfl
 refine ot rfl rfl (z55 (b:=c) (off:=0+92*1) (n:=1) (v:=(.slice (some a0) 2 c0)) (vs:=(tab0++[Value.slice ta 0 tc]).set (0+256) t0) 3 Tryz.sizeOf58 rfl rfl rfl (by rw [hu0]; rfl) (by simp [tab0]) (by simp [hu0,hu0O])) ?_
 rintro _ _ ⟨rfl,rfl⟩
 refine zB (retell 3 (g:=box c (((tab0++[Value.slice ta 0 tc]).set (0+256) t0).set (0+92*1) (.slice (some a0) 2 c0))) rfl (congrArg (box c) (zla _ _ hu0 (by simp [tab0])))) ?_
 refine zr ?_
 refine zS ?_
 refine zD ?_
 refine z8 ?_
 refine oy rfl rfl (z1Z rfl) ?_
 refine oy rfl rfl (y_sub rfl rfl) ?_
 refine oy rfl rfl (z1Y rfl) ?_
 refine zr ?_
 refine z9k ?_
 refine zH ?_
 refine zH ?_
 refine z8 ?_
 refine oy rfl rfl (z1Z rfl) ?_
 refine oy rfl rfl (y_geq rfl rfl) ?_
 refine zr ?_
 refine zD ?_
 refine z3M rfl ?_
 refine run_skip ?_
 refine zD ?_
 refine zH ?_
 refine zF ?_
 refine z6G [(3,on),(11,boxP c 0),(12,.int .i64 0)] [0,1,2,3,6] [row on 1 (([[34],[92,34],[92],[92,92]]:List (List UInt8)).map eStr),box b [.int .u32 x0,.int .i32 x1,.int .u32 x2,rif,on],row t0 1 (([[92]]:List (List UInt8)).map eStr),box c (((tab0++[Value.slice ta 0 tc]).set (0+256) t0).set (0+92*1) (.slice (some a0) 2 c0)),row (.slice (some a0) 2 c0) 1 (u8c [92,92])] (vcons rfl (vcons rfl (vcons rfl vnil))) (by decide) rfl ?_
 refine zH ?_
 refine z8 ?_
 refine oy rfl rfl (z1Z rfl) ?_
 refine oy rfl rfl (z1Z rfl) ?_
 refine oy rfl rfl (z4M (kd:=.i64) (i:=0) 0 Tryz.runUnderlying62 Tryz.sizeOf9 rfl rfl rfl z1d (by decide) (by decide)) ?_
 refine oy rfl rfl (z6a (i:=(0:Int).toNat) 0 Tryz.isAgg9 rfl rfl z1d rfl) ?_
 refine oy rfl rfl (z80 (b:=34) (kd:=.i64) (i:=0) Tryz.runUnderlying9 rfl rfl (by decide) rfl) ?_
 refine oy rfl rfl (z1Y rfl) ?_
 refine zr ?_
 refine zD ?_
 refine zH ?_
 refine z8 ?_
 refine oy rfl rfl (z1Z rfl) ?_
 refine oy rfl rfl (z1Z rfl) ?_
 refine oy rfl rfl (y_add rfl rfl) ?_
 refine oy rfl rfl (z4M (kd:=.i64) (i:=1) 0 Tryz.runUnderlying62 Tryz.sizeOf9 rfl rfl rfl z1d (by decide) (by decide)) ?_
 refine oy rfl rfl (z6a (i:=(1:Int).toNat) 0 Tryz.isAgg9 rfl rfl z1d rfl) ?_
 refine oy rfl rfl (z1Y rfl) ?_
 refine zr ?_
 refine zD ?_
 refine zH ?_
 refine zH ?_
 refine z8 ?_
 refine oy rfl rfl (z1Z rfl) ?_
 refine oy rfl rfl (z1H (sz:=255) Tryz.runUnderlying277 rfl Tryz.sizeOf275 rfl) ?_
 refine oy rfl rfl (z7z (n:=34) Tryz.runUnderlying275 Tryz.sizeOf58 rfl rfl (by decide)) ?_
 refine oy rfl rfl (z3I (r:=.slice none 0 0) 3 Tryz.isAgg58 rfl rfl (by kernel_rfl)) ?_
 refine oy rfl rfl (znE Tryz.runUnderlying58 rfl rfl) ?_
 refine zr ?_
 refine zD ?_
 refine z3M rfl ?_
 refine z8 ?_
 refine oy rfl rfl (z1H (sz:=0) Tryz.runUnderlying277 rfl Tryz.sizeOf62 rfl) ?_
 refine oy rfl rfl (z3I (r:=t0) 3 Tryz.isAgg62 rfl rfl (by kernel_rfl)) ?_
 refine oy rfl rfl (z1Z rfl) ?_
 refine ot rfl rfl (t_lit [.int .u8 ((34:UInt8).toNat:Int)] Tryz.runUnderlying58 Tryz.sizeOf5 Tryz.zeroValue5 rfl (by decide) (by decide) rfl (by simp [Value.cells,boxP])) ?_
 rintro p1 _ ⟨rfl,_⟩
 refine zB (retell 5 (g:=row p1 1 (u8c [34])) rfl rfl) ?_
 refine oy rfl rfl (y_b2s (l:=[34]) 5 Tryz.runUnderlying58 Tryz.runUnderlying5 Tryz.runUnderlying9 rfl rfl z1d) ?_
 refine ot rfl rfl (t_lit [.string (bs [34])] Tryz.runUnderlying62 Tryz.sizeOf9 Tryz.zeroValue9 rfl (by decide) (by decide) rfl (by simp [Value.cells,boxP])) ?_
 rintro q1 _ ⟨rfl,_⟩
 refine zB (retell 6 (g:=row q1 1 (([[34]]:List (List UInt8)).map eStr)) rfl rfl) ?_
 have hr1:([[92]]:List (List UInt8)).length+([[34]]:List (List UInt8)).length≤4294967296:=by decide
 refine ot rfl rfl (z1U (es:=1) (cells:=([[92]]:List (List UInt8)).map eStr) 2 rfl Tryz.runUnderlying62 rfl Tryz.runUnderlying62 (.inr ⟨_,rfl⟩) Tryz.typeInfo9 rfl (by decide) Tryz.zeroValue9 rfl rfl rfl rfl (z1C 6 rfl z1d (z42 zfB _)) (z1T hr1 (by decide)) (z2H hr1)) ?_
 rintro t1 _ rfl
 refine zB (retell 2 (g:=row t1 1 (([[92],[34]]:List (List UInt8)).map eStr)) rfl rfl) ?_
 refine zcx 2 rfl z1d (fun hs1 hso1=>?_)
 refine oy rfl rfl (z1H (sz:=0) Tryz.runUnderlying277 rfl Tryz.sizeOf62 rfl) ?_
 have hs1O:=hso1
 refine ot rfl rfl (z55 (b:=c) (off:=0+256) (n:=1) (v:=t1) (vs:=((tab0++[Value.slice ta 0 tc]).set (0+256) t0).set (0+92*1) (.slice (some a0) 2 c0)) 3 Tryz.sizeOf62 rfl rfl rfl (by rw [hs1]; rfl) (by simp [tab0]) (by simp [hs1,hs1O])) ?_
 rintro _ _ ⟨rfl,rfl⟩
 refine zB (retell 3 (g:=box c ((((tab0++[Value.slice ta 0 tc]).set (0+256) t0).set (0+92*1) (.slice (some a0) 2 c0)).set (0+256) t1)) rfl (congrArg (box c) (zla _ _ hs1 (by simp [tab0])))) ?_
 refine zr ?_
 refine zD ?_
 refine z8 ?_
 refine oy rfl rfl (z1Z rfl) ?_
 refine oy rfl rfl (z1Z rfl) ?_
 refine ot rfl rfl (t_s2b (l:=[92,34]) Tryz.underlying9 Tryz.underlying58 Tryz.underlying5 rfl (by decide)) ?_
 rintro _ _ ⟨⟨a1,c1,rfl⟩,rfl⟩
 refine oy rfl rfl (z1H (sz:=255) Tryz.runUnderlying277 rfl Tryz.sizeOf275 rfl) ?_
 refine oy rfl rfl (z7z (n:=34) Tryz.runUnderlying275 Tryz.sizeOf58 rfl rfl (by decide)) ?_
 have hu1:(Value.slice (some a1) 2 c1).cells = #[Value.slice (some a1) 2 c1]:=rfl
 have hu1O:(Value.slice (some a1) 2 c1).oneCell'=true:=rfl
 refine ot rfl rfl (z55 (b:=c) (off:=0+34*1) (n:=1) (v:=(.slice (some a1) 2 c1)) (vs:=(((tab0++[Value.slice ta 0 tc]).set (0+256) t0).set (0+92*1) (.slice (some a0) 2 c0)).set (0+256) t1) 3 Tryz.sizeOf58 rfl rfl rfl (by rw [hu1]; rfl) (by simp [tab0]) (by simp [hu1,hu1O])) ?_
 rintro _ _ ⟨rfl,rfl⟩
 refine zB (retell 3 (g:=box c (((((tab0++[Value.slice ta 0 tc]).set (0+256) t0).set (0+92*1) (.slice (some a0) 2 c0)).set (0+256) t1).set (0+34*1) (.slice (some a1) 2 c1))) rfl (congrArg (box c) (zla _ _ hu1 (by simp [tab0])))) ?_
 refine zr ?_
 refine zS ?_
 refine zD ?_
 refine z8 ?_
 refine oy rfl rfl (z1Z rfl) ?_
 refine oy rfl rfl (y_sub rfl rfl) ?_
 refine oy rfl rfl (z1Y rfl) ?_
 refine zr ?_
 refine z9k ?_
 refine zH ?_
 refine zH ?_
 refine z8 ?_
 refine oy rfl rfl (z1Z rfl) ?_
 refine oy rfl rfl (y_geq rfl rfl) ?_
 refine zr ?_
 refine zD ?_
 refine z53 rfl ?_
 refine z1h _ rfl ?_
 refine zD ?_
 refine z6G [(11,boxP c 0)] [0,1,2,3,4,7] [row on 1 (([[34],[92,34],[92],[92,92]]:List (List UInt8)).map eStr),box b [.int .u32 x0,.int .i32 x1,.int .u32 x2,rif,on],row t1 1 (([[92],[34]]:List (List UInt8)).map eStr),box c (((((tab0++[Value.slice ta 0 tc]).set (0+256) t0).set (0+92*1) (.slice (some a0) 2 c0)).set (0+256) t1).set (0+34*1) (.slice (some a1) 2 c1)),row (.slice (some a0) 2 c0) 1 (u8c [92,92]),row (.slice (some a1) 2 c1) 1 (u8c [92,34])] (vcons rfl vnil) (by decide) rfl ?_
 refine z3x (retell 3 (g:=box c (tabV (.slice (some a0) 2 c0) (.slice (some a1) 2 c1) t1)) rfl (congrArg (box c) (by kernel_rfl))) ?_
 refine zH ?_
 refine z8 ?_
 refine oy rfl rfl (zgc Tryz.runUnderlying278 rfl rfl) ?_
 refine oy rfl rfl (z1Y rfl) ?_
 refine zr ?_
 refine zD ?_
 refine zA ?_
 refine zax [2] [.iface 278 (boxP c 0)] [0,1,3,4,5,2] [row on 1 (([[34],[92,34],[92],[92,92]]:List (List UInt8)).map eStr),box b [.int .u32 x0,.int .i32 x1,.int .u32 x2,rif,on],box c (tabV (.slice (some a0) 2 c0) (.slice (some a1) 2 c1) t1),row (.slice (some a0) 2 c0) 1 (u8c [92,92]),row (.slice (some a1) 2 c1) 1 (u8c [92,34]),row t1 1 (([[92],[34]]:List (List UInt8)).map eStr)] Tryz.results206 rfl (by decide) rfl ?_
 exact ⟨_,_,_,_,rfl,rfl⟩
theorem zjM (b:Nat) (on rif:Value) (x0 x1 x2:Int):Meets Tryz.prog 166 [boxP b 0] [row on 1 (([[34],[92,34],[92],[92,92]]:List (List UInt8)).map eStr),box b [.int .u32 x0,.int .i32 x1,.int .u32 x2,rif,on]] (fun v G=>v = .tuple #[]∧∃ c v1 v2 v3,G=replA b x0 x1 x2 c v1 v2 v3):=by
 refine zN Tryz.func166 rfl Tryz.ntmps166 rfl (fun w0 o0=>?_)
 refine zH ?_
 refine z8 ?_
 refine oy rfl rfl (z1Z rfl) ?_
 refine oy rfl rfl (z1Z rfl) ?_
 refine ot rfl rfl (zbx (vs:=[boxP b 0]) (cs:=[]) [(0,2),(1,2)] rfl Tryz.call206 rfl (zpz b on rif x0 x1 x2) (z2f 0 rfl (z2f 1 rfl z3r)) rfl (.inl rfl)) ?_
 rintro _ _ ⟨_,⟨c,v1,v2,v3,rfl,rfl⟩,rfl⟩
 refine oy rfl rfl (z6J rfl) ?_
 refine oy rfl rfl (z1H (sz:=0) Tryz.runUnderlying227 rfl Tryz.sizeOf225 rfl) ?_
 refine ot rfl rfl (z55 (b:=b) (off:=3) 3 Tryz.sizeOf225 rfl rfl rfl rfl (by simp) (by simp [Value.cells,Value.oneCell',boxP])) ?_
 rintro _ _ ⟨rfl,rfl⟩
 refine zB (retell 3 (g:=box b [.int .u32 x0,.int .i32 x1,.int .u32 x2,.iface 278 (boxP c 0),on]) rfl rfl) ?_
 refine zr ?_
 refine zD ?_
 refine z8 ?_
 refine oy rfl rfl (z1Z rfl) ?_
 refine oy rfl rfl (z6J rfl) ?_
 refine oy rfl rfl (z1H (sz:=0) Tryz.runUnderlying227 rfl Tryz.sizeOf62 rfl) ?_
 refine ot rfl rfl (z55 (b:=b) (off:=4) 3 Tryz.sizeOf62 rfl rfl rfl rfl (by simp) (by simp [Value.cells,Value.oneCell',boxP])) ?_
 rintro _ _ ⟨rfl,rfl⟩
 refine zB (retell 3 (g:=box b [.int .u32 x0,.int .i32 x1,.int .u32 x2,.iface 278 (boxP c 0),.slice none 0 0]) rfl rfl) ?_
 refine zr ?_
 refine z3d ?_
 refine zax [] [] [3,4,5,6,7] (replA b x0 x1 x2 c v1 v2 v3) Tryz.results166 rfl (by decide) rfl ?_
 exact ⟨rfl,_,_,_,_,rfl⟩
end Go.Proofs.YtcmaoifiiigggaaGreatDoor
namespace Go.Proofs.YtcmaoifiiigggaaGreatDoor
open Go.Abs
set_option maxRecDepth 20000
set_option maxHeartbeats 4000000
theorem cond3 {α:Type} {p q:Prop} [Decidable p] [Decidable q] {a b c:Option α} {r:α} (h:cond (decide p) a (cond (decide q) b c)=some r):(p∧a=some r)∨(q∧b=some r)∨((¬ p∧¬ q)∧c=some r):=by
 by_cases hp:p
 ·simp [hp] at h; exact .inl ⟨hp,h⟩
 ·by_cases hq:q
  ·simp [hp,hq] at h; exact .inr (.inl ⟨hq,h⟩)
  ·simp [hp,hq] at h; exact .inr (.inr ⟨⟨hp,hq⟩,h⟩)
theorem zki (c:UInt8):0≤(c.toNat:Int)∧(c.toNat:Int)<((256:Nat):Int):=by
 have:=c.toNat_lt
 omega
theorem znk {a c t:Value} {x:UInt8} (h:x=34):(tabV a c t)[0+(x.toNat:Int).toNat*1]? = some c:=by subst h; rfl
theorem znl {a c t:Value} {x:UInt8} (h:x=92):(tabV a c t)[0+(x.toNat:Int).toNat*1]? = some a:=by subst h; rfl
theorem zqy {a c t:Value} {x:UInt8} (h:¬ x=34∧¬ x=92):(tabV a c t)[0+(x.toNat:Int).toNat*1]? = some (.slice none 0 0):=by
 have h1:x.toNat≠34:=fun e=>h.1 (UInt8.toNat_inj.1 e)
 have h2:x.toNat≠92:=fun e=>h.2 (UInt8.toNat_inj.1 e)
 have h3:x.toNat<256:=x.toNat_lt
 simp only [Int.toNat_natCast,Nat.zero_add,Nat.mul_one]
 unfold tabV
 rw [List.getElem?_append_left (by rw [List.length_set,List.length_set]; unfold tab0; rw [List.length_replicate]; exact h3),List.getElem?_set_ne (Ne.symm h1),List.getElem?_set_ne (Ne.symm h2)]
 unfold tab0
 rw [List.getElem?_replicate,if_pos h3]
theorem tab_t (a c t:Value):(tabV a c t)[256]? = some t:=rfl
section
variable {V : VF} {H : List HA} {P : Program} {d : Option Nat} {ty : TypeId} {pos : String} {af : Array Edge} {g : Option (Nat × Bool)}
theorem znD {T el U:TypeId} {x y:Operand} (hu:∀ w,(underlying T).run P w = .ok (.slice el) w)
  (hx:V.ev x=some (.slice none 0 0)) (hy:V.ev y=some (.slice none 0 0)):OpY P ⟨d,.binOp .neq T x y U,ty,pos,af,g⟩ V H (.bool false):=by
 intro ρ w o hf _ _
 simp [execOp,hf x _ hx,hf y _ hy,eqGuard,binOp,z7w hu]
theorem zlc {T el U:TypeId} {x y:Operand} {v:Value} {es:Nat} {cells:List (List Value)} {h:HA} (m:Nat) (hu:∀ w,(underlying T).run P w = .ok (.slice el) w)
    (hx:V.ev x=some v) (hy:V.ev y=some (.slice none 0 0)) (hm:H[m]? = some h) (hr:Reads h v es cells) (hne:cells≠[]) :
    OpY P ⟨d,.binOp .neq T x y U,ty,pos,af,g⟩ V H (.bool true):=by
  intro ρ w o hf hbd hs
  obtain ⟨a,cap,e1,e2,e3,e4,e5⟩:=hr.is w o m (hs m h hm)
  subst e1
  have ha:a.isNone=false:=by
    cases a with
    | some a=>rfl
    | none =>
      have:=e4 rfl
      exact absurd (List.length_eq_zero_iff.1 (by omega)) hne
  simp [execOp,hf x _ hx,hf y _ hy,eqGuard,binOp,z7w hu,ha]
end
def z1i (s_1:(List UInt8)):(Int×Bool×Int)→Option (Lp (Int×Bool×Int) (Lp (Int×Bool) ((List UInt8)))):=
 fun (newSize_8,anyChanges_9,s_10)=>
  cond (decide (s_10<2))
   (bindJ (S:=Int×Bool)
    (idx ([[92],[34]]:List (List UInt8)) s_10 fun x22=>
    obind (zlj s_1 x22) fun r23=>
    cond (decide (r23≠0))
     (idx x22 0 fun c26=>
     cond (decide (c26=34))
      (some (.go ((IntKind.i64.wrap (newSize_8+(IntKind.i64.wrap (r23*1)))),true)))
     (cond (decide (c26=92))
      (some (.go ((IntKind.i64.wrap (newSize_8+(IntKind.i64.wrap (r23*1)))),true)))
      (some (.go ((IntKind.i64.wrap (newSize_8+(IntKind.i64.wrap (r23*(-1))))),true)))))
     (some (.go (newSize_8,anyChanges_9))))
   (fun (newSize_16,anyChanges_17)=>
    some (.go (newSize_16,anyChanges_17,(IntKind.i64.wrap (s_10+1))))))
   (some (.stop (.go (newSize_8,anyChanges_9))))
def z1F (s_1:(List UInt8)):(Int×Bool×Int)→Option (Lp (Int×Bool×Int) (Lp (Int×Bool) ((List UInt8)))):=
 fun (newSize_27,anyChanges_28,i_29)=>
  cond (decide (i_29<(s_1.length:Int)))
   (bindJ (S:=Int×Bool)
    (idx s_1 i_29 fun c41=>
    cond (decide (c41=34))
     (some (.go ((IntKind.i64.wrap (newSize_27+1)),true)))
    (cond (decide (c41=92))
     (some (.go ((IntKind.i64.wrap (newSize_27+1)),true)))
     (some (.go (newSize_27,anyChanges_28)))))
   (fun (newSize_35,anyChanges_36)=>
    some (.go (newSize_35,anyChanges_36,(IntKind.i64.wrap (i_29+1))))))
   (some (.stop (.go (newSize_27,anyChanges_28))))
def z1V (s_1:(List UInt8)):(Int×Int×(List UInt8))→Option (Lp (Int×Int×(List UInt8)) (Lp ((List UInt8)) ((List UInt8)))):=
 fun (j_50,i_51,x_52)=>
  cond (decide (i_51<(s_1.length:Int)))
   (bindJ (S:=Int×(List UInt8))
    (idx s_1 i_51 fun c64=>
    cond (decide (c64=34))
     (need (0≤j_50∧j_50≤(x_52.length:Int)∧(x_52.length:Int)≤(x_52.length:Int)) (
     some (.go ((IntKind.i64.wrap (j_50+((min ([92,34]:List UInt8).length ((((x_52.length:Int)).toNat) - j_50.toNat):Nat):Int))),(cpy x_52 j_50.toNat (((x_52.length:Int)).toNat) ([92,34]:List UInt8))))))
    (cond (decide (c64=92))
     (need (0≤j_50∧j_50≤(x_52.length:Int)∧(x_52.length:Int)≤(x_52.length:Int)) (
     some (.go ((IntKind.i64.wrap (j_50+((min ([92,92]:List UInt8).length ((((x_52.length:Int)).toNat) - j_50.toNat):Nat):Int))),(cpy x_52 j_50.toNat (((x_52.length:Int)).toNat) ([92,92]:List UInt8))))))
     (idx x_52 j_50 fun x67=>
     some (.go ((IntKind.i64.wrap (j_50+1)),(x_52.set j_50.toNat c64))))))
   (fun (j_58,x_59)=>
    some (.go (j_58,(IntKind.i64.wrap (i_51+1)),x_59))))
   (some (.stop (.go x_52)))
def z3O (n:Nat) (s_1:(List UInt8)):Option ((List UInt8)):=
 bindJ (S:=Int×Bool)
  (cond (decide (16≤(s_1.length:Int)))
   (iter (z1i s_1) n ((s_1.length:Int),false,0))
   (iter (z1F s_1) n ((s_1.length:Int),false,0)))
 (fun (newSize_1,anyChanges_2)=>
  cond (!anyChanges_2)
   (some s_1)
   (need (0≤newSize_1∧newSize_1≤4294967296) (
   bindJ (S:=(List UInt8))
    (iter (z1V s_1) n (0,0,(List.replicate newSize_1.toNat (0:UInt8))))
   (fun x_45=>
    some x_45))))
theorem z6p (n:Nat) (s_1:(List UInt8)) (r_0b:Nat) (r_0a:Value) (r_0c:Value) (r_0t:Value) {r:(List UInt8)} (h:z3O n s_1=some r) :
  Meets Tryz.prog 303 [boxP r_0b 0,.string (bs s_1)] [ro r_0a 1 (([92,92]:List UInt8).map eB8),ro r_0c 1 (([92,34]:List UInt8).map eB8),ro r_0t 1 (([[92],[34]]:List (List UInt8)).map eStr),box r_0b (tabV r_0a r_0c r_0t)] (fun v G=>v = .string (bs r)∧G=[]):=by
 refine zN Tryz.func303 rfl Tryz.ntmps303 rfl (fun w0 o0=>?_)
 refine zH ?_
 refine z8 ?_
 refine oy rfl rfl (z1Y rfl) ?_
 refine zr ?_
 refine zD ?_
 refine zH ?_
 refine z8 ?_
 refine oy rfl rfl (z1Z rfl) ?_
 refine oy rfl rfl (z8N rfl Tryz.runUnderlying9 rfl) ?_
 refine oy rfl rfl (z1Y rfl) ?_
 refine zr ?_
 refine zD ?_
 refine zH ?_
 refine z8 ?_
 refine oy rfl rfl (z1Y rfl) ?_
 refine zr ?_
 refine zD ?_
 obtain ⟨o3,h,ho4⟩:=z8i h
 refine zdM ((Int×Bool)×(Unit)) (fun σ=>[(5,.int .i64 σ.1.1),(6,.bool σ.1.2),(0,boxP r_0b 0),(1,.string (bs s_1))]) (fun σ=>[box r_0b (tabV r_0a r_0c r_0t),ro r_0c 1 (([92,34]:List UInt8).map eB8),ro r_0a 1 (([92,92]:List UInt8).map eB8),ro r_0t 1 (([[92],[34]]:List (List UInt8)).map eStr)]) (fun σ=>o3 = .go σ.1) (fun L6 hL5=>?_) ?_
 · -- the ways through
  refine zH ?_
  refine z8 ?_
  refine oy rfl rfl (z1Z rfl) ?_
  refine oy rfl rfl (z6J rfl) ?_
  refine oy rfl rfl (z1H (sz:=0) Tryz.runUnderlying277 rfl Tryz.sizeOf62 rfl) ?_
  refine oy rfl rfl (z3I 3 Tryz.isAgg62 rfl rfl (tab_t _ _ _)) ?_
  refine oy rfl rfl ((y_len 2 rfl Tryz.runUnderlying62 rfl rfl z3N).to (v_len eStr _)) ?_
  refine oy rfl rfl (y_mul rfl rfl) ?_
  refine oy rfl rfl (z1Z rfl) ?_
  refine oy rfl rfl (z8N rfl Tryz.runUnderlying9 rfl) ?_
  refine oy rfl rfl (y_leq rfl rfl) ?_
  refine zr ?_
  refine zD ?_
  refine z8D (decide (16≤(s_1.length:Int))) rfl (fun hc7=>?_) (fun hc7=>?_)
  ·replace h:=z2F h hc7
   refine zH ?_
   refine z6G [(0,boxP r_0b 0),(1,.string (bs s_1)),(5,.int .i64 (s_1.length:Int)),(6,.bool false)] [0,1,2,3] [ro r_0a 1 (([92,92]:List UInt8).map eB8),ro r_0c 1 (([92,34]:List UInt8).map eB8),ro r_0t 1 (([[92],[34]]:List (List UInt8)).map eStr),box r_0b (tabV r_0a r_0c r_0t)] (qv4 rfl rfl rfl rfl) (by decide) rfl ?_
   refine z8 ?_
   refine oy rfl rfl (z1Z rfl) ?_
   refine oy rfl rfl (z6J rfl) ?_
   refine oy rfl rfl (z1H (sz:=0) Tryz.runUnderlying277 rfl Tryz.sizeOf62 rfl) ?_
   refine oy rfl rfl (z3I 3 Tryz.isAgg62 rfl rfl (tab_t _ _ _)) ?_
   refine oy rfl rfl ((y_len 2 rfl Tryz.runUnderlying62 rfl rfl z3N).to (v_len eStr _)) ?_
   refine oy rfl rfl (z1Z rfl) ?_
   refine zr ?_
   refine zD ?_
   refine zF ?_
   refine zit (step:=z1i s_1) (n:=n) (s0:=((s_1.length:Int),false,0)) h (G:=Unit) () (fun σ γ=>[(5,.int .i64 σ.1),(6,.bool σ.2.1),(32,.int .i64 σ.2.2),(0,boxP r_0b 0),(1,.string (bs s_1)),(30,r_0t),(31,.int .i64 2)]) (fun σ γ=>[box r_0b (tabV r_0a r_0c r_0t),ro r_0c 1 (([92,34]:List UInt8).map eB8),ro r_0a 1 (([92,92]:List UInt8).map eB8),ro r_0t 1 (([[92],[34]]:List (List UInt8)).map eStr)]) [3,1,0,2] (qv7 rfl rfl rfl rfl rfl rfl rfl) (by decide) rfl ?_
   rintro ⟨newSize_8,anyChanges_9,s_10⟩ _ o11 h L14 hgo12 hstop13
   change Run _ _ _ (VF.of [(5,.int .i64 newSize_8),(6,.bool anyChanges_9),(32,.int .i64 s_10),(0,boxP r_0b 0),(1,.string (bs s_1)),(30,r_0t),(31,.int .i64 2)]) [box r_0b (tabV r_0a r_0c r_0t),ro r_0c 1 (([92,34]:List UInt8).map eB8),ro r_0a 1 (([92,92]:List UInt8).map eB8),ro r_0t 1 (([[92],[34]]:List (List UInt8)).map eStr)]
   refine zH ?_
   refine z8 ?_
   refine oy rfl rfl (y_lss rfl rfl) ?_
   refine zr ?_
   refine zD ?_
   refine zH ?_
   refine z8D (decide (s_10<2)) rfl (fun hc15=>?_) (fun hc15=>?_)
   ·replace h:=z2F h hc15
    refine run_skip ?_
    refine zD ?_
    obtain ⟨o18,h,ho19⟩:=z8i h
    refine zdM ((Int×Bool)×(Unit)) (fun σ=>[(5,.int .i64 σ.1.1),(6,.bool σ.1.2),(0,boxP r_0b 0),(1,.string (bs s_1)),(30,r_0t),(31,.int .i64 2),(32,.int .i64 s_10)]) (fun σ=>[box r_0b (tabV r_0a r_0c r_0t),ro r_0c 1 (([92,34]:List UInt8).map eB8),ro r_0a 1 (([92,92]:List UInt8).map eB8),ro r_0t 1 (([[92],[34]]:List (List UInt8)).map eStr)]) (fun σ=>o18 = .go σ.1) (fun L21 hL20=>?_) ?_
    · -- the ways through
     refine zF ?_
     refine zH ?_
     refine z8 ?_
     obtain ⟨x22,hzx22,hlx22,hxx22,h⟩:=zP h
     refine oy rfl rfl (z4M (kd:=.i64) (i:=s_10) 3 Tryz.runUnderlying62 Tryz.sizeOf9 rfl rfl rfl z3N hzx22 (zq0 hlx22)) ?_
     refine oy rfl rfl (z6a (i:=s_10.toNat) 3 Tryz.isAgg9 rfl rfl z3N (zj2 hxx22)) ?_
     refine oy rfl rfl (z1Y rfl) ?_
     refine zr ?_
     refine zD ?_
     refine zH ?_
     refine z8 ?_
     refine oy rfl rfl (z1Z rfl) ?_
     refine oy rfl rfl (z1Z rfl) ?_
     obtain ⟨r23,hr24,h⟩:=zJ h
     refine ot rfl rfl (zbx (vs:=[.string (bs s_1),.string (bs x22)]) (cs:=[]) [] rfl Tryz.call305 rfl (znL  s_1 x22  hr24) z3r rfl (.inl rfl)) ?_
     rintro _ _ ⟨_,⟨rfl,rfl⟩,rfl⟩
     refine oy rfl rfl (z1Y rfl) ?_
     refine zr ?_
     refine zD ?_
     refine zH ?_
     refine z6G [(5,.int .i64 newSize_8),(6,.bool anyChanges_9),(32,.int .i64 s_10),(0,boxP r_0b 0),(1,.string (bs s_1)),(30,r_0t),(31,.int .i64 2),(8,.string (bs x22)),(9,.int .i64 r23)] [0,1,2,3] [box r_0b (tabV r_0a r_0c r_0t),ro r_0c 1 (([92,34]:List UInt8).map eB8),ro r_0a 1 (([92,92]:List UInt8).map eB8),ro r_0t 1 (([[92],[34]]:List (List UInt8)).map eStr)] (qv9 rfl rfl rfl rfl rfl rfl rfl rfl rfl) (by decide) rfl ?_
     refine z8 ?_
     refine oy rfl rfl (z1Z rfl) ?_
     refine oy rfl rfl (y_neq rfl rfl) ?_
     refine zr ?_
     refine zD ?_
     refine z8D (decide (r23≠0)) rfl (fun hc25=>?_) (fun hc25=>?_)
     ·replace h:=z2F h hc25
      refine zH ?_
      refine z4U (by kernel_rfl) (by kernel_rfl) ?_
      refine sy rfl rfl (z1Z rfl) ?_
      refine sy rfl rfl (z1Z rfl) ?_
      refine sy rfl rfl (z1Z rfl) ?_
      refine sy rfl rfl (z1Z rfl) ?_
      obtain ⟨c26,hzc26,hlc26,hxc26,h⟩:=zP h
      refine sy rfl rfl (z80 (kd:=.i64) (i:=0) Tryz.runUnderlying9 rfl rfl hzc26 hxc26) ?_
      refine sy rfl rfl (z6J rfl) ?_
      refine sy rfl rfl (z1H (sz:=255) Tryz.runUnderlying277 rfl Tryz.sizeOf275 rfl) ?_
      refine sy rfl rfl (z58 (i:=(c26.toNat:Int)) Tryz.runUnderlying275 Tryz.sizeOf58 rfl rfl (zki c26)) ?_
      rcases cond3 h with ⟨he_c26,h⟩ | ⟨he_c26,h⟩ | ⟨he_c26,h⟩
      refine sy rfl rfl (z3I (r:=r_0c) 0 Tryz.isAgg58 rfl rfl (znk (he_c26))) ?_
      refine sy rfl rfl ((y_len 1 rfl Tryz.runUnderlying58 rfl rfl z3N).to (v_len eB8 _)) ?_
      refine sy rfl rfl (y_sub rfl rfl) ?_
      refine sy rfl rfl (y_mul rfl rfl) ?_
      refine sy rfl rfl (y_add rfl rfl) ?_
      refine sy rfl rfl (z1Y rfl) ?_
      refine z2m ?_
      refine zD ?_
      refine z6G [(5,.int .i64 (IntKind.i64.wrap (newSize_8+(IntKind.i64.wrap (r23*1))))),(32,.int .i64 s_10),(0,boxP r_0b 0),(1,.string (bs s_1)),(30,r_0t),(31,.int .i64 2)] [0,1,2,3] [box r_0b (tabV r_0a r_0c r_0t),ro r_0c 1 (([92,34]:List UInt8).map eB8),ro r_0a 1 (([92,92]:List UInt8).map eB8),ro r_0t 1 (([[92],[34]]:List (List UInt8)).map eStr)] (qv6 rfl rfl rfl rfl rfl rfl) (by decide) rfl ?_
      refine z8 ?_
      refine oy rfl rfl (z1Y rfl) ?_
      refine zr ?_
      refine zS ?_
      obtain rfl:=zU h
      exact z7J hL20 (((IntKind.i64.wrap (newSize_8+(IntKind.i64.wrap (r23*1)))),true),()) [0,1,2,3] (qv7 rfl rfl rfl rfl rfl rfl rfl) (by decide) rfl rfl
      refine sy rfl rfl (z3I (r:=r_0a) 0 Tryz.isAgg58 rfl rfl (znl (he_c26))) ?_
      refine sy rfl rfl ((y_len 2 rfl Tryz.runUnderlying58 rfl rfl z3N).to (v_len eB8 _)) ?_
      refine sy rfl rfl (y_sub rfl rfl) ?_
      refine sy rfl rfl (y_mul rfl rfl) ?_
      refine sy rfl rfl (y_add rfl rfl) ?_
      refine sy rfl rfl (z1Y rfl) ?_
      refine z2m ?_
      refine zD ?_
      refine z6G [(5,.int .i64 (IntKind.i64.wrap (newSize_8+(IntKind.i64.wrap (r23*1))))),(32,.int .i64 s_10),(0,boxP r_0b 0),(1,.string (bs s_1)),(30,r_0t),(31,.int .i64 2)] [0,1,2,3] [box r_0b (tabV r_0a r_0c r_0t),ro r_0c 1 (([92,34]:List UInt8).map eB8),ro r_0a 1 (([92,92]:List UInt8).map eB8),ro r_0t 1 (([[92],[34]]:List (List UInt8)).map eStr)] (qv6 rfl rfl rfl rfl rfl rfl) (by decide) rfl ?_
      refine z8 ?_
      refine oy rfl rfl (z1Y rfl) ?_
      refine zr ?_
      refine zS ?_
      obtain rfl:=zU h
      exact z7J hL20 (((IntKind.i64.wrap (newSize_8+(IntKind.i64.wrap (r23*1)))),true),()) [0,1,2,3] (qv7 rfl rfl rfl rfl rfl rfl rfl) (by decide) rfl rfl
      refine sy rfl rfl (z3I (r:=.slice none 0 0) 0 Tryz.isAgg58 rfl rfl (zqy (he_c26))) ?_
      refine sy rfl rfl (zop rfl Tryz.runUnderlying58 rfl) ?_
      refine sy rfl rfl (y_sub rfl rfl) ?_
      refine sy rfl rfl (y_mul rfl rfl) ?_
      refine sy rfl rfl (y_add rfl rfl) ?_
      refine sy rfl rfl (z1Y rfl) ?_
      refine z2m ?_
      refine zD ?_
      refine z6G [(5,.int .i64 (IntKind.i64.wrap (newSize_8+(IntKind.i64.wrap (r23*(-1)))))),(32,.int .i64 s_10),(0,boxP r_0b 0),(1,.string (bs s_1)),(30,r_0t),(31,.int .i64 2)] [0,1,2,3] [box r_0b (tabV r_0a r_0c r_0t),ro r_0c 1 (([92,34]:List UInt8).map eB8),ro r_0a 1 (([92,92]:List UInt8).map eB8),ro r_0t 1 (([[92],[34]]:List (List UInt8)).map eStr)] (qv6 rfl rfl rfl rfl rfl rfl) (by decide) rfl ?_
      refine z8 ?_
      refine oy rfl rfl (z1Y rfl) ?_
      refine zr ?_
      refine zS ?_
      obtain rfl:=zU h
      exact z7J hL20 (((IntKind.i64.wrap (newSize_8+(IntKind.i64.wrap (r23*(-1))))),true),()) [0,1,2,3] (qv7 rfl rfl rfl rfl rfl rfl rfl) (by decide) rfl rfl
     ·replace h:=z2E h hc25
      refine run_skip ?_
      refine zS ?_
      obtain rfl:=zU h
      exact z7J hL20 ((newSize_8,anyChanges_9),()) [0,1,2,3] (qv7 rfl rfl rfl rfl rfl rfl rfl) (by decide) rfl rfl
    rintro ⟨⟨newSize_16,anyChanges_17⟩,_⟩ hj
    obtain rfl:o18=_:=hj
    replace h:=zbB ho19
    clear ho19
    change Run _ _ _ (VF.of [(5,.int .i64 newSize_16),(6,.bool anyChanges_17),(0,boxP r_0b 0),(1,.string (bs s_1)),(30,r_0t),(31,.int .i64 2),(32,.int .i64 s_10)]) [box r_0b (tabV r_0a r_0c r_0t),ro r_0c 1 (([92,34]:List UInt8).map eB8),ro r_0a 1 (([92,92]:List UInt8).map eB8),ro r_0t 1 (([[92],[34]]:List (List UInt8)).map eStr)]
    refine z8 ?_
    refine oy rfl rfl (y_add rfl rfl) ?_
    refine oy rfl rfl (z1Z rfl) ?_
    refine zr ?_
    obtain rfl:=zU h
    exact zg1 hgo12 (newSize_16,anyChanges_17,(IntKind.i64.wrap (s_10+1))) () [0,1,2,3] rfl (qv7 rfl rfl rfl rfl rfl rfl rfl) (by decide) rfl
   ·replace h:=z2E h hc15
    refine z1h _ rfl ?_
    obtain rfl:=zU h
    obtain rfl:=hstop13 _ rfl
    exact z7J hL5 ((newSize_8,anyChanges_9),()) [0,1,2,3] (qv4 rfl rfl rfl rfl) (by decide) rfl rfl
  ·replace h:=z2E h hc7
   refine zH ?_
   refine z6G [(0,boxP r_0b 0),(1,.string (bs s_1)),(5,.int .i64 (s_1.length:Int)),(6,.bool false)] [0,1,2,3] [ro r_0a 1 (([92,92]:List UInt8).map eB8),ro r_0c 1 (([92,34]:List UInt8).map eB8),ro r_0t 1 (([[92],[34]]:List (List UInt8)).map eStr),box r_0b (tabV r_0a r_0c r_0t)] (qv4 rfl rfl rfl rfl) (by decide) rfl ?_
   refine z8 ?_
   refine oy rfl rfl (z1Y rfl) ?_
   refine zr ?_
   refine zD ?_
   refine zF ?_
   refine zit (step:=z1F s_1) (n:=n) (s0:=((s_1.length:Int),false,0)) h (G:=Unit) () (fun σ γ=>[(5,.int .i64 σ.1),(6,.bool σ.2.1),(10,.int .i64 σ.2.2),(0,boxP r_0b 0),(1,.string (bs s_1))]) (fun σ γ=>[box r_0b (tabV r_0a r_0c r_0t),ro r_0c 1 (([92,34]:List UInt8).map eB8),ro r_0a 1 (([92,92]:List UInt8).map eB8),ro r_0t 1 (([[92],[34]]:List (List UInt8)).map eStr)]) [3,1,0,2] (qv5 rfl rfl rfl rfl rfl) (by decide) rfl ?_
   rintro ⟨newSize_27,anyChanges_28,i_29⟩ _ o30 h L33 hgo31 hstop32
   change Run _ _ _ (VF.of [(5,.int .i64 newSize_27),(6,.bool anyChanges_28),(10,.int .i64 i_29),(0,boxP r_0b 0),(1,.string (bs s_1))]) [box r_0b (tabV r_0a r_0c r_0t),ro r_0c 1 (([92,34]:List UInt8).map eB8),ro r_0a 1 (([92,92]:List UInt8).map eB8),ro r_0t 1 (([[92],[34]]:List (List UInt8)).map eStr)]
   refine zH ?_
   refine zH ?_
   refine z8 ?_
   refine oy rfl rfl (z1Z rfl) ?_
   refine oy rfl rfl (z1Z rfl) ?_
   refine oy rfl rfl (z8N rfl Tryz.runUnderlying9 rfl) ?_
   refine oy rfl rfl (y_lss rfl rfl) ?_
   refine zr ?_
   refine zD ?_
   refine z8D (decide (i_29<(s_1.length:Int))) rfl (fun hc34=>?_) (fun hc34=>?_)
   ·replace h:=z2F h hc34
    refine run_skip ?_
    refine zD ?_
    obtain ⟨o37,h,ho38⟩:=z8i h
    refine zdM ((Int×Bool)×(Unit)) (fun σ=>[(5,.int .i64 σ.1.1),(6,.bool σ.1.2),(0,boxP r_0b 0),(1,.string (bs s_1)),(10,.int .i64 i_29)]) (fun σ=>[box r_0b (tabV r_0a r_0c r_0t),ro r_0c 1 (([92,34]:List UInt8).map eB8),ro r_0a 1 (([92,92]:List UInt8).map eB8),ro r_0t 1 (([[92],[34]]:List (List UInt8)).map eStr)]) (fun σ=>o37 = .go σ.1) (fun L40 hL39=>?_) ?_
    · -- the ways through
     refine zF ?_
     refine zH ?_
     refine z8 ?_
     refine oy rfl rfl (z1Z rfl) ?_
     refine oy rfl rfl (z1Z rfl) ?_
     obtain ⟨c41,hzc41,hlc41,hxc41,h⟩:=zP h
     refine oy rfl rfl (z80 (kd:=.i64) (i:=i_29) Tryz.runUnderlying9 rfl rfl hzc41 hxc41) ?_
     refine oy rfl rfl (z1Y rfl) ?_
     refine zr ?_
     refine zD ?_
     refine zH ?_
     refine z6G [(5,.int .i64 newSize_27),(6,.bool anyChanges_28),(10,.int .i64 i_29),(0,boxP r_0b 0),(1,.string (bs s_1)),(11,.int .u8 (c41.toNat:Int))] [0,1,2,3] [box r_0b (tabV r_0a r_0c r_0t),ro r_0c 1 (([92,34]:List UInt8).map eB8),ro r_0a 1 (([92,92]:List UInt8).map eB8),ro r_0t 1 (([[92],[34]]:List (List UInt8)).map eStr)] (qv6 rfl rfl rfl rfl rfl rfl) (by decide) rfl ?_
     refine z8 ?_
     refine oy rfl rfl (z1Z rfl) ?_
     refine oy rfl rfl (z1Z rfl) ?_
     refine oy rfl rfl (z6J rfl) ?_
     refine oy rfl rfl (z1H (sz:=255) Tryz.runUnderlying277 rfl Tryz.sizeOf275 rfl) ?_
     refine oy rfl rfl (z58 (i:=(c41.toNat:Int)) Tryz.runUnderlying275 Tryz.sizeOf58 rfl rfl (zki c41)) ?_
     rcases cond3 h with ⟨he_c41,h⟩ | ⟨he_c41,h⟩ | ⟨he_c41,h⟩
     refine oy rfl rfl (z3I (r:=r_0c) 0 Tryz.isAgg58 rfl rfl (znk (he_c41))) ?_
     refine oy rfl rfl (zlc 1 Tryz.runUnderlying58 rfl rfl rfl z3N (by simp)) ?_
     refine zr ?_
     refine zD ?_
     refine z3M rfl ?_
     refine zH ?_
     refine z8 ?_
     refine oy rfl rfl (z1Z rfl) ?_
     refine oy rfl rfl (z1Z rfl) ?_
     refine oy rfl rfl (z1Z rfl) ?_
     refine oy rfl rfl (z6J rfl) ?_
     refine oy rfl rfl (z1H (sz:=255) Tryz.runUnderlying277 rfl Tryz.sizeOf275 rfl) ?_
     refine oy rfl rfl (z58 (i:=(c41.toNat:Int)) Tryz.runUnderlying275 Tryz.sizeOf58 rfl rfl (zki c41)) ?_
     refine oy rfl rfl (z3I (r:=r_0c) 0 Tryz.isAgg58 rfl rfl (znk (he_c41))) ?_
     refine oy rfl rfl ((y_len 1 rfl Tryz.runUnderlying58 rfl rfl z3N).to (v_len eB8 _)) ?_
     refine oy rfl rfl (y_sub rfl rfl) ?_
     refine zid [(10,.int .i64 i_29),(0,boxP r_0b 0),(1,.string (bs s_1)),(71,.int .i64 newSize_27),(79,.int .i64 1)] [0,1,2,3] [box r_0b (tabV r_0a r_0c r_0t),ro r_0c 1 (([92,34]:List UInt8).map eB8),ro r_0a 1 (([92,92]:List UInt8).map eB8),ro r_0t 1 (([[92],[34]]:List (List UInt8)).map eStr)] (qv5 rfl rfl rfl rfl rfl) (by decide) rfl ?_
     refine oy rfl rfl (y_add rfl rfl) ?_
     refine oy rfl rfl (z1Y rfl) ?_
     refine zr ?_
     refine zD ?_
     refine z8 ?_
     refine oy rfl rfl (z1Y rfl) ?_
     refine zr ?_
     refine zS ?_
     obtain rfl:=zU h
     exact z7J hL39 (((IntKind.i64.wrap (newSize_27+1)),true),()) [0,1,2,3] (qv5 rfl rfl rfl rfl rfl) (by decide) rfl rfl
     refine oy rfl rfl (z3I (r:=r_0a) 0 Tryz.isAgg58 rfl rfl (znl (he_c41))) ?_
     refine oy rfl rfl (zlc 2 Tryz.runUnderlying58 rfl rfl rfl z3N (by simp)) ?_
     refine zr ?_
     refine zD ?_
     refine z3M rfl ?_
     refine zH ?_
     refine z8 ?_
     refine oy rfl rfl (z1Z rfl) ?_
     refine oy rfl rfl (z1Z rfl) ?_
     refine oy rfl rfl (z1Z rfl) ?_
     refine oy rfl rfl (z6J rfl) ?_
     refine oy rfl rfl (z1H (sz:=255) Tryz.runUnderlying277 rfl Tryz.sizeOf275 rfl) ?_
     refine oy rfl rfl (z58 (i:=(c41.toNat:Int)) Tryz.runUnderlying275 Tryz.sizeOf58 rfl rfl (zki c41)) ?_
     refine oy rfl rfl (z3I (r:=r_0a) 0 Tryz.isAgg58 rfl rfl (znl (he_c41))) ?_
     refine oy rfl rfl ((y_len 2 rfl Tryz.runUnderlying58 rfl rfl z3N).to (v_len eB8 _)) ?_
     refine oy rfl rfl (y_sub rfl rfl) ?_
     refine zid [(10,.int .i64 i_29),(0,boxP r_0b 0),(1,.string (bs s_1)),(71,.int .i64 newSize_27),(79,.int .i64 1)] [0,1,2,3] [box r_0b (tabV r_0a r_0c r_0t),ro r_0c 1 (([92,34]:List UInt8).map eB8),ro r_0a 1 (([92,92]:List UInt8).map eB8),ro r_0t 1 (([[92],[34]]:List (List UInt8)).map eStr)] (qv5 rfl rfl rfl rfl rfl) (by decide) rfl ?_
     refine oy rfl rfl (y_add rfl rfl) ?_
     refine oy rfl rfl (z1Y rfl) ?_
     refine zr ?_
     refine zD ?_
     refine z8 ?_
     refine oy rfl rfl (z1Y rfl) ?_
     refine zr ?_
     refine zS ?_
     obtain rfl:=zU h
     exact z7J hL39 (((IntKind.i64.wrap (newSize_27+1)),true),()) [0,1,2,3] (qv5 rfl rfl rfl rfl rfl) (by decide) rfl rfl
     refine oy rfl rfl (z3I (r:=.slice none 0 0) 0 Tryz.isAgg58 rfl rfl (zqy (he_c41))) ?_
     refine oy rfl rfl (znD Tryz.runUnderlying58 rfl rfl) ?_
     refine zr ?_
     refine zD ?_
     refine z53 rfl ?_
     refine run_skip ?_
     refine zS ?_
     obtain rfl:=zU h
     exact z7J hL39 ((newSize_27,anyChanges_28),()) [0,1,2,3] (qv5 rfl rfl rfl rfl rfl) (by decide) rfl rfl
    rintro ⟨⟨newSize_35,anyChanges_36⟩,_⟩ hj
    obtain rfl:o37=_:=hj
    replace h:=zbB ho38
    clear ho38
    change Run _ _ _ (VF.of [(5,.int .i64 newSize_35),(6,.bool anyChanges_36),(0,boxP r_0b 0),(1,.string (bs s_1)),(10,.int .i64 i_29)]) [box r_0b (tabV r_0a r_0c r_0t),ro r_0c 1 (([92,34]:List UInt8).map eB8),ro r_0a 1 (([92,92]:List UInt8).map eB8),ro r_0t 1 (([[92],[34]]:List (List UInt8)).map eStr)]
    refine z8 ?_
    refine oy rfl rfl (z1Z rfl) ?_
    refine oy rfl rfl (y_add rfl rfl) ?_
    refine oy rfl rfl (z1Y rfl) ?_
    refine zr ?_
    obtain rfl:=zU h
    exact zg1 hgo31 (newSize_35,anyChanges_36,(IntKind.i64.wrap (i_29+1))) () [0,1,2,3] rfl (qv5 rfl rfl rfl rfl rfl) (by decide) rfl
   ·replace h:=z2E h hc34
    refine z1h _ rfl ?_
    obtain rfl:=zU h
    obtain rfl:=hstop32 _ rfl
    exact z7J hL5 ((newSize_27,anyChanges_28),()) [0,1,2,3] (qv4 rfl rfl rfl rfl) (by decide) rfl rfl
 rintro ⟨⟨newSize_1,anyChanges_2⟩,_⟩ hj
 obtain rfl:o3=_:=hj
 replace h:=zbB ho4
 clear ho4
 change Run _ _ _ (VF.of [(5,.int .i64 newSize_1),(6,.bool anyChanges_2),(0,boxP r_0b 0),(1,.string (bs s_1))]) [box r_0b (tabV r_0a r_0c r_0t),ro r_0c 1 (([92,34]:List UInt8).map eB8),ro r_0a 1 (([92,92]:List UInt8).map eB8),ro r_0t 1 (([[92],[34]]:List (List UInt8)).map eStr)]
 refine zH ?_
 refine zH ?_
 refine z8 ?_
 refine oy rfl rfl (z1Z rfl) ?_
 refine oy rfl rfl (y_not rfl) ?_
 refine zr ?_
 refine zD ?_
 refine z8D (!anyChanges_2) rfl (fun hc42=>?_) (fun hc42=>?_)
 ·replace h:=z2F h hc42
  refine zH ?_
  refine z8 ?_
  refine oy rfl rfl (z1Z rfl) ?_
  refine oy rfl rfl (z1Y rfl) ?_
  refine zr ?_
  refine zD ?_
  refine zA ?_
  obtain rfl:=zU h
  refine zax [4] [.string (bs s_1)] [] [] Tryz.results303 rfl (by decide) rfl ?_
  exact ⟨rfl,rfl⟩
 ·replace h:=z2E h hc42
  refine run_skip ?_
  refine zD ?_
  refine zH ?_
  refine z8 ?_
  refine oy rfl rfl (z1Z rfl) ?_
  obtain ⟨hm44,h⟩:=zX h
  refine ot rfl rfl (zlz (es:=1) Tryz.runUnderlying58 Tryz.typeInfo5 rfl Tryz.zeroValue5 rfl (by decide) rfl rfl hm44.1 hm44.2 (by decide)) ?_
  rintro v43 _ rfl
  refine zB (retell 4 (g:=row v43 1 ((List.replicate newSize_1.toNat (0:UInt8)).map eB8)) rfl (congrArg (row _ _) (zrP rfl))) ?_
  refine oy rfl rfl (z1Y rfl) ?_
  refine zr ?_
  refine zD ?_
  refine zH ?_
  refine z8 ?_
  refine oy rfl rfl (z1Y rfl) ?_
  refine zr ?_
  refine zD ?_
  obtain ⟨o46,h,ho47⟩:=z8i h
  refine zdM (((List UInt8))×(Unit)) (fun σ=>[(12,v43)]) (fun σ=>[row v43 1 (σ.1.map eB8)]) (fun σ=>o46 = .go σ.1) (fun L49 hL48=>?_) ?_
  · -- the ways through
   refine zH ?_
   refine z8 ?_
   refine oy rfl rfl (z1Y rfl) ?_
   refine zr ?_
   refine zD ?_
   refine zF ?_
   refine zit (step:=z1V s_1) (n:=n) (s0:=(0,0,(List.replicate newSize_1.toNat (0:UInt8)))) h (G:=Unit) () (fun σ γ=>[(13,.int .i64 σ.1),(14,.int .i64 σ.2.1),(0,boxP r_0b 0),(1,.string (bs s_1)),(12,v43)]) (fun σ γ=>[box r_0b (tabV r_0a r_0c r_0t),ro r_0c 1 (([92,34]:List UInt8).map eB8),ro r_0a 1 (([92,92]:List UInt8).map eB8),ro r_0t 1 (([[92],[34]]:List (List UInt8)).map eStr),row v43 1 (σ.2.2.map eB8)]) [0,1,2,3,4] (qv5 rfl rfl rfl rfl rfl) (by decide) rfl ?_
   rintro ⟨j_50,i_51,x_52⟩ _ o53 h L56 hgo54 hstop55
   change Run _ _ _ (VF.of [(13,.int .i64 j_50),(14,.int .i64 i_51),(0,boxP r_0b 0),(1,.string (bs s_1)),(12,v43)]) [box r_0b (tabV r_0a r_0c r_0t),ro r_0c 1 (([92,34]:List UInt8).map eB8),ro r_0a 1 (([92,92]:List UInt8).map eB8),ro r_0t 1 (([[92],[34]]:List (List UInt8)).map eStr),row v43 1 (x_52.map eB8)]
   refine zH ?_
   refine zH ?_
   refine z8 ?_
   refine oy rfl rfl (z1Z rfl) ?_
   refine oy rfl rfl (z1Z rfl) ?_
   refine oy rfl rfl (z8N rfl Tryz.runUnderlying9 rfl) ?_
   refine oy rfl rfl (y_lss rfl rfl) ?_
   refine zr ?_
   refine zD ?_
   refine z8D (decide (i_51<(s_1.length:Int))) rfl (fun hc57=>?_) (fun hc57=>?_)
   ·replace h:=z2F h hc57
    refine run_skip ?_
    refine zD ?_
    obtain ⟨o60,h,ho61⟩:=z8i h
    refine zdM ((Int×(List UInt8))×(Unit)) (fun σ=>[(13,.int .i64 σ.1.1),(0,boxP r_0b 0),(1,.string (bs s_1)),(12,v43),(14,.int .i64 i_51)]) (fun σ=>[box r_0b (tabV r_0a r_0c r_0t),ro r_0c 1 (([92,34]:List UInt8).map eB8),ro r_0a 1 (([92,92]:List UInt8).map eB8),ro r_0t 1 (([[92],[34]]:List (List UInt8)).map eStr),row v43 1 (σ.1.2.map eB8)]) (fun σ=>o60 = .go σ.1) (fun L63 hL62=>?_) ?_
    · -- the ways through
     refine zF ?_
     refine zH ?_
     refine z8 ?_
     refine oy rfl rfl (z1Z rfl) ?_
     refine oy rfl rfl (z1Z rfl) ?_
     obtain ⟨c64,hzc64,hlc64,hxc64,h⟩:=zP h
     refine oy rfl rfl (z80 (kd:=.i64) (i:=i_51) Tryz.runUnderlying9 rfl rfl hzc64 hxc64) ?_
     refine oy rfl rfl (z1Y rfl) ?_
     refine zr ?_
     refine zD ?_
     refine zH ?_
     refine z6G [(13,.int .i64 j_50),(14,.int .i64 i_51),(0,boxP r_0b 0),(1,.string (bs s_1)),(12,v43),(15,.int .u8 (c64.toNat:Int))] [0,1,2,3,4] [box r_0b (tabV r_0a r_0c r_0t),ro r_0c 1 (([92,34]:List UInt8).map eB8),ro r_0a 1 (([92,92]:List UInt8).map eB8),ro r_0t 1 (([[92],[34]]:List (List UInt8)).map eStr),row v43 1 (x_52.map eB8)] (qv6 rfl rfl rfl rfl rfl rfl) (by decide) rfl ?_
     refine z8 ?_
     refine oy rfl rfl (z1Z rfl) ?_
     refine oy rfl rfl (z1Z rfl) ?_
     refine oy rfl rfl (z6J rfl) ?_
     refine oy rfl rfl (z1H (sz:=255) Tryz.runUnderlying277 rfl Tryz.sizeOf275 rfl) ?_
     refine oy rfl rfl (z58 (i:=(c64.toNat:Int)) Tryz.runUnderlying275 Tryz.sizeOf58 rfl rfl (zki c64)) ?_
     rcases cond3 h with ⟨he_c64,h⟩ | ⟨he_c64,h⟩ | ⟨he_c64,h⟩
     refine oy rfl rfl (z3I (r:=r_0c) 0 Tryz.isAgg58 rfl rfl (znk (he_c64))) ?_
     refine oy rfl rfl (zlc 1 Tryz.runUnderlying58 rfl rfl rfl z3N (by simp)) ?_
     refine zr ?_
     refine zD ?_
     refine z3M rfl ?_
     refine z98 [box r_0b (tabV r_0a r_0c r_0t),ro r_0c 1 (([92,34]:List UInt8).map eB8),ro r_0a 1 (([92,92]:List UInt8).map eB8),ro r_0t 1 (([[92],[34]]:List (List UInt8)).map eStr),HA.emp] (by kernel_rfl) ?_
     refine any_y 0 rfl (by kernel_rfl) (by kernel_rfl) (by kernel_rfl) (ss (ss (ss (ss (se (sn)))))) (wn rfl) rfl (z1Z rfl) ?_
     refine any_y 1 rfl (by kernel_rfl) (by kernel_rfl) (by kernel_rfl) (ss (ss (ss (ss (se (sn)))))) (wn rfl) rfl (z1Z rfl) ?_
     refine any_y 2 rfl (by kernel_rfl) (by kernel_rfl) (by kernel_rfl) (ss (ss (ss (ss (se (sn)))))) (wn rfl) rfl (z1Z rfl) ?_
     refine any_y 4 rfl (by kernel_rfl) (by kernel_rfl) (by kernel_rfl) (ss (ss (ss (ss (se (sn)))))) (wn rfl) rfl (z1Z rfl) ?_
     refine any_y 5 rfl (by kernel_rfl) (by kernel_rfl) (by kernel_rfl) (ss (ss (ss (ss (se (sn)))))) (wn rfl) rfl (z1Z rfl) ?_
     refine any_y 6 rfl (by kernel_rfl) (by kernel_rfl) (by kernel_rfl) (ss (ss (ss (ss (se (sn)))))) (wn rfl) rfl (z6J rfl) ?_
     refine any_y 7 rfl (by kernel_rfl) (by kernel_rfl) (by kernel_rfl) (ss (ss (ss (ss (se (sn)))))) (wn rfl) rfl (z1H (sz:=255) Tryz.runUnderlying277 rfl Tryz.sizeOf275 rfl) ?_
     refine any_y 8 rfl (by kernel_rfl) (by kernel_rfl) (by kernel_rfl) (ss (ss (ss (ss (se (sn)))))) (wn rfl) rfl (z58 (i:=(c64.toNat:Int)) Tryz.runUnderlying275 Tryz.sizeOf58 rfl rfl (zki c64)) ?_
     refine any_y 9 rfl (by kernel_rfl) (by kernel_rfl) (by kernel_rfl) (ss (ss (ss (ss (se (sn)))))) (wn rfl) rfl (z3I (r:=r_0c) 0 Tryz.isAgg58 rfl rfl (znk (he_c64))) ?_
     refine zK [3] (by kernel_rfl) rfl (zk ?_ zC)
     obtain ⟨hb65,h⟩:=zX h
     refine zlJ rfl (wn rfl) rfl (zle (l:=j_50) (r:=(x_52.length:Int)) 4 Tryz.runUnderlying58 Tryz.sizeOf5 rfl rfl z1d (bi1 (kd:=.i64) rfl) bi0m hb65.1 hb65.2.1 (zes hb65.2.2)) ⟨(ss (ss (ss (ss (se (sn)))))),?_⟩
     refine zK [10] (by kernel_rfl) rfl (zk ?_ zC)
     refine any_t rfl (wn rfl) rfl (zpf (F:=eB8) (l:=x_52) (ns:=([92,34]:List UInt8)) (es:=1) (a:=j_50.toNat) (b:=((x_52.length:Int)).toNat) (b2:=((x_52.length:Int)).toNat) 4 rfl Tryz.runUnderlying58 Tryz.sizeOf5 rfl zmQ (by first | exact Nat.zero_le _ | omega) (by first | exact Nat.le_refl _ | omega | (simp only [List.length_map]; omega)) rfl rfl (zjy 1 rfl z3N (z42 zhZ _)) rfl rfl) ?_
     rintro _ _ ⟨rfl,rfl⟩
     refine ⟨(ss (ss (ss (ss (se (sn)))))),?_⟩
     refine any_y 11 rfl (by kernel_rfl) (by kernel_rfl) (by kernel_rfl) (ss (ss (ss (ss (se (sn)))))) (wn rfl) rfl (y_add rfl rfl) ?_
     refine any_y 12 rfl (by kernel_rfl) (by kernel_rfl) (by kernel_rfl) (ss (ss (ss (ss (se (sn)))))) (wn rfl) rfl (z1Y rfl) ?_
     refine z1K (by kernel_rfl) ?_
     refine zS ?_
     obtain rfl:=zU h
     exact z7J hL62 (((IntKind.i64.wrap (j_50+((min ([92,34]:List UInt8).length ((((x_52.length:Int)).toNat) - j_50.toNat):Nat):Int))),(cpy x_52 j_50.toNat (((x_52.length:Int)).toNat) ([92,34]:List UInt8))),()) [0,1,2,3,4] (qv5 rfl rfl rfl rfl rfl) (by decide) rfl rfl
     refine oy rfl rfl (z3I (r:=r_0a) 0 Tryz.isAgg58 rfl rfl (znl (he_c64))) ?_
     refine oy rfl rfl (zlc 2 Tryz.runUnderlying58 rfl rfl rfl z3N (by simp)) ?_
     refine zr ?_
     refine zD ?_
     refine z3M rfl ?_
     refine z98 [box r_0b (tabV r_0a r_0c r_0t),ro r_0c 1 (([92,34]:List UInt8).map eB8),ro r_0a 1 (([92,92]:List UInt8).map eB8),ro r_0t 1 (([[92],[34]]:List (List UInt8)).map eStr),HA.emp] (by kernel_rfl) ?_
     refine any_y 0 rfl (by kernel_rfl) (by kernel_rfl) (by kernel_rfl) (ss (ss (ss (ss (se (sn)))))) (wn rfl) rfl (z1Z rfl) ?_
     refine any_y 1 rfl (by kernel_rfl) (by kernel_rfl) (by kernel_rfl) (ss (ss (ss (ss (se (sn)))))) (wn rfl) rfl (z1Z rfl) ?_
     refine any_y 2 rfl (by kernel_rfl) (by kernel_rfl) (by kernel_rfl) (ss (ss (ss (ss (se (sn)))))) (wn rfl) rfl (z1Z rfl) ?_
     refine any_y 4 rfl (by kernel_rfl) (by kernel_rfl) (by kernel_rfl) (ss (ss (ss (ss (se (sn)))))) (wn rfl) rfl (z1Z rfl) ?_
     refine any_y 5 rfl (by kernel_rfl) (by kernel_rfl) (by kernel_rfl) (ss (ss (ss (ss (se (sn)))))) (wn rfl) rfl (z1Z rfl) ?_
     refine any_y 6 rfl (by kernel_rfl) (by kernel_rfl) (by kernel_rfl) (ss (ss (ss (ss (se (sn)))))) (wn rfl) rfl (z6J rfl) ?_
     refine any_y 7 rfl (by kernel_rfl) (by kernel_rfl) (by kernel_rfl) (ss (ss (ss (ss (se (sn)))))) (wn rfl) rfl (z1H (sz:=255) Tryz.runUnderlying277 rfl Tryz.sizeOf275 rfl) ?_
     refine any_y 8 rfl (by kernel_rfl) (by kernel_rfl) (by kernel_rfl) (ss (ss (ss (ss (se (sn)))))) (wn rfl) rfl (z58 (i:=(c64.toNat:Int)) Tryz.runUnderlying275 Tryz.sizeOf58 rfl rfl (zki c64)) ?_
     refine any_y 9 rfl (by kernel_rfl) (by kernel_rfl) (by kernel_rfl) (ss (ss (ss (ss (se (sn)))))) (wn rfl) rfl (z3I (r:=r_0a) 0 Tryz.isAgg58 rfl rfl (znl (he_c64))) ?_
     refine zK [3] (by kernel_rfl) rfl (zk ?_ zC)
     obtain ⟨hb66,h⟩:=zX h
     refine zlJ rfl (wn rfl) rfl (zle (l:=j_50) (r:=(x_52.length:Int)) 4 Tryz.runUnderlying58 Tryz.sizeOf5 rfl rfl z1d (bi1 (kd:=.i64) rfl) bi0m hb66.1 hb66.2.1 (zes hb66.2.2)) ⟨(ss (ss (ss (ss (se (sn)))))),?_⟩
     refine zK [10] (by kernel_rfl) rfl (zk ?_ zC)
     refine any_t rfl (wn rfl) rfl (zpf (F:=eB8) (l:=x_52) (ns:=([92,92]:List UInt8)) (es:=1) (a:=j_50.toNat) (b:=((x_52.length:Int)).toNat) (b2:=((x_52.length:Int)).toNat) 4 rfl Tryz.runUnderlying58 Tryz.sizeOf5 rfl zmQ (by first | exact Nat.zero_le _ | omega) (by first | exact Nat.le_refl _ | omega | (simp only [List.length_map]; omega)) rfl rfl (zjy 2 rfl z3N (z42 zhZ _)) rfl rfl) ?_
     rintro _ _ ⟨rfl,rfl⟩
     refine ⟨(ss (ss (ss (ss (se (sn)))))),?_⟩
     refine any_y 11 rfl (by kernel_rfl) (by kernel_rfl) (by kernel_rfl) (ss (ss (ss (ss (se (sn)))))) (wn rfl) rfl (y_add rfl rfl) ?_
     refine any_y 12 rfl (by kernel_rfl) (by kernel_rfl) (by kernel_rfl) (ss (ss (ss (ss (se (sn)))))) (wn rfl) rfl (z1Y rfl) ?_
     refine z1K (by kernel_rfl) ?_
     refine zS ?_
     obtain rfl:=zU h
     exact z7J hL62 (((IntKind.i64.wrap (j_50+((min ([92,92]:List UInt8).length ((((x_52.length:Int)).toNat) - j_50.toNat):Nat):Int))),(cpy x_52 j_50.toNat (((x_52.length:Int)).toNat) ([92,92]:List UInt8))),()) [0,1,2,3,4] (qv5 rfl rfl rfl rfl rfl) (by decide) rfl rfl
     refine oy rfl rfl (z3I (r:=.slice none 0 0) 0 Tryz.isAgg58 rfl rfl (zqy (he_c64))) ?_
     refine oy rfl rfl (znD Tryz.runUnderlying58 rfl rfl) ?_
     refine zr ?_
     refine zD ?_
     refine z53 rfl ?_
     refine zH ?_
     refine z8 ?_
     refine oy rfl rfl (z1Z rfl) ?_
     refine oy rfl rfl (z1Z rfl) ?_
     refine oy rfl rfl (z1Z rfl) ?_
     obtain ⟨x67,hzx67,hlx67,hxx67,h⟩:=zP h
     refine oy rfl rfl (z4M (kd:=.i64) (i:=j_50) 4 Tryz.runUnderlying58 Tryz.sizeOf5 rfl rfl rfl z1d hzx67 (zq0 hlx67)) ?_
     refine ot rfl rfl (zfy (i:=j_50.toNat) (j:=0) (c:=eB8 x67) 4 Tryz.sizeOf5 rfl rfl rfl rfl (zj2 hxx67) (by decide) (by simp [Value.cells,Value.oneCell',boxP])) ?_
     rintro _ _ ⟨rfl,rfl⟩
     obtain hxx68:((x_52.set j_50.toNat c64):List UInt8)[j_50.toNat]? = some c64:=zoc hlx67
     obtain hlx68:j_50.toNat<((x_52.set j_50.toNat c64):List UInt8).length:=zud hlx67
     obtain hzx68:(0:Int)≤j_50:=id hzx67
     refine zB (retell 4 (g:=row v43 1 ((x_52.set j_50.toNat c64).map eB8)) rfl (congrArg (row _ _) (zmw rfl))) ?_
     refine zr ?_
     refine zD ?_
     refine z6G [(13,.int .i64 j_50),(14,.int .i64 i_51),(0,boxP r_0b 0),(1,.string (bs s_1)),(12,v43)] [0,1,2,3,4] [box r_0b (tabV r_0a r_0c r_0t),ro r_0c 1 (([92,34]:List UInt8).map eB8),ro r_0a 1 (([92,92]:List UInt8).map eB8),ro r_0t 1 (([[92],[34]]:List (List UInt8)).map eStr),row v43 1 ((x_52.set j_50.toNat c64).map eB8)] (qv5 rfl rfl rfl rfl rfl) (by decide) rfl ?_
     refine z8 ?_
     refine oy rfl rfl (z1Z rfl) ?_
     refine oy rfl rfl (y_add rfl rfl) ?_
     refine oy rfl rfl (z1Y rfl) ?_
     refine zr ?_
     refine zS ?_
     obtain rfl:=zU h
     exact z7J hL62 (((IntKind.i64.wrap (j_50+1)),(x_52.set j_50.toNat c64)),()) [0,1,2,3,4] (qv5 rfl rfl rfl rfl rfl) (by decide) rfl rfl
    rintro ⟨⟨j_58,x_59⟩,_⟩ hj
    obtain rfl:o60=_:=hj
    replace h:=zbB ho61
    clear ho61
    change Run _ _ _ (VF.of [(13,.int .i64 j_58),(0,boxP r_0b 0),(1,.string (bs s_1)),(12,v43),(14,.int .i64 i_51)]) [box r_0b (tabV r_0a r_0c r_0t),ro r_0c 1 (([92,34]:List UInt8).map eB8),ro r_0a 1 (([92,92]:List UInt8).map eB8),ro r_0t 1 (([[92],[34]]:List (List UInt8)).map eStr),row v43 1 (x_59.map eB8)]
    refine z8 ?_
    refine oy rfl rfl (z1Z rfl) ?_
    refine oy rfl rfl (y_add rfl rfl) ?_
    refine oy rfl rfl (z1Y rfl) ?_
    refine zr ?_
    obtain rfl:=zU h
    exact zg1 hgo54 (j_58,(IntKind.i64.wrap (i_51+1)),x_59) () [0,1,2,3,4] rfl (qv5 rfl rfl rfl rfl rfl) (by decide) rfl
   ·replace h:=z2E h hc57
    refine z1h _ rfl ?_
    obtain rfl:=zU h
    obtain rfl:=hstop55 _ rfl
    exact z7J hL48 (x_52,()) [4] (qv1 rfl) (by decide) rfl rfl
  rintro ⟨x_45,_⟩ hj
  obtain rfl:o46=_:=hj
  replace h:=zbB ho47
  clear ho47
  change Run _ _ _ (VF.of [(12,v43)]) [row v43 1 (x_45.map eB8)]
  refine zH ?_
  refine z8 ?_
  refine oy rfl rfl (z1Z rfl) ?_
  refine oy rfl rfl (y_b2s (l:=x_45) 0 Tryz.runUnderlying58 Tryz.runUnderlying5 Tryz.runUnderlying9 rfl rfl z1d) ?_
  refine oy rfl rfl (z1Y rfl) ?_
  refine zr ?_
  refine zD ?_
  refine zA ?_
  obtain rfl:=zU h
  refine zax [4] [.string (bs x_45)] [] [] Tryz.results303 rfl (by decide) rfl ?_
  exact ⟨rfl,rfl⟩
end Go.Proofs.YtcmaoifiiigggaaGreatDoor
namespace Go.Abs
@[simp] theorem z1N {S R:Type} (s:S) (k:S→Option R):bindJ (some (.go s)) k=k s:=rfl
@[simp] theorem zec {S R:Type} (r:R) (k:S→Option R):bindJ (some (.stop r)) k=some r:=rfl
@[simp] theorem zrk {S R:Type} (k:S→Option R):bindJ (none:Option (Lp S R)) k=none:=rfl
theorem z1n {α:Type} {p:Prop} [Decidable p] (h:p) (x:Option α):need p x=x:=by simp [need,h]
theorem z4e {α β:Type} {l:List α} {i:Nat} {x:α} (h:l[i]? = some x) (k:α→Option β):idx l (i:Int) k=k x:=by simp [idx,h]
theorem z9v {α β:Type} {l:List α} {i:Nat} (h:i<l.length) (k:α→Option β):idx l (i:Int) k=k l[i]:=z4e (List.getElem?_eq_getElem h) k
theorem z4f {S R:Type} {step:S→Option (Lp S R)} {n:Nat} {s s' : S} (h:step s=some (.go s')):iter step (n+1) s=iter step n s':=by simp [iter,h]
theorem z1z {S R:Type} {step:S→Option (Lp S R)} {n:Nat} {s:S} {r:R} (h:step s=some (.stop r)):iter step (n+1) s=some r:=by simp [iter,h]
theorem z71 {S R:Type} {step:S→Option (Lp S R)} (inv:S→Prop) (μ:S→Nat) (post:R→Prop)
    (h:∀ s,inv s→(∃ s',step s=some (.go s')∧inv s'∧μ s'<μ s)∨(∃ r,step s=some (.stop r)∧post r)) :
    ∀ (n:Nat) (s:S),inv s→μ s<n→∃ r,iter step n s=some r∧post r
  | 0,s,_,hm=>by omega
  | n + 1, s, hi, hm => by
    rcases h s hi with ⟨s',h1,h2,h3⟩ | ⟨r,h1,h2⟩
    · obtain ⟨r,h4,h5⟩:=z71 inv μ post h n s' h2 (by omega)
      exact ⟨r,by rw [z4f h1,h4],h5⟩
    · exact ⟨r,z1z h1,h2⟩
theorem w64 {x:Int} (h1 : -9223372036854775808≤x) (h2:x≤9223372036854775807):IntKind.i64.wrap x=x:=zb6 h1 h2
end Go.Abs
namespace Go.Abs
end Go.Abs
namespace Go.Abs
end Go.Abs
