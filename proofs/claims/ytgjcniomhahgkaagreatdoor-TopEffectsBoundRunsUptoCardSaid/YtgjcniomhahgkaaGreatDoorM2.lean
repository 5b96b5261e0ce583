/-
  Texts that stand side by side: AbsMapR, AbsSh, AbsT, AbsK, AbsS, AbsNMap, AbsD.
-/
import Derived.Test.YtgjcniomhahgkaaGreatDoorM1
import Derived.Maps.RangeRun
import Derived.KernelRfl
set_option linter.unusedSimpArgs false
set_option linter.unusedVariables false
namespace Go.Abs
variable {E : Env} {k : List KI} {V : VF} {H : List HA}
def mapit {κ β:Type} (K:κ→Value) (G:β→Value) (it r:Nat) (cur:Option (κ×β)) (left:List (κ×β)):HA:=
 ⟨fun w o k=>o r = .mine k∧o it = .mine k∧r<w.heap.size∧it<w.heap.size∧∃ es clock since seen c0,w.heap[r]? = some (.map es clock)∧w.heap[it]? = some (.mapIter (some r) since seen c0)∧
   (∀ e∈es.toList,e.born<since)∧since≤c0∧since≤clock∧(es.toList.map fun e:MapEntry=>e.born).Nodup∧(leftOf es seen).toList.map (fun e=>(e.key,e.val))=mcells K G left∧
   (∀ p,cur=some p→c0=clock∧∃ e∈es.toList,∃ s' : Array Nat,seen=s'.push e.born∧e.key=K p.1∧e.val=G p.2),
  fun hs h1 _ ⟨e1,e2,e3,e4,es,cl,si,se,c0,f1,f2,f3⟩=>let ⟨a1,a2⟩:=h1 r e3 e1; let ⟨b1,b2⟩:=h1 it e4 e2; ⟨a1,b1,Nat.lt_of_lt_of_le e3 hs,Nat.lt_of_lt_of_le e4 hs,es,cl,si,se,c0,a2.trans f1,b2.trans f2,f3⟩⟩
section
variable {P : Program} {d : Option Nat} {ty : TypeId} {pos : String} {af : Array Edge} {g : Option (Nat × Bool)} {κ β : Type} {K : κ → Value} {G : β → Value}
theorem uncur {it r:Nat} {cur:Option (κ×β)} {left:List (κ×β)} (m:Nat) (hm:H[m]? = some (mapit K G it r cur left)):Turn H (H.set m (mapit K G it r none left)):=by
 intro w o hb hs
 obtain ⟨e1,e2,e3,e4,es,cl,si,se,c0,f1,f2,f3,f4,f5,f6,f7,_⟩:=hs m _ hm
 exact ⟨o,hb,Tr.refl w o,z3k (Nat.le_refl _) (fun _ _ _=>⟨rfl,rfl⟩) hs ⟨e1,e2,e3,e4,es,cl,si,se,c0,f1,f2,f3,f4,f5,f6,f7,fun p h=>by cases h⟩⟩
theorem zly {T kt el:TypeId} {x:Operand} {r:Nat} {l:List (κ×β)} (m:Nat) (hT:P.underlying T=some (.map kt el)) (hx:V.ev x=some (mapV r)) (hm:H[m]? = some (mapis r (mcells K G l))) :
  OpT P ⟨d,.range T x,ty,pos,af,g⟩ V H (fun v' H'=>∃ it,v'=boxP it 0∧H'=H.set m (mapit K G it r none l)):=by
 intro ρ w o hf hbd hs
 obtain ⟨e1,e2,es,cl,e3,e4,e5,e6⟩:=hs m _ hm
 have hrun:(execOp ρ ⟨d,.range T x,ty,pos,af,g⟩).run P w = .ok (.value (boxP w.heap.size 0)) (w.alloc (.mapIter (some r) cl #[] cl)):=by
  have:=run_range_map (P:=P) w T kt el r es cl hT e3
  simp [execOp,hf x _ hx,mapV,this,boxP]
 unfold Does
 rw [hrun]
 let o' : Own:=fun b=>if b=w.heap.size then .mine m else o b
 have hsz:(w.alloc (.mapIter (some r) cl #[] cl)).heap.size=w.heap.size+1:=by show (w.heap.push _).size=_; simp
 have hold:∀ b,b<w.heap.size→(w.alloc (.mapIter (some r) cl #[] cl)).heap[b]? = w.heap[b]?:=fun b hb=>heap_alloc_old w _ hb
 have ho:∀ b,b<w.heap.size→o' b=o b:=fun b hb=>by simp only [o']; rw [if_neg (by omega)]
 refine ⟨_,o',⟨w.heap.size,rfl,rfl⟩,fun b hb=>?_,⟨rfl,rfl,rfl,by omega,fun b hlt hb=>⟨by rw [ho b hlt]; exact hb,hold b hlt⟩,fun b hlt hb=>⟨by rw [ho b hlt]; exact hb,hold b hlt⟩⟩,?_⟩
 ·rw [hsz] at hb
  simp only [o']
  rw [if_neg (by omega)]
  exact hbd b (by omega)
 ·intro j h hj
  rw [List.getElem?_set] at hj
  split at hj
  ·rename_i hjm
   subst hjm
   split at hj
   ·cases hj
    refine ⟨by rw [ho r e2]; exact e1,by simp [o'],by omega,by omega,es,cl,cl,#[],cl,(hold r e2).trans e3,heap_alloc_new w _,e5,Nat.le_refl _,Nat.le_refl _,e6,?_,fun p h=>by cases h⟩
    rw [← e4]
    simp only [leftOf,Array.toList_filter]
    congr 1
    exact List.filter_eq_self.2 fun x _=>by simp
   ·cases hj
  ·exact h.keep (by omega) (fun b hlt hb=>⟨by rw [ho b hlt]; exact hb,hold b hlt⟩) (fun b hlt hb=>⟨by rw [ho b hlt]; exact hb,hold b hlt⟩) (hs j h hj)
theorem zfP {es:Array MapEntry} {seen:Array Nat} {e:MapEntry} (hn:(es.toList.map fun e:MapEntry=>e.born).Nodup) (he:e∈(leftOf es seen).toList) :
  ∃ a b,(leftOf es seen).toList=a++e::b∧(leftOf es (seen.push e.born)).toList=a++b:=by
 have h1:(leftOf es (seen.push e.born)).toList=(leftOf es seen).toList.filter fun x=>decide (x.born≠e.born):=by
  unfold leftOf
  rw [Array.toList_filter,Array.toList_filter,List.filter_filter]
  apply List.filter_congr
  intro x _
  by_cases hx:x.born=e.born <;> simp [hx]
 have h2:((leftOf es seen).toList.map fun e:MapEntry=>e.born).Nodup:=by
  unfold leftOf
  rw [Array.toList_filter]
  exact List.Sublist.nodup (List.Sublist.map _ (List.filter_sublist)) hn
 rw [h1]
 generalize (leftOf es seen).toList=L at *
 obtain ⟨a,b,rfl⟩:=List.append_of_mem he
 refine ⟨a,b,rfl,?_⟩
 rw [List.map_append,List.map_cons,List.nodup_append] at h2
 obtain ⟨_,h4,h5⟩:=h2
 rw [List.nodup_cons] at h4
 rw [List.filter_append,List.filter_cons_of_neg (by simp),List.filter_eq_self.2,List.filter_eq_self.2]
 ·intro x hx
  have:x.born≠e.born:=fun hq=>h4.1 (by rw [← hq]; exact List.mem_map.2 ⟨x,hx,rfl⟩)
  simpa using this
 ·intro x hx
  have:x.born≠e.born:=h5 _ (List.mem_map.2 ⟨x,hx,rfl⟩) _ (List.mem_cons_self ..)
  simpa using this
theorem zcn {α γ δ:Type} {f:α→γ} {h:δ→γ} {e:α}:∀ {a b:List α} {l:List δ},(a++e::b).map f=l.map h→∃ l1 p l2,l=l1++p::l2∧a.map f=l1.map h∧f e=h p∧b.map f=l2.map h
  | [], b, l, hq => by
    cases l with
    | nil=>simp at hq
    | cons p l=>simp only [List.nil_append,List.map_cons,List.cons.injEq] at hq; exact ⟨[],p,l,rfl,rfl,hq.1,hq.2⟩
  | x :: a, b, l, hq => by
    cases l with
    | nil=>simp at hq
    | cons q l =>
      simp only [List.cons_append,List.map_cons,List.cons.injEq] at hq
      obtain ⟨l1,p,l2,h1,h2,h3,h4⟩:=zcn hq.2
      exact ⟨q::l1,p,l2,by rw [h1]; rfl,by simp [hq.1,h2],h3,h4⟩
theorem zo2 {x:Operand} {it r:Nat} {cur:Option (κ×β)} {left:List (κ×β)} (m:Nat) (hx:V.ev x=some (boxP it 0)) (hm:H[m]? = some (mapit K G it r cur left)) :
    OpT P ⟨d,.next x false,ty,pos,af,g⟩ V H (fun v' H'=>(left=[]∧v' = .tuple #[.bool false]∧H'=H.set m (mapit K G it r none []))∨
      ∃ p l1 l2,left=l1++p::l2∧v' = .tuple #[.bool true,K p.1,G p.2]∧H'=H.set m (mapit K G it r (some p) (l1++l2))):=by
  intro ρ w o hf hbd hs
  obtain ⟨e1,e2,e3,e4,es,cl,si,se,c0,f1,f2,f3,f4,f8,f5,f6,_⟩:=hs m _ hm
  have hne:it≠r:=by
    rintro rfl
    rw [f1] at f2; cases f2
  rcases run_next_at (P:=P) w ty it r si c0 se es cl f2 f1 f3 f4 with ⟨h0,hrun⟩ | ⟨e,he,w1,hw1,hrun⟩
  · have hl:left=[]:=by
      have h1:(leftOf es se).toList=[]:=by
        have:=Array.eq_empty_of_size_eq_zero h0
        rw [this]
      rw [h1] at f6
      cases left with
      | nil=>rfl
      | cons p l=>simp [mcells] at f6
    have hrun2:(execOp ρ ⟨d,.next x false,ty,pos,af,g⟩).run P w = .ok (.value (.tuple #[.bool false])) w:=by
      simp [execOp,hf x _ hx,boxP,hrun]
    unfold Does
    rw [hrun2]
    refine ⟨_,o,.inl ⟨hl,rfl,rfl⟩,hbd,Tr.refl w o,?_⟩
    subst hl
    exact z3k (Nat.le_refl _) (fun _ _ _=>⟨rfl,rfl⟩) hs ⟨e1,e2,e3,e4,es,cl,si,se,c0,f1,f2,f3,f4,f8,f5,f6,fun p h=>by cases h⟩
  · obtain ⟨a,b,g1,g2⟩:=zfP f5 he
    rw [g1] at f6
    obtain ⟨l1,p,l2,hl,q1,q2,q3⟩:=zcn (f:=fun e:MapEntry=>(e.key,e.val)) (h:=fun p:κ×β=>(K p.1,G p.2)) f6
    have hk:e.key=K p.1:=congrArg Prod.fst q2
    have hv:e.val=G p.2:=congrArg Prod.snd q2
    have hrun2:(execOp ρ ⟨d,.next x false,ty,pos,af,g⟩).run P w = .ok (.value (.tuple #[.bool true,K p.1,G p.2])) (ChangeMaps.setBlock w1 it (.mapIter (some r) si (se.push e.born) cl)):=by
      simp [execOp,hf x _ hx,boxP,hrun,hk,hv]
    unfold Does
    rw [hrun2]
    have hheap:w1.heap=w.heap:=by rcases hw1 with rfl | rfl <;> rfl
    have hnew:(ChangeMaps.setBlock w1 it (.mapIter (some r) si (se.push e.born) cl)).heap=w.heap.setIfInBounds it (.mapIter (some r) si (se.push e.born) cl):=by rw [← hheap]; rfl
    have hoth:∀ b,b≠it→(ChangeMaps.setBlock w1 it (.mapIter (some r) si (se.push e.born) cl)).heap[b]? = w.heap[b]?:=fun b hb=>by
      rw [hnew]; exact Array.getElem?_setIfInBounds_ne (Ne.symm hb)
    have hsz:(ChangeMaps.setBlock w1 it (.mapIter (some r) si (se.push e.born) cl)).heap.size=w.heap.size:=by rw [hnew]; simp
    have hos:(ChangeMaps.setBlock w1 it (.mapIter (some r) si (se.push e.born) cl)).os=w.os:=by rcases hw1 with rfl | rfl <;> rfl
    have htp:(ChangeMaps.setBlock w1 it (.mapIter (some r) si (se.push e.born) cl)).tape=w.tape:=by rcases hw1 with rfl | rfl <;> rfl
    have hou:(ChangeMaps.setBlock w1 it (.mapIter (some r) si (se.push e.born) cl)).output=w.output:=by rcases hw1 with rfl | rfl <;> rfl
    refine ⟨_,o,.inr ⟨p,l1,l2,hl,rfl,rfl⟩,fun b hb=>hbd b (by omega),⟨hos,htp,hou,by omega,fun b hlt hb=>⟨hb,hoth b ?_⟩,fun b hlt hb=>⟨hb,hoth b ?_⟩⟩,?_⟩
    · rintro rfl; rw [e2] at hb; cases hb
    · rintro rfl; rw [e2] at hb; cases hb
    · refine z3k (by omega) (fun b hlt hb=>⟨rfl,hoth b ?_⟩) hs ⟨e1,e2,by omega,by omega,es,cl,si,se.push e.born,cl,(hoth r (Ne.symm hne)).trans f1,by rw [hnew]; simp [e4],f3,f8,f8,f5,?_,?_⟩
      · rintro rfl; exact hb e2
      · rw [g2,List.map_append,q1,q3]; simp [mcells]
      · intro p' h
        cases h
        refine ⟨rfl,e,?_,se,rfl,hk,hv⟩
        have h3:e∈(leftOf es se).toList:=he
        unfold leftOf at h3
        rw [Array.toList_filter] at h3
        exact (List.mem_filter.1 h3).1
theorem zlI {x:Operand} {it r:Nat} {p:κ×β} {left:List (κ×β)} (m:Nat) (hx:V.ev x=some (boxP it 0)) (hm:H[m]? = some (mapit K G it r (some p) left)) :
  OpY P ⟨d,.entry x,ty,pos,af,g⟩ V H (.tuple #[K p.1,G p.2]):=by
 intro ρ w o hf hbd hs
 obtain ⟨e1,e2,e3,e4,es,cl,si,se,c0,f1,f2,f3,f4,f8,f5,f6,f7⟩:=hs m _ hm
 obtain ⟨hc,e,he,s',hse,hk,hv⟩:=f7 p rfl
 subst hse
 subst hc
 have:=run_entry_at (P:=P) w it r si s' es c0 e f2 f1 he f5
 simp [execOp,hf x _ hx,boxP,this,hk,hv]
end
end Go.Abs
namespace Go.Abs
variable {E : Env} {k : List KI} {V : VF} {H : List HA} {ops : Array Oper}
section
variable {x y : Code} {id : Nat} {l : List Oper}
theorem za (h:Ops E l.toArray l (.code y::k) V H):Ops E ops [] (.code (.seq (.region id l.toArray false) y)::k) V H:=z6Z (z4F (z7F (z3L h)))
theorem zc (h:Run E x (.code y::k) V H):Ops E ops [] (.code (.seq x y)::k) V H:=z6Z (z4F (z7F h))
theorem zd (h:Run E y k V H):Ops E ops [] (.code y::k) V H:=z6Z (z4F h)
theorem ze (h:Ops E l.toArray l (.code y::k) V H):Goes E (.code (.seq (.region id l.toArray false) y)::k) V H:=z4F (z7F (z3L h))
theorem zh (h:Ops E l.toArray l (.code y::k) V H):Run E (.seq (.region id l.toArray false) y) k V H:=z7F (z3L h)
end
theorem gc {L:Act→World→Prop} {S:Type} {Vi:S→List (Nat×Value)} {Hi:S→List HA} {inv:S→Prop}
 (hL:∀ s',inv s'→∀ a w,Rel E (VF.of (Vi s')) (Hi s') a w→L a w) (s' : S) (is:List Nat)
 (hl:∀ x∈Vi s',V x.1=some x.2:=by repeat (first | refine vcons rfl ?_ | exact vnil)) (hn:is.Nodup:=by decide) (hG:Picks is H (Hi s'):=by exact rfl) (hi:inv s':=by first | exact rfl | exact trivial) :
 Goes E (.loop L::k) V H:=zdX hL s' is hl hn hG hi
theorem nc {L:Act→World→Prop} {S:Type} {Vi:S→List (Nat×Value)} {Hi:S→List HA} {inv:S→Prop}
 (hL:∀ s',inv s'→∀ a w,Rel E (VF.of (Vi s')) (Hi s') a w→L a w) (s' : S) (is:List Nat)
 (hl:∀ x∈Vi s',V x.1=some x.2:=by repeat (first | refine vcons rfl ?_ | exact vnil)) (hn:is.Nodup:=by decide) (hG:Picks is H (Hi s'):=by exact rfl) (hi:inv s':=by first | exact rfl | exact trivial) :
 Ops E ops [] (.loop L::k) V H:=z6Z (zdX hL s' is hl hn hG hi)
theorem ok {r:List Oper} (l:List (Nat×Value)) (is:List Nat) (G:List HA) (h:Ops E ops r k (VF.of l) G) (hl:∀ x∈l,V x.1=some x.2:=by repeat (first | refine vcons rfl ?_ | exact vnil)) (hn:is.Nodup:=by decide) (hG:Picks is H G:=by exact rfl):Ops E ops r k V H:=
 zeq l is G hl hn hG h
section
variable {op : Oper} {rest : List Oper}
theorem zq {v:Value} (h:OpY E.P op V H v) (hk:Ops E ops rest k (V.put op.dst v) H) (hw:Wants E.n ops V op:=by first | exact .inl rfl | exact .inr ⟨_,_,_,rfl,rfl,rfl,rfl⟩) (hd:inB E.n op.dst=true:=by exact rfl):Ops E ops (op::rest) k V H:=ops_y hw hd h hk
theorem zn (hk:Ops E ops rest k (V.put op.dst undef) H) {j:Nat} {b:Bool} {t:Nat} (hg:op.guard=some (j,b):=by exact rfl) (hj:((ops[j]?).bind (·.dst))=some t:=by exact rfl)
 (hv:V t=some (.bool (!b)):=by exact rfl) (ht:Nat.blt t E.n=true:=by exact rfl) (hd:inB E.n op.dst=true:=by exact rfl):Ops E ops (op::rest) k V H:=zl8 j b t hg hj hv ht hd hk
theorem zv (hk:z3W E ops rest k (V.put op.dst undef) H) {j:Nat} {b:Bool} {t:Nat} (hg:op.guard=some (j,b):=by exact rfl) (hj:((ops[j]?).bind (·.dst))=some t:=by exact rfl)
 (hv:V t=some (.bool (!b)):=by exact rfl) (ht:Nat.blt t E.n=true:=by exact rfl) (hd:inB E.n op.dst=true:=by exact rfl):z3W E ops (op::rest) k V H:=zeR j b t hg hj hv ht hd hk
theorem zt {post:Post} (h:OpT E.P op V H post) (hk:∀ v H',post v H'→Ops E ops rest k (V.put op.dst v) H') (hw:Wants E.n ops V op:=by first | exact .inl rfl | exact .inr ⟨_,_,_,rfl,rfl,rfl,rfl⟩) (hd:inB E.n op.dst=true:=by exact rfl):Ops E ops (op::rest) k V H:=ops_t hw hd h hk
end
section
variable {d : Option Nat} {ty : TypeId} {pos : String} {af : Array Edge} {g : Option (Nat × Bool)} {fx : Operand} {f : FuncId} {xs : Array Operand} {Ts : Array TypeId} {vs bv : List Value} {Hc : List HA} {post : Post} {pan : Value → Prop}
theorem tp (sh:List (Nat×Nat)) (hcall:∀ args w,(callFunc f args).run E.P w = .ok (.enter f args) w) (hc:z60 E.P f vs Hc post pan)
    (hfx:V.ev fx=some (.func (.func f) #[] #[]):=by exact rfl) (hxs:xs.toList.map V.ev=vs.map some:=by exact rfl)
    (hsh:z4H H sh Hc:=by
      repeat (first
        | with_reducible exact z7h
        | ((with_reducible apply z4E); · exact rfl)
        | ((with_reducible apply z92); · exact rfl
           · first | with_reducible exact z7z | with_reducible exact z8M | with_reducible exact z6D | exact z7z | exact z6D | exact zaV)
        | ((with_reducible apply z91); · exact rfl
           · first | with_reducible exact z7A | with_reducible exact z7j | with_reducible exact z7i z7z | with_reducible exact z7i z6D | exact z7A | exact z7j)))
    (hok:okX sh=true:=by exact rfl) (hst:(sh.all fun s=>s.2 != 1)=true:=by exact rfl) :
    OpTP E.P ⟨d,.call ⟨.value fx,xs,Ts⟩,ty,pos,af,g⟩ V H (fun v' H'=>∃ G,post v' G∧H'=zX sh H++G) pan (zX sh H):=zh7 (cs:=[]) sh hfx hcall hxs (by rw [List.append_nil]; exact hc) hsh hok (.inl hst)
end
inductive Nth:List Oper→Nat→Oper→Prop where
 | z {o:Oper} {l:List Oper}:Nth (o::l) 0 o
 | s {o x:Oper} {l:List Oper} {n:Nat} (h:Nth l n o):Nth (x::l) (n+1) o
theorem Nth.get {l:List Oper} {n:Nat} {o:Oper} (h:Nth l n o):l.toArray[n]? = some o:=by
 induction h with
 | z=>rfl
 | s _ ih=>simpa using ih
section
variable {op : Oper} {listed : Array Bool} {fuel : Nat} {Hs : List HA}
end
end Go.Abs
namespace Go.Abs
variable {E : Env} {k : List KI} {V : VF} {H : List HA} {ops : Array Oper}
inductive Kp (V:VF):List Nat→List (Nat×Value)→Prop
 | z:Kp V [] []
 | s {t:Nat} {v:Value} {ts:List Nat} {l:List (Nat×Value)} (h:V t=some v) (r:Kp V ts l):Kp V (t::ts) ((t,v)::l)
theorem Kp.all {ts:List Nat} {l:List (Nat×Value)} (h:Kp V ts l):∀ x∈l,V x.1=some x.2:=by
 induction h with
 | z=>exact vnil
 | s h _ ih=>exact vcons h ih
inductive Hp (H:List HA):List Nat→List HA→Prop
 | z:Hp H [] []
 | s {i:Nat} {h:HA} {is:List Nat} {G:List HA} (e:H[i]? = some h) (r:Hp H is G):Hp H (i::is) (h::G)
theorem Hp.picks {is:List Nat} {G:List HA} (h:Hp H is G):Picks is H G:=by
 induction h with
 | z=>rfl
 | s e _ ih=>unfold Picks at *; simp only [List.map_cons,e,ih]
inductive Kv (V:VF):List Nat→List Value→Prop
 | z:Kv V [] []
 | s {t:Nat} {v:Value} {ts:List Nat} {l:List Value} (h:V t=some v) (r:Kv V ts l):Kv V (t::ts) (v::l)
theorem Kv.all {ts:List Nat} {l:List Value} (h:Kv V ts l):ts.map V=l.map some:=by
 induction h with
 | z=>rfl
 | s h _ ih=>simp only [List.map_cons,h,ih]
inductive At:List HA→Nat→HA→Prop
 | z {h:HA} {H:List HA}:At (h::H) 0 h
 | s {h g:HA} {H:List HA} {n:Nat} (r:At H n h):At (g::H) (n+1) h
theorem At.get {n:Nat} {h:HA} (r:At H n h):H[n]? = some h:=by
 induction r with
 | z=>rfl
 | s _ ih=>simpa using ih
inductive Nm:List HA→List HA→Prop
 | z {H:List HA} (e:H=[]):Nm H []
 | s {H T T' : List HA} {h:HA} (e:H=h::T) (r:Nm T T'):Nm H (h::T')
theorem Nm.eq {H' : List HA} (h:Nm H H'):H=H':=by
 induction h with
 | z e=>exact e
 | s e _ ih=>rw [e,ih]
inductive Nl:List Value→List Value→Prop
 | z {H:List Value} (e:H=[]):Nl H []
 | s {H T T' : List Value} {h:Value} (e:H=h::T) (r:Nl T T'):Nl H (h::T')
theorem Nl.eq {l l' : List Value} (h:Nl l l'):l=l':=by
 induction h with
 | z e=>exact e
 | s e _ ih=>rw [e,ih]
section
variable {c : Code} {l : List (Nat × Value)} {G : List HA} {r : List Oper}
theorem oj (ts is:List Nat) (h:Ops E ops r k (VF.of l) G) (hk:Kp V ts l:=by repeat (first | exact Kp.z | apply Kp.s rfl)) (hp:Hp H is G:=by repeat (first | exact Hp.z | apply Hp.s rfl)) (hn:is.Nodup:=by decide):Ops E ops r k V H:=
 zeq l is G hk.all hn hp.picks h
theorem on {H' : List HA} (h:Ops E ops r k V H') (hN:Nm H H':=by repeat (first | exact Nm.z rfl | apply Nm.s rfl)):Ops E ops r k V H:=hN.eq ▸ h
theorem rn {H' : List HA} (h:Run E c k V H') (hN:Nm H H':=by repeat (first | exact Nm.z rfl | apply Nm.s rfl)):Run E c k V H:=hN.eq ▸ h
end
inductive Sl:List HA→Value→Prop
 | a {H:List HA} {u:Value} {es:Nat} {c:List (List Value)}:Sl (ro u es c::H) u
 | b {H:List HA} {u:Value} {es:Nat} {c:List (List Value)}:Sl (row u es c::H) u
 | c {H:List HA} {u:Value} {α:Type} {C:NC α} {l:List α}:Sl (nro u C l::H) u
 | d {H:List HA} {u:Value} {α:Type} {C:NC α} {l:List α}:Sl (nrow u C l::H) u
 | s {H:List HA} {u:Value} {g:HA} (r:Sl H u):Sl (g::H) u
theorem Sl.ex {u:Value} (h:Sl H u):∃ (m:Nat) (g:HA),H[m]? = some g∧((∃ es cs,Reads g u es cs)∨∃ es n,z8R g u es n):=by
 induction h with
 | a=>exact ⟨0,_,rfl,.inl ⟨_,_,z9L⟩⟩
 | b=>exact ⟨0,_,rfl,.inl ⟨_,_,z6z⟩⟩
 | c=>exact ⟨0,_,rfl,.inr ⟨_,_,z81⟩⟩
 | d=>exact ⟨0,_,rfl,.inr ⟨_,_,z8H⟩⟩
 | s _ ih=>obtain ⟨m,g,h1,h2⟩:=ih; exact ⟨m+1,g,by simpa using h1,h2⟩
theorem Sl.one {u:Value} (h:Sl H u) {w:World} {o:Own} (hs:Sats w o H):u.cells = #[u]∧u.oneCell'=true:=by
 obtain ⟨m,g,h1,h2⟩:=h.ex
 rcases h2 with ⟨es,cs,h2⟩ | ⟨es,n,h2⟩
 ·obtain ⟨x,cap,e,_⟩:=h2.is w o m (hs m g h1)
  subst e; exact ⟨rfl,rfl⟩
 ·obtain ⟨x,cap,e,_⟩:=h2.is w o m (hs m g h1)
  subst e; exact ⟨rfl,rfl⟩
inductive Cel (H:List HA):Value→List Value→Prop
 | a {l:List Value}:Cel H (.agg l.toArray) l
 | r {u:Value} (h:u.cells = #[u]):Cel H u [u]
 | s {u:Value} (h:Sl H u):Cel H u [u]
theorem Cel.is {u:Value} {l:List Value} (h:Cel H u l) {w:World} {o:Own} (hs:Sats w o H):u.cells.toList=l:=by
 cases h with
 | a=>rfl
 | r h=>rw [h]
 | s h=>rw [(h.one hs).1]
inductive Ones (H:List HA):List Value→Prop
 | z:Ones H []
 | r {u:Value} {l:List Value} (h:u.oneCell'=true) (r:Ones H l):Ones H (u::l)
 | s {u:Value} {l:List Value} (h:Sl H u) (r:Ones H l):Ones H (u::l)
theorem Ones.is {l:List Value} (h:Ones H l) {w:World} {o:Own} (hs:Sats w o H):∀ u∈l,u.oneCell'=true:=by
 induction h with
 | z=>exact zhc
 | r h _ ih=>exact zbX h ih
 | s h _ ih=>exact zbX (h.one hs).2 ih
inductive Wl:List Value→Nat→List Value→List Value→Prop
 | z {cs:List Value}:Wl cs 0 [] cs
 | p {c v:Value} {cs vs ds:List Value} (r:Wl cs 0 vs ds):Wl (c::cs) 0 (v::vs) (v::ds)
 | s {c:Value} {cs vs ds:List Value} {n:Nat} (r:Wl cs n vs ds):Wl (c::cs) (n+1) vs (c::ds)
theorem zbS (c:Value):∀ (vs cs:List Value) (n:Nat),wrL (c::cs) (n+1) vs=c::wrL cs n vs
  | [],cs,n=>rfl
  | v :: vs, cs, n => by
    have h:=zbS c vs (cs.set n v) (n+1)
    unfold wrL at h ⊢
    simp only [z4R,List.setIfInBounds_toArray,List.set_cons_succ] at h ⊢
    exact h
theorem Wl.eq {cs vs ds:List Value} {n:Nat} (h:Wl cs n vs ds):wrL cs n vs=ds∧n+vs.length≤cs.length:=by
  induction h with
  | z=>exact ⟨rfl,by simp⟩
  | @p c v cs vs ds _ ih =>
    refine ⟨?_,by have:=ih.2; simp at this ⊢; omega⟩
    have h:=zbS v vs cs 0
    unfold wrL at h ⊢
    simp only [z4R,List.setIfInBounds_toArray,List.set_cons_zero] at h ⊢
    rw [h]
    have:=ih.1
    unfold wrL at this
    rw [this]
  | s _ ih=>exact ⟨by rw [zbS,ih.1],by have:=ih.2; simp only [List.length_cons]; omega⟩
inductive St:List HA→Nat→HA→List HA→Prop
 | z {h g:HA} {H:List HA}:St (h::H) 0 g (g::H)
 | s {h g:HA} {H H' : List HA} {n:Nat} (r:St H n g H'):St (h::H) (n+1) g (h::H')
theorem St.eq {n:Nat} {g:HA} {H' : List HA} (h:St H n g H'):H.set n g=H':=by
 induction h with
 | z=>rfl
 | s _ ih=>simp [ih]
section
variable {d : Option Nat} {ty : TypeId} {pos : String} {af : Array Edge} {g : Option (Nat × Bool)} {T : TypeId} {x y : Operand} {rest : List Oper} {b off m : Nat} {u : Value} {cells vs vs' : List Value} {H' : List HA}
theorem zbH (hx:V.ev x=some (boxP b off)) (hy:V.ev y=some u) (hm:At H m (box b vs)) (hc:Cel H u cells) (hw:Wl vs off cells vs') (hS:St H m (box b vs') H') (h1:Ones H cells) (hz:∀ w,(sizeOf T).run E.P w = .ok cells.length w) :
  OpT E.P ⟨d,.store T x y,ty,pos,af,g⟩ V H (fun v' G=>v'=undef∧G=H'):=by
 intro ρ w o hf hb hs
 have hset:=hS.eq
 have e:=hc.is hs
 have hw':=hw.eq
 have h:=zcD (V:=V) (H:=H) (d:=d) (ty:=ty) (pos:=pos) (af:=af) (g:=g) (T:=T) (x:=x) (y:=y) m hz hx hy hm.get (by rw [← e]; simp) hw'.2 (by rw [e]; exact h1.is hs) ρ w o hf hb hs
 rw [e,hw'.1,hset] at h
 exact h
theorem zep {z:Value} {zs:List Value} (h0:∀ w,(zeroValue T).run E.P w = .ok z w) (hz:Nl z.cells.toList zs):OpT E.P ⟨d,.alloc T,ty,pos,af,g⟩ V H (fun v' G=>∃ b,v'=boxP b 0∧G=H++[box b zs]):=hz.eq ▸ zh5 h0
end
inductive Tk:List Value→Nat→Nat→List Value→Prop
 | z {cs:List Value}:Tk cs 0 0 []
 | t {c:Value} {cs r:List Value} {n:Nat} (h:Tk cs 0 n r):Tk (c::cs) 0 (n+1) (c::r)
 | s {c:Value} {cs r:List Value} {off n:Nat} (h:Tk cs off n r):Tk (c::cs) (off+1) n r
theorem Tk.eq {cs r:List Value} {off n:Nat} (h:Tk cs off n r):r.length=n∧(cs.drop off).take n=r∧off+n≤cs.length:=by
 induction h with
 | z=>exact ⟨rfl,by simp,by simp⟩
 | t _ ih=>obtain ⟨h1,h2,h3⟩:=ih; refine ⟨by simp [h1],?_,by simp at h3 ⊢; omega⟩; simpa using h2
 | s _ ih=>obtain ⟨h1,h2,h3⟩:=ih; exact ⟨h1,by simpa using h2,by simp; omega⟩
section
variable {P : Program} {d : Option Nat} {ty : TypeId} {pos : String} {af : Array Edge} {g : Option (Nat × Bool)} {T : TypeId} {x : Operand} {b off m n : Nat} {vs c : List Value} {r : Value}
theorem y_lb (hx:V.ev x=some (boxP b off)) (ha:∀ w,(isAgg T).run P w = .ok false w) (hm:At H m (box b vs)) (hc:vs[off]? = some r):OpY P ⟨d,.load T x,ty,pos,af,g⟩ V H r:=za3 m ha hx hm.get hc
theorem y_la (hx:V.ev x=some (boxP b off)) (ha:∀ w,(isAgg T).run P w = .ok true w) (hz:∀ w,(sizeOf T).run P w = .ok n w) (hm:At H m (box b vs)) (hc:Tk vs off n c):OpY P ⟨d,.load T x,ty,pos,af,g⟩ V H (.agg c.toArray):=
 z7Y m ha (by rw [hc.eq.1]; exact hz) hx hm.get (by rw [hc.eq.1]; exact hc.eq.2.1)
theorem y_fa {i:Nat} {fs:Array Field} {f:Field} {cs:List Value} (hx:V.ev x=some (.agg cs.toArray)) (hu:∀ w,(underlying T).run P w = .ok (.struct fs) w) (hf' : fs[i]? = some f) (ha:∀ w,(isAgg f.type).run P w = .ok true w)
 (hz:∀ w,(sizeOf f.type).run P w = .ok n w) (hc:Tk cs f.offset n c):OpY P ⟨d,.field T x i,ty,pos,af,g⟩ V H (.agg c.toArray):=ziX hu hf' ha (by rw [hc.eq.1]; exact hz) hx (by rw [hc.eq.1]; exact hc.eq.2.1) (by rw [hc.eq.1]; exact hc.eq.2.2)
theorem y_ff {i:Nat} {fs:Array Field} {f:Field} {cs:List Value} (hx:V.ev x=some (.agg cs.toArray)) (hu:∀ w,(underlying T).run P w = .ok (.struct fs) w) (hf' : fs[i]? = some f) (ha:∀ w,(isAgg f.type).run P w = .ok false w)
 (hr:cs[f.offset]? = some r):OpY P ⟨d,.field T x i,ty,pos,af,g⟩ V H r:=zlJ hu hf' ha hx hr
end
inductive Rd:List HA→Value→Nat→List (List Value)→Prop
 | a {H:List HA} {u:Value} {es:Nat} {c:List (List Value)}:Rd (ro u es c::H) u es c
 | b {H:List HA} {u:Value} {es:Nat} {c:List (List Value)}:Rd (row u es c::H) u es c
 | s {H:List HA} {u:Value} {es:Nat} {c:List (List Value)} {g:HA} (r:Rd H u es c):Rd (g::H) u es c
theorem Rd.ex {u:Value} {es:Nat} {c:List (List Value)} (h:Rd H u es c):∃ (m:Nat) (g:HA),H[m]? = some g∧Reads g u es c:=by
 induction h with
 | a=>exact ⟨0,_,rfl,z9L⟩
 | b=>exact ⟨0,_,rfl,z6z⟩
 | s _ ih=>obtain ⟨m,g,h1,h2⟩:=ih; exact ⟨m+1,g,by simpa using h1,h2⟩
inductive Rn:List HA→Value→Nat→Nat→Prop
 | a {H:List HA} {u:Value} {α:Type} {C:NC α} {l:List α} {es:Nat} (e:C.es=es):Rn (nro u C l::H) u es l.length
 | b {H:List HA} {u:Value} {α:Type} {C:NC α} {l:List α} {es:Nat} (e:C.es=es):Rn (nrow u C l::H) u es l.length
 | s {H:List HA} {u:Value} {es n:Nat} {g:HA} (r:Rn H u es n):Rn (g::H) u es n
theorem Rn.ex {u:Value} {es n:Nat} (h:Rn H u es n):∃ (m:Nat) (g:HA),H[m]? = some g∧z8R g u es n:=by
 induction h with
 | a e=>exact ⟨0,_,rfl,e ▸ z81⟩
 | b e=>exact ⟨0,_,rfl,e ▸ z8H⟩
 | s _ ih=>obtain ⟨m,g,h1,h2⟩:=ih; exact ⟨m+1,g,by simpa using h1,h2⟩
inductive Ac:List HA→Value→Nat→List Value→Prop
 | z {H:List HA} {v:Value} {n n' : Nat} {cs:List Value} (e:n'=n):Ac (atc v n' cs::H) v n cs
 | s {H:List HA} {v:Value} {n:Nat} {cs:List Value} {g:HA} (r:Ac H v n cs):Ac (g::H) v n cs
theorem Ac.ex {v:Value} {n:Nat} {cs:List Value} (h:Ac H v n cs):∃ m:Nat,H[m]? = some (atc v n cs):=by
 induction h with
 | z e=>exact ⟨0,by rw [e]; rfl⟩
 | s _ ih=>obtain ⟨m,h1⟩:=ih; exact ⟨m+1,by simpa using h1⟩
section
variable {P : Program} {d : Option Nat} {ty : TypeId} {pos : String} {af : Array Edge} {g : Option (Nat × Bool)} {T el : TypeId} {x y : Operand} {v r : Value} {es i n j m : Nat} {q : Int} {kd : IntKind} {Ts : Array TypeId} {α : Type} {F : α → List Value} {l : List α} {a : α}
theorem y_ln (hx:V.ev x=some v) (hT:Ts[0]? = some T) (hu:∀ w,(underlying T).run P w = .ok (.slice el) w) (hr:Rn H v es n):OpY P ⟨d,.call ⟨.builtin .len,#[x],Ts⟩,ty,pos,af,g⟩ V H (.int .i64 n):=
 let ⟨m,_,h1,h2⟩:=hr.ex; zok m hT hu hx h1 h2
theorem y_lm (hx:V.ev x=some v) (hT:Ts[0]? = some T) (hu:∀ w,(underlying T).run P w = .ok (.slice el) w) (hr:Rd H v es (l.map F)):OpY P ⟨d,.call ⟨.builtin .len,#[x],Ts⟩,ty,pos,af,g⟩ V H (.int .i64 (l.length:Int)):=
 let ⟨m,_,h1,h2⟩:=hr.ex; (y_len m hT hu hx h1 h2).to (v_len F l)
theorem y_ll {c:List (List Value)} (hx:V.ev x=some v) (hT:Ts[0]? = some T) (hu:∀ w,(underlying T).run P w = .ok (.slice el) w) (hr:Rd H v es c):OpY P ⟨d,.call ⟨.builtin .len,#[x],Ts⟩,ty,pos,af,g⟩ V H (.int .i64 c.length):=
 let ⟨m,_,h1,h2⟩:=hr.ex; y_len m hT hu hx h1 h2
theorem y_ixn (hx:V.ev x=some v) (hy:V.ev y=some (.int kd q)) (hu:∀ w,(underlying T).run P w = .ok (.slice el) w) (hz:∀ w,(sizeOf el).run P w = .ok es w) (hr:Rn H v es n) (h0:0≤q) (hn:q.toNat<n) :
 OpY P ⟨d,.indexAddr T x y,ty,pos,af,g⟩ V H (elemP v (q.toNat*es)):=let ⟨m,_,h1,h2⟩:=hr.ex; z7B m hu hz hx hy h1 h2 h0 hn
theorem y_ixm (hx:V.ev x=some v) (hy:V.ev y=some (.int kd q)) (hu:∀ w,(underlying T).run P w = .ok (.slice el) w) (hz:∀ w,(sizeOf el).run P w = .ok es w) (hr:Rd H v es (l.map F)) (h0:0≤q) (hn:q.toNat<l.length) :
 OpY P ⟨d,.indexAddr T x y,ty,pos,af,g⟩ V H (elemP v (q.toNat*es)):=let ⟨m,_,h1,h2⟩:=hr.ex; z8t m hu hz hx hy h1 h2 h0 (znt hn)
theorem y_ixl {c:List (List Value)} (hx:V.ev x=some v) (hy:V.ev y=some (.int kd q)) (hu:∀ w,(underlying T).run P w = .ok (.slice el) w) (hz:∀ w,(sizeOf el).run P w = .ok es w) (hr:Rd H v es c) (h0:0≤q) (hn:q.toNat<c.length) :
 OpY P ⟨d,.indexAddr T x y,ty,pos,af,g⟩ V H (elemP v (q.toNat*es)):=let ⟨m,_,h1,h2⟩:=hr.ex; z8t m hu hz hx hy h1 h2 h0 hn
theorem y_lh {c:List (List Value)} {b r:List Value} (hx:V.ev x=some (elemP v (i*es))) (ha:∀ w,(isAgg T).run P w = .ok true w) (hz:∀ w,(sizeOf T).run P w = .ok es w) (hr:Rd H v es c) (hl:c[i]? = some b) (hF:Nl b r):OpY P ⟨d,.load T x,ty,pos,af,g⟩ V H (.agg r.toArray):=
 let ⟨m,_,h1,h2⟩:=hr.ex; za1 m ha hz hx h1 h2 (by rw [hl,hF.eq])
theorem y_le (hx:V.ev x=some (elemP v (i*es))) (ha:∀ w,(isAgg T).run P w = .ok false w) (hr:Rd H v es (l.map F)) (hl:l[i]? = some a) (hF:F a=[r]):OpY P ⟨d,.load T x,ty,pos,af,g⟩ V H r:=
 let ⟨m,_,h1,h2⟩:=hr.ex; zda m ha hx h1 h2 (by rw [zcm hl,hF])
theorem y_lf (hx:V.ev x=some (elemP v (i*es+j))) (ha:∀ w,(isAgg T).run P w = .ok false w) (hr:Rd H v es (l.map F)) (hl:l[i]? = some a) (hF:(F a)[j]? = some r):OpY P ⟨d,.load T x,ty,pos,af,g⟩ V H r:=
 let ⟨m,_,h1,h2⟩:=hr.ex; zbT m ha hx h1 h2 (zcm hl) hF
theorem y_lg {c:List Value} (hx:V.ev x=some (elemP v (i*es))) (ha:∀ w,(isAgg T).run P w = .ok true w) (hz:∀ w,(sizeOf T).run P w = .ok es w) (hr:Rd H v es (l.map F)) (hl:l[i]? = some a) (hF:Nl (F a) c):OpY P ⟨d,.load T x,ty,pos,af,g⟩ V H (.agg c.toArray):=
 let ⟨m,_,h1,h2⟩:=hr.ex; za1 m ha hz hx h1 h2 (by rw [zcm hl,hF.eq])
theorem y_at {cs:List Value} (hx:V.ev x=some (elemP v (n+j))) (ha:∀ w,(isAgg T).run P w = .ok false w) (hm:Ac H v n cs) (hc:cs[j]? = some r):OpY P ⟨d,.load T x,ty,pos,af,g⟩ V H r:=let ⟨m,h1⟩:=hm.ex; zcH m ha hx h1 hc
theorem y_ata {c cs:List Value} {sz:Nat} (hx:V.ev x=some (elemP v (n+j))) (ha:∀ w,(isAgg T).run P w = .ok true w) (hz:∀ w,(sizeOf T).run P w = .ok sz w) (hm:Ac H v n cs) (hc:Tk cs j sz c):OpY P ⟨d,.load T x,ty,pos,af,g⟩ V H (.agg c.toArray):=let ⟨m,h1⟩:=hm.ex; za2 m ha (by rw [hc.eq.1]; exact hz) hx h1 (by rw [hc.eq.1]; exact hc.eq.2.1)
end
section
variable {P : Program} {d : Option Nat} {ty : TypeId} {pos : String} {af : Array Edge} {g : Option (Nat × Bool)} {T : TypeId} {x : Operand} {v r : Value} {n m sz : Nat} {c cs : List Value}
theorem y_at0 (hx:V.ev x=some (elemP v n)) (ha:∀ w,(isAgg T).run P w = .ok false w) (hm:Ac H v n cs) (hc:cs[0]? = some r):OpY P ⟨d,.load T x,ty,pos,af,g⟩ V H r:=let ⟨m,h1⟩:=hm.ex; zcH (j:=0) m ha hx h1 hc
theorem zog (hx:V.ev x=some (elemP v n)) (ha:∀ w,(isAgg T).run P w = .ok true w) (hz:∀ w,(sizeOf T).run P w = .ok sz w) (hm:Ac H v n cs) (hc:Tk cs 0 sz c):OpY P ⟨d,.load T x,ty,pos,af,g⟩ V H (.agg c.toArray):=let ⟨m,h1⟩:=hm.ex; za2 (j:=0) m ha (by rw [hc.eq.1]; exact hz) hx h1 (by rw [hc.eq.1]; exact hc.eq.2.1)
end
inductive Pc (V:VF) (H:List HA):List (Nat×Operand)→List (Nat×List Value)→Prop
 | z:Pc V H [] []
 | s {i:Nat} {x:Operand} {v:Value} {cs:List Value} {ps:List (Nat×Operand)} {qs:List (Nat×List Value)} (h:V.ev x=some v) (c:Cel H v cs) (r:Pc V H ps qs):Pc V H ((i,x)::ps) ((i,cs)::qs)
theorem Pc.ex {ps:List (Nat×Operand)} {qs:List (Nat×List Value)} (h:Pc V H ps qs) {w:World} {o:Own} (hs:Sats w o H):∃ vs:List (Nat×Value),ps.map (fun p=>(p.1,V.ev p.2))=vs.map (fun p=>(p.1,some p.2))∧vs.map (fun p=>(p.1,p.2.cells.toList))=qs:=by
 induction h with
 | z=>exact ⟨[],rfl,rfl⟩
 | @s i x v cs ps qs h c _ ih=>obtain ⟨vs,h1,h2⟩:=ih; exact ⟨(i,v)::vs,by simp [h1,h],by simp [h2,c.is hs]⟩
theorem y_ex {P:Program} {d:Option Nat} {ty:TypeId} {pos:String} {af:Array Edge} {g:Option (Nat×Bool)} {x:Operand} {vs:List Value} {i:Nat} {v:Value} (hx:V.ev x=some (.tuple vs.toArray)) (hv:vs[i]? = some v):OpY P ⟨d,.extract x i,ty,pos,af,g⟩ V H v:=z86 hx (by simpa using hv)
section
variable {P : Program} {d : Option Nat} {ty : TypeId} {pos : String} {af : Array Edge} {g : Option (Nat × Bool)} {α : Type} {C : NC α} {l : List α} {T el U : TypeId} {x y : Operand} {v : Value}
end
inductive Ko (V:VF):List Operand→List Value→Prop
 | z:Ko V [] []
 | s {x:Operand} {v:Value} {xs:List Operand} {vs:List Value} (h:V.ev x=some v) (r:Ko V xs vs):Ko V (x::xs) (v::vs)
theorem Ko.all {xs:List Operand} {vs:List Value} (h:Ko V xs vs):xs.map V.ev=vs.map some:=by
 induction h with
 | z=>rfl
 | s h _ ih=>simp only [List.map_cons,h,ih]
section
variable {P : Program} {d : Option Nat} {ty : TypeId} {pos : String} {af : Array Edge} {g : Option (Nat × Bool)} {f : FuncId} {xs : List Operand} {vs : List Value}
theorem y_mb (h:Ko V xs vs):OpY P ⟨d,.makeFunc (.func f) xs.toArray #[],ty,pos,af,g⟩ V H (.func (.func f) vs.toArray #[]):=zav h.all
theorem y_mf (h:Ko V xs vs):OpY P ⟨d,.makeFunc (.func f) #[] xs.toArray,ty,pos,af,g⟩ V H (.func (.func f) #[] vs.toArray):=zbu h.all
end
theorem px {p:Prop} (h:p:=by first | exact ⟨_,rfl,rfl,rfl⟩ | exact ⟨_,rfl,_,rfl,rfl⟩ | exact ⟨_,rfl,_,_,rfl,rfl⟩ | exact ⟨_,rfl,_,_,_,rfl,rfl⟩ | exact ⟨rfl,rfl⟩ | exact ⟨_,rfl,rfl⟩ | exact ⟨_,_,rfl,rfl⟩ | exact ⟨_,_,_,rfl,rfl⟩ | exact ⟨_,rfl,_,_,_,_,rfl,rfl⟩):p:=h
theorem fs {P:Program} {n:Nat} {w0:World} {o0:Own} {fn:Func} {R:Type} {a r:R} {post:Post} {pan:Value→Prop} (ts is:List Nat) (hr:fn.results=(ts.map ResultVar.tmp).toArray) (h:some a=some r) {vs:List Value} {G:List HA}
  (hv:Kv V ts vs:=by repeat (first | exact Kv.z | apply Kv.s rfl)) (hG:Hp H is G:=by repeat (first | exact Hp.z | apply Hp.s rfl)) (hn:is.Nodup:=by decide)
  (hp:a=r→post (tup vs) G:=by first | (rintro rfl; exact px) | (intro _; exact px)) :
  Fin (EnvP P n w0 o0 fn post pan) V H:=by
 exact zc6 ts vs is G hr hv.all hn hG.picks (hp (z4N h))
theorem ft {P:Program} {n:Nat} {w0:World} {o0:Own} {fn:Func} {post:Post} {pan:Value→Prop} (ts is:List Nat) (hr:fn.results=(ts.map ResultVar.tmp).toArray) {vs:List Value} {G:List HA}
 (hv:Kv V ts vs:=by repeat (first | exact Kv.z | apply Kv.s rfl)) (hG:Hp H is G:=by repeat (first | exact Hp.z | apply Hp.s rfl)) (hn:is.Nodup:=by decide) (hp:post (tup vs) G:=by exact px):Fin (EnvP P n w0 o0 fn post pan) V H:=zc6 ts vs is G hr hv.all hn hG.picks hp
inductive Rz (P:Program) (V:VF) (H:List HA):List ResultVar→List Value→Prop
 | z:Rz P V H [] []
 | t {t:Nat} {v:Value} {rs:List ResultVar} {vs:List Value} (h:V t=some v) (r:Rz P V H rs vs):Rz P V H (.tmp t::rs) (v::vs)
 | b {c t b n m:Nat} {cs:List Value} {rs:List ResultVar} {vs:List Value} (h:V c=some (boxP b 0)) (ha:∀ w,(isAgg t).run P w = .ok true w) (hz:∀ w,(sizeOf t).run P w = .ok n w) (hm:At H m (box b cs)) (hn:cs.length=n) (r:Rz P V H rs vs):Rz P V H (.cell c t::rs) (.agg cs.toArray::vs)
 | s {c t b m:Nat} {u:Value} {rs:List ResultVar} {vs:List Value} (h:V c=some (boxP b 0)) (ha:∀ w,(isAgg t).run P w = .ok false w) (hm:At H m (box b [u])) (r:Rz P V H rs vs):Rz P V H (.cell c t::rs) (u::vs)
theorem Rz.all {P:Program} {rs:List ResultVar} {vs:List Value} (h:Rz P V H rs vs):rs.length=vs.length∧∀ (i:Nat) (r:ResultVar) (v:Value),rs[i]? = some r→vs[i]? = some v→ResIs P V H r v:=by
 induction h with
 | z=>exact ⟨rfl,resnil⟩
 | t h _ ih=>exact ⟨by simp [ih.1],rescons (zle h) ih.2⟩
 | b h ha hz hm hn _ ih=>exact ⟨by simp [ih.1],rescons (zld _ ha hz h hm.get hn) ih.2⟩
 | s h ha hm _ ih=>exact ⟨by simp [ih.1],rescons (ziw _ ha h hm.get) ih.2⟩
theorem fr {P:Program} {n:Nat} {w0:World} {o0:Own} {fn:Func} {R:Type} {a r:R} {post:Post} {pan:Value→Prop} {rs:List ResultVar} (is:List Nat) (hr:fn.results=rs.toArray) (h:some a=some r) {vs:List Value} {G:List HA}
  (hv:Rz P V H rs vs) (hG:Hp H is G) (hn:is.Nodup)
  (hp:a=r→post (tup vs) G) :
  Fin (EnvP P n w0 o0 fn post pan) V H:=by
 exact zgI rs vs is G hr hv.all.1 hv.all.2 hn hG.picks (hp (z4N h))
theorem rc {α:Type} {c:Operand} {x y:Code} {b:Bool} {X Y:Option α} {r:α} (h:cond b X Y=some r) (ht:b=true→X=some r→Run E x k V H) (hf:b=false→Y=some r→Run E y k V H) (hc:V.ev c=some (.bool b):=by exact rfl):Run E (.cond c x y) k V H:=
 ziy b hc (fun hb=>ht hb (zhp h hb)) (fun hb=>hf hb (zho h hb))
end Go.Abs
namespace Go.Abs
variable {E : Env} {k : List KI} {V : VF} {H : List HA} {ops : Array Oper}
def mx:List Nat→List HA→List HA→List HA
 | 0::p,K,n::N=>n::mx p K N
 | (_+1)::p,k::K,N=>k::mx p K N
 | _,_,_=>[]
inductive Hq (H:List HA):List Nat→List HA→Prop
 | z:Hq H [] []
 | n {p:List Nat} {K:List HA} (r:Hq H p K):Hq H (0::p) K
 | s {i:Nat} {h:HA} {p:List Nat} {K:List HA} (e:H[i]? = some h) (r:Hq H p K):Hq H ((i+1)::p) (h::K)
theorem kq {ts:List Nat} {l:List (Nat×Value)} (h:Kp V ts l:=by repeat (first | exact Kp.z | apply Kp.s rfl)):Kp V ts l:=h
theorem hq {p:List Nat} {K:List HA} (h:Hq H p K:=by repeat (first | exact Hq.z | apply Hq.n | apply Hq.s rfl)):Hq H p K:=h
theorem vq {l:List (Nat×Value)} (h:∀ x∈l,V x.1=some x.2:=by repeat (first | refine vcons rfl ?_ | exact vnil)):∀ x∈l,V x.1=some x.2:=h
def tf (l:List Nat):Array Bool:=(go true l).toArray where
 go:Bool→List Nat→List Bool
 | _,[]=>[]
 | b,n::l=>List.replicate n b++go (!b) l
section
variable {x y c : Code} {S G R R' : Type} {l : List (Nat × Value)} {K : List HA} {r : List Oper}
theorem lo {step:S→Option (Lp S R)} {n:Nat} {s0:S} {out:R} (h:iter step n s0=some out) (ts p:List Nat) (VN:S→G→List (Nat×Value)) (HN:S→G→List HA) (g0:G) (is:List Nat)
  (round:∀ s g o,step s=some o→∀ L:Act→World→Prop,(∀ s' g',o = .go s'→∀ a w,Rel E (VF.of (VN s' g'++l)) (mx p K (HN s' g')) a w→L a w)→(∀ r,o = .stop r→r=out)→Run E c (.loop L::k) (VF.of (VN s g++l)) (mx p K (HN s g)))
  (hk:Kp V ts l:=by exact kq) (hp:Hq H p K:=by exact hq) (hl:∀ x∈VN s0 g0++l,V x.1=some x.2:=by exact vq) (hn:is.Nodup:=by decide) (hG:Picks is H (mx p K (HN s0 g0)):=by exact rfl):Run E (.loop c) k V H:=
 zbN h g0 (fun s g=>VN s g++l) (fun s g=>mx p K (HN s g)) is hl hn hG round
theorem gb {L:Act→World→Prop} {o:Lp S R} {VN:S→List (Nat×Value)} {HN:S→List HA} {p:List Nat} (hL:∀ s,o = .go s→∀ a w,Rel E (VF.of (VN s++l)) (mx p K (HN s)) a w→L a w) (is:List Nat) {s:S} (h:some (.go s)=some o)
  (hl:∀ x∈VN s++l,V x.1=some x.2:=by exact vq) (hn:is.Nodup:=by decide) (hG:Picks is H (mx p K (HN s)):=by exact rfl):Goes E (.loop L::k) V H:=
 fun a w q=>hL s (Option.some.inj h).symm a w ((q.vle (VF.le_of _ hl)).pick hn hG)
theorem ob {X:Option (Lp S R)} {kk:S→Option R} {out:R} (h:bindJ X kk=some out) (m:Nat) (ts p:List Nat) (VN:S→List (Nat×Value)) (HN:S→List HA)
  (h1:∀ o,X=some o→After o kk out→∀ L:Act→World→Prop,(∀ s,o = .go s→∀ a w,Rel E (VF.of (VN s++l)) (mx p K (HN s)) a w→L a w)→Ops E ops (r.take m) (.loop L::k) V H)
  (h2:∀ s,kk s=some out→Ops E ops (r.drop m) k (VF.of (VN s++l)) (mx p K (HN s))) (hk:Kp V ts l:=by exact kq) (hp:Hq H p K:=by exact hq):Ops E ops r k V H:=by
 obtain ⟨o,ho,ha⟩:=z5D h
 refine zcq m S (fun s=>VN s++l) (fun s=>mx p K (HN s)) (fun s=>o = .go s) (h1 o ho ha) ?_
 rintro s rfl
 exact h2 s (z7n ha)
theorem a2 {fuel0:Nat} {listed0:Array Bool} {Hs:List HA} (bl:List Nat) (fuel:Nat) (ts p:List Nat) (VN:S→List (Nat×Value)) (HN:S→List HA)
 (h2:∀ s,AnyL E ops (tf bl) fuel k (VF.of (VN s++l)) (mx p K (HN s)) Hs) (h1:(∀ s,AnyL E ops (tf bl) fuel k (VF.of (VN s++l)) (mx p K (HN s)) Hs)→AnyL E ops listed0 fuel0 k V H Hs) (hk:Kp V ts l:=by exact kq) (hp:Hq H p K:=by exact hq):AnyL E ops listed0 fuel0 k V H Hs:=h1 h2
end
inductive Mk:List HA→List Nat→List HA→Prop
 | z {H:List HA}:Mk H [] []
 | k {h:HA} {H G:List HA} {b:List Nat} (r:Mk H b G):Mk (h::H) (1::b) (h::G)
 | e {h:HA} {H G:List HA} {b:List Nat} (r:Mk H b G):Mk (h::H) (0::b) (HA.emp::G)
theorem mk {b:List Nat} {G:List HA} (h:Mk H b G:=by repeat (first | exact Mk.z | apply Mk.k | apply Mk.e)):Mk H b G:=h
inductive Nd:List HA→List HA→Prop
 | z {H:List HA} (e:H=[]):Nd H []
 | s {H T T' : List HA} {h h' : HA} (e:H=h::T) (e' : h=h') (r:Nd T T'):Nd H (h'::T')
theorem Nd.eq {H' : List HA} (h:Nd H H'):H=H':=by
 induction h with
 | z e=>exact e
 | s e e' _ ih=>rw [e,e',ih]
inductive Nv:List (Nat×Value)→List (Nat×Value)→Prop
 | z {H:List (Nat×Value)} (e:H=[]):Nv H []
 | s {H T T' : List (Nat×Value)} {t:Nat} {v v' : Value} (e:H=(t,v)::T) (e' : v=v') (r:Nv T T'):Nv H ((t,v')::T')
theorem Nv.eq {L L' : List (Nat×Value)} (h:Nv L L'):L=L':=by
 induction h with
 | z e=>exact e
 | s e e' _ ih=>rw [e,e',ih]
theorem nd {H' : List HA} (h:Nd H H':=by repeat (first | exact Nd.z rfl | apply Nd.s rfl (by first | (dsimp only; done) | (dsimp only; exact rfl) | exact rfl))):Nd H H':=h
theorem nv {L L' : List (Nat×Value)} (h:Nv L L':=by repeat (first | exact Nv.z rfl | apply Nv.s rfl (by first | (dsimp only; done) | (dsimp only; exact rfl) | exact rfl))):Nv L L':=h
section
variable {c : Code} {L L' : List (Nat × Value)} {H' : List HA} {r : List Oper} {listed : Array Bool} {fuel : Nat} {Hs : List HA}
theorem rs (h:Run E c k (VF.of L') H') (hV:Nv L L':=by exact nv) (hH:Nd H H':=by exact nd):Run E c k (VF.of L) H:=by rw [hV.eq,hH.eq]; exact h
theorem os (h:Ops E ops r k (VF.of L') H') (hV:Nv L L':=by exact nv) (hH:Nd H H':=by exact nd):Ops E ops r k (VF.of L) H:=by rw [hV.eq,hH.eq]; exact h
theorem gs (h:Goes E k (VF.of L') H') (hV:Nv L L':=by exact nv) (hH:Nd H H':=by exact nd):Goes E k (VF.of L) H:=by rw [hV.eq,hH.eq]; exact h
end
inductive In:HA→List HA→Prop
 | z {h:HA} {l:List HA}:In h (h::l)
 | s {h g:HA} {l:List HA} (r:In h l):In h (g::l)
theorem In.mem {h:HA} {l:List HA} (r:In h l):h∈l:=by
 induction r with
 | z=>exact List.mem_cons_self ..
 | s _ ih=>exact List.mem_cons_of_mem _ ih
def Ml (l l' L:List HA):Prop:=∀ h∈l,h∈l'∨h∈L
theorem znw {l' L:List HA}:Ml [] l' L:=fun h hh=>by cases hh
theorem ml_l {g:HA} {l l' L:List HA} (h:In g l') (r:Ml l l' L):Ml (g::l) l' L:=fun x hx=>by
 rcases List.mem_cons.1 hx with rfl | hx
 ·exact .inl h.mem
 ·exact r x hx
theorem ml_r {g:HA} {l l' L:List HA} (h:In g L) (r:Ml l l' L):Ml (g::l) l' L:=fun x hx=>by
 rcases List.mem_cons.1 hx with rfl | hx
 ·exact .inr h.mem
 ·exact r x hx
theorem mlx {l l' L:List HA} (h:Ml l l' L:=by repeat (first | exact znw | apply ml_l (by (repeat (first | exact In.z | apply In.s)); (first | done | fail)) | apply ml_r (by (repeat (first | exact In.z | apply In.s)); (first | done | fail)))):∀ h∈l,h∈l'∨h∈L:=h
end Go.Abs
namespace Go.Abs
variable {E : Env} {k : List KI} {V : VF} {H : List HA} {ops : Array Oper}
inductive Cs (V:VF):Oper→Option Nat→FuncId→List Value→Prop
 | k {d:Option Nat} {ty:TypeId} {pos:String} {af:Array Edge} {g:Option (Nat×Bool)} {fx:Operand} {f:FuncId} {xs:Array Operand} {Ts:Array TypeId} {bv cs az:List Value} (hfx:V.ev fx=some (.func (.func f) bv.toArray cs.toArray)) (hxs:xs.toList.map V.ev=((az.drop bv.length).take xs.size).map some) (he:(bv++(az.drop bv.length).take xs.size)++cs=az):Cs V ⟨d,.call ⟨.value fx,xs,Ts⟩,ty,pos,af,g⟩ d f az
theorem zo6 {α:Type} {src:List α} {l:Nat}:(src.take ((src.length:Int)).toNat).drop l=src.drop l:=by rw [Int.toNat_natCast,List.take_length]
theorem zbP {α:Type} {F:α→List Value} {v:Value} {es:Nat} {src nl:List α} {l r:Int} (h:0≤l∧l≤r∧r≤(src.length:Int)) (hn:(src.take r.toNat).drop l.toNat=nl):Views (row v es (src.map F)) (ro (subS v es l.toNat r.toNat) es (nl.map F)) true:=by
 intro w o m oc j h1 h2 hp
 have h3:=RowIs.sub hp (l:=l.toNat) (r:=r.toNat) (Int.toNat_le_toNat h.2.1) (by rw [List.length_map]; omega)
 rw [← List.map_take,← List.map_drop,hn] at h3
 exact z7A w o m oc j h1 h2 h3
theorem sx {sh:List (Nat×Nat)} {Hc:List HA} (h:z4H H sh Hc:=by
    (repeat (first
      | with_reducible exact z7h
      | ((with_reducible apply z4E); · exact rfl)
      | ((with_reducible apply z92); · exact rfl
         · first | with_reducible exact z7z | with_reducible exact z8M | with_reducible exact z6D | exact z7z | exact z6D | exact zaV)
      | ((with_reducible apply z91); · exact rfl
         · first | with_reducible exact z7A | with_reducible exact z7j | with_reducible exact z7i z7z | with_reducible exact z7i z6D | with_reducible exact zbP (by assumption) (by first | exact zo6 | rfl | simp) | exact z7A | exact z7j))); (first | done | fail)):z4H H sh Hc:=h
def Sg (G:List HA):Prop:=∀ g∈G,g.Strict
theorem znS:Sg []:=fun g h=>by cases h
theorem zeM {g:HA} {G:List HA} (h:g.Strict) (r:Sg G):Sg (g::G):=fun x hx=>by
 rcases List.mem_cons.1 hx with rfl | hx
 ·exact h
 ·exact r x hx
class Sct (g:HA):Prop where
 out:g.Strict
instance {b:Nat} {kv:List (Value×Value)}:Sct (mapis b kv):=⟨fun _ _ _ _ _ h ⟨e1,e2,e3⟩=>⟨h b e2 e1,e2,e3⟩⟩
theorem sgx {G:List HA} (h:Sg G:=by ((repeat (first | exact znS | refine zeM zeX ?_ | refine zeM zeV ?_ | refine zeM Sct.out ?_)); (first | done | fail))):Sg G:=h
theorem wx {op:Oper} (h:Wants E.n ops V op:=by first | exact .inl rfl | exact .inr ⟨_,_,_,rfl,rfl,rfl,rfl⟩):Wants E.n ops V op:=h
section
variable {B0 B1 B2 B3 : Type} {op : Oper} {d : Option Nat} {f : FuncId} {az : List Value} {Hc : List HA} {rest : List Oper} {A R : Type} {r : R}
theorem Cs.t {post:Post} (c:Cs V op d f az) (sh:List (Nat×Nat)) (hcall:∀ args w,(callFunc f args).run E.P w = .ok (.enter f args) w) (hc:Meets E.P f az Hc post) (hsh:z4H H sh Hc) (hok:okX sh=true) (hst:(sh.all fun s=>s.2 != 1)=true∨∀ v G,post v G→∀ g∈G,g.Strict) :
  OpT E.P op V H (fun v' H'=>∃ G,post v' G∧H'=zX sh H++G):=by
 cases c with
 | k hfx hxs he=>exact ziG sh hfx hcall hxs (by rw [he]; exact hc) hsh hok hst
theorem Cs.tp {post:Post} {pan:Value→Prop} (c:Cs V op d f az) (sh:List (Nat×Nat)) (hcall:∀ args w,(callFunc f args).run E.P w = .ok (.enter f args) w) (hc:z60 E.P f az Hc post pan) (hsh:z4H H sh Hc) (hok:okX sh=true) (hst:(sh.all fun s=>s.2 != 1)=true∨∀ v G,post v G→∀ g∈G,g.Strict) :
  OpTP E.P op V H (fun v' H'=>∃ G,post v' G∧H'=zX sh H++G) pan (zX sh H):=by
 cases c with
 | k hfx hxs he=>exact ziF sh hfx hcall hxs (by rw [he]; exact hc) hsh hok hst
theorem Cs.dst (c:Cs V op d f az):op.dst=d:=by cases c; rfl
end
end Go.Abs
namespace Go.Abs
variable {E : Env} {k : List KI} {V : VF} {H : List HA}
def edge (o:Oper) (i:Nat):Bool:=o.after.any fun e=>Region.binds .any e && e.on == i
def keepA (ops:Array Oper) (p q:Oper×Nat):Bool:=Nat.beq p.2 q.2 || (match q.1.dst with | some d=>!(p.1.looksAt ops).contains d && !(match p.1.dst with | some c=>Nat.beq c d | none=>false) | none=>true) || edge p.1 q.2 || edge q.1 p.2
def Sf (l:List Oper):Bool:=Region.noSelect l.toArray && l.zipIdx.all fun p=>l.zipIdx.all fun q=>keepA l.toArray p q
def rdy (listed:Array Bool) (o:Oper) (i:Nat):Bool:=!listed.getD i true && o.after.all fun e=>!Region.binds .any e || listed.getD e.on false
theorem Sf.keep {l:List Oper} (h:Sf l=true) {i j:Nat} {oi oj:Oper} (hi:l[i]? = some oi) (hj:l[j]? = some oj):keepA l.toArray (oi,i) (oj,j)=true:=by
 simp only [Sf,Bool.and_eq_true,List.all_eq_true] at h
 have hm:∀ {n:Nat} {o:Oper},l[n]? = some o→(o,n)∈l.zipIdx:=by
  intro n o hn
  rw [List.mem_zipIdx_iff_getElem?]
  exact hn
 exact h.2 _ (hm hi) _ (hm hj)
theorem zdF {o:Oper} {i:Nat} (h:edge o i=true):∃ e∈o.after,Region.binds .any e=true∧e.on=i:=by
 simp only [edge] at h
 obtain ⟨e,he,hb⟩:=Array.any_eq_true'.1 h
 simp only [Bool.and_eq_true,beq_iff_eq] at hb
 exact ⟨e,he,hb.1,hb.2⟩
theorem Sf.apart {l:List Oper} (h:Sf l=true) {listed:Array Bool} {i j:Nat} {oi oj:Oper} (hi:l[i]? = some oi) (hj:l[j]? = some oj) (hr:rdy listed oi i=true) (hne:j≠i) (hun:listed.getD j true=false)
    (hno:∀ e∈oj.after,Region.binds .any e=true→e.on≠i):oi.apart l.toArray oj=true:=by
  have e1:edge oj i=false:=by
    cases he:edge oj i with
    | false=>rfl
    | true=>obtain ⟨e,h1,h2,h3⟩:=zdF he; exact absurd h3 (hno e h1 h2)
  have e2:edge oi j=false:=by
    cases he:edge oi j with
    | false=>rfl
    | true =>
      obtain ⟨e,h1,h2,h3⟩:=zdF he
      simp only [rdy,Bool.and_eq_true,Array.all_eq_true_iff_forall_mem] at hr
      have:=hr.2 e h1
      simp only [h2,Bool.not_true,Bool.false_or,h3] at this
      exfalso
      rcases Nat.lt_or_ge j listed.size with hl | hl
      · simp [Array.getD,hl] at this hun; rw [this] at hun; cases hun
      · simp [Array.getD,Nat.not_lt.2 hl] at this
  have n1:Nat.beq i j=false:=by cases hb:Nat.beq i j with
    | false=>rfl
    | true=>exact absurd (Nat.eq_of_beq_eq_true hb).symm hne
  have n2:Nat.beq j i=false:=by cases hb:Nat.beq j i with
    | false=>rfl
    | true=>exact absurd (Nat.eq_of_beq_eq_true hb) hne
  have k1:=Sf.keep h hi hj
  have k2:=Sf.keep h hj hi
  simp only [keepA,n1,n2,e1,e2,Bool.false_or,Bool.or_false] at k1 k2
  simp only [Oper.apart,Bool.and_eq_true]
  constructor
  · cases hd:oi.dst with
    | none=>rfl
    | some d =>
      rw [hd] at k2
      simp only [Bool.and_eq_true] at k2 ⊢
      refine ⟨k2.1,?_⟩
      cases hc:oj.dst with
      | none=>rfl
      | some c =>
        rw [hc] at k2
        simp only [Bool.not_eq_true'] at k2
        simp only [bne_iff_ne,ne_eq,Option.some.injEq]
        rintro rfl
        simp at k2
  · cases hd:oj.dst with
    | none=>rfl
    | some d =>
      rw [hd] at k1
      simp only [Bool.and_eq_true] at k1 ⊢
      exact k1.1
theorem Nth.at {l:List Oper} {n:Nat} {o:Oper} (h:Nth l n o):l[n]? = some o:=by simpa using h.get
section
variable {l : List Oper} {op : Oper} {listed : Array Bool} {fuel : Nat} {Hs : List HA}
end
end Go.Abs
namespace Go.Abs
variable {V : VF} {H : List HA}
section
variable {P : Program} {d : Option Nat} {ty : TypeId} {pos : String} {af : Array Edge} {g : Option (Nat × Bool)} {κ β : Type} [DecidableEq κ] {K : κ → Value} {C : NC β}
def NC.agg (C:NC β) (q:β×C.G):Value:=.agg (C.F q.1 q.2).toArray
def nmap (r:Nat) (K:κ→Value) (C:NC β) (l:List (κ×β)):HA:=
  ⟨fun w o k => ∃ lg : List (κ × β × C.G), l = lg.map (fun p => (p.1, p.2.1)) ∧ (mapis r (mcells K C.agg lg)).p w o k ∧ ∀ p ∈ lg, HsP (C.S p.2.1 p.2.2) w o k,
   fun hs h1 h2 ⟨lg,e,a,b⟩=>⟨lg,e,(mapis r (mcells K C.agg lg)).keep hs h1 h2 a,fun p hp=>(b p hp).keep hs h1 h2⟩⟩
omit [DecidableEq κ] in
theorem zf3 {r:Nat} (m:Nat) (hm:H[m]? = some (mapis r [])):Turn H (H.set m (nmap r K C [])):=fun w o hb hs=>
 ⟨o,hb,Tr.refl w o,z3k (Nat.le_refl _) (fun _ _ _=>⟨rfl,rfl⟩) hs ⟨[],rfl,hs m _ hm,fun p hp=>by simp at hp⟩⟩
theorem zek {γ:Type}:∀ (lg:List (κ×β×γ)) (k:κ),mget (lg.map fun p=>(p.1,p.2.1)) k=(mget lg k).map (·.1)
  | [],_=>rfl
  | p :: r, k => by
    simp only [List.map_cons,mget]
    split
    · rfl
    · exact zek r k
theorem zbG {γ:Type}:∀ (lg:List (κ×γ)) (k:κ) (x:γ),mget lg k=some x→∃ k',(k',x)∈lg
  | p :: r, k, x, h => by
    simp only [mget] at h
    split at h
    · cases h; exact ⟨p.1,List.mem_cons_self ..⟩
    · obtain ⟨k',hk⟩:=zbG r k x h
      exact ⟨k',List.mem_cons_of_mem _ hk⟩
theorem zgS {γ:Type}:∀ (lg:List (κ×β×γ)) (k:κ) (q:β×γ),(mput lg k q).map (fun p=>(p.1,p.2.1))=mput (lg.map fun p=>(p.1,p.2.1)) k q.1
  | [],_,_=>rfl
  | p :: r, k, q => by
    simp only [List.map_cons,mput]
    split
    · rfl
    · simp [zgS r k q]
theorem zel {γ:Type}:∀ (lg:List (κ×γ)) (k:κ) (q:γ) (p:κ×γ),p∈mput lg k q→p=(k,q)∨p∈lg
  | [],k,q,p,h=>by simp [mput] at h; exact .inl h
  | p0 :: r, k, q, p, h => by
    simp only [mput] at h
    split at h
    · rcases List.mem_cons.1 h with h | h
      · exact .inl h
      · exact .inr (List.mem_cons_of_mem _ h)
    · rcases List.mem_cons.1 h with h | h
      · exact .inr (h ▸ List.mem_cons_self ..)
      · rcases zel r k q p h with h | h
        · exact .inl h
        · exact .inr (List.mem_cons_of_mem _ h)
theorem zkB {L:List HA} (hL:∀ h∈L,Free h) {w w' : World} {o o' : Own} {k k' : Nat} (ht:Tr w o w' o') (h:HsP L w o k):HsP L w' o' k':=fun x hx=>by
 have h0:x.p w (fun b=>match o b with | .mine _=>.far | y=>y) k:=hL x hx w o _ k k (fun b _ hb=>by simp [hb]) (h x hx)
 refine x.keep ht.size (fun b hlt hb=>?_) (fun b hlt hb=>ht.no b hlt ?_) h0
 ·cases hob:o b <;> simp [hob] at hb
 ·cases hob:o b <;> simp [hob] at hb ⊢
theorem zky {L:List HA} (h:Has [] L):∀ x∈L,∀ w o k,x.p w o k:=fun x hx=>(h x hx).resolve_right (by simp)
theorem zeZ {T kt el:TypeId} {ds:TypeDesc} {x y:Operand} {r:Nat} {l:List (κ×β)} {k:κ} {z0 q:β} {g0:C.G} (m:Nat) (hK:KeyOk ds K) (hT:∀ w,(underlying T).run P w = .ok (.map kt el) w) (hk:∀ w,(underlying kt).run P w = .ok ds w)
    (hz:∀ w,(zeroValue el).run P w = .ok (C.agg (z0,g0)) w) (h0:∀ h∈C.S z0 g0,∀ w o k,h.p w o k) (hx:V.ev x=some (mapV r)) (hy:V.ev y=some (K k)) (hm:H[m]? = some (nmap r K C l)) (hq:some ((mget l k).getD z0)=some q) :
    OpT P ⟨d,.lookup T x y true,ty,pos,af,g⟩ V H (fun v' H'=>∃ gg,v' = .tuple #[.agg (C.F q gg).toArray,.bool (mget l k).isSome]∧H'=H++C.S q gg):=by
  intro ρ w o hf hb hs
  obtain ⟨lg,e,hmi,hS⟩:=hs m _ hm
  have hmi2:Sats w o (H.set m (mapis r (mcells K C.agg lg))):=z3k (Nat.le_refl _) (fun _ _ _=>⟨rfl,rfl⟩) hs hmi
  have hlt:m<H.length:=(List.getElem?_eq_some_iff.1 hm).1
  have hrun:=zcI (d:=d) (ty:=ty) (pos:=pos) (af:=af) (g:=g) (V:=V) (H:=H.set m (mapis r (mcells K C.agg lg))) (P:=P) (K:=K) (G:=C.agg) (l:=lg) (d0:=(z0,g0)) m hK hT hk hz hx hy (by simp [hlt]) ρ w o hf hb hmi2
  unfold Does
  rw [hrun]
  have hg:=zek lg k
  rw [← e] at hg
  obtain rfl:=Option.some.inj hq
  cases hc:mget lg k with
  | none =>
    rw [hc] at hg
    have hl:mget l k=none:=hg
    refine ⟨_,o,⟨g0,?_,rfl⟩,hb,Tr.refl w o,?_⟩
    · rw [hl]; rfl
    · rw [hl]
      exact z6b (C.free _ _) hs m (fun h hh=>h0 h hh w o m)
  | some p =>
    rw [hc] at hg
    have hl:mget l k=some p.1:=hg
    obtain ⟨k',hk'⟩:=zbG lg k p hc
    refine ⟨_,o,⟨p.2,?_,rfl⟩,hb,Tr.refl w o,?_⟩
    · rw [hl]; rfl
    · rw [hl]
      exact z6b (C.free _ _) hs m (hS _ hk')
theorem zgg {T kt el:TypeId} {ds:TypeDesc} {x y:Operand} {r:Nat} {l:List (κ×β)} {k:κ} {z0 q:β} {g0:C.G} (m:Nat) (hK:KeyOk ds K) (hT:∀ w,(underlying T).run P w = .ok (.map kt el) w) (hk:∀ w,(underlying kt).run P w = .ok ds w)
    (hz:∀ w,(zeroValue el).run P w = .ok (C.agg (z0,g0)) w) (h0:∀ h∈C.S z0 g0,∀ w o k,h.p w o k) (hx:V.ev x=some (mapV r)) (hy:V.ev y=some (K k)) (hm:H[m]? = some (nmap r K C l)) (hq:some ((mget l k).getD z0)=some q) :
    OpT P ⟨d,.lookup T x y false,ty,pos,af,g⟩ V H (fun v' H'=>∃ gg,v' = .agg (C.F q gg).toArray∧H'=H++C.S q gg):=by
  intro ρ w o hf hb hs
  obtain ⟨lg,e,hmi,hS⟩:=hs m _ hm
  have hmi2:Sats w o (H.set m (mapis r (mcells K C.agg lg))):=z3k (Nat.le_refl _) (fun _ _ _=>⟨rfl,rfl⟩) hs hmi
  have hlt:m<H.length:=(List.getElem?_eq_some_iff.1 hm).1
  have hrun:=zbU (d:=d) (ty:=ty) (pos:=pos) (af:=af) (g:=g) (V:=V) (H:=H.set m (mapis r (mcells K C.agg lg))) (P:=P) (K:=K) (G:=C.agg) (l:=lg) (d0:=(z0,g0)) m hK hT hk hz hx hy (by simp [hlt]) ρ w o hf hb hmi2
  unfold Does
  rw [hrun]
  have hg:=zek lg k
  rw [← e] at hg
  obtain rfl:=Option.some.inj hq
  cases hc:mget lg k with
  | none =>
    rw [hc] at hg
    have hl:mget l k=none:=hg
    refine ⟨_,o,⟨g0,?_,rfl⟩,hb,Tr.refl w o,?_⟩
    · rw [hl]; rfl
    · rw [hl]
      exact z6b (C.free _ _) hs m (fun h hh=>h0 h hh w o m)
  | some p =>
    rw [hc] at hg
    have hl:mget l k=some p.1:=hg
    obtain ⟨k',hk'⟩:=zbG lg k p hc
    refine ⟨_,o,⟨p.2,?_,rfl⟩,hb,Tr.refl w o,?_⟩
    · rw [hl]; rfl
    · rw [hl]
      exact z6b (C.free _ _) hs m (hS _ hk')
theorem zlx {T kt el:TypeId} {ds:TypeDesc} {x y z:Operand} {r:Nat} {l:List (κ×β)} {k:κ} {v:β} (gv:C.G) (m:Nat) (hK:KeyOk ds K) (hT:∀ w,(underlying T).run P w = .ok (.map kt el) w) (hk:∀ w,(underlying kt).run P w = .ok ds w)
  (hx:V.ev x=some (mapV r)) (hy:V.ev y=some (K k)) (hz:V.ev z=some (.agg (C.F v gv).toArray)) (hm:H[m]? = some (nmap r K C l)) (hh:Has H (C.S v gv)) (ins:Bool) :
  OpT P ⟨d,if ins then .insert T x y z else .mapUpdate T x y z,ty,pos,af,g⟩ V H (fun v' H'=>v'=undef∧H'=H.set m (nmap r K C (mput l k v))):=by
 intro ρ w o hf hb hs
 obtain ⟨lg,e,hmi,hS⟩:=hs m _ hm
 have hmi2:Sats w o (H.set m (mapis r (mcells K C.agg lg))):=z3k (Nat.le_refl _) (fun _ _ _=>⟨rfl,rfl⟩) hs hmi
 have hlt:m<H.length:=(List.getElem?_eq_some_iff.1 hm).1
 have h1:=z83 (d:=d) (ty:=ty) (pos:=pos) (af:=af) (g:=g) (V:=V) (H:=H.set m (mapis r (mcells K C.agg lg))) (P:=P) (K:=K) (G:=C.agg) (l:=lg) (v:=(v,gv)) m hK hT hk hx hy hz (by simp [hlt]) ins ρ w o hf hb hmi2
 have hhs:=hh.sat (C.free _ _) hs m
 refine h1.imp ?_
 rintro u w' ⟨H',o',⟨hv,rfl⟩,hb',ht,hs'⟩
 refine ⟨_,o',⟨hv,rfl⟩,hb',ht,?_⟩
 rw [List.set_set] at hs'
 have hnew:(mapis r (mcells K C.agg (mput lg k (v,gv)))).p w' o' m:=hs' m _ (by simp [hlt])
 intro j h hj
 rw [List.getElem?_set] at hj
 split at hj
 ·rename_i hjm
  subst hjm
  try rw [if_pos hlt] at hj
  obtain rfl:=Option.some.inj hj
  refine ⟨mput lg k (v,gv),by rw [zgS,← e],hnew,fun p hp=>?_⟩
  rcases zel lg k (v,gv) p hp with rfl | hp
  ·exact zkB (C.free _ _) ht hhs
  ·exact zkB (C.free _ _) ht (hS p hp)
 ·exact hs' j h (by rw [List.getElem?_set]; rw [if_neg (by assumption)]; exact hj)
end
end Go.Abs
namespace Go.Abs
inductive Cc where
 | k
 | t (a:Nat)
 | i (kd:IntKind) (a:Nat)
 | g (q:Nat)
inductive Hc where
 | k (i:Nat)
 | b (i:Nat) (cs:List Cc)
 | w (a q:Nat)
 | o (a q:Nat)
 | wn (a q:Nat)
 | on (a q:Nat)
 | p (i a:Nat)
 | z (i:Nat)
inductive Ot where
 | z
 | f (i:Nat) (t:Ot)
 | o (i:Nat) (t:Ot)
 | b (i:Nat) (t u:Ot)
def Ot.idx:Ot→List Nat
 | .o i _=>[i]
 | .b i _ u=>i::u.idx
 | _=>[]
def Ot.len:Ot→Nat
 | .z=>0
 | .f _ t=>t.len+1
 | .o _ t=>t.len+1
 | .b _ t u=>max (t.len+1) u.len
inductive Fb where
 | t
 | f
 | n
inductive Hn where
 | e
 | c (a b:Hn)
 | p (a:Hn)
 | s (a:Hn)
 | j (ng:Nat) (ts:List Nat) (ss:List (Nat×Cc)) (hs:List Hc) (a b:Hn)
 | l (ng:Nat) (ts:List Nat) (ss:List (Nat×Cc)) (hs:List Hc) (a:Hn)
 | d (is ts:List Nat) (bs:List Fb) (Kl:List (List Nat)) (a:Hn)
 | q (T:Ot) (ts:List Nat) (Kl:List (List Nat)) (a:Hn)
inductive Md where
 | o
 | s
 | a (Ds:List Nat) (bs:List Fb) (ls:Array Bool) (is:List Nat) (Kl:List (List Nat)) (Hs:List HA)
 | t (top:Bool) (Ds:List Nat) (T:Ot) (ls:Array Bool) (Kl:List (List Nat)) (Hs:List HA)
 | u (fr:Bool) (i:Nat) (Ds:List Nat) (T:Ot) (ls:Array Bool) (Kl:List (List Nat)) (Hs:List HA)
def clB (ops:Array Oper) (ls:Array Bool) (i:Nat) (S:List Nat) (j:Nat):Bool:=j != i && !ls.getD j true && match ops[j]? with
 | some o=>o.after.any fun e=>Region.binds .any e && (e.on == i || S.contains e.on)
 | none=>false
def cl (ops:Array Oper) (ls:Array Bool) (i:Nat):List Nat:=(List.range ops.size).foldl (fun S j=>bif clB ops ls i S j then j::S else S) []
def zb3 (ops:Array Oper) (ls:Array Bool) (i:Nat):List Nat→Bool
 | []=>true
 | Ds=>(fun C=>Ds.all fun d=>C.contains d) (cl ops ls i)
def ordok (ops:Array Oper):List Nat→List Nat→Array Bool→List Fb→Bool
 | _,[],ls,_=>(Region.ready .any ops ls).isEmpty
 | _,_::_,_,[]=>false
 | Ds,i::is,ls,Fb.t::bs=>(Region.noSelect ops && Region.free .any ops ls i && (Region.ready .any ops ls).contains i && zb3 ops ls i Ds) && ordok ops Ds is (ls.setIfInBounds i true) bs
 | Ds,i::is,ls,Fb.n::bs=>(Region.noSelect ops && Region.free .any ops ls i && (Region.ready .any ops ls).contains i && !Ds.contains i) && ordok ops Ds is (ls.setIfInBounds i true) bs
 | Ds,i::is,ls,Fb.f::bs=>Region.ready .any ops ls == [i] && ordok ops (Ds.filter (· != i)) is (ls.setIfInBounds i true) bs
def trok (ops:Array Oper):Bool→Ot→List Nat→Array Bool→Bool
 | _,.z,_,ls=>(Region.ready .any ops ls).isEmpty
 | _,.f i t,Ds,ls=>(Region.noSelect ops && Region.free .any ops ls i && (Region.ready .any ops ls).contains i && zb3 ops ls i Ds) && trok ops true t Ds (ls.setIfInBounds i true)
 | top,.o i t,Ds,ls=>(!top || Region.ready .any ops ls == [i]) && trok ops true t (Ds.filter (· != i)) (ls.setIfInBounds i true)
 | top,.b i t u,Ds,ls=>(!top || Region.ready .any ops ls == i::u.idx) && trok ops true t (Ds.filter (· != i)) (ls.setIfInBounds i true) && trok ops false u Ds ls
def lvK (L:Array Bool):List (List Nat)→List HA→List HA
 | [],Hs=>Hs
 | _::_,[]=>[]
 | D::Kl,h::Hs=>(if D.any (fun d=>L.getD d true) then HA.emp else h)::lvK L Kl Hs
def AnyM (E:Env) (ops:Array Oper) (listed:Array Bool) (fuel:Nat) (k:List KI) (V:VF) (H:List HA) (Kl:List (List Nat)) (Hs:List HA):Prop:=
 ∀ a w,Rel E V H a w→z6U E.r E.P ops (Qof E k) (fun L=>SH E (lvK L Kl Hs)) fuel listed a w
def AnyOM (E:Env) (ops:Array Oper) (listed:Array Bool) (fuel:Nat) (k:List KI) (V:VF) (H:List HA) (Kl:List (List Nat)) (Hs:List HA) (i:Nat):Prop:=
 ∀ a w,Rel E V H a w→wpOpI E.r E.P ops (Qof E k) i (fun a' w'=>SH E (lvK (listed.setIfInBounds i true) Kl Hs) w'∧z6U E.r E.P ops (Qof E k) (fun L=>SH E (lvK L Kl Hs)) fuel (listed.setIfInBounds i true) a' w') a w
inductive Kd (i:Nat):List (List Nat)→List HA→List (List Nat)→List HA→Prop
 | z {Hs:List HA}:Kd i [] Hs [] Hs
 | k {D:List Nat} {Kl Kl' : List (List Nat)} {h:HA} {Hs Hs' : List HA} (c:D.contains i=false) (r:Kd i Kl Hs Kl' Hs'):Kd i (D::Kl) (h::Hs) (D::Kl') (h::Hs')
 | d {D:List Nat} {Kl Kl' : List (List Nat)} {h:HA} {Hs Hs' : List HA} (c:D.contains i=true) (r:Kd i Kl Hs Kl' Hs'):Kd i (D::Kl) (h::Hs) ([]::Kl') (HA.emp::Hs')
theorem Kd.eq {i:Nat} {Kl Kl' : List (List Nat)} {Hs Hs' : List HA} (h:Kd i Kl Hs Kl' Hs') {L:Array Bool} (hL:L.getD i true=true):lvK L Kl Hs=lvK L Kl' Hs':=by
  induction h with
  | z=>rfl
  | k _ _ ih=>simp only [lvK,ih]
  | @d D _ _ _ _ _ c _ ih =>
    have:D.any (fun d=>L.getD d true)=true:=List.any_eq_true.2 ⟨i,by simpa using c,hL⟩
    simp only [lvK,ih,this,if_true,List.any_nil,Bool.false_eq_true,if_false]
theorem Kd.sub {i:Nat} {Kl Kl' : List (List Nat)} {Hs Hs' : List HA} (h:Kd i Kl Hs Kl' Hs'):∀ p∈Kl',∀ d∈p,d≠i∧∃ q∈Kl,d∈q:=by
  induction h with
  | z=>intro p hp; simp at hp
  | k c _ ih =>
    intro p hp d hd
    rcases List.mem_cons.1 hp with rfl | hp
    · refine ⟨?_,_,List.mem_cons_self ..,hd⟩
      rintro rfl
      have:p.contains d=true:=by simpa using hd
      rw [this] at c; cases c
    · obtain ⟨h1,q,h2,h3⟩:=ih p hp d hd; exact ⟨h1,q,List.mem_cons_of_mem _ h2,h3⟩
  | d c _ ih =>
    intro p hp d hd
    rcases List.mem_cons.1 hp with rfl | hp
    · simp at hd
    · obtain ⟨h1,q,h2,h3⟩:=ih p hp d hd; exact ⟨h1,q,List.mem_cons_of_mem _ h2,h3⟩
theorem zef {L:Array Bool}:∀ (Kl:List (List Nat)) (Hs:List HA),Sub Hs (lvK L Kl Hs)
  | [],Hs=>fun j h hj=>.inr hj
  | _::_,[]=>z5Z
  | D :: Kl, h :: Hs => by
    simp only [lvK]
    split
    · exact z7R (zef Kl Hs)
    · exact z4O (zef Kl Hs)
theorem zgP {L:Array Bool}:∀ (Kl:List (List Nat)) (Hs:List HA),(∀ p∈Kl,∀ d∈p,L.getD d true=false)→lvK L Kl Hs=Hs
  | [],_,_=>rfl
  | _::_,[],_=>rfl
  | D :: Kl, h :: Hs, hh => by
    have:D.any (fun d=>L.getD d true)=false:=List.any_eq_false.2 fun d hd=>by rw [hh D (List.mem_cons_self ..) d hd]; simp
    simp only [lvK,this,Bool.false_eq_true,if_false]
    rw [zgP Kl Hs fun p hp=>hh p (List.mem_cons_of_mem _ hp)]
theorem zbc {L:Array Bool} {i:Nat}:∀ (Kl:List (List Nat)) (Hs:List HA),(∀ p∈Kl,∀ d∈p,d≠i)→lvK (L.setIfInBounds i true) Kl Hs=lvK L Kl Hs
  | [],_,_=>rfl
  | _::_,[],_=>rfl
  | D :: Kl, h :: Hs, hh => by
    have:D.any (fun d=>(L.setIfInBounds i true).getD d true)=D.any (fun d=>L.getD d true):=by
      have h1:=hh D (List.mem_cons_self ..)
      clear hh
      induction D with
      | nil=>rfl
      | cons d D ih =>
        have hd:i≠d:=fun e=>h1 d (List.mem_cons_self ..) e.symm
        simp only [List.any_cons]
        rw [ih fun d hd=>h1 d (List.mem_cons_of_mem _ hd),show (L.setIfInBounds i true).getD d true=L.getD d true from getD_set_ne true hd]
    simp only [lvK,this]
    rw [zbc Kl Hs fun p hp=>hh p (List.mem_cons_of_mem _ hp)]
inductive Pk (ops:Array Oper):List Nat→List Oper→Prop
 | z:Pk ops [] []
 | s {i:Nat} {op:Oper} {is:List Nat} {l:List Oper} (h:ops[i]? = some op) (r:Pk ops is l):Pk ops (i::is) (op::l)
inductive Pq (L:List Oper):List Nat→List Oper→Prop
 | z:Pq L [] []
 | s {i:Nat} {op:Oper} {is:List Nat} {l:List Oper} (h:Nth L i op) (r:Pq L is l):Pq L (i::is) (op::l)
theorem Pq.pk {L:List Oper} {is:List Nat} {l:List Oper} (h:Pq L is l):Pk L.toArray is l:=by
 induction h with
 | z=>exact .z
 | s h _ ih=>exact .s h.get ih
def Tsub (H Hs:List HA):Prop:=∃ H',(∀ w o,Bnd w o→Sats w o H→∃ o',Bnd w o'∧Tr w o w o'∧Sats w o' H')∧Sub H' Hs
theorem Tsub.of {H Hs:List HA} (h:Sub H Hs):Tsub H Hs:=⟨H,fun w o h1 h2=>⟨o,h1,Tr.refl w o,h2⟩,h⟩
def Wk:Md→(E:Env)→Array Oper→List Oper→List KI→VF→List HA→Prop
 | .o=>Ops
 | .s=>z3W
 | .a Ds bs ls is Kl Hs=>fun E ops l k V H=>E.blind=true→ordok ops Ds is ls bs=true→(∀ p∈Kl,∀ d∈p,d∈Ds)→Pk ops is l→Sub H Hs→AnyM E ops ls l.length k V H Kl Hs
 | .t true Ds T ls Kl Hs=>fun E ops _ k V H=>E.blind=true→trok ops true T Ds ls=true→(∀ p∈Kl,∀ d∈p,d∈Ds)→Sub H Hs→∀ fuel,T.len≤fuel→AnyM E ops ls fuel k V H Kl Hs
 | .t false Ds T ls Kl Hs=>fun E ops _ k V H=>E.blind=true→trok ops false T Ds ls=true→(∀ p∈Kl,∀ d∈p,d∈Ds)→Sub H Hs→∀ fuel,T.len≤fuel+1→∀ i∈T.idx,AnyOM E ops ls fuel k V H Kl Hs i
 | .u true i Ds T ls Kl Hs=>fun E ops l k V H=>E.blind=true→trok ops true (.f i T) Ds ls=true→(∀ p∈Kl,∀ d∈p,d∈Ds)→Pk ops [i] l→Sub H Hs→∀ fuel,T.len≤fuel→AnyM E ops ls (fuel+1) k V H Kl Hs
 | .u false i Ds T ls Kl Hs=>fun E ops l k V H=>E.blind=true→trok ops true T (Ds.filter (· != i)) (ls.setIfInBounds i true)=true→(∀ p∈Kl,∀ d∈p,d∈Ds)→Pk ops [i] l→Sub H Hs→∀ fuel,T.len≤fuel→AnyOM E ops ls fuel k V H Kl Hs i
def Wd:Md→(E:Env)→Array Oper→List Oper→List KI→VF→List HA→Prop
 | .o=>Ops
 | .s=>z3W
 | .a Ds bs ls is Kl Hs=>fun E ops l k V H=>E.blind=true→ordok ops Ds is ls bs=true→(∀ p∈Kl,∀ d∈p,d∈Ds)→Pk ops is l→Tsub H Hs∧AnyM E ops ls l.length k V H Kl Hs
 | .t true Ds T ls Kl Hs=>fun E ops _ k V H=>E.blind=true→trok ops true T Ds ls=true→(∀ p∈Kl,∀ d∈p,d∈Ds)→Tsub H Hs∧∀ fuel,T.len≤fuel→AnyM E ops ls fuel k V H Kl Hs
 | .t false Ds T ls Kl Hs=>fun E ops _ k V H=>E.blind=true→trok ops false T Ds ls=true→(∀ p∈Kl,∀ d∈p,d∈Ds)→Tsub H Hs∧∀ fuel,T.len≤fuel+1→∀ i∈T.idx,AnyOM E ops ls fuel k V H Kl Hs i
 | .u true i Ds T ls Kl Hs=>fun E ops l k V H=>E.blind=true→trok ops true (.f i T) Ds ls=true→(∀ p∈Kl,∀ d∈p,d∈Ds)→Pk ops [i] l→Tsub H Hs∧∀ fuel,T.len≤fuel→AnyM E ops ls (fuel+1) k V H Kl Hs
 | .u false i Ds T ls Kl Hs=>fun E ops l k V H=>E.blind=true→trok ops true T (Ds.filter (· != i)) (ls.setIfInBounds i true)=true→(∀ p∈Kl,∀ d∈p,d∈Ds)→Pk ops [i] l→Tsub H Hs∧∀ fuel,T.len≤fuel→AnyOM E ops ls fuel k V H Kl Hs i
inductive Sb:Md→List HA→Prop
 | o {H:List HA}:Sb .o H
 | s {H:List HA}:Sb .s H
 | a {Ds:List Nat} {bs:List Fb} {ls:Array Bool} {is:List Nat} {Kl:List (List Nat)} {H Hs:List HA} (h:Sub H Hs):Sb (.a Ds bs ls is Kl Hs) H
 | t {top:Bool} {Ds:List Nat} {T:Ot} {ls:Array Bool} {Kl:List (List Nat)} {H Hs:List HA} (h:Sub H Hs):Sb (.t top Ds T ls Kl Hs) H
 | u {fr:Bool} {i:Nat} {Ds:List Nat} {T:Ot} {ls:Array Bool} {Kl:List (List Nat)} {H Hs:List HA} (h:Sub H Hs):Sb (.u fr i Ds T ls Kl Hs) H
theorem wd {m:Md} {E:Env} {ops:Array Oper} {l:List Oper} {k:List KI} {V:VF} {H:List HA} (hb:Sb m H) (h:Wk m E ops l k V H):Wd m E ops l k V H:=by
 cases hb with
 | o=>exact h
 | s=>exact h
 | a hs=>exact fun e1 e2 e3 e4=>⟨.of hs,h e1 e2 e3 e4 hs⟩
 | @t top _ _ _ _ _ _ hs=>cases top <;> exact fun e1 e2 e3=>⟨.of hs,h e1 e2 e3 hs⟩
 | @u fr _ _ _ _ _ _ _ hs=>cases fr <;> exact fun e1 e2 e3 e4=>⟨.of hs,h e1 e2 e3 e4 hs⟩
section
variable {R : Type}
structure DR (c:Code) (X:Option R) (g:Hn) (r:R) (E:Env) (k:List KI) (L:List (Nat×Value)) (H:List HA):Prop where
 out:X=some r→Run E c k (VF.of L) H
structure DO (m:Md) (l:List Oper) (X:Option R) (g:Hn) (r:R) (E:Env) (ops:Array Oper) (k:List KI) (L:List (Nat×Value)) (H:List HA):Prop where
 out:X=some r→Wk m E ops l k (VF.of L) H
structure DG (k:List KI) (X:Option R) (g:Hn) (r:R) (E:Env) (L:List (Nat×Value)) (H:List HA):Prop where
 out:X=some r→Goes E k (VF.of L) H
structure DF (X:Option R) (r:R) (E:Env) (L:List (Nat×Value)) (H:List HA):Prop where
 out:X=some r→Fin E (VF.of L) H
structure DP (X:Option R) (r:R) (E:Env) (L:List (Nat×Value)) (H:List HA) (v:Value):Prop where
 out:X=some r→FinP E (VF.of L) H v
structure DN (c:Code) (X:Option R) (g:Hn) (r:R) (E:Env) (k:List KI) (L:List (Nat×Value)) (H:List HA):Prop where
 out:X=some r→Run E c k (VF.of L) H
structure DM (m:Md) (l:List Oper) (X:Option R) (g:Hn) (r:R) (E:Env) (ops:Array Oper) (k:List KI) (L:List (Nat×Value)) (H:List HA):Prop where
 out:X=some r→Wd m E ops l k (VF.of L) H
end
structure Al {α:Type} (P:α→Prop):Prop where
 out:∀ a,P a
theorem zjo {α β:Type} {P:α×β→Prop} (h:Al fun a=>Al fun b=>P (a,b)):Al P:=⟨fun ⟨a,b⟩=>(h.out a).out b⟩
theorem zjp {P:Unit→Prop} (h:P ()):Al P:=⟨fun _=>h⟩
theorem zml {α:Type} {P:α→Prop} (h:∀ a,P a):Al P:=⟨h⟩
structure Ep (post:Post) (Q:Value→List HA→Prop):Prop where
 out:∀ v G,post v G→Q v G
theorem ep_ex {α:Sort _} {p:α→Value→List HA→Prop} {Q:Value→List HA→Prop} (h:∀ x,Ep (fun v G=>p x v G) Q):Ep (fun v G=>∃ x,p x v G) Q:=⟨fun v G ⟨x,hx⟩=>(h x).out v G hx⟩
theorem ep_eq {a:Value} {b:List HA} {Q:Value→List HA→Prop} (h:Q a b):Ep (fun v G=>v=a∧G=b) Q:=⟨fun v G ⟨h1,h2⟩=>h1 ▸ h2 ▸ h⟩
section
variable {R : Type} {g : Hn} {X : Option R} {r : R} {E : Env} {c x y : Code} {k : List KI} {L L' : List (Nat × Value)} {H H' : List HA} {ops : Array Oper} {l : List Oper} {id : Nat} {m : Md}
theorem dn (hV:Nv L L') (hH:Nd H H') (h:DR c X g r E k L' H'):DN c X g r E k L H:=⟨fun hx=>by rw [hV.eq,hH.eq]; exact h.out hx⟩
inductive Gw:List HA→List HA→List HA→Prop
 | z {Hs:List HA}:Gw [] Hs Hs
 | s {h x:HA} {H Hs Hs' : List HA} (r:Gw H Hs Hs'):Gw (h::H) (x::Hs) (x::Hs')
 | ro {v:Value} {es:Nat} {c:List (List Value)} {H Hs' : List HA} (r:Gw H [] Hs'):Gw (ro v es c::H) [] (ro v es c::Hs')
 | nro {α:Type} {C:NC α} {v:Value} {l:List α} {H Hs' : List HA} (r:Gw H [] Hs'):Gw (nro v C l::H) [] (nro v C l::Hs')
 | atc {v:Value} {n:Nat} {c:List Value} {H Hs' : List HA} (r:Gw H [] Hs'):Gw (atc v n c::H) [] (atc v n c::Hs')
 | e {h:HA} {H Hs' : List HA} (r:Gw H [] Hs'):Gw (h::H) [] (HA.emp::Hs')
theorem Gw.sub {H Hs Hs' : List HA} (h:Gw H Hs Hs') (hs:Sub H Hs):Sub H Hs'∧Sub Hs' Hs:=by
  induction h with
  | z=>exact ⟨hs,fun j x hj=>.inr hj⟩
  | @s h x H Hs Hs' r ih =>
    have ht:Sub H Hs:=fun j y hj=>hs (j+1) y hj
    obtain ⟨h1,h2⟩:=ih ht
    exact ⟨fun j y hj=>by
      cases j with
      | zero=>exact hs 0 y hj
      | succ j=>exact h1 j y hj,z4O h2⟩
  | ro r ih=>exact ⟨z4O (ih z5Z).1,z5Z⟩
  | nro r ih=>exact ⟨z4O (ih z5Z).1,z5Z⟩
  | atc r ih=>exact ⟨z4O (ih z5Z).1,z5Z⟩
  | e r ih=>exact ⟨z7R (ih z5Z).1,z5Z⟩
theorem zee {L:Array Bool} {Hs:List HA}:lvK L [] Hs=Hs:=by cases Hs <;> rfl
theorem Gw.sub2 {H Hs Hs' : List HA} (h:Gw H Hs Hs') (L:Array Bool):∀ Kl:List (List Nat),Kl.length≤Hs.length→Sub (lvK L Kl Hs') (lvK L Kl Hs):=by
  have nl:∀ {K:List HA} {x:HA} {Kl:List (List Nat)},Kl.length≤([]:List HA).length→Sub (lvK L Kl K) (lvK L Kl []):=by
    intro K x Kl hl
    cases Kl with
    | nil=>rw [zee]; exact z5Z
    | cons _ _=>simp at hl
  induction h with
  | z=>exact fun Kl _=>fun j x hj=>.inr hj
  | @s h x H Hs Hs' r ih =>
    intro Kl hl
    cases Kl with
    | nil =>
      have:=ih [] (Nat.zero_le _)
      rw [zee,zee] at this ⊢
      exact z4O this
    | cons D Kl=>exact z4O (ih Kl (by simpa using hl))
  | ro r ih=>exact fun Kl hl=>nl (x:=HA.emp) hl
  | nro r ih=>exact fun Kl hl=>nl (x:=HA.emp) hl
  | atc r ih=>exact fun Kl hl=>nl (x:=HA.emp) hl
  | e r ih=>exact fun Kl hl=>nl (x:=HA.emp) hl
theorem dma {Ds:List Nat} {bs:List Fb} {ls:Array Bool} {is:List Nat} {Kl:List (List Nat)} {Hs Hs' : List HA} (hH:Nd H H') (hs:Sub H' Hs) (hg:Gw H' Hs Hs') (hl:Nat.ble Kl.length Hs.length=true) (h:DO (.a Ds bs ls is Kl Hs') l X g r E ops k L H'):DM (.a Ds bs ls is Kl Hs) l X g r E ops k L H:=⟨fun hx=>by
 rw [hH.eq]
 intro e1 e2 e3 e4
 obtain ⟨h1,h2⟩:=hg.sub hs
 exact ⟨.of hs,fun a w q=>z97 (fun L w ⟨o,hb,ht,hs⟩=>⟨o,hb,ht,(hg.sub2 L Kl (Nat.le_of_ble_eq_true hl)).sats hs⟩) _ _ _ _ (h.out hx e1 e2 e3 e4 h1 a w q)⟩⟩
theorem dm (hH:Nd H H') (hb:Sb m H') (h:DO m l X g r E ops k L H'):DM m l X g r E ops k L H:=⟨fun hx=>by rw [hH.eq]; exact wd hb (h.out hx)⟩
inductive Isb:Value→Bool→Prop
 | t:Isb (.bool true) true
 | f:Isb (.bool false) false
theorem Isb.eq {v:Value} {b:Bool} (h:Isb v b):v = .bool b:=by cases h <;> rfl
inductive Nb:Bool→Bool→Prop
 | t:Nb true false
 | f:Nb false true
theorem Nb.eq {a b:Bool} (h:Nb a b):b = !a:=by cases h <;> rfl
theorem dr_sr (h:DO .o l X g r E l.toArray (.code y::k) L H):DR (.seq (.region id l.toArray false) y) X g r E k L H:=⟨fun hx=>zh (h.out hx)⟩
theorem zn2 (h:DR x X g r E (.code y::k) L H):DR (.seq x y) X g r E k L H:=⟨fun hx=>z7F (h.out hx)⟩
theorem dr_p (h:DR x X g r E (.code y::k) L H):DR (.seq x y) X (.p g) r E k L H:=⟨fun hx=>z7F (h.out hx)⟩
theorem zfu (h:DO .o l X g r E l.toArray k L H):DR (.region id l.toArray false) X g r E k L H:=⟨fun hx=>z3L (h.out hx)⟩
theorem zkc (hB:Region.lexB .any l.toArray=true) (hm:E.P.follows .mixedOrders=true) (hnd:noDef E.r l.toArray=true) (h:DO .s l X g r E l.toArray k L H):DR (.region id l.toArray true) X g r E k L H:=⟨fun hx=>ziz hm hB (h.out hx) hnd⟩
inductive Em:List HA→List Nat→Nat→List HA→Prop
 | z {ts:List Nat} {n:Nat}:Em [] ts n []
 | e {h:HA} {H G:List HA} {ts:List Nat} {n:Nat} (r:Em H ts (n+1) G):Em (h::H) (n::ts) n (HA.emp::G)
 | k {h:HA} {H G:List HA} {ts:List Nat} {n:Nat} (r:Em H ts (n+1) G):Em (h::H) ts n (h::G)
theorem Em.sub {H G:List HA} {ts:List Nat} {n:Nat} (h:Em H ts n G):Sub H G:=by
 induction h with
 | z=>exact z5Z
 | e _ ih=>exact z7R ih
 | k _ ih=>exact z4O ih
theorem zmZ {is ts:List Nat} {bs:List Fb} {Kl:List (List Nat)} {l' : List Oper} {Hs:List HA} (hm:E.P.follows .mixedOrders=true) (hnd:noDef E.r l.toArray=true) (hbl:E.blind=true) (hp:Pq l is l') (hn:l'.length=l.length) (ho:ordok l.toArray Kl.flatten is (Array.replicate l.length false) bs=true) (hE:Em H ts 0 Hs)
  (h:DO (.a Kl.flatten bs (Array.replicate l.length false) is Kl Hs) l' X g r E l.toArray k L H):DR (.region id l.toArray true) X (.d is ts bs Kl g) r E k L H:=⟨fun hx=>by
 intro a w q
 refine zaW (T:=fun L=>SH E (lvK L Kl Hs)) hnd hm ?_
 have:=h.out hx hbl ho (fun p hp d hd=>List.mem_flatten.2 ⟨p,hp,hd⟩) hp.pk hE.sub a _ q.drew
 rw [hn] at this
 simpa using this⟩
theorem zka {T:Ot} {ts:List Nat} {Kl:List (List Nat)} {Hs:List HA} (hm:E.P.follows .mixedOrders=true) (hnd:noDef E.r l.toArray=true) (hbl:E.blind=true) (hn:Nat.ble T.len l.length=true) (ho:trok l.toArray true T Kl.flatten (Array.replicate l.length false)=true) (hE:Em H ts 0 Hs)
  (h:DO (.t true Kl.flatten T (Array.replicate l.length false) Kl Hs) [] X g r E l.toArray k L H):DR (.region id l.toArray true) X (.q T ts Kl g) r E k L H:=⟨fun hx=>by
 intro a w q
 refine zaW (T:=fun L=>SH E (lvK L Kl Hs)) hnd hm ?_
 have:=h.out hx hbl ho (fun p hp d hd=>List.mem_flatten.2 ⟨p,hp,hd⟩) hE.sub _ (Nat.le_of_ble_eq_true hn) a _ q.drew
 simpa using this⟩
theorem dt_z {Ds:List Nat} {ls:Array Bool} {Kl:List (List Nat)} {Hs:List HA} (h:DG k X g r E L H):DO (.t true Ds .z ls Kl Hs) [] X g r E ops k L H:=
 ⟨fun hx=>fun hbl ho _ hs fuel _=>fun a w q=>z96 (List.isEmpty_iff.1 ho) (h.out hx a w q) fuel⟩
theorem dt_f {i:Nat} {T:Ot} {Ds:List Nat} {ls:Array Bool} {Kl:List (List Nat)} {Hs:List HA} {L0:List Oper} {op:Oper} (hi:Nth L0 i op) (h:DO (.u true i Ds T ls Kl Hs) [op] X g r E L0.toArray k L H):DO (.t true Ds (.f i T) ls Kl Hs) [] X g r E L0.toArray k L H:=
 ⟨fun hx=>fun hbl ho hD hs fuel hf=>by
  obtain ⟨fuel,rfl⟩ : ∃ m,fuel=m+1:=⟨fuel - 1,by simp only [Ot.len] at hf; omega⟩
  exact h.out hx hbl ho hD (.s hi.get .z) hs fuel (by simp only [Ot.len] at hf; omega)⟩
theorem zfg {i:Nat} {rs:List Nat} {fuel:Nat} {ls:Array Bool} {Kl:List (List Nat)} {Hs:List HA} {V:VF} (hr:Region.ready .any ops ls=i::rs) (h:∀ j∈i::rs,AnyOM E ops ls fuel k V H Kl Hs j):AnyM E ops ls (fuel+1) k V H Kl Hs:=fun a w q=>z9W hr (by simp) fun j hj=>h j hj a w q
theorem dt_o {top:Bool} {i:Nat} {T:Ot} {Ds:List Nat} {ls:Array Bool} {Kl:List (List Nat)} {Hs:List HA} {L0:List Oper} {op:Oper} (hi:Nth L0 i op) (h:DO (.u false i Ds T ls Kl Hs) [op] X g r E L0.toArray k L H):DO (.t top Ds (.o i T) ls Kl Hs) [] X g r E L0.toArray k L H:=⟨fun hx=>by
  have key:E.blind=true→trok L0.toArray true T (Ds.filter (· != i)) (ls.setIfInBounds i true)=true→(∀ p∈Kl,∀ d∈p,d∈Ds)→Sub H Hs→∀ fuel,T.len≤fuel→AnyOM E L0.toArray ls fuel k (VF.of L) H Kl Hs i:=fun hbl ho hD hs=>h.out hx hbl ho hD (.s hi.get .z) hs
  cases top with
  | true =>
    intro hbl ho hD hs fuel hf
    simp only [trok,Bool.not_true,Bool.false_or,Bool.and_eq_true,beq_iff_eq] at ho
    simp only [Ot.len] at hf
    obtain ⟨fuel,rfl⟩ : ∃ m,fuel=m+1:=⟨fuel - 1,by omega⟩
    exact zfg ho.1 fun j hj=>by obtain rfl:=List.mem_singleton.1 hj; exact key hbl ho.2 hD hs fuel (by omega)
  | false =>
    intro hbl ho hD hs fuel hf j hj
    simp only [trok,Bool.not_false,Bool.true_or,Bool.true_and] at ho
    simp only [Ot.len] at hf
    obtain rfl:=List.mem_singleton.1 hj
    exact key hbl ho hD hs fuel (by omega)⟩
theorem dt_b {top:Bool} {i:Nat} {T U:Ot} {Ds:List Nat} {ls:Array Bool} {Kl:List (List Nat)} {Hs:List HA} {L0:List Oper} {op:Oper} (hi:Nth L0 i op) (h:DO (.u false i Ds T ls Kl Hs) [op] X g r E L0.toArray k L H) (hu:DO (.t false Ds U ls Kl Hs) [] X g r E L0.toArray k L H):DO (.t top Ds (.b i T U) ls Kl Hs) [] X g r E L0.toArray k L H:=⟨fun hx=>by
  have key:E.blind=true→trok L0.toArray true T (Ds.filter (· != i)) (ls.setIfInBounds i true)=true→trok L0.toArray false U Ds ls=true→(∀ p∈Kl,∀ d∈p,d∈Ds)→Sub H Hs→∀ fuel,T.len≤fuel→U.len≤fuel+1→∀ j∈i::U.idx,AnyOM E L0.toArray ls fuel k (VF.of L) H Kl Hs j:=fun hbl ho ho' hD hs fuel h1 h2 j hj=>by
    rcases List.mem_cons.1 hj with rfl | hj
    · exact h.out hx hbl ho hD (.s hi.get .z) hs fuel h1
    · exact hu.out hx hbl ho' hD hs fuel h2 j hj
  cases top with
  | true =>
    intro hbl ho hD hs fuel hf
    simp only [trok,Bool.not_true,Bool.false_or,Bool.and_eq_true,beq_iff_eq] at ho
    simp only [Ot.len] at hf
    obtain ⟨fuel,rfl⟩ : ∃ m,fuel=m+1:=⟨fuel - 1,by omega⟩
    exact zfg ho.1.1 (key hbl ho.1.2 ho.2 hD hs fuel (by omega) (by omega))
  | false =>
    intro hbl ho hD hs fuel hf
    simp only [trok,Bool.not_false,Bool.true_or,Bool.true_and,Bool.and_eq_true] at ho
    simp only [Ot.len] at hf
    exact key hbl ho.1 ho.2 hD hs fuel (by omega) (by omega)⟩
theorem zhL (h:DR x X g r E (.blk id::k) L H):DR (.block id x) X g r E k L H:=⟨fun hx=>z7v (h.out hx)⟩
theorem zhQ (h:DR x X g r E (.scope::k) L H):DR (.scope x) X g r E k L H:=⟨fun hx=>zg5 (h.out hx)⟩
theorem zki (h:DG k X g r E L H):DR .skip X g r E k L H:=⟨fun hx=>zeG (h.out hx)⟩
theorem zhP {n:Nat} (h:DG k X g r E L H):DR (.label n) X g r E k L H:=⟨fun hx=>zg3 (h.out hx)⟩
theorem zkd {k' : List KI} (hk:exitK id k=some k') (h:DG k' X g r E L H):DR (.exit id) X g r E k L H:=⟨fun hx=>zeE k' hk (h.out hx)⟩
theorem zn1 (h:DF X r E L H):DR .ret X g r E k L H:=⟨fun hx=>zh2 (h.out hx)⟩
theorem zkb {a b:Hn} {X Y:Option R} {o:Operand} {t:Bool} (hc:(VF.of L).ev o=some (.bool t)) (h1:t=true→DR x X a r E k L H) (h2:t=false→DR y Y b r E k L H):DR (.cond o x y) (cond t X Y) (.c a b) r E k L H:=
 ⟨fun hx=>rc hx (fun e hx=>(h1 e).out hx) (fun e hx=>(h2 e).out hx) hc⟩
theorem zhO {X Y:Option R} {o:Operand} {t:Bool} (hc:(VF.of L).ev o=some (.bool t)) (h1:t=true→DR x X .e r E k L H) (h2:t=false→DR y Y .e r E k L H):DR (.cond o x y) (cond t X Y) .e r E k L H:=
 ⟨fun hx=>rc hx (fun e hx=>(h1 e).out hx) (fun e hx=>(h2 e).out hx) hc⟩
theorem dr_t {o:Operand} {u:Value} (hc:(VF.of L).ev o=some u) (hb:Isb u true) (h:DR x X g r E k L H):DR (.cond o x y) X g r E k L H:=⟨fun hx=>z7f (hb.eq ▸ hc) (h.out hx)⟩
theorem dr_f {o:Operand} {u:Value} (hc:(VF.of L).ev o=some u) (hb:Isb u false) (h:DR y X g r E k L H):DR (.cond o x y) X g r E k L H:=⟨fun hx=>z8J (hb.eq ▸ hc) (h.out hx)⟩
inductive Nn:Md→Prop
 | o:Nn .o
 | s:Nn .s
 | a {Ds:List Nat} {bs:List Fb} {ls:Array Bool} {is:List Nat} {Kl:List (List Nat)} {Hs:List HA}:Nn (.a Ds bs ls is Kl Hs)
theorem zmU (hm:Nn m) (h:DG k X g r E L H):DO m [] X g r E ops k L H:=⟨fun hx=>by
  cases hm with
  | o=>exact z6Z (h.out hx)
  | s=>exact zgd (h.out hx)
  | a =>
    intro hbl ho _ hp hs
    cases hp
    exact fun a w q=>z96 (List.isEmpty_iff.1 ho) (h.out hx a w q) _⟩
theorem zjH (h:DR y X g r E k L H):DG (.code y::k) X g r E L H:=⟨fun hx=>z4F (h.out hx)⟩
theorem zmC (h:DG k X g r E L H):DG (.blk id::k) X g r E L H:=⟨fun hx=>z9E (h.out hx)⟩
theorem zhz (h:DG k X g r E L H):DG (.scope::k) X g r E L H:=⟨fun hx=>zdZ (h.out hx)⟩
theorem zmD (hB:∀ a w,E.B .ret a w→E.B .normal a w) (h:DF X r E L H):DG [] X g r E L H:=⟨fun hx=>zdY (h.out hx) hB⟩
theorem zkg {p:Prop} [Decidable p] (h:p→DR c X g r E k L H):DR c (need p X) g r E k L H:=⟨fun hx=>let ⟨a,b⟩:=z39 hx; (h a).out b⟩
theorem zjU {p:Prop} [Decidable p] (h:p→DO m l X g r E ops k L H):DO m l (need p X) g r E ops k L H:=⟨fun hx=>let ⟨a,b⟩:=z39 hx; (h a).out b⟩
theorem zjD {p:Prop} [Decidable p] (h:p→DF X r E L H):DF (need p X) r E L H:=⟨fun hx=>let ⟨a,b⟩:=z39 hx; (h a).out b⟩
theorem zkh:DR c none g r E k L H:=⟨fun hx=>by cases hx⟩
theorem zjX:DO m l none g r E ops k L H:=⟨fun hx=>by cases hx⟩
end
theorem Turn.trans {H1 H2 H3:List HA} (h:Turn H1 H2) (k:Turn H2 H3):Turn H1 H3:=fun w o hb hs=>
 let ⟨o1,b1,t1,s1⟩:=h w o hb hs
 let ⟨o2,b2,t2,s2⟩:=k w o1 b1 s1
 ⟨o2,b2,t1.trans t2,s2⟩
theorem Turn.refl (H:List HA):Turn H H:=fun w o hb hs=>⟨o,hb,Tr.refl w o,hs⟩
theorem z41 {H G:List HA} {is:List Nat} (hn:is.Nodup) (hG:Picks is H G):Turn H G:=fun w o hb hs=>⟨reown is o,z9i is hb,z9u is (Tr.refl w o),z9r hn hG.get hs⟩
theorem z7N (G:List HA):Picks (List.range G.length) G G:=by
 unfold Picks
 apply List.ext_getElem?
 intro i
 simp only [List.getElem?_map,List.getElem?_range]
 rcases Nat.lt_or_ge i G.length with h | h
 ·simp [h]
 ·simp [Nat.not_lt.2 h]
inductive Ap:List HA→HA→List HA→Nat→Prop
 | z {g:HA}:Ap [] g [g] 0
 | s {h g:HA} {H H' : List HA} {n:Nat} (r:Ap H g H' n):Ap (h::H) g (h::H') (n+1)
theorem Ap.eq {g:HA} {H H' : List HA} {n:Nat} (h:Ap H g H' n):H'=H++[g]∧n=H.length:=by
 induction h with
 | z=>exact ⟨rfl,rfl⟩
 | s _ ih=>exact ⟨by rw [ih.1]; rfl,by rw [ih.2]; rfl⟩
class Fre (F:Value→HA) (v:outParam Value):Prop where
 t:∀ H,Turn H (H++[F v])
inductive Sp:List HA→List HA→List Nat→List HA→Prop
 | z {H:List HA}:Sp H [] [] H
 | s {H G H1:List HA} {g:HA} {i:Nat} {is:List Nat} (h:At H i g) (r:Sp H G is H1):Sp H (g::G) (i::is) H1
 | d {H H' G H1:List HA} {g:HA} {i j:Nat} {is:List Nat} (h:At H i g) (f:Free g) (a:Ap H g H' j) (r:Sp H' G is H1):Sp H (g::G) (j::is) H1
 | f {H H' G H1:List HA} {v:Value} {es:Nat} {c:List (List Value)} {i:Nat} {is:List Nat} (h:At H i (row v es c)) (s:St H i (ro v es c) H') (r:Sp H' (ro v es c::G) is H1):Sp H (ro v es c::G) is H1
 | fn {H H' G H1:List HA} {α:Type} {C:NC α} {v:Value} {l:List α} {i:Nat} {is:List Nat} (h:At H i (nrow v C l)) (hn:C.nn=true→l≠[]) (s:St H i (nro v C l) H') (r:Sp H' (nro v C l::G) is H1):Sp H (nro v C l::G) is H1
 | nw {H H' G H1:List HA} {es j:Nat} {is:List Nat} (a:Ap H (row (.slice none 0 0) es []) H' j) (r:Sp H' G is H1):Sp H (row (.slice none 0 0) es []::G) (j::is) H1
 | no {H H' G H1:List HA} {es j:Nat} {is:List Nat} (a:Ap H (ro (.slice none 0 0) es []) H' j) (r:Sp H' G is H1):Sp H (ro (.slice none 0 0) es []::G) (j::is) H1
 | nnw {H H' G H1:List HA} {α:Type} {C:NC α} {j:Nat} {is:List Nat} (a:Ap H (nrow (.slice none 0 0) C []) H' j) (r:Sp H' G is H1):Sp H (nrow (.slice none 0 0) C []::G) (j::is) H1
 | nno {H H' G H1:List HA} {α:Type} {C:NC α} {j:Nat} {is:List Nat} (a:Ap H (nro (.slice none 0 0) C []) H' j) (r:Sp H' G is H1):Sp H (nro (.slice none 0 0) C []::G) (j::is) H1
 | q {H H' G H1:List HA} {F:Value→HA} {v:Value} {j:Nat} {is:List Nat} (f:Fre F v) (a:Ap H (F v) H' j) (r:Sp H' G is H1):Sp H (F v::G) (j::is) H1
theorem Sp.turn {H G H1:List HA} {is:List Nat} (h:Sp H G is H1):Turn H H1:=by
 induction h with
 | z=>exact Turn.refl _
 | s _ _ ih=>exact ih
 | d h f a _ ih=>exact (a.eq.1 ▸ ziN _ f h.get:Turn _ _).trans ih
 | f h s _ ih=>exact (s.eq ▸ Go.Abs.freeze _ h.get:Turn _ _).trans ih
 | fn h hn s _ ih=>exact (s.eq ▸ zcf _ h.get hn:Turn _ _).trans ih
 | nw a _ ih=>exact (a.eq.1 ▸ nilrow _:Turn _ _).trans ih
 | no a _ ih=>exact (a.eq.1 ▸ nilro _:Turn _ _).trans ih
 | nnw a _ ih=>exact (a.eq.1 ▸ zgT _:Turn _ _).trans ih
 | nno a _ ih=>exact (a.eq.1 ▸ zin _:Turn _ _).trans ih
 | q f a _ ih=>exact (a.eq.1 ▸ f.t _:Turn _ _).trans ih
theorem atx {H:List HA} {i:Nat} {g:HA} (h:At H i g:=by ((repeat (first | with_reducible exact At.z | with_reducible apply At.s)); (first | done | fail))):At H i g:=h
theorem aty {H:List HA} {i:Nat} {g:HA} (h:At H i g:=by ((repeat (first | exact At.z | apply At.s)); (first | done | fail))):At H i g:=h
theorem apx {H H' : List HA} {j:Nat} {g:HA} (h:Ap H g H' j:=by ((repeat (first | exact Ap.z | apply Ap.s)); (first | done | fail))):Ap H g H' j:=h
theorem stx {H H' : List HA} {i:Nat} {g:HA} (h:St H i g H':=by ((repeat (first | exact St.z | apply St.s)); (first | done | fail))):St H i g H':=h
theorem spx {H G H1:List HA} {is:List Nat} (h:Sp H G is H1:=by
 (repeat (first
  | with_reducible exact Sp.z
  | ((with_reducible apply Sp.d); (case f=>with_reducible exact z5u); (case h=>exact atx); (case a=>exact apx))
  | ((with_reducible apply Sp.d); (case f=>with_reducible exact z47); (case h=>exact atx); (case a=>exact apx))
  | ((with_reducible apply Sp.s); (case h=>exact atx))
  | ((with_reducible apply Sp.f); (case h=>exact atx); (case s=>exact stx))
  | ((with_reducible apply Sp.fn); (case h=>exact atx); (case hn=>exact fun h=>absurd h (by decide)); (case s=>exact stx))
  | ((apply Sp.nw); (case a=>exact apx))
  | ((apply Sp.no); (case a=>exact apx))
  | ((apply Sp.nnw); (case a=>exact apx))
  | ((apply Sp.nno); (case a=>exact apx))
  | ((with_reducible apply Sp.s); (case h=>exact aty))
  | ((apply Sp.q); (case f=>infer_instance); (case a=>exact apx)))); (first | done | fail)):Sp H G is H1:=h
theorem sup' {H G H1:List HA} {is:List Nat} (h:Sp H G is H1) (hp:Picks is H1 G) (hn:is.Nodup):Turn H G:=h.turn.trans (z41 hn hp)
theorem sup {H G:List HA} (h:Turn H G:=by ((apply sup'); (case h=>exact spx); (case hp=>exact rfl); (case hn=>decide); (first | done | fail))):Turn H G:=h
inductive Pj:Nat→(S T:Type)→(S→T)→Prop
 | z {S:Type}:Pj 0 S S (fun s=>s)
 | f {A B:Type}:Pj 1 (A×B) A (fun s=>s.1)
 | s {A B T:Type} {n:Nat} {p:B→T} (h:Pj n B T p):Pj (n+2) (A×B) T (fun s=>p s.2)
class EncT (T:Type) where
 v:T→Value
instance:EncT Int:=⟨fun x=>.int .i64 x⟩
instance:EncT Bool:=⟨fun x=>.bool x⟩
instance:EncT (List UInt8):=⟨fun x=>.string (bs x)⟩
class Elt (α:Type) where
 w:Value→List α→HA
 o:Value→List α→HA
instance:Elt Int:=⟨fun v l=>row v 1 (l.map (eInt .i64)),fun v l=>ro v 1 (l.map (eInt .i64))⟩
instance:Elt UInt8:=⟨fun v l=>row v 1 (l.map eB8),fun v l=>ro v 1 (l.map eB8)⟩
instance:Elt Bool:=⟨fun v l=>row v 1 (l.map eBool),fun v l=>ro v 1 (l.map eBool)⟩
instance:Elt (List UInt8):=⟨fun v l=>row v 1 (l.map eStr),fun v l=>ro v 1 (l.map eStr)⟩
class Eltn (α:Type) where
 c:NC α
inductive Cv (S G:Type):Cc→(S→G→Value)→Prop
 | t {a:Nat} {T:Type} {p:S→T} (h:Pj a S T p) (e:EncT T):Cv S G (.t a) (fun s _=>e.v (p s))
 | i {a:Nat} {kd:IntKind} {p:S→Int} (h:Pj a S Int p):Cv S G (.i kd a) (fun s _=>.int kd (p s))
 | g {q:Nat} {p:G→Value} (h:Pj q G Value p):Cv S G (.g q) (fun _ γ=>p γ)
inductive Cw (S G:Type):List Cc→List Value→(S→G→List Value)→Prop
 | z {vs:List Value}:Cw S G [] vs (fun _ _=>vs)
 | k {v:Value} {cs:List Cc} {vs:List Value} {f:S→G→List Value} (r:Cw S G cs vs f):Cw S G (.k::cs) (v::vs) (fun s γ=>v::f s γ)
 | s {c:Cc} {v:Value} {cs:List Cc} {vs:List Value} {f:S→G→List Value} {u:S→G→Value} (h:Cv S G c u) (r:Cw S G cs vs f):Cw S G (c::cs) (v::vs) (fun s γ=>u s γ::f s γ)
inductive Hh (S G:Type) (H:List HA):Hc→(S→G→HA)→Prop
 | k {i:Nat} {x:HA} (h:H[i]? = some x):Hh S G H (.k i) (fun _ _=>x)
 | b {i:Nat} {cs:List Cc} {b:Nat} {vs:List Value} {f:S→G→List Value} (h:H[i]? = some (box b vs)) (r:Cw S G cs vs f):Hh S G H (.b i cs) (fun s γ=>box b (f s γ))
 | w {a q:Nat} {α:Type} {p:S→List α} {u:G→Value} (hp:Pj a S (List α) p) (hu:Pj q G Value u) (e:Elt α):Hh S G H (.w a q) (fun s γ=>e.w (u γ) (p s))
 | o {a q:Nat} {α:Type} {p:S→List α} {u:G→Value} (hp:Pj a S (List α) p) (hu:Pj q G Value u) (e:Elt α):Hh S G H (.o a q) (fun s γ=>e.o (u γ) (p s))
 | wn {a q:Nat} {α:Type} {p:S→List α} {u:G→Value} (hp:Pj a S (List α) p) (hu:Pj q G Value u) (e:Eltn α):Hh S G H (.wn a q) (fun s γ=>nrow (u γ) e.c (p s))
 | on {a q:Nat} {α:Type} {p:S→List α} {u:G→Value} (hp:Pj a S (List α) p) (hu:Pj q G Value u) (e:Eltn α):Hh S G H (.on a q) (fun s γ=>nro (u γ) e.c (p s))
 | p {i a es:Nat} {α:Type} {F:α→List Value} {l:List α} {v:Value} {p:S→List α} (h:H[i]? = some (row v es (l.map F))) (hp:Pj a S (List α) p):Hh S G H (.p i a) (fun s _=>row v es ((p s).map F))
 | pn {i a:Nat} {α:Type} {C:NC α} {l:List α} {v:Value} {p:S→List α} (h:H[i]? = some (nrow v C l)) (hp:Pj a S (List α) p):Hh S G H (.p i a) (fun s _=>nrow v C (p s))
 | pm {i a r:Nat} {κ β:Type} {K:κ→Value} {C:NC β} {l:List (κ×β)} {p:S→List (κ×β)} (h:H[i]? = some (nmap r K C l)) (hp:Pj a S (List (κ×β)) p):Hh S G H (.p i a) (fun s _=>nmap r K C (p s))
 | pk {i a r:Nat} {κ β:Type} {K:κ→Value} {G' : β→Value} {l:List (κ×β)} {p:S→List (κ×β)} (h:H[i]? = some (mapis r (mcells K G' l))) (hp:Pj a S (List (κ×β)) p):Hh S G H (.p i a) (fun s _=>mapis r (mcells K G' (p s)))
 | z {i es:Nat} {c:List (List Value)} {v:Value} (h:H[i]? = some (row v es c)):Hh S G H (.z i) (fun _ _=>ro v es c)
 | zn {i:Nat} {α:Type} {C:NC α} {l:List α} {v:Value} (h:H[i]? = some (nrow v C l)):Hh S G H (.z i) (fun _ _=>nro v C l)
inductive Hw (S G:Type) (H:List HA):List Hc→(S→G→List HA)→Prop
 | z:Hw S G H [] (fun _ _=>[])
 | s {c:Hc} {cs:List Hc} {f:S→G→HA} {F:S→G→List HA} (h:Hh S G H c f) (r:Hw S G H cs F):Hw S G H (c::cs) (fun s γ=>f s γ::F s γ)
inductive Vw (S G:Type) (L:List (Nat×Value)):List (Nat×Cc)→List Nat→(S→G→List (Nat×Value))→Prop
 | z {ts:List Nat} {l:List (Nat×Value)} (h:Kp (VF.of L) ts l):Vw S G L [] ts (fun _ _=>l)
 | s {t:Nat} {c:Cc} {ss:List (Nat×Cc)} {ts:List Nat} {u:S→G→Value} {F:S→G→List (Nat×Value)} (h:Cv S G c u) (r:Vw S G L ss ts F):Vw S G L ((t,c)::ss) ts (fun s γ=>(t,u s γ)::F s γ)
class Gh (n:Nat) (G:outParam Type):Prop where
 t:True
instance:Gh 0 Unit:=⟨trivial⟩
instance:Gh 1 Value:=⟨trivial⟩
instance:Gh 2 (Value×Value):=⟨trivial⟩
instance:Gh 3 (Value×Value×Value):=⟨trivial⟩
instance:Gh 4 (Value×Value×Value×Value):=⟨trivial⟩
instance:Gh 5 (Value×Value×Value×Value×Value):=⟨trivial⟩
instance:Gh 6 (Value×Value×Value×Value×Value×Value):=⟨trivial⟩
instance:Gh 7 (Value×Value×Value×Value×Value×Value×Value):=⟨trivial⟩
instance:Gh 8 (Value×Value×Value×Value×Value×Value×Value×Value):=⟨trivial⟩
instance:Gh 9 (Value×Value×Value×Value×Value×Value×Value×Value×Value):=⟨trivial⟩
structure Bk {S G R:Type} (E:Env) (VN:S→G→List (Nat×Value)) (HN:S→G→List HA) (o:Lp S R) (Lf:Act→World→Prop):Prop where
 out:∀ s γ,o = .go s→∀ a w,Rel E (VF.of (VN s γ)) (HN s γ) a w→Lf a w
structure Lv {S R:Type} (o:Lp S R) (out:R):Prop where
 out:∀ r,o = .stop r→r=out
section
variable {S G R : Type} {E : Env} {k : List KI} {L : List (Nat × Value)} {H : List HA} {VN : S → G → List (Nat × Value)} {HN : S → G → List HA} {ts : List Nat} {ss : List (Nat × Cc)} {hs : List Hc} {a b : Hn} {out : R}
theorem z9a {ng:Nat} [Gh ng G] {step:S→Option (Lp S R)} {n:Nat} {s0:S} {γ0:G} {c:Code} (hV:Vw S G L ss ts VN) (hH:Hw S G H hs HN) (hl:∀ x∈VN s0 γ0,VF.of L x.1=some x.2) (hT:Turn H (HN s0 γ0))
  (round:Al fun s=>Al fun γ=>∀ (o:Lp S R) (Lf:Act→World→Prop),Bk E VN HN o Lf→Lv o out→DN c (step s) a o E (.loop Lf::k) (VN s γ) (HN s γ)):DR (.loop c) (iter step n s0) (.l ng ts ss hs a) out E k L H:=
 ⟨fun hx=>z9O hT (zbN hx γ0 VN HN _ hl List.nodup_range (z7N _) fun s γ o hs Lf hL hst=>((round.out s).out γ o Lf ⟨hL⟩ ⟨hst⟩).out hs)⟩
theorem zke {ng:Nat} [Gh ng G] {X:Option (Lp S R)} {kk:S→Option R} {x y:Code} (hV:Vw S G L ss ts VN) (hH:Hw S G H hs HN)
  (h1:∀ (o:Lp S R) (Lf:Act→World→Prop),Bk E VN HN o Lf→Lv o out→DR x X a o E (.loop Lf::k) L H)
  (h2:Al fun s=>Al fun γ=>DN y (kk s) b out E k (VN s γ) (HN s γ)):DR (.seq x y) (bindJ X kk) (.j ng ts ss hs a b) out E k L H:=⟨fun hx=>by
 obtain ⟨o,ho,ha⟩:=z5D hx
 refine zcx (S×G) (fun σ=>VN σ.1 σ.2) (fun σ=>HN σ.1 σ.2) (fun σ=>o = .go σ.1) (fun Lf hL=>(h1 o Lf ⟨fun s γ hs=>hL (s,γ) hs⟩ ⟨fun r hr=>?_⟩).out ho) ?_
 ·subst hr; exact z78 ha
 ·rintro ⟨s,γ⟩ rfl
  exact ((h2.out s).out γ).out (z7n ha)⟩
theorem dg_go {g:Hn} {o:Lp S R} {s:S} {γ:G} {Lf:Act→World→Prop} (hb:Bk E VN HN o Lf) (hl:∀ x∈VN s γ,VF.of L x.1=some x.2) (hT:Turn H (HN s γ)):DG (.loop Lf::k) (some (.go s)) g o E L H:=
 ⟨fun hx=>z9n hT fun a w q=>hb.out s γ (z4N hx).symm a w (q.vle (VF.le_of _ hl))⟩
theorem dr_l0 {VN:S→Unit→List (Nat×Value)} {HN:S→Unit→List HA} {step:S→Option (Lp S R)} {n:Nat} {s0:S} {c:Code} (hV:Vw S (Unit) L ss ts VN) (hH:Hw S (Unit) H hs HN) (hl:∀ x∈VN s0 (),VF.of L x.1=some x.2) (hT:Turn H (HN s0 ()))
 (round:Al fun s=>Al fun γ=>∀ (o:Lp S R) (Lf:Act→World→Prop),Bk E VN HN o Lf→Lv o out→DN c (step s) a o E (.loop Lf::k) (VN s γ) (HN s γ)):DR (.loop c) (iter step n s0) (.l 0 ts ss hs a) out E k L H:=z9a (γ0:=()) hV hH hl hT round
theorem dg_g0 {VN:S→Unit→List (Nat×Value)} {HN:S→Unit→List HA} {g:Hn} {o:Lp S R} {s:S} {Lf:Act→World→Prop} (hb:Bk E VN HN o Lf) (hl:∀ x∈VN s (),VF.of L x.1=some x.2) (hT:Turn H (HN s ())):DG (.loop Lf::k) (some (.go s)) g o E L H:=dg_go (γ:=()) hb hl hT
theorem dr_l1 {v1:Value} {VN:S→Value→List (Nat×Value)} {HN:S→Value→List HA} {step:S→Option (Lp S R)} {n:Nat} {s0:S} {c:Code} (hV:Vw S (Value) L ss ts VN) (hH:Hw S (Value) H hs HN) (hl:∀ x∈VN s0 v1,VF.of L x.1=some x.2) (hT:Turn H (HN s0 v1))
 (round:Al fun s=>Al fun γ=>∀ (o:Lp S R) (Lf:Act→World→Prop),Bk E VN HN o Lf→Lv o out→DN c (step s) a o E (.loop Lf::k) (VN s γ) (HN s γ)):DR (.loop c) (iter step n s0) (.l 1 ts ss hs a) out E k L H:=z9a (γ0:=v1) hV hH hl hT round
theorem dg_g1 {v1:Value} {VN:S→Value→List (Nat×Value)} {HN:S→Value→List HA} {g:Hn} {o:Lp S R} {s:S} {Lf:Act→World→Prop} (hb:Bk E VN HN o Lf) (hl:∀ x∈VN s v1,VF.of L x.1=some x.2) (hT:Turn H (HN s v1)):DG (.loop Lf::k) (some (.go s)) g o E L H:=dg_go (γ:=v1) hb hl hT
theorem dr_l2 {v1 v2:Value} {VN:S→(Value×Value)→List (Nat×Value)} {HN:S→(Value×Value)→List HA} {step:S→Option (Lp S R)} {n:Nat} {s0:S} {c:Code} (hV:Vw S (Value×Value) L ss ts VN) (hH:Hw S (Value×Value) H hs HN) (hl:∀ x∈VN s0 (v1,v2),VF.of L x.1=some x.2) (hT:Turn H (HN s0 (v1,v2)))
 (round:Al fun s=>Al fun γ=>∀ (o:Lp S R) (Lf:Act→World→Prop),Bk E VN HN o Lf→Lv o out→DN c (step s) a o E (.loop Lf::k) (VN s γ) (HN s γ)):DR (.loop c) (iter step n s0) (.l 2 ts ss hs a) out E k L H:=z9a (γ0:=(v1,v2)) hV hH hl hT round
theorem dg_g2 {v1 v2:Value} {VN:S→(Value×Value)→List (Nat×Value)} {HN:S→(Value×Value)→List HA} {g:Hn} {o:Lp S R} {s:S} {Lf:Act→World→Prop} (hb:Bk E VN HN o Lf) (hl:∀ x∈VN s (v1,v2),VF.of L x.1=some x.2) (hT:Turn H (HN s (v1,v2))):DG (.loop Lf::k) (some (.go s)) g o E L H:=dg_go (γ:=(v1,v2)) hb hl hT
theorem dr_l3 {v1 v2 v3:Value} {VN:S→(Value×Value×Value)→List (Nat×Value)} {HN:S→(Value×Value×Value)→List HA} {step:S→Option (Lp S R)} {n:Nat} {s0:S} {c:Code} (hV:Vw S (Value×Value×Value) L ss ts VN) (hH:Hw S (Value×Value×Value) H hs HN) (hl:∀ x∈VN s0 (v1,v2,v3),VF.of L x.1=some x.2) (hT:Turn H (HN s0 (v1,v2,v3)))
 (round:Al fun s=>Al fun γ=>∀ (o:Lp S R) (Lf:Act→World→Prop),Bk E VN HN o Lf→Lv o out→DN c (step s) a o E (.loop Lf::k) (VN s γ) (HN s γ)):DR (.loop c) (iter step n s0) (.l 3 ts ss hs a) out E k L H:=z9a (γ0:=(v1,v2,v3)) hV hH hl hT round
theorem dg_g3 {v1 v2 v3:Value} {VN:S→(Value×Value×Value)→List (Nat×Value)} {HN:S→(Value×Value×Value)→List HA} {g:Hn} {o:Lp S R} {s:S} {Lf:Act→World→Prop} (hb:Bk E VN HN o Lf) (hl:∀ x∈VN s (v1,v2,v3),VF.of L x.1=some x.2) (hT:Turn H (HN s (v1,v2,v3))):DG (.loop Lf::k) (some (.go s)) g o E L H:=dg_go (γ:=(v1,v2,v3)) hb hl hT
theorem dr_l4 {v1 v2 v3 v4:Value} {VN:S→(Value×Value×Value×Value)→List (Nat×Value)} {HN:S→(Value×Value×Value×Value)→List HA} {step:S→Option (Lp S R)} {n:Nat} {s0:S} {c:Code} (hV:Vw S (Value×Value×Value×Value) L ss ts VN) (hH:Hw S (Value×Value×Value×Value) H hs HN) (hl:∀ x∈VN s0 (v1,v2,v3,v4),VF.of L x.1=some x.2) (hT:Turn H (HN s0 (v1,v2,v3,v4)))
 (round:Al fun s=>Al fun γ=>∀ (o:Lp S R) (Lf:Act→World→Prop),Bk E VN HN o Lf→Lv o out→DN c (step s) a o E (.loop Lf::k) (VN s γ) (HN s γ)):DR (.loop c) (iter step n s0) (.l 4 ts ss hs a) out E k L H:=z9a (γ0:=(v1,v2,v3,v4)) hV hH hl hT round
theorem dg_g4 {v1 v2 v3 v4:Value} {VN:S→(Value×Value×Value×Value)→List (Nat×Value)} {HN:S→(Value×Value×Value×Value)→List HA} {g:Hn} {o:Lp S R} {s:S} {Lf:Act→World→Prop} (hb:Bk E VN HN o Lf) (hl:∀ x∈VN s (v1,v2,v3,v4),VF.of L x.1=some x.2) (hT:Turn H (HN s (v1,v2,v3,v4))):DG (.loop Lf::k) (some (.go s)) g o E L H:=dg_go (γ:=(v1,v2,v3,v4)) hb hl hT
theorem dr_l5 {v1 v2 v3 v4 v5:Value} {VN:S→(Value×Value×Value×Value×Value)→List (Nat×Value)} {HN:S→(Value×Value×Value×Value×Value)→List HA} {step:S→Option (Lp S R)} {n:Nat} {s0:S} {c:Code} (hV:Vw S (Value×Value×Value×Value×Value) L ss ts VN) (hH:Hw S (Value×Value×Value×Value×Value) H hs HN) (hl:∀ x∈VN s0 (v1,v2,v3,v4,v5),VF.of L x.1=some x.2) (hT:Turn H (HN s0 (v1,v2,v3,v4,v5)))
 (round:Al fun s=>Al fun γ=>∀ (o:Lp S R) (Lf:Act→World→Prop),Bk E VN HN o Lf→Lv o out→DN c (step s) a o E (.loop Lf::k) (VN s γ) (HN s γ)):DR (.loop c) (iter step n s0) (.l 5 ts ss hs a) out E k L H:=z9a (γ0:=(v1,v2,v3,v4,v5)) hV hH hl hT round
theorem dg_g5 {v1 v2 v3 v4 v5:Value} {VN:S→(Value×Value×Value×Value×Value)→List (Nat×Value)} {HN:S→(Value×Value×Value×Value×Value)→List HA} {g:Hn} {o:Lp S R} {s:S} {Lf:Act→World→Prop} (hb:Bk E VN HN o Lf) (hl:∀ x∈VN s (v1,v2,v3,v4,v5),VF.of L x.1=some x.2) (hT:Turn H (HN s (v1,v2,v3,v4,v5))):DG (.loop Lf::k) (some (.go s)) g o E L H:=dg_go (γ:=(v1,v2,v3,v4,v5)) hb hl hT
theorem dr_l6 {v1 v2 v3 v4 v5 v6:Value} {VN:S→(Value×Value×Value×Value×Value×Value)→List (Nat×Value)} {HN:S→(Value×Value×Value×Value×Value×Value)→List HA} {step:S→Option (Lp S R)} {n:Nat} {s0:S} {c:Code} (hV:Vw S (Value×Value×Value×Value×Value×Value) L ss ts VN) (hH:Hw S (Value×Value×Value×Value×Value×Value) H hs HN) (hl:∀ x∈VN s0 (v1,v2,v3,v4,v5,v6),VF.of L x.1=some x.2) (hT:Turn H (HN s0 (v1,v2,v3,v4,v5,v6)))
 (round:Al fun s=>Al fun γ=>∀ (o:Lp S R) (Lf:Act→World→Prop),Bk E VN HN o Lf→Lv o out→DN c (step s) a o E (.loop Lf::k) (VN s γ) (HN s γ)):DR (.loop c) (iter step n s0) (.l 6 ts ss hs a) out E k L H:=z9a (γ0:=(v1,v2,v3,v4,v5,v6)) hV hH hl hT round
theorem dg_g6 {v1 v2 v3 v4 v5 v6:Value} {VN:S→(Value×Value×Value×Value×Value×Value)→List (Nat×Value)} {HN:S→(Value×Value×Value×Value×Value×Value)→List HA} {g:Hn} {o:Lp S R} {s:S} {Lf:Act→World→Prop} (hb:Bk E VN HN o Lf) (hl:∀ x∈VN s (v1,v2,v3,v4,v5,v6),VF.of L x.1=some x.2) (hT:Turn H (HN s (v1,v2,v3,v4,v5,v6))):DG (.loop Lf::k) (some (.go s)) g o E L H:=dg_go (γ:=(v1,v2,v3,v4,v5,v6)) hb hl hT
theorem dr_l7 {v1 v2 v3 v4 v5 v6 v7:Value} {VN:S→(Value×Value×Value×Value×Value×Value×Value)→List (Nat×Value)} {HN:S→(Value×Value×Value×Value×Value×Value×Value)→List HA} {step:S→Option (Lp S R)} {n:Nat} {s0:S} {c:Code} (hV:Vw S (Value×Value×Value×Value×Value×Value×Value) L ss ts VN) (hH:Hw S (Value×Value×Value×Value×Value×Value×Value) H hs HN) (hl:∀ x∈VN s0 (v1,v2,v3,v4,v5,v6,v7),VF.of L x.1=some x.2) (hT:Turn H (HN s0 (v1,v2,v3,v4,v5,v6,v7)))
 (round:Al fun s=>Al fun γ=>∀ (o:Lp S R) (Lf:Act→World→Prop),Bk E VN HN o Lf→Lv o out→DN c (step s) a o E (.loop Lf::k) (VN s γ) (HN s γ)):DR (.loop c) (iter step n s0) (.l 7 ts ss hs a) out E k L H:=z9a (γ0:=(v1,v2,v3,v4,v5,v6,v7)) hV hH hl hT round
theorem dg_g7 {v1 v2 v3 v4 v5 v6 v7:Value} {VN:S→(Value×Value×Value×Value×Value×Value×Value)→List (Nat×Value)} {HN:S→(Value×Value×Value×Value×Value×Value×Value)→List HA} {g:Hn} {o:Lp S R} {s:S} {Lf:Act→World→Prop} (hb:Bk E VN HN o Lf) (hl:∀ x∈VN s (v1,v2,v3,v4,v5,v6,v7),VF.of L x.1=some x.2) (hT:Turn H (HN s (v1,v2,v3,v4,v5,v6,v7))):DG (.loop Lf::k) (some (.go s)) g o E L H:=dg_go (γ:=(v1,v2,v3,v4,v5,v6,v7)) hb hl hT
end
section
variable {S R : Type} {g : Hn} {o : Lp S R} {out x : R} {E : Env} {k : List KI} {L : List (Nat × Value)} {H : List HA} {v : Value}
theorem zjJ (hs:Lv o out) (h:DG k (some x) g out E L H):DG k (some (.stop x)) g o E L H:=⟨fun hx=>h.out (congrArg some (hs.out x (z4N hx).symm))⟩
theorem zjF (hs:Lv o out) (h:DF (some x) out E L H):DF (some (.stop x)) o E L H:=⟨fun hx=>h.out (congrArg some (hs.out x (z4N hx).symm))⟩
theorem zk9 (hs:Lv o out) (h:DP (some x) out E L H v):DP (some (.stop x)) o E L H v:=⟨fun hx=>h.out (congrArg some (hs.out x (z4N hx).symm))⟩
end
def Fp (post:Post) (v:Value) (H:List HA):Prop:=∃ G,post v G∧Turn H G
theorem fp_ex {α:Sort _} {p:α→Value→List HA→Prop} {v:Value} {H:List HA} (x:α) (h:Fp (fun v G=>p x v G) v H):Fp (fun v G=>∃ x,p x v G) v H:=let ⟨G,h1,h2⟩:=h; ⟨G,⟨x,h1⟩,h2⟩
theorem fp_eq {a v:Value} {b H:List HA} (h:v=a) (ht:Turn H b):Fp (fun v G=>v=a∧G=b) v H:=⟨b,⟨h,rfl⟩,ht⟩
theorem zna {A:Type} {q:A} {p:A→Value→List HA→Prop} {v:Value} {H:List HA} (h:Fp (fun v G=>p q v G) v H):Fp (fun v G=>∃ q',Pn.ret q = .ret q'∧p q' v G) v H:=let ⟨G,h1,h2⟩:=h; ⟨G,⟨q,rfl,h1⟩,h2⟩
theorem zkr {A:Type} {q:A} {p:A→Value} {f:A→List HA} {v:Value} {H:List HA} (h:v=p q) (ht:Turn H (f q)):Fp (fun v G=>∃ q',Pn.ret q = .ret q'∧v=p q'∧G=f q') v H:=⟨_,⟨q,rfl,h,rfl⟩,ht⟩
theorem zmA {P:Program} {n:Nat} {w0:World} {o0:Own} {fn:Func} {R:Type} {a r:R} {post:Post} {pan:Value→Prop} {rs:List ResultVar} {vs:List Value} {L:List (Nat×Value)} {H:List HA} (hr:fn.results=rs.toArray) (hv:Rz P (VF.of L) H rs vs) (hp:a=r→Fp post (tup vs) H) :
  DF (some a) r (EnvP P n w0 o0 fn post pan) L H:=⟨fun hx=>by
 intro ac w q
 obtain ⟨G,h1,h2⟩:=hp (z4N hx)
 refine q.leaves fun w' o hb ht hs=>?_
 obtain ⟨o',hb',t',hs'⟩:=h2 w' o hb hs
 exact ⟨_,z7d q.2.2.1 hs rs vs hr hv.all.1 hv.all.2,_,G,o',rfl,h1,hb',ht.trans t',hs'⟩⟩
theorem zmX {P:Program} {n:Nat} {w0:World} {o0:Own} {fn:Func} {R:Type} {a r:R} {post:Post} {pan:Value→Prop} {L:List (Nat×Value)} {H:List HA} {v:Value} (hp:a=r→pan v):DP (some a) r (EnvP P n w0 o0 fn post pan) L H v:=⟨fun hx=>finP (hp (z4N hx))⟩
end Go.Abs
