/-
  Texts that stand side by side: Pz, P9, AbsEnd, AbsEnd3, AbsEnd4, AbsEnd5, Opq, AbsLaid, LaidPs.
-/
import Derived.Test.YtcmaoifiiigggaaGreatDoorV9M34
import Derived.Test.YtcmaoifiiigggaaGreatDoorV9W9
import Derived.WalkKit
import Derived.ProofKit
import Derived.OpenShut
import Derived.ShutString
import Derived.ChangeOld
import Derived.Below
import Derived.SliceStrings
import Derived.ChangeArms
import Derived.Test.YtcmaoifiiigggaaGreatDoorRows
import Derived.LaidHandle
import Derived.Deep.DeepHandedRow
import Derived.Test.YtcmaoifiiigggaaGreatDoorChecked
set_option linter.unusedSimpArgs false
set_option linter.unusedVariables false
namespace Go.Proofs.YtcmaoifiiigggaaGreatDoor
open Go.Abs
set_option maxRecDepth 100000
theorem sane (n:Nat):z1X (n+40)=some true:=by kernel_rfl
open Go.Abs Go.Ps Go.Lex
theorem zzh (s:List UInt8) {n:Nat} (hn:1000000<n):z39 n s=some (z4K 65537 s):=zjY s hn (by omega)
theorem law9 (x:zG) (hx:szSrc x≤1048576):∃ m,zcp m x=some true:=by
  obtain ⟨n,hn,hsane⟩ : ∃ n,2000000<n∧z1X n=some true:=⟨3000000+40,by omega,sane _⟩
  refine ⟨n,?_⟩
  obtain ⟨b,hf,hb⟩:=zzm x (n:=n) hx (by omega)
  unfold zcp
  rw [hsane,hf]
  simp only [ob]
  cases b with
  | false=>rfl
  | true =>
    obtain ⟨hz,hm⟩:=hb rfl
    have hsm:=zzn (show 300≤3000 by decide) (zzl hm)
    rw [zx8 (x:=x) (by omega) hsm (show 1000000<n by omega)]
    simp only [yU,yJ,ob]
    unfold outW
    cases hfo:zvR x with
    | false=>rfl
    | true =>
      simp only [yS]
      by_cases h0:(outT (zvP x)).2=0
      rotate_left
      · obtain ⟨h1,h2⟩:=zyH h0
        simp only [ne_eq,h0,yZ,yQ,yK,h1,Bool.true_and]
        rcases h2 with h2 | h2
        · rw [h2]; rfl
        · rw [h2]; rfl
      · obtain ⟨y,h2,h3⟩:=back (s:=(outT (zvP x)).1) (by omega) hfo (Prod.ext rfl h0)
        simp only [ne_eq,h0,yV,yP,yJ]
        rw [zzh _ (show 1000000<n by omega),h2]
        have zy:szSrc y=szSrc x:=by rw [← zke z0 y,h3,zke]
        simp only [ob,yQ,Bool.and_self,yK]
        rw [zox _ (by omega) (by omega),zox _ (by omega) (by omega),h3]
        simp only [ob]
        have z4:=zke z0 x
        rw [zgO _ (by omega) (by omega)]
        rfl
end Go.Proofs.YtcmaoifiiigggaaGreatDoor
namespace Go.Abs
open Go.Sem Go.ChangeShapes Go.RowKit
theorem Meets.law {P:Program} {f:FuncId} {args:List Value} {H:List HA} (h:Meets P f args H (fun v G=>v = .bool true∧G=[])) {w:World} (hs:Sats w (fun _=>.no) H) :
  Calls P f args.toArray w fun e w'=>e = .returned (.bool true)∧Below w.heap.size w w':=by
 refine (h w (fun _=>.no) (fun _ _=>rfl) hs).mono fun e w' ⟨v,G,o',he,⟨hv,_⟩,_,ht,_⟩=>?_
 subst hv
 exact ⟨he,ht.os,ht.tape,ht.output,ht.size,fun k hk=>(ht.no k hk rfl).2⟩
theorem zck {w:World} {a:Option Addr} {len cap es:Nat} {cells:List (List Value)} (hcl:cells.length=len) (h1:len≤cap) (h2:cap≤maxLen) (h3:a=none→cap=0) (hes:0<es)
    (he:∀ c∈cells,c.length=es) (hc:∀ x,a=some x→∀ i c,cells[i]? = some c→∀ j v,c[j]? = some v→w.cell? (x.add (i*es+j))=some v) :
    z3V w (fun b=>(fun _=>Ow.no:Own) b = .no) (.slice a len cap) es cells:=by
  refine ⟨a,cap,by rw [hcl],by omega,h2,h3,?_⟩
  intro i c hi
  have hlen:=he c (List.mem_of_getElem? hi)
  cases a with
  | none =>
    have:=(List.getElem?_eq_some_iff.1 hi).1
    have:=h3 rfl
    omega
  | some x =>
    have e0:c[0]? = some (c[0]'(by omega)):=List.getElem?_eq_getElem (by omega)
    have h:=hc x rfl i c hi 0 _ e0
    have hs0:=World.cell?_spot h
    have hb:x.block<w.heap.size:=by
      unfold World.cell? at h
      have e:(x.add (i*es+0)).block=x.block:=by unfold Addr.add; split <;> rfl
      rw [e] at h
      cases hh:w.heap[x.block]? with
      | none=>rw [hh] at h; simp at h
      | some o=>exact (Array.getElem?_eq_some_iff.1 hh).1
    obtain ⟨b,off,spot⟩:=x
    refine ⟨hlen,b,off,?_,hb,rfl,?_⟩
    · cases spot with
      | none=>rfl
      | some q =>
        exfalso
        have hi0:∀ i c,cells[i]? = some c→i=0:=by
          intro i c hi
          false_or_by_contra
          have hlen:=he c (List.mem_of_getElem? hi)
          have hi00:cells[0]? = some (cells[0]'(by have:=(List.getElem?_eq_some_iff.1 hi).1; omega)):=List.getElem?_eq_getElem _
          have hl0:=he _ (List.mem_of_getElem? hi00)
          have h:=hc _ rfl 0 _ hi00 0 _ (List.getElem?_eq_getElem (by omega))
          have:=World.cell?_spot h
          simp [Addr.add] at this
        have:=hi0 i c hi
        subst this
        simp [Addr.add] at hs0
    · intro j v hj
      have h':=hc _ rfl i c hi j v hj
      have hsp:=World.cell?_spot h'
      rw [← h']
      congr 1
      unfold Addr.add at hsp ⊢
      split
      · rename_i h0
        rw [if_pos h0] at hsp
        simp only at hsp
        rw [hsp]
        have:off+i*es+j=off:=by omega
        rw [this]
      · rw [Nat.add_assoc]
theorem zl1 {w:World} {B:Nat→Prop} {es:Nat}:z3V w B (.slice none 0 0) es []:=⟨none,0,rfl,by simp,by unfold maxLen; omega,fun _=>rfl,fun i c h=>by simp at h⟩
end Go.Abs
namespace Go.Abs
open Go.Sem Go.ChangeShapes Go.RowKit
section
variable {H : Type} {enc : TypeId × Value → H} {P : Program} {w : World} {base : Nat} {sp : Nat → Bool} {held : Bool}
end
end Go.Abs
namespace Go.Abs
open Go.Sem Go.ChangeShapes Go.RowKit
section
variable {H : Type} {enc : TypeId × Value → H} {P : Program} {w : World} {base : Nat} {sp : Nat → Bool} {held : Bool}
def wfI (k:IntKind) (n:Int):Prop:=(Lit.int k n).wf=true
def Opens (enc:TypeId×Value→H) (P:Program) (w:World) (base:Nat) (sp:Nat→Bool) (held:Bool) (t:TypeId) {α:Type} (F:α→List Value) (wf:α→Prop):Prop:=
 ∀ (fuel:Nat) (cs:List Value) (x:DataW H×List MemPlace),DataW.trod enc P w base sp held fuel t cs=some x→∃ a,cs=F a∧wf a
theorem zs3 {t:TypeId} {k:IntKind} (ht:P.underlying t=some (.int k)):Opens enc P w base sp held t (eInt k) (wfI k):=by
 intro fuel cs x h
 obtain ⟨n,hc,_,hw⟩:=DataW.trod_int ht h
 exact ⟨n,hc,hw⟩
end
end Go.Abs
namespace Go.Abs
open Go.Sem Go.ChangeShapes Go.RowKit
section
variable {H : Type} {enc : TypeId × Value → H} {P : Program} {w : World} {base : Nat} {sp : Nat → Bool} {held : Bool}
theorem zu5 {t:TypeId} (ht:P.underlying t=some .bool):Opens enc P w base sp held t eBool (fun _=>True):=by
 intro fuel cs x h
 obtain ⟨b,hc,_⟩:=DataW.trod_bool ht h
 exact ⟨b,hc,trivial⟩
theorem zhz {t:TypeId} (ht:P.underlying t=some .string):Opens enc P w base sp held t eStr (fun l=>l.length≤maxLen):=by
 intro fuel cs x h
 obtain ⟨s,hc,_,hl⟩:=DataW.trod_string ht h
 exact ⟨s.data.toList,by rw [hc]; rfl,hl⟩
def noO:Own:=fun _=>.no
end
end Go.Abs
namespace Go.Proofs.YtcmaoifiiigggaaGreatDoor
open Go.Abs Go.Sem Go.ChangeShapes Go.RowKit
set_option maxRecDepth 100000
section
variable {H : Type} {enc : TypeId × Value → H} {w : World} {base : Nat} {sp : Nat → Bool} {held : Bool}
theorem zyQ {P:Program} {t e:TypeId} {es:Nat} {α:Type} {F:α→List Value} {q:α→DataW H→Prop} (ht:P.underlying t=some (.slice e)) (hce:P.cellsOf e=es) (hes:0<es) (hF:∀ a,(F a).length=es) {fuel:Nat}
    (ho:∀ m,m<fuel→∀ (cs:List Value) (x:DataW H×List MemPlace),DataW.trod enc P w base sp held m e cs=some x→∃ a,cs=F a∧q a x.1) {cs:List Value} {x:DataW H×List MemPlace} (h:DataW.trod enc P w base sp held fuel t cs=some x) :
    ∃ (v : Value) (l : List α), cs = [v] ∧ z3V w (fun b => (fun _ => Ow.no : Own) b = .no) v es (l.map F) ∧
      ((x.1 = .nil∧l=[])∨∃ ys rs,x.1 = .slice ys rs∧ys.length=l.length∧∀ (i:Nat) (a:α) (y:DataW H),l[i]? = some a→ys[i]? = some y→q a y):=by
  rcases DataW.trod_slice ht h with ⟨rfl,hx⟩ | ⟨a,len,cap,elems,rest,m,hfu,rfl,rfl,hb,hl,hm,hlen,hel',hsp,hns⟩
  · exact ⟨_,[],rfl,zl1,.inl ⟨by rw [hx],rfl⟩⟩
  · have each:∀ i,i<len→∃ d:α,(∀ y,elems[i]? = some y→q d y.1)∧∀ j v,(F d)[j]? = some v→w.cell? (a.add (i*es+j))=some v:=by
      intro i hi
      have h1:=hel' i hi
      rw [List.getElem?_eq_getElem (by omega),hce,Option.bind_eq_some_iff] at h1
      obtain ⟨cs',hcs,hy⟩:=h1
      obtain ⟨d,rfl,hd⟩:=ho m (by omega) _ _ hy
      refine ⟨d,fun y hy'=>?_,fun j v hj=>?_⟩
      · rw [List.getElem?_eq_getElem (by omega)] at hy'
        obtain rfl:=Option.some.inj hy'
        exact hd
      have hjlt:j<es:=by have:=(List.getElem?_eq_some_iff.1 hj).1; rw [hF] at this; omega
      have:=(World.cells?_some hcs).2.2 j hjlt
      rw [hj] at this
      rw [← this]
      congr 1
      unfold Addr.add
      by_cases e1:i*es=0
      · rw [if_pos e1]; simp [e1]
      · rw [if_neg e1,if_neg (by omega)]
        by_cases e2:j=0
        · simp [e2]
        · rw [if_neg e2]; simp [Nat.add_assoc]
    have hch:∃ l:List α,l.length=len∧∀ i d,l[i]? = some d→(∀ y,elems[i]? = some y→q d y.1)∧∀ j v,(F d)[j]? = some v→w.cell? (a.add (i*es+j))=some v:=by
      clear hel' hlen hsp hns hl h
      induction len with
      | zero=>exact ⟨[],rfl,by simp⟩
      | succ k ih =>
        obtain ⟨l,hl1,hl2⟩:=ih (fun i hi=>each i (by omega))
        obtain ⟨d,hd1,hd2⟩:=each k (by omega)
        refine ⟨l++[d],by simp [hl1],fun i d' hi=>?_⟩
        by_cases hik:i<k
        · rw [List.getElem?_append_left (by omega)] at hi; exact hl2 i d' hi
        · rw [List.getElem?_append_right (by omega)] at hi
          have:i=k:=by have:=(List.getElem?_eq_some_iff.1 hi).1; simp at this; omega
          subst this
          rw [hl1,Nat.sub_self] at hi
          simp at hi
          subst hi
          exact ⟨hd1,hd2⟩
    obtain ⟨l,hl1,hl2⟩:=hch
    refine ⟨_,l,rfl,?_,.inr ⟨_,_,rfl,by simp [hlen,hl1],fun i d y hi hy=>?_⟩⟩
    · refine zck (by rw [List.length_map,hl1]) hl hm (by simp) hes ?_ ?_
      · intro c hc
        obtain ⟨d,hd,rfl⟩:=List.mem_map.1 hc
        exact hF d
      · intro x hx i c hi j v hj
        cases hx
        simp only [List.getElem?_map,Option.map_eq_some_iff] at hi
        obtain ⟨d,hd,rfl⟩:=hi
        exact (hl2 i d hd).2 j v hj
    · rw [List.getElem?_map,Option.map_eq_some_iff] at hy
      obtain ⟨z,hz,rfl⟩:=hy
      exact (hl2 i d hi).1 z hz
theorem zyR {α:Type}:∀ (l:List α) (ys:List (DataW H)),ys.length=l.length→(∀ y:DataW H,1≤Rows.uptoBulk y)→l.length≤Rows.uptoBulkAll ys
 | [],_,_,_=>by simp
 | a::l,y::ys,h,h1=>by have:=zyR l ys (by simpa using h) h1; have:=h1 y; simp only [yC,Rows.uptoBulkAll]; omega
theorem zyY (d:DataW H):1≤Rows.uptoBulk d:=by
 cases d with
 | lit l=>cases l <;> simp [Rows.uptoBulk]
 | nil=>simp [Rows.uptoBulk]
 | ptr d=>simp [Rows.uptoBulk]
 | slice e r=>simp [Rows.uptoBulk]
 | agg p=>simp [Rows.uptoBulk]
 | iface t d=>simp [Rows.uptoBulk]
 | map e=>simp [Rows.uptoBulk]
 | held x=>simp [Rows.uptoBulk]
theorem zyO {d:DataW H}:∀ {l:List (DataW H)},d∈l→Rows.uptoBulk d≤Rows.uptoBulkAll l
  | y :: l, h => by
    simp only [Rows.uptoBulkAll]
    rcases List.mem_cons.1 h with rfl | h
    · omega
    · have:=zyO h; omega
theorem bulk2:∀ (xs:List (DataW H)) (i j:Nat) (hi:i<j) (h:j<xs.length),Rows.uptoBulk (xs[i]'(by omega))+Rows.uptoBulk xs[j]≤Rows.uptoBulkAll xs:=by
  have one:∀ (xs:List (DataW H)) (i:Nat) (h:i<xs.length),Rows.uptoBulk xs[i]≤Rows.uptoBulkAll xs:=fun xs i h=>zyO (List.getElem_mem h)
  intro xs
  induction xs with
  | nil=>intro i j hi h; simp at h
  | cons x r ih =>
    intro i j hi h
    cases j with
    | zero=>omega
    | succ j =>
      cases i with
      | zero=>have:=one r j (by simpa using h); simp only [List.getElem_cons_zero,List.getElem_cons_succ,Rows.uptoBulkAll]; omega
      | succ i=>have:=ih i j (by omega) (by simpa using h); simp only [List.getElem_cons_succ,Rows.uptoBulkAll]; omega
theorem bulk3 (xs:List (DataW H)) (i j k:Nat) (hi:i<j) (hj:j<k) (hk:k<xs.length):Rows.uptoBulk (xs[i]'(by omega))+Rows.uptoBulk (xs[j]'(by omega))+Rows.uptoBulk xs[k]≤Rows.uptoBulkAll xs:=by
  have one:∀ (xs:List (DataW H)) (i:Nat) (h:i<xs.length),Rows.uptoBulk xs[i]≤Rows.uptoBulkAll xs:=fun xs i h=>zyO (List.getElem_mem h)
  have two:∀ (xs:List (DataW H)) (i j:Nat) (hi:i<j) (h:j<xs.length),Rows.uptoBulk (xs[i]'(by omega))+Rows.uptoBulk xs[j]≤Rows.uptoBulkAll xs:=by
    intro xs
    induction xs with
    | nil=>intro i j hi h; simp at h
    | cons x r ih =>
      intro i j hi h
      cases j with
      | zero=>omega
      | succ j =>
        cases i with
        | zero=>have:=one r j (by simpa using h); simp only [List.getElem_cons_zero,List.getElem_cons_succ,Rows.uptoBulkAll]; omega
        | succ i=>have:=ih i j (by omega) (by simpa using h); simp only [List.getElem_cons_succ,Rows.uptoBulkAll]; omega
  induction xs generalizing i j k with
  | nil=>simp at hk
  | cons x r ih =>
    obtain ⟨j,rfl⟩ : ∃ j',j=j'+1:=⟨j - 1,by omega⟩
    obtain ⟨k,rfl⟩ : ∃ k',k=k'+1:=⟨k - 1,by omega⟩
    cases i with
    | zero=>have:=two r j k (by omega) (by simpa using hk); simp only [List.getElem_cons_zero,List.getElem_cons_succ,Rows.uptoBulkAll]; omega
    | succ i =>
      have:=ih i j k (by omega) (by omega) (by simpa using hk)
      simp only [List.getElem_cons_succ,Rows.uptoBulkAll]
      exact Nat.le_trans (this two) (Nat.le_add_left _ _)
theorem zyS {α G:Type} {m:α→Nat}:∀ (l:List (α×G)) (ys:List (DataW H)),ys.length=l.length→(∀ (i:Nat) (a:α×G) (y:DataW H),l[i]? = some a→ys[i]? = some y→m a.1≤Rows.uptoBulk y)→szL m (l.map (·.1))≤Rows.uptoBulkAll ys
  | [],_,_,_=>by simp [szL]
  | a :: l, y :: ys, h, hq => by
    have h1:=zyS l ys (by simpa using h) (fun i b z hb hz=>hq (i+1) b z (by simpa using hb) (by simpa using hz))
    have h2:=hq 0 a y rfl rfl
    simp only [yI,szL,Rows.uptoBulkAll]; omega
abbrev QA {α:Type} (C:NC α) (m:α→Nat) (w:World) (p:α×C.G) (d:DataW H):Prop:=m p.1≤Rows.uptoBulk d∧∀ k,HsP (C.S p.1 p.2) w noO k
theorem zyP {α:Type} {C:NC α} {m:α→Nat} {t e:TypeId} {es:Nat} (ht:Tryz.prog.underlying t=some (.slice e)) (hce:Tryz.prog.cellsOf e=es) (hes:0<es) (hCes:C.es=es∧C.nn=false) (hF:∀ p:α×C.G,(C.F p.1 p.2).length=es) {fuel:Nat}
  (ih:∀ k,k<fuel→∀ (cs:List Value) (x:DataW H×List MemPlace),DataW.trod enc Tryz.prog w base sp held k e cs=some x→∃ p:α×C.G,cs=C.F p.1 p.2∧QA C m w p x.1)
  {cs:List Value} {x:DataW H×List MemPlace} (h:DataW.trod enc Tryz.prog w base sp held fuel t cs=some x) :
  ∃ (v:Value) (l:List α),cs=[v]∧szL m l+1≤Rows.uptoBulk x.1∧∀ k,(nro v C l).p w noO k:=by
 obtain ⟨v,lg,e,s,b⟩:=zyQ (α:=α×C.G) (F:=fun p=>C.F p.1 p.2) (q:=QA C m w) (es:=es) ht hce hes hF ih h
 obtain ⟨rfl,hnn⟩:=hCes
 refine ⟨v,lg.map (·.1),e,?_,fun k=>⟨⟨lg,rfl,s,fun p hp=>?_⟩,fun q=>by rw [hnn] at q; cases q⟩⟩
 ·rcases b with ⟨b1,rfl⟩ | ⟨ys,rs,b1,b2,b3⟩
  ·rw [b1]; simp [szL,Rows.uptoBulk]
  ·have:=zyS (m:=m) lg ys b2 (fun i a y hi hy=>(b3 i a y hi hy).1)
   rw [b1]; simp only [Rows.uptoBulk]; omega
 ·rcases b with ⟨b1,rfl⟩ | ⟨ys,rs,b1,b2,b3⟩
  ·cases hp
  ·obtain ⟨i,hi⟩:=List.getElem?_of_mem hp
   have hlt:=(List.getElem?_eq_some_iff.1 hi).1
   exact (b3 i p _ hi (List.getElem?_eq_getElem (by rw [b2]; exact hlt))).2 k
theorem leafA {α:Type} {F:α→List Value} {wf:α→Prop} {t e:TypeId} {es:Nat} (ht:Tryz.prog.underlying t=some (.slice e)) (hce:Tryz.prog.cellsOf e=es) (hes:0<es) (hF:∀ a,(F a).length=es) (ho:Opens enc Tryz.prog w base sp held e F wf)
  {fuel:Nat} {cs:List Value} {x:DataW H×List MemPlace} (h:DataW.trod enc Tryz.prog w base sp held fuel t cs=some x) :
  ∃ (v:Value) (l:List α),cs=[v]∧l.length+1≤Rows.uptoBulk x.1∧∀ k,(ro v es (l.map F)).p w noO k:=by
 obtain ⟨v,l,e1,s1,b1⟩:=zyQ (F:=F) (q:=fun a _=>wf a) (es:=es) ht hce hes hF (fun m hm cs x hh=>ho _ _ _ hh) h
 refine ⟨v,l,e1,?_,fun _=>s1⟩
 rcases b1 with ⟨b1,rfl⟩ | ⟨ys,rs,d1,d2,_⟩
 ·rw [b1]; simp [Rows.uptoBulk]
 ·have:=zyR l ys d2 zyY
  rw [d1]
  simp only [Rows.uptoBulk]; omega
theorem k3:Tryz.prog.cellsOf 3=1:=by kernel_rfl
theorem k4:Tryz.prog.cellsOf 4=1:=by kernel_rfl
theorem k9:Tryz.prog.cellsOf 9=1:=by kernel_rfl
theorem k45:Tryz.prog.cellsOf 45=1:=by kernel_rfl
theorem k47:Tryz.prog.cellsOf 47=4:=by kernel_rfl
theorem k80:Tryz.prog.cellsOf 80=1:=by kernel_rfl
theorem k84:Tryz.prog.cellsOf 84=9:=by kernel_rfl
theorem k77:Tryz.prog.cellsOf 77=1:=by kernel_rfl
theorem k88:Tryz.prog.cellsOf 88=10:=by kernel_rfl
theorem k74:Tryz.prog.cellsOf 74=1:=by kernel_rfl
theorem k79:Tryz.prog.cellsOf 79=3:=by kernel_rfl
theorem k76:Tryz.prog.cellsOf 76=3:=by kernel_rfl
theorem k82:Tryz.prog.cellsOf 82=4:=by kernel_rfl
theorem k62:Tryz.prog.cellsOf 62=1:=by kernel_rfl
theorem k59:Tryz.prog.cellsOf 59=1:=by kernel_rfl
theorem k86:Tryz.prog.cellsOf 86=3:=by kernel_rfl
theorem k23:Tryz.prog.cellsOf 23=1:=by kernel_rfl
theorem k24:Tryz.prog.cellsOf 24=1:=by kernel_rfl
theorem zyX:∀ (fuel:Nat) (cs:List Value) (x:DataW H×List MemPlace),DataW.trod enc Tryz.prog w base sp held fuel 47 cs=some x→∃ p,cs=zj.F p.1 p.2∧QA zj szE w p x.1:=by
  intro fuel
  induction fuel using Nat.strongRecOn with
  | _ fuel ih=>
  intro cs x h
  obtain ⟨xs,n,hn,hx,hl,hlen,hf⟩:=DataW.trod_struct Tryz.underlying47 h
  have hl' : cs.length=4:=hl.trans k47
  have hx6:xs.length=4:=hlen
  match cs,hl' with
  | [c0, c1, c2, c3], _ =>
    have f0:=hf 0 _ rfl
    rw [List.getElem?_eq_getElem (show 0<xs.length by omega)] at f0
    have f1:=hf 1 _ rfl
    rw [List.getElem?_eq_getElem (show 1<xs.length by omega)] at f1
    have f2:=hf 2 _ rfl
    rw [List.getElem?_eq_getElem (show 2<xs.length by omega)] at f2
    have f3:=hf 3 _ rfl
    rw [List.getElem?_eq_getElem (show 3<xs.length by omega)] at f3
    obtain ⟨a0,e0,w0⟩:=(zs3 Tryz.underlying3) _ _ _ f0
    obtain ⟨a1,e1,w1⟩:=(zs3 Tryz.underlying3) _ _ _ f1
    obtain ⟨a2,e2,w2⟩:=(zhz Tryz.underlying9) _ _ _ f2
    obtain ⟨v3,l3,e3,b3,s3⟩:=zyP (C:=zj) (m:=szE) Tryz.underlying45 k47 (by decide) ⟨rfl,rfl⟩ (fun _=>rfl) (fun m hm=>ih m (by omega)) f3
    simp [k3,eInt] at e0 e1
    simp [k9,eStr] at e2
    simp [k45] at e3
    subst e0 e1 e2 e3
    refine ⟨(⟨a0,a1,a2,l3⟩,c3),rfl,?_,fun k h hh=>?_⟩
    · have hm:(xs[3]'(by omega)).1∈xs.map (·.1):=List.mem_map.2 ⟨_,List.getElem_mem _,rfl⟩
      have:=zyO hm
      rw [hx]
      simp only [szE,zdQ,Rows.uptoBulk]; omega
    · replace hh:=(congrArg (fun L=>h∈L) (TC.S_eq (T:=z1b) (⟨a0,a1,a2,l3⟩ : zi) c3)).mp hh
      simp only [z1b,yD,yI,List.map_nil,y1,y0,or_false] at hh
      subst hh
      exact s3 k
theorem zz1:∀ (fuel:Nat) (cs:List Value) (x:DataW H×List MemPlace),DataW.trod enc Tryz.prog w base sp held fuel 84 cs=some x→∃ p,cs=zE.F p.1 p.2∧QA zE szS w p x.1:=by
  intro fuel
  induction fuel using Nat.strongRecOn with
  | _ fuel ih=>
  intro cs x h
  obtain ⟨xs,n,hn,hx,hl,hlen,hf⟩:=DataW.trod_struct Tryz.underlying84 h
  have hl' : cs.length=9:=hl.trans k84
  have hx7:xs.length=6:=hlen
  match cs,hl' with
  | [c0, c1, c2, x0, x1, x2, x3, c4, c5], _ =>
    have f0:=hf 0 _ rfl
    rw [List.getElem?_eq_getElem (show 0<xs.length by omega)] at f0
    have f1:=hf 1 _ rfl
    rw [List.getElem?_eq_getElem (show 1<xs.length by omega)] at f1
    have f2:=hf 2 _ rfl
    rw [List.getElem?_eq_getElem (show 2<xs.length by omega)] at f2
    have f3:=hf 3 _ rfl
    rw [List.getElem?_eq_getElem (show 3<xs.length by omega)] at f3
    have f4:=hf 4 _ rfl
    rw [List.getElem?_eq_getElem (show 4<xs.length by omega)] at f4
    have f5:=hf 5 _ rfl
    rw [List.getElem?_eq_getElem (show 5<xs.length by omega)] at f5
    obtain ⟨a0,e0,w0⟩:=(zs3 Tryz.underlying3) _ _ _ f0
    obtain ⟨a1,e1,w1⟩:=(zs3 Tryz.underlying3) _ _ _ f1
    obtain ⟨a2,e2,w2⟩:=(zhz Tryz.underlying9) _ _ _ f2
    obtain ⟨⟨a3,g3⟩,e3,b3,s3⟩:=zyX _ _ _ f3
    obtain ⟨v4,l4,e4,b4,s4⟩:=zyP (C:=zE) (m:=szS) Tryz.underlying80 k84 (by decide) ⟨rfl,rfl⟩ (fun _=>rfl) (fun m hm=>ih m (by omega)) f4
    obtain ⟨v5,l5,e5,b5,s5⟩:=zyP (C:=zE) (m:=szS) Tryz.underlying80 k84 (by decide) ⟨rfl,rfl⟩ (fun _=>rfl) (fun m hm=>ih m (by omega)) f5
    simp [k3,eInt] at e0 e1
    simp [k9,eStr] at e2
    simp [k47] at e3
    simp [k80] at e4 e5
    subst e0 e1 e2 e4 e5
    have e3' : [x0,x1,x2,x3]=[.int .i64 a3.Op,.int .i64 a3.At,.string (bs a3.S),g3]:=e3
    injection e3' with u0 e3'
    injection e3' with u1 e3'
    injection e3' with u2 e3'
    injection e3' with u3 e3'
    subst u0 u1 u2 u3
    refine ⟨(⟨a0,a1,a2,a3,l4,l5⟩,(x3,c4,c5)),rfl,?_,fun k h hh=>?_⟩
    · have:=bulk3 (xs.map (·.1)) 3 4 5 (by omega) (by omega) (by simp; omega)
      simp only [List.getElem_map] at this
      rw [hx]
      simp only [szS,zd9,Rows.uptoBulk] at b3 ⊢; omega
    · replace hh:=(congrArg (fun L=>h∈L) (TC.S_eq (T:=z1S) (⟨a0,a1,a2,a3,l4,l5⟩ : zm) (x3,c4,c5))).mp hh
      simp only [z1S,yI,List.map_nil,yE,yD,y1,y0,or_false] at hh
      rcases hh with rfl | rfl | rfl
      · refine s3 k _ ?_
        refine (congrArg (fun L=>nro x3 zj a3.Args∈L) (TC.S_eq (T:=z1b) a3 x3)).mpr ?_
        exact List.mem_singleton.2 rfl
      · exact s4 k
      · exact s5 k
theorem zyU {fuel:Nat} {cs:List Value} {x:DataW H×List MemPlace} (h:DataW.trod enc Tryz.prog w base sp held fuel 86 cs=some x):∃ a:z1r,cs=[.string (bs a.Number),.string (bs a.Unit),.int .i64 a.At]:=by
  obtain ⟨xs,n,hn,hx,hl,hlen,hf⟩:=DataW.trod_struct Tryz.underlying86 h
  have hl' : cs.length=3:=hl.trans k86
  have hx3:xs.length=3:=hlen
  match cs,hl' with
  | [c0, c1, c2], _ =>
    have f0:=hf 0 _ rfl
    rw [List.getElem?_eq_getElem (show 0<xs.length by omega)] at f0
    have f1:=hf 1 _ rfl
    rw [List.getElem?_eq_getElem (show 1<xs.length by omega)] at f1
    have f2:=hf 2 _ rfl
    rw [List.getElem?_eq_getElem (show 2<xs.length by omega)] at f2
    obtain ⟨a0,e0,w0⟩:=(zhz Tryz.underlying9) _ _ _ f0
    obtain ⟨a1,e1,w1⟩:=(zhz Tryz.underlying9) _ _ _ f1
    obtain ⟨a2,e2,w2⟩:=(zs3 Tryz.underlying3) _ _ _ f2
    simp [k9,eStr] at e0 e1
    simp [k3,eInt] at e2
    exact ⟨⟨a0,a1,a2⟩,by rw [e0,e1,e2]⟩
theorem zyV:∀ (fuel:Nat) (cs:List Value) (x:DataW H×List MemPlace),DataW.trod enc Tryz.prog w base sp held fuel 88 cs=some x→∃ p,cs=zp.F p.1 p.2∧QA zp szC w p x.1:=by
  intro fuel
  induction fuel using Nat.strongRecOn with
  | _ fuel ih=>
  intro cs x h
  obtain ⟨xs,n,hn,hx,hl,hlen,hf⟩:=DataW.trod_struct Tryz.underlying88 h
  have hl' : cs.length=10:=hl.trans k88
  have hx7:xs.length=8:=hlen
  match cs,hl' with
  | [c0, c1, c2, c3, y0, y1, y2, c5, c6, c7], _ =>
    have f0:=hf 0 _ rfl
    rw [List.getElem?_eq_getElem (show 0<xs.length by omega)] at f0
    have f1:=hf 1 _ rfl
    rw [List.getElem?_eq_getElem (show 1<xs.length by omega)] at f1
    have f2:=hf 2 _ rfl
    rw [List.getElem?_eq_getElem (show 2<xs.length by omega)] at f2
    have f3:=hf 3 _ rfl
    rw [List.getElem?_eq_getElem (show 3<xs.length by omega)] at f3
    have f4:=hf 4 _ rfl
    rw [List.getElem?_eq_getElem (show 4<xs.length by omega)] at f4
    have f5:=hf 5 _ rfl
    rw [List.getElem?_eq_getElem (show 5<xs.length by omega)] at f5
    have f6:=hf 6 _ rfl
    rw [List.getElem?_eq_getElem (show 6<xs.length by omega)] at f6
    have f7:=hf 7 _ rfl
    rw [List.getElem?_eq_getElem (show 7<xs.length by omega)] at f7
    obtain ⟨a0,e0,w0⟩:=(zs3 Tryz.underlying3) _ _ _ f0
    obtain ⟨a1,e1,w1⟩:=(zs3 Tryz.underlying3) _ _ _ f1
    obtain ⟨a2,e2,w2⟩:=(zhz Tryz.underlying9) _ _ _ f2
    obtain ⟨v3,l3,e3,b3,s3⟩:=leafA (F:=eStr) Tryz.underlying62 k9 (by decide) (fun _=>rfl) (zhz Tryz.underlying9) f3
    obtain ⟨a4,e4⟩:=zyU f4
    obtain ⟨a5,e5,w5⟩:=(zhz Tryz.underlying9) _ _ _ f5
    obtain ⟨a6,e6,w6⟩:=(zu5 Tryz.underlying4) _ _ _ f6
    obtain ⟨v7,l7,e7,b7,s7⟩:=zyP (C:=zp) (m:=szC) Tryz.underlying77 k88 (by decide) ⟨rfl,rfl⟩ (fun _=>rfl) (fun m hm=>ih m (by omega)) f7
    simp [k3,eInt] at e0 e1
    simp [k9,eStr] at e2 e5
    simp [k62] at e3
    simp [k86] at e4
    simp [k4,eBool] at e6
    simp [k77] at e7
    obtain ⟨rfl,rfl,rfl⟩:=e4
    subst e0 e1 e2 e3 e5 e6 e7
    refine ⟨(⟨a0,a1,a2,l3,a4,a5,a6,l7⟩,(c3,c7)),rfl,?_,fun k h hh=>?_⟩
    · have:=bulk2 (xs.map (·.1)) 3 7 (by omega) (by simp; omega)
      simp only [List.getElem_map] at this
      rw [hx]
      simp only [szC,zjA,Rows.uptoBulk]; omega
    · replace hh:=(congrArg (fun L=>h∈L) (TC.S_eq (T:=z1W) (⟨a0,a1,a2,l3,a4,a5,a6,l7⟩ : zl) (c3,c7))).mp hh
      simp only [z1W,yI,List.map_nil,yE,yD,y1,y0,or_false] at hh
      rcases hh with rfl | rfl
      · exact s3 k
      · exact s7 k
theorem zyZ (fuel:Nat) (cs:List Value) (x:DataW H×List MemPlace) (h:DataW.trod enc Tryz.prog w base sp held fuel 79 cs=some x):∃ p,cs=zY.F p.1 p.2∧QA zY szR w p x.1:=by
  obtain ⟨xs,n,hn,hx,hl,hlen,hf⟩:=DataW.trod_struct Tryz.underlying79 h
  have hl' : cs.length=3:=hl.trans k79
  have hx3:xs.length=3:=hlen
  match cs,hl' with
  | [c0, c1, c2], _ =>
    have f0:=hf 0 _ rfl
    rw [List.getElem?_eq_getElem (show 0<xs.length by omega)] at f0
    have f1:=hf 1 _ rfl
    rw [List.getElem?_eq_getElem (show 1<xs.length by omega)] at f1
    have f2:=hf 2 _ rfl
    rw [List.getElem?_eq_getElem (show 2<xs.length by omega)] at f2
    obtain ⟨a0,e0,w0⟩:=(zhz Tryz.underlying9) _ _ _ f0
    obtain ⟨a1,e1,w1⟩:=(zs3 Tryz.underlying3) _ _ _ f1
    obtain ⟨v2,l2,e2,b2,s2⟩:=zyP (C:=zp) (m:=szC) Tryz.underlying77 k88 (by decide) ⟨rfl,rfl⟩ (fun _=>rfl) (fun m hm=>zyV m) f2
    simp [k9,eStr] at e0
    simp [k3,eInt] at e1
    simp [k77] at e2
    subst e0 e1 e2
    refine ⟨(⟨a0,a1,l2⟩,c2),rfl,?_,fun k h hh=>?_⟩
    · have hm:(xs[2]'(by omega)).1∈xs.map (·.1):=List.mem_map.2 ⟨_,List.getElem_mem _,rfl⟩
      have:=zyO hm
      rw [hx]
      simp only [szR,zjA,Rows.uptoBulk]; omega
    · simp only [zY,y1,y0,or_false] at hh
      subst hh
      exact s2 k
theorem zyW (fuel:Nat) (cs:List Value) (x:DataW H×List MemPlace) (h:DataW.trod enc Tryz.prog w base sp held fuel 76 cs=some x):∃ p,cs=zz.F p.1 p.2∧QA zz szP w p x.1:=by
  obtain ⟨xs,n,hn,hx,hl,hlen,hf⟩:=DataW.trod_struct Tryz.underlying76 h
  have hl' : cs.length=3:=hl.trans k76
  have hx3:xs.length=3:=hlen
  match cs,hl' with
  | [c0, c1, c2], _ =>
    have f0:=hf 0 _ rfl
    rw [List.getElem?_eq_getElem (show 0<xs.length by omega)] at f0
    have f1:=hf 1 _ rfl
    rw [List.getElem?_eq_getElem (show 1<xs.length by omega)] at f1
    have f2:=hf 2 _ rfl
    rw [List.getElem?_eq_getElem (show 2<xs.length by omega)] at f2
    obtain ⟨a0,e0,w0⟩:=(zhz Tryz.underlying9) _ _ _ f0
    obtain ⟨a1,e1,w1⟩:=(zs3 Tryz.underlying3) _ _ _ f1
    obtain ⟨v2,l2,e2,b2,s2⟩:=zyP (C:=zY) (m:=szR) Tryz.underlying74 k79 (by decide) ⟨rfl,rfl⟩ (fun _=>rfl) (fun m hm=>zyZ m) f2
    simp [k9,eStr] at e0
    simp [k3,eInt] at e1
    simp [k74] at e2
    subst e0 e1 e2
    refine ⟨(⟨a0,a1,l2⟩,c2),rfl,?_,fun k h hh=>?_⟩
    · have hm:(xs[2]'(by omega)).1∈xs.map (·.1):=List.mem_map.2 ⟨_,List.getElem_mem _,rfl⟩
      have:=zyO hm
      rw [hx]
      simp only [szP,zjA,Rows.uptoBulk]; omega
    · simp only [zz,y1,y0,or_false] at hh
      subst hh
      exact s2 k
theorem zyT (fuel:Nat) (cs:List Value) (x:DataW H×List MemPlace) (h:DataW.trod enc Tryz.prog w base sp held fuel 82 cs=some x):∃ p,cs=zw.F p.1 p.2∧QA zw szPr w p x.1:=by
  obtain ⟨xs,n,hn,hx,hl,hlen,hf⟩:=DataW.trod_struct Tryz.underlying82 h
  have hl' : cs.length=4:=hl.trans k82
  have hx3:xs.length=4:=hlen
  match cs,hl' with
  | [c0, c1, c2, c3], _ =>
    have f0:=hf 0 _ rfl
    rw [List.getElem?_eq_getElem (show 0<xs.length by omega)] at f0
    have f1:=hf 1 _ rfl
    rw [List.getElem?_eq_getElem (show 1<xs.length by omega)] at f1
    have f2:=hf 2 _ rfl
    rw [List.getElem?_eq_getElem (show 2<xs.length by omega)] at f2
    have f3:=hf 3 _ rfl
    rw [List.getElem?_eq_getElem (show 3<xs.length by omega)] at f3
    obtain ⟨a0,e0,w0⟩:=(zhz Tryz.underlying9) _ _ _ f0
    obtain ⟨a1,e1,w1⟩:=(zs3 Tryz.underlying3) _ _ _ f1
    obtain ⟨v2,l2,e2,b2,s2⟩:=leafA (F:=eInt .i64) Tryz.underlying59 k3 (by decide) (fun _=>rfl) (zs3 Tryz.underlying3) f2
    obtain ⟨v3,l3,e3,b3,s3⟩:=zyP (C:=zE) (m:=szS) Tryz.underlying80 k84 (by decide) ⟨rfl,rfl⟩ (fun _=>rfl) (fun m hm=>zz1 m) f3
    simp [k9,eStr] at e0
    simp [k3,eInt] at e1
    simp [k59] at e2
    simp [k80] at e3
    subst e0 e1 e2 e3
    refine ⟨(⟨a0,a1,l2,l3⟩,(c2,c3)),rfl,?_,fun k h hh=>?_⟩
    · have:=bulk2 (xs.map (·.1)) 2 3 (by omega) (by simp; omega)
      simp only [List.getElem_map] at this
      rw [hx]
      simp only [szPr,zd9,Rows.uptoBulk]; omega
    · simp only [zw,y1,y0,or_false] at hh
      rcases hh with rfl | rfl
      · exact s2 k
      · exact s3 k
theorem zz0 {fuel:Nat} {cs:List Value} {x:DataW H×List MemPlace} (h:DataW.trod enc Tryz.prog w base sp held fuel 26 cs=some x) :
    ∃ (p:zG) (v1 v2:Value),cs=[v1,v2]∧szSrc p≤Rows.uptoBulk x.1∧(∀ k,(nro v1 zz p.Policies).p w noO k)∧∀ k,(nro v2 zw p.Programs).p w noO k:=by
  obtain ⟨xs,n,hn,hx,hl,hlen,hf⟩:=DataW.trod_struct Tryz.underlying26 h
  have hl' : cs.length=2:=hl.trans (by kernel_rfl)
  have hx3:xs.length=2:=hlen
  match cs,hl' with
  | [c0, c1], _ =>
    have f0:=hf 0 _ rfl
    rw [List.getElem?_eq_getElem (show 0<xs.length by omega)] at f0
    have f1:=hf 1 _ rfl
    rw [List.getElem?_eq_getElem (show 1<xs.length by omega)] at f1
    obtain ⟨v0,l0,e0,b0,s0⟩:=zyP (C:=zz) (m:=szP) Tryz.underlying23 k76 (by decide) ⟨rfl,rfl⟩ (fun _=>rfl) (fun m hm=>zyW m) f0
    obtain ⟨v1,l1,e1,b1,s1⟩:=zyP (C:=zw) (m:=szPr) Tryz.underlying24 k82 (by decide) ⟨rfl,rfl⟩ (fun _=>rfl) (fun m hm=>zyT m) f1
    simp [k23] at e0
    simp [k24] at e1
    subst e0 e1
    refine ⟨⟨l0,l1⟩,c0,c1,rfl,?_,s0,s1⟩
    have:=bulk2 (xs.map (·.1)) 0 1 (by omega) (by simp; omega)
    simp only [List.getElem_map] at this
    rw [hx]
    simp only [szSrc,Rows.uptoBulk]; omega
end
end Go.Proofs.YtcmaoifiiigggaaGreatDoor
namespace Go.Abs
open Go.Sem Go.ChangeShapes Go.RowKit
theorem zml {P:Program} {w:World} {n:String} {d:DataW Unit}:∀ {l:List (String×DataW Unit)} {ps:List MemPlace},DataW.LaidVars P w l ps→(n,d)∈l→
    ∃ g t cs fuel p,P.globalNamed n=some g∧(P.globals[g]?).map (·.type)=some t∧w.var? P n=some cs∧DataW.trod (fun _=>()) P w 0 (fun _=>true) false fuel t cs.toList=some (d,p)
  | [],_,_,h=>by simp at h
  | (m, e) :: r, ps, ⟨g, t, cs, fuel, p, q, h1, h2, h3, h4, h5, _⟩, h => by
    rcases List.mem_cons.1 h with h | h
    · cases h; exact ⟨g,t,cs,fuel,p,h1,h2,h3,h4⟩
    · exact zml h5 h
theorem zpU {P:Program} {w:World} {l:List (String×DataW Unit)} {name:String} {k:IntKind} {zs:List Int} {g t e:Nat} {n:Nat} (h:laidMet P l w) (hm:(name,Lib.tabData k zs)∈l)
  (hg:P.globalNamed name=some g) (hty:(P.globals[g]?).map (·.type)=some t) (ht:P.underlying t=some (.array n e)) (he:P.underlying e=some (.int k)) (hce:P.cellsOf e=1) (hct:P.cellsOf t=n):Lib.TabIs P w name k zs:=by
 obtain ⟨ps,hl,_⟩:=h
 obtain ⟨g',t',cs,fuel,p,hg',ht',hvar,hd⟩:=zml hl hm
 obtain rfl:=Option.some.inj (hg.symm.trans hg')
 obtain rfl:=Option.some.inj (hty.symm.trans ht')
 unfold Lib.TabIs
 rw [hvar,← Lib.cells_of_tab ht he hce hct hd]
section
variable {H : Type} {enc : TypeId × Value → H} {P : Program} {w : World} {base : Nat} {sp : Nat → Bool} {held : Bool}
end
end Go.Abs
namespace Go.Proofs.YtcmaoifiiigggaaGreatDoor
open Go.Abs
noncomputable def low:Nat:=(World.holding Tryz.prog default ⟨#[],#[],[]⟩).heap.size
noncomputable def z6L (os:Os):World:=
 let w0:=World.holding Tryz.prog os ⟨#[.cells #[.slice (some ⟨low+1,0,none⟩) 7 7,.slice none 0 0,.int .i64 2] 286,.cells (([9,13,1,32,133,101,160,5760,5600,8192,8202,1,8232,8233,1,8239,8287,48,12288,12288,1]:List Int).map (Value.int .u16)).toArray 289],#[],[]⟩
 { w0 with heap:=((w0.heap.modify 0 fun
  | .cells _ t frozen=>.cells (([0,0,0,0,0,0,0,0,0,1,1,1,1,1,0,0,0,0,0,0,0,0,0,0,0,0,0,0,0,0,0,0,1,0,0,0,0,0,0,0,0,0,0,0,0,0,0,0,0,0,0,0,0,0,0,0,0,0,0,0,0,0,0,0,0,0,0,0,0,0,0,0,0,0,0,0,0,0,0,0,0,0,0,0,0,0,0,0,0,0,0,0,0,0,0,0,0,0,0,0,0,0,0,0,0,0,0,0,0,0,0,0,0,0,0,0,0,0,0,0,0,0,0,0,0,0,0,0,0,0,0,0,0,0,0,0,0,0,0,0,0,0,0,0,0,0,0,0,0,0,0,0,0,0,0,0,0,0,0,0,0,0,0,0,0,0,0,0,0,0,0,0,0,0,0,0,0,0,0,0,0,0,0,0,0,0,0,0,0,0,0,0,0,0,0,0,0,0,0,0,0,0,0,0,0,0,0,0,0,0,0,0,0,0,0,0,0,0,0,0,0,0,0,0,0,0,0,0,0,0,0,0,0,0,0,0,0,0,0,0,0,0,0,0,0,0,0,0,0,0,0,0,0,0,0,0]:List Int).map (Value.int .u8)).toArray t frozen
  | o=>o).modify 1 fun
  | .cells _ t frozen=>.cells #[.pointer (some ⟨low,0,none⟩)] t frozen
  | o=>o) }
def laidL:List (String×DataW Unit):=[("unicode.White_Space",Rows.laid_unicode_White_Space),("strings.asciiSpace",Rows.laid_strings_asciiSpace)]
theorem z81 (os:Os) (args:Array Value):laidMet Tryz.prog laidL ((z6L os).forCall (fun _ _=>0) ⟨#[],args,[]⟩).memory:=
 laidMet_of_run' 8 (by kernel_rfl) (by kernel_rfl)
theorem ztO {W:World} (h:laidMet Tryz.prog laidL W):GlobL W where
 space:=⟨0,gSpc,by decide,zpU h (List.mem_cons_of_mem _ (List.mem_cons.2 (.inl (by kernel_rfl)))) gSpc (t:=242) (by kernel_rfl) Tryz.underlying242 Tryz.underlying5 (by kernel_rfl) (by kernel_rfl)⟩
theorem zly {W:World} (hs:W.ShapedOpen Tryz.prog):4≤W.heap.size:=by
 obtain ⟨o,_,h,_⟩:=hs.2 4 (of_decide_eq_true (by kernel_rfl)) (of_decide_eq_true (by kernel_rfl))
 have:=(Array.getElem?_eq_some_iff.1 h).1
 omega
theorem globP {W:World} (h:laidMet Tryz.prog laidL W) (hs:W.ShapedOpen Tryz.prog) (k:Nat):globA.p W noO k:=⟨zly hs,fun _ _=>rfl,ztO h⟩
end Go.Proofs.YtcmaoifiiigggaaGreatDoor
