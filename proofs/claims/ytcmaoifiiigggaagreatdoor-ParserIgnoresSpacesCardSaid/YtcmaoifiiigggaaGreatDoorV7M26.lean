/-
  Texts that stand side by side: Qw, LexS.
-/
import Derived.Test.YtcmaoifiiigggaaGreatDoorV7M23
import Derived.Test.YtcmaoifiiigggaaGreatDoorV7G7a
import Derived.Test.YtcmaoifiiigggaaGreatDoorV7G3l
set_option linter.unusedSimpArgs false
set_option linter.unusedVariables false
namespace Go.Proofs.YtcmaoifiiigggaaGreatDoor
open Go.Abs Go.Ps Go.Lex
theorem zgO (x:zG) {n:Nat} (h:szSrc x+1<n) (h' : szSrc x≤1000000000):z5T n x x=some true:=by
 have h1:=zce znf x.Policies
 have h2:=zce zkd x.Programs
 unfold szSrc at h h'
 unfold z5T
 simp only [ne_eq,not_true_eq_false,decide_false,Bool.or_self,cond_false]
 refine (zb2 (L:=x.Policies.length) (fun i hi=>?_) ?_ (by omega)).trans (zb2 (L:=x.Programs.length) (fun i hi=>?_) ?_ (by omega))
 ·unfold za6
  have hm:szP x.Policies[i]≤szL szP x.Policies:=z9H (List.getElem_mem hi)
  simp only [szP] at hm
  simp only [Int.ofNat_lt,hi,decide_true,cond_true,z5t hi,ne_eq,not_true_eq_false,decide_false,Bool.or_self,Bool.not_true,cond_false,bJ,zeX x.Policies[i].Rules (n:=n) (by omega) (by omega),ob,zc1 (j:=i) (by omega)]
 ·unfold za6
  simp only [Int.lt_irrefl,decide_false,cond_false]
 ·unfold za7
  have hm:szPr x.Programs[i]≤szL szPr x.Programs:=z9H (List.getElem_mem hi)
  simp only [szPr] at hm
  simp only [Int.ofNat_lt,hi,decide_true,cond_true,z5t hi,ne_eq,not_true_eq_false,decide_false,Bool.or_self,Bool.not_true,cond_false,bJ,zd1 x.Programs[i].Effects (by omega) (n:=n) (by omega),zaJ n x.Programs[i].Code (by omega) (by omega),ob,zc1 (j:=i) (by omega)]
 ·unfold za7
  simp only [Int.lt_irrefl,decide_false,cond_false]
theorem zoc {α:Type} (f:α→α) (l:List α) {i:Nat} (h:i<l.length) (y:α):((l.take i).map f++l.drop i).set i y=(l.take i).map f++y::l.drop (i+1):=by
 have e:((l.take i).map f).length=i:=by simp; omega
 rw [List.set_append_right _ _ (by omega),e,Nat.sub_self,List.drop_eq_getElem_cons h,List.set_cons_zero]
theorem zll {α:Type} (f:α→α) (l:List α) {i:Nat} (h:i<l.length):((l.take i).map f++l.drop i)[i]? = some l[i]:=by
 have e:((l.take i).map f).length=i:=by simp; omega
 rw [List.getElem?_append_right (by omega),e,Nat.sub_self,List.getElem?_drop,Nat.add_zero,List.getElem?_eq_getElem h]
theorem zoG {α:Type} (f:α→α) (l:List α) {i:Nat} (h:i<l.length) (y:α):(((l.take i).map f++l.drop i).set i y)[i]? = some y:=by
 have e:((l.take i).map f).length=i:=by simp; omega
 rw [zoc f l h y,List.getElem?_append_right (by omega),e,Nat.sub_self]; rfl
theorem zrr {α:Type} (f:α→α) (l:List α) {i:Nat} (h:i<l.length):(l.take i).map f++f l[i]::l.drop (i+1)=(l.take (i+1)).map f++l.drop (i+1):=by
 rw [zaM h,List.map_append]
 simp
theorem zn2 {α R:Type} {step:Int×List α→Option (Lp (Int×List α) (Lp (List α) R))} (f:α→α) (l:List α) (h:∀ (i:Nat) (hi:i<l.length),step ((i:Int),(l.take i).map f++l.drop i)=some (.go (((i+1:Nat):Int),((l.take i).map f++l.drop i).set i (f l[i]))))
    (he:step ((l.length:Int),l.map f)=some (.stop (.go (l.map f)))):∀ (n i:Nat),i≤l.length→l.length - i<n→iter step n ((i:Int),(l.take i).map f++l.drop i)=some (.go (l.map f))
  | 0,_,_,h=>absurd h (Nat.not_lt_zero _)
  | n + 1, i, hi, hn => by
    by_cases hlt:i<l.length
    · rw [z4f (h i hlt),zoc f l hlt,zrr f l hlt]
      exact zn2 f l h he n (i+1) hlt (by omega)
    · have e:i=l.length:=by omega
      subst e
      rw [List.take_length,List.drop_length,List.append_nil,z1z he]
theorem zhF {α R:Type} {step:Int×List α→Option (Lp (Int×List α) (Lp (List α) R))} {n:Nat} {K:List α→Option R} (f:α→α) (l:List α) (h:∀ (i:Nat) (hi:i<l.length),step ((i:Int),(l.take i).map f++l.drop i)=some (.go (((i+1:Nat):Int),((l.take i).map f++l.drop i).set i (f l[i]))))
  (he:step ((l.length:Int),l.map f)=some (.stop (.go (l.map f)))) (hn:l.length<n):bindJ (iter step n (0,l)) K=K (l.map f):=by
 have h1:=zn2 f l h he n 0 (Nat.zero_le _) (by omega)
 have h2:iter step n (0,l)=_:=h1
 rw [h2]; rfl
def z0:Int→Int:=fun _=>0
theorem bareE:∀ (n:Nat) (x:E),szE x<n→szE x≤1000000000→z7n n x=some (atE z0 x)
  | 0,_,h,_=>absurd h (Nat.not_lt_zero _)
  | n + 1, ⟨op, a, s, l⟩, h, h' => by
    simp only [szE] at h h'
    have hl:=zgS l
    show z5W n (z7n n) _=_
    unfold z5W z2x
    rw [z1n (by simp; omega)]
    simp only [ob,List.nil_append]
    refine (zhF (atE z0) l (fun i hi=>?_) ?_ (by omega)).trans ?_
    · have hm:=zkc hi
      unfold z91
      simp only [Int.ofNat_lt,hi,decide_true,cond_true,z4e (zll (atE z0) l hi),bareE n l[i] (by omega) (by omega),ob,zc1 (j:=i) (by omega),Int.toNat_natCast]
    · unfold z91
      simp only [Int.lt_irrefl,decide_false,cond_false]
    · rw [atE,zhS]; rfl
theorem zrh:∀ (n:Nat) (l:List Cl),szCs l+1<n→szCs l≤1000000000→z5D n l=some (l.map (atC z0))
  | 0,_,h,_=>absurd h (Nat.not_lt_zero _)
  | n + 1, l, h, h' => by
    have hl:=znd l
    show z59 n (z5D n) _=_
    unfold z59 z2h
    rw [z1n (by simp; omega)]
    simp only [ob,List.nil_append]
    refine zhF (atC z0) l (fun i hi=>?_) ?_ (by omega)
    · have hm:=zne hi
      have e:szC l[i]=1+l[i].Texts.length+szCs l[i].Conds:=by cases l[i]; rfl
      have ec:atC z0 l[i]=⟨l[i].Kind,0,l[i].Name,l[i].Texts,⟨l[i].Amount.Number,l[i].Amount.Unit,0⟩,l[i].Default,l[i].HasDefault,l[i].Conds.map (atC z0)⟩:=by
        cases l[i]; rw [atC,zdS]; rfl
      unfold z77
      simp only [Int.ofNat_lt,hi,decide_true,cond_true,z4e (zll (atC z0) l hi),zrh n l[i].Conds (by omega) (by omega),ob,zc1 (j:=i) (by omega),Int.toNat_natCast,z4e (zoG (atC z0) l hi _),List.set_set]
      rw [ec]
    · unfold z77
      simp only [Int.lt_irrefl,decide_false,cond_false]
theorem zpv:∀ (n:Nat) (l:List St),szSs l+1<n→szSs l≤1000000000→z7m n l=some (l.map (atS z0))
  | 0,_,h,_=>absurd h (Nat.not_lt_zero _)
  | n + 1, l, h, h' => by
    have hl:=zng l
    show z5V n (z7m n) _=_
    unfold z5V z2y
    rw [z1n (by simp; omega)]
    simp only [ob,List.nil_append]
    refine zhF (atS z0) l (fun i hi=>?_) ?_ (by omega)
    · have hm:=znh hi
      have hq:=zd8 l[i].X
      have e:szS l[i]=1+szE l[i].X+szSs l[i].Body+szSs l[i].Else:=by cases l[i]; rfl
      have ec:atS z0 l[i]=⟨l[i].Kind,0,l[i].Name,atE z0 l[i].X,l[i].Body.map (atS z0),l[i].Else.map (atS z0)⟩:=by
        cases l[i]; rw [atS,z6Z,z6Z]; rfl
      unfold z90
      simp only [Int.ofNat_lt,hi,decide_true,cond_true,z4e (zll (atS z0) l hi),bareE n l[i].X (by omega) (by omega),zpv n l[i].Body (by omega) (by omega),zpv n l[i].Else (by omega) (by omega),ob,zc1 (j:=i) (by omega),Int.toNat_natCast,z4e (zoG (atS z0) l hi _),List.set_set]
      rw [ec]
    · unfold z90
      simp only [Int.lt_irrefl,decide_false,cond_false]
theorem zox (x:zG) {n:Nat} (h:szSrc x+1<n) (h' : szSrc x≤1000000000):z67 n x=some (atSrc z0 x):=by
 have h1:=zce znf x.Policies
 have h2:=zce zkd x.Programs
 unfold szSrc at h h'
 unfold z67 z2k z2e
 rw [z1n (by simp; omega),z1n (by simp; omega)]
 simp only [ob,List.nil_append]
 refine (zhF (atP z0) x.Policies (fun i hi=>?_) ?_ (by omega)).trans ((zhF (atPr z0) x.Programs (fun i hi=>?_) ?_ (by omega)).trans rfl)
 ·have hm:szP x.Policies[i]≤szL szP x.Policies:=z9H (List.getElem_mem hi)
  have h3:=zce zpe x.Policies[i].Rules
  simp only [szP] at hm
  unfold zbE z2C
  simp only [Int.ofNat_lt,hi,decide_true,cond_true,z4e (zll (atP z0) x.Policies hi)]
  rw [z1n (by simp; omega)]
  simp only [ob,List.nil_append]
  refine (zhF (atR z0) x.Policies[i].Rules (fun k hk=>?_) ?_ (by omega)).trans ?_
  ·have hm' : szR x.Policies[i].Rules[k]≤szL szR x.Policies[i].Rules:=z9H (List.getElem_mem hk)
   simp only [szR] at hm'
   have ec:atR z0 x.Policies[i].Rules[k]=⟨x.Policies[i].Rules[k].Name,0,x.Policies[i].Rules[k].Clauses.map (atC z0)⟩:=by rw [atR,zdS]; rfl
   unfold zbF
   simp only [Int.ofNat_lt,hk,decide_true,cond_true,z4e (zll (atR z0) x.Policies[i].Rules hk),zrh n x.Policies[i].Rules[k].Clauses (by omega) (by omega),ob,zc1 (j:=k) (by omega),Int.toNat_natCast]
   rw [ec]
  ·unfold zbF
   simp only [Int.lt_irrefl,decide_false,cond_false]
  ·simp only [zc1 (j:=i) (by omega),Int.toNat_natCast]
   rfl
 ·unfold zbE
  simp only [Int.lt_irrefl,decide_false,cond_false]
 ·have hm:szPr x.Programs[i]≤szL szPr x.Programs:=z9H (List.getElem_mem hi)
  simp only [szPr] at hm
  have ec:atPr z0 x.Programs[i]=⟨x.Programs[i].Name,0,x.Programs[i].Effects,x.Programs[i].Code.map (atS z0)⟩:=by rw [atPr,z6Z]; rfl
  unfold zbG
  simp only [Int.ofNat_lt,hi,decide_true,cond_true,z4e (zll (atPr z0) x.Programs hi),zpv n x.Programs[i].Code (by omega) (by omega),ob,zc1 (j:=i) (by omega),Int.toNat_natCast]
  rw [ec]
 ·unfold zbG
  simp only [Int.lt_irrefl,decide_false,cond_false]
end Go.Proofs.YtcmaoifiiigggaaGreatDoor
namespace Go.Lex
def catR:List ((Int×List UInt8)×List UInt8)→List UInt8
 | []=>[]
 | ((k,w),g)::r=>wrL k w++g++catR r
theorem zl8 (kw:List (List UInt8)):∀ l:List ((Int×List UInt8)×List UInt8),(∀ x∈l,Tok kw x.1.1 x.1.2∧GapOk x.2∧zjK x.2∧skipP false x.2=[])→∀ f,(catR l).length<f→
    ∃ L,toksP kw f (catR l)=(L,none)∧L.map (fun x=>(x.1,x.2.2))=l.map (·.1)
  | [],_,f,_=>⟨[],z6g rfl f,rfl⟩
  | ((k, w), g) :: r, h1, f, hf => by
    obtain ⟨ht,hg,hs,hn⟩:=h1 _ (List.mem_cons_self ..)
    match f,hf with
    | f + 1, hf =>
      have hne:0<(wrL k w).length:=by
        obtain ⟨b,t,hb,_,_⟩:=ht.head
        show 0<(wrL ((k,w),g).1.1 ((k,w),g).1.2).length
        rw [hb]; simp
      obtain ⟨L,e1,e2⟩:=zl8 kw r (fun x hx=>h1 x (List.mem_cons_of_mem _ hx)) f (by simp only [catR,List.length_append] at hf; omega)
      have h2:toksP kw f (g++catR r)=toksP kw f (catR r):=by
        have:skipP false (g++catR r)=skipP false (catR r):=by
          cases r with
          | nil=>rw [show catR []=[] from rfl,List.append_nil]; exact hn
          | cons x r =>
            obtain ⟨⟨k',w'⟩,g'⟩:=x
            obtain ⟨ht',_⟩:=h1 _ (List.mem_cons_of_mem _ (List.mem_cons_self ..))
            obtain ⟨b,t,hb,h3,h4⟩:=ht'.head
            have e:catR (((k',w'),g')::r)=b::(t++g'++catR r):=by
              show wrL ((k',w'),g').1.1 ((k',w'),g').1.2++g'++catR r=_
              rw [hb]; simp
            rw [e,hg b _ h3 h4,zav,if_neg h3,if_neg (by rw [h4]; decide)]
        rw [← z7G kw f (g++catR r),this,z7G]
      have hsep:∀ c t,g++catR r=c::t→sepB c=true:=by
        intro c t hc
        obtain ⟨c',t',e,hs⟩:=hs
        simp only at e
        subst e
        simp only [List.cons_append,List.cons.injEq] at hc
        rw [← hc.1]; exact hs
      have h3:=zdb zi3 ht (ht.read _ hsep) f
      refine ⟨(k,(wrL k w++(g++catR r)).length,w)::L,?_,?_⟩
      · simp only [catR,List.append_assoc]
        rw [List.nil_append,h2,e1] at h3
        exact h3
      · simp [e2]
end Go.Lex
