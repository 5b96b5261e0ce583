/-
  Texts that stand side by side: Qw, Ta, Tb, Td, Te, Tf, Tg, Th, Ti, Tj, Tk, Tl, Tm, To, Tp.
-/
import Derived.Test.YtcmaoifiiigggaaGreatDoorV9G7a
import Derived.Test.YtcmaoifiiigggaaGreatDoorV9G3l
import Derived.Test.YtcmaoifiiigggaaGreatDoorV9Tc
set_option linter.unusedSimpArgs false
set_option linter.unusedVariables false
namespace Go.Proofs.YtcmaoifiiigggaaGreatDoor
open Go.Abs Go.Ps Go.Lex
theorem zgO (x:zG) {n:Nat} (h:szSrc x+1<n) (h' : szSrc x≤1000000000):z5T n x x=some true:=by
 have h1:=zce znf x.Policies
 have h2:=zce zkd x.Programs
 unfold szSrc at h h'
 unfold z5T
 simp only [ne_eq,yV,yP,Bool.or_self,yJ]
 refine (zb2 (L:=x.Policies.length) (fun i hi=>?_) ?_ (by omega)).trans (zb2 (L:=x.Programs.length) (fun i hi=>?_) ?_ (by omega))
 ·unfold za6
  have hm:szP x.Policies[i]≤szL szP x.Policies:=z9H (List.getElem_mem hi)
  simp only [szP] at hm
  simp only [yW,hi,yQ,yK,z5t hi,ne_eq,yV,yP,Bool.or_self,yU,yJ,bJ,zeX x.Policies[i].Rules (n:=n) (by omega) (by omega),ob,zc1 (j:=i) (by omega)]
 ·unfold za6
  simp only [Int.lt_irrefl,yP,yJ]
 ·unfold za7
  have hm:szPr x.Programs[i]≤szL szPr x.Programs:=z9H (List.getElem_mem hi)
  simp only [szPr] at hm
  simp only [yW,hi,yQ,yK,z5t hi,ne_eq,yV,yP,Bool.or_self,yU,yJ,bJ,zd1 x.Programs[i].Effects (by omega) (n:=n) (by omega),zaJ n x.Programs[i].Code (by omega) (by omega),ob,zc1 (j:=i) (by omega)]
 ·unfold za7
  simp only [Int.lt_irrefl,yP,yJ]
theorem zoc {α:Type} (f:α→α) (l:List α) {i:Nat} (h:i<l.length) (y:α):((l.take i).map f++l.drop i).set i y=(l.take i).map f++y::l.drop (i+1):=by
 have e:((l.take i).map f).length=i:=by simp; omega
 rw [List.set_append_right _ _ (by omega),e,Nat.sub_self,List.drop_eq_getElem_cons h,List.set_cons_zero]
theorem zll {α:Type} (f:α→α) (l:List α) {i:Nat} (h:i<l.length):((l.take i).map f++l.drop i)[i]? = some l[i]:=by
 have e:((l.take i).map f).length=i:=by simp; omega
 rw [List.getElem?_append_right (by omega),e,Nat.sub_self,List.getElem?_drop,Nat.add_zero,List.getElem?_eq_getElem h]
theorem zoG {α:Type} (f:α→α) (l:List α) {i:Nat} (h:i<l.length) (y:α):(((l.take i).map f++l.drop i).set i y)[i]? = some y:=by
 have e:((l.take i).map f).length=i:=by simp; omega
 rw [zoc f l h y,List.getElem?_append_right (by omega),e,Nat.sub_self]; rfl
theorem zrr {α:Type} (f:α→α) (l:List α) {i:Nat} (h:i<l.length):(l.take i).map f++f l[i]::l.drop (i+1)=(l.take (i+1)).map f++l.drop (i+1):=by
 rw [zaM h,List.map_append]
 simp
theorem zn2 {α R:Type} {step:Int×List α→Option (Lp (Int×List α) (Lp (List α) R))} (f:α→α) (l:List α) (h:∀ (i:Nat) (hi:i<l.length),step ((i:Int),(l.take i).map f++l.drop i)=some (.go (((i+1:Nat):Int),((l.take i).map f++l.drop i).set i (f l[i]))))
    (he:step ((l.length:Int),l.map f)=some (.stop (.go (l.map f)))):∀ (n i:Nat),i≤l.length→l.length - i<n→iter step n ((i:Int),(l.take i).map f++l.drop i)=some (.go (l.map f))
  | 0,_,_,h=>absurd h (yH _)
  | n + 1, i, hi, hn => by
    by_cases hlt:i<l.length
    · rw [z4f (h i hlt),zoc f l hlt,zrr f l hlt]
      exact zn2 f l h he n (i+1) hlt (by omega)
    · have e:i=l.length:=by omega
      subst e
      rw [List.take_length,List.drop_length,List.append_nil,z1z he]
theorem zhF {α R:Type} {step:Int×List α→Option (Lp (Int×List α) (Lp (List α) R))} {n:Nat} {K:List α→Option R} (f:α→α) (l:List α) (h:∀ (i:Nat) (hi:i<l.length),step ((i:Int),(l.take i).map f++l.drop i)=some (.go (((i+1:Nat):Int),((l.take i).map f++l.drop i).set i (f l[i]))))
  (he:step ((l.length:Int),l.map f)=some (.stop (.go (l.map f)))) (hn:l.length<n):bindJ (iter step n (0,l)) K=K (l.map f):=by
 have h1:=zn2 f l h he n 0 (yX _) (by omega)
 have h2:iter step n (0,l)=_:=h1
 rw [h2]; rfl
def z0:Int→Int:=fun _=>0
theorem bareE:∀ (n:Nat) (x:E),szE x<n→szE x≤1000000000→z7n n x=some (atE z0 x)
  | 0,_,h,_=>absurd h (yH _)
  | n + 1, ⟨op, a, s, l⟩, h, h' => by
    simp only [szE] at h h'
    have hl:=zgS l
    show z5W n (z7n n) _=_
    unfold z5W z2x
    rw [z1n (by simp; omega)]
    simp only [ob,yD]
    refine (zhF (atE z0) l (fun i hi=>?_) ?_ (by omega)).trans ?_
    · have hm:=zkc hi
      unfold z91
      simp only [yW,hi,yQ,yK,z4e (zll (atE z0) l hi),bareE n l[i] (by omega) (by omega),ob,zc1 (j:=i) (by omega),yY]
    · unfold z91
      simp only [Int.lt_irrefl,yP,yJ]
    · rw [atE,zhS]; rfl
theorem zrh:∀ (n:Nat) (l:List Cl),szCs l+1<n→szCs l≤1000000000→z5D n l=some (l.map (atC z0))
  | 0,_,h,_=>absurd h (yH _)
  | n + 1, l, h, h' => by
    have hl:=znd l
    show z59 n (z5D n) _=_
    unfold z59 z2h
    rw [z1n (by simp; omega)]
    simp only [ob,yD]
    refine zhF (atC z0) l (fun i hi=>?_) ?_ (by omega)
    · have hm:=zne hi
      have e:szC l[i]=1+l[i].Texts.length+szCs l[i].Conds:=by cases l[i]; rfl
      have ec:atC z0 l[i]=⟨l[i].Kind,0,l[i].Name,l[i].Texts,⟨l[i].Amount.Number,l[i].Amount.Unit,0⟩,l[i].Default,l[i].HasDefault,l[i].Conds.map (atC z0)⟩:=by
        cases l[i]; rw [atC,zdS]; rfl
      unfold z77
      simp only [yW,hi,yQ,yK,z4e (zll (atC z0) l hi),zrh n l[i].Conds (by omega) (by omega),ob,zc1 (j:=i) (by omega),yY,z4e (zoG (atC z0) l hi _),List.set_set]
      rw [ec]
    · unfold z77
      simp only [Int.lt_irrefl,yP,yJ]
theorem zpv:∀ (n:Nat) (l:List St),szSs l+1<n→szSs l≤1000000000→z7m n l=some (l.map (atS z0))
  | 0,_,h,_=>absurd h (yH _)
  | n + 1, l, h, h' => by
    have hl:=zng l
    show z5V n (z7m n) _=_
    unfold z5V z2y
    rw [z1n (by simp; omega)]
    simp only [ob,yD]
    refine zhF (atS z0) l (fun i hi=>?_) ?_ (by omega)
    · have hm:=znh hi
      have hq:=zd8 l[i].X
      have e:szS l[i]=1+szE l[i].X+szSs l[i].Body+szSs l[i].Else:=by cases l[i]; rfl
      have ec:atS z0 l[i]=⟨l[i].Kind,0,l[i].Name,atE z0 l[i].X,l[i].Body.map (atS z0),l[i].Else.map (atS z0)⟩:=by
        cases l[i]; rw [atS,z6Z,z6Z]; rfl
      unfold z90
      simp only [yW,hi,yQ,yK,z4e (zll (atS z0) l hi),bareE n l[i].X (by omega) (by omega),zpv n l[i].Body (by omega) (by omega),zpv n l[i].Else (by omega) (by omega),ob,zc1 (j:=i) (by omega),yY,z4e (zoG (atS z0) l hi _),List.set_set]
      rw [ec]
    · unfold z90
      simp only [Int.lt_irrefl,yP,yJ]
theorem zox (x:zG) {n:Nat} (h:szSrc x+1<n) (h' : szSrc x≤1000000000):z67 n x=some (atSrc z0 x):=by
 have h1:=zce znf x.Policies
 have h2:=zce zkd x.Programs
 unfold szSrc at h h'
 unfold z67 z2k z2e
 rw [z1n (by simp; omega),z1n (by simp; omega)]
 simp only [ob,yD]
 refine (zhF (atP z0) x.Policies (fun i hi=>?_) ?_ (by omega)).trans ((zhF (atPr z0) x.Programs (fun i hi=>?_) ?_ (by omega)).trans rfl)
 ·have hm:szP x.Policies[i]≤szL szP x.Policies:=z9H (List.getElem_mem hi)
  have h3:=zce zpe x.Policies[i].Rules
  simp only [szP] at hm
  unfold zbE z2C
  simp only [yW,hi,yQ,yK,z4e (zll (atP z0) x.Policies hi)]
  rw [z1n (by simp; omega)]
  simp only [ob,yD]
  refine (zhF (atR z0) x.Policies[i].Rules (fun k hk=>?_) ?_ (by omega)).trans ?_
  ·have hm' : szR x.Policies[i].Rules[k]≤szL szR x.Policies[i].Rules:=z9H (List.getElem_mem hk)
   simp only [szR] at hm'
   have ec:atR z0 x.Policies[i].Rules[k]=⟨x.Policies[i].Rules[k].Name,0,x.Policies[i].Rules[k].Clauses.map (atC z0)⟩:=by rw [atR,zdS]; rfl
   unfold zbF
   simp only [yW,hk,yQ,yK,z4e (zll (atR z0) x.Policies[i].Rules hk),zrh n x.Policies[i].Rules[k].Clauses (by omega) (by omega),ob,zc1 (j:=k) (by omega),yY]
   rw [ec]
  ·unfold zbF
   simp only [Int.lt_irrefl,yP,yJ]
  ·simp only [zc1 (j:=i) (by omega),yY]
   rfl
 ·unfold zbE
  simp only [Int.lt_irrefl,yP,yJ]
 ·have hm:szPr x.Programs[i]≤szL szPr x.Programs:=z9H (List.getElem_mem hi)
  simp only [szPr] at hm
  have ec:atPr z0 x.Programs[i]=⟨x.Programs[i].Name,0,x.Programs[i].Effects,x.Programs[i].Code.map (atS z0)⟩:=by rw [atPr,z6Z]; rfl
  unfold zbG
  simp only [yW,hi,yQ,yK,z4e (zll (atPr z0) x.Programs hi),zpv n x.Programs[i].Code (by omega) (by omega),ob,zc1 (j:=i) (by omega),yY]
  rw [ec]
 ·unfold zbG
  simp only [Int.lt_irrefl,yP,yJ]
def Fo (r:List Tk):Prop:=mulO r.head? = 0∧sumO r.head? = 0∧ordO r.head? = 0∧wrd [105,110] r.head? = false∧andO r.head? = 0∧orO r.head? = 0
def Rd (p:Ps E) (T:List Tk) (x:E) (r:List Tk):Prop:=∀ i,∃ x',p.run i (T++r) = .ok x' (i+T.length) r∧atE z0 x'=atE z0 x
def Hn (T:List Tk):Prop:=∃ t q,T=t::q∧sgn [45] (some t)=false∧wrd [110,111,116] (some t)=false
theorem zvH {op:Option Tk→Int} {one:Ps E} {T:List Tk} {x:E} {r:List Tk} {N:Nat} (h:Rd one T x r) (h0:op r.head? = 0) (hN:0<N):Rd (zgo op one N) T x r:=by
 intro i
 obtain ⟨x',h1,h2⟩:=h i
 refine ⟨x',?_,h2⟩
 obtain ⟨N,rfl⟩ : ∃ m,N=m+1:=⟨N - 1,by omega⟩
 unfold zgo
 rw [run_bind,h1]
 show (zef op one (N+1) x').run (i+T.length) r=_
 unfold zef
 rw [zfu,if_pos h0]; rfl
theorem zwc {op:Option Tk→Int} {one:Ps E} {T1 T2:List Tk} {t:Tk} {x y:E} {r:List Tk} {N:Nat} {o a:Int} (h1:Rd one T1 x (t::(T2++r))) (h2:Rd one T2 y r) (ht:op (some t)=o) (ho:o≠0) (h0:op r.head? = 0) (hN:1<N) :
  Rd (zgo op one N) (T1++t::T2) ⟨o,a,[],[x,y]⟩ r:=by
 intro i
 obtain ⟨x',e1,e2⟩:=h1 i
 obtain ⟨y',e3,e4⟩:=h2 (i+T1.length+1)
 refine ⟨⟨o,((i+T1.length:Nat):Int),[],[x',y']⟩,?_,?_⟩
 ·obtain ⟨N,rfl⟩ : ∃ m,N=m+2:=⟨N - 2,by omega⟩
  unfold zgo
  rw [yA,yE,run_bind,e1]
  show (zef op one (N+2) x').run (i+T1.length) (t::(T2++r))=_
  unfold zef
  rw [zfu]
  simp only [List.head?_cons,ht,ho,yR]
  rw [Ps.run_skip,run_bind,e3]
  show (zef op one (N+1) _).run (i+T1.length+1+T2.length) r=_
  unfold zef
  rw [zfu,if_pos h0]
  show Out.ok _ _ _=Out.ok _ _ _
  congr 1
  simp; omega
 ·show zi.mk o 0 [] (atEs z0 [x',y'])=zi.mk o 0 [] (atEs z0 [x,y])
  simp only [atEs,e2,e4]
theorem zwE {ex sum:Ps E} {T:List Tk} {x:E} {r:List Tk} {N:Nat} (h:Rd sum T x r) (h0:ordO r.head? = 0) (h1:wrd [105,110] r.head? = false):Rd (lessP ex sum N) T x r:=by
 intro i
 obtain ⟨x',e1,e2⟩:=h i
 refine ⟨x',?_,e2⟩
 unfold lessP
 rw [run_bind,e1]
 dsimp only [Out.andThen]
 rw [zfu]
 simp only [h0,h1,Int.lt_irrefl,yR,yN]; rfl
theorem zy1 {ex sum:Ps E} {T1 T2:List Tk} {t:Tk} {x y:E} {r:List Tk} {N:Nat} {o a:Int} (h1:Rd sum T1 x (t::(T2++r))) (h2:Rd sum T2 y r) (ht:ordO (some t)=o) (ho:0<o):Rd (lessP ex sum N) (T1++t::T2) ⟨o,a,[],[x,y]⟩ r:=by
 intro i
 obtain ⟨x',e1,e2⟩:=h1 i
 obtain ⟨y',e3,e4⟩:=h2 (i+T1.length+1)
 refine ⟨⟨o,((i+T1.length:Nat):Int),[],[x',y']⟩,?_,?_⟩
 ·unfold lessP
  rw [yA,yE,run_bind,e1]
  dsimp only [Out.andThen]
  rw [zfu]
  simp only [List.head?_cons,ht,ho,yS]
  rw [Ps.run_skip,run_bind,e3]
  show Out.ok _ _ _=Out.ok _ _ _
  congr 1
  simp; omega
 ·show zi.mk o 0 [] (atEs z0 [x',y'])=zi.mk o 0 [] (atEs z0 [x,y])
  simp only [atEs,e2,e4]
theorem zxd {less:Ps E} {T:List Tk} {x:E} {r:List Tk} {f:Nat} (h:Rd less T x r) (hT:∃ t q,T=t::q∧wrd [110,111,116] (some t)=false):Rd (notP less (f+1)) T x r:=by
 intro i
 obtain ⟨x',e1,e2⟩:=h i
 obtain ⟨t,q,rfl,h1⟩:=hT
 refine ⟨x',?_,e2⟩
 unfold notP
 rw [zfu]
 simp only [yE,List.head?_cons,h1,yN,yR]
 exact e1
theorem zyr {less:Ps E} {T:List Tk} {x:E} {r:List Tk} {f:Nat} {a:Int} (h:Rd (notP less f) T x r):Rd (notP less (f+1)) ((2,[110,111,116])::T) ⟨9,a,[],[x]⟩ r:=by
 intro i
 obtain ⟨x',e1,e2⟩:=h (i+1)
 refine ⟨⟨9,(i:Int),[],[x']⟩,?_,?_⟩
 ·unfold notP
  rw [zfu]
  simp only [yE,List.head?_cons,show wrd [110,111,116] (some (2,[110,111,116]))=true from rfl,yS]
  rw [Ps.run_skip,run_bind,e1]
  show Out.ok _ _ _=Out.ok _ _ _
  congr 1
  simp; omega
 ·show zi.mk 9 0 [] (atEs z0 [x'])=zi.mk 9 0 [] (atEs z0 [x])
  simp only [atEs,e2]
theorem zwp {ex:Ps E} {T:List Tk} {x:E} {r:List Tk} {f:Nat} (h:Rd (atomP ex) T x r) (hT:Hn T):Rd (zgu ex (f+1)) T x r:=by
 intro i
 obtain ⟨x',e1,e2⟩:=h i
 obtain ⟨t,q,rfl,h1,_⟩:=hT
 refine ⟨x',?_,e2⟩
 unfold zgu
 rw [zfu]
 simp only [yE,List.head?_cons,h1,yN,yR]
 exact e1
theorem zxA {ex:Ps E} {T:List Tk} {x:E} {r:List Tk} {f:Nat} {a:Int} (h:Rd (zgu ex f) T x r):Rd (zgu ex (f+1)) ((5,[45])::T) ⟨8,a,[],[x]⟩ r:=by
 intro i
 obtain ⟨x',e1,e2⟩:=h (i+1)
 refine ⟨⟨8,(i:Int),[],[x']⟩,?_,?_⟩
 ·unfold zgu
  rw [zfu]
  simp only [yE,List.head?_cons,show sgn [45] (some (5,[45]))=true from rfl,yS]
  rw [Ps.run_skip,run_bind,e1]
  show Out.ok _ _ _=Out.ok _ _ _
  congr 1
  simp; omega
 ·show zi.mk 8 0 [] (atEs z0 [x'])=zi.mk 8 0 [] (atEs z0 [x])
  simp only [atEs,e2]
theorem zyJ {ex:Ps E} {T:List Tk} {x:E} {r:List Tk} (h:Rd ex T x ((5,[41])::r)):Rd (atomP ex) ((5,[40])::(T++[(5,[41])])) x r:=by
 intro i
 obtain ⟨x',e1,e2⟩:=h (i+1)
 refine ⟨x',?_,e2⟩
 unfold atomP
 rw [yE,zfu]
 show (Ps.skip (ex.bind fun x=>(needP 5 [41]).bind fun _=>.ret x)).run i _=_
 rw [Ps.run_skip,run_bind,yA,yE,yD,e1]
 show Out.ok x' _ _=Out.ok x' _ _
 congr 1
 simp; omega
theorem zxH {ex:Ps E} {op a:Int} {s:List UInt8} (h:locE op s 0=true) (r:List Tk):Rd (atomP ex) ((tokE ⟨op,a,s,[]⟩).map tk) ⟨op,a,s,[]⟩ r∧Hn ((tokE ⟨op,a,s,[]⟩).map tk):=by
 have ho:op=1∨op=2∨op=3∨op=6∨((op=4∨op=5∨op=7)∧s=[]):=by
  unfold locE at h
  split at h
  ·rename_i q; rcases q with q | q | q | q
   ·exact .inl q
   ·exact .inr (.inl q)
   ·exact .inr (.inr (.inl q))
   ·exact .inr (.inr (.inr (.inl q)))
  ·rw [Bool.and_eq_true] at h
   have hs:s=[]:=of_decide_eq_true h.1
   have h:=h.2
   split at h
   ·rename_i q; exact .inr (.inr (.inr (.inr ⟨q,hs⟩)))
   split at h
   ·exact absurd (of_decide_eq_true h) (by decide)
   split at h
   ·exact absurd (of_decide_eq_true h) (by decide)
   ·simp at h
 rcases ho with rfl | rfl | rfl | rfl | ⟨rfl | rfl | rfl,rfl⟩
 ·exact ⟨fun i=>⟨⟨1,i,s,[]⟩,rfl,rfl⟩,_,_,rfl,rfl,rfl⟩
 ·exact ⟨fun i=>⟨⟨2,i,s,[]⟩,rfl,rfl⟩,_,_,rfl,rfl,rfl⟩
 ·exact ⟨fun i=>⟨⟨3,i,s,[]⟩,rfl,rfl⟩,_,_,rfl,rfl,rfl⟩
 ·exact ⟨fun i=>⟨⟨6,i,s,[]⟩,rfl,rfl⟩,_,_,rfl,rfl,rfl⟩
 ·exact ⟨fun i=>⟨⟨4,i,[],[]⟩,rfl,rfl⟩,_,_,rfl,rfl,rfl⟩
 ·exact ⟨fun i=>⟨⟨5,i,[],[]⟩,rfl,rfl⟩,_,_,rfl,rfl,rfl⟩
 ·exact ⟨fun i=>⟨⟨7,i,[],[]⟩,rfl,rfl⟩,_,_,rfl,rfl,rfl⟩
def cl (y:E):List Tk:=(clos y (tokE y)).map tk
theorem zxR (r:List Tk):Fo ((5,[41])::r):=⟨rfl,rfl,rfl,rfl,rfl,rfl⟩
theorem zx3 (r:List Tk):Fo ((5,[44])::r):=⟨rfl,rfl,rfl,rfl,rfl,rfl⟩
theorem zya (r:List Tk):Fo ((5,[59])::r):=⟨rfl,rfl,rfl,rfl,rfl,rfl⟩
theorem zxQ (r:List Tk):Fo ((5,[123])::r):=⟨rfl,rfl,rfl,rfl,rfl,rfl⟩
theorem zyp {ex:Ps E} {y:E} (hf:formE y=true) (h:∀ r,Fo r→Rd ex ((tokE y).map tk) y r) (r:List Tk):Rd (atomP ex) (cl y) y r∧Hn (cl y):=by
  obtain ⟨op,a,s,l⟩:=y
  unfold cl clos
  cases l with
  | nil =>
    rw [formE,znT] at hf
    rw [if_pos (show (⟨op,a,s,[]⟩ : E).Args.length=0 from rfl)]
    exact zxH (by simpa using hf) r
  | cons z l =>
    rw [if_neg (by simp)]
    have e:([tG [40]]++tokE ⟨op,a,s,z::l⟩++[tG [41]]).map tk=(5,[40])::((tokE ⟨op,a,s,z::l⟩).map tk++[(5,[41])]):=by
      simp only [List.map_append,yI,List.map_nil,yE,yD]; rfl
    rw [e]
    exact ⟨zyJ (h _ (zxR r)),_,_,rfl,rfl,rfl⟩
theorem zxI {ex:Ps E}:∀ (m:List E) (f:Nat) (l:List E) (l' : List E) (r:List Tk),(∀ y∈m,∀ r,Fo r→Rd ex ((tokE y).map tk) y r)→m.length<f→Fo r→sgn [44] r.head? = false→l'.map (atE z0)=l.map (atE z0)→
    ∀ i,∃ q,(listP ex f l').run i ((m.flatMap fun y=>[tG [44]]++tokE y).map tk++r) = .ok q (i+(m.flatMap fun y=>[tG [44]]++tokE y).length) r∧q.map (atE z0)=(l++m).map (atE z0)
  | _,0,_,_,_,_,h,_,_,_,_=>absurd h (yH _)
  | [], f + 1, l, l', r, _, _, _, hc, he, i => by
    refine ⟨l',?_,by rw [List.append_nil]; exact he⟩
    unfold listP
    rw [zfu]
    simp only [List.flatMap_nil,List.map_nil,yD,hc,yN,yR]; rfl
  | y :: m, f + 1, l, l', r, hm, hf, hr, hc, he, i => by
    have hy:=hm y (List.mem_cons_self ..)
    have hfo:Fo ((m.flatMap fun y=>[tG [44]]++tokE y).map tk++r):=by
      cases m with
      | nil=>exact hr
      | cons z m=>exact zx3 _
    obtain ⟨y',e1,e2⟩:=hy _ hfo (i+1)
    obtain ⟨q,e3,e4⟩:=zxI m f (l++[y]) (l'++[y']) r (fun z hz=>hm z (List.mem_cons_of_mem _ hz)) (by simp at hf; omega) hr hc (by simp only [List.map_append,he,yI,List.map_nil,e2]) (i+1+(tokE y).length)
    refine ⟨q,?_,by rw [e4]; simp⟩
    unfold listP
    have et:((y::m).flatMap fun y=>[tG [44]]++tokE y).map tk++r=(5,[44])::((tokE y).map tk++((m.flatMap fun y=>[tG [44]]++tokE y).map tk++r)):=by
      simp only [List.flatMap_cons,List.map_append,yI,List.map_nil,yE,yD,yA]; rfl
    rw [et,zfu]
    simp only [List.head?_cons,show sgn [44] (some (5,[44]))=true from rfl,yS]
    rw [Ps.run_skip,run_bind,e1]
    dsimp only [Out.andThen]
    rw [List.length_map,e3]
    congr 1
    simp only [List.flatMap_cons,yB,yC,yF]
    omega
theorem rd_in {ex sum:Ps E} {x y:E} {m:List E} {r:List Tk} {N:Nat} {a:Int} {T:List Tk} (h1:Rd sum T x ((2,[105,110])::(5,[40])::((tokE y).map tk++((m.flatMap fun y=>[tG [44]]++tokE y).map tk++(5,[41])::r)))) (h2:∀ z∈y::m,∀ r,Fo r→Rd ex ((tokE z).map tk) z r) (hN:m.length<N) :
  Rd (lessP ex sum N) (T++(2,[105,110])::(5,[40])::((tokE y).map tk++((m.flatMap fun y=>[tG [44]]++tokE y).map tk++[(5,[41])]))) ⟨23,a,[],x::y::m⟩ r:=by
 intro i
 obtain ⟨x',e1,e2⟩:=h1 i
 have hfo:Fo ((m.flatMap fun y=>[tG [44]]++tokE y).map tk++(5,[41])::r):=by
  cases m with
  | nil=>exact zxR r
  | cons z m=>exact zx3 _
 obtain ⟨y',e3,e4⟩:=h2 y (List.mem_cons_self ..) _ hfo (i+T.length+1+1)
 obtain ⟨q,e5,e6⟩:=zxI (ex:=ex) m N [y] [y'] ((5,[41])::r) (fun z hz=>h2 z (List.mem_cons_of_mem _ hz)) hN (zxR r) rfl (by simp only [yI,List.map_nil,e4]) (i+T.length+1+1+(tokE y).length)
 refine ⟨⟨23,((i+T.length:Nat):Int),[],x'::q⟩,?_,?_⟩
 ·unfold lessP
  have et:(T++(2,[105,110])::(5,[40])::((tokE y).map tk++((m.flatMap fun y=>[tG [44]]++tokE y).map tk++[(5,[41])])))++r=T++((2,[105,110])::(5,[40])::((tokE y).map tk++((m.flatMap fun y=>[tG [44]]++tokE y).map tk++(5,[41])::r))):=by
   simp only [yA,yE,yD]
  rw [et,run_bind,e1]
  dsimp only [Out.andThen]
  rw [zfu]
  simp only [List.head?_cons,show ordO (some (2,[105,110]))=0 from rfl,Int.lt_irrefl,yR,show wrd [105,110] (some (2,[105,110]))=true from rfl,yS]
  rw [Ps.run_skip,run_bind]
  show ((needP 5 [40]).run (i+T.length+1) ((5,[40])::_)).andThen _=_
  rw [show (needP 5 [40]).run (i+T.length+1) ((5,[40])::((tokE y).map tk++((m.flatMap fun y=>[tG [44]]++tokE y).map tk++(5,[41])::r))) = .ok () (i+T.length+1+1) ((tokE y).map tk++((m.flatMap fun y=>[tG [44]]++tokE y).map tk++(5,[41])::r)) from rfl]
  dsimp only [Out.andThen]
  rw [run_bind,e3]
  dsimp only [Out.andThen]
  rw [run_bind,List.length_map,e5]
  show Out.ok _ _ _=Out.ok _ _ _
  congr 1
  simp only [yB,yC,yF,List.length_map]
  omega
 ·show zi.mk 23 0 [] (atEs z0 (x'::q))=zi.mk 23 0 [] (atEs z0 (x::y::m))
  rw [zhS,zhS,yI,yI (l:=y::m),e2,e6]
  rfl
def Nn (T:List Tk):Prop:=∃ t q,T=t::q∧wrd [110,111,116] (some t)=false
theorem Hn.nn {T:List Tk} (h:Hn T):Nn T:=by obtain ⟨t,q,e,_,h⟩:=h; exact ⟨t,q,e,h⟩
theorem Nn.app {T:List Tk} (h:Nn T) (T2:List Tk):Nn (T++T2):=by obtain ⟨t,q,rfl,h⟩:=h; exact ⟨t,q++T2,rfl,h⟩
section
section
variable {ex : Ps E} {T : List Tk} {x : E} {r : List Tk} {N : Nat}
theorem zxr (h:Rd (lessP ex (sumP ex N) N) T x r) (hT:Nn T) (hN:3<N) (h1:andO r.head? = 0) (h2:orO r.head? = 0):Rd (zgo orO (conjP ex N) N) T x r:=by
 obtain ⟨M,rfl⟩ : ∃ m,N=m+1:=⟨N - 1,by omega⟩
 exact zvH (zvH (zxd h hT) h1 (by omega)) h2 (by omega)
theorem zyA (h:Rd (sumP ex N) T x r) (hT:Nn T) (hN:3<N) (hr:Fo r):Rd (zgo orO (conjP ex N) N) T x r:=zxr (zwE h hr.2.2.1 hr.2.2.2.1) hT hN hr.2.2.2.2.1 hr.2.2.2.2.2
theorem zxN (h:Rd (zie ex N) T x r) (hT:Nn T) (hN:3<N) (hr:Fo r):Rd (zgo orO (conjP ex N) N) T x r:=zyA (zvH h hr.2.1 (by omega)) hT hN hr
theorem zxs (h:Rd (zgu ex N) T x r) (hT:Nn T) (hN:3<N) (hr:Fo r):Rd (zgo orO (conjP ex N) N) T x r:=zxN (zvH h hr.1 (by omega)) hT hN hr
end
theorem zyF (o:Int) (A B:List Lx):(A++[opTok o]++B).map tk=A.map tk++tk (opTok o)::B.map tk:=by simp
theorem zxG:∀ (k:Nat) (x:E),szE x≤k→formE x=true→∀ (f N:Nat),k≤f→k+4≤N→∀ r,Fo r→Rd (exprP N f) ((tokE x).map tk) x r
  | 0,x,h,_=>absurd h (by have:=zd8 x; omega)
  | k + 1, ⟨op, a, s, l⟩, hk, hf => by
    intro f N hf' hN r hr
    obtain ⟨f,rfl⟩ : ∃ m,f=m+1:=⟨f - 1,by omega⟩
    rw [szE] at hk
    rw [formE,zei,Bool.and_eq_true,List.all_eq_true] at hf
    obtain ⟨hloc,hall⟩:=hf
    have hlen:=zgS l
    have ih:∀ y∈l,∀ r,Fo r→Rd (exprP N f) ((tokE y).map tk) y r:=fun y hy r hr=>by
      have h1:szE y≤szEs l:=by rw [zdQ]; exact z9H hy
      exact zxG k y (by omega) (hall y hy) f N (by omega) (by omega) r hr
    have at' : ∀ y∈l,∀ r,Rd (atomP (exprP N f)) (cl y) y r∧Hn (cl y):=fun y hy r=>zyp (hall y hy) (ih y hy) r
    have hN0:0<N:=by omega
    have hN1:1<N:=by omega
    have mi:∀ y∈l,∀ r,Rd (zgu (exprP N f) N) (cl y) y r:=fun y hy r=>by
      obtain ⟨M,rfl⟩ : ∃ m,N=m+1:=⟨N - 1,by omega⟩
      exact zwp (at' y hy r).1 (at' y hy r).2
    have pr:∀ y∈l,∀ r,mulO r.head? = 0→Rd (zie (exprP N f) N) (cl y) y r:=fun y hy r h=>zvH (mi y hy r) h hN0
    have su:∀ y∈l,∀ r,mulO r.head? = 0→sumO r.head? = 0→Rd (sumP (exprP N f) N) (cl y) y r:=fun y hy r h h'=>zvH (pr y hy r h) h' hN0
    have le:∀ y∈l,∀ r,mulO r.head? = 0→sumO r.head? = 0→ordO r.head? = 0→wrd [105,110] r.head? = false→Rd (lessP (exprP N f) (sumP (exprP N f) N) N) (cl y) y r:=fun y hy r h h' h2 h3=>zwE (su y hy r h h') h2 h3
    have no:∀ y∈l,∀ r,mulO r.head? = 0→sumO r.head? = 0→ordO r.head? = 0→wrd [105,110] r.head? = false→Rd (notP (lessP (exprP N f) (sumP (exprP N f) N) N) N) (cl y) y r:=fun y hy r h h' h2 h3=>by
      obtain ⟨M,rfl⟩ : ∃ m,N=m+1:=⟨N - 1,by omega⟩
      exact zxd (le y hy r h h' h2 h3) (at' y hy r).2.nn
    have co:∀ y∈l,∀ r,mulO r.head? = 0→sumO r.head? = 0→ordO r.head? = 0→wrd [105,110] r.head? = false→andO r.head? = 0→Rd (conjP (exprP N f) N) (cl y) y r:=fun y hy r h h' h2 h3 h4=>zvH (no y hy r h h' h2 h3) h4 hN0
    obtain ⟨r1,r2,r3,r4,r5,r6⟩:=hr
    have hr:Fo r:=⟨r1,r2,r3,r4,r5,r6⟩
    show Rd (zgo orO (conjP (exprP N f) N) N) _ _ r
    rw [tokE,zgb]
    -- leaves
    by_cases h0:l=[]
    · subst h0
      have hl:locE op s 0=true:=hloc
      have:=zxH (ex:=exprP N f) (a:=a) hl r
      rw [tokE,zgb] at this
      refine zxs ?_ this.2.nn (by omega) hr
      obtain ⟨M,rfl⟩ : ∃ m,N=m+1:=⟨N - 1,by omega⟩
      exact zwp this.1 this.2
    have hpos:1≤l.length:=List.length_pos_iff.2 h0
    unfold locE at hloc
    by_cases o1:op=1∨op=2∨op=3∨op=6
    · rw [if_pos o1] at hloc; have:=of_decide_eq_true hloc; omega
    rw [if_neg o1,Bool.and_eq_true] at hloc
    obtain ⟨hs,hloc⟩:=hloc
    have hs:s=[]:=of_decide_eq_true hs
    subst hs
    by_cases o2:op=4∨op=5∨op=7
    · rw [if_pos o2] at hloc; have:=of_decide_eq_true hloc; omega
    rw [if_neg o2] at hloc
    by_cases o3:op=8∨op=9
    · rw [if_pos o3] at hloc
      have q:l.length=1:=of_decide_eq_true hloc
      have hb:bodyE op [] l (l.map tokE)=[opTok op]++zaQ l (l.map tokE) 0:=by
        unfold bodyE
        rw [if_neg (by omega),if_neg (by omega),if_neg (by omega),if_neg (by omega),if_neg (by omega),if_neg (by omega),if_neg (by omega),if_pos o3]
      rw [hb]
      match l,q,mi,no,at' with
      | [y], _, mi, no, at' =>
        have hy:y∈[y]:=List.mem_cons_self ..
        have e:([opTok op]++zaQ [y] ([y].map tokE) 0).map tk=tk (opTok op)::cl y:=rfl
        rw [e]
        rcases o3 with rfl | rfl
        · refine zxs ?_ ⟨_,_,rfl,rfl⟩ (by omega) hr
          obtain ⟨M,rfl⟩ : ∃ m,N=m+2:=⟨N - 2,by omega⟩
          exact zxA (zwp (at' y hy r).1 (at' y hy r).2)
        · obtain ⟨M,rfl⟩ : ∃ m,N=m+2:=⟨N - 2,by omega⟩
          exact zvH (zvH (zyr (zxd (zwE (zvH (zvH (mi y hy r) r1 (by omega)) r2 (by omega)) r3 r4) (at' y hy r).2.nn)) r5 (by omega)) r6 (by omega)
    rw [if_neg o3] at hloc
    by_cases o4:op=23
    · rw [if_pos o4] at hloc
      have q:2≤l.length:=of_decide_eq_true hloc
      have hb:bodyE op [] l (l.map tokE)=zaQ l (l.map tokE) 0++[tW [105,110],tG [40]]++commas ((l.map tokE).drop 1)++[tG [41]]:=by
        unfold bodyE
        rw [if_neg (by omega),if_neg (by omega),if_neg (by omega),if_neg (by omega),if_neg (by omega),if_neg (by omega),if_neg (by omega),if_neg o3,if_pos o4]
      rw [hb,o4]
      match l,q,su,at',ih,hlen,hk with
      | x :: y :: m, _, su, at', ih, hlen, hk =>
        have hx:x∈x::y::m:=List.mem_cons_self ..
        have e3:(m.map tokE).flatMap (fun u=>[tG [44]]++u)=m.flatMap fun x=>[tG [44]]++tokE x:=by rw [List.flatMap_map]
        have e:(zaQ (x::y::m) ((x::y::m).map tokE) 0++[tW [105,110],tG [40]]++commas (((x::y::m).map tokE).drop 1)++[tG [41]]).map tk=cl x++(2,[105,110])::(5,[40])::((tokE y).map tk++((m.flatMap fun y=>[tG [44]]++tokE y).map tk++[(5,[41])])):=by
          show (clos x (tokE x)++[tW [105,110],tG [40]]++(tokE y++(m.map tokE).flatMap fun u=>[tG [44]]++u)++[tG [41]]).map tk=_
          rw [e3]
          simp only [List.map_append,yI,List.map_nil,yA,yE,yD]
          rfl
        rw [e]
        refine zxr (rd_in (su x hx _ rfl rfl) (fun z hz=>ih z (List.mem_cons_of_mem _ hz)) (by simp at hlen; omega)) (Nn.app (at' x hx r).2.nn _) (by omega) r5 r6
    rw [if_neg o4] at hloc
    have hb:bodyE op [] l (l.map tokE)=zaQ l (l.map tokE) 0++[opTok op]++zaQ l (l.map tokE) 1:=by
      unfold bodyE
      rw [if_neg (by omega),if_neg (by omega),if_neg (by omega),if_neg (by omega),if_neg (by omega),if_neg (by omega),if_neg (by omega),if_neg o3,if_neg o4]
    rw [hb,zyF]
    simp only [Bool.and_eq_true,decide_eq_true_eq] at hloc
    obtain ⟨⟨q1,q2⟩,q⟩:=hloc
    match l,q,mi,pr,su,no,co,at' with
    | [x, y], _, mi, pr, su, no, co, at' =>
      have hx:x∈[x,y]:=List.mem_cons_self ..
      have hy:y∈[x,y]:=List.mem_cons_of_mem _ (List.mem_cons_self ..)
      have nn:Nn (cl x++tk (opTok op)::cl y):=Nn.app (at' x hx r).2.nn _
      show Rd _ (cl x++tk (opTok op)::cl y) _ r
      have h' : (op=12∨op=13∨op=14)∨(op=10∨op=11)∨(op=15∨op=16∨op=17∨op=18∨op=19∨op=20)∨op=21∨op=22:=by omega
      rcases h' with h' | h' | h' | h' | h'
      · refine zxN (zwc (o:=op) (mi x hx _) (mi y hy r) ?_ (by omega) r1 hN1) nn (by omega) hr
        rcases h' with rfl | rfl | rfl <;> rfl
      · refine zyA (zwc (o:=op) (pr x hx _ ?_) (pr y hy r r1) ?_ (by omega) r2 hN1) nn (by omega) hr
        · rcases h' with rfl | rfl <;> rfl
        · rcases h' with rfl | rfl <;> rfl
      · refine zxr (zy1 (o:=op) (su x hx _ ?_ ?_) (su y hy r r1 r2) ?_ (by omega)) nn (by omega) r5 r6
        · rcases h' with rfl | rfl | rfl | rfl | rfl | rfl <;> rfl
        · rcases h' with rfl | rfl | rfl | rfl | rfl | rfl <;> rfl
        · rcases h' with rfl | rfl | rfl | rfl | rfl | rfl <;> rfl
      · subst h'
        exact zvH (zwc (o:=21) (no x hx _ rfl rfl rfl rfl) (no y hy r r1 r2 r3 r4) rfl (by decide) r5 hN1) r6 hN0
      · subst h'
        exact zwc (o:=22) (co x hx _ rfl rfl rfl rfl rfl) (co y hy r r1 r2 r3 r4 r5) rfl (by decide) r6 hN1
end
theorem zxt {α R:Type} {step:Int×List Lx→Option (Lp (Int×List Lx) (Lp (List Lx) R))} {l:List α} {p:α→Bool} {t:α→List Lx} {m:α→Nat} {pan:R} (hlen:l.length≤100000000) (M:Nat) (hm:∀ x∈l,(t x).length≤m x)
    (h:∀ (i:Nat) (hi:i<l.length) (w:List Lx),w.length+m l[i]≤M→step ((i:Int),w)=some (if p l[i] then .go (((i+1:Nat):Int),w++t l[i]) else .stop (.stop pan)))
    (he:∀ w,step ((l.length:Int),w)=some (.stop (.go w))):∀ (n i:Nat) (w:List Lx),i≤l.length→l.length - i<n→w.length+((l.drop i).map m).sum≤M→
    iter step n ((i:Int),w)=some (if (l.drop i).all p then .go (w++(l.drop i).flatMap t) else .stop pan)
  | 0,_,_,_,h,_=>absurd h (yH _)
  | n + 1, i, w, hi, hn, hw => by
    by_cases hl:i<l.length
    · have e:=List.drop_eq_getElem_cons hl
      rw [e,yI,List.sum_cons] at hw
      have h1:=h i hl w (by omega)
      have h2:=hm _ (List.getElem_mem hl)
      rw [e,List.all_cons,List.flatMap_cons]
      rcases yG (p l[i]) with hp | hp
      rotate_left
      · rw [hp] at h1 ⊢
        rw [z1z h1]; rfl
      · rw [hp] at h1 ⊢
        simp only [yS] at h1
        rw [z4f h1,zxt hlen M hm h he n (i+1) (w++t l[i]) hl (by omega) (by rw [yB]; omega)]
        simp only [Bool.true_and,yA]
    · have e:i=l.length:=by omega
      subst e
      rw [z1z (he w),List.drop_length]
      simp
theorem wblock:∀ (n:Nat) (l:List St),szSs l+6<n→szSs l≤100000000→Wrs (z4q n) l (zvK l) (blk (tokSs l)) (8*szSs l+2)
  | 0,_,h,_=>absurd h (yH _)
  | n + 1, l, h, h' => by
    intro w hw
    have hlen:=zng l
    show z4X n (z4q n) ⟨w⟩ l=_
    unfold z4X
    rw [zbX w _ (show 1<n by omega) (by omega),zvS,zwy]
    simp only [ob]
    have hsum:∀ r:List St,(r.map fun s=>8*szS s).sum=8*szSs r:=by
      intro r
      induction r with
      | nil=>rfl
      | cons s r ih=>simp only [yI,List.sum_cons,ih,szSs]; omega
    have key:=zxt (step:=z8b n l (z4q n)) (l:=l) (p:=formS) (t:=tokS) (m:=fun s=>8*szS s) (pan:=.pan 3) (by omega) 2000000000 (fun x _=>zxp x) (fun i hi w' hw'=>by
      have hm:=znh hi
      have h1:=wstmt (bl:=z4q n) n l[i] (by omega) (by omega) (fun l' hl'=>wblock n l' (by omega) (by omega)) w' hw'
      unfold z8b
      simp only [yW,hi,yQ,yK,z5t hi,h1]
      rcases yG (formS l[i]) with hf | hf
      · rw [hf,zvM rfl]; simp only [yS,zc1 (j:=i) (by omega)]
      · rw [hf]; rfl) (fun w'=>by
      unfold z8b
      simp only [Int.lt_irrefl,yP,yJ]) n 0 (w++[tG [123]]) (yX _) (by omega) (by rw [List.drop_zero,hsum]; simp; omega)
    have key' : iter (z8b n l (z4q n)) n (0,w++[tG [123]])=_:=key
    rw [key',List.drop_zero]
    rcases yG (l.all formS) with hf | hf
    rotate_left
    · rw [hf]; rfl
    · rw [hf]
      simp only [yS,bJ]
      have hl:=zvU l
      rw [zwy] at hl
      rw [zbX _ _ (show 1<n by omega) (by simp only [yB,yC,yF]; omega)]
      unfold blk
      simp only [ob,yA]
      rfl
def RdS (p:Ps St) (T:List Tk) (x:St) (r:List Tk):Prop:=∀ i,∃ x',p.run i (T++r) = .ok x' (i+T.length) r∧atS z0 x'=atS z0 x
def RdB (p:Ps (List St)) (T:List Tk) (x:List St) (r:List Tk):Prop:=∀ i,∃ x',p.run i (T++r) = .ok x' (i+T.length) r∧x'.map (atS z0)=x.map (atS z0)
theorem zyL {p:Ps E} {T:List Tk} {x:E} {r:List Tk} (h:Rd p T x r) {β:Type} (k:E→Ps β) (i:Nat):∃ x',atE z0 x'=atE z0 x∧(p.bind k).run i (T++r)=(k x').run (i+T.length) r:=by
 obtain ⟨x',e1,e2⟩:=h i
 exact ⟨x',e2,by rw [run_bind,e1]; rfl⟩
theorem zxg {p:Ps (List St)} {T:List Tk} {x:List St} {r:List Tk} (h:RdB p T x r) {β:Type} (k:List St→Ps β) (i:Nat):∃ x',x'.map (atS z0)=x.map (atS z0)∧(p.bind k).run i (T++r)=(k x').run (i+T.length) r:=by
 obtain ⟨x',e1,e2⟩:=h i
 exact ⟨x',e2,by rw [run_bind,e1]; rfl⟩
def hdS (k:Int):List UInt8:=if k=5 then [105,102] else if k=6 then [114,101,112,101,97,116] else if k=1 then [108,101,116] else if k=2∨k=3∨k=4 then [115,101,116] else if k=7 then [108,111,103] else if k=8 then [100,101,110,121] else [114,101,112,108,121]
theorem zwv (s:St):∃ q,tokS s=tW (hdS s.Kind)::q:=by
 obtain ⟨k,a,n,x,b,e⟩:=s
 rw [tokS]
 unfold bodyS hdS headS
 dsimp only
 by_cases k5:k=5
 ·rw [if_pos k5,if_pos k5]; exact ⟨_,rfl⟩
 by_cases k6:k=6
 ·rw [if_neg k5,if_pos k6,if_neg k5,if_pos k6]; exact ⟨_,rfl⟩
 rw [if_neg k5,if_neg k6,if_neg k5,if_neg k6]
 by_cases k1:k=1
 ·rw [if_pos k1,if_pos k1]; exact ⟨_,rfl⟩
 by_cases k2:k=2
 ·rw [if_neg k1,if_pos k2,if_neg k1,if_pos (.inl k2)]; exact ⟨_,rfl⟩
 by_cases k3:k=3
 ·rw [if_neg k1,if_neg k2,if_pos k3,if_neg k1,if_pos (.inr (.inl k3))]; exact ⟨_,rfl⟩
 by_cases k4:k=4
 ·rw [if_neg k1,if_neg k2,if_neg k3,if_pos k4,if_neg k1,if_pos (.inr (.inr k4))]; exact ⟨_,rfl⟩
 rw [if_neg k1,if_neg k2,if_neg k3,if_neg k4,if_neg k1,if_neg (show ¬(k=2∨k=3∨k=4) by omega)]
 by_cases k7:k=7
 ·rw [if_pos k7,if_pos k7]; exact ⟨_,rfl⟩
 by_cases k8:k=8
 ·rw [if_neg k7,if_pos k8,if_neg k7,if_pos k8]; exact ⟨_,rfl⟩
 ·rw [if_neg k7,if_neg k8,if_neg k7,if_neg k8]; exact ⟨_,rfl⟩
theorem zye (k:Int):isK 5 [125] (some (2,hdS k))=false∧isK 2 [101,108,115,101] (some (2,hdS k))=false:=by
 unfold hdS
 repeat' split
 all_goals exact ⟨rfl,rfl⟩
theorem zwR {one:Ps St}:∀ (m:List St) (f:Nat) (l l' : List St) (r:List Tk),(∀ s∈m,∀ r,isK 2 [101,108,115,101] r.head? = false→RdS one ((tokS s).map tk) s r)→m.length<f→l'.map (atS z0)=l.map (atS z0)→
    ∀ i,∃ q,(zby one f l').run i ((tokSs m).map tk++(5,[125])::r) = .ok q (i+(tokSs m).length+1) r∧q.map (atS z0)=(l++m).map (atS z0)
  | _,0,_,_,_,_,h,_,_=>absurd h (yH _)
  | [], f + 1, l, l', r, _, _, he, i => by
    refine ⟨l',?_,by rw [List.append_nil]; exact he⟩
    unfold zby
    rw [zfu]
    rfl
  | s :: m, f + 1, l, l', r, hm, hf, he, i => by
    have hs:=hm s (List.mem_cons_self ..)
    have hr:isK 2 [101,108,115,101] ((tokSs m).map tk++(5,[125])::r).head? = false:=by
      cases m with
      | nil=>rfl
      | cons s' m =>
        obtain ⟨q,e⟩:=zwv s'
        rw [tokSs,e]
        exact (zye s'.Kind).2
    obtain ⟨s',e1,e2⟩:=hs _ hr i
    obtain ⟨q,e3,e4⟩:=zwR m f (l++[s]) (l'++[s']) r (fun z hz=>hm z (List.mem_cons_of_mem _ hz)) (by simp at hf; omega) (by simp only [List.map_append,he,yI,List.map_nil,e2]) (i+(tokS s).length)
    refine ⟨q,?_,by rw [e4]; simp⟩
    unfold zby
    obtain ⟨q',e⟩:=zwv s
    have hn:isK 5 [125] (((tokSs (s::m)).map tk++(5,[125])::r).head?)=false:=by
      rw [tokSs,e]
      exact (zye s.Kind).1
    rw [zfu]
    simp only [sgn,hn,yN,yR]
    rw [tokSs,List.map_append,yA,run_bind,e1]
    dsimp only [Out.andThen]
    rw [List.length_map,e3]
    congr 1
    simp only [yB]; omega
theorem zwN {one:Ps St} {m:List St} {N:Nat} {r:List Tk} (hm:∀ s∈m,∀ r,isK 2 [101,108,115,101] r.head? = false→RdS one ((tokS s).map tk) s r) (hN:m.length<N):RdB (z4d one N) ((blk (tokSs m)).map tk) m r:=by
 intro i
 obtain ⟨q,e1,e2⟩:=zwR m N [] [] r hm hN rfl (i+1)
 refine ⟨q,?_,by rw [e2,yD]⟩
 unfold z4d
 have e:(blk (tokSs m)).map tk++r=(5,[123])::((tokSs m).map tk++(5,[125])::r):=by
  unfold blk
  simp only [List.map_append,yI,List.map_nil,yA,yE,yD]; rfl
 rw [e,run_bind]
 show (zby one N []).run (i+1) _=_
 rw [e1]
 congr 1
 unfold blk
 simp only [List.length_map,yB,yC,yF]
 omega
theorem zwd {ex:Ps E} {T:List Tk} {x:E} {r:List Tk} (h:Rd ex T x ((5,[59])::r)) {β:Type} (k:E→Ps β) (i:Nat):∃ x',atE z0 x'=atE z0 x∧((zgj ex).bind k).run i (T++(5,[59])::r)=(k x').run (i+T.length+1) r:=by
 obtain ⟨x',e1,e2⟩:=h i
 refine ⟨x',e2,?_⟩
 unfold zgj
 rw [z7j,run_bind,e1]
 rfl
theorem zw1 {ex:Ps E} {T:List Tk} {x:E} {r:List Tk} (h:Rd ex T x ((5,[59])::r)) {β:Type} (k:E→Ps β) (i:Nat):∃ x',atE z0 x'=atE z0 x∧((z9U ex).bind k).run i ((5,[61])::(T++(5,[59])::r))=(k x').run (i+1+T.length+1) r:=by
 obtain ⟨x',e2,e1⟩:=zwd h k (i+1)
 refine ⟨x',e2,?_⟩
 unfold z9U
 rw [z7j,run_bind]
 exact e1
theorem zxJ:∀ (k:Nat) (s:St),szS s≤k→formS s=true→∀ (f N:Nat),k≤f→k+8≤N→∀ r,isK 2 [101,108,115,101] r.head? = false→RdS (stmtP (exprP N N) N f) ((tokS s).map tk) s r
  | 0,s,h,_=>absurd h (by have:=zsB s; omega)
  | k + 1, ⟨kd, a, nm, x, b, e⟩, hk, hf => by
    intro f N hf' hN r hr i
    obtain ⟨f,rfl⟩ : ∃ m,f=m+1:=⟨f - 1,by omega⟩
    rw [szS] at hk
    rw [formS,Bool.and_eq_true,Bool.and_eq_true,Bool.and_eq_true,zvS,zvS,List.all_eq_true,List.all_eq_true] at hf
    obtain ⟨⟨⟨hloc,hx⟩,hb⟩,he⟩:=hf
    have zx:=zd8 x
    have hX:∀ r,Fo r→Rd (exprP N N) ((tokE x).map tk) x r:=zxG (szE x) x (Nat.le_refl _) hx N N (by omega) (by omega)
    have hS:∀ l:List St,(∀ s∈l,formS s=true)→szSs l≤k→∀ s∈l,∀ r,isK 2 [101,108,115,101] r.head? = false→RdS (stmtP (exprP N N) N f) ((tokS s).map tk) s r:=fun l hl hz s hs r hr=>by
      have h1:szS s≤szSs l:=by rw [zd9]; exact z9H hs
      exact zxJ k s (by omega) (hl s hs) f N (by omega) (by omega) r hr
    have hBr:∀ l:List St,(∀ s∈l,formS s=true)→szSs l≤k→∀ r,RdB (z4d (stmtP (exprP N N) N f) N) ((blk (tokSs l)).map tk) l r:=fun l hl hz r=>zwN (hS l hl hz) (by have:=zng l; omega)
    unfold locS at hloc
    simp only [Bool.and_eq_true,Bool.or_eq_true,decide_eq_true_eq] at hloc
    obtain ⟨⟨⟨⟨hn,hq⟩,hbb⟩,hk1,hk9⟩,h6⟩:=hloc
    rw [tokS]
    unfold bodyS
    by_cases k5:kd=5
    · subst k5
      have hn' : nm=[]:=by
        rcases hn with ((h | h) | h) | h
        · omega
        · omega
        · omega
        · exact h
      subst hn'
      rw [if_pos rfl]
      have et:([tW [105,102]]++tokE x++blk (tokSs b)++elseT e (tokSs e)).map tk++r=(2,[105,102])::((tokE x).map tk++((blk (tokSs b)).map tk++((elseT e (tokSs e)).map tk++r))):=by
        simp only [List.map_append,yI,List.map_nil,yA,yE,yD]; rfl
      have el:([tW [105,102]]++tokE x++blk (tokSs b)++elseT e (tokSs e)).length=1+(tokE x).length+(blk (tokSs b)).length+(elseT e (tokSs e)).length:=by simp only [yB,yC,yF]
      rw [et,List.length_map,el]
      unfold stmtP
      rw [zfu]
      show ∃ x',(Ps.skip _).run i _=_∧_
      rw [Ps.run_skip]
      obtain ⟨x',q1,q2⟩:=zyL (β:=St) (hX ((blk (tokSs b)).map tk++((elseT e (tokSs e)).map tk++r)) (zxQ _)) (fun x=>(z4d (stmtP (exprP N N) N f) N).bind fun b=>.look fun u _=>
        if wrd [101,108,115,101] u then .skip (.look fun v _=>
          if wrd [105,102] v then (stmtP (exprP N N) N f).bind fun s=>.ret ⟨5,(i:Int),[],x,b,[s]⟩
          else (z4d (stmtP (exprP N N) N f) N).bind fun e=>.ret ⟨5,(i:Int),[],x,b,e⟩)
        else .ret ⟨5,(i:Int),[],x,b,[]⟩) (i+1)
      obtain ⟨b',q3,q4⟩:=zxg (β:=St) (hBr b hb (by omega) ((elseT e (tokSs e)).map tk++r)) (fun b=>.look fun u _=>
        if wrd [101,108,115,101] u then .skip (.look fun v _=>
          if wrd [105,102] v then (stmtP (exprP N N) N f).bind fun s=>.ret ⟨5,(i:Int),[],x',b,[s]⟩
          else (z4d (stmtP (exprP N N) N f) N).bind fun e=>.ret ⟨5,(i:Int),[],x',b,e⟩)
        else .ret ⟨5,(i:Int),[],x',b,[]⟩) (i+1+(tokE x).length)
      rw [List.length_map] at q2 q4
      have q2' : (((exprP N N).bind _).run (i+1) ((tokE x).map tk++((blk (tokSs b)).map tk++((elseT e (tokSs e)).map tk++r))))=_:=q2
      rw [q2',q4]
      have fin:∀ (e' : List St),e'.map (atS z0)=e.map (atS z0)→atS z0 ⟨5,(i:Int),[],x',b',e'⟩=atS z0 ⟨5,a,[],x,b,e⟩:=fun e' h=>by
        rw [atS,atS,z6Z,z6Z,z6Z,z6Z,q1,q3,h]; rfl
      have hj:∀ j,i+1+(tokE x).length+(blk (tokSs b)).length+j=i+(1+(tokE x).length+(blk (tokSs b)).length+j):=fun j=>by omega
      by_cases hi:isIf e=true
      · match e,hi,he,hk,fin with
        | [s], hi, he, hk, fin =>
          have e5:elseT [s] (tokSs [s])=[tW [101,108,115,101]]++tokS s:=by unfold elseT; rw [if_pos hi]; simp [tokSs]
          have hs5:s.Kind=5:=of_decide_eq_true hi
          obtain ⟨q,eq⟩:=zwv s
          rw [hs5] at eq
          have hz:szSs [s]=szS s:=by simp [szSs]
          obtain ⟨s',q5,q6⟩:=hS [s] he (by omega) s (List.mem_cons_self ..) r hr (i+1+(tokE x).length+(blk (tokSs b)).length+1)
          refine ⟨⟨5,(i:Int),[],x',b',[s']⟩,?_,fin [s'] (by simp only [yI,List.map_nil,q6])⟩
          rw [e5,List.map_append,yA,zfu]
          show (Ps.skip (.look _)).run _ ((2,[101,108,115,101])::((tokS s).map tk++r))=_
          rw [Ps.run_skip,zfu]
          have hh:wrd [105,102] (((tokS s).map tk++r).head?)=true:=by rw [eq]; rfl
          simp only [hh,yS]
          rw [run_bind,q5]
          show Out.ok _ _ _=Out.ok _ _ _
          congr 1
          simp only [List.length_map,yB,yC,yF]; omega
      · have hi' : isIf e=false:=by simpa using hi
        cases e with
        | nil =>
          refine ⟨⟨5,(i:Int),[],x',b',[]⟩,?_,fin [] rfl⟩
          show (Ps.look _).run _ ([]++r)=_
          rw [yD,zfu]
          simp only [wrd,hr,yN,yR]
          show Out.ok _ _ _=Out.ok _ _ _
          rw [show (elseT [] (tokSs [])).length=0 from rfl,← hj]
          rfl
        | cons s m =>
          have e5:elseT (s::m) (tokSs (s::m))=[tW [101,108,115,101]]++blk (tokSs (s::m)):=by unfold elseT; rw [if_neg hi,if_neg (by simp)]
          obtain ⟨m',q5,q6⟩:=hBr (s::m) he (by omega) r (i+1+(tokE x).length+(blk (tokSs b)).length+1)
          refine ⟨⟨5,(i:Int),[],x',b',m'⟩,?_,fin m' q6⟩
          rw [e5,List.map_append,yA,zfu]
          show (Ps.skip (.look _)).run _ ((2,[101,108,115,101])::((blk (tokSs (s::m))).map tk++r))=_
          rw [Ps.run_skip,zfu]
          show ((z4d (stmtP (exprP N N) N f) N).bind _).run _ _=_
          rw [run_bind,q5]
          show Out.ok _ _ _=Out.ok _ _ _
          congr 1
          simp only [List.length_map,yB,yC,yF]; omega
    have he0:e=[]:=by
      rcases hq with h | h
      · exact absurd h k5
      · exact List.length_eq_zero_iff.1 h
    subst he0
    rw [if_neg k5]
    by_cases k6:kd=6
    · subst k6
      have hn' : nm=[]:=by
        rcases hn with ((h | h) | h) | h
        · omega
        · omega
        · omega
        · exact h
      subst hn'
      rw [if_pos rfl]
      have ho:x.Op=1:=by
        rcases h6 with h | h
        · exact absurd rfl h
        · exact h
      obtain ⟨op,ax,sx,lx⟩:=x
      have ho' : op=1:=ho
      subst ho'
      have hlx:lx=[]:=by
        rw [formE,Bool.and_eq_true] at hx
        have:=hx.1
        unfold locE at this
        rw [if_pos (.inl rfl)] at this
        exact List.length_eq_zero_iff.1 (of_decide_eq_true this)
      subst hlx
      have ht:tokE ⟨1,ax,sx,[]⟩=[tD sx]:=rfl
      rw [ht]
      have et:([tW [114,101,112,101,97,116]]++[tD sx]++blk (tokSs b)).map tk++r=(2,[114,101,112,101,97,116])::(3,sx)::((blk (tokSs b)).map tk++r):=by
        simp only [List.map_append,yI,List.map_nil,yA,yE,yD]; rfl
      rw [et]
      obtain ⟨b',q3,q4⟩:=zxg (β:=St) (hBr b hb (by omega) r) (fun b=>Ps.ret (⟨6,(i:Int),[],⟨1,((i+1:Nat):Int),sx,[]⟩,b,[]⟩ : St)) (i+1+1)
      refine ⟨⟨6,(i:Int),[],⟨1,((i+1:Nat):Int),sx,[]⟩,b',[]⟩,?_,by rw [atS,atS,z6Z,z6Z (l:=b),q3]; rfl⟩
      unfold stmtP
      rw [zfu]
      show ((z4d (stmtP (exprP N N) N f) N).bind _).run (i+1+1) _=_
      refine q4.trans ?_
      show Out.ok _ _ _=Out.ok _ _ _
      congr 1
      simp only [List.length_map,yB,yC,yF]
      omega
    rw [if_neg k6]
    have hb0:b=[]:=by
      rcases hbb with (h | h) | h
      · exact absurd h k5
      · exact absurd h k6
      · exact List.length_eq_zero_iff.1 h
    subst hb0
    have hXs:=hX _ (zya r)
    have h9:kd=1∨kd=2∨kd=3∨kd=4∨kd=7∨kd=8∨kd=9:=by omega
    have nz:kd=4∨kd=7∨kd=8∨kd=9→nm=[]:=fun q=>by
      rcases hn with ((h | h) | h) | h
      · omega
      · omega
      · omega
      · exact h
    have fin:∀ x' : E,atE z0 x'=atE z0 x→atS z0 ⟨kd,(i:Int),nm,x',[],[]⟩=atS z0 ⟨kd,a,nm,x,[],[]⟩:=fun x' h=>by rw [atS,atS,h]; rfl
    have et:∀ H:List Lx,(H++tokE x++[tG [59]]).map tk++r=H.map tk++((tokE x).map tk++(5,[59])::r):=fun H=>by
      simp only [List.map_append,yI,List.map_nil,yA,yE,yD]; rfl
    rw [et]
    have done:∀ (H:List Lx) (j:Nat) (x' : E),j=i+H.length+(tokE x).length+1→(Out.ok (⟨kd,(i:Int),nm,x',[],[]⟩ : St) j r) = .ok ⟨kd,(i:Int),nm,x',[],[]⟩ (i+((H++tokE x++[tG [59]]).map tk).length) r:=fun H j x' h=>by
      rw [h]; congr 1
      simp only [List.length_map,yB,yC,yF]; omega
    rcases h9 with rfl | rfl | rfl | rfl | rfl | rfl | rfl
    · obtain ⟨x',q1,q2⟩:=zw1 (β:=St) hXs (fun x=>Ps.ret (⟨1,(i:Int),nm,x,[],[]⟩ : St)) (i+1+1)
      refine ⟨⟨1,(i:Int),nm,x',[],[]⟩,?_,fin x' q1⟩
      unfold stmtP
      rw [zfu]
      refine Eq.trans ?_ ((q2.trans rfl).trans (done (headS 1 nm) _ x' ?_))
      · rfl
      · rw [List.length_map]; show _=i+3+_+1; omega
    · obtain ⟨x',q1,q2⟩:=zw1 (β:=St) hXs (fun x=>Ps.ret (⟨2,(i:Int),nm,x,[],[]⟩ : St)) (i+1+1)
      refine ⟨⟨2,(i:Int),nm,x',[],[]⟩,?_,fin x' q1⟩
      unfold stmtP
      rw [zfu]
      refine Eq.trans ?_ ((q2.trans rfl).trans (done (headS 2 nm) _ x' ?_))
      · rfl
      · rw [List.length_map]; show _=i+3+_+1; omega
    · obtain ⟨x',q1,q2⟩:=zw1 (β:=St) hXs (fun x=>Ps.ret (⟨3,(i:Int),nm,x,[],[]⟩ : St)) (i+1+1+1)
      refine ⟨⟨3,(i:Int),nm,x',[],[]⟩,?_,fin x' q1⟩
      unfold stmtP
      rw [zfu]
      refine Eq.trans ?_ ((q2.trans rfl).trans (done (headS 3 nm) _ x' ?_))
      · rfl
      · rw [List.length_map]; show _=i+4+_+1; omega
    · obtain rfl:=nz (.inl rfl)
      obtain ⟨x',q1,q2⟩:=zw1 (β:=St) hXs (fun x=>Ps.ret (⟨4,(i:Int),[],x,[],[]⟩ : St)) (i+1+1)
      refine ⟨⟨4,(i:Int),[],x',[],[]⟩,?_,fin x' q1⟩
      unfold stmtP
      rw [zfu]
      refine Eq.trans ?_ ((q2.trans rfl).trans (done (headS 4 []) _ x' ?_))
      · rfl
      · rw [List.length_map]; show _=i+3+_+1; omega
    · obtain rfl:=nz (.inr (.inl rfl))
      obtain ⟨x',q1,q2⟩:=zwd (β:=St) hXs (fun x=>Ps.ret (⟨7,(i:Int),[],x,[],[]⟩ : St)) (i+1)
      refine ⟨⟨7,(i:Int),[],x',[],[]⟩,?_,fin x' q1⟩
      unfold stmtP
      rw [zfu]
      refine Eq.trans ?_ ((q2.trans rfl).trans (done (headS 7 []) _ x' ?_))
      · rfl
      · rw [List.length_map]; show _=i+1+_+1; omega
    · obtain rfl:=nz (.inr (.inr (.inl rfl)))
      obtain ⟨x',q1,q2⟩:=zwd (β:=St) hXs (fun x=>Ps.ret (⟨8,(i:Int),[],x,[],[]⟩ : St)) (i+1)
      refine ⟨⟨8,(i:Int),[],x',[],[]⟩,?_,fin x' q1⟩
      unfold stmtP
      rw [zfu]
      refine Eq.trans ?_ ((q2.trans rfl).trans (done (headS 8 []) _ x' ?_))
      · rfl
      · rw [List.length_map]; show _=i+1+_+1; omega
    · obtain rfl:=nz (.inr (.inr (.inr rfl)))
      obtain ⟨x',q1,q2⟩:=zwd (β:=St) hXs (fun x=>Ps.ret (⟨9,(i:Int),[],x,[],[]⟩ : St)) (i+1)
      refine ⟨⟨9,(i:Int),[],x',[],[]⟩,?_,fin x' q1⟩
      unfold stmtP
      rw [zfu]
      refine Eq.trans ?_ ((q2.trans rfl).trans (done (headS 9 []) _ x' ?_))
      · rfl
      · rw [List.length_map]; show _=i+1+_+1; omega
def jn {α:Type} (t:Nat→α→List Lx):Nat→List α→List Lx
 | _,[]=>[]
 | j,x::r=>t j x++jn t (j+1) r
theorem zwL {α:Type} (t:α→List Lx):∀ (l:List α) (j:Nat),jn (fun _=>t) j l=l.flatMap t
 | [],_=>rfl
 | x::r,j=>by rw [jn,zwL t r,List.flatMap_cons]
theorem zxX {α:Type} {t:Nat→α→List Lx} {m:α→Nat}:∀ (l:List α) (j:Nat),(∀ j,∀ x∈l,(t j x).length≤m x)→(jn t j l).length≤(l.map m).sum
  | [],_,_=>Nat.le_refl _
  | x :: r, j, h => by
    have h1:=h j x (List.mem_cons_self ..)
    have h2:=zxX r (j+1) fun j y hy=>h j y (List.mem_cons_of_mem _ hy)
    simp only [jn,yB,yI,List.sum_cons]
    omega
theorem zxY {α:Type} (t:Nat→α→List Lx):∀ (l:List α) (j:Nat),jn t j l=(l.zipIdx j).flatMap fun p=>t p.2 p.1
 | [],_=>rfl
 | x::r,j=>by rw [jn,zxY t r,List.zipIdx_cons,List.flatMap_cons]
theorem zw5 {α R:Type} {step:Int×List Lx→Option (Lp (Int×List Lx) R)} {l:List α} {p:α→Bool} {t:Nat→α→List Lx} {m:α→Nat} {fin:List Lx→R} {pan:R} (M:Nat) (hm:∀ j,∀ x∈l,(t j x).length≤m x)
    (h:∀ (i:Nat) (hi:i<l.length) (w:List Lx),w.length+m l[i]≤M→step ((i:Int),w)=some (if p l[i] then .go (((i+1:Nat):Int),w++t i l[i]) else .stop pan))
    (he:∀ w,step ((l.length:Int),w)=some (.stop (fin w))):∀ (n i:Nat) (w:List Lx),i≤l.length→l.length - i<n→w.length+((l.drop i).map m).sum≤M→
    iter step n ((i:Int),w)=some (if (l.drop i).all p then fin (w++jn t i (l.drop i)) else pan)
  | 0,_,_,_,h,_=>absurd h (yH _)
  | n + 1, i, w, hi, hn, hw => by
    by_cases hl:i<l.length
    · have e:=List.drop_eq_getElem_cons hl
      rw [e,yI,List.sum_cons] at hw
      have h1:=h i hl w (by omega)
      have h2:=hm i _ (List.getElem_mem hl)
      rw [e,List.all_cons,jn]
      rcases yG (p l[i]) with hp | hp
      rotate_left
      · rw [hp] at h1 ⊢
        rw [z1z h1]; rfl
      · rw [hp] at h1 ⊢
        simp only [yS] at h1
        rw [z4f h1,zw5 M hm h he n (i+1) (w++t i l[i]) hl (by omega) (by rw [yB]; omega)]
        simp only [Bool.true_and,yA]
    · have e:i=l.length:=by omega
      subst e
      rw [z1z (he w),List.drop_length]
      simp [jn]
theorem zvY {α:Type} (c:Nat) (l:List α):(l.map fun _=>c).sum=c*l.length:=by
 induction l with
 | nil=>rfl
 | cons x r ih=>simp only [yI,List.sum_cons,ih,yC,Nat.mul_add]; omega
def oneT (k:Int) (j:Nat) (s:List UInt8):List Lx:=(if j=0 then [] else [tG [44]])++[⟨k,0,s⟩]
def comT (k:Int) (l:List (List UInt8)):List Lx:=jn (oneT k) 0 l
theorem zx7 (k:Int) (j:Nat) (s:List UInt8):(oneT k j s).length≤2:=by unfold oneT; split <;> simp
theorem zwm (k:Int) (l:List (List UInt8)):(comT k l).length≤2*l.length:=by
 have:=zxX (t:=oneT k) (m:=fun _=>2) l 0 fun j x _=>zx7 k j x
 rw [zvY] at this
 exact this
theorem wtexts (w:List Lx) (k:Int) (l:List (List UInt8)) {n:Nat} (hn:l.length+2<n) (h:w.length+2*l.length≤2000000000):z30 n ⟨w⟩ k l=some (.ret ⟨w++comT k l⟩):=by
 unfold z30
 have key:=zw5 (step:=z8h n k l) (l:=l) (p:=fun _=>true) (t:=oneT k) (m:=fun _=>2) (fin:=fun w=>Pn.ret ⟨w⟩) (pan:=.pan 3) 2000000000 (fun j x _=>zx7 k j x) (fun i hi w' hw'=>by
  unfold z8h
  simp only [yW,hi,yQ,yK,z5t hi]
  unfold oneT
  by_cases h0:i=0
  ·subst h0
   rw [show decide ((0:Int)<((0:Nat):Int))=false from rfl,yJ,bJ,zlr _ _ _ (by omega)]
   simp only [ob,yS,yD,zc1 (j:=0) (by omega)]
  ·rw [show decide ((0:Int)<((i:Nat):Int))=true from yM (by omega),yK,zbX _ _ (show 1<n by omega) (by omega)]
   simp only [ob,bJ]
   rw [zlr _ _ _ (by simp; omega),if_neg h0]
   simp only [ob,yS,yA,zc1 (j:=i) (by omega)]) (fun w'=>by
  unfold z8h
  simp only [Int.lt_irrefl,yP,yJ]) n 0 w (yX _) (by omega) (by rw [List.drop_zero,zvY]; omega)
 have key' : iter (z8h n k l) n (0,w)=_:=key
 rw [key',List.drop_zero]
 simp only [List.all_eq_true,implies_true,yS]
 rfl
def wordC (k:Int):List UInt8:=z5y[(k - 1).toNat]?.getD []
def amT (u v:List UInt8):List Lx:=tD u::if v=[] then [] else [tN v]
def bodyC (k:Int) (n:List UInt8) (t:List (List UInt8)) (u v d:List UInt8) (hd:Bool) (tc:List Lx):List Lx:=
 if k=1 then comT 4 t else if k=2∨k=14∨k=15 then comT 4 t else if k=16 then comT 3 t else if k=8 then [tQ n,tW [105,110]]++comT 4 t++(if hd then [tW [100,101,102,97,117,108,116],tQ d] else [])
 else if k=11 then [tN n] else if k=9 then blk tc else if k=10 then [] else amT u v
def endC (k:Int):List Lx:=if k=9 then [] else [tG [59]]
def restC (n:List UInt8) (a b:Nat) (u v d:List UInt8) (hd:Bool):Bool:=(((decide (n=[]) && decide (a+b=0)) && (decide (u=[]) && decide (v=[]))) && decide (d=[])) && !hd
def loC (k:Int) (n:List UInt8) (t c:Nat) (u v d:List UInt8) (hd fc:Bool):Bool:=
 if k=1 then decide (t=1) && restC n 0 c u v d hd else if (k=2∨k=14∨k=15)∨k=16 then decide (0<t) && restC n 0 c u v d hd else if k=8 then decide (0<t) && restC [] 0 c u v (if hd then [] else d) false
 else if k=11 then restC [] t c u v d hd else if k=9 then fc && restC n t 0 u v d hd else if k=10 then restC n t c u v d hd else (decide (v=[]) || decide (k≠17)) && restC n t c [] [] d hd
def inC (inner:Bool) (k:Int):Bool:=(decide (1≤k) && decide (k≤17)) && (decide (k=1) || (inner == decide (12≤k)))
mutual
def tokC:Cl→List Lx
 | ⟨k,_,n,t,am,d,h,c⟩=>[tW (wordC k)]++bodyC k n t am.Number am.Unit d h (tokCs c)++endC k
def tokCs:List Cl→List Lx
 | []=>[]
 | x::r=>tokC x++tokCs r
end
mutual
def formC:Bool→Cl→Bool
 | b,⟨k,_,n,t,am,d,h,c⟩=>inC b k && loC k n t.length c.length am.Number am.Unit d h (zvT true c)
def zvT:Bool→List Cl→Bool
 | _,[]=>true
 | b,x::r=>formC b x && zvT b r
end
theorem zwi:∀ l:List Cl,tokCs l=l.flatMap tokC
 | []=>rfl
 | s::r=>by rw [tokCs,zwi r,List.flatMap_cons]
theorem zvV (b:Bool):∀ l:List Cl,zvT b l=l.all (formC b)
 | []=>rfl
 | s::r=>by rw [zvT,zvV b r]; rfl
theorem zxv (k:Int) (n:List UInt8) (t:List (List UInt8)) (u v d:List UInt8) (hd:Bool) (tc:List Lx):(bodyC k n t u v d hd tc).length≤2*t.length+tc.length+4:=by
 have h1:=zwm 4 t
 have h2:=zwm 3 t
 unfold bodyC blk amT
 repeat' split
 all_goals try simp only [yB,yC,yF]
 all_goals omega
mutual
theorem zxm:∀ s:Cl,(tokC s).length≤8*szC s
  | ⟨k, a, n, t, am, d, h, c⟩ => by
    have h1:=zw4 c
    have h2:=zxv k n t am.Number am.Unit d h (tokCs c)
    have h3:(endC k).length≤1:=by unfold endC; split <;> simp
    rw [tokC,szC]
    simp only [yB,yC,yF]
    omega
theorem zw4:∀ l:List Cl,(tokCs l).length≤8*szCs l
  | []=>yX _
  | s :: r => by
    have h1:=zxm s
    have h2:=zw4 r
    simp only [tokCs,yB,szCs] at h2 ⊢
    omega
end
theorem idxC {k:Int} (h1:1≤k) (h2:k≤17) {β:Type} (f:List UInt8→Option β):idx z5y (IntKind.i64.wrap (k - 1)) f=f (wordC k):=by
 obtain ⟨m,rfl⟩ : ∃ m:Nat,k=(m:Int)+1:=⟨(k - 1).toNat,by omega⟩
 have hm:m<17:=by omega
 have e:IntKind.i64.wrap ((m:Int)+1 - 1)=(m:Int):=by
  rw [show ((m:Int)+1 - 1)=((m:Nat):Int) by omega]
  exact Go.Abs.zb6 (by omega) (by omega)
 have e2:((m:Int)+1 - 1).toNat=m:=by omega
 rw [e,z5t (l:=z5y) (show m<z5y.length from hm)]
 unfold wordC
 rw [e2,List.getElem?_eq_getElem (show m<z5y.length from hm)]
 rfl
theorem wend {n:Nat} (hn:1<n) (k:Int) (w:List Lx) (b:Bool) (hw:w.length≤3000000000):(obind (z2I b) fun r151=>
  pbind r151 (fun e154=>
   some (.pan e154)) fun q153=>
  cond (decide (k≠9))
   (obind (zW n (zo.mk w) ([[59]]:List (List UInt8))) fun r157=>
   some (.ret r157))
   (some (.ret (zo.mk w))))=some (wOut b (w++endC k)):=by
  rw [znU]
  cases b with
  | false=>rfl
  | true =>
    simp only [yS,ob,pbr]
    unfold endC
    by_cases h:k=9
    · subst h
      rw [if_pos rfl,List.append_nil]; rfl
    · rw [if_neg h,yM h,yK,zbX w _ hn (by omega)]; rfl
theorem zwa {a b:Nat} (h:a+b≤1000000000):decide (IntKind.i64.wrap ((a:Int)+(b:Int))=0)=decide (a+b=0):=by
 rw [Go.Abs.zb6 (by omega) (by omega),decide_eq_decide]; omega
theorem wclause {n:Nat} {rec:Wr→List Cl→Bool→Option (Pn Wr)} (c:Cl) (inner:Bool) (h:szC c+6<n) (h' : szC c≤100000000) (hB:∀ l:List Cl,szCs l<szC c→Wrs (fun w l=>rec w l true) l (zvT true l) (blk (tokCs l)) (8*szCs l+2)) :
    Wrs (fun w c=>z5w n rec w c inner) c (formC inner c) (tokC c) (8*szC c):=by
  obtain ⟨k,a,nm,t,⟨u,v,ua⟩,d,hd,cs⟩:=c
  intro w hw
  rw [szC] at h h' hw hB
  have lc:=zw4 cs
  have ll:=znd cs
  have hBc:=hB cs (by omega)
  show z5w n rec ⟨w⟩ ⟨k,a,nm,t,⟨u,v,ua⟩,d,hd,cs⟩ inner=_
  unfold z5w
  rw [tokC,formC]
  dsimp only
  rw [znU,show ((decide (1≤k) && decide (k≤17)) && (decide (k=1) || (inner == decide (12≤k))))=inC inner k from rfl]
  rcases yG (inC inner k) with hi | hi
  rotate_left
  · rw [hi]; rfl
  rw [hi]
  have hk:1≤k∧k≤17:=by
    unfold inC at hi
    simp only [Bool.and_eq_true,decide_eq_true_eq] at hi
    exact hi.1
  have et:∀ {β:Type} (f:List (List UInt8)→Option β),obind z6N f=f z5y:=fun f=>rfl
  simp only [yS,ob,pbr,et,idxC hk.1 hk.2,zf6 w _ (show 1<n by omega) (by omega),Bool.true_and]
  have d0:decide ((0:Int)<(t.length:Int))=decide (0<t.length):=by rw [decide_eq_decide]; omega
  have d1:decide ((t.length:Int)=1)=decide (t.length=1):=by rw [decide_eq_decide]; omega
  have tx:∀ (w' : List Lx) (kd:Int),w'.length≤w.length+3→z30 n ⟨w'⟩ kd t=some (.ret ⟨w'++comT kd t⟩):=fun w' kd hw'=>wtexts w' kd t (by omega) (by omega)
  have c3:=zwm 3 t
  have c4:=zwm 4 t
  unfold bodyC loC
  simp only [d0,d1]
  have lw:(w++[tW (wordC k)]).length=w.length+1:=by simp
  have z0' : ((([]:List (List UInt8)).length:Nat):Int)=((0:Nat):Int):=rfl
  by_cases k1:k=1
  · simp only [k1,yQ,yK,yS]
    rw [znU]
    rcases yG (decide (t.length=1)) with hb | hb
    rotate_left
    · rw [hb]; rfl
    rw [hb]
    simp only [yS,ob,pbr]
    rw [k1] at lw
    rw [tx _ _ (by omega)]
    simp only [ob,pbr,bJ,z0',zwa (show 0+cs.length≤1000000000 by omega)]
    have:=wend (n:=n) (by omega) 1 (w++[tW (wordC 1)]++comT 4 t) (restC nm 0 cs.length u v d hd) (by rw [yB]; omega)
    rw [Bool.true_and,← yA,← yA,← this]; unfold restC; simp only [Bool.and_true]
  simp only [k1,yP,yJ,yR]
  by_cases k2:k=2
  · subst k2
    simp only [Int.reduceEq,yQ,yP,yK,yJ,bJ,or_false,or_true,true_or,yS]
    rw [znU]
    rcases yG (decide (0<t.length)) with hb | hb
    rotate_left
    · rw [hb]; rfl
    rw [hb]
    simp only [yS,ob,pbr]
    rw [tx _ _ (by omega)]
    simp only [ob,pbr,bJ,z0',zwa (show 0+cs.length≤1000000000 by omega)]
    have:=wend (n:=n) (by omega) 2 (w++[tW (wordC 2)]++comT 4 t) (restC nm 0 cs.length u v d hd) (by rw [yB]; omega)
    rw [Bool.true_and,← yA,← yA,← this]; unfold restC; simp only [Bool.and_true]
  by_cases k14:k=14
  · subst k14
    simp only [Int.reduceEq,yQ,yP,yK,yJ,bJ,or_false,or_true,true_or,false_or,yS]
    rw [znU]
    rcases yG (decide (0<t.length)) with hb | hb
    rotate_left
    · rw [hb]; rfl
    rw [hb]
    simp only [yS,ob,pbr]
    rw [tx _ _ (by omega)]
    simp only [ob,pbr,bJ,z0',zwa (show 0+cs.length≤1000000000 by omega)]
    have:=wend (n:=n) (by omega) 14 (w++[tW (wordC 14)]++comT 4 t) (restC nm 0 cs.length u v d hd) (by rw [yB]; omega)
    rw [Bool.true_and,← yA,← yA,← this]; unfold restC; simp only [Bool.and_true]
  by_cases k15:k=15
  · subst k15
    simp only [Int.reduceEq,yQ,yP,yK,yJ,bJ,or_false,or_true,true_or,false_or,yS]
    rw [znU]
    rcases yG (decide (0<t.length)) with hb | hb
    rotate_left
    · rw [hb]; rfl
    rw [hb]
    simp only [yS,ob,pbr]
    rw [tx _ _ (by omega)]
    simp only [ob,pbr,bJ,z0',zwa (show 0+cs.length≤1000000000 by omega)]
    have:=wend (n:=n) (by omega) 15 (w++[tW (wordC 15)]++comT 4 t) (restC nm 0 cs.length u v d hd) (by rw [yB]; omega)
    rw [Bool.true_and,← yA,← yA,← this]; unfold restC; simp only [Bool.and_true]
  have kk:¬(k=2∨k=14∨k=15):=fun h=>h.elim k2 fun h=>h.elim k14 k15
  simp only [k2,k14,k15,yP,yJ,bJ,or_false,yR,false_or]
  by_cases k16:k=16
  · subst k16
    simp only [Int.reduceEq,yQ,yP,yK,yJ,bJ,or_false,or_true,true_or,false_or,yS]
    rw [znU]
    rcases yG (decide (0<t.length)) with hb | hb
    rotate_left
    · rw [hb]; rfl
    rw [hb]
    simp only [yS,ob,pbr]
    rw [tx _ _ (by omega)]
    simp only [ob,pbr,bJ,z0',zwa (show 0+cs.length≤1000000000 by omega)]
    have:=wend (n:=n) (by omega) 16 (w++[tW (wordC 16)]++comT 3 t) (restC nm 0 cs.length u v d hd) (by rw [yB]; omega)
    rw [Bool.true_and,← yA,← yA,← this]; unfold restC; simp only [Bool.and_true]
  simp only [k16,yP,yJ,yR]
  by_cases k8:k=8
  · subst k8
    simp only [Int.reduceEq,yQ,yP,yK,yJ,bJ,yS]
    rw [znU]
    rcases yG (decide (0<t.length)) with hb | hb
    rotate_left
    · rw [hb]; rfl
    rw [hb]
    simp only [yS,ob,pbr]
    rw [zlr _ _ _ (by omega)]
    simp only [ob]
    rw [zf6 _ _ (show 1<n by omega) (by simp; omega)]
    simp only [ob]
    rw [tx _ _ (by simp)]
    simp only [ob,pbr]
    have lv:(w++[tW (wordC 8)]++[tQ nm]++[tW [105,110]]++comT 4 t).length=w.length+3+(comT 4 t).length:=by simp; omega
    cases hd with
    | true =>
      simp only [yK,yS]
      rw [zf6 _ _ (show 1<n by omega) (by simp; omega)]
      simp only [ob]
      rw [zlr _ _ _ (by simp; omega)]
      simp only [ob,bJ,z0',zwa (show 0+cs.length≤1000000000 by omega)]
      have:=wend (n:=n) (by omega) 8 (w++[tW (wordC 8)]++[tQ nm]++[tW [105,110]]++comT 4 t++[tW [100,101,102,97,117,108,116]]++[tQ d]) (restC [] 0 cs.length u v [] false) (by simp; omega)
      have e:w++([tW (wordC 8)]++([tQ nm,tW [105,110]]++comT 4 t++[tW [100,101,102,97,117,108,116],tQ d])++endC 8)=(w++[tW (wordC 8)]++[tQ nm]++[tW [105,110]]++comT 4 t++[tW [100,101,102,97,117,108,116]]++[tQ d])++endC 8:=by simp
      rw [Bool.true_and,e,← this]; unfold restC; simp only [Bool.and_true]
      rfl
    | false =>
      simp only [yJ,yN,yR]
      simp only [ob,bJ,z0',zwa (show 0+cs.length≤1000000000 by omega)]
      have:=wend (n:=n) (by omega) 8 (w++[tW (wordC 8)]++[tQ nm]++[tW [105,110]]++comT 4 t) (restC [] 0 cs.length u v d false) (by simp; omega)
      have e:w++([tW (wordC 8)]++([tQ nm,tW [105,110]]++comT 4 t++[])++endC 8)=(w++[tW (wordC 8)]++[tQ nm]++[tW [105,110]]++comT 4 t)++endC 8:=by simp
      rw [Bool.true_and,e,← this]; unfold restC; simp only [Bool.and_true]
      rfl
  simp only [k8,yP,yJ,yR]
  by_cases k11:k=11
  · subst k11
    simp only [Int.reduceEq,yQ,yP,yK,yJ,bJ,yS]
    rw [zlr _ _ _ (by omega)]
    simp only [ob,bJ,zwa (show t.length+cs.length≤1000000000 by omega)]
    have:=wend (n:=n) (by omega) 11 (w++[tW (wordC 11)]++[tN nm]) (restC [] t.length cs.length u v d hd) (by simp; omega)
    rw [← yA,← yA,← this]; unfold restC; simp only [Bool.and_true]
    rfl
  simp only [k11,yP,yJ,yR]
  by_cases k9:k=9
  · subst k9
    simp only [Int.reduceEq,yQ,yP,yK,yJ,bJ,yS]
    have h1:=hBc (w++[tW (wordC 9)]) (by omega)
    rw [show rec ⟨w++[tW (wordC 9)]⟩ cs true=_ from h1]
    rcases yG (zvT true cs) with hb | hb
    rotate_left
    · rw [hb]; rfl
    rw [hb,znv]
    simp only [ob,pbr,bJ]
    have z2:((([]:List Cl).length:Nat):Int)=((0:Nat):Int):=rfl
    simp only [z2,zwa (show t.length+0≤1000000000 by omega)]
    have lb:(blk (tokCs cs)).length=(tokCs cs).length+2:=by unfold blk; simp
    have:=wend (n:=n) (by omega) 9 (w++[tW (wordC 9)]++blk (tokCs cs)) (restC nm t.length 0 u v d hd) (by rw [yB]; omega)
    rw [Bool.true_and,← yA,← yA,← this]; unfold restC; simp only [Bool.and_true]
  simp only [k9,yP,yJ,yR]
  by_cases k10:k=10
  · subst k10
    simp only [Int.reduceEq,yQ,yP,yK,yJ,bJ,yS]
    simp only [zwa (show t.length+cs.length≤1000000000 by omega)]
    have:=wend (n:=n) (by omega) 10 (w++[tW (wordC 10)]) (restC nm t.length cs.length u v d hd) (by omega)
    rw [List.append_nil,← yA,← this]; unfold restC; simp only [Bool.and_true]
  simp only [k10,yP,yJ,yR]
  rw [zlr _ _ _ (by omega)]
  simp only [ob]
  unfold amT
  have wk:=fun (w:List Lx) (b:Bool) (hw:w.length≤3000000000)=>wend (n:=n) (by omega) k w b hw
  by_cases hv:v=[]
  · subst hv
    simp only [yQ,yU,yJ,bJ,yS,Bool.true_or,Bool.true_and,zwa (show t.length+cs.length≤1000000000 by omega)]
    have:=wk (w++[tW (wordC k)]++[tD u]) (restC nm t.length cs.length [] [] d hd) (by simp; omega)
    rw [← yA,← yA,← this]; unfold restC; simp only [Bool.and_true,yQ,Bool.true_and]
    rfl
  · simp only [hv,yP,yT,yK,yR,Bool.false_or]
    rw [znU]
    rcases yG (decide (k≠17)) with hb | hb
    rotate_left
    · rw [hb]; rfl
    rw [hb]
    simp only [yS,ob,pbr]
    rw [zlr _ _ _ (by simp; omega)]
    simp only [ob,bJ,zwa (show t.length+cs.length≤1000000000 by omega)]
    have:=wk (w++[tW (wordC k)]++[tD u]++[tN v]) (restC nm t.length cs.length [] [] d hd) (by simp; omega)
    have e:w++([tW (wordC k)]++[tD u,tN v]++endC k)=w++[tW (wordC k)]++[tD u]++[tN v]++endC k:=by simp
    rw [Bool.true_and,e,← this]; unfold restC; simp only [Bool.and_true,yQ,Bool.true_and]
    rfl
theorem zy4 (r:List Cl):(r.map fun s=>8*szC s).sum=8*szCs r:=by
 induction r with
 | nil=>rfl
 | cons s r ih=>simp only [yI,List.sum_cons,ih,szCs]; omega
theorem zy3 {l:List Cl} {i:Nat} (h:i<l.length):szC l[i]≤szCs l:=by rw [zjA]; exact z9H (List.getElem_mem h)
theorem wclauses:∀ (n:Nat) (l:List Cl) (inner:Bool),szCs l+8<n→szCs l≤100000000→Wrs (fun w l=>z4h n w l inner) l (zvT inner l) (blk (tokCs l)) (8*szCs l+2)
  | 0,_,_,h,_=>absurd h (yH _)
  | n + 1, l, inner, h, h' => by
    intro w hw
    have hlen:=znd l
    show z4G n (z4h n) ⟨w⟩ l inner=_
    unfold z4G
    rw [zbX w _ (show 1<n by omega) (by omega),zvV,zwi]
    simp only [ob]
    have key:=zxt (step:=z7y n l inner (z4h n)) (l:=l) (p:=formC inner) (t:=tokC) (m:=fun s=>8*szC s) (pan:=.pan 3) (by omega) 2000000000 (fun x _=>zxm x) (fun i hi w' hw'=>by
      have hm:=zy3 hi
      have h1:=wclause (n:=n) (rec:=z4h n) l[i] inner (by omega) (by omega) (fun l' hl'=>wclauses n l' true (by omega) (by omega)) w' hw'
      unfold z7y
      simp only [yW,hi,yQ,yK,z5t hi]
      rw [show z5w n (z4h n) ⟨w'⟩ l[i] inner=_ from h1]
      rcases yG (formC inner l[i]) with hf | hf
      · rw [hf,zvM rfl]; simp only [yS,zc1 (j:=i) (by omega)]
      · rw [hf]; rfl) (fun w'=>by
      unfold z7y
      simp only [Int.lt_irrefl,yP,yJ]) n 0 (w++[tG [123]]) (yX _) (by omega) (by rw [List.drop_zero,zy4]; simp; omega)
    have key' : iter (z7y n l inner (z4h n)) n (0,w++[tG [123]])=_:=key
    rw [key',List.drop_zero]
    rcases yG (l.all (formC inner)) with hf | hf
    rotate_left
    · rw [hf]; rfl
    · rw [hf]
      simp only [yS,bJ]
      have hl:=zw4 l
      rw [zwi] at hl
      rw [zbX _ _ (show 1<n by omega) (by simp only [yB,yC,yF]; omega)]
      unfold blk
      simp only [ob,yA]
      rfl
def tokR1 (r:zQ):List Lx:=[tW [114,117,108,101],tN r.Name]++blk (tokCs r.Clauses)
def tokP (p:zL):List Lx:=[tW [112,111,108,105,99,121],tN p.Name]++blk (p.Rules.flatMap tokR1)
def wordE (e:Int):List UInt8:=z7I[(e - 1).toNat]?.getD []
def effT (j:Nat) (e:Int):List Lx:=[if j=0 then tW [101,102,102,101,99,116,115] else tG [44],tW (wordE e)]
def tokPr (p:zI):List Lx:=[tW [112,114,111,103,114,97,109],tN p.Name]++jn effT 0 p.Effects++blk (tokSs p.Code)
def zvP (x:zG):List Lx:=x.Policies.flatMap tokP++x.Programs.flatMap tokPr
def formR (r:zQ):Bool:=zvT false r.Clauses
def formP (p:zL):Bool:=p.Rules.all formR
def zvW (e:Int):Bool:=decide (1≤e) && decide (e≤6)
def zw8 (p:zI):Bool:=p.Effects.all zvW && zvK p.Code
def zvR (x:zG):Bool:=x.Policies.all formP && x.Programs.all zw8
theorem zxl {α:Type} (m:α→Nat) (c:Nat) (r:List α):(r.map fun s=>c*m s).sum=c*szL m r:=by
 induction r with
 | nil=>rfl
 | cons s r ih=>simp only [yI,List.sum_cons,ih,szL]; rw [Nat.mul_add]
theorem zbC {α:Type} {t:α→List Lx} {m:α→Nat} {c:Nat} (h:∀ x,(t x).length≤c*m x):∀ l:List α,(l.flatMap t).length≤c*szL m l
  | []=>yX _
  | x :: r => by
    have h1:=h x
    have h2:=zbC h r
    rw [List.flatMap_cons,yB,szL,Nat.mul_add]
    omega
theorem zwu (r:zQ):(tokR1 r).length≤8*szR r:=by
 have:=zw4 r.Clauses
 unfold tokR1 szR blk
 simp only [yB,yC,yF]
 omega
theorem zwH (p:zL):(tokP p).length≤8*szP p:=by
 have:=zbC zwu p.Rules
 unfold tokP szP blk
 simp only [yB,yC,yF]
 omega
theorem zx2 (l:List Int):(jn effT 0 l).length≤2*l.length:=by
 have:=zxX (t:=effT) (m:=fun _=>2) l 0 fun j x _=>Nat.le_refl _
 rw [zvY] at this
 exact this
theorem zwW (p:zI):(tokPr p).length≤8*szPr p:=by
 have:=zvU p.Code
 have:=zx2 p.Effects
 unfold tokPr szPr blk
 simp only [yB,yC,yF]
 omega
theorem zxq (x:zG):(zvP x).length≤8*szSrc x:=by
 have:=zbC zwH x.Policies
 have:=zbC zwW x.Programs
 unfold zvP szSrc
 simp only [yB]
 omega
theorem idxEf {k:Int} (h1:1≤k) (h2:k≤6) {β:Type} (f:List UInt8→Option β):idx z7I (IntKind.i64.wrap (k - 1)) f=f (wordE k):=by
 obtain ⟨m,rfl⟩ : ∃ m:Nat,k=(m:Int)+1:=⟨(k - 1).toNat,by omega⟩
 have hm:m<6:=by omega
 have e:IntKind.i64.wrap ((m:Int)+1 - 1)=(m:Int):=by
  rw [show ((m:Int)+1 - 1)=((m:Nat):Int) by omega]
  exact Go.Abs.zb6 (by omega) (by omega)
 have e2:((m:Int)+1 - 1).toNat=m:=by omega
 rw [e,z5t (l:=z7I) (show m<z7I.length from hm)]
 unfold wordE
 rw [e2,List.getElem?_eq_getElem (show m<z7I.length from hm)]
 rfl
theorem wrules (n:Nat) (p:zL) (w:List Lx) (h:szP p+10<n) (h' : szP p≤100000000) (hw:w.length+8*szL szR p.Rules≤1900000000) {R:Type}:iter (z8d n p) n (0,w)=some (if p.Rules.all formR then .go (w++p.Rules.flatMap tokR1) else .stop (.stop (.stop (.pan 3)))):=by
 unfold szP at h h'
 have hlen:=zce zpe p.Rules
 have key:=zw5 (step:=z8d n p) (l:=p.Rules) (p:=formR) (t:=fun _=>tokR1) (m:=fun r=>8*szR r) (fin:=fun w=>.go w) (pan:=.stop (.stop (.stop (.pan 3)))) 1900000000 (fun _ x _=>zwu x) (fun i hi w' hw'=>by
  have hm:szR p.Rules[i]≤szL szR p.Rules:=z9H (List.getElem_mem hi)
  have hs:szR p.Rules[i]=1+szCs p.Rules[i].Clauses:=rfl
  unfold z8d
  simp only [yW,hi,yQ,yK,z5t hi]
  rw [zf6 _ _ (show 1<n by omega) (by omega)]
  simp only [ob]
  rw [zlr _ _ _ (by simp; omega)]
  simp only [ob]
  have h1:=wclauses n p.Rules[i].Clauses false (by omega) (by omega) (w'++[tW [114,117,108,101]]++[tN p.Rules[i].Name]) (by simp; omega)
  rw [show z4h n ⟨w'++[tW [114,117,108,101]]++[(⟨1,0,p.Rules[i].Name⟩ : Lx)]⟩ p.Rules[i].Clauses false=_ from h1]
  unfold formR tokR1
  rcases yG (zvT false p.Rules[i].Clauses) with hf | hf
  ·rw [hf,zvM rfl]; simp only [yS,zc1 (j:=i) (by omega),yA,yE,yD]
  ·rw [hf]; rfl) (fun w'=>by
  unfold z8d
  simp only [Int.lt_irrefl,yP,yJ]) n 0 w (yX _) (by omega) (by rw [List.drop_zero,zxl]; omega)
 have key' : iter (z8d n p) n (0,w)=_:=key
 rw [key',List.drop_zero,zwL]
theorem wpolicies (n:Nat) (x:zG) (w:List Lx) (h:szSrc x+10<n) (h' : szSrc x≤100000000) (hw:w.length+8*szL szP x.Policies≤1800000000):iter (z8c n x) n (0,w)=some (if x.Policies.all formP then .go (w++x.Policies.flatMap tokP) else .stop (.pan 3)):=by
 unfold szSrc at h h'
 have hlen:=zce znf x.Policies
 have key:=zw5 (step:=z8c n x) (l:=x.Policies) (p:=formP) (t:=fun _=>tokP) (m:=fun r=>8*szP r) (fin:=fun w=>.go w) (pan:=.stop (.pan 3)) 1800000000 (fun _ x _=>zwH x) (fun i hi w' hw'=>by
  have hm:szP x.Policies[i]≤szL szP x.Policies:=z9H (List.getElem_mem hi)
  have hs:szP x.Policies[i]=1+szL szR x.Policies[i].Rules:=rfl
  have hr:=zbC zwu x.Policies[i].Rules
  unfold z8c
  simp only [yW,hi,yQ,yK,z5t hi]
  rw [zf6 _ _ (show 1<n by omega) (by omega)]
  simp only [ob]
  rw [zlr _ _ _ (by simp; omega)]
  simp only [ob]
  rw [zbX _ _ (show 1<n by omega) (by simp; omega)]
  simp only [ob]
  rw [wrules n x.Policies[i] _ (by omega) (by omega) (by simp; omega) (R:=Unit)]
  unfold formP tokP
  rcases yG (x.Policies[i].Rules.all formR) with hf | hf
  rotate_left
  ·rw [hf]; rfl
  ·rw [hf]
   simp only [yS,bJ]
   rw [zbX _ _ (show 1<n by omega) (by simp only [yB,yC,yF]; omega)]
   unfold blk tN
   simp only [ob,zc1 (j:=i) (by omega),yA,yE,yD]) (fun w'=>by
  unfold z8c
  simp only [Int.lt_irrefl,yP,yJ]) n 0 w (yX _) (by omega) (by rw [List.drop_zero,zxl]; omega)
 have key' : iter (z8c n x) n (0,w)=_:=key
 rw [key',List.drop_zero,zwL]
theorem weffects (n:Nat) (p:zI) (w:List Lx) (h:szPr p+10<n) (h' : szPr p≤100000000) (hw:w.length+2*p.Effects.length≤1900000000):iter (z8f n p) n (0,w)=some (if p.Effects.all zvW then .go (w++jn effT 0 p.Effects) else .stop (.stop (.pan 3))):=by
 unfold szPr at h h'
 have key:=zw5 (step:=z8f n p) (l:=p.Effects) (p:=zvW) (t:=effT) (m:=fun _=>2) (fin:=fun w=>.go w) (pan:=.stop (.stop (.pan 3))) 1900000000 (fun _ x _=>Nat.le_refl _) (fun i hi w' hw'=>by
  unfold z8f
  simp only [yW,hi,yQ,yK,z5t hi,znU]
  rw [show (decide (1≤p.Effects[i]) && decide (p.Effects[i]≤6))=zvW p.Effects[i] from rfl]
  rcases yG (zvW p.Effects[i]) with hf | hf
  rotate_left
  ·rw [hf]; rfl
  rw [hf]
  simp only [yS,ob,pbr]
  have hk:1≤p.Effects[i]∧p.Effects[i]≤6:=by
   unfold zvW at hf
   simpa [Bool.and_eq_true] using hf
  have et:∀ {β:Type} (f:List (List UInt8)→Option β),obind z6O f=f z7I:=fun f=>rfl
  have ei:decide ((i:Int)=0)=decide (i=0):=by rw [decide_eq_decide]; omega
  rw [ei]
  unfold effT
  by_cases h0:i=0
  ·rw [yM h0,yK,zf6 _ _ (show 1<n by omega) (by omega),if_pos h0]
   simp only [ob,bJ,et,idxEf hk.1 hk.2]
   rw [zf6 _ _ (show 1<n by omega) (by simp; omega)]
   simp only [ob,zc1 (j:=i) (by omega),yA,yE,yD]
  ·rw [yL h0,yJ,zbX _ _ (show 1<n by omega) (by omega),if_neg h0]
   simp only [ob,bJ,et,idxEf hk.1 hk.2]
   rw [zf6 _ _ (show 1<n by omega) (by simp; omega)]
   simp only [ob,zc1 (j:=i) (by omega),yA,yE,yD]) (fun w'=>by
  unfold z8f
  simp only [Int.lt_irrefl,yP,yJ]) n 0 w (yX _) (by omega) (by rw [List.drop_zero,zvY]; omega)
 have key' : iter (z8f n p) n (0,w)=_:=key
 rw [key',List.drop_zero]
theorem wprograms (n:Nat) (x:zG) (w:List Lx) (h:szSrc x+10<n) (h' : szSrc x≤100000000) (hw:w.length+8*szL szPr x.Programs≤1800000000):iter (z8e n x) n (0,w)=some (wOut (x.Programs.all zw8) (w++x.Programs.flatMap tokPr)):=by
 unfold szSrc at h h'
 have hlen:=zce zkd x.Programs
 have key:=zw5 (step:=z8e n x) (l:=x.Programs) (p:=zw8) (t:=fun _=>tokPr) (m:=fun r=>8*szPr r) (fin:=fun w=>Pn.ret ⟨w⟩) (pan:=.pan 3) 1800000000 (fun _ x _=>zwW x) (fun i hi w' hw'=>by
  have hm:szPr x.Programs[i]≤szL szPr x.Programs:=z9H (List.getElem_mem hi)
  have hs:szPr x.Programs[i]=1+x.Programs[i].Effects.length+szSs x.Programs[i].Code:=rfl
  have he:=zx2 x.Programs[i].Effects
  unfold z8e
  simp only [yW,hi,yQ,yK,z5t hi]
  rw [zf6 _ _ (show 1<n by omega) (by omega)]
  simp only [ob]
  rw [zlr _ _ _ (by simp; omega)]
  simp only [ob]
  rw [weffects n x.Programs[i] _ (by omega) (by omega) (by simp; omega)]
  unfold zw8 tokPr
  rcases yG (x.Programs[i].Effects.all zvW) with hf | hf
  rotate_left
  ·rw [hf]; rfl
  rw [hf]
  simp only [yS,bJ,Bool.true_and]
  rw [wblock n x.Programs[i].Code (by omega) (by omega) _ (by simp; omega)]
  rcases yG (zvK x.Programs[i].Code) with hc | hc
  ·rw [hc,zvM rfl]
   unfold tN
   simp only [yS,zc1 (j:=i) (by omega),yA,yE,yD]
  ·rw [hc]; rfl) (fun w'=>by
  unfold z8e
  simp only [Int.lt_irrefl,yP,yJ]) n 0 w (yX _) (by omega) (by rw [List.drop_zero,zxl]; omega)
 have key' : iter (z8e n x) n (0,w)=_:=key
 rw [key',List.drop_zero,zwL]
 rfl
theorem wsource (n:Nat) (x:zG) (h:szSrc x+10<n) (h' : szSrc x≤100000000):z5Q n ⟨[]⟩ x=some (wOut (zvR x) (zvP x)):=by
 have hs:szSrc x=szL szP x.Policies+szL szPr x.Programs:=rfl
 have hp:=zbC zwH x.Policies
 unfold z5Q
 have h1:=wpolicies n x [] h h' (by simp; omega)
 have h1' : iter (z8c n x) n (0,(⟨[]⟩ : Wr).l_)=_:=h1
 rw [h1']
 unfold zvR zvP
 rcases yG (x.Policies.all formP) with hf | hf
 rotate_left
 ·rw [hf]; rfl
 rw [hf]
 simp only [yS,bJ,yD,Bool.true_and]
 exact wprograms n x _ h h' (by omega)
def RdA {α β:Type} (f:α→β) (p:Ps α) (T:List Tk) (x:α) (r:List Tk):Prop:=∀ i,∃ x',p.run i (T++r) = .ok x' (i+T.length) r∧f x'=f x
theorem zxf {α β γ:Type} {f:α→β} {p:Ps α} {T:List Tk} {x:α} {r:List Tk} (h:RdA f p T x r) (k:α→Ps γ) (i:Nat):∃ x',f x'=f x∧(p.bind k).run i (T++r)=(k x').run (i+T.length) r:=by
 obtain ⟨x',e1,e2⟩:=h i
 exact ⟨x',e2,by rw [run_bind,e1]; rfl⟩
theorem zwQ {α β:Type} {f:α→β} {one:Ps α} {tok:α→List Lx} (hd:∀ x,∃ w q,tok x=tW w::q):∀ (m:List α) (k:Nat) (l l' : List α) (r:List Tk),(∀ s∈m,∀ r,RdA f one ((tok s).map tk) s r)→m.length<k→l'.map f=l.map f→
    ∀ i,∃ q,(zby one k l').run i ((m.flatMap tok).map tk++(5,[125])::r) = .ok q (i+(m.flatMap tok).length+1) r∧q.map f=(l++m).map f
  | _,0,_,_,_,_,h,_,_=>absurd h (yH _)
  | [], k + 1, l, l', r, _, _, he, i => by
    refine ⟨l',?_,by rw [List.append_nil]; exact he⟩
    unfold zby
    rw [zfu]
    rfl
  | s :: m, k + 1, l, l', r, hm, hf, he, i => by
    have hs:=hm s (List.mem_cons_self ..)
    obtain ⟨s',e1,e2⟩:=hs ((m.flatMap tok).map tk++(5,[125])::r) i
    obtain ⟨q,e3,e4⟩:=zwQ hd m k (l++[s]) (l'++[s']) r (fun z hz=>hm z (List.mem_cons_of_mem _ hz)) (by simp at hf; omega) (by simp only [List.map_append,he,yI,List.map_nil,e2]) (i+(tok s).length)
    refine ⟨q,?_,by rw [e4]; simp⟩
    unfold zby
    obtain ⟨w,q',e⟩:=hd s
    have hn:isK 5 [125] ((((s::m).flatMap tok).map tk++(5,[125])::r).head?)=false:=by
      rw [List.flatMap_cons,e]; rfl
    rw [zfu]
    simp only [sgn,hn,yN,yR]
    rw [List.flatMap_cons,List.map_append,yA,run_bind,e1]
    dsimp only [Out.andThen]
    rw [List.length_map,e3]
    congr 1
    simp only [yB]; omega
theorem zwh {α β:Type} {f:α→β} {one:Ps α} {tok:α→List Lx} (hd:∀ x,∃ w q,tok x=tW w::q) {m:List α} {N:Nat} {r:List Tk} (hm:∀ s∈m,∀ r,RdA f one ((tok s).map tk) s r) (hN:m.length<N):RdA (List.map f) (z4d one N) ((blk (m.flatMap tok)).map tk) m r:=by
 intro i
 obtain ⟨q,e1,e2⟩:=zwQ hd m N [] [] r hm hN rfl (i+1)
 refine ⟨q,?_,by rw [e2,yD]⟩
 unfold z4d
 have e:(blk (m.flatMap tok)).map tk++r=(5,[123])::((m.flatMap tok).map tk++(5,[125])::r):=by
  unfold blk
  simp only [List.map_append,yI,List.map_nil,yA,yE,yD]; rfl
 rw [e,run_bind]
 show Out.andThen (.ok () (i+1) _) _=_
 dsimp only [Out.andThen]
 rw [e1]
 congr 1
 unfold blk
 simp only [List.length_map,yB,yC,yF]; omega
theorem zvX {α:Type} (k:Int) (s:List UInt8) (K:List UInt8→Ps α) (i:Nat) (r:List Tk):((takeP k).bind K).run i ((k,s)::r)=(K s).run (i+1) r:=by
 rw [run_bind]
 unfold takeP
 rw [zfu]
 show ((if k=k then _ else _:Ps (List UInt8)).run i _).andThen _=_
 rw [if_pos rfl]
 rfl
theorem zxZ (k:Int):∀ (l:List (List UInt8)) (j:Nat),jn (oneT k) (j+1) l=l.flatMap fun y=>[tG [44],⟨k,0,y⟩]
 | [],_=>rfl
 | x::r,j=>by rw [jn,zxZ k r,List.flatMap_cons]; rfl
theorem zxe {k:Int}:∀ (m:List (List UInt8)) (f:Nat) (l:List (List UInt8)) (r:List Tk),m.length<f→sgn [44] r.head? = false→
    ∀ i,(listP (takeP k) f l).run i ((m.flatMap fun y=>([tG [44],⟨k,0,y⟩]:List Lx)).map tk++r) = .ok (l++m) (i+2*m.length) r
  | _,0,_,_,h,_,_=>absurd h (yH _)
  | [], f + 1, l, r, _, h0, i => by
    unfold listP
    rw [zfu]
    show (if sgn [44] r.head? = true then _ else _:Ps _).run i r=_
    rw [h0,List.append_nil]
    rfl
  | y :: m, f + 1, l, r, hf, h0, i => by
    unfold listP
    rw [zfu]
    show (Ps.skip _).run i ((5,[44])::(k,y)::((m.flatMap fun y=>([tG [44],⟨k,0,y⟩]:List Lx)).map tk++r))=_
    rw [Ps.run_skip,zvX,zxe m f (l++[y]) r (by simp at hf; omega) h0]
    simp only [yA,yE,yD,yC]
    congr 1; omega
theorem zy8 (k:Int) (x:List UInt8) (m:List (List UInt8)) (r:List Tk):(comT k (x::m)).map tk++r=(k,x)::((m.flatMap fun y=>([tG [44],⟨k,0,y⟩]:List Lx)).map tk++r):=by
 unfold comT
 rw [jn,zxZ]
 rfl
theorem zwY (k:Int) (x:List UInt8) (m:List (List UInt8)):(comT k (x::m)).length=1+2*m.length:=by
 unfold comT
 rw [jn,zxZ,yB,List.length_flatMap]
 show 1+_=_
 congr 1
 show (m.map fun _=>2).sum=_
 rw [zvY]
theorem zwo {α:Type} (k:Int) {l:List (List UInt8)} (hl:0<l.length) {N:Nat} (hN:l.length≤N) {r:List Tk} (h0:sgn [44] r.head? = false) (K:List (List UInt8)→Ps α) (i:Nat):((zdT k N).bind K).run i ((comT k l).map tk++r)=(K l).run (i+(comT k l).length) r:=by
  cases l with
  | nil=>exact absurd hl (Nat.lt_irrefl _)
  | cons x m =>
    unfold zdT
    rw [z7j,zy8,zvX,run_bind,zxe m N [x] r (by simp at hN; omega) h0,zwY]
    show (K _).run _ r=_
    rw [yE,yD]
    congr 1; omega
theorem zx0 {k:Int} {inner:Bool} (h:inC inner k=true):z9B inner (some (2,wordC k))=k:=by
 have hk:1≤k∧k≤17:=by
  unfold inC at h
  simp only [Bool.and_eq_true,decide_eq_true_eq] at h
  exact h.1
 have all:∀ m:Fin 17,∀ b:Bool,inC b ((m.val:Int)+1)=true→z9B b (some (2,wordC ((m.val:Int)+1)))=(m.val:Int)+1:=by decide +kernel
 have:=all ⟨(k - 1).toNat,by omega⟩ inner
 have e:(((k - 1).toNat:Nat):Int)+1=k:=by omega
 dsimp only at this
 rw [e] at this
 exact this h
theorem zvQ {n:List UInt8} {a b:Nat} {u v d:List UInt8} {hd:Bool} (h:restC n a b u v d hd=true):n=[]∧a=0∧b=0∧u=[]∧v=[]∧d=[]∧hd=false:=by
 unfold restC at h
 simp only [Bool.and_eq_true,decide_eq_true_eq,Bool.not_eq_true'] at h
 obtain ⟨⟨⟨⟨h1,h2⟩,h3,h4⟩,h5⟩,h6⟩:=h
 exact ⟨h1,by omega,by omega,h3,h4,h5,h6⟩
theorem zwV (c:Cl):∃ w q,tokC c=tW w::q:=by
 obtain ⟨k,a,n,t,am,d,h,cs⟩:=c
 rw [tokC]
 exact ⟨_,_,rfl⟩
theorem zvZ (c:Cl) (i:Nat) (r:List Tk):(semi c).run i ((5,[59])::r) = .ok c (i+1) r:=rfl
theorem zwO {N:Nat} {inner:Bool} {conds:Ps (List Cl)} (c:Cl) (hN:szC c≤N) (hf:formC inner c=true) (hC:inner=false→∀ l:List Cl,zvT true l=true→szCs l<szC c→∀ r,RdA (List.map (atC z0)) conds ((blk (tokCs l)).map tk) l r) (r:List Tk) :
    RdA (atC z0) (zb7 N inner conds) ((tokC c).map tk) c r:=by
  obtain ⟨k,a,nm,t,⟨u,v,ua⟩,d,hd,cs⟩:=c
  intro i
  rw [formC,Bool.and_eq_true] at hf
  obtain ⟨hi,hf⟩:=hf
  rw [szC] at hN hC
  have hK:=zx0 hi
  have hk0:k≠0:=by
    unfold inC at hi
    simp only [Bool.and_eq_true,decide_eq_true_eq] at hi
    omega
  rw [tokC]
  have e0:([tW (wordC k)]++bodyC k nm t u v d hd (tokCs cs)++endC k).map tk++r=(2,wordC k)::((bodyC k nm t u v d hd (tokCs cs)).map tk++((endC k).map tk++r)):=by
    simp only [List.map_append,yI,List.map_nil,yA,yE,yD]; rfl
  have el:(([tW (wordC k)]++bodyC k nm t u v d hd (tokCs cs)++endC k).map tk).length=1+(bodyC k nm t u v d hd (tokCs cs)).length+(endC k).length:=by simp only [List.length_map,yB,yC,yF]
  dsimp only
  rw [e0,el]
  unfold zb7
  rw [zfu]
  simp only [List.head?_cons,hK,hk0,yR,Ps.run_skip]
  dsimp only at hf
  have hcom:∀ r,sgn [44] (((5,[59]):Tk)::r).head? = false:=fun r=>rfl
  unfold bodyC
  unfold loC at hf
  by_cases k1:k=1
  · rw [if_pos k1,Bool.and_eq_true,decide_eq_true_eq] at hf
    obtain ⟨ht,hf⟩:=hf
    obtain ⟨rfl,_,hc,rfl,rfl,rfl,rfl⟩:=zvQ hf
    obtain rfl:=List.length_eq_zero_iff.1 hc
    rw [if_pos k1,if_pos k1]
    unfold endC
    rw [if_neg (show ¬ k=9 by omega)]
    match t,ht with
    | [s], _ =>
      refine ⟨⟨k,i,[],[s],⟨[],[],-1⟩,[],false,[]⟩,(zvX 4 s _ (i+1) _).trans ((zvZ _ _ _).trans ?_),?_⟩
      rotate_left
      · rw [atC,atC]; rfl
      · rfl
  rw [if_neg k1] at hf
  rw [if_neg k1,if_neg k1]
  by_cases k2:k=2∨k=14∨k=15
  · rw [if_pos (.inl k2),Bool.and_eq_true,decide_eq_true_eq] at hf
    obtain ⟨ht,hf⟩:=hf
    obtain ⟨rfl,_,hc,rfl,rfl,rfl,rfl⟩:=zvQ hf
    obtain rfl:=List.length_eq_zero_iff.1 hc
    rw [if_pos k2,if_pos k2]
    unfold endC
    rw [if_neg (show ¬ k=9 by omega)]
    refine ⟨⟨k,i,[],t,⟨[],[],-1⟩,[],false,[]⟩,(zwo 4 ht (by omega) (hcom r) _ (i+1)).trans ((zvZ _ _ _).trans ?_),?_⟩
    rotate_left
    · rw [atC,atC]; rfl
    · show Out.ok _ _ _=Out.ok _ _ _
      congr 1; simp only [yC,yF]; omega
  rw [if_neg k2,if_neg k2]
  by_cases k16:k=16
  · rw [if_pos (.inr k16),Bool.and_eq_true,decide_eq_true_eq] at hf
    obtain ⟨ht,hf⟩:=hf
    obtain ⟨rfl,_,hc,rfl,rfl,rfl,rfl⟩:=zvQ hf
    obtain rfl:=List.length_eq_zero_iff.1 hc
    rw [if_pos k16,if_pos k16]
    unfold endC
    rw [if_neg (show ¬ k=9 by omega)]
    refine ⟨⟨k,i,[],t,⟨[],[],-1⟩,[],false,[]⟩,(zwo 3 ht (by omega) (hcom r) _ (i+1)).trans ((zvZ _ _ _).trans ?_),?_⟩
    rotate_left
    · rw [atC,atC]; rfl
    · show Out.ok _ _ _=Out.ok _ _ _
      congr 1; simp only [yC,yF]; omega
  rw [if_neg (show ¬((k=2∨k=14∨k=15)∨k=16) from fun h=>h.elim k2 k16)] at hf
  rw [if_neg k16,if_neg k16]
  by_cases k8:k=8
  · rw [if_pos k8,Bool.and_eq_true,decide_eq_true_eq] at hf
    obtain ⟨ht,hf⟩:=hf
    obtain ⟨_,_,hc,rfl,rfl,hd0,_⟩:=zvQ hf
    obtain rfl:=List.length_eq_zero_iff.1 hc
    rw [if_pos k8,if_pos k8]
    unfold endC
    rw [if_neg (show ¬ k=9 by omega)]
    cases hd with
    | true =>
      have e1:([tQ nm,tW [105,110]]++comT 4 t++(if true=true then [tW [100,101,102,97,117,108,116],tQ d] else [])).map tk++([tG [59]].map tk++r)=(4,nm)::(2,[105,110])::((comT 4 t).map tk++((2,[100,101,102,97,117,108,116])::(4,d)::(5,[59])::r)):=by
        rw [if_pos rfl]
        simp only [List.map_append,yI,List.map_nil,yA,yE,yD]; rfl
      have e2:([tQ nm,tW [105,110]]++comT 4 t++(if true=true then [tW [100,101,102,97,117,108,116],tQ d] else [])).length=(comT 4 t).length+4:=by
        rw [if_pos rfl]
        simp only [yB,yC,yF]; omega
      rw [e1,e2]
      refine ⟨⟨k,i,nm,t,⟨[],[],-1⟩,d,true,[]⟩,(zvX 4 nm _ (i+1) _).trans ((show _=_ from rfl:_=_).trans ((zwo 4 ht (by omega) (show sgn [44] (((2,[100,101,102,97,117,108,116]):Tk)::_).head? = false from rfl) _ (i+1+1+1)).trans ((zvX 4 d _ _ _).trans ((zvZ _ _ _).trans ?_)))),?_⟩
      rotate_left
      · rw [atC,atC]; rfl
      · show Out.ok _ _ _=Out.ok _ _ _
        congr 1; simp only [yC,yF]; omega
    | false =>
      obtain rfl:d=[]:=hd0
      have e1:([tQ nm,tW [105,110]]++comT 4 t++(if false=true then [tW [100,101,102,97,117,108,116],tQ []] else [])).map tk++([tG [59]].map tk++r)=(4,nm)::(2,[105,110])::((comT 4 t).map tk++((5,[59])::r)):=by
        rw [if_neg (by decide)]
        simp only [List.map_append,yI,List.map_nil,yA,yE,yD]; rfl
      have e2:([tQ nm,tW [105,110]]++comT 4 t++(if false=true then [tW [100,101,102,97,117,108,116],tQ []] else [])).length=(comT 4 t).length+2:=by
        rw [if_neg (by decide)]
        simp only [yB,yC,yF]; omega
      rw [e1,e2]
      refine ⟨⟨k,i,nm,t,⟨[],[],-1⟩,[],false,[]⟩,(zvX 4 nm _ (i+1) _).trans ((show _=_ from rfl:_=_).trans ((zwo 4 ht (by omega) (hcom r) _ (i+1+1+1)).trans ((zvZ _ _ _).trans ?_))),?_⟩
      rotate_left
      · rw [atC,atC]; rfl
      · show Out.ok _ _ _=Out.ok _ _ _
        congr 1; simp only [yC,yF]; omega
  rw [if_neg k8] at hf
  rw [if_neg k8,if_neg k8]
  by_cases k11:k=11
  · rw [if_pos k11] at hf
    obtain ⟨_,ht,hc,rfl,rfl,rfl,rfl⟩:=zvQ hf
    obtain rfl:=List.length_eq_zero_iff.1 hc
    obtain rfl:=List.length_eq_zero_iff.1 ht
    rw [if_pos k11,if_pos k11]
    unfold endC
    rw [if_neg (show ¬ k=9 by omega)]
    refine ⟨⟨k,i,nm,[],⟨[],[],-1⟩,[],false,[]⟩,(zvX 1 nm _ (i+1) _).trans ((zvZ _ _ _).trans ?_),?_⟩
    rotate_left
    · rw [atC,atC]; rfl
    · rfl
  rw [if_neg k11] at hf
  rw [if_neg k11,if_neg k11]
  by_cases k9:k=9
  · rw [if_pos k9,Bool.and_eq_true] at hf
    obtain ⟨hcs,hf⟩:=hf
    obtain ⟨rfl,ht,_,rfl,rfl,rfl,rfl⟩:=zvQ hf
    obtain rfl:=List.length_eq_zero_iff.1 ht
    rw [if_pos k9,if_pos k9]
    unfold endC
    rw [if_pos k9]
    subst k9
    have hin:inner=false:=by revert hi; cases inner <;> decide
    obtain ⟨l',q1,q2⟩:=zxf (hC hin cs hcs (by omega) r) (fun l=>Ps.ret (⟨9,(i:Int),[],[],⟨[],[],-1⟩,[],false,l⟩ : Cl)) (i+1)
    refine ⟨⟨9,i,[],[],⟨[],[],-1⟩,[],false,l'⟩,q2.trans ?_,?_⟩
    rotate_left
    · rw [atC,atC,zdS,q1,zdS]; rfl
    · show Out.ok _ _ _=Out.ok _ _ _
      congr 1; simp only [List.length_map,yF]; omega
  rw [if_neg k9] at hf
  rw [if_neg k9,if_neg k9]
  unfold endC
  rw [if_neg k9]
  by_cases k10:k=10
  · rw [if_pos k10] at hf
    obtain ⟨rfl,ht,hc,rfl,rfl,rfl,rfl⟩:=zvQ hf
    obtain rfl:=List.length_eq_zero_iff.1 hc
    obtain rfl:=List.length_eq_zero_iff.1 ht
    rw [if_pos k10,if_pos k10]
    refine ⟨⟨k,i,[],[],⟨[],[],-1⟩,[],false,[]⟩,(zvZ _ _ _).trans ?_,?_⟩
    rotate_left
    · rw [atC,atC]; rfl
    · rfl
  rw [if_neg k10,Bool.and_eq_true] at hf
  obtain ⟨h17,hf⟩:=hf
  obtain ⟨rfl,ht,hc,_,_,rfl,rfl⟩:=zvQ hf
  obtain rfl:=List.length_eq_zero_iff.1 hc
  obtain rfl:=List.length_eq_zero_iff.1 ht
  rw [if_neg k10,if_neg k10]
  unfold amT
  by_cases hv:v=[]
  · subst hv
    rw [if_pos rfl]
    refine ⟨⟨k,i,[],[],⟨u,[],((i+1:Nat):Int)⟩,[],false,[]⟩,?_,by rw [atC,atC]; rfl⟩
    unfold zgg
    rw [show (Ps.look fun _ j=>(takeP 3).bind fun d=>.look fun u _=>if kindO u=1∧k≠17 then Ps.skip (.ret (⟨d,textO u,j⟩ : z1r)) else .ret ⟨d,[],j⟩).bind (fun a=>semi ⟨k,(i:Int),[],[],a,[],false,[]⟩)=Ps.look fun _ j=>((takeP 3).bind fun d=>.look fun u _=>if kindO u=1∧k≠17 then Ps.skip (.ret (⟨d,textO u,j⟩ : z1r)) else .ret ⟨d,[],j⟩).bind (fun a=>semi ⟨k,(i:Int),[],[],a,[],false,[]⟩) from rfl,zfu,z7j]
    rfl
  · rw [if_neg hv]
    have k17:k≠17:=by
      rw [yL hv,Bool.false_or,decide_eq_true_eq] at h17
      exact h17
    refine ⟨⟨k,i,[],[],⟨u,v,((i+1:Nat):Int)⟩,[],false,[]⟩,?_,by rw [atC,atC]; rfl⟩
    unfold zgg
    rw [show (Ps.look fun _ j=>(takeP 3).bind fun d=>.look fun u _=>if kindO u=1∧k≠17 then Ps.skip (.ret (⟨d,textO u,j⟩ : z1r)) else .ret ⟨d,[],j⟩).bind (fun a=>semi ⟨k,(i:Int),[],[],a,[],false,[]⟩)=Ps.look fun _ j=>((takeP 3).bind fun d=>.look fun u _=>if kindO u=1∧k≠17 then Ps.skip (.ret (⟨d,textO u,j⟩ : z1r)) else .ret ⟨d,[],j⟩).bind (fun a=>semi ⟨k,(i:Int),[],[],a,[],false,[]⟩) from rfl,zfu,z7j]
    refine (zvX 3 u _ (i+1) _).trans ?_
    show (((if kindO (some ((1,v):Tk))=1∧k≠17 then Ps.skip (.ret _) else _:Ps z1r)).bind _).run _ _=_
    rw [if_pos ⟨rfl,k17⟩]
    rfl
theorem zwA (l:List Cl):blk (tokCs l)=blk (l.flatMap tokC):=by rw [zwi]
theorem zy0 {N:Nat} (l:List Cl) (hf:zvT true l=true) (hN:szCs l<N) (r:List Tk):RdA (List.map (atC z0)) (zlS N) ((blk (tokCs l)).map tk) l r:=by
 rw [zwA]
 rw [zvV,List.all_eq_true] at hf
 refine zwh zwV (fun c hc r=>zwO c ?_ (hf c hc) (fun h=>absurd h (by decide)) r) (by have:=znd l; omega)
 have:szC c≤szCs l:=by rw [zjA]; exact z9H hc
 omega
theorem zxb {N:Nat} (l:List Cl) (hf:zvT false l=true) (hN:szCs l<N) (r:List Tk):RdA (List.map (atC z0)) (zaP N) ((blk (tokCs l)).map tk) l r:=by
 rw [zwA]
 rw [zvV,List.all_eq_true] at hf
 refine zwh zwV (fun c hc r=>zwO c ?_ (hf c hc) (fun _ l' h1 h2 r'=>zy0 l' h1 ?_ r') r) (by have:=znd l; omega)
 ·have:szC c≤szCs l:=by rw [zjA]; exact z9H hc
  omega
 ·have:szC c≤szCs l:=by rw [zjA]; exact z9H hc
  omega
theorem zys {N:Nat} (x:zQ) (hf:formR x=true) (hN:szR x≤N) (r:List Tk):RdA (atR z0) (ruleP N) ((tokR1 x).map tk) x r:=by
 intro i
 obtain ⟨n,a,l⟩:=x
 unfold szR at hN
 obtain ⟨l',q1,q2⟩:=zxf (zxb (N:=N) l hf (by dsimp only at hN; omega) r) (fun l=>Ps.ret (⟨n,(i:Int),l⟩ : zQ)) (i+1+1)
 refine ⟨⟨n,i,l'⟩,?_,by unfold atR; rw [zdS,q1,← zdS]; rfl⟩
 unfold tokR1
 have e:([tW [114,117,108,101],tN n]++blk (tokCs l)).map tk++r=(2,[114,117,108,101])::(1,n)::((blk (tokCs l)).map tk++r):=by
  simp only [List.map_append,yI,List.map_nil,yA,yE,yD]; rfl
 dsimp only
 rw [e]
 refine Eq.trans (show _=_ from rfl) (q2.trans ?_)
 show Out.ok _ _ _=Out.ok _ _ _
 congr 1; simp only [List.length_map,yB,yC,yF]; omega
theorem zxo (x:zQ):∃ w q,tokR1 x=tW w::q:=⟨_,_,rfl⟩
theorem zy2 {N:Nat} (l:List zQ) (hf:l.all formR=true) (hN:szL szR l<N) (r:List Tk):RdA (List.map (atR z0)) (z4d (ruleP N) N) ((blk (l.flatMap tokR1)).map tk) l r:=by
 rw [List.all_eq_true] at hf
 refine zwh zxo (fun x hx r=>zys x (hf x hx) ?_ r) (by have:=zce zpe l; omega)
 have:szR x≤szL szR l:=z9H hx
 omega
theorem zwj {e:Int} (h:zvW e=true) (i:Nat) (r:List Tk):z62.run i ((2,wordE e)::r) = .ok e (i+1) r:=by
 have hk:1≤e∧e≤6:=by
  unfold zvW at h
  simpa [Bool.and_eq_true] using h
 have all:∀ m:Fin 6,wordE ((m.val:Int)+1)∈z7I∧(z7I.idxOf (wordE ((m.val:Int)+1)):Int)+1=(m.val:Int)+1:=by decide +kernel
 have:=all ⟨(e - 1).toNat,by omega⟩
 have e' : (((e - 1).toNat:Nat):Int)+1=e:=by omega
 dsimp only at this
 rw [e'] at this
 unfold z62
 rw [zfu]
 show (if (2:Int)=2∧wordE e∈z7I then Ps.skip (.ret ((z7I.idxOf (wordE e):Int)+1)) else .bad:Ps Int).run i _=_
 rw [if_pos ⟨rfl,this.1⟩,this.2]
 rfl
theorem zyg:∀ (l:List Int) (j:Nat),jn effT (j+1) l=l.flatMap fun y=>[tG [44],tW (wordE y)]
 | [],_=>rfl
 | x::r,j=>by rw [jn,zyg r,List.flatMap_cons]; rfl
theorem zxF:∀ (m:List Int) (f:Nat) (l:List Int) (r:List Tk),m.all zvW=true→m.length<f→sgn [44] r.head? = false→
    ∀ i,(listP z62 f l).run i ((m.flatMap fun y=>([tG [44],tW (wordE y)]:List Lx)).map tk++r) = .ok (l++m) (i+2*m.length) r
  | _,0,_,_,_,h,_,_=>absurd h (yH _)
  | [], f + 1, l, r, _, _, h0, i => by
    unfold listP
    rw [zfu]
    show (if sgn [44] r.head? = true then _ else _:Ps _).run i r=_
    rw [h0,List.append_nil]
    rfl
  | y :: m, f + 1, l, r, ha, hf, h0, i => by
    rw [List.all_cons,Bool.and_eq_true] at ha
    unfold listP
    rw [zfu]
    show (Ps.skip _).run i ((5,[44])::(2,wordE y)::((m.flatMap fun y=>([tG [44],tW (wordE y)]:List Lx)).map tk++r))=_
    rw [Ps.run_skip,run_bind,zwj ha.1]
    dsimp only [Out.andThen]
    rw [zxF m f (l++[y]) r ha.2 (by simp at hf; omega) h0]
    simp only [yA,yE,yD,yC]
    congr 1; omega
theorem zxc {α:Type} {l:List Int} (hf:l.all zvW=true) {N:Nat} (hN:l.length≤N) {r:List Tk} (h0:sgn [44] r.head? = false) (h1:wrd [101,102,102,101,99,116,115] r.head? = false) (K:List Int→Ps α) (i:Nat) :
    (Ps.look fun u _=>(if wrd [101,102,102,101,99,116,115] u then Ps.skip (z62.bind fun e=>listP z62 N [e]) else Ps.ret []).bind K).run i ((jn effT 0 l).map tk++r)=(K l).run (i+(jn effT 0 l).length) r:=by
  rw [zfu]
  cases l with
  | nil =>
    show ((if wrd [101,102,102,101,99,116,115] r.head? = true then _ else _:Ps _).bind K).run i r=_
    rw [h1]
    rfl
  | cons x m =>
    rw [List.all_cons,Bool.and_eq_true] at hf
    rw [jn,zyg]
    have hl:(effT 0 x++m.flatMap fun y=>[tG [44],tW (wordE y)]).length=2+2*m.length:=by
      rw [yB,List.length_flatMap]
      show 2+(m.map fun _=>2).sum=_
      rw [zvY]
    rw [hl]
    show ((Ps.skip _).bind K).run i ((2,[101,102,102,101,99,116,115])::(2,wordE x)::((m.flatMap fun y=>([tG [44],tW (wordE y)]:List Lx)).map tk++r))=_
    rw [run_bind,Ps.run_skip,run_bind,zwj hf.1]
    dsimp only [Out.andThen]
    rw [zxF m N [x] r hf.2 (by simp at hN; omega) h0]
    show (K _).run _ r=_
    rw [yE,yD]
    congr 1; omega
theorem zyq {N:Nat} (l:List St) (hf:zvK l=true) (hN:szSs l+8≤N) (r:List Tk):RdB (z4d (stmtP (exprP N N) N N) N) ((blk (tokSs l)).map tk) l r:=by
 rw [zvS,List.all_eq_true] at hf
 refine zwN (fun s hs r hr=>zxJ (szSs l) s ?_ (hf s hs) N N (by omega) hN r hr) (by have:=zng l; omega)
 rw [zd9]; exact z9H hs
theorem zwl {N:Nat}:∀ (m:List zI) (f:Nat) (x x' : zG),m.all zw8=true→szL szPr m+8≤N→m.length<f→atSrc z0 x'=atSrc z0 x→
    ∀ i,∃ q,(zaK N f x').run i ((m.flatMap tokPr).map tk) = .ok q (i+(m.flatMap tokPr).length) []∧atSrc z0 q=atSrc z0 ⟨x.Policies,x.Programs++m⟩
  | _,0,_,_,_,_,h,_,_=>absurd h (yH _)
  | [],f+1,x,x',_,_,_,he,i=>⟨x',rfl,by rw [List.append_nil]; exact he⟩
  | p :: m, f + 1, x, x', ha, hN, hf, he, i => by
    obtain ⟨n,a,es,c⟩:=p
    rw [List.all_cons,Bool.and_eq_true] at ha
    obtain ⟨hp,ha⟩:=ha
    unfold zw8 at hp
    rw [Bool.and_eq_true] at hp
    rw [szL] at hN
    have hz:szPr ⟨n,a,es,c⟩=1+es.length+szSs c:=rfl
    have e:(((⟨n,a,es,c⟩ : zI)::m).flatMap tokPr).map tk=(2,[112,114,111,103,114,97,109])::(1,n)::((jn effT 0 es).map tk++((blk (tokSs c)).map tk++(m.flatMap tokPr).map tk)):=by
      rw [List.flatMap_cons]
      unfold tokPr
      simp only [List.map_append,yI,List.map_nil,yA,yE,yD]; rfl
    have el:(((⟨n,a,es,c⟩ : zI)::m).flatMap tokPr).length=2+(jn effT 0 es).length+(blk (tokSs c)).length+(m.flatMap tokPr).length:=by
      rw [List.flatMap_cons]
      unfold tokPr
      simp only [yB,yC,yF]
    rw [e,el]
    obtain ⟨c',q1,q2⟩:=zxg (β:=zG) (zyq (N:=N) c hp.2 (by omega) ((m.flatMap tokPr).map tk)) (fun c=>zaK N f ⟨x'.Policies,x'.Programs++[⟨n,i,es,c⟩]⟩) (i+1+1+(jn effT 0 es).length)
    have he' : atSrc z0 ⟨x'.Policies,x'.Programs++[⟨n,i,es,c'⟩]⟩=atSrc z0 ⟨x.Policies,x.Programs++[⟨n,a,es,c⟩]⟩:=by
      unfold atSrc at he ⊢
      rw [zG.mk.injEq] at he
      dsimp only at he ⊢
      rw [List.map_append,List.map_append,he.1,he.2]
      unfold atPr
      simp only [yI,List.map_nil,z6Z,q1]
      rfl
    obtain ⟨q,q3,q4⟩:=zwl (N:=N) m f ⟨x.Policies,x.Programs++[⟨n,a,es,c⟩]⟩ ⟨x'.Policies,x'.Programs++[⟨n,i,es,c'⟩]⟩ ha (by omega) (by rw [yC] at hf; omega) he' (i+1+1+(jn effT 0 es).length+((blk (tokSs c)).map tk).length)
    refine ⟨q,?_,by rw [q4]; simp⟩
    have s1:=zxc (α:=zG) (l:=es) hp.1 (N:=N) (by omega) (r:=(blk (tokSs c)).map tk++(m.flatMap tokPr).map tk) rfl rfl (fun es=>(z4d (stmtP (exprP N N) N N) N).bind fun c=>zaK N f ⟨x'.Policies,x'.Programs++[⟨n,i,es,c⟩]⟩) (i+1+1)
    refine Eq.trans ?_ (s1.trans (q2.trans (q3.trans ?_)))
    · rfl
    congr 1
    simp only [List.length_map]; omega
theorem zwP {N:Nat} (b:List zI) (hb:b.all zw8=true) (hbN:szL szPr b+8≤N):∀ (m:List zL) (f:Nat) (x x' : zG),m.all formP=true→szL szP m≤N→m.length+b.length<f→atSrc z0 x'=atSrc z0 x→
    ∀ i,∃ q,(zaK N f x').run i ((m.flatMap tokP++b.flatMap tokPr).map tk) = .ok q (i+(m.flatMap tokP++b.flatMap tokPr).length) []∧atSrc z0 q=atSrc z0 ⟨x.Policies++m,x.Programs++b⟩
  | _,0,_,_,_,_,h,_,_=>absurd h (yH _)
  | [], f + 1, x, x', _, _, hf, he, i => by
    obtain ⟨q,h1,h2⟩:=zwl (N:=N) b (f+1) x x' hb hbN (by simp at hf; omega) he i
    refine ⟨q,?_,by rw [h2,List.append_nil]⟩
    exact h1
  | p :: m, f + 1, x, x', ha, hN, hf, he, i => by
    obtain ⟨n,a,l⟩:=p
    rw [List.all_cons,Bool.and_eq_true] at ha
    obtain ⟨hp,ha⟩:=ha
    rw [szL] at hN
    have hz:szP ⟨n,a,l⟩=1+szL szR l:=rfl
    have e:(((⟨n,a,l⟩ : zL)::m).flatMap tokP++b.flatMap tokPr).map tk=(2,[112,111,108,105,99,121])::(1,n)::((blk (l.flatMap tokR1)).map tk++(m.flatMap tokP++b.flatMap tokPr).map tk):=by
      rw [List.flatMap_cons]
      unfold tokP
      simp only [List.map_append,yI,List.map_nil,yA,yE,yD]; rfl
    have el:(((⟨n,a,l⟩ : zL)::m).flatMap tokP++b.flatMap tokPr).length=2+(blk (l.flatMap tokR1)).length+(m.flatMap tokP++b.flatMap tokPr).length:=by
      rw [List.flatMap_cons]
      unfold tokP
      simp only [yB,yC,yF]; omega
    rw [e,el]
    obtain ⟨l',q1,q2⟩:=zxf (γ:=zG) (zy2 (N:=N) l hp (by omega) ((m.flatMap tokP++b.flatMap tokPr).map tk)) (fun l=>zaK N f ⟨x'.Policies++[⟨n,i,l⟩],x'.Programs⟩) (i+1+1)
    have he' : atSrc z0 ⟨x'.Policies++[⟨n,i,l'⟩],x'.Programs⟩=atSrc z0 ⟨x.Policies++[⟨n,a,l⟩],x.Programs⟩:=by
      unfold atSrc at he ⊢
      rw [zG.mk.injEq] at he
      dsimp only at he ⊢
      rw [List.map_append,List.map_append,he.1,he.2]
      unfold atP
      simp only [yI,List.map_nil,q1]
      rfl
    obtain ⟨q,q3,q4⟩:=zwP b hb hbN m f ⟨x.Policies++[⟨n,a,l⟩],x.Programs⟩ ⟨x'.Policies++[⟨n,i,l'⟩],x'.Programs⟩ ha (by omega) (by rw [yC] at hf; omega) he' (i+1+1+((blk (l.flatMap tokR1)).map tk).length)
    refine ⟨q,?_,by rw [q4]; simp⟩
    refine Eq.trans ?_ (q2.trans (q3.trans ?_))
    · rfl
    congr 1
    simp only [List.length_map]; omega
theorem zwB {t:Lx} (h:isT t=true):Tok kwP t.Kind t.S:=by
 unfold isT at h
 simp only [Bool.and_eq_true,decide_eq_true_eq] at h
 obtain ⟨h1,h2⟩:=h
 obtain ⟨L,hL,e⟩:=zfz h1
 obtain ⟨_,_,htok⟩:=zoK hL
 have:=zln (s:=wr t) (N:=(wr t).length) htok ⟨t.Kind,0,t.S⟩ (by rw [e] at h2; dsimp only at h2; rw [h2]; exact List.mem_singleton.2 rfl)
 exact this
theorem zxC {T:List Lx} {s:List UInt8} (h:textR T=(s,0)):s.length≤65536∧(∀ t∈T,Tok kwP t.Kind t.S)∧∃ L,tokR s=(L,⟨0,0⟩)∧L.map tk=T.map tk:=by
  unfold textR at h
  split at h
  · rename_i ht
    split at h
    · exact absurd (congrArg Prod.snd h) (show ¬((2:Int)=0) by decide)
    · have e:s=joinP (T.map wr) [32]:=(congrArg Prod.fst h).symm
      have hT:∀ t∈T,Tok kwP t.Kind t.S:=fun t q=>zwB (ht t q)
      refine ⟨by rw [e]; omega,hT,?_⟩
      subst e
      cases T with
      | nil=>exact ⟨[],rfl,rfl⟩
      | cons t l =>
        rw [zpS]
        obtain ⟨L,h1,h2⟩:=zno kwP (([],t.Kind,t.S)::l.map fun x=>([32],x.Kind,x.S)) (fun x hx=>by
          rcases List.mem_cons.1 hx with rfl | hx
          · exact ⟨zi3,hT t (List.mem_cons_self ..)⟩
          · obtain ⟨y,hy,rfl⟩:=List.mem_map.1 hx
            exact ⟨zhu,hT y (List.mem_cons_of_mem _ hy)⟩) (fun x hx=>by
          obtain ⟨y,hy,rfl⟩:=List.mem_map.1 hx
          exact zgn) _ (Nat.lt_succ_self _)
        refine ⟨_,zjD h1,?_⟩
        have h3:(L.map (mkT (catL (([],t.Kind,t.S)::l.map fun x=>([32],x.Kind,x.S))).length)).map tk=L.map fun x=>(x.1,x.2.2):=by rw [List.map_map]; rfl
        rw [h3,h2,yI,List.map_map]
        rfl
  · exact absurd (congrArg Prod.snd h) (show ¬((1:Int)=0) by decide)
theorem zx8 {x:zG} (hs:szSrc x≤12000) (hm:SmT 3000 (zvP x)) {n:Nat} (hn:1000000<n):za1 n x=some (outW (zvR x) (zvP x)):=by
  unfold za1 zc6 zc5
  have hl:=zxq x
  rw [wsource n x (by omega) (by omega)]
  unfold wOut outW
  cases hf:zvR x with
  | false=>rfl
  | true =>
    simp only [yS,ob,pbind,yD]
    rw [zkh (zvP x) (by omega) hm n hn]
    simp only [ob]
    unfold outT
    by_cases h1:(textR (zvP x)).2=1
    · simp only [h1,yQ,yK,yS,ob]
    simp only [h1,yP,yJ,yR]
    by_cases h2:(textR (zvP x)).2≠0
    · simp only [h2,yQ,yK,bJ,ne_eq,yZ,true_or,yS,ob]
    · simp only [h2,yP,yJ,zoA (l:=zvP x) (by omega) (n:=n) (by omega),ob,bJ,false_or]
      rw [zbZ]
      by_cases h3:0≤deepT ((zvP x).map tk) 0 0
      · simp only [h3,yQ,yK,yS,ob]
      · simp only [h3,yP,yJ,yR,ob]
theorem zyk {T:List Lx} (h:(outT T).2=0):textR T=((outT T).1,0)∧¬ 0≤deepT (T.map tk) 0 0:=by
 unfold outT at h ⊢
 split at h
 ·exact absurd h (by decide)
 ·rename_i h1
  rw [if_neg h1]
  split at h
  ·exact absurd h (by decide)
  ·rename_i h2
   rw [if_neg h2]
   refine ⟨?_,fun q=>h2 (.inr q)⟩
   have:(textR T).2=0:=by
    by_cases h3:(textR T).2=0
    ·exact h3
    ·exact absurd (.inl h3) h2
   exact Prod.ext rfl this
theorem zyH {T:List Lx} (h:(outT T).2≠0):(outT T).1=[]∧((outT T).2=3∨(outT T).2=2):=by
 unfold outT at h ⊢
 split
 ·exact ⟨rfl,.inl rfl⟩
 ·rename_i h1
  rw [if_neg h1] at h
  split
  ·exact ⟨rfl,.inr rfl⟩
  ·rename_i h2
   rw [if_neg h2] at h
   exact absurd rfl h
theorem zxP (g:Int→Int) (x:zG):atSrc z0 (atSrc g x)=atSrc z0 x:=by
 unfold atSrc
 simp only [List.map_map]
 congr 1
 ·refine List.map_congr_left fun p _=>?_
  simp only [Function.comp_apply,atP,List.map_map,zL.mk.injEq,true_and]
  refine ⟨rfl,List.map_congr_left fun r _=>?_⟩
  simp only [Function.comp_apply,atR,zkr]
  rfl
 ·refine List.map_congr_left fun p _=>?_
  simp only [Function.comp_apply,atPr,ziO]
  rfl
theorem back {x:zG} (hz:szSrc x≤12000) (hf:zvR x=true) {s:List UInt8} (h:outT (zvP x)=(s,0)):∃ y,z4K 65537 s=(y,⟨0,0⟩)∧atSrc z0 y=atSrc z0 x:=by
 have h0:(outT (zvP x)).2=0:=by rw [h]
 obtain ⟨h1,h2⟩:=zyk h0
 rw [h] at h1
 obtain ⟨h3,_,L,h4,h5⟩:=zxC h1
 obtain ⟨ps,prs⟩:=x
 unfold zvR at hf
 rw [Bool.and_eq_true] at hf
 unfold szSrc at hz
 dsimp only at hf hz
 have l1:=zce znf ps
 have l2:=zce zkd prs
 obtain ⟨q,q1,q2⟩:=zwP (N:=65537) prs hf.2 (by omega) ps 65537 ⟨[],[]⟩ ⟨[],[]⟩ hf.1 (by omega) (by omega) rfl 0
 have e:(tks L 0)=(ps.flatMap tokP++prs.flatMap tokPr).map tk:=by rw [zbZ,h5]; rfl
 have hr:run' L (srcP 65537) 0 = .ok q (0+(ps.flatMap tokP++prs.flatMap tokPr).length) []:=by
  unfold run'
  rw [e]
  exact q1
 have hL:L.length=(ps.flatMap tokP++prs.flatMap tokPr).length:=by
  have:=congrArg List.length e
  rw [zbZ] at this
  simpa using this
 refine ⟨atSrc (gA L) q,?_,?_⟩
 ·have h3' : ¬ 65536<s.length:=Nat.not_lt.2 h3
  unfold z4K outL outR
  rw [if_neg h3',h4]
  dsimp only
  rw [if_neg (show ¬((0:Int)≠0) by decide),hr]
  have h2' : ¬ 0≤deepT (tks L 0) 0 0:=by rw [e]; exact h2
  rw [if_neg h2']
  dsimp only
  rw [if_neg (by omega)]
 ·rw [zxP,q2,yD,yD]
def Gt (t:Tk):Prop:=Tok kwP t.1 t.2∧t.2.length≤3000
section
section
variable {α β : Type}
def Sg (Q:α→Prop) (p:Ps α):Prop:=∀ i ts,(∀ t∈ts,Gt t)→match p.run i ts with | .ok a _ _=>Q a | .bad _ _=>True
end
end
theorem zgm {α:Type} {f:α→List Lx} {g:α→α} (h:∀ x,f (g x)=f x) (l:List α):(l.map g).flatMap f=l.flatMap f:=by
 induction l with
 | nil=>rfl
 | cons x r ih=>rw [yI,List.flatMap_cons,List.flatMap_cons,h,ih]
theorem zzc {α:Type} {m:α→Nat} {l:List α} {i:Nat} (h:i<l.length):szL m (l.take (i+1))=szL m (l.take i)+m l[i]:=by
 rw [zaM h,zhK]; simp [szL]
theorem zzo {α:Type} {m:α→Nat} (l:List α) (i:Nat):szL m (l.take i)≤szL m l:=by
 have:=zhK m (l.take i) (l.drop i)
 rw [List.take_append_drop] at this
 omega
theorem zz2 {α R:Type} {step:Int×Int→Option (Lp (Int×Int) (Lp Int R))} {l:List α} {m a0:Int} {sz:α→Nat} {Q:α→Prop} {bad:R→Prop} {W:Int→Prop}
    (h:∀ (i:Nat) (hi:i<l.length),a0+szL sz (l.take i)≤m→∃ o,step (a0+szL sz (l.take i),(i:Int))=some o∧((∃ r,o = .stop (.stop r)∧bad r)∨∃ a',o = .go (a',((i+1:Nat):Int))∧(a'≤m→a'=a0+szL sz (l.take i)+sz l[i]∧Q l[i])∧W a'))
    (he:∀ (i:Nat) (a:Int),l.length≤i∨m<a→step (a,(i:Int))=some (.stop (.go a))):∀ (n i:Nat) (a:Int),i≤l.length→l.length - i<n→(a≤m→a=a0+szL sz (l.take i)∧∀ y∈l.take i,Q y)→W a→
    ∃ o,iter step n (a,(i:Int))=some o∧((∃ r,o = .stop r∧bad r)∨∃ r,o = .go r∧W r∧(r≤m→r=a0+szL sz l∧∀ y∈l,Q y))
  | 0,_,_,_,h,_,_=>absurd h (yH _)
  | n + 1, i, a, hi, hn, ha, hW => by
    by_cases hl:i<l.length
    · by_cases hm:a≤m
      · obtain ⟨e,hQ⟩:=ha hm
        subst e
        obtain ⟨o,h1,h2⟩:=h i hl hm
        rcases h2 with ⟨r,rfl,hb⟩ | ⟨a',rfl,h3,h4⟩
        · exact ⟨_,z1z h1,.inl ⟨r,rfl,hb⟩⟩
        · rw [z4f h1]
          refine zz2 h he n (i+1) a' hl (by omega) (fun q=>?_) h4
          obtain ⟨e1,e2⟩:=h3 q
          refine ⟨by rw [e1,zzc hl]; omega,fun y hy=>?_⟩
          rw [zaM hl] at hy
          rcases List.mem_append.1 hy with hy | hy
          · exact hQ y hy
          · rw [List.mem_singleton.1 hy]; exact e2
      · exact ⟨_,z1z (he i a (.inr (by omega))),.inr ⟨a,rfl,hW,fun q=>absurd q hm⟩⟩
    · have e:i=l.length:=by omega
      refine ⟨_,z1z (he i a (.inl (by omega))),.inr ⟨a,rfl,hW,fun q=>?_⟩⟩
      have:=ha q
      rw [e,List.take_length] at this
      exact this
theorem zz9:∀ (n:Nat) (x:E) (m:Int),szE x<n→szE x≤1048576→0≤m→m≤1000→∃ r,zdk n x m=some r∧1≤r∧r≤m+1∧(r≤m→r=szE x∧smE 300 x)
  | 0,_,_,h,_,_,_=>absurd h (yH _)
  | n + 1, ⟨op, at_, s, l⟩, m, h, h', hm, hm' => by
    rw [szE,zdQ] at h h'
    have hlen:=zce zd8 l
    show ∃ r,zcT n (zdk n) ⟨op,at_,s,l⟩ m=some r∧_
    unfold zcT
    by_cases hs:300<s.length
    · refine ⟨m+1,?_,by omega,by omega,fun q=>absurd q (by omega)⟩
      rw [yM (show (300:Int)<((⟨op,at_,s,l⟩ : E).S.length:Int) by show (300:Int)<(s.length:Int); omega),yK,Go.Abs.zb6 (by omega) (by omega)]
    rw [yL (show ¬(300:Int)<((⟨op,at_,s,l⟩ : E).S.length:Int) by show ¬(300:Int)<(s.length:Int); omega),yJ]
    obtain ⟨o,h1,h2⟩:=zz2 (step:=zir ⟨op,at_,s,l⟩ m (zdk n)) (l:=l) (m:=m) (a0:=1) (sz:=szE) (Q:=smE 300) (bad:=fun _=>False) (W:=fun a=>1≤a∧a≤m+1) (fun i hi ha=>by
      have hle:szE l[i]≤szL szE l:=z9H (List.getElem_mem hi)
      obtain ⟨r,r1,r2,r3,r4⟩:=zz9 n l[i] (m - (1+szL szE (l.take i))) (by omega) (by omega) (by omega) (by omega)
      refine ⟨_,?_,.inr ⟨1+szL szE (l.take i)+r,rfl,fun q=>?_,by omega,by omega⟩⟩
      · unfold zir
        simp only [yW,hi,ha,yQ,Bool.and_self,yK,z5t hi]
        rw [Go.Abs.zb6 (x:=m - (1+(szL szE (l.take i):Int))) (by omega) (by omega),r1]
        simp only [ob]
        rw [Go.Abs.zb6 (by omega) (by omega),zc1 (j:=i) (by omega)]
      · obtain ⟨e1,e2⟩:=r4 (by omega)
        exact ⟨by omega,e2⟩) (fun i a q=>by
      unfold zir
      have:(decide ((i:Int)<(l.length:Int)) && decide (a≤m))=false:=by
        rcases q with q | q
        · rw [yL (show ¬(i:Int)<(l.length:Int) by omega)]; rfl
        · rw [yL (show ¬ a≤m by omega),Bool.and_false]
      simp only [this,yJ]) n 0 1 (yX _) (by omega) (fun _=>⟨by simp [szL],fun y hy=>absurd hy (by simp)⟩) ⟨by omega,by omega⟩
    have h1' : iter (zir ⟨op,at_,s,l⟩ m (zdk n)) n (1,0)=_:=h1
    rw [h1']
    rcases h2 with ⟨r,_,q⟩ | ⟨r,rfl,⟨w1,w2⟩,q⟩
    · exact absurd q id
    · refine ⟨r,rfl,w1,w2,fun hr=>?_⟩
      obtain ⟨e1,e2⟩:=q hr
      refine ⟨by rw [szE,zdQ]; omega,?_⟩
      rw [smE,zn4]
      exact ⟨by omega,e2⟩
mutual
def smS (M:Nat):St→Prop
 | ⟨_,_,n,x,b,e⟩=>n.length≤M∧smE M x∧smSs M b∧smSs M e
def smSs (M:Nat):List St→Prop
 | []=>True
 | x::r=>smS M x∧smSs M r
end
theorem zzb (M:Nat):∀ l:List St,smSs M l ↔ ∀ x∈l,smS M x
  | []=>⟨fun _ x h=>absurd h y0,fun _=>trivial⟩
  | x :: r => by
    rw [smSs,zzb M r]
    exact ⟨fun h y hy=>by rcases List.mem_cons.1 hy with rfl | hy; exact h.1; exact h.2 y hy,fun h=>⟨h x (List.mem_cons_self ..),fun y hy=>h y (List.mem_cons_of_mem _ hy)⟩⟩
theorem zz8:∀ (n:Nat) (l:List St) (m:Int),szSs l+1<n→szSs l≤1048576→-10000000≤m→m≤1000→∃ r,zbL n l m=some r∧0≤r∧(m<0→r=0)∧(0≤m→r≤m+2)∧(r≤m→r=szSs l∧smSs 300 l)
  | 0,_,_,h,_,_,_=>absurd h (yH _)
  | n + 1, l, m, h, h', hm, hm' => by
    rw [zd9] at h h'
    have hlen:=zce zsB l
    show ∃ r,zaE n (zbL n) l m=some r∧_
    unfold zaE
    obtain ⟨o,h1,h2⟩:=zz2 (step:=zfP n l m (zbL n)) (l:=l) (m:=m) (a0:=0) (sz:=szS) (Q:=smS 300) (bad:=fun r=>r=m+1∧0≤m) (W:=fun a=>0≤a∧(m<0→a=0)∧(0≤m→a≤m+2)) (fun i hi ha=>by
      have hle:szS l[i]≤szL szS l:=z9H (List.getElem_mem hi)
      generalize hT:(0:Int)+szL szS (l.take i)=a at *
      have ha0:0≤a:=by omega
      unfold zfP
      simp only [yW,hi,ha,yQ,Bool.and_self,yK,z5t hi]
      generalize l[i]=x at *
      obtain ⟨k,at_,nm,x,b,e⟩:=x
      rw [szS] at hle
      by_cases hs:300<nm.length
      · refine ⟨_,?_,.inl ⟨m+1,rfl,rfl,by omega⟩⟩
        rw [yM (show (300:Int)<((⟨k,at_,nm,x,b,e⟩ : St).Name.length:Int) by show (300:Int)<(nm.length:Int); omega),yK,Go.Abs.zb6 (by omega) (by omega)]
      rw [yL (show ¬(300:Int)<((⟨k,at_,nm,x,b,e⟩ : St).Name.length:Int) by show ¬(300:Int)<(nm.length:Int); omega),yJ]
      obtain ⟨r1,p1,p2,p3,p4⟩:=zz9 n x (m - a) (by omega) (by omega) (by omega) (by omega)
      rw [Go.Abs.zb6 (x:=m - a) (by omega) (by omega),p1]
      simp only [ob]
      rw [Go.Abs.zb6 (x:=a+1) (by omega) (by omega),Go.Abs.zb6 (x:=a+1+r1) (by omega) (by omega),Go.Abs.zb6 (x:=m - (a+1+r1)) (by omega) (by omega)]
      obtain ⟨r2,q1,q2,q3,q4,q5⟩:=zz8 n b (m - (a+1+r1)) (by omega) (by omega) (by omega) (by omega)
      rw [q1]
      simp only [ob]
      have u2:a+1+r1+r2≤m+2:=by
        by_cases c:m - (a+1+r1)<0
        · have:=q3 c; omega
        · have:=q4 (by omega); omega
      rw [Go.Abs.zb6 (x:=a+1+r1+r2) (by omega) (by omega),Go.Abs.zb6 (x:=m - (a+1+r1+r2)) (by omega) (by omega)]
      obtain ⟨r3,t1,t2,t3,t4,t5⟩:=zz8 n e (m - (a+1+r1+r2)) (by omega) (by omega) (by omega) (by omega)
      rw [t1]
      simp only [ob]
      have u3:a+1+r1+r2+r3≤m+2:=by
        by_cases c:m - (a+1+r1+r2)<0
        · have:=t3 c; omega
        · have:=t4 (by omega); omega
      rw [Go.Abs.zb6 (x:=a+1+r1+r2+r3) (by omega) (by omega),zc1 (j:=i) (by omega)]
      refine ⟨_,rfl,.inr ⟨a+1+r1+r2+r3,rfl,fun q=>?_,by omega,fun q=>absurd q (by omega),fun _=>u3⟩⟩
      obtain ⟨e1,e2⟩:=p4 (by omega)
      obtain ⟨e3,e4⟩:=q5 (by omega)
      obtain ⟨e5,e6⟩:=t5 (by omega)
      refine ⟨by rw [szS]; omega,?_⟩
      rw [smS]
      exact ⟨by omega,e2,e4,e6⟩) (fun i a q=>by
      unfold zfP
      have:(decide ((i:Int)<(l.length:Int)) && decide (a≤m))=false:=by
        rcases q with q | q
        · rw [yL (show ¬(i:Int)<(l.length:Int) by omega)]; rfl
        · rw [yL (show ¬ a≤m by omega),Bool.and_false]
      simp only [this,yJ]) n 0 0 (yX _) (by omega) (fun _=>⟨by simp [szL],fun y hy=>absurd hy (by simp)⟩) ⟨by omega,fun _=>rfl,fun _=>by omega⟩
    have h1' : iter (zfP n l m (zbL n)) n (0,0)=_:=h1
    rw [h1']
    rcases h2 with ⟨r,rfl,q1,q2⟩ | ⟨r,rfl,⟨w1,w2,w3⟩,q⟩
    · exact ⟨r,rfl,by omega,fun c=>absurd c (by omega),fun _=>by omega,fun c=>absurd c (by omega)⟩
    · refine ⟨r,rfl,w1,w2,w3,fun hr=>?_⟩
      obtain ⟨e1,e2⟩:=q hr
      exact ⟨by rw [zd9]; omega,(zzb 300 l).2 e2⟩
end Go.Proofs.YtcmaoifiiigggaaGreatDoor
