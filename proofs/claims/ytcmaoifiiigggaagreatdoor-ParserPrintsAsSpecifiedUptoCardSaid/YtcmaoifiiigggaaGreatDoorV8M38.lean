/-
  Texts that stand side by side: Qw, Ta, Tb, Td, Tf, Tg, Th, Ti, Tl, Tm, To, Tp, Tq, Tr.
-/
import Derived.Test.YtcmaoifiiigggaaGreatDoorV8M30
import Derived.Test.YtcmaoifiiigggaaGreatDoorV8G8d
import Derived.Test.YtcmaoifiiigggaaGreatDoorV8Tc
import Derived.Test.YtcmaoifiiigggaaGreatDoorV8G7a
import Derived.Test.YtcmaoifiiigggaaGreatDoorV8G3l
set_option linter.unusedSimpArgs false
set_option linter.unusedVariables false
namespace Go.Proofs.YtcmaoifiiigggaaGreatDoor
open Go.Abs Go.Ps Go.Lex
theorem zgO (x:zG) {n:Nat} (h:szSrc x+1<n) (h' : szSrc x≤1000000000):z5T n x x=some true:=by
 have h1:=zce znf x.Policies
 have h2:=zce zkd x.Programs
 unfold szSrc at h h'
 unfold z5T
 simp only [ne_eq,yV,yP,Bool.or_self,yJ]
 refine (zb2 (L:=x.Policies.length) (fun i hi=>?_) ?_ (by omega)).trans (zb2 (L:=x.Programs.length) (fun i hi=>?_) ?_ (by omega))
 ·unfold za6
  have hm:szP x.Policies[i]≤szL szP x.Policies:=z9H (List.getElem_mem hi)
  simp only [szP] at hm
  simp only [yW,hi,yQ,yK,z5t hi,ne_eq,yV,yP,Bool.or_self,yU,yJ,bJ,zeX x.Policies[i].Rules (n:=n) (by omega) (by omega),ob,zc1 (j:=i) (by omega)]
 ·unfold za6
  simp only [Int.lt_irrefl,yP,yJ]
 ·unfold za7
  have hm:szPr x.Programs[i]≤szL szPr x.Programs:=z9H (List.getElem_mem hi)
  simp only [szPr] at hm
  simp only [yW,hi,yQ,yK,z5t hi,ne_eq,yV,yP,Bool.or_self,yU,yJ,bJ,zd1 x.Programs[i].Effects (by omega) (n:=n) (by omega),zaJ n x.Programs[i].Code (by omega) (by omega),ob,zc1 (j:=i) (by omega)]
 ·unfold za7
  simp only [Int.lt_irrefl,yP,yJ]
theorem zoc {α:Type} (f:α→α) (l:List α) {i:Nat} (h:i<l.length) (y:α):((l.take i).map f++l.drop i).set i y=(l.take i).map f++y::l.drop (i+1):=by
 have e:((l.take i).map f).length=i:=by simp; omega
 rw [List.set_append_right _ _ (by omega),e,Nat.sub_self,List.drop_eq_getElem_cons h,List.set_cons_zero]
theorem zll {α:Type} (f:α→α) (l:List α) {i:Nat} (h:i<l.length):((l.take i).map f++l.drop i)[i]? = some l[i]:=by
 have e:((l.take i).map f).length=i:=by simp; omega
 rw [List.getElem?_append_right (by omega),e,Nat.sub_self,List.getElem?_drop,Nat.add_zero,List.getElem?_eq_getElem h]
theorem zoG {α:Type} (f:α→α) (l:List α) {i:Nat} (h:i<l.length) (y:α):(((l.take i).map f++l.drop i).set i y)[i]? = some y:=by
 have e:((l.take i).map f).length=i:=by simp; omega
 rw [zoc f l h y,List.getElem?_append_right (by omega),e,Nat.sub_self]; rfl
theorem zrr {α:Type} (f:α→α) (l:List α) {i:Nat} (h:i<l.length):(l.take i).map f++f l[i]::l.drop (i+1)=(l.take (i+1)).map f++l.drop (i+1):=by
 rw [zaM h,List.map_append]
 simp
theorem zn2 {α R:Type} {step:Int×List α→Option (Lp (Int×List α) (Lp (List α) R))} (f:α→α) (l:List α) (h:∀ (i:Nat) (hi:i<l.length),step ((i:Int),(l.take i).map f++l.drop i)=some (.go (((i+1:Nat):Int),((l.take i).map f++l.drop i).set i (f l[i]))))
    (he:step ((l.length:Int),l.map f)=some (.stop (.go (l.map f)))):∀ (n i:Nat),i≤l.length→l.length - i<n→iter step n ((i:Int),(l.take i).map f++l.drop i)=some (.go (l.map f))
  | 0,_,_,h=>absurd h (yH _)
  | n + 1, i, hi, hn => by
    by_cases hlt:i<l.length
    · rw [z4f (h i hlt),zoc f l hlt,zrr f l hlt]
      exact zn2 f l h he n (i+1) hlt (by omega)
    · have e:i=l.length:=by omega
      subst e
      rw [List.take_length,List.drop_length,List.append_nil,z1z he]
theorem zhF {α R:Type} {step:Int×List α→Option (Lp (Int×List α) (Lp (List α) R))} {n:Nat} {K:List α→Option R} (f:α→α) (l:List α) (h:∀ (i:Nat) (hi:i<l.length),step ((i:Int),(l.take i).map f++l.drop i)=some (.go (((i+1:Nat):Int),((l.take i).map f++l.drop i).set i (f l[i]))))
  (he:step ((l.length:Int),l.map f)=some (.stop (.go (l.map f)))) (hn:l.length<n):bindJ (iter step n (0,l)) K=K (l.map f):=by
 have h1:=zn2 f l h he n 0 (yX _) (by omega)
 have h2:iter step n (0,l)=_:=h1
 rw [h2]; rfl
def z0:Int→Int:=fun _=>0
theorem bareE:∀ (n:Nat) (x:E),szE x<n→szE x≤1000000000→z7n n x=some (atE z0 x)
  | 0,_,h,_=>absurd h (yH _)
  | n + 1, ⟨op, a, s, l⟩, h, h' => by
    simp only [szE] at h h'
    have hl:=zgS l
    show z5W n (z7n n) _=_
    unfold z5W z2x
    rw [z1n (by simp; omega)]
    simp only [ob,yD]
    refine (zhF (atE z0) l (fun i hi=>?_) ?_ (by omega)).trans ?_
    · have hm:=zkc hi
      unfold z91
      simp only [yW,hi,yQ,yK,z4e (zll (atE z0) l hi),bareE n l[i] (by omega) (by omega),ob,zc1 (j:=i) (by omega),yY]
    · unfold z91
      simp only [Int.lt_irrefl,yP,yJ]
    · rw [atE,zhS]; rfl
theorem zrh:∀ (n:Nat) (l:List Cl),szCs l+1<n→szCs l≤1000000000→z5D n l=some (l.map (atC z0))
  | 0,_,h,_=>absurd h (yH _)
  | n + 1, l, h, h' => by
    have hl:=znd l
    show z59 n (z5D n) _=_
    unfold z59 z2h
    rw [z1n (by simp; omega)]
    simp only [ob,yD]
    refine zhF (atC z0) l (fun i hi=>?_) ?_ (by omega)
    · have hm:=zne hi
      have e:szC l[i]=1+l[i].Texts.length+szCs l[i].Conds:=by cases l[i]; rfl
      have ec:atC z0 l[i]=⟨l[i].Kind,0,l[i].Name,l[i].Texts,⟨l[i].Amount.Number,l[i].Amount.Unit,0⟩,l[i].Default,l[i].HasDefault,l[i].Conds.map (atC z0)⟩:=by
        cases l[i]; rw [atC,zdS]; rfl
      unfold z77
      simp only [yW,hi,yQ,yK,z4e (zll (atC z0) l hi),zrh n l[i].Conds (by omega) (by omega),ob,zc1 (j:=i) (by omega),yY,z4e (zoG (atC z0) l hi _),List.set_set]
      rw [ec]
    · unfold z77
      simp only [Int.lt_irrefl,yP,yJ]
theorem zpv:∀ (n:Nat) (l:List St),szSs l+1<n→szSs l≤1000000000→z7m n l=some (l.map (atS z0))
  | 0,_,h,_=>absurd h (yH _)
  | n + 1, l, h, h' => by
    have hl:=zng l
    show z5V n (z7m n) _=_
    unfold z5V z2y
    rw [z1n (by simp; omega)]
    simp only [ob,yD]
    refine zhF (atS z0) l (fun i hi=>?_) ?_ (by omega)
    · have hm:=znh hi
      have hq:=zd8 l[i].X
      have e:szS l[i]=1+szE l[i].X+szSs l[i].Body+szSs l[i].Else:=by cases l[i]; rfl
      have ec:atS z0 l[i]=⟨l[i].Kind,0,l[i].Name,atE z0 l[i].X,l[i].Body.map (atS z0),l[i].Else.map (atS z0)⟩:=by
        cases l[i]; rw [atS,z6Z,z6Z]; rfl
      unfold z90
      simp only [yW,hi,yQ,yK,z4e (zll (atS z0) l hi),bareE n l[i].X (by omega) (by omega),zpv n l[i].Body (by omega) (by omega),zpv n l[i].Else (by omega) (by omega),ob,zc1 (j:=i) (by omega),yY,z4e (zoG (atS z0) l hi _),List.set_set]
      rw [ec]
    · unfold z90
      simp only [Int.lt_irrefl,yP,yJ]
theorem zox (x:zG) {n:Nat} (h:szSrc x+1<n) (h' : szSrc x≤1000000000):z67 n x=some (atSrc z0 x):=by
 have h1:=zce znf x.Policies
 have h2:=zce zkd x.Programs
 unfold szSrc at h h'
 unfold z67 z2k z2e
 rw [z1n (by simp; omega),z1n (by simp; omega)]
 simp only [ob,yD]
 refine (zhF (atP z0) x.Policies (fun i hi=>?_) ?_ (by omega)).trans ((zhF (atPr z0) x.Programs (fun i hi=>?_) ?_ (by omega)).trans rfl)
 ·have hm:szP x.Policies[i]≤szL szP x.Policies:=z9H (List.getElem_mem hi)
  have h3:=zce zpe x.Policies[i].Rules
  simp only [szP] at hm
  unfold zbE z2C
  simp only [yW,hi,yQ,yK,z4e (zll (atP z0) x.Policies hi)]
  rw [z1n (by simp; omega)]
  simp only [ob,yD]
  refine (zhF (atR z0) x.Policies[i].Rules (fun k hk=>?_) ?_ (by omega)).trans ?_
  ·have hm' : szR x.Policies[i].Rules[k]≤szL szR x.Policies[i].Rules:=z9H (List.getElem_mem hk)
   simp only [szR] at hm'
   have ec:atR z0 x.Policies[i].Rules[k]=⟨x.Policies[i].Rules[k].Name,0,x.Policies[i].Rules[k].Clauses.map (atC z0)⟩:=by rw [atR,zdS]; rfl
   unfold zbF
   simp only [yW,hk,yQ,yK,z4e (zll (atR z0) x.Policies[i].Rules hk),zrh n x.Policies[i].Rules[k].Clauses (by omega) (by omega),ob,zc1 (j:=k) (by omega),yY]
   rw [ec]
  ·unfold zbF
   simp only [Int.lt_irrefl,yP,yJ]
  ·simp only [zc1 (j:=i) (by omega),yY]
   rfl
 ·unfold zbE
  simp only [Int.lt_irrefl,yP,yJ]
 ·have hm:szPr x.Programs[i]≤szL szPr x.Programs:=z9H (List.getElem_mem hi)
  simp only [szPr] at hm
  have ec:atPr z0 x.Programs[i]=⟨x.Programs[i].Name,0,x.Programs[i].Effects,x.Programs[i].Code.map (atS z0)⟩:=by rw [atPr,z6Z]; rfl
  unfold zbG
  simp only [yW,hi,yQ,yK,z4e (zll (atPr z0) x.Programs hi),zpv n x.Programs[i].Code (by omega) (by omega),ob,zc1 (j:=i) (by omega),yY]
  rw [ec]
 ·unfold zbG
  simp only [Int.lt_irrefl,yP,yJ]
def Rd (p:Ps E) (T:List Tk) (x:E) (r:List Tk):Prop:=∀ i,∃ x',p.run i (T++r) = .ok x' (i+T.length) r∧atE z0 x'=atE z0 x
def Hn (T:List Tk):Prop:=∃ t q,T=t::q∧sgn [45] (some t)=false∧wrd [110,111,116] (some t)=false
def cl (y:E):List Tk:=(clos y (tokE y)).map tk
def Nn (T:List Tk):Prop:=∃ t q,T=t::q∧wrd [110,111,116] (some t)=false
theorem Hn.nn {T:List Tk} (h:Hn T):Nn T:=by obtain ⟨t,q,e,_,h⟩:=h; exact ⟨t,q,e,h⟩
section
section
variable {ex : Ps E} {T : List Tk} {x : E} {r : List Tk} {N : Nat}
end
end
theorem zxt {α R:Type} {step:Int×List Lx→Option (Lp (Int×List Lx) (Lp (List Lx) R))} {l:List α} {p:α→Bool} {t:α→List Lx} {m:α→Nat} {pan:R} (hlen:l.length≤100000000) (M:Nat) (hm:∀ x∈l,(t x).length≤m x)
    (h:∀ (i:Nat) (hi:i<l.length) (w:List Lx),w.length+m l[i]≤M→step ((i:Int),w)=some (if p l[i] then .go (((i+1:Nat):Int),w++t l[i]) else .stop (.stop pan)))
    (he:∀ w,step ((l.length:Int),w)=some (.stop (.go w))):∀ (n i:Nat) (w:List Lx),i≤l.length→l.length - i<n→w.length+((l.drop i).map m).sum≤M→
    iter step n ((i:Int),w)=some (if (l.drop i).all p then .go (w++(l.drop i).flatMap t) else .stop pan)
  | 0,_,_,_,h,_=>absurd h (yH _)
  | n + 1, i, w, hi, hn, hw => by
    by_cases hl:i<l.length
    · have e:=List.drop_eq_getElem_cons hl
      rw [e,yI,List.sum_cons] at hw
      have h1:=h i hl w (by omega)
      have h2:=hm _ (List.getElem_mem hl)
      rw [e,List.all_cons,List.flatMap_cons]
      rcases yG (p l[i]) with hp | hp
      rotate_left
      · rw [hp] at h1 ⊢
        rw [z1z h1]; rfl
      · rw [hp] at h1 ⊢
        simp only [yS] at h1
        rw [z4f h1,zxt hlen M hm h he n (i+1) (w++t l[i]) hl (by omega) (by rw [yB]; omega)]
        simp only [Bool.true_and,yA]
    · have e:i=l.length:=by omega
      subst e
      rw [z1z (he w),List.drop_length]
      simp
theorem wblock:∀ (n:Nat) (l:List St),szSs l+6<n→szSs l≤100000000→Wrs (z4q n) l (zvK l) (blk (tokSs l)) (8*szSs l+2)
  | 0,_,h,_=>absurd h (yH _)
  | n + 1, l, h, h' => by
    intro w hw
    have hlen:=zng l
    show z4X n (z4q n) ⟨w⟩ l=_
    unfold z4X
    rw [zbX w _ (show 1<n by omega) (by omega),zvS,zwy]
    simp only [ob]
    have hsum:∀ r:List St,(r.map fun s=>8*szS s).sum=8*szSs r:=by
      intro r
      induction r with
      | nil=>rfl
      | cons s r ih=>simp only [yI,List.sum_cons,ih,szSs]; omega
    have key:=zxt (step:=z8b n l (z4q n)) (l:=l) (p:=formS) (t:=tokS) (m:=fun s=>8*szS s) (pan:=.pan 3) (by omega) 2000000000 (fun x _=>zxp x) (fun i hi w' hw'=>by
      have hm:=znh hi
      have h1:=wstmt (bl:=z4q n) n l[i] (by omega) (by omega) (fun l' hl'=>wblock n l' (by omega) (by omega)) w' hw'
      unfold z8b
      simp only [yW,hi,yQ,yK,z5t hi,h1]
      rcases yG (formS l[i]) with hf | hf
      · rw [hf,zvM rfl]; simp only [yS,zc1 (j:=i) (by omega)]
      · rw [hf]; rfl) (fun w'=>by
      unfold z8b
      simp only [Int.lt_irrefl,yP,yJ]) n 0 (w++[tG [123]]) (yX _) (by omega) (by rw [List.drop_zero,hsum]; simp; omega)
    have key' : iter (z8b n l (z4q n)) n (0,w++[tG [123]])=_:=key
    rw [key',List.drop_zero]
    rcases yG (l.all formS) with hf | hf
    rotate_left
    · rw [hf]; rfl
    · rw [hf]
      simp only [yS,bJ]
      have hl:=zvU l
      rw [zwy] at hl
      rw [zbX _ _ (show 1<n by omega) (by simp only [yB,yC,yF]; omega)]
      unfold blk
      simp only [ob,yA]
      rfl
def jn {α:Type} (t:Nat→α→List Lx):Nat→List α→List Lx
 | _,[]=>[]
 | j,x::r=>t j x++jn t (j+1) r
theorem zwL {α:Type} (t:α→List Lx):∀ (l:List α) (j:Nat),jn (fun _=>t) j l=l.flatMap t
 | [],_=>rfl
 | x::r,j=>by rw [jn,zwL t r,List.flatMap_cons]
theorem zxX {α:Type} {t:Nat→α→List Lx} {m:α→Nat}:∀ (l:List α) (j:Nat),(∀ j,∀ x∈l,(t j x).length≤m x)→(jn t j l).length≤(l.map m).sum
  | [],_,_=>Nat.le_refl _
  | x :: r, j, h => by
    have h1:=h j x (List.mem_cons_self ..)
    have h2:=zxX r (j+1) fun j y hy=>h j y (List.mem_cons_of_mem _ hy)
    simp only [jn,yB,yI,List.sum_cons]
    omega
theorem zxY {α:Type} (t:Nat→α→List Lx):∀ (l:List α) (j:Nat),jn t j l=(l.zipIdx j).flatMap fun p=>t p.2 p.1
 | [],_=>rfl
 | x::r,j=>by rw [jn,zxY t r,List.zipIdx_cons,List.flatMap_cons]
theorem zw5 {α R:Type} {step:Int×List Lx→Option (Lp (Int×List Lx) R)} {l:List α} {p:α→Bool} {t:Nat→α→List Lx} {m:α→Nat} {fin:List Lx→R} {pan:R} (M:Nat) (hm:∀ j,∀ x∈l,(t j x).length≤m x)
    (h:∀ (i:Nat) (hi:i<l.length) (w:List Lx),w.length+m l[i]≤M→step ((i:Int),w)=some (if p l[i] then .go (((i+1:Nat):Int),w++t i l[i]) else .stop pan))
    (he:∀ w,step ((l.length:Int),w)=some (.stop (fin w))):∀ (n i:Nat) (w:List Lx),i≤l.length→l.length - i<n→w.length+((l.drop i).map m).sum≤M→
    iter step n ((i:Int),w)=some (if (l.drop i).all p then fin (w++jn t i (l.drop i)) else pan)
  | 0,_,_,_,h,_=>absurd h (yH _)
  | n + 1, i, w, hi, hn, hw => by
    by_cases hl:i<l.length
    · have e:=List.drop_eq_getElem_cons hl
      rw [e,yI,List.sum_cons] at hw
      have h1:=h i hl w (by omega)
      have h2:=hm i _ (List.getElem_mem hl)
      rw [e,List.all_cons,jn]
      rcases yG (p l[i]) with hp | hp
      rotate_left
      · rw [hp] at h1 ⊢
        rw [z1z h1]; rfl
      · rw [hp] at h1 ⊢
        simp only [yS] at h1
        rw [z4f h1,zw5 M hm h he n (i+1) (w++t i l[i]) hl (by omega) (by rw [yB]; omega)]
        simp only [Bool.true_and,yA]
    · have e:i=l.length:=by omega
      subst e
      rw [z1z (he w),List.drop_length]
      simp [jn]
theorem zvY {α:Type} (c:Nat) (l:List α):(l.map fun _=>c).sum=c*l.length:=by
 induction l with
 | nil=>rfl
 | cons x r ih=>simp only [yI,List.sum_cons,ih,yC,Nat.mul_add]; omega
def oneT (k:Int) (j:Nat) (s:List UInt8):List Lx:=(if j=0 then [] else [tG [44]])++[⟨k,0,s⟩]
def comT (k:Int) (l:List (List UInt8)):List Lx:=jn (oneT k) 0 l
theorem zx7 (k:Int) (j:Nat) (s:List UInt8):(oneT k j s).length≤2:=by unfold oneT; split <;> simp
theorem zwm (k:Int) (l:List (List UInt8)):(comT k l).length≤2*l.length:=by
 have:=zxX (t:=oneT k) (m:=fun _=>2) l 0 fun j x _=>zx7 k j x
 rw [zvY] at this
 exact this
theorem wtexts (w:List Lx) (k:Int) (l:List (List UInt8)) {n:Nat} (hn:l.length+2<n) (h:w.length+2*l.length≤2000000000):z30 n ⟨w⟩ k l=some (.ret ⟨w++comT k l⟩):=by
 unfold z30
 have key:=zw5 (step:=z8h n k l) (l:=l) (p:=fun _=>true) (t:=oneT k) (m:=fun _=>2) (fin:=fun w=>Pn.ret ⟨w⟩) (pan:=.pan 3) 2000000000 (fun j x _=>zx7 k j x) (fun i hi w' hw'=>by
  unfold z8h
  simp only [yW,hi,yQ,yK,z5t hi]
  unfold oneT
  by_cases h0:i=0
  ·subst h0
   rw [show decide ((0:Int)<((0:Nat):Int))=false from rfl,yJ,bJ,zlr _ _ _ (by omega)]
   simp only [ob,yS,yD,zc1 (j:=0) (by omega)]
  ·rw [show decide ((0:Int)<((i:Nat):Int))=true from yM (by omega),yK,zbX _ _ (show 1<n by omega) (by omega)]
   simp only [ob,bJ]
   rw [zlr _ _ _ (by simp; omega),if_neg h0]
   simp only [ob,yS,yA,zc1 (j:=i) (by omega)]) (fun w'=>by
  unfold z8h
  simp only [Int.lt_irrefl,yP,yJ]) n 0 w (yX _) (by omega) (by rw [List.drop_zero,zvY]; omega)
 have key' : iter (z8h n k l) n (0,w)=_:=key
 rw [key',List.drop_zero]
 simp only [List.all_eq_true,implies_true,yS]
 rfl
def wordC (k:Int):List UInt8:=z5y[(k - 1).toNat]?.getD []
def amT (u v:List UInt8):List Lx:=tD u::if v=[] then [] else [tN v]
def bodyC (k:Int) (n:List UInt8) (t:List (List UInt8)) (u v d:List UInt8) (hd:Bool) (tc:List Lx):List Lx:=
 if k=1 then comT 4 t else if k=2∨k=14∨k=15 then comT 4 t else if k=16 then comT 3 t else if k=8 then [tQ n,tW [105,110]]++comT 4 t++(if hd then [tW [100,101,102,97,117,108,116],tQ d] else [])
 else if k=11 then [tN n] else if k=9 then blk tc else if k=10 then [] else amT u v
def endC (k:Int):List Lx:=if k=9 then [] else [tG [59]]
def restC (n:List UInt8) (a b:Nat) (u v d:List UInt8) (hd:Bool):Bool:=(((decide (n=[]) && decide (a+b=0)) && (decide (u=[]) && decide (v=[]))) && decide (d=[])) && !hd
def loC (k:Int) (n:List UInt8) (t c:Nat) (u v d:List UInt8) (hd fc:Bool):Bool:=
 if k=1 then decide (t=1) && restC n 0 c u v d hd else if (k=2∨k=14∨k=15)∨k=16 then decide (0<t) && restC n 0 c u v d hd else if k=8 then decide (0<t) && restC [] 0 c u v (if hd then [] else d) false
 else if k=11 then restC [] t c u v d hd else if k=9 then fc && restC n t 0 u v d hd else if k=10 then restC n t c u v d hd else (decide (v=[]) || decide (k≠17)) && restC n t c [] [] d hd
def inC (inner:Bool) (k:Int):Bool:=(decide (1≤k) && decide (k≤17)) && (decide (k=1) || (inner == decide (12≤k)))
mutual
def tokC:Cl→List Lx
 | ⟨k,_,n,t,am,d,h,c⟩=>[tW (wordC k)]++bodyC k n t am.Number am.Unit d h (tokCs c)++endC k
def tokCs:List Cl→List Lx
 | []=>[]
 | x::r=>tokC x++tokCs r
end
mutual
def formC:Bool→Cl→Bool
 | b,⟨k,_,n,t,am,d,h,c⟩=>inC b k && loC k n t.length c.length am.Number am.Unit d h (zvT true c)
def zvT:Bool→List Cl→Bool
 | _,[]=>true
 | b,x::r=>formC b x && zvT b r
end
theorem zwi:∀ l:List Cl,tokCs l=l.flatMap tokC
 | []=>rfl
 | s::r=>by rw [tokCs,zwi r,List.flatMap_cons]
theorem zvV (b:Bool):∀ l:List Cl,zvT b l=l.all (formC b)
 | []=>rfl
 | s::r=>by rw [zvT,zvV b r]; rfl
theorem zxv (k:Int) (n:List UInt8) (t:List (List UInt8)) (u v d:List UInt8) (hd:Bool) (tc:List Lx):(bodyC k n t u v d hd tc).length≤2*t.length+tc.length+4:=by
 have h1:=zwm 4 t
 have h2:=zwm 3 t
 unfold bodyC blk amT
 repeat' split
 all_goals try simp only [yB,yC,yF]
 all_goals omega
mutual
theorem zxm:∀ s:Cl,(tokC s).length≤8*szC s
  | ⟨k, a, n, t, am, d, h, c⟩ => by
    have h1:=zw4 c
    have h2:=zxv k n t am.Number am.Unit d h (tokCs c)
    have h3:(endC k).length≤1:=by unfold endC; split <;> simp
    rw [tokC,szC]
    simp only [yB,yC,yF]
    omega
theorem zw4:∀ l:List Cl,(tokCs l).length≤8*szCs l
  | []=>yX _
  | s :: r => by
    have h1:=zxm s
    have h2:=zw4 r
    simp only [tokCs,yB,szCs] at h2 ⊢
    omega
end
theorem idxC {k:Int} (h1:1≤k) (h2:k≤17) {β:Type} (f:List UInt8→Option β):idx z5y (IntKind.i64.wrap (k - 1)) f=f (wordC k):=by
 obtain ⟨m,rfl⟩ : ∃ m:Nat,k=(m:Int)+1:=⟨(k - 1).toNat,by omega⟩
 have hm:m<17:=by omega
 have e:IntKind.i64.wrap ((m:Int)+1 - 1)=(m:Int):=by
  rw [show ((m:Int)+1 - 1)=((m:Nat):Int) by omega]
  exact Go.Abs.zb6 (by omega) (by omega)
 have e2:((m:Int)+1 - 1).toNat=m:=by omega
 rw [e,z5t (l:=z5y) (show m<z5y.length from hm)]
 unfold wordC
 rw [e2,List.getElem?_eq_getElem (show m<z5y.length from hm)]
 rfl
theorem wend {n:Nat} (hn:1<n) (k:Int) (w:List Lx) (b:Bool) (hw:w.length≤3000000000):(obind (z2I b) fun r151=>
  pbind r151 (fun e154=>
   some (.pan e154)) fun q153=>
  cond (decide (k≠9))
   (obind (zW n (zo.mk w) ([[59]]:List (List UInt8))) fun r157=>
   some (.ret r157))
   (some (.ret (zo.mk w))))=some (wOut b (w++endC k)):=by
  rw [znU]
  cases b with
  | false=>rfl
  | true =>
    simp only [yS,ob,pbr]
    unfold endC
    by_cases h:k=9
    · subst h
      rw [if_pos rfl,List.append_nil]; rfl
    · rw [if_neg h,yM h,yK,zbX w _ hn (by omega)]; rfl
theorem zwa {a b:Nat} (h:a+b≤1000000000):decide (IntKind.i64.wrap ((a:Int)+(b:Int))=0)=decide (a+b=0):=by
 rw [Go.Abs.zb6 (by omega) (by omega),decide_eq_decide]; omega
theorem wclause {n:Nat} {rec:Wr→List Cl→Bool→Option (Pn Wr)} (c:Cl) (inner:Bool) (h:szC c+6<n) (h' : szC c≤100000000) (hB:∀ l:List Cl,szCs l<szC c→Wrs (fun w l=>rec w l true) l (zvT true l) (blk (tokCs l)) (8*szCs l+2)) :
    Wrs (fun w c=>z5w n rec w c inner) c (formC inner c) (tokC c) (8*szC c):=by
  obtain ⟨k,a,nm,t,⟨u,v,ua⟩,d,hd,cs⟩:=c
  intro w hw
  rw [szC] at h h' hw hB
  have lc:=zw4 cs
  have ll:=znd cs
  have hBc:=hB cs (by omega)
  show z5w n rec ⟨w⟩ ⟨k,a,nm,t,⟨u,v,ua⟩,d,hd,cs⟩ inner=_
  unfold z5w
  rw [tokC,formC]
  dsimp only
  rw [znU,show ((decide (1≤k) && decide (k≤17)) && (decide (k=1) || (inner == decide (12≤k))))=inC inner k from rfl]
  rcases yG (inC inner k) with hi | hi
  rotate_left
  · rw [hi]; rfl
  rw [hi]
  have hk:1≤k∧k≤17:=by
    unfold inC at hi
    simp only [Bool.and_eq_true,decide_eq_true_eq] at hi
    exact hi.1
  have et:∀ {β:Type} (f:List (List UInt8)→Option β),obind z6N f=f z5y:=fun f=>rfl
  simp only [yS,ob,pbr,et,idxC hk.1 hk.2,zf6 w _ (show 1<n by omega) (by omega),Bool.true_and]
  have d0:decide ((0:Int)<(t.length:Int))=decide (0<t.length):=by rw [decide_eq_decide]; omega
  have d1:decide ((t.length:Int)=1)=decide (t.length=1):=by rw [decide_eq_decide]; omega
  have tx:∀ (w' : List Lx) (kd:Int),w'.length≤w.length+3→z30 n ⟨w'⟩ kd t=some (.ret ⟨w'++comT kd t⟩):=fun w' kd hw'=>wtexts w' kd t (by omega) (by omega)
  have c3:=zwm 3 t
  have c4:=zwm 4 t
  unfold bodyC loC
  simp only [d0,d1]
  have lw:(w++[tW (wordC k)]).length=w.length+1:=by simp
  have z0' : ((([]:List (List UInt8)).length:Nat):Int)=((0:Nat):Int):=rfl
  by_cases k1:k=1
  · simp only [k1,yQ,yK,yS]
    rw [znU]
    rcases yG (decide (t.length=1)) with hb | hb
    rotate_left
    · rw [hb]; rfl
    rw [hb]
    simp only [yS,ob,pbr]
    rw [k1] at lw
    rw [tx _ _ (by omega)]
    simp only [ob,pbr,bJ,z0',zwa (show 0+cs.length≤1000000000 by omega)]
    have:=wend (n:=n) (by omega) 1 (w++[tW (wordC 1)]++comT 4 t) (restC nm 0 cs.length u v d hd) (by rw [yB]; omega)
    rw [Bool.true_and,← yA,← yA,← this]; unfold restC; simp only [Bool.and_true]
  simp only [k1,yP,yJ,yR]
  by_cases k2:k=2
  · subst k2
    simp only [Int.reduceEq,yQ,yP,yK,yJ,bJ,or_false,or_true,true_or,yS]
    rw [znU]
    rcases yG (decide (0<t.length)) with hb | hb
    rotate_left
    · rw [hb]; rfl
    rw [hb]
    simp only [yS,ob,pbr]
    rw [tx _ _ (by omega)]
    simp only [ob,pbr,bJ,z0',zwa (show 0+cs.length≤1000000000 by omega)]
    have:=wend (n:=n) (by omega) 2 (w++[tW (wordC 2)]++comT 4 t) (restC nm 0 cs.length u v d hd) (by rw [yB]; omega)
    rw [Bool.true_and,← yA,← yA,← this]; unfold restC; simp only [Bool.and_true]
  by_cases k14:k=14
  · subst k14
    simp only [Int.reduceEq,yQ,yP,yK,yJ,bJ,or_false,or_true,true_or,false_or,yS]
    rw [znU]
    rcases yG (decide (0<t.length)) with hb | hb
    rotate_left
    · rw [hb]; rfl
    rw [hb]
    simp only [yS,ob,pbr]
    rw [tx _ _ (by omega)]
    simp only [ob,pbr,bJ,z0',zwa (show 0+cs.length≤1000000000 by omega)]
    have:=wend (n:=n) (by omega) 14 (w++[tW (wordC 14)]++comT 4 t) (restC nm 0 cs.length u v d hd) (by rw [yB]; omega)
    rw [Bool.true_and,← yA,← yA,← this]; unfold restC; simp only [Bool.and_true]
  by_cases k15:k=15
  · subst k15
    simp only [Int.reduceEq,yQ,yP,yK,yJ,bJ,or_false,or_true,true_or,false_or,yS]
    rw [znU]
    rcases yG (decide (0<t.length)) with hb | hb
    rotate_left
    · rw [hb]; rfl
    rw [hb]
    simp only [yS,ob,pbr]
    rw [tx _ _ (by omega)]
    simp only [ob,pbr,bJ,z0',zwa (show 0+cs.length≤1000000000 by omega)]
    have:=wend (n:=n) (by omega) 15 (w++[tW (wordC 15)]++comT 4 t) (restC nm 0 cs.length u v d hd) (by rw [yB]; omega)
    rw [Bool.true_and,← yA,← yA,← this]; unfold restC; simp only [Bool.and_true]
  have kk:¬(k=2∨k=14∨k=15):=fun h=>h.elim k2 fun h=>h.elim k14 k15
  simp only [k2,k14,k15,yP,yJ,bJ,or_false,yR,false_or]
  by_cases k16:k=16
  · subst k16
    simp only [Int.reduceEq,yQ,yP,yK,yJ,bJ,or_false,or_true,true_or,false_or,yS]
    rw [znU]
    rcases yG (decide (0<t.length)) with hb | hb
    rotate_left
    · rw [hb]; rfl
    rw [hb]
    simp only [yS,ob,pbr]
    rw [tx _ _ (by omega)]
    simp only [ob,pbr,bJ,z0',zwa (show 0+cs.length≤1000000000 by omega)]
    have:=wend (n:=n) (by omega) 16 (w++[tW (wordC 16)]++comT 3 t) (restC nm 0 cs.length u v d hd) (by rw [yB]; omega)
    rw [Bool.true_and,← yA,← yA,← this]; unfold restC; simp only [Bool.and_true]
  simp only [k16,yP,yJ,yR]
  by_cases k8:k=8
  · subst k8
    simp only [Int.reduceEq,yQ,yP,yK,yJ,bJ,yS]
    rw [znU]
    rcases yG (decide (0<t.length)) with hb | hb
    rotate_left
    · rw [hb]; rfl
    rw [hb]
    simp only [yS,ob,pbr]
    rw [zlr _ _ _ (by omega)]
    simp only [ob]
    rw [zf6 _ _ (show 1<n by omega) (by simp; omega)]
    simp only [ob]
    rw [tx _ _ (by simp)]
    simp only [ob,pbr]
    have lv:(w++[tW (wordC 8)]++[tQ nm]++[tW [105,110]]++comT 4 t).length=w.length+3+(comT 4 t).length:=by simp; omega
    cases hd with
    | true =>
      simp only [yK,yS]
      rw [zf6 _ _ (show 1<n by omega) (by simp; omega)]
      simp only [ob]
      rw [zlr _ _ _ (by simp; omega)]
      simp only [ob,bJ,z0',zwa (show 0+cs.length≤1000000000 by omega)]
      have:=wend (n:=n) (by omega) 8 (w++[tW (wordC 8)]++[tQ nm]++[tW [105,110]]++comT 4 t++[tW [100,101,102,97,117,108,116]]++[tQ d]) (restC [] 0 cs.length u v [] false) (by simp; omega)
      have e:w++([tW (wordC 8)]++([tQ nm,tW [105,110]]++comT 4 t++[tW [100,101,102,97,117,108,116],tQ d])++endC 8)=(w++[tW (wordC 8)]++[tQ nm]++[tW [105,110]]++comT 4 t++[tW [100,101,102,97,117,108,116]]++[tQ d])++endC 8:=by simp
      rw [Bool.true_and,e,← this]; unfold restC; simp only [Bool.and_true]
      rfl
    | false =>
      simp only [yJ,yN,yR]
      simp only [ob,bJ,z0',zwa (show 0+cs.length≤1000000000 by omega)]
      have:=wend (n:=n) (by omega) 8 (w++[tW (wordC 8)]++[tQ nm]++[tW [105,110]]++comT 4 t) (restC [] 0 cs.length u v d false) (by simp; omega)
      have e:w++([tW (wordC 8)]++([tQ nm,tW [105,110]]++comT 4 t++[])++endC 8)=(w++[tW (wordC 8)]++[tQ nm]++[tW [105,110]]++comT 4 t)++endC 8:=by simp
      rw [Bool.true_and,e,← this]; unfold restC; simp only [Bool.and_true]
      rfl
  simp only [k8,yP,yJ,yR]
  by_cases k11:k=11
  · subst k11
    simp only [Int.reduceEq,yQ,yP,yK,yJ,bJ,yS]
    rw [zlr _ _ _ (by omega)]
    simp only [ob,bJ,zwa (show t.length+cs.length≤1000000000 by omega)]
    have:=wend (n:=n) (by omega) 11 (w++[tW (wordC 11)]++[tN nm]) (restC [] t.length cs.length u v d hd) (by simp; omega)
    rw [← yA,← yA,← this]; unfold restC; simp only [Bool.and_true]
    rfl
  simp only [k11,yP,yJ,yR]
  by_cases k9:k=9
  · subst k9
    simp only [Int.reduceEq,yQ,yP,yK,yJ,bJ,yS]
    have h1:=hBc (w++[tW (wordC 9)]) (by omega)
    rw [show rec ⟨w++[tW (wordC 9)]⟩ cs true=_ from h1]
    rcases yG (zvT true cs) with hb | hb
    rotate_left
    · rw [hb]; rfl
    rw [hb,znv]
    simp only [ob,pbr,bJ]
    have z2:((([]:List Cl).length:Nat):Int)=((0:Nat):Int):=rfl
    simp only [z2,zwa (show t.length+0≤1000000000 by omega)]
    have lb:(blk (tokCs cs)).length=(tokCs cs).length+2:=by unfold blk; simp
    have:=wend (n:=n) (by omega) 9 (w++[tW (wordC 9)]++blk (tokCs cs)) (restC nm t.length 0 u v d hd) (by rw [yB]; omega)
    rw [Bool.true_and,← yA,← yA,← this]; unfold restC; simp only [Bool.and_true]
  simp only [k9,yP,yJ,yR]
  by_cases k10:k=10
  · subst k10
    simp only [Int.reduceEq,yQ,yP,yK,yJ,bJ,yS]
    simp only [zwa (show t.length+cs.length≤1000000000 by omega)]
    have:=wend (n:=n) (by omega) 10 (w++[tW (wordC 10)]) (restC nm t.length cs.length u v d hd) (by omega)
    rw [List.append_nil,← yA,← this]; unfold restC; simp only [Bool.and_true]
  simp only [k10,yP,yJ,yR]
  rw [zlr _ _ _ (by omega)]
  simp only [ob]
  unfold amT
  have wk:=fun (w:List Lx) (b:Bool) (hw:w.length≤3000000000)=>wend (n:=n) (by omega) k w b hw
  by_cases hv:v=[]
  · subst hv
    simp only [yQ,yU,yJ,bJ,yS,Bool.true_or,Bool.true_and,zwa (show t.length+cs.length≤1000000000 by omega)]
    have:=wk (w++[tW (wordC k)]++[tD u]) (restC nm t.length cs.length [] [] d hd) (by simp; omega)
    rw [← yA,← yA,← this]; unfold restC; simp only [Bool.and_true,yQ,Bool.true_and]
    rfl
  · simp only [hv,yP,yT,yK,yR,Bool.false_or]
    rw [znU]
    rcases yG (decide (k≠17)) with hb | hb
    rotate_left
    · rw [hb]; rfl
    rw [hb]
    simp only [yS,ob,pbr]
    rw [zlr _ _ _ (by simp; omega)]
    simp only [ob,bJ,zwa (show t.length+cs.length≤1000000000 by omega)]
    have:=wk (w++[tW (wordC k)]++[tD u]++[tN v]) (restC nm t.length cs.length [] [] d hd) (by simp; omega)
    have e:w++([tW (wordC k)]++[tD u,tN v]++endC k)=w++[tW (wordC k)]++[tD u]++[tN v]++endC k:=by simp
    rw [Bool.true_and,e,← this]; unfold restC; simp only [Bool.and_true,yQ,Bool.true_and]
    rfl
theorem zy4 (r:List Cl):(r.map fun s=>8*szC s).sum=8*szCs r:=by
 induction r with
 | nil=>rfl
 | cons s r ih=>simp only [yI,List.sum_cons,ih,szCs]; omega
theorem zy3 {l:List Cl} {i:Nat} (h:i<l.length):szC l[i]≤szCs l:=by rw [zjA]; exact z9H (List.getElem_mem h)
theorem wclauses:∀ (n:Nat) (l:List Cl) (inner:Bool),szCs l+8<n→szCs l≤100000000→Wrs (fun w l=>z4h n w l inner) l (zvT inner l) (blk (tokCs l)) (8*szCs l+2)
  | 0,_,_,h,_=>absurd h (yH _)
  | n + 1, l, inner, h, h' => by
    intro w hw
    have hlen:=znd l
    show z4G n (z4h n) ⟨w⟩ l inner=_
    unfold z4G
    rw [zbX w _ (show 1<n by omega) (by omega),zvV,zwi]
    simp only [ob]
    have key:=zxt (step:=z7y n l inner (z4h n)) (l:=l) (p:=formC inner) (t:=tokC) (m:=fun s=>8*szC s) (pan:=.pan 3) (by omega) 2000000000 (fun x _=>zxm x) (fun i hi w' hw'=>by
      have hm:=zy3 hi
      have h1:=wclause (n:=n) (rec:=z4h n) l[i] inner (by omega) (by omega) (fun l' hl'=>wclauses n l' true (by omega) (by omega)) w' hw'
      unfold z7y
      simp only [yW,hi,yQ,yK,z5t hi]
      rw [show z5w n (z4h n) ⟨w'⟩ l[i] inner=_ from h1]
      rcases yG (formC inner l[i]) with hf | hf
      · rw [hf,zvM rfl]; simp only [yS,zc1 (j:=i) (by omega)]
      · rw [hf]; rfl) (fun w'=>by
      unfold z7y
      simp only [Int.lt_irrefl,yP,yJ]) n 0 (w++[tG [123]]) (yX _) (by omega) (by rw [List.drop_zero,zy4]; simp; omega)
    have key' : iter (z7y n l inner (z4h n)) n (0,w++[tG [123]])=_:=key
    rw [key',List.drop_zero]
    rcases yG (l.all (formC inner)) with hf | hf
    rotate_left
    · rw [hf]; rfl
    · rw [hf]
      simp only [yS,bJ]
      have hl:=zw4 l
      rw [zwi] at hl
      rw [zbX _ _ (show 1<n by omega) (by simp only [yB,yC,yF]; omega)]
      unfold blk
      simp only [ob,yA]
      rfl
def tokR1 (r:zQ):List Lx:=[tW [114,117,108,101],tN r.Name]++blk (tokCs r.Clauses)
def tokP (p:zL):List Lx:=[tW [112,111,108,105,99,121],tN p.Name]++blk (p.Rules.flatMap tokR1)
def wordE (e:Int):List UInt8:=z7I[(e - 1).toNat]?.getD []
def effT (j:Nat) (e:Int):List Lx:=[if j=0 then tW [101,102,102,101,99,116,115] else tG [44],tW (wordE e)]
def tokPr (p:zI):List Lx:=[tW [112,114,111,103,114,97,109],tN p.Name]++jn effT 0 p.Effects++blk (tokSs p.Code)
def zvP (x:zG):List Lx:=x.Policies.flatMap tokP++x.Programs.flatMap tokPr
def formR (r:zQ):Bool:=zvT false r.Clauses
def formP (p:zL):Bool:=p.Rules.all formR
def zvW (e:Int):Bool:=decide (1≤e) && decide (e≤6)
def zw8 (p:zI):Bool:=p.Effects.all zvW && zvK p.Code
def zvR (x:zG):Bool:=x.Policies.all formP && x.Programs.all zw8
theorem zxl {α:Type} (m:α→Nat) (c:Nat) (r:List α):(r.map fun s=>c*m s).sum=c*szL m r:=by
 induction r with
 | nil=>rfl
 | cons s r ih=>simp only [yI,List.sum_cons,ih,szL]; rw [Nat.mul_add]
theorem zbC {α:Type} {t:α→List Lx} {m:α→Nat} {c:Nat} (h:∀ x,(t x).length≤c*m x):∀ l:List α,(l.flatMap t).length≤c*szL m l
  | []=>yX _
  | x :: r => by
    have h1:=h x
    have h2:=zbC h r
    rw [List.flatMap_cons,yB,szL,Nat.mul_add]
    omega
theorem zwu (r:zQ):(tokR1 r).length≤8*szR r:=by
 have:=zw4 r.Clauses
 unfold tokR1 szR blk
 simp only [yB,yC,yF]
 omega
theorem zwH (p:zL):(tokP p).length≤8*szP p:=by
 have:=zbC zwu p.Rules
 unfold tokP szP blk
 simp only [yB,yC,yF]
 omega
theorem zx2 (l:List Int):(jn effT 0 l).length≤2*l.length:=by
 have:=zxX (t:=effT) (m:=fun _=>2) l 0 fun j x _=>Nat.le_refl _
 rw [zvY] at this
 exact this
theorem zwW (p:zI):(tokPr p).length≤8*szPr p:=by
 have:=zvU p.Code
 have:=zx2 p.Effects
 unfold tokPr szPr blk
 simp only [yB,yC,yF]
 omega
theorem zxq (x:zG):(zvP x).length≤8*szSrc x:=by
 have:=zbC zwH x.Policies
 have:=zbC zwW x.Programs
 unfold zvP szSrc
 simp only [yB]
 omega
theorem idxEf {k:Int} (h1:1≤k) (h2:k≤6) {β:Type} (f:List UInt8→Option β):idx z7I (IntKind.i64.wrap (k - 1)) f=f (wordE k):=by
 obtain ⟨m,rfl⟩ : ∃ m:Nat,k=(m:Int)+1:=⟨(k - 1).toNat,by omega⟩
 have hm:m<6:=by omega
 have e:IntKind.i64.wrap ((m:Int)+1 - 1)=(m:Int):=by
  rw [show ((m:Int)+1 - 1)=((m:Nat):Int) by omega]
  exact Go.Abs.zb6 (by omega) (by omega)
 have e2:((m:Int)+1 - 1).toNat=m:=by omega
 rw [e,z5t (l:=z7I) (show m<z7I.length from hm)]
 unfold wordE
 rw [e2,List.getElem?_eq_getElem (show m<z7I.length from hm)]
 rfl
theorem wrules (n:Nat) (p:zL) (w:List Lx) (h:szP p+10<n) (h' : szP p≤100000000) (hw:w.length+8*szL szR p.Rules≤1900000000) {R:Type}:iter (z8d n p) n (0,w)=some (if p.Rules.all formR then .go (w++p.Rules.flatMap tokR1) else .stop (.stop (.stop (.pan 3)))):=by
 unfold szP at h h'
 have hlen:=zce zpe p.Rules
 have key:=zw5 (step:=z8d n p) (l:=p.Rules) (p:=formR) (t:=fun _=>tokR1) (m:=fun r=>8*szR r) (fin:=fun w=>.go w) (pan:=.stop (.stop (.stop (.pan 3)))) 1900000000 (fun _ x _=>zwu x) (fun i hi w' hw'=>by
  have hm:szR p.Rules[i]≤szL szR p.Rules:=z9H (List.getElem_mem hi)
  have hs:szR p.Rules[i]=1+szCs p.Rules[i].Clauses:=rfl
  unfold z8d
  simp only [yW,hi,yQ,yK,z5t hi]
  rw [zf6 _ _ (show 1<n by omega) (by omega)]
  simp only [ob]
  rw [zlr _ _ _ (by simp; omega)]
  simp only [ob]
  have h1:=wclauses n p.Rules[i].Clauses false (by omega) (by omega) (w'++[tW [114,117,108,101]]++[tN p.Rules[i].Name]) (by simp; omega)
  rw [show z4h n ⟨w'++[tW [114,117,108,101]]++[(⟨1,0,p.Rules[i].Name⟩ : Lx)]⟩ p.Rules[i].Clauses false=_ from h1]
  unfold formR tokR1
  rcases yG (zvT false p.Rules[i].Clauses) with hf | hf
  ·rw [hf,zvM rfl]; simp only [yS,zc1 (j:=i) (by omega),yA,yE,yD]
  ·rw [hf]; rfl) (fun w'=>by
  unfold z8d
  simp only [Int.lt_irrefl,yP,yJ]) n 0 w (yX _) (by omega) (by rw [List.drop_zero,zxl]; omega)
 have key' : iter (z8d n p) n (0,w)=_:=key
 rw [key',List.drop_zero,zwL]
theorem wpolicies (n:Nat) (x:zG) (w:List Lx) (h:szSrc x+10<n) (h' : szSrc x≤100000000) (hw:w.length+8*szL szP x.Policies≤1800000000):iter (z8c n x) n (0,w)=some (if x.Policies.all formP then .go (w++x.Policies.flatMap tokP) else .stop (.pan 3)):=by
 unfold szSrc at h h'
 have hlen:=zce znf x.Policies
 have key:=zw5 (step:=z8c n x) (l:=x.Policies) (p:=formP) (t:=fun _=>tokP) (m:=fun r=>8*szP r) (fin:=fun w=>.go w) (pan:=.stop (.pan 3)) 1800000000 (fun _ x _=>zwH x) (fun i hi w' hw'=>by
  have hm:szP x.Policies[i]≤szL szP x.Policies:=z9H (List.getElem_mem hi)
  have hs:szP x.Policies[i]=1+szL szR x.Policies[i].Rules:=rfl
  have hr:=zbC zwu x.Policies[i].Rules
  unfold z8c
  simp only [yW,hi,yQ,yK,z5t hi]
  rw [zf6 _ _ (show 1<n by omega) (by omega)]
  simp only [ob]
  rw [zlr _ _ _ (by simp; omega)]
  simp only [ob]
  rw [zbX _ _ (show 1<n by omega) (by simp; omega)]
  simp only [ob]
  rw [wrules n x.Policies[i] _ (by omega) (by omega) (by simp; omega) (R:=Unit)]
  unfold formP tokP
  rcases yG (x.Policies[i].Rules.all formR) with hf | hf
  rotate_left
  ·rw [hf]; rfl
  ·rw [hf]
   simp only [yS,bJ]
   rw [zbX _ _ (show 1<n by omega) (by simp only [yB,yC,yF]; omega)]
   unfold blk tN
   simp only [ob,zc1 (j:=i) (by omega),yA,yE,yD]) (fun w'=>by
  unfold z8c
  simp only [Int.lt_irrefl,yP,yJ]) n 0 w (yX _) (by omega) (by rw [List.drop_zero,zxl]; omega)
 have key' : iter (z8c n x) n (0,w)=_:=key
 rw [key',List.drop_zero,zwL]
theorem weffects (n:Nat) (p:zI) (w:List Lx) (h:szPr p+10<n) (h' : szPr p≤100000000) (hw:w.length+2*p.Effects.length≤1900000000):iter (z8f n p) n (0,w)=some (if p.Effects.all zvW then .go (w++jn effT 0 p.Effects) else .stop (.stop (.pan 3))):=by
 unfold szPr at h h'
 have key:=zw5 (step:=z8f n p) (l:=p.Effects) (p:=zvW) (t:=effT) (m:=fun _=>2) (fin:=fun w=>.go w) (pan:=.stop (.stop (.pan 3))) 1900000000 (fun _ x _=>Nat.le_refl _) (fun i hi w' hw'=>by
  unfold z8f
  simp only [yW,hi,yQ,yK,z5t hi,znU]
  rw [show (decide (1≤p.Effects[i]) && decide (p.Effects[i]≤6))=zvW p.Effects[i] from rfl]
  rcases yG (zvW p.Effects[i]) with hf | hf
  rotate_left
  ·rw [hf]; rfl
  rw [hf]
  simp only [yS,ob,pbr]
  have hk:1≤p.Effects[i]∧p.Effects[i]≤6:=by
   unfold zvW at hf
   simpa [Bool.and_eq_true] using hf
  have et:∀ {β:Type} (f:List (List UInt8)→Option β),obind z6O f=f z7I:=fun f=>rfl
  have ei:decide ((i:Int)=0)=decide (i=0):=by rw [decide_eq_decide]; omega
  rw [ei]
  unfold effT
  by_cases h0:i=0
  ·rw [yM h0,yK,zf6 _ _ (show 1<n by omega) (by omega),if_pos h0]
   simp only [ob,bJ,et,idxEf hk.1 hk.2]
   rw [zf6 _ _ (show 1<n by omega) (by simp; omega)]
   simp only [ob,zc1 (j:=i) (by omega),yA,yE,yD]
  ·rw [yL h0,yJ,zbX _ _ (show 1<n by omega) (by omega),if_neg h0]
   simp only [ob,bJ,et,idxEf hk.1 hk.2]
   rw [zf6 _ _ (show 1<n by omega) (by simp; omega)]
   simp only [ob,zc1 (j:=i) (by omega),yA,yE,yD]) (fun w'=>by
  unfold z8f
  simp only [Int.lt_irrefl,yP,yJ]) n 0 w (yX _) (by omega) (by rw [List.drop_zero,zvY]; omega)
 have key' : iter (z8f n p) n (0,w)=_:=key
 rw [key',List.drop_zero]
theorem wprograms (n:Nat) (x:zG) (w:List Lx) (h:szSrc x+10<n) (h' : szSrc x≤100000000) (hw:w.length+8*szL szPr x.Programs≤1800000000):iter (z8e n x) n (0,w)=some (wOut (x.Programs.all zw8) (w++x.Programs.flatMap tokPr)):=by
 unfold szSrc at h h'
 have hlen:=zce zkd x.Programs
 have key:=zw5 (step:=z8e n x) (l:=x.Programs) (p:=zw8) (t:=fun _=>tokPr) (m:=fun r=>8*szPr r) (fin:=fun w=>Pn.ret ⟨w⟩) (pan:=.pan 3) 1800000000 (fun _ x _=>zwW x) (fun i hi w' hw'=>by
  have hm:szPr x.Programs[i]≤szL szPr x.Programs:=z9H (List.getElem_mem hi)
  have hs:szPr x.Programs[i]=1+x.Programs[i].Effects.length+szSs x.Programs[i].Code:=rfl
  have he:=zx2 x.Programs[i].Effects
  unfold z8e
  simp only [yW,hi,yQ,yK,z5t hi]
  rw [zf6 _ _ (show 1<n by omega) (by omega)]
  simp only [ob]
  rw [zlr _ _ _ (by simp; omega)]
  simp only [ob]
  rw [weffects n x.Programs[i] _ (by omega) (by omega) (by simp; omega)]
  unfold zw8 tokPr
  rcases yG (x.Programs[i].Effects.all zvW) with hf | hf
  rotate_left
  ·rw [hf]; rfl
  rw [hf]
  simp only [yS,bJ,Bool.true_and]
  rw [wblock n x.Programs[i].Code (by omega) (by omega) _ (by simp; omega)]
  rcases yG (zvK x.Programs[i].Code) with hc | hc
  ·rw [hc,zvM rfl]
   unfold tN
   simp only [yS,zc1 (j:=i) (by omega),yA,yE,yD]
  ·rw [hc]; rfl) (fun w'=>by
  unfold z8e
  simp only [Int.lt_irrefl,yP,yJ]) n 0 w (yX _) (by omega) (by rw [List.drop_zero,zxl]; omega)
 have key' : iter (z8e n x) n (0,w)=_:=key
 rw [key',List.drop_zero,zwL]
 rfl
theorem wsource (n:Nat) (x:zG) (h:szSrc x+10<n) (h' : szSrc x≤100000000):z5Q n ⟨[]⟩ x=some (wOut (zvR x) (zvP x)):=by
 have hs:szSrc x=szL szP x.Policies+szL szPr x.Programs:=rfl
 have hp:=zbC zwH x.Policies
 unfold z5Q
 have h1:=wpolicies n x [] h h' (by simp; omega)
 have h1' : iter (z8c n x) n (0,(⟨[]⟩ : Wr).l_)=_:=h1
 rw [h1']
 unfold zvR zvP
 rcases yG (x.Policies.all formP) with hf | hf
 rotate_left
 ·rw [hf]; rfl
 rw [hf]
 simp only [yS,bJ,yD,Bool.true_and]
 exact wprograms n x _ h h' (by omega)
theorem zvQ {n:List UInt8} {a b:Nat} {u v d:List UInt8} {hd:Bool} (h:restC n a b u v d hd=true):n=[]∧a=0∧b=0∧u=[]∧v=[]∧d=[]∧hd=false:=by
 unfold restC at h
 simp only [Bool.and_eq_true,decide_eq_true_eq,Bool.not_eq_true'] at h
 obtain ⟨⟨⟨⟨h1,h2⟩,h3,h4⟩,h5⟩,h6⟩:=h
 exact ⟨h1,by omega,by omega,h3,h4,h5,h6⟩
theorem zx8 {x:zG} (hs:szSrc x≤12000) (hm:SmT 3000 (zvP x)) {n:Nat} (hn:1000000<n):za1 n x=some (outW (zvR x) (zvP x)):=by
  unfold za1 zc6 zc5
  have hl:=zxq x
  rw [wsource n x (by omega) (by omega)]
  unfold wOut outW
  cases hf:zvR x with
  | false=>rfl
  | true =>
    simp only [yS,ob,pbind,yD]
    rw [zkh (zvP x) (by omega) hm n hn]
    simp only [ob]
    unfold outT
    by_cases h1:(textR (zvP x)).2=1
    · simp only [h1,yQ,yK,yS,ob]
    simp only [h1,yP,yJ,yR]
    by_cases h2:(textR (zvP x)).2≠0
    · simp only [h2,yQ,yK,bJ,ne_eq,yZ,true_or,yS,ob]
    · simp only [h2,yP,yJ,zoA (l:=zvP x) (by omega) (n:=n) (by omega),ob,bJ,false_or]
      rw [zbZ]
      by_cases h3:0≤deepT ((zvP x).map tk) 0 0
      · simp only [h3,yQ,yK,yS,ob]
      · simp only [h3,yP,yJ,yR,ob]
def Gt (t:Tk):Prop:=Tok kwP t.1 t.2∧t.2.length≤3000
section
section
variable {α β : Type}
def Sg (Q:α→Prop) (p:Ps α):Prop:=∀ i ts,(∀ t∈ts,Gt t)→match p.run i ts with | .ok a _ _=>Q a | .bad _ _=>True
end
end
theorem zgm {α:Type} {f:α→List Lx} {g:α→α} (h:∀ x,f (g x)=f x) (l:List α):(l.map g).flatMap f=l.flatMap f:=by
 induction l with
 | nil=>rfl
 | cons x r ih=>rw [yI,List.flatMap_cons,List.flatMap_cons,h,ih]
theorem zzc {α:Type} {m:α→Nat} {l:List α} {i:Nat} (h:i<l.length):szL m (l.take (i+1))=szL m (l.take i)+m l[i]:=by
 rw [zaM h,zhK]; simp [szL]
theorem zzo {α:Type} {m:α→Nat} (l:List α) (i:Nat):szL m (l.take i)≤szL m l:=by
 have:=zhK m (l.take i) (l.drop i)
 rw [List.take_append_drop] at this
 omega
theorem zz2 {α R:Type} {step:Int×Int→Option (Lp (Int×Int) (Lp Int R))} {l:List α} {m a0:Int} {sz:α→Nat} {Q:α→Prop} {bad:R→Prop} {W:Int→Prop}
    (h:∀ (i:Nat) (hi:i<l.length),a0+szL sz (l.take i)≤m→∃ o,step (a0+szL sz (l.take i),(i:Int))=some o∧((∃ r,o = .stop (.stop r)∧bad r)∨∃ a',o = .go (a',((i+1:Nat):Int))∧(a'≤m→a'=a0+szL sz (l.take i)+sz l[i]∧Q l[i])∧W a'))
    (he:∀ (i:Nat) (a:Int),l.length≤i∨m<a→step (a,(i:Int))=some (.stop (.go a))):∀ (n i:Nat) (a:Int),i≤l.length→l.length - i<n→(a≤m→a=a0+szL sz (l.take i)∧∀ y∈l.take i,Q y)→W a→
    ∃ o,iter step n (a,(i:Int))=some o∧((∃ r,o = .stop r∧bad r)∨∃ r,o = .go r∧W r∧(r≤m→r=a0+szL sz l∧∀ y∈l,Q y))
  | 0,_,_,_,h,_,_=>absurd h (yH _)
  | n + 1, i, a, hi, hn, ha, hW => by
    by_cases hl:i<l.length
    · by_cases hm:a≤m
      · obtain ⟨e,hQ⟩:=ha hm
        subst e
        obtain ⟨o,h1,h2⟩:=h i hl hm
        rcases h2 with ⟨r,rfl,hb⟩ | ⟨a',rfl,h3,h4⟩
        · exact ⟨_,z1z h1,.inl ⟨r,rfl,hb⟩⟩
        · rw [z4f h1]
          refine zz2 h he n (i+1) a' hl (by omega) (fun q=>?_) h4
          obtain ⟨e1,e2⟩:=h3 q
          refine ⟨by rw [e1,zzc hl]; omega,fun y hy=>?_⟩
          rw [zaM hl] at hy
          rcases List.mem_append.1 hy with hy | hy
          · exact hQ y hy
          · rw [List.mem_singleton.1 hy]; exact e2
      · exact ⟨_,z1z (he i a (.inr (by omega))),.inr ⟨a,rfl,hW,fun q=>absurd q hm⟩⟩
    · have e:i=l.length:=by omega
      refine ⟨_,z1z (he i a (.inl (by omega))),.inr ⟨a,rfl,hW,fun q=>?_⟩⟩
      have:=ha q
      rw [e,List.take_length] at this
      exact this
theorem zz9:∀ (n:Nat) (x:E) (m:Int),szE x<n→szE x≤1048576→0≤m→m≤1000→∃ r,zdk n x m=some r∧1≤r∧r≤m+1∧(r≤m→r=szE x∧smE 300 x)
  | 0,_,_,h,_,_,_=>absurd h (yH _)
  | n + 1, ⟨op, at_, s, l⟩, m, h, h', hm, hm' => by
    rw [szE,zdQ] at h h'
    have hlen:=zce zd8 l
    show ∃ r,zcT n (zdk n) ⟨op,at_,s,l⟩ m=some r∧_
    unfold zcT
    by_cases hs:300<s.length
    · refine ⟨m+1,?_,by omega,by omega,fun q=>absurd q (by omega)⟩
      rw [yM (show (300:Int)<((⟨op,at_,s,l⟩ : E).S.length:Int) by show (300:Int)<(s.length:Int); omega),yK,Go.Abs.zb6 (by omega) (by omega)]
    rw [yL (show ¬(300:Int)<((⟨op,at_,s,l⟩ : E).S.length:Int) by show ¬(300:Int)<(s.length:Int); omega),yJ]
    obtain ⟨o,h1,h2⟩:=zz2 (step:=zir ⟨op,at_,s,l⟩ m (zdk n)) (l:=l) (m:=m) (a0:=1) (sz:=szE) (Q:=smE 300) (bad:=fun _=>False) (W:=fun a=>1≤a∧a≤m+1) (fun i hi ha=>by
      have hle:szE l[i]≤szL szE l:=z9H (List.getElem_mem hi)
      obtain ⟨r,r1,r2,r3,r4⟩:=zz9 n l[i] (m - (1+szL szE (l.take i))) (by omega) (by omega) (by omega) (by omega)
      refine ⟨_,?_,.inr ⟨1+szL szE (l.take i)+r,rfl,fun q=>?_,by omega,by omega⟩⟩
      · unfold zir
        simp only [yW,hi,ha,yQ,Bool.and_self,yK,z5t hi]
        rw [Go.Abs.zb6 (x:=m - (1+(szL szE (l.take i):Int))) (by omega) (by omega),r1]
        simp only [ob]
        rw [Go.Abs.zb6 (by omega) (by omega),zc1 (j:=i) (by omega)]
      · obtain ⟨e1,e2⟩:=r4 (by omega)
        exact ⟨by omega,e2⟩) (fun i a q=>by
      unfold zir
      have:(decide ((i:Int)<(l.length:Int)) && decide (a≤m))=false:=by
        rcases q with q | q
        · rw [yL (show ¬(i:Int)<(l.length:Int) by omega)]; rfl
        · rw [yL (show ¬ a≤m by omega),Bool.and_false]
      simp only [this,yJ]) n 0 1 (yX _) (by omega) (fun _=>⟨by simp [szL],fun y hy=>absurd hy (by simp)⟩) ⟨by omega,by omega⟩
    have h1' : iter (zir ⟨op,at_,s,l⟩ m (zdk n)) n (1,0)=_:=h1
    rw [h1']
    rcases h2 with ⟨r,_,q⟩ | ⟨r,rfl,⟨w1,w2⟩,q⟩
    · exact absurd q id
    · refine ⟨r,rfl,w1,w2,fun hr=>?_⟩
      obtain ⟨e1,e2⟩:=q hr
      refine ⟨by rw [szE,zdQ]; omega,?_⟩
      rw [smE,zn4]
      exact ⟨by omega,e2⟩
mutual
def smS (M:Nat):St→Prop
 | ⟨_,_,n,x,b,e⟩=>n.length≤M∧smE M x∧smSs M b∧smSs M e
def smSs (M:Nat):List St→Prop
 | []=>True
 | x::r=>smS M x∧smSs M r
end
theorem zzb (M:Nat):∀ l:List St,smSs M l ↔ ∀ x∈l,smS M x
  | []=>⟨fun _ x h=>absurd h y0,fun _=>trivial⟩
  | x :: r => by
    rw [smSs,zzb M r]
    exact ⟨fun h y hy=>by rcases List.mem_cons.1 hy with rfl | hy; exact h.1; exact h.2 y hy,fun h=>⟨h x (List.mem_cons_self ..),fun y hy=>h y (List.mem_cons_of_mem _ hy)⟩⟩
theorem zz8:∀ (n:Nat) (l:List St) (m:Int),szSs l+1<n→szSs l≤1048576→-10000000≤m→m≤1000→∃ r,zbL n l m=some r∧0≤r∧(m<0→r=0)∧(0≤m→r≤m+2)∧(r≤m→r=szSs l∧smSs 300 l)
  | 0,_,_,h,_,_,_=>absurd h (yH _)
  | n + 1, l, m, h, h', hm, hm' => by
    rw [zd9] at h h'
    have hlen:=zce zsB l
    show ∃ r,zaE n (zbL n) l m=some r∧_
    unfold zaE
    obtain ⟨o,h1,h2⟩:=zz2 (step:=zfP n l m (zbL n)) (l:=l) (m:=m) (a0:=0) (sz:=szS) (Q:=smS 300) (bad:=fun r=>r=m+1∧0≤m) (W:=fun a=>0≤a∧(m<0→a=0)∧(0≤m→a≤m+2)) (fun i hi ha=>by
      have hle:szS l[i]≤szL szS l:=z9H (List.getElem_mem hi)
      generalize hT:(0:Int)+szL szS (l.take i)=a at *
      have ha0:0≤a:=by omega
      unfold zfP
      simp only [yW,hi,ha,yQ,Bool.and_self,yK,z5t hi]
      generalize l[i]=x at *
      obtain ⟨k,at_,nm,x,b,e⟩:=x
      rw [szS] at hle
      by_cases hs:300<nm.length
      · refine ⟨_,?_,.inl ⟨m+1,rfl,rfl,by omega⟩⟩
        rw [yM (show (300:Int)<((⟨k,at_,nm,x,b,e⟩ : St).Name.length:Int) by show (300:Int)<(nm.length:Int); omega),yK,Go.Abs.zb6 (by omega) (by omega)]
      rw [yL (show ¬(300:Int)<((⟨k,at_,nm,x,b,e⟩ : St).Name.length:Int) by show ¬(300:Int)<(nm.length:Int); omega),yJ]
      obtain ⟨r1,p1,p2,p3,p4⟩:=zz9 n x (m - a) (by omega) (by omega) (by omega) (by omega)
      rw [Go.Abs.zb6 (x:=m - a) (by omega) (by omega),p1]
      simp only [ob]
      rw [Go.Abs.zb6 (x:=a+1) (by omega) (by omega),Go.Abs.zb6 (x:=a+1+r1) (by omega) (by omega),Go.Abs.zb6 (x:=m - (a+1+r1)) (by omega) (by omega)]
      obtain ⟨r2,q1,q2,q3,q4,q5⟩:=zz8 n b (m - (a+1+r1)) (by omega) (by omega) (by omega) (by omega)
      rw [q1]
      simp only [ob]
      have u2:a+1+r1+r2≤m+2:=by
        by_cases c:m - (a+1+r1)<0
        · have:=q3 c; omega
        · have:=q4 (by omega); omega
      rw [Go.Abs.zb6 (x:=a+1+r1+r2) (by omega) (by omega),Go.Abs.zb6 (x:=m - (a+1+r1+r2)) (by omega) (by omega)]
      obtain ⟨r3,t1,t2,t3,t4,t5⟩:=zz8 n e (m - (a+1+r1+r2)) (by omega) (by omega) (by omega) (by omega)
      rw [t1]
      simp only [ob]
      have u3:a+1+r1+r2+r3≤m+2:=by
        by_cases c:m - (a+1+r1+r2)<0
        · have:=t3 c; omega
        · have:=t4 (by omega); omega
      rw [Go.Abs.zb6 (x:=a+1+r1+r2+r3) (by omega) (by omega),zc1 (j:=i) (by omega)]
      refine ⟨_,rfl,.inr ⟨a+1+r1+r2+r3,rfl,fun q=>?_,by omega,fun q=>absurd q (by omega),fun _=>u3⟩⟩
      obtain ⟨e1,e2⟩:=p4 (by omega)
      obtain ⟨e3,e4⟩:=q5 (by omega)
      obtain ⟨e5,e6⟩:=t5 (by omega)
      refine ⟨by rw [szS]; omega,?_⟩
      rw [smS]
      exact ⟨by omega,e2,e4,e6⟩) (fun i a q=>by
      unfold zfP
      have:(decide ((i:Int)<(l.length:Int)) && decide (a≤m))=false:=by
        rcases q with q | q
        · rw [yL (show ¬(i:Int)<(l.length:Int) by omega)]; rfl
        · rw [yL (show ¬ a≤m by omega),Bool.and_false]
      simp only [this,yJ]) n 0 0 (yX _) (by omega) (fun _=>⟨by simp [szL],fun y hy=>absurd hy (by simp)⟩) ⟨by omega,fun _=>rfl,fun _=>by omega⟩
    have h1' : iter (zfP n l m (zbL n)) n (0,0)=_:=h1
    rw [h1']
    rcases h2 with ⟨r,rfl,q1,q2⟩ | ⟨r,rfl,⟨w1,w2,w3⟩,q⟩
    · exact ⟨r,rfl,by omega,fun c=>absurd c (by omega),fun _=>by omega,fun c=>absurd c (by omega)⟩
    · refine ⟨r,rfl,w1,w2,w3,fun hr=>?_⟩
      obtain ⟨e1,e2⟩:=q hr
      exact ⟨by rw [zd9]; omega,(zzb 300 l).2 e2⟩
mutual
def smC (M:Nat):Cl→Prop
 | ⟨_,_,n,t,am,d,_,c⟩=>((n.length≤M∧d.length≤M)∧am.Number.length≤M∧am.Unit.length≤M)∧(∀ s∈t,s.length≤M)∧smCs M c
def smCs (M:Nat):List Cl→Prop
 | []=>True
 | x::r=>smC M x∧smCs M r
end
theorem zza (M:Nat):∀ l:List Cl,smCs M l ↔ ∀ x∈l,smC M x
  | []=>⟨fun _ x h=>absurd h y0,fun _=>trivial⟩
  | x :: r => by
    rw [smCs,zza M r]
    exact ⟨fun h y hy=>by rcases List.mem_cons.1 hy with rfl | hy; exact h.1; exact h.2 y hy,fun h=>⟨h x (List.mem_cons_self ..),fun y hy=>h y (List.mem_cons_of_mem _ hy)⟩⟩
theorem zz7 {m:Int} {c:Cl} (hm : -100000000≤m∧m≤100000000) (hl:c.Texts.length≤100000000):∀ (n i:Nat) (a:Int),i≤c.Texts.length→c.Texts.length - i<n→0≤a→a≤100000000+i→
    iter (zeH m c) n (a,(i:Int))=some (if ∀ s∈c.Texts.drop i,s.length≤300 then .go (a+(c.Texts.length - i:Nat)) else .stop (.stop (.stop (m+1))))
  | 0,_,_,_,h,_,_=>absurd h (yH _)
  | n + 1, i, a, hi, hn, ha, ha' => by
    by_cases hlt:i<c.Texts.length
    · have e:=List.drop_eq_getElem_cons hlt
      by_cases hs:300<c.Texts[i].length
      · rw [z1z (r:=.stop (.stop (.stop (m+1)))),if_neg (fun q=>by have:=q c.Texts[i] (by rw [e]; exact List.mem_cons_self ..); omega)]
        unfold zeH
        simp only [yW,hlt,yQ,yK,z5t hlt]
        rw [yM (show (300:Int)<(c.Texts[i].length:Int) by omega),yK,Go.Abs.zb6 (by omega) (by omega)]
      · rw [z4f (s':=(a+1,((i+1:Nat):Int))),zz7 hm hl n (i+1) (a+1) hlt (by omega) (by omega) (by omega)]
        · have:(∀ s∈c.Texts.drop i,s.length≤300) ↔ ∀ s∈c.Texts.drop (i+1),s.length≤300:=by
            rw [e]
            exact ⟨fun q s hs=>q s (List.mem_cons_of_mem _ hs),fun q s hq=>by rcases List.mem_cons.1 hq with rfl | hq; omega; exact q s hq⟩
          simp only [this]
          have e3:a+1+((c.Texts.length - (i+1):Nat):Int)=a+((c.Texts.length - i:Nat):Int):=by omega
          rw [e3]
        · unfold zeH
          simp only [yW,hlt,yQ,yK,z5t hlt]
          rw [yL (show ¬(300:Int)<(c.Texts[i].length:Int) by omega),yJ,Go.Abs.zb6 (by omega) (by omega),zc1 (j:=i) (by omega)]
    · have e:i=c.Texts.length:=by omega
      subst e
      rw [z1z (r:=.go a),List.drop_length,if_pos (fun s h=>absurd h y0),Nat.sub_self]
      · simp
      · unfold zeH
        simp only [Int.lt_irrefl,yP,yJ]
theorem zz5:∀ (n:Nat) (l:List Cl) (m:Int),szCs l+1<n→szCs l≤1048576→-10000000≤m→m≤1000→∃ r,zad n l m=some r∧0≤r∧r≤szCs l+1001∧(r≤m→r=szCs l∧smCs 300 l)
  | 0,_,_,h,_,_,_=>absurd h (yH _)
  | n + 1, l, m, h, h', hm, hm' => by
    rw [zjA] at h h'
    have hlen:=zce zsz l
    show ∃ r,z9E n (zad n) l m=some r∧_
    unfold z9E
    obtain ⟨o,h1,h2⟩:=zz2 (step:=zeG n l m (zad n)) (l:=l) (m:=m) (a0:=0) (sz:=szC) (Q:=smC 300) (bad:=fun r=>r=m+1∧0≤m) (W:=fun a=>0≤a∧a≤szL szC l+1001) (fun i hi ha=>by
      have hle:szL szC (l.take i)+szC l[i]≤szL szC l:=by rw [← zzc hi]; exact zzo l (i+1)
      generalize hT:(0:Int)+szL szC (l.take i)=a at *
      have ha0:0≤a:=by omega
      unfold zeG
      simp only [yW,hi,ha,yQ,Bool.and_self,yK,z5t hi]
      generalize l[i]=x at *
      obtain ⟨k,at_,nm,t,am,d,hd,cs⟩:=x
      rw [szC] at hle
      dsimp only
      by_cases hs:(nm.length≤300∧d.length≤300)∧am.Number.length≤300∧am.Unit.length≤300
      rotate_left
      · refine ⟨_,?_,.inl ⟨m+1,rfl,rfl,by omega⟩⟩
        have e:(((decide ((300:Int)<(nm.length:Int)) || decide ((300:Int)<(d.length:Int))) || decide ((300:Int)<(am.Number.length:Int))) || decide ((300:Int)<(am.Unit.length:Int)))=true:=by
          simp only [Bool.or_eq_true,decide_eq_true_eq]; omega
        rw [e,yK,Go.Abs.zb6 (by omega) (by omega)]
      have e:(((decide ((300:Int)<(nm.length:Int)) || decide ((300:Int)<(d.length:Int))) || decide ((300:Int)<(am.Number.length:Int))) || decide ((300:Int)<(am.Unit.length:Int)))=false:=by
        simp only [Bool.or_eq_false_iff,decide_eq_false_iff_not]; omega
      rw [e,yJ]
      have ht:=zz7 (m:=m) (c:=⟨k,at_,nm,t,am,d,hd,cs⟩) (by omega) (by show t.length≤_; omega) n 0 a (yX _) (by show t.length - 0<n; omega) ha0 (by omega)
      have ht' : iter (zeH m ⟨k,at_,nm,t,am,d,hd,cs⟩) n (a,0)=_:=ht
      rw [ht',List.drop_zero]
      dsimp only
      by_cases hts:∀ s∈t,s.length≤300
      rotate_left
      · rw [if_neg hts]
        exact ⟨_,rfl,.inl ⟨m+1,rfl,rfl,by omega⟩⟩
      rw [if_pos hts,bJ,Nat.sub_zero,Go.Abs.zb6 (x:=m - (a+(t.length:Int))) (by omega) (by omega)]
      obtain ⟨r,q1,q2,q3,q4⟩:=zz5 n cs (m - (a+t.length)) (by omega) (by omega) (by omega) (by omega)
      rw [q1]
      simp only [ob]
      rw [Go.Abs.zb6 (x:=a+(t.length:Int)+1) (by omega) (by omega),Go.Abs.zb6 (x:=a+(t.length:Int)+1+r) (by omega) (by omega),zc1 (j:=i) (by omega)]
      refine ⟨_,rfl,.inr ⟨a+t.length+1+r,rfl,fun q=>?_,by omega,by omega⟩⟩
      obtain ⟨e3,e4⟩:=q4 (by omega)
      refine ⟨by rw [szC]; omega,?_⟩
      rw [smC]
      exact ⟨hs,hts,e4⟩) (fun i a q=>by
      unfold zeG
      have:(decide ((i:Int)<(l.length:Int)) && decide (a≤m))=false:=by
        rcases q with q | q
        · rw [yL (show ¬(i:Int)<(l.length:Int) by omega)]; rfl
        · rw [yL (show ¬ a≤m by omega),Bool.and_false]
      simp only [this,yJ]) n 0 0 (yX _) (by omega) (fun _=>⟨by simp [szL],fun y hy=>absurd hy (by simp)⟩) ⟨by omega,by omega⟩
    have h1' : iter (zeG n l m (zad n)) n (0,0)=_:=h1
    rw [h1']
    rcases h2 with ⟨r,rfl,q1,q2⟩ | ⟨r,rfl,⟨w1,w2⟩,q⟩
    · exact ⟨r,rfl,by omega,by omega,fun c=>absurd c (by omega)⟩
    · refine ⟨r,rfl,w1,by rw [zjA]; exact w2,fun hr=>?_⟩
      obtain ⟨e1,e2⟩:=q hr
      exact ⟨by rw [zjA]; omega,(zza 300 l).2 e2⟩
def smR (M:Nat) (r:zQ):Prop:=r.Name.length≤M∧smCs M r.Clauses
def smP (M:Nat) (p:zL):Prop:=p.Name.length≤M∧∀ r∈p.Rules,smR M r
def smPr (M:Nat) (p:zI):Prop:=p.Name.length≤M∧smSs M p.Code
def smSrc (M:Nat) (x:zG):Prop:=(∀ p∈x.Policies,smP M p)∧∀ p∈x.Programs,smPr M p
theorem zzd {x:zG} {n i:Nat} (hi:i<x.Policies.length) (hz:szSrc x≤1048576) (hn:szSrc x+5<n) (a:Int) (ha:0≤a∧a≤300) :
  ∃ o,iter (zk4 n x 300 i) n (a,0)=some o∧(o = .stop (.stop (.stop false))∨∃ r,o = .go r∧(0≤r∧r≤10000000)∧(r≤300→r=a+szL szR x.Policies[i].Rules∧∀ y∈x.Policies[i].Rules,smR 300 y)):=by
 have hp:szP x.Policies[i]≤szL szP x.Policies:=z9H (List.getElem_mem hi)
 have hs:szSrc x=szL szP x.Policies+szL szPr x.Programs:=rfl
 have hs' : szP x.Policies[i]=1+szL szR x.Policies[i].Rules:=rfl
 have hlen:=zce zpe x.Policies[i].Rules
 obtain ⟨o,h1,h2⟩:=zz2 (step:=zk4 n x 300 i) (l:=x.Policies[i].Rules) (m:=300) (a0:=a) (sz:=szR) (Q:=smR 300) (bad:=fun r=>r = .stop (.stop false)) (W:=fun r=>0≤r∧r≤10000000) (fun k hk hak=>by
  have hle:szR x.Policies[i].Rules[k]≤szL szR x.Policies[i].Rules:=z9H (List.getElem_mem hk)
  generalize hT:a+(szL szR (x.Policies[i].Rules.take k):Int)=b at *
  have hb0:0≤b:=by omega
  unfold zk4
  simp only [z5t hi,yW,hk,hak,yQ,Bool.and_self,yK,z5t hk]
  have hsr:szR x.Policies[i].Rules[k]=1+szCs x.Policies[i].Rules[k].Clauses:=rfl
  generalize x.Policies[i].Rules[k]=r at *
  by_cases hnm:300<r.Name.length
  ·refine ⟨_,?_,.inl ⟨_,rfl,rfl⟩⟩
   rw [yM (show (300:Int)<(r.Name.length:Int) by omega),yK]
  rw [yL (show ¬(300:Int)<(r.Name.length:Int) by omega),yJ,Go.Abs.zb6 (x:=300 - b) (by omega) (by omega)]
  obtain ⟨v,q1,q2,q3,q4⟩:=zz5 n r.Clauses (300 - b) (by omega) (by omega) (by omega) (by omega)
  rw [q1]
  simp only [ob]
  rw [Go.Abs.zb6 (x:=b+1) (by omega) (by omega),Go.Abs.zb6 (x:=b+1+v) (by omega) (by omega),zc1 (j:=k) (by omega)]
  refine ⟨_,rfl,.inr ⟨b+1+v,rfl,fun q=>?_,by omega,by omega⟩⟩
  obtain ⟨e3,e4⟩:=q4 (by omega)
  exact ⟨by omega,by omega,e4⟩) (fun k b q=>by
  unfold zk4
  dsimp only
  rw [z5t hi]
  have:(decide ((k:Int)<(x.Policies[i].Rules.length:Int)) && decide (b≤300))=false:=by
   rcases q with q | q
   ·rw [yL (show ¬(k:Int)<(x.Policies[i].Rules.length:Int) by omega)]; rfl
   ·rw [yL (show ¬ b≤300 by omega),Bool.and_false]
  simp only [this,yJ]) n 0 a (yX _) (by omega) (fun _=>⟨by simp [szL],fun y hy=>absurd hy (by simp)⟩) ⟨by omega,by omega⟩
 refine ⟨o,h1,?_⟩
 rcases h2 with ⟨r,rfl,rfl⟩ | ⟨r,rfl,q1,q2⟩
 ·exact .inl rfl
 ·exact .inr ⟨r,rfl,q1,q2⟩
theorem zzm (x:zG) {n:Nat} (hz:szSrc x≤1048576) (hn:szSrc x+5<n):∃ b,zii n x 300=some b∧(b=true→szSrc x≤1000∧smSrc 300 x):=by
 have hs:szSrc x=szL szP x.Policies+szL szPr x.Programs:=rfl
 have hl1:=zce znf x.Policies
 have hl2:=zce zkd x.Programs
 unfold zii
 rw [Go.Abs.zb6 (x:=(x.Policies.length:Int)+(x.Programs.length:Int)) (by omega) (by omega)]
 obtain ⟨o,h1,h2⟩:=zz2 (step:=zk3 n x 300) (l:=x.Policies) (m:=300) (a0:=(x.Policies.length:Int)+(x.Programs.length:Int)) (sz:=fun p=>szL szR p.Rules) (Q:=smP 300) (bad:=fun r=>r=false) (W:=fun r=>0≤r∧r≤10000000) (fun i hi ha=>by
  generalize hT:(x.Policies.length:Int)+(x.Programs.length:Int)+(szL (fun p:zL=>szL szR p.Rules) (x.Policies.take i):Int)=b at *
  have hb0:0≤b:=by omega
  unfold zk3
  simp only [yW,hi,ha,yQ,Bool.and_self,yK,z5t hi]
  by_cases hnm:300<x.Policies[i].Name.length
  ·refine ⟨_,?_,.inl ⟨false,rfl,rfl⟩⟩
   rw [yM (show (300:Int)<(x.Policies[i].Name.length:Int) by omega)]; rfl
  rw [yL (show ¬(300:Int)<(x.Policies[i].Name.length:Int) by omega),yJ]
  obtain ⟨o,q1,q2⟩:=zzd hi hz hn b ⟨hb0,ha⟩
  rw [q1]
  rcases q2 with rfl | ⟨r,rfl,⟨q3,q4⟩,q5⟩
  ·exact ⟨_,rfl,.inl ⟨false,rfl,rfl⟩⟩
  ·rw [bJ,zc1 (j:=i) (by omega)]
   refine ⟨_,rfl,.inr ⟨r,rfl,fun q=>?_,q3,q4⟩⟩
   obtain ⟨e1,e2⟩:=q5 q
   exact ⟨e1,by omega,e2⟩) (fun i b q=>by
  unfold zk3
  have:(decide ((i:Int)<(x.Policies.length:Int)) && decide (b≤300))=false:=by
   rcases q with q | q
   ·rw [yL (show ¬(i:Int)<(x.Policies.length:Int) by omega)]; rfl
   ·rw [yL (show ¬ b≤300 by omega),Bool.and_false]
  simp only [this,yJ]) n 0 ((x.Policies.length:Int)+(x.Programs.length:Int)) (yX _) (by omega) (fun _=>⟨by simp [szL],fun y hy=>absurd hy (by simp)⟩) ⟨by omega,by omega⟩
 have h1' : iter (zk3 n x 300) n ((x.Policies.length:Int)+(x.Programs.length:Int),0)=_:=h1
 rw [h1']
 rcases h2 with ⟨r,rfl,rfl⟩ | ⟨r,rfl,⟨w1,w2⟩,q⟩
 ·exact ⟨false,rfl,fun c=>by cases c⟩
 rw [bJ]
 obtain ⟨o,h3,h4⟩:=zz2 (step:=zk5 n x 300) (l:=x.Programs) (m:=300) (a0:=r) (sz:=fun p=>p.Effects.length+szSs p.Code) (Q:=smPr 300) (bad:=fun r=>r=false) (W:=fun r=>0≤r∧r≤20000000) (fun i hi ha=>by
  generalize hT:r+(szL (fun p:zI=>p.Effects.length+szSs p.Code) (x.Programs.take i):Int)=b at *
  have hb0:0≤b:=by omega
  unfold zk5
  simp only [yW,hi,ha,yQ,Bool.and_self,yK,z5t hi]
  have hp:szPr x.Programs[i]≤szL szPr x.Programs:=z9H (List.getElem_mem hi)
  have hs' : szPr x.Programs[i]=1+x.Programs[i].Effects.length+szSs x.Programs[i].Code:=rfl
  generalize x.Programs[i]=p at *
  by_cases hnm:300<p.Name.length
  ·refine ⟨_,?_,.inl ⟨false,rfl,rfl⟩⟩
   rw [yM (show (300:Int)<(p.Name.length:Int) by omega)]; rfl
  rw [yL (show ¬(300:Int)<(p.Name.length:Int) by omega),yJ,Go.Abs.zb6 (x:=300 - b) (by omega) (by omega)]
  obtain ⟨v,q1,q2,q3,q4,q5⟩:=zz8 n p.Code (300 - b) (by omega) (by omega) (by omega) (by omega)
  have q6:=q4 (by omega)
  rw [q1]
  simp only [ob]
  rw [Go.Abs.zb6 (x:=b+(p.Effects.length:Int)) (by omega) (by omega),Go.Abs.zb6 (x:=b+(p.Effects.length:Int)+v) (by omega) (by omega),zc1 (j:=i) (by omega)]
  refine ⟨_,rfl,.inr ⟨b+p.Effects.length+v,rfl,fun q=>?_,by omega,by omega⟩⟩
  obtain ⟨e3,e4⟩:=q5 (by omega)
  exact ⟨by omega,by omega,e4⟩) (fun i b q=>by
  unfold zk5
  have:(decide ((i:Int)<(x.Programs.length:Int)) && decide (b≤300))=false:=by
   rcases q with q | q
   ·rw [yL (show ¬(i:Int)<(x.Programs.length:Int) by omega)]; rfl
   ·rw [yL (show ¬ b≤300 by omega),Bool.and_false]
  simp only [this,yJ]) n 0 r (yX _) (by omega) (fun _=>⟨by simp [szL],fun y hy=>absurd hy (by simp)⟩) ⟨by omega,by omega⟩
 have h3' : iter (zk5 n x 300) n (r,0)=_:=h3
 rw [h3']
 rcases h4 with ⟨v,rfl,rfl⟩ | ⟨v,rfl,⟨w3,w4⟩,q'⟩
 ·exact ⟨false,rfl,fun c=>by cases c⟩
 rw [bJ]
 refine ⟨decide (v≤300),rfl,fun c=>?_⟩
 obtain ⟨e1,e2⟩:=q' (of_decide_eq_true c)
 have hc:=of_decide_eq_true c
 obtain ⟨e3,e4⟩:=q (by omega)
 have z1:∀ l:List zL,szL szP l=l.length+szL (fun p=>szL szR p.Rules) l:=fun l=>by
  induction l with
  | nil=>rfl
  | cons p r ih=>simp only [szL,ih,szP,yC]; omega
 have z2:∀ l:List zI,szL szPr l=l.length+szL (fun p=>p.Effects.length+szSs p.Code) l:=fun l=>by
  induction l with
  | nil=>rfl
  | cons p r ih=>simp only [szL,ih,szPr,yC]; omega
 refine ⟨?_,e4,e2⟩
 have:=z1 x.Policies
 have:=z2 x.Programs
 omega
theorem zzn {M N:Nat} (h:M≤N) {T:List Lx} (ht:SmT M T):SmT N T:=fun t q=>Nat.le_trans (ht t q) h
theorem smT_k {t:Lx} (h:t.S.length≤300):SmT 300 [t]:=zeZ h
theorem smT_c {t:Lx} {T:List Lx} (h:t.S.length≤300) (hT:SmT 300 T):SmT 300 (t::T):=zcd (a:=[t]) (zeZ h) hT
theorem zz4 {α:Type} {f:α→List Lx} {l:List α} (h:∀ x∈l,SmT 300 (f x)):SmT 300 (l.flatMap f):=fun t ht=>by
 obtain ⟨x,hx,hu⟩:=List.mem_flatMap.1 ht
 exact h x hx t hu
theorem zz3 {T:List Lx} (h:SmT 300 T):SmT 300 (blk T):=zcd (zcd (smT_k (by decide)) h) (smT_k (by decide))
theorem zzj {e:List St} {T:List Lx} (h:SmT 300 T):SmT 300 (elseT e T):=by
 unfold elseT
 split
 ·exact smT_c (t:=tW [101,108,115,101]) (by decide) h
 split
 ·exact zn7
 ·exact smT_c (t:=tW [101,108,115,101]) (by decide) (zz3 h)
theorem zzk (k:Int) {n:List UInt8} (h:n.length≤300):SmT 300 (headS k n):=by
 unfold headS
 repeat' split
 ·exact smT_c (t:=tW [108,101,116]) (by decide) (smT_c (t:=tN n) h (smT_k (by decide)))
 ·exact smT_c (t:=tW [115,101,116]) (by decide) (smT_c (t:=tN n) h (smT_k (by decide)))
 ·exact smT_c (t:=tW [115,101,116]) (by decide) (smT_c (t:=tW [104,101,97,100,101,114]) (by decide) (smT_c (t:=tQ n) h (smT_k (by decide))))
 ·exact smT_c (t:=tW [115,101,116]) (by decide) (smT_c (t:=tW [115,116,97,116,117,115]) (by decide) (smT_k (by decide)))
 ·exact smT_k (by decide)
 ·exact smT_k (by decide)
 ·exact smT_k (by decide)
mutual
theorem smT_S:∀ s:St,smS 300 s→SmT 300 (tokS s)
  | ⟨k, a, n, x, b, e⟩, h => by
    rw [smS] at h
    obtain ⟨h1,h2,h3,h4⟩:=h
    have e1:=smT_E (M:=300) (by decide) x h2
    have e2:=zze b h3
    have e3:=zze e h4
    rw [tokS]
    unfold bodyS
    split
    · exact zcd (zcd (smT_c (t:=tW [105,102]) (by decide) e1) (zz3 e2)) (zzj e3)
    split
    · exact zcd (smT_c (t:=tW [114,101,112,101,97,116]) (by decide) e1) (zz3 e2)
    · exact zcd (zcd (zzk k h1) e1) (smT_k (by decide))
theorem zze:∀ l:List St,smSs 300 l→SmT 300 (tokSs l)
  | [],_=>zn7
  | x :: r, h => by
    rw [smSs] at h
    rw [tokSs]
    exact zcd (smT_S x h.1) (zze r h.2)
end
theorem zz6 {k:Int} {l:List (List UInt8)} (h:∀ s∈l,s.length≤300):SmT 300 (comT k l):=by
 unfold comT
 rw [zxY]
 refine zz4 fun p hp=>?_
 obtain ⟨x,j⟩:=p
 have hx:=h x (List.fst_mem_of_mem_zipIdx hp)
 unfold oneT
 refine zcd ?_ (smT_k hx)
 split
 ·exact zn7
 ·exact smT_k (by decide)
theorem zzf (k:Int):(wordC k).length≤300:=by
 unfold wordC
 have all:∀ s∈z5y,s.length≤300:=by decide
 cases h:z5y[(k - 1).toNat]? with
 | none=>exact yX _
 | some s=>exact all s (List.mem_of_getElem? h)
theorem zzg (k:Int):(wordE k).length≤300:=by
 unfold wordE
 have all:∀ s∈z7I,s.length≤300:=by decide
 cases h:z7I[(k - 1).toNat]? with
 | none=>exact yX _
 | some s=>exact all s (List.mem_of_getElem? h)
mutual
theorem smT_C:∀ c:Cl,smC 300 c→SmT 300 (tokC c)
  | ⟨k, a, n, t, am, d, hd, c⟩, h => by
    rw [smC] at h
    obtain ⟨⟨⟨h1,h2⟩,h3,h4⟩,h5,h6⟩:=h
    have e1:=zzi c h6
    rw [tokC]
    refine zcd (zcd (smT_k (zzf k)) ?_) ?_
    · unfold bodyC
      split
      · exact zz6 h5
      split
      · exact zz6 h5
      split
      · exact zz6 h5
      split
      · refine zcd (zcd (smT_c (t:=tQ n) h1 (smT_k (by decide))) (zz6 h5)) ?_
        split
        · exact smT_c (t:=tW [100,101,102,97,117,108,116]) (by decide) (smT_k (t:=tQ d) h2)
        · exact zn7
      split
      · exact smT_k (t:=tN n) h1
      split
      · exact zz3 e1
      split
      · exact zn7
      · unfold amT
        refine smT_c (t:=tD am.Number) h3 ?_
        split
        · exact zn7
        · exact smT_k (t:=tN am.Unit) h4
    · unfold endC
      split
      · exact zn7
      · exact smT_k (by decide)
theorem zzi:∀ l:List Cl,smCs 300 l→SmT 300 (tokCs l)
  | [],_=>zn7
  | x :: r, h => by
    rw [smCs] at h
    rw [tokCs]
    exact zcd (smT_C x h.1) (zzi r h.2)
end
theorem zzl {x:zG} (h:smSrc 300 x):SmT 300 (zvP x):=by
 unfold zvP
 refine zcd (zz4 fun p hp=>?_) (zz4 fun p hp=>?_)
 ·obtain ⟨h1,h2⟩:=h.1 p hp
  unfold tokP
  refine zcd (smT_c (t:=tW [112,111,108,105,99,121]) (by decide) (smT_k (t:=tN p.Name) h1)) (zz3 (zz4 fun r hr=>?_))
  obtain ⟨h3,h4⟩:=h2 r hr
  unfold tokR1
  exact zcd (smT_c (t:=tW [114,117,108,101]) (by decide) (smT_k (t:=tN r.Name) h3)) (zz3 (zzi _ h4))
 ·obtain ⟨h1,h2⟩:=h.2 p hp
  unfold tokPr
  refine zcd (zcd (smT_c (t:=tW [112,114,111,103,114,97,109]) (by decide) (smT_k (t:=tN p.Name) h1)) ?_) (zz3 (zze _ h2))
  rw [zxY]
  refine zz4 fun q hq=>?_
  unfold effT
  refine zcd (a:=[_]) (smT_k ?_) (smT_k (zzg _))
  split <;> decide
end Go.Proofs.YtcmaoifiiigggaaGreatDoor
