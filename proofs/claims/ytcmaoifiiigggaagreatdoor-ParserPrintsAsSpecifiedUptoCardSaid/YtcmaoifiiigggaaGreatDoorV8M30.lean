/-
  Texts that stand side by side: Sc, Sd.
-/
import Derived.Test.YtcmaoifiiigggaaGreatDoorV8M28
import Derived.Test.YtcmaoifiiigggaaGreatDoorV8G5c
set_option linter.unusedSimpArgs false
set_option linter.unusedVariables false
namespace Go.Proofs.YtcmaoifiiigggaaGreatDoor
open Go.Abs Go.Ps Go.Lex
theorem zpp (op:Int):zdj op=some (if op=23 then -1 else if 1≤op∧op≤7 then 0 else if op=8∨op=9 then 1 else if 10≤op∧op≤22 then 2 else -2):=by
 unfold zdj
 by_cases h1:op=23
 ·simp [h1]
 by_cases h2:1≤op∧op≤7
 ·simp [h1,h2]
 have h2' : (decide (1≤op) && decide (op≤7))=false:=by
  cases h:(decide (1≤op) && decide (op≤7)) with
  | false=>rfl
  | true=>simp at h; exact absurd h h2
 by_cases h3:op=8∨op=9
 ·rcases h3 with rfl | rfl <;> rfl
 have h3' : (decide (op=8) || decide (op=9))=false:=by
  cases h:(decide (op=8) || decide (op=9)) with
  | false=>rfl
  | true=>simp at h; exact absurd h h3
 by_cases h4:10≤op∧op≤22
 ·simp [h1,h2,h2',h3,h3',h4]
 have h4' : (decide (10≤op) && decide (op≤22))=false:=by
  cases h:(decide (10≤op) && decide (op≤22)) with
  | false=>rfl
  | true=>simp at h; exact absurd h h4
 simp only [h1,h2,h2',h3,h3',h4,h4',yP,yJ,yR]
theorem zlI {step:Int→Option (Lp Int (Lp Unit Bool))} {α:Type} {l:List α} {p:α→Bool} (h:∀ (i:Nat) (hi:i<l.length),step (i:Int)=some (if p l[i] then .go ((i+1:Nat):Int) else .stop (.stop false))) (he:step (l.length:Int)=some (.stop (.go ()))):∀ (n i:Nat),i≤l.length→l.length - i<n→bindJ (iter step n (i:Int)) (fun _=>some true)=some ((l.drop i).all p)
  | 0,_,_,h=>absurd h (yH _)
  | n + 1, i, hi, hn => by
    by_cases hl:i<l.length
    · have h1:=h i hl
      rw [List.drop_eq_getElem_cons hl,List.all_cons]
      cases hp:p l[i] with
      | false=>rw [hp] at h1; rw [z1z h1]; rfl
      | true =>
        rw [hp] at h1
        simp only [yS] at h1
        rw [z4f h1,Bool.true_and]
        exact zlI h he n (i+1) hl (by omega)
    · have e:i=l.length:=by omega
      subst e
      rw [z1z he,List.drop_length]; rfl
theorem ztY (op:Int) (s:List UInt8) (k:Nat) (r:Int) (hr:r=if op=23 then -1 else if 1≤op∧op≤7 then 0 else if op=8∨op=9 then 1 else if 10≤op∧op≤22 then 2 else -2) (K:Option Bool) :
    cond (((decide (0≤r) && decide ((k:Int)≠r)) || (decide (r=(-1)) && decide ((k:Int)<2))) || decide (r=(-2)))
  (some false)
  (cond ((!(((decide (op = 1) || decide (op = 2)) || decide (op = 3)) || decide (op = 6))) && (!decide (s = [])))
   (some false) K)=if locE op s k then K else some false:=by
  have key:∀ b:Bool,b=true∨b=false:=by decide
  unfold locE
  by_cases o1:op=1∨op=2∨op=3∨op=6
  · have hr' : r=0:=by rw [hr,if_neg (by omega),if_pos (by omega)]
    subst hr'
    have e:(((decide (op=1) || decide (op=2)) || decide (op=3)) || decide (op=6))=true:=by rcases o1 with rfl | rfl | rfl | rfl <;> rfl
    rw [if_pos o1,e]
    by_cases q:k=0
    · subst q; rfl
    · rw [yL q]
      have:decide ((k:Int)≠0)=true:=yM (by omega)
      rw [this]; rfl
  obtain ⟨n1,n2,n3,n6⟩ : op≠1∧op≠2∧op≠3∧op≠6:=⟨fun q=>o1 (.inl q),fun q=>o1 (.inr (.inl q)),fun q=>o1 (.inr (.inr (.inl q))),fun q=>o1 (.inr (.inr (.inr q)))⟩
  rw [if_neg o1]
  simp only [n1,n2,n3,n6,yP,Bool.or_self,yT,Bool.true_and]
  by_cases hs:s=[]
  rotate_left
  · simp only [hs,yP,yT,yK,Bool.false_and,yN,yR]
    exact Bool.cond_self ..
  simp only [hs,yQ,yU,yJ,Bool.true_and]
  by_cases o2:op=4∨op=5∨op=7
  · have hr' : r=0:=by rw [hr,if_neg (by omega),if_pos (by omega)]
    subst hr'
    rw [if_pos o2]
    by_cases q:k=0
    · subst q; rfl
    · rw [yL q]
      have:decide ((k:Int)≠0)=true:=yM (by omega)
      rw [this]; rfl
  rw [if_neg o2]
  by_cases o3:op=8∨op=9
  · have hr' : r=1:=by rw [hr,if_neg (by omega),if_neg (by omega),if_pos o3]
    subst hr'
    rw [if_pos o3]
    by_cases q:k=1
    · subst q; rfl
    · rw [yL q]
      have:decide ((k:Int)≠1)=true:=yM (by omega)
      rw [this]; rfl
  rw [if_neg o3]
  by_cases o4:op=23
  · have hr' : r = -1:=by rw [hr,if_pos o4]
    subst hr'
    rw [if_pos o4]
    by_cases q:2≤k
    · have:decide ((k:Int)<2)=false:=yL (by omega)
      rw [yM q,this]; rfl
    · have:decide ((k:Int)<2)=true:=yM (by omega)
      rw [yL q,this]; rfl
  rw [if_neg o4]
  by_cases o5:10≤op∧op≤22
  · have hr' : r=2:=by rw [hr,if_neg o4,if_neg (by omega),if_neg o3,if_pos o5]
    subst hr'
    rw [yM o5.1,yM o5.2]
    by_cases q:k=2
    · subst q; rfl
    · rw [yL q]
      have:decide ((k:Int)≠2)=true:=yM (by omega)
      rw [this]; rfl
  · have hr' : r = -2:=by rw [hr,if_neg o4,if_neg (by omega),if_neg o3,if_neg o5]
    subst hr'
    have:(decide (10≤op) && decide (op≤22))=false:=by
      cases h:(decide (10≤op) && decide (op≤22)) with
      | false=>rfl
      | true=>simp at h; exact absurd h o5
    rw [this]
    simp
theorem rformed:∀ (n:Nat) (x:E),szE x+1<n→szE x≤100000000→z93 n x=some (formE x)
  | 0,_,h,_=>absurd h (yH _)
  | n + 1, ⟨op, a, s, l⟩, h, h' => by
    rw [szE] at h h'
    have hlen:=zgS l
    show z7E n (z93 n) ⟨op,a,s,l⟩=_
    unfold z7E
    rw [zpp,formE,zei]
    simp only [ob]
    refine (ztY op s l.length _ rfl _).trans ?_
    cases hl:locE op s l.length with
    | false=>rfl
    | true =>
      simp only [yS,Bool.true_and]
      refine (zlI (p:=formE) (l:=l) (fun i hi=>?_) ?_ n 0 (yX _) (by omega)).trans (by rw [List.drop_zero])
      · have hm:=zkc hi
        unfold zaZ
        simp only [yW,hi,yQ,yK,z5t hi,rformed n l[i] (by omega) (by omega),ob,zc1 (j:=i) (by omega)]
        cases formE l[i] <;> rfl
      · unfold zaZ
        simp only [Int.lt_irrefl,yP,yJ]
theorem zse (op:Int) (h:8≤op∧op≤22):z9P op=some (opTok op):=by
 have h' : op=8∨op=9∨op=10∨op=11∨op=12∨op=13∨op=14∨op=15∨op=16∨op=17∨op=18∨op=19∨op=20∨op=21∨op=22:=by omega
 rcases h' with rfl | rfl | rfl | rfl | rfl | rfl | rfl | rfl | rfl | rfl | rfl | rfl | rfl | rfl | rfl <;> rfl
theorem rclosed {F:E→Option (List Lx)} {x:E} (h:F x=some (tokE x)) (hs:szE x≤100000000):z6A F x=some (clos x (tokE x)):=by
 unfold z6A clos
 have hl:=z6f x
 by_cases h0:x.Args.length=0
 ·rw [yM (p:=(x.Args.length:Int)=0) (by omega),yK,if_pos h0,h]; rfl
 ·rw [yL (p:=(x.Args.length:Int)=0) (by omega),yJ,if_neg h0,h]
  unfold z6n
  simp only [ob]
  rw [z1n (by simp; omega),z1n (by simp; omega)]
  rfl
theorem zkS (X:E) {F:E→Option (List Lx)} (hF:∀ x∈X.Args,F x=some (tokE x)):∀ (n i:Nat) (w:List Lx),2≤i→i≤X.Args.length→X.Args.length - i<n→w.length+7*szL szE (X.Args.drop i)≤4000000000→X.Args.length≤100000000→
    iter (z7v X F) n (w,(i:Int))=some (.go (w++(X.Args.drop i).flatMap fun x=>[tG [44]]++tokE x))
  | 0,_,_,_,_,h,_,_=>absurd h (yH _)
  | n + 1, i, w, h1, hi, hn, hw, hl => by
    by_cases hlt:i<X.Args.length
    · have e:=List.drop_eq_getElem_cons hlt
      have hz:=zd8 X.Args[i]
      have hy:=z6f X.Args[i]
      rw [e,szL] at hw
      rw [e,List.flatMap_cons]
      rw [z4f (s':=(w++[tG [44]]++tokE X.Args[i],((i+1:Nat):Int)))]
      · rw [zkS X hF n (i+1) _ (by omega) (by omega) (by omega) (by simp; omega) hl]
        simp only [yA]
      · unfold z7v z6n
        simp only [yW,hlt,yQ,yK,z5t hlt,ob]
        rw [yM (show (1:Int)<(i:Int) by omega),yK,z1n (by simp; omega),bJ,hF _ (List.getElem_mem hlt)]
        simp only [ob]
        rw [z1n (by simp; omega),zc1 (j:=i) (by omega)]
        rfl
    · have e:X.Args.drop i=[]:=List.drop_eq_nil_of_le (by omega)
      rw [e,z1z (r:=.go w)]
      · simp
      · unfold z7v
        simp only [yW,hlt,yP,yJ]
theorem rtokens:∀ (n:Nat) (x:E),szE x+1<n→szE x≤100000000→formE x=true→z5X n x=some (tokE x)
  | 0,_,h,_,_=>absurd h (yH _)
  | n + 1, ⟨op, a, s, l⟩, h, h', hf => by
    rw [szE] at h h'
    rw [formE,zei,Bool.and_eq_true,List.all_eq_true] at hf
    obtain ⟨hloc,hall⟩:=hf
    have hlen:=zgS l
    have hF:∀ x∈l,z5X n x=some (tokE x):=fun x hx=>by
      have h1:szE x≤szEs l:=by rw [zdQ]; exact z9H hx
      exact rtokens n x (by omega) (by omega) (hall x hx)
    have hC:∀ x∈l,z6A (z5X n) x=some (clos x (tokE x)):=fun x hx=>by
      have h1:szE x≤szEs l:=by rw [zdQ]; exact z9H hx
      exact rclosed (hF x hx) (by omega)
    show z7F n (z5X n) ⟨op,a,s,l⟩=_
    unfold z7F
    rw [tokE,zgb]
    unfold zhD zfH zdK z5b z6n bodyE
    unfold locE at hloc
    simp only [ob]
    by_cases o1:op=1
    · simp only [o1,yQ,yK,yS]; rfl
    by_cases o2:op=2
    · simp only [o1,o2,show ¬((2:Int)=1) by decide,yQ,yP,yK,yJ,yS,yR]; rfl
    by_cases o3:op=3
    · simp only [o3,show ¬((3:Int)=1) by decide,show ¬((3:Int)=2) by decide,yQ,yP,yK,yJ,yS,yR]; rfl
    by_cases o4:op=4
    · simp only [o4,show ¬((4:Int)=1) by decide,show ¬((4:Int)=2) by decide,show ¬((4:Int)=3) by decide,yQ,yP,yK,yJ,yS,yR]; rfl
    by_cases o5:op=5
    · simp only [o5,show ¬((5:Int)=1) by decide,show ¬((5:Int)=2) by decide,show ¬((5:Int)=3) by decide,show ¬((5:Int)=4) by decide,yQ,yP,yK,yJ,yS,yR]; rfl
    by_cases o7:op=7
    · simp only [o7,show ¬((7:Int)=1) by decide,show ¬((7:Int)=2) by decide,show ¬((7:Int)=3) by decide,show ¬((7:Int)=4) by decide,show ¬((7:Int)=5) by decide,yQ,yP,yK,yJ,yS,yR]; rfl
    by_cases o6:op=6
    · simp only [o6,show ¬((6:Int)=1) by decide,show ¬((6:Int)=2) by decide,show ¬((6:Int)=3) by decide,show ¬((6:Int)=4) by decide,show ¬((6:Int)=5) by decide,show ¬((6:Int)=7) by decide,yQ,yP,yK,yJ,yS,yR]; rfl
    simp only [o1,o2,o3,o4,o5,o6,o7,yP,yJ,yR]
    rw [if_neg (show ¬(op=1∨op=2∨op=3∨op=6) by omega),if_neg (show ¬(op=4∨op=5∨op=7) by omega),Bool.and_eq_true] at hloc
    obtain ⟨_,hloc⟩:=hloc
    by_cases o8:op=8∨op=9
    · rw [if_pos o8] at hloc ⊢
      have hb:(bindJ (S:=Bool) (R:=List Lx) (cond (decide (op=8)) (some (.go (decide (op=8)))) (some (.go (decide (op=9))))))=fun K=>K true:=by
        funext K
        rcases o8 with rfl | rfl <;> rfl
      rw [hb]
      have q:l.length=1:=of_decide_eq_true hloc
      match l,q,hF,hC,hlen,h,h' with
      | [x], _, hF, hC, hlen, h, h' =>
        have hx:=hC x (List.mem_cons_self ..)
        have hz:szEs [x]=szE x:=by simp [szEs]
        have lx:=z6f x
        have lc:=zaR x (tokE x)
        simp only [yK,zse op (by omega),ob]
        rw [show (0:Int)=((0:Nat):Int) from rfl,z4e (x:=x) rfl,hx]
        simp only [ob]
        rw [z1n (by simp; omega)]
        rfl
    rw [if_neg o8] at hloc ⊢
    obtain ⟨n8,n9⟩ : op≠8∧op≠9:=⟨fun q=>o8 (.inl q),fun q=>o8 (.inr q)⟩
    simp only [n8,n9,yP,yJ,bJ]
    by_cases o23:op=23
    · rw [if_pos o23] at hloc ⊢
      simp only [yM o23,yK]
      have q:2≤l.length:=of_decide_eq_true hloc
      match l,q,hF,hC,hlen,h,h' with
      | x :: y :: r, _, hF, hC, hlen, h, h' =>
        have hx:=hC x (List.mem_cons_self ..)
        have hy:=hF y (List.mem_cons_of_mem _ (List.mem_cons_self ..))
        have hz:szEs (x::y::r)=szE x+(szE y+szL szE r):=by simp [szEs,zdQ]
        have lx:=z6f x
        have ly:=z6f y
        have lc:=zaR x (tokE x)
        rw [hz] at h h' hlen
        rw [show (0:Int)=((0:Nat):Int) from rfl,z4e (x:=x) rfl,hx]
        simp only [ob]
        rw [z1n (by simp; omega)]
        obtain ⟨n,rfl⟩ : ∃ m,n=m+1:=⟨n - 1,by omega⟩
        rw [z4f (s':=(clos x (tokE x)++[tW [105,110],tG [40]]++tokE y,((2:Nat):Int)))]
        · rw [zkS ⟨op,a,s,x::y::r⟩ hF n 2 _ (Nat.le_refl _) (by simp) (by simp at hlen ⊢; omega) (by show _+7*szL szE r≤_; simp; omega) (by show (x::y::r).length≤_; omega)]
          simp only [bJ]
          have hr:∀ r:List E,(r.flatMap fun x=>[tG [44]]++tokE x).length≤7*szL szE r:=by
            intro r
            induction r with
            | nil=>simp
            | cons z r ih =>
              have:=z6f z
              have:=zd8 z
              simp only [List.flatMap_cons,yB,yC,yF,szL] at ih ⊢
              omega
          have hr':=hr r
          rw [show (x::y::r).drop 2=r from rfl]
          rw [z1n (by simp at hr' ⊢; omega)]
          have e1:zaQ (x::y::r) ((x::y::r).map tokE) 0=clos x (tokE x):=rfl
          have e2:((x::y::r).map tokE).drop 1=tokE y::r.map tokE:=rfl
          have e3:(r.map tokE).flatMap (fun u=>[tG [44]]++u)=r.flatMap fun x=>[tG [44]]++tokE x:=by rw [List.flatMap_map]
          rw [e1,e2,commas,e3]
          simp only [yA]
          rfl
        · unfold z7v
          simp only []
          rw [yM (show (1:Int)<((x::y::r).length:Int) by simp; omega),yK]
          simp only [Int.lt_irrefl,yP,yJ,bJ]
          rw [show (1:Int)=((1:Nat):Int) from rfl,z4e (x:=y) rfl,hy]
          simp only [ob]
          rw [z1n (by simp; omega)]
          rfl
    rw [if_neg o23] at hloc ⊢
    simp only [o23,yP,yJ]
    simp only [Bool.and_eq_true,decide_eq_true_eq] at hloc
    obtain ⟨⟨q1,q2⟩,q⟩:=hloc
    match l,q,hF,hC,hlen,h,h' with
    | [x, y], _, hF, hC, hlen, h, h' =>
      have hx:=hC x (List.mem_cons_self ..)
      have hy:=hC y (List.mem_cons_of_mem _ (List.mem_cons_self ..))
      have hz:szEs [x,y]=szE x+szE y:=by simp [szEs]
      have lx:=z6f x
      have ly:=z6f y
      have lc:=zaR x (tokE x)
      have lc':=zaR y (tokE y)
      rw [show (0:Int)=((0:Nat):Int) from rfl,z4e (x:=x) rfl,hx]
      simp only [ob,zse op (by omega)]
      rw [z1n (by simp; omega),show (1:Int)=((1:Nat):Int) from rfl,z4e (x:=y) rfl,hy]
      simp only [ob]
      rw [z1n (by simp; omega)]
      rfl
def outT (T:List Lx):List UInt8×Int:=if (textR T).2=1 then ([],3) else if (textR T).2≠0∨0≤deepT (T.map tk) 0 0 then ([],2) else ((textR T).1,0)
def outW (b:Bool) (T:List Lx):List UInt8×Int:=if b then outT T else ([],3)
mutual
def smE (M:Nat):E→Prop
 | ⟨_,_,s,l⟩=>s.length≤M∧smEs M l
def smEs (M:Nat):List E→Prop
 | []=>True
 | x::r=>smE M x∧smEs M r
end
theorem zn4 (M:Nat):∀ l:List E,smEs M l ↔ ∀ x∈l,smE M x
  | []=>⟨fun _ x h=>absurd h y0,fun _=>trivial⟩
  | x :: r => by
    rw [smEs,zn4 M r]
    exact ⟨fun h y hy=>by rcases List.mem_cons.1 hy with rfl | hy; exact h.1; exact h.2 y hy,fun h=>⟨h x (List.mem_cons_self ..),fun y hy=>h y (List.mem_cons_of_mem _ hy)⟩⟩
def SmT (M:Nat) (T:List Lx):Prop:=∀ t∈T,t.S.length≤M
theorem zcd {M:Nat} {a b:List Lx} (ha:SmT M a) (hb:SmT M b):SmT M (a++b):=fun t ht=>by
 rcases List.mem_append.1 ht with h | h
 ·exact ha t h
 ·exact hb t h
theorem zeZ {M:Nat} {t:Lx} (h:t.S.length≤M):SmT M [t]:=fun u hu=>by rw [List.mem_singleton.1 hu]; exact h
theorem zn7 {M:Nat}:SmT M []:=fun u hu=>absurd hu y0
theorem zs1 (op:Int):(opS op).length≤3:=by
 unfold opS
 generalize (op - 8).toNat=k
 have:∀ s∈([[45],[110,111,116],[43],[45],[42],[47],[37],[60],[62],[60,61],[62,61],[61,61],[33,61],[97,110,100],[111,114]]:List (List UInt8)),s.length≤3:=by decide
 cases h:([[45],[110,111,116],[43],[45],[42],[47],[37],[60],[62],[60,61],[62,61],[61,61],[33,61],[97,110,100],[111,114]]:List (List UInt8))[k]? with
 | none=>exact yX _
 | some s=>exact this s (List.mem_of_getElem? h)
theorem zsq {M:Nat} (hM:10≤M) (op:Int):SmT M [opTok op]:=zeZ (by
 have:=zs1 op
 unfold opTok
 split <;> exact Nat.le_trans this (by omega))
theorem zqq {M:Nat} (hM:10≤M) (x:E) {t:List Lx} (h:SmT M t):SmT M (clos x t):=by
 unfold clos
 split
 ·exact h
 ·exact zcd (zcd (zeZ (by show 1≤M; omega)) h) (zeZ (by show 1≤M; omega))
theorem zn5 {M:Nat} (hM:10≤M) (l:List E) (ts:List (List Lx)) (h:∀ t∈ts,SmT M t) (i:Nat):SmT M (zaQ l ts i):=by
  unfold zaQ
  cases l[i]? with
  | none=>exact zn7
  | some x =>
    cases e:ts[i]? with
    | none=>exact zn7
    | some t=>exact zqq hM x (h t (List.mem_of_getElem? e))
theorem zn6 {M:Nat} (hM:10≤M):∀ (ts:List (List Lx)),(∀ t∈ts,SmT M t)→SmT M (commas ts)
  | [],_=>zn7
  | t :: r, h => zcd (h t (List.mem_cons_self ..)) fun u hu => by
    obtain ⟨v,hv,hu⟩:=List.mem_flatMap.1 hu
    exact zcd (zeZ (by show 1≤M; omega)) (h v (List.mem_cons_of_mem _ hv)) u hu
theorem zqp {M:Nat} (hM:10≤M) (op:Int) {s:List UInt8} (hs:s.length≤M) (l:List E) (ts:List (List Lx)) (h:∀ t∈ts,SmT M t):SmT M (bodyE op s l ts):=by
 have c:=zn5 hM l ts h
 have k:∀ t:Lx,t.S.length≤6→SmT M [t]:=fun t ht=>zeZ (by omega)
 unfold bodyE
 split
 ·exact zeZ hs
 split
 ·exact zeZ hs
 split
 ·exact zeZ hs
 split
 ·exact k _ (by decide)
 split
 ·exact k _ (by decide)
 split
 ·exact k _ (by decide)
 split
 ·exact zcd (a:=[tW [104,101,97,100,101,114]]) (k _ (by decide)) (zeZ hs)
 split
 ·exact zcd (zsq hM op) (c 0)
 split
 ·exact zcd (zcd (zcd (c 0) (zcd (a:=[tW [105,110]]) (k _ (by decide)) (k (tG [40]) (by decide)))) (zn6 hM _ fun t ht=>h t (List.mem_of_mem_drop ht))) (k _ (by decide))
 ·exact zcd (zcd (c 0) (zsq hM op)) (c 1)
mutual
theorem smT_E {M:Nat} (hM:10≤M):∀ x:E,smE M x→SmT M (tokE x)
  | ⟨op, a, s, l⟩, h => by
    rw [smE] at h
    rw [tokE]
    exact zqp hM op h.1 l _ (zsp hM l h.2)
theorem zsp {M:Nat} (hM:10≤M):∀ l:List E,smEs M l→∀ t∈tokEs l,SmT M t
  | [],_,t,ht=>absurd ht y0
  | x :: r, h, t, ht => by
    rw [smEs] at h
    rw [tokEs] at ht
    rcases List.mem_cons.1 ht with rfl | ht
    · exact smT_E hM x h.1
    · exact zsp hM r h.2 t ht
end
section
variable {α β : Type} {M : Nat}
end
theorem zk0 {x:E} (hs:szE x≤15000) (hm:smE 3000 x) {n:Nat} (hn:1000000<n):z5C n x=some (outW (formE x) (tokE x)):=by
  unfold z5C zbH z74
  have hl:=z6f x
  rw [wexpr n x (by omega) (by omega) [] (by simp; omega)]
  unfold wOut outW
  cases hf:formE x with
  | false=>rfl
  | true =>
    simp only [yS,ob,pbind,yD]
    rw [zkh (tokE x) (by omega) (smT_E (by omega) x hm) n hn]
    simp only [ob]
    unfold outT
    by_cases h1:(textR (tokE x)).2=1
    · simp only [h1,yQ,yK,yS,ob]
    simp only [h1,yP,yJ,yR]
    by_cases h2:(textR (tokE x)).2≠0
    · simp only [h2,yQ,yK,bJ,ne_eq,yZ,true_or,yS,ob]
    · simp only [h2,yP,yJ,zoA (l:=tokE x) (by omega) (n:=n) (by omega),ob,bJ,false_or]
      rw [zbZ]
      by_cases h3:0≤deepT ((tokE x).map tk) 0 0
      · simp only [h3,yQ,yK,yS,ob]
      · simp only [h3,yP,yJ,yR,ob]
theorem zlv {T:List Lx} (hl:T.length≤100000) (hm:SmT 3000 T) {n:Nat} (hn:1000000<n):z9t n T=some ⟨(outT T).1,(outT T).2⟩:=by
 unfold z9t
 rw [zo9 T hl hm n hn]
 simp only [ob]
 unfold outT
 by_cases h1:(textR T).2=1
 ·simp only [h1,yQ,yK,yS]
 simp only [h1,yP,yJ,yR]
 by_cases h2:(textR T).2≠0
 ·simp only [h2,yQ,yK,bJ,ne_eq,yZ,true_or,yS]
 ·simp only [h2,yP,yJ,rdeep (l:=T) hl (n:=n) (by omega),ob,bJ,false_or]
  rw [zbZ]
  by_cases h3:0≤deepT (T.map tk) 0 0
  ·simp only [h3,yQ,yK,yS]
  ·simp only [h3,yP,yJ,yR]
theorem zjs {x:E} (hs:szE x≤15000) (hm:smE 3000 x) {n:Nat} (hn:1000000<n):z7o n x=some ⟨(outW (formE x) (tokE x)).1,(outW (formE x) (tokE x)).2⟩:=by
  unfold z7o
  have hl:=z6f x
  rw [rformed n x (by omega) (by omega)]
  simp only [ob]
  unfold outW
  cases hf:formE x with
  | false=>rfl
  | true =>
    simp only [yU,yJ,yS]
    rw [rtokens n x (by omega) (by omega) hf]
    simp only [ob]
    rw [zlv (by omega) (smT_E (by omega) x hm) hn]
    rfl
end Go.Proofs.YtcmaoifiiigggaaGreatDoor
