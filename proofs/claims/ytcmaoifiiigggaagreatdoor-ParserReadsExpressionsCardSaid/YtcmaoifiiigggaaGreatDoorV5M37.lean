/-
  Texts that stand side by side: Sc, Qx, Sd.
-/
import Derived.Test.YtcmaoifiiigggaaGreatDoorV5M35
import Derived.Test.YtcmaoifiiigggaaGreatDoorV5G5c
import Derived.Test.YtcmaoifiiigggaaGreatDoorV5G5a
set_option linter.unusedSimpArgs false
set_option linter.unusedVariables false
namespace Go.Proofs.YtcmaoifiiigggaaGreatDoor
open Go.Abs Go.Ps Go.Lex
theorem zpp (op:Int):zdj op=some (if op=23 then -1 else if 1≤op∧op≤7 then 0 else if op=8∨op=9 then 1 else if 10≤op∧op≤22 then 2 else -2):=by
 unfold zdj
 by_cases h1:op=23
 ·simp [h1]
 by_cases h2:1≤op∧op≤7
 ·simp [h1,h2]
 have h2' : (decide (1≤op) && decide (op≤7))=false:=by
  cases h:(decide (1≤op) && decide (op≤7)) with
  | false=>rfl
  | true=>simp at h; exact absurd h h2
 by_cases h3:op=8∨op=9
 ·rcases h3 with rfl | rfl <;> rfl
 have h3' : (decide (op=8) || decide (op=9))=false:=by
  cases h:(decide (op=8) || decide (op=9)) with
  | false=>rfl
  | true=>simp at h; exact absurd h h3
 by_cases h4:10≤op∧op≤22
 ·simp [h1,h2,h2',h3,h3',h4]
 have h4' : (decide (10≤op) && decide (op≤22))=false:=by
  cases h:(decide (10≤op) && decide (op≤22)) with
  | false=>rfl
  | true=>simp at h; exact absurd h h4
 simp only [h1,h2,h2',h3,h3',h4,h4',decide_false,cond_false,if_false]
theorem zlI {step:Int→Option (Lp Int (Lp Unit Bool))} {α:Type} {l:List α} {p:α→Bool} (h:∀ (i:Nat) (hi:i<l.length),step (i:Int)=some (if p l[i] then .go ((i+1:Nat):Int) else .stop (.stop false))) (he:step (l.length:Int)=some (.stop (.go ()))):∀ (n i:Nat),i≤l.length→l.length - i<n→bindJ (iter step n (i:Int)) (fun _=>some true)=some ((l.drop i).all p)
  | 0,_,_,h=>absurd h (Nat.not_lt_zero _)
  | n + 1, i, hi, hn => by
    by_cases hl:i<l.length
    · have h1:=h i hl
      rw [List.drop_eq_getElem_cons hl,List.all_cons]
      cases hp:p l[i] with
      | false=>rw [hp] at h1; rw [z1z h1]; rfl
      | true =>
        rw [hp] at h1
        simp only [if_true] at h1
        rw [z4f h1,Bool.true_and]
        exact zlI h he n (i+1) hl (by omega)
    · have e:i=l.length:=by omega
      subst e
      rw [z1z he,List.drop_length]; rfl
theorem ztY (op:Int) (s:List UInt8) (k:Nat) (r:Int) (hr:r=if op=23 then -1 else if 1≤op∧op≤7 then 0 else if op=8∨op=9 then 1 else if 10≤op∧op≤22 then 2 else -2) (K:Option Bool) :
    cond (((decide (0≤r) && decide ((k:Int)≠r)) || (decide (r=(-1)) && decide ((k:Int)<2))) || decide (r=(-2)))
  (some false)
  (cond ((!(((decide (op = 1) || decide (op = 2)) || decide (op = 3)) || decide (op = 6))) && (!decide (s = [])))
   (some false) K)=if locE op s k then K else some false:=by
  have key:∀ b:Bool,b=true∨b=false:=by decide
  unfold locE
  by_cases o1:op=1∨op=2∨op=3∨op=6
  · have hr' : r=0:=by rw [hr,if_neg (by omega),if_pos (by omega)]
    subst hr'
    have e:(((decide (op=1) || decide (op=2)) || decide (op=3)) || decide (op=6))=true:=by rcases o1 with rfl | rfl | rfl | rfl <;> rfl
    rw [if_pos o1,e]
    by_cases q:k=0
    · subst q; rfl
    · rw [decide_eq_false q]
      have:decide ((k:Int)≠0)=true:=decide_eq_true (by omega)
      rw [this]; rfl
  obtain ⟨n1,n2,n3,n6⟩ : op≠1∧op≠2∧op≠3∧op≠6:=⟨fun q=>o1 (.inl q),fun q=>o1 (.inr (.inl q)),fun q=>o1 (.inr (.inr (.inl q))),fun q=>o1 (.inr (.inr (.inr q)))⟩
  rw [if_neg o1]
  simp only [n1,n2,n3,n6,decide_false,Bool.or_self,Bool.not_false,Bool.true_and]
  by_cases hs:s=[]
  rotate_left
  · simp only [hs,decide_false,Bool.not_false,cond_true,Bool.false_and,Bool.false_eq_true,if_false]
    exact Bool.cond_self ..
  simp only [hs,decide_true,Bool.not_true,cond_false,Bool.true_and]
  by_cases o2:op=4∨op=5∨op=7
  · have hr' : r=0:=by rw [hr,if_neg (by omega),if_pos (by omega)]
    subst hr'
    rw [if_pos o2]
    by_cases q:k=0
    · subst q; rfl
    · rw [decide_eq_false q]
      have:decide ((k:Int)≠0)=true:=decide_eq_true (by omega)
      rw [this]; rfl
  rw [if_neg o2]
  by_cases o3:op=8∨op=9
  · have hr' : r=1:=by rw [hr,if_neg (by omega),if_neg (by omega),if_pos o3]
    subst hr'
    rw [if_pos o3]
    by_cases q:k=1
    · subst q; rfl
    · rw [decide_eq_false q]
      have:decide ((k:Int)≠1)=true:=decide_eq_true (by omega)
      rw [this]; rfl
  rw [if_neg o3]
  by_cases o4:op=23
  · have hr' : r = -1:=by rw [hr,if_pos o4]
    subst hr'
    rw [if_pos o4]
    by_cases q:2≤k
    · have:decide ((k:Int)<2)=false:=decide_eq_false (by omega)
      rw [decide_eq_true q,this]; rfl
    · have:decide ((k:Int)<2)=true:=decide_eq_true (by omega)
      rw [decide_eq_false q,this]; rfl
  rw [if_neg o4]
  by_cases o5:10≤op∧op≤22
  · have hr' : r=2:=by rw [hr,if_neg o4,if_neg (by omega),if_neg o3,if_pos o5]
    subst hr'
    rw [decide_eq_true o5.1,decide_eq_true o5.2]
    by_cases q:k=2
    · subst q; rfl
    · rw [decide_eq_false q]
      have:decide ((k:Int)≠2)=true:=decide_eq_true (by omega)
      rw [this]; rfl
  · have hr' : r = -2:=by rw [hr,if_neg o4,if_neg (by omega),if_neg o3,if_neg o5]
    subst hr'
    have:(decide (10≤op) && decide (op≤22))=false:=by
      cases h:(decide (10≤op) && decide (op≤22)) with
      | false=>rfl
      | true=>simp at h; exact absurd h o5
    rw [this]
    simp
theorem rformed:∀ (n:Nat) (x:E),szE x+1<n→szE x≤100000000→z93 n x=some (formE x)
  | 0,_,h,_=>absurd h (Nat.not_lt_zero _)
  | n + 1, ⟨op, a, s, l⟩, h, h' => by
    rw [szE] at h h'
    have hlen:=zgS l
    show z7E n (z93 n) ⟨op,a,s,l⟩=_
    unfold z7E
    rw [zpp,formE,zei]
    simp only [ob]
    refine (ztY op s l.length _ rfl _).trans ?_
    cases hl:locE op s l.length with
    | false=>rfl
    | true =>
      simp only [if_true,Bool.true_and]
      refine (zlI (p:=formE) (l:=l) (fun i hi=>?_) ?_ n 0 (Nat.zero_le _) (by omega)).trans (by rw [List.drop_zero])
      · have hm:=zkc hi
        unfold zaZ
        simp only [Int.ofNat_lt,hi,decide_true,cond_true,z5t hi,rformed n l[i] (by omega) (by omega),ob,zc1 (j:=i) (by omega)]
        cases formE l[i] <;> rfl
      · unfold zaZ
        simp only [Int.lt_irrefl,decide_false,cond_false]
theorem zse (op:Int) (h:8≤op∧op≤22):z9P op=some (opTok op):=by
 have h' : op=8∨op=9∨op=10∨op=11∨op=12∨op=13∨op=14∨op=15∨op=16∨op=17∨op=18∨op=19∨op=20∨op=21∨op=22:=by omega
 rcases h' with rfl | rfl | rfl | rfl | rfl | rfl | rfl | rfl | rfl | rfl | rfl | rfl | rfl | rfl | rfl <;> rfl
theorem rclosed {F:E→Option (List Lx)} {x:E} (h:F x=some (tokE x)) (hs:szE x≤100000000):z6A F x=some (clos x (tokE x)):=by
 unfold z6A clos
 have hl:=z6f x
 by_cases h0:x.Args.length=0
 ·rw [decide_eq_true (p:=(x.Args.length:Int)=0) (by omega),cond_true,if_pos h0,h]; rfl
 ·rw [decide_eq_false (p:=(x.Args.length:Int)=0) (by omega),cond_false,if_neg h0,h]
  unfold z6n
  simp only [ob]
  rw [z1n (by simp; omega),z1n (by simp; omega)]
  rfl
theorem zkS (X:E) {F:E→Option (List Lx)} (hF:∀ x∈X.Args,F x=some (tokE x)):∀ (n i:Nat) (w:List Lx),2≤i→i≤X.Args.length→X.Args.length - i<n→w.length+7*szL szE (X.Args.drop i)≤4000000000→X.Args.length≤100000000→
    iter (z7v X F) n (w,(i:Int))=some (.go (w++(X.Args.drop i).flatMap fun x=>[tG [44]]++tokE x))
  | 0,_,_,_,_,h,_,_=>absurd h (Nat.not_lt_zero _)
  | n + 1, i, w, h1, hi, hn, hw, hl => by
    by_cases hlt:i<X.Args.length
    · have e:=List.drop_eq_getElem_cons hlt
      have hz:=zd8 X.Args[i]
      have hy:=z6f X.Args[i]
      rw [e,szL] at hw
      rw [e,List.flatMap_cons]
      rw [z4f (s':=(w++[tG [44]]++tokE X.Args[i],((i+1:Nat):Int)))]
      · rw [zkS X hF n (i+1) _ (by omega) (by omega) (by omega) (by simp; omega) hl]
        simp only [List.append_assoc]
      · unfold z7v z6n
        simp only [Int.ofNat_lt,hlt,decide_true,cond_true,z5t hlt,ob]
        rw [decide_eq_true (show (1:Int)<(i:Int) by omega),cond_true,z1n (by simp; omega),bJ,hF _ (List.getElem_mem hlt)]
        simp only [ob]
        rw [z1n (by simp; omega),zc1 (j:=i) (by omega)]
        rfl
    · have e:X.Args.drop i=[]:=List.drop_eq_nil_of_le (by omega)
      rw [e,z1z (r:=.go w)]
      · simp
      · unfold z7v
        simp only [Int.ofNat_lt,hlt,decide_false,cond_false]
theorem rtokens:∀ (n:Nat) (x:E),szE x+1<n→szE x≤100000000→formE x=true→z5X n x=some (tokE x)
  | 0,_,h,_,_=>absurd h (Nat.not_lt_zero _)
  | n + 1, ⟨op, a, s, l⟩, h, h', hf => by
    rw [szE] at h h'
    rw [formE,zei,Bool.and_eq_true,List.all_eq_true] at hf
    obtain ⟨hloc,hall⟩:=hf
    have hlen:=zgS l
    have hF:∀ x∈l,z5X n x=some (tokE x):=fun x hx=>by
      have h1:szE x≤szEs l:=by rw [zdQ]; exact z9H hx
      exact rtokens n x (by omega) (by omega) (hall x hx)
    have hC:∀ x∈l,z6A (z5X n) x=some (clos x (tokE x)):=fun x hx=>by
      have h1:szE x≤szEs l:=by rw [zdQ]; exact z9H hx
      exact rclosed (hF x hx) (by omega)
    show z7F n (z5X n) ⟨op,a,s,l⟩=_
    unfold z7F
    rw [tokE,zgb]
    unfold zhD zfH zdK z5b z6n bodyE
    unfold locE at hloc
    simp only [ob]
    by_cases o1:op=1
    · simp only [o1,decide_true,cond_true,if_true]; rfl
    by_cases o2:op=2
    · simp only [o1,o2,show ¬((2:Int)=1) by decide,decide_true,decide_false,cond_true,cond_false,if_true,if_false]; rfl
    by_cases o3:op=3
    · simp only [o3,show ¬((3:Int)=1) by decide,show ¬((3:Int)=2) by decide,decide_true,decide_false,cond_true,cond_false,if_true,if_false]; rfl
    by_cases o4:op=4
    · simp only [o4,show ¬((4:Int)=1) by decide,show ¬((4:Int)=2) by decide,show ¬((4:Int)=3) by decide,decide_true,decide_false,cond_true,cond_false,if_true,if_false]; rfl
    by_cases o5:op=5
    · simp only [o5,show ¬((5:Int)=1) by decide,show ¬((5:Int)=2) by decide,show ¬((5:Int)=3) by decide,show ¬((5:Int)=4) by decide,decide_true,decide_false,cond_true,cond_false,if_true,if_false]; rfl
    by_cases o7:op=7
    · simp only [o7,show ¬((7:Int)=1) by decide,show ¬((7:Int)=2) by decide,show ¬((7:Int)=3) by decide,show ¬((7:Int)=4) by decide,show ¬((7:Int)=5) by decide,decide_true,decide_false,cond_true,cond_false,if_true,if_false]; rfl
    by_cases o6:op=6
    · simp only [o6,show ¬((6:Int)=1) by decide,show ¬((6:Int)=2) by decide,show ¬((6:Int)=3) by decide,show ¬((6:Int)=4) by decide,show ¬((6:Int)=5) by decide,show ¬((6:Int)=7) by decide,decide_true,decide_false,cond_true,cond_false,if_true,if_false]; rfl
    simp only [o1,o2,o3,o4,o5,o6,o7,decide_false,cond_false,if_false]
    rw [if_neg (show ¬(op=1∨op=2∨op=3∨op=6) by omega),if_neg (show ¬(op=4∨op=5∨op=7) by omega),Bool.and_eq_true] at hloc
    obtain ⟨_,hloc⟩:=hloc
    by_cases o8:op=8∨op=9
    · rw [if_pos o8] at hloc ⊢
      have hb:(bindJ (S:=Bool) (R:=List Lx) (cond (decide (op=8)) (some (.go (decide (op=8)))) (some (.go (decide (op=9))))))=fun K=>K true:=by
        funext K
        rcases o8 with rfl | rfl <;> rfl
      rw [hb]
      have q:l.length=1:=of_decide_eq_true hloc
      match l,q,hF,hC,hlen,h,h' with
      | [x], _, hF, hC, hlen, h, h' =>
        have hx:=hC x (List.mem_cons_self ..)
        have hz:szEs [x]=szE x:=by simp [szEs]
        have lx:=z6f x
        have lc:=zaR x (tokE x)
        simp only [cond_true,zse op (by omega),ob]
        rw [show (0:Int)=((0:Nat):Int) from rfl,z4e (x:=x) rfl,hx]
        simp only [ob]
        rw [z1n (by simp; omega)]
        rfl
    rw [if_neg o8] at hloc ⊢
    obtain ⟨n8,n9⟩ : op≠8∧op≠9:=⟨fun q=>o8 (.inl q),fun q=>o8 (.inr q)⟩
    simp only [n8,n9,decide_false,cond_false,bJ]
    by_cases o23:op=23
    · rw [if_pos o23] at hloc ⊢
      simp only [decide_eq_true o23,cond_true]
      have q:2≤l.length:=of_decide_eq_true hloc
      match l,q,hF,hC,hlen,h,h' with
      | x :: y :: r, _, hF, hC, hlen, h, h' =>
        have hx:=hC x (List.mem_cons_self ..)
        have hy:=hF y (List.mem_cons_of_mem _ (List.mem_cons_self ..))
        have hz:szEs (x::y::r)=szE x+(szE y+szL szE r):=by simp [szEs,zdQ]
        have lx:=z6f x
        have ly:=z6f y
        have lc:=zaR x (tokE x)
        rw [hz] at h h' hlen
        rw [show (0:Int)=((0:Nat):Int) from rfl,z4e (x:=x) rfl,hx]
        simp only [ob]
        rw [z1n (by simp; omega)]
        obtain ⟨n,rfl⟩ : ∃ m,n=m+1:=⟨n - 1,by omega⟩
        rw [z4f (s':=(clos x (tokE x)++[tW [105,110],tG [40]]++tokE y,((2:Nat):Int)))]
        · rw [zkS ⟨op,a,s,x::y::r⟩ hF n 2 _ (Nat.le_refl _) (by simp) (by simp at hlen ⊢; omega) (by show _+7*szL szE r≤_; simp; omega) (by show (x::y::r).length≤_; omega)]
          simp only [bJ]
          have hr:∀ r:List E,(r.flatMap fun x=>[tG [44]]++tokE x).length≤7*szL szE r:=by
            intro r
            induction r with
            | nil=>simp
            | cons z r ih =>
              have:=z6f z
              have:=zd8 z
              simp only [List.flatMap_cons,List.length_append,List.length_cons,List.length_nil,szL] at ih ⊢
              omega
          have hr':=hr r
          rw [show (x::y::r).drop 2=r from rfl]
          rw [z1n (by simp at hr' ⊢; omega)]
          have e1:zaQ (x::y::r) ((x::y::r).map tokE) 0=clos x (tokE x):=rfl
          have e2:((x::y::r).map tokE).drop 1=tokE y::r.map tokE:=rfl
          have e3:(r.map tokE).flatMap (fun u=>[tG [44]]++u)=r.flatMap fun x=>[tG [44]]++tokE x:=by rw [List.flatMap_map]
          rw [e1,e2,commas,e3]
          simp only [List.append_assoc]
          rfl
        · unfold z7v
          simp only []
          rw [decide_eq_true (show (1:Int)<((x::y::r).length:Int) by simp; omega),cond_true]
          simp only [Int.lt_irrefl,decide_false,cond_false,bJ]
          rw [show (1:Int)=((1:Nat):Int) from rfl,z4e (x:=y) rfl,hy]
          simp only [ob]
          rw [z1n (by simp; omega)]
          rfl
    rw [if_neg o23] at hloc ⊢
    simp only [o23,decide_false,cond_false]
    simp only [Bool.and_eq_true,decide_eq_true_eq] at hloc
    obtain ⟨⟨q1,q2⟩,q⟩:=hloc
    match l,q,hF,hC,hlen,h,h' with
    | [x, y], _, hF, hC, hlen, h, h' =>
      have hx:=hC x (List.mem_cons_self ..)
      have hy:=hC y (List.mem_cons_of_mem _ (List.mem_cons_self ..))
      have hz:szEs [x,y]=szE x+szE y:=by simp [szEs]
      have lx:=z6f x
      have ly:=z6f y
      have lc:=zaR x (tokE x)
      have lc':=zaR y (tokE y)
      rw [show (0:Int)=((0:Nat):Int) from rfl,z4e (x:=x) rfl,hx]
      simp only [ob,zse op (by omega)]
      rw [z1n (by simp; omega),show (1:Int)=((1:Nat):Int) from rfl,z4e (x:=y) rfl,hy]
      simp only [ob]
      rw [z1n (by simp; omega)]
      rfl
end Go.Proofs.YtcmaoifiiigggaaGreatDoor
namespace Go.Proofs.YtcmaoifiiigggaaGreatDoor
open Go.Abs Go.Ps Go.Lex
theorem zoE (s:List UInt8) {n N:Nat} (hn:1000000<n) (hN:65536<N):z8Z n s=some (outL noE atE (exprP N N) s):=by
 unfold z8Z z4k outL
 by_cases hs:65536<s.length
 ·rw [if_pos hs,zhM s hs n]; rfl
 ·rw [if_neg hs]
  have hl:=zb4 s
  have:=zrw (z:=noE) s (by omega) hn (m:=atE) (F:=z18 n) (zm4 (N:=N) (by omega) (zph s) n N 0 (by omega) (by omega) (by omega))
  refine (congrArg (fun o=>obind o fun r3=>some (r3.1,r3.2)) this).trans ?_
  rfl
end Go.Proofs.YtcmaoifiiigggaaGreatDoor
namespace Go.Proofs.YtcmaoifiiigggaaGreatDoor
open Go.Abs Go.Ps Go.Lex
def outT (T:List Lx):List UInt8×Int:=if (textR T).2=1 then ([],3) else if (textR T).2≠0∨0≤deepT (T.map tk) 0 0 then ([],2) else ((textR T).1,0)
def outW (b:Bool) (T:List Lx):List UInt8×Int:=if b then outT T else ([],3)
mutual
def smE (M:Nat):E→Prop
 | ⟨_,_,s,l⟩=>s.length≤M∧smEs M l
def smEs (M:Nat):List E→Prop
 | []=>True
 | x::r=>smE M x∧smEs M r
end
theorem zn4 (M:Nat):∀ l:List E,smEs M l ↔ ∀ x∈l,smE M x
  | []=>⟨fun _ x h=>absurd h List.not_mem_nil,fun _=>trivial⟩
  | x :: r => by
    rw [smEs,zn4 M r]
    exact ⟨fun h y hy=>by rcases List.mem_cons.1 hy with rfl | hy; exact h.1; exact h.2 y hy,fun h=>⟨h x (List.mem_cons_self ..),fun y hy=>h y (List.mem_cons_of_mem _ hy)⟩⟩
def SmT (M:Nat) (T:List Lx):Prop:=∀ t∈T,t.S.length≤M
theorem zcd {M:Nat} {a b:List Lx} (ha:SmT M a) (hb:SmT M b):SmT M (a++b):=fun t ht=>by
 rcases List.mem_append.1 ht with h | h
 ·exact ha t h
 ·exact hb t h
theorem zeZ {M:Nat} {t:Lx} (h:t.S.length≤M):SmT M [t]:=fun u hu=>by rw [List.mem_singleton.1 hu]; exact h
theorem zn7 {M:Nat}:SmT M []:=fun u hu=>absurd hu List.not_mem_nil
theorem zs1 (op:Int):(opS op).length≤3:=by
 unfold opS
 generalize (op - 8).toNat=k
 have:∀ s∈([[45],[110,111,116],[43],[45],[42],[47],[37],[60],[62],[60,61],[62,61],[61,61],[33,61],[97,110,100],[111,114]]:List (List UInt8)),s.length≤3:=by decide
 cases h:([[45],[110,111,116],[43],[45],[42],[47],[37],[60],[62],[60,61],[62,61],[61,61],[33,61],[97,110,100],[111,114]]:List (List UInt8))[k]? with
 | none=>exact Nat.zero_le _
 | some s=>exact this s (List.mem_of_getElem? h)
theorem zsq {M:Nat} (hM:10≤M) (op:Int):SmT M [opTok op]:=zeZ (by
 have:=zs1 op
 unfold opTok
 split <;> exact Nat.le_trans this (by omega))
theorem zqq {M:Nat} (hM:10≤M) (x:E) {t:List Lx} (h:SmT M t):SmT M (clos x t):=by
 unfold clos
 split
 ·exact h
 ·exact zcd (zcd (zeZ (by show 1≤M; omega)) h) (zeZ (by show 1≤M; omega))
theorem zn5 {M:Nat} (hM:10≤M) (l:List E) (ts:List (List Lx)) (h:∀ t∈ts,SmT M t) (i:Nat):SmT M (zaQ l ts i):=by
  unfold zaQ
  cases l[i]? with
  | none=>exact zn7
  | some x =>
    cases e:ts[i]? with
    | none=>exact zn7
    | some t=>exact zqq hM x (h t (List.mem_of_getElem? e))
theorem zn6 {M:Nat} (hM:10≤M):∀ (ts:List (List Lx)),(∀ t∈ts,SmT M t)→SmT M (commas ts)
  | [],_=>zn7
  | t :: r, h => zcd (h t (List.mem_cons_self ..)) fun u hu => by
    obtain ⟨v,hv,hu⟩:=List.mem_flatMap.1 hu
    exact zcd (zeZ (by show 1≤M; omega)) (h v (List.mem_cons_of_mem _ hv)) u hu
theorem zqp {M:Nat} (hM:10≤M) (op:Int) {s:List UInt8} (hs:s.length≤M) (l:List E) (ts:List (List Lx)) (h:∀ t∈ts,SmT M t):SmT M (bodyE op s l ts):=by
 have c:=zn5 hM l ts h
 have k:∀ t:Lx,t.S.length≤6→SmT M [t]:=fun t ht=>zeZ (by omega)
 unfold bodyE
 split
 ·exact zeZ hs
 split
 ·exact zeZ hs
 split
 ·exact zeZ hs
 split
 ·exact k _ (by decide)
 split
 ·exact k _ (by decide)
 split
 ·exact k _ (by decide)
 split
 ·exact zcd (a:=[tW [104,101,97,100,101,114]]) (k _ (by decide)) (zeZ hs)
 split
 ·exact zcd (zsq hM op) (c 0)
 split
 ·exact zcd (zcd (zcd (c 0) (zcd (a:=[tW [105,110]]) (k _ (by decide)) (k (tG [40]) (by decide)))) (zn6 hM _ fun t ht=>h t (List.mem_of_mem_drop ht))) (k _ (by decide))
 ·exact zcd (zcd (c 0) (zsq hM op)) (c 1)
mutual
theorem smT_E {M:Nat} (hM:10≤M):∀ x:E,smE M x→SmT M (tokE x)
  | ⟨op, a, s, l⟩, h => by
    rw [smE] at h
    rw [tokE]
    exact zqp hM op h.1 l _ (zsp hM l h.2)
theorem zsp {M:Nat} (hM:10≤M):∀ l:List E,smEs M l→∀ t∈tokEs l,SmT M t
  | [],_,t,ht=>absurd ht List.not_mem_nil
  | x :: r, h, t, ht => by
    rw [smEs] at h
    rw [tokEs] at ht
    rcases List.mem_cons.1 ht with rfl | ht
    · exact smT_E hM x h.1
    · exact zsp hM r h.2 t ht
end
mutual
theorem zso (M:Nat) (g:Int→Int):∀ x:E,smE M (atE g x)↔smE M x
 | ⟨op,a,s,l⟩=>by rw [atE,smE,smE,zp6 M g l]
theorem zp6 (M:Nat) (g:Int→Int):∀ l:List E,smEs M (atEs g l)↔smEs M l
 | []=>Iff.rfl
 | x::r=>by rw [atEs,smEs,smEs,zso M g x,zp6 M g r]
end
section
variable {α β : Type} {M : Nat}
def Sml (M:Nat) (Q:α→Prop) (p:Ps α):Prop:=∀ i ts,(∀ t∈ts,t.2.length≤M)→match p.run i ts with | .ok a _ _=>Q a | .bad _ _=>True
theorem zd6 {Q:α→Prop} {a:α} (h:Q a):Sml M Q (.ret a):=fun _ _ _=>h
theorem zfI {Q:α→Prop}:Sml M Q .bad:=fun _ _ _=>trivial
theorem zd5 {Q:α→Prop} {f:Option Tk→Nat→Ps α} (h:∀ t i,(textO t).length≤M→Sml M Q (f t i)):Sml M Q (.look f):=fun i ts hts=>by
 refine h ts.head? i ?_ i ts hts
 cases ts with
 | nil=>exact Nat.zero_le _
 | cons t r=>exact hts t (List.mem_cons_self ..)
theorem z7c {Q:α→Prop} {p:Ps α} (h:Sml M Q p):Sml M Q (.skip p)
 | i,[],hts=>h i [] hts
 | i,t::r,hts=>h (i+1) r fun u hu=>hts u (List.mem_cons_of_mem _ hu)
theorem z9G {Q:α→Prop} {b:Prop} [Decidable b] {p q:Ps α} (h:Sml M Q p) (h' : Sml M Q q):Sml M Q (if b then p else q):=by
 split
 ·exact h
 ·exact h'
theorem z8F {Q:α→Prop} {Q' : β→Prop} {p:Ps α} {k:α→Ps β} (h:Sml M Q p) (h' : ∀ a,Q a→Sml M Q' (k a)):Sml M Q' (p.bind k):=fun i ts hts=>by
  rw [run_bind]
  have h1:=h i ts hts
  have h2:=zbV p i ts
  revert h1 h2
  cases p.run i ts with
  | ok a j r =>
    rintro h1 ⟨c,hc,_⟩
    exact h' a h1 j r fun u hu=>hts u (by rw [hc]; exact List.mem_append_right _ hu)
  | bad j r=>exact fun _ _=>trivial
theorem zkb (k:Int) (s:List UInt8):Sml M (fun _=>True) (needP k s):=zd5 fun t i _=>z9G (z7c (zd6 trivial)) zfI
theorem zqt (k:Int):Sml M (fun s=>s.length≤M) (takeP k):=zd5 fun t i h=>z9G (z7c (zd6 h)) zfI
theorem zqr {ex:Ps E} (h:Sml M (smE M) ex):Sml M (smE M) (atomP ex):=by
 unfold atomP
 refine zd5 fun t i ht=>?_
 have r1:∀ (o a:Int) (s:List UInt8),s.length≤M→Sml M (smE M) (.ret ⟨o,a,s,[]⟩):=fun o a s hs=>zd6 ⟨hs,trivial⟩
 have z:([]:List UInt8).length≤M:=Nat.zero_le _
 exact z9G (z7c (r1 _ _ _ ht)) (z9G (z7c (r1 _ _ _ ht)) (z9G (z7c (r1 _ _ _ ht)) (z9G (z7c (r1 _ _ _ z)) (z9G (z7c (r1 _ _ _ z)) (z9G (z7c (r1 _ _ _ z))
  (z9G (z7c (z8F (zqt 4) fun s hs=>r1 _ _ _ hs)) (z9G (z7c (z8F h fun x hx=>z8F (zkb _ _) fun _ _=>zd6 hx)) zfI)))))))
theorem zl3 {ex:Ps E} (h:Sml M (smE M) ex):∀ f,Sml M (smE M) (zgu ex f)
 | 0=>zfI
 | f+1=>zd5 fun t i _=>z9G (z7c (z8F (zl3 h f) fun y hy=>zd6 ⟨Nat.zero_le _,hy,trivial⟩)) (zqr h)
theorem zl2 {op:Option Tk→Int} {one:Ps E} (h:Sml M (smE M) one):∀ (f:Nat) (x:E),smE M x→Sml M (smE M) (zef op one f x)
 | 0,_,_=>zfI
 | f+1,x,hx=>zd5 fun t i _=>z9G (zd6 hx) (z7c (z8F h fun y hy=>zl2 h f _ ⟨Nat.zero_le _,hx,hy,trivial⟩))
theorem zg9 {op:Option Tk→Int} {one:Ps E} (h:Sml M (smE M) one) (N:Nat):Sml M (smE M) (zgo op one N):=z8F h fun x hx=>zl2 h N x hx
theorem zn9 {Q:α→Prop} {one:Ps α} (h:Sml M Q one):∀ (f:Nat) (l:List α),(∀ x∈l,Q x)→Sml M (fun l=>∀ x∈l,Q x) (listP one f l)
  | 0,_,_=>zfI
  | f + 1, l, hl => zd5 fun t i _ => z9G (z7c (z8F h fun y hy => zn9 h f _ fun x hx => by
      rcases List.mem_append.1 hx with hx | hx
      · exact hl x hx
      · rw [List.mem_singleton.1 hx]; exact hy)) (zd6 hl)
theorem zqs {ex sum:Ps E} (h:Sml M (smE M) ex) (h' : Sml M (smE M) sum) (N:Nat):Sml M (smE M) (lessP ex sum N):=by
 unfold lessP
 refine z8F h' fun x hx=>zd5 fun t i _=>?_
 exact z9G (z7c (z8F h' fun y hy=>zd6 ⟨Nat.zero_le _,hx,hy,trivial⟩))
  (z9G (z7c (z8F (zkb _ _) fun _ _=>z8F h fun y hy=>z8F (zn9 h N [y] fun z hz=>by rw [List.mem_singleton.1 hz]; exact hy) fun l hl=>z8F (zkb _ _) fun _ _=>zd6 ⟨Nat.zero_le _,hx,(zn4 M l).2 hl⟩)) (zd6 hx))
theorem zp7 {less:Ps E} (h:Sml M (smE M) less):∀ f,Sml M (smE M) (notP less f)
 | 0=>zfI
 | f+1=>zd5 fun t i _=>z9G (z7c (z8F (zp7 h f) fun y hy=>zd6 ⟨Nat.zero_le _,hy,trivial⟩)) h
theorem zn8 (N:Nat):∀ f,Sml M (smE M) (exprP N f)
  | 0=>zfI
  | f + 1 => by
    have h:=zn8 N f
    exact zg9 (zg9 (zp7 (zqs h (zg9 (zg9 (zl3 h N) N) N) N) N) N) N
end
theorem zqC (s:List UInt8):∀ t∈tks (tokR s).1 0,t.2.length≤s.length:=by
 intro t ht
 by_cases h0:(tokR s).2.E=0
 ·obtain ⟨L,hL,e⟩:=zfz h0
  obtain ⟨hsum,_,_⟩:=zoK hL
  rw [zbZ,e] at ht
  obtain ⟨y,hy,rfl⟩:=List.mem_map.1 ht
  obtain ⟨x,hx,rfl⟩:=List.mem_map.1 hy
  have h1:=zpX (L.map fun x=>(wrL x.1 x.2.2).length) (wrL x.1 x.2.2).length (List.mem_map.2 ⟨x,hx,rfl⟩)
  have h2:x.2.2.length≤(wrL x.1 x.2.2).length:=by
   have:(wr (mkT 0 x)).length=(wrL x.1 x.2.2).length:=rfl
   rw [← this]
   unfold wr
   split
   ·simp only [List.length_append,zdC]; show x.2.2.length≤1+(x.2.2.length+_)+1; omega
   ·exact Nat.le_refl _
  show x.2.2.length≤_
  omega
 ·rcases zgT s with ⟨_,h2⟩ | ⟨a,e,h1,h2⟩
  ·rw [h2] at h0; exact absurd rfl h0
  ·rw [h1] at ht; exact absurd ht List.not_mem_nil
theorem zk0 {x:E} (hs:szE x≤15000) (hm:smE 3000 x) {n:Nat} (hn:1000000<n):z5C n x=some (outW (formE x) (tokE x)):=by
  unfold z5C zbH z74
  have hl:=z6f x
  rw [wexpr n x (by omega) (by omega) [] (by simp; omega)]
  unfold wOut outW
  cases hf:formE x with
  | false=>rfl
  | true =>
    simp only [if_true,ob,pbind,List.nil_append]
    rw [zkh (tokE x) (by omega) (smT_E (by omega) x hm) n hn]
    simp only [ob]
    unfold outT
    by_cases h1:(textR (tokE x)).2=1
    · simp only [h1,decide_true,cond_true,if_true,ob]
    simp only [h1,decide_false,cond_false,if_false]
    by_cases h2:(textR (tokE x)).2≠0
    · simp only [h2,decide_true,cond_true,bJ,ne_eq,not_false_eq_true,true_or,if_true,ob]
    · simp only [h2,decide_false,cond_false,zoA (l:=tokE x) (by omega) (n:=n) (by omega),ob,bJ,false_or]
      rw [zbZ]
      by_cases h3:0≤deepT ((tokE x).map tk) 0 0
      · simp only [h3,decide_true,cond_true,if_true,ob]
      · simp only [h3,decide_false,cond_false,if_false,ob]
theorem zlv {T:List Lx} (hl:T.length≤100000) (hm:SmT 3000 T) {n:Nat} (hn:1000000<n):z9t n T=some ⟨(outT T).1,(outT T).2⟩:=by
 unfold z9t
 rw [zo9 T hl hm n hn]
 simp only [ob]
 unfold outT
 by_cases h1:(textR T).2=1
 ·simp only [h1,decide_true,cond_true,if_true]
 simp only [h1,decide_false,cond_false,if_false]
 by_cases h2:(textR T).2≠0
 ·simp only [h2,decide_true,cond_true,bJ,ne_eq,not_false_eq_true,true_or,if_true]
 ·simp only [h2,decide_false,cond_false,rdeep (l:=T) hl (n:=n) (by omega),ob,bJ,false_or]
  rw [zbZ]
  by_cases h3:0≤deepT (T.map tk) 0 0
  ·simp only [h3,decide_true,cond_true,if_true]
  ·simp only [h3,decide_false,cond_false,if_false]
theorem zjs {x:E} (hs:szE x≤15000) (hm:smE 3000 x) {n:Nat} (hn:1000000<n):z7o n x=some ⟨(outW (formE x) (tokE x)).1,(outW (formE x) (tokE x)).2⟩:=by
  unfold z7o
  have hl:=z6f x
  rw [rformed n x (by omega) (by omega)]
  simp only [ob]
  unfold outW
  cases hf:formE x with
  | false=>rfl
  | true =>
    simp only [Bool.not_true,cond_false,if_true]
    rw [rtokens n x (by omega) (by omega) hf]
    simp only [ob]
    rw [zlv (by omega) (smT_E (by omega) x hm) hn]
    rfl
end Go.Proofs.YtcmaoifiiigggaaGreatDoor
