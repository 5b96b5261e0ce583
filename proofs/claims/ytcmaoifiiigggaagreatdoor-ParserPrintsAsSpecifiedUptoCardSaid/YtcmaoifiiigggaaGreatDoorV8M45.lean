/-
  Texts that stand side by side: Ua, Ub, Uc, Ud, Ue, Uf.
-/
import Derived.Test.YtcmaoifiiigggaaGreatDoorV8M38
import Derived.Test.YtcmaoifiiigggaaGreatDoorV8G8j
set_option linter.unusedSimpArgs false
set_option linter.unusedVariables false
namespace Go.Proofs.YtcmaoifiiigggaaGreatDoor
open Go.Abs Go.Ps Go.Lex
theorem zzp {α R:Type} {step:Int→Option (Lp Int (Lp Unit R))} {l:List α} {p:α→Bool} {pan:R} (hlen:l.length≤100000000)
    (h:∀ (i:Nat) (hi:i<l.length),step (i:Int)=some (if p l[i] then .go ((i+1:Nat):Int) else .stop (.stop pan))) (he:step (l.length:Int)=some (.stop (.go ()))) :
    ∀ (n i:Nat),i≤l.length→l.length - i<n→iter step n (i:Int)=some (if (l.drop i).all p then .go () else .stop pan)
  | 0,_,_,h=>absurd h (yH _)
  | n + 1, i, hi, hn => by
    by_cases hl:i<l.length
    · have h1:=h i hl
      rw [List.drop_eq_getElem_cons hl,List.all_cons]
      rcases yG (p l[i]) with hp | hp
      rotate_left
      · rw [hp] at h1 ⊢
        rw [z1z h1]; rfl
      · rw [hp] at h1 ⊢
        rw [z4f h1,zzp hlen h he n (i+1) hl (by omega),Bool.true_and]
    · have e:i=l.length:=by omega
      subst e
      rw [z1z he,List.drop_length]
      rfl
theorem dpos (n:Nat):decide ((0:Int)<(n:Int))=decide (0<n):=by rw [decide_eq_decide]; omega
theorem zzs:∀ (n:Nat) (l:List St),szSs l+3<n→szSs l≤10000000→zah n l=some (zvK l)
  | 0,_,h,_=>absurd h (yH _)
  | n + 1, l, h, h' => by
    have hlen:=zng l
    show z9F n (zah n) l=_
    unfold z9F
    have key:=zzp (step:=zeK n l (zah n)) (l:=l) (p:=formS) (pan:=false) (by omega) (fun i hi=>by
      have hm:=znh hi
      unfold zeK
      simp only [yW,hi,yQ,yK,z5t hi,zc1 (j:=i) (show i≤1000000000 by omega)]
      generalize l[i]=x at *
      obtain ⟨k,a,nm,x,b,e⟩:=x
      rw [szS] at hm
      have q1:=zzs n b (by omega) (by omega)
      have q2:=zzs n e (by omega) (by omega)
      rw [formS]
      dsimp only
      rw [q1,rformed n x (by omega) (by omega),dpos,dpos]
      simp only [ob,q2]
      have e1:(decide (k<1) || decide (9<k)) = !(decide (1≤k) && decide (k≤9)):=by
        by_cases c1:k<1
        · rw [yM c1,yL (show ¬1≤k by omega)]; rfl
        · rw [yL c1,yM (show 1≤k by omega),Bool.false_or,Bool.true_and,← decide_not,decide_eq_decide]; omega
      have e2:decide (e.length=0) = !decide (0<e.length):=by rw [← decide_not,decide_eq_decide]; omega
      have e3:decide (b.length=0) = !decide (0<b.length):=by rw [← decide_not,decide_eq_decide]; omega
      unfold locS
      rw [e1,e2,e3,show decide (k≠5) = !decide (k=5) from decide_not,show decide (k≠6) = !decide (k=6) from decide_not,show decide (x.Op≠1) = !decide (x.Op=1) from decide_not]
      generalize (decide (1≤k) && decide (k≤9))=r
      generalize ((decide (k=1) || decide (k=2)) || decide (k=3))=n3
      generalize decide (nm=[])=nn
      generalize decide (k=5)=k5
      generalize decide (k=6)=k6
      generalize decide (0<e.length)=le
      generalize decide (0<b.length)=lb
      generalize decide (x.Op=1)=xo
      generalize formE x=fx
      generalize zvK b=fb
      generalize zvK e=fe
      cases r <;> cases n3 <;> cases nn <;> cases fx <;> first | rfl | (cases k5 <;> cases k6 <;> cases le <;> cases lb <;> cases xo <;> cases fb <;> cases fe <;> rfl)) (by
      unfold zeK
      simp only [Int.lt_irrefl,yP,yJ]) n 0 (yX _) (by omega)
    have key' : iter (zeK n l (zah n)) n 0=_:=key
    rw [key',List.drop_zero,zvS]
    cases l.all formS <;> rfl
def specC (inner:Bool) (k:Int) (N T0 T1 C0 D U V H FC:Bool):Bool:=
 !((decide (k<1) || decide (17<k)) || (decide (k≠1) && (!(inner == (decide (12≤k)))))) &&
 (!(((!(((((((decide (k=1) || decide (k=2)) || decide (k=8)) || decide (k=14)) || decide (k=15)) || decide (k=16)) == T0)) || (decide (k=1) && !(T0 && T1))) || ((!((((decide (3≤k) && decide (k≤7)) || decide (k=12)) || decide (k=13)) || decide (k=17))) && ((!U) || (!V)))) || (decide (k=17) && !V)) &&
 (!(((decide (k≠8) && (H || (decide (k≠11) && (!N)))) || ((!H) && (!D))) || (decide (k≠9) && C0)) && FC))
def restB (N:Bool) (AB:Bool) (U V D H:Bool):Bool:=(((N && AB) && (U && V)) && D) && !H
def loB (k:Int) (N T0 T1 C0 D U V H FC:Bool):Bool:=
 if k=1 then (T0 && T1) && restB N (!C0) U V D H else if (k=2∨k=14∨k=15)∨k=16 then T0 && restB N (!C0) U V D H else if k=8 then T0 && restB true (!C0) U V (H || D) false
 else if k=11 then restB true (!T0 && !C0) U V D H else if k=9 then FC && restB N (!T0) U V D H else if k=10 then restB N (!T0 && !C0) U V D H else (V || decide (k≠17)) && restB N (!T0 && !C0) true true D H
theorem zzO (inner:Bool) (k:Int) (N T0 T1 C0 D U V H FC:Bool) (hc:C0=false→FC=true):specC inner k N T0 T1 C0 D U V H FC=(inC inner k && loB k N T0 T1 C0 D U V H FC):=by
 by_cases hk:1≤k∧k≤17
 ·have all:∀ m:Fin 17,∀ inner N T0 T1 C0 D U V H FC:Bool,(C0=false→FC=true)→specC inner ((m.val:Int)+1) N T0 T1 C0 D U V H FC=(inC inner ((m.val:Int)+1) && loB ((m.val:Int)+1) N T0 T1 C0 D U V H FC):=by decide +kernel
  have:=all ⟨(k - 1).toNat,by omega⟩ inner N T0 T1 C0 D U V H FC hc
  have e:(((k - 1).toNat:Nat):Int)+1=k:=by omega
  dsimp only at this
  rw [e] at this
  exact this
 ·have h1:(decide (k<1) || decide (17<k))=true:=by rw [Bool.or_eq_true,decide_eq_true_eq,decide_eq_true_eq]; omega
  have h2:(decide (1≤k) && decide (k≤17))=false:=by rw [Bool.and_eq_false_iff,decide_eq_false_iff_not,decide_eq_false_iff_not]; omega
  unfold specC inC
  rw [h1,h2]; rfl
theorem lo_eq (k:Int) (n:List UInt8) (t c:Nat) (u v d:List UInt8) (hd fc:Bool):loC k n t c u v d hd fc=loB k (decide (n=[])) (decide (0<t)) (decide (t≤1)) (decide (0<c)) (decide (d=[])) (decide (u=[])) (decide (v=[])) hd fc:=by
 have t1:decide (t=1)=(decide (0<t) && decide (t≤1)):=by rw [← Bool.decide_and,decide_eq_decide]; omega
 have z1:∀ a b:Nat,decide (a+b=0)=(!decide (0<a) && !decide (0<b)):=fun a b=>by rw [← decide_not,← decide_not,← Bool.decide_and,decide_eq_decide]; omega
 have dd:decide ((if hd=true then [] else d)=[])=(hd || decide (d=[])):=by cases hd <;> rfl
 unfold loC loB restC restB
 simp only [t1,z1,dd,Nat.lt_irrefl,yP,yT,Bool.true_and,Bool.and_true,yQ]
theorem zzr:∀ (n:Nat) (l:List Cl) (inner:Bool),szCs l+3<n→szCs l≤10000000→z8z n l inner=some (zvT inner l)
  | 0,_,_,h,_=>absurd h (yH _)
  | n + 1, l, inner, h, h' => by
    have hlen:=znd l
    show z8A n (z8z n) l inner=_
    unfold z8A
    have key:=zzp (step:=zcR l inner (z8z n)) (l:=l) (p:=formC inner) (pan:=false) (by omega) (fun i hi=>by
      have hm:=zy3 hi
      unfold zcR
      simp only [yW,hi,yQ,yK,z5t hi,zc1 (j:=i) (show i≤1000000000 by omega)]
      generalize l[i]=x at *
      obtain ⟨k,a,nm,t,⟨u,v,ua⟩,d,hd,cs⟩:=x
      rw [szC] at hm
      have q1:=zzr n cs true (by omega) (by omega)
      rw [formC]
      dsimp only
      have hc:decide (0<cs.length)=false→zvT true cs=true:=fun q=>by
        have:cs.length=0:=by have:=of_decide_eq_false q; omega
        rw [List.length_eq_zero_iff.1 this]; rfl
      have t1:decide ((t.length:Int)≠1) = !(decide (0<t.length) && decide (t.length≤1)):=by rw [← Bool.decide_and,← decide_not,decide_eq_decide]; omega
      rw [lo_eq,← zzO inner k _ _ _ _ _ _ _ _ _ hc,q1,dpos,dpos,t1]
      unfold specC zfG zbP
      simp only [ob]
      generalize ((decide (k<1) || decide (17<k)) || (decide (k≠1) && (!(inner == (decide (12≤k))))))=A
      generalize (!(((((((decide (k=1) || decide (k=2)) || decide (k=8)) || decide (k=14)) || decide (k=15)) || decide (k=16)) == decide (0<t.length))))=B
      generalize (decide (k=1) && !(decide (0<t.length) && decide (t.length≤1)))=B2
      generalize ((!((((decide (3≤k) && decide (k≤7)) || decide (k=12)) || decide (k=13)) || decide (k=17))) && ((!decide (u=[])) || (!decide (v=[]))))=B3
      generalize (decide (k=17) && !decide (v=[]))=B4
      generalize (((decide (k≠8) && (hd || (decide (k≠11) && (!decide (nm=[]))))) || ((!hd) && (!decide (d=[])))) || (decide (k≠9) && decide (0<cs.length)))=B5
      generalize zvT true cs=fc
      cases A <;> cases B <;> cases B2 <;> cases B3 <;> cases B4 <;> cases B5 <;> cases fc <;> rfl) (by
      unfold zcR
      simp only [Int.lt_irrefl,yP,yJ]) n 0 (yX _) (by omega)
    have key' : iter (zcR l inner (z8z n)) n 0=_:=key
    rw [key',List.drop_zero,zvV]
    cases l.all (formC inner) <;> rfl
theorem zzw {n:Nat} {x:zG} (hz:szSrc x≤1000000) (hn:szSrc x+10<n) {i:Nat} (hi:i<x.Policies.length):iter (zh8 n x i) n 0=some (if x.Policies[i].Rules.all formR then .go () else .stop (.stop (.stop false))):=by
 have hp:szP x.Policies[i]≤szL szP x.Policies:=z9H (List.getElem_mem hi)
 have hs:szSrc x=szL szP x.Policies+szL szPr x.Programs:=rfl
 have hs' : szP x.Policies[i]=1+szL szR x.Policies[i].Rules:=rfl
 have hlen:=zce zpe x.Policies[i].Rules
 have key:=zzp (step:=zh8 n x i) (l:=x.Policies[i].Rules) (p:=formR) (pan:=.stop (.stop false)) (by omega) (fun k hk=>by
  have hle:szR x.Policies[i].Rules[k]≤szL szR x.Policies[i].Rules:=z9H (List.getElem_mem hk)
  have hsr:szR x.Policies[i].Rules[k]=1+szCs x.Policies[i].Rules[k].Clauses:=rfl
  unfold zh8
  simp only [z5t hi,yW,hk,yQ,yK,z5t hk,zc1 (j:=k) (show k≤1000000000 by omega)]
  rw [zzr n _ false (by omega) (by omega)]
  simp only [ob]
  unfold formR
  cases zvT false x.Policies[i].Rules[k].Clauses <;> rfl) (by
  unfold zh8
  simp only [z5t hi,Int.lt_irrefl,yP,yJ]) n 0 (yX _) (by omega)
 have key' : iter (zh8 n x i) n 0=_:=key
 rw [key',List.drop_zero]
theorem zzz {n:Nat} {x:zG} (hz:szSrc x≤1000000) (hn:szSrc x+10<n) {i:Nat} (hi:i<x.Programs.length):iter (zha x i) n 0=some (if x.Programs[i].Effects.all zvW then .go () else .stop (.stop (.stop false))):=by
 have hp:szPr x.Programs[i]≤szL szPr x.Programs:=z9H (List.getElem_mem hi)
 have hs:szSrc x=szL szP x.Policies+szL szPr x.Programs:=rfl
 have hs' : szPr x.Programs[i]=1+x.Programs[i].Effects.length+szSs x.Programs[i].Code:=rfl
 have key:=zzp (step:=zha x i) (l:=x.Programs[i].Effects) (p:=zvW) (pan:=.stop (.stop false)) (by omega) (fun k hk=>by
  unfold zha
  simp only [z5t hi,yW,hk,yQ,yK,z5t hk,zc1 (j:=k) (show k≤1000000000 by omega)]
  generalize x.Programs[i].Effects[k]=e
  have e1:(decide (e<1) || decide (6<e)) = !zvW e:=by
   unfold zvW
   by_cases c1:e<1
   ·rw [yM c1,yL (show ¬1≤e by omega)]; rfl
   ·rw [yL c1,yM (show 1≤e by omega),Bool.false_or,Bool.true_and,← decide_not,decide_eq_decide]; omega
  rw [e1]
  cases zvW e <;> rfl) (by
  unfold zha
  simp only [z5t hi,Int.lt_irrefl,yP,yJ]) n 0 (yX _) (by omega)
 have key' : iter (zha x i) n 0=_:=key
 rw [key',List.drop_zero]
theorem zzB {n:Nat} {x:zG} (hz:szSrc x≤1000000) (hn:szSrc x+10<n):zgC n x=some (zvR x):=by
 have hs:szSrc x=szL szP x.Policies+szL szPr x.Programs:=rfl
 have hl1:=zce znf x.Policies
 have hl2:=zce zkd x.Programs
 unfold zgC
 have k1:=zzp (step:=zh7 n x) (l:=x.Policies) (p:=formP) (pan:=false) (by omega) (fun i hi=>by
  unfold zh7
  simp only [yW,hi,yQ,yK,zc1 (j:=i) (show i≤1000000000 by omega)]
  rw [zzw hz hn hi]
  unfold formP
  cases x.Policies[i].Rules.all formR <;> rfl) (by
  unfold zh7
  simp only [Int.lt_irrefl,yP,yJ]) n 0 (yX _) (by omega)
 have k1' : iter (zh7 n x) n 0=_:=k1
 have k2:=zzp (step:=zh9 n x) (l:=x.Programs) (p:=zw8) (pan:=false) (by omega) (fun i hi=>by
  have hp:szPr x.Programs[i]≤szL szPr x.Programs:=z9H (List.getElem_mem hi)
  have hs' : szPr x.Programs[i]=1+x.Programs[i].Effects.length+szSs x.Programs[i].Code:=rfl
  unfold zh9
  simp only [yW,hi,yQ,yK,zc1 (j:=i) (show i≤1000000000 by omega),z5t hi]
  rw [zzz hz hn hi,zzs n _ (by omega) (by omega)]
  unfold zw8
  cases x.Programs[i].Effects.all zvW
  ·rfl
  ·cases zvK x.Programs[i].Code <;> rfl) (by
  unfold zh9
  simp only [Int.lt_irrefl,yP,yJ]) n 0 (yX _) (by omega)
 have k2' : iter (zh9 n x) n 0=_:=k2
 rw [k1',k2',List.drop_zero,List.drop_zero]
 unfold zvR
 cases x.Policies.all formP
 ·rfl
 ·cases x.Programs.all zw8 <;> rfl
theorem zzq {α R:Type} {step:List Lx×Int→Option (Lp (List Lx×Int) R)} {l:List α} {t:Nat→α→List Lx} {m:α→Nat} {fin:List Lx→R} (M:Nat) (hm:∀ j,∀ x∈l,(t j x).length≤m x)
    (h:∀ (i:Nat) (hi:i<l.length) (w:List Lx),w.length+m l[i]≤M→step (w,(i:Int))=some (.go (w++t i l[i],((i+1:Nat):Int))))
    (he:∀ w,step (w,(l.length:Int))=some (.stop (fin w))):∀ (n i:Nat) (w:List Lx),i≤l.length→l.length - i<n→w.length+((l.drop i).map m).sum≤M→
    iter step n (w,(i:Int))=some (fin (w++jn t i (l.drop i)))
  | 0,_,_,_,h,_=>absurd h (yH _)
  | n + 1, i, w, hi, hn, hw => by
    by_cases hl:i<l.length
    · have e:=List.drop_eq_getElem_cons hl
      rw [e,yI,List.sum_cons] at hw
      have h2:=hm i _ (List.getElem_mem hl)
      rw [e,jn,z4f (h i hl w (by omega)),zzq M hm h he n (i+1) (w++t i l[i]) hl (by omega) (by rw [yB]; omega)]
      simp only [yA]
    · have e:i=l.length:=by omega
      subst e
      rw [z1z (he w),List.drop_length]
      simp [jn]
theorem rw_eq (s:List UInt8):z5b s=some (tW s):=rfl
theorem rn_eq (s:List UInt8):zdK s=some (tN s):=rfl
theorem rq_eq (s:List UInt8):zfH s=some (tQ s):=rfl
theorem rd_eq (s:List UInt8):zhD s=some (tD s):=rfl
theorem rg_eq (s:List UInt8):z6n s=some (tG s):=rfl
theorem zzG {n:Nat} {x:E} (H:List Lx) (hH:H.length≤4) (hn:szE x+1<n) (hz:szE x≤10000000) (hf:formE x=true):z4v n H x=some (H++tokE x++[tG [59]]):=by
 have hl:=z6f x
 unfold z4v
 rw [rtokens n x hn (by omega) hf]
 simp only [ob,rg_eq]
 rw [z1n (by omega),z1n (by simp only [yB,yC,yF]; omega)]
theorem zzE {bl:List St→Option (List Lx)}:∀ (n:Nat) (s:St),szS s+5<n→szS s≤1000000→formS s=true→(∀ l:List St,szSs l<szS s→zvK l=true→bl l=some (blk (tokSs l)))→zb1 n bl s=some (tokS s)
  | 0,_,h,_,_,_=>absurd h (yH _)
  | n + 1, ⟨k, a, nm, x, b, e⟩, h, h', hf, hB => by
    rw [szS] at h h' hB
    rw [formS,Bool.and_eq_true,Bool.and_eq_true,Bool.and_eq_true] at hf
    obtain ⟨⟨⟨hloc,hx⟩,hb⟩,he⟩:=hf
    unfold locS at hloc
    simp only [Bool.and_eq_true,Bool.or_eq_true,decide_eq_true_eq] at hloc
    obtain ⟨⟨⟨⟨hn,hq⟩,hbb⟩,hk1,hk9⟩,h6⟩:=hloc
    have lx:=z6f x
    have lb:=zvU b
    have le:=zvU e
    have hBb:=hB b (by omega) hb
    have hBe:=hB e (by omega) he
    have zx:=zd8 x
    have lbb:(blk (tokSs b)).length=(tokSs b).length+2:=by unfold blk; simp
    have lbe:(blk (tokSs e)).length=(tokSs e).length+2:=by unfold blk; simp
    show zan n bl (zb1 n bl) ⟨k,a,nm,x,b,e⟩=_
    unfold zan
    rw [tokS]
    simp only [rw_eq,rn_eq,rq_eq,rd_eq,rg_eq,ob]
    have cl:∀ H:List Lx,H.length≤4→z4v n H x=some (H++tokE x++[tG [59]]):=fun H hH=>zzG H hH (by omega) (by omega) hx
    by_cases c1:k=1
    · subst c1; simp only [yQ,yK]; rw [cl _ (by simp)]; rfl
    by_cases c2:k=2
    · subst c2; simp only [Int.reduceEq,yQ,yP,yK,yJ]; rw [cl _ (by simp)]; rfl
    by_cases c3:k=3
    · subst c3; simp only [Int.reduceEq,yQ,yP,yK,yJ]; rw [cl _ (by simp)]; rfl
    by_cases c4:k=4
    · subst c4; simp only [Int.reduceEq,yQ,yP,yK,yJ]; rw [cl _ (by simp)]; rfl
    by_cases c7:k=7
    · subst c7; simp only [Int.reduceEq,yQ,yP,yK,yJ]; rw [cl _ (by simp)]; rfl
    by_cases c8:k=8
    · subst c8; simp only [Int.reduceEq,yQ,yP,yK,yJ]; rw [cl _ (by simp)]; rfl
    by_cases c9:k=9
    · subst c9; simp only [Int.reduceEq,yQ,yP,yK,yJ]; rw [cl _ (by simp)]; rfl
    by_cases c6:k=6
    · subst c6
      simp only [Int.reduceEq,yQ,yP,yK,yJ]
      rw [hBb]
      simp only [ob]
      rw [z1n (by rw [lbb]; simp; omega)]
      have ho:x.Op=1:=by
        rcases h6 with h | h
        · exact absurd rfl h
        · exact h
      obtain ⟨op,ax,sx,lx'⟩:=x
      have ho' : op=1:=ho
      subst ho'
      have hlx:lx'=[]:=by
        rw [formE,Bool.and_eq_true] at hx
        have:=hx.1
        unfold locE at this
        rw [if_pos (.inl rfl)] at this
        exact List.length_eq_zero_iff.1 (of_decide_eq_true this)
      subst hlx
      rfl
    have c5:k=5:=by omega
    subst c5
    simp only [Int.reduceEq,yP,yJ]
    rw [rtokens n x (by omega) (by omega) hx]
    simp only [ob]
    rw [z1n (by simp; omega),hBb]
    simp only [ob]
    rw [z1n (by simp only [yB,yC,yF,lbb]; omega)]
    have d0:decide ((e.length:Int)=0)=decide (e.length=0):=by rw [decide_eq_decide]; omega
    have d1:decide ((e.length:Int)=1)=decide (e.length=1):=by rw [decide_eq_decide]; omega
    have b5:∀ T1 T2,bodyS 5 nm x T1 e T2=[tW [105,102]]++tokE x++blk T1++elseT e T2:=fun T1 T2=>rfl
    rw [d0,d1,b5]
    match e,he,hBe,le,hB,h,h',lbe with
    | [], _, _, _, _, _, _, _ =>
      rw [show decide (([]:List St).length=0)=true from rfl,yK]
      have:elseT [] (tokSs [])=[]:=rfl
      rw [this,List.append_nil]
    | [s], he, hBe, le, hB, h, h', lbe =>
      have zs:szSs [s]=szS s:=by simp [szSs]
      have zt:tokSs [s]=tokS s:=by simp [tokSs]
      have zf:zvK [s]=formS s:=by simp [zvK]
      rw [zs] at h h' hB
      rw [zs,zt] at le
      rw [zf] at he
      rw [show decide ([s].length=0)=false from rfl,yJ,show decide ([s].length=1)=true from rfl,yK]
      rw [z1n (by simp only [yB,yC,yF,lbb]; omega)]
      rw [show (0:Int)=((0:Nat):Int) from rfl,z4e (x:=s) rfl,bJ]
      by_cases q:s.Kind=5
      · have i5:isIf [s]=true:=yM q
        simp only [q,yQ,yK]
        rw [z4e (x:=s) rfl,zzE n s (by omega) (by omega) he (fun l hl hl'=>hB l (by omega) hl')]
        simp only [ob]
        rw [z1n (by simp only [yB,yC,yF,lbb]; omega)]
        unfold elseT
        rw [i5,zt]
        simp only [yS,yA]
      · have i5:isIf [s]=false:=yL q
        simp only [q,yP,yJ]
        rw [hBe]
        simp only [ob]
        rw [z1n (by simp only [yB,yC,yF,lbb,lbe]; rw [zt]; omega)]
        unfold elseT
        rw [i5]
        simp only [yA]
        rfl
    | s :: t :: r, he, hBe, le, hB, h, h', lbe =>
      have hn1:decide ((s::t::r).length=1)=false:=yL (by simp)
      have hn0:decide ((s::t::r).length=0)=false:=yL (by simp)
      simp only [hn1,hn0,yJ,bJ]
      rw [z1n (by simp only [yB,yC,yF,lbb]; omega),hBe]
      simp only [ob]
      rw [z1n (by simp only [yB,yC,yF,lbb,lbe]; omega)]
      unfold elseT
      simp only [isIf,yA]
      rfl
theorem zzy:∀ (n:Nat) (l:List St),szSs l+8<n→szSs l≤1000000→zvK l=true→zdZ n l=some (blk (tokSs l))
  | 0,_,h,_,_=>absurd h (yH _)
  | n + 1, l, h, h', hf => by
    have hlen:=zng l
    have hl:=zvU l
    rw [zvS,List.all_eq_true] at hf
    show zca n (zdZ n) l=_
    unfold zca
    simp only [rg_eq,ob]
    have hsum:∀ r:List St,(r.map fun s=>8*szS s).sum=8*szSs r:=by
      intro r
      induction r with
      | nil=>rfl
      | cons s r ih=>simp only [yI,List.sum_cons,ih,szSs]; omega
    have key:=zzq (step:=zhd n l (zdZ n)) (l:=l) (t:=fun _=>tokS) (m:=fun s=>8*szS s) (fin:=fun w=>.go w) 2000000000 (fun _ x _=>zxp x) (fun i hi w hw=>by
      have hm:=znh hi
      have hts:=zxp l[i]
      unfold zhd
      simp only [yW,hi,yQ,yK,z5t hi,zc1 (j:=i) (show i≤1000000000 by omega)]
      rw [zzE n l[i] (by omega) (by omega) (hf _ (List.getElem_mem hi)) (fun l' hl' hf'=>zzy n l' (by omega) (by omega) hf')]
      simp only [ob]
      rw [z1n (by omega)]) (fun w=>by
      unfold zhd
      simp only [Int.lt_irrefl,yP,yJ]) n 0 [tG [123]] (yX _) (by omega) (by rw [List.drop_zero,hsum]; simp; omega)
    have key' : iter (zhd n l (zdZ n)) n ([tG [123]],0)=_:=key
    rw [key',List.drop_zero,zwL,bJ,← zwy]
    rw [z1n (by simp only [yB,yC,yF]; omega)]
    rfl
def kdC (k:Int):Int:=if k=16 then 3 else 4
theorem zzI {c:Cl} {n:Nat} (hn:c.Texts.length+2<n) (w:List Lx) (hw:w.length+2*c.Texts.length≤2000000000):iter (zdt c) n (w,0)=some (.go (w++comT (kdC c.Kind) c.Texts)):=by
 have key:=zzq (step:=zdt c) (l:=c.Texts) (t:=oneT (kdC c.Kind)) (m:=fun _=>2) (fin:=fun w=>.go w) 2000000000 (fun j x _=>zx7 _ j x) (fun i hi w' hw'=>by
  unfold zdt
  simp only [yW,hi,yQ,yK,z5t hi,zc1 (j:=i) (show i≤1000000000 by omega)]
  have d0:decide ((0:Int)<(i:Int))=decide (0<i):=dpos i
  rw [d0]
  unfold oneT kdC
  by_cases h0:i=0
  ·subst h0
   rw [show decide (0<0)=false from rfl,yJ,bJ,if_pos rfl]
   by_cases h16:c.Kind=16
   ·simp only [h16,yQ,yK,yS,rd_eq,ob]
    rw [z1n (by simp; omega)]; rfl
   ·simp only [h16,yP,yJ,yR,rq_eq,ob]
    rw [z1n (by simp; omega)]; rfl
  ·simp only [yM (show 0<i by omega),yK,rg_eq,ob]
   rw [z1n (by simp; omega),bJ,if_neg h0]
   by_cases h16:c.Kind=16
   ·simp only [h16,yQ,yK,yS,rd_eq,ob]
    rw [z1n (by simp; omega),bJ,yA]; rfl
   ·simp only [h16,yP,yJ,yR,rq_eq,ob]
    rw [z1n (by simp; omega),bJ,yA]; rfl) (fun w'=>by
  unfold zdt
  simp only [Int.lt_irrefl,yP,yJ]) n 0 w (yX _) (by omega) (by rw [List.drop_zero,zvY]; omega)
 have key' : iter (zdt c) n (w,0)=_:=key
 rw [key',List.drop_zero]
 rfl
theorem zzA {n:Nat} {rec:List Cl→Option (List Lx)} (c:Cl) (inner:Bool) (h:szC c+6<n) (h' : szC c≤1000000) (hf:formC inner c=true) (hB:∀ l:List Cl,szCs l<szC c→zvT true l=true→rec l=some (blk (tokCs l))):zbj n rec c=some (tokC c):=by
  obtain ⟨k,a,nm,t,⟨u,v,ua⟩,d,hd,cs⟩:=c
  rw [szC] at h h' hB
  rw [formC,Bool.and_eq_true] at hf
  obtain ⟨hi,hf⟩:=hf
  dsimp only at hf
  have hk:1≤k∧k≤17:=by
    unfold inC at hi
    simp only [Bool.and_eq_true,decide_eq_true_eq] at hi
    exact hi.1
  have lc:=zw4 cs
  unfold zbj
  rw [tokC]
  have et:∀ {β:Type} (f:List (List UInt8)→Option β),obind z7C f=f z5y:=fun f=>rfl
  simp only [et,idxC hk.1 hk.2,rw_eq,rn_eq,rq_eq,rd_eq,rg_eq,ob]
  have c3:=zwm (kdC k) t
  have loop:=fun w hw=>zzI (c:=⟨k,a,nm,t,⟨u,v,ua⟩,d,hd,cs⟩) (n:=n) (by show t.length+2<n; omega) w hw
  dsimp only at loop
  by_cases k9:k=9
  · subst k9
    have hfc:zvT true cs=true∧restC nm t.length 0 u v d hd=true:=by
      have:(zvT true cs && restC nm t.length 0 u v d hd)=true:=hf
      rwa [Bool.and_eq_true] at this
    simp only [yQ,yK]
    rw [hB cs (by omega) hfc.1]
    simp only [ob]
    rw [z1n (by unfold blk; simp; omega)]
    show some _=some (_++blk (tokCs cs)++[])
    rw [List.append_nil]
  simp only [k9,yP,yJ]
  have e9:endC k=[tG [59]]:=by unfold endC; rw [if_neg k9]
  rw [e9]
  have lk:∀ (q:Bool),zbP k=some q→True:=fun _ _=>trivial
  by_cases k11:k=11
  · subst k11
    obtain ⟨_,ht,_,rfl,rfl,rfl,rfl⟩:=zvQ (show restC [] t.length cs.length u v d hd=true from hf)
    obtain rfl:=List.length_eq_zero_iff.1 ht
    simp only [Int.reduceEq,yQ,yP,yK,yJ,bJ]
    rw [z1n (by simp)]
    simp only [bJ]
    rw [loop _ (by simp)]
    simp only [bJ]
    rw [show zbP 11=some false from rfl]
    simp only [ob,yJ,bJ]
    rw [z1n (by simp [comT,jn])]
    try rfl
  simp only [k11,yP,yJ,bJ]
  by_cases k8:k=8
  · subst k8
    have hf8:decide (0<t.length)=true∧restC [] 0 cs.length u v (if hd then [] else d) false=true:=by
      have:(decide (0<t.length) && restC [] 0 cs.length u v (if hd then [] else d) false)=true:=hf
      rwa [Bool.and_eq_true] at this
    simp only [yQ,yK]
    rw [z1n (by simp)]
    simp only [bJ]
    rw [loop _ (by simp; omega)]
    simp only [bJ]
    cases hd with
    | true =>
      simp only [yK]
      rw [z1n (by simp; omega)]
      simp only [bJ]
      rw [show zbP 8=some false from rfl]
      simp only [ob,yJ,bJ]
      rw [z1n (by simp; omega)]
      unfold bodyC
      simp only [Int.reduceEq,yR,yS,false_or,kdC,yA]
      try rfl
    | false =>
      simp only [yJ,bJ]
      rw [show zbP 8=some false from rfl]
      simp only [ob,yJ,bJ]
      rw [z1n (by simp; omega)]
      unfold bodyC
      simp only [Int.reduceEq,yR,yS,false_or,kdC,yA]
      try rfl
  simp only [k8,yP,yJ,bJ]
  rw [loop _ (by simp; omega)]
  simp only [bJ]
  have hdf:hd=false:=by
    revert hf
    unfold loC
    intro hf
    split at hf
    · rw [Bool.and_eq_true] at hf; exact (zvQ hf.2).2.2.2.2.2.2
    split at hf
    · rw [Bool.and_eq_true] at hf; exact (zvQ hf.2).2.2.2.2.2.2
    split at hf
    · exact (zvQ hf).2.2.2.2.2.2
    · rw [Bool.and_eq_true] at hf; exact (zvQ hf.2).2.2.2.2.2.2
  subst hdf
  simp only [yJ,bJ]
  by_cases kl:k=1∨k=2∨k=14∨k=15∨k=16
  · have e1:zbP k=some false:=by rcases kl with rfl | rfl | rfl | rfl | rfl <;> rfl
    rw [e1]
    simp only [ob,yJ,bJ]
    rw [z1n (by simp; omega)]
    have e2:bodyC k nm t u v d false (tokCs cs)=comT (kdC k) t:=by rcases kl with rfl | rfl | rfl | rfl | rfl <;> rfl
    rw [e2]
  have ht:t=[]:=by
    unfold loC at hf
    rw [if_neg (fun q=>kl (.inl q)),if_neg (fun q=>kl (by omega)),if_neg k8,if_neg k11,if_neg k9] at hf
    split at hf
    · exact List.length_eq_zero_iff.1 (zvQ hf).2.1
    · rw [Bool.and_eq_true] at hf; exact List.length_eq_zero_iff.1 (zvQ hf.2).2.1
  subst ht
  have ec:comT (kdC k) []=[]:=rfl
  rw [ec,List.append_nil]
  by_cases k10:k=10
  · subst k10
    rw [show zbP 10=some false from rfl]
    simp only [ob,yJ,bJ]
    rw [z1n (by simp)]
    try rfl
  have e1:zbP k=some true:=by
    have:k=3∨k=4∨k=5∨k=6∨k=7∨k=12∨k=13∨k=17:=by omega
    rcases this with rfl | rfl | rfl | rfl | rfl | rfl | rfl | rfl <;> rfl
  have e2:bodyC k nm [] u v d false (tokCs cs)=amT u v:=by
    unfold bodyC
    rw [if_neg (by omega),if_neg (by omega),if_neg (by omega),if_neg k8,if_neg k11,if_neg k9,if_neg k10]
  rw [e1,e2]
  simp only [ob,yK]
  rw [z1n (by simp)]
  unfold amT
  by_cases hv:v=[]
  · subst hv
    simp only [yQ,yU,yJ,bJ,yS]
    rw [z1n (by simp)]
    try rfl
  · simp only [hv,yP,yT,yK,yR]
    rw [z1n (by simp),bJ,z1n (by simp)]
    try rfl
theorem zzt:∀ (n:Nat) (l:List Cl) (inner:Bool),szCs l+8<n→szCs l≤1000000→zvT inner l=true→z8w n l=some (blk (tokCs l))
  | 0,_,_,h,_,_=>absurd h (yH _)
  | n + 1, l, inner, h, h', hf => by
    have hlen:=znd l
    have hl:=zw4 l
    rw [zvV,List.all_eq_true] at hf
    show z8x n (z8w n) l=_
    unfold z8x
    simp only [rg_eq,ob]
    have key:=zzq (step:=zcM n l (z8w n)) (l:=l) (t:=fun _=>tokC) (m:=fun s=>8*szC s) (fin:=fun w=>.go w) 2000000000 (fun _ x _=>zxm x) (fun i hi w hw=>by
      have hm:=zy3 hi
      have hts:=zxm l[i]
      unfold zcM
      simp only [yW,hi,yQ,yK,z5t hi,zc1 (j:=i) (show i≤1000000000 by omega)]
      rw [zzA l[i] inner (by omega) (by omega) (hf _ (List.getElem_mem hi)) (fun l' hl' hf'=>zzt n l' true (by omega) (by omega) hf')]
      simp only [ob]
      rw [z1n (by omega)]) (fun w=>by
      unfold zcM
      simp only [Int.lt_irrefl,yP,yJ]) n 0 [tG [123]] (yX _) (by omega) (by rw [List.drop_zero,zy4]; simp; omega)
    have key' : iter (zcM n l (z8w n)) n ([tG [123]],0)=_:=key
    rw [key',List.drop_zero,zwL,bJ,← zwi]
    rw [z1n (by simp only [yB,yC,yF]; omega)]
    rfl
theorem zzJ {n:Nat} {p:zL} (hn:szP p+20<n) (hz:szP p≤1000000) (hf:formP p=true) (w:List Lx) (hw:w.length+8*szL szR p.Rules≤1900000000):iter (zdx n p) n (w,0)=some (.go (w++p.Rules.flatMap tokR1)):=by
 have hs:szP p=1+szL szR p.Rules:=rfl
 have hlen:=zce zpe p.Rules
 unfold formP at hf
 rw [List.all_eq_true] at hf
 have key:=zzq (step:=zdx n p) (l:=p.Rules) (t:=fun _=>tokR1) (m:=fun r=>8*szR r) (fin:=fun w=>.go w) 1900000000 (fun _ x _=>zwu x) (fun i hi w hw=>by
  have hm:szR p.Rules[i]≤szL szR p.Rules:=z9H (List.getElem_mem hi)
  have hs' : szR p.Rules[i]=1+szCs p.Rules[i].Clauses:=rfl
  have hl:=zw4 p.Rules[i].Clauses
  unfold zdx
  simp only [yW,hi,yQ,yK,z5t hi,rw_eq,rn_eq,ob,zc1 (j:=i) (show i≤1000000000 by omega)]
  rw [z1n (by simp; omega),zzt n _ false (by omega) (by omega) (hf _ (List.getElem_mem hi))]
  simp only [ob]
  rw [z1n (by unfold blk; simp; omega)]
  unfold tokR1
  simp only [yA]) (fun w=>by
  unfold zdx
  simp only [Int.lt_irrefl,yP,yJ]) n 0 w (yX _) (by omega) (by rw [List.drop_zero,zxl]; omega)
 have key' : iter (zdx n p) n (w,0)=_:=key
 rw [key',List.drop_zero,zwL]
theorem zzx {n:Nat} {x:zG} (hn:szSrc x+20<n) (hz:szSrc x≤1000000) (hf:x.Policies.all formP=true):iter (zdw n x) n ([],0)=some (.go (x.Policies.flatMap tokP)):=by
 have hs:szSrc x=szL szP x.Policies+szL szPr x.Programs:=rfl
 have hlen:=zce znf x.Policies
 rw [List.all_eq_true] at hf
 have key:=zzq (step:=zdw n x) (l:=x.Policies) (t:=fun _=>tokP) (m:=fun r=>8*szP r) (fin:=fun w=>.go w) 1800000000 (fun _ x _=>zwH x) (fun i hi w hw=>by
  have hm:szP x.Policies[i]≤szL szP x.Policies:=z9H (List.getElem_mem hi)
  have hs' : szP x.Policies[i]=1+szL szR x.Policies[i].Rules:=rfl
  have hl:=zbC zwu x.Policies[i].Rules
  unfold zdw
  simp only [yW,hi,yQ,yK,z5t hi,rw_eq,rn_eq,rg_eq,ob,zc1 (j:=i) (show i≤1000000000 by omega)]
  rw [z1n (by simp; omega),zzJ (by omega) (by omega) (hf _ (List.getElem_mem hi)) _ (by simp; omega),bJ]
  rw [z1n (by simp only [yB,yC,yF]; omega)]
  unfold tokP blk
  simp only [yA,yE,yD]) (fun w=>by
  unfold zdw
  simp only [Int.lt_irrefl,yP,yJ]) n 0 [] (yX _) (by omega) (by rw [List.drop_zero,zxl]; simp; omega)
 have key' : iter (zdw n x) n ([],0)=_:=key
 rw [key',List.drop_zero,zwL,yD]
theorem zzM {n:Nat} {p:zI} (hn:p.Effects.length+20<n) (hz:p.Effects.length≤1000000) (hf:p.Effects.all zvW=true) (w:List Lx) (hw:w.length+2*p.Effects.length≤1900000000):iter (zdz z7I p) n (w,0)=some (.go (w++jn effT 0 p.Effects)):=by
 rw [List.all_eq_true] at hf
 have key:=zzq (step:=zdz z7I p) (l:=p.Effects) (t:=effT) (m:=fun _=>2) (fin:=fun w=>.go w) 1900000000 (fun _ x _=>Nat.le_refl _) (fun i hi w hw=>by
  have hk:1≤p.Effects[i]∧p.Effects[i]≤6:=by
   have:=hf _ (List.getElem_mem hi)
   unfold zvW at this
   simpa [Bool.and_eq_true] using this
  have ei:decide ((i:Int)=0)=decide (i=0):=by rw [decide_eq_decide]; omega
  unfold zdz
  simp only [yW,hi,yQ,yK,z5t hi,rw_eq,rg_eq,ob,zc1 (j:=i) (show i≤1000000000 by omega),ei]
  unfold effT
  by_cases h0:i=0
  ·rw [yM h0,yK,z1n (by simp; omega),bJ,idxEf hk.1 hk.2,z1n (by simp; omega),if_pos h0]
   simp only [yA,yE,yD]
  ·rw [yL h0,yJ,z1n (by simp; omega),bJ,idxEf hk.1 hk.2,z1n (by simp; omega),if_neg h0]
   simp only [yA,yE,yD]) (fun w=>by
  unfold zdz
  simp only [Int.lt_irrefl,yP,yJ]) n 0 w (yX _) (by omega) (by rw [List.drop_zero,zvY]; omega)
 have key' : iter (zdz z7I p) n (w,0)=_:=key
 rw [key',List.drop_zero]
theorem zzD {n:Nat} {x:zG} (hn:szSrc x+20<n) (hz:szSrc x≤1000000) (hf:zvR x=true):zbq n x=some (zvP x):=by
 have hs:szSrc x=szL szP x.Policies+szL szPr x.Programs:=rfl
 have hlen:=zce zkd x.Programs
 have hp:=zbC zwH x.Policies
 unfold zvR at hf
 rw [Bool.and_eq_true,List.all_eq_true (p:=zw8)] at hf
 unfold zbq
 rw [zzx hn hz hf.1]
 have et:∀ {β:Type} (f:List (List UInt8)→Option β),obind z7D f=f z7I:=fun f=>rfl
 simp only [bJ,et]
 have key:=zzq (step:=zdy n x z7I) (l:=x.Programs) (t:=fun _=>tokPr) (m:=fun r=>8*szPr r) (fin:=fun w=>.go w) 1800000000 (fun _ x _=>zwW x) (fun i hi w hw=>by
  have hm:szPr x.Programs[i]≤szL szPr x.Programs:=z9H (List.getElem_mem hi)
  have hs' : szPr x.Programs[i]=1+x.Programs[i].Effects.length+szSs x.Programs[i].Code:=rfl
  have hl:=zx2 x.Programs[i].Effects
  have hc:=zvU x.Programs[i].Code
  have hff:=hf.2 _ (List.getElem_mem hi)
  unfold zw8 at hff
  rw [Bool.and_eq_true] at hff
  unfold zdy
  simp only [yW,hi,yQ,yK,z5t hi,rw_eq,rn_eq,ob,zc1 (j:=i) (show i≤1000000000 by omega)]
  rw [z1n (by simp; omega),zzM (by omega) (by omega) hff.1 _ (by simp; omega),bJ,zzy n _ (by omega) (by omega) hff.2]
  simp only [ob]
  rw [z1n (by unfold blk; simp only [yB,yC,yF]; omega)]
  unfold tokPr
  simp only [yA]) (fun w=>by
  unfold zdy
  simp only [Int.lt_irrefl,yP,yJ]) n 0 (x.Policies.flatMap tokP) (yX _) (by omega) (by rw [List.drop_zero,zxl]; omega)
 have key' : iter (zdy n x z7I) n (x.Policies.flatMap tokP,0)=_:=key
 rw [key',List.drop_zero,zwL]
 rfl
theorem zzH {x:zG} (hs:szSrc x≤12000) (hm:SmT 3000 (zvP x)) {n:Nat} (hn:1000000<n):zhB n x=some ⟨(outW (zvR x) (zvP x)).1,(outW (zvR x) (zvP x)).2⟩:=by
  have hl:=zxq x
  unfold zhB
  rw [zzB (by omega) (by omega)]
  simp only [ob]
  unfold outW
  cases hf:zvR x with
  | false=>rfl
  | true =>
    simp only [yU,yJ,yS]
    rw [zzD (by omega) (by omega) hf]
    simp only [ob]
    rw [zlv (by omega) hm hn]
    rfl
theorem zzF {α β:Type} (f:α→β) {l:List α} {i:Nat} (h:i<l.length):(l.take i).map f++[f l[i]]=(l.take (i+1)).map f:=by
 rw [zaM h,List.map_append]; rfl
theorem zzu {α R:Type} {step:List α×Int→Option (Lp (List α×Int) (Lp (List α) R))} (f:α→α) (l:List α) (h:∀ (i:Nat) (hi:i<l.length),step ((l.take i).map f,(i:Int))=some (.go ((l.take i).map f++[f l[i]],((i+1:Nat):Int))))
    (he:step (l.map f,(l.length:Int))=some (.stop (.go (l.map f)))):∀ (n i:Nat),i≤l.length→l.length - i<n→iter step n ((l.take i).map f,(i:Int))=some (.go (l.map f))
  | 0,_,_,h=>absurd h (yH _)
  | n + 1, i, hi, hn => by
    by_cases hl:i<l.length
    · rw [z4f (h i hl),zzF f hl]
      exact zzu f l h he n (i+1) hl (by omega)
    · have e:i=l.length:=by omega
      subst e
      rw [List.take_length,z1z he]
theorem zzv {α R:Type} {step:Int×List α→Option (Lp (Int×List α) (Lp (List α) R))} (f:α→α) (l:List α) (h:∀ (i:Nat) (hi:i<l.length),step ((i:Int),(l.take i).map f)=some (.go (((i+1:Nat):Int),(l.take i).map f++[f l[i]])))
    (he:step ((l.length:Int),l.map f)=some (.stop (.go (l.map f)))):∀ (n i:Nat),i≤l.length→l.length - i<n→iter step n ((i:Int),(l.take i).map f)=some (.go (l.map f))
  | 0,_,_,h=>absurd h (yH _)
  | n + 1, i, hi, hn => by
    by_cases hl:i<l.length
    · rw [z4f (h i hl),zzF f hl]
      exact zzv f l h he n (i+1) hl (by omega)
    · have e:i=l.length:=by omega
      subst e
      rw [List.take_length,z1z he]
theorem zzL:∀ (n:Nat) (l:List E),szEs l+1<n→szEs l≤10000000→zaX n l=some (l.map (atE z0))
  | 0,_,h,_=>absurd h (yH _)
  | n + 1, l, h, h' => by
    have hl:=zgS l
    show zaa n (zaX n) _=_
    unfold zaa
    have key:=zzu (step:=zfn l (zaX n)) (atE z0) l (fun i hi=>by
      have hm:=zkc hi
      have e:szE l[i]=1+szEs l[i].Args:=by cases l[i]; rfl
      have ec:atE z0 l[i]=⟨l[i].Op,0,l[i].S,l[i].Args.map (atE z0)⟩:=by cases l[i]; rw [atE,zhS]; rfl
      unfold zfn
      simp only [yW,hi,yQ,yK,z5t hi,zzL n l[i].Args (by omega) (by omega),ob,zc1 (j:=i) (show i≤1000000000 by omega)]
      rw [z1n (by simp; omega),ec]) (by
      unfold zfn
      simp only [Int.lt_irrefl,yP,yJ]) n 0 (yX _) (by omega)
    have key' : iter (zfn l (zaX n)) n ([],0)=_:=key
    rw [key']; rfl
theorem zzK:∀ (n:Nat) (l:List Cl),szCs l+1<n→szCs l≤10000000→z9x n l=some (l.map (atC z0))
  | 0,_,h,_=>absurd h (yH _)
  | n + 1, l, h, h' => by
    have hl:=znd l
    show z9p n (z9x n) _=_
    unfold z9p
    have key:=zzu (step:=zdY l (z9x n)) (atC z0) l (fun i hi=>by
      have hm:=zne hi
      have e:szC l[i]=1+l[i].Texts.length+szCs l[i].Conds:=by cases l[i]; rfl
      have ec:atC z0 l[i]=⟨l[i].Kind,0,l[i].Name,l[i].Texts,⟨l[i].Amount.Number,l[i].Amount.Unit,0⟩,l[i].Default,l[i].HasDefault,l[i].Conds.map (atC z0)⟩:=by
        cases l[i]; rw [atC,zdS]; rfl
      unfold zdY
      simp only [yW,hi,yQ,yK,z5t hi,zzK n l[i].Conds (by omega) (by omega),ob,zc1 (j:=i) (show i≤1000000000 by omega)]
      rw [z1n (by simp; omega),ec]) (by
      unfold zdY
      simp only [Int.lt_irrefl,yP,yJ]) n 0 (yX _) (by omega)
    have key' : iter (zdY l (z9x n)) n ([],0)=_:=key
    rw [key']; rfl
theorem zzC:∀ (n:Nat) (l:List St),szSs l+1<n→szSs l≤10000000→zbN n l=some (l.map (atS z0))
  | 0,_,h,_=>absurd h (yH _)
  | n + 1, l, h, h' => by
    have hl:=zng l
    show zaF n (zbN n) _=_
    unfold zaF
    have key:=zzu (step:=zfR n l (zbN n)) (atS z0) l (fun i hi=>by
      have hm:=znh hi
      have hq:=zd8 l[i].X
      have e:szS l[i]=1+szE l[i].X+szSs l[i].Body+szSs l[i].Else:=by cases l[i]; rfl
      have e' : szE l[i].X=1+szEs l[i].X.Args:=by cases l[i].X; rfl
      have ex:atE z0 l[i].X=⟨l[i].X.Op,0,l[i].X.S,l[i].X.Args.map (atE z0)⟩:=by cases l[i].X; rw [atE,zhS]; rfl
      have ec:atS z0 l[i]=⟨l[i].Kind,0,l[i].Name,⟨l[i].X.Op,0,l[i].X.S,l[i].X.Args.map (atE z0)⟩,l[i].Body.map (atS z0),l[i].Else.map (atS z0)⟩:=by
        rw [← ex]; cases l[i]; rw [atS,z6Z,z6Z]; rfl
      unfold zfR
      simp only [yW,hi,yQ,yK,z5t hi,zzL n l[i].X.Args (by omega) (by omega),zzC n l[i].Body (by omega) (by omega),zzC n l[i].Else (by omega) (by omega),ob,zc1 (j:=i) (show i≤1000000000 by omega)]
      rw [z1n (by simp; omega),ec]) (by
      unfold zfR
      simp only [Int.lt_irrefl,yP,yJ]) n 0 (yX _) (by omega)
    have key' : iter (zfR n l (zbN n)) n ([],0)=_:=key
    rw [key']; rfl
theorem zzN (x:zG) {n:Nat} (h:szSrc x+5<n) (h' : szSrc x≤10000000):zjg n x=some (atSrc z0 x):=by
 have h1:=zce znf x.Policies
 have h2:=zce zkd x.Programs
 unfold szSrc at h h'
 unfold zjg
 have k1:=zzv (step:=zjh n x) (atP z0) x.Policies (fun i hi=>by
  have hm:szP x.Policies[i]≤szL szP x.Policies:=z9H (List.getElem_mem hi)
  have h3:=zce zpe x.Policies[i].Rules
  simp only [szP] at hm
  unfold zjh
  simp only [yW,hi,yQ,yK,z5t hi]
  have k2:=zzv (step:=zji n x i) (atR z0) x.Policies[i].Rules (fun k hk=>by
   have hm' : szR x.Policies[i].Rules[k]≤szL szR x.Policies[i].Rules:=z9H (List.getElem_mem hk)
   simp only [szR] at hm'
   have ec:atR z0 x.Policies[i].Rules[k]=⟨x.Policies[i].Rules[k].Name,0,x.Policies[i].Rules[k].Clauses.map (atC z0)⟩:=by rw [atR,zdS]; rfl
   unfold zji
   simp only [z5t hi,yW,hk,yQ,yK,z5t hk,zzK n x.Policies[i].Rules[k].Clauses (by omega) (by omega),ob,zc1 (j:=k) (show k≤1000000000 by omega)]
   rw [z1n (by simp; omega),ec]) (by
   unfold zji
   simp only [z5t hi,Int.lt_irrefl,yP,yJ]) n 0 (yX _) (by omega)
  have k2' : iter (zji n x i) n (0,[])=_:=k2
  rw [k2',bJ,z1n (by simp; omega),zc1 (j:=i) (show i≤1000000000 by omega)]
  rfl) (by
  unfold zjh
  simp only [Int.lt_irrefl,yP,yJ]) n 0 (yX _) (by omega)
 have k1' : iter (zjh n x) n (0,[])=_:=k1
 have k3:=zzv (step:=zjj n x) (atPr z0) x.Programs (fun i hi=>by
  have hm:szPr x.Programs[i]≤szL szPr x.Programs:=z9H (List.getElem_mem hi)
  simp only [szPr] at hm
  have ec:atPr z0 x.Programs[i]=⟨x.Programs[i].Name,0,x.Programs[i].Effects,x.Programs[i].Code.map (atS z0)⟩:=by rw [atPr,z6Z]; rfl
  unfold zjj
  simp only [yW,hi,yQ,yK,z5t hi,zzC n x.Programs[i].Code (by omega) (by omega),ob,zc1 (j:=i) (show i≤1000000000 by omega)]
  rw [z1n (by simp; omega),ec]) (by
  unfold zjj
  simp only [Int.lt_irrefl,yP,yJ]) n 0 (yX _) (by omega)
 have k3' : iter (zjj n x) n (0,[])=_:=k3
 rw [k1',k3']
 rfl
end Go.Proofs.YtcmaoifiiigggaaGreatDoor
