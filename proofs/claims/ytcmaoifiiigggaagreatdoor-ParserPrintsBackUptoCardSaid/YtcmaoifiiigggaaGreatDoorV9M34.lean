/-
  Texts that stand side by side: Tq, Tr.
-/
import Derived.Test.YtcmaoifiiigggaaGreatDoorV9M33
set_option linter.unusedSimpArgs false
set_option linter.unusedVariables false
namespace Go.Proofs.YtcmaoifiiigggaaGreatDoor
open Go.Abs Go.Ps Go.Lex
mutual
def smC (M:Nat):Cl→Prop
 | ⟨_,_,n,t,am,d,_,c⟩=>((n.length≤M∧d.length≤M)∧am.Number.length≤M∧am.Unit.length≤M)∧(∀ s∈t,s.length≤M)∧smCs M c
def smCs (M:Nat):List Cl→Prop
 | []=>True
 | x::r=>smC M x∧smCs M r
end
theorem zza (M:Nat):∀ l:List Cl,smCs M l ↔ ∀ x∈l,smC M x
  | []=>⟨fun _ x h=>absurd h y0,fun _=>trivial⟩
  | x :: r => by
    rw [smCs,zza M r]
    exact ⟨fun h y hy=>by rcases List.mem_cons.1 hy with rfl | hy; exact h.1; exact h.2 y hy,fun h=>⟨h x (List.mem_cons_self ..),fun y hy=>h y (List.mem_cons_of_mem _ hy)⟩⟩
theorem zz7 {m:Int} {c:Cl} (hm : -100000000≤m∧m≤100000000) (hl:c.Texts.length≤100000000):∀ (n i:Nat) (a:Int),i≤c.Texts.length→c.Texts.length - i<n→0≤a→a≤100000000+i→
    iter (zeH m c) n (a,(i:Int))=some (if ∀ s∈c.Texts.drop i,s.length≤300 then .go (a+(c.Texts.length - i:Nat)) else .stop (.stop (.stop (m+1))))
  | 0,_,_,_,h,_,_=>absurd h (yH _)
  | n + 1, i, a, hi, hn, ha, ha' => by
    by_cases hlt:i<c.Texts.length
    · have e:=List.drop_eq_getElem_cons hlt
      by_cases hs:300<c.Texts[i].length
      · rw [z1z (r:=.stop (.stop (.stop (m+1)))),if_neg (fun q=>by have:=q c.Texts[i] (by rw [e]; exact List.mem_cons_self ..); omega)]
        unfold zeH
        simp only [yW,hlt,yQ,yK,z5t hlt]
        rw [yM (show (300:Int)<(c.Texts[i].length:Int) by omega),yK,Go.Abs.zb6 (by omega) (by omega)]
      · rw [z4f (s':=(a+1,((i+1:Nat):Int))),zz7 hm hl n (i+1) (a+1) hlt (by omega) (by omega) (by omega)]
        · have:(∀ s∈c.Texts.drop i,s.length≤300) ↔ ∀ s∈c.Texts.drop (i+1),s.length≤300:=by
            rw [e]
            exact ⟨fun q s hs=>q s (List.mem_cons_of_mem _ hs),fun q s hq=>by rcases List.mem_cons.1 hq with rfl | hq; omega; exact q s hq⟩
          simp only [this]
          have e3:a+1+((c.Texts.length - (i+1):Nat):Int)=a+((c.Texts.length - i:Nat):Int):=by omega
          rw [e3]
        · unfold zeH
          simp only [yW,hlt,yQ,yK,z5t hlt]
          rw [yL (show ¬(300:Int)<(c.Texts[i].length:Int) by omega),yJ,Go.Abs.zb6 (by omega) (by omega),zc1 (j:=i) (by omega)]
    · have e:i=c.Texts.length:=by omega
      subst e
      rw [z1z (r:=.go a),List.drop_length,if_pos (fun s h=>absurd h y0),Nat.sub_self]
      · simp
      · unfold zeH
        simp only [Int.lt_irrefl,yP,yJ]
theorem zz5:∀ (n:Nat) (l:List Cl) (m:Int),szCs l+1<n→szCs l≤1048576→-10000000≤m→m≤1000→∃ r,zad n l m=some r∧0≤r∧r≤szCs l+1001∧(r≤m→r=szCs l∧smCs 300 l)
  | 0,_,_,h,_,_,_=>absurd h (yH _)
  | n + 1, l, m, h, h', hm, hm' => by
    rw [zjA] at h h'
    have hlen:=zce zsz l
    show ∃ r,z9E n (zad n) l m=some r∧_
    unfold z9E
    obtain ⟨o,h1,h2⟩:=zz2 (step:=zeG n l m (zad n)) (l:=l) (m:=m) (a0:=0) (sz:=szC) (Q:=smC 300) (bad:=fun r=>r=m+1∧0≤m) (W:=fun a=>0≤a∧a≤szL szC l+1001) (fun i hi ha=>by
      have hle:szL szC (l.take i)+szC l[i]≤szL szC l:=by rw [← zzc hi]; exact zzo l (i+1)
      generalize hT:(0:Int)+szL szC (l.take i)=a at *
      have ha0:0≤a:=by omega
      unfold zeG
      simp only [yW,hi,ha,yQ,Bool.and_self,yK,z5t hi]
      generalize l[i]=x at *
      obtain ⟨k,at_,nm,t,am,d,hd,cs⟩:=x
      rw [szC] at hle
      dsimp only
      by_cases hs:(nm.length≤300∧d.length≤300)∧am.Number.length≤300∧am.Unit.length≤300
      rotate_left
      · refine ⟨_,?_,.inl ⟨m+1,rfl,rfl,by omega⟩⟩
        have e:(((decide ((300:Int)<(nm.length:Int)) || decide ((300:Int)<(d.length:Int))) || decide ((300:Int)<(am.Number.length:Int))) || decide ((300:Int)<(am.Unit.length:Int)))=true:=by
          simp only [Bool.or_eq_true,decide_eq_true_eq]; omega
        rw [e,yK,Go.Abs.zb6 (by omega) (by omega)]
      have e:(((decide ((300:Int)<(nm.length:Int)) || decide ((300:Int)<(d.length:Int))) || decide ((300:Int)<(am.Number.length:Int))) || decide ((300:Int)<(am.Unit.length:Int)))=false:=by
        simp only [Bool.or_eq_false_iff,decide_eq_false_iff_not]; omega
      rw [e,yJ]
      have ht:=zz7 (m:=m) (c:=⟨k,at_,nm,t,am,d,hd,cs⟩) (by omega) (by show t.length≤_; omega) n 0 a (yX _) (by show t.length - 0<n; omega) ha0 (by omega)
      have ht' : iter (zeH m ⟨k,at_,nm,t,am,d,hd,cs⟩) n (a,0)=_:=ht
      rw [ht',List.drop_zero]
      dsimp only
      by_cases hts:∀ s∈t,s.length≤300
      rotate_left
      · rw [if_neg hts]
        exact ⟨_,rfl,.inl ⟨m+1,rfl,rfl,by omega⟩⟩
      rw [if_pos hts,bJ,Nat.sub_zero,Go.Abs.zb6 (x:=m - (a+(t.length:Int))) (by omega) (by omega)]
      obtain ⟨r,q1,q2,q3,q4⟩:=zz5 n cs (m - (a+t.length)) (by omega) (by omega) (by omega) (by omega)
      rw [q1]
      simp only [ob]
      rw [Go.Abs.zb6 (x:=a+(t.length:Int)+1) (by omega) (by omega),Go.Abs.zb6 (x:=a+(t.length:Int)+1+r) (by omega) (by omega),zc1 (j:=i) (by omega)]
      refine ⟨_,rfl,.inr ⟨a+t.length+1+r,rfl,fun q=>?_,by omega,by omega⟩⟩
      obtain ⟨e3,e4⟩:=q4 (by omega)
      refine ⟨by rw [szC]; omega,?_⟩
      rw [smC]
      exact ⟨hs,hts,e4⟩) (fun i a q=>by
      unfold zeG
      have:(decide ((i:Int)<(l.length:Int)) && decide (a≤m))=false:=by
        rcases q with q | q
        · rw [yL (show ¬(i:Int)<(l.length:Int) by omega)]; rfl
        · rw [yL (show ¬ a≤m by omega),Bool.and_false]
      simp only [this,yJ]) n 0 0 (yX _) (by omega) (fun _=>⟨by simp [szL],fun y hy=>absurd hy (by simp)⟩) ⟨by omega,by omega⟩
    have h1' : iter (zeG n l m (zad n)) n (0,0)=_:=h1
    rw [h1']
    rcases h2 with ⟨r,rfl,q1,q2⟩ | ⟨r,rfl,⟨w1,w2⟩,q⟩
    · exact ⟨r,rfl,by omega,by omega,fun c=>absurd c (by omega)⟩
    · refine ⟨r,rfl,w1,by rw [zjA]; exact w2,fun hr=>?_⟩
      obtain ⟨e1,e2⟩:=q hr
      exact ⟨by rw [zjA]; omega,(zza 300 l).2 e2⟩
def smR (M:Nat) (r:zQ):Prop:=r.Name.length≤M∧smCs M r.Clauses
def smP (M:Nat) (p:zL):Prop:=p.Name.length≤M∧∀ r∈p.Rules,smR M r
def smPr (M:Nat) (p:zI):Prop:=p.Name.length≤M∧smSs M p.Code
def smSrc (M:Nat) (x:zG):Prop:=(∀ p∈x.Policies,smP M p)∧∀ p∈x.Programs,smPr M p
theorem zzd {x:zG} {n i:Nat} (hi:i<x.Policies.length) (hz:szSrc x≤1048576) (hn:szSrc x+5<n) (a:Int) (ha:0≤a∧a≤300) :
  ∃ o,iter (zk4 n x 300 i) n (a,0)=some o∧(o = .stop (.stop (.stop false))∨∃ r,o = .go r∧(0≤r∧r≤10000000)∧(r≤300→r=a+szL szR x.Policies[i].Rules∧∀ y∈x.Policies[i].Rules,smR 300 y)):=by
 have hp:szP x.Policies[i]≤szL szP x.Policies:=z9H (List.getElem_mem hi)
 have hs:szSrc x=szL szP x.Policies+szL szPr x.Programs:=rfl
 have hs' : szP x.Policies[i]=1+szL szR x.Policies[i].Rules:=rfl
 have hlen:=zce zpe x.Policies[i].Rules
 obtain ⟨o,h1,h2⟩:=zz2 (step:=zk4 n x 300 i) (l:=x.Policies[i].Rules) (m:=300) (a0:=a) (sz:=szR) (Q:=smR 300) (bad:=fun r=>r = .stop (.stop false)) (W:=fun r=>0≤r∧r≤10000000) (fun k hk hak=>by
  have hle:szR x.Policies[i].Rules[k]≤szL szR x.Policies[i].Rules:=z9H (List.getElem_mem hk)
  generalize hT:a+(szL szR (x.Policies[i].Rules.take k):Int)=b at *
  have hb0:0≤b:=by omega
  unfold zk4
  simp only [z5t hi,yW,hk,hak,yQ,Bool.and_self,yK,z5t hk]
  have hsr:szR x.Policies[i].Rules[k]=1+szCs x.Policies[i].Rules[k].Clauses:=rfl
  generalize x.Policies[i].Rules[k]=r at *
  by_cases hnm:300<r.Name.length
  ·refine ⟨_,?_,.inl ⟨_,rfl,rfl⟩⟩
   rw [yM (show (300:Int)<(r.Name.length:Int) by omega),yK]
  rw [yL (show ¬(300:Int)<(r.Name.length:Int) by omega),yJ,Go.Abs.zb6 (x:=300 - b) (by omega) (by omega)]
  obtain ⟨v,q1,q2,q3,q4⟩:=zz5 n r.Clauses (300 - b) (by omega) (by omega) (by omega) (by omega)
  rw [q1]
  simp only [ob]
  rw [Go.Abs.zb6 (x:=b+1) (by omega) (by omega),Go.Abs.zb6 (x:=b+1+v) (by omega) (by omega),zc1 (j:=k) (by omega)]
  refine ⟨_,rfl,.inr ⟨b+1+v,rfl,fun q=>?_,by omega,by omega⟩⟩
  obtain ⟨e3,e4⟩:=q4 (by omega)
  exact ⟨by omega,by omega,e4⟩) (fun k b q=>by
  unfold zk4
  dsimp only
  rw [z5t hi]
  have:(decide ((k:Int)<(x.Policies[i].Rules.length:Int)) && decide (b≤300))=false:=by
   rcases q with q | q
   ·rw [yL (show ¬(k:Int)<(x.Policies[i].Rules.length:Int) by omega)]; rfl
   ·rw [yL (show ¬ b≤300 by omega),Bool.and_false]
  simp only [this,yJ]) n 0 a (yX _) (by omega) (fun _=>⟨by simp [szL],fun y hy=>absurd hy (by simp)⟩) ⟨by omega,by omega⟩
 refine ⟨o,h1,?_⟩
 rcases h2 with ⟨r,rfl,rfl⟩ | ⟨r,rfl,q1,q2⟩
 ·exact .inl rfl
 ·exact .inr ⟨r,rfl,q1,q2⟩
theorem zzm (x:zG) {n:Nat} (hz:szSrc x≤1048576) (hn:szSrc x+5<n):∃ b,zii n x 300=some b∧(b=true→szSrc x≤1000∧smSrc 300 x):=by
 have hs:szSrc x=szL szP x.Policies+szL szPr x.Programs:=rfl
 have hl1:=zce znf x.Policies
 have hl2:=zce zkd x.Programs
 unfold zii
 rw [Go.Abs.zb6 (x:=(x.Policies.length:Int)+(x.Programs.length:Int)) (by omega) (by omega)]
 obtain ⟨o,h1,h2⟩:=zz2 (step:=zk3 n x 300) (l:=x.Policies) (m:=300) (a0:=(x.Policies.length:Int)+(x.Programs.length:Int)) (sz:=fun p=>szL szR p.Rules) (Q:=smP 300) (bad:=fun r=>r=false) (W:=fun r=>0≤r∧r≤10000000) (fun i hi ha=>by
  generalize hT:(x.Policies.length:Int)+(x.Programs.length:Int)+(szL (fun p:zL=>szL szR p.Rules) (x.Policies.take i):Int)=b at *
  have hb0:0≤b:=by omega
  unfold zk3
  simp only [yW,hi,ha,yQ,Bool.and_self,yK,z5t hi]
  by_cases hnm:300<x.Policies[i].Name.length
  ·refine ⟨_,?_,.inl ⟨false,rfl,rfl⟩⟩
   rw [yM (show (300:Int)<(x.Policies[i].Name.length:Int) by omega)]; rfl
  rw [yL (show ¬(300:Int)<(x.Policies[i].Name.length:Int) by omega),yJ]
  obtain ⟨o,q1,q2⟩:=zzd hi hz hn b ⟨hb0,ha⟩
  rw [q1]
  rcases q2 with rfl | ⟨r,rfl,⟨q3,q4⟩,q5⟩
  ·exact ⟨_,rfl,.inl ⟨false,rfl,rfl⟩⟩
  ·rw [bJ,zc1 (j:=i) (by omega)]
   refine ⟨_,rfl,.inr ⟨r,rfl,fun q=>?_,q3,q4⟩⟩
   obtain ⟨e1,e2⟩:=q5 q
   exact ⟨e1,by omega,e2⟩) (fun i b q=>by
  unfold zk3
  have:(decide ((i:Int)<(x.Policies.length:Int)) && decide (b≤300))=false:=by
   rcases q with q | q
   ·rw [yL (show ¬(i:Int)<(x.Policies.length:Int) by omega)]; rfl
   ·rw [yL (show ¬ b≤300 by omega),Bool.and_false]
  simp only [this,yJ]) n 0 ((x.Policies.length:Int)+(x.Programs.length:Int)) (yX _) (by omega) (fun _=>⟨by simp [szL],fun y hy=>absurd hy (by simp)⟩) ⟨by omega,by omega⟩
 have h1' : iter (zk3 n x 300) n ((x.Policies.length:Int)+(x.Programs.length:Int),0)=_:=h1
 rw [h1']
 rcases h2 with ⟨r,rfl,rfl⟩ | ⟨r,rfl,⟨w1,w2⟩,q⟩
 ·exact ⟨false,rfl,fun c=>by cases c⟩
 rw [bJ]
 obtain ⟨o,h3,h4⟩:=zz2 (step:=zk5 n x 300) (l:=x.Programs) (m:=300) (a0:=r) (sz:=fun p=>p.Effects.length+szSs p.Code) (Q:=smPr 300) (bad:=fun r=>r=false) (W:=fun r=>0≤r∧r≤20000000) (fun i hi ha=>by
  generalize hT:r+(szL (fun p:zI=>p.Effects.length+szSs p.Code) (x.Programs.take i):Int)=b at *
  have hb0:0≤b:=by omega
  unfold zk5
  simp only [yW,hi,ha,yQ,Bool.and_self,yK,z5t hi]
  have hp:szPr x.Programs[i]≤szL szPr x.Programs:=z9H (List.getElem_mem hi)
  have hs' : szPr x.Programs[i]=1+x.Programs[i].Effects.length+szSs x.Programs[i].Code:=rfl
  generalize x.Programs[i]=p at *
  by_cases hnm:300<p.Name.length
  ·refine ⟨_,?_,.inl ⟨false,rfl,rfl⟩⟩
   rw [yM (show (300:Int)<(p.Name.length:Int) by omega)]; rfl
  rw [yL (show ¬(300:Int)<(p.Name.length:Int) by omega),yJ,Go.Abs.zb6 (x:=300 - b) (by omega) (by omega)]
  obtain ⟨v,q1,q2,q3,q4,q5⟩:=zz8 n p.Code (300 - b) (by omega) (by omega) (by omega) (by omega)
  have q6:=q4 (by omega)
  rw [q1]
  simp only [ob]
  rw [Go.Abs.zb6 (x:=b+(p.Effects.length:Int)) (by omega) (by omega),Go.Abs.zb6 (x:=b+(p.Effects.length:Int)+v) (by omega) (by omega),zc1 (j:=i) (by omega)]
  refine ⟨_,rfl,.inr ⟨b+p.Effects.length+v,rfl,fun q=>?_,by omega,by omega⟩⟩
  obtain ⟨e3,e4⟩:=q5 (by omega)
  exact ⟨by omega,by omega,e4⟩) (fun i b q=>by
  unfold zk5
  have:(decide ((i:Int)<(x.Programs.length:Int)) && decide (b≤300))=false:=by
   rcases q with q | q
   ·rw [yL (show ¬(i:Int)<(x.Programs.length:Int) by omega)]; rfl
   ·rw [yL (show ¬ b≤300 by omega),Bool.and_false]
  simp only [this,yJ]) n 0 r (yX _) (by omega) (fun _=>⟨by simp [szL],fun y hy=>absurd hy (by simp)⟩) ⟨by omega,by omega⟩
 have h3' : iter (zk5 n x 300) n (r,0)=_:=h3
 rw [h3']
 rcases h4 with ⟨v,rfl,rfl⟩ | ⟨v,rfl,⟨w3,w4⟩,q'⟩
 ·exact ⟨false,rfl,fun c=>by cases c⟩
 rw [bJ]
 refine ⟨decide (v≤300),rfl,fun c=>?_⟩
 obtain ⟨e1,e2⟩:=q' (of_decide_eq_true c)
 have hc:=of_decide_eq_true c
 obtain ⟨e3,e4⟩:=q (by omega)
 have z1:∀ l:List zL,szL szP l=l.length+szL (fun p=>szL szR p.Rules) l:=fun l=>by
  induction l with
  | nil=>rfl
  | cons p r ih=>simp only [szL,ih,szP,yC]; omega
 have z2:∀ l:List zI,szL szPr l=l.length+szL (fun p=>p.Effects.length+szSs p.Code) l:=fun l=>by
  induction l with
  | nil=>rfl
  | cons p r ih=>simp only [szL,ih,szPr,yC]; omega
 refine ⟨?_,e4,e2⟩
 have:=z1 x.Policies
 have:=z2 x.Programs
 omega
theorem zzn {M N:Nat} (h:M≤N) {T:List Lx} (ht:SmT M T):SmT N T:=fun t q=>Nat.le_trans (ht t q) h
theorem smT_k {t:Lx} (h:t.S.length≤300):SmT 300 [t]:=zeZ h
theorem smT_c {t:Lx} {T:List Lx} (h:t.S.length≤300) (hT:SmT 300 T):SmT 300 (t::T):=zcd (a:=[t]) (zeZ h) hT
theorem zz4 {α:Type} {f:α→List Lx} {l:List α} (h:∀ x∈l,SmT 300 (f x)):SmT 300 (l.flatMap f):=fun t ht=>by
 obtain ⟨x,hx,hu⟩:=List.mem_flatMap.1 ht
 exact h x hx t hu
theorem zz3 {T:List Lx} (h:SmT 300 T):SmT 300 (blk T):=zcd (zcd (smT_k (by decide)) h) (smT_k (by decide))
theorem zzj {e:List St} {T:List Lx} (h:SmT 300 T):SmT 300 (elseT e T):=by
 unfold elseT
 split
 ·exact smT_c (t:=tW [101,108,115,101]) (by decide) h
 split
 ·exact zn7
 ·exact smT_c (t:=tW [101,108,115,101]) (by decide) (zz3 h)
theorem zzk (k:Int) {n:List UInt8} (h:n.length≤300):SmT 300 (headS k n):=by
 unfold headS
 repeat' split
 ·exact smT_c (t:=tW [108,101,116]) (by decide) (smT_c (t:=tN n) h (smT_k (by decide)))
 ·exact smT_c (t:=tW [115,101,116]) (by decide) (smT_c (t:=tN n) h (smT_k (by decide)))
 ·exact smT_c (t:=tW [115,101,116]) (by decide) (smT_c (t:=tW [104,101,97,100,101,114]) (by decide) (smT_c (t:=tQ n) h (smT_k (by decide))))
 ·exact smT_c (t:=tW [115,101,116]) (by decide) (smT_c (t:=tW [115,116,97,116,117,115]) (by decide) (smT_k (by decide)))
 ·exact smT_k (by decide)
 ·exact smT_k (by decide)
 ·exact smT_k (by decide)
mutual
theorem smT_S:∀ s:St,smS 300 s→SmT 300 (tokS s)
  | ⟨k, a, n, x, b, e⟩, h => by
    rw [smS] at h
    obtain ⟨h1,h2,h3,h4⟩:=h
    have e1:=smT_E (M:=300) (by decide) x h2
    have e2:=zze b h3
    have e3:=zze e h4
    rw [tokS]
    unfold bodyS
    split
    · exact zcd (zcd (smT_c (t:=tW [105,102]) (by decide) e1) (zz3 e2)) (zzj e3)
    split
    · exact zcd (smT_c (t:=tW [114,101,112,101,97,116]) (by decide) e1) (zz3 e2)
    · exact zcd (zcd (zzk k h1) e1) (smT_k (by decide))
theorem zze:∀ l:List St,smSs 300 l→SmT 300 (tokSs l)
  | [],_=>zn7
  | x :: r, h => by
    rw [smSs] at h
    rw [tokSs]
    exact zcd (smT_S x h.1) (zze r h.2)
end
theorem zz6 {k:Int} {l:List (List UInt8)} (h:∀ s∈l,s.length≤300):SmT 300 (comT k l):=by
 unfold comT
 rw [zxY]
 refine zz4 fun p hp=>?_
 obtain ⟨x,j⟩:=p
 have hx:=h x (List.fst_mem_of_mem_zipIdx hp)
 unfold oneT
 refine zcd ?_ (smT_k hx)
 split
 ·exact zn7
 ·exact smT_k (by decide)
theorem zzf (k:Int):(wordC k).length≤300:=by
 unfold wordC
 have all:∀ s∈z5y,s.length≤300:=by decide
 cases h:z5y[(k - 1).toNat]? with
 | none=>exact yX _
 | some s=>exact all s (List.mem_of_getElem? h)
theorem zzg (k:Int):(wordE k).length≤300:=by
 unfold wordE
 have all:∀ s∈z7I,s.length≤300:=by decide
 cases h:z7I[(k - 1).toNat]? with
 | none=>exact yX _
 | some s=>exact all s (List.mem_of_getElem? h)
mutual
theorem smT_C:∀ c:Cl,smC 300 c→SmT 300 (tokC c)
  | ⟨k, a, n, t, am, d, hd, c⟩, h => by
    rw [smC] at h
    obtain ⟨⟨⟨h1,h2⟩,h3,h4⟩,h5,h6⟩:=h
    have e1:=zzi c h6
    rw [tokC]
    refine zcd (zcd (smT_k (zzf k)) ?_) ?_
    · unfold bodyC
      split
      · exact zz6 h5
      split
      · exact zz6 h5
      split
      · exact zz6 h5
      split
      · refine zcd (zcd (smT_c (t:=tQ n) h1 (smT_k (by decide))) (zz6 h5)) ?_
        split
        · exact smT_c (t:=tW [100,101,102,97,117,108,116]) (by decide) (smT_k (t:=tQ d) h2)
        · exact zn7
      split
      · exact smT_k (t:=tN n) h1
      split
      · exact zz3 e1
      split
      · exact zn7
      · unfold amT
        refine smT_c (t:=tD am.Number) h3 ?_
        split
        · exact zn7
        · exact smT_k (t:=tN am.Unit) h4
    · unfold endC
      split
      · exact zn7
      · exact smT_k (by decide)
theorem zzi:∀ l:List Cl,smCs 300 l→SmT 300 (tokCs l)
  | [],_=>zn7
  | x :: r, h => by
    rw [smCs] at h
    rw [tokCs]
    exact zcd (smT_C x h.1) (zzi r h.2)
end
theorem zzl {x:zG} (h:smSrc 300 x):SmT 300 (zvP x):=by
 unfold zvP
 refine zcd (zz4 fun p hp=>?_) (zz4 fun p hp=>?_)
 ·obtain ⟨h1,h2⟩:=h.1 p hp
  unfold tokP
  refine zcd (smT_c (t:=tW [112,111,108,105,99,121]) (by decide) (smT_k (t:=tN p.Name) h1)) (zz3 (zz4 fun r hr=>?_))
  obtain ⟨h3,h4⟩:=h2 r hr
  unfold tokR1
  exact zcd (smT_c (t:=tW [114,117,108,101]) (by decide) (smT_k (t:=tN r.Name) h3)) (zz3 (zzi _ h4))
 ·obtain ⟨h1,h2⟩:=h.2 p hp
  unfold tokPr
  refine zcd (zcd (smT_c (t:=tW [112,114,111,103,114,97,109]) (by decide) (smT_k (t:=tN p.Name) h1)) ?_) (zz3 (zze _ h2))
  rw [zxY]
  refine zz4 fun q hq=>?_
  unfold effT
  refine zcd (a:=[_]) (smT_k ?_) (smT_k (zzg _))
  split <;> decide
end Go.Proofs.YtcmaoifiiigggaaGreatDoor
