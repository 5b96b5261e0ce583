/-
  Texts that stand side by side: LPg, LPh, LPj, Qr, LexQ, Qs, Qu, Qv, Ra, Rb, Rc, Rd, Re, Rf.
-/
import Derived.Test.YtcmaoifiiigggaaGreatDoorV3G3k
import Derived.Test.YtcmaoifiiigggaaGreatDoorV3M23
set_option linter.unusedSimpArgs false
set_option linter.unusedVariables false
namespace Go.Proofs.YtcmaoifiiigggaaGreatDoor
open Go.Abs Go.Lex
theorem zis (b:UInt8):zbf (b.toNat:Int)=some (sm b):=zka b
theorem zif (b:UInt8):zbd (b.toNat:Int)=some (dg b):=zhX b
theorem zqg (b:UInt8):zez (b.toNat:Int)=some (rst b):=by
 unfold zez
 rw [zis,zif]
 simp only [obind,yO]
 rw [z61 b 95 95 rfl]
 unfold rst
 cases sm b <;> simp [z1N]
theorem zmV (b:UInt8) (h:dg b=false):za4 (b.toNat:Int)=some (ltr b):=by
 unfold za4
 rw [zis]
 simp only [obind,yO,Option.some.injEq]
 rw [z61 b 95 95 rfl]
 have:(decide ((65:Int)≤(b.toNat:Int)) && decide ((b.toNat:Int)≤90))=(decide (65≤b.toNat) && decide (b.toNat≤90)):=by
  rw [Bool.eq_iff_iff]; simp only [Bool.and_eq_true,decide_eq_true_eq]; omega
 rw [this]
 unfold ltr rst
 rw [h]
 cases sm b <;> cases decide (b=95) <;> simp
theorem zmX (s:List UInt8) (hs:s.length≤1000000) (a:Nat) (ha:a≤s.length) (n:Nat) (hn:s.length+1<n) :
    zbe n s (a:Int)=some ((s.length - (skipP false (s.drop a)).length:Nat):Int):=by
  unfold zbe
  obtain ⟨r,e,h⟩:=z71 (step:=zcC n s) (fun x=>∃ i:Nat,x=(i:Int)∧i≤s.length∧skipP false (s.drop i)=skipP false (s.drop a)) (fun x=>s.length - x.toNat)
    (fun r=>r = .go ((s.length - (skipP false (s.drop a)).length:Nat):Int)∨r = .stop ((s.length - (skipP false (s.drop a)).length:Nat):Int)) (by
    rintro x ⟨i,rfl,hi,hk⟩
    unfold zcC
    by_cases hlt:i<s.length
    · have hc:=z4Q hlt
      rw [hc,zav] at hk
      rw [yM (by omega),yK,z2v hlt,z61 s[i] 35 35 rfl]
      by_cases h35:s[i]=35
      · rw [yM h35,yK]
        rw [if_pos h35] at hk
        rw [zc0 (fun b=>!decide (b=10)) s hs (zaD s) (fun j hj=>by
          unfold zaD
          rw [yM (by omega),yK,z2v hj]
          simp only [z1N]
          rw [show decide ((s[j].toNat:Int)≠10) = !decide (s[j]=10) by rw [← z61 s[j] 10 10 rfl]; simp,w64 (by omega) (by omega)]
          cases decide (s[j]=10) <;> rfl) (by
          unfold zaD
          rw [yL (by omega),yJ,z1N,yJ]) i hi n (by omega),z1N]
        obtain ⟨g1,g2,g3⟩:=z8M (s:=s) (p:=fun b=>!decide (b=10)) hi
        have hpos:0<((s.drop i).takeWhile fun b=>!decide (b=10)).length:=by
          rw [hc,List.takeWhile_cons_of_pos (by simp [h35])]; simp
        refine .inl ⟨_,rfl,⟨_,rfl,g3,?_⟩,by (try simp only); omega⟩
        rw [g2,← hk,hc,List.dropWhile_cons_of_pos (by simp [h35]),← zk9]
      · rw [yL h35,yJ]
        rw [if_neg h35] at hk
        have hsp:∀ {R:Type} (k:Bool→Option R),(idx s (i:Int) fun c32=>bindJ (S:=Bool) (cond (decide ((c32.toNat:Int)≠32)) (idx s (i:Int) fun c39=>some (.go (decide ((c39.toNat:Int)≠9)))) (some (.go false)))
            (fun b33=>bindJ (S:=Bool) (cond b33 (idx s (i:Int) fun c46=>some (.go (decide ((c46.toNat:Int)≠10)))) (some (.go false)))
            (fun b40=>bindJ (S:=Bool) (cond b40 (idx s (i:Int) fun c53=>some (.go (decide ((c53.toNat:Int)≠13)))) (some (.go false))) k)))=k (!spc s[i]):=by
          intro R k
          have q:∀ c:UInt8,∀ m:Int,(c.toNat:Int)=m→decide ((s[i].toNat:Int)≠m) = !decide (s[i]=c):=fun c m h=>by rw [← z61 s[i] c m h]; simp
          rw [z2v hlt,q 32 32 rfl]
          unfold spc
          cases decide (s[i]=32) with
          | true=>simp only [yU,yJ,z1N,Bool.true_or]
          | false =>
            simp only [yT,yK,Bool.false_or]
            rw [z2v hlt,q 9 9 rfl,z1N]
            cases decide (s[i]=9) with
            | true=>simp only [yU,yJ,z1N,Bool.true_or]
            | false =>
              simp only [yT,yK,Bool.false_or]
              rw [z2v hlt,q 10 10 rfl,z1N]
              cases decide (s[i]=10) with
              | true=>simp only [yU,yJ,z1N,Bool.true_or]
              | false =>
                simp only [yT,yK,Bool.false_or]
                rw [z2v hlt,q 13 13 rfl,z1N]
        rw [hsp]
        cases hb:spc s[i] with
        | true =>
          rw [hb,if_pos rfl] at hk
          rw [yU,yJ,w64 (by omega) (by omega)]
          exact .inl ⟨((i+1:Nat):Int),rfl,⟨i+1,rfl,by omega,hk⟩,by simp; omega⟩
        | false =>
          rw [hb] at hk
          simp only [yN,yR] at hk
          rw [yT,yK]
          refine .inr ⟨_,rfl,.inr ?_⟩
          rw [← hk]
          simp only [Lp.stop.injEq,yC,List.length_drop]
          omega
    · rw [yL (by omega),yJ]
      have:s.drop i=[]:=List.drop_eq_nil_of_le (by omega)
      rw [this] at hk
      refine .inr ⟨_,rfl,.inl ?_⟩
      rw [← hk]
      simp only [skipP,Lp.go.injEq,yF]
      omega) n (a:Int) ⟨a,rfl,ha,rfl⟩ (by simp; omega)
  rw [e]
  rcases h with rfl | rfl
  · rfl
  · rfl
theorem zql (v:List UInt8) (n:Nat) (hn:100<n):zew n v=some (decide (v∈kwP)):=by
 unfold zew
 rw [show zfm=some kwP from rfl]
 simp only [obind,yO]
 have hk:kwP.length=39:=(by decide +kernel)
 obtain ⟨r,e,h⟩:=z71 (step:=zcA v kwP) (fun x=>∃ i:Nat,x=(i:Int)∧i≤kwP.length∧∀ j (h:j<kwP.length),j<i→kwP[j]≠v) (fun x=>kwP.length - x.toNat)
  (fun r=>(r = .go ()∧v ∉ kwP)∨(r = .stop true∧v∈kwP)) (by
  rintro x ⟨i,rfl,hi,hj⟩
  unfold zcA
  by_cases hlt:i<kwP.length
  ·rw [yM (by omega),yK,z2v hlt]
   by_cases hv:kwP[i]=v
   ·rw [yM hv,yK]
    exact .inr ⟨_,rfl,.inr ⟨rfl,hv ▸ List.getElem_mem hlt⟩⟩
   ·rw [yL hv,yJ,w64 (by omega) (by omega)]
    refine .inl ⟨((i+1:Nat):Int),rfl,⟨i+1,rfl,by omega,fun j a b=>?_⟩,by simp; omega⟩
    by_cases e:j=i
    ·subst e; exact hv
    ·exact hj j a (by omega)
  ·rw [yL (by omega),yJ]
   refine .inr ⟨_,rfl,.inl ⟨rfl,fun hv=>?_⟩⟩
   obtain ⟨j,a,e⟩:=List.getElem_of_mem hv
   exact hj j a (by omega) e) n 0 ⟨0,rfl,by omega,fun j a b=>by omega⟩ (by simp; omega)
 rw [e]
 rcases h with ⟨rfl,h⟩ | ⟨rfl,h⟩
 ·rw [yL h]; rfl
 ·rw [yM h]; rfl
def gotP (s:List UInt8) (a:Nat):Sum Int (Int×List UInt8×List UInt8)→z1O
 | .inl e=>⟨⟨0,0,[]⟩,0,e⟩
 | .inr (k,w,r)=>⟨⟨k,(a:Int),w⟩,((s.length - r.length:Nat):Int),0⟩
theorem zqe (s:List UInt8) (hs:s.length≤1000000) (a:Nat) (ha:a≤s.length) (n:Nat) (hn:s.length+100<n):zex n s (a:Int)=some (gotP s a (namP kwP (s.drop a))):=by
 unfold zex namP
 rw [zc0 rst s hs (zaC s) (fun i h=>by
  unfold zaC
  rw [yM (by omega),yK,z2v h,zqg]
  simp only [obind,yO,z1N]
  rw [w64 (by omega) (by omega)]
  cases rst s[i] <;> rfl) (by
  unfold zaC
  rw [yL (by omega),yJ,z1N,yJ]) a ha n (by omega),z1N]
 obtain ⟨h1,h2,h3⟩:=z8M (s:=s) (p:=rst) ha
 have hl:=congrArg List.length h2
 rw [List.length_drop] at hl
 have hat:((a+((s.drop a).takeWhile rst).length:Nat):Int)=((s.length - ((s.drop a).dropWhile rst).length:Nat):Int):=by omega
 rw [z1n (by omega),yY,yY,h1,zql _ n (by omega),hat]
 simp only [obind,yO]
 by_cases hw:(s.drop a).takeWhile rst∈kwP
 ·rw [yM hw,yK,if_pos hw]
  rfl
 ·rw [yL hw,yJ,if_neg hw]
  by_cases h40:40<((s.drop a).takeWhile rst).length
  ·rw [yM (by omega),yK,if_pos h40]
   rfl
  ·rw [yL (by omega),yJ,if_neg h40]
   rfl
theorem zmW (s:List UInt8) (hs:s.length≤1000000) (a:Nat) (ha:a<s.length) (hd:dg s[a]=true) (n:Nat) (hn:s.length+100<n):zbJ n s (a:Int)=some (gotP s a (numP (s.drop a))):=by
  unfold zbJ numP
  rw [zc0 dg s hs (z9e s) (fun i h=>by
    unfold z9e
    rw [yM (by omega),yK,z2v h,zif]
    simp only [obind,yO,z1N]
    rw [w64 (by omega) (by omega)]
    cases dg s[i] <;> rfl) (by
    unfold z9e
    rw [yL (by omega),yJ,z1N,yJ]) a (by omega) n (by omega),z1N]
  obtain ⟨h1,h2,h3⟩:=z8M (s:=s) (p:=dg) (show a≤s.length by omega)
  have hl:=congrArg List.length h2
  rw [List.length_drop] at hl
  have htw:(s.drop a).takeWhile dg=s[a]::(s.drop (a+1)).takeWhile dg:=by rw [z4Q ha,List.takeWhile_cons_of_pos hd]
  have hsub:IntKind.i64.wrap (((a+((s.drop a).takeWhile dg).length:Nat):Int) - (a:Int))=(((s.drop a).takeWhile dg).length:Int):=by rw [w64 (by omega) (by omega)]; omega
  rw [hsub]
  have hfirst:∀ {R:Type} (k:Bool→Option R),bindJ (S:=Bool) (cond (decide (18<(((s.drop a).takeWhile dg).length:Int))) (some (.go true))
      (idx s (a:Int) fun c28=>some (.go (decide ((c28.toNat:Int)=48) && decide (1<(((s.drop a).takeWhile dg).length:Int)))))) k
      = k (decide (18<((s.drop a).takeWhile dg).length) || (decide (((s.drop a).takeWhile dg).head? = some 48) && decide (1<((s.drop a).takeWhile dg).length))):=by
    intro R k
    by_cases h18:18<((s.drop a).takeWhile dg).length
    · rw [yM (by omega),yK,z1N,yM h18,Bool.true_or]
    · rw [yL (by omega),yJ,z2v ha,z1N,htw]
      rw [htw] at h18
      simp only [List.head?_cons]
      rw [z61 s[a] 48 48 rfl,yL h18,Bool.false_or]
      congr 2
      · by_cases h48:s[a]=48 <;> simp [h48]
      · rw [decide_eq_decide]; omega
  rw [hfirst]
  have hnext : ∀ {R : Type} (q : Bool) (k : Bool → Option R), bindJ (S := Bool) (cond q (some (.go true)) (bindJ (S := Bool) (cond (decide (((a + ((s.drop a).takeWhile dg).length : Nat) : Int) < (s.length : Int)))
       (idx s ((a+((s.drop a).takeWhile dg).length:Nat):Int) fun c44=>
       obind (za4 (c44.toNat:Int)) fun r45=>some (.go r45)) (some (.go false)))
     (fun b38=>some (.go b38)))) k=k (q || (match (s.drop a).dropWhile dg with | []=>false | c::_=>ltr c)):=by
    intro R q k
    cases q with
    | true=>rw [yK,z1N,Bool.true_or]
    | false =>
      rw [yJ,Bool.false_or]
      by_cases hj:a+((s.drop a).takeWhile dg).length<s.length
      · have hcj:=z4Q hj
        rw [h2] at hcj
        rw [yM (by omega),yK,z2v hj,zmV _ (zhq _ _ _ hcj),hcj]
        rfl
      · have:(s.drop a).dropWhile dg=[]:=by
          apply List.eq_nil_of_length_eq_zero
          omega
        rw [yL (by omega),yJ,this]
        rfl
  rw [hnext]
  unfold zfM
  cases hB:(decide (18<((s.drop a).takeWhile dg).length) || (decide (((s.drop a).takeWhile dg).head? = some 48) && decide (1<((s.drop a).takeWhile dg).length)) || (match (s.drop a).dropWhile dg with | []=>false | c::_=>ltr c)) with
  | true=>rfl
  | false =>
    simp only [yJ,yN,yR]
    rw [z1n (by omega),yY,yY,h1]
    simp only [gotP,Option.some.injEq,z1O.mk.injEq,true_and,and_true]
    omega
theorem zqi (s:List UInt8) (hs:s.length≤1000000) (a:Nat) (ha:a<s.length) (n:Nat) (hn:s.length+100<n):zeB n s (a:Int)=some (gotP s a (txtP [] (s.drop (a+1)))):=by
 unfold zeB
 rw [w64 (by omega) (by omega),show (a:Int)+1=((a+1:Nat):Int) by omega]
 obtain ⟨r,e,h⟩:=z71 (step:=zcD s (a:Int)) (fun x=>∃ (out:List UInt8) (i:Nat),x=(out,(i:Int))∧i≤s.length∧out.length≤i∧txtP out (s.drop i)=txtP [] (s.drop (a+1))) (fun x=>s.length - x.2.toNat)
  (fun r=>(r = .go ()∧txtP [] (s.drop (a+1)) = .inl 182)∨r = .stop (gotP s a (txtP [] (s.drop (a+1))))) (by
  rintro x ⟨out,i,rfl,hi,ho,hk⟩
  unfold zcD
  simp only
  by_cases hlt:i<s.length
  ·have hc:=z4Q hlt
   rw [hc,z5s] at hk
   rw [yM (by omega),yK,z2v hlt,z61 s[i] 34 34 rfl]
   by_cases h34:s[i]=34
   ·rw [yM h34,yK]
    rw [if_pos h34] at hk
    by_cases h200:200<out.length
    ·rw [yM (by omega),yK]
     rw [if_pos h200] at hk
     exact .inr ⟨_,rfl,.inr (by rw [← hk]; rfl)⟩
    ·rw [yL (by omega),yJ,w64 (by omega) (by omega)]
     rw [if_neg h200] at hk
     refine .inr ⟨_,rfl,.inr ?_⟩
     rw [← hk]
     simp only [gotP,List.length_drop,Lp.stop.injEq,z1O.mk.injEq,true_and,and_true]
     omega
   ·rw [yL h34,yJ]
    rw [if_neg h34] at hk
    by_cases hb:s[i].toNat<32∨126<s[i].toNat
    ·rw [show (decide (((s[i].toNat:Nat):Int)<32) || decide ((126:Int)<((s[i].toNat:Nat):Int)))=true by simp only [Bool.or_eq_true,decide_eq_true_eq]; omega,yK]
     have h92:s[i]≠92:=by intro q; rw [q] at hb; exact absurd hb (by decide)
     rw [if_neg h92,if_pos hb] at hk
     exact .inr ⟨_,rfl,.inr (by rw [← hk]; rfl)⟩
    ·rw [show (decide (((s[i].toNat:Nat):Int)<32) || decide ((126:Int)<((s[i].toNat:Nat):Int)))=false by rw [Bool.eq_false_iff]; intro h; simp only [Bool.or_eq_true,decide_eq_true_eq] at h; omega,yJ,z61 s[i] 92 92 rfl]
     by_cases h92:s[i]=92
     ·rw [yM h92,yK]
      rw [if_pos h92] at hk
      rw [w64 (x:=(i:Int)+1) (by omega) (by omega),show (i:Int)+1=((i+1:Nat):Int) by omega]
      by_cases hl2:i+1<s.length
      ·rw [yL (by omega),yJ,z2v hl2]
       rw [z4Q hl2] at hk
       simp only at hk
       rw [show decide ((s[i+1].toNat:Int)≠34) = !decide (s[i+1]=34) by rw [← z61 s[i+1] 34 34 rfl]; simp]
       have hgood:∀ hm:s[i+1]=34∨s[i+1]=92,(idx s ((i+1:Nat):Int) fun c43=>(some (.go (((i+1:Nat):Int),(c43.toNat:Int))):Option (Lp (Int×Int) (Lp ((List UInt8)×Int) (Lp Unit z1O)))))=some (.go (((i+1:Nat):Int),(s[i+1].toNat:Int))):=fun _=>by rw [z2v hl2]
       by_cases hm:s[i+1]=34∨s[i+1]=92
       ·rw [if_pos hm] at hk
        have hr:32≤s[i+1].toNat∧s[i+1].toNat≤126:=by rcases hm with h | h <;> rw [h] <;> decide
        have hb2:bindJ (S:=Bool) (R:=Lp (Int×Int) (Lp ((List UInt8)×Int) (Lp Unit z1O))) (bindJ (S:=Bool) (cond (!decide (s[i+1]=34)) (idx s ((i+1:Nat):Int) fun c41=>some (.go (decide ((c41.toNat:Int)≠92)))) (some (.go false))) (fun b35=>some (.go b35)))
          (fun b28=>cond b28 (some (.stop (.stop (.stop (z1O.mk (z6.mk 0 0 []) 0 182))))) (idx s ((i+1:Nat):Int) fun c43=>some (.go (((i+1:Nat):Int),(c43.toNat:Int)))))=some (.go (((i+1:Nat):Int),(s[i+1].toNat:Int))):=by
         rw [hgood hm]
         by_cases h1:s[i+1]=34
         ·simp only [h1,yQ,yU,yJ,z1N]
         ·have h2:s[i+1]=92:=by rcases hm with h | h; exact absurd h h1; exact h
          simp only [h1,yP,yT,yK]
          rw [z2v hl2,h2]
          rfl
        rw [hb2,z1N,z1n (by omega),z1n (by simp; omega),w64 (by omega) (by omega)]
        refine .inl ⟨_,rfl,⟨out++[s[i+1]],i+2,?_,by omega,by simp; omega,hk⟩,by simp only; omega⟩
        simp
        omega
       ·rw [if_neg hm] at hk
        have h1:s[i+1]≠34:=fun q=>hm (.inl q)
        have h2:s[i+1]≠92:=fun q=>hm (.inr q)
        simp only [h1,yP,yT,yK]
        rw [z2v hl2,show decide ((s[i+1].toNat:Int)≠92) = !decide (s[i+1]=92) by rw [← z61 s[i+1] 92 92 rfl]; simp]
        simp only [h2,yP,yT,z1N,yK,zec]
        exact .inr ⟨_,rfl,.inr (by rw [← hk]; rfl)⟩
      ·rw [yM (by omega),yK,z1N,yK,zec]
       have:s.drop (i+1)=[]:=List.drop_eq_nil_of_le (by omega)
       rw [this] at hk
       exact .inr ⟨_,rfl,.inr (by rw [← hk]; rfl)⟩
     ·rw [yL h92,yJ,z1N]
      rw [if_neg h92,if_neg hb] at hk
      simp only
      rw [z1n (by omega),z1n (by simp; omega),w64 (by omega) (by omega)]
      refine .inl ⟨_,rfl,⟨out++[s[i]],i+1,?_,by omega,by simp; omega,hk⟩,by simp only; omega⟩
      simp
  ·rw [yL (by omega),yJ]
   have:s.drop i=[]:=List.drop_eq_nil_of_le (by omega)
   rw [this,zaO] at hk
   exact .inr ⟨_,rfl,.inl ⟨rfl,hk.symm⟩⟩) n ([],((a+1:Nat):Int)) ⟨[],a+1,rfl,by omega,by simp,rfl⟩ (by simp; omega)
 rw [e]
 rcases h with ⟨rfl,h⟩ | rfl
 ·rw [z1N,h]; rfl
 ·rfl
def z8O:List (List UInt8):=longs++shorts.map fun q=>[q]
def stands (t x:List UInt8):Bool:=decide (x.length≤t.length) && decide (t.take x.length=x)
theorem ziX (t:List UInt8) (b:UInt8):∀ l:List UInt8,(l.map fun q=>[q]).find? (stands (b::t))=if b∈l then some [b] else none
  | []=>by simp
  | q :: l => by
    have ih:=ziX t b l
    rw [yI,List.find?_cons]
    have:stands (b::t) [q]=decide (b=q):=by unfold stands; simp
    rw [this]
    by_cases h:b=q
    · subst h; simp
    · rw [yL h,ih]
      simp [h]
theorem zkx (b c:UInt8) (t:List UInt8):∀ l:List (List UInt8),(∀ x∈l,x.length=2)→l.find? (stands (b::c::t))=if [b,c]∈l then some [b,c] else none
  | [],_=>by simp
  | x :: l, h => by
    have ih:=zkx b c t l (fun y hy=>h y (List.mem_cons_of_mem _ hy))
    have hx:=h x (List.mem_cons_self ..)
    rw [List.find?_cons]
    have:stands (b::c::t) x=decide ([b,c]=x):=by unfold stands; rw [hx]; simp; exact decide_eq_decide.2 Iff.rfl
    rw [this]
    by_cases q:[b,c]=x
    · rw [yM q,if_pos (q ▸ List.mem_cons_self ..),q]
    · rw [yL q,ih]
      simp only [y1,q,false_or]
theorem znP (t:List UInt8) (b:UInt8):sgnP (b::t)=match z8O.find? (stands (b::t)) with | some x=>.inr (5,x,(b::t).drop x.length) | none=>.inl 180:=by
  unfold z8O
  rw [List.find?_append,ziX]
  cases t with
  | nil =>
    have:longs.find? (stands [b])=none:=by
      rw [List.find?_eq_none]
      intro x hx
      have h2:x.length=2:=by
        have:∀ x∈longs,x.length=2:=by decide
        exact this x hx
      unfold stands
      rw [h2]
      simp
    rw [this,zdP]
    by_cases h:b∈shorts
    · rw [if_pos h,if_pos h]; rfl
    · rw [if_neg h,if_neg h]; rfl
  | cons c t =>
    rw [zkx b c t longs (by decide),zbw]
    by_cases h1:[b,c]∈longs
    · rw [if_pos h1,if_pos h1]; rfl
    · rw [if_neg h1,if_neg h1]
      by_cases h:b∈shorts
      · rw [if_pos h,if_pos h]; rfl
      · rw [if_neg h,if_neg h]; rfl
theorem zqh (s:List UInt8) (hs:s.length≤1000000) (a:Nat) (ha:a<s.length) (n:Nat) (hn:s.length+100<n):zeA n s (a:Int)=some (gotP s a (sgnP (s.drop a))):=by
  unfold zeA
  rw [show zfl=some z8O from rfl]
  simp only [obind,yO]
  have hsl:z8O.length=22:=rfl
  have hx2:∀ x∈z8O,x.length≤2:=by decide
  have hc:=z4Q ha
  have hdl:(s.drop a).length=s.length - a:=List.length_drop
  obtain ⟨r,e,h⟩:=z71 (step:=zcB s (a:Int) z8O) (fun x=>∃ i:Nat,x=(i:Int)∧i≤z8O.length∧(z8O.drop i).find? (stands (s.drop a))=z8O.find? (stands (s.drop a))) (fun x=>z8O.length - x.toNat)
    (fun r=>(r = .go ()∧z8O.find? (stands (s.drop a))=none)∨∃ x,z8O.find? (stands (s.drop a))=some x∧r = .stop ⟨⟨5,(a:Int),x⟩,((a+x.length:Nat):Int),0⟩) (by
    rintro x ⟨i,rfl,hi,hk⟩
    unfold zcB
    by_cases hlt:i<z8O.length
    · have hx:=hx2 _ (List.getElem_mem hlt)
      rw [List.drop_eq_getElem_cons hlt,List.find?_cons] at hk
      rw [yM (by omega),yK,z2v hlt,w64 (x:=(a:Int)+(z8O[i].length:Int)) (by omega) (by omega),show (a:Int)+(z8O[i].length:Int)=((a+z8O[i].length:Nat):Int) by omega]
      have hst:∀ {R:Type} (k:Bool→Option R),bindJ (S:=Bool) (cond (decide (((a+z8O[i].length:Nat):Int)≤(s.length:Int)))
          (need (0≤(a:Int)∧(a:Int)≤((a+z8O[i].length:Nat):Int)∧((a+z8O[i].length:Nat):Int)≤(s.length:Int)) (some (.go (decide (((s.take (((a+z8O[i].length:Nat):Int)).toNat).drop ((a:Int)).toNat)=z8O[i]))))) (some (.go false))) k=k (stands (s.drop a) z8O[i]):=by
        intro R k
        unfold stands
        by_cases hle:a+z8O[i].length≤s.length
        · rw [yM (by omega),yK,z1n (by omega),z1N,yY,yY,List.drop_take,Nat.add_sub_cancel_left,hdl,yM (show z8O[i].length≤s.length - a by omega),Bool.true_and]
        · rw [yL (by omega),yJ,z1N,hdl,yL (show ¬ z8O[i].length≤s.length - a by omega),Bool.false_and]
      rw [hst]
      cases hq:stands (s.drop a) z8O[i] with
      | true =>
        rw [hq] at hk
        rw [yK,z2v hlt]
        exact .inr ⟨_,rfl,.inr ⟨z8O[i],hk.symm,rfl⟩⟩
      | false =>
        rw [hq] at hk
        rw [yJ,w64 (by omega) (by omega)]
        exact .inl ⟨((i+1:Nat):Int),rfl,⟨i+1,rfl,by omega,hk⟩,by simp; omega⟩
    · rw [yL (by omega),yJ]
      rw [show z8O.drop i=[] from List.drop_eq_nil_of_le (by omega)] at hk
      exact .inr ⟨_,rfl,.inl ⟨rfl,by rw [← hk]; rfl⟩⟩) n 0 ⟨0,rfl,by omega,by simp⟩ (by simp; omega)
  rw [e]
  have hf:=znP (s.drop (a+1)) s[a]
  rw [← hc] at hf
  rw [hf]
  rcases h with ⟨rfl,h⟩ | ⟨x,h,rfl⟩
  · rw [h]; rfl
  · rw [h]
    have hst:=List.find?_some h
    unfold stands at hst
    simp only [Bool.and_eq_true,decide_eq_true_eq] at hst
    rw [hdl] at hst
    simp only [zec,gotP,List.length_drop,Option.some.injEq,z1O.mk.injEq,true_and,and_true]
    omega
theorem zqf (s:List UInt8) (hs:s.length≤1000000) (a:Nat) (ha:a<s.length) (n:Nat) (hn:s.length+100<n):zey n s (a:Int)=some (gotP s a (nextP kwP (s.drop a))):=by
  unfold zey
  have hc:=z4Q ha
  have hne:=z6k kwP s[a] (s.drop (a+1))
  rw [← hc] at hne
  rw [z2v ha,zis,hne]
  cases h1:sm s[a] with
  | true =>
    simp only [obind,yO,yK,yS]
    rw [zqe s hs a (by omega) n hn]; rfl
  | false =>
    simp only [obind,yO,yJ,yN,yR]
    rw [z2v ha,zif]
    cases h2:dg s[a] with
    | true =>
      simp only [yO,yK,yS]
      rw [zmW s hs a ha h2 n hn]; rfl
    | false =>
      simp only [yO,yJ,yN,yR]
      rw [z2v ha,z61 s[a] 34 34 rfl]
      by_cases h3:s[a]=34
      · simp only [h3,yQ,yK,yS]
        rw [zqi s hs a ha n hn]; rfl
      · simp only [h3,yP,yJ,yR]
        rw [zqh s hs a ha n hn]; rfl
theorem zk8 (s:List UInt8) (hs:s.length≤1000000) (n:Nat) (hn:s.length+100<n) :
    ∃ r, iter (z9d n s) n (([] : List z6), ((s.length - (skipP false s).length : Nat) : Int)) = some r ∧
      ((r = .go ((toksP kwP (s.length+1) s).1.map (mkT s.length))∧(toksP kwP (s.length+1) s).2=none)∨∃ k e,r = .stop ⟨[],⟨((s.length - k:Nat):Int),e⟩⟩∧(toksP kwP (s.length+1) s).2=some (k,e)):=by
  refine z71 (step:=z9d n s) (fun x=>∃ (d:List (Int×Nat×List UInt8)) (i:Nat),x=(d.map (mkT s.length),(i:Int))∧i≤s.length∧d.length≤i∧skipP false (s.drop i)=s.drop i∧
      (toksP kwP (s.length+1) s).1=d++(toksP kwP (s.length+1) (s.drop i)).1∧(toksP kwP (s.length+1) s).2=(toksP kwP (s.length+1) (s.drop i)).2) (fun x=>s.length - x.2.toNat) _ ?_ n _ ?_ (by simp; omega)
  · rintro x ⟨d,i,rfl,hi,hd,hk,e1,e2⟩
    unfold z9d
    simp only
    by_cases hlt:i<s.length
    · rw [yM (show (i:Int)<(s.length:Int) by omega),yK,zqf s hs i hlt n hn]
      have hc:=z4Q hlt
      rw [hc] at hk
      cases hq:nextP kwP (s.drop i) with
      | inl e =>
        rw [hc] at hq
        rw [hc,z8H hk hq] at e2
        simp only [obind,yO,gotP]
        rw [yM (zmD hq),yK]
        refine .inr ⟨_,rfl,.inr ⟨_,e,?_,e2⟩⟩
        simp only [List.length_drop,Lp.stop.injEq,z7H.mk.injEq,z11.mk.injEq,true_and,and_true]
        omega
      | inr q =>
        obtain ⟨kd,w,r⟩:=q
        have hlen:=zfg hq
        have hsuf:=(zmE hq).trans (List.drop_suffix i s)
        rw [hc] at hq
        rw [hc,z7O hk hq] at e1 e2
        have hrl:r.length≤s.length:=hsuf.length_le
        simp only [obind,yO,gotP]
        rw [show decide ((0:Int)≠0)=false from rfl,yJ,z1n (by simp; omega),zmX s hs _ (by omega) n (by omega),z8G hsuf]
        simp only [yO]
        have hsk:=zdq false r
        have hsl:=hsk.length_le
        rw [List.length_drop] at hlen
        refine .inl ⟨_,rfl,⟨d++[(kd,s.length - i,w)],s.length - (skipP false r).length,?_,by omega,by simp; omega,?_,?_,?_⟩,by simp only; omega⟩
        · simp only [List.map_append,yI,List.map_nil,Prod.mk.injEq,and_true]
          congr 2
          unfold mkT
          simp only [z6.mk.injEq,true_and,and_true]
          omega
        · rw [z8G (hsk.trans hsuf),zeY]
        · rw [z8G (hsk.trans hsuf),z7G,e1]
          simp only [List.length_drop,yA,yE,yD]
          rw [zaN kwP s.length (s.length+1) r (by omega) (by omega),show s.length - (i+1)+1=s.length - i by omega]
        · rw [z8G (hsk.trans hsuf),z7G,e2]
          simp only
          rw [zaN kwP s.length (s.length+1) r (by omega) (by omega)]
    · rw [yL (by omega),yJ]
      have:s.drop i=[]:=List.drop_eq_nil_of_le (by omega)
      rw [this,z6g (kw:=kwP) (s:=[]) rfl] at e1 e2
      refine .inr ⟨_,rfl,.inl ⟨?_,e2⟩⟩
      rw [e1,List.append_nil]
  · have hsk:=zdq false s
    refine ⟨[],s.length - (skipP false s).length,rfl,by omega,by simp,?_,?_,?_⟩
    · rw [z8G hsk,zeY]
    · rw [z8G hsk,z7G]; rfl
    · rw [z8G hsk,z7G]
theorem zgJ (s:List UInt8) (hs:s.length≤65536) (n:Nat) (hn:s.length+100<n):z6w n s=some ⟨(tokR s).1,(tokR s).2⟩:=by
 unfold z6w
 rw [yL (by omega),yJ]
 have h0:=zmX s (by omega) 0 (by omega) n (by omega)
 rw [List.drop_zero] at h0
 have h0' : zbe n s 0=_:=h0
 rw [h0']
 simp only [obind,yO]
 obtain ⟨r,e,h⟩:=zk8 s (by omega) n hn
 rw [e]
 unfold tokR
 rcases h with ⟨rfl,h2⟩ | ⟨k,e,rfl,h2⟩
 ·rw [h2]; rfl
 ·rw [h2]; rfl
theorem zgK (s:List UInt8) (hs:65536<s.length) (n:Nat):z6w n s=some ⟨[],⟨0,2⟩⟩:=by
 unfold z6w
 rw [yM (by omega)]
 rfl
theorem zb4 (s:List UInt8):(tokR s).1.length≤s.length:=by
 obtain ⟨h,_,_⟩:=znp kwP (s.length+1) s
 unfold tokR
 split
 ·simp
 ·simpa using h
theorem znt:∀ (n:Nat) (s out:List UInt8) (k:Int) (w r:List UInt8),s.length≤n→txtP out s = .inr (k,w,r)→k=4:=by
  intro n
  induction n with
  | zero =>
    intro s out k w r hn h
    match s,hn with
    | [],_=>rw [zaO] at h; cases h
  | succ n ih =>
    intro s out k w r hn h
    match s,hn with
    | [],_=>rw [zaO] at h; cases h
    | b :: t, hn =>
      rw [z5s] at h
      split at h
      · split at h
        · cases h
        · cases h; rfl
      · split at h
        · match t,hn,h with
          | [],_,h=>cases h
          | c :: t', hn, h =>
            simp only at h
            split at h
            · exact ih t' _ _ _ _ (by simp at hn; omega) h
            · cases h
        · split at h
          · cases h
          · exact ih t _ _ _ _ (by simp at hn; omega) h
open Go.Abs Go.Ps Go.Lex
theorem zrT {s:List UInt8} {k:Int} {w r:List UInt8} (h:nextP kwP s = .inr (k,w,r)):(k=2→w∈kwP)∧(k=5→w≠[97,110,100]∧w≠[111,114]):=by
  cases s with
  | nil=>cases h
  | cons b s =>
    rw [z6k] at h
    by_cases h1:sm b
    · rw [if_pos h1] at h
      unfold namP at h
      by_cases h2:(b::s).takeWhile rst∈kwP
      · rw [if_pos h2] at h
        cases h
        exact ⟨fun _=>h2,fun q=>absurd q (by decide)⟩
      · rw [if_neg h2] at h
        split at h
        · cases h
        · cases h
          exact ⟨fun q=>absurd q (by decide),fun q=>absurd q (by decide)⟩
    rw [if_neg h1] at h
    by_cases h2:dg b
    · rw [if_pos h2] at h
      unfold numP at h
      split at h
      · cases h
      · cases h
        exact ⟨fun q=>absurd q (by decide),fun q=>absurd q (by decide)⟩
    rw [if_neg h2] at h
    by_cases h3:b=34
    · rw [if_pos h3] at h
      have:=znt _ _ _ _ _ _ (Nat.le_refl _) h
      subst this
      exact ⟨fun q=>absurd q (by decide),fun q=>absurd q (by decide)⟩
    rw [if_neg h3] at h
    cases s with
    | nil =>
      rw [zdP] at h
      split at h
      · cases h
        exact ⟨fun q=>absurd q (by decide),fun q=>⟨fun e=>by simpa using congrArg List.length e,fun e=>by simpa using congrArg List.length e⟩⟩
      · cases h
    | cons c s =>
      rw [zbw] at h
      split at h
      · rename_i hm
        cases h
        exact ⟨fun q=>absurd q (by decide),fun q=>⟨fun e=>by simpa using congrArg List.length e,fun e=>by rw [e] at hm; exact absurd hm (by decide)⟩⟩
      · split at h
        · cases h
          exact ⟨fun q=>absurd q (by decide),fun q=>⟨fun e=>by simpa using congrArg List.length e,fun e=>by simpa using congrArg List.length e⟩⟩
        · cases h
theorem zpi:∀ (f:Nat) (s:List UInt8),∀ x∈(toksP kwP f s).1,(x.1=2→x.2.2∈kwP)∧(x.1=5→x.2.2≠[97,110,100]∧x.2.2≠[111,114])
  | 0,s,x,h=>by cases h
  | f + 1, s, x, h => by
    cases hs:skipP false s with
    | nil=>rw [z6g hs] at h; cases h
    | cons b r =>
      cases hn:nextP kwP (b::r) with
      | inl e=>rw [z8H hs hn] at h; cases h
      | inr q =>
        obtain ⟨k,w,rest⟩:=q
        rw [z7O hs hn] at h
        rcases List.mem_cons.1 h with rfl | h
        · exact zrT hn
        · exact zpi f rest x h
theorem zph (s:List UInt8):WT (tokR s).1:=by
 intro t ht
 unfold tokR at ht
 split at ht
 ·cases ht
 ·obtain ⟨x,hx,rfl⟩:=List.mem_map.1 ht
  exact zpi _ _ x hx
def opn (t:Tk):Int:=if t.1=5 then (if t.2=[40]∨t.2=[123] then 1 else if t.2=[41]∨t.2=[125] then -1 else 0) else 0
def deepT:List Tk→Int→Nat→Int
 | [],_,_=>-1
 | t::r,d,i=>if 40<d then i else deepT r (d+opn t) (i+1)
theorem zs4 (t:Tk) : -1≤opn t∧opn t≤1:=by
 unfold opn
 split
 ·split
  ·omega
  ·split <;> omega
 ·omega
theorem zlV (t:Lx) {a:Int} (h0 : -1000000≤a) (h1:a≤1000000):z7A t a=some (decide (40<a),if 40<a then a else a+opn (tk t)):=by
 unfold z7A
 by_cases h:40<a
 ·simp [h]
 ·have w1:IntKind.i64.wrap (a+1)=a+1:=w64 (by omega) (by omega)
  have w2:IntKind.i64.wrap (a - 1)=a - 1:=w64 (by omega) (by omega)
  unfold opn tk
  by_cases h5:t.Kind=5
  ·by_cases e1:t.S=[40]
   ·simp [h,h5,e1,bindJ,w1]
   by_cases e2:t.S=[123]
   ·simp [h,h5,e1,e2,bindJ,w1]
   by_cases e3:t.S=[41]
   ·simp [h,h5,e1,e2,e3,bindJ,w2]; omega
   by_cases e4:t.S=[125]
   ·simp [h,h5,e1,e2,e3,e4,bindJ,w2]; omega
   ·simp [h,h5,e1,e2,e3,e4,bindJ]
  ·simp [h,h5,bindJ]
variable {l : List Lx} {fin : Int}
theorem zku (hl:l.length≤100000):∀ (n i:Nat) (d:Int),i≤l.length→-(i:Int)≤d→d≤i→l.length - i<n→∃ x,
    bindJ (iter (z1m l) n ((i:Int),d)) (fun x=>some ((-1:Int),x))=some (deepT (tks l i) d i,x)
  | 0,_,_,_,_,_,h=>absurd h (yH _)
  | n + 1, i, d, hi, h1, h2, hn => by
    by_cases hlt:i<l.length
    · have e:=List.getElem?_eq_getElem hlt
      rw [ze8 e]
      unfold deepT
      by_cases h:40<d
      · refine ⟨d,?_⟩
        rw [z1z (r:=.stop ((i:Int),d))]
        · rw [if_pos h]; rfl
        · unfold z1m
          simp only [yW,hlt,yQ,yK,z4e e,zlV l[i] (a:=d) (by omega) (by omega),ob,h,yS]
      · rw [if_neg h]
        have ho:=zs4 (tk l[i])
        obtain ⟨x,hx⟩:=zku hl n (i+1) (d+opn (tk l[i])) hlt (by omega) (by omega) (by omega)
        refine ⟨x,?_⟩
        rw [z4f (s':=(((i+1:Nat):Int),d+opn (tk l[i])))]
        · exact hx
        · unfold z1m
          simp only [yW,hlt,yQ,yK,z4e e,zlV l[i] (a:=d) (by omega) (by omega),ob,h,yR,yP,yJ,zdc (j:=i) (by omega)]
    · refine ⟨d,?_⟩
      rw [zdR (by omega),z1z (r:=.go d)]
      · rfl
      · unfold z1m
        simp only [yW,hlt,yP,yJ]
theorem zoA (hl:l.length≤100000) {n:Nat} (hn:l.length<n):z83 n l=some (deepT (tks l 0) 0 0):=by
 unfold z83 z2c
 obtain ⟨x,hx⟩:=zku hl n 0 0 (yX _) (by omega) (by omega) (by omega)
 have hx' : bindJ (iter (z1m l) n (0,0)) (fun x=>some ((-1:Int),x))=some (deepT (tks l 0) 0 0,x):=hx
 rw [hx']; rfl
theorem zfb:∀ (ts:List Tk) (d:Int) (i:Nat),deepT ts d i = -1∨∃ j:Nat,deepT ts d i=(j:Int)∧i≤j∧j<i+ts.length
  | [],_,_=>.inl rfl
  | t :: r, d, i => by
    unfold deepT
    by_cases h:40<d
    · rw [if_pos h]; exact .inr ⟨i,rfl,Nat.le_refl _,by simp⟩
    · rw [if_neg h]
      rcases zfb r (d+opn t) (i+1) with h1 | ⟨j,h1,h2,h3⟩
      · exact .inl h1
      · exact .inr ⟨j,h1,by omega,by simp; omega⟩
def outR {α β:Type} (z:β) (m:(Int→Int)→α→β) (p:Ps α) (s:List UInt8):β×z11:=
 if (tokR s).2.E≠0 then (z,(tokR s).2)
 else if 0≤deepT (tks (tokR s).1 0) 0 0 then (z,⟨gA (tokR s).1 (deepT (tks (tokR s).1 0) 0 0),2⟩)
 else match run' (tokR s).1 p 0 with
  | .bad j _=>(z,⟨eA (tokR s).1 s.length j,180⟩)
  | .ok a j _=>if j<(tokR s).1.length then (z,⟨eA (tokR s).1 s.length j,180⟩) else (m (gA (tokR s).1) a,⟨0,0⟩)
def outL {α β:Type} (z:β) (m:(Int→Int)→α→β) (p:Ps α) (s:List UInt8):β×z11:=
 if 65536<s.length then (z,⟨0,2⟩) else outR z m p s
theorem z5t {α β:Type} {l:List α} {i:Nat} (h:i<l.length) (k:α→Option β):idx l (i:Int) k=k l[i]:=z4e (List.getElem?_eq_getElem h) k
theorem zpN {i:Nat} (h:i<l.length):gA l (i:Int)=l[i].At:=by
 unfold gA
 rw [if_neg (show ¬((i:Int)<0) by omega)]
 simp only [yY,List.getElem?_eq_getElem h]
theorem zrw {α β:Type} {z:β} {m:(Int→Int)→α→β} {p:Ps α} (s:List UInt8) (hs:s.length≤65536) {n:Nat} (hn:1000000<n) {F:Rd'→Option (Pn (β×Rd'))} (hF:Ag (tokR s).1 s.length 0 (m (gA (tokR s).1)) F p) :
    (obind (z4J n s) fun r3=>
 cond (decide (r3.2.E≠0))
  (some (z,r3.2))
  (obind (z83 n r3.1) fun r9=>
  cond (decide (0≤r9))
   (idx r3.1 r9 fun x14=>
   some (z,(z11.mk x14.At 2)))
   (obind (F (z7.mk r3.1 0 (s.length:Int))) fun r17=>
   pbind r17 (fun e20=>
    some (z,(z11.mk e20 180))) fun q19=>
   bindJ (S:=Unit)
    (cond (decide (q19.2.i_ < (r3.1.length : Int)))
     (obind (z16 q19.2) fun r31=>
     pbind r31 (fun e34=>
      some (.stop (z,(z11.mk e34 180)))) fun q33=>
     some (.go ()))
     (some (.go ())))
   (fun _ =>
    some (q19.1,(z11.mk 0 0))))))=some (outR z m p s):=by
  have hl:=zb4 s
  rw [zf4 s hs n (by omega)]
  unfold outR
  by_cases h0:(tokR s).2.E≠0
  · simp only [ob,h0,yQ,yK,yS,yZ,ne_eq]
  simp only [ob,h0,yP,yJ,yR,zoA (l:=(tokR s).1) (by omega) (n:=n) (by omega)]
  rcases zfb (tks (tokR s).1 0) 0 0 with h1 | ⟨j,h1,_,h3⟩
  · rw [h1]
    simp only [show ¬((0:Int)≤-1) by decide,yP,yJ,yR]
    have h4:=hF 0 (Nat.le_refl _) (yX _)
    have h5:=z2q (l:=(tokR s).1) p (j:=0) (yX _)
    rw [show F ⟨(tokR s).1,0,(s.length:Int)⟩=_ from h4]
    revert h5
    cases run' (tokR s).1 p 0 with
    | bad i r=>intro _; rfl
    | ok a i r =>
      rintro ⟨_,h6,_⟩
      simp only [conv,ob,pbind,yW]
      by_cases h7:i<(tokR s).1.length
      · simp only [h7,yQ,yK,yS,zc2,ob,pbind,bindJ]
      · simp only [h7,yP,yJ,yR,bindJ]
  · rw [h1]
    have h4:j<(tokR s).1.length:=by simpa [tks] using h3
    simp only [show (0:Int)≤(j:Int) by omega,yQ,yK,yS,z5t h4,zpN h4]
theorem zjY (s:List UInt8) {n N:Nat} (hn:1000000<n) (hN:65536<N):z39 n s=some (outL ⟨[],[]⟩ atSrc (zaK N N ⟨[],[]⟩) s):=by
 unfold z39 z4c outL
 by_cases hs:65536<s.length
 ·rw [if_pos hs,zhM s hs n]; rfl
 ·rw [if_neg hs]
  have hl:=zb4 s
  obtain ⟨k,rfl⟩ : ∃ k,n=k+2:=⟨n - 2,by omega⟩
  rw [zrw s (by omega) hn (m:=atSrc) (F:=z2Z (k+2)) (zof (N:=N) (by omega) (zph s) (by omega) (by omega) (by omega))]
  rfl
end Go.Proofs.YtcmaoifiiigggaaGreatDoor
namespace Go.Lex
def escC (b:UInt8):List UInt8:=if b=34 then [92,34] else if b=92 then [92,92] else [b]
def escL (s:List UInt8):List UInt8:=s.flatMap escC
def wrL (k:Int) (w:List UInt8):List UInt8:=if k=4 then [34]++escL w++[34] else w
def sepB (b:UInt8):Bool:=!(ltr b) && decide (b≠61) && decide (b≠46)
theorem zkY {b:UInt8} (h:sepB b=true) (a:UInt8):[a,b] ∉ longs:=by
 simp [sepB] at h
 simp [longs,h.1.2,h.2]
def okH (r r' : List UInt8):Prop:=∀ c t,r'=c::t→sepB c=true∨∃ t',r=c::t'
theorem zhq {p:UInt8→Bool}:∀ (x:List UInt8) (c:UInt8) (t:List UInt8),x.dropWhile p=c::t→p c=false
  | [],c,t,h=>by simp at h
  | a :: x, c, t, h => by
    cases ha:p a with
    | true=>rw [List.dropWhile_cons_of_pos ha] at h; exact zhq x c t h
    | false=>rw [List.dropWhile_cons_of_neg (by simp [ha])] at h; cases h; exact ha
theorem zdo {s:List UInt8} {k:Int} {w r:List UInt8} (h:sgnP s = .inr (k,w,r)):k=5∧s=w++r∧w≠[]∧∀ r',okH r r'→sgnP (w++r') = .inr (5,w,r'):=by
  have one:∀ (b:UInt8) (hb:b∈shorts) (q:List UInt8),(∀ c t,q=c::t→[b,c] ∉ longs)→sgnP (b::q) = .inr (5,[b],q):=by
    intro b hb q hq
    cases q with
    | nil=>rw [zdP,if_pos hb]
    | cons c t=>rw [zbw,if_neg (hq c t rfl),if_pos hb]
  match s,h with
  | [b], h =>
    rw [zdP] at h
    split at h
    · rename_i hb
      cases h
      refine ⟨rfl,rfl,by simp,fun r' hr=>one b hb r' fun c t hc=>?_⟩
      rcases hr c t hc with h | ⟨t',h⟩
      · exact zkY h b
      · cases h
    · cases h
  | b :: c :: t, h =>
    rw [zbw] at h
    split at h
    · rename_i hl
      cases h
      refine ⟨rfl,rfl,by simp,fun r' _=>?_⟩
      show sgnP (b::c::r')=_
      rw [zbw,if_pos hl]
    · rename_i hl
      split at h
      · rename_i hb
        cases h
        refine ⟨rfl,rfl,by simp,fun r' hr=>one b hb r' fun c' t' hc=>?_⟩
        rcases hr c' t' hc with h | ⟨t'',h⟩
        · exact zkY h b
        · cases h; exact hl
      · cases h
end Go.Lex
namespace Go.Proofs.YtcmaoifiiigggaaGreatDoor
open Go.Abs Go.Ps Go.Lex
section
variable {l : List Lx} {fin : Int}
theorem zd7 (N:Nat):∀ (f j:Nat) (x a:zG) (i:Nat) (r:List Tk),j≤l.length→run' l (zaK N f x) j = .ok a i r→i=l.length
  | 0,_,_,_,_,_,_,h=>by cases h
  | f + 1, j, x, a, i, r, hj, h => by
    rw [zf0,z1w] at h
    by_cases hlt:j<l.length
    · obtain ⟨t,et⟩:=ziF hlt
      have eh:(tks l j).head? = some t:=by rw [et]; rfl
      have hno:(tks l j).head?.isNone=false:=by rw [eh]; rfl
      simp only [hno,yN,yR] at h
      split at h
      · rw [z1f _ hlt,z1A _ _ hlt] at h
        have hd:=z2q (l:=l) (zbc N j) (j:=j+1) hlt
        revert h hd
        cases run' l (zbc N j) (j+1) with
        | ok y k q=>rintro h ⟨_,h7,_⟩; exact zd7 N f k _ a i r h7 h
        | bad k q=>intro h; cases h
      · split at h
        · rw [z1f _ hlt,z1A _ _ hlt] at h
          have hd:=z2q (l:=l) (z8s N j) (j:=j+1) hlt
          revert h hd
          cases run' l (z8s N j) (j+1) with
          | ok y k q=>rintro h ⟨_,h7,_⟩; exact zd7 N f k _ a i r h7 h
          | bad k q=>intro h; cases h
        · cases h
    · have e:(tks l j).head? = none:=by rw [zdR (by omega)]; rfl
      simp only [e,Option.isNone_none,yS] at h
      rw [z2w] at h
      cases h
      omega
abbrev srcP (N:Nat):Ps zG:=zaK N N ⟨[],[]⟩
def z4K (N:Nat) (s:List UInt8):zG×z11:=outL ⟨[],[]⟩ atSrc (srcP N) s
end
mutual
def szE:E→Nat
 | ⟨_,_,_,l⟩=>1+szEs l
def szEs:List E→Nat
 | []=>0
 | x::r=>szE x+szEs r
end
mutual
def szS:St→Nat
 | ⟨_,_,_,x,b,e⟩=>1+szE x+szSs b+szSs e
def szSs:List St→Nat
 | []=>0
 | x::r=>szS x+szSs r
end
mutual
def szC:Cl→Nat
 | ⟨_,_,_,t,_,_,_,c⟩=>1+t.length+szCs c
def szCs:List Cl→Nat
 | []=>0
 | x::r=>szC x+szCs r
end
def szL {α:Type} (m:α→Nat):List α→Nat
 | []=>0
 | x::r=>m x+szL m r
theorem zdQ:∀ l:List E,szEs l=szL szE l
 | []=>rfl
 | x::r=>by rw [szEs,zdQ r]; rfl
theorem zd9:∀ l:List St,szSs l=szL szS l
 | []=>rfl
 | x::r=>by rw [szSs,zd9 r]; rfl
theorem zjA:∀ l:List Cl,szCs l=szL szC l
 | []=>rfl
 | x::r=>by rw [szCs,zjA r]; rfl
def szR (r:zQ):Nat:=1+szCs r.Clauses
def szP (p:zL):Nat:=1+szL szR p.Rules
def szPr (p:zI):Nat:=1+p.Effects.length+szSs p.Code
def szSrc (x:zG):Nat:=szL szP x.Policies+szL szPr x.Programs
theorem zhK {α:Type} (m:α→Nat):∀ a b:List α,szL m (a++b)=szL m a+szL m b
 | [],b=>by simp [szL]
 | x::r,b=>by simp only [yE,szL,zhK m r b]; omega
theorem zce {α:Type} {m:α→Nat} (h:∀ x,1≤m x):∀ l:List α,l.length≤szL m l
 | []=>Nat.le_refl _
 | x::r=>by have:=zce h r; have:=h x; simp only [yC,szL]; omega
theorem z9H {α:Type} {m:α→Nat}:∀ {l:List α} {x:α},x∈l→m x≤szL m l
  | y :: r, x, h => by
    simp only [szL]
    rcases List.mem_cons.1 h with rfl | h
    · omega
    · have:=z9H (m:=m) h; omega
theorem zd8 (x:E):1≤szE x:=by cases x; simp only [szE]; omega
theorem zsB (x:St):1≤szS x:=by cases x; simp only [szS]; omega
theorem zsz (x:Cl):1≤szC x:=by cases x; simp only [szC]; omega
theorem zpe (x:zQ):1≤szR x:=by unfold szR; omega
theorem znf (x:zL):1≤szP x:=by unfold szP; omega
theorem zkd (x:zI):1≤szPr x:=by unfold szPr; omega
theorem zl4 {α β:Type} {m:α→Nat} {m' : β→Nat} {f:α→β}:∀ (l:List α),(∀ x∈l,m' (f x)=m x)→szL m' (l.map f)=szL m l
  | [],_=>rfl
  | x :: r, h => by
    simp only [yI,szL,h x (List.mem_cons_self ..),zl4 r fun y hy=>h y (List.mem_cons_of_mem _ hy)]
mutual
theorem zqv (g:Int→Int):∀ x:E,szE (atE g x)=szE x
 | ⟨op,a,s,l⟩=>by simp only [atE,szE,zpd g l]
theorem zpd (g:Int→Int):∀ l:List E,szEs (atEs g l)=szEs l
 | []=>rfl
 | x::r=>by simp only [atEs,szEs,zqv g x,zpd g r]
end
mutual
theorem zur (g:Int→Int):∀ x:St,szS (atS g x)=szS x
 | ⟨k,a,n,x,b,e⟩=>by simp only [atS,szS,zqv,zl5 g b,zl5 g e]
theorem zl5 (g:Int→Int):∀ l:List St,szSs (atSs g l)=szSs l
 | []=>rfl
 | x::r=>by simp only [atSs,szSs,zur g x,zl5 g r]
end
mutual
theorem zuo (g:Int→Int):∀ x:Cl,szC (atC g x)=szC x
 | ⟨k,a,n,t,am,d,h,c⟩=>by simp only [atC,szC,znc g c]
theorem znc (g:Int→Int):∀ l:List Cl,szCs (atCs g l)=szCs l
 | []=>rfl
 | x::r=>by simp only [atCs,szCs,zuo g x,znc g r]
end
theorem zuq (g:Int→Int) (x:zQ):szR (atR g x)=szR x:=by simp only [szR,atR,znc]
theorem zup (g:Int→Int) (x:zL):szP (atP g x)=szP x:=by simp only [szP,atP,zl4 x.Rules fun y _=>zuq g y]
theorem zsA (g:Int→Int) (x:zI):szPr (atPr g x)=szPr x:=by simp only [szPr,atPr,zl5]
theorem zke (g:Int→Int) (x:zG):szSrc (atSrc g x)=szSrc x:=by simp only [szSrc,atSrc,zl4 x.Policies fun y _=>zup g y,zl4 x.Programs fun y _=>zsA g y]
section
variable {α β : Type}
def Fit (m:α→Nat) (c i:Nat):Out α→Prop
 | .ok a j _=>m a+i≤j+c
 | .bad _ _=>True
def Le (m:α→Nat) (c:Nat) (p:Ps α):Prop:=∀ i ts,Fit m c i (p.run i ts)
def LeN (m:α→Nat) (c:Nat) (p:Ps α):Prop:=∀ i t ts,Fit m c i (p.run i (t::ts))
def LeE (m:α→Nat) (c:Nat) (p:Ps α):Prop:=∀ i,Fit m c i (p.run i [])
theorem le_n {m:α→Nat} {c:Nat} {p:Ps α} (h:Le m c p):LeN m c p:=fun i t ts=>h i (t::ts)
theorem le_e {m:α→Nat} {c:Nat} {p:Ps α} (h:Le m c p):LeE m c p:=fun i=>h i []
theorem z4S {m:α→Nat} {c:Nat} {a:α} (h:m a≤c):Le m c (.ret a):=fun i _=>by show m a+i≤i+c; omega
theorem zct {m:α→Nat} {c:Nat}:Le m c .bad:=fun _ _=>trivial
theorem z6j {m:α→Nat} {c:Nat} {f:Option Tk→Nat→Ps α} (h:∀ i,LeE m c (f none i)) (h' : ∀ t i,LeN m c (f (some t) i)):Le m c (.look f)
 | i,[]=>h i i
 | i,t::ts=>h' t i i t ts
theorem z4s {m:α→Nat} {c:Nat} {p:Ps α} (h:Le m (c+1) p):LeN m c (.skip p):=fun i t ts=>by
 have:=h (i+1) ts
 show Fit m c i (p.run (i+1) ts)
 revert this
 cases p.run (i+1) ts with
 | ok a j r=>intro this; simp only [Fit] at this ⊢; omega
 | bad j r=>exact fun _=>trivial
theorem z6d {m:α→Nat} {c:Nat} {b:Prop} [Decidable b] {p q:Ps α} (h:LeN m c p) (h' : LeN m c q):LeN m c (if b then p else q):=by
 split
 ·exact h
 ·exact h'
theorem z2l {m:α→Nat} {m' : β→Nat} {c:Nat} {p:Ps α} {k:α→Ps β} (h:Le m 0 p) (h' : ∀ a,Le m' (m a+c) (k a)):Le m' c (p.bind k):=fun i ts=>by
  rw [run_bind]
  have h1:=h i ts
  revert h1
  cases p.run i ts with
  | ok a j r =>
    intro h1
    have h2:=h' a j r
    show Fit m' c i ((k a).run j r)
    revert h2
    cases (k a).run j r with
    | ok b j2 r2=>intro h2; simp only [Fit] at h1 h2 ⊢; omega
    | bad _ _=>exact fun _=>trivial
  | bad j r=>exact fun _=>trivial
theorem zpW {m:α→Nat} {m' : β→Nat} {c c' : Nat} {p:Ps α} {k:α→Ps β} (h:Le m c' p) (hc:c'≤c) (h' : ∀ a,Le m' (m a+(c - c')) (k a)):Le m' c (p.bind k):=fun i ts=>by
  rw [run_bind]
  have h1:=h i ts
  revert h1
  cases p.run i ts with
  | ok a j r =>
    intro h1
    have h2:=h' a j r
    show Fit m' c i ((k a).run j r)
    revert h2
    cases (k a).run j r with
    | ok b j2 r2=>intro h2; simp only [Fit] at h1 h2 ⊢; omega
    | bad _ _=>exact fun _=>trivial
  | bad j r=>exact fun _=>trivial
theorem zdE (k:Int) (s:List UInt8):Le (fun _=>1) 0 (needP k s):=z6j (fun _ _=>trivial) fun t i=>z6d (z4s (z4S (Nat.le_refl _))) (le_n zct)
theorem z8V {k:Int} (hk:k≠0):Le (fun _=>1) 0 (takeP k):=z6j (fun i j=>by
 show Fit _ 0 j (Ps.run (if (0:Int)=k then _ else _) j [])
 rw [if_neg (Ne.symm hk)]; exact trivial) fun t i=>z6d (z4s (z4S (Nat.le_refl _))) (le_n zct)
theorem zoL {ex:Ps E} (h:Le szE 0 ex):Le szE 0 (atomP ex):=by
 unfold atomP
 refine z6j (fun _ _=>trivial) fun t i=>?_
 have r1:∀ (o a:Int) (s:List UInt8),Le szE (0+1) (.ret ⟨o,a,s,[]⟩):=fun o a s=>z4S (by simp [szE,szEs])
 exact z6d (z4s (r1 _ _ _)) (z6d (z4s (r1 _ _ _)) (z6d (z4s (r1 _ _ _)) (z6d (z4s (r1 _ _ _)) (z6d (z4s (r1 _ _ _)) (z6d (z4s (r1 _ _ _))
  (z6d (z4s (z2l (z8V (by decide)) fun s=>z4S (by simp [szE,szEs]))) (z6d (z4s (z2l h fun x=>z2l (zdE _ _) fun _=>z4S (by omega))) (le_n zct))))))))
theorem zmq {ex:Ps E} (h:Le szE 0 ex):∀ f,Le szE 0 (zgu ex f)
 | 0=>zct
 | f+1=>z6j (le_e (zoL h) |> fun q _=>q) fun t i=>z6d (z4s (z2l (zmq h f) fun y=>z4S (by simp [szE,szEs]; omega))) (le_n (zoL h))
theorem zmm {op:Option Tk→Int} {one:Ps E} (hn:op none=0) (h:Le szE 0 one):∀ (f:Nat) (x:E) (c:Nat),szE x≤c→Le szE c (zef op one f x)
  | 0,_,_,_=>zct
  | f + 1, x, c, hx => z6j (fun i j => by
      show Fit _ _ _ (Ps.run (if op none=0 then _ else _) j [])
      rw [if_pos hn]; exact z4S hx j []) fun t i=>z6d (le_n (z4S hx)) (z4s (z2l h fun y=>zmm hn h f _ _ (by simp [szE,szEs]; omega)))
theorem zi6 {op:Option Tk→Int} {one:Ps E} (hn:op none=0) (h:Le szE 0 one) (N:Nat):Le szE 0 (zgo op one N):=z2l h fun x=>zmm hn h N x _ (by omega)
theorem zkH {m:α→Nat} {one:Ps α} (h:Le m 0 one):∀ (f:Nat) (l:List α) (c:Nat),szL m l≤c→Le (szL m) c (listP one f l)
 | 0,_,_,_=>zct
 | f+1,l,c,hl=>z6j (fun i=>le_e (z4S hl)) fun t i=>z6d (z4s (z2l h fun y=>zkH h f _ _ (by simp only [zhK,szL]; omega))) (le_n (z4S hl))
theorem zrJ {ex sum:Ps E} (h:Le szE 0 ex) (h' : Le szE 0 sum) (N:Nat):Le szE 0 (lessP ex sum N):=by
 unfold lessP
 refine z2l h' fun x=>z6j (fun i=>le_e (z4S (by omega))) fun t i=>?_
 exact z6d (z4s (z2l h' fun y=>z4S (by simp [szE,szEs]; omega)))
  (z6d (z4s (z2l (zdE _ _) fun _=>z2l h fun y=>zpW (c':=szE y) (zkH h N [y] (szE y) (by simp [szL])) (by omega) fun l=>z2l (zdE _ _) fun _=>z4S (by simp only [szE,szEs,zdQ]; omega))) (le_n (z4S (by omega))))
theorem zrK {less:Ps E} (h:Le szE 0 less):∀ f,Le szE 0 (notP less f)
 | 0=>zct
 | f+1=>z6j (fun _=>le_e h) fun t i=>z6d (z4s (z2l (zrK h f) fun y=>z4S (by simp [szE,szEs]; omega))) (le_n h)
theorem zrI {ex:Ps E} (h:Le szE 0 ex) (N:Nat):Le szE 0 (conjP ex N):=
 zi6 rfl (zrK (zrJ h (zi6 rfl (zi6 rfl (zmq h N) N) N) N) N) N
theorem zmo (N:Nat):∀ f,Le szE 0 (exprP N f)
 | 0=>zct
 | f+1=>zi6 rfl (zrI (zmo N f) N) N
theorem zjT {ex:Ps E} (h:Le szE 0 ex):Le (fun x=>szE x+1) 0 (zgj ex):=z2l h fun x=>z2l (zdE _ _) fun _=>z4S (by omega)
theorem zem {ex:Ps E} (h:Le szE 0 ex):Le (fun x=>szE x+2) 0 (z9U ex):=z2l (zdE _ _) fun _=>z2l h fun x=>z2l (zdE _ _) fun _=>z4S (by omega)
theorem zjU {m:α→Nat} {one:Ps α} (h:Le m 0 one):∀ (f:Nat) (l:List α) (c:Nat),szL m l≤c→Le (szL m) c (zby one f l)
 | 0,_,_,_=>zct
 | f+1,l,c,hl=>z6j (fun i=>le_e (z2l h fun y=>zjU h f _ _ (by simp only [zhK,szL]; omega))) fun t i=>z6d (z4s (z4S (by omega))) (le_n (z2l h fun y=>zjU h f _ _ (by simp only [zhK,szL]; omega)))
theorem zel {m:α→Nat} {one:Ps α} (h:Le m 0 one) (N:Nat):Le (szL m) 0 (z4d one N):=z2l (zdE _ _) fun _=>zjU h N [] _ (by simp [szL])
theorem zoM {ex:Ps E} (h:Le szE 0 ex) (N:Nat):∀ f,Le szS 0 (stmtP ex N f)
  | 0=>zct
  | f + 1 => by
    have ih:=zoM h N f
    have hb:=zel ih N
    unfold stmtP
    refine z6j (fun _ _=>trivial) fun t i=>?_
    refine z6d (z4s (z2l (z8V (by decide)) fun n=>z2l (zem h) fun x=>z4S (by simp [szS,szSs]; omega))) ?_
    refine z6d (z4s (z6j (fun _=>le_e (z2l (z8V (by decide)) fun n=>z2l (zem h) fun x=>z4S (by simp [szS,szSs]; omega))) fun u _=>
      z6d (z4s (z2l (zem h) fun x=>z4S (by simp [szS,szSs]; omega))) (z6d (z4s (z2l (z8V (by decide)) fun n=>z2l (zem h) fun x=>z4S (by simp [szS,szSs]; omega)))
        (le_n (z2l (z8V (by decide)) fun n=>z2l (zem h) fun x=>z4S (by simp [szS,szSs]; omega)))))) ?_
    refine z6d (z4s (z2l h fun x=>z2l hb fun b=>z6j (fun _=>le_e (z4S (by simp [szS,szSs,zd9]; omega))) fun u _=>
      z6d (z4s (z6j (fun _=>le_e (z2l hb fun e=>z4S (by simp [szS,szSs,zd9]; omega))) fun v _=>z6d (le_n (z2l ih fun s=>z4S (by simp [szS,szSs,zd9]; omega))) (le_n (z2l hb fun e=>z4S (by simp [szS,szSs,zd9]; omega)))))
        (le_n (z4S (by simp [szS,szSs,zd9]; omega))))) ?_
    refine z6d (z4s (z6j (fun _=>le_e (z2l (z8V (by decide)) fun d=>z2l hb fun b=>z4S (by simp [szS,szSs,zd9,szE,szEs]; omega))) fun _ _=>le_n (z2l (z8V (by decide)) fun d=>z2l hb fun b=>z4S (by simp [szS,szSs,zd9,szE,szEs]; omega)))) ?_
    refine z6d (z4s (z2l (zjT h) fun x=>z4S (by simp [szS,szSs]; omega))) ?_
    refine z6d (z4s (z2l (zjT h) fun x=>z4S (by simp [szS,szSs]; omega))) ?_
    refine z6d (z4s (z2l (zjT h) fun x=>z4S (by simp [szS,szSs]; omega))) ?_
    exact le_n zct
theorem zjS {k:Int} (hk:k≠0) (N:Nat):Le (szL fun _=>1) 0 (zdT k N):=z2l (z8V hk) fun x=>zkH (z8V hk) N _ _ (by simp [szL])
theorem zhL (l:List α):szL (fun _=>1) l=l.length:=by induction l with | nil=>rfl | cons x r ih=>simp [szL,ih]; omega
theorem zen (c:Cl) {n:Nat} (h:szC c≤n+1):Le szC n (semi c):=z2l (zdE _ _) fun _=>z4S (by omega)
theorem znX (k:Int):Le (fun _=>1) 0 (zgg k):=by
 unfold zgg
 refine z6j (fun _=>le_e (z2l (z8V (by decide)) fun d=>z6j (fun _ _=>?_) fun u _=>z6d (z4s (z4S (by omega))) (le_n (z4S (by omega))))) fun _ _=>le_n (z2l (z8V (by decide)) fun d=>z6j (fun _ _=>?_) fun u _=>z6d (z4s (z4S (by omega))) (le_n (z4S (by omega))))
 ·show Fit _ _ _ (Ps.run (if (0:Int)=1∧k≠17 then _ else _) _ [])
  rw [if_neg (by intro q; exact absurd q.1 (by decide))]
  exact z4S (m:=fun _=>1) (by omega) _ []
 ·show Fit _ _ _ (Ps.run (if (0:Int)=1∧k≠17 then _ else _) _ [])
  rw [if_neg (by intro q; exact absurd q.1 (by decide))]
  exact z4S (m:=fun _=>1) (by omega) _ []
theorem zkF {conds:Ps (List Cl)} (h:Le (szL szC) 0 conds) (N:Nat) (inner:Bool):Le szC 0 (zb7 N inner conds):=by
  unfold zb7
  have hn:z9B inner none=0:=by
    unfold z9B
    rw [if_neg (fun q=>absurd q.1 (by decide))]
  refine z6j (fun i j=>?_) fun t i=>?_
  · dsimp only
    rw [hn]; exact trivial
  · dsimp only
    generalize z9B inner (some t)=k
    refine z6d (le_n zct) (z4s ?_)
    split
    · exact z2l (z8V (by decide)) fun s=>zen _ (by simp [szC,szCs])
    split
    · exact z2l (zjS (by decide) N) fun l=>zen _ (by simp [szC,szCs,zhL]; omega)
    split
    · exact z2l (zjS (by decide) N) fun l=>zen _ (by simp [szC,szCs,zhL]; omega)
    split
    · exact z2l (z8V (by decide)) fun n=>z2l (zdE _ _) fun _=>z2l (zjS (by decide) N) fun l=>z6j (fun _=>le_e (zen _ (by simp [szC,szCs,zhL]; omega))) fun u _=>
        z6d (z4s (z2l (z8V (by decide)) fun d=>zen _ (by simp [szC,szCs,zhL]; omega))) (le_n (zen _ (by simp [szC,szCs,zhL]; omega)))
    split
    · exact z2l (z8V (by decide)) fun s=>zen _ (by simp [szC,szCs])
    split
    · exact z2l h fun l=>z4S (by simp [szC,zjA]; omega)
    split
    · exact zen _ (by simp [szC,szCs])
    · exact z2l (znX k) fun a=>zen _ (by simp [szC,szCs])
theorem zmn (N:Nat):Le (szL szC) 0 (zaP N):=zel (zkF (zel (zkF zct N true) N) N false) N
theorem zrL (N:Nat):Le szR 0 (ruleP N):=by
 have h:=zmn N
 have h' : ∀ i:Nat,Le szR 0 ((needP 2 [114,117,108,101]).bind fun _=>(takeP 1).bind fun n=>(zaP N).bind fun l=>.ret (⟨n,i,l⟩ : zQ)):=fun i=>
  z2l (zdE _ _) fun _=>z2l (z8V (by decide)) fun n=>z2l h fun l=>z4S (by simp only [szR,zjA]; omega)
 exact z6j (fun i=>le_e (h' i)) fun _ i=>le_n (h' i)
theorem zkG:Le (fun _=>1) 0 z62:=z6j (fun _ _=>trivial) fun t i=>z6d (z4s (z4S (Nat.le_refl _))) (le_n zct)
theorem znY (N:Nat) (i:Int):Le (fun p=>szP p) 0 (zbc N i):=z2l (z8V (by decide)) fun n=>z2l (zel (zrL N) N) fun r=>z4S (by simp only [szP]; omega)
theorem zmr (N:Nat) (i:Int):Le (fun p=>szPr p) 0 (z8s N i):=by
 have hb:=zel (zoM (zmo N N) N N) N
 have he:Le (szL fun _=>1) 0 (z62.bind fun e=>listP z62 N [e]):=z2l zkG fun e=>zkH zkG N _ _ (by simp [szL])
 have hk:∀ (n:List UInt8) (es:List Int) (c:Nat),1+es.length≤c→Le (fun p=>szPr p) c ((z4d (stmtP (exprP N N) N N) N).bind fun c=>.ret (⟨n,i,es,c⟩ : zI)):=fun n es c h=>z2l hb fun b=>z4S (by simp only [szPr,zd9]; omega)
 unfold z8s
 refine z2l (z8V (by decide)) fun n=>z6j (fun _=>?_) fun u j=>?_
 ·exact le_e (hk n [] _ (by simp))
 ·by_cases q:wrd [101,102,102,101,99,116,115] (some u)=true
  ·simp only [q,yS]
   exact z4s (z2l he fun es=>hk n es _ (by simp only [zhL]; omega))
  ·simp only [q,yR]
   exact le_n (hk n [] _ (by simp))
theorem zi7 (N:Nat):∀ (f:Nat) (x:zG) (c:Nat),szSrc x≤c→Le szSrc c (zaK N f x)
  | 0,_,_,_=>zct
  | f + 1, x, c, h => by
    rw [zf0]
    refine z6j (fun _=>le_e (z4S h)) fun t i=>?_
    refine z6d (le_n (z4S h)) (z6d (z4s (z2l (znY N i) fun p=>zi7 N f _ _ ?_)) (z6d (z4s (z2l (zmr N i) fun p=>zi7 N f _ _ ?_)) (le_n zct)))
    · simp only [szSrc,zhK,szL] at h ⊢; omega
    · simp only [szSrc,zhK,szL] at h ⊢; omega
theorem zhG {N:Nat} {l:List Lx} {a:zG} {j:Nat} {r:List Tk} (h:run' l (srcP N) 0 = .ok a j r):szSrc a≤l.length:=by
 have h1:=zi7 N N ⟨[],[]⟩ 0 (by simp [szSrc,szL]) 0 (tks l 0)
 have h2:=z2q (l:=l) (srcP N) (j:=0) (yX _)
 rw [h] at h2
 rw [show (zaK N N ⟨[],[]⟩).run 0 (tks l 0) = .ok a j r from h] at h1
 simp only [Fit] at h1
 omega
end
theorem zkX {step:Int→Option (Lp Int (Lp Unit Bool))} {L:Nat} (h:∀ i:Nat,i<L→step (i:Int)=some (.go ((i+1:Nat):Int))) (he:step (L:Int)=some (.stop (.go ()))):∀ (n i:Nat),i≤L→L - i<n→iter step n (i:Int)=some (.go ())
  | 0,_,_,h=>absurd h (yH _)
  | n + 1, i, hi, hn => by
    by_cases hl:i=L
    · subst hl; rw [z1z he]
    · rw [z4f (h i (by omega))]
      exact zkX h he n (i+1) (by omega) (by omega)
theorem zb2 {step:Int→Option (Lp Int (Lp Unit Bool))} {L n:Nat} {K:Unit→Option Bool} (h:∀ i:Nat,i<L→step (i:Int)=some (.go ((i+1:Nat):Int))) (he:step (L:Int)=some (.stop (.go ()))) (hn:L<n):bindJ (iter step n 0) K=K ():=by
 have:iter step n 0=_:=zkX h he n 0 (yX _) (by omega)
 rw [this]; rfl
theorem zc1 {j:Nat} (h:j≤1000000000):IntKind.i64.wrap ((j:Int)+1)=((j+1:Nat):Int):=by
 rw [w64 (by omega) (by omega)]; omega
theorem ziv (a:List (List UInt8)) (ha:a.length≤1000000000) {n:Nat} (hn:a.length<n):z9h n a a=some true:=by
 unfold z9h
 simp only [ne_eq,yV,yP,yJ]
 refine zb2 (L:=a.length) (fun i hi=>?_) ?_ hn
 ·unfold z97
  simp only [yW,hi,yQ,yK,z5t hi,yU,yJ,zc1 (j:=i) (by omega)]
 ·unfold z97
  simp only [Int.lt_irrefl,yP,yJ]
theorem zd1 (a:List Int) (ha:a.length≤1000000000) {n:Nat} (hn:a.length<n):z64 n a a=some true:=by
 unfold z64
 simp only [ne_eq,yV,yP,yJ]
 refine zb2 (L:=a.length) (fun i hi=>?_) ?_ hn
 ·unfold z7N
  simp only [yW,hi,yQ,yK,z5t hi,ne_eq,yV,yP,yJ,zc1 (j:=i) (by omega)]
 ·unfold z7N
  simp only [Int.lt_irrefl,yP,yJ]
theorem zkc {l:List E} {i:Nat} (h:i<l.length):szE l[i]≤szEs l:=by rw [zdQ]; exact z9H (List.getElem_mem h)
theorem znh {l:List St} {i:Nat} (h:i<l.length):szS l[i]≤szSs l:=by rw [zd9]; exact z9H (List.getElem_mem h)
theorem zne {l:List Cl} {i:Nat} (h:i<l.length):szC l[i]≤szCs l:=by rw [zjA]; exact z9H (List.getElem_mem h)
theorem zgS (l:List E):l.length≤szEs l:=by rw [zdQ]; exact zce zd8 l
theorem zng (l:List St):l.length≤szSs l:=by rw [zd9]; exact zce zsB l
theorem znd (l:List Cl):l.length≤szCs l:=by rw [zjA]; exact zce zsz l
theorem zd2:∀ (n:Nat) (x:E),szE x<n→szE x≤1000000000→z6Q n x x=some true
  | 0,_,h,_=>absurd h (yH _)
  | n + 1, ⟨op, a, s, l⟩, h, h' => by
    simp only [szE] at h h'
    have hl:=zgS l
    show z6m n (z6Q n) _ _=_
    unfold z6m zb0
    simp only [yQ,Bool.and_self,yK,ne_eq,yV,yP,yJ]
    refine (congrArg (fun o=>bindJ (obind o fun r15=>some (.go r15)) fun b9=>some b9) (zb2 (L:=l.length) (fun i hi=>?_) ?_ (by omega))).trans rfl
    · unfold z95
      have hm:=zkc hi
      simp only [yW,hi,yQ,yK,z5t hi,zd2 n l[i] (by omega) (by omega),ob,yU,yJ,zc1 (j:=i) (by omega)]
    · unfold z95
      simp only [Int.lt_irrefl,yP,yJ]
theorem zaJ:∀ (n:Nat) (l:List St),szSs l+1<n→szSs l≤1000000000→z6P n l l=some true
  | 0,_,h,_=>absurd h (yH _)
  | n + 1, l, h, h' => by
    have hl:=zng l
    show z6l n (z6P n) _ _=_
    unfold z6l
    simp only [ne_eq,yV,yP,yJ]
    refine zb2 (L:=l.length) (fun i hi=>?_) ?_ (by omega)
    · unfold z9w
      have hm:=znh hi
      have hq:=zd8 l[i].X
      have e:szS l[i]=1+szE l[i].X+szSs l[i].Body+szSs l[i].Else:=by cases l[i]; rfl
      simp only [yW,hi,yQ,yK,z5t hi,ne_eq,yV,yP,Bool.or_self,yJ,yU,bJ,zd2 n l[i].X (by omega) (by omega),zaJ n l[i].Body (by omega) (by omega),zaJ n l[i].Else (by omega) (by omega),ob,zc1 (j:=i) (by omega)]
    · unfold z9w
      simp only [Int.lt_irrefl,yP,yJ]
theorem zd0:∀ (n:Nat) (l:List Cl),szCs l+1<n→szCs l≤1000000000→z63 n l l=some true
  | 0,_,h,_=>absurd h (yH _)
  | n + 1, l, h, h' => by
    have hl:=znd l
    show z5k n (z63 n) _ _=_
    unfold z5k
    simp only [ne_eq,yV,yP,yJ]
    refine zb2 (L:=l.length) (fun i hi=>?_) ?_ (by omega)
    · unfold z7L
      have hm:=zne hi
      have e:szC l[i]=1+l[i].Texts.length+szCs l[i].Conds:=by cases l[i]; rfl
      have hb:∀ b:Bool,(b == b)=true:=by decide
      simp only [yW,hi,yQ,yK,z5t hi,ne_eq,yV,yP,Bool.or_self,Bool.and_self,yJ,yU,bJ,hb,ziv l[i].Texts (by omega) (n:=n) (by omega),zd0 n l[i].Conds (by omega) (by omega),ob,zc1 (j:=i) (by omega)]
    · unfold z7L
      simp only [Int.lt_irrefl,yP,yJ]
theorem zeX (l:List zQ) {n:Nat} (h:szL szR l+1<n) (h' : szL szR l≤1000000000):z7u n l l=some true:=by
 have hl:=zce zpe l
 unfold z7u
 simp only [ne_eq,yV,yP,yJ]
 refine zb2 (L:=l.length) (fun i hi=>?_) ?_ (by omega)
 ·unfold z96
  have hm:szR l[i]≤szL szR l:=z9H (List.getElem_mem hi)
  simp only [szR] at hm
  simp only [yW,hi,yQ,yK,z5t hi,ne_eq,yV,yP,Bool.or_self,yU,yJ,bJ,zd0 n l[i].Clauses (by omega) (by omega),ob,zc1 (j:=i) (by omega)]
 ·unfold z96
  simp only [Int.lt_irrefl,yP,yJ]
section
variable {l : List Lx}
theorem z6e (j:Nat):z3q l (j:Int)=some (kindO (tks l j).head?):=by
 unfold z3q
 rw [ziE]
 by_cases h:j<l.length
 ·rw [yL (p:=(j:Int)<0) (by omega),yL (p:=(l.length:Int)≤j) (by omega)]
  simp only [Bool.or_self,yJ,z5t h,List.getElem?_eq_getElem h]; rfl
 ·rw [yM (p:=(l.length:Int)≤j) (by omega),Bool.or_true,List.getElem?_eq_none (by omega)]; rfl
theorem z4E (j:Nat):z35 l (j:Int)=some (textO (tks l j).head?):=by
 unfold z35
 rw [ziE]
 by_cases h:j<l.length
 ·rw [yL (p:=(j:Int)<0) (by omega),yL (p:=(l.length:Int)≤j) (by omega)]
  simp only [Bool.or_self,yJ,z5t h,List.getElem?_eq_getElem h]; rfl
 ·rw [yM (p:=(l.length:Int)≤j) (by omega),Bool.or_true,List.getElem?_eq_none (by omega)]; rfl
theorem zfk (j:Nat):z5F l (j:Int)=some (gA l (j:Int)):=by
 unfold z5F gA
 rw [if_neg (show ¬((j:Int)<0) by omega)]
 simp only [yY]
 by_cases h:j<l.length
 ·rw [yL (p:=(j:Int)<0) (by omega),yL (p:=(l.length:Int)≤j) (by omega)]
  simp only [Bool.or_self,yJ,z5t h,List.getElem?_eq_getElem h]
 ·rw [yM (p:=(l.length:Int)≤j) (by omega),Bool.or_true,List.getElem?_eq_none (by omega)]; rfl
theorem z3J (j:Nat) (s:List UInt8):z2B l (j:Int) s=some (isK 5 s (tks l j).head?):=by
 unfold z2B
 simp only [z6e,z4E,ob]
 by_cases h:kindO (tks l j).head? = 5
 ·rw [zh4 s (by decide) h]
  simp only [h,yQ,yK,bJ]
 ·rw [zi4 s h]
  simp only [h,yP,yJ,bJ]
theorem z4F (j:Nat) (s:List UInt8):z2R l (j:Int) s=some (isK 2 s (tks l j).head?):=by
 unfold z2R
 simp only [z6e,z4E,ob]
 by_cases h:kindO (tks l j).head? = 2
 ·rw [zh4 s (by decide) h]
  simp only [h,yQ,yK,bJ]
 ·rw [zi4 s h]
  simp only [h,yP,yJ,bJ]
theorem z5S {j:Nat} (h:j≤1000000):IntKind.i64.wrap ((j:Int)+1)=((j+1:Nat):Int):=zdc h
theorem zgZ {j:Nat} (h:j≤1000000):IntKind.i64.wrap ((j:Int)+2)=((j+2:Nat):Int):=by rw [w64 (by omega) (by omega)]; omega
theorem zsZ {j:Nat} (h:j≤1000000):IntKind.i64.wrap ((j:Int)+3)=((j+3:Nat):Int):=by rw [w64 (by omega) (by omega)]; omega
theorem ob_id {α:Type} (o:Option α):obind o (fun r=>some r)=o:=by cases o <;> rfl
def okO (l:List Lx):Out E→zR→Prop
 | .ok a i _,r=>r=⟨atE (gA l) a,(i:Int),false⟩
 | .bad i _,r=>r.I=(i:Int)∧r.Bad=true
def RfE (l:List Lx) (k:Nat) (F:List Lx→Int→Option zR) (p:Ps E):Prop:=∀ j:Nat,k≤j→j≤l.length→∃ r,F l (j:Int)=some r∧okO l (run' l p j) r
theorem RfE.mono {k k' : Nat} {F:List Lx→Int→Option zR} {p:Ps E} (h:RfE l k F p) (hk:k≤k'):RfE l k' F p:=fun j h1 h2=>h j (Nat.le_trans hk h1) h2
theorem zoO {op:Int} {s:List UInt8} (hl:l.length≤900000) {j:Nat} (hj:j≤l.length):z7s l (j:Int) op s=some ⟨⟨op,gA l (j:Int),s,[]⟩,((j+1:Nat):Int),false⟩:=by
 unfold z7s
 rw [zfk]
 simp only [ob,z5S (j:=j) (by omega)]
theorem ratom (hl:l.length≤900000) {k:Nat} {rec:List Lx→Int→Option zR} {ex:Ps E} (hr:RfE l (k+1) rec ex):RfE l k (zeD rec) (atomP ex):=by
  intro j hk hj
  unfold zeD atomP
  rw [z1w]
  simp only [z6e,z4E,z4F,z3J,zfk,zoO hl hj,ob,z5S (j:=j) (by omega),zgZ (j:=j) (by omega)]
  by_cases h3:kindO (tks l j).head? = 3
  · simp only [h3,yQ,yK,yS]
    rw [z1f _ (z4V (by decide) h3)]
    exact ⟨_,rfl,rfl⟩
  by_cases h4:kindO (tks l j).head? = 4
  · simp only [h4,yQ,yK,yS,show ¬((4:Int)=3) by decide,yP,yJ,yR]
    rw [z1f _ (z4V (by decide) h4)]
    exact ⟨_,rfl,rfl⟩
  by_cases h1:kindO (tks l j).head? = 1
  · simp only [h1,yQ,yK,yS,show ¬((1:Int)=3) by decide,show ¬((1:Int)=4) by decide,yP,yJ,yR]
    rw [z1f _ (z4V (by decide) h1)]
    exact ⟨_,rfl,rfl⟩
  simp only [h1,h3,h4,yP,yJ,yR]
  rcases yG (isK 2 [116,114,117,101] (tks l j).head?) with e1 | e1
  · simp only [wrd,e1,yK,yS]
    rw [z1f _ (z4I e1)]
    exact ⟨_,rfl,rfl⟩
  simp only [wrd,e1,yJ,yR,yN]
  rcases yG (isK 2 [102,97,108,115,101] (tks l j).head?) with e2 | e2
  · simp only [e2,yK,yS]
    rw [z1f _ (z4I e2)]
    exact ⟨_,rfl,rfl⟩
  simp only [e2,yJ,yR,yN]
  rcases yG (isK 2 [115,116,97,116,117,115] (tks l j).head?) with e3 | e3
  · simp only [e3,yK,yS]
    rw [z1f _ (z4I e3)]
    exact ⟨_,rfl,rfl⟩
  simp only [e3,yJ,yR,yN]
  rcases yG (isK 2 [104,101,97,100,101,114] (tks l j).head?) with e4 | e4
  · have hlt:=z4I e4
    simp only [e4,yK,yS]
    rw [z1f _ hlt,z1A _ _ hlt]
    unfold takeP
    rw [z1w]
    by_cases h5:kindO (tks l (j+1)).head? = 4
    · have hlt2:=z4V (by decide) h5
      simp only [h5,ne_eq,yV,yP,yJ,yS,z1f _ hlt2]
      exact ⟨_,rfl,rfl⟩
    · simp only [h5,ne_eq,yZ,yQ,yK,yR]
      exact ⟨_,rfl,rfl,rfl⟩
  simp only [e4,yJ,yR,yN]
  rcases yG (isK 5 [40] (tks l j).head?) with e5 | e5
  · have hlt:=z4I e5
    simp only [sgn,e5,yU,yJ,yS]
    rw [z1f _ hlt,z1A _ _ hlt]
    obtain ⟨r,h6,h7⟩:=hr (j+1) (by omega) hlt
    have he:=z2q (l:=l) ex (j:=j+1) hlt
    simp only [h6,ob]
    revert h7 he
    cases run' l ex (j+1) with
    | bad i q=>rintro ⟨h7,h8⟩ _; rw [h8,yK]; exact ⟨_,rfl,h7,h8⟩
    | ok a i q =>
      rintro h7 ⟨_,h8,_⟩
      have h7' : r=_:=h7
      subst h7'
      dsimp only
      rw [yJ,z3J,z1A _ _ h8]
      unfold needP
      rw [z1w]
      simp only [ob]
      rcases yG (isK 5 [41] (tks l i).head?) with e6 | e6
      · have hlt2:=z4I e6
        simp only [e6,yU,yJ,yS,z1f _ hlt2,z5S (j:=i) (by omega)]
        exact ⟨_,rfl,rfl⟩
      · simp only [e6,yT,yK,yR,yN]
        exact ⟨_,rfl,rfl,rfl⟩
  · simp only [sgn,e5,yT,yK,yR,yN]
    exact ⟨_,rfl,rfl,rfl⟩
def mapO {α β:Type} (f:α→β):Out α→Out β
 | .ok a i q=>.ok (f a) i q
 | .bad i q=>.bad i q
theorem znu {op:Int} {j:Nat} {o:Out E} {r:zR} (h:okO l o r):∃ r',zbs l (j:Int) op r=some r'∧okO l (mapO (fun a=>⟨op,(j:Int),[],[a]⟩) o) r':=by
 unfold zbs
 cases o with
 | ok a i q=>have h' : r=_:=h; subst h'; rw [zfk]; exact ⟨_,rfl,rfl⟩
 | bad i q=>obtain ⟨h1,h2⟩:=h; rw [h2]; exact ⟨_,rfl,h1,h2⟩
theorem zoy {op:Int} {j:Nat} {x:E} {i0:Int} {b0:Bool} {o:Out E} {r:zR} (h:okO l o r):∃ r',z7p l ⟨atE (gA l) x,i0,b0⟩ (j:Int) op r=some r'∧okO l (mapO (fun a=>⟨op,(j:Int),[],[x,a]⟩) o) r':=by
 unfold z7p
 cases o with
 | ok a i q=>have h' : r=_:=h; subst h'; rw [zfk]; exact ⟨_,rfl,rfl⟩
 | bad i q=>obtain ⟨h1,h2⟩:=h; rw [h2]; exact ⟨_,rfl,h1,h2⟩
theorem rminus (hl:l.length≤900000) {rec:List Lx→Int→Option zR} {ex:Ps E}:∀ (n f k:Nat),RfE l (k+1) rec ex→l.length - k<n→l.length - k<f→RfE l k (z94 n rec) (zgu ex f)
  | 0,_,_,_,h,_=>absurd h (yH _)
  | _+1,0,_,_,_,h=>absurd h (yH _)
  | n + 1, f + 1, k, hr, hn, hf => by
    intro j hk hj
    show ∃ r,z8B n rec (z94 n rec) l _=_∧_
    unfold z8B zgu
    rw [z1w]
    simp only [z3J,ob,z5S (j:=j) (by omega)]
    rcases yG (isK 5 [45] (tks l j).head?) with h5 | h5
    · have hlt:=z4I h5
      simp only [sgn,h5,yS,yK,z1f _ hlt]
      obtain ⟨r,h6,h7⟩:=rminus hl n f (k+1) (hr.mono (by omega)) (by omega) (by omega) (j+1) (by omega) hlt
      obtain ⟨r',h8,h9⟩:=znu (op:=8) (j:=j) h7
      simp only [h6,ob,h8]
      refine ⟨r',rfl,?_⟩
      rw [z1A _ _ hlt]
      revert h9
      cases run' l (zgu ex f) (j+1) with
      | ok a i q=>exact id
      | bad i q=>exact id
    · simp only [sgn,h5,yR,yJ,yN,ob_id]
      exact ratom hl hr j hk hj
abbrev T6:=Int×Int×List UInt8×List zi×Int×Bool
def t6 (r:zR):T6:=(r.X.Op,r.X.At,r.X.S,r.X.Args,r.I,r.Bad)
theorem rchain (hl:l.length≤900000) {step:T6→Option (Lp T6 (Lp T6 zR))} {op:Option Tk→Int} {one:Ps E} {F:List Lx→Int→Option zR} {k:Nat} (hF:RfE l k F one) (hop:op none=0)
    (hs:∀ (r:zR) (j:Nat),j≤l.length→r.I=(j:Int)→r.Bad=false→step (t6 r)=if op (tks l j).head? = 0 then some (.stop (.go (t6 r))) else obind (F l ((j+1:Nat):Int)) fun b=>obind (z7p l r (j:Int) (op (tks l j).head?) b) fun r'=>some (.go (t6 r')))
    (hb:∀ r:zR,r.Bad=true→step (t6 r)=some (.stop (.go (t6 r)))):∀ (n f j:Nat) (x:E),k≤j+1→j≤l.length→l.length - j+1<n→l.length - j<f→
    ∃ r,bindJ (iter step n (t6 ⟨atE (gA l) x,(j:Int),false⟩)) (fun s=>some (⟨⟨s.1,s.2.1,s.2.2.1,s.2.2.2.1⟩,s.2.2.2.2.1,s.2.2.2.2.2⟩ : zR))=some r∧okO l (run' l (zef op one f x) j) r
  | 0,_,_,_,_,_,h,_=>absurd h (yH _)
  | _+1,0,_,_,_,_,_,h=>absurd h (yH _)
  | n + 1, f + 1, j, x, hk, hj, hn, hf => by
    unfold zef
    rw [z1w]
    have h1:=hs ⟨atE (gA l) x,(j:Int),false⟩ j hj rfl rfl
    by_cases h0:op (tks l j).head? = 0
    · rw [if_pos h0] at h1 ⊢
      rw [z1z h1]
      exact ⟨⟨atE (gA l) x,(j:Int),false⟩,congrArg some (congrArg (fun z=>(⟨z,(j:Int),false⟩ : zR)) (etaE _)),rfl⟩
    · rw [if_neg h0] at h1 ⊢
      have hlt:j<l.length:=by
        rcases Nat.lt_or_ge j l.length with h | h
        · exact h
        · rw [zdR h] at h0; exact absurd hop h0
      rw [z1f _ hlt,z1A _ _ hlt]
      obtain ⟨b,h2,h3⟩:=hF (j+1) hk hlt
      obtain ⟨r',h4,h5⟩:=zoy (op:=op (tks l j).head?) (j:=j) (x:=x) (i0:=(j:Int)) (b0:=false) h3
      rw [h2] at h1
      simp only [ob,h4] at h1
      rw [z4f h1]
      have he:=z2q (l:=l) one (j:=j+1) hlt
      revert h5 he
      cases run' l one (j+1) with
      | ok a i q =>
        rintro h5 ⟨h6,h7,_⟩
        have h5' : r'=_:=h5
        subst h5'
        exact rchain hl hF hop hs hb n f i ⟨op (tks l j).head?,(j:Int),[],[x,a]⟩ (by omega) h7 (by omega) (by omega)
      | bad i q =>
        rintro ⟨h5,h6⟩ _
        obtain ⟨n,rfl⟩ : ∃ m,n=m+1:=⟨n - 1,by omega⟩
        rw [z1z (hb r' h6)]
        exact ⟨_,rfl,h5,h6⟩
theorem rinfix (hl:l.length≤900000) {step:T6→Option (Lp T6 (Lp T6 zR))} {op:Option Tk→Int} {one:Ps E} {F:List Lx→Int→Option zR} {k:Nat} (hF:RfE l k F one) (hop:op none=0)
    (hs:∀ (r:zR) (j:Nat),j≤l.length→r.I=(j:Int)→r.Bad=false→step (t6 r)=if op (tks l j).head? = 0 then some (.stop (.go (t6 r))) else obind (F l ((j+1:Nat):Int)) fun b=>obind (z7p l r (j:Int) (op (tks l j).head?) b) fun r'=>some (.go (t6 r')))
    (hb:∀ r:zR,r.Bad=true→step (t6 r)=some (.stop (.go (t6 r)))) {n N j:Nat} (hk:k≤j) (hj:j≤l.length) (hn:l.length - k+1<n) (hN:l.length - k<N) :
    ∃ r,(obind (F l (j:Int)) fun r2=>bindJ (S:=T6) (iter step n (r2.X.Op,r2.X.At,r2.X.S,r2.X.Args,r2.I,r2.Bad)) (fun s=>some (⟨⟨s.1,s.2.1,s.2.2.1,s.2.2.2.1⟩,s.2.2.2.2.1,s.2.2.2.2.2⟩ : zR)))=some r∧okO l (run' l (zgo op one N) j) r:=by
  obtain ⟨r,h1,h2⟩:=hF j hk hj
  rw [h1]
  simp only [ob]
  unfold zgo
  rw [z1A _ _ hj]
  have he:=z2q (l:=l) one hj
  revert h2 he
  cases run' l one j with
  | ok a i q =>
    rintro h2 ⟨h6,h7,_⟩
    have h2' : r=_:=h2
    subst h2'
    exact rchain hl hF hop hs hb n N i a (by omega) h7 (by omega) (by omega)
  | bad i q =>
    rintro ⟨h5,h6⟩ _
    obtain ⟨n,rfl⟩ : ∃ m,n=m+1:=⟨n - 1,by omega⟩
    have:=hb r h6
    unfold t6 at this
    rw [z1z this]
    exact ⟨_,rfl,h5,h6⟩
end
section
variable {l : List Lx}
theorem zqA (j:Nat):zbr l (j:Int)=some (mulO (tks l j).head?):=by
 unfold zbr mulO
 simp only [z3J,ob,sgn]
 rcases yG (isK 5 [42] (tks l j).head?) with e | e <;> rcases yG (isK 5 [47] (tks l j).head?) with e' | e' <;> rcases yG (isK 5 [37] (tks l j).head?) with e'' | e'' <;> simp [e,e',e'']
theorem zsb (j:Nat):zcU l (j:Int)=some (sumO (tks l j).head?):=by
 unfold zcU sumO
 simp only [z3J,ob,sgn]
 rcases yG (isK 5 [43] (tks l j).head?) with e | e <;> rcases yG (isK 5 [45] (tks l j).head?) with e' | e' <;> simp [e,e']
theorem zq6 (j:Nat):zbn l (j:Int)=some (ordO (tks l j).head?):=by
 unfold zbn ordO
 simp only [z6e,z4E,ob,sgn]
 by_cases h:kindO (tks l j).head? = 5
 ·simp only [h,zh4 _ (by decide) h,ne_eq,yV,yP,yJ]
  generalize textO (tks l j).head? = s
  by_cases e1:s=[60]
  ·simp [e1]
  by_cases e2:s=[62]
  ·simp [e1,e2]
  by_cases e3:s=[60,61]
  ·simp [e1,e2,e3]
  by_cases e4:s=[62,61]
  ·simp [e1,e2,e3,e4]
  by_cases e5:s=[61,61]
  ·simp [e1,e2,e3,e4,e5]
  by_cases e6:s=[33,61]
  ·simp [e1,e2,e3,e4,e5,e6]
  ·simp [e1,e2,e3,e4,e5,e6]
 ·simp [h,zi4 _ h]
theorem mul_p (t:Option Tk) (h:mulO t≠0):0<mulO t:=by
 unfold mulO at h ⊢
 revert h
 repeat' split
 all_goals decide
theorem sum_p (t:Option Tk) (h:sumO t≠0):0<sumO t:=by
 unfold sumO at h ⊢
 revert h
 repeat' split
 all_goals decide
theorem rproduct (hl:l.length≤900000) {rec:List Lx→Int→Option zR} {ex:Ps E} {k n N:Nat} (hr:RfE l (k+1) rec ex) (hn:l.length - k+1<n) (hN:l.length - k<N):RfE l k (z85 n rec) (zie ex N):=by
 intro j hk hj
 unfold z85
 refine rinfix hl (F:=z94 n rec) (op:=mulO) (rminus hl n N k hr (by omega) hN) rfl ?_ ?_ hk hj hn hN
 ·rintro ⟨⟨o,a,s,az⟩,_,_⟩ j hj rfl rfl
  unfold zcW t6
  simp only [yT,yK,zqA,ob,bJ,z5S (j:=j) (by omega)]
  by_cases h:mulO (tks l j).head? = 0
  ·simp only [h,Int.lt_irrefl,yP,yJ,yS]
  ·simp only [h,mul_p _ h,yQ,yK,yR]
 ·rintro ⟨⟨o,a,s,az⟩,i,b⟩ h
  have h' : b=true:=h
  subst h'
  rfl
theorem rsum (hl:l.length≤900000) {rec:List Lx→Int→Option zR} {ex:Ps E} {k n N:Nat} (hr:RfE l (k+1) rec ex) (hn:l.length - k+1<n) (hN:l.length - k<N):RfE l k (zeR n rec) (sumP ex N):=by
 intro j hk hj
 unfold zeR
 refine rinfix hl (F:=z85 n rec) (op:=sumO) (rproduct hl hr hn hN) rfl ?_ ?_ hk hj hn hN
 ·rintro ⟨⟨o,a,s,az⟩,_,_⟩ j hj rfl rfl
  unfold zgH t6
  simp only [yT,yK,zsb,ob,bJ,z5S (j:=j) (by omega)]
  by_cases h:sumO (tks l j).head? = 0
  ·simp only [h,Int.lt_irrefl,yP,yJ,yS]
  ·simp only [h,sum_p _ h,yQ,yK,yR]
 ·rintro ⟨⟨o,a,s,az⟩,i,b⟩ h
  have h' : b=true:=h
  subst h'
  rfl
def okM (l:List Lx):Out (List E)→z8W→Prop
 | .ok a i _,r=>r=⟨a.map (atE (gA l)),(i:Int),false⟩
 | .bad i _,r=>r.I=(i:Int)∧r.Bad=true
theorem ziT (hl:l.length≤900000) {rec:List Lx→Int→Option zR} {ex:Ps E} {k:Nat} (hr:RfE l k rec ex):∀ (n f j:Nat) (x:List E) (o a:Int) (s:List UInt8) (az:List zi) (i0:Int) (b0:Bool),k≤j+1→j≤l.length→x.length≤j+1→l.length - j+1<n→l.length - j<f→
    ∃ r,bindJ (iter (z8y l rec) n (o,a,s,az,i0,b0,x.map (atE (gA l)),(j:Int),false)) (fun s=>some (⟨s.1,s.2.1,s.2.2⟩ : z8W))=some r∧okM l (run' l (listP ex f x) j) r
  | 0,_,_,_,_,_,_,_,_,_,_,_,_,h,_=>absurd h (yH _)
  | _+1,0,_,_,_,_,_,_,_,_,_,_,_,_,h=>absurd h (yH _)
  | n + 1, f + 1, j, x, o, a, s, az, i0, b0, hk, hj, hx, hn, hf => by
    unfold listP
    rw [z1w]
    rcases yG (isK 5 [44] (tks l j).head?) with h0 | h0
    · have hlt:=z4I h0
      simp only [sgn,h0,yS]
      rw [z1f _ hlt,z1A _ _ hlt]
      obtain ⟨r,h1,h2⟩:=hr (j+1) hk hlt
      have he:=z2q (l:=l) ex (j:=j+1) hlt
      have hstep:z8y l rec (o,a,s,az,i0,b0,x.map (atE (gA l)),(j:Int),false)=some (.go (r.X.Op,r.X.At,r.X.S,r.X.Args,r.I,r.Bad,x.map (atE (gA l))++[r.X],r.I,r.Bad)):=by
        unfold z8y
        simp only [yT,yK,z3J,h0,ob,bJ,z5S (j:=j) (by omega),h1]
        rw [z1n (by simp; omega)]
      rw [z4f hstep]
      revert h2 he
      cases run' l ex (j+1) with
      | ok y i q =>
        rintro h2 ⟨h6,h7,_⟩
        have h2' : r=_:=h2
        subst h2'
        have:=ziT hl hr n f i (x++[y]) (atE (gA l) y).Op (atE (gA l) y).At (atE (gA l) y).S (atE (gA l) y).Args (i:Int) false (by omega) h7 (by simp; omega) (by omega) (by omega)
        rw [List.map_append] at this
        exact this
      | bad i q =>
        rintro ⟨h5,h6⟩ _
        obtain ⟨n,rfl⟩ : ∃ m,n=m+1:=⟨n - 1,by omega⟩
        rw [h6,z1z (r:=.go (x.map (atE (gA l))++[r.X],r.I,true)) rfl]
        exact ⟨_,rfl,h5,rfl⟩
    · simp only [sgn,h0,yR,yN]
      rw [z1z (r:=.go (x.map (atE (gA l)),(j:Int),false))]
      · exact ⟨_,rfl,rfl⟩
      · unfold z8y
        simp only [yT,yK,z3J,h0,ob,bJ,yJ]
theorem rexprs (hl:l.length≤900000) {rec:List Lx→Int→Option zR} {ex:Ps E} {k n N j:Nat} (hr:RfE l k rec ex) (hk:k≤j) (hj:j≤l.length) (hn:l.length - k+1<n) (hN:l.length - k<N) :
    ∃ r,zbm n rec l (j:Int)=some r∧okM l (run' l (ex.bind fun y=>listP ex N [y]) j) r:=by
  obtain ⟨r,h1,h2⟩:=hr j hk hj
  unfold zbm
  rw [h1,z1A _ _ hj]
  simp only [ob]
  have he:=z2q (l:=l) ex hj
  revert h2 he
  cases run' l ex j with
  | ok y i q =>
    rintro h2 ⟨h6,h7,_⟩
    have h2' : r=_:=h2
    subst h2'
    exact ziT hl hr n N i [y] _ _ _ _ _ _ (by omega) h7 (by simp) (by omega) (by omega)
  | bad i q =>
    rintro ⟨h5,h6⟩ _
    obtain ⟨n,rfl⟩ : ∃ m,n=m+1:=⟨n - 1,by omega⟩
    rw [h6,z1z (r:=.go ([r.X],r.I,true)) rfl]
    exact ⟨_,rfl,h5,rfl⟩
theorem zoN {α:Type} (p:Ps α):Le (fun _=>0) 0 p:=fun i ts=>by
 have h:=zbV p i ts
 revert h
 cases p.run i ts with
 | ok a j r=>rintro ⟨c,_,h⟩; simp only [Fit]; omega
 | bad j r=>exact fun _=>trivial
theorem zmp {α:Type} (one:Ps α):∀ (f:Nat) (l:List α) (c:Nat),l.length≤c→Le List.length c (listP one f l)
 | 0,_,_,_=>zct
 | f+1,l,c,hl=>z6j (fun i=>le_e (z4S hl)) fun t i=>z6d (z4s (z2l (zoN one) fun y=>zmp one f _ _ (by simp; omega))) (le_n (z4S hl))
theorem zmt {α:Type} {one:Ps α} {N j i:Nat} {a:List α} {q:List Tk} (hj:j≤l.length) (h:run' l (one.bind fun y=>listP one N [y]) j = .ok a i q):a.length≤l.length+1:=by
 have h1:Le List.length 1 (one.bind fun y=>listP one N [y]):=z2l (zoN one) fun y=>zmp one N [y] _ (by simp)
 have h2:=h1 j (tks l j)
 have h3:=z2q (l:=l) (one.bind fun y=>listP one N [y]) hj
 rw [h] at h3
 unfold run' at h
 rw [h] at h2
 simp only [Fit] at h2
 omega
theorem zqk {α β γ:Type} (p:Ps α) (k:α→Ps β) (q:β→Ps γ) (j:Nat):run' l (p.bind fun y=>(k y).bind q) j=run' l ((p.bind k).bind q) j:=by rw [z7j]
theorem rless (hl:l.length≤900000) {rec:List Lx→Int→Option zR} {ex:Ps E} {k n N:Nat} (hr:RfE l (k+1) rec ex) (hn:l.length - k+1<n) (hN:l.length - k<N):RfE l k (zeM n rec) (lessP ex (sumP ex N) N):=by
  intro j hk hj
  unfold zeM lessP
  have hs:=rsum hl hr hn hN
  obtain ⟨r,h1,h2⟩:=hs j hk hj
  rw [h1,z1A _ _ hj]
  simp only [ob]
  have he:=z2q (l:=l) (sumP ex N) hj
  revert h2 he
  cases run' l (sumP ex N) j with
  | bad i q=>rintro ⟨h5,h6⟩ _; rw [h6,yK]; exact ⟨_,rfl,h5,h6⟩
  | ok x i q =>
    rintro h2 ⟨h6,h7,_⟩
    have h2' : r=_:=h2
    subst h2'
    dsimp only
    rw [yJ,z1w]
    simp only [zq6,z4F,ob,z5S (j:=i) (by omega),zgZ (j:=i) (by omega),ob_id]
    by_cases ho:0<ordO (tks l i).head?
    · have hlt:i<l.length:=by
        rcases Nat.lt_or_ge i l.length with h | h
        · exact h
        · rw [zdR h] at ho; exact absurd ho (by decide)
      simp only [ho,yQ,yK,yS,z1f _ hlt]
      obtain ⟨r,h3,h4⟩:=hs (i+1) (by omega) hlt
      obtain ⟨r',h8,h9⟩:=zoy (op:=ordO (tks l i).head?) (j:=i) (x:=x) (i0:=(i:Int)) (b0:=false) h4
      simp only [h3,ob,h8]
      refine ⟨r',rfl,?_⟩
      rw [z1A _ _ hlt]
      revert h9
      cases run' l (sumP ex N) (i+1) with
      | ok a i q=>exact id
      | bad i q=>exact id
    · simp only [ho,yP,yJ,yR]
      rcases yG (isK 2 [105,110] (tks l i).head?) with h0 | h0
      · have hlt:=z4I h0
        simp only [wrd,h0,yU,yJ,yS,z1f _ hlt,z3J,ob]
        rw [z1A _ _ hlt]
        unfold needP
        rw [z1w]
        rcases yG (isK 5 [40] (tks l (i+1)).head?) with h3 | h3
        · have hlt2:=z4I h3
          simp only [h3,yU,yJ,yS,z1f _ hlt2,z2w]
          obtain ⟨m,h4,h5⟩:=rexprs (n:=n) (N:=N) (j:=i+1+1) hl hr (by omega) hlt2 (by omega) (by omega)
          rw [zqk,z1A _ _ hlt2]
          have h4' : zbm n rec l ((i+2:Nat):Int)=some m:=h4
          simp only [h4',ob]
          have he:=z2q (l:=l) (ex.bind fun y=>listP ex N [y]) (j:=i+1+1) hlt2
          have hf:=fun a i' q'=>zmt (one:=ex) (N:=N) (i:=i') (a:=a) (q:=q') hlt2
          revert h5 he hf
          cases run' l (ex.bind fun y=>listP ex N [y]) (i+1+1) with
          | bad i' q=>rintro ⟨h5,h6⟩ _ _; rw [h6]; simp only [yK,bJ]; exact ⟨_,rfl,h5,rfl⟩
          | ok a i' q =>
            rintro h5 ⟨_,h8,_⟩ hf
            have hf':=hf a i' q rfl
            have h5' : m=_:=h5
            subst h5'
            dsimp only
            simp only [yJ,z3J,ob,bJ,zfk]
            rw [z1A _ _ h8,z1w]
            rcases yG (isK 5 [41] (tks l i').head?) with h9 | h9
            · have hlt3:=z4I h9
              simp only [h9,yU,yJ,yS,z1f _ hlt3,z2w,z5S (j:=i') (by omega)]
              rw [z1n (by simp; omega)]
              refine ⟨_,rfl,?_⟩
              show _=_
              rw [atE,atEs,zhS]; rfl
            · simp only [h9,yT,yK,yR,yN]
              exact ⟨_,rfl,rfl,rfl⟩
        · simp only [h3,yT,yK,yR,yN]
          exact ⟨_,rfl,rfl,rfl⟩
      · simp only [wrd,h0,yT,yK,yR,yN]
        exact ⟨_,rfl,rfl⟩
theorem rnot (hl:l.length≤900000) {rec:List Lx→Int→Option zR} {ex:Ps E} {N:Nat}:∀ (n f k:Nat),RfE l (k+1) rec ex→l.length - k+2<n→l.length - k<f→l.length - k<N→RfE l k (zbS n rec) (notP (lessP ex (sumP ex N) N) f)
  | 0,_,_,_,h,_,_=>absurd h (yH _)
  | _+1,0,_,_,_,h,_=>absurd h (yH _)
  | n + 1, f + 1, k, hr, hn, hf, hN => by
    intro j hk hj
    show ∃ r,z9O n rec (zbS n rec) l _=_∧_
    unfold z9O notP
    rw [z1w]
    simp only [z4F,ob,z5S (j:=j) (by omega)]
    rcases yG (isK 2 [110,111,116] (tks l j).head?) with h5 | h5
    · have hlt:=z4I h5
      simp only [wrd,h5,yS,yK,z1f _ hlt]
      obtain ⟨r,h6,h7⟩:=rnot (N:=N) hl n f (k+1) (hr.mono (by omega)) (by omega) (by omega) (by omega) (j+1) (by omega) hlt
      obtain ⟨r',h8,h9⟩:=znu (op:=9) (j:=j) h7
      simp only [h6,ob,h8]
      refine ⟨r',rfl,?_⟩
      rw [z1A _ _ hlt]
      revert h9
      cases run' l (notP (lessP ex (sumP ex N) N) f) (j+1) with
      | ok a i q=>exact id
      | bad i q=>exact id
    · simp only [wrd,h5,yR,yJ,yN,ob_id]
      exact rless hl hr (by omega) hN j hk hj
theorem rand (hl:l.length≤900000) {rec:List Lx→Int→Option zR} {ex:Ps E} {k n N:Nat} (hr:RfE l (k+1) rec ex) (hn:l.length - k+2<n) (hN:l.length - k<N):RfE l k (zdi n rec) (conjP ex N):=by
 intro j hk hj
 unfold zdi
 refine rinfix hl (F:=zbS n rec) (op:=andO) (rnot (N:=N) hl n N k hr hn hN hN) rfl ?_ ?_ hk hj (by omega) hN
 ·rintro ⟨⟨o,a,s,az⟩,_,_⟩ j hj rfl rfl
  unfold zgD t6 andO
  simp only [yT,yK,z4F,ob,bJ,z5S (j:=j) (by omega),wrd]
  rcases yG (isK 2 [97,110,100] (tks l j).head?) with h | h
  ·simp only [h,yK,yS,show ¬((21:Int)=0) by decide,yR]
  ·simp only [h,yJ,yS,yR,yN]
 ·rintro ⟨⟨o,a,s,az⟩,i,b⟩ h
  have h' : b=true:=h
  subst h'
  rfl
theorem rexpr (hl:l.length≤900000) {N:Nat}:∀ (n f k:Nat),l.length - k+3<n→l.length - k<f→l.length - k<N→RfE l k (z4O n) (exprP N f)
  | 0,_,_,h,_,_=>absurd h (yH _)
  | _+1,0,_,_,h,_=>absurd h (yH _)
  | n + 1, f + 1, k, hn, hf, hN => by
    have hr:RfE l (k+1) (z4O n) (exprP N f):=by
      by_cases h:k<l.length
      · exact rexpr hl n f (k+1) (by omega) (by omega) (by omega)
      · exact fun j h1 h2=>absurd h2 (by omega)
    intro j hk hj
    show ∃ r,z9g n (z4O n) l _=_∧_
    unfold z9g exprP
    refine rinfix hl (F:=zdi n (z4O n)) (op:=orO) (rand hl hr (by omega) hN) rfl ?_ ?_ hk hj (by omega) hN
    · rintro ⟨⟨o,a,s,az⟩,_,_⟩ j hj rfl rfl
      unfold zfF t6 orO
      simp only [yT,yK,z4F,ob,bJ,z5S (j:=j) (by omega),wrd]
      rcases yG (isK 2 [111,114] (tks l j).head?) with h | h
      · simp only [h,yK,yS,show ¬((22:Int)=0) by decide,yR]
      · simp only [h,yJ,yS,yR,yN]
    · rintro ⟨⟨o,a,s,az⟩,i,b⟩ h
      have h' : b=true:=h
      subst h'
      rfl
end
section
variable {l : List Lx}
def okT {α:Type} (j:Nat) (m:α→St):Out α→z1g→Prop
 | .ok a i _,r=>r=⟨[m a],(i:Int),false⟩
 | .bad i _,r=>r.I=(i:Int)∧r.Bad=true∧r.L.length+j≤i
def okB (l:List Lx) (j:Nat):Out (List St)→z1g→Prop
 | .ok a i _,r=>r=⟨a.map (atS (gA l)),(i:Int),false⟩
 | .bad i _,r=>r.I=(i:Int)∧r.Bad=true∧r.L.length+j≤i
theorem okT.mono {α:Type} {j j' : Nat} {m:α→St} {o:Out α} {r:z1g} (h:okT j m o r) (hj:j'≤j):okT j' m o r:=by
 cases o with
 | ok a i q=>exact h
 | bad i q=>obtain ⟨h1,h2,h3⟩:=h; exact ⟨h1,h2,by omega⟩
def RfB (l:List Lx) (k:Nat) (F:List Lx→Int→Option z1g) (p:Ps (List St)):Prop:=∀ j:Nat,k≤j→j≤l.length→∃ r,F l (j:Int)=some r∧okB l j (run' l p j) r
theorem RfB.mono {k k' : Nat} {F:List Lx→Int→Option z1g} {p:Ps (List St)} (h:RfB l k F p) (hk:k≤k'):RfB l k' F p:=fun j h1 h2=>h j (Nat.le_trans hk h1) h2
theorem zqj {α β:Type} (p:Ps α) (g:α→β) {j:Nat} (hj:j≤l.length):run' l (p.bind fun a=>.ret (g a)) j=mapO g (run' l p j):=by
 rw [z1A _ _ hj]
 have h:=z2q (l:=l) p hj
 revert h
 cases run' l p j with
 | ok a i q=>rintro ⟨_,_,rfl⟩; rfl
 | bad i q=>intro _; rfl
theorem zs0 {α β:Type} {j:Nat} {m:α→St} {m' : β→St} {g:α→β} {o:Out α} {r:z1g} (h:okT j m o r) (e:∀ a,m' (g a)=m a):okT j m' (mapO g o) r:=by
 cases o with
 | ok a i q=>have h' : r=_:=h; show r=_; rw [h',e]
 | bad i q=>exact h
theorem rended {ex:Ps E} {F:List Lx→Int→Option zR} {k j:Nat} (hl:l.length≤900000) (hF:RfE l k F ex) (hk:k≤j) (hj:j≤l.length) (s:zm) :
    ∃ r,(obind (F l (j:Int)) fun x=>zbl l s x)=some r∧okT j (fun x=>(⟨s.Kind,s.At,s.Name,atE (gA l) x,s.Body,s.Else⟩ : St)) (run' l (zgj ex) j) r:=by
  obtain ⟨x,h1,h2⟩:=hF j hk hj
  rw [h1]
  simp only [ob]
  unfold zbl zgj
  rw [z1A _ _ hj]
  have he:=z2q (l:=l) ex hj
  revert h2 he
  cases run' l ex j with
  | bad i q=>rintro ⟨h5,h6⟩ ⟨h7,_⟩; rw [h6]; exact ⟨_,rfl,h5,rfl,by show 0+j≤i; omega⟩
  | ok a i q =>
    rintro h2 ⟨h8,h7,_⟩
    have h2' : x=_:=h2
    subst h2'
    dsimp only
    rw [z1A _ _ h7]
    unfold needP
    rw [z1w]
    simp only [yJ,z3J,ob,bJ]
    rcases yG (isK 5 [59] (tks l i).head?) with h9 | h9
    · have hlt:=z4I h9
      simp only [h9,yU,yJ,yS,z1f _ hlt,z2w,z5S (j:=i) (by omega)]
      exact ⟨_,rfl,rfl⟩
    · simp only [h9,yT,yK,yR,yN]
      exact ⟨_,rfl,rfl,rfl,by show 0+j≤i; omega⟩
theorem zpI (l:List Lx) (s:zm) (x:zR):zbQ l s x=zbl l s x:=rfl
theorem requals {ex:Ps E} {n k j:Nat} (hl:l.length≤900000) (hF:RfE l k (z4O n) ex) (hk:k≤j+1) (hj:j≤l.length) (s:zm) :
  ∃ r,z7M n l s (j:Int)=some r∧okT j (fun x=>(⟨s.Kind,s.At,s.Name,atE (gA l) x,s.Body,s.Else⟩ : St)) (run' l (z9U ex) j) r:=by
 unfold z7M z9U
 rw [z1A _ _ hj]
 unfold needP
 rw [z1w]
 simp only [z3J,ob]
 rcases yG (isK 5 [61] (tks l j).head?) with h9 | h9
 ·have hlt:=z4I h9
  simp only [h9,yU,yJ,yS,z1f _ hlt,z2w,z5S (j:=j) (by omega),ob_id]
  obtain ⟨r,h1,h2⟩:=rended hl hF hk hlt s
  exact ⟨r,h1,h2.mono (by omega)⟩
 ·simp only [h9,yT,yK,yR,yN]
  exact ⟨_,rfl,rfl,rfl,by show 0+j≤j; omega⟩
theorem zgl {α:Type} {p:Ps α} {m:α→St} {g:α→St} {j j' j0:Nat} {r:z1g} (hj:j≤l.length) (h:okT j' m (run' l p j) r) (e:∀ a,atS (gA l) (g a)=m a) (h0:j0≤j'):okT j0 (atS (gA l)) (run' l (p.bind fun a=>.ret (g a)) j) r:=by
 rw [zqj _ _ hj]
 exact (zs0 h e).mono h0
theorem z6o {k:Int} (hk:k≠0) {β:Type} (q:List UInt8→Ps β) {j:Nat} (hj:j≤l.length):run' l ((takeP k).bind q) j=if kindO (tks l j).head? = k then run' l (q (textO (tks l j).head?)) (j+1) else .bad j (tks l j):=by
 rw [z1A _ _ hj]
 unfold takeP
 rw [z1w]
 by_cases h:kindO (tks l j).head? = k
 ·simp only [h,yS,z1f _ (z4V hk h),z2w]
 ·simp only [h,yR,zft]
theorem rset {ex:Ps E} {n k j:Nat} (hl:l.length≤900000) (hF:RfE l k (z4O n) ex) (hk:k≤j+1) (hj:j<l.length) :
    ∃ r, zg6 n l (j : Int) = some r ∧ okT j (atS (gA l)) (run' l (.look fun u _ =>
      if wrd [115,116,97,116,117,115] u then .skip ((z9U ex).bind fun x=>.ret ⟨4,(j:Int),[],x,[],[]⟩)
      else if wrd [104,101,97,100,101,114] u then .skip ((takeP 4).bind fun n=>(z9U ex).bind fun x=>.ret ⟨3,(j:Int),n,x,[],[]⟩)
      else (takeP 1).bind fun n=>(z9U ex).bind fun x=>.ret ⟨2,(j:Int),n,x,[],[]⟩) (j+1)) r:=by
  unfold zg6
  rw [z1w]
  simp only [z5S (j:=j) (by omega),zgZ (j:=j) (by omega),zsZ (j:=j) (by omega),z6e,z4E,zfk,z4F,ob,ob_id,wrd]
  by_cases h1:kindO (tks l (j+1)).head? = 1
  · have hlt:=z4V (by decide) h1
    simp only [h1,yQ,yK,zi4 (k:=2) _ (by rw [h1]; decide),yN,yR]
    rw [z6o (by decide) _ hj,if_pos h1]
    obtain ⟨r,h2,h3⟩:=requals (j:=j+2) hl hF (by omega) hlt ⟨2,gA l (j:Int),textO (tks l (j+1)).head?,⟨0,0,[],[]⟩,[],[]⟩
    exact ⟨r,h2,zgl (j:=j+2) hlt h3 (fun a=>rfl) (by omega)⟩
  simp only [h1,yP,yJ]
  rcases yG (isK 2 [115,116,97,116,117,115] (tks l (j+1)).head?) with h4 | h4
  · have hlt:=z4I h4
    simp only [h4,yK,yS]
    rw [z1f _ hlt]
    obtain ⟨r,h2,h3⟩:=requals (j:=j+2) hl hF (by omega) hlt ⟨4,gA l (j:Int),[],⟨0,0,[],[]⟩,[],[]⟩
    exact ⟨r,h2,zgl (j:=j+2) hlt h3 (fun a=>rfl) (by omega)⟩
  simp only [h4,yJ,yN,yR]
  rcases yG (isK 2 [104,101,97,100,101,114] (tks l (j+1)).head?) with h5 | h5
  · have hlt:=z4I h5
    simp only [h5,yU,yJ,yS]
    rw [z1f _ hlt,z6o (by decide) _ hlt]
    by_cases h6:kindO (tks l (j+1+1)).head? = 4
    · have hlt2:=z4V (by decide) h6
      have h6' : kindO (tks l (j+2)).head? = 4:=h6
      simp only [h6,h6',ne_eq,yV,yP,yJ,yS]
      obtain ⟨r,h2,h3⟩:=requals (j:=j+3) hl hF (by omega) hlt2 ⟨3,gA l (j:Int),textO (tks l (j+2)).head?,⟨0,0,[],[]⟩,[],[]⟩
      exact ⟨r,h2,zgl (j:=j+3) hlt2 h3 (fun a=>rfl) (by omega)⟩
    · have h6' : ¬ kindO (tks l (j+2)).head? = 4:=h6
      simp only [h6,h6',ne_eq,yZ,yQ,yK,yR]
      exact ⟨_,rfl,rfl,rfl,by show 0+j≤j+2; omega⟩
  · simp only [h5,yT,yK,yN,yR]
    rw [z6o (by decide) _ hj,if_neg h1]
    exact ⟨_,rfl,rfl,rfl,by show 0+j≤j+1; omega⟩
theorem zkZ {j:Nat}:zam l (j:Int)=some (if isK 2 [108,111,103] (tks l j).head? then 7 else if isK 2 [100,101,110,121] (tks l j).head? then 8 else if isK 2 [114,101,112,108,121] (tks l j).head? then 9 else 0):=by
 unfold zam
 simp only [z4F,ob]
 rcases yG (isK 2 [108,111,103] (tks l j).head?) with e | e <;> rcases yG (isK 2 [100,101,110,121] (tks l j).head?) with e' | e' <;> rcases yG (isK 2 [114,101,112,108,121] (tks l j).head?) with e'' | e'' <;> simp [e,e',e'']
end
section
variable {l : List Lx}
theorem zua {ex:Ps E} {N f j:Nat} (h:isK 2 [105,102] (tks l j).head? = true):run' l (stmtP ex N (f+1)) j=run' l (ex.bind fun x=>(z4d (stmtP ex N f) N).bind fun b=>.look fun u _=>
   if wrd [101,108,115,101] u then .skip (.look fun v _=>
    if wrd [105,102] v then (stmtP ex N f).bind fun s=>.ret ⟨5,(j:Int),[],x,b,[s]⟩
    else (z4d (stmtP ex N f) N).bind fun e=>.ret ⟨5,(j:Int),[],x,b,e⟩)
   else .ret ⟨5,(j:Int),[],x,b,[]⟩) (j+1):=by
 have hlt:=z4I h
 have h2:kindO (tks l j).head? = 2:=by
  by_cases q:kindO (tks l j).head? = 2
  ·exact q
  ·rw [zi4 _ q] at h; cases h
 have e:textO (tks l j).head? = [105,102]:=by
  rw [zh4 _ (by decide) h2] at h; exact of_decide_eq_true h
 conv=>lhs; unfold stmtP
 rw [z1w]
 have n1:¬ textO (tks l j).head? = [108,101,116]:=by rw [e]; decide
 have n2:¬ textO (tks l j).head? = [115,101,116]:=by rw [e]; decide
 simp only [wrd,zh4 _ (show (2:Int)≠0 by decide) h2,yL n1,yL n2,yM e,yN,yR,yS]
 rw [z1f _ hlt]
theorem zmS (hl:l.length≤900000) {ex:Ps E} {N:Nat} {bl:List Lx→Int→Option z1g} {k0:Nat} (hE:∀ n k,l.length - k+3<n→RfE l k (z4O n) ex) (hB:∀ f k,k0<k→l.length - k<f→RfB l k bl (z4d (stmtP ex N f) N)) :
    ∀ (n f j:Nat),k0≤j→l.length - j+3<n→l.length - j<f→isK 2 [105,102] (tks l j).head? = true→∃ r,zab n bl l (j:Int)=some r∧okT j (atS (gA l)) (run' l (stmtP ex N f) j) r
  | 0,_,_,_,h,_,_=>absurd h (yH _)
  | _+1,0,_,_,_,h,_=>absurd h (yH _)
  | n + 1, f + 1, j, hk, hn, hf, h0 => by
    have hlt:=z4I h0
    rw [zua h0]
    show ∃ r,z7B n bl (zab n bl) l _=_∧_
    unfold z7B
    simp only [z5S (j:=j) (by omega)]
    obtain ⟨x,h1,h2⟩:=hE n (j+1) (by omega) (j+1) (Nat.le_refl _) hlt
    rw [h1,z1A _ _ hlt]
    simp only [ob]
    have he:=z2q (l:=l) ex (j:=j+1) hlt
    revert h2 he
    cases run' l ex (j+1) with
    | bad i q=>rintro ⟨h5,h6⟩ ⟨h7,_⟩; rw [h6]; exact ⟨_,rfl,h5,rfl,by show 0+j≤i; omega⟩
    | ok a i q =>
      rintro h2 ⟨h6,h7,_⟩
      have h2' : x=_:=h2
      subst h2'
      dsimp only
      rw [yJ]
      obtain ⟨b,h8,h9⟩:=hB f (j+1) (by omega) (by omega) i h6 h7
      rw [h8,z1A _ _ h7]
      simp only [ob]
      have he:=z2q (l:=l) (z4d (stmtP ex N f) N) h7
      revert h9 he
      cases run' l (z4d (stmtP ex N f) N) i with
      | bad i q=>rintro ⟨h5,h6,h6'⟩ _; rw [h6,yK]; exact ⟨_,rfl,h5,h6,by omega⟩
      | ok c i2 q =>
        rintro h9 ⟨h10,h11,_⟩
        have h9' : b=_:=h9
        subst h9'
        dsimp only
        rw [yJ,z1w]
        simp only [zfk,z4F,ob,z5S (j:=i2) (by omega)]
        rcases yG (isK 2 [101,108,115,101] (tks l i2).head?) with h12 | h12
        · have hlt2:=z4I h12
          simp only [wrd,h12,yU,yJ,yS,z1f _ hlt2,z1w]
          rcases yG (isK 2 [105,102] (tks l (i2+1)).head?) with h13 | h13
          · simp only [h13,yK,yS]
            obtain ⟨d,h14,h15⟩:=zmS hl hE hB n f (i2+1) (by omega) (by omega) (by omega) h13
            rw [h14,z1A _ _ hlt2]
            simp only [ob,bJ]
            have he:=z2q (l:=l) (stmtP ex N f) (j:=i2+1) hlt2
            revert h15 he
            cases run' l (stmtP ex N f) (i2+1) with
            | bad i q=>rintro ⟨h5,h6,h6'⟩ _; rw [h6]; exact ⟨_,rfl,h5,rfl,by show d.L.length+j≤i; omega⟩
            | ok s i3 q =>
              rintro h15 ⟨h16,h17,_⟩
              have h15' : d=_:=h15
              subst h15'
              dsimp only
              refine ⟨_,rfl,?_⟩
              show _=_
              rw [atS,z6Z,z6Z]; rfl
          · simp only [h13,yJ,yR,yN]
            obtain ⟨d,h14,h15⟩:=hB f (j+1) (by omega) (by omega) (i2+1) (by omega) hlt2
            rw [h14,z1A _ _ hlt2]
            simp only [ob,bJ]
            have he:=z2q (l:=l) (z4d (stmtP ex N f) N) (j:=i2+1) hlt2
            revert h15 he
            cases run' l (z4d (stmtP ex N f) N) (i2+1) with
            | bad i q=>rintro ⟨h5,h6,h6'⟩ _; rw [h6]; exact ⟨_,rfl,h5,rfl,by show d.L.length+j≤i; omega⟩
            | ok s i3 q =>
              rintro h15 ⟨h16,h17,_⟩
              have h15' : d=_:=h15
              subst h15'
              dsimp only
              refine ⟨_,rfl,?_⟩
              show _=_
              rw [atS,z6Z,z6Z]
        · simp only [wrd,h12,yT,yK,yR,yN]
          refine ⟨_,rfl,?_⟩
          show _=_
          rw [atS,z6Z]; rfl
theorem rstmt (hl:l.length≤900000) {ex:Ps E} {N:Nat} {bl:List Lx→Int→Option z1g} {k0:Nat} (hE:∀ n k,l.length - k+3<n→RfE l k (z4O n) ex) (hB:∀ f k,k0<k→l.length - k<f→RfB l k bl (z4d (stmtP ex N f) N))
    {n f j:Nat} (hk:k0≤j) (hj:j≤l.length) (hn:l.length - j+3<n) (hf:l.length - j<f):∃ r,zcX n bl l (j:Int)=some r∧okT j (atS (gA l)) (run' l (stmtP ex N f) j) r:=by
  unfold zcX
  by_cases h2:kindO (tks l j).head? = 2
  rotate_left
  · obtain ⟨f,rfl⟩ : ∃ g,f=g+1:=⟨f - 1,by omega⟩
    unfold stmtP
    rw [z1w]
    simp only [z4F,zkZ,ob,zi4 _ h2,yJ,yN,yR,Int.lt_irrefl,yP,yT,yK,wrd]
    exact ⟨_,rfl,rfl,rfl,by show 0+j≤j; omega⟩
  have hlt:=z4V (by decide) h2
  have hE':=hE n (j+1) (by omega)
  by_cases e3:textO (tks l j).head? = [105,102]
  · have hi:isK 2 [105,102] (tks l j).head? = true:=by rw [zh4 _ (by decide) h2]; exact yM e3
    obtain ⟨r,h3,h4⟩:=zmS hl hE hB n f j hk hn hf hi
    refine ⟨r,?_,h4⟩
    have n1:¬ textO (tks l j).head? = [108,101,116]:=by rw [e3]; decide
    have n2:¬ textO (tks l j).head? = [115,101,116]:=by rw [e3]; decide
    simp only [z4F,ob,zh4 _ (show (2:Int)≠0 by decide) h2,yL n1,yL n2,yM e3,yK,yJ,h3]
  obtain ⟨f,rfl⟩ : ∃ g,f=g+1:=⟨f - 1,by omega⟩
  unfold stmtP
  rw [z1w]
  simp only [z4F,z6e,z4E,zfk,zkZ,ob,ob_id,zh4 _ (show (2:Int)≠0 by decide) h2,wrd,z5S (j:=j) (by omega),zgZ (j:=j) (by omega),zpI]
  by_cases e1:textO (tks l j).head? = [108,101,116]
  · simp only [e1,yQ,yK,yS,z1f _ hlt]
    rw [z6o (by decide) _ hlt]
    by_cases h1:kindO (tks l (j+1)).head? = 1
    · have hlt2:=z4V (by decide) h1
      simp only [h1,ne_eq,yV,yP,yJ,yS]
      obtain ⟨r,h3,h4⟩:=requals (j:=j+2) hl hE' (by omega) hlt2 ⟨1,gA l (j:Int),textO (tks l (j+1)).head?,⟨0,0,[],[]⟩,[],[]⟩
      exact ⟨r,h3,zgl (j:=j+2) hlt2 h4 (fun a=>rfl) (by omega)⟩
    · simp only [h1,ne_eq,yZ,yQ,yK,yR]
      exact ⟨_,rfl,rfl,rfl,by show 0+j≤j+1; omega⟩
  simp only [e1,yP,yJ,yN,yR]
  by_cases e2:textO (tks l j).head? = [115,101,116]
  · simp only [e2,yQ,yK,yS,z1f _ hlt]
    exact rset hl hE' (by omega) hlt
  simp only [e2,e3,yP,yJ,yN,yR]
  by_cases e4:textO (tks l j).head? = [114,101,112,101,97,116]
  · have n1:¬ textO (tks l j).head? = [108,111,103]:=by rw [e4]; decide
    have n2:¬ textO (tks l j).head? = [100,101,110,121]:=by rw [e4]; decide
    have n3:¬ textO (tks l j).head? = [114,101,112,108,121]:=by rw [e4]; decide
    simp only [yL n1,yL n2,yL n3,yM e4,yN,yR,Int.lt_irrefl,yP,yJ,yU,yS,z1f _ hlt]
    rw [z1w,z6o (by decide) _ hlt]
    by_cases h1:kindO (tks l (j+1)).head? = 3
    · have hlt2:=z4V (by decide) h1
      simp only [h1,ne_eq,yV,yP,yJ,yS]
      obtain ⟨b,h3,h4⟩:=hB f (j+1) (by omega) (by omega) (j+2) (by omega) hlt2
      rw [h3,z1A _ _ hlt2]
      simp only [ob]
      have he:=z2q (l:=l) (z4d (stmtP ex N f) N) (j:=j+1+1) hlt2
      revert h4 he
      show okB l (j+2) (run' l (z4d (stmtP ex N f) N) (j+1+1)) b→_
      cases run' l (z4d (stmtP ex N f) N) (j+1+1) with
      | bad i q=>rintro ⟨h5,h6,h6'⟩ _; rw [h6,yK]; exact ⟨_,rfl,h5,h6,by omega⟩
      | ok c i q =>
        rintro h4 ⟨h6,h7,_⟩
        have h4' : b=_:=h4
        subst h4'
        dsimp only
        rw [yJ,zoO (j:=j+1) hl hlt]
        simp only [ob]
        refine ⟨_,rfl,?_⟩
        show _=_
        rw [atS,z6Z]; rfl
    · simp only [h1,ne_eq,yZ,yQ,yK,yR]
      exact ⟨_,rfl,rfl,rfl,by show 0+j≤j+1; omega⟩
  simp only [e4,yP,yN,yR,yT,yK]
  by_cases e5:textO (tks l j).head? = [108,111,103]
  · simp only [e5,yQ,yS,show (0:Int)<7 by decide,yK,z1f _ hlt]
    obtain ⟨r,h3,h4⟩:=rended hl hE' (Nat.le_refl _) hlt ⟨7,gA l (j:Int),[],⟨0,0,[],[]⟩,[],[]⟩
    exact ⟨r,h3,zgl (j:=j+1) hlt h4 (fun a=>rfl) (by omega)⟩
  simp only [e5,yP,yN,yR]
  by_cases e6:textO (tks l j).head? = [100,101,110,121]
  · simp only [e6,yQ,yS,show (0:Int)<8 by decide,yK,z1f _ hlt]
    obtain ⟨r,h3,h4⟩:=rended hl hE' (Nat.le_refl _) hlt ⟨8,gA l (j:Int),[],⟨0,0,[],[]⟩,[],[]⟩
    exact ⟨r,h3,zgl (j:=j+1) hlt h4 (fun a=>rfl) (by omega)⟩
  simp only [e6,yP,yN,yR]
  by_cases e7:textO (tks l j).head? = [114,101,112,108,121]
  · simp only [e7,yQ,yS,show (0:Int)<9 by decide,yK,z1f _ hlt]
    obtain ⟨r,h3,h4⟩:=rended hl hE' (Nat.le_refl _) hlt ⟨9,gA l (j:Int),[],⟨0,0,[],[]⟩,[],[]⟩
    exact ⟨r,h3,zgl (j:=j+1) hlt h4 (fun a=>rfl) (by omega)⟩
  simp only [e7,yP,yN,yR,Int.lt_irrefl,yJ]
  exact ⟨_,rfl,rfl,rfl,by show 0+j≤j; omega⟩
theorem zhA (hl:l.length≤900000) {n0:Nat} {bl:List Lx→Int→Option z1g} {one:Ps St} {k:Nat} (hS:∀ j,k≤j→j≤l.length→∃ r,zcX n0 bl l (j:Int)=some r∧okT j (atS (gA l)) (run' l one j) r) (hp:∀ j,j≤l.length→Fw l j one):∀ (n f j:Nat) (x:List St),k≤j→j≤l.length→x.length+k≤j→l.length - j<n→l.length - j<f→
    ∃ r,bindJ (iter (z8t n0 l bl) n (x.map (atS (gA l)),(j:Int),false)) (fun s=>some (⟨s.1,IntKind.i64.wrap (s.2.1+1),s.2.2⟩ : z1g))=some r∧okB l k (run' l (zby one f x) j) r
  | 0,_,_,_,_,_,_,h,_=>absurd h (yH _)
  | _+1,0,_,_,_,_,_,_,h=>absurd h (yH _)
  | n + 1, f + 1, j, x, hk, hj, hx, hn, hf => by
    unfold zby
    rw [z1w]
    rcases yG (isK 5 [125] (tks l j).head?) with h0 | h0
    · have hlt:=z4I h0
      simp only [sgn,h0,yS]
      rw [z1f _ hlt,z1z (r:=.go (x.map (atS (gA l)),(j:Int),false))]
      · refine ⟨_,rfl,?_⟩
        show _=_
        rw [z5S (j:=j) (by omega)]
      · unfold z8t
        simp only [z3J,h0,ob,yU,yJ]
    · simp only [sgn,h0,yR,yN]
      rw [z1A _ _ hj]
      obtain ⟨r,h1,h2⟩:=hS j hk hj
      have hd:=z2q (l:=l) one hj
      have hq:=hp j hj
      unfold Fw at hq
      revert h2 hd hq
      cases run' l one j with
      | ok y i q =>
        rintro h2 ⟨h6,h7,_⟩ hq
        have h2' : r=_:=h2
        subst h2'
        dsimp only at hq
        rw [z4f (s':=((x++[y]).map (atS (gA l)),(i:Int),false))]
        · exact zhA hl hS hp n f i (x++[y]) (by omega) h7 (by simp; omega) (by omega) (by omega)
        · unfold z8t
          simp only [z3J,h0,ob,yT,yK,h1,yJ]
          rw [z1n (by simp; omega)]
          simp only [List.map_append,yI,List.map_nil]
      | bad i q =>
        rintro ⟨h5,h6,h6'⟩ ⟨_,h7,_⟩ _
        rw [z1z (r:=.stop ⟨x.map (atS (gA l))++r.L,r.I,r.Bad⟩)]
        · exact ⟨_,rfl,h5,h6,by show (x.map (atS (gA l))++r.L).length+k≤i; simp; omega⟩
        · unfold z8t
          simp only [z3J,h0,ob,yT,yK,h1]
          rw [z1n (by simp; omega),h6]
          rfl
theorem rblock (hl:l.length≤900000) {ex:Ps E} {N:Nat} (hE:∀ n k,l.length - k+3<n→RfE l k (z4O n) ex) (hN:l.length<N):∀ (n f k:Nat),l.length - k+4<n→l.length - k<f→RfB l k (z6R n) (z4d (stmtP ex N f) N)
  | 0,_,_,h,_=>absurd h (yH _)
  | n + 1, f, k, hn, hf => by
    intro j hk hj
    show ∃ r,z8u n (z6R n) l _=_∧_
    unfold z8u z4d
    rw [z1A _ _ hj]
    unfold needP
    rw [z1w]
    simp only [z3J,ob]
    rcases yG (isK 5 [123] (tks l j).head?) with h9 | h9
    · have hlt:=z4I h9
      simp only [h9,yU,yJ,yS,z1f _ hlt,z2w,z5S (j:=j) (by omega)]
      have hB:∀ f k',k<k'→l.length - k'<f→RfB l k' (z6R n) (z4d (stmtP ex N f) N):=fun f k' h1 h2=>by
        by_cases h:k'≤l.length
        · exact rblock hl hE hN n f k' (by omega) h2
        · exact fun j h1 h2=>absurd h2 (by omega)
      obtain ⟨r,h1,h2⟩:=zhA (n0:=n) (bl:=z6R n) (one:=stmtP ex N f) (k:=j+1) hl (fun i h1 h2=>rstmt (k0:=k) hl hE hB (by omega) h2 (by omega) (by omega)) (zpb ex N f) n N (j+1) [] (Nat.le_refl _) hlt (by simp) (by omega) (by omega)
      refine ⟨r,h1,?_⟩
      revert h2
      cases run' l (zby (stmtP ex N f) N []) (j+1) with
      | ok a i q=>exact id
      | bad i q=>rintro ⟨h3,h4,h5⟩; exact ⟨h3,h4,by omega⟩
    · simp only [h9,yT,yK,yR,yN]
      exact ⟨_,rfl,rfl,rfl,by show 0+j≤j; omega⟩
end
section
variable {l : List Lx}
theorem zmg {t:List (List UInt8)} (hn:t.Nodup) {i:Nat} (h:i<t.length):t.idxOf t[i]=i:=by
 have h1:t.idxOf t[i]<t.length:=List.idxOf_lt_length_of_mem (List.getElem_mem h)
 have h2:t[t.idxOf t[i]]=t[i]:=List.getElem_idxOf h1
 exact (List.getElem_inj hn).1 h2
theorem zi5 (j:Nat) (inner:Bool) {t:List (List UInt8)} (hn:t.Nodup) (ht:t.length≤1000):∀ (n i:Nat),i≤t.length→t.length - i<n→(∀ q (h:q<i) (h' : q<t.length),t[q]=textO (tks l j).head?→¬(q=0∨inner=decide (11≤q)))→
    bindJ (iter (z4D l (j:Int) inner t) n (i:Int)) (fun _=>some 0)=some (if textO (tks l j).head? ∈ t∧(t.idxOf (textO (tks l j).head?)=0∨inner=decide (11≤t.idxOf (textO (tks l j).head?))) then (t.idxOf (textO (tks l j).head?):Int)+1 else 0)
  | 0,_,_,h,_=>absurd h (yH _)
  | n + 1, i, hi, hm, hq => by
    by_cases h:i<t.length
    · have w:IntKind.i64.wrap ((i:Int)+1)=((i+1:Nat):Int):=z5S (by omega)
      have d12:decide ((12:Int)≤((i+1:Nat):Int))=decide (11≤i):=by rw [decide_eq_decide]; omega
      have d0:decide ((i:Int)=0)=decide (i=0):=by rw [decide_eq_decide]; omega
      by_cases hv:t[i]=textO (tks l j).head?
      · by_cases hc:i=0∨inner=decide (11≤i)
        · have e:=zmg hn h
          rw [hv] at e
          rw [z1z (r:=.stop ((i+1:Nat):Int))]
          · rw [e,if_pos ⟨hv ▸ List.getElem_mem h,hc⟩]; rfl
          · unfold z4D
            simp only [yW,h,yQ,yK,z5t h,z4E,ob,w,d12,d0]
            have:(decide (t[i]=textO (tks l j).head?) && (decide (i=0) || (inner == decide (11≤i))))=true:=by
              rw [yM hv,Bool.true_and]
              rcases hc with hc | hc
              · rw [yM hc]; rfl
              · rw [hc,beq_self_eq_true,Bool.or_true]
            rw [this]; rfl
        · rw [z4f (s':=((i+1:Nat):Int))]
          · refine zi5 j inner hn ht n (i+1) h (by omega) fun q h1 h2 h3=>?_
            rcases Nat.lt_succ_iff_lt_or_eq.1 h1 with h4 | rfl
            · exact hq q h4 h2 h3
            · exact hc
          · unfold z4D
            simp only [yW,h,yQ,yK,z5t h,z4E,ob,w,d12,d0]
            have:(decide (t[i]=textO (tks l j).head?) && (decide (i=0) || (inner == decide (11≤i))))=false:=by
              have h1:¬ i=0:=fun q=>hc (.inl q)
              have h2:(inner == decide (11≤i))=false:=by
                cases hb:(inner == decide (11≤i)) with
                | false=>rfl
                | true=>exact absurd (.inr (eq_of_beq hb)) hc
              rw [h2,yL h1]; simp
            rw [this]; rfl
      · rw [z4f (s':=((i+1:Nat):Int))]
        · refine zi5 j inner hn ht n (i+1) h (by omega) fun q h1 h2 h3=>?_
          rcases Nat.lt_succ_iff_lt_or_eq.1 h1 with h4 | rfl
          · exact hq q h4 h2 h3
          · exact absurd h3 hv
        · unfold z4D
          simp only [yW,h,yQ,yK,z5t h,z4E,ob,w,d12,d0,hv,yP,Bool.false_and,yJ]
    · have e:i=t.length:=by omega
      rw [z1z (r:=.go ())]
      · rw [if_neg]
        · rfl
        · rintro ⟨h1,h2⟩
          have h3:=List.idxOf_lt_length_of_mem h1
          exact hq _ (by omega) h3 (List.getElem_idxOf h3) h2
      · unfold z4D
        simp only [yW,h,yP,yJ]
theorem rkind (inner:Bool) {n:Nat} (hn:17<n) (j:Nat):z8v n l (j:Int) inner=some (z9B inner (tks l j).head?):=by
 unfold z8v z9B
 simp only [z6e,ob]
 by_cases h:kindO (tks l j).head? = 2
 ·have e:z7C=some z5y:=rfl
  simp only [h,ne_eq,yV,yP,yJ,e,ob]
  have:=zi5 (l:=l) j inner (t:=z5y) (by decide) (by decide) n 0 (yX _) (by show 17 - 0<n; omega) (fun q h=>absurd h (yH _))
  refine Eq.trans this ?_
  congr 1
  by_cases hm:textO (tks l j).head? ∈ z5y
  ·have hp:=zfj _ hm
   simp only [hm,true_and,hp]
  ·simp only [hm,false_and,and_false,yR]
 ·simp only [h,ne_eq,yZ,yQ,yK,false_and,yR]
def okC {α:Type} (j:Nat) (m:α→Cl):Out α→z12→Prop
 | .ok a i _,r=>r=⟨[m a],(i:Int),false⟩
 | .bad i _,r=>r.I=(i:Int)∧r.Bad=true∧r.L.length+j≤i
def okL (l:List Lx) (j:Nat):Out (List Cl)→z12→Prop
 | .ok a i _,r=>r=⟨a.map (atC (gA l)),(i:Int),false⟩
 | .bad i _,r=>r.I=(i:Int)∧r.Bad=true∧r.L.length+j≤i
theorem okC.mono {α:Type} {j j' : Nat} {m:α→Cl} {o:Out α} {r:z12} (h:okC j m o r) (hj:j'≤j):okC j' m o r:=by
 cases o with
 | ok a i q=>exact h
 | bad i q=>obtain ⟨h1,h2,h3⟩:=h; exact ⟨h1,h2,by omega⟩
theorem zlX (l:List Lx) (c:zl) (i:Int):z6B l c i=zbk l c i:=rfl
theorem zrs (l:List Lx) (c:zl) (i:Int):zaG l c i=zbk l c i:=rfl
theorem rdone (hl:l.length≤900000) {j:Nat} (hj:j≤l.length) (c:Cl):∃ r,zbk l (atC (gA l) c) (j:Int)=some r∧okC j (atC (gA l)) (run' l (semi c) j) r:=by
 unfold zbk semi
 rw [z1A _ _ hj]
 unfold needP
 rw [z1w]
 simp only [z3J,ob]
 rcases yG (isK 5 [59] (tks l j).head?) with h9 | h9
 ·have hlt:=z4I h9
  simp only [h9,yU,yJ,yS,z1f _ hlt,z2w,z5S (j:=j) (by omega)]
  exact ⟨_,rfl,rfl⟩
 ·simp only [h9,yT,yK,yR,yN]
  exact ⟨_,rfl,rfl,rfl,by show 0+j≤j; omega⟩
theorem rlisted (hl:l.length≤900000) {k:Int} (hk:k≠0) (c:zl):∀ (n f j:Nat) (x:List (List UInt8)),j≤l.length→x.length≤j→l.length - j<n→l.length - j<f→
    ∃ r,iter (z7t l c k) n ((j:Int),x)=some r∧okC j (fun t=>(⟨c.Kind,c.At,c.Name,t,c.Amount,c.Default,c.HasDefault,c.Conds⟩ : Cl)) (run' l ((takeP k).bind fun y=>listP (takeP k) f (x++[y])) j) r
  | 0,_,_,_,_,_,h,_=>absurd h (yH _)
  | _+1,0,_,_,_,_,_,h=>absurd h (yH _)
  | n + 1, f + 1, j, x, hj, hx, hn, hf => by
    rw [z6o hk _ hj]
    by_cases h:kindO (tks l j).head? = k
    · have hlt:=z4V hk h
      rw [if_pos h]
      unfold listP
      rw [z1w]
      rcases yG (isK 5 [44] (tks l (j+1)).head?) with h0 | h0
      · have hlt2:=z4I h0
        simp only [sgn,h0,yS]
        rw [z1f _ hlt2]
        obtain ⟨r,h1,h2⟩:=rlisted hl hk c n f (j+2) (x++[textO (tks l j).head?]) hlt2 (by simp; omega) (by omega) (by omega)
        refine ⟨r,?_,h2.mono (by omega)⟩
        rw [z4f (s':=(((j+2:Nat):Int),x++[textO (tks l j).head?]))]
        · exact h1
        · unfold z7t
          simp only [z6e,h,ne_eq,yV,yP,yJ,z4E,ob,yD,z5S (j:=j) (by omega),z3J,h0,yU,z5S (j:=j+1) (by omega)]
          rw [z1n (by simp; omega),z1n (by simp; omega)]
      · simp only [sgn,h0,yR,yN]
        refine ⟨⟨[⟨c.Kind,c.At,c.Name,x++[textO (tks l j).head?],c.Amount,c.Default,c.HasDefault,c.Conds⟩],((j+1:Nat):Int),false⟩,?_,rfl⟩
        rw [z1z]
        unfold z7t
        simp only [z6e,h,ne_eq,yV,yP,yJ,z4E,ob,yD,z5S (j:=j) (by omega),z3J,h0,yT,yK]
        rw [z1n (by simp; omega),z1n (by simp; omega)]
    · rw [if_neg h,z1z (r:=⟨[],(j:Int),true⟩)]
      · exact ⟨_,rfl,rfl,rfl,by show 0+j≤j; omega⟩
      · unfold z7t
        simp only [z6e,h,ne_eq,yZ,yQ,yK,ob]
theorem rcomma (hl:l.length≤900000) {k:Int} (hk:k≠0) (c:zl) (hc:c.Texts=[]) {n N j:Nat} (hj:j≤l.length) (hn:l.length<n) (hN:l.length<N) :
  ∃ r,zai n l c (j:Int) k=some r∧okC j (fun t=>(⟨c.Kind,c.At,c.Name,t,c.Amount,c.Default,c.HasDefault,c.Conds⟩ : Cl)) (run' l (zdT k N) j) r:=by
 unfold zai
 rw [hc]
 exact rlisted hl hk c n N j [] hj (yX _) (by omega) (by omega)
theorem rwhole (hl:l.length≤900000) {k:Int} (hk:k≠0) (kk i0:Int) {n N j:Nat} (hj:j≤l.length) (hn:l.length<n) (hN:l.length<N) :
    ∃ r,zbt n l ⟨kk,gA l i0,[],[],⟨[],[],0⟩,[],false,[]⟩ (j:Int) k=some r∧okC j (atC (gA l)) (run' l ((zdT k N).bind fun t=>semi ⟨kk,i0,[],t,⟨[],[],-1⟩,[],false,[]⟩) j) r:=by
  unfold zbt
  obtain ⟨r,h1,h2⟩:=rcomma (N:=N) hl hk ⟨kk,gA l i0,[],[],⟨[],[],0⟩,[],false,[]⟩ rfl hj hn hN
  rw [h1,z1A _ _ hj]
  simp only [ob]
  have he:=z2q (l:=l) (zdT k N) hj
  revert h2 he
  cases run' l (zdT k N) j with
  | bad i q=>rintro ⟨h5,h6,h7⟩ _; rw [h6,yK]; exact ⟨_,rfl,h5,h6,h7⟩
  | ok t i q =>
    rintro h2 ⟨h6,h7,_⟩
    have h2' : r=_:=h2
    subst h2'
    dsimp only
    rw [yJ,show (0:Int)=((0:Nat):Int) from rfl,z4e (x:=(⟨kk,gA l i0,[],t,⟨[],[],0⟩,[],false,[]⟩ : Cl)) rfl,zlX,ob_id]
    obtain ⟨r,h3,h4⟩:=rdone hl h7 ⟨kk,i0,[],t,⟨[],[],-1⟩,[],false,[]⟩
    exact ⟨r,h3,h4.mono h6⟩
theorem rvary (hl:l.length≤900000) (kk i0:Int) {n N j:Nat} (hj:j≤l.length) (hn:l.length<n) (hN:l.length<N) :
    ∃ r,zeT n l ⟨kk,gA l i0,[],[],⟨[],[],0⟩,[],false,[]⟩ (j:Int)=some r∧okC j (atC (gA l)) (run' l ((varyP kk i0 N).bind semi) j) r:=by
  unfold zeT
  rw [zgV,z6o (by decide) _ hj]
  simp only [z6e,z4E,z4F,ob,ob_id,z5S (j:=j) (by omega),zgZ (j:=j) (by omega),zlX]
  by_cases h:kindO (tks l j).head? = 4
  · have hlt:=z4V (by decide) h
    simp only [h,ne_eq,yV,yP,yJ,yS]
    rw [z1A _ _ hlt]
    unfold needP
    rw [z1w]
    rcases yG (isK 2 [105,110] (tks l (j+1)).head?) with h0 | h0
    · have hlt2:=z4I h0
      simp only [h0,yU,yJ,yS,z1f _ hlt2,z2w]
      obtain ⟨r,h1,h2⟩:=rcomma (N:=N) (k:=4) (j:=j+2) hl (by decide) ⟨kk,gA l i0,textO (tks l j).head?,[],⟨[],[],0⟩,[],false,[]⟩ rfl hlt2 hn hN
      rw [h1,z1A _ _ hlt2]
      simp only [ob]
      have he:=z2q (l:=l) (zdT 4 N) (j:=j+1+1) hlt2
      revert h2 he
      show okC (j+2) _ (run' l (zdT 4 N) (j+1+1)) r→_
      cases run' l (zdT 4 N) (j+1+1) with
      | bad i q=>rintro ⟨h5,h6,h7⟩ _; rw [h6,yK]; exact ⟨_,rfl,h5,h6,by omega⟩
      | ok t i q =>
        rintro h2 ⟨h6,h7,_⟩
        have h2' : r=_:=h2
        subst h2'
        dsimp only
        rw [yJ,show (0:Int)=((0:Nat):Int) from rfl,z4e (x:=(⟨kk,gA l i0,textO (tks l j).head?,t,⟨[],[],0⟩,[],false,[]⟩ : Cl)) rfl,z1w]
        simp only [z4F,z6e,z4E,ob,z5S (j:=i) (by omega),zgZ (j:=i) (by omega)]
        rcases yG (isK 2 [100,101,102,97,117,108,116] (tks l i).head?) with h8 | h8
        · have hlt3:=z4I h8
          simp only [wrd,h8,yU,yJ,yS]
          rw [z1f _ hlt3,z6o (by decide) _ hlt3]
          by_cases h9:kindO (tks l (i+1)).head? = 4
          · have hlt4:=z4V (by decide) h9
            simp only [h9,ne_eq,yV,yP,yJ,yS]
            obtain ⟨r,h3,h4⟩:=rdone (j:=i+2) hl hlt4 ⟨kk,i0,textO (tks l j).head?,t,⟨[],[],-1⟩,textO (tks l (i+1)).head?,true,[]⟩
            exact ⟨r,h3,h4.mono (by omega)⟩
          · simp only [h9,ne_eq,yZ,yQ,yK,yR]
            exact ⟨_,rfl,rfl,rfl,by show 0+j≤i+1; omega⟩
        · simp only [wrd,h8,yT,yK,yR,yN]
          obtain ⟨r,h3,h4⟩:=rdone hl h7 ⟨kk,i0,textO (tks l j).head?,t,⟨[],[],-1⟩,[],false,[]⟩
          exact ⟨r,h3,h4.mono (by omega)⟩
    · simp only [h0,yT,yK,yR,yN]
      exact ⟨_,rfl,rfl,rfl,by show 0+j≤j+1; omega⟩
  · simp only [h,ne_eq,yZ,yQ,yK,yR]
    exact ⟨_,rfl,rfl,rfl,by show 0+j≤j; omega⟩
theorem ramount (hl:l.length≤900000) (kk i0:Int) {j:Nat} (hj:j≤l.length) :
  ∃ r,zbM l ⟨kk,gA l i0,[],[],⟨[],[],0⟩,[],false,[]⟩ (j:Int) (decide (kk≠17))=some r∧okC j (atC (gA l)) (run' l ((zgg kk).bind fun a=>semi ⟨kk,i0,[],[],a,[],false,[]⟩) j) r:=by
 unfold zbM zgg
 have e:(Ps.look fun _ j=>(takeP 3).bind fun d=>.look fun u _=>if kindO u=1∧kk≠17 then .skip (.ret (⟨d,textO u,j⟩ : z1r)) else .ret ⟨d,[],j⟩).bind (fun a=>semi ⟨kk,i0,[],[],a,[],false,[]⟩)
   = Ps.look fun _ j=>(takeP 3).bind fun d=>.look fun u _=>if kindO u=1∧kk≠17 then .skip (semi ⟨kk,i0,[],[],⟨d,textO u,j⟩,[],false,[]⟩) else semi ⟨kk,i0,[],[],⟨d,[],j⟩,[],false,[]⟩:=by
  refine congrArg Ps.look (funext fun _=>funext fun i=>(z7j _ _ _).trans (congrArg _ (funext fun d=>congrArg Ps.look (funext fun u=>funext fun _=>?_))))
  dsimp only
  split <;> rfl
 rw [e,z1w,z6o (by decide) _ hj]
 simp only [z6e,z4E,zfk,ob,ob_id,z5S (j:=j) (by omega),zgZ (j:=j) (by omega),zlX]
 by_cases h:kindO (tks l j).head? = 3
 ·have hlt:=z4V (by decide) h
  simp only [h,ne_eq,yV,yP,yJ,yS]
  rw [z1w]
  by_cases h1:kk=17
  ·have h2:¬(kindO (tks l (j+1)).head? = 1∧¬kk=17):=fun q=>q.2 h1
   simp only [h1,yV,yP,yJ,bJ,and_false,yR]
   obtain ⟨r,h3,h4⟩:=rdone (j:=j+1) hl hlt ⟨17,i0,[],[],⟨textO (tks l j).head?,[],(j:Int)⟩,[],false,[]⟩
   exact ⟨r,h3,h4.mono (by omega)⟩
  ·simp only [h1,yZ,yQ,yK,bJ,and_true]
   by_cases h2:kindO (tks l (j+1)).head? = 1
   ·have hlt2:=z4V (by decide) h2
    simp only [h2,yQ,yK,yS]
    rw [z1f _ hlt2]
    obtain ⟨r,h3,h4⟩:=rdone (j:=j+2) hl hlt2 ⟨kk,i0,[],[],⟨textO (tks l j).head?,textO (tks l (j+1)).head?,(j:Int)⟩,[],false,[]⟩
    exact ⟨r,h3,h4.mono (by omega)⟩
   ·simp only [h2,yP,yJ,yR]
    obtain ⟨r,h3,h4⟩:=rdone (j:=j+1) hl hlt ⟨kk,i0,[],[],⟨textO (tks l j).head?,[],(j:Int)⟩,[],false,[]⟩
    exact ⟨r,h3,h4.mono (by omega)⟩
 ·simp only [h,ne_eq,yZ,yQ,yK,yR]
  exact ⟨_,rfl,rfl,rfl,by show 0+j≤j; omega⟩
end
variable {l : List Lx}
def RfL (l:List Lx) (k:Nat) (F:List Lx→Int→Option z12) (p:Ps (List Cl)):Prop:=∀ j:Nat,k≤j→j≤l.length→∃ r,F l (j:Int)=some r∧okL l j (run' l p j) r
theorem rclause (hl:l.length≤900000) {rec:List Lx→Int→Bool→Option z12} {conds:Ps (List Cl)} {n N:Nat} {inner:Bool} (h17:17<n) (hn:l.length<n) (hN:l.length<N) (hr:inner=false→RfL l 0 (fun l i=>rec l i true) conds) {j:Nat} (hj:j≤l.length) :
    ∃ r,zac n rec l (j:Int) inner=some r∧okC j (atC (gA l)) (run' l (zb7 N inner conds) j) r:=by
  unfold zac zb7
  rw [z1w]
  simp only [rkind inner h17 j,zfk,z6e,z4E,ob,ob_id,z5S (j:=j) (by omega),zgZ (j:=j) (by omega),zrs]
  obtain ⟨c,hc⟩ : ∃ c,c=z9B inner (tks l j).head?:=⟨_,rfl⟩
  rw [← hc]
  by_cases h0:c=0
  · simp only [h0,yQ,yK,yS]
    exact ⟨_,rfl,rfl,rfl,by show 0+j≤j; omega⟩
  obtain ⟨_,h2⟩:=(zfa inner (tks l j).head? rfl).2 (by rw [← hc]; exact h0)
  have hlt:=z4V (by decide) h2
  simp only [h0,yP,yJ,yR]
  rw [z1f _ hlt]
  by_cases c1:c=1
  · simp only [c1,yQ,yK,yS]
    rw [z6o (by decide) _ hlt]
    by_cases h:kindO (tks l (j+1)).head? = 4
    · have hlt2:=z4V (by decide) h
      simp only [h,ne_eq,yV,yP,yJ,yS]
      obtain ⟨r,h3,h4⟩:=rdone (j:=j+2) hl hlt2 ⟨1,j,[],[textO (tks l (j+1)).head?],⟨[],[],-1⟩,[],false,[]⟩
      exact ⟨r,h3,h4.mono (by omega)⟩
    · simp only [h,ne_eq,yZ,yQ,yK,yR]
      exact ⟨_,rfl,rfl,rfl,by show 0+j≤j+1; omega⟩
  by_cases c2:c=2∨c=14∨c=15
  · have hb:(bindJ (S:=Bool) (R:=z12) (cond (decide (c=2)) (some (.go (decide (c=2)))) (cond (decide (c=14)) (some (.go (decide (c=14)))) (some (.go (decide (c=15)))))))=fun K=>K true:=by
      funext K
      by_cases d1:c=2
      · simp [d1,bJ]
      · by_cases d2:c=14
        · simp [d2,bJ]
        · have d3:c=15:=c2.elim (fun q=>absurd q d1) fun q=>q.elim (fun q=>absurd q d2) id
          simp [d3,bJ]
    simp only [c1,c2,hb,yP,yJ,yR,yS,yK]
    obtain ⟨r,h3,h4⟩:=rwhole (k:=4) (N:=N) (j:=j+1) hl (by decide) c (j:Int) hlt hn hN
    exact ⟨r,h3,h4.mono (by omega)⟩
  obtain ⟨d1,d2,d3⟩ : c≠2∧c≠14∧c≠15:=⟨fun q=>c2 (.inl q),fun q=>c2 (.inr (.inl q)),fun q=>c2 (.inr (.inr q))⟩
  simp only [c1,d1,d2,d3,yP,yJ,yR,bJ,or_self]
  by_cases c3:c=16
  · simp only [c3,yQ,yK,yS]
    obtain ⟨r,h3,h4⟩:=rwhole (k:=3) (N:=N) (j:=j+1) hl (by decide) 16 (j:Int) hlt hn hN
    exact ⟨r,h3,h4.mono (by omega)⟩
  simp only [c3,yP,yJ,yR]
  by_cases c4:c=8
  · simp only [c4,yQ,yK,yS]
    rw [← zgV]
    obtain ⟨r,h3,h4⟩:=rvary (N:=N) (j:=j+1) hl 8 (j:Int) hlt hn hN
    exact ⟨r,h3,h4.mono (by omega)⟩
  simp only [c4,yP,yJ,yR]
  by_cases c7:c=10
  · simp only [c7,yQ,yK,yS,show ¬((10:Int)=11) by decide,show ¬((10:Int)=9) by decide,yR]
    obtain ⟨r,h3,h4⟩:=rdone (j:=j+1) hl hlt ⟨10,j,[],[],⟨[],[],-1⟩,[],false,[]⟩
    exact ⟨r,h3,h4.mono (by omega)⟩
  simp only [c7,yP,yJ,yR]
  by_cases c5:c=11
  · simp only [c5,yQ,yK,yS]
    rw [z6o (by decide) _ hlt]
    by_cases h:kindO (tks l (j+1)).head? = 1
    · have hlt2:=z4V (by decide) h
      simp only [h,ne_eq,yV,yP,yJ,yS]
      obtain ⟨r,h3,h4⟩:=rdone (j:=j+2) hl hlt2 ⟨11,j,textO (tks l (j+1)).head?,[],⟨[],[],-1⟩,[],false,[]⟩
      exact ⟨r,h3,h4.mono (by omega)⟩
    · simp only [h,ne_eq,yZ,yQ,yK,yR]
      exact ⟨_,rfl,rfl,rfl,by show 0+j≤j+1; omega⟩
  simp only [c5,yP,yJ,yR]
  by_cases c6:c=9
  · simp only [c6,yQ,yK,yS]
    obtain ⟨r,h3,h4⟩:=hr (zho inner _ (hc.symm.trans c6)) (j+1) (yX _) hlt
    have h3' : rec l ((j+1:Nat):Int) true=some r:=h3
    rw [h3',z1A _ _ hlt]
    have he:=z2q (l:=l) conds (j:=j+1) hlt
    revert h4 he
    cases run' l conds (j+1) with
    | bad i q=>rintro ⟨h5,h6,h7⟩ ⟨h8,_⟩; exact ⟨_,rfl,h5,h6,by show 1+j≤i; omega⟩
    | ok t i q =>
      rintro h4 ⟨h6,h7,_⟩
      have h4' : r=_:=h4
      subst h4'
      refine ⟨_,rfl,?_⟩
      show _=_
      rw [atC,zdS]; rfl
  simp only [c6,yP,yJ,yR]
  obtain ⟨r,h3,h4⟩:=ramount (j:=j+1) hl c (j:Int) hlt
  exact ⟨r,h3,h4.mono (by omega)⟩
theorem zgy (hl:l.length≤900000) {n0:Nat} {inner:Bool} {rec:List Lx→Int→Bool→Option z12} {one:Ps Cl} {k:Nat} (hS:∀ j,j≤l.length→∃ r,zac n0 rec l (j:Int) inner=some r∧okC j (atC (gA l)) (run' l one j) r) (hp:∀ j,j≤l.length→Fw l j one):∀ (n f j:Nat) (x:List Cl),k≤j→j≤l.length→x.length+k≤j→l.length - j<n→l.length - j<f→
    ∃ r,bindJ (iter (z6z n0 l inner rec) n (x.map (atC (gA l)),(j:Int),false)) (fun s=>some (⟨s.1,IntKind.i64.wrap (s.2.1+1),s.2.2⟩ : z12))=some r∧okL l k (run' l (zby one f x) j) r
  | 0,_,_,_,_,_,_,h,_=>absurd h (yH _)
  | _+1,0,_,_,_,_,_,_,h=>absurd h (yH _)
  | n + 1, f + 1, j, x, hk, hj, hx, hn, hf => by
    unfold zby
    rw [z1w]
    rcases yG (isK 5 [125] (tks l j).head?) with h0 | h0
    · have hlt:=z4I h0
      simp only [sgn,h0,yS]
      rw [z1f _ hlt,z1z (r:=.go (x.map (atC (gA l)),(j:Int),false))]
      · refine ⟨_,rfl,?_⟩
        show _=_
        rw [z5S (j:=j) (by omega)]
      · unfold z6z
        simp only [z3J,h0,ob,yU,yJ]
    · simp only [sgn,h0,yR,yN]
      rw [z1A _ _ hj]
      obtain ⟨r,h1,h2⟩:=hS j hj
      have hd:=z2q (l:=l) one hj
      have hq:=hp j hj
      unfold Fw at hq
      revert h2 hd hq
      cases run' l one j with
      | ok y i q =>
        rintro h2 ⟨h6,h7,_⟩ hq
        have h2' : r=_:=h2
        subst h2'
        dsimp only at hq
        rw [z4f (s':=((x++[y]).map (atC (gA l)),(i:Int),false))]
        · exact zgy hl hS hp n f i (x++[y]) (by omega) h7 (by simp; omega) (by omega) (by omega)
        · unfold z6z
          simp only [z3J,h0,ob,yT,yK,h1,yJ]
          rw [z1n (by simp; omega)]
          simp only [List.map_append,yI,List.map_nil]
      | bad i q =>
        rintro ⟨h5,h6,h6'⟩ ⟨_,h7,_⟩ _
        rw [z1z (r:=.stop ⟨x.map (atC (gA l))++r.L,r.I,r.Bad⟩)]
        · exact ⟨_,rfl,h5,h6,by show (x.map (atC (gA l))++r.L).length+k≤i; simp; omega⟩
        · unfold z6z
          simp only [z3J,h0,ob,yT,yK,h1]
          rw [z1n (by simp; omega),h6]
          rfl
theorem rbraces (hl:l.length≤900000) {inner:Bool} {rec:List Lx→Int→Bool→Option z12} {conds:Ps (List Cl)} {n N:Nat} (h17:17<n) (hn:l.length<n) (hN:l.length<N) (hr:inner=false→RfL l 0 (fun l i=>rec l i true) conds):RfL l 0 (fun l i=>z5G n rec l i inner) (z4d (zb7 N inner conds) N):=by
 intro j _ hj
 show ∃ r,z5G n rec l (j:Int) inner=some r∧_
 unfold z5G z4d
 rw [z1A _ _ hj]
 unfold needP
 rw [z1w]
 simp only [z3J,ob]
 rcases yG (isK 5 [123] (tks l j).head?) with h9 | h9
 ·have hlt:=z4I h9
  simp only [h9,yU,yJ,yS,z1f _ hlt,z2w,z5S (j:=j) (by omega)]
  obtain ⟨r,h1,h2⟩:=zgy (n0:=n) (inner:=inner) (rec:=rec) (one:=zb7 N inner conds) (k:=j+1) hl (fun i h2=>rclause hl h17 hn hN hr h2) (zhW N inner conds) n N (j+1) [] (Nat.le_refl _) hlt (by simp) (by omega) (by omega)
  refine ⟨r,h1,?_⟩
  revert h2
  cases run' l (zby (zb7 N inner conds) N []) (j+1) with
  | ok a i q=>exact id
  | bad i q=>rintro ⟨h3,h4,h5⟩; exact ⟨h3,h4,by omega⟩
 ·simp only [h9,yT,yK,yR,yN]
  exact ⟨_,rfl,rfl,rfl,by show 0+j≤j; omega⟩
theorem rclauses (hl:l.length≤900000) {n N:Nat} (h17:17<n) (hn:l.length<n) (hN:l.length<N):RfL l 0 (fun l i=>z6y (n+2) l i false) (zaP N):=
 rbraces (n:=n+1) (rec:=z6y (n+1)) hl (by omega) (by omega) hN fun _=>rbraces (n:=n) (rec:=z6y n) hl h17 hn hN fun h=>absurd h (by decide)
end Go.Proofs.YtcmaoifiiigggaaGreatDoor
