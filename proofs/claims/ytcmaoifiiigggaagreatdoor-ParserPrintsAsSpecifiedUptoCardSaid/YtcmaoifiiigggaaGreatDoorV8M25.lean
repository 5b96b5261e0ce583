/-
  Texts that stand side by side: LPg, LPh.
-/
import Derived.Test.YtcmaoifiiigggaaGreatDoorV8M21
import Derived.Test.YtcmaoifiiigggaaGreatDoorV8G3b
set_option linter.unusedSimpArgs false
set_option linter.unusedVariables false
namespace Go.Proofs.YtcmaoifiiigggaaGreatDoor
open Go.Abs Go.Lex
theorem zis (b:UInt8):zbf (b.toNat:Int)=some (sm b):=zka b
theorem zif (b:UInt8):zbd (b.toNat:Int)=some (dg b):=zhX b
theorem zqg (b:UInt8):zez (b.toNat:Int)=some (rst b):=by
 unfold zez
 rw [zis,zif]
 simp only [obind,yO]
 rw [z61 b 95 95 rfl]
 unfold rst
 cases sm b <;> simp [z1N]
theorem zmV (b:UInt8) (h:dg b=false):za4 (b.toNat:Int)=some (ltr b):=by
 unfold za4
 rw [zis]
 simp only [obind,yO,Option.some.injEq]
 rw [z61 b 95 95 rfl]
 have:(decide ((65:Int)≤(b.toNat:Int)) && decide ((b.toNat:Int)≤90))=(decide (65≤b.toNat) && decide (b.toNat≤90)):=by
  rw [Bool.eq_iff_iff]; simp only [Bool.and_eq_true,decide_eq_true_eq]; omega
 rw [this]
 unfold ltr rst
 rw [h]
 cases sm b <;> cases decide (b=95) <;> simp
theorem zmX (s:List UInt8) (hs:s.length≤1000000) (a:Nat) (ha:a≤s.length) (n:Nat) (hn:s.length+1<n) :
    zbe n s (a:Int)=some ((s.length - (skipP false (s.drop a)).length:Nat):Int):=by
  unfold zbe
  obtain ⟨r,e,h⟩:=z71 (step:=zcC n s) (fun x=>∃ i:Nat,x=(i:Int)∧i≤s.length∧skipP false (s.drop i)=skipP false (s.drop a)) (fun x=>s.length - x.toNat)
    (fun r=>r = .go ((s.length - (skipP false (s.drop a)).length:Nat):Int)∨r = .stop ((s.length - (skipP false (s.drop a)).length:Nat):Int)) (by
    rintro x ⟨i,rfl,hi,hk⟩
    unfold zcC
    by_cases hlt:i<s.length
    · have hc:=z4Q hlt
      rw [hc,zav] at hk
      rw [yM (by omega),yK,z2v hlt,z61 s[i] 35 35 rfl]
      by_cases h35:s[i]=35
      · rw [yM h35,yK]
        rw [if_pos h35] at hk
        rw [zc0 (fun b=>!decide (b=10)) s hs (zaD s) (fun j hj=>by
          unfold zaD
          rw [yM (by omega),yK,z2v hj]
          simp only [z1N]
          rw [show decide ((s[j].toNat:Int)≠10) = !decide (s[j]=10) by rw [← z61 s[j] 10 10 rfl]; simp,w64 (by omega) (by omega)]
          cases decide (s[j]=10) <;> rfl) (by
          unfold zaD
          rw [yL (by omega),yJ,z1N,yJ]) i hi n (by omega),z1N]
        obtain ⟨g1,g2,g3⟩:=z8M (s:=s) (p:=fun b=>!decide (b=10)) hi
        have hpos:0<((s.drop i).takeWhile fun b=>!decide (b=10)).length:=by
          rw [hc,List.takeWhile_cons_of_pos (by simp [h35])]; simp
        refine .inl ⟨_,rfl,⟨_,rfl,g3,?_⟩,by (try simp only); omega⟩
        rw [g2,← hk,hc,List.dropWhile_cons_of_pos (by simp [h35]),← zk9]
      · rw [yL h35,yJ]
        rw [if_neg h35] at hk
        have hsp:∀ {R:Type} (k:Bool→Option R),(idx s (i:Int) fun c32=>bindJ (S:=Bool) (cond (decide ((c32.toNat:Int)≠32)) (idx s (i:Int) fun c39=>some (.go (decide ((c39.toNat:Int)≠9)))) (some (.go false)))
            (fun b33=>bindJ (S:=Bool) (cond b33 (idx s (i:Int) fun c46=>some (.go (decide ((c46.toNat:Int)≠10)))) (some (.go false)))
            (fun b40=>bindJ (S:=Bool) (cond b40 (idx s (i:Int) fun c53=>some (.go (decide ((c53.toNat:Int)≠13)))) (some (.go false))) k)))=k (!spc s[i]):=by
          intro R k
          have q:∀ c:UInt8,∀ m:Int,(c.toNat:Int)=m→decide ((s[i].toNat:Int)≠m) = !decide (s[i]=c):=fun c m h=>by rw [← z61 s[i] c m h]; simp
          rw [z2v hlt,q 32 32 rfl]
          unfold spc
          cases decide (s[i]=32) with
          | true=>simp only [yU,yJ,z1N,Bool.true_or]
          | false =>
            simp only [yT,yK,Bool.false_or]
            rw [z2v hlt,q 9 9 rfl,z1N]
            cases decide (s[i]=9) with
            | true=>simp only [yU,yJ,z1N,Bool.true_or]
            | false =>
              simp only [yT,yK,Bool.false_or]
              rw [z2v hlt,q 10 10 rfl,z1N]
              cases decide (s[i]=10) with
              | true=>simp only [yU,yJ,z1N,Bool.true_or]
              | false =>
                simp only [yT,yK,Bool.false_or]
                rw [z2v hlt,q 13 13 rfl,z1N]
        rw [hsp]
        cases hb:spc s[i] with
        | true =>
          rw [hb,if_pos rfl] at hk
          rw [yU,yJ,w64 (by omega) (by omega)]
          exact .inl ⟨((i+1:Nat):Int),rfl,⟨i+1,rfl,by omega,hk⟩,by simp; omega⟩
        | false =>
          rw [hb] at hk
          simp only [yN,yR] at hk
          rw [yT,yK]
          refine .inr ⟨_,rfl,.inr ?_⟩
          rw [← hk]
          simp only [Lp.stop.injEq,yC,List.length_drop]
          omega
    · rw [yL (by omega),yJ]
      have:s.drop i=[]:=List.drop_eq_nil_of_le (by omega)
      rw [this] at hk
      refine .inr ⟨_,rfl,.inl ?_⟩
      rw [← hk]
      simp only [skipP,Lp.go.injEq,yF]
      omega) n (a:Int) ⟨a,rfl,ha,rfl⟩ (by simp; omega)
  rw [e]
  rcases h with rfl | rfl
  · rfl
  · rfl
theorem zql (v:List UInt8) (n:Nat) (hn:100<n):zew n v=some (decide (v∈kwP)):=by
 unfold zew
 rw [show zfm=some kwP from rfl]
 simp only [obind,yO]
 have hk:kwP.length=39:=(by decide +kernel)
 obtain ⟨r,e,h⟩:=z71 (step:=zcA v kwP) (fun x=>∃ i:Nat,x=(i:Int)∧i≤kwP.length∧∀ j (h:j<kwP.length),j<i→kwP[j]≠v) (fun x=>kwP.length - x.toNat)
  (fun r=>(r = .go ()∧v ∉ kwP)∨(r = .stop true∧v∈kwP)) (by
  rintro x ⟨i,rfl,hi,hj⟩
  unfold zcA
  by_cases hlt:i<kwP.length
  ·rw [yM (by omega),yK,z2v hlt]
   by_cases hv:kwP[i]=v
   ·rw [yM hv,yK]
    exact .inr ⟨_,rfl,.inr ⟨rfl,hv ▸ List.getElem_mem hlt⟩⟩
   ·rw [yL hv,yJ,w64 (by omega) (by omega)]
    refine .inl ⟨((i+1:Nat):Int),rfl,⟨i+1,rfl,by omega,fun j a b=>?_⟩,by simp; omega⟩
    by_cases e:j=i
    ·subst e; exact hv
    ·exact hj j a (by omega)
  ·rw [yL (by omega),yJ]
   refine .inr ⟨_,rfl,.inl ⟨rfl,fun hv=>?_⟩⟩
   obtain ⟨j,a,e⟩:=List.getElem_of_mem hv
   exact hj j a (by omega) e) n 0 ⟨0,rfl,by omega,fun j a b=>by omega⟩ (by simp; omega)
 rw [e]
 rcases h with ⟨rfl,h⟩ | ⟨rfl,h⟩
 ·rw [yL h]; rfl
 ·rw [yM h]; rfl
def gotP (s:List UInt8) (a:Nat):Sum Int (Int×List UInt8×List UInt8)→z1O
 | .inl e=>⟨⟨0,0,[]⟩,0,e⟩
 | .inr (k,w,r)=>⟨⟨k,(a:Int),w⟩,((s.length - r.length:Nat):Int),0⟩
theorem zqe (s:List UInt8) (hs:s.length≤1000000) (a:Nat) (ha:a≤s.length) (n:Nat) (hn:s.length+100<n):zex n s (a:Int)=some (gotP s a (namP kwP (s.drop a))):=by
 unfold zex namP
 rw [zc0 rst s hs (zaC s) (fun i h=>by
  unfold zaC
  rw [yM (by omega),yK,z2v h,zqg]
  simp only [obind,yO,z1N]
  rw [w64 (by omega) (by omega)]
  cases rst s[i] <;> rfl) (by
  unfold zaC
  rw [yL (by omega),yJ,z1N,yJ]) a ha n (by omega),z1N]
 obtain ⟨h1,h2,h3⟩:=z8M (s:=s) (p:=rst) ha
 have hl:=congrArg List.length h2
 rw [List.length_drop] at hl
 have hat:((a+((s.drop a).takeWhile rst).length:Nat):Int)=((s.length - ((s.drop a).dropWhile rst).length:Nat):Int):=by omega
 rw [z1n (by omega),yY,yY,h1,zql _ n (by omega),hat]
 simp only [obind,yO]
 by_cases hw:(s.drop a).takeWhile rst∈kwP
 ·rw [yM hw,yK,if_pos hw]
  rfl
 ·rw [yL hw,yJ,if_neg hw]
  by_cases h40:40<((s.drop a).takeWhile rst).length
  ·rw [yM (by omega),yK,if_pos h40]
   rfl
  ·rw [yL (by omega),yJ,if_neg h40]
   rfl
theorem zmW (s:List UInt8) (hs:s.length≤1000000) (a:Nat) (ha:a<s.length) (hd:dg s[a]=true) (n:Nat) (hn:s.length+100<n):zbJ n s (a:Int)=some (gotP s a (numP (s.drop a))):=by
  unfold zbJ numP
  rw [zc0 dg s hs (z9e s) (fun i h=>by
    unfold z9e
    rw [yM (by omega),yK,z2v h,zif]
    simp only [obind,yO,z1N]
    rw [w64 (by omega) (by omega)]
    cases dg s[i] <;> rfl) (by
    unfold z9e
    rw [yL (by omega),yJ,z1N,yJ]) a (by omega) n (by omega),z1N]
  obtain ⟨h1,h2,h3⟩:=z8M (s:=s) (p:=dg) (show a≤s.length by omega)
  have hl:=congrArg List.length h2
  rw [List.length_drop] at hl
  have htw:(s.drop a).takeWhile dg=s[a]::(s.drop (a+1)).takeWhile dg:=by rw [z4Q ha,List.takeWhile_cons_of_pos hd]
  have hsub:IntKind.i64.wrap (((a+((s.drop a).takeWhile dg).length:Nat):Int) - (a:Int))=(((s.drop a).takeWhile dg).length:Int):=by rw [w64 (by omega) (by omega)]; omega
  rw [hsub]
  have hfirst:∀ {R:Type} (k:Bool→Option R),bindJ (S:=Bool) (cond (decide (18<(((s.drop a).takeWhile dg).length:Int))) (some (.go true))
      (idx s (a:Int) fun c28=>some (.go (decide ((c28.toNat:Int)=48) && decide (1<(((s.drop a).takeWhile dg).length:Int)))))) k
      = k (decide (18<((s.drop a).takeWhile dg).length) || (decide (((s.drop a).takeWhile dg).head? = some 48) && decide (1<((s.drop a).takeWhile dg).length))):=by
    intro R k
    by_cases h18:18<((s.drop a).takeWhile dg).length
    · rw [yM (by omega),yK,z1N,yM h18,Bool.true_or]
    · rw [yL (by omega),yJ,z2v ha,z1N,htw]
      rw [htw] at h18
      simp only [List.head?_cons]
      rw [z61 s[a] 48 48 rfl,yL h18,Bool.false_or]
      congr 2
      · by_cases h48:s[a]=48 <;> simp [h48]
      · rw [decide_eq_decide]; omega
  rw [hfirst]
  have hnext : ∀ {R : Type} (q : Bool) (k : Bool → Option R), bindJ (S := Bool) (cond q (some (.go true)) (bindJ (S := Bool) (cond (decide (((a + ((s.drop a).takeWhile dg).length : Nat) : Int) < (s.length : Int)))
       (idx s ((a+((s.drop a).takeWhile dg).length:Nat):Int) fun c44=>
       obind (za4 (c44.toNat:Int)) fun r45=>some (.go r45)) (some (.go false)))
     (fun b38=>some (.go b38)))) k=k (q || (match (s.drop a).dropWhile dg with | []=>false | c::_=>ltr c)):=by
    intro R q k
    cases q with
    | true=>rw [yK,z1N,Bool.true_or]
    | false =>
      rw [yJ,Bool.false_or]
      by_cases hj:a+((s.drop a).takeWhile dg).length<s.length
      · have hcj:=z4Q hj
        rw [h2] at hcj
        rw [yM (by omega),yK,z2v hj,zmV _ (zhq _ _ _ hcj),hcj]
        rfl
      · have:(s.drop a).dropWhile dg=[]:=by
          apply List.eq_nil_of_length_eq_zero
          omega
        rw [yL (by omega),yJ,this]
        rfl
  rw [hnext]
  unfold zfM
  cases hB:(decide (18<((s.drop a).takeWhile dg).length) || (decide (((s.drop a).takeWhile dg).head? = some 48) && decide (1<((s.drop a).takeWhile dg).length)) || (match (s.drop a).dropWhile dg with | []=>false | c::_=>ltr c)) with
  | true=>rfl
  | false =>
    simp only [yJ,yN,yR]
    rw [z1n (by omega),yY,yY,h1]
    simp only [gotP,Option.some.injEq,z1O.mk.injEq,true_and,and_true]
    omega
theorem zqi (s:List UInt8) (hs:s.length≤1000000) (a:Nat) (ha:a<s.length) (n:Nat) (hn:s.length+100<n):zeB n s (a:Int)=some (gotP s a (txtP [] (s.drop (a+1)))):=by
 unfold zeB
 rw [w64 (by omega) (by omega),show (a:Int)+1=((a+1:Nat):Int) by omega]
 obtain ⟨r,e,h⟩:=z71 (step:=zcD s (a:Int)) (fun x=>∃ (out:List UInt8) (i:Nat),x=(out,(i:Int))∧i≤s.length∧out.length≤i∧txtP out (s.drop i)=txtP [] (s.drop (a+1))) (fun x=>s.length - x.2.toNat)
  (fun r=>(r = .go ()∧txtP [] (s.drop (a+1)) = .inl 182)∨r = .stop (gotP s a (txtP [] (s.drop (a+1))))) (by
  rintro x ⟨out,i,rfl,hi,ho,hk⟩
  unfold zcD
  simp only
  by_cases hlt:i<s.length
  ·have hc:=z4Q hlt
   rw [hc,z5s] at hk
   rw [yM (by omega),yK,z2v hlt,z61 s[i] 34 34 rfl]
   by_cases h34:s[i]=34
   ·rw [yM h34,yK]
    rw [if_pos h34] at hk
    by_cases h200:200<out.length
    ·rw [yM (by omega),yK]
     rw [if_pos h200] at hk
     exact .inr ⟨_,rfl,.inr (by rw [← hk]; rfl)⟩
    ·rw [yL (by omega),yJ,w64 (by omega) (by omega)]
     rw [if_neg h200] at hk
     refine .inr ⟨_,rfl,.inr ?_⟩
     rw [← hk]
     simp only [gotP,List.length_drop,Lp.stop.injEq,z1O.mk.injEq,true_and,and_true]
     omega
   ·rw [yL h34,yJ]
    rw [if_neg h34] at hk
    by_cases hb:s[i].toNat<32∨126<s[i].toNat
    ·rw [show (decide (((s[i].toNat:Nat):Int)<32) || decide ((126:Int)<((s[i].toNat:Nat):Int)))=true by simp only [Bool.or_eq_true,decide_eq_true_eq]; omega,yK]
     have h92:s[i]≠92:=by intro q; rw [q] at hb; exact absurd hb (by decide)
     rw [if_neg h92,if_pos hb] at hk
     exact .inr ⟨_,rfl,.inr (by rw [← hk]; rfl)⟩
    ·rw [show (decide (((s[i].toNat:Nat):Int)<32) || decide ((126:Int)<((s[i].toNat:Nat):Int)))=false by rw [Bool.eq_false_iff]; intro h; simp only [Bool.or_eq_true,decide_eq_true_eq] at h; omega,yJ,z61 s[i] 92 92 rfl]
     by_cases h92:s[i]=92
     ·rw [yM h92,yK]
      rw [if_pos h92] at hk
      rw [w64 (x:=(i:Int)+1) (by omega) (by omega),show (i:Int)+1=((i+1:Nat):Int) by omega]
      by_cases hl2:i+1<s.length
      ·rw [yL (by omega),yJ,z2v hl2]
       rw [z4Q hl2] at hk
       simp only at hk
       rw [show decide ((s[i+1].toNat:Int)≠34) = !decide (s[i+1]=34) by rw [← z61 s[i+1] 34 34 rfl]; simp]
       have hgood:∀ hm:s[i+1]=34∨s[i+1]=92,(idx s ((i+1:Nat):Int) fun c43=>(some (.go (((i+1:Nat):Int),(c43.toNat:Int))):Option (Lp (Int×Int) (Lp ((List UInt8)×Int) (Lp Unit z1O)))))=some (.go (((i+1:Nat):Int),(s[i+1].toNat:Int))):=fun _=>by rw [z2v hl2]
       by_cases hm:s[i+1]=34∨s[i+1]=92
       ·rw [if_pos hm] at hk
        have hr:32≤s[i+1].toNat∧s[i+1].toNat≤126:=by rcases hm with h | h <;> rw [h] <;> decide
        have hb2:bindJ (S:=Bool) (R:=Lp (Int×Int) (Lp ((List UInt8)×Int) (Lp Unit z1O))) (bindJ (S:=Bool) (cond (!decide (s[i+1]=34)) (idx s ((i+1:Nat):Int) fun c41=>some (.go (decide ((c41.toNat:Int)≠92)))) (some (.go false))) (fun b35=>some (.go b35)))
          (fun b28=>cond b28 (some (.stop (.stop (.stop (z1O.mk (z6.mk 0 0 []) 0 182))))) (idx s ((i+1:Nat):Int) fun c43=>some (.go (((i+1:Nat):Int),(c43.toNat:Int)))))=some (.go (((i+1:Nat):Int),(s[i+1].toNat:Int))):=by
         rw [hgood hm]
         by_cases h1:s[i+1]=34
         ·simp only [h1,yQ,yU,yJ,z1N]
         ·have h2:s[i+1]=92:=by rcases hm with h | h; exact absurd h h1; exact h
          simp only [h1,yP,yT,yK]
          rw [z2v hl2,h2]
          rfl
        rw [hb2,z1N,z1n (by omega),z1n (by simp; omega),w64 (by omega) (by omega)]
        refine .inl ⟨_,rfl,⟨out++[s[i+1]],i+2,?_,by omega,by simp; omega,hk⟩,by simp only; omega⟩
        simp
        omega
       ·rw [if_neg hm] at hk
        have h1:s[i+1]≠34:=fun q=>hm (.inl q)
        have h2:s[i+1]≠92:=fun q=>hm (.inr q)
        simp only [h1,yP,yT,yK]
        rw [z2v hl2,show decide ((s[i+1].toNat:Int)≠92) = !decide (s[i+1]=92) by rw [← z61 s[i+1] 92 92 rfl]; simp]
        simp only [h2,yP,yT,z1N,yK,zec]
        exact .inr ⟨_,rfl,.inr (by rw [← hk]; rfl)⟩
      ·rw [yM (by omega),yK,z1N,yK,zec]
       have:s.drop (i+1)=[]:=List.drop_eq_nil_of_le (by omega)
       rw [this] at hk
       exact .inr ⟨_,rfl,.inr (by rw [← hk]; rfl)⟩
     ·rw [yL h92,yJ,z1N]
      rw [if_neg h92,if_neg hb] at hk
      simp only
      rw [z1n (by omega),z1n (by simp; omega),w64 (by omega) (by omega)]
      refine .inl ⟨_,rfl,⟨out++[s[i]],i+1,?_,by omega,by simp; omega,hk⟩,by simp only; omega⟩
      simp
  ·rw [yL (by omega),yJ]
   have:s.drop i=[]:=List.drop_eq_nil_of_le (by omega)
   rw [this,zaO] at hk
   exact .inr ⟨_,rfl,.inl ⟨rfl,hk.symm⟩⟩) n ([],((a+1:Nat):Int)) ⟨[],a+1,rfl,by omega,by simp,rfl⟩ (by simp; omega)
 rw [e]
 rcases h with ⟨rfl,h⟩ | rfl
 ·rw [z1N,h]; rfl
 ·rfl
def z8O:List (List UInt8):=longs++shorts.map fun q=>[q]
def stands (t x:List UInt8):Bool:=decide (x.length≤t.length) && decide (t.take x.length=x)
theorem ziX (t:List UInt8) (b:UInt8):∀ l:List UInt8,(l.map fun q=>[q]).find? (stands (b::t))=if b∈l then some [b] else none
  | []=>by simp
  | q :: l => by
    have ih:=ziX t b l
    rw [yI,List.find?_cons]
    have:stands (b::t) [q]=decide (b=q):=by unfold stands; simp
    rw [this]
    by_cases h:b=q
    · subst h; simp
    · rw [yL h,ih]
      simp [h]
theorem zkx (b c:UInt8) (t:List UInt8):∀ l:List (List UInt8),(∀ x∈l,x.length=2)→l.find? (stands (b::c::t))=if [b,c]∈l then some [b,c] else none
  | [],_=>by simp
  | x :: l, h => by
    have ih:=zkx b c t l (fun y hy=>h y (List.mem_cons_of_mem _ hy))
    have hx:=h x (List.mem_cons_self ..)
    rw [List.find?_cons]
    have:stands (b::c::t) x=decide ([b,c]=x):=by unfold stands; rw [hx]; simp; exact decide_eq_decide.2 Iff.rfl
    rw [this]
    by_cases q:[b,c]=x
    · rw [yM q,if_pos (q ▸ List.mem_cons_self ..),q]
    · rw [yL q,ih]
      simp only [y1,q,false_or]
theorem znP (t:List UInt8) (b:UInt8):sgnP (b::t)=match z8O.find? (stands (b::t)) with | some x=>.inr (5,x,(b::t).drop x.length) | none=>.inl 180:=by
  unfold z8O
  rw [List.find?_append,ziX]
  cases t with
  | nil =>
    have:longs.find? (stands [b])=none:=by
      rw [List.find?_eq_none]
      intro x hx
      have h2:x.length=2:=by
        have:∀ x∈longs,x.length=2:=by decide
        exact this x hx
      unfold stands
      rw [h2]
      simp
    rw [this,zdP]
    by_cases h:b∈shorts
    · rw [if_pos h,if_pos h]; rfl
    · rw [if_neg h,if_neg h]; rfl
  | cons c t =>
    rw [zkx b c t longs (by decide),zbw]
    by_cases h1:[b,c]∈longs
    · rw [if_pos h1,if_pos h1]; rfl
    · rw [if_neg h1,if_neg h1]
      by_cases h:b∈shorts
      · rw [if_pos h,if_pos h]; rfl
      · rw [if_neg h,if_neg h]; rfl
theorem zqh (s:List UInt8) (hs:s.length≤1000000) (a:Nat) (ha:a<s.length) (n:Nat) (hn:s.length+100<n):zeA n s (a:Int)=some (gotP s a (sgnP (s.drop a))):=by
  unfold zeA
  rw [show zfl=some z8O from rfl]
  simp only [obind,yO]
  have hsl:z8O.length=22:=rfl
  have hx2:∀ x∈z8O,x.length≤2:=by decide
  have hc:=z4Q ha
  have hdl:(s.drop a).length=s.length - a:=List.length_drop
  obtain ⟨r,e,h⟩:=z71 (step:=zcB s (a:Int) z8O) (fun x=>∃ i:Nat,x=(i:Int)∧i≤z8O.length∧(z8O.drop i).find? (stands (s.drop a))=z8O.find? (stands (s.drop a))) (fun x=>z8O.length - x.toNat)
    (fun r=>(r = .go ()∧z8O.find? (stands (s.drop a))=none)∨∃ x,z8O.find? (stands (s.drop a))=some x∧r = .stop ⟨⟨5,(a:Int),x⟩,((a+x.length:Nat):Int),0⟩) (by
    rintro x ⟨i,rfl,hi,hk⟩
    unfold zcB
    by_cases hlt:i<z8O.length
    · have hx:=hx2 _ (List.getElem_mem hlt)
      rw [List.drop_eq_getElem_cons hlt,List.find?_cons] at hk
      rw [yM (by omega),yK,z2v hlt,w64 (x:=(a:Int)+(z8O[i].length:Int)) (by omega) (by omega),show (a:Int)+(z8O[i].length:Int)=((a+z8O[i].length:Nat):Int) by omega]
      have hst:∀ {R:Type} (k:Bool→Option R),bindJ (S:=Bool) (cond (decide (((a+z8O[i].length:Nat):Int)≤(s.length:Int)))
          (need (0≤(a:Int)∧(a:Int)≤((a+z8O[i].length:Nat):Int)∧((a+z8O[i].length:Nat):Int)≤(s.length:Int)) (some (.go (decide (((s.take (((a+z8O[i].length:Nat):Int)).toNat).drop ((a:Int)).toNat)=z8O[i]))))) (some (.go false))) k=k (stands (s.drop a) z8O[i]):=by
        intro R k
        unfold stands
        by_cases hle:a+z8O[i].length≤s.length
        · rw [yM (by omega),yK,z1n (by omega),z1N,yY,yY,List.drop_take,Nat.add_sub_cancel_left,hdl,yM (show z8O[i].length≤s.length - a by omega),Bool.true_and]
        · rw [yL (by omega),yJ,z1N,hdl,yL (show ¬ z8O[i].length≤s.length - a by omega),Bool.false_and]
      rw [hst]
      cases hq:stands (s.drop a) z8O[i] with
      | true =>
        rw [hq] at hk
        rw [yK,z2v hlt]
        exact .inr ⟨_,rfl,.inr ⟨z8O[i],hk.symm,rfl⟩⟩
      | false =>
        rw [hq] at hk
        rw [yJ,w64 (by omega) (by omega)]
        exact .inl ⟨((i+1:Nat):Int),rfl,⟨i+1,rfl,by omega,hk⟩,by simp; omega⟩
    · rw [yL (by omega),yJ]
      rw [show z8O.drop i=[] from List.drop_eq_nil_of_le (by omega)] at hk
      exact .inr ⟨_,rfl,.inl ⟨rfl,by rw [← hk]; rfl⟩⟩) n 0 ⟨0,rfl,by omega,by simp⟩ (by simp; omega)
  rw [e]
  have hf:=znP (s.drop (a+1)) s[a]
  rw [← hc] at hf
  rw [hf]
  rcases h with ⟨rfl,h⟩ | ⟨x,h,rfl⟩
  · rw [h]; rfl
  · rw [h]
    have hst:=List.find?_some h
    unfold stands at hst
    simp only [Bool.and_eq_true,decide_eq_true_eq] at hst
    rw [hdl] at hst
    simp only [zec,gotP,List.length_drop,Option.some.injEq,z1O.mk.injEq,true_and,and_true]
    omega
theorem zqf (s:List UInt8) (hs:s.length≤1000000) (a:Nat) (ha:a<s.length) (n:Nat) (hn:s.length+100<n):zey n s (a:Int)=some (gotP s a (nextP kwP (s.drop a))):=by
  unfold zey
  have hc:=z4Q ha
  have hne:=z6k kwP s[a] (s.drop (a+1))
  rw [← hc] at hne
  rw [z2v ha,zis,hne]
  cases h1:sm s[a] with
  | true =>
    simp only [obind,yO,yK,yS]
    rw [zqe s hs a (by omega) n hn]; rfl
  | false =>
    simp only [obind,yO,yJ,yN,yR]
    rw [z2v ha,zif]
    cases h2:dg s[a] with
    | true =>
      simp only [yO,yK,yS]
      rw [zmW s hs a ha h2 n hn]; rfl
    | false =>
      simp only [yO,yJ,yN,yR]
      rw [z2v ha,z61 s[a] 34 34 rfl]
      by_cases h3:s[a]=34
      · simp only [h3,yQ,yK,yS]
        rw [zqi s hs a ha n hn]; rfl
      · simp only [h3,yP,yJ,yR]
        rw [zqh s hs a ha n hn]; rfl
theorem zk8 (s:List UInt8) (hs:s.length≤1000000) (n:Nat) (hn:s.length+100<n) :
    ∃ r, iter (z9d n s) n (([] : List z6), ((s.length - (skipP false s).length : Nat) : Int)) = some r ∧
      ((r = .go ((toksP kwP (s.length+1) s).1.map (mkT s.length))∧(toksP kwP (s.length+1) s).2=none)∨∃ k e,r = .stop ⟨[],⟨((s.length - k:Nat):Int),e⟩⟩∧(toksP kwP (s.length+1) s).2=some (k,e)):=by
  refine z71 (step:=z9d n s) (fun x=>∃ (d:List (Int×Nat×List UInt8)) (i:Nat),x=(d.map (mkT s.length),(i:Int))∧i≤s.length∧d.length≤i∧skipP false (s.drop i)=s.drop i∧
      (toksP kwP (s.length+1) s).1=d++(toksP kwP (s.length+1) (s.drop i)).1∧(toksP kwP (s.length+1) s).2=(toksP kwP (s.length+1) (s.drop i)).2) (fun x=>s.length - x.2.toNat) _ ?_ n _ ?_ (by simp; omega)
  · rintro x ⟨d,i,rfl,hi,hd,hk,e1,e2⟩
    unfold z9d
    simp only
    by_cases hlt:i<s.length
    · rw [yM (show (i:Int)<(s.length:Int) by omega),yK,zqf s hs i hlt n hn]
      have hc:=z4Q hlt
      rw [hc] at hk
      cases hq:nextP kwP (s.drop i) with
      | inl e =>
        rw [hc] at hq
        rw [hc,z8H hk hq] at e2
        simp only [obind,yO,gotP]
        rw [yM (zmD hq),yK]
        refine .inr ⟨_,rfl,.inr ⟨_,e,?_,e2⟩⟩
        simp only [List.length_drop,Lp.stop.injEq,z7H.mk.injEq,z11.mk.injEq,true_and,and_true]
        omega
      | inr q =>
        obtain ⟨kd,w,r⟩:=q
        have hlen:=zfg hq
        have hsuf:=(zmE hq).trans (List.drop_suffix i s)
        rw [hc] at hq
        rw [hc,z7O hk hq] at e1 e2
        have hrl:r.length≤s.length:=hsuf.length_le
        simp only [obind,yO,gotP]
        rw [show decide ((0:Int)≠0)=false from rfl,yJ,z1n (by simp; omega),zmX s hs _ (by omega) n (by omega),z8G hsuf]
        simp only [yO]
        have hsk:=zdq false r
        have hsl:=hsk.length_le
        rw [List.length_drop] at hlen
        refine .inl ⟨_,rfl,⟨d++[(kd,s.length - i,w)],s.length - (skipP false r).length,?_,by omega,by simp; omega,?_,?_,?_⟩,by simp only; omega⟩
        · simp only [List.map_append,yI,List.map_nil,Prod.mk.injEq,and_true]
          congr 2
          unfold mkT
          simp only [z6.mk.injEq,true_and,and_true]
          omega
        · rw [z8G (hsk.trans hsuf),zeY]
        · rw [z8G (hsk.trans hsuf),z7G,e1]
          simp only [List.length_drop,yA,yE,yD]
          rw [zaN kwP s.length (s.length+1) r (by omega) (by omega),show s.length - (i+1)+1=s.length - i by omega]
        · rw [z8G (hsk.trans hsuf),z7G,e2]
          simp only
          rw [zaN kwP s.length (s.length+1) r (by omega) (by omega)]
    · rw [yL (by omega),yJ]
      have:s.drop i=[]:=List.drop_eq_nil_of_le (by omega)
      rw [this,z6g (kw:=kwP) (s:=[]) rfl] at e1 e2
      refine .inr ⟨_,rfl,.inl ⟨?_,e2⟩⟩
      rw [e1,List.append_nil]
  · have hsk:=zdq false s
    refine ⟨[],s.length - (skipP false s).length,rfl,by omega,by simp,?_,?_,?_⟩
    · rw [z8G hsk,zeY]
    · rw [z8G hsk,z7G]; rfl
    · rw [z8G hsk,z7G]
theorem zgJ (s:List UInt8) (hs:s.length≤65536) (n:Nat) (hn:s.length+100<n):z6w n s=some ⟨(tokR s).1,(tokR s).2⟩:=by
 unfold z6w
 rw [yL (by omega),yJ]
 have h0:=zmX s (by omega) 0 (by omega) n (by omega)
 rw [List.drop_zero] at h0
 have h0' : zbe n s 0=_:=h0
 rw [h0']
 simp only [obind,yO]
 obtain ⟨r,e,h⟩:=zk8 s (by omega) n hn
 rw [e]
 unfold tokR
 rcases h with ⟨rfl,h2⟩ | ⟨k,e,rfl,h2⟩
 ·rw [h2]; rfl
 ·rw [h2]; rfl
end Go.Proofs.YtcmaoifiiigggaaGreatDoor
