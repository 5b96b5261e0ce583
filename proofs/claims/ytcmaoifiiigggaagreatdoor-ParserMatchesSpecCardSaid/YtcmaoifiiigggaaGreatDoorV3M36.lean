/-
  Texts that stand side by side: Rg, Rh.
-/
import Derived.Test.YtcmaoifiiigggaaGreatDoorV3M35
set_option linter.unusedSimpArgs false
set_option linter.unusedVariables false
namespace Go.Proofs.YtcmaoifiiigggaaGreatDoor
open Go.Abs Go.Ps Go.Lex
section
variable {l : List Lx}
abbrev RS:=z1R
def okX {α:Type} (m:α→zG):Out α→RS→Prop
 | .ok a i _,r=>r=⟨m a,(i:Int),false⟩
 | .bad i _,r=>r.I=(i:Int)∧r.Bad=true
def noX:zG:=⟨[],[]⟩
theorem zjt (hl:l.length≤900000) {n0 N:Nat} (h17:17<n0) (hn0:l.length<n0) (hN:l.length<N):∀ (n f j:Nat) (x:List zQ),j≤l.length→x.length≤j→l.length - j<n→l.length - j<f→
    ∃ r, iter (z68 (n0 + 2) l) n ((j : Int), x.map (atR (gA l))) = some r ∧ match run' l (zby (ruleP N) f x) j with
      | .ok a i _=>∃ k:Nat,i=k+1∧k<l.length∧r = .go ((k:Int),a.map (atR (gA l)))
      | .bad i _=>r = .stop ⟨noX,(i:Int),true⟩
  | 0,_,_,_,_,_,h,_=>absurd h (yH _)
  | _+1,0,_,_,_,_,_,h=>absurd h (yH _)
  | n + 1, f + 1, j, x, hj, hx, hn, hf => by
    unfold zby
    rw [z1w]
    rcases yG (isK 5 [125] (tks l j).head?) with h0 | h0
    · have hlt:=z4I h0
      simp only [sgn,h0,yS]
      rw [z1f _ hlt,z2w]
      refine ⟨.go ((j:Int),x.map (atR (gA l))),?_,j,rfl,hlt,rfl⟩
      rw [z1z]
      unfold z68
      simp only [z3J,h0,ob,yU,yJ]
    · simp only [sgn,h0,yR,yN]
      have hq:=zp0 (l:=l) N j hj
      unfold Fw at hq
      have hd:=z2q (l:=l) (ruleP N) hj
      rw [z1A _ _ hj]
      have hstep:z68 (n0+2) l ((j:Int),x.map (atR (gA l)))=match run' l (ruleP N) j with
          | .ok a i _=>some (.go ((i:Int),(x++[a]).map (atR (gA l))))
          | .bad i _=>some (.stop (.stop ⟨noX,(i:Int),true⟩)):=by
        unfold z68 ruleP
        simp only [z3J,h0,z4F,z6e,z4E,zfk,ob,yT,yK,z5S (j:=j) (by omega),zgZ (j:=j) (by omega)]
        rw [z1w,z1A _ _ hj]
        unfold needP
        rw [z1w]
        rcases yG (isK 2 [114,117,108,101] (tks l j).head?) with h1 | h1
        · have hlt:=z4I h1
          simp only [h1,yU,yJ,yS,z1f _ hlt,z2w]
          rw [z6o (by decide) _ hlt]
          by_cases h2:kindO (tks l (j+1)).head? = 1
          · have hlt2:=z4V (by decide) h2
            simp only [h2,ne_eq,yV,yP,yJ,yS]
            obtain ⟨r,h3,h4⟩:=rclauses hl h17 hn0 hN (j+2) (yX _) hlt2
            have h3' : z6y (n0+2) l ((j+2:Nat):Int) false=some r:=h3
            rw [h3',z1A _ _ hlt2]
            simp only [ob]
            revert h4
            show okL l (j+2) (run' l (zaP N) (j+1+1)) r→_
            cases run' l (zaP N) (j+1+1) with
            | bad i q=>rintro ⟨h5,h6,_⟩; rw [h6,yK,h5]; rfl
            | ok a i q =>
              intro h4
              have h4' : r=_:=h4
              subst h4'
              dsimp only
              rw [yJ,z1n (by simp; omega)]
              simp only [z2w,List.map_append,yI,List.map_nil,atR,zdS]
          · simp only [h2,ne_eq,yZ,yQ,yK,yR]
            rfl
        · simp only [h1,yT,yK,yR,yN]
          rfl
      revert hstep hd hq
      cases run' l (ruleP N) j with
      | ok a i q =>
        rintro hq ⟨h6,h7,_⟩ hstep
        dsimp only at hq hstep
        rw [z4f hstep]
        exact zjt hl h17 hn0 hN n f i (x++[a]) h7 (by simp; omega) (by omega) (by omega)
      | bad i q =>
        rintro _ _ hstep
        dsimp only at hstep
        rw [z1z hstep]
        exact ⟨_,rfl,rfl⟩
theorem rpolicy (hl:l.length≤900000) {n0 N j:Nat} (h17:17<n0) (hn0:l.length<n0) (hN:l.length<N) (hj:j<l.length) :
    ∃ r,zbT (n0+2) l (j:Int)=some r∧okX (fun a=>⟨[atP (gA l) a],[]⟩) (run' l (zbc N j) (j+1)) r:=by
  unfold zbT zbc
  rw [z6o (by decide) _ hj]
  simp only [z6e,z4E,zfk,z3J,ob,z5S (j:=j) (by omega),zgZ (j:=j) (by omega),zsZ (j:=j) (by omega)]
  by_cases h2:kindO (tks l (j+1)).head? = 1
  · have hlt2:=z4V (by decide) h2
    simp only [h2,ne_eq,yV,yP,yJ,yS]
    unfold z4d
    rw [z7j,z1A _ _ hlt2]
    unfold needP
    rw [z1w]
    rcases yG (isK 5 [123] (tks l (j+1+1)).head?) with h1 | h1
    · have hlt3:=z4I h1
      have h1' : isK 5 [123] (tks l (j+2)).head? = true:=h1
      simp only [h1,h1',yU,yJ,yS,z1f _ hlt3,z2w]
      obtain ⟨r,h3,h4⟩:=zjt (N:=N) hl h17 hn0 hN (n0+2) N (j+3) [] hlt3 (by simp) (by omega) (by omega)
      have h3' : iter (z68 (n0+2) l) (n0+2) (((j+3:Nat):Int),([]:List zQ))=some r:=h3
      rw [h3',z1A _ _ hlt3]
      revert h4
      show (match run' l (zby (ruleP N) N []) (j+1+1+1) with | .ok a i _=>_ | .bad i _=>_)→_
      cases run' l (zby (ruleP N) N []) (j+1+1+1) with
      | bad i q=>rintro h4; rw [show r=_ from h4]; exact ⟨_,rfl,rfl,rfl⟩
      | ok a i q =>
        rintro ⟨k,rfl,hk,rfl⟩
        refine ⟨_,rfl,?_⟩
        show _=_
        dsimp only
        rw [z5S (j:=k) (by omega)]
        rfl
    · have h1' : isK 5 [123] (tks l (j+2)).head? = false:=h1
      simp only [h1,h1',yT,yK,yR,yN]
      exact ⟨_,rfl,rfl,rfl⟩
  · simp only [h2,ne_eq,yZ,yQ,yK,yR]
    exact ⟨_,rfl,rfl,rfl⟩
theorem zhr (j:Nat) (t:List (List UInt8)) (hn:t.Nodup) (ht:t.length≤1000):∀ (n i:Nat),i≤t.length→t.length - i<n→(∀ q (h:q<i) (h' : q<t.length),t[q]≠textO (tks l j).head?)→
    bindJ (iter (z7r l (j:Int) t) n (i:Int)) (fun _=>some 0)=some (if textO (tks l j).head? ∈ t then (t.idxOf (textO (tks l j).head?):Int)+1 else 0)
  | 0,_,_,h,_=>absurd h (yH _)
  | n + 1, i, hi, hm, hq => by
    by_cases h:i<t.length
    · have w:IntKind.i64.wrap ((i:Int)+1)=((i+1:Nat):Int):=z5S (by omega)
      by_cases hv:t[i]=textO (tks l j).head?
      · have e:=zmg hn h
        rw [hv] at e
        rw [z1z (r:=.stop ((i+1:Nat):Int))]
        · rw [e,if_pos (hv ▸ List.getElem_mem h)]; rfl
        · unfold z7r
          simp only [yW,h,yQ,yK,z5t h,z4E,ob,w,hv]
      · rw [z4f (s':=((i+1:Nat):Int))]
        · refine zhr j t hn ht n (i+1) h (by omega) fun q h1 h2=>?_
          rcases Nat.lt_succ_iff_lt_or_eq.1 h1 with h4 | rfl
          · exact hq q h4 h2
          · exact hv
        · unfold z7r
          simp only [yW,h,yQ,yK,z5t h,z4E,ob,w,hv,yP,yJ]
    · rw [z1z (r:=.go ())]
      · rw [if_neg]
        · rfl
        · intro h1
          have h3:=List.idxOf_lt_length_of_mem h1
          exact hq _ (by omega) h3 (List.getElem_idxOf h3)
      · unfold z7r
        simp only [yW,h,yP,yJ]
def effV (t:Option Tk):Int:=if kindO t=2∧textO t∈z7I then (z7I.idxOf (textO t):Int)+1 else 0
theorem reffect {n:Nat} (hn:6<n) (j:Nat):zaf n l (j:Int)=some (effV (tks l j).head?):=by
 unfold zaf effV
 simp only [z6e,ob]
 by_cases h:kindO (tks l j).head? = 2
 ·have e:z7D=some z7I:=rfl
  simp only [h,ne_eq,yV,yP,yJ,e,ob,true_and]
  exact zhr (l:=l) j z7I (by decide) (by decide) n 0 (yX _) (by show 6 - 0<n; omega) (fun q h=>absurd h (yH _))
 ·simp only [h,ne_eq,yZ,yQ,yK,false_and,yR]
theorem zlw {β:Type} (q:Int→Ps β) {j:Nat} (hj:j≤l.length):run' l (z62.bind q) j=if effV (tks l j).head? = 0 then .bad j (tks l j) else run' l (q (effV (tks l j).head?)) (j+1):=by
 rw [z1A _ _ hj]
 unfold z62 effV
 rw [z1w]
 by_cases h:kindO (tks l j).head? = 2∧textO (tks l j).head? ∈ z7I
 ·have h1:¬((z7I.idxOf (textO (tks l j).head?):Int)+1=0):=by omega
  simp only [h,and_self,yS,z1f _ (z4V (by decide) h.1),z2w,h1,yR]
 ·simp only [h,yR,zft,yS]
theorem reffects (hl:l.length≤900000) {n0:Nat} (h6:6<n0):∀ (n f j:Nat) (x:List Int),j<l.length→x.length≤j→l.length - j+1<n→l.length - j<f→
    ∃ r, iter (z6F n0 l) n ((j : Int), true, x) = some r ∧ match run' l (z62.bind fun e => listP z62 f (x ++ [e])) (j + 1) with
      | .ok a i _=>r = .go ((i:Int),a)
      | .bad i _=>r = .stop ⟨noX,(i:Int),true⟩
  | 0,_,_,_,_,_,h,_=>absurd h (yH _)
  | _+1,0,_,_,_,_,_,h=>absurd h (yH _)
  | n + 1, f + 1, j, x, hj, hx, hn, hf => by
    rw [zlw _ hj]
    by_cases h:effV (tks l (j+1)).head? = 0
    · rw [if_pos h,z1z (r:=.stop ⟨noX,((j+1:Nat):Int),true⟩)]
      · exact ⟨_,rfl,rfl⟩
      · unfold z6F
        simp only [yK,z5S (j:=j) (by omega),reffect h6,ob,h,yQ]
        rfl
    · have hlt:j+1<l.length:=by
        rcases Nat.lt_or_ge (j+1) l.length with q | q
        · exact q
        · rw [zdR q] at h; exact absurd rfl h
      rw [if_neg h]
      have hstep:z6F n0 l ((j:Int),true,x)=some (.go (((j+2:Nat):Int),isK 5 [44] (tks l (j+2)).head?,x++[effV (tks l (j+1)).head?])):=by
        unfold z6F
        simp only [yK,z5S (j:=j) (by omega),reffect h6,ob,h,yP,yJ,z5S (j:=j+1) (by omega),z3J]
        rw [z1n (by simp; omega)]
      rw [z4f hstep]
      unfold listP
      rw [z1w]
      rcases yG (isK 5 [44] (tks l (j+1+1)).head?) with h0 | h0
      · have hlt2:=z4I h0
        have h0' : isK 5 [44] (tks l (j+2)).head? = true:=h0
        simp only [sgn,h0,h0',yS]
        rw [z1f _ hlt2]
        exact reffects hl h6 n f (j+2) (x++[effV (tks l (j+1)).head?]) hlt2 (by simp; omega) (by omega) (by omega)
      · have h0' : isK 5 [44] (tks l (j+2)).head? = false:=h0
        simp only [sgn,h0,h0',yR,yN]
        obtain ⟨n,rfl⟩ : ∃ m,n=m+1:=⟨n - 1,by omega⟩
        refine ⟨.go (((j+2:Nat):Int),x++[effV (tks l (j+1)).head?]),?_,rfl⟩
        rw [z1z]
        rfl
theorem rprogram (hl:l.length≤900000) {n N j:Nat} (h17:17<n) (hn:l.length+4<n) (hN:l.length<N) (hj:j<l.length) :
    ∃ r,zaI n l (j:Int)=some r∧okX (fun a=>⟨[],[atPr (gA l) a]⟩) (run' l (z8s N j) (j+1)) r:=by
  unfold zaI z8s
  rw [z6o (by decide) _ hj]
  simp only [z6e,z4E,zfk,z4F,ob,z5S (j:=j) (by omega),zgZ (j:=j) (by omega)]
  by_cases h2:kindO (tks l (j+1)).head? = 1
  rotate_left
  · simp only [h2,ne_eq,yZ,yQ,yK,yR]
    exact ⟨_,rfl,rfl,rfl⟩
  have hlt2:=z4V (by decide) h2
  simp only [h2,ne_eq,yV,yP,yJ,yS]
  have hB:RfB l 0 (z6R n) (z4d (stmtP (exprP N N) N N) N):=rblock hl (fun n k h=>rexpr hl n N k h (by omega) (by omega)) hN n N 0 (by omega) (by omega)
  have tail:∀ (es:List Int) (i:Nat),i≤l.length→∃ r,(obind (z6R n l (i:Int)) fun r54=>
   cond r54.Bad
    (some (z1R.mk (zG.mk ([]:List zL) ([]:List zI)) r54.I true))
    (some (z1R.mk (zG.mk ([]:List zL) ([(zI.mk (textO (tks l (j+1)).head?) (gA l j) es r54.L)]:List zI)) r54.I false)))=some r∧
      okX (fun a=>⟨[],[atPr (gA l) a]⟩) (run' l ((z4d (stmtP (exprP N N) N N) N).bind fun c=>.ret ⟨textO (tks l (j+1)).head?,(j:Int),es,c⟩) i) r:=by
    intro es i hi
    obtain ⟨b,h3,h4⟩:=hB i (yX _) hi
    rw [h3,z1A _ _ hi]
    simp only [ob]
    revert h4
    cases run' l (z4d (stmtP (exprP N N) N N) N) i with
    | bad i q=>rintro ⟨h5,h6,_⟩; rw [h6]; exact ⟨_,rfl,h5,rfl⟩
    | ok c i2 q =>
      intro h4
      have h4' : b=_:=h4
      subst h4'
      dsimp only
      rw [yJ]
      refine ⟨_,rfl,?_⟩
      show _=_
      simp only [atPr,z6Z]
  rw [z1w]
  rcases yG (isK 2 [101,102,102,101,99,116,115] (tks l (j+1+1)).head?) with h1 | h1
  · have hlt3:=z4I h1
    have h1' : isK 2 [101,102,102,101,99,116,115] (tks l (j+2)).head? = true:=h1
    simp only [wrd,h1,h1',yS]
    obtain ⟨r,h3,h4⟩:=reffects hl (n0:=n) (by omega) n N (j+2) [] hlt3 (by simp) (by omega) (by omega)
    rw [h3]
    show ∃ r',_∧okX _ (run' l (.skip ((z62.bind fun e=>listP z62 N [e]).bind _)) (j+1+1)) r'
    rw [z1f _ hlt3,z1A _ _ hlt3]
    have he:=z2q (l:=l) (z62.bind fun e=>listP z62 N [e]) (j:=j+1+1+1) hlt3
    revert h4 he
    show (match run' l (z62.bind fun e=>listP z62 N [e]) (j+1+1+1) with | .ok a i _=>_ | .bad i _=>_)→_
    cases run' l (z62.bind fun e=>listP z62 N [e]) (j+1+1+1) with
    | bad i q=>intro h4 _; rw [show r=_ from h4]; exact ⟨_,rfl,rfl,rfl⟩
    | ok a i q =>
      rintro h4 ⟨_,h7,_⟩
      rw [show r=_ from h4]
      exact tail a i h7
  · have h1' : isK 2 [101,102,102,101,99,116,115] (tks l (j+2)).head? = false:=h1
    simp only [wrd,h1,h1',yR,yN]
    obtain ⟨n,rfl⟩ : ∃ m,n=m+1:=⟨n - 1,by omega⟩
    rw [z1z (r:=.go (((j+2:Nat):Int),([]:List Int))) rfl]
    exact tail [] (j+2) hlt2
end
variable {l : List Lx}
theorem ze5 (hl:l.length≤900000) {n0 N:Nat} (h17:17<n0) (hn0:l.length+4<n0) (hN:l.length<N):∀ (n f j:Nat) (x:zG),j≤l.length→x.Policies.length≤j→x.Programs.length≤j→l.length - j<n→l.length - j<f→
    ∃ r,bindJ (iter (z4W (n0+2) l) n (x.Policies.map (atP (gA l)),x.Programs.map (atPr (gA l)),(j:Int))) (fun s=>some (⟨⟨s.1,s.2.1⟩,s.2.2,false⟩ : RS))=some r∧okX (atSrc (gA l)) (run' l (zaK N f x) j) r
  | 0,_,_,_,_,_,_,h,_=>absurd h (yH _)
  | _+1,0,_,_,_,_,_,_,h=>absurd h (yH _)
  | n + 1, f + 1, j, x, hj, hx, hy, hn, hf => by
    rw [zf0,z1w]
    by_cases hlt:j<l.length
    rotate_left
    · have e:(tks l j).head? = none:=by rw [zdR (by omega)]; rfl
      simp only [e,Option.isNone_none,yS]
      rw [z1z (r:=.go (x.Policies.map (atP (gA l)),x.Programs.map (atPr (gA l)),(j:Int)))]
      · exact ⟨_,rfl,rfl⟩
      · unfold z4W
        simp only [yW,hlt,yP,yJ]
    obtain ⟨t,et⟩:=ziF hlt
    have eh:(tks l j).head? = some t:=by rw [et]; rfl
    have hno:(tks l j).head?.isNone=false:=by rw [eh]; rfl
    simp only [hno,yN,yR]
    rcases yG (isK 2 [112,111,108,105,99,121] (tks l j).head?) with h0 | h0
    · simp only [wrd,h0,yS]
      rw [z1f _ hlt,z1A _ _ hlt]
      obtain ⟨r,h1,h2⟩:=rpolicy (N:=N) hl h17 (by omega) hN hlt
      have hd:=z2q (l:=l) (zbc N j) (j:=j+1) hlt
      revert h2 hd
      cases run' l (zbc N j) (j+1) with
      | bad i q =>
        rintro ⟨h5,h6⟩ _
        rw [z1z (r:=.stop ⟨⟨r.X.Policies,r.X.Programs⟩,r.I,true⟩)]
        · exact ⟨_,rfl,h5,rfl⟩
        · unfold z4W
          simp only [yW,hlt,yQ,yK,z4F,h0,ob,h1,bJ,h6]
      | ok y i q =>
        rintro h2 ⟨h6,h7,_⟩
        have h2' : r=_:=h2
        subst h2'
        rw [z4f (s':=((x.Policies++[y]).map (atP (gA l)),x.Programs.map (atPr (gA l)),(i:Int)))]
        · exact ze5 hl h17 hn0 hN n f i ⟨x.Policies++[y],x.Programs⟩ h7 (by simp; omega) (by simp; omega) (by omega) (by omega)
        · unfold z4W
          simp only [yW,hlt,yQ,yK,z4F,h0,ob,h1,bJ,yJ]
          rw [z1n (by simp; omega),z1n (by simp; omega)]
          simp only [List.map_append,yI,List.map_nil,List.append_nil]
    rcases yG (isK 2 [112,114,111,103,114,97,109] (tks l j).head?) with h3 | h3
    · simp only [wrd,h0,h3,yS,yR,yN]
      rw [z1f _ hlt,z1A _ _ hlt]
      obtain ⟨r,h1,h2⟩:=rprogram (N:=N) (n:=n0+2) hl (by omega) (by omega) hN hlt
      have hd:=z2q (l:=l) (z8s N j) (j:=j+1) hlt
      revert h2 hd
      cases run' l (z8s N j) (j+1) with
      | bad i q =>
        rintro ⟨h5,h6⟩ _
        rw [z1z (r:=.stop ⟨⟨r.X.Policies,r.X.Programs⟩,r.I,true⟩)]
        · exact ⟨_,rfl,h5,rfl⟩
        · unfold z4W
          simp only [yW,hlt,yQ,yK,yJ,z4F,h0,h3,ob,h1,bJ,h6]
      | ok y i q =>
        rintro h2 ⟨h6,h7,_⟩
        have h2' : r=_:=h2
        subst h2'
        rw [z4f (s':=(x.Policies.map (atP (gA l)),(x.Programs++[y]).map (atPr (gA l)),(i:Int)))]
        · exact ze5 hl h17 hn0 hN n f i ⟨x.Policies,x.Programs++[y]⟩ h7 (by simp; omega) (by simp; omega) (by omega) (by omega)
        · unfold z4W
          simp only [yW,hlt,yQ,yK,z4F,h0,h3,ob,h1,bJ,yJ]
          rw [z1n (by simp; omega),z1n (by simp; omega)]
          simp only [List.map_append,yI,List.map_nil,List.append_nil]
    · simp only [wrd,h0,h3,yR,yN]
      rw [z1z (r:=.stop ⟨noX,(j:Int),true⟩)]
      · exact ⟨_,rfl,rfl,rfl⟩
      · unfold z4W
        simp only [yW,hlt,yQ,yK,yJ,z4F,h0,h3,ob,bJ]
        rfl
theorem rsource (hl:l.length≤900000) {n N:Nat} (h17:17<n) (hn:l.length+4<n) (hN:l.length<N):∃ r,ze3 (n+2) l=some r∧okX (atSrc (gA l)) (run' l (srcP N) 0) r:=
 ze5 hl h17 hn hN (n+2) N 0 ⟨[],[]⟩ (yX _) (by simp) (by simp) (by omega) (by omega)
theorem zj8 (hl:l.length≤100000):∀ (n i:Nat) (d:Int),i≤l.length→-(i:Int)≤d→d≤i→l.length - i<n→
    bindJ (iter (z9r l) n (d,(i:Int))) (fun _=>some (-1:Int))=some (deepT (tks l i) d i)
  | 0,_,_,_,_,_,h=>absurd h (yH _)
  | n + 1, i, d, hi, h1, h2, hn => by
    by_cases hlt:i<l.length
    · have e:=List.getElem?_eq_getElem hlt
      have eh:(tks l i).head? = some (tk l[i]):=by rw [ze8 e]; rfl
      rw [ze8 e]
      unfold deepT
      by_cases h:40<d
      · rw [if_pos h,z1z (r:=.stop (i:Int))]
        · rfl
        · unfold z9r
          simp only [yW,hlt,yQ,yK,h,bindJ]
      · rw [if_neg h]
        have ho:=zs4 (tk l[i])
        have hi':=zj8 hl n (i+1) (d+opn (tk l[i])) hlt (by omega) (by omega) (by omega)
        rw [z4f (s':=(d+opn (tk l[i]),((i+1:Nat):Int)))]
        · exact hi'
        · have w1:IntKind.i64.wrap (d+1)=d+1:=w64 (by omega) (by omega)
          have w2:IntKind.i64.wrap (d - 1)=d - 1:=w64 (by omega) (by omega)
          unfold z9r opn
          simp only [yW,hlt,yQ,yK,h,yP,yJ,z3J,eh,ob,bJ,z5S (j:=i) (by omega)]
          by_cases h5:l[i].Kind=5
          · have hk:∀ s,isK 5 s (some (tk l[i]))=decide (l[i].S=s):=fun s=>by simp [isK,tk,h5]
            simp only [hk]
            simp only [tk,h5,yS]
            by_cases e1:l[i].S=[40]
            · simp [e1,bJ,w1]
            by_cases e2:l[i].S=[123]
            · simp [e1,e2,bJ,w1]
            by_cases e3:l[i].S=[41]
            · simp [e1,e2,e3,bJ,w2]; omega
            by_cases e4:l[i].S=[125]
            · simp [e1,e2,e3,e4,bJ,w2]; omega
            · simp [e1,e2,e3,e4,bJ]
          · have hk:∀ s,isK 5 s (some (tk l[i]))=false:=fun s=>by simp [isK,tk,h5]
            simp only [hk]
            simp only [tk,h5,yR,yJ,bJ,Int.add_zero]
    · rw [zdR (by omega),z1z (r:=.go ())]
      · rfl
      · unfold z9r
        simp only [yW,hlt,yP,yJ]
theorem rdeep (hl:l.length≤100000) {n:Nat} (hn:l.length<n):zcO n l=some (deepT (tks l 0) 0 0):=
 zj8 hl n 0 0 (yX _) (by omega) (by omega) (by omega)
theorem rwrong (s:List UInt8) (j:Nat):zbu s l (j:Int)=some ⟨eA l s.length j,180⟩:=by
 unfold zbu eA
 by_cases h:j<l.length
 ·rw [yL (by omega)]
  simp only [yJ,z5t h,List.getElem?_eq_getElem h]
 ·rw [yM (by omega),List.getElem?_eq_none (by omega)]; rfl
theorem zo8 (s:List UInt8) {n N:Nat} (hn:1000000<n) (hN:65536<N):zdh n s=some ⟨(z4K N s).1,(z4K N s).2⟩:=by
  unfold zdh z4K outL
  by_cases hs:65536<s.length
  · rw [if_pos hs,zgK s hs n]; rfl
  rw [if_neg hs,zgJ s (by omega) n (by omega)]
  have hl:=zb4 s
  unfold outR
  simp only [ob]
  by_cases h0:(tokR s).2.E≠0
  · simp only [h0,yQ,yK,yS,yZ,ne_eq]
  simp only [h0,yP,yJ,yR,rdeep (l:=(tokR s).1) (by omega) (n:=n) (by omega),ob]
  rcases zfb (tks (tokR s).1 0) 0 0 with h1 | ⟨j,h1,_,h3⟩
  · rw [h1]
    simp only [show ¬((0:Int)≤-1) by decide,yP,yJ,yR]
    obtain ⟨k,rfl⟩ : ∃ k,n=k+2:=⟨n - 2,by omega⟩
    obtain ⟨r,h4,h5⟩:=rsource (l:=(tokR s).1) (n:=k) (N:=N) (by omega) (by omega) (by omega) (by omega)
    rw [h4]
    simp only [ob]
    have he:=fun a j r h=>zd7 (l:=(tokR s).1) N N 0 ⟨[],[]⟩ a j r (yX _) h
    revert h5 he
    cases run' (tokR s).1 (srcP N) 0 with
    | bad i q =>
      rintro ⟨h6,h7⟩ _
      rw [h7,h6,rwrong]; rfl
    | ok a i q =>
      intro h5 he
      have h5' : r=_:=h5
      subst h5'
      have:=he a i q rfl
      dsimp only
      rw [yJ,if_neg (by omega)]
  · rw [h1]
    have h4:j<(tokR s).1.length:=by simpa [tks] using h3
    simp only [show (0:Int)≤(j:Int) by omega,yQ,yK,yS,z5t h4,zpN h4]
end Go.Proofs.YtcmaoifiiigggaaGreatDoor
