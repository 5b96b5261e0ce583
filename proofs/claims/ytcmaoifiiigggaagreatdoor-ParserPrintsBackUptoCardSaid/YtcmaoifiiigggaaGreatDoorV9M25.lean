/-
  Texts that stand side by side: Qo, Qp, Qq, LPh, LPj, Qr, LPk, LexQ, LPl, Qs, Qu, Qv, Sa, Sb, Ra, Rb, Rc, Rd, Re, Rf, Rg, Rh, Sd.
-/
import Derived.Test.YtcmaoifiiigggaaGreatDoorV9M24
set_option linter.unusedSimpArgs false
set_option linter.unusedVariables false
namespace Go.Proofs.YtcmaoifiiigggaaGreatDoor
open Go.Abs Go.Ps Go.Lex
section
variable {l : List Lx} {fin : Int}
theorem zgP (hl:l.length≤1000000) {j:Nat} (hj:j≤l.length) (c:Cl):(obind (z19 ⟨l,(j:Int),fin⟩ 5 [59]) fun r=>pbind r (fun e=>some (.pan e)) fun q=>some (.ret (atC (gA l) c,q)))=some (conv l fin (atC (gA l)) (run' l (semi c) j)):=
 zdB (by decide) hl hj fun _=>rfl
theorem bJ {S R:Type} (s:S) (K:S→Option R):bindJ (some (.go s)) K=K s:=rfl
theorem zfV {α S β:Type} (o:Option (Pn α)) (f:α→S) (K:S→Option (Pn β)):bindJ (obind o fun r=>pbind r (fun e=>some (.stop (.pan e))) fun q=>some (.go (f q))) K=obind o fun r=>pbind r (fun e=>some (.pan e)) fun q=>K (f q):=by
 rcases o with _ | (r | e) <;> rfl
theorem zlL {α S β:Type} (o:Option (Pn α)) (f:α→β) (K:S→Option (Pn β)):bindJ (obind o fun r=>pbind r (fun e=>some (.stop (.pan e))) fun q=>some (.stop (.ret (f q)))) K=obind o fun r=>pbind r (fun e=>some (.pan e)) fun q=>some (.ret (f q)):=by
 rcases o with _ | (r | e) <;> rfl
theorem zpw {α β:Type} (b:Bool) (p q:Ps α) (k:α→Ps β):(if b=true then p else q).bind k=if b=true then p.bind k else q.bind k:=by cases b <;> rfl
theorem zgV (k i:Int) (N:Nat):(varyP k i N).bind semi=(takeP 4).bind fun n=>(needP 2 [105,110]).bind fun _=>(zdT 4 N).bind fun l=>.look fun u _=>
  if wrd [100,101,102,97,117,108,116] u then .skip ((takeP 4).bind fun d=>semi ⟨k,i,n,l,⟨[],[],-1⟩,d,true,[]⟩) else semi ⟨k,i,n,l,⟨[],[],-1⟩,[],false,[]⟩:=by
 unfold varyP
 simp only [z7j]
 refine congrArg _ (funext fun n=>congrArg _ (funext fun _=>congrArg _ (funext fun l=>?_)))
 refine congrArg Ps.look (funext fun u=>funext fun _=>?_)
 refine (zpw _ _ _ _).trans ?_
 refine ite_congr rfl (fun _=>congrArg Ps.skip (z7j _ _ _)) fun _=>rfl
theorem zmC (o:Option (Pn (Rd'×Cl))):(bindJ (obind o fun r86=>pbind r86 (fun e89=>some (.stop (.pan e89))) fun q88=>some (.go (q88.1.l_,q88.1.i_,q88.1.at_,q88.2.Kind,q88.2.At,q88.2.Name,q88.2.Texts,q88.2.Amount.Number,q88.2.Amount.Unit,q88.2.Amount.At,q88.2.Default,q88.2.HasDefault,q88.2.Conds)))
  (fun ((x_34,x_35,x_36,x_37,x_38,x_39,x_40,x_41,x_42,x_43,x_44,x_45,x_46):(List z6)×Int×Int×Int×Int×(List UInt8)×(List (List UInt8))×(List UInt8)×(List UInt8)×Int×(List UInt8)×Bool×(List zl))=>
   obind (z19 (z7.mk x_34 x_35 x_36) 5 [59]) fun r116=>
   pbind r116 (fun e119=>some (.pan e119)) fun q118=>
   some (.ret ((zl.mk x_37 x_38 x_39 x_40 (z1r.mk x_41 x_42 x_43) x_44 x_45 x_46),q118))):Option (Pn (Cl×Rd'))) =
  obind (Sc o) fun r=>pbind r (fun e=>some (.pan e)) fun p=>obind (z19 p.2 5 [59]) fun r=>pbind r (fun e=>some (.pan e)) fun q=>some (.ret (p.1,q)):=by
 rcases o with _ | (⟨⟨a,b,c⟩,⟨k,at',n,t,⟨x,y,z⟩,d,h,cs⟩⟩ | e) <;> rfl
theorem zho (inner:Bool) (t:Option Tk) (h:z9B inner t=9):inner=false:=by
 unfold z9B at h
 split at h
 ·rename_i d
  obtain ⟨_,hm,d⟩:=d
  have e:z5y.idxOf (textO t)=8:=by omega
  rcases d with d | d
  ·rw [(zfj _ hm).1 d] at e; exact absurd e (by decide)
  ·rw [e] at d; exact d
 ·exact absurd h (by decide)
theorem zkt (hl:l.length≤1000000) {rec:Rd'→Bool→Option (Pn (List Cl×Rd'))} {conds:Ps (List Cl)} {k n N:Nat} {inner:Bool} (h17:17<n) (hn:l.length<n) (hN:l.length<N) (hr:inner=false→Ag l fin (k+1) (List.map (atC (gA l))) (fun r=>rec r true) conds) :
    Ag l fin k (atC (gA l)) (fun r=>z3F n rec r inner) (zb7 N inner conds):=by
  intro j hk hj
  unfold z3F zb7
  have he:z6N=some z5y:=rfl
  rw [z1w]
  obtain ⟨c,hc⟩ : ∃ c,c=IntKind.i64.wrap (1+(if textO (tks l j).head? ∈ z5y then (z5y.idxOf (textO (tks l j).head?):Int) else -1)):=⟨_,rfl⟩
  obtain ⟨hk1,hk2⟩:=zfa inner (tks l j).head? hc
  simp only [z7l,ob,he,zmh z5y _ (by decide) (n:=n) (by exact h17),zgv,zgw,nx_at,zdc (Nat.le_trans hj hl),zc2,← hc,hk1]
  by_cases h0:z9B inner (tks l j).head? = 0
  · simp only [h0,yQ,yK,bindJ,pbind,yS]
    rfl
  · obtain ⟨e,h2⟩:=hk2 h0
    have hlt:=z4V (by decide) h2
    simp only [h0,yP,yJ,bJ,yR]
    rw [z1f _ hlt]
    rw [← e]
    by_cases c1:c=1
    · simp only [c1,yQ,yK,yS]
      rw [zfV]
      exact z4r (zjB hl) (yX _) hlt fun s i h3 h4=>zgP hl h4 ⟨1,j,[],[s],⟨[],[],-1⟩,[],false,[]⟩
    by_cases c2:c=2∨c=14∨c=15
    · have hb:(bindJ (S:=Bool) (R:=Lp ((List z6)×Int×Int×Int×Int×(List UInt8)×(List (List UInt8))×(List UInt8)×(List UInt8)×Int×(List UInt8)×Bool×(List zl)) (Pn (Cl×Rd'))) (cond (decide (c=2)) (some (.go (decide (c=2)))) (cond (decide (c=14)) (some (.go (decide (c=14)))) (some (.go (decide (c=15)))))))=fun K=>K true:=by
        funext K
        by_cases d1:c=2
        · simp [d1,bJ]
        · by_cases d2:c=14
          · simp [d2,bJ]
          · have d3:c=15:=c2.elim (fun q=>absurd q d1) fun q=>q.elim (fun q=>absurd q d2) id
            simp [d3,bJ]
      simp only [c1,c2,hb,yP,yJ,yR,yS,yK]
      rw [zfV]
      exact z4r (znm hl hn hN) (yX _) hlt fun s i h3 h4=>zgP hl h4 ⟨c,j,[],s,⟨[],[],-1⟩,[],false,[]⟩
    have c2' : c≠2∧c≠14∧c≠15:=⟨fun q=>c2 (.inl q),fun q=>c2 (.inr (.inl q)),fun q=>c2 (.inr (.inr q))⟩
    obtain ⟨d1,d2,d3⟩:=c2'
    simp only [c1,d1,d2,d3,yP,yJ,yR,bJ,or_self]
    by_cases c3:c=16
    · simp only [c3,yQ,yK,yS]
      rw [zfV]
      exact z4r (zmH hl hn hN) (yX _) hlt fun s i h3 h4=>zgP hl h4 ⟨16,j,[],s,⟨[],[],-1⟩,[],false,[]⟩
    by_cases c4:c=8
    · simp only [c4,yQ,yK,yS,yP,yJ,yR,show ¬((8:Int)=16) by decide]
      rw [← zgV]
      refine (zmC _).trans ?_
      exact z4r (zsT hl hn hN) (yX _) hlt fun s i h3 h4=>zgP hl h4 s
    by_cases c5:c=11
    · simp only [c5,yQ,yK,yS,yP,yJ,yR,show ¬((11:Int)=16) by decide,show ¬((11:Int)=8) by decide]
      rw [zfV]
      exact z4r (zda (by decide) hl) (yX _) hlt fun s i h3 h4=>zgP hl h4 ⟨11,j,s,[],⟨[],[],-1⟩,[],false,[]⟩
    by_cases c6:c=9
    · simp only [c6,yQ,yK,yS,yP,yJ,yR,show ¬((9:Int)=16) by decide,show ¬((9:Int)=8) by decide,show ¬((9:Int)=11) by decide]
      rw [zlL]
      exact z4r (hr (zho inner _ (e.symm.trans c6))) (by omega) hlt fun s i h3 h4=>by
        show some (Pn.ret (_,_))=some (.ret (atC (gA l) ⟨9,j,[],[],⟨[],[],-1⟩,[],false,s⟩,_))
        rw [atC,zdS]; rfl
    by_cases c7:c=10
    · simp only [c7,yQ,yK,yS,yP,yJ,yR,show ¬((10:Int)=16) by decide,show ¬((10:Int)=8) by decide,show ¬((10:Int)=11) by decide,show ¬((10:Int)=9) by decide,bJ]
      exact zgP hl hlt ⟨10,j,[],[],⟨[],[],-1⟩,[],false,[]⟩
    simp only [c3,c4,c5,c6,c7,yP,yJ,yR]
    refine (zmC _).trans ?_
    exact z4r (znH hl) (yX _) hlt fun s i h3 h4=>zgP hl h4 ⟨c,j,[],[],s,[],false,[]⟩
end
section
variable {l : List Lx} {fin : Int}
theorem zhW (N:Nat) (inner:Bool) (conds:Ps (List Cl)) (j:Nat) (hj:j≤l.length):Fw l j (zb7 N inner conds):=by
 unfold zb7
 refine zma ?_
 dsimp only
 by_cases h:z9B inner (tks l j).head? = 0
 ·rw [if_pos h]; exact trivial
 ·rw [if_neg h]
  obtain ⟨_,h2⟩:=(zfa inner (tks l j).head? rfl).2 h
  exact zp5 _ (z4V (by decide) h2)
theorem zpD (hl:l.length≤1000000) {k n N:Nat} (h17:17<n) (hn:l.length<n) (hN:l.length<N):Ag l fin k (List.map (atC (gA l))) (fun r=>z1G (n+1) r true) (zlS N):=by
 intro j hk hj
 show z23 n (z1G n) _ true=_
 unfold z23 zlS z4d
 refine zdB (by decide) hl hj fun hlt=>?_
 have hs:=zkt (l:=l) (fin:=fin) (rec:=z1G n) (conds:=.bad) (k:=0) (inner:=true) hl h17 hn hN (fun h=>absurd h (by decide))
 exact zgi hl hs (zhW N true .bad) n N (j+1) [] (yX _) hlt (by simp) (by omega) (by omega)
theorem zlQ (hl:l.length≤1000000) {k n N:Nat} (h17:17<n) (hn:l.length<n) (hN:l.length<N):Ag l fin k (List.map (atC (gA l))) (fun r=>z1G (n+2) r false) (zaP N):=by
 intro j hk hj
 show z23 (n+1) (z1G (n+1)) _ false=_
 unfold z23 zaP z4d
 refine zdB (by decide) hl hj fun hlt=>?_
 have hs:=zkt (l:=l) (fin:=fin) (rec:=z1G (n+1)) (conds:=zlS N) (k:=0) (inner:=false) hl (Nat.lt_succ_of_lt h17) (Nat.lt_succ_of_lt hn) hN (fun _=>zpD hl h17 hn hN)
 exact zgi hl hs (zhW N false (zlS N)) (n+1) N (j+1) [] (yX _) hlt (by simp) (by omega) (by omega)
theorem zhm {α β γ R:Type} {k j:Nat} {m:α→β} {F:Rd'→Option (Pn (β×Rd'))} {p:Ps α} {q:α→Ps γ} {K:β×Rd'→Option R} {B:Int→Option R} {V:Out γ→Option R} (hF:Ag l fin k m F p) (hk:k≤j) (hj:j≤l.length)
  (hB:∀ i r,V (.bad i r)=B (eA l fin i)) (hK:∀ (a:α) (i:Nat),j≤i→i≤l.length→K (m a,⟨l,(i:Int),fin⟩)=V (run' l (q a) i)) :
  (obind (F ⟨l,(j:Int),fin⟩) fun r2=>pbind r2 B K)=V (run' l (p.bind q) j):=by
 rw [z1A p q hj,hF j hk hj]
 have h:=z2q p hj
 revert h
 cases run' l p j with
 | ok a i r=>rintro ⟨h1,h2,_⟩; exact hK a i h1 h2
 | bad i r=>intro _; exact (hB i r).symm
theorem zkL {γ R:Type} {j:Nat} {k:Int} {s:List UInt8} {q:Ps γ} {K:Rd'→Option R} {B:Int→Option R} {V:Out γ→Option R} (hk:k≠0) (hl:l.length≤1000000) (hj:j≤l.length)
    (hB:∀ i r,V (.bad i r)=B (eA l fin i)) (hK:j<l.length→K ⟨l,((j+1:Nat):Int),fin⟩=V (run' l q (j+1))) :
    (obind (z19 ⟨l,(j:Int),fin⟩ k s) fun r2=>pbind r2 B K)=V (run' l ((needP k s).bind fun _=>q) j):=by
  rw [zoT hk hl hj,z1A _ _ hj]
  unfold needP
  rw [z1w]
  cases h:isK k s (tks l j).head? with
  | true =>
    have hlt:=z4I h
    simp only [yS,z1f _ hlt,z2w]
    exact hK hlt
  | false=>exact (hB _ _).symm
theorem zp0 (N:Nat) (j:Nat) (hj:j≤l.length):Fw l j (ruleP N):=by
  unfold ruleP
  refine zma ?_
  unfold Fw
  rw [z1A _ _ hj]
  unfold needP
  rw [z1w]
  cases h:isK 2 [114,117,108,101] (tks l j).head? with
  | true =>
    have hlt:=z4I h
    simp only [yS,z1f _ hlt,z2w]
    have he:=z2q (l:=l) ((takeP 1).bind fun n=>(zaP N).bind fun c=>Ps.ret (⟨n,(j:Int),c⟩ : zQ)) (j:=j+1) hlt
    revert he
    cases run' l ((takeP 1).bind fun n=>(zaP N).bind fun c=>Ps.ret (⟨n,(j:Int),c⟩ : zQ)) (j+1) with
    | ok a i r=>exact fun h=>h.1
    | bad i r=>exact fun _=>trivial
  | false=>exact trivial
abbrev S2:=List Lx×Int×Int×List zQ
abbrev S1:=List Lx×Int×Int×List zL×List zI
abbrev S0:=List zL×List zI×List Lx×Int×Int
abbrev R0:=Pn (zG×Rd')
def ruleV (l:List Lx) (fin:Int) (x:List zQ):Out zQ→Option (Lp S2 (Lp S2 (Lp S1 (Lp S0 R0))))
 | .ok a i _=>some (.go (l,(i:Int),fin,(x++[a]).map (atR (gA l))))
 | .bad i _=>some (.stop (.stop (.stop (.stop (.pan (eA l fin i))))))
theorem zkT (hl:l.length≤1000000) {n0 N:Nat} (h17:17<n0) (hn0:l.length<n0) (hN:l.length<N) (K:S2→Option (Lp S1 (Lp S0 R0))):∀ (n f j:Nat) (x:List zQ),j≤l.length→x.length≤j→l.length - j<n→l.length - j<f→
    bindJ (iter (z2K (n0+2)) n (l,(j:Int),fin,x.map (atR (gA l)))) K=match run' l (zby (ruleP N) f x) j with
      | .ok a i _=>K (l,(i:Int),fin,a.map (atR (gA l)))
      | .bad i _=>some (.stop (.stop (.pan (eA l fin i))))
  | 0,_,_,_,_,_,h,_=>absurd h (yH _)
  | _+1,0,_,_,_,_,_,h=>absurd h (yH _)
  | n + 1, f + 1, j, x, hj, hx, hn, hf => by
    unfold zby
    rw [z1w]
    rcases yG (isK 5 [125] (tks l j).head?) with h0 | h0
    · have hlt:=z4I h0
      simp only [sgn,h0,yS]
      rw [z1f _ hlt]
      rw [z1z (r:=.go (l,((j+1:Nat):Int),fin,x.map (atR (gA l))))]
      · rfl
      · unfold z2K
        simp only [z65 (k:=5) (by decide) hl hj,h0,ob,yS,yU,yJ]
    · simp only [sgn,h0,yR,yN]
      have hstep:z2K (n0+2) (l,(j:Int),fin,x.map (atR (gA l)))=ruleV l fin x (run' l (ruleP N) j):=by
        unfold z2K
        simp only [z65 (k:=5) (by decide) hl hj,h0,ob,yR,yN,yT,yK,z7l,nx_at]
        unfold ruleP
        rw [z1w]
        refine zkL (V:=ruleV l fin x) (by decide) hl hj (fun _ _=>rfl) fun hlt=>?_
        refine zhm (V:=ruleV l fin x) (zda (by decide) hl) (yX _) hlt (fun _ _=>rfl) fun s i h1 h2=>?_
        refine zhm (V:=ruleV l fin x) (zlQ (k:=0) hl h17 hn0 hN) (yX _) h2 (fun _ _=>rfl) fun c i h3 h4=>?_
        rw [z1n (by simp; omega)]
        simp only [z2w,ruleV,List.map_append,yI,List.map_nil,atR,zdS]
      rw [z1A _ _ hj]
      have hd:=z2q (l:=l) (ruleP N) hj
      have hq:=zp0 (l:=l) N j hj
      unfold Fw at hq
      cases e:run' l (ruleP N) j with
      | ok y i r =>
        rw [e] at hstep hd hq
        obtain ⟨h6,h7,_⟩:=hd
        dsimp only at hq
        rw [z4f hstep]
        exact zkT hl h17 hn0 hN K n f i (x++[y]) h7 (by simp; omega) (by omega) (by omega)
      | bad i r =>
        rw [e] at hstep
        rw [z1z hstep]; rfl
end
section
variable {l : List Lx} {fin : Int}
def zbc (N:Nat) (i:Int):Ps zL:=(takeP 1).bind fun n=>(z4d (ruleP N) N).bind fun r=>.ret ⟨n,i,r⟩
def z8s (N : Nat) (i : Int) : Ps zI := (takeP 1).bind fun n => .look fun u _ =>
        (if wrd [101,102,102,101,99,116,115] u then Ps.skip (z62.bind fun e=>listP z62 N [e]) else Ps.ret []).bind fun es=>
          (z4d (stmtP (exprP N N) N N) N).bind fun c=>.ret ⟨n,i,es,c⟩
theorem zf0 (N f:Nat) (x:zG):zaK N (f+1) x = .look fun t i=>if t.isNone=true then .ret x
      else if wrd [112,111,108,105,99,121] t then .skip ((zbc N i).bind fun p=>zaK N f ⟨x.Policies++[p],x.Programs⟩)
      else if wrd [112,114,111,103,114,97,109] t then .skip ((z8s N i).bind fun p=>zaK N f ⟨x.Policies,x.Programs++[p]⟩)
      else .bad:=by
  rw [zaK]
  refine congrArg Ps.look (funext fun t=>funext fun i=>?_)
  cases t with
  | none=>rfl
  | some t =>
    simp only [Option.isNone_some,yN,yR]
    unfold zbc z8s
    simp only [z7j]
    refine ite_congr rfl (fun _=>rfl) fun _=>ite_congr rfl (fun _=>congrArg Ps.skip (congrArg _ (funext fun n=>?_))) fun _=>rfl
    refine congrArg Ps.look (funext fun u=>funext fun _=>?_)
    refine Eq.symm ((z7j _ _ _).trans (congrArg _ (funext fun es=>z7j _ _ _)))
def polV (l:List Lx) (fin:Int) (x:zG):Out zL→Option (Lp S1 (Lp S0 R0))
 | .ok a i _=>some (.go (l,(i:Int),fin,(x.Policies++[a]).map (atP (gA l)),x.Programs.map (atPr (gA l))))
 | .bad i _=>some (.stop (.stop (.pan (eA l fin i))))
def prgV (l:List Lx) (fin:Int) (x:zG):Out zI→Option (Lp S1 (Lp S0 R0))
 | .ok a i _=>some (.go (l,(i:Int),fin,x.Policies.map (atP (gA l)),(x.Programs++[a]).map (atPr (gA l))))
 | .bad i _=>some (.stop (.stop (.pan (eA l fin i))))
theorem zlM {α S R:Type} (o:Option (Pn α)) (f:α→S) (B:Int→R) (K:S→Option R):bindJ (obind o fun r=>pbind r (fun e=>some (.stop (B e))) fun q=>some (.go (f q))) K=obind o fun r=>pbind r (fun e=>some (B e)) fun q=>K (f q):=by
 rcases o with _ | (r | e) <;> rfl
theorem zfw (hl:l.length≤1000000) (hw:WT l) {n0 N:Nat} (h17:17<n0) (hn0:l.length+3<n0) (hN:l.length<N):∀ (n f j:Nat) (x:zG),j≤l.length→x.Policies.length≤j→x.Programs.length≤j→l.length - j<n→l.length - j<f→
    bindJ (iter (z1I (n0+2)) n (l,(j:Int),fin,x.Policies.map (atP (gA l)),x.Programs.map (atPr (gA l)))) (fun s=>some (.ret ((⟨s.1,s.2.1⟩ : zG),(⟨s.2.2.1,s.2.2.2.1,s.2.2.2.2⟩ : Rd'))))=some (conv l fin (atSrc (gA l)) (run' l (zaK N f x) j))
  | 0,_,_,_,_,_,_,h,_=>absurd h (yH _)
  | _+1,0,_,_,_,_,_,_,h=>absurd h (yH _)
  | n + 1, f + 1, j, x, hj, hx, hy, hn, hf => by
    rw [zf0,z1w]
    by_cases hlt:j<l.length
    · obtain ⟨t,et⟩:=ziF hlt
      have eh:(tks l j).head? = some t:=by rw [et]; rfl
      have hsk:=fun k s h=>z65 (l:=l) (fin:=fin) (k:=k) (s:=s) h hl hj
      have hno:(tks l j).head?.isNone=false:=by rw [eh]; rfl
      simp only [hno,yN,yR]
      rcases yG (isK 2 [112,111,108,105,99,121] (tks l j).head?) with h0 | h0
      · simp only [wrd,h0,yS]
        have hstep:z1I (n0+2) (l,(j:Int),fin,x.Policies.map (atP (gA l)),x.Programs.map (atPr (gA l)))=polV l fin x (run' l (zbc N j) (j+1)):=by
          unfold z1I
          simp only [yW,hlt,yQ,yK,hsk 2 _ (by decide),h0,ob,yS,z7l,nx_at]
          unfold zbc
          refine zhm (V:=polV l fin x) (zda (by decide) hl) (yX _) hlt (fun _ _=>rfl) fun s i h1 h2=>?_
          unfold z4d
          rw [z7j]
          refine zkL (V:=polV l fin x) (by decide) hl h2 (fun _ _=>rfl) fun hlt2=>?_
          have h:=zkT (l:=l) (fin:=fin) hl (n0:=n0) (N:=N) h17 (by omega) hN (fun (x_45,x_46,x_47,x_48)=>
     need ((x.Policies.map (atP (gA l))).length+([(zL.mk s (gA l j) x_48)]:List zL).length≤4294967296) (
     some (.go (x_45, x_46, x_47, ((x.Policies.map (atP (gA l))) ++ ([(zL.mk s (gA l j) x_48)] : List zL)), x.Programs.map (atPr (gA l)))))) (n0 + 2) N (i + 1) [] hlt2 (by simp) (by omega) (by omega)
          refine h.trans ?_
          rw [z1A _ _ hlt2]
          cases run' l (zby (ruleP N) N []) (i+1) with
          | ok a i r =>
            dsimp only
            rw [z1n (by simp; omega)]
            simp only [z2w,polV,List.map_append,yI,List.map_nil,atP]
          | bad i r=>rfl
        rw [z1f _ hlt,z1A _ _ hlt]
        have hd:=z2q (l:=l) (zbc N j) (j:=j+1) hlt
        cases e:run' l (zbc N j) (j+1) with
        | ok y i r =>
          rw [e] at hstep hd
          obtain ⟨h6,h7,_⟩:=hd
          rw [z4f hstep]
          exact zfw hl hw h17 hn0 hN n f i ⟨x.Policies++[y],x.Programs⟩ h7 (by simp; omega) (by simp; omega) (by omega) (by omega)
        | bad i r =>
          rw [e] at hstep
          rw [z1z hstep]; rfl
      rcases yG (isK 2 [112,114,111,103,114,97,109] (tks l j).head?) with h3 | h3
      · simp only [wrd,h0,h3,yS,yR,yN]
        have hstep:z1I (n0+2) (l,(j:Int),fin,x.Policies.map (atP (gA l)),x.Programs.map (atPr (gA l)))=prgV l fin x (run' l (z8s N j) (j+1)):=by
          unfold z1I
          simp only [yW,hlt,yQ,yK,yJ,hsk 2 _ (by decide),h0,h3,ob,yS,yR,yN,z7l,nx_at]
          unfold z8s
          refine zhm (V:=prgV l fin x) (zda (by decide) hl) (yX _) hlt (fun _ _=>rfl) fun s i h1 h2=>?_
          have hbl:AgB l fin 0 (z2i (n0+2)) (z4d (stmtP (exprP N N) N N) N):=
            zlN hl (fun n k h=>zm4 hl hw n N k h (by omega) (by omega)) hN (n0+2) N 0 (by omega) (by omega)
          have fin' : ∀ (es:List Int) (i:Nat),i≤l.length→(obind (z2i (n0+2) ⟨l,(i:Int),fin⟩) fun r167=>
      pbind r167 (fun e170=>
       some (.stop (.stop (.pan e170)))) fun q169=>
      need ((x.Programs.map (atPr (gA l))).length+([(zI.mk s (gA l j) es q169.1)]:List zI).length≤4294967296) (
      some (.go (q169.2.l_, q169.2.i_, q169.2.at_, x.Policies.map (atP (gA l)), ((x.Programs.map (atPr (gA l))) ++ ([(zI.mk s (gA l j) es q169.1)] : List zI)))))) = prgV l fin x (run' l ((z4d (stmtP (exprP N N) N N) N).bind fun c => .ret ⟨s, (j : Int), es, c⟩) i) := by
            intro es i hi
            refine zhm (V:=prgV l fin x) hbl (yX _) hi (fun _ _=>rfl) fun c i h3 h4=>?_
            rw [z1n (by simp; omega)]
            simp only [z2w,prgV,List.map_append,yI,List.map_nil,atPr,z6Z]
          dsimp only
          rw [z1w,z65 (k:=2) (by decide) hl h2]
          rcases yG (isK 2 [101,102,102,101,99,116,115] (tks l i).head?) with h5 | h5
          · have hlt2:=z4I h5
            simp only [ob,wrd,h5,yS,yK]
            refine (zlM (z5E (n0+2) ⟨l,((i+1:Nat):Int),fin⟩) (fun q162=>(q162.2.l_,q162.2.i_,q162.2.at_,q162.1)) (fun e=>Lp.stop (Lp.stop (Pn.pan e))) _).trans ?_
            show _=prgV l fin x (run' l (.skip ((z62.bind fun e=>listP z62 N [e]).bind _)) i)
            rw [z1f _ hlt2]
            refine zhm (V:=prgV l fin x) (zm1 hl (by omega) (by omega) hN) (yX _) hlt2 (fun _ _=>rfl) fun es i h3 h4=>?_
            exact fin' es i h4
          · simp only [ob,wrd,h5,yR,yJ,yN]
            exact fin' [] i h2
        rw [z1f _ hlt,z1A _ _ hlt]
        have hd:=z2q (l:=l) (z8s N j) (j:=j+1) hlt
        cases e:run' l (z8s N j) (j+1) with
        | ok y i r =>
          rw [e] at hstep hd
          obtain ⟨h6,h7,_⟩:=hd
          rw [z4f hstep]
          exact zfw hl hw h17 hn0 hN n f i ⟨x.Policies,x.Programs++[y]⟩ h7 (by simp; omega) (by simp; omega) (by omega) (by omega)
        | bad i r =>
          rw [e] at hstep
          rw [z1z hstep]; rfl
      · simp only [wrd,h0,h3,yR,yN]
        rw [z1z (r:=.stop (.pan (eA l fin j)))]
        · rfl
        · unfold z1I
          simp only [yW,hlt,yQ,yK,yJ,hsk 2 _ (by decide),h0,h3,ob,yR,yN,z7l,zc2,pbind]
    · have e:(tks l j).head? = none:=by rw [zdR (by omega)]; rfl
      simp only [e,Option.isNone_none,yS]
      rw [z1z (r:=.go (x.Policies.map (atP (gA l)),x.Programs.map (atPr (gA l)),l,(j:Int),fin))]
      · rfl
      · unfold z1I
        simp only [yW,hlt,yP,yJ]
theorem zof (hl:l.length≤1000000) (hw:WT l) {n N:Nat} (h17:17<n) (hn:l.length+3<n) (hN:l.length<N):Ag l fin 0 (atSrc (gA l)) (z2Z (n+2)) (zaK N N ⟨[],[]⟩):=by
 intro j hk hj
 unfold z2Z
 exact zfw hl hw h17 hn hN (n+2) N j ⟨[],[]⟩ hj (by simp) (by simp) (by omega) (by omega)
end
theorem zb4 (s:List UInt8):(tokR s).1.length≤s.length:=by
 obtain ⟨h,_,_⟩:=znp kwP (s.length+1) s
 unfold tokR
 split
 ·simp
 ·simpa using h
theorem z4z {S R:Type} (s:S) (k:S→Option R):bindJ (some (.go s)) k=k s:=rfl
def wr (t:z6):List UInt8:=if t.Kind=4 then [34]++esc t.S++[34] else t.S
theorem zom (t:z6):(wr t).length≤2*t.S.length+2:=by
 have h1:=zdC t.S; have h2:=k2_le t.S
 unfold wr
 split
 ·simp; omega
 ·omega
theorem znB (t:z6) (h:t.S.length≤1000000):zba t=some (wr t):=by
 have h1:=zdC t.S; have h2:=k2_le t.S
 unfold zba wr
 by_cases hk:t.Kind=4
 ·rw [yL (by simpa using hk),yJ,if_pos hk]
  unfold zjW zk7
  rw [z1n (by rfl),z1n ⟨⟨rfl,rfl⟩,rfl,by omega⟩]
  simp only [obind,yO]
  rw [z1n (by simp; omega),z1n (by simp; omega)]
 ·rw [yM (by simpa using hk),yK,if_neg hk]
def isT (t:z6):Bool:=decide ((tokR (wr t)).2.E=0) && decide ((tokR (wr t)).1=[⟨t.Kind,0,t.S⟩])
theorem zrN (x:z6) (k:Int) (s:List UInt8):(x=⟨k,0,s⟩)↔x.Kind=k∧x.At=0∧x.S=s:=by
 obtain ⟨a,b,c⟩:=x
 simp
theorem zmj (t:z6) (h:t.S.length≤30000) (n:Nat) (hn:100000<n):zaB n t=some (isT t):=by
  have hw:=zom t
  unfold zaB isT
  rw [znB t (by omega)]
  simp only [obind,yO]
  rw [zf4 (wr t) (by omega) n (by omega)]
  simp only [yO]
  generalize tokR (wr t)=r
  obtain ⟨l,p⟩:=r
  by_cases h0:p.E=0
  · match l with
    | []=>simp [h0,z4z]
    | [x] =>
      have h3:(x=(⟨t.Kind,0,t.S⟩ : z6))↔_:=zrN x t.Kind t.S
      have h4:(decide (x.Kind=t.Kind) && (decide (x.At=0) && decide (x.S=t.S)))=decide (x=(⟨t.Kind,0,t.S⟩ : z6)):=by
        rw [Bool.eq_iff_iff]; simp only [Bool.and_eq_true,decide_eq_true_eq]; rw [h3]
      simp [h0,z4z,idx,h4]
    | x :: y :: l =>
      have hlen:decide (((x::y::l).length:Int)=1)=false:=yL (by simp; omega)
      rw [hlen,Bool.and_false,yJ]
      simp [z4z]
  · simp [h0,z4z]
theorem znt:∀ (n:Nat) (s out:List UInt8) (k:Int) (w r:List UInt8),s.length≤n→txtP out s = .inr (k,w,r)→k=4:=by
  intro n
  induction n with
  | zero =>
    intro s out k w r hn h
    match s,hn with
    | [],_=>rw [zaO] at h; cases h
  | succ n ih =>
    intro s out k w r hn h
    match s,hn with
    | [],_=>rw [zaO] at h; cases h
    | b :: t, hn =>
      rw [z5s] at h
      split at h
      · split at h
        · cases h
        · cases h; rfl
      · split at h
        · match t,hn,h with
          | [],_,h=>cases h
          | c :: t', hn, h =>
            simp only at h
            split at h
            · exact ih t' _ _ _ _ (by simp at hn; omega) h
            · cases h
        · split at h
          · cases h
          · exact ih t _ _ _ _ (by simp at hn; omega) h
theorem zrT {s:List UInt8} {k:Int} {w r:List UInt8} (h:nextP kwP s = .inr (k,w,r)):(k=2→w∈kwP)∧(k=5→w≠[97,110,100]∧w≠[111,114]):=by
  cases s with
  | nil=>cases h
  | cons b s =>
    rw [z6k] at h
    by_cases h1:sm b
    · rw [if_pos h1] at h
      unfold namP at h
      by_cases h2:(b::s).takeWhile rst∈kwP
      · rw [if_pos h2] at h
        cases h
        exact ⟨fun _=>h2,fun q=>absurd q (by decide)⟩
      · rw [if_neg h2] at h
        split at h
        · cases h
        · cases h
          exact ⟨fun q=>absurd q (by decide),fun q=>absurd q (by decide)⟩
    rw [if_neg h1] at h
    by_cases h2:dg b
    · rw [if_pos h2] at h
      unfold numP at h
      split at h
      · cases h
      · cases h
        exact ⟨fun q=>absurd q (by decide),fun q=>absurd q (by decide)⟩
    rw [if_neg h2] at h
    by_cases h3:b=34
    · rw [if_pos h3] at h
      have:=znt _ _ _ _ _ _ (Nat.le_refl _) h
      subst this
      exact ⟨fun q=>absurd q (by decide),fun q=>absurd q (by decide)⟩
    rw [if_neg h3] at h
    cases s with
    | nil =>
      rw [zdP] at h
      split at h
      · cases h
        exact ⟨fun q=>absurd q (by decide),fun q=>⟨fun e=>by simpa using congrArg List.length e,fun e=>by simpa using congrArg List.length e⟩⟩
      · cases h
    | cons c s =>
      rw [zbw] at h
      split at h
      · rename_i hm
        cases h
        exact ⟨fun q=>absurd q (by decide),fun q=>⟨fun e=>by simpa using congrArg List.length e,fun e=>by rw [e] at hm; exact absurd hm (by decide)⟩⟩
      · split at h
        · cases h
          exact ⟨fun q=>absurd q (by decide),fun q=>⟨fun e=>by simpa using congrArg List.length e,fun e=>by simpa using congrArg List.length e⟩⟩
        · cases h
theorem zpi:∀ (f:Nat) (s:List UInt8),∀ x∈(toksP kwP f s).1,(x.1=2→x.2.2∈kwP)∧(x.1=5→x.2.2≠[97,110,100]∧x.2.2≠[111,114])
  | 0,s,x,h=>by cases h
  | f + 1, s, x, h => by
    cases hs:skipP false s with
    | nil=>rw [z6g hs] at h; cases h
    | cons b r =>
      cases hn:nextP kwP (b::r) with
      | inl e=>rw [z8H hs hn] at h; cases h
      | inr q =>
        obtain ⟨k,w,rest⟩:=q
        rw [z7O hs hn] at h
        rcases List.mem_cons.1 h with rfl | h
        · exact zrT hn
        · exact zpi f rest x h
theorem zph (s:List UInt8):WT (tokR s).1:=by
 intro t ht
 unfold tokR at ht
 split at ht
 ·cases ht
 ·obtain ⟨x,hx,rfl⟩:=List.mem_map.1 ht
  exact zpi _ _ x hx
def opn (t:Tk):Int:=if t.1=5 then (if t.2=[40]∨t.2=[123] then 1 else if t.2=[41]∨t.2=[125] then -1 else 0) else 0
def deepT:List Tk→Int→Nat→Int
 | [],_,_=>-1
 | t::r,d,i=>if 40<d then i else deepT r (d+opn t) (i+1)
theorem zs4 (t:Tk) : -1≤opn t∧opn t≤1:=by
 unfold opn
 split
 ·split
  ·omega
  ·split <;> omega
 ·omega
theorem zlV (t:Lx) {a:Int} (h0 : -1000000≤a) (h1:a≤1000000):z7A t a=some (decide (40<a),if 40<a then a else a+opn (tk t)):=by
 unfold z7A
 by_cases h:40<a
 ·simp [h]
 ·have w1:IntKind.i64.wrap (a+1)=a+1:=w64 (by omega) (by omega)
  have w2:IntKind.i64.wrap (a - 1)=a - 1:=w64 (by omega) (by omega)
  unfold opn tk
  by_cases h5:t.Kind=5
  ·by_cases e1:t.S=[40]
   ·simp [h,h5,e1,bindJ,w1]
   by_cases e2:t.S=[123]
   ·simp [h,h5,e1,e2,bindJ,w1]
   by_cases e3:t.S=[41]
   ·simp [h,h5,e1,e2,e3,bindJ,w2]; omega
   by_cases e4:t.S=[125]
   ·simp [h,h5,e1,e2,e3,e4,bindJ,w2]; omega
   ·simp [h,h5,e1,e2,e3,e4,bindJ]
  ·simp [h,h5,bindJ]
section
variable {l : List Lx} {fin : Int}
theorem zku (hl:l.length≤100000):∀ (n i:Nat) (d:Int),i≤l.length→-(i:Int)≤d→d≤i→l.length - i<n→∃ x,
    bindJ (iter (z1m l) n ((i:Int),d)) (fun x=>some ((-1:Int),x))=some (deepT (tks l i) d i,x)
  | 0,_,_,_,_,_,h=>absurd h (yH _)
  | n + 1, i, d, hi, h1, h2, hn => by
    by_cases hlt:i<l.length
    · have e:=List.getElem?_eq_getElem hlt
      rw [ze8 e]
      unfold deepT
      by_cases h:40<d
      · refine ⟨d,?_⟩
        rw [z1z (r:=.stop ((i:Int),d))]
        · rw [if_pos h]; rfl
        · unfold z1m
          simp only [yW,hlt,yQ,yK,z4e e,zlV l[i] (a:=d) (by omega) (by omega),ob,h,yS]
      · rw [if_neg h]
        have ho:=zs4 (tk l[i])
        obtain ⟨x,hx⟩:=zku hl n (i+1) (d+opn (tk l[i])) hlt (by omega) (by omega) (by omega)
        refine ⟨x,?_⟩
        rw [z4f (s':=(((i+1:Nat):Int),d+opn (tk l[i])))]
        · exact hx
        · unfold z1m
          simp only [yW,hlt,yQ,yK,z4e e,zlV l[i] (a:=d) (by omega) (by omega),ob,h,yR,yP,yJ,zdc (j:=i) (by omega)]
    · refine ⟨d,?_⟩
      rw [zdR (by omega),z1z (r:=.go d)]
      · rfl
      · unfold z1m
        simp only [yW,hlt,yP,yJ]
theorem zoA (hl:l.length≤100000) {n:Nat} (hn:l.length<n):z83 n l=some (deepT (tks l 0) 0 0):=by
 unfold z83 z2c
 obtain ⟨x,hx⟩:=zku hl n 0 0 (yX _) (by omega) (by omega) (by omega)
 have hx' : bindJ (iter (z1m l) n (0,0)) (fun x=>some ((-1:Int),x))=some (deepT (tks l 0) 0 0,x):=hx
 rw [hx']; rfl
theorem zfb:∀ (ts:List Tk) (d:Int) (i:Nat),deepT ts d i = -1∨∃ j:Nat,deepT ts d i=(j:Int)∧i≤j∧j<i+ts.length
  | [],_,_=>.inl rfl
  | t :: r, d, i => by
    unfold deepT
    by_cases h:40<d
    · rw [if_pos h]; exact .inr ⟨i,rfl,Nat.le_refl _,by simp⟩
    · rw [if_neg h]
      rcases zfb r (d+opn t) (i+1) with h1 | ⟨j,h1,h2,h3⟩
      · exact .inl h1
      · exact .inr ⟨j,h1,by omega,by simp; omega⟩
def outR {α β:Type} (z:β) (m:(Int→Int)→α→β) (p:Ps α) (s:List UInt8):β×z11:=
 if (tokR s).2.E≠0 then (z,(tokR s).2)
 else if 0≤deepT (tks (tokR s).1 0) 0 0 then (z,⟨gA (tokR s).1 (deepT (tks (tokR s).1 0) 0 0),2⟩)
 else match run' (tokR s).1 p 0 with
  | .bad j _=>(z,⟨eA (tokR s).1 s.length j,180⟩)
  | .ok a j _=>if j<(tokR s).1.length then (z,⟨eA (tokR s).1 s.length j,180⟩) else (m (gA (tokR s).1) a,⟨0,0⟩)
def outL {α β:Type} (z:β) (m:(Int→Int)→α→β) (p:Ps α) (s:List UInt8):β×z11:=
 if 65536<s.length then (z,⟨0,2⟩) else outR z m p s
theorem z5t {α β:Type} {l:List α} {i:Nat} (h:i<l.length) (k:α→Option β):idx l (i:Int) k=k l[i]:=z4e (List.getElem?_eq_getElem h) k
theorem zpN {i:Nat} (h:i<l.length):gA l (i:Int)=l[i].At:=by
 unfold gA
 rw [if_neg (show ¬((i:Int)<0) by omega)]
 simp only [yY,List.getElem?_eq_getElem h]
theorem zrw {α β:Type} {z:β} {m:(Int→Int)→α→β} {p:Ps α} (s:List UInt8) (hs:s.length≤65536) {n:Nat} (hn:1000000<n) {F:Rd'→Option (Pn (β×Rd'))} (hF:Ag (tokR s).1 s.length 0 (m (gA (tokR s).1)) F p) :
    (obind (z4J n s) fun r3=>
 cond (decide (r3.2.E≠0))
  (some (z,r3.2))
  (obind (z83 n r3.1) fun r9=>
  cond (decide (0≤r9))
   (idx r3.1 r9 fun x14=>
   some (z,(z11.mk x14.At 2)))
   (obind (F (z7.mk r3.1 0 (s.length:Int))) fun r17=>
   pbind r17 (fun e20=>
    some (z,(z11.mk e20 180))) fun q19=>
   bindJ (S:=Unit)
    (cond (decide (q19.2.i_ < (r3.1.length : Int)))
     (obind (z16 q19.2) fun r31=>
     pbind r31 (fun e34=>
      some (.stop (z,(z11.mk e34 180)))) fun q33=>
     some (.go ()))
     (some (.go ())))
   (fun _ =>
    some (q19.1,(z11.mk 0 0))))))=some (outR z m p s):=by
  have hl:=zb4 s
  rw [zf4 s hs n (by omega)]
  unfold outR
  by_cases h0:(tokR s).2.E≠0
  · simp only [ob,h0,yQ,yK,yS,yZ,ne_eq]
  simp only [ob,h0,yP,yJ,yR,zoA (l:=(tokR s).1) (by omega) (n:=n) (by omega)]
  rcases zfb (tks (tokR s).1 0) 0 0 with h1 | ⟨j,h1,_,h3⟩
  · rw [h1]
    simp only [show ¬((0:Int)≤-1) by decide,yP,yJ,yR]
    have h4:=hF 0 (Nat.le_refl _) (yX _)
    have h5:=z2q (l:=(tokR s).1) p (j:=0) (yX _)
    rw [show F ⟨(tokR s).1,0,(s.length:Int)⟩=_ from h4]
    revert h5
    cases run' (tokR s).1 p 0 with
    | bad i r=>intro _; rfl
    | ok a i r =>
      rintro ⟨_,h6,_⟩
      simp only [conv,ob,pbind,yW]
      by_cases h7:i<(tokR s).1.length
      · simp only [h7,yQ,yK,yS,zc2,ob,pbind,bindJ]
      · simp only [h7,yP,yJ,yR,bindJ]
  · rw [h1]
    have h4:j<(tokR s).1.length:=by simpa [tks] using h3
    simp only [show (0:Int)≤(j:Int) by omega,yQ,yK,yS,z5t h4,zpN h4]
theorem zjY (s:List UInt8) {n N:Nat} (hn:1000000<n) (hN:65536<N):z39 n s=some (outL ⟨[],[]⟩ atSrc (zaK N N ⟨[],[]⟩) s):=by
 unfold z39 z4c outL
 by_cases hs:65536<s.length
 ·rw [if_pos hs,zhM s hs n]; rfl
 ·rw [if_neg hs]
  have hl:=zb4 s
  obtain ⟨k,rfl⟩ : ∃ k,n=k+2:=⟨n - 2,by omega⟩
  rw [zrw s (by omega) hn (m:=atSrc) (F:=z2Z (k+2)) (zof (N:=N) (by omega) (zph s) (by omega) (by omega) (by omega))]
  rfl
end
open Go.Abs Go.Lex
theorem zcn (y z:List UInt8) (r:List (List UInt8)):joinP (y::z::r) [32]=y++[32]++joinP (z::r) [32]:=by simp [joinP,List.intercalate]
theorem zjR (k:Nat):∀ L:List (List UInt8),(∀ x∈L,x.length≤k)→(joinP L [32]).length≤(k+1)*L.length
  | [],_=>by simp [joinP,List.intercalate]
  | [y], h => by
    have:=h y (by simp)
    simp [joinP,List.intercalate]; omega
  | y :: z :: r, h => by
    have ih:=zjR k (z::r) (fun x hx=>h x (List.mem_cons_of_mem _ hx))
    have hy:=h y (by simp)
    rw [zcn]
    simp only [yB,yC,yF] at ih ⊢
    rw [Nat.mul_add (k+1) (r.length+1) 1]
    omega
theorem zsX (l:List z6) (k:Nat) (h:∀ t∈l,t.S.length≤k):∀ x∈l.map wr,x.length≤2*k+2:=by
 intro x hx
 obtain ⟨t,ht,rfl⟩:=List.mem_map.1 hx
 have:=zom t; have:=h t ht
 omega
theorem zaM {α:Type} {l:List α} {i:Nat} (h:i<l.length):l.take (i+1)=l.take i++[l[i]]:=by
 rw [List.take_add_one,List.getElem?_eq_getElem h]; rfl
def textR (l:List z6):List UInt8×Int:=if (∀ t∈l,isT t=true) then (if 65536<(joinP (l.map wr) [32]).length then ([],2) else (joinP (l.map wr) [32],0)) else ([],1)
theorem zkh (l:List z6) (hl:l.length≤100000) (hs:∀ t∈l,t.S.length≤3000) (n:Nat) (hn:1000000<n):z8n n l=some (textR l):=by
  unfold z8n
  obtain ⟨r,e,h⟩:=z71 (step:=zcv n l) (fun x=>∃ i:Nat,x=((l.take i).map wr,(i:Int))∧i≤l.length∧∀ t∈l.take i,isT t=true) (fun x=>l.length - x.2.toNat)
    (fun r=>(r = .go (l.map wr)∧∀ t∈l,isT t=true)∨(r = .stop ([],1)∧¬ ∀ t∈l,isT t=true)) (by
    rintro _ ⟨i,rfl,hi,ha⟩
    unfold zcv
    by_cases hlt:i<l.length
    · have hm:l[i]∈l:=List.getElem_mem hlt
      have hsi:=hs _ hm
      simp only
      rw [yM (show (i:Int)<(l.length:Int) by omega),yK,z9v hlt,zmj _ (by omega) n (by omega),znB _ (by omega)]
      simp only [obind,yO]
      cases hT:isT l[i] with
      | false=>exact .inr ⟨_,rfl,.inr ⟨rfl,fun hq=>by rw [hq _ hm] at hT; cases hT⟩⟩
      | true =>
        refine .inl ⟨_,?_,⟨i+1,rfl,hlt,fun t ht=>?_⟩,by simp; omega⟩
        · simp only [yU,yJ]
          rw [z1n (by simp; omega),w64 (by omega) (by omega),zaM hlt,List.map_append]
          simp only [List.map_singleton,Int.natCast_add,Int.cast_ofNat_Int]
        · rw [zaM hlt] at ht
          rcases List.mem_append.1 ht with h1 | h1
          · exact ha t h1
          · rw [List.mem_singleton.1 h1]; exact hT
    · obtain rfl:i=l.length:=by omega
      refine .inr ⟨_,?_,.inl ⟨rfl,by simpa using ha⟩⟩
      simp only
      rw [yL (by omega),yJ]
      simp) n ([],0) ⟨0,by simp,by omega,by simp⟩ (by simp; omega)
  rw [e]
  unfold textR
  rcases h with ⟨rfl,h⟩ | ⟨rfl,h⟩
  · rw [z4z,if_pos h]
    have hj:=zjR 6002 (l.map wr) (zsX l 3000 hs)
    rw [List.length_map] at hj
    have hj2:(6002+1)*l.length≤6003*100000:=Nat.mul_le_mul_left _ hl
    unfold joinH
    rw [z1n ⟨by rw [List.length_map]; omega,by omega⟩]
    simp only [obind,yO]
    by_cases h2:65536<(joinP (l.map wr) [32]).length
    · rw [yM (by omega),if_pos h2]; rfl
    · rw [yL (by omega),if_neg h2]; rfl
  · rw [if_neg h]; rfl
end Go.Proofs.YtcmaoifiiigggaaGreatDoor
namespace Go.Lex
def escC (b:UInt8):List UInt8:=if b=34 then [92,34] else if b=92 then [92,92] else [b]
def escL (s:List UInt8):List UInt8:=s.flatMap escC
def wrL (k:Int) (w:List UInt8):List UInt8:=if k=4 then [34]++escL w++[34] else w
theorem zfY (b:UInt8) (s:List UInt8):escL (b::s)=escC b++escL s:=rfl
def sepB (b:UInt8):Bool:=!(ltr b) && decide (b≠61) && decide (b≠46)
theorem zp2 {b:UInt8} (h:sepB b=true):ltr b=false:=by simp [sepB] at h; exact h.1.1
theorem zoP {b:UInt8} (h:ltr b=false):rst b=false:=by simp [ltr] at h; exact h.1
theorem zsh {b:UInt8} (h:rst b=false):dg b=false:=by simp [rst] at h; exact h.1.2
theorem zp3 {b:UInt8} (h:sepB b=true):rst b=false:=zoP (zp2 h)
theorem zkY {b:UInt8} (h:sepB b=true) (a:UInt8):[a,b] ∉ longs:=by
 simp [sepB] at h
 simp [longs,h.1.2,h.2]
def okH (r r' : List UInt8):Prop:=∀ c t,r'=c::t→sepB c=true∨∃ t',r=c::t'
theorem znr {p:UInt8→Bool}:∀ (x:List UInt8) (y:List UInt8),(∀ b∈x,p b=true)→(∀ c t,y=c::t→p c=false)→(x++y).takeWhile p=x∧(x++y).dropWhile p=y
  | [], y, _, hy => by
    cases y with
    | nil=>simp
    | cons c t =>
      have h:=hy c t rfl
      simp [h]
  | b :: x, y, hx, hy => by
    obtain ⟨h1,h2⟩:=znr x y (fun b hb=>hx b (List.mem_cons_of_mem _ hb)) hy
    have hb:=hx b (List.mem_cons_self ..)
    simp only [yE,List.takeWhile_cons_of_pos hb,List.dropWhile_cons_of_pos hb,h1,h2]
    exact ⟨trivial,trivial⟩
theorem zqJ {p:UInt8→Bool}:∀ (x:List UInt8),∀ b∈x.takeWhile p,p b=true
  | [],b,h=>by simp at h
  | a :: x, b, h => by
    cases ha:p a with
    | true =>
      rw [List.takeWhile_cons_of_pos ha] at h
      rcases List.mem_cons.1 h with rfl | h
      · exact ha
      · exact zqJ x b h
    | false=>rw [List.takeWhile_cons_of_neg (by simp [ha])] at h; simp at h
theorem zhq {p:UInt8→Bool}:∀ (x:List UInt8) (c:UInt8) (t:List UInt8),x.dropWhile p=c::t→p c=false
  | [],c,t,h=>by simp at h
  | a :: x, c, t, h => by
    cases ha:p a with
    | true=>rw [List.dropWhile_cons_of_pos ha] at h; exact zhq x c t h
    | false=>rw [List.dropWhile_cons_of_neg (by simp [ha])] at h; cases h; exact ha
theorem zqL:∀ (n:Nat) (s out:List UInt8) (k:Int) (w r:List UInt8),s.length≤n→txtP out s = .inr (k,w,r)→
    k=4∧∃ v,w=out++v∧s=escL v++34::r∧∀ r',txtP out (escL v++34::r') = .inr (4,w,r'):=by
  intro n
  induction n with
  | zero =>
    intro s out k w r hn h
    match s,hn with
    | [],_=>rw [zaO] at h; cases h
  | succ n ih =>
    intro s out k w r hn h
    match s,hn with
    | [],_=>rw [zaO] at h; cases h
    | b :: t, hn =>
      rw [z5s] at h
      split at h
      · rename_i h1
        subst h1
        split at h
        · cases h
        · rename_i h2
          cases h
          refine ⟨rfl,[],by simp,rfl,fun r'=>?_⟩
          show txtP out (34::r')=_
          rw [z5s,if_pos rfl,if_neg h2]
      · rename_i h1
        split at h
        · rename_i h2
          subst h2
          match t,hn,h with
          | [],_,h=>cases h
          | c :: t', hn, h =>
            simp only at h
            split at h
            · rename_i h3
              obtain ⟨hk,v,hw,hs,hr⟩:=ih t' _ _ _ _ (by simp at hn; omega) h
              have hc:escC c=[92,c]:=by rcases h3 with rfl | rfl <;> rfl
              refine ⟨hk,c::v,by rw [hw]; simp,by rw [zfY,hc,hs]; simp,fun r'=>?_⟩
              rw [zfY,hc]
              show txtP out (92::c::(escL v++34::r'))=_
              rw [z5s,if_neg (by decide),if_pos rfl]
              simp only
              rw [if_pos h3]
              exact hr r'
            · cases h
        · rename_i h2
          split at h
          · cases h
          · rename_i h3
            obtain ⟨hk,v,hw,hs,hr⟩:=ih t _ _ _ _ (by simp at hn; omega) h
            have hb:escC b=[b]:=by unfold escC; rw [if_neg h1,if_neg h2]
            refine ⟨hk,b::v,by rw [hw]; simp,by rw [zfY,hb,hs]; simp,fun r'=>?_⟩
            rw [zfY,hb]
            show txtP out (b::(escL v++34::r'))=_
            rw [z5s,if_neg h1,if_neg h2,if_neg h3]
            exact hr r'
theorem zdo {s:List UInt8} {k:Int} {w r:List UInt8} (h:sgnP s = .inr (k,w,r)):k=5∧s=w++r∧w≠[]∧∀ r',okH r r'→sgnP (w++r') = .inr (5,w,r'):=by
  have one:∀ (b:UInt8) (hb:b∈shorts) (q:List UInt8),(∀ c t,q=c::t→[b,c] ∉ longs)→sgnP (b::q) = .inr (5,[b],q):=by
    intro b hb q hq
    cases q with
    | nil=>rw [zdP,if_pos hb]
    | cons c t=>rw [zbw,if_neg (hq c t rfl),if_pos hb]
  match s,h with
  | [b], h =>
    rw [zdP] at h
    split at h
    · rename_i hb
      cases h
      refine ⟨rfl,rfl,by simp,fun r' hr=>one b hb r' fun c t hc=>?_⟩
      rcases hr c t hc with h | ⟨t',h⟩
      · exact zkY h b
      · cases h
    · cases h
  | b :: c :: t, h =>
    rw [zbw] at h
    split at h
    · rename_i hl
      cases h
      refine ⟨rfl,rfl,by simp,fun r' _=>?_⟩
      show sgnP (b::c::r')=_
      rw [zbw,if_pos hl]
    · rename_i hl
      split at h
      · rename_i hb
        cases h
        refine ⟨rfl,rfl,by simp,fun r' hr=>one b hb r' fun c' t' hc=>?_⟩
        rcases hr c' t' hc with h | ⟨t'',h⟩
        · exact zkY h b
        · cases h; exact hl
      · cases h
theorem zo3 {s:List UInt8} {k:Int} {w r:List UInt8} (hs:∃ b t,s=b::t∧dg b=true) (h:numP s = .inr (k,w,r)):k=3∧s=w++r∧w≠[]∧∀ r',okH r r'→numP (w++r') = .inr (3,w,r'):=by
  unfold numP at h
  split at h
  · cases h
  · rename_i hb
    cases h
    refine ⟨rfl,(List.takeWhile_append_dropWhile).symm,?_,fun r' hr=>?_⟩
    · obtain ⟨b,t,rfl,hd⟩:=hs
      rw [List.takeWhile_cons_of_pos hd]; simp
    · generalize hw:s.takeWhile dg=w at *
      generalize hq:s.dropWhile dg=r at *
      have hal:∀ b∈w,dg b=true:=by rw [← hw]; exact zqJ s
      have hd0:∀ c t,r=c::t→ltr c=false:=by
        intro c t hc
        subst hc
        simp [zfM] at hb
        exact hb.2
      have hl:∀ c t,r'=c::t→ltr c=false:=by
        intro c t hc
        rcases hr c t hc with h | ⟨t',h⟩
        · exact zp2 h
        · exact hd0 c t' h
      obtain ⟨h1,h2⟩:=znr w r' hal (fun c t hc=>zsh (zoP (hl c t hc)))
      unfold numP
      rw [h1,h2]
      have hbad:zfM w r'=false:=by
        have h3:zfM w []=false:=by
          unfold zfM at hb ⊢
          simp only [Bool.or_eq_true,not_or,Bool.or_eq_false_iff] at hb ⊢
          exact ⟨⟨by simpa using hb.1.1,by simpa using hb.1.2⟩,trivial⟩
        cases r' with
        | nil=>exact h3
        | cons c t =>
          have:=hl c t rfl
          unfold zfM at h3 ⊢
          simp only [Bool.or_eq_false_iff] at h3 ⊢
          exact ⟨h3.1,this⟩
      rw [if_neg (by rw [hbad]; decide)]
theorem zo2 (kw:List (List UInt8)) {s:List UInt8} {k:Int} {w r:List UInt8} (hs:∃ b t,s=b::t∧rst b=true) (h:namP kw s = .inr (k,w,r)):k≠4∧s=w++r∧w≠[]∧∀ r',okH r r'→namP kw (w++r') = .inr (k,w,r'):=by
 have key:∀ r',okH (s.dropWhile rst) r'→(s.takeWhile rst++r').takeWhile rst=s.takeWhile rst∧(s.takeWhile rst++r').dropWhile rst=r':=by
  intro r' hr
  refine znr _ _ (zqJ s) fun c t hc=>?_
  rcases hr c t hc with h | ⟨t',h⟩
  ·exact zp3 h
  ·exact zhq s c t' h
 have hne:s.takeWhile rst≠[]:=by
  obtain ⟨b,t,rfl,hd⟩:=hs
  rw [List.takeWhile_cons_of_pos hd]; simp
 unfold namP at h
 split at h
 ·rename_i hk
  cases h
  refine ⟨by decide,(List.takeWhile_append_dropWhile).symm,hne,fun r' hr=>?_⟩
  obtain ⟨h1,h2⟩:=key r' hr
  unfold namP
  rw [h1,h2,if_pos hk]
 ·rename_i hk
  split at h
  ·cases h
  ·rename_i hl
   cases h
   refine ⟨by decide,(List.takeWhile_append_dropWhile).symm,hne,fun r' hr=>?_⟩
   obtain ⟨h1,h2⟩:=key r' hr
   unfold namP
   rw [h1,h2,if_neg hk,if_neg hl]
theorem zj5 {kw:List (List UInt8)} {s:List UInt8} {k:Int} {w r:List UInt8} (h:nextP kw s = .inr (k,w,r)):s=wrL k w++r∧wrL k w≠[]∧∀ r',okH r r'→nextP kw (wrL k w++r') = .inr (k,w,r'):=by
  match s,h with
  | b :: t, h =>
    have hcons:∀ (w r' : List UInt8),b::t=w++r→w≠[]→∃ t',w++r'=b::t':=by
      intro w r' h1 h2
      cases w with
      | nil=>exact absurd rfl h2
      | cons c w=>cases h1; exact ⟨_,rfl⟩
    rw [z6k] at h
    split at h
    · rename_i hb
      obtain ⟨h1,h2,h3,h4⟩:=zo2 kw ⟨b,t,rfl,by unfold rst; rw [hb]; rfl⟩ h
      have hw:wrL k w=w:=by unfold wrL; rw [if_neg h1]
      rw [hw]
      refine ⟨h2,h3,fun r' hr=>?_⟩
      have h5:=h4 r' hr
      obtain ⟨t',ht⟩:=hcons w r' h2 h3
      rw [ht] at h5 ⊢
      rw [z6k,if_pos hb,h5]
    · rename_i hb
      split at h
      · rename_i hd
        obtain ⟨rfl,h2,h3,h4⟩:=zo3 ⟨b,t,rfl,hd⟩ h
        have hw:wrL 3 w=w:=by unfold wrL; rw [if_neg (by decide)]
        rw [hw]
        refine ⟨h2,h3,fun r' hr=>?_⟩
        have h5:=h4 r' hr
        obtain ⟨t',ht⟩:=hcons w r' h2 h3
        rw [ht] at h5 ⊢
        rw [z6k,if_neg hb,if_pos hd,h5]
      · rename_i hd
        split at h
        · rename_i hq
          subst hq
          obtain ⟨rfl,v,hv,hs,hr⟩:=zqL _ _ _ _ _ _ (Nat.le_refl _) h
          rw [yD] at hv
          subst hv
          have hw:wrL 4 w=[34]++escL w++[34]:=by unfold wrL; rw [if_pos rfl]
          rw [hw]
          refine ⟨by rw [hs]; simp,by simp,fun r' _=>?_⟩
          rw [show [34]++escL w++[34]++r'=34::(escL w++34::r') by simp,z6k,if_neg hb,if_neg hd,if_pos rfl,hr r']
        · rename_i hq
          obtain ⟨rfl,h2,h3,h4⟩:=zdo h
          have hw:wrL 5 w=w:=by unfold wrL; rw [if_neg (by decide)]
          rw [hw]
          refine ⟨h2,h3,fun r' hr=>?_⟩
          have h5:=h4 r' hr
          obtain ⟨t',ht⟩:=hcons w r' h2 h3
          rw [ht] at h5 ⊢
          rw [z6k,if_neg hb,if_neg hd,if_neg hq,h5]
theorem zd4:∀ (c:Bool) (s:List UInt8) (b:UInt8) (r:List UInt8),skipP c s=b::r→∃ g,s=g++b::r∧skipP c g=[]∧∀ (b' : UInt8) (r' : List UInt8),b'≠35→spc b'=false→skipP c (g++b'::r')=b'::r'
  | true,[],b,r,h=>by simp [skipP] at h
  | false,[],b,r,h=>by simp [skipP] at h
  | true, a :: s, b, r, h => by
    rw [ziz] at h
    split at h
    · rename_i ha
      obtain ⟨g,h1,h2,h3⟩:=zd4 false s b r h
      refine ⟨a::g,by rw [h1]; rfl,by rw [ziz,if_pos ha,h2],fun b' r' hb hs=>?_⟩
      rw [yE,ziz,if_pos ha]; exact h3 b' r' hb hs
    · rename_i ha
      obtain ⟨g,h1,h2,h3⟩:=zd4 true s b r h
      refine ⟨a::g,by rw [h1]; rfl,by rw [ziz,if_neg ha,h2],fun b' r' hb hs=>?_⟩
      rw [yE,ziz,if_neg ha]; exact h3 b' r' hb hs
  | false, a :: s, b, r, h => by
    rw [zav] at h
    split at h
    · rename_i ha
      obtain ⟨g,h1,h2,h3⟩:=zd4 true s b r h
      refine ⟨a::g,by rw [h1]; rfl,by rw [zav,if_pos ha,h2],fun b' r' hb hs=>?_⟩
      rw [yE,zav,if_pos ha]; exact h3 b' r' hb hs
    · rename_i ha
      split at h
      · rename_i hp
        obtain ⟨g,h1,h2,h3⟩:=zd4 false s b r h
        refine ⟨a::g,by rw [h1]; rfl,by rw [zav,if_neg ha,if_pos hp,h2],fun b' r' hb hs=>?_⟩
        rw [yE,zav,if_neg ha,if_pos hp]; exact h3 b' r' hb hs
      · cases h
        refine ⟨[],rfl,rfl,fun b' r' hb hs=>?_⟩
        rw [yD,zav,if_neg hb,hs]; rfl
structure Tok (kw:List (List UInt8)) (k:Int) (w:List UInt8):Prop where
 head:∃ b t,wrL k w=b::t∧b≠35∧spc b=false
 read:∀ r',(∀ c t,r'=c::t→sepB c=true)→nextP kw (wrL k w++r') = .inr (k,w,r')
theorem zgU {kw:List (List UInt8)} {s:List UInt8} {b:UInt8} {q:List UInt8} {k:Int} {w r:List UInt8} (hs:skipP false s=b::q) (h:nextP kw (b::q) = .inr (k,w,r)):Tok kw k w:=by
 obtain ⟨h1,h2,h3⟩:=zj5 h
 obtain ⟨h4,h5⟩:=zdp _ _ _ _ hs
 refine ⟨?_,fun r' hr=>h3 r' fun c t hc=>.inl (hr c t hc)⟩
 cases hw:wrL k w with
 | nil=>exact absurd hw h2
 | cons c t=>rw [hw] at h1; cases h1; exact ⟨_,_,rfl,h4,h5⟩
inductive Lay (kw:List (List UInt8)):List UInt8→List (Int×Nat×List UInt8)→Prop
 | nil (s:List UInt8):skipP false s=[]→Lay kw s []
 | cons (g rest:List UInt8) (k:Int) (w:List UInt8) (l:List (Int×Nat×List UInt8)):skipP false g=[]→
  (∀ (b:UInt8) (r:List UInt8),b≠35→spc b=false→skipP false (g++b::r)=b::r)→Tok kw k w→
  (∀ r',okH rest r'→nextP kw (wrL k w++r') = .inr (k,w,r'))→Lay kw rest l→Lay kw (g++(wrL k w++rest)) ((k,(wrL k w++rest).length,w)::l)
theorem zrG (kw:List (List UInt8)):∀ (f:Nat) (s:List UInt8),s.length<f→(toksP kw f s).2=none→Lay kw s (toksP kw f s).1
  | 0,s,h,_=>by omega
  | f + 1, s, hf, h => by
    cases hs:skipP false s with
    | nil=>rw [z6g hs]; exact .nil s hs
    | cons b r =>
      cases hn:nextP kw (b::r) with
      | inl e=>rw [z8H hs hn] at h; cases h
      | inr q =>
        obtain ⟨k,w,rest⟩:=q
        rw [z7O hs hn] at h ⊢
        simp only at h ⊢
        obtain ⟨g,h1,h2,h3⟩:=zd4 _ _ _ _ hs
        obtain ⟨h4,h5,h6⟩:=zj5 hn
        have hlt:=zfg hn
        have hl:=zd3 false s
        rw [hs] at hl
        have ih:=zrG kw f rest (by simp only [yC] at hl hlt; omega) h
        have:=Lay.cons g rest k w _ h2 h3 (zgU hs hn) h6 ih
        rw [← h4,← h1,yC] at this
        exact this
theorem zdb {kw:List (List UInt8)} {g rest:List UInt8} {k:Int} {w:List UInt8} (hg:∀ (b:UInt8) (r:List UInt8),b≠35→spc b=false→skipP false (g++b::r)=b::r) (ht:Tok kw k w)
  (hn:nextP kw (wrL k w++rest) = .inr (k,w,rest)) (f:Nat):toksP kw (f+1) (g++(wrL k w++rest))=((k,(wrL k w++rest).length,w)::(toksP kw f rest).1,(toksP kw f rest).2):=by
 obtain ⟨b,t,h1,h2,h3⟩:=ht.head
 have e:wrL k w++rest=b::(t++rest):=by rw [h1]; rfl
 rw [e] at hn ⊢
 rw [z7O (hg b (t++rest) h2 h3) hn]
 rfl
theorem zoK {kw:List (List UInt8)} {s:List UInt8} {l:List (Int×Nat×List UInt8)} (h:Lay kw s l):(l.map fun x=>(wrL x.1 x.2.2).length).sum≤s.length∧l.length≤s.length∧∀ x∈l,Tok kw x.1 x.2.2:=by
  induction h with
  | nil s hs=>simp
  | cons g rest k w l h1 h2 h3 h4 h5 ih =>
    obtain ⟨i1,i2,i3⟩:=ih
    have hne:0<(wrL k w).length:=by
      obtain ⟨b,t,hb,_,_⟩:=h3.head
      rw [hb]; simp
    simp only [yI,List.sum_cons,yB,yC]
    refine ⟨by omega,by omega,fun x hx=>?_⟩
    rcases List.mem_cons.1 hx with rfl | hx
    · exact h3
    · exact i3 x hx
def GapOk (g:List UInt8):Prop:=∀ (b:UInt8) (r:List UInt8),b≠35→spc b=false→skipP false (g++b::r)=b::r
def zjK (g:List UInt8):Prop:=∃ c t,g=c::t∧sepB c=true
def catL:List (List UInt8×Int×List UInt8)→List UInt8
 | []=>[]
 | (g,k,w)::r=>g++(wrL k w++catL r)
theorem zno (kw:List (List UInt8)):∀ l:List (List UInt8×Int×List UInt8),(∀ x∈l,GapOk x.1∧Tok kw x.2.1 x.2.2)→(∀ x∈l.tail,zjK x.1)→∀ f,(catL l).length<f→
    ∃ L,toksP kw f (catL l)=(L,none)∧L.map (fun x=>(x.1,x.2.2))=l.map (·.2)
  | [],_,_,f,_=>⟨[],z6g rfl f,rfl⟩
  | (g, k, w) :: r, h1, h2, f, hf => by
    obtain ⟨hg,ht⟩:=h1 _ (List.mem_cons_self ..)
    match f,hf with
    | f + 1, hf =>
      have hne:0<(wrL k w).length:=by
        obtain ⟨b,t,hb,_,_⟩:=ht.head
        show 0<(wrL (g,k,w).2.1 (g,k,w).2.2).length
        rw [hb]; simp
      have hsep:∀ c t,catL r=c::t→sepB c=true:=by
        intro c t hc
        match r,h2,hc with
        | (g', k', w') :: r', h2, hc =>
          obtain ⟨c',t',e,hs⟩:=h2 _ (List.mem_cons_self ..)
          simp only at e
          subst e
          simp only [catL,yE,List.cons.injEq] at hc
          rw [← hc.1]; exact hs
      obtain ⟨L,e1,e2⟩:=zno kw r (fun x hx=>h1 x (List.mem_cons_of_mem _ hx)) (fun x hx=>h2 x (List.mem_of_mem_tail hx)) f (by
        simp only [catL,yB] at hf; omega)
      refine ⟨(k,(wrL k w++catL r).length,w)::L,?_,?_⟩
      · have h3:=zdb hg ht (ht.read _ hsep) f
        rw [e1] at h3
        exact h3
      · simp [e2]
theorem zi3:GapOk []:=fun b r h1 h2=>by rw [yD,zav,if_neg h1,h2]; rfl
theorem zhu:GapOk [32]:=fun b r h1 h2=>by
 show skipP false (32::b::r)=_
 rw [zav,if_neg (by decide),if_pos (by decide),zav,if_neg h1,h2]; rfl
theorem zgn:zjK [32]:=⟨32,[],rfl,by decide⟩
end Go.Lex
namespace Go.Proofs.YtcmaoifiiigggaaGreatDoor
open Go.Abs Go.Lex
theorem wr_eq (t:z6):wr t=wrL t.Kind t.S:=rfl
theorem zjD {s:List UInt8} {L:List (Int×Nat×List UInt8)} (h:toksP kwP (s.length+1) s=(L,none)):tokR s=(L.map (mkT s.length),⟨0,0⟩):=by
 unfold tokR; rw [h]
theorem zgT (s:List UInt8):((toksP kwP (s.length+1) s).2=none∧tokR s=((toksP kwP (s.length+1) s).1.map (mkT s.length),⟨0,0⟩))∨∃ a e,tokR s=([],⟨a,e⟩)∧e≠0:=by
 obtain ⟨_,_,h3⟩:=znp kwP (s.length+1) s
 cases h:(toksP kwP (s.length+1) s).2 with
 | none=>left; refine ⟨rfl,?_⟩; unfold tokR; rw [h]
 | some p=>right; obtain ⟨k,e⟩:=p; exact ⟨_,e,by unfold tokR; rw [h],(h3 k e h).1⟩
theorem zpS:∀ (l:List z6) (t:z6),joinP ((t::l).map wr) [32]=catL (([],t.Kind,t.S)::l.map fun x=>([32],x.Kind,x.S))
  | [],t=>by simp [joinP,List.intercalate,catL,wr_eq]
  | x :: l, t => by
    have ih:=zpS l x
    rw [yI,yI,zcn,← yI,ih]
    simp only [yI,catL,wr_eq,yD,yA]
theorem zln {s:List UInt8} {L:List (Int×Nat×List UInt8)} {N:Nat} (h:∀ x∈L,Tok kwP x.1 x.2.2):∀ t∈L.map (mkT N),Tok kwP t.Kind t.S:=by
 intro t ht
 obtain ⟨x,hx,rfl⟩:=List.mem_map.1 ht
 exact h x hx
open Go.Ps
section
variable {l : List Lx} {fin : Int}
theorem zbZ (l:List Lx):tks l 0=l.map tk:=rfl
abbrev srcP (N:Nat):Ps zG:=zaK N N ⟨[],[]⟩
def z4K (N:Nat) (s:List UInt8):zG×z11:=outL ⟨[],[]⟩ atSrc (srcP N) s
theorem zfz {s:List UInt8} (h:(tokR s).2.E=0):∃ L,Lay kwP s L∧tokR s=(L.map (mkT s.length),⟨0,0⟩):=by
 rcases zgT s with ⟨h1,h2⟩ | ⟨a,e,h1,h2⟩
 ·exact ⟨_,zrG kwP (s.length+1) s (Nat.lt_succ_self _) h1,h2⟩
 ·rw [h1] at h; exact absurd h h2
end
mutual
def szE:E→Nat
 | ⟨_,_,_,l⟩=>1+szEs l
def szEs:List E→Nat
 | []=>0
 | x::r=>szE x+szEs r
end
mutual
def szS:St→Nat
 | ⟨_,_,_,x,b,e⟩=>1+szE x+szSs b+szSs e
def szSs:List St→Nat
 | []=>0
 | x::r=>szS x+szSs r
end
mutual
def szC:Cl→Nat
 | ⟨_,_,_,t,_,_,_,c⟩=>1+t.length+szCs c
def szCs:List Cl→Nat
 | []=>0
 | x::r=>szC x+szCs r
end
def szL {α:Type} (m:α→Nat):List α→Nat
 | []=>0
 | x::r=>m x+szL m r
theorem zdQ:∀ l:List E,szEs l=szL szE l
 | []=>rfl
 | x::r=>by rw [szEs,zdQ r]; rfl
theorem zd9:∀ l:List St,szSs l=szL szS l
 | []=>rfl
 | x::r=>by rw [szSs,zd9 r]; rfl
theorem zjA:∀ l:List Cl,szCs l=szL szC l
 | []=>rfl
 | x::r=>by rw [szCs,zjA r]; rfl
def szR (r:zQ):Nat:=1+szCs r.Clauses
def szP (p:zL):Nat:=1+szL szR p.Rules
def szPr (p:zI):Nat:=1+p.Effects.length+szSs p.Code
def szSrc (x:zG):Nat:=szL szP x.Policies+szL szPr x.Programs
theorem zhK {α:Type} (m:α→Nat):∀ a b:List α,szL m (a++b)=szL m a+szL m b
 | [],b=>by simp [szL]
 | x::r,b=>by simp only [yE,szL,zhK m r b]; omega
theorem zce {α:Type} {m:α→Nat} (h:∀ x,1≤m x):∀ l:List α,l.length≤szL m l
 | []=>Nat.le_refl _
 | x::r=>by have:=zce h r; have:=h x; simp only [yC,szL]; omega
theorem z9H {α:Type} {m:α→Nat}:∀ {l:List α} {x:α},x∈l→m x≤szL m l
  | y :: r, x, h => by
    simp only [szL]
    rcases List.mem_cons.1 h with rfl | h
    · omega
    · have:=z9H (m:=m) h; omega
theorem zd8 (x:E):1≤szE x:=by cases x; simp only [szE]; omega
theorem zsB (x:St):1≤szS x:=by cases x; simp only [szS]; omega
theorem zsz (x:Cl):1≤szC x:=by cases x; simp only [szC]; omega
theorem zpe (x:zQ):1≤szR x:=by unfold szR; omega
theorem znf (x:zL):1≤szP x:=by unfold szP; omega
theorem zkd (x:zI):1≤szPr x:=by unfold szPr; omega
theorem zl4 {α β:Type} {m:α→Nat} {m' : β→Nat} {f:α→β}:∀ (l:List α),(∀ x∈l,m' (f x)=m x)→szL m' (l.map f)=szL m l
  | [],_=>rfl
  | x :: r, h => by
    simp only [yI,szL,h x (List.mem_cons_self ..),zl4 r fun y hy=>h y (List.mem_cons_of_mem _ hy)]
mutual
theorem zqv (g:Int→Int):∀ x:E,szE (atE g x)=szE x
 | ⟨op,a,s,l⟩=>by simp only [atE,szE,zpd g l]
theorem zpd (g:Int→Int):∀ l:List E,szEs (atEs g l)=szEs l
 | []=>rfl
 | x::r=>by simp only [atEs,szEs,zqv g x,zpd g r]
end
mutual
theorem zur (g:Int→Int):∀ x:St,szS (atS g x)=szS x
 | ⟨k,a,n,x,b,e⟩=>by simp only [atS,szS,zqv,zl5 g b,zl5 g e]
theorem zl5 (g:Int→Int):∀ l:List St,szSs (atSs g l)=szSs l
 | []=>rfl
 | x::r=>by simp only [atSs,szSs,zur g x,zl5 g r]
end
mutual
theorem zuo (g:Int→Int):∀ x:Cl,szC (atC g x)=szC x
 | ⟨k,a,n,t,am,d,h,c⟩=>by simp only [atC,szC,znc g c]
theorem znc (g:Int→Int):∀ l:List Cl,szCs (atCs g l)=szCs l
 | []=>rfl
 | x::r=>by simp only [atCs,szCs,zuo g x,znc g r]
end
theorem zuq (g:Int→Int) (x:zQ):szR (atR g x)=szR x:=by simp only [szR,atR,znc]
theorem zup (g:Int→Int) (x:zL):szP (atP g x)=szP x:=by simp only [szP,atP,zl4 x.Rules fun y _=>zuq g y]
theorem zsA (g:Int→Int) (x:zI):szPr (atPr g x)=szPr x:=by simp only [szPr,atPr,zl5]
theorem zke (g:Int→Int) (x:zG):szSrc (atSrc g x)=szSrc x:=by simp only [szSrc,atSrc,zl4 x.Policies fun y _=>zup g y,zl4 x.Programs fun y _=>zsA g y]
section
variable {α β : Type}
end
theorem zkX {step:Int→Option (Lp Int (Lp Unit Bool))} {L:Nat} (h:∀ i:Nat,i<L→step (i:Int)=some (.go ((i+1:Nat):Int))) (he:step (L:Int)=some (.stop (.go ()))):∀ (n i:Nat),i≤L→L - i<n→iter step n (i:Int)=some (.go ())
  | 0,_,_,h=>absurd h (yH _)
  | n + 1, i, hi, hn => by
    by_cases hl:i=L
    · subst hl; rw [z1z he]
    · rw [z4f (h i (by omega))]
      exact zkX h he n (i+1) (by omega) (by omega)
theorem zb2 {step:Int→Option (Lp Int (Lp Unit Bool))} {L n:Nat} {K:Unit→Option Bool} (h:∀ i:Nat,i<L→step (i:Int)=some (.go ((i+1:Nat):Int))) (he:step (L:Int)=some (.stop (.go ()))) (hn:L<n):bindJ (iter step n 0) K=K ():=by
 have:iter step n 0=_:=zkX h he n 0 (yX _) (by omega)
 rw [this]; rfl
theorem zc1 {j:Nat} (h:j≤1000000000):IntKind.i64.wrap ((j:Int)+1)=((j+1:Nat):Int):=by
 rw [w64 (by omega) (by omega)]; omega
theorem ziv (a:List (List UInt8)) (ha:a.length≤1000000000) {n:Nat} (hn:a.length<n):z9h n a a=some true:=by
 unfold z9h
 simp only [ne_eq,yV,yP,yJ]
 refine zb2 (L:=a.length) (fun i hi=>?_) ?_ hn
 ·unfold z97
  simp only [yW,hi,yQ,yK,z5t hi,yU,yJ,zc1 (j:=i) (by omega)]
 ·unfold z97
  simp only [Int.lt_irrefl,yP,yJ]
theorem zd1 (a:List Int) (ha:a.length≤1000000000) {n:Nat} (hn:a.length<n):z64 n a a=some true:=by
 unfold z64
 simp only [ne_eq,yV,yP,yJ]
 refine zb2 (L:=a.length) (fun i hi=>?_) ?_ hn
 ·unfold z7N
  simp only [yW,hi,yQ,yK,z5t hi,ne_eq,yV,yP,yJ,zc1 (j:=i) (by omega)]
 ·unfold z7N
  simp only [Int.lt_irrefl,yP,yJ]
theorem zkc {l:List E} {i:Nat} (h:i<l.length):szE l[i]≤szEs l:=by rw [zdQ]; exact z9H (List.getElem_mem h)
theorem znh {l:List St} {i:Nat} (h:i<l.length):szS l[i]≤szSs l:=by rw [zd9]; exact z9H (List.getElem_mem h)
theorem zne {l:List Cl} {i:Nat} (h:i<l.length):szC l[i]≤szCs l:=by rw [zjA]; exact z9H (List.getElem_mem h)
theorem zgS (l:List E):l.length≤szEs l:=by rw [zdQ]; exact zce zd8 l
theorem zng (l:List St):l.length≤szSs l:=by rw [zd9]; exact zce zsB l
theorem znd (l:List Cl):l.length≤szCs l:=by rw [zjA]; exact zce zsz l
theorem zd2:∀ (n:Nat) (x:E),szE x<n→szE x≤1000000000→z6Q n x x=some true
  | 0,_,h,_=>absurd h (yH _)
  | n + 1, ⟨op, a, s, l⟩, h, h' => by
    simp only [szE] at h h'
    have hl:=zgS l
    show z6m n (z6Q n) _ _=_
    unfold z6m zb0
    simp only [yQ,Bool.and_self,yK,ne_eq,yV,yP,yJ]
    refine (congrArg (fun o=>bindJ (obind o fun r15=>some (.go r15)) fun b9=>some b9) (zb2 (L:=l.length) (fun i hi=>?_) ?_ (by omega))).trans rfl
    · unfold z95
      have hm:=zkc hi
      simp only [yW,hi,yQ,yK,z5t hi,zd2 n l[i] (by omega) (by omega),ob,yU,yJ,zc1 (j:=i) (by omega)]
    · unfold z95
      simp only [Int.lt_irrefl,yP,yJ]
theorem zaJ:∀ (n:Nat) (l:List St),szSs l+1<n→szSs l≤1000000000→z6P n l l=some true
  | 0,_,h,_=>absurd h (yH _)
  | n + 1, l, h, h' => by
    have hl:=zng l
    show z6l n (z6P n) _ _=_
    unfold z6l
    simp only [ne_eq,yV,yP,yJ]
    refine zb2 (L:=l.length) (fun i hi=>?_) ?_ (by omega)
    · unfold z9w
      have hm:=znh hi
      have hq:=zd8 l[i].X
      have e:szS l[i]=1+szE l[i].X+szSs l[i].Body+szSs l[i].Else:=by cases l[i]; rfl
      simp only [yW,hi,yQ,yK,z5t hi,ne_eq,yV,yP,Bool.or_self,yJ,yU,bJ,zd2 n l[i].X (by omega) (by omega),zaJ n l[i].Body (by omega) (by omega),zaJ n l[i].Else (by omega) (by omega),ob,zc1 (j:=i) (by omega)]
    · unfold z9w
      simp only [Int.lt_irrefl,yP,yJ]
theorem zd0:∀ (n:Nat) (l:List Cl),szCs l+1<n→szCs l≤1000000000→z63 n l l=some true
  | 0,_,h,_=>absurd h (yH _)
  | n + 1, l, h, h' => by
    have hl:=znd l
    show z5k n (z63 n) _ _=_
    unfold z5k
    simp only [ne_eq,yV,yP,yJ]
    refine zb2 (L:=l.length) (fun i hi=>?_) ?_ (by omega)
    · unfold z7L
      have hm:=zne hi
      have e:szC l[i]=1+l[i].Texts.length+szCs l[i].Conds:=by cases l[i]; rfl
      have hb:∀ b:Bool,(b == b)=true:=by decide
      simp only [yW,hi,yQ,yK,z5t hi,ne_eq,yV,yP,Bool.or_self,Bool.and_self,yJ,yU,bJ,hb,ziv l[i].Texts (by omega) (n:=n) (by omega),zd0 n l[i].Conds (by omega) (by omega),ob,zc1 (j:=i) (by omega)]
    · unfold z7L
      simp only [Int.lt_irrefl,yP,yJ]
theorem zeX (l:List zQ) {n:Nat} (h:szL szR l+1<n) (h' : szL szR l≤1000000000):z7u n l l=some true:=by
 have hl:=zce zpe l
 unfold z7u
 simp only [ne_eq,yV,yP,yJ]
 refine zb2 (L:=l.length) (fun i hi=>?_) ?_ (by omega)
 ·unfold z96
  have hm:szR l[i]≤szL szR l:=z9H (List.getElem_mem hi)
  simp only [szR] at hm
  simp only [yW,hi,yQ,yK,z5t hi,ne_eq,yV,yP,Bool.or_self,yU,yJ,bJ,zd0 n l[i].Clauses (by omega) (by omega),ob,zc1 (j:=i) (by omega)]
 ·unfold z96
  simp only [Int.lt_irrefl,yP,yJ]
def tD (s:List UInt8):Lx:=⟨3,0,s⟩
def tQ (s:List UInt8):Lx:=⟨4,0,s⟩
def tN (s:List UInt8):Lx:=⟨1,0,s⟩
def tW (s:List UInt8):Lx:=⟨2,0,s⟩
def tG (s:List UInt8):Lx:=⟨5,0,s⟩
def opS (op:Int):List UInt8:=([[45],[110,111,116],[43],[45],[42],[47],[37],[60],[62],[60,61],[62,61],[61,61],[33,61],[97,110,100],[111,114]]:List (List UInt8))[(op - 8).toNat]?.getD []
def opTok (op:Int):Lx:=if op=9∨21≤op then tW (opS op) else tG (opS op)
def clos (x:E) (t:List Lx):List Lx:=if x.Args.length=0 then t else [tG [40]]++t++[tG [41]]
def zaQ (l:List E) (ts:List (List Lx)) (i:Nat):List Lx:=match l[i]?,ts[i]? with | some x,some t=>clos x t | _,_=>[]
def commas:List (List Lx)→List Lx
 | []=>[]
 | t::r=>t++(r.flatMap fun u=>[tG [44]]++u)
def bodyE (op:Int) (s:List UInt8) (l:List E) (ts:List (List Lx)):List Lx:=
 if op=1 then [tD s] else if op=2 then [tQ s] else if op=3 then [tN s] else if op=4 then [tW [116,114,117,101]] else if op=5 then [tW [102,97,108,115,101]] else if op=7 then [tW [115,116,97,116,117,115]] else if op=6 then [tW [104,101,97,100,101,114],tQ s]
 else if op=8∨op=9 then [opTok op]++zaQ l ts 0
 else if op=23 then zaQ l ts 0++[tW [105,110],tG [40]]++commas (ts.drop 1)++[tG [41]]
 else zaQ l ts 0++[opTok op]++zaQ l ts 1
mutual
def tokE:E→List Lx
 | ⟨op,_,s,l⟩=>bodyE op s l (tokEs l)
def tokEs:List E→List (List Lx)
 | []=>[]
 | x::r=>tokE x::tokEs r
end
theorem zgb:∀ l:List E,tokEs l=l.map tokE
 | []=>rfl
 | x::r=>by rw [tokEs,zgb r]; rfl
def locE (op:Int) (s:List UInt8) (k:Nat):Bool:=
 if op=1∨op=2∨op=3∨op=6 then decide (k=0)
 else decide (s=[]) && (if op=4∨op=5∨op=7 then decide (k=0) else if op=8∨op=9 then decide (k=1) else if op=23 then decide (2≤k) else (decide (10≤op) && decide (op≤22)) && decide (k=2))
mutual
def formE:E→Bool
 | ⟨op,_,s,l⟩=>locE op s l.length && znT l
def znT:List E→Bool
 | []=>true
 | x::r=>formE x && znT r
end
theorem zei:∀ l:List E,znT l=l.all formE
 | []=>rfl
 | x::r=>by rw [znT,zei r]; rfl
theorem zaR (x:E) (t:List Lx):(clos x t).length≤t.length+2:=by
 unfold clos
 split <;> simp
theorem zlR:∀ ts:List (List Lx),(commas ts).length≤(ts.map fun t=>t.length+1).sum
  | []=>Nat.le_refl _
  | t :: r => by
    have h:∀ r:List (List Lx),(r.flatMap fun u=>[tG [44]]++u).length=(r.map fun t=>t.length+1).sum:=by
      intro r
      induction r with
      | nil=>rfl
      | cons u r ih=>simp only [List.flatMap_cons,yB,ih,yI,List.sum_cons,yC,yF]; omega
    simp only [commas,yB,h,yI,List.sum_cons]; omega
theorem zpy (op:Int) (s:List UInt8):∀ (l:List E) (S:Nat),(l.map fun y=>(tokE y).length+1).sum≤6*S→(bodyE op s l (l.map tokE)).length+1≤6*(1+S)
  | [], S, h => by
    have c0:zaQ [] (([]:List E).map tokE) 0=[]:=rfl
    have c1:zaQ [] (([]:List E).map tokE) 1=[]:=rfl
    have c2:commas ((([]:List E).map tokE).drop 1)=[]:=rfl
    unfold bodyE
    rw [c0,c1,c2]
    repeat' split
    all_goals simp only [yB,yC,yF]
    all_goals omega
  | [x], S, h => by
    have c0:zaQ [x] ([x].map tokE) 0=clos x (tokE x):=rfl
    have c1:zaQ [x] ([x].map tokE) 1=[]:=rfl
    have c2:commas (([x].map tokE).drop 1)=[]:=rfl
    have h1:=zaR x (tokE x)
    simp only [yI,List.map_nil,List.sum_cons,List.sum_nil] at h
    unfold bodyE
    rw [c0,c1,c2]
    repeat' split
    all_goals simp only [yB,yC,yF]
    all_goals omega
  | x :: y :: r, S, h => by
    have c0:zaQ (x::y::r) ((x::y::r).map tokE) 0=clos x (tokE x):=rfl
    have c1:zaQ (x::y::r) ((x::y::r).map tokE) 1=clos y (tokE y):=rfl
    have c2:((x::y::r).map tokE).drop 1=(y::r).map tokE:=rfl
    have h1:=zaR x (tokE x)
    have h2:=zaR y (tokE y)
    have h3:=zlR ((y::r).map tokE)
    have e:((fun t:List Lx=>t.length+1) ∘ tokE)=fun y=>(tokE y).length+1:=rfl
    rw [List.map_map,e] at h3
    simp only [yI,List.sum_cons] at h h3
    unfold bodyE
    rw [c0,c1,c2]
    simp only [yI] at h3 ⊢
    generalize commas (tokE y::List.map tokE r)=q at h3 ⊢
    repeat' split
    all_goals simp only [yB,yC,yF]
    all_goals omega
mutual
theorem z6f:∀ x:E,(tokE x).length+1≤6*szE x
  | ⟨op, a, s, l⟩ => by
    have h:=zl7 l
    rw [tokE,zgb,szE]
    exact zpy op s l _ h
theorem zl7:∀ l:List E,(l.map fun y=>(tokE y).length+1).sum≤6*szEs l
  | []=>yX _
  | x :: r => by
    have h1:=z6f x
    have h2:=zl7 r
    simp only [yI,List.sum_cons,szEs] at h2 ⊢
    omega
end
theorem zlr (w:List Lx) (k:Int) (s:List UInt8) (h:w.length≤4000000000):z14 ⟨w⟩ k s=some ⟨w++[⟨k,0,s⟩]⟩:=by
 unfold z14
 rw [z1n (by simp; omega)]
theorem zf6 (w:List Lx) (s:List UInt8) {n:Nat} (hn:1<n) (h:w.length≤4000000000):zO n ⟨w⟩ [s]=some ⟨w++[tW s]⟩:=by
 unfold zO
 obtain ⟨m,rfl⟩ : ∃ m,n=m+2:=⟨n - 2,by omega⟩
 rw [z4f (s':=(1,w++[tW s])),z1z (r:=⟨w++[tW s]⟩)]
 ·rfl
 ·unfold z5j
  simp only [yC,yF,show ((0:Int)<((0+1:Nat):Int)) by decide,yQ,yK]
  rw [show (0:Int)=((0:Nat):Int) from rfl,z4e (x:=s) rfl,zlr w 2 s h]
  rfl
theorem zbX (w:List Lx) (s:List UInt8) {n:Nat} (hn:1<n) (h:w.length≤4000000000):zW n ⟨w⟩ [s]=some ⟨w++[tG s]⟩:=by
 unfold zW
 obtain ⟨m,rfl⟩ : ∃ m,n=m+2:=⟨n - 2,by omega⟩
 rw [z4f (s':=(1,w++[tG s])),z1z (r:=⟨w++[tG s]⟩)]
 ·rfl
 ·unfold z5i
  simp only [yC,yF,show ((0:Int)<((0+1:Nat):Int)) by decide,yQ,yK]
  rw [show (0:Int)=((0:Nat):Int) from rfl,z4e (x:=s) rfl,zlr w 5 s h]
  rfl
abbrev Wr:=zo
def wOut (b:Bool) (w:List Lx):Pn Wr:=if b then .ret ⟨w⟩ else .pan 3
theorem znv (w:List Lx):wOut true w = .ret ⟨w⟩:=rfl
theorem zuB (w:List Lx):wOut false w = .pan 3:=rfl
def WrE (F:Wr→E→Option (Pn Wr)) (x:E):Prop:=∀ w:List Lx,w.length+6*szE x≤3000000000→F ⟨w⟩ x=some (wOut (formE x) (w++tokE x))
theorem znI {F:Wr→E→Option (Pn Wr)} {x:E} (h:WrE F x) {n:Nat} (hn:1<n) (w:List Lx) (hw:w.length+6*szE x+3≤3000000000):z1E n F ⟨w⟩ x=some (wOut (formE x) (w++clos x (tokE x))):=by
  unfold z1E clos
  by_cases h0:x.Args.length=0
  · rw [yM (p:=(x.Args.length:Int)=0) (by omega),yK,if_pos h0,h w (by omega)]
    unfold wOut
    cases formE x <;> rfl
  · rw [yL (p:=(x.Args.length:Int)=0) (by omega),yJ,if_neg h0,zbX w _ hn (by omega)]
    simp only [ob]
    rw [h _ (by simp; omega)]
    have hl:=z6f x
    unfold wOut
    cases formE x with
    | false=>rfl
    | true =>
      simp only [yS,ob,pbind]
      rw [zbX _ _ hn (by simp; omega)]
      simp only [yA]; rfl
theorem zoI {n0:Nat} (h0:1<n0) (X:E) {F:Wr→E→Option (Pn Wr)} (hF:∀ x∈X.Args,WrE F x) (hlen:X.Args.length≤100000000):∀ (n i:Nat) (w:List Lx),1≤i→i≤X.Args.length - 1→X.Args.length - 1 - i<n→w.length+6*szL szE ((X.Args.drop 1).drop i)+1≤3000000000→
    iter (z27 n0 X F) n ((i:Int),w)=some (if ((X.Args.drop 1).drop i).all formE then .go (w++((X.Args.drop 1).drop i).flatMap fun x=>[tG [44]]++tokE x) else .stop (.pan 3))
  | 0,_,_,_,_,h,_=>absurd h (yH _)
  | n + 1, i, w, h1, hi, hn, hw => by
    have hd:(X.Args.drop ((1:Int).toNat))=X.Args.drop 1:=rfl
    have hl:(X.Args.drop 1).length=X.Args.length - 1:=by simp
    by_cases hlt:i<(X.Args.drop 1).length
    · have e:=List.drop_eq_getElem_cons hlt
      have hm:(X.Args.drop 1)[i]∈X.Args:=List.mem_of_mem_drop (List.getElem_mem hlt)
      have hx:=hF _ hm
      have hz:=zd8 (X.Args.drop 1)[i]
      have hy:=z6f (X.Args.drop 1)[i]
      rw [e,szL] at hw
      rw [e,List.all_cons,List.flatMap_cons]
      have hstep:z27 n0 X F ((i:Int),w)=some (if formE (X.Args.drop 1)[i] then .go (((i+1:Nat):Int),w++[tG [44]]++tokE (X.Args.drop 1)[i]) else .stop (.stop (.pan 3))):=by
        unfold z27
        simp only [hd,yW,hlt,yQ,yK,z5t hlt]
        rw [show min (i:Int) 1=((1:Nat):Int) by omega,z4e (x:=[44]) rfl,zbX w _ h0 (by omega)]
        simp only [ob]
        rw [hx _ (by rw [yB,yC,yF]; omega)]
        unfold wOut
        cases formE (X.Args.drop 1)[i] with
        | false=>rfl
        | true=>simp only [yS,ob,pbind,zc1 (j:=i) (by omega)]
      cases hf:formE (X.Args.drop 1)[i] with
      | false =>
        rw [hf] at hstep
        rw [z1z hstep]; rfl
      | true =>
        rw [hf] at hstep
        simp only [yS] at hstep
        rw [z4f hstep,zoI h0 X hF hlen n (i+1) _ (by omega) (by omega) (by omega) (by rw [yB,yB,yC,yF]; omega)]
        simp only [Bool.true_and,yA]
    · have e:(X.Args.drop 1).drop i=[]:=List.drop_eq_nil_of_le (by omega)
      rw [e]
      rw [z1z (r:=.go w)]
      · simp
      · unfold z27
        simp only [hd,yW,hlt,yP,yJ]
theorem zpY {n : Nat} (hn : 1 < n) (w : List Lx) (hw : w.length ≤ 4000000000) (op : Int) (h : op = 4 ∨ op = 5 ∨ op = 7) : (obind (z84) fun r55 =>
        obind (mfold (fun p:((List UInt8)×Int)=>decide (p.2=op)) (fun p x_61=>
         obind (zO n (zo.mk x_61) ([p.1]:List (List UInt8))) fun r76=>
         some r76.l_) r55 w) fun x_59=>
        some (Pn.ret (zo.mk x_59)))=some (.ret ⟨w++[if op=4 then tW [116,114,117,101] else if op=5 then tW [102,97,108,115,101] else tW [115,116,97,116,117,115]]⟩):=by
  have e:z84=some [([116,114,117,101],4),([102,97,108,115,101],5),([115,116,97,116,117,115],7),([104,101,97,100,101,114],6)]:=rfl
  rw [e]
  simp only [ob]
  have key:∀ s,(obind (zO n (zo.mk w) ([s]:List (List UInt8))) fun r76=>some r76.l_)=some (w++[tW s]):=fun s=>by rw [zf6 w s hn hw]; rfl
  rcases h with rfl | rfl | rfl
  · exact congrArg (fun o=>obind o fun x=>some (Pn.ret (zo.mk x))) (key [116,114,117,101])
  · exact congrArg (fun o=>obind o fun x=>some (Pn.ret (zo.mk x))) (key [102,97,108,115,101])
  · exact congrArg (fun o=>obind o fun x=>some (Pn.ret (zo.mk x))) (key [115,116,97,116,117,115])
def sgnT:List (List UInt8×Int):=[([43],10),([45],11),([42],12),([47],13),([37],14),([60],15),([62],16),([60,61],17),([62,61],18),([61,61],19),([33,61],20),([97,110,100],21),([111,114],22)]
theorem znO (op:Int) (h1:10≤op) (h2:op≤22):sgnT.filter (fun p=>decide (p.2=op))=[(opS op,op)]:=by
 have h:op=10∨op=11∨op=12∨op=13∨op=14∨op=15∨op=16∨op=17∨op=18∨op=19∨op=20∨op=21∨op=22:=by omega
 rcases h with rfl | rfl | rfl | rfl | rfl | rfl | rfl | rfl | rfl | rfl | rfl | rfl | rfl <;> rfl
theorem zsm {n : Nat} (hn : 1 < n) (w : List Lx) (hw : w.length ≤ 4000000000) (op : Int) (h1 : 10 ≤ op) (h2 : op ≤ 22) : (obind (z92) fun r184 =>
            obind (mfold (fun p:((List UInt8)×Int)=>decide (p.2=op)) (fun p x_190=>
             cond (decide (21≤p.2))
              (obind (zO n (zo.mk x_190) ([p.1]:List (List UInt8))) fun r206=>
              some r206.l_)
              (obind (zW n (zo.mk x_190) ([p.1]:List (List UInt8))) fun r210=>
              some r210.l_)) r184 w) fun x_188=>
            some (Lp.go (R:=Pn Wr) x_188))=some (.go (w++[opTok op])):=by
  have e:z92=some sgnT:=rfl
  rw [e]
  simp only [ob]
  unfold mfold
  rw [znO op h1 h2]
  dsimp only
  unfold opTok
  by_cases h:21≤op
  · rw [yM h,yK,zf6 w _ hn hw,if_pos (.inr h)]; rfl
  · rw [yL h,yJ,zbX w _ hn hw,if_neg (by omega)]; rfl
theorem znU (b:Bool):z2I b=some (if b then .ret () else .pan 3):=by cases b <;> rfl
theorem wexpr:∀ (n:Nat) (x:E),szE x+2<n→szE x≤100000000→WrE (z1D n) x
  | 0,_,h,_=>absurd h (yH _)
  | n + 1, ⟨op, a, s, l⟩, h, h' => by
    intro w hw
    rw [szE] at h h' hw
    have hlen:=zgS l
    have hF:∀ x∈l,WrE (z1D n) x:=fun x hx=>by
      have h1:szE x≤szEs l:=by rw [zdQ]; exact z9H hx
      exact wexpr n x (by omega) (by omega)
    have hsz:∀ x∈l,szE x≤szEs l:=fun x hx=>by rw [zdQ]; exact z9H hx
    show z3j n (z1D n) ⟨w⟩ ⟨op,a,s,l⟩=_
    unfold z3j
    rw [tokE,zgb,formE,zei]
    simp only [znU]
    have d0:decide ((l.length:Int)=0)=decide (l.length=0):=by rw [decide_eq_decide]; omega
    have d1:decide ((l.length:Int)=1)=decide (l.length=1):=by rw [decide_eq_decide]; omega
    have d2:decide ((l.length:Int)=2)=decide (l.length=2):=by rw [decide_eq_decide]; omega
    have d3:decide (2≤(l.length:Int))=decide (2≤l.length):=by rw [decide_eq_decide]; omega
    have g0:l.length=0→l.all formE=true:=fun q=>by rw [List.length_eq_zero_iff.1 q]; rfl
    simp only [d0,d1,d2,d3]
    by_cases o1:op=1∨op=2∨op=3∨op=6
    · have hl:locE op s l.length=decide (l.length=0):=by unfold locE; rw [if_pos o1]
      rw [hl]
      by_cases q:l.length=0
      · rw [yM q,g0 q]
        rcases o1 with rfl | rfl | rfl | rfl
        · simp only [yQ,yK,bJ,yS,ob,pbind,zlr w _ s (by omega)]; rfl
        · simp only [show ¬((2:Int)=1) by decide,yQ,yP,yK,yJ,bJ,yS,ob,pbind,zlr w _ s (by omega)]; rfl
        · simp only [show ¬((3:Int)=1) by decide,show ¬((3:Int)=2) by decide,yQ,yP,yK,yJ,bJ,yS,ob,pbind,zlr w _ s (by omega)]; rfl
        · simp only [show ¬((6:Int)=1) by decide,show ¬((6:Int)=2) by decide,show ¬((6:Int)=3) by decide,yQ,yP,yK,yJ,bJ,yS,ob,pbind,zf6 w _ (show 1<n by omega) (by omega)]
          rw [zlr _ _ s (by simp; omega)]
          simp only [ob,yA]; rfl
      · rw [yL q]
        rcases o1 with rfl | rfl | rfl | rfl <;> rfl
    obtain ⟨n1,n2,n3,n6⟩ : op≠1∧op≠2∧op≠3∧op≠6:=⟨fun q=>o1 (.inl q),fun q=>o1 (.inr (.inl q)),fun q=>o1 (.inr (.inr (.inl q))),fun q=>o1 (.inr (.inr (.inr q)))⟩
    unfold locE
    rw [if_neg o1]
    simp only [n1,n2,n3,n6,yP,yJ,bJ]
    by_cases hs:s=[]
    rotate_left
    · rw [yL hs]; rfl
    rw [yM hs]
    simp only [yS,ob,pbind,bJ,Bool.true_and]
    by_cases o2:op=4∨op=5∨op=7
    · rw [if_pos o2]
      have hb:(bindJ (S:=Bool) (R:=Pn Wr) (cond (decide (op=4)) (some (.go (decide (op=4)))) (cond (decide (op=5)) (some (.go (decide (op=5)))) (some (.go (decide (op=7)))))))=fun K=>K true:=by
        funext K
        rcases o2 with rfl | rfl | rfl <;> rfl
      rw [hb]
      simp only [yK]
      by_cases q:l.length=0
      · rw [yM q,g0 q]
        simp only [yS,ob,pbind]
        rw [zpY (show 1<n by omega) w (by omega) op o2]
        rcases o2 with rfl | rfl | rfl <;> rfl
      · rw [yL q]; rfl
    obtain ⟨n4,n5,n7⟩ : op≠4∧op≠5∧op≠7:=⟨fun q=>o2 (.inl q),fun q=>o2 (.inr (.inl q)),fun q=>o2 (.inr (.inr q))⟩
    rw [if_neg o2]
    simp only [n4,n5,n7,yP,yJ,bJ]
    by_cases o3:op=8∨op=9
    · rw [if_pos o3]
      have hb:bodyE op s l (l.map tokE)=[opTok op]++zaQ l (l.map tokE) 0:=by unfold bodyE; rw [if_neg n1,if_neg n2,if_neg n3,if_neg n4,if_neg n5,if_neg n7,if_neg n6,if_pos o3]
      rw [hb]
      by_cases q:l.length=1
      rotate_left
      · rw [yL q]
        rcases o3 with rfl | rfl <;> rfl
      · rw [yM q]
        match l,q,hF,hsz,hw,h,h' with
        | [x], _, hF, hsz, hw, h, h' =>
          have hx:=hF x (List.mem_cons_self ..)
          have hz:szEs [x]=szE x:=by simp [szEs]
          have fin:∀ t:Lx,(obind (z1E n (z1D n) ⟨w++[t]⟩ x) fun r90=>pbind r90 (fun e93=>some (.pan e93)) fun q92=>some (.ret q92))=some (wOut (([x]:List E).all formE) (w++([t]++zaQ [x] ([x].map tokE) 0))):=by
            intro t
            rw [znI hx (show 1<n by omega) _ (by simp; omega)]
            have:([x]:List E).all formE=formE x:=by simp
            rw [this]
            simp only [ob,wOut]
            cases formE x with
            | false=>rfl
            | true=>simp only [yS,pbind,yA]; rfl
          rcases o3 with rfl | rfl
          · simp only [yQ,yK,yS,ob,pbind,zbX w _ (show 1<n by omega) (by omega)]
            rw [show (0:Int)=((0:Nat):Int) from rfl,z4e (x:=x) rfl]
            exact fin (tG [45])
          · simp only [show ¬((9:Int)=8) by decide,yP,yJ,yQ,yK,yS,ob,pbind,zf6 w _ (show 1<n by omega) (by omega)]
            rw [show (0:Int)=((0:Nat):Int) from rfl,z4e (x:=x) rfl]
            exact fin (tW [110,111,116])
    obtain ⟨n8,n9⟩ : op≠8∧op≠9:=⟨fun q=>o3 (.inl q),fun q=>o3 (.inr q)⟩
    rw [if_neg o3]
    simp only [n8,n9,yP,yJ]
    by_cases o4:op=23
    · rw [if_pos o4]
      have hb:bodyE op s l (l.map tokE)=zaQ l (l.map tokE) 0++[tW [105,110],tG [40]]++commas ((l.map tokE).drop 1)++[tG [41]]:=by unfold bodyE; rw [if_neg n1,if_neg n2,if_neg n3,if_neg n4,if_neg n5,if_neg n7,if_neg n6,if_neg o3,if_pos o4]
      rw [hb,yM o4,yK]
      by_cases q:2≤l.length
      rotate_left
      · rw [yL q]; rfl
      rw [yM q]
      match l,q,hF,hsz,hw,h,h',hlen with
      | x :: y :: r, _, hF, hsz, hw, h, h', hlen =>
        have hx:=hF x (List.mem_cons_self ..)
        have hy:=hF y (List.mem_cons_of_mem _ (List.mem_cons_self ..))
        have zx:=zd8 x
        have zy:=zd8 y
        have hz:szEs (x::y::r)=szE x+(szE y+szL szE r):=by simp [szEs,zdQ]
        rw [hz] at hw h h'
        have lx:=z6f x
        have ly:=z6f y
        have lc:=zaR x (tokE x)
        simp only [yS,ob,pbind]
        rw [show (0:Int)=((0:Nat):Int) from rfl,z4e (x:=x) rfl,znI hx (show 1<n by omega) _ (by omega)]
        simp only [ob]
        rw [List.all_cons,List.all_cons]
        rcases yG (formE x) with fx | fx
        rotate_left
        · rw [fx]; rfl
        · rw [fx,znv]
          simp only [pbind,Bool.true_and]
          rw [zf6 _ _ (show 1<n by omega) (by simp; omega)]
          simp only [ob]
          rw [z1n ⟨by omega,by simp; omega,Int.le_refl _⟩]
          have hd:((x::y::r).drop ((1:Int).toNat))=y::r:=rfl
          have hstep:z27 n ⟨op,a,s,x::y::r⟩ (z1D n) (((0:Nat):Int),w++clos x (tokE x)++[tW [105,110]])=some (if formE y then .go (((1:Nat):Int),w++clos x (tokE x)++[tW [105,110]]++[tG [40]]++tokE y) else .stop (.stop (.pan 3))):=by
            unfold z27
            simp only [hd]
            rw [yM (by simp),yK,z4e (x:=y) rfl]
            rw [show min (((0:Nat):Int)) 1=((0:Nat):Int) from rfl,z4e (x:=[40]) rfl,zbX _ _ (show 1<n by omega) (by simp; omega)]
            simp only [ob]
            rw [hy _ (by simp; omega)]
            unfold wOut
            cases formE y with
            | false=>rfl
            | true=>simp only [yS,ob,pbind]; rfl
          obtain ⟨n,rfl⟩ : ∃ m,n=m+1:=⟨n - 1,by omega⟩
          rcases yG (formE y) with fy | fy
          rotate_left
          · rw [fy] at hstep ⊢
            rw [Bool.false_and,zuB,z1z hstep]; rfl
          · rw [fy] at hstep ⊢
            rw [Bool.true_and]
            simp only [yS] at hstep
            rw [z4f hstep]
            have:=zoI (n0:=n+1) (by omega) ⟨op,a,s,x::y::r⟩ hF (by show (x::y::r).length≤_; rw [hz] at hlen; omega) n 1 (w++clos x (tokE x)++[tW [105,110]]++[tG [40]]++tokE y) (Nat.le_refl _) (by simp) (by simp at hlen ⊢; omega) (by
              show _+6*szL szE r+1≤_
              simp; omega)
            rw [this]
            rw [show ((x::y::r).drop 1).drop 1=r from rfl]
            rcases yG (r.all formE) with fr | fr
            rotate_left
            · rw [fr]; rfl
            · rw [fr,znv]
              simp only [yS,bJ]
              have hr:∀ r:List E,(r.flatMap fun x=>[tG [44]]++tokE x).length≤7*szL szE r:=by
                intro r
                induction r with
                | nil=>simp
                | cons z r ih =>
                  have:=z6f z
                  have:=zd8 z
                  simp only [List.flatMap_cons,yB,yC,yF,szL] at ih ⊢
                  omega
              have hr':=hr r
              rw [zbX _ _ (by omega) (by simp at hr' ⊢; omega)]
              simp only [ob]
              have e1:zaQ (x::y::r) ((x::y::r).map tokE) 0=clos x (tokE x):=rfl
              have e2:((x::y::r).map tokE).drop 1=tokE y::r.map tokE:=rfl
              rw [e1,e2,commas]
              have e3:(r.map tokE).flatMap (fun u=>[tG [44]]++u)=r.flatMap fun x=>[tG [44]]++tokE x:=by rw [List.flatMap_map]
              rw [e3]
              simp only [yA]
              rfl
    rw [if_neg o4]
    have hb:bodyE op s l (l.map tokE)=zaQ l (l.map tokE) 0++[opTok op]++zaQ l (l.map tokE) 1:=by unfold bodyE; rw [if_neg n1,if_neg n2,if_neg n3,if_neg n4,if_neg n5,if_neg n7,if_neg n6,if_neg o3,if_neg o4]
    rw [hb]
    simp only [o4,yP,yJ]
    by_cases q:(10≤op∧op≤22)∧l.length=2
    rotate_left
    · have:((decide (10≤op) && decide (op≤22)) && decide (l.length=2))=false:=by
        cases h1:((decide (10≤op) && decide (op≤22)) && decide (l.length=2)) with
        | false=>rfl
        | true=>simp at h1; exact absurd h1 q
      rw [this]; rfl
    obtain ⟨⟨q1,q2⟩,q⟩:=q
    rw [yM q1,yM q2,yM q]
    match l,q,hF,hsz,hw,h,h' with
    | [x, y], _, hF, hsz, hw, h, h' =>
      have hx:=hF x (List.mem_cons_self ..)
      have hy:=hF y (List.mem_cons_of_mem _ (List.mem_cons_self ..))
      have hz:szEs [x,y]=szE x+szE y:=by simp [szEs]
      rw [hz] at hw h h'
      have zx:=zd8 x
      have zy:=zd8 y
      have lx:=z6f x
      have ly:=z6f y
      have lc:=zaR x (tokE x)
      simp only [Bool.and_self,yS,ob,pbind]
      rw [show (0:Int)=((0:Nat):Int) from rfl,z4e (x:=x) rfl,znI hx (show 1<n by omega) _ (by omega)]
      simp only [ob]
      rw [List.all_cons,List.all_cons,List.all_nil,Bool.and_true]
      rcases yG (formE x) with fx | fx
      rotate_left
      · rw [fx]; rfl
      · rw [fx,znv]
        simp only [pbind,Bool.true_and]
        rw [zsm (show 1<n by omega) _ (by simp; omega) op q1 q2,bJ]
        rw [show (1:Int)=((1:Nat):Int) from rfl,z4e (x:=y) rfl,znI hy (show 1<n by omega) _ (by simp; omega)]
        simp only [ob]
        rcases yG (formE y) with fy | fy
        · rw [fy,znv,znv]; simp only [pbind,yA]; rfl
        · rw [fy]; rfl
section
variable {l : List Lx}
def okO (l:List Lx):Out E→zR→Prop
 | .ok a i _,r=>r=⟨atE (gA l) a,(i:Int),false⟩
 | .bad i _,r=>r.I=(i:Int)∧r.Bad=true
def RfE (l:List Lx) (k:Nat) (F:List Lx→Int→Option zR) (p:Ps E):Prop:=∀ j:Nat,k≤j→j≤l.length→∃ r,F l (j:Int)=some r∧okO l (run' l p j) r
theorem RfE.mono {k k' : Nat} {F:List Lx→Int→Option zR} {p:Ps E} (h:RfE l k F p) (hk:k≤k'):RfE l k' F p:=fun j h1 h2=>h j (Nat.le_trans hk h1) h2
end
section
variable {l : List Lx}
end
section
variable {l : List Lx}
def okT {α:Type} (j:Nat) (m:α→St):Out α→z1g→Prop
 | .ok a i _,r=>r=⟨[m a],(i:Int),false⟩
 | .bad i _,r=>r.I=(i:Int)∧r.Bad=true∧r.L.length+j≤i
def okB (l:List Lx) (j:Nat):Out (List St)→z1g→Prop
 | .ok a i _,r=>r=⟨a.map (atS (gA l)),(i:Int),false⟩
 | .bad i _,r=>r.I=(i:Int)∧r.Bad=true∧r.L.length+j≤i
theorem okT.mono {α:Type} {j j' : Nat} {m:α→St} {o:Out α} {r:z1g} (h:okT j m o r) (hj:j'≤j):okT j' m o r:=by
 cases o with
 | ok a i q=>exact h
 | bad i q=>obtain ⟨h1,h2,h3⟩:=h; exact ⟨h1,h2,by omega⟩
def RfB (l:List Lx) (k:Nat) (F:List Lx→Int→Option z1g) (p:Ps (List St)):Prop:=∀ j:Nat,k≤j→j≤l.length→∃ r,F l (j:Int)=some r∧okB l j (run' l p j) r
theorem RfB.mono {k k' : Nat} {F:List Lx→Int→Option z1g} {p:Ps (List St)} (h:RfB l k F p) (hk:k≤k'):RfB l k' F p:=fun j h1 h2=>h j (Nat.le_trans hk h1) h2
end
section
variable {l : List Lx}
end
section
variable {l : List Lx}
def okC {α:Type} (j:Nat) (m:α→Cl):Out α→z12→Prop
 | .ok a i _,r=>r=⟨[m a],(i:Int),false⟩
 | .bad i _,r=>r.I=(i:Int)∧r.Bad=true∧r.L.length+j≤i
theorem okC.mono {α:Type} {j j' : Nat} {m:α→Cl} {o:Out α} {r:z12} (h:okC j m o r) (hj:j'≤j):okC j' m o r:=by
 cases o with
 | ok a i q=>exact h
 | bad i q=>obtain ⟨h1,h2,h3⟩:=h; exact ⟨h1,h2,by omega⟩
end
section
variable {l : List Lx}
end
section
variable {l : List Lx}
abbrev RS:=z1R
def okX {α:Type} (m:α→zG):Out α→RS→Prop
 | .ok a i _,r=>r=⟨m a,(i:Int),false⟩
 | .bad i _,r=>r.I=(i:Int)∧r.Bad=true
end
section
variable {l : List Lx}
end
def outT (T:List Lx):List UInt8×Int:=if (textR T).2=1 then ([],3) else if (textR T).2≠0∨0≤deepT (T.map tk) 0 0 then ([],2) else ((textR T).1,0)
def outW (b:Bool) (T:List Lx):List UInt8×Int:=if b then outT T else ([],3)
mutual
def smE (M:Nat):E→Prop
 | ⟨_,_,s,l⟩=>s.length≤M∧smEs M l
def smEs (M:Nat):List E→Prop
 | []=>True
 | x::r=>smE M x∧smEs M r
end
theorem zn4 (M:Nat):∀ l:List E,smEs M l ↔ ∀ x∈l,smE M x
  | []=>⟨fun _ x h=>absurd h y0,fun _=>trivial⟩
  | x :: r => by
    rw [smEs,zn4 M r]
    exact ⟨fun h y hy=>by rcases List.mem_cons.1 hy with rfl | hy; exact h.1; exact h.2 y hy,fun h=>⟨h x (List.mem_cons_self ..),fun y hy=>h y (List.mem_cons_of_mem _ hy)⟩⟩
def SmT (M:Nat) (T:List Lx):Prop:=∀ t∈T,t.S.length≤M
theorem zcd {M:Nat} {a b:List Lx} (ha:SmT M a) (hb:SmT M b):SmT M (a++b):=fun t ht=>by
 rcases List.mem_append.1 ht with h | h
 ·exact ha t h
 ·exact hb t h
theorem zeZ {M:Nat} {t:Lx} (h:t.S.length≤M):SmT M [t]:=fun u hu=>by rw [List.mem_singleton.1 hu]; exact h
theorem zn7 {M:Nat}:SmT M []:=fun u hu=>absurd hu y0
theorem zs1 (op:Int):(opS op).length≤3:=by
 unfold opS
 generalize (op - 8).toNat=k
 have:∀ s∈([[45],[110,111,116],[43],[45],[42],[47],[37],[60],[62],[60,61],[62,61],[61,61],[33,61],[97,110,100],[111,114]]:List (List UInt8)),s.length≤3:=by decide
 cases h:([[45],[110,111,116],[43],[45],[42],[47],[37],[60],[62],[60,61],[62,61],[61,61],[33,61],[97,110,100],[111,114]]:List (List UInt8))[k]? with
 | none=>exact yX _
 | some s=>exact this s (List.mem_of_getElem? h)
theorem zsq {M:Nat} (hM:10≤M) (op:Int):SmT M [opTok op]:=zeZ (by
 have:=zs1 op
 unfold opTok
 split <;> exact Nat.le_trans this (by omega))
theorem zqq {M:Nat} (hM:10≤M) (x:E) {t:List Lx} (h:SmT M t):SmT M (clos x t):=by
 unfold clos
 split
 ·exact h
 ·exact zcd (zcd (zeZ (by show 1≤M; omega)) h) (zeZ (by show 1≤M; omega))
theorem zn5 {M:Nat} (hM:10≤M) (l:List E) (ts:List (List Lx)) (h:∀ t∈ts,SmT M t) (i:Nat):SmT M (zaQ l ts i):=by
  unfold zaQ
  cases l[i]? with
  | none=>exact zn7
  | some x =>
    cases e:ts[i]? with
    | none=>exact zn7
    | some t=>exact zqq hM x (h t (List.mem_of_getElem? e))
theorem zn6 {M:Nat} (hM:10≤M):∀ (ts:List (List Lx)),(∀ t∈ts,SmT M t)→SmT M (commas ts)
  | [],_=>zn7
  | t :: r, h => zcd (h t (List.mem_cons_self ..)) fun u hu => by
    obtain ⟨v,hv,hu⟩:=List.mem_flatMap.1 hu
    exact zcd (zeZ (by show 1≤M; omega)) (h v (List.mem_cons_of_mem _ hv)) u hu
theorem zqp {M:Nat} (hM:10≤M) (op:Int) {s:List UInt8} (hs:s.length≤M) (l:List E) (ts:List (List Lx)) (h:∀ t∈ts,SmT M t):SmT M (bodyE op s l ts):=by
 have c:=zn5 hM l ts h
 have k:∀ t:Lx,t.S.length≤6→SmT M [t]:=fun t ht=>zeZ (by omega)
 unfold bodyE
 split
 ·exact zeZ hs
 split
 ·exact zeZ hs
 split
 ·exact zeZ hs
 split
 ·exact k _ (by decide)
 split
 ·exact k _ (by decide)
 split
 ·exact k _ (by decide)
 split
 ·exact zcd (a:=[tW [104,101,97,100,101,114]]) (k _ (by decide)) (zeZ hs)
 split
 ·exact zcd (zsq hM op) (c 0)
 split
 ·exact zcd (zcd (zcd (c 0) (zcd (a:=[tW [105,110]]) (k _ (by decide)) (k (tG [40]) (by decide)))) (zn6 hM _ fun t ht=>h t (List.mem_of_mem_drop ht))) (k _ (by decide))
 ·exact zcd (zcd (c 0) (zsq hM op)) (c 1)
mutual
theorem smT_E {M:Nat} (hM:10≤M):∀ x:E,smE M x→SmT M (tokE x)
  | ⟨op, a, s, l⟩, h => by
    rw [smE] at h
    rw [tokE]
    exact zqp hM op h.1 l _ (zsp hM l h.2)
theorem zsp {M:Nat} (hM:10≤M):∀ l:List E,smEs M l→∀ t∈tokEs l,SmT M t
  | [],_,t,ht=>absurd ht y0
  | x :: r, h, t, ht => by
    rw [smEs] at h
    rw [tokEs] at ht
    rcases List.mem_cons.1 ht with rfl | ht
    · exact smT_E hM x h.1
    · exact zsp hM r h.2 t ht
end
section
variable {α β : Type} {M : Nat}
end
end Go.Proofs.YtcmaoifiiigggaaGreatDoor
