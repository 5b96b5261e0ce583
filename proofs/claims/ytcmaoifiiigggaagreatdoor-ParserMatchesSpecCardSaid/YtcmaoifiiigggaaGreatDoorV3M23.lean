/-
  Texts that stand side by side: Qp, Qq.
-/
import Derived.Test.YtcmaoifiiigggaaGreatDoorV3M22
set_option linter.unusedSimpArgs false
set_option linter.unusedVariables false
namespace Go.Proofs.YtcmaoifiiigggaaGreatDoor
open Go.Abs Go.Ps Go.Lex
section
variable {l : List Lx} {fin : Int}
theorem zhW (N:Nat) (inner:Bool) (conds:Ps (List Cl)) (j:Nat) (hj:j≤l.length):Fw l j (zb7 N inner conds):=by
 unfold zb7
 refine zma ?_
 dsimp only
 by_cases h:z9B inner (tks l j).head? = 0
 ·rw [if_pos h]; exact trivial
 ·rw [if_neg h]
  obtain ⟨_,h2⟩:=(zfa inner (tks l j).head? rfl).2 h
  exact zp5 _ (z4V (by decide) h2)
theorem zpD (hl:l.length≤1000000) {k n N:Nat} (h17:17<n) (hn:l.length<n) (hN:l.length<N):Ag l fin k (List.map (atC (gA l))) (fun r=>z1G (n+1) r true) (zlS N):=by
 intro j hk hj
 show z23 n (z1G n) _ true=_
 unfold z23 zlS z4d
 refine zdB (by decide) hl hj fun hlt=>?_
 have hs:=zkt (l:=l) (fin:=fin) (rec:=z1G n) (conds:=.bad) (k:=0) (inner:=true) hl h17 hn hN (fun h=>absurd h (by decide))
 exact zgi hl hs (zhW N true .bad) n N (j+1) [] (yX _) hlt (by simp) (by omega) (by omega)
theorem zlQ (hl:l.length≤1000000) {k n N:Nat} (h17:17<n) (hn:l.length<n) (hN:l.length<N):Ag l fin k (List.map (atC (gA l))) (fun r=>z1G (n+2) r false) (zaP N):=by
 intro j hk hj
 show z23 (n+1) (z1G (n+1)) _ false=_
 unfold z23 zaP z4d
 refine zdB (by decide) hl hj fun hlt=>?_
 have hs:=zkt (l:=l) (fin:=fin) (rec:=z1G (n+1)) (conds:=zlS N) (k:=0) (inner:=false) hl (Nat.lt_succ_of_lt h17) (Nat.lt_succ_of_lt hn) hN (fun _=>zpD hl h17 hn hN)
 exact zgi hl hs (zhW N false (zlS N)) (n+1) N (j+1) [] (yX _) hlt (by simp) (by omega) (by omega)
theorem zhm {α β γ R:Type} {k j:Nat} {m:α→β} {F:Rd'→Option (Pn (β×Rd'))} {p:Ps α} {q:α→Ps γ} {K:β×Rd'→Option R} {B:Int→Option R} {V:Out γ→Option R} (hF:Ag l fin k m F p) (hk:k≤j) (hj:j≤l.length)
  (hB:∀ i r,V (.bad i r)=B (eA l fin i)) (hK:∀ (a:α) (i:Nat),j≤i→i≤l.length→K (m a,⟨l,(i:Int),fin⟩)=V (run' l (q a) i)) :
  (obind (F ⟨l,(j:Int),fin⟩) fun r2=>pbind r2 B K)=V (run' l (p.bind q) j):=by
 rw [z1A p q hj,hF j hk hj]
 have h:=z2q p hj
 revert h
 cases run' l p j with
 | ok a i r=>rintro ⟨h1,h2,_⟩; exact hK a i h1 h2
 | bad i r=>intro _; exact (hB i r).symm
theorem zkL {γ R:Type} {j:Nat} {k:Int} {s:List UInt8} {q:Ps γ} {K:Rd'→Option R} {B:Int→Option R} {V:Out γ→Option R} (hk:k≠0) (hl:l.length≤1000000) (hj:j≤l.length)
    (hB:∀ i r,V (.bad i r)=B (eA l fin i)) (hK:j<l.length→K ⟨l,((j+1:Nat):Int),fin⟩=V (run' l q (j+1))) :
    (obind (z19 ⟨l,(j:Int),fin⟩ k s) fun r2=>pbind r2 B K)=V (run' l ((needP k s).bind fun _=>q) j):=by
  rw [zoT hk hl hj,z1A _ _ hj]
  unfold needP
  rw [z1w]
  cases h:isK k s (tks l j).head? with
  | true =>
    have hlt:=z4I h
    simp only [yS,z1f _ hlt,z2w]
    exact hK hlt
  | false=>exact (hB _ _).symm
theorem zp0 (N:Nat) (j:Nat) (hj:j≤l.length):Fw l j (ruleP N):=by
  unfold ruleP
  refine zma ?_
  unfold Fw
  rw [z1A _ _ hj]
  unfold needP
  rw [z1w]
  cases h:isK 2 [114,117,108,101] (tks l j).head? with
  | true =>
    have hlt:=z4I h
    simp only [yS,z1f _ hlt,z2w]
    have he:=z2q (l:=l) ((takeP 1).bind fun n=>(zaP N).bind fun c=>Ps.ret (⟨n,(j:Int),c⟩ : zQ)) (j:=j+1) hlt
    revert he
    cases run' l ((takeP 1).bind fun n=>(zaP N).bind fun c=>Ps.ret (⟨n,(j:Int),c⟩ : zQ)) (j+1) with
    | ok a i r=>exact fun h=>h.1
    | bad i r=>exact fun _=>trivial
  | false=>exact trivial
abbrev S2:=List Lx×Int×Int×List zQ
abbrev S1:=List Lx×Int×Int×List zL×List zI
abbrev S0:=List zL×List zI×List Lx×Int×Int
abbrev R0:=Pn (zG×Rd')
def ruleV (l:List Lx) (fin:Int) (x:List zQ):Out zQ→Option (Lp S2 (Lp S2 (Lp S1 (Lp S0 R0))))
 | .ok a i _=>some (.go (l,(i:Int),fin,(x++[a]).map (atR (gA l))))
 | .bad i _=>some (.stop (.stop (.stop (.stop (.pan (eA l fin i))))))
theorem zkT (hl:l.length≤1000000) {n0 N:Nat} (h17:17<n0) (hn0:l.length<n0) (hN:l.length<N) (K:S2→Option (Lp S1 (Lp S0 R0))):∀ (n f j:Nat) (x:List zQ),j≤l.length→x.length≤j→l.length - j<n→l.length - j<f→
    bindJ (iter (z2K (n0+2)) n (l,(j:Int),fin,x.map (atR (gA l)))) K=match run' l (zby (ruleP N) f x) j with
      | .ok a i _=>K (l,(i:Int),fin,a.map (atR (gA l)))
      | .bad i _=>some (.stop (.stop (.pan (eA l fin i))))
  | 0,_,_,_,_,_,h,_=>absurd h (yH _)
  | _+1,0,_,_,_,_,_,h=>absurd h (yH _)
  | n + 1, f + 1, j, x, hj, hx, hn, hf => by
    unfold zby
    rw [z1w]
    rcases yG (isK 5 [125] (tks l j).head?) with h0 | h0
    · have hlt:=z4I h0
      simp only [sgn,h0,yS]
      rw [z1f _ hlt]
      rw [z1z (r:=.go (l,((j+1:Nat):Int),fin,x.map (atR (gA l))))]
      · rfl
      · unfold z2K
        simp only [z65 (k:=5) (by decide) hl hj,h0,ob,yS,yU,yJ]
    · simp only [sgn,h0,yR,yN]
      have hstep:z2K (n0+2) (l,(j:Int),fin,x.map (atR (gA l)))=ruleV l fin x (run' l (ruleP N) j):=by
        unfold z2K
        simp only [z65 (k:=5) (by decide) hl hj,h0,ob,yR,yN,yT,yK,z7l,nx_at]
        unfold ruleP
        rw [z1w]
        refine zkL (V:=ruleV l fin x) (by decide) hl hj (fun _ _=>rfl) fun hlt=>?_
        refine zhm (V:=ruleV l fin x) (zda (by decide) hl) (yX _) hlt (fun _ _=>rfl) fun s i h1 h2=>?_
        refine zhm (V:=ruleV l fin x) (zlQ (k:=0) hl h17 hn0 hN) (yX _) h2 (fun _ _=>rfl) fun c i h3 h4=>?_
        rw [z1n (by simp; omega)]
        simp only [z2w,ruleV,List.map_append,yI,List.map_nil,atR,zdS]
      rw [z1A _ _ hj]
      have hd:=z2q (l:=l) (ruleP N) hj
      have hq:=zp0 (l:=l) N j hj
      unfold Fw at hq
      cases e:run' l (ruleP N) j with
      | ok y i r =>
        rw [e] at hstep hd hq
        obtain ⟨h6,h7,_⟩:=hd
        dsimp only at hq
        rw [z4f hstep]
        exact zkT hl h17 hn0 hN K n f i (x++[y]) h7 (by simp; omega) (by omega) (by omega)
      | bad i r =>
        rw [e] at hstep
        rw [z1z hstep]; rfl
end
variable {l : List Lx} {fin : Int}
def zbc (N:Nat) (i:Int):Ps zL:=(takeP 1).bind fun n=>(z4d (ruleP N) N).bind fun r=>.ret ⟨n,i,r⟩
def z8s (N : Nat) (i : Int) : Ps zI := (takeP 1).bind fun n => .look fun u _ =>
        (if wrd [101,102,102,101,99,116,115] u then Ps.skip (z62.bind fun e=>listP z62 N [e]) else Ps.ret []).bind fun es=>
          (z4d (stmtP (exprP N N) N N) N).bind fun c=>.ret ⟨n,i,es,c⟩
theorem zf0 (N f:Nat) (x:zG):zaK N (f+1) x = .look fun t i=>if t.isNone=true then .ret x
      else if wrd [112,111,108,105,99,121] t then .skip ((zbc N i).bind fun p=>zaK N f ⟨x.Policies++[p],x.Programs⟩)
      else if wrd [112,114,111,103,114,97,109] t then .skip ((z8s N i).bind fun p=>zaK N f ⟨x.Policies,x.Programs++[p]⟩)
      else .bad:=by
  rw [zaK]
  refine congrArg Ps.look (funext fun t=>funext fun i=>?_)
  cases t with
  | none=>rfl
  | some t =>
    simp only [Option.isNone_some,yN,yR]
    unfold zbc z8s
    simp only [z7j]
    refine ite_congr rfl (fun _=>rfl) fun _=>ite_congr rfl (fun _=>congrArg Ps.skip (congrArg _ (funext fun n=>?_))) fun _=>rfl
    refine congrArg Ps.look (funext fun u=>funext fun _=>?_)
    refine Eq.symm ((z7j _ _ _).trans (congrArg _ (funext fun es=>z7j _ _ _)))
def polV (l:List Lx) (fin:Int) (x:zG):Out zL→Option (Lp S1 (Lp S0 R0))
 | .ok a i _=>some (.go (l,(i:Int),fin,(x.Policies++[a]).map (atP (gA l)),x.Programs.map (atPr (gA l))))
 | .bad i _=>some (.stop (.stop (.pan (eA l fin i))))
def prgV (l:List Lx) (fin:Int) (x:zG):Out zI→Option (Lp S1 (Lp S0 R0))
 | .ok a i _=>some (.go (l,(i:Int),fin,x.Policies.map (atP (gA l)),(x.Programs++[a]).map (atPr (gA l))))
 | .bad i _=>some (.stop (.stop (.pan (eA l fin i))))
theorem zlM {α S R:Type} (o:Option (Pn α)) (f:α→S) (B:Int→R) (K:S→Option R):bindJ (obind o fun r=>pbind r (fun e=>some (.stop (B e))) fun q=>some (.go (f q))) K=obind o fun r=>pbind r (fun e=>some (B e)) fun q=>K (f q):=by
 rcases o with _ | (r | e) <;> rfl
theorem zfw (hl:l.length≤1000000) (hw:WT l) {n0 N:Nat} (h17:17<n0) (hn0:l.length+3<n0) (hN:l.length<N):∀ (n f j:Nat) (x:zG),j≤l.length→x.Policies.length≤j→x.Programs.length≤j→l.length - j<n→l.length - j<f→
    bindJ (iter (z1I (n0+2)) n (l,(j:Int),fin,x.Policies.map (atP (gA l)),x.Programs.map (atPr (gA l)))) (fun s=>some (.ret ((⟨s.1,s.2.1⟩ : zG),(⟨s.2.2.1,s.2.2.2.1,s.2.2.2.2⟩ : Rd'))))=some (conv l fin (atSrc (gA l)) (run' l (zaK N f x) j))
  | 0,_,_,_,_,_,_,h,_=>absurd h (yH _)
  | _+1,0,_,_,_,_,_,_,h=>absurd h (yH _)
  | n + 1, f + 1, j, x, hj, hx, hy, hn, hf => by
    rw [zf0,z1w]
    by_cases hlt:j<l.length
    · obtain ⟨t,et⟩:=ziF hlt
      have eh:(tks l j).head? = some t:=by rw [et]; rfl
      have hsk:=fun k s h=>z65 (l:=l) (fin:=fin) (k:=k) (s:=s) h hl hj
      have hno:(tks l j).head?.isNone=false:=by rw [eh]; rfl
      simp only [hno,yN,yR]
      rcases yG (isK 2 [112,111,108,105,99,121] (tks l j).head?) with h0 | h0
      · simp only [wrd,h0,yS]
        have hstep:z1I (n0+2) (l,(j:Int),fin,x.Policies.map (atP (gA l)),x.Programs.map (atPr (gA l)))=polV l fin x (run' l (zbc N j) (j+1)):=by
          unfold z1I
          simp only [yW,hlt,yQ,yK,hsk 2 _ (by decide),h0,ob,yS,z7l,nx_at]
          unfold zbc
          refine zhm (V:=polV l fin x) (zda (by decide) hl) (yX _) hlt (fun _ _=>rfl) fun s i h1 h2=>?_
          unfold z4d
          rw [z7j]
          refine zkL (V:=polV l fin x) (by decide) hl h2 (fun _ _=>rfl) fun hlt2=>?_
          have h:=zkT (l:=l) (fin:=fin) hl (n0:=n0) (N:=N) h17 (by omega) hN (fun (x_45,x_46,x_47,x_48)=>
     need ((x.Policies.map (atP (gA l))).length+([(zL.mk s (gA l j) x_48)]:List zL).length≤4294967296) (
     some (.go (x_45, x_46, x_47, ((x.Policies.map (atP (gA l))) ++ ([(zL.mk s (gA l j) x_48)] : List zL)), x.Programs.map (atPr (gA l)))))) (n0 + 2) N (i + 1) [] hlt2 (by simp) (by omega) (by omega)
          refine h.trans ?_
          rw [z1A _ _ hlt2]
          cases run' l (zby (ruleP N) N []) (i+1) with
          | ok a i r =>
            dsimp only
            rw [z1n (by simp; omega)]
            simp only [z2w,polV,List.map_append,yI,List.map_nil,atP]
          | bad i r=>rfl
        rw [z1f _ hlt,z1A _ _ hlt]
        have hd:=z2q (l:=l) (zbc N j) (j:=j+1) hlt
        cases e:run' l (zbc N j) (j+1) with
        | ok y i r =>
          rw [e] at hstep hd
          obtain ⟨h6,h7,_⟩:=hd
          rw [z4f hstep]
          exact zfw hl hw h17 hn0 hN n f i ⟨x.Policies++[y],x.Programs⟩ h7 (by simp; omega) (by simp; omega) (by omega) (by omega)
        | bad i r =>
          rw [e] at hstep
          rw [z1z hstep]; rfl
      rcases yG (isK 2 [112,114,111,103,114,97,109] (tks l j).head?) with h3 | h3
      · simp only [wrd,h0,h3,yS,yR,yN]
        have hstep:z1I (n0+2) (l,(j:Int),fin,x.Policies.map (atP (gA l)),x.Programs.map (atPr (gA l)))=prgV l fin x (run' l (z8s N j) (j+1)):=by
          unfold z1I
          simp only [yW,hlt,yQ,yK,yJ,hsk 2 _ (by decide),h0,h3,ob,yS,yR,yN,z7l,nx_at]
          unfold z8s
          refine zhm (V:=prgV l fin x) (zda (by decide) hl) (yX _) hlt (fun _ _=>rfl) fun s i h1 h2=>?_
          have hbl:AgB l fin 0 (z2i (n0+2)) (z4d (stmtP (exprP N N) N N) N):=
            zlN hl (fun n k h=>zm4 hl hw n N k h (by omega) (by omega)) hN (n0+2) N 0 (by omega) (by omega)
          have fin' : ∀ (es:List Int) (i:Nat),i≤l.length→(obind (z2i (n0+2) ⟨l,(i:Int),fin⟩) fun r167=>
      pbind r167 (fun e170=>
       some (.stop (.stop (.pan e170)))) fun q169=>
      need ((x.Programs.map (atPr (gA l))).length+([(zI.mk s (gA l j) es q169.1)]:List zI).length≤4294967296) (
      some (.go (q169.2.l_, q169.2.i_, q169.2.at_, x.Policies.map (atP (gA l)), ((x.Programs.map (atPr (gA l))) ++ ([(zI.mk s (gA l j) es q169.1)] : List zI)))))) = prgV l fin x (run' l ((z4d (stmtP (exprP N N) N N) N).bind fun c => .ret ⟨s, (j : Int), es, c⟩) i) := by
            intro es i hi
            refine zhm (V:=prgV l fin x) hbl (yX _) hi (fun _ _=>rfl) fun c i h3 h4=>?_
            rw [z1n (by simp; omega)]
            simp only [z2w,prgV,List.map_append,yI,List.map_nil,atPr,z6Z]
          dsimp only
          rw [z1w,z65 (k:=2) (by decide) hl h2]
          rcases yG (isK 2 [101,102,102,101,99,116,115] (tks l i).head?) with h5 | h5
          · have hlt2:=z4I h5
            simp only [ob,wrd,h5,yS,yK]
            refine (zlM (z5E (n0+2) ⟨l,((i+1:Nat):Int),fin⟩) (fun q162=>(q162.2.l_,q162.2.i_,q162.2.at_,q162.1)) (fun e=>Lp.stop (Lp.stop (Pn.pan e))) _).trans ?_
            show _=prgV l fin x (run' l (.skip ((z62.bind fun e=>listP z62 N [e]).bind _)) i)
            rw [z1f _ hlt2]
            refine zhm (V:=prgV l fin x) (zm1 hl (by omega) (by omega) hN) (yX _) hlt2 (fun _ _=>rfl) fun es i h3 h4=>?_
            exact fin' es i h4
          · simp only [ob,wrd,h5,yR,yJ,yN]
            exact fin' [] i h2
        rw [z1f _ hlt,z1A _ _ hlt]
        have hd:=z2q (l:=l) (z8s N j) (j:=j+1) hlt
        cases e:run' l (z8s N j) (j+1) with
        | ok y i r =>
          rw [e] at hstep hd
          obtain ⟨h6,h7,_⟩:=hd
          rw [z4f hstep]
          exact zfw hl hw h17 hn0 hN n f i ⟨x.Policies,x.Programs++[y]⟩ h7 (by simp; omega) (by simp; omega) (by omega) (by omega)
        | bad i r =>
          rw [e] at hstep
          rw [z1z hstep]; rfl
      · simp only [wrd,h0,h3,yR,yN]
        rw [z1z (r:=.stop (.pan (eA l fin j)))]
        · rfl
        · unfold z1I
          simp only [yW,hlt,yQ,yK,yJ,hsk 2 _ (by decide),h0,h3,ob,yR,yN,z7l,zc2,pbind]
    · have e:(tks l j).head? = none:=by rw [zdR (by omega)]; rfl
      simp only [e,Option.isNone_none,yS]
      rw [z1z (r:=.go (x.Policies.map (atP (gA l)),x.Programs.map (atPr (gA l)),l,(j:Int),fin))]
      · rfl
      · unfold z1I
        simp only [yW,hlt,yP,yJ]
theorem zof (hl:l.length≤1000000) (hw:WT l) {n N:Nat} (h17:17<n) (hn:l.length+3<n) (hN:l.length<N):Ag l fin 0 (atSrc (gA l)) (z2Z (n+2)) (zaK N N ⟨[],[]⟩):=by
 intro j hk hj
 unfold z2Z
 exact zfw hl hw h17 hn hN (n+2) N j ⟨[],[]⟩ hj (by simp) (by simp) (by omega) (by omega)
end Go.Proofs.YtcmaoifiiigggaaGreatDoor
