/-
  Texts that stand side by side: Qp, Qq, LPh, LPj, Qr, LPk, LexQ, LPl, LexR, Qs.
-/
import Derived.Test.YtcmaoifiiigggaaGreatDoorV4M22
import Derived.Test.YtcmaoifiiigggaaGreatDoorFa
import Derived.Test.YtcmaoifiiigggaaGreatDoorFm
import Derived.Test.YtcmaoifiiigggaaGreatDoorFh
set_option linter.unusedSimpArgs false
set_option linter.unusedVariables false
namespace Go.Proofs.YtcmaoifiiigggaaGreatDoor
open Go.Abs Go.Ps Go.Lex
variable {l : List Lx} {fin : Int}
theorem zhW (N:Nat) (inner:Bool) (conds:Ps (List Cl)) (j:Nat) (hj:j≤l.length):Fw l j (zb7 N inner conds):=by
 unfold zb7
 refine zma ?_
 dsimp only
 by_cases h:z9B inner (tks l j).head? = 0
 ·rw [if_pos h]; exact trivial
 ·rw [if_neg h]
  obtain ⟨_,h2⟩:=(zfa inner (tks l j).head? rfl).2 h
  exact zp5 _ (z4V (by decide) h2)
theorem zpD (hl:l.length≤1000000) {k n N:Nat} (h17:17<n) (hn:l.length<n) (hN:l.length<N):Ag l fin k (List.map (atC (gA l))) (fun r=>z1G (n+1) r true) (zlS N):=by
 intro j hk hj
 show z23 n (z1G n) _ true=_
 unfold z23 zlS z4d
 refine zdB (by decide) hl hj fun hlt=>?_
 have hs:=zkt (l:=l) (fin:=fin) (rec:=z1G n) (conds:=.bad) (k:=0) (inner:=true) hl h17 hn hN (fun h=>absurd h (by decide))
 exact zgi hl hs (zhW N true .bad) n N (j+1) [] (Nat.zero_le _) hlt (by simp) (by omega) (by omega)
theorem zlQ (hl:l.length≤1000000) {k n N:Nat} (h17:17<n) (hn:l.length<n) (hN:l.length<N):Ag l fin k (List.map (atC (gA l))) (fun r=>z1G (n+2) r false) (zaP N):=by
 intro j hk hj
 show z23 (n+1) (z1G (n+1)) _ false=_
 unfold z23 zaP z4d
 refine zdB (by decide) hl hj fun hlt=>?_
 have hs:=zkt (l:=l) (fin:=fin) (rec:=z1G (n+1)) (conds:=zlS N) (k:=0) (inner:=false) hl (Nat.lt_succ_of_lt h17) (Nat.lt_succ_of_lt hn) hN (fun _=>zpD hl h17 hn hN)
 exact zgi hl hs (zhW N false (zlS N)) (n+1) N (j+1) [] (Nat.zero_le _) hlt (by simp) (by omega) (by omega)
theorem zhm {α β γ R:Type} {k j:Nat} {m:α→β} {F:Rd'→Option (Pn (β×Rd'))} {p:Ps α} {q:α→Ps γ} {K:β×Rd'→Option R} {B:Int→Option R} {V:Out γ→Option R} (hF:Ag l fin k m F p) (hk:k≤j) (hj:j≤l.length)
  (hB:∀ i r,V (.bad i r)=B (eA l fin i)) (hK:∀ (a:α) (i:Nat),j≤i→i≤l.length→K (m a,⟨l,(i:Int),fin⟩)=V (run' l (q a) i)) :
  (obind (F ⟨l,(j:Int),fin⟩) fun r2=>pbind r2 B K)=V (run' l (p.bind q) j):=by
 rw [z1A p q hj,hF j hk hj]
 have h:=z2q p hj
 revert h
 cases run' l p j with
 | ok a i r=>rintro ⟨h1,h2,_⟩; exact hK a i h1 h2
 | bad i r=>intro _; exact (hB i r).symm
theorem zkL {γ R:Type} {j:Nat} {k:Int} {s:List UInt8} {q:Ps γ} {K:Rd'→Option R} {B:Int→Option R} {V:Out γ→Option R} (hk:k≠0) (hl:l.length≤1000000) (hj:j≤l.length)
    (hB:∀ i r,V (.bad i r)=B (eA l fin i)) (hK:j<l.length→K ⟨l,((j+1:Nat):Int),fin⟩=V (run' l q (j+1))) :
    (obind (z19 ⟨l,(j:Int),fin⟩ k s) fun r2=>pbind r2 B K)=V (run' l ((needP k s).bind fun _=>q) j):=by
  rw [zoT hk hl hj,z1A _ _ hj]
  unfold needP
  rw [z1w]
  cases h:isK k s (tks l j).head? with
  | true =>
    have hlt:=z4I h
    simp only [if_true,z1f _ hlt,z2w]
    exact hK hlt
  | false=>exact (hB _ _).symm
theorem zp0 (N:Nat) (j:Nat) (hj:j≤l.length):Fw l j (ruleP N):=by
  unfold ruleP
  refine zma ?_
  unfold Fw
  rw [z1A _ _ hj]
  unfold needP
  rw [z1w]
  cases h:isK 2 [114,117,108,101] (tks l j).head? with
  | true =>
    have hlt:=z4I h
    simp only [if_true,z1f _ hlt,z2w]
    have he:=z2q (l:=l) ((takeP 1).bind fun n=>(zaP N).bind fun c=>Ps.ret (⟨n,(j:Int),c⟩ : zQ)) (j:=j+1) hlt
    revert he
    cases run' l ((takeP 1).bind fun n=>(zaP N).bind fun c=>Ps.ret (⟨n,(j:Int),c⟩ : zQ)) (j+1) with
    | ok a i r=>exact fun h=>h.1
    | bad i r=>exact fun _=>trivial
  | false=>exact trivial
abbrev S2:=List Lx×Int×Int×List zQ
abbrev S1:=List Lx×Int×Int×List zL×List zI
abbrev S0:=List zL×List zI×List Lx×Int×Int
abbrev R0:=Pn (zG×Rd')
def ruleV (l:List Lx) (fin:Int) (x:List zQ):Out zQ→Option (Lp S2 (Lp S2 (Lp S1 (Lp S0 R0))))
 | .ok a i _=>some (.go (l,(i:Int),fin,(x++[a]).map (atR (gA l))))
 | .bad i _=>some (.stop (.stop (.stop (.stop (.pan (eA l fin i))))))
theorem zkT (hl:l.length≤1000000) {n0 N:Nat} (h17:17<n0) (hn0:l.length<n0) (hN:l.length<N) (K:S2→Option (Lp S1 (Lp S0 R0))):∀ (n f j:Nat) (x:List zQ),j≤l.length→x.length≤j→l.length - j<n→l.length - j<f→
    bindJ (iter (z2K (n0+2)) n (l,(j:Int),fin,x.map (atR (gA l)))) K=match run' l (zby (ruleP N) f x) j with
      | .ok a i _=>K (l,(i:Int),fin,a.map (atR (gA l)))
      | .bad i _=>some (.stop (.stop (.pan (eA l fin i))))
  | 0,_,_,_,_,_,h,_=>absurd h (Nat.not_lt_zero _)
  | _+1,0,_,_,_,_,_,h=>absurd h (Nat.not_lt_zero _)
  | n + 1, f + 1, j, x, hj, hx, hn, hf => by
    unfold zby
    rw [z1w]
    rcases Bool.eq_false_or_eq_true (isK 5 [125] (tks l j).head?) with h0 | h0
    · have hlt:=z4I h0
      simp only [sgn,h0,if_true]
      rw [z1f _ hlt]
      rw [z1z (r:=.go (l,((j+1:Nat):Int),fin,x.map (atR (gA l))))]
      · rfl
      · unfold z2K
        simp only [z65 (k:=5) (by decide) hl hj,h0,ob,if_true,Bool.not_true,cond_false]
    · simp only [sgn,h0,if_false,Bool.false_eq_true]
      have hstep:z2K (n0+2) (l,(j:Int),fin,x.map (atR (gA l)))=ruleV l fin x (run' l (ruleP N) j):=by
        unfold z2K
        simp only [z65 (k:=5) (by decide) hl hj,h0,ob,if_false,Bool.false_eq_true,Bool.not_false,cond_true,z7l,nx_at]
        unfold ruleP
        rw [z1w]
        refine zkL (V:=ruleV l fin x) (by decide) hl hj (fun _ _=>rfl) fun hlt=>?_
        refine zhm (V:=ruleV l fin x) (zda (by decide) hl) (Nat.zero_le _) hlt (fun _ _=>rfl) fun s i h1 h2=>?_
        refine zhm (V:=ruleV l fin x) (zlQ (k:=0) hl h17 hn0 hN) (Nat.zero_le _) h2 (fun _ _=>rfl) fun c i h3 h4=>?_
        rw [z1n (by simp; omega)]
        simp only [z2w,ruleV,List.map_append,List.map_cons,List.map_nil,atR,zdS]
      rw [z1A _ _ hj]
      have hd:=z2q (l:=l) (ruleP N) hj
      have hq:=zp0 (l:=l) N j hj
      unfold Fw at hq
      cases e:run' l (ruleP N) j with
      | ok y i r =>
        rw [e] at hstep hd hq
        obtain ⟨h6,h7,_⟩:=hd
        dsimp only at hq
        rw [z4f hstep]
        exact zkT hl h17 hn0 hN K n f i (x++[y]) h7 (by simp; omega) (by omega) (by omega)
      | bad i r =>
        rw [e] at hstep
        rw [z1z hstep]; rfl
end Go.Proofs.YtcmaoifiiigggaaGreatDoor
namespace Go.Proofs.YtcmaoifiiigggaaGreatDoor
open Go.Abs Go.Ps Go.Lex
variable {l : List Lx} {fin : Int}
def zbc (N:Nat) (i:Int):Ps zL:=(takeP 1).bind fun n=>(z4d (ruleP N) N).bind fun r=>.ret ⟨n,i,r⟩
def z8s (N : Nat) (i : Int) : Ps zI := (takeP 1).bind fun n => .look fun u _ =>
        (if wrd [101,102,102,101,99,116,115] u then Ps.skip (z62.bind fun e=>listP z62 N [e]) else Ps.ret []).bind fun es=>
          (z4d (stmtP (exprP N N) N N) N).bind fun c=>.ret ⟨n,i,es,c⟩
theorem zf0 (N f:Nat) (x:zG):zaK N (f+1) x = .look fun t i=>if t.isNone=true then .ret x
      else if wrd [112,111,108,105,99,121] t then .skip ((zbc N i).bind fun p=>zaK N f ⟨x.Policies++[p],x.Programs⟩)
      else if wrd [112,114,111,103,114,97,109] t then .skip ((z8s N i).bind fun p=>zaK N f ⟨x.Policies,x.Programs++[p]⟩)
      else .bad:=by
  rw [zaK]
  refine congrArg Ps.look (funext fun t=>funext fun i=>?_)
  cases t with
  | none=>rfl
  | some t =>
    simp only [Option.isNone_some,Bool.false_eq_true,if_false]
    unfold zbc z8s
    simp only [z7j]
    refine ite_congr rfl (fun _=>rfl) fun _=>ite_congr rfl (fun _=>congrArg Ps.skip (congrArg _ (funext fun n=>?_))) fun _=>rfl
    refine congrArg Ps.look (funext fun u=>funext fun _=>?_)
    refine Eq.symm ((z7j _ _ _).trans (congrArg _ (funext fun es=>z7j _ _ _)))
def polV (l:List Lx) (fin:Int) (x:zG):Out zL→Option (Lp S1 (Lp S0 R0))
 | .ok a i _=>some (.go (l,(i:Int),fin,(x.Policies++[a]).map (atP (gA l)),x.Programs.map (atPr (gA l))))
 | .bad i _=>some (.stop (.stop (.pan (eA l fin i))))
def prgV (l:List Lx) (fin:Int) (x:zG):Out zI→Option (Lp S1 (Lp S0 R0))
 | .ok a i _=>some (.go (l,(i:Int),fin,x.Policies.map (atP (gA l)),(x.Programs++[a]).map (atPr (gA l))))
 | .bad i _=>some (.stop (.stop (.pan (eA l fin i))))
theorem zlM {α S R:Type} (o:Option (Pn α)) (f:α→S) (B:Int→R) (K:S→Option R):bindJ (obind o fun r=>pbind r (fun e=>some (.stop (B e))) fun q=>some (.go (f q))) K=obind o fun r=>pbind r (fun e=>some (B e)) fun q=>K (f q):=by
 rcases o with _ | (r | e) <;> rfl
theorem zfw (hl:l.length≤1000000) (hw:WT l) {n0 N:Nat} (h17:17<n0) (hn0:l.length+3<n0) (hN:l.length<N):∀ (n f j:Nat) (x:zG),j≤l.length→x.Policies.length≤j→x.Programs.length≤j→l.length - j<n→l.length - j<f→
    bindJ (iter (z1I (n0+2)) n (l,(j:Int),fin,x.Policies.map (atP (gA l)),x.Programs.map (atPr (gA l)))) (fun s=>some (.ret ((⟨s.1,s.2.1⟩ : zG),(⟨s.2.2.1,s.2.2.2.1,s.2.2.2.2⟩ : Rd'))))=some (conv l fin (atSrc (gA l)) (run' l (zaK N f x) j))
  | 0,_,_,_,_,_,_,h,_=>absurd h (Nat.not_lt_zero _)
  | _+1,0,_,_,_,_,_,_,h=>absurd h (Nat.not_lt_zero _)
  | n + 1, f + 1, j, x, hj, hx, hy, hn, hf => by
    rw [zf0,z1w]
    by_cases hlt:j<l.length
    · obtain ⟨t,et⟩:=ziF hlt
      have eh:(tks l j).head? = some t:=by rw [et]; rfl
      have hsk:=fun k s h=>z65 (l:=l) (fin:=fin) (k:=k) (s:=s) h hl hj
      have hno:(tks l j).head?.isNone=false:=by rw [eh]; rfl
      simp only [hno,Bool.false_eq_true,if_false]
      rcases Bool.eq_false_or_eq_true (isK 2 [112,111,108,105,99,121] (tks l j).head?) with h0 | h0
      · simp only [wrd,h0,if_true]
        have hstep:z1I (n0+2) (l,(j:Int),fin,x.Policies.map (atP (gA l)),x.Programs.map (atPr (gA l)))=polV l fin x (run' l (zbc N j) (j+1)):=by
          unfold z1I
          simp only [Int.ofNat_lt,hlt,decide_true,cond_true,hsk 2 _ (by decide),h0,ob,if_true,z7l,nx_at]
          unfold zbc
          refine zhm (V:=polV l fin x) (zda (by decide) hl) (Nat.zero_le _) hlt (fun _ _=>rfl) fun s i h1 h2=>?_
          unfold z4d
          rw [z7j]
          refine zkL (V:=polV l fin x) (by decide) hl h2 (fun _ _=>rfl) fun hlt2=>?_
          have h:=zkT (l:=l) (fin:=fin) hl (n0:=n0) (N:=N) h17 (by omega) hN (fun (x_45,x_46,x_47,x_48)=>
     need ((x.Policies.map (atP (gA l))).length+([(zL.mk s (gA l j) x_48)]:List zL).length≤4294967296) (
     some (.go (x_45, x_46, x_47, ((x.Policies.map (atP (gA l))) ++ ([(zL.mk s (gA l j) x_48)] : List zL)), x.Programs.map (atPr (gA l)))))) (n0 + 2) N (i + 1) [] hlt2 (by simp) (by omega) (by omega)
          refine h.trans ?_
          rw [z1A _ _ hlt2]
          cases run' l (zby (ruleP N) N []) (i+1) with
          | ok a i r =>
            dsimp only
            rw [z1n (by simp; omega)]
            simp only [z2w,polV,List.map_append,List.map_cons,List.map_nil,atP]
          | bad i r=>rfl
        rw [z1f _ hlt,z1A _ _ hlt]
        have hd:=z2q (l:=l) (zbc N j) (j:=j+1) hlt
        cases e:run' l (zbc N j) (j+1) with
        | ok y i r =>
          rw [e] at hstep hd
          obtain ⟨h6,h7,_⟩:=hd
          rw [z4f hstep]
          exact zfw hl hw h17 hn0 hN n f i ⟨x.Policies++[y],x.Programs⟩ h7 (by simp; omega) (by simp; omega) (by omega) (by omega)
        | bad i r =>
          rw [e] at hstep
          rw [z1z hstep]; rfl
      rcases Bool.eq_false_or_eq_true (isK 2 [112,114,111,103,114,97,109] (tks l j).head?) with h3 | h3
      · simp only [wrd,h0,h3,if_true,if_false,Bool.false_eq_true]
        have hstep:z1I (n0+2) (l,(j:Int),fin,x.Policies.map (atP (gA l)),x.Programs.map (atPr (gA l)))=prgV l fin x (run' l (z8s N j) (j+1)):=by
          unfold z1I
          simp only [Int.ofNat_lt,hlt,decide_true,cond_true,cond_false,hsk 2 _ (by decide),h0,h3,ob,if_true,if_false,Bool.false_eq_true,z7l,nx_at]
          unfold z8s
          refine zhm (V:=prgV l fin x) (zda (by decide) hl) (Nat.zero_le _) hlt (fun _ _=>rfl) fun s i h1 h2=>?_
          have hbl:AgB l fin 0 (z2i (n0+2)) (z4d (stmtP (exprP N N) N N) N):=
            zlN hl (fun n k h=>zm4 hl hw n N k h (by omega) (by omega)) hN (n0+2) N 0 (by omega) (by omega)
          have fin' : ∀ (es:List Int) (i:Nat),i≤l.length→(obind (z2i (n0+2) ⟨l,(i:Int),fin⟩) fun r167=>
      pbind r167 (fun e170=>
       some (.stop (.stop (.pan e170)))) fun q169=>
      need ((x.Programs.map (atPr (gA l))).length+([(zI.mk s (gA l j) es q169.1)]:List zI).length≤4294967296) (
      some (.go (q169.2.l_, q169.2.i_, q169.2.at_, x.Policies.map (atP (gA l)), ((x.Programs.map (atPr (gA l))) ++ ([(zI.mk s (gA l j) es q169.1)] : List zI)))))) = prgV l fin x (run' l ((z4d (stmtP (exprP N N) N N) N).bind fun c => .ret ⟨s, (j : Int), es, c⟩) i) := by
            intro es i hi
            refine zhm (V:=prgV l fin x) hbl (Nat.zero_le _) hi (fun _ _=>rfl) fun c i h3 h4=>?_
            rw [z1n (by simp; omega)]
            simp only [z2w,prgV,List.map_append,List.map_cons,List.map_nil,atPr,z6Z]
          dsimp only
          rw [z1w,z65 (k:=2) (by decide) hl h2]
          rcases Bool.eq_false_or_eq_true (isK 2 [101,102,102,101,99,116,115] (tks l i).head?) with h5 | h5
          · have hlt2:=z4I h5
            simp only [ob,wrd,h5,if_true,cond_true]
            refine (zlM (z5E (n0+2) ⟨l,((i+1:Nat):Int),fin⟩) (fun q162=>(q162.2.l_,q162.2.i_,q162.2.at_,q162.1)) (fun e=>Lp.stop (Lp.stop (Pn.pan e))) _).trans ?_
            show _=prgV l fin x (run' l (.skip ((z62.bind fun e=>listP z62 N [e]).bind _)) i)
            rw [z1f _ hlt2]
            refine zhm (V:=prgV l fin x) (zm1 hl (by omega) (by omega) hN) (Nat.zero_le _) hlt2 (fun _ _=>rfl) fun es i h3 h4=>?_
            exact fin' es i h4
          · simp only [ob,wrd,h5,if_false,cond_false,Bool.false_eq_true]
            exact fin' [] i h2
        rw [z1f _ hlt,z1A _ _ hlt]
        have hd:=z2q (l:=l) (z8s N j) (j:=j+1) hlt
        cases e:run' l (z8s N j) (j+1) with
        | ok y i r =>
          rw [e] at hstep hd
          obtain ⟨h6,h7,_⟩:=hd
          rw [z4f hstep]
          exact zfw hl hw h17 hn0 hN n f i ⟨x.Policies,x.Programs++[y]⟩ h7 (by simp; omega) (by simp; omega) (by omega) (by omega)
        | bad i r =>
          rw [e] at hstep
          rw [z1z hstep]; rfl
      · simp only [wrd,h0,h3,if_false,Bool.false_eq_true]
        rw [z1z (r:=.stop (.pan (eA l fin j)))]
        · rfl
        · unfold z1I
          simp only [Int.ofNat_lt,hlt,decide_true,cond_true,cond_false,hsk 2 _ (by decide),h0,h3,ob,if_false,Bool.false_eq_true,z7l,zc2,pbind]
    · have e:(tks l j).head? = none:=by rw [zdR (by omega)]; rfl
      simp only [e,Option.isNone_none,if_true]
      rw [z1z (r:=.go (x.Policies.map (atP (gA l)),x.Programs.map (atPr (gA l)),l,(j:Int),fin))]
      · rfl
      · unfold z1I
        simp only [Int.ofNat_lt,hlt,decide_false,cond_false]
theorem zof (hl:l.length≤1000000) (hw:WT l) {n N:Nat} (h17:17<n) (hn:l.length+3<n) (hN:l.length<N):Ag l fin 0 (atSrc (gA l)) (z2Z (n+2)) (zaK N N ⟨[],[]⟩):=by
 intro j hk hj
 unfold z2Z
 exact zfw hl hw h17 hn hN (n+2) N j ⟨[],[]⟩ hj (by simp) (by simp) (by omega) (by omega)
end Go.Proofs.YtcmaoifiiigggaaGreatDoor
namespace Go.Proofs.YtcmaoifiiigggaaGreatDoor
open Go.Abs Go.Lex
theorem zb4 (s:List UInt8):(tokR s).1.length≤s.length:=by
 obtain ⟨h,_,_⟩:=znp kwP (s.length+1) s
 unfold tokR
 split
 ·simp
 ·simpa using h
end Go.Proofs.YtcmaoifiiigggaaGreatDoor
namespace Go.Proofs.YtcmaoifiiigggaaGreatDoor
open Go.Abs Go.Lex
theorem z4z {S R:Type} (s:S) (k:S→Option R):bindJ (some (.go s)) k=k s:=rfl
def wr (t:z6):List UInt8:=if t.Kind=4 then [34]++esc t.S++[34] else t.S
theorem zom (t:z6):(wr t).length≤2*t.S.length+2:=by
 have h1:=zdC t.S; have h2:=k2_le t.S
 unfold wr
 split
 ·simp; omega
 ·omega
theorem znB (t:z6) (h:t.S.length≤1000000):zba t=some (wr t):=by
 have h1:=zdC t.S; have h2:=k2_le t.S
 unfold zba wr
 by_cases hk:t.Kind=4
 ·rw [decide_eq_false (by simpa using hk),cond_false,if_pos hk]
  unfold zjW zk7
  rw [z1n (by rfl),z1n ⟨⟨rfl,rfl⟩,rfl,by omega⟩]
  simp only [obind,Option.bind_some]
  rw [z1n (by simp; omega),z1n (by simp; omega)]
 ·rw [decide_eq_true (by simpa using hk),cond_true,if_neg hk]
def isT (t:z6):Bool:=decide ((tokR (wr t)).2.E=0) && decide ((tokR (wr t)).1=[⟨t.Kind,0,t.S⟩])
theorem zrN (x:z6) (k:Int) (s:List UInt8):(x=⟨k,0,s⟩)↔x.Kind=k∧x.At=0∧x.S=s:=by
 obtain ⟨a,b,c⟩:=x
 simp
theorem zmj (t:z6) (h:t.S.length≤30000) (n:Nat) (hn:100000<n):zaB n t=some (isT t):=by
  have hw:=zom t
  unfold zaB isT
  rw [znB t (by omega)]
  simp only [obind,Option.bind_some]
  rw [zf4 (wr t) (by omega) n (by omega)]
  simp only [Option.bind_some]
  generalize tokR (wr t)=r
  obtain ⟨l,p⟩:=r
  by_cases h0:p.E=0
  · match l with
    | []=>simp [h0,z4z]
    | [x] =>
      have h3:(x=(⟨t.Kind,0,t.S⟩ : z6))↔_:=zrN x t.Kind t.S
      have h4:(decide (x.Kind=t.Kind) && (decide (x.At=0) && decide (x.S=t.S)))=decide (x=(⟨t.Kind,0,t.S⟩ : z6)):=by
        rw [Bool.eq_iff_iff]; simp only [Bool.and_eq_true,decide_eq_true_eq]; rw [h3]
      simp [h0,z4z,idx,h4]
    | x :: y :: l =>
      have hlen:decide (((x::y::l).length:Int)=1)=false:=decide_eq_false (by simp; omega)
      rw [hlen,Bool.and_false,cond_false]
      simp [z4z]
  · simp [h0,z4z]
theorem znt:∀ (n:Nat) (s out:List UInt8) (k:Int) (w r:List UInt8),s.length≤n→txtP out s = .inr (k,w,r)→k=4:=by
  intro n
  induction n with
  | zero =>
    intro s out k w r hn h
    match s,hn with
    | [],_=>rw [zaO] at h; cases h
  | succ n ih =>
    intro s out k w r hn h
    match s,hn with
    | [],_=>rw [zaO] at h; cases h
    | b :: t, hn =>
      rw [z5s] at h
      split at h
      · split at h
        · cases h
        · cases h; rfl
      · split at h
        · match t,hn,h with
          | [],_,h=>cases h
          | c :: t', hn, h =>
            simp only at h
            split at h
            · exact ih t' _ _ _ _ (by simp at hn; omega) h
            · cases h
        · split at h
          · cases h
          · exact ih t _ _ _ _ (by simp at hn; omega) h
end Go.Proofs.YtcmaoifiiigggaaGreatDoor
namespace Go.Proofs.YtcmaoifiiigggaaGreatDoor
open Go.Abs Go.Ps Go.Lex
theorem zrT {s:List UInt8} {k:Int} {w r:List UInt8} (h:nextP kwP s = .inr (k,w,r)):(k=2→w∈kwP)∧(k=5→w≠[97,110,100]∧w≠[111,114]):=by
  cases s with
  | nil=>cases h
  | cons b s =>
    rw [z6k] at h
    by_cases h1:sm b
    · rw [if_pos h1] at h
      unfold namP at h
      by_cases h2:(b::s).takeWhile rst∈kwP
      · rw [if_pos h2] at h
        cases h
        exact ⟨fun _=>h2,fun q=>absurd q (by decide)⟩
      · rw [if_neg h2] at h
        split at h
        · cases h
        · cases h
          exact ⟨fun q=>absurd q (by decide),fun q=>absurd q (by decide)⟩
    rw [if_neg h1] at h
    by_cases h2:dg b
    · rw [if_pos h2] at h
      unfold numP at h
      split at h
      · cases h
      · cases h
        exact ⟨fun q=>absurd q (by decide),fun q=>absurd q (by decide)⟩
    rw [if_neg h2] at h
    by_cases h3:b=34
    · rw [if_pos h3] at h
      have:=znt _ _ _ _ _ _ (Nat.le_refl _) h
      subst this
      exact ⟨fun q=>absurd q (by decide),fun q=>absurd q (by decide)⟩
    rw [if_neg h3] at h
    cases s with
    | nil =>
      rw [zdP] at h
      split at h
      · cases h
        exact ⟨fun q=>absurd q (by decide),fun q=>⟨fun e=>by simpa using congrArg List.length e,fun e=>by simpa using congrArg List.length e⟩⟩
      · cases h
    | cons c s =>
      rw [zbw] at h
      split at h
      · rename_i hm
        cases h
        exact ⟨fun q=>absurd q (by decide),fun q=>⟨fun e=>by simpa using congrArg List.length e,fun e=>by rw [e] at hm; exact absurd hm (by decide)⟩⟩
      · split at h
        · cases h
          exact ⟨fun q=>absurd q (by decide),fun q=>⟨fun e=>by simpa using congrArg List.length e,fun e=>by simpa using congrArg List.length e⟩⟩
        · cases h
theorem zpi:∀ (f:Nat) (s:List UInt8),∀ x∈(toksP kwP f s).1,(x.1=2→x.2.2∈kwP)∧(x.1=5→x.2.2≠[97,110,100]∧x.2.2≠[111,114])
  | 0,s,x,h=>by cases h
  | f + 1, s, x, h => by
    cases hs:skipP false s with
    | nil=>rw [z6g hs] at h; cases h
    | cons b r =>
      cases hn:nextP kwP (b::r) with
      | inl e=>rw [z8H hs hn] at h; cases h
      | inr q =>
        obtain ⟨k,w,rest⟩:=q
        rw [z7O hs hn] at h
        rcases List.mem_cons.1 h with rfl | h
        · exact zrT hn
        · exact zpi f rest x h
theorem zph (s:List UInt8):WT (tokR s).1:=by
 intro t ht
 unfold tokR at ht
 split at ht
 ·cases ht
 ·obtain ⟨x,hx,rfl⟩:=List.mem_map.1 ht
  exact zpi _ _ x hx
def opn (t:Tk):Int:=if t.1=5 then (if t.2=[40]∨t.2=[123] then 1 else if t.2=[41]∨t.2=[125] then -1 else 0) else 0
def deepT:List Tk→Int→Nat→Int
 | [],_,_=>-1
 | t::r,d,i=>if 40<d then i else deepT r (d+opn t) (i+1)
theorem zs4 (t:Tk) : -1≤opn t∧opn t≤1:=by
 unfold opn
 split
 ·split
  ·omega
  ·split <;> omega
 ·omega
theorem zlV (t:Lx) {a:Int} (h0 : -1000000≤a) (h1:a≤1000000):z7A t a=some (decide (40<a),if 40<a then a else a+opn (tk t)):=by
 unfold z7A
 by_cases h:40<a
 ·simp [h]
 ·have w1:IntKind.i64.wrap (a+1)=a+1:=w64 (by omega) (by omega)
  have w2:IntKind.i64.wrap (a - 1)=a - 1:=w64 (by omega) (by omega)
  unfold opn tk
  by_cases h5:t.Kind=5
  ·by_cases e1:t.S=[40]
   ·simp [h,h5,e1,bindJ,w1]
   by_cases e2:t.S=[123]
   ·simp [h,h5,e1,e2,bindJ,w1]
   by_cases e3:t.S=[41]
   ·simp [h,h5,e1,e2,e3,bindJ,w2]; omega
   by_cases e4:t.S=[125]
   ·simp [h,h5,e1,e2,e3,e4,bindJ,w2]; omega
   ·simp [h,h5,e1,e2,e3,e4,bindJ]
  ·simp [h,h5,bindJ]
variable {l : List Lx} {fin : Int}
theorem zku (hl:l.length≤100000):∀ (n i:Nat) (d:Int),i≤l.length→-(i:Int)≤d→d≤i→l.length - i<n→∃ x,
    bindJ (iter (z1m l) n ((i:Int),d)) (fun x=>some ((-1:Int),x))=some (deepT (tks l i) d i,x)
  | 0,_,_,_,_,_,h=>absurd h (Nat.not_lt_zero _)
  | n + 1, i, d, hi, h1, h2, hn => by
    by_cases hlt:i<l.length
    · have e:=List.getElem?_eq_getElem hlt
      rw [ze8 e]
      unfold deepT
      by_cases h:40<d
      · refine ⟨d,?_⟩
        rw [z1z (r:=.stop ((i:Int),d))]
        · rw [if_pos h]; rfl
        · unfold z1m
          simp only [Int.ofNat_lt,hlt,decide_true,cond_true,z4e e,zlV l[i] (a:=d) (by omega) (by omega),ob,h,if_true]
      · rw [if_neg h]
        have ho:=zs4 (tk l[i])
        obtain ⟨x,hx⟩:=zku hl n (i+1) (d+opn (tk l[i])) hlt (by omega) (by omega) (by omega)
        refine ⟨x,?_⟩
        rw [z4f (s':=(((i+1:Nat):Int),d+opn (tk l[i])))]
        · exact hx
        · unfold z1m
          simp only [Int.ofNat_lt,hlt,decide_true,cond_true,z4e e,zlV l[i] (a:=d) (by omega) (by omega),ob,h,if_false,decide_false,cond_false,zdc (j:=i) (by omega)]
    · refine ⟨d,?_⟩
      rw [zdR (by omega),z1z (r:=.go d)]
      · rfl
      · unfold z1m
        simp only [Int.ofNat_lt,hlt,decide_false,cond_false]
theorem zoA (hl:l.length≤100000) {n:Nat} (hn:l.length<n):z83 n l=some (deepT (tks l 0) 0 0):=by
 unfold z83 z2c
 obtain ⟨x,hx⟩:=zku hl n 0 0 (Nat.zero_le _) (by omega) (by omega) (by omega)
 have hx' : bindJ (iter (z1m l) n (0,0)) (fun x=>some ((-1:Int),x))=some (deepT (tks l 0) 0 0,x):=hx
 rw [hx']; rfl
theorem zfb:∀ (ts:List Tk) (d:Int) (i:Nat),deepT ts d i = -1∨∃ j:Nat,deepT ts d i=(j:Int)∧i≤j∧j<i+ts.length
  | [],_,_=>.inl rfl
  | t :: r, d, i => by
    unfold deepT
    by_cases h:40<d
    · rw [if_pos h]; exact .inr ⟨i,rfl,Nat.le_refl _,by simp⟩
    · rw [if_neg h]
      rcases zfb r (d+opn t) (i+1) with h1 | ⟨j,h1,h2,h3⟩
      · exact .inl h1
      · exact .inr ⟨j,h1,by omega,by simp; omega⟩
def outR {α β:Type} (z:β) (m:(Int→Int)→α→β) (p:Ps α) (s:List UInt8):β×z11:=
 if (tokR s).2.E≠0 then (z,(tokR s).2)
 else if 0≤deepT (tks (tokR s).1 0) 0 0 then (z,⟨gA (tokR s).1 (deepT (tks (tokR s).1 0) 0 0),2⟩)
 else match run' (tokR s).1 p 0 with
  | .bad j _=>(z,⟨eA (tokR s).1 s.length j,180⟩)
  | .ok a j _=>if j<(tokR s).1.length then (z,⟨eA (tokR s).1 s.length j,180⟩) else (m (gA (tokR s).1) a,⟨0,0⟩)
def outL {α β:Type} (z:β) (m:(Int→Int)→α→β) (p:Ps α) (s:List UInt8):β×z11:=
 if 65536<s.length then (z,⟨0,2⟩) else outR z m p s
theorem z5t {α β:Type} {l:List α} {i:Nat} (h:i<l.length) (k:α→Option β):idx l (i:Int) k=k l[i]:=z4e (List.getElem?_eq_getElem h) k
theorem zpN {i:Nat} (h:i<l.length):gA l (i:Int)=l[i].At:=by
 unfold gA
 rw [if_neg (show ¬((i:Int)<0) by omega)]
 simp only [Int.toNat_natCast,List.getElem?_eq_getElem h]
theorem zrw {α β:Type} {z:β} {m:(Int→Int)→α→β} {p:Ps α} (s:List UInt8) (hs:s.length≤65536) {n:Nat} (hn:1000000<n) {F:Rd'→Option (Pn (β×Rd'))} (hF:Ag (tokR s).1 s.length 0 (m (gA (tokR s).1)) F p) :
    (obind (z4J n s) fun r3=>
 cond (decide (r3.2.E≠0))
  (some (z,r3.2))
  (obind (z83 n r3.1) fun r9=>
  cond (decide (0≤r9))
   (idx r3.1 r9 fun x14=>
   some (z,(z11.mk x14.At 2)))
   (obind (F (z7.mk r3.1 0 (s.length:Int))) fun r17=>
   pbind r17 (fun e20=>
    some (z,(z11.mk e20 180))) fun q19=>
   bindJ (S:=Unit)
    (cond (decide (q19.2.i_ < (r3.1.length : Int)))
     (obind (z16 q19.2) fun r31=>
     pbind r31 (fun e34=>
      some (.stop (z,(z11.mk e34 180)))) fun q33=>
     some (.go ()))
     (some (.go ())))
   (fun _ =>
    some (q19.1,(z11.mk 0 0))))))=some (outR z m p s):=by
  have hl:=zb4 s
  rw [zf4 s hs n (by omega)]
  unfold outR
  by_cases h0:(tokR s).2.E≠0
  · simp only [ob,h0,decide_true,cond_true,if_true,not_false_eq_true,ne_eq]
  simp only [ob,h0,decide_false,cond_false,if_false,zoA (l:=(tokR s).1) (by omega) (n:=n) (by omega)]
  rcases zfb (tks (tokR s).1 0) 0 0 with h1 | ⟨j,h1,_,h3⟩
  · rw [h1]
    simp only [show ¬((0:Int)≤-1) by decide,decide_false,cond_false,if_false]
    have h4:=hF 0 (Nat.le_refl _) (Nat.zero_le _)
    have h5:=z2q (l:=(tokR s).1) p (j:=0) (Nat.zero_le _)
    rw [show F ⟨(tokR s).1,0,(s.length:Int)⟩=_ from h4]
    revert h5
    cases run' (tokR s).1 p 0 with
    | bad i r=>intro _; rfl
    | ok a i r =>
      rintro ⟨_,h6,_⟩
      simp only [conv,ob,pbind,Int.ofNat_lt]
      by_cases h7:i<(tokR s).1.length
      · simp only [h7,decide_true,cond_true,if_true,zc2,ob,pbind,bindJ]
      · simp only [h7,decide_false,cond_false,if_false,bindJ]
  · rw [h1]
    have h4:j<(tokR s).1.length:=by simpa [tks] using h3
    simp only [show (0:Int)≤(j:Int) by omega,decide_true,cond_true,if_true,z5t h4,zpN h4]
theorem zjY (s:List UInt8) {n N:Nat} (hn:1000000<n) (hN:65536<N):z39 n s=some (outL ⟨[],[]⟩ atSrc (zaK N N ⟨[],[]⟩) s):=by
 unfold z39 z4c outL
 by_cases hs:65536<s.length
 ·rw [if_pos hs,zhM s hs n]; rfl
 ·rw [if_neg hs]
  have hl:=zb4 s
  obtain ⟨k,rfl⟩ : ∃ k,n=k+2:=⟨n - 2,by omega⟩
  rw [zrw s (by omega) hn (m:=atSrc) (F:=z2Z (k+2)) (zof (N:=N) (by omega) (zph s) (by omega) (by omega) (by omega))]
  rfl
end Go.Proofs.YtcmaoifiiigggaaGreatDoor
namespace Go.Proofs.YtcmaoifiiigggaaGreatDoor
open Go.Abs Go.Lex
theorem zcn (y z:List UInt8) (r:List (List UInt8)):joinP (y::z::r) [32]=y++[32]++joinP (z::r) [32]:=by simp [joinP,List.intercalate]
theorem zjR (k:Nat):∀ L:List (List UInt8),(∀ x∈L,x.length≤k)→(joinP L [32]).length≤(k+1)*L.length
  | [],_=>by simp [joinP,List.intercalate]
  | [y], h => by
    have:=h y (by simp)
    simp [joinP,List.intercalate]; omega
  | y :: z :: r, h => by
    have ih:=zjR k (z::r) (fun x hx=>h x (List.mem_cons_of_mem _ hx))
    have hy:=h y (by simp)
    rw [zcn]
    simp only [List.length_append,List.length_cons,List.length_nil] at ih ⊢
    rw [Nat.mul_add (k+1) (r.length+1) 1]
    omega
theorem zsX (l:List z6) (k:Nat) (h:∀ t∈l,t.S.length≤k):∀ x∈l.map wr,x.length≤2*k+2:=by
 intro x hx
 obtain ⟨t,ht,rfl⟩:=List.mem_map.1 hx
 have:=zom t; have:=h t ht
 omega
theorem zaM {α:Type} {l:List α} {i:Nat} (h:i<l.length):l.take (i+1)=l.take i++[l[i]]:=by
 rw [List.take_add_one,List.getElem?_eq_getElem h]; rfl
def textR (l:List z6):List UInt8×Int:=if (∀ t∈l,isT t=true) then (if 65536<(joinP (l.map wr) [32]).length then ([],2) else (joinP (l.map wr) [32],0)) else ([],1)
theorem zkh (l:List z6) (hl:l.length≤100000) (hs:∀ t∈l,t.S.length≤3000) (n:Nat) (hn:1000000<n):z8n n l=some (textR l):=by
  unfold z8n
  obtain ⟨r,e,h⟩:=z71 (step:=zcv n l) (fun x=>∃ i:Nat,x=((l.take i).map wr,(i:Int))∧i≤l.length∧∀ t∈l.take i,isT t=true) (fun x=>l.length - x.2.toNat)
    (fun r=>(r = .go (l.map wr)∧∀ t∈l,isT t=true)∨(r = .stop ([],1)∧¬ ∀ t∈l,isT t=true)) (by
    rintro _ ⟨i,rfl,hi,ha⟩
    unfold zcv
    by_cases hlt:i<l.length
    · have hm:l[i]∈l:=List.getElem_mem hlt
      have hsi:=hs _ hm
      simp only
      rw [decide_eq_true (show (i:Int)<(l.length:Int) by omega),cond_true,z9v hlt,zmj _ (by omega) n (by omega),znB _ (by omega)]
      simp only [obind,Option.bind_some]
      cases hT:isT l[i] with
      | false=>exact .inr ⟨_,rfl,.inr ⟨rfl,fun hq=>by rw [hq _ hm] at hT; cases hT⟩⟩
      | true =>
        refine .inl ⟨_,?_,⟨i+1,rfl,hlt,fun t ht=>?_⟩,by simp; omega⟩
        · simp only [Bool.not_true,cond_false]
          rw [z1n (by simp; omega),w64 (by omega) (by omega),zaM hlt,List.map_append]
          simp only [List.map_singleton,Int.natCast_add,Int.cast_ofNat_Int]
        · rw [zaM hlt] at ht
          rcases List.mem_append.1 ht with h1 | h1
          · exact ha t h1
          · rw [List.mem_singleton.1 h1]; exact hT
    · obtain rfl:i=l.length:=by omega
      refine .inr ⟨_,?_,.inl ⟨rfl,by simpa using ha⟩⟩
      simp only
      rw [decide_eq_false (by omega),cond_false]
      simp) n ([],0) ⟨0,by simp,by omega,by simp⟩ (by simp; omega)
  rw [e]
  unfold textR
  rcases h with ⟨rfl,h⟩ | ⟨rfl,h⟩
  · rw [z4z,if_pos h]
    have hj:=zjR 6002 (l.map wr) (zsX l 3000 hs)
    rw [List.length_map] at hj
    have hj2:(6002+1)*l.length≤6003*100000:=Nat.mul_le_mul_left _ hl
    unfold joinH
    rw [z1n ⟨by rw [List.length_map]; omega,by omega⟩]
    simp only [obind,Option.bind_some]
    by_cases h2:65536<(joinP (l.map wr) [32]).length
    · rw [decide_eq_true (by omega),if_pos h2]; rfl
    · rw [decide_eq_false (by omega),if_neg h2]; rfl
  · rw [if_neg h]; rfl
end Go.Proofs.YtcmaoifiiigggaaGreatDoor
namespace Go.Lex
def escC (b:UInt8):List UInt8:=if b=34 then [92,34] else if b=92 then [92,92] else [b]
def escL (s:List UInt8):List UInt8:=s.flatMap escC
def wrL (k:Int) (w:List UInt8):List UInt8:=if k=4 then [34]++escL w++[34] else w
theorem zfY (b:UInt8) (s:List UInt8):escL (b::s)=escC b++escL s:=rfl
def sepB (b:UInt8):Bool:=!(ltr b) && decide (b≠61) && decide (b≠46)
theorem zp2 {b:UInt8} (h:sepB b=true):ltr b=false:=by simp [sepB] at h; exact h.1.1
theorem zoP {b:UInt8} (h:ltr b=false):rst b=false:=by simp [ltr] at h; exact h.1
theorem zsh {b:UInt8} (h:rst b=false):dg b=false:=by simp [rst] at h; exact h.1.2
theorem zp3 {b:UInt8} (h:sepB b=true):rst b=false:=zoP (zp2 h)
theorem zkY {b:UInt8} (h:sepB b=true) (a:UInt8):[a,b] ∉ longs:=by
 simp [sepB] at h
 simp [longs,h.1.2,h.2]
def okH (r r' : List UInt8):Prop:=∀ c t,r'=c::t→sepB c=true∨∃ t',r=c::t'
theorem znr {p:UInt8→Bool}:∀ (x:List UInt8) (y:List UInt8),(∀ b∈x,p b=true)→(∀ c t,y=c::t→p c=false)→(x++y).takeWhile p=x∧(x++y).dropWhile p=y
  | [], y, _, hy => by
    cases y with
    | nil=>simp
    | cons c t =>
      have h:=hy c t rfl
      simp [h]
  | b :: x, y, hx, hy => by
    obtain ⟨h1,h2⟩:=znr x y (fun b hb=>hx b (List.mem_cons_of_mem _ hb)) hy
    have hb:=hx b (List.mem_cons_self ..)
    simp only [List.cons_append,List.takeWhile_cons_of_pos hb,List.dropWhile_cons_of_pos hb,h1,h2]
    exact ⟨trivial,trivial⟩
theorem zqJ {p:UInt8→Bool}:∀ (x:List UInt8),∀ b∈x.takeWhile p,p b=true
  | [],b,h=>by simp at h
  | a :: x, b, h => by
    cases ha:p a with
    | true =>
      rw [List.takeWhile_cons_of_pos ha] at h
      rcases List.mem_cons.1 h with rfl | h
      · exact ha
      · exact zqJ x b h
    | false=>rw [List.takeWhile_cons_of_neg (by simp [ha])] at h; simp at h
theorem zhq {p:UInt8→Bool}:∀ (x:List UInt8) (c:UInt8) (t:List UInt8),x.dropWhile p=c::t→p c=false
  | [],c,t,h=>by simp at h
  | a :: x, c, t, h => by
    cases ha:p a with
    | true=>rw [List.dropWhile_cons_of_pos ha] at h; exact zhq x c t h
    | false=>rw [List.dropWhile_cons_of_neg (by simp [ha])] at h; cases h; exact ha
theorem zqL:∀ (n:Nat) (s out:List UInt8) (k:Int) (w r:List UInt8),s.length≤n→txtP out s = .inr (k,w,r)→
    k=4∧∃ v,w=out++v∧s=escL v++34::r∧∀ r',txtP out (escL v++34::r') = .inr (4,w,r'):=by
  intro n
  induction n with
  | zero =>
    intro s out k w r hn h
    match s,hn with
    | [],_=>rw [zaO] at h; cases h
  | succ n ih =>
    intro s out k w r hn h
    match s,hn with
    | [],_=>rw [zaO] at h; cases h
    | b :: t, hn =>
      rw [z5s] at h
      split at h
      · rename_i h1
        subst h1
        split at h
        · cases h
        · rename_i h2
          cases h
          refine ⟨rfl,[],by simp,rfl,fun r'=>?_⟩
          show txtP out (34::r')=_
          rw [z5s,if_pos rfl,if_neg h2]
      · rename_i h1
        split at h
        · rename_i h2
          subst h2
          match t,hn,h with
          | [],_,h=>cases h
          | c :: t', hn, h =>
            simp only at h
            split at h
            · rename_i h3
              obtain ⟨hk,v,hw,hs,hr⟩:=ih t' _ _ _ _ (by simp at hn; omega) h
              have hc:escC c=[92,c]:=by rcases h3 with rfl | rfl <;> rfl
              refine ⟨hk,c::v,by rw [hw]; simp,by rw [zfY,hc,hs]; simp,fun r'=>?_⟩
              rw [zfY,hc]
              show txtP out (92::c::(escL v++34::r'))=_
              rw [z5s,if_neg (by decide),if_pos rfl]
              simp only
              rw [if_pos h3]
              exact hr r'
            · cases h
        · rename_i h2
          split at h
          · cases h
          · rename_i h3
            obtain ⟨hk,v,hw,hs,hr⟩:=ih t _ _ _ _ (by simp at hn; omega) h
            have hb:escC b=[b]:=by unfold escC; rw [if_neg h1,if_neg h2]
            refine ⟨hk,b::v,by rw [hw]; simp,by rw [zfY,hb,hs]; simp,fun r'=>?_⟩
            rw [zfY,hb]
            show txtP out (b::(escL v++34::r'))=_
            rw [z5s,if_neg h1,if_neg h2,if_neg h3]
            exact hr r'
theorem zdo {s:List UInt8} {k:Int} {w r:List UInt8} (h:sgnP s = .inr (k,w,r)):k=5∧s=w++r∧w≠[]∧∀ r',okH r r'→sgnP (w++r') = .inr (5,w,r'):=by
  have one:∀ (b:UInt8) (hb:b∈shorts) (q:List UInt8),(∀ c t,q=c::t→[b,c] ∉ longs)→sgnP (b::q) = .inr (5,[b],q):=by
    intro b hb q hq
    cases q with
    | nil=>rw [zdP,if_pos hb]
    | cons c t=>rw [zbw,if_neg (hq c t rfl),if_pos hb]
  match s,h with
  | [b], h =>
    rw [zdP] at h
    split at h
    · rename_i hb
      cases h
      refine ⟨rfl,rfl,by simp,fun r' hr=>one b hb r' fun c t hc=>?_⟩
      rcases hr c t hc with h | ⟨t',h⟩
      · exact zkY h b
      · cases h
    · cases h
  | b :: c :: t, h =>
    rw [zbw] at h
    split at h
    · rename_i hl
      cases h
      refine ⟨rfl,rfl,by simp,fun r' _=>?_⟩
      show sgnP (b::c::r')=_
      rw [zbw,if_pos hl]
    · rename_i hl
      split at h
      · rename_i hb
        cases h
        refine ⟨rfl,rfl,by simp,fun r' hr=>one b hb r' fun c' t' hc=>?_⟩
        rcases hr c' t' hc with h | ⟨t'',h⟩
        · exact zkY h b
        · cases h; exact hl
      · cases h
theorem zo3 {s:List UInt8} {k:Int} {w r:List UInt8} (hs:∃ b t,s=b::t∧dg b=true) (h:numP s = .inr (k,w,r)):k=3∧s=w++r∧w≠[]∧∀ r',okH r r'→numP (w++r') = .inr (3,w,r'):=by
  unfold numP at h
  split at h
  · cases h
  · rename_i hb
    cases h
    refine ⟨rfl,(List.takeWhile_append_dropWhile).symm,?_,fun r' hr=>?_⟩
    · obtain ⟨b,t,rfl,hd⟩:=hs
      rw [List.takeWhile_cons_of_pos hd]; simp
    · generalize hw:s.takeWhile dg=w at *
      generalize hq:s.dropWhile dg=r at *
      have hal:∀ b∈w,dg b=true:=by rw [← hw]; exact zqJ s
      have hd0:∀ c t,r=c::t→ltr c=false:=by
        intro c t hc
        subst hc
        simp [zfM] at hb
        exact hb.2
      have hl:∀ c t,r'=c::t→ltr c=false:=by
        intro c t hc
        rcases hr c t hc with h | ⟨t',h⟩
        · exact zp2 h
        · exact hd0 c t' h
      obtain ⟨h1,h2⟩:=znr w r' hal (fun c t hc=>zsh (zoP (hl c t hc)))
      unfold numP
      rw [h1,h2]
      have hbad:zfM w r'=false:=by
        have h3:zfM w []=false:=by
          unfold zfM at hb ⊢
          simp only [Bool.or_eq_true,not_or,Bool.or_eq_false_iff] at hb ⊢
          exact ⟨⟨by simpa using hb.1.1,by simpa using hb.1.2⟩,trivial⟩
        cases r' with
        | nil=>exact h3
        | cons c t =>
          have:=hl c t rfl
          unfold zfM at h3 ⊢
          simp only [Bool.or_eq_false_iff] at h3 ⊢
          exact ⟨h3.1,this⟩
      rw [if_neg (by rw [hbad]; decide)]
theorem zo2 (kw:List (List UInt8)) {s:List UInt8} {k:Int} {w r:List UInt8} (hs:∃ b t,s=b::t∧rst b=true) (h:namP kw s = .inr (k,w,r)):k≠4∧s=w++r∧w≠[]∧∀ r',okH r r'→namP kw (w++r') = .inr (k,w,r'):=by
 have key:∀ r',okH (s.dropWhile rst) r'→(s.takeWhile rst++r').takeWhile rst=s.takeWhile rst∧(s.takeWhile rst++r').dropWhile rst=r':=by
  intro r' hr
  refine znr _ _ (zqJ s) fun c t hc=>?_
  rcases hr c t hc with h | ⟨t',h⟩
  ·exact zp3 h
  ·exact zhq s c t' h
 have hne:s.takeWhile rst≠[]:=by
  obtain ⟨b,t,rfl,hd⟩:=hs
  rw [List.takeWhile_cons_of_pos hd]; simp
 unfold namP at h
 split at h
 ·rename_i hk
  cases h
  refine ⟨by decide,(List.takeWhile_append_dropWhile).symm,hne,fun r' hr=>?_⟩
  obtain ⟨h1,h2⟩:=key r' hr
  unfold namP
  rw [h1,h2,if_pos hk]
 ·rename_i hk
  split at h
  ·cases h
  ·rename_i hl
   cases h
   refine ⟨by decide,(List.takeWhile_append_dropWhile).symm,hne,fun r' hr=>?_⟩
   obtain ⟨h1,h2⟩:=key r' hr
   unfold namP
   rw [h1,h2,if_neg hk,if_neg hl]
theorem zj5 {kw:List (List UInt8)} {s:List UInt8} {k:Int} {w r:List UInt8} (h:nextP kw s = .inr (k,w,r)):s=wrL k w++r∧wrL k w≠[]∧∀ r',okH r r'→nextP kw (wrL k w++r') = .inr (k,w,r'):=by
  match s,h with
  | b :: t, h =>
    have hcons:∀ (w r' : List UInt8),b::t=w++r→w≠[]→∃ t',w++r'=b::t':=by
      intro w r' h1 h2
      cases w with
      | nil=>exact absurd rfl h2
      | cons c w=>cases h1; exact ⟨_,rfl⟩
    rw [z6k] at h
    split at h
    · rename_i hb
      obtain ⟨h1,h2,h3,h4⟩:=zo2 kw ⟨b,t,rfl,by unfold rst; rw [hb]; rfl⟩ h
      have hw:wrL k w=w:=by unfold wrL; rw [if_neg h1]
      rw [hw]
      refine ⟨h2,h3,fun r' hr=>?_⟩
      have h5:=h4 r' hr
      obtain ⟨t',ht⟩:=hcons w r' h2 h3
      rw [ht] at h5 ⊢
      rw [z6k,if_pos hb,h5]
    · rename_i hb
      split at h
      · rename_i hd
        obtain ⟨rfl,h2,h3,h4⟩:=zo3 ⟨b,t,rfl,hd⟩ h
        have hw:wrL 3 w=w:=by unfold wrL; rw [if_neg (by decide)]
        rw [hw]
        refine ⟨h2,h3,fun r' hr=>?_⟩
        have h5:=h4 r' hr
        obtain ⟨t',ht⟩:=hcons w r' h2 h3
        rw [ht] at h5 ⊢
        rw [z6k,if_neg hb,if_pos hd,h5]
      · rename_i hd
        split at h
        · rename_i hq
          subst hq
          obtain ⟨rfl,v,hv,hs,hr⟩:=zqL _ _ _ _ _ _ (Nat.le_refl _) h
          rw [List.nil_append] at hv
          subst hv
          have hw:wrL 4 w=[34]++escL w++[34]:=by unfold wrL; rw [if_pos rfl]
          rw [hw]
          refine ⟨by rw [hs]; simp,by simp,fun r' _=>?_⟩
          rw [show [34]++escL w++[34]++r'=34::(escL w++34::r') by simp,z6k,if_neg hb,if_neg hd,if_pos rfl,hr r']
        · rename_i hq
          obtain ⟨rfl,h2,h3,h4⟩:=zdo h
          have hw:wrL 5 w=w:=by unfold wrL; rw [if_neg (by decide)]
          rw [hw]
          refine ⟨h2,h3,fun r' hr=>?_⟩
          have h5:=h4 r' hr
          obtain ⟨t',ht⟩:=hcons w r' h2 h3
          rw [ht] at h5 ⊢
          rw [z6k,if_neg hb,if_neg hd,if_neg hq,h5]
theorem zd4:∀ (c:Bool) (s:List UInt8) (b:UInt8) (r:List UInt8),skipP c s=b::r→∃ g,s=g++b::r∧skipP c g=[]∧∀ (b' : UInt8) (r' : List UInt8),b'≠35→spc b'=false→skipP c (g++b'::r')=b'::r'
  | true,[],b,r,h=>by simp [skipP] at h
  | false,[],b,r,h=>by simp [skipP] at h
  | true, a :: s, b, r, h => by
    rw [ziz] at h
    split at h
    · rename_i ha
      obtain ⟨g,h1,h2,h3⟩:=zd4 false s b r h
      refine ⟨a::g,by rw [h1]; rfl,by rw [ziz,if_pos ha,h2],fun b' r' hb hs=>?_⟩
      rw [List.cons_append,ziz,if_pos ha]; exact h3 b' r' hb hs
    · rename_i ha
      obtain ⟨g,h1,h2,h3⟩:=zd4 true s b r h
      refine ⟨a::g,by rw [h1]; rfl,by rw [ziz,if_neg ha,h2],fun b' r' hb hs=>?_⟩
      rw [List.cons_append,ziz,if_neg ha]; exact h3 b' r' hb hs
  | false, a :: s, b, r, h => by
    rw [zav] at h
    split at h
    · rename_i ha
      obtain ⟨g,h1,h2,h3⟩:=zd4 true s b r h
      refine ⟨a::g,by rw [h1]; rfl,by rw [zav,if_pos ha,h2],fun b' r' hb hs=>?_⟩
      rw [List.cons_append,zav,if_pos ha]; exact h3 b' r' hb hs
    · rename_i ha
      split at h
      · rename_i hp
        obtain ⟨g,h1,h2,h3⟩:=zd4 false s b r h
        refine ⟨a::g,by rw [h1]; rfl,by rw [zav,if_neg ha,if_pos hp,h2],fun b' r' hb hs=>?_⟩
        rw [List.cons_append,zav,if_neg ha,if_pos hp]; exact h3 b' r' hb hs
      · cases h
        refine ⟨[],rfl,rfl,fun b' r' hb hs=>?_⟩
        rw [List.nil_append,zav,if_neg hb,hs]; rfl
structure Tok (kw:List (List UInt8)) (k:Int) (w:List UInt8):Prop where
 head:∃ b t,wrL k w=b::t∧b≠35∧spc b=false
 read:∀ r',(∀ c t,r'=c::t→sepB c=true)→nextP kw (wrL k w++r') = .inr (k,w,r')
theorem zgU {kw:List (List UInt8)} {s:List UInt8} {b:UInt8} {q:List UInt8} {k:Int} {w r:List UInt8} (hs:skipP false s=b::q) (h:nextP kw (b::q) = .inr (k,w,r)):Tok kw k w:=by
 obtain ⟨h1,h2,h3⟩:=zj5 h
 obtain ⟨h4,h5⟩:=zdp _ _ _ _ hs
 refine ⟨?_,fun r' hr=>h3 r' fun c t hc=>.inl (hr c t hc)⟩
 cases hw:wrL k w with
 | nil=>exact absurd hw h2
 | cons c t=>rw [hw] at h1; cases h1; exact ⟨_,_,rfl,h4,h5⟩
inductive Lay (kw:List (List UInt8)):List UInt8→List (Int×Nat×List UInt8)→Prop
 | nil (s:List UInt8):skipP false s=[]→Lay kw s []
 | cons (g rest:List UInt8) (k:Int) (w:List UInt8) (l:List (Int×Nat×List UInt8)):skipP false g=[]→
  (∀ (b:UInt8) (r:List UInt8),b≠35→spc b=false→skipP false (g++b::r)=b::r)→Tok kw k w→
  (∀ r',okH rest r'→nextP kw (wrL k w++r') = .inr (k,w,r'))→Lay kw rest l→Lay kw (g++(wrL k w++rest)) ((k,(wrL k w++rest).length,w)::l)
theorem zrG (kw:List (List UInt8)):∀ (f:Nat) (s:List UInt8),s.length<f→(toksP kw f s).2=none→Lay kw s (toksP kw f s).1
  | 0,s,h,_=>by omega
  | f + 1, s, hf, h => by
    cases hs:skipP false s with
    | nil=>rw [z6g hs]; exact .nil s hs
    | cons b r =>
      cases hn:nextP kw (b::r) with
      | inl e=>rw [z8H hs hn] at h; cases h
      | inr q =>
        obtain ⟨k,w,rest⟩:=q
        rw [z7O hs hn] at h ⊢
        simp only at h ⊢
        obtain ⟨g,h1,h2,h3⟩:=zd4 _ _ _ _ hs
        obtain ⟨h4,h5,h6⟩:=zj5 hn
        have hlt:=zfg hn
        have hl:=zd3 false s
        rw [hs] at hl
        have ih:=zrG kw f rest (by simp only [List.length_cons] at hl hlt; omega) h
        have:=Lay.cons g rest k w _ h2 h3 (zgU hs hn) h6 ih
        rw [← h4,← h1,List.length_cons] at this
        exact this
theorem zdb {kw:List (List UInt8)} {g rest:List UInt8} {k:Int} {w:List UInt8} (hg:∀ (b:UInt8) (r:List UInt8),b≠35→spc b=false→skipP false (g++b::r)=b::r) (ht:Tok kw k w)
  (hn:nextP kw (wrL k w++rest) = .inr (k,w,rest)) (f:Nat):toksP kw (f+1) (g++(wrL k w++rest))=((k,(wrL k w++rest).length,w)::(toksP kw f rest).1,(toksP kw f rest).2):=by
 obtain ⟨b,t,h1,h2,h3⟩:=ht.head
 have e:wrL k w++rest=b::(t++rest):=by rw [h1]; rfl
 rw [e] at hn ⊢
 rw [z7O (hg b (t++rest) h2 h3) hn]
 rfl
theorem zlm {kw:List (List UInt8)} {s:List UInt8} {l:List (Int×Nat×List UInt8)} (h:Lay kw s l):∀ x∈l,x.2.1≤s.length:=by
  induction h with
  | nil s hs=>intro x hx; cases hx
  | cons g rest k w l h1 h2 h3 h4 h5 ih =>
    intro x hx
    rcases List.mem_cons.1 hx with rfl | hx
    · simp
    · have:=ih x hx
      simp only [List.length_append]; omega
def GapOk (g:List UInt8):Prop:=∀ (b:UInt8) (r:List UInt8),b≠35→spc b=false→skipP false (g++b::r)=b::r
theorem zi3:GapOk []:=fun b r h1 h2=>by rw [List.nil_append,zav,if_neg h1,h2]; rfl
end Go.Lex
namespace Go.Proofs.YtcmaoifiiigggaaGreatDoor
open Go.Abs Go.Lex
theorem zjD {s:List UInt8} {L:List (Int×Nat×List UInt8)} (h:toksP kwP (s.length+1) s=(L,none)):tokR s=(L.map (mkT s.length),⟨0,0⟩):=by
 unfold tokR; rw [h]
theorem zgT (s:List UInt8):((toksP kwP (s.length+1) s).2=none∧tokR s=((toksP kwP (s.length+1) s).1.map (mkT s.length),⟨0,0⟩))∨∃ a e,tokR s=([],⟨a,e⟩)∧e≠0:=by
 obtain ⟨_,_,h3⟩:=znp kwP (s.length+1) s
 cases h:(toksP kwP (s.length+1) s).2 with
 | none=>left; refine ⟨rfl,?_⟩; unfold tokR; rw [h]
 | some p=>right; obtain ⟨k,e⟩:=p; exact ⟨_,e,by unfold tokR; rw [h],(h3 k e h).1⟩
theorem ztS {t:z6} (h:Tok kwP t.Kind t.S):isT t=true:=by
 have hn:=h.read [] (fun c t hc=>by cases hc)
 have key:=zdb (rest:=[]) zi3 h hn (wr t).length
 rw [List.append_nil,List.nil_append,z6g (s:=[]) rfl] at key
 unfold isT
 rw [zjD (s:=wr t) key]
 have:mkT (wr t).length (t.Kind,(wr t).length,t.S)=⟨t.Kind,0,t.S⟩:=by simp [mkT]
 simp only [List.map_cons,List.map_nil,decide_true,Bool.true_and,decide_eq_true_eq,List.cons.injEq,and_true]
 exact this
theorem zqz {l:List z6} (h:∀ t∈l,Tok kwP t.Kind t.S) (hs:(joinP (l.map wr) [32]).length≤65536):textR l=(joinP (l.map wr) [32],0):=by
 unfold textR
 rw [if_pos (fun t ht=>ztS (h t ht)),if_neg (by omega)]
theorem zl6 {t:z6} (h:Tok kwP t.Kind t.S) (hs:(wr t).length≤65536):textR [t]=(wr t,0):=by
 have e:joinP ([t].map wr) [32]=wr t:=by simp [joinP,List.intercalate]
 rw [zqz (fun x hx=>by rw [List.mem_singleton.1 hx]; exact h) (by rw [e]; exact hs),e]
theorem zuG (N:Nat) (x:Int×Nat×List UInt8):wr (mkT N x)=wrL x.1 x.2.2:=rfl
end Go.Proofs.YtcmaoifiiigggaaGreatDoor
namespace Go.Lex
theorem zrH {kw:List (List UInt8)} {s:List UInt8} {l:List (Int×Nat×List UInt8)} (h:Lay kw s l):∀ x∈l,0<x.2.1:=by
  induction h with
  | nil s hs=>intro x hx; cases hx
  | cons g rest k w l h1 h2 h3 h4 h5 ih =>
    intro x hx
    rcases List.mem_cons.1 hx with rfl | hx
    · obtain ⟨b,t,hb,_,_⟩:=h3.head
      simp only [List.length_append]
      rw [hb]; simp; omega
    · exact ih x hx
theorem ztV {kw:List (List UInt8)} {s:List UInt8} {l:List (Int×Nat×List UInt8)} (h:Lay kw s l):l.Pairwise fun x y=>y.2.1<x.2.1:=by
  induction h with
  | nil s hs=>exact .nil
  | cons g rest k w l h1 h2 h3 h4 h5 ih =>
    refine .cons (fun y hy=>?_) ih
    have:=zlm h5 y hy
    obtain ⟨b,t,hb,_,_⟩:=h3.head
    simp only [List.length_append]
    rw [hb]; simp; omega
theorem zpV {kw:List (List UInt8)} {s:List UInt8} {l:List (Int×Nat×List UInt8)} (h:Lay kw s l):∀ (i:Nat) (hi:i<l.length),∃ p r,s=p++(wrL l[i].1 l[i].2.2++r)∧(wrL l[i].1 l[i].2.2++r).length=l[i].2.1∧Tok kw l[i].1 l[i].2.2∧
    (∀ x∈l.take i,l[i].2.1≤x.2.1)∧
    (∀ f,p.length<f→toksP kw f p=((l.take i).map fun x=>(x.1,x.2.1 - l[i].2.1,x.2.2),none))∧
    ∀ y, (∀ c t, y = c :: t → sepB c = true) → ∀ f g, (p ++ (wrL l[i].1 l[i].2.2 ++ y)).length < f → y.length < g →
      toksP kw f (p++(wrL l[i].1 l[i].2.2++y))=(((l.take (i+1)).map fun x=>(x.1,x.2.1 - r.length+y.length,x.2.2))++(toksP kw g y).1,(toksP kw g y).2):=by
  induction h with
  | nil s hs=>intro i hi; simp at hi
  | cons g rest k w l h1 h2 h3 h4 h5 ih =>
    intro i hi
    have hne:0<(wrL k w).length:=by
      obtain ⟨b,t,hb,_,_⟩:=h3.head
      rw [hb]; simp
    match i,hi with
    | 0, _ =>
      refine ⟨g,rest,rfl,rfl,h3,fun x hx=>by simp at hx,fun f hf=>z6g h1 f,fun y hy f q hf hq=>?_⟩
      simp only [List.getElem_cons_zero] at hf ⊢
      match f,hf with
      | f + 1, hf =>
        rw [zdb h2 h3 (h3.read y hy) f,zaN kw f q y (by simp only [List.length_append] at hf; omega) hq]
        simp
    | i + 1, hi =>
      simp only [List.length_cons] at hi
      have hi' : i<l.length:=by omega
      obtain ⟨p,r,a1,a2,a3,a4,a5,a6⟩:=ih i hi'
      simp only [List.getElem_cons_succ]
      have hlen:rest.length=p.length+(wrL l[i].1 l[i].2.2++r).length:=by
        have:=congrArg List.length a1
        simp only [List.length_append] at this ⊢
        omega
      have hrr:r.length≤rest.length:=by rw [hlen]; simp only [List.length_append]; omega
      refine ⟨g++(wrL k w++p),r,?_,a2,a3,?_,?_,?_⟩
      · rw [a1]; simp only [List.append_assoc]
      · intro x hx
        rw [List.take_succ_cons] at hx
        rcases List.mem_cons.1 hx with rfl | hx
        · simp only [List.length_append] at hlen a2 ⊢; omega
        · exact a4 x hx
      · intro f hf
        match f,hf with
        | f + 1, hf =>
          have hok:okH rest p:=by
            intro c t hc
            refine .inr ⟨t++(wrL l[i].1 l[i].2.2++r),?_⟩
            rw [a1,hc]; rfl
          rw [zdb h2 h3 (h4 _ hok) f,a5 f (by simp only [List.length_append] at hf; omega)]
          rw [List.take_succ_cons,List.map_cons]
          have:(wrL k w++p).length=(wrL k w++rest).length - l[i].2.1:=by
            simp only [List.length_append] at hlen a2 ⊢; omega
          rw [this]
      · intro y hy f q hf hq
        match f,hf with
        | f + 1, hf =>
          have hok:okH rest (p++(wrL l[i].1 l[i].2.2++y)):=by
            intro c t hc
            obtain ⟨b',t',hb',_,_⟩:=a3.head
            rw [hb'] at hc
            refine .inr ?_
            cases p with
            | nil=>rw [a1,hb']; simp only [List.nil_append,List.cons_append,List.cons.injEq] at hc ⊢; exact ⟨_,hc.1,rfl⟩
            | cons z p=>rw [a1]; simp only [List.cons_append,List.cons.injEq] at hc ⊢; exact ⟨_,hc.1,rfl⟩
          have e:g++(wrL k w++p)++(wrL l[i].1 l[i].2.2++y)=g++(wrL k w++(p++(wrL l[i].1 l[i].2.2++y))):=by simp only [List.append_assoc]
          rw [e] at hf ⊢
          rw [zdb h2 h3 (h4 _ hok) f,a6 y hy f q (by simp only [List.length_append] at hf ⊢; omega) hq]
          rw [List.take_succ_cons,List.map_cons]
          have:(wrL k w++(p++(wrL l[i].1 l[i].2.2++y))).length=(wrL k w++rest).length - r.length+y.length:=by
            simp only [List.length_append] at hlen a2 ⊢; omega
          rw [this]
          rfl
end Go.Lex
namespace Go.Proofs.YtcmaoifiiigggaaGreatDoor
open Go.Abs Go.Ps Go.Lex
variable {l : List Lx} {fin : Int}
theorem zbZ (l:List Lx):tks l 0=l.map tk:=rfl
theorem zd7 (N:Nat):∀ (f j:Nat) (x a:zG) (i:Nat) (r:List Tk),j≤l.length→run' l (zaK N f x) j = .ok a i r→i=l.length
  | 0,_,_,_,_,_,_,h=>by cases h
  | f + 1, j, x, a, i, r, hj, h => by
    rw [zf0,z1w] at h
    by_cases hlt:j<l.length
    · obtain ⟨t,et⟩:=ziF hlt
      have eh:(tks l j).head? = some t:=by rw [et]; rfl
      have hno:(tks l j).head?.isNone=false:=by rw [eh]; rfl
      simp only [hno,Bool.false_eq_true,if_false] at h
      split at h
      · rw [z1f _ hlt,z1A _ _ hlt] at h
        have hd:=z2q (l:=l) (zbc N j) (j:=j+1) hlt
        revert h hd
        cases run' l (zbc N j) (j+1) with
        | ok y k q=>rintro h ⟨_,h7,_⟩; exact zd7 N f k _ a i r h7 h
        | bad k q=>intro h; cases h
      · split at h
        · rw [z1f _ hlt,z1A _ _ hlt] at h
          have hd:=z2q (l:=l) (z8s N j) (j:=j+1) hlt
          revert h hd
          cases run' l (z8s N j) (j+1) with
          | ok y k q=>rintro h ⟨_,h7,_⟩; exact zd7 N f k _ a i r h7 h
          | bad k q=>intro h; cases h
        · cases h
    · have e:(tks l j).head? = none:=by rw [zdR (by omega)]; rfl
      simp only [e,Option.isNone_none,if_true] at h
      rw [z2w] at h
      cases h
      omega
theorem zlW:∀ (a b:List Tk) (d:Int) (i:Nat),deepT (a++b) d i = -1→deepT a d i = -1
  | [],_,_,_,_=>rfl
  | t :: r, b, d, i, h => by
    unfold deepT
    rw [List.cons_append] at h
    unfold deepT at h
    by_cases h1:40<d
    · rw [if_pos h1] at h; omega
    · rw [if_neg h1] at h ⊢
      exact zlW r b _ _ h
abbrev srcP (N:Nat):Ps zG:=zaK N N ⟨[],[]⟩
def z4K (N:Nat) (s:List UInt8):zG×z11:=outL ⟨[],[]⟩ atSrc (srcP N) s
theorem zo5 {N:Nat} {s:List UInt8} (h:(z4K N s).2.E=180) (h0:(tokR s).2.E=0):∃ j,j≤(tokR s).1.length∧(z4K N s).2=⟨eA (tokR s).1 s.length j,180⟩∧run' (tokR s).1 (srcP N) 0 = .bad j (tks (tokR s).1 j)∧deepT (tks (tokR s).1 0) 0 0 = -1:=by
  unfold z4K outL at h ⊢
  by_cases hs:65536<s.length
  · rw [if_pos hs] at h; exact absurd h (by decide)
  rw [if_neg hs] at h ⊢
  unfold outR at h ⊢
  rw [if_neg (show ¬((tokR s).2.E≠0) from fun q=>q h0)] at h ⊢
  by_cases hd:0≤deepT (tks (tokR s).1 0) 0 0
  · rw [if_pos hd] at h; exact absurd h (by show ¬((2:Int)=180); decide)
  rw [if_neg hd] at h ⊢
  have hd' : deepT (tks (tokR s).1 0) 0 0 = -1:=by
    rcases zfb (tks (tokR s).1 0) 0 0 with h1 | ⟨j,h1,_⟩
    · exact h1
    · omega
  have he:=z2q (l:=(tokR s).1) (srcP N) (j:=0) (Nat.zero_le _)
  cases hr:run' (tokR s).1 (srcP N) 0 with
  | bad j r =>
    rw [hr] at he
    obtain ⟨_,h2,rfl⟩:=he
    exact ⟨j,h2,rfl,rfl,hd'⟩
  | ok a j r =>
    rw [hr] at h
    have:=zd7 N N 0 _ a j r (Nat.zero_le _) hr
    dsimp only at h
    rw [if_neg (by omega)] at h
    exact absurd h (by show ¬((0:Int)=180); decide)
theorem zkP {N:Nat} {s:List UInt8} {T:List Lx} (hs:s.length≤65536) (h:tokR s=(T,⟨0,0⟩)):(z4K N s).2.E=2∨(deepT (T.map tk) 0 0 = -1∧match (srcP N).run 0 (T.map tk) with
    | .bad j _=>(z4K N s).2=⟨eA T s.length j,180⟩
    | .ok a _ _=>z4K N s=(atSrc (gA T) a,⟨0,0⟩)):=by
  unfold z4K outL
  rw [if_neg (by omega)]
  unfold outR
  rw [h]
  rw [if_neg (show ¬((0:Int)≠0) by decide)]
  by_cases hd:0≤deepT (tks T 0) 0 0
  · rw [if_pos hd]; exact .inl rfl
  rw [if_neg hd]
  refine .inr ⟨?_,?_⟩
  · rcases zfb (tks T 0) 0 0 with h1 | ⟨j,h1,_⟩
    · exact h1
    · omega
  have e:run' T (srcP N) 0=(srcP N).run 0 (T.map tk):=rfl
  rw [← e]
  cases hr:run' T (srcP N) 0 with
  | bad j r=>rfl
  | ok a j r =>
    have:=zd7 N N 0 _ a j r (Nat.zero_le _) hr
    dsimp only
    rw [if_neg (by omega)]
theorem zfz {s:List UInt8} (h:(tokR s).2.E=0):∃ L,Lay kwP s L∧tokR s=(L.map (mkT s.length),⟨0,0⟩):=by
 rcases zgT s with ⟨h1,h2⟩ | ⟨a,e,h1,h2⟩
 ·exact ⟨_,zrG kwP (s.length+1) s (Nat.lt_succ_self _) h1,h2⟩
 ·rw [h1] at h; exact absurd h h2
theorem zpE {s more:List UInt8} (h:(tokR s).2.E=0) (hm:(tokR more).2.E=0) {j:Nat} (hj:j<(tokR s).1.length):∃ p r M,s=p++(wr (tokR s).1[j]++r)∧((tokR s).1[j]).At=(p.length:Int)∧Tok kwP (tokR s).1[j].Kind (tokR s).1[j].S∧
  tokR p=((tokR s).1.take j,⟨0,0⟩)∧tokR (((p++wr (tokR s).1[j])++[32])++more)=((tokR s).1.take (j+1)++M,⟨0,0⟩):=by
 obtain ⟨L,hL,e⟩:=zfz h
 obtain ⟨L',hL',e'⟩:=zfz hm
 have hj' : j<L.length:=by rw [e] at hj; simpa using hj
 have ej:(tokR s).1[j]=mkT s.length L[j]:=by simp only [e,List.getElem_map]
 obtain ⟨p,r,a1,a2,a3,a4,a5,a6⟩:=zpV hL j hj'
 have hle:=zlm hL
 have hp:p.length=s.length - L[j].2.1:=by
  have:=congrArg List.length a1
  simp only [List.length_append] at this a2
  omega
 rw [ej]
 have hy:∀ c t,(32:UInt8)::more=c::t→sepB c=true:=by
  intro c t hc
  cases hc
  decide
 have hm2:(toksP kwP (more.length+2) (32::more)).2=none:=by
  have h1:toksP kwP (more.length+2) (32::more)=toksP kwP (more.length+2) more:=by
   rw [← z7G kwP _ (32::more),← z7G kwP _ more]; rfl
  rw [h1,zaN kwP (more.length+2) (more.length+1) more (by omega) (by omega)]
  rcases zgT more with ⟨h1,h2⟩ | ⟨a,e,h1,h2⟩
  ·exact h1
  ·rw [h1] at hm; exact absurd hm h2
 have key:=a6 (32::more) hy ((p++(wrL L[j].1 L[j].2.2++32::more)).length+1) (more.length+2) (Nat.lt_succ_self _) (by simp)
 rw [hm2] at key
 have e2:((p++wr (mkT s.length L[j]))++[32])++more=p++(wrL L[j].1 L[j].2.2++32::more):=by
  rw [zuG]; simp only [List.append_assoc,List.cons_append,List.nil_append]
 refine ⟨p,r,(toksP kwP (more.length+2) (32::more)).1.map (mkT (p++(wrL L[j].1 L[j].2.2++32::more)).length),a1,?_,a3,?_,?_⟩
 ·show ((s.length - L[j].2.1:Nat):Int)=_
  rw [hp]
 ·rw [zjD (a5 _ (Nat.lt_succ_self _)),e]
  simp only [List.map_map,← List.map_take]
  refine congrArg (fun q=>(q,_)) (List.map_congr_left fun x hx=>?_)
  have h1:=a4 x hx
  have h2:=hle x (List.mem_of_mem_take hx)
  simp only [Function.comp_apply,mkT,z6.mk.injEq,true_and,and_true]
  omega
 ·rw [e2,zjD key,e]
  simp only [List.map_append,List.map_map,← List.map_take]
  refine congrArg (fun q=>(q++_,_)) (List.map_congr_left fun x hx=>?_)
  have h2:=hle x (List.mem_of_mem_take hx)
  have h3:L[j].2.1≤x.2.1:=by
   rw [List.take_add_one,List.getElem?_eq_getElem hj'] at hx
   rcases List.mem_append.1 hx with hx | hx
   ·exact a4 x hx
   ·simp at hx; rw [hx]; exact Nat.le_refl _
  simp only [Function.comp_apply,mkT,z6.mk.injEq,true_and,and_true]
  simp only [List.length_append] at a2 ⊢
  omega
theorem zsH {s:List UInt8} (h:(tokR s).2.E=0) {i j:Nat} (hi:i<j) (hj:j<(tokR s).1.length):((tokR s).1[i]'(by omega)).At<((tokR s).1[j]).At:=by
 obtain ⟨L,hL,e⟩:=zfz h
 have hj' : j<L.length:=by rw [e] at hj; simpa using hj
 have h1:=List.pairwise_iff_getElem.1 (ztV hL) i j (by omega) hj' hi
 have h2:=zlm hL _ (List.getElem_mem (show i<L.length by omega))
 simp only [e,List.getElem_map,mkT]
 omega
theorem zsI {s:List UInt8} (h:(tokR s).2.E=0) {j:Nat} (hj:j<(tokR s).1.length):0≤((tokR s).1[j]).At∧((tokR s).1[j]).At<s.length:=by
 obtain ⟨L,hL,e⟩:=zfz h
 have hj' : j<L.length:=by rw [e] at hj; simpa using hj
 have h1:=zrH hL _ (List.getElem_mem hj')
 have h2:=zlm hL _ (List.getElem_mem hj')
 simp only [e,List.getElem_map,mkT]
 omega
end Go.Proofs.YtcmaoifiiigggaaGreatDoor
