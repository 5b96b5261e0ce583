/-
  Texts that stand side by side: LPj, Qr, LexQ, LPl, Qs, Qt, Qx.
-/
import Derived.Test.YtcmaoifiiigggaaGreatDoorV6M22
import Derived.Test.YtcmaoifiiigggaaGreatDoorFm
import Derived.Test.YtcmaoifiiigggaaGreatDoorV6G5a
set_option linter.unusedSimpArgs false
set_option linter.unusedVariables false
namespace Go.Proofs.YtcmaoifiiigggaaGreatDoor
open Go.Abs Go.Lex
theorem znt:∀ (n:Nat) (s out:List UInt8) (k:Int) (w r:List UInt8),s.length≤n→txtP out s = .inr (k,w,r)→k=4:=by
  intro n
  induction n with
  | zero =>
    intro s out k w r hn h
    match s,hn with
    | [],_=>rw [zaO] at h; cases h
  | succ n ih =>
    intro s out k w r hn h
    match s,hn with
    | [],_=>rw [zaO] at h; cases h
    | b :: t, hn =>
      rw [z5s] at h
      split at h
      · split at h
        · cases h
        · cases h; rfl
      · split at h
        · match t,hn,h with
          | [],_,h=>cases h
          | c :: t', hn, h =>
            simp only at h
            split at h
            · exact ih t' _ _ _ _ (by simp at hn; omega) h
            · cases h
        · split at h
          · cases h
          · exact ih t _ _ _ _ (by simp at hn; omega) h
end Go.Proofs.YtcmaoifiiigggaaGreatDoor
namespace Go.Proofs.YtcmaoifiiigggaaGreatDoor
open Go.Abs Go.Ps Go.Lex
theorem zrT {s:List UInt8} {k:Int} {w r:List UInt8} (h:nextP kwP s = .inr (k,w,r)):(k=2→w∈kwP)∧(k=5→w≠[97,110,100]∧w≠[111,114]):=by
  cases s with
  | nil=>cases h
  | cons b s =>
    rw [z6k] at h
    by_cases h1:sm b
    · rw [if_pos h1] at h
      unfold namP at h
      by_cases h2:(b::s).takeWhile rst∈kwP
      · rw [if_pos h2] at h
        cases h
        exact ⟨fun _=>h2,fun q=>absurd q (by decide)⟩
      · rw [if_neg h2] at h
        split at h
        · cases h
        · cases h
          exact ⟨fun q=>absurd q (by decide),fun q=>absurd q (by decide)⟩
    rw [if_neg h1] at h
    by_cases h2:dg b
    · rw [if_pos h2] at h
      unfold numP at h
      split at h
      · cases h
      · cases h
        exact ⟨fun q=>absurd q (by decide),fun q=>absurd q (by decide)⟩
    rw [if_neg h2] at h
    by_cases h3:b=34
    · rw [if_pos h3] at h
      have:=znt _ _ _ _ _ _ (Nat.le_refl _) h
      subst this
      exact ⟨fun q=>absurd q (by decide),fun q=>absurd q (by decide)⟩
    rw [if_neg h3] at h
    cases s with
    | nil =>
      rw [zdP] at h
      split at h
      · cases h
        exact ⟨fun q=>absurd q (by decide),fun q=>⟨fun e=>by simpa using congrArg List.length e,fun e=>by simpa using congrArg List.length e⟩⟩
      · cases h
    | cons c s =>
      rw [zbw] at h
      split at h
      · rename_i hm
        cases h
        exact ⟨fun q=>absurd q (by decide),fun q=>⟨fun e=>by simpa using congrArg List.length e,fun e=>by rw [e] at hm; exact absurd hm (by decide)⟩⟩
      · split at h
        · cases h
          exact ⟨fun q=>absurd q (by decide),fun q=>⟨fun e=>by simpa using congrArg List.length e,fun e=>by simpa using congrArg List.length e⟩⟩
        · cases h
theorem zpi:∀ (f:Nat) (s:List UInt8),∀ x∈(toksP kwP f s).1,(x.1=2→x.2.2∈kwP)∧(x.1=5→x.2.2≠[97,110,100]∧x.2.2≠[111,114])
  | 0,s,x,h=>by cases h
  | f + 1, s, x, h => by
    cases hs:skipP false s with
    | nil=>rw [z6g hs] at h; cases h
    | cons b r =>
      cases hn:nextP kwP (b::r) with
      | inl e=>rw [z8H hs hn] at h; cases h
      | inr q =>
        obtain ⟨k,w,rest⟩:=q
        rw [z7O hs hn] at h
        rcases List.mem_cons.1 h with rfl | h
        · exact zrT hn
        · exact zpi f rest x h
theorem zph (s:List UInt8):WT (tokR s).1:=by
 intro t ht
 unfold tokR at ht
 split at ht
 ·cases ht
 ·obtain ⟨x,hx,rfl⟩:=List.mem_map.1 ht
  exact zpi _ _ x hx
def opn (t:Tk):Int:=if t.1=5 then (if t.2=[40]∨t.2=[123] then 1 else if t.2=[41]∨t.2=[125] then -1 else 0) else 0
def deepT:List Tk→Int→Nat→Int
 | [],_,_=>-1
 | t::r,d,i=>if 40<d then i else deepT r (d+opn t) (i+1)
theorem zs4 (t:Tk) : -1≤opn t∧opn t≤1:=by
 unfold opn
 split
 ·split
  ·omega
  ·split <;> omega
 ·omega
theorem zlV (t:Lx) {a:Int} (h0 : -1000000≤a) (h1:a≤1000000):z7A t a=some (decide (40<a),if 40<a then a else a+opn (tk t)):=by
 unfold z7A
 by_cases h:40<a
 ·simp [h]
 ·have w1:IntKind.i64.wrap (a+1)=a+1:=w64 (by omega) (by omega)
  have w2:IntKind.i64.wrap (a - 1)=a - 1:=w64 (by omega) (by omega)
  unfold opn tk
  by_cases h5:t.Kind=5
  ·by_cases e1:t.S=[40]
   ·simp [h,h5,e1,bindJ,w1]
   by_cases e2:t.S=[123]
   ·simp [h,h5,e1,e2,bindJ,w1]
   by_cases e3:t.S=[41]
   ·simp [h,h5,e1,e2,e3,bindJ,w2]; omega
   by_cases e4:t.S=[125]
   ·simp [h,h5,e1,e2,e3,e4,bindJ,w2]; omega
   ·simp [h,h5,e1,e2,e3,e4,bindJ]
  ·simp [h,h5,bindJ]
variable {l : List Lx} {fin : Int}
theorem zku (hl:l.length≤100000):∀ (n i:Nat) (d:Int),i≤l.length→-(i:Int)≤d→d≤i→l.length - i<n→∃ x,
    bindJ (iter (z1m l) n ((i:Int),d)) (fun x=>some ((-1:Int),x))=some (deepT (tks l i) d i,x)
  | 0,_,_,_,_,_,h=>absurd h (Nat.not_lt_zero _)
  | n + 1, i, d, hi, h1, h2, hn => by
    by_cases hlt:i<l.length
    · have e:=List.getElem?_eq_getElem hlt
      rw [ze8 e]
      unfold deepT
      by_cases h:40<d
      · refine ⟨d,?_⟩
        rw [z1z (r:=.stop ((i:Int),d))]
        · rw [if_pos h]; rfl
        · unfold z1m
          simp only [Int.ofNat_lt,hlt,decide_true,cond_true,z4e e,zlV l[i] (a:=d) (by omega) (by omega),ob,h,if_true]
      · rw [if_neg h]
        have ho:=zs4 (tk l[i])
        obtain ⟨x,hx⟩:=zku hl n (i+1) (d+opn (tk l[i])) hlt (by omega) (by omega) (by omega)
        refine ⟨x,?_⟩
        rw [z4f (s':=(((i+1:Nat):Int),d+opn (tk l[i])))]
        · exact hx
        · unfold z1m
          simp only [Int.ofNat_lt,hlt,decide_true,cond_true,z4e e,zlV l[i] (a:=d) (by omega) (by omega),ob,h,if_false,decide_false,cond_false,zdc (j:=i) (by omega)]
    · refine ⟨d,?_⟩
      rw [zdR (by omega),z1z (r:=.go d)]
      · rfl
      · unfold z1m
        simp only [Int.ofNat_lt,hlt,decide_false,cond_false]
theorem zoA (hl:l.length≤100000) {n:Nat} (hn:l.length<n):z83 n l=some (deepT (tks l 0) 0 0):=by
 unfold z83 z2c
 obtain ⟨x,hx⟩:=zku hl n 0 0 (Nat.zero_le _) (by omega) (by omega) (by omega)
 have hx' : bindJ (iter (z1m l) n (0,0)) (fun x=>some ((-1:Int),x))=some (deepT (tks l 0) 0 0,x):=hx
 rw [hx']; rfl
theorem zfb:∀ (ts:List Tk) (d:Int) (i:Nat),deepT ts d i = -1∨∃ j:Nat,deepT ts d i=(j:Int)∧i≤j∧j<i+ts.length
  | [],_,_=>.inl rfl
  | t :: r, d, i => by
    unfold deepT
    by_cases h:40<d
    · rw [if_pos h]; exact .inr ⟨i,rfl,Nat.le_refl _,by simp⟩
    · rw [if_neg h]
      rcases zfb r (d+opn t) (i+1) with h1 | ⟨j,h1,h2,h3⟩
      · exact .inl h1
      · exact .inr ⟨j,h1,by omega,by simp; omega⟩
def noE:E:=⟨0,0,[],[]⟩
def outR {α β:Type} (z:β) (m:(Int→Int)→α→β) (p:Ps α) (s:List UInt8):β×z11:=
 if (tokR s).2.E≠0 then (z,(tokR s).2)
 else if 0≤deepT (tks (tokR s).1 0) 0 0 then (z,⟨gA (tokR s).1 (deepT (tks (tokR s).1 0) 0 0),2⟩)
 else match run' (tokR s).1 p 0 with
  | .bad j _=>(z,⟨eA (tokR s).1 s.length j,180⟩)
  | .ok a j _=>if j<(tokR s).1.length then (z,⟨eA (tokR s).1 s.length j,180⟩) else (m (gA (tokR s).1) a,⟨0,0⟩)
def outL {α β:Type} (z:β) (m:(Int→Int)→α→β) (p:Ps α) (s:List UInt8):β×z11:=
 if 65536<s.length then (z,⟨0,2⟩) else outR z m p s
theorem z5t {α β:Type} {l:List α} {i:Nat} (h:i<l.length) (k:α→Option β):idx l (i:Int) k=k l[i]:=z4e (List.getElem?_eq_getElem h) k
theorem zpN {i:Nat} (h:i<l.length):gA l (i:Int)=l[i].At:=by
 unfold gA
 rw [if_neg (show ¬((i:Int)<0) by omega)]
 simp only [Int.toNat_natCast,List.getElem?_eq_getElem h]
theorem zrw {α β:Type} {z:β} {m:(Int→Int)→α→β} {p:Ps α} (s:List UInt8) (hs:s.length≤65536) {n:Nat} (hn:1000000<n) {F:Rd'→Option (Pn (β×Rd'))} (hF:Ag (tokR s).1 s.length 0 (m (gA (tokR s).1)) F p) :
    (obind (z4J n s) fun r3=>
 cond (decide (r3.2.E≠0))
  (some (z,r3.2))
  (obind (z83 n r3.1) fun r9=>
  cond (decide (0≤r9))
   (idx r3.1 r9 fun x14=>
   some (z,(z11.mk x14.At 2)))
   (obind (F (z7.mk r3.1 0 (s.length:Int))) fun r17=>
   pbind r17 (fun e20=>
    some (z,(z11.mk e20 180))) fun q19=>
   bindJ (S:=Unit)
    (cond (decide (q19.2.i_ < (r3.1.length : Int)))
     (obind (z16 q19.2) fun r31=>
     pbind r31 (fun e34=>
      some (.stop (z,(z11.mk e34 180)))) fun q33=>
     some (.go ()))
     (some (.go ())))
   (fun _ =>
    some (q19.1,(z11.mk 0 0))))))=some (outR z m p s):=by
  have hl:=zb4 s
  rw [zf4 s hs n (by omega)]
  unfold outR
  by_cases h0:(tokR s).2.E≠0
  · simp only [ob,h0,decide_true,cond_true,if_true,not_false_eq_true,ne_eq]
  simp only [ob,h0,decide_false,cond_false,if_false,zoA (l:=(tokR s).1) (by omega) (n:=n) (by omega)]
  rcases zfb (tks (tokR s).1 0) 0 0 with h1 | ⟨j,h1,_,h3⟩
  · rw [h1]
    simp only [show ¬((0:Int)≤-1) by decide,decide_false,cond_false,if_false]
    have h4:=hF 0 (Nat.le_refl _) (Nat.zero_le _)
    have h5:=z2q (l:=(tokR s).1) p (j:=0) (Nat.zero_le _)
    rw [show F ⟨(tokR s).1,0,(s.length:Int)⟩=_ from h4]
    revert h5
    cases run' (tokR s).1 p 0 with
    | bad i r=>intro _; rfl
    | ok a i r =>
      rintro ⟨_,h6,_⟩
      simp only [conv,ob,pbind,Int.ofNat_lt]
      by_cases h7:i<(tokR s).1.length
      · simp only [h7,decide_true,cond_true,if_true,zc2,ob,pbind,bindJ]
      · simp only [h7,decide_false,cond_false,if_false,bindJ]
  · rw [h1]
    have h4:j<(tokR s).1.length:=by simpa [tks] using h3
    simp only [show (0:Int)≤(j:Int) by omega,decide_true,cond_true,if_true,z5t h4,zpN h4]
end Go.Proofs.YtcmaoifiiigggaaGreatDoor
namespace Go.Lex
def escC (b:UInt8):List UInt8:=if b=34 then [92,34] else if b=92 then [92,92] else [b]
def escL (s:List UInt8):List UInt8:=s.flatMap escC
def wrL (k:Int) (w:List UInt8):List UInt8:=if k=4 then [34]++escL w++[34] else w
theorem zfY (b:UInt8) (s:List UInt8):escL (b::s)=escC b++escL s:=rfl
def sepB (b:UInt8):Bool:=!(ltr b) && decide (b≠61) && decide (b≠46)
theorem zp2 {b:UInt8} (h:sepB b=true):ltr b=false:=by simp [sepB] at h; exact h.1.1
theorem zoP {b:UInt8} (h:ltr b=false):rst b=false:=by simp [ltr] at h; exact h.1
theorem zsh {b:UInt8} (h:rst b=false):dg b=false:=by simp [rst] at h; exact h.1.2
theorem zp3 {b:UInt8} (h:sepB b=true):rst b=false:=zoP (zp2 h)
theorem zkY {b:UInt8} (h:sepB b=true) (a:UInt8):[a,b] ∉ longs:=by
 simp [sepB] at h
 simp [longs,h.1.2,h.2]
def okH (r r' : List UInt8):Prop:=∀ c t,r'=c::t→sepB c=true∨∃ t',r=c::t'
theorem znr {p:UInt8→Bool}:∀ (x:List UInt8) (y:List UInt8),(∀ b∈x,p b=true)→(∀ c t,y=c::t→p c=false)→(x++y).takeWhile p=x∧(x++y).dropWhile p=y
  | [], y, _, hy => by
    cases y with
    | nil=>simp
    | cons c t =>
      have h:=hy c t rfl
      simp [h]
  | b :: x, y, hx, hy => by
    obtain ⟨h1,h2⟩:=znr x y (fun b hb=>hx b (List.mem_cons_of_mem _ hb)) hy
    have hb:=hx b (List.mem_cons_self ..)
    simp only [List.cons_append,List.takeWhile_cons_of_pos hb,List.dropWhile_cons_of_pos hb,h1,h2]
    exact ⟨trivial,trivial⟩
theorem zqJ {p:UInt8→Bool}:∀ (x:List UInt8),∀ b∈x.takeWhile p,p b=true
  | [],b,h=>by simp at h
  | a :: x, b, h => by
    cases ha:p a with
    | true =>
      rw [List.takeWhile_cons_of_pos ha] at h
      rcases List.mem_cons.1 h with rfl | h
      · exact ha
      · exact zqJ x b h
    | false=>rw [List.takeWhile_cons_of_neg (by simp [ha])] at h; simp at h
theorem zhq {p:UInt8→Bool}:∀ (x:List UInt8) (c:UInt8) (t:List UInt8),x.dropWhile p=c::t→p c=false
  | [],c,t,h=>by simp at h
  | a :: x, c, t, h => by
    cases ha:p a with
    | true=>rw [List.dropWhile_cons_of_pos ha] at h; exact zhq x c t h
    | false=>rw [List.dropWhile_cons_of_neg (by simp [ha])] at h; cases h; exact ha
theorem zqL:∀ (n:Nat) (s out:List UInt8) (k:Int) (w r:List UInt8),s.length≤n→txtP out s = .inr (k,w,r)→
    k=4∧∃ v,w=out++v∧s=escL v++34::r∧∀ r',txtP out (escL v++34::r') = .inr (4,w,r'):=by
  intro n
  induction n with
  | zero =>
    intro s out k w r hn h
    match s,hn with
    | [],_=>rw [zaO] at h; cases h
  | succ n ih =>
    intro s out k w r hn h
    match s,hn with
    | [],_=>rw [zaO] at h; cases h
    | b :: t, hn =>
      rw [z5s] at h
      split at h
      · rename_i h1
        subst h1
        split at h
        · cases h
        · rename_i h2
          cases h
          refine ⟨rfl,[],by simp,rfl,fun r'=>?_⟩
          show txtP out (34::r')=_
          rw [z5s,if_pos rfl,if_neg h2]
      · rename_i h1
        split at h
        · rename_i h2
          subst h2
          match t,hn,h with
          | [],_,h=>cases h
          | c :: t', hn, h =>
            simp only at h
            split at h
            · rename_i h3
              obtain ⟨hk,v,hw,hs,hr⟩:=ih t' _ _ _ _ (by simp at hn; omega) h
              have hc:escC c=[92,c]:=by rcases h3 with rfl | rfl <;> rfl
              refine ⟨hk,c::v,by rw [hw]; simp,by rw [zfY,hc,hs]; simp,fun r'=>?_⟩
              rw [zfY,hc]
              show txtP out (92::c::(escL v++34::r'))=_
              rw [z5s,if_neg (by decide),if_pos rfl]
              simp only
              rw [if_pos h3]
              exact hr r'
            · cases h
        · rename_i h2
          split at h
          · cases h
          · rename_i h3
            obtain ⟨hk,v,hw,hs,hr⟩:=ih t _ _ _ _ (by simp at hn; omega) h
            have hb:escC b=[b]:=by unfold escC; rw [if_neg h1,if_neg h2]
            refine ⟨hk,b::v,by rw [hw]; simp,by rw [zfY,hb,hs]; simp,fun r'=>?_⟩
            rw [zfY,hb]
            show txtP out (b::(escL v++34::r'))=_
            rw [z5s,if_neg h1,if_neg h2,if_neg h3]
            exact hr r'
theorem zdo {s:List UInt8} {k:Int} {w r:List UInt8} (h:sgnP s = .inr (k,w,r)):k=5∧s=w++r∧w≠[]∧∀ r',okH r r'→sgnP (w++r') = .inr (5,w,r'):=by
  have one:∀ (b:UInt8) (hb:b∈shorts) (q:List UInt8),(∀ c t,q=c::t→[b,c] ∉ longs)→sgnP (b::q) = .inr (5,[b],q):=by
    intro b hb q hq
    cases q with
    | nil=>rw [zdP,if_pos hb]
    | cons c t=>rw [zbw,if_neg (hq c t rfl),if_pos hb]
  match s,h with
  | [b], h =>
    rw [zdP] at h
    split at h
    · rename_i hb
      cases h
      refine ⟨rfl,rfl,by simp,fun r' hr=>one b hb r' fun c t hc=>?_⟩
      rcases hr c t hc with h | ⟨t',h⟩
      · exact zkY h b
      · cases h
    · cases h
  | b :: c :: t, h =>
    rw [zbw] at h
    split at h
    · rename_i hl
      cases h
      refine ⟨rfl,rfl,by simp,fun r' _=>?_⟩
      show sgnP (b::c::r')=_
      rw [zbw,if_pos hl]
    · rename_i hl
      split at h
      · rename_i hb
        cases h
        refine ⟨rfl,rfl,by simp,fun r' hr=>one b hb r' fun c' t' hc=>?_⟩
        rcases hr c' t' hc with h | ⟨t'',h⟩
        · exact zkY h b
        · cases h; exact hl
      · cases h
theorem zo3 {s:List UInt8} {k:Int} {w r:List UInt8} (hs:∃ b t,s=b::t∧dg b=true) (h:numP s = .inr (k,w,r)):k=3∧s=w++r∧w≠[]∧∀ r',okH r r'→numP (w++r') = .inr (3,w,r'):=by
  unfold numP at h
  split at h
  · cases h
  · rename_i hb
    cases h
    refine ⟨rfl,(List.takeWhile_append_dropWhile).symm,?_,fun r' hr=>?_⟩
    · obtain ⟨b,t,rfl,hd⟩:=hs
      rw [List.takeWhile_cons_of_pos hd]; simp
    · generalize hw:s.takeWhile dg=w at *
      generalize hq:s.dropWhile dg=r at *
      have hal:∀ b∈w,dg b=true:=by rw [← hw]; exact zqJ s
      have hd0:∀ c t,r=c::t→ltr c=false:=by
        intro c t hc
        subst hc
        simp [zfM] at hb
        exact hb.2
      have hl:∀ c t,r'=c::t→ltr c=false:=by
        intro c t hc
        rcases hr c t hc with h | ⟨t',h⟩
        · exact zp2 h
        · exact hd0 c t' h
      obtain ⟨h1,h2⟩:=znr w r' hal (fun c t hc=>zsh (zoP (hl c t hc)))
      unfold numP
      rw [h1,h2]
      have hbad:zfM w r'=false:=by
        have h3:zfM w []=false:=by
          unfold zfM at hb ⊢
          simp only [Bool.or_eq_true,not_or,Bool.or_eq_false_iff] at hb ⊢
          exact ⟨⟨by simpa using hb.1.1,by simpa using hb.1.2⟩,trivial⟩
        cases r' with
        | nil=>exact h3
        | cons c t =>
          have:=hl c t rfl
          unfold zfM at h3 ⊢
          simp only [Bool.or_eq_false_iff] at h3 ⊢
          exact ⟨h3.1,this⟩
      rw [if_neg (by rw [hbad]; decide)]
theorem zo2 (kw:List (List UInt8)) {s:List UInt8} {k:Int} {w r:List UInt8} (hs:∃ b t,s=b::t∧rst b=true) (h:namP kw s = .inr (k,w,r)):k≠4∧s=w++r∧w≠[]∧∀ r',okH r r'→namP kw (w++r') = .inr (k,w,r'):=by
 have key:∀ r',okH (s.dropWhile rst) r'→(s.takeWhile rst++r').takeWhile rst=s.takeWhile rst∧(s.takeWhile rst++r').dropWhile rst=r':=by
  intro r' hr
  refine znr _ _ (zqJ s) fun c t hc=>?_
  rcases hr c t hc with h | ⟨t',h⟩
  ·exact zp3 h
  ·exact zhq s c t' h
 have hne:s.takeWhile rst≠[]:=by
  obtain ⟨b,t,rfl,hd⟩:=hs
  rw [List.takeWhile_cons_of_pos hd]; simp
 unfold namP at h
 split at h
 ·rename_i hk
  cases h
  refine ⟨by decide,(List.takeWhile_append_dropWhile).symm,hne,fun r' hr=>?_⟩
  obtain ⟨h1,h2⟩:=key r' hr
  unfold namP
  rw [h1,h2,if_pos hk]
 ·rename_i hk
  split at h
  ·cases h
  ·rename_i hl
   cases h
   refine ⟨by decide,(List.takeWhile_append_dropWhile).symm,hne,fun r' hr=>?_⟩
   obtain ⟨h1,h2⟩:=key r' hr
   unfold namP
   rw [h1,h2,if_neg hk,if_neg hl]
theorem zj5 {kw:List (List UInt8)} {s:List UInt8} {k:Int} {w r:List UInt8} (h:nextP kw s = .inr (k,w,r)):s=wrL k w++r∧wrL k w≠[]∧∀ r',okH r r'→nextP kw (wrL k w++r') = .inr (k,w,r'):=by
  match s,h with
  | b :: t, h =>
    have hcons:∀ (w r' : List UInt8),b::t=w++r→w≠[]→∃ t',w++r'=b::t':=by
      intro w r' h1 h2
      cases w with
      | nil=>exact absurd rfl h2
      | cons c w=>cases h1; exact ⟨_,rfl⟩
    rw [z6k] at h
    split at h
    · rename_i hb
      obtain ⟨h1,h2,h3,h4⟩:=zo2 kw ⟨b,t,rfl,by unfold rst; rw [hb]; rfl⟩ h
      have hw:wrL k w=w:=by unfold wrL; rw [if_neg h1]
      rw [hw]
      refine ⟨h2,h3,fun r' hr=>?_⟩
      have h5:=h4 r' hr
      obtain ⟨t',ht⟩:=hcons w r' h2 h3
      rw [ht] at h5 ⊢
      rw [z6k,if_pos hb,h5]
    · rename_i hb
      split at h
      · rename_i hd
        obtain ⟨rfl,h2,h3,h4⟩:=zo3 ⟨b,t,rfl,hd⟩ h
        have hw:wrL 3 w=w:=by unfold wrL; rw [if_neg (by decide)]
        rw [hw]
        refine ⟨h2,h3,fun r' hr=>?_⟩
        have h5:=h4 r' hr
        obtain ⟨t',ht⟩:=hcons w r' h2 h3
        rw [ht] at h5 ⊢
        rw [z6k,if_neg hb,if_pos hd,h5]
      · rename_i hd
        split at h
        · rename_i hq
          subst hq
          obtain ⟨rfl,v,hv,hs,hr⟩:=zqL _ _ _ _ _ _ (Nat.le_refl _) h
          rw [List.nil_append] at hv
          subst hv
          have hw:wrL 4 w=[34]++escL w++[34]:=by unfold wrL; rw [if_pos rfl]
          rw [hw]
          refine ⟨by rw [hs]; simp,by simp,fun r' _=>?_⟩
          rw [show [34]++escL w++[34]++r'=34::(escL w++34::r') by simp,z6k,if_neg hb,if_neg hd,if_pos rfl,hr r']
        · rename_i hq
          obtain ⟨rfl,h2,h3,h4⟩:=zdo h
          have hw:wrL 5 w=w:=by unfold wrL; rw [if_neg (by decide)]
          rw [hw]
          refine ⟨h2,h3,fun r' hr=>?_⟩
          have h5:=h4 r' hr
          obtain ⟨t',ht⟩:=hcons w r' h2 h3
          rw [ht] at h5 ⊢
          rw [z6k,if_neg hb,if_neg hd,if_neg hq,h5]
structure Tok (kw:List (List UInt8)) (k:Int) (w:List UInt8):Prop where
 head:∃ b t,wrL k w=b::t∧b≠35∧spc b=false
 read:∀ r',(∀ c t,r'=c::t→sepB c=true)→nextP kw (wrL k w++r') = .inr (k,w,r')
theorem zgU {kw:List (List UInt8)} {s:List UInt8} {b:UInt8} {q:List UInt8} {k:Int} {w r:List UInt8} (hs:skipP false s=b::q) (h:nextP kw (b::q) = .inr (k,w,r)):Tok kw k w:=by
 obtain ⟨h1,h2,h3⟩:=zj5 h
 obtain ⟨h4,h5⟩:=zdp _ _ _ _ hs
 refine ⟨?_,fun r' hr=>h3 r' fun c t hc=>.inl (hr c t hc)⟩
 cases hw:wrL k w with
 | nil=>exact absurd hw h2
 | cons c t=>rw [hw] at h1; cases h1; exact ⟨_,_,rfl,h4,h5⟩
theorem zdb {kw:List (List UInt8)} {g rest:List UInt8} {k:Int} {w:List UInt8} (hg:∀ (b:UInt8) (r:List UInt8),b≠35→spc b=false→skipP false (g++b::r)=b::r) (ht:Tok kw k w)
  (hn:nextP kw (wrL k w++rest) = .inr (k,w,rest)) (f:Nat):toksP kw (f+1) (g++(wrL k w++rest))=((k,(wrL k w++rest).length,w)::(toksP kw f rest).1,(toksP kw f rest).2):=by
 obtain ⟨b,t,h1,h2,h3⟩:=ht.head
 have e:wrL k w++rest=b::(t++rest):=by rw [h1]; rfl
 rw [e] at hn ⊢
 rw [z7O (hg b (t++rest) h2 h3) hn]
 rfl
def GapOk (g:List UInt8):Prop:=∀ (b:UInt8) (r:List UInt8),b≠35→spc b=false→skipP false (g++b::r)=b::r
def zjK (g:List UInt8):Prop:=∃ c t,g=c::t∧sepB c=true
def catL:List (List UInt8×Int×List UInt8)→List UInt8
 | []=>[]
 | (g,k,w)::r=>g++(wrL k w++catL r)
theorem zno (kw:List (List UInt8)):∀ l:List (List UInt8×Int×List UInt8),(∀ x∈l,GapOk x.1∧Tok kw x.2.1 x.2.2)→(∀ x∈l.tail,zjK x.1)→∀ f,(catL l).length<f→
    ∃ L,toksP kw f (catL l)=(L,none)∧L.map (fun x=>(x.1,x.2.2))=l.map (·.2)
  | [],_,_,f,_=>⟨[],z6g rfl f,rfl⟩
  | (g, k, w) :: r, h1, h2, f, hf => by
    obtain ⟨hg,ht⟩:=h1 _ (List.mem_cons_self ..)
    match f,hf with
    | f + 1, hf =>
      have hne:0<(wrL k w).length:=by
        obtain ⟨b,t,hb,_,_⟩:=ht.head
        show 0<(wrL (g,k,w).2.1 (g,k,w).2.2).length
        rw [hb]; simp
      have hsep:∀ c t,catL r=c::t→sepB c=true:=by
        intro c t hc
        match r,h2,hc with
        | (g', k', w') :: r', h2, hc =>
          obtain ⟨c',t',e,hs⟩:=h2 _ (List.mem_cons_self ..)
          simp only at e
          subst e
          simp only [catL,List.cons_append,List.cons.injEq] at hc
          rw [← hc.1]; exact hs
      obtain ⟨L,e1,e2⟩:=zno kw r (fun x hx=>h1 x (List.mem_cons_of_mem _ hx)) (fun x hx=>h2 x (List.mem_of_mem_tail hx)) f (by
        simp only [catL,List.length_append] at hf; omega)
      refine ⟨(k,(wrL k w++catL r).length,w)::L,?_,?_⟩
      · have h3:=zdb hg ht (ht.read _ hsep) f
        rw [e1] at h3
        exact h3
      · simp [e2]
theorem zi3:GapOk []:=fun b r h1 h2=>by rw [List.nil_append,zav,if_neg h1,h2]; rfl
theorem zhu:GapOk [32]:=fun b r h1 h2=>by
 show skipP false (32::b::r)=_
 rw [zav,if_neg (by decide),if_pos (by decide),zav,if_neg h1,h2]; rfl
theorem zgn:zjK [32]:=⟨32,[],rfl,by decide⟩
end Go.Lex
namespace Go.Proofs.YtcmaoifiiigggaaGreatDoor
open Go.Abs Go.Lex
theorem zjD {s:List UInt8} {L:List (Int×Nat×List UInt8)} (h:toksP kwP (s.length+1) s=(L,none)):tokR s=(L.map (mkT s.length),⟨0,0⟩):=by
 unfold tokR; rw [h]
end Go.Proofs.YtcmaoifiiigggaaGreatDoor
namespace Go.Proofs.YtcmaoifiiigggaaGreatDoor
open Go.Abs Go.Ps Go.Lex
variable {l : List Lx} {fin : Int}
theorem zbZ (l:List Lx):tks l 0=l.map tk:=rfl
end Go.Proofs.YtcmaoifiiigggaaGreatDoor
namespace Go.Proofs.YtcmaoifiiigggaaGreatDoor
open Go.Abs Go.Ps Go.Lex
def opL:List Int:=[22,21,10,11,12,13,14]
def wd (o:Int):List UInt8×Int:=if o=22 then ([111,114],1) else if o=21 then ([97,110,100],2) else if o=10 then ([43],5) else if o=11 then ([45],5) else if o=12 then ([42],6) else if o=14 then ([37],6) else ([47],6)
def str (o:Int):Int:=(wd o).2
def opT (o:Int):Tk:=(if o=22∨o=21 then 2 else 5,(wd o).1)
abbrev Its:=List (Int×List UInt8)
def TL:Its→List Tk
 | []=>[]
 | (o,b)::r=>opT o::(1,b)::TL r
def VL (l:Its):Prop:=∀ x∈l,x.1∈opL
def sx (x:E):Int:=match x.Args with | [_,_]=>str x.Op | _=>9
inductive Gd:E→List UInt8→Its→Prop
 | leaf (i:Int) (a:List UInt8):Gd ⟨3,i,a,[]⟩ a []
 | node (o i:Int) (y z:E) (a b:List UInt8) (p q:Its):Gd y a p→Gd z b q→str o≤sx y→str o<sx z→o∈opL→Gd ⟨o,i,[],[y,z]⟩ a (p++(o,b)::q)
def Wk (c:Int):Its→Prop
 | []=>True
 | (o,_)::_=>str o<c
def RL (p:Ps E) (c:Int) (m:Nat):Prop:=∀ (i:Nat) (a:List UInt8) (l:Its),VL l→l.length<m→∃ x p1 p2,l=p1++p2∧p.run i ((1,a)::TL l) = .ok x (i+1+2*p1.length) (TL p2)∧Gd x a p1∧c≤sx x∧Wk c p2
theorem ziQ {op:Option Tk→Int} {one:Ps E} {c c' : Int} {m:Nat} (h1:RL one c' m) (hn:op none=0) (ho:∀ o∈opL,op (some (opT o))=if str o=c then o else 0) (hc:∀ o∈opL,str o<c'→str o≤c) (hcc:c<c') :
    ∀ (f i:Nat) (x:E) (a:List UInt8) (l p0:Its),VL l→l.length<m→l.length<f→Gd x a p0→c≤sx x→Wk c' l→∃ y p1 p2,l=p1++p2∧(zef op one f x).run i (TL l) = .ok y (i+2*p1.length) (TL p2)∧Gd y a (p0++p1)∧c≤sx y∧Wk c p2
  | 0,_,_,_,_,_,_,_,h,_,_,_=>absurd h (Nat.not_lt_zero _)
  | f + 1, i, x, a, [], p0, hv, hm, hf, hg, hs, hw => by
    refine ⟨x,[],[],rfl,?_,by rw [List.append_nil]; exact hg,hs,trivial⟩
    unfold zef
    rw [zfu]
    simp only [TL,List.head?_nil,hn,if_true]
    rfl
  | f + 1, i, x, a, (o, b) :: r, p0, hv, hm, hf, hg, hs, hw => by
    have hov:o∈opL:=hv _ (List.mem_cons_self ..)
    have hvr:VL r:=fun y hy=>hv y (List.mem_cons_of_mem _ hy)
    have hno:o≠0:=fun q=>by rw [q] at hov; exact absurd hov (by decide)
    by_cases he:str o=c
    · simp only [List.length_cons] at hm hf
      obtain ⟨y,p1,p2,e1,e2,e3,e4,e5⟩:=h1 (i+1) b r hvr (by omega)
      have hl:=congrArg List.length e1
      rw [List.length_append] at hl
      obtain ⟨z,q1,q2,g1,g2,g3,g4,g5⟩:=ziQ h1 hn ho hc hcc f (i+1+1+2*p1.length) ⟨o,i,[],[x,y]⟩ a p2 (p0++(o,b)::p1) (fun w hw=>hvr w (by rw [e1]; exact List.mem_append_right _ hw)) (by omega) (by omega)
        (.node o i x y a b p0 p1 hg e3 (by rw [he]; exact hs) (by omega) hov) (by show c≤str o; omega) e5
      refine ⟨z,(o,b)::(p1++q1),q2,?_,?_,?_,g4,g5⟩
      · rw [e1,g1]; simp
      · unfold zef
        rw [zfu]
        simp only [TL,List.head?_cons,ho o hov,he,if_true,hno,if_false]
        rw [Ps.run_skip,run_bind,e2]
        show (zef op one f ⟨o,i,[],[x,y]⟩).run _ _=_
        rw [g2]
        congr 1
        simp; omega
      · rw [show p0++(o,b)::(p1++q1)=(p0++(o,b)::p1)++q1 by simp]
        exact g3
    · refine ⟨x,[],(o,b)::r,rfl,?_,by rw [List.append_nil]; exact hg,hs,?_⟩
      · unfold zef
        rw [zfu]
        simp only [TL,List.head?_cons,ho o hov,he,if_false,if_true]
        rfl
      · have:=hc o hov hw
        show str o<c
        omega
theorem zek {op:Option Tk→Int} {one:Ps E} {c c' : Int} {m N:Nat} (h1:RL one c' m) (hN:m≤N) (hn:op none=0) (ho:∀ o∈opL,op (some (opT o))=if str o=c then o else 0) (hc:∀ o∈opL,str o<c'→str o≤c) (hcc:c<c'):RL (zgo op one N) c m:=by
 intro i a l hv hm
 obtain ⟨x,p1,p2,e1,e2,e3,e4,e5⟩:=h1 i a l hv hm
 have hl:=congrArg List.length e1
 rw [List.length_append] at hl
 obtain ⟨y,q1,q2,g1,g2,g3,g4,g5⟩:=ziQ h1 hn ho hc hcc N (i+1+2*p1.length) x a p2 p1 (fun w hw=>hv w (by rw [e1]; exact List.mem_append_right _ hw)) (by omega) (by omega) e3 (by omega) e5
 refine ⟨y,p1++q1,q2,by rw [e1,g1]; simp,?_,g3,g4,g5⟩
 unfold zgo
 rw [run_bind,e2]
 show (zef op one N x).run _ _=_
 rw [g2]
 congr 1
 simp; omega
theorem zmA (ex:Ps E) (f m:Nat):RL (zgu ex (f+1)) 9 m:=by
  intro i a l hv hm
  refine ⟨⟨3,i,a,[]⟩,[],l,rfl,?_,.leaf _ _,Int.le_refl _,?_⟩
  · unfold zgu
    rw [zfu]
    show (atomP ex).run i ((1,a)::TL l)=_
    unfold atomP
    rw [zfu]
    rfl
  · cases l with
    | nil=>trivial
    | cons w r =>
      have:∀ o∈opL,str o<9:=by decide
      exact this _ (hv _ (List.mem_cons_self ..))
theorem zo0 {ex sum:Ps E} {m N:Nat} (h:RL sum 5 m):RL (lessP ex sum N) 5 m:=by
  intro i a l hv hm
  obtain ⟨x,p1,p2,e1,e2,e3,e4,e5⟩:=h i a l hv hm
  refine ⟨x,p1,p2,e1,?_,e3,e4,e5⟩
  unfold lessP
  rw [run_bind,e2]
  dsimp only [Out.andThen]
  rw [zfu]
  cases p2 with
  | nil=>rfl
  | cons w r =>
    obtain ⟨o,b⟩:=w
    have hov:o∈opL:=hv _ (by rw [e1]; exact List.mem_append_right _ (List.mem_cons_self ..))
    have:∀ o∈opL,str o<5→ordO (some (opT o))=0∧wrd [105,110] (some (opT o))=false:=by decide
    obtain ⟨h1,h2⟩:=this o hov e5
    simp only [TL,List.head?_cons,h1,h2,Int.lt_irrefl,if_false,Bool.false_eq_true]
    rfl
theorem zq3 {less:Ps E} {m f:Nat} {c:Int} (h:RL less c m):RL (notP less (f+1)) c m:=by
 intro i a l hv hm
 obtain ⟨x,p1,p2,e1,e2,e3⟩:=h i a l hv hm
 exact ⟨x,p1,p2,e1,e2,e3⟩
theorem znM {N f m:Nat} (hm:m<N) (hf:0<f):RL (exprP N f) 1 m:=by
 obtain ⟨f,rfl⟩ : ∃ g,f=g+1:=⟨f - 1,by omega⟩
 obtain ⟨N,rfl⟩ : ∃ g,N=g+1:=⟨N - 1,by omega⟩
 unfold exprP
 refine zek (c':=2) ?_ (by omega) rfl (by decide) (by decide) (by decide)
 unfold conjP
 refine zek (c':=5) ?_ (by omega) rfl (by decide) (by decide) (by decide)
 refine zq3 (zo0 ?_)
 unfold sumP
 refine zek (c':=6) ?_ (by omega) rfl (by decide) (by decide) (by decide)
 unfold zie
 exact zek (c':=9) (zmA _ _ _) (by omega) rfl (by decide) (by decide) (by decide)
def txO (a:List UInt8):Its→List UInt8
 | []=>a
 | (o,b)::r=>a++((([32]++(wd o).1)++[32])++txO b r)
theorem zns:∀ (p:Its) (a b:List UInt8) (o:Int) (q:Its),txO a (p++(o,b)::q)=(((txO a p++[32])++(wd o).1)++[32])++txO b q
  | [],a,b,o,q=>by simp [txO]
  | (o', c) :: p, a, b, o, q => by
    rw [List.cons_append,txO,zns p c b o q,txO]
    simp only [List.append_assoc]
end Go.Proofs.YtcmaoifiiigggaaGreatDoor
namespace Go.Proofs.YtcmaoifiiigggaaGreatDoor
open Go.Abs Go.Ps Go.Lex
theorem zoE (s:List UInt8) {n N:Nat} (hn:1000000<n) (hN:65536<N):z8Z n s=some (outL noE atE (exprP N N) s):=by
 unfold z8Z z4k outL
 by_cases hs:65536<s.length
 ·rw [if_pos hs,zhM s hs n]; rfl
 ·rw [if_neg hs]
  have hl:=zb4 s
  have:=zrw (z:=noE) s (by omega) hn (m:=atE) (F:=z18 n) (zm4 (N:=N) (by omega) (zph s) n N 0 (by omega) (by omega) (by omega))
  refine (congrArg (fun o=>obind o fun r3=>some (r3.1,r3.2)) this).trans ?_
  rfl
end Go.Proofs.YtcmaoifiiigggaaGreatDoor
