/-
  Texts that stand side by side: LPj, Qr, LPk, LexQ, Qs, Qu, Qv, Sa, Sb, Ra, Rb, Rc, Rd, Re, Rf, Rg, Rh.
-/
import Derived.Test.YtcmaoifiiigggaaGreatDoorV8Fn
import Derived.Test.YtcmaoifiiigggaaGreatDoorV8Fo
import Derived.Test.YtcmaoifiiigggaaGreatDoorV8M25
import Derived.Test.YtcmaoifiiigggaaGreatDoorV8G5b
set_option linter.unusedSimpArgs false
set_option linter.unusedVariables false
namespace Go.Proofs.YtcmaoifiiigggaaGreatDoor
open Go.Abs Go.Lex
theorem z4z {S R:Type} (s:S) (k:S→Option R):bindJ (some (.go s)) k=k s:=rfl
def wr (t:z6):List UInt8:=if t.Kind=4 then [34]++esc t.S++[34] else t.S
theorem zom (t:z6):(wr t).length≤2*t.S.length+2:=by
 have h1:=zdC t.S; have h2:=k2_le t.S
 unfold wr
 split
 ·simp; omega
 ·omega
theorem znB (t:z6) (h:t.S.length≤1000000):zba t=some (wr t):=by
 have h1:=zdC t.S; have h2:=k2_le t.S
 unfold zba wr
 by_cases hk:t.Kind=4
 ·rw [yL (by simpa using hk),yJ,if_pos hk]
  unfold zjW zk7
  rw [z1n (by rfl),z1n ⟨⟨rfl,rfl⟩,rfl,by omega⟩]
  simp only [obind,yO]
  rw [z1n (by simp; omega),z1n (by simp; omega)]
 ·rw [yM (by simpa using hk),yK,if_neg hk]
theorem zh0 (t:z6) (h:t.S.length≤1000000) (n:Nat) (hn:t.S.length<n):z9o n t=some (wr t):=by
 have h1:=zdC t.S; have h2:=k2_le t.S
 unfold z9o wr
 by_cases hk:t.Kind=4
 ·rw [yL (by simpa using hk),yJ,if_pos hk]
  obtain ⟨r,e,rfl⟩:=z71 (step:=za5 t) (fun x=>∃ i:Nat,x=(esc (t.S.take i),(i:Int))∧i≤t.S.length) (fun x=>t.S.length - x.2.toNat) (fun r=>r = .go (esc t.S)) (by
   rintro _ ⟨i,rfl,hi⟩
   unfold za5
   by_cases hlt:i<t.S.length
   ·refine .inl ⟨_,?_,⟨i+1,rfl,hlt⟩,by simp; omega⟩
    have hel:=zdC (t.S.take i); have hk2:=k2_le (t.S.take i)
    have hle:(t.S.take i).length≤t.S.length:=by simp; omega
    simp only
    rw [yM (show (i:Int)<(t.S.length:Int) by omega),yK,z9v hlt,z9v hlt]
    rw [z61 t.S[i] 34 34 rfl,z61 t.S[i] 92 92 rfl,zm2 hlt,w64 (by omega) (by omega)]
    by_cases a1:t.S[i]=34
    ·rw [yM a1,yK,z4z,yK,z1n (by simp; omega),z4z,z9v hlt,z1n (by simp; omega),a1]
     simp [zoC]
    ·by_cases a2:t.S[i]=92
     ·rw [yL a1,yJ,yM a2,z4z,yK,z1n (by simp; omega),z4z,z9v hlt,z1n (by simp; omega),a2]
      simp [zoD]
     ·rw [yL a1,yJ,yL a2,z4z,yJ,z4z,z9v hlt,z1n (by simp; omega),zkw a1 a2]
      simp
   ·obtain rfl:i=t.S.length:=by omega
    refine .inr ⟨_,?_,rfl⟩
    simp only
    rw [yL (by omega),yJ]
    simp) n ([],0) ⟨0,by simp [esc],by omega⟩ (by simp; omega)
  rw [e,z4z]
  rw [z1n (by simp; omega),z1n (by simp; omega)]
 ·rw [yM (by simpa using hk),yK,if_neg hk]
def isT (t:z6):Bool:=decide ((tokR (wr t)).2.E=0) && decide ((tokR (wr t)).1=[⟨t.Kind,0,t.S⟩])
theorem zrN (x:z6) (k:Int) (s:List UInt8):(x=⟨k,0,s⟩)↔x.Kind=k∧x.At=0∧x.S=s:=by
 obtain ⟨a,b,c⟩:=x
 simp
theorem zmj (t:z6) (h:t.S.length≤30000) (n:Nat) (hn:100000<n):zaB n t=some (isT t):=by
  have hw:=zom t
  unfold zaB isT
  rw [znB t (by omega)]
  simp only [obind,yO]
  rw [zf4 (wr t) (by omega) n (by omega)]
  simp only [yO]
  generalize tokR (wr t)=r
  obtain ⟨l,p⟩:=r
  by_cases h0:p.E=0
  · match l with
    | []=>simp [h0,z4z]
    | [x] =>
      have h3:(x=(⟨t.Kind,0,t.S⟩ : z6))↔_:=zrN x t.Kind t.S
      have h4:(decide (x.Kind=t.Kind) && (decide (x.At=0) && decide (x.S=t.S)))=decide (x=(⟨t.Kind,0,t.S⟩ : z6)):=by
        rw [Bool.eq_iff_iff]; simp only [Bool.and_eq_true,decide_eq_true_eq]; rw [h3]
      simp [h0,z4z,idx,h4]
    | x :: y :: l =>
      have hlen:decide (((x::y::l).length:Int)=1)=false:=yL (by simp; omega)
      rw [hlen,Bool.and_false,yJ]
      simp [z4z]
  · simp [h0,z4z]
theorem zlq (t:z6) (h:t.S.length≤30000) (n:Nat) (hn:100000<n):z9N n t=some (isT t):=by
  have hw:=zom t
  unfold z9N isT
  rw [yL (by omega),yJ,zh0 t (by omega) n (by omega)]
  simp only [obind,yO]
  rw [zgJ (wr t) (by omega) n (by omega)]
  simp only [yO]
  generalize tokR (wr t)=r
  obtain ⟨l,p⟩:=r
  by_cases h0:p.E=0
  · match l with
    | []=>simp [h0,z4z]
    | [x] =>
      have h3:(x=(⟨t.Kind,0,t.S⟩ : z6))↔_:=zrN x t.Kind t.S
      have hlen:decide ((([x]:List z6).length:Int)=1)=true:=rfl
      have hi0:∀ {R:Type} (k:z6→Option R),idx [x] 0 k=k x:=fun k=>rfl
      rw [hlen,yM h0]
      simp only [Bool.and_true,yK,hi0,z4z]
      by_cases a1:x.Kind=t.Kind <;> by_cases a2:x.At=0 <;> by_cases a3:x.S=t.S <;> simp [a1,a2,a3,z4z,h3]
    | x :: y :: l =>
      have hlen:decide (((x::y::l).length:Int)=1)=false:=yL (by simp; omega)
      rw [hlen,Bool.and_false,yJ]
      simp [z4z]
  · simp [h0,z4z]
open Go.Ps
def opn (t:Tk):Int:=if t.1=5 then (if t.2=[40]∨t.2=[123] then 1 else if t.2=[41]∨t.2=[125] then -1 else 0) else 0
def deepT:List Tk→Int→Nat→Int
 | [],_,_=>-1
 | t::r,d,i=>if 40<d then i else deepT r (d+opn t) (i+1)
theorem zs4 (t:Tk) : -1≤opn t∧opn t≤1:=by
 unfold opn
 split
 ·split
  ·omega
  ·split <;> omega
 ·omega
theorem zlV (t:Lx) {a:Int} (h0 : -1000000≤a) (h1:a≤1000000):z7A t a=some (decide (40<a),if 40<a then a else a+opn (tk t)):=by
 unfold z7A
 by_cases h:40<a
 ·simp [h]
 ·have w1:IntKind.i64.wrap (a+1)=a+1:=w64 (by omega) (by omega)
  have w2:IntKind.i64.wrap (a - 1)=a - 1:=w64 (by omega) (by omega)
  unfold opn tk
  by_cases h5:t.Kind=5
  ·by_cases e1:t.S=[40]
   ·simp [h,h5,e1,bindJ,w1]
   by_cases e2:t.S=[123]
   ·simp [h,h5,e1,e2,bindJ,w1]
   by_cases e3:t.S=[41]
   ·simp [h,h5,e1,e2,e3,bindJ,w2]; omega
   by_cases e4:t.S=[125]
   ·simp [h,h5,e1,e2,e3,e4,bindJ,w2]; omega
   ·simp [h,h5,e1,e2,e3,e4,bindJ]
  ·simp [h,h5,bindJ]
section
variable {l : List Lx} {fin : Int}
theorem zku (hl:l.length≤100000):∀ (n i:Nat) (d:Int),i≤l.length→-(i:Int)≤d→d≤i→l.length - i<n→∃ x,
    bindJ (iter (z1m l) n ((i:Int),d)) (fun x=>some ((-1:Int),x))=some (deepT (tks l i) d i,x)
  | 0,_,_,_,_,_,h=>absurd h (yH _)
  | n + 1, i, d, hi, h1, h2, hn => by
    by_cases hlt:i<l.length
    · have e:=List.getElem?_eq_getElem hlt
      rw [ze8 e]
      unfold deepT
      by_cases h:40<d
      · refine ⟨d,?_⟩
        rw [z1z (r:=.stop ((i:Int),d))]
        · rw [if_pos h]; rfl
        · unfold z1m
          simp only [yW,hlt,yQ,yK,z4e e,zlV l[i] (a:=d) (by omega) (by omega),ob,h,yS]
      · rw [if_neg h]
        have ho:=zs4 (tk l[i])
        obtain ⟨x,hx⟩:=zku hl n (i+1) (d+opn (tk l[i])) hlt (by omega) (by omega) (by omega)
        refine ⟨x,?_⟩
        rw [z4f (s':=(((i+1:Nat):Int),d+opn (tk l[i])))]
        · exact hx
        · unfold z1m
          simp only [yW,hlt,yQ,yK,z4e e,zlV l[i] (a:=d) (by omega) (by omega),ob,h,yR,yP,yJ,zdc (j:=i) (by omega)]
    · refine ⟨d,?_⟩
      rw [zdR (by omega),z1z (r:=.go d)]
      · rfl
      · unfold z1m
        simp only [yW,hlt,yP,yJ]
theorem zoA (hl:l.length≤100000) {n:Nat} (hn:l.length<n):z83 n l=some (deepT (tks l 0) 0 0):=by
 unfold z83 z2c
 obtain ⟨x,hx⟩:=zku hl n 0 0 (yX _) (by omega) (by omega) (by omega)
 have hx' : bindJ (iter (z1m l) n (0,0)) (fun x=>some ((-1:Int),x))=some (deepT (tks l 0) 0 0,x):=hx
 rw [hx']; rfl
theorem z5t {α β:Type} {l:List α} {i:Nat} (h:i<l.length) (k:α→Option β):idx l (i:Int) k=k l[i]:=z4e (List.getElem?_eq_getElem h) k
end
open Go.Abs Go.Lex
theorem zcn (y z:List UInt8) (r:List (List UInt8)):joinP (y::z::r) [32]=y++[32]++joinP (z::r) [32]:=by simp [joinP,List.intercalate]
theorem zkD (x:List UInt8):∀ L:List (List UInt8),joinP (L++[x]) [32]=if L=[] then x else joinP L [32]++[32]++x
  | []=>by simp [joinP,List.intercalate]
  | [y]=>by simp [joinP,List.intercalate]
  | y :: z :: r => by
    have ih:=zkD x (z::r)
    rw [if_neg (by simp)] at ih ⊢
    rw [yE,yE,zcn,← yE,ih,zcn]
    simp
theorem zjR (k:Nat):∀ L:List (List UInt8),(∀ x∈L,x.length≤k)→(joinP L [32]).length≤(k+1)*L.length
  | [],_=>by simp [joinP,List.intercalate]
  | [y], h => by
    have:=h y (by simp)
    simp [joinP,List.intercalate]; omega
  | y :: z :: r, h => by
    have ih:=zjR k (z::r) (fun x hx=>h x (List.mem_cons_of_mem _ hx))
    have hy:=h y (by simp)
    rw [zcn]
    simp only [yB,yC,yF] at ih ⊢
    rw [Nat.mul_add (k+1) (r.length+1) 1]
    omega
theorem zsX (l:List z6) (k:Nat) (h:∀ t∈l,t.S.length≤k):∀ x∈l.map wr,x.length≤2*k+2:=by
 intro x hx
 obtain ⟨t,ht,rfl⟩:=List.mem_map.1 hx
 have:=zom t; have:=h t ht
 omega
theorem zaM {α:Type} {l:List α} {i:Nat} (h:i<l.length):l.take (i+1)=l.take i++[l[i]]:=by
 rw [List.take_add_one,List.getElem?_eq_getElem h]; rfl
def textR (l:List z6):List UInt8×Int:=if (∀ t∈l,isT t=true) then (if 65536<(joinP (l.map wr) [32]).length then ([],2) else (joinP (l.map wr) [32],0)) else ([],1)
theorem zkh (l:List z6) (hl:l.length≤100000) (hs:∀ t∈l,t.S.length≤3000) (n:Nat) (hn:1000000<n):z8n n l=some (textR l):=by
  unfold z8n
  obtain ⟨r,e,h⟩:=z71 (step:=zcv n l) (fun x=>∃ i:Nat,x=((l.take i).map wr,(i:Int))∧i≤l.length∧∀ t∈l.take i,isT t=true) (fun x=>l.length - x.2.toNat)
    (fun r=>(r = .go (l.map wr)∧∀ t∈l,isT t=true)∨(r = .stop ([],1)∧¬ ∀ t∈l,isT t=true)) (by
    rintro _ ⟨i,rfl,hi,ha⟩
    unfold zcv
    by_cases hlt:i<l.length
    · have hm:l[i]∈l:=List.getElem_mem hlt
      have hsi:=hs _ hm
      simp only
      rw [yM (show (i:Int)<(l.length:Int) by omega),yK,z9v hlt,zmj _ (by omega) n (by omega),znB _ (by omega)]
      simp only [obind,yO]
      cases hT:isT l[i] with
      | false=>exact .inr ⟨_,rfl,.inr ⟨rfl,fun hq=>by rw [hq _ hm] at hT; cases hT⟩⟩
      | true =>
        refine .inl ⟨_,?_,⟨i+1,rfl,hlt,fun t ht=>?_⟩,by simp; omega⟩
        · simp only [yU,yJ]
          rw [z1n (by simp; omega),w64 (by omega) (by omega),zaM hlt,List.map_append]
          simp only [List.map_singleton,Int.natCast_add,Int.cast_ofNat_Int]
        · rw [zaM hlt] at ht
          rcases List.mem_append.1 ht with h1 | h1
          · exact ha t h1
          · rw [List.mem_singleton.1 h1]; exact hT
    · obtain rfl:i=l.length:=by omega
      refine .inr ⟨_,?_,.inl ⟨rfl,by simpa using ha⟩⟩
      simp only
      rw [yL (by omega),yJ]
      simp) n ([],0) ⟨0,by simp,by omega,by simp⟩ (by simp; omega)
  rw [e]
  unfold textR
  rcases h with ⟨rfl,h⟩ | ⟨rfl,h⟩
  · rw [z4z,if_pos h]
    have hj:=zjR 6002 (l.map wr) (zsX l 3000 hs)
    rw [List.length_map] at hj
    have hj2:(6002+1)*l.length≤6003*100000:=Nat.mul_le_mul_left _ hl
    unfold joinH
    rw [z1n ⟨by rw [List.length_map]; omega,by omega⟩]
    simp only [obind,yO]
    by_cases h2:65536<(joinP (l.map wr) [32]).length
    · rw [yM (by omega),if_pos h2]; rfl
    · rw [yL (by omega),if_neg h2]; rfl
  · rw [if_neg h]; rfl
theorem zo9 (l:List z6) (hl:l.length≤100000) (hs:∀ t∈l,t.S.length≤3000) (n:Nat) (hn:1000000<n):zev n l=some ⟨(textR l).1,(textR l).2⟩:=by
  unfold zev
  obtain ⟨r,e,h⟩:=z71 (step:=zcz n l) (fun x=>∃ i:Nat,x=(joinP ((l.take i).map wr) [32],(i:Int))∧i≤l.length∧∀ t∈l.take i,isT t=true) (fun x=>l.length - x.2.toNat)
    (fun r=>(r = .go (joinP (l.map wr) [32])∧∀ t∈l,isT t=true)∨(r = .stop ⟨[],1⟩∧¬ ∀ t∈l,isT t=true)) (by
    rintro _ ⟨i,rfl,hi,ha⟩
    unfold zcz
    by_cases hlt:i<l.length
    · have hm:l[i]∈l:=List.getElem_mem hlt
      have hsi:=hs _ hm
      have hj:=zjR 6002 ((l.take i).map wr) (zsX _ 3000 (fun t ht=>hs t (List.mem_of_mem_take ht)))
      rw [List.length_map,List.length_take] at hj
      have hj2:(6002+1)*min i l.length≤6003*100000:=Nat.mul_le_mul_left _ (by omega)
      have hwl:=zom l[i]
      simp only
      rw [yM (show (i:Int)<(l.length:Int) by omega),yK,z9v hlt,zlq _ (by omega) n (by omega)]
      simp only [obind,yO]
      cases hT:isT l[i] with
      | false=>exact .inr ⟨_,rfl,.inr ⟨rfl,fun hq=>by rw [hq _ hm] at hT; cases hT⟩⟩
      | true =>
        refine .inl ⟨_,?_,⟨i+1,rfl,hlt,fun t ht=>?_⟩,by simp; omega⟩
        · simp only [yU,yJ]
          rw [zaM hlt,List.map_append,List.map_singleton,zkD]
          by_cases h0:i=0
          · subst h0
            rw [yL (by omega),yJ,z4z,z9v hlt,zh0 _ (by omega) n (by omega)]
            simp only [yO]
            rw [z1n (by simp [joinP,List.intercalate]; omega),w64 (by omega) (by omega)]
            simp [joinP,List.intercalate]
          · rw [yM (by omega),yK,z1n (by simp only [yB,yC,yF]; omega),z4z,z9v hlt,zh0 _ (by omega) n (by omega)]
            simp only [yO]
            rw [z1n (by simp only [yB,yC,yF]; omega),w64 (by omega) (by omega),if_neg (fun hq=>by have:=congrArg List.length hq; rw [List.length_map,List.length_take,yF] at this; omega)]
            simp only [Int.natCast_add,Int.cast_ofNat_Int]
        · rw [zaM hlt] at ht
          rcases List.mem_append.1 ht with h1 | h1
          · exact ha t h1
          · rw [List.mem_singleton.1 h1]; exact hT
    · obtain rfl:i=l.length:=by omega
      refine .inr ⟨_,?_,.inl ⟨rfl,by simpa using ha⟩⟩
      simp only
      rw [yL (by omega),yJ]
      simp) n ([],0) ⟨0,by simp [joinP,List.intercalate],by omega,by simp⟩ (by simp; omega)
  rw [e]
  unfold textR
  rcases h with ⟨rfl,h⟩ | ⟨rfl,h⟩
  · rw [z4z,if_pos h]
    by_cases h2:65536<(joinP (l.map wr) [32]).length
    · rw [yM (by omega),if_pos h2]; rfl
    · rw [yL (by omega),if_neg h2]; rfl
  · rw [if_neg h]; rfl
end Go.Proofs.YtcmaoifiiigggaaGreatDoor
namespace Go.Lex
def escC (b:UInt8):List UInt8:=if b=34 then [92,34] else if b=92 then [92,92] else [b]
def escL (s:List UInt8):List UInt8:=s.flatMap escC
def wrL (k:Int) (w:List UInt8):List UInt8:=if k=4 then [34]++escL w++[34] else w
def sepB (b:UInt8):Bool:=!(ltr b) && decide (b≠61) && decide (b≠46)
theorem zhq {p:UInt8→Bool}:∀ (x:List UInt8) (c:UInt8) (t:List UInt8),x.dropWhile p=c::t→p c=false
  | [],c,t,h=>by simp at h
  | a :: x, c, t, h => by
    cases ha:p a with
    | true=>rw [List.dropWhile_cons_of_pos ha] at h; exact zhq x c t h
    | false=>rw [List.dropWhile_cons_of_neg (by simp [ha])] at h; cases h; exact ha
structure Tok (kw:List (List UInt8)) (k:Int) (w:List UInt8):Prop where
 head:∃ b t,wrL k w=b::t∧b≠35∧spc b=false
 read:∀ r',(∀ c t,r'=c::t→sepB c=true)→nextP kw (wrL k w++r') = .inr (k,w,r')
end Go.Lex
namespace Go.Proofs.YtcmaoifiiigggaaGreatDoor
open Go.Abs Go.Ps Go.Lex
section
variable {l : List Lx} {fin : Int}
theorem zbZ (l:List Lx):tks l 0=l.map tk:=rfl
end
mutual
def szE:E→Nat
 | ⟨_,_,_,l⟩=>1+szEs l
def szEs:List E→Nat
 | []=>0
 | x::r=>szE x+szEs r
end
mutual
def szS:St→Nat
 | ⟨_,_,_,x,b,e⟩=>1+szE x+szSs b+szSs e
def szSs:List St→Nat
 | []=>0
 | x::r=>szS x+szSs r
end
mutual
def szC:Cl→Nat
 | ⟨_,_,_,t,_,_,_,c⟩=>1+t.length+szCs c
def szCs:List Cl→Nat
 | []=>0
 | x::r=>szC x+szCs r
end
def szL {α:Type} (m:α→Nat):List α→Nat
 | []=>0
 | x::r=>m x+szL m r
theorem zdQ:∀ l:List E,szEs l=szL szE l
 | []=>rfl
 | x::r=>by rw [szEs,zdQ r]; rfl
theorem zd9:∀ l:List St,szSs l=szL szS l
 | []=>rfl
 | x::r=>by rw [szSs,zd9 r]; rfl
theorem zjA:∀ l:List Cl,szCs l=szL szC l
 | []=>rfl
 | x::r=>by rw [szCs,zjA r]; rfl
def szR (r:zQ):Nat:=1+szCs r.Clauses
def szP (p:zL):Nat:=1+szL szR p.Rules
def szPr (p:zI):Nat:=1+p.Effects.length+szSs p.Code
def szSrc (x:zG):Nat:=szL szP x.Policies+szL szPr x.Programs
theorem zhK {α:Type} (m:α→Nat):∀ a b:List α,szL m (a++b)=szL m a+szL m b
 | [],b=>by simp [szL]
 | x::r,b=>by simp only [yE,szL,zhK m r b]; omega
theorem zce {α:Type} {m:α→Nat} (h:∀ x,1≤m x):∀ l:List α,l.length≤szL m l
 | []=>Nat.le_refl _
 | x::r=>by have:=zce h r; have:=h x; simp only [yC,szL]; omega
theorem z9H {α:Type} {m:α→Nat}:∀ {l:List α} {x:α},x∈l→m x≤szL m l
  | y :: r, x, h => by
    simp only [szL]
    rcases List.mem_cons.1 h with rfl | h
    · omega
    · have:=z9H (m:=m) h; omega
theorem zd8 (x:E):1≤szE x:=by cases x; simp only [szE]; omega
theorem zsB (x:St):1≤szS x:=by cases x; simp only [szS]; omega
theorem zsz (x:Cl):1≤szC x:=by cases x; simp only [szC]; omega
theorem zpe (x:zQ):1≤szR x:=by unfold szR; omega
theorem znf (x:zL):1≤szP x:=by unfold szP; omega
theorem zkd (x:zI):1≤szPr x:=by unfold szPr; omega
theorem zl4 {α β:Type} {m:α→Nat} {m' : β→Nat} {f:α→β}:∀ (l:List α),(∀ x∈l,m' (f x)=m x)→szL m' (l.map f)=szL m l
  | [],_=>rfl
  | x :: r, h => by
    simp only [yI,szL,h x (List.mem_cons_self ..),zl4 r fun y hy=>h y (List.mem_cons_of_mem _ hy)]
mutual
theorem zqv (g:Int→Int):∀ x:E,szE (atE g x)=szE x
 | ⟨op,a,s,l⟩=>by simp only [atE,szE,zpd g l]
theorem zpd (g:Int→Int):∀ l:List E,szEs (atEs g l)=szEs l
 | []=>rfl
 | x::r=>by simp only [atEs,szEs,zqv g x,zpd g r]
end
mutual
theorem zur (g:Int→Int):∀ x:St,szS (atS g x)=szS x
 | ⟨k,a,n,x,b,e⟩=>by simp only [atS,szS,zqv,zl5 g b,zl5 g e]
theorem zl5 (g:Int→Int):∀ l:List St,szSs (atSs g l)=szSs l
 | []=>rfl
 | x::r=>by simp only [atSs,szSs,zur g x,zl5 g r]
end
mutual
theorem zuo (g:Int→Int):∀ x:Cl,szC (atC g x)=szC x
 | ⟨k,a,n,t,am,d,h,c⟩=>by simp only [atC,szC,znc g c]
theorem znc (g:Int→Int):∀ l:List Cl,szCs (atCs g l)=szCs l
 | []=>rfl
 | x::r=>by simp only [atCs,szCs,zuo g x,znc g r]
end
theorem zuq (g:Int→Int) (x:zQ):szR (atR g x)=szR x:=by simp only [szR,atR,znc]
theorem zup (g:Int→Int) (x:zL):szP (atP g x)=szP x:=by simp only [szP,atP,zl4 x.Rules fun y _=>zuq g y]
theorem zsA (g:Int→Int) (x:zI):szPr (atPr g x)=szPr x:=by simp only [szPr,atPr,zl5]
theorem zke (g:Int→Int) (x:zG):szSrc (atSrc g x)=szSrc x:=by simp only [szSrc,atSrc,zl4 x.Policies fun y _=>zup g y,zl4 x.Programs fun y _=>zsA g y]
section
variable {α β : Type}
end
theorem zkX {step:Int→Option (Lp Int (Lp Unit Bool))} {L:Nat} (h:∀ i:Nat,i<L→step (i:Int)=some (.go ((i+1:Nat):Int))) (he:step (L:Int)=some (.stop (.go ()))):∀ (n i:Nat),i≤L→L - i<n→iter step n (i:Int)=some (.go ())
  | 0,_,_,h=>absurd h (yH _)
  | n + 1, i, hi, hn => by
    by_cases hl:i=L
    · subst hl; rw [z1z he]
    · rw [z4f (h i (by omega))]
      exact zkX h he n (i+1) (by omega) (by omega)
theorem zb2 {step:Int→Option (Lp Int (Lp Unit Bool))} {L n:Nat} {K:Unit→Option Bool} (h:∀ i:Nat,i<L→step (i:Int)=some (.go ((i+1:Nat):Int))) (he:step (L:Int)=some (.stop (.go ()))) (hn:L<n):bindJ (iter step n 0) K=K ():=by
 have:iter step n 0=_:=zkX h he n 0 (yX _) (by omega)
 rw [this]; rfl
theorem zc1 {j:Nat} (h:j≤1000000000):IntKind.i64.wrap ((j:Int)+1)=((j+1:Nat):Int):=by
 rw [w64 (by omega) (by omega)]; omega
theorem ziv (a:List (List UInt8)) (ha:a.length≤1000000000) {n:Nat} (hn:a.length<n):z9h n a a=some true:=by
 unfold z9h
 simp only [ne_eq,yV,yP,yJ]
 refine zb2 (L:=a.length) (fun i hi=>?_) ?_ hn
 ·unfold z97
  simp only [yW,hi,yQ,yK,z5t hi,yU,yJ,zc1 (j:=i) (by omega)]
 ·unfold z97
  simp only [Int.lt_irrefl,yP,yJ]
theorem zd1 (a:List Int) (ha:a.length≤1000000000) {n:Nat} (hn:a.length<n):z64 n a a=some true:=by
 unfold z64
 simp only [ne_eq,yV,yP,yJ]
 refine zb2 (L:=a.length) (fun i hi=>?_) ?_ hn
 ·unfold z7N
  simp only [yW,hi,yQ,yK,z5t hi,ne_eq,yV,yP,yJ,zc1 (j:=i) (by omega)]
 ·unfold z7N
  simp only [Int.lt_irrefl,yP,yJ]
theorem zkc {l:List E} {i:Nat} (h:i<l.length):szE l[i]≤szEs l:=by rw [zdQ]; exact z9H (List.getElem_mem h)
theorem znh {l:List St} {i:Nat} (h:i<l.length):szS l[i]≤szSs l:=by rw [zd9]; exact z9H (List.getElem_mem h)
theorem zne {l:List Cl} {i:Nat} (h:i<l.length):szC l[i]≤szCs l:=by rw [zjA]; exact z9H (List.getElem_mem h)
theorem zgS (l:List E):l.length≤szEs l:=by rw [zdQ]; exact zce zd8 l
theorem zng (l:List St):l.length≤szSs l:=by rw [zd9]; exact zce zsB l
theorem znd (l:List Cl):l.length≤szCs l:=by rw [zjA]; exact zce zsz l
theorem zd2:∀ (n:Nat) (x:E),szE x<n→szE x≤1000000000→z6Q n x x=some true
  | 0,_,h,_=>absurd h (yH _)
  | n + 1, ⟨op, a, s, l⟩, h, h' => by
    simp only [szE] at h h'
    have hl:=zgS l
    show z6m n (z6Q n) _ _=_
    unfold z6m zb0
    simp only [yQ,Bool.and_self,yK,ne_eq,yV,yP,yJ]
    refine (congrArg (fun o=>bindJ (obind o fun r15=>some (.go r15)) fun b9=>some b9) (zb2 (L:=l.length) (fun i hi=>?_) ?_ (by omega))).trans rfl
    · unfold z95
      have hm:=zkc hi
      simp only [yW,hi,yQ,yK,z5t hi,zd2 n l[i] (by omega) (by omega),ob,yU,yJ,zc1 (j:=i) (by omega)]
    · unfold z95
      simp only [Int.lt_irrefl,yP,yJ]
theorem zaJ:∀ (n:Nat) (l:List St),szSs l+1<n→szSs l≤1000000000→z6P n l l=some true
  | 0,_,h,_=>absurd h (yH _)
  | n + 1, l, h, h' => by
    have hl:=zng l
    show z6l n (z6P n) _ _=_
    unfold z6l
    simp only [ne_eq,yV,yP,yJ]
    refine zb2 (L:=l.length) (fun i hi=>?_) ?_ (by omega)
    · unfold z9w
      have hm:=znh hi
      have hq:=zd8 l[i].X
      have e:szS l[i]=1+szE l[i].X+szSs l[i].Body+szSs l[i].Else:=by cases l[i]; rfl
      simp only [yW,hi,yQ,yK,z5t hi,ne_eq,yV,yP,Bool.or_self,yJ,yU,bJ,zd2 n l[i].X (by omega) (by omega),zaJ n l[i].Body (by omega) (by omega),zaJ n l[i].Else (by omega) (by omega),ob,zc1 (j:=i) (by omega)]
    · unfold z9w
      simp only [Int.lt_irrefl,yP,yJ]
theorem zd0:∀ (n:Nat) (l:List Cl),szCs l+1<n→szCs l≤1000000000→z63 n l l=some true
  | 0,_,h,_=>absurd h (yH _)
  | n + 1, l, h, h' => by
    have hl:=znd l
    show z5k n (z63 n) _ _=_
    unfold z5k
    simp only [ne_eq,yV,yP,yJ]
    refine zb2 (L:=l.length) (fun i hi=>?_) ?_ (by omega)
    · unfold z7L
      have hm:=zne hi
      have e:szC l[i]=1+l[i].Texts.length+szCs l[i].Conds:=by cases l[i]; rfl
      have hb:∀ b:Bool,(b == b)=true:=by decide
      simp only [yW,hi,yQ,yK,z5t hi,ne_eq,yV,yP,Bool.or_self,Bool.and_self,yJ,yU,bJ,hb,ziv l[i].Texts (by omega) (n:=n) (by omega),zd0 n l[i].Conds (by omega) (by omega),ob,zc1 (j:=i) (by omega)]
    · unfold z7L
      simp only [Int.lt_irrefl,yP,yJ]
theorem zeX (l:List zQ) {n:Nat} (h:szL szR l+1<n) (h' : szL szR l≤1000000000):z7u n l l=some true:=by
 have hl:=zce zpe l
 unfold z7u
 simp only [ne_eq,yV,yP,yJ]
 refine zb2 (L:=l.length) (fun i hi=>?_) ?_ (by omega)
 ·unfold z96
  have hm:szR l[i]≤szL szR l:=z9H (List.getElem_mem hi)
  simp only [szR] at hm
  simp only [yW,hi,yQ,yK,z5t hi,ne_eq,yV,yP,Bool.or_self,yU,yJ,bJ,zd0 n l[i].Clauses (by omega) (by omega),ob,zc1 (j:=i) (by omega)]
 ·unfold z96
  simp only [Int.lt_irrefl,yP,yJ]
def tD (s:List UInt8):Lx:=⟨3,0,s⟩
def tQ (s:List UInt8):Lx:=⟨4,0,s⟩
def tN (s:List UInt8):Lx:=⟨1,0,s⟩
def tW (s:List UInt8):Lx:=⟨2,0,s⟩
def tG (s:List UInt8):Lx:=⟨5,0,s⟩
def opS (op:Int):List UInt8:=([[45],[110,111,116],[43],[45],[42],[47],[37],[60],[62],[60,61],[62,61],[61,61],[33,61],[97,110,100],[111,114]]:List (List UInt8))[(op - 8).toNat]?.getD []
def opTok (op:Int):Lx:=if op=9∨21≤op then tW (opS op) else tG (opS op)
def clos (x:E) (t:List Lx):List Lx:=if x.Args.length=0 then t else [tG [40]]++t++[tG [41]]
def zaQ (l:List E) (ts:List (List Lx)) (i:Nat):List Lx:=match l[i]?,ts[i]? with | some x,some t=>clos x t | _,_=>[]
def commas:List (List Lx)→List Lx
 | []=>[]
 | t::r=>t++(r.flatMap fun u=>[tG [44]]++u)
def bodyE (op:Int) (s:List UInt8) (l:List E) (ts:List (List Lx)):List Lx:=
 if op=1 then [tD s] else if op=2 then [tQ s] else if op=3 then [tN s] else if op=4 then [tW [116,114,117,101]] else if op=5 then [tW [102,97,108,115,101]] else if op=7 then [tW [115,116,97,116,117,115]] else if op=6 then [tW [104,101,97,100,101,114],tQ s]
 else if op=8∨op=9 then [opTok op]++zaQ l ts 0
 else if op=23 then zaQ l ts 0++[tW [105,110],tG [40]]++commas (ts.drop 1)++[tG [41]]
 else zaQ l ts 0++[opTok op]++zaQ l ts 1
mutual
def tokE:E→List Lx
 | ⟨op,_,s,l⟩=>bodyE op s l (tokEs l)
def tokEs:List E→List (List Lx)
 | []=>[]
 | x::r=>tokE x::tokEs r
end
theorem zgb:∀ l:List E,tokEs l=l.map tokE
 | []=>rfl
 | x::r=>by rw [tokEs,zgb r]; rfl
def locE (op:Int) (s:List UInt8) (k:Nat):Bool:=
 if op=1∨op=2∨op=3∨op=6 then decide (k=0)
 else decide (s=[]) && (if op=4∨op=5∨op=7 then decide (k=0) else if op=8∨op=9 then decide (k=1) else if op=23 then decide (2≤k) else (decide (10≤op) && decide (op≤22)) && decide (k=2))
mutual
def formE:E→Bool
 | ⟨op,_,s,l⟩=>locE op s l.length && znT l
def znT:List E→Bool
 | []=>true
 | x::r=>formE x && znT r
end
theorem zei:∀ l:List E,znT l=l.all formE
 | []=>rfl
 | x::r=>by rw [znT,zei r]; rfl
theorem zaR (x:E) (t:List Lx):(clos x t).length≤t.length+2:=by
 unfold clos
 split <;> simp
theorem zlR:∀ ts:List (List Lx),(commas ts).length≤(ts.map fun t=>t.length+1).sum
  | []=>Nat.le_refl _
  | t :: r => by
    have h:∀ r:List (List Lx),(r.flatMap fun u=>[tG [44]]++u).length=(r.map fun t=>t.length+1).sum:=by
      intro r
      induction r with
      | nil=>rfl
      | cons u r ih=>simp only [List.flatMap_cons,yB,ih,yI,List.sum_cons,yC,yF]; omega
    simp only [commas,yB,h,yI,List.sum_cons]; omega
theorem zpy (op:Int) (s:List UInt8):∀ (l:List E) (S:Nat),(l.map fun y=>(tokE y).length+1).sum≤6*S→(bodyE op s l (l.map tokE)).length+1≤6*(1+S)
  | [], S, h => by
    have c0:zaQ [] (([]:List E).map tokE) 0=[]:=rfl
    have c1:zaQ [] (([]:List E).map tokE) 1=[]:=rfl
    have c2:commas ((([]:List E).map tokE).drop 1)=[]:=rfl
    unfold bodyE
    rw [c0,c1,c2]
    repeat' split
    all_goals simp only [yB,yC,yF]
    all_goals omega
  | [x], S, h => by
    have c0:zaQ [x] ([x].map tokE) 0=clos x (tokE x):=rfl
    have c1:zaQ [x] ([x].map tokE) 1=[]:=rfl
    have c2:commas (([x].map tokE).drop 1)=[]:=rfl
    have h1:=zaR x (tokE x)
    simp only [yI,List.map_nil,List.sum_cons,List.sum_nil] at h
    unfold bodyE
    rw [c0,c1,c2]
    repeat' split
    all_goals simp only [yB,yC,yF]
    all_goals omega
  | x :: y :: r, S, h => by
    have c0:zaQ (x::y::r) ((x::y::r).map tokE) 0=clos x (tokE x):=rfl
    have c1:zaQ (x::y::r) ((x::y::r).map tokE) 1=clos y (tokE y):=rfl
    have c2:((x::y::r).map tokE).drop 1=(y::r).map tokE:=rfl
    have h1:=zaR x (tokE x)
    have h2:=zaR y (tokE y)
    have h3:=zlR ((y::r).map tokE)
    have e:((fun t:List Lx=>t.length+1) ∘ tokE)=fun y=>(tokE y).length+1:=rfl
    rw [List.map_map,e] at h3
    simp only [yI,List.sum_cons] at h h3
    unfold bodyE
    rw [c0,c1,c2]
    simp only [yI] at h3 ⊢
    generalize commas (tokE y::List.map tokE r)=q at h3 ⊢
    repeat' split
    all_goals simp only [yB,yC,yF]
    all_goals omega
mutual
theorem z6f:∀ x:E,(tokE x).length+1≤6*szE x
  | ⟨op, a, s, l⟩ => by
    have h:=zl7 l
    rw [tokE,zgb,szE]
    exact zpy op s l _ h
theorem zl7:∀ l:List E,(l.map fun y=>(tokE y).length+1).sum≤6*szEs l
  | []=>yX _
  | x :: r => by
    have h1:=z6f x
    have h2:=zl7 r
    simp only [yI,List.sum_cons,szEs] at h2 ⊢
    omega
end
theorem zlr (w:List Lx) (k:Int) (s:List UInt8) (h:w.length≤4000000000):z14 ⟨w⟩ k s=some ⟨w++[⟨k,0,s⟩]⟩:=by
 unfold z14
 rw [z1n (by simp; omega)]
theorem zf6 (w:List Lx) (s:List UInt8) {n:Nat} (hn:1<n) (h:w.length≤4000000000):zO n ⟨w⟩ [s]=some ⟨w++[tW s]⟩:=by
 unfold zO
 obtain ⟨m,rfl⟩ : ∃ m,n=m+2:=⟨n - 2,by omega⟩
 rw [z4f (s':=(1,w++[tW s])),z1z (r:=⟨w++[tW s]⟩)]
 ·rfl
 ·unfold z5j
  simp only [yC,yF,show ((0:Int)<((0+1:Nat):Int)) by decide,yQ,yK]
  rw [show (0:Int)=((0:Nat):Int) from rfl,z4e (x:=s) rfl,zlr w 2 s h]
  rfl
theorem zbX (w:List Lx) (s:List UInt8) {n:Nat} (hn:1<n) (h:w.length≤4000000000):zW n ⟨w⟩ [s]=some ⟨w++[tG s]⟩:=by
 unfold zW
 obtain ⟨m,rfl⟩ : ∃ m,n=m+2:=⟨n - 2,by omega⟩
 rw [z4f (s':=(1,w++[tG s])),z1z (r:=⟨w++[tG s]⟩)]
 ·rfl
 ·unfold z5i
  simp only [yC,yF,show ((0:Int)<((0+1:Nat):Int)) by decide,yQ,yK]
  rw [show (0:Int)=((0:Nat):Int) from rfl,z4e (x:=s) rfl,zlr w 5 s h]
  rfl
abbrev Wr:=zo
def wOut (b:Bool) (w:List Lx):Pn Wr:=if b then .ret ⟨w⟩ else .pan 3
theorem znv (w:List Lx):wOut true w = .ret ⟨w⟩:=rfl
theorem zuB (w:List Lx):wOut false w = .pan 3:=rfl
def WrE (F:Wr→E→Option (Pn Wr)) (x:E):Prop:=∀ w:List Lx,w.length+6*szE x≤3000000000→F ⟨w⟩ x=some (wOut (formE x) (w++tokE x))
theorem znI {F:Wr→E→Option (Pn Wr)} {x:E} (h:WrE F x) {n:Nat} (hn:1<n) (w:List Lx) (hw:w.length+6*szE x+3≤3000000000):z1E n F ⟨w⟩ x=some (wOut (formE x) (w++clos x (tokE x))):=by
  unfold z1E clos
  by_cases h0:x.Args.length=0
  · rw [yM (p:=(x.Args.length:Int)=0) (by omega),yK,if_pos h0,h w (by omega)]
    unfold wOut
    cases formE x <;> rfl
  · rw [yL (p:=(x.Args.length:Int)=0) (by omega),yJ,if_neg h0,zbX w _ hn (by omega)]
    simp only [ob]
    rw [h _ (by simp; omega)]
    have hl:=z6f x
    unfold wOut
    cases formE x with
    | false=>rfl
    | true =>
      simp only [yS,ob,pbind]
      rw [zbX _ _ hn (by simp; omega)]
      simp only [yA]; rfl
theorem zoI {n0:Nat} (h0:1<n0) (X:E) {F:Wr→E→Option (Pn Wr)} (hF:∀ x∈X.Args,WrE F x) (hlen:X.Args.length≤100000000):∀ (n i:Nat) (w:List Lx),1≤i→i≤X.Args.length - 1→X.Args.length - 1 - i<n→w.length+6*szL szE ((X.Args.drop 1).drop i)+1≤3000000000→
    iter (z27 n0 X F) n ((i:Int),w)=some (if ((X.Args.drop 1).drop i).all formE then .go (w++((X.Args.drop 1).drop i).flatMap fun x=>[tG [44]]++tokE x) else .stop (.pan 3))
  | 0,_,_,_,_,h,_=>absurd h (yH _)
  | n + 1, i, w, h1, hi, hn, hw => by
    have hd:(X.Args.drop ((1:Int).toNat))=X.Args.drop 1:=rfl
    have hl:(X.Args.drop 1).length=X.Args.length - 1:=by simp
    by_cases hlt:i<(X.Args.drop 1).length
    · have e:=List.drop_eq_getElem_cons hlt
      have hm:(X.Args.drop 1)[i]∈X.Args:=List.mem_of_mem_drop (List.getElem_mem hlt)
      have hx:=hF _ hm
      have hz:=zd8 (X.Args.drop 1)[i]
      have hy:=z6f (X.Args.drop 1)[i]
      rw [e,szL] at hw
      rw [e,List.all_cons,List.flatMap_cons]
      have hstep:z27 n0 X F ((i:Int),w)=some (if formE (X.Args.drop 1)[i] then .go (((i+1:Nat):Int),w++[tG [44]]++tokE (X.Args.drop 1)[i]) else .stop (.stop (.pan 3))):=by
        unfold z27
        simp only [hd,yW,hlt,yQ,yK,z5t hlt]
        rw [show min (i:Int) 1=((1:Nat):Int) by omega,z4e (x:=[44]) rfl,zbX w _ h0 (by omega)]
        simp only [ob]
        rw [hx _ (by rw [yB,yC,yF]; omega)]
        unfold wOut
        cases formE (X.Args.drop 1)[i] with
        | false=>rfl
        | true=>simp only [yS,ob,pbind,zc1 (j:=i) (by omega)]
      cases hf:formE (X.Args.drop 1)[i] with
      | false =>
        rw [hf] at hstep
        rw [z1z hstep]; rfl
      | true =>
        rw [hf] at hstep
        simp only [yS] at hstep
        rw [z4f hstep,zoI h0 X hF hlen n (i+1) _ (by omega) (by omega) (by omega) (by rw [yB,yB,yC,yF]; omega)]
        simp only [Bool.true_and,yA]
    · have e:(X.Args.drop 1).drop i=[]:=List.drop_eq_nil_of_le (by omega)
      rw [e]
      rw [z1z (r:=.go w)]
      · simp
      · unfold z27
        simp only [hd,yW,hlt,yP,yJ]
theorem zpY {n : Nat} (hn : 1 < n) (w : List Lx) (hw : w.length ≤ 4000000000) (op : Int) (h : op = 4 ∨ op = 5 ∨ op = 7) : (obind (z84) fun r55 =>
        obind (mfold (fun p:((List UInt8)×Int)=>decide (p.2=op)) (fun p x_61=>
         obind (zO n (zo.mk x_61) ([p.1]:List (List UInt8))) fun r76=>
         some r76.l_) r55 w) fun x_59=>
        some (Pn.ret (zo.mk x_59)))=some (.ret ⟨w++[if op=4 then tW [116,114,117,101] else if op=5 then tW [102,97,108,115,101] else tW [115,116,97,116,117,115]]⟩):=by
  have e:z84=some [([116,114,117,101],4),([102,97,108,115,101],5),([115,116,97,116,117,115],7),([104,101,97,100,101,114],6)]:=rfl
  rw [e]
  simp only [ob]
  have key:∀ s,(obind (zO n (zo.mk w) ([s]:List (List UInt8))) fun r76=>some r76.l_)=some (w++[tW s]):=fun s=>by rw [zf6 w s hn hw]; rfl
  rcases h with rfl | rfl | rfl
  · exact congrArg (fun o=>obind o fun x=>some (Pn.ret (zo.mk x))) (key [116,114,117,101])
  · exact congrArg (fun o=>obind o fun x=>some (Pn.ret (zo.mk x))) (key [102,97,108,115,101])
  · exact congrArg (fun o=>obind o fun x=>some (Pn.ret (zo.mk x))) (key [115,116,97,116,117,115])
def sgnT:List (List UInt8×Int):=[([43],10),([45],11),([42],12),([47],13),([37],14),([60],15),([62],16),([60,61],17),([62,61],18),([61,61],19),([33,61],20),([97,110,100],21),([111,114],22)]
theorem znO (op:Int) (h1:10≤op) (h2:op≤22):sgnT.filter (fun p=>decide (p.2=op))=[(opS op,op)]:=by
 have h:op=10∨op=11∨op=12∨op=13∨op=14∨op=15∨op=16∨op=17∨op=18∨op=19∨op=20∨op=21∨op=22:=by omega
 rcases h with rfl | rfl | rfl | rfl | rfl | rfl | rfl | rfl | rfl | rfl | rfl | rfl | rfl <;> rfl
theorem zsm {n : Nat} (hn : 1 < n) (w : List Lx) (hw : w.length ≤ 4000000000) (op : Int) (h1 : 10 ≤ op) (h2 : op ≤ 22) : (obind (z92) fun r184 =>
            obind (mfold (fun p:((List UInt8)×Int)=>decide (p.2=op)) (fun p x_190=>
             cond (decide (21≤p.2))
              (obind (zO n (zo.mk x_190) ([p.1]:List (List UInt8))) fun r206=>
              some r206.l_)
              (obind (zW n (zo.mk x_190) ([p.1]:List (List UInt8))) fun r210=>
              some r210.l_)) r184 w) fun x_188=>
            some (Lp.go (R:=Pn Wr) x_188))=some (.go (w++[opTok op])):=by
  have e:z92=some sgnT:=rfl
  rw [e]
  simp only [ob]
  unfold mfold
  rw [znO op h1 h2]
  dsimp only
  unfold opTok
  by_cases h:21≤op
  · rw [yM h,yK,zf6 w _ hn hw,if_pos (.inr h)]; rfl
  · rw [yL h,yJ,zbX w _ hn hw,if_neg (by omega)]; rfl
theorem znU (b:Bool):z2I b=some (if b then .ret () else .pan 3):=by cases b <;> rfl
theorem wexpr:∀ (n:Nat) (x:E),szE x+2<n→szE x≤100000000→WrE (z1D n) x
  | 0,_,h,_=>absurd h (yH _)
  | n + 1, ⟨op, a, s, l⟩, h, h' => by
    intro w hw
    rw [szE] at h h' hw
    have hlen:=zgS l
    have hF:∀ x∈l,WrE (z1D n) x:=fun x hx=>by
      have h1:szE x≤szEs l:=by rw [zdQ]; exact z9H hx
      exact wexpr n x (by omega) (by omega)
    have hsz:∀ x∈l,szE x≤szEs l:=fun x hx=>by rw [zdQ]; exact z9H hx
    show z3j n (z1D n) ⟨w⟩ ⟨op,a,s,l⟩=_
    unfold z3j
    rw [tokE,zgb,formE,zei]
    simp only [znU]
    have d0:decide ((l.length:Int)=0)=decide (l.length=0):=by rw [decide_eq_decide]; omega
    have d1:decide ((l.length:Int)=1)=decide (l.length=1):=by rw [decide_eq_decide]; omega
    have d2:decide ((l.length:Int)=2)=decide (l.length=2):=by rw [decide_eq_decide]; omega
    have d3:decide (2≤(l.length:Int))=decide (2≤l.length):=by rw [decide_eq_decide]; omega
    have g0:l.length=0→l.all formE=true:=fun q=>by rw [List.length_eq_zero_iff.1 q]; rfl
    simp only [d0,d1,d2,d3]
    by_cases o1:op=1∨op=2∨op=3∨op=6
    · have hl:locE op s l.length=decide (l.length=0):=by unfold locE; rw [if_pos o1]
      rw [hl]
      by_cases q:l.length=0
      · rw [yM q,g0 q]
        rcases o1 with rfl | rfl | rfl | rfl
        · simp only [yQ,yK,bJ,yS,ob,pbind,zlr w _ s (by omega)]; rfl
        · simp only [show ¬((2:Int)=1) by decide,yQ,yP,yK,yJ,bJ,yS,ob,pbind,zlr w _ s (by omega)]; rfl
        · simp only [show ¬((3:Int)=1) by decide,show ¬((3:Int)=2) by decide,yQ,yP,yK,yJ,bJ,yS,ob,pbind,zlr w _ s (by omega)]; rfl
        · simp only [show ¬((6:Int)=1) by decide,show ¬((6:Int)=2) by decide,show ¬((6:Int)=3) by decide,yQ,yP,yK,yJ,bJ,yS,ob,pbind,zf6 w _ (show 1<n by omega) (by omega)]
          rw [zlr _ _ s (by simp; omega)]
          simp only [ob,yA]; rfl
      · rw [yL q]
        rcases o1 with rfl | rfl | rfl | rfl <;> rfl
    obtain ⟨n1,n2,n3,n6⟩ : op≠1∧op≠2∧op≠3∧op≠6:=⟨fun q=>o1 (.inl q),fun q=>o1 (.inr (.inl q)),fun q=>o1 (.inr (.inr (.inl q))),fun q=>o1 (.inr (.inr (.inr q)))⟩
    unfold locE
    rw [if_neg o1]
    simp only [n1,n2,n3,n6,yP,yJ,bJ]
    by_cases hs:s=[]
    rotate_left
    · rw [yL hs]; rfl
    rw [yM hs]
    simp only [yS,ob,pbind,bJ,Bool.true_and]
    by_cases o2:op=4∨op=5∨op=7
    · rw [if_pos o2]
      have hb:(bindJ (S:=Bool) (R:=Pn Wr) (cond (decide (op=4)) (some (.go (decide (op=4)))) (cond (decide (op=5)) (some (.go (decide (op=5)))) (some (.go (decide (op=7)))))))=fun K=>K true:=by
        funext K
        rcases o2 with rfl | rfl | rfl <;> rfl
      rw [hb]
      simp only [yK]
      by_cases q:l.length=0
      · rw [yM q,g0 q]
        simp only [yS,ob,pbind]
        rw [zpY (show 1<n by omega) w (by omega) op o2]
        rcases o2 with rfl | rfl | rfl <;> rfl
      · rw [yL q]; rfl
    obtain ⟨n4,n5,n7⟩ : op≠4∧op≠5∧op≠7:=⟨fun q=>o2 (.inl q),fun q=>o2 (.inr (.inl q)),fun q=>o2 (.inr (.inr q))⟩
    rw [if_neg o2]
    simp only [n4,n5,n7,yP,yJ,bJ]
    by_cases o3:op=8∨op=9
    · rw [if_pos o3]
      have hb:bodyE op s l (l.map tokE)=[opTok op]++zaQ l (l.map tokE) 0:=by unfold bodyE; rw [if_neg n1,if_neg n2,if_neg n3,if_neg n4,if_neg n5,if_neg n7,if_neg n6,if_pos o3]
      rw [hb]
      by_cases q:l.length=1
      rotate_left
      · rw [yL q]
        rcases o3 with rfl | rfl <;> rfl
      · rw [yM q]
        match l,q,hF,hsz,hw,h,h' with
        | [x], _, hF, hsz, hw, h, h' =>
          have hx:=hF x (List.mem_cons_self ..)
          have hz:szEs [x]=szE x:=by simp [szEs]
          have fin:∀ t:Lx,(obind (z1E n (z1D n) ⟨w++[t]⟩ x) fun r90=>pbind r90 (fun e93=>some (.pan e93)) fun q92=>some (.ret q92))=some (wOut (([x]:List E).all formE) (w++([t]++zaQ [x] ([x].map tokE) 0))):=by
            intro t
            rw [znI hx (show 1<n by omega) _ (by simp; omega)]
            have:([x]:List E).all formE=formE x:=by simp
            rw [this]
            simp only [ob,wOut]
            cases formE x with
            | false=>rfl
            | true=>simp only [yS,pbind,yA]; rfl
          rcases o3 with rfl | rfl
          · simp only [yQ,yK,yS,ob,pbind,zbX w _ (show 1<n by omega) (by omega)]
            rw [show (0:Int)=((0:Nat):Int) from rfl,z4e (x:=x) rfl]
            exact fin (tG [45])
          · simp only [show ¬((9:Int)=8) by decide,yP,yJ,yQ,yK,yS,ob,pbind,zf6 w _ (show 1<n by omega) (by omega)]
            rw [show (0:Int)=((0:Nat):Int) from rfl,z4e (x:=x) rfl]
            exact fin (tW [110,111,116])
    obtain ⟨n8,n9⟩ : op≠8∧op≠9:=⟨fun q=>o3 (.inl q),fun q=>o3 (.inr q)⟩
    rw [if_neg o3]
    simp only [n8,n9,yP,yJ]
    by_cases o4:op=23
    · rw [if_pos o4]
      have hb:bodyE op s l (l.map tokE)=zaQ l (l.map tokE) 0++[tW [105,110],tG [40]]++commas ((l.map tokE).drop 1)++[tG [41]]:=by unfold bodyE; rw [if_neg n1,if_neg n2,if_neg n3,if_neg n4,if_neg n5,if_neg n7,if_neg n6,if_neg o3,if_pos o4]
      rw [hb,yM o4,yK]
      by_cases q:2≤l.length
      rotate_left
      · rw [yL q]; rfl
      rw [yM q]
      match l,q,hF,hsz,hw,h,h',hlen with
      | x :: y :: r, _, hF, hsz, hw, h, h', hlen =>
        have hx:=hF x (List.mem_cons_self ..)
        have hy:=hF y (List.mem_cons_of_mem _ (List.mem_cons_self ..))
        have zx:=zd8 x
        have zy:=zd8 y
        have hz:szEs (x::y::r)=szE x+(szE y+szL szE r):=by simp [szEs,zdQ]
        rw [hz] at hw h h'
        have lx:=z6f x
        have ly:=z6f y
        have lc:=zaR x (tokE x)
        simp only [yS,ob,pbind]
        rw [show (0:Int)=((0:Nat):Int) from rfl,z4e (x:=x) rfl,znI hx (show 1<n by omega) _ (by omega)]
        simp only [ob]
        rw [List.all_cons,List.all_cons]
        rcases yG (formE x) with fx | fx
        rotate_left
        · rw [fx]; rfl
        · rw [fx,znv]
          simp only [pbind,Bool.true_and]
          rw [zf6 _ _ (show 1<n by omega) (by simp; omega)]
          simp only [ob]
          rw [z1n ⟨by omega,by simp; omega,Int.le_refl _⟩]
          have hd:((x::y::r).drop ((1:Int).toNat))=y::r:=rfl
          have hstep:z27 n ⟨op,a,s,x::y::r⟩ (z1D n) (((0:Nat):Int),w++clos x (tokE x)++[tW [105,110]])=some (if formE y then .go (((1:Nat):Int),w++clos x (tokE x)++[tW [105,110]]++[tG [40]]++tokE y) else .stop (.stop (.pan 3))):=by
            unfold z27
            simp only [hd]
            rw [yM (by simp),yK,z4e (x:=y) rfl]
            rw [show min (((0:Nat):Int)) 1=((0:Nat):Int) from rfl,z4e (x:=[40]) rfl,zbX _ _ (show 1<n by omega) (by simp; omega)]
            simp only [ob]
            rw [hy _ (by simp; omega)]
            unfold wOut
            cases formE y with
            | false=>rfl
            | true=>simp only [yS,ob,pbind]; rfl
          obtain ⟨n,rfl⟩ : ∃ m,n=m+1:=⟨n - 1,by omega⟩
          rcases yG (formE y) with fy | fy
          rotate_left
          · rw [fy] at hstep ⊢
            rw [Bool.false_and,zuB,z1z hstep]; rfl
          · rw [fy] at hstep ⊢
            rw [Bool.true_and]
            simp only [yS] at hstep
            rw [z4f hstep]
            have:=zoI (n0:=n+1) (by omega) ⟨op,a,s,x::y::r⟩ hF (by show (x::y::r).length≤_; rw [hz] at hlen; omega) n 1 (w++clos x (tokE x)++[tW [105,110]]++[tG [40]]++tokE y) (Nat.le_refl _) (by simp) (by simp at hlen ⊢; omega) (by
              show _+6*szL szE r+1≤_
              simp; omega)
            rw [this]
            rw [show ((x::y::r).drop 1).drop 1=r from rfl]
            rcases yG (r.all formE) with fr | fr
            rotate_left
            · rw [fr]; rfl
            · rw [fr,znv]
              simp only [yS,bJ]
              have hr:∀ r:List E,(r.flatMap fun x=>[tG [44]]++tokE x).length≤7*szL szE r:=by
                intro r
                induction r with
                | nil=>simp
                | cons z r ih =>
                  have:=z6f z
                  have:=zd8 z
                  simp only [List.flatMap_cons,yB,yC,yF,szL] at ih ⊢
                  omega
              have hr':=hr r
              rw [zbX _ _ (by omega) (by simp at hr' ⊢; omega)]
              simp only [ob]
              have e1:zaQ (x::y::r) ((x::y::r).map tokE) 0=clos x (tokE x):=rfl
              have e2:((x::y::r).map tokE).drop 1=tokE y::r.map tokE:=rfl
              rw [e1,e2,commas]
              have e3:(r.map tokE).flatMap (fun u=>[tG [44]]++u)=r.flatMap fun x=>[tG [44]]++tokE x:=by rw [List.flatMap_map]
              rw [e3]
              simp only [yA]
              rfl
    rw [if_neg o4]
    have hb:bodyE op s l (l.map tokE)=zaQ l (l.map tokE) 0++[opTok op]++zaQ l (l.map tokE) 1:=by unfold bodyE; rw [if_neg n1,if_neg n2,if_neg n3,if_neg n4,if_neg n5,if_neg n7,if_neg n6,if_neg o3,if_neg o4]
    rw [hb]
    simp only [o4,yP,yJ]
    by_cases q:(10≤op∧op≤22)∧l.length=2
    rotate_left
    · have:((decide (10≤op) && decide (op≤22)) && decide (l.length=2))=false:=by
        cases h1:((decide (10≤op) && decide (op≤22)) && decide (l.length=2)) with
        | false=>rfl
        | true=>simp at h1; exact absurd h1 q
      rw [this]; rfl
    obtain ⟨⟨q1,q2⟩,q⟩:=q
    rw [yM q1,yM q2,yM q]
    match l,q,hF,hsz,hw,h,h' with
    | [x, y], _, hF, hsz, hw, h, h' =>
      have hx:=hF x (List.mem_cons_self ..)
      have hy:=hF y (List.mem_cons_of_mem _ (List.mem_cons_self ..))
      have hz:szEs [x,y]=szE x+szE y:=by simp [szEs]
      rw [hz] at hw h h'
      have zx:=zd8 x
      have zy:=zd8 y
      have lx:=z6f x
      have ly:=z6f y
      have lc:=zaR x (tokE x)
      simp only [Bool.and_self,yS,ob,pbind]
      rw [show (0:Int)=((0:Nat):Int) from rfl,z4e (x:=x) rfl,znI hx (show 1<n by omega) _ (by omega)]
      simp only [ob]
      rw [List.all_cons,List.all_cons,List.all_nil,Bool.and_true]
      rcases yG (formE x) with fx | fx
      rotate_left
      · rw [fx]; rfl
      · rw [fx,znv]
        simp only [pbind,Bool.true_and]
        rw [zsm (show 1<n by omega) _ (by simp; omega) op q1 q2,bJ]
        rw [show (1:Int)=((1:Nat):Int) from rfl,z4e (x:=y) rfl,znI hy (show 1<n by omega) _ (by simp; omega)]
        simp only [ob]
        rcases yG (formE y) with fy | fy
        · rw [fy,znv,znv]; simp only [pbind,yA]; rfl
        · rw [fy]; rfl
section
variable {l : List Lx}
theorem z6e (j:Nat):z3q l (j:Int)=some (kindO (tks l j).head?):=by
 unfold z3q
 rw [ziE]
 by_cases h:j<l.length
 ·rw [yL (p:=(j:Int)<0) (by omega),yL (p:=(l.length:Int)≤j) (by omega)]
  simp only [Bool.or_self,yJ,z5t h,List.getElem?_eq_getElem h]; rfl
 ·rw [yM (p:=(l.length:Int)≤j) (by omega),Bool.or_true,List.getElem?_eq_none (by omega)]; rfl
theorem z4E (j:Nat):z35 l (j:Int)=some (textO (tks l j).head?):=by
 unfold z35
 rw [ziE]
 by_cases h:j<l.length
 ·rw [yL (p:=(j:Int)<0) (by omega),yL (p:=(l.length:Int)≤j) (by omega)]
  simp only [Bool.or_self,yJ,z5t h,List.getElem?_eq_getElem h]; rfl
 ·rw [yM (p:=(l.length:Int)≤j) (by omega),Bool.or_true,List.getElem?_eq_none (by omega)]; rfl
theorem z3J (j:Nat) (s:List UInt8):z2B l (j:Int) s=some (isK 5 s (tks l j).head?):=by
 unfold z2B
 simp only [z6e,z4E,ob]
 by_cases h:kindO (tks l j).head? = 5
 ·rw [zh4 s (by decide) h]
  simp only [h,yQ,yK,bJ]
 ·rw [zi4 s h]
  simp only [h,yP,yJ,bJ]
theorem z5S {j:Nat} (h:j≤1000000):IntKind.i64.wrap ((j:Int)+1)=((j+1:Nat):Int):=zdc h
def okO (l:List Lx):Out E→zR→Prop
 | .ok a i _,r=>r=⟨atE (gA l) a,(i:Int),false⟩
 | .bad i _,r=>r.I=(i:Int)∧r.Bad=true
def RfE (l:List Lx) (k:Nat) (F:List Lx→Int→Option zR) (p:Ps E):Prop:=∀ j:Nat,k≤j→j≤l.length→∃ r,F l (j:Int)=some r∧okO l (run' l p j) r
theorem RfE.mono {k k' : Nat} {F:List Lx→Int→Option zR} {p:Ps E} (h:RfE l k F p) (hk:k≤k'):RfE l k' F p:=fun j h1 h2=>h j (Nat.le_trans hk h1) h2
abbrev T6:=Int×Int×List UInt8×List zi×Int×Bool
def t6 (r:zR):T6:=(r.X.Op,r.X.At,r.X.S,r.X.Args,r.I,r.Bad)
end
section
variable {l : List Lx}
end
section
variable {l : List Lx}
def okT {α:Type} (j:Nat) (m:α→St):Out α→z1g→Prop
 | .ok a i _,r=>r=⟨[m a],(i:Int),false⟩
 | .bad i _,r=>r.I=(i:Int)∧r.Bad=true∧r.L.length+j≤i
def okB (l:List Lx) (j:Nat):Out (List St)→z1g→Prop
 | .ok a i _,r=>r=⟨a.map (atS (gA l)),(i:Int),false⟩
 | .bad i _,r=>r.I=(i:Int)∧r.Bad=true∧r.L.length+j≤i
theorem okT.mono {α:Type} {j j' : Nat} {m:α→St} {o:Out α} {r:z1g} (h:okT j m o r) (hj:j'≤j):okT j' m o r:=by
 cases o with
 | ok a i q=>exact h
 | bad i q=>obtain ⟨h1,h2,h3⟩:=h; exact ⟨h1,h2,by omega⟩
def RfB (l:List Lx) (k:Nat) (F:List Lx→Int→Option z1g) (p:Ps (List St)):Prop:=∀ j:Nat,k≤j→j≤l.length→∃ r,F l (j:Int)=some r∧okB l j (run' l p j) r
theorem RfB.mono {k k' : Nat} {F:List Lx→Int→Option z1g} {p:Ps (List St)} (h:RfB l k F p) (hk:k≤k'):RfB l k' F p:=fun j h1 h2=>h j (Nat.le_trans hk h1) h2
end
section
variable {l : List Lx}
end
section
variable {l : List Lx}
def okC {α:Type} (j:Nat) (m:α→Cl):Out α→z12→Prop
 | .ok a i _,r=>r=⟨[m a],(i:Int),false⟩
 | .bad i _,r=>r.I=(i:Int)∧r.Bad=true∧r.L.length+j≤i
theorem okC.mono {α:Type} {j j' : Nat} {m:α→Cl} {o:Out α} {r:z12} (h:okC j m o r) (hj:j'≤j):okC j' m o r:=by
 cases o with
 | ok a i q=>exact h
 | bad i q=>obtain ⟨h1,h2,h3⟩:=h; exact ⟨h1,h2,by omega⟩
end
section
variable {l : List Lx}
end
section
variable {l : List Lx}
abbrev RS:=z1R
def okX {α:Type} (m:α→zG):Out α→RS→Prop
 | .ok a i _,r=>r=⟨m a,(i:Int),false⟩
 | .bad i _,r=>r.I=(i:Int)∧r.Bad=true
end
variable {l : List Lx}
theorem zj8 (hl:l.length≤100000):∀ (n i:Nat) (d:Int),i≤l.length→-(i:Int)≤d→d≤i→l.length - i<n→
    bindJ (iter (z9r l) n (d,(i:Int))) (fun _=>some (-1:Int))=some (deepT (tks l i) d i)
  | 0,_,_,_,_,_,h=>absurd h (yH _)
  | n + 1, i, d, hi, h1, h2, hn => by
    by_cases hlt:i<l.length
    · have e:=List.getElem?_eq_getElem hlt
      have eh:(tks l i).head? = some (tk l[i]):=by rw [ze8 e]; rfl
      rw [ze8 e]
      unfold deepT
      by_cases h:40<d
      · rw [if_pos h,z1z (r:=.stop (i:Int))]
        · rfl
        · unfold z9r
          simp only [yW,hlt,yQ,yK,h,bindJ]
      · rw [if_neg h]
        have ho:=zs4 (tk l[i])
        have hi':=zj8 hl n (i+1) (d+opn (tk l[i])) hlt (by omega) (by omega) (by omega)
        rw [z4f (s':=(d+opn (tk l[i]),((i+1:Nat):Int)))]
        · exact hi'
        · have w1:IntKind.i64.wrap (d+1)=d+1:=w64 (by omega) (by omega)
          have w2:IntKind.i64.wrap (d - 1)=d - 1:=w64 (by omega) (by omega)
          unfold z9r opn
          simp only [yW,hlt,yQ,yK,h,yP,yJ,z3J,eh,ob,bJ,z5S (j:=i) (by omega)]
          by_cases h5:l[i].Kind=5
          · have hk:∀ s,isK 5 s (some (tk l[i]))=decide (l[i].S=s):=fun s=>by simp [isK,tk,h5]
            simp only [hk]
            simp only [tk,h5,yS]
            by_cases e1:l[i].S=[40]
            · simp [e1,bJ,w1]
            by_cases e2:l[i].S=[123]
            · simp [e1,e2,bJ,w1]
            by_cases e3:l[i].S=[41]
            · simp [e1,e2,e3,bJ,w2]; omega
            by_cases e4:l[i].S=[125]
            · simp [e1,e2,e3,e4,bJ,w2]; omega
            · simp [e1,e2,e3,e4,bJ]
          · have hk:∀ s,isK 5 s (some (tk l[i]))=false:=fun s=>by simp [isK,tk,h5]
            simp only [hk]
            simp only [tk,h5,yR,yJ,bJ,Int.add_zero]
    · rw [zdR (by omega),z1z (r:=.go ())]
      · rfl
      · unfold z9r
        simp only [yW,hlt,yP,yJ]
theorem rdeep (hl:l.length≤100000) {n:Nat} (hn:l.length<n):zcO n l=some (deepT (tks l 0) 0 0):=
 zj8 hl n 0 0 (yX _) (by omega) (by omega) (by omega)
end Go.Proofs.YtcmaoifiiigggaaGreatDoor
