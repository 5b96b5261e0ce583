/-
  Texts that stand side by side: PsP, Qa, Qb, LexP, LPa, LPb, LPc, LPd, Qc, Qd, Qe, Qf, Qg, Qh, Qi, Qj, Qk, Ql, Qm, Qn.
-/
import Derived.Test.YtcmaoifiiigggaaGreatDoorV9M22
import Derived.Test.YtcmaoifiiigggaaGreatDoorV9FaOwn
import Derived.Test.YtcmaoifiiigggaaGreatDoorFq
set_option linter.unusedSimpArgs false
set_option linter.unusedVariables false
namespace Go.Ps
abbrev Tk:=Int×List UInt8
inductive Ps (α:Type):Type where
 | ret (a:α):Ps α
 | bad:Ps α
 | look (k:Option Tk→Nat→Ps α):Ps α
 | skip (p:Ps α):Ps α
variable {α β : Type}
def Ps.bind:Ps α→(α→Ps β)→Ps β
 | .ret a,k=>k a
 | .bad,_=>.bad
 | .look f,k=>.look fun t i=>(f t i).bind k
 | .skip p,k=>.skip (p.bind k)
inductive Out (α:Type):Type where
 | ok (a:α) (i:Nat) (r:List Tk):Out α
 | bad (i:Nat) (r:List Tk):Out α
def Ps.run:Ps α→Nat→List Tk→Out α
  | .ret a,i,ts=>.ok a i ts
  | .bad,i,ts=>.bad i ts
  | .look f,i,ts=>(f ts.head? i).run i ts
  | .skip p, i, ts => match ts with
    | []=>p.run i []
    | _::r=>p.run (i+1) r
def Out.andThen:Out α→(α→Nat→List Tk→Out β)→Out β
 | .ok a i r,k=>k a i r
 | .bad i r,_=>.bad i r
theorem zA (a:α) (i:Nat) (ts:List Tk):(Ps.ret a).run i ts = .ok a i ts:=rfl
theorem zfu (f:Option Tk→Nat→Ps α) (i:Nat) (ts:List Tk):(Ps.look f).run i ts=(f ts.head? i).run i ts:=rfl
theorem run_skip (p:Ps α) (i:Nat) (t:Tk) (r:List Tk):(Ps.skip p).run i (t::r)=p.run (i+1) r:=rfl
theorem run_bind (k:α→Ps β):∀ (p:Ps α) (i:Nat) (ts:List Tk),(p.bind k).run i ts=(p.run i ts).andThen fun a i r=>(k a).run i r
 | .ret _,_,_=>rfl
 | .bad,_,_=>rfl
 | .look f,i,ts=>run_bind k (f ts.head? i) i ts
 | .skip p,i,[]=>run_bind k p i []
 | .skip p,i,_::r=>run_bind k p (i+1) r
theorem zbV:∀ (p:Ps α) (i:Nat) (ts:List Tk),match p.run i ts with
    | .ok _ j r=>∃ c,ts=c++r∧j=i+c.length
    | .bad j r=>∃ c,ts=c++r∧j=i+c.length
  | .ret _,_,_=>⟨[],rfl,rfl⟩
  | .bad,_,_=>⟨[],rfl,rfl⟩
  | .look f,i,ts=>zbV (f ts.head? i) i ts
  | .skip p,i,[]=>zbV p i []
  | .skip p, i, t :: r => by
    have h:=zbV p (i+1) r
    show match p.run (i+1) r with | .ok _ j r'=>∃ c,t::r=c++r'∧j=i+c.length | .bad j r'=>∃ c,t::r=c++r'∧j=i+c.length
    revert h
    cases p.run (i+1) r with
    | ok a j r'=>rintro ⟨c,rfl,rfl⟩; exact ⟨t::c,rfl,by simp; omega⟩
    | bad j r'=>rintro ⟨c,rfl,rfl⟩; exact ⟨t::c,rfl,by simp; omega⟩
theorem zdM (t:Tk) (r:List Tk):∀ (p:Ps α) (i:Nat) (pre:List Tk) (j:Nat),p.run i (pre++t::r) = .bad j (t::r)→(∃ a k q,p.run i pre = .ok a k q)∨∃ k,p.run i pre = .bad k []
  | .ret _,_,_,_,h=>by cases h
  | .bad, i, pre, j, h => by
    have h' : Out.bad (α:=α) i (pre++t::r) = .bad j (t::r):=h
    simp only [Out.bad.injEq] at h'
    have:pre=[]:=by
      have:=congrArg List.length h'.2
      simp at this
      exact this
    subst this
    exact .inr ⟨i,rfl⟩
  | .look f, i, [], j, h => by
    -- at the end: whatever is looked at is the end
    have key:∀ (p:Ps α) (i:Nat),(∃ a k q,p.run i [] = .ok a k q)∨∃ k,p.run i [] = .bad k []:=by
      intro p i
      have hl:=zbV p i []
      cases hp:p.run i [] with
      | ok a k q=>exact .inl ⟨a,k,q,rfl⟩
      | bad k q =>
        rw [hp] at hl
        obtain ⟨c,hc,_⟩:=hl
        have:q=[]:=(List.append_eq_nil_iff.1 hc.symm).2
        subst this
        exact .inr ⟨k,rfl⟩
    exact key _ i
  | .look f,i,x::pre,j,h=>zdM t r (f (some x) i) i (x::pre) j h
  | .skip p, i, [], j, h => by
    exfalso
    have h' : p.run (i+1) r = .bad j (t::r):=h
    have hl:=zbV p (i+1) r
    rw [h'] at hl
    obtain ⟨c,hc,_⟩:=hl
    have:=congrArg List.length hc
    simp at this
    omega
  | .skip p,i,_::pre,j,h=>zdM t r p (i+1) pre j h
end Go.Ps
namespace Go.Proofs.YtcmaoifiiigggaaGreatDoor
open Go.Abs Go.Ps
abbrev E:=zi
abbrev St:=zm
abbrev Cl:=zl
def isK (k:Int) (s:List UInt8):Option Tk→Bool
 | none=>false
 | some t=>decide (t.1=k) && decide (t.2=s)
def kindO:Option Tk→Int
 | none=>0
 | some t=>t.1
def textO:Option Tk→List UInt8
 | none=>[]
 | some t=>t.2
abbrev wrd (s:List UInt8):=isK 2 s
abbrev sgn (s:List UInt8):=isK 5 s
def needP (k:Int) (s:List UInt8):Ps Unit:=.look fun t _=>if isK k s t then .skip (.ret ()) else .bad
def takeP (k:Int):Ps (List UInt8):=.look fun t _=>if kindO t=k then .skip (.ret (textO t)) else .bad
def mulO (t:Option Tk):Int:=if sgn [42] t then 12 else if sgn [47] t then 13 else if sgn [37] t then 14 else 0
def sumO (t:Option Tk):Int:=if sgn [43] t then 10 else if sgn [45] t then 11 else 0
def ordO (t:Option Tk):Int:=if sgn [60] t then 15 else if sgn [62] t then 16 else if sgn [60,61] t then 17 else if sgn [62,61] t then 18 else if sgn [61,61] t then 19 else if sgn [33,61] t then 20 else 0
def andO (t:Option Tk):Int:=if wrd [97,110,100] t then 21 else 0
def orO (t:Option Tk):Int:=if wrd [111,114] t then 22 else 0
def atomP (ex:Ps E):Ps E:=.look fun t i=>
 if kindO t=3 then .skip (.ret ⟨1,i,textO t,[]⟩)
 else if kindO t=4 then .skip (.ret ⟨2,i,textO t,[]⟩)
 else if kindO t=1 then .skip (.ret ⟨3,i,textO t,[]⟩)
 else if wrd [116,114,117,101] t then .skip (.ret ⟨4,i,[],[]⟩)
 else if wrd [102,97,108,115,101] t then .skip (.ret ⟨5,i,[],[]⟩)
 else if wrd [115,116,97,116,117,115] t then .skip (.ret ⟨7,i,[],[]⟩)
 else if wrd [104,101,97,100,101,114] t then .skip ((takeP 4).bind fun s=>.ret ⟨6,i,s,[]⟩)
 else if sgn [40] t then .skip (ex.bind fun x=>(needP 5 [41]).bind fun _=>.ret x)
 else .bad
def zgu (ex:Ps E):Nat→Ps E
 | 0=>.bad
 | f+1=>.look fun t i=>if sgn [45] t then .skip ((zgu ex f).bind fun y=>.ret ⟨8,i,[],[y]⟩) else atomP ex
def zef (op:Option Tk→Int) (one:Ps E):Nat→E→Ps E
 | 0,_=>.bad
 | f+1,x=>.look fun t i=>if op t=0 then .ret x else .skip (one.bind fun y=>zef op one f ⟨op t,i,[],[x,y]⟩)
def zgo (op:Option Tk→Int) (one:Ps E) (N:Nat):Ps E:=one.bind fun x=>zef op one N x
def listP {α:Type} (one:Ps α):Nat→List α→Ps (List α)
 | 0,_=>.bad
 | f+1,l=>.look fun t _=>if sgn [44] t then .skip (one.bind fun y=>listP one f (l++[y])) else .ret l
def lessP (ex sum:Ps E) (N:Nat):Ps E:=sum.bind fun x=>.look fun t i=>
 if 0<ordO t then .skip (sum.bind fun y=>.ret ⟨ordO t,i,[],[x,y]⟩)
 else if wrd [105,110] t then .skip ((needP 5 [40]).bind fun _=>ex.bind fun y=>(listP ex N [y]).bind fun l=>(needP 5 [41]).bind fun _=>.ret ⟨23,i,[],x::l⟩)
 else .ret x
def notP (less:Ps E):Nat→Ps E
 | 0=>.bad
 | f+1=>.look fun t i=>if wrd [110,111,116] t then .skip ((notP less f).bind fun y=>.ret ⟨9,i,[],[y]⟩) else less
def zie (ex:Ps E) (N:Nat):Ps E:=zgo mulO (zgu ex N) N
def sumP (ex:Ps E) (N:Nat):Ps E:=zgo sumO (zie ex N) N
def conjP (ex:Ps E) (N:Nat):Ps E:=zgo andO (notP (lessP ex (sumP ex N) N) N) N
def exprP (N:Nat):Nat→Ps E
 | 0=>.bad
 | f+1=>zgo orO (conjP (exprP N f) N) N
def zgj (ex:Ps E):Ps E:=ex.bind fun x=>(needP 5 [59]).bind fun _=>.ret x
def z9U (ex:Ps E):Ps E:=(needP 5 [61]).bind fun _=>zgj ex
def zby {α:Type} (one:Ps α):Nat→List α→Ps (List α)
 | 0,_=>.bad
 | f+1,l=>.look fun t _=>if sgn [125] t then .skip (.ret l) else one.bind fun s=>zby one f (l++[s])
def z4d {α:Type} (one:Ps α) (N:Nat):Ps (List α):=(needP 5 [123]).bind fun _=>zby one N []
def stmtP (ex:Ps E) (N:Nat):Nat→Ps St
  | 0=>.bad
  | f + 1 => .look fun t i =>
    if wrd [108,101,116] t then .skip ((takeP 1).bind fun n=>(z9U ex).bind fun x=>.ret ⟨1,i,n,x,[],[]⟩)
    else if wrd [115,101,116] t then .skip (.look fun u _=>
      if wrd [115,116,97,116,117,115] u then .skip ((z9U ex).bind fun x=>.ret ⟨4,i,[],x,[],[]⟩)
      else if wrd [104,101,97,100,101,114] u then .skip ((takeP 4).bind fun n=>(z9U ex).bind fun x=>.ret ⟨3,i,n,x,[],[]⟩)
      else (takeP 1).bind fun n=>(z9U ex).bind fun x=>.ret ⟨2,i,n,x,[],[]⟩)
    else if wrd [105,102] t then .skip (ex.bind fun x=>(z4d (stmtP ex N f) N).bind fun b=>.look fun u _=>
      if wrd [101,108,115,101] u then .skip (.look fun v _=>
        if wrd [105,102] v then (stmtP ex N f).bind fun s=>.ret ⟨5,i,[],x,b,[s]⟩
        else (z4d (stmtP ex N f) N).bind fun e=>.ret ⟨5,i,[],x,b,e⟩)
      else .ret ⟨5,i,[],x,b,[]⟩)
    else if wrd [114,101,112,101,97,116] t then .skip (.look fun _ j=>(takeP 3).bind fun d=>(z4d (stmtP ex N f) N).bind fun b=>.ret ⟨6,i,[],⟨1,j,d,[]⟩,b,[]⟩)
    else if wrd [108,111,103] t then .skip ((zgj ex).bind fun x=>.ret ⟨7,i,[],x,[],[]⟩)
    else if wrd [100,101,110,121] t then .skip ((zgj ex).bind fun x=>.ret ⟨8,i,[],x,[],[]⟩)
    else if wrd [114,101,112,108,121] t then .skip ((zgj ex).bind fun x=>.ret ⟨9,i,[],x,[],[]⟩)
    else .bad
def z5y:List (List UInt8):=[[112,97,116,116,101,114,110],[116,97,103,115],[102,114,101,115,104],[115,116,97,108,101],[100,111,119,110],[110,101,103,97,116,105,118,101],[99,111,115,116],[118,97,114,121],[97,108,108,111,119],[115,105,103,110,101,100],[112,114,111,103,114,97,109],[102,114,111,109],[116,111],[99,108,105,101,110,116,115],[99,111,117,110,116,114,105,101,115],[115,105,116,101,115],[117,115,101,115]]
def z9B (inner:Bool) (t:Option Tk):Int:=
 if kindO t=2∧textO t∈z5y∧(textO t=[112,97,116,116,101,114,110]∨inner=decide (11≤z5y.idxOf (textO t))) then z5y.idxOf (textO t)+1 else 0
def zdT (k:Int) (N:Nat):Ps (List (List UInt8)):=(takeP k).bind fun x=>listP (takeP k) N [x]
def semi (c:Cl):Ps Cl:=(needP 5 [59]).bind fun _=>.ret c
def zgg (k:Int):Ps z1r:=.look fun _ j=>(takeP 3).bind fun d=>.look fun u _=>
 if kindO u=1∧k≠17 then .skip (.ret ⟨d,textO u,j⟩) else .ret ⟨d,[],j⟩
def zb7 (N:Nat) (inner:Bool) (conds:Ps (List Cl)):Ps Cl:=.look fun t i=>
 let k:=z9B inner t
 if k=0 then .bad else .skip (
  if k=1 then (takeP 4).bind fun s=>semi ⟨k,i,[],[s],⟨[],[],-1⟩,[],false,[]⟩
  else if k=2∨k=14∨k=15 then (zdT 4 N).bind fun l=>semi ⟨k,i,[],l,⟨[],[],-1⟩,[],false,[]⟩
  else if k=16 then (zdT 3 N).bind fun l=>semi ⟨k,i,[],l,⟨[],[],-1⟩,[],false,[]⟩
  else if k=8 then (takeP 4).bind fun n=>(needP 2 [105,110]).bind fun _=>(zdT 4 N).bind fun l=>.look fun u _=>
   if wrd [100,101,102,97,117,108,116] u then .skip ((takeP 4).bind fun d=>semi ⟨k,i,n,l,⟨[],[],-1⟩,d,true,[]⟩) else semi ⟨k,i,n,l,⟨[],[],-1⟩,[],false,[]⟩
  else if k=11 then (takeP 1).bind fun n=>semi ⟨k,i,n,[],⟨[],[],-1⟩,[],false,[]⟩
  else if k=9 then conds.bind fun l=>.ret ⟨k,i,[],[],⟨[],[],-1⟩,[],false,l⟩
  else if k=10 then semi ⟨k,i,[],[],⟨[],[],-1⟩,[],false,[]⟩
  else (zgg k).bind fun a=>semi ⟨k,i,[],[],a,[],false,[]⟩)
def zlS (N:Nat):Ps (List Cl):=z4d (zb7 N true .bad) N
def zaP (N:Nat):Ps (List Cl):=z4d (zb7 N false (zlS N)) N
def z7I:List (List UInt8):=[[114,101,97,100,115],[119,114,105,116,101,115],[115,116,97,116,117,115],[108,111,103],[100,101,110,121],[114,101,112,108,121]]
def z62:Ps Int:=.look fun t _=>if kindO t=2∧textO t∈z7I then .skip (.ret (z7I.idxOf (textO t)+1)) else .bad
def ruleP (N:Nat):Ps zQ:=.look fun _ i=>(needP 2 [114,117,108,101]).bind fun _=>(takeP 1).bind fun n=>(zaP N).bind fun l=>.ret ⟨n,i,l⟩
def zaK (N:Nat):Nat→zG→Ps zG
  | 0,_=>.bad
  | f + 1, x => .look fun t i => match t with
    | none=>.ret x
    | some _ =>
      if wrd [112,111,108,105,99,121] t then .skip ((takeP 1).bind fun n=>(z4d (ruleP N) N).bind fun l=>zaK N f ⟨x.Policies++[⟨n,i,l⟩],x.Programs⟩)
      else if wrd [112,114,111,103,114,97,109] t then .skip ((takeP 1).bind fun n=>.look fun u _=>
        (if wrd [101,102,102,101,99,116,115] u then Ps.skip (z62.bind fun e=>listP z62 N [e]) else Ps.ret []).bind fun es=>
          (z4d (stmtP (exprP N N) N N) N).bind fun c=>zaK N f ⟨x.Policies,x.Programs++[⟨n,i,es,c⟩]⟩)
      else .bad
open Go.Abs Go.Ps
mutual
def atE (g:Int→Int):E→E
 | ⟨op,a,s,l⟩=>⟨op,g a,s,atEs g l⟩
def atEs (g:Int→Int):List E→List E
 | []=>[]
 | x::r=>atE g x::atEs g r
end
mutual
def atS (g:Int→Int):St→St
 | ⟨k,a,n,x,b,e⟩=>⟨k,g a,n,atE g x,atSs g b,atSs g e⟩
def atSs (g:Int→Int):List St→List St
 | []=>[]
 | x::r=>atS g x::atSs g r
end
def atA (g:Int→Int) (a:z1r):z1r:=⟨a.Number,a.Unit,g a.At⟩
mutual
def atC (g:Int→Int):Cl→Cl
 | ⟨k,a,n,t,am,d,h,c⟩=>⟨k,g a,n,t,atA g am,d,h,atCs g c⟩
def atCs (g:Int→Int):List Cl→List Cl
 | []=>[]
 | x::r=>atC g x::atCs g r
end
def atR (g:Int→Int) (r:zQ):zQ:=⟨r.Name,g r.At,atCs g r.Clauses⟩
def atP (g:Int→Int) (p:zL):zL:=⟨p.Name,g p.At,p.Rules.map (atR g)⟩
def atPr (g:Int→Int) (p:zI):zI:=⟨p.Name,g p.At,p.Effects,atSs g p.Code⟩
def atSrc (g:Int→Int) (x:zG):zG:=⟨x.Policies.map (atP g),x.Programs.map (atPr g)⟩
theorem zhS (g:Int→Int):∀ l:List E,atEs g l=l.map (atE g)
 | []=>rfl
 | x::r=>by rw [atEs,zhS g r]; rfl
theorem z6Z (g:Int→Int):∀ l:List St,atSs g l=l.map (atS g)
 | []=>rfl
 | x::r=>by rw [atSs,z6Z g r]; rfl
theorem zdS (g:Int→Int):∀ l:List Cl,atCs g l=l.map (atC g)
 | []=>rfl
 | x::r=>by rw [atCs,zdS g r]; rfl
mutual
theorem zpu (g h:Int→Int):∀ x:E,atE g (atE h x)=atE (fun a=>g (h a)) x
 | ⟨op,a,s,l⟩=>by simp only [atE,zov g h l]
theorem zov (g h:Int→Int):∀ l:List E,atEs g (atEs h l)=atEs (fun a=>g (h a)) l
 | []=>rfl
 | x::r=>by simp only [atEs,zpu g h x,zov g h r]
end
mutual
theorem zrf (g h:Int→Int):∀ x:St,atS g (atS h x)=atS (fun a=>g (h a)) x
 | ⟨k,a,n,x,b,e⟩=>by simp only [atS,zpu,ziO g h b,ziO g h e]
theorem ziO (g h:Int→Int):∀ l:List St,atSs g (atSs h l)=atSs (fun a=>g (h a)) l
 | []=>rfl
 | x::r=>by simp only [atSs,zrf g h x,ziO g h r]
end
mutual
theorem ztF (g h:Int→Int):∀ x:Cl,atC g (atC h x)=atC (fun a=>g (h a)) x
 | ⟨k,a,n,t,am,d,hd,c⟩=>by simp only [atC,atA,zkr g h c]
theorem zkr (g h:Int→Int):∀ l:List Cl,atCs g (atCs h l)=atCs (fun a=>g (h a)) l
 | []=>rfl
 | x::r=>by simp only [atCs,ztF g h x,zkr g h r]
end
end Go.Proofs.YtcmaoifiiigggaaGreatDoor
namespace Go.Lex
def sm (b:UInt8):Bool:=decide (97≤b.toNat) && decide (b.toNat≤122)
def dg (b:UInt8):Bool:=decide (48≤b.toNat) && decide (b.toNat≤57)
def rst (b:UInt8):Bool:=sm b || dg b || decide (b=95)
def ltr (b:UInt8):Bool:=rst b || (decide (65≤b.toNat) && decide (b.toNat≤90))
def spc (b:UInt8):Bool:=decide (b=32) || decide (b=9) || decide (b=10) || decide (b=13)
def skipP:Bool→List UInt8→List UInt8
 | _,[]=>[]
 | true,b::r=>if b=10 then skipP false r else skipP true r
 | false,b::r=>if b=35 then skipP true r else if spc b then skipP false r else b::r
def txtP:List UInt8→List UInt8→Sum Int (Int×List UInt8×List UInt8)
  | _,[]=>.inl 182
  | out, b :: r =>
    if b=34 then (if 200<out.length then .inl 182 else .inr (4,out,r))
    else if b=92 then (match r with
      | []=>.inl 182
      | c::r'=>if c=34∨c=92 then txtP (out++[c]) r' else .inl 182)
    else if b.toNat<32∨126<b.toNat then .inl 182 else txtP (out++[b]) r
def longs:List (List UInt8):=[[61,61],[33,61],[60,61],[62,61],[46,46]]
def shorts:List UInt8:=[123,125,40,41,91,93,44,59,58,61,60,62,43,45,42,47,37]
def sgnP:List UInt8→Sum Int (Int×List UInt8×List UInt8)
 | []=>.inl 180
 | [b]=>if b∈shorts then .inr (5,[b],[]) else .inl 180
 | b::c::r=>if [b,c]∈longs then .inr (5,[b,c],r) else if b∈shorts then .inr (5,[b],c::r) else .inl 180
def zfM (w r:List UInt8):Bool:=decide (18<w.length) || (decide (w.head? = some 48) && decide (1<w.length)) || (match r with | []=>false | c::_=>ltr c)
def numP (s:List UInt8):Sum Int (Int×List UInt8×List UInt8):=
 if zfM (s.takeWhile dg) (s.dropWhile dg) then .inl 181 else .inr (3,s.takeWhile dg,s.dropWhile dg)
def namP (kw:List (List UInt8)) (s:List UInt8):Sum Int (Int×List UInt8×List UInt8):=
 if s.takeWhile rst∈kw then .inr (2,s.takeWhile rst,s.dropWhile rst) else if 40<(s.takeWhile rst).length then .inl 2 else .inr (1,s.takeWhile rst,s.dropWhile rst)
def nextP (kw:List (List UInt8)):List UInt8→Sum Int (Int×List UInt8×List UInt8)
 | []=>.inl 180
 | b::r=>if sm b then namP kw (b::r) else if dg b then numP (b::r) else if b=34 then txtP [] r else sgnP (b::r)
def toksP (kw:List (List UInt8)):Nat→List UInt8→List (Int×Nat×List UInt8)×Option (Nat×Int)
  | 0,_=>([],none)
  | f + 1, s => match skipP false s with
    | []=>([],none)
    | b :: r => match nextP kw (b :: r) with
      | .inl e=>([],some (r.length+1,e))
      | .inr (k,w,rest)=>((k,r.length+1,w)::(toksP kw f rest).1,(toksP kw f rest).2)
theorem z6g {kw:List (List UInt8)} {s:List UInt8} (h:skipP false s=[]) (f:Nat):toksP kw f s=([],none):=by
 cases f with
 | zero=>rfl
 | succ f=>show (match skipP false s with | []=>_ | b::r=>_)=_; rw [h]
theorem z8H {kw:List (List UInt8)} {s r:List UInt8} {b:UInt8} {e:Int} (h:skipP false s=b::r) (hn:nextP kw (b::r) = .inl e) (f:Nat):toksP kw (f+1) s=([],some (r.length+1,e)):=by
 show (match skipP false s with | []=>_ | b::r=>_)=_
 rw [h]
 show (match nextP kw (b::r) with | .inl e=>_ | .inr (k,w,rest)=>_)=_
 rw [hn]
theorem z7O {kw:List (List UInt8)} {s r w rest:List UInt8} {b:UInt8} {k:Int} (h:skipP false s=b::r) (hn:nextP kw (b::r) = .inr (k,w,rest)) (f:Nat) :
  toksP kw (f+1) s=((k,r.length+1,w)::(toksP kw f rest).1,(toksP kw f rest).2):=by
 show (match skipP false s with | []=>_ | b::r=>_)=_
 rw [h]
 show (match nextP kw (b::r) with | .inl e=>_ | .inr (k,w,rest)=>_)=_
 rw [hn]
theorem z6k (kw:List (List UInt8)) (b:UInt8) (r:List UInt8):nextP kw (b::r)=if sm b then namP kw (b::r) else if dg b then numP (b::r) else if b=34 then txtP [] r else sgnP (b::r):=rfl
theorem zdP (b:UInt8):sgnP [b]=if b∈shorts then .inr (5,[b],[]) else .inl 180:=rfl
theorem zbw (b c:UInt8) (r:List UInt8):sgnP (b::c::r)=if [b,c]∈longs then .inr (5,[b,c],r) else if b∈shorts then .inr (5,[b],c::r) else .inl 180:=rfl
theorem zaO (out:List UInt8):txtP out [] = .inl 182:=by rw [txtP.eq_def]
theorem z5s (out:List UInt8) (b:UInt8) (r:List UInt8):txtP out (b::r)=if b=34 then (if 200<out.length then .inl 182 else .inr (4,out,r))
 else if b=92 then (match r with
  | []=>.inl 182
  | c::r'=>if c=34∨c=92 then txtP (out++[c]) r' else .inl 182)
 else if b.toNat<32∨126<b.toNat then .inl 182 else txtP (out++[b]) r:=by rw [txtP.eq_def]
theorem ziz (b:UInt8) (r:List UInt8):skipP true (b::r)=if b=10 then skipP false r else skipP true r:=rfl
theorem zav (b:UInt8) (r:List UInt8):skipP false (b::r)=if b=35 then skipP true r else if spc b then skipP false r else b::r:=rfl
theorem zd3:∀ (c:Bool) (s:List UInt8),(skipP c s).length≤s.length
  | c,[]=>by cases c <;> simp [skipP]
  | true, b :: r => by
    have h1:=zd3 true r; have h2:=zd3 false r
    unfold skipP; split <;> simp <;> omega
  | false, b :: r => by
    have h1:=zd3 true r; have h2:=zd3 false r
    unfold skipP; split
    · simp; omega
    · split <;> simp; omega
theorem zgQ:∀ (c:Bool) (s:List UInt8),∃ p,s=p++skipP c s
  | c,[]=>⟨[],by cases c <;> simp [skipP]⟩
  | true, b :: r => by
    obtain ⟨p1,h1⟩:=zgQ true r; obtain ⟨p2,h2⟩:=zgQ false r
    unfold skipP; split
    · exact ⟨b::p2,by simpa using h2⟩
    · exact ⟨b::p1,by simpa using h1⟩
  | false, b :: r => by
    obtain ⟨p1,h1⟩:=zgQ true r; obtain ⟨p2,h2⟩:=zgQ false r
    unfold skipP; split
    · exact ⟨b::p1,by simpa using h1⟩
    · split
      · exact ⟨b::p2,by simpa using h2⟩
      · exact ⟨[],rfl⟩
theorem zsO:∀ (n:Nat) (s out:List UInt8) (k:Int) (w r:List UInt8),s.length≤n→txtP out s = .inr (k,w,r)→r.length<s.length:=by
  intro n
  induction n with
  | zero =>
    intro s out k w r hn h
    match s,hn with
    | [],_=>rw [zaO] at h; cases h
  | succ n ih =>
    intro s out k w r hn h
    match s,hn with
    | [],_=>rw [zaO] at h; cases h
    | b :: t, hn =>
      rw [z5s] at h
      split at h
      · split at h
        · cases h
        · cases h; simp
      · split at h
        · match t,hn,h with
          | [],_,h=>cases h
          | c :: t', hn, h =>
            simp only at h
            split at h
            · have:=ih t' _ _ _ _ (by simp at hn; omega) h
              simp; omega
            · cases h
        · split at h
          · cases h
          · have:=ih t _ _ _ _ (by simp at hn; omega) h
            simp; omega
theorem zlZ {p:UInt8→Bool} (s:List UInt8):(s.dropWhile p).length≤s.length:=List.Sublist.length_le (List.dropWhile_sublist _)
theorem zfg {kw:List (List UInt8)} {s:List UInt8} {k:Int} {w r:List UInt8} (h:nextP kw s = .inr (k,w,r)):r.length<s.length:=by
  match s,h with
  | b :: t, h =>
    rw [z6k] at h
    split at h
    · rename_i hb
      have hr:rst b=true:=by unfold rst; rw [hb]; rfl
      have:=zlZ (p:=rst) t
      unfold namP at h
      rw [List.dropWhile_cons_of_pos hr] at h
      split at h
      · cases h; simp; omega
      · split at h
        · cases h
        · cases h; simp; omega
    · split at h
      · rename_i hb
        have:=zlZ (p:=dg) t
        unfold numP at h
        rw [List.dropWhile_cons_of_pos hb] at h
        split at h
        · cases h
        · cases h; simp; omega
      · split at h
        · have:=zsO _ _ _ _ _ _ (Nat.le_refl _) h
          simp; omega
        · match t,h with
          | [], h =>
            rw [zdP] at h
            split at h
            · cases h; simp
            · cases h
          | c :: t', h =>
            rw [zbw] at h
            split at h
            · cases h; simp; omega
            · split at h
              · cases h; simp
              · cases h
theorem zsP:∀ (n:Nat) (s out:List UInt8) (k:Int) (w r:List UInt8),s.length≤n→txtP out s = .inr (k,w,r)→r <:+ s:=by
  intro n
  induction n with
  | zero =>
    intro s out k w r hn h
    match s,hn with
    | [],_=>rw [zaO] at h; cases h
  | succ n ih =>
    intro s out k w r hn h
    match s,hn with
    | [],_=>rw [zaO] at h; cases h
    | b :: t, hn =>
      rw [z5s] at h
      split at h
      · split at h
        · cases h
        · cases h; exact List.suffix_cons _ _
      · split at h
        · match t,hn,h with
          | [],_,h=>cases h
          | c :: t', hn, h =>
            simp only at h
            split at h
            · exact ((ih t' _ _ _ _ (by simp at hn; omega) h).trans (List.suffix_cons _ _)).trans (List.suffix_cons _ _)
            · cases h
        · split at h
          · cases h
          · exact (ih t _ _ _ _ (by simp at hn; omega) h).trans (List.suffix_cons _ _)
theorem zmE {kw:List (List UInt8)} {s:List UInt8} {k:Int} {w r:List UInt8} (h:nextP kw s = .inr (k,w,r)):r <:+ s:=by
  match s,h with
  | b :: t, h =>
    rw [z6k] at h
    split at h
    · unfold namP at h
      split at h
      · cases h; exact List.dropWhile_suffix _
      · split at h
        · cases h
        · cases h; exact List.dropWhile_suffix _
    · split at h
      · unfold numP at h
        split at h
        · cases h
        · cases h; exact List.dropWhile_suffix _
      · split at h
        · exact (zsP _ _ _ _ _ _ (Nat.le_refl _) h).trans (List.suffix_cons _ _)
        · match t,h with
          | [], h =>
            rw [zdP] at h
            split at h
            · cases h; exact List.suffix_cons _ _
            · cases h
          | c :: t', h =>
            rw [zbw] at h
            split at h
            · cases h; exact (List.suffix_cons _ _).trans (List.suffix_cons _ _)
            · split at h
              · cases h; exact List.suffix_cons _ _
              · cases h
theorem zdp:∀ (c:Bool) (s:List UInt8) (b:UInt8) (r:List UInt8),skipP c s=b::r→b≠35∧spc b=false
  | true,[],b,r,h=>by simp [skipP] at h
  | false,[],b,r,h=>by simp [skipP] at h
  | true, c :: s, b, r, h => by
    rw [ziz] at h
    split at h
    · exact zdp false s b r h
    · exact zdp true s b r h
  | false, c :: s, b, r, h => by
    rw [zav] at h
    split at h
    · exact zdp true s b r h
    · split at h
      · exact zdp false s b r h
      · cases h
        rename_i h1 h2
        exact ⟨h1,by simpa using h2⟩
theorem zeY (c:Bool) (s:List UInt8):skipP false (skipP c s)=skipP c s:=by
  cases h:skipP c s with
  | nil=>rfl
  | cons b r =>
    obtain ⟨h1,h2⟩:=zdp c s b r h
    rw [zav,if_neg h1,h2]
    rfl
theorem z7G (kw:List (List UInt8)) (f:Nat) (s:List UInt8):toksP kw f (skipP false s)=toksP kw f s:=by
  cases hs:skipP false s with
  | nil=>rw [z6g hs,z6g rfl]
  | cons b r =>
    have h2:skipP false (b::r)=b::r:=by rw [← hs,zeY]
    cases f with
    | zero=>rfl
    | succ f =>
      cases hn:nextP kw (b::r) with
      | inl e=>rw [z8H hs hn,z8H h2 hn]
      | inr q=>obtain ⟨k,w,rest⟩:=q; rw [z7O hs hn,z7O h2 hn]
theorem zdq (c:Bool) (s:List UInt8):skipP c s <:+ s:=by
 obtain ⟨p,h⟩:=zgQ c s
 exact ⟨p,h.symm⟩
theorem z8G {r s:List UInt8} (h:r <:+ s):s.drop (s.length - r.length)=r:=(List.suffix_iff_eq_drop.1 h).symm
theorem zaN (kw:List (List UInt8)):∀ (f g:Nat) (s:List UInt8),s.length<f→s.length<g→toksP kw f s=toksP kw g s
  | 0,_,_,h,_=>by omega
  | _,0,_,_,h=>by omega
  | f + 1, g + 1, s, h1, h2 => by
    have hl:=zd3 false s
    cases hs:skipP false s with
    | nil=>rw [z6g hs,z6g hs]
    | cons b r =>
      rw [hs] at hl
      cases hn:nextP kw (b::r) with
      | inl e=>rw [z8H hs hn,z8H hs hn]
      | inr q =>
        obtain ⟨k,w,rest⟩:=q
        have:=zfg hn
        rw [z7O hs hn,z7O hs hn,zaN kw f g rest (by simp at hl this; omega) (by simp at hl this; omega)]
theorem zsN:∀ (n:Nat) (s out:List UInt8) (e:Int),s.length≤n→txtP out s = .inl e→e=182:=by
  intro n
  induction n with
  | zero =>
    intro s out e hn h
    match s,hn with
    | [],_=>rw [zaO] at h; cases h; rfl
  | succ n ih =>
    intro s out e hn h
    match s,hn with
    | [],_=>rw [zaO] at h; cases h; rfl
    | b :: t, hn =>
      rw [z5s] at h
      split at h
      · split at h
        · cases h; rfl
        · cases h
      · split at h
        · match t,hn,h with
          | [],_,h=>cases h; rfl
          | c :: t', hn, h =>
            simp only at h
            split at h
            · exact ih t' _ _ (by simp at hn; omega) h
            · cases h; rfl
        · split at h
          · cases h; rfl
          · exact ih t _ _ (by simp at hn; omega) h
theorem zmD {kw:List (List UInt8)} {s:List UInt8} {e:Int} (h:nextP kw s = .inl e):e≠0:=by
  match s,h with
  | [],h=>cases h; decide
  | b :: t, h =>
    rw [z6k] at h
    split at h
    · unfold namP at h
      split at h
      · cases h
      · split at h
        · cases h; decide
        · cases h
    · split at h
      · unfold numP at h
        split at h
        · cases h; decide
        · cases h
      · split at h
        · rw [zsN _ _ _ _ (Nat.le_refl _) h]; decide
        · match t,h with
          | [], h =>
            rw [zdP] at h
            split at h
            · cases h
            · cases h; decide
          | c :: t', h =>
            rw [zbw] at h
            split at h
            · cases h
            · split at h
              · cases h
              · cases h; decide
theorem znp (kw:List (List UInt8)):∀ (f:Nat) (s:List UInt8),(toksP kw f s).1.length≤s.length∧(∀ x∈(toksP kw f s).1,x.2.1≤s.length)∧∀ k e,(toksP kw f s).2=some (k,e)→e≠0∧k≤s.length
  | 0,s=>⟨by simp [toksP],by simp [toksP],by simp [toksP]⟩
  | f + 1, s => by
    have hl:=zd3 false s
    cases hs:skipP false s with
    | nil=>rw [z6g hs]; simp
    | cons b r =>
      rw [hs] at hl
      simp only [yC] at hl
      cases hn:nextP kw (b::r) with
      | inl e =>
        rw [z8H hs hn]
        refine ⟨by simp,by simp,fun k e' h=>?_⟩
        cases h
        exact ⟨zmD hn,hl⟩
      | inr q =>
        obtain ⟨k,w,rest⟩:=q
        have hlt:=zfg hn
        simp only [yC] at hlt
        obtain ⟨h1,h2,h3⟩:=znp kw f rest
        rw [z7O hs hn]
        refine ⟨by simp; omega,fun x hx=>?_,fun k e h=>?_⟩
        · rcases List.mem_cons.1 hx with rfl | hx
          · exact hl
          · have:=h2 x hx; omega
        · have:=h3 k e h
          exact ⟨this.1,by omega⟩
def andThen (y:List UInt8):Sum Int (Int×List UInt8×List UInt8)→Sum Int (Int×List UInt8×List UInt8)
 | .inl e=>.inl e
 | .inr (k,w,r)=>.inr (k,w,r++y)
end Go.Lex
namespace Go.Proofs.YtcmaoifiiigggaaGreatDoor
open Go.Abs Go.Lex
theorem z2v {α β:Type} {l:List α} {i:Nat} (h:i<l.length) (k:α→Option β):idx l (i:Int) k=k l[i]:=by
 rw [z4e (List.getElem?_eq_getElem h)]
theorem zpj (p:UInt8→Bool):∀ l:List UInt8,l.take (l.takeWhile p).length=l.takeWhile p∧l.drop (l.takeWhile p).length=l.dropWhile p
  | []=>⟨rfl,rfl⟩
  | b :: r => by
    obtain ⟨h1,h2⟩:=zpj p r
    cases hb:p b with
    | true=>simp [List.takeWhile_cons_of_pos hb,List.dropWhile_cons_of_pos hb,h1,h2]
    | false => have hb' : ¬ p b = true := by simp [hb]
               simp [List.takeWhile_cons_of_neg hb',List.dropWhile_cons_of_neg hb']
theorem tw_le (p:UInt8→Bool) (l:List UInt8):(l.takeWhile p).length≤l.length:=List.Sublist.length_le (List.takeWhile_sublist _)
theorem z4Q {s:List UInt8} {i:Nat} (h:i<s.length):s.drop i=s[i]::s.drop (i+1):=List.drop_eq_getElem_cons h
theorem zc0 {R:Type} (p:UInt8→Bool) (s:List UInt8) (hs:s.length≤1000000) (step:Int→Option (Lp Int (Lp Int R)))
    (h1:∀ i (h:i<s.length),step (i:Int)=if p s[i] then some (.go ((i+1:Nat):Int)) else some (.stop (.go (i:Int)))) (h2:step (s.length:Int)=some (.stop (.go (s.length:Int))))
    (a:Nat) (ha:a≤s.length) (n:Nat) (hn:s.length<n):iter step n (a:Int)=some (.go ((a+((s.drop a).takeWhile p).length:Nat):Int)):=by
  obtain ⟨r,e,rfl⟩:=z71 (step:=step) (fun x=>∃ i:Nat,x=(i:Int)∧i≤s.length∧i+((s.drop i).takeWhile p).length=a+((s.drop a).takeWhile p).length) (fun x=>s.length - x.toNat) (fun r=>r = .go ((a+((s.drop a).takeWhile p).length:Nat):Int)) (by
    rintro x ⟨i,rfl,hi,hk⟩
    by_cases hlt:i<s.length
    · rw [h1 i hlt]
      rw [z4Q hlt] at hk
      cases hp:p s[i] with
      | true =>
        rw [List.takeWhile_cons_of_pos hp] at hk
        refine .inl ⟨_,rfl,⟨i+1,rfl,by omega,?_⟩,by simp; omega⟩
        rw [← hk]; simp; omega
      | false =>
        have hp' : ¬ p s[i]=true:=by simp [hp]
        rw [List.takeWhile_cons_of_neg hp'] at hk
        simp only [yN,yR]
        refine .inr ⟨_,rfl,?_⟩
        rw [← hk]; simp
    · obtain rfl:i=s.length:=by omega
      rw [h2]
      refine .inr ⟨_,rfl,?_⟩
      rw [← hk]; simp) n a ⟨a,rfl,ha,rfl⟩ (by simp; omega)
  exact e
theorem zka (b:UInt8):z82 (b.toNat:Int)=some (sm b):=by
 unfold z82 sm
 congr 1
 rw [Bool.eq_iff_iff]; simp only [Bool.and_eq_true,decide_eq_true_eq]; omega
theorem zhX (b:UInt8):z6s (b.toNat:Int)=some (dg b):=by
 unfold z6s dg
 congr 1
 rw [Bool.eq_iff_iff]; simp only [Bool.and_eq_true,decide_eq_true_eq]; omega
theorem z61 (b c:UInt8) (k:Int) (h:(c.toNat:Int)=k):decide ((b.toNat:Int)=k)=decide (b=c):=by
 subst h
 rw [decide_eq_decide]
 constructor
 ·intro h; exact UInt8.toNat_inj.1 (by omega)
 ·intro h; rw [h]
theorem zoZ (b:UInt8):z6t (b.toNat:Int)=some (rst b):=by
 unfold z6t
 rw [zka,zhX]
 simp only [obind,yO]
 rw [z61 b 95 95 rfl]
 unfold rst
 cases sm b <;> simp [z1N]
theorem zuf (b:UInt8):z3K (b.toNat:Int)=some (spc b):=by
 unfold z3K spc
 rw [z61 b 32 32 rfl,z61 b 9 9 rfl,z61 b 10 10 rfl,z61 b 13 13 rfl]
theorem nl_eq (b:UInt8):z3z (b.toNat:Int)=some (!decide (b=10)):=by
 unfold z3z
 rw [← z61 b 10 10 rfl]
 simp
theorem z8M {s:List UInt8} {p:UInt8→Bool} {a:Nat} (ha:a≤s.length) :
  (s.take (a+((s.drop a).takeWhile p).length)).drop a=(s.drop a).takeWhile p∧s.drop (a+((s.drop a).takeWhile p).length)=(s.drop a).dropWhile p∧a+((s.drop a).takeWhile p).length≤s.length:=by
 obtain ⟨h1,h2⟩:=zpj p (s.drop a)
 have h3:=tw_le p (s.drop a)
 rw [List.length_drop] at h3
 refine ⟨?_,?_,by omega⟩
 ·rw [List.drop_take,Nat.add_sub_cancel_left,h1]
 ·rw [← List.drop_drop,h2]
theorem zuC (s:List UInt8) (hs:s.length≤1000000) (a:Nat) (ha:a≤s.length) (n:Nat) (hn:s.length<n) :
  z3W n ⟨s,a⟩=some ((s.drop a).takeWhile spc,⟨s,((a+((s.drop a).takeWhile spc).length:Nat):Int)⟩):=by
 unfold z3W
 simp only
 rw [zc0 spc s hs _ (fun i h=>by
  unfold z4m
  simp only
  rw [yM (by omega),yK,z2v h,zuf]
  simp only [obind,yO,z1N]
  rw [w64 (by omega) (by omega)]
  cases spc s[i] <;> rfl) (by
  unfold z4m
  simp only
  rw [yL (by omega),yJ,z1N,yJ]) a ha n hn,z1N]
 obtain ⟨h1,h2,h3⟩:=z8M (s:=s) (p:=spc) ha
 rw [z1n (by omega),yY,yY,h1]
theorem zuD (s:List UInt8) (hs:s.length≤1000000) (a:Nat) (ha:a≤s.length) (n:Nat) (hn:s.length<n) :
  z3A n ⟨s,a⟩=some ((s.drop a).takeWhile (fun b=>!decide (b=10)),⟨s,((a+((s.drop a).takeWhile (fun b=>!decide (b=10))).length:Nat):Int)⟩):=by
 unfold z3A
 simp only
 rw [zc0 (fun b=>!decide (b=10)) s hs _ (fun i h=>by
  unfold z43
  simp only
  rw [yM (by omega),yK,z2v h,nl_eq]
  simp only [obind,yO,z1N]
  rw [w64 (by omega) (by omega)]
  cases decide (s[i]=10) <;> rfl) (by
  unfold z43
  simp only
  rw [yL (by omega),yJ,z1N,yJ]) a ha n hn,z1N]
 obtain ⟨h1,h2,h3⟩:=z8M (s:=s) (p:=fun b=>!decide (b=10)) ha
 rw [z1n (by omega),yY,yY,h1]
theorem zuE (s:List UInt8) (hs:s.length≤1000000) (a:Nat) (ha:a≤s.length) (n:Nat) (hn:s.length<n) :
  z3B n ⟨s,a⟩=some ((s.drop a).takeWhile rst,⟨s,((a+((s.drop a).takeWhile rst).length:Nat):Int)⟩):=by
 unfold z3B
 simp only
 rw [zc0 rst s hs _ (fun i h=>by
  unfold z44
  simp only
  rw [yM (by omega),yK,z2v h,zoZ]
  simp only [obind,yO,z1N]
  rw [w64 (by omega) (by omega)]
  cases rst s[i] <;> rfl) (by
  unfold z44
  simp only
  rw [yL (by omega),yJ,z1N,yJ]) a ha n hn,z1N]
 obtain ⟨h1,h2,h3⟩:=z8M (s:=s) (p:=rst) ha
 rw [z1n (by omega),yY,yY,h1]
theorem zuF (s:List UInt8) (hs:s.length≤1000000) (a:Nat) (ha:a≤s.length) (n:Nat) (hn:s.length<n) :
  z3C n ⟨s,a⟩=some ((s.drop a).takeWhile dg,⟨s,((a+((s.drop a).takeWhile dg).length:Nat):Int)⟩):=by
 unfold z3C
 simp only
 rw [zc0 dg s hs _ (fun i h=>by
  unfold z45
  simp only
  rw [yM (by omega),yK,z2v h,zhX]
  simp only [obind,yO,z1N]
  rw [w64 (by omega) (by omega)]
  cases dg s[i] <;> rfl) (by
  unfold z45
  simp only
  rw [yL (by omega),yJ,z1N,yJ]) a ha n hn,z1N]
 obtain ⟨h1,h2,h3⟩:=z8M (s:=s) (p:=dg) ha
 rw [z1n (by omega),yY,yY,h1]
theorem zn3:∀ l:List UInt8,skipP false l=skipP false (l.dropWhile spc)
  | []=>rfl
  | b :: r => by
    cases hb:spc b with
    | true =>
      rw [List.dropWhile_cons_of_pos hb,zav,if_neg (by rintro rfl; simp [spc] at hb),if_pos hb]
      exact zn3 r
    | false=>rw [List.dropWhile_cons_of_neg (by simp [hb])]
theorem zk9:∀ l:List UInt8,skipP true l=skipP false (l.dropWhile fun b=>!decide (b=10))
  | []=>rfl
  | b :: r => by
    rw [ziz]
    by_cases hb:b=10
    · subst hb
      rw [if_pos rfl,List.dropWhile_cons_of_neg (by simp),zav,if_neg (by decide),if_pos (by decide)]
    · rw [if_neg hb,List.dropWhile_cons_of_pos (by simp [hb])]
      exact zk9 r
theorem zhq {p:UInt8→Bool}:∀ (l:List UInt8) (b:UInt8) (r:List UInt8),l.dropWhile p=b::r→p b=false
  | [],b,r,h=>by simp at h
  | c :: l, b, r, h => by
    cases hc:p c with
    | true=>rw [List.dropWhile_cons_of_pos hc] at h; exact zhq l b r h
    | false=>rw [List.dropWhile_cons_of_neg (by simp [hc])] at h; cases h; exact hc
theorem zna (s:List UInt8) (hs:s.length≤1000000) (a:Nat) (ha:a≤s.length) (n:Nat) (hn:s.length+1<n) :
  z2M n ⟨s,a⟩=some ⟨s,((s.length - (skipP false (s.drop a)).length:Nat):Int)⟩:=by
 unfold z2M
 simp only
 obtain ⟨r,e,rfl⟩:=z71 (step:=z4l n) (fun x=>∃ i:Nat,x=(s,(i:Int))∧i≤s.length∧skipP false (s.drop i)=skipP false (s.drop a)) (fun x=>s.length - x.2.toNat) (fun r=>r=⟨s,((s.length - (skipP false (s.drop a)).length:Nat):Int)⟩) (by
  rintro x ⟨i,rfl,hi,hk⟩
  unfold z4l
  simp only
  rw [zuC s hs i hi n (by omega)]
  simp only [obind,yO]
  obtain ⟨h1,h2,h3⟩:=z8M (s:=s) (p:=spc) hi
  rw [zn3 (s.drop i),← h2] at hk
  have hd:=h2
  have hij:i≤i+((s.drop i).takeWhile spc).length:=by omega
  generalize i+((s.drop i).takeWhile spc).length=j at h1 h2 h3 hk hd hij ⊢
  by_cases hj:j=s.length
  ·subst hj
   rw [yM (by rfl),yK,z1N,yK]
   refine .inr ⟨_,rfl,?_⟩
   rw [← hk,List.drop_length]
   rfl
  ·have hjl:j<s.length:=by omega
   rw [yL (by omega),yJ,z2v hjl,z1N]
   have hc:=z4Q hjl
   rw [show decide ((s[j].toNat:Int)≠35) = !decide (s[j]=35) by rw [← z61 s[j] 35 35 rfl]; simp]
   have hsp:spc s[j]=false:=zhq _ _ _ (hd.symm.trans hc)
   by_cases h35:s[j]=35
   ·simp only [h35,yQ,yU,yJ]
    rw [zuD s hs j h3 n (by omega)]
    simp only [yO]
    obtain ⟨g1,g2,g3⟩:=z8M (s:=s) (p:=fun b=>!decide (b=10)) h3
    have hpos:0<((s.drop j).takeWhile fun b=>!decide (b=10)).length:=by
     rw [hc,List.takeWhile_cons_of_pos (by simp [h35])]; simp
    refine .inl ⟨_,rfl,⟨_,rfl,g3,?_⟩,by simp only; omega⟩
    rw [g2,← hk,hc,List.dropWhile_cons_of_pos (by simp [h35]),zav,if_pos h35,zk9]
   ·simp only [h35,yP,yT,yK]
    refine .inr ⟨_,rfl,?_⟩
    rw [← hk,hc,zav,if_neg h35,hsp]
    simp only [yN,yR,zV.mk.injEq,true_and,yC,List.length_drop]
    omega) n (s,(a:Int)) ⟨a,rfl,ha,rfl⟩ (by simp; omega)
 exact e
def kwP:List (List UInt8):=[[97,108,108,111,119],[97,110,100],[99,108,105,101,110,116,115],[99,111,115,116],[99,111,117,110,116,114,105,101,115],[100,101,102,97,117,108,116],[100,101,110,121],[100,111,119,110],[101,102,102,101,99,116,115],[101,108,115,101],[102,97,108,115,101],[102,114,101,115,104],[102,114,111,109],[104,101,97,100,101,114],[105,102],[105,110],[108,101,116],[108,111,103],[110,101,103,97,116,105,118,101],[110,111,116],[111,114],[112,97,116,116,101,114,110],[112,111,108,105,99,121],[112,114,111,103,114,97,109],[114,101,97,100,115],[114,101,112,101,97,116],[114,101,112,108,121],[114,117,108,101],[115,101,116],[115,105,103,110,101,100],[115,105,116,101,115],[115,116,97,108,101],[115,116,97,116,117,115],[116,97,103,115],[116,111],[116,114,117,101],[117,115,101,115],[118,97,114,121],[119,114,105,116,101,115]]
theorem zqN:zdf=some kwP:=by
 unfold zdf zht
 rw [z1n (by decide +kernel)]
 simp only [obind,yO,Option.some.injEq]
 decide +kernel
theorem zpP (l:List (List UInt8)) (hl:l.length≤1000000) (v:List UInt8) (n:Nat) (hn:l.length<n):∃ r,z2o n l v=some r∧((0≤r∧v∈l)∨(r = -1∧v ∉ l)):=by
 unfold z2o
 obtain ⟨r,e,h⟩:=z71 (step:=z26 l v) (fun x=>∃ i:Nat,x=(i:Int)∧i≤l.length∧∀ j (h:j<l.length),j<i→l[j]≠v) (fun x=>l.length - x.toNat)
  (fun r=>(r = .go ()∧v ∉ l)∨∃ i:Int,r = .stop i∧0≤i∧v∈l) (by
  rintro x ⟨i,rfl,hi,hj⟩
  unfold z26
  by_cases hlt:i<l.length
  ·rw [yM (by omega),yK,z2v hlt]
   by_cases hv:v=l[i]
   ·rw [yM hv,yK]
    exact .inr ⟨_,rfl,.inr ⟨_,rfl,by omega,hv ▸ List.getElem_mem hlt⟩⟩
   ·rw [yL hv,yJ,w64 (by omega) (by omega)]
    refine .inl ⟨((i+1:Nat):Int),rfl,⟨i+1,rfl,by omega,fun j a b=>?_⟩,by simp; omega⟩
    by_cases e:j=i
    ·subst e; exact fun q=>hv q.symm
    ·exact hj j a (by omega)
  ·rw [yL (by omega),yJ]
   refine .inr ⟨_,rfl,.inl ⟨rfl,fun hv=>?_⟩⟩
   obtain ⟨j,a,e⟩:=List.getElem_of_mem hv
   exact hj j a (by omega) e) n 0 ⟨0,rfl,by omega,fun j a b=>by omega⟩ (by simp; omega)
 rw [e]
 rcases h with ⟨rfl,h⟩ | ⟨i,rfl,h0,h⟩
 ·exact ⟨-1,rfl,.inr ⟨rfl,h⟩⟩
 ·exact ⟨i,rfl,.inl ⟨h0,h⟩⟩
theorem zhp (l:List (List UInt8)) (hl:l.length≤1000000) (v:List UInt8) (n:Nat) (hn:l.length<n):z2T n l v=some (decide (v∈l)):=by
 unfold z2T
 obtain ⟨r,e,h⟩:=zpP l hl v n hn
 rw [e]
 simp only [obind,yO,Option.some.injEq]
 rw [decide_eq_decide]
 rcases h with ⟨h0,h⟩ | ⟨rfl,h⟩
 ·exact ⟨fun _=>h,fun _=>h0⟩
 ·exact ⟨fun q=>by omega,fun q=>absurd q h⟩
theorem zsV (v:List UInt8) (n:Nat) (hn:100<n):zeo n v=some (decide (v∈kwP)):=by
 unfold zeo
 rw [zqN]
 simp only [obind,yO]
 rw [zhp kwP (by decide +kernel) v n (by have h:kwP.length=39:=(by decide +kernel); omega)]
 rfl
def resP (s:List UInt8):Sum Int (Int×List UInt8×List UInt8)→Pn (z6×zV)
 | .inl e=>.pan e
 | .inr (k,w,r)=>.ret (⟨k,0,w⟩,⟨s,((s.length - r.length:Nat):Int)⟩)
theorem zcl (b:Bool) (e:Int):z9m b e=some (if b then .pan e else .ret ()):=by cases b <;> rfl
theorem zrS (s:List UInt8) (hs:s.length≤1000000) (a:Nat) (ha:a≤s.length) (n:Nat) (hn:s.length+100<n) :
  z3s n ⟨s,a⟩=some (resP s (namP kwP (s.drop a))):=by
 unfold z3s namP
 rw [zuE s hs a ha n (by omega)]
 simp only [obind,yO]
 rw [zsV _ n (by omega)]
 simp only [yO]
 obtain ⟨h1,h2,h3⟩:=z8M (s:=s) (p:=rst) ha
 have hl:=congrArg List.length h2
 rw [List.length_drop] at hl
 have hat:((a+((s.drop a).takeWhile rst).length:Nat):Int)=((s.length - ((s.drop a).dropWhile rst).length:Nat):Int):=by omega
 by_cases hw:(s.drop a).takeWhile rst∈kwP
 ·rw [yM hw,yK,if_pos hw,hat]
  rfl
 ·rw [yL hw,yJ,if_neg hw,zcl,hat]
  by_cases h40:40<((s.drop a).takeWhile rst).length
  ·rw [yM (by omega),if_pos h40]
   rfl
  ·rw [yL (by omega),if_neg h40]
   rfl
def nextB (l:List UInt8):Int:=match l with | []=>32 | c::_=>(c.toNat:Int)
theorem zo4 (s:List UInt8) (hs:s.length≤1000000) (a:Nat) (ha:a<s.length) (hd:dg s[a]=true) (n:Nat) (hn:s.length+100<n) :
    z36 n ⟨s,a⟩=some (resP s (numP (s.drop a))):=by
  unfold z36 numP
  rw [zuF s hs a (by omega) n (by omega)]
  simp only [obind,yO]
  obtain ⟨h1,h2,h3⟩:=z8M (s:=s) (p:=dg) (show a≤s.length by omega)
  have hl:=congrArg List.length h2
  rw [List.length_drop] at hl
  have hat:((a+((s.drop a).takeWhile dg).length:Nat):Int)=((s.length - ((s.drop a).dropWhile dg).length:Nat):Int):=by omega
  have htw:(s.drop a).takeWhile dg=s[a]::(s.drop (a+1)).takeWhile dg:=by rw [z4Q ha,List.takeWhile_cons_of_pos hd]
  have hnext:∀ {R:Type} (k:Int→Option R),bindJ (S:=Int) (cond (decide (((a+((s.drop a).takeWhile dg).length:Nat):Int)<(s.length:Int)))
      (idx s ((a+((s.drop a).takeWhile dg).length:Nat):Int) fun c10=>some (.go (c10.toNat:Int))) (some (.go 32))) k=k (nextB ((s.drop a).dropWhile dg)):=by
    intro R k
    by_cases hj:a+((s.drop a).takeWhile dg).length<s.length
    · rw [yM (by omega),yK,z2v hj,z1N,← h2,z4Q hj]
      rfl
    · rw [yL (by omega),yJ,z1N]
      have:(s.drop a).dropWhile dg=[]:=by
        apply List.eq_nil_of_length_eq_zero
        omega
      rw [this]
      rfl
  rw [hnext]
  have hfirst:∀ {R:Type} (k:Bool→Option R),bindJ (S:=Bool) (cond (decide (18<(((s.drop a).takeWhile dg).length:Int))) (some (.go true))
      (idx ((s.drop a).takeWhile dg) 0 fun c17=>some (.go (decide ((c17.toNat:Int)=48) && decide (1<(((s.drop a).takeWhile dg).length:Int)))))) k
      = k (decide (18<((s.drop a).takeWhile dg).length) || (decide (((s.drop a).takeWhile dg).head? = some 48) && decide (1<((s.drop a).takeWhile dg).length))):=by
    intro R k
    by_cases h18:18<((s.drop a).takeWhile dg).length
    · rw [yM (by omega),yK,z1N,yM h18,Bool.true_or]
    · rw [yL (by omega),yJ,htw]
      rw [show (0:Int)=((0:Nat):Int) from rfl,z2v (by simp),z1N]
      rw [htw] at h18
      simp only [List.getElem_cons_zero,List.head?_cons]
      rw [z61 s[a] 48 48 rfl,yL h18,Bool.false_or]
      congr 2
      · by_cases h48:s[a]=48 <;> simp [h48]
      · rw [decide_eq_decide]; omega
  rw [hfirst]
  have hbad:∀ (q:Bool) (l:List UInt8),∃ b:Bool,(bindJ (S:=Bool) (cond q (some (.go true)) ((z6t (nextB l)).bind fun r27=>some (.go r27))) fun b21=>
      some (b21 || (decide ((65:Int)≤(nextB l)) && decide ((nextB l)≤90))))=some b∧b=(q || (match l with | []=>false | c::_=>ltr c)):=by
    intro q l
    cases l with
    | nil=>cases q <;> exact ⟨_,rfl,rfl⟩
    | cons c t =>
      unfold nextB
      simp only
      rw [zoZ]
      refine ⟨q || ltr c,?_,rfl⟩
      have:(decide ((65:Int)≤(c.toNat:Int)) && decide ((c.toNat:Int)≤90))=(decide (65≤c.toNat) && decide (c.toNat≤90)):=by
        rw [Bool.eq_iff_iff]; simp only [Bool.and_eq_true,decide_eq_true_eq]; omega
      unfold ltr
      cases q <;> simp [z1N,this]
  have hb2:∀ (q:Bool) (k:Bool→Option (Pn (z6×zV))),(bindJ (S:=Bool) (cond q (some (.go true)) ((z6t (nextB ((s.drop a).dropWhile dg))).bind fun r27=>some (.go r27))) fun b21=>
      k (b21 || (decide ((65:Int)≤(nextB ((s.drop a).dropWhile dg))) && decide ((nextB ((s.drop a).dropWhile dg))≤90))))=k (q || (match (s.drop a).dropWhile dg with | []=>false | c::_=>ltr c)):=by
    intro q k
    obtain ⟨b,e,hb⟩:=hbad q ((s.drop a).dropWhile dg)
    rw [← hb]
    revert e
    cases q with
    | true=>simp only [yK,z1N,Option.some.injEq]; intro e; rw [e]
    | false =>
      simp only [yJ]
      cases z6t (nextB ((s.drop a).dropWhile dg)) with
      | none=>intro e; cases e
      | some v=>simp only [yO,z1N,Option.some.injEq]; intro e; rw [e]
  rw [hb2 _ (fun b=>(z9m b 181).bind _)]
  rw [zcl,hat]
  unfold zfM
  cases hB:(decide (18<((s.drop a).takeWhile dg).length) || (decide (((s.drop a).takeWhile dg).head? = some 48) && decide (1<((s.drop a).takeWhile dg).length)) || (match (s.drop a).dropWhile dg with | []=>false | c::_=>ltr c)) <;> rfl
theorem zme (c:UInt8):∀ l:List UInt8,(idxN c l).isSome=decide (c∈l)
  | []=>by simp [idxN]
  | b :: l => by
    have ih:=zme c l
    unfold idxN
    by_cases h:b=c
    · simp [h]
    · have h' : ¬ c=b:=fun q=>h q.symm
      simp [h,h',ih]
theorem zpO (c:UInt8) (l:List UInt8):∃ r,idxH l (c.toNat:Int)=some r∧((0≤r∧c∈l)∨(r = -1∧c ∉ l)):=by
  have h:=zme c l
  unfold idxH idxP
  rw [show ((c.toNat:Int)).toNat.toUInt8=c by simp]
  cases hn:idxN c l with
  | none =>
    rw [hn] at h
    exact ⟨-1,rfl,.inr ⟨rfl,by simpa using h⟩⟩
  | some k =>
    rw [hn] at h
    exact ⟨k,rfl,.inl ⟨by omega,by simpa using h⟩⟩
theorem zoh (s:List UInt8) (hs:s.length≤1000000) (a:Nat) (ha:a≤s.length) (n:Nat) (hn:s.length+100<n) :
    ∃ r, iter (z2D ⟨s, ((a : Nat) : Int)⟩) n (([] : List UInt8), (a : Int)) = some r ∧
      ((∃ (out:List UInt8) (i:Nat),r = .go (out,(i:Int))∧i≤s.length∧(i=s.length∨∃ h:i<s.length,s[i]=34)∧txtP out (s.drop i)=txtP [] (s.drop a))∨(r = .stop (.pan 182)∧txtP [] (s.drop a) = .inl 182)):=by
  refine z71 (step:=z2D ⟨s,((a:Nat):Int)⟩) (fun x=>∃ (out:List UInt8) (i:Nat),x=(out,(i:Int))∧i≤s.length∧out.length≤i∧txtP out (s.drop i)=txtP [] (s.drop a)) (fun x=>s.length - x.2.toNat) _ ?_ n ([],(a:Int)) ⟨[],a,rfl,ha,by simp,rfl⟩ (by simp; omega)
  rintro x ⟨out,i,rfl,hi,ho,hk⟩
  unfold z2D
  simp only
  by_cases hlt:i<s.length
  · rw [yM (show (i:Int)<(s.length:Int) by omega),yK,z2v hlt,z1N]
    rw [show decide ((s[i].toNat:Int)≠34) = !decide (s[i]=34) by rw [← z61 s[i] 34 34 rfl]; simp]
    by_cases h34:s[i]=34
    · rw [yM h34,yU,yJ]
      exact .inr ⟨_,rfl,.inl ⟨out,i,rfl,hi,.inr ⟨hlt,h34⟩,hk⟩⟩
    · rw [yL h34,yT,yK,z2v hlt]
      have hc:=z4Q hlt
      rw [hc,z5s,if_neg h34] at hk
      by_cases h92:s[i]=92
      · rw [z61 s[i] 92 92 rfl,yM h92,yK]
        rw [if_pos h92] at hk
        rw [w64 (x:=(i:Int)+1) (by omega) (by omega),show (i:Int)+1=((i+1:Nat):Int) by omega]
        by_cases hl2:i+1<s.length
        · rw [yM (by omega),yK,z2v hl2]
          obtain ⟨r,e,h⟩:=zpO s[i+1] [34,92]
          rw [e]
          simp only [obind,yO,z1N]
          rw [z4Q hl2] at hk
          simp only at hk
          rcases h with ⟨h0,hm⟩ | ⟨rfl,hm⟩
          · rw [yM h0,yK,z2v hl2]
            have hm' : s[i+1]=34∨s[i+1]=92:=by simpa using hm
            rw [if_pos hm'] at hk
            simp only [z1N]
            have hr:32≤s[i+1].toNat∧s[i+1].toNat≤126:=by rcases hm' with h | h <;> rw [h] <;> decide
            rw [zcl,yL (show ¬ ((s[i+1].toNat:Nat):Int)<32 by omega),yL (show ¬ (126:Int)<((s[i+1].toNat:Nat):Int) by omega)]
            simp only [Bool.or_self,yN,yR,yO,pbind]
            rw [z1n (by omega),z1n (by simp; omega),w64 (by omega) (by omega)]
            refine .inl ⟨_,rfl,⟨out++[s[i+1]],i+2,?_,by omega,by simp; omega,hk⟩,by simp only; omega⟩
            simp
            omega
          · rw [yL (by omega),yJ]
            have hm' : ¬ (s[i+1]=34∨s[i+1]=92):=by simpa using hm
            rw [if_neg hm'] at hk
            simp only [z1N]
            rw [zcl,yM (show (0:Int)<32 by decide)]
            simp only [Bool.true_or,yS,yO,pbind]
            exact .inr ⟨_,rfl,.inr ⟨rfl,hk.symm⟩⟩
        · rw [yL (by omega),yJ]
          have:s.drop (i+1)=[]:=List.drop_eq_nil_of_le (by omega)
          rw [this] at hk
          simp only [z1N,yJ]
          rw [zcl,yM (show (0:Int)<32 by decide)]
          simp only [obind,Bool.true_or,yS,yO,pbind]
          exact .inr ⟨_,rfl,.inr ⟨rfl,hk.symm⟩⟩
      · rw [z61 s[i] 92 92 rfl,yL h92,yJ]
        rw [if_neg h92] at hk
        simp only [z1N]
        rw [zcl]
        by_cases hb:s[i].toNat<32∨126<s[i].toNat
        · rw [if_pos hb] at hk
          rw [show (decide (((s[i].toNat:Nat):Int)<32) || decide ((126:Int)<((s[i].toNat:Nat):Int)))=true by simp only [Bool.or_eq_true,decide_eq_true_eq]; omega]
          simp only [obind,yS,yO,pbind]
          exact .inr ⟨_,rfl,.inr ⟨rfl,hk.symm⟩⟩
        · rw [if_neg hb] at hk
          rw [show (decide (((s[i].toNat:Nat):Int)<32) || decide ((126:Int)<((s[i].toNat:Nat):Int)))=false by rw [Bool.eq_false_iff]; intro h; simp only [Bool.or_eq_true,decide_eq_true_eq] at h; omega]
          simp only [obind,yN,yR,yO,pbind]
          rw [z1n (by omega),z1n (by simp; omega),w64 (by omega) (by omega)]
          refine .inl ⟨_,rfl,⟨out++[s[i]],i+1,?_,by omega,by simp; omega,hk⟩,by simp only; omega⟩
          simp
  · rw [yL (by omega),yJ,z1N,yJ]
    exact .inr ⟨_,rfl,.inl ⟨out,i,rfl,hi,.inl (by omega),hk⟩⟩
theorem zsG (s:List UInt8) (hs:s.length≤1000000) (a:Nat) (ha:a<s.length) (n:Nat) (hn:s.length+100<n) :
  z3u n ⟨s,a⟩=some (resP s (txtP [] (s.drop (a+1)))):=by
 unfold z3u
 simp only
 rw [w64 (by omega) (by omega),show (a:Int)+1=((a+1:Nat):Int) by omega]
 have hstep:z2D ⟨s,((a:Nat):Int)⟩=z2D ⟨s,((a+1:Nat):Int)⟩:=rfl
 obtain ⟨r,e,h⟩:=zoh s hs (a+1) (by omega) n hn
 rw [hstep,e]
 rcases h with ⟨out,i,rfl,hi,hend,hk⟩ | ⟨rfl,hk⟩
 ·rw [z1N,← hk]
  simp only
  rcases hend with rfl | ⟨h,h34⟩
  ·rw [yM (by omega),Bool.true_or,zcl,List.drop_length,zaO]
   rfl
  ·rw [yL (by omega),Bool.false_or,zcl,z4Q h,z5s,if_pos h34]
   by_cases h200:200<out.length
   ·rw [yM (by omega),if_pos h200]
    rfl
   ·rw [yL (by omega),if_neg h200]
    simp only [obind,yN,yR,yO,pbind,resP,List.length_drop]
    rw [w64 (by omega) (by omega)]
    congr 4
    omega
 ·rw [zec,hk]
  rfl
theorem zqn:zht [61,61,32,33,61,32,60,61,32,62,61,32,46,46]=some longs:=by
 unfold zht
 rw [z1n (by decide +kernel)]
 simp only [Option.some.injEq]
 decide +kernel
theorem zsl (s:List UInt8) (hs:s.length≤1000000) (a:Nat) (ha:a<s.length) (n:Nat) (hn:s.length+100<n) :
  z3t n ⟨s,a⟩=some (resP s (sgnP (s.drop a))):=by
 unfold z3t
 simp only
 rw [w64 (x:=(a:Int)+2) (by omega) (by omega)]
 have hmin:(min ((a:Int)+2) (s.length:Int)).toNat=min (a+2) s.length:=by omega
 rw [z1n (by omega),hmin,yY]
 have htwo:(s.take (min (a+2) s.length)).drop a=(s.drop a).take 2:=by
  rw [List.drop_take]
  apply List.ext_getElem
  ·simp; omega
  ·intro i h1 h2; simp
 rw [htwo]
 have hlong:longs.length<n:=by have:longs.length=5:=rfl; omega
 have h1:∀ k:Nat,a+k≤s.length→(s.take (a+k)).drop a=(s.drop a).take k:=fun k _=>by rw [List.drop_take,Nat.add_sub_cancel_left]
 have hc:=z4Q ha
 by_cases h2:a+1<s.length
 ·have hc2:=z4Q h2
  have ht:(s.drop a).take 2=[s[a],s[a+1]]:=by rw [hc,hc2]; rfl
  have ht1:(s.drop a).take 1=[s[a]]:=by rw [hc]; rfl
  rw [ht,show decide ((([s[a],s[a+1]]:List UInt8).length:Int)=2)=true from rfl,yK,zqn]
  simp only [obind,yO]
  rw [zhp longs (by decide) _ n hlong,hc,hc2,zbw]
  rw [hc] at ht ht1 h1
  rw [hc2] at ht h1
  simp only [yO,z1N]
  by_cases hm:[s[a],s[a+1]]∈longs
  ·rw [yM hm,yK,z1N,if_pos hm,w64 (by omega) (by omega),show (a:Int)+2=((a+2:Nat):Int) by omega,z1n (by omega),show decide ((2:Int)=1)=false from rfl,yJ,z1N,zcl,yY,h1 2 (by omega),ht]
   simp only [yN,yR,yO,pbind,resP,List.length_drop]
   congr 4
   omega
  ·rw [yL hm,yJ,z1N,if_neg hm,w64 (by omega) (by omega),show (a:Int)+1=((a+1:Nat):Int) by omega,z1n (by omega),show decide ((1:Int)=1)=true from rfl,yK,yY,h1 1 (by omega),show (s[a]::s[a+1]::s.drop (a+1+1)).take 1=[s[a]] from rfl]
   rw [show (0:Int)=((0:Nat):Int) from rfl,z2v (by simp)]
   obtain ⟨r,e,h⟩:=zpO s[a] shorts
   unfold shorts at e h
   simp only [List.getElem_cons_zero]
   rw [e]
   simp only [yO,z1N]
   rw [zcl]
   rcases h with ⟨h0,hm'⟩ | ⟨rfl,hm'⟩
   ·rw [yL (by omega),if_pos (show s[a]∈shorts from hm')]
    simp only [yN,yR,yO,pbind,resP,yC,List.length_drop]
    congr 4
    omega
   ·rw [yM (by omega),if_neg (show s[a] ∉ shorts from hm')]
    rfl
 ·have hn2:s.drop (a+1)=[]:=List.drop_eq_nil_of_le (by omega)
  have ht:(s.drop a).take 2=[s[a]]:=by rw [hc,hn2]; rfl
  have ht1:(s.drop a).take 1=[s[a]]:=by rw [hc,hn2]; rfl
  rw [ht,show decide ((([s[a]]:List UInt8).length:Int)=2)=false from rfl,show sgnP (s.drop a)=sgnP [s[a]] by rw [hc,hn2],yJ,z1N,yJ,z1N,zdP,w64 (by omega) (by omega),show (a:Int)+1=((a+1:Nat):Int) by omega,z1n (by omega),show decide ((1:Int)=1)=true from rfl,yK,yY,h1 1 (by omega),ht1]
  rw [show (0:Int)=((0:Nat):Int) from rfl,z2v (by simp)]
  obtain ⟨r,e,h⟩:=zpO s[a] shorts
  unfold shorts at e h
  simp only [List.getElem_cons_zero]
  rw [e]
  simp only [obind,yO,z1N]
  rw [zcl]
  rcases h with ⟨h0,hm'⟩ | ⟨rfl,hm'⟩
  ·rw [yL (by omega),if_pos (show s[a]∈shorts from hm')]
   simp only [yN,yR,yO,pbind,resP,yF]
   congr 4
   omega
  ·rw [yM (by omega),if_neg (show s[a] ∉ shorts from hm')]
   rfl
def mkT (N:Nat) (x:Int×Nat×List UInt8):z6:=⟨x.1,((N - x.2.1:Nat):Int),x.2.2⟩
def tokR (s:List UInt8):List z6×z11:=match (toksP kwP (s.length+1) s).2 with
 | some (k,e)=>([],⟨((s.length - k:Nat):Int),e⟩)
 | none=>((toksP kwP (s.length+1) s).1.map (mkT s.length),⟨0,0⟩)
theorem zqD (s:List UInt8) (hs:s.length≤1000000) (a:Nat) (ha:a<s.length) (n:Nat) (hn:s.length+100<n) (l:List z6) (hl:l.length≤1000000) {R:Type} (k:List z6×List UInt8×Int→Option (Lp ((List z6)×(List UInt8)×Int×Int) (Lp (List z6) (List z6×z11)))) :
    bindJ (S:=(List z6)×(List UInt8)×Int)
    (idx s (a:Int) fun c38=>
    obind (z82 (c38.toNat:Int)) fun r39=>
    cond r39
     (obind (z3s n (zV.mk s (a:Int))) fun r42=>
     pbind r42 (fun e45=>
      some (.stop (.stop (.stop (([]:List z6),(z11.mk (a:Int) e45)))))) fun q44=>
     need (l.length+([(z6.mk q44.1.Kind (a:Int) q44.1.S)]:List z6).length≤4294967296) (
     some (.go ((l++([(z6.mk q44.1.Kind (a:Int) q44.1.S)]:List z6)),q44.2.s_,q44.2.at_))))
     (idx s (a:Int) fun c54=>
     obind (z6s (c54.toNat:Int)) fun r55=>
     cond r55
      (obind (z36 n (zV.mk s (a:Int))) fun r58=>
      pbind r58 (fun e61=>
       some (.stop (.stop (.stop (([]:List z6),(z11.mk (a:Int) e61)))))) fun q60=>
      need (l.length+([(z6.mk q60.1.Kind (a:Int) q60.1.S)]:List z6).length≤4294967296) (
      some (.go ((l++([(z6.mk q60.1.Kind (a:Int) q60.1.S)]:List z6)),q60.2.s_,q60.2.at_))))
      (idx s (a:Int) fun c70=>
      obind (z8o (c70.toNat:Int)) fun r71=>
      cond r71
       (obind (z3u n (zV.mk s (a:Int))) fun r74=>
       pbind r74 (fun e77=>
        some (.stop (.stop (.stop (([]:List z6),(z11.mk (a:Int) e77)))))) fun q76=>
       need (l.length+([(z6.mk q76.1.Kind (a:Int) q76.1.S)]:List z6).length≤4294967296) (
       some (.go ((l++([(z6.mk q76.1.Kind (a:Int) q76.1.S)]:List z6)),q76.2.s_,q76.2.at_))))
       (idx s (a:Int) fun c86=>
       obind (z8p (c86.toNat:Int)) fun r87=>
       cond r87
        (obind (z3t n (zV.mk s (a:Int))) fun r90=>
        pbind r90 (fun e93=>
         some (.stop (.stop (.stop (([]:List z6),(z11.mk (a:Int) e93)))))) fun q92=>
        need (l.length+([(z6.mk q92.1.Kind (a:Int) q92.1.S)]:List z6).length≤4294967296) (
        some (.go ((l++([(z6.mk q92.1.Kind (a:Int) q92.1.S)]:List z6)),q92.2.s_,q92.2.at_))))
        (some (.go (l,s,(a:Int)))))))) k
    = match nextP kwP (s.drop a) with
      | .inl e=>some (.stop (.stop ([],⟨(a:Int),e⟩)))
      | .inr (kd,w,r)=>k (l++[⟨kd,(a:Int),w⟩],s,((s.length - r.length:Nat):Int)):=by
  have hneed:∀ x:z6,l.length+([x]:List z6).length≤4294967296:=fun x=>by simp; omega
  have hfin:∀ q:Sum Int (Int×List UInt8×List UInt8),bindJ (S:=(List z6)×(List UInt8)×Int) (obind (some (resP s q)) fun r42=>
     pbind r42 (fun e45=>
      some (.stop (.stop (.stop (([]:List z6),(z11.mk (a:Int) e45)))))) fun q44=>
     need (l.length+([(z6.mk q44.1.Kind (a:Int) q44.1.S)]:List z6).length≤4294967296) (
     some (.go ((l++([(z6.mk q44.1.Kind (a:Int) q44.1.S)]:List z6)),q44.2.s_,q44.2.at_)))) k
      = match q with
      | .inl e=>some (.stop (.stop ([],⟨(a:Int),e⟩)))
      | .inr (kd,w,r)=>k (l++[⟨kd,(a:Int),w⟩],s,((s.length - r.length:Nat):Int)):=by
    intro q
    cases q with
    | inl e=>rfl
    | inr q =>
      obtain ⟨kd,w,r⟩:=q
      simp only [resP,obind,yO,pbind]
      rw [z1n (hneed _),z1N]
  have hc:=z4Q ha
  rw [z2v ha,zka]
  have hne:=z6k kwP s[a] (s.drop (a+1))
  rw [← hc] at hne
  rw [hne]
  cases h1:sm s[a] with
  | true =>
    simp only [obind,yO,yK,yS]
    rw [zrS s hs a (by omega) n hn]
    exact hfin _
  | false =>
    simp only [obind,yO,yJ,yN,yR]
    rw [z2v ha,zhX]
    cases h2:dg s[a] with
    | true =>
      simp only [yO,yK,yS]
      rw [zo4 s hs a ha h2 n hn]
      exact hfin _
    | false =>
      simp only [yO,yJ,yN,yR]
      rw [z2v ha]
      unfold z8o
      rw [z61 s[a] 34 34 rfl]
      by_cases h3:s[a]=34
      · simp only [h3,yQ,yO,yK,yS]
        rw [zsG s hs a ha n hn]
        exact hfin _
      · simp only [h3,yP,yO,yJ,yR]
        rw [z2v ha]
        unfold z8p
        simp only [yO,yK]
        rw [zsl s hs a ha n hn]
        exact hfin _
theorem zlA (s:List UInt8) (hs:s.length≤1000000) (n:Nat) (hn:s.length+100<n) :
    ∃ r, iter (z9b n s) n (([] : List z6), s, ((s.length - (skipP false s).length : Nat) : Int), 0) = some r ∧
      ((r = .go ((toksP kwP (s.length+1) s).1.map (mkT s.length))∧(toksP kwP (s.length+1) s).2=none)∨∃ k e,r = .stop ([],⟨((s.length - k:Nat):Int),e⟩)∧(toksP kwP (s.length+1) s).2=some (k,e)):=by
  refine z71 (step:=z9b n s) (fun x=>∃ (d:List (Int×Nat×List UInt8)) (i:Nat) (z:Int),x=(d.map (mkT s.length),s,(i:Int),z)∧i≤s.length∧d.length≤i∧skipP false (s.drop i)=s.drop i∧
      (toksP kwP (s.length+1) s).1=d++(toksP kwP (s.length+1) (s.drop i)).1∧(toksP kwP (s.length+1) s).2=(toksP kwP (s.length+1) (s.drop i)).2) (fun x=>s.length - x.2.2.1.toNat) _ ?_ n _ ?_ (by simp; omega)
  · rintro x ⟨d,i,z,rfl,hi,hd,hk,e1,e2⟩
    unfold z9b
    simp only
    by_cases hlt:i<s.length
    · rw [yM (show (i:Int)<(s.length:Int) by omega),yK,zqD (R:=Unit) s hs i hlt n hn (d.map (mkT s.length)) (by simp; omega)]
      have hc:=z4Q hlt
      rw [hc] at hk
      cases hq:nextP kwP (s.drop i) with
      | inl e =>
        rw [hc] at hq
        rw [hc,z8H hk hq] at e2
        refine .inr ⟨_,rfl,.inr ⟨_,e,?_,e2⟩⟩
        simp only [List.length_drop,Lp.stop.injEq,Prod.mk.injEq,z11.mk.injEq,true_and,and_true]
        omega
      | inr q =>
        obtain ⟨kd,w,r⟩:=q
        simp only
        have hlen:=zfg hq
        have hsuf:=(zmE hq).trans (List.drop_suffix i s)
        rw [hc] at hq
        rw [hc,z7O hk hq] at e1 e2
        have hrl:r.length≤s.length:=hsuf.length_le
        rw [zna s hs _ (by omega) n (by omega),z8G hsuf]
        simp only [obind,yO]
        have hsk:=zdq false r
        have hsl:=hsk.length_le
        rw [List.length_drop] at hlen
        refine .inl ⟨_,rfl,⟨d++[(kd,s.length - i,w)],s.length - (skipP false r).length,(i:Int),?_,by omega,by simp; omega,?_,?_,?_⟩,by simp only; omega⟩
        · simp only [List.map_append,yI,List.map_nil,Prod.mk.injEq,and_true]
          congr 2
          unfold mkT
          simp only [z6.mk.injEq,true_and,and_true]
          omega
        · rw [z8G (hsk.trans hsuf),zeY]
        · rw [z8G (hsk.trans hsuf),z7G,e1]
          simp only [List.length_drop,yA,yE,yD]
          rw [zaN kwP s.length (s.length+1) r (by omega) (by omega),show s.length - (i+1)+1=s.length - i by omega]
        · rw [z8G (hsk.trans hsuf),z7G,e2]
          simp only
          rw [zaN kwP s.length (s.length+1) r (by omega) (by omega)]
    · rw [yL (by omega),yJ]
      have:s.drop i=[]:=List.drop_eq_nil_of_le (by omega)
      rw [this,z6g (kw:=kwP) (s:=[]) rfl] at e1 e2
      refine .inr ⟨_,rfl,.inl ⟨?_,e2⟩⟩
      rw [e1,List.append_nil]
  · have hsk:=zdq false s
    refine ⟨[],s.length - (skipP false s).length,0,rfl,by omega,by simp,?_,?_,?_⟩
    · rw [z8G hsk,zeY]
    · rw [z8G hsk,z7G]; rfl
    · rw [z8G hsk,z7G]
theorem zf4 (s:List UInt8) (hs:s.length≤65536) (n:Nat) (hn:s.length+100<n):z4J n s=some (tokR s):=by
 unfold z4J
 rw [yL (by omega),yJ]
 unfold zff
 simp only [obind,yO]
 have h0:=zna s (by omega) 0 (by omega) n (by omega)
 rw [List.drop_zero] at h0
 have h0' : z2M n ⟨s,0⟩=_:=h0
 rw [h0']
 simp only [yO]
 obtain ⟨r,e,h⟩:=zlA s (by omega) n hn
 rw [e]
 unfold tokR
 rcases h with ⟨rfl,h2⟩ | ⟨k,e,rfl,h2⟩
 ·rw [h2]; rfl
 ·rw [h2]; rfl
theorem zhM (s:List UInt8) (hs:65536<s.length) (n:Nat):z4J n s=some ([],⟨0,2⟩):=by
 unfold z4J
 rw [yM (by omega)]
 rfl
open Go.Ps
abbrev Lx:=z6
abbrev Rd':=z7
def tk (t:Lx):Tk:=(t.Kind,t.S)
def tks (l:List Lx) (j:Nat):List Tk:=(l.drop j).map tk
def gA (l:List Lx) (a:Int):Int:=if a<0 then 0 else match l[a.toNat]? with | some t=>t.At | none=>0
def eA (l:List Lx) (fin:Int) (j:Nat):Int:=match l[j]? with | some t=>t.At | none=>fin
theorem ziE (l:List Lx) (j:Nat):(tks l j).head? = (l[j]?).map tk:=by
 unfold tks
 rw [List.head?_map,List.head?_drop]
theorem ze8 {l:List Lx} {j:Nat} {t:Lx} (h:l[j]? = some t):tks l j=tk t::tks l (j+1):=by
 obtain ⟨hlt,e⟩:=List.getElem?_eq_some_iff.1 h
 unfold tks
 rw [List.drop_eq_getElem_cons hlt,e]; rfl
theorem zdR {l:List Lx} {j:Nat} (h:l.length≤j):tks l j=[]:=by
 unfold tks
 rw [List.drop_eq_nil_of_le h]; rfl
theorem zqB (l:List Lx) (j c:Nat):(tks l j).drop c=tks l (j+c):=by
 unfold tks
 rw [← List.map_drop,List.drop_drop]
def nx (l:List Lx) (j:Nat):Lx:=match l[j]? with | some t=>t | none=>⟨0,0,[]⟩
section
variable {α β γ δ : Type} {l : List Lx} {fin : Int}
theorem z7l (j:Nat):z1a ⟨l,(j:Int),fin⟩=some (nx l j):=by
 unfold z1a nx
 by_cases h:j<l.length
 ·have e:=List.getElem?_eq_getElem h
  simp only [yW,h,yQ,yK,e,z4e e]
 ·have e:l[j]? = none:=List.getElem?_eq_none (Nat.not_lt.1 h)
  simp only [yW,h,yP,yJ,e]
theorem zgv (j:Nat):(nx l j).Kind=kindO (tks l j).head?:=by
 rw [ziE]; unfold nx
 cases l[j]? <;> rfl
theorem zgw (j:Nat):(nx l j).S=textO (tks l j).head?:=by
 rw [ziE]; unfold nx
 cases l[j]? <;> rfl
theorem gA_no:gA l (-1)=0:=rfl
theorem nx_at (j:Nat):(nx l j).At=gA l (j:Int):=by
 unfold nx gA
 rw [if_neg (show ¬((j:Int)<0) by omega)]
 simp only [yY]
 cases l[j]? <;> rfl
theorem zdc {j:Nat} (h:j≤1000000):IntKind.i64.wrap ((j:Int)+1)=((j+1:Nat):Int):=by
 rw [w64 (by omega) (by omega)]; omega
theorem zpQ {k:Int} {s:List UInt8} (hk:k≠0) (j:Nat):(decide ((nx l j).Kind=k) && decide ((nx l j).S=s))=isK k s (tks l j).head?:=by
 rw [zgv,zgw]
 cases (tks l j).head? with
 | none=>simp [isK,kindO,textO,Ne.symm hk]
 | some t=>rfl
theorem z65 {k:Int} {s:List UInt8} (hk:k≠0) (hl:l.length≤1000000) {j:Nat} (hj:j≤l.length) :
  z10 ⟨l,(j:Int),fin⟩ k s=some (isK k s (tks l j).head?,⟨l,(if isK k s (tks l j).head? then ((j+1:Nat):Int) else (j:Int)),fin⟩):=by
 unfold z10 z3v
 simp only [z7l,obind,yO,zpQ hk,zdc (Nat.le_trans hj hl)]
 cases isK k s (tks l j).head? <;> rfl
theorem zc2 {j:Nat}:z16 ⟨l,(j:Int),fin⟩=some (.pan (eA l fin j)):=by
 unfold z16 eA
 by_cases h:j<l.length
 ·have e:=List.getElem?_eq_getElem h
  simp only [yW,h,yQ,yK,e,z4e e]; rfl
 ·have e:l[j]? = none:=List.getElem?_eq_none (Nat.not_lt.1 h)
  simp only [yW,h,yP,yJ,e]; rfl
theorem z4I {k:Int} {s:List UInt8} {j:Nat} (h:isK k s (tks l j).head? = true):j<l.length:=by
 rcases Nat.lt_or_ge j l.length with h1 | h1
 ·exact h1
 ·rw [zdR h1] at h; cases h
theorem z4V {k:Int} (hk:k≠0) {j:Nat} (h:kindO (tks l j).head? = k):j<l.length:=by
 rcases Nat.lt_or_ge j l.length with h1 | h1
 ·exact h1
 ·rw [zdR h1] at h; exact absurd h.symm hk
theorem ziF {j:Nat} (h:j<l.length):∃ t,tks l j=t::tks l (j+1):=⟨_,ze8 (List.getElem?_eq_getElem h)⟩
def conv (l:List Lx) (fin:Int) (m:α→β):Out α→Pn (β×Rd')
 | .ok a j _=>.ret (m a,⟨l,(j:Int),fin⟩)
 | .bad j _=>.pan (eA l fin j)
def run' (l:List Lx) (p:Ps α) (j:Nat):Out α:=p.run j (tks l j)
theorem z1f (p:Ps α) {j:Nat} (h:j<l.length):run' l (.skip p) j=run' l p (j+1):=by
 unfold run'
 obtain ⟨t,e⟩:=ziF h
 rw [e]; rfl
theorem z1w (f:Option Tk→Nat→Ps α) (j:Nat):run' l (.look f) j=run' l (f (tks l j).head? j) j:=rfl
theorem z2w (a:α) (j:Nat):run' l (.ret a) j = .ok a j (tks l j):=rfl
theorem zft (j:Nat):run' l (.bad:Ps α) j = .bad j (tks l j):=rfl
theorem z2q (p:Ps α) {j:Nat} (hj:j≤l.length):match run' l p j with
  | .ok _ i r=>j≤i∧i≤l.length∧r=tks l i
  | .bad i r=>j≤i∧i≤l.length∧r=tks l i:=by
 have h:=zbV p j (tks l j)
 have key:∀ (c r:List Tk),tks l j=c++r→j+c.length≤l.length∧r=tks l (j+c.length):=by
  intro c r e
  have h1:=congrArg List.length e
  have h2:(tks l j).length=l.length - j:=by simp [tks]
  rw [h2,yB] at h1
  refine ⟨by omega,?_⟩
  have:=zqB l j c.length
  rw [e,List.drop_left] at this
  exact this
 unfold run'
 revert h
 cases p.run j (tks l j) with
 | ok a i r=>rintro ⟨c,e,rfl⟩; exact ⟨by omega,(key c r e).1,(key c r e).2⟩
 | bad i r=>rintro ⟨c,e,rfl⟩; exact ⟨by omega,(key c r e).1,(key c r e).2⟩
theorem z1A (p:Ps α) (k:α→Ps β) {j:Nat} (hj:j≤l.length):run' l (p.bind k) j=match run' l p j with
  | .ok a i _=>run' l (k a) i
  | .bad i r=>.bad i r:=by
 have h:=z2q p hj
 unfold run' at h ⊢
 rw [run_bind]
 revert h
 cases p.run j (tks l j) with
 | ok a i r=>rintro ⟨_,_,rfl⟩; rfl
 | bad i r=>intro _; rfl
def Ag (l:List Lx) (fin:Int) (k:Nat) (m:α→β) (F:Rd'→Option (Pn (β×Rd'))) (p:Ps α):Prop:=∀ j:Nat,k≤j→j≤l.length→F ⟨l,(j:Int),fin⟩=some (conv l fin m (run' l p j))
theorem Ag.mono {k k' : Nat} {m:α→β} {F:Rd'→Option (Pn (β×Rd'))} {p:Ps α} (h:Ag l fin k m F p) (hk:k≤k'):Ag l fin k' m F p:=fun j h1 h2=>h j (Nat.le_trans hk h1) h2
theorem z4r {k j:Nat} {m:α→β} {m' : γ→δ} {F:Rd'→Option (Pn (β×Rd'))} {p:Ps α} {q:α→Ps γ} {K:β×Rd'→Option (Pn (δ×Rd'))} (hF:Ag l fin k m F p) (hk:k≤j) (hj:j≤l.length)
  (hK:∀ (a:α) (i:Nat),j≤i→i≤l.length→K (m a,⟨l,(i:Int),fin⟩)=some (conv l fin m' (run' l (q a) i))) :
  (obind (F ⟨l,(j:Int),fin⟩) fun r2=>pbind r2 (fun e5=>some (.pan e5)) K)=some (conv l fin m' (run' l (p.bind q) j)):=by
 rw [z1A p q hj,hF j hk hj]
 have h:=z2q p hj
 revert h
 cases run' l p j with
 | ok a i r=>rintro ⟨h1,h2,_⟩; exact hK a i h1 h2
 | bad i r=>intro _; rfl
theorem zoT {k:Int} {s:List UInt8} (hk:k≠0) (hl:l.length≤1000000) {j:Nat} (hj:j≤l.length) :
  z19 ⟨l,(j:Int),fin⟩ k s=some (if isK k s (tks l j).head? then .ret ⟨l,((j+1:Nat):Int),fin⟩ else .pan (eA l fin j)):=by
 unfold z19
 rw [z65 hk hl hj]
 cases h:isK k s (tks l j).head? with
 | true=>simp [obind]
 | false=>simp [obind,zc2,pbind]
theorem zdB {j:Nat} {k:Int} {s:List UInt8} {m' : γ→δ} {q:Ps γ} {K:Rd'→Option (Pn (δ×Rd'))} (hk:k≠0) (hl:l.length≤1000000) (hj:j≤l.length)
    (hK:j<l.length→K ⟨l,((j+1:Nat):Int),fin⟩=some (conv l fin m' (run' l q (j+1)))) :
    (obind (z19 ⟨l,(j:Int),fin⟩ k s) fun r2=>pbind r2 (fun e5=>some (.pan e5)) K)=some (conv l fin m' (run' l ((needP k s).bind fun _=>q) j)):=by
  rw [zoT hk hl hj,z1A _ _ hj]
  unfold needP
  rw [z1w]
  cases h:isK k s (tks l j).head? with
  | true =>
    have hlt:=z4I h
    simp only [yS,z1f _ hlt,z2w]
    exact hK hlt
  | false=>rfl
theorem zda {k:Int} (hk:k≠0) (hl:l.length≤1000000):Ag l fin 0 (fun s:List UInt8=>s) (fun r=>z1l r k) (takeP k):=by
 intro j _ hj
 show z1l ⟨l,(j:Int),fin⟩ k=_
 unfold z1l takeP
 rw [z7l,z1w]
 simp only [obind,yO,zgv,zgw,zdc (Nat.le_trans hj hl),zc2]
 by_cases h:kindO (tks l j).head? = k
 ·have hlt:=z4V hk h
  simp [h,z1f _ hlt,z2w,conv,bindJ]
 ·simp [h,zft,conv,bindJ,pbind]
end
section
variable {l : List Lx} {fin : Int}
def WT (l:List Lx):Prop:=∀ t∈l,(t.Kind=2→t.S∈kwP)∧(t.Kind=5→t.S≠[97,110,100]∧t.S≠[111,114])
def sgnV (s:List UInt8):Int:=if s=[43] then 10 else if s=[45] then 11 else if s=[42] then 12 else if s=[47] then 13 else if s=[37] then 14 else if s=[60] then 15 else if s=[62] then 16 else if s=[60,61] then 17 else if s=[62,61] then 18 else if s=[61,61] then 19 else if s=[33,61] then 20 else if s=[97,110,100] then 21 else if s=[111,114] then 22 else 0
theorem zoe (s:List UInt8):∃ m,z92=some m∧(mget m s).getD 0=sgnV s:=by
 refine ⟨[([43],10),([45],11),([42],12),([47],13),([37],14),([60],15),([62],16),([60,61],17),([62,61],18),([61,61],19),([33,61],20),([97,110,100],21),([111,114],22)],rfl,?_⟩
 simp only [mget,sgnV,eq_comm (a:=s),apply_ite (fun o:Option Int=>o.getD 0),Option.getD_some,Option.getD_none]
theorem zrE:∀ s∈kwP,sgnV s=0∨(s=[97,110,100]∧sgnV s=21)∨(s=[111,114]∧sgnV s=22):=by decide
def opv (t:Lx) (a b:Int):Int:=if t.Kind≠5∧t.Kind≠2 then 0 else if a≤sgnV t.S∧sgnV t.S≤b then sgnV t.S else 0
theorem zdg (j:Nat) (a b:Int):z2J ⟨l,(j:Int),fin⟩ a b=some (opv (nx l j) a b):=by
 unfold z2J opv
 obtain ⟨m,hm,hv⟩:=zoe (nx l j).S
 simp only [z7l,obind,yO,hm,hv]
 by_cases h5:(nx l j).Kind=5
 ·by_cases ha:a≤sgnV (nx l j).S <;> by_cases hb:sgnV (nx l j).S≤b <;> simp [h5,ha,hb]
 ·by_cases h2:(nx l j).Kind=2
  ·by_cases ha:a≤sgnV (nx l j).S <;> by_cases hb:sgnV (nx l j).S≤b <;> simp [h2,ha,hb]
  ·simp [h5,h2]
theorem nx_wt (h:WT l) (j:Nat):((nx l j).Kind=2→(nx l j).S∈kwP)∧((nx l j).Kind=5→(nx l j).S≠[97,110,100]∧(nx l j).S≠[111,114]):=by
 unfold nx
 cases e:l[j]? with
 | none=>simp
 | some t=>exact h t (List.mem_of_getElem? e)
structure OpIs (l:List Lx) (a b:Int) (op:Option Tk→Int):Prop where
 eq:∀ j,opv (nx l j) a b=op (tks l j).head?
 lt:∀ j,op (tks l j).head?≠0→j<l.length
theorem zmi {k:Int} {s:List UInt8} (hk:k≠0) (j:Nat):isK k s (tks l j).head? = (decide ((nx l j).Kind=k) && decide ((nx l j).S=s)):=(zpQ hk j).symm
theorem opis (h:WT l) {a b:Int} {op:Option Tk→Int} (f:Lx→Int) (h0:∀ j,op (tks l j).head? = f (nx l j)) (hz:f ⟨0,0,[]⟩=0) (hf:∀ t:Lx,(t.Kind=2→t.S∈kwP)→(t.Kind=5→t.S≠[97,110,100]∧t.S≠[111,114])→opv t a b=f t):OpIs l a b op:=
 ⟨fun j=>by rw [h0,hf _ (nx_wt h j).1 (nx_wt h j).2],fun j hj=>by
  rcases Nat.lt_or_ge j l.length with h1 | h1
  ·exact h1
  ·rw [h0] at hj
   have:nx l j=⟨0,0,[]⟩:=by unfold nx; rw [List.getElem?_eq_none h1]
   rw [this] at hj
   exact absurd hz hj⟩
def sgnL:List (List UInt8):=[[43],[45],[42],[47],[37],[60],[62],[60,61],[62,61],[61,61],[33,61],[97,110,100],[111,114]]
theorem zdo (s:List UInt8) (P:List UInt8→Prop) (h:∀ x∈sgnL,P x) (h0:(∀ x∈sgnL,s≠x)→P s):P s:=by
 by_cases e:s∈sgnL
 ·exact h s e
 ·exact h0 fun x hx hs=>e (hs ▸ hx)
theorem ziy {s:List UInt8} (h:∀ x∈sgnL,s≠x):sgnV s=0:=by
 simp only [sgnL,y1,y0,or_false,forall_eq_or_imp,forall_eq] at h
 simp [sgnV,h]
theorem op5 {t:Lx} (h:t.Kind=5) (a b:Int):opv t a b=if a≤sgnV t.S∧sgnV t.S≤b then sgnV t.S else 0:=by simp [opv,h]
theorem op2 {t:Lx} (h:t.Kind=2) (a b:Int):opv t a b=if a≤sgnV t.S∧sgnV t.S≤b then sgnV t.S else 0:=by simp [opv,h]
theorem op0 {t:Lx} (h:t.Kind≠5) (h' : t.Kind≠2) (a b:Int):opv t a b=0:=by simp [opv,h,h']
def mulS (s:List UInt8):Int:=if s=[42] then 12 else if s=[47] then 13 else if s=[37] then 14 else 0
def sumS (s:List UInt8):Int:=if s=[43] then 10 else if s=[45] then 11 else 0
def ordS (s:List UInt8):Int:=if s=[60] then 15 else if s=[62] then 16 else if s=[60,61] then 17 else if s=[62,61] then 18 else if s=[61,61] then 19 else if s=[33,61] then 20 else 0
theorem zrR (s:List UInt8):(if 12≤sgnV s∧sgnV s≤14 then sgnV s else 0)=mulS s:=zdo s (fun s=>(if 12≤sgnV s∧sgnV s≤14 then sgnV s else 0)=mulS s) (by decide) fun h=>by
 rw [ziy h]; simp only [sgnL,y1,y0,or_false,forall_eq_or_imp,forall_eq] at h; simp [mulS,h]
theorem zsy (s:List UInt8):(if 10≤sgnV s∧sgnV s≤11 then sgnV s else 0)=sumS s:=zdo s (fun s=>(if 10≤sgnV s∧sgnV s≤11 then sgnV s else 0)=sumS s) (by decide) fun h=>by
 rw [ziy h]; simp only [sgnL,y1,y0,or_false,forall_eq_or_imp,forall_eq] at h; simp [sumS,h]
theorem zs8 (s:List UInt8):(if 15≤sgnV s∧sgnV s≤20 then sgnV s else 0)=ordS s:=zdo s (fun s=>(if 15≤sgnV s∧sgnV s≤20 then sgnV s else 0)=ordS s) (by decide) fun h=>by
 rw [ziy h]; simp only [sgnL,y1,y0,or_false,forall_eq_or_imp,forall_eq] at h; simp [ordS,h]
theorem zqm (h:WT l) {a b:Int} {op:Option Tk→Int} (f:List UInt8→Int) (hs:∀ s,(if a≤sgnV s∧sgnV s≤b then sgnV s else 0)=f s) (hab:(b<21∨21<a)∧(b<22∨22<a)) (h0:∀ j,op (tks l j).head? = if (nx l j).Kind=5 then f (nx l j).S else 0):OpIs l a b op:=
 opis h (fun t=>if t.Kind=5 then f t.S else 0) h0 rfl (fun t h2 h5=>by
  by_cases k5:t.Kind=5
  ·rw [op5 k5,hs,if_pos k5]
  ·rw [if_neg k5]
   by_cases k2:t.Kind=2
   ·rw [op2 k2]
    rcases zrE _ (h2 k2) with e | ⟨_,e⟩ | ⟨_,e⟩ <;> rw [e]
    ·simp
    ·rw [if_neg (by omega)]
    ·rw [if_neg (by omega)]
   ·exact op0 k5 k2 a b)
theorem zu2 (h:WT l):OpIs l 12 14 mulO:=zqm h mulS zrR (by decide) fun j=>by
 simp only [mulO,sgn,zmi (show (5:Int)≠0 by decide),mulS]
 by_cases h5:(nx l j).Kind=5 <;> simp [h5]
theorem zun (h:WT l):OpIs l 10 11 sumO:=zqm h sumS zsy (by decide) fun j=>by
 simp only [sumO,sgn,zmi (show (5:Int)≠0 by decide),sumS]
 by_cases h5:(nx l j).Kind=5 <;> simp [h5]
theorem zs9 (h:WT l):OpIs l 15 20 ordO:=zqm h ordS zs8 (by decide) fun j=>by
 simp only [ordO,sgn,zmi (show (5:Int)≠0 by decide),ordS]
 by_cases h5:(nx l j).Kind=5 <;> simp [h5]
theorem zt0 (h:WT l) (s:List UInt8) (v:Int) {op:Option Tk→Int} (hv:v≠0) (hs:(s=[97,110,100]∧v=21)∨(s=[111,114]∧v=22)) (h0:∀ j,op (tks l j).head? = if (nx l j).Kind=2∧(nx l j).S=s then v else 0):OpIs l v v op:=
 opis h (fun t=>if t.Kind=2∧t.S=s then v else 0) h0 (by simp) (fun t h2 h5=>by
  by_cases k5:t.Kind=5
  ·obtain ⟨n1,n2⟩:=h5 k5
   have key:sgnV t.S≤20:=zdo t.S (fun x=>x≠[97,110,100]→x≠[111,114]→sgnV x≤20) (by decide) (fun hn _ _=>by rw [ziy hn]; decide) n1 n2
   have e1:¬(v≤sgnV t.S∧sgnV t.S≤v):=by rcases hs with ⟨_,rfl⟩ | ⟨_,rfl⟩ <;> omega
   have e2:¬(t.Kind=2∧t.S=s):=by rw [k5]; simp
   rw [op5 k5,if_neg e1,if_neg e2]
  ·by_cases k2:t.Kind=2
   ·rw [op2 k2]
    have hk:=h2 k2
    generalize t.S=x at *
    simp only [k2,true_and]
    rcases zrE _ hk with e | ⟨e',e⟩ | ⟨e',e⟩
    ·rw [e,if_neg (by rcases hs with ⟨_,rfl⟩ | ⟨_,rfl⟩ <;> omega),if_neg]
     rintro rfl
     rcases hs with ⟨rfl,_⟩ | ⟨rfl,_⟩ <;> exact absurd e (by decide)
    ·subst e'; rcases hs with ⟨rfl,rfl⟩ | ⟨rfl,rfl⟩ <;> decide
    ·subst e'; rcases hs with ⟨rfl,rfl⟩ | ⟨rfl,rfl⟩ <;> decide
   ·rw [op0 k5 k2,if_neg (fun q=>k2 q.1)])
theorem ztx (h:WT l):OpIs l 21 21 andO:=zt0 h [97,110,100] 21 (by decide) (.inl ⟨rfl,rfl⟩) fun j=>by
 simp only [andO,wrd,zmi (show (2:Int)≠0 by decide)]; by_cases h2:(nx l j).Kind=2 <;> simp [h2]
theorem or_is (h:WT l):OpIs l 22 22 orO:=zt0 h [111,114] 22 (by decide) (.inr ⟨rfl,rfl⟩) fun j=>by
 simp only [orO,wrd,zmi (show (2:Int)≠0 by decide)]; by_cases h2:(nx l j).Kind=2 <;> simp [h2]
end
section
variable {l : List Lx} {fin : Int}
theorem zgx {β γ:Type} (o:Option (Pn (β×γ))):(obind o fun r2=>pbind r2 (fun e5=>some (.pan e5)) fun q4=>some (.ret (q4.1,q4.2)))=o:=by
 rcases o with _ | (r | e) <;> rfl
def leafV (s:List UInt8):Int:=if s=[116,114,117,101] then 4 else if s=[102,97,108,115,101] then 5 else if s=[115,116,97,116,117,115] then 7 else if s=[104,101,97,100,101,114] then 6 else 0
theorem zms (s:List UInt8):∃ m,z84=some m∧(mget m s).getD 0=leafV s:=by
 refine ⟨_,rfl,?_⟩
 show (mget [([116,114,117,101],4),([102,97,108,115,101],5),([115,116,97,116,117,115],7),([104,101,97,100,101,114],6)] s).getD 0=_
 simp only [mget,leafV,eq_comm (a:=s),apply_ite (fun o:Option Int=>o.getD 0),Option.getD_some,Option.getD_none]
theorem zh4 {k:Int} (s:List UInt8) {t:Option Tk} (hk:k≠0) (h:kindO t=k):isK k s t=decide (textO t=s):=by
 cases t with
 | none=>exact absurd h.symm hk
 | some t=>exact (congrArg (· && decide (t.2=s)) (yM (show t.1=k from h))).trans (Bool.true_and _)
theorem zi4 {k:Int} (s:List UInt8) {t:Option Tk} (h:kindO t≠k):isK k s t=false:=by
 cases t with
 | none=>rfl
 | some t=>simp only [kindO] at h; simp [isK,h]
theorem ob {α β:Type} (x:α) (f:α→Option β):obind (some x) f=f x:=rfl
theorem etaE (z:E):zi.mk z.Op z.At z.S z.Args=z:=by cases z; rfl
abbrev AgE (l:List Lx) (fin:Int) (k:Nat) (F:Rd'→Option (Pn (E×Rd'))) (p:Ps E):Prop:=Ag l fin k (atE (gA l)) F p
theorem zrg (hl:l.length≤1000000) {k:Nat} {rec:Rd'→Option (Pn (E×Rd'))} {ex:Ps E} (hr:AgE l fin (k+1) rec ex):AgE l fin k (z3Q rec) (atomP ex):=by
 intro j hk hj
 unfold z3Q atomP
 rw [z7l,z1w]
 obtain ⟨m,hm,hv⟩:=zms (textO (tks l j).head?)
 simp only [ob,hm,hv,zgv,zgw,nx_at,zdc (Nat.le_trans hj hl),z65 (k:=5) (by decide) hl hj]
 by_cases h3:kindO (tks l j).head? = 3
 ·simp [h3,z1f _ (z4V (by decide) h3),z2w,conv,bindJ,atE,atEs]
 by_cases h4:kindO (tks l j).head? = 4
 ·simp [h4,z1f _ (z4V (by decide) h4),z2w,conv,bindJ,atE,atEs]
 by_cases h1:kindO (tks l j).head? = 1
 ·simp [h1,z1f _ (z4V (by decide) h1),z2w,conv,bindJ,atE,atEs]
 by_cases h2:kindO (tks l j).head? = 2
 ·have hlt:=z4V (by decide) h2
  simp only [wrd,sgn,zh4 _ (by decide) h2,zi4 (k:=5) _ (by rw [h2]; decide),leafV]
  by_cases e1:textO (tks l j).head? = [116,114,117,101]
  ·simp [h2,e1,z1f _ hlt,z2w,conv,bindJ,atE,atEs]
  by_cases e2:textO (tks l j).head? = [102,97,108,115,101]
  ·simp [h2,e1,e2,z1f _ hlt,z2w,conv,bindJ,atE,atEs]
  by_cases e3:textO (tks l j).head? = [115,116,97,116,117,115]
  ·simp [h2,e1,e2,e3,z1f _ hlt,z2w,conv,bindJ,atE,atEs]
  by_cases e4:textO (tks l j).head? = [104,101,97,100,101,114]
  ·have ht:=zda (l:=l) (fin:=fin) (k:=4) (by decide) hl (j+1) (yX _) hlt
   have he:=z2q (l:=l) (takeP 4) hlt
   have w:IntKind.i64.wrap ((j:Int)+1)=((j+1:Nat):Int):=zdc (Nat.le_trans hj hl)
   simp [h2,e1,e2,e3,e4,z1f _ hlt,z1A _ _ hlt,bindJ,obind] at ht ⊢
   rw [ht]
   cases run' l (takeP 4) (j+1) with
   | ok a i r=>simp [conv,pbind,z2w,atE,atEs]
   | bad i r=>simp [conv,pbind]
  ·simp [h2,e1,e2,e3,e4,zft,conv,bindJ,zc2,ob,pbind]
 ·simp only [wrd,sgn,zi4 (k:=2) _ h2]
  rcases yG (isK 5 [40] (tks l j).head?) with h5 | h5
  rotate_left
  ·simp [h1,h2,h3,h4,h5,zft,conv,bindJ,zc2,ob,pbind]
  ·have hlt:=z4I h5
   simp only [h1,h2,h3,h4,h5,yS,yR,z1f _ hlt,bindJ,yP,yJ,yK,yN,Int.lt_irrefl,yQ]
   exact z4r hr (by omega) hlt fun a i h6 h7=>zdB (by decide) hl h7 fun _=>rfl
theorem zmz (hl:l.length≤1000000) {rec:Rd'→Option (Pn (E×Rd'))} {ex:Ps E}:∀ (n f k:Nat),AgE l fin (k+1) rec ex→l.length - k<n→l.length - k<f→AgE l fin k (z2Y n rec) (zgu ex f)
  | 0,_,_,_,h,_=>absurd h (yH _)
  | _+1,0,_,_,_,h=>absurd h (yH _)
  | n + 1, f + 1, k, hr, hn, hf => by
    intro j hk hj
    show z34 n rec (z2Y n rec) _=_
    unfold z34
    rw [zgx]
    unfold z48 zgu
    rw [z7l,z1w]
    simp only [ob,z65 (k:=5) (by decide) hl hj,nx_at]
    rcases yG (isK 5 [45] (tks l j).head?) with h5 | h5
    · have hlt:=z4I h5
      simp only [sgn,h5,yS,yU,yJ,z1f _ hlt]
      exact z4r (zmz hl n f (k+1) (hr.mono (by omega)) (by omega) (by omega)) (by omega) hlt fun a i h6 h7=>by simp [z2w,conv,atE,atEs]
    · simp only [sgn,h5,yR,yT,yK,yN]
      rw [zgx]
      exact zrg hl hr j hk hj
theorem ziR (hl:l.length≤1000000) {n0:Nat} {a b:Int} {op:Option Tk→Int} (ho:OpIs l a b op) {u:Rd'→Option (Pn (E×Rd'))} {one:Ps E} {k:Nat} (hu:AgE l fin k u one):∀ (n f j:Nat) (x:E),k≤j→j≤l.length→l.length - j<n→l.length - j<f→
    iter (zee n0 a b u) n (l,(j:Int),fin,(atE (gA l) x).Op,(atE (gA l) x).At,(atE (gA l) x).S,(atE (gA l) x).Args)=some (conv l fin (atE (gA l)) (run' l (zef op one f x) j))
  | 0,_,_,_,_,_,h,_=>absurd h (yH _)
  | _+1,0,_,_,_,_,_,h=>absurd h (yH _)
  | n + 1, f + 1, j, x, hk, hj, hn, hf => by
    unfold zef
    rw [z1w]
    by_cases h0:op (tks l j).head? = 0
    · rw [z1z (r:=.ret (atE (gA l) x,⟨l,(j:Int),fin⟩))]
      · rw [if_pos h0]; rfl
      · unfold zee
        simp only [zdg,z7l,ob,ho.eq,h0,yQ,yK,etaE]
    · have hlt:=ho.lt j h0
      rw [if_neg h0,z1f _ hlt,z1A _ _ hlt]
      have hu':=hu (j+1) (by omega) hlt
      have he:=z2q (l:=l) one hlt
      cases hr:run' l one (j+1) with
      | ok y i r =>
        rw [hr] at hu' he
        obtain ⟨h6,h7,_⟩:=he
        rw [z4f (s':=(l,(i:Int),fin,op (tks l j).head?,gA l (j:Int),[],[atE (gA l) x,atE (gA l) y]))]
        · have:=ziR hl (n0:=n0) ho hu n f i ⟨op (tks l j).head?,(j:Int),[],[x,y]⟩ (by omega) h7 (by omega) (by omega)
          simpa [atE,atEs] using this
        · unfold zee
          simp only [zdg,z7l,ob,ho.eq,h0,yP,yJ,zdc (Nat.le_trans hj hl),hu',conv,pbind,nx_at,etaE]
      | bad i r =>
        rw [hr] at hu'
        rw [z1z (r:=.pan (eA l fin i))]
        · rfl
        · unfold zee
          simp only [zdg,z7l,ob,ho.eq,h0,yP,yJ,zdc (Nat.le_trans hj hl),hu',conv,pbind]
theorem zhV (hl:l.length≤1000000) {a b:Int} {op:Option Tk→Int} (ho:OpIs l a b op) {u:Rd'→Option (Pn (E×Rd'))} {one:Ps E} {k:Nat} (hu:AgE l fin k u one) {n N:Nat} (hn:l.length - k<n) (hN:l.length - k<N):AgE l fin k (fun r=>zli n u r a b) (zgo op one N):=by
 intro j hk hj
 exact z4r hu hk hj fun x i h1 h2=>ziR hl ho hu n N i x (by omega) h2 (by omega) (by omega)
theorem zmR (hl:l.length≤1000000) (hw:WT l) {rec:Rd'→Option (Pn (E×Rd'))} {ex:Ps E} {k n N:Nat} (hr:AgE l fin (k+1) rec ex) (hn:l.length - k<n) (hN:l.length - k<N):AgE l fin k (z3w n rec) (zie ex N):=by
 intro j hk hj
 unfold z3w
 rw [zgx]
 exact zhV hl (zu2 hw) (zmz hl n N k hr hn hN) hn hN j hk hj
theorem zum (hl:l.length≤1000000) (hw:WT l) {rec:Rd'→Option (Pn (E×Rd'))} {ex:Ps E} {k n N:Nat} (hr:AgE l fin (k+1) rec ex) (hn:l.length - k<n) (hN:l.length - k<N):AgE l fin k (z3f n rec) (sumP ex N):=by
 intro j hk hj
 unfold z3f
 rw [zgx]
 exact zhV hl (zun hw) (zmR hl hw hr hn hN) hn hN j hk hj
end
section
variable {l : List Lx} {fin : Int}
theorem z7j {α β γ:Type} (p:Ps α) (k:α→Ps β) (q:β→Ps γ):(p.bind k).bind q=p.bind fun a=>(k a).bind q:=by
 induction p with
 | ret a=>rfl
 | bad=>rfl
 | look f ih=>exact congrArg Ps.look (funext fun t=>funext fun i=>ih t i)
 | skip p ih=>exact congrArg Ps.skip ih
theorem zpm {α β γ δ:Type} {k j:Nat} {m:α→β} {m' : γ→δ} {F:Rd'→Option (Pn (β×Rd'))} {p:Ps α} {q:α→Ps γ} {K:β×Rd'→Option (Pn (δ×Rd'))} (hF:Ag l fin k m F p) (hk:k≤j) (hj:j≤l.length)
  (hK:∀ (a:α) (i:Nat) (r:List Tk),run' l p j = .ok a i r→j≤i→i≤l.length→K (m a,⟨l,(i:Int),fin⟩)=some (conv l fin m' (run' l (q a) i))) :
  (obind (F ⟨l,(j:Int),fin⟩) fun r2=>pbind r2 (fun e5=>some (.pan e5)) K)=some (conv l fin m' (run' l (p.bind q) j)):=by
 rw [z1A p q hj,hF j hk hj]
 have h:=z2q p hj
 cases e:run' l p j with
 | ok a i r=>rw [e] at h; exact hK a i r e h.1 h.2.1
 | bad i r=>rfl
theorem zkI {α:Type} (one:Ps α):∀ (f j:Nat) (x:List α),j≤l.length→match run' l (listP one f x) j with
    | .ok y i _=>y.length+j≤x.length+i
    | .bad _ _=>True
  | 0,_,_,_=>trivial
  | f + 1, j, x, hj => by
    unfold listP
    rw [z1w]
    rcases yG (isK 5 [44] (tks l j).head?) with h0 | h0
    · have hlt:=z4I h0
      simp only [sgn,h0,yS]
      rw [z1f _ hlt,z1A _ _ hlt]
      have he:=z2q (l:=l) one hlt
      cases e:run' l one (j+1) with
      | ok y i r =>
        rw [e] at he
        have:=zkI one f i (x++[y]) he.2.1
        have h6:=he.1
        dsimp only
        revert this
        cases run' l (listP one f (x++[y])) i with
        | ok z i' r'=>simp only [yB,yC,yF]; intro this; omega
        | bad i' r'=>exact fun _=>trivial
      | bad i r=>trivial
    · simp only [sgn,h0,yR,yN]
      exact Nat.le_refl _
theorem ziS (hl:l.length≤1000000) {rec:Rd'→Option (Pn (E×Rd'))} {ex:Ps E} {k:Nat} (hr:AgE l fin k rec ex):∀ (n f j:Nat) (x:List E),k≤j+1→j≤l.length→x.length≤j→l.length - j<n→l.length - j<f→
    bindJ (iter (z2z rec) n (x.map (atE (gA l)),l,(j:Int),fin)) (fun s=>some (.ret (s.1,(⟨s.2.1,s.2.2.1,s.2.2.2⟩ : Rd'))))=some (conv l fin (List.map (atE (gA l))) (run' l (listP ex f x) j))
  | 0,_,_,_,_,_,_,h,_=>absurd h (yH _)
  | _+1,0,_,_,_,_,_,_,h=>absurd h (yH _)
  | n + 1, f + 1, j, x, hk, hj, hx, hn, hf => by
    unfold listP
    rw [z1w]
    rcases yG (isK 5 [44] (tks l j).head?) with h0 | h0
    · have hlt:=z4I h0
      simp only [sgn,h0,yS]
      rw [z1f _ hlt,z1A _ _ hlt]
      have hu':=hr (j+1) hk hlt
      have he:=z2q (l:=l) ex hlt
      cases e:run' l ex (j+1) with
      | ok y i r =>
        rw [e] at hu' he
        obtain ⟨h6,h7,_⟩:=he
        rw [z4f (s':=((x++[y]).map (atE (gA l)),l,(i:Int),fin))]
        · exact ziS hl hr n f i (x++[y]) (by omega) h7 (by simp; omega) (by omega) (by omega)
        · unfold z2z
          simp only [z65 (k:=5) (by decide) hl hj,h0,ob,yS,yK,hu',conv,pbind,List.map_append,yI,List.map_nil]
          rw [z1n (by simp; omega)]
      | bad i r =>
        rw [e] at hu'
        rw [z1z (r:=.stop (.pan (eA l fin i)))]
        · rfl
        · unfold z2z
          simp only [z65 (k:=5) (by decide) hl hj,h0,ob,yS,yK,hu',conv,pbind]
    · simp only [sgn,h0,yR,yN]
      rw [z1z (r:=.go (x.map (atE (gA l)),l,(j:Int),fin))]
      · rfl
      · unfold z2z
        simp only [z65 (k:=5) (by decide) hl hj,h0,ob,yR,yN,yJ]
theorem zpH (hl:l.length≤1000000) {rec:Rd'→Option (Pn (E×Rd'))} {ex:Ps E} {k n N:Nat} (hr:AgE l fin k rec ex) (hn:l.length - k<n) (hN:l.length - k<N):Ag l fin (k+1) (List.map (atE (gA l))) (z3p n rec) (ex.bind fun y=>listP ex N [y]):=by
 intro j hk hj
 unfold z3p
 exact z4r (hr.mono (Nat.le_succ k)) hk hj fun x i h1 h2=>ziS hl hr n N i [x] (by omega) h2 (by simp; omega) (by omega) (by omega)
theorem zrM (hl:l.length≤1000000) (hw:WT l) {rec:Rd'→Option (Pn (E×Rd'))} {ex:Ps E} {k n N:Nat} (hr:AgE l fin (k+1) rec ex) (hn:l.length - k<n) (hN:l.length - k<N):AgE l fin k (z3S n rec) (lessP ex (sumP ex N) N):=by
  intro j hk hj
  unfold z3S lessP
  have hs:=zum (n:=n) (N:=N) hl hw hr hn hN
  refine z4r hs hk hj fun x i h1 h2=>?_
  rw [z7l,z1w]
  simp only [zdg,(zs9 hw).eq,ob,zdc (Nat.le_trans h2 hl),nx_at]
  by_cases h0:0<ordO (tks l i).head?
  · have hlt:=(zs9 hw).lt i (by omega)
    simp only [h0,yQ,yK,yS]
    rw [z1f _ hlt]
    exact z4r hs (by omega) hlt fun y i' h3 h4=>by simp [z2w,conv,atE,atEs]
  · simp only [h0,yP,yJ,yR]
    simp only [z65 (k:=2) (by decide) hl h2,ob]
    rcases yG (isK 2 [105,110] (tks l i).head?) with h5 | h5
    · have hlt:=z4I h5
      simp only [wrd,h5,yS,yU,yJ,z1f _ hlt]
      refine zdB (by decide) hl hlt fun hlt'=>?_
      rw [← z7j]
      refine zpm (zpH hl hr (by omega) (by omega)) (by omega) hlt' fun y i' r h3 h4 h5=>?_
      have hy:y.length≤l.length+1:=by
        rw [z1A _ _ hlt'] at h3
        have he:=z2q (l:=l) ex hlt'
        cases e:run' l ex (i+1+1) with
        | ok z i2 r2 =>
          rw [e] at h3 he
          have:=zkI ex N i2 [z] he.2.1
          dsimp only at h3
          rw [h3] at this
          simp only [yC,yF] at this
          omega
        | bad i2 r2=>rw [e] at h3; cases h3
      dsimp only
      rw [z1n (by simp; omega)]
      exact zdB (by decide) hl h5 fun _=>by simp [z2w,conv,atE,atEs,zhS]
    · simp only [wrd,h5,yR,yT,yK,yN]
      rfl
theorem zrW (hl:l.length≤1000000) (hw:WT l) {rec:Rd'→Option (Pn (E×Rd'))} {ex:Ps E} {N:Nat}:∀ (n f k:Nat),AgE l fin (k+1) rec ex→l.length - k+1<n→l.length - k<f→l.length - k<N→AgE l fin k (z3e n rec) (notP (lessP ex (sumP ex N) N) f)
  | 0,_,_,_,h,_,_=>absurd h (yH _)
  | _+1,0,_,_,_,h,_=>absurd h (yH _)
  | n + 1, f + 1, k, hr, hn, hf, hN => by
    intro j hk hj
    show z3i n rec (z3e n rec) _=_
    unfold z3i
    rw [zgx]
    unfold z4n notP
    rw [z7l,z1w]
    simp only [ob,z65 (k:=2) (by decide) hl hj,nx_at]
    rcases yG (isK 2 [110,111,116] (tks l j).head?) with h5 | h5
    · have hlt:=z4I h5
      simp only [wrd,h5,yS,yU,yJ,z1f _ hlt]
      exact z4r (zrW hl hw n f (k+1) (hr.mono (by omega)) (by omega) (by omega) (by omega)) (by omega) hlt fun a i h6 h7=>by simp [z2w,conv,atE,atEs]
    · simp only [wrd,h5,yR,yT,yK,yN]
      rw [zgx]
      exact zrM hl hw hr (by omega) (by omega) j hk hj
theorem ztw (hl:l.length≤1000000) (hw:WT l) {rec:Rd'→Option (Pn (E×Rd'))} {ex:Ps E} {k n N:Nat} (hr:AgE l fin (k+1) rec ex) (hn:l.length - k+1<n) (hN:l.length - k<N):AgE l fin k (z3X n rec) (conjP ex N):=by
 intro j hk hj
 unfold z3X
 rw [zgx]
 exact zhV hl (ztx hw) (zrW hl hw n N k hr hn hN hN) (by omega) hN j hk hj
theorem zm4 (hl:l.length≤1000000) (hw:WT l) {N:Nat}:∀ (n f k:Nat),l.length - k+2<n→l.length - k<f→l.length - k<N→AgE l fin k (z18 n) (exprP N f)
  | 0,_,_,h,_,_=>absurd h (yH _)
  | _+1,0,_,_,h,_=>absurd h (yH _)
  | n + 1, f + 1, k, hn, hf, hN => by
    have hr:AgE l fin (k+1) (z18 n) (exprP N f):=by
      by_cases h:k<l.length
      · exact zm4 hl hw n f (k+1) (by omega) (by omega) (by omega)
      · exact fun j h1 h2=>absurd h2 (by omega)
    intro j hk hj
    show z3h n (z18 n) _=_
    unfold z3h
    rw [zgx]
    exact zhV hl (or_is hw) (ztw hl hw hr (by omega) hN) (by omega) hN j hk hj
end
section
variable {l : List Lx} {fin : Int}
theorem z7a {α β γ:Type} (o:Option (Pn α)) (K:α→Option (Pn β)) (G:β→Option (Pn γ)):(obind (obind o fun r1=>pbind r1 (fun e=>some (.pan e)) K) fun r=>pbind r (fun e=>some (.pan e)) G)=obind o fun r1=>pbind r1 (fun e=>some (.pan e)) fun q=>obind (K q) fun r=>pbind r (fun e=>some (.pan e)) G:=by
 rcases o with _ | (r | e) <;> rfl
theorem pbr {A R:Type} (a:A) (f:Int→Option R) (g:A→Option R):pbind (.ret a) f g=g a:=rfl
theorem zi0 (hl:l.length≤1000000) {ex:Ps E} {k n:Nat} (he:AgE l fin k (z18 n) ex):AgE l fin k (z2d n) (zgj ex):=by
 intro j hk hj
 unfold z2d
 exact z4r he hk hj fun x i h1 h2=>zdB (by decide) hl h2 fun _=>rfl
theorem zfX (hl:l.length≤1000000) {ex:Ps E} {k n:Nat} (he:AgE l fin k (z18 n) ex):AgE l fin k (z2U n) (z9U ex):=by
 intro j hk hj
 unfold z2U
 refine zdB (by decide) hl hj fun hlt=>?_
 rw [zgx]
 exact zi0 hl he (j+1) (by omega) hlt
def Sw (o:Option (Pn (Rd'×St))):Option (Pn (St×Rd')):=obind o fun r=>pbind r (fun e=>some (.pan e)) fun q=>some (.ret (q.2,q.1))
theorem ztW (hl:l.length≤1000000) {ex:Ps E} {k n i:Nat} (he:AgE l fin k (z18 n) ex) {x0:E}:Ag l fin k (atS (gA l)) (fun r=>Sw (z3Y n r ⟨0,gA l i,[],x0,[],[]⟩)) ((takeP 1).bind fun nm=>(z9U ex).bind fun x=>.ret ⟨1,i,nm,x,[],[]⟩):=by
 intro j hk hj
 unfold z3Y Sw
 simp only [z7a,ob,pbr]
 refine z4r (zda (by decide) hl) (yX _) hj fun s i1 h1 h2=>?_
 exact z4r (zfX hl he) (by omega) h2 fun x i2 h3 h4=>by simp [z2w,conv,atS,atSs]
theorem ztZ (hl:l.length≤1000000) {ex:Ps E} {k n i:Nat} (he:AgE l fin k (z18 n) ex) {x0:E}:Ag l fin k (atS (gA l)) (fun r=>Sw (z3Z n r ⟨0,gA l i,[],x0,[],[]⟩)) ((zgj ex).bind fun x=>.ret ⟨7,i,[],x,[],[]⟩):=by
 intro j hk hj
 unfold z3Z Sw
 simp only [z7a,ob,pbr]
 exact z4r (zi0 hl he) hk hj fun x i2 h3 h4=>by simp [z2w,conv,atS,atSs]
theorem zrq (hl:l.length≤1000000) {ex:Ps E} {k n i:Nat} (he:AgE l fin k (z18 n) ex) {x0:E}:Ag l fin k (atS (gA l)) (fun r=>Sw (z3R n r ⟨0,gA l i,[],x0,[],[]⟩)) ((zgj ex).bind fun x=>.ret ⟨8,i,[],x,[],[]⟩):=by
 intro j hk hj
 unfold z3R Sw
 simp only [z7a,ob,pbr]
 exact z4r (zi0 hl he) hk hj fun x i2 h3 h4=>by simp [z2w,conv,atS,atSs]
theorem zqc (hl:l.length≤1000000) {ex:Ps E} {k n i:Nat} (he:AgE l fin k (z18 n) ex) {x0:E}:Ag l fin k (atS (gA l)) (fun r=>Sw (z3L n r ⟨0,gA l i,[],x0,[],[]⟩)) ((zgj ex).bind fun x=>.ret ⟨9,i,[],x,[],[]⟩):=by
 intro j hk hj
 unfold z3L Sw
 simp only [z7a,ob,pbr]
 exact z4r (zi0 hl he) hk hj fun x i2 h3 h4=>by simp [z2w,conv,atS,atSs]
theorem zo7 (hl:l.length≤1000000) {k i:Nat} {bl:Rd'→Option (Pn (List St×Rd'))} {br:Ps (List St)} (hb:Ag l fin k (List.map (atS (gA l))) bl br) {x0:E}:Ag l fin k (atS (gA l)) (fun r=>Sw (z3G bl r ⟨0,gA l i,[],x0,[],[]⟩)) (.look fun _ j=>(takeP 3).bind fun d=>br.bind fun b=>.ret ⟨6,i,[],⟨1,j,d,[]⟩,b,[]⟩):=by
 intro j hk hj
 unfold z3G Sw
 rw [z1w]
 simp only [z7l,z7a,ob,pbr,nx_at]
 refine z4r (zda (by decide) hl) (yX _) hj fun s i1 h1 h2=>?_
 exact z4r hb (by omega) h2 fun x i2 h3 h4=>by simp [z2w,conv,atS,atSs,z6Z,atE,atEs]
theorem znK (hl:l.length≤1000000) {ex:Ps E} {k n i:Nat} (he:AgE l fin k (z18 n) ex) {bl:Rd'→Option (Pn (List St×Rd'))} {br:Ps (List St)} (hb:Ag l fin k (List.map (atS (gA l))) bl br) {st:Rd'→Option (Pn (St×Rd'))} {sr:Ps St} (hs:Ag l fin k (atS (gA l)) st sr) {x0:E} :
  Ag l fin k (atS (gA l)) (fun r=>Sw (z3E n bl st r ⟨0,gA l i,[],x0,[],[]⟩)) (ex.bind fun x=>br.bind fun b=>.look fun u _=>
   if wrd [101,108,115,101] u then .skip (.look fun v _=>
    if wrd [105,102] v then sr.bind fun s=>.ret ⟨5,i,[],x,b,[s]⟩
    else br.bind fun e=>.ret ⟨5,i,[],x,b,e⟩)
   else .ret ⟨5,i,[],x,b,[]⟩):=by
 intro j hk hj
 unfold z3E Sw
 simp only [z7a]
 refine z4r he hk hj fun x i1 h1 h2=>?_
 simp only [z7a]
 refine z4r hb (by omega) h2 fun b i2 h3 h4=>?_
 dsimp only
 rw [z1w,z65 (k:=2) (by decide) hl h4]
 rcases yG (isK 2 [101,108,115,101] (tks l i2).head?) with h5 | h5
 ·have hlt:=z4I h5
  simp only [ob,wrd,h5,yS,yU,yJ]
  rw [z1f _ hlt,z1w]
  unfold z3v
  simp only [z7l,ob,zpQ (k:=2) (by decide)]
  rcases yG (isK 2 [105,102] (tks l (i2+1)).head?) with h6 | h6
  ·simp only [h6,yK,yS,z7a,ob,pbr]
   exact z4r hs (by omega) hlt fun x i2 h3 h4=>by simp [z2w,conv,atS,atSs,z6Z]
  ·simp only [h6,yJ,yR,yN,z7a,ob,pbr]
   exact z4r hb (by omega) hlt fun x i2 h3 h4=>by simp [z2w,conv,atS,atSs,z6Z]
 ·simp only [ob,wrd,h5,yR,yT,yK,yN,pbr]
  simp [z2w,conv,atS,atSs,z6Z]
theorem zuc (hl:l.length≤1000000) {ex:Ps E} {k n i:Nat} (he:AgE l fin k (z18 n) ex) {x0:E}:Ag l fin k (atS (gA l)) (fun r=>Sw (z41 n r ⟨0,gA l i,[],x0,[],[]⟩)) (.look fun u _=>
      if wrd [115,116,97,116,117,115] u then .skip ((z9U ex).bind fun x=>.ret ⟨4,i,[],x,[],[]⟩)
      else if wrd [104,101,97,100,101,114] u then .skip ((takeP 4).bind fun n=>(z9U ex).bind fun x=>.ret ⟨3,i,n,x,[],[]⟩)
      else (takeP 1).bind fun n=>(z9U ex).bind fun x=>.ret ⟨2,i,n,x,[],[]⟩):=by
  intro j hk hj
  unfold z41 Sw
  rw [z1w]
  simp only [z65 (k:=2) (by decide) hl hj,ob]
  rcases yG (isK 2 [115,116,97,116,117,115] (tks l j).head?) with h5 | h5
  · have hlt:=z4I h5
    simp only [h5,wrd,yS,yK,bindJ,z1f _ hlt,z7a,ob,pbr]
    exact z4r (zfX hl he) (by omega) hlt fun x i2 h3 h4=>by simp [z2w,conv,atS,atSs]
  · simp only [h5,wrd,yR,yJ,yN,z65 (k:=2) (by decide) hl hj,ob]
    rcases yG (isK 2 [104,101,97,100,101,114] (tks l j).head?) with h6 | h6
    · have hlt:=z4I h6
      simp only [h6,yS,yK,z1f _ hlt]
      have ht:=zda (l:=l) (fin:=fin) (k:=4) (by decide) hl (j+1) (yX _) hlt
      dsimp only at ht
      rw [ht,z1A _ _ hlt]
      have hd:=z2q (l:=l) (takeP 4) hlt
      cases e:run' l (takeP 4) (j+1) with
      | ok a i' r =>
        rw [e] at hd
        simp only [conv,ob,pbr,bindJ,z7a]
        exact z4r (zfX hl he) (by omega) hd.2.1 fun x i2 h3 h4=>by simp [z2w,conv,atS,atSs]
      | bad i' r=>rfl
    · simp only [h6,yR,yJ,yN]
      have ht:=zda (l:=l) (fin:=fin) (k:=1) (by decide) hl j (yX _) hj
      dsimp only at ht
      rw [ht,z1A _ _ hj]
      have hd:=z2q (l:=l) (takeP 1) hj
      cases e:run' l (takeP 1) j with
      | ok a i' r =>
        rw [e] at hd
        simp only [conv,ob,pbr,bindJ,z7a]
        exact z4r (zfX hl he) (by omega) hd.2.1 fun x i2 h3 h4=>by simp [z2w,conv,atS,atSs]
      | bad i' r=>rfl
end
section
variable {l : List Lx} {fin : Int}
abbrev AgB (l:List Lx) (fin:Int) (k:Nat) (F:Rd'→Option (Pn (List St×Rd'))) (p:Ps (List St)):Prop:=Ag l fin k (List.map (atS (gA l))) F p
theorem zpa (hl:l.length≤1000000) {ex:Ps E} {N:Nat} (he:∀ n k,l.length - k+2<n→AgE l fin k (z18 n) ex) {bl:Rd'→Option (Pn (List St×Rd'))} {k0:Nat}
    (hb:∀ f k,k0<k→l.length - k<f→AgB l fin k bl (z4d (stmtP ex N f) N)):∀ (n f k:Nat),k0≤k→l.length - k+3<n→l.length - k<f→Ag l fin k (atS (gA l)) (z2j n bl) (stmtP ex N f)
  | 0,_,_,_,h,_=>absurd h (yH _)
  | _+1,0,_,_,_,h=>absurd h (yH _)
  | n + 1, f + 1, k, h0, hn, hf => by
    intro j hk hj
    show z3c n bl (z2j n bl) _=_
    unfold z3c stmtP
    rw [z7l,z1w]
    simp only [ob,zdc (Nat.le_trans hj hl),zgw,zgv,nx_at,zc2]
    by_cases h2:kindO (tks l j).head? = 2
    · have hlt:=z4V (by decide) h2
      have he':=he n (k+1) (by omega)
      have hb' : AgB l fin (k+1) bl (z4d (stmtP ex N f) N):=by
        by_cases h:k<l.length
        · exact hb f (k+1) (by omega) (by omega)
        · exact fun j h1 h2=>absurd h2 (by omega)
      have hs' : Ag l fin (k+1) (atS (gA l)) (z2j n bl) (stmtP ex N f):=by
        by_cases h:k<l.length
        · exact zpa hl he hb n f (k+1) (by omega) (by omega) (by omega)
        · exact fun j h1 h2=>absurd h2 (by omega)
      simp only [wrd,zh4 _ (by decide) h2]
      by_cases e1:textO (tks l j).head? = [108,101,116]
      · simp only [yM e1,yN,yR,h2,yQ,yK,yS,ne_eq,yV,yP,Bool.or_false,yJ,bindJ,z1f _ hlt]
        exact ztW hl he' (j+1) (by omega) hlt
      by_cases e2:textO (tks l j).head? = [115,101,116]
      · simp only [yL e1,yM e2,yN,yR,h2,yQ,yK,yS,ne_eq,yV,yP,Bool.or_false,yJ,bindJ,z1f _ hlt]
        exact zuc hl he' (j+1) (by omega) hlt
      by_cases e3:textO (tks l j).head? = [105,102]
      · simp only [yL e1,yL e2,yM e3,yN,yR,h2,yQ,yK,yS,ne_eq,yV,yP,Bool.or_false,yJ,bindJ,z1f _ hlt]
        exact znK hl he' hb' hs' (j+1) (by omega) hlt
      by_cases e4:textO (tks l j).head? = [114,101,112,101,97,116]
      · simp only [yL e1,yL e2,yL e3,yM e4,yN,yR,h2,yQ,yK,yS,ne_eq,yV,yP,Bool.or_false,yJ,bindJ,z1f _ hlt]
        exact zo7 hl hb' (j+1) (by omega) hlt
      by_cases e5:textO (tks l j).head? = [108,111,103]
      · simp only [yL e1,yL e2,yL e3,yL e4,yM e5,yN,yR,h2,yQ,yK,yS,ne_eq,yV,yP,Bool.or_false,yJ,bindJ,z1f _ hlt]
        exact ztZ hl he' (j+1) (by omega) hlt
      by_cases e6:textO (tks l j).head? = [100,101,110,121]
      · simp only [yL e1,yL e2,yL e3,yL e4,yL e5,yM e6,yN,yR,h2,yQ,yK,yS,ne_eq,yV,yP,Bool.or_false,yJ,bindJ,z1f _ hlt]
        exact zrq hl he' (j+1) (by omega) hlt
      by_cases e7:textO (tks l j).head? = [114,101,112,108,121]
      · simp only [yL e1,yL e2,yL e3,yL e4,yL e5,yL e6,yM e7,yN,yR,h2,yQ,yK,yS,ne_eq,yV,yP,Bool.or_false,yJ,bindJ,z1f _ hlt]
        exact zqc hl he' (j+1) (by omega) hlt
      simp only [yL e1,yL e2,yL e3,yL e4,yL e5,yL e6,yL e7,yN,yR,h2,yQ,yK,yS,ne_eq,yV,yP,Bool.or_true,yJ,bindJ]
      rfl
    · simp only [wrd,zi4 _ h2,h2,yN,yR,ne_eq,yZ,yQ,Bool.true_or,yK,pbind,bindJ,zft,conv,Bool.cond_self]
def Fw {α:Type} (l:List Lx) (j:Nat) (p:Ps α):Prop:=match run' l p j with | .ok _ i _=>j<i | .bad _ _=>True
theorem ziP (hl:l.length≤1000000) {n0:Nat} {rec:Rd'→Option (Pn (List St×Rd'))} {one:Ps St} {k:Nat} (hr:Ag l fin k (atS (gA l)) (z2j n0 rec) one) (hp:∀ j,j≤l.length→Fw l j one):∀ (n f j:Nat) (x:List St),k≤j→j≤l.length→x.length≤j→l.length - j<n→l.length - j<f→
    bindJ (iter (z2N n0 rec) n (x.map (atS (gA l)),l,(j:Int),fin)) (fun s=>some (.ret (s.1,(⟨s.2.1,s.2.2.1,s.2.2.2⟩ : Rd'))))=some (conv l fin (List.map (atS (gA l))) (run' l (zby one f x) j))
  | 0,_,_,_,_,_,_,h,_=>absurd h (yH _)
  | _+1,0,_,_,_,_,_,_,h=>absurd h (yH _)
  | n + 1, f + 1, j, x, hk, hj, hx, hn, hf => by
    unfold zby
    rw [z1w]
    rcases yG (isK 5 [125] (tks l j).head?) with h0 | h0
    · have hlt:=z4I h0
      simp only [sgn,h0,yS]
      rw [z1f _ hlt]
      rw [z1z (r:=.go (x.map (atS (gA l)),l,((j+1:Nat):Int),fin))]
      · rfl
      · unfold z2N
        simp only [z65 (k:=5) (by decide) hl hj,h0,ob,yS,yU,yJ]
    · simp only [sgn,h0,yR,yN]
      rw [z1A _ _ hj]
      have hu':=hr j hk hj
      have hd:=z2q (l:=l) one hj
      have hq:=hp j hj
      unfold Fw at hq
      cases e:run' l one j with
      | ok y i r =>
        rw [e] at hu' hd hq
        obtain ⟨h6,h7,_⟩:=hd
        dsimp only at hq
        rw [z4f (s':=((x++[y]).map (atS (gA l)),l,(i:Int),fin))]
        · exact ziP hl hr hp n f i (x++[y]) (by omega) h7 (by simp; omega) (by omega) (by omega)
        · unfold z2N
          simp only [z65 (k:=5) (by decide) hl hj,h0,ob,yR,yN,yT,yK,hu',conv,pbind,List.map_append,yI,List.map_nil]
          rw [z1n (by simp; omega)]
      | bad i r =>
        rw [e] at hu'
        rw [z1z (r:=.stop (.pan (eA l fin i)))]
        · rfl
        · unfold z2N
          simp only [z65 (k:=5) (by decide) hl hj,h0,ob,yR,yN,yT,yK,hu',conv,pbind]
end
section
variable {l : List Lx} {fin : Int}
theorem zp5 {α:Type} (p:Ps α) {j:Nat} (h:j<l.length):match run' l (.skip p) j with | .ok _ i _=>j<i | .bad _ _=>True:=by
 rw [z1f _ h]
 have he:=z2q (l:=l) p (j:=j+1) h
 revert he
 cases run' l p (j+1) with
 | ok a i r=>exact fun h=>h.1
 | bad i r=>exact fun _=>trivial
theorem zma {α:Type} {j:Nat} {f:Option Tk→Nat→Ps α} (h:Fw l j (f (tks l j).head? j)):Fw l j (.look f):=h
theorem zjO {α:Type} {j:Nat} {b:Bool} {p q:Ps α} (h:b=true→Fw l j p) (h' : Fw l j q):Fw l j (if b=true then p else q):=by
 cases b
 ·exact h'
 ·exact h rfl
theorem zpb (ex:Ps E) (N f:Nat) (j:Nat) (hj:j≤l.length):Fw l j (stmtP ex N f):=by
  cases f with
  | zero=>exact trivial
  | succ f =>
    unfold stmtP
    refine zma ?_
    have t:∀ {k:Int} {s:List UInt8} {p:Ps St},isK k s (tks l j).head? = true→Fw l j (.skip p):=fun h=>zp5 _ (z4I h)
    exact zjO t (zjO t (zjO t (zjO t (zjO t (zjO t (zjO t (q:=.bad) (show Fw l j (.bad:Ps St) from trivial)))))))
theorem zlN (hl:l.length≤1000000) {ex:Ps E} {N:Nat} (he:∀ n k,l.length - k+2<n→AgE l fin k (z18 n) ex) (hN:l.length<N):∀ (n f k:Nat),l.length - k+3<n→l.length - k<f→AgB l fin k (z2i n) (z4d (stmtP ex N f) N)
  | 0,_,_,h,_=>absurd h (yH _)
  | n + 1, f, k, hn, hf => by
    intro j hk hj
    show z3a n (z2i n) _=_
    unfold z3a z4d
    refine zdB (by decide) hl hj fun hlt=>?_
    have hs:=zpa (k0:=k) hl he (fun f' k' h1 h2=>by
      by_cases h:k'≤l.length
      · exact zlN hl he hN n f' k' (by omega) h2
      · exact fun j h1 h2=>absurd h2 (by omega)) n f (k+1) (by omega) (by omega) (by omega)
    exact ziP hl hs (zpb ex N f) n N (j+1) [] (by omega) hlt (by simp) (by omega) (by omega)
end
section
variable {l : List Lx} {fin : Int}
def lstep {β:Type} (F:Rd'→Option (Pn (β×Rd'))):List β×List Lx×Int×Int→Option (Lp (List β×List Lx×Int×Int) (Lp (List β×List Lx×Int×Int) (Pn (List β×Rd')))):=
 fun (o,a,b,c)=>obind (z10 ⟨a,b,c⟩ 5 [44]) fun r=>cond r.1
  (obind (F r.2) fun s=>pbind s (fun e=>some (.stop (.stop (.pan e)))) fun q=>need (o.length+[q.1].length≤4294967296) (some (.go (o++[q.1],q.2.l_,q.2.i_,q.2.at_))))
  (some (.stop (.go (o,r.2.l_,r.2.i_,r.2.at_))))
theorem zg2 {α β:Type} {m:α→β} (hl:l.length≤1000000) {F:Rd'→Option (Pn (β×Rd'))} {one:Ps α} {k:Nat} (hr:Ag l fin k m F one):∀ (n f j:Nat) (x:List α),k≤j+1→j≤l.length→x.length≤j+1→l.length - j<n→l.length - j<f→
    bindJ (iter (lstep F) n (x.map m,l,(j:Int),fin)) (fun s=>some (.ret (s.1,(⟨s.2.1,s.2.2.1,s.2.2.2⟩ : Rd'))))=some (conv l fin (List.map m) (run' l (listP one f x) j))
  | 0,_,_,_,_,_,_,h,_=>absurd h (yH _)
  | _+1,0,_,_,_,_,_,_,h=>absurd h (yH _)
  | n + 1, f + 1, j, x, hk, hj, hx, hn, hf => by
    unfold listP
    rw [z1w]
    rcases yG (isK 5 [44] (tks l j).head?) with h0 | h0
    · have hlt:=z4I h0
      simp only [sgn,h0,yS]
      rw [z1f _ hlt,z1A _ _ hlt]
      have hu':=hr (j+1) hk hlt
      have he:=z2q (l:=l) one hlt
      cases e:run' l one (j+1) with
      | ok y i r =>
        rw [e] at hu' he
        obtain ⟨h6,h7,_⟩:=he
        rw [z4f (s':=((x++[y]).map m,l,(i:Int),fin))]
        · exact zg2 hl hr n f i (x++[y]) (by omega) h7 (by simp; omega) (by omega) (by omega)
        · unfold lstep
          simp only [z65 (k:=5) (by decide) hl hj,h0,ob,yS,yK,hu',conv,pbind,List.map_append,yI,List.map_nil]
          rw [z1n (by simp; omega)]
      | bad i r =>
        rw [e] at hu'
        rw [z1z (r:=.stop (.pan (eA l fin i)))]
        · rfl
        · unfold lstep
          simp only [z65 (k:=5) (by decide) hl hj,h0,ob,yS,yK,hu',conv,pbind]
    · simp only [sgn,h0,yR,yN]
      rw [z1z (r:=.go (x.map m,l,(j:Int),fin))]
      · rfl
      · unfold lstep
        simp only [z65 (k:=5) (by decide) hl hj,h0,ob,yR,yN,yJ]
theorem zjB (hl:l.length≤1000000):Ag l fin 0 (fun s:List UInt8=>s) z22 (takeP 4):=by
 intro j hk hj
 unfold z22
 rw [zgx]
 exact zda (by decide) hl j hk hj
theorem zhY (hl:l.length≤1000000):Ag l fin 0 (fun s:List UInt8=>s) z2s (takeP 3):=by
 intro j hk hj
 unfold z2s
 rw [zgx]
 exact zda (by decide) hl j hk hj
theorem znm (hl:l.length≤1000000) {n N:Nat} (hn:l.length<n) (hN:l.length<N):Ag l fin 0 (fun s:List (List UInt8)=>s) (z4u n) (zdT 4 N):=by
 intro j hk hj
 unfold z4u
 refine z4r (zjB hl) hk hj fun x i h1 h2=>?_
 have:=zg2 (m:=fun s:List UInt8=>s) hl (zjB (l:=l) (fin:=fin) hl) n N i [x] (by omega) h2 (by simp) (by omega) (by omega)
 rw [show (List.map (fun s:List UInt8=>s))=fun l=>l from funext List.map_id'] at this
 exact this
theorem zmH (hl:l.length≤1000000) {n N:Nat} (hn:l.length<n) (hN:l.length<N):Ag l fin 0 (fun s:List (List UInt8)=>s) (z4C n) (zdT 3 N):=by
 intro j hk hj
 unfold z4C
 refine z4r (zhY hl) hk hj fun x i h1 h2=>?_
 have:=zg2 (m:=fun s:List UInt8=>s) hl (zhY (l:=l) (fin:=fin) hl) n N i [x] (by omega) h2 (by simp) (by omega) (by omega)
 rw [show (List.map (fun s:List UInt8=>s))=fun l=>l from funext List.map_id'] at this
 exact this
end
section
variable {l : List Lx} {fin : Int}
def Sc (o:Option (Pn (Rd'×Cl))):Option (Pn (Cl×Rd')):=obind o fun r=>pbind r (fun e=>some (.pan e)) fun q=>some (.ret (q.2,q.1))
def varyP (k i:Int) (N:Nat):Ps Cl:=(takeP 4).bind fun n=>(needP 2 [105,110]).bind fun _=>(zdT 4 N).bind fun l=>.look fun u _=>
 if wrd [100,101,102,97,117,108,116] u then .skip ((takeP 4).bind fun d=>.ret ⟨k,i,n,l,⟨[],[],-1⟩,d,true,[]⟩) else .ret ⟨k,i,n,l,⟨[],[],-1⟩,[],false,[]⟩
theorem zsT (hl:l.length≤1000000) {n N i:Nat} {kk:Int} (hn:l.length<n) (hN:l.length<N):Ag l fin 0 (atC (gA l)) (fun r=>Sc (z3T n r ⟨kk,gA l i,[],[],⟨[],[],0⟩,[],false,[]⟩)) (varyP kk i N):=by
 intro j hk hj
 unfold z3T Sc varyP
 simp only [z7a]
 refine z4r (zjB hl) hk hj fun s i1 h1 h2=>?_
 simp only [z7a]
 refine zdB (by decide) hl h2 fun hlt=>?_
 refine z4r (znm hl hn hN) (yX _) hlt fun s i2 h3 h4=>?_
 dsimp only
 rw [z1w,z65 (k:=2) (by decide) hl h4]
 rcases yG (isK 2 [100,101,102,97,117,108,116] (tks l i2).head?) with h5 | h5
 ·have hlt:=z4I h5
  simp only [ob,wrd,h5,yS,yK,z1f _ hlt,z7a,pbr]
  exact z4r (zjB hl) (yX _) hlt fun s i3 h3 h4=>by simp [z2w,conv,atC,atCs,atA,gA_no]
 ·simp only [ob,wrd,h5,yR,yJ,yN,pbr]
  simp [z2w,conv,atC,atCs,atA,gA_no]
theorem znH (hl:l.length≤1000000) {i:Nat} {kk:Int}:Ag l fin 0 (fun a:z1r=>(⟨kk,gA l i,[],[],atA (gA l) a,[],false,[]⟩ : Cl)) (fun r=>Sc (z3D r ⟨kk,gA l i,[],[],⟨[],[],0⟩,[],false,[]⟩)) (zgg kk):=by
 intro j hk hj
 unfold z3D Sc zgg
 rw [z1w]
 simp only [z7l,ob,z7a]
 refine z4r (zhY hl) hk hj fun s i1 h1 h2=>?_
 dsimp only
 rw [z1w]
 simp only [z7l,ob,zgv,zgw,nx_at,zdc (Nat.le_trans h2 hl)]
 by_cases h3:kindO (tks l i1).head? = 1
 ·have hlt:=z4V (by decide) h3
  by_cases h4:kk=17
  ·simp [h3,h4,z2w,conv,atA,ob,pbr]
  ·simp [h3,h4,z1f _ hlt,z2w,conv,atA,ob,pbr]
 ·simp [h3,z2w,conv,atA,ob,pbr]
end
section
variable {l : List Lx} {fin : Int}
def bstep {β:Type} (F:Rd'→Option (Pn (β×Rd'))):List β×List Lx×Int×Int→Option (Lp (List β×List Lx×Int×Int) (Lp (List β×List Lx×Int×Int) (Pn (List β×Rd')))):=
 fun (o,a,b,c)=>obind (z10 ⟨a,b,c⟩ 5 [125]) fun r=>cond (!r.1)
  (obind (F r.2) fun s=>pbind s (fun e=>some (.stop (.stop (.pan e)))) fun q=>need (o.length+[q.1].length≤4294967296) (some (.go (o++[q.1],q.2.l_,q.2.i_,q.2.at_))))
  (some (.stop (.go (o,r.2.l_,r.2.i_,r.2.at_))))
theorem zgi {α β:Type} {m:α→β} (hl:l.length≤1000000) {F:Rd'→Option (Pn (β×Rd'))} {one:Ps α} {k:Nat} (hr:Ag l fin k m F one) (hp:∀ j,j≤l.length→Fw l j one):∀ (n f j:Nat) (x:List α),k≤j→j≤l.length→x.length≤j→l.length - j<n→l.length - j<f→
    bindJ (iter (bstep F) n (x.map m,l,(j:Int),fin)) (fun s=>some (.ret (s.1,(⟨s.2.1,s.2.2.1,s.2.2.2⟩ : Rd'))))=some (conv l fin (List.map m) (run' l (zby one f x) j))
  | 0,_,_,_,_,_,_,h,_=>absurd h (yH _)
  | _+1,0,_,_,_,_,_,_,h=>absurd h (yH _)
  | n + 1, f + 1, j, x, hk, hj, hx, hn, hf => by
    unfold zby
    rw [z1w]
    rcases yG (isK 5 [125] (tks l j).head?) with h0 | h0
    · have hlt:=z4I h0
      simp only [sgn,h0,yS]
      rw [z1f _ hlt]
      rw [z1z (r:=.go (x.map m,l,((j+1:Nat):Int),fin))]
      · rfl
      · unfold bstep
        simp only [z65 (k:=5) (by decide) hl hj,h0,ob,yS,yU,yJ]
    · simp only [sgn,h0,yR,yN]
      rw [z1A _ _ hj]
      have hu':=hr j hk hj
      have hd:=z2q (l:=l) one hj
      have hq:=hp j hj
      unfold Fw at hq
      cases e:run' l one j with
      | ok y i r =>
        rw [e] at hu' hd hq
        obtain ⟨h6,h7,_⟩:=hd
        dsimp only at hq
        rw [z4f (s':=((x++[y]).map m,l,(i:Int),fin))]
        · exact zgi hl hr hp n f i (x++[y]) (by omega) h7 (by simp; omega) (by omega) (by omega)
        · unfold bstep
          simp only [z65 (k:=5) (by decide) hl hj,h0,ob,yR,yN,yT,yK,hu',conv,pbind,List.map_append,yI,List.map_nil]
          rw [z1n (by simp; omega)]
      | bad i r =>
        rw [e] at hu'
        rw [z1z (r:=.stop (.pan (eA l fin i)))]
        · rfl
        · unfold bstep
          simp only [z65 (k:=5) (by decide) hl hj,h0,ob,yR,yN,yT,yK,hu',conv,pbind]
end
section
variable {l : List Lx} {fin : Int}
theorem ziZ (t:List (List UInt8)) (v:List UInt8) (ht:t.length≤1000000):∀ (n i:Nat),i≤t.length→t.length - i<n→(∀ j,j<i→t[j]?≠some v)→
    bindJ (iter (z26 t v) n (i:Int)) (fun _=>some (-1))=some (if v∈t then (t.idxOf v:Int) else -1)
  | 0,_,_,h,_=>absurd h (yH _)
  | n + 1, i, hi, hn, hv => by
    by_cases h:i<t.length
    · have e:=List.getElem?_eq_getElem h
      by_cases hq:v=t[i]
      · rw [z1z (r:=.stop (i:Int))]
        · have hm:v∈t:=hq ▸ List.getElem_mem h
          have h1:t.idxOf v<t.length:=List.idxOf_lt_length_of_mem hm
          have h2:t[t.idxOf v]? = some v:=by rw [List.getElem?_eq_getElem h1,List.getElem_idxOf]
          have h3:t.idxOf v=i:=by
            rcases Nat.lt_trichotomy (t.idxOf v) i with h4 | h4 | h4
            · exact absurd h2 (hv _ h4)
            · exact h4
            · have:=List.not_of_lt_findIdx (p:=(· == v)) (xs:=t) h4
              simp [hq] at this
          rw [if_pos hm,h3]; rfl
        · unfold z26
          simp only [yW,h,yQ,yK,z4e e,hq]
      · rw [z4f (s':=((i+1:Nat):Int))]
        · refine ziZ t v ht n (i+1) h (by omega) fun j hj=>?_
          rcases Nat.lt_succ_iff_lt_or_eq.1 hj with h5 | rfl
          · exact hv j h5
          · rw [e]; exact fun q=>hq (Option.some.inj q).symm
        · unfold z26
          simp only [yW,h,yQ,yK,z4e e,hq,yP,yJ]
          rw [w64 (by omega) (by omega)]; rfl
    · have hi' : i=t.length:=by omega
      rw [z1z (r:=.go ())]
      · have:v ∉ t:=fun hm=>by
          obtain ⟨j,hj,q⟩:=List.mem_iff_getElem.1 hm
          exact hv j (by omega) (by rw [List.getElem?_eq_getElem hj,q])
        rw [if_neg this]; rfl
      · unfold z26
        simp only [yW,h,yP,yJ]
theorem zmh (t:List (List UInt8)) (v:List UInt8) (ht:t.length≤1000000) {n:Nat} (hn:t.length<n):z2o n t v=some (if v∈t then (t.idxOf v:Int) else -1):=
 ziZ t v ht n 0 (yX _) (by omega) fun j hj=>absurd hj (yH _)
theorem zkv (hl:l.length≤1000000) {n:Nat} (hn:6<n):Ag l fin 0 (fun e:Int=>e) (z2X n) z62:=by
 intro j hk hj
 unfold z2X z62
 have he:z6O=some z7I:=rfl
 rw [z1w]
 simp only [z7l,ob,he,zmh z7I _ (by decide) (n:=n) (by exact hn),zgv,zgw,zdc (Nat.le_trans hj hl),zc2]
 by_cases h2:kindO (tks l j).head? = 2
 ·have hlt:=z4V (by decide) h2
  by_cases hm:textO (tks l j).head? ∈ z7I
  ·have h1:z7I.idxOf (textO (tks l j).head?)<6:=List.idxOf_lt_length_of_mem hm
   have hw:IntKind.i64.wrap (1+(z7I.idxOf (textO (tks l j).head?):Int))=(z7I.idxOf (textO (tks l j).head?):Int)+1:=by rw [w64 (by omega) (by omega)]; omega
   have h0:¬((z7I.idxOf (textO (tks l j).head?):Int)+1=0):=by omega
   simp only [hm,h2,hw,h0,yS,and_self,ne_eq,yV,yP,Bool.or_self,yJ,bindJ,z1f _ hlt]
   rfl
  ·simp only [hm,h2,yR,and_false,show IntKind.i64.wrap (1 + -1)=0 from rfl,yQ,Bool.or_true,yK,bindJ,pbind]
   rfl
 ·simp only [h2,false_and,yR,ne_eq,yZ,yQ,Bool.true_or,yK,bindJ,pbind]
  rfl
theorem zm1 (hl:l.length≤1000000) {n N:Nat} (h6:6<n) (hn:l.length<n) (hN:l.length<N):Ag l fin 0 (fun e:List Int=>e) (z5E n) (z62.bind fun e=>listP z62 N [e]):=by
 intro j hk hj
 unfold z5E
 refine z4r (zkv hl h6) hk hj fun x i h1 h2=>?_
 have:=zg2 (m:=fun e:Int=>e) hl (zkv (l:=l) (fin:=fin) hl h6) n N i [x] (by omega) h2 (by simp) (by omega) (by omega)
 rw [show (List.map (fun e:Int=>e))=fun l=>l from funext List.map_id'] at this
 exact this
end
variable {l : List Lx} {fin : Int}
theorem zfj (v:List UInt8) (h:v∈z5y):v=[112,97,116,116,101,114,110]↔z5y.idxOf v=0:=by
 revert h; revert v
 decide
theorem zfa (inner:Bool) (t:Option Tk) {c:Int} (hc:c=IntKind.i64.wrap (1+(if textO t∈z5y then (z5y.idxOf (textO t):Int) else -1))) :
  ((decide (kindO t≠2) || decide (c=0)) || (decide (c≠1) && (!(inner == (decide (12≤c))))))=decide (z9B inner t=0)∧(z9B inner t≠0→c=z9B inner t∧kindO t=2):=by
 by_cases hm:textO t∈z5y
 ·have h1:z5y.idxOf (textO t)<17:=List.idxOf_lt_length_of_mem hm
  rw [if_pos hm,w64 (by omega) (by omega)] at hc
  have hp:=zfj _ hm
  unfold z9B
  generalize z5y.idxOf (textO t)=x at *
  by_cases h2:kindO t=2
  ·by_cases h0:x=0
   ·have h3:=hp.2 h0
    have e:c=1:=by omega
    have d:(kindO t=2∧textO t∈z5y∧(textO t=[112,97,116,116,101,114,110]∨inner=decide (11≤x))):=⟨h2,hm,.inl h3⟩
    rw [if_pos d,e,h2,h0]; cases inner <;> decide
   ·have h3:textO t≠[112,97,116,116,101,114,110]:=fun q=>h0 (hp.1 q)
    have e1:c≠0:=by omega
    have e2:c≠1:=by omega
    have e3:decide (12≤c)=decide (11≤x):=by rw [decide_eq_decide]; omega
    have e4:¬((x:Int)+1=0):=by omega
    rw [e3]
    by_cases d:inner=decide (11≤x)
    ·rw [if_pos ⟨h2,hm,.inr d⟩,h2,d]
     refine ⟨by simp [e1,e2,e4],fun _=>⟨by omega,rfl⟩⟩
    ·rw [if_neg (fun q=>q.2.2.elim h3 d),h2]
     refine ⟨by simp [e1,e2,d],fun q=>absurd rfl q⟩
  ·have d:¬(kindO t=2∧textO t∈z5y∧(textO t=[112,97,116,116,101,114,110]∨inner=decide (11≤x))):=fun q=>h2 q.1
   rw [if_neg d]
   exact ⟨by simp [h2],fun q=>absurd rfl q⟩
 ·rw [if_neg hm] at hc
  have e:c=0:=hc
  have d:z9B inner t=0:=if_neg fun q=>hm q.2.1
  rw [d,e]
  exact ⟨by simp,fun q=>absurd rfl q⟩
end Go.Proofs.YtcmaoifiiigggaaGreatDoor
