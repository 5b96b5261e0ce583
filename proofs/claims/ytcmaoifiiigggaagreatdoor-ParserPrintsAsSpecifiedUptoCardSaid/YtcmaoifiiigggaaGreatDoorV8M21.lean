/-
  Texts that stand side by side: PsP, Qa, Qb, LexP, LPa, LPb, LPc, LPd, Qc, Qd, Qe, Qf, Qg, Qh, Qi, Qj, Qk, Ql, Qm, Qn, Qo, Qp, Qq.
-/
import Derived.Test.YtcmaoifiiigggaaGreatDoorV8Fc
set_option linter.unusedSimpArgs false
set_option linter.unusedVariables false
namespace Go.Ps
abbrev Tk:=Int×List UInt8
inductive Ps (α:Type):Type where
 | ret (a:α):Ps α
 | bad:Ps α
 | look (k:Option Tk→Nat→Ps α):Ps α
 | skip (p:Ps α):Ps α
variable {α β : Type}
def Ps.bind:Ps α→(α→Ps β)→Ps β
 | .ret a,k=>k a
 | .bad,_=>.bad
 | .look f,k=>.look fun t i=>(f t i).bind k
 | .skip p,k=>.skip (p.bind k)
inductive Out (α:Type):Type where
 | ok (a:α) (i:Nat) (r:List Tk):Out α
 | bad (i:Nat) (r:List Tk):Out α
def Ps.run:Ps α→Nat→List Tk→Out α
  | .ret a,i,ts=>.ok a i ts
  | .bad,i,ts=>.bad i ts
  | .look f,i,ts=>(f ts.head? i).run i ts
  | .skip p, i, ts => match ts with
    | []=>p.run i []
    | _::r=>p.run (i+1) r
def Out.andThen:Out α→(α→Nat→List Tk→Out β)→Out β
 | .ok a i r,k=>k a i r
 | .bad i r,_=>.bad i r
theorem zA (a:α) (i:Nat) (ts:List Tk):(Ps.ret a).run i ts = .ok a i ts:=rfl
theorem run_skip (p:Ps α) (i:Nat) (t:Tk) (r:List Tk):(Ps.skip p).run i (t::r)=p.run (i+1) r:=rfl
theorem run_bind (k:α→Ps β):∀ (p:Ps α) (i:Nat) (ts:List Tk),(p.bind k).run i ts=(p.run i ts).andThen fun a i r=>(k a).run i r
 | .ret _,_,_=>rfl
 | .bad,_,_=>rfl
 | .look f,i,ts=>run_bind k (f ts.head? i) i ts
 | .skip p,i,[]=>run_bind k p i []
 | .skip p,i,_::r=>run_bind k p (i+1) r
theorem zbV:∀ (p:Ps α) (i:Nat) (ts:List Tk),match p.run i ts with
    | .ok _ j r=>∃ c,ts=c++r∧j=i+c.length
    | .bad j r=>∃ c,ts=c++r∧j=i+c.length
  | .ret _,_,_=>⟨[],rfl,rfl⟩
  | .bad,_,_=>⟨[],rfl,rfl⟩
  | .look f,i,ts=>zbV (f ts.head? i) i ts
  | .skip p,i,[]=>zbV p i []
  | .skip p, i, t :: r => by
    have h:=zbV p (i+1) r
    show match p.run (i+1) r with | .ok _ j r'=>∃ c,t::r=c++r'∧j=i+c.length | .bad j r'=>∃ c,t::r=c++r'∧j=i+c.length
    revert h
    cases p.run (i+1) r with
    | ok a j r'=>rintro ⟨c,rfl,rfl⟩; exact ⟨t::c,rfl,by simp; omega⟩
    | bad j r'=>rintro ⟨c,rfl,rfl⟩; exact ⟨t::c,rfl,by simp; omega⟩
theorem zdM (t:Tk) (r:List Tk):∀ (p:Ps α) (i:Nat) (pre:List Tk) (j:Nat),p.run i (pre++t::r) = .bad j (t::r)→(∃ a k q,p.run i pre = .ok a k q)∨∃ k,p.run i pre = .bad k []
  | .ret _,_,_,_,h=>by cases h
  | .bad, i, pre, j, h => by
    have h' : Out.bad (α:=α) i (pre++t::r) = .bad j (t::r):=h
    simp only [Out.bad.injEq] at h'
    have:pre=[]:=by
      have:=congrArg List.length h'.2
      simp at this
      exact this
    subst this
    exact .inr ⟨i,rfl⟩
  | .look f, i, [], j, h => by
    -- at the end: whatever is looked at is the end
    have key:∀ (p:Ps α) (i:Nat),(∃ a k q,p.run i [] = .ok a k q)∨∃ k,p.run i [] = .bad k []:=by
      intro p i
      have hl:=zbV p i []
      cases hp:p.run i [] with
      | ok a k q=>exact .inl ⟨a,k,q,rfl⟩
      | bad k q =>
        rw [hp] at hl
        obtain ⟨c,hc,_⟩:=hl
        have:q=[]:=(List.append_eq_nil_iff.1 hc.symm).2
        subst this
        exact .inr ⟨k,rfl⟩
    exact key _ i
  | .look f,i,x::pre,j,h=>zdM t r (f (some x) i) i (x::pre) j h
  | .skip p, i, [], j, h => by
    exfalso
    have h' : p.run (i+1) r = .bad j (t::r):=h
    have hl:=zbV p (i+1) r
    rw [h'] at hl
    obtain ⟨c,hc,_⟩:=hl
    have:=congrArg List.length hc
    simp at this
    omega
  | .skip p,i,_::pre,j,h=>zdM t r p (i+1) pre j h
end Go.Ps
namespace Go.Proofs.YtcmaoifiiigggaaGreatDoor
open Go.Abs Go.Ps
abbrev E:=zi
abbrev St:=zm
abbrev Cl:=zl
def isK (k:Int) (s:List UInt8):Option Tk→Bool
 | none=>false
 | some t=>decide (t.1=k) && decide (t.2=s)
def kindO:Option Tk→Int
 | none=>0
 | some t=>t.1
def textO:Option Tk→List UInt8
 | none=>[]
 | some t=>t.2
abbrev wrd (s:List UInt8):=isK 2 s
abbrev sgn (s:List UInt8):=isK 5 s
def z5y:List (List UInt8):=[[112,97,116,116,101,114,110],[116,97,103,115],[102,114,101,115,104],[115,116,97,108,101],[100,111,119,110],[110,101,103,97,116,105,118,101],[99,111,115,116],[118,97,114,121],[97,108,108,111,119],[115,105,103,110,101,100],[112,114,111,103,114,97,109],[102,114,111,109],[116,111],[99,108,105,101,110,116,115],[99,111,117,110,116,114,105,101,115],[115,105,116,101,115],[117,115,101,115]]
def z7I:List (List UInt8):=[[114,101,97,100,115],[119,114,105,116,101,115],[115,116,97,116,117,115],[108,111,103],[100,101,110,121],[114,101,112,108,121]]
open Go.Abs Go.Ps
mutual
def atE (g:Int→Int):E→E
 | ⟨op,a,s,l⟩=>⟨op,g a,s,atEs g l⟩
def atEs (g:Int→Int):List E→List E
 | []=>[]
 | x::r=>atE g x::atEs g r
end
mutual
def atS (g:Int→Int):St→St
 | ⟨k,a,n,x,b,e⟩=>⟨k,g a,n,atE g x,atSs g b,atSs g e⟩
def atSs (g:Int→Int):List St→List St
 | []=>[]
 | x::r=>atS g x::atSs g r
end
def atA (g:Int→Int) (a:z1r):z1r:=⟨a.Number,a.Unit,g a.At⟩
mutual
def atC (g:Int→Int):Cl→Cl
 | ⟨k,a,n,t,am,d,h,c⟩=>⟨k,g a,n,t,atA g am,d,h,atCs g c⟩
def atCs (g:Int→Int):List Cl→List Cl
 | []=>[]
 | x::r=>atC g x::atCs g r
end
def atR (g:Int→Int) (r:zQ):zQ:=⟨r.Name,g r.At,atCs g r.Clauses⟩
def atP (g:Int→Int) (p:zL):zL:=⟨p.Name,g p.At,p.Rules.map (atR g)⟩
def atPr (g:Int→Int) (p:zI):zI:=⟨p.Name,g p.At,p.Effects,atSs g p.Code⟩
def atSrc (g:Int→Int) (x:zG):zG:=⟨x.Policies.map (atP g),x.Programs.map (atPr g)⟩
theorem zhS (g:Int→Int):∀ l:List E,atEs g l=l.map (atE g)
 | []=>rfl
 | x::r=>by rw [atEs,zhS g r]; rfl
theorem z6Z (g:Int→Int):∀ l:List St,atSs g l=l.map (atS g)
 | []=>rfl
 | x::r=>by rw [atSs,z6Z g r]; rfl
theorem zdS (g:Int→Int):∀ l:List Cl,atCs g l=l.map (atC g)
 | []=>rfl
 | x::r=>by rw [atCs,zdS g r]; rfl
end Go.Proofs.YtcmaoifiiigggaaGreatDoor
namespace Go.Lex
def sm (b:UInt8):Bool:=decide (97≤b.toNat) && decide (b.toNat≤122)
def dg (b:UInt8):Bool:=decide (48≤b.toNat) && decide (b.toNat≤57)
def rst (b:UInt8):Bool:=sm b || dg b || decide (b=95)
def ltr (b:UInt8):Bool:=rst b || (decide (65≤b.toNat) && decide (b.toNat≤90))
def spc (b:UInt8):Bool:=decide (b=32) || decide (b=9) || decide (b=10) || decide (b=13)
def skipP:Bool→List UInt8→List UInt8
 | _,[]=>[]
 | true,b::r=>if b=10 then skipP false r else skipP true r
 | false,b::r=>if b=35 then skipP true r else if spc b then skipP false r else b::r
def txtP:List UInt8→List UInt8→Sum Int (Int×List UInt8×List UInt8)
  | _,[]=>.inl 182
  | out, b :: r =>
    if b=34 then (if 200<out.length then .inl 182 else .inr (4,out,r))
    else if b=92 then (match r with
      | []=>.inl 182
      | c::r'=>if c=34∨c=92 then txtP (out++[c]) r' else .inl 182)
    else if b.toNat<32∨126<b.toNat then .inl 182 else txtP (out++[b]) r
def longs:List (List UInt8):=[[61,61],[33,61],[60,61],[62,61],[46,46]]
def shorts:List UInt8:=[123,125,40,41,91,93,44,59,58,61,60,62,43,45,42,47,37]
def sgnP:List UInt8→Sum Int (Int×List UInt8×List UInt8)
 | []=>.inl 180
 | [b]=>if b∈shorts then .inr (5,[b],[]) else .inl 180
 | b::c::r=>if [b,c]∈longs then .inr (5,[b,c],r) else if b∈shorts then .inr (5,[b],c::r) else .inl 180
def zfM (w r:List UInt8):Bool:=decide (18<w.length) || (decide (w.head? = some 48) && decide (1<w.length)) || (match r with | []=>false | c::_=>ltr c)
def numP (s:List UInt8):Sum Int (Int×List UInt8×List UInt8):=
 if zfM (s.takeWhile dg) (s.dropWhile dg) then .inl 181 else .inr (3,s.takeWhile dg,s.dropWhile dg)
def namP (kw:List (List UInt8)) (s:List UInt8):Sum Int (Int×List UInt8×List UInt8):=
 if s.takeWhile rst∈kw then .inr (2,s.takeWhile rst,s.dropWhile rst) else if 40<(s.takeWhile rst).length then .inl 2 else .inr (1,s.takeWhile rst,s.dropWhile rst)
def nextP (kw:List (List UInt8)):List UInt8→Sum Int (Int×List UInt8×List UInt8)
 | []=>.inl 180
 | b::r=>if sm b then namP kw (b::r) else if dg b then numP (b::r) else if b=34 then txtP [] r else sgnP (b::r)
def toksP (kw:List (List UInt8)):Nat→List UInt8→List (Int×Nat×List UInt8)×Option (Nat×Int)
  | 0,_=>([],none)
  | f + 1, s => match skipP false s with
    | []=>([],none)
    | b :: r => match nextP kw (b :: r) with
      | .inl e=>([],some (r.length+1,e))
      | .inr (k,w,rest)=>((k,r.length+1,w)::(toksP kw f rest).1,(toksP kw f rest).2)
theorem z6g {kw:List (List UInt8)} {s:List UInt8} (h:skipP false s=[]) (f:Nat):toksP kw f s=([],none):=by
 cases f with
 | zero=>rfl
 | succ f=>show (match skipP false s with | []=>_ | b::r=>_)=_; rw [h]
theorem z8H {kw:List (List UInt8)} {s r:List UInt8} {b:UInt8} {e:Int} (h:skipP false s=b::r) (hn:nextP kw (b::r) = .inl e) (f:Nat):toksP kw (f+1) s=([],some (r.length+1,e)):=by
 show (match skipP false s with | []=>_ | b::r=>_)=_
 rw [h]
 show (match nextP kw (b::r) with | .inl e=>_ | .inr (k,w,rest)=>_)=_
 rw [hn]
theorem z7O {kw:List (List UInt8)} {s r w rest:List UInt8} {b:UInt8} {k:Int} (h:skipP false s=b::r) (hn:nextP kw (b::r) = .inr (k,w,rest)) (f:Nat) :
  toksP kw (f+1) s=((k,r.length+1,w)::(toksP kw f rest).1,(toksP kw f rest).2):=by
 show (match skipP false s with | []=>_ | b::r=>_)=_
 rw [h]
 show (match nextP kw (b::r) with | .inl e=>_ | .inr (k,w,rest)=>_)=_
 rw [hn]
theorem z6k (kw:List (List UInt8)) (b:UInt8) (r:List UInt8):nextP kw (b::r)=if sm b then namP kw (b::r) else if dg b then numP (b::r) else if b=34 then txtP [] r else sgnP (b::r):=rfl
theorem zdP (b:UInt8):sgnP [b]=if b∈shorts then .inr (5,[b],[]) else .inl 180:=rfl
theorem zbw (b c:UInt8) (r:List UInt8):sgnP (b::c::r)=if [b,c]∈longs then .inr (5,[b,c],r) else if b∈shorts then .inr (5,[b],c::r) else .inl 180:=rfl
theorem zaO (out:List UInt8):txtP out [] = .inl 182:=by rw [txtP.eq_def]
theorem z5s (out:List UInt8) (b:UInt8) (r:List UInt8):txtP out (b::r)=if b=34 then (if 200<out.length then .inl 182 else .inr (4,out,r))
 else if b=92 then (match r with
  | []=>.inl 182
  | c::r'=>if c=34∨c=92 then txtP (out++[c]) r' else .inl 182)
 else if b.toNat<32∨126<b.toNat then .inl 182 else txtP (out++[b]) r:=by rw [txtP.eq_def]
theorem ziz (b:UInt8) (r:List UInt8):skipP true (b::r)=if b=10 then skipP false r else skipP true r:=rfl
theorem zav (b:UInt8) (r:List UInt8):skipP false (b::r)=if b=35 then skipP true r else if spc b then skipP false r else b::r:=rfl
theorem zd3:∀ (c:Bool) (s:List UInt8),(skipP c s).length≤s.length
  | c,[]=>by cases c <;> simp [skipP]
  | true, b :: r => by
    have h1:=zd3 true r; have h2:=zd3 false r
    unfold skipP; split <;> simp <;> omega
  | false, b :: r => by
    have h1:=zd3 true r; have h2:=zd3 false r
    unfold skipP; split
    · simp; omega
    · split <;> simp; omega
theorem zgQ:∀ (c:Bool) (s:List UInt8),∃ p,s=p++skipP c s
  | c,[]=>⟨[],by cases c <;> simp [skipP]⟩
  | true, b :: r => by
    obtain ⟨p1,h1⟩:=zgQ true r; obtain ⟨p2,h2⟩:=zgQ false r
    unfold skipP; split
    · exact ⟨b::p2,by simpa using h2⟩
    · exact ⟨b::p1,by simpa using h1⟩
  | false, b :: r => by
    obtain ⟨p1,h1⟩:=zgQ true r; obtain ⟨p2,h2⟩:=zgQ false r
    unfold skipP; split
    · exact ⟨b::p1,by simpa using h1⟩
    · split
      · exact ⟨b::p2,by simpa using h2⟩
      · exact ⟨[],rfl⟩
theorem zsO:∀ (n:Nat) (s out:List UInt8) (k:Int) (w r:List UInt8),s.length≤n→txtP out s = .inr (k,w,r)→r.length<s.length:=by
  intro n
  induction n with
  | zero =>
    intro s out k w r hn h
    match s,hn with
    | [],_=>rw [zaO] at h; cases h
  | succ n ih =>
    intro s out k w r hn h
    match s,hn with
    | [],_=>rw [zaO] at h; cases h
    | b :: t, hn =>
      rw [z5s] at h
      split at h
      · split at h
        · cases h
        · cases h; simp
      · split at h
        · match t,hn,h with
          | [],_,h=>cases h
          | c :: t', hn, h =>
            simp only at h
            split at h
            · have:=ih t' _ _ _ _ (by simp at hn; omega) h
              simp; omega
            · cases h
        · split at h
          · cases h
          · have:=ih t _ _ _ _ (by simp at hn; omega) h
            simp; omega
theorem zlZ {p:UInt8→Bool} (s:List UInt8):(s.dropWhile p).length≤s.length:=List.Sublist.length_le (List.dropWhile_sublist _)
theorem zfg {kw:List (List UInt8)} {s:List UInt8} {k:Int} {w r:List UInt8} (h:nextP kw s = .inr (k,w,r)):r.length<s.length:=by
  match s,h with
  | b :: t, h =>
    rw [z6k] at h
    split at h
    · rename_i hb
      have hr:rst b=true:=by unfold rst; rw [hb]; rfl
      have:=zlZ (p:=rst) t
      unfold namP at h
      rw [List.dropWhile_cons_of_pos hr] at h
      split at h
      · cases h; simp; omega
      · split at h
        · cases h
        · cases h; simp; omega
    · split at h
      · rename_i hb
        have:=zlZ (p:=dg) t
        unfold numP at h
        rw [List.dropWhile_cons_of_pos hb] at h
        split at h
        · cases h
        · cases h; simp; omega
      · split at h
        · have:=zsO _ _ _ _ _ _ (Nat.le_refl _) h
          simp; omega
        · match t,h with
          | [], h =>
            rw [zdP] at h
            split at h
            · cases h; simp
            · cases h
          | c :: t', h =>
            rw [zbw] at h
            split at h
            · cases h; simp; omega
            · split at h
              · cases h; simp
              · cases h
theorem zsP:∀ (n:Nat) (s out:List UInt8) (k:Int) (w r:List UInt8),s.length≤n→txtP out s = .inr (k,w,r)→r <:+ s:=by
  intro n
  induction n with
  | zero =>
    intro s out k w r hn h
    match s,hn with
    | [],_=>rw [zaO] at h; cases h
  | succ n ih =>
    intro s out k w r hn h
    match s,hn with
    | [],_=>rw [zaO] at h; cases h
    | b :: t, hn =>
      rw [z5s] at h
      split at h
      · split at h
        · cases h
        · cases h; exact List.suffix_cons _ _
      · split at h
        · match t,hn,h with
          | [],_,h=>cases h
          | c :: t', hn, h =>
            simp only at h
            split at h
            · exact ((ih t' _ _ _ _ (by simp at hn; omega) h).trans (List.suffix_cons _ _)).trans (List.suffix_cons _ _)
            · cases h
        · split at h
          · cases h
          · exact (ih t _ _ _ _ (by simp at hn; omega) h).trans (List.suffix_cons _ _)
theorem zmE {kw:List (List UInt8)} {s:List UInt8} {k:Int} {w r:List UInt8} (h:nextP kw s = .inr (k,w,r)):r <:+ s:=by
  match s,h with
  | b :: t, h =>
    rw [z6k] at h
    split at h
    · unfold namP at h
      split at h
      · cases h; exact List.dropWhile_suffix _
      · split at h
        · cases h
        · cases h; exact List.dropWhile_suffix _
    · split at h
      · unfold numP at h
        split at h
        · cases h
        · cases h; exact List.dropWhile_suffix _
      · split at h
        · exact (zsP _ _ _ _ _ _ (Nat.le_refl _) h).trans (List.suffix_cons _ _)
        · match t,h with
          | [], h =>
            rw [zdP] at h
            split at h
            · cases h; exact List.suffix_cons _ _
            · cases h
          | c :: t', h =>
            rw [zbw] at h
            split at h
            · cases h; exact (List.suffix_cons _ _).trans (List.suffix_cons _ _)
            · split at h
              · cases h; exact List.suffix_cons _ _
              · cases h
theorem zdp:∀ (c:Bool) (s:List UInt8) (b:UInt8) (r:List UInt8),skipP c s=b::r→b≠35∧spc b=false
  | true,[],b,r,h=>by simp [skipP] at h
  | false,[],b,r,h=>by simp [skipP] at h
  | true, c :: s, b, r, h => by
    rw [ziz] at h
    split at h
    · exact zdp false s b r h
    · exact zdp true s b r h
  | false, c :: s, b, r, h => by
    rw [zav] at h
    split at h
    · exact zdp true s b r h
    · split at h
      · exact zdp false s b r h
      · cases h
        rename_i h1 h2
        exact ⟨h1,by simpa using h2⟩
theorem zeY (c:Bool) (s:List UInt8):skipP false (skipP c s)=skipP c s:=by
  cases h:skipP c s with
  | nil=>rfl
  | cons b r =>
    obtain ⟨h1,h2⟩:=zdp c s b r h
    rw [zav,if_neg h1,h2]
    rfl
theorem z7G (kw:List (List UInt8)) (f:Nat) (s:List UInt8):toksP kw f (skipP false s)=toksP kw f s:=by
  cases hs:skipP false s with
  | nil=>rw [z6g hs,z6g rfl]
  | cons b r =>
    have h2:skipP false (b::r)=b::r:=by rw [← hs,zeY]
    cases f with
    | zero=>rfl
    | succ f =>
      cases hn:nextP kw (b::r) with
      | inl e=>rw [z8H hs hn,z8H h2 hn]
      | inr q=>obtain ⟨k,w,rest⟩:=q; rw [z7O hs hn,z7O h2 hn]
theorem zdq (c:Bool) (s:List UInt8):skipP c s <:+ s:=by
 obtain ⟨p,h⟩:=zgQ c s
 exact ⟨p,h.symm⟩
theorem z8G {r s:List UInt8} (h:r <:+ s):s.drop (s.length - r.length)=r:=(List.suffix_iff_eq_drop.1 h).symm
theorem zaN (kw:List (List UInt8)):∀ (f g:Nat) (s:List UInt8),s.length<f→s.length<g→toksP kw f s=toksP kw g s
  | 0,_,_,h,_=>by omega
  | _,0,_,_,h=>by omega
  | f + 1, g + 1, s, h1, h2 => by
    have hl:=zd3 false s
    cases hs:skipP false s with
    | nil=>rw [z6g hs,z6g hs]
    | cons b r =>
      rw [hs] at hl
      cases hn:nextP kw (b::r) with
      | inl e=>rw [z8H hs hn,z8H hs hn]
      | inr q =>
        obtain ⟨k,w,rest⟩:=q
        have:=zfg hn
        rw [z7O hs hn,z7O hs hn,zaN kw f g rest (by simp at hl this; omega) (by simp at hl this; omega)]
theorem zsN:∀ (n:Nat) (s out:List UInt8) (e:Int),s.length≤n→txtP out s = .inl e→e=182:=by
  intro n
  induction n with
  | zero =>
    intro s out e hn h
    match s,hn with
    | [],_=>rw [zaO] at h; cases h; rfl
  | succ n ih =>
    intro s out e hn h
    match s,hn with
    | [],_=>rw [zaO] at h; cases h; rfl
    | b :: t, hn =>
      rw [z5s] at h
      split at h
      · split at h
        · cases h; rfl
        · cases h
      · split at h
        · match t,hn,h with
          | [],_,h=>cases h; rfl
          | c :: t', hn, h =>
            simp only at h
            split at h
            · exact ih t' _ _ (by simp at hn; omega) h
            · cases h; rfl
        · split at h
          · cases h; rfl
          · exact ih t _ _ (by simp at hn; omega) h
theorem zmD {kw:List (List UInt8)} {s:List UInt8} {e:Int} (h:nextP kw s = .inl e):e≠0:=by
  match s,h with
  | [],h=>cases h; decide
  | b :: t, h =>
    rw [z6k] at h
    split at h
    · unfold namP at h
      split at h
      · cases h
      · split at h
        · cases h; decide
        · cases h
    · split at h
      · unfold numP at h
        split at h
        · cases h; decide
        · cases h
      · split at h
        · rw [zsN _ _ _ _ (Nat.le_refl _) h]; decide
        · match t,h with
          | [], h =>
            rw [zdP] at h
            split at h
            · cases h
            · cases h; decide
          | c :: t', h =>
            rw [zbw] at h
            split at h
            · cases h
            · split at h
              · cases h
              · cases h; decide
def andThen (y:List UInt8):Sum Int (Int×List UInt8×List UInt8)→Sum Int (Int×List UInt8×List UInt8)
 | .inl e=>.inl e
 | .inr (k,w,r)=>.inr (k,w,r++y)
end Go.Lex
namespace Go.Proofs.YtcmaoifiiigggaaGreatDoor
open Go.Abs Go.Lex
theorem z2v {α β:Type} {l:List α} {i:Nat} (h:i<l.length) (k:α→Option β):idx l (i:Int) k=k l[i]:=by
 rw [z4e (List.getElem?_eq_getElem h)]
theorem zpj (p:UInt8→Bool):∀ l:List UInt8,l.take (l.takeWhile p).length=l.takeWhile p∧l.drop (l.takeWhile p).length=l.dropWhile p
  | []=>⟨rfl,rfl⟩
  | b :: r => by
    obtain ⟨h1,h2⟩:=zpj p r
    cases hb:p b with
    | true=>simp [List.takeWhile_cons_of_pos hb,List.dropWhile_cons_of_pos hb,h1,h2]
    | false => have hb' : ¬ p b = true := by simp [hb]
               simp [List.takeWhile_cons_of_neg hb',List.dropWhile_cons_of_neg hb']
theorem tw_le (p:UInt8→Bool) (l:List UInt8):(l.takeWhile p).length≤l.length:=List.Sublist.length_le (List.takeWhile_sublist _)
theorem z4Q {s:List UInt8} {i:Nat} (h:i<s.length):s.drop i=s[i]::s.drop (i+1):=List.drop_eq_getElem_cons h
theorem zc0 {R:Type} (p:UInt8→Bool) (s:List UInt8) (hs:s.length≤1000000) (step:Int→Option (Lp Int (Lp Int R)))
    (h1:∀ i (h:i<s.length),step (i:Int)=if p s[i] then some (.go ((i+1:Nat):Int)) else some (.stop (.go (i:Int)))) (h2:step (s.length:Int)=some (.stop (.go (s.length:Int))))
    (a:Nat) (ha:a≤s.length) (n:Nat) (hn:s.length<n):iter step n (a:Int)=some (.go ((a+((s.drop a).takeWhile p).length:Nat):Int)):=by
  obtain ⟨r,e,rfl⟩:=z71 (step:=step) (fun x=>∃ i:Nat,x=(i:Int)∧i≤s.length∧i+((s.drop i).takeWhile p).length=a+((s.drop a).takeWhile p).length) (fun x=>s.length - x.toNat) (fun r=>r = .go ((a+((s.drop a).takeWhile p).length:Nat):Int)) (by
    rintro x ⟨i,rfl,hi,hk⟩
    by_cases hlt:i<s.length
    · rw [h1 i hlt]
      rw [z4Q hlt] at hk
      cases hp:p s[i] with
      | true =>
        rw [List.takeWhile_cons_of_pos hp] at hk
        refine .inl ⟨_,rfl,⟨i+1,rfl,by omega,?_⟩,by simp; omega⟩
        rw [← hk]; simp; omega
      | false =>
        have hp' : ¬ p s[i]=true:=by simp [hp]
        rw [List.takeWhile_cons_of_neg hp'] at hk
        simp only [yN,yR]
        refine .inr ⟨_,rfl,?_⟩
        rw [← hk]; simp
    · obtain rfl:i=s.length:=by omega
      rw [h2]
      refine .inr ⟨_,rfl,?_⟩
      rw [← hk]; simp) n a ⟨a,rfl,ha,rfl⟩ (by simp; omega)
  exact e
theorem zka (b:UInt8):z82 (b.toNat:Int)=some (sm b):=by
 unfold z82 sm
 congr 1
 rw [Bool.eq_iff_iff]; simp only [Bool.and_eq_true,decide_eq_true_eq]; omega
theorem zhX (b:UInt8):z6s (b.toNat:Int)=some (dg b):=by
 unfold z6s dg
 congr 1
 rw [Bool.eq_iff_iff]; simp only [Bool.and_eq_true,decide_eq_true_eq]; omega
theorem z61 (b c:UInt8) (k:Int) (h:(c.toNat:Int)=k):decide ((b.toNat:Int)=k)=decide (b=c):=by
 subst h
 rw [decide_eq_decide]
 constructor
 ·intro h; exact UInt8.toNat_inj.1 (by omega)
 ·intro h; rw [h]
theorem zoZ (b:UInt8):z6t (b.toNat:Int)=some (rst b):=by
 unfold z6t
 rw [zka,zhX]
 simp only [obind,yO]
 rw [z61 b 95 95 rfl]
 unfold rst
 cases sm b <;> simp [z1N]
theorem zuf (b:UInt8):z3K (b.toNat:Int)=some (spc b):=by
 unfold z3K spc
 rw [z61 b 32 32 rfl,z61 b 9 9 rfl,z61 b 10 10 rfl,z61 b 13 13 rfl]
theorem nl_eq (b:UInt8):z3z (b.toNat:Int)=some (!decide (b=10)):=by
 unfold z3z
 rw [← z61 b 10 10 rfl]
 simp
theorem z8M {s:List UInt8} {p:UInt8→Bool} {a:Nat} (ha:a≤s.length) :
  (s.take (a+((s.drop a).takeWhile p).length)).drop a=(s.drop a).takeWhile p∧s.drop (a+((s.drop a).takeWhile p).length)=(s.drop a).dropWhile p∧a+((s.drop a).takeWhile p).length≤s.length:=by
 obtain ⟨h1,h2⟩:=zpj p (s.drop a)
 have h3:=tw_le p (s.drop a)
 rw [List.length_drop] at h3
 refine ⟨?_,?_,by omega⟩
 ·rw [List.drop_take,Nat.add_sub_cancel_left,h1]
 ·rw [← List.drop_drop,h2]
theorem zuC (s:List UInt8) (hs:s.length≤1000000) (a:Nat) (ha:a≤s.length) (n:Nat) (hn:s.length<n) :
  z3W n ⟨s,a⟩=some ((s.drop a).takeWhile spc,⟨s,((a+((s.drop a).takeWhile spc).length:Nat):Int)⟩):=by
 unfold z3W
 simp only
 rw [zc0 spc s hs _ (fun i h=>by
  unfold z4m
  simp only
  rw [yM (by omega),yK,z2v h,zuf]
  simp only [obind,yO,z1N]
  rw [w64 (by omega) (by omega)]
  cases spc s[i] <;> rfl) (by
  unfold z4m
  simp only
  rw [yL (by omega),yJ,z1N,yJ]) a ha n hn,z1N]
 obtain ⟨h1,h2,h3⟩:=z8M (s:=s) (p:=spc) ha
 rw [z1n (by omega),yY,yY,h1]
theorem zuD (s:List UInt8) (hs:s.length≤1000000) (a:Nat) (ha:a≤s.length) (n:Nat) (hn:s.length<n) :
  z3A n ⟨s,a⟩=some ((s.drop a).takeWhile (fun b=>!decide (b=10)),⟨s,((a+((s.drop a).takeWhile (fun b=>!decide (b=10))).length:Nat):Int)⟩):=by
 unfold z3A
 simp only
 rw [zc0 (fun b=>!decide (b=10)) s hs _ (fun i h=>by
  unfold z43
  simp only
  rw [yM (by omega),yK,z2v h,nl_eq]
  simp only [obind,yO,z1N]
  rw [w64 (by omega) (by omega)]
  cases decide (s[i]=10) <;> rfl) (by
  unfold z43
  simp only
  rw [yL (by omega),yJ,z1N,yJ]) a ha n hn,z1N]
 obtain ⟨h1,h2,h3⟩:=z8M (s:=s) (p:=fun b=>!decide (b=10)) ha
 rw [z1n (by omega),yY,yY,h1]
theorem zuE (s:List UInt8) (hs:s.length≤1000000) (a:Nat) (ha:a≤s.length) (n:Nat) (hn:s.length<n) :
  z3B n ⟨s,a⟩=some ((s.drop a).takeWhile rst,⟨s,((a+((s.drop a).takeWhile rst).length:Nat):Int)⟩):=by
 unfold z3B
 simp only
 rw [zc0 rst s hs _ (fun i h=>by
  unfold z44
  simp only
  rw [yM (by omega),yK,z2v h,zoZ]
  simp only [obind,yO,z1N]
  rw [w64 (by omega) (by omega)]
  cases rst s[i] <;> rfl) (by
  unfold z44
  simp only
  rw [yL (by omega),yJ,z1N,yJ]) a ha n hn,z1N]
 obtain ⟨h1,h2,h3⟩:=z8M (s:=s) (p:=rst) ha
 rw [z1n (by omega),yY,yY,h1]
theorem zuF (s:List UInt8) (hs:s.length≤1000000) (a:Nat) (ha:a≤s.length) (n:Nat) (hn:s.length<n) :
  z3C n ⟨s,a⟩=some ((s.drop a).takeWhile dg,⟨s,((a+((s.drop a).takeWhile dg).length:Nat):Int)⟩):=by
 unfold z3C
 simp only
 rw [zc0 dg s hs _ (fun i h=>by
  unfold z45
  simp only
  rw [yM (by omega),yK,z2v h,zhX]
  simp only [obind,yO,z1N]
  rw [w64 (by omega) (by omega)]
  cases dg s[i] <;> rfl) (by
  unfold z45
  simp only
  rw [yL (by omega),yJ,z1N,yJ]) a ha n hn,z1N]
 obtain ⟨h1,h2,h3⟩:=z8M (s:=s) (p:=dg) ha
 rw [z1n (by omega),yY,yY,h1]
theorem zn3:∀ l:List UInt8,skipP false l=skipP false (l.dropWhile spc)
  | []=>rfl
  | b :: r => by
    cases hb:spc b with
    | true =>
      rw [List.dropWhile_cons_of_pos hb,zav,if_neg (by rintro rfl; simp [spc] at hb),if_pos hb]
      exact zn3 r
    | false=>rw [List.dropWhile_cons_of_neg (by simp [hb])]
theorem zk9:∀ l:List UInt8,skipP true l=skipP false (l.dropWhile fun b=>!decide (b=10))
  | []=>rfl
  | b :: r => by
    rw [ziz]
    by_cases hb:b=10
    · subst hb
      rw [if_pos rfl,List.dropWhile_cons_of_neg (by simp),zav,if_neg (by decide),if_pos (by decide)]
    · rw [if_neg hb,List.dropWhile_cons_of_pos (by simp [hb])]
      exact zk9 r
theorem zhq {p:UInt8→Bool}:∀ (l:List UInt8) (b:UInt8) (r:List UInt8),l.dropWhile p=b::r→p b=false
  | [],b,r,h=>by simp at h
  | c :: l, b, r, h => by
    cases hc:p c with
    | true=>rw [List.dropWhile_cons_of_pos hc] at h; exact zhq l b r h
    | false=>rw [List.dropWhile_cons_of_neg (by simp [hc])] at h; cases h; exact hc
theorem zna (s:List UInt8) (hs:s.length≤1000000) (a:Nat) (ha:a≤s.length) (n:Nat) (hn:s.length+1<n) :
  z2M n ⟨s,a⟩=some ⟨s,((s.length - (skipP false (s.drop a)).length:Nat):Int)⟩:=by
 unfold z2M
 simp only
 obtain ⟨r,e,rfl⟩:=z71 (step:=z4l n) (fun x=>∃ i:Nat,x=(s,(i:Int))∧i≤s.length∧skipP false (s.drop i)=skipP false (s.drop a)) (fun x=>s.length - x.2.toNat) (fun r=>r=⟨s,((s.length - (skipP false (s.drop a)).length:Nat):Int)⟩) (by
  rintro x ⟨i,rfl,hi,hk⟩
  unfold z4l
  simp only
  rw [zuC s hs i hi n (by omega)]
  simp only [obind,yO]
  obtain ⟨h1,h2,h3⟩:=z8M (s:=s) (p:=spc) hi
  rw [zn3 (s.drop i),← h2] at hk
  have hd:=h2
  have hij:i≤i+((s.drop i).takeWhile spc).length:=by omega
  generalize i+((s.drop i).takeWhile spc).length=j at h1 h2 h3 hk hd hij ⊢
  by_cases hj:j=s.length
  ·subst hj
   rw [yM (by rfl),yK,z1N,yK]
   refine .inr ⟨_,rfl,?_⟩
   rw [← hk,List.drop_length]
   rfl
  ·have hjl:j<s.length:=by omega
   rw [yL (by omega),yJ,z2v hjl,z1N]
   have hc:=z4Q hjl
   rw [show decide ((s[j].toNat:Int)≠35) = !decide (s[j]=35) by rw [← z61 s[j] 35 35 rfl]; simp]
   have hsp:spc s[j]=false:=zhq _ _ _ (hd.symm.trans hc)
   by_cases h35:s[j]=35
   ·simp only [h35,yQ,yU,yJ]
    rw [zuD s hs j h3 n (by omega)]
    simp only [yO]
    obtain ⟨g1,g2,g3⟩:=z8M (s:=s) (p:=fun b=>!decide (b=10)) h3
    have hpos:0<((s.drop j).takeWhile fun b=>!decide (b=10)).length:=by
     rw [hc,List.takeWhile_cons_of_pos (by simp [h35])]; simp
    refine .inl ⟨_,rfl,⟨_,rfl,g3,?_⟩,by simp only; omega⟩
    rw [g2,← hk,hc,List.dropWhile_cons_of_pos (by simp [h35]),zav,if_pos h35,zk9]
   ·simp only [h35,yP,yT,yK]
    refine .inr ⟨_,rfl,?_⟩
    rw [← hk,hc,zav,if_neg h35,hsp]
    simp only [yN,yR,zV.mk.injEq,true_and,yC,List.length_drop]
    omega) n (s,(a:Int)) ⟨a,rfl,ha,rfl⟩ (by simp; omega)
 exact e
def kwP:List (List UInt8):=[[97,108,108,111,119],[97,110,100],[99,108,105,101,110,116,115],[99,111,115,116],[99,111,117,110,116,114,105,101,115],[100,101,102,97,117,108,116],[100,101,110,121],[100,111,119,110],[101,102,102,101,99,116,115],[101,108,115,101],[102,97,108,115,101],[102,114,101,115,104],[102,114,111,109],[104,101,97,100,101,114],[105,102],[105,110],[108,101,116],[108,111,103],[110,101,103,97,116,105,118,101],[110,111,116],[111,114],[112,97,116,116,101,114,110],[112,111,108,105,99,121],[112,114,111,103,114,97,109],[114,101,97,100,115],[114,101,112,101,97,116],[114,101,112,108,121],[114,117,108,101],[115,101,116],[115,105,103,110,101,100],[115,105,116,101,115],[115,116,97,108,101],[115,116,97,116,117,115],[116,97,103,115],[116,111],[116,114,117,101],[117,115,101,115],[118,97,114,121],[119,114,105,116,101,115]]
theorem zqN:zdf=some kwP:=by
 unfold zdf zht
 rw [z1n (by decide +kernel)]
 simp only [obind,yO,Option.some.injEq]
 decide +kernel
theorem zpP (l:List (List UInt8)) (hl:l.length≤1000000) (v:List UInt8) (n:Nat) (hn:l.length<n):∃ r,z2o n l v=some r∧((0≤r∧v∈l)∨(r = -1∧v ∉ l)):=by
 unfold z2o
 obtain ⟨r,e,h⟩:=z71 (step:=z26 l v) (fun x=>∃ i:Nat,x=(i:Int)∧i≤l.length∧∀ j (h:j<l.length),j<i→l[j]≠v) (fun x=>l.length - x.toNat)
  (fun r=>(r = .go ()∧v ∉ l)∨∃ i:Int,r = .stop i∧0≤i∧v∈l) (by
  rintro x ⟨i,rfl,hi,hj⟩
  unfold z26
  by_cases hlt:i<l.length
  ·rw [yM (by omega),yK,z2v hlt]
   by_cases hv:v=l[i]
   ·rw [yM hv,yK]
    exact .inr ⟨_,rfl,.inr ⟨_,rfl,by omega,hv ▸ List.getElem_mem hlt⟩⟩
   ·rw [yL hv,yJ,w64 (by omega) (by omega)]
    refine .inl ⟨((i+1:Nat):Int),rfl,⟨i+1,rfl,by omega,fun j a b=>?_⟩,by simp; omega⟩
    by_cases e:j=i
    ·subst e; exact fun q=>hv q.symm
    ·exact hj j a (by omega)
  ·rw [yL (by omega),yJ]
   refine .inr ⟨_,rfl,.inl ⟨rfl,fun hv=>?_⟩⟩
   obtain ⟨j,a,e⟩:=List.getElem_of_mem hv
   exact hj j a (by omega) e) n 0 ⟨0,rfl,by omega,fun j a b=>by omega⟩ (by simp; omega)
 rw [e]
 rcases h with ⟨rfl,h⟩ | ⟨i,rfl,h0,h⟩
 ·exact ⟨-1,rfl,.inr ⟨rfl,h⟩⟩
 ·exact ⟨i,rfl,.inl ⟨h0,h⟩⟩
theorem zhp (l:List (List UInt8)) (hl:l.length≤1000000) (v:List UInt8) (n:Nat) (hn:l.length<n):z2T n l v=some (decide (v∈l)):=by
 unfold z2T
 obtain ⟨r,e,h⟩:=zpP l hl v n hn
 rw [e]
 simp only [obind,yO,Option.some.injEq]
 rw [decide_eq_decide]
 rcases h with ⟨h0,h⟩ | ⟨rfl,h⟩
 ·exact ⟨fun _=>h,fun _=>h0⟩
 ·exact ⟨fun q=>by omega,fun q=>absurd q h⟩
theorem zsV (v:List UInt8) (n:Nat) (hn:100<n):zeo n v=some (decide (v∈kwP)):=by
 unfold zeo
 rw [zqN]
 simp only [obind,yO]
 rw [zhp kwP (by decide +kernel) v n (by have h:kwP.length=39:=(by decide +kernel); omega)]
 rfl
def resP (s:List UInt8):Sum Int (Int×List UInt8×List UInt8)→Pn (z6×zV)
 | .inl e=>.pan e
 | .inr (k,w,r)=>.ret (⟨k,0,w⟩,⟨s,((s.length - r.length:Nat):Int)⟩)
theorem zcl (b:Bool) (e:Int):z9m b e=some (if b then .pan e else .ret ()):=by cases b <;> rfl
theorem zrS (s:List UInt8) (hs:s.length≤1000000) (a:Nat) (ha:a≤s.length) (n:Nat) (hn:s.length+100<n) :
  z3s n ⟨s,a⟩=some (resP s (namP kwP (s.drop a))):=by
 unfold z3s namP
 rw [zuE s hs a ha n (by omega)]
 simp only [obind,yO]
 rw [zsV _ n (by omega)]
 simp only [yO]
 obtain ⟨h1,h2,h3⟩:=z8M (s:=s) (p:=rst) ha
 have hl:=congrArg List.length h2
 rw [List.length_drop] at hl
 have hat:((a+((s.drop a).takeWhile rst).length:Nat):Int)=((s.length - ((s.drop a).dropWhile rst).length:Nat):Int):=by omega
 by_cases hw:(s.drop a).takeWhile rst∈kwP
 ·rw [yM hw,yK,if_pos hw,hat]
  rfl
 ·rw [yL hw,yJ,if_neg hw,zcl,hat]
  by_cases h40:40<((s.drop a).takeWhile rst).length
  ·rw [yM (by omega),if_pos h40]
   rfl
  ·rw [yL (by omega),if_neg h40]
   rfl
def nextB (l:List UInt8):Int:=match l with | []=>32 | c::_=>(c.toNat:Int)
theorem zo4 (s:List UInt8) (hs:s.length≤1000000) (a:Nat) (ha:a<s.length) (hd:dg s[a]=true) (n:Nat) (hn:s.length+100<n) :
    z36 n ⟨s,a⟩=some (resP s (numP (s.drop a))):=by
  unfold z36 numP
  rw [zuF s hs a (by omega) n (by omega)]
  simp only [obind,yO]
  obtain ⟨h1,h2,h3⟩:=z8M (s:=s) (p:=dg) (show a≤s.length by omega)
  have hl:=congrArg List.length h2
  rw [List.length_drop] at hl
  have hat:((a+((s.drop a).takeWhile dg).length:Nat):Int)=((s.length - ((s.drop a).dropWhile dg).length:Nat):Int):=by omega
  have htw:(s.drop a).takeWhile dg=s[a]::(s.drop (a+1)).takeWhile dg:=by rw [z4Q ha,List.takeWhile_cons_of_pos hd]
  have hnext:∀ {R:Type} (k:Int→Option R),bindJ (S:=Int) (cond (decide (((a+((s.drop a).takeWhile dg).length:Nat):Int)<(s.length:Int)))
      (idx s ((a+((s.drop a).takeWhile dg).length:Nat):Int) fun c10=>some (.go (c10.toNat:Int))) (some (.go 32))) k=k (nextB ((s.drop a).dropWhile dg)):=by
    intro R k
    by_cases hj:a+((s.drop a).takeWhile dg).length<s.length
    · rw [yM (by omega),yK,z2v hj,z1N,← h2,z4Q hj]
      rfl
    · rw [yL (by omega),yJ,z1N]
      have:(s.drop a).dropWhile dg=[]:=by
        apply List.eq_nil_of_length_eq_zero
        omega
      rw [this]
      rfl
  rw [hnext]
  have hfirst:∀ {R:Type} (k:Bool→Option R),bindJ (S:=Bool) (cond (decide (18<(((s.drop a).takeWhile dg).length:Int))) (some (.go true))
      (idx ((s.drop a).takeWhile dg) 0 fun c17=>some (.go (decide ((c17.toNat:Int)=48) && decide (1<(((s.drop a).takeWhile dg).length:Int)))))) k
      = k (decide (18<((s.drop a).takeWhile dg).length) || (decide (((s.drop a).takeWhile dg).head? = some 48) && decide (1<((s.drop a).takeWhile dg).length))):=by
    intro R k
    by_cases h18:18<((s.drop a).takeWhile dg).length
    · rw [yM (by omega),yK,z1N,yM h18,Bool.true_or]
    · rw [yL (by omega),yJ,htw]
      rw [show (0:Int)=((0:Nat):Int) from rfl,z2v (by simp),z1N]
      rw [htw] at h18
      simp only [List.getElem_cons_zero,List.head?_cons]
      rw [z61 s[a] 48 48 rfl,yL h18,Bool.false_or]
      congr 2
      · by_cases h48:s[a]=48 <;> simp [h48]
      · rw [decide_eq_decide]; omega
  rw [hfirst]
  have hbad:∀ (q:Bool) (l:List UInt8),∃ b:Bool,(bindJ (S:=Bool) (cond q (some (.go true)) ((z6t (nextB l)).bind fun r27=>some (.go r27))) fun b21=>
      some (b21 || (decide ((65:Int)≤(nextB l)) && decide ((nextB l)≤90))))=some b∧b=(q || (match l with | []=>false | c::_=>ltr c)):=by
    intro q l
    cases l with
    | nil=>cases q <;> exact ⟨_,rfl,rfl⟩
    | cons c t =>
      unfold nextB
      simp only
      rw [zoZ]
      refine ⟨q || ltr c,?_,rfl⟩
      have:(decide ((65:Int)≤(c.toNat:Int)) && decide ((c.toNat:Int)≤90))=(decide (65≤c.toNat) && decide (c.toNat≤90)):=by
        rw [Bool.eq_iff_iff]; simp only [Bool.and_eq_true,decide_eq_true_eq]; omega
      unfold ltr
      cases q <;> simp [z1N,this]
  have hb2:∀ (q:Bool) (k:Bool→Option (Pn (z6×zV))),(bindJ (S:=Bool) (cond q (some (.go true)) ((z6t (nextB ((s.drop a).dropWhile dg))).bind fun r27=>some (.go r27))) fun b21=>
      k (b21 || (decide ((65:Int)≤(nextB ((s.drop a).dropWhile dg))) && decide ((nextB ((s.drop a).dropWhile dg))≤90))))=k (q || (match (s.drop a).dropWhile dg with | []=>false | c::_=>ltr c)):=by
    intro q k
    obtain ⟨b,e,hb⟩:=hbad q ((s.drop a).dropWhile dg)
    rw [← hb]
    revert e
    cases q with
    | true=>simp only [yK,z1N,Option.some.injEq]; intro e; rw [e]
    | false =>
      simp only [yJ]
      cases z6t (nextB ((s.drop a).dropWhile dg)) with
      | none=>intro e; cases e
      | some v=>simp only [yO,z1N,Option.some.injEq]; intro e; rw [e]
  rw [hb2 _ (fun b=>(z9m b 181).bind _)]
  rw [zcl,hat]
  unfold zfM
  cases hB:(decide (18<((s.drop a).takeWhile dg).length) || (decide (((s.drop a).takeWhile dg).head? = some 48) && decide (1<((s.drop a).takeWhile dg).length)) || (match (s.drop a).dropWhile dg with | []=>false | c::_=>ltr c)) <;> rfl
theorem zme (c:UInt8):∀ l:List UInt8,(idxN c l).isSome=decide (c∈l)
  | []=>by simp [idxN]
  | b :: l => by
    have ih:=zme c l
    unfold idxN
    by_cases h:b=c
    · simp [h]
    · have h' : ¬ c=b:=fun q=>h q.symm
      simp [h,h',ih]
theorem zpO (c:UInt8) (l:List UInt8):∃ r,idxH l (c.toNat:Int)=some r∧((0≤r∧c∈l)∨(r = -1∧c ∉ l)):=by
  have h:=zme c l
  unfold idxH idxP
  rw [show ((c.toNat:Int)).toNat.toUInt8=c by simp]
  cases hn:idxN c l with
  | none =>
    rw [hn] at h
    exact ⟨-1,rfl,.inr ⟨rfl,by simpa using h⟩⟩
  | some k =>
    rw [hn] at h
    exact ⟨k,rfl,.inl ⟨by omega,by simpa using h⟩⟩
theorem zoh (s:List UInt8) (hs:s.length≤1000000) (a:Nat) (ha:a≤s.length) (n:Nat) (hn:s.length+100<n) :
    ∃ r, iter (z2D ⟨s, ((a : Nat) : Int)⟩) n (([] : List UInt8), (a : Int)) = some r ∧
      ((∃ (out:List UInt8) (i:Nat),r = .go (out,(i:Int))∧i≤s.length∧(i=s.length∨∃ h:i<s.length,s[i]=34)∧txtP out (s.drop i)=txtP [] (s.drop a))∨(r = .stop (.pan 182)∧txtP [] (s.drop a) = .inl 182)):=by
  refine z71 (step:=z2D ⟨s,((a:Nat):Int)⟩) (fun x=>∃ (out:List UInt8) (i:Nat),x=(out,(i:Int))∧i≤s.length∧out.length≤i∧txtP out (s.drop i)=txtP [] (s.drop a)) (fun x=>s.length - x.2.toNat) _ ?_ n ([],(a:Int)) ⟨[],a,rfl,ha,by simp,rfl⟩ (by simp; omega)
  rintro x ⟨out,i,rfl,hi,ho,hk⟩
  unfold z2D
  simp only
  by_cases hlt:i<s.length
  · rw [yM (show (i:Int)<(s.length:Int) by omega),yK,z2v hlt,z1N]
    rw [show decide ((s[i].toNat:Int)≠34) = !decide (s[i]=34) by rw [← z61 s[i] 34 34 rfl]; simp]
    by_cases h34:s[i]=34
    · rw [yM h34,yU,yJ]
      exact .inr ⟨_,rfl,.inl ⟨out,i,rfl,hi,.inr ⟨hlt,h34⟩,hk⟩⟩
    · rw [yL h34,yT,yK,z2v hlt]
      have hc:=z4Q hlt
      rw [hc,z5s,if_neg h34] at hk
      by_cases h92:s[i]=92
      · rw [z61 s[i] 92 92 rfl,yM h92,yK]
        rw [if_pos h92] at hk
        rw [w64 (x:=(i:Int)+1) (by omega) (by omega),show (i:Int)+1=((i+1:Nat):Int) by omega]
        by_cases hl2:i+1<s.length
        · rw [yM (by omega),yK,z2v hl2]
          obtain ⟨r,e,h⟩:=zpO s[i+1] [34,92]
          rw [e]
          simp only [obind,yO,z1N]
          rw [z4Q hl2] at hk
          simp only at hk
          rcases h with ⟨h0,hm⟩ | ⟨rfl,hm⟩
          · rw [yM h0,yK,z2v hl2]
            have hm' : s[i+1]=34∨s[i+1]=92:=by simpa using hm
            rw [if_pos hm'] at hk
            simp only [z1N]
            have hr:32≤s[i+1].toNat∧s[i+1].toNat≤126:=by rcases hm' with h | h <;> rw [h] <;> decide
            rw [zcl,yL (show ¬ ((s[i+1].toNat:Nat):Int)<32 by omega),yL (show ¬ (126:Int)<((s[i+1].toNat:Nat):Int) by omega)]
            simp only [Bool.or_self,yN,yR,yO,pbind]
            rw [z1n (by omega),z1n (by simp; omega),w64 (by omega) (by omega)]
            refine .inl ⟨_,rfl,⟨out++[s[i+1]],i+2,?_,by omega,by simp; omega,hk⟩,by simp only; omega⟩
            simp
            omega
          · rw [yL (by omega),yJ]
            have hm' : ¬ (s[i+1]=34∨s[i+1]=92):=by simpa using hm
            rw [if_neg hm'] at hk
            simp only [z1N]
            rw [zcl,yM (show (0:Int)<32 by decide)]
            simp only [Bool.true_or,yS,yO,pbind]
            exact .inr ⟨_,rfl,.inr ⟨rfl,hk.symm⟩⟩
        · rw [yL (by omega),yJ]
          have:s.drop (i+1)=[]:=List.drop_eq_nil_of_le (by omega)
          rw [this] at hk
          simp only [z1N,yJ]
          rw [zcl,yM (show (0:Int)<32 by decide)]
          simp only [obind,Bool.true_or,yS,yO,pbind]
          exact .inr ⟨_,rfl,.inr ⟨rfl,hk.symm⟩⟩
      · rw [z61 s[i] 92 92 rfl,yL h92,yJ]
        rw [if_neg h92] at hk
        simp only [z1N]
        rw [zcl]
        by_cases hb:s[i].toNat<32∨126<s[i].toNat
        · rw [if_pos hb] at hk
          rw [show (decide (((s[i].toNat:Nat):Int)<32) || decide ((126:Int)<((s[i].toNat:Nat):Int)))=true by simp only [Bool.or_eq_true,decide_eq_true_eq]; omega]
          simp only [obind,yS,yO,pbind]
          exact .inr ⟨_,rfl,.inr ⟨rfl,hk.symm⟩⟩
        · rw [if_neg hb] at hk
          rw [show (decide (((s[i].toNat:Nat):Int)<32) || decide ((126:Int)<((s[i].toNat:Nat):Int)))=false by rw [Bool.eq_false_iff]; intro h; simp only [Bool.or_eq_true,decide_eq_true_eq] at h; omega]
          simp only [obind,yN,yR,yO,pbind]
          rw [z1n (by omega),z1n (by simp; omega),w64 (by omega) (by omega)]
          refine .inl ⟨_,rfl,⟨out++[s[i]],i+1,?_,by omega,by simp; omega,hk⟩,by simp only; omega⟩
          simp
  · rw [yL (by omega),yJ,z1N,yJ]
    exact .inr ⟨_,rfl,.inl ⟨out,i,rfl,hi,.inl (by omega),hk⟩⟩
theorem zsG (s:List UInt8) (hs:s.length≤1000000) (a:Nat) (ha:a<s.length) (n:Nat) (hn:s.length+100<n) :
  z3u n ⟨s,a⟩=some (resP s (txtP [] (s.drop (a+1)))):=by
 unfold z3u
 simp only
 rw [w64 (by omega) (by omega),show (a:Int)+1=((a+1:Nat):Int) by omega]
 have hstep:z2D ⟨s,((a:Nat):Int)⟩=z2D ⟨s,((a+1:Nat):Int)⟩:=rfl
 obtain ⟨r,e,h⟩:=zoh s hs (a+1) (by omega) n hn
 rw [hstep,e]
 rcases h with ⟨out,i,rfl,hi,hend,hk⟩ | ⟨rfl,hk⟩
 ·rw [z1N,← hk]
  simp only
  rcases hend with rfl | ⟨h,h34⟩
  ·rw [yM (by omega),Bool.true_or,zcl,List.drop_length,zaO]
   rfl
  ·rw [yL (by omega),Bool.false_or,zcl,z4Q h,z5s,if_pos h34]
   by_cases h200:200<out.length
   ·rw [yM (by omega),if_pos h200]
    rfl
   ·rw [yL (by omega),if_neg h200]
    simp only [obind,yN,yR,yO,pbind,resP,List.length_drop]
    rw [w64 (by omega) (by omega)]
    congr 4
    omega
 ·rw [zec,hk]
  rfl
theorem zqn:zht [61,61,32,33,61,32,60,61,32,62,61,32,46,46]=some longs:=by
 unfold zht
 rw [z1n (by decide +kernel)]
 simp only [Option.some.injEq]
 decide +kernel
theorem zsl (s:List UInt8) (hs:s.length≤1000000) (a:Nat) (ha:a<s.length) (n:Nat) (hn:s.length+100<n) :
  z3t n ⟨s,a⟩=some (resP s (sgnP (s.drop a))):=by
 unfold z3t
 simp only
 rw [w64 (x:=(a:Int)+2) (by omega) (by omega)]
 have hmin:(min ((a:Int)+2) (s.length:Int)).toNat=min (a+2) s.length:=by omega
 rw [z1n (by omega),hmin,yY]
 have htwo:(s.take (min (a+2) s.length)).drop a=(s.drop a).take 2:=by
  rw [List.drop_take]
  apply List.ext_getElem
  ·simp; omega
  ·intro i h1 h2; simp
 rw [htwo]
 have hlong:longs.length<n:=by have:longs.length=5:=rfl; omega
 have h1:∀ k:Nat,a+k≤s.length→(s.take (a+k)).drop a=(s.drop a).take k:=fun k _=>by rw [List.drop_take,Nat.add_sub_cancel_left]
 have hc:=z4Q ha
 by_cases h2:a+1<s.length
 ·have hc2:=z4Q h2
  have ht:(s.drop a).take 2=[s[a],s[a+1]]:=by rw [hc,hc2]; rfl
  have ht1:(s.drop a).take 1=[s[a]]:=by rw [hc]; rfl
  rw [ht,show decide ((([s[a],s[a+1]]:List UInt8).length:Int)=2)=true from rfl,yK,zqn]
  simp only [obind,yO]
  rw [zhp longs (by decide) _ n hlong,hc,hc2,zbw]
  rw [hc] at ht ht1 h1
  rw [hc2] at ht h1
  simp only [yO,z1N]
  by_cases hm:[s[a],s[a+1]]∈longs
  ·rw [yM hm,yK,z1N,if_pos hm,w64 (by omega) (by omega),show (a:Int)+2=((a+2:Nat):Int) by omega,z1n (by omega),show decide ((2:Int)=1)=false from rfl,yJ,z1N,zcl,yY,h1 2 (by omega),ht]
   simp only [yN,yR,yO,pbind,resP,List.length_drop]
   congr 4
   omega
  ·rw [yL hm,yJ,z1N,if_neg hm,w64 (by omega) (by omega),show (a:Int)+1=((a+1:Nat):Int) by omega,z1n (by omega),show decide ((1:Int)=1)=true from rfl,yK,yY,h1 1 (by omega),show (s[a]::s[a+1]::s.drop (a+1+1)).take 1=[s[a]] from rfl]
   rw [show (0:Int)=((0:Nat):Int) from rfl,z2v (by simp)]
   obtain ⟨r,e,h⟩:=zpO s[a] shorts
   unfold shorts at e h
   simp only [List.getElem_cons_zero]
   rw [e]
   simp only [yO,z1N]
   rw [zcl]
   rcases h with ⟨h0,hm'⟩ | ⟨rfl,hm'⟩
   ·rw [yL (by omega),if_pos (show s[a]∈shorts from hm')]
    simp only [yN,yR,yO,pbind,resP,yC,List.length_drop]
    congr 4
    omega
   ·rw [yM (by omega),if_neg (show s[a] ∉ shorts from hm')]
    rfl
 ·have hn2:s.drop (a+1)=[]:=List.drop_eq_nil_of_le (by omega)
  have ht:(s.drop a).take 2=[s[a]]:=by rw [hc,hn2]; rfl
  have ht1:(s.drop a).take 1=[s[a]]:=by rw [hc,hn2]; rfl
  rw [ht,show decide ((([s[a]]:List UInt8).length:Int)=2)=false from rfl,show sgnP (s.drop a)=sgnP [s[a]] by rw [hc,hn2],yJ,z1N,yJ,z1N,zdP,w64 (by omega) (by omega),show (a:Int)+1=((a+1:Nat):Int) by omega,z1n (by omega),show decide ((1:Int)=1)=true from rfl,yK,yY,h1 1 (by omega),ht1]
  rw [show (0:Int)=((0:Nat):Int) from rfl,z2v (by simp)]
  obtain ⟨r,e,h⟩:=zpO s[a] shorts
  unfold shorts at e h
  simp only [List.getElem_cons_zero]
  rw [e]
  simp only [obind,yO,z1N]
  rw [zcl]
  rcases h with ⟨h0,hm'⟩ | ⟨rfl,hm'⟩
  ·rw [yL (by omega),if_pos (show s[a]∈shorts from hm')]
   simp only [yN,yR,yO,pbind,resP,yF]
   congr 4
   omega
  ·rw [yM (by omega),if_neg (show s[a] ∉ shorts from hm')]
   rfl
def mkT (N:Nat) (x:Int×Nat×List UInt8):z6:=⟨x.1,((N - x.2.1:Nat):Int),x.2.2⟩
def tokR (s:List UInt8):List z6×z11:=match (toksP kwP (s.length+1) s).2 with
 | some (k,e)=>([],⟨((s.length - k:Nat):Int),e⟩)
 | none=>((toksP kwP (s.length+1) s).1.map (mkT s.length),⟨0,0⟩)
theorem zqD (s:List UInt8) (hs:s.length≤1000000) (a:Nat) (ha:a<s.length) (n:Nat) (hn:s.length+100<n) (l:List z6) (hl:l.length≤1000000) {R:Type} (k:List z6×List UInt8×Int→Option (Lp ((List z6)×(List UInt8)×Int×Int) (Lp (List z6) (List z6×z11)))) :
    bindJ (S:=(List z6)×(List UInt8)×Int)
    (idx s (a:Int) fun c38=>
    obind (z82 (c38.toNat:Int)) fun r39=>
    cond r39
     (obind (z3s n (zV.mk s (a:Int))) fun r42=>
     pbind r42 (fun e45=>
      some (.stop (.stop (.stop (([]:List z6),(z11.mk (a:Int) e45)))))) fun q44=>
     need (l.length+([(z6.mk q44.1.Kind (a:Int) q44.1.S)]:List z6).length≤4294967296) (
     some (.go ((l++([(z6.mk q44.1.Kind (a:Int) q44.1.S)]:List z6)),q44.2.s_,q44.2.at_))))
     (idx s (a:Int) fun c54=>
     obind (z6s (c54.toNat:Int)) fun r55=>
     cond r55
      (obind (z36 n (zV.mk s (a:Int))) fun r58=>
      pbind r58 (fun e61=>
       some (.stop (.stop (.stop (([]:List z6),(z11.mk (a:Int) e61)))))) fun q60=>
      need (l.length+([(z6.mk q60.1.Kind (a:Int) q60.1.S)]:List z6).length≤4294967296) (
      some (.go ((l++([(z6.mk q60.1.Kind (a:Int) q60.1.S)]:List z6)),q60.2.s_,q60.2.at_))))
      (idx s (a:Int) fun c70=>
      obind (z8o (c70.toNat:Int)) fun r71=>
      cond r71
       (obind (z3u n (zV.mk s (a:Int))) fun r74=>
       pbind r74 (fun e77=>
        some (.stop (.stop (.stop (([]:List z6),(z11.mk (a:Int) e77)))))) fun q76=>
       need (l.length+([(z6.mk q76.1.Kind (a:Int) q76.1.S)]:List z6).length≤4294967296) (
       some (.go ((l++([(z6.mk q76.1.Kind (a:Int) q76.1.S)]:List z6)),q76.2.s_,q76.2.at_))))
       (idx s (a:Int) fun c86=>
       obind (z8p (c86.toNat:Int)) fun r87=>
       cond r87
        (obind (z3t n (zV.mk s (a:Int))) fun r90=>
        pbind r90 (fun e93=>
         some (.stop (.stop (.stop (([]:List z6),(z11.mk (a:Int) e93)))))) fun q92=>
        need (l.length+([(z6.mk q92.1.Kind (a:Int) q92.1.S)]:List z6).length≤4294967296) (
        some (.go ((l++([(z6.mk q92.1.Kind (a:Int) q92.1.S)]:List z6)),q92.2.s_,q92.2.at_))))
        (some (.go (l,s,(a:Int)))))))) k
    = match nextP kwP (s.drop a) with
      | .inl e=>some (.stop (.stop ([],⟨(a:Int),e⟩)))
      | .inr (kd,w,r)=>k (l++[⟨kd,(a:Int),w⟩],s,((s.length - r.length:Nat):Int)):=by
  have hneed:∀ x:z6,l.length+([x]:List z6).length≤4294967296:=fun x=>by simp; omega
  have hfin:∀ q:Sum Int (Int×List UInt8×List UInt8),bindJ (S:=(List z6)×(List UInt8)×Int) (obind (some (resP s q)) fun r42=>
     pbind r42 (fun e45=>
      some (.stop (.stop (.stop (([]:List z6),(z11.mk (a:Int) e45)))))) fun q44=>
     need (l.length+([(z6.mk q44.1.Kind (a:Int) q44.1.S)]:List z6).length≤4294967296) (
     some (.go ((l++([(z6.mk q44.1.Kind (a:Int) q44.1.S)]:List z6)),q44.2.s_,q44.2.at_)))) k
      = match q with
      | .inl e=>some (.stop (.stop ([],⟨(a:Int),e⟩)))
      | .inr (kd,w,r)=>k (l++[⟨kd,(a:Int),w⟩],s,((s.length - r.length:Nat):Int)):=by
    intro q
    cases q with
    | inl e=>rfl
    | inr q =>
      obtain ⟨kd,w,r⟩:=q
      simp only [resP,obind,yO,pbind]
      rw [z1n (hneed _),z1N]
  have hc:=z4Q ha
  rw [z2v ha,zka]
  have hne:=z6k kwP s[a] (s.drop (a+1))
  rw [← hc] at hne
  rw [hne]
  cases h1:sm s[a] with
  | true =>
    simp only [obind,yO,yK,yS]
    rw [zrS s hs a (by omega) n hn]
    exact hfin _
  | false =>
    simp only [obind,yO,yJ,yN,yR]
    rw [z2v ha,zhX]
    cases h2:dg s[a] with
    | true =>
      simp only [yO,yK,yS]
      rw [zo4 s hs a ha h2 n hn]
      exact hfin _
    | false =>
      simp only [yO,yJ,yN,yR]
      rw [z2v ha]
      unfold z8o
      rw [z61 s[a] 34 34 rfl]
      by_cases h3:s[a]=34
      · simp only [h3,yQ,yO,yK,yS]
        rw [zsG s hs a ha n hn]
        exact hfin _
      · simp only [h3,yP,yO,yJ,yR]
        rw [z2v ha]
        unfold z8p
        simp only [yO,yK]
        rw [zsl s hs a ha n hn]
        exact hfin _
theorem zlA (s:List UInt8) (hs:s.length≤1000000) (n:Nat) (hn:s.length+100<n) :
    ∃ r, iter (z9b n s) n (([] : List z6), s, ((s.length - (skipP false s).length : Nat) : Int), 0) = some r ∧
      ((r = .go ((toksP kwP (s.length+1) s).1.map (mkT s.length))∧(toksP kwP (s.length+1) s).2=none)∨∃ k e,r = .stop ([],⟨((s.length - k:Nat):Int),e⟩)∧(toksP kwP (s.length+1) s).2=some (k,e)):=by
  refine z71 (step:=z9b n s) (fun x=>∃ (d:List (Int×Nat×List UInt8)) (i:Nat) (z:Int),x=(d.map (mkT s.length),s,(i:Int),z)∧i≤s.length∧d.length≤i∧skipP false (s.drop i)=s.drop i∧
      (toksP kwP (s.length+1) s).1=d++(toksP kwP (s.length+1) (s.drop i)).1∧(toksP kwP (s.length+1) s).2=(toksP kwP (s.length+1) (s.drop i)).2) (fun x=>s.length - x.2.2.1.toNat) _ ?_ n _ ?_ (by simp; omega)
  · rintro x ⟨d,i,z,rfl,hi,hd,hk,e1,e2⟩
    unfold z9b
    simp only
    by_cases hlt:i<s.length
    · rw [yM (show (i:Int)<(s.length:Int) by omega),yK,zqD (R:=Unit) s hs i hlt n hn (d.map (mkT s.length)) (by simp; omega)]
      have hc:=z4Q hlt
      rw [hc] at hk
      cases hq:nextP kwP (s.drop i) with
      | inl e =>
        rw [hc] at hq
        rw [hc,z8H hk hq] at e2
        refine .inr ⟨_,rfl,.inr ⟨_,e,?_,e2⟩⟩
        simp only [List.length_drop,Lp.stop.injEq,Prod.mk.injEq,z11.mk.injEq,true_and,and_true]
        omega
      | inr q =>
        obtain ⟨kd,w,r⟩:=q
        simp only
        have hlen:=zfg hq
        have hsuf:=(zmE hq).trans (List.drop_suffix i s)
        rw [hc] at hq
        rw [hc,z7O hk hq] at e1 e2
        have hrl:r.length≤s.length:=hsuf.length_le
        rw [zna s hs _ (by omega) n (by omega),z8G hsuf]
        simp only [obind,yO]
        have hsk:=zdq false r
        have hsl:=hsk.length_le
        rw [List.length_drop] at hlen
        refine .inl ⟨_,rfl,⟨d++[(kd,s.length - i,w)],s.length - (skipP false r).length,(i:Int),?_,by omega,by simp; omega,?_,?_,?_⟩,by simp only; omega⟩
        · simp only [List.map_append,yI,List.map_nil,Prod.mk.injEq,and_true]
          congr 2
          unfold mkT
          simp only [z6.mk.injEq,true_and,and_true]
          omega
        · rw [z8G (hsk.trans hsuf),zeY]
        · rw [z8G (hsk.trans hsuf),z7G,e1]
          simp only [List.length_drop,yA,yE,yD]
          rw [zaN kwP s.length (s.length+1) r (by omega) (by omega),show s.length - (i+1)+1=s.length - i by omega]
        · rw [z8G (hsk.trans hsuf),z7G,e2]
          simp only
          rw [zaN kwP s.length (s.length+1) r (by omega) (by omega)]
    · rw [yL (by omega),yJ]
      have:s.drop i=[]:=List.drop_eq_nil_of_le (by omega)
      rw [this,z6g (kw:=kwP) (s:=[]) rfl] at e1 e2
      refine .inr ⟨_,rfl,.inl ⟨?_,e2⟩⟩
      rw [e1,List.append_nil]
  · have hsk:=zdq false s
    refine ⟨[],s.length - (skipP false s).length,0,rfl,by omega,by simp,?_,?_,?_⟩
    · rw [z8G hsk,zeY]
    · rw [z8G hsk,z7G]; rfl
    · rw [z8G hsk,z7G]
theorem zf4 (s:List UInt8) (hs:s.length≤65536) (n:Nat) (hn:s.length+100<n):z4J n s=some (tokR s):=by
 unfold z4J
 rw [yL (by omega),yJ]
 unfold zff
 simp only [obind,yO]
 have h0:=zna s (by omega) 0 (by omega) n (by omega)
 rw [List.drop_zero] at h0
 have h0' : z2M n ⟨s,0⟩=_:=h0
 rw [h0']
 simp only [yO]
 obtain ⟨r,e,h⟩:=zlA s (by omega) n hn
 rw [e]
 unfold tokR
 rcases h with ⟨rfl,h2⟩ | ⟨k,e,rfl,h2⟩
 ·rw [h2]; rfl
 ·rw [h2]; rfl
open Go.Ps
abbrev Lx:=z6
abbrev Rd':=z7
def tk (t:Lx):Tk:=(t.Kind,t.S)
def tks (l:List Lx) (j:Nat):List Tk:=(l.drop j).map tk
def gA (l:List Lx) (a:Int):Int:=if a<0 then 0 else match l[a.toNat]? with | some t=>t.At | none=>0
def eA (l:List Lx) (fin:Int) (j:Nat):Int:=match l[j]? with | some t=>t.At | none=>fin
theorem ziE (l:List Lx) (j:Nat):(tks l j).head? = (l[j]?).map tk:=by
 unfold tks
 rw [List.head?_map,List.head?_drop]
theorem ze8 {l:List Lx} {j:Nat} {t:Lx} (h:l[j]? = some t):tks l j=tk t::tks l (j+1):=by
 obtain ⟨hlt,e⟩:=List.getElem?_eq_some_iff.1 h
 unfold tks
 rw [List.drop_eq_getElem_cons hlt,e]; rfl
theorem zdR {l:List Lx} {j:Nat} (h:l.length≤j):tks l j=[]:=by
 unfold tks
 rw [List.drop_eq_nil_of_le h]; rfl
def nx (l:List Lx) (j:Nat):Lx:=match l[j]? with | some t=>t | none=>⟨0,0,[]⟩
section
variable {α β γ δ : Type} {l : List Lx} {fin : Int}
theorem zdc {j:Nat} (h:j≤1000000):IntKind.i64.wrap ((j:Int)+1)=((j+1:Nat):Int):=by
 rw [w64 (by omega) (by omega)]; omega
def conv (l:List Lx) (fin:Int) (m:α→β):Out α→Pn (β×Rd')
 | .ok a j _=>.ret (m a,⟨l,(j:Int),fin⟩)
 | .bad j _=>.pan (eA l fin j)
def run' (l:List Lx) (p:Ps α) (j:Nat):Out α:=p.run j (tks l j)
def Ag (l:List Lx) (fin:Int) (k:Nat) (m:α→β) (F:Rd'→Option (Pn (β×Rd'))) (p:Ps α):Prop:=∀ j:Nat,k≤j→j≤l.length→F ⟨l,(j:Int),fin⟩=some (conv l fin m (run' l p j))
theorem Ag.mono {k k' : Nat} {m:α→β} {F:Rd'→Option (Pn (β×Rd'))} {p:Ps α} (h:Ag l fin k m F p) (hk:k≤k'):Ag l fin k' m F p:=fun j h1 h2=>h j (Nat.le_trans hk h1) h2
end
section
variable {l : List Lx} {fin : Int}
end
section
variable {l : List Lx} {fin : Int}
theorem zh4 {k:Int} (s:List UInt8) {t:Option Tk} (hk:k≠0) (h:kindO t=k):isK k s t=decide (textO t=s):=by
 cases t with
 | none=>exact absurd h.symm hk
 | some t=>exact (congrArg (· && decide (t.2=s)) (yM (show t.1=k from h))).trans (Bool.true_and _)
theorem zi4 {k:Int} (s:List UInt8) {t:Option Tk} (h:kindO t≠k):isK k s t=false:=by
 cases t with
 | none=>rfl
 | some t=>simp only [kindO] at h; simp [isK,h]
theorem ob {α β:Type} (x:α) (f:α→Option β):obind (some x) f=f x:=rfl
end
section
variable {l : List Lx} {fin : Int}
end
section
variable {l : List Lx} {fin : Int}
theorem pbr {A R:Type} (a:A) (f:Int→Option R) (g:A→Option R):pbind (.ret a) f g=g a:=rfl
end
section
variable {l : List Lx} {fin : Int}
end
section
variable {l : List Lx} {fin : Int}
end
section
variable {l : List Lx} {fin : Int}
end
section
variable {l : List Lx} {fin : Int}
end
section
variable {l : List Lx} {fin : Int}
end
section
variable {l : List Lx} {fin : Int}
end
section
variable {l : List Lx} {fin : Int}
end
section
variable {l : List Lx} {fin : Int}
theorem bJ {S R:Type} (s:S) (K:S→Option R):bindJ (some (.go s)) K=K s:=rfl
end
section
variable {l : List Lx} {fin : Int}
end
variable {l : List Lx} {fin : Int}
end Go.Proofs.YtcmaoifiiigggaaGreatDoor
