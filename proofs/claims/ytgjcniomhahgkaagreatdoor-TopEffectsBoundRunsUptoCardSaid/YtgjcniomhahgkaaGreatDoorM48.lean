/-
  Texts that stand side by side: TcPa, TcPb, TcPn, TmA, TmB, TmC, TmD, TcPq, TcPr, TcPs, TmE, TcPo, TmF, TcPt.
-/
import Derived.Test.YtgjcniomhahgkaaGreatDoorAbsPlain
import Derived.Test.YtgjcniomhahgkaaGreatDoorTeDefs
set_option linter.unusedSimpArgs false
set_option linter.unusedVariables false
namespace Go.Proofs.YtgjcniomhahgkaaGreatDoor
open Go.Abs
mutual
def z7.nodes:z7→Nat
 | ⟨_,_,_,_,x,b,e⟩=>1+x.nodes+z1y b+z1y e
def z1y:List z7→Nat
 | []=>0
 | x::r=>x.nodes+z1y r
end
theorem z4n (x:zm):x.nodes=1+z2W x.Args:=by cases x; simp [zm.nodes]
theorem z5o (x:z7):x.nodes=1+x.X.nodes+z1y x.Body+z1y x.Else:=by cases x; simp [z7.nodes]
theorem z4L:∀ (l:List zm),l.length≤z2W l
 | []=>by simp [z2W]
 | x::r=>by have:=z4L r; have:=z4n x; simp only [z2W,List.length_cons]; omega
theorem z5H:∀ (l:List z7),l.length≤z1y l
 | []=>by simp [z1y]
 | x::r=>by have:=z5H r; have:=z5o x; simp only [z1y,List.length_cons]; omega
theorem z7c:∀ (l:List zm) (i:Nat) (x:zm),l[i]? = some x→x.nodes≤z2W l
 | y::r,0,x,h=>by simp at h; subst h; simp [z2W]
 | y::r,i+1,x,h=>by have:=z7c r i x (by simpa using h); simp only [z2W]; omega
theorem z7b:∀ (l:List z7) (i:Nat) (x:z7),l[i]? = some x→x.nodes≤z1y l
 | y::r,0,x,h=>by simp at h; subst h; simp [z1y]
 | y::r,i+1,x,h=>by have:=z7b r i x (by simpa using h); simp only [z1y]; omega
mutual
def cE:zm→List z6
 | ⟨op,_,n,slot,s,l⟩=>cEL l++[⟨op,if op=23 then (l.length:Int) else if op=3 then slot else if op=1 then n else 0,if op=2∨op=6 then s else []⟩]
def cEL:List zm→List z6
 | []=>[]
 | x::r=>cE x++cEL r
end
theorem cE_eq (x:zm):cE x=cEL x.Args++[⟨x.Op,if x.Op=23 then (x.Args.length:Int) else if x.Op=3 then x.Slot else if x.Op=1 then x.N else 0,if x.Op=2∨x.Op=6 then x.S else []⟩]:=by cases x; simp [cE]
mutual
theorem zbz:∀ (x:zm),(cE x).length=x.nodes
 | ⟨op,_,n,slot,s,l⟩=>by simp [cE,zm.nodes,zaf l]; omega
theorem zaf:∀ (l:List zm),(cEL l).length=z2W l
 | []=>rfl
 | x::r=>by simp [cEL,z2W,zbz x,zaf r]
end
def lastI (s:z7):z6:=
 if s.Kind=1∨s.Kind=2 then ⟨31,s.Slot,[]⟩ else if s.Kind=3 then ⟨32,0,s.Name⟩ else if s.Kind=4 then ⟨33,0,[]⟩ else if s.Kind=7 then ⟨34,0,[]⟩ else if s.Kind=8 then ⟨35,0,[]⟩ else ⟨36,0,[]⟩
mutual
def cS:z7→Nat→Int→List z6
  | ⟨kind, slot, n, name, x, b, e⟩, pos, d =>
    if kind=6 then
      let k:=cB b (pos+3) d
      [⟨30,0,[]⟩,⟨39,n,[]⟩,⟨40,(pos+5+k.length:Nat),[]⟩]++k++[⟨41,d,[]⟩,⟨37,(pos+2:Nat),[]⟩]
    else if kind=5 then
      let q:=cE x
      let k:=cB b (pos+2+q.length) d
      let j:=cB e (pos+4+q.length+k.length) d
      [⟨30,0,[]⟩]++q++[⟨38,(pos+4+q.length+k.length:Nat),[]⟩]++k++[⟨41,d,[]⟩,⟨37,(pos+5+q.length+k.length+j.length:Nat),[]⟩]++j++[⟨41,d,[]⟩]
    else [⟨30,0,[]⟩]++cE x++[lastI ⟨kind,slot,n,name,x,b,e⟩]
def cB:List z7→Nat→Int→List z6
 | [],_,_=>[]
 | s::r,pos,d=>cS s pos d++cB r (pos+(cS s pos d).length) (if s.Kind=1 then d+1 else d)
end
mutual
theorem zhn:∀ (s:z7) (pos:Nat) (d:Int),(cS s pos d).length≤7*s.nodes
  | ⟨kind, slot, n, name, x, b, e⟩, pos, d => by
    have hx:=zbz x
    have hn:=z4n x
    have hb:=z7J b (pos+3) d
    have hb2:=z7J b (pos+2+(cE x).length) d
    have he:=z7J e (pos+4+(cE x).length+(cB b (pos+2+(cE x).length) d).length) d
    simp only [cS,z7.nodes]
    split
    · simp; omega
    · split
      · simp; omega
      · simp; omega
theorem z7J:∀ (l:List z7) (pos:Nat) (d:Int),(cB l pos d).length≤7*z1y l
  | [],_,_=>by simp [cB]
  | s :: r, pos, d => by
    have h1:=zhn s pos d
    have h2:=z7J r (pos+(cS s pos d).length) (if s.Kind=1 then d+1 else d)
    simp only [cB,z1y,List.length_append]; omega
end
theorem ze6 {α T R:Type} {step:T→Option (Lp T R)} {l:List α} (mk:Nat→T) (r:R)
    (hgo:∀ (i:Nat) x,l[i]? = some x→step (mk i)=some (.go (mk (i+1)))) (hend:step (mk l.length)=some (.stop r)) :
    ∀ (n i:Nat),i≤l.length→l.length - i<n→iter step n (mk i)=some r
  | 0,i,_,h=>by omega
  | n + 1, i, hle, h => by
    by_cases e:i=l.length
    · subst e; exact z3q hend
    · have hlt:i<l.length:=by omega
      rw [z6K (hgo i _ (List.getElem?_eq_getElem hlt))]
      exact ze6 mk r hgo hend n (i+1) (by omega) (by omega)
theorem zdr:∀ (l:List zm) (i:Nat) (x:zm),l[i]? = some x→cEL (l.take (i+1))=cEL (l.take i)++cE x
 | y::r,0,x,h=>by simp at h; subst h; simp [cEL]
 | y::r,i+1,x,h=>by simp only [List.take_succ_cons,cEL]; rw [zdr r i x (by simpa using h)]; simp
theorem zam:∀ (l:List zm) (i:Nat),z2W (l.take i)≤z2W l
 | [],i=>by simp [z2W]
 | y::r,0=>by simp [z2W]
 | y::r,i+1=>by simp only [List.take_succ_cons,z2W]; have:=zam r i; omega
theorem z8l:∀ (l:List zm) (i:Nat) (x:zm),l[i]? = some x→z2W (l.take i)+x.nodes≤z2W l
 | y::r,0,x,h=>by simp at h; subst h; simp [z2W]
 | y::r,i+1,x,h=>by simp only [List.take_succ_cons,z2W]; have:=z8l r i x (by simpa using h); omega
theorem z2P {i N:Nat} (h:i≤N) (hN:N≤1073741824):IntKind.i64.wrap ((i:Int)+1)=((i+1:Nat):Int):=by rw [w64 (by omega) (by omega)]; try omega
theorem zaP {out:List z6} {op a:Int} {s:List UInt8} (h:out.length<1073741824):zM ⟨out⟩ op a s=some ((out.length:Int),⟨out++[⟨op,a,s⟩]⟩):=by
 unfold zM
 rw [zW (by simp; omega)]
 rw [w64 (by simp) (by simp; omega)]
 simp
theorem cexpr:∀ (n:Nat) (x:zm) (out:List z6),x.nodes<n→out.length+x.nodes<1073741824→z1n n ⟨out⟩ x=some ⟨out++cE x⟩
  | 0,x,out,h,_=>by omega
  | n + 1, x, out, h, hl => by
    have hn:=z4n x
    have hlen:=z4L x.Args
    show z1L n (z1n n) ⟨out⟩ x=_
    unfold z1L
    have hloop:iter (z1V x (z1n n)) n (0,out)=some (.go (out++cEL x.Args)):=by
      have:=ze6 (l:=x.Args) (step:=z1V x (z1n n)) (fun i=>((i:Int),out++cEL (x.Args.take i))) (.go (out++cEL x.Args)) (fun i y hy=>by
          have hlt:=(List.getElem?_eq_some_iff.1 hy).1
          have hny:=z8l _ _ _ hy
          have hcl:=zaf (x.Args.take i)
          unfold z1V
          simp only [show decide ((i:Int)<(x.Args.length:Int))=true by simp; omega,cond_true]
          rw [z43 hy,cexpr n y _ (by omega) (by simp [hcl]; omega)]
          simp only [obind,Option.bind_some]
          rw [z2P (N:=x.Args.length) (by omega) (by omega),zdr _ _ _ hy]; simp) (by
          unfold z1V; simp) n 0 (by omega) (by omega)
      simpa [cEL] using this
    have hcl:=zaf x.Args
    have hp:∀ (a:Int) (s:List UInt8),zM ⟨out++cEL x.Args⟩ x.Op a s=some (((out++cEL x.Args).length:Int),⟨(out++cEL x.Args)++[⟨x.Op,a,s⟩]⟩):=fun a s=>zaP (by simp [hcl]; omega)
    simp only [hloop,z12]
    rw [cE_eq]
    by_cases h1:x.Op=1
    · simp [h1,hp,obind] at *; simp [hp,h1]
    · by_cases h3:x.Op=3
      · simp [h3,hp,obind] at *; simp [hp,h3]
      · by_cases h2:x.Op=2
        · simp [h2,hp,obind] at *; simp [hp,h2]
        · by_cases h6:x.Op=6
          · simp [h6,hp,obind] at *; simp [hp,h6]
          · by_cases h23:x.Op=23
            · simp [h23,hp,obind] at *; simp [hp,h23]
            · simp [h1,h2,h3,h6,h23,hp,obind]
end Go.Proofs.YtgjcniomhahgkaaGreatDoor
namespace Go.Proofs.YtgjcniomhahgkaaGreatDoor
open Go.Abs
mutual
def okS:z7→Prop
 | ⟨k,_,_,_,_,b,e⟩=>(1≤k∧k≤9)∧okB b∧okB e
def okB:List z7→Prop
 | []=>True
 | x::r=>okS x∧okB r
end
theorem zkZ (x:z7):okS x↔(1≤x.Kind∧x.Kind≤9)∧okB x.Body∧okB x.Else:=by cases x; simp [okS]
theorem zgU:∀ (l:List z7) (i:Nat) (x:z7),okB l→l[i]? = some x→okS x
 | y::r,0,x,ho,h=>by simp at h; subst h; exact ho.1
 | y::r,i+1,x,ho,h=>zgU r i x ho.2 (by simpa using h)
def dK:List z7→Int→Int
 | [],d=>d
 | s::r,d=>dK r (if s.Kind=1 then d+1 else d)
theorem zgD:∀ (l:List z7) (i:Nat) (x:z7) (d:Int),l[i]? = some x→dK (l.take (i+1)) d=if x.Kind=1 then dK (l.take i) d+1 else dK (l.take i) d
 | y::r,0,x,d,h=>by simp at h; subst h; simp [dK]
 | y::r,i+1,x,d,h=>by simp only [List.take_succ_cons,dK]; exact zgD r i x _ (by simpa using h)
theorem dK_le:∀ (l:List z7) (d:Int),d≤dK l d∧dK l d≤d+l.length
 | [],d=>by simp [dK]
 | s::r,d=>by have:=dK_le r (if s.Kind=1 then d+1 else d); simp only [dK,List.length_cons]; split at this <;> simp_all <;> omega
theorem zgx:∀ (l:List z7) (i:Nat) (x:z7) (pos:Nat) (d:Int),l[i]? = some x→cB (l.take (i+1)) pos d=cB (l.take i) pos d++cS x (pos+(cB (l.take i) pos d).length) (dK (l.take i) d)
  | y::r,0,x,pos,d,h=>by simp at h; subst h; simp [cB,dK]
  | y :: r, i + 1, x, pos, d, h => by
    simp only [List.take_succ_cons,cB,dK]
    rw [zgx r i x _ _ (by simpa using h)]
    simp [Nat.add_assoc]
theorem z8k:∀ (l:List z7) (i:Nat) (x:z7),l[i]? = some x→z1y (l.take i)+x.nodes≤z1y l
 | y::r,0,x,h=>by simp at h; subst h; simp [z1y]
 | y::r,i+1,x,h=>by simp only [List.take_succ_cons,z1y]; have:=z8k r i x (by simpa using h); omega
theorem zeL {α:Type} (a b:List α) (x y:α):(a++x::b).set a.length y=a++y::b:=by simp [List.set_append]
theorem zdW {α:Type} (a b:List α) (x:α):(a++x::b)[a.length]? = some x:=by simp
theorem cS6 (x:z7) (pos:Nat) (d:Int) (h:x.Kind=6):cS x pos d=[(z6.mk 30 (0) []),(z6.mk 39 (x.N) []),(z6.mk 40 ((pos+5+(cB x.Body (pos+3) d).length:Nat)) [])]++cB x.Body (pos+3) d++[(z6.mk 41 (d) []),(z6.mk 37 ((pos+2:Nat)) [])]:=by
 cases x; simp only at h; subst h; simp [cS]
theorem cS5 (x:z7) (pos:Nat) (d:Int) (h:x.Kind=5) {q k j:List z6} (hq:q=cE x.X) (hk:k=cB x.Body (pos+2+q.length) d) (hj:j=cB x.Else (pos+4+q.length+k.length) d) :
  cS x pos d=[(z6.mk 30 (0) [])]++q++[(z6.mk 38 ((pos+4+q.length+k.length:Nat)) [])]++k++[(z6.mk 41 (d) []),(z6.mk 37 ((pos+5+q.length+k.length+j.length:Nat)) [])]++j++[(z6.mk 41 (d) [])]:=by
 cases x; simp only at h; subst h; subst hj; subst hk; subst hq; simp [cS]
theorem cSo (x:z7) (pos:Nat) (d:Int) (h5:x.Kind≠5) (h6:x.Kind≠6):cS x pos d=[(z6.mk 30 (0) [])]++cE x.X++[lastI x]:=by
 cases x; simp only at h5 h6; simp [cS,h5,h6]
section
variable {rec : zr → List z7 → Int → Option zr}
theorem zdp {out k:List z6} {l:List z7} {d:Int} (h:rec ⟨out⟩ l d=some ⟨out++k⟩) (hl:out.length+k.length<1073741824) :
  z1q rec ⟨out⟩ l d=some ⟨out++k++[(z6.mk 41 (d) [])]⟩:=by
 unfold z1q
 simp only [h,obind,Option.bind_some]
 rw [zaP (by simp; omega)]; rfl
theorem zfk {out k j:List z6} {x:z7} {d:Int} (hb:rec ⟨out++[(z6.mk 38 (0) [])]⟩ x.Body d=some ⟨(out++[(z6.mk 38 (0) [])])++k⟩)
  (he:rec ⟨out++[(z6.mk 38 ((out.length+k.length+3:Nat)) [])]++k++[(z6.mk 41 (d) []),(z6.mk 37 (0) [])]⟩ x.Else d=some ⟨(out++[(z6.mk 38 ((out.length+k.length+3:Nat)) [])]++k++[(z6.mk 41 (d) []),(z6.mk 37 (0) [])])++j⟩)
  (hl:out.length+k.length+j.length+6<1073741824) :
  z1X rec ⟨out⟩ x d=some ⟨out++[(z6.mk 38 ((out.length+k.length+3:Nat)) [])]++k++[(z6.mk 41 (d) []),(z6.mk 37 ((out.length+k.length+j.length+4:Nat)) [])]++j++[(z6.mk 41 (d) [])]⟩:=by
 unfold z1X
 rw [zaP (by omega)]
 simp only [obind,Option.bind_some]
 rw [zdp hb (by simp; omega)]
 simp only [Option.bind_some]
 rw [zaP (by simp; omega)]
 simp only [Option.bind_some]
 rw [show out++[(z6.mk 38 (0) [])]++k++[(z6.mk 41 (d) [])]++[(z6.mk 37 (0) [])]=out++(z6.mk 38 (0) [])::(k++[(z6.mk 41 (d) []),(z6.mk 37 (0) [])]) by simp]
 rw [z43 (zdW _ _ _)]
 simp only [Int.toNat_natCast]
 rw [zeL]
 rw [show out++z6.mk 38 (((out++z6.mk 38 0 []::(k++[z6.mk 41 d [],z6.mk 37 0 []])).length:Nat):Int) []::(k++[z6.mk 41 d [],z6.mk 37 0 []])=out++[z6.mk 38 (out.length+k.length+3:Nat) []]++k++[z6.mk 41 d [],z6.mk 37 0 []] by simp; omega]
 rw [zdp he (by simp; omega)]
 simp only [Option.bind_some]
 rw [show out++[(z6.mk 38 ((out.length+k.length+3:Nat)) [])]++k++[(z6.mk 41 (d) []),(z6.mk 37 (0) [])]++j++[(z6.mk 41 (d) [])]=(out++[(z6.mk 38 ((out.length+k.length+3:Nat)) [])]++k++[(z6.mk 41 (d) [])])++(z6.mk 37 (0) [])::(j++[(z6.mk 41 (d) [])]) by simp]
 rw [show (out++[(z6.mk 38 (0) [])]++k++[(z6.mk 41 (d) [])]).length=(out++[(z6.mk 38 ((out.length+k.length+3:Nat)) [])]++k++[(z6.mk 41 (d) [])]).length by simp]
 rw [z43 (zdW _ _ _)]
 simp only [Int.toNat_natCast]
 rw [zeL]
 simp; omega
theorem zg0 {out k:List z6} {x:z7} {d:Int} (hb:rec ⟨out++[(z6.mk 39 (x.N) []),(z6.mk 40 (0) [])]⟩ x.Body d=some ⟨(out++[(z6.mk 39 (x.N) []),(z6.mk 40 (0) [])])++k⟩)
  (hl:out.length+k.length+6<1073741824) :
  z1Y rec ⟨out⟩ x d=some ⟨out++[(z6.mk 39 (x.N) []),(z6.mk 40 ((out.length+k.length+4:Nat)) [])]++k++[(z6.mk 41 (d) []),(z6.mk 37 ((out.length+1:Nat)) [])]⟩:=by
 unfold z1Y
 rw [zaP (by omega)]
 simp only [obind,Option.bind_some]
 rw [zaP (by simp; omega)]
 simp only [Option.bind_some]
 rw [show out++[(z6.mk 39 (x.N) [])]++[(z6.mk 40 (0) [])]=out++[(z6.mk 39 (x.N) []),(z6.mk 40 (0) [])] by simp]
 rw [zdp hb (by simp; omega)]
 simp only [Option.bind_some]
 rw [zaP (by simp; omega)]
 simp only [Option.bind_some]
 rw [show out++[(z6.mk 39 (x.N) []),(z6.mk 40 (0) [])]++k++[(z6.mk 41 (d) [])]++[(z6.mk 37 (((out++[(z6.mk 39 (x.N) [])]).length:Int)) [])]=(out++[(z6.mk 39 (x.N) [])])++(z6.mk 40 (0) [])::(k++[(z6.mk 41 (d) []),(z6.mk 37 (((out++[(z6.mk 39 (x.N) [])]).length:Int)) [])]) by simp]
 rw [z43 (zdW _ _ _)]
 simp only [Int.toNat_natCast]
 rw [zeL]
 simp; omega
end
theorem ccode:∀ (n:Nat) (l:List z7) (out:List z6) (d:Int),okB l→z1y l+1<n→out.length+7*z1y l+100<1073741824→0≤d→d+z1y l<1073741824→
    z1w n ⟨out⟩ l d=some ⟨out++cB l out.length d⟩
  | 0,l,out,d,_,h,_,_,_=>by omega
  | n + 1, l, out, d, ho, h, hl, hd, hdl => by
    have hlen:=z5H l
    show z1K n (z1w n) ⟨out⟩ l d=_
    unfold z1K
    have:=ze6 (l:=l) (step:=z2m n l (z1w n)) (fun i=>(dK (l.take i) d,(i:Int),out++cB (l.take i) out.length d)) ⟨out++cB l out.length d⟩ (fun i x hx=>by
      have hlt:=(List.getElem?_eq_some_iff.1 hx).1
      have hnx:=z8k _ _ _ hx
      have hcl:=z7J (l.take i) out.length d
      have hcs:=zhn x (out.length+(cB (l.take i) out.length d).length) (dK (l.take i) d)
      have hdk:=dK_le (l.take i) d
      have hnl:=z5H (l.take i)
      have hne:=z5o x
      have hcx:=zbz x.X
      have hxn:=z4n x.X
      obtain ⟨⟨ok1,ok2⟩,okb,oke⟩:=(zkZ x).1 (zgU _ _ _ ho hx)
      rw [zgD _ _ _ _ hx,zgx _ _ _ _ _ hx]
      generalize hD:dK (l.take i) d=D at *
      generalize hO:out++cB (l.take i) out.length d=O at *
      have hOl:O.length=out.length+(cB (l.take i) out.length d).length:=by rw [← hO]; simp
      rw [← List.append_assoc,hO,← hOl]
      rw [← hOl] at hcs
      unfold z2m
      simp only [show decide ((i:Int)<(l.length:Int))=true by simp; omega,cond_true]
      rw [z43 hx,zaP (by omega)]
      simp only [obind,Option.bind_some]
      rw [z2P (N:=l.length) (by omega) (by omega)]
      by_cases h6:x.Kind=6
      · rw [cS6 _ _ _ h6] at hcs ⊢
        have hb:=ccode n x.Body (O++[(z6.mk 30 (0) [])]++[(z6.mk 39 (x.N) []),(z6.mk 40 (0) [])]) D okb (by omega) (by simp; omega) (by omega) (by omega)
        rw [show (O++[(z6.mk 30 (0) [])]++[(z6.mk 39 (x.N) []),(z6.mk 40 (0) [])]).length=O.length+3 by simp] at hb
        have hr:=zg0 hb (by simp at hcs ⊢; omega)
        simp [h6,hr]
        omega
      · by_cases h5:x.Kind=5
        · have hb:=ccode n x.Body (O++[(z6.mk 30 (0) [])]++cE x.X++[(z6.mk 38 (0) [])]) D okb (by omega) (by simp; omega) (by omega) (by omega)
          rw [show (O++[(z6.mk 30 (0) [])]++cE x.X++[(z6.mk 38 (0) [])]).length=O.length+2+(cE x.X).length by simp; omega] at hb
          have hbl:=z7J x.Body (O.length+2+(cE x.X).length) D
          generalize hk:cB x.Body (O.length+2+(cE x.X).length) D=k at *
          have he:=ccode n x.Else (O++[(z6.mk 30 (0) [])]++cE x.X++[(z6.mk 38 (((O++[(z6.mk 30 (0) [])]++cE x.X).length+k.length+3:Nat)) [])]++k++[(z6.mk 41 (D) []),(z6.mk 37 (0) [])]) D oke (by omega) (by simp; omega) (by omega) (by omega)
          rw [show (O++[(z6.mk 30 (0) [])]++cE x.X++[(z6.mk 38 (((O++[(z6.mk 30 (0) [])]++cE x.X).length+k.length+3:Nat)) [])]++k++[(z6.mk 41 (D) []),(z6.mk 37 (0) [])]).length=O.length+4+(cE x.X).length+k.length by simp; omega] at he
          have hel:=z7J x.Else (O.length+4+(cE x.X).length+k.length) D
          have hr:=zfk hb he (by simp; omega)
          have hX:=cexpr n x.X (O++[(z6.mk 30 (0) [])]) (by omega) (by simp; omega)
          have hres:O++cS x O.length D=(O++[(z6.mk 30 (0) [])]++cE x.X)++[(z6.mk 38 (((O++[(z6.mk 30 (0) [])]++cE x.X).length+k.length+3:Nat)) [])]++k++[(z6.mk 41 D []),(z6.mk 37 (((O++[(z6.mk 30 (0) [])]++cE x.X).length+k.length+(cB x.Else (O.length+4+(cE x.X).length+k.length) D).length+4:Nat)) [])]++cB x.Else (O.length+4+(cE x.X).length+k.length) D++[(z6.mk 41 D [])]:=by
            rw [cS5 x O.length D h5 rfl hk.symm rfl]; simp; omega
          rw [hres]
          simp only [show decide (x.Kind≠6)=true by simpa using h6,cond_true,hX,Option.bind_some,z12]
          generalize O++[(z6.mk 30 (0) [])]++cE x.X=Q at hr ⊢
          simp [h5,hr]
        · have hX:=cexpr n x.X (O++[(z6.mk 30 (0) [])]) (by omega) (by simp; omega)
          have hp:∀ (op a:Int) (s:List UInt8),zM ⟨O++[(z6.mk 30 (0) [])]++cE x.X⟩ op a s=some (((O++[(z6.mk 30 (0) [])]++cE x.X).length:Int),⟨(O++[(z6.mk 30 (0) [])]++cE x.X)++[⟨op,a,s⟩]⟩):=fun op a s=>zaP (by simp; omega)
          rw [cSo x _ _ h5 h6,show O++([(z6.mk 30 (0) [])]++cE x.X++[lastI x])=(O++[(z6.mk 30 (0) [])]++cE x.X)++[lastI x] by simp]
          simp only [show decide (x.Kind≠6)=true by simpa using h6,cond_true,hX,Option.bind_some,z12]
          generalize O++[(z6.mk 30 (0) [])]++cE x.X=Q at hp ⊢
          have hk9:x.Kind=1∨x.Kind=2∨x.Kind=3∨x.Kind=4∨x.Kind=7∨x.Kind=8∨x.Kind=9:=by omega
          rcases hk9 with h | h | h | h | h | h | h
          · rw [w64 (by omega) (by omega)]
            simp [h,z1H,hp,obind,lastI]
          · simp [h,z1H,hp,obind,lastI]
          · simp [h,z2t,hp,obind,lastI]
          · simp [h,z10,hp,obind,lastI,mget,mput]
          · simp [h,z10,hp,obind,lastI,mget,mput]
          · simp [h,z10,hp,obind,lastI,mget,mput]
          · simp [h,z10,hp,obind,lastI,mget,mput]) (by
      unfold z2m; simp) n 0 (by omega) (by omega)
    simpa [cB,dK] using this
end Go.Proofs.YtgjcniomhahgkaaGreatDoor
namespace Go.Proofs.YtgjcniomhahgkaaGreatDoor
open Go.Abs
theorem condZ {α:Type} {p:α→Prop} {b:Bool} {x y:Option α} (h1:b=true→∃ r,x=some r∧p r) (h2:b=false→∃ r,y=some r∧p r):∃ r,cond b x y=some r∧p r:=by cases b <;> simp_all
def valT (op k:Int):Int:=
 if op=8∨op=11∨op=12∨op=13∨op=14 then (if k=1 then 1 else 0) else if op=10 then (if k=3 then 0 else k) else if op=9∨op=21∨op=22 then (if k=3 then 3 else 0)
 else if op=15∨op=16∨op=17∨op=18 then (if k=3 then 0 else 3) else 3
theorem ziS (op k:Int):z4r op k=some (valT op k):=by
 have h:=fun a=>Classical.em (op=a)
 unfold z4r valT
 rcases h 8 with rfl | h8
 ·by_cases hk:k=1 <;> simp [hk]
 rcases h 11 with rfl | h11
 ·by_cases hk:k=1 <;> simp [hk]
 rcases h 12 with rfl | h12
 ·by_cases hk:k=1 <;> simp [hk]
 rcases h 13 with rfl | h13
 ·by_cases hk:k=1 <;> simp [hk]
 rcases h 14 with rfl | h14
 ·by_cases hk:k=1 <;> simp [hk]
 rcases h 10 with rfl | h10
 ·by_cases hk:k=3 <;> simp [hk]
 rcases h 9 with rfl | h9
 ·by_cases hk:k=3 <;> simp [hk]
 rcases h 21 with rfl | h21
 ·by_cases hk:k=3 <;> simp [hk]
 rcases h 22 with rfl | h22
 ·by_cases hk:k=3 <;> simp [hk]
 rcases h 15 with rfl | h15
 ·by_cases hk:k=3 <;> simp [hk]
 rcases h 16 with rfl | h16
 ·by_cases hk:k=3 <;> simp [hk]
 rcases h 17 with rfl | h17
 ·by_cases hk:k=3 <;> simp [hk]
 rcases h 18 with rfl | h18
 ·by_cases hk:k=3 <;> simp [hk]
 simp [h8,h9,h10,h11,h12,h13,h14,h15,h16,h17,h18,h21,h22]
def lfE (op n slot:Int) (s:List UInt8) (vs:List Int) (ty:Int):Prop:=
 (op=1∧0≤n∧n<1000000000000000000∧ty=1)∨((op=2∨op=6)∧s.length≤200∧ty=2)∨((op=4∨op=5)∧ty=3)∨(op=7∧ty=1)∨(op=3∧0≤slot∧vs[slot.toNat]? = some ty)
theorem zif (x:zm) (vars:List Int):∃ r,z6O x vars=some r∧(r≠0→lfE x.Op x.N x.Slot x.S vars r):=by
 unfold z6O lfE
 refine condZ (fun h=>⟨_,rfl,fun _=>.inl ?_⟩) fun _=>condZ (fun h=>⟨_,rfl,fun _=>.inr (.inl ?_)⟩) fun _=>condZ (fun h=>⟨_,rfl,fun _=>.inr (.inr (.inl ?_))⟩) fun _=>condZ (fun h=>⟨_,rfl,fun _=>.inr (.inr (.inr (.inl ?_)))⟩) fun _=>condZ (fun h=>?_) (fun _=>⟨_,rfl,fun h=>absurd rfl h⟩)
 ·simp at h; omega
 ·simp at h; omega
 ·simp at h; omega
 ·simp at h; omega
 ·simp at h
  rw [z4l h.1.2 (by omega)]
  exact ⟨_,rfl,fun _=>.inr (.inr (.inr (.inr ⟨h.1.1,h.1.2,List.getElem?_eq_getElem _⟩)))⟩
def ariB (op:Int) (len:Nat):Prop:=8≤op∧op≤23∧((op=8∨op=9)∧len=1∨op=23∧2≤len∨(op≠8∧op≠9∧op≠23)∧len=2)
theorem zex (n:Nat) (op:Int) (l:List Int) (hn:l.length<n) (hl:l.length<1073741824):∃ r,z5r n op l=some r∧(r≠0→(∃ k,(∀ y∈l,y=k)∧valT op k=r)∧8≤op∧op≤23):=by
  unfold z5r
  obtain ⟨r,h1,h2⟩:=z3s (step:=z4D l) (fun s=>∃ k:Nat,s=k∧1≤k∧∀ j,j<k→∀ (h:j<l.length),l[j]=l[0]'(by omega)) (fun s=>l.length - s.toNat) (fun r=>match r with | .go _=>∀ j,∀ (h:j<l.length),l[j]=l[0]'(by omega) | .stop r=>r=0) (fun s ⟨k,hk,h1,hs⟩=>by
      subst hk
      unfold z4D
      by_cases hc:k<l.length
      · simp only [show decide ((k:Int)<(l.length:Int))=true by simp; omega,cond_true]
        rw [z1J hc,z4l (w:=0) (by omega) (by simp; omega)]
        rw [z2P (N:=l.length) (by omega) (by omega)]
        by_cases he:l[k]=l[(0:Int).toNat]'(by simp; omega)
        · simp only [he,ne_eq,not_true_eq_false,decide_false,cond_false]
          refine .inl ⟨_,rfl,⟨k+1,rfl,by omega,fun j hj hl=>?_⟩,by simp; omega⟩
          by_cases hjk:j=k
          · subst hjk; exact he
          · exact hs j (by omega) hl
        · simp only [he,ne_eq,not_false_eq_true,decide_true,cond_true]
          exact .inr ⟨_,rfl,rfl⟩
      · simp only [show decide ((k:Int)<(l.length:Int))=false by simp; omega,cond_false]
        exact .inr ⟨_,rfl,fun j hj=>hs j (by omega) hj⟩) n 1 ⟨1,rfl,by omega,fun j hj h=>by simp only [show j=0 by omega]⟩ (by simp; omega)
  rw [h1]
  cases r with
  | stop r=>simp only at h2; exact ⟨_,rfl,fun h=>absurd h2 h⟩
  | go u =>
    simp only [z12]
    simp only at h2
    refine condZ (fun _=>⟨_,rfl,fun h=>absurd rfl h⟩) fun h=>?_
    have hlen:0<l.length:=by simp at h; exact List.length_pos_iff.2 h
    rw [z4l (w:=0) (by omega) hlen]
    have hall:∀ y∈l,y=l[(0:Int).toNat]:=by
      intro y hy
      obtain ⟨j,hj,rfl⟩:=List.getElem_of_mem hy
      exact h2 j hj
    generalize l[(0:Int).toNat]=k at hall
    refine condZ (fun h3=>condZ (fun h4=>⟨_,rfl,fun _=>?_⟩) fun _=>⟨_,rfl,fun h=>absurd rfl h⟩) fun n1=>condZ (fun h3=>condZ (fun h4=>⟨_,rfl,fun _=>?_⟩) fun _=>⟨_,rfl,fun h=>absurd rfl h⟩) fun n2=>
      condZ (fun h3=>condZ (fun _=>⟨_,rfl,fun h=>absurd rfl h⟩) fun h4=>⟨_,rfl,fun _=>?_⟩) fun n3=>condZ (fun h3=>condZ (fun _=>⟨_,rfl,fun h=>absurd rfl h⟩) fun h4=>⟨_,rfl,fun _=>?_⟩) fun n4=>condZ (fun h3=>⟨_,rfl,fun _=>?_⟩) fun _=>⟨_,rfl,fun h=>absurd rfl h⟩
    · simp at h3 h4
      exact ⟨⟨k,hall,by unfold valT; rw [if_pos (by omega),if_pos h4]⟩,by omega,by omega⟩
    · simp at h3 h4 n1
      exact ⟨⟨k,hall,by unfold valT; rw [if_neg (by omega),if_neg (by omega),if_pos (by omega),if_pos h4]⟩,by omega,by omega⟩
    · simp at h3 h4 n1 n2
      exact ⟨⟨k,hall,by unfold valT; rw [if_neg (by omega),if_pos (by omega),if_neg h4]⟩,by omega,by omega⟩
    · simp at h3 h4 n1 n2 n3
      exact ⟨⟨k,hall,by unfold valT; rw [if_neg (by omega),if_neg (by omega),if_neg (by omega),if_pos (by omega),if_neg h4]⟩,by omega,by omega⟩
    · simp at h3 n1 n2 n3 n4
      exact ⟨⟨k,hall,by unfold valT; rw [if_neg (by omega),if_neg (by omega),if_neg (by omega),if_neg (by omega)]⟩,by omega,by omega⟩
mutual
def rE:zm→List Int→Prop
 | ⟨op,ty,n,slot,s,l⟩,vs=>ty≠0∧((l=[]∧lfE op n slot s vs ty)∨(ariB op l.length∧rEL l vs∧∃ k,(∀ y∈l,y.Type_=k)∧valT op k=ty))
def rEL:List zm→List Int→Prop
 | [],_=>True
 | x::r,vs=>rE x vs∧rEL r vs
end
theorem rE_eq (x:zm) (vs:List Int):rE x vs↔x.Type_≠0∧((x.Args=[]∧lfE x.Op x.N x.Slot x.S vs x.Type_)∨(ariB x.Op x.Args.length∧rEL x.Args vs∧∃ k,(∀ y∈x.Args,y.Type_=k)∧valT x.Op k=x.Type_)):=by cases x; simp [rE]
theorem zla:∀ (l:List zm) (vs:List Int),(∀ x∈l,rE x vs)→rEL l vs
 | [],_,_=>by simp [rEL]
 | x::r,vs,h=>by simp only [rEL]; exact ⟨h x (.head _),zla r vs fun y hy=>h y (.tail _ hy)⟩
theorem zh0:∀ (n:Nat) (x:zm) (vars:List Int) (deep:Int),x.nodes<n→x.nodes<1073741824→∃ b,z2r n x vars deep=some b∧(b=true→rE x vars)
  | 0,x,vars,deep,h,_=>by omega
  | n + 1, x, vars, deep, h, hb => by
    have hn:=z4n x
    have hlen:=z4L x.Args
    show ∃ r,z2Q n (z2r n) x vars deep=some r∧(r=true→rE x vars)
    unfold z2Q
    refine condZ (fun _=>⟨_,rfl,fun h=>by cases h⟩) fun _=>condZ (fun _=>⟨_,rfl,fun h=>by cases h⟩) fun _=>condZ (fun _=>?_) fun hop=>condZ (fun _=>⟨_,rfl,fun h=>by cases h⟩) fun har=>?_
    · obtain ⟨r,hr,hl⟩:=zif x vars
      rw [hr]
      refine ⟨_,rfl,fun h=>?_⟩
      simp at h
      exact (rE_eq x vars).2 ⟨by omega,.inl ⟨h.1.1,by rw [h.2]; exact hl h.1.2⟩⟩
    · obtain ⟨r,h1,h2⟩:=z3s (step:=z4o x vars deep (z2r n)) (fun s=>∃ k:Nat,s.2=k∧k≤x.Args.length∧s.1=(x.Args.take k).map (·.Type_)∧∀ y∈x.Args.take k,rE y vars) (fun s=>x.Args.length - s.2.toNat) (fun r=>match r with | .go q=>q=x.Args.map (·.Type_)∧(∀ y∈x.Args,rE y vars) | .stop b=>b=false) (fun ⟨a,b⟩ ⟨k,hk,hle,hal,hre⟩=>by
        simp only at hk hal; subst hk
        unfold z4o
        by_cases hc:k<x.Args.length
        · simp only [show decide ((k:Int)<(x.Args.length:Int))=true by simp; omega,cond_true]
          have hx:=List.getElem?_eq_getElem hc
          have:=z7c _ _ _ hx
          obtain ⟨r,hr,hre2⟩:=zh0 n x.Args[k] vars (IntKind.i64.wrap (deep+1)) (by omega) (by omega)
          rw [z43 hx,hr]
          simp only [obind,Option.bind_some]
          cases r
          · exact .inr ⟨_,rfl,rfl⟩
          · simp only [Bool.not_true,cond_false]
            rw [zW (by simp [hal]; omega),z2P (N:=x.Args.length) (by omega) (by omega)]
            refine .inl ⟨_,rfl,⟨k+1,rfl,by omega,?_,?_⟩,by simp; omega⟩
            · simp only [hal]; rw [List.take_succ_eq_append_getElem hc,List.map_append]; rfl
            · rw [List.take_succ_eq_append_getElem hc]
              intro y hy
              rcases List.mem_append.1 hy with hy | hy
              · exact hre y hy
              · simp at hy; subst hy; exact hre2 rfl
        · simp only [show decide ((k:Int)<(x.Args.length:Int))=false by simp; omega,cond_false]
          rw [show k=x.Args.length by omega,List.take_length] at hal hre
          exact .inr ⟨_,rfl,hal,hre⟩) n ([],0) ⟨0,rfl,by omega,by simp,by simp⟩ (by simp; omega)
      rw [h1]
      cases r with
      | stop r=>simp only at h2; exact ⟨_,rfl,fun h=>by simp [h2] at h⟩
      | go q =>
        simp only [z12] at h2 ⊢
        obtain ⟨r,hr,hres⟩:=zex n x.Op q (by rw [h2.1]; simp; omega) (by rw [h2.1]; simp; omega)
        rw [hr]
        refine ⟨_,rfl,fun h=>?_⟩
        simp at h
        obtain ⟨⟨k,hk,hv⟩,h8,h23⟩:=hres h.1
        refine (rE_eq x vars).2 ⟨by omega,.inr ⟨?_,zla _ _ h2.2,k,fun y hy=>hk _ (by rw [h2.1]; exact List.mem_map.2 ⟨y,hy,rfl⟩),by rw [hv,h.2]⟩⟩
        refine ⟨h8,h23,?_⟩
        simp at har
        omega
end Go.Proofs.YtgjcniomhahgkaaGreatDoor
namespace Go.Proofs.YtgjcniomhahgkaaGreatDoor
open Go.Abs
def Vk (v:zj):Prop:=v.S.length≤4096∧-1152921504606846976≤v.N∧v.N≤1152921504606846976
def Er (e:Int):Prop:=e=202∨e=203
def Pv:Pn zj→Prop
 | .ret v=>Vk v
 | .pan e=>Er e
def Qv (o:Option (Pn zj)):Prop:=∃ p,o=some p∧Pv p
theorem Qv.ret {v:zj} (h:Vk v):Qv (some (.ret v)):=⟨_,rfl,h⟩
theorem Qv.pan {e:Int} (h:Er e):Qv (some (.pan e)):=⟨_,rfl,h⟩
theorem Qv.bind {o:Option (Pn zj)} {g:zj→Option (Pn zj)} (h:Qv o) (hg:∀ v,Vk v→Qv (g v)):Qv (obind o fun r=>pbind r (fun e=>some (.pan e)) g):=by
 obtain ⟨p,rfl,hp⟩:=h
 cases p with
 | ret v=>exact hg v hp
 | pan e=>exact .pan hp
theorem z6m {b:Bool} {x y:Option (Pn zj)} (h1:b=true→Qv x) (h2:b=false→Qv y):Qv (cond b x y):=by cases b <;> simp_all
theorem z6Y (k:Int):Qv (z2e k):=by
 unfold z2e z38
 by_cases h:k≤1152921504606846976∧-1152921504606846976≤k
 ·rw [show (decide (k≤1152921504606846976) && decide (-1152921504606846976≤k))=true by simp; omega]
  exact .ret ⟨Nat.zero_le _,h.2,h.1⟩
 ·rw [show (decide (k≤1152921504606846976) && decide (-1152921504606846976≤k))=false by simp; omega]
  exact .pan (.inr rfl)
theorem zcE (s:List UInt8):Qv (z4u s):=by
 unfold z4u z38
 by_cases h:(s.length:Int)≤4096
 ·simp only [h,decide_true,Bool.not_true,cond_false,obind,Option.bind_some,pbind]
  exact .ret ⟨show s.length≤4096 by omega,by simp only; omega,by simp only; omega⟩
 ·simp only [h,decide_false,Bool.not_false,cond_true,obind,Option.bind_some,pbind]
  exact .pan (.inr rfl)
theorem zf2 (b:Bool):∃ v,z1Q b=some v∧Vk v:=by cases b <;> exact ⟨_,rfl,Nat.zero_le _,by simp only; omega,by simp only; omega⟩
theorem z7S (b:Bool):Qv (obind (z1Q b) fun r=>some (.ret r)):=by
 obtain ⟨v,h,hv⟩:=zf2 b
 rw [h]; exact .ret hv
theorem zes (a b:Int) (ha : -1152921504606846976≤a∧a≤1152921504606846976):Qv (z5e a b):=by
 unfold z5e
 have key:∀ b2:Bool,Qv (obind (z38 b2 203) fun r9=>pbind r9 (fun e12=>some (.pan e12)) fun q11=>obind (z2e (IntKind.i64.wrap (a*b))) fun r13=>pbind r13 (fun e16=>some (.pan e16)) fun q15=>some (.ret q15)):=by
  intro b2
  cases b2
  ·exact .pan (.inr rfl)
  ·exact Qv.bind (z6Y _) fun v hv=>.ret hv
 by_cases h:a=0
 ·simp only [h,decide_true,cond_true,z12]
  simp only [h] at key; exact key true
 ·simp only [h,decide_false,cond_false]
  rw [zW]
  ·simp only [z12]; exact key _
  ·rw [w64 (by omega) (by omega)]; omega
theorem zdx (a b:Int):∃ p,z4T a b=some p∧∀ e,p = .pan e→Er e:=by
 unfold z4T z38
 by_cases h:b=0
 ·subst h; exact ⟨_,rfl,by rintro e he; cases he; exact .inl rfl⟩
 ·simp only [h,ne_eq,not_false_eq_true,decide_true,Bool.not_true,cond_false,obind,Option.bind_some,pbind]
  rw [zW trivial,zW trivial]
  cases (decide (¬ a.tmod b=0) && !decide (a.tmod b<0) == decide (b<0)) <;> exact ⟨_,rfl,by rintro e he; cases he⟩
theorem znm (n:Nat) (l:List zj) (v:zj) (hn:l.length<n) (hl:l.length<1073741824):∃ r,zZ n l v=some r:=by
 unfold zZ
 obtain ⟨r,h1,_⟩:=z3s (step:=z1u l v) (fun s=>∃ k:Nat,s=k) (fun s=>l.length - s.toNat) (fun _=>True) (fun s ⟨k,hk⟩=>by
  subst hk
  unfold z1u
  by_cases hc:k<l.length
  ·simp only [show decide ((k:Int)<(l.length:Int))=true by simp; omega,cond_true]
   rw [z1J hc,z2P (N:=l.length) (by omega) (by omega)]
   cases (decide (v.Type_=l[k].Type_) && (decide (v.N=l[k].N) && decide (v.S=l[k].S)))
   ·exact .inl ⟨_,rfl,⟨k+1,rfl⟩,by simp; omega⟩
   ·exact .inr ⟨_,rfl,trivial⟩
  ·simp only [show decide ((k:Int)<(l.length:Int))=false by simp; omega,cond_false]
   exact .inr ⟨_,rfl,trivial⟩) n 0 ⟨0,rfl⟩ (by simp; omega)
 rw [h1]
 cases r <;> exact ⟨_,rfl⟩
theorem znl (n:Nat) (l:List Int) (v:Int) (hn:l.length<n) (hl:l.length<1073741824):∃ r,z3d n l v=some r:=by
 unfold z3d
 obtain ⟨r,h1,_⟩:=z3s (step:=z48 l v) (fun s=>∃ k:Nat,s=k) (fun s=>l.length - s.toNat) (fun _=>True) (fun s ⟨k,hk⟩=>by
  subst hk
  unfold z48
  by_cases hc:k<l.length
  ·simp only [show decide ((k:Int)<(l.length:Int))=true by simp; omega,cond_true]
   rw [z1J hc,z2P (N:=l.length) (by omega) (by omega)]
   cases decide (v=l[k])
   ·exact .inl ⟨_,rfl,⟨k+1,rfl⟩,by simp; omega⟩
   ·exact .inr ⟨_,rfl,trivial⟩
  ·simp only [show decide ((k:Int)<(l.length:Int))=false by simp; omega,cond_false]
   exact .inr ⟨_,rfl,trivial⟩) n 0 ⟨0,rfl⟩ (by simp; omega)
 rw [h1]
 cases r <;> exact ⟨_,rfl⟩
theorem zfn (n:Nat) (l:List Int) (v:Int) (hn:l.length<n) (hl:l.length<1073741824):Qv (obind (z14 n l v) fun r=>obind (z1Q r) fun q=>some (.ret q)):=by
 obtain ⟨r,hr⟩:=znl n l v hn hl
 unfold z14
 rw [hr]
 exact z7S _
theorem zdu (a b:zj):∃ r,z5d a b=some r:=by
 unfold z5d cmpH
 cases decide (a.Type_=2) <;> exact ⟨_,rfl⟩
theorem zhf (n:Nat) (op:Int) (l:List zj) (h0:0<l.length) (hn:l.length+5<n) (hl:l.length<1073741824) (hv:∀ v∈l,Vk v):Qv (z5v n op l):=by
 unfold z5v
 rw [z4l (w:=0) (by omega) (by simp; omega),w64 (by omega) (by omega),z4l (w:=(l.length:Int) - 1) (by omega) (by omega)]
 have ha:Vk l[(0:Int).toNat]:=hv _ (List.getElem_mem _)
 have hb:Vk (l[((l.length:Int) - 1).toNat]'(by omega)):=hv _ (List.getElem_mem _)
 generalize l[(0:Int).toNat]=a at ha
 generalize l[((l.length:Int) - 1).toNat]'(by omega)=b at hb
 have ret:∀ o,Qv o→Qv (obind o fun r=>pbind r (fun e=>some (.pan e)) fun q=>some (.ret q)):=fun o ho=>ho.bind fun v hv=>.ret hv
 refine z6m (fun _=>ret _ (z6Y _)) fun _=>z6m (fun _=>z7S _) fun _=>z6m (fun _=>z6m (fun _=>?_) fun _=>ret _ (z6Y _)) fun _=>z6m (fun _=>ret _ (z6Y _)) fun _=>z6m (fun _=>ret _ (zes _ _ ha.2)) fun _=>
  z6m (fun _=>?_) fun _=>z6m (fun _=>?_) fun _=>z6m (fun _=>z7S _) fun _=>z6m (fun _=>z7S _) fun _=>z6m (fun _=>?_) fun _=>?_
 ·rw [zW (by have:=ha.1; have:=hb.1; omega)]; exact ret _ (zcE _)
 ·obtain ⟨p,hp,he⟩:=zdx a.N b.N
  rw [hp]
  cases p with
  | ret q=>exact ret _ (z6Y _)
  | pan e=>exact .pan (he e rfl)
 ·obtain ⟨p,hp,he⟩:=zdx a.N b.N
  rw [hp]
  cases p with
  | ret q=>exact ret _ (z6Y _)
  | pan e=>exact .pan (he e rfl)
 ·rw [zW (by omega)]
  obtain ⟨r,hr⟩:=znm n (l.drop (1:Int).toNat) a (by simp; omega) (by simp; omega)
  unfold z18
  rw [hr]; exact z7S _
 ·obtain ⟨r,hr⟩:=zdu a b
  rw [hr]
  simp only [obind,Option.bind_some]
  have c:=fun l v (h:l.length≤2)=>zfn n l v (by omega) (by omega)
  simp only [obind] at c
  exact z6m (fun _=>c _ _ (by simp)) fun _=>z6m (fun _=>c _ _ (by simp)) fun _=>z6m (fun _=>c _ _ (by simp)) fun _=>z6m (fun _=>c _ _ (by simp)) fun _=>z6m (fun _=>c _ _ (by simp)) fun _=>z6m (fun _=>c _ _ (by simp)) fun _=>c _ _ (by simp)
end Go.Proofs.YtgjcniomhahgkaaGreatDoor
namespace Go.Proofs.YtgjcniomhahgkaaGreatDoor
open Go.Abs
def Qg {A:Type} (ok:A→Prop) (r0:zi) (o:Option (Pg A zi)):Prop:=(∃ v,o=some (.ret v)∧ok v)∨∃ e,o=some (.pan e r0)∧Er e
theorem Qv.g {o:Option (Pn zj)} (h:Qv o) (r0:zi):Qg Vk r0 (obind o fun r=>pbind r (fun e=>some (.pan e r0)) fun q=>some (.ret q)):=by
 obtain ⟨p,rfl,hp⟩:=h
 cases p with
 | ret v=>exact .inl ⟨v,rfl,hp⟩
 | pan e=>exact .inr ⟨e,rfl,hp⟩
theorem zan {A:Type} {ok:A→Prop} {r0:zi} {b:Bool} {x y:Option (Pg A zi)} (h1:b=true→Qg ok r0 x) (h2:b=false→Qg ok r0 y):Qg ok r0 (cond b x y):=by cases b <;> simp_all
theorem ziL (b:Bool) (r0:zi):Qg Vk r0 (obind (z1Q b) fun r=>some (.ret r)):=by
 obtain ⟨v,h,hv⟩:=zf2 b
 rw [h]; exact .inl ⟨v,rfl,hv⟩
theorem zkL (n:Nat) (r:zi) (x:z6) (l:List zj) (h1:1≤x.Op) (h3:x.Op=3→0≤x.A∧x.A.toNat<r.Cpu.Slots.length) (h8:8≤x.Op→0<l.length) (hn:l.length+5<n) (hl:l.length<1073741824) (hv:∀ v∈l,Vk v) (hs:∀ v∈r.Cpu.Slots,Vk v)
    (hh:r.Cpu.Out.Edge.Headers.length<n) (hh2:r.Cpu.Out.Edge.Headers.length<1073741824):Qg Vk r (z2h n r x l):=by
  unfold z2h
  refine zan (fun _=>(z6Y _).g r) fun n1=>zan (fun _=>(zcE _).g r) fun n2=>zan (fun h=>?_) fun n3=>?_
  · have h:=h3 (by simpa using h)
    rw [z4l h.1 h.2]; exact .inl ⟨_,rfl,hs _ (List.getElem_mem _)⟩
  · have key:∀ s:Bool,(s=false→¬ (x.Op=4∨x.Op=5))→Qg Vk r (cond s (obind (z1Q (decide (x.Op=4))) fun r22=>some (.ret r22)) (cond (decide (x.Op=6)) (bindJ (S:=Unit) (iter (z2u r x) n 0) (fun _=>obind (z4u []) fun r42=>pbind r42 (fun e45=>some (.pan e45 r)) fun q44=>some (.ret q44)))
        (cond (decide (x.Op=7)) (obind (z2e r.Cpu.Out.Edge.Status) fun r47=>pbind r47 (fun e50=>some (.pan e50 r)) fun q49=>some (.ret q49)) (obind (z5v n x.Op l) fun r51=>pbind r51 (fun e54=>some (.pan e54 r)) fun q53=>some (.ret q53))))):=by
      intro s hs2
      refine zan (fun _=>ziL _ r) fun h45=>zan (fun _=>?_) fun n6=>zan (fun _=>(z6Y _).g r) fun n7=>?_
      · obtain ⟨q,hq,hp⟩:=z3s (step:=z2u r x) (fun s=>∃ k:Nat,s=k) (fun s=>r.Cpu.Out.Edge.Headers.length - s.toNat) (fun q=>match q with | .go _=>True | .stop p=>Qg Vk r (some p)) (fun s ⟨k,hk⟩=>by
          subst hk
          unfold z2u
          by_cases hc:k<r.Cpu.Out.Edge.Headers.length
          · simp only [show decide ((k:Int)<(r.Cpu.Out.Edge.Headers.length:Int))=true by simp; omega,cond_true]
            rw [z1J hc,z2P (N:=r.Cpu.Out.Edge.Headers.length) (by omega) (by omega)]
            cases decide (r.Cpu.Out.Edge.Headers[k].Name=x.S)
            · exact .inl ⟨_,rfl,⟨k+1,rfl⟩,by simp; omega⟩
            · obtain ⟨p,hp,hpv⟩:=zcE r.Cpu.Out.Edge.Headers[k].Value
              rw [hp]
              cases p with
              | ret v=>exact .inr ⟨_,rfl,.inl ⟨v,rfl,hpv⟩⟩
              | pan e=>exact .inr ⟨_,rfl,.inr ⟨e,rfl,hpv⟩⟩
          · simp only [show decide ((k:Int)<(r.Cpu.Out.Edge.Headers.length:Int))=false by simp; omega,cond_false]
            exact .inr ⟨_,rfl,trivial⟩) n 0 ⟨0,rfl⟩ (by simp; omega)
        rw [hq]
        cases q with
        | stop p=>exact hp
        | go u=>exact (zcE _).g r
      · have:=hs2 h45
        simp at n1 n2 n3 n6 n7
        exact (zhf n x.Op l (h8 (by omega)) hn hl hv).g r
    by_cases h4:x.Op=4
    · simp only [h4,decide_true,cond_true,z12]
      have:=key true (by simp)
      simp only [cond_true,h4,decide_true] at this; exact this
    · simp only [h4,decide_false,cond_false,z12]
      have:=key (decide (x.Op=5)) (by simp; omega)
      simpa only [h4,decide_false] using this
def mk (C:List z6) (pos:Nat) (st vs:List zj) (L:List Int) (o:zA) (sp:Nat):zi:=⟨⟨pos,st,vs,L,o,sp,false,0⟩,C⟩
def fin (C:List z6) (o:zA) (sp:Nat):zi:=⟨⟨0,[],[],[],o,sp,true,0⟩,C⟩
def err (C:List z6) (e:Int) (sp:Nat):zi:=⟨⟨0,[],[],[],⟨⟨[],100⟩,[],0,[]⟩,sp,true,e⟩,C⟩
def rn (C:List z6) (pos:Nat) (st vs:List zj) (L:List Int) (o:zA) (sp:Nat):zi:=if pos=C.length then fin C o sp else mk C pos st vs L o sp
def arity (x:z6):Nat:=if x.Op=23 then x.A.toNat else if x.Op≤7 then 0 else if x.Op=8∨x.Op=9 then 1 else 2
theorem zbZ (x:z6) (h:x.Op=23→0≤x.A):z4A x=some (arity x:Int):=by
 unfold z4A arity
 by_cases h1:x.Op=23
 ·have:=h h1; simp [h1]; omega
 ·by_cases h2:x.Op≤7
  ·simp [h1,h2]
  ·by_cases h3:x.Op=8∨x.Op=9
   ·rcases h3 with h3 | h3 <;> simp [h3]
   ·have:(decide (x.Op=8) || decide (x.Op=9))=false:=by simp; omega
    simp [h1,h2,h3,this]
theorem ziT (n:Nat) (C:List z6) (pos:Nat) (st az vs:List zj) (L:List Int) (o:zA) (sp:Nat) (x:z6) (h1:1≤x.Op) (h23:x.Op=23→0≤x.A) (ha:az.length=arity x) (hp:8≤x.Op→0<arity x) (h3:x.Op=3→0≤x.A∧x.A.toNat<vs.length)
  (hn:100000≤n) (hst:st.length+az.length<50000) (hv:∀ v∈az,Vk v) (hs:∀ v∈vs,Vk v) (hh:o.Edge.Headers.length<90000) :
  Qg (fun r=>∃ v,r=mk C pos (st++[v]) vs L o sp∧Vk v) (mk C pos (st++az) vs L o sp) (z1U n (mk C pos (st++az) vs L o sp) x):=by
 unfold z1U
 rw [zbZ x h23]
 simp only [obind,Option.bind_some]
 have e1:(mk C pos (st++az) vs L o sp).Cpu.Stack=st++az:=rfl
 have e2:IntKind.i64.wrap (((st++az).length:Int) - (arity x:Int))=(st.length:Int):=by rw [w64 (by simp; omega) (by simp; omega)]; simp; omega
 rw [e1,e2,zW (by refine ⟨by omega,?_,by omega⟩; rw [List.length_append]; omega)]
 rw [show (((st.length:Int)).toNat)=st.length by omega,List.drop_left]
 unfold zR
 rw [zW (by simp; omega)]
 simp only [Option.bind_some,List.nil_append,List.take_left]
 rw [zW (by refine ⟨by omega,by omega,?_⟩; rw [List.length_append]; omega)]
 rcases zkL n (mk C pos (st++az) vs L o sp) x az h1 h3 (fun h=>by rw [ha]; exact hp h) (by omega) (by omega) hv hs (by show o.Edge.Headers.length<n; omega) (by show o.Edge.Headers.length<_; omega) with ⟨v,hv,hk⟩ | ⟨e,he,hk⟩
 ·rw [hv]
  simp only [Option.bind_some,pgbind]
  rw [zW (by simp; omega)]
  exact .inl ⟨_,rfl,v,rfl,hk⟩
 ·rw [he]; exact .inr ⟨e,rfl,hk⟩
end Go.Proofs.YtgjcniomhahgkaaGreatDoor
namespace Go.Proofs.YtgjcniomhahgkaaGreatDoor
open Go.Abs
theorem zkC (n:Nat) (l:List zp) (x:z6) (hn:l.length<n) (hl:l.length<1073741824):∃ r,zS n l x=some r∧-1≤r∧r<l.length:=by
 unfold zS
 obtain ⟨r,h1,h2⟩:=z3s (step:=z1m l x) (fun s=>∃ k:Nat,s=k) (fun s=>l.length - s.toNat) (fun q=>match q with | .go _=>True | .stop p=>-1≤p∧p<l.length) (fun s ⟨k,hk⟩=>by
  subst hk
  unfold z1m
  by_cases hc:k<l.length
  ·simp only [show decide ((k:Int)<(l.length:Int))=true by simp; omega,cond_true]
   rw [z1J hc,z2P (N:=l.length) (by omega) (by omega)]
   unfold z2n
   cases hd:decide (l[k].Name=x.S) <;> simp only [obind,Option.bind_some,hd,cond_true,cond_false]
   ·exact .inl ⟨_,rfl,⟨k+1,rfl⟩,by simp; omega⟩
   ·exact .inr ⟨_,rfl,by simp only; omega⟩
  ·simp only [show decide ((k:Int)<(l.length:Int))=false by simp; omega,cond_false]
   exact .inr ⟨_,rfl,trivial⟩) n 0 ⟨0,rfl⟩ (by simp; omega)
 rw [h1]
 cases r with
 | stop p=>exact ⟨_,rfl,h2⟩
 | go u=>exact ⟨_,rfl,by omega,by omega⟩
theorem zkD (n:Nat) (l:List zp) (x:z6) (hn:l.length<n) (hl:l.length<1073741824):∃ r,zV n l x=some r∧-1≤r∧r<l.length:=by
 have h:=zkC n l x hn hl
 unfold zS at h
 unfold zV
 exact h
theorem zjA (n:Nat) (l:List zp) (x:z6) (hn:l.length<n) (hl:l.length<1073741824):∃ r,zU n l x=some r∧r.length≤l.length:=by
  unfold zU
  obtain ⟨r,hr,h1,h2⟩:=zkD n l x hn hl
  rw [hr]
  simp only [obind,Option.bind_some]
  by_cases h:r = -1
  · simp only [h,decide_true,cond_true]; exact ⟨_,rfl,Nat.le_refl _⟩
  · simp only [h,decide_false,cond_false]
    rw [w64 (by omega) (by omega)]
    obtain ⟨q,hq,hp⟩:=z3s (step:=z1g x) (fun s=>∃ i j:Nat,s.1=i∧s.2.1=j∧i<j∧j≤l.length∧s.2.2.length=l.length) (fun s=>l.length - s.2.1.toNat) (fun q=>match q with | .go (i,y)=>0≤i∧i≤l.length∧y.length=l.length | .stop _=>False) (fun ⟨a,b,y⟩ ⟨i,j,hi,hj,hij,hle,hy⟩=>by
      simp only at hi hj hy; subst hi; subst hj
      unfold z1g
      by_cases hc:j<y.length
      · simp only [show decide ((j:Int)<(y.length:Int))=true by simp; omega,cond_true]
        rw [z1J hc]
        unfold z1W
        simp only [obind,Option.bind_some]
        rw [z1J (by omega),z2P (N:=y.length) (i:=i) (by omega) (by omega)]
        cases decide (y[j].Name=x.S)
        · simp only [Bool.not_false,cond_true,z12]
          rw [z2P (N:=y.length) (by omega) (by omega)]
          exact .inl ⟨_,rfl,⟨i+1,j+1,rfl,rfl,by omega,by omega,by simp [hy]⟩,by simp; omega⟩
        · simp only [Bool.not_true,cond_false,z12]
          rw [z2P (N:=y.length) (by omega) (by omega)]
          exact .inl ⟨_,rfl,⟨i,j+1,rfl,rfl,by omega,by omega,hy⟩,by simp; omega⟩
      · simp only [show decide ((j:Int)<(y.length:Int))=false by simp; omega,cond_false]
        exact .inr ⟨_,rfl,by simp only; omega⟩) n (r,r+1,l) ⟨r.toNat,r.toNat+1,by simp only; omega,by simp only; omega,by omega,by omega,rfl⟩ (by simp; omega)
    rw [hq]
    cases q with
    | stop p=>exact hp.elim
    | go p =>
      obtain ⟨i,y⟩:=p
      simp only at hp
      simp only [z12]
      have hcl:(cpy y i.toNat (((y.length:Int)).toNat) (List.replicate (((y.length:Int)).toNat - i.toNat) (zp.mk [] []))).length=y.length:=by simp [cpy]; omega
      rw [zW (by omega),zW (by rw [hcl]; omega)]
      exact ⟨_,rfl,by rw [List.length_take,hcl]; omega⟩
theorem popM (C:List z6) (pos:Nat) (st vs:List zj) (v:zj) (L:List Int) (o:zA) (sp:Nat) (h:st.length<90000):z1a (mk C pos (st++[v]) vs L o sp)=some (v,mk C pos st vs L o sp):=by
 unfold z1a mk
 simp only
 have e:IntKind.i64.wrap (((st++[v]).length:Int) - 1)=(st.length:Int):=by rw [List.length_append,List.length_singleton,w64 (by omega) (by omega)]; omega
 rw [e,z43 (x:=v) (by simp),zW (by simp; try omega)]
 simp
theorem zfG (n:Nat) (C:List z6) (pos:Nat) (st vs:List zj) (v:zj) (L:List Int) (o:zA) (sp:Nat) (x:z6) (h:st.length<90000) (hn:100000≤n) (hh:o.Edge.Headers.length<90000) :
  ∃ hs,z1O n (mk C pos (st++[v]) vs L o sp) x=some (mk C pos st vs L ⟨⟨hs,o.Edge.Status⟩,o.Logs,o.End,o.Text⟩ sp)∧hs.length≤o.Edge.Headers.length+1:=by
 unfold z1O
 rw [popM _ _ _ _ _ _ _ _ h]
 simp only [obind,Option.bind_some]
 obtain ⟨r,hr,h1,h2⟩:=zkC n o.Edge.Headers x (by omega) (by omega)
 rw [show (mk C pos st vs L o sp).Cpu.Out.Edge.Headers=o.Edge.Headers from rfl,hr]
 simp only [Option.bind_some]
 by_cases h0:r<0
 ·simp only [h0,decide_true,cond_true]
  rw [zW (by simp; omega)]
  exact ⟨_,rfl,by simp⟩
 ·simp only [h0,decide_false,cond_false]
  rw [z4l (by omega) (by omega),w64 (by omega) (by omega),zW (by simp; omega)]
  unfold zQ
  rw [zW (by simp; omega)]
  simp only [Option.bind_some,List.nil_append]
  obtain ⟨q,hq,hl⟩:=zjA n ((o.Edge.Headers.set r.toNat (zp.mk (o.Edge.Headers[r.toNat]'(by omega)).Name v.S)).drop (r+1).toNat) x (by simp; omega) (by simp; omega)
  rw [hq]
  simp at hl
  simp only [Option.bind_some]
  rw [zW (by simp; omega),zW (by simp; omega)]
  exact ⟨_,rfl,by simp; omega⟩
end Go.Proofs.YtgjcniomhahgkaaGreatDoor
namespace Go.Proofs.YtgjcniomhahgkaaGreatDoor
open Go.Abs
def costI (x:z6) (L:List Int):Nat:=if (1≤x.Op∧x.Op≤23)∨x.Op=30∨(x.Op=40∧0<L.getLast?.getD 0) then 1 else 0
section
variable {n : Nat} {C : List z6} {pos : Nat} {st vs : List zj} {L : List Int} {o : zA} {sp : Nat} {x : z6}
theorem zgB (hx:C[pos]? = some x) (h:x.Op=40→∃ L0 a,L=L0++[a]∧L.length<90000):z1F (mk C pos st vs L o sp)=some (costI x L:Int):=by
 unfold z1F
 rw [show (mk C pos st vs L o sp).code_=C from rfl,show (mk C pos st vs L o sp).Cpu.At=(pos:Int) from rfl,z43 hx]
 unfold z4m costI
 simp only [obind,Option.bind_some]
 by_cases h1:1≤x.Op∧x.Op≤23
 ·simp [h1]
 ·rw [show (decide (1≤x.Op) && decide (x.Op≤23))=false by simp; omega]
  by_cases h2:x.Op=30
  ·simp [h2]
  ·by_cases h3:x.Op=40
   ·obtain ⟨L0,a,rfl,hl⟩:=h h3
    rw [List.length_append,List.length_singleton] at hl
    have e:IntKind.i64.wrap (((mk C pos st vs (L0++[a]) o sp).Cpu.Loops.length:Int) - 1)=(L0.length:Int):=by
     show IntKind.i64.wrap (((L0++[a]).length:Int) - 1)=_
     rw [List.length_append,List.length_singleton,w64 (by omega) (by omega)]; omega
    simp only [h3,decide_true,decide_false,cond_true,cond_false,z12,e,show ¬ (40:Int)=30 by decide]
    rw [show (mk C pos st vs (L0++[a]) o sp).Cpu.Loops=L0++[a] from rfl,z43 (x:=a) (by simp)]
    by_cases h4:0<a <;> simp [h4]
   ·simp [h1,h2,h3]
theorem zhZ {pos:Nat}:(cond ((!false) && decide ((pos:Int)=(C.length:Int))) (obind (z1x (zi.mk (zN.mk pos st vs L (zA.mk (zP.mk o.Edge.Headers o.Edge.Status) o.Logs o.End o.Text) (sp:Int) false 0) C) 0) fun r=>some r)
  (some (zi.mk (zN.mk pos st vs L (zA.mk (zP.mk o.Edge.Headers o.Edge.Status) o.Logs o.End o.Text) (sp:Int) false 0) C)))=some (rn C pos st vs L o sp):=by
 unfold rn
 by_cases h:pos=C.length
 ·subst h; simp [z1x,fin,obind]
 ·have:¬ ((pos:Int)=(C.length:Int)):=by omega
  simp [h,this,mk]
def Jn (C:List z6):Option (Lp (Int×(List zj)×(List zj)×(List Int)×(List zp)×Int×(List (List UInt8))×Int×(List UInt8)×Int×Bool×Int×(List z6)) zi)→Option zi:=fun X=>bindJ X
 (fun (x_10,x_11,x_12,x_13,x_14,x_15,x_16,x_17,x_18,x_19,x_20,x_21,x_22)=>
  cond ((!x_20) && decide (x_10=(x_22.length:Int)))
   (obind (z1x (zi.mk (zN.mk x_10 x_11 x_12 x_13 (zA.mk (zP.mk x_14 x_15) x_16 x_17 x_18) x_19 x_20 x_21) x_22) 0) fun r177=>
   some r177)
   (some (zi.mk (zN.mk x_10 x_11 x_12 x_13 (zA.mk (zP.mk x_14 x_15) x_16 x_17 x_18) x_19 x_20 x_21) x_22)))
def tup (r:zi):Int×(List zj)×(List zj)×(List Int)×(List zp)×Int×(List (List UInt8))×Int×(List UInt8)×Int×Bool×Int×(List z6):=
 (r.Cpu.At,r.Cpu.Stack,r.Cpu.Slots,r.Cpu.Loops,r.Cpu.Out.Edge.Headers,r.Cpu.Out.Edge.Status,r.Cpu.Out.Logs,r.Cpu.Out.End,r.Cpu.Out.Text,r.Cpu.Spent,r.Cpu.Over,r.Cpu.E,r.code_)
theorem jn_mk:Jn C (some (.go (tup (mk C pos st vs L o sp))))=some (rn C pos st vs L o sp):=zhZ
def errR (s:zi) (e:Int):zi:=zi.mk (zN.mk 0 ([]:List zj) ([]:List zj) ([]:List Int) (zA.mk (zP.mk ([]:List zp) 100) ([]:List (List UInt8)) 0 []) s.Cpu.Spent true e) s.code_
def tab (n:Nat) (r1:zi) (x4:z6):Option (Lp (Int×(List zj)×(List zj)×(List Int)×(List zp)×Int×(List (List UInt8))×Int×(List UInt8)×Int×Bool×Int×(List z6)) zi):=
 cond (decide (x4.Op=30)) (some (.go (tup r1)))
 (cond (decide (x4.Op=31)) (obind (z2j r1 x4) fun r=>some (.go (tup r)))
 (cond (decide (x4.Op=32)) (obind (z1O n r1 x4) fun r=>some (.go (tup r)))
 (cond (decide (x4.Op=33)) (obind (z2b r1 x4) fun r=>pgbind r (fun e s=>need (e≠0) (some (.stop (errR s e)))) fun q=>some (.go (tup q)))
 (cond (decide (x4.Op=34)) (obind (z2x r1 x4) fun r=>pgbind r (fun e s=>need (e≠0) (some (.stop (errR s e)))) fun q=>some (.go (tup q)))
 (cond (decide (x4.Op=35)) (obind (z2q r1 x4) fun r=>some (.go (tup r)))
 (cond (decide (x4.Op=36)) (obind (z2i r1 x4) fun r=>some (.go (tup r)))
 (cond (decide (x4.Op=37)) (obind (z3h r1 x4) fun r=>some (.go (tup r)))
 (cond (decide (x4.Op=38)) (obind (z1P r1 x4) fun r=>some (.go (tup r)))
 (cond (decide (x4.Op=39)) (obind (z1Z r1 x4) fun r=>some (.go (tup r)))
 (cond (decide (x4.Op=40)) (obind (z1t r1 x4) fun r=>some (.go (tup r)))
 (cond (decide (x4.Op=41)) (obind (z1N r1 x4) fun r=>some (.go (tup r))) none)))))))))))
theorem do_eq (hx:C[pos]? = some x) (hp:pos<90000) (hs:sp<1000000) (h:x.Op=40→∃ L0 a,L=L0++[a]∧L.length<90000):z1T n (mk C pos st vs L o sp) =
  Jn C (cond (decide (1≤x.Op) && decide (x.Op≤23)) (obind (z1U n (mk C (pos+1) st vs L o (sp+costI x L)) x) fun r=>pgbind r (fun e s=>need (e≠0) (some (.stop (errR s e)))) fun q=>some (.go (tup q)))
   (tab n (mk C (pos+1) st vs L o (sp+costI x L)) x)):=by
 unfold z1T
 rw [show (mk C pos st vs L o sp).code_=C from rfl,show (mk C pos st vs L o sp).Cpu.At=(pos:Int) from rfl,z43 hx,zgB hx h]
 have e1:IntKind.i64.wrap ((pos:Int)+1)=((pos+1:Nat):Int):=z2P (N:=90000) (by omega) (by omega)
 have hc:costI x L≤1:=by unfold costI; split <;> omega
 have e2:IntKind.i64.wrap ((mk C pos st vs L o sp).Cpu.Spent+(costI x L:Int))=((sp+costI x L:Nat):Int):=by
  show IntKind.i64.wrap ((sp:Int)+(costI x L:Int))=_
  rw [w64 (by omega) (by omega)]; omega
 simp only [obind,Option.bind_some,e1,e2,z4m]
 rfl
def Do (n:Nat) (r r' : zi):Prop:=z1T n r=some r'
theorem do_op {az:List zj} (hx:C[pos]? = some x) (hp:pos<90000) (hs:sp<1000000) (h1:1≤x.Op) (h2:x.Op≤23) (h23:x.Op=23→0≤x.A) (ha:az.length=arity x) (h8:8≤x.Op→0<arity x) (h3:x.Op=3→0≤x.A∧x.A.toNat<vs.length)
  (hn:100000≤n) (hst:st.length+az.length<50000) (hv:∀ v∈az,Vk v) (hvs:∀ v∈vs,Vk v) (hh:o.Edge.Headers.length<90000) :
  (∃ v,Do n (mk C pos (st++az) vs L o sp) (rn C (pos+1) (st++[v]) vs L o (sp+1))∧Vk v)∨∃ e,Do n (mk C pos (st++az) vs L o sp) (err C e (sp+1))∧Er e:=by
 have hc:costI x L=1:=by unfold costI; rw [if_pos (by omega)]
 have hd:=do_eq (n:=n) (st:=st++az) (vs:=vs) (L:=L) (o:=o) hx hp hs (fun h=>by omega)
 rw [hc,show (decide (1≤x.Op) && decide (x.Op≤23))=true by simp; omega,cond_true] at hd
 rcases ziT n C (pos+1) st az vs L o (sp+1) x h1 h23 ha h8 h3 hn hst hv hvs hh with ⟨_,hq,v,rfl,hk⟩ | ⟨e,hq,hk⟩
 ·rw [hq] at hd
  exact .inl ⟨v,by unfold Do; rw [hd]; exact jn_mk,hk⟩
 ·rw [hq] at hd
  exact .inr ⟨e,by unfold Do; rw [hd]; show Jn C (need (e≠0) _)=_; rw [zW (by rcases hk with rfl | rfl <;> decide)]; rfl,hk⟩
theorem z8S {r' : zi} (hx:C[pos]? = some x) (hp:pos<90000) (hs:sp<1000000) (h30:30≤x.Op) (h:x.Op=40→∃ L0 a,L=L0++[a]∧L.length<90000) (ht:Jn C (tab n (mk C (pos+1) st vs L o (sp+costI x L)) x)=some r'):Do n (mk C pos st vs L o sp) r':=by
 unfold Do
 rw [do_eq hx hp hs h,show (decide (1≤x.Op) && decide (x.Op≤23))=false by simp; omega,cond_false]
 exact ht
theorem cost0 (h1:31≤x.Op) (h2:x.Op≠40):costI x L=0:=by unfold costI; rw [if_neg (by omega)]
theorem do_30 {a:Int} {s:List UInt8} (hx:C[pos]? = some ⟨30,a,s⟩) (hp:pos<90000) (hs:sp<1000000):Do n (mk C pos st vs L o sp) (rn C (pos+1) st vs L o (sp+1)):=
 z8S hx hp hs (by simp) (by simp) (by simp only [tab,decide_true,cond_true]; exact jn_mk)
theorem do_31 {a:Nat} {s:List UInt8} {v:zj} (hx:C[pos]? = some ⟨31,(a:Int),s⟩) (hp:pos<90000) (hs:sp<1000000) (hst:st.length<90000) (ha:a≤vs.length) (hl:vs.length<90000) :
  Do n (mk C pos (st++[v]) vs L o sp) (rn C (pos+1) st (if a=vs.length then vs++[v] else vs.set a v) L o sp):=by
 refine z8S hx hp hs (by simp) (by simp) ?_
 rw [cost0 (by simp) (by simp)]
 simp only [tab,show ¬ (31:Int)=30 by decide,decide_true,decide_false,cond_true,cond_false]
 unfold z2j
 rw [popM _ _ _ _ _ _ _ _ hst]
 simp only [obind,Option.bind_some]
 by_cases h:a=vs.length
 ·rw [show decide ((a:Int)=((mk C (pos+1) st vs L o (sp+0)).Cpu.Slots.length:Int))=true by simp [mk,h],cond_true,zW (by simp [mk]; omega),if_pos h]
  exact jn_mk (vs:=vs++[v])
 ·rw [show decide ((a:Int)=((mk C (pos+1) st vs L o (sp+0)).Cpu.Slots.length:Int))=false from decide_eq_false (fun q=>h (by have:(a:Int)=(vs.length:Int):=q; omega)),cond_false,if_neg h]
  rw [show (mk C (pos+1) st vs L o (sp+0)).Cpu.Slots=vs from rfl,z1J (by omega)]
  exact jn_mk (vs:=vs.set a v)
theorem do_32 {a:Int} {s:List UInt8} {v:zj} (hn:100000≤n) (hx:C[pos]? = some ⟨32,a,s⟩) (hp:pos<90000) (hs:sp<1000000) (hst:st.length<90000) (hh:o.Edge.Headers.length<90000) :
  ∃ hs',Do n (mk C pos (st++[v]) vs L o sp) (rn C (pos+1) st vs L ⟨⟨hs',o.Edge.Status⟩,o.Logs,o.End,o.Text⟩ sp)∧hs'.length≤o.Edge.Headers.length+1:=by
 obtain ⟨hs',h1,h2⟩:=zfG n C (pos+1) st vs v L o (sp+0) ⟨32,a,s⟩ hst hn hh
 refine ⟨hs',z8S hx hp hs (by simp) (by simp) ?_,h2⟩
 rw [cost0 (by simp) (by simp)]
 simp only [tab,show ¬ (32:Int)=30 by decide,show ¬ (32:Int)=31 by decide,decide_true,decide_false,cond_true,cond_false,h1,obind,Option.bind_some]
 exact jn_mk (o:=⟨⟨hs',o.Edge.Status⟩,o.Logs,o.End,o.Text⟩)
theorem do_33 {a:Int} {s:List UInt8} {v:zj} (hx:C[pos]? = some ⟨33,a,s⟩) (hp:pos<90000) (hs:sp<1000000) (hst:st.length<90000) :
  (∃ k,Do n (mk C pos (st++[v]) vs L o sp) (rn C (pos+1) st vs L ⟨⟨o.Edge.Headers,k⟩,o.Logs,o.End,o.Text⟩ sp))∨Do n (mk C pos (st++[v]) vs L o sp) (err C 203 sp):=by
 have key:∀ r',Jn C (tab n (mk C (pos+1) (st++[v]) vs L o sp) ⟨33,a,s⟩)=some r'→Do n (mk C pos (st++[v]) vs L o sp) r':=fun r' h=>z8S hx hp hs (by simp) (by simp) (by rw [cost0 (by simp) (by simp)]; exact h)
 simp only [tab,show ¬ (33:Int)=30 by decide,show ¬ (33:Int)=31 by decide,show ¬ (33:Int)=32 by decide,decide_true,decide_false,cond_true,cond_false] at key
 unfold z2b at key
 rw [popM _ _ _ _ _ _ _ _ hst] at key
 simp only [obind,Option.bind_some,z38] at key
 cases hb:(decide (100≤v.N) && decide (v.N≤599)) <;> simp only [hb,Bool.not_true,Bool.not_false,cond_true,cond_false,Option.bind_some,pbind,pgbind] at key
 ·exact .inr (key _ rfl)
 ·exact .inl ⟨v.N,key _ (jn_mk (o:=⟨⟨o.Edge.Headers,v.N⟩,o.Logs,o.End,o.Text⟩))⟩
theorem do_34 {a:Int} {s:List UInt8} {v:zj} (hx:C[pos]? = some ⟨34,a,s⟩) (hp:pos<90000) (hs:sp<1000000) (hst:st.length<90000) :
  (∃ k,Do n (mk C pos (st++[v]) vs L o sp) (rn C (pos+1) st vs L ⟨o.Edge,k,o.End,o.Text⟩ sp)∧k.length≤100)∨Do n (mk C pos (st++[v]) vs L o sp) (err C 203 sp):=by
 have key:∀ r',Jn C (tab n (mk C (pos+1) (st++[v]) vs L o sp) ⟨34,a,s⟩)=some r'→Do n (mk C pos (st++[v]) vs L o sp) r':=fun r' h=>z8S hx hp hs (by simp) (by simp) (by rw [cost0 (by simp) (by simp)]; exact h)
 simp only [tab,show ¬ (34:Int)=30 by decide,show ¬ (34:Int)=31 by decide,show ¬ (34:Int)=32 by decide,show ¬ (34:Int)=33 by decide,decide_true,decide_false,cond_true,cond_false] at key
 unfold z2x at key
 rw [popM _ _ _ _ _ _ _ _ hst] at key
 simp only [obind,Option.bind_some,z38] at key
 by_cases hb:((mk C (pos+1) st vs L o sp).Cpu.Out.Logs.length:Int)<100
 ·simp only [hb,decide_true,Bool.not_true,cond_false,Option.bind_some,pbind,pgbind] at key
  rw [zW (by simp; omega)] at key
  exact .inl ⟨_,key _ (jn_mk (o:=⟨o.Edge,_,o.End,o.Text⟩)),by have:(o.Logs.length:Int)<100:=hb; simp [mk]; omega⟩
 ·simp only [hb,decide_false,Bool.not_false,cond_true,Option.bind_some,pbind,pgbind] at key
  exact .inr (key _ rfl)
theorem do_35 {a:Int} {s:List UInt8} {v:zj} (hx:C[pos]? = some ⟨35,a,s⟩) (hp:pos<90000) (hs:sp<1000000) (hst:st.length<90000) :
  Do n (mk C pos (st++[v]) vs L o sp) (fin C ⟨o.Edge,o.Logs,1,v.S⟩ sp):=by
 refine z8S hx hp hs (by simp) (by simp) ?_
 rw [cost0 (by simp) (by simp)]
 simp only [tab,show ¬ (35:Int)=30 by decide,show ¬ (35:Int)=31 by decide,show ¬ (35:Int)=32 by decide,show ¬ (35:Int)=33 by decide,show ¬ (35:Int)=34 by decide,decide_true,decide_false,cond_true,cond_false]
 unfold z2q z1I
 rw [popM _ _ _ _ _ _ _ _ hst]
 rfl
theorem do_36 {a:Int} {s:List UInt8} {v:zj} (hx:C[pos]? = some ⟨36,a,s⟩) (hp:pos<90000) (hs:sp<1000000) (hst:st.length<90000) :
  Do n (mk C pos (st++[v]) vs L o sp) (fin C ⟨o.Edge,o.Logs,2,v.S⟩ sp):=by
 refine z8S hx hp hs (by simp) (by simp) ?_
 rw [cost0 (by simp) (by simp)]
 simp only [tab,show ¬ (36:Int)=30 by decide,show ¬ (36:Int)=31 by decide,show ¬ (36:Int)=32 by decide,show ¬ (36:Int)=33 by decide,show ¬ (36:Int)=34 by decide,show ¬ (36:Int)=35 by decide,decide_true,decide_false,cond_true,cond_false]
 unfold z2i z1I
 rw [popM _ _ _ _ _ _ _ _ hst]
 rfl
theorem do_37 {a:Nat} {s:List UInt8} (hx:C[pos]? = some ⟨37,(a:Int),s⟩) (hp:pos<90000) (hs:sp<1000000):Do n (mk C pos st vs L o sp) (rn C a st vs L o sp):=by
 refine z8S hx hp hs (by simp) (by simp) ?_
 rw [cost0 (by simp) (by simp)]
 exact jn_mk (pos:=a)
theorem do_38 {a:Nat} {s:List UInt8} {v:zj} (hx:C[pos]? = some ⟨38,(a:Int),s⟩) (hp:pos<90000) (hs:sp<1000000) (hst:st.length<90000) :
  Do n (mk C pos (st++[v]) vs L o sp) (rn C (if v.N=0 then a else pos+1) st vs L o sp):=by
 refine z8S hx hp hs (by simp) (by simp) ?_
 rw [cost0 (by simp) (by simp)]
 show Jn C (obind (z1P (mk C (pos+1) (st++[v]) vs L o (sp+0)) ⟨38,(a:Int),s⟩) fun r=>some (.go (tup r)))=_
 unfold z1P
 rw [popM _ _ _ _ _ _ _ _ hst]
 simp only [obind,Option.bind_some]
 by_cases h:v.N=0
 ·simp only [h,decide_true,cond_true,if_true]; exact jn_mk (pos:=a)
 ·simp only [h,decide_false,cond_false,if_false]; exact jn_mk
theorem do_39 {a:Int} {s:List UInt8} (hx:C[pos]? = some ⟨39,a,s⟩) (hp:pos<90000) (hs:sp<1000000) (hl:L.length<90000):Do n (mk C pos st vs L o sp) (rn C (pos+1) st vs (L++[a]) o sp):=by
 refine z8S hx hp hs (by simp) (by simp) ?_
 rw [cost0 (by simp) (by simp)]
 show Jn C (obind (z1Z (mk C (pos+1) st vs L o (sp+0)) ⟨39,a,s⟩) fun r=>some (.go (tup r)))=_
 unfold z1Z
 rw [zW (by simp [mk]; omega)]
 exact jn_mk (L:=L++[a])
theorem zmF {a:Nat} {s:List UInt8} (hx:C[pos]? = some ⟨40,(a:Int),s⟩) (hp:pos<90000) (hs:sp<1000000) (hl:L.length<80000):Do n (mk C pos st vs (L++[0]) o sp) (rn C a st vs L o sp):=by
 refine z8S hx hp hs (by simp) (fun _=>⟨_,_,rfl,by simp; omega⟩) ?_
 rw [show costI ⟨40,(a:Int),s⟩ (L++[0])=0 by simp [costI]]
 show Jn C (obind (z1t (mk C (pos+1) st vs (L++[0]) o (sp+0)) ⟨40,(a:Int),s⟩) fun r=>some (.go (tup r)))=_
 unfold z1t
 have e:IntKind.i64.wrap (((mk C (pos+1) st vs (L++[0]) o (sp+0)).Cpu.Loops.length:Int) - 1)=(L.length:Int):=by
  show IntKind.i64.wrap (((L++[0]).length:Int) - 1)=_
  rw [List.length_append,List.length_singleton,w64 (by omega) (by omega)]; omega
 rw [e,show (mk C (pos+1) st vs (L++[0]) o (sp+0)).Cpu.Loops=L++[0] from rfl,z43 (x:=0) (by simp)]
 simp only [decide_true,cond_true]
 rw [zW (by simp; try omega)]
 simp only [Int.toNat_natCast,List.take_left]
 exact jn_mk (pos:=a)
theorem zmE {a:Int} {k:Nat} {s:List UInt8} (hx:C[pos]? = some ⟨40,a,s⟩) (hp:pos<90000) (hs:sp<1000000) (hl:L.length<80000) (hk:k<1000000):Do n (mk C pos st vs (L++[((k+1:Nat):Int)]) o sp) (rn C (pos+1) st vs (L++[(k:Int)]) o (sp+1)):=by
 refine z8S hx hp hs (by simp) (fun _=>⟨_,_,rfl,by simp; omega⟩) ?_
 rw [show costI ⟨40,a,s⟩ (L++[((k+1:Nat):Int)])=1 by unfold costI; rw [if_pos]; simp]
 show Jn C (obind (z1t (mk C (pos+1) st vs (L++[((k+1:Nat):Int)]) o (sp+1)) ⟨40,a,s⟩) fun r=>some (.go (tup r)))=_
 unfold z1t
 have e:IntKind.i64.wrap (((mk C (pos+1) st vs (L++[((k+1:Nat):Int)]) o (sp+1)).Cpu.Loops.length:Int) - 1)=(L.length:Int):=by
  show IntKind.i64.wrap (((L++[((k+1:Nat):Int)]).length:Int) - 1)=_
  rw [List.length_append,List.length_singleton,w64 (by omega) (by omega)]; omega
 rw [e,show (mk C (pos+1) st vs (L++[((k+1:Nat):Int)]) o (sp+1)).Cpu.Loops=L++[((k+1:Nat):Int)] from rfl,z43 (x:=((k+1:Nat):Int)) (by simp)]
 rw [show decide (((k+1:Nat):Int)=0)=false by simp; omega,cond_false,show IntKind.i64.wrap (((k+1:Nat):Int) - 1)=(k:Int) by rw [w64 (by omega) (by omega)]; omega]
 rw [Int.toNat_natCast,show (L++[((k+1:Nat):Int)]).set L.length (k:Int)=L++[(k:Int)] by simp]
 exact jn_mk (L:=L++[(k:Int)])
theorem do_41 {a:Nat} {s:List UInt8} (hx:C[pos]? = some ⟨41,(a:Int),s⟩) (hp:pos<90000) (hs:sp<1000000) (ha:a≤vs.length):Do n (mk C pos st vs L o sp) (rn C (pos+1) st (vs.take a) L o sp):=by
 refine z8S hx hp hs (by simp) (by simp) ?_
 rw [cost0 (by simp) (by simp)]
 show Jn C (obind (z1N (mk C (pos+1) st vs L o (sp+0)) ⟨41,(a:Int),s⟩) fun r=>some (.go (tup r)))=_
 unfold z1N
 rw [zW (by simp [mk]; omega)]
 exact jn_mk (vs:=vs.take a)
end
end Go.Proofs.YtgjcniomhahgkaaGreatDoor
namespace Go.Proofs.YtgjcniomhahgkaaGreatDoor
open Go.Abs
theorem zbB {l:List Int} (h:l.length<1000000):z15 l=some l:=by
 unfold z15
 rw [zW (by simp; omega)]; rfl
theorem zgY {st vs L:List Int} {k:Int} (h:st.length<100000):z17 ⟨st,vs,L⟩ k=some (⟨st++[k],vs,L⟩,decide (k≠0)):=by
 unfold z17
 simp only [zbB (show st.length<1000000 by omega),obind,Option.bind_some]
 rw [zW (by simp; omega)]
theorem ziv {st vs L:List Int} {k:Int} (h:st.length<100000):z1e ⟨st++[k],vs,L⟩ k=some (⟨st,vs,L⟩,true):=by
 unfold z1e
 simp only [List.length_append,List.length_cons,List.length_nil]
 rw [w64 (by omega) (by omega),show (((st.length+(0+1):Nat):Int) - 1)=(st.length:Int) by omega]
 rw [show decide ((st.length:Int)<0)=false by simp]
 simp only [cond_false]
 rw [z1J (by simp)]
 simp only [List.getElem_append_right (Nat.le_refl _),Nat.sub_self,List.getElem_cons_zero,z12,ne_eq,not_true_eq_false,decide_false,cond_false]
 rw [zW (by omega)]
 simp
theorem zcN (n:Nat) (l:List Int) (v:Int) (hn:l.length<n) (hl:l.length<1000000) (h:∀ x∈l,x=v):z1c n l v=some false:=by
 unfold z1c z25
 have h1:=z6J (step:=z1v l v) l.length (.go ()) (fun i hi=>by
  unfold z1v
  simp only [show decide ((i:Int)<(l.length:Int))=true by simp; omega,cond_true,z1A,obind,Option.bind_some]
  rw [z1J hi,w64 (by omega) (by omega),h _ (List.getElem_mem _)]
  simp) (by unfold z1v; simp) n hn
 rw [h1]; rfl
theorem zkK {op n slot:Int} {s:List UInt8} {st vs L:List Int} {ty:Int} {k:Int} (h:lfE op n slot s vs ty):z1s ⟨st,vs,L⟩ ⟨op,if op=23 then k else if op=3 then slot else if op=1 then n else 0,if op=2∨op=6 then s else []⟩=some ty:=by
 unfold z1s
 rcases h with ⟨rfl,h0,h1,rfl⟩ | ⟨rfl | rfl,h1,rfl⟩ | ⟨rfl | rfl,rfl⟩ | ⟨rfl,rfl⟩ | ⟨rfl,h0,h1⟩
 ·simp [h0,h1]
 ·simp [show decide ((s.length:Int)≤200)=true by simp; omega]
 ·simp [show decide ((s.length:Int)≤200)=true by simp; omega]
 ·simp
 ·simp
 ·simp
 ·obtain ⟨h2,h3⟩:=List.getElem?_eq_some_iff.1 h1
  simp [h0]
  rw [show decide (slot<(vs.length:Int))=true by simp; omega]
  simp only [cond_true]
  rw [z4l h0 (by omega),h3]
theorem lf_le {op n slot:Int} {s:List UInt8} {vs:List Int} {ty:Int} (h:lfE op n slot s vs ty):1≤op∧op≤7:=by
 rcases h with ⟨rfl,h0,h1,rfl⟩ | ⟨rfl | rfl,h1,rfl⟩ | ⟨rfl | rfl,rfl⟩ | ⟨rfl,rfl⟩ | ⟨rfl,h0,h1⟩ <;> omega
theorem zjn {N:Nat} {op n slot:Int} {s:List UInt8} {st vs L:List Int} {ty k a:Int} (h:lfE op n slot s vs ty) (h0:ty≠0) (hs:st.length<100000) :
  zy N ⟨st,vs,L⟩ ⟨op,if op=23 then k else if op=3 then slot else if op=1 then n else 0,if op=2∨op=6 then s else []⟩ a=some (⟨st++[ty],vs,L⟩,true):=by
 have hop:=lf_le h
 unfold zy z1h
 rw [zkK h]
 simp only [show decide (1≤op)=true by simp; omega,show decide (op≤23)=true by simp; omega,show decide (op≤7)=true by simp; omega,Bool.and_self,cond_true,obind,Option.bind_some,zgY hs,zb4]
 simp [h0]
theorem af_op {N:Nat} {op:Int} {st vs L ts:List Int} {ty k a:Int} (h:ariB op ts.length) (ht:∀ x∈ts,x=k) (hv:valT op k=ty) (h0:ty≠0) (hs:st.length+ts.length<100000) (hN:ts.length<N) :
  zy N ⟨st++ts,vs,L⟩ ⟨op,if op=23 then (ts.length:Int) else 0,[]⟩ a=some (⟨st++[ty],vs,L⟩,true):=by
 obtain ⟨h8,h23,har⟩:=h
 unfold zy z1h
 simp only [show decide (1≤op)=true by simp; omega,show decide (op≤23)=true by simp; omega,show decide (op≤7)=false by simp; omega,Bool.and_self,cond_true,cond_false]
 have hj:(cond (decide (op=8) || decide (op=9)) (some (.go 1)) (cond (decide (op=23)) (some (.go (if op=23 then (ts.length:Int) else 0))) (some (.go 2))):Option (Lp Int (zl×Bool)))=some (.go (ts.length:Int)):=by
  rcases har with ⟨h1,h2⟩ | ⟨h1,h2⟩ | ⟨h1,h2⟩
  ·rw [show (decide (op=8) || decide (op=9))=true by simpa using h1,h2]; rfl
  ·subst h1; simp
  ·rw [show (decide (op=8) || decide (op=9))=false by simp; omega,show decide (op=23)=false by simp; omega,h2]; rfl
 rw [hj]
 simp only [z12,List.length_append,decide_true,Bool.not_true,Bool.or_false]
 rw [w64 (by omega) (by omega),show (((st.length+ts.length:Nat):Int) - (ts.length:Int))=(st.length:Int) by omega]
 have hpos:0<ts.length:=by omega
 have hb:(((decide ((ts.length:Int)<1) || (decide (op=23) && decide ((ts.length:Int)<2))) || (decide (op≠23) && decide ((if op=23 then (ts.length:Int) else 0)≠0))) || decide ((st.length:Int)<0))=false:=by
  by_cases e:op=23
  ·simp [e]; omega
  ·simp [e]; omega
 rw [hb]
 simp only [cond_false]
 have hk:(st++ts)[st.length]'(by simp; omega)=k:=by
  rw [List.getElem_append_right (Nat.le_refl _)]; exact ht _ (List.getElem_mem _)
 rw [z1J (by simp; omega),hk,zW (by omega)]
 simp only [Int.toNat_natCast,List.drop_left,List.take_left,zcN N ts k hN (by omega) ht,obind,Option.bind_some,cond_false,ziS,hv,zgY (show st.length<100000 by omega)]
 rw [zW (by omega)]
 simp [h0]
variable {N : Nat} {st vs L : List Int} {a : Int}
theorem af_30 {t:zl}:zy N t ⟨30,0,[]⟩ a=some (t,true):=by
 unfold zy; simp
theorem af_37 {t:zl} {A:Int}:zy N t ⟨37,A,[]⟩ a=some (t,true):=by
 unfold zy; simp
theorem af_38 {A:Int}:zy N ⟨[3],vs,L⟩ ⟨38,A,[]⟩ a=some (⟨[],vs,L⟩,true):=by
 unfold zy
 have:=ziv (st:=[]) (vs:=vs) (L:=L) (k:=3) (by simp)
 simp only [List.nil_append] at this
 simp [this,obind]
theorem af_33:zy N ⟨[1],vs,L⟩ ⟨33,0,[]⟩ a=some (⟨[],vs,L⟩,true):=by
 unfold zy
 have:=ziv (st:=[]) (vs:=vs) (L:=L) (k:=1) (by simp)
 simp only [List.nil_append] at this
 simp [this,obind]
theorem zbW {op:Int} {s:List UInt8} (h:op=32∧s.length≤200∨(op=34∨op=35∨op=36)∧s=[]):zy N ⟨[2],vs,L⟩ ⟨op,0,s⟩ a=some (⟨[],vs,L⟩,true):=by
 unfold zy
 have:=ziv (st:=[]) (vs:=vs) (L:=L) (k:=2) (by simp)
 simp only [List.nil_append] at this
 rcases h with ⟨rfl,h⟩ | ⟨rfl | rfl | rfl,rfl⟩
 ·have e:decide (200<(s.length:Int))=false:=by simp; omega
  simp [this,obind,e]
 ·simp [this,obind]
 ·simp [this,obind]
 ·simp [this,obind]
theorem af_39 {A:Int} (h:0≤A∧A≤1000) (hL:L.length<100000):zy N ⟨st,vs,L⟩ ⟨39,A,[]⟩ a=some (⟨st,vs,L++[a]⟩,true):=by
 unfold zy
 simp only [zbB (show L.length<1000000 by omega),obind,Option.bind_some]
 simp [h]
 exact zW (by omega) _
theorem af_40 {A:Int} (hL:0<L.length):zy N ⟨st,vs,L⟩ ⟨40,A,[]⟩ a=some (⟨st,vs,L⟩,true):=by
 unfold zy
 simp [hL]
theorem af_41 {A:Int} (h:0≤A∧A≤vs.length):zy N ⟨st,vs,L⟩ ⟨41,A,[]⟩ a=some (⟨st,vs.take A.toNat,L⟩,true):=by
 unfold zy
 have e1:decide (A<0)=false:=by simp; omega
 have e2:decide ((vs.length:Int)<A)=false:=by simp; omega
 simp [e1,e2]
 exact zW (by omega) _
theorem zmi {ty:Int} (h:vs.length<200):zy N ⟨[ty],vs,L⟩ ⟨31,(vs.length:Int),[]⟩ a=some (⟨[],vs++[ty],L⟩,true):=by
 unfold zy
 have e1:decide ((vs.length:Int)<0)=false:=by simp
 have e2:decide ((200:Int)≤(vs.length:Int))=false:=by simp; omega
 have e3:IntKind.i64.wrap ((([ty]:List Int).length:Int) - 1)=0:=by rw [w64 (by simp) (by simp)]; simp
 simp only [e3]
 simp [e2,idx,zbB (show vs.length<1000000 by omega),obind,need]
 rw [e1,if_pos (by omega)]
 simp
theorem zmj {ty A:Int} (h0:0≤A) (h:vs[A.toNat]? = some ty) (hl:vs.length≤200):zy N ⟨[ty],vs,L⟩ ⟨31,A,[]⟩ a=some (⟨[],vs,L⟩,true):=by
 obtain ⟨h2,h3⟩:=List.getElem?_eq_some_iff.1 h
 unfold zy
 have e1:decide (A<0)=false:=by simp; omega
 have e2:decide ((200:Int)≤A)=false:=by simp; omega
 have e3:IntKind.i64.wrap ((([ty]:List Int).length:Int) - 1)=0:=by rw [w64 (by simp) (by simp)]; simp
 have e4:decide ((vs.length:Int)<A)=false:=by simp; omega
 have e5:decide (A=(vs.length:Int))=false:=by simp; omega
 simp only [e3]
 simp [e1,e2,e4,e5,idx,h,h0,need]
end Go.Proofs.YtgjcniomhahgkaaGreatDoor
namespace Go.Proofs.YtgjcniomhahgkaaGreatDoor
open Go.Abs
abbrev MT:=List (Int×zl)
theorem zaL (l:MT) (k:Int) (v:zl) (k' : Int):mget (mput l k v) k'=if k'=k then some v else mget l k':=by
  induction l with
  | nil=>simp only [mput,mget]; by_cases h:k=k' <;> simp [h,eq_comm]
  | cons p r ih =>
    simp only [mput]
    by_cases h:p.1=k
    · simp only [h,if_true,mget]
      by_cases e:k=k'
      · simp [e]
      · rw [if_neg e,if_neg e,if_neg (fun q=>e q.symm)]
    · simp only [h,if_false,mget,ih]
      by_cases e:p.1=k'
      · simp only [e,if_true]; rw [if_neg (fun q=>h (e.trans q))]
      · simp only [e,if_false]
def Sml (t:zl):Prop:=t.stack_.length<100000∧t.slots_.length<100000∧t.loops_.length<100000
theorem z9B (n:Nat) (a:List Int) (hn:a.length<n) (hl:a.length<1000000):z1z n a a=some true:=by
 unfold z1z
 have h1:=z6J (step:=z28 a a) a.length (.go ()) (fun i hi=>by
  unfold z28
  simp only [show decide ((i:Int)<(a.length:Int))=true by simp; omega,cond_true]
  rw [z1J hi,z1J hi,w64 (by omega) (by omega)]
  simp) (by unfold z28; simp) n hn
 rw [h1]
 simp
theorem zg8 (n:Nat) {a:zl} (h:Sml a) (hn:100000≤n):z5p n a a=some true:=by
 obtain ⟨h1,h2,h3⟩:=h
 unfold z5p
 simp only [z9B n a.loops_ (by omega) (by omega),z9B n a.stack_ (by omega) (by omega),z9B n a.slots_ (by omega) (by omega),obind,Option.bind_some,cond_true,z12]
def Fr (M:MT) (k:Int) (t:zl):Prop:=mget M k=none∨mget M k=some t
theorem zai {n:Nat} {k:Int} {t:zl} {M:MT} (h:Sml t) (hn:100000≤n) (hf:Fr M k t):∃ M',z2c n k t M=some (true,M')∧∀ x,mget M' x=if x=k then some t else mget M x:=by
 unfold z2c
 rcases hf with h0 | h0
 ·rw [h0]
  exact ⟨_,rfl,fun x=>zaL _ _ _ _⟩
 ·rw [h0]
  simp only [Option.isSome_some,cond_true,Option.getD_some]
  rw [show zl.mk t.stack_ t.slots_ t.loops_=t from rfl,zg8 n h hn]
  refine ⟨M,rfl,fun x=>?_⟩
  by_cases e:x=k
  ·rw [if_pos e,e,h0]
  ·rw [if_neg e]
def StC (n:Nat) (m:zH) (i:Nat) (M:MT) (j:Nat) (M' : MT):Prop:=i≤j∧∀ f,iter (z1E n m) (f+(j - i)) ((i:Int),M)=iter (z1E n m) f ((j:Int),M')
theorem StC.refl {n:Nat} {m:zH} {i:Nat} {M:MT}:StC n m i M i M:=⟨Nat.le_refl _,fun f=>by rw [Nat.sub_self]; rfl⟩
theorem StC.trans {n:Nat} {m:zH} {i j k:Nat} {M M' M'' : MT} (h1:StC n m i M j M') (h2:StC n m j M' k M''):StC n m i M k M'':=by
 obtain ⟨a,h1⟩:=h1
 obtain ⟨b,h2⟩:=h2
 refine ⟨by omega,fun f=>?_⟩
 rw [show f+(k - i)=(f+(k - j))+(j - i) by omega,h1,h2]
theorem StC.one {n:Nat} {m:zH} {i:Nat} {M M' : MT} (h:z1E n m ((i:Int),M)=some (.go (((i+1:Nat):Int),M'))):StC n m i M (i+1) M':=⟨by omega,fun f=>by rw [show i+1 - i=1 by omega]; exact z6K h⟩
section
variable {n : Nat} {m : zH} {i : Nat} {M : MT} {x : z6} {t u : zl}
theorem zeP (hn:100000≤n) (hl:m.Code.length<90000) (hx:m.Code[i]? = some x) (ht:mget M i=some t) (ha:zy n t x i=some (u,true)) (hu:Sml u) (h37:x.Op≠37) (h38:x.Op≠38) (h40:x.Op≠40) (hf:Fr M ((i+1:Nat):Int) u) :
  ∃ M',StC n m i M (i+1) M'∧∀ k,mget M' k=if k=((i+1:Nat):Int) then some u else mget M k:=by
 obtain ⟨hi,_⟩:=List.getElem?_eq_some_iff.1 hx
 obtain ⟨M',hm,hM⟩:=zai hu hn hf
 refine ⟨M',StC.one ?_,hM⟩
 unfold z1E
 simp only [show decide ((i:Int)<(m.Code.length:Int))=true by simp; omega,cond_true]
 rw [z43 hx,ht]
 simp only [Option.isSome_some,Bool.not_true,cond_false,Option.getD_some]
 rw [show zl.mk t.stack_ t.slots_ t.loops_=t from rfl,ha]
 simp only [obind,Option.bind_some,Bool.not_true,cond_false,h37,h38,h40,decide_false,Bool.or_self,z12,ne_eq,not_false_eq_true,decide_true,cond_true]
 rw [w64 (x:=(i:Int)+1) (by omega) (by omega),show (i:Int)+1=((i+1:Nat):Int) by omega,hm]
 rfl
theorem zcB {A:Nat} {s:List UInt8} (hn:100000≤n) (hl:m.Code.length<90000) (hx:m.Code[i]? = some ⟨37,(A:Int),[]⟩) (ht:mget M i=some t) (hu:Sml t) (hA:A≤m.Code.length) (hb:A≤i→∃ y,m.Code[A]? = some y∧y.Op=40) (hf:Fr M (A:Int) t) :
  ∃ M',StC n m i M (i+1) M'∧∀ k,mget M' k=if k=(A:Int) then some t else mget M k:=by
 obtain ⟨hi,_⟩:=List.getElem?_eq_some_iff.1 hx
 obtain ⟨M',hm,hM⟩:=zai hu hn hf
 refine ⟨M',StC.one ?_,hM⟩
 unfold z1E
 simp only [show decide ((i:Int)<(m.Code.length:Int))=true by simp; omega,cond_true]
 rw [z43 hx,ht]
 simp only [Option.isSome_some,Bool.not_true,cond_false,Option.getD_some]
 rw [show zl.mk t.stack_ t.slots_ t.loops_=t from rfl,af_37]
 simp only [obind,Option.bind_some,Bool.not_true,cond_false,decide_true,Bool.true_or,cond_true]
 rw [show (decide ((A:Int)<0) || decide ((m.Code.length:Int)<(A:Int)))=false by simp; omega]
 have hq:(cond (decide ((A:Int)≤(i:Int))) (bindJ (S:=Bool) (cond (decide ((37:Int)≠37)) (some (.go true)) (idx m.Code (A:Int) fun x81=>some (.go (decide (x81.Op≠40))))) (fun b75=>some (.go b75))) (some (.go false)):Option (Lp Bool (Lp Bool (Lp MT (Lp (Int×MT) (Lp MT Int))))))=some (.go false):=by
  by_cases h:A≤i
  ·obtain ⟨y,hy,h40⟩:=hb h
   rw [show decide ((A:Int)≤(i:Int))=true by simp; omega]
   simp only [ne_eq,not_true_eq_false,decide_false,cond_true,cond_false]
   rw [z43 hy,h40]; rfl
  ·rw [show decide ((A:Int)≤(i:Int))=false by simp; omega]; rfl
 simp only [cond_false]
 rw [hq]
 simp only [z12,cond_false]
 rw [show decide ((37:Int)=40)=false from rfl]
 simp only [cond_false,z12]
 rw [show zl.mk t.stack_ t.slots_ t.loops_=t from rfl,hm]
 simp only [Option.bind_some,Bool.not_true,cond_false,z12,ne_eq,not_true_eq_false,decide_false]
 rw [w64 (x:=(i:Int)+1) (by omega) (by omega)]
 rfl
theorem zd0 {A:Nat} {vs L:List Int} (hn:100000≤n) (hl:m.Code.length<90000) (hx:m.Code[i]? = some ⟨38,(A:Int),[]⟩) (ht:mget M i=some ⟨[3],vs,L⟩) (hu:Sml ⟨[],vs,L⟩) (hA:A≤m.Code.length) (hb:i+1<A) (hf:Fr M (A:Int) ⟨[],vs,L⟩) (hf1:Fr M ((i+1:Nat):Int) ⟨[],vs,L⟩) :
  ∃ M',StC n m i M (i+1) M'∧∀ k,mget M' k=if k=((i+1:Nat):Int)∨k=(A:Int) then some ⟨[],vs,L⟩ else mget M k:=by
 obtain ⟨hi,_⟩:=List.getElem?_eq_some_iff.1 hx
 obtain ⟨M1,hm,hM⟩:=zai hu hn hf
 obtain ⟨M',hm2,hM2⟩:=zai (M:=M1) (k:=((i+1:Nat):Int)) hu hn (by unfold Fr; rw [hM,if_neg (by omega)]; exact hf1)
 refine ⟨M',StC.one ?_,fun k=>?_⟩
 ·unfold z1E
  simp only [show decide ((i:Int)<(m.Code.length:Int))=true by simp; omega,cond_true]
  rw [z43 hx,ht]
  simp only [Option.isSome_some,Bool.not_true,cond_false,Option.getD_some,af_38]
  simp only [obind,Option.bind_some,Bool.not_true,cond_false,decide_true,Bool.true_or,Bool.or_true,cond_true]
  rw [show (decide ((A:Int)<0) || decide ((m.Code.length:Int)<(A:Int)))=false by simp; omega,show decide ((A:Int)≤(i:Int))=false by simp; omega]
  simp only [cond_false,z12]
  rw [show decide ((38:Int)=40)=false from rfl]
  simp only [cond_false,z12,hm,Option.bind_some,Bool.not_true]
  rw [show decide ((38:Int)≠37)=true from rfl,w64 (x:=(i:Int)+1) (by omega) (by omega),show (i:Int)+1=((i+1:Nat):Int) by omega,hm2]
  rfl
 ·rw [hM2,hM]
  by_cases h1:k=((i+1:Nat):Int)
  ·rw [if_pos h1,if_pos (.inl h1)]
  ·rw [if_neg h1]
   by_cases h2:k=(A:Int)
   ·rw [if_pos h2,if_pos (.inr h2)]
   ·rw [if_neg h2,if_neg (fun h=>h.elim h1 h2)]
theorem zgc {A:Nat} {vs L:List Int} {e:Int} (hn:100000≤n) (hl:m.Code.length<90000) (hx:m.Code[i]? = some ⟨40,(A:Int),[]⟩) (ht:mget M i=some ⟨[],vs,L++[e]⟩) (hu:Sml ⟨[],vs,L++[e]⟩) (hA:A≤m.Code.length) (hb:i+1<A) (hf:Fr M (A:Int) ⟨[],vs,L⟩) (hf1:Fr M ((i+1:Nat):Int) ⟨[],vs,L++[e]⟩) :
  ∃ M',StC n m i M (i+1) M'∧∀ k,mget M' k=if k=((i+1:Nat):Int) then some ⟨[],vs,L++[e]⟩ else if k=(A:Int) then some ⟨[],vs,L⟩ else mget M k:=by
 obtain ⟨hi,_⟩:=List.getElem?_eq_some_iff.1 hx
 have hu2:Sml ⟨[],vs,L⟩:=⟨hu.1,hu.2.1,by have:=hu.2.2; simp only [List.length_append] at this ⊢; omega⟩
 obtain ⟨M1,hm,hM⟩:=zai hu2 hn hf
 obtain ⟨M',hm2,hM2⟩:=zai (M:=M1) (k:=((i+1:Nat):Int)) hu hn (by unfold Fr; rw [hM,if_neg (by omega)]; exact hf1)
 refine ⟨M',StC.one ?_,fun k=>?_⟩
 ·unfold z1E
  simp only [show decide ((i:Int)<(m.Code.length:Int))=true by simp; omega,cond_true]
  rw [z43 hx,ht]
  simp only [Option.isSome_some,Bool.not_true,cond_false,Option.getD_some]
  rw [af_40 (by simp)]
  simp only [obind,Option.bind_some,Bool.not_true,cond_false,decide_true,Bool.true_or,Bool.or_true,cond_true]
  rw [show (decide ((A:Int)<0) || decide ((m.Code.length:Int)<(A:Int)))=false by simp; omega,show decide ((A:Int)≤(i:Int))=false by simp; omega]
  simp only [cond_false,z12,List.length_append,List.length_cons,List.length_nil]
  have hL:=hu2.2.2
  simp only at hL
  rw [w64 (x:=((L.length+(0+1):Nat):Int) - 1) (by omega) (by omega),show ((L.length+(0+1):Nat):Int) - 1=(L.length:Int) by omega,zW (by omega)]
  simp only [Int.toNat_natCast,List.take_left,z12,hm,Option.bind_some,Bool.not_true,cond_false]
  rw [show decide ((40:Int)≠37)=true from rfl,w64 (x:=(i:Int)+1) (by omega) (by omega),show (i:Int)+1=((i+1:Nat):Int) by omega,hm2]
  rfl
 ·rw [hM2,hM]
end
end Go.Proofs.YtgjcniomhahgkaaGreatDoor
namespace Go.Proofs.YtgjcniomhahgkaaGreatDoor
open Go.Abs
def At (C:List z6) (pos:Nat) (l:List z6):Prop:=∃ a b,C=a++l++b∧a.length=pos
theorem At.left {C:List z6} {pos:Nat} {l r:List z6} (h:At C pos (l++r)):At C pos l:=by
 obtain ⟨a,b,rfl,e⟩:=h; exact ⟨a,r++b,by simp,e⟩
theorem At.right {C:List z6} {pos:Nat} {l r:List z6} (h:At C pos (l++r)):At C (pos+l.length) r:=by
 obtain ⟨a,b,rfl,e⟩:=h; exact ⟨a++l,b,by simp,by simp [e]⟩
theorem At.get {C:List z6} {pos:Nat} {x:z6} {r:List z6} (h:At C pos (x::r)):C[pos]? = some x:=by
 obtain ⟨a,b,rfl,rfl⟩:=h; simp
theorem At.len {C:List z6} {pos:Nat} {l:List z6} (h:At C pos l):pos+l.length≤C.length:=by
 obtain ⟨a,b,rfl,rfl⟩:=h; simp
def Fh (M:MT) (pos len:Nat) (t:zl):Prop:=(∀ k:Nat,pos<k→k<pos+len→mget M (k:Int)=none)∧(0<len→Fr M ((pos+len:Nat):Int) t)
def Wk (n:Nat) (m:zH) (pos:Nat) (M:MT) (len:Nat) (t:zl):Prop:=
 ∃ M',StC n m pos M (pos+len) M'∧mget M' ((pos+len:Nat):Int)=some t∧∀ k:Nat,(k≤pos∨pos+len<k)→mget M' (k:Int)=mget M (k:Int)
theorem Fh.left {M:MT} {pos a b:Nat} {t u:zl} (h:Fh M pos (a+b) t) (hb:0<b):Fh M pos a u:=
 ⟨fun k h1 h2=>h.1 k h1 (by omega),fun ha=>.inl (h.1 (pos+a) (by omega) (by omega))⟩
theorem Fh.right {M M' : MT} {pos a b:Nat} {t:zl} (h:Fh M pos (a+b) t) (hk:∀ k:Nat,(k≤pos∨pos+a<k)→mget M' (k:Int)=mget M (k:Int)):Fh M' (pos+a) b t:=
 ⟨fun k h1 h2=>by rw [hk k (.inr h1)]; exact h.1 k (by omega) (by omega),fun hb=>by
  have:=h.2 (by omega)
  unfold Fr at this ⊢
  rw [hk (pos+a+b) (.inr (by omega)),show pos+a+b=pos+(a+b) by omega]; exact this⟩
theorem Wk.seq {n:Nat} {m:zH} {pos a b:Nat} {M:MT} {t u:zl} (hF:Fh M pos (a+b) u) (h1:Wk n m pos M a t) (h2:∀ M',mget M' ((pos+a:Nat):Int)=some t→Fh M' (pos+a) b u→Wk n m (pos+a) M' b u):Wk n m pos M (a+b) u:=by
 obtain ⟨M1,s1,g1,k1⟩:=h1
 obtain ⟨M2,s2,g2,k2⟩:=h2 M1 g1 (hF.right k1)
 refine ⟨M2,?_,by rw [← g2]; congr 2; omega,fun k hk=>?_⟩
 ·rw [show pos+(a+b)=pos+a+b by omega]; exact s1.trans s2
 ·rw [k2 k (by omega),k1 k (by omega)]
theorem Wk.nil {n:Nat} {m:zH} {pos:Nat} {M:MT} {t:zl} (h:mget M (pos:Int)=some t):Wk n m pos M 0 t:=⟨M,StC.refl,h,fun k _=>rfl⟩
theorem Wk.one {n:Nat} {m:zH} (hn:100000≤n) (hl:m.Code.length<90000) {pos:Nat} {M:MT} {x:z6} {t u:zl} (hx:At m.Code pos [x]) (ht:mget M (pos:Int)=some t) (ha:zy n t x pos=some (u,true)) (hu:Sml u) (h37:x.Op≠37) (h38:x.Op≠38) (h40:x.Op≠40) (hF:Fh M pos 1 u):Wk n m pos M 1 u:=by
 obtain ⟨M',s,g⟩:=zeP hn hl hx.get ht ha hu h37 h38 h40 (hF.2 (by omega))
 refine ⟨M',s,by rw [g,if_pos rfl],fun k hk=>?_⟩
 rw [g,if_neg (by omega)]
mutual
theorem walkE {n:Nat} {m:zH} (hn:100000≤n) (hl:m.Code.length<90000):∀ (x:zm) (pos:Nat) (M:MT) (st vs L:List Int),rE x vs→At m.Code pos (cE x)→mget M (pos:Int)=some ⟨st,vs,L⟩→Fh M pos (cE x).length ⟨st++[x.Type_],vs,L⟩→st.length+x.nodes<50000→vs.length<50000→L.length<50000→
    Wk n m pos M (cE x).length ⟨st++[x.Type_],vs,L⟩
  | ⟨op, ty, nn, slot, s, l⟩, pos, M, st, vs, L, hr, hA, hM, hF, h1, h2, h3 => by
    simp only [zm.nodes] at h1
    simp only [rE] at hr
    simp only [cE] at hA hF ⊢
    obtain ⟨hty,hr⟩:=hr
    rcases hr with ⟨rfl,hlf⟩ | ⟨har,hel,k,hk,hv⟩
    · have hop:=lf_le hlf
      simp only [cEL,List.nil_append,List.length_nil] at hA hF ⊢
      exact Wk.one hn hl hA hM (zjn hlf hty (by omega)) ⟨by simp; omega,by simp; omega,by simp; omega⟩ (by simp only; omega) (by simp only; omega) (by simp only; omega) hF
    · rw [List.length_append] at hF ⊢
      refine Wk.seq hF (zlG hn hl l pos M st vs L hel hA.left hM (hF.left (by simp)) (by omega) h2 h3) fun M' hM' hF'=>?_
      have h8:=har.1
      have hlen:=z4L l
      have hAr:=hA.right
      simp only [show ¬ op=3 by omega,show ¬ op=1 by omega,show ¬ (op=2∨op=6) by omega,if_false] at hAr
      have haf:=af_op (N:=n) (op:=op) (st:=st) (vs:=vs) (L:=L) (a:=((pos+(cEL l).length:Nat):Int)) (ts:=l.map (·.Type_)) (k:=k) (ty:=ty) (by rw [List.length_map]; exact har) (fun y hy=>by
        obtain ⟨z,hz,rfl⟩:=List.mem_map.1 hy
        exact hk z hz) hv hty (by rw [List.length_map]; omega) (by rw [List.length_map]; omega)
      rw [List.length_map] at haf
      have h23:=har.2.1
      exact Wk.one hn hl hAr hM' haf ⟨by simp; omega,by simp; omega,by simp; omega⟩ (by simp only; omega) (by simp only; omega) (by simp only; omega) hF'
theorem zlG {n:Nat} {m:zH} (hn:100000≤n) (hl:m.Code.length<90000):∀ (l:List zm) (pos:Nat) (M:MT) (st vs L:List Int),rEL l vs→At m.Code pos (cEL l)→mget M (pos:Int)=some ⟨st,vs,L⟩→Fh M pos (cEL l).length ⟨st++l.map (·.Type_),vs,L⟩→st.length+z2W l<50000→vs.length<50000→L.length<50000→
    Wk n m pos M (cEL l).length ⟨st++l.map (·.Type_),vs,L⟩
  | [], pos, M, st, vs, L, hr, hA, hM, hF, h1, h2, h3 => by
    simp only [cEL,List.map_nil,List.append_nil,List.length_nil]
    exact Wk.nil hM
  | x :: r, pos, M, st, vs, L, hr, hA, hM, hF, h1, h2, h3 => by
    simp only [rEL] at hr
    simp only [z2W] at h1
    have hx:=z4n x
    simp only [cEL] at hA hF ⊢
    have e:st++List.map (·.Type_) (x::r)=(st++[x.Type_])++r.map (·.Type_):=by simp
    rw [e] at hF ⊢
    by_cases h0:r=[]
    · subst h0
      simp only [cEL,List.append_nil,List.map_nil] at hA hF ⊢
      exact walkE hn hl x pos M st vs L hr.1 hA hM hF (by omega) h2 h3
    · have hrl:0<(cEL r).length:=by
        rw [zaf]
        have:=z4L r
        have:=List.length_pos_iff.2 h0
        omega
      rw [List.length_append] at hF ⊢
      exact Wk.seq hF (walkE hn hl x pos M st vs L hr.1 hA.left hM (hF.left hrl) (by omega) h2 h3) fun M' hM' hF'=>zlG hn hl r _ M' (st++[x.Type_]) vs L hr.2 hA.right hM' hF' (by simp; omega) h2 h3
end
end Go.Proofs.YtgjcniomhahgkaaGreatDoor
namespace Go.Proofs.YtgjcniomhahgkaaGreatDoor
open Go.Abs
def Sp (n:Nat) (m:zH) (most:Int) (z:Int) (r r' : zi):Prop:=∃ k:Nat,(k:Int)≤3*(r'.Cpu.Spent - r.Cpu.Spent)+z∧∀ j,iter (z4c n m most) (j+k) (tup r)=iter (z4c n m most) j (tup r')
theorem rn_sp {C:List z6} {pos:Nat} {st vs:List zj} {L:List Int} {o:zA} {sp:Nat}:(rn C pos st vs L o sp).Cpu.Spent=(sp:Int):=by unfold rn; split <;> rfl
theorem mk_sp {C:List z6} {pos:Nat} {st vs:List zj} {L:List Int} {o:zA} {sp:Nat}:(mk C pos st vs L o sp).Cpu.Spent=(sp:Int):=rfl
theorem zfv {C:List z6} {o:zA} {sp:Nat}:(fin C o sp).Cpu.Spent=(sp:Int):=rfl
theorem zdH {C:List z6} {e:Int} {sp:Nat}:(err C e sp).Cpu.Spent=(sp:Int):=rfl
section
variable {n : Nat} {m : zH} {most : Int} {C : List z6} {pos : Nat} {st vs : List zj} {L : List Int} {o : zA} {sp : Nat} {x : z6}
theorem Sp.refl {r:zi}:Sp n m most 0 r r:=⟨0,by omega,fun j=>rfl⟩
theorem Sp.le {a b:zi} {z z' : Int} (h:Sp n m most z a b) (hz:z≤z'):Sp n m most z' a b:=by
 obtain ⟨i,hk,hi⟩:=h
 exact ⟨i,by omega,hi⟩
theorem Sp.trans {a b c:zi} {z1 z2:Int} (h:Sp n m most z1 a b) (k:Sp n m most z2 b c):Sp n m most (z1+z2) a c:=by
 obtain ⟨i,hk,hi⟩:=h
 obtain ⟨j,hl,hj⟩:=k
 exact ⟨j+i,by omega,fun q=>by rw [← Nat.add_assoc,hi,hj]⟩
theorem zkv {r' : zi} (hC:m.Code=C) (hx:C[pos]? = some x) (h40:x.Op=40→∃ L0 a,L=L0++[a]∧L.length<90000) (hs:sp<1000000) (hm:costI x L=0∨((sp+1:Nat):Int)≤most) (hmm:most≤1000000) (hd:Do n (mk C pos st vs L o sp) r') :
  z4c n m most (tup (mk C pos st vs L o sp))=some (.go (tup r')):=by
 have hlt:pos<C.length:=(List.getElem?_eq_some_iff.1 hx).1
 unfold z4c
 show (cond (!false) (cond (decide ((m.Code.length:Int)≤(pos:Int))) _ (obind (z1F (mk C pos st vs L o sp)) fun r72=>cond (decide (0<r72) && decide (min most 1152921504606846976<IntKind.i64.wrap ((sp:Int)+r72))) _ (obind (z1T n (mk C pos st vs L o sp)) fun r78=>some (Lp.go (tup r78))))) _)=_
 have hc:costI x L≤1:=by unfold costI; split <;> omega
 rw [zgB hx h40,show decide ((m.Code.length:Int)≤(pos:Int))=false by rw [hC]; simp; omega]
 have hf:(decide (0<(costI x L:Int)) && decide (min most 1152921504606846976<IntKind.i64.wrap ((sp:Int)+(costI x L:Int))))=false:=by
  rw [w64 (by omega) (by omega)]
  simp; omega
 simp only [Bool.not_false,cond_true,cond_false,obind,Option.bind_some,hf]
 rw [hd]; rfl
theorem sp_do {r' : zi} (hC:m.Code=C) (hx:C[pos]? = some x) (h40:x.Op=40→∃ L0 a,L=L0++[a]∧L.length<90000) (hs:sp<1000000) (hm:costI x L=0∨((sp+1:Nat):Int)≤most) (hmm:most≤1000000) (hd:Do n (mk C pos st vs L o sp) r') (z:Int) (hz:1≤3*(r'.Cpu.Spent - (sp:Int))+z) :
  Sp n m most z (rn C pos st vs L o sp) r':=by
 have hlt:pos<C.length:=(List.getElem?_eq_some_iff.1 hx).1
 refine ⟨1,by rw [rn_sp]; exact hz,?_⟩
 unfold rn
 rw [if_neg (by omega)]
 exact fun j=>z6K (zkv hC hx h40 hs hm hmm hd)
end
structure Cx (n:Nat) (m:zH) (most:Int) (C:List z6):Prop where
 hn:100000≤n
 hC:m.Code=C
 hl:C.length<90000
 hm:most≤20000
def RsE (n:Nat) (m:zH) (most:Int) (C:List z6) (r:zi) (pos:Nat) (st:List zj) (k:Nat) (vs:List zj) (L:List Int) (o:zA) (sp c:Nat):Prop:=
 (∃ az,Sp n m most (-2*(c:Int)) r (rn C pos (st++az) vs L o (sp+c))∧az.length=k∧∀ v∈az,Vk v)∨∃ e c',Sp n m most 0 r (err C e (sp+c'))∧Er e∧c'≤c
theorem zih {op n slot:Int} {s:List UInt8} {vs:List Int} {ty:Int} (h:lfE op n slot s vs ty)   : 1≤op∧op≤7∧(∀ A S,arity ⟨op,A,S⟩=0)∧(op=3→0≤slot∧slot.toNat<vs.length):=by
 have hop:1≤op∧op≤7:=by unfold lfE at h; omega
 refine ⟨hop.1,hop.2,fun A S=>?_,fun h3=>?_⟩
 ·unfold arity; simp only; rw [if_neg (by omega),if_pos (by omega)]
 ·unfold lfE at h
  rcases h with h | h | h | h | h
  ·omega
  ·omega
  ·omega
  ·omega
  ·exact ⟨h.2.1,(List.getElem?_eq_some_iff.1 h.2.2).1⟩
mutual
theorem runE {n:Nat} {m:zH} {most:Int} {C:List z6} (cx:Cx n m most C):∀ (x:zm) (ts:List Int) (pos:Nat) (st vs:List zj) (L:List Int) (o:zA) (sp:Nat),rE x ts→At C pos (cE x)→vs.length=ts.length→(∀ v∈vs,Vk v)→st.length+x.nodes<40000→
    o.Edge.Headers.length<90000→((sp+x.nodes:Nat):Int)≤most→RsE n m most C (rn C pos st vs L o sp) (pos+(cE x).length) st 1 vs L o sp x.nodes
  | ⟨op, ty, nn, slot, s, l⟩, ts, pos, st, vs, L, o, sp, hr, hA, hts, hv, hst, hh, hm => by
    simp only [zm.nodes] at hst hm ⊢
    simp only [rE] at hr
    simp only [cE] at hA ⊢
    have hmost:=cx.hm
    have hCl:=hA.len
    have hl:=cx.hl
    rw [List.length_append,List.length_singleton] at hCl ⊢
    have hnl:=zaf l
    obtain ⟨hty,hr⟩:=hr
    rcases hr with ⟨rfl,hlf⟩ | ⟨har,hel,_⟩
    · simp only [cEL,List.nil_append,List.length_nil,z2W] at hA hCl hnl hst hm ⊢
      obtain ⟨h1,h7,h0,h3⟩:=zih hlf
      have hx:=hA.get
      rcases do_op (n:=n) (st:=st) (az:=[]) (vs:=vs) (L:=L) (o:=o) (sp:=sp) hx (by omega) (by omega) h1 (by simp only; omega) (by simp only; omega) (h0 _ _).symm (by simp only; omega) (fun h=>by
          simp only at h ⊢
          rw [if_neg (by omega),if_pos h,hts]; exact h3 h) cx.hn (by simp; omega) (by simp) hv hh with ⟨v,hd,hk⟩ | ⟨e,hd,he⟩
      · rw [List.append_nil] at hd
        exact .inl ⟨[v],(sp_do cx.hC hx (by simp only; omega) (by omega) (.inr (by omega)) (by omega) hd (-2) (by rw [rn_sp]; omega)).le (by simp),rfl,by simpa using hk⟩
      · rw [List.append_nil] at hd
        exact .inr ⟨e,1,sp_do cx.hC hx (by simp only; omega) (by omega) (.inr (by omega)) (by omega) hd 0 (by rw [zdH]; omega),he,by omega⟩
    · rcases runEL cx l ts pos st vs L o sp hel hA.left hts hv (by omega) hh (by omega) with ⟨az,hs,hal,hav⟩ | ⟨e,c',hs,he,hc⟩
      · have hx:=hA.right.get
        unfold ariB at har
        have hln:=z4L l
        have hari:∀ A S,(op=23→A=(l.length:Int))→arity ⟨op,A,S⟩=l.length:=by
          intro A S hA23
          unfold arity; simp only
          by_cases h23:op=23
          · rw [if_pos h23,hA23 h23]; omega
          · rw [if_neg h23,if_neg (by omega)]
            by_cases h89:op=8∨op=9
            · rw [if_pos h89]; omega
            · rw [if_neg h89]; omega
        have ha:=hari (if op=23 then (l.length:Int) else if op=3 then slot else if op=1 then nn else 0) (if op=2∨op=6 then s else []) (fun h=>by rw [if_pos h])
        rcases do_op (n:=n) (st:=st) (az:=az) (vs:=vs) (L:=L) (o:=o) (sp:=sp+z2W l) hx (by omega) (by omega) (by simp only; omega) (by simp only; omega) (fun h=>by simp only at h ⊢; rw [if_pos h]; omega) (by rw [ha]; exact hal) (fun _=>by rw [ha]; omega) (by simp only; omega) cx.hn (by omega) hav hv hh with ⟨v,hd,hk⟩ | ⟨e,hd,he⟩
        · refine .inl ⟨[v],(hs.trans (z2:=-2) ?_).le (by omega),rfl,by simpa using hk⟩
          have:=sp_do (most:=most) (sp:=sp+z2W l) cx.hC hx (fun h=>by simp only at h; omega) (by omega) (.inr (by omega)) (by omega) hd (-2) (by rw [rn_sp]; omega)
          rw [show sp+z2W l+1=sp+(1+z2W l) by omega,show pos+(cEL l).length+1=pos+((cEL l).length+1) by omega] at this
          exact this
        · refine .inr ⟨e,1+z2W l,(hs.trans (z2:=0) ?_).le (by omega),he,Nat.le_refl _⟩
          have:=sp_do (most:=most) (sp:=sp+z2W l) cx.hC hx (fun h=>by simp only at h; omega) (by omega) (.inr (by omega)) (by omega) hd 0 (by rw [zdH]; omega)
          rw [show sp+z2W l+1=sp+(1+z2W l) by omega] at this
          exact this
      · exact .inr ⟨e,c',hs,he,by omega⟩
theorem runEL {n:Nat} {m:zH} {most:Int} {C:List z6} (cx:Cx n m most C):∀ (l:List zm) (ts:List Int) (pos:Nat) (st vs:List zj) (L:List Int) (o:zA) (sp:Nat),rEL l ts→At C pos (cEL l)→vs.length=ts.length→(∀ v∈vs,Vk v)→st.length+z2W l<40000→
    o.Edge.Headers.length<90000→((sp+z2W l:Nat):Int)≤most→RsE n m most C (rn C pos st vs L o sp) (pos+(cEL l).length) st l.length vs L o sp (z2W l)
  | [],ts,pos,st,vs,L,o,sp,hr,hA,hts,hv,hst,hh,hm=>.inl ⟨[],by simp only [cEL,List.length_nil,List.append_nil,z2W,Nat.add_zero]; exact Sp.refl,rfl,by simp⟩
  | x :: l, ts, pos, st, vs, L, o, sp, hr, hA, hts, hv, hst, hh, hm => by
    simp only [rEL] at hr
    simp only [z2W] at hst hm ⊢
    simp only [cEL] at hA ⊢
    have hx:=z4n x
    rcases runE cx x ts pos st vs L o sp hr.1 hA.left hts hv (by omega) hh (by omega) with ⟨az,hs,hal,hav⟩ | ⟨e,c',hs,he,hc⟩
    · rcases runEL cx l ts (pos+(cE x).length) (st++az) vs L o (sp+x.nodes) hr.2 hA.right hts hv (by simp; omega) hh (by omega) with ⟨bs,hs2,hbl,hbv⟩ | ⟨e,c',hs2,he,hc⟩
      · refine .inl ⟨az++bs,?_,by simp; omega,fun v hv=>(List.mem_append.1 hv).elim (hav v) (hbv v)⟩
        have:=(hs.trans hs2).le (z':=-2*((x.nodes+z2W l:Nat):Int)) (by omega)
        rwa [List.append_assoc,Nat.add_assoc,Nat.add_assoc,← List.length_append] at this
      · refine .inr ⟨e,x.nodes+c',?_,he,by omega⟩
        have:=(hs.trans hs2).le (z':=0) (by omega)
        rwa [Nat.add_assoc] at this
    · exact .inr ⟨e,c',hs,he,by omega⟩
end
end Go.Proofs.YtgjcniomhahgkaaGreatDoor
namespace Go.Proofs.YtgjcniomhahgkaaGreatDoor
open Go.Abs
def nextV (s:z7) (vs:List Int):List Int:=if s.Kind=1 then vs++[s.X.Type_] else vs
def stF (kind slot n:Int) (name:List UInt8) (ty:Int) (vs:List Int):Prop:=
 1≤kind∧kind≤9∧name.length≤200∧(kind=6→0≤n∧n≤1000)∧(kind=1→slot=(vs.length:Int)∧vs.length<200)∧(kind=2→0≤slot∧vs[slot.toNat]? = some ty)∧(kind=4→ty=1)∧(kind=5→ty=3)∧(kind=3∨kind=7∨kind=8∨kind=9→ty=2)
mutual
def rS:z7→List Int→Prop
 | ⟨kind,slot,n,name,x,b,e⟩,vs=>stF kind slot n name x.Type_ vs∧(kind≠6→rE x vs)∧rB b vs∧rB e vs
def rB:List z7→List Int→Prop
 | [],_=>True
 | s::r,vs=>rS s vs∧rB r (nextV s vs)
end
theorem rS_eq (s:z7) (vs:List Int):rS s vs↔stF s.Kind s.Slot s.N s.Name s.X.Type_ vs∧(s.Kind≠6→rE s.X vs)∧rB s.Body vs∧rB s.Else vs:=by cases s; simp [rS]
mutual
theorem zny:∀ (s:z7) (vs:List Int),rS s vs→okS s
  | ⟨kind, slot, n, name, x, b, e⟩, vs, h => by
    simp only [rS] at h
    simp only [okS]
    exact ⟨⟨h.1.1,h.1.2.1⟩,zem b vs h.2.2.1,zem e vs h.2.2.2⟩
theorem zem:∀ (l:List z7) (vs:List Int),rB l vs→okB l
 | [],_,_=>by simp [okB]
 | s::r,vs,h=>by simp only [rB] at h; simp only [okB]; exact ⟨zny s vs h.1,zem r _ h.2⟩
end
def varsA (l:List z7) (vs:List Int):List Int:=l.foldl (fun v s=>nextV s v) vs
theorem zgZ:∀ (l:List z7) (i:Nat) (x:z7) (vs:List Int),l[i]? = some x→rB (l.take i) vs→rS x (varsA (l.take i) vs)→rB (l.take (i+1)) vs
  | y::r,0,x,vs,h,_,ho=>by simp at h; subst h; simpa [rB,varsA] using ho
  | y :: r, i + 1, x, vs, h, hi, ho => by
    simp only [List.take_succ_cons,rB] at hi ⊢
    exact ⟨hi.1,zgZ r i x _ (by simpa using h) hi.2 (by simpa [varsA] using ho)⟩
theorem zf5 (l:List z7) (i:Nat) (x:z7) (vs:List Int) (h:l[i]? = some x):varsA (l.take (i+1)) vs=nextV x (varsA (l.take i) vs):=by
 obtain ⟨hi,rfl⟩:=List.getElem?_eq_some_iff.1 h
 unfold varsA
 rw [List.take_succ_eq_append_getElem hi,List.foldl_append]; rfl
def Gq (p:Prop) (v:List Int) (o:Option (Lp (List Int) (Lp (List Int×Int) (Lp Unit Bool)))):Prop:=o=some (.stop (.stop (.stop false)))∨(p∧o=some (.go v))
theorem z8D {p:Prop} {v:List Int}:Gq p v (some (.stop (.stop (.stop false)))):=.inl rfl
theorem gq_go {p:Prop} {v w:List Int} (h:p) (e:w=v):Gq p v (some (.go w)):=.inr ⟨h,by rw [e]⟩
theorem z8C {p:Prop} {v:List Int} {b:Bool} {x y} (h1:b=true→Gq p v x) (h2:b=false→Gq p v y):Gq p v (cond b x y):=by cases b <;> simp_all
theorem zgL {p q:Prop} {v:List Int} [Decidable q] {y} (h:q) (h2:Gq p v y):Gq p v (need q y):=by rw [zW h]; exact h2
theorem zaE {p:Prop} {v:List Int} {o:Option (Lp Bool _)} {b:Bool} {k} (h:o=some (.go b)) (h2:Gq p v (k b)):Gq p v (bindJ o k):=by rw [h]; exact h2
theorem ziU (k:Int):z69 k=some (if k=4 then 1 else if k=5 then 3 else 2):=by
 unfold z69
 by_cases h4:k=4 <;> by_cases h5:k=5 <;> simp [h4,h5]
theorem zez:∀ (n:Nat) (l:List z7) (vars:List Int) (deep:Int),z1y l+1<n→z1y l<1073741824→∃ b,z2E n l vars deep=some b∧(b=true→rB l vars)
  | 0,l,vars,deep,h,_=>by omega
  | n + 1, l, vars, deep, h, hb => by
    have hlen:=z5H l
    show ∃ b,z2y n (z2E n) l vars deep=some b∧(b=true→rB l vars)
    unfold z2y
    obtain ⟨r,h1,h2⟩:=z3s (step:=z4d n l deep (z2E n)) (fun s=>∃ k:Nat,s.2=k∧k≤l.length∧s.1=varsA (l.take k) vars∧rB (l.take k) vars) (fun s=>l.length - s.2.toNat) (fun r=>match r with | .go _=>rB l vars | .stop b=>b=false) (fun ⟨a,b⟩ ⟨k,hk,hle,ha,hok⟩=>by
      simp only at hk ha; subst hk
      unfold z4d
      by_cases hc:k<l.length
      · simp only [show decide ((k:Int)<(l.length:Int))=true by simp; omega,cond_true]
        have hx:=List.getElem?_eq_getElem hc
        have:=z7b _ _ _ hx
        have h2:=z5o l[k]
        have h3:=z4n l[k].X
        rw [z43 hx,z2P (N:=l.length) (by omega) (by omega)]
        generalize l[k]=x at *
        have key:∀ o,Gq (rS x a) (nextV x a) o→(∃ s',bindJ o (fun vars_13=>some (.go (vars_13,((k+1:Nat):Int))))=some (.go s')∧(∃ k' : Nat,s'.2=k'∧k'≤l.length∧s'.1=varsA (l.take k') vars∧rB (l.take k') vars)∧l.length - s'.2.toNat<l.length - ((k:Int)).toNat)∨(∃ r,bindJ o (fun vars_13=>some (.go (vars_13,((k+1:Nat):Int))))=some (.stop r)∧(match r with | .go _=>rB l vars | .stop b=>b=false)):=by
          intro o ho
          rcases ho with rfl | ⟨ho,rfl⟩
          · exact .inr ⟨_,rfl,rfl⟩
          · exact .inl ⟨_,rfl,⟨k+1,rfl,by omega,by rw [zf5 _ _ _ _ hx,ha],zgZ _ _ _ _ hx hok (by rw [← ha]; exact ho)⟩,by simp; omega⟩
        refine key _ ?_
        refine z8C (fun _=>z8D) fun hkd=>z8C (fun _=>z8D) fun hnm=>z8C (fun _=>z8D) fun _=>?_
        have hX:∃ o:Lp Unit (Lp (List Int) (Lp (List Int×Int) (Lp Unit Bool))),(cond (decide (x.Kind=6)) (obind (z6P x.X) fun r74=>cond (((!r74) || decide (x.N<0)) || decide (1000<x.N)) (some (.stop (.stop (.stop (.stop false))))) (some (.go ()))) (obind (z2r n x.X a (IntKind.i64.wrap (deep+1))) fun r83=>cond (!r83) (some (.stop (.stop (.stop (.stop false))))) (some (.go ()))))=some o∧(o = .stop (.stop (.stop (.stop false)))∨(o = .go ()∧(x.Kind≠6→rE x.X a)∧(x.Kind=6→0≤x.N∧x.N≤1000))):=by
          by_cases h6:x.Kind=6
          · obtain ⟨z,hz⟩ : ∃ z,z6P x.X=some z:=⟨_,rfl⟩
            simp only [h6,decide_true,hz,obind,Option.bind_some,cond_true]
            generalize hw:(((!z) || decide (x.N<0)) || decide (1000<x.N))=bc
            cases bc
            · refine ⟨_,rfl,.inr ⟨rfl,fun h=>absurd rfl h,fun _=>?_⟩⟩
              simp at hw; omega
            · exact ⟨_,rfl,.inl rfl⟩
          · obtain ⟨r,hr,hre⟩:=zh0 n x.X a (IntKind.i64.wrap (deep+1)) (by omega) (by omega)
            simp only [h6,decide_false,hr,obind,Option.bind_some,cond_false]
            cases r
            · exact ⟨_,rfl,.inl rfl⟩
            · exact ⟨_,rfl,.inr ⟨rfl,fun _=>hre rfl,fun h=>by cases h⟩⟩
        obtain ⟨o,ho,ho2⟩:=hX
        rw [ho]
        rcases ho2 with rfl | ⟨rfl,hxe,hxn⟩
        · exact z8D
        · simp only [z12]
          obtain ⟨b1,hb1,hk1⟩:=zez n x.Body a (IntKind.i64.wrap (deep+1)) (by omega) (by omega)
          obtain ⟨b2,hb2,hk2⟩:=zez n x.Else a (IntKind.i64.wrap (deep+1)) (by omega) (by omega)
          simp only [hb1,hb2,obind,Option.bind_some]
          refine z8C (fun _=>z8D) fun hbb=>?_
          simp at hbb hkd hnm
          have hs:stF x.Kind x.Slot x.N x.Name x.X.Type_ a→rS x a:=fun h=>(rS_eq x a).2 ⟨h,hxe,hk1 hbb.1,hk2 hbb.2⟩
          refine z8C (fun hk1=>z8C (fun _=>z8D) fun hv=>?_) fun hk1=>z8C (fun hk2=>?_) fun hk2=>?_
          · simp at hv hk1
            exact zgL (by simp; omega) (zgL (by simp; omega) (gq_go (hs ⟨by omega,by omega,by omega,hxn,fun _=>⟨by omega,by omega⟩,fun h=>by omega,fun h=>by omega,fun h=>by omega,fun h=>by omega⟩) (by simp [nextV,hk1])))
          · simp at hk1 hk2
            by_cases hsl:x.Slot<0∨(a.length:Int)≤x.Slot
            · exact zaE (b:=true) (by rw [show (decide (x.Slot<0) || decide ((a.length:Int)≤x.Slot))=true by simpa using hsl]; rfl) z8D
            · refine zaE (b:=decide (a[x.Slot.toNat]'(by omega)≠x.X.Type_)) (by rw [show (decide (x.Slot<0) || decide ((a.length:Int)≤x.Slot))=false by simp; omega]; simp only [cond_false]; rw [z4l (by omega) (by omega)]) (z8C (fun _=>z8D) fun ht=>gq_go (hs ⟨by omega,by omega,by omega,hxn,fun h=>by omega,fun _=>⟨by omega,?_⟩,fun h=>by omega,fun h=>by omega,fun h=>by omega⟩) (by simp [nextV,hk1]))
              rw [List.getElem?_eq_getElem (by omega)]
              simp at ht; rw [ht]
          · simp at hk1 hk2
            rw [ziU]
            by_cases h6:x.Kind=6
            · exact zaE (b:=false) (by simp [h6]) (gq_go (hs ⟨by omega,by omega,by omega,hxn,fun h=>by omega,fun h=>by omega,fun h=>by omega,fun h=>by omega,fun h=>by omega⟩) (by simp [nextV,hk1]))
            · refine zaE (b:=decide (x.X.Type_≠if x.Kind=4 then 1 else if x.Kind=5 then 3 else 2)) (by simp [h6]) (z8C (fun _=>z8D) fun ht=>gq_go (hs ⟨by omega,by omega,by omega,hxn,fun h=>by omega,fun h=>by omega,fun h=>?_,fun h=>?_,fun h=>?_⟩) (by simp [nextV,hk1]))
              · simp [h] at ht; exact ht
              · simp [h] at ht; exact ht
              · simp only [decide_eq_false_iff_not,ne_eq,Decidable.not_not] at ht; rw [ht,if_neg (by omega),if_neg (by omega)]
      · simp only [show decide ((k:Int)<(l.length:Int))=false by simp; omega,cond_false]
        exact .inr ⟨_,rfl,by simpa [show k=l.length by omega] using hok⟩) n (vars,0) ⟨0,rfl,by omega,rfl,by simp [rB]⟩ (by simp; omega)
    rw [h1]
    cases r with
    | stop b=>exact ⟨b,rfl,fun h=>by simp only at h2; simp [h2] at h⟩
    | go u=>exact ⟨true,rfl,fun _=>h2⟩
end Go.Proofs.YtgjcniomhahgkaaGreatDoor
namespace Go.Proofs.YtgjcniomhahgkaaGreatDoor
open Go.Abs
abbrev Cst:=Option (Nat×Nat)
abbrev TOP:Nat:=2199023255552
def plusC:Cst→Cst→Cst
 | some a,some b=>some (min (a.1+b.1) TOP,min (a.2+b.2) TOP)
 | _,_=>none
def orC:Cst→Cst→Cst
 | none,b=>b
 | some a,none=>some a
 | some a,some b=>some (min a.1 b.1,max a.2 b.2)
structure Way where
 on:Cst
 en:Cst
def Way.seq (a b:Way):Way:=⟨plusC a.on b.on,orC a.en (plusC a.on b.en)⟩
def Way.alt (a b:Way):Way:=⟨orC a.on b.on,orC a.en b.en⟩
def ex (n:Nat):Way:=⟨some (n,n),none⟩
def loopW:Nat→Way→Way→Way
 | 0,w,_=>w
 | k+1,w,b=>loopW k (w.seq b) b
mutual
def wS:z7→Way
  | ⟨kind, _, n, _, x, b, e⟩ => if kind = 6 then (ex 1).seq (loopW n.toNat (ex 0) ((ex 1).seq (wB (ex 0) b))) else if kind = 5 then (ex (1 + x.nodes)).seq ((wB (ex 0) b).alt (wB (ex 0) e))
    else if kind=8∨kind=9 then ⟨none,some (1+x.nodes,1+x.nodes)⟩ else ex (1+x.nodes)
def wB:Way→List z7→Way
 | w,[]=>w
 | w,s::r=>wB (w.seq (wS s)) r
end
theorem wS_eq (s:z7):wS s=if s.Kind=6 then (ex 1).seq (loopW s.N.toNat (ex 0) ((ex 1).seq (wB (ex 0) s.Body))) else if s.Kind=5 then (ex (1+s.X.nodes)).seq ((wB (ex 0) s.Body).alt (wB (ex 0) s.Else))
 else if s.Kind=8∨s.Kind=9 then ⟨none,some (1+s.X.nodes,1+s.X.nodes)⟩ else ex (1+s.X.nodes):=by cases s; rw [wS]
def hi:Cst→Nat
 | none=>0
 | some a=>a.2
def Way.M (w:Way):Nat:=max (hi w.on) (hi w.en)
def Way.NN (w:Way):Prop:=w.on≠none∨w.en≠none
def InC (c:Cst) (n:Nat):Prop:=∃ a,c=some a∧a.1≤n∧n≤a.2
theorem InC.le {c:Cst} {n:Nat} (h:InC c n):n≤hi c:=by obtain ⟨a,rfl,h1,h2⟩:=h; exact h2
theorem InC.orL {a b:Cst} {n:Nat} (h:InC a n):InC (orC a b) n:=by
 obtain ⟨x,rfl,h1,h2⟩:=h
 cases b with
 | none=>exact ⟨x,rfl,h1,h2⟩
 | some y=>exact ⟨_,rfl,by simp only; omega,by simp only; omega⟩
theorem InC.orR {a b:Cst} {n:Nat} (h:InC b n):InC (orC a b) n:=by
 obtain ⟨x,rfl,h1,h2⟩:=h
 cases a with
 | none=>exact ⟨x,rfl,h1,h2⟩
 | some y=>exact ⟨_,rfl,by simp only; omega,by simp only; omega⟩
theorem ze2 (a b:Cst):hi (orC a b)=max (hi a) (hi b):=by
 cases a <;> cases b <;> simp [orC,hi]
theorem InC.plus {a b:Cst} {n m:Nat} (h:InC a n) (k:InC b m) (hT:hi (plusC a b)<TOP):InC (plusC a b) (n+m):=by
 obtain ⟨x,rfl,h1,h2⟩:=h
 obtain ⟨y,rfl,h3,h4⟩:=k
 simp only [plusC,hi] at hT
 exact ⟨_,rfl,by simp only; omega,by simp only; omega⟩
theorem zcZ {w v:Way} {c:Nat} (h:InC w.on c) (hv:v.NN) (hT:(w.seq v).M<TOP):c+v.M≤(w.seq v).M:=by
  obtain ⟨x,hx,h1,h2⟩:=h
  simp only [Way.M,Way.seq,ze2,hx] at hT ⊢
  cases h3:v.on with
  | none =>
    cases h4:v.en with
    | none=>exact (hv.elim (fun q=>q h3) (fun q=>q h4)).elim
    | some y=>simp only [h3,h4,plusC,hi] at hT ⊢; omega
  | some z =>
    cases h4:v.en with
    | none=>simp only [h3,h4,plusC,hi] at hT ⊢; omega
    | some y=>simp only [h3,h4,plusC,hi] at hT ⊢; omega
theorem seq_M {w v:Way} (hv:v.NN) (hT:(w.seq v).M<TOP):w.M≤(w.seq v).M:=by
  simp only [Way.M,Way.seq,ze2] at hT ⊢
  cases hx:w.on with
  | none=>simp only [hx,plusC,hi] at hT ⊢; omega
  | some x =>
    cases h3:v.on with
    | none =>
      cases h4:v.en with
      | none=>exact (hv.elim (fun q=>q h3) (fun q=>q h4)).elim
      | some y=>simp only [hx,h3,h4,plusC,hi] at hT ⊢; omega
    | some z=>simp only [hx,h3,plusC,hi] at hT ⊢; omega
theorem zbx {w v:Way} (h:w.NN) (k:v.NN):(w.seq v).NN:=by
  unfold Way.NN Way.seq at *
  cases hx:w.on with
  | none =>
    cases hy:w.en with
    | none=>simp [hx,hy] at h
    | some y=>right; simp only; cases plusC none v.en <;> simp [orC]
  | some x =>
    cases h3:v.on with
    | some z=>left; simp [plusC]
    | none =>
      cases h4:v.en with
      | none=>simp [h3,h4] at k
      | some y=>right; cases w.en <;> simp [plusC,orC]
theorem NN_ex (n:Nat):(ex n).NN:=.inl (by simp [ex])
theorem zde:∀ (k:Nat) {w b:Way},w.NN→b.NN→(loopW k w b).NN
 | 0,_,_,h,_=>h
 | k+1,_,_,h,hb=>zde k (zbx h hb) hb
theorem zjl {w v:Way} (h:w.NN):(w.alt v).NN:=by
 unfold Way.NN Way.alt at *
 rcases h with h | h
 ·left; cases hx:w.on with
  | none=>exact absurd hx h
  | some x=>cases v.on <;> simp [orC]
 ·right; cases hx:w.en with
  | none=>exact absurd hx h
  | some x=>cases v.en <;> simp [orC]
mutual
theorem NN_S:∀ s:z7,(wS s).NN
  | ⟨kind, sl, n, nm, x, b, e⟩ => by
    rw [wS]
    split
    · exact zbx (NN_ex 1) (zde _ (NN_ex 0) (zbx (NN_ex 1) (NN_B b (NN_ex 0))))
    · split
      · exact zbx (NN_ex _) (zjl (NN_B b (NN_ex 0)))
      · split
        · exact .inr (by simp)
        · exact NN_ex _
theorem NN_B:∀ (l:List z7) {w:Way},w.NN→(wB w l).NN
 | [],_,h=>by rw [wB]; exact h
 | s::r,_,h=>by rw [wB]; exact NN_B r (zbx h (NN_S s))
end
theorem wB_M:∀ (l:List z7) (w:Way),(wB w l).M<TOP→w.M≤(wB w l).M
  | [],w,_=>by rw [wB]; exact Nat.le_refl _
  | s :: r, w, h => by
    rw [wB] at h ⊢
    have h1:=wB_M r _ h
    exact Nat.le_trans (seq_M (NN_S s) (by omega)) h1
theorem zkM:∀ (k:Nat) (w b:Way),b.NN→(loopW k w b).M<TOP→w.M≤(loopW k w b).M
  | 0,w,_,_,_=>Nat.le_refl _
  | k + 1, w, b, hb, h => by
    rw [loopW] at h ⊢
    have h1:=zkM k _ b hb h
    exact Nat.le_trans (seq_M hb (by omega)) h1
theorem wB_en:∀ (l:List z7) {w:Way} {c:Nat},InC w.en c→InC (wB w l).en c
 | [],_,_,h=>by rw [wB]; exact h
 | s::r,_,_,h=>by rw [wB]; exact wB_en r (InC.orL h)
theorem zgO:∀ (k:Nat) {w b:Way} {c:Nat},InC w.en c→InC (loopW k w b).en c
 | 0,_,_,_,h=>h
 | k+1,_,_,_,h=>zgO k (InC.orL h)
theorem znP {w v:Way} {a b:Nat} (h:InC w.on a) (k:InC v.on b) (hT:(w.seq v).M<TOP):InC (w.seq v).on (a+b):=h.plus k (by unfold Way.M Way.seq at hT; simp only at hT; omega)
theorem znO {w v:Way} {a b:Nat} (h:InC w.on a) (k:InC v.en b) (hT:(w.seq v).M<TOP):InC (w.seq v).en (a+b):=
 InC.orR (h.plus k (by unfold Way.M Way.seq at hT; simp only [ze2] at hT; omega))
theorem ex_on (n:Nat):InC (ex n).on n:=⟨_,rfl,Nat.le_refl _,Nat.le_refl _⟩
theorem alt_M (w v:Way):w.M≤(w.alt v).M∧v.M≤(w.alt v).M:=by
 simp only [Way.M,Way.alt,ze2]; omega
end Go.Proofs.YtgjcniomhahgkaaGreatDoor
namespace Go.Proofs.YtgjcniomhahgkaaGreatDoor
open Go.Abs
theorem z5N:∀ (l:List z7) (vs:List Int),vs.length≤(varsA l vs).length∧(varsA l vs).take vs.length=vs
  | [],vs=>by simp [varsA]
  | s :: r, vs => by
    have h:=z5N r (nextV s vs)
    have e:varsA (s::r) vs=varsA r (nextV s vs):=rfl
    rw [e]
    unfold nextV at h ⊢
    split at h
    · rename_i hk
      rw [if_pos hk]
      rw [List.length_append,List.length_cons,List.length_nil] at h
      refine ⟨by omega,?_⟩
      have h2:=congrArg (List.take vs.length) h.2
      rw [List.take_take,List.take_left] at h2
      rwa [show min vs.length (vs.length+(0+1))=vs.length by omega] at h2
    · rename_i hk
      rw [if_neg hk]; exact h
theorem zkH {N:Nat} {s:z7} {vs L:List Int} {a:Int} (h:stF s.Kind s.Slot s.N s.Name s.X.Type_ vs) (h5:s.Kind≠5) (h6:s.Kind≠6) (hv:vs.length≤200):zy N ⟨[s.X.Type_],vs,L⟩ (lastI s) a=some (⟨[],nextV s vs,L⟩,true)∧31≤(lastI s).Op∧(lastI s).Op≤36:=by
 obtain ⟨k1,k9,hnm,_,s1,s2,t4,_,t2⟩:=h
 unfold lastI nextV
 by_cases e1:s.Kind=1
 ·rw [if_pos (.inl e1),if_pos e1,(s1 e1).1]
  exact ⟨zmi (s1 e1).2,by simp,by simp⟩
 ·by_cases e2:s.Kind=2
  ·rw [if_pos (.inr e2),if_neg e1]
   exact ⟨zmj (s2 e2).1 (s2 e2).2 hv,by simp,by simp⟩
  ·rw [if_neg (by omega),if_neg e1]
   by_cases e3:s.Kind=3
   ·rw [if_pos e3,t2 (.inl e3)]
    exact ⟨zbW (.inl ⟨rfl,hnm⟩),by simp,by simp⟩
   ·rw [if_neg e3]
    by_cases e4:s.Kind=4
    ·rw [if_pos e4,t4 e4]
     exact ⟨af_33,by simp,by simp⟩
    ·rw [if_neg e4,t2 (by omega)]
     by_cases e7:s.Kind=7
     ·rw [if_pos e7]; exact ⟨zbW (.inr ⟨.inl rfl,rfl⟩),by simp,by simp⟩
     ·rw [if_neg e7]
      by_cases e8:s.Kind=8
      ·rw [if_pos e8]; exact ⟨zbW (.inr ⟨.inr (.inl rfl),rfl⟩),by simp,by simp⟩
      ·rw [if_neg e8]; exact ⟨zbW (.inr ⟨.inr (.inr rfl),rfl⟩),by simp,by simp⟩
theorem zmw (s:z7) (pos:Nat) (d:Int):0<(cS s pos d).length:=by
 cases s; simp only [cS]; split
 ·simp
 ·split <;> simp
theorem zmv:∀ (l:List z7) (pos:Nat) (d:Int),l≠[]→0<(cB l pos d).length
 | s::r,pos,d,_=>by have:=zmw s pos d; simp only [cB,List.length_append]; omega
theorem zf6 {n:Nat} {m:zH} (hn:100000≤n) (hl:m.Code.length<90000) {s:z7} {pos:Nat} {M:MT} {vs L:List Int} (hr:rE s.X vs) (hst:stF s.Kind s.Slot s.N s.Name s.X.Type_ vs) (h5:s.Kind≠5) (h6:s.Kind≠6)
  (hA:At m.Code pos ([⟨30,0,[]⟩]++cE s.X++[lastI s])) (hM:mget M (pos:Int)=some ⟨[],vs,L⟩) (hF:Fh M pos (1+(cE s.X).length+1) ⟨[],nextV s vs,L⟩) (h1:s.X.nodes<40000) (h2:vs.length≤200) (h3:L.length<40000) :
  Wk n m pos M (1+(cE s.X).length+1) ⟨[],nextV s vs,L⟩:=by
 have hS:Sml ⟨[],vs,L⟩:=⟨by simp,by simp; omega,by simp; omega⟩
 have hxl:0<(cE s.X).length:=by rw [zbz,z4n]; omega
 obtain ⟨hla,ho1,ho2⟩:=zkH (N:=n) (L:=L) (a:=((pos+(1+(cE s.X).length):Nat):Int)) hst h5 h6 h2
 have hF1:Fh M pos (1+(cE s.X).length) ⟨[s.X.Type_],vs,L⟩:=hF.left (by omega)
 refine Wk.seq hF (t:=⟨[s.X.Type_],vs,L⟩) (Wk.seq hF1 (Wk.one hn hl hA.left.left hM af_30 hS (by simp) (by simp) (by simp) (hF1.left hxl)) fun M' hM' hF'=>?_) fun M' hM' hF'=>?_
 ·exact walkE hn hl s.X (pos+1) M' [] vs L hr hA.left.right hM' hF' (by simp; omega) (by omega) (by omega)
 ·have hAr:=hA.right
  rw [List.length_append] at hAr
  refine Wk.one hn hl hAr hM' hla ⟨by simp,?_,by simp; omega⟩ (by omega) (by omega) (by omega) hF'
  unfold nextV; split <;> simp <;> omega
mutual
theorem walkS {n:Nat} {m:zH} (hn:100000≤n) (hl:m.Code.length<90000):∀ (s:z7) (pos:Nat) (M:MT) (vs L:List Int),rS s vs→At m.Code pos (cS s pos vs.length)→mget M (pos:Int)=some ⟨[],vs,L⟩→Fh M pos (cS s pos vs.length).length ⟨[],nextV s vs,L⟩→vs.length≤200→L.length+s.nodes<40000→
    Wk n m pos M (cS s pos vs.length).length ⟨[],nextV s vs,L⟩
  | ⟨kind, slot, nn, name, x, b, e⟩, pos, M, vs, L, hr, hA, hM, hF, h2, h3 => by
    simp only [z7.nodes] at h3
    simp only [rS] at hr
    obtain ⟨hst,hre,hrb,hre2⟩:=hr
    have hS:Sml ⟨[],vs,L⟩:=⟨by simp,by simp; omega,by simp; omega⟩
    by_cases h6:kind=6
    · rw [cS6 _ _ _ h6] at hA hF ⊢
      have hnx:nextV ⟨kind,slot,nn,name,x,b,e⟩ vs=vs:=by unfold nextV; rw [if_neg (by simp only; omega)]
      rw [hnx] at hF ⊢
      simp only at hA hF ⊢
      generalize hk:cB b (pos+3) vs.length=k at hA hF ⊢
      have hlen:([(z6.mk 30 0 []),(z6.mk 39 nn []),(z6.mk 40 ((pos+5+k.length:Nat)) [])]++k++[(z6.mk 41 (vs.length:Int) []),(z6.mk 37 ((pos+2:Nat)) [])]).length=5+k.length:=by simp; omega
      have hCl:=hA.len
      rw [hlen] at hF hCl ⊢
      have hA0:At m.Code pos ([(z6.mk 30 0 [])]++([(z6.mk 39 nn [])]++([(z6.mk 40 ((pos+5+k.length:Nat)) [])]++(k++([(z6.mk 41 (vs.length:Int) [])]++[(z6.mk 37 ((pos+2:Nat)) [])]))))):=by simpa using hA
      have hA1:=hA0.right
      have hA2:=hA1.right
      have hA3:=hA2.right
      have hA4:=hA3.right
      have hA5:=hA4.right
      simp only [List.length_cons,List.length_nil,Nat.zero_add] at hA1 hA2 hA3 hA4 hA5
      obtain ⟨M1,s1,g1,k1⟩:=Wk.one hn hl hA0.left hM af_30 hS (by simp) (by simp) (by simp) ⟨fun k h1 h2=>by omega,fun _=>.inl (hF.1 (pos+1) (by omega) (by omega))⟩
      have hS2:Sml ⟨[],vs,L++[((pos+1:Nat):Int)]⟩:=⟨by simp,by simp; omega,by simp; omega⟩
      obtain ⟨M2,s2,g2,k2⟩:=Wk.one (pos:=pos+1) hn hl hA1.left g1 (af_39 (hst.2.2.2.1 h6) (by omega)) hS2 (by simp) (by simp) (by simp) ⟨fun k h1 h2=>by omega,fun _=>.inl (by rw [k1 _ (.inr (by omega))]; exact hF.1 (pos+1+1) (by omega) (by omega))⟩
      obtain ⟨M3,s3,g3⟩:=zgc (i:=pos+1+1) (A:=pos+5+k.length) hn hl hA2.left.get g2 hS2 (by omega) (by omega)
        (by unfold Fr; rw [k2 _ (.inr (by omega)),k1 _ (.inr (by omega)),show pos+5+k.length=pos+(5+k.length) by omega]; exact hF.2 (by omega))
        (.inl (by rw [k2 _ (.inr (by omega)),k1 _ (.inr (by omega))]; exact hF.1 _ (by omega) (by omega)))
      have hno:∀ q:Nat,pos+3<q→q<pos+5+k.length→mget M3 (q:Int)=none:=fun q q1 q2=>by
        rw [g3,if_neg (by omega),if_neg (by omega),k2 _ (.inr (by omega)),k1 _ (.inr (by omega))]; exact hF.1 _ (by omega) (by omega)
      obtain ⟨M4,s4,g4,k4⟩ : Wk n m (pos+3) M3 k.length ⟨[],varsA b vs,L++[((pos+1:Nat):Int)]⟩:=by
        rw [← hk]
        exact walkB hn hl b (pos+3) M3 vs (L++[((pos+1:Nat):Int)]) hrb (by rw [hk]; exact hA3.left) (by rw [g3,if_pos (by omega)]) (by rw [hk]; exact ⟨fun q q1 q2=>hno q q1 (by omega),fun hq=>.inl (hno _ (by omega) (by omega))⟩) h2 (by simp; omega)
      obtain ⟨v1,v2⟩:=z5N b vs
      have haf:=af_41 (N:=n) (st:=[]) (vs:=varsA b vs) (L:=L++[((pos+1:Nat):Int)]) (a:=((pos+3+k.length:Nat):Int)) (A:=(vs.length:Int)) ⟨by omega,by omega⟩
      rw [Int.toNat_natCast,v2] at haf
      obtain ⟨M5,s5,g5,k5⟩:=Wk.one (pos:=pos+3+k.length) hn hl hA4.left g4 haf hS2 (by simp) (by simp) (by simp) ⟨fun k h1 h2=>by omega,fun _=>.inl (by rw [k4 _ (.inr (by omega))]; exact hno _ (by omega) (by omega))⟩
      obtain ⟨M6,s6,g6⟩:=zcB (s:=[]) (i:=pos+3+k.length+1) (A:=pos+2) hn hl hA5.get g5 hS2 (by omega) (fun _=>⟨_,hA2.left.get,rfl⟩)
        (.inr (by rw [k5 _ (.inl (by omega)),k4 _ (.inl (by omega)),g3,if_neg (by omega),if_neg (by omega)]; exact g2))
      refine ⟨M6,?_,?_,fun q hq=>?_⟩
      · have:=((((s1.trans s2).trans s3).trans s4).trans s5).trans s6
        rwa [show pos+3+k.length+1+1=pos+(5+k.length) by omega] at this
      · rw [g6,if_neg (by omega),k5 _ (.inr (by omega)),k4 _ (.inr (by omega)),g3,if_neg (by omega),if_pos (by omega)]
      · rw [g6,if_neg (by omega),k5 _ (by omega),k4 _ (by omega),g3,if_neg (by omega),if_neg (by omega),k2 _ (by omega),k1 _ (by omega)]
    · by_cases h5:kind=5
      · rw [cS5 ⟨kind,slot,nn,name,x,b,e⟩ pos vs.length h5 rfl rfl rfl] at hA hF ⊢
        have hnx:nextV ⟨kind,slot,nn,name,x,b,e⟩ vs=vs:=by unfold nextV; rw [if_neg (by simp only; omega)]
        rw [hnx] at hF ⊢
        simp only at hA hF ⊢
        have ht3:x.Type_=3:=hst.2.2.2.2.2.2.2.1 h5
        have hql:0<(cE x).length:=by rw [zbz,z4n]; omega
        generalize hq:cE x=q at hA hF hql ⊢
        generalize hk:cB b (pos+2+q.length) vs.length=k at hA hF ⊢
        generalize hj:cB e (pos+4+q.length+k.length) vs.length=j at hA hF ⊢
        have hlen:([(z6.mk 30 0 [])]++q++[(z6.mk 38 ((pos+4+q.length+k.length:Nat)) [])]++k++[(z6.mk 41 (vs.length:Int) []),(z6.mk 37 ((pos+5+q.length+k.length+j.length:Nat)) [])]++j++[(z6.mk 41 (vs.length:Int) [])]).length=5+q.length+k.length+j.length:=by simp; omega
        have hCl:=hA.len
        rw [hlen] at hF hCl ⊢
        have hA0:At m.Code pos ([(z6.mk 30 0 [])]++(q++([(z6.mk 38 ((pos+4+q.length+k.length:Nat)) [])]++(k++([(z6.mk 41 (vs.length:Int) [])]++([(z6.mk 37 ((pos+5+q.length+k.length+j.length:Nat)) [])]++(j++[(z6.mk 41 (vs.length:Int) [])]))))))):=by simpa using hA
        have hA1:=hA0.right
        have hA2:=hA1.right
        have hA3:=hA2.right
        have hA4:=hA3.right
        have hA5:=hA4.right
        have hA6:=hA5.right
        have hA7:=hA6.right
        simp only [List.length_cons,List.length_nil,Nat.zero_add] at hA1 hA2 hA3 hA4 hA5 hA6 hA7
        obtain ⟨M1,s1,g1,k1⟩:=Wk.one hn hl hA0.left hM af_30 hS (by simp) (by simp) (by simp) ⟨fun k h1 h2=>by omega,fun _=>.inl (hF.1 (pos+1) (by omega) (by omega))⟩
        have hno1:∀ z:Nat,pos+1<z→z<pos+(5+q.length+k.length+j.length)→mget M1 (z:Int)=none:=fun z z1 z2=>by rw [k1 _ (.inr z1)]; exact hF.1 _ (by omega) z2
        obtain ⟨M2,s2,g2,k2⟩ : Wk n m (pos+1) M1 q.length ⟨[3],vs,L⟩:=by
          have:=walkE hn hl x (pos+1) M1 [] vs L (hre h6) (by rw [hq]; exact hA1.left) g1 (by rw [hq]; exact ⟨fun z z1 z2=>hno1 z z1 (by omega),fun _=>.inl (hno1 _ (by omega) (by omega))⟩) (by simp; omega) (by omega) (by omega)
          rw [hq,ht3] at this; exact this
        have hno2:∀ z:Nat,pos+1+q.length<z→z<pos+(5+q.length+k.length+j.length)→mget M2 (z:Int)=none:=fun z z1 z2=>by rw [k2 _ (.inr z1)]; exact hno1 z (by omega) z2
        obtain ⟨M3,s3,g3⟩:=zd0 (i:=pos+1+q.length) (A:=pos+4+q.length+k.length) hn hl hA2.left.get g2 hS (by omega) (by omega) (.inl (hno2 _ (by omega) (by omega))) (.inl (hno2 _ (by omega) (by omega)))
        rw [show pos+1+q.length+1=pos+2+q.length by omega] at s3 g3 hA3 hA4 hA5 hA6 hA7
        obtain ⟨M4,s4,g4,k4⟩ : Wk n m (pos+2+q.length) M3 k.length ⟨[],varsA b vs,L⟩:=by
          rw [← hk]
          exact walkB hn hl b (pos+2+q.length) M3 vs L hrb (by rw [hk]; exact hA3.left) (by rw [g3,if_pos (.inl rfl)]) (by rw [hk]; exact ⟨fun z z1 z2=>by rw [g3,if_neg (by omega)]; exact hno2 z (by omega) (by omega),fun hz=>.inl (by rw [g3,if_neg (by omega)]; exact hno2 _ (by omega) (by omega))⟩) h2 (by omega)
        obtain ⟨v1,v2⟩:=z5N b vs
        have haf:=af_41 (N:=n) (st:=[]) (vs:=varsA b vs) (L:=L) (a:=((pos+2+q.length+k.length:Nat):Int)) (A:=(vs.length:Int)) ⟨by omega,by omega⟩
        rw [Int.toNat_natCast,v2] at haf
        obtain ⟨M5,s5,g5,k5⟩:=Wk.one (pos:=pos+2+q.length+k.length) hn hl hA4.left g4 haf hS (by simp) (by simp) (by simp) ⟨fun k h1 h2=>by omega,fun _=>.inl (by rw [k4 _ (.inr (by omega)),g3,if_neg (by omega)]; exact hno2 _ (by omega) (by omega))⟩
        obtain ⟨M6,s6,g6⟩:=zcB (s:=[]) (i:=pos+2+q.length+k.length+1) (A:=pos+5+q.length+k.length+j.length) hn hl hA5.left.get g5 hS (by omega) (fun h=>absurd h (by omega))
          (by unfold Fr; rw [k5 _ (.inr (by omega)),k4 _ (.inr (by omega)),g3,if_neg (by omega),k2 _ (.inr (by omega)),k1 _ (.inr (by omega)),show pos+5+q.length+k.length+j.length=pos+(5+q.length+k.length+j.length) by omega]; exact hF.2 (by omega))
        rw [show pos+2+q.length+k.length+1+1=pos+4+q.length+k.length by omega] at s6 hA6 hA7
        obtain ⟨M7,s7,g7,k7⟩ : Wk n m (pos+4+q.length+k.length) M6 j.length ⟨[],varsA e vs,L⟩:=by
          rw [← hj]
          exact walkB hn hl e (pos+4+q.length+k.length) M6 vs L hre2 (by rw [hj]; exact hA6.left) (by rw [g6,if_neg (by omega),k5 _ (.inr (by omega)),k4 _ (.inr (by omega)),g3,if_pos (.inr rfl)])
            (by rw [hj]; exact ⟨fun z z1 z2=>by rw [g6,if_neg (by omega),k5 _ (.inr (by omega)),k4 _ (.inr (by omega)),g3,if_neg (by omega)]; exact hno2 z (by omega) (by omega),fun hz=>.inl (by rw [g6,if_neg (by omega),k5 _ (.inr (by omega)),k4 _ (.inr (by omega)),g3,if_neg (by omega)]; exact hno2 _ (by omega) (by omega))⟩) h2 (by omega)
        obtain ⟨w1,w2⟩:=z5N e vs
        have haf2:=af_41 (N:=n) (st:=[]) (vs:=varsA e vs) (L:=L) (a:=((pos+4+q.length+k.length+j.length:Nat):Int)) (A:=(vs.length:Int)) ⟨by omega,by omega⟩
        rw [Int.toNat_natCast,w2] at haf2
        obtain ⟨M8,s8,g8,k8⟩:=Wk.one (pos:=pos+4+q.length+k.length+j.length) hn hl hA7 g7 haf2 hS (by simp) (by simp) (by simp) ⟨fun k h1 h2=>by omega,fun _=>.inr (by rw [k7 _ (.inr (by omega)),g6,if_pos (by omega)])⟩
        refine ⟨M8,?_,?_,fun z hz=>?_⟩
        · have:=((((((s1.trans s2).trans s3).trans s4).trans s5).trans s6).trans s7).trans s8
          rwa [show pos+4+q.length+k.length+j.length+1=pos+(5+q.length+k.length+j.length) by omega] at this
        · rw [show pos+(5+q.length+k.length+j.length)=pos+4+q.length+k.length+j.length+1 by omega]; exact g8
        · rw [k8 _ (by omega),k7 _ (by omega),g6,if_neg (by omega),k5 _ (by omega),k4 _ (by omega),g3,if_neg (by omega),k2 _ (by omega),k1 _ (by omega)]
      · rw [cSo _ _ _ h5 h6] at hA hF ⊢
        rw [List.length_append,List.length_append,List.length_cons,List.length_nil,List.length_cons,List.length_nil,Nat.zero_add] at hF ⊢
        exact zf6 (s:=⟨kind,slot,nn,name,x,b,e⟩) hn hl (hre h6) hst h5 h6 hA hM hF (by simp only; omega) h2 (by omega)
theorem walkB {n:Nat} {m:zH} (hn:100000≤n) (hl:m.Code.length<90000):∀ (l:List z7) (pos:Nat) (M:MT) (vs L:List Int),rB l vs→At m.Code pos (cB l pos vs.length)→mget M (pos:Int)=some ⟨[],vs,L⟩→Fh M pos (cB l pos vs.length).length ⟨[],varsA l vs,L⟩→vs.length≤200→L.length+z1y l<40000→
    Wk n m pos M (cB l pos vs.length).length ⟨[],varsA l vs,L⟩
  | [], pos, M, vs, L, hr, hA, hM, hF, h2, h3 => by
    simp only [cB,List.length_nil]
    exact Wk.nil hM
  | s :: r, pos, M, vs, L, hr, hA, hM, hF, h2, h3 => by
    simp only [rB] at hr
    simp only [z1y] at h3
    have hs:=z5o s
    have e:varsA (s::r) vs=varsA r (nextV s vs):=rfl
    have hd:(if s.Kind=1 then (vs.length:Int)+1 else vs.length)=((nextV s vs).length:Int):=by unfold nextV; split <;> simp
    have hv:(nextV s vs).length≤200:=by
      unfold nextV; split
      · rename_i h1
        have:=(((rS_eq s vs).1 hr.1).1.2.2.2.2.1 h1).2
        simp; omega
      · exact h2
    rw [e] at hF ⊢
    simp only [cB,hd] at hA hF ⊢
    by_cases h0:r=[]
    · subst h0
      simp only [cB,List.append_nil,varsA,List.foldl_nil] at hA hF ⊢
      exact walkS hn hl s pos M vs L hr.1 hA hM hF h2 (by omega)
    · have hrl:0<(cB r (pos+(cS s pos vs.length).length) (nextV s vs).length).length:=zmv r _ _ h0
      rw [List.length_append] at hF ⊢
      exact Wk.seq hF (walkS hn hl s pos M vs L hr.1 hA.left hM (hF.left hrl) h2 (by omega)) fun M' hM' hF'=>walkB hn hl r _ M' (nextV s vs) L hr.2 hA.right hM' hF' hv (by omega)
end
end Go.Proofs.YtgjcniomhahgkaaGreatDoor
