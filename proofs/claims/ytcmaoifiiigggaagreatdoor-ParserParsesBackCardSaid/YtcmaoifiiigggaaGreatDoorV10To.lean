/-
  Sources that are read are formed; tokens do not depend on offsets.
-/
import Derived.Test.YtcmaoifiiigggaaGreatDoorV10M22
import Derived.Test.YtcmaoifiiigggaaGreatDoorV10FaOwn
import Derived.Test.YtcmaoifiiigggaaGreatDoorV10M33
set_option linter.unusedSimpArgs false
set_option linter.unusedVariables false
namespace Go.Proofs.YtcmaoifiiigggaaGreatDoor
open Go.Abs Go.Ps Go.Lex
def QR (r:zQ):Prop:=formR r=true∧GdT (tokR1 r)
def QP (p:zL):Prop:=formP p=true∧GdT (tokP p)
def QPr (p:zI):Prop:=zw8 p=true∧GdT (tokPr p)
def QSrc (x:zG):Prop:=zvR x=true∧GdT (zvP x)
theorem zws {α:Type} {Q:α→Prop} {f:Option Tk→Nat→Ps α} (h:∀ t i,Sg Q (f t i)):Sg Q (.look f):=zvJ fun t i _=>h t i
theorem zxi (N:Nat):Sg (QCs false) (zaP N):=zw2 (zwS (fun _=>zw2 (zwS (fun h=>absurd h (by decide)) N) N) N) N
theorem zyw (N:Nat):Sg QR (ruleP N):=zws fun t i=>zvC (zw3 _ _) fun _ _=>zvC (zvO (by decide)) fun n hn=>zvC (zxi N) fun l hl=>zvF
 ⟨zx9 hl,zvG (zvL (t:=tW [114,117,108,101]) (gfix (by decide +kernel)) (zw9 (t:=tN n) hn)) (zwC (zyl hl))⟩
theorem zxW {e:Int} (h:zvW e=true):GdT [tW (wordE e)]:=by
 have hk:1≤e∧e≤6:=by
  unfold zvW at h
  simpa [Bool.and_eq_true] using h
 have all:∀ m:Fin 6,tW (wordE ((m.val:Int)+1))∈fixL:=by decide +kernel
 have:=all ⟨(e - 1).toNat,by omega⟩
 have e' : (((e - 1).toNat:Nat):Int)+1=e:=by omega
 dsimp only at this
 rw [e'] at this
 exact zvI this
theorem zwT:Sg (fun e=>zvW e=true) z62:=zws fun t i=>zvE (fun h=>zvD (zvF (by
 have hlt:z7I.idxOf (textO t)<6:=List.idxOf_lt_length_iff.2 h.2
 unfold zvW
 rw [decide_eq_true (show (1:Int)≤(z7I.idxOf (textO t):Int)+1 by omega),decide_eq_true (show (z7I.idxOf (textO t):Int)+1≤6 by omega)]; rfl))) fun _=>zw0
theorem zyb {l:List Int} (h:∀ e∈l,zvW e=true):GdT (jn effT 0 l):=by
 rw [zxY]
 refine zwk fun p hp=>?_
 obtain ⟨x,j⟩:=p
 have hx:=h x (List.fst_mem_of_mem_zipIdx hp)
 unfold effT
 refine zvG (a:=[_]) ?_ (zxW hx)
 split
 ·exact zvI (by decide +kernel)
 ·exact zvI (by decide +kernel)
theorem zyI {x:zG} {p:zL} (hx:QSrc x) (hp:QP p):QSrc ⟨x.Policies++[p],x.Programs⟩:=by
 unfold QSrc zvR zvP at hx ⊢
 rw [Bool.and_eq_true] at hx
 dsimp only
 refine ⟨?_,?_⟩
 ·rw [List.all_append,hx.1.1,hx.1.2,List.all_cons,hp.1]; rfl
 ·rw [List.flatMap_append]
  refine zvG (zvG (fun t ht=>hx.2 t (List.mem_append_left _ ht)) ?_) (fun t ht=>hx.2 t (List.mem_append_right _ ht))
  rw [List.flatMap_cons,List.flatMap_nil,List.append_nil]; exact hp.2
theorem zyo {x:zG} {p:zI} (hx:QSrc x) (hp:QPr p):QSrc ⟨x.Policies,x.Programs++[p]⟩:=by
 unfold QSrc zvR zvP at hx ⊢
 rw [Bool.and_eq_true] at hx
 dsimp only
 refine ⟨?_,?_⟩
 ·rw [List.all_append,hx.1.1,hx.1.2,List.all_cons,hp.1]; rfl
 ·rw [List.flatMap_append]
  refine zvG (fun t ht=>hx.2 t (List.mem_append_left _ ht)) (zvG (fun t ht=>hx.2 t (List.mem_append_right _ ht)) ?_)
  rw [List.flatMap_cons,List.flatMap_nil,List.append_nil]; exact hp.2
theorem zwt (N:Nat):∀ (f:Nat) (x:zG),QSrc x→Sg QSrc (zaK N f x)
  | 0,_,_=>zw0
  | f + 1, x, hx => by
    refine zws fun t i=>?_
    cases t with
    | none=>exact zvF hx
    | some u =>
      dsimp only
      refine zvE (fun _=>zvD (zvC (zvO (by decide)) fun n hn=>zvC (zw2 (zyw N) N) fun l hl=>zwt N f _ (zyI hx ⟨?_,?_⟩))) fun _=>?_
      · unfold formP; rw [List.all_eq_true]; exact fun r hr=>(hl r hr).1
      · exact zvG (zvL (t:=tW [112,111,108,105,99,121]) (gfix (by decide +kernel)) (zw9 (t:=tN n) hn)) (zwC (zwk fun r hr=>(hl r hr).2))
      refine zvE (fun _=>zvD (zvC (zvO (by decide)) fun n hn=>zws fun u j=>zvC (Q:=fun es:List Int=>∀ e∈es,zvW e=true) ?_ fun es hes=>zvC (zw2 (zxL (zxK N N) N N) N) fun c hc=>zwt N f _ (zyo hx ⟨?_,?_⟩))) fun _=>zw0
      · refine zvE (fun _=>zvD (zvC zwT fun e he=>fun i ts hts=>?_)) fun _=>zvF fun e he=>absurd he List.not_mem_nil
        have:=zwU zwT N [e] (by simp) (fun z hz=>by rw [List.mem_singleton.1 hz]; exact he) i ts hts
        revert this
        cases (listP z62 N [e]).run i ts with
        | ok a j r=>exact fun h=>h.2
        | bad j r=>exact fun h=>h
      · unfold zw8
        rw [List.all_eq_true.2 hes,zwD (l:=c) hc]; rfl
      · exact zvG (zvG (zvL (t:=tW [112,114,111,103,114,97,109]) (gfix (by decide +kernel)) (zw9 (t:=tN n) hn)) (zyb hes)) (zwC (zxa (l:=c) hc))
theorem zxD {s:List UInt8} (hs:s.length≤3000):∀ t∈tks (tokR s).1 0,Gt t:=by
 intro t ht
 refine ⟨?_,Nat.le_trans (zqC s t ht) hs⟩
 by_cases h0:(tokR s).2.E=0
 ·obtain ⟨L,hL,e⟩:=zfz h0
  obtain ⟨_,_,htok⟩:=zoK hL
  rw [zbZ] at ht
  obtain ⟨y,hy,rfl⟩:=List.mem_map.1 ht
  rw [e] at hy
  exact zln (s:=s) htok y hy
 ·rcases zgT s with ⟨_,h2⟩ | ⟨a,e,h1,h2⟩
  ·rw [h2] at h0; exact absurd rfl h0
  ·rw [h1] at ht; exact absurd ht List.not_mem_nil
theorem zy7 (g:Int→Int) (x:E) (t:List Lx):clos (atE g x) t=clos x t:=by
 obtain ⟨op,a,s,l⟩:=x
 rw [atE]
 unfold clos
 rw [zhS]
 dsimp only
 rw [List.length_map]
theorem zwI (g:Int→Int) (l:List E) (ts:List (List Lx)) (i:Nat):zaQ (atEs g l) ts i=zaQ l ts i:=by
  unfold zaQ
  rw [zhS,List.getElem?_map]
  cases l[i]? with
  | none=>rfl
  | some x =>
    rw [Option.map_some]
    cases ts[i]? with
    | none=>rfl
    | some t=>exact zy7 g x t
mutual
theorem zxM (g:Int→Int):∀ x:E,tokE (atE g x)=tokE x
  | ⟨op, a, s, l⟩ => by
    rw [atE,tokE,tokE,zxn g l]
    unfold bodyE
    rw [zwI,zwI]
theorem zxn (g:Int→Int):∀ l:List E,tokEs (atEs g l)=tokEs l
 | []=>rfl
 | x::r=>by rw [atEs,tokEs,tokEs,zxM g x,zxn g r]
end
mutual
theorem zx4 (g:Int→Int):∀ x:E,formE (atE g x)=formE x
 | ⟨op,a,s,l⟩=>by rw [atE,formE,formE,zwJ g l,zhS,List.length_map]
theorem zwJ (g:Int→Int):∀ l:List E,znT (atEs g l)=znT l
 | []=>rfl
 | x::r=>by rw [atEs,znT,znT,zx4 g x,zwJ g r]
end
theorem zyh (g:Int→Int) (s:St):(atS g s).Kind=s.Kind:=by obtain ⟨k,a,n,x,b,e⟩:=s; rw [atS]
theorem op_at (g:Int→Int) (x:E):(atE g x).Op=x.Op:=by obtain ⟨op,a,s,l⟩:=x; rw [atE]
theorem zyf (g:Int→Int):∀ l:List St,isIf (atSs g l)=isIf l
 | []=>rfl
 | [s]=>by rw [atSs,atSs]; show decide ((atS g s).Kind=5)=decide (s.Kind=5); rw [zyh]
 | _::_::_=>rfl
mutual
theorem zyz (g:Int→Int):∀ x:St,tokS (atS g x)=tokS x
  | ⟨k, a, n, x, b, e⟩ => by
    rw [atS,tokS,tokS,zwx g b,zwx g e]
    unfold bodyS elseT
    rw [zyf,zxM,z6Z (l:=e),List.length_map]
theorem zwx (g:Int→Int):∀ l:List St,tokSs (atSs g l)=tokSs l
 | []=>rfl
 | x::r=>by rw [atSs,tokSs,tokSs,zyz g x,zwx g r]
end
mutual
theorem zxT (g:Int→Int):∀ x:St,formS (atS g x)=formS x
  | ⟨k, a, n, x, b, e⟩ => by
    rw [atS,formS,formS,zwb g b,zwb g e,zx4,op_at,z6Z,z6Z,List.length_map,List.length_map]
theorem zwb (g:Int→Int):∀ l:List St,zvK (atSs g l)=zvK l
 | []=>rfl
 | x::r=>by rw [atSs,zvK,zvK,zxT g x,zwb g r]
end
mutual
theorem zyy (g:Int→Int):∀ x:Cl,tokC (atC g x)=tokC x
 | ⟨k,a,n,t,am,d,h,c⟩=>by rw [atC,tokC,tokC,zwG g c]; rfl
theorem zwG (g:Int→Int):∀ l:List Cl,tokCs (atCs g l)=tokCs l
 | []=>rfl
 | x::r=>by rw [atCs,tokCs,tokCs,zyy g x,zwG g r]
end
mutual
theorem zxS (g:Int→Int):∀ (b:Bool) (x:Cl),formC b (atC g x)=formC b x
 | b,⟨k,a,n,t,am,d,h,c⟩=>by rw [atC,formC,formC,zwn g true c,zdS,List.length_map]; rfl
theorem zwn (g:Int→Int):∀ (b:Bool) (l:List Cl),zvT b (atCs g l)=zvT b l
 | _,[]=>rfl
 | b,x::r=>by rw [atCs,zvT,zvT,zxS g b x,zwn g b r]
end
theorem zgm {α:Type} {f:α→List Lx} {g:α→α} (h:∀ x,f (g x)=f x) (l:List α):(l.map g).flatMap f=l.flatMap f:=by
 induction l with
 | nil=>rfl
 | cons x r ih=>rw [List.map_cons,List.flatMap_cons,List.flatMap_cons,h,ih]
theorem zxO {α:Type} {f:α→Bool} {g:α→α} (h:∀ x,f (g x)=f x) (l:List α):(l.map g).all f=l.all f:=by
 induction l with
 | nil=>rfl
 | cons x r ih=>rw [List.map_cons,List.all_cons,List.all_cons,h,ih]
theorem zww (g:Int→Int) (x:zG):zvP (atSrc g x)=zvP x:=by
 have h1:∀ r,tokR1 (atR g r)=tokR1 r:=fun r=>by unfold tokR1 atR; dsimp only; rw [zwG]
 have h2:∀ p,tokP (atP g p)=tokP p:=fun p=>by unfold tokP atP; dsimp only; rw [zgm h1]
 have h3:∀ p,tokPr (atPr g p)=tokPr p:=fun p=>by unfold tokPr atPr; dsimp only; rw [zwx]
 unfold zvP atSrc
 dsimp only
 rw [zgm h2,zgm h3]
theorem zwf (g:Int→Int) (x:zG):zvR (atSrc g x)=zvR x:=by
 have h1:∀ r,formR (atR g r)=formR r:=fun r=>by unfold formR atR; dsimp only; rw [zwn]
 have h2:∀ p,formP (atP g p)=formP p:=fun p=>by unfold formP atP; dsimp only; rw [zxO h1]
 have h3:∀ p,zw8 (atPr g p)=zw8 p:=fun p=>by unfold zw8 atPr; dsimp only; rw [zwb]
 unfold zvR atSrc
 dsimp only
 rw [zxO h2,zxO h3]
theorem zxy {N:Nat} {s:List UInt8} (hs:s.length≤3000):QSrc (z4K N s).1:=by
  have z:QSrc ⟨[],[]⟩:=⟨rfl,zwz⟩
  unfold z4K outL outR
  split
  · exact z
  split
  · exact z
  split
  · exact z
  have h:=zwt N N ⟨[],[]⟩ z 0 (tks (tokR s).1 0) (zxD hs)
  have e:run' (tokR s).1 (srcP N) 0=(zaK N N ⟨[],[]⟩).run 0 (tks (tokR s).1 0):=rfl
  rw [e]
  revert h
  cases (zaK N N ⟨[],[]⟩).run 0 (tks (tokR s).1 0) with
  | bad j r=>exact fun _=>z
  | ok a j r =>
    intro h
    dsimp only at h ⊢
    split
    · exact z
    · unfold QSrc
      rw [zwf,zww]
      exact h
theorem zwZ {N:Nat} {s:List UInt8}:szSrc (z4K N s).1≤(tokR s).1.length:=by
  unfold z4K outL outR
  split
  · exact Nat.zero_le _
  split
  · exact Nat.zero_le _
  split
  · exact Nat.zero_le _
  cases h:run' (tokR s).1 (srcP N) 0 with
  | bad j r=>exact Nat.zero_le _
  | ok a j r =>
    dsimp only
    split
    · exact Nat.zero_le _
    · rw [zke]; exact zhG h
end Go.Proofs.YtcmaoifiiigggaaGreatDoor
