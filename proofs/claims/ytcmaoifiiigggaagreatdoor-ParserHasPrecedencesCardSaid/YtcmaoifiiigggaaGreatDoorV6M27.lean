/-
  Texts that stand side by side: Pz, P6, AbsEnd, AbsEnd3, AbsEnd4, AbsEnd5, AbsLaid, AbsByte3, LaidPs.
-/
import Derived.Test.YtcmaoifiiigggaaGreatDoorFq
import Derived.Test.YtcmaoifiiigggaaGreatDoorV6M24
import Derived.Test.YtcmaoifiiigggaaGreatDoorV6W6
import Derived.Test.YtcmaoifiiigggaaGreatDoorM0
import Derived.WalkKit
import Derived.ProofKit
import Derived.OpenShut
import Derived.ShutString
import Derived.ChangeOld
import Derived.Below
import Derived.SliceStrings
import Derived.Test.YtcmaoifiiigggaaGreatDoorM1
import Derived.ChangeArms
import Derived.Test.YtcmaoifiiigggaaGreatDoorM2
import Derived.LaidHandle
import Derived.Deep.DeepHandedRow
import Derived.Test.YtcmaoifiiigggaaGreatDoorRows
import Derived.Test.YtcmaoifiiigggaaGreatDoorChecked
set_option linter.unusedSimpArgs false
set_option linter.unusedVariables false
namespace Go.Proofs.YtcmaoifiiigggaaGreatDoor
open Go.Abs
set_option maxRecDepth 100000
theorem sane (n:Nat):z1X (n+40)=some true:=by kernel_rfl
end Go.Proofs.YtcmaoifiiigggaaGreatDoor
namespace Go.Proofs.YtcmaoifiiigggaaGreatDoor
open Go.Abs Go.Ps Go.Lex
def nmL:List (List UInt8):=[[97],[98],[99]]
theorem zkj (o:Int) (h:o∈opL):zcr o=some (wd o):=by
 revert o
 decide
theorem zsJ:∀ a∈nmL,Tok kwP 1 a:=by
 intro a ha
 have h:a=[97]∨a=[98]∨a=[99]:=by simpa [nmL] using ha
 rcases h with rfl | rfl | rfl
 ·exact zgU (s:=[97]) (q:=[]) (r:=[]) rfl (by decide)
 ·exact zgU (s:=[98]) (q:=[]) (r:=[]) rfl (by decide)
 ·exact zgU (s:=[99]) (q:=[]) (r:=[]) rfl (by decide)
theorem zuv:∀ o∈opL,Tok kwP (opT o).1 (opT o).2:=by
 intro o ho
 have h:o=22∨o=21∨o=10∨o=11∨o=12∨o=13∨o=14:=by simpa [opL] using ho
 rcases h with rfl | rfl | rfl | rfl | rfl | rfl | rfl
 ·exact zgU (s:=[111,114]) (b:=111) (q:=[114]) (r:=[]) rfl (by decide)
 ·exact zgU (s:=[97,110,100]) (b:=97) (q:=[110,100]) (r:=[]) rfl (by decide)
 ·exact zgU (s:=[43]) (b:=43) (q:=[]) (r:=[]) rfl (by decide)
 ·exact zgU (s:=[45]) (b:=45) (q:=[]) (r:=[]) rfl (by decide)
 ·exact zgU (s:=[42]) (b:=42) (q:=[]) (r:=[]) rfl (by decide)
 ·exact zgU (s:=[47]) (b:=47) (q:=[]) (r:=[]) rfl (by decide)
 ·exact zgU (s:=[37]) (b:=37) (q:=[]) (r:=[]) rfl (by decide)
def VN (l:Its):Prop:=∀ x∈l,x.2∈nmL
def gapL:Its→List (List UInt8×Int×List UInt8)
 | []=>[]
 | (o,b)::r=>([32],(opT o).1,(opT o).2)::([32],1,b)::gapL r
theorem zmc:∀ l:Its,(gapL l).map (·.2)=TL l
 | []=>rfl
 | (o,b)::r=>by simp only [gapL,List.map_cons,zmc r,TL]
theorem zsY (o:Int):wrL (opT o).1 (opT o).2=(wd o).1:=by
 have h:(opT o).1≠4:=by
  unfold opT
  dsimp only
  split <;> decide
 exact if_neg h
theorem zpC:∀ (l:Its) (a:List UInt8),a++catL (gapL l)=txO a l
  | [],a=>by simp [gapL,catL,txO]
  | (o, b) :: r, a => by
    have:=zpC r b
    simp only [gapL,catL,txO,zsY,← this,show wrL 1 b=b from rfl,List.append_assoc]
theorem zrv (l:Its) (hv:VL l) (hn:VN l):∀ x∈gapL l,(GapOk x.1∧Tok kwP x.2.1 x.2.2)∧zjK x.1:=by
  induction l with
  | nil=>intro x hx; cases hx
  | cons w r ih =>
    obtain ⟨o,b⟩:=w
    intro x hx
    rcases List.mem_cons.1 hx with rfl | hx
    · exact ⟨⟨zhu,zuv o (hv _ (List.mem_cons_self ..))⟩,zgn⟩
    rcases List.mem_cons.1 hx with rfl | hx
    · exact ⟨⟨zhu,zsJ b (hn _ (List.mem_cons_self ..))⟩,zgn⟩
    exact ih (fun y hy=>hv y (List.mem_cons_of_mem _ hy)) (fun y hy=>hn y (List.mem_cons_of_mem _ hy)) x hx
theorem zqF (a:List UInt8) (ha:a∈nmL) (l:Its) (hv:VL l) (hn:VN l):∃ T,tokR (txO a l)=(T,⟨0,0⟩)∧T.map tk=(1,a)::TL l:=by
 have h:=zrv l hv hn
 obtain ⟨L,h1,h2⟩:=zno kwP (([],1,a)::gapL l) (fun x hx=>by
  rcases List.mem_cons.1 hx with rfl | hx
  ·exact ⟨zi3,zsJ a ha⟩
  ·exact (h x hx).1) (fun x hx=>(h x hx).2) ((catL (([],1,a)::gapL l)).length+1) (Nat.lt_succ_self _)
 have e:catL (([],1,a)::gapL l)=txO a l:=by
  show []++(wrL 1 a++catL (gapL l))=_
  rw [List.nil_append,show wrL 1 a=a from rfl,zpC]
 rw [e] at h1
 refine ⟨L.map (mkT (txO a l).length),zjD h1,?_⟩
 rw [List.map_map]
 have:L.map (tk ∘ mkT (txO a l).length)=L.map fun x=>(x.1,x.2.2):=rfl
 rw [this,h2,List.map_cons,zmc]
theorem zoX:∀ (l:Its) (hv:VL l) (i:Nat),deepT (TL l) 0 i = -1
  | [],_,_=>rfl
  | (o, b) :: r, hv, i => by
    have h:∀ o∈opL,opn (opT o)=0:=by decide
    have h1:=h o (hv _ (List.mem_cons_self ..))
    show deepT (opT o::(1,b)::TL r) 0 i = -1
    unfold deepT
    rw [if_neg (by decide),h1]
    show deepT ((1,b)::TL r) 0 (i+1) = -1
    unfold deepT
    rw [if_neg (by decide)]
    exact zoX r (fun y hy=>hv y (List.mem_cons_of_mem _ hy)) (i+1+1)
theorem zux:∀ (p:Its) (a:List UInt8) (o:Int) (b:List UInt8) (q:Its),(txO a (p++(o,b)::q)).length=(txO a p).length+1+(wd o).1.length+1+(txO b q).length:=by
 intro p a o b q
 rw [zns]
 simp only [List.length_append,List.length_cons,List.length_nil]
theorem sx_at (g:Int→Int) (x:E):sx (atE g x)=sx x:=by
 obtain ⟨op,i,s,l⟩:=x
 match l with
 | []=>rfl
 | [_]=>rfl
 | [_,_]=>rfl
 | _::_::_::_=>rfl
theorem zgR (x:E) (h:x.Args.length=2→x.Op∈opL):z8l x=some (sx x):=by
  obtain ⟨op,i,s,l⟩:=x
  unfold z8l
  match l,h with
  | [],_=>rfl
  | [_],_=>rfl
  | [_, _], h =>
    have:=zkj op (h rfl)
    simp only [List.length_cons,List.length_nil,ne_eq,show ¬¬(((0+1+1:Nat):Int)=2) from fun q=>q rfl,decide_false,cond_false,this,ob]
    rfl
  | a :: b :: c :: r, _ =>
    have h3:((a::b::c::r).length:Int)≠2:=by simp; omega
    simp only [h3,decide_true,cond_true]
    rfl
theorem gd_op {x:E} {a:List UInt8} {l:Its} (h:Gd x a l) (g:Int→Int):(atE g x).Args.length=2→(atE g x).Op∈opL:=by
 cases h with
 | leaf i a=>intro q; simp [atE,atEs] at q
 | node o i y z a b p q h1 h2 h3 h4 h5=>exact fun _=>h5
theorem zpJ (g:Int→Int) {x:E} {a:List UInt8} {l:Its} (h:Gd x a l):∀ n,l.length<n→(txO a l).length≤100000→zcq n (atE g x)=some (txO a l,true):=by
  induction h with
  | leaf i a =>
    intro n hn _
    obtain ⟨n,rfl⟩ : ∃ k,n=k+1:=⟨n - 1,by omega⟩
    rfl
  | node o i y z a b p q h1 h2 h3 h4 h5 i1 i2 =>
    intro n hn hlen
    obtain ⟨n,rfl⟩ : ∃ k,n=k+1:=⟨n - 1,by omega⟩
    rw [zux] at hlen
    have e1:=i1 n (by simp only [List.length_append,List.length_cons] at hn; omega) (by omega)
    have e2:=i2 n (by simp only [List.length_append,List.length_cons] at hn; omega) (by omega)
    have s1:=zgR _ (gd_op h1 g)
    have s2:=zgR _ (gd_op h2 g)
    rw [sx_at] at s1 s2
    show z9a n (zcq n) ⟨o,g i,[],[atE g y,atE g z]⟩=_
    unfold z9a
    simp only [List.length_cons,List.length_nil,ne_eq,show ¬¬(((0+1+1:Nat):Int)=2) from fun q=>q rfl,decide_false,cond_false]
    rw [show (0:Int)=((0:Nat):Int) from rfl,z4e (x:=atE g y) rfl]
    simp only [e1,ob]
    rw [show (1:Int)=((1:Nat):Int) from rfl,z4e (x:=atE g z) rfl]
    simp only [e2,ob,zkj o h5]
    rw [z1n (by omega),z1n (by simp only [List.length_append,List.length_cons,List.length_nil]; omega),z1n (by simp only [List.length_append,List.length_cons,List.length_nil]; omega),z1n (by simp only [List.length_append,List.length_cons,List.length_nil]; omega)]
    have d1:decide ((wd o).2≤sx y)=true:=decide_eq_true h3
    have d2:decide ((wd o).2<sx z)=true:=decide_eq_true h4
    simp only [s1,s2,ob,Bool.and_self,cond_true,d1,d2,bJ]
    rw [zns]
def opO (b:UInt8):Int:=([22,21,10,11,12,13,14]:List Int)[b.toNat % 7]?.getD 0
def nmO (i:Nat):List UInt8:=nmL[i % 3]?.getD []
def itsL:Nat→List UInt8→Its
 | _,[]=>[]
 | i,b::r=>(opO b,nmO i)::itsL (i+1) r
theorem zoW (b:UInt8):([22,21,10,11,12,13,14]:List Int)[b.toNat % 7]? = some (opO b):=by
 unfold opO
 have h:b.toNat % 7<7:=Nat.mod_lt _ (by decide)
 rw [List.getElem?_eq_getElem (by simpa using h)]; rfl
theorem zmI (b:UInt8):opO b∈opL:=List.mem_of_getElem? (zoW b)
theorem zoU (i:Nat):([[97],[98],[99]]:List (List UInt8))[i % 3]? = some (nmO i):=by
 unfold nmO nmL
 have h:i % 3<3:=Nat.mod_lt _ (by decide)
 rw [List.getElem?_eq_getElem (by simpa using h)]; rfl
theorem zoV (i:Nat):nmO i∈nmL:=List.mem_of_getElem? (zoU i)
theorem zrC:∀ (r:List UInt8) (i:Nat),VL (itsL i r)∧VN (itsL i r)∧(itsL i r).length=r.length
  | [],_=>⟨fun x h=>absurd h List.not_mem_nil,fun x h=>absurd h List.not_mem_nil,rfl⟩
  | b :: r, i => by
    obtain ⟨h1,h2,h3⟩:=zrC r (i+1)
    refine ⟨fun x hx=>?_,fun x hx=>?_,by simp [itsL,h3]⟩
    · rcases List.mem_cons.1 hx with rfl | hx
      · exact zmI b
      · exact h1 x hx
    · rcases List.mem_cons.1 hx with rfl | hx
      · exact zoV i
      · exact h2 x hx
theorem zsU:∀ o∈opL,(wd o).1.length≤3:=by decide
theorem zrV:∀ a∈nmL,a.length=1:=by decide
theorem tx_le:∀ (l:Its) (a:List UInt8),VL l→VN l→a.length=1→(txO a l).length≤1+6*l.length
  | [],a,_,_,h=>by simp [txO]; omega
  | (o, b) :: r, a, hv, hn, h => by
    have h1:=tx_le r b (fun y hy=>hv y (List.mem_cons_of_mem _ hy)) (fun y hy=>hn y (List.mem_cons_of_mem _ hy)) (zrV b (hn _ (List.mem_cons_self ..)))
    have h2:=zsU o (hv _ (List.mem_cons_self ..))
    simp only [txO,List.length_append,List.length_cons,List.length_nil]
    omega
theorem zjC (l:List UInt8) (hl:l.length≤40):∀ (n i:Nat) (t:List UInt8),i≤l.length→l.length - i<n→t.length≤10000+6*i→iter (z3o l) n (t,(i:Int))=some (.go (t++catL (gapL (itsL i (l.drop i)))))
  | 0,_,_,_,h,_=>absurd h (Nat.not_lt_zero _)
  | n + 1, i, t, hi, hn, ht => by
    by_cases h:i<l.length
    · have e:=List.getElem?_eq_getElem h
      have hw:=zkj _ (zmI l[i])
      have h1:=zsU _ (zmI l[i])
      have h2:=zrV _ (zoV i)
      have h3:=zjC l hl n (i+1) (t++((([32]++(wd (opO l[i])).1)++[32])++nmO i)) h (by omega) (by simp only [List.length_append,List.length_cons,List.length_nil]; omega)
      rw [z4f (s':=(t++((([32]++(wd (opO l[i])).1)++[32])++nmO i),((i+1:Nat):Int)))]
      · rw [h3,List.drop_eq_getElem_cons h,itsL,gapL,catL,catL,zsY,show wrL 1 (nmO i)=nmO i from rfl]
        simp only [List.append_assoc]
      · unfold z3o
        simp only [Int.ofNat_lt,h,decide_true,cond_true,z4e e]
        rw [show (((l[i].toNat:Nat):Int).tmod 7)=((l[i].toNat % 7:Nat):Int) from rfl,z4e (zoW _)]
        simp only [hw,ob]
        rw [z1n (by simp only [List.length_append,List.length_cons,List.length_nil]; omega),z1n (by simp only [List.length_append,List.length_cons,List.length_nil]; omega)]
        rw [show ((i:Int).tmod 3)=((i % 3:Nat):Int) from rfl,z4e (zoU _)]
        rw [z1n (by simp only [List.length_append,List.length_cons,List.length_nil]; omega),z1n (by simp only [List.length_append,List.length_cons,List.length_nil]; omega),zdc (j:=i) (by omega)]
    · rw [z1z (r:=.go t)]
      · rw [List.drop_eq_nil_of_le (by omega)]
        simp [itsL,gapL,catL]
      · unfold z3o
        simp only [Int.ofNat_lt,h,decide_false,cond_false]
theorem law6 (l:List UInt8) (_:l.length≤maxLen∧∀ a∈l,a=a):∃ m,z5r m l=some true:=by
  obtain ⟨n,hn,hsane⟩ : ∃ n,1000000<n∧z1X n=some true:=⟨2000000+40,by omega,sane _⟩
  refine ⟨n,?_⟩
  unfold z5r
  rw [hsane]
  by_cases hbig:40<l.length
  · rw [decide_eq_true (by omega)]; rfl
  rw [decide_eq_false (by omega),cond_false]
  have h1:=zjC l (by omega) n 0 [97] (Nat.zero_le _) (by omega) (by simp)
  have h1' : iter (z3o l) n ([97],0)=_:=h1
  obtain ⟨hv,hnm,hlen⟩:=zrC l 0
  rw [h1',List.drop_zero,zpC]
  obtain ⟨T,ht,hk⟩:=zqF [97] (by decide) (itsL 0 l) hv hnm
  have htl:=tx_le (itsL 0 l) [97] hv hnm rfl
  obtain ⟨x,p1,p2,e1,e2,e3,e4,e5⟩:=znM (N:=65537) (f:=65537) (m:=100) (by omega) (by omega) 0 [97] (itsL 0 l) hv (by omega)
  have hp2:p2=[]:=by
    cases p2 with
    | nil=>rfl
    | cons w r =>
      have:∀ o∈opL,¬ str o<1:=by decide
      exact absurd e5 (this _ (hv w (by rw [e1]; exact List.mem_append_right _ (List.mem_cons_self ..))))
  subst hp2
  rw [List.append_nil] at e1
  subst e1
  have hX:z8Z n (txO [97] (itsL 0 l))=some (atE (gA T) x,⟨0,0⟩):=by
    rw [zoE (N:=65537) _ hn (by omega)]
    unfold outL
    rw [if_neg (by omega)]
    unfold outR
    rw [ht,if_neg (show ¬((0:Int)≠0) by decide),zbZ,hk]
    have hd:deepT ((1,[97])::TL (itsL 0 l)) 0 0 = -1:=by
      unfold deepT
      rw [if_neg (by decide)]
      exact zoX _ hv 1
    rw [hd,if_neg (by decide)]
    have:run' T (exprP 65537 65537) 0 = .ok x (0+1+2*(itsL 0 l).length) (TL []):=by
      unfold run'
      rw [zbZ,hk]; exact e2
    rw [this]
    have hTl:T.length=1+2*(itsL 0 l).length:=by
      have:=congrArg List.length hk
      have h2:∀ l:Its,(TL l).length=2*l.length:=by
        intro l
        induction l with
        | nil=>rfl
        | cons w r ih=>obtain ⟨o,b⟩:=w; simp only [TL,List.length_cons,ih]; omega
      simp only [List.length_map,List.length_cons,h2] at this
      omega
    dsimp only
    rw [if_neg (by omega)]
  have hF:=zpJ (gA T) e3 n (by omega) (by omega)
  show (bindJ (some (Lp.go _)) fun text_5=>_)=_
  rw [bJ,hX]
  simp only [ob,hF,decide_true,Bool.and_self]
end Go.Proofs.YtcmaoifiiigggaaGreatDoor
namespace Go.Abs
open Go.Sem Go.ChangeShapes Go.RowKit
theorem Meets.law {P:Program} {f:FuncId} {args:List Value} {H:List HA} (h:Meets P f args H (fun v G=>v = .bool true∧G=[])) {w:World} (hs:Sats w (fun _=>.no) H) :
  Calls P f args.toArray w fun e w'=>e = .returned (.bool true)∧Below w.heap.size w w':=by
 refine (h w (fun _=>.no) (fun _ _=>rfl) hs).mono fun e w' ⟨v,G,o',he,⟨hv,_⟩,_,ht,_⟩=>?_
 subst hv
 exact ⟨he,ht.os,ht.tape,ht.output,ht.size,fun k hk=>(ht.no k hk rfl).2⟩
theorem zck {w:World} {a:Option Addr} {len cap es:Nat} {cells:List (List Value)} (hcl:cells.length=len) (h1:len≤cap) (h2:cap≤maxLen) (h3:a=none→cap=0) (hes:0<es)
    (he:∀ c∈cells,c.length=es) (hc:∀ x,a=some x→∀ i c,cells[i]? = some c→∀ j v,c[j]? = some v→w.cell? (x.add (i*es+j))=some v) :
    z3V w (fun b=>(fun _=>Ow.no:Own) b = .no) (.slice a len cap) es cells:=by
  refine ⟨a,cap,by rw [hcl],by omega,h2,h3,?_⟩
  intro i c hi
  have hlen:=he c (List.mem_of_getElem? hi)
  cases a with
  | none =>
    have:=(List.getElem?_eq_some_iff.1 hi).1
    have:=h3 rfl
    omega
  | some x =>
    have e0:c[0]? = some (c[0]'(by omega)):=List.getElem?_eq_getElem (by omega)
    have h:=hc x rfl i c hi 0 _ e0
    have hs0:=World.cell?_spot h
    have hb:x.block<w.heap.size:=by
      unfold World.cell? at h
      have e:(x.add (i*es+0)).block=x.block:=by unfold Addr.add; split <;> rfl
      rw [e] at h
      cases hh:w.heap[x.block]? with
      | none=>rw [hh] at h; simp at h
      | some o=>exact (Array.getElem?_eq_some_iff.1 hh).1
    obtain ⟨b,off,spot⟩:=x
    refine ⟨hlen,b,off,?_,hb,rfl,?_⟩
    · cases spot with
      | none=>rfl
      | some q =>
        exfalso
        have hi0:∀ i c,cells[i]? = some c→i=0:=by
          intro i c hi
          false_or_by_contra
          have hlen:=he c (List.mem_of_getElem? hi)
          have hi00:cells[0]? = some (cells[0]'(by have:=(List.getElem?_eq_some_iff.1 hi).1; omega)):=List.getElem?_eq_getElem _
          have hl0:=he _ (List.mem_of_getElem? hi00)
          have h:=hc _ rfl 0 _ hi00 0 _ (List.getElem?_eq_getElem (by omega))
          have:=World.cell?_spot h
          simp [Addr.add] at this
        have:=hi0 i c hi
        subst this
        simp [Addr.add] at hs0
    · intro j v hj
      have h':=hc _ rfl i c hi j v hj
      have hsp:=World.cell?_spot h'
      rw [← h']
      congr 1
      unfold Addr.add at hsp ⊢
      split
      · rename_i h0
        rw [if_pos h0] at hsp
        simp only at hsp
        rw [hsp]
        have:off+i*es+j=off:=by omega
        rw [this]
      · rw [Nat.add_assoc]
theorem zl1 {w:World} {B:Nat→Prop} {es:Nat}:z3V w B (.slice none 0 0) es []:=⟨none,0,rfl,by simp,by unfold maxLen; omega,fun _=>rfl,fun i c h=>by simp at h⟩
end Go.Abs
namespace Go.Abs
open Go.Sem Go.ChangeShapes Go.RowKit
section
variable {H : Type} {enc : TypeId × Value → H} {P : Program} {w : World} {base : Nat} {sp : Nat → Bool} {held : Bool}
end
end Go.Abs
namespace Go.Abs
open Go.Sem Go.ChangeShapes Go.RowKit
section
variable {H : Type} {enc : TypeId × Value → H} {P : Program} {w : World} {base : Nat} {sp : Nat → Bool} {held : Bool}
def wfI (k:IntKind) (n:Int):Prop:=(Lit.int k n).wf=true
theorem wf8 {n:Int} (h:wfI .u8 n):0≤n∧n≤255:=by
 simp only [wfI,Lit.wf,Bool.and_eq_true,decide_eq_true_eq] at h; exact h
def Opens (enc:TypeId×Value→H) (P:Program) (w:World) (base:Nat) (sp:Nat→Bool) (held:Bool) (t:TypeId) {α:Type} (F:α→List Value) (wf:α→Prop):Prop:=
 ∀ (fuel:Nat) (cs:List Value) (x:DataW H×List MemPlace),DataW.trod enc P w base sp held fuel t cs=some x→∃ a,cs=F a∧wf a
theorem zs3 {t:TypeId} {k:IntKind} (ht:P.underlying t=some (.int k)):Opens enc P w base sp held t (eInt k) (wfI k):=by
 intro fuel cs x h
 obtain ⟨n,hc,_,hw⟩:=DataW.trod_int ht h
 exact ⟨n,hc,hw⟩
theorem zg5 {t e:TypeId} {es:Nat} {α:Type} {F:α→List Value} {wf:α→Prop} (ht:P.underlying t=some (.slice e)) (hce:P.cellsOf e=es) (hes:0<es) (hF:∀ a,(F a).length=es)
    (ho:Opens enc P w base sp held e F wf) {fuel:Nat} {cs:List Value} {x:DataW H×List MemPlace} (h:DataW.trod enc P w base sp held fuel t cs=some x) :
    ∃ (v : Value) (l : List α), cs = [v] ∧ (∀ a ∈ l, wf a) ∧ z3V w (fun b => (fun _ => Ow.no : Own) b = .no) v es (l.map F) ∧
      ((x=(.nil,[])∧l=[])∨∃ ys rs ps,x=(.slice ys rs,ps)∧ys.length=l.length):=by
  rcases DataW.trod_slice ht h with ⟨rfl,hx⟩ | ⟨a,len,cap,elems,rest,m,_,rfl,rfl,hb,hl,hm,hlen,hel',hsp,hns⟩
  · exact ⟨_,[],rfl,by simp,zl1,.inl ⟨hx,rfl⟩⟩
  · have each:∀ i,i<len→∃ d:α,wf d∧∀ j v,(F d)[j]? = some v→w.cell? (a.add (i*es+j))=some v:=by
      intro i hi
      have h1:=hel' i hi
      rw [List.getElem?_eq_getElem (by omega),hce,Option.bind_eq_some_iff] at h1
      obtain ⟨cs',hcs,hy⟩:=h1
      obtain ⟨d,rfl,hd⟩:=ho _ _ _ hy
      refine ⟨d,hd,fun j v hj=>?_⟩
      have hjlt:j<es:=by have:=(List.getElem?_eq_some_iff.1 hj).1; rw [hF] at this; omega
      have:=(World.cells?_some hcs).2.2 j hjlt
      rw [hj] at this
      rw [← this]
      congr 1
      unfold Addr.add
      by_cases e1:i*es=0
      · rw [if_pos e1]; simp [e1]
      · rw [if_neg e1,if_neg (by omega)]
        by_cases e2:j=0
        · simp [e2]
        · rw [if_neg e2]; simp [Nat.add_assoc]
    have hch:∃ l:List α,l.length=len∧∀ i d,l[i]? = some d→wf d∧∀ j v,(F d)[j]? = some v→w.cell? (a.add (i*es+j))=some v:=by
      clear hel' hlen hsp hns hl h
      induction len with
      | zero=>exact ⟨[],rfl,by simp⟩
      | succ k ih =>
        obtain ⟨l,hl1,hl2⟩:=ih (fun i hi=>each i (by omega))
        obtain ⟨d,hd1,hd2⟩:=each k (by omega)
        refine ⟨l++[d],by simp [hl1],fun i d' hi=>?_⟩
        by_cases hik:i<k
        · rw [List.getElem?_append_left (by omega)] at hi; exact hl2 i d' hi
        · rw [List.getElem?_append_right (by omega)] at hi
          have:i=k:=by have:=(List.getElem?_eq_some_iff.1 hi).1; simp at this; omega
          subst this
          rw [hl1,Nat.sub_self] at hi
          simp at hi
          subst hi
          exact ⟨hd1,hd2⟩
    obtain ⟨l,hl1,hl2⟩:=hch
    refine ⟨_,l,rfl,?_,?_,.inr ⟨_,_,_,rfl,by simp [hlen,hl1]⟩⟩
    · intro d hd
      obtain ⟨i,hi⟩:=List.getElem?_of_mem hd
      exact (hl2 i d hi).1
    · refine zck (by rw [List.length_map,hl1]) hl hm (by simp) hes ?_ ?_
      · intro c hc
        obtain ⟨d,hd,rfl⟩:=List.mem_map.1 hc
        exact hF d
      · intro x hx i c hi j v hj
        cases hx
        simp only [List.getElem?_map,Option.map_eq_some_iff] at hi
        obtain ⟨d,hd,rfl⟩:=hi
        exact (hl2 i d hd).2 j v hj
end
end Go.Abs
namespace Go.Abs
open Go.Sem Go.ChangeShapes Go.RowKit
section
variable {H : Type} {enc : TypeId × Value → H} {P : Program} {w : World} {base : Nat} {sp : Nat → Bool} {held : Bool}
def noO:Own:=fun _=>.no
theorem zl0 {t e:TypeId} (ht:P.underlying t=some (.slice e)) {fuel:Nat} {cs:List Value} {x:DataW H×List MemPlace} (h:DataW.trod enc P w base sp held fuel t cs=some x) {N:Nat}
  (hx:(x=(.nil,[])∧N=0)∨∃ ys rs ps,x=(.slice ys rs,ps)∧ys.length=N):N≤maxLen:=by
 rcases DataW.trod_slice ht h with ⟨_,h0⟩ | ⟨a,len,cap,elems,rest,m,_,_,h0,_,hl,hm,hlen,_⟩
 ·rcases hx with ⟨_,rfl⟩ | ⟨ys,rs,ps,h1,_⟩
  ·exact Nat.zero_le _
  ·rw [h0] at h1; cases h1
 ·rcases hx with ⟨h1,_⟩ | ⟨ys,rs,ps,h1,h2⟩
  ·rw [h0] at h1; cases h1
  ·rw [h0] at h1; cases h1; rw [List.length_map] at h2; omega
theorem zkM {t e:TypeId} {es:Nat} {α:Type} {F:α→List Value} {wf:α→Prop} (ht:P.underlying t=some (.slice e)) (hce:P.cellsOf e=es) (hes:0<es) (hF:∀ a,(F a).length=es)
  (ho:Opens enc P w base sp held e F wf) {fuel:Nat} {cs:List Value} {x:DataW H×List MemPlace} (h:DataW.trod enc P w base sp held fuel t cs=some x) :
  ∃ (v:Value) (l:List α),cs=[v]∧(l.length≤maxLen∧∀ a∈l,wf a)∧∀ k,(ro v es (l.map F)).p w noO k:=by
 obtain ⟨v,l,h1,h2,h3,h4⟩:=zg5 ht hce hes hF ho h
 refine ⟨v,l,h1,⟨zl0 ht h ?_,h2⟩,fun _=>h3⟩
 rcases h4 with ⟨h5,rfl⟩ | h5
 ·exact .inl ⟨h5,rfl⟩
 ·exact .inr h5
end
end Go.Abs
namespace Go.Abs
open Go.Sem Go.ChangeShapes Go.RowKit
theorem zml {P:Program} {w:World} {n:String} {d:DataW Unit}:∀ {l:List (String×DataW Unit)} {ps:List MemPlace},DataW.LaidVars P w l ps→(n,d)∈l→
    ∃ g t cs fuel p,P.globalNamed n=some g∧(P.globals[g]?).map (·.type)=some t∧w.var? P n=some cs∧DataW.trod (fun _=>()) P w 0 (fun _=>true) false fuel t cs.toList=some (d,p)
  | [],_,_,h=>by simp at h
  | (m, e) :: r, ps, ⟨g, t, cs, fuel, p, q, h1, h2, h3, h4, h5, _⟩, h => by
    rcases List.mem_cons.1 h with h | h
    · cases h; exact ⟨g,t,cs,fuel,p,h1,h2,h3,h4⟩
    · exact zml h5 h
theorem zpU {P:Program} {w:World} {l:List (String×DataW Unit)} {name:String} {k:IntKind} {zs:List Int} {g t e:Nat} {n:Nat} (h:laidMet P l w) (hm:(name,Lib.tabData k zs)∈l)
  (hg:P.globalNamed name=some g) (hty:(P.globals[g]?).map (·.type)=some t) (ht:P.underlying t=some (.array n e)) (he:P.underlying e=some (.int k)) (hce:P.cellsOf e=1) (hct:P.cellsOf t=n):Lib.TabIs P w name k zs:=by
 obtain ⟨ps,hl,_⟩:=h
 obtain ⟨g',t',cs,fuel,p,hg',ht',hvar,hd⟩:=zml hl hm
 obtain rfl:=Option.some.inj (hg.symm.trans hg')
 obtain rfl:=Option.some.inj (hty.symm.trans ht')
 unfold Lib.TabIs
 rw [hvar,← Lib.cells_of_tab ht he hce hct hd]
section
variable {H : Type} {enc : TypeId × Value → H} {P : Program} {w : World} {base : Nat} {sp : Nat → Bool} {held : Bool}
end
end Go.Abs
namespace Go.Abs
theorem zs6 {P:Program} {H:Type} {enc:TypeId×Value→H} {w:World} {base:Nat} {sp:Nat→Bool} {held:Bool} {t:TypeId} (ht:P.underlying t=some (.int .u8)):Opens enc P w base sp held t eB8 (fun a=>a=a):=by
 intro fuel cs x h
 obtain ⟨a,e,hw⟩:=(zs3 ht) _ _ _ h
 exact ⟨a.toNat.toUInt8,by rw [e,zpG (wf8 hw)]; rfl,rfl⟩
end Go.Abs
namespace Go.Proofs.YtcmaoifiiigggaaGreatDoor
open Go.Abs
noncomputable def low:Nat:=(World.holding Tryz.prog default ⟨#[],#[],[]⟩).heap.size
noncomputable def z6L (os:Os):World:=
 let w0:=World.holding Tryz.prog os ⟨#[.cells #[.slice (some ⟨low+1,0,none⟩) 7 7,.slice none 0 0,.int .i64 2] 286,.cells (([9,13,1,32,133,101,160,5760,5600,8192,8202,1,8232,8233,1,8239,8287,48,12288,12288,1]:List Int).map (Value.int .u16)).toArray 289],#[],[]⟩
 { w0 with heap:=((w0.heap.modify 0 fun
  | .cells _ t frozen=>.cells (([0,0,0,0,0,0,0,0,0,1,1,1,1,1,0,0,0,0,0,0,0,0,0,0,0,0,0,0,0,0,0,0,1,0,0,0,0,0,0,0,0,0,0,0,0,0,0,0,0,0,0,0,0,0,0,0,0,0,0,0,0,0,0,0,0,0,0,0,0,0,0,0,0,0,0,0,0,0,0,0,0,0,0,0,0,0,0,0,0,0,0,0,0,0,0,0,0,0,0,0,0,0,0,0,0,0,0,0,0,0,0,0,0,0,0,0,0,0,0,0,0,0,0,0,0,0,0,0,0,0,0,0,0,0,0,0,0,0,0,0,0,0,0,0,0,0,0,0,0,0,0,0,0,0,0,0,0,0,0,0,0,0,0,0,0,0,0,0,0,0,0,0,0,0,0,0,0,0,0,0,0,0,0,0,0,0,0,0,0,0,0,0,0,0,0,0,0,0,0,0,0,0,0,0,0,0,0,0,0,0,0,0,0,0,0,0,0,0,0,0,0,0,0,0,0,0,0,0,0,0,0,0,0,0,0,0,0,0,0,0,0,0,0,0,0,0,0,0,0,0,0,0,0,0,0,0]:List Int).map (Value.int .u8)).toArray t frozen
  | o=>o).modify 1 fun
  | .cells _ t frozen=>.cells #[.pointer (some ⟨low,0,none⟩)] t frozen
  | o=>o) }
def laidL:List (String×DataW Unit):=[("unicode.White_Space",Rows.laid_unicode_White_Space),("strings.asciiSpace",Rows.laid_strings_asciiSpace)]
theorem z81 (os:Os) (args:Array Value):laidMet Tryz.prog laidL ((z6L os).forCall (fun _ _=>0) ⟨#[],args,[]⟩).memory:=
 laidMet_of_run' 8 (by kernel_rfl) (by kernel_rfl)
theorem ztO {W:World} (h:laidMet Tryz.prog laidL W):GlobL W where
 space:=⟨0,gSpc,by decide,zpU h (List.mem_cons_of_mem _ (List.mem_cons.2 (.inl (by kernel_rfl)))) gSpc (t:=242) (by kernel_rfl) Tryz.underlying242 Tryz.underlying5 (by kernel_rfl) (by kernel_rfl)⟩
theorem zly {W:World} (hs:W.ShapedOpen Tryz.prog):4≤W.heap.size:=by
 obtain ⟨o,_,h,_⟩:=hs.2 4 (of_decide_eq_true (by kernel_rfl)) (of_decide_eq_true (by kernel_rfl))
 have:=(Array.getElem?_eq_some_iff.1 h).1
 omega
theorem globP {W:World} (h:laidMet Tryz.prog laidL W) (hs:W.ShapedOpen Tryz.prog) (k:Nat):globA.p W noO k:=⟨zly hs,fun _ _=>rfl,ztO h⟩
end Go.Proofs.YtcmaoifiiigggaaGreatDoor
