/-
  Texts that stand side by side: Pz, P7, AbsEnd, AbsEnd3, AbsEnd4, AbsEnd5, AbsLaid, AbsByte3, LaidPs.
-/
import Derived.Test.YtcmaoifiiigggaaGreatDoorFq
import Derived.Test.YtcmaoifiiigggaaGreatDoorV7M26
import Derived.Test.YtcmaoifiiigggaaGreatDoorV7M23
import Derived.Test.YtcmaoifiiigggaaGreatDoorV7W7
import Derived.Test.YtcmaoifiiigggaaGreatDoorM0
import Derived.WalkKit
import Derived.ProofKit
import Derived.OpenShut
import Derived.ShutString
import Derived.ChangeOld
import Derived.Below
import Derived.SliceStrings
import Derived.Test.YtcmaoifiiigggaaGreatDoorM1
import Derived.ChangeArms
import Derived.Test.YtcmaoifiiigggaaGreatDoorM2
import Derived.LaidHandle
import Derived.Deep.DeepHandedRow
import Derived.Test.YtcmaoifiiigggaaGreatDoorRows
import Derived.Test.YtcmaoifiiigggaaGreatDoorChecked
set_option linter.unusedSimpArgs false
set_option linter.unusedVariables false
namespace Go.Proofs.YtcmaoifiiigggaaGreatDoor
open Go.Abs
set_option maxRecDepth 100000
theorem sane (n:Nat):z1X (n+40)=some true:=by kernel_rfl
end Go.Proofs.YtcmaoifiiigggaaGreatDoor
namespace Go.Proofs.YtcmaoifiiigggaaGreatDoor
open Go.Abs Go.Ps Go.Lex
theorem zmO (s:List UInt8) {n:Nat} (hn:1000000<n):z39 n s=some (z4K 65537 s):=zjY s hn (by omega)
theorem ztG (g:Int→Int) (x:List Cl):atCs z0 (atCs g x)=atCs z0 x:=by rw [zkr]; rfl
theorem zow (g:Int→Int) (x:zG):atSrc z0 (atSrc g x)=atSrc z0 x:=by
 unfold atSrc
 simp only [List.map_map]
 congr 1
 ·refine List.map_congr_left fun p _=>?_
  simp only [Function.comp_apply,atP,List.map_map,zL.mk.injEq,true_and]
  refine ⟨rfl,List.map_congr_left fun r _=>?_⟩
  simp only [Function.comp_apply,atR,ztG]
  rfl
 ·refine List.map_congr_left fun p _=>?_
  simp only [Function.comp_apply,atPr,ziO]
  rfl
theorem zj7 {N:Nat} {s:List UInt8}:szSrc (z4K N s).1≤(tokR s).1.length:=by
  unfold z4K outL outR
  split
  · exact Nat.zero_le _
  split
  · exact Nat.zero_le _
  split
  · exact Nat.zero_le _
  cases h:run' (tokR s).1 (srcP N) 0 with
  | bad j r=>exact Nat.zero_le _
  | ok a j r =>
    dsimp only
    split
    · exact Nat.zero_le _
    · rw [zke]; exact zhG h
theorem zmP {N:Nat} {s s' : List UInt8} {T T' : List Lx} (hs:s.length≤65536) (hs' : s'.length≤65536) (h:tokR s=(T,⟨0,0⟩)) (h' : tokR s'=(T',⟨0,0⟩)) (e:T.map tk=T'.map tk) :
    (z4K N s).2.E=(z4K N s').2.E∧atSrc z0 (z4K N s).1=atSrc z0 (z4K N s').1:=by
  have hl:T.length=T'.length:=by simpa using congrArg List.length e
  have ht:tks T 0=tks T' 0:=by rw [zbZ,zbZ,e]
  unfold z4K outL
  rw [if_neg (by omega),if_neg (by omega)]
  unfold outR
  rw [h,h',if_neg (show ¬((0:Int)≠0) by decide)]
  dsimp only
  rw [if_neg (show ¬((0:Int)≠0) by decide),ht,hl]
  split
  · exact ⟨rfl,rfl⟩
  have er:run' T (srcP N) 0=run' T' (srcP N) 0:=by unfold run'; rw [ht]
  rw [er]
  cases run' T' (srcP N) 0 with
  | bad j r=>exact ⟨rfl,rfl⟩
  | ok a j r =>
    dsimp only
    split
    · exact ⟨rfl,rfl⟩
    · exact ⟨rfl,by rw [zow,zow]⟩
def gapsL:List (List UInt8):=[[32],[10],[9,32],[32,35,32,108,101,116,32,97,32,61,32,49,59,10],[35,10,35,125,10]]
theorem zmd:∀ g∈gapsL,GapOk g∧zjK g∧skipP false g=[]∧g.length≤14:=by
 intro g hg
 have h:g=[32]∨g=[10]∨g=[9,32]∨g=[32,35,32,108,101,116,32,97,32,61,32,49,59,10]∨g=[35,10,35,125,10]:=by simpa [gapsL] using hg
 have key:∀ (g:List UInt8),(∀ b r,b≠35→spc b=false→skipP false (g++b::r)=skipP false (b::r))→GapOk g:=fun g h b r h1 h2=>by
  rw [h b r h1 h2,zav,if_neg h1,if_neg (by rw [h2]; decide)]
 rcases h with rfl | rfl | rfl | rfl | rfl
 ·exact ⟨key _ fun b r _ _=>rfl,⟨_,_,rfl,by decide⟩,by decide,by decide⟩
 ·exact ⟨key _ fun b r _ _=>rfl,⟨_,_,rfl,by decide⟩,by decide,by decide⟩
 ·exact ⟨key _ fun b r _ _=>rfl,⟨_,_,rfl,by decide⟩,by decide,by decide⟩
 ·exact ⟨key _ fun b r _ _=>rfl,⟨_,_,rfl,by decide⟩,by decide,by decide⟩
 ·exact ⟨key _ fun b r _ _=>rfl,⟨_,_,rfl,by decide⟩,by decide,by decide⟩
def gapF (put:List UInt8) (i:Nat):List UInt8:=gapsL[(put[i % put.length]?.getD 0).toNat % 5]?.getD []
theorem zmb (put:List UInt8) (i:Nat):gapsL[(put[i % put.length]?.getD 0).toNat % 5]? = some (gapF put i):=by
 unfold gapF
 have h:(put[i % put.length]?.getD 0).toNat % 5<gapsL.length:=Nat.mod_lt _ (by decide)
 rw [List.getElem?_eq_getElem h]; rfl
theorem zjP (put:List UInt8) (i:Nat):gapF put i∈gapsL:=List.mem_of_getElem? (zmb put i)
def pairs (put:List UInt8):Nat→List Lx→List ((Int×List UInt8)×List UInt8)
 | _,[]=>[]
 | i,t::r=>((t.Kind,t.S),gapF put i)::pairs put (i+1) r
theorem zkO (put:List UInt8):∀ (l:List Lx) (i:Nat),(pairs put i l).map (·.1)=l.map tk
 | [],_=>rfl
 | t::r,i=>by simp only [pairs,List.map_cons,zkO put r (i+1)]; rfl
theorem zmM (put:List UInt8):∀ (l:List Lx) (i:Nat),(∀ t∈l,Tok kwP t.Kind t.S)→∀ x∈pairs put i l,Tok kwP x.1.1 x.1.2∧GapOk x.2∧zjK x.2∧skipP false x.2=[]
  | [],_,_,x,hx=>absurd hx List.not_mem_nil
  | t :: r, i, h, x, hx => by
    rcases List.mem_cons.1 hx with rfl | hx
    · obtain ⟨h1,h2,h3,_⟩:=zmd _ (zjP put i)
      exact ⟨h t (List.mem_cons_self ..),h1,h2,h3⟩
    · exact zmM put r (i+1) (fun y hy=>h y (List.mem_cons_of_mem _ hy)) x hx
theorem zkN (put:List UInt8):∀ (l:List Lx) (i:Nat),(catR (pairs put i l)).length≤(l.map fun t=>(wr t).length).sum+14*l.length
  | [],_=>Nat.zero_le _
  | t :: r, i => by
    have h1:=zkN put r (i+1)
    obtain ⟨_,_,_,h2⟩:=zmd _ (zjP put i)
    have e:wrL t.Kind t.S=wr t:=rfl
    simp only [pairs,catR,List.length_append,List.map_cons,List.sum_cons,List.length_cons,e] at h1 ⊢
    omega
theorem zjw {put:List UInt8} {r10:List z6×z11} {n0:Nat} (h0:1000000<n0) (hp:0<put.length) (hl:r10.1.length≤1000) (ht:∀ t∈r10.1,Tok kwP t.Kind t.S∧(wr t).length≤1000):∀ (n i:Nat) (o:List UInt8),i≤r10.1.length→r10.1.length - i<n→o.length≤2000*i→
    iter (z3H n0 put r10) n (o,(i:Int))=some (.go (o++catR (pairs put i (r10.1.drop i))))
  | 0,_,_,_,h,_=>absurd h (Nat.not_lt_zero _)
  | n + 1, i, o, hi, hn, ho => by
    by_cases hlt:i<r10.1.length
    · obtain ⟨h1,h2⟩:=ht _ (List.getElem_mem hlt)
      obtain ⟨_,_,_,h3⟩:=zmd _ (zjP put i)
      have h4:=zjw h0 hp hl ht n (i+1) (o++(wr r10.1[i]++gapF put i)) hlt (by omega) (by simp only [List.length_append]; omega)
      rw [z4f (s':=(o++(wr r10.1[i]++gapF put i),((i+1:Nat):Int)))]
      · rw [h4,List.drop_eq_getElem_cons hlt,pairs,catR]
        rw [show wrL r10.1[i].Kind r10.1[i].S=wr r10.1[i] from rfl]
        simp only [List.append_assoc]
      · have hS:r10.1[i].S.length≤1000:=by
          have h4:r10.1[i].S.length≤(wr r10.1[i]).length:=by
            unfold wr
            split
            · simp only [List.length_append,zdC]; omega
            · exact Nat.le_refl _
          omega
        have htake:(r10.1.take (i+1)).drop i=[r10.1[i]]:=by
          rw [zaM hlt,List.drop_left' (by simp; omega)]
        have htx:z8n n0 [r10.1[i]]=some (wr r10.1[i],0):=by
          rw [zkh [r10.1[i]] (by simp) (fun t ht=>by rw [List.mem_singleton.1 ht]; omega) n0 (by omega),zl6 h1 (by omega)]
        have hm:i % put.length<put.length:=Nat.mod_lt _ hp
        unfold z3H
        simp only [Int.ofNat_lt,hlt,decide_true,cond_true,zdc (j:=i) (by omega),Int.toNat_natCast,htake,htx,ob,ne_eq,not_true_eq_false,decide_false,cond_false]
        rw [z1n (by omega),z1n (by omega)]
        rw [show ((i:Int).tmod (put.length:Int))=((i % put.length:Nat):Int) from rfl,z5t hm]
        rw [show (((put[i % put.length].toNat:Nat):Int).tmod 5)=((put[i % put.length].toNat % 5:Nat):Int) from rfl]
        have hg:=zmb put i
        rw [List.getElem?_eq_getElem hm,Option.getD_some] at hg
        refine (z4e (l:=gapsL) hg _).trans ?_
        rw [z1n (by omega),z1n (by simp only [List.length_append]; omega)]
    · rw [z1z (r:=.go o)]
      · rw [List.drop_eq_nil_of_le (by omega)]
        simp [pairs,catR]
      · unfold z3H
        simp only [Int.ofNat_lt,hlt,decide_false,cond_false]
theorem law7 (s put:List UInt8) (_:s.length≤maxLen) (_:put.length≤maxLen∧∀ a∈put,a=a):∃ m,z5B m s put=some true:=by
  obtain ⟨n,hn,hsane⟩ : ∃ n,1000000<n∧z1X n=some true:=⟨2000000+40,by omega,sane _⟩
  refine ⟨n,?_⟩
  unfold z5B
  rw [hsane]
  by_cases hb1:1000<s.length
  · rw [decide_eq_true (p:=1000<(s.length:Int)) (by omega)]; rfl
  by_cases hb2:put.length=0
  · rw [decide_eq_true (p:=(put.length:Int)=0) (by omega),Bool.or_true]; rfl
  by_cases hb3:20<put.length
  · rw [decide_eq_true (p:=20<(put.length:Int)) (by omega),Bool.or_true]; rfl
  rw [decide_eq_false (p:=1000<(s.length:Int)) (by omega),decide_eq_false (p:=(put.length:Int)=0) (by omega),decide_eq_false (p:=20<(put.length:Int)) (by omega)]
  rw [zf4 s (by omega) n (by omega),zmO s hn]
  simp only [ob,Bool.or_self,cond_false]
  by_cases h0:(tokR s).2.E≠0
  · have h1:(z4K 65537 s).2=(tokR s).2:=by
      unfold z4K outL outR
      rw [if_neg (by omega),if_pos h0]
    simp only [h0,decide_true,cond_true,ne_eq,not_false_eq_true,h1,Bool.and_self]
  have h0' : (tokR s).2.E=0:=by omega
  simp only [h0',ne_eq,not_true_eq_false,decide_false,cond_false]
  obtain ⟨L,hL,hT⟩:=zfz h0'
  have hlen:=zb4 s
  obtain ⟨hsum,_,htok⟩:=zoK hL
  have hw:((tokR s).1.map fun t=>(wr t).length)=L.map fun x=>(wrL x.1 x.2.2).length:=by
    rw [hT,List.map_map]; rfl
  have hall:∀ t∈(tokR s).1,Tok kwP t.Kind t.S∧(wr t).length≤1000:=by
    intro t ht
    refine ⟨?_,?_⟩
    · rw [hT] at ht; exact zln (s:=s) htok t ht
    · have:=zpX ((tokR s).1.map fun t=>(wr t).length) (wr t).length (List.mem_map.2 ⟨t,ht,rfl⟩)
      rw [hw] at this
      omega
  have hloop:=zjw (put:=put) (r10:=tokR s) hn (by omega) (by omega) hall n 0 [] (Nat.zero_le _) (by omega) (by simp)
  have hloop' : iter (z3H n put (tokR s)) n ([],0)=_:=hloop
  rw [hloop',List.drop_zero,List.nil_append]
  have hol:=zkN put (tokR s).1 0
  rw [hw] at hol
  obtain ⟨L',e1,e2⟩:=zl8 kwP (pairs put 0 (tokR s).1) (zmM put _ 0 fun t ht=>(hall t ht).1) ((catR (pairs put 0 (tokR s).1)).length+1) (Nat.lt_succ_self _)
  have hT':=zjD e1
  have hk:(tokR s).1.map tk=(L'.map (mkT (catR (pairs put 0 (tokR s).1)).length)).map tk:=by
    rw [List.map_map,← zkO put (tokR s).1 0,← e2]; rfl
  have hT1:tokR s=((tokR s).1,⟨0,0⟩):=by rw [hT]
  obtain ⟨hE,hB⟩:=zmP (N:=65537) (s:=s) (s':=catR (pairs put 0 (tokR s).1)) (by omega) (by omega) hT1 hT' hk
  have z1:=zj7 (N:=65537) (s:=s)
  have z2:=zj7 (N:=65537) (s:=catR (pairs put 0 (tokR s).1))
  have z3:=zb4 (catR (pairs put 0 (tokR s).1))
  have z4:=zke z0 (z4K 65537 (catR (pairs put 0 (tokR s).1))).1
  rw [bJ,zmO _ hn]
  simp only [ob,hE,decide_true,Bool.and_self,cond_true]
  rw [zox _ (by omega) (by omega),zox _ (by omega) (by omega),hB]
  simp only [ob]
  rw [zgO _ (by omega) (by omega)]
  rfl
end Go.Proofs.YtcmaoifiiigggaaGreatDoor
namespace Go.Abs
open Go.Sem Go.ChangeShapes Go.RowKit
theorem Meets.law {P:Program} {f:FuncId} {args:List Value} {H:List HA} (h:Meets P f args H (fun v G=>v = .bool true∧G=[])) {w:World} (hs:Sats w (fun _=>.no) H) :
  Calls P f args.toArray w fun e w'=>e = .returned (.bool true)∧Below w.heap.size w w':=by
 refine (h w (fun _=>.no) (fun _ _=>rfl) hs).mono fun e w' ⟨v,G,o',he,⟨hv,_⟩,_,ht,_⟩=>?_
 subst hv
 exact ⟨he,ht.os,ht.tape,ht.output,ht.size,fun k hk=>(ht.no k hk rfl).2⟩
theorem zck {w:World} {a:Option Addr} {len cap es:Nat} {cells:List (List Value)} (hcl:cells.length=len) (h1:len≤cap) (h2:cap≤maxLen) (h3:a=none→cap=0) (hes:0<es)
    (he:∀ c∈cells,c.length=es) (hc:∀ x,a=some x→∀ i c,cells[i]? = some c→∀ j v,c[j]? = some v→w.cell? (x.add (i*es+j))=some v) :
    z3V w (fun b=>(fun _=>Ow.no:Own) b = .no) (.slice a len cap) es cells:=by
  refine ⟨a,cap,by rw [hcl],by omega,h2,h3,?_⟩
  intro i c hi
  have hlen:=he c (List.mem_of_getElem? hi)
  cases a with
  | none =>
    have:=(List.getElem?_eq_some_iff.1 hi).1
    have:=h3 rfl
    omega
  | some x =>
    have e0:c[0]? = some (c[0]'(by omega)):=List.getElem?_eq_getElem (by omega)
    have h:=hc x rfl i c hi 0 _ e0
    have hs0:=World.cell?_spot h
    have hb:x.block<w.heap.size:=by
      unfold World.cell? at h
      have e:(x.add (i*es+0)).block=x.block:=by unfold Addr.add; split <;> rfl
      rw [e] at h
      cases hh:w.heap[x.block]? with
      | none=>rw [hh] at h; simp at h
      | some o=>exact (Array.getElem?_eq_some_iff.1 hh).1
    obtain ⟨b,off,spot⟩:=x
    refine ⟨hlen,b,off,?_,hb,rfl,?_⟩
    · cases spot with
      | none=>rfl
      | some q =>
        exfalso
        have hi0:∀ i c,cells[i]? = some c→i=0:=by
          intro i c hi
          false_or_by_contra
          have hlen:=he c (List.mem_of_getElem? hi)
          have hi00:cells[0]? = some (cells[0]'(by have:=(List.getElem?_eq_some_iff.1 hi).1; omega)):=List.getElem?_eq_getElem _
          have hl0:=he _ (List.mem_of_getElem? hi00)
          have h:=hc _ rfl 0 _ hi00 0 _ (List.getElem?_eq_getElem (by omega))
          have:=World.cell?_spot h
          simp [Addr.add] at this
        have:=hi0 i c hi
        subst this
        simp [Addr.add] at hs0
    · intro j v hj
      have h':=hc _ rfl i c hi j v hj
      have hsp:=World.cell?_spot h'
      rw [← h']
      congr 1
      unfold Addr.add at hsp ⊢
      split
      · rename_i h0
        rw [if_pos h0] at hsp
        simp only at hsp
        rw [hsp]
        have:off+i*es+j=off:=by omega
        rw [this]
      · rw [Nat.add_assoc]
theorem zl1 {w:World} {B:Nat→Prop} {es:Nat}:z3V w B (.slice none 0 0) es []:=⟨none,0,rfl,by simp,by unfold maxLen; omega,fun _=>rfl,fun i c h=>by simp at h⟩
end Go.Abs
namespace Go.Abs
open Go.Sem Go.ChangeShapes Go.RowKit
section
variable {H : Type} {enc : TypeId × Value → H} {P : Program} {w : World} {base : Nat} {sp : Nat → Bool} {held : Bool}
end
end Go.Abs
namespace Go.Abs
open Go.Sem Go.ChangeShapes Go.RowKit
section
variable {H : Type} {enc : TypeId × Value → H} {P : Program} {w : World} {base : Nat} {sp : Nat → Bool} {held : Bool}
def wfI (k:IntKind) (n:Int):Prop:=(Lit.int k n).wf=true
theorem wf8 {n:Int} (h:wfI .u8 n):0≤n∧n≤255:=by
 simp only [wfI,Lit.wf,Bool.and_eq_true,decide_eq_true_eq] at h; exact h
def Opens (enc:TypeId×Value→H) (P:Program) (w:World) (base:Nat) (sp:Nat→Bool) (held:Bool) (t:TypeId) {α:Type} (F:α→List Value) (wf:α→Prop):Prop:=
 ∀ (fuel:Nat) (cs:List Value) (x:DataW H×List MemPlace),DataW.trod enc P w base sp held fuel t cs=some x→∃ a,cs=F a∧wf a
theorem zs3 {t:TypeId} {k:IntKind} (ht:P.underlying t=some (.int k)):Opens enc P w base sp held t (eInt k) (wfI k):=by
 intro fuel cs x h
 obtain ⟨n,hc,_,hw⟩:=DataW.trod_int ht h
 exact ⟨n,hc,hw⟩
theorem zg5 {t e:TypeId} {es:Nat} {α:Type} {F:α→List Value} {wf:α→Prop} (ht:P.underlying t=some (.slice e)) (hce:P.cellsOf e=es) (hes:0<es) (hF:∀ a,(F a).length=es)
    (ho:Opens enc P w base sp held e F wf) {fuel:Nat} {cs:List Value} {x:DataW H×List MemPlace} (h:DataW.trod enc P w base sp held fuel t cs=some x) :
    ∃ (v : Value) (l : List α), cs = [v] ∧ (∀ a ∈ l, wf a) ∧ z3V w (fun b => (fun _ => Ow.no : Own) b = .no) v es (l.map F) ∧
      ((x=(.nil,[])∧l=[])∨∃ ys rs ps,x=(.slice ys rs,ps)∧ys.length=l.length):=by
  rcases DataW.trod_slice ht h with ⟨rfl,hx⟩ | ⟨a,len,cap,elems,rest,m,_,rfl,rfl,hb,hl,hm,hlen,hel',hsp,hns⟩
  · exact ⟨_,[],rfl,by simp,zl1,.inl ⟨hx,rfl⟩⟩
  · have each:∀ i,i<len→∃ d:α,wf d∧∀ j v,(F d)[j]? = some v→w.cell? (a.add (i*es+j))=some v:=by
      intro i hi
      have h1:=hel' i hi
      rw [List.getElem?_eq_getElem (by omega),hce,Option.bind_eq_some_iff] at h1
      obtain ⟨cs',hcs,hy⟩:=h1
      obtain ⟨d,rfl,hd⟩:=ho _ _ _ hy
      refine ⟨d,hd,fun j v hj=>?_⟩
      have hjlt:j<es:=by have:=(List.getElem?_eq_some_iff.1 hj).1; rw [hF] at this; omega
      have:=(World.cells?_some hcs).2.2 j hjlt
      rw [hj] at this
      rw [← this]
      congr 1
      unfold Addr.add
      by_cases e1:i*es=0
      · rw [if_pos e1]; simp [e1]
      · rw [if_neg e1,if_neg (by omega)]
        by_cases e2:j=0
        · simp [e2]
        · rw [if_neg e2]; simp [Nat.add_assoc]
    have hch:∃ l:List α,l.length=len∧∀ i d,l[i]? = some d→wf d∧∀ j v,(F d)[j]? = some v→w.cell? (a.add (i*es+j))=some v:=by
      clear hel' hlen hsp hns hl h
      induction len with
      | zero=>exact ⟨[],rfl,by simp⟩
      | succ k ih =>
        obtain ⟨l,hl1,hl2⟩:=ih (fun i hi=>each i (by omega))
        obtain ⟨d,hd1,hd2⟩:=each k (by omega)
        refine ⟨l++[d],by simp [hl1],fun i d' hi=>?_⟩
        by_cases hik:i<k
        · rw [List.getElem?_append_left (by omega)] at hi; exact hl2 i d' hi
        · rw [List.getElem?_append_right (by omega)] at hi
          have:i=k:=by have:=(List.getElem?_eq_some_iff.1 hi).1; simp at this; omega
          subst this
          rw [hl1,Nat.sub_self] at hi
          simp at hi
          subst hi
          exact ⟨hd1,hd2⟩
    obtain ⟨l,hl1,hl2⟩:=hch
    refine ⟨_,l,rfl,?_,?_,.inr ⟨_,_,_,rfl,by simp [hlen,hl1]⟩⟩
    · intro d hd
      obtain ⟨i,hi⟩:=List.getElem?_of_mem hd
      exact (hl2 i d hi).1
    · refine zck (by rw [List.length_map,hl1]) hl hm (by simp) hes ?_ ?_
      · intro c hc
        obtain ⟨d,hd,rfl⟩:=List.mem_map.1 hc
        exact hF d
      · intro x hx i c hi j v hj
        cases hx
        simp only [List.getElem?_map,Option.map_eq_some_iff] at hi
        obtain ⟨d,hd,rfl⟩:=hi
        exact (hl2 i d hd).2 j v hj
end
end Go.Abs
namespace Go.Abs
open Go.Sem Go.ChangeShapes Go.RowKit
section
variable {H : Type} {enc : TypeId × Value → H} {P : Program} {w : World} {base : Nat} {sp : Nat → Bool} {held : Bool}
theorem zhz {t:TypeId} (ht:P.underlying t=some .string):Opens enc P w base sp held t eStr (fun l=>l.length≤maxLen):=by
 intro fuel cs x h
 obtain ⟨s,hc,_,hl⟩:=DataW.trod_string ht h
 exact ⟨s.data.toList,by rw [hc]; rfl,hl⟩
def noO:Own:=fun _=>.no
theorem zl0 {t e:TypeId} (ht:P.underlying t=some (.slice e)) {fuel:Nat} {cs:List Value} {x:DataW H×List MemPlace} (h:DataW.trod enc P w base sp held fuel t cs=some x) {N:Nat}
  (hx:(x=(.nil,[])∧N=0)∨∃ ys rs ps,x=(.slice ys rs,ps)∧ys.length=N):N≤maxLen:=by
 rcases DataW.trod_slice ht h with ⟨_,h0⟩ | ⟨a,len,cap,elems,rest,m,_,_,h0,_,hl,hm,hlen,_⟩
 ·rcases hx with ⟨_,rfl⟩ | ⟨ys,rs,ps,h1,_⟩
  ·exact Nat.zero_le _
  ·rw [h0] at h1; cases h1
 ·rcases hx with ⟨h1,_⟩ | ⟨ys,rs,ps,h1,h2⟩
  ·rw [h0] at h1; cases h1
  ·rw [h0] at h1; cases h1; rw [List.length_map] at h2; omega
theorem zkM {t e:TypeId} {es:Nat} {α:Type} {F:α→List Value} {wf:α→Prop} (ht:P.underlying t=some (.slice e)) (hce:P.cellsOf e=es) (hes:0<es) (hF:∀ a,(F a).length=es)
  (ho:Opens enc P w base sp held e F wf) {fuel:Nat} {cs:List Value} {x:DataW H×List MemPlace} (h:DataW.trod enc P w base sp held fuel t cs=some x) :
  ∃ (v:Value) (l:List α),cs=[v]∧(l.length≤maxLen∧∀ a∈l,wf a)∧∀ k,(ro v es (l.map F)).p w noO k:=by
 obtain ⟨v,l,h1,h2,h3,h4⟩:=zg5 ht hce hes hF ho h
 refine ⟨v,l,h1,⟨zl0 ht h ?_,h2⟩,fun _=>h3⟩
 rcases h4 with ⟨h5,rfl⟩ | h5
 ·exact .inl ⟨h5,rfl⟩
 ·exact .inr h5
end
end Go.Abs
namespace Go.Abs
open Go.Sem Go.ChangeShapes Go.RowKit
theorem zml {P:Program} {w:World} {n:String} {d:DataW Unit}:∀ {l:List (String×DataW Unit)} {ps:List MemPlace},DataW.LaidVars P w l ps→(n,d)∈l→
    ∃ g t cs fuel p,P.globalNamed n=some g∧(P.globals[g]?).map (·.type)=some t∧w.var? P n=some cs∧DataW.trod (fun _=>()) P w 0 (fun _=>true) false fuel t cs.toList=some (d,p)
  | [],_,_,h=>by simp at h
  | (m, e) :: r, ps, ⟨g, t, cs, fuel, p, q, h1, h2, h3, h4, h5, _⟩, h => by
    rcases List.mem_cons.1 h with h | h
    · cases h; exact ⟨g,t,cs,fuel,p,h1,h2,h3,h4⟩
    · exact zml h5 h
theorem zpU {P:Program} {w:World} {l:List (String×DataW Unit)} {name:String} {k:IntKind} {zs:List Int} {g t e:Nat} {n:Nat} (h:laidMet P l w) (hm:(name,Lib.tabData k zs)∈l)
  (hg:P.globalNamed name=some g) (hty:(P.globals[g]?).map (·.type)=some t) (ht:P.underlying t=some (.array n e)) (he:P.underlying e=some (.int k)) (hce:P.cellsOf e=1) (hct:P.cellsOf t=n):Lib.TabIs P w name k zs:=by
 obtain ⟨ps,hl,_⟩:=h
 obtain ⟨g',t',cs,fuel,p,hg',ht',hvar,hd⟩:=zml hl hm
 obtain rfl:=Option.some.inj (hg.symm.trans hg')
 obtain rfl:=Option.some.inj (hty.symm.trans ht')
 unfold Lib.TabIs
 rw [hvar,← Lib.cells_of_tab ht he hce hct hd]
section
variable {H : Type} {enc : TypeId × Value → H} {P : Program} {w : World} {base : Nat} {sp : Nat → Bool} {held : Bool}
end
end Go.Abs
namespace Go.Abs
theorem zs6 {P:Program} {H:Type} {enc:TypeId×Value→H} {w:World} {base:Nat} {sp:Nat→Bool} {held:Bool} {t:TypeId} (ht:P.underlying t=some (.int .u8)):Opens enc P w base sp held t eB8 (fun a=>a=a):=by
 intro fuel cs x h
 obtain ⟨a,e,hw⟩:=(zs3 ht) _ _ _ h
 exact ⟨a.toNat.toUInt8,by rw [e,zpG (wf8 hw)]; rfl,rfl⟩
end Go.Abs
namespace Go.Proofs.YtcmaoifiiigggaaGreatDoor
open Go.Abs
noncomputable def low:Nat:=(World.holding Tryz.prog default ⟨#[],#[],[]⟩).heap.size
noncomputable def z6L (os:Os):World:=
 let w0:=World.holding Tryz.prog os ⟨#[.cells #[.slice (some ⟨low+1,0,none⟩) 7 7,.slice none 0 0,.int .i64 2] 286,.cells (([9,13,1,32,133,101,160,5760,5600,8192,8202,1,8232,8233,1,8239,8287,48,12288,12288,1]:List Int).map (Value.int .u16)).toArray 289],#[],[]⟩
 { w0 with heap:=((w0.heap.modify 0 fun
  | .cells _ t frozen=>.cells (([0,0,0,0,0,0,0,0,0,1,1,1,1,1,0,0,0,0,0,0,0,0,0,0,0,0,0,0,0,0,0,0,1,0,0,0,0,0,0,0,0,0,0,0,0,0,0,0,0,0,0,0,0,0,0,0,0,0,0,0,0,0,0,0,0,0,0,0,0,0,0,0,0,0,0,0,0,0,0,0,0,0,0,0,0,0,0,0,0,0,0,0,0,0,0,0,0,0,0,0,0,0,0,0,0,0,0,0,0,0,0,0,0,0,0,0,0,0,0,0,0,0,0,0,0,0,0,0,0,0,0,0,0,0,0,0,0,0,0,0,0,0,0,0,0,0,0,0,0,0,0,0,0,0,0,0,0,0,0,0,0,0,0,0,0,0,0,0,0,0,0,0,0,0,0,0,0,0,0,0,0,0,0,0,0,0,0,0,0,0,0,0,0,0,0,0,0,0,0,0,0,0,0,0,0,0,0,0,0,0,0,0,0,0,0,0,0,0,0,0,0,0,0,0,0,0,0,0,0,0,0,0,0,0,0,0,0,0,0,0,0,0,0,0,0,0,0,0,0,0,0,0,0,0,0,0]:List Int).map (Value.int .u8)).toArray t frozen
  | o=>o).modify 1 fun
  | .cells _ t frozen=>.cells #[.pointer (some ⟨low,0,none⟩)] t frozen
  | o=>o) }
def laidL:List (String×DataW Unit):=[("unicode.White_Space",Rows.laid_unicode_White_Space),("strings.asciiSpace",Rows.laid_strings_asciiSpace)]
theorem z81 (os:Os) (args:Array Value):laidMet Tryz.prog laidL ((z6L os).forCall (fun _ _=>0) ⟨#[],args,[]⟩).memory:=
 laidMet_of_run' 8 (by kernel_rfl) (by kernel_rfl)
theorem ztO {W:World} (h:laidMet Tryz.prog laidL W):GlobL W where
 space:=⟨0,gSpc,by decide,zpU h (List.mem_cons_of_mem _ (List.mem_cons.2 (.inl (by kernel_rfl)))) gSpc (t:=242) (by kernel_rfl) Tryz.underlying242 Tryz.underlying5 (by kernel_rfl) (by kernel_rfl)⟩
theorem zly {W:World} (hs:W.ShapedOpen Tryz.prog):4≤W.heap.size:=by
 obtain ⟨o,_,h,_⟩:=hs.2 4 (of_decide_eq_true (by kernel_rfl)) (of_decide_eq_true (by kernel_rfl))
 have:=(Array.getElem?_eq_some_iff.1 h).1
 omega
theorem globP {W:World} (h:laidMet Tryz.prog laidL W) (hs:W.ShapedOpen Tryz.prog) (k:Nat):globA.p W noO k:=⟨zly hs,fun _ _=>rfl,ztO h⟩
end Go.Proofs.YtcmaoifiiigggaaGreatDoor
