/-
  Texts that stand side by side: AbsLift2, AbsLift3, AbsCallX, AbsOps2, AbsNest, AbsCopy, AbsRange, AbsIface, AbsMore2, AbsArrV, AbsPan, AbsRec, AbsByte, AbsByte2, AbsRepl.
-/
import Derived.Test.YtcmaoifiiigggaaGreatDoorM0
import Derived.MapKept
import Derived.RecoverIn
import Derived.Laws.IdiomStrings
set_option linter.unusedSimpArgs false
set_option linter.unusedVariables false
namespace Go.Abs
theorem zbB {S R:Type} {s:S} {k:S→Option R} {r:R} (h:After (.go s) k r):k s=some r:=h
theorem zM {S R:Type} {e:R} {k:S→Option R} {r:R} (h:After (.stop e) k r):e=r:=h
def eInt (k:IntKind) (n:Int):List Value:=[.int k n]
theorem zoB (k:IntKind) (n:Int):(eInt k n).length=1∧∀ u∈eInt k n,u.oneCell'=true:=⟨rfl,fun u h=>by simp [eInt] at h; subst h; rfl⟩
def eB8 (b:UInt8):List Value:=[.int .u8 b.toNat]
theorem zhZ (n:UInt8):(eB8 n).length=1∧∀ u∈eB8 n,u.oneCell'=true:=⟨rfl,fun u h=>by simp [eB8] at h; subst h; rfl⟩
def eStr (b:List UInt8):List Value:=[.string (bs b)]
theorem zfB (b:List UInt8):(eStr b).length=1∧∀ u∈eStr b,u.oneCell'=true:=⟨rfl,fun u h=>by simp [eStr] at h; subst h; rfl⟩
theorem zmw {α:Type} {F:α→List Value} {l:List α} {i:Nat} {c:List Value} {y:α} (h:c=F y):(l.map F).set i c=(l.set i y).map F:=by rw [h,List.map_set]
variable {E : Env} {k : List KI} {V : VF} {H : List HA}
section
variable {P : Program} {d : Option Nat} {ty : TypeId} {pos : String} {af : Array Edge} {g : Option (Nat × Bool)}
theorem znA (c:List Value) (j:Nat) (ys:List Value):(wrL c j ys).length=c.length:=by simp [wrL,z5Z]
theorem zpk (c:List Value) (j:Nat) (ys:List Value) (m:Nat) (h:j+ys.length≤c.length):(wrL c j ys)[m]? = if j≤m∧m<j+ys.length then ys[m - j]? else c[m]?:=by
 have:=z8Y ys c.toArray j m (by simpa using h)
 simpa [wrL] using this
theorem zfy {T:TypeId} {x y:Operand} {v r:Value} {es i j n:Nat} {c:List Value} {cells:List (List Value)} (m:Nat) (hz:∀ w,(sizeOf T).run P w = .ok n w) (hx:V.ev x=some (elemP v (i*es+j))) (hy:V.ev y=some r)
    (hm:H[m]? = some (row v es cells)) (hn:r.cells.size=n) (hc:cells[i]? = some c) (hl:Nat.ble (j+n) es=true) (h1:∀ u∈r.cells.toList,u.oneCell'=true) :
    OpT P ⟨d,.store T x y,ty,pos,af,g⟩ V H (fun v' H'=>v'=undef∧H'=H.set m (row v es (cells.set i (wrL c j r.cells.toList)))):=by
  intro ρ w o hf hbd hs
  have hle:j+n≤es:=Nat.le_of_ble_eq_true hl
  rcases hs m _ hm with ⟨_,h0⟩ | ⟨b,off,cap,arr,T',fz,e1,e2,e3,e4,e5,e6,e7,e8,e9,e10⟩
  · rw [h0] at hc; simp at hc
  have hlt:i<cells.length:=(List.getElem?_eq_some_iff.1 hc).1
  have hce:=e9 c (List.mem_of_getElem? hc)
  have hroom:off+(i*es+j)+r.cells.toList.length≤arr.size:=by
    rw [e6,Array.length_toList,hn]
    have:(i+1)*es≤cap*es:=Nat.mul_le_mul_right _ (by omega)
    rw [Nat.succ_mul] at this; omega
  obtain ⟨w',h2,h3⟩:=z8E (P:=P) r.cells.toList 0 arr w e4 e5 (off:=off+(i*es+j)) (by omega) h1
  have hrun:(execOp ρ ⟨d,.store T x y,ty,pos,af,g⟩).run P w = .ok .skip w':=by
    subst e1
    simp [execOp,hf x _ hx,hf y _ hy,Instr.storeAt,Instr.sureAddr,elemP,Value.sbase,storeVar,hz,hn,h2]
  unfold Does
  rw [hrun]
  refine ⟨_,o,⟨rfl,rfl⟩,fun b' hb'=>hbd b' (by rw [h3.size] at hb'; exact hb'),⟨h3.os,h3.tape,h3.output,by rw [h3.size]; exact Nat.le_refl _,fun b' hlt hb'=>⟨hb',h3.other b' ?_⟩,fun b' hlt hb'=>⟨hb',h3.other b' ?_⟩⟩,?_⟩
  · rintro rfl; rw [e2] at hb'; cases hb'
  · rintro rfl; rw [e2] at hb'; cases hb'
  · refine z4p (by rw [h3.size]; exact Nat.le_refl _) (fun b' hlt hb'=>⟨rfl,h3.other b' ?_⟩) hs (.inr ⟨b,off,cap,_,T',fz,by rw [List.length_set]; exact e1,e2,by rw [h3.size]; exact e3,h3.here,by rw [z5Z]; exact e5,by rw [z5Z]; exact e6,
      by rw [List.length_set]; exact e7,e8,?_,?_⟩)
    · rintro rfl; exact hb' e2
    · intro c' hc'
      rcases List.mem_or_eq_of_mem_set hc' with h | rfl
      · exact e9 c' h
      · rw [znA]; exact hce
    · intro i' c' hi' j' x' hj'
      rw [Nat.add_zero,z8Y _ _ _ _ hroom]
      rw [Array.length_toList,hn]
      by_cases hii:i=i'
      · subst hii
        rw [List.getElem?_set_self hlt] at hi'
        simp at hi'
        subst hi'
        rw [zpk _ _ _ _ (by rw [Array.length_toList,hn,hce]; exact hle),Array.length_toList,hn] at hj'
        by_cases hjj:j≤j'∧j'<j+n
        · rw [if_pos hjj] at hj'
          rw [if_pos (by omega)]
          rw [← hj']; congr 1; omega
        · rw [if_neg hjj] at hj'
          rw [if_neg (by omega)]
          exact e10 i c hc j' x' hj'
      · rw [List.getElem?_set_ne hii] at hi'
        have hjl:j'<es:=by
          have h1:=(List.getElem?_eq_some_iff.1 hj').1
          rw [e9 c' (List.mem_of_getElem? hi')] at h1; exact h1
        have:¬ (off+(i*es+j)≤off+i'*es+j'∧off+i'*es+j'<off+(i*es+j)+n):=by
          rintro ⟨ha,hb⟩
          rcases Nat.lt_or_ge i i' with h | h
          · have:(i+1)*es≤i'*es:=Nat.mul_le_mul_right _ h
            rw [Nat.succ_mul] at this; omega
          · have:(i'+1)*es≤i*es:=Nat.mul_le_mul_right _ (by omega)
            rw [Nat.succ_mul] at this; omega
        rw [if_neg this]
        exact e10 i' c' hi' j' x' hj'
end
def SH (E:Env) (Hs:List HA) (w:World):Prop:=∃ o,Bnd w o∧Tr E.w0 E.o0 w o∧Sats w o Hs
def Sub (H Hs:List HA):Prop:=∀ (j:Nat) (h:HA),Hs[j]? = some h→(∀ w o k,h.p w o k)∨H[j]? = some h
theorem zhJ {H:List HA}:Sub H []:=fun j h hj=>by simp at hj
theorem znb {H Hs:List HA} {h:HA} (r:Sub H Hs):Sub (h::H) (h::Hs):=fun j x hj=>by
 cases j with
 | zero=>exact .inr hj
 | succ j=>exact r j x hj
theorem zpc {H Hs:List HA} {h:HA} (r:Sub H Hs):Sub (h::H) (HA.emp::Hs):=fun j x hj=>by
 cases j with
 | zero=>simp at hj; subst hj; exact .inl fun _ _ _=>trivial
 | succ j=>exact r j x hj
theorem Sub.sats {Hs:List HA} {w:World} {o:Own} (h:Sub H Hs) (hs:Sats w o H):Sats w o Hs:=fun j x hj=>(h j x hj).elim (fun h=>h w o j) (fun h=>hs j x h)
def AnyL (E:Env) (ops:Array Oper) (listed:Array Bool) (fuel:Nat) (k:List KI) (V:VF) (H Hs:List HA):Prop:=
 ∀ a w,Rel E V H a w→ze9 E.r E.P ops (Qof E k) (SH E Hs) fuel listed a w
def AnyO (E:Env) (ops:Array Oper) (listed:Array Bool) (fuel:Nat) (k:List KI) (V:VF) (H Hs:List HA) (i:Nat):Prop:=
 ∀ a w,Rel E V H a w→wpOpI E.r E.P ops (Qof E k) i (fun a' w'=>SH E Hs w'∧ze9 E.r E.P ops (Qof E k) (SH E Hs) fuel (listed.setIfInBounds i true) a' w') a w
theorem z9I (hbl:E.blind=true) {d:Option Nat} {v:Value}:∀ (k:List KI) (c:List PanicEntry) (a:Act) (w:World),Qof E k (.panic c) (a.put d v) w→Qof E k (.panic c) a w
 | [],c,a,w,h=>E.np hbl c a d v w h
 | .code _::k,c,a,w,h=>z9I hbl k c a w h
 | .blk _::k,c,a,w,h=>z9I hbl k c a w h
 | .scope::k,c,a,w,h=>z9I hbl k c a w h
 | .loop _::k,c,a,w,h=>z9I hbl k c a w h
theorem z98 {id:Nat} {l:List Oper} (Hs:List HA) (hm:E.P.follows .mixedOrders=true) (h:AnyL E l.toArray (Array.replicate l.length false) l.length k V H Hs) (hnd:noDef E.r l.toArray=true:=by exact rfl):Run E (.region id l.toArray true) k V H:=by
 intro a w r
 refine zol (S:=SH E Hs) hnd hm ?_
 have:=h a _ r.drew
 simpa using this
variable {ops : Array Oper} {op : Oper} {listed : Array Bool} {fuel : Nat} {Hs : List HA}
theorem any_y {v:Value} (i:Nat) (hi:ops[i]? = some op) (hs:Region.noSelect ops=true) (hf:Region.free .any ops listed i=true) (hr:(Region.ready .any ops listed).contains i=true) (hsub:Sub H Hs)
  (hw:Wants E.n ops V op) (hd:inB E.n op.dst=true) (h:OpY E.P op V Hs v) (hk:AnyL E ops (listed.setIfInBounds i true) fuel k (V.put op.dst v) H Hs) (hbl:E.blind=true:=by exact rfl):AnyL E ops listed (fuel+1) k V H Hs:=by
 intro a w r
 have hS:SH E Hs w:=by
  obtain ⟨_,_,_,o,hb,ht,hst⟩:=r
  exact ⟨o,hb,ht.tr,hsub.sats hst⟩
 refine zfA hi hs hf hr (fun c a w hq=>z9I hbl k c a w hq) (.inl ⟨hw.wanted r,fun w' ⟨o,hb,ht,hst⟩=>h a.eval w' o r.fits hb hst⟩) hS ?_
 obtain ⟨h1,h2,h3,o,hb,ht,hst⟩:=r
 exact hk _ w (Rel.put h1 h2 h3 hd hb ht (Tr.refl w o) hst)
theorem zK (rs:List Nat) (hr:Region.ready .any ops listed=rs) (hne:rs.isEmpty=false) (h:∀ i∈rs,AnyO E ops listed fuel k V H Hs i):AnyL E ops listed (fuel+1) k V H Hs:=by
 intro a w r
 exact znw hr (by rintro rfl; simp at hne) fun i hi=>h i hi a w r
theorem zC:∀ i∈([]:List Nat),AnyO E ops listed fuel k V H Hs i:=fun i hi=>by simp at hi
theorem zk {i:Nat} {rs:List Nat} (h:AnyO E ops listed fuel k V H Hs i) (hr:∀ j∈rs,AnyO E ops listed fuel k V H Hs j):∀ j∈i::rs,AnyO E ops listed fuel k V H Hs j:=by
 intro j hj
 rcases List.mem_cons.1 hj with rfl | hj
 ·exact h
 ·exact hr j hj
theorem any_t {post:Post} {i:Nat} (hi:ops[i]? = some op) (hw:Wants E.n ops V op) (hd:inB E.n op.dst=true) (h:OpT E.P op V H post)
    (hk:∀ v H',post v H'→Sub H' Hs∧AnyL E ops (listed.setIfInBounds i true) fuel k (V.put op.dst v) H' Hs):AnyO E ops listed fuel k V H Hs i:=by
  intro a w r
  unfold wpOpI
  simp only [hi]
  rw [if_pos (hw.wanted r)]
  have hf:=r.fits
  obtain ⟨h1,h2,h3,o,hb,ht,hs⟩:=r
  have:=h a.eval w o hf hb hs
  unfold Does at this
  generalize (execOp a.eval op).run E.P w=x at *
  cases x with
  | halt x w'=>simp at this
  | ok nx w' =>
    cases nx <;> simp only [Oper.uponIn] at this ⊢
    case value v=>
      obtain ⟨H',o',hp,hb',ht',hs'⟩:=this
      exact ⟨⟨o',hb',ht.tr.trans ht',(hk v H' hp).1.sats hs'⟩,(hk v H' hp).2 _ _ (Rel.put h1 h2 h3 hd hb' ht ht' hs')⟩
    case skip=>
      obtain ⟨H',o',hp,hb',ht',hs'⟩:=this
      exact ⟨⟨o',hb',ht.tr.trans ht',(hk _ H' hp).1.sats hs'⟩,(hk _ H' hp).2 _ _ (Rel.put h1 h2 h3 hd hb' ht ht' hs')⟩
    case enter f args=>
      refine ⟨(fun h=>nomatch h),CallsIn.mono (F:=FR E.r) (callsIn_wide.2 this) ?_⟩
      rintro e w'' ⟨v,rfl,H',o',hp,hb',ht',hs'⟩
      exact ⟨⟨o',hb',ht.tr.trans ht',(hk v H' hp).1.sats hs'⟩,(hk v H' hp).2 _ _ (Rel.put h1 h2 h3 hd hb' ht ht' hs')⟩
theorem z1K (hr:Region.ready .any ops listed=[]) (h:Goes E k V H):AnyL E ops listed fuel k V H Hs:=fun a w r=>zlD hr (h a w r) fuel
theorem z1B {H' : List HA} (h:Turn H H') (hk:AnyL E ops listed fuel k V H' Hs):AnyL E ops listed fuel k V H Hs:=fun a w r=>hk a w (r.turn h)
theorem z1L (t:Nat) (b:Bool) (hv:V t=some (.bool b)) (ht:b=true→AnyL E ops listed fuel k (V.set t (.bool true)) H Hs)
  (hf:b=false→AnyL E ops listed fuel k (V.set t (.bool false)) H Hs):AnyL E ops listed fuel k V H Hs:=by
 have same:∀ c,b=c→∀ a,Agree V a→Agree (V.set t (.bool c)) a:=by
  intro c hc a ha u x hx
  rcases VF.set_eq hx with ⟨rfl,rfl⟩ | ⟨_,hx⟩
  ·exact hc ▸ ha u _ hv
  ·exact ha u x hx
 intro a w r
 cases hb:b with
 | true=>exact ht hb a w ⟨r.1,r.2.1,same _ hb a r.2.2.1,r.2.2.2⟩
 | false=>exact hf hb a w ⟨r.1,r.2.1,same _ hb a r.2.2.1,r.2.2.2⟩
end Go.Abs
namespace Go.Abs
variable {E : Env} {k : List KI} {V : VF} {H : List HA}
end Go.Abs
namespace Go.Abs
variable {E : Env} {k : List KI} {V : VF} {H : List HA} {ops : Array Oper} {listed : Array Bool} {fuel : Nat} {Hs : List HA}
theorem z3n {H' : List HA} {i:Nat} (h:Turn H H') (hk:AnyO E ops listed fuel k V H' Hs i):AnyO E ops listed fuel k V H Hs i:=fun a w r=>hk a w (r.turn h)
end Go.Abs
namespace Go.Abs
variable {E : Env} {k : List KI} {V : VF} {H : List HA} {ops : Array Oper} {listed : Array Bool} {fuel : Nat} {Hs : List HA}
theorem zlK {listed' : Array Bool} (l:List (Nat×Value)) (is:List Nat) (G:List HA) (hL:listed=listed') (hl:∀ x∈l,V x.1=some x.2) (hn:is.Nodup) (hG:Picks is H G)
  (h:AnyL E ops listed' fuel k (VF.of l) G Hs):AnyL E ops listed fuel k V H Hs:=by
 subst hL
 exact fun a w r=>h a w ((r.vle (VF.le_of l hl)).pick hn hG)
theorem z8X {op:Oper} (i:Nat) (hi:ops[i]? = some op) (hs:Region.noSelect ops=true) (hf:Region.free .any ops listed i=true) (hr:(Region.ready .any ops listed).contains i=true) (hsub:Sub H Hs)
  (j:Nat) (b:Bool) (t:Nat) (hg:op.guard=some (j,b)) (hj:((ops[j]?).bind (·.dst))=some t) (hv:V t=some undef) (ht:Nat.blt t E.n=true) (hd:inB E.n op.dst=true)
  (hk:AnyL E ops (listed.setIfInBounds i true) fuel k (V.put op.dst undef) H Hs) (hbl:E.blind=true:=by exact rfl):AnyL E ops listed (fuel+1) k V H Hs:=by
 intro a w r
 have hS:SH E Hs w:=by
  obtain ⟨_,_,_,o,hb,ht,hst⟩:=r
  exact ⟨o,hb,ht.tr,hsub.sats hst⟩
 have h2:=getD_some r.1 ht (r.2.2.1 t _ hv)
 refine zfA hi hs hf hr (fun c a w hq=>z9I hbl k c a w hq) (.inr ⟨by cases b <;> simp [Region.wanted,hg,yielded,hj,h2,undef],rfl⟩) hS ?_
 obtain ⟨h1,h2,h3,o,hb,ht,hst⟩:=r
 exact hk _ w (Rel.put h1 h2 h3 hd hb ht (Tr.refl w o) hst)
end Go.Abs
namespace Go.Abs
variable {E : Env} {k : List KI} {V : VF} {H : List HA} {ops : Array Oper} {listed : Array Bool} {fuel : Nat} {Hs : List HA}
theorem Rel.slc {a:Act} {w:World} (m:Nat) {h:HA} {v:Value} {es:Nat} {cells:List (List Value)} (hm:H[m]? = some h) (hr:Reads h v es cells) (q:Rel E V H a w):v.cells = #[v]∧v.oneCell'=true:=by
 obtain ⟨h1,h2,h3,o,hb,ht,hs⟩:=q
 obtain ⟨x,cap,e,_⟩:=hr.is w o m (hs m h hm)
 rw [e]; exact ⟨rfl,rfl⟩
theorem zcx {l:List Oper} (m:Nat) {h:HA} {v:Value} {es:Nat} {cells:List (List Value)} (hm:H[m]? = some h) (hr:Reads h v es cells) (hk:v.cells = #[v]→v.oneCell'=true→Ops E ops l k V H):Ops E ops l k V H:=
 fun a w q=>hk (q.slc m hm hr).1 (q.slc m hm hr).2 a w q
theorem zhR {i:Nat} (m:Nat) {h:HA} {v:Value} {es:Nat} {cells:List (List Value)} (hm:H[m]? = some h) (hr:Reads h v es cells) (hk:v.cells = #[v]→v.oneCell'=true→AnyO E ops listed fuel k V H Hs i):AnyO E ops listed fuel k V H Hs i:=
 fun a w q=>hk (q.slc m hm hr).1 (q.slc m hm hr).2 a w q
end Go.Abs
namespace Go.Abs
variable {E : Env} {k : List KI} {V : VF} {H : List HA}
def subS (v:Value) (es l r:Nat):Value:=match v with
 | .slice a _ cap=>.slice (if cap=l then a else a.map (·.add (l*es))) (r - l) (cap - l)
 | v=>v
theorem znq (m:Nat) {v:Value} {es l r:Nat} {cells:List (List Value)} (hm:H[m]? = some (ro v es cells)) (h1:l≤r) (h2:r≤cells.length):Turn H (H++[ro (subS v es l r) es ((cells.take r).drop l)]):=
 z9A fun w o hs=>by
  obtain ⟨a,cap,e1,e2,e3,e4,e5⟩:=id (hs m _ hm)
  have h3:=hs m _ hm
  subst e1
  exact z3V.sub h3 h1 h2 (by omega) (Nat.le_refl _)
theorem RowIs.sub {w:World} {M:Nat→Prop} {v:Value} {es l r:Nat} {cells:List (List Value)} (h:RowIs w M v es cells) (h1:l≤r) (h2:r≤cells.length):RowIs w M (subS v es l r) es ((cells.take r).drop l):=by
 rcases h with ⟨⟨a,rfl⟩,rfl⟩ | ⟨b,off,cap,arr,T,fz,rfl,g2,g3,g4,g5,g6,g7,g8,g9,g10⟩
 ·simp at h2
  obtain rfl:r=0:=h2
  obtain rfl:l=0:=by omega
  exact .inl ⟨⟨a,by simp [subS]⟩,by simp⟩
 ·by_cases hc:cap=l
  ·have:r=l:=by omega
   subst this
   refine .inl ⟨⟨_,by simp only [subS,hc,if_true,Nat.sub_self]; rfl⟩,by simp⟩
  ·have hadd:(Addr.add ⟨b,off,none⟩ (l*es))=⟨b,off+l*es,none⟩:=by unfold Addr.add; split <;> simp_all
   have hmul:off+cap*es=off+l*es+(cap - l)*es:=by rw [Nat.add_assoc,← Nat.add_mul]; congr 2; omega
   refine .inr ⟨b,off+l*es,cap - l,arr,T,fz,?_,g2,g3,g4,g5,by rw [g6,hmul],?_,by omega,fun c hc=>g9 c (List.mem_of_mem_take (List.mem_of_mem_drop hc)),?_⟩
   ·simp only [subS,hc,if_false,Option.map_some,hadd]
    congr 1
    simp
    omega
   ·simp; omega
   ·intro i c hi j x hj
    rw [List.getElem?_drop] at hi
    have hi' : cells[l+i]? = some c:=by
     rw [List.getElem?_take] at hi
     split at hi
     ·exact hi
     ·cases hi
    have:=g10 (l+i) c hi' j x hj
    rw [← this]
    congr 1
    rw [Nat.add_mul]; omega
section
variable {P : Program} {d : Option Nat} {ty : TypeId} {pos : String} {af : Array Edge} {g : Option (Nat × Bool)}
def Bi (V:VF) (x:Option Operand) (dflt:Nat) (n:Int):Prop:=(x=none∧n=(dflt:Int))∨∃ y kd,x=some y∧V.ev y=some (.int kd n)
theorem bi0 {dflt:Nat}:Bi V none dflt (dflt:Int):=.inl ⟨rfl,rfl⟩
theorem bi1 {y:Operand} {kd:IntKind} {dflt:Nat} {n:Int} (h:V.ev y=some (.int kd n)):Bi V (some y) dflt n:=.inr ⟨y,kd,rfl,h⟩
theorem Bi.bd {x:Option Operand} {dflt:Nat} {n:Int} (h:Bi V x dflt n) (h0:0≤n):Bd V x dflt n.toNat:=by
 rcases h with ⟨rfl,rfl⟩ | ⟨y,kd,rfl,hy⟩
 ·exact .inl ⟨rfl,by simp⟩
 ·exact .inr ⟨y,kd,rfl,by rw [hy,← zga h0]⟩
theorem zle {T el:TypeId} {x:Operand} {v:Value} {lo hi:Option Operand} {es:Nat} {l r:Int} {cells:List (List Value)} {h:HA} (m:Nat) (hu:∀ w,(underlying T).run P w = .ok (.slice el) w)
  (hz:∀ w,(sizeOf el).run P w = .ok es w) (hx:V.ev x=some v) (hm:H[m]? = some h) (hr' : Reads h v es cells) (hl:Bi V lo 0 l) (hr:Bi V hi cells.length r) (h0:0≤l) (h1:l≤r) (h2:r≤(cells.length:Int)) :
  OpY P ⟨d,.slice T x lo hi none,ty,pos,af,g⟩ V H (subS v es l.toNat r.toNat):=by
 intro ρ w o hf hbd hs
 obtain ⟨a,cap,e1,e2,e3,e4,e5⟩:=hr'.is w o m (hs m h hm)
 subst e1
 have hrun:=zg8 (P:=P) (T:=T) (w:=w) (a:=a) (mx:=none) hu hz hf (hl.bd h0) (hr.bd (by omega)) rfl (by omega) (by omega) e2
 simp only [Option.map_none] at hrun
 simp [execOp,hf x _ hx,hrun,subS]
theorem zlO (s:List UInt8) (l r:Nat) (h1:l≤r) (h2:r≤s.length):(bs s).extract l r=bs ((s.take r).drop l):=by
 simp only [bs]
 apply ByteArray.ext
 simp [ByteArray.data_extract,List.drop_take]
theorem z5R {T:TypeId} {x:Operand} {s:List UInt8} {lo hi:Option Operand} {l r:Int} (hu:∀ w,(underlying T).run P w = .ok .string w) (hx:V.ev x=some (.string (bs s))) (hl:Bi V lo 0 l) (hr:Bi V hi s.length r)
  (h0:0≤l) (h1:l≤r) (h2:r≤(s.length:Int)):OpY P ⟨d,.slice T x lo hi none,ty,pos,af,g⟩ V H (.string (bs ((s.take r.toNat).drop l.toNat))):=by
 intro ρ w o hf hbd hs
 have hsz:=zhn s
 have hex:=zlO s l.toNat r.toNat (by omega) (by omega)
 have hb1:∀ (kd:IntKind) (c:BoundsCode),(Instr.sliceBound (.int kd r) s.length c).run P w = .ok r.toNat w:=fun kd c=>by simp [Instr.sliceBound,asIntOf]; omega
 have hb2:∀ (kd:IntKind) (c:BoundsCode),(Instr.sliceBound (.int kd l) r.toNat c).run P w = .ok l.toNat w:=fun kd c=>by simp [Instr.sliceBound,asIntOf]; omega
 rcases hl with ⟨rfl,rfl⟩ | ⟨y,kd,rfl,hy⟩ <;> rcases hr with ⟨rfl,rfl⟩ | ⟨y',kd',rfl,hy'⟩
 ·simp at hex
  simp [execOp,hf x _ hx,Instr.sliceAt,Instr.slice,hu,Instr.sliceBounds,hsz,hex]
 ·simp at hex
  simp [execOp,hf x _ hx,Instr.sliceAt,Instr.slice,hu,Instr.sliceBounds,hsz,hf _ _ hy',hb1,hex]
 ·simp at hex hb2
  simp [execOp,hf x _ hx,Instr.sliceAt,Instr.slice,hu,Instr.sliceBounds,hsz,hf _ _ hy,hb2,hex]
 ·simp [execOp,hf x _ hx,Instr.sliceAt,Instr.slice,hu,Instr.sliceBounds,hsz,hf _ _ hy,hf _ _ hy',hb1,hb2,hex]
theorem zoQ {α:Type} {F:α→List Value} (l:List α) (a b:Nat):((l.map F).take b).drop a=((l.take b).drop a).map F:=by rw [List.map_drop,List.map_take]
theorem zes {α:Type} {F:α→List Value} {l:List α} {r:Int} (h:r≤(l.length:Int)):r≤((l.map F).length:Int):=by simpa using h
theorem zgs {α:Type} {F:α→List Value} {l:List α} {r:Int} (h:r≤(l.length:Int)):r.toNat≤(l.map F).length:=by simp; omega
end
theorem zhN {r:Option Nat} {P:Program} {ops:Array Oper} {Q:Exit→Act→World→Prop} {S S' : World→Prop} (h:∀ w,S' w→S w):∀ (fuel:Nat) (listed:Array Bool) (a:Act) (w:World),
  ze9 r P ops Q S' fuel listed a w→ze9 r P ops Q S fuel listed a w
 | 0,_,_,_,hh=>hh
 | fuel+1,_,_,_,hh=>⟨hh.1,fun i hi=>zgX (fun a' w' ⟨h1,h2⟩=>⟨h w' h1,zhN h fuel _ a' w' h2⟩) (hh.2 i hi)⟩
theorem zpn {ops:Array Oper} {listed:Array Bool} {fuel:Nat} {Hs:List HA} (Hs' : List HA) (hsub:Sub Hs' Hs) (hk:AnyL E ops listed fuel k V H Hs'):AnyL E ops listed fuel k V H Hs:=
 fun a w r=>zhN (fun w ⟨o,hb,ht,hs⟩=>⟨o,hb,ht,hsub.sats hs⟩) _ _ _ _ (hk a w r)
end Go.Abs
namespace Go.Abs
variable {E : Env} {k : List KI} {V : VF} {H : List HA}
def ownX (sh:List (Nat×Nat)) (o:Own):Own:=fun b=>match o b with
  | .mine m => match sh.findIdx? (fun s => s.2 == 2 && s.1 == m) with
    | some j=>.mine j
    | none=>if sh.any (fun s=>s.2 == 1 && s.1 == m) then .no else .far
  | x=>x
def okX (sh:List (Nat×Nat)):Bool:=(List.range sh.length).all fun j=>match sh[j]? with
 | some (m,mode)=>if mode == 2 then sh.findIdx? (fun s=>s.2 == 2 && s.1 == m) == some j else
  if mode == 1 then (sh.findIdx? (fun s=>s.2 == 2 && s.1 == m)).isNone else true
 | none=>true
def z9S (H:List HA) (sh:List (Nat×Nat)) (Hc:List HA):Prop:=
 sh.length=Hc.length∧∀ (j m mode:Nat) (h:HA),sh[j]? = some (m,mode)→Hc[j]? = some h→∃ h',H[m]? = some h'∧(if mode=2 then h'=h else Views h' h (mode == 1))
theorem z3r:z9S H [] []:=⟨rfl,fun j m mode h hj=>by simp at hj⟩
theorem z3U {sh:List (Nat×Nat)} {Hc:List HA} {h' h:HA} (m:Nat) (hm:H[m]? = some h') (hv:Views h' h false) (hr:z9S H sh Hc):z9S H ((m,0)::sh) (h::Hc):=by
 refine ⟨by simp [hr.1],fun j m' mode x hj hx=>?_⟩
 cases j with
 | zero=>simp at hj hx; obtain ⟨rfl,rfl⟩:=hj; subst hx; exact ⟨h',hm,hv⟩
 | succ j=>exact hr.2 j m' mode x (by simpa using hj) (by simpa using hx)
theorem z69 {sh:List (Nat×Nat)} {Hc:List HA} {h' h:HA} (m:Nat) (hm:H[m]? = some h') (hv:Views h' h true) (hr:z9S H sh Hc):z9S H ((m,1)::sh) (h::Hc):=by
 refine ⟨by simp [hr.1],fun j m' mode x hj hx=>?_⟩
 cases j with
 | zero=>simp at hj hx; obtain ⟨rfl,rfl⟩:=hj; subst hx; exact ⟨h',hm,hv⟩
 | succ j=>exact hr.2 j m' mode x (by simpa using hj) (by simpa using hx)
theorem z2f {sh:List (Nat×Nat)} {Hc:List HA} {h:HA} (m:Nat) (hm:H[m]? = some h) (hr:z9S H sh Hc):z9S H ((m,2)::sh) (h::Hc):=by
 refine ⟨by simp [hr.1],fun j m' mode x hj hx=>?_⟩
 cases j with
 | zero=>simp at hj hx; obtain ⟨rfl,rfl⟩:=hj; subst hx; exact ⟨h,hm,rfl⟩
 | succ j=>exact hr.2 j m' mode x (by simpa using hj) (by simpa using hx)
def z28 (sh:List (Nat×Nat)) (H:List HA):List HA:=sh.foldl (fun H s=>if s.2 == 2 then H.set s.1 HA.emp else H) H
theorem z8m:∀ (sh:List (Nat×Nat)) (H:List HA),(z28 sh H).length=H.length
  | [],H=>rfl
  | s :: sh, H => by
    unfold z28
    rw [List.foldl_cons]
    have:=z8m sh (if s.2 == 2 then H.set s.1 HA.emp else H)
    unfold z28 at this
    rw [this]; split <;> simp
theorem zde:∀ (sh:List (Nat×Nat)) (H:List HA) (m:Nat) (h:HA),(z28 sh H)[m]? = some h→h=HA.emp∨(H[m]? = some h∧∀ s∈sh,s.2=2→s.1≠m)
  | [],H,m,h,hm=>.inr ⟨hm,by simp⟩
  | s :: sh, H, m, h, hm => by
    unfold z28 at hm
    rw [List.foldl_cons] at hm
    rcases zde sh _ m h hm with h1 | ⟨h1,h2⟩
    · exact .inl h1
    · by_cases hs:s.2=2
      · simp only [hs,beq_self_eq_true,if_true] at h1
        by_cases he:s.1=m
        · left
          subst he
          rw [List.getElem?_set] at h1
          simp at h1
          exact h1.2.symm
        · rw [List.getElem?_set_ne he] at h1
          exact .inr ⟨h1,fun x hx h3=>by
            rcases List.mem_cons.1 hx with rfl | hx
            · exact he
            · exact h2 x hx h3⟩
      · have:(s.2 == 2)=false:=by simpa using hs
        simp only [this] at h1
        exact .inr ⟨h1,fun x hx h3=>by
          rcases List.mem_cons.1 hx with rfl | hx
          · exact absurd h3 hs
          · exact h2 x hx h3⟩
theorem zbx {P:Program} {d:Option Nat} {ty:TypeId} {pos:String} {af:Array Edge} {g:Option (Nat×Bool)} {fx:Operand} {f:FuncId} {xs:Array Operand} {Ts:Array TypeId} {vs cs:List Value} {Hc:List HA} {post:Post}
    (sh:List (Nat×Nat)) (hfx:V.ev fx=some (.func (.func f) #[] cs.toArray)) (hcall:∀ args w,(callFunc f args).run P w = .ok (.enter f args) w)
    (hxs:xs.toList.map V.ev=vs.map some) (hc:Meets P f (vs++cs) Hc post) (hsh:z9S H sh Hc) (hok:okX sh=true)
    (hst:(sh.all fun s=>s.2 != 1)=true∨∀ v G,post v G→∀ g∈G,g.Strict) :
    OpT P ⟨d,.call ⟨.value fx,xs,Ts⟩,ty,pos,af,g⟩ V H (fun v' H'=>∃ G,post v' G∧H'=z28 sh H++G):=by
  intro ρ w o hf hbd hs
  have hargs:(xs.map ρ)=vs.toArray:=by
    apply Array.ext'
    rw [Array.toList_map]
    generalize xs.toList=l at hxs
    clear hc
    induction l generalizing vs with
    | nil=>cases vs <;> simp_all
    | cons x r ih =>
      cases vs with
      | nil=>simp at hxs
      | cons v vs =>
        simp only [List.map_cons,List.cons.injEq] at hxs ⊢
        exact ⟨hf _ _ hxs.1,ih hxs.2⟩
  have hrun:(execOp ρ ⟨d,.call ⟨.value fx,xs,Ts⟩,ty,pos,af,g⟩).run P w = .ok (.enter f (vs++cs).toArray) w:=by
    simp [execOp,resolve,invoke,Deferred.ofValue,hf fx _ hfx,hargs,hcall]
  unfold Does
  rw [hrun]
  have hoc:∀ b,o b = .no→ownX sh o b = .no:=fun b hb=>by simp [ownX,hb]
  have hall:=List.all_eq_true.1 hok
  have hfar:∀ b,o b = .far→ownX sh o b = .far:=fun b hb=>by simp [ownX,hb]
  -- who holds a block of the caller's own during the call
  have hmine:∀ b m,o b = .mine m→(∃ j,sh.findIdx? (fun s=>s.2 == 2 && s.1 == m)=some j∧ownX sh o b = .mine j)∨
      (sh.findIdx? (fun s=>s.2 == 2 && s.1 == m)=none∧((ownX sh o b = .no∧(sh.any fun s=>s.2 == 1 && s.1 == m)=true)∨ownX sh o b = .far)):=by
    intro b m hb
    simp only [ownX,hb]
    cases hfi:sh.findIdx? (fun s=>s.2 == 2 && s.1 == m) with
    | some j=>exact .inl ⟨j,rfl,rfl⟩
    | none =>
      right
      refine ⟨rfl,?_⟩
      simp only []
      split
      · rename_i h; exact .inl ⟨rfl,h⟩
      · exact .inr rfl
  refine (hc w (ownX sh o) (fun b hb=>hoc b (hbd b hb)) ?_).mono ?_
  · intro j h hj
    have hlt:j<sh.length:=by rw [hsh.1]; exact (List.getElem?_eq_some_iff.1 hj).1
    obtain ⟨⟨m,mode⟩,hsj⟩ : ∃ s,sh[j]? = some s:=⟨_,List.getElem?_eq_getElem hlt⟩
    obtain ⟨h',hm,hv⟩:=hsh.2 j m mode h hsj hj
    have hchk:=hall j (by simp [hlt])
    rw [hsj] at hchk
    simp only at hchk
    by_cases h2:mode=2
    · subst h2
      simp only [if_true] at hv
      subst hv
      simp only [beq_self_eq_true,if_true,beq_iff_eq] at hchk
      exact h'.keep (Nat.le_refl _) (fun b _ hb=>⟨by simp only [ownX,hb,hchk],rfl⟩) (fun b _ hb=>⟨hoc b hb,rfl⟩) (hs _ h' hm)
    · rw [if_neg h2] at hv
      refine hv w o _ _ j (fun b _=>hoc b) (fun hl b _ hb=>?_) (hs _ h' hm)
      have h1:mode=1:=by simpa using hl
      subst h1
      simp only [show ((1:Nat) == 2)=false from rfl,beq_self_eq_true,if_true,Bool.false_eq_true,if_false,Option.isNone_iff_eq_none] at hchk
      rcases hmine b m hb with ⟨j',hj',_⟩ | ⟨_,h3 | h3⟩
      · rw [hchk] at hj'; cases hj'
      · exact h3.1
      · exfalso
        simp only [ownX,hb] at h3
        rw [hchk] at h3
        simp only at h3
        rw [if_pos (List.any_eq_true.2 ⟨(m,1),List.mem_of_getElem? hsj,by simp⟩)] at h3
        cases h3
  · rintro e w' ⟨v,G,o',rfl,hp,hb',ht,hs'⟩
    let o2 : Own := fun b => if b < w.heap.size then (match o b with
        | .mine m=>if (sh.findIdx? (fun s=>s.2 == 2 && s.1 == m)).isSome then (match o' b with | .mine j=>.mine (H.length+j) | _=>.no) else .mine m
        | x=>x) else match o' b with | .mine j=>.mine (H.length+j) | _=>.no
    -- what is not lent is as it was
    have keepb:∀ b,b<w.heap.size→(∀ m,o b = .mine m→sh.findIdx? (fun s=>s.2 == 2 && s.1 == m)=none)→o2 b=o b∧w'.heap[b]? = w.heap[b]?:=by
      intro b hlt hnl
      cases hob:o b with
      | no=>exact ⟨by simp [o2,hlt,hob],(ht.no b hlt (hoc b hob)).2⟩
      | far=>exact ⟨by simp [o2,hlt,hob],(ht.far b hlt (hfar b hob)).2⟩
      | mine m =>
        have hn:=hnl m hob
        refine ⟨by simp [o2,hlt,hob,hn],?_⟩
        rcases hmine b m hob with ⟨j,hj,_⟩ | ⟨_,h3 | h3⟩
        · rw [hn] at hj; cases hj
        · exact (ht.no b hlt h3.1).2
        · exact (ht.far b hlt h3).2
    have hG:∀ j b,o' b = .mine j→o2 b = .mine (H.length+j):=by
      intro j b he
      by_cases hlt:b<w.heap.size
      · cases hob:o b with
        | no=>have:=(ht.no b hlt (hoc b hob)).1; rw [he] at this; cases this
        | far=>have:=(ht.far b hlt (hfar b hob)).1; rw [he] at this; cases this
        | mine m =>
          rcases hmine b m hob with ⟨j',hj',_⟩ | ⟨hn,h3 | h3⟩
          · simp [o2,hlt,hob,hj',he]
          · have:=(ht.no b hlt h3.1).1; rw [he] at this; cases this
          · have:=(ht.far b hlt h3).1; rw [he] at this; cases this
      · simp [o2,hlt,he]
    refine ⟨v,rfl,z28 sh H++G,o2,⟨G,hp,rfl⟩,?_,?_,?_⟩
    · intro b hle
      have hsz:=ht.size
      have:¬ b<w.heap.size:=by omega
      simp [o2,this,hb' b hle]
    · refine ⟨ht.os,ht.tape,ht.output,ht.size,fun b hlt hb=>?_,fun b hlt hb=>?_⟩
      · have:=keepb b hlt (fun m hm=>by rw [hb] at hm; cases hm)
        exact ⟨this.1.trans hb,this.2⟩
      · have:=keepb b hlt (fun m hm=>by rw [hb] at hm; cases hm)
        exact ⟨this.1.trans hb,this.2⟩
    · intro j h hj
      rw [List.getElem?_append] at hj
      split at hj
      · rename_i hlt0
        rcases zde sh H j h hj with rfl | ⟨hj1,hj2⟩
        · trivial
        · refine h.keep ht.size (fun b hlt hb=>?_) (fun b hlt hb=>?_) (hs j h hj1)
          · have:=keepb b hlt (fun m hm=>by
              rw [hb] at hm; injection hm with hm; subst hm
              rw [List.findIdx?_eq_none_iff]
              intro s hsm
              by_cases h2:s.2=2
              · have:=hj2 s hsm h2; simp [this]
              · simp [h2])
            exact ⟨this.1.trans hb,this.2⟩
          · have:=keepb b hlt (fun m hm=>by rw [hb] at hm; cases hm)
            exact ⟨this.1.trans hb,this.2⟩
      · rename_i hge
        rw [z8m] at hge hj
        have hjj:H.length+(j - H.length)=j:=by omega
        have hp':=hs' _ h hj
        rcases hst with hst | hst
        · refine h.keep (Nat.le_refl _) (fun b _ hb=>⟨by rw [hG _ b hb,hjj],rfl⟩) (fun b hlt hb=>⟨?_,rfl⟩) hp'
          by_cases hlt' : b<w.heap.size
          · cases hob:o b with
            | no=>simp [o2,hlt',hob]
            | far=>have:=(ht.far b hlt' (hfar b hob)).1; rw [hb] at this; cases this
            | mine m =>
              rcases hmine b m hob with ⟨j',hj',_⟩ | ⟨hn,h3 | h3⟩
              · simp [o2,hlt',hob,hj',hb]
              · exfalso
                obtain ⟨s,hsm,hs2⟩:=List.any_eq_true.1 h3.2
                have:=List.all_eq_true.1 hst s hsm
                simp at this hs2
                exact this hs2.1
              · have:=(ht.far b hlt' h3).1; rw [hb] at this; cases this
          · simp [o2,hlt',hb]
        · have hgm:h∈G:=List.mem_of_getElem? hj
          exact hst v G hp h hgm w' o' _ o2 j (fun b _ hb=>by rw [hG _ b hb,hjj]) hp'
end Go.Abs
namespace Go.Abs
variable {E : Env} {k : List KI} {V : VF} {H : List HA}
section
variable {P : Program} {d : Option Nat} {ty : TypeId} {pos : String} {af : Array Edge} {g : Option (Nat × Bool)}
theorem znC {f:FuncId} {caps:Array Operand} {vs:List Value} (h:caps.toList.map V.ev=vs.map some):OpY P ⟨d,.makeFunc (.func f) #[] caps,ty,pos,af,g⟩ V H (.func (.func f) #[] vs.toArray):=by
  intro ρ w o hf _ _
  have:caps.map ρ=vs.toArray:=by
    apply Array.ext'
    rw [Array.toList_map]
    generalize caps.toList=l at h
    induction l generalizing vs with
    | nil=>cases vs <;> simp_all
    | cons x r ih =>
      cases vs with
      | nil=>simp at h
      | cons v vs =>
        simp only [List.map_cons,List.cons.injEq] at h ⊢
        exact ⟨hf _ _ h.1,ih h.2⟩
  simp [execOp,Instr.makeFunc,this]
theorem zmU (n:Nat) (c:List Value):(List.replicate n c).flatten.length=n*c.length:=by
 induction n with
 | zero=>simp
 | succ n ih=>rw [List.replicate_succ,List.flatten_cons,List.length_append,ih,Nat.succ_mul,Nat.add_comm]
theorem zmT (n:Nat) (z:Array Value) (hz:z.size≠0):(Array.range (n*z.size)).map (z[· % z.size]!)=(List.replicate n z.toList).flatten.toArray:=by
 have hl:(List.replicate n z.toList).flatten.length=n*z.size:=by rw [zmU]; simp
 apply Array.ext_getElem?
 intro i
 by_cases hi:i<n*z.size
 ·have h1:i % z.size<z.size:=Nat.mod_lt _ (by omega)
  have h2:i / z.size<n:=Nat.div_lt_of_lt_mul (by rw [Nat.mul_comm]; exact hi)
  have:=zgm (es:=z.size) (List.replicate n z.toList) (by intro c hc; rw [List.eq_of_mem_replicate hc]; simp) (i / z.size) (i % z.size) z.toList z[i % z.size] (by simp [h2]) (by simp [h1])
  rw [Nat.mul_comm,Nat.div_add_mod] at this
  have e2:((List.replicate n z.toList).flatten.toArray)[i]? = some z[i % z.size]:=by simpa using this
  rw [e2]
  simp [hi,h1]
 ·rw [Array.getElem?_eq_none (by simp; omega),Array.getElem?_eq_none (by rw [List.size_toArray]; omega)]
theorem zlz {T el:TypeId} {z:Value} {ti:TypeInfo} {x y:Operand} {n:Int} {es:Nat} (hu:∀ w,(underlying T).run P w = .ok (.slice el) w) (hti:∀ w,(typeInfo el).run P w = .ok ti w) (hes:ti.size=es) (h0:∀ w,(zeroValue el).run P w = .ok z w)
  (hzs:z.cells.size=es) (hpos:es≠0) (hx:V.ev x=some (.int .i64 n)) (hy:V.ev y=some (.int .i64 n)) (hn0:0≤n) (hn1:n≤4294967296) (hb:ti.bytes≤16384) :
  OpT P ⟨d,.makeSlice T x y,ty,pos,af,g⟩ V H (fun v' H'=>H'=H++[row v' es (List.replicate n.toNat z.cells.toList)]):=by
 intro ρ w o hf hbd hs
 have hw:IntKind.i64.wrap n=n:=zb6 (by omega) (by omega)
 have hsz:∀ w,(sizeOf el).run P w = .ok es w:=fun w=>by simp [sizeOf,hti,hes]
 have hbn:(ti.bytes:Int)*n≤16384*4294967296:=by
  have h1:(ti.bytes:Int)*n≤16384*n:=Int.mul_le_mul_of_nonneg_right (by omega) hn0
  omega
 have hbig:¬ (281474976710656:Int)<(ti.bytes:Int)*n:=by omega
 have hroom:¬ roomBytes<n.toNat*ti.bytes:=by
  have h1:n.toNat*ti.bytes≤4294967296*16384:=Nat.mul_le_mul (by omega) hb
  have h2:4294967296*16384≤roomBytes:=by unfold roomBytes; decide
  omega
 have hfl:=zmT n.toNat z.cells (by omega)
 rw [hzs] at hfl
 have hcells:(if n.toNat*es=0 then (Array.range (n.toNat*es)).map ((#[]:Array Value)[· % (#[]:Array Value).size]!) else (Array.range (n.toNat*es)).map (z.cells[· % z.cells.size]!))=(List.replicate n.toNat z.cells.toList).flatten.toArray:=by
  split
  ·rename_i h
   have:n.toNat=0:=by rcases Nat.mul_eq_zero.1 h with h | h <;> omega
   simp [this]
  ·rw [hzs]; exact hfl
 have hrun:(execOp ρ ⟨d,.makeSlice T x y,ty,pos,af,g⟩).run P w = .ok (.value (.slice (some ⟨w.heap.size,0,none⟩) n.toNat n.toNat)) { w with heap:=w.heap.push (.cells (List.replicate n.toNat z.cells.toList).flatten.toArray el) }:=by
  by_cases hne:n.toNat*es=0
  ·rw [if_pos hne] at hcells
   simp [execOp,Instr.makeSlice,hf x _ hx,hf y _ hy,hu,asInt,asIntOf,hti,hw,hbig,Int.not_lt.2 hn0,askRoom,hroom,hsz,hne,newRow]
   rw [← hcells,hne]; simp
  ·rw [if_neg hne] at hcells
   simp [execOp,Instr.makeSlice,hf x _ hx,hf y _ hy,hu,asInt,asIntOf,hti,hw,hbig,Int.not_lt.2 hn0,askRoom,hroom,hsz,hne,h0,newRow]
   rw [← hcells]
 unfold Does
 rw [hrun]
 have hn':=zdG w (.cells (List.replicate n.toNat z.cells.toList).flatten.toArray el) w.drawn
 have hall:∀ c∈List.replicate n.toNat z.cells.toList,c.length=es:=fun c hc=>by rw [List.eq_of_mem_replicate hc,Array.length_toList,hzs]
 have hrow:RowIs { w with heap:=w.heap.push (.cells (List.replicate n.toNat z.cells.toList).flatten.toArray el) } (fun b=>zar o w.heap.size H.length b = .mine H.length) (.slice (some ⟨w.heap.size,0,none⟩) n.toNat n.toNat) es (List.replicate n.toNat z.cells.toList):=by
  refine .inr ⟨w.heap.size,0,n.toNat,(List.replicate n.toNat z.cells.toList).flatten.toArray,el,(0,0),by simp,by simp [zar],by simp,by simp,.inl (Nat.le_refl _),?_,by simp,by unfold maxLen; omega,hall,?_⟩
  ·rw [List.size_toArray,zmU]; simp [hzs]
  ·intro i c hi j x hj
   rw [Nat.zero_add]
   simpa using zgm _ hall i j c x hi hj
 obtain ⟨h1,h2,h3⟩:=zbW (g:=row (.slice (some ⟨w.heap.size,0,none⟩) n.toNat n.toNat) es (List.replicate n.toNat z.cells.toList)) hbd hn' hs hrow
 exact ⟨_,_,rfl,h1,h2,h3⟩
theorem zrP {α:Type} {F:α→List Value} {n:Nat} {c:List Value} {a:α} (h:c=F a):List.replicate n c=(List.replicate n a).map F:=by rw [h,List.map_replicate]
end
def mget {κ β:Type} [DecidableEq κ]:List (κ×β)→κ→Option β
 | [],_=>none
 | p::r,k=>if p.1=k then some p.2 else mget r k
def mput {κ β:Type} [DecidableEq κ]:List (κ×β)→κ→β→List (κ×β)
 | [],k,v=>[(k,v)]
 | p::r,k,v=>if p.1=k then (k,v)::r else p::mput r k v
def mfind {κ β:Type} [DecidableEq κ]:List (κ×β)→κ→Nat→Option (Nat×β)
 | [],_,_=>none
 | p::r,k,i=>if p.1=k then some (i,p.2) else mfind r k (i+1)
theorem zib {κ β:Type} [DecidableEq κ]:∀ (l:List (κ×β)) (k:κ) (i:Nat),(mfind l k i).map (·.2)=mget l k
  | [],_,_=>rfl
  | p :: r, k, i => by
    simp only [mfind,mget]
    split
    · rfl
    · exact zib r k (i+1)
structure KeyOk {κ:Type} [DecidableEq κ] (ds:TypeDesc) (K:κ→Value):Prop where
 same:∀ a b,Instr.sameNow ds (K a) (K b)=some (decide (a=b))
 bits:∀ a n,Instr.sameBits n (K a) (K a)=true
 plain:∀ (P:Program) (t:TypeId),(∀ w,(underlying t).run P w = .ok ds w)→∀ e a w,(Instr.checkKey e 10000 t (K a)).run P w = .ok () w
theorem z4A:KeyOk .string (fun l:List UInt8=>Value.string (bs l)):=
 ⟨fun a b=>by
  have:(bs a == bs b)=decide (a=b):=by show (a.toArray == b.toArray)=_; simp [zc3]
  simp [Instr.sameNow,this],fun a n=>by
  have:(bs a == bs a)=true:=by show (a.toArray == a.toArray)=_; simp
  cases n <;> simp [Instr.sameBits,this],fun P t h e a w=>by
  rw [show (10000:Nat)=9999+1 from rfl,Instr.checkKey]
  simp only [Sem.run_bind,h,Result.andThen_ok]; rfl⟩
section
variable {P : Program} {d : Option Nat} {ty : TypeId} {pos : String} {af : Array Edge} {g : Option (Nat × Bool)} {κ β : Type} [DecidableEq κ]
def mcells (K:κ→Value) (G:β→Value) (l:List (κ×β)):List (Value×Value):=l.map fun p=>(K p.1,G p.2)
def mapis (r:Nat) (kv:List (Value×Value)):HA:=
 ⟨fun w o k=>o r = .mine k∧r<w.heap.size∧∃ es clock,w.heap[r]? = some (.map es clock)∧es.toList.map (fun e=>(e.key,e.val))=kv∧(∀ e∈es.toList,e.born<clock)∧(es.toList.map fun e:MapEntry=>e.born).Nodup,fun hs h1 _ hc=>
  let ⟨e1,e2,es,cl,e3,e4⟩:=hc; let ⟨e5,e6⟩:=h1 r e2 e1; ⟨e5,Nat.lt_of_lt_of_le e2 hs,es,cl,e6.trans e3,e4⟩⟩
def mapV (r:Nat):Value:=.map (some r)
theorem ziW {ds:TypeDesc} {K:κ→Value} {G:β→Value} (hK:KeyOk ds K) (k:κ):∀ (es:List MapEntry) (l:List (κ×β)) (i:Nat),es.map (fun e=>(e.key,e.val))=mcells K G l→
    Instr.findNow ds (K k) es i=some ((mfind l k i).map fun p=>(p.1,G p.2))
  | [], l, i, h => by
    cases l with
    | nil=>rfl
    | cons p r=>simp [mcells] at h
  | e :: es, l, i, h => by
    cases l with
    | nil=>simp [mcells] at h
    | cons p r =>
      simp only [mcells,List.map_cons,List.cons.injEq,Prod.mk.injEq] at h
      obtain ⟨⟨h1,h2⟩,h3⟩:=h
      simp only [Instr.findNow,mfind,h1,hK.same]
      by_cases hp:p.1=k
      · subst hp; simp [h2]
      · have:¬ k=p.1:=fun h=>hp h.symm
        simp only [this,decide_false,hp,if_false]
        exact ziW hK k es r (i+1) h3
theorem ze6 {w:World} {t:TypeId} {ds:TypeDesc} {K:κ→Value} {G:β→Value} (hK:KeyOk ds K) (hu:∀ w,(underlying t).run P w = .ok ds w) {es:List MapEntry} {l:List (κ×β)} (h:es.map (fun e=>(e.key,e.val))=mcells K G l) (k:κ) :
  (Instr.findKey t (K k) es).run P w = .ok ((mfind l k 0).map fun p=>(p.1,G p.2)) w:=by
 simp [Instr.findKey,hu,ziW hK k es l 0 h]
theorem zaq {T kt el:TypeId} {ds:TypeDesc} {K:κ→Value} {G:β→Value} {x y:Operand} {r:Nat} {l:List (κ×β)} {k:κ} {d0:β} (m:Nat) (hK:KeyOk ds K) (hT:∀ w,(underlying T).run P w = .ok (.map kt el) w) (hk:∀ w,(underlying kt).run P w = .ok ds w)
    (hz:∀ w,(zeroValue el).run P w = .ok (G d0) w) (hx:V.ev x=some (mapV r)) (hy:V.ev y=some (K k)) (hm:H[m]? = some (mapis r (mcells K G l))):OpY P ⟨d,.lookup T x y false,ty,pos,af,g⟩ V H (G ((mget l k).getD d0)):=by
  intro ρ w o hf _ hs
  obtain ⟨_,_,es,cl,e3,e4,_⟩:=hs m _ hm
  have h1:=ze6 (P:=P) (w:=w) hK hk e4 k
  have h2:(getObj r).run P w = .ok (.map es cl) w:=by simp [getObj,Sem.run,e3]
  have h3:=hK.plain P kt hk es.isEmpty k w
  have hg:=zib l k 0
  cases hfi:mfind l k 0 with
  | none =>
    rw [hfi] at h1 hg
    simp at hg h1
    simp [execOp,Instr.lookup,hf x _ hx,hf y _ hy,hT,mapV,h2,h3,h1,hz,← hg]
  | some p =>
    rw [hfi] at h1 hg
    simp at hg h1
    simp [execOp,Instr.lookup,hf x _ hx,hf y _ hy,hT,mapV,h2,h3,h1,← hg]
theorem zj4 {K:κ→Value} {G:β→Value}:∀ (es:List MapEntry) (l:List (κ×β)) (k:κ) (v:β) (i:Nat),es.map (fun e=>(e.key,e.val))=mcells K G l→
    (match mfind l k i with
      | none=>∀ b,(es++[(⟨K k,G v,b⟩ : MapEntry)]).map (fun e=>(e.key,e.val))=mcells K G (mput l k v)
      | some (j,_)=>i≤j∧(es.modify (j - i) fun e=>{ e with key:=K k,val:=G v }).map (fun e=>(e.key,e.val))=mcells K G (mput l k v)∧((es[j - i]?).map (·.key))=some (K k))
  | [], l, k, v, i, h => by
    cases l with
    | nil=>simp [mfind,mput,mcells]
    | cons p r=>simp [mcells] at h
  | e :: es, l, k, v, i, h => by
    cases l with
    | nil=>simp [mcells] at h
    | cons p r =>
      simp only [mcells,List.map_cons,List.cons.injEq,Prod.mk.injEq] at h
      obtain ⟨⟨h1,h2⟩,h3⟩:=h
      by_cases hp:p.1=k
      · subst hp
        simp only [mfind,mput,if_true]
        refine ⟨Nat.le_refl _,?_,?_⟩
        · simp [mcells,h3]
        · simp [h1]
      · have ih:=zj4 (K:=K) (G:=G) es r k v (i+1) h3
        simp only [mfind,mput,if_neg hp]
        cases hm:mfind r k (i+1) with
        | none =>
          rw [hm] at ih
          intro b
          have:=ih b
          simp only [mcells] at this ⊢
          simp [h1,h2,← this]
        | some q =>
          obtain ⟨j,b⟩:=q
          rw [hm] at ih
          obtain ⟨i1,i2,i3⟩:=ih
          have e:j - i=(j - (i+1))+1:=by omega
          refine ⟨by omega,?_,?_⟩
          · rw [e,List.modify_succ_cons]
            simp only [List.map_cons,i2]
            simp [mcells,h1,h2]
          · rw [e]; simpa using i3
theorem z2L {T kt el:TypeId} {ds:TypeDesc} {K:κ→Value} {G:β→Value} {x y z:Operand} {r:Nat} {l:List (κ×β)} {k:κ} {v:β} (m:Nat) (hK:KeyOk ds K) (hT:∀ w,(underlying T).run P w = .ok (.map kt el) w) (hk:∀ w,(underlying kt).run P w = .ok ds w)
    (hx:V.ev x=some (mapV r)) (hy:V.ev y=some (K k)) (hz:V.ev z=some (G v)) (hm:H[m]? = some (mapis r (mcells K G l))) (ins:Bool) :
    OpT P ⟨d,if ins then .insert T x y z else .mapUpdate T x y z,ty,pos,af,g⟩ V H (fun v' H'=>v'=undef∧H'=H.set m (mapis r (mcells K G (mput l k v)))):=by
  intro ρ w o hf hbd hs
  obtain ⟨e1,e2,es,cl,e3,e4,e5,e6⟩:=hs m _ hm
  have h1:=ze6 (P:=P) (w:=w) hK hk e4 k
  have h2:(getObj r).run P w = .ok (.map es cl) w:=by simp [getObj,Sem.run,e3]
  have h3:=hK.plain P kt hk false k w
  have hmp:=zj4 (K:=K) (G:=G) es.toList l k v 0 e4
  obtain ⟨es',cl',hrun,hes,hb1,hb2⟩ : ∃ es' cl',(Instr.mapUpdate T (mapV r) (K k) (G v)).run P w = .ok () { w with heap:=w.heap.setIfInBounds r (.map es' cl') }∧es'.toList.map (fun e=>(e.key,e.val))=mcells K G (mput l k v)∧(∀ e∈es'.toList,e.born<cl')∧(es'.toList.map (·.born)).Nodup:=by
    cases hfi:mfind l k 0 with
    | none =>
      rw [hfi] at h1 hmp
      refine ⟨es.push ⟨K k,G v,cl⟩,cl+1,?_,by simpa using hmp cl,?_,?_⟩
      rotate_left
      · intro e he
        rw [Array.toList_push,List.mem_append] at he
        rcases he with he | he
        · have:=e5 e he; omega
        · rw [List.mem_singleton.1 he]; simp
      · rw [Array.toList_push,List.map_append,List.nodup_append]
        refine ⟨e6,by simp,fun a ha b hb=>?_⟩
        simp only [List.map_cons,List.map_nil,List.mem_singleton] at hb
        obtain ⟨x,hx,rfl⟩:=List.mem_map.1 ha
        have:=e5 x hx
        omega
      simp at h1
      simp [Instr.mapUpdate,mapV,hT,h2,h3,h1,setObj,Sem.run,e3]
    | some q =>
      obtain ⟨j,b⟩:=q
      rw [hfi] at h1 hmp
      obtain ⟨_,m1,m2⟩:=hmp
      simp at h1 m1 m2
      have hbo:((es.modify j fun e=>{ e with key:=K k,val:=G v }).toList.map (·.born))=es.toList.map (·.born):=by
        apply List.ext_getElem?
        intro q
        rw [Array.toList_modify]
        simp only [List.getElem?_map,List.getElem?_modify]
        cases es.toList[q]? with
        | none=>simp
        | some e=>by_cases hq:j=q <;> simp [hq]
      refine ⟨es.modify j fun e=>{ e with key:=K k,val:=G v },cl,?_,by simpa using m1,?_,by rw [hbo]; exact e6⟩
      rotate_left
      · intro e he
        have:e.born∈es.toList.map (·.born):=by rw [← hbo]; exact List.mem_map.2 ⟨e,he,rfl⟩
        obtain ⟨x,hx,h⟩:=List.mem_map.1 this
        rw [← h]; exact e5 x hx
      obtain ⟨ee,he1,he2⟩:=m2
      have hkey:(Instr.keyThatStays (((es[j]?).map (·.key)).getD (K k)) (K k)).run P w = .ok (K k) w:=by
        simp [he1,he2,Instr.keyThatStays,hK.bits]
      simp [Instr.mapUpdate,mapV,hT,h2,h3,h1]
      rw [hkey]
      simp [setObj,Sem.run,e3]
  have hrun2:(execOp ρ ⟨d,if ins then .insert T x y z else .mapUpdate T x y z,ty,pos,af,g⟩).run P w = .ok .skip { w with heap:=w.heap.setIfInBounds r (.map es' cl') }:=by
    cases ins <;> simp [execOp,hf x _ hx,hf y _ hy,hf z _ hz,hrun]
  unfold Does
  rw [hrun2]
  have hoth:∀ b,b≠r→(w.heap.setIfInBounds r (.map es' cl'))[b]? = w.heap[b]?:=fun b hb=>Array.getElem?_setIfInBounds_ne (Ne.symm hb)
  refine ⟨_,o,⟨rfl,rfl⟩,fun b hb=>hbd b (by simpa using hb),⟨rfl,rfl,rfl,by simp,fun b hlt hb=>⟨hb,hoth b ?_⟩,fun b hlt hb=>⟨hb,hoth b ?_⟩⟩,?_⟩
  · rintro rfl; rw [e1] at hb; cases hb
  · rintro rfl; rw [e1] at hb; cases hb
  · refine z4p (by simp) (fun b hlt hb=>⟨rfl,hoth b ?_⟩) hs ⟨e1,by simpa using e2,es',cl',by simp [e2],hes,hb1,hb2⟩
    rintro rfl; exact hb e1
theorem ziC {T:TypeId}:OpT P ⟨d,.makeMap T none,ty,pos,af,g⟩ V H (fun v' H'=>∃ r,v'=mapV r∧H'=H++[mapis r []]):=by
 intro ρ w o hf hbd hs
 have hn:=zdG w (.map #[] 0) w.drawn
 have hrun:(execOp ρ ⟨d,.makeMap T none,ty,pos,af,g⟩).run P w = .ok (.value (mapV w.heap.size)) { w with heap:=w.heap.push (.map #[] 0) }:=by
  simp [execOp,Instr.makeMap,newObj,mapV,Sem.run]
 unfold Does
 rw [hrun]
 obtain ⟨h1,h2,h3⟩:=zbW (g:=mapis w.heap.size []) hbd hn hs ⟨by simp [zar],by simp,#[],0,by simp,rfl,by simp,by simp⟩
 exact ⟨_,_,⟨_,rfl,rfl⟩,h1,h2,h3⟩
end
end Go.Abs
namespace Go.Abs
variable {E : Env} {k : List KI} {V : VF} {H : List HA}
def Free (a:HA):Prop:=∀ w o o' k k',(∀ b,b<w.heap.size→o b = .no→o' b = .no)→a.p w o k→a.p w o' k'
theorem Free.at {a:HA} (h:Free a):∀ w o k k',a.p w o k→a.p w o k':=fun w o k k'=>h w o o k k' fun _ _ h=>h
theorem zb8 {v:Value} {es:Nat} {cells:List (List Value)}:Free (ro v es cells):=fun _ _ _ _ _ ho h=>z3V.keep (Nat.le_refl _) (fun b hlt hb=>⟨ho b hlt hb,rfl⟩) h
theorem zgW {a:HA} (h:Free a):Views a a false:=fun w o m oc j h1 _ hp=>h w o oc m j h1 hp
structure NC (α:Type) where
 G:Type
 es:Nat
 F:α→G→List Value
 S:α→G→List HA
 free:∀ x g,∀ h∈S x g,Free h
 ok:∀ x g w o k,(∀ h∈S x g,h.p w o k)→(F x g).length=es∧∀ u∈F x g,u.oneCell'=true
 /-- what is only read and empty is nil -/
 nn:Bool:=false
def HsP (L:List HA) (w:World) (o:Own) (k:Nat):Prop:=∀ h∈L,h.p w o k
theorem HsP.keep {L:List HA} {w w' : World} {o o' : Own} {k k' : Nat} (hs:w.heap.size≤w'.heap.size) (h1:∀ b,b<w.heap.size→o b = .mine k→o' b = .mine k'∧w'.heap[b]? = w.heap[b]?)
 (h2:∀ b,b<w.heap.size→o b = .no→o' b = .no∧w'.heap[b]? = w.heap[b]?) (h:HsP L w o k):HsP L w' o' k':=fun x hx=>x.keep hs h1 h2 (h x hx)
theorem HsP.free {L:List HA} (hL:∀ h∈L,Free h) {w:World} {o o' : Own} {k k' : Nat} (ho:∀ b,b<w.heap.size→o b = .no→o' b = .no) (h:HsP L w o k):HsP L w o' k':=
 fun x hx=>hL x hx w o o' k k' ho (h x hx)
section
variable {α : Type} {C : NC α} {v : Value} {l : List α}
def NC.cs (C:NC α) (lg:List (α×C.G)):List (List Value):=lg.map fun p=>C.F p.1 p.2
def nrow (v:Value) (C:NC α) (l:List α):HA:=
  ⟨fun w o k => ∃ lg : List (α × C.G), l = lg.map (·.1) ∧ RowIs w (fun b => o b = .mine k) v C.es (C.cs lg) ∧ ∀ p ∈ lg, HsP (C.S p.1 p.2) w o k,
   fun hs h1 h2 ⟨lg,e,a,b⟩=>⟨lg,e,a.keep hs h1,fun p hp=>(b p hp).keep hs h1 h2⟩⟩
def nro (v:Value) (C:NC α) (l:List α):HA:=
  ⟨fun w o k => (∃ lg : List (α × C.G), l = lg.map (·.1) ∧ z3V w (fun b => o b = .no) v C.es (C.cs lg) ∧ ∀ p ∈ lg, HsP (C.S p.1 p.2) w o k) ∧ (C.nn = true → l = [] → v = .slice none 0 0),
   fun hs h1 h2 ⟨⟨lg,e,a,b⟩,z⟩=>⟨⟨lg,e,a.keep hs h2,fun p hp=>(b p hp).keep hs h1 h2⟩,z⟩⟩
theorem NC.cs_len {lg:List (α×C.G)} (h:l=lg.map (·.1)):(C.cs lg).length=l.length:=by rw [h]; simp [NC.cs]
theorem z6r:Free (nro v C l):=fun w o o' k k' ho ⟨⟨lg,e,a,b⟩,z⟩=>⟨⟨lg,e,a.keep (Nat.le_refl _) (fun b hlt hb=>⟨ho b hlt hb,rfl⟩),fun p hp=>(b p hp).free (C.free _ _) ho⟩,z⟩
theorem z60:Views (nro v C l) (nro v C l) false:=zgW z6r
theorem zbA (hn:C.nn=true→l≠[]:=by exact fun h=>absurd h (by decide)):Views (nrow v C l) (nro v C l) true:=fun w o m oc j h1 h2 ⟨lg,e,a,b⟩=>
 ⟨⟨lg,e,(RowIs.slice (B:=fun b=>o b = .mine m) (fun _ hb=>hb) a).keep (Nat.le_refl _) (fun b hlt hb=>⟨h2 rfl b hlt hb,rfl⟩),fun p hp=>(b p hp).free (C.free _ _) h1⟩,fun h he=>absurd he (hn h)⟩
theorem zbz {h:HA} {h' : HA} (hv:Views h' h false):Views h' h true:=fun w o m oc j h1 _=>hv w o m oc j h1 (by simp)
theorem z24 (m:Nat) (hm:H[m]? = some (nrow v C l)) (hn:C.nn=true→l≠[]:=by exact fun h=>absurd h (by decide)):Turn H (H.set m (nro v C l)):=
 zl9 hm fun w o ⟨lg,e,a,b⟩=>⟨⟨lg,e,z3V.keep (Nat.le_refl _) (fun _ _ hb=>⟨zhv hb,rfl⟩) (RowIs.slice (fun _ hb=>hb) a),
  fun p hp=>(b p hp).free (C.free _ _) (fun b _ hb=>by simp [zh3,hb,dropO])⟩,fun h he=>absurd he (hn h)⟩
theorem z1q (C:NC α):Turn H (H++[nrow (.slice none 0 0) C []]):=z9A fun _ _ _=>⟨[],rfl,.inl ⟨⟨none,rfl⟩,rfl⟩,fun p hp=>by simp at hp⟩
theorem zas (C:NC α):Turn H (H++[nro (.slice none 0 0) C []]):=z9A fun _ _ _=>⟨⟨[],rfl,⟨none,0,rfl,Nat.le_refl _,Nat.zero_le _,fun _=>rfl,fun i c hi=>by simp [NC.cs] at hi⟩,fun p hp=>by simp at hp⟩,fun _ _=>rfl⟩
theorem zu3 {w:World} {o:Own} {k:Nat} (es:Nat):(ro (.slice none 0 0) es []).p w o k:=⟨none,0,rfl,Nat.le_refl _,Nat.zero_le _,fun _=>rfl,fun i c hi=>by simp at hi⟩
theorem zrU {w:World} {o:Own} {k:Nat} (C:NC α):(nro (.slice none 0 0) C []).p w o k:=⟨⟨[],rfl,⟨none,0,rfl,Nat.le_refl _,Nat.zero_le _,fun _=>rfl,fun i c hi=>by simp [NC.cs] at hi⟩,fun p hp=>by simp at hp⟩,fun _ _=>rfl⟩
structure zf9 (h:HA) (v:Value) (es n:Nat):Prop where
 is:∀ w o k,h.p w o k→∃ a cap,v = .slice a n cap∧n≤cap∧cap≤maxLen∧(a=none→cap=0)∧(0<n→∃ b off,a=some ⟨b,off,none⟩)
theorem z3V.readsN {w:World} {B:Nat→Prop} {es:Nat} {cells:List (List Value)} (h:z3V w B v es cells):∃ a cap,v = .slice a cells.length cap∧cells.length≤cap∧cap≤maxLen∧(a=none→cap=0)∧(0<cells.length→∃ b off,a=some ⟨b,off,none⟩):=by
 obtain ⟨a,cap,e1,e2,e3,e4,e5⟩:=h
 refine ⟨a,cap,e1,e2,e3,e4,fun h0=>?_⟩
 obtain ⟨_,b,off,e6,_⟩:=e5 0 _ (List.getElem?_eq_getElem h0)
 exact ⟨b,off,e6⟩
theorem z1j:zf9 (nro v C l) v C.es l.length:=⟨fun w o k ⟨⟨lg,e,a,_⟩,_⟩=>by have:=a.readsN; rwa [NC.cs_len e] at this⟩
theorem z4N:zf9 (nrow v C l) v C.es l.length:=⟨fun w o k ⟨lg,e,a,_⟩=>by have:=(RowIs.slice (B:=fun b=>o b = .mine k) (fun _ hb=>hb) a).readsN; rwa [NC.cs_len e] at this⟩
end
def ExT {γ:Type} (H:List HA) (K:γ→List HA):Prop:=∀ w o,Bnd w o→Sats w o H→∃ g,Sats w o (H++K g)
theorem Rel.ex {γ:Type} {K:γ→List HA} (h:ExT H K) {a:Act} {w:World} (r:Rel E V H a w):∃ g,Rel E V (H++K g) a w:=by
 obtain ⟨h1,h2,h3,o,hb,ht,hs⟩:=r
 obtain ⟨g,hg⟩:=h w o hb hs
 exact ⟨g,h1,h2,h3,o,hb,ht,hg⟩
section
variable {γ : Type} {K : γ → List HA} {ops : Array Oper} {listed : Array Bool} {fuel : Nat} {Hs : List HA}
theorem z4a {l:List Oper} (h:ExT H K) (hk:∀ g,Ops E ops l k V (H++K g)):Ops E ops l k V H:=fun a w r=>let ⟨g,r'⟩:=r.ex h; hk g a w r'
theorem z9T (h:ExT H K) (hk:∀ g,AnyL E ops listed fuel k V (H++K g) Hs):AnyL E ops listed fuel k V H Hs:=fun a w r=>let ⟨g,r'⟩:=r.ex h; hk g a w r'
end
theorem z99 {w:World} {o:Own} {K:List HA} (hK:∀ h∈K,Free h) (hs:Sats w o H) (k0:Nat) (h:HsP K w o k0):Sats w o (H++K):=by
 intro j x hj
 rw [List.getElem?_append] at hj
 split at hj
 ·exact hs j x hj
 ·have hm:=List.mem_of_getElem? hj
  exact (hK x hm).at w o k0 j (h x hm)
def atc (v:Value) (n:Nat) (cs:List Value):HA:=
  ⟨fun w o _ => ∃ b off len cap, v = .slice (some ⟨b, off, none⟩) len cap ∧ b < w.heap.size ∧ o b = .no ∧ ∀ (j : Nat) (x : Value), cs[j]? = some x → w.cell? ⟨b, off + n + j, none⟩ = some x,
   fun hs _ h2 ⟨b,off,len,cap,e1,e2,e3,e4⟩=>let ⟨f1,f2⟩:=h2 b e2 e3; ⟨b,off,len,cap,e1,Nat.lt_of_lt_of_le e2 hs,f1,fun j x hj=>by rw [z9j f2]; exact e4 j x hj⟩⟩
theorem zpL {v:Value} {n:Nat} {cs:List Value}:Free (atc v n cs):=fun w o o' k k' ho ⟨b,off,len,cap,e1,e2,e3,e4⟩=>⟨b,off,len,cap,e1,e2,ho b e2 e3,e4⟩
section
variable {α : Type} {C : NC α} {v : Value} {l : List α}
theorem nget {G:Type} {lg:List (α×G)} {i:Nat} {x:α} (hl:l=lg.map (·.1)) (hx:l[i]? = some x):∃ g,lg[i]? = some (x,g):=by
 subst hl
 rw [List.getElem?_map] at hx
 cases h:lg[i]? with
 | none=>rw [h] at hx; simp at hx
 | some p=>rw [h] at hx; simp at hx; exact ⟨p.2,by rw [← hx]⟩
theorem zlT {lg:List (α×C.G)} {i:Nat} {x:α} {g:C.G} (h:lg[i]? = some (x,g)):(C.cs lg)[i]? = some (C.F x g):=by simp [NC.cs,h]
theorem exAt {i:Nat} {x:α} (m:Nat) (hm:H[m]? = some (nro v C l)) (hx:l[i]? = some x):ExT H (fun g:C.G=>atc v (i*C.es) (C.F x g)::C.S x g):=by
 intro w o hb hs
 obtain ⟨⟨lg,e,ha,hS⟩,_⟩:=hs m _ hm
 obtain ⟨g,hg⟩:=nget e hx
 obtain ⟨a,cap,g1,_,_,_,hc⟩:=id ha
 obtain ⟨_,b,off,f1,f2,f3,f4⟩:=hc i _ (zlT hg)
 refine ⟨g,z99 (k0:=m) ?_ hs ?_⟩
 ·intro h hh
  rcases List.mem_cons.1 hh with rfl | hh
  ·exact zpL
  ·exact C.free _ _ h hh
 ·intro h hh
  rcases List.mem_cons.1 hh with rfl | hh
  ·exact ⟨b,off,_,_,by rw [g1,f1],f2,f3,f4⟩
  ·exact hS _ (List.mem_of_getElem? hg) h hh
section
variable {P : Program} {d : Option Nat} {ty : TypeId} {pos : String} {af : Array Edge} {g : Option (Nat × Bool)}
theorem zld {T:TypeId} {x:Operand} {r:Value} {n j:Nat} {cs:List Value} (m:Nat) (ha:∀ w,(isAgg T).run P w = .ok false w) (hx:V.ev x=some (elemP v (n+j))) (hm:H[m]? = some (atc v n cs)) (hc:cs[j]? = some r) :
  OpY P ⟨d,.load T x,ty,pos,af,g⟩ V H r:=by
 intro ρ w o hf _ hs
 obtain ⟨b,off,len,cap,e1,_,_,e4⟩:=hs m _ hm
 have:=e4 j r hc
 subst e1
 simp [execOp,hf x _ hx,Instr.loadAt,Instr.sureAddr,elemP,Value.sbase,loadVar,ha]
 rw [show off+(n+j)=off+n+j by omega]
 simp [this]
theorem zh1 {T:TypeId} {x:Operand} {n j:Nat} {c cs:List Value} (m:Nat) (ha:∀ w,(isAgg T).run P w = .ok true w) (hz:∀ w,(sizeOf T).run P w = .ok c.length w) (hx:V.ev x=some (elemP v (n+j))) (hm:H[m]? = some (atc v n cs))
  (hc:(cs.drop j).take c.length=c):OpY P ⟨d,.load T x,ty,pos,af,g⟩ V H (.agg c.toArray):=by
 intro ρ w o hf _ hs
 obtain ⟨b,off,len,cap,e1,_,_,e4⟩:=hs m _ hm
 subst e1
 have:=z5m (P:=P) (w:=w) b (off+n+j) c (fun i y hi=>by
  rw [← hc,List.getElem?_take] at hi
  split at hi
  ·rw [List.getElem?_drop] at hi
   have:=e4 _ y hi
   rwa [show off+n+(j+i)=off+n+j+i by omega] at this
  ·simp at hi)
 rw [show off+n+j=off+(n+j) by omega] at this
 simp [execOp,hf x _ hx,Instr.loadAt,Instr.sureAddr,elemP,Value.sbase,loadVar,ha,hz,this]
theorem zuI {Ts:Array TypeId} {T el:TypeId} {x:Operand} {es n:Nat} {h:HA} (m:Nat) (hT:Ts[0]? = some T) (hu:∀ w,(underlying T).run P w = .ok (.slice el) w)
  (hx:V.ev x=some v) (hm:H[m]? = some h) (hr:zf9 h v es n):OpY P ⟨d,.call ⟨.builtin .len,#[x],Ts⟩,ty,pos,af,g⟩ V H (.int .i64 n):=by
 intro ρ w o hf _ hs
 obtain ⟨a,cap,e1,_⟩:=hr.is w o m (hs m h hm)
 subst e1
 simp [execOp,resolve,invoke,builtin,hf x _ hx,zmY hT hu]
theorem zkn {T el:TypeId} {x y:Operand} {kd:IntKind} {i:Int} {es n:Nat} {h:HA} (m:Nat) (hu:∀ w,(underlying T).run P w = .ok (.slice el) w)
  (hz:∀ w,(sizeOf el).run P w = .ok es w) (hx:V.ev x=some v) (hy:V.ev y=some (.int kd i)) (hm:H[m]? = some h) (hr:zf9 h v es n) (h0:0≤i) (hn:i.toNat<n) :
  OpY P ⟨d,.indexAddr T x y,ty,pos,af,g⟩ V H (elemP v (i.toNat*es)):=by
 intro ρ w o hf _ hs
 obtain ⟨a,cap,e1,_,_,_,e5⟩:=hr.is w o m (hs m h hm)
 obtain ⟨b,off,rfl⟩:=e5 (by omega)
 subst e1
 obtain ⟨q,rfl⟩ : ∃ q:Nat,i=q:=⟨i.toNat,by omega⟩
 simp only [Int.toNat_natCast] at hn ⊢
 have ha:(Addr.add ⟨b,off,none⟩ (q*es))=⟨b,off+q*es,none⟩:=by
  unfold Addr.add; split
  ·rename_i h0; rw [h0]; rfl
  ·rfl
 simp [execOp,hf x _ hx,hf y _ hy,Instr.indexAt,asIntOf,hu,hz,elemP,Value.sbase,ha,hn]
theorem zqU {T el:TypeId} {x:Operand} {lo hi:Option Operand} {es n:Nat} {l r:Int} {h:HA} (m:Nat) (hu:∀ w,(underlying T).run P w = .ok (.slice el) w)
  (hz:∀ w,(sizeOf el).run P w = .ok es w) (hx:V.ev x=some v) (hm:H[m]? = some h) (hr' : zf9 h v es n) (hl:Bi V lo 0 l) (hr:Bi V hi n r) (h0:0≤l) (h1:l≤r) (h2:r≤(n:Int)) :
  OpY P ⟨d,.slice T x lo hi none,ty,pos,af,g⟩ V H (subS v es l.toNat r.toNat):=by
 intro ρ w o hf hbd hs
 obtain ⟨a,cap,e1,e2,e3,e4,e5⟩:=hr'.is w o m (hs m h hm)
 subst e1
 have hrun:=zg8 (P:=P) (T:=T) (w:=w) (a:=a) (mx:=none) hu hz hf (hl.bd h0) (hr.bd (by omega)) rfl (by omega) (by omega) e2
 simp only [Option.map_none] at hrun
 simp [execOp,hf x _ hx,hrun,subS]
theorem zfJ {T:TypeId} {x:Operand} {i:Nat} {y:α} (m:Nat) (ha:∀ w,(isAgg T).run P w = .ok true w) (hz:∀ w,(sizeOf T).run P w = .ok C.es w) (hx:V.ev x=some (elemP v (i*C.es))) (hm:H[m]? = some (nrow v C l)) (hy:l[i]? = some y) :
  OpT P ⟨d,.load T x,ty,pos,af,g⟩ V H (fun v' H'=>∃ g,v' = .agg (C.F y g).toArray∧H'=H++C.S y g):=by
 intro ρ w o hf hbd hs
 obtain ⟨lg,e,hr,hS⟩:=hs m _ hm
 obtain ⟨g,hg⟩:=nget e hy
 have h1:=(RowIs.slice (B:=fun b=>o b = .mine m) (fun _ hb=>hb) hr).elem (zlT hg)
 obtain ⟨e0,b,off,cap,e1,e2⟩:=h1
 have hl:=z5m (P:=P) (w:=w) b (off+i*C.es) (C.F y g) e2
 rw [e0] at hl
 have hrun:(execOp ρ ⟨d,.load T x,ty,pos,af,‹_›⟩).run P w = .ok (.value (.agg (C.F y g).toArray)) w:=by
  subst e1
  simp [execOp,hf x _ hx,Instr.loadAt,Instr.sureAddr,elemP,Value.sbase,loadVar,ha,hz,hl]
 unfold Does
 rw [hrun]
 exact ⟨_,o,⟨g,rfl,rfl⟩,hbd,Tr.refl w o,z99 (C.free _ _) hs m (hS _ (List.mem_of_getElem? hg))⟩
theorem ze7 {T:TypeId} {x:Operand} {i j:Nat} {y:α} (m:Nat) (r:C.G→Value) (ha:∀ w,(isAgg T).run P w = .ok false w) (hx:V.ev x=some (elemP v (i*C.es+j))) (hm:H[m]? = some (nrow v C l)) (hy:l[i]? = some y) (hr:∀ g,(C.F y g)[j]? = some (r g)) :
  OpT P ⟨d,.load T x,ty,pos,af,g⟩ V H (fun v' H'=>∃ g,v'=r g∧H'=H++C.S y g):=by
 intro ρ w o hf hbd hs
 obtain ⟨lg,e,hro,hS⟩:=hs m _ hm
 obtain ⟨g,hg⟩:=nget e hy
 obtain ⟨e0,b,off,cap,e1,e2⟩:=(RowIs.slice (B:=fun b=>o b = .mine m) (fun _ hb=>hb) hro).elem (zlT hg)
 have hl:=e2 j (r g) (hr g)
 have hrun:(execOp ρ ⟨d,.load T x,ty,pos,af,‹_›⟩).run P w = .ok (.value (r g)) w:=by
  subst e1
  simp [execOp,hf x _ hx,Instr.loadAt,Instr.sureAddr,elemP,Value.sbase,loadVar,ha]
  rw [show off+(i*C.es+j)=off+i*C.es+j by omega]
  simp [hl]
 unfold Does
 rw [hrun]
 exact ⟨_,o,⟨g,rfl,rfl⟩,hbd,Tr.refl w o,z99 (C.free _ _) hs m (hS _ (List.mem_of_getElem? hg))⟩
def Has (H L:List HA):Prop:=∀ h∈L,(∀ w o k,h.p w o k)∨∃ j:Nat,H[j]? = some h
theorem z2u:Has H []:=fun h hh=>by simp at hh
theorem z1t {h:HA} {L:List HA} (j:Nat) (hj:H[j]? = some h) (r:Has H L):Has H (h::L):=fun x hx=>by
 rcases List.mem_cons.1 hx with rfl | hx
 ·exact .inr ⟨j,hj⟩
 ·exact r x hx
theorem zjQ {h:HA} {L:List HA} (ht:∀ w o k,h.p w o k) (r:Has H L):Has H (h::L):=fun x hx=>by
 rcases List.mem_cons.1 hx with rfl | hx
 ·exact .inl ht
 ·exact r x hx
theorem Has.sat {L:List HA} (hL:∀ h∈L,Free h) (h:Has H L) {w:World} {o:Own} (hs:Sats w o H) (k:Nat):HsP L w o k:=fun x hx=>by
 rcases h x hx with ht | ⟨j,hj⟩
 ·exact ht w o k
 ·exact (hL x hx).at w o j k (hs j x hj)
def zlH (H:List HA) (C:NC α) (lg:List (α×C.G)):Prop:=∀ p∈lg,Has H (C.S p.1 p.2)
theorem z1x:zlH H C []:=fun p hp=>by simp at hp
theorem z1o {x:α} {g:C.G} {lg:List (α×C.G)} (h:Has H (C.S x g)) (r:zlH H C lg):zlH H C ((x,g)::lg):=fun p hp=>by
 rcases List.mem_cons.1 hp with rfl | hp
 ·exact h
 ·exact r p hp
theorem z1p (m:Nat) (lg:List (α×C.G)) {cells:List (List Value)} (hm:H[m]? = some (row v C.es cells)) (hc:cells=C.cs lg) (hl:l=lg.map (·.1)) (hS:zlH H C lg):Turn H (H.set m (nrow v C l)):=by
 intro w o hb hs
 exact ⟨o,hb,Tr.refl w o,z4p (Nat.le_refl _) (fun _ _ _=>⟨rfl,rfl⟩) hs ⟨lg,hl,hc ▸ hs m _ hm,fun p hp=>(hS p hp).sat (C.free _ _) hs m⟩⟩
theorem zjE (m:Nat) (hm:H[m]? = some (nrow v C l)):∀ w o,Sats w o H→∃ lg:List (α×C.G),l=lg.map (·.1)∧Sats w o (H.set m (row v C.es (C.cs lg)))∧∀ p∈lg,HsP (C.S p.1 p.2) w o m:=
 fun w o hs=>let ⟨lg,e,a,b⟩:=hs m _ hm; ⟨lg,e,z4p (Nat.le_refl _) (fun _ _ _=>⟨rfl,rfl⟩) hs a,b⟩
theorem zok (m:Nat) {a b:Nat} (hm:H[m]? = some (nro v C l)) (h1:a≤b) (h2:b≤l.length) (hn:C.nn=true→(l.take b).drop a≠[]:=by exact fun h=>absurd h (by decide)):Turn H (H++[nro (subS v C.es a b) C ((l.take b).drop a)]):=
 z9A fun w o hs=>by
  obtain ⟨⟨lg,e,ha,hS⟩,_⟩:=hs m _ hm
  have hlen:=NC.cs_len (C:=C) e
  obtain ⟨a',cap,e1,e2,e3,e4,e5⟩:=id ha
  refine ⟨⟨(lg.take b).drop a,by rw [e,List.map_drop,List.map_take],?_,fun p hp=>(hS p (List.mem_of_mem_take (List.mem_of_mem_drop hp))).free (C.free _ _) (fun _ _ h=>h)⟩,fun h he=>absurd he (hn h)⟩
  have e6:C.cs ((lg.take b).drop a)=((C.cs lg).take b).drop a:=by simp [NC.cs,List.map_drop,List.map_take]
  rw [e6]
  subst e1
  exact z3V.sub ha h1 (by omega) (by omega) (Nat.le_refl _)
theorem Free.tr {h:HA} (hF:Free h) {w w' : World} {o o' : Own} (ht:Tr w o w' o') (k0 k1:Nat) (hh:h.p w o k0):h.p w' o' k1:=
 (hF.at w' o' 0 k1) (HA.keep h ht.size (k:=k0) (k':=0) (o:=fun b=>match o b with | .no=>.no | _=>.far) (o':=o') (fun b _ hb=>by split at hb <;> cases hb) (fun b hlt hb=>ht.no b hlt (by
  split at hb
  ·assumption
  ·cases hb)) (hF w o _ k0 k0 (fun b _ hb=>by simp [hb]) hh))
theorem HsP.tr {L:List HA} (hL:∀ h∈L,Free h) {w w' : World} {o o' : Own} (ht:Tr w o w' o') {k0:Nat} (k1:Nat) (h:HsP L w o k0):HsP L w' o' k1:=fun x hx=>(hL x hx).tr ht k0 k1 (h x hx)
theorem Does.imp {P:Program} {s:Sem Next} {w:World} {D D' : Value→World→Prop} (h:Does P s w D) (hd:∀ v w',D v w'→D' v w'):Does P s w D':=by
  unfold Does at h ⊢
  generalize s.run P w=x at *
  cases x with
  | halt x w'=>simp at h
  | ok nx w' =>
    cases nx <;> simp only [] at h ⊢
    case value v=>exact hd _ _ h
    case skip=>exact hd _ _ h
    case enter f args=>exact h.mono fun e w'' ⟨v,e1,h1⟩=>⟨v,e1,hd _ _ h1⟩
theorem OpT.openN {op:Oper} {post:Post} (m:Nat) (hm:H[m]? = some (nrow v C l))
  (h:∀ (lg:List (α×C.G)) w o,l=lg.map (·.1)→(∀ p∈lg,HsP (C.S p.1 p.2) w o m)→Sats w o H→OpT P op V (H.set m (row v C.es (C.cs lg))) (fun v' H'=>∃ (v2:Value) (lg2:List (α×C.G)),H'=H.set m (row v2 C.es (C.cs lg2))∧
   (∀ p∈lg2,HsP (C.S p.1 p.2) w o m)∧post v' (H.set m (nrow v2 C (lg2.map (·.1)))))):OpT P op V H post:=by
 intro ρ w o hf hbd hs
 obtain ⟨lg,e,hs',hS⟩:=zjE m hm w o hs
 refine (h lg w o e hS hs ρ w o hf hbd hs').imp ?_
 rintro v' w' ⟨H',o',⟨v2,lg2,rfl,hp,hpost⟩,hb',ht,hs2⟩
 have hmlt:m<H.length:=(List.getElem?_eq_some_iff.1 hm).1
 refine ⟨_,o',hpost,hb',ht,?_⟩
 have:=z4p (w:=w') (w':=w') (o:=o') (o':=o') (m:=m) (g:=nrow v2 C (lg2.map (·.1))) (Nat.le_refl _) (fun b _ _=>⟨rfl,rfl⟩) hs2 ⟨lg2,rfl,hs2 m (row v2 C.es (C.cs lg2)) (by simp [hmlt]),fun p hp'=>(hp p hp').tr (C.free _ _) ht m⟩
 rwa [List.set_set] at this
structure SrcN (H:List HA) (m2:Nat) (v2:Value) (C:NC α) (l2:List α):Prop where
 is:∃ g,H[m2]? = some g∧∀ w o,g.p w o m2→∃ (lg2:List (α×C.G)) (X:HA),l2=lg2.map (·.1)∧X.p w o m2∧Reads X v2 C.es (C.cs lg2)∧(∀ p∈lg2,HsP (C.S p.1 p.2) w o m2)∧∀ w' o',Tr w o w' o'→X.p w' o' m2→g.p w' o' m2
theorem zhI {v2:Value} {l2:List α} (m2:Nat) (h:H[m2]? = some (nro v2 C l2)):SrcN H m2 v2 C l2:=
 ⟨_,h,fun w o ⟨⟨lg,e,a,b⟩,z⟩=>⟨lg,ro v2 C.es (C.cs lg),e,a,z3N,b,fun w' o' ht hX=>⟨⟨lg,e,hX,fun p hp=>(b p hp).tr (C.free _ _) ht m2⟩,z⟩⟩⟩
theorem z5I {v2:Value} {l2:List α} (m2:Nat) (h:H[m2]? = some (nrow v2 C l2)):SrcN H m2 v2 C l2:=
 ⟨_,h,fun w o ⟨lg,e,a,b⟩=>⟨lg,row v2 C.es (C.cs lg),e,a,z1d,b,fun w' o' ht hX=>⟨lg,e,hX,fun p hp=>(b p hp).tr (C.free _ _) ht m2⟩⟩⟩
theorem zod {m m2:Nat} (hne:m≠m2) (a b c g:HA) (hg:H[m2]? = some g):(((H.set m a).set m2 b).set m c).set m2 g=H.set m c:=by
 apply List.ext_getElem?
 intro j
 have hlt:m2<H.length:=(List.getElem?_eq_some_iff.1 hg).1
 by_cases h2:m2=j
 ·subst h2
  rw [List.getElem?_set_self (by simpa using hlt),List.getElem?_set_ne hne,hg]
 ·rw [List.getElem?_set_ne h2]
  by_cases h1:m=j
  ·subst h1
   by_cases hl:m<H.length
   ·rw [List.getElem?_set_self (by simpa using hl),List.getElem?_set_self hl]
   ·rw [List.getElem?_eq_none (by simp; omega),List.getElem?_eq_none (by simp; omega)]
  ·rw [List.getElem?_set_ne h1,List.getElem?_set_ne h2,List.getElem?_set_ne h1,List.getElem?_set_ne h1]
theorem z3P {Ts:Array TypeId} {T T2 el e2:TypeId} {x y:Operand} {v vy z:Value} {ti:TypeInfo} {l2:List α} (m m2:Nat) (hne:m≠m2)
  (hT:Ts[0]? = some T) (hu:∀ w,(underlying T).run P w = .ok (.slice el) w) (hT2:Ts[1]? = some T2) (hu2:∀ w,(underlying T2).run P w = .ok (.slice e2) w)
  (hti:∀ w,(typeInfo el).run P w = .ok ti w) (hes:ti.size=C.es) (hby:ti.bytes≠0) (hb2:ti.bytes≤16384) (h0:∀ w,(zeroValue el).run P w = .ok z w) (hzs:z.cells.size=C.es)
  (hx:V.ev x=some v) (hm:H[m]? = some (nrow v C l)) (hy:V.ev y=some vy) (hsrc:SrcN H m2 vy C l2) (hlen:l.length+l2.length≤4294967296) :
  OpT P ⟨d,.call ⟨.builtin .append,#[x,y],Ts⟩,ty,pos,af,g⟩ V H (fun v' H'=>H'=H.set m (nrow v' C (l++l2))):=by
 obtain ⟨g2,hg2,hsrc⟩:=hsrc
 intro ρ w o hf hbd hs
 obtain ⟨lg,e,hs',hS⟩:=zjE m hm w o hs
 obtain ⟨lg2,X,f1,f2,f3,f4,f5⟩:=hsrc w o (hs m2 _ hg2)
 have hmlt:m<H.length:=(List.getElem?_eq_some_iff.1 hm).1
 have hmlt2:m2<H.length:=(List.getElem?_eq_some_iff.1 hg2).1
 have hs2:Sats w o ((H.set m (row v C.es (C.cs lg))).set m2 X):=z4p (Nat.le_refl _) (fun b _ _=>⟨rfl,rfl⟩) hs' f2
 have hl1:=NC.cs_len (C:=C) e
 have hl2:=NC.cs_len (C:=C) f1
 have hok2:∀ c∈C.cs lg2,c.length=C.es∧∀ u∈c,u.oneCell'=true:=by
  intro c hc
  obtain ⟨p,hp,rfl⟩:=List.mem_map.1 hc
  exact C.ok _ _ w o m2 (f4 p hp)
 have hroom:=z1T (F:=fun _=>([]:List Value)) (l:=l) (m:=l2) (b:=ti.bytes) hlen hb2
 simp only [List.length_map] at hroom
 have:=z1U (d:=d) (ty:=ty) (pos:=pos) (af:=af) (g:=g) (P:=P) (V:=V) (H:=(H.set m (row v C.es (C.cs lg))).set m2 X) (x:=x) (y:=y) (es:=C.es) (new:=C.cs lg2) m hT hu hT2 hu2 (.inr ⟨_,rfl⟩) hti hes hby h0 hzs hx
  (by rw [List.getElem?_set_ne (Ne.symm hne),List.getElem?_set_self hmlt]) hy (z1C m2 (by rw [List.getElem?_set_self (by simpa using hmlt2)]) f3 hok2) (by rw [hl1,hl2]; exact hroom) (by rw [hl1,hl2]; unfold maxLen; omega)
 refine (this ρ w o hf hbd hs2).imp ?_
 rintro v' w' ⟨H',o',rfl,hb',ht,hs3⟩
 refine ⟨_,o',rfl,hb',ht,?_⟩
 have h4:=z4p (w:=w') (w':=w') (o:=o') (o':=o') (m:=m2) (g:=g2) (Nat.le_refl _) (fun b _ _=>⟨rfl,rfl⟩) hs3 (f5 w' o' ht (hs3 m2 _ (by rw [List.getElem?_set_ne hne,List.getElem?_set_self (by simpa using hmlt2)])))
 rw [zod hne _ _ _ _ hg2] at h4
 have h5:=z4p (w:=w') (w':=w') (o:=o') (o':=o') (m:=m) (g:=nrow v' C (l++l2)) (Nat.le_refl _) (fun b _ _=>⟨rfl,rfl⟩) h4 ⟨lg++lg2,by rw [e,f1,List.map_append],by
   have h6:=h4 m _ (List.getElem?_set_self hmlt)
   have e6:C.cs (lg++lg2)=C.cs lg++C.cs lg2:=by simp [NC.cs]
   rw [e6]; exact h6,fun p hp=>by
   rcases List.mem_append.1 hp with hp | hp
   ·exact (hS p hp).tr (C.free _ _) ht m
   ·exact (f4 p hp).tr (C.free _ _) ht m⟩
 rwa [List.set_set] at h5
theorem ziD {T:TypeId} {x y:Operand} {i:Nat} {a b:α} {gb:C.G} {r:Value} (m:Nat) (hz:∀ w,(sizeOf T).run P w = .ok C.es w) (hx:V.ev x=some (elemP v (i*C.es))) (hy:V.ev y=some r) (hr:r.cells.toList=C.F b gb)
  (hm:H[m]? = some (nrow v C l)) (ha:l[i]? = some a) (hS:Has H (C.S b gb)) :
  OpT P ⟨d,.store T x y,ty,pos,af,g⟩ V H (fun v' H'=>v'=undef∧H'=H.set m (nrow v C (l.set i b))):=by
 refine OpT.openN m hm fun lg w o e hS' hs=>?_
 obtain ⟨ga,hg⟩:=nget e ha
 have hsb:HsP (C.S b gb) w o m:=hS.sat (C.free _ _) hs m
 obtain ⟨ho1,ho2⟩:=C.ok b gb w o m hsb
 obtain ⟨hb1,hb2⟩:=C.ok a ga w o m (hS' _ (List.mem_of_getElem? hg))
 have hmlt:m<H.length:=(List.getElem?_eq_some_iff.1 hm).1
 have:=zfy (d:=d) (ty:=ty) (pos:=pos) (af:=af) (g:=g) (P:=P) (V:=V) (H:=H.set m (row v C.es (C.cs lg))) (i:=i) (j:=0) (n:=C.es) (c:=C.F a ga) (r:=r) m hz hx hy (by simp [hmlt]) (by rw [← Array.length_toList,hr,ho1]) (zlT hg) (by simp) (by rw [hr]; exact ho2)
 intro ρ w1 o1 hf hb hs1
 refine (this ρ w1 o1 hf hb hs1).imp ?_
 rintro v' w' ⟨H',o',⟨rfl,rfl⟩,r1⟩
 refine ⟨_,o',⟨v,lg.set i (b,gb),?_,?_,rfl,?_⟩,r1⟩
 ·rw [List.set_set,hr,zhO _ _ (by omega)]; simp [NC.cs,List.map_set]
 ·intro p hp
  rcases List.mem_or_eq_of_mem_set hp with h | rfl
  ·exact hS' p h
  ·exact hsb
 ·simp [List.map_set,e]
theorem zbY {T:TypeId} {x y:Operand} {r:Value} {i j n:Nat} {a b:α} (m:Nat) (up:C.G→C.G) (L:List HA) (hz:∀ w,(sizeOf T).run P w = .ok n w) (hx:V.ev x=some (elemP v (i*C.es+j))) (hy:V.ev y=some r) (hn:r.cells.size=n) (h1:∀ u∈r.cells.toList,u.oneCell'=true)
  (hm:H[m]? = some (nrow v C l)) (ha:l[i]? = some a) (hle:Nat.ble (j+n) C.es=true) (hF:∀ g,wrL (C.F a g) j r.cells.toList=C.F b (up g)) (hL:Has H L) (hLF:∀ h∈L,Free h) (hS:∀ g,∀ h∈C.S b (up g),h∈C.S a g∨h∈L) :
  OpT P ⟨d,.store T x y,ty,pos,af,g⟩ V H (fun v' H'=>v'=undef∧H'=H.set m (nrow v C (l.set i b))):=by
 refine OpT.openN m hm fun lg w o e hS' hs=>?_
 obtain ⟨ga,hg⟩:=nget e ha
 have hsL:HsP L w o m:=hL.sat hLF hs m
 have hsa:=hS' _ (List.mem_of_getElem? hg)
 have hmlt:m<H.length:=(List.getElem?_eq_some_iff.1 hm).1
 have:=zfy (d:=d) (ty:=ty) (pos:=pos) (af:=af) (g:=g) (P:=P) (V:=V) (H:=H.set m (row v C.es (C.cs lg))) (i:=i) (j:=j) (n:=n) (c:=C.F a ga) (r:=r) m hz hx hy (by simp [hmlt]) hn (zlT hg) hle h1
 intro ρ w1 o1 hf hb hs1
 refine (this ρ w1 o1 hf hb hs1).imp ?_
 rintro v' w' ⟨H',o',⟨rfl,rfl⟩,r1⟩
 refine ⟨_,o',⟨v,lg.set i (b,up ga),?_,?_,rfl,?_⟩,r1⟩
 ·rw [List.set_set,hF]; simp [NC.cs,List.map_set]
 ·intro p hp
  rcases List.mem_or_eq_of_mem_set hp with h | rfl
  ·exact hS' p h
  ·intro h hh
   rcases hS ga h hh with h1 | h1
   ·exact hsa h h1
   ·exact hsL h h1
 ·simp [List.map_set,e]
end
end
theorem zlt {v:Value} {es:Nat} {cells:List (List Value)} {w:World} {o:Own} {k:Nat} (h:(ro v es cells).p w o k):v.oneCell'=true:=by
 obtain ⟨a,cap,e,_⟩:=h; rw [e]; rfl
theorem zhy {α:Type} {C:NC α} {v:Value} {l:List α} {w:World} {o:Own} {k:Nat} (h:(nro v C l).p w o k):v.oneCell'=true:=by
 obtain ⟨⟨lg,_,⟨a,cap,e,_⟩,_⟩,_⟩:=h; rw [e]; rfl
theorem len0 {α:Type} {l:List α} (h:l.length=0):l=[]:=List.length_eq_zero_iff.1 h
section
variable {ops : Array Oper} {listed : Array Bool} {fuel : Nat} {Hs : List HA} {h : HA} {v : Value} {es n : Nat}
theorem Rel.slcN {a:Act} {w:World} (m:Nat) (hm:H[m]? = some h) (hr:zf9 h v es n) (q:Rel E V H a w):v.cells = #[v]∧v.oneCell'=true:=by
 obtain ⟨h1,h2,h3,o,hb,ht,hs⟩:=q
 obtain ⟨x,cap,e,_⟩:=hr.is w o m (hs m h hm)
 rw [e]; exact ⟨rfl,rfl⟩
theorem z2V {l:List Oper} (m:Nat) (hm:H[m]? = some h) (hr:zf9 h v es n) (hk:v.cells = #[v]→v.oneCell'=true→Ops E ops l k V H):Ops E ops l k V H:=
 fun a w q=>hk (q.slcN m hm hr).1 (q.slcN m hm hr).2 a w q
theorem z1J {i:Nat} (m:Nat) (hm:H[m]? = some h) (hr:zf9 h v es n) (hk:v.cells = #[v]→v.oneCell'=true→AnyO E ops listed fuel k V H Hs i):AnyO E ops listed fuel k V H Hs i:=
 fun a w q=>hk (q.slcN m hm hr).1 (q.slcN m hm hr).2 a w q
end
section
variable {P : Program} {d : Option Nat} {ty : TypeId} {pos : String} {af : Array Edge} {g : Option (Nat × Bool)}
theorem zni {α:Type} {C:NC α} {l:List α} {T el U:TypeId} {x y:Operand} {v:Value} {es:Nat} {h:HA} (m:Nat) (hu:∀ w,(underlying T).run P w = .ok (.slice el) w)
    (hx:V.ev x=some v) (hy:V.ev y=some (.slice none 0 0)) (hm:H[m]? = some h) (hr:zf9 h v es l.length) :
    OpT P ⟨d,.binOp .eql T x y U,ty,pos,af,g⟩ V H (fun v' H'=>∃ b:Bool,v' = .bool b∧H'=H∧(b=true→l=[])):=by
  intro ρ w o hf hbd hs
  obtain ⟨a,cap,e1,e2,e3,e4,e5⟩:=hr.is w o m (hs m h hm)
  subst e1
  have hrun:(execOp ρ ⟨d,.binOp .eql T x y U,ty,pos,af,g⟩).run P w = .ok (.value (.bool a.isNone)) w:=by
    simp [execOp,hf x _ hx,hf y _ hy,eqGuard,binOp,z7w hu]
  unfold Does
  rw [hrun]
  refine ⟨H,o,⟨_,rfl,rfl,fun hb=>?_⟩,hbd,Tr.refl w o,hs⟩
  cases a with
  | some a=>simp at hb
  | none =>
    have:=e4 rfl
    exact List.length_eq_zero_iff.1 (by omega)
end
theorem oy {ops:Array Oper} {op:Oper} {rest:List Oper} {v:Value} (hw:op.guard=none) (hd:inB E.n op.dst=true) (h:OpY E.P op V H v)
 (hk:Ops E ops rest k (V.put op.dst v) H):Ops E ops (op::rest) k V H:=ops_y (wn hw) hd h hk
theorem ot {ops:Array Oper} {op:Oper} {rest:List Oper} {post:Post} (hw:op.guard=none) (hd:inB E.n op.dst=true) (h:OpT E.P op V H post)
 (hk:∀ v H',post v H'→Ops E ops rest k (V.put op.dst v) H'):Ops E ops (op::rest) k V H:=ops_t (wn hw) hd h hk
theorem sy {ops:Array Oper} {op:Oper} {rest:List Oper} {v:Value} (hw:op.guard=none) (hd:inB E.n op.dst=true) (h:OpY E.P op V H v)
 (hk:z4H E ops rest k (V.put op.dst v) H):z4H E ops (op::rest) k V H:=zp9 (wn hw) hd h hk
theorem ss {H Hs:List HA} {h:HA} (r:Sub H Hs):Sub (h::H) (h::Hs):=znb r
theorem se {H Hs:List HA} {h:HA} (r:Sub H Hs):Sub (h::H) (HA.emp::Hs):=zpc r
theorem sn {H:List HA}:Sub H []:=zhJ
theorem zmF {es:Nat}:∀ w o k,(ro (.slice none 0 0) es []).p w o k:=fun _ _ _=>zu3 es
theorem zhx {α:Type} {C:NC α}:∀ w o k,(nro (.slice none 0 0) C []).p w o k:=fun _ _ _=>zrU C
end Go.Abs
namespace Go.Abs
variable {E : Env} {k : List KI} {V : VF} {H : List HA}
theorem put_defers {a:Act} {d:Option Nat} {v:Value}:(a.put d v).defers=a.defers:=by cases d <;> rfl
def blk (v:Value):Nat:=(Value.sbase v).block
end Go.Abs
namespace Go.Abs
variable {E : Env} {k : List KI} {V : VF} {H : List HA}
def SrcP (P:Program) (H:List HA) (v:Value) (es:Nat) (new:List (List Value)):Prop:=
 (∀ c∈new,c.length=es∧∀ u∈c,u.oneCell'=true)∧
 ∀ w o,Sats w o H→(Builtin.lenOf v).run P w = .ok new.length w∧∀ q,q≤new.length→(Builtin.firstCells es q v).run P w = .ok (new.take q).flatten.toArray w
theorem zdO {P:Program} {w:World} {B:Nat→Prop} {v:Value} {es:Nat} {cells:List (List Value)} (h:z3V w B v es cells) :
  (Builtin.lenOf v).run P w = .ok cells.length w∧∀ q,q≤cells.length→(Builtin.firstCells es q v).run P w = .ok (cells.take q).flatten.toArray w:=by
 refine ⟨(z5Y h).1,fun q hq=>?_⟩
 obtain ⟨a,cap,e1,e2,e3,e4,e5⟩:=id h
 have hl:(cells.take q).length=q:=by rw [List.length_take]; omega
 have h' : z3V w B (.slice a (cells.take q).length cap) es (cells.take q):=⟨a,cap,rfl,by omega,e3,e4,fun i c hi=>e5 i c (by
  rw [List.getElem?_take] at hi
  split at hi
  ·exact hi
  ·cases hi)⟩
 have:=(z5Y (P:=P) h').2
 rw [hl] at this
 rw [e1]
 cases a <;> simpa [Builtin.firstCells] using this
theorem zjy {P:Program} {v:Value} {es:Nat} {new:List (List Value)} {h:HA} (m:Nat) (hm:H[m]? = some h) (hr:Reads h v es new)
 (hc:∀ c∈new,c.length=es∧∀ u∈c,u.oneCell'=true):SrcP P H v es new:=⟨hc,fun w o hs=>zdO (hr.is w o m (hs m h hm))⟩
def cpy {α:Type} (l:List α) (a b:Nat) (new:List α):List α:=l.take a++(new.take (b - a)++l.drop (a+min new.length (b - a)))
theorem zro {α:Type} {F:α→List Value} (l:List α) (a b:Nat) (new:List α):cpy (l.map F) a b (new.map F)=(cpy l a b new).map F:=by simp [cpy,List.map_take,List.map_drop]
def znF (v:Value) (es n:Nat) (vd:Value) (a b:Nat):Prop:=vd=subS v es a b∨(vd=v∧a=0∧b=n)
theorem zmQ {v:Value} {es n a b:Nat}:znF v es n (subS v es a b) a b:=.inl rfl
section
variable {P : Program} {d : Option Nat} {ty : TypeId} {pos : String} {af : Array Edge} {g : Option (Nat × Bool)}
theorem znQ {es:Nat} {new:List (List Value)} (hn:∀ c∈new,c.length=es) (q:Nat) (hq:q≤new.length):(new.take q).flatten.length=q*es:=by
 rw [zbC (new.take q) (fun c hc=>hn c (List.mem_of_mem_take hc)),List.length_take,Nat.min_eq_left hq]
theorem zus {Ts:Array TypeId} {T el:TypeId} {es a b:Nat} {x y:Operand} {v vd vy:Value} {cells new:List (List Value)} (m:Nat)
    (hT:Ts[0]? = some T) (hu:∀ w,(underlying T).run P w = .ok (.slice el) w) (hsz:∀ w,(sizeOf el).run P w = .ok es w)
    (hx:V.ev x=some vd) (hd:znF v es cells.length vd a b) (ha:a≤b) (hb:b≤cells.length) (hm:H[m]? = some (row v es cells)) (hy:V.ev y=some vy) (hsrc:SrcP P H vy es new) :
    OpT P ⟨d,.call ⟨.builtin .copy,#[x,y],Ts⟩,ty,pos,af,g⟩ V H (fun v' H'=>v' = .int .i64 (min new.length (b - a):Nat)∧H'=H.set m (row v es (cpy cells a b new))):=by
  intro ρ w o hf hbd hs
  obtain ⟨hnew,hsrc⟩:=hsrc
  obtain ⟨hn1,hn2⟩:=hsrc w o hs
  obtain ⟨q,hq⟩ : ∃ q,q=min new.length (b - a):=⟨_,rfl⟩
  have hq1:q≤new.length:=by omega
  have hn3:=hn2 q hq1
  have hnu:∀ c∈new,c.length=es:=fun c hc=>(hnew c hc).1
  have htk:new.take (b - a)=new.take q:=by
    rw [hq]; by_cases h:new.length≤b - a
    · rw [Nat.min_eq_left h,List.take_of_length_le h,List.take_length]
    · rw [Nat.min_eq_right (by omega)]
  have hcp:cpy cells a b new=cells.take a++(new.take q++cells.drop (a+q)):=by rw [cpy,htk,← hq]
  rw [← hq,hcp]
  have hone:∀ u∈(new.take q).flatten,u.oneCell'=true:=fun u hu=>by
    obtain ⟨c,hc,hu⟩:=List.mem_flatten.1 hu
    exact (hnew c (List.mem_of_mem_take hc)).2 u hu
  -- what dst is
  obtain ⟨base,cap',hvd,hbase⟩ : ∃ base cap',vd = .slice base (b - a) cap'∧(0<b - a→∀ b0 off cap,v = .slice (some ⟨b0,off,none⟩) cells.length cap→cells.length≤cap→base=some ⟨b0,off+a*es,none⟩):=by
    have hsl:∃ a0 cap,v = .slice a0 cells.length cap:=by
      rcases hs m _ hm with ⟨⟨a',r1⟩,r2⟩ | ⟨b0,off,cap,arr,T',fz,r1,_⟩
      · exact ⟨a',0,by rw [r1,r2]; rfl⟩
      · exact ⟨_,cap,r1⟩
    obtain ⟨a0,cap,hv⟩:=hsl
    rcases hd with rfl | ⟨rfl,rfl,rfl⟩
    · rw [hv]
      refine ⟨_,_,rfl,fun h0 b0 off cap1 hv1 hc1=>?_⟩
      simp only [Value.slice.injEq] at hv1
      obtain ⟨rfl,_,rfl⟩:=hv1
      rw [if_neg (by omega)]
      have hadd:(Addr.add ⟨b0,off,none⟩ (a*es))=⟨b0,off+a*es,none⟩:=by unfold Addr.add; split <;> simp_all
      simp [hadd]
    · rw [hv]
      refine ⟨a0,cap,by simp,fun h0 b0 off cap1 hv1 hc1=>?_⟩
      simp only [Value.slice.injEq] at hv1
      rw [hv1.1]; simp
  have hrest:∀ w',(match base with | some ad=>storeCells ad (new.take q).flatten | none=>pure ()).run P w = .ok () w'→(execOp ρ ⟨d,.call ⟨.builtin .copy,#[x,y],Ts⟩,ty,pos,af,g⟩).run P w = .ok (.value (.int .i64 (q:Nat))) w':=by
    intro w' hw'
    rw [hvd] at hx
    have hmin:Nat.min new.length (b - a)=q:=by rw [hq]
    cases base with
    | none =>
      simp at hw'
      subst hw'
      simp [execOp,resolve,invoke,builtin,hf x _ hx,hf y _ hy,Builtin.copy_,hT,hu,hsz,hn1,hmin,hn3,goInt]
    | some ad =>
      simp only at hw'
      simp [execOp,resolve,invoke,builtin,hf x _ hx,hf y _ hy,Builtin.copy_,hT,hu,hsz,hn1,hmin,hn3,goInt,hw']
  by_cases h0:q=0
  · -- nothing goes over
    have hr:=hrest w (by rw [h0]; cases base <;> simp [zf1])
    unfold Does
    rw [hr]
    refine ⟨_,o,⟨by simp,rfl⟩,hbd,Tr.refl w o,z4p (Nat.le_refl _) (fun _ _ _=>⟨rfl,rfl⟩) hs ?_⟩
    have:cells.take a++(new.take q++cells.drop (a+q))=cells:=by rw [h0]; simp
    rw [this]
    exact hs m _ hm
  · rcases hs m _ hm with ⟨_,r2⟩ | ⟨b0,off,cap,arr,T',fz,r1,r2,r3,r4,r5,r6,r7,r8,r9,r10⟩
    · rw [r2] at hb; simp at hb; omega
    obtain rfl:=hbase (by omega) b0 off cap r1 r7
    have hfl:=znQ hnu q hq1
    have hroom:off+a*es+(new.take q).flatten.length≤arr.size:=by
      rw [hfl,r6,Nat.add_assoc,← Nat.add_mul]
      exact Nat.add_le_add_left (Nat.mul_le_mul_right _ (by omega)) _
    obtain ⟨w',h2,h3⟩:=z8E (P:=P) (new.take q).flatten 0 arr w r4 r5 (off:=off+a*es) (by simpa using hroom) hone
    have hr:=hrest w' h2
    unfold Does
    rw [hr]
    refine ⟨_,o,⟨rfl,rfl⟩,fun b' hb'=>hbd b' (by rw [h3.size] at hb'; exact hb'),⟨h3.os,h3.tape,h3.output,by rw [h3.size]; exact Nat.le_refl _,fun b' hlt hb'=>⟨hb',h3.other b' ?_⟩,fun b' hlt hb'=>⟨hb',h3.other b' ?_⟩⟩,?_⟩
    · rintro rfl; rw [r2] at hb'; cases hb'
    · rintro rfl; rw [r2] at hb'; cases hb'
    · have hlen:(cells.take a++(new.take q++cells.drop (a+q))).length=cells.length:=by simp; omega
      refine z4p (by rw [h3.size]; exact Nat.le_refl _) (fun b' hlt hb'=>⟨rfl,h3.other b' ?_⟩) hs (.inr ⟨b0,off,cap,_,T',fz,by rw [hlen]; exact r1,r2,by rw [h3.size]; exact r3,h3.here,by rw [z5Z]; exact r5,by rw [z5Z]; exact r6,
        by rw [hlen]; exact r7,r8,?_,?_⟩)
      · rintro rfl; exact hb' r2
      · intro c hc
        rcases List.mem_append.1 hc with hc | hc
        · exact r9 c (List.mem_of_mem_take hc)
        · rcases List.mem_append.1 hc with hc | hc
          · exact hnu c (List.mem_of_mem_take hc)
          · exact r9 c (List.mem_of_mem_drop hc)
      · intro i c hi j x' hj
        rw [Nat.add_zero,z8Y _ _ _ _ hroom,hfl]
        have hcl:c.length=es:=by
          have hc:=List.mem_of_getElem? hi
          rcases List.mem_append.1 hc with hc | hc
          · exact r9 c (List.mem_of_mem_take hc)
          · rcases List.mem_append.1 hc with hc | hc
            · exact hnu c (List.mem_of_mem_take hc)
            · exact r9 c (List.mem_of_mem_drop hc)
        have hjl:j<es:=by have:=(List.getElem?_eq_some_iff.1 hj).1; omega
        have hml:∀ p r:Nat,p+1≤r→p*es+es≤r*es:=fun p r h=>by rw [← Nat.succ_mul]; exact Nat.mul_le_mul_right _ h
        have haq:(a+q)*es=a*es+q*es:=Nat.add_mul _ _ _
        by_cases c1:i<a
        · rw [List.getElem?_append_left (by simp; omega),List.getElem?_take,if_pos c1] at hi
          have:=hml i a c1
          rw [if_neg (by omega)]
          exact r10 i c hi j x' hj
        · rw [List.getElem?_append_right (by simp; omega)] at hi
          have e1:(cells.take a).length=a:=by simp; omega
          rw [e1] at hi
          by_cases c2:i - a<q
          · rw [List.getElem?_append_left (by simp; omega)] at hi
            have h1:=hml i (a+q) (by omega)
            have h2' : a*es≤i*es:=Nat.mul_le_mul_right _ (by omega)
            rw [if_pos (by omega)]
            have:=zgm (new.take q) (fun c hc=>hnu c (List.mem_of_mem_take hc)) (i - a) j c x' hi hj
            rw [← this]
            congr 1
            rw [Nat.sub_mul]; omega
          · rw [List.getElem?_append_right (by simp; omega)] at hi
            have e2:(new.take q).length=q:=by simp; omega
            rw [e2,List.getElem?_drop,show a+q+(i - a - q)=i by omega] at hi
            have h1:(a+q)*es≤i*es:=Nat.mul_le_mul_right _ (by omega)
            rw [if_neg (by omega)]
            exact r10 i c hi j x' hj
theorem zpf {α:Type} {F:α→List Value} {l ns:List α} {Ts:Array TypeId} {T el:TypeId} {es a b b2:Nat} {x y:Operand} {v vd vy:Value} {new:List (List Value)} (m:Nat)
  (hT:Ts[0]? = some T) (hu:∀ w,(underlying T).run P w = .ok (.slice el) w) (hsz:∀ w,(sizeOf el).run P w = .ok es w)
  (hx:V.ev x=some vd) (hd:znF v es (l.map F).length vd a b) (ha:a≤b) (hb:b≤l.length) (hm:H[m]? = some (row v es (l.map F))) (hy:V.ev y=some vy) (hsrc:SrcP P H vy es new) (hn:new=ns.map F) (hb2:b=b2) :
  OpT P ⟨d,.call ⟨.builtin .copy,#[x,y],Ts⟩,ty,pos,af,g⟩ V H (fun v' H'=>v' = .int .i64 (min ns.length (b2 - a):Nat)∧H'=H.set m (row v es ((cpy l a b2 ns).map F))):=by
 subst hb2
 have h:=zus (d:=d) (ty:=ty) (pos:=pos) (af:=af) (g:=g) m hT hu hsz hx hd ha (by simpa using hb) hm hy hsrc
 subst hn
 rw [zro,List.length_map] at h
 exact h
end
end Go.Abs
namespace Go.Abs
variable {E : Env} {k : List KI} {V : VF} {H : List HA}
def isK (k:Nat):Ow→Bool
 | .mine j=>j == k
 | _=>false
section
variable {S G : Type} {P : Program} {n l : Nat} {w0 : World} {o0 : Own} {Hs : G → List HA} {jumps : List Code} {j : Option Nat} {body : Code}
end
end Go.Abs
namespace Go.Abs
section
variable {V : VF} {H : List HA} {P : Program} {d : Option Nat} {ty : TypeId} {pos : String} {af : Array Edge} {g : Option (Nat × Bool)}
theorem z6J {x:Operand} {b off:Nat} (hx:V.ev x=some (boxP b off)):OpY P ⟨d,.nilCheck x,ty,pos,af,g⟩ V H (boxP b off):=by
 intro ρ w o hf _ _
 simp [execOp,hf x _ hx,boxP]
end
end Go.Abs
namespace Go.Abs
end Go.Abs
namespace Go.Abs
section
variable {E : Env} {k : List KI} {V : VF} {H : List HA} {ops : Array Oper} {op : Oper} {listed : Array Bool} {fuel : Nat} {Hs : List HA}
theorem zlJ {v:Value} {i:Nat} (hi:ops[i]? = some op) (hw:Wants E.n ops V op) (hd:inB E.n op.dst=true) (h:OpY E.P op V H v)
  (hk:Sub H Hs∧AnyL E ops (listed.setIfInBounds i true) fuel k (V.put op.dst v) H Hs):AnyO E ops listed fuel k V H Hs i:=
 any_t hi hw hd h.t fun _ _ ⟨e1,e2⟩=>by rw [e1,e2]; exact hk
end
end Go.Abs
namespace Go.Abs
end Go.Abs
namespace Go.Abs
def obind {α β:Type} (x:Option α) (f:α→Option β):Option β:=x.bind f
theorem zJ {α β:Type} {x:Option α} {f:α→Option β} {b:β} (h:obind x f=some b):∃ a,x=some a∧f a=some b:=bind_some h
end Go.Abs
namespace Go.Abs
variable {E : Env} {k : List KI} {V : VF} {H : List HA} {P : Program}
theorem zlP {f:FuncId} {vs:List Value} {Hc:List HA} {post:Post} (sh:List (Nat×Nat)) (hcall:∀ args w,(callFunc f args).run P w = .ok (.enter f args) w)
  (hc:Meets P f vs Hc post) (hsh:z9S H sh Hc) (hok:okX sh=true) (hst:(sh.all fun s=>s.2 != 1)=true∨∀ v G,post v G→∀ g∈G,g.Strict) {w:World} {o:Own} (hbd:Bnd w o) (hs:Sats w o H) :
  Calls P f vs.toArray w (fun e w''=>∃ v,e = .returned v∧∃ H' o',(∃ G,post v G∧H'=z28 sh H++G)∧Bnd w'' o'∧Tr w o w'' o'∧Sats w'' o' H'):=by
 have hop:=zbx (P:=P) (V:=fun _=>none) (d:=none) (ty:=0) (pos:= "") (af:=#[]) (g:=none) (fx:=.const (.func (.func f) #[] #[])) (xs:=(vs.map Operand.const).toArray) (Ts:=#[]) (vs:=vs) (cs:=[])
  sh rfl hcall (by simp [VF.ev,Function.comp_def]) (by simpa using hc) hsh hok hst (fun x=>match x with | .const c=>c | .global g=>.pointer (some ⟨g,0,none⟩) | .func f=>.func (.func f) #[] #[] | .tmp _=>undef) w o
  (fun x v hx=>by cases x <;> simp [VF.ev] at hx ⊢ <;> exact hx) hbd hs
 unfold Does at hop
 rw [show (execOp _ ⟨none,.call ⟨.value (.const (.func (.func f) #[] #[])),(vs.map Operand.const).toArray,#[]⟩,0,"",#[],none⟩).run P w = .ok (.enter f vs.toArray) w by
  simp [execOp,resolve,invoke,Deferred.ofValue,hcall,Function.comp_def]] at hop
 exact hop
section
variable {d : Option Nat} {ty : TypeId} {pos : String} {af : Array Edge} {g : Option (Nat × Bool)}
theorem zgc {T:TypeId} {ds:TypeDesc} {x:Operand} {v:Value} (hu:∀ w,(underlying T).run P w = .ok ds w) (hni:(match ds with | .interface _=>false | _=>true)=true) (hx:V.ev x=some v) :
  OpY P ⟨d,.makeInterface T x,ty,pos,af,g⟩ V H (.iface T v):=by
 intro ρ w o hf _ _
 cases ds <;> simp at hni <;> simp [execOp,Instr.makeInterface,hu,hf x _ hx]
theorem zqw {rx:Operand} {name:String} {T:TypeId} {rv rv' : Value} {f:FuncId} {xs:Array Operand} {Ts:Array TypeId} {vs:List Value} {Hc:List HA} {post:Post}
    (sh:List (Nat×Nat)) (hrx:V.ev rx=some (.iface T rv)) (hm:∀ n w o,Sats w o H→(method (n+1) T rv name).run P w = .ok (f,rv') w) (hcall:∀ args w,(callFunc f args).run P w = .ok (.enter f args) w)
    (hxs:xs.toList.map V.ev=vs.map some) (hc:Meets P f (rv'::vs) Hc post) (hsh:z9S H sh Hc) (hok:okX sh=true)
    (hst:(sh.all fun s=>s.2 != 1)=true∨∀ v G,post v G→∀ g∈G,g.Strict) :
    OpT P ⟨d,.call ⟨.invoke rx name,xs,Ts⟩,ty,pos,af,g⟩ V H (fun v' H'=>∃ G,post v' G∧H'=z28 sh H++G):=by
  intro ρ w o hf hbd hs
  have hargs:(xs.map ρ)=vs.toArray:=by
    apply Array.ext'
    rw [Array.toList_map]
    generalize xs.toList=l at hxs
    clear hc
    induction l generalizing vs with
    | nil=>cases vs <;> simp_all
    | cons x r ih =>
      cases vs with
      | nil=>simp at hxs
      | cons v vs =>
        simp only [List.map_cons,List.cons.injEq] at hxs ⊢
        exact ⟨hf _ _ hxs.1,ih hxs.2⟩
  have hrun:(execOp ρ ⟨d,.call ⟨.invoke rx name,xs,Ts⟩,ty,pos,af,g⟩).run P w = .ok (.enter f (rv'::vs).toArray) w:=by
    obtain ⟨n,hn⟩ : ∃ n,P.types.size+Made.depth=n+1:=⟨P.types.size+(Made.depth - 1),by simp [Made.depth]⟩
    simp [execOp,resolve,invoke,hf rx _ hrx,hargs,callMethod,hn,hm n w o hs,hcall,Sem.run_bind,Result.andThen]
  unfold Does
  rw [hrun]
  exact zlP sh hcall hc hsh hok hst hbd hs
end
theorem zmx {T el:TypeId} {ti:TypeInfo} {name:String} {f:FuncId} {n:Nat} {v:Value} {m} {w:World} (hti:∀ w,(typeInfo T).run P w = .ok ti w) (hf:ti.methods.find? (·.name == name)=some m)
  (hp:m.path = #[]) (hm:m.func=some (f,true)) (hu:∀ w,(underlying T).run P w = .ok (.pointer el) w):(method (n+1) T v name).run P w = .ok (f,v) w:=by
 unfold method
 simp only [Sem.run_bind,hti,Result.andThen_ok]
 rw [hf]
 simp [hp,follow,hm,receiverAt,hu,Place.get,Sem.run_bind,Result.andThen]
section
variable {d : Option Nat} {ty : TypeId} {pos : String} {af : Array Edge} {g : Option (Nat × Bool)}
theorem zkm {T U:TypeId} {ds:TypeDesc} {x:Operand} {v:Value} (hu:∀ w,(underlying T).run P w = .ok ds w) (hni:(match ds with | .interface _=>false | _=>true)=true) (hx:V.ev x=some (.iface T v)) :
  OpY P ⟨d,.typeAssert x U T false,ty,pos,af,g⟩ V H v:=by
 intro ρ w o hf _ _
 cases ds <;> simp at hni <;> simp [execOp,Instr.typeAssert,hu,hf x _ hx]
theorem zon {T U:TypeId} {ds:TypeDesc} {x:Operand} {v:Value} (hu:∀ w,(underlying T).run P w = .ok ds w) (hni:(match ds with | .interface _=>false | _=>true)=true) (hx:V.ev x=some (.iface T v)) :
  OpY P ⟨d,.typeAssert x U T true,ty,pos,af,g⟩ V H (.tuple #[v,.bool true]):=by
 intro ρ w o hf _ _
 cases ds <;> simp at hni <;> simp [execOp,Instr.typeAssert,hu,hf x _ hx]
end
end Go.Abs
namespace Go.Abs
variable {V : VF} {H : List HA}
section
variable {P : Program} {d : Option Nat} {ty : TypeId} {pos : String} {af : Array Edge} {g : Option (Nat × Bool)}
theorem zdd {T U:TypeId} {x y:Operand} {a b:List UInt8} (hx:V.ev x=some (.string (bs a))) (hy:V.ev y=some (.string (bs b))) (hl:a.length+b.length≤4294967296) :
 OpY P ⟨d,.binOp .add T x y U,ty,pos,af,g⟩ V H (.string (bs (a++b))):=y_bin hx hy rfl (fun w=>by
  have e:bs a++bs b=bs (a++b):=by
   apply ByteArray.ext
   simp [bs]
  have h2:¬ ((((bs a).size+(bs b).size:Nat):Int) > IntKind.i64.max):=by
   rw [zhn,zhn]
   have:IntKind.i64.max=9223372036854775807:=by decide
   omega
  simp only [binOp,Op.stringOp,if_neg h2,e]; rfl)
theorem z6b {α:Type} {p:α→Prop}:∀ u∈([]:List α),p u:=fun u h=>by cases h
theorem z1s {α:Type} {p:α→Prop} {a:α} {l:List α} (h:p a) (r:∀ u∈l,p u):∀ u∈a::l,p u:=fun u hu=>by
 rcases List.mem_cons.1 hu with rfl | hu
 ·exact h
 ·exact r u hu
theorem zoc {α:Type} {l:List α} {i:Nat} {x:α} (h:i<l.length):(l.set i x)[i]? = some x:=by simp [h]
theorem zud {α:Type} {l:List α} {i j:Nat} {x:α} (h:i<l.length):i<(l.set j x).length:=by simpa using h
end
theorem bi0m {V:VF} {α:Type} {F:α→List Value} {l:List α}:Bi V none (l.map F).length (l.length:Int):=.inl ⟨rfl,by rw [List.length_map]⟩
end Go.Abs
namespace Go.Abs
open Go.Sem
variable {P : Program} {V : VF} {H : List HA} {d : Option Nat} {ty : TypeId} {pos : String} {af : Array Edge} {g : Option (Nat × Bool)}
theorem z58 {T el:TypeId} {x y:Operand} {kd:IntKind} {i:Int} {b off len es:Nat} (hu:∀ w,(underlying T).run P w = .ok (.array len el) w)
  (hz:∀ w,(sizeOf el).run P w = .ok es w) (hx:V.ev x=some (boxP b off)) (hy:V.ev y=some (.int kd i)) (hn:0≤i∧i<(len:Int)) :
  OpY P ⟨d,.indexAddr T x y,ty,pos,af,g⟩ V H (boxP b (off+i.toNat*es)):=
 z7z hu hz hx (by rw [hy,← zga hn.1]) (by omega)
section
variable {T : Type} {F : T → List Value} {es : Nat}
end
end Go.Abs
namespace Go.Abs
variable {E : Env} {k : List KI} {V : VF} {H : List HA}
def DoesP (P:Program) (s:Sem Next) (w:World) (D Dp:Value→World→Prop):Prop:=
 match s.run P w with
 | .ok (.enter f args) w'=>Calls P f args w' (fun e w''=>(∃ v,e = .returned v∧D v w'')∨∃ v,e = .panicked [{ v:=v,recovered:=false }]∧Dp v w'')
 | _=>False
def OpTP (P:Program) (op:Oper) (V:VF) (H:List HA) (post:Post) (pan:Value→Prop) (Hp:List HA):Prop:=
  ∀ ρ w o, Fits V ρ → Bnd w o → Sats w o H →
    DoesP P (execOp ρ op) w (fun v w'=>∃ H' o',post v H'∧Bnd w' o'∧Tr w o w' o'∧Sats w' o' H') (fun v w'=>pan v∧∃ o',Bnd w' o'∧Tr w o w' o'∧Sats w' o' Hp)
theorem DoesP.semAt {P:Program} {op:Oper} {ρ:Operand→Value} {w:World} {D Dp:Value→World→Prop} (r:Option Nat) (h:DoesP P (execOp ρ op) w D Dp):op.semAt r ρ=execOp ρ op:=by
 refine Oper.semAt_eq r ρ op fun c hc=>?_
 unfold DoesP execOp at h
 rw [hc] at h
 simp only [Sem.run_bind] at h
 cases hx:(resolve ρ c op.type).run P w with
 | halt x w'=>simp [hx,Result.andThen] at h
 | ok d w'=>simp [hx,Result.andThen] at h
theorem zge {c:List PanicEntry}:∀ (k:List KI) (a:Act) (w:World),E.B (.panic c) a w→Qof E k (.panic c) a w
 | [],_,_,q=>q
 | .code _::k,a,w,q=>zge k a w q
 | .scope::k,a,w,q=>zge k a w q
 | .loop _::k,a,w,q=>zge k a w q
 | .blk _::k,a,w,q=>zge k a w q
theorem z6M {ops:Array Oper} {op:Oper} {rest:List Oper} {post:Post} {pan:Value→Prop} {Hp:List HA} (hw:Wants E.n ops V op) (hd:inB E.n op.dst=true) (h:OpTP E.P op V H post pan Hp)
    (hk:∀ v H',post v H'→Ops E ops rest k (V.put op.dst v) H') (hp:∀ v,pan v→FinP E V Hp v):Ops E ops (op::rest) k V H:=by
  intro a w r
  unfold wpListIn
  rw [if_pos (hw.wanted r)]
  have hf:=r.fits
  obtain ⟨h1,h2,h3,o,hb,ht,hs⟩:=r
  have:=h a.eval w o hf hb hs
  unfold Oper.wpIn
  refine ⟨fun _ _=>trivial,?_⟩
  rw [DoesP.semAt _ this]
  unfold DoesP at this
  generalize (execOp a.eval op).run E.P w=x at *
  cases x with
  | halt x w'=>simp at this
  | ok nx w' =>
    cases nx <;> simp only [Oper.uponIn] at this ⊢
    case enter f args=>
      refine ⟨(fun h=>nomatch h),CallsIn.mono (F:=FR E.r) (callsIn_wide.2 this) ?_⟩
      rintro e w'' (⟨v,rfl,H',o',hp',hb',ht',hs'⟩ | ⟨v,rfl,hv,o',hb',ht',hs'⟩)
      · exact hk v H' hp' _ _ (Rel.put h1 h2 h3 hd hb' ht ht' hs')
      · exact zge k a w'' (hp v hv a w'' (Rel.put (d:=none) (v:=undef) h1 h2 h3 rfl hb' ht ht' hs'))
theorem zf2 {P:Program} {d:Option Nat} {ty:TypeId} {pos:String} {af:Array Edge} {g:Option (Nat×Bool)} {fx:Operand} {f:FuncId} {xs:Array Operand} {Ts:Array TypeId} {vs cs:List Value} {Hc:List HA} {post:Post} {pan:Value→Prop}
    (sh:List (Nat×Nat)) (hfx:V.ev fx=some (.func (.func f) #[] cs.toArray)) (hcall:∀ args w,(callFunc f args).run P w = .ok (.enter f args) w)
    (hxs:xs.toList.map V.ev=vs.map some) (hc:z4t P f (vs++cs) Hc post pan) (hsh:z9S H sh Hc) (hok:okX sh=true)
    (hst:(sh.all fun s=>s.2 != 1)=true∨∀ v G,post v G→∀ g∈G,g.Strict) :
    OpTP P ⟨d,.call ⟨.value fx,xs,Ts⟩,ty,pos,af,g⟩ V H (fun v' H'=>∃ G,post v' G∧H'=z28 sh H++G) pan (z28 sh H):=by
  intro ρ w o hf hbd hs
  have hargs:(xs.map ρ)=vs.toArray:=by
    apply Array.ext'
    rw [Array.toList_map]
    generalize xs.toList=l at hxs
    clear hc
    induction l generalizing vs with
    | nil=>cases vs <;> simp_all
    | cons x r ih =>
      cases vs with
      | nil=>simp at hxs
      | cons v vs =>
        simp only [List.map_cons,List.cons.injEq] at hxs ⊢
        exact ⟨hf _ _ hxs.1,ih hxs.2⟩
  have hrun:(execOp ρ ⟨d,.call ⟨.value fx,xs,Ts⟩,ty,pos,af,g⟩).run P w = .ok (.enter f (vs++cs).toArray) w:=by
    simp [execOp,resolve,invoke,Deferred.ofValue,hf fx _ hfx,hargs,hcall]
  unfold DoesP
  rw [hrun]
  have hoc:∀ b,o b = .no→ownX sh o b = .no:=fun b hb=>by simp [ownX,hb]
  have hall:=List.all_eq_true.1 hok
  have hfar:∀ b,o b = .far→ownX sh o b = .far:=fun b hb=>by simp [ownX,hb]
  -- who holds a block of the caller's own during the call
  have hmine:∀ b m,o b = .mine m→(∃ j,sh.findIdx? (fun s=>s.2 == 2 && s.1 == m)=some j∧ownX sh o b = .mine j)∨
      (sh.findIdx? (fun s=>s.2 == 2 && s.1 == m)=none∧((ownX sh o b = .no∧(sh.any fun s=>s.2 == 1 && s.1 == m)=true)∨ownX sh o b = .far)):=by
    intro b m hb
    simp only [ownX,hb]
    cases hfi:sh.findIdx? (fun s=>s.2 == 2 && s.1 == m) with
    | some j=>exact .inl ⟨j,rfl,rfl⟩
    | none =>
      right
      refine ⟨rfl,?_⟩
      simp only []
      split
      · rename_i h; exact .inl ⟨rfl,h⟩
      · exact .inr rfl
  have core:∀ (G:List HA) (w' : World) (o' : Own),((sh.all fun s=>s.2 != 1)=true∨∀ g∈G,g.Strict)→Bnd w' o'→Tr w (ownX sh o) w' o'→Sats w' o' G→∃ o2,Bnd w' o2∧Tr w o w' o2∧Sats w' o2 (z28 sh H++G):=by
    intro G w' o' hst hb' ht hs'
    let o2 : Own := fun b => if b < w.heap.size then (match o b with
        | .mine m=>if (sh.findIdx? (fun s=>s.2 == 2 && s.1 == m)).isSome then (match o' b with | .mine j=>.mine (H.length+j) | _=>.no) else .mine m
        | x=>x) else match o' b with | .mine j=>.mine (H.length+j) | _=>.no
    -- what is not lent is as it was
    have keepb:∀ b,b<w.heap.size→(∀ m,o b = .mine m→sh.findIdx? (fun s=>s.2 == 2 && s.1 == m)=none)→o2 b=o b∧w'.heap[b]? = w.heap[b]?:=by
      intro b hlt hnl
      cases hob:o b with
      | no=>exact ⟨by simp [o2,hlt,hob],(ht.no b hlt (hoc b hob)).2⟩
      | far=>exact ⟨by simp [o2,hlt,hob],(ht.far b hlt (hfar b hob)).2⟩
      | mine m =>
        have hn:=hnl m hob
        refine ⟨by simp [o2,hlt,hob,hn],?_⟩
        rcases hmine b m hob with ⟨j,hj,_⟩ | ⟨_,h3 | h3⟩
        · rw [hn] at hj; cases hj
        · exact (ht.no b hlt h3.1).2
        · exact (ht.far b hlt h3).2
    have hG:∀ j b,o' b = .mine j→o2 b = .mine (H.length+j):=by
      intro j b he
      by_cases hlt:b<w.heap.size
      · cases hob:o b with
        | no=>have:=(ht.no b hlt (hoc b hob)).1; rw [he] at this; cases this
        | far=>have:=(ht.far b hlt (hfar b hob)).1; rw [he] at this; cases this
        | mine m =>
          rcases hmine b m hob with ⟨j',hj',_⟩ | ⟨hn,h3 | h3⟩
          · simp [o2,hlt,hob,hj',he]
          · have:=(ht.no b hlt h3.1).1; rw [he] at this; cases this
          · have:=(ht.far b hlt h3).1; rw [he] at this; cases this
      · simp [o2,hlt,he]
    refine ⟨o2,?_,?_,?_⟩
    · intro b hle
      have hsz:=ht.size
      have:¬ b<w.heap.size:=by omega
      simp [o2,this,hb' b hle]
    · refine ⟨ht.os,ht.tape,ht.output,ht.size,fun b hlt hb=>?_,fun b hlt hb=>?_⟩
      · have:=keepb b hlt (fun m hm=>by rw [hb] at hm; cases hm)
        exact ⟨this.1.trans hb,this.2⟩
      · have:=keepb b hlt (fun m hm=>by rw [hb] at hm; cases hm)
        exact ⟨this.1.trans hb,this.2⟩
    · intro j h hj
      rw [List.getElem?_append] at hj
      split at hj
      · rename_i hlt0
        rcases zde sh H j h hj with rfl | ⟨hj1,hj2⟩
        · trivial
        · refine h.keep ht.size (fun b hlt hb=>?_) (fun b hlt hb=>?_) (hs j h hj1)
          · have:=keepb b hlt (fun m hm=>by
              rw [hb] at hm; injection hm with hm; subst hm
              rw [List.findIdx?_eq_none_iff]
              intro s hsm
              by_cases h2:s.2=2
              · have:=hj2 s hsm h2; simp [this]
              · simp [h2])
            exact ⟨this.1.trans hb,this.2⟩
          · have:=keepb b hlt (fun m hm=>by rw [hb] at hm; cases hm)
            exact ⟨this.1.trans hb,this.2⟩
      · rename_i hge
        rw [z8m] at hge hj
        have hjj:H.length+(j - H.length)=j:=by omega
        have hp':=hs' _ h hj
        rcases hst with hst | hst
        · refine h.keep (Nat.le_refl _) (fun b _ hb=>⟨by rw [hG _ b hb,hjj],rfl⟩) (fun b hlt hb=>⟨?_,rfl⟩) hp'
          by_cases hlt' : b<w.heap.size
          · cases hob:o b with
            | no=>simp [o2,hlt',hob]
            | far=>have:=(ht.far b hlt' (hfar b hob)).1; rw [hb] at this; cases this
            | mine m =>
              rcases hmine b m hob with ⟨j',hj',_⟩ | ⟨hn,h3 | h3⟩
              · simp [o2,hlt',hob,hj',hb]
              · exfalso
                obtain ⟨s,hsm,hs2⟩:=List.any_eq_true.1 h3.2
                have:=List.all_eq_true.1 hst s hsm
                simp at this hs2
                exact this hs2.1
              · have:=(ht.far b hlt' h3).1; rw [hb] at this; cases this
          · simp [o2,hlt',hb]
        · have hgm:h∈G:=List.mem_of_getElem? hj
          exact hst h hgm w' o' _ o2 j (fun b _ hb=>by rw [hG _ b hb,hjj]) hp'
  refine (hc w (ownX sh o) (fun b hb=>hoc b (hbd b hb)) ?_).mono ?_
  · intro j h hj
    have hlt:j<sh.length:=by rw [hsh.1]; exact (List.getElem?_eq_some_iff.1 hj).1
    obtain ⟨⟨m,mode⟩,hsj⟩ : ∃ s,sh[j]? = some s:=⟨_,List.getElem?_eq_getElem hlt⟩
    obtain ⟨h',hm,hv⟩:=hsh.2 j m mode h hsj hj
    have hchk:=hall j (by simp [hlt])
    rw [hsj] at hchk
    simp only at hchk
    by_cases h2:mode=2
    · subst h2
      simp only [if_true] at hv
      subst hv
      simp only [beq_self_eq_true,if_true,beq_iff_eq] at hchk
      exact h'.keep (Nat.le_refl _) (fun b _ hb=>⟨by simp only [ownX,hb,hchk],rfl⟩) (fun b _ hb=>⟨hoc b hb,rfl⟩) (hs _ h' hm)
    · rw [if_neg h2] at hv
      refine hv w o _ _ j (fun b _=>hoc b) (fun hl b _ hb=>?_) (hs _ h' hm)
      have h1:mode=1:=by simpa using hl
      subst h1
      simp only [show ((1:Nat) == 2)=false from rfl,beq_self_eq_true,if_true,Bool.false_eq_true,if_false,Option.isNone_iff_eq_none] at hchk
      rcases hmine b m hb with ⟨j',hj',_⟩ | ⟨_,h3 | h3⟩
      · rw [hchk] at hj'; cases hj'
      · exact h3.1
      · exfalso
        simp only [ownX,hb] at h3
        rw [hchk] at h3
        simp only at h3
        rw [if_pos (List.any_eq_true.2 ⟨(m,1),List.mem_of_getElem? hsj,by simp⟩)] at h3
        cases h3
  · rintro e w' (⟨v,G,o',rfl,hp,hb',ht,hs'⟩ | ⟨v,o',rfl,hp,hb',ht⟩)
    · obtain ⟨o2,q1,q2,q3⟩:=core G w' o' (hst.imp id fun h=>h v G hp) hb' ht hs'
      exact .inl ⟨v,rfl,_,o2,⟨G,hp,rfl⟩,q1,q2,q3⟩
    · obtain ⟨o2,q1,q2,q3⟩:=core [] w' o' (.inr fun g hg=>by simp at hg) hb' ht (fun j h hj=>by simp at hj)
      exact .inr ⟨v,rfl,hp,o2,q1,q2,by simpa using q3⟩
theorem zic {ops:Array Oper} {op:Oper} {rest:List Oper} (v:Value) (hw:Wants E.n ops V op) (h:∀ ρ w o,Fits V ρ→Sats w o H→op.semAt E.r ρ=execOp ρ op∧(execOp ρ op).run E.P w = .halt (.panic v) w) (hp:FinP E V H v):Ops E ops (op::rest) k V H:=by
 intro a w r
 unfold wpListIn
 rw [if_pos (hw.wanted r)]
 have hf:=r.fits
 obtain ⟨o,hb,ht,hs⟩:=r.2.2.2
 obtain ⟨e1,e2⟩:=h a.eval w o hf hs
 unfold Oper.wpIn
 refine ⟨fun _ _=>trivial,?_⟩
 have e1' : op.semAt (FR E.r).round a.eval=execOp a.eval op:=e1
 rw [e1',e2]
 exact zge k a w (hp a w r)
end Go.Abs
namespace Go.Abs
variable {E : Env} {k : List KI} {V : VF} {H : List HA}
inductive Pn (R:Type) where
 | ret (r:R)
 | pan (e:Int)
def pbind {A R:Type} (x:Pn A) (f:Int→Option R) (g:A→Option R):Option R:=match x with
 | .ret a=>g a
 | .pan e=>f e
theorem z33 {A R:Type} {a:A} {f:Int→Option R} {g:A→Option R} {r:R} (h:pbind (.ret a) f g=some r):g a=some r:=h
theorem z32 {A R:Type} {e:Int} {f:Int→Option R} {g:A→Option R} {r:R} (h:pbind (.pan e) f g=some r):f e=some r:=h
theorem zfL {ops:Array Oper} {op:Oper} {listed:Array Bool} {fuel:Nat} {Hs:List HA} {post:Post} {pan:Value→Prop} {Hp:List HA} {i:Nat} (hi:ops[i]? = some op) (hw:Wants E.n ops V op) (hd:inB E.n op.dst=true) (h:OpTP E.P op V H post pan Hp)
    (hk:∀ v H',post v H'→Sub H' Hs∧AnyL E ops (listed.setIfInBounds i true) fuel k (V.put op.dst v) H' Hs) (hp:∀ v,pan v→FinP E V Hp v):AnyO E ops listed fuel k V H Hs i:=by
  intro a w r
  unfold wpOpI
  simp only [hi]
  rw [if_pos (hw.wanted r)]
  have hf:=r.fits
  obtain ⟨h1,h2,h3,o,hb,ht,hs⟩:=r
  have:=h a.eval w o hf hb hs
  unfold DoesP at this
  generalize (execOp a.eval op).run E.P w=x at *
  cases x with
  | halt x w'=>simp at this
  | ok nx w' =>
    cases nx <;> simp only [Oper.uponIn] at this ⊢
    case enter f args=>
      refine ⟨(fun h=>nomatch h),CallsIn.mono (F:=FR E.r) (callsIn_wide.2 this) ?_⟩
      rintro e w'' (⟨v,rfl,H',o',hp',hb',ht',hs'⟩ | ⟨v,rfl,hv,o',hb',ht',hs'⟩)
      · exact ⟨⟨o',hb',ht.tr.trans ht',(hk v H' hp').1.sats hs'⟩,(hk v H' hp').2 _ _ (Rel.put h1 h2 h3 hd hb' ht ht' hs')⟩
      · exact zge k a w'' (hp v hv a w'' (Rel.put (d:=none) (v:=undef) h1 h2 h3 rfl hb' ht ht' hs'))
end Go.Abs
namespace Go.Abs
variable {E : Env} {k : List KI} {V : VF} {H : List HA}
theorem z5a {P:Program} {f:FuncId} {args:List Value} {Hc:List HA} {R:Type} {q:R} {post:R→Value→List HA→Prop} {X:Int→Value→Prop}
  (h:z4t P f args Hc (fun v G=>∃ q',Pn.ret q = .ret q'∧post q' v G) (fun v=>∃ e,(Pn.ret q:Pn R) = .pan e∧X e v)):Meets P f args Hc (post q):=fun w o hb hs=>
 (h w o hb hs).mono fun e w' h=>by
  rcases h with ⟨v,G,o',h1,⟨q',hq,h2⟩,h3⟩ | ⟨v,o',_,⟨e,he,_⟩,_⟩
  ·cases hq; exact ⟨v,G,o',h1,h2,h3⟩
  ·cases he
theorem zjX {P:Program} {r:Option Nat} {d:Option Nat} {ty:TypeId} {pos:String} {af:Array Edge} {g:Option (Nat×Bool)} {x:Operand} {T:TypeId} {u:Value} (hx:V.ev x=some (.iface T u)) :
  ∀ ρ w o,Fits V ρ→Sats w o H→Oper.semAt r ρ ⟨d,.panic x,ty,pos,af,g⟩=execOp ρ ⟨d,.panic x,ty,pos,af,g⟩∧(execOp ρ ⟨d,.panic x,ty,pos,af,g⟩).run P w = .halt (.panic (.iface T u)) w:=by
 intro ρ w o hf _
 refine ⟨Oper.semAt_eq _ _ _ (fun c hc=>(by cases hc)),?_⟩
 simp [execOp,hf x _ hx,Instr.panic]
end Go.Abs
namespace Go.Abs
variable {E : Env} {k : List KI} {V : VF} {H : List HA}
def bodyQ (P:Program) (fn:Func) (w0:World) (o0:Own) (post:Post):Exit→Act→World→Prop
 | .outgrown,_,_=>False
 | e,a,w=>bodyPostM (FR none) 0 P fn (Ends w0 o0 post) e a w
def EnvQ (P:Program) (n:Nat) (w0:World) (o0:Own) (fn:Func) (post:Post):Env:=
 { P:=P,n:=n,w0:=w0,o0:=o0,r:=none,nd:=true,B:=bodyQ P fn w0 o0 post,blind:=false,np:=fun h=>(by cases h),no:=fun _ _ h=>h }
theorem zcm {P:Program} {f:FuncId} {fn:Func} {c:Code} {args:List Value} {H:List HA} {post:Post} {n:Nat}
  (hf:P.funcs[f]? = some fn) (hb:fn.body=some c) (hm:fn.ntmps=n) (hn:Nat.ble args.length n=true)
  (h:∀ w0 o0,Run (EnvQ P n w0 o0 fn post) c [] (VF.args args 0) H):Meets P f args H post:=by
 intro w o hbd hs
 refine callsIn_wide.1 (callsIn_of_wp_marks (F:=FR none) (n:=0) hf hb trivial ?_)
 refine wpIn_mono (h w o _ _ ⟨?_,(fun _=>rfl),?_,o,hbd,TrD.of (TrM.refl w o) rfl,hs⟩) (fun e _ _ h=>?_)
 ·have:=Nat.le_of_ble_eq_true hn
  simp [hm,EnvQ]; omega
 ·intro t v hv
  obtain ⟨_,h2⟩:=VF.args_get args 0 t v hv
  exact z9V v (by simpa using h2)
 ·cases e with
  | outgrown=>exact h.elim
  | normal=>exact h
  | ret=>exact h
  | panic _=>exact h
  | exit _=>exact h
  | goto _=>exact h
def Env.push (E:Env) (D:Deferred):Env:={ E with db:=D::E.db,nd:=false }
theorem zgf {D:Deferred}:∀ (k:List KI),Qof (E.push D) k=Qof E k
 | []=>rfl
 | .code y::k=>by simp only [Qof]; rw [zgf k]; rfl
 | .blk id::k=>by simp only [Qof]; rw [zgf k]
 | .scope::k=>by simp only [Qof]; rw [zgf k]
 | .loop L::k=>by simp only [Qof]; rw [zgf k]
theorem zet {ops:Array Oper} {rest:List Oper} {ty:TypeId} {pos:String} {af:Array Edge} {g:Option (Nat×Bool)} {x:Operand} {f:FuncId} {cs:List Value} (hw:Wants E.n ops V ⟨none,.defer ⟨.value x,#[],#[]⟩,ty,pos,af,g⟩)
  (hx:V.ev x=some (.func (.func f) #[] cs.toArray)) (h0:E.db=[]) (hr:E.nd=true) (hr0:E.r=none) (hk:Ops (E.push { target:=.fn (.func f) cs.toArray,args:=#[] }) ops rest k V H) :
  Ops E ops (⟨none,.defer ⟨.value x,#[],#[]⟩,ty,pos,af,g⟩::rest) k V H:=by
 intro a w r
 unfold wpListIn
 rw [if_pos (hw.wanted r)]
 have hf:=r.fits
 obtain ⟨h1,h2,h3,o,hb,ht,hs⟩:=r
 have hrun:(execOp a.eval ⟨none,.defer ⟨.value x,#[],#[]⟩,ty,pos,af,g⟩).run E.P w = .ok (.defer { target:=.fn (.func f) cs.toArray,args:=#[] }) w:=by
  simp [execOp,resolve,Deferred.ofValue,hf x _ hx]
 unfold Oper.wpIn
 refine ⟨fun _ _=>trivial,?_⟩
 have hsem:Oper.semAt (FR E.r).round a.eval ⟨none,.defer ⟨.value x,#[],#[]⟩,ty,pos,af,g⟩=execOp a.eval ⟨none,.defer ⟨.value x,#[],#[]⟩,ty,pos,af,g⟩:=by rw [hr0]; rfl
 rw [hsem,hrun,Oper.uponIn_defer]
 have:=hk { a with defers:={ target:=.fn (.func f) cs.toArray,args:=#[] }::a.defers } w ⟨h1,fun h=>(by cases h),h3,o,hb,?_,hs⟩
 ·rw [zgf] at this
  exact this
 ·have hd:=h2 hr
  rw [hd] at ht ⊢
  exact ⟨[],by simp [Env.push,h0],ht.tr,zfK.nil _ _ _⟩
theorem zcu {P:Program} {w0:World} {o0:Own} {fn:Func} {tmps:Array Value} {R:Ending→World→Prop} {u:FrameMode} {H:List HA} {ds0:List Deferred} (hu:u≠.run)
    (h:∀ w' o,Bnd w' o→Tr w0 o0 w' o→Sats w' o H→LeavesInM (FR none) 0 P fn tmps R ds0 u w'):∀ (ds:List Deferred) (w:World) (o:Own),Bnd w o→TrM w0 o0 ds w o→Sats w o H→LeavesInM (FR none) 0 P fn tmps R (ds++ds0) u w
  | [],w,o,hb,ht,hs=>h w o hb ht.tr hs
  | d :: ds, w, o, hb, ht, hs => by
    obtain ⟨D,e,h1,h2,h3,h4⟩:=ht.mks.1 d (List.mem_cons_self ..)
    have hnd:=List.nodup_cons.1 ht.mks.2
    refine ⟨hu,.inl ⟨D,w.putObj D (.deferred none),by rw [e],run_takeDeferred h4,?_⟩⟩
    have hsz:(w.putObj D (.deferred none)).heap.size=w.heap.size:=World.putObj_size
    have hot:∀ b,o b≠.far→(w.putObj D (.deferred none)).heap[b]? = w.heap[b]?:=fun b hb=>World.putObj_heap_other (by rintro rfl; exact hb h3)
    refine zcu hu h ds _ o ?_ ?_ ?_
    · intro b hb'; exact hb b (by rwa [hsz] at hb')
    · refine ⟨⟨ht.tr.os,ht.tr.tape,ht.tr.output,by rw [hsz]; exact ht.tr.size,fun b hb' ho=>?_,fun b hb' ho=>?_⟩,fun d' hd'=>?_,hnd.2⟩
      · obtain ⟨f1,f2⟩:=ht.tr.no b hb' ho
        exact ⟨f1,(hot b (by rw [f1]; simp)).trans f2⟩
      · obtain ⟨f1,f2⟩:=ht.tr.far b hb' ho
        exact ⟨f1,(World.putObj_heap_other (by omega)).trans f2⟩
      · obtain ⟨D',e',g1,g2,g3,g4⟩:=ht.mks.1 d' (List.mem_cons_of_mem _ hd')
        refine ⟨D',e',g1,by rw [hsz]; exact g2,g3,(World.putObj_heap_other ?_).trans g4⟩
        rintro rfl
        exact hnd.1 (by rw [e,← e']; exact hd')
    · intro j g hj
      exact g.keep (Nat.le_of_eq hsz.symm) (fun b _ hb'=>⟨hb',hot b (by rw [hb']; simp)⟩) (fun b _ hb'=>⟨hb',hot b (by rw [hb']; simp)⟩) (hs j g hj)
theorem zjv {P:Program} {f:FuncId} {cs:Array Value} (hcall:∀ args w,(callFunc f args).run P w = .ok (.enter f args) w) (w:World):(invoke (.fn (.func f) cs) #[]).run P w = .ok (.enter f cs) w:=by
 simp [invoke,hcall]
def RecD (P:Program) (f:FuncId) (cs:List Value) (u u' : FrameMode) (H H' : List HA):Prop:=∀ w o,Bnd w o→Sats w o H→
 CallsDIn (FR none) 0 P f cs.toArray u w (fun e u2 w'=>e = .returned (.tuple #[])∧u2=u'∧∃ o',Bnd w' o'∧Tr w o w' o'∧Sats w' o' H')
section
variable {P : Program} {n : Nat} {w0 : World} {o0 : Own} {fn : Func} {post : Post} {f : FuncId} {cs : List Value}
theorem zeh (hcall:∀ args w,(callFunc f args).run P w = .ok (.enter f args) w) (hc:RecD P f cs .returning .returning H H) (h:Fin (EnvQ P n w0 o0 fn post) V H):Fin ((EnvQ P n w0 o0 fn post).push { target:=.fn (.func f) cs.toArray,args:=#[] }) V H:=by
 rintro a w ⟨h1,_,h3,o,hb,⟨ms,hds,ht⟩,hs⟩
 show LeavesInM (FR none) 0 P fn a.tmps (Ends w0 o0 post) a.defers .returning w
 have hds' : a.defers=ms++[{ target:=.fn (.func f) cs.toArray,args:=#[] }]:=by simpa [Env.push,EnvQ] using hds
 rw [hds']
 refine zcu (by simp) (fun w' o' hb' ht' hs'=>?_) ms w o hb ht hs
 refine ⟨by simp,.inr ⟨by simp [FR],_,_,_,_,rfl,zjv hcall w',fun _ _=>trivial,(hc w' o' hb' hs').mono ?_⟩⟩
 rintro e u w'' ⟨rfl,rfl,o'',hb'',ht'',hs''⟩
 exact h { a with defers:=[] } w'' ⟨h1,fun _=>rfl,h3,o'',hb'',⟨[],rfl,ht'.trans ht'',zfK.nil _ _ _⟩,hs''⟩
theorem zaS {v:Value} {H' : List HA} (hcall:∀ args w,(callFunc f args).run P w = .ok (.enter f args) w) (hc:RecD P f cs (.panicking [{ v:=v,recovered:=false }]) (.panicking [{ v:=v,recovered:=true }]) H H') (h:Fin (EnvQ P n w0 o0 fn post) V H'):FinP ((EnvQ P n w0 o0 fn post).push { target:=.fn (.func f) cs.toArray,args:=#[] }) V H v:=by
 rintro a w ⟨h1,_,h3,o,hb,⟨ms,hds,ht⟩,hs⟩
 show LeavesInM (FR none) 0 P fn a.tmps (Ends w0 o0 post) a.defers (.panicking [{ v:=v,recovered:=false }]) w
 have hds' : a.defers=ms++[{ target:=.fn (.func f) cs.toArray,args:=#[] }]:=by simpa [Env.push,EnvQ] using hds
 rw [hds']
 refine zcu (by simp) (fun w' o' hb' ht' hs'=>?_) ms w o hb ht hs
 refine ⟨by simp,.inr ⟨by simp [FR],_,_,_,_,rfl,zjv hcall w',fun _ _=>trivial,(hc w' o' hb' hs').mono ?_⟩⟩
 rintro e u w'' ⟨rfl,rfl,o'',hb'',ht'',hs''⟩
 exact h { a with defers:=[] } w'' ⟨h1,fun _=>rfl,h3,o'',hb'',⟨[],rfl,ht'.trans ht'',zfK.nil _ _ _⟩,hs''⟩
theorem Rel.leavesQ {a:Act} {w:World} (r:Rel (EnvQ P n w0 o0 fn post) V H a w)
  (h:∀ w' o,Bnd w' o→Tr w0 o0 w' o→Sats w' o H→∃ v,(results fn a.tmps).run P w' = .ok v w'∧Ends w0 o0 post (.returned v) w'):(EnvQ P n w0 o0 fn post).B .ret a w:=by
 obtain ⟨_,h2,_,o,hb,⟨ms,hds,ht⟩,hs⟩:=r
 have hd:=h2 rfl
 show LeavesInM (FR none) 0 P fn a.tmps (Ends w0 o0 post) a.defers .returning w
 rw [hd]
 exact h w o hb ht.tr hs
theorem z4R (rs:List ResultVar) (vs:List Value) (is:List Nat) (G:List HA)
  (hr:fn.results=rs.toArray) (hl:rs.length=vs.length) (hv:∀ (i:Nat) (r:ResultVar) (v:Value),rs[i]? = some r→vs[i]? = some v→ResIs P V H r v) (hn:is.Nodup) (hG:Picks is H G)
  (hp:post (tup vs) G):Fin (EnvQ P n w0 o0 fn post) V H:=by
 intro a w r
 exact r.leavesQ fun w' o hb ht hs=>⟨_,zhE r.2.2.1 hs rs vs hr hl hv,_,G,reown is o,rfl,hp,zhT is hb,ziG is ht,zix hn hG.get hs⟩
end
def EnvS (P:Program) (n:Nat) (w0:World) (o0:Own):Env:=
 { P:=P,n:=n,w0:=w0,o0:=o0,r:=none,nd:=true,B:=fun _ _ _=>False,np:=fun _ _ _ _ _ _ h=>h,no:=fun _ _ h=>h }
def OpsS (E:Env) (ops:Array Oper) (l:List Nat) (Q:Exit→Act→List Frame→World→Prop) (cs:List Frame) (V:VF) (H:List HA):Prop:=
 ∀ a w,Rel E V H a w→wpOpsSIn (FR none) 0 E.P ops Q l a cs w
def RunS (E:Env) (c:Code) (Q:Exit→Act→List Frame→World→Prop) (cs:List Frame) (V:VF) (H:List HA):Prop:=
 ∀ a w,Rel E V H a w→c.wpSIn (FR none) 0 E.P Q a cs w
section
variable {Q : Exit → Act → List Frame → World → Prop} {cs : List Frame} {ops : Array Oper} {rest : List Nat}
theorem z7b {x y:Code} (h:RunS E x (Exit.thenS (y.wpSIn (FR none) 0 E.P Q) Q) cs V H):RunS E (.seq x y) Q cs V H:=fun a w r=>wpSIn_seq (h a w r)
theorem z4i {id:Nat} (l:List Nat) (hl:List.range ops.size=l) (h:OpsS E ops l Q cs V H):RunS E (.region id ops false) Q cs V H:=fun a w r=>wpSIn_region (by rw [hl]; exact h a w r)
theorem z5x {y:Code} (h:RunS E y Q cs V H):∀ a w,Rel E V H a w→Exit.thenS (y.wpSIn (FR none) 0 E.P Q) Q .normal a cs w:=h
theorem zkU {c:Operand} {x y:Code} (t:Bool) (hc:V.ev c=some (.bool t)) (h:RunS E (if t then x else y) Q cs V H):RunS E (.cond c x y) Q cs V H:=
 fun a w r=>wpSIn_cond (r.2.2.1.ev hc) (h a w r)
theorem zdm {c:Operand} {x y:Code} (hc:V.ev c=some (.bool true)) (h:RunS E x Q cs V H):RunS E (.cond c x y) Q cs V H:=zkU true hc h
theorem zdl {c:Operand} {x y:Code} (hc:V.ev c=some (.bool false)) (h:RunS E y Q cs V H):RunS E (.cond c x y) Q cs V H:=zkU false hc h
theorem zg7 (h:∀ a w,Rel E V H a w→Q .normal a cs w):RunS E .skip Q cs V H:=fun a w r=>wpSIn_of_wpIn rfl (wpIn_skip (h a w r))
theorem z73 (h:∀ a w,Rel E V H a w→Q .normal a cs w):OpsS E ops [] Q cs V H:=fun a w r=>h a w r
theorem z9L {i:Nat} {op:Oper} {v:Value} (hi:ops[i]? = some op) (hg:op.guard=none) (hd:inB E.n op.dst=true) (h:OpY E.P op V H v) (hk:OpsS E ops rest Q cs (V.put op.dst v) H):OpsS E ops (i::rest) Q cs V H:=by
 intro a w r
 simp only [wpOpsSIn,hi]
 have hf:=r.fits
 obtain ⟨h1,h2,h3,o,hb,ht,hs⟩:=r
 refine ⟨fun _ _=>trivial,?_⟩
 rw [if_pos (by simp [Region.wanted,hg]),h a.eval w o hf hb hs]
 exact hk _ w (Rel.put h1 h2 h3 hd hb ht (Tr.refl w o) hs)
theorem z6u {i:Nat} {d:Option Nat} {ty:TypeId} {pos:String} {af:Array Edge} {v:Value} {cs' : List Frame} (hi:ops[i]? = some ⟨d,.call ⟨.builtin .recover,#[],#[]⟩,ty,pos,af,none⟩) (hd:inB E.n d=true)
  (hr:(match recoverD cs with | some (v,cs')=>(v,cs') | none=>(Value.nilIface,cs))=(v,cs')) (hk:OpsS E ops rest Q cs' (V.put d v) H):OpsS E ops (i::rest) Q cs V H:=by
 intro a w r
 simp only [wpOpsSIn,hi]
 obtain ⟨h1,h2,h3,o,hb,ht,hs⟩:=r
 refine ⟨fun _ _=>trivial,?_⟩
 rw [if_pos (by simp [Region.wanted])]
 have hrun:(execOp a.eval ⟨d,.call ⟨.builtin .recover,#[],#[]⟩,ty,pos,af,none⟩).run E.P w = .ok .recover w:=by
  simp [execOp,resolve,invoke,builtin]
 rw [hrun]
 have:=hk _ w (Rel.put (d:=d) (v:=v) h1 h2 h3 hd hb ht (Tr.refl w o) hs)
 cases hc:recoverD cs with
 | none=>rw [hc] at hr; simp at hr; obtain ⟨rfl,rfl⟩:=hr; exact this
 | some p=>obtain ⟨v1,c1⟩:=p; rw [hc] at hr; simp at hr; obtain ⟨rfl,rfl⟩:=hr; exact this
end
section
variable {P : Program} {f : FuncId} {fn : Func} {c : Code} {cs : List Value} {n : Nat}
theorem zfC {u u' : FrameMode} {H H' : List HA} (hf:P.funcs[f]? = some fn) (hb:fn.body=some c) (hm:fn.ntmps=n) (hn:Nat.ble cs.length n=true)
  (h:∀ (w0:World) (o0:Own) (c0:Frame) (cf:List Frame),c0.mode=u→
   RunS (EnvS P n w0 o0) c (bodyPostS P fn c0 cf (fun e u2 w'=>e = .returned (.tuple #[])∧u2=u'∧∃ o',Bnd w' o'∧Tr w0 o0 w' o'∧Sats w' o' H')) (c0::cf) (VF.args cs 0) H):RecD P f cs u u' H H':=by
 intro w o hbd hs
 refine callsDIn_of_wpSIn hf hb trivial fun c0 cf hu=>?_
 refine h w o c0 cf hu _ _ ⟨?_,(fun _=>rfl),?_,o,hbd,TrD.of (TrM.refl w o) rfl,hs⟩
 ·have:=Nat.le_of_ble_eq_true hn
  simp [hm,EnvS]; omega
 ·intro t v hv
  obtain ⟨_,h2⟩:=VF.args_get cs 0 t v hv
  exact z9V v (by simpa using h2)
theorem leafS {w0:World} {o0:Own} {u' : FrameMode} {c0:Frame} {cf cs' : List Frame} {H' : List HA} {V:VF} (hr:fn.results = #[]) (hcs:cs' = { c0 with mode:=u' }::cf) :
  ∀ a w,Rel (EnvS P n w0 o0) V H' a w→bodyPostS P fn c0 cf (fun e u2 w'=>e = .returned (.tuple #[])∧u2=u'∧∃ o',Bnd w' o'∧Tr w0 o0 w' o'∧Sats w' o' H') .normal a cs' w:=by
 rintro a w ⟨h1,h2,h3,o,hb,ht,hs⟩
 refine ⟨h2 rfl,u',hcs,_,?_,rfl,rfl,o,hb,ht.tr,hs⟩
 unfold results
 rw [hr]
 simp
theorem zg3 {c0:Frame} {u:FrameMode} (h:c0.mode=u):c0 = { c0 with mode:=u }:=by
 subst h; rfl
end
end Go.Abs
namespace Go.Abs
variable {E : Env} {k : List KI} {V : VF} {H : List HA}
def Env.calm (E:Env):Env:={ E with B:=fun _ _ _=>False,blind:=true,np:=fun _ _ _ _ _ _ h=>h,no:=fun _ _ h=>h }
theorem zcY {c:Code} (h:∀ L:Act→World→Prop,(∀ V' H',Goes E k V' H'→∀ a w,Rel E V' H' a w→L a w)→Run E.calm c [.loop L] V H):Run E c k V H:=by
 intro a w r
 refine wpIn_mono (h (fun a w=>Qof E k .normal a w) (fun V' H' hg a w r=>hg a w r) a w r) ?_
 intro e a w hq
 cases e with
 | normal=>exact hq
 | exit id=>exact hq.elim
 | goto l=>exact hq.elim
 | ret=>exact hq.elim
 | panic ch=>exact hq.elim
 | outgrown=>exact hq.elim
theorem zay {L:Act→World→Prop} (hL:∀ V' H',Goes E k V' H'→∀ a w,Rel E V' H' a w→L a w) (h:Goes E k V H):Goes E.calm [.loop L] V H:=fun a w r=>hL V H h a w r
theorem zkV {Q:Exit→Act→List Frame→World→Prop} {cs:List Frame} {c:Code} (h:∀ L:Act→World→Prop,(∀ V' H',(∀ a w,Rel E V' H' a w→Q .normal a cs w)→∀ a w,Rel E V' H' a w→L a w)→Run E.calm c [.loop L] V H) (hr:E.r=none:=by exact rfl):RunS E c Q cs V H:=by
 intro a w r
 refine wpSIn_of_wpIn rfl ?_
 have:=h (fun a w=>Q .normal a cs w) (fun V' H' hg a w r=>hg a w r) a w r
 rw [show (FR E.calm.r)=FR none from congrArg FR hr] at this
 refine wpIn_mono this ?_
 intro e a w hq
 cases e with
 | normal=>exact hq
 | exit id=>exact hq.elim
 | goto l=>exact hq.elim
 | ret=>exact hq.elim
 | panic ch=>exact hq.elim
 | outgrown=>exact hq.elim
end Go.Abs
namespace Go.Abs
end Go.Abs
namespace Go.Abs
variable {P : Program} {V : VF} {H : List HA} {d : Option Nat} {ty : TypeId} {pos : String} {af : Array Edge} {g : Option (Nat × Bool)}
end Go.Abs
namespace Go.Abs
theorem zpG {b:Int} (h:0≤b∧b≤255):eB8 (b.toNat.toUInt8)=[.int .u8 b]:=by
 unfold eB8
 have:(b.toNat.toUInt8).toNat=b.toNat:=by
  show (UInt8.ofNat b.toNat).toNat=b.toNat
  rw [UInt8.toNat_ofNat']
  omega
 rw [this,Int.toNat_of_nonneg h.1]
end Go.Abs
namespace Go.Abs
section
variable {V : VF} {H : List HA} {P : Program} {d : Option Nat} {ty : TypeId} {pos : String} {af : Array Edge} {g : Option (Nat × Bool)}
theorem t_s2b {S T el:TypeId} {x:Operand} {l:List UInt8} (hS:P.underlying S=some .string) (hT:P.underlying T=some (.slice el)) (he:P.underlying el=some (.int .u8)) (hx:V.ev x=some (.string (bs l))) (hl:l.length≤4294967296) :
    OpT P ⟨d,.convert S T x,ty,pos,af,g⟩ V H (fun v' H'=>(∃ a c,v' = .slice (some a) l.length c)∧H'=H++[row v' 1 (u8c l)]):=by
  intro ρ w o hf hbd hs
  have hsz:(bs l).size=l.length:=by simp [bs,ByteArray.size]
  have hrun:(execOp ρ ⟨d,.convert S T x,ty,pos,af,g⟩).run P w = .ok (.value (.slice (some ⟨w.heap.size,0,none⟩) l.length (grownCap w l.length 0 el)))
      (w.drew.alloc (.cells (bytesRow (bs l) (grownCap w l.length 0 el)) el ((bytesRow (bs l) (grownCap w l.length 0 el)).size,(bytesRow (bs l) (grownCap w l.length 0 el)).size+1))):=by
    have:=run_bytes_of_string (P:=P) w S T el (bs l) hS hT he
    rw [hsz] at this
    simp [execOp,hf x _ hx,this]
  unfold Does
  rw [hrun]
  have hge:=grownCap_ge w l.length 0 el
  have hle:=grownCap_le_maxLen w l.length 0 el (by unfold maxLen; omega)
  generalize grownCap w l.length 0 el=c at hge hle ⊢
  have hsz2:(bytesRow (bs l) c).size=c:=by
    have hd:(bs l).data.size=l.length:=by simp [bs]
    unfold bytesRow
    rw [hsz,Array.size_append,Array.size_map,Array.size_replicate,hd]
    omega
  have hn' : Nw w (.cells (bytesRow (bs l) c) el ((bytesRow (bs l) c).size,(bytesRow (bs l) c).size+1)) (w.drew.alloc (.cells (bytesRow (bs l) c) el ((bytesRow (bs l) c).size,(bytesRow (bs l) c).size+1))):=zdG w _ _
  have hrow:RowIs (w.drew.alloc (.cells (bytesRow (bs l) c) el ((bytesRow (bs l) c).size,(bytesRow (bs l) c).size+1))) (fun b=>zar o w.heap.size H.length b = .mine H.length) (.slice (some ⟨w.heap.size,0,none⟩) l.length c) 1 (u8c l):=by
    refine .inr ⟨w.heap.size,0,c,bytesRow (bs l) c,el,_,by simp [u8c],by simp [zar],by rw [hn'.size]; omega,hn'.here,.inr (Nat.le_refl _),by rw [hsz2]; simp,by simpa [u8c] using hge,hle,?_,?_⟩
    · intro x hx
      obtain ⟨b,_,rfl⟩:=List.mem_map.1 hx
      rfl
    · intro i x hi j y hj
      simp only [u8c,List.getElem?_map,Option.map_eq_some_iff] at hi
      obtain ⟨b,hb,rfl⟩:=hi
      cases j with
      | succ j=>simp at hj
      | zero =>
        obtain rfl:Value.int .u8 b.toNat=y:=by simpa using hj
        have hlt:=(List.getElem?_eq_some_iff.1 hb).1
        unfold bytesRow
        rw [Array.getElem?_append_left (by simp [bs]; omega)]
        simp [bs,hb]
  obtain ⟨h1,h2,h3⟩:=zbW (g:=row (.slice (some ⟨w.heap.size,0,none⟩) l.length c) 1 (u8c l)) hbd hn' hs hrow
  exact ⟨_,_,⟨⟨_,_,rfl⟩,rfl⟩,h1,h2,h3⟩
theorem zog {T el:TypeId} {z:Value} {ti:TypeInfo} {x y:Operand} {n:Int} {es:Nat} (hu:∀ w,(underlying T).run P w = .ok (.slice el) w) (hti:∀ w,(typeInfo el).run P w = .ok ti w) (hes:ti.size=es) (h0:∀ w,(zeroValue el).run P w = .ok z w)
  (hzs:z.cells.size=es) (hpos:es≠0) (hx:V.ev x=some (.int .i64 0)) (hy:V.ev y=some (.int .i64 n)) (hn0:0<n) (hn1:n≤4294967296) (hb:ti.bytes≤16384) :
  OpT P ⟨d,.makeSlice T x y,ty,pos,af,g⟩ V H (fun v' H'=>(∃ a c,v' = .slice a 0 c)∧H'=H++[row v' es []]):=by
 intro ρ w o hf hbd hs
 have hw:IntKind.i64.wrap n=n:=zb6 (by omega) (by omega)
 have hw0:IntKind.i64.wrap 0=0:=zb6 (by omega) (by omega)
 have hsz:∀ w,(sizeOf el).run P w = .ok es w:=fun w=>by simp [sizeOf,hti,hes]
 have hbn:(ti.bytes:Int)*n≤16384*4294967296:=by
  have h1:(ti.bytes:Int)*n≤16384*n:=Int.mul_le_mul_of_nonneg_right (by omega) (by omega)
  omega
 have hbig:¬ (281474976710656:Int)<(ti.bytes:Int)*n:=by omega
 have hroom:¬ roomBytes<n.toNat*ti.bytes:=by
  have h1:n.toNat*ti.bytes≤4294967296*16384:=Nat.mul_le_mul (by omega) hb
  have h2:4294967296*16384≤roomBytes:=by unfold roomBytes; decide
  omega
 have hfl:=zmT n.toNat z.cells (by omega)
 have hne:¬ n.toNat*es=0:=by
  intro h; rcases Nat.mul_eq_zero.1 h with h | h <;> omega
 have hrun:(execOp ρ ⟨d,.makeSlice T x y,ty,pos,af,g⟩).run P w = .ok (.value (.slice (some ⟨w.heap.size,0,none⟩) 0 n.toNat)) { w with heap:=w.heap.push (.cells (List.replicate n.toNat z.cells.toList).flatten.toArray el) }:=by
  simp [execOp,Instr.makeSlice,hf x _ hx,hf y _ hy,hu,asInt,asIntOf,hti,hw,hw0,hbig,Int.not_lt.2 (Int.le_of_lt hn0),askRoom,hroom,hsz,hne,h0,newRow]
  rw [← hfl,hzs]
 unfold Does
 rw [hrun]
 have hn':=zdG w (.cells (List.replicate n.toNat z.cells.toList).flatten.toArray el) w.drawn
 have hrow:RowIs { w with heap:=w.heap.push (.cells (List.replicate n.toNat z.cells.toList).flatten.toArray el) } (fun b=>zar o w.heap.size H.length b = .mine H.length) (.slice (some ⟨w.heap.size,0,none⟩) 0 n.toNat) es []:=by
  refine .inr ⟨w.heap.size,0,n.toNat,(List.replicate n.toNat z.cells.toList).flatten.toArray,el,(0,0),by simp,by simp [zar],by simp,by simp,.inl (Nat.le_refl _),?_,by simp,by unfold maxLen; omega,by simp,by simp⟩
  rw [List.size_toArray,zmU]; simp [hzs]
 obtain ⟨h1,h2,h3⟩:=zbW (g:=row (.slice (some ⟨w.heap.size,0,none⟩) 0 n.toNat) es []) hbd hn' hs hrow
 exact ⟨_,_,⟨⟨_,_,rfl⟩,rfl⟩,h1,h2,h3⟩
theorem zhP {f:FuncId} {fs:Array Operand} {vs:List Value} (h:fs.toList.map V.ev=vs.map some):OpY P ⟨d,.makeFunc (.func f) fs #[],ty,pos,af,g⟩ V H (.func (.func f) vs.toArray #[]):=by
  intro ρ w o hf _ _
  have:fs.map ρ=vs.toArray:=by
    apply Array.ext'
    rw [Array.toList_map]
    generalize fs.toList=l at h
    induction l generalizing vs with
    | nil=>cases vs <;> simp_all
    | cons x r ih =>
      cases vs with
      | nil=>simp at h
      | cons v vs =>
        simp only [List.map_cons,List.cons.injEq] at h ⊢
        exact ⟨hf _ _ h.1,ih h.2⟩
  simp [execOp,Instr.makeFunc,this]
end
end Go.Abs
