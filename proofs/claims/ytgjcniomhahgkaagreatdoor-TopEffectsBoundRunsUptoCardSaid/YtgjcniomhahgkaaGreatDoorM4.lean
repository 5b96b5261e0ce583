/-
  Texts that stand side by side: AbsArrV, AbsByte, AbsByte2, AbsF, AbsRul, AbsG, AbsGrow, AbsClr, AbsNM, AbsY.
-/
import Derived.Test.YtgjcniomhahgkaaGreatDoorM0
import Derived.Test.YtgjcniomhahgkaaGreatDoorM1
import Derived.Test.YtgjcniomhahgkaaGreatDoorAbsE
import Derived.Test.YtgjcniomhahgkaaGreatDoorM2
import Derived.RangeFuncNested
set_option linter.unusedSimpArgs false
set_option linter.unusedVariables false
namespace Go.Abs
open Go.Sem
variable {P : Program} {V : VF} {H : List HA} {d : Option Nat} {ty : TypeId} {pos : String} {af : Array Edge} {g : Option (Nat × Bool)}
section
variable {T : Type} {F : T → List Value} {es : Nat}
end
end Go.Abs
namespace Go.Abs
theorem zbt (x:Int):0≤IntKind.u8.wrap x∧IntKind.u8.wrap x<256:=by
 simp [IntKind.wrap,IntKind.bits,IntKind.signed]
 omega
theorem zlC (x:Int):(((IntKind.u8.wrap x).toNat.toUInt8).toNat:Int)=IntKind.u8.wrap x:=by
 have:=zbt x
 generalize IntKind.u8.wrap x=y at this
 have:(y.toNat.toUInt8).toNat=y.toNat:=by
  show (UInt8.ofNat y.toNat).toNat=y.toNat
  rw [UInt8.toNat_ofNat']
  omega
 omega
theorem zhT (x:Int):eB8 ((IntKind.u8.wrap x).toNat.toUInt8)=[.int .u8 (IntKind.u8.wrap x)]:=by
 unfold eB8
 rw [zlC]
end Go.Abs
namespace Go.Abs
variable {P : Program} {V : VF} {H : List HA} {d : Option Nat} {ty : TypeId} {pos : String} {af : Array Edge} {g : Option (Nat × Bool)}
end Go.Abs
namespace Go.Abs
theorem zkj {b:Int} (h:0≤b∧b≤255):eB8 (b.toNat.toUInt8)=[.int .u8 b]:=by
 unfold eB8
 have:(b.toNat.toUInt8).toNat=b.toNat:=by
  show (UInt8.ofNat b.toNat).toNat=b.toNat
  rw [UInt8.toNat_ofNat']
  omega
 rw [this,Int.toNat_of_nonneg h.1]
end Go.Abs
namespace Go.Abs
inductive Sv:List HA→Nat→(Value→HA)→(Value→List HA)→Prop
 | z {h:HA} {H:List HA} {f:Value→HA}:Sv (h::H) 0 f (fun v=>f v::H)
 | s {h:HA} {H:List HA} {n:Nat} {f:Value→HA} {K:Value→List HA} (r:Sv H n f K):Sv (h::H) (n+1) f (fun v=>h::K v)
theorem Sv.eq {H:List HA} {n:Nat} {f:Value→HA} {K:Value→List HA} (h:Sv H n f K) (v:Value):H.set n (f v)=K v:=by
 induction h with
 | z=>rfl
 | s _ ih=>rw [List.set_cons_succ,ih]
class Ef {α:Type} (F:α→List Value) (es:outParam Nat):Prop where
 ok:∀ x,(F x).length=es∧∀ u∈F x,u.oneCell'=true
instance {kd:IntKind}:Ef (eInt kd) 1:=⟨fun x=>zkk kd x⟩
instance:Ef eB8 1:=⟨zn3⟩
instance:Ef eBool 1:=⟨zhU⟩
instance:Ef eStr 1:=⟨zkl⟩
class Et (el:TypeId) (α:outParam Type) (F:outParam (α→List Value)):Prop where
 t:True
class Etn (el:TypeId) (α:outParam Type) (C:outParam (NC α)):Prop where
 t:True
class De {α:Type} (F:α→List Value) (v:Value) (x:outParam α):Prop where
 e:v.cells.toList=F x
instance {kd:IntKind} {a:Int}:De (eInt kd) (.int kd a) a:=⟨rfl⟩
instance {b:Bool}:De eBool (.bool b) b:=⟨rfl⟩
instance {l:List UInt8}:De eStr (.string (bs l)) l:=⟨rfl⟩
instance {b:UInt8}:De eB8 (.int .u8 (b.toNat:Int)) b:=⟨rfl⟩
instance {z:Int}:De eB8 (.int .u8 (IntKind.u8.wrap z)) (IntKind.u8.wrap z).toNat.toUInt8:=⟨by rw [zhT]; rfl⟩
theorem de_b {a:Int} (h:0≤a∧a≤255):De eB8 (.int .u8 a) a.toNat.toUInt8:=⟨by rw [zkj h]; rfl⟩
inductive Dl {α:Type} (F:α→List Value):List Value→List α→Prop
 | z:Dl F [] []
 | s {v:Value} {x:α} {vs:List Value} {xs:List α} (h:De F v x) (r:Dl F vs xs):Dl F (v::vs) (x::xs)
theorem Dl.eq {α:Type} {F:α→List Value} {vs:List Value} {xs:List α} (h:Dl F vs xs):(vs.map fun v=>v.cells.toList)=xs.map F∧vs.length=xs.length∧∀ v∈vs,∃ x,v.cells.toList=F x:=by
  induction h with
  | z=>exact ⟨rfl,rfl,fun _ h=>by cases h⟩
  | s h _ ih => exact ⟨by rw [List.map_cons, List.map_cons, h.e, ih.1], by rw [List.length_cons, List.length_cons, ih.2.1], fun v hv => by
      rcases List.mem_cons.1 hv with rfl | hv
      · exact ⟨_,h.e⟩
      · exact ih.2.2 v hv⟩
inductive Pz (V:VF):List (Nat×Operand)→Nat→List Value→Prop
 | z {n:Nat}:Pz V [] n []
 | s {x:Operand} {v:Value} {n:Nat} {ps:List (Nat×Operand)} {vs:List Value} (h:V.ev x=some v) (r:Pz V ps (n+1) vs):Pz V ((n,x)::ps) n (v::vs)
theorem Pz.eq {V:VF} {ps:List (Nat×Operand)} {n:Nat} {vs:List Value} (h:Pz V ps n vs):ps.map (fun p=>(p.1,V.ev p.2))=(z8Q n vs).map (fun p=>(p.1,some p.2)):=by
 induction h with
 | z=>rfl
 | s h _ ih=>rw [List.map_cons,ih]; simp only [z8Q,List.map_cons,h]
inductive Sa {α:Type} (H:List HA) (F:α→List Value) (es:Nat):Value→List α→Prop
 | s {l:List UInt8} {l2:List α} (h:u8c l=l2.map F) (e:es=1):Sa H F es (.string (bs l)) l2
 | n:Sa H F es (.slice none 0 0) []
 | r {v:Value} {l2:List α} (h:Rd H v es (l2.map F)):Sa H F es v l2
theorem Sa.src {P:Program} {α:Type} {H:List HA} {F:α→List Value} {es:Nat} {v:Value} {l2:List α} (h:Sa H F es v l2) (he:Ef F es):Src P H v es (l2.map F):=by
 cases h with
 | s h e=>subst e; rw [← h]; exact zh3 _
 | n=>exact zeO
 | r h=>obtain ⟨m,g,h1,h2⟩:=h.ex; exact zaT m h1 h2 (zkP he.ok l2)
section
variable {R : Type} {g : Hn} {X : Option R} {r : R} {E : Env} {k : List KI} {L L' : List (Nat × Value)} {H H' H1 : List HA} {ops : Array Oper} {rest l : List Oper} {m m' : Md} {Hg : List HA}
variable {d : Nat} {ty : TypeId} {pos : String} {af : Array Edge} {gd : Option (Nat × Bool)} {T T2 el e2 : TypeId} {x y : Operand} {v vy z : Value} {ti : TypeInfo} {ds2 : TypeDesc}
theorem zfq {α:Type} {F:α→List Value} {l l2:List α} {es i:Nat} {K:Value→List HA}
  (hn2:Nt m m') (hk:∀ v',l.length+l2.length≤4294967296→DM m' rest X g r E ops k ((d,v')::L) (K v'))
  (hx:(VF.of L).ev x=some v) (hm:At H i (row v es (l.map F))) (hS:Sv H i (fun v'=>row v' es ((l++l2).map F)) K) (hy:(VF.of L).ev y=some vy) (he:Ef F es) (hs:Sa H F es vy l2)
  (hu:∀ w,(underlying T).run E.P w = .ok (.slice el) w) (hu2:∀ w,(underlying T2).run E.P w = .ok ds2 w) (hni:ds2 = .string∨∃ e,ds2 = .slice e) (hti:∀ w,(typeInfo el).run E.P w = .ok ti w) (hes:ti.size=es) (hby:(ti.bytes != 0 && Nat.ble ti.bytes 16384)=true) (h0:∀ w,(zeroValue el).run E.P w = .ok z w) (hzs:z.cells.size=es)
  (hw:Wants E.n ops (VF.of L) ⟨some d,.call ⟨.builtin .append,#[x,y],#[T,T2]⟩,ty,pos,af,gd⟩) (hd:inB E.n (some d)=true) :
  DO m (⟨some d,.call ⟨.builtin .append,#[x,y],#[T,T2]⟩,ty,pos,af,gd⟩::rest) (need (l.length+l2.length≤4294967296) X) g r E ops k L H:=⟨fun hX=>by
 obtain ⟨hn,hX⟩:=z39 hX
 simp only [Bool.and_eq_true,bne_iff_ne,ne_eq] at hby
 refine wk_t hn2 hw hd (z9P (es:=es) (new:=l2.map F) i rfl hu rfl hu2 hni hti hes hby.1 h0 hzs hx hm.get hy (hs.src he) (z9I hn (Nat.le_of_ble_eq_true hby.2)) (zeh hn)) ?_
 rintro v' _ rfl
 rw [← List.map_append,hS.eq v']
 exact (hk v' hn).out hX⟩
theorem zdA {α:Type} {F:α→List Value} {l2:List α} {es:Nat} (ht:Et el α F) (he:Ef F es)
  (hn2:Nt m m') (hb0:Sb m (H++[row (.slice none 0 0) es []])) (hk:∀ v',([]:List α).length+l2.length≤4294967296→DM m' rest X g r E ops k ((d,v')::L) (H++[row v' es (([]++l2).map F)]))
  (hx:(VF.of L).ev x=some (.slice none 0 0)) (hy:(VF.of L).ev y=some vy) (hs:Sa H F es vy l2)
  (hu:∀ w,(underlying T).run E.P w = .ok (.slice el) w) (hu2:∀ w,(underlying T2).run E.P w = .ok ds2 w) (hni:ds2 = .string∨∃ e,ds2 = .slice e) (hti:∀ w,(typeInfo el).run E.P w = .ok ti w) (hes:ti.size=es) (hby:(ti.bytes != 0 && Nat.ble ti.bytes 16384)=true) (h0:∀ w,(zeroValue el).run E.P w = .ok z w) (hzs:z.cells.size=es)
  (hw:Wants E.n ops (VF.of L) ⟨some d,.call ⟨.builtin .append,#[x,y],#[T,T2]⟩,ty,pos,af,gd⟩) (hd:inB E.n (some d)=true) :
  DO m (⟨some d,.call ⟨.builtin .append,#[x,y],#[T,T2]⟩,ty,pos,af,gd⟩::rest) (need (([]:List α).length+l2.length≤4294967296) X) g r E ops k L H:=⟨fun hX=>by
 obtain ⟨hn,hX⟩:=z39 hX
 simp only [Bool.and_eq_true,bne_iff_ne,ne_eq] at hby
 refine z7l (nilrow (es:=es)) (wd hb0 ?_)
 have hsrc:Src E.P (H++[row (.slice none 0 0) es []]) vy es (l2.map F):=by
  cases hs with
  | s h e=>subst e; rw [← h]; exact zh3 _
  | n=>exact zeO
  | r h=>obtain ⟨m,g,h1,h2⟩:=h.ex; exact zaT m (by rw [List.getElem?_append_left (List.getElem?_eq_some_iff.1 h1).1]; exact h1) h2 (zkP he.ok l2)
 refine wk_t hn2 hw hd (z9P (es:=es) (cells:=([]:List α).map F) (new:=l2.map F) H.length rfl hu rfl hu2 hni hti hes hby.1 h0 hzs hx (by simp) hy hsrc (z9I hn (Nat.le_of_ble_eq_true hby.2)) (zeh hn)) ?_
 rintro v' _ rfl
 rw [← List.map_append]
 have:(H++[row (.slice none 0 0) es []]).set H.length (row v' es (([]++l2).map F))=H++[row v' es (([]++l2).map F)]:=by simp
 rw [this]
 exact (hk v' hn).out hX⟩
theorem zmQ {α:Type} {F:α→List Value} {es n:Nat} {ps:List (Nat×Operand)} {vs:List Value} {xs:List α} (ht:Et el α F) (he:Ef F es)
  (hn2:Nt m m') (hk:∀ v',DM m' rest X g r E ops k ((d,v')::L) (H++[row v' es (xs.map F)])) (hu:∀ w,(underlying T).run E.P w = .ok (.slice el) w) (hz:∀ w,(sizeOf el).run E.P w = .ok es w) (h0:∀ w,(zeroValue el).run E.P w = .ok z w)
  (hp:Pz (VF.of L) ps 0 vs) (hD:Dl F vs xs) (hn:vs.length=n) (hb:(Nat.ble (n*es) (2 ^ 24) && Nat.ble n (2 ^ 24))=true)
  (hw:Wants E.n ops (VF.of L) ⟨some d,.buildSlice T n ps.toArray,ty,pos,af,gd⟩) (hd:inB E.n (some d)=true):DO m (⟨some d,.buildSlice T n ps.toArray,ty,pos,af,gd⟩::rest) X g r E ops k L H:=⟨fun hX=>by
 simp only [Bool.and_eq_true] at hb
 obtain ⟨h1,h2,h3⟩:=hD.eq
 refine wk_t hn2 hw hd (t_lit vs hu hz h0 hp.eq (Nat.le_of_ble_eq_true hb.1) (Nat.le_of_ble_eq_true hb.2) hn (fun v hv=>by obtain ⟨x,hx⟩:=h3 v hv; have:=(he.ok x).1; rw [← hx] at this; simpa using this)) ?_
 rintro v' _ ⟨rfl,_⟩
 rw [h1]
 exact (hk v').out hX⟩
theorem zjZ {a b:List UInt8} {u:TypeId} (hn2:Ny m m' H Hg) (hk:a.length+b.length≤4294967296→DO m' rest X g r E ops k ((d,.string (bs (a++b)))::L) H) (hx:(VF.of L).ev x=some (.string (bs a))) (hy:(VF.of L).ev y=some (.string (bs b)))
  (hw:Wants E.n ops (VF.of L) ⟨some d,.binOp .add T x y u,ty,pos,af,gd⟩) (hd:inB E.n (some d)=true):DO m (⟨some d,.binOp .add T x y u,ty,pos,af,gd⟩::rest) (need (a.length+b.length≤4294967296) X) g r E ops k L H:=⟨fun hX=>by
 obtain ⟨hn,hX⟩:=z39 hX
 exact wk_y hn2 hw hd (zoo hx hy hn) ((hk hn).out hX)⟩
end
class Mt (kt el:TypeId) (κ β:outParam Type) (ds:outParam TypeDesc) (K:outParam (κ→Value)) (G:outParam (β→Value)) (d0:outParam β):Prop where
 t:True
class Dk {κ:Type} (K:κ→Value) (v:Value) (x:outParam κ):Prop where
 e:v=K x
instance {kd:IntKind} {a:Int}:Dk (fun n:Int=>Value.int kd n) (.int kd a) a:=⟨rfl⟩
instance {b:Bool}:Dk (fun b:Bool=>Value.bool b) (.bool b) b:=⟨rfl⟩
instance {l:List UInt8}:Dk (fun l:List UInt8=>Value.string (bs l)) (.string (bs l)) l:=⟨rfl⟩
instance {l:List UInt8}:Dk (fun l:List UInt8=>Value.string (bs l)) (.string (ByteArray.mk l.toArray)) l:=⟨rfl⟩
instance {l:List UInt8}:De eStr (.string (ByteArray.mk l.toArray)) l:=⟨rfl⟩
section
variable {R : Type} {g : Hn} {X : Option R} {r : R} {E : Env} {k : List KI} {L L' : List (Nat × Value)} {H H' H1 : List HA} {ops : Array Oper} {rest l : List Oper} {m m' : Md} {Hg : List HA}
variable {d : Nat} {ty : TypeId} {pos : String} {af : Array Edge} {gd : Option (Nat × Bool)} {T kt el : TypeId} {x y z : Operand} {u u2 : Value} {b i : Nat} {ds : TypeDesc}
variable {κ β : Type} {K : κ → Value} {G : β → Value} {d0 : β} {lm : List (κ × β)} {kk : κ} {vv : β}
theorem zdB (hn2:Nt m m') (hk:∀ b,DM m' rest X g r E ops k ((d,mapV b)::L) (H++[mapis b (mcells K G [])])) (hT:∀ w,(underlying T).run E.P w = .ok (.map kt el) w) (ht:Mt kt el κ β ds K G d0)
  (hw:Wants E.n ops (VF.of L) ⟨some d,.makeMap T none,ty,pos,af,gd⟩) (hd:inB E.n (some d)=true):DO m (⟨some d,.makeMap T none,ty,pos,af,gd⟩::rest) X g r E ops k L H:=
 ⟨fun hX=>wk_t hn2 hw hd zcC (by rintro _ _ ⟨b,rfl,rfl⟩; exact (hk b).out hX)⟩
theorem zjT (hn2:Nt m m') (hb:Sb m' H') (hk:DO m' rest X g r E ops k L H') (hx:(VF.of L).ev x=some (mapV b)) (hm:At H i (mapis b (mcells K G lm))) (hy:(VF.of L).ev y=some u) (hz:(VF.of L).ev z=some u2) (hK:Dk K u kk) (hG:Dk G u2 vv) {dk:DecidableEq κ} (hKd : @KeyOk κ dk ds K)
  (hS:St H i (mapis b (mcells K G (mput lm kk vv))) H') (hT:∀ w,(underlying T).run E.P w = .ok (.map kt el) w) (hkt:∀ w,(underlying kt).run E.P w = .ok ds w)
  (hw:Wants E.n ops (VF.of L) ⟨none,.mapUpdate T x y z,ty,pos,af,gd⟩):DO m (⟨none,.mapUpdate T x y z,ty,pos,af,gd⟩::rest) X g r E ops k L H:=
 ⟨fun hX=>wk_t hn2 hw rfl (z83 i hKd hT hkt hx (hK.e ▸ hy) (hG.e ▸ hz) hm.get false) (by rintro _ _ ⟨rfl,rfl⟩; rw [hS.eq]; exact wd hb (hk.out hX))⟩
theorem zjS (hn2:Nt m m') (hb:Sb m' H') (hk:DO m' rest X g r E ops k L H') (hx:(VF.of L).ev x=some (mapV b)) (hm:At H i (mapis b (mcells K G lm))) (hy:(VF.of L).ev y=some u) (hz:(VF.of L).ev z=some u2) (hK:Dk K u kk) (hG:Dk G u2 vv) {dk:DecidableEq κ} (hKd : @KeyOk κ dk ds K)
  (hS:St H i (mapis b (mcells K G (mput lm kk vv))) H') (hT:∀ w,(underlying T).run E.P w = .ok (.map kt el) w) (hkt:∀ w,(underlying kt).run E.P w = .ok ds w)
  (hw:Wants E.n ops (VF.of L) ⟨none,.insert T x y z,ty,pos,af,gd⟩):DO m (⟨none,.insert T x y z,ty,pos,af,gd⟩::rest) X g r E ops k L H:=
 ⟨fun hX=>wk_t hn2 hw rfl (z83 i hKd hT hkt hx (hK.e ▸ hy) (hG.e ▸ hz) hm.get true) (by rintro _ _ ⟨rfl,rfl⟩; rw [hS.eq]; exact wd hb (hk.out hX))⟩
theorem y_lk {P:Program} {V:VF} {d:Option Nat} (hx:V.ev x=some (mapV b)) (hm:At H i (mapis b (mcells K G lm))) (hy:V.ev y=some u) (hK:Dk K u kk) {dk:DecidableEq κ} (hKd : @KeyOk κ dk ds K) (hT:∀ w,(underlying T).run P w = .ok (.map kt el) w) (hkt:∀ w,(underlying kt).run P w = .ok ds w)
 (ht:Mt kt el κ β ds K G d0) (h0:∀ w,(zeroValue el).run P w = .ok (G d0) w):OpY P ⟨d,.lookup T x y false,ty,pos,af,gd⟩ V H (G ((mget lm kk).getD d0)):=zbU i hKd hT hkt h0 hx (hK.e ▸ hy) hm.get
end
inductive Su {α:Type} (V:VF) (src:List α):Option Operand→Option Operand→Int→Int→List α→Prop
 | b {x y:Operand} {ka kb:IntKind} {l r:Int} (h1:V.ev x=some (.int ka l)) (h2:V.ev y=some (.int kb r)):Su V src (some x) (some y) l r ((src.take r.toNat).drop l.toNat)
 | l {x:Operand} {ka:IntKind} {l:Int} (h1:V.ev x=some (.int ka l)):Su V src (some x) none l (src.length:Int) (src.drop l.toNat)
 | h {y:Operand} {kb:IntKind} {r:Int} (h2:V.ev y=some (.int kb r)):Su V src none (some y) 0 r (src.take r.toNat)
theorem Su.out {α:Type} {V:VF} {src nl:List α} {lo hi:Option Operand} {l r:Int} (h:Su V src lo hi l r nl):Bi V lo 0 l∧Bi V hi src.length r∧(src.take r.toNat).drop l.toNat=nl:=by
 cases h with
 | b h1 h2=>exact ⟨bi1 h1,bi1 h2,rfl⟩
 | l h1=>exact ⟨bi1 h1,bi0,by simp⟩
 | h h2=>exact ⟨bi0,bi1 h2,by simp⟩
inductive Bs (d:Nat):List Oper→Prop
 | z {dd:Option Nat} {T:TypeId} {a:Operand} {ty:TypeId} {pos:String} {af:Array Edge} {gd:Option (Nat×Bool)} {l:List Oper}:Bs d (⟨dd,.store T a (.tmp d),ty,pos,af,gd⟩::l)
 | s {o:Oper} {l:List Oper} (r:Bs d l):Bs d (o::l)
section
variable {R : Type} {g : Hn} {X : Option R} {r' : R} {E : Env} {k : List KI} {L L' : List (Nat × Value)} {H H' H1 : List HA} {ops : Array Oper} {rest : List Oper} {m m' : Md} {Hg : List HA}
variable {d : Nat} {ty : TypeId} {pos : String} {af : Array Edge} {gd : Option (Nat × Bool)} {T el : TypeId} {x : Operand} {lo hi : Option Operand} {v : Value} {es i i' : Nat} {l r : Int}
theorem zk2 {src nl:List UInt8} (hx:(VF.of L).ev x=some (.string (bs src))) (hs:Su (VF.of L) src lo hi l r nl) (hu:∀ w,(underlying T).run E.P w = .ok .string w) (hn2:Ny m m' H Hg) (hk:0≤l∧l≤r∧r≤(src.length:Int)→DO m' rest X g r' E ops k ((d,.string (bs nl))::L) H)
  (hw:Wants E.n ops (VF.of L) ⟨some d,.slice T x lo hi none,ty,pos,af,gd⟩) (hd:inB E.n (some d)=true):DO m (⟨some d,.slice T x lo hi none,ty,pos,af,gd⟩::rest) (need (0≤l∧l≤r∧r≤(src.length:Int)) X) g r' E ops k L H:=⟨fun hX=>by
 obtain ⟨hn,hX⟩:=z39 hX
 obtain ⟨h1,h2,h3⟩:=hs.out
 have:=zdc (P:=E.P) (d:=some d) (ty:=ty) (pos:=pos) (af:=af) (g:=gd) (H:=Hg) hu hx h1 h2 hn.1 hn.2.1 hn.2.2
 rw [h3] at this
 exact wk_y hn2 hw hd this ((hk hn).out hX)⟩
theorem zmW {α:Type} {F:α→List Value} {src nl:List α} (hx:(VF.of L).ev x=some v) (hn2:Ny m m' H Hg) (hg:At Hg i' (ro v es (src.map F))) (hm:At H i (ro v es (src.map F))) (hs:Su (VF.of L) src lo hi l r nl) (hu:∀ w,(underlying T).run E.P w = .ok (.slice el) w) (hz:∀ w,(sizeOf el).run E.P w = .ok es w)
  (hk:0≤l∧l≤r∧r≤(src.length:Int)→DM m' rest X g r' E ops k ((d,subS v es l.toNat r.toNat)::L) (H++[ro (subS v es l.toNat r.toNat) es (nl.map F)]))
  (hw:Wants E.n ops (VF.of L) ⟨some d,.slice T x lo hi none,ty,pos,af,gd⟩) (hd:inB E.n (some d)=true):DO m (⟨some d,.slice T x lo hi none,ty,pos,af,gd⟩::rest) (need (0≤l∧l≤r∧r≤(src.length:Int)) X) g r' E ops k L H:=⟨fun hX=>by
 obtain ⟨hn,hX⟩:=z39 hX
 obtain ⟨h1,h2,h3⟩:=hs.out
 have hle:r≤((src.map F).length:Int):=by rw [List.length_map]; exact hn.2.2
 refine wk_y hn2 hw hd (zbv i' hu hz hx hg.get z9L h1 (by rw [List.length_map]; exact h2) hn.1 hn.2.1 hle) ?_
 refine z7l (zf4 (l:=l.toNat) (r:=r.toNat) i hm.get (Int.toNat_le_toNat hn.2.1) (by rw [List.length_map]; omega)) ?_
 rw [zbd,h3]
 exact (hk hn).out hX⟩
theorem zk5 {α:Type} {F:α→List Value} {src nl:List α} (hx:(VF.of L).ev x=some v) (hm:At H i (row v es (src.map F))) (hf:St H i (ro v es (src.map F)) H') (hb:Sb m H') (hn2:Ny m m' H' Hg) (hg:At Hg i' (ro v es (src.map F))) (hs:Su (VF.of L) src lo hi l r nl) (hu:∀ w,(underlying T).run E.P w = .ok (.slice el) w) (hz:∀ w,(sizeOf el).run E.P w = .ok es w)
  (hk:0≤l∧l≤r∧r≤(src.length:Int)→DM m' rest X g r' E ops k ((d,subS v es l.toNat r.toNat)::L) (H'++[ro (subS v es l.toNat r.toNat) es (nl.map F)]))
  (hw:Wants E.n ops (VF.of L) ⟨some d,.slice T x lo hi none,ty,pos,af,gd⟩) (hd:inB E.n (some d)=true):DO m (⟨some d,.slice T x lo hi none,ty,pos,af,gd⟩::rest) (need (0≤l∧l≤r∧r≤(src.length:Int)) X) g r' E ops k L H:=⟨fun hX=>by
 have h5:H'[i]? = some (ro v es (src.map F)):=by rw [← hf.eq]; simp [(List.getElem?_eq_some_iff.1 hm.get).1]
 have ht:Turn H H':=hf.eq ▸ Go.Abs.freeze i hm.get
 refine z7l ht (wd hb ?_)
 obtain ⟨hn,hX⟩:=z39 hX
 obtain ⟨h1,h2,h3⟩:=hs.out
 have hle:r≤((src.map F).length:Int):=by rw [List.length_map]; exact hn.2.2
 refine wk_y hn2 hw hd (zbv i' hu hz hx hg.get z9L h1 (by rw [List.length_map]; exact h2) hn.1 hn.2.1 hle) ?_
 refine z7l (zf4 (l:=l.toNat) (r:=r.toNat) i h5 (Int.toNat_le_toNat hn.2.1) (by rw [List.length_map]; omega)) ?_
 rw [zbd,h3]
 exact (hk hn).out hX⟩
theorem zk4 {α:Type} {F:α→List Value} {src nl:List α} (hB:Bs d rest) (hx:(VF.of L).ev x=some v) (hm:At H i (row v es (src.map F))) (hs:Su (VF.of L) src lo hi l r nl) (hn2:Ny m m' H Hg) (hg:At Hg i' (row v es (src.map F))) (hb:Sb m' H') (hf:St H i (row (subS v es l.toNat r.toNat) es (nl.map F)) H') (hu:∀ w,(underlying T).run E.P w = .ok (.slice el) w) (hz:∀ w,(sizeOf el).run E.P w = .ok es w)
  (hk:0≤l∧l≤r∧r≤(src.length:Int)→DO m' rest X g r' E ops k ((d,subS v es l.toNat r.toNat)::L) H')
  (hw:Wants E.n ops (VF.of L) ⟨some d,.slice T x lo hi none,ty,pos,af,gd⟩) (hd:inB E.n (some d)=true):DO m (⟨some d,.slice T x lo hi none,ty,pos,af,gd⟩::rest) (need (0≤l∧l≤r∧r≤(src.length:Int)) X) g r' E ops k L H:=⟨fun hX=>by
 obtain ⟨hn,hX⟩:=z39 hX
 obtain ⟨h1,h2,h3⟩:=hs.out
 have hle:r≤((src.map F).length:Int):=by rw [List.length_map]; exact hn.2.2
 refine wk_y hn2 hw hd (zbv i' hu hz hx hg.get z6z h1 (by rw [List.length_map]; exact h2) hn.1 hn.2.1 hle) ?_
 refine z7l (z95 (l:=l.toNat) (r:=r.toNat) i hm.get (Int.toNat_le_toNat hn.2.1) (by rw [List.length_map]; omega)) ?_
 rw [zbd,h3,hf.eq]
 exact wd hb ((hk hn).out hX)⟩
theorem zk1 {α:Type} {F:α→List Value} {src nl:List α} (hx:(VF.of L).ev x=some v) (hm:At H i (row v es (src.map F))) (hs:Su (VF.of L) src lo hi l r nl) (hn2:Ny m m' H Hg) (hg:At Hg i' (row v es (src.map F))) (hb:Sb m' H') (hf:St H i (row (subS v es l.toNat r.toNat) es (nl.map F)) H') (hu:∀ w,(underlying T).run E.P w = .ok (.slice el) w) (hz:∀ w,(sizeOf el).run E.P w = .ok es w)
  (hk:0≤l∧l≤r∧r≤(src.length:Int)→DO m' rest X g r' E ops k ((d,subS v es l.toNat r.toNat)::L) H')
  (hw:Wants E.n ops (VF.of L) ⟨some d,.slice T x lo hi none,ty,pos,af,gd⟩) (hd:inB E.n (some d)=true):DO m (⟨some d,.slice T x lo hi none,ty,pos,af,gd⟩::rest) (need (0≤l∧l≤r∧r≤(src.length:Int)) X) (.s g) r' E ops k L H:=⟨fun hX=>by
 obtain ⟨hn,hX⟩:=z39 hX
 obtain ⟨h1,h2,h3⟩:=hs.out
 have hle:r≤((src.map F).length:Int):=by rw [List.length_map]; exact hn.2.2
 refine wk_y hn2 hw hd (zbv i' hu hz hx hg.get z6z h1 (by rw [List.length_map]; exact h2) hn.1 hn.2.1 hle) ?_
 refine z7l (z95 (l:=l.toNat) (r:=r.toNat) i hm.get (Int.toNat_le_toNat hn.2.1) (by rw [List.length_map]; omega)) ?_
 rw [zbd,h3,hf.eq]
 exact wd hb ((hk hn).out hX)⟩
theorem zk0 {α:Type} {C:NC α} {src nl:List α} (hx:(VF.of L).ev x=some v) (hm:At H i (nro v C src)) (hn2:Ny m m' H Hg) (hg:At Hg i' (nro v C src)) (hs:Su (VF.of L) src lo hi l r nl) (hu:∀ w,(underlying T).run E.P w = .ok (.slice el) w) (hz:∀ w,(sizeOf el).run E.P w = .ok es w) (he:C.es=es) (hn:C.nn=false)
  (hk:0≤l∧l≤r∧r≤(src.length:Int)→DM m' rest X g r' E ops k ((d,subS v es l.toNat r.toNat)::L) (H++[nro (subS v es l.toNat r.toNat) C nl]))
  (hw:Wants E.n ops (VF.of L) ⟨some d,.slice T x lo hi none,ty,pos,af,gd⟩) (hd:inB E.n (some d)=true):DO m (⟨some d,.slice T x lo hi none,ty,pos,af,gd⟩::rest) (need (0≤l∧l≤r∧r≤(src.length:Int)) X) g r' E ops k L H:=⟨fun hX=>by
 obtain ⟨hn',hX⟩:=z39 hX
 obtain ⟨h1,h2,h3⟩:=hs.out
 subst he
 refine wk_y hn2 hw hd (zj2 i' hu hz hx hg.get z81 h1 h2 hn'.1 hn'.2.1 hn'.2.2) ?_
 refine z7l (zgm (a:=l.toNat) (b:=r.toNat) i hm.get (Int.toNat_le_toNat hn'.2.1) (by omega) (by rw [hn]; exact fun h=>absurd h (by decide))) ?_
 rw [h3]
 exact (hk hn').out hX⟩
end
inductive Bv (d:Nat):List Oper→Prop
 | z {dd:Option Nat} {fx:Operand} {xs:List Operand} {Ts:Array TypeId} {ty:TypeId} {pos:String} {af:Array Edge} {gd:Option (Nat×Bool)} {l:List Oper}:Bv d (⟨dd,.call ⟨.value fx,((Operand.tmp d)::xs).toArray,Ts⟩,ty,pos,af,gd⟩::l)
 | a {dd:Option Nat} {xs:List Operand} {Ts:Array TypeId} {ty:TypeId} {pos:String} {af:Array Edge} {gd:Option (Nat×Bool)} {l:List Oper}:Bv d (⟨dd,.call ⟨.builtin .append,((Operand.tmp d)::xs).toArray,Ts⟩,ty,pos,af,gd⟩::l)
 | c {dd:Option Nat} {xs:List Operand} {Ts:Array TypeId} {ty:TypeId} {pos:String} {af:Array Edge} {gd:Option (Nat×Bool)} {l:List Oper}:Bv d (⟨dd,.call ⟨.builtin .clear,((Operand.tmp d)::xs).toArray,Ts⟩,ty,pos,af,gd⟩::l)
 | s {o:Oper} {l:List Oper} (r:Bv d l):Bv d (o::l)
section
variable {R : Type} {g : Hn} {X : Option R} {r' : R} {E : Env} {k : List KI} {L L' : List (Nat × Value)} {H H' H1 : List HA} {ops : Array Oper} {rest : List Oper} {m m' : Md} {Hg : List HA}
variable {d : Nat} {ty : TypeId} {pos : String} {af : Array Edge} {gd : Option (Nat × Bool)} {T el : TypeId} {x : Operand} {lo hi : Option Operand} {v : Value} {es i i' : Nat} {l r : Int}
theorem zk3 {α:Type} {F:α→List Value} {src nl:List α} (hB:Bv d rest) (hx:(VF.of L).ev x=some v) (hm:At H i (row v es (src.map F))) (hs:Su (VF.of L) src lo hi l r nl) (hn2:Ny m m' H Hg) (hg:At Hg i' (row v es (src.map F))) (hu:∀ w,(underlying T).run E.P w = .ok (.slice el) w) (hz:∀ w,(sizeOf el).run E.P w = .ok es w)
  (hk:0≤l∧l≤r∧r≤(src.length:Int)→DO m' rest X g r' E ops k ((d,subS v es l.toNat r.toNat)::L) H)
  (hw:Wants E.n ops (VF.of L) ⟨some d,.slice T x lo hi none,ty,pos,af,gd⟩) (hd:inB E.n (some d)=true):DO m (⟨some d,.slice T x lo hi none,ty,pos,af,gd⟩::rest) (need (0≤l∧l≤r∧r≤(src.length:Int)) X) g r' E ops k L H:=⟨fun hX=>by
 obtain ⟨hn,hX⟩:=z39 hX
 obtain ⟨h1,h2,h3⟩:=hs.out
 have hle:r≤((src.map F).length:Int):=by rw [List.length_map]; exact hn.2.2
 exact wk_y hn2 hw hd (zbv i' hu hz hx hg.get z6z h1 (by rw [List.length_map]; exact h2) hn.1 hn.2.1 hle) ((hk hn).out hX)⟩
variable {y : Operand} {vy z : Value} {T2 : TypeId} {ti : TypeInfo} {ds2 : TypeDesc}
theorem OpT.turned {P:Program} {op:Oper} {V:VF} {H H2:List HA} {post:Post} (ht:Turn H H2) (h:OpT P op V H2 post):OpT P op V H post:=by
 intro ρ w o hf hb hs
 obtain ⟨o',hb',t',hs'⟩:=ht w o hb hs
 refine (h ρ w o' hf hb' hs').imp ?_
 rintro v w' ⟨H',o2,p,b2,t2,s2⟩
 exact ⟨H',o2,p,b2,t'.trans t2,s2⟩
theorem zdz {α:Type} {F:α→List Value} {l0 nl l2:List α} {K:Value→List HA}
  (hn2:Nt m m') (hx:(VF.of L).ev x=some (subS v es l.toNat r.toNat)) (hm:At H i (row v es (l0.map F))) (hf:0≤l∧l≤r∧r≤(l0.length:Int)) (hnl:(l0.take r.toNat).drop l.toNat=nl) (hSt:St H i (row (subS v es l.toNat r.toNat) es (nl.map F)) H') (hS:Sv H' i (fun v'=>row v' es ((nl++l2).map F)) K)
  (hk:∀ v',nl.length+l2.length≤4294967296→DM m' rest X g r' E ops k ((d,v')::L) (K v')) (hy:(VF.of L).ev y=some vy) (he:Ef F es) (hs:Sa H' F es vy l2)
  (hu:∀ w,(underlying T).run E.P w = .ok (.slice el) w) (hu2:∀ w,(underlying T2).run E.P w = .ok ds2 w) (hni:ds2 = .string∨∃ e,ds2 = .slice e) (hti:∀ w,(typeInfo el).run E.P w = .ok ti w) (hes:ti.size=es) (hby:(ti.bytes != 0 && Nat.ble ti.bytes 16384)=true) (h0:∀ w,(zeroValue el).run E.P w = .ok z w) (hzs:z.cells.size=es)
  (hw:Wants E.n ops (VF.of L) ⟨some d,.call ⟨.builtin .append,#[x,y],#[T,T2]⟩,ty,pos,af,gd⟩) (hd:inB E.n (some d)=true) :
  DO m (⟨some d,.call ⟨.builtin .append,#[x,y],#[T,T2]⟩,ty,pos,af,gd⟩::rest) (need (nl.length+l2.length≤4294967296) X) g r' E ops k L H:=⟨fun hX=>by
 obtain ⟨hn,hX⟩:=z39 hX
 simp only [Bool.and_eq_true,bne_iff_ne,ne_eq] at hby
 have hi:i<H.length:=(List.getElem?_eq_some_iff.1 hm.get).1
 have ht:Turn H H':=by
  have:=z95 (l:=l.toNat) (r:=r.toNat) i hm.get (Int.toNat_le_toNat hf.2.1) (by rw [List.length_map]; omega)
  rwa [zbd,hnl,hSt.eq] at this
 have hm' : H'[i]? = some (row (subS v es l.toNat r.toNat) es (nl.map F)):=by rw [← hSt.eq]; simp [hi]
 refine wk_t hn2 hw hd (OpT.turned ht (z9P (es:=es) (new:=l2.map F) i rfl hu rfl hu2 hni hti hes hby.1 h0 hzs hx hm' hy (hs.src he) (z9I hn (Nat.le_of_ble_eq_true hby.2)) (zeh hn))) ?_
 rintro v' _ rfl
 rw [← List.map_append,hS.eq v']
 exact (hk v' hn).out hX⟩
end
class Dc {α:Type} (F:α→List Value) (c:List Value) (x:outParam α):Prop where
 e:c=F x
instance {kd:IntKind} {a:Int}:Dc (eInt kd) [.int kd a] a:=⟨rfl⟩
instance {b:Bool}:Dc eBool [.bool b] b:=⟨rfl⟩
instance {l:List UInt8}:Dc eStr [.string (bs l)] l:=⟨rfl⟩
instance {b:UInt8}:Dc eB8 [.int .u8 (b.toNat:Int)] b:=⟨rfl⟩
section
variable {R : Type} {g : Hn} {X : Option R} {r : R} {E : Env} {k : List KI} {L : List (Nat × Value)} {H H' : List HA} {ops : Array Oper} {rest : List Oper} {m m' : Md}
variable {ty : TypeId} {pos : String} {af : Array Edge} {gd : Option (Nat × Bool)} {T : TypeId} {x y : Operand} {v u : Value} {es i n : Nat} {q : Int}
theorem zl3 {α:Type} {F:α→List Value} {l:List α} {a a' : α} {j:Nat} {cells c' : List Value} {V:VF} {P:Program} (hx:V.ev x=some (elemP v (q.toNat*es+j))) (hy:V.ev y=some u) (hm:At H i (row v es (l.map F))) (ha:l[q.toNat]? = some a) (hc:Cel H u cells) (hW:Wl (F a) j cells c') (he:Ef F es) (hD:Dc F c' a')
  (hS:St H i (row v es ((l.set q.toNat a').map F)) H') (h1:Ones H cells) (hz:∀ w,(sizeOf T).run P w = .ok n w) (hl:cells.length=n):OpT P ⟨none,.store T x y,ty,pos,af,gd⟩ V H (fun v' G=>v'=undef∧G=H'):=by
 intro ρ w o hf hb hs
 have e:=hc.is hs
 have hw':=hW.eq
 have hle:j+n≤es:=by rw [← hl,← (he.ok a).1]; exact hw'.2
 have h:=z94 (V:=V) (H:=H) (d:=none) (ty:=ty) (pos:=pos) (af:=af) (g:=gd) (T:=T) (x:=x) (y:=y) i hz hx hy hm.get (by rw [← hl,← e]; simp) (zcm ha) (Nat.ble_eq_true_of_le hle) (by rw [e]; exact h1.is hs) ρ w o hf hb hs
 rw [e,hw'.1,zei hD.e,hS.eq] at h
 exact h
theorem zgE {α:Type} {F:α→List Value} {l:List α} {a a' : α} {j:Nat} {cells c' : List Value} (hn:Nt m m') (hx:(VF.of L).ev x=some (elemP v (q.toNat*es+j))) (hy:(VF.of L).ev y=some u) (hm:At H i (row v es (l.map F))) (ha:l[q.toNat]? = some a) (hc:Cel H u cells) (hW:Wl (F a) j cells c') (he:Ef F es) (hD:Dc F c' a')
  (hS:St H i (row v es ((l.set q.toNat a').map F)) H') (h1:Ones H cells) (hz:∀ w,(sizeOf T).run E.P w = .ok n w) (hl:cells.length=n) (hb:Sb m' H') (hk:(l.set q.toNat a')[q.toNat]? = some a'→q.toNat<(l.set q.toNat a').length→DO m' rest X g r E ops k L H')
  (hw:Wants E.n ops (VF.of L) ⟨none,.store T x y,ty,pos,af,gd⟩):DO m (⟨none,.store T x y,ty,pos,af,gd⟩::rest) X g r E ops k L H:=⟨fun hX=>wk_t hn hw rfl (zl3 hx hy hm ha hc hW he hD hS h1 hz hl) (by
 rintro _ _ ⟨rfl,rfl⟩
 have hlt:=(List.getElem?_eq_some_iff.1 ha).1
 exact wd hb ((hk (znQ hlt) (znR hlt)).out hX))⟩
theorem zhJ {α:Type} {F:α→List Value} {l:List α} {a a' : α} {cells c' : List Value} (hn:Nt m m') (hx:(VF.of L).ev x=some (elemP v (q.toNat*es))) (hy:(VF.of L).ev y=some u) (hm:At H i (row v es (l.map F))) (ha:l[q.toNat]? = some a) (hc:Cel H u cells) (hW:Wl (F a) 0 cells c') (he:Ef F es) (hD:Dc F c' a')
 (hS:St H i (row v es ((l.set q.toNat a').map F)) H') (h1:Ones H cells) (hz:∀ w,(sizeOf T).run E.P w = .ok n w) (hl:cells.length=n) (hb:Sb m' H') (hk:(l.set q.toNat a')[q.toNat]? = some a'→q.toNat<(l.set q.toNat a').length→DO m' rest X g r E ops k L H')
 (hw:Wants E.n ops (VF.of L) ⟨none,.store T x y,ty,pos,af,gd⟩):DO m (⟨none,.store T x y,ty,pos,af,gd⟩::rest) X g r E ops k L H:=zgE (j:=0) hn hx hy hm ha hc hW he hD hS h1 hz hl hb hk hw
end
theorem y_bts {P:Program} {V:VF} {H:List HA} {d:Option Nat} {ty:TypeId} {pos:String} {af:Array Edge} {g:Option (Nat×Bool)} {S T el:TypeId} {x:Operand} {v:Value} {l:List UInt8} {c:List (List Value)} (hx:V.ev x=some v) (hS:∀ w,(underlying S).run P w = .ok (.slice el) w) (he:∀ w,(underlying el).run P w = .ok (.int .u8) w)
  (hT:∀ w,(underlying T).run P w = .ok .string w) (hr:Rd H v 1 c) (hl:c=l.map eB8):OpY P ⟨d,.convert S T x,ty,pos,af,g⟩ V H (.string (bs l)):=by
 obtain ⟨m,h,h1,h2⟩:=hr.ex
 subst hl
 exact y_b2s m hS he hT hx h1 h2
instance {u:Value}:Dk (fun v:Value=>v) u u:=⟨rfl⟩
inductive Mnk {κ:Type} [DecidableEq κ] (kk:κ) (vv:Value):List (κ×Value)→List (κ×Value)→Prop
 | z:Mnk kk vv [] [(kk,vv)]
 | s {key:κ} {v:Value} {l l' : List (κ×Value)} (h:decide (key=kk)=false) (r:Mnk kk vv l l'):Mnk kk vv ((key,v)::l) ((key,v)::l')
theorem Mnk.eq {κ:Type} [DecidableEq κ] {kk:κ} {vv:Value} {l l' : List (κ×Value)} (h:Mnk kk vv l l'):mput l kk vv=l':=by
 induction h with
 | z=>rfl
 | s h _ ih=>rw [mput,if_neg (of_decide_eq_false h),ih]
structure DKf {κ R:Type} [DecidableEq κ] (lm:List (κ×Value)) (kk:κ) (zv:Value) (m:Md) (d:Nat) (rest:List Oper) (X:Option R) (g:Hn) (r:R) (E:Env) (ops:Array Oper) (k:List KI) (L:List (Nat×Value)) (H:List HA):Prop where
 out:X=some r→Wk m E ops rest k (VF.of ((d,(mget lm kk).getD zv)::L)) H
structure DKt {κ R:Type} [DecidableEq κ] (lm:List (κ×Value)) (kk:κ) (zv:Value) (m:Md) (d:Nat) (rest:List Oper) (X:Option R) (g:Hn) (r:R) (E:Env) (ops:Array Oper) (k:List KI) (L:List (Nat×Value)) (H:List HA):Prop where
 out:X=some r→Wk m E ops rest k (VF.of ((d,.tuple #[(mget lm kk).getD zv,.bool (mget lm kk).isSome])::L)) H
section
variable {R : Type} {g : Hn} {X A B : Option R} {r : R} {E : Env} {k : List KI} {L L' : List (Nat × Value)} {H H' : List HA} {ops : Array Oper} {rest : List Oper} {m m' : Md}
variable {d : Nat} {ty : TypeId} {pos : String} {af : Array Edge} {gd : Option (Nat × Bool)} {T kt el : TypeId} {x y z : Operand} {u u2 : Value} {b i : Nat} {ds : TypeDesc}
variable {κ : Type} {dk : DecidableEq κ} {K : κ → Value} {lm lm' : List (κ × Value)} {kk key : κ} {zv v : Value}
theorem zmT (hn2:Nt m m') (hb:Sb m' H') (hk:DO m' rest X g r E ops k L H') (hx:(VF.of L).ev x=some (mapV b)) (hm:At H i (mapis b (mcells K (fun v:Value=>v) lm))) (hy:(VF.of L).ev y=some u) (hz:(VF.of L).ev z=some u2) (hK:Dk K u kk) (hKd:KeyOk ds K) (hl:Mnk kk u2 lm lm')
  (hS:St H i (mapis b (mcells K (fun v:Value=>v) lm')) H') (hT:∀ w,(underlying T).run E.P w = .ok (.map kt el) w) (hkt:∀ w,(underlying kt).run E.P w = .ok ds w)
  (hw:Wants E.n ops (VF.of L) ⟨none,.insert T x y z,ty,pos,af,gd⟩):DO m (⟨none,.insert T x y z,ty,pos,af,gd⟩::rest) X g r E ops k L H:=
 ⟨fun hX=>wk_t hn2 hw rfl (z83 i hKd hT hkt hx (hK.e ▸ hy) hz hm.get true) (by rintro _ _ ⟨rfl,rfl⟩; rw [hl.eq,hS.eq]; exact wd hb (hk.out hX))⟩
theorem dkf_s (h1:kk=key→DO m rest A g r E ops k ((d,v)::L) H) (h2:¬ kk=key→DKf lm kk zv m d rest B g r E ops k L H):DKf ((key,v)::lm) kk zv m d rest (cond (decide (kk=key)) A B) g r E ops k L H:=⟨fun hX=>by
 rcases cond2 hX with ⟨e,h⟩ | ⟨e,h⟩
 ·have:=(h1 e).out h; rw [mget,if_pos e.symm]; exact this
 ·rw [mget,if_neg (fun q=>e q.symm)]; exact (h2 e).out h⟩
theorem dkf_z (h:DO m rest X g r E ops k ((d,zv)::L) H):DKf [] kk zv m d rest X g r E ops k L H:=⟨h.out⟩
theorem dkt_s (h1:kk=key→DO m rest A g r E ops k ((d,.tuple #[v,.bool true])::L) H) (h2:¬ kk=key→DKt lm kk zv m d rest B g r E ops k L H):DKt ((key,v)::lm) kk zv m d rest (cond (decide (kk=key)) A B) g r E ops k L H:=⟨fun hX=>by
 rcases cond2 hX with ⟨e,h⟩ | ⟨e,h⟩
 ·have:=(h1 e).out h; rw [mget,if_pos e.symm]; exact this
 ·rw [mget,if_neg (fun q=>e q.symm)]; exact (h2 e).out h⟩
theorem dkt_z (h:DO m rest X g r E ops k ((d,.tuple #[zv,.bool false])::L) H):DKt [] kk zv m d rest X g r E ops k L H:=⟨h.out⟩
theorem zmR (hx:(VF.of L).ev x=some (mapV b)) (hm:At H i (mapis b (mcells K (fun v:Value=>v) lm))) (hy:(VF.of L).ev y=some u) (hK:Dk K u kk) (hKd:KeyOk ds K) (hT:∀ w,(underlying T).run E.P w = .ok (.map kt el) w) (hkt:∀ w,(underlying kt).run E.P w = .ok ds w) (h0:∀ w,(zeroValue el).run E.P w = .ok zv w) (hn:Ny m m' H H)
  (hk:DKf lm kk zv m' d rest X g r E ops k L H) (hw:Wants E.n ops (VF.of L) ⟨some d,.lookup T x y false,ty,pos,af,gd⟩) (hd:inB E.n (some d)=true):DO m (⟨some d,.lookup T x y false,ty,pos,af,gd⟩::rest) X g r E ops k L H:=
 ⟨fun hX=>wk_y hn hw hd (zbU i hKd hT hkt h0 hx (hK.e ▸ hy) hm.get) (hk.out hX)⟩
theorem zmS (hx:(VF.of L).ev x=some (mapV b)) (hm:At H i (mapis b (mcells K (fun v:Value=>v) lm))) (hy:(VF.of L).ev y=some u) (hK:Dk K u kk) (hKd:KeyOk ds K) (hT:∀ w,(underlying T).run E.P w = .ok (.map kt el) w) (hkt:∀ w,(underlying kt).run E.P w = .ok ds w) (h0:∀ w,(zeroValue el).run E.P w = .ok zv w) (hn:Ny m m' H H)
  (hk:DKt lm kk zv m' d rest X g r E ops k L H) (hw:Wants E.n ops (VF.of L) ⟨some d,.lookup T x y true,ty,pos,af,gd⟩) (hd:inB E.n (some d)=true):DO m (⟨some d,.lookup T x y true,ty,pos,af,gd⟩::rest) X g r E ops k L H:=
 ⟨fun hX=>wk_y hn hw hd (zcI i hKd hT hkt h0 hx (hK.e ▸ hy) hm.get) (hk.out hX)⟩
end
theorem zha {P:Program} {V:VF} {H:List HA} {d:Option Nat} {ty:TypeId} {pos:String} {af:Array Edge} {g:Option (Nat×Bool)} {T U:TypeId} {x:Operand} {o:Option Nat} {kt el:TypeId} (hu:∀ w,(underlying T).run P w = .ok (.map kt el) w) (hx:V.ev x=some (.map o)) :
  OpY P ⟨d,.binOp .eql T x (.const (.map none)) U,ty,pos,af,g⟩ V H (.bool o.isNone):=by
 intro ρ w o' hf _ _
 have h2:ρ (.const (.map none)) = .map none:=hf _ _ rfl
 have hx':=hf x _ hx
 have h0:∀ n,(Op.equalIn (n+1) T (.map o) (.map none)).run P w = .ok o.isNone w:=by
  intro n
  cases o <;> simp [Op.equalIn,hu]
 have h1:(Op.equal T (.map o) (.map none)).run P w = .ok o.isNone w:=h0 9999
 simp [execOp,hx',h2,eqGuard,binOp,h1]
section
variable {P : Program} {V : VF} {H : List HA} {d : Option Nat} {ty : TypeId} {pos : String} {af : Array Edge} {g : Option (Nat × Bool)} {T U : TypeId} {x : Operand} {kt el : TypeId}
theorem ziZ (hx:V.ev x=some (.map none)) (hu:∀ w,(underlying T).run P w = .ok (.map kt el) w):OpY P ⟨d,.binOp .eql T x (.const (.map none)) U,ty,pos,af,g⟩ V H (.bool true):=zha hu hx
theorem zj0 {r:Nat} (hx:V.ev x=some (.map (some r))) (hu:∀ w,(underlying T).run P w = .ok (.map kt el) w):OpY P ⟨d,.binOp .eql T x (.const (.map none)) U,ty,pos,af,g⟩ V H (.bool false):=zha hu hx
end
theorem zon {P:Program} {V:VF} {H:List HA} {d:Option Nat} {ty:TypeId} {pos:String} {af:Array Edge} {g:Option (Nat×Bool)} {T:TypeId} {x:Operand} {u:Value} (hx:V.ev x=some u) (hb:Isb u true):OpY P ⟨d,.unOp .not T x,ty,pos,af,g⟩ V H (.bool false):=y_not (b:=true) (hb.eq ▸ hx)
theorem zom {P:Program} {V:VF} {H:List HA} {d:Option Nat} {ty:TypeId} {pos:String} {af:Array Edge} {g:Option (Nat×Bool)} {T:TypeId} {x:Operand} {u:Value} (hx:V.ev x=some u) (hb:Isb u false):OpY P ⟨d,.unOp .not T x,ty,pos,af,g⟩ V H (.bool true):=y_not (b:=false) (hb.eq ▸ hx)
section
variable {R : Type} {g : Hn} {X : Option R} {r : R} {E : Env} {k : List KI} {L : List (Nat × Value)} {H Hg : List HA} {ops : Array Oper} {rest : List Oper} {m m' : Md}
variable {α : Type} {F : α → List Value} {l : List α} {d es : Nat} {ty : TypeId} {pos : String} {af : Array Edge} {gd : Option (Nat × Bool)} {T U el : TypeId} {x : Operand} {v : Value}
theorem zhH (hn:Nt m m') (h1:l=[]→DO m' rest X g r E ops k ((d,.bool true)::L) H) (h2:DO m' rest X g r E ops k ((d,.bool false)::L) H) (hx:(VF.of L).ev x=some v) (hu:∀ w,(underlying T).run E.P w = .ok (.slice el) w) (hr:Rd H v es (l.map F)) (hb:Sb m' H)
  (hw:Wants E.n ops (VF.of L) ⟨some d,.binOp .eql T x (.const (.slice none 0 0)) U,ty,pos,af,gd⟩) (hd:inB E.n (some d)=true):DO m (⟨some d,.binOp .eql T x (.const (.slice none 0 0)) U,ty,pos,af,gd⟩::rest) X g r E ops k L H:=⟨fun hX=>by
 obtain ⟨i,q,hm,hq⟩:=hr.ex
 refine wk_t hn hw hd (zlw i hu hx rfl hm hq) ?_
 rintro _ _ ⟨b,rfl,rfl,e⟩
 cases b with
 | true=>exact wd hb ((h1 (by have:=e rfl; simpa using this)).out hX)
 | false=>exact wd hb (h2.out hX)⟩
end
end Go.Abs
namespace Go.Abs
structure Rul where
 deriving DecidableEq,Repr
def HA.ex {α:Type} (F:α→HA):HA:=⟨fun w o k=>∃ a,(F a).p w o k,fun h1 h2 h3 ⟨a,h⟩=>⟨a,(F a).keep h1 h2 h3 h⟩⟩
def HA.andp (p:Prop) (g:HA):HA:=⟨fun w o k=>p∧g.p w o k,fun h1 h2 h3 ⟨a,h⟩=>⟨a,g.keep h1 h2 h3 h⟩⟩
def big (Hs:List HA):HA:=⟨fun w o k=>∃ o1:Own,(∀ b j,b<w.heap.size→o1 b = .mine j→o b = .mine k)∧(∀ b,b<w.heap.size→o1 b≠.no)∧Sats w o1 Hs,by
 rintro w w' o o' k k' hs hm hn ⟨o1,h1,h2,h3⟩
 refine ⟨fun b=>if b<w.heap.size then o1 b else .far,fun b j _ hb=>?_,fun b _ hb=>?_,fun j g hj=>?_⟩
 ·by_cases hlt:b<w.heap.size
  ·simp only [hlt,if_true] at hb; exact (hm b hlt (h1 b j hlt hb)).1
  ·simp only [hlt,if_false] at hb; cases hb
 ·by_cases hlt:b<w.heap.size
  ·simp only [hlt,if_true] at hb; exact h2 b hlt hb
  ·simp only [hlt,if_false] at hb; cases hb
 ·exact g.keep hs (fun b hlt hb=>⟨by simp only [hlt,if_true]; exact hb,(hm b hlt (h1 b j hlt hb)).2⟩) (fun b hlt hb=>absurd hb (h2 b hlt)) (h3 j g hj)⟩
theorem zeU {Hs:List HA}:(big Hs).Strict:=fun w o k o' k' h ⟨o1,h1,h2,h3⟩=>⟨o1,fun b j hlt hb=>h b hlt (h1 b j hlt hb),h2,h3⟩
theorem zge {α:Type} {F:α→HA} (h:∀ a,(F a).Strict):(HA.ex F).Strict:=fun w o k o' k' ho ⟨a,ha⟩=>⟨a,h a w o k o' k' ho ha⟩
theorem zas {p:Prop} {g:HA} (h:g.Strict):(HA.andp p g).Strict:=fun w o k o' k' ho ⟨a,ha⟩=>⟨a,h w o k o' k' ho ha⟩
theorem zeW:HA.emp.Strict:=fun _ _ _ _ _ _ _=>trivial
theorem zkG {H:List HA} {g x:HA} {j:Nat} (hj:(H++[g])[j]? = some x):(j<H.length∧H[j]? = some x)∨(j=H.length∧x=g):=by
 rw [List.getElem?_append] at hj
 split at hj
 ·rename_i hlt; exact .inl ⟨hlt,hj⟩
 ·rename_i hge
  have hje:j=H.length:=by
   rcases Nat.lt_or_ge (j - H.length) 1 with h | h
   ·omega
   ·rw [List.getElem?_eq_none (by simpa using h)] at hj; cases hj
  subst hje
  simp at hj
  exact .inr ⟨rfl,hj.symm⟩
theorem ziM (H Hs:List HA) (hS:∀ g∈Hs,g.Strict):Turn (H++Hs) (H++[big Hs]):=by
  intro w o hb hs
  refine ⟨fun b=>match o b with | .mine k=>if k<H.length then .mine k else .mine H.length | x=>x,fun b hle=>by simp [hb b hle],⟨rfl,rfl,rfl,Nat.le_refl _,fun b _ h=>⟨by simp [h],rfl⟩,fun b _ h=>⟨by simp [h],rfl⟩⟩,?_⟩
  intro j g hj
  rcases zkG hj with ⟨hlt,hj⟩ | ⟨rfl,rfl⟩
  · exact g.keep (Nat.le_refl _) (fun b _ h=>⟨by simp [h,hlt],rfl⟩) (fun b _ h=>⟨by simp [h],rfl⟩) (hs j g (by rw [List.getElem?_append_left hlt]; exact hj))
  · refine ⟨fun b=>match o b with | .mine k=>if k<H.length then .far else .mine (k - H.length) | _=>.far,fun b i _ h=>?_,fun b _ h=>?_,fun i g hi=>?_⟩
    · cases hob:o b with
      | no=>simp [hob] at h
      | far=>simp [hob] at h
      | mine k =>
        simp only [hob] at h ⊢
        by_cases hk:k<H.length
        · rw [if_pos hk] at h; cases h
        · rw [if_neg hk]
    · cases hob:o b with
      | no=>simp [hob] at h
      | far=>simp [hob] at h
      | mine k =>
        simp only [hob] at h
        split at h <;> cases h
    · refine hS g (List.mem_of_getElem? hi) w o (H.length+i) _ i (fun b _ h=>?_) (hs (H.length+i) g ?_)
      · have:¬ H.length+i<H.length:=by omega
        simp only [h,this,if_false]
        congr 1; omega
      · rw [List.getElem?_append_right (by omega),show H.length+i - H.length=i by omega]; exact hi
theorem zdm (H Hs:List HA):Turn (H++[big Hs]) (H++Hs):=by
 intro w o hb hs
 obtain ⟨o1,h1,h2,h3⟩:=hs H.length (big Hs) (by simp)
 refine ⟨fun b=>match o b with | .mine k=>if k=H.length then (match o1 b with | .mine j=>.mine (H.length+j) | _=>.no) else .mine k | x=>x,fun b hle=>by simp [hb b hle],⟨rfl,rfl,rfl,Nat.le_refl _,fun b _ h=>⟨by simp [h],rfl⟩,fun b _ h=>⟨by simp [h],rfl⟩⟩,?_⟩
 intro j g hj
 rw [List.getElem?_append] at hj
 split at hj
 ·rename_i hlt
  refine g.keep (Nat.le_refl _) (fun b _ h=>⟨?_,rfl⟩) (fun b _ h=>⟨by simp [h],rfl⟩) (hs j g (by rw [List.getElem?_append_left hlt]; exact hj))
  have:¬ j=H.length:=by omega
  simp [h,this]
 ·rename_i hge
  have hjj:H.length+(j - H.length)=j:=by omega
  refine g.keep (Nat.le_refl _) (k:=j - H.length) (fun b hlt h=>⟨?_,rfl⟩) (fun b hlt h=>absurd h (h2 b hlt)) (h3 _ g hj)
  have:=h1 b _ hlt h
  simp [this,h,hjj]
theorem zgl {H:List HA} {g g' : HA} (h:∀ w o k,g.p w o k→g'.p w o k):Turn (H++[g]) (H++[g']):=fun w o hb hs=>⟨o,hb,Tr.refl w o,fun j x hj=>by
 rw [List.getElem?_append] at hj
 split at hj
 ·rename_i hlt; exact hs j x (by rw [List.getElem?_append_left hlt]; exact hj)
 ·rename_i hge
  have hje:j=H.length:=by
   rcases Nat.lt_or_ge (j - H.length) 1 with h | h
   ·omega
   ·rw [List.getElem?_eq_none (by simpa using h)] at hj; cases hj
  subst hje
  simp at hj
  subst hj
  exact h w o _ (hs H.length g (by simp))⟩
theorem Meets.turn {P:Program} {f:FuncId} {args:List Value} {H H' : List HA} {post post' : Post} (h:Meets P f args H' post) (ht:Turn H H') (hp:∀ v G,post v G→∃ G',post' v G'∧Turn G G'):Meets P f args H post':=fun w o hb hs=>by
 obtain ⟨o1,hb1,t1,hs1⟩:=ht w o hb hs
 refine (h w o1 hb1 hs1).mono ?_
 rintro e w' ⟨v,G,o2,rfl,hv,hb2,t2,hs2⟩
 obtain ⟨G',hv',ht'⟩:=hp v G hv
 obtain ⟨o3,hb3,t3,hs3⟩:=ht' w' o2 hb2 hs2
 exact ⟨v,G',o3,rfl,hv',hb3,(t1.trans t2).trans t3,hs3⟩
theorem Meets.last_ex {P:Program} {f:FuncId} {args:List Value} {α:Type} {H:List HA} {F:α→HA} {post:Post} (h:∀ a,Meets P f args (H++[F a]) post):Meets P f args (H++[HA.ex F]) post:=fun w o hb hs=>by
 obtain ⟨a,ha⟩:=hs H.length (HA.ex F) (by simp)
 refine h a w o hb fun j x hj=>?_
 rw [List.getElem?_append] at hj
 split at hj
 ·rename_i hlt; exact hs j x (by rw [List.getElem?_append_left hlt]; exact hj)
 ·rename_i hge
  have hje:j=H.length:=by
   rcases Nat.lt_or_ge (j - H.length) 1 with h | h
   ·omega
   ·rw [List.getElem?_eq_none (by simpa using h)] at hj; cases hj
  subst hje
  simp at hj
  subst hj
  exact ha
theorem Meets.last_andp {P:Program} {f:FuncId} {args:List Value} {p:Prop} {H:List HA} {g:HA} {post:Post} (h:p→Meets P f args (H++[g]) post):Meets P f args (H++[HA.andp p g]) post:=fun w o hb hs=>by
 have ha:=hs H.length (HA.andp p g) (by simp)
 exact h ha.1 w o hb (fun j x hj=>by
  rw [List.getElem?_append] at hj
  split at hj
  ·rename_i hlt; exact hs j x (by rw [List.getElem?_append_left hlt]; exact hj)
  ·rename_i hge
   have hje:j=H.length:=by
    rcases Nat.lt_or_ge (j - H.length) 1 with h | h
    ·omega
    ·rw [List.getElem?_eq_none (by simpa using h)] at hj; cases hj
   subst hje
   simp at hj
   subst hj
   exact ha.2)
end Go.Abs
namespace Go.Abs
inductive Pg (R S:Type) where
 | ret (r:R)
 | pan (e:Int) (s:S)
def pgbind {A S R:Type} (x:Pg A S) (f:Int→S→Option R) (g:A→Option R):Option R:=match x with
 | .ret a=>g a
 | .pan e s=>f e s
def zjw (P:Program) (fn:Func) (w0:World) (o0:Own) (post:Post) (pan:Value→List HA→Prop):Exit→Act→World→Prop
 | .panic c,a,w=>∃ v G o',c=[{ v:=v,recovered:=false }]∧pan v G∧Bnd w o'∧TrM w0 o0 a.defers w o'∧Sats w o' G
 | .outgrown,_,_=>False
 | e,a,w=>bodyPostM (FR none) 0 P fn (EndsG w0 o0 post pan) e a w
def EnvG (P:Program) (n:Nat) (w0:World) (o0:Own) (fn:Func) (post:Post) (pan:Value→List HA→Prop):Env:=
 { P:=P,n:=n,w0:=w0,o0:=o0,r:=none,B:=zjw P fn w0 o0 post pan,np:=fun _ _ _ d _ _ h=>by cases d <;> exact h,no:=fun _ _ h=>h }
theorem zcL {P:Program} {fn:Func} {w0:World} {o0:Own} {post:Post} {pan:Value→List HA→Prop} {e:Exit} {a:Act} {w:World} (h:zjw P fn w0 o0 post pan e a w):bodyPostM (FR none) 0 P fn (EndsG w0 o0 post pan) e a w:=by
  cases e with
  | panic c =>
    obtain ⟨v,G,o',rfl,hv,hb,ht,hs⟩:=h
    refine z6L (H:=G) (u:=.panicking [{ v:=v,recovered:=false }]) (by simp) (fun w' o hb' ht' hs'=>?_) _ _ _ hb ht hs
    show EndsG w0 o0 post pan (.panicked [{ v:=v,recovered:=false }]) w'
    exact .inr ⟨v,G,o,rfl,hv,hb',ht',hs'⟩
  | outgrown=>exact h.elim
  | normal=>exact h
  | ret=>exact h
  | exit _=>exact h
  | goto _=>exact h
theorem zdM {P:Program} {f:FuncId} {fn:Func} {c:Code} {args:List Value} {H:List HA} {post:Post} {pan:Value→List HA→Prop} {n:Nat}
  (hf:P.funcs[f]? = some fn) (hb:fn.body=some c) (hm:fn.ntmps=n) (hn:Nat.ble args.length n=true)
  (h:∀ w0 o0,Run (EnvG P n w0 o0 fn post pan) c [] (VF.args args 0) H):z9d P f args H post pan:=by
 intro w o hbd hs
 refine callsIn_wide.1 (callsIn_of_wp_marks (F:=FR none) (n:=0) hf hb trivial ?_)
 refine wpIn_mono (h w o _ _ ⟨?_,(fun _=>rfl),?_,o,hbd,TrD.of (TrM.refl w o) rfl,hs⟩) (fun _ _ _ h=>zcL h)
 ·have:=Nat.le_of_ble_eq_true hn
  simp [hm,EnvG]; omega
 ·intro t v hv
  obtain ⟨_,h2⟩:=VF.args_get args 0 t v hv
  exact z5E v (by simpa using h2)
section
variable {P : Program} {n : Nat} {w0 : World} {o0 : Own} {fn : Func} {R : Type} {a r : R} {post : Post} {pan : Value → List HA → Prop} {rs : List ResultVar} {vs : List Value} {L : List (Nat × Value)} {H H' : List HA} {v : Value} {X : Option R}
theorem zjB (hr:fn.results=rs.toArray) (hv:Rz P (VF.of L) H rs vs) (hp:a=r→Fp post (tup vs) H):DF (some a) r (EnvG P n w0 o0 fn post pan) L H:=⟨fun hx=>by
 intro ac w q
 obtain ⟨G,h1,h2⟩:=hp (z4N hx)
 obtain ⟨_,_,_,o,hb,ht,hs⟩:=id q
 refine z6L (u:=.returning) (by simp) (fun w' o hb ht hs=>?_) _ _ _ hb (ht.m rfl) hs
 show ∃ v,(results fn ac.tmps).run P w' = .ok v w'∧EndsG w0 o0 post pan (.returned v) w'
 obtain ⟨o',hb',t',hs'⟩:=h2 w' o hb hs
 exact ⟨_,z7d q.2.2.1 hs rs vs hr hv.all.1 hv.all.2,.inl ⟨_,G,o',rfl,h1,hb',ht.trans t',hs'⟩⟩⟩
theorem zk6 (hp:a=r→Fp pan v H):DP (some a) r (EnvG P n w0 o0 fn post pan) L H v:=⟨fun hx=>by
 rintro ac w ⟨_,_,_,o,hb,ht,hs⟩
 obtain ⟨G,h1,h2⟩:=hp (z4N hx)
 obtain ⟨o',hb',t',hs'⟩:=h2 w o hb hs
 exact ⟨v,G,o',rfl,h1,hb',(ht.m rfl).trans t',hs'⟩⟩
theorem zjC (hr:fn.results=rs.toArray) (hv:Rz P (VF.of L) H rs vs) (hp:a=r→Fp post (tup vs) H):DF (some a) r (EnvQ P n w0 o0 fn post) L H:=⟨fun hx=>by
 intro ac w q
 obtain ⟨G,h1,h2⟩:=hp (z4N hx)
 refine q.leavesQ fun w' o hb ht hs=>?_
 obtain ⟨o',hb',t',hs'⟩:=h2 w' o hb hs
 exact ⟨_,z7d q.2.2.1 hs rs vs hr hv.all.1 hv.all.2,_,G,o',rfl,h1,hb',ht.trans t',hs'⟩⟩
class RecK (P:Program) (f v:Nat) (K:outParam Prop):Prop where
 call:∀ args w,(callFunc f args).run P w = .ok (.enter f args) w
 out:K
theorem zmB {f:FuncId} {cs:List Value} {K:Prop} (c:RecK P f 0 K) (hc:K→RecD P f cs .returning .returning H H) (h:DF X r (EnvQ P n w0 o0 fn post) L H):DF X r ((EnvQ P n w0 o0 fn post).push { target:=.fn (.func f) cs.toArray,args:=#[] }) L H:=⟨fun hx=>zkp c.call (hc c.out) (h.out hx)⟩
theorem zmY {f:FuncId} {cs:List Value} {K:Prop} (c:RecK P f 1 K) (hc:K→RecD P f cs (.panicking [{ v:=v,recovered:=false }]) (.panicking [{ v:=v,recovered:=true }]) H H') (h:DF X r (EnvQ P n w0 o0 fn post) L H'):DP X r ((EnvQ P n w0 o0 fn post).push { target:=.fn (.func f) cs.toArray,args:=#[] }) L H v:=⟨fun hx=>zi1 c.call (hc c.out) (h.out hx)⟩
end
section
variable {R : Type} {g : Hn} {X : Option R} {r : R} {E : Env} {k : List KI} {L : List (Nat × Value)} {H : List HA} {ops : Array Oper} {rest : List Oper} {ty : TypeId} {pos : String} {af : Array Edge} {x : Operand} {f : FuncId} {cs : List Value}
theorem zhG (hx:(VF.of L).ev x=some (.func (.func f) #[] cs.toArray)) (h0:E.db=[]) (hr:E.nd=true) (hr0:E.r=none) (hk:DO .o rest X g r (E.push { target:=.fn (.func f) cs.toArray,args:=#[] }) ops k L H):DO .o (⟨none,.defer ⟨.value x,#[],#[]⟩,ty,pos,af,none⟩::rest) X g r E ops k L H:=
 ⟨fun hX=>zfX (.inl rfl) hx h0 hr hr0 (hk.out hX)⟩
end
structure CtG {A S:Type} (P:Program) (f:Nat) (x:Option (Pg A S)) (az:List Value) (Hc:List HA) (post:Pg A S→Post) (pan:Pg A S→Post):Prop where
 call:∀ args w,(callFunc f args).run P w = .ok (.enter f args) w
 out:∀ q,x=some q→z9d P f az Hc (post q) (pan q)
theorem ctg {A S:Type} {P:Program} {f:Nat} {x:Option (Pg A S)} {az:List Value} {Hc:List HA} {post pan:Pg A S→Post} {K:Prop} (v:Nat) (c:Con P f v K) (h:K→∀ q,x=some q→z9d P f az Hc (post q) (pan q)):CtG P f x az Hc post pan:=⟨c.call,h c.out⟩
theorem ziE {P:Program} {V:VF} {H:List HA} {d:Option Nat} {ty:TypeId} {pos:String} {af:Array Edge} {g:Option (Nat×Bool)} {fx:Operand} {f:FuncId} {xs:Array Operand} {Ts:Array TypeId} {bs vs cs:List Value} {Hc:List HA} {post pan:Post} (sh:List (Nat×Nat)) (hfx:V.ev fx=some (.func (.func f) bs.toArray cs.toArray)) (hcall:∀ args w,(callFunc f args).run P w = .ok (.enter f args) w)
  (hxs:xs.toList.map V.ev=vs.map some) (hc:z9d P f ((bs++vs)++cs) Hc post pan) (hsh:z4H H sh Hc) (hok:okX sh=true)
  (hst:(sh.all fun s=>s.2 != 1)=true∨∀ v G,post v G→∀ g∈G,g.Strict) (hsp:(sh.all fun s=>s.2 != 1)=true∨∀ v G,pan v G→∀ g∈G,g.Strict) :
  OpTG P ⟨d,.call ⟨.value fx,xs,Ts⟩,ty,pos,af,g⟩ V H (fun v' H'=>∃ G,post v' G∧H'=zX sh H++G) (fun v' H'=>∃ G,pan v' G∧H'=zX sh H++G):=by
 have h:=zh6 (d:=d) (ty:=ty) (pos:=pos) (af:=af) (g:=g) (V:=V) (H:=H) (Ts:=Ts) (fx:=.const (.func (.func f) #[] cs.toArray)) (xs:=((bs.map Operand.const)++xs.toList).toArray) (vs:=bs++vs) sh rfl hcall (by
  rw [show (((bs.map Operand.const)++xs.toList).toArray).toList=(bs.map Operand.const)++xs.toList from rfl,List.map_append,zaB,hxs,List.map_append]) hc hsh hok hst hsp
 intro ρ w o hf hbd hs
 have h2:=h ρ w o hf hbd hs
 unfold DoesP at h2 ⊢
 rw [zaz hf hfx hcall hxs]
 exact h2
theorem Cs.tg {P:Program} {V:VF} {H:List HA} {op:Oper} {d:Option Nat} {f:Nat} {az:List Value} {Hc:List HA} {post pan:Post} (c:Cs V op d f az) (sh:List (Nat×Nat)) (hcall:∀ args w,(callFunc f args).run P w = .ok (.enter f args) w) (hc:z9d P f az Hc post pan) (hsh:z4H H sh Hc) (hok:okX sh=true)
  (hst:(sh.all fun s=>s.2 != 1)=true∨∀ v G,post v G→∀ g∈G,g.Strict) (hsp:(sh.all fun s=>s.2 != 1)=true∨∀ v G,pan v G→∀ g∈G,g.Strict):OpTG P op V H (fun v' H'=>∃ G,post v' G∧H'=zX sh H++G) (fun v' H'=>∃ G,pan v' G∧H'=zX sh H++G):=by
 cases c with
 | k hfx hxs he=>exact ziE sh hfx hcall hxs (by rw [he]; exact hc) hsh hok hst hsp
theorem zjr {E:Env} {ops:Array Oper} {op:Oper} {k:List KI} {V:VF} {H:List HA} {i fuel:Nat} {ls:Array Bool} {Kl Kl' : List (List Nat)} {Hs Hs' : List HA} {post pan:Post} (hi:ops[i]? = some op) (hK:Kd i Kl Hs Kl' Hs') (hw:Wants E.n ops V op) (hd:inB E.n op.dst=true) (h:OpTG E.P op V H post pan)
    (hk:∀ v H',post v H'→Tsub H' Hs'∧AnyM E ops (ls.setIfInBounds i true) fuel k (V.put op.dst v) H' Kl' Hs') (hp:∀ v H',pan v H'→FinP E V H' v):AnyOM E ops ls fuel k V H Kl Hs i:=by
  intro a w r
  have hl:=zeJ ls i
  have fin:∀ {v:Value} {H' : List HA} {a' : Act} {w' : World},Tsub H' Hs'∧AnyM E ops (ls.setIfInBounds i true) fuel k (V.put op.dst v) H' Kl' Hs'→Rel E (V.put op.dst v) H' a' w'→SH E (lvK (ls.setIfInBounds i true) Kl Hs) w'∧z6U E.r E.P ops (Qof E k) (fun L=>SH E (lvK L Kl Hs)) fuel (ls.setIfInBounds i true) a' w':=fun hq hr=>⟨by rw [hK.eq hl]; exact (hr.sh' hq.1).lv,zbY (V:=V) hK _ _ _ _ hl (hq.2 _ _ hr)⟩
  unfold wpOpI
  simp only [hi]
  rw [if_pos (hw.wanted r)]
  have hf:=r.fits
  obtain ⟨h1,h2,h3,o,hb,ht,hs⟩:=r
  have:=h a.eval w o hf hb hs
  unfold DoesP at this
  generalize (execOp a.eval op).run E.P w=x at *
  cases x with
  | halt x w'=>simp at this
  | ok nx w' =>
    cases nx <;> simp only [Oper.uponIn] at this ⊢
    case enter f args=>
      refine ⟨(fun h=>nomatch h),CallsIn.mono (F:=FR E.r) (callsIn_wide.2 this) ?_⟩
      rintro e w'' (⟨v,rfl,H',o',hp',hb',ht',hs'⟩ | ⟨v,rfl,H',o',hv,hb',ht',hs'⟩)
      · exact fin (hk v H' hp') (Rel.put h1 h2 h3 hd hb' ht ht' hs')
      · exact z8w k a w'' (hp v H' hv a w'' (Rel.put (d:=none) (v:=undef) h1 h2 h3 rfl hb' ht ht' hs'))
theorem am_tg {E:Env} {ops:Array Oper} {op:Oper} {k:List KI} {V:VF} {H:List HA} {i fuel:Nat} {ls:Array Bool} {Kl Kl' : List (List Nat)} {Hs Hs' : List HA} {post pan:Post} (hi:ops[i]? = some op) (hr:Region.ready .any ops ls=[i]) (hK:Kd i Kl Hs Kl' Hs') (hw:Wants E.n ops V op) (hd:inB E.n op.dst=true) (h:OpTG E.P op V H post pan)
  (hk:∀ v H',post v H'→Tsub H' Hs'∧AnyM E ops (ls.setIfInBounds i true) fuel k (V.put op.dst v) H' Kl' Hs') (hp:∀ v H',pan v H'→FinP E V H' v):AnyM E ops ls (fuel+1) k V H Kl Hs:=by
 refine zfg hr fun j hj=>?_
 obtain rfl:=List.mem_singleton.1 hj
 exact zjr hi hK hw hd h hk hp
theorem wk_tg {E:Env} {ops:Array Oper} {op:Oper} {rest:List Oper} {k:List KI} {V:VF} {H:List HA} {m m' : Md} {post pan:Post} (hn:Nt m m') (hw:Wants E.n ops V op) (hd:inB E.n op.dst=true) (h:OpTG E.P op V H post pan) (hk:∀ v H',post v H'→Wd m' E ops rest k (V.put op.dst v) H') (hp:∀ v H',pan v H'→FinP E V H' v):Wk m E ops (op::rest) k V H:=by
  cases hn with
  | o=>exact znF hw hd h hk hp
  | a hK =>
    intro hbl ho hD hp' hs
    obtain ⟨h1,h2⟩:=ord_f ho
    cases hp' with
    | s hi hp'=>exact am_tg hi h1 hK hw hd h (fun v H' hv=>hk v H' hv hbl h2 (hK.ds hD) hp') hp
  | u hK =>
    intro hbl ho hD hp' hs fuel hf
    cases hp' with
    | s hi hp'=>exact zjr hi hK hw hd h (fun v H' hv=>let ⟨h1,h2⟩:=hk v H' hv hbl ho (hK.ds hD); ⟨h1,h2 fuel hf⟩) hp
section
variable {R A S : Type} {g : Hn} {r : R} {E : Env} {k : List KI} {L : List (Nat × Value)} {H H1 Hc : List HA} {ops : Array Oper} {rest : List Oper} {op : Oper} {d : Nat} {f : Nat} {az : List Value} {sh : List (Nat × Nat)} {x : Option (Pg A S)} {kk : A → Option R} {kp : Int → S → Option R} {post : A → Post} {ppost : Int → S → Post} {m m' : Md}
theorem zhD (c:Cs (VF.of L) op (some d) f az) (hc:CtG E.P f x az Hc (fun q v G=>∃ q',q = .ret q'∧post q' v G) (fun q v G=>∃ e s,q = .pan e s∧ppost e s v G)) (hs:Sx H Hc sh H1) (hsh:z4H H1 sh Hc) (hok:okX sh=true) (hst:(sh.all fun s=>s.2 != 1)=true∨(SgP post∧∀ e,SgP (ppost e))) (hw:Wants E.n ops (VF.of L) op) (hd:inB E.n (some d)=true) (hn:Nt m m') (hb:Sb m H1)
  (hp:∀ e s,Ep (ppost e s) fun v G=>DP (kp e s) r E L (zX sh H1++G) v)
  (hk:∀ q,Ep (post q) fun v G=>DM m' rest (kk q) g r E ops k ((d,v)::L) (zX sh H1++G)):DO m (op::rest) (obind x fun q=>pgbind q kp kk) g r E ops k L H:=⟨fun hX=>by
 obtain ⟨q,hq,hr⟩:=z1R hX
 refine z7l hs.turn (wd hb ?_)
 have e:=c.dst
 refine wk_tg hn hw (by rw [e]; exact hd) (c.tg sh hc.call (hc.out q hq) hsh hok (hst.imp id fun h v G ⟨q',_,hp⟩=>h.1 q' v G hp) (hst.imp id fun h v G ⟨e,s,_,hp⟩=>h.2 e s v G hp)) ?_ ?_
 ·rintro v _ ⟨G,⟨q',rfl,hp'⟩,rfl⟩
  rw [e]
  exact ((hk q').out v G hp').out hr
 ·rintro v _ ⟨G,⟨e',s,rfl,hp'⟩,rfl⟩
  exact ((hp e' s).out v G hp').out hr⟩
theorem zfr (c:Cs (VF.of L) op none f az) (hc:CtG E.P f x az Hc (fun q v G=>∃ q',q = .ret q'∧post q' v G) (fun q v G=>∃ e s,q = .pan e s∧ppost e s v G)) (hs:Sx H Hc sh H1) (hsh:z4H H1 sh Hc) (hok:okX sh=true) (hst:(sh.all fun s=>s.2 != 1)=true∨(SgP post∧∀ e,SgP (ppost e))) (hw:Wants E.n ops (VF.of L) op) (hn:Nt m m') (hb:Sb m H1)
  (hp:∀ e s,Ep (ppost e s) fun v G=>DP (kp e s) r E L (zX sh H1++G) v)
  (hk:∀ q,Ep (post q) fun v G=>DM m' rest (kk q) g r E ops k L (zX sh H1++G)):DO m (op::rest) (obind x fun q=>pgbind q kp kk) g r E ops k L H:=⟨fun hX=>by
 obtain ⟨q,hq,hr⟩:=z1R hX
 refine z7l hs.turn (wd hb ?_)
 have e:=c.dst
 refine wk_tg hn hw (by rw [e]; rfl) (c.tg sh hc.call (hc.out q hq) hsh hok (hst.imp id fun h v G ⟨q',_,hp⟩=>h.1 q' v G hp) (hst.imp id fun h v G ⟨e,s,_,hp⟩=>h.2 e s v G hp)) ?_ ?_
 ·rintro v _ ⟨G,⟨q',rfl,hp'⟩,rfl⟩
  rw [e]
  exact ((hk q').out v G hp').out hr
 ·rintro v _ ⟨G,⟨e',s,rfl,hp'⟩,rfl⟩
  exact ((hp e' s).out v G hp').out hr⟩
end
theorem zks {A S:Type} {q:A} {p:A→Value→List HA→Prop} {v:Value} {H:List HA} (h:Fp (fun v G=>p q v G) v H):Fp (fun v G=>∃ q',(Pg.ret q:Pg A S) = .ret q'∧p q' v G) v H:=let ⟨G,h1,h2⟩:=h; ⟨G,⟨q,rfl,h1⟩,h2⟩
theorem zkq {A S:Type} {e:Int} {s:S} {p:Int→S→Value→List HA→Prop} {v:Value} {H:List HA} (h:Fp (fun v G=>p e s v G) v H):Fp (fun v G=>∃ e' s',(Pg.pan e s:Pg A S) = .pan e' s'∧p e' s' v G) v H:=let ⟨G,h1,h2⟩:=h; ⟨G,⟨e,s,rfl,h1⟩,h2⟩
theorem zn0 {S R:Type} {c:Code} {s:S} {kk:S→Option R} {g:Hn} {r:R} {E:Env} {k:List KI} {L:List (Nat×Value)} {H:List HA} (h:DR c (kk s) g r E k L H):DR c (bindJ (some (.go s)) kk) g r E k L H:=⟨fun hx=>h.out hx⟩
theorem zjE {R:Type} {r:R} {E:Env} {L:List (Nat×Value)} {H:List HA}:DF none r E L H:=⟨fun hx=>by cases hx⟩
theorem zk7 {R:Type} {p:Prop} [Decidable p] {X:Option R} {r:R} {E:Env} {L:List (Nat×Value)} {H:List HA} {v:Value} (h:p→DP X r E L H v):DP (need p X) r E L H v:=⟨fun hx=>let ⟨a,b⟩:=z39 hx; (h a).out b⟩
theorem zgj {A:List HA} {g:HA} {j:Nat} (hj:j<A.length):Turn (A.set j HA.emp++[g]) (A.set j g):=by
 have h:=z41 (H:=A.set j HA.emp++[g]) (G:=A.set j g) (is:=(List.range A.length).set j A.length) ?_ ?_
 ·exact h
 ·refine List.pairwise_iff_getElem.2 fun a b ha hb hab=>?_
  simp at ha hb
  simp only [List.getElem_set,List.getElem_range]
  split <;> split <;> omega
 ·unfold Picks
  apply List.ext_getElem?
  intro q
  simp only [List.getElem?_map,List.getElem?_set,List.length_range]
  by_cases hq:j=q
  ·subst hq
   simp [hj]
  ·simp only [hq,if_false]
   by_cases hl:q<A.length
   ·simp [hl,List.getElem?_append_left,hq]
   ·simp [hl]
theorem zgk {A:List HA} {g:HA}:Turn (A++[g]) A:=z41 (is:=List.range A.length) List.nodup_range (by
 unfold Picks
 apply List.ext_getElem?
 intro q
 simp only [List.getElem?_map]
 by_cases hl:q<A.length
 ·simp [hl,List.getElem?_append_left]
 ·simp [hl])
structure Cm (E:Env) (k:List KI) (Lf:Act→World→Prop):Prop where
 out:∀ V' H',Goes E k V' H'→∀ a w,Rel E V' H' a w→Lf a w
section
variable {R : Type} {g : Hn} {X : Option R} {r : R} {E : Env} {k : List KI} {L : List (Nat × Value)} {H : List HA} {ops : Array Oper} {id : Nat}
theorem zhM {is ts:List Nat} {bs:List Fb} {Kl:List (List Nat)} (hb:E.blind=false) (h:∀ Lf,Cm E k Lf→DR (.region id ops true) X (.d is ts bs Kl g) r E.calm [.loop Lf] L H):DR (.region id ops true) X (.d is ts bs Kl g) r E k L H:=
 ⟨fun hx=>zeD fun Lf hL=>(h Lf ⟨hL⟩).out hx⟩
theorem zhN {T:Ot} {ts:List Nat} {Kl:List (List Nat)} (hb:E.blind=false) (h:∀ Lf,Cm E k Lf→DR (.region id ops true) X (.q T ts Kl g) r E.calm [.loop Lf] L H):DR (.region id ops true) X (.q T ts Kl g) r E k L H:=
 ⟨fun hx=>zeD fun Lf hL=>(h Lf ⟨hL⟩).out hx⟩
theorem zjG {Lf:Act→World→Prop} (hc:Cm E k Lf) (h:DG k X g r E L H):DG [.loop Lf] X g r E.calm L H:=⟨fun hx=>zfD hc.out (h.out hx)⟩
end
end Go.Abs
namespace Go.Abs
variable {V : VF} {H : List HA} {P : Program} {d : Option Nat} {ty : TypeId} {pos : String} {af : Array Edge} {g : Option (Nat × Bool)}
theorem zbw (z0:Value) (n:Nat):Builtin.zeroCells #[z0] n=(List.replicate n [z0]).flatten.toArray:=by
 apply Array.ext'
 simp only [Builtin.zeroCells,Array.toList_map]
 have h1:(List.replicate n [z0]).flatten=List.replicate n z0:=by simp
 rw [h1,List.toList_toArray]
 rw [List.eq_replicate_iff]
 refine ⟨by simp,?_⟩
 intro b hb
 obtain ⟨i,_,rfl⟩:=List.mem_map.1 hb
 have:i % (#[z0]:Array Value).size=0:=Nat.mod_one i
 rw [this]
 rfl
theorem zlv {Ts:Array TypeId} {T T2 el:TypeId} {kd:IntKind} {x y:Operand} {z z0:Value} {ti:TypeInfo} {n:Int}
  (hT:Ts[0]? = some T) (hu:∀ w,(underlying T).run P w = .ok (.slice el) w) (hT2:Ts[1]? = some T2) (hu2:∀ w,(underlying T2).run P w = .ok (.int kd) w)
  (hti:∀ w,(typeInfo el).run P w = .ok ti w) (hes:ti.size=1) (hby:ti.bytes=1) (h0:∀ w,(zeroValue el).run P w = .ok z w) (hz:z.cells = #[z0])
  (hx:V.ev x=some (.slice none 0 0)) (hy:V.ev y=some (.int .i64 n)) (hn0:0≤n) (hn1:n≤4294967296) :
  OpT P ⟨d,.call ⟨.builtin .append,#[x,y],Ts⟩,ty,pos,af,g⟩ V H (fun v' H'=>H'=H++[row v' 1 (List.replicate n.toNat [z0])]):=by
 intro ρ w o hf hbd hs
 have hsz:∀ w,(sizeOf el).run P w = .ok 1 w:=fun w=>by simp [sizeOf,hti,hes]
 have hw:IntKind.i64.wrap n=n:=z77 (by omega) (by omega)
 obtain ⟨k,rfl⟩ : ∃ k:Nat,n=k:=⟨n.toNat,by omega⟩
 simp only [Int.toNat_natCast]
 have hlt:¬ (k:Int)<0:=by omega
 have hbig0:¬ (281474976710656:Int)<(k:Int):=by omega
 by_cases hk:k=0
 ·subst hk
  have hrun:(execOp ρ ⟨d,.call ⟨.builtin .append,#[x,y],Ts⟩,ty,pos,af,g⟩).run P w = .ok (.value (.slice none 0 0)) w:=by
   simp [execOp,resolve,invoke,builtin,hf x _ hx,hf y _ hy,Builtin.append_,hT,hu,hT2,hu2,hsz,asInt,asIntOf,hti,hby,z77]
  unfold Does
  rw [hrun]
  obtain ⟨o',h1,h2,h3⟩:=(z6x (H:=H) (g:=row (.slice none 0 0) 1 []) (fun _ _ _=>.inl ⟨⟨none,rfl⟩,rfl⟩)) w o hbd hs
  exact ⟨_,o',rfl,h1,h2,h3⟩
 ·have hlen:k≤maxLen:=by unfold maxLen; omega
  have hq:(Question.appendCap k 0 el).forced=false:=rfl
  obtain ⟨c',hc'⟩ : ∃ c',c'=(Question.appendCap k 0 el).cut (w.tape w.drawn (Question.appendCap k 0 el)):=⟨_,rfl⟩
  have hc1:k≤c':=by rw [hc']; simp only [Question.cut]; omega
  have hc2:c'≤maxLen:=by
   rw [hc']; simp only [Question.cut]; unfold maxLen at hlen ⊢
   have:w.tape w.drawn (Question.appendCap k 0 el) % (2 ^ 63 - k)<2 ^ 63 - k:=Nat.mod_lt _ (by omega)
   omega
  have hcap:Builtin.nextslicecap k 0=k:=by
   unfold Builtin.nextslicecap
   rw [if_pos (by omega)]
  have hnw:=z8a w (.cells (([]:List (List Value)).flatten.toArray++(List.replicate k [z0]).flatten.toArray++Builtin.zeroCells z.cells (c' - (([]:List (List Value)).length+(List.replicate k [z0]).length))) el) (w.drawn+1)
  have hrun:(execOp ρ ⟨d,.call ⟨.builtin .append,#[x,y],Ts⟩,ty,pos,af,g⟩).run P w = .ok (.value (.slice (some ⟨w.heap.size,0,none⟩) k c'))
    (w.drew.alloc (.cells (([]:List (List Value)).flatten.toArray++(List.replicate k [z0]).flatten.toArray++Builtin.zeroCells z.cells (c' - (([]:List (List Value)).length+(List.replicate k [z0]).length))) el)):=by
   have e1:Builtin.zeroCells z.cells k=(List.replicate k [z0]).flatten.toArray:=by rw [hz]; exact zbw z0 k
   have hneg:¬ (9223372036854775807:Int)<(k:Int):=by omega
   simp [execOp,resolve,invoke,builtin,hf x _ hx,hf y _ hy,Builtin.append_,hT,hu,hT2,hu2,hsz,asInt,asIntOf,hti,hby,hw,hlt,hbig0,hk,hcap,hq,← hc',h0,e1,newRow,Builtin.firstCells,IntKind.max]
   have hmx:¬ ((if IntKind.i64.signed=true then 2 ^ (IntKind.i64.bits - 1) - 1 else 2 ^ IntKind.i64.bits - 1:Int)<(k:Int)):=by
    show ¬ (9223372036854775807:Int)<(k:Int)
    omega
   have hb2:¬ 281474976710656<k:=by omega
   rw [if_neg hmx]
   simp [hb2,← hc']
  unfold Does
  rw [hrun]
  have hrow:=z7u (w:=w) (M:=fun b=>z6V o w.heap.size H.length b = .mine H.length) (es:=1) (c':=c') (T:=el) (z:=z.cells) (cells:=[]) (new:=List.replicate k [z0]) (by rw [hz]; rfl) hnw (by simp [z6V]) (by simpa using hc1) hc2 (by simp) (by
   intro c hc
   rw [List.eq_of_mem_replicate hc]; rfl)
  have hrow2:RowIs (w.drew.alloc (.cells (([]:List (List Value)).flatten.toArray++(List.replicate k [z0]).flatten.toArray++Builtin.zeroCells z.cells (c' - (([]:List (List Value)).length+(List.replicate k [z0]).length))) el)) (fun b=>z6V o w.heap.size H.length b = .mine H.length) (.slice (some ⟨w.heap.size,0,none⟩) k c') 1 (List.replicate k [z0]):=by
   have hl:(List.replicate k [z0]).length=k:=List.length_replicate
   have:=hrow
   rw [List.length_nil,Nat.zero_add,hl,List.nil_append] at this
   rw [List.length_nil,Nat.zero_add,hl]
   exact this
  obtain ⟨h1,h2,h3⟩:=z7w (g:=row (.slice (some ⟨w.heap.size,0,none⟩) k c') 1 (List.replicate k [z0])) hbd hnw hs hrow2
  exact ⟨_,_,rfl,h1,h2,h3⟩
theorem zdb {T el:TypeId} {x:Operand} {lo hi:Option Operand} {es:Nat} (hu:∀ w,(underlying T).run P w = .ok (.slice el) w) (hz:∀ w,(sizeOf el).run P w = .ok es w)
  (hx:V.ev x=some (.slice none 0 0)) (hl:Bi V lo 0 0) (hr:Bi V hi 0 0):OpY P ⟨d,.slice T x lo hi none,ty,pos,af,g⟩ V H (.slice none 0 0):=by
 intro ρ w o hf hbd hs
 have hrun:=z9q (P:=P) (T:=T) (w:=w) (a:=none) (mx:=none) (n:=0) (cap:=0) (l:=0) (r:=0) hu hz hf (hl.bd (by omega)) (hr.bd (by omega)) rfl (by omega) (by omega) (by omega)
 simp only [Option.map_none] at hrun
 simp [execOp,hf x _ hx,hrun]
theorem zgp {Ts:Array TypeId} {T el:TypeId} {x:Operand} (hT:Ts[0]? = some T) (hu:∀ w,(underlying T).run P w = .ok (.slice el) w) (hx:V.ev x=some (.slice none 0 0)) :
  OpY P ⟨d,.call ⟨.builtin .cap,#[x],Ts⟩,ty,pos,af,g⟩ V H (.int .i64 0):=by
 intro ρ w o hf hbd hs
 simp [execOp,resolve,invoke,builtin,hf x _ hx,Builtin.cap_,hT,hu,goInt]
end Go.Abs
namespace Go.Abs
section
variable {k : List KI} {V : VF} {H : List HA} {P : Program} {d : Option Nat} {ty : TypeId} {pos : String} {af : Array Edge} {g : Option (Nat × Bool)}
theorem zaZ (z:Array Value):∀ n:Nat,(Builtin.zeroCells z n).toList=(List.replicate n z.toList).flatten:=by
  intro n
  have key:∀ n:Nat,List.map (fun i=>z[i % z.size]!) (List.range (n*z.size))=(List.replicate n z.toList).flatten:=by
    intro n
    induction n with
    | zero=>simp
    | succ n ih =>
      rw [Nat.succ_mul,Nat.add_comm,List.range_add,List.map_append,List.map_map,List.replicate_succ,List.flatten_cons,← ih]
      congr 1
      · apply List.ext_getElem
        · simp
        · intro i h1 h2
          have hi:i<z.size:=by simpa using h2
          simp [Nat.mod_eq_of_lt hi,hi]
      · apply List.map_congr_left
        intro i _
        simp
  simpa [Builtin.zeroCells] using key n
theorem zlu {Ts:Array TypeId} {T el:TypeId} {es a b:Nat} {x:Operand} {v vd z:Value} {cells:List (List Value)} (m:Nat)
    (hT:Ts[0]? = some T) (hu:∀ w,(underlying T).run P w = .ok (.slice el) w) (h0' : ∀ w,(zeroValue el).run P w = .ok z w) (hzs:z.cells.toList.length=es) (hzo:∀ u∈z.cells.toList,u.oneCell'=true)
    (hx:V.ev x=some vd) (hd:zdf v es cells.length vd a b) (ha:a≤b) (hb:b≤cells.length) (hm:H[m]? = some (row v es cells)) :
    OpT P ⟨d,.call ⟨.builtin .clear,#[x],Ts⟩,ty,pos,af,g⟩ V H (fun v' H'=>v' = .tuple #[]∧H'=H.set m (row v es (cpy cells a b (List.replicate (b - a) z.cells.toList)))):=by
  intro ρ w o hf hbd hs
  obtain ⟨new,hnw⟩ : ∃ new,new=List.replicate (b - a) z.cells.toList:=⟨_,rfl⟩
  rw [← hnw]
  have hnew:∀ c∈new,c.length=es∧∀ u∈c,u.oneCell'=true:=by
    intro c hc; rw [hnw] at hc; rw [List.eq_of_mem_replicate hc]; exact ⟨hzs,hzo⟩
  have hnl:new.length=b - a:=by rw [hnw]; simp
  obtain ⟨q,hq⟩ : ∃ q,q=min new.length (b - a):=⟨_,rfl⟩
  have hqb:q=b - a:=by omega
  have hq1:q≤new.length:=by omega
  have hnu:∀ c∈new,c.length=es:=fun c hc=>(hnew c hc).1
  have htk:new.take (b - a)=new.take q:=by rw [hqb]
  have hcp:cpy cells a b new=cells.take a++(new.take q++cells.drop (a+q)):=by rw [cpy,htk,← hq]
  rw [hcp]
  have hone:∀ u∈(new.take q).flatten,u.oneCell'=true:=fun u hu=>by
    obtain ⟨c,hc,hu⟩:=List.mem_flatten.1 hu
    exact (hnew c (List.mem_of_mem_take hc)).2 u hu
  -- what dst is
  obtain ⟨base,cap',hvd,hbase⟩ : ∃ base cap',vd = .slice base (b - a) cap'∧(0<b - a→∀ b0 off cap,v = .slice (some ⟨b0,off,none⟩) cells.length cap→cells.length≤cap→base=some ⟨b0,off+a*es,none⟩):=by
    have hsl:∃ a0 cap,v = .slice a0 cells.length cap:=by
      rcases hs m _ hm with ⟨⟨a',r1⟩,r2⟩ | ⟨b0,off,cap,arr,T',fz,r1,_⟩
      · exact ⟨a',0,by rw [r1,r2]; rfl⟩
      · exact ⟨_,cap,r1⟩
    obtain ⟨a0,cap,hv⟩:=hsl
    rcases hd with rfl | ⟨rfl,rfl,rfl⟩
    · rw [hv]
      refine ⟨_,_,rfl,fun h0 b0 off cap1 hv1 hc1=>?_⟩
      simp only [Value.slice.injEq] at hv1
      obtain ⟨rfl,_,rfl⟩:=hv1
      rw [if_neg (by omega)]
      have hadd:(Addr.add ⟨b0,off,none⟩ (a*es))=⟨b0,off+a*es,none⟩:=by unfold Addr.add; split <;> simp_all
      simp [hadd]
    · rw [hv]
      refine ⟨a0,cap,by simp,fun h0 b0 off cap1 hv1 hc1=>?_⟩
      simp only [Value.slice.injEq] at hv1
      rw [hv1.1]; simp
  have hrest:∀ w',(match base with | some ad=>storeCells ad (new.take q).flatten | none=>pure ()).run P w = .ok () w'→(base=none→q=0)→(execOp ρ ⟨d,.call ⟨.builtin .clear,#[x],Ts⟩,ty,pos,af,g⟩).run P w = .ok (.value (.tuple #[])) w':=by
    intro w' hw' hn0
    rw [hvd] at hx
    cases base with
    | none =>
      simp at hw'
      subst hw'
      simp [execOp,resolve,invoke,builtin,hf x _ hx,Builtin.clear_,hT,hu]
    | some ad =>
      simp only at hw'
      cases hba:b - a with
      | zero =>
        rw [hba] at hx
        have hq0:q=0:=by omega
        rw [hq0] at hw'
        simp [z6B] at hw'
        subst hw'
        simp [execOp,resolve,invoke,builtin,hf x _ hx,Builtin.clear_,hT,hu]
      | succ n =>
        rw [hba] at hx
        have hz:(Builtin.zeroCells z.cells (n+1)).toList=(new.take q).flatten:=by rw [zaZ,hnw,hqb,hba,List.take_of_length_le (by simp)]
        simp [execOp,resolve,invoke,builtin,hf x _ hx,Builtin.clear_,hT,hu,h0',hz,hw']
  by_cases h0:q=0
  · -- nothing goes over
    have hr:=hrest w (by rw [h0]; cases base <;> simp [z6B]) (fun _=>h0)
    unfold Does
    rw [hr]
    refine ⟨_,o,⟨rfl,rfl⟩,hbd,Tr.refl w o,z3k (Nat.le_refl _) (fun _ _ _=>⟨rfl,rfl⟩) hs ?_⟩
    have:cells.take a++(new.take q++cells.drop (a+q))=cells:=by rw [h0]; simp
    rw [this]
    exact hs m _ hm
  · rcases hs m _ hm with ⟨_,r2⟩ | ⟨b0,off,cap,arr,T',fz,r1,r2,r3,r4,r5,r6,r7,r8,r9,r10⟩
    · rw [r2] at hb; simp at hb; omega
    obtain rfl:=hbase (by omega) b0 off cap r1 r7
    have hfl:=zca hnu q hq1
    have hroom:off+a*es+(new.take q).flatten.length≤arr.size:=by
      rw [hfl,r6,Nat.add_assoc,← Nat.add_mul]
      exact Nat.add_le_add_left (Nat.mul_le_mul_right _ (by omega)) _
    obtain ⟨w',h2,h3⟩:=z4U (P:=P) (new.take q).flatten 0 arr w r4 r5 (off:=off+a*es) (by simpa using hroom) hone
    have hr:=hrest w' h2 (by simp)
    unfold Does
    rw [hr]
    refine ⟨_,o,⟨rfl,rfl⟩,fun b' hb'=>hbd b' (by rw [h3.size] at hb'; exact hb'),⟨h3.os,h3.tape,h3.output,by rw [h3.size]; exact Nat.le_refl _,fun b' hlt hb'=>⟨hb',h3.other b' ?_⟩,fun b' hlt hb'=>⟨hb',h3.other b' ?_⟩⟩,?_⟩
    · rintro rfl; rw [r2] at hb'; cases hb'
    · rintro rfl; rw [r2] at hb'; cases hb'
    · have hlen:(cells.take a++(new.take q++cells.drop (a+q))).length=cells.length:=by simp; omega
      refine z3k (by rw [h3.size]; exact Nat.le_refl _) (fun b' hlt hb'=>⟨rfl,h3.other b' ?_⟩) hs (.inr ⟨b0,off,cap,_,T',fz,by rw [hlen]; exact r1,r2,by rw [h3.size]; exact r3,h3.here,by rw [z3M]; exact r5,by rw [z3M]; exact r6,
        by rw [hlen]; exact r7,r8,?_,?_⟩)
      · rintro rfl; exact hb' r2
      · intro c hc
        rcases List.mem_append.1 hc with hc | hc
        · exact r9 c (List.mem_of_mem_take hc)
        · rcases List.mem_append.1 hc with hc | hc
          · exact hnu c (List.mem_of_mem_take hc)
          · exact r9 c (List.mem_of_mem_drop hc)
      · intro i c hi j x' hj
        rw [Nat.add_zero,z4S _ _ _ _ hroom,hfl]
        have hcl:c.length=es:=by
          have hc:=List.mem_of_getElem? hi
          rcases List.mem_append.1 hc with hc | hc
          · exact r9 c (List.mem_of_mem_take hc)
          · rcases List.mem_append.1 hc with hc | hc
            · exact hnu c (List.mem_of_mem_take hc)
            · exact r9 c (List.mem_of_mem_drop hc)
        have hjl:j<es:=by have:=(List.getElem?_eq_some_iff.1 hj).1; omega
        have hml:∀ p r:Nat,p+1≤r→p*es+es≤r*es:=fun p r h=>by rw [← Nat.succ_mul]; exact Nat.mul_le_mul_right _ h
        have haq:(a+q)*es=a*es+q*es:=Nat.add_mul _ _ _
        by_cases c1:i<a
        · rw [List.getElem?_append_left (by simp; omega),List.getElem?_take,if_pos c1] at hi
          have:=hml i a c1
          rw [if_neg (by omega)]
          exact r10 i c hi j x' hj
        · rw [List.getElem?_append_right (by simp; omega)] at hi
          have e1:(cells.take a).length=a:=by simp; omega
          rw [e1] at hi
          by_cases c2:i - a<q
          · rw [List.getElem?_append_left (by simp; omega)] at hi
            have h1:=hml i (a+q) (by omega)
            have h2' : a*es≤i*es:=Nat.mul_le_mul_right _ (by omega)
            rw [if_pos (by omega)]
            have:=z9b (new.take q) (fun c hc=>hnu c (List.mem_of_mem_take hc)) (i - a) j c x' hi hj
            rw [← this]
            congr 1
            rw [Nat.sub_mul]; omega
          · rw [List.getElem?_append_right (by simp; omega)] at hi
            have e2:(new.take q).length=q:=by simp; omega
            rw [e2,List.getElem?_drop,show a+q+(i - a - q)=i by omega] at hi
            have h1:(a+q)*es≤i*es:=Nat.mul_le_mul_right _ (by omega)
            rw [if_neg (by omega)]
            exact r10 i c hi j x' hj
end
section
variable {R : Type} {gg : Hn} {X : Option R} {r : R} {E : Env} {k : List KI} {L : List (Nat × Value)} {H H' : List HA} {ops : Array Oper} {rest : List Oper} {m m' : Md}
variable {α : Type} {F : α → List Value} {src : List α} {es i : Nat} {ty : TypeId} {pos : String} {af : Array Edge} {gd : Option (Nat × Bool)} {T el : TypeId} {x : Operand} {v z : Value} {zs : List Value} {z0 : α} {lo hi : Int}
theorem zhF (hn2:Nt m m') (hk:DO m' rest X gg r E ops k L H') (hx:(VF.of L).ev x=some (subS v es lo.toNat hi.toNat)) (hm:At H i (row v es (src.map F))) (hf:0≤lo∧lo≤hi∧hi≤(src.length:Int)) (hu:∀ w,(underlying T).run E.P w = .ok (.slice el) w)
  (h0:∀ w,(zeroValue el).run E.P w = .ok z w) (hz:Nl z.cells.toList zs) (hD:Dc F zs z0) (he:Ef F es) (hS:St H i (row v es ((cpy src lo.toNat hi.toNat (List.replicate (hi.toNat - lo.toNat) z0)).map F)) H') (hb:Sb m' H')
  (hw:Wants E.n ops (VF.of L) ⟨none,.call ⟨.builtin .clear,#[x],#[T]⟩,ty,pos,af,gd⟩):DO m (⟨none,.call ⟨.builtin .clear,#[x],#[T]⟩,ty,pos,af,gd⟩::rest) X gg r E ops k L H:=⟨fun hX=>by
 have hF:z.cells.toList=F z0:=hz.eq.trans hD.e
 have h:=zlu (d:=none) (ty:=ty) (pos:=pos) (af:=af) (g:=gd) (V:=VF.of L) (P:=E.P) (Ts:=#[T]) i rfl hu h0 (by rw [hF]; exact (he.ok z0).1) (by rw [hF]; exact (he.ok z0).2) hx zit (by omega) (by rw [List.length_map]; omega) hm.get
 rw [hF,← List.map_replicate,zgC] at h
 refine wk_t hn2 hw rfl h ?_
 rintro _ _ ⟨rfl,rfl⟩
 rw [hS.eq]; exact wd hb (hk.out hX)⟩
end
theorem Free.trw {a:HA} (h:Free a) {w:World} {o o' : Own} (t:Tr w o w o') (k k' : Nat) (hp:a.p w o k):a.p w o' k':=h w o o' k k' (fun b hb ho=>(t.no b hb ho).1) hp
theorem Sx.free {H G H1:List HA} {sh:List (Nat×Nat)} (h:Sx H G sh H1):(sh.all fun s=>Nat.beq s.2 0)=true→∀ w o,Bnd w o→Sats w o H→∃ o',Bnd w o'∧Tr w o w o'∧Sats w o' H1∧∀ g∈G,Free g∧g.p w o' 0:=by
  induction h with
  | z=>exact fun _ w o hb hs=>⟨o,hb,Tr.refl w o,hs,fun g hg=>by simp at hg⟩
  | l=>intro h; simp at h
  | k=>intro h; simp at h
  | kn=>intro h; simp at h
  | ks=>intro h; simp at h
  | nw=>intro h; simp at h
  | nnw=>intro h; simp at h
  | q=>intro h; simp at h
  | v h f _ ih =>
    intro h0 w o hb hs
    obtain ⟨o',hb',t',hs',hg⟩:=ih (by simpa using h0) w o hb hs
    refine ⟨o',hb',t',hs',fun g hg'=>?_⟩
    rcases List.mem_cons.1 hg' with rfl | hg'
    · exact ⟨f,f.trw t' _ _ (hs _ _ h.get)⟩
    · exact hg g hg'
  | f h s _ ih =>
    intro h0 w o hb hs
    obtain ⟨o1,b1,t1,s1⟩:=(s.eq ▸ Go.Abs.freeze _ h.get:Turn _ _) w o hb hs
    obtain ⟨o',hb',t',hs',hg⟩:=ih h0 w o1 b1 s1
    exact ⟨o',hb',t1.trans t',hs',hg⟩
  | fn h hn s _ ih =>
    intro h0 w o hb hs
    obtain ⟨o1,b1,t1,s1⟩:=(s.eq ▸ zcf _ h.get hn:Turn _ _) w o hb hs
    obtain ⟨o',hb',t',hs',hg⟩:=ih h0 w o1 b1 s1
    exact ⟨o',hb',t1.trans t',hs',hg⟩
  | no a _ ih =>
    intro h0 w o hb hs
    obtain ⟨o1,b1,t1,s1⟩:=nilro _ w o hb hs
    obtain ⟨o',hb',t',hs',hg⟩:=ih (by simpa using h0) w o1 b1 (a.eq.1 ▸ s1)
    refine ⟨o',hb',t1.trans t',hs',fun g hg'=>?_⟩
    rcases List.mem_cons.1 hg' with rfl | hg'
    · exact ⟨z5u,z5u.trw t' _ _ (s1 _ _ List.getElem?_concat_length)⟩
    · exact hg g hg'
  | nno a _ ih =>
    intro h0 w o hb hs
    obtain ⟨o1,b1,t1,s1⟩:=zin _ w o hb hs
    obtain ⟨o',hb',t',hs',hg⟩:=ih (by simpa using h0) w o1 b1 (a.eq.1 ▸ s1)
    refine ⟨o',hb',t1.trans t',hs',fun g hg'=>?_⟩
    rcases List.mem_cons.1 hg' with rfl | hg'
    · exact ⟨z47,z47.trw t' _ _ (s1 _ _ List.getElem?_concat_length)⟩
    · exact hg g hg'
theorem Sx.dup {H G H1:List HA} {sh:List (Nat×Nat)} (h:Sx H G sh H1) (h0:(sh.all fun s=>Nat.beq s.2 0)=true):Turn H (H1++G):=by
 intro w o hb hs
 obtain ⟨o',hb',t',hs',hg⟩:=h.free h0 w o hb hs
 refine ⟨o',hb',t',fun j g hj=>?_⟩
 by_cases hlt:j<H1.length
 ·rw [List.getElem?_append_left hlt] at hj; exact hs' j g hj
 ·rw [List.getElem?_append_right (by omega)] at hj
  obtain ⟨f,hp⟩:=hg g (List.mem_of_getElem? hj)
  exact f.at _ _ _ _ hp
inductive Ll {α:Type} (C:NC α):List Value→List (α×C.G)→List α→List HA→Prop
 | z:Ll C [] [] [] []
 | s {v:Value} {vs:List Value} {x:α} {g:C.G} {lg:List (α×C.G)} {xs:List α} {h:HA} {G:List HA} (hF:C.F x g=[v]) (hS:C.S x g=[h]) (r:Ll C vs lg xs G):Ll C (v::vs) ((x,g)::lg) (x::xs) (h::G)
theorem Ll.ok {α:Type} {C:NC α} {vs:List Value} {lg:List (α×C.G)} {xs:List α} {G:List HA} (h:Ll C vs lg xs G):xs=lg.map (·.1)∧(∀ p∈lg,∀ h∈C.S p.1 p.2,h∈G)∧(∀ w o,(∀ g∈G,g.p w o 0)→(∀ v∈vs,v.cells = #[v])∧(vs≠[]→C.es=1))∧C.cs lg=vs.map fun v=>[v]:=by
  induction h with
  | z=>exact ⟨rfl,fun p hp=>by simp at hp,fun _ _ _=>⟨fun v hv=>by simp at hv,fun h=>absurd rfl h⟩,rfl⟩
  | @s v vs x g lg xs h G hF hS _ ih =>
    obtain ⟨h1,h2,h3,h4⟩:=ih
    refine ⟨by rw [List.map_cons,← h1],fun p hp q hq=>?_,fun w o hg=>?_,?_⟩
    · rcases List.mem_cons.1 hp with rfl | hp
      · rw [hS] at hq; simp at hq; subst hq; simp
      · exact List.mem_cons_of_mem _ (h2 p hp q hq)
    · have hk:=C.ok x g w o 0 (by rw [hS]; intro q hq; simp at hq; subst hq; exact hg _ (List.mem_cons_self ..))
      rw [hF] at hk
      refine ⟨fun u hu=>?_,fun _=>by simpa using hk.1.symm⟩
      rcases List.mem_cons.1 hu with rfl | hu
      · have:=hk.2 u (by simp)
        cases u <;> simp_all [Value.oneCell',Value.cells]
      · exact (h3 w o fun g hg'=>hg g (List.mem_cons_of_mem _ hg')).1 u hu
    · simp only [NC.cs,List.map_cons] at h4 ⊢
      rw [h4,hF]
theorem zeK {H:List HA} {a b:HA}:(H++[a]).set H.length b=H++[b]:=by simp
theorem zdE (H G:List HA) (a:HA):Turn (H++G++[a]) (H++[a]):=by
 refine z41 (is:=List.range H.length++[(H++G).length]) ?_ ?_
 ·rw [List.nodup_append]
  refine ⟨List.nodup_range,by simp,fun x hx y hy=>?_⟩
  simp at hx hy; omega
 ·unfold Picks
  rw [List.map_append,List.map_append]
  congr 1
  ·apply List.ext_getElem?
   intro j
   by_cases hj:j<H.length
   ·simp [hj,List.getElem?_append_left,List.getElem?_range]
   ·simp [hj,List.getElem?_eq_none,Nat.not_lt.1 hj]
  ·simp
theorem zl1 {α:Type} {C:NC α} {lg:List (α×C.G)} {xs:List α} {G H1:List HA} {sh:List (Nat×Nat)} {P:Program} {V:VF} {H:List HA} {d n es:Nat} {ty:TypeId} {pos:String} {af:Array Edge} {gd:Option (Nat×Bool)} {T el:TypeId} {z:Value} {ps:List (Nat×Operand)} {vs:List Value}
  (hL:Ll C vs lg xs G) (hS:Sx H G sh H1) (h0:(sh.all fun s=>Nat.beq s.2 0)=true) (hu:∀ w,(underlying T).run P w = .ok (.slice el) w) (hz:∀ w,(sizeOf el).run P w = .ok es w) (hzv:∀ w,(zeroValue el).run P w = .ok z w) (he:C.es=es)
  (hp:Pz V ps 0 vs) (hn:vs.length=n) (hb1:n*es≤2 ^ 24) (hb2:n≤2 ^ 24) (hne:vs≠[]):OpT P ⟨some d,.buildSlice T n ps.toArray,ty,pos,af,gd⟩ V H (fun v' H'=>H'=H1++[nrow v' C xs]):=by
 subst he
 intro ρ w o hf hbd hs
 obtain ⟨k1,k2,k3,k4⟩:=hL.ok
 obtain ⟨o',hb',t',hs'⟩:=hS.dup h0 w o hbd hs
 have hG:∀ g∈G,g.p w o' 0:=by
  obtain ⟨o2,_,_,hs2,_⟩:=hS.free h0 w o hbd hs
  intro g hg
  obtain ⟨j,hj⟩:=List.mem_iff_getElem?.1 hg
  have hfr:Free g:=(hS.free h0 w o hbd hs).choose_spec.2.2.2 g hg |>.1
  exact hfr.at _ _ _ _ (hs' (H1.length+j) g (by rw [List.getElem?_append_right (by omega)]; simpa using hj))
 obtain ⟨hc,hes⟩:=k3 w o' hG
 have hcl:vs.map (fun v=>v.cells.toList)=vs.map fun v=>[v]:=List.map_congr_left fun v hv=>by rw [hc v hv]
 have h:=t_lit (P:=P) (d:=some d) (ty:=ty) (pos:=pos) (af:=af) (g:=gd) (V:=V) (H:=H1++G) vs hu hz hzv hp.eq hb1 hb2 hn (fun v hv=>by rw [hc v hv,hes hne]; rfl) ρ w o' hf hb' hs'
 refine h.imp ?_
 rintro v' w' ⟨H',o2,⟨rfl,_⟩,b2,t2,s2⟩
 rw [hcl,← k4] at s2
 have hlen:(H1++G++[row v' C.es (C.cs lg)])[(H1++G).length]? = some (row v' C.es (C.cs lg)):=List.getElem?_concat_length
 obtain ⟨o3,b3,t3,s3⟩:=(zat (C:=C) (l:=xs) (H1++G).length lg hlen rfl k1 (fun p hp q hq=>by
  obtain ⟨j,hj⟩:=List.mem_iff_getElem?.1 (k2 p hp q hq)
  exact .inr ⟨H1.length+j,by
   have hjl:=(List.getElem?_eq_some_iff.1 hj).1
   rw [List.append_assoc,List.getElem?_append_right (by omega),List.getElem?_append_left (by omega)]; simpa using hj⟩)) w' o2 b2 s2
 rw [zeK] at s3
 obtain ⟨o4,b4,t4,s4⟩:=zdE H1 G (nrow v' C xs) w' o3 b3 s3
 exact ⟨_,o4,rfl,b4,(t'.trans t2).trans (t3.trans t4),s4⟩
section
variable {R : Type} {gg : Hn} {X : Option R} {r : R} {E : Env} {k : List KI} {L : List (Nat × Value)} {H H1 : List HA} {ops : Array Oper} {rest : List Oper} {m m' : Md}
theorem zjP {α:Type} {C:NC α} {lg:List (α×C.G)} {xs:List α} {G:List HA} {sh:List (Nat×Nat)} {d n es:Nat} {ty:TypeId} {pos:String} {af:Array Edge} {gd:Option (Nat×Bool)} {T el:TypeId} {z:Value} {ps:List (Nat×Operand)} {vs:List Value}
  (ht:Etn el α C) (hn2:Nt m m') (hk:∀ v',DM m' rest X gg r E ops k ((d,v')::L) (H1++[nrow v' C xs])) (hu:∀ w,(underlying T).run E.P w = .ok (.slice el) w) (hz:∀ w,(sizeOf el).run E.P w = .ok es w) (h0:∀ w,(zeroValue el).run E.P w = .ok z w)
  (hp:Pz (VF.of L) ps 0 vs) (hL:Ll C vs lg xs G) (hS:Sx H G sh H1) (hsh:(sh.all fun s=>Nat.beq s.2 0)=true) (he:C.es=es) (hn:vs.length=n) (hb:(Nat.ble (n*es) (2 ^ 24) && Nat.ble n (2 ^ 24))=true) (hne:vs.isEmpty=false)
  (hw:Wants E.n ops (VF.of L) ⟨some d,.buildSlice T n ps.toArray,ty,pos,af,gd⟩) (hd:inB E.n (some d)=true):DO m (⟨some d,.buildSlice T n ps.toArray,ty,pos,af,gd⟩::rest) X gg r E ops k L H:=⟨fun hX=>by
 simp only [Bool.and_eq_true] at hb
 refine wk_t hn2 hw hd (zl1 hL hS hsh hu hz h0 he hp hn (Nat.le_of_ble_eq_true hb.1) (Nat.le_of_ble_eq_true hb.2) (by rintro rfl; simp at hne)) ?_
 rintro v' _ rfl
 exact (hk v').out hX⟩
end
section
variable {R : Type} {gg : Hn} {X : Option R} {r : R} {E : Env} {k : List KI} {L : List (Nat × Value)} {H : List HA} {ops : Array Oper} {rest : List Oper} {m m' : Md} {ty : TypeId} {pos : String} {af : Array Edge} {gd : Option (Nat × Bool)}
instance:Dc eB8 [.int .u8 0] (0:UInt8):=⟨rfl⟩
theorem dc_b0 {v:Value} (h:v = .int .u8 0):Dc eB8 [v] (0:UInt8):=⟨by rw [h]; rfl⟩
theorem zjN {α:Type} {F:α→List Value} {a:α} {d:Nat} {T T2 el:TypeId} {kd:IntKind} {x y:Operand} {z z0:Value} {ti:TypeInfo} {n:Int} (hn2:Nt m m')
  (hk:0≤n∧n≤4294967296→∀ v',DM m' rest X gg r E ops k ((d,v')::L) (H++[row v' 1 ((List.replicate n.toNat a).map F)])) (hx:(VF.of L).ev x=some (.slice none 0 0)) (hy:(VF.of L).ev y=some (.int .i64 n))
  (hu:∀ w,(underlying T).run E.P w = .ok (.slice el) w) (hu2:∀ w,(underlying T2).run E.P w = .ok (.int kd) w) (hti:∀ w,(typeInfo el).run E.P w = .ok ti w) (hes:ti.size=1) (hby:ti.bytes=1) (h0:∀ w,(zeroValue el).run E.P w = .ok z w) (hz:Nl z.cells.toList [z0])
  (ht:Et el α F) (hD:Dc F [z0] a)
  (hw:Wants E.n ops (VF.of L) ⟨some d,.call ⟨.builtin .append,#[x,y],#[T,T2]⟩,ty,pos,af,gd⟩) (hd:inB E.n (some d)=true):DO m (⟨some d,.call ⟨.builtin .append,#[x,y],#[T,T2]⟩,ty,pos,af,gd⟩::rest) (need (0≤n∧n≤4294967296) X) gg r E ops k L H:=⟨fun hX=>by
 obtain ⟨hn,hX⟩:=z39 hX
 refine wk_t hn2 hw hd (zlv rfl hu rfl hu2 hti hes hby h0 (by rw [← Array.toArray_toList (xs:=z.cells),hz.eq]) hx hy hn.1 hn.2) ?_
 rintro v' _ rfl
 have:=(hk hn v').out hX
 rw [List.map_replicate,← hD.e] at this
 exact this⟩
theorem zhI {d:Option Nat} {x:Operand} {T:TypeId} {u:Value} (hx:(VF.of L).ev x=some (.iface T u)) (h:DP X r E L H (.iface T u)) (hw:Wants E.n ops (VF.of L) ⟨d,.panic x,ty,pos,af,gd⟩):DO .o (⟨d,.panic x,ty,pos,af,gd⟩::rest) X gg r E ops k L H:=
 ⟨fun hX=>zfY _ hw (ziq hx) (h.out hX)⟩
end
theorem zk8 {R:Type} {r:R} {E:Env} {L:List (Nat×Value)} {H:List HA} {v:Value}:DP none r E L H v:=⟨fun hx=>by cases hx⟩
theorem zoc {P:Program} {V:VF} {H:List HA} {d:Option Nat} {ty:TypeId} {pos:String} {af:Array Edge} {g:Option (Nat×Bool)} {T el:TypeId} {x:Operand} (hx:V.ev x=some (.slice none 0 0)) (hu:∀ w,(underlying T).run P w = .ok (.slice el) w):OpY P ⟨d,.call ⟨.builtin .cap,#[x],#[T]⟩,ty,pos,af,g⟩ V H (.int .i64 0):=zgp rfl hu hx
end Go.Abs
namespace Go.Abs
class Nzn {β:Type} (C:NC β) (z0:outParam β) (g0:outParam C.G):Prop where
 h:∀ h∈C.S z0 g0,∀ w o k,h.p w o k
class Mn (kt el:TypeId) (κ β:outParam Type) (ds:outParam TypeDesc) (K:outParam (κ→Value)) (C:outParam (NC β)):Prop where
 t:True
class Ri (H:List HA) (v:Value) (a:outParam (List Int)):Prop where
 h:(∀ w o k,(ro v 1 (a.map (eInt .i64))).p w o k)∨∃ j:Nat,H[j]? = some (ro v 1 (a.map (eInt .i64)))
instance (priority:=low) {H:List HA} {h:HA} {v:Value} {a:List Int} [c:Ri H v a]:Ri (h::H) v a:=⟨c.h.imp id fun ⟨j,hj⟩=>⟨j+1,hj⟩⟩
instance {H:List HA} {v:Value} {a:List Int}:Ri (ro v 1 (a.map (eInt .i64))::H) v a:=⟨.inr ⟨0,rfl⟩⟩
instance (priority:=high) {H:List HA}:Ri H (.slice none 0 0) []:=⟨.inl z8F⟩
class Nf {β:Type} (C:NC β) (u:Value) (H:List HA) (v:outParam β) (gv:outParam C.G):Prop where
 e:u = .agg (C.F v gv).toArray
 h:Has H (C.S v gv)
theorem zi9 {H L:List HA} {v:Value} {a:List Int} (c:Ri H v a) (h:Has H L):Has H (ro v 1 (a.map (eInt .i64))::L):=fun x hx=>by
 rcases List.mem_cons.1 hx with rfl | hx
 ·exact c.h
 ·exact h x hx
section
variable {R : Type} {g : Hn} {X : Option R} {r : R} {E : Env} {k : List KI} {L L' : List (Nat × Value)} {H H' H1 : List HA} {ops : Array Oper} {rest l : List Oper} {m m' : Md} {Hg : List HA}
variable {d : Nat} {ty : TypeId} {pos : String} {af : Array Edge} {gd : Option (Nat × Bool)} {T kt el : TypeId} {x y z : Operand} {u u2 zv : Value} {b i : Nat} {ds : TypeDesc}
variable {κ β : Type} {K : κ → Value} {C : NC β} {z0 : β} {g0 : C.G} {lm : List (κ × β)} {kk : κ} {vv : β} {gv : C.G}
theorem zcQ (hk:∀ b,DM .o rest X g r E ops k ((d,mapV b)::L) (H++[nmap b K C []])) (hT:∀ w,(underlying T).run E.P w = .ok (.map kt el) w) (ht:Mn kt el κ β ds K C) (dk:DecidableEq κ)
  (hw:Wants E.n ops (VF.of L) ⟨some d,.makeMap T none,ty,pos,af,gd⟩) (hd:inB E.n (some d)=true):DO .o (⟨some d,.makeMap T none,ty,pos,af,gd⟩::rest) X g r E ops k L H:=
 ⟨fun hX=>wk_t .o hw hd zcC (by
  rintro _ _ ⟨b,rfl,rfl⟩
  refine zaO (zf3 (r:=b) (K:=K) (C:=C) H.length (by simp)) ?_
  rw [show (H++[mapis b []]).set H.length (nmap b K C [])=H++[nmap b K C []] by simp]
  exact (hk b).out hX)⟩
theorem zjY (hb:Sb .o H') (hk:DO .o rest X g r E ops k L H') (hx:(VF.of L).ev x=some (mapV b)) (hm:At H i (nmap b K C lm)) (hy:(VF.of L).ev y=some u) (hz:(VF.of L).ev z=some u2) (hK:Dk K u kk) (hG:Nf C u2 H vv gv) {dk:DecidableEq κ} (hKd : @KeyOk κ dk ds K)
  (hS:St H i (nmap b K C (mput lm kk vv)) H') (hT:∀ w,(underlying T).run E.P w = .ok (.map kt el) w) (hkt:∀ w,(underlying kt).run E.P w = .ok ds w)
  (hw:Wants E.n ops (VF.of L) ⟨none,.mapUpdate T x y z,ty,pos,af,gd⟩):DO .o (⟨none,.mapUpdate T x y z,ty,pos,af,gd⟩::rest) X g r E ops k L H:=
 ⟨fun hX=>wk_t .o hw rfl (zlx (C:=C) gv i hKd hT hkt hx (hK.e ▸ hy) (hG.e ▸ hz) hm.get hG.h false) (by rintro _ _ ⟨rfl,rfl⟩; rw [hS.eq]; exact wd hb (hk.out hX))⟩
theorem zjV (hb:Sb .o H') (hk:DO .o rest X g r E ops k L H') (hx:(VF.of L).ev x=some (mapV b)) (hm:At H i (nmap b K C lm)) (hy:(VF.of L).ev y=some u) (hz:(VF.of L).ev z=some u2) (hK:Dk K u kk) (hG:Nf C u2 H vv gv) {dk:DecidableEq κ} (hKd : @KeyOk κ dk ds K)
  (hS:St H i (nmap b K C (mput lm kk vv)) H') (hT:∀ w,(underlying T).run E.P w = .ok (.map kt el) w) (hkt:∀ w,(underlying kt).run E.P w = .ok ds w)
  (hw:Wants E.n ops (VF.of L) ⟨none,.insert T x y z,ty,pos,af,gd⟩):DO .o (⟨none,.insert T x y z,ty,pos,af,gd⟩::rest) X g r E ops k L H:=
 ⟨fun hX=>wk_t .o hw rfl (zlx (C:=C) gv i hKd hT hkt hx (hK.e ▸ hy) (hG.e ▸ hz) hm.get hG.h true) (by rintro _ _ ⟨rfl,rfl⟩; rw [hS.eq]; exact wd hb (hk.out hX))⟩
theorem zjW (hx:(VF.of L).ev x=some (mapV b)) (hm:At H i (nmap b K C lm)) (hy:(VF.of L).ev y=some u) (hK:Dk K u kk) {dk:DecidableEq κ} (hKd : @KeyOk κ dk ds K) (hT:∀ w,(underlying T).run E.P w = .ok (.map kt el) w) (hkt:∀ w,(underlying kt).run E.P w = .ok ds w)
  (hz:Nzn C z0 g0) (h0:∀ w,(zeroValue el).run E.P w = .ok zv w) (hzv:zv=C.agg (z0,g0))
  (hw:Wants E.n ops (VF.of L) ⟨some d,.lookup T x y true,ty,pos,af,gd⟩) (hd:inB E.n (some d)=true)
  (hk:Al fun gg:C.G=>DQ rest X g r E ops k ((d,.tuple #[.agg (C.F ((mget lm kk).getD z0) gg).toArray,.bool (mget lm kk).isSome])::L) (H++C.S ((mget lm kk).getD z0) gg)):DO .o (⟨some d,.lookup T x y true,ty,pos,af,gd⟩::rest) X g r E ops k L H:=
 ⟨fun hX=>wk_t .o hw hd (zeZ (C:=C) (k:=kk) (z0:=z0) (g0:=g0) i hKd hT hkt (hzv ▸ h0) hz.h hx (hK.e ▸ hy) hm.get rfl) (by rintro _ _ ⟨gg,rfl,rfl⟩; exact (hk.out gg).out hX)⟩
theorem zmV (hx:(VF.of L).ev x=some (mapV b)) (hm:At H i (nmap b K C lm)) (hy:(VF.of L).ev y=some u) (hK:Dk K u kk) {dk:DecidableEq κ} (hKd : @KeyOk κ dk ds K) (hT:∀ w,(underlying T).run E.P w = .ok (.map kt el) w) (hkt:∀ w,(underlying kt).run E.P w = .ok ds w)
  (hz:Nzn C z0 g0) (h0:∀ w,(zeroValue el).run E.P w = .ok zv w) (hzv:zv=C.agg (z0,g0))
  (hw:Wants E.n ops (VF.of L) ⟨some d,.lookup T x y false,ty,pos,af,gd⟩) (hd:inB E.n (some d)=true)
  (hk:Al fun gg:C.G=>DQ rest X g r E ops k ((d,.agg (C.F ((mget lm kk).getD z0) gg).toArray)::L) (H++C.S ((mget lm kk).getD z0) gg)):DO .o (⟨some d,.lookup T x y false,ty,pos,af,gd⟩::rest) X g r E ops k L H:=
 ⟨fun hX=>wk_t .o hw hd (zgg (C:=C) (k:=kk) (z0:=z0) (g0:=g0) i hKd hT hkt (hzv ▸ h0) hz.h hx (hK.e ▸ hy) hm.get rfl) (by rintro _ _ ⟨gg,rfl,rfl⟩; exact (hk.out gg).out hX)⟩
end
def spl (z:List Value) (off:Nat) (c:List Value):List Value:=z.take off++(c++z.drop (off+c.length))
def fillL (pl:List (Nat×Nat)):List Value→List (Nat×List Value)→List Value
 | z,[]=>z
 | z,(i,c)::r=>fillL pl (spl z ((pl[i]?).getD (0,0)).1 c) r
def okL (pl:List (Nat×Nat)) (n:Nat) (cs:List (Nat×Nat)):Bool:=cs.all fun p=>match pl[p.1]? with
 | some q=>Nat.beq p.2 q.2 && Nat.ble (q.1+p.2) n
 | none=>false
theorem zd7 (z:List Value) (off:Nat) (c:List Value) (h:off+c.length≤z.length):z4R z.toArray off c=(spl z off c).toArray:=by
 apply Array.ext'
 apply List.ext_getElem?
 intro m
 have hsz:(z4R z.toArray off c).size=z.length:=by rw [z3M]; simp
 have:=z4S c z.toArray off m (by simpa using h)
 rw [Array.getElem?_toList,this]
 unfold spl
 simp only [List.getElem?_append,List.length_take,List.getElem?_take,List.getElem?_drop,List.getElem?_toArray]
 rw [Nat.min_eq_left (by omega)]
 by_cases h1:off≤m∧m<off+c.length
 ·rw [if_pos h1,if_neg (by omega),if_pos (by omega)]
 ·rw [if_neg h1]
  by_cases h2:m<off
  ·rw [if_pos h2,if_pos h2]
  ·rw [if_neg h2,if_neg (by omega)]
   congr 1; omega
theorem zeN (z:List Value) (off:Nat) (c:List Value) (h:off+c.length≤z.length):(spl z off c).length=z.length:=by
 unfold spl; simp; omega
theorem zdK (pl:List (Nat×Nat)):∀ (cs:List (Nat×List Value)) (z:List Value),okL pl z.length (cs.map fun p=>(p.1,p.2.length))=true→fillC (fun i=>pl.toArray[i]?) z.toArray cs=some (fillL pl z cs).toArray
  | [],z,_=>rfl
  | (i, c) :: r, z, h => by
    unfold okL at h
    rw [List.map_cons,List.all_cons,Bool.and_eq_true] at h
    unfold fillC fillL
    simp only [List.getElem?_toArray]
    cases hp:pl[i]? with
    | none=>simp [hp] at h
    | some q =>
      obtain ⟨off,size⟩:=q
      simp only [hp,Bool.and_eq_true] at h
      have h1:=Nat.eq_of_beq_eq_true h.1.1
      have h2:=Nat.le_of_ble_eq_true h.1.2
      simp only [Option.getD_some]
      rw [if_neg (by simp; omega),zd7 z off c h2]
      have:=zdK pl r (spl z off c) (by unfold okL; rw [zeN z off c h2]; exact h.2)
      simp only [List.getElem?_toArray] at this
      exact this
theorem y_bs2 {P:Program} {V:VF} {H:List HA} {d:Option Nat} {ty:TypeId} {pos:String} {af:Array Edge} {g:Option (Nat×Bool)} {T:TypeId} {parts:List (Nat×Operand)} {z:Value} {fl:List Field} {pl:List (Nat×Nat)} {cs:List (Nat×List Value)} {l:List Value} (h0:∀ w,(zeroValue T).run P w = .ok z w)
  (hu:∀ w,(underlying T).run P w = .ok (.struct fl.toArray) w) (hF:zFs P fl pl) (hp:Pc V H parts cs) (hc:okL pl z.cells.toList.length (cs.map fun p=>(p.1,p.2.length))=true) (hl:Nl (fillL pl z.cells.toList cs) l):OpY P ⟨d,.build T parts.toArray,ty,pos,af,g⟩ V H (.agg l.toArray):=by
 intro ρ w o hf hb hs
 obtain ⟨vs,h1,h2⟩:=hp.ex hs
 have hc:=zdK pl cs z.cells.toList hc
 rw [Array.toArray_toList] at hc
 have h:=z8P (V:=V) (H:=H) (d:=d) (ty:=ty) (pos:=pos) (af:=af) (g:=g) vs cs h0 hu hF (parts:=parts.toArray) (by simpa using h1) h2 hc ρ w o hf hb hs
 rw [← hl.eq]
 exact h
end Go.Abs
namespace Go.Abs
variable {E : Env} {k : List KI} {V : VF} {H : List HA}
def YG (P:Program) (l:Nat) (args:List Value) (A:HA) (Fs:List HA) (A' : HA):Prop:=
  ∀ w o k, Bnd w o → A.p w o k → HsP Fs w o k → ∃ f tmps assign body, (Instr.yield l args.toArray).run P w = .ok (.round l f tmps assign body) w ∧
    RoundIn (FR none) 0 P l f tmps assign body w (fun e w''=>e = .returned (.bool true)∧∃ o',Bnd w'' o'∧TrK w o k w'' o'∧A'.p w'' o' k)
def Inr (l:Nat) (w:World) (o:Own):Prop:=o l = .far∧l<w.heap.size∧∃ r,w.heap[l]? = some (.loop r)
theorem ziI {P:Program} {d:Option Nat} {ty:TypeId} {pos:String} {af:Array Edge} {g:Option (Nat×Bool)} {fx:Operand} {xs:Array Operand} {Ts:Array TypeId} {vs:List Value} {A A' : HA} {Fs:List HA} {l:Nat}
    (m:Nat) (hfx:V.ev fx=some (.func (.yield l) #[] #[])) (hxs:xs.toList.map V.ev=vs.map some) (hm:H[m]? = some A) (hF:∀ h∈Fs,Free h) (hh:Has H Fs) (hy:YG P l vs A Fs A') :
    OpR P ⟨d,.call ⟨.value fx,xs,Ts⟩,ty,pos,af,g⟩ V H (fun v' H'=>v' = .bool true∧H'=H.set m A'):=by
  refine ⟨fun c h=>by simp at h,fun ρ w o hf hb hs=>?_⟩
  have hargs:(xs.map ρ)=vs.toArray:=by
    apply Array.ext'
    rw [Array.toList_map]
    generalize xs.toList=l at hxs
    clear hy
    induction l generalizing vs with
    | nil=>cases vs <;> simp_all
    | cons x r ih =>
      cases vs with
      | nil=>simp at hxs
      | cons v vs =>
        simp only [List.map_cons,List.cons.injEq] at hxs ⊢
        exact ⟨hf _ _ hxs.1,ih hxs.2⟩
  obtain ⟨f,tmps,assign,body,e,hr⟩:=hy w o m hb (hs m A hm) (hh.sat hF hs m)
  refine ⟨l,f,tmps,assign,body,?_,hr.mono ?_⟩
  · simp [execOp,resolve,invoke,Deferred.ofValue,hf fx _ hfx,hargs]
    exact e
  · rintro e w'' ⟨rfl,o',hb',ht,ha⟩
    refine ⟨_,rfl,H.set m A',o',⟨rfl,rfl⟩,hb',ht.1,?_⟩
    intro j h hj
    by_cases hjm:m=j
    · subst hjm
      rw [List.getElem?_set] at hj
      simp at hj
      obtain ⟨_,rfl⟩:=hj
      exact ha
    · rw [List.getElem?_set_ne hjm] at hj
      exact h.keep ht.1.size (fun b hlt ho=>ht.2 b j hlt (Ne.symm hjm) ho) (fun b hlt ho=>ht.1.no b hlt ho) (hs j h hj)
theorem zbM {S X G:Type} {P:Program} {n l:Nat} {fn:FuncId} {tmps:Array Value} {ps:Array Tmp} {assign body:Code} {D:Nat} {Hs:S→G→List HA} {step:S→X→Option S} {Fs:X→List HA}
    (enc:X→List Value) (V0:X→VF) (hsz:tmps.size=n) (hps:∀ x,(enc x).length=ps.size) (hF:∀ x,∀ h∈Fs x,Free h)
    (hV0:∀ x,Agree (V0 x) { tmps:=(ps.zip (enc x).toArray).foldl (fun tmps (t,a)=>tmps.setIfInBounds t a) tmps,defers:=[] })
    (hround:∀ s x s',step s x=some s'→∀ g w0 o0 (L:Act→World→Prop),Inr l w0 o0→
      (∀ V1 H1,(∀ w1 o1,Inr l w1 o1→Run (EnvR P n w1 o1 l (Hs s') none []) body [] V1 H1)→∀ a w,Rel (EnvA P n w0 o0 l) V1 H1 a w→L a w)→Run (EnvA P n w0 o0 l) assign [.loop L] (V0 x) (Hs s g++Fs x))
    (s:S) (x:X) (s' : S) (hst:step s x=some s'):YG P l (enc x) (zbK l (recOf fn tmps ps assign body D .ready none) (Hs s)) (Fs x) (zbK l (recOf fn tmps ps assign body D .ready none) (Hs s')):=by
  rintro w o k hb ⟨g,o',hb',hS,hm,hn⟩ hfs
  obtain ⟨hl1,hl2,hl3⟩:=hS 0 _ rfl
  refine ⟨fn,_,assign,body,run_yield hl3 (by simp [recOf,hps]),roundIn_of_wpIn (F:=FR none) trivial ?_⟩
  obtain ⟨od,hod⟩ : ∃ od:Own,(fun b=>match o b with | .no=>.no | _=>downO o' b)=od:=⟨_,rfl⟩
  have odn:∀ b,o b = .no→od b = .no:=fun b h=>by rw [← hod]; simp [h]
  have odd:∀ b,o b≠.no→od b=downO o' b:=fun b h=>by
    rw [← hod]
    cases h0:o b <;> simp [h0] at h ⊢
  have odl:od l = .far:=by
    rw [odd l (by rw [(hm l 0 hl1).1]; simp)]; simp [downO,hl1]
  have hodn:∀ b,b<w.heap.size→od b = .no→o b = .no:=fun b hlt h=>by
    cases h0:o b with
    | no=>rfl
    | far => rw [odd b (by simp [h0])] at h; exact h0 ▸ hn b hlt (by cases h1 : o' b with
      | no=>rfl
      | far=>simp [downO,h1] at h
      | mine j=>cases j <;> simp [downO,h1] at h)
    | mine q => rw [odd b (by simp [h0])] at h; exact h0 ▸ hn b hlt (by cases h1 : o' b with
      | no=>rfl
      | far=>simp [downO,h1] at h
      | mine j=>cases j <;> simp [downO,h1] at h)
  have hszf:∀ (ts:List (Tmp×Value)) (t0:Array Value),(ts.foldl (fun tmps (t,a)=>tmps.setIfInBounds t a) t0).size=t0.size:=by
    intro ts
    induction ts with
    | nil=>intro t0; rfl
    | cons p r ih=>intro t0; rw [List.foldl_cons,ih]; simp
  refine hround s x s' hst g w od _ ⟨odl,hl2,_,hl3⟩ ?_ _ w ⟨?_,fun _=>rfl,hV0 x,od,?_,TrD.of ⟨Tr.refl _ _,z8u.nil _ _ _⟩ rfl,?_⟩
  · -- the body
    rintro V1 H1 hbody a1 w1 ⟨hz1,hd1,ha1,o1,hb1,ht1,hs1⟩
    have hd1:a1.defers=[]:=hd1 rfl
    have ht1:Tr w od w1 o1:=ht1.tr
    obtain ⟨hf1,hh1⟩:=ht1.far l hl2 odl
    have hl1' : w1.heap[l]? = some (.loop (recOf fn tmps ps assign body D .ready none)):=hh1.trans hl3
    have hlt1:l<w1.heap.size:=Nat.lt_of_lt_of_le hl2 ht1.size
    refine ⟨_,run_beginRound hl1' rfl,?_⟩
    obtain ⟨w2,hw2⟩ : ∃ w2,w1.putObj l (.loop { recOf fn tmps ps assign body D .ready none with state:=.busy })=w2:=⟨_,rfl⟩
    rw [hw2]
    have hsz2:w2.heap.size=w1.heap.size:=by rw [← hw2]; exact World.putObj_size
    have hl2' : w2.heap[l]? = some (.loop { recOf fn tmps ps assign body D .ready none with state:=.busy }):=by rw [← hw2]; exact World.putObj_heap_same hlt1
    have hot2:∀ b,b≠l→w2.heap[b]? = w1.heap[b]?:=fun b hb=>by rw [← hw2]; exact World.putObj_heap_other hb
    refine wpIn_mono (hbody w2 o1 ⟨hf1,by omega,_,hl2'⟩ a1 w2 ⟨hz1,fun _=>hd1,ha1,o1,fun b hb=>hb1 b (by omega),TrD.of ⟨Tr.refl _ _,by rw [hd1]; exact z8u.nil _ _ _⟩ rfl,?_⟩) ?_
    · intro j h hj
      exact h.keep (Nat.le_of_eq hsz2.symm) (fun b _ ho=>⟨ho,hot2 b (by rintro rfl; rw [hf1] at ho; cases ho)⟩) (fun b _ ho=>⟨ho,hot2 b (by rintro rfl; rw [hf1] at ho; cases ho)⟩) (hs1 j h hj)
    · rintro e a3 w3 ⟨hok,g',o3,hb3,ht3,hs3⟩
      obtain ⟨hf3,hh3⟩:=ht3.far l (by omega) hf1
      have hl3' : w3.heap[l]? = some (.loop { recOf fn tmps ps assign body D .ready none with state:=.busy }):=hh3.trans hl2'
      have hlt3:l<w3.heap.size:=Nat.lt_of_lt_of_le (by omega) ht3.size
      -- what lay apart from the round
      have apart:∀ b,b<w.heap.size→isK k (o b)=false→b≠l∧(o3 b = .no→o b = .no)∧(o3 b = .no∨o3 b = .far)∧w3.heap[b]? = w.heap[b]?:=by
        intro b hlt hk
        have hne:∀ i,o' b≠.mine i:=fun i hi=>by
          have:=(hm b i hi).1
          rw [this] at hk; simp [isK] at hk
        have hbl:b≠l:=by rintro rfl; exact hne 0 hl1
        have hod2:od b = .no∨od b = .far:=by
          rw [← hod]
          cases h0:o b with
          | no=>exact .inl (by simp [h0])
          | far => cases ho : o' b with
            | mine i=>exact absurd ho (hne i)
            | no=>exact .inl (by simp [h0,downO,ho])
            | far=>exact .inr (by simp [h0,downO,ho])
          | mine q => cases ho : o' b with
            | mine i=>exact absurd ho (hne i)
            | no=>exact .inl (by simp [h0,downO,ho])
            | far=>exact .inr (by simp [h0,downO,ho])
        rcases hod2 with ho | ho
        · obtain ⟨e1,e2⟩:=ht1.no b hlt ho
          obtain ⟨e3,e4⟩:=ht3.no b (by have:=ht1.size; omega) e1
          exact ⟨hbl,fun _=>hodn b hlt ho,.inl e3,e4.trans ((hot2 b hbl).trans e2)⟩
        · obtain ⟨e1,e2⟩:=ht1.far b hlt ho
          obtain ⟨e3,e4⟩:=ht3.far b (by have:=ht1.size; omega) e1
          exact ⟨hbl,(fun h=>by rw [e3] at h; cases h),.inr e3,e4.trans ((hot2 b hbl).trans e2)⟩
      have fin:∀ (jump:Option Code) (st:LoopState),(∃ o2,Bnd (w3.putObj l (.loop (recOf fn tmps ps assign body D st jump))) o2∧TrK w o k (w3.putObj l (.loop (recOf fn tmps ps assign body D st jump))) o2∧
          (zbK l (recOf fn tmps ps assign body D st jump) (Hs s')).p (w3.putObj l (.loop (recOf fn tmps ps assign body D st jump))) o2 k):=by
        intro jump st
        obtain ⟨w4,hw4⟩ : ∃ w4,w3.putObj l (.loop (recOf fn tmps ps assign body D st jump))=w4:=⟨_,rfl⟩
        rw [hw4]
        have hsz4:w4.heap.size=w3.heap.size:=by rw [← hw4]; exact World.putObj_size
        have hl4:w4.heap[l]? = some (.loop (recOf fn tmps ps assign body D st jump)):=by rw [← hw4]; exact World.putObj_heap_same hlt3
        have hot4:∀ b,b≠l→w4.heap[b]? = w3.heap[b]?:=fun b hb=>by rw [← hw4]; exact World.putObj_heap_other hb
        have hsz:w.heap.size≤w4.heap.size:=by have:=ht1.size; have:=ht3.size; omega
        have hkeep:∀ b,b<w.heap.size→isK k (o b)=false→backO l k w.heap.size o o3 b=o b∧w4.heap[b]? = w.heap[b]?:=by
          intro b hlt hk
          obtain ⟨h1,_,_,h4⟩:=apart b hlt hk
          exact ⟨by simp [backO,h1,hlt,hk],(hot4 b h1).trans h4⟩
        refine ⟨backO l k w.heap.size o o3,?_,⟨⟨?_,?_,?_,hsz,?_,?_⟩,?_⟩,g',upO l o3,?_,?_,?_,?_⟩
        · intro b hb
          have h1:b≠l:=by omega
          have h2:¬ (b<w.heap.size):=by omega
          simp [backO,h1,h2,hb3 b (by omega)]
        · rw [← hw4]; exact ht3.os.trans (by rw [← hw2]; exact ht1.os)
        · rw [← hw4]; exact ht3.tape.trans (by rw [← hw2]; exact ht1.tape)
        · rw [← hw4]; exact ht3.output.trans (by rw [← hw2]; exact ht1.output)
        · intro b hlt ho
          obtain ⟨e1,e2⟩:=hkeep b hlt (by simp [isK,ho])
          exact ⟨e1.trans ho,e2⟩
        · intro b hlt ho
          obtain ⟨e1,e2⟩:=hkeep b hlt (by simp [isK,ho])
          exact ⟨e1.trans ho,e2⟩
        · intro b i hlt hi ho
          obtain ⟨e1,e2⟩:=hkeep b hlt (by simp [isK,ho,hi])
          exact ⟨e1.trans ho,e2⟩
        · intro b hb
          have h1:b≠l:=by omega
          simp [upO,h1,hb3 b (by omega)]
        · intro i h hi
          cases i with
          | zero=>simp at hi; subst hi; exact ⟨by simp [upO],by omega,hl4⟩
          | succ i =>
            refine h.keep (Nat.le_of_eq hsz4.symm) (fun b _ ho=>?_) (fun b _ ho=>?_) (hs3 i h (by simpa using hi))
            · have hbl:b≠l:=by rintro rfl; rw [hf3] at ho; cases ho
              exact ⟨by simp [upO,hbl,ho],hot4 b hbl⟩
            · have hbl:b≠l:=by rintro rfl; rw [hf3] at ho; cases ho
              exact ⟨by simp [upO,hbl,ho],hot4 b hbl⟩
        · intro b i ho
          by_cases hbl:b=l
          · subst hbl; exact ⟨by simp [backO],by omega⟩
          · simp only [upO,hbl,if_false] at ho
            cases h3:o3 b with
            | no=>simp [h3] at ho
            | far=>simp [h3] at ho
            | mine q =>
              have hb:b<w3.heap.size:=by
                apply Nat.lt_of_not_le
                intro hle
                rw [hb3 b hle] at h3; cases h3
              refine ⟨?_,by omega⟩
              have:¬ (b<w.heap.size∧isK k (o b)=false):=fun ⟨h1,h2⟩=>by
                obtain ⟨_,_,e2,_⟩:=apart b h1 h2
                rw [h3] at e2
                rcases e2 with e2 | e2 <;> cases e2
              simp [backO,hbl,this,h3]
        · intro b hlt ho
          by_cases hbl:b=l
          · subst hbl; simp [upO] at ho
          · simp only [upO,hbl,if_false] at ho
            have h3:o3 b = .no:=by
              cases h3:o3 b with
              | no=>rfl
              | far=>simp [h3] at ho
              | mine q=>simp [h3] at ho
            by_cases hc:b<w.heap.size∧isK k (o b)=false
            · obtain ⟨_,e1,_,_⟩:=apart b hc.1 hc.2
              unfold backO
              rw [if_neg hbl,if_pos hc]
              exact e1 h3
            · unfold backO
              rw [if_neg hbl,if_neg hc,h3]
      cases e with
      | normal=>obtain ⟨o2,f1,f2,f3⟩:=fin none .ready; exact ⟨_,_,run_endRound none hl3',rfl,o2,f1,f2,f3⟩
      | ret=>exact hok.elim
      | exit id=>exact hok.elim
      | goto t=>exact hok.elim
      | panic c=>exact hok.elim
      | outgrown=>exact hok.elim
  · rw [← Array.foldl_toList]; exact (hszf _ _).trans hsz
  · intro b hb2; exact odn b (hb b hb2)
  · intro i h hi
    rw [List.getElem?_append] at hi
    split at hi
    · refine h.keep (Nat.le_refl _) (fun b _ ho=>⟨?_,rfl⟩) (fun b hlt ho=>⟨odn b (hn b hlt ho),rfl⟩) (hS (i+1) h (by simpa using hi))
      rw [odd b (by rw [(hm b _ ho).1]; simp)]; simp [downO,ho]
    · exact hF x h (List.mem_of_getElem? hi) w o od k i (fun b _ h=>odn b h) (hfs h (List.mem_of_getElem? hi))
theorem z8L {S X G:Type} {gx:Operand} {gf:FuncId} {caps:List Value} {ps:List Tmp} {assign body:Code} {Hs:S→G→List HA} {step:S→X→Option S} {Fs:X→List HA} (enc:X→List Value)
    (s0:S) (g0:G) (is:List Nat) (sh:List (Nat×Nat)) {Hc Gr:List HA} {Q:S→Prop}
    (hE:∀ l0,E.r=some l0→Inr l0 E.w0 E.o0) (hg:V.ev gx=some (.func (.func gf) #[] caps.toArray)) (hcall:∀ args w,(callFunc gf args).run E.P w = .ok (.enter gf args) w)
    (hps:∀ x,(enc x).length=ps.length) (hpn:(ps.all fun p=>Nat.blt p E.n)=true) (hn:is.Nodup) (hG:Picks is H (Hs s0 g0)) (hF:∀ x,∀ h∈Fs x,Free h)
    (hround:∀ l s x s',step s x=some s'→∀ g w0 o0 (L:Act→World→Prop),Inr l w0 o0→
      (∀ V1 H1,(∀ w1 o1,Inr l w1 o1→Run (EnvR E.P E.n w1 o1 l (Hs s') none []) body [] V1 H1)→∀ a w,Rel (EnvA E.P E.n w0 o0 l) V1 H1 a w→L a w)→Run (EnvA E.P E.n w0 o0 l) assign [.loop L] (VF.sets (ps.zip (enc x)) V) (Hs s g++Fs x))
    (hit:∀ (l:Nat) (A:S→HA),(∀ s x s',step s x=some s'→YG E.P l (enc x) (A s) (Fs x) (A s'))→
      Meets E.P gf (.func (.yield l) #[] #[]::caps) (A s0::Hc) (fun v G=>v = .tuple #[]∧∃ r,Q r∧G=A r::Gr))
    (hsh:z4H (zX (is.map fun i=>(i,2)) H) sh Hc) (hok:okX ((H.length,2)::sh)=true) (hst:(sh.all fun s=>s.2 != 1)=true)
    (hgo:∀ r,Q r→∀ g,Goes E k V (zX sh (zX (is.map fun i=>(i,2)) H)++Gr++Hs r g)) (hnd:E.r=none→E.nd=false) :
    Run E (.rangeFunc gx ps.toArray assign body) k V H:=by
  intro a w rel
  have hag:=rel.2.2.1.ev hg
  refine wpIn_rangeFunc ?_
  intro fn _
  obtain ⟨hz,hd,ha,o,hb,ht,hs⟩:=rel
  obtain ⟨H1,hH1⟩ : ∃ H1,zX (is.map fun i=>(i,2)) H=H1:=⟨_,rfl⟩
  rw [hH1] at hsh hgo
  have hlen1:H1.length=H.length:=by rw [← hH1]; exact z4t _ _
  have hent:∃ l ms W1 D,(Instr.enterLoop fn a.tmps ps.toArray assign body E.r).run E.P w = .ok (l,ms) W1∧w.heap.size≤l∧W1.heap.size=l+1∧W1.heap[l]? = some (.loop (recOf fn a.tmps ps.toArray assign body D .ready none))∧
      (∀ b,b<w.heap.size→W1.heap[b]? = w.heap[b]?)∧(W1.os=w.os∧W1.tape=w.tape∧W1.output=w.output)∧
      (∀ d∈ms,∃ D',d = { target:=.collected D',args:=#[] }∧w.heap.size≤D'∧D'<l∧W1.heap[D']? = some (.deferred (some [])))∧ms.Nodup∧(E.nd=true→ms=[]):=by
    cases hr:E.r with
    | none =>
      obtain ⟨W1,hW1⟩ : ∃ W1,(w.alloc (.deferred (some []))).alloc (.loop (recOf fn a.tmps ps.toArray assign body w.heap.size .ready none))=W1:=⟨_,rfl⟩
      refine ⟨w.heap.size+1,[{ target:=.collected w.heap.size,args:=#[] }],W1,w.heap.size,?_,by omega,by rw [← hW1]; simp,?_,fun b hb=>?_,?_,fun d hd=>?_,by simp,fun h=>by rw [hnd hr] at h; cases h⟩
      · rw [← hW1]; exact run_enterLoop_outer _ _ _ _ _
      · rw [← hW1]; have:=World.alloc_heap_new (w.alloc (.deferred (some []))) (.loop (recOf fn a.tmps ps.toArray assign body w.heap.size .ready none)); rwa [World.size_alloc] at this
      · rw [← hW1]; exact (z7o _ _ _ (by simp; omega)).trans (z7o _ _ _ hb)
      · rw [← hW1]; exact ⟨rfl,rfl,rfl⟩
      · obtain rfl:=List.mem_singleton.1 hd
        exact ⟨_,rfl,Nat.le_refl _,by omega,by rw [← hW1]; exact (z7o _ _ _ (by simp)).trans (World.alloc_heap_new w _)⟩
    | some l0 =>
      obtain ⟨q1,q2,r0,q3⟩:=hE l0 hr
      have q4:=(ht.tr.far l0 q2 q1).2.trans q3
      obtain ⟨W1,hW1⟩ : ∃ W1,w.alloc (.loop (recOf fn a.tmps ps.toArray assign body r0.defers .ready none))=W1:=⟨_,rfl⟩
      refine ⟨w.heap.size,[],W1,r0.defers,?_,by omega,by rw [← hW1]; simp,?_,fun b hb=>?_,?_,fun d hd=>by simp at hd,by simp,fun _=>rfl⟩
      · rw [← hW1]; exact run_enterLoop_inner q4 _ _ _ _ _
      · rw [← hW1]; exact World.alloc_heap_new w _
      · rw [← hW1]; exact z7o _ _ _ hb
      · rw [← hW1]; exact ⟨rfl,rfl,rfl⟩
  obtain ⟨l,ms,W1,D,henter,hlge,hsize,hL1,hO1,⟨hos,htp,hot⟩,hms,hmn,hm0⟩:=hent
  obtain ⟨rc,hrc⟩ : ∃ rc,recOf fn a.tmps ps.toArray assign body D=rc:=⟨_,rfl⟩
  rw [hrc] at hL1
  refine ⟨l,ms,W1,{ target:=.fn (.func gf) caps.toArray,args:=#[.func (.yield l) #[] #[]] },W1,gf,(.func (.yield l) #[] #[]::caps).toArray,W1,henter,?_,fun _ _=>trivial,?_,(fun h=>nomatch h),?_⟩
  · simp only [resolve,hag]
    simp [go_sem]
  · simp [invoke,go_sem,hcall]
  · -- who owns what while the function runs
    obtain ⟨o1,ho1⟩ : ∃ o1:Own,(fun b=>if b=l then .mine H.length else if w.heap.size≤b∧b<l then .far else (match o b with | .mine j=>if j∈is then .mine H.length else .mine j | x=>x))=o1:=⟨_,rfl⟩
    obtain ⟨op0,hop0⟩ : ∃ op0:Own,(fun b=>if b=l then .mine 0 else if w.heap.size≤b∧b<l then .far else (match o b with | .mine j=>if j∈is then .mine (is.idxOf j+1) else .far | x=>x))=op0:=⟨_,rfl⟩
    have o1l:o1 l = .mine H.length:=by rw [← ho1]; simp
    have o1D:∀ b,w.heap.size≤b→b<l→o1 b = .far:=fun b h1 h2=>by
      have h3:¬ b=l:=by omega
      rw [← ho1]; simp only [h3,if_false]; rw [if_pos ⟨h1,h2⟩]
    have o1o:∀ b,b<w.heap.size→o1 b=(match o b with | .mine j=>if j∈is then .mine H.length else .mine j | x=>x):=fun b hb=>by
      have h2:¬ b=l:=by omega
      have h1:¬ (w.heap.size≤b∧b<l):=by omega
      rw [← ho1]; simp only [h2,if_false]; rw [if_neg h1]
    have op0o:∀ b,b<w.heap.size→op0 b=(match o b with | .mine j=>if j∈is then .mine (is.idxOf j+1) else .far | x=>x):=fun b hb=>by
      have h2:¬ b=l:=by omega
      have h1:¬ (w.heap.size≤b∧b<l):=by omega
      rw [← hop0]; simp only [h2,if_false]; rw [if_neg h1]
    have op0l:op0 l = .mine 0:=by rw [← hop0]; simp
    have op0D:∀ b,w.heap.size≤b→b<l→op0 b = .far:=fun b h1 h2=>by
      have h3:¬ b=l:=by omega
      rw [← hop0]; simp only [h3,if_false]; rw [if_pos ⟨h1,h2⟩]
    have hb1:Bnd W1 o1:=fun b hb'=>by
      have h2:¬ b=l:=by omega
      have h1:¬ (w.heap.size≤b∧b<l):=by omega
      rw [← ho1]; simp only [h2,if_false]; rw [if_neg h1,hb b (by omega)]
    have hbp0:Bnd W1 op0:=fun b hb'=>by
      have h2:¬ b=l:=by omega
      have h1:¬ (w.heap.size≤b∧b<l):=by omega
      rw [← hop0]; simp only [h2,if_false]; rw [if_neg h1,hb b (by omega)]
    have ht1:Tr w o W1 o1:=⟨hos,htp,hot,by omega,
      fun b hlt ho=>⟨by rw [o1o b hlt,ho],hO1 b hlt⟩,fun b hlt ho=>⟨by rw [o1o b hlt,ho],hO1 b hlt⟩⟩
    obtain ⟨A,hA⟩ : ∃ A,(fun s=>zbK l (rc .ready none) (Hs s))=A:=⟨_,rfl⟩
    have hA0:(A s0).p W1 o1 H.length:=by
      rw [← hA]
      refine ⟨g0,op0,hbp0,?_,?_,?_⟩
      · intro i h hi
        cases i with
        | zero=>simp at hi; subst hi; exact ⟨op0l,by omega,hL1⟩
        | succ i =>
          obtain ⟨q,hq,hHq⟩:=Picks.get hG i h (by simpa using hi)
          have hm:q∈is:=List.mem_of_getElem? hq
          obtain ⟨hlt,he⟩:=List.getElem?_eq_some_iff.1 hq
          have hidx:is.idxOf q=i:=by subst he; exact hn.idxOf_getElem i hlt
          exact h.keep (w:=w) (o:=o) (k:=q) (by omega) (fun b hlt ho=>⟨by rw [op0o b hlt,ho]; simp [hm,hidx],hO1 b hlt⟩) (fun b hlt ho=>⟨by rw [op0o b hlt,ho],hO1 b hlt⟩) (hs q h hHq)
      · intro b j ho
        by_cases h1:b=l
        · subst h1; exact ⟨o1l,by omega⟩
        · by_cases h2:w.heap.size≤b∧b<l
          · rw [op0D b h2.1 h2.2] at ho; cases ho
          · by_cases h3:b<w.heap.size
            · rw [op0o b h3] at ho
              rw [o1o b h3]
              cases h4:o b with
              | no=>simp [h4] at ho
              | far=>simp [h4] at ho
              | mine q =>
                simp only [h4] at ho
                split at ho
                · rename_i hm; exact ⟨by simp [hm],by omega⟩
                · cases ho
            · rw [hbp0 b (by omega)] at ho; cases ho
      · intro b hlt ho
        by_cases h1:b=l
        · subst h1; rw [op0l] at ho; cases ho
        · by_cases h2:w.heap.size≤b∧b<l
          · rw [op0D b h2.1 h2.2] at ho; cases ho
          · have h3:b<w.heap.size:=by omega
            rw [op0o b h3] at ho
            rw [o1o b h3]
            cases h4:o b with
            | no=>rfl
            | far=>simp [h4] at ho
            | mine q =>
              simp only [h4] at ho
              split at ho <;> cases ho
    have hs1:Sats W1 o1 (H1++[A s0]):=by
      refine zcz ?_ (by rw [hlen1]; exact hA0)
      intro j h hj
      rcases z7a (is.map fun i=>(i,2)) H j h (by rw [hH1]; exact hj) with rfl | ⟨h1,h2⟩
      · trivial
      · have hj' : j ∉ is:=fun hm=>h2 (j,2) (List.mem_map.2 ⟨j,hm,rfl⟩) rfl rfl
        exact h.keep (w:=w) (o:=o) (k:=j) (by omega) (fun b hlt ho=>⟨by rw [o1o b hlt,ho]; simp [hj'],hO1 b hlt⟩) (fun b hlt ho=>⟨by rw [o1o b hlt,ho],hO1 b hlt⟩) (hs j h h1)
    -- the function's contract
    have hM:=hit l A (fun s x s' hst'=>by
      rw [← hA,← hrc]
      refine zbM enc (fun x=>VF.sets (ps.zip (enc x)) V) hz (fun x=>by simp [hps]) hF (fun x=>?_) (hround l) s x s' hst'
      have:=z9x ps (enc x) V a.tmps hz hpn ha
      rw [← Array.foldl_toList]
      simpa using this)
    have hshX:z4H (H1++[A s0]) ((H.length,2)::sh) (A s0::Hc):=by
      refine z4E H.length (by rw [← hlen1]; simp) ⟨hsh.1,fun j m mode x hj hx=>?_⟩
      obtain ⟨h',e1,e2⟩:=hsh.2 j m mode x hj hx
      exact ⟨h',by rw [List.getElem?_append_left (List.getElem?_eq_some_iff.1 e1).1]; exact e1,e2⟩
    have hop:=z9Q (P:=E.P) (V:=fun _=>none) (d:=none) (ty:=0) (pos:= "") (af:=#[]) (g:=none) (fx:=.const (.func (.func gf) #[] caps.toArray)) (xs:=#[.const (.func (.yield l) #[] #[])]) (Ts:=#[]) (vs:=[.func (.yield l) #[] #[]]) (cs:=caps)
      ((H.length,2)::sh) rfl hcall rfl hM hshX hok (.inl (by simpa using hst)) a.eval W1 o1 (fun x v hx=>Agree.ev (V:=fun _=>none) (a:=a) (fun t v h=>by cases h) hx) hb1 hs1
    unfold Does at hop
    rw [show (execOp a.eval ⟨none,.call ⟨.value (.const (.func (.func gf) #[] caps.toArray)),#[.const (.func (.yield l) #[] #[])],#[]⟩,0,"",#[],none⟩).run E.P W1 = .ok (.enter gf (.func (.yield l) #[] #[]::caps).toArray) W1 by
      simp [execOp,resolve,invoke,Deferred.ofValue,Act.eval,hcall]] at hop
    refine CallsIn.mono (F:=FR none) (callsIn_wide.2 hop) ?_
    rintro e w2 ⟨v,rfl,H',o2,⟨G,⟨_,r,hq,rfl⟩,rfl⟩,hb2,ht2,hs2⟩
    have hout:zX ((H.length,2)::sh) (H1++[A s0])=zX sh H1++[HA.emp]:=by
      rw [← z8i]
      unfold zX
      rw [List.foldl_cons]
      congr 1
      simp [← hlen1]
    rw [hout] at hs2
    have hlen2:(zX sh H1).length=H.length:=(z4t _ _).trans hlen1
    -- behind the function
    have key:∀ (s:S) (g:G) (st:LoopState) (pe:Option Code) (op:Own),st≠.busy→Bnd w2 op→Sats w2 op (zii l (rc st pe)::Hs s g)→(∀ b j,op b = .mine j→o2 b = .mine (H.length+1)∧b<w2.heap.size)→(∀ b,b<w2.heap.size→op b = .no→o2 b = .no)→
        ∃ w4,(Instr.endLoop l).run E.P w2 = .ok pe w4∧Rel E V (zX sh H1++Gr++Hs s g) { a with defers:=ms++a.defers } w4:=by
      intro s g st pe op hst' hbp hsp hmp hnp
      obtain ⟨hp1,hp2,hp3⟩:=hsp 0 _ rfl
      have hst'' : (rc st pe).state≠.busy:=by rw [← hrc]; exact hst'
      have hpe:(rc st pe).pending=pe:=by rw [← hrc]; rfl
      obtain ⟨ob,hend⟩ : ∃ ob,(Instr.endLoop l).run E.P w2 = .ok pe (w2.putObj l ob):=by
        have h:=run_endLoop (P:=E.P) hp3 hst''
        rw [hpe] at h
        exact ⟨_,h⟩
      refine ⟨_,hend,?_⟩
      obtain ⟨w4,hw4⟩ : ∃ w4,w2.putObj l ob=w4:=⟨_,rfl⟩
      rw [hw4]
      have hsz4:w4.heap.size=w2.heap.size:=by rw [← hw4]; exact World.putObj_size
      have hot4:∀ b,b≠l→w4.heap[b]? = w2.heap[b]?:=fun b hb=>by rw [← hw4]; exact World.putObj_heap_other hb
      have hl2:o2 l = .mine (H.length+1):=(hmp l 0 hp1).1
      obtain ⟨o4,ho4⟩ : ∃ o4:Own,(fun b=>match o2 b with
        | .mine j=>if j=H.length+1 then (match op b with | .mine (q+1)=>.mine (H.length+Gr.length+q) | _=>.far) else if j<H.length then .mine j else .mine (j - 2)
        | x=>x)=o4:=⟨_,rfl⟩
      have o4n:∀ b,o2 b = .no→o4 b = .no:=fun b h=>by rw [← ho4]; simp [h]
      have o4f:∀ b,o2 b = .far→o4 b = .far:=fun b h=>by rw [← ho4]; simp [h]
      have hnl:∀ b j,o2 b = .mine j→j≠H.length+1→b≠l:=by rintro b j h1 h2 rfl; rw [hl2] at h1; cases h1; exact h2 rfl
      have hnn:∀ b,o2 b = .no→b≠l:=by rintro b h1 rfl; rw [hl2] at h1; cases h1
      have hnf:∀ b,o2 b = .far→b≠l:=by rintro b h1 rfl; rw [hl2] at h1; cases h1
      have ht4:Tr w2 o2 w4 o4:=⟨by rw [← hw4]; rfl,by rw [← hw4]; rfl,by rw [← hw4]; rfl,by omega,fun b _ ho=>⟨o4n b ho,hot4 b (hnn b ho)⟩,fun b _ ho=>⟨o4f b ho,hot4 b (hnf b ho)⟩⟩
      have hall:Tr w o w4 o4:=(ht1.trans ht2).trans ht4
      obtain ⟨ms0,ems,ht⟩:=ht
      refine ⟨hz,(fun h=>by rw [hm0 h]; exact hd h),ha,o4,?_,⟨ms++ms0,by rw [ems]; simp,ht.tr.trans hall,?_,?_⟩,?_⟩
      · intro b hb'; exact o4n b (hb2 b (by omega))
      · intro d hd'
        rcases List.mem_append.1 hd' with hd' | hd'
        · obtain ⟨D',e',h1,h2,h3⟩:=hms d hd'
          obtain ⟨hf1,hh1⟩:=(ht2.trans ht4).far D' (by omega) (o1D D' h1 h2)
          exact ⟨D',e',by have:=ht.tr.size; omega,by have:=ht2.size; omega,hf1,hh1.trans h3⟩
        · exact (ht.mks.trans hall).1 d hd'
      · refine List.nodup_append.2 ⟨hmn,ht.mks.2,fun d h1 d2 h2 e=>?_⟩
        subst e
        obtain ⟨D',e',h3,_,_⟩:=hms d h1
        obtain ⟨D'',e'',_,h4,_,_⟩:=ht.mks.1 _ h2
        rw [e'] at e''
        simp at e''
        omega
      · intro j h hj
        rw [List.append_assoc,List.getElem?_append] at hj
        split at hj
        · rename_i hlt
          have hlt' : j<H.length:=by omega
          refine h.keep (w:=w2) (o:=o2) (k:=j) (by omega) (fun b _ ho=>?_) (fun b _ ho=>⟨o4n b ho,hot4 b (hnn b ho)⟩) (hs2 j h (by rw [List.append_assoc,List.getElem?_append_left hlt]; exact hj))
          have h1:¬ j=H.length+1:=by omega
          exact ⟨by rw [← ho4]; simp [ho,h1,hlt'],hot4 b (hnl b j ho h1)⟩
        · rename_i hge
          rw [hlen2] at hge hj
          rw [List.getElem?_append] at hj
          split at hj
          · rename_i hlt
            refine h.keep (w:=w2) (o:=o2) (k:=j+2) (by omega) (fun b _ ho=>?_) (fun b _ ho=>⟨o4n b ho,hot4 b (hnn b ho)⟩) (hs2 (j+2) h ?_)
            · have h1:¬ j+2=H.length+1:=by omega
              have h2:¬ j+2<H.length:=by omega
              refine ⟨?_,hot4 b (hnl b _ ho h1)⟩
              rw [← ho4]; simp only [ho,h1,h2,if_false]; simp
            · rw [List.getElem?_append_right (by simp [hlen2]; omega)]
              simp only [List.length_append,hlen2,List.length_singleton]
              rw [show j+2 - (H.length+1)=(j - H.length)+1 by omega,List.getElem?_cons_succ]
              exact hj
          · rename_i hge2
            have hq:(Hs s g)[j - H.length - Gr.length]? = some h:=hj
            refine h.keep (w:=w2) (o:=op) (k:=j - H.length - Gr.length+1) (by omega) (fun b _ ho=>?_) (fun b hlt ho=>?_) (hsp (j - H.length - Gr.length+1) h (by simpa using hq))
            · have hbl:b≠l:=by rintro rfl; rw [hp1] at ho; cases ho
              refine ⟨?_,hot4 b hbl⟩
              rw [← ho4]
              simp only [(hmp b _ ho).1,if_true,ho]
              congr 1
              omega
            · have h2:=hnp b hlt ho
              exact ⟨o4n b h2,hot4 b (hnn b h2)⟩
    have hlast:(zX sh H1++[HA.emp]++(A r::Gr))[H.length+1]? = some (A r):=by
      rw [List.getElem?_append_right (by simp [hlen2])]
      simp [hlen2]
    have hAr:=hs2 (H.length+1) _ hlast
    rw [← hA] at hAr
    obtain ⟨g,op,c1,c2,c3,c4⟩:=hAr
    obtain ⟨w4,e1,e2⟩:=key r g .ready none op (by simp) c1 c2 c3 c4
    exact ⟨none,w4,e1,hgo r hq g _ _ e2⟩
theorem zaR {S X G:Type} {gx:Operand} {gf:FuncId} {caps:List Value} {ps:List Tmp} {assign body:Code} {Hs:S→G→List HA} {step:S→X→Option S} {Fs:X→List HA} (enc:X→List Value)
  (s0:S) (g0:G) (is:List Nat) (sh:List (Nat×Nat)) {Hc Gr:List HA} {r:S}
  (hE:∀ l0,E.r=some l0→Inr l0 E.w0 E.o0) (hg:V.ev gx=some (.func (.func gf) #[] caps.toArray)) (hcall:∀ args w,(callFunc gf args).run E.P w = .ok (.enter gf args) w)
  (hps:∀ x,(enc x).length=ps.length) (hpn:(ps.all fun p=>Nat.blt p E.n)=true) (hn:is.Nodup) (hG:Picks is H (Hs s0 g0)) (hF:∀ x,∀ h∈Fs x,Free h)
  (hround:∀ l s x s',step s x=some s'→∀ g w0 o0 (L:Act→World→Prop),Inr l w0 o0→
   (∀ V1 H1,(∀ w1 o1,Inr l w1 o1→Run (EnvR E.P E.n w1 o1 l (Hs s') none []) body [] V1 H1)→∀ a w,Rel (EnvA E.P E.n w0 o0 l) V1 H1 a w→L a w)→Run (EnvA E.P E.n w0 o0 l) assign [.loop L] (VF.sets (ps.zip (enc x)) V) (Hs s g++Fs x))
  (hit:∀ (l:Nat) (A:S→HA),(∀ s x s',step s x=some s'→YG E.P l (enc x) (A s) (Fs x) (A s'))→
   Meets E.P gf (.func (.yield l) #[] #[]::caps) (A s0::Hc) (fun v G=>v = .tuple #[]∧G=A r::Gr))
  (hsh:z4H (zX (is.map fun i=>(i,2)) H) sh Hc) (hok:okX ((H.length,2)::sh)=true) (hst:(sh.all fun s=>s.2 != 1)=true)
  (hgo:∀ g,Goes E k V (zX sh (zX (is.map fun i=>(i,2)) H)++Gr++Hs r g)) (hnd:E.r=none→E.nd=false) :
  Run E (.rangeFunc gx ps.toArray assign body) k V H:=by
 refine z8L (Q:=fun q=>q=r) (Gr:=Gr) enc s0 g0 is sh (step:=step) (Fs:=Fs) hE hg hcall hps hpn hn hG hF hround (fun l A hy w o hb hs=>(hit l A hy w o hb hs).mono ?_) hsh hok hst ?_ hnd
 ·rintro e w' ⟨v,G,o',e1,⟨h1,h2⟩,h3⟩
  exact ⟨v,G,o',e1,⟨h1,r,rfl,h2⟩,h3⟩
 ·rintro _ rfl g
  exact hgo g
end Go.Abs
